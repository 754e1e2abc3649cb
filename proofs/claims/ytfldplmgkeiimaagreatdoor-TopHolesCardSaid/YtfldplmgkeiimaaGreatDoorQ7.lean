/- Lemmas. -/
import Derived.Test.YtfldplmgkeiimaaGreatDoorQ6
set_option linter.all false
set_option maxRecDepth 100000
set_option maxHeartbeats 25600000
namespace Go.Proofs.YtfldplmgkeiimaaGreatDoor
abbrev kO:=@beq_eq_false_iff_ne
abbrev x0:=@if_false
namespace dE
open Go.RowKit el
abbrev ajw:TypeId:=30
abbrev x1(a b c:Int):Obj:=.cells #[I a,I b,I c] ajw
theorem OB{w:bTo}{k:Nat}{a b c:Int}(h:w.heap[k]?=some (x1 a b c)):aw w k 0 (I a)∧aw w k 1 (I b)∧aw w k 2 (I c)∧w.frozen? ⟨k,0,none⟩=false∧w.frozen? ⟨k,1,none⟩=false∧w.frozen? ⟨k,2,none⟩=false:=by refine⟨?_,?_,?_,?_,?_,?_⟩<;>simp[World.cell?,World.frozen?,h]
def qK(d:Nat→Int)(v:Int):Nat→Int
 |0=>0
 |n+1=>qK d v n+if d n=v then 1 else 0
theorem ER(d:Nat→Int)(v:Int):∀n:Nat,0≤qK d v n∧qK d v n≤n
 |0=>by simp[qK]
 |n+1=>by have:=ER d v n;unfold qK;split<;>omega
theorem Zn(ao ak ar aq:Int)(f:bp→Int)(v:Int):((kX ⟨ao,ak,ar,aq⟩).all (fun p=>decide (f p=v))=true)=(qK (fun k=>f (dV ao ak ar aq k)) v 4=4):=by
 simp only[qK,kX,dV,AG,Hn,Cz,gy,Oq,gH];constructor
 ·rintro⟨aa,ah,ax,bg⟩;simp[aa,ah,ax,bg]
 ·intro h
  repeat' split at h
  all_goals first|(refine⟨?_,?_,?_,?_⟩<;>assumption)|omega
structure nO(S E:Nat→Int)(j:Nat)(eo s0 s1 s2 cJ aN aR:Int):Prop where
 i:i1 (fun k=>decide (S k=0)&&decide (E k=0)) j=eo
 s0:qK S (-1) j=s0
 s1:qK S 0 j=s1
 s2:qK S 1 j=s2
 cJ:qK E (-1) j=cJ
 aN:qK E 0 j=aN
 aR:qK E 1 j=aR
theorem nO.next{S E:Nat→Int}{j:Nat}{eo s0 s1 s2 cJ aN aR s e:Int}(h:nO S E j eo s0 s1 s2 cJ aN aR)(hs:S j=s)(he:E j=e):nO S E (j+1) (eo+if s=0∧e=0 then 1 else 0) (s0+if s= -1 then 1 else 0) (s1+if s=0 then 1 else 0) (s2+if s=1 then 1 else 0) (cJ+if e= -1 then 1 else 0) (aN+if e=0 then 1 else 0) (aR+if e=1 then 1 else 0):=by
 obtain⟨aa,ah,ax,bg,b7,c0,ea⟩:=h;subst hs he;refine⟨?_,?_,?_,?_,?_,?_,?_⟩
 ·rw[←aa];simp only[i1,gy,gH]
 ·rw[←ah];rfl
 ·rw[←ax];rfl
 ·rw[←bg];rfl
 ·rw[←b7];rfl
 ·rw[←c0];rfl
 ·rw[←ea];rfl
theorem ajx(p a c:bp)(h:Int):xC p a c h= -1∨xC p a c h=0∨xC p a c h=1:=by
 unfold xC;split
 ·exact .inr (.inl rfl)
 ·split
  ·exact .inr (.inr rfl)
  ·exact .inl rfl
theorem ajy(p a c:bp):xD p a c= -1∨xD p a c=0∨xD p a c=1:=by
 unfold xD;split
 ·exact .inl rfl
 ·split
  ·exact .inr (.inr rfl)
  ·exact .inr (.inl rfl)
abbrev OC(V:bTo)(G D:Nat)(aA aB cx aP cY cZ:Int)(dt cE:Obj)(Z:bTo):Prop:=
 Z.cell? ⟨G+1,0,none⟩=some (I aA)∧aw Z (G+1) 1 (I aB)∧aw Z (G+1+1) 0 (I cx)∧aw Z (G+1+1) 1 (I aP)∧aw Z D 0 (I cY)∧aw Z D 1 (I cZ)∧J (Z.heap[V.heap.size]?=some dt)∧J (Z.heap[V.heap.size+1]?=some cE)∧av V V Z
theorem Tg{V:bTo}{G D:Nat}{aA aB cx aP cY cZ:Int}{dt cE:Obj}{v Z:bTo}(af:av v v Z)(h:OC V G D aA aB cx aP cY cZ dt cE v):OC V G D aA aB cx aP cY cZ dt cE Z:=by obtain⟨aa,ah,ax,bg,b7,c0,ea,eO,fG⟩:=h;exact⟨bM af aa,bM af ah,bM af ax,bM af bg,bM af b7,bM af c0,U (aO ea.out af),U (aO eO.out af),fG.trans (af.mono fG.size)⟩
theorem ajz(b:bR)(a c:bp)(r:Int)(hx:A0 b)(ha:dw a)(hc:dw c)(hr:1≤r∧r≤536870912)(hne:a≠c)(k:Int)(ab:J (NR b a c r=k))(w:bTo):
  Calls Tryz.prog 251 #[gJ b,fA a,fA c,I r] w fun e w'=>e=bb (I k)∧av w w w':=by
 have cV:=U hx;have tD:=U ha;have A3:=U hc;have br:=U hr;have CP:=U (Td hx.eK hx.er);have ajA:=U (ajr a c r hne hr.1);obtain⟨ao,ak,ar,aq⟩:=b;obtain⟨S,hS⟩:∃S:Nat→Int,(fun k=>xC (dV ao ak ar aq k) a c r)=S:=⟨_,rfl⟩;obtain⟨E,uT⟩:∃S:Nat→Int,(fun k=>xD (dV ao ak ar aq k) a c)=S:=⟨_,rfl⟩;have ajB:J (∀k,xC (dV ao ak ar aq k) a c r=S k):=fun k=>congrFun hS k;have ajC:J (∀k,xD (dV ao ak ar aq k) a c=E k):=fun k=>congrFun uT k;have cT:J ((if i1 (fun k=>decide (S k=0)&&decide (E k=0)) 4=4 then (2:Int) else if qK S (-1) 4=4∨qK S 1 4=4∨qK E (-1) 4=4∨qK E 1 4=4 then 0 else 1)=k):=by show _=_;rw[←ab.out,←hS,←uT];unfold NR;simp only[Oz,Zn ao ak ar aq (fun p=>xC p a c r),Zn ao ak ar aq (fun p=>xD p a c)];rfl
 have Th:J (∀k,S k= -1∨S k=0∨S k=1):=fun k=>by rw[←hS];exact ajx _ _ _ _
 have jR:J (∀k,E k= -1∨E k=0∨E k=1):=fun k=>by rw[←uT];exact ajy _ _ _
 obtain⟨aA,aB⟩:=a;obtain⟨cx,aP⟩:=c;clear ab hx ha hc hr hne hS uT;go_enter Tryz.func251,Tryz.ntmps251;go_upto_region 1 with fail;obtain⟨W,a6⟩:=az (((w.alloc (cH ⟨ao,ak,ar,aq⟩)).alloc (dB (aA,aB))).alloc (dB (cx,aP)));obtain⟨t1,t2,t3,t4,t5⟩:=rb a6;have aH:=U t1;have b8:=U t2;have bq:=U t3;have dC:=U t4;rw[a6];clear a6 t1 t2 t3 t4 t5;obtain⟨a0,a'⟩:=eP b8.out;obtain⟨aJ,aI⟩:=eP bq.out;simp only at a0 a' aJ aI;go_wp2_with fail;go_fit (ajA.out _);rintro e ajD ⟨rfl,af⟩;have h0:=U (aO aH.out af);have oP:=U (aO b8.out af);have lq:=U (aO bq.out af);have KA:J (av w w ajD):=dC.out.trans (af.mono dC.out.size);clear a0 a' aJ aI af aH b8 bq dC;obtain⟨bX,b3,bc,ev⟩:=fD h0.out;go_wp2_with fail;go_fit (Kl ⟨ao,ak,ar,aq⟩ (ao,ak) true (U (Ko ao ak ar aq cV.out.e)) _);rintro e V ⟨rfl,af⟩;have cm:=U (aO h0.out af);have gf:=U (aO oP.out af);have ji:=U (aO lq.out af);have zC:J (av w w V):=KA.out.trans (af.mono KA.out.size);clear bX b3 bc ev af h0 oP lq KA;obtain⟨bX,b3,bc,ev⟩:=fD cm.out;go_upto_region 7 with fail;obtain⟨oQ,CT⟩:=az ((V.alloc (x1 0 0 0)).alloc (x1 0 0 0));have CU:J (oQ.heap[V.heap.size]?=some (x1 0 0 0)):=by show _=_;rw[←CT];exact aO (cw _ _) (ba _ _)
 have Zo:J (oQ.heap[V.heap.size+1]?=some (x1 0 0 0)):=by show _=_;rw[←CT];exact ry _ _ _
 have OD:J (av V V oQ):=by show Below _ _ _;rw[←CT];exact k5 _ _ _
 have Zp:(V.alloc (aD (#[I 0,I 0,I 0]) 30)).alloc (.cells #[I 0,I 0,I 0] 30)=oQ:=CT;rw[Zp];clear CT Zp bX b3 bc ev;obtain⟨bX,b3,bc,ev⟩:=fD (aO cm.out OD.out);go_wp2_with fail;go_fit (Og ⟨ao,ak,ar,aq⟩ _);rintro e hG ⟨rfl,af⟩;have pv:=U (aO CU.out af);have uB:=U (aO Zo.out af);have KB:J (av V V hG):=OD.out.trans (af.mono OD.out.size);clear bX b3 bc ev af CU Zo OD;go_wp2_with fail
 go_loopw [9,30] (fun rz i wr=>∃(j:Nat) (eo s0 s1 s2 cJ aN aR:Int) (aG:bTo),aG=wr∧j≤4∧J (nO S E j eo s0 s1 s2 cJ aN aR)∧rz=I eo∧i=I j∧J (aG.heap[V.heap.size]?=some (x1 s0 s1 s2))∧J (aG.heap[V.heap.size+1]?=some (x1 cJ aN aR))∧J (av V V aG)) (fun _ i _=>4 -(intOf i).toNat)
 case atStart=>exact⟨0,0,0,0,0,0,0,0,_,rfl,by decide,⟨rfl,rfl,rfl,rfl,rfl,rfl,rfl⟩,rfl,rfl,pv.out,uB.out,KB.out⟩
 case round=>
 obtain⟨j,eo,s0,s1,s2,cJ,aN,aR,aG,rfl,cB,bB,rfl,rfl,A4,A5,cq⟩:=hrel;obtain⟨a0,a'⟩:=eP (aO gf.out cq.out);obtain⟨aJ,aI⟩:=eP (aO ji.out cq.out);simp only at a0 a' aJ aI;have dK:=lt_of_heap (aO gf.out cq.out);have e':=lt_of_heap (aO ji.out cq.out);by_cases b0:j<4
 ·have ib:(j:Int)<4:=(by omega);obtain⟨cY,cZ,rB⟩:∃cY cZ,dV ao ak ar aq j=(cY,cZ):=⟨_,_,rfl⟩;have oh:∀w,(Instr.index 394 (AX ⟨ao,ak,ar,aq⟩) (I (j:Int))).run Tryz.prog w=.ok (.agg #[I cY,I cZ]) w:=(fun w=>by rw[EH ao ak ar aq j b0 w,rB]);obtain⟨s,hs⟩:=az (S j);obtain⟨e,he⟩:=az (E j);have qf:dw (cY,cZ):=(by rw[←rB];exact CP.out j);have OA:=U (ajv (cY,cZ) (aA,aB) (cx,aP) r qf tD.out A3.out br.out s (U (by rw[←rB];exact (ajB.out j).trans hs)));have ajE:=U (aju (cY,cZ) (aA,aB) (cx,aP) qf tD.out A3.out e (U (by rw[←rB];exact (ajC.out j).trans he)));have tF:=U hs;have A6:=U he;have hj:=Th.out j;have Ti:=jR.out j;rw[hs] at hj;rw[he] at Ti;have KC:=U (And.intro hj Ti);have ES:=Zl (fun k=>decide (S k=0)&&decide (E k=0)) j;have OE:=ER S (-1) j;have k7:=ER S 0 j;have mg:=ER S 1 j;have A7:=ER E (-1) j;have qF:=ER E 0 j;have pj:=ER E 1 j;rw[bB.out.i] at ES;rw[bB.out.s0] at OE;rw[bB.out.s1] at k7;rw[bB.out.s2] at mg;rw[bB.out.cJ] at A7;rw[bB.out.aN] at qF;rw[bB.out.aR] at pj;have avG:bT (eo+1)=eo+1:=b4 _ (by omega);have avH:bT (s0+1)=s0+1:=b4 _ (by omega);have avI:bT (s1+1)=s1+1:=b4 _ (by omega);have avJ:bT (s2+1)=s2+1:=b4 _ (by omega);have avK:bT (cJ+1)=cJ+1:=b4 _ (by omega);have avL:bT (aN+1)=aN+1:=b4 _ (by omega);have avM:bT (aR+1)=aR+1:=b4 _ (by omega);have ajF:bT ((j:Int)+1)=(j:Int)+1:=b4 _ (by omega);clear hs he rB qf hj Ti ES OE k7 mg A7 qF pj;go_upto_region 10 with fail;have cI:J (OC V w.heap.size aG.heap.size aA aB cx aP cY cZ (x1 s0 s1 s2) (x1 cJ aN aR) (aG.alloc (dB (cY,cZ)))):=(by obtain⟨ak,aq,_,_⟩:=Es (cw aG (dB (cY,cZ)));have af:=ba aG (dB (cY,cZ));exact⟨bM af a0,bM af a',bM af aJ,bM af aI,ak,aq,U (aO A4.out af),U (aO A5.out af),cq.out.trans (af.mono cq.out.size)⟩);have ih:aG.alloc (.cells #[I cY,I cZ] 71)=aG.alloc (dB (cY,cZ)):=rfl;rw[ih];clear ih A4 A5 cq a0 a' aJ aI oh;generalize aG.alloc (dB (cY,cZ))=Y at cI⊢;generalize aG.heap.size=D at cI⊢;have ht:=U (Tg (Below.refl _ _).drew cI.out)
  go_region_held3 (fun Z=>OC V w.heap.size D aA aB cx aP cY cZ (x1 s0 s1 s2) (x1 cJ aN aR) Z) (first|with_reducible exact cI.out|with_reducible exact ht.out|with_reducible exact Tg (by assumption) (by assumption)|with_reducible exact Tg (Below.refl _ _).drew (by assumption)|assumption|fail) (first|(go_at_call 279;go_fit (OA.out _);rintro e bt ⟨rfl,dT⟩)|(go_at_call 280;go_fit (ajE.out _);rintro e bt ⟨rfl,dT⟩)|fail)
  rename_i hHeld;obtain⟨_,_,_,_,_,_,uU,mB,A8⟩:=hHeld;have A9:=U A8;clear A8;have HF:=KC.out;obtain⟨f0,f1,f2,HG,ij,gV⟩:=OB uU.out;obtain⟨g0,g1,g2,m0,m1,m2⟩:=OB mB.out;have avN:V.heap.size≠V.heap.size+1:=(by omega);have avO:V.heap.size+1≠V.heap.size:=(by omega);rcases HF with ⟨rfl|rfl|rfl,rfl|rfl|rfl⟩
  ·have a1:J (nO S E (j+1) eo (s0+1) s1 s2 (cJ+1) aN aR):=(by have h:=bB.out.next tF.out A6.out;show nO _ _ _ _ _ _ _ _ _ _;simpa using h);have cU:=c4 (k:=V.heap.size) (i:=0) (I (s0+1)) uU.out;have cW:=c4 (k:=V.heap.size+1) (i:=0) (I (cJ+1)) ((jZ bt (ag V.heap.size 0) (I (s0+1)) (V.heap.size+1) (by simp)).trans mB.out);have oP:=U cU;have gf:=U cW;clear cU cW;go_wp2_with fail;go_round<;>first|exact⟨j+1,eo,s0+1,s1,s2,cJ+1,aN,aR,_,rfl,by omega,a1.out,rfl,by go_num,(jZ _ (ag (V.heap.size+1) 0) _ _ (by simp)).trans oP.out,gf.out,(A9.out.setCell (by simp) _).setCell (by simp) _⟩|(simp[intOf]<;>omega)
  ·have a1:J (nO S E (j+1) eo (s0+1) s1 s2 cJ (aN+1) aR):=(by have h:=bB.out.next tF.out A6.out;show nO _ _ _ _ _ _ _ _ _ _;simpa using h);have cU:=c4 (k:=V.heap.size) (i:=0) (I (s0+1)) uU.out;have cW:=c4 (k:=V.heap.size+1) (i:=1) (I (aN+1)) ((jZ bt (ag V.heap.size 0) (I (s0+1)) (V.heap.size+1) (by simp)).trans mB.out);have oP:=U cU;have gf:=U cW;clear cU cW;go_wp2_with fail;go_round<;>first|exact⟨j+1,eo,s0+1,s1,s2,cJ,aN+1,aR,_,rfl,by omega,a1.out,rfl,by go_num,(jZ _ (ag (V.heap.size+1) 1) _ _ (by simp)).trans oP.out,gf.out,(A9.out.setCell (by simp) _).setCell (by simp) _⟩|(simp[intOf]<;>omega)
  ·have a1:J (nO S E (j+1) eo (s0+1) s1 s2 cJ aN (aR+1)):=(by have h:=bB.out.next tF.out A6.out;show nO _ _ _ _ _ _ _ _ _ _;simpa using h);have cU:=c4 (k:=V.heap.size) (i:=0) (I (s0+1)) uU.out;have cW:=c4 (k:=V.heap.size+1) (i:=2) (I (aR+1)) ((jZ bt (ag V.heap.size 0) (I (s0+1)) (V.heap.size+1) (by simp)).trans mB.out);have oP:=U cU;have gf:=U cW;clear cU cW;go_wp2_with fail;go_round<;>first|exact⟨j+1,eo,s0+1,s1,s2,cJ,aN,aR+1,_,rfl,by omega,a1.out,rfl,by go_num,(jZ _ (ag (V.heap.size+1) 2) _ _ (by simp)).trans oP.out,gf.out,(A9.out.setCell (by simp) _).setCell (by simp) _⟩|(simp[intOf]<;>omega)
  ·have a1:J (nO S E (j+1) eo s0 (s1+1) s2 (cJ+1) aN aR):=(by have h:=bB.out.next tF.out A6.out;show nO _ _ _ _ _ _ _ _ _ _;simpa using h);have cU:=c4 (k:=V.heap.size) (i:=1) (I (s1+1)) uU.out;have cW:=c4 (k:=V.heap.size+1) (i:=0) (I (cJ+1)) ((jZ bt (ag V.heap.size 1) (I (s1+1)) (V.heap.size+1) (by simp)).trans mB.out);have oP:=U cU;have gf:=U cW;clear cU cW;go_wp2_with fail;go_round<;>first|exact⟨j+1,eo,s0,s1+1,s2,cJ+1,aN,aR,_,rfl,by omega,a1.out,rfl,by go_num,(jZ _ (ag (V.heap.size+1) 0) _ _ (by simp)).trans oP.out,gf.out,(A9.out.setCell (by simp) _).setCell (by simp) _⟩|(simp[intOf]<;>omega)
  ·have a1:J (nO S E (j+1) (eo+1) s0 (s1+1) s2 cJ (aN+1) aR):=(by have h:=bB.out.next tF.out A6.out;show nO _ _ _ _ _ _ _ _ _ _;simpa using h);have cU:=c4 (k:=V.heap.size) (i:=1) (I (s1+1)) uU.out;have cW:=c4 (k:=V.heap.size+1) (i:=1) (I (aN+1)) ((jZ bt (ag V.heap.size 1) (I (s1+1)) (V.heap.size+1) (by simp)).trans mB.out);have oP:=U cU;have gf:=U cW;clear cU cW;go_wp2_with fail;go_round<;>first|exact⟨j+1,eo+1,s0,s1+1,s2,cJ,aN+1,aR,_,rfl,by omega,a1.out,rfl,by go_num,(jZ _ (ag (V.heap.size+1) 1) _ _ (by simp)).trans oP.out,gf.out,(A9.out.setCell (by simp) _).setCell (by simp) _⟩|(simp[intOf]<;>omega)
  ·have a1:J (nO S E (j+1) eo s0 (s1+1) s2 cJ aN (aR+1)):=(by have h:=bB.out.next tF.out A6.out;show nO _ _ _ _ _ _ _ _ _ _;simpa using h);have cU:=c4 (k:=V.heap.size) (i:=1) (I (s1+1)) uU.out;have cW:=c4 (k:=V.heap.size+1) (i:=2) (I (aR+1)) ((jZ bt (ag V.heap.size 1) (I (s1+1)) (V.heap.size+1) (by simp)).trans mB.out);have oP:=U cU;have gf:=U cW;clear cU cW;go_wp2_with fail;go_round<;>first|exact⟨j+1,eo,s0,s1+1,s2,cJ,aN,aR+1,_,rfl,by omega,a1.out,rfl,by go_num,(jZ _ (ag (V.heap.size+1) 2) _ _ (by simp)).trans oP.out,gf.out,(A9.out.setCell (by simp) _).setCell (by simp) _⟩|(simp[intOf]<;>omega)
  ·have a1:J (nO S E (j+1) eo s0 s1 (s2+1) (cJ+1) aN aR):=(by have h:=bB.out.next tF.out A6.out;show nO _ _ _ _ _ _ _ _ _ _;simpa using h);have cU:=c4 (k:=V.heap.size) (i:=2) (I (s2+1)) uU.out;have cW:=c4 (k:=V.heap.size+1) (i:=0) (I (cJ+1)) ((jZ bt (ag V.heap.size 2) (I (s2+1)) (V.heap.size+1) (by simp)).trans mB.out);have oP:=U cU;have gf:=U cW;clear cU cW;go_wp2_with fail;go_round<;>first|exact⟨j+1,eo,s0,s1,s2+1,cJ+1,aN,aR,_,rfl,by omega,a1.out,rfl,by go_num,(jZ _ (ag (V.heap.size+1) 0) _ _ (by simp)).trans oP.out,gf.out,(A9.out.setCell (by simp) _).setCell (by simp) _⟩|(simp[intOf]<;>omega)
  ·have a1:J (nO S E (j+1) eo s0 s1 (s2+1) cJ (aN+1) aR):=(by have h:=bB.out.next tF.out A6.out;show nO _ _ _ _ _ _ _ _ _ _;simpa using h);have cU:=c4 (k:=V.heap.size) (i:=2) (I (s2+1)) uU.out;have cW:=c4 (k:=V.heap.size+1) (i:=1) (I (aN+1)) ((jZ bt (ag V.heap.size 2) (I (s2+1)) (V.heap.size+1) (by simp)).trans mB.out);have oP:=U cU;have gf:=U cW;clear cU cW;go_wp2_with fail;go_round<;>first|exact⟨j+1,eo,s0,s1,s2+1,cJ,aN+1,aR,_,rfl,by omega,a1.out,rfl,by go_num,(jZ _ (ag (V.heap.size+1) 1) _ _ (by simp)).trans oP.out,gf.out,(A9.out.setCell (by simp) _).setCell (by simp) _⟩|(simp[intOf]<;>omega)
  ·have a1:J (nO S E (j+1) eo s0 s1 (s2+1) cJ aN (aR+1)):=(by have h:=bB.out.next tF.out A6.out;show nO _ _ _ _ _ _ _ _ _ _;simpa using h);have cU:=c4 (k:=V.heap.size) (i:=2) (I (s2+1)) uU.out;have cW:=c4 (k:=V.heap.size+1) (i:=2) (I (aR+1)) ((jZ bt (ag V.heap.size 2) (I (s2+1)) (V.heap.size+1) (by simp)).trans mB.out);have oP:=U cU;have gf:=U cW;clear cU cW;go_wp2_with fail;go_round<;>first|exact⟨j+1,eo,s0,s1,s2+1,cJ,aN,aR+1,_,rfl,by omega,a1.out,rfl,by go_num,(jZ _ (ag (V.heap.size+1) 2) _ _ (by simp)).trans oP.out,gf.out,(A9.out.setCell (by simp) _).setCell (by simp) _⟩|(simp[intOf]<;>omega)
 ·obtain rfl:j=4:=(by omega);have hg:J ((if eo=4 then (2:Int) else if s0=4∨s2=4∨cJ=4∨aR=4 then 0 else 1)=k):=(by show _=_;rw[←bB.out.i,←bB.out.s0,←bB.out.s2,←bB.out.cJ,←bB.out.aR];exact cT.out);have tE:J (av w w aG):=zC.out.trans (cq.out.mono zC.out.size);obtain⟨f0,f1,f2,_,_,_⟩:=OB A4.out;obtain⟨g0,g1,g2,_,_,_⟩:=OB A5.out;clear cT bB;by_cases bg:eo=4
  ·have aE:J ((2:Int)=k):=(by show _=_;rw[←hg.out,aT bg]);subst bg;go_wp2_with fail;go_ret;exact⟨fU aE.out,tE.out⟩
  ·have kq:J ((if s0=4∨s2=4∨cJ=4∨aR=4 then (0:Int) else 1)=k):=(by show _=_;rw[←hg.out,aK bg]);clear hg;by_cases e8:s0=4
   ·have aE:J ((0:Int)=k):=(by show _=_;rw[←kq.out,aT (.inl e8)]);subst e8;go_wp2_with fail;go_ret;exact⟨fU aE.out,tE.out⟩
   ·by_cases bN:s2=4
    ·have aE:J ((0:Int)=k):=(by show _=_;rw[←kq.out,aT (.inr (.inl bN))]);subst bN;go_wp2_with fail;go_ret;exact⟨fU aE.out,tE.out⟩
    ·by_cases ch:cJ=4
     ·have aE:J ((0:Int)=k):=(by show _=_;rw[←kq.out,aT (.inr (.inr (.inl ch)))]);subst ch;go_wp2_with fail;go_ret;exact⟨fU aE.out,tE.out⟩
     ·by_cases ep:aR=4
      ·have aE:J ((0:Int)=k):=(by show _=_;rw[←kq.out,aT (.inr (.inr (.inr ep)))]);subst ep;go_wp2_with fail;go_ret;exact⟨fU aE.out,tE.out⟩
      ·have aE:J ((1:Int)=k):=(by show _=_;rw[←kq.out,aK (by omega)]);have bX:(s0==4)=false:=(by rw[kO];exact e8);have b3:(s2==4)=false:=(by rw[kO];exact bN);have bc:(cJ==4)=false:=(by rw[kO];exact ch);have ev:(aR==4)=false:=(by rw[kO];exact ep);go_wp2_with fail
       all_goals
        go_ret;first|exact⟨fU aE.out,tE.out⟩|(exfalso;rename_i aF;rw[bX,b3,bc] at aF;rcases aF with (aF|aF)|aF<;>cases aF)
theorem ajG(c a e:bp)(hc:dw c)(ha:dw a)(he:dw e)(f:Bool)(hf:J (JW c a e=f))(w:bTo):
  Calls Tryz.prog 314 #[fA c,fA a,fA e] w fun e w'=>e=bb (ai f)∧av w w w':=by
 obtain⟨iq,qJ⟩:=az (dN c a e);have Kx:=U (xU c a e hc ha he iq (U qJ));have aE:J (decide (iq<0)=f):=by show _=_;rw[←hf.out,←qJ];rfl
 obtain⟨cx,aP⟩:=c;obtain⟨aA,aB⟩:=a;obtain⟨ex,bw⟩:=e;clear hc ha he hf qJ;go_enter Tryz.func314,Tryz.ntmps314;go_upto_region 1 with fail;obtain⟨W,a6⟩:=az (((w.alloc (dB (cx,aP))).alloc (dB (aA,aB))).alloc (dB (ex,bw)));obtain⟨t1,t2,t3,t4,t5⟩:=rb a6;have aH:=U t4;obtain⟨eK,er⟩:=eP t1;obtain⟨a0,a'⟩:=eP t2;obtain⟨aJ,aI⟩:=eP t3;simp only at eK er a0 a' aJ aI;simp only[dB] at a6;rw[a6];clear a6 t1 t2 t3 t4 t5;go_wp2_with fail;go_fit (Kx.out _);rintro r V ⟨rfl,af⟩;have cm:J (av w w V):=aH.out.trans (af.mono aH.out.size);clear af eK er a0 a' aJ aI;go_wp2_with fail;go_ret;exact⟨ej aE.out,cm.out⟩
def x2(d:Int):Prop:=0≤d∧d≤2305843009213693952
theorem Zq(d q r:Int)(hd:x2 d)(aC:x2 q)(hr:1≤r∧r≤536870912)(f:Bool)(hf:J (JX d q r=f))(w:bTo):
  Calls Tryz.prog 282 #[I d,I q,I r] w fun e w'=>e=bb (ai f)∧av w w w':=by
 unfold x2 at hd aC;obtain⟨s,hs⟩:=az (r *r);have k7:=AW (a:=r) (b:=r) (by omega) (by omega);have mg:=CM (a:=r) (by omega);rw[hs] at k7 mg;obtain⟨l,aj⟩:=az (q-s-d);obtain⟨xY,xZ,HC,HD,di,g1,g2,g3,g4,u1,u2⟩:=Tf l (4 *d) s (by omega) (by omega) (by omega);have aE:J ((decide (l≤0)|| decide (di≤0))=f):=by show _=_;rw[←hf.out,g4,←aj,←hs];rfl
 have uy:=U g1;have tq:=U g2;have EP:=U g3;have hm:min r 2147483648=r:=by omega
 have bE:bT (r *r)=s:=by rw[hs];exact b4 _ (by omega)
 have cr:bT (q-s)=q-s:=b4 _ (by omega);have dJ:bT (q-s-d)=l:=by rw[aj];exact b4 _ (by omega)
 have cb:IntKind.u64.wrap d=d:=by rw[Hy];omega
 clear hd aC hr hf hs k7 mg aj g1 g2 g3 g4;by_cases c:l≤0
 ·have dF:J (true=f):=(by show _=_;rw[←aE.out,eH c];rfl);go_enter Tryz.func282,Tryz.ntmps282;go_wp2_with fail;go_ret;exact⟨ej dF.out,Below.refl _ _⟩
 ·have dF:J (decide (di≤0)=f):=(by show _=_;rw[←aE.out,eD c];rfl);go_enter Tryz.func282,Tryz.ntmps282;go_wp2_with fail;go_fit (uy.out _);rintro e V ⟨rfl,af⟩;have cm:=U af;clear af;go_wp2_with fail;go_fit (tq.out _);rintro e hG ⟨rfl,af⟩;have c1:J (av w w hG):=cm.out.trans (af.mono cm.out.size);clear af;go_wp2_with fail;go_fit (EP.out _);rintro e kN ⟨rfl,af⟩;have dx:J (av w w kN):=c1.out.trans (af.mono c1.out.size);clear af;go_wp2_with fail;go_ret;exact⟨ej dF.out,dx.out⟩
theorem Zr(d q r:Int)(hd:x2 d)(aC:x2 q)(hr:1≤r∧r≤536870912)(f:Bool)(hf:J (JY d q r=f))(w:bTo):
  Calls Tryz.prog 283 #[I d,I q,I r] w fun e w'=>e=bb (ai f)∧av w w w':=by
 unfold x2 at hd aC;obtain⟨s,hs⟩:=az (r *r);have k7:=AW (a:=r) (b:=r) (by omega) (by omega);have mg:=CM (a:=r) (by omega);rw[hs] at k7 mg;obtain⟨l,aj⟩:=az (d-q-s);obtain⟨xY,xZ,HC,HD,di,g1,g2,g3,g4,u1,u2⟩:=Tf l (4 *q) s (by omega) (by omega) (by omega);have aE:J ((decide (l≤0)|| decide (di≤0))=f):=by show _=_;rw[←hf.out,g4,←aj,←hs];rfl
 have uy:=U g1;have tq:=U g2;have EP:=U g3;have hm:min r 2147483648=r:=by omega
 have bE:bT (r *r)=s:=by rw[hs];exact b4 _ (by omega)
 have cr:bT (d-q)=d-q:=b4 _ (by omega);have dJ:bT (d-q-s)=l:=by rw[aj];exact b4 _ (by omega)
 have cb:IntKind.u64.wrap q=q:=by rw[Hy];omega
 clear hd aC hr hf hs k7 mg aj g1 g2 g3 g4;by_cases c:l≤0
 ·have dF:J (true=f):=(by show _=_;rw[←aE.out,eH c];rfl);go_enter Tryz.func283,Tryz.ntmps283;go_wp2_with fail;go_ret;exact⟨ej dF.out,Below.refl _ _⟩
 ·have dF:J (decide (di≤0)=f):=(by show _=_;rw[←aE.out,eD c];rfl);go_enter Tryz.func283,Tryz.ntmps283;go_wp2_with fail;go_fit (uy.out _);rintro e V ⟨rfl,af⟩;have cm:=U af;clear af;go_wp2_with fail;go_fit (tq.out _);rintro e hG ⟨rfl,af⟩;have c1:J (av w w hG):=cm.out.trans (af.mono cm.out.size);clear af;go_wp2_with fail;go_fit (EP.out _);rintro e kN ⟨rfl,af⟩;have dx:J (av w w kN):=c1.out.trans (af.mono c1.out.size);clear af;go_wp2_with fail;go_ret;exact⟨ej dF.out,dx.out⟩
theorem Zs(ao ak ar aq:Int)(g:bp→Int):((kX ⟨ao,ak,ar,aq⟩).all (fun p=>decide (0≤g p))=true)=(i1 (fun k=>decide (g (dV ao ak ar aq k)<0)) 4=0):=by
 simp only[i1,kX,dV,AG,Hn,Cz,gy,Oq,gH];constructor
 ·rintro⟨aa,ah,ax,bg⟩;rw[aK (by omega),aK (by omega),aK (by omega),aK (by omega)];rfl
 ·intro h
  repeat' split at h
  all_goals first|(refine⟨?_,?_,?_,?_⟩<;>omega)|omega
theorem Tj{w W:bTo}{dt cE ft gr:Obj}(h:(((w.alloc dt).alloc cE).alloc ft).alloc gr=W):W.heap[w.heap.size]?=some dt∧W.heap[w.heap.size+1]?=some cE∧W.heap[w.heap.size+1+1]?=some ft∧W.heap[w.heap.size+1+1+1]?=some gr∧av w w W:=by obtain⟨aa,ah,ax,bg,b7⟩:=zj h;exact⟨aa,ah,ax,bg,b7⟩
theorem ajH(ao ak ar aq:Int)(c a e:bp)(hne:a≠e)(g:Bool)(aX:JW c a e=g)(u v:Int)(hu:i1 (fun k=>decide (dN c a (dV ao ak ar aq k)<0)) 4=u)(aS:i1 (fun k=>decide (dN c (dV ao ak ar aq k) e<0)) 4=v):
  GZ ⟨ao,ak,ar,aq⟩ c a e=(if g=true then (u==0)||(v==0) else (u==0)&&(v==0))∧G0 ⟨ao,ak,ar,aq⟩ c a e=(if g=true then (u==4)&&(v==4) else (u==4)||(v==4)):=by
 have a':=Zs ao ak ar aq (fun p=>dN c a p);have a2:=Zs ao ak ar aq (fun p=>dN c p e);have a3:=Oz ao ak ar aq (fun p=>decide (dN c a p<0));have a4:=Oz ao ak ar aq (fun p=>decide (dN c p e<0));simp only[hu,aS] at a' a2 a3 a4;unfold GZ G0;rw[aK hne,aK hne,aX];cases g
 ·constructor<;>rw[xO]<;>simp only[oE,x0,gy,zu,tC,a',a2,a3,a4]
 ·constructor<;>rw[xO]<;>simp only[uR,gy,zu,tC,a',a2,a3,a4]
theorem ajI(b:bR)(c a e:bp)(hx:A0 b)(hc:dw c)(ha:dw a)(he:dw e)(f g:Bool)(hf:J (GZ b c a e=f))(aX:J (G0 b c a e=g))(w:bTo):
  Calls Tryz.prog 281 #[gJ b,fA c,fA a,fA e] w fun r w'=>r=bb (.tuple #[ai f,ai g])∧av w w w':=by
 have cV:=U hx;have A3:=U hc;have tD:=U ha;have ajJ:=U he;have CP:=U (Td hx.eK hx.er);obtain⟨ao,ak,ar,aq⟩:=b;by_cases hne:a=e
 ·subst hne;have Zt:true=f:=(by rw[←hf.out];unfold GZ;rw[aT rfl]);have ajK:false=g:=(by rw[←aX.out];unfold G0;rw[aT rfl]);subst Zt ajK;obtain⟨aA,aB⟩:=a;obtain⟨cx,aP⟩:=c;clear hf aX hx hc ha he;go_enter Tryz.func281,Tryz.ntmps281;go_upto_region 1 with fail;obtain⟨W,a6⟩:=az ((((w.alloc (cH ⟨ao,ak,ar,aq⟩)).alloc (dB (cx,aP))).alloc (dB (aA,aB))).alloc (dB (aA,aB)));obtain⟨t1,t2,t3,t4,t5⟩:=Tj a6;have aH:=U t5;obtain⟨a0,a'⟩:=eP t3;obtain⟨cJ,aN⟩:=eP t4;simp only at a0 a' cJ aN;simp only[dB] at a6;rw[a6];clear a6 t1 t2 t3 t4 t5;go_wp2_with fail;go_ret2;exact⟨rfl,aH.out⟩
 ·obtain⟨G,wG⟩:=az (JW c a e);have ajL:=U (ajG c a e hc ha he G (U wG));have cT:J (∀u v:Int,i1 (fun k=>decide (dN c a (dV ao ak ar aq k)<0)) 4=u→i1 (fun k=>decide (dN c (dV ao ak ar aq k) e<0)) 4=v→(if G=true then (u==0)||(v==0) else (u==0)&&(v==0))=f∧(if G=true then (u==4)&&(v==4) else (u==4)||(v==4))=g):=(by intro u v hu aS;obtain⟨aa,ah⟩:=ajH ao ak ar aq c a e hne G wG u v hu aS;exact⟨aa.symm.trans hf.out,ah.symm.trans aX.out⟩);obtain⟨cx,aP⟩:=c;obtain⟨aA,aB⟩:=a;obtain⟨ex,bw⟩:=e
  have sa:((aA==ex)&&(aB==bw))=false:=by
   rw[Oe,kO,kO];by_cases h:aA=ex
   ·exact .inr fun ah=>hne (by rw[h,ah])
   ·exact .inl h
  clear hf aX hx hc ha he wG hne;go_enter Tryz.func281,Tryz.ntmps281;go_upto_region 1 with fail;obtain⟨W,a6⟩:=az ((((w.alloc (cH ⟨ao,ak,ar,aq⟩)).alloc (dB (cx,aP))).alloc (dB (aA,aB))).alloc (dB (ex,bw)));obtain⟨t1,t2,t3,t4,t5⟩:=Tj a6;have aH:=U t1;have bq:=U t2;have b8:=U t3;have bm:=U t4;have dC:=U t5;obtain⟨a0,a'⟩:=eP t3;obtain⟨cJ,aN⟩:=eP t4;obtain⟨bX,b3,bc,ev⟩:=fD t1;simp only at a0 a' cJ aN;simp only[dB] at a6;rw[a6];clear a6 t1 t2 t3 t4 t5;go_wp2_with fail
  all_goals first
   |(exfalso;rename_i aa ah;simp only[aa,ah,beq_self_eq_true,S2,Bool.true_eq_false] at sa;done)
   |skip
  all_goals
   try (rename aA=ex=>ET;clear ET)
   try (rename ¬aA=ex=>ET;clear ET)
   try (rename ¬aB=bw=>ET;clear ET)
   go_fit (Og ⟨ao,ak,ar,aq⟩ _);rintro r hG ⟨rfl,af⟩;have jr:J (av W W hG):=af;clear a0 a' cJ aN bX b3 bc ev af;go_wp2_with fail
   go_loopw [10,11,19] (fun ajM ajN i wr=>∃(j:Nat) (L R:Int) (aG:bTo),aG=wr∧j≤4∧0≤L∧L≤(j:Int)∧0≤R∧R≤(j:Int)∧J (i1 (fun k=>decide (dN (cx,aP) (aA,aB) (dV ao ak ar aq k)<0)) j=L)∧J (i1 (fun k=>decide (dN (cx,aP) (dV ao ak ar aq k) (ex,bw)<0)) j=R)∧ajM=I L∧ajN=I R∧i=I j∧J (av W W aG)) (fun _ _ i _=>4 -(intOf i).toNat)
   case atStart=>exact⟨0,0,0,_,rfl,by decide,by decide,by decide,by decide,by decide,rfl,rfl,rfl,rfl,rfl,jr.out⟩
   case round=>
   obtain⟨j,L,R,aG,rfl,cB,SO,YZ,ai0,qc,uO,AY,rfl,rfl,rfl,cq⟩:=hrel;obtain⟨aJ,aI⟩:=eP (aO bq.out cq.out);obtain⟨a0,a'⟩:=eP (aO b8.out cq.out);obtain⟨cJ,aN⟩:=eP (aO bm.out cq.out);simp only at aJ aI a0 a' cJ aN;have dK:=lt_of_heap (aO bq.out cq.out);have e':=lt_of_heap (aO b8.out cq.out);have n3:=lt_of_heap (aO bm.out cq.out);by_cases b0:j<4
   ·have ib:(j:Int)<4:=(by omega);obtain⟨cY,cZ,rB⟩:∃cY cZ,dV ao ak ar aq j=(cY,cZ):=⟨_,_,rfl⟩;have oh:∀w,(Instr.index 394 (AX ⟨ao,ak,ar,aq⟩) (I (j:Int))).run Tryz.prog w=.ok (.agg #[I cY,I cZ]) w:=(fun w=>by rw[EH ao ak ar aq j b0 w,rB]);have qf:dw (cY,cZ):=(by rw[←rB];exact CP.out j);obtain⟨d1,gQ⟩:=az (dN (cx,aP) (aA,aB) (cY,cZ));obtain⟨d2,fV⟩:=az (dN (cx,aP) (cY,cZ) (ex,bw));have uy:=U (xU (cx,aP) (aA,aB) (cY,cZ) A3.out tD.out qf d1 (U gQ));have tq:=U (xU (cx,aP) (cY,cZ) (ex,bw) A3.out qf ajJ.out d2 (U fV));have dR:J (i1 (fun k=>decide (dN (cx,aP) (aA,aB) (dV ao ak ar aq k)<0)) (j+1)=L+(if d1<0 then 1 else 0)):=(by show _=_;rw[←uO.out,←gQ,←rB];simp only[i1,gH]);have br:J (i1 (fun k=>decide (dN (cx,aP) (dV ao ak ar aq k) (ex,bw)<0)) (j+1)=R+(if d2<0 then 1 else 0)):=(by show _=_;rw[←AY.out,←fV,←rB];simp only[i1,gH]);have k6:bT (L+1)=L+1:=b4 _ (by omega);have qd:bT (R+1)=R+1:=b4 _ (by omega);have avP:bT ((j:Int)+1)=(j:Int)+1:=b4 _ (by omega);clear gQ fV rB qf;go_wp2_with fail;go_fit (uy.out _);rintro r dJ ⟨rfl,e6⟩;have bx:av aG (aG.alloc (dB (cY,cZ))) dJ:=e6.mono (by simp);have a7:J (dJ.heap[aG.heap.size]?=some (dB (cY,cZ))):=aO (cw _ _) e6;have aV:J (av W W dJ):=(cq.out.alloc cq.out.size _).trans (bx.mono cq.out.size);have nI:=U (aO bq.out aV.out);have qL:=U (aO bm.out aV.out);clear e6 oh bx aJ aI a0 a' cJ aN;obtain⟨aJ,aI⟩:=eP nI.out;obtain⟨cJ,aN⟩:=eP qL.out;obtain⟨e8,bN⟩:=eP a7.out;simp only at aJ aI cJ aN e8 bN;by_cases bP:d1<0
    ·have eW:J (i1 (fun k=>decide (dN (cx,aP) (aA,aB) (dV ao ak ar aq k)<0)) (j+1)=L+1):=(by show _=_;rw[dR.out,aT bP]);go_wp2_with fail;go_fit (tq.out _);rintro r cb ⟨rfl,gB⟩;have A':J (av W W cb):=aV.out.trans (gB.mono aV.out.size);clear gB aJ aI cJ aN e8 bN;by_cases a8:d2<0
     ·have eg:J (i1 (fun k=>decide (dN (cx,aP) (dV ao ak ar aq k) (ex,bw)<0)) (j+1)=R+1):=(by show _=_;rw[br.out,aT a8]);go_wp2_with fail;go_round<;>first|exact⟨j+1,L+1,R+1,_,rfl,by omega,by omega,by omega,by omega,by omega,eW,eg,rfl,rfl,by go_num,A'.out⟩|(simp[intOf]<;>omega)
     ·have eg:J (i1 (fun k=>decide (dN (cx,aP) (dV ao ak ar aq k) (ex,bw)<0)) (j+1)=R):=(by show _=_;rw[br.out,aK a8,pq]);go_wp2_with fail;go_round<;>first|exact⟨j+1,L+1,R,_,rfl,by omega,by omega,by omega,by omega,by omega,eW,eg,rfl,rfl,by go_num,A'.out⟩|(simp[intOf]<;>omega)
    ·have eW:J (i1 (fun k=>decide (dN (cx,aP) (aA,aB) (dV ao ak ar aq k)<0)) (j+1)=L):=(by show _=_;rw[dR.out,aK bP,pq]);go_wp2_with fail;go_fit (tq.out _);rintro r cb ⟨rfl,gB⟩;have A':J (av W W cb):=aV.out.trans (gB.mono aV.out.size);clear gB aJ aI cJ aN e8 bN;by_cases a8:d2<0
     ·have eg:J (i1 (fun k=>decide (dN (cx,aP) (dV ao ak ar aq k) (ex,bw)<0)) (j+1)=R+1):=(by show _=_;rw[br.out,aT a8]);go_wp2_with fail;go_round<;>first|exact⟨j+1,L,R+1,_,rfl,by omega,by omega,by omega,by omega,by omega,eW,eg,rfl,rfl,by go_num,A'.out⟩|(simp[intOf]<;>omega)
     ·have eg:J (i1 (fun k=>decide (dN (cx,aP) (dV ao ak ar aq k) (ex,bw)<0)) (j+1)=R):=(by show _=_;rw[br.out,aK a8,pq]);go_wp2_with fail;go_round<;>first|exact⟨j+1,L,R,_,rfl,by omega,by omega,by omega,by omega,by omega,eW,eg,rfl,rfl,by go_num,A'.out⟩|(simp[intOf]<;>omega)
   ·obtain rfl:j=4:=(by omega);obtain⟨bP,a8⟩:=cT.out L R uO.out AY.out;have iV:=U bP;have hg:=U a8;have tE:J (av w w aG):=dC.out.trans (cq.out.mono dC.out.size);obtain⟨z0,cU⟩:=az (L==0);obtain⟨z1,cW⟩:=az (R==0);obtain⟨z2,dz⟩:=az (L==4);obtain⟨z3,Tk⟩:=az (R==4);rw[cU,cW] at bP;rw[dz,Tk] at a8;have iV:=U bP;have hg:=U a8;clear bP a8 cT uO AY;go_wp2_with fail;go_fit (ajL.out _);rintro r dJ ⟨rfl,e6⟩;have aV:J (av w w dJ):=tE.out.trans (e6.mono tE.out.size);clear e6 aJ aI a0 a' cJ aN;cases G<;>cases z0<;>cases z1<;>cases z2<;>cases z3
    all_goals
     go_wp2_with fail;go_ret2;have aN:=iV.out;have aR:=hg.out;simp only[oE,x0,uR,Cz,Bool.and_false,Bool.or_true,Ot,JM,S2,Bool.or_self] at aN aR;subst aN aR;exact⟨rfl,aV.out⟩
theorem Tl{x y:Int}(hx:-1073741824≤x∧x≤1073741824)(hy:-1073741824≤y∧y≤1073741824):x2 (x *x+y *y):=by have aa:=AW hx hx;have ah:=AW hy hy;have ax:=CM hx;have bg:=CM hy;unfold x2;omega
theorem Zu{v lo hi:Int}(h:-536870912≤v∧v≤536870912)(aQ:-536870912≤lo∧lo≤536870912)(aa:-536870912≤hi∧hi≤536870912):(-1073741824≤mT v lo hi∧mT v lo hi≤1073741824)∧-1073741824≤vY v lo hi∧vY v lo hi≤1073741824:=by
 refine⟨?_,?_⟩
 ·unfold mT;split
  ·omega
  ·split<;>omega
 ·unfold vY;omega
theorem ajO{b:bR}{p:bp}(aQ:dw (b.ao,b.ak))(aa:dw (b.ar,b.aq))(hp:dw p):x2 (ze b p)∧x2 (Em b p):=by obtain⟨a',a2⟩:=Zu hp.1 aQ.1 aa.1;obtain⟨a3,a4⟩:=Zu hp.2 aQ.2 aa.2;exact⟨Tl a' a3,Tl a2 a4⟩
theorem ajP{p q:bp}(hp:dw p)(aC:dw q):x2 (kn p q):=by obtain⟨bW,bU⟩:=p;obtain⟨cY,cZ⟩:=q;unfold dw at hp aC;simp only at hp aC;exact Tl (by show _∧_;omega) (by show _∧_;omega)
theorem ajQ(p q:bp)(hp:dw p)(aC:dw q)(d:Int)(hd:J (kn p q=d))(w:bTo):
  Calls Tryz.prog 227 #[fA p,fA q] w fun e w'=>e=bb (I d)∧av w w w':=
 Sl p q (EM hp) (EM aC) (G6 hp aC) (G7 hp aC) d hd w
abbrev HH(w0:bTo)(G:Nat)(ao ak ar aq cx aP aA aB ex bw:Int)(Z:bTo):Prop:=
 Z.cell? ⟨G,0,none⟩=some (I ao)∧aw Z G 1 (I ak)∧aw Z G 2 (I ar)∧aw Z G 3 (I aq)∧aw Z (G+1) 0 (I cx)∧aw Z (G+1) 1 (I aP)∧aw Z (G+1+1) 0 (I aA)∧aw Z (G+1+1) 1 (I aB)∧aw Z (G+1+1+1) 0 (I ex)∧aw Z (G+1+1+1) 1 (I bw)∧av w0 w0 Z
theorem Ba{w0:bTo}{G:Nat}{ao ak ar aq cx aP aA aB ex bw:Int}{v Z:bTo}(af:av v v Z)(h:HH w0 G ao ak ar aq cx aP aA aB ex bw v):HH w0 G ao ak ar aq cx aP aA aB ex bw Z:=by obtain⟨aa,ah,ax,bg,b7,c0,ea,eO,fG,xx,AH⟩:=h;exact⟨bM af aa,bM af ah,bM af ax,bM af bg,bM af b7,bM af c0,bM af ea,bM af eO,bM af fG,bM af xx,AH.trans (af.mono AH.size)⟩
theorem Zv(b:bR)(c:bp)(r:Int):uw b c r=0∨uw b c r=1∨uw b c r=2:=by
 unfold uw;split
 ·exact .inl rfl
 ·split
  ·exact .inr (.inr rfl)
  ·exact .inr (.inl rfl)
theorem ajR(b:bR)(c a e:bp)(r:Int)(hx:A0 b)(hc:dw c)(ha:dw a)(he:dw e)(hr:1≤r∧r≤536870912)(ff:xA c a e=true)(k:Int)(ab:J (Sf b c a e r=k))(w:bTo):
  Calls Tryz.prog 252 #[gJ b,fA c,fA a,fA e,I r] w fun o w'=>o=bb (I k)∧av w w w':=by
 obtain⟨f1,lI⟩:=az (uw b a r);obtain⟨f2,p6⟩:=az (uw b e r);obtain⟨CV,Tm⟩:=az (GZ b c a e);obtain⟨of,Tn⟩:=az (G0 b c a e);obtain⟨dj,eY⟩:=az (ze b c);obtain⟨hH,kP⟩:=az (Em b c);obtain⟨gl,hO⟩:=az (kn a c);obtain⟨dt,iI⟩:=az (JX dj gl r);obtain⟨cE,ir⟩:=az (JX hH gl r);obtain⟨iN,KD⟩:=az (JY hH gl r);obtain⟨i2,sq⟩:=az (JY dj gl r);obtain⟨OF,wH⟩:=ajO hx.eK hx.er hc;have rd:=ajP ha hc;rw[eY] at OF;rw[kP] at wH;rw[hO] at rd;have ajS:=U (Sm c a e (EM hc) (EM ha) (EM he) (G6 ha hc) (G7 ha hc) (G6 he hc) (G7 he hc) true (U ff));have ajT:=U (SZ b a r hx.eK hx.er hx.e ha hr f1 (U lI));have ajU:=U (SZ b e r hx.eK hx.er hx.e he hr f2 (U p6));have ajV:=U (ajI b c a e hx hc ha he CV of (U Tm) (U Tn));have ajW:=U (Tc b c hx.eK hx.er hc dj (U eY));have ajX:=U (Zc b c hx.eK hx.er hc hH (U kP));have S5:=U (ajQ a c ha hc gl (U hO));have To:=U (Zq dj gl r OF rd hr dt (U iI));have ajY:=U (Zq hH gl r wH rd hr cE (U ir));have Zw:=U (Zr hH gl r wH rd hr iN (U KD));have ajZ:=U (Zr dj gl r OF rd hr i2 (U sq));have cT:J ((if f1=2∨f2=2 then (2:Int) else if CV=true∧dt=true∧iN=true then 2 else if f1≠0∨f2≠0 then 1 else if of=true∨i2=false∨cE=false then 0 else 1)=k):=by show _=_;rw[←ab.out,←lI,←p6,←Tm,←Tn,←iI,←ir,←KD,←sq,←eY,←kP,←hO];rfl
 have Th:J (f1=0∨f1=1∨f1=2):=by rw[←lI];exact Zv b a r
 have jR:J (f2=0∨f2=1∨f2=2):=by rw[←p6];exact Zv b e r
 have cV:=U hx;have h4:¬r<1:=by omega
 obtain⟨ao,ak,ar,aq⟩:=b;obtain⟨cx,aP⟩:=c;obtain⟨aA,aB⟩:=a;obtain⟨ex,bw⟩:=e;clear ab hx hc ha he hr ff lI p6 Tm Tn eY kP hO iI ir KD sq OF wH rd;go_enter Tryz.func252,Tryz.ntmps252;go_upto_region 1 with fail;obtain⟨W,a6⟩:=az ((((w.alloc (cH ⟨ao,ak,ar,aq⟩)).alloc (dB (cx,aP))).alloc (dB (aA,aB))).alloc (dB (ex,bw)));obtain⟨t1,t2,t3,t4,t5⟩:=Tj a6;have bL:J (HH w w.heap.size ao ak ar aq cx aP aA aB ex bw W):=by obtain⟨bX,b3,bc,ev⟩:=fD t1;obtain⟨aJ,aI⟩:=eP t2;obtain⟨a0,a'⟩:=eP t3;obtain⟨cJ,aN⟩:=eP t4;exact⟨bX,b3,bc,ev,aJ,aI,a0,a',cJ,aN,t5⟩
 simp only[dB] at a6;rw[a6];clear a6 t1 t2 t3 t4 t5;obtain⟨bX,b3,bc,ev,aJ,aI,a0,a',cJ,aN,sa⟩:=bL.out;clear sa;go_wp2_with fail;go_fit (ajS.out _);rintro o V ⟨rfl,af⟩;have gN:=U (Ba af bL.out);clear bX b3 bc ev aJ aI a0 a' cJ aN af;obtain⟨bX,b3,bc,ev,aJ,aI,a0,a',cJ,aN,sa⟩:=gN.out;clear sa;go_wp2_with fail;go_fit (Kl ⟨ao,ak,ar,aq⟩ (ao,ak) true (U (Ko ao ak ar aq cV.out.e)) _);rintro o hG ⟨rfl,af⟩;have mU:=U (Ba af gN.out);clear bX b3 bc ev aJ aI a0 a' cJ aN af;go_upto_region 5 with fail;have SY:=U (Ba (Below.refl _ _).drew mU.out)
 go_region_held3 (fun Z=>HH w w.heap.size ao ak ar aq cx aP aA aB ex bw Z) (first|with_reducible exact mU.out|with_reducible exact SY.out|with_reducible exact Ba (by assumption) (by assumption)|with_reducible exact Ba (Below.refl _ _).drew (by assumption)|assumption|fail) (first|(go_at_call 248;go_fit (ajT.out _);rintro o bt ⟨rfl,dT⟩)|(go_at_call 248;go_fit (ajU.out _);rintro o bt ⟨rfl,dT⟩)|fail)
 rename_i hHeld;have Bb:J (HH w w.heap.size ao ak ar aq cx aP aA aB ex bw _):=hHeld;clear hHeld;by_cases bN:f1=2
 ·have aE:J ((2:Int)=k):=(by show _=_;rw[←cT.out,aT (.inl bN)]);subst bN;go_wp2_with fail;go_ret;exact⟨fU aE.out,Bb.out.2.2.2.2.2.2.2.2.2.2⟩
 by_cases ch:f2=2
 ·have aE:J ((2:Int)=k):=(by show _=_;rw[←cT.out,aT (.inr ch)]);have b3:(f1==2)=false:=(by rw[kO];exact bN);subst ch;go_wp2_with fail
  all_goals first
   |(go_ret;exact⟨fU aE.out,Bb.out.2.2.2.2.2.2.2.2.2.2⟩)
 have hg:J ((if CV=true∧dt=true∧iN=true then (2:Int) else if f1≠0∨f2≠0 then 1 else if of=true∨i2=false∨cE=false then 0 else 1)=k):=by show _=_;rw[←cT.out,aK (show ¬(f1=2∨f2=2) by omega)]
 clear cT;obtain⟨bX,b3,bc,ev,aJ,aI,a0,a',cJ,aN,sa⟩:=Bb.out;clear sa;have g1:(f1==2)=false:=by rw[kO];exact bN
 have g2:(f2==2)=false:=by rw[kO];exact ch
 have Tp:J ((f1=0∨f1=1)∧(f2=0∨f2=1)):=by have aa:=Th.out;have ah:=jR.out;show _∧_;omega
 clear bN ch;go_wp2_with fail;go_fit (ajV.out _);rintro o avQ ⟨rfl,af⟩;have OG:=U (Ba af Bb.out);clear bX b3 bc ev aJ aI a0 a' cJ aN af g1 g2;go_upto_region 9 with fail;have aj0:=U (Ba (Below.refl _ _).drew OG.out)
 go_region_held3 (fun Z=>HH w w.heap.size ao ak ar aq cx aP aA aB ex bw Z) (first|with_reducible exact OG.out|with_reducible exact aj0.out|with_reducible exact Ba (by assumption) (by assumption)|with_reducible exact Ba (Below.refl _ _).drew (by assumption)|assumption|fail) (first|(go_at_call 260;go_fit (ajW.out _);rintro o bt ⟨rfl,dT⟩)|(go_at_call 271;go_fit (ajX.out _);rintro o bt ⟨rfl,dT⟩)|(go_at_call 227;go_fit (S5.out _);rintro o bt ⟨rfl,dT⟩)|fail)
 rename_i Zx _ hHeld;have gE:J (av w w _):=hHeld.2.2.2.2.2.2.2.2.2.2;clear hHeld;have hc:CV=false∨(CV=true∧dt=false)∨(CV=true∧dt=true∧iN=false)∨(CV=true∧dt=true∧iN=true):=by cases CV<;>cases dt<;>cases iN<;>simp
 rcases hc with rfl|⟨rfl,rfl⟩|⟨rfl,rfl,rfl⟩|⟨rfl,rfl,rfl⟩
 case' inl=>
  have dF:=U (show (if f1≠0∨f2≠0 then (1:Int) else if of=true∨i2=false∨cE=false then 0 else 1)=k by rw[←hg.out,aK (show ¬(false=true∧dt=true∧iN=true) by simp)]);have zD:=gE;clear gE hg;go_upto_region 12 with fail
 case' inr.inl=>
  have dF:=U (show (if f1≠0∨f2≠0 then (1:Int) else if of=true∨i2=false∨cE=false then 0 else 1)=k by rw[←hg.out,aK (show ¬(true=true∧false=true∧iN=true) by simp)]);go_wp2_with fail;go_fit (To.out _);rintro o bt ⟨rfl,af⟩;have zD:J (av w w bt):=gE.out.trans (af.mono gE.out.size);clear af gE hg;go_upto_region 12 with fail
 case' inr.inr.inl=>
  have dF:=U (show (if f1≠0∨f2≠0 then (1:Int) else if of=true∨i2=false∨cE=false then 0 else 1)=k by rw[←hg.out,aK (show ¬(true=true∧true=true∧false=true) by simp)]);go_wp2_with fail;go_fit (To.out _);rintro o cX ⟨rfl,af⟩;have im:J (av w w cX):=gE.out.trans (af.mono gE.out.size);clear af gE hg;go_wp2_with fail;go_fit (Zw.out _);rintro o bt ⟨rfl,af⟩;have zD:J (av w w bt):=im.out.trans (af.mono im.out.size);clear af im;go_upto_region 12 with fail
 case inr.inr.inr=>
  have aE:J ((2:Int)=k):=(by show _=_;rw[←hg.out,aT ⟨rfl,rfl,rfl⟩]);go_wp2_with fail;go_fit (To.out _);rintro o cX ⟨rfl,af⟩;have im:J (av w w cX):=gE.out.trans (af.mono gE.out.size);clear af gE hg;go_wp2_with fail;go_fit (Zw.out _);rintro o bt ⟨rfl,af⟩;have zD:J (av w w bt):=im.out.trans (af.mono im.out.size);clear af im;go_wp2_with fail;go_ret;exact⟨fU aE.out,zD.out⟩
 all_goals
  have KE:=Tp.out;rcases KE with ⟨rfl|rfl,rfl|rfl⟩
  ·have lC:J ((if of=true∨i2=false∨cE=false then (0:Int) else 1)=k):=dF.out;cases of with
   |true=>
    have aE:J ((0:Int)=k):=(by show _=_;rw[←lC.out,aT (.inl rfl)]);go_wp2_with fail;go_ret;exact⟨fU aE.out,zD.out⟩
   |false=>
    go_wp2_with fail;go_fit (ajZ.out _);rintro o j7 ⟨rfl,af⟩;have lQ:J (av w w j7):=zD.out.trans (af.mono zD.out.size);clear af;cases i2 with
    |false=>
     have aE:J ((0:Int)=k):=(by show _=_;rw[←lC.out,aT (.inr (.inl rfl))]);go_wp2_with fail;go_ret;exact⟨fU aE.out,lQ.out⟩
    |true=>
     go_wp2_with fail;go_fit (ajY.out _);rintro o mZ ⟨rfl,af⟩;have wI:J (av w w mZ):=lQ.out.trans (af.mono lQ.out.size);clear af;cases cE with
     |false=>
      have aE:J ((0:Int)=k):=(by show _=_;rw[←lC.out,aT (.inr (.inr rfl))]);go_wp2_with fail;go_ret;exact⟨fU aE.out,wI.out⟩
     |true=>
      have aE:J ((1:Int)=k):=(by show _=_;rw[←lC.out,aK (show ¬(false=true∨true=false∨true=false) by simp)]);go_wp2_with fail;go_ret;exact⟨fU aE.out,wI.out⟩
  ·have aE:J ((1:Int)=k):=dF.out;go_wp2_with fail;go_ret;exact⟨fU aE.out,zD.out⟩
  ·have aE:J ((1:Int)=k):=dF.out;go_wp2_with fail;go_ret;exact⟨fU aE.out,zD.out⟩
  ·have aE:J ((1:Int)=k):=dF.out;go_wp2_with fail;go_ret;exact⟨fU aE.out,zD.out⟩
end dE
