/- Lemmas. -/
import Derived.Test.YtkaiaijcieaofaaGreatDoorQ34
set_option linter.all false
set_option maxRecDepth 100000
set_option maxHeartbeats 12800000
namespace Go.Proofs.YtkaiaijcieaofaaGreatDoor
abbrev ae0:=@List.dropLast_concat_getLast
namespace c1
open Go.RowKit ef
open cB (C dN)
open gK (iO iN dd fG oL)
def Dy(bg:ar)(cu:List Int)(w:aeo)(e:Ending)(w':aeo):Prop:=Below w.heap.size w w'∧∃(k a7 a' aX a8 dA dB r:Int) (l:List (List b7)) (s:bf) (et:Int) (pl:Ja) (cl:Nat) (pp:Ja) (cp oM:Nat),e=ab (.tuple #[.agg #[I k,I a7,I a',I aX,I a8,I dA,I dB,I r,ad pl l.length cl,ad pp s.len cp,I et],I (oM:Int)])∧dw (fun k=>w.heap.size≤k) w' pl cl pp cp ⟨⟨k,(a7,a'),(aX,a8),(dA,dB),r,l⟩,s⟩∧af (oM=0→bg=[67]→cu.length=1∨cu.length=2)
variable{bg:ar}
theorem Dy.get{cu:List Int}{w w':aeo}{e:Ending}(h:Dy bg cu w e w'):an w w w'∧∃(k a7 a' aX a8 dA dB r:Int) (l:List (List b7)) (s:bf) (et:Int) (pl:Ja) (cl:Nat) (pp:Ja) (cp oM:Nat),e=ab (.tuple #[.agg #[I k,I a7,I a',I aX,I a8,I dA,I dB,I r,ad pl l.length cl,ad pp s.len cp,I et],I (oM:Int)])∧dw (fun k=>w.heap.size≤k) w' pl cl pp cp ⟨⟨k,(a7,a'),(aX,a8),(dA,dB),r,l⟩,s⟩∧af (oM=0→bg=[67]→cu.length=1∨cu.length=2):=h
theorem Dy.of{cu:List Int}{w w':aeo}{e:Ending}{r:Except Nat (dq×Int)}(h:yd w r e w')(aB:∀x,r=.ok x→bg=[67]→cu.length=1∨cu.length=2):Dy bg cu w e w':=by
 cases r with
 |error k=>
  obtain⟨ay,aw,rfl⟩:=h.no;exact⟨ay,0,0,0,0,0,0,0,0,[],.nil,0,none,0,none,0,k,rfl,⟨.nil _ _ _,.nil _ _ _,aP _,aP _⟩,fun h=>absurd h aw⟩
 |ok x=>
  obtain⟨ay,pl,cl,pp,cp,rfl,hs⟩:=h.get;obtain⟨⟨⟨k,⟨a7,a'⟩,⟨aX,a8⟩,⟨dA,dB⟩,r,l⟩,s⟩,et⟩:=x;exact⟨ay,k,a7,a',aX,a8,dA,dB,r,l,s,et,pl,cl,pp,cp,0,rfl,hs,fun _=>aB _ rfl⟩
theorem arW(name:ar)(cu:List Int)(nq:Ja)(bK:Nat)(u:Int)(ms:List mo)(eZ:ada)(bx:aev)(D B:Nat)(w0 w:aeo)(dp:af (w.ownsRow D pP 2 eZ ms.length bx))(zg:af (vk w0 ms bx))(ay:af (an w0 w0 w))(x0:ms.length≤1000000000)(fF:af (∀m∈ms,m.b.length≤1000000∧∀b∈m.b,oL b))(nt:af (dd B w nq cu))(eU:cu.length≤1000000000)(iX:af (∀x∈cu,-4611686018427387904≤x∧x≤4611686018427387904)):
  Calls Tryz.prog 118 #[aa ⟨name.toArray⟩,ad nq cu.length bK,I u,eZ] w (Dy name cu w):=by
 by_cases hJ:name=[67]
 ·exact (Ba name (.inl hJ) cu nq bK u ms eZ B w nt eU).mono fun e w' h=>Dy.of h fun x hx _=>anm (by rw[←hJ];exact hx)
 ·exact (arV name cu nq bK u ms eZ bx D B w0 w dp zg ay x0 fF nt eU iX).mono fun e w' ⟨r,h⟩=>Dy.of h fun x _ ax=>absurd ax hJ
def ae1(p:cy)(cn:Int)(q:cy):Prop:=∃s r rd,q={p with jC:=fun j=>if j=cn then some ⟨s,r,rd,false,[]⟩ else p.jC j}
theorem arX(w0:aeo)(P:Nat)(p:cy)(B:Nat)(ca cn bY:Int)(cF:Bool)(bg c8 c9 cS aR:ar)(cu:List Int)(nq:Ja)(bK:Nat)(bv:ada)(w:aeo)(H:af (jl w0 P p w))(nt:af (dd B w nq cu))(eU:cu.length≤1000000000)(iX:af (∀x∈cu,-4611686018427387904≤x∧x≤4611686018427387904))(Po:p.gM.length≤1000000)(fF:af (∀m∈p.gM,m.b.length≤1000000∧∀b∈m.b,oL b))(lV:p.levels.length≤1000):
  Calls Tryz.prog 79 #[ah P 0,.agg (fv ca 10 cn bY cF bg c8 c9 cS aR (ad nq cu.length bK) bv)] w (iD (ae1 p cn) w0 P):=by
 have LB:=H;obtain⟨R,m,L,fu,cv,ov,cx,ox,h⟩:=H.out;have H1:=ao h;obtain⟨n,hn⟩:=aq cu.length;have bd:=ao hn;obtain⟨u,hu⟩:=aq p.unit;obtain⟨t,bc⟩:=aq (BP p cn);have PR:=ao bc;have wK:=ao hu;obtain⟨eZ,WH⟩:=aq L.eZ;have gB:=ao WH;have MN:af (∀Z,an w w Z→Calls Tryz.prog 118 #[aa ⟨bg.toArray⟩,ad nq n bK,I u,eZ] Z (Dy bg cu Z)):=by intro Z cN;have ax:=h.below cN;have aA:=arW bg cu nq bK p.unit p.gM L.eZ L.bx w0.heap.size B w0 Z (ao ax.ej) (ao ax.oD) (ao ax.aM) (by omega) fF (ao (nt.out.below cN)) eU iX;rw[hn,hu,WH] at aA;exact aA
 rw[hn];clear h H hn bc WH;go_enter Pz,PA;go_upto_region 20 with fail;have bp:=ao (H1.out.below (bh w (ai (fv ca 10 cn bY cF bg c8 c9 cS aR (ad nq n bK) bv) fm)));have b9:af ((w.alloc (ai (fv ca 10 cn bY cF bg c8 c9 cS aR (ad nq n bK) bv) fm)).heap[w.heap.size]?=some (.cells (fv ca 10 cn bY cF bg c8 c9 cS aR (ad nq n bK) bv) fm)):=cR _ _;have aH:af (an w w (w.alloc (ai (fv ca 10 cn bY cF bg c8 c9 cS aR (ad nq n bK) bv) fm))):=bh _ _;generalize w.alloc (.cells (fv ca 10 cn bY cF bg c8 c9 cS aR (ad nq n bK) bv) fm)=W at bp b9 aH⊢;obtain⟨D,b4⟩:=aq w.heap.size;rw[b4] at b9⊢;clear b4;have aV:ak W P 0 (I u):=by rw[←hu];exact cell_of (i:=0) bp.out.pl rfl
 have d2:ak W D 2 (I cn):=cell_of (i:=2) b9.out rfl;clear hu;by_cases zF:u=0
 ·subst zF;go_wp2_with fail;go_ret;exact iD.err 4 (by decide) bp.out.aM
 have AO:(u==0)=false:=beq_eq_false_iff_ne.2 zF;have sJ:af (jl w0 P p W):=LB.out.below aH.out;go_wp2_with fail;with_reducible refine (abQ w0 P p cn W sJ lV t PR).mono ?_
 rintro e b5 ⟨rfl,cj⟩;have bW:=ao (bp.out.below cj);have iQ:=ao (ba b9.out cj);have dO:=ao (aH.out.trans (cj.mono aH.out.size));clear aV d2 cj bp b9 aH sJ;cases t with
 |true=>
  go_wp2_with fail;go_ret;exact iD.err 4 (by decide) bW.out.aM
 |false=>
  have aV:ak b5 P 0 (I u):=(by rw[←wK.out];exact cell_of (i:=0) bW.out.pl rfl);have dj:ak b5 P 8 eZ:=(by rw[←gB.out];exact cell_of (i:=8) bW.out.pl rfl);have d5:ak b5 D 5 (aa ⟨bg.toArray⟩):=cell_of (i:=5) iQ.out rfl;have d10:ak b5 D 10 (ad nq n bK):=cell_of (i:=10) iQ.out rfl;have oE:=lt_of_heap bW.out.pl;have rz:=lt_of_heap iQ.out;go_upto_region 22 with fail;have gy:af (ub P D u eZ (aa ⟨bg.toArray⟩) (ad nq n bK) b5 b5):=⟨aV,dj,d5,d10,Below.refl _ _⟩;have Ll:af (ub P D u eZ (aa ⟨bg.toArray⟩) (ad nq n bK) b5 b5.drew):=Ia (Below.refl _ _).drew gy.out;have ae2:af (∀o,ub P D u eZ (aa ⟨bg.toArray⟩) (ad nq n bK) b5 (b5.alloc o)):=fun o=>Ia (bh _ _) gy.out;have ae3:af (∀o,ub P D u eZ (aa ⟨bg.toArray⟩) (ad nq n bK) b5 (b5.alloc o).drew):=fun o=>Ia (bh _ _).drew gy.out;clear aV dj d5 d10;go_cut [8,9] (fun a b cq=>∃(T:Nat) (k a7 a' aX a8 dA dB r:Int) (l:List (List b7)) (s:bf) (et:Int) (pl:Ja) (cl:Nat) (pp:Ja) (cp:Nat) (MO:Int),a=.pointer (some (aj T 0))∧b=I MO∧af (∃oM:Nat,MO=(oM:Int))∧af (MO=0→bg=[67]→cu.length=1∨cu.length=2)∧af (an b5 b5 cq)∧af (al cq T (#[I k,I a7,I a',I aX,I a8,I dA,I dB,I r,ad pl l.length cl,ad pp s.len cp,I et]) nZ)∧af (dw (fun k=>b5.heap.size≤k) cq pl cl pp cp ⟨⟨k,(a7,a'),(aX,a8),(dA,dB),r,l⟩,s⟩))
  case first=>
   go_region_held3 (fun Z=>ub P D u eZ (aa ⟨bg.toArray⟩) (ad nq n bK) b5 Z) (first|with_reducible exact gy.out|with_reducible exact Ll.out|with_reducible exact ae2.out _|with_reducible exact ae3.out _|with_reducible exact Ia (by assumption) (by assumption)|with_reducible exact QL.out _|with_reducible exact sO.out _ _ _ _ _ _ _ _ _ _ _|fail) (first|(go_at_call 118;with_reducible refine (MN.out _ (anp dO.out (by assumption))).mono ?_;intro e b' hA;obtain⟨dR,k,a7,a',aX,a8,dA,dB,r,l,s,et,pl,cl,pp,cp,oM,rfl,xG,np⟩:=hA.get;have lL:=ao (Ia dR (by assumption));have QL:=ao (ano lL.out);have sO:=ao (anq oE rz lL.out);(try (have GU:al b' b5.heap.size (#[I 0,I 0,I 0,I 0,I 0,I 0,I 0,I 0,J 0,J 0,I 0]) nZ:=(by with_reducible exact ann dR);obtain⟨z0,z1,z2,z3,z4,z5,gZ,gR,fM,z9,j4⟩:=pE GU;have rW:=fun i=>dc GU i;have WI:=ao GU;clear GU)))|fail)
   ·go_wp2_with fail;go_meet;exact⟨_,k,a7,a',aX,a8,dA,dB,r,l,s,et,pl,cl,pp,cp,_,rfl,rfl,⟨oM,rfl⟩,fun h=>np.out (by omega),lL.out.2.2.2.2.alloc lL.out.2.2.2.2.size _,cR _ _,xG.below (bh _ _)⟩
   ·go_wp2_with fail;go_meet;have Iu:dw (fun k=>b5.heap.size+1≤k) b' pl cl pp cp ⟨⟨k,(a7,a'),(aX,a8),(dA,dB),r,l⟩,s⟩:=(xG.mono fun tl _ h=>by have e:(b5.alloc (ai (#[I 0,I 0,I 0,I 0,I 0,I 0,I 0,I 0,J 0,J 0,I 0]) nZ)).drew.heap.size=b5.heap.size+1:=l' _;rw[e] at h;exact h);exact⟨_,k,a7,a',aX,a8,dA,dB,r,l,s,et,pl,cl,pp,cp,_,rfl,rfl,⟨oM,rfl⟩,fun h=>np.out (by omega),(sO.out _ _ _ _ _ _ _ _ _ _ _).2.2.2.2,ans WI.out _ _ _ _ _ _ _ _ _ _ _,(Iu.keep (anr (S:=fun k=>b5.heap.size+1≤k) (b:=b5.heap.size) (by omega) _ _ _ _ _ _ _ _ _ _ _)).mono fun tl _ h=>by omega⟩
  case rest=>
   obtain⟨T,k,a7,a',aX,a8,dA,dB,r,l,s,et,pl,cl,pp,cp,MO,rfl,rfl,arY,arZ,iJ,pS,zc⟩:=hcut;clear gy Ll ae2 ae3 MN oE rz;have ht:=ao (bW.out.fresh iJ.out);have we:=ao (ba iQ.out iJ.out);have vq:af (an w w wc):=dO.out.trans (iJ.out.mono dO.out.size);have ib:af (dw (fun k=>R k∨(b5.heap.size≤k∧k<wc.heap.size)) wc pl cl pp cp ⟨⟨k,(a7,a'),(aX,a8),(dA,dB),r,l⟩,s⟩):=zc.out.lt.mono fun _ _ h=>.inr ⟨h.1,h.2⟩;generalize (fun k=>R k∨(b5.heap.size≤k∧k<wc.heap.size))=aw6 at ht ib;by_cases Bg:MO=0
   case neg=>
    obtain⟨oM,rfl⟩:=arY.out;have adI:(((oM:Nat):Int) !=0)=true:=(by rw[bne_iff_ne];omega);go_wp2_with fail;go_ret;exact iD.err oM (by omega) ht.out.aM
   subst Bg;obtain⟨rd,q5⟩:=aq (decide (bg=[67])&&(decide (cu.length=1)|| decide (cu.getD 1 0=0)));go_upto_region 25 with fail;go_cut [10] (fun a cq=>a=U rd∧wc=cq)
   case first=>
    have d5:ak wc D 5 (aa ⟨bg.toArray⟩):=cell_of (i:=5) we.out rfl;have d10:ak wc D 10 (ad nq n bK):=cell_of (i:=10) we.out rfl;by_cases aB:bg=[67]
    ·have PK:(bg==[67])=true:=(by rw[aB];rfl);have E6:n=1∨n=2:=(by rw[←bd.out];exact arZ.out rfl aB);have bG:=ao aB;clear aB;rcases E6 with rfl|rfl
     ·have MP:rd=true:=(by rw[←q5,bG.out,bd.out];rfl);subst MP;go_wp2_with fail;go_meet;exact⟨rfl,rfl⟩
     ·obtain⟨b,o,cs,aG,_,aE,eD⟩:=nt.out (by rw[bd.out];decide);subst aG;have au:=eD 1 (by rw[bd.out];decide);obtain⟨v1,y0⟩:=aq (cu[1]'(by rw[bd.out];decide));rw[y0] at au;have aA:=ba aE vq.out;have aw7:ak wc b (o+1) (I v1):=(by simp[World.cell?,aA,au]);have MP:rd=(v1==0):=(by rw[←q5,bG.out,bd.out,zl,iW (by rw[bd.out];decide),y0];rfl);subst MP;clear eD aE au aA y0 q5;go_wp2_with fail;go_meet;exact⟨rfl,rfl⟩
    ·have PK:(bg==[67])=false:=beq_eq_false_iff_ne.2 aB;have MP:rd=false:=(by rw[←q5,fJ aB];rfl);subst MP;go_wp2_with fail;go_meet;exact⟨rfl,rfl⟩
   case rest=>
    obtain⟨rfl,rfl⟩:=hcut;have d2:ak wc D 2 (I cn):=cell_of (i:=2) we.out rfl;have cX:ak wc P 6 (.map (some m)):=cell_of (i:=6) ht.out.pl rfl;obtain⟨t0,t1,t2,t3,t4,t5,t6,t7,t8,t9,t10⟩:=pE pS.out;have lJ:=ao (ht.out.below (Below.refl _ _).drew);obtain⟨GD,JX,kA,wa⟩:=qY.qU (a:=⟨⟨⟨k,(a7,a'),(aX,a8),(dA,dB),r,l⟩,s⟩,et,rd,false,[]⟩) (v:=(.agg #[I k,I a7,I a',I aX,I a8,I dA,I dB,I r,ad pl l.length cl,ad pp s.len cp,I et,U rd,U false,J 0])) lJ.out.mp (fun h=>(lJ.out.hv _ h).oA rfl) cn ⟨pl,cl,pp,cp,none,0,rfl,ib.out.below (Below.refl _ _).drew,.nil _ _ _,aP _⟩;have iE:=ao kA;have vo:=ao wa;clear kA wa q5;go_upto_region 26 with fail;go_region;go_wp2_with fail;go_ret;have fF:=lJ.out.ab2 vo.out iE.out;exact⟨fF.aM,.inr ⟨_,⟨_,_,_,rfl⟩,rfl,_,_,_,_,_,_,_,_,fF⟩⟩
end c1
namespace c1
open ef
open cB (C dN)
open gK (oL)
structure dW(n:Nat)(p:cy):Prop where
 aR:nV p
 cs:p.bQ.length≤n
 ls:∀c∈p.bQ,0<c.length∧c.length≤n
 cl:∀c∈p.bQ.dropLast,4≤c.length
 ej:p.gM.length≤n
 uh:∀m∈p.gM,m.b.length≤1000000∧∀b∈m.b,oL b
 ok:∀v∈p.top::p.levels,∀o∈v.eg,okV o.2=true
 b3:p.ended=true→p.levels=[]
theorem dW.c{n:Nat}{p:cy}(h:dW n p)(hn:n≤1000000):Fk p:=⟨cd h.cs hn,fun c aB=>⟨(h.ls c aB).1,cd (h.ls c aB).2 hn⟩⟩
theorem WJ{l:List (List b7)}(h:l≠[]):l.getLast?=some (l.getLast h):=by
 cases l with
 |nil=>exact absurd rfl h
 |cons a l=>rfl
theorem ae4{l:List (List b7)}(h:tf l=true)(bb:∀c∈l.dropLast,4≤c.length):∀c∈l,4≤c.length:=by
 intro c aB;have hne:l≠[]:=List.ne_nil_of_mem aB;rw[←ae0 hne,R7,DR] at aB;rcases aB with aB|aB
 ·exact bb c aB
 ·unfold tf at h;rw[WJ hne] at h;simp only[qv,p0] at h;rw[aB];exact h.1
variable{n:Nat}{p q:cy}
theorem dW.two(h:dW n p):tf p.bQ=true→∀c∈p.bQ,2≤c.length:=fun aB c hm=>cd (by decide) (ae4 aB h.cl c hm)
theorem dW.up(h:dW n p):dW (n+1) p:=⟨h.aR,F1 h.cs,fun c aB=>⟨(h.ls c aB).1,F1 (h.ls c aB).2⟩,h.cl,F1 h.ej,h.uh,h.ok,h.b3⟩
theorem dW.same(h:dW n p)(au:q.top=p.top)(ax:q.levels=p.levels)(aA:q.jC=p.jC)(bb:q.made=p.made)(bj:q.budget=p.budget)(b8:q.gM=p.gM)(cY:q.bQ=p.bQ)(dM:nU q.at_)(e6:q.ended=p.ended):dW n q:=by
 refine⟨⟨?_,?_,?_,?_,?_,?_,dM,?_⟩,?_,?_,?_,?_,?_,?_,?_⟩
 ·rw[au,ax,bb];exact h.aR.er
 ·rw[aA,bb];exact h.aR.ap
 ·rw[bb];exact h.aR.q1
 ·rw[bb];exact h.aR.md
 ·rw[bj];exact h.aR.bo
 ·rw[ax];exact h.aR.kB
 ·rw[b8];exact h.aR.ej
 ·rw[cY];exact h.cs
 ·rw[cY];exact h.ls
 ·rw[cY];exact h.cl
 ·rw[b8];exact h.ej
 ·rw[b8];exact h.uh
 ·rw[au,ax];exact h.ok
 ·rw[e6,ax];exact h.b3
theorem dW.none(h:dW n p):dW n {p with bQ:=[]}:=⟨⟨h.aR.er,h.aR.ap,h.aR.q1,h.aR.md,h.aR.bo,h.aR.kB,h.aR.at_,h.aR.ej⟩,cO _,fun c aB=>absurd aB (by simp),fun c aB=>absurd aB (by simp),h.ej,h.uh,h.ok,h.b3⟩
theorem dW.iv{n:Nat}{p q:cy}{d:Bool}{s:dq}(h:dW n p)(aG:ef.iv p d s=.ok q):dW n q:=by
 have bP:=h.aR.iv aG
 have hs:okV s=true:=by
  cases hx:okV s with
  |true=>rfl
  |false=>unfold ef.iv at aG;rw[aW hx] at aG;cases aG
 obtain⟨rfl,_⟩:=UL aG;refine⟨bP,h.cs,h.ls,h.cl,h.ej,h.uh,fun v aS o a1=>?_,h.b3⟩;rcases List.mem_cons.1 aS with rfl|aS
 ·rcases List.mem_append.1 a1 with a1|a1
  ·exact h.ok p.top (by simp) o a1
  ·rw[DR] at a1;subst a1;exact hs
 ·exact h.ok v (by simp[aS]) o a1
theorem dW.jU{n:Nat}{p q:cy}{d:Bool}{s:dq}{t:gj}(h:dW n p)(aG:ef.jU p d s t=.ok q):dW n q:=by
 unfold ef.jU at aG;split at aG
 ·cases aG
 ·exact h.iv aG
theorem dW.mq{n:Nat}{f:Bool→Bool}{t:gj}:∀{l:List iH} {p q:cy},dW n p→ef.mq f t l p=.ok q→dW n q
 |[],p,q,h,aG=>by unfold ef.mq at aG;injection aG with aG;exact aG ▸ h
 |o::l,p,q,h,aG=>by
  unfold ef.mq at aG;split at aG
  ·cases aG
  ·rename_i r hr;exact dW.mq (h.jU hr) aG
theorem dW.fill(h:dW n p)(aG:DY p=.ok q):dW n q:=by
 unfold DY at aG;split at aG
 ·cases aG
 ·split at aG
  ·cases aG
  ·split at aG
   ·injection aG with aG;exact aG ▸ h.none
   ·exact h.none.iv aG
variable{t:b7}
theorem dW.move(h:dW n p)(aG:Af p t=.ok q):dW (n+1) q:=by
 unfold Af at aG;split at aG
 ·injection aG with aG;exact aG ▸ h.up
 ·split at aG
  ·cases aG
  ·rename_i aB;injection aG with aG;subst aG;have gX:tf p.bQ=true:=(by cases hx:tf p.bQ;exact absurd hx aB;rfl);have au:=h.up;refine⟨⟨h.aR.er,h.aR.ap,h.aR.q1,h.aR.md,h.aR.bo,h.aR.kB,h.aR.at_,h.aR.ej⟩,?_,fun c hm=>?_,fun c hm=>?_,au.ej,h.uh,h.ok,h.b3⟩
   ·show (p.bQ++[[t]]).length≤n+1;rw[fH];have:=h.cs;simp;omega
   ·have hm:c∈p.bQ++[[t]]:=hm;rcases List.mem_append.1 hm with hm|hm
    ·exact au.ls c hm
    ·rw[DR] at hm;subst hm;exact⟨by simp,by simp⟩
   ·have hm:c∈(p.bQ++[[t]]).dropLast:=hm;rw[Vn] at hm;exact ae4 gX h.cl c hm
variable{c:C}
theorem dW.draw{r:b7}(h:dW n p)(aG:yJ p c t r=.ok q):dW (n+1) q:=by
 unfold yJ at aG;simp only at aG
 repeat' split at aG
 all_goals first
  |cases aG;done
  |exact (h.iv aG).up
  |(injection aG with aG;exact aG ▸ h.up)
  |skip
 all_goals
  rename_i hne;injection aG with aG;subst aG;have au:=h.up;have hd:p.bQ.dropLast++[p.bQ.getLastD []]=p.bQ:=(by rw[UB,WJ hne];exact ae0 hne);have hlast:p.bQ.getLastD []∈p.bQ:=(by rw[UB,WJ hne];exact List.getLast_mem hne);refine⟨⟨h.aR.er,h.aR.ap,h.aR.q1,h.aR.md,h.aR.bo,h.aR.kB,h.aR.at_,h.aR.ej⟩,?_,fun c hm=>?_,fun c hm=>?_,au.ej,h.uh,h.ok,h.b3⟩
  ·show (mr p.bQ t).length≤n+1;unfold mr;have:=h.cs;have ax:0<p.bQ.length:=List.length_pos_iff.2 hne;rw[fH,zs];simp;omega
  ·have hm:c∈p.bQ.dropLast++[p.bQ.getLastD [] ++[t]]:=hm;rcases List.mem_append.1 hm with hm|hm
   ·exact au.ls c (List.dropLast_subset _ hm)
   ·rw[DR] at hm;subst hm;have:=(h.ls _ hlast).2;refine⟨by simp,?_⟩;rw[fH];show _+1≤n+1;omega
  ·have hm:c∈(p.bQ.dropLast++[p.bQ.getLastD [] ++[t]]).dropLast:=hm;rw[Vn] at hm;exact h.cl c hm
theorem dW.ar0(h:dW n p)(aG:xd p t=.ok q):dW n q:=by
 unfold xd at aG;split at aG
 ·cases aG
 ·split at aG
  ·cases aG
  ·split at aG
   ·exact h.jU aG
   ·exact h.mq aG
theorem dW.oper(h:dW n p)(aG:xe p c=.ok q):dW (n+1) q:=by
 by_cases hu:p.unit=0∨p.formed=false
 ·unfold xe at aG;rw[aW hu] at aG;cases aG
 have key:∃cT:Nat→Int,wO p c cT 4:=by
  unfold xe at aG;rw[aN hu] at aG;cases aF:j9 p c.x p.at_.1 with
  |none=>rw[aF] at aG;cases aG
  |some a=>
   cases au:j9 p c.y p.at_.2 with
   |none=>rw[aF,au] at aG;cases aG
   |some b=>
    cases ax:j9 p c.i 0 with
    |none=>rw[aF,au,ax] at aG;cases aG
    |some d=>
     cases aA:j9 p c.j 0 with
     |none=>rw[aF,au,ax,aA] at aG;cases aG
     |some e=>
      refine⟨fun|0=>a|1=>b|2=>d|3=>e|_=>0,fun i hi=>?_,fun i hi=>?_⟩
      ·rcases (show i=0∨i=1∨i=2∨i=3 by omega) with rfl|rfl|rfl|rfl
       ·exact aF
       ·exact au
       ·exact ax
       ·exact aA
      ·match i,hi with
       |i+4,_=>rfl
 obtain⟨cT,aI⟩:=key;have fC:=aI.nU h.aR.at_;rw[abJ hu aI] at aG;have hF:∀r,dW (n+1) r→dW (n+1) {r with at_:=(cT 0,cT 1)}:=fun r hr=>hr.same rfl rfl rfl rfl rfl rfl rfl ⟨(fC 0 (by decide)).1,(fC 0 (by decide)).2,(fC 1 (by decide)).1,(fC 1 (by decide)).2⟩ rfl;generalize hx:(if c.n=1 then yJ p c (cT 0,cT 1) (cT 2,cT 3) else if c.n=2 then Af p (cT 0,cT 1) else if c.n=3 then xd p (cT 0,cT 1) else .error 4)=x at aG;cases x with
 |error k=>cases aG
 |ok r=>
  have aG:Except.ok {r with at_:=(cT 0,cT 1)}=.ok q:=aG;injection aG with aG;rw[←aG];apply hF;split at hx
  ·exact h.draw hx
  ·split at hx
   ·exact h.move hx
   ·split at hx
    ·exact (h.ar0 hx).up
    ·cases hx
theorem dW.define(h:dW n p)(hn:n<1000000)(ay:c.blocks.length≤1000000∧∀b∈c.blocks,oL b)(aG:Jz p c=.ok q):dW (n+1) q:=by
 have sm:∀r:cy,r.top=p.top→r.levels=p.levels→r.jC=p.jC→r.made=p.made→r.budget=p.budget→r.gM=p.gM→r.bQ=p.bQ→r.at_=p.at_→r.ended=p.ended→dW (n+1) r:=fun r au ax aA bb bj b8 cY dM e6=>h.up.same au ax aA bb bj b8 cY (by rw[dM];exact h.aR.at_) e6;have au:=h.up;unfold Jz at aG;split at aG
 ·split at aG
  ·cases aG
  ·injection aG with aG;subst aG;exact sm _ rfl rfl rfl rfl rfl rfl rfl rfl rfl
 split at aG
 ·split at aG
  ·cases aG
  ·injection aG with aG;subst aG;exact sm _ rfl rfl rfl rfl rfl rfl rfl rfl rfl
 split at aG
 ·split at aG
  ·cases aG
  ·injection aG with aG;subst aG;have hm:(p.gM++[(⟨c.t,c.blocks⟩:mo)]).length≤n+1:=(by rw[fH];have:=h.ej;show _+1≤n+1;omega);exact⟨⟨h.aR.er,h.aR.ap,h.aR.q1,h.aR.md,h.aR.bo,h.aR.kB,h.aR.at_,by show (p.gM++[(⟨c.t,c.blocks⟩:mo)]).length≤1000000;omega⟩,au.cs,au.ls,au.cl,hm,fun m hm=>(List.mem_append.1 hm).elim (h.uh m) fun hm=>by rw[DR] at hm;subst hm;exact ay,h.ok,h.b3⟩
 ·unfold mn at aG;split at aG
  ·cases aG
  ·split at aG
   ·cases aG
   ·injection aG with aG;subst aG;refine⟨⟨h.aR.er,fun k a ha=>?_,h.aR.q1,h.aR.md,h.aR.bo,h.aR.kB,h.aR.at_,h.aR.ej⟩,au.cs,au.ls,au.cl,au.ej,h.uh,h.ok,h.b3⟩;simp only at ha;split at ha
    ·injection ha with ha;subst ha;exact h.aR.q1
    ·exact h.aR.ap k a ha
theorem dW.set(h:dW n p)(aG:JA p c=.ok q):dW (n+1) q:=by
 have sm:∀r:cy,r.top=p.top→r.levels=p.levels→r.jC=p.jC→r.made=p.made→r.budget=p.budget→r.gM=p.gM→r.bQ=p.bQ→r.at_=p.at_→r.ended=p.ended→dW (n+1) r:=fun r au ax aA bb bj b8 cY dM e6=>h.up.same au ax aA bb bj b8 cY (by rw[dM];exact h.aR.at_) e6;unfold JA at aG
 repeat' split at aG
 all_goals first
  |(cases aG;done)
  |(injection aG with aG;subst aG;exact sm _ rfl rfl rfl rfl rfl rfl rfl rfl rfl)
theorem dW.ar1{k:Int}(h:dW n p)(aG:ae1 p k q):dW n q:=by
 obtain⟨s,r,rd,rfl⟩:=aG;refine⟨⟨h.aR.er,fun j a ha=>?_,h.aR.q1,h.aR.md,h.aR.bo,h.aR.kB,h.aR.at_,h.aR.ej⟩,h.cs,h.ls,h.cl,h.ej,h.uh,h.ok,h.b3⟩;simp only at ha;split at ha
 ·injection ha with ha;subst ha;exact h.aR.q1
 ·exact h.aR.ap j a ha
theorem dW.push(v:nD)(h:dW n p)(aS:v.eg=[]∧0≤v.n∧v.n≤10000∧0≤v.m∧v.m≤10000∧nU v.eI)(az:p.levels.length<16)(he:p.ended=false):dW n {p with top:=v,levels:=p.top::p.levels}:=by
 refine⟨⟨fun u hu=>?_,h.aR.ap,h.aR.q1,h.aR.md,h.aR.bo,az,h.aR.at_,h.aR.ej⟩,h.cs,h.ls,h.cl,h.ej,h.uh,fun u hu o a1=>?_,fun au=>?_⟩
 ·rcases List.mem_cons.1 hu with rfl|hu
  ·refine⟨?_,aS.2⟩;rw[aS.1];exact h.aR.q1
  ·exact h.aR.er u hu
 ·rcases List.mem_cons.1 hu with rfl|hu
  ·rw[aS.1] at a1;cases a1
  ·exact h.ok u hu o a1
 ·have au:p.ended=true:=au;rw[he] at au;cases au
theorem dW.ar2(h:dW n p)(aG:ab4 p q)(he:p.ended=false):dW n q:=by obtain⟨a,b,x,y,rfl,ha,ay,hx,az⟩:=aG;exact h.push _ ⟨rfl,ha.1,ha.2,ay.1,ay.2,hx⟩ az he
theorem dW.ar3{k:Int}(h:dW n p)(aG:(if BP p k=true then .error 4 else if 16≤p.levels.length then .error 6 else .ok {p with top:={j8 with code:=k},levels:=p.top::p.levels}:Except Nat cy)=.ok q)(he:p.ended=false):dW n q:=by
 split at aG
 ·cases aG
 split at aG
 ·cases aG
 rename_i az;injection aG with aG;subst aG;exact h.push _ ⟨rfl,As _,(by show (0:Int)≤10000;decide),As _,(by show (0:Int)≤10000;decide),(by show nU ((0:Int),(0:Int));unfold nU;decide)⟩ (by omega) he
theorem dW.pop{v:nD}{l:List nD}(h:dW n p)(az:p.levels=v::l):dW n {p with top:=v,levels:=l}:=
 have hm:∀u∈v::l,u∈p.top::p.levels:=fun u hu=>by rw[az];exact zO _ hu
 ⟨⟨fun u hu=>h.aR.er u (hm u hu),h.aR.ap,h.aR.q1,h.aR.md,h.aR.bo,by have au:=h.aR.kB;rw[az,eT] at au;show l.length≤16;omega,h.aR.at_,h.aR.ej⟩,h.cs,h.ls,h.cl,h.ej,h.uh,fun u hu=>h.ok u (hm u hu),fun he=>by have au:=h.b3 he;rw[az] at au;cases au⟩
theorem dW.ar4(h:dW n p)(aG:ab7 p q):dW n q:=by
 obtain⟨v,l,az,rfl⟩:=aG;have g:=h.pop az;refine⟨⟨g.aR.er,fun j a ha=>?_,g.aR.q1,g.aR.md,g.aR.bo,g.aR.kB,g.aR.at_,g.aR.ej⟩,g.cs,g.ls,g.cl,g.ej,g.uh,g.ok,g.b3⟩;simp only at ha;split at ha
 ·injection ha with ha;subst ha;exact (h.aR.er p.top (by simp)).1
 ·exact h.aR.ap j a ha
theorem dW.ar5(n:Nat):ab8 (dW n):=⟨fun q bJ d s t h aG=>h.jU aG,fun q h=>h.aR.aD,fun q h=>h.aR.HX,fun q h=>h.aR.x5⟩
theorem dW.ended{n:Nat}{p:cy}(h:dW n p)(az:p.levels=[]):dW (n+1) {p with ended:=true}:=
 have g:=h.up
 ⟨⟨h.aR.er,h.aR.ap,h.aR.q1,h.aR.md,h.aR.bo,h.aR.kB,h.aR.at_,h.aR.ej⟩,g.cs,g.ls,g.cl,g.ej,g.uh,g.ok,fun _=>az⟩
theorem dW.ae5(r:Bool)(h:dW n p):dW n {p with region:=r}:=h.same rfl rfl rfl rfl rfl rfl rfl h.aR.at_ rfl
theorem ar6:x' (DY p):=by
 intro k h;unfold DY at h;split at h
 ·cases h;decide
 ·split at h
  ·cases h;decide
  ·split at h
   ·cases h
   ·exact abD _ h
theorem ar7:x' (xe p c):=by
 intro k h;unfold xe at h;split at h
 ·cases h;decide
 split at h
 ·cases h;decide
 split at h
 ·cases h;decide
 split at h
 ·cases h;decide
 split at h
 ·cases h;decide
 split at h
 ·rename_i e he;injection h with h;subst h;split at he
  ·exact abH _ he
  ·split at he
   ·exact abC _ he
   ·split at he
    ·exact abG _ he
    ·cases he;decide
 ·cases h
theorem ar8:x' (JA p c):=by
 intro k h;unfold JA at h;split at h
 ·cases h
 split at h
 ·cases h
 split at h
 ·split at h
  ·cases h;decide
  ·cases h
 split at h
 ·cases h
 split at h
 ·cases h
 split at h
 ·cases h;decide
 ·cases h
end c1
namespace c1
open Go.RowKit ef
def Bz(cs:List (List b7))(cx ys:aev)(j:Nat):Prop:=ys.length=j∧∀i (hi:i<cs.length),i<j→∃q c,cx[i]?=some (.slice q cs[i].length c)∧ys[i]?=some (ad q (cs[i].length-1) (cs[i].length-1))
theorem Bz.nil(cs:List (List b7))(cx:aev):Bz cs cx [] 0:=⟨rfl,fun i _ h=>absurd h (lS _)⟩
theorem Bz.push{cs:List (List b7)}{cx ys:aev}{j:Nat}(h:Bz cs cx ys j){q:Ja}{c len:Nat}(b6:j<cs.length)(az:cs[j].length=len)(aB:cx[j]?=some (ad q len c)):Bz cs cx (ys++[ad q (len-1) (len-1)]) (j+1):=by
 refine⟨by rw[fH,h.1];rfl,fun i hi Py=>?_⟩;by_cases e:i=j
 ·subst e;have ar9:=h.1;rw[xz (by omega),ar9,T6,az];exact⟨q,c,aB,rfl⟩
 ·have az:i<ys.length:=(by have:=h.1;omega);rw[Ey az];exact h.2 i hi (by omega)
abbrev dropped(cs:List (List b7)):List (List b7):=cs.map List.dropLast
def zV(cs:List (List b7)):Nat:=((cs.map List.dropLast).map List.length).sum
theorem ae6(cs:List (List b7))(j:Nat)(b6:j<cs.length):zV (cs.take (j+1))=zV (cs.take j)+(cs[j].length-1):=by unfold zV;rw[AB b6,v7,v7,List.sum_append];simp only[nx,nF,RF,List.sum_nil,zs,Gy]
theorem ae7(cs:List (List b7))(h:∀c∈cs,c.length≤1000000):∀j,j≤cs.length→zV (cs.take j)≤j *1000000
 |0,_=>by simp[zV]
 |j+1,b6=>by have:=ae7 cs h j (by omega);have ax:=h cs[j] (k3 _);rw[ae6 cs j (by omega)];omega
theorem asa{w0:aeo}{P:Nat}{R:afp}{m:Nat}{L:nm}{fu:Int}{cv ov:ada}{cx ox:aev}{p:cy}{W X Y:aeo}{D:Nat}{er:ada}{ys:aev}{n:Nat}(hn:p.bQ.length=n)
  (h:dV w0 P R m L fu cv ov cx ox p W) (b4:W.heap.size=D) (hf:zu w0.heap.size D W p.bQ er ys n X) (hr:Bz p.bQ cx ys n) (ay:p.bQ.length≤1000000∧∀c∈p.bQ,0<c.length∧c.length≤1000000) (e7:∀k,k≠P→Y.heap[k]?=X.heap[k]?) (WK:∀k cs t,al X k cs t→t=de∨t=e0→k≠P):
  ∃pl cl,er=ad pl n cl∧n≤cl∧iS (fun k=>R k∨HW w0.heap.size Y k) Y pl (dropped p.bQ):=by
 obtain⟨pl,cl,rfl⟩:=iw hf.own;have hlen:(dropped p.bQ).length=n:=by rw[jV,hn]
 have pv:∀c∈p.bQ,c.length≤jr:=fun c aB=>by have:=(ay.2 c aB).2;show _≤1000000000;omega
 have ae8:an W W X:=by rw[b4];exact hf.aM
 have dp:∀k,HW w0.heap.size X k→HW w0.heap.size Y k:=by rintro k ⟨au,cs,t,ax,aA⟩;exact⟨au,cs,t,(e7 k (WK k cs t ax aA)).trans ax,aA⟩
 have SK:∀k,q0 R w0.heap.size W k→R k∨HW w0.heap.size Y k:=by
  rintro k (aw|⟨bz,cs,aw⟩)
  ·exact .inl aw
  ·exact .inr (dp k ⟨bz,cs,de,ba aw ae8,.inl rfl⟩)
 rcases hf.own.2 with ⟨aY,a6⟩|⟨g,c,cur,aY,bz,aE,au,ax,aA,bb⟩
 ·injection aY with cV iI lu;subst a6;refine⟨pl,cl,rfl,cO _,by rw[hlen];exact cO _,fun h=>by rw[hlen] at h;exact absurd h (mi _)⟩
 ·injection aY with cV iI lu;subst cV lu;refine⟨_,cl,rfl,au,by rw[hlen];show _≤1000000000;omega,fun az=>?_⟩;have aI:g≠P:=WK g cur e0 aE (.inr rfl);have HT:=(e7 g aI).trans aE;have Ek:w0.heap.size≤g:=(by have:=h.aM.size;omega);refine⟨g,0,cur,rfl,.inr ⟨Ek,cur,e0,HT,.inr rfl⟩,HT,fun i hi=>?_⟩;have oq:i<p.bQ.length:=(by rw[jV] at hi;exact hi);obtain⟨q,c,dP,bM⟩:=hr.2 i oq (by omega);obtain⟨D8,c',g1,g2,g3⟩:=h.bg.all pv i oq;rw[dP] at g1;injection g1 with g1;injection g1 with g1 _ g4;subst g1 g4;have e:(dropped p.bQ)[i]=p.bQ[i].dropLast:=Sh ..;rw[e,zs];refine⟨q,p.bQ[i].length-1,?_,aP _,?_⟩
  ·rw[jt,←bM,←bb,ra,aW (by omega)];simp
  ·have g5:=g3.below ae8;have g6:gV (fun k=>R k∨HW w0.heap.size Y k) X q p.bQ[i]:=g5.mono fun k _ aw=>SK k aw;obtain⟨ew,a2⟩:=g6.pre;refine⟨ew,fun az=>?_⟩;obtain⟨b,o,cs,f1,f2,f3,f4⟩:=a2 az;exact⟨b,o,cs,f1,f2,(e7 b (WK b cs de f3 (.inl rfl))).trans f3,f4⟩
theorem asb(w0:aeo)(P:Nat)(p:cy)(w:aeo)(H:af (jl w0 P p w))(hs:Fk p)(ax:tf p.bQ=true→∀c∈p.bQ,2≤c.length)(nN:p.top.eg.length≤1000000)(Fe:0≤p.made∧p.made≤1000000)(zq:p.levels.length≤1000)(res:Except Nat cy)(c6:af (DY p=res)):
  Calls Tryz.prog 81 #[ah P 0] w fun e w'=>gi w0 P res e w':=by
 obtain⟨f,hf⟩:=aq (tf p.bQ);have bG:=ao hf;have bH:=ao hs;have bp:=ao ax;have aQ:af ((if f=false then .error 4 else if 1000<zV p.bQ then .error 6 else if p.bQ=[] then .ok {p with bQ:=[]} else iv {p with bQ:=[]} p.fe (nB (mZ (dropped p.bQ))))=res):=by rw[←c6.out,←hf];rfl
 clear hf hs ax c6;go_enter Tryz.func81,Tryz.ntmps81;go_wp2_with fail;with_reducible refine (aa6 w0 P p w H bH.out f bG).mono ?_
 rintro e W ⟨rfl,ay⟩;have bN:=ao (H.out.below ay);clear H ay;cases f with
 |false=>
  have aJ:af (.error 4=res):=aQ.out;have aH:af (an w0 w0 W):=(by obtain⟨_,_,_,_,_,_,_,_,h⟩:=bN.out;exact h.aM);go_wp2_with fail;go_ret;rw[←aJ.out];exact⟨aH.out,rfl⟩
 |true=>
  obtain⟨R,m,L,fu,cv,ov,cx,ox,h⟩:=bN.out;have H1:=ao h;have dC:af ((if 1000<zV p.bQ then .error 6 else if p.bQ=[] then .ok {p with bQ:=[]} else iv {p with bQ:=[]} p.fe (nB (mZ (dropped p.bQ))))=res):=aQ.out;clear bN h aQ;obtain⟨n,hn⟩:=aq p.bQ.length;have bd:=ao hn;have iX:n≤1000000:=(by rw[←hn];exact bH.out.1);have pQ:World.ownsRow W w0.heap.size e0 1 cv p.bQ.length cx:=H1.out.bg.own;rw[hn] at pQ;clear hn;obtain⟨ix,jD,rfl⟩:=iw pQ;have Ff:=ao pQ;clear pQ;go_upto_region 5 with fail;have b9:af ((W.alloc (ai (#[I 2,I 0,I 0,I 0,I 0,I 0,I 0,I 0,J 0,J 0]) cQ)).heap[W.heap.size]?=some (.cells #[I 2,I 0,I 0,I 0,I 0,I 0,I 0,I 0,J 0,J 0] cQ)):=cR _ _;have yb:af (zu w0.heap.size W.heap.size W p.bQ (J 0) [] 0 (W.alloc (ai (#[I 2,I 0,I 0,I 0,I 0,I 0,I 0,I 0,J 0,J 0]) cQ))):=⟨b9.out,⟨rfl,.inl ⟨rfl,rfl⟩⟩,bh _ _⟩;have wM:(W.alloc (ai (#[I 2,I 0,I 0,I 0,I 0,I 0,I 0,I 0,J 0,J 0]) cQ)).cell? ⟨P,20,none⟩=some (ad ix n jD):=bD (bh _ _) (cell_of (i:=20) H1.out.pl rfl);generalize W.alloc (.cells #[I 2,I 0,I 0,I 0,I 0,I 0,I 0,I 0,J 0,J 0] cQ)=adu at b9 yb wM⊢;obtain⟨D,b4⟩:=aq W.heap.size;have rB:=ao b4;rw[b4] at yb⊢;clear b4 b9;go_wp2_with fail;clear wM
  go_loopw [4,17] (fun t i wr=>∃(j N:Nat) (er:ada) (ys:aev) (aL:aeo),aL=wr∧j≤n∧i=I j∧t=I N∧af (N=zV (p.bQ.take j))∧af (zu w0.heap.size D W p.bQ er ys j aL)∧af (Bz p.bQ cx ys j)) (fun _ i _=>n -(intOf i).toNat)
  case atStart=>exact⟨0,0,_,_,_,rfl,cO _,rfl,rfl,rfl,yb.out,Bz.nil _ _⟩
  case round=>
  obtain⟨j,N,er,ys,aL,rfl,b6,rfl,rfl,jJ,aJ,Ei⟩:=hrel;have aqW:N≤j *1000000:=(by rw[jJ.out];exact ae7 _ (fun c aB=>(bH.out.2 c aB).2) j (by rw[bd.out];exact b6));by_cases bm:j<n
  ·have gD:j<p.bQ.length:=(by rw[bd.out];exact bm);have fD:(j:Int)<(n:Int):=(by omega);obtain⟨len,hlen⟩:=aq (p.bQ[j].length);have hc:2≤len:=(by rw[←hlen];exact bp.out bG.out _ (k3 _));have RZ:len≤1000000:=(by rw[←hlen];exact (bH.out.2 _ (k3 _)).2);obtain⟨q,c,dP,bM,fk⟩:=H1.out.bg.all (fun c aB=>by have:=(bH.out.2 c aB).2;show _≤1000000000;omega) j gD;obtain⟨o2,eP,_,aG,_⟩:=fk.2 (by omega);subst aG;rw[hlen] at dP bM;have nh:=ao hlen;have iV:=ao dP;obtain⟨iP,lq⟩:∃k,len=k+1:=⟨len-1,by omega⟩;subst lq
   obtain⟨K,JZ,lR⟩:∃K,ix=some ⟨K,0,none⟩∧ak aL K j (ad (some (aj o2 eP)) (iP+1) c):=by
    have a1:=Ff.out;rcases a1.2 with ⟨aY,a6⟩|⟨g,cap,cur,aY,bz,aE,g1,g2,g3,g4⟩
    ·omega
    ·injection aY with cV _ lu;subst cV lu;refine⟨g,rfl,?_⟩;have bb:=(a1.cellAt j (by omega)).trans iV.out;exact bD (by have:=aJ.out.aM;rw[←rB.out] at this;exact this) bb
   subst JZ;clear hlen dP fk;have ry:ae (((iP:Int)+1)-1)=(iP:Int):=(by rw[gw _ (by omega)];omega);have x4:ae ((N:Int)+(iP:Int))=((N+iP:Nat):Int):=(by rw[gw _ (by omega)];omega);have qG:(0:Int)≤(j:Int):=(by omega);have ti:(0:Int)≤(iP:Int):=(by omega);have fX:(iP:Int)≤(c:Int):=(by omega);have jH:iP≤c:=(by omega);have G8:¬iP=0:=(by omega);go_upto_region 10 with fail;clear lR ry x4;have WL:=aJ.out.own;obtain⟨eH,wX,rfl⟩:=iw WL;have k8:af ((aL.drew.alloc (ai (#[ad (some (aj o2 eP)) iP iP]) e0)).ownsRow (D+1) e0 1 (ad eH j wX) j ys):=WL.drew.alloc _;have ae9:=ao (aJ.out.below (show Below aL.heap.size aL (aL.drew.alloc (ai (#[ad (some (aj o2 eP)) iP iP]) e0)) from (Below.refl _ _).drew.alloc (aP _) _));clear WL;have d8:ak aL D 8 (ad eH j wX):=cell_of (i:=8) aJ.out.bq rfl;have f8:=dc aJ.out.bq 8;have rz:=lt_of_heap aJ.out.bq;have jX:∀(bZ:aeo),(aL.drew.alloc (ai (#[ad (some (aj o2 eP)) iP iP]) e0)).grownBy bZ (Value.slice eH j wX).ownBlock→ak bZ D 8 (ad eH j wX)∧bZ.frozen? ⟨D,8,none⟩=false:=(by intro bZ pR;have aF:=ae9.out.bq;have au:=(pR.block _ (lt_of_heap aF) (eN (lH k8.out aF (by decide)))).trans aF;exact⟨cell_of au rfl,dc au 8⟩);obtain⟨i0,hi,cW,dv,dx⟩:=info_parts abj;have bL:=ao (And.intro hi (And.intro cW (And.intro dv dx)));clear hi cW dv dx
   go_region_law (first|(refine sr _ (by rfl) _ _ _ (by rfl) (D+1) e0 i0 (J 0) 1 24 NZ bL.out.1 bL.out.2.1 bL.out.2.2.1 bL.out.2.2.2 rfl (by omega) (ad eH j wX) j _ (by rfl) k8.out (aj aL.heap.size 0) 1 1 [ag o2 eP iP iP] (by rfl) (by rfl) (jx (cs:= #[ad (some (aj o2 eP)) iP iP]) (t:=e0) (fr:=(0,0)) (dL aL _)) (by simp[Value.oneCell']) (by omega) (by unfold maxLen;omega) (by omega) (by simp;omega) (aL.heap.size+1) (by simp) ?_;intro gg gG br ct dn dF h5;obtain⟨bI,bJ⟩:=jX br dn)|fail)
   all_goals
    have P9:=ao (zu.push ae9.out dn ct);have asc:af (Bz p.bQ cx (ys++[ad (some (aj o2 eP)) iP iP]) (j+1)):=Ei.out.push gD nh.out iV.out;have U6:af (N+iP=zV (p.bQ.take (j+1))):=(by show _=_;rw[ae6 _ _ gD,nh.out,←jJ.out];rfl);clear ct dn dF h5 bI bJ d8 f8 jX;go_wp2_with fail;go_round<;>first|exact⟨j+1,N+iP,_,_,_,rfl,by omega,by go_num,by go_num,U6.out,P9.out,asc.out⟩|(simp[intOf]<;>omega)
  ·have kM:j=n:=(by omega);subst kM;have rz:=lt_of_heap aJ.out.bq;have afa:af (an W W aL):=(by have h:=aJ.out.aM;rw[←rB.out] at h;exact h);have bW:=ao (H1.out.below afa.out);have LD:P≠D:=(fun e=>by have:=lt_of_heap H1.out.pl;have:=rB.out;omega);have f20:=dc bW.out.pl 20;have wM:ak aL P 20 (ad ix j jD):=cell_of (i:=20) bW.out.pl rfl;have kr:=asa (Y:=aL.setCell (aj P 20) (J 0)) bd.out H1.out rB.out aJ.out Ei.out bH.out (fun k aw=>lT aw) (fun k cs t aE bc=>by rcases bc with rfl|rfl<;>exact g' aE bW.out.pl (by decide));obtain⟨eH,wX,rfl,kC,afb⟩:=kr;have kc:=ao afb;clear afb;have ht:=ao (dV.rows bW.out.aml rfl);have WM:af ((aL.setCell (aj P 20) (J 0)).heap[D]?=some (.cells #[I 2,I 0,I 0,I 0,I 0,I 0,I 0,I 0,ad eH j wX,J 0] cQ)):=(lT (eN LD)).trans aJ.out.bq;have aw8:N≤1000000000000:=(by omega);have lb:af (N=zV p.bQ):=(by have h:=jJ.out;rw[←bd.out,vI] at h;exact h);go_upto_region 13 with fail;generalize aL.setCell (aj P 20) (J 0)=gO at kc ht WM⊢;clear wM f20 aJ Ei jJ afa bW;have d8:ak gO D 8 (ad eH j wX):=cell_of (i:=8) WM.out rfl;by_cases afc:1000<N
   ·have AW:((N:Int)> 1000):=(by omega);have aJ:af (.error 6=res):=ao ((aW (by rw[←lb.out];exact afc)).symm.trans dC.out);go_wp2_with fail
    all_goals
     go_ret;rw[←aJ.out];exact⟨ht.out.aM,rfl⟩
   have AW:¬((N:Int)> 1000):=(by omega);have fz:af ((if p.bQ=[] then .ok {p with bQ:=[]} else iv {p with bQ:=[]} p.fe (nB (mZ (dropped p.bQ))))=res):=ao ((aN (by rw[←lb.out];exact afc)).symm.trans dC.out);clear dC;by_cases qG:j=0
   ·subst qG;have aJ:af (.ok {p with bQ:=[]}=res):=ao ((aW (lP bd.out)).symm.trans fz.out);go_wp2_with fail
    all_goals
     go_ret;rw[←aJ.out];exact gi.nR rfl ht.out
   have aw9:(((j:Int)==0):Bool)=false:=(by rw[fO];omega);have uJ:af (iv {p with bQ:=[]} p.fe (nB (mZ (dropped p.bQ)))=res):=ao ((aN (fun h=>qG (by rw[←bd.out,h];rfl))).symm.trans fz.out);clear fz;have qb:(dropped p.bQ).length=j:=(by rw[jV,bd.out]);have mz:∀X,an gO gO X→Calls Tryz.prog 121 #[ah P 0,U p.fe,.agg #[I 2,I 0,I 0,I 0,I 0,I 0,I 0,I 0,ad eH j wX,J 0]] X fun e w'=>gi w0 P res e w':=(by intro X b2;have au:=Pm w0 P _ m L fu _ ov _ ox {p with bQ:=[]} p.fe (mZ (dropped p.bQ)) .nil eH wX none 0 X (ht.out.below b2) (show Hid _ from⟨kc.out.below b2,.nil _ _ _,by show (dropped p.bQ).length≤_;rw[qb];exact kC,aP _⟩) nN Fe zq res uJ;have e:(Value.slice eH j wX)=ad eH (dropped p.bQ).length wX:=(by rw[qb]);rw[e];exact au.mono fun _ _ h=>h.res);have cJ:=ao mz;clear mz qb kc uJ nN Fe zq;go_upto_region 17 with fail;obtain⟨s0,s1,s2,kV,l1,l2,l3,l4,l5,l6⟩:=dQ WM.out;have lZ:ak gO P 13 (U p.fe):=cell_of (i:=13) ht.out.pl rfl
   go_region_law (first|(rw[aW (by rfl)];go_simp;go_at_call 121;with_reducible refine (cJ.out _ ((Below.refl _ _).drew)).mono ?_;intro e b' c6;obtain⟨v6,rfl⟩:=c6.ret)|fail)
   all_goals
    clear s0 s1 s2 kV l1 l2 l3 l4 l5 l6 lZ d8;go_wp2_with fail;go_ret;exact c6
end c1
