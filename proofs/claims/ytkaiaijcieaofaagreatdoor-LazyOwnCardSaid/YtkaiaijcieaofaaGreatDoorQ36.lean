/- Lemmas. -/
import Derived.Test.YtkaiaijcieaofaaGreatDoorQ35
set_option linter.all false
set_option maxRecDepth 100000
set_option maxHeartbeats 25600000
namespace Go.Proofs.YtkaiaijcieaofaaGreatDoor
namespace c1
open Go.RowKit ef
open cB (C dN)
open gK (iO iN dd fG)
def ig(E:Prop)(Q:cy→Prop)(w0:aeo)(P:Nat)(e:Ending)(w':aeo):Prop:=Below w0.heap.size w0 w'∧((E∧∃k:Nat,k≠0∧e=ab (I (k:Int)))∨∃q,Q q∧e=ab (I 0)∧jl w0 P q w')
variable{E:Prop}{Q:cy→Prop}{w0 w':aeo}{P:Nat}
theorem ig.err(ft:E)(ay:an w0 w0 w'):ig E Q w0 P (ab (I 4)) w':=⟨ay,.inl ⟨ft,4,by decide,rfl⟩⟩
theorem ig.of{LO:cy→Prop}{e:Ending}(ft:E)(h:iD Q w0 P e w')(aG:∀q,Q q→LO q):ig E LO w0 P e w':=⟨h.1,h.2.imp (fun h=>⟨ft,h⟩) fun⟨q,au,ax⟩=>⟨q,aG q au,ax⟩⟩
theorem ig.ret{e:Ending}(h:ig E Q w0 P e w'):∃v:Int,e=ab (I v):=by
 rcases h.2 with ⟨_,k,_,rfl⟩|⟨_,_,rfl,_⟩
 ·exact⟨_,rfl⟩
 ·exact⟨_,rfl⟩
theorem ig.ok{q:cy}(aG:Q q)(h:∃R m L fu cv ov cx ox,dV w0 P R m L fu cv ov cx ox q w'):ig E Q w0 P (ab (I 0)) w':=by obtain⟨_,_,_,_,_,_,_,_,au⟩:=id h;exact⟨au.aM,.inr ⟨q,aG,rfl,h⟩⟩
abbrev WN(k:Int):Prop:=k=6∨k=15∨k=16∨k=17∨k=11∨k=12∨k=13∨k=14
theorem asd(w0:aeo)(P:Nat)(p:cy)(ca bU cn bY:Int)(cF:Bool)(bg c8 c9 cS aR:ar)(bF bv:ada)(w:aeo)(H:af (jl w0 P p w))(bP:nV p)(hs:Fk p)(ax:tf p.bQ=true→∀c∈p.bQ,2≤c.length)(E:Prop)(Q:cy→Prop)
  (vC:(bU=8∨bU=9∨bU=10∨bU=19)→∀Z,an w w Z→Calls Tryz.prog 79 #[ah P 0,.agg (fv ca bU cn bY cF bg c8 c9 cS aR bF bv)] Z (ig E Q w0 P))
  (sW:(bU=2∨bU=4∨bU=6∨bU=15∨bU=16∨bU=17)→∀Z,an w w Z→Calls Tryz.prog 80 #[ah P 0,.agg (fv ca bU cn bY cF bg c8 c9 cS aR bF bv)] Z (ig E Q w0 P))
  (oJ:bU=7→∀Z,an w w Z→Calls Tryz.prog 82 #[ah P 0,.agg (fv ca bU cn bY cF bg c8 c9 cS aR bF bv)] Z (ig E Q w0 P))
  (lg:bU=11→p.ended=false→∀Z,an w w Z→Calls Tryz.prog 83 #[ah P 0,.agg (fv ca bU cn bY cF bg c8 c9 cS aR bF bv)] Z (ig E Q w0 P))
  (q6:bU=13→p.ended=false→∀Z,an w w Z→Calls Tryz.prog 84 #[ah P 0,.agg (fv ca bU cn bY cF bg c8 c9 cS aR bF bv)] Z (ig E Q w0 P))
  (q7:bU=12→∀Z,an w w Z→Calls Tryz.prog 85 #[ah P 0] Z (ig E Q w0 P))
  (q8:bU=14→∀Z,an w w Z→Calls Tryz.prog 86 #[ah P 0] Z (ig E Q w0 P))
  (ft:bU≠5→E) (afd:p.ended=true∨p.region=true∨p.levels≠[]→E) (afe:bU≠5→Q p) (aff:bU≠5→Q {p with region:=true}) (afg:bU≠5→∀q,DY {p with region:=false}=.ok q→Q q) (afh:p.levels=[]→Q {p with ended:=true}):
  Calls Tryz.prog 55 #[ah P 0,.agg (fv ca bU cn bY cF bg c8 c9 cS aR bF bv)] w (ig E Q w0 P):=by
 have vC:=ao vC;have sW:=ao sW;have oJ:=ao oJ;have lg:=ao lg;have q6:=ao q6;have q7:=ao q7;have q8:=ao q8;have cc:=ao ft;have nw:=ao afd;have I8:=ao afe;have I9:=ao aff;have I':=ao afg;have MQ:=ao afh;obtain⟨R,m,L,fu,cv,ov,cx,ox,h⟩:=H.out;have H1:=ao h;have aU:=ao bP;have PE:=ao hs;have B2:=ao ax;obtain⟨b3,Jb⟩:=aq p.ended;have Dz:=ao Jb;obtain⟨rg,qm⟩:=aq p.region;have tX:=ao qm;clear h H bP hs ax Jb qm ft afd afe aff afg afh;go_enter Tryz.func55,Tryz.ntmps55;go_upto_region 1 with fail;have bp:=ao (H1.out.below (bh w (ai (fv ca bU cn bY cF bg c8 c9 cS aR bF bv) fm)));have b9:af ((w.alloc (ai (fv ca bU cn bY cF bg c8 c9 cS aR bF bv) fm)).heap[w.heap.size]?=some (.cells (fv ca bU cn bY cF bg c8 c9 cS aR bF bv) fm)):=cR _ _;have aH:af (an w w (w.alloc (ai (fv ca bU cn bY cF bg c8 c9 cS aR bF bv) fm))):=bh _ _;generalize w.alloc (.cells (fv ca bU cn bY cF bg c8 c9 cS aR bF bv) fm)=W at bp b9 aH⊢;obtain⟨D,b4⟩:=aq w.heap.size;rw[b4] at b9⊢;clear b4 H1;have zW:ak W P 24 (U b3):=by rw[←Dz.out];exact cell_of (i:=24) bp.out.pl rfl
 have nT:ak W P 19 (U rg):=by rw[←tX.out];exact cell_of (i:=19) bp.out.pl rfl
 cases b3 with
 |true=>
  have hF:E:=nw.out (.inl Dz.out);clear vC sW oJ lg q6 q7 q8 cc nw I8 I9 I' MQ;go_wp2_with fail;go_ret;exact ig.err hF bp.out.aM
 |false=>
  have d0:=cell_of (i:=0) b9.out rfl;have d1:=cell_of (i:=1) b9.out rfl;have d2:=cell_of (i:=2) b9.out rfl;have d3:=cell_of (i:=3) b9.out rfl;have d4:=cell_of (i:=4) b9.out rfl;have d5:=cell_of (i:=5) b9.out rfl;have d6:=cell_of (i:=6) b9.out rfl;have d7:=cell_of (i:=7) b9.out rfl;have d8:=cell_of (i:=8) b9.out rfl;have d9:=cell_of (i:=9) b9.out rfl;have d10:=cell_of (i:=10) b9.out rfl;have d11:=cell_of (i:=11) b9.out rfl;by_cases zX:rg=true∧WN bU
  ·obtain⟨rfl,aI⟩:=zX;have hF:E:=nw.out (.inr (.inl tX.out));clear vC sW oJ lg q6 q7 q8 cc nw I8 I9 I' MQ;rcases aI with rfl|rfl|rfl|rfl|rfl|rfl|rfl|rfl
   all_goals
    go_wp2_with fail;go_ret;exact ig.err hF bp.out.aM
  have hr:WN bU→rg=false:=(fun h=>by cases rg;rfl;exact absurd ⟨rfl,h⟩ zX);clear zX;by_cases ih:bU=3
  ·subst ih;have zY:E:=cc.out (by decide);have yc:=ao zY;have oG:=ao (I9.out (by decide));have kn:=ao (I'.out (by decide));clear vC sW oJ lg q6 q7 q8 cc nw I8 I9 I' MQ zY hr;have zI:=ao aU.out.x5;have qQ:=ao aU.out.aD;have xR:=ao aU.out.HX;cases rg<;>cases cF
   all_goals
    go_upto_region 31 with fail
    go_quiet (fail)
    have bW:=ao (bp.out.below (iu (Below.refl _ _) nq));have iQ:=ao (ba b9.out (iu (Below.refl _ _) nq));clear zW nT d0 d1 d2 d3 d4 d5 d6 d7 d8 d9 d10 d11;generalize W.drewN nq=eE at bW iQ⊢;have g19:=dc bW.out.pl 19;have d4:=cell_of (i:=4) iQ.out rfl
   ·go_wp2_with fail;go_ret;exact ig.err yc.out bW.out.aM
   ·have nT:ak eE P 19 (U false):=(by rw[←tX.out];exact cell_of (i:=19) bW.out.pl rfl);have LD:P≠D:=g' bW.out.pl iQ.out (by decide);go_wp2_with fail;go_ret;exact ig.ok oG.out ⟨R,m,L,fu,cv,ov,cx,ox,bW.out.vl (aK.set (a:=⟨P,19,none⟩) (fun aw=>aw rfl) _) (by have:=dt (k:=P) (i:=19) (U true) bW.out.pl;exact this) rfl rfl rfl rfl rfl⟩
   ·have nT:ak eE P 19 (U true):=(by rw[←tX.out];exact cell_of (i:=19) bW.out.pl rfl);have LD:P≠D:=g' bW.out.pl iQ.out (by decide);have Ir:af (jl w0 P {p with region:=false} (eE.setCell (aj P 19) (U false))):=⟨R,m,L,fu,cv,ov,cx,ox,bW.out.vl (aK.set (a:=⟨P,19,none⟩) (fun aw=>aw rfl) _) (by have:=dt (k:=P) (i:=19) (U false) bW.out.pl;exact this) rfl rfl rfl rfl rfl⟩;obtain⟨res,c6⟩:=aq (DY {p with region:=false});have fp:=ao c6;clear c6;go_wp2_with fail;with_reducible refine (asb w0 P {p with region:=false} _ Ir PE.out B2.out qQ.out xR.out zI.out res fp).mono ?_
    intro e b' ki;obtain⟨v6,rfl⟩:=ki.ret;clear nT g19 d4;go_wp2_with fail;go_ret;exact ig.of yc.out (iD.of ki (fun q aG=>kn.out q (fp.out.trans aG)) fun k aw=>ar6 k (fp.out.trans aw)) fun _ h=>h
   ·go_wp2_with fail;go_ret;exact ig.err yc.out bW.out.aM
  by_cases uE:bU=5
  ·subst uE;have afi:af (rg=true∨p.levels≠[]→E):=fun h=>nw.out (.inr (h.imp (fun h=>tX.out.trans h) id));clear vC sW oJ lg q6 q7 q8 cc nw I8 I9 I' hr ih;cases rg with
   |true=>
    have hF:=afi.out (.inl rfl);go_wp2_with fail;go_ret;exact ig.err hF bp.out.aM
   |false=>
    obtain⟨eY,eh,lc,fP,hs,eZ,bx⟩:=L;have qX:eh=p.levels.length+1:=bp.out.kz;have rN:ak W P 21 (ad (some (aj eY 0)) eh lc):=cell_of (i:=21) bp.out.pl rfl;have g24:=dc bp.out.pl 24;by_cases az:p.levels=[]
    ·have aJ:=ao (MQ.out az);have au:eh=1:=(by rw[qX,az];rfl);subst au;clear qX az;go_wp2_with fail;go_ret;exact ig.ok aJ.out ⟨_,_,_,_,_,_,_,_,bp.out.vl (aK.set (a:=⟨P,24,none⟩) (fun aw=>aw rfl) _) (by have:=dt (k:=P) (i:=24) (U true) bp.out.pl;exact this) rfl rfl rfl rfl rfl⟩
    ·have hF:=afi.out (.inr az)
     have au:1<eh:=by
      cases aB:p.levels with
      |nil=>exact absurd aB az
      |cons a l=>rw[qX,aB,eT];omega
     have AW:(eh:Int)> 1:=(by omega);clear qX az;go_wp2_with fail;go_ret;exact ig.err hF bp.out.aM
  have zY:E:=cc.out uE;have afj:Q p:=I8.out uE;clear cc nw I8 I9 I' MQ;by_cases aI:bU=1∨bU=18
  ·clear vC sW oJ lg q6 q7 q8 hr ih uE zY;rcases aI with rfl|rfl
   all_goals
    go_wp2_with fail;go_ret;exact ig.ok afj ⟨_,_,_,_,_,_,_,_,bp.out⟩
  clear afj;by_cases yQ:bU=8∨bU=9∨bU=10∨bU=19
  ·have bG:=ao (vC.out yQ);clear vC sW oJ lg q6 q7 q8 hr ih uE zY aI;rcases yQ with rfl|rfl|rfl|rfl
   all_goals
    go_wp2_with fail;with_reducible refine (bG.out _ aH.out).mono ?_
    intro e b' ki;obtain⟨v6,rfl⟩:=ki.ret;clear zW nT d0 d1 d2 d3 d4 d5 d6 d7 d8 d9 d10 d11;go_wp2_with fail;go_ret;exact ki
  by_cases AP:bU=2∨bU=4
  ·have bG:=ao (sW.out (AP.elim .inl fun h=>.inr (.inl h)));clear vC sW oJ lg q6 q7 q8 hr ih uE zY aI yQ;rcases AP with rfl|rfl
   all_goals
    go_wp2_with fail;with_reducible refine (bG.out _ aH.out).mono ?_
    intro e b' ki;obtain⟨v6,rfl⟩:=ki.ret;clear zW nT d0 d1 d2 d3 d4 d5 d6 d7 d8 d9 d10 d11;go_wp2_with fail;go_ret;exact ki
  by_cases pR:bU=7
  ·have bG:=ao (oJ.out pR);clear vC sW oJ lg q6 q7 q8 hr ih uE zY aI yQ AP;subst pR;go_wp2_with fail;with_reducible refine (bG.out _ aH.out).mono ?_
   intro e b' ki;obtain⟨v6,rfl⟩:=ki.ret;clear zW nT d0 d1 d2 d3 d4 d5 d6 d7 d8 d9 d10 d11;go_wp2_with fail;go_ret;exact ki
  by_cases zX:WN bU
  ·obtain rfl:=hr zX;clear hr vC oJ zY aI yQ AP pR ih uE;by_cases F':bU=6∨bU=15∨bU=16∨bU=17
   ·have bG:=ao (sW.out (.inr (.inr F')));clear sW lg q6 q7 q8 zX;rcases F' with rfl|rfl|rfl|rfl
    all_goals
     go_wp2_with fail;with_reducible refine (bG.out _ aH.out).mono ?_
     intro e b' ki;obtain⟨v6,rfl⟩:=ki.ret;clear zW nT d0 d1 d2 d3 d4 d5 d6 d7 d8 d9 d10 d11;go_wp2_with fail;go_ret;exact ki
   have ase:bU=11∨bU=12∨bU=13∨bU=14:=by
    rcases zX with h|h|h|h|h
    ·exact absurd (.inl h) F'
    ·exact absurd (.inr (.inl h)) F'
    ·exact absurd (.inr (.inr (.inl h))) F'
    ·exact absurd (.inr (.inr (.inr h))) F'
    ·exact h
   clear sW zX F';rcases ase with rfl|rfl|rfl|rfl
   ·have bG:=ao (lg.out rfl Dz.out);clear lg q6 q7 q8;go_wp2_with fail;with_reducible refine (bG.out _ aH.out).mono ?_
    intro e b' ki;obtain⟨v6,rfl⟩:=ki.ret;clear zW nT d0 d1 d2 d3 d4 d5 d6 d7 d8 d9 d10 d11;go_wp2_with fail;go_ret;exact ki
   ·have bG:=ao (q7.out rfl);clear lg q6 q7 q8;go_wp2_with fail;with_reducible refine (bG.out _ aH.out).mono ?_
    intro e b' ki;obtain⟨v6,rfl⟩:=ki.ret;clear zW nT d0 d1 d2 d3 d4 d5 d6 d7 d8 d9 d10 d11;go_wp2_with fail;go_ret;exact ki
   ·have bG:=ao (q6.out rfl Dz.out);clear lg q6 q7 q8;go_wp2_with fail;with_reducible refine (bG.out _ aH.out).mono ?_
    intro e b' ki;obtain⟨v6,rfl⟩:=ki.ret;clear zW nT d0 d1 d2 d3 d4 d5 d6 d7 d8 d9 d10 d11;go_wp2_with fail;go_ret;exact ki
   ·have bG:=ao (q8.out rfl);clear lg q6 q7 q8;go_wp2_with fail;with_reducible refine (bG.out _ aH.out).mono ?_
    intro e b' ki;obtain⟨v6,rfl⟩:=ki.ret;clear zW nT d0 d1 d2 d3 d4 d5 d6 d7 d8 d9 d10 d11;go_wp2_with fail;go_ret;exact ki
  ·clear hr vC sW oJ lg q6 q7 q8;have yc:=ao zY;clear zY;simp only[not_or] at aI yQ AP zX;obtain⟨eG,afk⟩:=aI;obtain⟨afl,OT,TM,afm⟩:=yQ;obtain⟨fT,n4⟩:=AP;obtain⟨n6,TO,afn,afo,TN,afq,TL,TK⟩:=zX;have dP:(bU==1)=false:=beq_eq_false_iff_ne.2 eG;have bM:(bU==2)=false:=beq_eq_false_iff_ne.2 fT;have fk:(bU==3)=false:=beq_eq_false_iff_ne.2 ih;have h7:(bU==4)=false:=beq_eq_false_iff_ne.2 n4;have hl:(bU==5)=false:=beq_eq_false_iff_ne.2 uE;have He:(bU==6)=false:=beq_eq_false_iff_ne.2 n6;have ni:(bU==7)=false:=beq_eq_false_iff_ne.2 pR;have ss:(bU==8)=false:=beq_eq_false_iff_ne.2 afl;have AD:(bU==9)=false:=beq_eq_false_iff_ne.2 OT;have Ew:(bU==10)=false:=beq_eq_false_iff_ne.2 TM;have WO:(bU==11)=false:=beq_eq_false_iff_ne.2 TN;have EU:(bU==12)=false:=beq_eq_false_iff_ne.2 afq;have axa:(bU==13)=false:=beq_eq_false_iff_ne.2 TL;have axb:(bU==14)=false:=beq_eq_false_iff_ne.2 TK;have axc:(bU==15)=false:=beq_eq_false_iff_ne.2 TO;have axd:(bU==16)=false:=beq_eq_false_iff_ne.2 afn;have axe:(bU==17)=false:=beq_eq_false_iff_ne.2 afo;have axf:(bU==18)=false:=beq_eq_false_iff_ne.2 afk;have axg:(bU==19)=false:=beq_eq_false_iff_ne.2 afm;clear eG afk afl OT TM afm fT n4 n6 TO afn afo TN afq TL TK ih uE pR;go_wp2_with fail;go_ret;exact ig.err yc.out bp.out.aM
end c1
namespace c1
open Go.RowKit ef
open cB (C dN)
open gK (iO iN Dm Qu Qv dd fG oL)
structure QO(c:C):Prop where
 n:0≤c.n∧c.n≤1000000
 m:0≤c.m∧c.m≤1000000
 nl:c.bX.length≤1000000000
 ns:∀x∈c.bX,-4611686018427387904≤x∧x≤4611686018427387904
 st:∀i,(lK c.x c.y c.i c.j i).length≤1000000000
 e1:c.blocks.length≤1000000∧∀b∈c.blocks,oL b
def QP(bo:Int)(n:Nat)(k:Int)(q:cy):Prop:=dW (n+1) q∧(n=0→k=5→q={rl bo with ended:=true})
theorem asf(w0:aeo)(P:Nat)(p:cy)(bo:Int)(B n:Nat)(c:C)(ca:Int)(nq:Ja)(q9:Nat)(jQ:Ja)(n9:Nat)(w:aeo)(H:af (jl w0 P p w))(hi:dW n p)(hn:n<1000000)(aF:n=0→p=rl bo)(nt:af (dd B w nq c.bX))(ja:af (fG 0 w0 jQ c.blocks))(aB:QO c):
  Calls Tryz.prog 55 #[ah P 0,iO c ca (ad nq c.bX.length q9) (ad jQ c.blocks.length n9)] w (ig (¬(n=0∧c.k=5)) (QP bo n c.k) w0 P):=by
 have SC:=hi.c (k5 hn);obtain⟨bU,cn,bY,cF,bg,c8,c9,cS,aR,cu,e1⟩:=c;have mQ:bU≠5→∀q,dW (n+1) q→QP bo n bU q:=fun h q aG=>⟨aG,fun _ ax=>absurd ax h⟩;have ft:bU≠5→¬(n=0∧bU=5):=fun h ax=>h ax.2;refine asd w0 P p ca bU cn bY cF bg c8 c9 cS aR (ad nq cu.length q9) (ad jQ e1.length n9) w H hi.aR SC hi.two (¬(n=0∧bU=5)) (QP bo n bU) ?_ ?_ ?_ ?_ ?_ ?_ ?_ ft ?_ ?_ ?_ ?_ ?_
 ·intro aI Z cN;have aU:=ao (H.out.below cN);have bj:bU≠5:=(by omega);rcases aI with rfl|rfl|rfl|rfl
  ·exact (amY w0 P p ca cn bY cF bg c8 c9 cS aR (ad nq cu.length q9) (ad jQ e1.length n9) Z aU _ (ao (Eq.refl _))).mono fun e w' h=>ig.of (ft bj) (iD.of h (fun q aG=>hi.define (c:=⟨8,cn,bY,cF,bg,c8,c9,cS,aR,cu,e1⟩) hn aB.e1 (by rw[←aG];unfold Jz;rw[aW rfl])) fun k aw=>by split at aw;(cases aw;decide);cases aw) fun q aG=>mQ bj q aG
  ·exact (am0 w0 P p ca cn bY cF bg c8 c9 cS aR (ad nq cu.length q9) (ad jQ e1.length n9) Z aU _ (ao (Eq.refl _))).mono fun e w' h=>ig.of (ft bj) (iD.of h (fun q aG=>hi.define (c:=⟨9,cn,bY,cF,bg,c8,c9,cS,aR,cu,e1⟩) hn aB.e1 (by rw[←aG];unfold Jz;rw[aN (by show ¬(9:Int)=8;decide),aW rfl])) fun k aw=>by split at aw;(cases aw;decide);cases aw) fun q aG=>mQ bj q aG
  ·exact (arX w0 P p B ca cn bY cF bg c8 c9 cS aR cu nq q9 (ad jQ e1.length n9) Z aU (ao (nt.out.below cN)) aB.nl (ao aB.ns) hi.aR.ej (ao hi.uh) hi.aR.x5).mono fun e w' h=>ig.of (ft bj) h fun q aG=>mQ bj q (hi.ar1 aG).up
  ·exact (am8 w0 P p ca cn bY cF bg c8 c9 cS aR (ad nq cu.length q9) e1 jQ n9 Z aU ja hi.aR.ej _ (ao (Eq.refl _))).mono fun e w' h=>ig.of (ft bj) (iD.of h (fun q aG=>hi.define (c:=⟨19,cn,bY,cF,bg,c8,c9,cS,aR,cu,e1⟩) hn aB.e1 (by rw[←aG];unfold Jz;rw[aN (by show ¬(19:Int)=8;decide),aN (by show ¬(19:Int)=9;decide),aW rfl])) fun k aw=>by split at aw;(cases aw;decide);cases aw) fun q aG=>mQ bj q aG
 ·intro aI Z cN;have bj:bU≠5:=(by omega);exact (amW w0 P p B ⟨bU,cn,bY,cF,bg,c8,c9,cS,aR,cu,e1⟩ ca nq q9 (ad jQ e1.length n9) Z (ao (H.out.below cN)) (ao (nt.out.below cN)) aB.nl aB.ns aI _ (ao (Eq.refl _))).mono fun e w' h=>ig.of (ft bj) (iD.of h (fun q aG=>hi.set aG) fun k aw=>ar8 k aw) fun q aG=>mQ bj q aG
 ·intro aI Z cN;have bj:bU≠5:=(by omega);exact (amR w0 P p ⟨bU,cn,bY,cF,bg,c8,c9,cS,aR,cu,e1⟩ ca (ad nq cu.length q9) (ad jQ e1.length n9) Z (ao (H.out.below cN)) SC hi.aR (ao aB.st) _ (ao (Eq.refl _))).mono fun e w' h=>ig.of (ft bj) (iD.of h (fun q aG=>hi.oper aG) fun k aw=>ar7 k aw) fun q aG=>mQ bj q aG
 ·intro aI he Z cN;have bj:bU≠5:=(by omega);exact (ane w0 P p ca bU cn bY cF bg c8 c9 cS aR (ad nq cu.length q9) (ad jQ e1.length n9) Z (ao (H.out.below cN)) hi.aR.x5 _ (ao (Eq.refl _))).mono fun e w' h=>ig.of (ft bj) (iD.of h (fun q aG=>hi.ar3 aG he) fun k aw=>by split at aw;(cases aw;decide);split at aw;(cases aw;decide);cases aw) fun q aG=>mQ bj q aG.up
 ·intro aI he Z cN;have bj:bU≠5:=(by omega);exact (anv w0 P p B ⟨bU,cn,bY,cF,bg,c8,c9,cS,aR,cu,e1⟩ ca nq q9 (ad jQ e1.length n9) Z (ao (H.out.below cN)) hi.aR.x5 (ao (nt.out.below cN)) aB.nl aB.n aB.m).mono fun e w' h=>ig.of (ft bj) h fun q aG=>mQ bj q (hi.ar2 aG he).up
 ·intro aI Z cN;have bj:bU≠5:=(by omega);exact (anA w0 P p Z (ao (H.out.below cN)) hi.aR.x5 hi.aR.aD).mono fun e w' h=>ig.of (ft bj) h fun q aG=>mQ bj q (hi.ar4 aG).up
 ·intro aI Z cN;have bj:bU≠5:=(by omega);have bc:=(hi.aR.er p.top (by simp)).2;exact (anD w0 P p Z (dW n) (ao (dW.ar5 n)) (ao (H.out.below cN)) hi.aR.x5 hi.aR.aD ⟨⟨bc.1,bc.2.1⟩,⟨bc.2.2.1,bc.2.2.2.1⟩,bc.2.2.2.2⟩ (ao fun v l az=>hi.pop az)).mono fun e w' h=>ig.of (ft bj) h fun q aG=>mQ bj q aG.up
 ·intro h ax;have aA:=aF ax.1;subst aA;rcases h with h|h|h
  ·cases h
  ·cases h
  ·exact h rfl
 ·exact fun h=>mQ h _ hi.up
 ·exact fun h=>mQ h _ (hi.up.ae5 true)
 ·exact fun h q aG=>mQ h _ ((hi.up.ae5 false).fill aG)
 ·exact fun az=>⟨hi.ended az,fun ax _=>by rw[aF ax]⟩
abbrev afr:Value:=.agg #[U false,I 0,I 0,I 0,I 0,I 0,J 0]
variable{w:aeo}
theorem dV.asg{w0:aeo}{P:Nat}{R:afp}{m:Nat}{L:nm}{fu:Int}{cv ov:ada}{cx ox:aev}{p:cy}(h:dV w0 P R m L fu cv ov cx ox p w):tG w0 ov p.top.eg w:=⟨R,ox,h.aD,h.lI,h.h0,fun k e aw=>(h.hv k aw).HO e,h.aM⟩
theorem afs{B:Nat}{p:Ja}{l:List (Nat×C)}(h:Dm B w p l){j:Nat}(b6:j<l.length){a:Nat}{c:C}(he:l[j]=(a,c)):∃b o bI dP bJ bM,p=some ⟨b,o,none⟩∧b<w.heap.size∧Qu w b (o+j *12) c (a:Int) (ad bI c.bX.length dP) (ad bJ c.blocks.length bM)∧dd B w bI c.bX∧fG B w bJ c.blocks:=by obtain⟨b,o,cur,rfl,_,aE,aB⟩:=h (by omega);obtain⟨q,r,k,m,au,ax,aA⟩:=aB j b6;rw[he] at au ax aA;exact⟨b,o,_,_,_,_,rfl,lt_of_heap aE,Qv aE au,ax,aA⟩
theorem ash(w:aeo):(Instr.makeSlice 131 (I 1) (I 1)).run Tryz.prog w=.ok (ag w.heap.size 0 1 1) (w.alloc (ai (#[U false,I 0,I 0,I 0,I 0,I 0,J 0]) gF)):=by
 have h:=yR (P:=Tryz.prog) 131 gF afr 7 72 U3 U7 1 (by decide) (by decide) w;have e:madeCells afr.cells (1 *7)= #[U false,I 0,I 0,I 0,I 0,I 0,J 0]:=by kernel_rfl
 rw[e] at h;exact h
theorem vD{y:aeo}{b i:Nat}{v:ada}(ay:b<w.heap.size)(h:an w w y)(aB:ak w b i v):ak y b i v:=(h.cell (p:=⟨b,i,none⟩) ay).trans aB
theorem asi(bo:Int):dW 0 (rl bo):=by
 refine⟨⟨fun v aS=>?_,fun k a ha=>?_,As _,by show (0:Int)≤100000;decide,by show min (max bo 0) 100000≤100000;omega,cO _,?_,cO _⟩,aP _,fun c aB=>absurd aB (by simp[rl]),fun c aB=>absurd aB (by simp[rl]),aP _,fun m hm=>absurd hm (by simp[rl]),fun v aS o a1=>?_,fun _=>rfl⟩
 ·have:v=j8:=(by simpa[rl] using aS);subst this;exact⟨As _,As _,by decide,As _,by decide,by decide,by decide,by decide,by decide⟩
 ·cases ha
 ·exact⟨by show (-536870912:Int)≤0;decide,by show (0:Int)≤536870912;decide,by show (-536870912:Int)≤0;decide,by show (0:Int)≤536870912;decide⟩
 ·have:v=j8:=(by simpa[rl] using aS);subst this;cases a1
def BA(A:Prop)(w:aeo)(e:Ending)(w':aeo):Prop:=Below w.heap.size w w'∧∃(aD:List iH) (i f:Nat) (q:Ja) (d:Nat),e=ab (.tuple #[ad q aD.length d,I (i:Int),I (f:Int)])∧gz (fun k=>w.heap.size≤k) w' q aD∧af ((∀o∈aD,okV o.2=true)∧aD.length≤1000000)∧af (A→aD=[]∧f=0)
theorem BA.no{A:Prop}{w':aeo}(i f:Nat)(ay:an w w w')(hA:¬A):BA A w (ab (.tuple #[J 0,I (i:Int),I (f:Int)])) w':=⟨ay,[],i,f,none,0,rfl,.nil _ _ _,⟨fun o a1=>absurd a1 (by simp),cO _⟩,fun h=>absurd h hA⟩
def ui(l:List (Nat×C)):Prop:=l.length=1∧∀x∈l,x.2.k=5
theorem asj(B:Nat)(l:List (Nat×C))(pp:Ja)(n cap:Nat)(hn:n=l.length)(bo:Int)(w:aeo)(H:af (Dm B w pp l))(hlen:l.length≤500000)(fL:∀x∈l,QO x.2):
  Calls Tryz.prog 36 #[ad pp n cap,I bo] w (BA (ui l) w):=by
 have bd:=ao hn;have iX:n≤500000:=by rw[hn];exact hlen
 have mL:=ao fL;clear hn hlen fL;have sh:=@run_makeMap Tryz.prog;have yS:=fun x=>ash x;go_enter Tryz.func36,Tryz.ntmps36;go_upto_region 2 with fail;obtain⟨W,cP⟩:=aq (((w.alloc (.map #[] 0)).alloc (ai (#[U false,I 0,I 0,I 0,I 0,I 0,J 0]) gF)).alloc (ai (#[I 0,I 0,I 0,I 0,U false,U false,.map (some w.heap.size),I 0,J 0,I 0,I 0,I 1,U false,U true,U false,U false,I 0,I 0,I 0,U false,J 0,ad (some (aj (w.heap.size+1) 0)) 1 1,I 0,I (min (max bo 0) 100000),U false]) oz))
 have I5:af (jl w (w.heap.size+1+1) (rl bo) W):=by
  have s1:(w.alloc (.map #[] 0)).heap.size=w.heap.size+1:=l' _;have s2:((w.alloc (.map #[] 0)).alloc (ai (#[U false,I 0,I 0,I 0,I 0,I 0,J 0]) gF)).heap.size=w.heap.size+1+1:=(l' _).trans (fS (· +1) s1);have ew:((w.alloc (.map #[] 0)).alloc (ai (#[U false,I 0,I 0,I 0,I 0,I 0,J 0]) gF)).heap[w.heap.size+1]?=some (.cells #[U false,I 0,I 0,I 0,I 0,I 0,J 0] gF):=(by have:=cR (w.alloc (.map #[] 0)) (ai (#[U false,I 0,I 0,I 0,I 0,I 0,J 0]) gF);rw[s1] at this;exact this);have a2:al W (w.heap.size+1+1) (#[I 0,I 0,I 0,I 0,U false,U false,.map (some w.heap.size),I 0,J 0,I 0,I 0,I 1,U false,U true,U false,U false,I 0,I 0,I 0,U false,J 0,ad (some (aj (w.heap.size+1) 0)) 1 1,I 0,I (min (max bo 0) 100000),U false]) oz:=(by have:=cR ((w.alloc (.map #[] 0)).alloc (ai (#[U false,I 0,I 0,I 0,I 0,I 0,J 0]) gF)) (ai (#[I 0,I 0,I 0,I 0,U false,U false,.map (some w.heap.size),I 0,J 0,I 0,I 0,I 1,U false,U true,U false,U false,I 0,I 0,I 0,U false,J 0,ad (some (aj (w.heap.size+1) 0)) 1 1,I 0,I (min (max bo 0) 100000),U false]) oz);rw[s2,cP] at this;exact this);have a0:W.heap[w.heap.size]?=some (.map #[] 0):=(by rw[←cP];exact ba (ba (cR w _) (bh _ _)) (bh _ _));have a3:al W (w.heap.size+1) (#[U false,I 0,I 0,I 0,I 0,I 0,J 0]) gF:=(by rw[←cP];exact ba ew (bh _ _));have ay:an w w W:=by rw[←cP];exact (bh _ _).trans (((bh _ _).trans ((bh _ _).mono (bh _ _).size)).mono (bh _ _).size)
  exact ⟨fun _=>False,w.heap.size,⟨w.heap.size+1,1,1, [], [], J 0, []⟩,0, J 0, J 0, [], [],{
   pl:=a2
   mp:=⟨#[],0,[],a0,rfl,fun k=>rfl⟩
   kz:=rfl
   er:=⟨rfl,.inr ⟨w.heap.size+1,1,_,rfl,lO _,a3,aP _,by decide,rfl,rfl⟩⟩
   ia:=⟨rfl,rfl⟩
   oB:=fun k aw=>by cases aw
   oC:=List.nodup_nil
   bg:=.nil _ _ _
   aD:=⟨rfl,.inl ⟨rfl,rfl⟩⟩
   lI:=trivial
   ej:=⟨rfl,.inl ⟨rfl,rfl⟩⟩
   oD:=rfl
   h0:=fun k h=>h.elim
   hv:=fun k h=>h.elim
   l9:=by omega
   mK:=aP _
   aM:=ay}⟩
 rw[cP];clear cP sh yS;obtain⟨P,iY⟩:=aq (w.heap.size+1+1);rw[iY] at I5⊢;clear iY;have aft:af (dW 0 (rl bo)):=asi bo;go_wp2_with fail
 go_loopw [20] (fun i wr=>∃(j:Nat) (p:cy) (aL:aeo),aL=wr∧j≤n∧i=I j∧af ((j=0→p=rl bo)∧(ui l→0<j→p={rl bo with ended:=true}))∧af (dW j p)∧af (jl w P p aL)) (fun i _=>n -(intOf i).toNat)
 case atStart=>exact⟨0,_,_,rfl,cO _,rfl,⟨fun _=>rfl,fun _ h=>absurd h (mi 0)⟩,aft.out,I5.out⟩
 case round=>
 obtain⟨j,p,aL,rfl,b6,rfl,afu,QQ,zD⟩:=hrel;clear aft I5;have il:af (an w w aL):=by obtain⟨_,_,_,_,_,_,_,_,h⟩:=zD.out;exact h.aM
 by_cases bm:j<n
 ·have gD:j<l.length:=(by rw[←bd.out];exact bm);have fD:(j:Int)<(n:Int):=(by omega);obtain⟨⟨a,⟨bU,cn,bY,cF,bg,cx,bA,ci,t',bX,e1⟩⟩,aB⟩:=aq (l[j]);obtain⟨b,o,nq,q9,jQ,n9,rfl,ja,dF,nt,mc⟩:=afs H.out gD aB;have afv:QO ⟨bU,cn,bY,cF,bg,cx,bA,ci,t',bX,e1⟩:=(by have h:=mL.out _ (k3 gD);rw[aB] at h;exact h);obtain⟨cI,hU⟩:=aq bX.length;obtain⟨mJ,kU⟩:=aq e1.length;have yw:∀x,an aL aL x→Calls Tryz.prog 55 #[ah P 0,.agg #[I (a:Int),I bU,I cn,I bY,U cF,aa ⟨bg.toArray⟩,aa ⟨cx.toArray⟩,aa ⟨bA.toArray⟩,aa ⟨ci.toArray⟩,aa ⟨t'.toArray⟩,ad nq cI q9,ad jQ mJ n9]] x (ig (¬(j=0∧bU=5)) (QP bo j bU) w P):=(by intro x hx;have pL:an w w x:=il.out.trans (hx.mono il.out.size);rw[←hU,←kU];exact asf w P p bo B j ⟨bU,cn,bY,cF,bg,cx,bA,ci,t',bX,e1⟩ (a:Int) nq q9 jQ n9 x (ao (zD.out.below hx)) QQ.out (by omega) afu.out.1 (ao (nt.below pL)) (ao (fG.mono mc (cO _))) afv);have afw:af (ui l→bU=5):=(fun h=>by have au:=h.2 _ (k3 gD);rw[aB] at au;exact au);have WQ:=ao yw;rw[hU,kU] at dF;obtain⟨gP,dP,bM,fk,h7,hl,He,ni,ss,AD,Ew,WO⟩:=dF;have d0:=vD ja il.out gP;have d1:=vD ja il.out dP;have d2:=vD ja il.out bM;have d3:=vD ja il.out fk;have d4:=vD ja il.out h7;have d5:=vD ja il.out hl;have d6:=vD ja il.out He;have d7:=vD ja il.out ni;have d8:=vD ja il.out ss;have d9:=vD ja il.out AD;have d10:=vD ja il.out Ew;have d11:=vD ja il.out WO;clear yw afv nt mc hU kU gP dP bM fk h7 hl He ni ss AD Ew WO aB;obtain⟨ca,Jc⟩:∃ca:Int,(a:Int)=ca:=⟨_,rfl⟩;obtain⟨QR,afx⟩:∃s:Ua,(⟨bg.toArray⟩:Ua)=s:=⟨_,rfl⟩;obtain⟨QS,afy⟩:∃s:Ua,(⟨cx.toArray⟩:Ua)=s:=⟨_,rfl⟩;obtain⟨QT,afz⟩:∃s:Ua,(⟨bA.toArray⟩:Ua)=s:=⟨_,rfl⟩;obtain⟨QU,afA⟩:∃s:Ua,(⟨ci.toArray⟩:Ua)=s:=⟨_,rfl⟩;obtain⟨QV,afB⟩:∃s:Ua,(⟨t'.toArray⟩:Ua)=s:=⟨_,rfl⟩;rw[Jc] at d0 WQ;simp only[afx,afy,afz,afA,afB] at d5 d6 d7 d8 d9 WQ;clear Jc afx afy afz afA afB;go_upto_region 5 with fail;have cJ:af (an aL aL (aL.alloc (ai (#[I ca,I bU,I cn,I bY,U cF,aa QR,aa QS,aa QT,aa QU,aa QV,ad nq cI q9,ad jQ mJ n9]) fm))):=bh _ _;have bG:af ((aL.alloc (ai (#[I ca,I bU,I cn,I bY,U cF,aa QR,aa QS,aa QT,aa QU,aa QV,ad nq cI q9,ad jQ mJ n9]) fm)).heap[aL.heap.size]?=some (.cells #[I ca,I bU,I cn,I bY,U cF,aa QR,aa QS,aa QT,aa QU,aa QV,ad nq cI q9,ad jQ mJ n9] fm)):=cR _ _;generalize aL.alloc (.cells #[I ca,I bU,I cn,I bY,U cF,aa QR,aa QS,aa QT,aa QU,aa QV,ad nq cI q9,ad jQ mJ n9] fm)=gO at cJ bG⊢;clear d0 d1 d2 d3 d4 d5 d6 d7 d8 d9 d10 d11;have d0:=cell_of (i:=0) bG.out rfl;have d1:=cell_of (i:=1) bG.out rfl;have d2:=cell_of (i:=2) bG.out rfl;have d3:=cell_of (i:=3) bG.out rfl;have d4:=cell_of (i:=4) bG.out rfl;have d5:=cell_of (i:=5) bG.out rfl;have d6:=cell_of (i:=6) bG.out rfl;have d7:=cell_of (i:=7) bG.out rfl;have d8:=cell_of (i:=8) bG.out rfl;have d9:=cell_of (i:=9) bG.out rfl;have d10:=cell_of (i:=10) bG.out rfl;have d11:=cell_of (i:=11) bG.out rfl;go_wp2_with fail;with_reducible refine (WQ.out _ cJ.out).mono ?_
  intro e b' ki;clear d0 d1 d2 d3 d4 d5 d6 d7 d8 d9 d10 d11 bG cJ zD;obtain⟨dR,⟨ft,k,jY,rfl⟩|⟨q,aG,rfl,Fw⟩⟩:=ki
  ·have fE:=ao dR;have DA:af (¬ui l):=fun h=>ft ⟨by have au:=h.1;omega,afw.out h⟩;clear dR ft;have eM:(((k:Int) !=0):Bool)=true:=(by rw[bne_iff_ne];omega);go_wp2_with fail;go_ret3;exact BA.no j k fE.out DA.out
  ·have asl:=ao Fw;have WI:=ao aG.1;have jo:af ((j+1=0→q=rl bo)∧(ui l→0<j+1→q={rl bo with ended:=true})):=⟨fun h=>absurd h (Nat.succ_ne_zero _),fun h _=>aG.2 (by have au:=h.1;omega) (afw.out h)⟩;clear dR aG Fw;go_wp2_with fail;go_round<;>first|exact⟨j+1,q,_,rfl,by omega,by go_num,jo.out,WI.out,asl.out⟩|(simp[intOf]<;>omega)
 ·have kM:j=n:=(by omega);subst kM;obtain⟨R,m,L,fu,cv,ov,cx,ox,h⟩:=zD.out;have H1:=ao h;obtain⟨b3,Jb⟩:=aq p.ended;have Dz:=ao Jb;have WR:af (ui l→p={rl bo with ended:=true}):=fun h=>afu.out.2 h (by have au:=h.1;have ax:=bd.out;omega);have zW:ak aL P 24 (U b3):=(by rw[←Jb];exact cell_of (i:=24) h.pl rfl);clear h Jb;cases b3 with
  |false=>
   have DA:af (¬ui l):=(fun h=>by have au:=WR.out h;have ax:=Dz.out;rw[au] at ax;cases ax);go_wp2_with fail;go_ret3;exact BA.no j 11 il.out DA.out
  |true=>
   have zq:p.levels.length=0:=(by rw[QQ.out.b3 Dz.out];rfl);have Lh:ak aL L.b 6 ov:=(by have e6:=(H1.out.Pg zq 6 (by decide)).1;rw[G',jt] at e6;exact e6);have lq:L.n=1:=(by rw[H1.out.kz,zq]);obtain⟨eY,eh,lc,fP,hs,eZ,bx⟩:=L;have Lh:ak aL eY 6 ov:=Lh;have lq:eh=1:=lq;subst lq;have rN:ak aL P 21 (ad (some (aj eY 0)) 1 lc):=cell_of (i:=21) H1.out.pl rfl;have nN:p.top.eg.length≤1000000:=QQ.out.aR.aD;clear zq;obtain⟨q,d,U8,Fm⟩:=gz.own (R:=fun k=>w.heap.size≤k) H1.out.asg (by show _≤1000000000;omega) (fun k h=>h);subst U8;have qQ:=ao Fm;have uj:af (ui l→p.top.eg=[]):=(fun h=>by rw[WR.out h];exact rfl);have rU:af ((∀o∈p.top.eg,okV o.2=true)∧p.top.eg.length≤1000000):=⟨QQ.out.ok p.top (by simp),nN⟩;clear Fm H1 WR Dz;go_wp2_with fail;go_ret3;exact⟨il.out,p.top.eg,0,0,q,d,rfl,qQ.out,rU.out,fun h=>⟨uj.out h,rfl⟩⟩
end c1
namespace gK
open Go.RowKit gI ga jz Mem hL cB
structure pf(c:C):Prop where
 gP:1≤c.k
 dP:c.k≤19
 n0:0≤c.n
 eG:c.n≤9999
 m0:0≤c.m
 m1:c.m≤9999
 t:c.t.length≤1000000
 x:c.x.length≤13
 y:c.y.length≤13
 i:c.i.length≤13
 j:c.j.length≤13
 bX:∀v∈c.bX,-1000000000000<v∧v<1000000000000
 two:c.k=13→c.bX.length=2
 one:c.k=17→c.bX.length=1
 op:c.k=7→c.n=1∨c.n=2∨c.n=3
 un:c.k=9→c.n=1∨c.n=2
 md:c.k=2→c.n=1∨c.n=2∨c.n=3
variable{s t:ar}
theorem QW{v:Int}(h:dec s=some v):-1000000000000<v∧v<1000000000000:=by
 unfold dec at h;cases hd:oa (strip s).2 with
 |none=>rw[hd] at h;cases h
 |some n=>
  rw[hd] at h;have:=XN hd;have ax:(if (strip s).1=true then -(n:Int) else (n:Int))=v:=wi h;split at ax<;>omega
theorem asm(r:ar):vO r≤1:=by unfold vO;split<;>decide
theorem QX(t:ar)(c:UInt8):(nA t c).1.length≤13:=by
 unfold nA;split
 ·split
  ·exact cO _
  ·rename_i h;have:=asm (t.drop 1);show (List.take _ _).length≤13;rw[lz];omega
 ·exact cO _
variable{n:Nat}
theorem WS(h:Ae t=some n):n≤9999:=by
 unfold Ae at h;split at h
 ·cases h
 ·rename_i aB;cases h;have au:t.length≤4:=(by omega);have ax:bK t=t.length:=(by omega);have aA:=Jr t (fun c aB=>by have:=BD t t.length (by omega) c (by rw[vI];exact aB);exact this);have:10^t.length≤10^4:=vK (by decide) au;omega
theorem WT(h:tc t=some n):n≤9999:=by
 unfold tc at h;split at h
 ·cases h
 ·exact WS h
theorem zZ{k n m:Int}{on:Bool}(aw:1≤k∧k≤19)(hn:0≤n∧n≤9999)(hm:0≤m∧m≤9999)(bc:t.length≤1000000)(kv:k≠13)(Ga:k≠17)(cY:k≠7)(e6:k=9→n=1∨n=2)(ax:k=2→n=1∨n=2∨n=3)(l:List dN)(bX:List Int)(ME:∀v∈bX,-1000000000000<v∧v<1000000000000):pf ⟨k,n,m,on,t,[],[],[],[],bX,l⟩:=
 ⟨aw.1,aw.2,hn.1,hn.2,hm.1,hm.2,bc,by show 0≤13;decide,by show 0≤13;decide,by show 0≤13;decide,by show 0≤13;decide,ME,fun h=>absurd h kv,fun h=>absurd h Ga,fun h=>absurd h cY,e6,ax⟩
theorem yx:∀v∈([]:List Int),-1000000000000<v∧v<1000000000000:=fun v aS=>absurd aS (by simp)
theorem asn(h:¬vP t=0):vP t=1∨vP t=2∨vP t=3:=by
 unfold vP at h⊢;split
 ·exact .inl rfl
 ·split
  ·exact .inr (.inl rfl)
  ·split
   ·exact .inr (.inr rfl)
   ·rename_i au ax aA;rw[aN au,aN ax,aN aA] at h;exact absurd rfl h
variable{c:C}
theorem aso(h:iT t=some c):pf c:=by
 unfold iT at h;dsimp only at h;split at h
 ·cases h
 ·rename_i hn;cases h;have aA:=asn hn;exact⟨by show (1:Int)≤7;decide,by show (7:Int)≤19;decide,by show 0≤vP _;omega,by show vP _≤9999;omega,by show (0:Int)≤0;decide,by show (0:Int)≤9999;decide,by show 0≤1000000;decide,QX _ _,QX _ _,QX _ _,QX _ _,yx,fun h=>absurd h (by show ¬(7:Int)=13;decide),fun h=>absurd h (by show ¬(7:Int)=17;decide),fun _=>aA,fun h=>absurd h (by show ¬(7:Int)=9;decide),fun h=>absurd h (by show ¬(7:Int)=2;decide)⟩
theorem asp{l:List C}(bc:t.length≤1000000)(h:vQ t=.ok l):∀c∈l,pf c:=by
 have one:∀c:C,pf c→∀x∈ [c],pf x:=fun c au x hx=>by rw[List.mem_singleton.1 hx];exact au
 have yn:∀{t:ar} {cs l:List C},pr t cs=.ok l→(∀c∈cs,pf c)→∀c∈l,pf c:=by
  intro t cs l h aB;unfold pr at h;split at h
  ·rename_i n hn;cases h
   have ay:n≤9999:=by
    split at hn
    ·exact WT hn
    ·cases hn
   exact one _ (show pf ⟨6,(n:Int),0,false,[],[],[],[],[],[],[]⟩ from zZ (by decide) ⟨by omega,by omega⟩ (by decide) (by decide) (by decide) (by decide) (by decide) (fun h=>absurd h (by decide)) (fun h=>absurd h (by decide)) _ _ yx)
  ·split at h
   ·cases h
   ·rename_i c Wm;cases h;intro x hx;rcases List.mem_append.1 hx with hx|hx
    ·exact aB x hx
    ·rw[List.mem_singleton.1 hx];exact aso Wm
 have hm:∀(n:Int),n=1∨n=2∨n=3→pf {dD 2 with n:=n}:=fun n hn=>show pf ⟨2,n,0,false,[],[],[],[],[],[],[]⟩ from
  zZ (by decide) ⟨by omega,by omega⟩ (by decide) (by decide) (by decide) (by decide) (by decide) (fun h=>absurd h (by decide)) (fun _=>hn) _ _ yx
 have zv:∀{t:ar} {m:Int} {l:List C},m=1∨m=2∨m=3→qw t m=.ok l→∀c∈l,pf c:=by
  intro t m l sh h;unfold qw at h;split at h
  ·cases h;exact one _ (hm m sh)
  ·exact yn h (one _ (hm m sh))
 have aw:∀(k:Int) (on:Bool) (t:ar),k=1∨k=3∨k=4∨k=5→t.length≤1000000→pf {dD k with on:=on,t:=t}:=fun k on t au ax=>show pf ⟨k,0,0,on,t,[],[],[],[],[],[]⟩ from
  zZ (by omega) (by decide) (by decide) ax (by omega) (by omega) (by omega) (fun h=>by omega) (fun h=>by omega) _ _ yx
 unfold vQ at h
 repeat' split at h
 all_goals first
  |(cases h;exact one _ (aw _ _ _ (by decide) (by decide)))
  |(cases h;exact one _ (aw _ _ _ (by decide) (by rw[e8];omega)))
  |exact zv (by decide) h
  |exact yn h (fun c aB=>absurd aB (by simp))
  |cases h
theorem afC:∀(f:Nat) (s:ar) (acc l:List Int),vR f s acc=some l→(∀v∈acc,-1000000000000<v∧v<1000000000000)→∀v∈l,-1000000000000<v∧v<1000000000000
 |0,s,acc,l,h,au=>by cases h;exact au
 |f+1,s,acc,l,h,au=>by
  unfold vR at h;split at h
  ·cases h
  ·rename_i v aS
   have ax:∀x∈acc++[v],-1000000000000<x∧x<1000000000000:=fun x hx=>by
    rcases List.mem_append.1 hx with hx|hx
    ·exact au x hx
    ·rw[List.mem_singleton.1 hx];exact QW aS
   split at h
   ·exact afC f _ _ l h ax
   ·cases h;exact ax
theorem asq{r:ar}(h:mn.BN t=some (n,r)):n≤9999:=by
 unfold mn.BN at h;split at h
 ·cases h
 ·rename_i hn;cases h;exact WT hn
theorem asr(c:UInt8)(s:ar):(eJ c s).1.length≤s.length:=by
 unfold eJ;split
 ·rename_i h;exact k5 h
 ·exact aP _
theorem ass(bc:t.length≤1000000)(h:mn t=some c):pf c:=by
 unfold mn at h;split at h
 ·cases h
 ·split at h
  ·cases h
  ·rename_i n r hn;have au:=aep hn;have ax:=asq hn;rw[e8] at au;have aA:=asr 44 r;split at h
   ·cases h
   ·split at h
    ·cases h;exact zZ (by decide) ⟨by omega,by omega⟩ (by decide) (by omega) (by decide) (by decide) (by decide) (fun h=>absurd h (by decide)) (fun h=>absurd h (by decide)) _ _ yx
    ·split at h
     ·cases h
     ·rename_i l az;cases h;exact zZ (by decide) ⟨by omega,by omega⟩ (by decide) (by omega) (by decide) (by decide) (by decide) (fun h=>absurd h (by decide)) (fun h=>absurd h (by decide)) _ _ (afC _ _ _ _ az yx)
theorem ast(h:bK t=2):48≤(t.headD 0).toNat∧(t.headD 0).toNat≤57:=by
 cases t with
 |nil=>cases h
 |cons c t=>
  have:=BD (c::t) 1 (by omega) c (by simp);simp only[fi,qv,p0] at this;exact this
theorem asu(h:bK t=2):48≤((t.drop 1).headD 0).toNat∧((t.drop 1).headD 0).toNat≤57:=by
 cases t with
 |nil=>cases h
 |cons c t=>
  cases t with
  |nil=>
   exfalso;unfold bK at h;have:=(VF fi (l:=[c])).length_le;simp only[eT,kZ] at this;omega
  |cons d t=>
   have:=BD (c::d::t) 2 (by omega) d (by simp);simp only[fi,qv,p0] at this;exact this
theorem asv(bc:t.length≤1000000)(h:xa t=some c):pf c:=by
 have hd:(t.drop 2).length≤1000000:=by rw[e8];omega
 unfold xa at h;split at h
 ·unfold Gs at h;split at h
  ·cases h
  ·rename_i hf;cases h
   have ax:bK ((t.drop 2).drop 3)=2:=by
    by_cases e:bK ((t.drop 2).drop 3)=2
    ·exact e
    ·exact absurd (.inr (.inr (.inr (.inl e)))) hf
   have d1:=ast ax;have d2:=asu ax;have d2:48≤(((t.drop 2).drop 4).headD 0).toNat∧(((t.drop 2).drop 4).headD 0).toNat≤57:=(by rw[pw] at d2;exact d2);refine zZ (by decide) ⟨?_,?_⟩ ⟨?_,?_⟩ (by decide) (by decide) (by decide) (by decide) (fun h=>absurd h (by decide)) (fun h=>absurd h (by decide)) _ _ yx<;>omega
 ·split at h
  ·exact ass hd h
  ·split at h
   ·unfold Gt at h;split at h
    ·cases h
    ·split at h
     ·cases h
     ·rename_i n hn;cases h;have:=WT hn;exact zZ (by decide) ⟨by omega,by omega⟩ (by decide) (by decide) (by decide) (by decide) (by decide) (fun h=>absurd h (by decide)) (fun h=>absurd h (by decide)) _ _ yx
   ·split at h
    ·unfold cB.stepG at h;split at h
     ·cases h
     ·split at h
      ·rename_i n m x y hn hm hx hy;cases h;have cw:=WS hn;have bl:=WS hm;refine⟨by show (1:Int)≤13;decide,by show (13:Int)≤19;decide,by show (0:Int)≤(n:Int);omega,by show (n:Int)≤9999;omega,by show (0:Int)≤(m:Int);omega,by show (m:Int)≤9999;omega,by show 0≤1000000;decide,by show 0≤13;decide,by show 0≤13;decide,by show 0≤13;decide,by show 0≤13;decide,fun v aS=>?_,fun _=>rfl,fun h=>absurd h (by show ¬(13:Int)=17;decide),fun h=>absurd h (by show ¬(13:Int)=7;decide),fun h=>absurd h (by show ¬(13:Int)=9;decide),fun h=>absurd h (by show ¬(13:Int)=2;decide)⟩;simp only[G0,G1,G2] at aS;rcases aS with rfl|rfl
       ·exact QW hx
       ·exact QW hy
      ·cases h
    ·split at h
     ·unfold ND at h;split at h
      ·cases h
      ·rename_i v aS;cases h;refine⟨by show (1:Int)≤17;decide,by show (17:Int)≤19;decide,by show (0:Int)≤0;decide,by show (0:Int)≤9999;decide,by show (0:Int)≤0;decide,by show (0:Int)≤9999;decide,by show 0≤1000000;decide,by show 0≤13;decide,by show 0≤13;decide,by show 0≤13;decide,by show 0≤13;decide,fun x hx=>?_,fun h=>absurd h (by show ¬(17:Int)=13;decide),fun _=>rfl,fun h=>absurd h (by show ¬(17:Int)=7;decide),fun h=>absurd h (by show ¬(17:Int)=9;decide),fun h=>absurd h (by show ¬(17:Int)=2;decide)⟩;rw[List.mem_singleton.1 hx];exact QW aS
     ·split at h
      ·cases h;exact zZ (by decide) (by decide) (by decide) bc (by decide) (by decide) (by decide) (fun h=>absurd h (by decide)) (fun h=>absurd h (by decide)) _ _ yx
      ·cases h
theorem asw:∀p∈w9,pf p.2:=by
 intro p hp;have h:∀p∈w9,∃k n on,p.2=⟨k,n,0,on,[],[],[],[],[],[],[]⟩∧(1≤k∧k≤19)∧(0≤n∧n≤9999)∧k≠13∧k≠17∧k≠7∧(k=9→n=1∨n=2)∧k≠2:=by intro p hp;simp only[w9,G0,G1,G2] at hp;rcases hp with rfl|rfl|rfl|rfl|rfl|rfl|rfl|rfl|rfl|rfl<;>exact⟨_,_,_,rfl,by decide⟩
 obtain⟨k,n,on,e,au,ax,aA,bb,bj,b8,cY⟩:=h p hp;rw[e];exact zZ au ax (by decide) (by decide) aA bb bj b8 (fun h=>absurd h cY) _ _ yx
theorem asx(bc:t.length≤1000000)(h:te t=.ok c):pf c:=by
 unfold te at h;split at h
 ·cases h
 ·split at h
  ·rename_i c2 aB;cases h;obtain⟨p,hp,rfl⟩:=Wn _ _ _ aB;exact asw p hp
  ·split at h
   ·cases h
   ·rename_i c2 aB;cases h;exact asv bc aB
theorem afD{w:eR}{ws:List eR}{l:List C}(hw:w.t.length≤1000000)(h:r4 w ws=.ok l):∀c∈l,pf c:=by
 unfold r4 at h;split at h
 ·unfold yI at h;split at h
  ·split at h
   ·cases h
   ·rename_i c aB;split at h
    ·cases h;intro x hx;rw[List.mem_singleton.1 hx];exact asx hw aB
    ·cases h
  ·split at h
   ·cases h
   ·split at h;split at h
    ·cases h
    ·cases h;intro x hx;rw[List.mem_singleton.1 hx];exact zZ (by decide) (by decide) (by decide) (by rw[e8];omega) (by decide) (by decide) (by decide) (fun h=>absurd h (by decide)) (fun h=>absurd h (by decide)) _ _ yx
 ·split at h
  ·cases h
  ·rename_i gE az;cases h;exact asp hw az
theorem afE(P:C→Prop)(A:afp)(iY:∀(w:eR) (ws:List eR) (l:List C),w.t.length≤1000000→r4 w ws=.ok l→∀c∈l,P c):∀(f:Nat) (ws:List eR) (acc l:List (Nat×C)),p3 f ws acc=.ok l→(∀x∈ws,x.t.length≤1000000∧A x.a)→(∀x∈acc,P x.2∧A x.1)→∀x∈l,P x.2∧A x.1
 |0,ws,acc,l,h,au,ax=>by unfold p3 at h;cases h;exact ax
 |f+1,[],acc,l,h,au,ax=>by unfold p3 at h;cases h;exact ax
 |f+1,w::ws,acc,l,h,au,ax=>by
  unfold p3 at h;split at h
  ·cases h
  ·rename_i gE az;have bb:=iY _ _ _ (au w (by simp)).1 az
   exact afE P A iY f _ _ l h (fun x hx=>au x (zO _ ((aej _).subset hx))) (fun x hx=>by
    rcases List.mem_append.1 hx with hx|hx
    ·exact ax x hx
    ·obtain⟨c,aB,rfl⟩:=List.mem_map.1 hx;exact⟨bb c aB,(au w (by simp)).2⟩)
theorem afF(P:C→Prop)(A:afp)(iY:∀(w:eR) (ws:List eR) (l:List C),w.t.length≤1000000→r4 w ws=.ok l→∀c∈l,P c){l:List (Nat×C)}{i e:Nat}(h:k0 s=(l,i,e))(hA:∀ws i e,ta s=(ws,i,e)→∀x∈ws,A x.a):∀x∈l,P x.2∧A x.1:=by
 have De:∀x∈([]:List (Nat×C)),P x.2∧A x.1:=fun x hx=>absurd hx (by simp);unfold k0 at h;split at h;rename_i ws i1 aY hw;split at h
 ·cases h;exact De
 ·rename_i he;have e9:aY=0:=zM he;subst e9
  have hi:i1=0:=by
   unfold ta at hw;split at hw
   ·simp at hw
   ·split at hw
    ·rename_i aI;simp only[fg] at hw;exact absurd hw.2.2 (Qy aI)
    ·split at hw
     ·simp at hw
     ·simp only[fg] at hw;exact hw.2.1.symm
  subst hi;obtain⟨bk,bt⟩:=adU hw;split at h
  ·cases h;exact De
  ·rename_i gE az;cases h;exact afE P A iY _ _ _ _ az (fun x hx=>⟨bt x hx,hA _ _ _ hw x hx⟩) (fun x hx=>absurd hx (by simp))
end gK
