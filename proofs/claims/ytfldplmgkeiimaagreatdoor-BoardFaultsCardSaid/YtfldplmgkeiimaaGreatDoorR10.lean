/- Lemmas. -/
import Derived.Test.YtfldplmgkeiimaaGreatDoorR9
set_option linter.all false
set_option maxRecDepth 100000
set_option maxHeartbeats 25600000
namespace Go.Proofs.YtfldplmgkeiimaaGreatDoor
abbrev Dp:=@Nat.succ_pos
namespace dd
open Go.RowKit ef
abbrev I6(w0:aeo)(D:Nat)(d:Bool)(k a1 aZ a8 bh cx bu r:Int)(pl:Ja)(n cl:Nat)(pp:Ja)(m cp:Nat)(g:Nat)(aD aE aL aH:Int)(Z:aeo):Prop:=
 Z.cell? ⟨D,0,none⟩=some (U d)∧ak Z D 1 (I k)∧ak Z D 2 (I a1)∧ak Z D 3 (I aZ)∧ak Z D 4 (I a8)∧ak Z D 5 (I bh)∧ak Z D 6 (I cx)∧ak Z D 7 (I bu)∧ak Z D 8 (I r)∧ak Z D 9 (ad pl n cl)∧ak Z D 10 (ad pp m cp)∧ak Z g 0 (I aD)∧ak Z g 1 (I aE)∧ak Z g 2 (I aL)∧ak Z g 3 (I aH)∧ao w0 w0 Z
variable{w0 v w:aeo}{D n cl m cp g:Nat}{d:Bool}{k a1 aZ a8 bh cx bu r aD aE aL aH:Int}{pl pp:Ja}
theorem Ya{Z:aeo}(ax:ao v v Z)(h:I6 w0 D d k a1 aZ a8 bh cx bu r pl n cl pp m cp g aD aE aL aH v):I6 w0 D d k a1 aZ a8 bh cx bu r pl n cl pp m cp g aD aE aL aH Z:=by obtain⟨aS,av,az,aC,bt,cr,c4,ez,eS,fM,mw,g0,g1,g2,g3,aK⟩:=h;exact⟨bV ax aS,bV ax av,bV ax az,bV ax aC,bV ax bt,bV ax cr,bV ax c4,bV ax ez,bV ax eS,bV ax fM,bV ax mw,bV ax g0,bV ax g1,bV ax g2,bV ax g3,aK.trans (ax.mono aK.size)⟩
theorem Yb(h:I6 w0 D d k a1 aZ a8 bh cx bu r pl n cl pp m cp g aD aE aL aH v):ao w0 w0 v:=h.2.2.2.2.2.2.2.2.2.2.2.2.2.2.2
theorem Yc{k:Nat}{v0 v1 v2 v3 v4 v5 v6 cj cD v9 v10:ada}{t:aai}(h:an w k (#[v0,v1,v2,v3,v4,v5,v6,cj,cD,v9,v10]) t):
  ak w k 0 v0∧ak w k 1 v1∧ak w k 2 v2∧ak w k 3 v3∧ak w k 4 v4∧ak w k 5 v5∧ak w k 6 v6∧ak w k 7 cj∧ak w k 8 cD∧ak w k 9 v9∧ak w k 10 v10:=by
 refine⟨?_,?_,?_,?_,?_,?_,?_,?_,?_,?_,?_⟩<;>simp[World.cell?,h]
variable{b:dm}
theorem Yd(h:iG b=true)(ay:b.k=1):hQ b.a∧1≤b.r∧b.r≤536870912:=by unfold iG at h;rw[bb ay] at h;simp only[jh,wN,jR] at h;exact⟨X' h.1,h.2⟩
theorem Ye(h:iG b=true)(ay:b.k=2):∀c∈b.l,∀q∈c,hQ q:=by unfold iG at h;rw[aW (by omega),bb ay] at h;intro c hc q aR;unfold C2 at h;simp only[jh,HZ] at h;exact X' (h.2 c hc q aR)
theorem RI(h:iG b=true):b.k=1∨b.k=2∨b.k=3∨b.k=4∨b.k=5:=by
 unfold iG at h
 repeat' split at h
 all_goals first|omega|cases h
theorem Nu{a:Bool}{b:dm}{s r:bk}{f:Nat}:∀{pre:bk} {n m:Int},ji (pre.append (.cons a b s r)) f n=some m→∃n' dj,kD b s f n'=some dj
 |.nil,n,m,h=>by
  rw[bk.append,FH] at h;cases av:kD b s f n with
  |none=>rw[av] at h;cases h
  |some k=>exact⟨n,k,av⟩
 |.cons k3 bc s' fK,n,m,h=>by
  rw[bk.append,FH] at h;cases av:kD bc s' f n with
  |none=>rw[av] at h;cases h
  |some k=>rw[av] at h;exact Nu (pre:=fK) h
theorem ah8(x:ck)(b:dm)(ay:b.k=6)(sub:Int):MN x b sub=sub:=by unfold MN;rw[aW (by omega),aW (by omega),aW (by omega),aW (by omega),aW (by omega)]
theorem ah9(x:ck)(hx:I5 x)(N:Nat):∀(s:bk),s.count<N→∀(b:dm) (f:Nat) (left m:Int) (S:afp) (pl:Ja) (cl:Nat) (pp:Ja) (cp:Nat) (w:aeo) (k:Int),
  BB b→tU s→af (kD b s f left=some m)→af (dE S w pl cl pp cp ⟨b,s⟩)→af (FD x ⟨b,s⟩=k)→
  Calls Tryz.prog 217 #[jU b (ad pl b.l.length cl) (ad pp s.len cp),h5 x] w fun e w'=>e=ab (I k)∧ao w w w':=by
 induction N with
 |zero=>intro s hs;exact absurd hs (my _)
 |succ N cO=>
 intro s hs b f left m S pl cl pp cp w k I7 sE bm el ay;have wQ:=aq cO;have vq:=aq hs;have Dq:=aq I7;have zN:=aq sE;clear cO hs I7 sE;have cR:=aq hx;obtain⟨_,_,zO,zP⟩:=zF bm.out;clear bm;obtain⟨aD,aE,aL,aH⟩:=x;obtain⟨dK,⟨a1,aZ⟩,⟨a8,bh⟩,⟨cx,bu⟩,r,l⟩:=b;have aA:=ay.out;clear ay;unfold FD at aA;simp only at aA zO zP;obtain⟨n,hn⟩:=ar l.length;have bd:=aq hn;obtain⟨fB,mG⟩:=ar s.len;have k1:=aq mG;show Calls _ _ #[.agg #[I dK,I a1,I aZ,I a8,I bh,I cx,I bu,I r,ad pl l.length cl,ad pp s.len cp],h5 ⟨aD,aE,aL,aH⟩] w _;rw[hn,mG];clear hn mG;by_cases c4:dK=6
 ·have bT:=aq (zP c4).2;have cQ:af (FC ⟨aD,aE,aL,aH⟩ s 0=k):=(by show _=_;rw[←aA];exact (ah8 _ _ c4 _).symm);subst c4;clear zO zP aA;have oa:fB≤1000000000:=(by rw[←k1.out];exact el.out.p.1);go_enter Tryz.func217,Tryz.ntmps217;go_upto_region 12 with fail;obtain⟨W,bo⟩:=ar ((w.alloc (ai (#[I 6,I a1,I aZ,I a8,I bh,I cx,I bu,I r,ad pl n cl,ad pp fB cp]) dB)).alloc (cV ⟨aD,aE,aL,aH⟩));have aI:af (ao w w W):=(by show Below _ _ _;rw[←bo];exact pz _ _ _);have cy:af (an W w.heap.size (#[I 6,I a1,I aZ,I a8,I bh,I cx,I bu,I r,ad pl n cl,ad pp fB cp]) dB):=(by show _=_;rw[←bo];exact aU (bY _ _) (a6 _ _));have bC:af (W.heap[w.heap.size+1]?=some (cV ⟨aD,aE,aL,aH⟩)):=(by show _=_;rw[←bo];exact vd _ _ _);rw[bo];clear bo;obtain⟨g0,g1,g2,g3,g4,g5,g6,g7,g8,g9⟩:=eA cy.out;go_wp2_with fail
  go_loopw [5,59] (fun acc i wr=>∃(pre hP:bk) (v:Int) (j:Nat) (aM:aeo),aM=wr∧af (s=pre.append hP)∧af (pre.len=j)∧af (FC ⟨aD,aE,aL,aH⟩ hP v=k)∧acc=I v∧i=I j∧af (ao W W aM)) (fun _ i _=>fB -(intOf i).toNat)
  case atStart=>exact⟨.nil,s,0,0,_,rfl,rfl,rfl,cQ.out,rfl,rfl,Below.refl _ _⟩
  case round=>
  obtain⟨pre,hP,v,j,aM,rfl,iI,cG,b0,rfl,rfl,c1⟩:=hrel;clear g0 g1 g2 g3 g4 g5 g6 g7 g8 g9;cases hP with
  |nil=>
   have mC:j=fB:=(by rw[←k1.out,←cG.out,iI.out,bk.append_nil]);have aO:af (v=k):=b0.out;subst mC;go_wp2_with fail;go_ret;exact⟨pt aO.out,aI.out.trans (c1.out.mono aI.out.size)⟩
  |cons a bc sub fK=>
   have lX:j<fB:=(by rw[←k1.out,←cG.out,iI.out,bk.tB];simp only[bk.len];omega);have MR:(j:Int)<(fB:Int):=(by omega);have Yf:ao w w aM:=aI.out.trans (c1.out.mono aI.out.size);have i1:ij S aM pp (pre.append (.cons a bc sub fK)):=(by rw[←iI.out];exact el.out.p.below Yf);obtain⟨ht,lg,ql,dl,qp,cX,rfl,qt,_,oS,aQ,aN,aJ,c3,bF,c5,bZ,b',bU,bg,cH⟩:=i1.part cG.out;have uX:=aq oS;obtain⟨en,m1,jk⟩:=Nu (show ji (pre.append (.cons a bc sub fK)) (f+1) (left-1)=some m by rw[←iI.out];exact bT.out);have Dr:af (BB bc∧tU sub):=tU.at (pre:=pre) (by rw[←iI.out];exact zN.out);have hv:sub.count<N:=(by have av:=vq.out;rw[iI.out,bk.count_append] at av;simp only[bk.count] at av;omega);obtain⟨bO,ej⟩:=ar (FD ⟨aD,aE,aL,aH⟩ ⟨bc,sub⟩);obtain⟨ba,fs⟩:=ar (uV v bO a);have kq:=aq fs;have lh:af (FC ⟨aD,aE,aL,aH⟩ fK ba=k):=(by show _=_;rw[←b0.out,←fs,←ej];rfl);have wT:af (s=(pre.append (.cons a bc sub .nil)).append fK):=(by show _=_;rw[iI.out,bk.append_assoc];rfl);have hM:af ((pre.append (.cons a bc sub .nil)).len=j+1):=(by show _=_;rw[bk.tB,cG.out];rfl);obtain⟨dh,fe⟩:=ar bc.l.length;obtain⟨i',l8⟩:=ar sub.len;have kx:af (∀Z,ao aM aM Z→Calls Tryz.prog 217 #[.agg #[I bc.k,I bc.a.1,I bc.a.2,I bc.b.1,I bc.b.2,I bc.c.1,I bc.c.2,I bc.r,ad ql dh dl,ad qp i' cX],h5 ⟨aD,aE,aL,aH⟩] Z fun e w'=>e=ab (I bO)∧ao Z Z w'):=(by intro Z eY;rw[←fe,←l8];exact wQ.out sub hv bc (f+1) en m1 S ql dl qp cX Z bO Dr.out.1 Dr.out.2 (aq jk) (aq (uX.out.below eY)) (aq ej));rw[fe] at bg;rw[l8] at cH;clear i1 oS jk ej fs fe l8 Yf;obtain⟨a0,bA,a2,a3⟩:=gW (aU bC.out c1.out);have z1:=lt_of_heap (aU bC.out c1.out);go_upto_region 16 with fail;have fl:af (I6 aM aM.heap.size a bc.k bc.a.1 bc.a.2 bc.b.1 bc.b.2 bc.c.1 bc.c.2 bc.r ql dh dl qp i' cX (w.heap.size+1) aD aE aL aH (aM.alloc (ai (#[U a,I bc.k,I bc.a.1,I bc.a.2,I bc.b.1,I bc.b.2,I bc.c.1,I bc.c.2,I bc.r,ad ql dh dl,ad qp i' cX]) eP))):=(by obtain⟨ek,a7,bf,cM,hO,nN,jW,iO,iP,nj,sF⟩:=Yc (bY aM (ai (#[U a,I bc.k,I bc.a.1,I bc.a.2,I bc.b.1,I bc.b.2,I bc.c.1,I bc.c.2,I bc.r,ad ql dh dl,ad qp i' cX]) eP));have ax:=a6 aM (ai (#[U a,I bc.k,I bc.a.1,I bc.a.2,I bc.b.1,I bc.b.2,I bc.c.1,I bc.c.2,I bc.r,ad ql dh dl,ad qp i' cX]) eP);exact⟨ek,a7,bf,cM,hO,nN,jW,iO,iP,nj,sF,bV ax a0,bV ax bA,bV ax a2,bV ax a3,ax⟩);generalize aM.alloc (.cells #[U a,I bc.k,I bc.a.1,I bc.a.2,I bc.b.1,I bc.b.2,I bc.c.1,I bc.c.2,I bc.r,ad ql dh dl,ad qp i' cX] eP)=b4 at fl⊢;have sG:=aq (Ya (Below.refl _ _).drew fl.out);clear a0 bA a2 a3 aQ aN aJ c3 bF c5 bZ b' bU bg cH
   go_region_held3 (fun Z=>I6 aM aM.heap.size a bc.k bc.a.1 bc.a.2 bc.b.1 bc.b.2 bc.c.1 bc.c.2 bc.r ql dh dl qp i' cX (w.heap.size+1) aD aE aL aH Z) (first|with_reducible exact fl.out|with_reducible exact sG.out|with_reducible exact Ya (by assumption) (by assumption)|assumption|fail) (first|(go_at_call 217;with_reducible refine (kx.out _ (Yb (by assumption))).mono ?_;rintro e bI ⟨rfl,dY⟩)|(go_at_call 173;with_reducible refine (X4 v bO a ba kq _).mono ?_;rintro e bI ⟨rfl,rfl⟩)|fail)
   rename_i hHeld;have aV:af (ao W W bI):=c1.out.trans ((Yb hHeld).mono c1.out.size);clear hHeld fl sG;go_wp2_with fail;go_round<;>first|exact⟨_,fK,ba,j+1,_,rfl,wT.out,hM.out,lh.out,rfl,by go_num,aV.out⟩|(simp[intOf]<;>omega)
 ·have k6:=(zO c4).1;clear zP zO;rcases RI k6 with h|h|h|h|h<;>simp only at h<;>subst h
  ·obtain⟨ha,hr⟩:=Yd k6 rfl;have aia:=aq ha;have bw:=aq hr;have cQ:af (C4 ⟨aD,aE,aL,aH⟩ (a1,aZ) r=k):=aA;clear k6 ha hr aA;go_enter Tryz.func217,Tryz.ntmps217;go_wp2_with fail;with_reducible refine (ah2 ⟨aD,aE,aL,aH⟩ (a1,aZ) r cR.out.fO cR.out.fh cR.out.e aia.out bw.out k cQ _).mono ?_
   rintro e V ⟨rfl,ax⟩;go_wp2_with fail;go_ret;exact⟨rfl,(pz _ _ _).trans (ax.mono (by simp;omega))⟩
  ·have bC:=aq (Ye k6 rfl);have cQ:af (Q1 ⟨aD,aE,aL,aH⟩ l=k):=aA;have dn:=aq el.out.l;clear k6 aA;go_enter Tryz.func217,Tryz.ntmps217;go_wp2_with fail;with_reducible refine (ahR S ⟨aD,aE,aL,aH⟩ cR.out.fO cR.out.fh cR.out.e pl l n cl bd.out.symm bC.out _ (aq (dn.out.below (pz _ _ _))) k cQ).mono ?_
   rintro e V ⟨rfl,ax⟩;go_wp2_with fail;go_ret;exact⟨rfl,(pz _ _ _).trans (ax.mono (by simp;omega))⟩
  ·exact absurd rfl Dq.out.1
  ·exact absurd rfl Dq.out.2.1
  ·exact absurd rfl Dq.out.2.2
theorem aib(S:afp)(x:ck)(hx:I5 x)(b:dm)(s:bk)(hn:sD ⟨b,s⟩)(eF:okV ⟨b,s⟩=true)(pl:Ja)(cl:Nat)(pp:Ja)(cp:Nat)(w:aeo)(el:af (dE S w pl cl pp cp ⟨b,s⟩))(k:Int)(ay:af (FD x ⟨b,s⟩=k)):
  Calls Tryz.prog 217 #[jU b (ad pl b.l.length cl) (ad pp s.len cp),h5 x] w fun e w'=>e=ab (I k)∧ao w w w':=by
 unfold okV at eF;rw[show bk.one true ⟨b,s⟩=.cons true b s .nil from rfl,FH] at eF;cases hm:kD b s 0 1000 with
 |none=>rw[hm] at eF;simp at eF
 |some m=>exact ah9 x hx (s.count+1) s (FF _) b 0 1000 m S pl cl pp cp w k hn.1 hn.2 (aq hm) el ay
theorem cell_far{k i j o:Nat}{u x:ada}(ay:k≠j)(h:ak v k i x):(v.setCell (aj j o) u).cell? ⟨k,i,none⟩=some x:=by have:=iK (w:=v) (i:=o) (u:=u) ay;simpa[World.cell?,this] using h
theorem aic(h:pQ b n=true)(ay:b.k≠2):b.l=[]:=by
 cases aA:b.l with
 |nil=>rfl
 |cons c l=>
  exfalso;unfold pQ at h;rw[bb (.inl ⟨ay,by rw[aA];exact Dp _⟩)] at h;cases h
theorem aid{s:bk}(h:pQ b s.len=true)(ay:b.k≠6):s=.nil:=by
 cases s with
 |nil=>rfl
 |cons a bc s' fK=>
  exfalso;unfold pQ at h;rw[bb (.inr ⟨ay,Dp _⟩)] at h;cases h
theorem aie(a1 aZ a8 bh r:Int)(ha:hQ (a1,aZ))(hr:1≤r∧r≤536870912)(cx bu:Int)(pl:Ja)(n cl:Nat)(pp:Ja)(m cp:Nat)(w:aeo)(o:ck)(bm:af (qn (a1,aZ) (a1,aZ) r=o)):
  Calls Tryz.prog 170 #[.agg #[I 1,I a1,I aZ,I a8,I bh,I cx,I bu,I r,ad pl n cl,ad pp m cp]] w fun e w'=>e=ab (.tuple #[h5 o,U true])∧ao w w w':=by
 have cy:=aq ha;have bw:af (0≤r∧r≤4611686018427387904):=by show _∧_;omega
 clear ha hr;go_enter Tryz.func170,Tryz.ntmps170;go_upto_region 1 with fail;obtain⟨W,bo⟩:=ar ((w.alloc (ai (#[I 1,I a1,I aZ,I a8,I bh,I cx,I bu,I r,ad pl n cl,ad pp m cp]) dB)).alloc (cV eh));have aI:af (ao w w W):=by show Below _ _ _;rw[←bo];exact pz _ _ _
 have db:af (an W w.heap.size (#[I 1,I a1,I aZ,I a8,I bh,I cx,I bu,I r,ad pl n cl,ad pp m cp]) dB):=by show _=_;rw[←bo];exact aU (bY _ _) (a6 _ _)
 have bT:af (W.heap[w.heap.size+1]?=some (cV eh)):=by show _=_;rw[←bo];exact vd _ _ _
 change Code.wp _ _ _ _ ((w.alloc (ai (#[I 1,I a1,I aZ,I a8,I bh,I cx,I bu,I r,ad pl n cl,ad pp m cp]) dB)).alloc (cV eh));rw[bo];clear bo;obtain⟨g0,g1,g2,g3,g4,g5,g6,g7,g8,g9⟩:=eA db.out;go_wp2_with fail;with_reducible refine (X5 (a1,aZ) (a1,aZ) r cy.out cy.out bw.out o bm _).mono ?_
 rintro e V ⟨rfl,ax⟩;have cC:af (ao w w V):=aI.out.trans (ax.mono aI.out.size);have lE:=aq (aU bT.out ax);clear g0 g1 g2 g3 g4 g5 g6 g7 g8 g9 ax;obtain⟨a0,bA,a2,a3⟩:=gW (show V.heap[w.heap.size+1]?=some (cV ⟨0,0,0,0⟩) from lE.out);have fr:=cJ lE.out;go_wp2_with fail;have jX:=oh [I o.aD,I o.aE,I o.aL,I o.aH] lE.out rfl;have ax:=ss (m:=0) (b:=w.heap.size+1) (mv _) [I o.aD,I o.aE,I o.aL,I o.aH] cC.out;exact dU (o1 rfl _ _ (w.heap.size+1) _ _ _ _ rfl jX Dj rfl (by kernel_rfl)) rfl ⟨rfl,ax⟩
def RJ (a:Bool) (dX u:Option ck):Option ck:=if a=true then (match dX with
 |none=>u
 |some x=>uW u x) else u
theorem aif(a:Bool)(b:dm)(s r:bk)(u:Option ck):qo (.cons a b s r) u=qo r (RJ a (FE b (qo s)) u):=by rw[qo];unfold RJ;rfl
theorem aih(N:Nat):∀(s:bk),s.count<N→∀(b:dm) (f:Nat) (left m:Int) (S:afp) (pl:Ja) (cl:Nat) (pp:Ja) (cp:Nat) (w:aeo) (o:Option ck),
  BB b→tU s→af (kD b s f left=some m)→af (dE S w pl cl pp cp ⟨b,s⟩)→af (FE b (qo s)=o)→
  Calls Tryz.prog 170 #[jU b (ad pl b.l.length cl) (ad pp s.len cp)] w fun e w'=>e=ab (.tuple #[h5 (o.getD eh),U o.isSome])∧ao w w w':=by
 induction N with
 |zero=>intro s hs;exact absurd hs (my _)
 |succ N cO=>
 intro s hs b f left m S pl cl pp cp w o I7 sE bm el ay;have wQ:=aq cO;have vq:=aq hs;have Dq:=aq I7;have zN:=aq sE;clear cO hs I7 sE;obtain⟨_,RL,zO,zP⟩:=zF bm.out;clear bm;obtain⟨dK,⟨a1,aZ⟩,⟨a8,bh⟩,⟨cx,bu⟩,r,l⟩:=b;have aA:=ay.out;clear ay;simp only at zO zP;show Calls _ _ #[.agg #[I dK,I a1,I aZ,I a8,I bh,I cx,I bu,I r,ad pl l.length cl,ad pp s.len cp]] w _;by_cases c4:dK=6
 ·have bT:=aq (zP c4).2;have hle:l=[]:=aic RL (by simp only;omega);subst hle c4;have cQ:af (qo s none=o):=aA;clear zO zP aA RL;obtain⟨fB,mG⟩:=ar s.len;have k1:=aq mG;rw[mG,tj];clear mG;have oa:fB≤1000000000:=(by rw[←k1.out];exact el.out.p.1);go_enter Tryz.func170,Tryz.ntmps170;go_upto_region 13 with fail;obtain⟨W,bo⟩:=ar ((((w.alloc (ai (#[I 6,I a1,I aZ,I a8,I bh,I cx,I bu,I r,ad pl 0 cl,ad pp fB cp]) dB)).alloc (cV eh)).alloc (cV eh)).alloc (BA false));have bH:af (w7 w w.heap.size #[I 6,I a1,I aZ,I a8,I bh,I cx,I bu,I r,ad pl 0 cl,ad pp fB cp] none W):=(by obtain⟨av,az,aC,bt,ax⟩:=zE bo;exact⟨av,az,⟨aC,bt⟩,ax⟩);change Code.wp _ _ _ _ ((((w.alloc (ai (#[I 6,I a1,I aZ,I a8,I bh,I cx,I bu,I r,ad pl 0 cl,ad pp fB cp]) dB)).alloc (cV eh)).alloc (cV eh)).alloc (BA false));rw[bo];clear bo;obtain⟨g0,g1,g2,g3,g4,g5,g6,g7,g8,g9⟩:=eA bH.out.dC;go_wp2_with fail
  go_loopw [74] (fun i wr=>i=I 0∧wr=W) (fun _ _=>0)
  case atStart=>exact⟨rfl,rfl⟩
  case round=>
  obtain⟨rfl,rfl⟩:=hrel;go_wp2_with fail
  go_loopw [94] (fun i wr=>∃(pre hP:bk) (u:Option ck) (j:Nat) (aM:aeo),aM=wr∧af (s=pre.append hP)∧af (pre.len=j)∧af (qo hP u=o)∧i=I j∧af (w7 w w.heap.size #[I 6,I a1,I aZ,I a8,I bh,I cx,I bu,I r,ad pl 0 cl,ad pp fB cp] u aM)) (fun i _=>fB -(intOf i).toNat)
  case atStart=>exact⟨.nil,s,none,0,_,rfl,rfl,rfl,cQ.out,rfl,bH.out⟩
  case round=>
  obtain⟨pre,hP,u,j,aM,rfl,iI,cG,b0,rfl,aI⟩:=hrel;clear g0 g1 g2 g3 g4 g5 g6 g7 g8 g9;cases hP with
  |nil=>
   have mC:j=fB:=(by rw[←k1.out,←cG.out,iI.out,bk.append_nil]);have dr:u=o:=b0.out;subst mC dr;obtain⟨a0,bA,a2,a3⟩:=gW (show aM.heap[w.heap.size+1+1]?=some (cV ⟨(u.getD eh).aD,(u.getD eh).aE,(u.getD eh).aL,(u.getD eh).aH⟩) from aI.out.yo.a);obtain⟨f0,f1⟩:=F7 aI.out.yo.f;obtain⟨ju,iJ,l',sA⟩:=gW (show aM.heap[w.heap.size+1]?=some (cV ⟨0,0,0,0⟩) from aI.out.res);have fr:=cJ aI.out.res;go_upto_region 30 with fail;go_region
   all_goals
    go_wp2_with fail;have hr:=oh [I (u.getD eh).aD,I (u.getD eh).aE,I (u.getD eh).aL,I (u.getD eh).aH] (show aM.heap[w.heap.size+1]?=some (.cells #[I 0,I 0,I 0,I 0] 198) from aI.out.res) rfl;have ax:=ss (m:=0) (b:=w.heap.size+1) (mv _) [I (u.getD eh).aD,I (u.getD eh).aE,I (u.getD eh).aL,I (u.getD eh).aH] aI.out.aX;exact dU (o1 rfl _ _ (w.heap.size+1) _ _ _ _ rfl hr Dj rfl (by kernel_rfl)) rfl ⟨rfl,ax.drew⟩
  |cons a bc sub fK=>
   have lX:j<fB:=(by rw[←k1.out,←cG.out,iI.out,bk.tB];simp only[bk.len];omega);have MR:(j:Int)<(fB:Int):=(by omega);have i1:ij S aM pp (pre.append (.cons a bc sub fK)):=(by rw[←iI.out];exact el.out.p.below aI.out.aX);obtain⟨ht,lg,ql,dl,qp,cX,rfl,qt,_,oS,aQ,aN,aJ,c3,bF,c5,bZ,b',bU,bg,cH⟩:=i1.part cG.out;have uX:=aq oS;obtain⟨en,m1,jk⟩:=Nu (show ji (pre.append (.cons a bc sub fK)) (f+1) (left-1)=some m by rw[←iI.out];exact bT.out);have Dr:af (BB bc∧tU sub):=tU.at (pre:=pre) (by rw[←iI.out];exact zN.out);have hv:sub.count<N:=(by have av:=vq.out;rw[iI.out,bk.count_append] at av;simp only[bk.count] at av;omega);obtain⟨dX,ej⟩:=ar (FE bc (qo sub));have lh:af (qo fK (RJ a dX u)=o):=(by show _=_;rw[←b0.out,aif,ej]);have wT:af (s=(pre.append (.cons a bc sub .nil)).append fK):=(by show _=_;rw[iI.out,bk.append_assoc];rfl);have hM:af ((pre.append (.cons a bc sub .nil)).len=j+1):=(by show _=_;rw[bk.tB,cG.out];rfl);obtain⟨dh,fe⟩:=ar bc.l.length;obtain⟨i',l8⟩:=ar sub.len;have kx:af (∀Z,ao aM aM Z→Calls Tryz.prog 170 #[.agg #[I bc.k,I bc.a.1,I bc.a.2,I bc.b.1,I bc.b.2,I bc.c.1,I bc.c.2,I bc.r,ad ql dh dl,ad qp i' cX]] Z fun e w'=>e=ab (.tuple #[h5 (dX.getD eh),U dX.isSome])∧ao Z Z w'):=(by intro Z eY;rw[←fe,←l8];exact wQ.out sub hv bc (f+1) en m1 S ql dl qp cX Z dX Dr.out.1 Dr.out.2 (aq jk) (aq (uX.out.below eY)) (aq ej));rw[fe] at bg;rw[l8] at cH;clear i1 oS jk ej fe l8;go_upto_region 25 with fail;have b2:=bY aM (ai (#[U a,I bc.k,I bc.a.1,I bc.a.2,I bc.b.1,I bc.b.2,I bc.c.1,I bc.c.2,I bc.r,ad ql dh dl,ad qp i' cX]) eP);have hU:af (ao aM aM (aM.alloc (ai (#[U a,I bc.k,I bc.a.1,I bc.a.2,I bc.b.1,I bc.b.2,I bc.c.1,I bc.c.2,I bc.r,ad ql dh dl,ad qp i' cX]) eP))):=a6 _ _;have cF:=aq b2;clear b2 aQ aN aJ c3 bF c5 bZ b' bU bg cH;generalize aM.alloc (.cells #[U a,I bc.k,I bc.a.1,I bc.a.2,I bc.b.1,I bc.b.2,I bc.c.1,I bc.c.2,I bc.r,ad ql dh dl,ad qp i' cX] eP)=b4 at hU cF⊢;obtain⟨ek,a7,bf,cM,hO,nN,jW,iO,iP,nj,sF⟩:=Yc cF.out;have c6:=aq (aI.out.below hU.out);cases a with
   |false=>
    have oW:af (qo fK u=o):=lh.out;go_wp2_with fail;go_round<;>first|exact⟨_,fK,u,j+1,_,rfl,wT.out,hM.out,oW.out,by go_num,c6.out⟩|(simp[intOf]<;>omega)
   |true=>
    go_wp2_with fail;with_reducible refine (kx.out _ hU.out).mono ?_
    rintro e c9 ⟨rfl,ax⟩;have dV:=aq (c6.out.below ax);clear ax ek a7 bf cM hO nN jW iO iP nj sF;cases dX with
    |none=>
     have oW:af (qo fK u=o):=lh.out;go_wp2_with fail;have gb:=aq (dV.out.below (a6 c9 (cV eh)));go_round<;>first|exact⟨_,fK,u,j+1,_,rfl,wT.out,hM.out,oW.out,by go_num,gb.out⟩|(simp[intOf]<;>omega)
    |some x=>
     have oW:af (qo fK (uW u x)=o):=lh.out;obtain⟨aD,aE,aL,aH⟩:=x;go_upto_region 27 with fail;have gb:=aq (dV.out.below (a6 c9 (cV ⟨aD,aE,aL,aH⟩)));have RM:af ((c9.alloc (cV ⟨aD,aE,aL,aH⟩)).heap[c9.heap.size]?=some (cV ⟨aD,aE,aL,aH⟩)):=bY _ _;generalize c9.alloc (cV ⟨aD,aE,aL,aH⟩)=eK at gb RM⊢;generalize c9.heap.size=K at RM⊢;obtain⟨a0,bA,a2,a3⟩:=gW RM.out;go_wp2_with fail;with_reducible refine (No (w.heap.size+1+1) (w.heap.size+1+1+1) (by omega) u ⟨aD,aE,aL,aH⟩ _ (aq gb.out.yo)).mono ?_
     rintro e gB ⟨rfl,I4,rB⟩;have yE:=aq (gb.out.take rfl I4 rB);clear I4 rB a0 bA a2 a3;go_wp2_with fail;go_round<;>first|exact⟨_,fK,_,j+1,_,rfl,wT.out,hM.out,oW.out,by go_num,yE.out⟩|(simp[intOf]<;>omega)
 ·have k6:=(zO c4).1;clear zP zO;have aii:s=.nil:=aid RL (by simp only;omega);subst aii;rcases RI k6 with h|h|h|h|h<;>simp only at h<;>subst h
  ·obtain⟨ha,hr⟩:=Yd k6 rfl;have e:some (qn (a1,aZ) (a1,aZ) r)=o:=aA;subst e;exact aie a1 aZ a8 bh r ha hr cx bu pl l.length cl pp 0 cp w _ (aq rfl)
  ·exact ahW S a1 aZ a8 bh cx bu r l pl cl pp cp w (Ye k6 rfl) (aq el.out.l) o (aq aA)
  ·exact absurd rfl Dq.out.1
  ·exact absurd rfl Dq.out.2.1
  ·exact absurd rfl Dq.out.2.2
theorem aij(S:afp)(b:dm)(s:bk)(hn:sD ⟨b,s⟩)(eF:okV ⟨b,s⟩=true)(pl:Ja)(cl:Nat)(pp:Ja)(cp:Nat)(w:aeo)(el:af (dE S w pl cl pp cp ⟨b,s⟩))(o:Option ck)(bm:af (FE b (qo s)=o)):
  Calls Tryz.prog 170 #[jU b (ad pl b.l.length cl) (ad pp s.len cp)] w fun e w'=>e=ab (.tuple #[h5 (o.getD eh),U o.isSome])∧ao w w w':=by
 unfold okV at eF;rw[show bk.one true ⟨b,s⟩=.cons true b s .nil from rfl,FH] at eF;cases hm:kD b s 0 1000 with
 |none=>rw[hm] at eF;simp at eF
 |some m=>exact aih (s.count+1) s (FF _) b 0 1000 m S pl cl pp cp w o hn.1 hn.2 (aq hm) el bm
theorem aik(N:Nat):∀(s:bk),s.count<N→∀(b:dm) (S:afp) (pl:Ja) (cl:Nat) (pp:Ja) (cp:Nat) (w:aeo),
  af (dE S w pl cl pp cp ⟨b,s⟩)→
  Calls Tryz.prog 123 #[jU b (ad pl b.l.length cl) (ad pp s.len cp)] w fun e w'=>e=ab (U (Dc ⟨b,s⟩))∧ao w w w':=by
 induction N with
 |zero=>intro s hs;exact absurd hs (my _)
 |succ N cO=>
 intro s hs b S pl cl pp cp w el;have wQ:=aq cO;have vq:=aq hs;clear cO hs;obtain⟨dK,⟨a1,aZ⟩,⟨a8,bh⟩,⟨cx,bu⟩,r,l⟩:=b;obtain⟨v,aY⟩:=ar (Dc ⟨⟨dK,(a1,aZ),(a8,bh),(cx,bu),r,l⟩,s⟩);have RN:af ((decide (dK=4)|| Bm s)=v):=aY;rw[aY];clear aY;obtain⟨n,hn⟩:=ar l.length;obtain⟨fB,mG⟩:=ar s.len;have k1:=aq mG;show Calls _ _ #[.agg #[I dK,I a1,I aZ,I a8,I bh,I cx,I bu,I r,ad pl l.length cl,ad pp s.len cp]] w _;rw[hn,mG];clear hn mG;by_cases bt:dK=4
 ·have aO:af (true=v):=(by show _=_;rw[←RN.out,eL bt];rfl);subst bt;go_enter Tryz.func123,Tryz.ntmps123;go_wp2_with fail;go_ret;exact⟨dD aO.out,jz _ _⟩
 ·have cQ:af (Bm s=v):=(by show _=_;rw[←RN.out,ey bt];rfl);clear RN;have oa:fB≤1000000000:=(by rw[←k1.out];exact el.out.p.1);have avT:(dK==4)=false:=(by rw[kS];exact bt);go_enter Tryz.func123,Tryz.ntmps123;go_upto_region 3 with fail;have aI:af (ao w w (w.alloc (ai (#[I dK,I a1,I aZ,I a8,I bh,I cx,I bu,I r,ad pl n cl,ad pp fB cp]) dB))):=a6 _ _;have cy:af ((w.alloc (ai (#[I dK,I a1,I aZ,I a8,I bh,I cx,I bu,I r,ad pl n cl,ad pp fB cp]) dB)).heap[w.heap.size]?=some (.cells #[I dK,I a1,I aZ,I a8,I bh,I cx,I bu,I r,ad pl n cl,ad pp fB cp] dB)):=bY _ _;generalize w.alloc (.cells #[I dK,I a1,I aZ,I a8,I bh,I cx,I bu,I r,ad pl n cl,ad pp fB cp] dB)=W at aI cy⊢;obtain⟨g0,g1,g2,g3,g4,g5,g6,g7,g8,g9⟩:=eA cy.out;go_wp2_with fail
  go_loopw [11] (fun i wr=>∃(pre hP:bk) (j:Nat) (aM:aeo),aM=wr∧af (s=pre.append hP)∧af (pre.len=j)∧af (Bm hP=v)∧i=I j∧af (ao w w aM)) (fun i _=>fB -(intOf i).toNat)
  case atStart=>exact⟨.nil,s,0,_,rfl,rfl,rfl,cQ.out,rfl,aI.out⟩
  case round=>
  obtain⟨pre,hP,j,aM,rfl,iI,cG,b0,rfl,c1⟩:=hrel;clear g0 g1 g2 g3 g4 g5 g6 g7 g8 g9;cases hP with
  |nil=>
   have mC:j=fB:=(by rw[←k1.out,←cG.out,iI.out,bk.append_nil]);have aO:af (false=v):=b0.out;subst mC;go_wp2_with fail;go_ret;exact⟨dD aO.out,c1.out⟩
  |cons a bc sub fK=>
   have lX:j<fB:=(by rw[←k1.out,←cG.out,iI.out,bk.tB];simp only[bk.len];omega);have MR:(j:Int)<(fB:Int):=(by omega);have i1:ij S aM pp (pre.append (.cons a bc sub fK)):=(by rw[←iI.out];exact el.out.p.below c1.out);obtain⟨ht,lg,ql,dl,qp,cX,rfl,qt,_,oS,aQ,aN,aJ,c3,bF,c5,bZ,b',bU,bg,cH⟩:=i1.part cG.out;have uX:=aq oS;have hv:sub.count<N:=(by have av:=vq.out;rw[iI.out,bk.count_append] at av;simp only[bk.count] at av;omega);obtain⟨bO,ej⟩:=ar (Dc ⟨bc,sub⟩);have lh:af ((bO || Bm fK)=v):=(by show _=_;rw[←b0.out,←ej];rfl);have wT:af (s=(pre.append (.cons a bc sub .nil)).append fK):=(by show _=_;rw[iI.out,bk.append_assoc];rfl);have hM:af ((pre.append (.cons a bc sub .nil)).len=j+1):=(by show _=_;rw[bk.tB,cG.out];rfl);obtain⟨dh,fe⟩:=ar bc.l.length;obtain⟨i',l8⟩:=ar sub.len;have kx:af (∀Z,ao aM aM Z→Calls Tryz.prog 123 #[.agg #[I bc.k,I bc.a.1,I bc.a.2,I bc.b.1,I bc.b.2,I bc.c.1,I bc.c.2,I bc.r,ad ql dh dl,ad qp i' cX]] Z fun e w'=>e=ab (U bO)∧ao Z Z w'):=(by intro Z eY;rw[←fe,←l8,←ej];exact wQ.out sub hv bc S ql dl qp cX Z (aq (uX.out.below eY)));rw[fe] at bg;rw[l8] at cH;clear i1 oS ej fe l8;go_wp2_with fail;have hU:=aq (a6 aM (ai (#[U a,I bc.k,I bc.a.1,I bc.a.2,I bc.b.1,I bc.b.2,I bc.c.1,I bc.c.2,I bc.r,ad ql dh dl,ad qp i' cX]) eP));with_reducible refine (kx.out _ hU.out).mono ?_
   rintro e c9 ⟨rfl,ax⟩;have dV:af (ao w w c9):=c1.out.trans ((hU.out.trans (ax.mono hU.out.size)).mono c1.out.size);clear ax aQ aN aJ c3 bF c5 bZ b' bU bg cH;cases bO with
   |true=>
    have aO:af (true=v):=(by show _=_;rw[←lh.out];rfl);go_wp2_with fail;go_ret;exact⟨dD aO.out,dV.out⟩
   |false=>
    have oW:af (Bm fK=v):=lh.out;go_wp2_with fail;go_round<;>first|exact⟨_,fK,j+1,_,rfl,wT.out,hM.out,oW.out,by go_num,dV.out⟩|(simp[intOf]<;>omega)
theorem ail(b:dm)(s:bk)(S:afp)(pl:Ja)(cl:Nat)(pp:Ja)(cp:Nat)(w:aeo)(el:af (dE S w pl cl pp cp ⟨b,s⟩)):
  Calls Tryz.prog 123 #[jU b (ad pl b.l.length cl) (ad pp s.len cp)] w fun e w'=>e=ab (U (Dc ⟨b,s⟩))∧ao w w w':=
 aik (s.count+1) s (FF _) b S pl cl pp cp w el
abbrev dq:TypeId:=77
def pB:List eu→bk
 |[]=>.nil
 |o::l=>.cons o.1 o.2.b o.2.p (pB l)
theorem Ds:∀l:List eu,(pB l).len=l.length
 |[]=>rfl
 |_::l=>by simp only[pB,bk.len,Ds l,fY]
theorem I8:∀l m:List eu,pB (l++m)=(pB l).append (pB m)
 |[],_=>rfl
 |_::l,m=>by simp only[H9,pB,bk.append,I8 l m]
def h8(S:afp)(w:aeo)(p:Ja)(l:List eu):Prop:=l.length≤n9∧(0<l.length→∃(k o:Nat) (cs:ajv),p=some ⟨k,o,none⟩∧S k∧an w k cs dq∧ds S w (pB l) (cs.toList.drop o))
theorem h8.nil(S:afp)(w:aeo)(p:Ja):h8 S w p []:=⟨dO _,fun h=>absurd h (mA _)⟩
theorem h8.keep{S:afp}{w w':aeo}{p:Ja}{l:List eu}(h:h8 S w p l)(ay:aP S w w'):h8 S w' p l:=by refine⟨h.1,fun aA=>?_⟩;obtain⟨k,o,cs,e,hS,aK,hp⟩:=h.2 aA;exact⟨k,o,cs,e,hS,ay.get hS aK,ds.keep ay hp⟩
theorem h8.below{S:afp}{w':aeo}{p:Ja}{l:List eu}(h:h8 S w p l)(ax:ao w w w'):h8 S w' p l:=h.keep (.dW ax)
theorem h8.mono{S R:afp}{w:aeo}{p:Ja}{l:List eu}(h:h8 S w p l)(ay:∀k,k<w.heap.size→S k→R k):h8 R w p l:=by refine⟨h.1,fun aA=>?_⟩;obtain⟨k,o,cs,e,hS,aK,hp⟩:=h.2 aA;exact⟨k,o,cs,e,ay _ (lt_of_heap aK) hS,aK,ds.mono ay hp⟩
theorem h8.at{S:afp}{w:aeo}{p:Ja}{l:List eu}{a:Bool}{b:dm}{s:bk}{n:Nat}(h:h8 S w p l)(hn:n<l.length)(he:l[n]=(a,⟨b,s⟩)):
  ∃(k o:Nat) (pl:Ja) (cl:Nat) (pp:Ja) (cp:Nat),p=some ⟨k,o,none⟩∧k<w.heap.size∧S k∧dE S w pl cl pp cp ⟨b,s⟩∧
   ak w k (o+n *11) (U a)∧ak w k (o+n *11+1) (I b.k)∧ak w k (o+n *11+2) (I b.a.1)∧ak w k (o+n *11+3) (I b.a.2)∧ak w k (o+n *11+4) (I b.b.1)∧ak w k (o+n *11+5) (I b.b.2)∧ak w k (o+n *11+6) (I b.c.1)∧ak w k (o+n *11+7) (I b.c.2)∧ak w k (o+n *11+8) (I b.r)∧ak w k (o+n *11+9) (ad pl b.l.length cl)∧ak w k (o+n *11+10) (ad pp s.len cp):=by
 obtain⟨k,o,cs,rfl,hS,aK,hp⟩:=h.2 (by omega);have a7:l=l.take n++(a,⟨b,s⟩)::l.drop (n+1):=by conv=>lhs;rw[←H7 n l,lD hn,he]
 rw[a7,I8] at hp;have az:=hp.drop;rw[si,Ds,kU,A7 (by omega)] at az;obtain⟨pl,cl,pp,cp,aC,hs⟩:=ds.head (show ds S w (.cons a b s (pB (l.drop (n+1)))) _ from az);obtain⟨aQ,aN,aJ,c3,bF,c5,bZ,b',bU,bg,cH⟩:=W3 aC;refine⟨k,o,pl,cl,pp,cp,rfl,lt_of_heap aK,hS,hs,?_,?_,?_,?_,?_,?_,?_,?_,?_,?_,?_⟩<;>simp only[World.cell?, *]<;>rfl
theorem pZ{k:Nat}{v0 v1 v2 v3 v4 v5 v6 cj cD v9 v10:ada}{t:aai}(h:an w k (#[v0,v1,v2,v3,v4,v5,v6,cj,cD,v9,v10]) t):
  ak w k 0 v0∧ak w k 1 v1∧ak w k 2 v2∧ak w k 3 v3∧ak w k 4 v4∧ak w k 5 v5∧ak w k 6 v6∧ak w k 7 cj∧ak w k 8 cD∧ak w k 9 v9∧ak w k 10 v10:=by
 refine⟨?_,?_,?_,?_,?_,?_,?_,?_,?_,?_,?_⟩<;>simp[World.cell?,h]
theorem aim{s:eg}{x:ck}(h:okV s=true)(ay:zu x s=k):FD x s=k:=by rw[←ay];unfold zu;rw[bb h]
theorem ain(S:afp)(x:ck)(hx:I5 x)(b:dm)(s:bk)(hn:sD ⟨b,s⟩)(pl:Ja)(cl:Nat)(pp:Ja)(cp:Nat)(w:aeo)(el:af (dE S w pl cl pp cp ⟨b,s⟩))(k:Int)(ay:af (zu x ⟨b,s⟩=k)):
  Calls Tryz.prog 174 #[jU b (ad pl b.l.length cl) (ad pp s.len cp),h5 x] w fun e w'=>e=ab (I k)∧ao w w w':=by
 obtain⟨v,aY⟩:=ar (okV ⟨b,s⟩);have b0:=aq aY;have Dt:=aq hn;have cR:=aq hx;have ax:jU b (ad pl b.l.length cl) (ad pp s.len cp)=.agg #[I b.k,I b.a.1,I b.a.2,I b.b.1,I b.b.2,I b.c.1,I b.c.2,I b.r,ad pl b.l.length cl,ad pp s.len cp]:=rfl;obtain⟨aD,aE,aL,aH⟩:=x;obtain⟨n,fe⟩:=ar b.l.length;obtain⟨m,hm⟩:=ar s.len;have bd:=aq fe;have bH:=aq hm;clear aY hn hx ax;obtain⟨dK,⟨a1,aZ⟩,⟨a8,bh⟩,⟨cx,bu⟩,r,l⟩:=b;show Calls _ _ #[.agg #[I dK,I a1,I aZ,I a8,I bh,I cx,I bu,I r,ad pl l.length cl,ad pp s.len cp],h5 ⟨aD,aE,aL,aH⟩] w _;simp only at fe;rw[fe,hm];clear fe hm;go_enter Tryz.func174,Tryz.ntmps174;go_upto_region 1 with fail;obtain⟨W,bo⟩:=ar ((w.alloc (ai (#[I dK,I a1,I aZ,I a8,I bh,I cx,I bu,I r,ad pl n cl,ad pp m cp]) dB)).alloc (cV ⟨aD,aE,aL,aH⟩));have aI:af (ao w w W):=by show Below _ _ _;rw[←bo];exact pz _ _ _
 have cy:af (an W w.heap.size (#[I dK,I a1,I aZ,I a8,I bh,I cx,I bu,I r,ad pl n cl,ad pp m cp]) dB):=by show _=_;rw[←bo];exact aU (bY _ _) (a6 _ _)
 have bT:af (W.heap[w.heap.size+1]?=some (cV ⟨aD,aE,aL,aH⟩)):=by show _=_;rw[←bo];exact vd _ _ _
 rw[bo];clear bo;obtain⟨g0,g1,g2,g3,g4,g5,g6,g7,g8,g9⟩:=eA cy.out;go_wp2_with fail;have kx:=IB S ⟨dK,(a1,aZ),(a8,bh),(cx,bu),r,l⟩ s pl cl pp cp W (aq (el.out.below aI.out)) v b0;rw[show (⟨dK,(a1,aZ),(a8,bh),(cx,bu),r,l⟩:dm).l.length=n from bd.out,bH.out] at kx;with_reducible refine kx.mono ?_
 clear kx;rintro e V ⟨rfl,ax⟩;have cC:af (ao w w V):=aI.out.trans (ax.mono aI.out.size);have su:=aq (aU cy.out ax);have lE:=aq (aU bT.out ax);clear g0 g1 g2 g3 g4 g5 g6 g7 g8 g9 ax;cases v with
 |false=>
  have aO:af ((0:Int)=k):=(by show _=_;rw[←ay.out];unfold zu;rw[b0.out];rfl);go_wp2_with fail;go_ret;exact⟨pt aO.out,cC.out⟩
 |true=>
  obtain⟨g0,g1,g2,g3,g4,g5,g6,g7,g8,g9⟩:=eA su.out;obtain⟨a0,bA,a2,a3⟩:=gW lE.out;go_wp2_with fail;have kx:=aib S ⟨aD,aE,aL,aH⟩ cR.out ⟨dK,(a1,aZ),(a8,bh),(cx,bu),r,l⟩ s Dt.out b0.out pl cl pp cp V (aq (el.out.below cC.out)) k (aq (aim b0.out ay.out));rw[show (⟨dK,(a1,aZ),(a8,bh),(cx,bu),r,l⟩:dm).l.length=n from bd.out,bH.out] at kx;with_reducible refine kx.mono ?_
  clear kx;rintro e mc ⟨rfl,ax⟩;have c6:af (ao w w mc):=cC.out.trans (ax.mono cC.out.size);clear ax g0 g1 g2 g3 g4 g5 g6 g7 g8 g9 a0 bA a2 a3;go_wp2_with fail;go_ret;exact⟨rfl,c6.out⟩
theorem aio(S:afp)(b:dm)(s:bk)(hn:sD ⟨b,s⟩)(pl:Ja)(cl:Nat)(pp:Ja)(cp:Nat)(w:aeo)(el:af (dE S w pl cl pp cp ⟨b,s⟩))(o:Option ck)(bm:af (Iv ⟨b,s⟩=o)):
  Calls Tryz.prog 122 #[jU b (ad pl b.l.length cl) (ad pp s.len cp)] w fun e w'=>e=ab (.tuple #[h5 (o.getD eh),U o.isSome])∧ao w w w':=by
 obtain⟨v,aY⟩:=ar (okV ⟨b,s⟩);have b0:=aq aY;have Dt:=aq hn;have iQ:=bm.out;unfold Iv at iQ;rw[aY] at iQ;have b6:=aq iQ;obtain⟨n,fe⟩:=ar b.l.length;obtain⟨m,hm⟩:=ar s.len;have bd:=aq fe;have bH:=aq hm;clear aY hn bm iQ;obtain⟨dK,⟨a1,aZ⟩,⟨a8,bh⟩,⟨cx,bu⟩,r,l⟩:=b;show Calls _ _ #[.agg #[I dK,I a1,I aZ,I a8,I bh,I cx,I bu,I r,ad pl l.length cl,ad pp s.len cp]] w _;simp only at fe;rw[fe,hm];clear fe hm;go_enter Tryz.func122,Tryz.ntmps122;go_upto_region 1 with fail;obtain⟨W,bo⟩:=ar ((w.alloc (ai (#[I dK,I a1,I aZ,I a8,I bh,I cx,I bu,I r,ad pl n cl,ad pp m cp]) dB)).alloc (cV eh));have aI:af (ao w w W):=by show Below _ _ _;rw[←bo];exact pz _ _ _
 have cy:af (an W w.heap.size (#[I dK,I a1,I aZ,I a8,I bh,I cx,I bu,I r,ad pl n cl,ad pp m cp]) dB):=by show _=_;rw[←bo];exact aU (bY _ _) (a6 _ _)
 have bT:af (W.heap[w.heap.size+1]?=some (cV eh)):=by show _=_;rw[←bo];exact vd _ _ _
 change Code.wp _ _ _ _ ((w.alloc (ai (#[I dK,I a1,I aZ,I a8,I bh,I cx,I bu,I r,ad pl n cl,ad pp m cp]) dB)).alloc (cV eh));rw[bo];clear bo;obtain⟨g0,g1,g2,g3,g4,g5,g6,g7,g8,g9⟩:=eA cy.out;go_wp2_with fail;have kx:=IB S ⟨dK,(a1,aZ),(a8,bh),(cx,bu),r,l⟩ s pl cl pp cp W (aq (el.out.below aI.out)) v b0;rw[show (⟨dK,(a1,aZ),(a8,bh),(cx,bu),r,l⟩:dm).l.length=n from bd.out,bH.out] at kx;with_reducible refine kx.mono ?_
 clear kx;rintro e V ⟨rfl,ax⟩;have cC:af (ao w w V):=aI.out.trans (ax.mono aI.out.size);have su:=aq (aU cy.out ax);have lE:=aq (aU bT.out ax);clear g0 g1 g2 g3 g4 g5 g6 g7 g8 g9 ax;obtain⟨a0,bA,a2,a3⟩:=gW (show V.heap[w.heap.size+1]?=some (cV ⟨0,0,0,0⟩) from lE.out);have fr:=cJ lE.out;cases v with
 |false=>
  obtain rfl:none=o:=b6.out;go_wp2_with fail;have jX:=oh [I 0,I 0,I 0,I 0] lE.out rfl;have ax:=ss (m:=0) (b:=w.heap.size+1) (mv _) [I 0,I 0,I 0,I 0] cC.out;exact dU (o1 rfl _ _ (w.heap.size+1) _ _ _ _ rfl jX Dj rfl (by kernel_rfl)) rfl ⟨rfl,ax⟩
 |true=>
  obtain⟨g0,g1,g2,g3,g4,g5,g6,g7,g8,g9⟩:=eA su.out;go_wp2_with fail;have kx:=aij S ⟨dK,(a1,aZ),(a8,bh),(cx,bu),r,l⟩ s Dt.out b0.out pl cl pp cp V (aq (el.out.below cC.out)) o (aq b6.out);rw[show (⟨dK,(a1,aZ),(a8,bh),(cx,bu),r,l⟩:dm).l.length=n from bd.out,bH.out] at kx;with_reducible refine kx.mono ?_
  clear kx;rintro e mc ⟨rfl,ax⟩;have c6:af (ao w w mc):=cC.out.trans (ax.mono cC.out.size);have mF:=aq (aU lE.out ax);clear ax g0 g1 g2 g3 g4 g5 g6 g7 g8 g9 a0 bA a2 a3 fr;obtain⟨a0,bA,a2,a3⟩:=gW (show mc.heap[w.heap.size+1]?=some (cV ⟨0,0,0,0⟩) from mF.out);have fr:=cJ mF.out;go_wp2_with fail;have jX:=oh [I (o.getD eh).aD,I (o.getD eh).aE,I (o.getD eh).aL,I (o.getD eh).aH] mF.out rfl;have ax:=ss (m:=0) (b:=w.heap.size+1) (mv _) [I (o.getD eh).aD,I (o.getD eh).aE,I (o.getD eh).aL,I (o.getD eh).aH] c6.out;exact dU (o1 rfl _ _ (w.heap.size+1) _ _ _ _ rfl jX Dj rfl (by kernel_rfl)) rfl ⟨rfl,ax⟩
abbrev I9(w0:aeo)(D:Nat)(d:Bool)(k a1 aZ a8 bh cx bu r:Int)(pl:Ja)(n cl:Nat)(pp:Ja)(m cp:Nat)(g:Nat)(aD aE aL aH:Int)(Z:aeo):Prop:=
 Z.cell? ⟨D,0,none⟩=some (U d)∧ak Z D 1 (I k)∧ak Z D 2 (I a1)∧ak Z D 3 (I aZ)∧ak Z D 4 (I a8)∧ak Z D 5 (I bh)∧ak Z D 6 (I cx)∧ak Z D 7 (I bu)∧ak Z D 8 (I r)∧ak Z D 9 (ad pl n cl)∧ak Z D 10 (ad pp m cp)∧ak Z g 0 (I aD)∧ak Z g 1 (I aE)∧ak Z g 2 (I aL)∧ak Z g 3 (I aH)∧ao w0 w0 Z
theorem Yg{Z:aeo}(ax:ao v v Z)(h:I9 w0 D d k a1 aZ a8 bh cx bu r pl n cl pp m cp g aD aE aL aH v):I9 w0 D d k a1 aZ a8 bh cx bu r pl n cl pp m cp g aD aE aL aH Z:=
 ⟨bV ax h.1,bV ax h.2.1,bV ax h.2.2.1,bV ax h.2.2.2.1,bV ax h.2.2.2.2.1,bV ax h.2.2.2.2.2.1,bV ax h.2.2.2.2.2.2.1,bV ax h.2.2.2.2.2.2.2.1,bV ax h.2.2.2.2.2.2.2.2.1,bV ax h.2.2.2.2.2.2.2.2.2.1,bV ax h.2.2.2.2.2.2.2.2.2.2.1,bV ax h.2.2.2.2.2.2.2.2.2.2.2.1,bV ax h.2.2.2.2.2.2.2.2.2.2.2.2.1,bV ax h.2.2.2.2.2.2.2.2.2.2.2.2.2.1,bV ax h.2.2.2.2.2.2.2.2.2.2.2.2.2.2.1,h.2.2.2.2.2.2.2.2.2.2.2.2.2.2.2.trans (ax.mono h.2.2.2.2.2.2.2.2.2.2.2.2.2.2.2.size)⟩
theorem Yh(h:I9 w0 D d k a1 aZ a8 bh cx bu r pl n cl pp m cp g aD aE aL aH v):ao w0 w0 v:=h.2.2.2.2.2.2.2.2.2.2.2.2.2.2.2
theorem aip(S:afp)(x:ck)(hx:I5 x)(p:Ja)(l:List eu)(n c:Nat)(hn:n=l.length)(aA:∀o∈l,sD o.2)(w:aeo)(H:af (h8 S w p l))(k:Int)(ay:af (tO l x=k)):
  Calls Tryz.prog 126 #[ad p n c,h5 x] w fun e w'=>e=ab (I k)∧ao w w w':=by
 have oa:n≤1000000000:=by rw[hn];exact H.out.1
 have bd:=aq hn;have dn:=aq aA;have cR:=aq hx;obtain⟨F,hF⟩:∃F:Int→eu→Int,(fun k o=>uV k (zu x o.2) o.1)=F:=⟨_,rfl⟩;have aO:=aq hF;have l1:af ((l.drop 0).foldl F 0=k):=by show _=_;rw[←hF];exact ay.out
 clear hn aA hx hF ay;obtain⟨aD,aE,aL,aH⟩:=x;go_enter Tryz.func126,Tryz.ntmps126;go_wp2_with fail;have ee:af (ao w w (w.alloc (cV ⟨aD,aE,aL,aH⟩))):=jz _ _;have cy:af ((w.alloc (cV ⟨aD,aE,aL,aH⟩)).heap[w.heap.size]?=some (cV ⟨aD,aE,aL,aH⟩)):=bY _ _;generalize w.alloc (cV ⟨aD,aE,aL,aH⟩)=W at ee cy⊢
 go_loopw [5,10] (fun a i wr=>∃(j:Nat) (acc:Int) (aM:aeo),aM=wr∧j≤n∧af ((l.drop j).foldl F acc=k)∧a=I acc∧i=I j∧af (ao W W aM)) (fun _ i _=>n -(intOf i).toNat)
 case atStart=>exact⟨0,0,_,rfl,dO _,l1.out,rfl,rfl,Below.refl _ _⟩
 case round=>
 obtain⟨j,acc,aM,rfl,cd,cG,rfl,rfl,aI⟩:=hrel;by_cases bR:j<n
 ·have fE:j<l.length:=(by rw[←bd.out];exact bR);have gU:(j:Int)<(n:Int):=(by omega);obtain⟨⟨d,⟨b,s⟩⟩,aR⟩:=ar (l[j]);have Dt:=aq (dn.out (d,⟨b,s⟩) (by rw[←aR];exact kT _));obtain⟨ht,lg,pl,cl,pp,cp,rfl,qt,_,el,aQ,aN,aJ,c3,bF,c5,bZ,b',bU,bg,cH⟩:=(H.out.below (ee.out.trans (aI.out.mono ee.out.size))).at fE aR;have o3:=aq el;obtain⟨bO,ej⟩:=ar (zu ⟨aD,aE,aL,aH⟩ ⟨b,s⟩);obtain⟨ba,fs⟩:=ar (uV acc bO d);have l3:=aq ej;have kq:=aq fs;have hM:af ((l.drop (j+1)).foldl F ba=k):=(by show _=_;rw[←cG.out,lD fE,aR,Fh,←aO.out];simp only;rw[ej,fs]);obtain⟨dh,fe⟩:=ar b.l.length;obtain⟨i',l8⟩:=ar s.len;have kx:af (∀Z,Below (aM).heap.size aM Z→Calls Tryz.prog 174 #[.agg #[I b.k,I b.a.1,I b.a.2,I b.b.1,I b.b.2,I b.c.1,I b.c.2,I b.r,ad pl dh cl,ad pp i' cp],h5 ⟨aD,aE,aL,aH⟩] Z fun e w'=>e=ab (I bO)∧ao Z Z w'):=(by intro Z eY;rw[←fe,←l8];exact ain S ⟨aD,aE,aL,aH⟩ cR.out b s Dt.out pl cl pp cp Z (aq (o3.out.below eY)) bO l3);rw[fe] at bg;rw[l8] at cH;clear el aR ej fs fe l8;obtain⟨a0,bA,a2,a3⟩:=gW (aU cy.out aI.out);have en:=lt_of_heap (aU cy.out aI.out);go_upto_region 5 with fail;have fl:af (I9 aM aM.heap.size d b.k b.a.1 b.a.2 b.b.1 b.b.2 b.c.1 b.c.2 b.r pl dh cl pp i' cp w.heap.size aD aE aL aH (aM.alloc (ai (#[U d,I b.k,I b.a.1,I b.a.2,I b.b.1,I b.b.2,I b.c.1,I b.c.2,I b.r,ad pl dh cl,ad pp i' cp]) dq))):=(by obtain⟨ek,a7,bf,cM,hO,nN,jW,iO,iP,nj,sF⟩:=pZ (bY aM (ai (#[U d,I b.k,I b.a.1,I b.a.2,I b.b.1,I b.b.2,I b.c.1,I b.c.2,I b.r,ad pl dh cl,ad pp i' cp]) dq));have ax:=a6 aM (ai (#[U d,I b.k,I b.a.1,I b.a.2,I b.b.1,I b.b.2,I b.c.1,I b.c.2,I b.r,ad pl dh cl,ad pp i' cp]) dq);exact⟨ek,a7,bf,cM,hO,nN,jW,iO,iP,nj,sF,bV ax a0,bV ax bA,bV ax a2,bV ax a3,ax⟩);generalize aM.alloc (.cells #[U d,I b.k,I b.a.1,I b.a.2,I b.b.1,I b.b.2,I b.c.1,I b.c.2,I b.r,ad pl dh cl,ad pp i' cp] dq)=b4 at fl⊢;have sG:=aq (Yg (Below.refl _ _).drew fl.out);clear a0 bA a2 a3 aQ aN aJ c3 bF c5 bZ b' bU bg cH
  go_region_held3 (fun Z=>I9 aM aM.heap.size d b.k b.a.1 b.a.2 b.b.1 b.b.2 b.c.1 b.c.2 b.r pl dh cl pp i' cp w.heap.size aD aE aL aH Z) (first|with_reducible exact fl.out|with_reducible exact sG.out|with_reducible exact Yg (by assumption) (by assumption)|assumption|fail) (first|(go_at_call 174;with_reducible refine (kx.out _ (Yh (by assumption))).mono ?_;rintro e bI ⟨rfl,dY⟩)|(go_at_call 173;with_reducible refine (X4 acc bO d ba kq _).mono ?_;rintro e bI ⟨rfl,rfl⟩)|fail)
  rename_i hHeld;have aV:af (ao W W bI):=aI.out.trans ((Yh hHeld).mono aI.out.size);clear hHeld fl sG;go_wp2_with fail;go_round<;>first|exact⟨j+1,ba,_,rfl,by omega,hM.out,rfl,by go_num,aV.out⟩|(simp[intOf]<;>omega)
 ·have iH:j=n:=(by omega);have dr:af (acc=k):=(by show _=_;rw[←cG.out,mU (by rw[←bd.out];omega)];rfl);subst iH;go_wp2_with fail;go_ret;exact⟨pt dr.out,ee.out.trans (aI.out.mono ee.out.size)⟩
end dd
