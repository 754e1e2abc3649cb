/- Lemmas. -/
import Derived.Test.YtkaiaijcieaofaaGreatDoorQ28
set_option linter.all false
set_option maxRecDepth 100000
set_option maxHeartbeats 6400000
namespace Go.Proofs.YtkaiaijcieaofaaGreatDoor
abbrev Mp:=@Proofs.Tryz.results199
abbrev IH:=@Proofs.Tryz.underlying266
abbrev adn:=@List.setIfInBounds_toArray
abbrev VT:=@List.length_replicate
abbrev ado:=@Nat.mod_two_eq_zero_or_one
abbrev VU:=@List.mem_of_mem_drop
abbrev Mq:=@Proofs.Tryz.results155
namespace n2
open Go.RowKit gI ga jz Fr
theorem adp{vars st:List (Int×Int)}{n N D:Int}(h:iR vars n=(N,D))(aI:oR N D=true):iT vars st 2 n=(N,D,0)∧(0=0→-1073741824≤N∧N≤1073741824∧0≤D∧D≤1073741824):=by obtain⟨d1,d2,eG,fT⟩:=DU aI;exact⟨by unfold iT;rw[aN (by decide),aW rfl,h,aI];rfl,fun _=>⟨eG,fT,by omega,d2⟩⟩
theorem adq{vars st:List (Int×Int)}{n N D:Int}(h:iR vars n=(N,D))(aI:oR N D=false):iT vars st 2 n=(N,D,5)∧(5=0→-1073741824≤N∧N≤1073741824∧0≤D∧D≤1073741824):=
 ⟨by unfold iT;rw[aN (by decide),aW rfl,h,aI];rfl,fun h=>absurd h (by decide)⟩
theorem VV(p q:Ja)(l vars:List (Int×Int))(c d:Nat)(az:l.length≤300)(aS:vars.length≤100)(w:aeo)(ei:af (rS w p l))(cM:af (rS w q vars))(r:Int×Int×Nat)(hr:af (BM vars l=r)):
    Calls Tryz.prog 199 #[ad p l.length c,ad q vars.length d] w (FC r w):=by
  obtain⟨i0,hi,cW,dv,dx⟩:=info_parts apd;have bL:=ao (And.intro hi (And.intro cW (And.intro dv dx)));clear hi cW dv dx;go_enter Tryz.func199,Tryz.ntmps199;go_wp2_with fail
  go_loopw [6,14] (fun s i wr=>∃(j:Nat) (st:List (Int×Int)),j≤l.length∧i=I j∧st.length≤j∧af (iF vars (l.drop j) st=r∧Small st)∧af (sQ w s st wr)∧(st=[]→s=J 0)) (fun _ i _=>l.length -(intOf i).toNat)
  case atStart=>exact⟨0,[],cO _,rfl,aP _,⟨hr.out,by simp[Small]⟩,⟨⟨rfl,.inl ⟨rfl,rfl⟩⟩,by show (w.heap.push _)[w.heap.size]?=_;simp,(Below.refl _ _).alloc (aP _) _⟩,fun _=>rfl⟩
  case round=>
  obtain⟨j,st,b6,rfl,H2,aQ,bH,De⟩:=hrel;rename_i wr;obtain⟨ps,cs,rfl,kN,eD,CY⟩:=an3 bH.out.own;have yV:=ao kN
  have apk:af (0<st.length∨(st=[]∧ps=none∧cs=0)):=by
    rcases w4 st.length with h|h
    · have he:=lP h
      have ax:=De he;simp only[JJ] at ax;exact .inr ⟨he,ax.1,ax.2.2⟩
    · exact .inl h
  have VW:af (0<st.length→∃g0,ps=some ⟨g0,0,none⟩):=by
    intro h;obtain⟨g0,k4,rfl,_⟩:=kN h;rcases CY with h|⟨g1,h,_⟩
    · cases h
    · exact⟨g1,h⟩
  clear kN De CY;by_cases bm:j<l.length
  · obtain⟨k,aw⟩:∃k,l[j].1=k:=⟨_,rfl⟩
    obtain⟨n,hn⟩:∃n,l[j].2=n:=⟨_,rfl⟩;have hp:=ei.out (by omega);obtain⟨b,o,rfl,aB⟩:=hp;have CV:=aB j bm;rw[aw,hn] at CV;obtain⟨bU,cn⟩:=CV;have adr:=(bH.out.aM.cell (p:=⟨b,o+j *2,none⟩) (Mem.Cf bU)).trans bU;have ads:=(bH.out.aM.cell (p:=⟨b,o+j *2+1,none⟩) (Mem.Cf cn)).trans cn;have Ql:Hid _:=ape bm aw hn aQ.out.1;have ou:af (Small st):=aQ.out.2;clear aB bU cn aw hn aQ;by_cases la:jd k n=true
    · obtain⟨t,bc⟩:∃t,uz k=t:=⟨_,rfl⟩
      have uX:af ((uz k:Int)=(t:Int)):=(by show _=_;rw[bc]);have dr:=ao bc;have Df:=ao la;have Lj:t≤2:=(by rw[←bc];unfold uz;split<;>(try split)<;>omega);have rE:af (st.length<t→r=(0,0,3)):=fun h=>VQ Ql.out (adm (.inr (by rw[bc];exact h))) (by decide);clear bc la;go_wp2_with fail;with_reducible refine (acA k n true Df _).mono ?_
      rintro b3 bk ⟨rfl,cj⟩;have Bo:af (sQ w _ st bk):=(bH.out.below (Bd wr k n)).below cj;have Qm:af (bk.heap[wr.heap.size]?=some (Ii k n)):=ba (dL wr _) cj;clear cj adr ads;obtain⟨k4,ek⟩:=Db Qm.out;go_wp2_with fail;with_reducible refine (Vk k t uX _).mono ?_
      rintro b3 w' ⟨rfl,rfl⟩;clear k4 ek;by_cases hlen:(st.length:Int)<(t:Int)
      · have FY:af (r=(0,0,3)):=rE.out (by omega)
        have aJ:Hid _:=Bo.out.fin 0 0 _ rfl;obtain⟨_,z0,z1⟩:=ec Bo.out.res;obtain⟨⟨du,dI⟩,_⟩:=ec Bo.out.res;go_wp2_with fail;clear du dI;generalize ((w'.setCell (aj w.heap.size 0) (I 0)).setCell (aj w.heap.size 1) (I 0))=cZ at aJ⊢;obtain⟨⟨du,dI⟩,_⟩:=ec aJ.out.1;exact cL (v:=.tuple #[iq 0 0,I 3]) (by simp[results,Mp,go_sem,du,dI]) rfl ⟨by rw[FY.out]<;>rfl,aJ.out.2⟩
      · obtain⟨m,hm⟩:∃m,st.length=m+t:=⟨st.length-t,by omega⟩
        have bN:=ao hm;clear hm;have e2:=ao (sR.new Bo.out Qm.out);go_upto_region 10 with fail;obtain⟨g,aI⟩:∃g,w'.heap.size=g:=⟨_,rfl⟩;obtain⟨B,bz⟩:∃B,wr.heap.size=B:=⟨_,rfl⟩;rw[aI,bz] at e2;rw[aI,bz];generalize w'.alloc (dG 0 0)=b5 at e2⊢;clear Bo Qm aI bz;obtain⟨a0,ew⟩:=Db e2.out.op;obtain⟨⟨v0,v1⟩,g0,g1⟩:=ec e2.out.val
        go_upto_block 2 with fail
        go_cut [10] (fun apl cq=>∃(N D:Int) (e:Nat),apl=I (e:Int)∧af (iT vars st k n=(N,D,e)∧(e=0→-1073741824≤N∧N≤1073741824∧0≤D∧D≤1073741824))∧af (sR w B (ad ps st.length cs) st k n g N D cq))
        case first=>
          by_cases au:k=1
          · subst au
            have cj:0≤n∧n<1000000000000:=(by have:=RM Df.out;omega);obtain⟨jf,h2⟩:=cj;obtain⟨N,D,e,hR⟩:∃N D e,jT n 1000000=(N,D,e):=⟨_,_,_,rfl⟩;have VX:af (jT n 1000000=(N,D,e)):=hR;have fC:=Ad n 1000000;rw[hR] at fC;have Ic:af (iT vars st 1 n=(N,D,e)∧(e=0→-1073741824≤N∧N≤1073741824∧0≤D∧D≤1073741824)):=⟨by unfold iT;rw[aW rfl,hR],fun _=>fC⟩;clear hR fC;go_wp2_with fail;with_reducible refine (Ba n 1000000 (by omega) (by omega) (by omega) (by omega) (N,D,e) VX _).mono ?_
            rintro b3 bt ⟨rfl,ck⟩;have fV:=ao (e2.out.below ck);clear ck a0 ew v0 v1 g0 g1 e2;obtain⟨a0,ew⟩:=Db fV.out.op;obtain⟨⟨v0,v1⟩,g0,g1⟩:=ec fV.out.val;have eX:=ao (fV.out.set N D);go_wp2_with fail;go_meet;exact⟨N,D,e,rfl,Ic.out,eX.out⟩
          · by_cases ax:k=2
            · subst ax
              have cj:1≤n∧n≤99:=(by have:=RM Df.out;omega);obtain⟨i,rfl⟩:∃i:Nat,n=(i:Int)+1:=⟨(n-1).toNat,by omega⟩;have awu:i<99:=(by omega);obtain⟨N,D,Mr⟩:∃N D,iR vars ((i:Int)+1)=(N,D):=⟨_,_,rfl⟩;obtain⟨FZ,BY⟩:∃FZ,oR N D=FZ:=⟨_,rfl⟩;have y1:af (oR N D=FZ):=BY;have oy:=ao Mr;clear BY cj au;by_cases fC:(i:Int)+1≤(vars.length:Int)
              · have adt:i<vars.length:=by omega
                obtain⟨bv,ov,rfl,kC⟩:=cM.out (by omega);obtain⟨eC,eu⟩:=kC i adt
                have Ay:vars[i]=(N,D):=by
                  rw[←Mr];unfold iR;rw[aW fC]
                  rw[show ((i:Int)+1).toNat-1=i by omega];simp[List.getD,adt]
                rw[Ay] at eC eu;have adu:=ao eC;have A3:=ao eu;have adv:=Mem.Cf eC;clear kC Ay Mr eC eu;go_upto_region 16 with fail;have fV:=ao (e2.out.set 0 1);clear e2 a0 ew v0 v1 g0 g1;generalize ((b5.setCell (aj g 0) (I 0)).setCell (aj g 1) (I 1))=eE at fV⊢;obtain⟨a0,ew⟩:=Db fV.out.op;obtain⟨⟨v0,v1⟩,g0,g1⟩:=ec fV.out.val;have eC:=(fV.out.pX.aM.cell (p:=⟨bv,ov+i *2,none⟩) adv).trans adu.out;have eu:=(fV.out.pX.aM.cell (p:=⟨bv,ov+i *2+1,none⟩) adv).trans A3.out;go_upto_region 18 with fail;have eX:=ao (fV.out.set N D);clear fV a0 ew v0 v1 g0 g1 eC eu;generalize ((eE.setCell (aj g 0) (I N)).setCell (aj g 1) (I D))=dZ at eX⊢;obtain⟨a0,ew⟩:=Db eX.out.op;obtain⟨⟨v0,v1⟩,g0,g1⟩:=ec eX.out.val;go_wp2_with fail;with_reducible refine (sL N D FZ y1 _).mono ?_
                rintro b3 db ⟨rfl,eF⟩;have sB:=ao (eX.out.below eF);cases FZ
                all_goals
                  go_wp2_with fail;go_meet
                  first
                    |exact⟨N,D,0,rfl,adp oy.out y1.out,sB.out⟩
                    |exact⟨N,D,5,rfl,adq oy.out y1.out,sB.out⟩
              · have Ay:(N,D)=((0:Int),(1:Int)):=by rw[←Mr];unfold iR;rw[aN fC]
                injection Ay with hk b4;subst hk;subst b4;clear Mr;go_upto_region 16 with fail;have eX:=ao (e2.out.set 0 1);clear e2 a0 ew v0 v1 g0 g1;generalize ((b5.setCell (aj g 0) (I 0)).setCell (aj g 1) (I 1))=dZ at eX⊢;obtain⟨a0,ew⟩:=Db eX.out.op;obtain⟨⟨v0,v1⟩,g0,g1⟩:=ec eX.out.val;go_wp2_with fail;with_reducible refine (sL 0 1 FZ y1 _).mono ?_
                rintro b3 db ⟨rfl,eF⟩;have sB:=ao (eX.out.below eF);cases FZ
                all_goals
                  go_wp2_with fail;go_meet
                  first
                    |exact⟨0,1,0,rfl,adp oy.out y1.out,sB.out⟩
                    |exact⟨0,1,5,rfl,adq oy.out y1.out,sB.out⟩
            · have wA:0<st.length:=by have aA:=dr.out;unfold uz at aA;rw[aN (by omega)] at aA;split at aA<;>omega
              obtain⟨gs,rfl⟩:=VW.out wA;obtain⟨m1,fX⟩:∃m1,st.length=m1+1:=⟨st.length-1,by omega⟩;have awv:(st.length:Int)-1=(m1:Int):=(by omega);obtain⟨Bp,vz,e7⟩:∃a b,st.getD m1 (0,0)=(a,b):=⟨_,_,rfl⟩;have adw:m1<st.length:=(by omega);have aww:ae (m1:Int)=(m1:Int):=(by rw[nE];omega);have awx:(0:Int)≤(m1:Int):=Cm _;have awy:(m1:Int)<(st.length:Int):=(by omega);have apm:¬cs=0:=(by omega);have II:gs≠g:=fun e=>e2.out.ne (by rw[e];rfl);have hy:=VR e2.out.pX.own m1 adw;rw[e7] at hy;obtain⟨bJ,dT⟩:=hy;have Dg:=Mem.Cf bJ;have ez:=ao fX;by_cases cY:k=7
              · subst cY
                have E1:(Bp,vz)∈st:=(by have h:st[m1]'(by omega)=(Bp,vz):=(by rw[←e7];simp[List.getD,adw]);rw[←h];exact k3 _);obtain⟨cw,bl,ll,AL⟩:=ou.out _ E1;obtain⟨N,hk⟩:∃N,-Bp=N:=⟨_,rfl⟩;have wT:af (iT vars st 7 n=(N,vz,0)∧(-1073741824≤N∧N≤1073741824∧0≤vz∧vz≤1073741824)):=⟨by unfold iT top;rw[aN (by decide),aN (by decide),aW rfl,fX,Pb,e7,hk],⟨by omega,by omega,ll,AL⟩⟩;have awz:ae N=N:=(by rw[nE];omega);clear E1 e7 fX au ax;go_upto_region 21 with fail
                go_region_held3 (fun x=>x.cell? ⟨gs,m1 *2,none⟩=some (I Bp)∧x.cell? ⟨gs,m1 *2+1,none⟩=some (I vz)) (first|exact⟨(VS _ II _ _ _).trans bJ,(VS _ II _ _ _).trans dT⟩|go_keep) (fail)
                have eX:=ao (e2.out.set N vz).drew;go_wp2_with fail;go_meet;exact⟨N,vz,0,rfl,⟨wT.out.1,fun _=>wT.out.2⟩,eX.out⟩
              · have apn:3≤k∧k≤6∧n=0:=by have:=RM Df.out;omega
                obtain⟨fk,He,jf⟩:=apn;subst jf;have t1:(k==1)=false:=(by simp[au]);have t2:(k==2)=false:=(by simp[ax]);have t7:(k==7)=false:=(by simp[cY]);have apo:t=2:=(by rw[←dr.out];unfold uz;rw[aN (by omega),aN cY]);have awA:(st.length:Int)-2=(m:Int):=(by have:=bN.out;omega);have L0:m<st.length:=(by have:=bN.out;omega);obtain⟨Ms,Mt,b2⟩:∃a b,st.getD m (0,0)=(a,b):=⟨_,_,rfl⟩;obtain⟨N,D,e,hR⟩:∃N D e,kF k Ms Mt Bp vz=(N,D,e):=⟨_,_,_,rfl⟩;have VX:af (kF k Ms Mt Bp vz=(N,D,e)):=hR;have VY:=RL k Ms Mt Bp vz;rw[hR] at VY;have wT:af (iT vars st k 0=(N,D,e)∧(e=0→-1073741824≤N∧N≤1073741824∧0≤D∧D≤1073741824)):=(by refine⟨?_,fun _=>VY⟩;unfold iT top;rw[aN au,aN ax,aN cY,show st.length-2=m by have:=bN.out;omega,show st.length-1=m1 by omega,b2,e7,hR]);have hx:=VR e2.out.pX.own m L0;rw[b2] at hx;obtain⟨eB,bI⟩:=hx;have ee:ae (m:Int)=(m:Int):=(by rw[nE];omega);have dH:(0:Int)≤(m:Int):=Cm _;have y3:(m:Int)<(st.length:Int):=(by omega);have bne:B≠g:=e2.out.ns;have IJ:=Mem.Cf a0;clear au ax cY apo b2 e7 hR VY fX;go_upto_region 11 with fail
                go_region_held3 (fun x=>x.cell? ⟨B,0,none⟩=some (I k)∧(x.cell? ⟨gs,m *2,none⟩=some (I Ms)∧x.cell? ⟨gs,m *2+1,none⟩=some (I Mt))∧(x.cell? ⟨gs,m1 *2,none⟩=some (I Bp)∧x.cell? ⟨gs,m1 *2+1,none⟩=some (I vz)))
                  (first
                    |exact⟨a0,⟨eB,bI⟩,bJ,dT⟩
                    |exact⟨(ck.cell IJ).trans a0,⟨(ck.cell Dg).trans eB,(ck.cell Dg).trans bI⟩,(ck.cell Dg).trans bJ,(ck.cell Dg).trans dT⟩
                    |exact⟨(Mo _ bne _ _ _).trans ((ck.cell IJ).trans a0),⟨(Mo _ II _ _ _).trans ((ck.cell Dg).trans eB),(Mo _ II _ _ _).trans ((ck.cell Dg).trans bI)⟩,(Mo _ II _ _ _).trans ((ck.cell Dg).trans bJ),(Mo _ II _ _ _).trans ((ck.cell Dg).trans dT)⟩)
                  (first
                    |(go_at_call 219;(with_reducible refine (KY k Ms Mt Bp vz (N,D,e) VX _).mono ?_);rintro b3 bt ⟨rfl,ck⟩;have fV:=ao (e2.out.drew.below ck);obtain⟨⟨awB,awC⟩,awD,awE⟩:=ec fV.out.val))
                have eX:=ao (fV.out.set N D);go_wp2_with fail;go_meet;exact⟨N,D,e,rfl,wT.out,eX.out⟩
        case rest=>
        obtain⟨N,D,e,rfl,wT,eX⟩:=hcut;clear e2 a0 ew v0 v1 g0 g1;by_cases he:e=0
        · subst he
          have OV:af (iF vars (l.drop (j+1)) (st.take m++[(N,D)])=r∧Small (st.take m++[(N,D)])):=(by obtain⟨eG,fT,d1,d2⟩:=wT.out.2 rfl;exact⟨aph Ql.out (apf Df.out (by rw[dr.out];have:=bN.out;omega) wT.out.1 (by rw[dr.out];have:=bN.out;omega)),(ou.out.take _).snoc eG fT d1 d2⟩);rcases apk.out with wA|H6
          · obtain⟨gs,rfl⟩:=VW.out wA
            have p5:(st.length:Int) -(t:Int)=(m:Int):=(by have:=bN.out;omega);have dH:(0:Int)≤(m:Int):=Cm _;have c0:(m:Int)≤(cs:Int):=(by have:=bN.out;omega);have ks:m≤st.length:=(by have:=bN.out;omega);have ee:ae (m:Int)=(m:Int):=(by rw[nE];omega);have apm:¬cs=0:=(by omega);go_upto_region 24 with fail;have bI:=Db eX.out.op;have bJ:=(ec eX.out.val).1;have IJ:=(Array.getElem?_eq_some_iff.1 eX.out.op).1;have Al:=(Array.getElem?_eq_some_iff.1 eX.out.val).1;have Mu:(Value.slice (some (aj gs 0)) m cs).ownBlock≠some B:=(have h:=nP eX.out.pX.own eX.out.op (by decide);h);have zk:(Value.slice (some (aj gs 0)) m cs).ownBlock≠some g:=eX.out.ne
            go_region_held3 (fun x=>x.cell? ⟨B,0,none⟩=some (I k)∧x.cell? ⟨g,0,none⟩=some (I N)∧x.cell? ⟨g,1,none⟩=some (I D))
              (first
                |go_keep
                | (go_split_ands
                   refine⟨?_,?_,?_⟩
                   · (rw[dn.cell_far _ (by simp;omega) (eN Mu)];go_keep)
                   · (rw[dn.cell_far _ (by simp;omega) (eN zk)];go_keep)
                   · (rw[dn.cell_far _ (by simp;omega) (eN zk)];go_keep)))
              (first
                |(go_at_call 217;with_reducible refine (Vk k t uX _).mono ?_;rintro b3 w' ⟨rfl,rfl⟩)
                |(refine sr _ (by rfl) _ _ _ (by rfl) (w.heap.size+1) 268 i0 (.agg #[I 0,I 0]) 2 16 IH bL.out.1 bL.out.2.1 bL.out.2.2.1 bL.out.2.2.2 rfl (by omega) (ag gs 0 m cs) m _ (by rfl) (((adl eX.out.pX.own m (by omega)).alloc _).drew) (aj wc.heap.size 0) 1 1 [I N,I D] (by rfl) (by rfl) (jx (cs:= #[I N,I D]) (t:=268) (fr:=(0,0)) (dL wc _)) (by simp[Value.oneCell']) (by omega) (by unfold maxLen;omega) (by omega) (by have:=eX.out.pX.lt;simp;omega) (wc.heap.size+1) (by simp) ?_;intro gg cap bZ ct dn dF h5))
            all_goals
              have VZ:=ao (eX.out.pX.push (v2:=ad (some (aj gs 0)) m cs) rfl dn m (by omega) ct);clear ct dn dF h5 bI bJ IJ Al Mu zk;go_wp2_with fail;go_round<;>first|exact⟨j+1,st.take m++[(N,D)],by omega,by go_num,by simp only[fH,lz,eT,kZ];omega,OV.out,VZ.out,fun h=>by simp at h⟩|(simp[intOf]<;>omega)
          · obtain⟨hJ,rfl,rfl⟩:=H6
            subst hJ;obtain rfl:m=0:=(by have aA:0=m+t:=bN.out;omega);obtain rfl:t=0:=(by have aA:0=0+t:=bN.out;omega);simp only[kZ,Int.natCast_zero] at uX⊢;have dH:(0:Int)≤0:=As _;have ee:ae (0:Int)=0:=(by decide);go_upto_region 24 with fail;have bI:=Db eX.out.op;have bJ:=(ec eX.out.val).1;have IJ:=(Array.getElem?_eq_some_iff.1 eX.out.op).1;have Al:=(Array.getElem?_eq_some_iff.1 eX.out.val).1;have Mu:(Value.slice none 0 0).ownBlock≠some B:=(have h:=nP eX.out.pX.own eX.out.op (by decide);h);have zk:(Value.slice none 0 0).ownBlock≠some g:=eX.out.ne
            go_region_held3 (fun x=>x.cell? ⟨B,0,none⟩=some (I k)∧x.cell? ⟨g,0,none⟩=some (I N)∧x.cell? ⟨g,1,none⟩=some (I D))
              (first
                |go_keep
                | (go_split_ands
                   refine⟨?_,?_,?_⟩
                   · (rw[dn.cell_far _ (by simp;omega) (eN Mu)];go_keep)
                   · (rw[dn.cell_far _ (by simp;omega) (eN zk)];go_keep)
                   · (rw[dn.cell_far _ (by simp;omega) (eN zk)];go_keep)))
              (first
                |(go_at_call 217;with_reducible refine (Vk k 0 uX _).mono ?_;rintro b3 w' ⟨rfl,rfl⟩)
                |(refine sr _ (by rfl) _ _ _ (by rfl) (w.heap.size+1) 268 i0 (.agg #[I 0,I 0]) 2 16 IH bL.out.1 bL.out.2.1 bL.out.2.2.1 bL.out.2.2.2 rfl (by omega) (J 0) 0 _ (by rfl) (((adl eX.out.pX.own 0 (by omega)).alloc _).drew) (aj wc.heap.size 0) 1 1 [I N,I D] (by rfl) (by rfl) (jx (cs:= #[I N,I D]) (t:=268) (fr:=(0,0)) (dL wc _)) (by simp[Value.oneCell']) (by omega) (by unfold maxLen;omega) (by omega) (by have:=eX.out.pX.lt;simp;omega) (wc.heap.size+1) (by simp) ?_;intro gg cap bZ ct dn dF h5))
            all_goals
              have VZ:=ao (eX.out.pX.push (v2:=J 0) rfl dn 0 (by omega) ct);clear ct dn dF h5 bI bJ IJ Al Mu zk;go_wp2_with fail;go_round<;>first|exact⟨j+1,([]:List (Int×Int)).take 0++[(N,D)],by omega,by go_num,by simp only[fH,lz,eT,kZ];omega,OV.out,VZ.out,fun h=>by simp at h⟩|(simp[intOf]<;>omega)
        · have CJ:((e:Int)==0)=false:=by simp;omega
          have FY:af (r=(0,0,e)):=VQ Ql.out (apg Df.out (by rw[dr.out];have:=bN.out;omega) wT.out.1 he) he;clear he;go_upto_region 23 with fail;have aJ:Hid _:=eX.out.fin 0 0 _ rfl;obtain⟨_,z0,z1⟩:=ec eX.out.pX.res;obtain⟨⟨du,dI⟩,_⟩:=ec eX.out.pX.res;go_wp2_with fail;clear du dI;generalize ((wc.setCell (aj w.heap.size 0) (I 0)).setCell (aj w.heap.size 1) (I 0))=cZ at aJ⊢;obtain⟨⟨du,dI⟩,_⟩:=ec aJ.out.1;exact cL (v:=.tuple #[iq 0 0,I (e:Int)]) (by simp[results,Mp,go_sem,du,dI]) rfl ⟨by rw[FY.out]<;>rfl,aJ.out.2⟩
    · have CO:jd k n=false:=by simpa using la
      have Df:=ao CO;have FY:af (r=(0,0,3)):=VQ Ql.out (adm (.inl CO)) (by decide);clear la CO;go_wp2_with fail;with_reducible refine (acA k n false Df _).mono ?_
      rintro b3 bk ⟨rfl,cj⟩;have Bo:af (sQ w _ st bk):=(bH.out.below (Bd wr k n)).below cj;have Qm:af (bk.heap[wr.heap.size]?=some (Ii k n)):=ba (dL wr _) cj;clear cj adr ads;have aJ:Hid _:=Bo.out.fin 0 0 _ rfl;obtain⟨_,z0,z1⟩:=ec Bo.out.res;obtain⟨⟨du,dI⟩,_⟩:=ec Bo.out.res;go_wp2_with fail;clear du dI;generalize ((bk.setCell (aj w.heap.size 0) (I 0)).setCell (aj w.heap.size 1) (I 0))=cZ at aJ⊢;obtain⟨⟨du,dI⟩,_⟩:=ec aJ.out.1;exact cL (v:=.tuple #[iq 0 0,I 3]) (by simp[results,Mp,go_sem,du,dI]) rfl ⟨by rw[FY.out]<;>rfl,aJ.out.2⟩
  · have kM:j=l.length:=by omega
    have adx:af (p2 st=r):=(by have h:=aQ.out.1;rw[kM,Nh] at h;exact h);clear kM aQ;by_cases au:st.length=1
    · obtain⟨gs,rfl⟩:=VW.out (by omega)
      obtain⟨N,D,b2⟩:∃a b,st.getD 0 (0,0)=(a,b):=⟨_,_,rfl⟩;have xT:af (r=(N,D,0)):=(by show _=_;rw[←adx.out,api au,b2]);have bc:=VR bH.out.own 0 (by omega);rw[b2] at bc;obtain⟨eB,bI⟩:=bc;simp only[G',jt] at eB bI;have lq:((st.length:Int)==1)=true:=(by rw[au];rfl);have hc:(0:Int)<(st.length:Int):=(by omega);obtain⟨⟨du,dI⟩,z0,z1⟩:=ec bH.out.res;have aJ:Hid _:=bH.out.fin N D _ rfl;clear b2 au;go_wp2_with fail;clear du dI;generalize ((wr.setCell (aj w.heap.size 0) (I N)).setCell (aj w.heap.size 1) (I D))=cZ at aJ⊢;obtain⟨⟨du,dI⟩,_⟩:=ec aJ.out.1;exact cL (v:=.tuple #[iq N D,I 0]) (by simp[results,Mp,go_sem,du,dI]) rfl ⟨by rw[xT.out]<;>rfl,aJ.out.2⟩
    · have FY:af (r=(0,0,3)):=by show _=_;rw[←adx.out,apj au]
      have lq:((st.length:Int)==1)=false:=(by simp;omega);clear au;have aJ:Hid _:=bH.out.fin 0 0 _ rfl;obtain⟨_,z0,z1⟩:=ec bH.out.res;obtain⟨⟨du,dI⟩,_⟩:=ec bH.out.res;go_wp2_with fail;clear du dI;generalize ((wr.setCell (aj w.heap.size 0) (I 0)).setCell (aj w.heap.size 1) (I 0))=cZ at aJ⊢;obtain⟨⟨du,dI⟩,_⟩:=ec aJ.out.1;exact cL (v:=.tuple #[iq 0 0,I 3]) (by simp[results,Mp,go_sem,du,dI]) rfl ⟨by rw[FY.out]<;>rfl,aJ.out.2⟩
end n2
namespace c1
open Go.RowKit ef
open n2 (iq dG ec vu uc rS VV FC)
open _root_.Go.Proofs.YtkaiaijcieaofaaGreatDoor.Fr (BM)
open hL (e' Hf)
theorem V0:(Tryz.prog.info? 268).map (fun i=>(i.zero,i.size,i.bytes))=some (some (.agg #[I 0,I 0]),2,16):=by kernel_rfl
theorem ady:∀(vs:List (Int×Int)) (k:Nat) (a b:Int),k<vs.length→((e' vs).set (k *2) (I a)).set (k *2+1) (I b)=e' (vs.set k (a,b))
 |[],k,a,b,h=>absurd h (lS _)
 |v::vs,0,a,b,h=>rfl
 |v::vs,k+1,a,b,h=>by have cU:=ady vs k a b (by simpa using h);rw[show (k+1) *2=k *2+1+1 by omega,show k *2+1+1+1=k *2+1+1+1 from rfl];show (Value.int .i64 v.1::Value.int .i64 v.2::((e' vs).set (k *2) _).set (k *2+1) _)=Value.int .i64 v.1::Value.int .i64 v.2::e' (vs.set k (a,b));rw[cU]
variable{V n:Nat}{X:aeo}
theorem apq{vs:List (Int×Int)}{k:Nat}{t:aai}(h:al X V ((e' vs).toArray) t)(aw:k<vs.length)(a b:Int):((X.setCell (aj V (k *2)) (I a)).setCell (aj V (k *2+1)) (I b)).heap[V]?=some (.cells (e' (vs.set k (a,b))).toArray t):=by have ax:=dt (k:=V) (i:=k *2+1) (I b) (dt (k:=V) (i:=k *2) (I a) h);rw[ax,adn,adn,ady vs k a b aw]
theorem apr(n:Nat):madeCells #[I 0,I 0] (n *2)=(e' (List.replicate n (0,0))).toArray:=by
 apply NM;intro i;by_cases hi:i<n *2
 ·have az:(e' (List.replicate n ((0,0):Int×Int))).length=n *2:=(by rw[Hf,VT]);obtain⟨au,ax⟩:=uc (List.replicate n ((0,0):Int×Int)) (i/2) (by rw[VT];omega);simp only[List.getElem_replicate] at au ax;have hm:(madeCells #[Value.int .i64 0,I 0] (n *2))[i]?=some (I 0):=by unfold madeCells;rw[Array.getElem?_map,JP (by simpa using hi),Array.getElem_range];rcases ado i with e|e<;>simp[e]
  rw[hm,List.getElem?_toArray];rcases ado i with e|e
  ·rw[show i=i/2 *2 by omega,au]
  ·rw[show i=i/2 *2+1 by omega,ax]
 ·rw[Aj (by rw[JQ];omega),Aj (by simp[Hf];omega)]
def kh(p:Int×Int→Prop)(V n:Nat)(X:aeo):Prop:=∃vs:List (Int×Int),vs.length=n∧(∀v∈vs,p v)∧al X V ((e' vs).toArray) n5
variable{p:Int×Int→Prop}
theorem kh.below{Z:aeo}(h:kh p V n X)(ay:an X X Z):kh p V n Z:=by obtain⟨vs,au,ax,aA⟩:=h;exact⟨vs,au,ax,ba aA ay⟩
theorem kh.keep{S:afp}{Z:aeo}(h:kh p V n X)(aw:aK S X Z)(jK:S V):kh p V n Z:=by obtain⟨vs,au,ax,aA⟩:=h;exact⟨vs,au,ax,aw.get jK aA⟩
theorem kh.lt(h:kh p V n X):V<X.heap.size:=by obtain⟨vs,_,_,aA⟩:=h;exact lt_of_heap aA
theorem kh.at(h:kh p V n X){j:Nat}(b6:j<n):∃a b,p (a,b)∧ak X V (j *2) (I a)∧ak X V (j *2+1) (I b)∧∀i,X.frozen? ⟨V,i,none⟩=false:=by obtain⟨vs,au,ax,aA⟩:=h;obtain⟨g1,g2⟩:=uc vs j (by omega);exact⟨(vs[j]'(by omega)).1,(vs[j]'(by omega)).2,ax (vs[j]'(by omega)) (k3 (by omega)),cell_of aA (by simpa using g1),cell_of aA (by simpa using g2),dc aA⟩
theorem kh.put(h:kh p V n X){j:Nat}(b6:j<n){a b:Int}(hp:p (a,b)):kh p V n ((X.setCell (aj V (j *2)) (I a)).setCell (aj V (j *2+1)) (I b)):=by
 obtain⟨vs,au,ax,aA⟩:=h;refine⟨vs.set j (a,b),by rw[OA,au],fun v aS=>?_,apq aA (by omega) a b⟩;rcases Yp aS with h|h
 ·exact ax v h
 ·exact h ▸ hp
theorem kh.aps(h:kh p V n X):∃vs:List (Int×Int),vs.length=n∧(∀v∈vs,p v)∧rS X (some (aj V 0)) vs:=by obtain⟨vs,au,ax,aA⟩:=h;refine⟨vs,au,ax,fun _=>⟨V,0,rfl,fun i hi=>?_⟩⟩;obtain⟨g1,g2⟩:=uc vs i hi;exact⟨cell_of aA (by simpa using g1),cell_of aA (by simpa using g2)⟩
theorem kh.made(hp:p (0,0)){w:aeo}(h:al X w.heap.size (madeCells #[I 0,I 0] (n *2)) n5):kh p w.heap.size n X:=
 ⟨List.replicate n (0,0),VT,fun v aS=>by rw[(List.mem_replicate.1 aS).2];exact hp,by rw[←apr];exact h⟩
theorem kh.copy{m c:Nat}{b:Nat}{q:Int×Int→Prop}(h:kh p V n X)(hs:kh q b m X)(aG:∀v,q v→p v)(ty:aai):
  ∃(k:Int) (Z:aeo),(Builtin.copy_ #[266,266] ty #[ag V 0 n n,ag b 0 m c]).run Tryz.prog X=.ok (I k) Z∧aK (fun b=>b≠V) X Z∧kh p V n Z:=by
 obtain⟨vs,au,ax,aA⟩:=h;obtain⟨us,g1,g2,g3⟩:=hs;obtain⟨k,aw,Gx,la⟩:∃k,Nat.min m n=k∧k≤m∧k≤n:=⟨_,rfl,Nat.min_le_left _ _,Nat.min_le_right _ _⟩;obtain⟨cs,eD⟩:=aq ((e' us).take (k *2));have az:cs.length=k *2:=by rw[←eD,lz,Hf,g1];omega
 have aB:=Y1 (P:=Tryz.prog) X 266 266 ty 268 V 0 n n (aj b 0) m c 2 _ n5 cs IH (by kernel_rfl) aA (by rw [aw,az]) (fun j v aS=>by
   rw[←eD,ra] at aS;split at aS
   ·rw[show (⟨b,0,none⟩:Addr).add j=⟨b,j,none⟩ by unfold Addr.add;split<;>simp_all];exact cell_of g3 (by simpa using aS)
   ·cases aS) (by rw [az,List.size_toArray,Hf,au];omega) (fun v aS=>by
   rw[←eD] at aS;have hm:=NA aS;obtain⟨x,_,hx⟩:=List.mem_flatMap.1 hm;simp only[G0,G1,G2] at hx;rcases hx with rfl|rfl<;>rfl)
 have aY:∀(l:List (Int×Int)) (k:Nat),(e' l).take (k *2)=e' (l.take k):=by
  intro l
  induction l with
  |nil=>intro k;simp[e']
  |cons x l cU=>
   intro k;cases k with
   |zero=>simp[e']
   |succ k=>
    have:=cU k;rw[show (k+1) *2=k *2+1+1 by omega];show Value.int .i64 x.1::Value.int .i64 x.2::(e' l).take (k *2)=Value.int .i64 x.1::Value.int .i64 x.2::e' (l.take k);rw[this]
 have a6:∀(l:List (Int×Int)) (k:Nat),(e' l).drop (k *2)=e' (l.drop k):=by
  intro l
  induction l with
  |nil=>intro k;simp[e']
  |cons x l cU=>
   intro k;cases k with
   |zero=>simp[e']
   |succ k=>
    rw[show (k+1) *2=k *2+1+1 by omega];exact cU k
 have cV:(e' vs).toArray.toList.take 0++cs++(e' vs).toArray.toList.drop (0+cs.length)=e' (us.take k++vs.drop k):=by rw[az,jt,Gh,SL,hL.OB,←aY,←a6,eD]
 rw[cV] at aB;refine⟨_,_,aB,⟨rfl,rfl,rfl,by simp[World.setRow],fun k aw _=>setRow_other X V k _ aw⟩,us.take k++vs.drop k,?_,?_,setRow_heap X V _ _ n5 (0,0) aA⟩
 ·rw[fH,lz,e8,g1,au];omega
 ·intro v aS;rcases List.mem_append.1 aS with aS|aS
  ·exact aG v (g2 v (NA aS))
  ·exact ax v (VU aS)
abbrev Dh(v:Int×Int):Prop:=-1073741824≤v.1∧v.1≤1073741824
end c1
namespace gK
open Go.RowKit gI ga jz Mem hL cB
abbrev Qn:Obj:=.cells #[I 0,I 0,aa ⟨#[]⟩,J 0] 197
def ym(b:dN)(kD:ada):Array Value:= #[I b.k,I b.n,aa ⟨b.t.toArray⟩,kD]
abbrev kE(b:dN)(kD:ada):Value:=.agg (ym b kD)
abbrev apt(b:dN)(kD:ada):Obj:=.cells (ym b kD) 197
variable{x w W:aeo}{b:Nat}{v0 v1 v2 v3:ada}{t:aai}
theorem hB(h:al x b (#[v0,v1,v2,v3]) t):
  (ak x b 0 v0∧ak x b 1 v1∧ak x b 2 v2∧ak x b 3 v3)∧(x.frozen? ⟨b,0,none⟩=false∧x.frozen? ⟨b,1,none⟩=false∧x.frozen? ⟨b,2,none⟩=false∧x.frozen? ⟨b,3,none⟩=false):=by
 refine⟨⟨?_,?_,?_,?_⟩,?_,?_,?_,?_⟩<;>simp[World.cell?,World.frozen?,h]
def ie(w:aeo)(b:Nat)(x:dN)(kD:ada):World:=
 (((w.setCell (aj b 0) (I x.k)).setCell (aj b 1) (I x.n)).setCell (aj b 2) (aa ⟨x.t.toArray⟩)).setCell (aj b 3) kD
theorem apu(h:al x b (#[v0,v1,v2,v3]) t)(u:ada):(x.setCell (aj b 0) u).heap[b]?=some (.cells #[u,v1,v2,v3] t):=ke h 0 u
theorem apv(h:al x b (#[v0,v1,v2,v3]) t)(u:ada):(x.setCell (aj b 1) u).heap[b]?=some (.cells #[v0,u,v2,v3] t):=ke h 1 u
theorem apw(h:al x b (#[v0,v1,v2,v3]) t)(u:ada):(x.setCell (aj b 2) u).heap[b]?=some (.cells #[v0,v1,u,v3] t):=ke h 2 u
theorem apx(h:al x b (#[v0,v1,v2,v3]) t)(u:ada):(x.setCell (aj b 3) u).heap[b]?=some (.cells #[v0,v1,v2,u] t):=ke h 3 u
structure wU(w W:aeo):Prop where
 a:W.heap[w.heap.size]?=some Qn
 b:an w w W
theorem wU.below{jN:aeo}(h:wU w W)(ay:an W W jN):wU w jN:=⟨ba h.a ay,h.b.trans (ay.mono h.b.size)⟩
theorem V1(w:aeo):wU w (w.alloc Qn):=⟨dL w _,(Below.refl _ _).alloc (aP _) _⟩
theorem qu(h:wU w W)(x:dN)(kD:ada):(ie W w.heap.size x kD).heap[w.heap.size]?=some (apt x kD)∧an w w (ie W w.heap.size x kD):=
 ⟨apx (apw (apv (apu h.a _) _) _) _,(((h.b.setCell (aP _) _).setCell (aP _) _).setCell (aP _) _).setCell (aP _) _⟩
theorem IK{cs:ajv}(h:al W b cs 197)(x:dN)(kD:ada):kx 197 W (ie W b x kD):=by have step:∀{V:aeo} {cs:ajv} (i:Nat) (u:ada),al V b cs 197→kx 197 V (V.setCell (aj b i) u)∧∃dU,(V.setCell (aj b i) u).heap[b]?=some (.cells dU 197):=fun i u aS=>⟨.set aS u,_,ke aS i u⟩;obtain⟨gP,_,aF⟩:=step 0 (I x.k) h;obtain⟨dP,_,au⟩:=step 1 (I x.n) aF;obtain⟨bM,_,ax⟩:=step 2 (aa ⟨x.t.toArray⟩) au;obtain⟨fk,_,aA⟩:=step 3 kD ax;exact ((gP.trans dP).trans bM).trans fk
def V2(res:Except Nat dN)(w:aeo)(e:Ending)(w':aeo):Prop:=Below w.heap.size w w'∧match res with
 |.ok b=>∃q k,e=ab (.tuple #[kE b (ad q b.args.length k),I 0])∧j5 w.heap.size w' q b.args
 |.error n=>e=ab (.tuple #[kE cB.cH cA,I (n:Int)])
theorem V3(l:ar){c:UInt8}(aB:c≠0):decide (l.take 1=[c])=decide (l.headD 0=c):=by
 cases l with
 |nil=>rw[fJ (by simp),fJ (by simpa using aB.symm)]
 |cons a l=>simp
theorem apy(l:List (Int×Int))(i:Nat)(hi:i<l.length):(e' l)[i *2]?=some (I l[i].1)∧(e' l)[i *2+1]?=some (I l[i].2):=by
 induction l generalizing i with
 |nil=>exact absurd hi (lS _)
 |cons o l cU=>
  have e:e' (o::l)=[I o.1,I o.2] ++e' l:=rfl;cases i with
  |zero=>rw[e];exact⟨rfl,rfl⟩
  |succ i=>
   have:=cU i (A0 hi);rw[e,show (i+1) *2=i *2+1+1 by omega,show i *2+1+1+1=(i *2+1)+1+1 by omega];simpa using this
theorem adz{B:Nat}{v:ada}{l:List (Int×Int)}(h:w.ownsRow B 313 2 v l.length (e' l)):∃p c,v=ad p l.length c∧l7 B w p l:=by
 rcases h.2 with ⟨au,ax⟩|⟨g,c,cur,au,ax,aA,bb,bj,b8,cY⟩
 ·exact⟨none,0,by rw[au,ax],fun az=>absurd az (by omega)⟩
 ·refine⟨_,c,au,fun az=>⟨g,0,cur,rfl,ax,aA,fun i hi=>?_⟩⟩;have key:∀j,j<l.length *2→cur[j]?=(e' l)[j]?:=(fun j b6=>by rw[←cY,FU b6,yO]);obtain⟨g1,g2⟩:=apy l i hi;rw[jt,key _ (by omega),key _ (by omega)];exact⟨g1,g2⟩
theorem apz(S:Ua)(hs:S.size≤1000000000)(res:Except Nat dN)(hr:af (DW S.data.toList=res))(w:aeo):
  Calls Tryz.prog 155 #[aa S] w (V2 res w):=by
 have bH:=ao hs;have az:=hr.out;unfold DW at az;obtain⟨o,a1⟩:=adi S.data.toList;rw[a1] at az;have bE:=ao a1;clear hr hs;have aU:af (wU w (w.alloc (ai (#[I 0,I 0,aa ⟨#[]⟩,J 0]) 197))):=V1 w;go_enter Tryz.func155,Tryz.ntmps155;go_upto_region 1 with fail;generalize w.alloc (.cells #[I 0,I 0,aa ⟨#[]⟩,J 0] 197)=W at aU⊢;go_wp2_with fail;with_reducible refine (CI S bH.out o bE _).mono ?_
 rintro e eE ⟨he,hd⟩;have iU:=ao (aU.out.below (o4 hd));clear hd aU;have aU:=iU;clear iU;cases o with
 |none=>
  have bn:af (Except.error 3=res):=az;unfold Mm at he;simp only[] at he;subst he;clear az a1 bE;obtain⟨⟨aV,aT,c2,c3⟩,f0,f1,f2,f3⟩:=hB aU.out.a;have aJ:=ao (qu aU.out cB.cH cA);go_wp2_with fail;refine cL (w:=ie eE w.heap.size cB.cH cA) (v:=.tuple #[kE cB.cH cA,I 3]) ?_ rfl ?_
  ·clear aV aT c2 c3 f0 f1 f2 f3;generalize ie eE w.heap.size cB.cH cA=cZ at aJ⊢;obtain⟨⟨aV,aT,c2,c3⟩,_⟩:=hB aJ.out.1;simp[results,Mq,go_sem,aV,aT,c2,c3]<;>rfl
  ·rw[←bn.out];exact⟨aJ.out.2,rfl⟩
 |some x=>
  obtain⟨D,R⟩:=x;unfold Mm at he;simp only[] at he;subst he;obtain⟨wB,gL,hE,pW⟩:=adk a1;rw[ch,ch] at hE pW;have hE:D.size≤S.size:=hE;have pW:R.size≤S.size:=pW;simp only[An] at az;rw[ch] at az;clear a1 bE;by_cases ax:2<D.size
  ·rw[aW (.inl ax)] at az;have bn:af (Except.error 3=res):=az;have Qh:(2:Int)<(D.size:Int):=(by omega);clear az wB gL hE pW ax;obtain⟨⟨aV,aT,c2,c3⟩,f0,f1,f2,f3⟩:=hB aU.out.a;have aJ:=ao (qu aU.out cB.cH cA);go_wp2_with fail;refine cL (w:=ie eE w.heap.size cB.cH cA) (v:=.tuple #[kE cB.cH cA,I 3]) ?_ rfl ?_
   ·clear aV aT c2 c3 f0 f1 f2 f3;generalize ie eE w.heap.size cB.cH cA=cZ at aJ⊢;obtain⟨⟨aV,aT,c2,c3⟩,_⟩:=hB aJ.out.1;simp[results,Mq,go_sem,aV,aT,c2,c3]<;>rfl
   ·rw[←bn.out];exact⟨aJ.out.2,rfl⟩
  ·have Qh:¬(2:Int)<(D.size:Int):=(by omega);have gf:af (decide (R.data.toList.take (⟨#[61]⟩:Ua).data.toList.length=(⟨#[61]⟩:Ua).data.toList)=decide (R.data.toList.headD 0=61)):=V3 _ (by decide);by_cases Di:R.data.toList.headD 0=61
   ·rw[aN (by rintro (h|h);exact ax h;exact h Di)] at az
    have Bq:0<R.size:=by
     rw[←ch];cases aG:R.data.toList with
     |nil=>rw[aG] at Di;exact absurd Di (by decide)
     |cons a b=>simp
    have b2:R.data.toList.drop 1=(R.extract 1 R.size).data.toList:=(lX R 1).symm;rw[b2] at az;have q4:af ((R.extract 1 R.size).size≤maxLen):=(by show _≤_;rw[←ch,lX,e8,ch];have:=bH.out;unfold maxLen;omega);obtain⟨⟨l,a,e⟩,hp⟩:=aq (ph.uu (R.extract 1 R.size).data.toList);have bw:=ao hp;rw[hp] at az;simp only[] at az;obtain⟨n,hn⟩:=aq (val D.data.toList:Int);have b9:=ao (And.intro wB (And.intro gL (And.intro (show D.size≤18 by omega) hn)));have gY:(1:Int)≤(R.size:Int):=(by omega);rw[hn] at az;have ei:=ao az;rw[gx Di] at gf;clear az wB gL hE pW ax Di b2 hp hn Bq;go_wp2_with fail;with_reducible refine (xX _ _ _ gf _).mono ?_
    rintro e db ⟨rfl,rfl⟩;go_wp2_with fail;with_reducible refine (ao8 D b9.out.1 b9.out.2.1 b9.out.2.2.1 n b9.out.2.2.2 _).mono ?_
    rintro e bZ ⟨rfl,k6⟩;have V4:=ao (aU.out.below k6);clear k6 aU;go_wp2_with fail;with_reducible refine (aaQ (R.extract 1 R.size) q4.out _ l a e bw).mono ?_
    rintro b3 br ⟨v,rfl,aS,dX⟩;obtain⟨p,c,rfl,Mv⟩:=adz aS;have aU:=ao (V4.out.below dX);have wT:=ao (Mv.mono V4.out.b.size);clear dX aS Mv V4;by_cases he:e=0
    ·subst he;have bn:af (Except.ok ⟨2,n,[],[l]⟩=res):=ei.out;clear ei;have yk:af (wU w (br.alloc (ai (#[ad p l.length c]) 262))):=aU.out.below ((Below.refl _ _).alloc (aP _) _);have Bn:af (j5 w.heap.size (br.alloc (ai (#[ad p l.length c]) 262)) (some (aj br.heap.size 0)) [l]):=(by intro _;refine⟨br.heap.size,0,_,rfl,aU.out.b.size,dL br _,fun i hi=>?_⟩;have aA:i=0:=(by simp at hi;omega);subst aA;exact⟨p,c,rfl,wT.out.keep (T:=0) (.c4 ((Below.refl _ _).alloc (aP _) _)) (by decide)⟩);have sS:=ao (IK yk.out.a ⟨2,n,[],[l]⟩ (ag br.heap.size 0 1 1));have aJ:=ao (qu yk.out ⟨2,n,[],[l]⟩ (ag br.heap.size 0 1 1));obtain⟨⟨aV,aT,c2,c3⟩,f0,f1,f2,f3⟩:=hB yk.out.a;clear aU;go_wp2_with fail;refine cL (w:=ie (br.alloc (ai (#[ad p l.length c]) 262)) w.heap.size ⟨2,n,[],[l]⟩ (ag br.heap.size 0 1 1)) (v:=.tuple #[kE ⟨2,n,[],[l]⟩ (ag br.heap.size 0 1 1),I 0]) ?_ rfl ?_
     ·clear aV aT c2 c3 f0 f1 f2 f3 sS;generalize ie (br.alloc (ai (#[ad p l.length c]) 262)) w.heap.size ⟨2,n,[],[l]⟩ (ad (some (aj br.heap.size 0)) 1 1)=cZ at aJ⊢;obtain⟨⟨aV,aT,c2,c3⟩,_⟩:=hB aJ.out.1;simp[results,Mq,go_sem,aV,aT,c2,c3]<;>rfl
     ·rw[←bn.out];exact⟨aJ.out.2,_,_,rfl,Bn.out.keep sS.out (by decide) (by decide)⟩
    ·have Bg:((e:Int) !=0)=true:=(by simp;omega);have bn:af (Except.error e=res):=(by show _=_;rw[←ei.out,aW he]);clear ei he;obtain⟨⟨aV,aT,c2,c3⟩,f0,f1,f2,f3⟩:=hB aU.out.a;have aJ:=ao (qu aU.out cB.cH cA);go_wp2_with fail;refine cL (w:=ie br w.heap.size cB.cH cA) (v:=.tuple #[kE cB.cH cA,I (e:Int)]) ?_ rfl ?_
     ·clear aV aT c2 c3 f0 f1 f2 f3;generalize ie br w.heap.size cB.cH cA=cZ at aJ⊢;obtain⟨⟨aV,aT,c2,c3⟩,_⟩:=hB aJ.out.1;simp[results,Mq,go_sem,aV,aT,c2,c3]<;>rfl
     ·rw[←bn.out];exact⟨aJ.out.2,rfl⟩
   ·rw[aW (.inr Di)] at az;have bn:af (Except.error 3=res):=az;rw[fJ Di] at gf;clear az wB gL hE pW ax Di;go_wp2_with fail;with_reducible refine (xX _ _ _ gf _).mono ?_
    rintro e db ⟨rfl,rfl⟩;obtain⟨⟨aV,aT,c2,c3⟩,f0,f1,f2,f3⟩:=hB aU.out.a;have aJ:=ao (qu aU.out cB.cH cA);go_wp2_with fail;refine cL (w:=ie eE w.heap.size cB.cH cA) (v:=.tuple #[kE cB.cH cA,I 3]) ?_ rfl ?_
    ·clear aV aT c2 c3 f0 f1 f2 f3;generalize ie eE w.heap.size cB.cH cA=cZ at aJ⊢;obtain⟨⟨aV,aT,c2,c3⟩,_⟩:=hB aJ.out.1;simp[results,Mq,go_sem,aV,aT,c2,c3]<;>rfl
    ·rw[←bn.out];exact⟨aJ.out.2,rfl⟩
end gK
