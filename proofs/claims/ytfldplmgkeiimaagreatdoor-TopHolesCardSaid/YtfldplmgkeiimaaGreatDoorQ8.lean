/- Lemmas. -/
import Derived.Test.YtfldplmgkeiimaaGreatDoorQ7
set_option linter.all false
set_option maxRecDepth 100000
set_option maxHeartbeats 25600000
namespace Go.Proofs.YtfldplmgkeiimaaGreatDoor
abbrev Tq:=@List.all_eq_true
abbrev HI:=@Proofs.Tryz.func217
abbrev HJ:=@Proofs.Tryz.ntmps217
abbrev CW:=@Int.tdiv_eq_ediv_of_nonneg
abbrev EU:=@Nat.succ_pos
namespace dE
open Go.RowKit el
abbrev KF(w0:bTo)(D:Nat)(d:Bool)(k aA aB aU aZ cx aP r:Int)(pl:aya)(n cl:Nat)(pp:aya)(m cp:Nat)(g:Nat)(ao ak ar aq:Int)(Z:bTo):Prop:=
 Z.cell? ⟨D,0,none⟩=some (ai d)∧aw Z D 1 (I k)∧aw Z D 2 (I aA)∧aw Z D 3 (I aB)∧aw Z D 4 (I aU)∧aw Z D 5 (I aZ)∧aw Z D 6 (I cx)∧aw Z D 7 (I aP)∧aw Z D 8 (I r)∧aw Z D 9 (ad pl n cl)∧aw Z D 10 (ad pp m cp)∧aw Z g 0 (I ao)∧aw Z g 1 (I ak)∧aw Z g 2 (I ar)∧aw Z g 3 (I aq)∧av w0 w0 Z
variable{w0 v Z:bTo}{cx aP r:Int}{pl pp:aya}{n g:Nat}
theorem Zy{D:Nat}{d:Bool}{k aA aB aU aZ:Int}{cl:Nat}{m cp:Nat}{ao ak ar aq:Int}(af:av v v Z)(h:KF w0 D d k aA aB aU aZ cx aP r pl n cl pp m cp g ao ak ar aq v):KF w0 D d k aA aB aU aZ cx aP r pl n cl pp m cp g ao ak ar aq Z:=by obtain⟨aQ,aa,ah,ax,bg,b7,c0,ea,eO,fG,xx,g0,g1,g2,g3,aF⟩:=h;exact⟨bM af aQ,bM af aa,bM af ah,bM af ax,bM af bg,bM af b7,bM af c0,bM af ea,bM af eO,bM af fG,bM af xx,bM af g0,bM af g1,bM af g2,bM af g3,aF.trans (af.mono aF.size)⟩
theorem Zz{D:Nat}{d:Bool}{k aA aB aU aZ:Int}{cl:Nat}{m cp:Nat}{ao ak ar aq:Int}(h:KF w0 D d k aA aB aU aZ cx aP r pl n cl pp m cp g ao ak ar aq v):av w0 w0 v:=h.2.2.2.2.2.2.2.2.2.2.2.2.2.2.2
theorem ZA{w:bTo}{k:Nat}{v0 v1 v2 v3 v4 v5 v6 du ds v9 v10:ada}{t:aui}(h:bo w k (#[v0,v1,v2,v3,v4,v5,v6,du,ds,v9,v10]) t):
  aw w k 0 v0∧aw w k 1 v1∧aw w k 2 v2∧aw w k 3 v3∧aw w k 4 v4∧aw w k 5 v5∧aw w k 6 v6∧aw w k 7 du∧aw w k 8 ds∧aw w k 9 v9∧aw w k 10 v10:=by
 refine⟨?_,?_,?_,?_,?_,?_,?_,?_,?_,?_,?_⟩<;>simp[World.cell?,h]
variable{b:dL}
theorem ZB(h:ia b=true)(ab:b.k=1):dw b.a∧1≤b.r∧b.r≤536870912:=by unfold ia at h;rw[aT ab] at h;simp only[gy,tm,gH] at h;exact⟨A1 h.1,h.2⟩
theorem ZC(h:ia b=true)(ab:b.k=2):∀c∈b.l,∀q∈c,dw q:=by unfold ia at h;rw[aK (by omega),aT ab] at h;intro c hc q aC;unfold p0 at h;simp only[gy,Tq] at h;exact A1 (h.2 c hc q aC)
theorem OH(h:ia b=true)(ab:b.k=3∨b.k=4):dw b.a∧dw b.b∧(1≤b.r∧b.r≤536870912)∧(b.k=4→b.a≠b.b):=by
 unfold ia at h;rcases ab with ab|ab
 ·rw[aK (by omega),aK (by omega),aT ab] at h;simp only[gy,tm,gH] at h;exact⟨A1 h.1,A1 h.2.1,h.2.2,fun bg=>by omega⟩
 ·rw[aK (by omega),aK (by omega),aK (by omega),aT ab] at h;simp only[gy,tm,gH] at h;exact⟨A1 h.1,A1 h.2.1,h.2.2.1,fun _=>h.2.2.2⟩
theorem ZD(h:ia b=true)(ab:b.k=5):dw b.a∧dw b.b∧dw b.c∧(1≤b.r∧b.r≤536870912)∧xA b.c b.a b.b=true:=by unfold ia at h;rw[aK (by omega),aK (by omega),aK (by omega),aK (by omega),aT ab] at h;simp only[gy,tm,gH] at h;exact⟨A1 h.1,A1 h.2.1,A1 h.2.2.1,h.2.2.2.1,h.2.2.2.2⟩
theorem Tr(h:ia b=true):b.k=1∨b.k=2∨b.k=3∨b.k=4∨b.k=5:=by
 unfold ia at h
 repeat' split at h
 all_goals first|omega|cases h
theorem OI{a:Bool}{b:dL}{s r:bh}{f:Nat}:∀{pre:bh} {n m:Int},jm (pre.append (.cons a b s r)) f n=some m→∃n' cQ,kY b s f n'=some cQ
 |.nil,n,m,h=>by
  rw[bh.append,G5] at h;cases aa:kY b s f n with
  |none=>rw[aa] at h;cases h
  |some k=>exact⟨n,k,aa⟩
 |.cons h2 bd s' gm,n,m,h=>by
  rw[bh.append,G5] at h;cases aa:kY bd s' f n with
  |none=>rw[aa] at h;cases h
  |some k=>rw[aa] at h;exact OI (pre:=gm) h
theorem aj1(x:bR)(b:dL)(ab:b.k=6)(sub:Int):NS x b sub=sub:=by unfold NS;rw[aK (by omega),aK (by omega),aK (by omega),aK (by omega),aK (by omega)]
theorem aj2(x:bR)(hx:A0 x)(N:Nat):∀(s:bh),s.count<N→∀(b:dL) (f:Nat) (left m:Int) (S:Jp) (pl:aya) (cl:Nat) (pp:aya) (cp:Nat) (w:bTo) (k:Int),
  J (kY b s f left=some m)→J (dY S w pl cl pp cp ⟨b,s⟩)→J (G2 x ⟨b,s⟩=k)→
  Calls Tryz.prog 217 #[j0 b (ad pl b.l.length cl) (ad pp s.len cp),gJ x] w fun e w'=>e=bb (I k)∧av w w w':=by
 induction N with
 |zero=>intro s hs;exact absurd hs (l7 _)
 |succ N dc=>
 intro s hs b f left m S pl cl pp cp w k bl eF ab;have xF:=U dc;have wJ:=U hs;clear dc hs;have cV:=U hx;obtain⟨_,_,Bc,Bd⟩:=AL bl.out;clear bl;obtain⟨ao,ak,ar,aq⟩:=x;obtain⟨di,⟨aA,aB⟩,⟨aU,aZ⟩,⟨cx,aP⟩,r,l⟩:=b;have aj:=ab.out;clear ab;unfold G2 at aj;simp only at aj Bc Bd;obtain⟨n,hn⟩:=az l.length;have a1:=U hn;obtain⟨fW,oa⟩:=az s.len;have lr:=U oa;show Calls _ _ #[.agg #[I di,I aA,I aB,I aU,I aZ,I cx,I aP,I r,ad pl l.length cl,ad pp s.len cp],gJ ⟨ao,ak,ar,aq⟩] w _;rw[hn,oa];clear hn oa;by_cases c0:di=6
 ·have bL:=U (Bd c0).2;have cT:J (G1 ⟨ao,ak,ar,aq⟩ s 0=k):=(by show _=_;rw[←aj];exact (aj1 _ _ c0 _).symm);subst c0;clear Bc Bd aj;have mw:fW≤1000000000:=(by rw[←lr.out];exact eF.out.p.1);go_enter HI,HJ;go_upto_region 12 with fail;obtain⟨W,a6⟩:=az ((w.alloc (aD (#[I 6,I aA,I aB,I aU,I aZ,I cx,I aP,I r,ad pl n cl,ad pp fW cp]) dh)).alloc (cH ⟨ao,ak,ar,aq⟩));have aH:J (av w w W):=(by show Below _ _ _;rw[←a6];exact k5 _ _ _);have b8:J (bo W w.heap.size (#[I 6,I aA,I aB,I aU,I aZ,I cx,I aP,I r,ad pl n cl,ad pp fW cp]) dh):=(by show _=_;rw[←a6];exact aO (cw _ _) (ba _ _));have bq:J (W.heap[w.heap.size+1]?=some (cH ⟨ao,ak,ar,aq⟩)):=(by show _=_;rw[←a6];exact ry _ _ _);rw[a6];clear a6;obtain⟨g0,g1,g2,g3,g4,g5,g6,g7,g8,g9⟩:=en b8.out;go_wp2_with fail
  go_loopw [5,59] (fun acc i wr=>∃(pre gl:bh) (v:Int) (j:Nat) (aG:bTo),aG=wr∧J (s=pre.append gl)∧J (pre.len=j)∧J (G1 ⟨ao,ak,ar,aq⟩ gl v=k)∧acc=I v∧i=I j∧J (av W W aG)) (fun _ i _=>fW -(intOf i).toNat)
  case atStart=>exact⟨.nil,s,0,0,_,rfl,rfl,rfl,cT.out,rfl,rfl,Below.refl _ _⟩
  case round=>
  obtain⟨pre,gl,v,j,aG,rfl,jC,dA,cd,rfl,rfl,cq⟩:=hrel;clear g0 g1 g2 g3 g4 g5 g6 g7 g8 g9;cases gl with
  |nil=>
   have oF:j=fW:=(by rw[←lr.out,←dA.out,jC.out,bh.append_nil]);have aE:J (v=k):=cd.out;subst oF;go_wp2_with fail;go_ret;exact⟨fU aE.out,aH.out.trans (cq.out.mono aH.out.size)⟩
  |cons a bd sub gm=>
   have rh:j<fW:=(by rw[←lr.out,←dA.out,jC.out,bh.uu];simp only[bh.len];omega);have NZ:(j:Int)<(fW:Int):=(by omega);have ZE:av w w aG:=aH.out.trans (cq.out.mono aH.out.size);have kp:iG S aG pp (pre.append (.cons a bd sub gm)):=(by rw[←jC.out];exact eF.out.p.below ZE);obtain⟨hY,lK,ql,dl,qp,cL,rfl,ri,_,qC,aJ,aI,c2,c3,bF,c5,b1,b5,bS,bf,cy⟩:=kp.part dA.out;have wb:=U qC;obtain⟨dK,m1,iI⟩:=OI (show jm (pre.append (.cons a bd sub gm)) (f+1) (left-1)=some m by rw[←jC.out];exact bL.out);have hZ:sub.count<N:=(by have aa:=wJ.out;rw[jC.out,bh.count_append] at aa;simp only[bh.count] at aa;omega);obtain⟨bP,eA⟩:=az (G2 ⟨ao,ak,ar,aq⟩ ⟨bd,sub⟩);obtain⟨a8,ga⟩:=az (qB v bP a);have hg:=U ga;have jR:J (G1 ⟨ao,ak,ar,aq⟩ gm a8=k):=(by show _=_;rw[←cd.out,←ga,←eA];rfl);have xH:J (s=(pre.append (.cons a bd sub .nil)).append gm):=(by show _=_;rw[jC.out,bh.append_assoc];rfl);have jn:J ((pre.append (.cons a bd sub .nil)).len=j+1):=(by show _=_;rw[bh.uu,dA.out];rfl);obtain⟨dj,eY⟩:=az bd.l.length;obtain⟨hH,kP⟩:=az sub.len;have kQ:J (∀Z,av aG aG Z→Calls Tryz.prog 217 #[.agg #[I bd.k,I bd.a.1,I bd.a.2,I bd.b.1,I bd.b.2,I bd.c.1,I bd.c.2,I bd.r,ad ql dj dl,ad qp hH cL],gJ ⟨ao,ak,ar,aq⟩] Z fun e w'=>e=bb (I bP)∧av Z Z w'):=(by intro Z eU;rw[←eY,←kP];exact xF.out sub hZ bd (f+1) dK m1 S ql dl qp cL Z bP (U iI) (U (wb.out.below eU)) (U eA));rw[eY] at bf;rw[kP] at cy;clear kp qC iI eA ga eY kP ZE;obtain⟨a0,a',a2,a3⟩:=fD (aO bq.out cq.out);have z1:=lt_of_heap (aO bq.out cq.out);go_upto_region 16 with fail;have fH:J (KF aG aG.heap.size a bd.k bd.a.1 bd.a.2 bd.b.1 bd.b.2 bd.c.1 bd.c.2 bd.r ql dj dl qp hH cL (w.heap.size+1) ao ak ar aq (aG.alloc (aD (#[ai a,I bd.k,I bd.a.1,I bd.a.2,I bd.b.1,I bd.b.2,I bd.c.1,I bd.c.2,I bd.r,ad ql dj dl,ad qp hH cL]) fb))):=(by obtain⟨cJ,aN,aR,cA,hN,mC,kR,uV,lD,j8,tG⟩:=ZA (cw aG (aD (#[ai a,I bd.k,I bd.a.1,I bd.a.2,I bd.b.1,I bd.b.2,I bd.c.1,I bd.c.2,I bd.r,ad ql dj dl,ad qp hH cL]) fb));have af:=ba aG (aD (#[ai a,I bd.k,I bd.a.1,I bd.a.2,I bd.b.1,I bd.b.2,I bd.c.1,I bd.c.2,I bd.r,ad ql dj dl,ad qp hH cL]) fb);exact⟨cJ,aN,aR,cA,hN,mC,kR,uV,lD,j8,tG,bM af a0,bM af a',bM af a2,bM af a3,af⟩);generalize aG.alloc (.cells #[ai a,I bd.k,I bd.a.1,I bd.a.2,I bd.b.1,I bd.b.2,I bd.c.1,I bd.c.2,I bd.r,ad ql dj dl,ad qp hH cL] fb)=ct at fH⊢;have tH:=U (Zy (Below.refl _ _).drew fH.out);clear a0 a' a2 a3 aJ aI c2 c3 bF c5 b1 b5 bS bf cy
   go_region_held3 (fun Z=>KF aG aG.heap.size a bd.k bd.a.1 bd.a.2 bd.b.1 bd.b.2 bd.c.1 bd.c.2 bd.r ql dj dl qp hH cL (w.heap.size+1) ao ak ar aq Z) (first|with_reducible exact fH.out|with_reducible exact tH.out|with_reducible exact Zy (by assumption) (by assumption)|assumption|fail) (first|(go_at_call 217;go_fit (kQ.out _ (Zz (by assumption)));rintro e bt ⟨rfl,dT⟩)|(go_at_call 173;go_fit (Y8 v bP a a8 hg _);rintro e bt ⟨rfl,rfl⟩)|fail)
   rename_i hHeld;have aV:J (av W W bt):=cq.out.trans ((Zz hHeld).mono cq.out.size);clear hHeld fH tH;go_wp2_with fail;go_round<;>first|exact⟨_,gm,a8,j+1,_,rfl,xH.out,jn.out,jR.out,rfl,by go_num,aV.out⟩|(simp[intOf]<;>omega)
 ·have hj:=(Bc c0).1;clear Bd Bc;rcases Tr hj with h|h|h|h|h<;>simp only at h<;>subst h
  ·obtain⟨ha,hr⟩:=ZB hj rfl;have tD:=U ha;have br:=U hr;have cT:J (uw ⟨ao,ak,ar,aq⟩ (aA,aB) r=k):=aj;clear hj ha hr aj;go_enter HI,HJ;go_wp2_with fail;go_fit (SZ ⟨ao,ak,ar,aq⟩ (aA,aB) r cV.out.eK cV.out.er cV.out.e tD.out br.out k cT _);rintro e V ⟨rfl,af⟩;go_wp2_with fail;go_ret;exact⟨rfl,(k5 _ _ _).trans (af.mono (by simp;omega))⟩
  ·have bq:=U (ZC hj rfl);have cT:J (v7 ⟨ao,ak,ar,aq⟩ l=k):=aj;have dR:=U eF.out.l;clear hj aj;go_enter HI,HJ;go_wp2_with fail;go_fit (ai7 S ⟨ao,ak,ar,aq⟩ cV.out.eK cV.out.er cV.out.e pl l n cl a1.out.symm bq.out _ (U (dR.out.below (k5 _ _ _))) k cT);rintro e V ⟨rfl,af⟩;go_wp2_with fail;go_ret;exact⟨rfl,(k5 _ _ _).trans (af.mono (by simp;omega))⟩
  ·obtain⟨ha,jr,hr,_⟩:=OH hj (.inl rfl);have tD:=U ha;have Be:=U jr;have br:=U hr;have cT:J (NQ ⟨ao,ak,ar,aq⟩ (aA,aB) (aU,aZ) r=k):=aj;clear hj ha jr hr aj;go_enter HI,HJ;go_wp2_with fail;go_fit (ajq ⟨ao,ak,ar,aq⟩ (aA,aB) (aU,aZ) r cV.out tD.out Be.out br.out k cT _);rintro e V ⟨rfl,af⟩;go_wp2_with fail;go_ret;exact⟨rfl,(k5 _ _ _).trans (af.mono (by simp;omega))⟩
  ·obtain⟨ha,jr,hr,hne⟩:=OH hj (.inr rfl);have tD:=U ha;have Be:=U jr;have br:=U hr;have k8:=U (hne rfl);have cT:J (NR ⟨ao,ak,ar,aq⟩ (aA,aB) (aU,aZ) r=k):=aj;clear hj ha jr hr aj hne;go_enter HI,HJ;go_wp2_with fail;go_fit (ajz ⟨ao,ak,ar,aq⟩ (aA,aB) (aU,aZ) r cV.out tD.out Be.out br.out k8.out k cT _);rintro e V ⟨rfl,af⟩;go_wp2_with fail;go_ret;exact⟨rfl,(k5 _ _ _).trans (af.mono (by simp;omega))⟩
  ·obtain⟨ha,jr,hc,hr,KG⟩:=ZD hj rfl;have tD:=U ha;have Be:=U jr;have A3:=U hc;have br:=U hr;have aj3:=U KG;have cT:J (Sf ⟨ao,ak,ar,aq⟩ (cx,aP) (aA,aB) (aU,aZ) r=k):=aj;clear hj ha jr hc hr aj KG;go_enter HI,HJ;go_wp2_with fail;go_fit (ajR ⟨ao,ak,ar,aq⟩ (cx,aP) (aA,aB) (aU,aZ) r cV.out A3.out tD.out Be.out br.out aj3.out k cT _);rintro e V ⟨rfl,af⟩;go_wp2_with fail;go_ret;exact⟨rfl,(k5 _ _ _).trans (af.mono (by simp;omega))⟩
theorem aj4(S:Jp)(x:bR)(hx:A0 x)(b:dL)(s:bh)(ff:okV ⟨b,s⟩=true)(pl:aya)(cl:Nat)(pp:aya)(cp:Nat)(w:bTo)(eF:J (dY S w pl cl pp cp ⟨b,s⟩))(k:Int)(ab:J (G2 x ⟨b,s⟩=k)):
  Calls Tryz.prog 217 #[j0 b (ad pl b.l.length cl) (ad pp s.len cp),gJ x] w fun e w'=>e=bb (I k)∧av w w w':=by
 unfold okV at ff;rw[show bh.one true ⟨b,s⟩=.cons true b s .nil from rfl,G5] at ff;cases hm:kY b s 0 1000 with
 |none=>rw[hm] at ff;simp at ff
 |some m=>exact aj2 x hx (s.count+1) s (Eo _) b 0 1000 m S pl cl pp cp w k (U hm) eF ab
theorem Ts(v:Int):∀(n:Nat) (lo hi:Int),0≤lo→lo≤hi→hi≤2147483648→0≤ux n lo hi v∧ux n lo hi v≤2147483648
 |0,lo,hi,aQ,aa,ah=>⟨aQ,by unfold ux;omega⟩
 |n+1,lo,hi,aQ,aa,ah=>by
  unfold ux;split
  ·split
   ·exact Ts v n _ _ aQ (by omega) (by omega)
   ·exact Ts v n _ _ (by omega) (by omega) ah
  ·exact⟨aQ,by omega⟩
theorem aj5(v:Int)(R:Int)(hR:J (JZ v=R))(w:bTo):Calls Tryz.prog 214 #[I v] w fun e w'=>e=bb (I R)∧w'=w:=by
 go_enter Tryz.func214,Tryz.ntmps214;go_wp2_with fail
 go_loopw [3,4] (fun a b wr=>∃(n:Nat) (lo hi:Int),wr=w∧a=I lo∧b=I hi∧0≤lo∧lo≤hi∧hi≤2147483648∧J (hi-lo<((2^n:Nat):Int))∧J (ux n lo hi v=R)) (fun a b _=>(intOf b-intOf a).toNat)
 case atStart=>exact⟨32,0,2147483648,rfl,rfl,rfl,by decide,by decide,by decide,(by decide:(2147483648-0:Int)<((2^32:Nat):Int)),hR.out⟩
 case round=>
 obtain⟨n,lo,hi,rfl,rfl,rfl,aQ,aa,ah,bL,a1⟩:=hrel;by_cases b0:lo<hi
 ·cases n with
  |zero=>
   have:=bL.out;simp only[Nat.pow_zero,Int.natCast_one] at this;omega
  |succ n=>
   obtain⟨K,hK⟩:∃K:Nat,2^n=K:=⟨_,rfl⟩;have hp:=bL.out;rw[AE,hK] at hp;have aC:(lo+hi).tdiv 2=(lo+hi)/ 2:=CW (by omega);obtain⟨mid,hm⟩:=az ((lo+hi)/ 2);rw[hm] at aC;have kZ:lo≤mid∧mid<hi:=(by omega);have kP:=AW (a:=mid-1073741824) (b:=mid-1073741824) (by omega) (by omega);have ZF:(mid-1073741824) *(mid-1073741824)=mid *mid-2147483648 *mid+1152921504606846976:=(by grind);obtain⟨OJ,OK⟩:=az (mid *mid);rw[OK] at ZF;have eY:=a1.out;unfold ux at eY;rw[aT b0,hm,OK] at eY;have a7:=U eY;have bE:bT (lo+hi)=lo+hi:=b4 _ (by omega);have cr:bT (mid *mid)=OJ:=(by rw[OK];exact b4 _ (by omega));have dJ:bT (mid+1)=mid+1:=b4 _ (by omega);have cb:bT mid=mid:=b4 _ (by omega);have gf:J (mid-lo<((2^n:Nat):Int)):=(by show _<_;rw[hK];omega);have qb:J (hi -(mid+1)<((2^n:Nat):Int)):=(by show _<_;rw[hK];omega);clear eY ZF kP OK hK hp bL a1;by_cases hc:v≤OJ
   ·have aE:J (ux n lo mid v=R):=(by show _=_;rw[←a7.out,aT hc]);have hd:decide (OJ≥v)=true:=eH hc;clear a7 hm;go_wp2_with fail;go_round<;>first|exact⟨n,lo,mid,trivial,rfl,rfl,aQ,kZ.1,by omega,gf,aE⟩|(simp[intOf]<;>omega)
   ·have aE:J (ux n (mid+1) hi v=R):=(by show _=_;rw[←a7.out,aK hc]);have hd:decide (OJ≥v)=false:=eD hc;clear a7 hm;go_wp2_with fail;go_round<;>first|exact⟨n,mid+1,hi,trivial,rfl,rfl,by omega,by omega,ah,qb,aE⟩|(simp[intOf]<;>omega)
 ·have aE:J (lo=R):=by
   show _=_;rw[←a1.out];cases n with
   |zero=>rfl
   |succ n=>unfold ux;rw[aK b0]
  go_wp2_with fail;go_ret;exact⟨fU aE.out,rfl⟩
abbrev EV(w0:bTo)(g:Nat)(cx aP r:Int)(Z:bTo):Prop:=
 Z.cell? ⟨g,5,none⟩=some (I cx)∧aw Z g 6 (I aP)∧aw Z g 7 (I r)∧g+1<Z.heap.size∧
 aw Z (g+1) 0 (j3 Z (g+1) 0)∧Z.frozen? ⟨g+1,0,none⟩=false∧aw Z (g+1) 1 (j3 Z (g+1) 1)∧Z.frozen? ⟨g+1,1,none⟩=false∧aw Z (g+1) 2 (j3 Z (g+1) 2)∧Z.frozen? ⟨g+1,2,none⟩=false∧aw Z (g+1) 3 (j3 Z (g+1) 3)∧Z.frozen? ⟨g+1,3,none⟩=false∧
 (∃a b c d,bo Z (g+1) (#[a,b,c,d]) 198)∧av w0 w0 Z
theorem Tt{a b c d:ada}(b7:aw Z g 5 (I cx))(c0:aw Z g 6 (I aP))(ea:aw Z g 7 (I r))(aF:bo Z (g+1) (#[a,b,c,d]) 198)(af:av w0 w0 Z):EV w0 g cx aP r Z:=by have f:=lu aF;have aJ:aw Z (g+1) 0 a:=cell_of aF rfl;have aI:aw Z (g+1) 1 b:=cell_of aF rfl;have c2:aw Z (g+1) 2 c:=cell_of aF rfl;have c3:aw Z (g+1) 3 d:=cell_of aF rfl;exact⟨b7,c0,ea,lt_of_heap aF,my aJ,f 0,my aI,f 1,my c2,f 2,my c3,f 3,⟨a,b,c,d,aF⟩,af⟩
theorem ZG(af:av v v Z)(h:EV w0 g cx aP r v):EV w0 g cx aP r Z:=by obtain⟨b7,c0,ea,_,_,_,_,_,_,_,_,_,⟨a,b,c,d,aF⟩,bJ⟩:=h;exact Tt (bM af b7) (bM af c0) (bM af ea) (aO aF af) (bJ.trans (af.mono bJ.size))
theorem cell_far{k i j o:Nat}{u x:ada}(ab:k≠j)(h:aw v k i x):(v.setCell (ag j o) u).cell? ⟨k,i,none⟩=some x:=by have:=jg (w:=v) (i:=o) (u:=u) ab;simpa[World.cell?,this] using h
theorem aj6{ao ak ar aq:ada}(aX:w0.heap.size≤g)(h:EV w0 g cx aP r v):EV w0 g cx aP r ((((v.setCell (ag (g+1) 0) ao).setCell (ag (g+1) 1) ar).setCell (ag (g+1) 2) ak).setCell (ag (g+1) 3) aq):=by
 obtain⟨b7,c0,ea,_,_,_,_,_,_,_,_,_,⟨a,b,c,d,aF⟩,bJ⟩:=h;have hn:g≠g+1:=by omega
 refine Tt (cell_far hn (cell_far hn (cell_far hn (cell_far hn b7)))) (cell_far hn (cell_far hn (cell_far hn (cell_far hn c0)))) (cell_far hn (cell_far hn (cell_far hn (cell_far hn ea)))) (me [ao,ar,ak,aq] aF rfl) ?_;exact pt (b:=g+1) (m:=0) (by omega) [ao,ar,ak,aq] bJ
theorem aj7(h:pZ b n=true)(ab:b.k≠2):b.l=[]:=by
 cases aj:b.l with
 |nil=>rfl
 |cons c l=>
  exfalso;unfold pZ at h;rw[aT (.inl ⟨ab,by rw[aj];exact EU _⟩)] at h;cases h
theorem aj8{s:bh}(h:pZ b s.len=true)(ab:b.k≠6):s=.nil:=by
 cases s with
 |nil=>rfl
 |cons a bd s' gm=>
  exfalso;unfold pZ at h;rw[aT (.inr ⟨ab,EU _⟩)] at h;cases h
theorem aj9(aA aB aU aZ r:Int)(ha:dw (aA,aB))(hr:1≤r∧r≤536870912)(cx aP:Int)(pl:aya)(n cl:Nat)(pp:aya)(m cp:Nat)(w:bTo)(o:bR)(bl:J (kH (aA,aB) (aA,aB) r=o)):
  Calls Tryz.prog 170 #[.agg #[I 1,I aA,I aB,I aU,I aZ,I cx,I aP,I r,ad pl n cl,ad pp m cp]] w fun e w'=>e=bb (.tuple #[gJ o,ai true])∧av w w w':=by
 have b8:=U ha;have br:J (0≤r∧r≤4611686018427387904):=by show _∧_;omega
 clear ha hr;go_enter Hq,Hr;go_upto_region 1 with fail;obtain⟨W,a6⟩:=az ((w.alloc (aD (#[I 1,I aA,I aB,I aU,I aZ,I cx,I aP,I r,ad pl n cl,ad pp m cp]) dh)).alloc (cH ed));have aH:J (av w w W):=by show Below _ _ _;rw[←a6];exact k5 _ _ _
 have cF:J (bo W w.heap.size (#[I 1,I aA,I aB,I aU,I aZ,I cx,I aP,I r,ad pl n cl,ad pp m cp]) dh):=by show _=_;rw[←a6];exact aO (cw _ _) (ba _ _)
 have bL:J (W.heap[w.heap.size+1]?=some (cH ed)):=by show _=_;rw[←a6];exact ry _ _ _
 change Code.wp _ _ _ _ ((w.alloc (aD (#[I 1,I aA,I aB,I aU,I aZ,I cx,I aP,I r,ad pl n cl,ad pp m cp]) dh)).alloc (cH ed));rw[a6];clear a6;obtain⟨g0,g1,g2,g3,g4,g5,g6,g7,g8,g9⟩:=en cF.out;go_wp2_with fail;go_fit (Kp (aA,aB) (aA,aB) r b8.out b8.out br.out o bl _);rintro e V ⟨rfl,af⟩;have cm:J (av w w V):=aH.out.trans (af.mono aH.out.size);have gN:=U (aO bL.out af);clear g0 g1 g2 g3 g4 g5 g6 g7 g8 g9 af;obtain⟨a0,a',a2,a3⟩:=fD (show V.heap[w.heap.size+1]?=some (cH ⟨0,0,0,0⟩) from gN.out);have fr:=cP gN.out;go_wp2_with fail;have hO:=me [I o.ao,I o.ak,I o.ar,I o.aq] gN.out rfl;have af:=pt (m:=0) (b:=w.heap.size+1) (l4 _) [I o.ao,I o.ak,I o.ar,I o.aq] cm.out;exact dH (nK rfl _ _ (w.heap.size+1) _ _ _ _ rfl hO zw rfl (by kernel_rfl)) rfl ⟨rfl,af⟩
theorem aka(aA aB aU aZ r:Int)(ha:dw (aA,aB))(jr:dw (aU,aZ))(hr:1≤r∧r≤536870912)(cx aP:Int)(pl:aya)(n cl:Nat)(pp:aya)(m cp:Nat)(w:bTo)(o:bR)(bl:J (kH (aA,aB) (aU,aZ) r=o)):
  Calls Tryz.prog 170 #[.agg #[I 3,I aA,I aB,I aU,I aZ,I cx,I aP,I r,ad pl n cl,ad pp m cp]] w fun e w'=>e=bb (.tuple #[gJ o,ai true])∧av w w w':=by
 have b8:=U ha;have Be:=U jr;have br:J (0≤r∧r≤4611686018427387904):=by show _∧_;omega
 clear ha hr jr;go_enter Hq,Hr;go_upto_region 1 with fail;obtain⟨W,a6⟩:=az ((w.alloc (aD (#[I 3,I aA,I aB,I aU,I aZ,I cx,I aP,I r,ad pl n cl,ad pp m cp]) dh)).alloc (cH ed));have aH:J (av w w W):=by show Below _ _ _;rw[←a6];exact k5 _ _ _
 have cF:J (bo W w.heap.size (#[I 3,I aA,I aB,I aU,I aZ,I cx,I aP,I r,ad pl n cl,ad pp m cp]) dh):=by show _=_;rw[←a6];exact aO (cw _ _) (ba _ _)
 have bL:J (W.heap[w.heap.size+1]?=some (cH ed)):=by show _=_;rw[←a6];exact ry _ _ _
 change Code.wp _ _ _ _ ((w.alloc (aD (#[I 3,I aA,I aB,I aU,I aZ,I cx,I aP,I r,ad pl n cl,ad pp m cp]) dh)).alloc (cH ed));rw[a6];clear a6;obtain⟨g0,g1,g2,g3,g4,g5,g6,g7,g8,g9⟩:=en cF.out;go_wp2_with fail;go_fit (Kp (aA,aB) (aU,aZ) r b8.out Be.out br.out o bl _);rintro e V ⟨rfl,af⟩;have cm:J (av w w V):=aH.out.trans (af.mono aH.out.size);have gN:=U (aO bL.out af);clear g0 g1 g2 g3 g4 g5 g6 g7 g8 g9 af;obtain⟨a0,a',a2,a3⟩:=fD (show V.heap[w.heap.size+1]?=some (cH ⟨0,0,0,0⟩) from gN.out);have fr:=cP gN.out;go_wp2_with fail;have hO:=me [I o.ao,I o.ak,I o.ar,I o.aq] gN.out rfl;have af:=pt (m:=0) (b:=w.heap.size+1) (l4 _) [I o.ao,I o.ak,I o.ar,I o.aq] cm.out;exact dH (nK rfl _ _ (w.heap.size+1) _ _ _ _ rfl hO zw rfl (by kernel_rfl)) rfl ⟨rfl,af⟩
theorem akb(aA aB aU aZ r:Int)(ha:dw (aA,aB))(jr:dw (aU,aZ))(hr:1≤r∧r≤536870912)(cx aP:Int)(pl:aya)(n cl:Nat)(pp:aya)(m cp:Nat)(w:bTo)(o:bR)(bl:J (kH (aA,aB) (aU,aZ) r=o)):
  Calls Tryz.prog 170 #[.agg #[I 4,I aA,I aB,I aU,I aZ,I cx,I aP,I r,ad pl n cl,ad pp m cp]] w fun e w'=>e=bb (.tuple #[gJ o,ai true])∧av w w w':=by
 have b8:=U ha;have Be:=U jr;have br:J (0≤r∧r≤4611686018427387904):=by show _∧_;omega
 clear ha hr jr;go_enter Hq,Hr;go_upto_region 1 with fail;obtain⟨W,a6⟩:=az ((w.alloc (aD (#[I 4,I aA,I aB,I aU,I aZ,I cx,I aP,I r,ad pl n cl,ad pp m cp]) dh)).alloc (cH ed));have aH:J (av w w W):=by show Below _ _ _;rw[←a6];exact k5 _ _ _
 have cF:J (bo W w.heap.size (#[I 4,I aA,I aB,I aU,I aZ,I cx,I aP,I r,ad pl n cl,ad pp m cp]) dh):=by show _=_;rw[←a6];exact aO (cw _ _) (ba _ _)
 have bL:J (W.heap[w.heap.size+1]?=some (cH ed)):=by show _=_;rw[←a6];exact ry _ _ _
 change Code.wp _ _ _ _ ((w.alloc (aD (#[I 4,I aA,I aB,I aU,I aZ,I cx,I aP,I r,ad pl n cl,ad pp m cp]) dh)).alloc (cH ed));rw[a6];clear a6;obtain⟨g0,g1,g2,g3,g4,g5,g6,g7,g8,g9⟩:=en cF.out;go_wp2_with fail;go_fit (Kp (aA,aB) (aU,aZ) r b8.out Be.out br.out o bl _);rintro e V ⟨rfl,af⟩;have cm:J (av w w V):=aH.out.trans (af.mono aH.out.size);have gN:=U (aO bL.out af);clear g0 g1 g2 g3 g4 g5 g6 g7 g8 g9 af;obtain⟨a0,a',a2,a3⟩:=fD (show V.heap[w.heap.size+1]?=some (cH ⟨0,0,0,0⟩) from gN.out);have fr:=cP gN.out;go_wp2_with fail;have hO:=me [I o.ao,I o.ak,I o.ar,I o.aq] gN.out rfl;have af:=pt (m:=0) (b:=w.heap.size+1) (l4 _) [I o.ao,I o.ak,I o.ar,I o.aq] cm.out;exact dH (nK rfl _ _ (w.heap.size+1) _ _ _ _ rfl hO zw rfl (by kernel_rfl)) rfl ⟨rfl,af⟩
theorem akc(aA aB aU aZ r:Int)(ha:dw (aA,aB))(cx aP:Int)(hc:dw (cx,aP))(hr:1≤r∧r≤536870912)(pl:aya)(n cl:Nat)(pp:aya)(m cp:Nat)(w:bTo)(o:bR)(bl:J (kH (cx,aP) (cx,aP) (r+JZ (kn (aA,aB) (cx,aP)))=o)):
  Calls Tryz.prog 170 #[.agg #[I 5,I aA,I aB,I aU,I aZ,I cx,I aP,I r,ad pl n cl,ad pp m cp]] w fun e w'=>e=bb (.tuple #[gJ o,ai true])∧av w w w':=by
 obtain⟨d,hd⟩:=az (kn (aA,aB) (cx,aP));obtain⟨ro,OL⟩:=az (JZ d);obtain⟨q,aC⟩:=az (r+ro);have KG:=Ts d 32 0 2147483648 (by decide) (by decide) (by decide);rw[show ux 32 0 2147483648 d=ro from OL] at KG;have hR:0≤q∧q≤4611686018427387904:=by omega
 have br:=U hR;have bq:=U hc;have akd:=U OL;have b':J (kH (cx,aP) (cx,aP) q=o):=by show _=_;rw[←aC,←OL,←hd];exact bl.out
 unfold dw at ha hc;simp only at ha hc;have aN:bT (aA-cx)=aA-cx:=b4 _ (by omega);have aR:bT (aB-aP)=aB-aP:=b4 _ (by omega);obtain⟨dK,e',n3,_,_,_⟩:=EN (a:=aA-cx) (b:=aA-cx) (c:=aB-aP) (d:=aB-aP) (by omega) (by omega) (by omega) (by omega);have fV:(aA-cx) *(aA-cx)+(aB-aP) *(aB-aP)=d:=hd;replace n3:=n3.trans fV;have cA:bT (r+ro)=q:=by rw[aC];exact b4 _ (by omega)
 clear ha hc hr bl hd OL aC KG hR fV;go_enter Hq,Hr;go_upto_region 1 with fail;obtain⟨W,a6⟩:=az ((w.alloc (aD (#[I 5,I aA,I aB,I aU,I aZ,I cx,I aP,I r,ad pl n cl,ad pp m cp]) dh)).alloc (cH ed));have aH:J (av w w W):=by show Below _ _ _;rw[←a6];exact k5 _ _ _
 have cF:J (bo W w.heap.size (#[I 5,I aA,I aB,I aU,I aZ,I cx,I aP,I r,ad pl n cl,ad pp m cp]) dh):=by show _=_;rw[←a6];exact aO (cw _ _) (ba _ _)
 have bL:J (W.heap[w.heap.size+1]?=some (cH ed)):=by show _=_;rw[←a6];exact ry _ _ _
 change Code.wp _ _ _ _ ((w.alloc (aD (#[I 5,I aA,I aB,I aU,I aZ,I cx,I aP,I r,ad pl n cl,ad pp m cp]) dh)).alloc (cH ed));rw[a6];clear a6;obtain⟨g0,g1,g2,g3,g4,g5,g6,g7,g8,g9⟩:=en cF.out;go_upto_region 8 with fail
 go_quiet (fail)
 have js:=U (aO cF.out (gj (Below.refl _ _) nq));have gN:=U (aO bL.out (gj (Below.refl _ _) nq));have cm:=U (gj aH.out nq);clear g0 g1 g2 g3 g4 g5 g6 g7 g8 g9 cF bL aH;generalize W.drewN nq=V at js gN cm⊢;go_upto_region 9 with fail;have cI:J (EV w w.heap.size cx aP r V):=by obtain⟨g0,g1,g2,g3,g4,g5,g6,g7,g8,g9⟩:=en js.out;exact Tt g5 g6 g7 gN.out cm.out
 have ht:=U (ZG (Below.refl _ _).drew cI.out)
 go_region_held3 (fun Z=>EV w w.heap.size cx aP r Z) (first|with_reducible exact cI.out|with_reducible exact ht.out|with_reducible exact ZG (by assumption) (by assumption)|with_reducible exact aj6 (bD _) (by assumption)|assumption|fail) (first|(go_at_call 214;go_fit (aj5 d ro akd _);rintro e bt ⟨rfl,rfl⟩)|(go_at_call 213;go_fit (Kp (cx,aP) (cx,aP) q bq.out bq.out br.out o b' _);rintro e bt ⟨rfl,dT⟩)|fail)
 have Bb:=U (aO (aO gN.out (Below.refl _ _).drew) dT);have ek:J (av w w bt):=(cm.out.drew).trans (dT.mono cm.out.size);clear cI ht gN cm js;have hO:=me [I o.ao,I o.ak,I o.ar,I o.aq] Bb.out rfl;have af:=pt (m:=0) (b:=w.heap.size+1) (l4 _) [I o.ao,I o.ak,I o.ar,I o.aq] ek.out;go_wp2_with fail;exact dH (nK rfl _ _ (w.heap.size+1) _ _ _ _ rfl hO zw rfl (by kernel_rfl)) rfl ⟨rfl,af⟩
def Tu(a:Bool)(dt u:Option bR):Option bR:=if a=true then (match dt with
 |none=>u
 |some x=>p3 u x) else u
theorem ake(a:Bool)(b:dL)(s r:bh)(u:Option bR):q' (.cons a b s r) u=q' r (Tu a (G3 b (q' s)) u):=by rw[q'];unfold Tu;rfl
theorem akf(N:Nat):∀(s:bh),s.count<N→∀(b:dL) (f:Nat) (left m:Int) (S:Jp) (pl:aya) (cl:Nat) (pp:aya) (cp:Nat) (w:bTo) (o:Option bR),
  J (kY b s f left=some m)→J (dY S w pl cl pp cp ⟨b,s⟩)→J (G3 b (q' s)=o)→
  Calls Tryz.prog 170 #[j0 b (ad pl b.l.length cl) (ad pp s.len cp)] w fun e w'=>e=bb (.tuple #[gJ (o.getD ed),ai o.isSome])∧av w w w':=by
 induction N with
 |zero=>intro s hs;exact absurd hs (l7 _)
 |succ N dc=>
 intro s hs b f left m S pl cl pp cp w o bl eF ab;have xF:=U dc;have wJ:=U hs;clear dc hs;obtain⟨_,Tv,Bc,Bd⟩:=AL bl.out;clear bl;obtain⟨di,⟨aA,aB⟩,⟨aU,aZ⟩,⟨cx,aP⟩,r,l⟩:=b;have aj:=ab.out;clear ab;simp only at Bc Bd;show Calls _ _ #[.agg #[I di,I aA,I aB,I aU,I aZ,I cx,I aP,I r,ad pl l.length cl,ad pp s.len cp]] w _;by_cases c0:di=6
 ·have bL:=U (Bd c0).2;have hle:l=[]:=aj7 Tv (by simp only;omega);subst hle c0;have cT:J (q' s none=o):=aj;clear Bc Bd aj Tv;obtain⟨fW,oa⟩:=az s.len;have lr:=U oa;rw[oa,th];clear oa;have mw:fW≤1000000000:=(by rw[←lr.out];exact eF.out.p.1);go_enter Hq,Hr;go_upto_region 13 with fail;obtain⟨W,a6⟩:=az ((((w.alloc (aD (#[I 6,I aA,I aB,I aU,I aZ,I cx,I aP,I r,ad pl 0 cl,ad pp fW cp]) dh)).alloc (cH ed)).alloc (cH ed)).alloc (CK false));have bB:J (xW w w.heap.size #[I 6,I aA,I aB,I aU,I aZ,I cx,I aP,I r,ad pl 0 cl,ad pp fW cp] none W):=(by obtain⟨aa,ah,ax,bg,af⟩:=zj a6;exact⟨aa,ah,⟨ax,bg⟩,af⟩);change Code.wp _ _ _ _ ((((w.alloc (aD (#[I 6,I aA,I aB,I aU,I aZ,I cx,I aP,I r,ad pl 0 cl,ad pp fW cp]) dh)).alloc (cH ed)).alloc (cH ed)).alloc (CK false));rw[a6];clear a6;obtain⟨g0,g1,g2,g3,g4,g5,g6,g7,g8,g9⟩:=en bB.out.dP;go_wp2_with fail
  go_loopw [74] (fun i wr=>i=I 0∧wr=W) (fun _ _=>0)
  case atStart=>exact⟨rfl,rfl⟩
  case round=>
  obtain⟨rfl,rfl⟩:=hrel;go_wp2_with fail
  go_loopw [94] (fun i wr=>∃(pre gl:bh) (u:Option bR) (j:Nat) (aG:bTo),aG=wr∧J (s=pre.append gl)∧J (pre.len=j)∧J (q' gl u=o)∧i=I j∧J (xW w w.heap.size #[I 6,I aA,I aB,I aU,I aZ,I cx,I aP,I r,ad pl 0 cl,ad pp fW cp] u aG)) (fun i _=>fW -(intOf i).toNat)
  case atStart=>exact⟨.nil,s,none,0,_,rfl,rfl,rfl,cT.out,rfl,bB.out⟩
  case round=>
  obtain⟨pre,gl,u,j,aG,rfl,jC,dA,cd,rfl,aH⟩:=hrel;clear g0 g1 g2 g3 g4 g5 g6 g7 g8 g9;cases gl with
  |nil=>
   have oF:j=fW:=(by rw[←lr.out,←dA.out,jC.out,bh.append_nil]);have dF:u=o:=cd.out;subst oF dF;obtain⟨a0,a',a2,a3⟩:=fD (show aG.heap[w.heap.size+1+1]?=some (cH ⟨(u.getD ed).ao,(u.getD ed).ak,(u.getD ed).ar,(u.getD ed).aq⟩) from aH.out.zr.a);obtain⟨f0,f1⟩:=Hu aH.out.zr.f;obtain⟨jD,ie,ly,qD⟩:=fD (show aG.heap[w.heap.size+1]?=some (cH ⟨0,0,0,0⟩) from aH.out.res);have fr:=cP aH.out.res;go_upto_region 30 with fail;go_region
   all_goals
    go_wp2_with fail;have hr:=me [I (u.getD ed).ao,I (u.getD ed).ak,I (u.getD ed).ar,I (u.getD ed).aq] (show aG.heap[w.heap.size+1]?=some (.cells #[I 0,I 0,I 0,I 0] 198) from aH.out.res) rfl;have af:=pt (m:=0) (b:=w.heap.size+1) (l4 _) [I (u.getD ed).ao,I (u.getD ed).ak,I (u.getD ed).ar,I (u.getD ed).aq] aH.out.aY;exact dH (nK rfl _ _ (w.heap.size+1) _ _ _ _ rfl hr zw rfl (by kernel_rfl)) rfl ⟨rfl,af.drew⟩
  |cons a bd sub gm=>
   have rh:j<fW:=(by rw[←lr.out,←dA.out,jC.out,bh.uu];simp only[bh.len];omega);have NZ:(j:Int)<(fW:Int):=(by omega);have kp:iG S aG pp (pre.append (.cons a bd sub gm)):=(by rw[←jC.out];exact eF.out.p.below aH.out.aY);obtain⟨hY,lK,ql,dl,qp,cL,rfl,ri,_,qC,aJ,aI,c2,c3,bF,c5,b1,b5,bS,bf,cy⟩:=kp.part dA.out;have wb:=U qC;obtain⟨dK,m1,iI⟩:=OI (show jm (pre.append (.cons a bd sub gm)) (f+1) (left-1)=some m by rw[←jC.out];exact bL.out);have hZ:sub.count<N:=(by have aa:=wJ.out;rw[jC.out,bh.count_append] at aa;simp only[bh.count] at aa;omega);obtain⟨dt,eA⟩:=az (G3 bd (q' sub));have jR:J (q' gm (Tu a dt u)=o):=(by show _=_;rw[←cd.out,ake,eA]);have xH:J (s=(pre.append (.cons a bd sub .nil)).append gm):=(by show _=_;rw[jC.out,bh.append_assoc];rfl);have jn:J ((pre.append (.cons a bd sub .nil)).len=j+1):=(by show _=_;rw[bh.uu,dA.out];rfl);obtain⟨dj,eY⟩:=az bd.l.length;obtain⟨hH,kP⟩:=az sub.len;have kQ:J (∀Z,av aG aG Z→Calls Tryz.prog 170 #[.agg #[I bd.k,I bd.a.1,I bd.a.2,I bd.b.1,I bd.b.2,I bd.c.1,I bd.c.2,I bd.r,ad ql dj dl,ad qp hH cL]] Z fun e w'=>e=bb (.tuple #[gJ (dt.getD ed),ai dt.isSome])∧av Z Z w'):=(by intro Z eU;rw[←eY,←kP];exact xF.out sub hZ bd (f+1) dK m1 S ql dl qp cL Z dt (U iI) (U (wb.out.below eU)) (U eA));rw[eY] at bf;rw[kP] at cy;clear kp qC iI eA eY kP;go_upto_region 25 with fail;have bZ:=cw aG (aD (#[ai a,I bd.k,I bd.a.1,I bd.a.2,I bd.b.1,I bd.b.2,I bd.c.1,I bd.c.2,I bd.r,ad ql dj dl,ad qp hH cL]) fb);have iC:J (av aG aG (aG.alloc (aD (#[ai a,I bd.k,I bd.a.1,I bd.a.2,I bd.b.1,I bd.b.2,I bd.c.1,I bd.c.2,I bd.r,ad ql dj dl,ad qp hH cL]) fb))):=ba _ _;have cI:=U bZ;clear bZ aJ aI c2 c3 bF c5 b1 b5 bS bf cy;generalize aG.alloc (.cells #[ai a,I bd.k,I bd.a.1,I bd.a.2,I bd.b.1,I bd.b.2,I bd.c.1,I bd.c.2,I bd.r,ad ql dj dl,ad qp hH cL] fb)=ct at iC cI⊢;obtain⟨cJ,aN,aR,cA,hN,mC,kR,uV,lD,j8,tG⟩:=ZA cI.out;have c1:=U (aH.out.below iC.out);cases a with
   |false=>
    have pf:J (q' gm u=o):=jR.out;go_wp2_with fail;go_round<;>first|exact⟨_,gm,u,j+1,_,rfl,xH.out,jn.out,pf.out,by go_num,c1.out⟩|(simp[intOf]<;>omega)
   |true=>
    go_wp2_with fail;go_fit (kQ.out _ iC.out);rintro e c6 ⟨rfl,af⟩;have dx:=U (c1.out.below af);clear af cJ aN aR cA hN mC kR uV lD j8 tG;cases dt with
    |none=>
     have pf:J (q' gm u=o):=jR.out;go_wp2_with fail;have fq:=U (dx.out.below (ba c6 (cH ed)));go_round<;>first|exact⟨_,gm,u,j+1,_,rfl,xH.out,jn.out,pf.out,by go_num,fq.out⟩|(simp[intOf]<;>omega)
    |some x=>
     have pf:J (q' gm (p3 u x)=o):=jR.out;obtain⟨ao,ak,ar,aq⟩:=x;go_upto_region 27 with fail;have fq:=U (dx.out.below (ba c6 (cH ⟨ao,ak,ar,aq⟩)));have Tw:J ((c6.alloc (cH ⟨ao,ak,ar,aq⟩)).heap[c6.heap.size]?=some (cH ⟨ao,ak,ar,aq⟩)):=cw _ _;generalize c6.alloc (cH ⟨ao,ak,ar,aq⟩)=ez at fq Tw⊢;generalize c6.heap.size=K at Tw⊢;obtain⟨a0,a',a2,a3⟩:=fD Tw.out;go_wp2_with fail;go_fit (Ok (w.heap.size+1+1) (w.heap.size+1+1+1) (by omega) u ⟨ao,ak,ar,aq⟩ _ (U fq.out.zr));rintro e gn ⟨rfl,Kt,so⟩;have zy:=U (fq.out.take rfl Kt so);clear Kt so a0 a' a2 a3;go_wp2_with fail;go_round<;>first|exact⟨_,gm,_,j+1,_,rfl,xH.out,jn.out,pf.out,by go_num,zy.out⟩|(simp[intOf]<;>omega)
 ·have hj:=(Bc c0).1;clear Bd Bc;have OE:s=.nil:=aj8 Tv (by simp only;omega);subst OE;rcases Tr hj with h|h|h|h|h<;>simp only at h<;>subst h
  ·obtain⟨ha,hr⟩:=ZB hj rfl;have e:some (kH (aA,aB) (aA,aB) r)=o:=aj;subst e;exact aj9 aA aB aU aZ r ha hr cx aP pl l.length cl pp 0 cp w _ (U rfl)
  ·exact ajb S aA aB aU aZ cx aP r l pl cl pp cp w (ZC hj rfl) (U eF.out.l) o (U aj)
  ·obtain⟨ha,jr,hr,_⟩:=OH hj (.inl rfl);have e:some (kH (aA,aB) (aU,aZ) r)=o:=aj;subst e;exact aka aA aB aU aZ r ha jr hr cx aP pl l.length cl pp 0 cp w _ (U rfl)
  ·obtain⟨ha,jr,hr,_⟩:=OH hj (.inr rfl);have e:some (kH (aA,aB) (aU,aZ) r)=o:=aj;subst e;exact akb aA aB aU aZ r ha jr hr cx aP pl l.length cl pp 0 cp w _ (U rfl)
  ·obtain⟨ha,jr,hc,hr,_⟩:=ZD hj rfl;have e:some (kH (cx,aP) (cx,aP) (r+JZ (kn (aA,aB) (cx,aP))))=o:=aj;subst e;exact akc aA aB aU aZ r ha cx aP hc hr pl l.length cl pp 0 cp w _ (U rfl)
theorem akg(S:Jp)(b:dL)(s:bh)(ff:okV ⟨b,s⟩=true)(pl:aya)(cl:Nat)(pp:aya)(cp:Nat)(w:bTo)(eF:J (dY S w pl cl pp cp ⟨b,s⟩))(o:Option bR)(bl:J (G3 b (q' s)=o)):
  Calls Tryz.prog 170 #[j0 b (ad pl b.l.length cl) (ad pp s.len cp)] w fun e w'=>e=bb (.tuple #[gJ (o.getD ed),ai o.isSome])∧av w w w':=by
 unfold okV at ff;rw[show bh.one true ⟨b,s⟩=.cons true b s .nil from rfl,G5] at ff;cases hm:kY b s 0 1000 with
 |none=>rw[hm] at ff;simp at ff
 |some m=>exact akf (s.count+1) s (Eo _) b 0 1000 m S pl cl pp cp w o (U hm) eF bl
theorem akh(N:Nat):∀(s:bh),s.count<N→∀(b:dL) (S:Jp) (pl:aya) (cl:Nat) (pp:aya) (cp:Nat) (w:bTo),
  J (dY S w pl cl pp cp ⟨b,s⟩)→
  Calls Tryz.prog 123 #[j0 b (ad pl b.l.length cl) (ad pp s.len cp)] w fun e w'=>e=bb (ai (AV ⟨b,s⟩))∧av w w w':=by
 induction N with
 |zero=>intro s hs;exact absurd hs (l7 _)
 |succ N dc=>
 intro s hs b S pl cl pp cp w eF;have xF:=U dc;have wJ:=U hs;clear dc hs;obtain⟨di,⟨aA,aB⟩,⟨aU,aZ⟩,⟨cx,aP⟩,r,l⟩:=b;obtain⟨v,aS⟩:=az (AV ⟨⟨di,(aA,aB),(aU,aZ),(cx,aP),r,l⟩,s⟩);have Tx:J ((decide (di=4)|| CB s)=v):=aS;rw[aS];clear aS;obtain⟨n,hn⟩:=az l.length;obtain⟨fW,oa⟩:=az s.len;have lr:=U oa;show Calls _ _ #[.agg #[I di,I aA,I aB,I aU,I aZ,I cx,I aP,I r,ad pl l.length cl,ad pp s.len cp]] w _;rw[hn,oa];clear hn oa;by_cases bg:di=4
 ·have aE:J (true=v):=(by show _=_;rw[←Tx.out,eH bg];rfl);subst bg;go_enter Tryz.func123,Tryz.ntmps123;go_wp2_with fail;go_ret;exact⟨ej aE.out,jq _ _⟩
 ·have cT:J (CB s=v):=(by show _=_;rw[←Tx.out,eD bg];rfl);clear Tx;have mw:fW≤1000000000:=(by rw[←lr.out];exact eF.out.p.1);have avR:(di==4)=false:=(by rw[kO];exact bg);go_enter Tryz.func123,Tryz.ntmps123;go_upto_region 3 with fail;have aH:J (av w w (w.alloc (aD (#[I di,I aA,I aB,I aU,I aZ,I cx,I aP,I r,ad pl n cl,ad pp fW cp]) dh))):=ba _ _;have b8:J ((w.alloc (aD (#[I di,I aA,I aB,I aU,I aZ,I cx,I aP,I r,ad pl n cl,ad pp fW cp]) dh)).heap[w.heap.size]?=some (.cells #[I di,I aA,I aB,I aU,I aZ,I cx,I aP,I r,ad pl n cl,ad pp fW cp] dh)):=cw _ _;generalize w.alloc (.cells #[I di,I aA,I aB,I aU,I aZ,I cx,I aP,I r,ad pl n cl,ad pp fW cp] dh)=W at aH b8⊢;obtain⟨g0,g1,g2,g3,g4,g5,g6,g7,g8,g9⟩:=en b8.out;go_wp2_with fail
  go_loopw [11] (fun i wr=>∃(pre gl:bh) (j:Nat) (aG:bTo),aG=wr∧J (s=pre.append gl)∧J (pre.len=j)∧J (CB gl=v)∧i=I j∧J (av w w aG)) (fun i _=>fW -(intOf i).toNat)
  case atStart=>exact⟨.nil,s,0,_,rfl,rfl,rfl,cT.out,rfl,aH.out⟩
  case round=>
  obtain⟨pre,gl,j,aG,rfl,jC,dA,cd,rfl,cq⟩:=hrel;clear g0 g1 g2 g3 g4 g5 g6 g7 g8 g9;cases gl with
  |nil=>
   have oF:j=fW:=(by rw[←lr.out,←dA.out,jC.out,bh.append_nil]);have aE:J (false=v):=cd.out;subst oF;go_wp2_with fail;go_ret;exact⟨ej aE.out,cq.out⟩
  |cons a bd sub gm=>
   have rh:j<fW:=(by rw[←lr.out,←dA.out,jC.out,bh.uu];simp only[bh.len];omega);have NZ:(j:Int)<(fW:Int):=(by omega);have kp:iG S aG pp (pre.append (.cons a bd sub gm)):=(by rw[←jC.out];exact eF.out.p.below cq.out);obtain⟨hY,lK,ql,dl,qp,cL,rfl,ri,_,qC,aJ,aI,c2,c3,bF,c5,b1,b5,bS,bf,cy⟩:=kp.part dA.out;have wb:=U qC;have hZ:sub.count<N:=(by have aa:=wJ.out;rw[jC.out,bh.count_append] at aa;simp only[bh.count] at aa;omega);obtain⟨bP,eA⟩:=az (AV ⟨bd,sub⟩);have jR:J ((bP || CB gm)=v):=(by show _=_;rw[←cd.out,←eA];rfl);have xH:J (s=(pre.append (.cons a bd sub .nil)).append gm):=(by show _=_;rw[jC.out,bh.append_assoc];rfl);have jn:J ((pre.append (.cons a bd sub .nil)).len=j+1):=(by show _=_;rw[bh.uu,dA.out];rfl);obtain⟨dj,eY⟩:=az bd.l.length;obtain⟨hH,kP⟩:=az sub.len;have kQ:J (∀Z,av aG aG Z→Calls Tryz.prog 123 #[.agg #[I bd.k,I bd.a.1,I bd.a.2,I bd.b.1,I bd.b.2,I bd.c.1,I bd.c.2,I bd.r,ad ql dj dl,ad qp hH cL]] Z fun e w'=>e=bb (ai bP)∧av Z Z w'):=(by intro Z eU;rw[←eY,←kP,←eA];exact xF.out sub hZ bd S ql dl qp cL Z (U (wb.out.below eU)));rw[eY] at bf;rw[kP] at cy;clear kp qC eA eY kP;go_wp2_with fail;have iC:=U (ba aG (aD (#[ai a,I bd.k,I bd.a.1,I bd.a.2,I bd.b.1,I bd.b.2,I bd.c.1,I bd.c.2,I bd.r,ad ql dj dl,ad qp hH cL]) fb));go_fit (kQ.out _ iC.out);rintro e c6 ⟨rfl,af⟩;have dx:J (av w w c6):=cq.out.trans ((iC.out.trans (af.mono iC.out.size)).mono cq.out.size);clear af aJ aI c2 c3 bF c5 b1 b5 bS bf cy;cases bP with
   |true=>
    have aE:J (true=v):=(by show _=_;rw[←jR.out];rfl);go_wp2_with fail;go_ret;exact⟨ej aE.out,dx.out⟩
   |false=>
    have pf:J (CB gm=v):=jR.out;go_wp2_with fail;go_round<;>first|exact⟨_,gm,j+1,_,rfl,xH.out,jn.out,pf.out,by go_num,dx.out⟩|(simp[intOf]<;>omega)
theorem aki(b:dL)(s:bh)(S:Jp)(pl:aya)(cl:Nat)(pp:aya)(cp:Nat)(w:bTo)(eF:J (dY S w pl cl pp cp ⟨b,s⟩)):
  Calls Tryz.prog 123 #[j0 b (ad pl b.l.length cl) (ad pp s.len cp)] w fun e w'=>e=bb (ai (AV ⟨b,s⟩))∧av w w w':=
 akh (s.count+1) s (Eo _) b S pl cl pp cp w eF
end dE
