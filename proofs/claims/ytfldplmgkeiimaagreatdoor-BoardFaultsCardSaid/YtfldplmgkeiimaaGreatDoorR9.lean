/- Lemmas. -/
import Derived.Test.YtfldplmgkeiimaaGreatDoorR8
import Derived.Deep.RegionLaw
import Derived.Laws.Cover1
set_option linter.all false
set_option maxRecDepth 100000
set_option maxHeartbeats 12800000
namespace Go.Proofs.YtfldplmgkeiimaaGreatDoor
abbrev Rw:=@List.getElem_append_right
abbrev By:=@Int.tmod_eq_emod_of_nonneg
abbrev Dj:=@Proofs.Tryz.underlying198
abbrev Nk:=@results_none
namespace dd
open Go.RowKit ef
theorem ahL(p a e:b3)(hp:hQ p)(ha:hQ a)(he:hQ e)(f:Bool)(hf:af (Iu p a e=f))(w:aeo):
  Calls Tryz.prog 308 #[lG p,lG a,lG e] w fun r w'=>r=ab (U f)∧ao w w w':=by
 have bT:=aq hp;have cy:=aq ha;have bl:=aq he;clear hp ha he;have h:=hf.out;clear hf;unfold Iu at h;obtain⟨de,cZ⟩:=p;obtain⟨a1,aZ⟩:=a;obtain⟨ex,bL⟩:=e;simp only at h;obtain⟨v,aY⟩:=ar (eR (a1,aZ) (ex,bL) (de,cZ));rw[aY] at h;have b0:=aq aY;have hz:=aq h;clear aY h;go_enter Tryz.func308,Tryz.ntmps308;go_upto_region 1 with fail;obtain⟨W,bo⟩:=ar (((w.alloc (eU (de,cZ))).alloc (eU (a1,aZ))).alloc (eU (ex,bL)));obtain⟨t1,t2,t3,t4,t5⟩:=zv bo;have cC:=aq t1;have c6:=aq t2;have dV:=aq t3;have ee:=aq t4;rw[bo];clear bo t1 t2 t3 t4 t5;obtain⟨fO,fh⟩:=kr cC.out;obtain⟨a0,bA⟩:=kr c6.out;obtain⟨ek,a7⟩:=kr dV.out;simp only at fO fh a0 bA ek a7;by_cases aN:cZ<aZ<;>by_cases aJ:cZ<bL
 ·have aO:af (false=f):=(by show _=_;rw[←hz.out];simp[aN,aJ]);go_wp2_with fail;go_ret;exact⟨dD aO.out,ee.out⟩
 ·have aO:af ((if aZ<bL then decide (0<v) else decide (v<0))=f):=(by show _=_;rw[←hz.out];simp[aN,aJ]);have c3:¬aZ<bL:=(by omega);go_wp2_with fail;with_reducible refine (FU (a1,aZ) (ex,bL) (de,cZ) cy.out bl.out bT.out v b0 _).mono ?_
  rintro r V ⟨rfl,aY⟩;have cR:af (ao w w V):=ee.out.trans (aY.mono ee.out.size);obtain⟨a0,bA⟩:=kr (aU c6.out aY);obtain⟨ek,a7⟩:=kr (aU dV.out aY);simp only at a0 bA ek a7;clear aY;go_wp2_with fail;go_ret;refine⟨dD ?_,cR.out⟩;rw[←aO.out,aW (by omega)]
 ·have aO:af ((if aZ<bL then decide (0<v) else decide (v<0))=f):=(by show _=_;rw[←hz.out];simp[aN,aJ]);have c3:aZ<bL:=(by omega);go_wp2_with fail;with_reducible refine (FU (a1,aZ) (ex,bL) (de,cZ) cy.out bl.out bT.out v b0 _).mono ?_
  rintro r V ⟨rfl,aY⟩;have cR:af (ao w w V):=ee.out.trans (aY.mono ee.out.size);obtain⟨a0,bA⟩:=kr (aU c6.out aY);obtain⟨ek,a7⟩:=kr (aU dV.out aY);simp only at a0 bA ek a7;clear aY;go_wp2_with fail;go_ret;refine⟨dD ?_,cR.out⟩;rw[←aO.out,bb c3]
 ·have aO:af (false=f):=(by show _=_;rw[←hz.out];simp[aN,aJ]);go_wp2_with fail;go_ret;exact⟨dD aO.out,ee.out⟩
theorem I0(c:List b3):(kb c).length=c.length:=by unfold kb;rw[List.length_zip,iv,fH,kU];omega
theorem XV(c:List b3)(i:Nat)(hi:i<c.length)(hm:(i+1)%c.length<c.length):(kb c)[i]'(by rw[I0];exact hi)=(c[i],c[(i+1)%c.length]):=by
 simp only[kb,List.getElem_zip]
 congr 1
 by_cases h:i+1<c.length
 ·rw[CW (by simp;omega),MD]
  congr 1
  rw[Nat.mod_eq_of_lt h,L9]
 ·have aA:i+1=c.length:=(by omega);rw[Rw (by simp;omega),Mk]
  congr 1
  simp only[fH];rw[aA,Nat.mod_self];omega
theorem XW{a b:Int}(aS:0≤a)(av:0<b):a.tmod b=a%b:=By aS
abbrev F5(w0:aeo)(bJ:Nat)(aD aE aL aH:Int)(D:Nat)(a1 aZ:Int)(gd fF:Nat)(ex bL:Int)(Z:aeo):Prop:=
 Z.cell? ⟨bJ,0,none⟩=some (I aD)∧ak Z bJ 1 (I aE)∧ak Z bJ 2 (I aL)∧ak Z bJ 3 (I aH)∧ak Z D 0 (I a1)∧ak Z D 1 (I aZ)∧ak Z gd fF (I ex)∧ak Z gd (fF+1) (I bL)∧ao w0 w0 Z
variable{w0 v Z w:aeo}{bJ D gd fF:Nat}{aD aE aL aH a1 aZ ex bL:Int}
theorem XX(ax:ao v v Z)(h:F5 w0 bJ aD aE aL aH D a1 aZ gd fF ex bL v):F5 w0 bJ aD aE aL aH D a1 aZ gd fF ex bL Z:=
 ⟨bV ax h.1,bV ax h.2.1,bV ax h.2.2.1,bV ax h.2.2.2.1,bV ax h.2.2.2.2.1,bV ax h.2.2.2.2.2.1,bV ax h.2.2.2.2.2.2.1,bV ax h.2.2.2.2.2.2.2.1,h.2.2.2.2.2.2.2.2.trans (ax.mono h.2.2.2.2.2.2.2.2.size)⟩
theorem XY(h:F5 w0 bJ aD aE aL aH D a1 aZ gd fF ex bL v):F5 w0 bJ aD aE aL aH D a1 aZ gd fF ex bL v.drew:=XX (Below.refl _ _).drew h
theorem ahM(S:afp)(b:ck)(aS:hQ (b.aD,b.aE))(av:hQ (b.aL,b.aH))(he:sj b=false)(p:Ja)(l:List (List b3))(n c:Nat)(hn:n=l.length)(aA:∀c∈l,∀q∈c,hQ q)(w:aeo)(H:af (iB S w p l))(f:Bool)(hf:af (QZ b l=f)):
  Calls Tryz.prog 272 #[h5 b,ad p n c] w fun e w'=>e=ab (U f)∧ao w w w':=by
 have oa:n≤1000000000:=by rw[hn];exact H.out.1
 have bd:=aq hn;have dn:=aq aA;have qw:=aq aS;have H1:=aq av;have bl:=aq he;obtain⟨g,aF⟩:∃g:b3×b3→Bool,(fun e=>zt b e.1 e.2)=g:=⟨_,rfl⟩;have e0:=aq aF;have l1:af ((l.drop 0).any (fun c=>(kb c).any g)=f):=by show _=_;rw[←aF];exact hf.out
 clear hf hn aA aS av he aF;obtain⟨aD,aE,aL,aH⟩:=b;go_enter Tryz.func272,Tryz.ntmps272;go_wp2_with fail;have ee:af (ao w w (w.alloc (cV ⟨aD,aE,aL,aH⟩))):=jz _ _;have cy:af ((w.alloc (cV ⟨aD,aE,aL,aH⟩)).heap[w.heap.size]?=some (cV ⟨aD,aE,aL,aH⟩)):=bY _ _;generalize w.alloc (cV ⟨aD,aE,aL,aH⟩)=W at ee cy⊢
 go_loopw [11] (fun i wr=>∃(j:Nat) (aM:aeo),aM=wr∧j≤n∧af ((l.drop j).any (fun c=>(kb c).any g)=f)∧i=I j∧af (ao W W aM)) (fun i _=>n -(intOf i).toNat)
 case atStart=>exact⟨0,_,rfl,dO _,l1.out,rfl,Below.refl _ _⟩
 case round=>
 obtain⟨j,aM,rfl,cd,cG,rfl,aI⟩:=hrel;by_cases bR:j<n
 ·have fE:j<l.length:=(by rw[←bd.out];exact bR);have gU:(j:Int)<(n:Int):=(by omega);obtain⟨r,hr⟩:=ar (l[j]);obtain⟨fz,o,q,na,rfl,qm,_,l2⟩:=(H.out.below (ee.out.trans (aI.out.mono ee.out.size))).at fE hr;have bT:=aq l2;have oR:r.length≤1000000000:=l2.1;have bw:af (∀q∈r,hQ q):=(by intro q aR;exact dn.out r (by rw[←hr];exact kT _) q aR);have hM:af (((kb r).any g ||(l.drop (j+1)).any (fun c=>(kb c).any g))=f):=(by show _=_;rw[←cG.out,lD fE,hr];rfl);obtain⟨m,hm⟩:=ar r.length;have bH:=aq hm;rw[hm] at qm oR;clear l2 hr cG hm;go_wp2_with fail
  go_loopw [17] (fun i dw=>∃(k:Nat) (cE:aeo),cE=dw∧k≤m∧af (((kb r).drop k).any g=(kb r).any g)∧i=I k∧af (ao aM aM cE)) (fun i _=>m -(intOf i).toNat)
  case atStart=>exact⟨0,_,rfl,dO _,rfl,rfl,Below.refl _ _⟩
  case round=>
  obtain⟨k,cE,rfl,ay,cQ,rfl,aV⟩:=hrel;by_cases j':k<m
  ·have pS:k<r.length:=(by rw[bH.out];exact j');have ML:(k:Int)<(m:Int):=(by omega);obtain⟨ba,fs⟩:=ar ((k+1)%m);have Rx:ba<m:=(by rw[←fs];exact Nat.mod_lt _ (by omega));have Dk:ba<r.length:=(by rw[bH.out];exact Rx);obtain⟨z,cz⟩:=ar (r[k]);obtain⟨z2,dv⟩:=ar (r[ba]);have rA:=aq (bw.out z (by rw[←cz];exact kT _));have Ry:=aq (bw.out z2 (by rw[←dv];exact kT _));obtain⟨nb,lH,rfl,s0,s1⟩:=(bT.out.below aV.out).at pS cz;obtain⟨Dl,Dm,zM,u0,u1⟩:=(bT.out.below aV.out).at Dk dv;obtain⟨rfl,rfl⟩:Dl=nb∧Dm=lH:=(by injection zM with av;injection av with av az;exact⟨av.symm,az.symm⟩);have kC:af (((kb r).drop k).any g=(g (z,z2)||((kb r).drop (k+1)).any g)):=(by show _=_;rw[lD (by rw[I0];exact pS),XV r k pS (by rw[bH.out,fs,←bH.out];exact Dk)];have:r[(k+1)%r.length]'(by rw[bH.out,fs,←bH.out];exact Dk)=z2:=(by rw[←dv];congr 1;rw[bH.out,fs]);rw[this,cz];rfl);clear cz dv zM;obtain⟨gv,gw⟩:=z;obtain⟨ex,bL⟩:=z2;obtain⟨mH,tS⟩:=ar (g ((gv,gw),(ex,bL)));have I1:=aq tS;have C3:af (zt ⟨aD,aE,aL,aH⟩ (gv,gw) (ex,bL)=mH):=(by show _=_;rw[←tS,←e0.out]);have oo:ae ((k:Int)+1)=(k:Int)+1:=cY _ (by omega);have sk:¬((m:Int)=0):=(by omega);have Nl:((k:Int)+1).tmod (m:Int)=(ba:Int):=(by rw[XW (by omega) (by omega),←fs];exact (Int.natCast_emod (k+1) m).symm);have ahN:¬m=0:=(by omega);have ahO:(0:Int)≤(ba:Int):=(by omega);have ahP:(ba:Int)<(m:Int):=(by omega);clear tS fs;obtain⟨a0,bA,a2,a3⟩:=gW (aU (aU cy.out aI.out) aV.out);have en:=lt_of_heap (aU (aU cy.out aI.out) aV.out);go_upto_region 7 with fail;have fl:af (F5 cE w.heap.size aD aE aL aH cE.heap.size gv gw Dl (Dm+ba *2) ex bL (cE.alloc (eU (gv,gw)))):=(by obtain⟨cu,cS⟩:=kr (bY cE (eU (gv,gw)));have ax:=a6 cE (eU (gv,gw));exact⟨bV ax a0,bV ax bA,bV ax a2,bV ax a3,cu,cS,bV ax u0,bV ax u1,ax⟩);generalize cE.alloc (eU (gv,gw))=b4 at fl⊢;clear a0 bA a2 a3 s0 s1 u0 u1
   go_region_held3 (fun Z=>F5 cE w.heap.size aD aE aL aH cE.heap.size gv gw Dl (Dm+ba *2) ex bL Z) (first|with_reducible exact fl.out|with_reducible exact XY fl.out|with_reducible exact XX (by assumption) (by assumption)|with_reducible exact XY (by assumption)|fail) (first|(go_at_call 277;with_reducible refine (ahJ ⟨aD,aE,aL,aH⟩ (gv,gw) (ex,bL) qw.out H1.out rA.out Ry.out bl.out mH C3 _).mono ?_;rintro e bI ⟨rfl,dY⟩)|fail)
   rename_i hHeld;have eQ:af (ao aM aM bI):=aV.out.trans (hHeld.2.2.2.2.2.2.2.2.mono aV.out.size);clear hHeld dY fl;cases mH with
   |true=>
    have aO:af (true=f):=(by show _=_;rw[←hM.out,←cQ.out,kC.out,I1.out];rfl);go_wp2_with fail;go_ret;exact⟨dD aO.out,ee.out.trans ((aI.out.trans (eQ.out.mono aI.out.size)).mono ee.out.size)⟩
   |false=>
    have kq:af (((kb r).drop (k+1)).any g=(kb r).any g):=(by show _=_;rw[←cQ.out,kC.out,I1.out];rfl);go_wp2_with fail;go_round<;>first|exact⟨k+1,_,rfl,by omega,kq.out,by go_num,eQ.out⟩|(simp[intOf]<;>omega)
  ·have wF:k=m:=(by omega);have a':af ((l.drop (j+1)).any (fun c=>(kb c).any g)=f):=(by show _=_;have av:=cQ.out;rw[mU (by rw[I0];have:=bH.out;omega)] at av;rw[←hM.out,←av];rfl);subst wF;go_wp2_with fail;go_round<;>first|exact⟨j+1,_,rfl,by omega,a'.out,by go_num,aI.out.trans (aV.out.mono aI.out.size)⟩|(simp[intOf]<;>omega)
 ·have iH:j=n:=(by omega);have dr:af (false=f):=(by show _=_;rw[←cG.out,mU (by rw[←bd.out];omega)];rfl);subst iH;go_wp2_with fail;go_ret;exact⟨dD dr.out,ee.out.trans (aI.out.mono ee.out.size)⟩
abbrev F6(w0:aeo)(bJ:Nat)(aD aE:Int)(D:Nat)(a1 aZ:Int)(gd fF:Nat)(ex bL:Int)(Z:aeo):Prop:=
 Z.cell? ⟨bJ,0,none⟩=some (I aD)∧ak Z bJ 1 (I aE)∧ak Z D 0 (I a1)∧ak Z D 1 (I aZ)∧ak Z gd fF (I ex)∧ak Z gd (fF+1) (I bL)∧ao w0 w0 Z
theorem XZ(ax:ao v v Z)(h:F6 w0 bJ aD aE D a1 aZ gd fF ex bL v):F6 w0 bJ aD aE D a1 aZ gd fF ex bL Z:=
 ⟨bV ax h.1,bV ax h.2.1,bV ax h.2.2.1,bV ax h.2.2.2.1,bV ax h.2.2.2.2.1,bV ax h.2.2.2.2.2.1,h.2.2.2.2.2.2.trans (ax.mono h.2.2.2.2.2.2.size)⟩
theorem X0(h:F6 w0 bJ aD aE D a1 aZ gd fF ex bL v):F6 w0 bJ aD aE D a1 aZ gd fF ex bL v.drew:=XZ (Below.refl _ _).drew h
theorem ahQ(S:afp)(b:b3)(aS:hQ b)(p:Ja)(l:List (List b3))(n c:Nat)(hn:n=l.length)(aA:∀c∈l,∀q∈c,hQ q)(w:aeo)(H:af (iB S w p l))(f:Bool)(hf:af (Q0 b l=f)):
  Calls Tryz.prog 273 #[lG b,ad p n c] w fun e w'=>e=ab (U f)∧ao w w w':=by
 have oa:n≤1000000000:=by rw[hn];exact H.out.1
 have bd:=aq hn;have dn:=aq aA;have qw:=aq aS;obtain⟨g,aF⟩:∃g:b3×b3→Bool,(fun e=>Iu b e.1 e.2)=g:=⟨_,rfl⟩;have e0:=aq aF;have l1:af ((l.drop 0).foldl (fun i c=>(kb c).foldl (fun i e=>if g e=true then !i else i) i) false=f):=by show _=_;rw[←aF];exact hf.out
 clear hf hn aA aS aF;obtain⟨aD,aE⟩:=b;go_enter Tryz.func273,Tryz.ntmps273;go_wp2_with fail;have ee:af (ao w w (w.alloc (eU (aD,aE)))):=jz _ _;have cy:af ((w.alloc (eU (aD,aE))).heap[w.heap.size]?=some (eU (aD,aE))):=bY _ _;generalize w.alloc (eU (aD,aE))=W at ee cy⊢
 go_loopw [5,12] (fun tQ i wr=>∃(j:Nat) (vp:Bool) (aM:aeo),aM=wr∧j≤n∧af ((l.drop j).foldl (fun i c=>(kb c).foldl (fun i e=>if g e=true then !i else i) i) vp=f)∧tQ=U vp∧i=I j∧af (ao W W aM)) (fun _ i _=>n -(intOf i).toNat)
 case atStart=>exact⟨0,false,_,rfl,dO _,l1.out,rfl,rfl,Below.refl _ _⟩
 case round=>
 obtain⟨j,vp,aM,rfl,cd,cG,rfl,rfl,aI⟩:=hrel;by_cases bR:j<n
 ·have fE:j<l.length:=(by rw[←bd.out];exact bR);have gU:(j:Int)<(n:Int):=(by omega);obtain⟨r,hr⟩:=ar (l[j]);obtain⟨fz,o,q,na,rfl,qm,_,l2⟩:=(H.out.below (ee.out.trans (aI.out.mono ee.out.size))).at fE hr;have bT:=aq l2;have oR:r.length≤1000000000:=l2.1;have bw:af (∀q∈r,hQ q):=(by intro q aR;exact dn.out r (by rw[←hr];exact kT _) q aR);have hM:af ((l.drop (j+1)).foldl (fun i c=>(kb c).foldl (fun i e=>if g e=true then !i else i) i) ((kb r).foldl (fun i e=>if g e=true then !i else i) vp)=f):=(by show _=_;rw[←cG.out,lD fE,hr];rfl);obtain⟨m,hm⟩:=ar r.length;have bH:=aq hm;rw[hm] at qm oR;clear l2 hr cG hm;go_wp2_with fail
  go_loopw [5,18] (fun tQ i dw=>∃(k:Nat) (gG:Bool) (cE:aeo),cE=dw∧k≤m∧af (((kb r).drop k).foldl (fun i e=>if g e=true then !i else i) gG=(kb r).foldl (fun i e=>if g e=true then !i else i) vp)∧tQ=U gG∧i=I k∧af (ao aM aM cE)) (fun _ i _=>m -(intOf i).toNat)
  case atStart=>exact⟨0,vp,_,rfl,dO _,rfl,rfl,rfl,Below.refl _ _⟩
  case round=>
  obtain⟨k,gG,cE,rfl,ay,cQ,rfl,rfl,aV⟩:=hrel;by_cases j':k<m
  ·have pS:k<r.length:=(by rw[bH.out];exact j');have ML:(k:Int)<(m:Int):=(by omega);obtain⟨ba,fs⟩:=ar ((k+1)%m);have Rx:ba<m:=(by rw[←fs];exact Nat.mod_lt _ (by omega));have Dk:ba<r.length:=(by rw[bH.out];exact Rx);obtain⟨z,cz⟩:=ar (r[k]);obtain⟨z2,dv⟩:=ar (r[ba]);have rA:=aq (bw.out z (by rw[←cz];exact kT _));have Ry:=aq (bw.out z2 (by rw[←dv];exact kT _));obtain⟨nb,lH,rfl,s0,s1⟩:=(bT.out.below aV.out).at pS cz;obtain⟨Dl,Dm,zM,u0,u1⟩:=(bT.out.below aV.out).at Dk dv;obtain⟨rfl,rfl⟩:Dl=nb∧Dm=lH:=(by injection zM with av;injection av with av az;exact⟨av.symm,az.symm⟩);have kC:af (((kb r).drop k).foldl (fun i e=>if g e=true then !i else i) gG=((kb r).drop (k+1)).foldl (fun i e=>if g e=true then !i else i) (if g (z,z2)=true then !gG else gG)):=(by show _=_;rw[lD (by rw[I0];exact pS),XV r k pS (by rw[bH.out,fs,←bH.out];exact Dk)];have:r[(k+1)%r.length]'(by rw[bH.out,fs,←bH.out];exact Dk)=z2:=(by rw[←dv];congr 1;rw[bH.out,fs]);rw[this,cz];rfl);clear cz dv zM;obtain⟨gv,gw⟩:=z;obtain⟨ex,bL⟩:=z2;obtain⟨mH,tS⟩:=ar (g ((gv,gw),(ex,bL)));have I1:=aq tS;have C3:af (Iu (aD,aE) (gv,gw) (ex,bL)=mH):=(by show _=_;rw[←tS,←e0.out]);have oo:ae ((k:Int)+1)=(k:Int)+1:=cY _ (by omega);have sk:¬((m:Int)=0):=(by omega);have Nl:((k:Int)+1).tmod (m:Int)=(ba:Int):=(by rw[XW (by omega) (by omega),←fs];exact (Int.natCast_emod (k+1) m).symm);have ahN:¬m=0:=(by omega);have ahO:(0:Int)≤(ba:Int):=(by omega);have ahP:(ba:Int)<(m:Int):=(by omega);clear tS fs;obtain⟨a0,bA⟩:=kr (aU (aU cy.out aI.out) aV.out);have en:=lt_of_heap (aU (aU cy.out aI.out) aV.out);go_upto_region 8 with fail;have fl:af (F6 cE w.heap.size aD aE cE.heap.size gv gw Dl (Dm+ba *2) ex bL (cE.alloc (eU (gv,gw)))):=(by obtain⟨cu,cS⟩:=kr (bY cE (eU (gv,gw)));have ax:=a6 cE (eU (gv,gw));exact⟨bV ax a0,bV ax bA,cu,cS,bV ax u0,bV ax u1,ax⟩);generalize cE.alloc (eU (gv,gw))=b4 at fl⊢;clear a0 bA s0 s1 u0 u1
   go_region_held3 (fun Z=>F6 cE w.heap.size aD aE cE.heap.size gv gw Dl (Dm+ba *2) ex bL Z) (first|with_reducible exact fl.out|with_reducible exact X0 fl.out|with_reducible exact XZ (by assumption) (by assumption)|with_reducible exact X0 (by assumption)|fail) (first|(go_at_call 308;with_reducible refine (ahL (aD,aE) (gv,gw) (ex,bL) qw.out rA.out Ry.out mH C3 _).mono ?_;rintro e bI ⟨rfl,dY⟩)|fail)
   rename_i hHeld;have eQ:af (ao aM aM bI):=aV.out.trans (hHeld.2.2.2.2.2.2.mono aV.out.size);clear hHeld dY fl;cases mH with
   |true=>
    have kq:af (((kb r).drop (k+1)).foldl (fun i e=>if g e=true then !i else i) (!gG)=(kb r).foldl (fun i e=>if g e=true then !i else i) vp):=(by show _=_;rw[←cQ.out,kC.out,I1.out];rfl);go_wp2_with fail;go_round<;>first|exact⟨k+1,!gG,_,rfl,by omega,kq.out,rfl,by go_num,eQ.out⟩|(simp[intOf]<;>omega)
   |false=>
    have kq:af (((kb r).drop (k+1)).foldl (fun i e=>if g e=true then !i else i) gG=(kb r).foldl (fun i e=>if g e=true then !i else i) vp):=(by show _=_;rw[←cQ.out,kC.out,I1.out];rfl);go_wp2_with fail;go_round<;>first|exact⟨k+1,gG,_,rfl,by omega,kq.out,rfl,by go_num,eQ.out⟩|(simp[intOf]<;>omega)
  ·have wF:k=m:=(by omega);have a':af ((l.drop (j+1)).foldl (fun i c=>(kb c).foldl (fun i e=>if g e=true then !i else i) i) gG=f):=(by show _=_;have av:=cQ.out;rw[mU (by rw[I0];have:=bH.out;omega)] at av;rw[←hM.out,←av];rfl);subst wF;go_wp2_with fail;go_round<;>first|exact⟨j+1,gG,_,rfl,by omega,a'.out,rfl,by go_num,aI.out.trans (aV.out.mono aI.out.size)⟩|(simp[intOf]<;>omega)
 ·have iH:j=n:=(by omega);have dr:af (vp=f):=(by show _=_;rw[←cG.out,mU (by rw[←bd.out];omega)];rfl);subst iH;go_wp2_with fail;go_ret;exact⟨dD dr.out,ee.out.trans (aI.out.mono ee.out.size)⟩
theorem X1(aD aE aL aH:Int)(he:sj ⟨aD,aE,aL,aH⟩=false):(decide (aD≤aD)&&(decide (aD≤aL)&&(decide (aE≤aE)&&decide (aE≤aH))))=true:=by simp only[sj,Bool.or_eq_false_iff,Rt] at he;simp;omega
theorem ahR(S:afp)(b:ck)(aS:hQ (b.aD,b.aE))(av:hQ (b.aL,b.aH))(he:sj b=false)(p:Ja)(l:List (List b3))(n c:Nat)(hn:n=l.length)(aA:∀c∈l,∀q∈c,hQ q)(w:aeo)(H:af (iB S w p l))(k:Int)(ay:af (Q1 b l=k)):
  Calls Tryz.prog 249 #[h5 b,ad p n c] w fun e w'=>e=ab (I k)∧ao w w w':=by
 have qw:=aq aS;have H1:=aq av;have bl:=aq he;have dn:=aq aA;have bd:=aq hn;obtain⟨eJ,Bz⟩:=ar (QZ b l);obtain⟨Rz,RA⟩:=ar (Q0 (b.aD,b.aE) l);have ahS:=aq Bz;have X2:=aq RA;have cQ:af ((if eJ=true then (1:Int) else if Rz=true then 2 else 0)=k):=by show _=_;rw[←ay.out,←Bz,←RA];rfl
 clear Bz RA ay aS av he aA hn;obtain⟨aD,aE,aL,aH⟩:=b;simp only at X2;go_enter Tryz.func249,Tryz.ntmps249;go_wp2_with fail;have ee:af (ao w w (w.alloc (cV ⟨aD,aE,aL,aH⟩))):=jz _ _;have cy:af ((w.alloc (cV ⟨aD,aE,aL,aH⟩)).heap[w.heap.size]?=some (cV ⟨aD,aE,aL,aH⟩)):=bY _ _;generalize w.alloc (cV ⟨aD,aE,aL,aH⟩)=W at ee cy⊢;with_reducible refine (ahM S ⟨aD,aE,aL,aH⟩ qw.out H1.out bl.out p l n c bd.out dn.out _ (aq (H.out.below ee.out)) eJ ahS).mono ?_
 rintro e V ⟨rfl,ax⟩;have b0:af (ao w w V):=ee.out.trans (ax.mono ee.out.size);have qx:=aq (aU cy.out ax);clear ax;obtain⟨a0,bA,a2,a3⟩:=gW qx.out;cases eJ with
 |true=>
  go_wp2_with fail;go_ret;exact⟨pt cQ.out,b0.out⟩
 |false=>
  go_upto_region 4 with fail;have c6:af (ao V V (V.alloc (eU (aD,aE)))):=a6 _ _;have bT:af ((V.alloc (eU (aD,aE))).heap[V.heap.size]?=some (eU (aD,aE))):=bY _ _;generalize V.alloc (eU (aD,aE))=mc at c6 bT⊢;clear a0 bA a2 a3;obtain⟨a0,bA,a2,a3⟩:=gW (aU qx.out c6.out);obtain⟨fO,fh⟩:=kr bT.out;simp only at fO fh;have lh:af (ao w w mc):=b0.out.trans (c6.out.mono b0.out.size);go_wp2_with fail;with_reducible refine (XB ⟨aD,aE,aL,aH⟩ (aD,aE) true (aq (X1 aD aE aL aH bl.out)) _).mono ?_
  rintro e sC ⟨rfl,ax⟩;have oW:af (ao w w sC):=lh.out.trans (ax.mono lh.out.size);have qj:=aq (aU bT.out ax);clear a0 bA a2 a3 fO fh ax;obtain⟨fO,fh⟩:=kr qj.out;simp only at fO fh;go_wp2_with fail;with_reducible refine (ahQ S (aD,aE) qw.out p l n c bd.out dn.out _ (aq (H.out.below oW.out)) Rz X2).mono ?_
  rintro e Nn ⟨rfl,ax⟩;have X3:af (ao w w Nn):=oW.out.trans (ax.mono oW.out.size);clear fO fh ax;cases Rz with
  |true=>
   go_wp2_with fail;go_ret;exact⟨pt cQ.out,X3.out⟩
  |false=>
   go_wp2_with fail;go_ret;exact⟨pt cQ.out,X3.out⟩
theorem X4(was cls:Int)(add:Bool)(k:Int)(ay:af (uV was cls add=k))(w:aeo):Calls Tryz.prog 173 #[I was,I cls,U add] w fun e w'=>e=ab (I k)∧w'=w:=by
 cases add<;>go_enter Tryz.func173,Tryz.ntmps173<;>go_wp2_with fail
 all_goals
  go_ret;refine⟨pt ?_,rfl⟩;have h:=ay.out;unfold uV at h
  grind
theorem ahU(w:aeo)(o p q:Obj):(((w.alloc o).alloc p).alloc q).heap[w.heap.size+1+1]?=some q:=by rw[←wP w o,←wP (w.alloc o) p];exact bY _ _
theorem X5(p q:b3)(r:Int)(hp:hQ p)(aR:hQ q)(hr:0≤r∧r≤4611686018427387904)(b:ck)(ax:af (qn p q r=b))(w:aeo):Calls Tryz.prog 213 #[lG p,lG q,I r] w fun e w'=>e=ab (h5 b)∧ao w w w':=by obtain⟨de,cZ⟩:=p;obtain⟨eV,eW⟩:=q;unfold hQ at hp aR;simp only at hp aR;have cc:ae (min de eV-r)=min de eV-r:=cY _ (by omega);have b9:ae (min cZ eW-r)=min cZ eW-r:=cY _ (by omega);have dP:ae (max de eV+r)=max de eV+r:=cY _ (by omega);have cW:ae (max cZ eW+r)=max cZ eW+r:=cY _ (by omega);clear hp aR hr;go_enter Tryz.func213,Tryz.ntmps213;go_wp2_with fail;rw[←ax.out];have key:=ahU w (eU (de,cZ)) (eU (eV,eW)) (cV (qn (de,cZ) (eV,eW) r));exact dU (tK rfl _ _ (w.heap.size+1+1) _ _ _ _ rfl key Dj rfl (by kernel_rfl)) rfl ⟨rfl,Xz _ _ _ _⟩
abbrev BA(b:Bool):Obj:=.cells #[U b] 4
theorem F7{k:Nat}{b:Bool}(h:w.heap[k]?=some (BA b)):ak w k 0 (U b)∧∀i,w.frozen? ⟨k,i,none⟩=false:=by refine⟨?_,fun i=>?_⟩<;>simp[World.cell?,World.frozen?,h]
structure yD(w:aeo)(nh mI:Nat)(o:Option ck):Prop where
 a:w.heap[nh]?=some (cV (o.getD eh))
 f:w.heap[mI]?=some (BA o.isSome)
theorem yD.below{w':aeo}{nh mI:Nat}{o:Option ck}(h:yD w nh mI o)(ax:ao w w w'):yD w' nh mI o:=⟨aU h.a ax,aU h.f ax⟩
theorem X6{W:aeo}{nh mI:Nat}{f:Bool}{a:ck}{aD aE aL aH:Int}(ha:W.heap[nh]?=some (cV a))(hf:W.heap[mI]?=some (BA f))(hne:nh≠mI)(ax:ao w w W):
  Ending.returned (.tuple #[])=ab (.tuple #[])∧yD ((iL W nh 0 [I aD,I aE,I aL,I aH]).setCell (aj mI 0) (U true)) nh mI (some ⟨aD,aE,aL,aH⟩)∧aP (fun k=>k≠nh∧k≠mI) w ((iL W nh 0 [I aD,I aE,I aL,I aH]).setCell (aj mI 0) (U true)):=by
 refine⟨rfl,⟨(iK hne).trans (oh _ ha rfl),dt _ ((wX (gu hne) _).trans hf)⟩,?_⟩;exact ((aP.dW ax).trans (wY (fun h=>h.1 rfl) _)).trans (aP.set (fun h=>h.2 rfl) _)
theorem No(nh mI:Nat)(hne:nh≠mI)(o:Option ck)(b:ck)(w:aeo)(H:af (yD w nh mI o)):Calls Tryz.prog 215 #[h5 b,ah mI 0,ah nh 0] w fun e w'=>e=ab (.tuple #[])∧yD w' nh mI (uW o b)∧aP (fun k=>k≠nh∧k≠mI) w w':=by
 obtain⟨aD,aE,aL,aH⟩:=b;cases o with
 |none=>
  go_enter Tryz.func215,Tryz.ntmps215;go_upto_region 1 with fail;have cy:af ((w.alloc (cV ⟨aD,aE,aL,aH⟩)).heap[w.heap.size]?=some (cV ⟨aD,aE,aL,aH⟩)):=bY _ _;have dr:af (yD (w.alloc (cV ⟨aD,aE,aL,aH⟩)) nh mI none):=H.out.below (a6 _ _);have aI:af (ao w w (w.alloc (cV ⟨aD,aE,aL,aH⟩))):=a6 _ _;generalize w.alloc (cV ⟨aD,aE,aL,aH⟩)=W at cy dr aI⊢;have aO:af (∀i,W.frozen? ⟨mI,i,none⟩=false):=(F7 dr.out.f).2;obtain⟨f0,f1⟩:=F7 dr.out.f;obtain⟨a0,bA,a2,a3⟩:=gW cy.out;have g:=cJ dr.out.a;obtain⟨ek,a7,bf,cM⟩:=gW (show W.heap[nh]?=some (cV ⟨0,0,0,0⟩) from dr.out.a);have ej:=lt_of_heap dr.out.a;have fs:=lt_of_heap dr.out.f;go_wp2_with fail;refine bodyPost_end (Nk rfl _ _ _) rfl ?_;exact X6 dr.out.a dr.out.f hne aI.out
 |some a=>
  obtain⟨u0,v0,u1,v1⟩:=a;go_enter Tryz.func215,Tryz.ntmps215;go_upto_region 1 with fail;have cy:af ((w.alloc (cV ⟨aD,aE,aL,aH⟩)).heap[w.heap.size]?=some (cV ⟨aD,aE,aL,aH⟩)):=bY _ _;have dr:af (yD (w.alloc (cV ⟨aD,aE,aL,aH⟩)) nh mI (some ⟨u0,v0,u1,v1⟩)):=H.out.below (a6 _ _);have aI:af (ao w w (w.alloc (cV ⟨aD,aE,aL,aH⟩))):=a6 _ _;generalize w.alloc (cV ⟨aD,aE,aL,aH⟩)=W at cy dr aI⊢;obtain⟨f0,f1⟩:=F7 dr.out.f;obtain⟨a0,bA,a2,a3⟩:=gW cy.out;obtain⟨ek,a7,bf,cM⟩:=gW (show W.heap[nh]?=some (cV ⟨u0,v0,u1,v1⟩) from dr.out.a);have ahV:=cJ cy.out;go_upto_region 3 with fail;have avR:=lt_of_heap H.out.a;have RB:=lt_of_heap H.out.f;obtain⟨b4,gy⟩:=ar (iL W w.heap.size 0 [I (min u0 aD),I (min v0 aE),I (max u1 aL),I (max v1 aH)]);have qx:af (b4.heap[w.heap.size]?=some (cV ⟨min u0 aD,min v0 aE,max u1 aL,max v1 aH⟩)):=(by show _=_;rw[←gy];exact oh _ cy.out rfl);have c6:af (ao w w b4):=(by show Below _ _ _;rw[←gy];exact ss (bx _) _ aI.out);have Np:af (b4.heap[nh]?=some (cV ⟨u0,v0,u1,v1⟩)):=(by show _=_;rw[←gy,wX (by omega)];exact dr.out.a);have RC:af (b4.heap[mI]?=some (BA true)):=(by show _=_;rw[←gy,wX (by omega)];exact dr.out.f);change Code.wp _ _ _ _ (iL W w.heap.size 0 [I (min u0 aD),I (min v0 aE),I (max u1 aL),I (max v1 aH)]);rw[gy];clear gy f0 f1 a0 bA a2 a3 ek a7 bf cM ahV;obtain⟨f0,f1⟩:=F7 RC.out;obtain⟨a0,bA,a2,a3⟩:=gW qx.out;have g:=cJ Np.out;obtain⟨ek,a7,bf,cM⟩:=gW Np.out;have ej:=lt_of_heap Np.out;have fs:=lt_of_heap RC.out;go_wp2_with fail;refine bodyPost_end (Nk rfl _ _ _) rfl ?_;exact X6 Np.out RC.out hne c6.out
structure w7(w0:aeo)(g:Nat)(dC:ajv)(o:Option ck)(x:aeo):Prop where
 dC:an x g dC dB
 res:x.heap[g+1]?=some (cV eh)
 yo:yD x (g+1+1) (g+1+1+1) o
 aX:ao w0 w0 x
theorem w7.below{w0:aeo}{g:Nat}{dC:ajv}{o:Option ck}{x y:aeo}(h:w7 w0 g dC o x)(ax:ao x x y):w7 w0 g dC o y:=
 ⟨aU h.dC ax,aU h.res ax,h.yo.below ax,h.aX.trans (ax.mono h.aX.size)⟩
theorem w7.take{g:Nat}{dC:ajv}{o nD:Option ck}{x y:aeo}(h:w7 w0 g dC o x)(aF:g=w0.heap.size)(bE:yD y (g+1+1) (g+1+1+1) nD)(ay:aP (fun k=>k≠g+1+1∧k≠g+1+1+1) x y):w7 w0 g dC nD y:=
 ⟨ay.get ⟨by omega,by omega⟩ h.dC,ay.get ⟨by omega,by omega⟩ h.res,bE,h.aX.trans (ay.below w0.heap.size h.aX.size (fun k ay=>⟨by omega,by omega⟩))⟩
abbrev I2(o:Option ck)(c:List b3):Option ck:=c.foldl (fun o p=>uW o (qn p p 0)) o
theorem ahW(S:afp)(a1 aZ a8 bh cx bu r:Int)(l:List (List b3))(pl:Ja)(cl:Nat)(pp:Ja)(cp:Nat)(w:aeo)(aA:∀c∈l,∀q∈c,hQ q)(H:af (iB S w pl l))(o:Option ck)(bm:af (l.foldl I2 none=o)):
  Calls Tryz.prog 170 #[.agg #[I 2,I a1,I aZ,I a8,I bh,I cx,I bu,I r,ad pl l.length cl,ad pp 0 cp]] w fun e w'=>e=ab (.tuple #[h5 (o.getD eh),U o.isSome])∧ao w w w':=by
 have dn:=aq aA;obtain⟨n,hn⟩:=ar l.length;have oa:n≤1000000000:=by rw[←hn];exact H.out.1
 have bd:=aq hn;rw[hn];have l1:af ((l.drop 0).foldl I2 none=o):=bm.out;clear aA hn bm;go_enter Tryz.func170,Tryz.ntmps170;go_upto_region 13 with fail;obtain⟨W,bo⟩:=ar ((((w.alloc (ai (#[I 2,I a1,I aZ,I a8,I bh,I cx,I bu,I r,ad pl n cl,ad pp 0 cp]) dB)).alloc (cV eh)).alloc (cV eh)).alloc (BA false));have bH:af (w7 w w.heap.size #[I 2,I a1,I aZ,I a8,I bh,I cx,I bu,I r,ad pl n cl,ad pp 0 cp] none W):=by obtain⟨av,az,aC,bt,ax⟩:=zE bo;exact⟨av,az,⟨aC,bt⟩,ax⟩
 change Code.wp _ _ _ _ ((((w.alloc (ai (#[I 2,I a1,I aZ,I a8,I bh,I cx,I bu,I r,ad pl n cl,ad pp 0 cp]) dB)).alloc (cV eh)).alloc (cV eh)).alloc (BA false));rw[bo];clear bo;obtain⟨g0,g1,g2,g3,g4,g5,g6,g7,g8,g9⟩:=eA bH.out.dC;go_wp2_with fail
 go_loopw [74] (fun i wr=>∃(j:Nat) (u:Option ck) (aM:aeo),aM=wr∧j≤n∧af ((l.drop j).foldl I2 u=o)∧i=I j∧af (w7 w w.heap.size #[I 2,I a1,I aZ,I a8,I bh,I cx,I bu,I r,ad pl n cl,ad pp 0 cp] u aM)) (fun i _=>n -(intOf i).toNat)
 case atStart=>exact⟨0,none,_,rfl,dO _,l1.out,rfl,bH.out⟩
 case round=>
 obtain⟨j,u,aM,rfl,cd,cG,rfl,aI⟩:=hrel;clear g0 g1 g2 g3 g4 g5 g6 g7 g8 g9 bH;by_cases bR:j<n
 ·have fE:j<l.length:=(by rw[bd.out];exact bR);have gU:(j:Int)<(n:Int):=(by omega);obtain⟨q,aR⟩:=ar (l[j]);obtain⟨fz,w8,ni,na,rfl,I3,_,l2⟩:=H.out.at fE aR;have qm:=bV aI.out.aX I3;clear I3;have bT:=aq l2;have oR:q.length≤1000000000:=l2.1;have bw:af (∀z∈q,hQ z):=(by intro z cz;exact dn.out q (by rw[←aR];exact kT _) z cz);have hM:af ((l.drop (j+1)).foldl I2 (q.foldl (fun o p=>uW o (qn p p 0)) u)=o):=(by show _=_;rw[←cG.out,lD fE,aR];rfl);obtain⟨m,hm⟩:=ar q.length;have F8:=aq hm;rw[hm] at qm oR;clear l2 aR cG hm;go_wp2_with fail
  go_loopw [80] (fun i dw=>∃(k:Nat) (v:Option ck) (cE:aeo),cE=dw∧k≤m∧af ((q.drop k).foldl (fun o p=>uW o (qn p p 0)) v=q.foldl (fun o p=>uW o (qn p p 0)) u)∧i=I k∧af (w7 w w.heap.size #[I 2,I a1,I aZ,I a8,I bh,I cx,I bu,I r,ag fz w8 n cl,ad pp 0 cp] v cE)) (fun i _=>m -(intOf i).toNat)
  case atStart=>exact⟨0,u,_,rfl,dO _,rfl,rfl,aI.out⟩
  case round=>
  obtain⟨k,v,cE,rfl,ay,cQ,rfl,aV⟩:=hrel;by_cases j':k<m
  ·have pS:k<q.length:=(by rw[F8.out];exact j');have ML:(k:Int)<(m:Int):=(by omega);obtain⟨z,cz⟩:=ar (q[k]);have rA:=aq (bw.out z (by rw[←cz];exact kT _));obtain⟨nb,lH,rfl,s0,s1⟩:=(bT.out.below aV.out.aX).at pS cz;have kC:af ((q.drop (k+1)).foldl (fun o p=>uW o (qn p p 0)) (uW v (qn z z 0))=q.foldl (fun o p=>uW o (qn p p 0)) u):=(by show _=_;rw[←cQ.out,lD pS,cz];rfl);clear cz;obtain⟨gv,gw⟩:=z;obtain⟨X7,RD⟩:=ar (qn (gv,gw) (gv,gw) 0);have ahX:=aq RD;rw[RD] at kC;clear RD;go_wp2_with fail;have tT:=aq (aV.out.below (a6 cE (eU (gv,gw))));generalize cE.alloc (eU (gv,gw))=b4 at tT⊢;with_reducible refine (X5 (gv,gw) (gv,gw) 0 rA.out rA.out ⟨by decide,by decide⟩ X7 ahX _).mono ?_
   rintro e c9 ⟨rfl,ax⟩;have eQ:=aq (tT.out.below ax);clear ax;go_wp2_with fail;with_reducible refine (No (w.heap.size+1+1) (w.heap.size+1+1+1) (by omega) v X7 _ (aq eQ.out.yo)).mono ?_
   rintro e eK ⟨rfl,I4,rB⟩;have yE:=aq (eQ.out.take rfl I4 rB);clear I4 rB eQ tT;go_wp2_with fail;go_round<;>first|exact⟨k+1,_,_,rfl,by omega,kC.out,by go_num,yE.out⟩|(simp[intOf]<;>omega)
  ·have wF:k=m:=(by omega);have a':af ((l.drop (j+1)).foldl I2 v=o):=(by show _=_;have av:=cQ.out;rw[mU (by have:=F8.out;omega)] at av;rw[←hM.out,←av];rfl);subst wF;go_wp2_with fail;go_round<;>first|exact⟨j+1,v,_,rfl,by omega,a'.out,by go_num,aV.out⟩|(simp[intOf]<;>omega)
 ·have iH:j=n:=(by omega);have dr:u=o:=(by rw[←cG.out,mU (by have:=bd.out;omega)];rfl);subst iH dr;obtain⟨g0,g1,g2,g3,g4,g5,g6,g7,g8,g9⟩:=eA aI.out.dC;obtain⟨a0,bA,a2,a3⟩:=gW (show aM.heap[w.heap.size+1+1]?=some (cV ⟨(u.getD eh).aD,(u.getD eh).aE,(u.getD eh).aL,(u.getD eh).aH⟩) from aI.out.yo.a);obtain⟨f0,f1⟩:=F7 aI.out.yo.f;obtain⟨ju,iJ,l',sA⟩:=gW (show aM.heap[w.heap.size+1]?=some (cV ⟨0,0,0,0⟩) from aI.out.res);have fr:=cJ aI.out.res;go_wp2_with fail
  go_loopw [94] (fun i wr=>i=I 0∧wr=aM) (fun _ _=>0)
  case atStart=>exact⟨rfl,rfl⟩
  case round=>
  obtain⟨rfl,rfl⟩:=hrel;go_upto_region 30 with fail;go_region
  all_goals
   go_wp2_with fail;have hr:=oh [I (u.getD eh).aD,I (u.getD eh).aE,I (u.getD eh).aL,I (u.getD eh).aH] (show wr.heap[w.heap.size+1]?=some (.cells #[I 0,I 0,I 0,I 0] 198) from aI.out.res) rfl;have ax:=ss (m:=0) (b:=w.heap.size+1) (mv _) [I (u.getD eh).aD,I (u.getD eh).aE,I (u.getD eh).aL,I (u.getD eh).aH] aI.out.aX;exact dU (o1 rfl _ _ (w.heap.size+1) _ _ _ _ rfl hr Dj rfl (by kernel_rfl)) rfl ⟨rfl,ax.drew⟩
theorem ahY(x y:Int):(if y > x then y else x)=max x y:=by rw[Int.max_def];split<;>split<;>omega
theorem ahZ(w:aeo)(ts:Array TypeId)(t:aai)(a b c d:Int):(Builtin.max_ ts t #[I a,I b,I c,I d]).run Tryz.prog w=.ok (I (max (max (max a b) c) d)) w:=by simp[Builtin.max_,Builtin.max2,←ahY]
theorem X8(v lo hi:Int)(h:e1 v∧e1 lo∧e1 hi)(g:Int)(aF:af (zs v lo hi=g))(w:aeo):Calls Tryz.prog 307 #[I v,I lo,I hi] w fun e w'=>e=ab (I g)∧w'=w:=by
 unfold e1 at h;have av:ae (v-lo)=v-lo:=cY _ (by omega);have az:ae (lo-v)=lo-v:=cY _ (by omega);have aC:ae (v-hi)=v-hi:=cY _ (by omega);have bt:ae (hi-v)=hi-v:=cY _ (by omega);have hm:∀w,(Builtin.max_ #[2,2,2,2] 2 #[I (v-lo),I (lo-v),I (v-hi),I (hi-v)]).run Tryz.prog w=.ok (I g) w:=fun w=>by rw[ahZ,←aF.out];rfl
 clear h;go_enter Tryz.func307,Tryz.ntmps307;go_wp2_with fail;go_ret;exact⟨rfl,rfl⟩
theorem X9(r:Int)(h:1≤r∧r≤536870912)(q:Int)(aR:af (r *r=q))(w:aeo):Calls Tryz.prog 270 #[I r] w fun e w'=>e=ab (I q)∧w'=w:=by
 have hm:min r 2147483648=r:=by omega
 have hs:=Iw (x:=r) ⟨by omega,by omega⟩;have hw:ae (r *r)=r *r:=cY _ (by omega);clear hs h;go_enter Tryz.func270,Tryz.ntmps270;go_wp2_with fail;go_ret;exact⟨pt aR.out,rfl⟩
abbrev Nq(w0:aeo)(k:Nat)(aD aE aL aH de cZ:Int)(Z:aeo):Prop:=
 Z.cell? ⟨k,0,none⟩=some (I aD)∧ak Z k 1 (I aE)∧ak Z k 2 (I aL)∧ak Z k 3 (I aH)∧ak Z (k+1) 0 (I de)∧ak Z (k+1) 1 (I cZ)∧ao w0 w0 Z
theorem RE{k:Nat}{de cZ:Int}(ax:ao v v Z)(h:Nq w0 k aD aE aL aH de cZ v):Nq w0 k aD aE aL aH de cZ Z:=
 ⟨bV ax h.1,bV ax h.2.1,bV ax h.2.2.1,bV ax h.2.2.2.1,bV ax h.2.2.2.2.1,bV ax h.2.2.2.2.2.1,h.2.2.2.2.2.2.trans (ax.mono h.2.2.2.2.2.2.size)⟩
theorem Nr{v lo hi:Int}(h:-536870912≤v∧v≤536870912)(aS:-536870912≤lo∧lo≤536870912)(av:-536870912≤hi∧hi≤536870912):e1 v∧e1 lo∧e1 hi∧pv (zs v lo hi)∧pv (pr v lo hi):=by refine⟨⟨by omega,by omega⟩,⟨by omega,by omega⟩,⟨by omega,by omega⟩,⟨?_,?_⟩,⟨?_,?_⟩⟩<;>first|(unfold zs;omega)|(unfold pr;split<;>(try split)<;>omega)
theorem ah0(b:ck)(p:b3)(aS:hQ (b.aD,b.aE))(av:hQ (b.aL,b.aH))(hp:hQ p)(d:Int)(hd:af (It b p=d))(w:aeo):
  Calls Tryz.prog 271 #[h5 b,lG p] w fun e w'=>e=ab (I d)∧ao w w w':=by
 obtain⟨aD,aE,aL,aH⟩:=b;obtain⟨de,cZ⟩:=p;obtain⟨lN,i2,i3,i4,_⟩:=Nr hp.1 aS.1 av.1;obtain⟨gH,gI,gz,gA,_⟩:=Nr hp.2 aS.2 av.2;obtain⟨kY,hx⟩:=ar (zs de aD aL);obtain⟨kZ,hy⟩:=ar (zs cZ aE aH);simp only at lN i2 i3 i4 gH gI gz gA;rw[hx] at i4;rw[hy] at gA;have s1:=Iw i4;have s2:=Iw gA;have cc:ae (kY *kY)=kY *kY:=cY _ (by omega);have b9:ae (kZ *kZ)=kZ *kZ:=cY _ (by omega);have dP:ae (kY *kY+kZ *kZ)=d:=by rw[←hd.out,cY _ (by omega),←hx,←hy];rfl
 have cR:=aq hx;have c1:=aq hy;have b8:=aq (And.intro lN (And.intro i2 i3));have cG:=aq (And.intro gH (And.intro gI gz));clear lN i2 i3 i4 gH gI gz gA s1 s2 hx hy aS av hp;go_enter Tryz.func271,Tryz.ntmps271;go_upto_region 1 with fail;obtain⟨W,bo⟩:=ar ((w.alloc (cV ⟨aD,aE,aL,aH⟩)).alloc (eU (de,cZ)));have bT:af (Nq w w.heap.size aD aE aL aH de cZ W):=by have t1:W.heap[w.heap.size]?=some (cV ⟨aD,aE,aL,aH⟩):=(by rw[←bo];exact aU (bY _ _) (a6 _ _));have t2:W.heap[w.heap.size+1]?=some (eU (de,cZ)):=(by rw[←bo];exact vd _ _ _);obtain⟨a0,bA,a2,a3⟩:=gW t1;obtain⟨fO,fh⟩:=kr t2;exact⟨a0,bA,a2,a3,fO,fh,by rw[←bo];exact pz _ _ _⟩
 rw[bo];clear bo;have ah1:=aq (RE (Below.refl _ _).drew bT.out)
 go_region_held3 (fun Z=>Nq w w.heap.size aD aE aL aH de cZ Z) (first|with_reducible exact bT.out|with_reducible exact ah1.out|with_reducible exact RE (by assumption) (by assumption)|with_reducible exact RE (Below.refl _ _).drew (by assumption)|assumption|fail) (first|(go_at_call 307;with_reducible refine (X8 de aD aL b8.out kY cR _).mono ?_;rintro e bI ⟨rfl,rfl⟩)|(go_at_call 307;with_reducible refine (X8 cZ aE aH cG.out kZ c1 _).mono ?_;rintro e bI ⟨rfl,rfl⟩)|fail)
 rename_i hHeld;have aI:=aq hHeld.2.2.2.2.2.2;clear hHeld;go_wp2_with fail;go_ret;exact⟨rfl,aI.out⟩
theorem ah2(b:ck)(c:b3)(r:Int)(aS:hQ (b.aD,b.aE))(av:hQ (b.aL,b.aH))(he:sj b=false)(hc:hQ c)(hr:1≤r∧r≤536870912)(k:Int)(ay:af (C4 b c r=k))(w:aeo):
  Calls Tryz.prog 248 #[h5 b,lG c,I r] w fun e w'=>e=ab (I k)∧ao w w w':=by
 have qw:=aq aS;have H1:=aq av;have bl:=aq he;have bC:=aq hc;have bw:=aq hr;obtain⟨aD,aE,aL,aH⟩:=b;obtain⟨cx,bu⟩:=c;obtain⟨lN,i2,i3,_,i4⟩:=Nr hc.1 aS.1 av.1;obtain⟨gH,gI,gz,_,gA⟩:=Nr hc.2 aS.2 av.2;simp only at lN i2 i3 i4 gH gI gz gA;have ah3:af (ck.In ⟨aD,aE,aL,aH⟩):=(⟨i2,gI,i3,gz⟩:ck.In _);have ah4:=aq (And.intro lN gH);obtain⟨kY,hx⟩:=ar (pr cx aD aL);obtain⟨kZ,hy⟩:=ar (pr bu aE aH);rw[hx] at i4;rw[hy] at gA;obtain⟨yF,yG⟩:=ar (kY *kY+kZ *kZ);obtain⟨Ns,RF⟩:=ar (It ⟨aD,aE,aL,aH⟩ (cx,bu));obtain⟨q,aR⟩:=ar (r *r);have cQ:af ((if q<yF then (0:Int) else if Ns≤q then 2 else 1)=k):=by show _=_;rw[←ay.out,←yG,←RF,←aR,←hx,←hy];rfl
 have cR:=aq hx;have c1:=aq hy;have ah5:=aq i4;have ah6:=aq gA;have F9:=aq yG;have ah7:=aq RF;have a':=aq aR;have i7:¬r<1:=by omega
 clear aS av he hc hr lN i2 i3 i4 gH gI gz gA hx hy yG RF aR ay;go_enter Tryz.func248,Tryz.ntmps248;go_upto_region 1 with fail;obtain⟨W,bo⟩:=ar ((w.alloc (cV ⟨aD,aE,aL,aH⟩)).alloc (eU (cx,bu)));have aI:af (ao w w W):=by show Below _ _ _;rw[←bo];exact pz _ _ _
 have cy:af (W.heap[w.heap.size]?=some (cV ⟨aD,aE,aL,aH⟩)):=by show _=_;rw[←bo];exact aU (bY _ _) (a6 _ _)
 have bT:af (W.heap[w.heap.size+1]?=some (eU (cx,bu))):=by show _=_;rw[←bo];exact vd _ _ _
 rw[bo];clear bo;obtain⟨a0,bA,a2,a3⟩:=gW cy.out;go_wp2_with fail;with_reducible refine (XB ⟨aD,aE,aL,aH⟩ (aD,aE) true (aq (X1 aD aE aL aH bl.out)) _).mono ?_
 rintro e V ⟨rfl,ax⟩;have cC:af (ao w w V):=aI.out.trans (ax.mono aI.out.size);have su:=aq (aU cy.out ax);have lE:=aq (aU bT.out ax);clear a0 bA a2 a3 ax;obtain⟨a0,bA,a2,a3⟩:=gW su.out;obtain⟨fO,fh⟩:=kr lE.out;simp only at fO fh;go_wp2_with fail;with_reducible refine (W' aD aE aL aH cx bu ah3.out ah4.out kY kZ cR c1 ah5.out ah6.out yF F9 _).mono ?_
 rintro e mc ⟨rfl,ax⟩;have c6:af (ao w w mc):=cC.out.trans (ax.mono cC.out.size);have qx:=aq (aU su.out ax);have mF:=aq (aU lE.out ax);clear a0 bA a2 a3 fO fh ax;obtain⟨a0,bA,a2,a3⟩:=gW qx.out;obtain⟨fO,fh⟩:=kr mF.out;simp only at fO fh;go_wp2_with fail;with_reducible refine (X9 r bw.out q a' _).mono ?_
 rintro e sC ⟨rfl,rfl⟩;by_cases aN:q<yF
 ·have aO:af ((0:Int)=k):=(by show _=_;rw[←cQ.out,bb aN]);go_wp2_with fail;go_ret;exact⟨pt aO.out,c6.out⟩
 ·have kq:af ((if Ns≤q then (2:Int) else 1)=k):=(by show _=_;rw[←cQ.out,aW aN]);go_wp2_with fail;with_reducible refine (ah0 ⟨aD,aE,aL,aH⟩ (cx,bu) qw.out H1.out bC.out Ns ah7 _).mono ?_
  rintro e Nn ⟨rfl,ax⟩;have gb:af (ao w w Nn):=c6.out.trans (ax.mono c6.out.size);clear a0 bA a2 a3 fO fh ax;go_wp2_with fail;with_reducible refine (X9 r bw.out q a' _).mono ?_
  rintro e avS ⟨rfl,rfl⟩;by_cases aJ:Ns≤q
  ·have aO:af ((2:Int)=k):=(by show _=_;rw[←kq.out,bb aJ]);go_wp2_with fail;go_ret;exact⟨pt aO.out,gb.out⟩
  ·have aO:af ((1:Int)=k):=(by show _=_;rw[←kq.out,aW aJ]);go_wp2_with fail;go_ret;exact⟨pt aO.out,gb.out⟩
structure I5(b:ck):Prop where
 fO:hQ (b.aD,b.aE)
 fh:hQ (b.aL,b.aH)
 e:sj b=false
def BB(b:dm):Prop:=b.k≠3∧b.k≠4∧b.k≠5
def tU:bk→Prop
 |.nil=>True
 |.cons _ b s r=>BB b∧tU s∧tU r
def sD(s:eg):Prop:=BB s.b∧tU s.p
theorem tU.at{a:Bool}{b:dm}{s r:bk}:∀{pre:bk},tU (pre.append (.cons a b s r))→BB b∧tU s
 |.nil,h=>⟨h.1,h.2.1⟩
 |.cons _ _ _ q,h=>tU.at (pre:=q) h.2.2
theorem X'{p:b3}(h:gF p=true):hQ p:=tF h
def RG(d:Nat→Bool):Nat→Int
 |0=>0
 |n+1=>RG d n+if d n=true then 1 else 0
abbrev Nt(hi lo:Int):Value:=.agg #[.int .u64 hi,.int .u64 lo]
def Dn(d:Nat→Int)(v:Int):Nat→Int
 |0=>0
 |n+1=>Dn d v n+if d n=v then 1 else 0
structure RH(S E:Nat→Int)(j:Nat)(e' s0 s1 s2 ek a7 bf:Int):Prop where
 i:RG (fun k=>decide (S k=0)&&decide (E k=0)) j=e'
 s0:Dn S (-1) j=s0
 s1:Dn S 0 j=s1
 s2:Dn S 1 j=s2
 ek:Dn E (-1) j=ek
 a7:Dn E 0 j=a7
 bf:Dn E 1 j=bf
theorem RH.next{S E:Nat→Int}{j:Nat}{e' s0 s1 s2 ek a7 bf s e:Int}(h:RH S E j e' s0 s1 s2 ek a7 bf)(hs:S j=s)(he:E j=e):RH S E (j+1) (e'+if s=0∧e=0 then 1 else 0) (s0+if s= -1 then 1 else 0) (s1+if s=0 then 1 else 0) (s2+if s=1 then 1 else 0) (ek+if e= -1 then 1 else 0) (a7+if e=0 then 1 else 0) (bf+if e=1 then 1 else 0):=by
 obtain⟨av,az,aC,bt,cr,c4,ez⟩:=h;subst hs he;refine⟨?_,?_,?_,?_,?_,?_,?_⟩
 ·rw[←av];simp only[RG,jh,jR]
 ·rw[←az];rfl
 ·rw[←aC];rfl
 ·rw[←bt];rfl
 ·rw[←cr];rfl
 ·rw[←c4];rfl
 ·rw[←ez];rfl
end dd
