/- Lemmas. -/
import Derived.Test.YtfldplmgkeiimaaGreatDoorQ4
import Derived.Deep.RegionLaw
import Derived.Laws.Cover1
set_option linter.all false
set_option maxRecDepth 100000
set_option maxHeartbeats 12800000
namespace Go.Proofs.YtfldplmgkeiimaaGreatDoor
abbrev mf:=@List.length_take
abbrev Km:=@List.getElem_append_left
abbrev Oi:=@List.getElem_drop
abbrev Oj:=@List.getElem_append_right
abbrev CG:=@Int.tmod_eq_emod_of_nonneg
abbrev zw:=@Proofs.Tryz.underlying198
abbrev nL:=@results_none
abbrev Hq:=@Proofs.Tryz.func170
abbrev Hr:=@Proofs.Tryz.ntmps170
namespace dE
open Go.RowKit el
theorem ai1(p a e:bp)(hp:dw p)(ha:dw a)(he:dw e)(f:Bool)(hf:J (vZ p a e=f))(w:bTo):
  Calls Tryz.prog 308 #[fA p,fA a,fA e] w fun r w'=>r=bb (ai f)∧av w w w':=by
 have bL:=U hp;have b8:=U ha;have bm:=U he;clear hp ha he;have h:=hf.out;clear hf;unfold vZ at h;obtain⟨bW,bU⟩:=p;obtain⟨aA,aB⟩:=a;obtain⟨ex,bw⟩:=e;simp only at h;obtain⟨v,aS⟩:=az (dN (aA,aB) (ex,bw) (bW,bU));rw[aS] at h;have cd:=U aS;have ho:=U h;clear aS h;go_enter Tryz.func308,Tryz.ntmps308;go_upto_region 1 with fail;obtain⟨W,a6⟩:=az (((w.alloc (dB (bW,bU))).alloc (dB (aA,aB))).alloc (dB (ex,bw)));obtain⟨t1,t2,t3,t4,t5⟩:=rb a6;have cm:=U t1;have c1:=U t2;have dx:=U t3;have dC:=U t4;rw[a6];clear a6 t1 t2 t3 t4 t5;obtain⟨eK,er⟩:=eP cm.out;obtain⟨a0,a'⟩:=eP c1.out;obtain⟨cJ,aN⟩:=eP dx.out;simp only at eK er a0 a' cJ aN;by_cases aI:bU<aB<;>by_cases c2:bU<bw
 ·have aE:J (false=f):=(by show _=_;rw[←ho.out];simp[aI,c2]);go_wp2_with fail;go_ret;exact⟨ej aE.out,dC.out⟩
 ·have aE:J ((if aB<bw then decide (0<v) else decide (v<0))=f):=(by show _=_;rw[←ho.out];simp[aI,c2]);have c3:¬aB<bw:=(by omega);go_wp2_with fail;go_fit (xU (aA,aB) (ex,bw) (bW,bU) b8.out bm.out bL.out v cd _);rintro r V ⟨rfl,aS⟩;have cV:J (av w w V):=dC.out.trans (aS.mono dC.out.size);obtain⟨a0,a'⟩:=eP (aO c1.out aS);obtain⟨cJ,aN⟩:=eP (aO dx.out aS);simp only at a0 a' cJ aN;clear aS;go_wp2_with fail;go_ret;refine⟨ej ?_,cV.out⟩;rw[←aE.out,aK (by omega)]
 ·have aE:J ((if aB<bw then decide (0<v) else decide (v<0))=f):=(by show _=_;rw[←ho.out];simp[aI,c2]);have c3:aB<bw:=(by omega);go_wp2_with fail;go_fit (xU (aA,aB) (ex,bw) (bW,bU) b8.out bm.out bL.out v cd _);rintro r V ⟨rfl,aS⟩;have cV:J (av w w V):=dC.out.trans (aS.mono dC.out.size);obtain⟨a0,a'⟩:=eP (aO c1.out aS);obtain⟨cJ,aN⟩:=eP (aO dx.out aS);simp only at a0 a' cJ aN;clear aS;go_wp2_with fail;go_ret;refine⟨ej ?_,cV.out⟩;rw[←aE.out,aT c3]
 ·have aE:J (false=f):=(by show _=_;rw[←ho.out];simp[aI,c2]);go_wp2_with fail;go_ret;exact⟨ej aE.out,dC.out⟩
theorem Kn(c:List bp):(jQ c).length=c.length:=by unfold jQ;rw[List.length_zip,gh,gZ,mf];omega
theorem Y0(c:List bp)(i:Nat)(hi:i<c.length)(hm:(i+1)%c.length<c.length):(jQ c)[i]'(by rw[Kn];exact hi)=(c[i],c[(i+1)%c.length]):=by
 simp only[jQ,List.getElem_zip]
 congr 1
 by_cases h:i+1<c.length
 ·rw[Km (by simp;omega),Oi]
  congr 1
  rw[Nat.mod_eq_of_lt h,Eh]
 ·have aj:i+1=c.length:=(by omega);rw[Oj (by simp;omega),List.getElem_take]
  congr 1
  simp only[gZ];rw[aj,Nat.mod_self];omega
theorem Y1{a b:Int}(aQ:0≤a)(aa:0<b):a.tmod b=a%b:=CG aQ
abbrev Hs(w0:bTo)(b6:Nat)(ao ak ar aq:Int)(D:Nat)(aA aB:Int)(fw eG:Nat)(ex bw:Int)(Z:bTo):Prop:=
 Z.cell? ⟨b6,0,none⟩=some (I ao)∧aw Z b6 1 (I ak)∧aw Z b6 2 (I ar)∧aw Z b6 3 (I aq)∧aw Z D 0 (I aA)∧aw Z D 1 (I aB)∧aw Z fw eG (I ex)∧aw Z fw (eG+1) (I bw)∧av w0 w0 Z
variable{w0 v Z w:bTo}{b6 D fw eG:Nat}{ao ak ar aq aA aB ex bw:Int}
theorem Y2(af:av v v Z)(h:Hs w0 b6 ao ak ar aq D aA aB fw eG ex bw v):Hs w0 b6 ao ak ar aq D aA aB fw eG ex bw Z:=
 ⟨bM af h.1,bM af h.2.1,bM af h.2.2.1,bM af h.2.2.2.1,bM af h.2.2.2.2.1,bM af h.2.2.2.2.2.1,bM af h.2.2.2.2.2.2.1,bM af h.2.2.2.2.2.2.2.1,h.2.2.2.2.2.2.2.2.trans (af.mono h.2.2.2.2.2.2.2.2.size)⟩
theorem Y3(h:Hs w0 b6 ao ak ar aq D aA aB fw eG ex bw v):Hs w0 b6 ao ak ar aq D aA aB fw eG ex bw v.drew:=Y2 (Below.refl _ _).drew h
theorem ai2(S:Jp)(b:bR)(aQ:dw (b.ao,b.ak))(aa:dw (b.ar,b.aq))(he:r' b=false)(p:aya)(l:List (List bp))(n c:Nat)(hn:n=l.length)(aj:∀c∈l,∀q∈c,dw q)(w:bTo)(H:J (iF S w p l))(f:Bool)(hf:J (zg b l=f)):
  Calls Tryz.prog 272 #[gJ b,ad p n c] w fun e w'=>e=bb (ai f)∧av w w w':=by
 have mw:n≤1000000000:=by rw[hn];exact H.out.1
 have a1:=U hn;have dR:=U aj;have og:=U aQ;have H1:=U aa;have bm:=U he;obtain⟨g,aX⟩:∃g:bp×bp→Bool,(fun e=>p1 b e.1 e.2)=g:=⟨_,rfl⟩;have fv:=U aX;have lq:J ((l.drop 0).any (fun c=>(jQ c).any g)=f):=by show _=_;rw[←aX];exact hf.out
 clear hf hn aj aQ aa he aX;obtain⟨ao,ak,ar,aq⟩:=b;go_enter Tryz.func272,Tryz.ntmps272;go_wp2_with fail;have dC:J (av w w (w.alloc (cH ⟨ao,ak,ar,aq⟩))):=jq _ _;have b8:J ((w.alloc (cH ⟨ao,ak,ar,aq⟩)).heap[w.heap.size]?=some (cH ⟨ao,ak,ar,aq⟩)):=cw _ _;generalize w.alloc (cH ⟨ao,ak,ar,aq⟩)=W at dC b8⊢
 go_loopw [11] (fun i wr=>∃(j:Nat) (aG:bTo),aG=wr∧j≤n∧J ((l.drop j).any (fun c=>(jQ c).any g)=f)∧i=I j∧J (av W W aG)) (fun i _=>n -(intOf i).toNat)
 case atStart=>exact⟨0,_,rfl,eC _,lq.out,rfl,Below.refl _ _⟩
 case round=>
 obtain⟨j,aG,rfl,cB,dA,rfl,aH⟩:=hrel;by_cases b0:j<n
 ·have fs:j<l.length:=(by rw[←a1.out];exact b0);have ib:(j:Int)<(n:Int):=(by omega);obtain⟨r,hr⟩:=az (l[j]);obtain⟨fS,o,q,jB,rfl,nB,_,mx⟩:=(H.out.below (dC.out.trans (aH.out.mono dC.out.size))).at fs hr;have bL:=U mx;have r9:r.length≤1000000000:=mx.1;have br:J (∀q∈r,dw q):=(by intro q aC;exact dR.out r (by rw[←hr];exact j4 _) q aC);have jn:J (((jQ r).any g ||(l.drop (j+1)).any (fun c=>(jQ c).any g))=f):=(by show _=_;rw[←dA.out,l3 fs,hr];rfl);obtain⟨m,hm⟩:=az r.length;have bB:=U hm;rw[hm] at nB r9;clear mx hr dA hm;go_wp2_with fail
  go_loopw [17] (fun i fT=>∃(k:Nat) (cO:bTo),cO=fT∧k≤m∧J (((jQ r).drop k).any g=(jQ r).any g)∧i=I k∧J (av aG aG cO)) (fun i _=>m -(intOf i).toNat)
  case atStart=>exact⟨0,_,rfl,eC _,rfl,rfl,Below.refl _ _⟩
  case round=>
  obtain⟨k,cO,rfl,ab,cT,rfl,aV⟩:=hrel;by_cases ko:k<m
  ·have qA:k<r.length:=(by rw[bB.out];exact ko);have NP:(k:Int)<(m:Int):=(by omega);obtain⟨a8,ga⟩:=az ((k+1)%m);have SP:a8<m:=(by rw[←ga];exact Nat.mod_lt _ (by omega));have EI:a8<r.length:=(by rw[bB.out];exact SP);obtain⟨z,bx⟩:=az (r[k]);obtain⟨z2,dz⟩:=az (r[a8]);have sn:=U (br.out z (by rw[←bx];exact j4 _));have SQ:=U (br.out z2 (by rw[←dz];exact j4 _));obtain⟨nC,l6,rfl,s0,s1⟩:=(bL.out.below aV.out).at qA bx;obtain⟨EJ,EK,AZ,u0,u1⟩:=(bL.out.below aV.out).at EI dz;obtain⟨rfl,rfl⟩:EJ=nC∧EK=l6:=(by injection AZ with aa;injection aa with aa ah;exact⟨aa.symm,ah.symm⟩);have kW:J (((jQ r).drop k).any g=(g (z,z2)||((jQ r).drop (k+1)).any g)):=(by show _=_;rw[l3 (by rw[Kn];exact qA),Y0 r k qA (by rw[bB.out,ga,←bB.out];exact EI)];have:r[(k+1)%r.length]'(by rw[bB.out,ga,←bB.out];exact EI)=z2:=(by rw[←dz];congr 1;rw[bB.out,ga]);rw[this,bx];rfl);clear bx dz AZ;obtain⟨gR,gS⟩:=z;obtain⟨ex,bw⟩:=z2;obtain⟨mX,uQ⟩:=az (g ((gR,gS),(ex,bw)));have CH:=U uQ;have El:J (p1 ⟨ao,ak,ar,aq⟩ (gR,gS) (ex,bw)=mX):=(by show _=_;rw[←uQ,←fv.out]);have k6:bT ((k:Int)+1)=(k:Int)+1:=b4 _ (by omega);have sc:¬((m:Int)=0):=(by omega);have EL:((k:Int)+1).tmod (m:Int)=(a8:Int):=(by rw[Y1 (by omega) (by omega),←ga];exact (Int.natCast_emod (k+1) m).symm);have ai3:¬m=0:=(by omega);have ai4:(0:Int)≤(a8:Int):=(by omega);have ai5:(a8:Int)<(m:Int):=(by omega);clear uQ ga;obtain⟨a0,a',a2,a3⟩:=fD (aO (aO b8.out aH.out) aV.out);have dK:=lt_of_heap (aO (aO b8.out aH.out) aV.out);go_upto_region 7 with fail;have fH:J (Hs cO w.heap.size ao ak ar aq cO.heap.size gR gS EJ (EK+a8 *2) ex bw (cO.alloc (dB (gR,gS)))):=(by obtain⟨bX,b3⟩:=eP (cw cO (dB (gR,gS)));have af:=ba cO (dB (gR,gS));exact⟨bM af a0,bM af a',bM af a2,bM af a3,bX,b3,bM af u0,bM af u1,af⟩);generalize cO.alloc (dB (gR,gS))=ct at fH⊢;clear a0 a' a2 a3 s0 s1 u0 u1
   go_region_held3 (fun Z=>Hs cO w.heap.size ao ak ar aq cO.heap.size gR gS EJ (EK+a8 *2) ex bw Z) (first|with_reducible exact fH.out|with_reducible exact Y3 fH.out|with_reducible exact Y2 (by assumption) (by assumption)|with_reducible exact Y3 (by assumption)|fail) (first|(go_at_call 277;go_fit (YY ⟨ao,ak,ar,aq⟩ (gR,gS) (ex,bw) og.out H1.out sn.out SQ.out bm.out mX El _);rintro e bt ⟨rfl,dT⟩)|fail)
   rename_i hHeld;have fc:J (av aG aG bt):=aV.out.trans (hHeld.2.2.2.2.2.2.2.2.mono aV.out.size);clear hHeld dT fH;cases mX with
   |true=>
    have aE:J (true=f):=(by show _=_;rw[←jn.out,←cT.out,kW.out,CH.out];rfl);go_wp2_with fail;go_ret;exact⟨ej aE.out,dC.out.trans ((aH.out.trans (fc.out.mono aH.out.size)).mono dC.out.size)⟩
   |false=>
    have hg:J (((jQ r).drop (k+1)).any g=(jQ r).any g):=(by show _=_;rw[←cT.out,kW.out,CH.out];rfl);go_wp2_with fail;go_round<;>first|exact⟨k+1,_,rfl,by omega,hg.out,by go_num,fc.out⟩|(simp[intOf]<;>omega)
  ·have zd:k=m:=(by omega);have a7:J ((l.drop (j+1)).any (fun c=>(jQ c).any g)=f):=(by show _=_;have aa:=cT.out;rw[n7 (by rw[Kn];have:=bB.out;omega)] at aa;rw[←jn.out,←aa];rfl);subst zd;go_wp2_with fail;go_round<;>first|exact⟨j+1,_,rfl,by omega,a7.out,by go_num,aH.out.trans (aV.out.mono aH.out.size)⟩|(simp[intOf]<;>omega)
 ·have iH:j=n:=(by omega);have dF:J (false=f):=(by show _=_;rw[←dA.out,n7 (by rw[←a1.out];omega)];rfl);subst iH;go_wp2_with fail;go_ret;exact⟨ej dF.out,dC.out.trans (aH.out.mono dC.out.size)⟩
abbrev Ht(w0:bTo)(b6:Nat)(ao ak:Int)(D:Nat)(aA aB:Int)(fw eG:Nat)(ex bw:Int)(Z:bTo):Prop:=
 Z.cell? ⟨b6,0,none⟩=some (I ao)∧aw Z b6 1 (I ak)∧aw Z D 0 (I aA)∧aw Z D 1 (I aB)∧aw Z fw eG (I ex)∧aw Z fw (eG+1) (I bw)∧av w0 w0 Z
theorem Y4(af:av v v Z)(h:Ht w0 b6 ao ak D aA aB fw eG ex bw v):Ht w0 b6 ao ak D aA aB fw eG ex bw Z:=
 ⟨bM af h.1,bM af h.2.1,bM af h.2.2.1,bM af h.2.2.2.1,bM af h.2.2.2.2.1,bM af h.2.2.2.2.2.1,h.2.2.2.2.2.2.trans (af.mono h.2.2.2.2.2.2.size)⟩
theorem Y5(h:Ht w0 b6 ao ak D aA aB fw eG ex bw v):Ht w0 b6 ao ak D aA aB fw eG ex bw v.drew:=Y4 (Below.refl _ _).drew h
theorem ai6(S:Jp)(b:bp)(aQ:dw b)(p:aya)(l:List (List bp))(n c:Nat)(hn:n=l.length)(aj:∀c∈l,∀q∈c,dw q)(w:bTo)(H:J (iF S w p l))(f:Bool)(hf:J (En b l=f)):
  Calls Tryz.prog 273 #[fA b,ad p n c] w fun e w'=>e=bb (ai f)∧av w w w':=by
 have mw:n≤1000000000:=by rw[hn];exact H.out.1
 have a1:=U hn;have dR:=U aj;have og:=U aQ;obtain⟨g,aX⟩:∃g:bp×bp→Bool,(fun e=>vZ b e.1 e.2)=g:=⟨_,rfl⟩;have fv:=U aX;have lq:J ((l.drop 0).foldl (fun i c=>(jQ c).foldl (fun i e=>if g e=true then !i else i) i) false=f):=by show _=_;rw[←aX];exact hf.out
 clear hf hn aj aQ aX;obtain⟨ao,ak⟩:=b;go_enter Tryz.func273,Tryz.ntmps273;go_wp2_with fail;have dC:J (av w w (w.alloc (dB (ao,ak)))):=jq _ _;have b8:J ((w.alloc (dB (ao,ak))).heap[w.heap.size]?=some (dB (ao,ak))):=cw _ _;generalize w.alloc (dB (ao,ak))=W at dC b8⊢
 go_loopw [5,12] (fun SR i wr=>∃(j:Nat) (rz:Bool) (aG:bTo),aG=wr∧j≤n∧J ((l.drop j).foldl (fun i c=>(jQ c).foldl (fun i e=>if g e=true then !i else i) i) rz=f)∧SR=ai rz∧i=I j∧J (av W W aG)) (fun _ i _=>n -(intOf i).toNat)
 case atStart=>exact⟨0,false,_,rfl,eC _,lq.out,rfl,rfl,Below.refl _ _⟩
 case round=>
 obtain⟨j,rz,aG,rfl,cB,dA,rfl,rfl,aH⟩:=hrel;by_cases b0:j<n
 ·have fs:j<l.length:=(by rw[←a1.out];exact b0);have ib:(j:Int)<(n:Int):=(by omega);obtain⟨r,hr⟩:=az (l[j]);obtain⟨fS,o,q,jB,rfl,nB,_,mx⟩:=(H.out.below (dC.out.trans (aH.out.mono dC.out.size))).at fs hr;have bL:=U mx;have r9:r.length≤1000000000:=mx.1;have br:J (∀q∈r,dw q):=(by intro q aC;exact dR.out r (by rw[←hr];exact j4 _) q aC);have jn:J ((l.drop (j+1)).foldl (fun i c=>(jQ c).foldl (fun i e=>if g e=true then !i else i) i) ((jQ r).foldl (fun i e=>if g e=true then !i else i) rz)=f):=(by show _=_;rw[←dA.out,l3 fs,hr];rfl);obtain⟨m,hm⟩:=az r.length;have bB:=U hm;rw[hm] at nB r9;clear mx hr dA hm;go_wp2_with fail
  go_loopw [5,18] (fun SR i fT=>∃(k:Nat) (jU:Bool) (cO:bTo),cO=fT∧k≤m∧J (((jQ r).drop k).foldl (fun i e=>if g e=true then !i else i) jU=(jQ r).foldl (fun i e=>if g e=true then !i else i) rz)∧SR=ai jU∧i=I k∧J (av aG aG cO)) (fun _ i _=>m -(intOf i).toNat)
  case atStart=>exact⟨0,rz,_,rfl,eC _,rfl,rfl,rfl,Below.refl _ _⟩
  case round=>
  obtain⟨k,jU,cO,rfl,ab,cT,rfl,rfl,aV⟩:=hrel;by_cases ko:k<m
  ·have qA:k<r.length:=(by rw[bB.out];exact ko);have NP:(k:Int)<(m:Int):=(by omega);obtain⟨a8,ga⟩:=az ((k+1)%m);have SP:a8<m:=(by rw[←ga];exact Nat.mod_lt _ (by omega));have EI:a8<r.length:=(by rw[bB.out];exact SP);obtain⟨z,bx⟩:=az (r[k]);obtain⟨z2,dz⟩:=az (r[a8]);have sn:=U (br.out z (by rw[←bx];exact j4 _));have SQ:=U (br.out z2 (by rw[←dz];exact j4 _));obtain⟨nC,l6,rfl,s0,s1⟩:=(bL.out.below aV.out).at qA bx;obtain⟨EJ,EK,AZ,u0,u1⟩:=(bL.out.below aV.out).at EI dz;obtain⟨rfl,rfl⟩:EJ=nC∧EK=l6:=(by injection AZ with aa;injection aa with aa ah;exact⟨aa.symm,ah.symm⟩);have kW:J (((jQ r).drop k).foldl (fun i e=>if g e=true then !i else i) jU=((jQ r).drop (k+1)).foldl (fun i e=>if g e=true then !i else i) (if g (z,z2)=true then !jU else jU)):=(by show _=_;rw[l3 (by rw[Kn];exact qA),Y0 r k qA (by rw[bB.out,ga,←bB.out];exact EI)];have:r[(k+1)%r.length]'(by rw[bB.out,ga,←bB.out];exact EI)=z2:=(by rw[←dz];congr 1;rw[bB.out,ga]);rw[this,bx];rfl);clear bx dz AZ;obtain⟨gR,gS⟩:=z;obtain⟨ex,bw⟩:=z2;obtain⟨mX,uQ⟩:=az (g ((gR,gS),(ex,bw)));have CH:=U uQ;have El:J (vZ (ao,ak) (gR,gS) (ex,bw)=mX):=(by show _=_;rw[←uQ,←fv.out]);have k6:bT ((k:Int)+1)=(k:Int)+1:=b4 _ (by omega);have sc:¬((m:Int)=0):=(by omega);have EL:((k:Int)+1).tmod (m:Int)=(a8:Int):=(by rw[Y1 (by omega) (by omega),←ga];exact (Int.natCast_emod (k+1) m).symm);have ai3:¬m=0:=(by omega);have ai4:(0:Int)≤(a8:Int):=(by omega);have ai5:(a8:Int)<(m:Int):=(by omega);clear uQ ga;obtain⟨a0,a'⟩:=eP (aO (aO b8.out aH.out) aV.out);have dK:=lt_of_heap (aO (aO b8.out aH.out) aV.out);go_upto_region 8 with fail;have fH:J (Ht cO w.heap.size ao ak cO.heap.size gR gS EJ (EK+a8 *2) ex bw (cO.alloc (dB (gR,gS)))):=(by obtain⟨bX,b3⟩:=eP (cw cO (dB (gR,gS)));have af:=ba cO (dB (gR,gS));exact⟨bM af a0,bM af a',bX,b3,bM af u0,bM af u1,af⟩);generalize cO.alloc (dB (gR,gS))=ct at fH⊢;clear a0 a' s0 s1 u0 u1
   go_region_held3 (fun Z=>Ht cO w.heap.size ao ak cO.heap.size gR gS EJ (EK+a8 *2) ex bw Z) (first|with_reducible exact fH.out|with_reducible exact Y5 fH.out|with_reducible exact Y4 (by assumption) (by assumption)|with_reducible exact Y5 (by assumption)|fail) (first|(go_at_call 308;go_fit (ai1 (ao,ak) (gR,gS) (ex,bw) og.out sn.out SQ.out mX El _);rintro e bt ⟨rfl,dT⟩)|fail)
   rename_i hHeld;have fc:J (av aG aG bt):=aV.out.trans (hHeld.2.2.2.2.2.2.mono aV.out.size);clear hHeld dT fH;cases mX with
   |true=>
    have hg:J (((jQ r).drop (k+1)).foldl (fun i e=>if g e=true then !i else i) (!jU)=(jQ r).foldl (fun i e=>if g e=true then !i else i) rz):=(by show _=_;rw[←cT.out,kW.out,CH.out];rfl);go_wp2_with fail;go_round<;>first|exact⟨k+1,!jU,_,rfl,by omega,hg.out,rfl,by go_num,fc.out⟩|(simp[intOf]<;>omega)
   |false=>
    have hg:J (((jQ r).drop (k+1)).foldl (fun i e=>if g e=true then !i else i) jU=(jQ r).foldl (fun i e=>if g e=true then !i else i) rz):=(by show _=_;rw[←cT.out,kW.out,CH.out];rfl);go_wp2_with fail;go_round<;>first|exact⟨k+1,jU,_,rfl,by omega,hg.out,rfl,by go_num,fc.out⟩|(simp[intOf]<;>omega)
  ·have zd:k=m:=(by omega);have a7:J ((l.drop (j+1)).foldl (fun i c=>(jQ c).foldl (fun i e=>if g e=true then !i else i) i) jU=f):=(by show _=_;have aa:=cT.out;rw[n7 (by rw[Kn];have:=bB.out;omega)] at aa;rw[←jn.out,←aa];rfl);subst zd;go_wp2_with fail;go_round<;>first|exact⟨j+1,jU,_,rfl,by omega,a7.out,rfl,by go_num,aH.out.trans (aV.out.mono aH.out.size)⟩|(simp[intOf]<;>omega)
 ·have iH:j=n:=(by omega);have dF:J (rz=f):=(by show _=_;rw[←dA.out,n7 (by rw[←a1.out];omega)];rfl);subst iH;go_wp2_with fail;go_ret;exact⟨ej dF.out,dC.out.trans (aH.out.mono dC.out.size)⟩
theorem Ko(ao ak ar aq:Int)(he:r' ⟨ao,ak,ar,aq⟩=false):(decide (ao≤ao)&&(decide (ao≤ar)&&(decide (ak≤ak)&&decide (ak≤aq))))=true:=by simp only[r',Bool.or_eq_false_iff,CA] at he;simp;omega
theorem ai7(S:Jp)(b:bR)(aQ:dw (b.ao,b.ak))(aa:dw (b.ar,b.aq))(he:r' b=false)(p:aya)(l:List (List bp))(n c:Nat)(hn:n=l.length)(aj:∀c∈l,∀q∈c,dw q)(w:bTo)(H:J (iF S w p l))(k:Int)(ab:J (v7 b l=k)):
  Calls Tryz.prog 249 #[gJ b,ad p n c] w fun e w'=>e=bb (I k)∧av w w w':=by
 have og:=U aQ;have H1:=U aa;have bm:=U he;have dR:=U aj;have a1:=U hn;obtain⟨fO,CI⟩:=az (zg b l);obtain⟨SS,SU⟩:=az (En (b.ao,b.ak) l);have ai8:=U CI;have Y6:=U SU;have cT:J ((if fO=true then (1:Int) else if SS=true then 2 else 0)=k):=by show _=_;rw[←ab.out,←CI,←SU];rfl
 clear CI SU ab aQ aa he aj hn;obtain⟨ao,ak,ar,aq⟩:=b;simp only at Y6;go_enter Tryz.func249,Tryz.ntmps249;go_wp2_with fail;have dC:J (av w w (w.alloc (cH ⟨ao,ak,ar,aq⟩))):=jq _ _;have b8:J ((w.alloc (cH ⟨ao,ak,ar,aq⟩)).heap[w.heap.size]?=some (cH ⟨ao,ak,ar,aq⟩)):=cw _ _;generalize w.alloc (cH ⟨ao,ak,ar,aq⟩)=W at dC b8⊢;go_fit (ai2 S ⟨ao,ak,ar,aq⟩ og.out H1.out bm.out p l n c a1.out dR.out _ (U (H.out.below dC.out)) fO ai8);rintro e V ⟨rfl,af⟩;have cd:J (av w w V):=dC.out.trans (af.mono dC.out.size);have qb:=U (aO b8.out af);clear af;obtain⟨a0,a',a2,a3⟩:=fD qb.out;cases fO with
 |true=>
  go_wp2_with fail;go_ret;exact⟨fU cT.out,cd.out⟩
 |false=>
  go_upto_region 4 with fail;have c1:J (av V V (V.alloc (dB (ao,ak)))):=ba _ _;have bL:J ((V.alloc (dB (ao,ak))).heap[V.heap.size]?=some (dB (ao,ak))):=cw _ _;generalize V.alloc (dB (ao,ak))=hG at c1 bL⊢;clear a0 a' a2 a3;obtain⟨a0,a',a2,a3⟩:=fD (aO qb.out c1.out);obtain⟨eK,er⟩:=eP bL.out;simp only at eK er;have jR:J (av w w hG):=cd.out.trans (c1.out.mono cd.out.size);go_wp2_with fail;go_fit (Kl ⟨ao,ak,ar,aq⟩ (ao,ak) true (U (Ko ao ak ar aq bm.out)) _);rintro e kN ⟨rfl,af⟩;have pf:J (av w w kN):=jR.out.trans (af.mono jR.out.size);have xV:=U (aO bL.out af);clear a0 a' a2 a3 eK er af;obtain⟨eK,er⟩:=eP xV.out;simp only at eK er;go_wp2_with fail;go_fit (ai6 S (ao,ak) og.out p l n c a1.out dR.out _ (U (H.out.below pf.out)) SS Y6);rintro e CJ ⟨rfl,af⟩;have Y7:J (av w w CJ):=pf.out.trans (af.mono pf.out.size);clear eK er af;cases SS with
  |true=>
   go_wp2_with fail;go_ret;exact⟨fU cT.out,Y7.out⟩
  |false=>
   go_wp2_with fail;go_ret;exact⟨fU cT.out,Y7.out⟩
theorem Y8(was cls:Int)(add:Bool)(k:Int)(ab:J (qB was cls add=k))(w:bTo):Calls Tryz.prog 173 #[I was,I cls,ai add] w fun e w'=>e=bb (I k)∧w'=w:=by
 cases add<;>go_enter Tryz.func173,Tryz.ntmps173<;>go_wp2_with fail
 all_goals
  go_ret;refine⟨fU ?_,rfl⟩;have h:=ab.out;unfold qB at h
  grind
theorem ai9(w:bTo)(o p q:Obj):(((w.alloc o).alloc p).alloc q).heap[w.heap.size+1+1]?=some q:=by rw[←xE w o,←xE (w.alloc o) p];exact cw _ _
theorem Kp(p q:bp)(r:Int)(hp:dw p)(aC:dw q)(hr:0≤r∧r≤4611686018427387904)(b:bR)(af:J (kH p q r=b))(w:bTo):Calls Tryz.prog 213 #[fA p,fA q,I r] w fun e w'=>e=bb (gJ b)∧av w w w':=by obtain⟨bW,bU⟩:=p;obtain⟨cY,cZ⟩:=q;unfold dw at hp aC;simp only at hp aC;have bE:bT (min bW cY-r)=min bW cY-r:=b4 _ (by omega);have cr:bT (min bU cZ-r)=min bU cZ-r:=b4 _ (by omega);have dJ:bT (max bW cY+r)=max bW cY+r:=b4 _ (by omega);have cb:bT (max bU cZ+r)=max bU cZ+r:=b4 _ (by omega);clear hp aC hr;go_enter Tryz.func213,Tryz.ntmps213;go_wp2_with fail;rw[←af.out];have key:=ai9 w (dB (bW,bU)) (dB (cY,cZ)) (cH (kH (bW,bU) (cY,cZ) r));exact dH (rq rfl _ _ (w.heap.size+1+1) _ _ _ _ rfl key zw rfl (by kernel_rfl)) rfl ⟨rfl,YW _ _ _ _⟩
abbrev CK(b:Bool):Obj:=.cells #[ai b] 4
theorem Hu{k:Nat}{b:Bool}(h:w.heap[k]?=some (CK b)):aw w k 0 (ai b)∧∀i,w.frozen? ⟨k,i,none⟩=false:=by refine⟨?_,fun i=>?_⟩<;>simp[World.cell?,World.frozen?,h]
structure zx(w:bTo)(nM mY:Nat)(o:Option bR):Prop where
 a:w.heap[nM]?=some (cH (o.getD ed))
 f:w.heap[mY]?=some (CK o.isSome)
theorem zx.below{w':bTo}{nM mY:Nat}{o:Option bR}(h:zx w nM mY o)(af:av w w w'):zx w' nM mY o:=⟨aO h.a af,aO h.f af⟩
theorem Y9{W:bTo}{nM mY:Nat}{f:Bool}{a:bR}{ao ak ar aq:Int}(ha:W.heap[nM]?=some (cH a))(hf:W.heap[mY]?=some (CK f))(hne:nM≠mY)(af:av w w W):
  Ending.returned (.tuple #[])=bb (.tuple #[])∧zx ((jh W nM 0 [I ao,I ak,I ar,I aq]).setCell (ag mY 0) (ai true)) nM mY (some ⟨ao,ak,ar,aq⟩)∧aL (fun k=>k≠nM∧k≠mY) w ((jh W nM 0 [I ao,I ak,I ar,I aq]).setCell (ag mY 0) (ai true)):=by
 refine⟨rfl,⟨(jg hne).trans (me _ ha rfl),c4 _ ((xS (fN hne) _).trans hf)⟩,?_⟩;exact ((aL.dM af).trans (xT (fun h=>h.1 rfl) _)).trans (aL.set (fun h=>h.2 rfl) _)
theorem Ok(nM mY:Nat)(hne:nM≠mY)(o:Option bR)(b:bR)(w:bTo)(H:J (zx w nM mY o)):Calls Tryz.prog 215 #[gJ b,dv mY 0,dv nM 0] w fun e w'=>e=bb (.tuple #[])∧zx w' nM mY (p3 o b)∧aL (fun k=>k≠nM∧k≠mY) w w':=by
 obtain⟨ao,ak,ar,aq⟩:=b;cases o with
 |none=>
  go_enter Tryz.func215,Tryz.ntmps215;go_upto_region 1 with fail;have b8:J ((w.alloc (cH ⟨ao,ak,ar,aq⟩)).heap[w.heap.size]?=some (cH ⟨ao,ak,ar,aq⟩)):=cw _ _;have dF:J (zx (w.alloc (cH ⟨ao,ak,ar,aq⟩)) nM mY none):=H.out.below (ba _ _);have aH:J (av w w (w.alloc (cH ⟨ao,ak,ar,aq⟩))):=ba _ _;generalize w.alloc (cH ⟨ao,ak,ar,aq⟩)=W at b8 dF aH⊢;have aE:J (∀i,W.frozen? ⟨mY,i,none⟩=false):=(Hu dF.out.f).2;obtain⟨f0,f1⟩:=Hu dF.out.f;obtain⟨a0,a',a2,a3⟩:=fD b8.out;have g:=cP dF.out.a;obtain⟨cJ,aN,aR,cA⟩:=fD (show W.heap[nM]?=some (cH ⟨0,0,0,0⟩) from dF.out.a);have eA:=lt_of_heap dF.out.a;have ga:=lt_of_heap dF.out.f;go_wp2_with fail;refine bodyPost_end (nL rfl _ _ _) rfl ?_;exact Y9 dF.out.a dF.out.f hne aH.out
 |some a=>
  obtain⟨u0,v0,u1,v1⟩:=a;go_enter Tryz.func215,Tryz.ntmps215;go_upto_region 1 with fail;have b8:J ((w.alloc (cH ⟨ao,ak,ar,aq⟩)).heap[w.heap.size]?=some (cH ⟨ao,ak,ar,aq⟩)):=cw _ _;have dF:J (zx (w.alloc (cH ⟨ao,ak,ar,aq⟩)) nM mY (some ⟨u0,v0,u1,v1⟩)):=H.out.below (ba _ _);have aH:J (av w w (w.alloc (cH ⟨ao,ak,ar,aq⟩))):=ba _ _;generalize w.alloc (cH ⟨ao,ak,ar,aq⟩)=W at b8 dF aH⊢;obtain⟨f0,f1⟩:=Hu dF.out.f;obtain⟨a0,a',a2,a3⟩:=fD b8.out;obtain⟨cJ,aN,aR,cA⟩:=fD (show W.heap[nM]?=some (cH ⟨u0,v0,u1,v1⟩) from dF.out.a);have aja:=cP b8.out;go_upto_region 3 with fail;have avF:=lt_of_heap H.out.a;have Kq:=lt_of_heap H.out.f;obtain⟨ct,gU⟩:=az (jh W w.heap.size 0 [I (min u0 ao),I (min v0 ak),I (max u1 ar),I (max v1 aq)]);have qb:J (ct.heap[w.heap.size]?=some (cH ⟨min u0 ao,min v0 ak,max u1 ar,max v1 aq⟩)):=(by show _=_;rw[←gU];exact me _ b8.out rfl);have c1:J (av w w ct):=(by show Below _ _ _;rw[←gU];exact pt (bD _) _ aH.out);have Ol:J (ct.heap[nM]?=some (cH ⟨u0,v0,u1,v1⟩)):=(by show _=_;rw[←gU,xS (by omega)];exact dF.out.a);have SV:J (ct.heap[mY]?=some (CK true)):=(by show _=_;rw[←gU,xS (by omega)];exact dF.out.f);change Code.wp _ _ _ _ (jh W w.heap.size 0 [I (min u0 ao),I (min v0 ak),I (max u1 ar),I (max v1 aq)]);rw[gU];clear gU f0 f1 a0 a' a2 a3 cJ aN aR cA aja;obtain⟨f0,f1⟩:=Hu SV.out;obtain⟨a0,a',a2,a3⟩:=fD qb.out;have g:=cP Ol.out;obtain⟨cJ,aN,aR,cA⟩:=fD Ol.out;have eA:=lt_of_heap Ol.out;have ga:=lt_of_heap SV.out;go_wp2_with fail;refine bodyPost_end (nL rfl _ _ _) rfl ?_;exact Y9 Ol.out SV.out hne c1.out
structure xW(w0:bTo)(g:Nat)(dP:agv)(o:Option bR)(x:bTo):Prop where
 dP:bo x g dP dh
 res:x.heap[g+1]?=some (cH ed)
 zr:zx x (g+1+1) (g+1+1+1) o
 aY:av w0 w0 x
theorem xW.below{w0:bTo}{g:Nat}{dP:agv}{o:Option bR}{x y:bTo}(h:xW w0 g dP o x)(af:av x x y):xW w0 g dP o y:=
 ⟨aO h.dP af,aO h.res af,h.zr.below af,h.aY.trans (af.mono h.aY.size)⟩
theorem xW.take{g:Nat}{dP:agv}{o uG:Option bR}{x y:bTo}(h:xW w0 g dP o x)(aX:g=w0.heap.size)(bH:zx y (g+1+1) (g+1+1+1) uG)(ab:aL (fun k=>k≠g+1+1∧k≠g+1+1+1) x y):xW w0 g dP uG y:=
 ⟨ab.get ⟨by omega,by omega⟩ h.dP,ab.get ⟨by omega,by omega⟩ h.res,bH,h.aY.trans (ab.below w0.heap.size h.aY.size (fun k ab=>⟨by omega,by omega⟩))⟩
abbrev Kr(o:Option bR)(c:List bp):Option bR:=c.foldl (fun o p=>p3 o (kH p p 0)) o
theorem ajb(S:Jp)(aA aB aU aZ cx aP r:Int)(l:List (List bp))(pl:aya)(cl:Nat)(pp:aya)(cp:Nat)(w:bTo)(aj:∀c∈l,∀q∈c,dw q)(H:J (iF S w pl l))(o:Option bR)(bl:J (l.foldl Kr none=o)):
  Calls Tryz.prog 170 #[.agg #[I 2,I aA,I aB,I aU,I aZ,I cx,I aP,I r,ad pl l.length cl,ad pp 0 cp]] w fun e w'=>e=bb (.tuple #[gJ (o.getD ed),ai o.isSome])∧av w w w':=by
 have dR:=U aj;obtain⟨n,hn⟩:=az l.length;have mw:n≤1000000000:=by rw[←hn];exact H.out.1
 have a1:=U hn;rw[hn];have lq:J ((l.drop 0).foldl Kr none=o):=bl.out;clear aj hn bl;go_enter Hq,Hr;go_upto_region 13 with fail;obtain⟨W,a6⟩:=az ((((w.alloc (aD (#[I 2,I aA,I aB,I aU,I aZ,I cx,I aP,I r,ad pl n cl,ad pp 0 cp]) dh)).alloc (cH ed)).alloc (cH ed)).alloc (CK false));have bB:J (xW w w.heap.size #[I 2,I aA,I aB,I aU,I aZ,I cx,I aP,I r,ad pl n cl,ad pp 0 cp] none W):=by obtain⟨aa,ah,ax,bg,af⟩:=zj a6;exact⟨aa,ah,⟨ax,bg⟩,af⟩
 change Code.wp _ _ _ _ ((((w.alloc (aD (#[I 2,I aA,I aB,I aU,I aZ,I cx,I aP,I r,ad pl n cl,ad pp 0 cp]) dh)).alloc (cH ed)).alloc (cH ed)).alloc (CK false));rw[a6];clear a6;obtain⟨g0,g1,g2,g3,g4,g5,g6,g7,g8,g9⟩:=en bB.out.dP;go_wp2_with fail
 go_loopw [74] (fun i wr=>∃(j:Nat) (u:Option bR) (aG:bTo),aG=wr∧j≤n∧J ((l.drop j).foldl Kr u=o)∧i=I j∧J (xW w w.heap.size #[I 2,I aA,I aB,I aU,I aZ,I cx,I aP,I r,ad pl n cl,ad pp 0 cp] u aG)) (fun i _=>n -(intOf i).toNat)
 case atStart=>exact⟨0,none,_,rfl,eC _,lq.out,rfl,bB.out⟩
 case round=>
 obtain⟨j,u,aG,rfl,cB,dA,rfl,aH⟩:=hrel;clear g0 g1 g2 g3 g4 g5 g6 g7 g8 g9 bB;by_cases b0:j<n
 ·have fs:j<l.length:=(by rw[a1.out];exact b0);have ib:(j:Int)<(n:Int):=(by omega);obtain⟨q,aC⟩:=az (l[j]);obtain⟨fS,xX,nN,jB,rfl,Ks,_,mx⟩:=H.out.at fs aC;have nB:=bM aH.out.aY Ks;clear Ks;have bL:=U mx;have r9:q.length≤1000000000:=mx.1;have br:J (∀z∈q,dw z):=(by intro z bx;exact dR.out q (by rw[←aC];exact j4 _) z bx);have jn:J ((l.drop (j+1)).foldl Kr (q.foldl (fun o p=>p3 o (kH p p 0)) u)=o):=(by show _=_;rw[←dA.out,l3 fs,aC];rfl);obtain⟨m,hm⟩:=az q.length;have Hv:=U hm;rw[hm] at nB r9;clear mx aC dA hm;go_wp2_with fail
  go_loopw [80] (fun i fT=>∃(k:Nat) (v:Option bR) (cO:bTo),cO=fT∧k≤m∧J ((q.drop k).foldl (fun o p=>p3 o (kH p p 0)) v=q.foldl (fun o p=>p3 o (kH p p 0)) u)∧i=I k∧J (xW w w.heap.size #[I 2,I aA,I aB,I aU,I aZ,I cx,I aP,I r,bG fS xX n cl,ad pp 0 cp] v cO)) (fun i _=>m -(intOf i).toNat)
  case atStart=>exact⟨0,u,_,rfl,eC _,rfl,rfl,aH.out⟩
  case round=>
  obtain⟨k,v,cO,rfl,ab,cT,rfl,aV⟩:=hrel;by_cases ko:k<m
  ·have qA:k<q.length:=(by rw[Hv.out];exact ko);have NP:(k:Int)<(m:Int):=(by omega);obtain⟨z,bx⟩:=az (q[k]);have sn:=U (br.out z (by rw[←bx];exact j4 _));obtain⟨nC,l6,rfl,s0,s1⟩:=(bL.out.below aV.out.aY).at qA bx;have kW:J ((q.drop (k+1)).foldl (fun o p=>p3 o (kH p p 0)) (p3 v (kH z z 0))=q.foldl (fun o p=>p3 o (kH p p 0)) u):=(by show _=_;rw[←cT.out,l3 qA,bx];rfl);clear bx;obtain⟨gR,gS⟩:=z;obtain⟨Y',SW⟩:=az (kH (gR,gS) (gR,gS) 0);have ajc:=U SW;rw[SW] at kW;clear SW;go_wp2_with fail;have mB:=U (aV.out.below (ba cO (dB (gR,gS))));generalize cO.alloc (dB (gR,gS))=ct at mB⊢;go_fit (Kp (gR,gS) (gR,gS) 0 sn.out sn.out ⟨by decide,by decide⟩ Y' ajc _);rintro e c6 ⟨rfl,af⟩;have fc:=U (mB.out.below af);clear af;go_wp2_with fail;go_fit (Ok (w.heap.size+1+1) (w.heap.size+1+1+1) (by omega) v Y' _ (U fc.out.zr));rintro e ez ⟨rfl,Kt,so⟩;have zy:=U (fc.out.take rfl Kt so);clear Kt so fc mB;go_wp2_with fail;go_round<;>first|exact⟨k+1,_,_,rfl,by omega,kW.out,by go_num,zy.out⟩|(simp[intOf]<;>omega)
  ·have zd:k=m:=(by omega);have a7:J ((l.drop (j+1)).foldl Kr v=o):=(by show _=_;have aa:=cT.out;rw[n7 (by have:=Hv.out;omega)] at aa;rw[←jn.out,←aa];rfl);subst zd;go_wp2_with fail;go_round<;>first|exact⟨j+1,v,_,rfl,by omega,a7.out,by go_num,aV.out⟩|(simp[intOf]<;>omega)
 ·have iH:j=n:=(by omega);have dF:u=o:=(by rw[←dA.out,n7 (by have:=a1.out;omega)];rfl);subst iH dF;obtain⟨g0,g1,g2,g3,g4,g5,g6,g7,g8,g9⟩:=en aH.out.dP;obtain⟨a0,a',a2,a3⟩:=fD (show aG.heap[w.heap.size+1+1]?=some (cH ⟨(u.getD ed).ao,(u.getD ed).ak,(u.getD ed).ar,(u.getD ed).aq⟩) from aH.out.zr.a);obtain⟨f0,f1⟩:=Hu aH.out.zr.f;obtain⟨jD,ie,ly,qD⟩:=fD (show aG.heap[w.heap.size+1]?=some (cH ⟨0,0,0,0⟩) from aH.out.res);have fr:=cP aH.out.res;go_wp2_with fail
  go_loopw [94] (fun i wr=>i=I 0∧wr=aG) (fun _ _=>0)
  case atStart=>exact⟨rfl,rfl⟩
  case round=>
  obtain⟨rfl,rfl⟩:=hrel;go_upto_region 30 with fail;go_region
  all_goals
   go_wp2_with fail;have hr:=me [I (u.getD ed).ao,I (u.getD ed).ak,I (u.getD ed).ar,I (u.getD ed).aq] (show wr.heap[w.heap.size+1]?=some (.cells #[I 0,I 0,I 0,I 0] 198) from aH.out.res) rfl;have af:=pt (m:=0) (b:=w.heap.size+1) (l4 _) [I (u.getD ed).ao,I (u.getD ed).ak,I (u.getD ed).ar,I (u.getD ed).aq] aH.out.aY;exact dH (nK rfl _ _ (w.heap.size+1) _ _ _ _ rfl hr zw rfl (by kernel_rfl)) rfl ⟨rfl,af.drew⟩
theorem ajd(x y:Int):(if y > x then y else x)=max x y:=by rw[Int.max_def];split<;>split<;>omega
theorem aje(w:bTo)(ts:Array TypeId)(t:aui)(a b c d:Int):(Builtin.max_ ts t #[I a,I b,I c,I d]).run Tryz.prog w=.ok (I (max (max (max a b) c) d)) w:=by simp[Builtin.max_,Builtin.max2,←ajd]
theorem Za(v lo hi:Int)(h:e4 v∧e4 lo∧e4 hi)(g:Int)(aX:J (vY v lo hi=g))(w:bTo):Calls Tryz.prog 307 #[I v,I lo,I hi] w fun e w'=>e=bb (I g)∧w'=w:=by
 unfold e4 at h;have aa:bT (v-lo)=v-lo:=b4 _ (by omega);have ah:bT (lo-v)=lo-v:=b4 _ (by omega);have ax:bT (v-hi)=v-hi:=b4 _ (by omega);have bg:bT (hi-v)=hi-v:=b4 _ (by omega);have hm:∀w,(Builtin.max_ #[2,2,2,2] 2 #[I (v-lo),I (lo-v),I (v-hi),I (hi-v)]).run Tryz.prog w=.ok (I g) w:=fun w=>by rw[aje,←aX.out];rfl
 clear h;go_enter Tryz.func307,Tryz.ntmps307;go_wp2_with fail;go_ret;exact⟨rfl,rfl⟩
theorem Zb(r:Int)(h:1≤r∧r≤536870912)(q:Int)(aC:J (r *r=q))(w:bTo):Calls Tryz.prog 270 #[I r] w fun e w'=>e=bb (I q)∧w'=w:=by
 have hm:min r 2147483648=r:=by omega
 have hs:=Cp (x:=r) ⟨by omega,by omega⟩;have hw:bT (r *r)=r *r:=b4 _ (by omega);clear hs h;go_enter Tryz.func270,Tryz.ntmps270;go_wp2_with fail;go_ret;exact⟨fU aC.out,rfl⟩
abbrev Om(w0:bTo)(k:Nat)(ao ak ar aq bW bU:Int)(Z:bTo):Prop:=
 Z.cell? ⟨k,0,none⟩=some (I ao)∧aw Z k 1 (I ak)∧aw Z k 2 (I ar)∧aw Z k 3 (I aq)∧aw Z (k+1) 0 (I bW)∧aw Z (k+1) 1 (I bU)∧av w0 w0 Z
theorem SX{k:Nat}{bW bU:Int}(af:av v v Z)(h:Om w0 k ao ak ar aq bW bU v):Om w0 k ao ak ar aq bW bU Z:=
 ⟨bM af h.1,bM af h.2.1,bM af h.2.2.1,bM af h.2.2.2.1,bM af h.2.2.2.2.1,bM af h.2.2.2.2.2.1,h.2.2.2.2.2.2.trans (af.mono h.2.2.2.2.2.2.size)⟩
theorem Hw{v lo hi:Int}(h:-536870912≤v∧v≤536870912)(aQ:-536870912≤lo∧lo≤536870912)(aa:-536870912≤hi∧hi≤536870912):e4 v∧e4 lo∧e4 hi∧nD (vY v lo hi)∧nD (mT v lo hi):=by refine⟨⟨by omega,by omega⟩,⟨by omega,by omega⟩,⟨by omega,by omega⟩,⟨?_,?_⟩,⟨?_,?_⟩⟩<;>first|(unfold vY;omega)|(unfold mT;split<;>(try split)<;>omega)
theorem Zc(b:bR)(p:bp)(aQ:dw (b.ao,b.ak))(aa:dw (b.ar,b.aq))(hp:dw p)(d:Int)(hd:J (Em b p=d))(w:bTo):
  Calls Tryz.prog 271 #[gJ b,fA p] w fun e w'=>e=bb (I d)∧av w w w':=by
 obtain⟨ao,ak,ar,aq⟩:=b;obtain⟨bW,bU⟩:=p;obtain⟨iN,i2,i3,i4,_⟩:=Hw hp.1 aQ.1 aa.1;obtain⟨gL,gM,gC,gD,_⟩:=Hw hp.2 aQ.2 aa.2;obtain⟨j1,hx⟩:=az (vY bW ao ar);obtain⟨j2,hy⟩:=az (vY bU ak aq);simp only at iN i2 i3 i4 gL gM gC gD;rw[hx] at i4;rw[hy] at gD;have s1:=Cp i4;have s2:=Cp gD;have bE:bT (j1 *j1)=j1 *j1:=b4 _ (by omega);have cr:bT (j2 *j2)=j2 *j2:=b4 _ (by omega);have dJ:bT (j1 *j1+j2 *j2)=d:=by rw[←hd.out,b4 _ (by omega),←hx,←hy];rfl
 have cV:=U hx;have cq:=U hy;have bY:=U (And.intro iN (And.intro i2 i3));have dA:=U (And.intro gL (And.intro gM gC));clear iN i2 i3 i4 gL gM gC gD s1 s2 hx hy aQ aa hp;go_enter Tryz.func271,Tryz.ntmps271;go_upto_region 1 with fail;obtain⟨W,a6⟩:=az ((w.alloc (cH ⟨ao,ak,ar,aq⟩)).alloc (dB (bW,bU)));have bL:J (Om w w.heap.size ao ak ar aq bW bU W):=by have t1:W.heap[w.heap.size]?=some (cH ⟨ao,ak,ar,aq⟩):=(by rw[←a6];exact aO (cw _ _) (ba _ _));have t2:W.heap[w.heap.size+1]?=some (dB (bW,bU)):=(by rw[←a6];exact ry _ _ _);obtain⟨a0,a',a2,a3⟩:=fD t1;obtain⟨eK,er⟩:=eP t2;exact⟨a0,a',a2,a3,eK,er,by rw[←a6];exact k5 _ _ _⟩
 rw[a6];clear a6;have SY:=U (SX (Below.refl _ _).drew bL.out)
 go_region_held3 (fun Z=>Om w w.heap.size ao ak ar aq bW bU Z) (first|with_reducible exact bL.out|with_reducible exact SY.out|with_reducible exact SX (by assumption) (by assumption)|with_reducible exact SX (Below.refl _ _).drew (by assumption)|assumption|fail) (first|(go_at_call 307;go_fit (Za bW ao ar bY.out j1 cV _);rintro e bt ⟨rfl,rfl⟩)|(go_at_call 307;go_fit (Za bU ak aq dA.out j2 cq _);rintro e bt ⟨rfl,rfl⟩)|fail)
 rename_i hHeld;have aH:=U hHeld.2.2.2.2.2.2;clear hHeld;go_wp2_with fail;go_ret;exact⟨rfl,aH.out⟩
theorem SZ(b:bR)(c:bp)(r:Int)(aQ:dw (b.ao,b.ak))(aa:dw (b.ar,b.aq))(he:r' b=false)(hc:dw c)(hr:1≤r∧r≤536870912)(k:Int)(ab:J (uw b c r=k))(w:bTo):
  Calls Tryz.prog 248 #[gJ b,fA c,I r] w fun e w'=>e=bb (I k)∧av w w w':=by
 have og:=U aQ;have H1:=U aa;have bm:=U he;have bq:=U hc;have br:=U hr;obtain⟨ao,ak,ar,aq⟩:=b;obtain⟨cx,aP⟩:=c;obtain⟨iN,i2,i3,_,i4⟩:=Hw hc.1 aQ.1 aa.1;obtain⟨gL,gM,gC,_,gD⟩:=Hw hc.2 aQ.2 aa.2;simp only at iN i2 i3 i4 gL gM gC gD;have ajf:J (bR.In ⟨ao,ak,ar,aq⟩):=(⟨i2,gM,i3,gC⟩:bR.In _);have ajg:=U (And.intro iN gL);obtain⟨j1,hx⟩:=az (mT cx ao ar);obtain⟨j2,hy⟩:=az (mT aP ak aq);rw[hx] at i4;rw[hy] at gD;obtain⟨zz,zA⟩:=az (j1 *j1+j2 *j2);obtain⟨On,S0⟩:=az (Em ⟨ao,ak,ar,aq⟩ (cx,aP));obtain⟨q,aC⟩:=az (r *r);have cT:J ((if q<zz then (0:Int) else if On≤q then 2 else 1)=k):=by show _=_;rw[←ab.out,←zA,←S0,←aC,←hx,←hy];rfl
 have cV:=U hx;have cq:=U hy;have ajh:=U i4;have aji:=U gD;have Hx:=U zA;have ajj:=U S0;have a7:=U aC;have h4:¬r<1:=by omega
 clear aQ aa he hc hr iN i2 i3 i4 gL gM gC gD hx hy zA S0 aC ab;go_enter Tryz.func248,Tryz.ntmps248;go_upto_region 1 with fail;obtain⟨W,a6⟩:=az ((w.alloc (cH ⟨ao,ak,ar,aq⟩)).alloc (dB (cx,aP)));have aH:J (av w w W):=by show Below _ _ _;rw[←a6];exact k5 _ _ _
 have b8:J (W.heap[w.heap.size]?=some (cH ⟨ao,ak,ar,aq⟩)):=by show _=_;rw[←a6];exact aO (cw _ _) (ba _ _)
 have bL:J (W.heap[w.heap.size+1]?=some (dB (cx,aP))):=by show _=_;rw[←a6];exact ry _ _ _
 rw[a6];clear a6;obtain⟨a0,a',a2,a3⟩:=fD b8.out;go_wp2_with fail;go_fit (Kl ⟨ao,ak,ar,aq⟩ (ao,ak) true (U (Ko ao ak ar aq bm.out)) _);rintro e V ⟨rfl,af⟩;have cm:J (av w w V):=aH.out.trans (af.mono aH.out.size);have gf:=U (aO b8.out af);have gN:=U (aO bL.out af);clear a0 a' a2 a3 af;obtain⟨a0,a',a2,a3⟩:=fD gf.out;obtain⟨eK,er⟩:=eP gN.out;simp only at eK er;go_wp2_with fail;go_fit (NT ao ak ar aq cx aP ajf.out ajg.out j1 j2 cV cq ajh.out aji.out zz Hx _);rintro e hG ⟨rfl,af⟩;have c1:J (av w w hG):=cm.out.trans (af.mono cm.out.size);have qb:=U (aO gf.out af);have mU:=U (aO gN.out af);clear a0 a' a2 a3 eK er af;obtain⟨a0,a',a2,a3⟩:=fD qb.out;obtain⟨eK,er⟩:=eP mU.out;simp only at eK er;go_wp2_with fail;go_fit (Zb r br.out q a7 _);rintro e kN ⟨rfl,rfl⟩;by_cases aI:q<zz
 ·have aE:J ((0:Int)=k):=(by show _=_;rw[←cT.out,aT aI]);go_wp2_with fail;go_ret;exact⟨fU aE.out,c1.out⟩
 ·have hg:J ((if On≤q then (2:Int) else 1)=k):=(by show _=_;rw[←cT.out,aK aI]);go_wp2_with fail;go_fit (Zc ⟨ao,ak,ar,aq⟩ (cx,aP) og.out H1.out bq.out On ajj _);rintro e CJ ⟨rfl,af⟩;have fq:J (av w w CJ):=c1.out.trans (af.mono c1.out.size);clear a0 a' a2 a3 eK er af;go_wp2_with fail;go_fit (Zb r br.out q a7 _);rintro e Oo ⟨rfl,rfl⟩;by_cases c2:On≤q
  ·have aE:J ((2:Int)=k):=(by show _=_;rw[←hg.out,aT c2]);go_wp2_with fail;go_ret;exact⟨fU aE.out,fq.out⟩
  ·have aE:J ((1:Int)=k):=(by show _=_;rw[←hg.out,aK c2]);go_wp2_with fail;go_ret;exact⟨fU aE.out,fq.out⟩
structure A0(b:bR):Prop where
 eK:dw (b.ao,b.ak)
 er:dw (b.ar,b.aq)
 e:r' b=false
def qI(s:ey):Prop:=s=s
theorem nice(s:ey):qI s:=rfl
theorem A1{p:bp}(h:gI p=true):dw p:=uA h
end dE
