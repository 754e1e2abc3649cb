/- Lemmas. -/
import Derived.Test.YtfldplmgkeiimaaGreatDoorQ11
import Derived.WalkSmall
import Derived.RangeFuncBox
set_option linter.all false
set_option maxRecDepth 100000
set_option maxHeartbeats 25600000
namespace Go.Proofs.YtfldplmgkeiimaaGreatDoor
abbrev EI:=@List.getElem?_append_right
abbrev OA:=@Nat.add_sub_cancel_left
abbrev S6:=@List.set_append_right
abbrev EJ:=@Option.some.inj
namespace c4
open Go.RowKit dH
variable{S:afp}{w w' x y w0:aeo}{B bG n i c M k:Nat}{v:ada}
theorem S7{e:aai}{xs:aev}(h:w.ownsRow B e bG v n xs)(ax:aQ S w w')(hS:∀k,v.ownBlock=some k→S k):w'.ownsRow B e bG v n xs:=by
 refine⟨h.1,?_⟩;rcases h.2 with av|⟨g,cap,cur,rfl,bL,aJ,az⟩
 ·exact .inl av
 ·exact .inr ⟨g,cap,cur,rfl,bL,ax.get (hS g rfl) aJ,az⟩
theorem alW{j:Nat}{a:ajv}{s:aai}{f:Nat×Nat}{es:Array MapEntry}(av:w.heap[i]?=some (.cells a s f))(az:w.heap[j]?=some (.map es c)):i≠j:=by rintro rfl;rw[av] at az;cases az
theorem wu{g m:Nat}{e:aai}{xs:aev}(h:w.ownsRow B e bG (ag g 0 n c) m xs):B≤g∧∃cur,w.heap[g]?=some (.cells cur e (0,0)):=by
 rcases h.2 with ⟨aS,_⟩|⟨k,cap,cur,ax,bL,aJ,_⟩
 ·cases aS
 ·injection ax with eI _ fT;injection eI with eI;injection eI with eI;subst eI;exact⟨bL,cur,aJ⟩
theorem alX{e:aai}{xs:aev}(h:w.ownsRow B e bG v n xs){b:Nat}{es:Array MapEntry}(ay:w.heap[b]?=some (.map es c)):v.ownBlock≠some b:=by
 rcases h.2 with ⟨rfl,_⟩|⟨g,cap,cur,rfl,_,aJ,_⟩
 ·simp[Value.ownBlock]
 ·intro az;have:g=b:=(by simpa[Value.ownBlock] using az);subst this;rw[ay] at aJ;cases aJ
abbrev wv:TypeId:=296
def aal(w0:aeo):List Fr→Prop
 |[]=>True
 |[_]=>True
 |f::g::ts=>w0.cell? ⟨g.k,g.o+g.pre.len *11+10,none⟩=some (ad (some (aj f.k f.o)) f.all.len f.c)∧aal w0 (g::ts)
structure oo(S:afp)(w0:aeo)(M:Nat)(root:bc)(ts:List Fr)(hd:Bool)(L:List (iq×Int))(sv:ada)(w:aeo):Prop where
 aZ:ao w0 w0 w
 row:w.ownsRow w0.heap.size wv 3 sv ts.length (qa ts)
 map:sa w M L
 nv:uX S w0 L ts
 zu:uW root ts
 nz:aal w0 ts
 ps:∀g∈ts,hM S w0 (some (aj g.k g.o)) g.all∧0<g.all.len∧g.all.len≤1000000000
 OB:w0.heap.size≤M
 ax:hd=true→∃f us a b sub r tv uq c',ts=f::us∧f.rest=.cons a b sub r∧0<sub.len∧ak w0 f.k (f.o+f.pre.len *11+10) (ad (some (aj tv uq)) sub.len c')∧kp L (tv,uq,sub.len)≠none
variable{L:List (iq×Int)}
theorem sa.keep(h:sa w M L)(ax:aQ S w w')(hS:S M):sa w' M L:=by obtain⟨es,c,av,az⟩:=h;exact⟨es,c,ax.get hS av,az⟩
theorem sa.below(h:sa w M L)(ay:ao w w w'):sa w' M L:=h.keep (S:=fun _=>True) (.dI ay) trivial
theorem EG.below(h:EG w L)(ay:ao w w w'):EG w' L:=fun x hx=>by obtain⟨cs,aJ⟩:=h x hx;exact⟨cs,aU aJ ay⟩
theorem oo.below{S:afp}{w0:aeo}{M:Nat}{root:bc}{ts:List Fr}{hd:Bool}{L:List (iq×Int)}{sv:ada}{w w':aeo}(h:oo S w0 M root ts hd L sv w)(ay:ao w w w'):oo S w0 M root ts hd L sv w':=
 {h with aZ:=h.aZ.trans (ay.mono h.aZ.size),row:=e9 h.row ay,map:=h.map.below ay}
theorem S8{e:aai}{xs:aev}(h:sa w M L)(hr:w.ownsRow B e bG v n xs):v.ownBlock≠some M:=by obtain⟨es,c,aJ,_⟩:=h;exact alX hr aJ
theorem KF{g:Nat}{e:aai}{xs:aev}{z0 z1 z2:ada}(h:w.ownsRow B e 3 (ag g 0 (n+1) c) (n+1) (xs++[z0,z1,z2]))(hx:xs.length=n *3):
  ak w g (n *3) z0∧ak w g (n *3+1) z1∧ak w g (n *3+2) z2:=by
 have key:∀j,j<3→w.cell? ⟨g,n *3+j,none⟩=[z0,z1,z2][j]?:=by intro j cr;rw[h.cellAt (n *3+j) (by omega),EI (by omega),hx,OA]
 exact⟨key 0 (by decide),key 1 (by decide),key 2 (by decide)⟩
theorem oo.pop{S:afp}{w0:aeo}{M:Nat}{root:bc}{f g:Fr}{ts:List Fr}{hd:Bool}{L:List (iq×Int)}{tw cap n:Nat}{w bV:aeo}(h:oo S w0 M root (f::g::ts) hd L (ag tw 0 (n+1) cap) w)(hn:(g::ts).length=n)(ax:aQ (fun b=>b≠M) w bV)(hv:sa bV M (om L f.key (f.all.count:Int))):
  oo S w0 M root (g::ts) true (om L f.key (f.all.count:Int)) (ag tw 0 n cap) bV:=by
 obtain⟨hp,aA,_⟩:=h.ps f (by simp);obtain⟨⟨a,b,r,e⟩,KE⟩:=h.zu;obtain⟨At,mY⟩:=h.nz;refine⟨h.aZ.trans (ax.below _ h.aZ.size fun k fT e=>by have:=h.OB;omega),?_,hv,h.nv.pop hp aA,KE,mY,fun x hx=>h.ps x (by simp[hx]),h.OB,fun _=>⟨g,ts,a,b,f.all,r,f.k,f.o,f.c,rfl,e,aA,At,?_⟩⟩
 ·have av:bV.ownsRow w0.heap.size wv 3 (ag tw 0 (n+1) cap) (f::g::ts).length (qa (f::g::ts)):=S7 h.row ax fun k a6 ch=>S8 h.map h.row (ch ▸ a6);rw[show (f::g::ts).length=n+1 by simp[←hn]] at av;have az:=ownsRow_pop (xs:=qa (g::ts)) (last:=EH f) (by rw[Cy,hn]) av;rw[hn];exact az
 ·show kp _ f.key≠none;rw[Hw,a8 rfl];exact fun h=>by cases h
theorem oo.Oz{S:afp}{w0:aeo}{M:Nat}{root:bc}{f:Fr}{ts:List Fr}{hd:Bool}{L:List (iq×Int)}{tw cap n:Nat}{w:aeo}(h:oo S w0 M root (f::ts) hd L (ag tw 0 (n+1) cap) w)(hn:ts.length=n){a:Bool}{b:cJ}{sub r:bc}(hr:f.rest=.cons a b sub r):
  oo S w0 M root (⟨f.k,f.o,f.c,f.pre.append (.cons a b sub .nil),r⟩::ts) false L (ag tw 0 (n+1) cap) ((w.setCell (aj tw (n *3+2)) (I (f.pre.count+(sub.count+1):Nat))).setCell (aj tw (n *3+1)) (I (f.pre.len+1:Nat))):=by
 have lE:(⟨f.k,f.o,f.c,f.pre.append (.cons a b sub .nil),r⟩:Fr).all=f.all:=by unfold Fr.all;rw[hr];show (f.pre.append (.cons a b sub .nil)).append r=_;rw[bc.append_assoc];rfl
 have aT:=h.row;rw[show (f::ts).length=n+1 by simp[hn]] at aT;obtain⟨av,g1⟩:=aT.stored (n *3+2) (I ((f.pre.count+(sub.count+1):Nat):Int));obtain⟨az,g2⟩:=av.stored (n *3+1) (I ((f.pre.len+1:Nat):Int));have zv:=(wu aT).1;obtain⟨_,cur,gp⟩:=wu aT;have S9:M≠tw:=by obtain⟨es,c,aJ,_⟩:=h.map;exact (alW gp aJ).symm
 have hK:aQ (fun k=>k≠tw) w ((w.setCell (aj tw (n *3+2)) (I (f.pre.count+(sub.count+1):Nat))).setCell (aj tw (n *3+1)) (I (f.pre.len+1:Nat))):=(aQ.set (a:=⟨tw,n *3+2,none⟩) (fun h=>h rfl) _).trans (aQ.set (a:=⟨tw,n *3+1,none⟩) (fun h=>h rfl) _);refine⟨h.aZ.trans (hK.below _ h.aZ.size fun k ax=>by omega),?_,h.map.keep hK S9,h.nv.Oz (by unfold Fr.key;rw[lE]),?_,?_,fun x hx=>?_,h.OB,fun e=>by cases e⟩
 ·rw[show (⟨f.k,f.o,f.c,f.pre.append (.cons a b sub .nil),r⟩::ts:List Fr).length=n+1 by simp[hn]];have e:qa (⟨f.k,f.o,f.c,f.pre.append (.cons a b sub .nil),r⟩::ts)=((qa (f::ts)).set (n *3+2) (I ((f.pre.count+(sub.count+1):Nat):Int))).set (n *3+1) (I ((f.pre.len+1:Nat):Int)):=(by have aA:(qa ts).length=n *3:=(by rw[Cy,hn]);simp only[qa,EH,lE];rw[S6 _ _ (by omega),S6 _ _ (by omega),aA,show n *3+2-n *3=2 by omega,show n *3+1-n *3=1 by omega];simp[bc.ue,bc.count_append,bc.len,bc.count]);rw[e];exact az
 ·cases ts with
  |nil=>exact lE.trans h.zu
  |cons g ts=>
   obtain⟨⟨hq,bg,fP,e⟩,KE⟩:=h.zu;exact⟨⟨hq,bg,fP,by rw[lE];exact e⟩,KE⟩
 ·cases ts with
  |nil=>trivial
  |cons g ts=>
   obtain⟨e,mY⟩:=h.nz;exact⟨by rw[lE];exact e,mY⟩
 ·rcases List.mem_cons.1 hx with rfl|hx
  ·rw[lE];exact h.ps f (by simp)
  ·exact h.ps x (by simp[hx])
theorem oo.push{S:afp}{w0:aeo}{M:Nat}{root:bc}{f f':Fr}{ts:List Fr}{hd:Bool}{L:List (iq×Int)}{sv sv':ada}{w w':aeo}(h:oo S w0 M root (f::ts) hd L sv w){a:Bool}{b:cJ}{r:bc}(hr:f.rest=.cons a b f'.all r)(aw4:f'.pre=.nil)(p2:ak w0 f.k (f.o+f.pre.len *11+10) (ad (some (aj f'.k f'.o)) f'.all.len f'.c))(hp:hM S w0 (some (aj f'.k f'.o)) f'.all)(aA:0<f'.all.len∧f'.all.len≤1000000000)(ay:ao w0 w0 w')(d':w'.ownsRow w0.heap.size wv 3 sv' (f'::f::ts).length (qa (f'::f::ts)))(hv:sa w' M (om L f'.key (-1))):
  oo S w0 M root (f'::f::ts) false (om L f'.key (-1)) sv' w':=
 ⟨ay,d',hv,h.nv.push hp aA.1,⟨⟨a,b,r,hr⟩,h.zu⟩,⟨p2,h.nz⟩,fun x hx=>by
  rcases List.mem_cons.1 hx with rfl|hx
  ·exact⟨hp,aA.1,aA.2⟩
  ·exact h.ps x hx,h.OB,fun e=>by cases e⟩
theorem OC(k o n c:Nat)(hn:0<n∧n≤1000000000)(w:aeo):
  Calls Tryz.prog 168 #[ag k o n c] w fun e w'=>e=ab (lJ (k,o,n))∧ao w w w':=by
 have av:(0:Int)<(n:Int):=by omega
 have az:=hn.1;go_enter Tryz.func168,Tryz.ntmps168;go_wp2_with fail;have key:=cd w (ai (#[.pointer (some (aj k o)),I (n:Int)]) xU);exact dC (pD rfl _ _ w.heap.size _ _ _ _ rfl key Om rfl (by kernel_rfl)) rfl ⟨rfl,jE _ _⟩
theorem KG(a b:Int)(ha:0≤a∧a≤1000000000)(ay:0≤b∧b≤1000000000)(r:Int)(hr:af (a+b=r))(w:aeo):Calls Tryz.prog 118 #[I a,I b] w fun e w'=>e=ab (I r)∧w'=w:=by rw[←hr.out];exact aaa a b ha ay w
theorem S'{v:aeo}{j:Nat}{u x:ada}{cs:ajv}{t:aai}(aJ:v.heap[k]?=some (.cells cs t (0,0)))(h:j≠i)(hx:ak v k j x):(v.setCell (aj k i) u).cell? ⟨k,j,none⟩=some x:=by refine cell_of (dL u aJ) ?_;rw[zp,aR (gJ h)];simpa[World.cell?,aJ] using hx
theorem uW.len{root:bc}:∀{f:Fr} {ts:List Fr},uW root (f::ts)→ts.length+f.all.count≤root.count
 |f,[],h=>by rw[show f.all=root from h];simp
 |f,g::ts,h=>by obtain⟨⟨a,b,r,e⟩,az⟩:=h;have aF:=uW.len az;have bk:f.all.count<g.all.count:=(by rw[show g.all=g.pre.append g.rest from rfl,bc.count_append,e,bc.count_cons];omega);simp only[eP];omega
theorem aam{g m:Nat}{e:aai}{xs:aev}(h:w.ownsRow B e bG (ag g 0 n c) m xs):m≤c:=by
 rcases h.2 with ⟨aS,_⟩|⟨k,cap,cur,ax,bL,aJ,av,_⟩
 ·cases aS
 ·injection ax with _ _ hc;rw[hc];exact av
abbrev aan:Value:=.agg #[J 0,I 0,I 0]
theorem alY:(Tryz.prog.info? 296).map (fun i=>(i.zero,i.size,i.bytes))=some (some aan,3,40):=by kernel_rfl
theorem alZ(S:afp)(s:bc)(k o c:Nat)(w:aeo)(b7:af (hM S w (some (aj k o)) s))(aA:0<s.len)(ay:s.count≤100000000):
  Calls Tryz.prog 119 #[ag k o s.len c] w fun e w'=>e=ab (I (s.count:Int))∧ao w w w':=by
 obtain⟨m,hm⟩:=ar s.len;obtain⟨N,h5⟩:=ar s.count;have bM:=aq hm;have bf:=aq h5;have n9:=b7.out.1;rw[h5] at ay;rw[hm] at aA n9;have Ta:m≤1000000000:=n9;rw[hm,h5];clear hm h5 n9;have nK:=@run_makeMap Tryz.prog;have s9:((m:Int)==0)=false:=by rw[uO];omega
 go_enter Tryz.func119,Tryz.ntmps119;go_wp2_with fail;with_reducible refine (OC k o m c ⟨aA,Ta⟩ _).mono ?_
 rintro e V ⟨rfl,Tb⟩;have xR:af (sa V w.heap.size []):=sa.below ⟨#[],0,cd w _,rfl⟩ Tb;have aO:af (ao w w V):=(jE _ _).trans (Tb.mono (by simp));clear Tb;obtain⟨cs,gm,_⟩:=b7.out.block (by rw[bM.out];exact aA);obtain⟨bV,OD,Ht,eI,rh⟩:=S5 xR.out (L:=[]) (fun x hx=>by simp at hx) (k,o,m) (ca:=cs) (aU gm aO.out) (-1);have kA:=aq Ht;have c6:af (ao w w bV):=aO.out.trans (eI.below _ aO.out.size fun k ax e=>by omega);clear Ht eI gm rh;go_upto_region 5 with fail
 have l2:af (oo S w w.heap.size s [⟨k,o,c,.nil,s⟩] false (om [] (k,o,m) (-1)) (ag bV.heap.size 0 1 1) (bV.alloc (ai (#[ad (some (aj k o)) m c,I 0,I 0]) wv))):=by
  have l7:(⟨k,o,c,.nil,s⟩:Fr).key=(k,o,m):=(by unfold Fr.key Fr.all;rw[←bM.out];rfl);have lE:(⟨k,o,c,.nil,s⟩:Fr).all=s:=rfl;have q4:uX S w [] []:=⟨fun k v h=>by simp[kp] at h,fun k v h=>by simp[kp] at h,fun x hx=>by simp at hx⟩;refine⟨c6.out.alloc c6.out.size _,?_,kA.out.below (a' _ _),?_,rfl,trivial,fun g ba=>?_,bx _,fun e=>by cases e⟩
  ·have h:=World.ownsRow_lit (base:=w.heap.size) (e:=wv) (size:=3) bV #[ag k o m c,I 0,I 0] 1 c6.out.size (by decide) rfl;have e:qa [⟨k,o,c,.nil,s⟩]=[ad (some (aj k o)) m c,I 0,I 0]:=(by simp[qa,EH,Fr.all,bc.append,bM.out,bc.len,bc.count]);rw[e];exact h
  ·have h:=q4.push (f:=⟨k,o,c,.nil,s⟩) b7.out (by rw[lE,bM.out];exact aA);rw[l7] at h;exact h
  ·obtain rfl:g=⟨k,o,c,.nil,s⟩:=(by simpa using ba);rw[lE,bM.out];exact⟨b7.out,aA,Ta⟩
 have AQ:af (iI false [⟨k,o,c,.nil,s⟩]≤rf s+1):=bx _;generalize bV.alloc (.cells #[ag k o m c,I 0,I 0] wv)=W at l2⊢;generalize bV.heap.size=G at l2⊢;clear c6 kA aO xR s9 OD
 go_loopg [4] (rf s+1) (fun gk sv wr=>∃(f:Fr) (ts:List Fr) (hd:Bool) (L:List (iq×Int)) (aK:aeo),aK=wr∧af (oo S w w.heap.size s (f::ts) hd L sv aK)∧af (iI hd (f::ts)≤gk))
 case atStart=>exact⟨_,_,_,_,_,rfl,l2.out,AQ.out⟩
 case round=>
 obtain⟨f,ts,hd,L,aK,rfl,bz,bq⟩:=hrel;obtain⟨n,hn⟩:=ar ts.length;have sb:=aq hn;have d':=bz.out.row;rw[show (f::ts).length=n+1 by simp[hn]] at d';obtain⟨g,cap,rfl⟩:=ownsRow_succ d';obtain⟨eD,a1,a6⟩:=KF (z0:=ad (some (aj f.k f.o)) f.all.len f.c) (z1:=I (f.pre.len:Int)) (z2:=I (f.pre.count:Int)) d' (by rw[Cy,hn]);have n5:∀j,aK.frozen? ⟨g,j,none⟩=false:=fun j=>d'.frozenAt j;obtain⟨aao,Tc,flb⟩:=bz.out.ps f (by simp);have OE:=aq aao;have fV:=bz.out.zu.aak;rw[bf.out] at fV;have Td:f.all.len=f.pre.len+f.rest.len:=bc.ue _ _;have aap:f.all.count=f.pre.count+f.rest.count:=bc.count_append _ _;obtain⟨al,OF⟩:=ar f.all.len;obtain⟨pl,nH⟩:=ar f.pre.len;obtain⟨ia,Te⟩:=ar f.pre.count;have Hx:=aq OF;have oS:=aq nH;have zw:=aq Te;rw[aap] at fV;rw[Te] at fV a6;rw[nH] at a1;rw[OF] at eD Tc flb;have uY:al=pl+f.rest.len:=by rw[←OF,←nH];exact Td
 obtain⟨cL,fv⟩:=ar (n+1);have fQ:=aq fv;have aw5:(cL:Int)≤1000000000:=by have av:=bz.out.zu.len;rw[hn,bf.out] at av;omega
 have KH:=aam d';have al0:(n:Int)≤(cap:Int):=by omega
 have al1:n≤cap:=by omega
 have al2:¬cap=0:=by omega
 have xW:(cL:Int)≤(cap:Int):=by omega
 rw[fv];have oY:ae ((cL:Int)-1)=(n:Int):=by rw[cX _ (by omega)];omega
 have dP:(n:Int)<(cL:Int):=by omega
 have dq:n<cL:=by omega
 clear d' Td aap OF nH Te fv hn aao KH;cases uZ:f.rest with
 |nil=>
  rw[uZ] at uY fV;have Cf:pl=al:=(by rw[uY];rfl);clear uY;subst Cf;go_upto_region 6 with fail
  go_quiet (fail)
  have oi:=aq (bz.out.below (jQ (Below.refl _ _) nq));clear eD a1 a6 n5 bz;generalize aK.drewN nq=aaq at oi⊢;have d':=oi.out.row;rw[show (f::ts).length=n+1 by simp[sb.out]] at d';obtain⟨eD,a1,a6⟩:=KF (z0:=ad (some (aj f.k f.o)) f.all.len f.c) (z1:=I (f.pre.len:Int)) (z2:=I (f.pre.count:Int)) d' (by rw[Cy,sb.out]);rw[zw.out] at a6;rw[Hx.out] at eD;clear d';go_wp2_with fail;with_reducible refine (OC f.k f.o pl f.c ⟨Tc,flb⟩ _).mono ?_
  rintro e lF ⟨rfl,dA⟩;have gn:=aq (oi.out.below dA);obtain⟨cs,gm,_⟩:=OE.out.block (by rw[Hx.out];exact Tc);obtain⟨dp,OD,AV,ob,AW⟩:=S5 gn.out.map (fun x hx=>by obtain⟨cs,aJ⟩:=gn.out.nv.h' x hx;exact⟨cs,aU aJ gn.out.aZ⟩) (f.k,f.o,pl) (ca:=cs) (aU gm gn.out.aZ) (ia:Int);have l7:(f.k,f.o,pl)=f.key:=(by unfold Fr.key;rw[Hx.out]);have KI:(ia:Int)=(f.all.count:Int):=(by unfold Fr.all;rw[uZ,bc.append_nil,zw.out]);rw[l7,KI] at AV;have uM:=aq AV;have ly:=aq ob;have ld:=aq KI;clear eD a1 a6 dA gm AV ob AW l7 KI oi;go_upto_region 10 with fail;cases ts with
  |nil=>
   have l4:n=0:=sb.out.symm;subst l4;have aP:af ((ia:Int)=(N:Int)):=(by show _=_;rw[ld.out,show f.all=s from gn.out.zu,bf.out]);go_wp2_with fail;go_ret;exact⟨pA aP.out,gn.out.aZ.trans (ly.out.below _ gn.out.aZ.size fun k ax e=>by omega)⟩
  |cons g2 ts=>
   have l4:((n:Int)==0)=false:=(by have:=sb.out;rw[eP] at this;rw[uO];omega);have iT:=aq (oo.pop gn.out sb.out ly.out uM.out);have eF:af (iI true (g2::ts)+1≤gk):=(by have aT:iI hd (f::g2::ts)≤gk:=bq.out;have av:1+(wt g2.rest+2+xV ts)≤iI hd (f::g2::ts):=(by have e:iI hd (f::g2::ts)=(if hd=true then wt f.rest+2 else rf f.rest+1)+(wt g2.rest+2+xV ts):=rfl;rw[e];split<;>omega);have az:iI true (g2::ts)=wt g2.rest+2+xV ts:=(by simp[iI]);show iI true (g2::ts)+1≤gk;rw[az];omega);go_wp2_with fail
   go_roundg (gk-1)<;>first
    |exact⟨g2,ts,true,_,_,rfl,iT.out,(by have h:iI true (g2::ts)+1≤gk:=eF.out;omega:iI true (g2::ts)≤gk-1)⟩
    |(have h:iI true (g2::ts)+1≤gk:=eF.out;omega)
 |cons a b sub r=>
  rw[uZ] at uY fV;rw[bc.count_cons] at fV;have b1:pl<al:=(by rw[uY];show pl<pl+(r.len+1);omega);have Ea:((pl:Int)==(al:Int))=false:=(by rw[uO];omega);have i':(pl:Int)<(al:Int):=(by omega);clear uY;have iF:hM S w (some (aj f.k f.o)) (f.pre.append (.cons a b sub r)):=(by rw[←uZ];exact OE.out);obtain⟨hz,lv,ql,dl,qp,cK,he,_,_,qA,_,_,_,_,_,_,_,_,_,_,cu⟩:=iF.part oS.out;have Hy:(⟨f.k,f.o,none⟩:Addr)=⟨hz,lv,none⟩:=EJ he;have J':f.k=hz:=fK Addr.block Hy;have xw:f.o=lv:=fK Addr.off Hy;subst J' xw;obtain⟨fE,oc⟩:=ar sub.len;have k9:=aq oc;rw[oc] at cu;have v7:=aq qA;have Tf:=aq cu;have EK:=aq fV;clear iF he Hy qA cu oc;go_upto_region 6 with fail
  go_quiet (fail)
  have oi:=aq (bz.out.below (jQ (Below.refl _ _) nq));clear eD a1 a6 n5 bz;generalize aK.drewN nq=aaq at oi⊢;have d':=oi.out.row;rw[show (f::ts).length=n+1 by simp[sb.out]] at d';obtain⟨eD,a1,a6⟩:=KF (z0:=ad (some (aj f.k f.o)) f.all.len f.c) (z1:=I (f.pre.len:Int)) (z2:=I (f.pre.count:Int)) d' (by rw[Cy,sb.out]);rw[zw.out] at a6;rw[oS.out] at a1;rw[Hx.out] at eD;clear d';have cu:=bP oi.out.aZ Tf.out;go_upto_region 12 with fail
  go_quiet (fail)
  have gn:=aq (oi.out.below (jQ (Below.refl _ _) nq));clear eD a1 a6 cu oi;generalize aaq.drewN nq=lF at gn⊢;clear nq;by_cases aT:fE=0
  ·subst aT
   have al3:sub=.nil:=by
    cases sub with
    |nil=>rfl
    |cons _ _ _ _=>exact absurd k9.out (by simp[bc.len])
   have aw6:sub.count=0:=(by rw[al3];rfl);have EL:af (0≤(0:Int)∧(0:Int)≤1000000000):=(by show _∧_;decide);have d':=gn.out.row;rw[show (f::ts).length=n+1 by simp[sb.out]] at d';obtain⟨eD,a1,a6⟩:=KF (z0:=ad (some (aj f.k f.o)) f.all.len f.c) (z1:=I (f.pre.len:Int)) (z2:=I (f.pre.count:Int)) d' (by rw[Cy,sb.out]);rw[zw.out] at a6;rw[oS.out] at a1;have n5:∀j,lF.frozen? ⟨g,j,none⟩=false:=fun j=>d'.frozenAt j;obtain⟨cur,gp⟩:=(wu d').2;obtain⟨bW,zx⟩:=ar (1+(0:Int));obtain⟨z1,xX⟩:∃z:Int,((f.pre.count+(sub.count+1):Nat):Int)=z:=⟨_,rfl⟩;obtain⟨z2,xY⟩:∃z:Int,((f.pre.len+1:Nat):Int)=z:=⟨_,rfl⟩;have gm:=EK.out;have Tg:=zw.out;have Th:=oS.out;have Ti:=EL.out;have KJ:0≤bW∧bW≤1000000000:=(by omega);have KK:0≤(ia:Int)∧(ia:Int)≤1000000000:=(by omega);have KL:(ia:Int)+bW=z1:=(by omega);have Hz:ae ((pl:Int)+1)=z2:=(by rw[cX _ (by omega)];omega);have xC:=aq zx;have Tj:=aq KJ;have Tk:=aq KK;have uN:=aq KL;have aL:∀u,(lF.setCell (aj g (n *3+2)) u).cell? ⟨g,n *3+1,none⟩=some (I (pl:Int)):=fun u=>S' gp (by omega) a1;have f1:∀u,(lF.setCell (aj g (n *3+2)) u).frozen? ⟨g,n *3+1,none⟩=false:=fun u=>cR (dL u gp) _;have EM:=oo.Oz gn.out sb.out uZ;rw[xX,xY] at EM;have Tl:=aq EM;have eF:af (iI false (⟨f.k,f.o,f.c,f.pre.append (.cons a b sub .nil),r⟩::ts)+1≤gk):=(by have aT:iI hd (f::ts)≤gk:=bq.out;have e:iI hd (f::ts)=(if hd=true then wt f.rest+2 else rf f.rest+1)+xV ts:=rfl;have a6:iI false (⟨f.k,f.o,f.c,f.pre.append (.cons a b sub .nil),r⟩::ts)=(rf r+1)+xV ts:=rfl;show iI false _+1≤gk;rw[a6];rw[e,uZ] at aT;simp only[wt,rf] at aT;split at aT<;>omega);clear d' gp zx xX xY gm Tg Th KJ KK KL EM Ti;go_upto_region 22 with fail
   go_region_with (first|(go_at_call 118;with_reducible refine (KG 1 (0) ⟨by decide,by decide⟩ EL.out bW xC _).mono ?_;rintro e bt ⟨rfl,rfl⟩)|(go_at_call 118;with_reducible refine (KG ia bW Tk.out Tj.out z1 uN _).mono ?_;rintro e bt ⟨rfl,rfl⟩)|fail)
   all_goals
    have aI:(lF.setCell (aj g (n *3+2)) (I z1)).drew.cell? ⟨g,n *3+1,none⟩=some (I (pl:Int)):=aL _;have f2:(lF.setCell (aj g (n *3+2)) (I z1)).drew.frozen? ⟨g,n *3+1,none⟩=false:=f1 _;have sc:af (oo S w w.heap.size s (⟨f.k,f.o,f.c,f.pre.append (.cons a b sub .nil),r⟩::ts) false L (ag g 0 (n+1) cap) ((lF.setCell (aj g (n *3+2)) (I z1)).drew.setCell (aj g (n *3+1)) (I z2))):=Tl.out.below (Below.refl _ _).drew;clear aL f1 eD a1 a6 n5;generalize (lF.setCell (aj g (n *3+2)) (I z1)).drew=al4 at aI f2 sc⊢;rw[fQ.out] at sc;go_wp2_with fail
    go_roundg (gk-1)<;>first
     |exact⟨_,ts,false,L,_,rfl,sc.out,(by have h:iI false (⟨f.k,f.o,f.c,f.pre.append (.cons a b sub .nil),r⟩::ts)+1≤gk:=eF.out;omega:iI false (⟨f.k,f.o,f.c,f.pre.append (.cons a b sub .nil),r⟩::ts)≤gk-1)⟩
     |(have h:iI false (⟨f.k,f.o,f.c,f.pre.append (.cons a b sub .nil),r⟩::ts)+1≤gk:=eF.out;omega)
  ·have OG:0<fE:=(by omega);have EN:(0:Int)<(fE:Int):=(by omega);have KM:fE≤1000000000:=(by rw[←k9.out];exact v7.out.p.1);have aH:=v7.out.p;obtain⟨a7,cO,wq,rfl,al5,nL,_⟩:=aH.2 (by show 0<sub.len;rw[k9.out];exact OG);have Kb:af (hM S w (some (aj a7 cO)) sub):=aH;have aar:=aq nL;have qb:decide ((fE:Int)> 0)=true:=e' EN;clear aH nL al5;go_wp2_with fail;with_reducible refine (OC a7 cO fE cK ⟨OG,KM⟩ _).mono ?_
   rintro e th ⟨rfl,eA⟩;have qC:=aq (gn.out.below eA);clear eA gn;have KN:=alU qC.out.map (fun x hx=>by obtain⟨cs,aJ⟩:=qC.out.nv.h' x hx;exact⟨cs,aU aJ qC.out.aZ⟩) (a7,cO,fE) (aU aar.out qC.out.aZ);obtain⟨al6,Tm⟩:=ar (kp L (a7,cO,fE));have aas:=aq Tm;rw[Tm] at KN;clear Tm;cases al6 with
   |some v=>
    have OH:v=(sub.count:Int):=(by have av:kp L (a7,cO,sub.len)=some v:=(by rw[k9.out];exact aas.out);refine qC.out.nv.found qC.out.zu (fun g ba=>(qC.out.ps g ba).1) Kb.out ?_ av;rw[show f.all=f.pre.append f.rest from rfl,bc.count_append,uZ,bc.count_cons];omega);have EL:af (0≤v∧v≤1000000000):=(by have:=EK.out;show _∧_;omega);have wx:=aq OH;have tx:(v== -1)=false:=(by rw[uO];omega);have aat:(Instr.lookup Ow (.map (some w.heap.size)) (lJ (a7,cO,fE)) true).run Tryz.prog th=.ok (.tuple #[I v,U true]) th:=KN;clear KN OH;have d':=qC.out.row;rw[show (f::ts).length=n+1 by simp[sb.out]] at d';obtain⟨eD,a1,a6⟩:=KF (z0:=ad (some (aj f.k f.o)) f.all.len f.c) (z1:=I (f.pre.len:Int)) (z2:=I (f.pre.count:Int)) d' (by rw[Cy,sb.out]);rw[zw.out] at a6;rw[oS.out] at a1;have n5:∀j,th.frozen? ⟨g,j,none⟩=false:=fun j=>d'.frozenAt j;obtain⟨cur,gp⟩:=(wu d').2;obtain⟨bW,zx⟩:=ar (1+(v:Int));obtain⟨z1,xX⟩:∃z:Int,((f.pre.count+(sub.count+1):Nat):Int)=z:=⟨_,rfl⟩;obtain⟨z2,xY⟩:∃z:Int,((f.pre.len+1:Nat):Int)=z:=⟨_,rfl⟩;have gm:=EK.out;have Tg:=zw.out;have Th:=oS.out;have Ti:=EL.out;have OH:=wx.out;have KJ:0≤bW∧bW≤1000000000:=(by omega);have KK:0≤(ia:Int)∧(ia:Int)≤1000000000:=(by omega);have KL:(ia:Int)+bW=z1:=(by omega);have Hz:ae ((pl:Int)+1)=z2:=(by rw[cX _ (by omega)];omega);have xC:=aq zx;have Tj:=aq KJ;have Tk:=aq KK;have uN:=aq KL;have aL:∀u,(th.setCell (aj g (n *3+2)) u).cell? ⟨g,n *3+1,none⟩=some (I (pl:Int)):=fun u=>S' gp (by omega) a1;have f1:∀u,(th.setCell (aj g (n *3+2)) u).frozen? ⟨g,n *3+1,none⟩=false:=fun u=>cR (dL u gp) _;have EM:=oo.Oz qC.out sb.out uZ;rw[xX,xY] at EM;have Tl:=aq EM;have eF:af (iI false (⟨f.k,f.o,f.c,f.pre.append (.cons a b sub .nil),r⟩::ts)+1≤gk):=(by have aT:iI hd (f::ts)≤gk:=bq.out;have e:iI hd (f::ts)=(if hd=true then wt f.rest+2 else rf f.rest+1)+xV ts:=rfl;have a6:iI false (⟨f.k,f.o,f.c,f.pre.append (.cons a b sub .nil),r⟩::ts)=(rf r+1)+xV ts:=rfl;show iI false _+1≤gk;rw[a6];rw[e,uZ] at aT;simp only[wt,rf] at aT;split at aT<;>omega);clear d' gp zx xX xY gm Tg Th KJ KK KL EM Ti OH;go_upto_region 22 with fail
    go_region_with (first|(go_at_call 118;with_reducible refine (KG 1 (v) ⟨by decide,by decide⟩ EL.out bW xC _).mono ?_;rintro e bt ⟨rfl,rfl⟩)|(go_at_call 118;with_reducible refine (KG ia bW Tk.out Tj.out z1 uN _).mono ?_;rintro e bt ⟨rfl,rfl⟩)|fail)
    all_goals
     have aI:(th.setCell (aj g (n *3+2)) (I z1)).drew.cell? ⟨g,n *3+1,none⟩=some (I (pl:Int)):=aL _;have f2:(th.setCell (aj g (n *3+2)) (I z1)).drew.frozen? ⟨g,n *3+1,none⟩=false:=f1 _;have sc:af (oo S w w.heap.size s (⟨f.k,f.o,f.c,f.pre.append (.cons a b sub .nil),r⟩::ts) false L (ag g 0 (n+1) cap) ((th.setCell (aj g (n *3+2)) (I z1)).drew.setCell (aj g (n *3+1)) (I z2))):=Tl.out.below (Below.refl _ _).drew;clear aL f1 eD a1 a6 n5;generalize (th.setCell (aj g (n *3+2)) (I z1)).drew=al4 at aI f2 sc⊢;rw[fQ.out] at sc;go_wp2_with fail
     go_roundg (gk-1)<;>first
      |exact⟨_,ts,false,L,_,rfl,sc.out,(by have h:iI false (⟨f.k,f.o,f.c,f.pre.append (.cons a b sub .nil),r⟩::ts)+1≤gk:=eF.out;omega:iI false (⟨f.k,f.o,f.c,f.pre.append (.cons a b sub .nil),r⟩::ts)≤gk-1)⟩
      |(have h:iI false (⟨f.k,f.o,f.c,f.pre.append (.cons a b sub .nil),r⟩::ts)+1≤gk:=eF.out;omega)
   |none=>
    have aat:(Instr.lookup Ow (.map (some w.heap.size)) (lJ (a7,cO,fE)) true).run Tryz.prog th=.ok (.tuple #[I 0,U false]) th:=KN;clear KN
    have al7:af (hd=false):=by
     show hd=false;cases hd with
     |false=>rfl
     |true=>
      exfalso;obtain⟨f',us,hq,bg,aw7,fP,tv,uq,c',e,a6,_,ch,gw⟩:=qC.out.ax rfl;injection e with na js;subst na;rw[uZ] at a6;injection a6 with _ _ tk _;subst tk;have lf:=Tf.out;rw[oS.out,lf] at ch;injection ch with ch;injection ch with jU _ _;injection jU with jU;injection jU with tl S1;subst tl S1;apply gw;rw[k9.out];exact aas.out
    go_upto_region 18 with fail;go_wp2_with fail;with_reducible refine (OC a7 cO fE cK ⟨OG,KM⟩ _).mono ?_
    rintro e Oc ⟨rfl,iU⟩;have iT:=aq (qC.out.below iU);clear iU qC aat;obtain⟨dp,OD,AV,ob,AW⟩:=S5 iT.out.map (fun x hx=>by obtain⟨cs,aJ⟩:=iT.out.nv.h' x hx;exact⟨cs,aU aJ iT.out.aZ⟩) (a7,cO,fE) (ca:=wq) (aU aar.out iT.out.aZ) (-1);have uM:=aq AV;have dk:af (ao w w dp):=iT.out.aZ.trans (ob.below _ iT.out.aZ.size fun k ax e=>by omega);have Tn:af (dp.ownsRow w.heap.size wv 3 (ag g 0 (n+1) cap) (n+1) (qa (f::ts))):=(by have h:=iT.out.row;rw[show (f::ts).length=n+1 by simp[sb.out]] at h;exact S7 h ob fun k a6 ch=>S8 iT.out.map h (ch ▸ a6));rw[fQ.out] at Tn;clear AV ob AW;obtain⟨i0,hi,dE,xX,xY⟩:=info_parts alY;have bZ:=aq (And.intro hi (And.intro dE (And.intro xX xY)));clear hi dE xX xY;have jg:af ((dp.alloc (ai (#[ad (some (aj a7 cO)) fE cK,I 0,I 0]) wv)).ownsRow w.heap.size wv 3 (ag g 0 cL cap) cL (qa (f::ts))):=Tn.out.alloc _;have aw8:=dk.out.size;go_wp2_with (at_builtin;refine zm _ rfl _ _ _ rfl w.heap.size wv i0 aan 3 40 Tryz.underlying297 bZ.out.1 bZ.out.2.1 bZ.out.2.2.1 bZ.out.2.2.2 rfl (by omega) (ag g 0 cL cap) cL _ (by rfl) jg.out (aj dp.heap.size 0) 1 1 [ag a7 cO fE cK,I 0,I 0] (by rfl) (by rfl) (kc (cs:= #[ad (some (aj a7 cO)) fE cK,I 0,I 0]) (t:=wv) (fr:=(0,0)) (ga dp _)) (by simp[Value.oneCell']) (by omega) (by unfold maxLen;omega) (by omega) (by simp;omega) (dp.heap.size+1) (by simp) ?_;intro dh hg bt cI dO eJ hV);have KO:w.heap.size≤g:=(wu Tn.out).1;have S9:w.heap.size≠g:=(fun e=>by have h:=S8 iT.out.map iT.out.row;rw[←fQ.out] at cI;exact h (by rw[e];rfl));have To:aQ (fun b=>b≠g) (dp.alloc (ai (#[ad (some (aj a7 cO)) fE cK,I 0,I 0]) wv)) bt:=aQ.grown dO fun b e h=>h (by simpa[Value.ownBlock] using e.symm)
    have sc:af (oo S w w.heap.size s (⟨a7,cO,cK,.nil,sub⟩::f::ts) false (om L (a7,cO,fE) (-1)) (ag dh 0 (cL+1) hg) bt):=by
     have l7:(⟨a7,cO,cK,.nil,sub⟩:Fr).key=(a7,cO,fE):=(by unfold Fr.key Fr.all;rw[←k9.out];rfl);have h:=oo.push (f':=⟨a7,cO,cK,.nil,sub⟩) (sv':=ad (some (aj dh 0)) (cL+1) hg) (w':=bt) iT.out (a:=a) (b:=b) (r:=r) uZ rfl ?_ Kb.out ⟨?_,?_⟩ ?_ ?_ ?_
     ·rw[l7] at h;exact h
     ·rw[oS.out,show (⟨a7,cO,cK,.nil,sub⟩:Fr).all.len=fE from k9.out];exact Tf.out
     ·rw[show (⟨a7,cO,cK,.nil,sub⟩:Fr).all.len=fE from k9.out];exact OG
     ·rw[show (⟨a7,cO,cK,.nil,sub⟩:Fr).all.len=fE from k9.out];exact KM
     ·exact (dk.out.alloc dk.out.size _).trans (To.below _ (dk.out.alloc dk.out.size _).size fun b ay e=>by omega)
     ·have e:qa (⟨a7,cO,cK,.nil,sub⟩::f::ts)=qa (f::ts)++[ad (some (aj a7 cO)) fE cK,I 0,I 0]:=(by show qa (f::ts)++EH _=_;unfold EH;rw[show (⟨a7,cO,cK,.nil,sub⟩:Fr).all.len=fE from k9.out];rfl);rw[e,show (⟨a7,cO,cK,.nil,sub⟩::f::ts:List Fr).length=cL+1 by simp[sb.out,fQ.out]];exact cI
     ·rw[l7];exact (uM.out.below (a' _ _)).keep To S9
    have eF:af (iI false (⟨a7,cO,cK,.nil,sub⟩::f::ts)+1≤gk):=(by have aT:iI hd (f::ts)≤gk:=bq.out;have aJ:hd=false:=al7.out;subst aJ;have e:iI false (f::ts)=rf f.rest+1+xV ts:=rfl;have a6:iI false (⟨a7,cO,cK,.nil,sub⟩::f::ts)=(rf sub+1)+(wt f.rest+2+xV ts):=rfl;show iI false (⟨a7,cO,cK,.nil,sub⟩::f::ts)+1≤gk;rw[a6,uZ];rw[e,uZ] at aT;simp only[wt,rf] at aT⊢;omega);clear cI dO eJ hV To
    go_roundg (gk-1)<;>first
     |exact⟨_,_,false,_,_,rfl,sc.out,(by have h:iI false (⟨a7,cO,cK,.nil,sub⟩::f::ts)+1≤gk:=eF.out;omega:iI false (⟨a7,cO,cK,.nil,sub⟩::f::ts)≤gk-1)⟩
     |(have h:iI false (⟨a7,cO,cK,.nil,sub⟩::f::ts)+1≤gk:=eF.out;omega)
theorem HA(S:afp)(b:cJ)(s:bc)(hs:s.count≤100000000)(pl:Ja)(n cl:Nat)(pp:Ja)(cp:Nat)(w:aeo)(b7:af (hM S w pp s)):
  Calls Tryz.prog 79 #[.agg #[I b.k,I b.a.1,I b.a.2,I b.b.1,I b.b.2,I b.c.1,I b.c.2,I b.r,ad pl n cl,ad pp s.len cp]] w fun e w'=>e=ab (I ((s.count+1:Nat):Int))∧ao w w w':=by
 rcases Gs s.len with aT|aT
 ·have:s=.nil:=by
   cases s with
   |nil=>rfl
   |cons _ _ _ _=>simp[bc.len] at aT
  subst this;exact alG _ _ _ _ _ _ _ _ pl n cl pp cp w
 ·obtain⟨k,o,cs,rfl,_,_,_⟩:=b7.out.2 aT;have bz:=aq (fun (Z:aeo) (eG:ao w w Z)=>alZ S s k o cp Z (aq (b7.out.below eG)) aT hs);obtain⟨m,hm⟩:=ar s.len;obtain⟨N,h5⟩:=ar s.count;obtain⟨z,bn⟩:∃z:Int,((N+1:Nat):Int)=z:=⟨_,rfl⟩;rw[h5] at hs;rw[hm,h5] at bz;rw[hm,h5,bn];have bN:=aq (KG 1 N ⟨by decide,by decide⟩ ⟨by omega,by omega⟩ z (show _=_ by omega));clear hm h5 bn;go_enter Tryz.func79,Tryz.ntmps79;go_wp2_with fail;with_reducible refine (bz.out _ (jE _ _)).mono ?_
  rintro e V ⟨rfl,ay⟩;have aO:af (ao w w V):=(jE _ _).trans (ay.mono (jE _ _).size);clear ay;go_wp2_with fail;with_reducible refine (bN.out _).mono ?_
  rintro e lF ⟨rfl,rfl⟩;go_wp2_with fail;go_ret;exact⟨rfl,aO.out⟩
def KP:bc→Prop
 |.nil=>True
 |.cons _ b s r=>(∀c∈b.l,0<c.length)∧KP s∧KP r
def Full(s:dK):Prop:=(∀c∈s.b.l,0<c.length)∧KP s.p
structure l' where
 B:Nat
 o:Nat
 b:cJ
 s:bc
def HB(S:afp)(w0 x:aeo)(d:l'):Prop:=∃cs t pl cl pp cp,x.heap[d.B]?=some (.cells cs t (0,0))∧(t=dz∨t=eQ)∧(cs.toList.drop d.o).take 10=ke d.b (ad pl d.b.l.length cl) (ad pp d.s.len cp)∧dv S w0 pl cl pp cp ⟨d.b,d.s⟩
def OI(R:afp)(x:aeo)(d:l'):Prop:=∃cs t pl cl pp cp,x.heap[d.B]?=some (.cells cs t (0,0))∧(cs.toList.drop d.o).take 10=ke d.b (ad pl d.b.l.length cl) (ad pp d.s.len cp)∧dv R x pl cl pp cp ⟨d.b,d.s⟩
def OJ(d e:l'):Prop:=d.B≠e.B∨d.o+10≤e.o∨e.o+10≤d.o
def OK(ps:List l')(k i:Nat):Prop:=∃d∈ps,d.B=k∧(i=d.o+8∨i=d.o+9)
abbrev o3:TypeId:=187
structure ir(ps:List l')(x y:aeo):Prop where
 size:x.heap.size≤y.heap.size
 cells:∀k cs t,x.heap[k]?=some (.cells cs t (0,0))→t≠o3→∃kz,y.heap[k]?=some (.cells kz t (0,0))∧kz.size=cs.size∧∀i,¬OK ps k i→kz[i]?=cs[i]?
theorem ir.refl(ps:List l')(x:aeo):ir ps x x:=⟨bx _,fun k cs t h _=>⟨cs,h,rfl,fun _ _=>rfl⟩⟩
theorem ir.trans{ps ep:List l'}{x y z:aeo}(h:ir ps x y)(g:ir ep y z)(aH:∀k i,k<x.heap.size→OK ep k i→OK ps k i):ir ps x z where
 size:=dB h.size g.size
 cells:=fun k cs t aJ bB=>by have aA:=lt_of_heap aJ;obtain⟨S2,av,az,aF⟩:=h.cells k cs t aJ bB;obtain⟨wq,g1,g2,g3⟩:=g.cells k S2 t av bB;exact⟨wq,g1,g2.trans az,fun i hi=>(g3 i fun OL=>hi (aH k i aA OL)).trans (aF i hi)⟩
variable{ps:List l'}
theorem ir.al8{T:afp}(h:aQ (fun k=>¬T k) x y)(eS:∀k cs t,T k→x.heap[k]?=some (.cells cs t (0,0))→t=o3):ir ps x y:=⟨h.size,fun k cs t aJ bB=>⟨cs,h.get (fun ax=>bB (eS k cs t ax aJ)) aJ,rfl,fun _ _=>rfl⟩⟩
theorem ir.dI(h:ao x x y):ir ps x y:=⟨h.size,fun k cs t aJ _=>⟨cs,aU aJ h,rfl,fun _ _=>rfl⟩⟩
theorem ir.set(u:ada)(h:OK ps k i):ir ps x (x.setCell (aj k i) u) where
 size:=by simp[World.setCell]
 cells:=fun tv cs t aJ _=>by
  by_cases e:tv=k
  ·subst e;refine⟨cs.setIfInBounds i u,dL u aJ,by simp,fun j cr=>?_⟩;rw[zp,aR];rintro rfl;exact cr h
  ·exact⟨cs,(mw e).trans aJ,rfl,fun _ _=>rfl⟩
theorem ir.get(h:ir ps x y){cs:ajv}{t:aai}(aJ:x.heap[k]?=some (.cells cs t (0,0)))(bB:t≠o3)(hn:∀d∈ps,d.B≠k):y.heap[k]?=some (.cells cs t (0,0)):=by
 obtain⟨kz,av,az,aF⟩:=h.cells k cs t aJ bB;have e:kz=cs:=by apply N3;intro i;exact aF i fun⟨d,hd,e,_⟩=>hn d hd e
 rw[av,e]
theorem h6.fr{R:afp}{p:Ja}{l:List bK}(h:h6 R x p l)(hf:ir ps x y)(hn:∀k,R k→∀d∈ps,d.B≠k):h6 R y p l:=by refine⟨h.1,fun aA=>?_⟩;obtain⟨b,o,cs,rfl,bL,aJ,hc⟩:=h.2 aA;exact⟨b,o,cs,rfl,bL,hf.get aJ (by decide) (hn b bL),hc⟩
theorem iC.fr{R:afp}{ps:List l'}{x y:aeo}{p:Ja}{l:List (List bK)}(h:iC R x p l)(hf:ir ps x y)(hn:∀k,R k→∀d∈ps,d.B≠k):iC R y p l:=by refine⟨h.1,fun aA=>?_⟩;obtain⟨b,o,cs,rfl,bL,aJ,hc⟩:=h.2 aA;refine⟨b,o,cs,rfl,bL,hf.get aJ (by decide) (hn b bL),fun i hi=>?_⟩;obtain⟨q,c,aH,qV,bl⟩:=hc i hi;exact⟨q,c,aH,qV,bl.fr hf hn⟩
def kids(N:Nat):Nat→bc→List l'
 |_,.nil=>[]
 |m,.cons _ b s r=>⟨N,m+1,b,s⟩::kids N (m+11) r
theorem KQ(N:Nat):∀(s:bc) (m:Nat),(kids N m s).length=s.len
 |.nil,_=>rfl
 |.cons _ _ _ r,m=>by simp[kids,bc.len,KQ N r]
theorem OM{N:Nat}:∀{s:bc} {m:Nat} {d:l'},d∈kids N m s→d.B=N∧m+1≤d.o∧d.o+10≤m+s.len *11
 |.nil,m,d,h=>by simp[kids] at h
 |.cons a b s r,m,d,h=>by
  rcases List.mem_cons.1 h with rfl|h
  ·refine⟨rfl,bx _,?_⟩;show m+1+10≤m+(r.len+1) *11;omega
  ·obtain⟨av,az,aF⟩:=OM h;refine⟨av,by omega,?_⟩;show d.o+10≤m+(r.len+1) *11;omega
theorem aau(N:Nat):∀(s:bc) (m:Nat),(kids N m s).Pairwise OJ
 |.nil,_=>List.Pairwise.nil
 |.cons a b s r,m=>by refine List.Pairwise.cons (fun d hd=>?_) (aau N r (m+11));obtain⟨av,az,aF⟩:=OM hd;exact .inr (.inl (by show m+1+10≤d.o;omega))
theorem al9(l:aev)(m:Nat)(v:ada)(h:l[m]?=some v)(k:Nat):(l.drop m).take (k+1)=v::(l.drop (m+1)).take k:=by obtain⟨aA,rfl⟩:=List.getElem?_eq_some_iff.1 h;rw[lT aA,List.take_succ_cons]
theorem aav{S:afp}{w0 x:aeo}{N:Nat}{cs:ajv}(aJ:x.heap[N]?=some (.cells cs eQ (0,0))):∀{s:bc} {m:Nat},ds S w0 s (cs.toList.drop m)→∀d∈kids N m s,HB S w0 x d
 |.nil,m,h,d,hd=>by simp[kids] at hd
 |.cons a b s r,m,h,d,hd=>by
  rcases List.mem_cons.1 hd with rfl|hd
  ·obtain⟨pl,cl,pp,cp,av,hs⟩:=h.head;refine⟨cs,eQ,pl,cl,pp,cp,aJ,.inr rfl,?_,hs⟩;show (cs.toList.drop (m+1)).take 10=_;have az:=fK (List.drop 1) av;rw[N4,xA] at az;exact az
  ·refine aav aJ (m:=m+11) ?_ d hd;have:=h.tail
   rwa [xA] at this
theorem aaw{R:afp}{x:aeo}{N:Nat}{cs kz:ajv}{S:afp}{w0:aeo}(aJ:x.heap[N]?=some (.cells kz eQ (0,0))):∀{s:bc} {m:Nat},ds S w0 s (cs.toList.drop m)→(∀i,i%11=m%11→m≤i→i<m+s.len *11→kz[i]?=cs[i]?)→(∀d∈kids N m s,OI R x d)→ds R x s (kz.toList.drop m)
 |.nil,m,h,hc,hd=>trivial
 |.cons a b s r,m,h,hc,hd=>by
  obtain⟨qZ,aw9,axa,aax,av,_⟩:=h.head;obtain⟨wq,t,pl,cl,pp,cp,a1,a6,hs⟩:=hd ⟨N,m+1,b,s⟩ (by simp[kids]);have ON:x.heap[N]?=some (.cells wq t (0,0)):=a1;rw[aJ] at ON;injection ON with ON;injection ON with ch _;subst ch;have hm:kz[m]?=some (U a):=(by rw[hc m rfl (bx _) (by show m<m+(r.len+1) *11;omega)];have aF:=fK (fun l:List Value=>l[0]?) av;simp only[s6,Av,List.getElem?_cons_zero] at aF;simpa using aF);refine ds.mk (pl:=pl) (cl:=cl) (pp:=pp) (cp:=cp) ?_ hs ?_
  ·rw[al9 kz.toList m (U a) (by simpa using hm) 10];exact fK _ a6
  ·rw[xA];refine aaw aJ (cs:=cs) (m:=m+11) (S:=S) (w0:=w0) ?_ (fun i bk b9 cW=>hc i (by omega) (by omega) (by show i<m+(r.len+1) *11;omega)) (fun d gL=>hd d (by simp[kids,gL]));have:=h.tail
   rwa [xA] at this
theorem aay{N:Nat}:∀{s:bc} {m:Nat},KP s→∀d∈kids N m s,Full ⟨d.b,d.s⟩
 |.nil,m,h,d,hd=>by simp[kids] at hd
 |.cons a b s r,m,h,d,hd=>by
  rcases List.mem_cons.1 hd with rfl|hd
  ·exact⟨h.1,h.2.1⟩
  ·exact aay h.2.2 d hd
abbrev qH:Obj:=.cells #[I 0,I 0,I 0,I 0,I 0,I 0,I 0,I 0,J 0,J 0] dz
abbrev sd(d:l'):Value:=.pointer (some (aj d.B d.o))
structure xZ(S:afp)(w0:aeo)(root:l')(ps:List l')(sv:ada)(x:aeo):Prop where
 aZ:ao w0 w0 x
 row:x.ownsRow w0.heap.size o3 1 sv ps.length (ps.map sd)
 at_:∀d∈ps,HB S w0 x d
 low:∀d∈ps,w0.heap.size≤d.B∧d.B≠w0.heap.size+1
 full:∀d∈ps,Full ⟨d.b,d.s⟩
 ap:ps.Pairwise OJ
 res:x.heap[w0.heap.size+1]?=some qH
 aaz:∀HC,ir ps x HC→(∀d∈ps,OI (fun k=>w0.heap.size≤k∧k≠w0.heap.size+1) HC d)→OI (fun k=>w0.heap.size≤k∧k≠w0.heap.size+1) HC root
theorem aaA{cs kz:ajv}{o:Nat}(h:∀i,o≤i→i<o+10→kz[i]?=cs[i]?):(kz.toList.drop o).take 10=(cs.toList.drop o).take 10:=by
 apply Hc;intro n;simp only[s6,Av];by_cases hn:n<10
 ·rw[a8 hn,a8 hn];simpa using h (o+n) (by omega) (by omega)
 ·rw[aR hn,aR hn]
variable{root:l'}
theorem xZ.next{d:l'}{sv sv':ada}{ql pn:Ja}{dl N cn:Nat}{Tp csN:ajv}{EO:aai}{R1:afp}(h:xZ S w0 root (ps++[d]) sv x)(ama:ir (ps++[d]) x y)(ay:ao w0 w0 y)(d':y.ownsRow w0.heap.size o3 1 sv' (ps++kids N 0 d.s).length ((ps++kids N 0 d.s).map sd))
  (eJ:∀e∈ps,HB S w0 y e) (dQ:y.heap[w0.heap.size+1]?=some qH) (hd:y.heap[d.B]?=some (.cells Tp EO (0,0))) (OO:EO≠o3) (gL:(Tp.toList.drop d.o).take 10=ke d.b (ad ql d.b.l.length dl) (ad pn d.s.len cn))
  (hc:iC R1 y ql d.b.l) (qD:∀k,R1 k→(w0.heap.size≤k∧k≠w0.heap.size+1)∧k≠N∧∀e∈ps,e.B≠k) (AX:d.b.l.length≤dl) (KI:d.s.len≤cn) (KM:d.s.len≤mo) (axb:x.heap.size≤N)
  (h5:0<d.s.len→pn=some ⟨N,0,none⟩∧y.heap[N]?=some (.cells csN eQ (0,0))∧ds S w0 d.s csN.toList):xZ S w0 root (ps++kids N 0 d.s) sv' y:=by
 have pH:=lt_of_heap h.res;have b1:∀e∈ps++[d],e.B<x.heap.size:=fun e he=>by obtain⟨cs,t,_,_,_,_,av,_⟩:=h.at_ e he;exact lt_of_heap av
 have KR:∀e∈kids N 0 d.s,e.B=N:=fun e he=>(OM he).1;have OP:=h.full d (by simp);have Cf:=List.pairwise_append.1 h.ap;refine⟨ay,d',fun e he=>?_,fun e he=>?_,fun e he=>?_,?_,dQ,fun HC G1 zl=>?_⟩
 ·rcases List.mem_append.1 he with he|he
  ·exact eJ e he
  ·rcases Gs d.s.len with aT|aT
   ·have:(kids N 0 d.s).length=0:=(by rw[KQ,aT]);rw[rQ this] at he;simp at he
   ·obtain⟨_,az,aF⟩:=h5 aT;exact aav az (m:=0) aF e he
 ·rcases List.mem_append.1 he with he|he
  ·exact h.low e (by simp[he])
  ·rw[KR e he];have:=h.aZ.size;omega
 ·rcases List.mem_append.1 he with he|he
  ·exact h.full e (by simp[he])
  ·exact aay OP.2 e he
 ·refine List.pairwise_append.2 ⟨Cf.1,aau N d.s 0,fun e he f hf=>.inl ?_⟩;rw[KR f hf];have:=b1 e (by simp[he]);omega
 ·have amb:∀k,R1 k→∀e∈ps++kids N 0 d.s,e.B≠k:=fun k ax e he=>by
   obtain⟨_,az,aF⟩:=qD k ax;rcases List.mem_append.1 he with he|he
   ·exact aF e he
   ·rw[KR e he];exact gJ az
  refine h.aaz HC (ama.trans G1 fun k i ax ⟨e,he,a1,a6⟩=>?_) fun e he=>?_
  ·rcases List.mem_append.1 he with he|he
   ·exact⟨e,by simp[he],a1,a6⟩
   ·rw[KR e he] at a1;omega
  ·rcases List.mem_append.1 he with he|he
   ·exact zl e (by simp[he])
   ·obtain rfl:e=d:=(by simpa using he);obtain⟨kz,g1,g2,g3⟩:=G1.cells e.B Tp EO hd OO;refine⟨kz,EO,ql,dl,pn,cn,g1,(aaA fun i av az=>g3 i fun⟨f,hf,f1,f2⟩=>?_).trans gL,⟨(hc.fr G1 amb).mono fun k _ ax=>(qD k ax).1,⟨KM,fun aT=>?_⟩,AX,KI⟩⟩
    ·rcases List.mem_append.1 hf with hf|hf
     ·rcases Cf.2.2 f hf e (by simp) with b9|b9|b9
      ·exact b9 f1
      ·rcases f2 with rfl|rfl<;>omega
      ·rcases f2 with rfl|rfl<;>omega
     ·rw[KR f hf] at f1;have:=b1 e (by simp);omega
    ·obtain⟨dy,eU,n3⟩:=h5 aT;obtain⟨wq,bU,a7,il⟩:=G1.cells N csN eQ eU (by decide);refine⟨N,0,wq,dy,?_,bU,?_⟩
     ·have:=h.aZ.size;show w0.heap.size≤N∧N≠w0.heap.size+1;omega
     ·refine aaw bU (cs:=csN) (m:=0) (S:=S) (w0:=w0) n3 (fun i av az bk=>il i fun⟨f,hf,f1,f2⟩=>?_) fun f hf=>zl f (by simp[hf]);rcases List.mem_append.1 hf with hf|hf
      ·have:=b1 f (by simp[hf]);omega
      ·obtain⟨_,cj,eb⟩:=OM hf
       have hm:∀{s:bc} {m:Nat},f∈kids N m s→f.o%11=(m+1)%11:=by
        intro s
        induction s with
        |nil=>intro m hf;simp[kids] at hf
        |cons a b s r _ cT=>
         intro m hf;rcases List.mem_cons.1 hf with rfl|hf
         ·rfl
         ·rw[cT hf];omega
       have:=hm hf;rcases f2 with rfl|rfl<;>omega
theorem xZ.fin{sv:ada}(h:xZ S w0 root [] sv x):OI (fun k=>w0.heap.size≤k∧k≠w0.heap.size+1) x root:=h.aaz x (ir.refl _ _) fun d hd=>by simp at hd
end c4
