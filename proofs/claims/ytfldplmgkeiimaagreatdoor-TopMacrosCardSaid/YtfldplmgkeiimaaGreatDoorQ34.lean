/- Lemmas. -/
import Derived.Test.YtfldplmgkeiimaaGreatDoorQ33
set_option linter.all false
set_option maxRecDepth 100000
set_option maxHeartbeats 12800000
namespace Go.Proofs.YtfldplmgkeiimaaGreatDoor
abbrev F4:=@Proofs.Tryz.func58
abbrev F5:=@Proofs.Tryz.ntmps58
namespace c4
open Go.RowKit dH VV
open bS (C j7)
theorem atc(b q:Nat)(lP:q≠b)(S:Ua)(bu:Int)(eC:w5 S bu)(aB:List dx)(i f:Nat)(dQ:mQ S.data.toList bu=(aB,i,f))(w:aeo)(aH:an w q (#[.pointer (some (aj b 0))]) 59)(ay:an w b (ru S bu 0 0 0 0 (J 0) 0 0) qR):
  Calls Tryz.prog 47 #[ah b 2,.func (.func 48) #[] #[ah q 0]] w fun e w'=>e=ab (.tuple #[])∧∃fD d,an w' b (ru S bu 1 0 0 1 (ad fD aB.length d) i f) qR∧h9 (fun k=>w.heap.size≤k) w' fD aB∧aQ (fun k=>k≠b) w w':=by
 have as8:∀(x:Bool) (w:aeo),(Op.unary .not (U x)).run Tryz.prog w=.ok (U (!x)) w:=fun _ _=>rfl;have oc:=as7 b q lP S bu eC aB i f dQ w aH ay;have aI:=cell_of (i:=2) ay rfl;go_enter Tryz.func47,Tryz.ntmps47;go_wp2_with (go_at_call 74;refine (afh (aj b 2) 0 false rfl _ aI).mono ?_;rintro e w' ⟨rfl,rfl⟩);go_wp2_with (go_at_call 75;refine oc.mono ?_;rintro e cZ ⟨rfl,cW⟩);go_end0;exact⟨rfl,cW⟩
structure VZ(q b:Nat)(S:Ua)(bu:Int)(ov:ada)(i e:Int)(x:aeo):Prop where
 aH:an x q (#[.pointer (some (aj b 0))]) 59
 ay:an x b (ru S bu 1 0 0 1 ov i e) qR
abbrev QB(q b:Nat)(S:Ua)(bu:Int)(ov:ada)(i e:Int)(x:aeo):Prop:=
 x.cell? ⟨q,0,none⟩=some (.pointer (some (aj b 0)))∧ak x b 6 ov∧ak x b 7 (I i)∧ak x b 8 (I e)∧VZ q b S bu ov i e x
variable{b bu a d:Int}
theorem V0{q b:Nat}{S:Ua}{ov:ada}{i e:Int}{x:aeo}(h:VZ q b S bu ov i e x):QB q b S bu ov i e x:=⟨cell_of h.aH rfl,cell_of h.ay rfl,cell_of h.ay rfl,cell_of h.ay rfl,h⟩
theorem afj{q b:Nat}{S:Ua}{ov:ada}{i e:Int}{x y:aeo}(ay:ao x x y)(h:QB q b S bu ov i e x):QB q b S bu ov i e y:=V0 ⟨aU h.2.2.2.2.aH ay,aU h.2.2.2.2.ay ay⟩
theorem atd(b:Nat)(S:Ua)(bu:Int)(eC:w5 S bu)(aB:List dx)(nH:∀o∈aB,Plain o.2)(i f:Nat)(dQ:mQ S.data.toList bu=(aB,i,f))(w:aeo)(ay:an w b (ru S bu 0 0 0 0 (J 0) 0 0) qR):
  Calls Tryz.prog 26 #[ah b 0] w fun e w'=>∃fD d,e=ab (.tuple #[ad fD aB.length d,I (i:Int),I (f:Int)])∧h9 (fun k=>w.heap.size≤k) w' fD aB∧aQ (fun k=>k≠b) w w':=by
 have ays:∀(fn:Fn) (first cap:ajv) (w:aeo),(Instr.makeFunc fn first cap).run Tryz.prog w=.ok (.func fn first cap) w:=fun _ _ _ _=>rfl;have FQ:=lt_of_heap ay;have lP:w.heap.size≠b:=by omega
 have zx:(w.alloc (ai (#[.pointer (some (aj b 0))]) 59)).heap[w.heap.size]?=some (.cells #[ah b 0] 59):=cd _ _;have er:=aU ay (a' w (ai (#[.pointer (some (aj b 0))]) 59));have IQ:=atc b w.heap.size lP S bu eC aB i f dQ _ zx er;have eI:aQ (fun k=>k≠b) w (w.alloc (ai (#[.pointer (some (aj b 0))]) 59)):=aQ.alloc _ _ _;have rh:(w.alloc (ai (#[.pointer (some (aj b 0))]) 59)).heap.size=w.heap.size+1:=qf _;have gf:=cell_of (i:=0) zx rfl;obtain⟨n,hn⟩:=ar aB.length;rw[hn] at IQ⊢;clear eC dQ ay;go_enter Tryz.func26,Tryz.ntmps26;go_wp2_with (go_at_call 47;refine IQ.mono ?_;rintro e cZ ⟨rfl,fD,d,ev,My,kK⟩);have yi:=aq (eI.trans kK);have ate:af (an cZ w.heap.size (#[.pointer (some (aj b 0))]) 59):=kK.get lP zx;have pb:af (h9 (fun k=>w.heap.size≤k) cZ fD aB):=My.mono fun k _ ax=>by have av:_≤k:=ax;rw[rh] at av;exact Nat.le_of_succ_le av
 have te:af (VZ w.heap.size b S bu (ad fD n d) (i:Int) (f:Int) cZ):=⟨ate.out,ev⟩;have r9:=aq (V0 te.out);have fo:=aq (afj (Below.refl _ _).drew (V0 te.out));have zd:=fun x (hx:ao cZ cZ x)=>amB (fun k=>w.heap.size≤k) aB nH fD n d hn.symm x (aq (pb.out.below hx));have afk:=aq zd;clear IQ zx er gf eI rh ev My kK zd hn nH;go_upto_region 2 with fail
 go_region_held3 (fun Z=>QB w.heap.size b S bu (ad fD n d) (i:Int) (f:Int) Z) (first|with_reducible exact fo.out|with_reducible exact r9.out|with_reducible exact afj (by assumption) (by assumption)|assumption|fail) (first|(go_at_call 50;(with_reducible refine (afk.out _ (Below.refl _ _).drew).mono ?_);rintro e ki ⟨mb,d7,rfl,atf,wU⟩)|fail)
 all_goals
  clear fo r9 afk;have lO:=aq (yi.out.trans ((aQ.dI (Below.refl _ _).drew).trans (aQ.dI wU)));have Qz:af (h9 (fun k=>w.heap.size≤k) ki mb aB):=atf.mono fun k _ ax=>dB yi.out.size ax;go_wp2_with fail;go_ret3;exact⟨mb,d7,rfl,Qz.out,lO.out⟩
theorem atg(S:Ua)(bu:Int)(w:aeo):Calls Tryz.prog 22 #[aa S,I bu] w fun e w'=>e=ab (ah w.heap.size 0)∧w'=w.alloc (ai (ru S bu 0 0 0 0 (J 0) 0 0) qR):=by go_enter Tryz.func22,Tryz.ntmps22;go_wp2;go_ret;exact⟨rfl,rfl⟩
structure RcM(S:afp)(w0:aeo)(g:Nat)(os:List dx)(es:List (bO×Bool))(fg fz:ada)(x:aeo):Prop where
 res:an x g (#[J 0,J 0]) je
 n:tp S w0 (g+1) os es fg fz x
theorem RcM.below{S:afp}{w0:aeo}{g:Nat}{os:List dx}{es:List (bO×Bool)}{fg fz:ada}{x y:aeo}(h:RcM S w0 g os es fg fz x)(ay:ao x x y):RcM S w0 g os es fg fz y:=⟨aU h.res ay,h.n.below ay⟩
theorem RcM.AO{S:afp}{w0:aeo}{g:Nat}{os:List dx}{es:List (bO×Bool)}{fg fz r7:ada}{X y:aeo}{xs:aev}{d:Bool}{bs:cJ}{s:bc}{pl:Ja}{cl:Nat}{pp:Ja}{cp:Nat}{V:aev}
  (h:RcM S w0 g os es fg fz X) (lI:X.ownsRow (g+1+1) dD 11 fg os.length xs) (hp:ds S X (p' os) xs) (hS:∀k,S k→k<g+1) (hR:w0.heap.size≤g)
  (ba:X.grownBy y fg.ownBlock) (lg:V=U d::ke bs (ad pl bs.l.length cl) (ad pp s.len cp)) (cI:y.ownsRow (g+1+1) dD 11 r7 (os.length+1) (xs++V)) (ay:dv S X pl cl pp cp ⟨bs,s⟩):
  RcM S w0 g (os++[(d,⟨bs,s⟩)]) es r7 fz (y.setCell (aj (g+1) 0) r7):=by
 subst lg;exact⟨Cv lI ba (by omega) (by omega) h.res,tp.AO (x:=X) h.n.r lI hp h.n.e h.n.aZ hS (by omega) ba cI ay⟩
theorem RcM.Ex{S:afp}{w0:aeo}{g:Nat}{os:List dx}{es:List (bO×Bool)}{fg fz tq:ada}{X y:aeo}{c:bO}{a:Bool}
  (h:RcM S w0 g os es fg fz X) (hS:∀k,S k→k<g+1) (hR:w0.heap.size≤g)
  (ba:X.grownBy y fz.ownBlock) (cI:y.ownsRow (g+1+1) jH 5 tq (es.length+1) (o0 es++Cq c a)):
  RcM S w0 g os (es++[(c,a)]) fg tq (y.setCell (aj (g+1) 1) tq):=
 ⟨Cv h.n.e ba (by omega) (by omega) h.res,h.n.Ex hS (by omega) ba cI⟩
theorem ath(l:List dx)(x:dx)(o:Option bO)(h:sR x.2=o):jM (l++[x])=o.elim (jM l) (fun b=>jM l++[⟨x,b,Ak x.2⟩]):=by unfold jM;rw[List.filterMap_append];cases o<;>simp[h]
theorem V1(l:List dx):(jM l).length≤l.length:=List.length_filterMap_le _ _
abbrev afl(W:aeo)(row:Option Nat)(R sG D:Nat)(fz:ada)(fC:bO)(aB:cJ)(pl:Ja)(nl cl:Nat)(pp:Ja)(mp cp:Nat)(Z:aeo):Prop:=
 Z.cell? ⟨R,1,none⟩=some (fz)∧ak Z sG 0 (I fC.aD)∧ak Z sG 1 (I fC.aC)∧ak Z sG 2 (I fC.aG)∧ak Z sG 3 (I fC.aE)∧ak Z D 1 (I aB.k)∧ak Z D 2 (I aB.a.1)∧ak Z D 3 (I aB.a.2)∧ak Z D 4 (I aB.b.1)∧ak Z D 5 (I aB.b.2)∧ak Z D 6 (I aB.c.1)∧ak Z D 7 (I aB.c.2)∧ak Z D 8 (I aB.r)∧ak Z D 9 (ad pl nl cl)∧ak Z D 10 (ad pp mp cp)∧Z.frozen? ⟨R,1,none⟩=false∧aQ (fun k=>some k≠row) W Z
theorem ati{W Z:aeo}{row:Option Nat}{R sG D:Nat}{fg fz:ada}{fC:bO}{od:Bool}{aB:cJ}{pl:Ja}{nl cl:Nat}{pp:Ja}{mp cp:Nat}(hr:an W R (#[fg,fz]) je)(ay:W.heap[sG]?=some (cU fC))(hd:an W D (#[U od,I aB.k,I aB.a.1,I aB.a.2,I aB.b.1,I aB.b.2,I aB.c.1,I aB.c.2,I aB.r,ad pl nl cl,ad pp mp cp]) dD)(dy:some R≠row)(eU:some sG≠row)(n3:some D≠row)(ax:aQ (fun k=>some k≠row) W Z):
  afl W row R sG D fz fC aB pl nl cl pp mp cp Z:=by
 have av:=ax.get dy hr;have az:=ax.get eU ay;have aF:=ax.get n3 hd;exact⟨cell_of av rfl,cell_of az rfl,cell_of az rfl,cell_of az rfl,cell_of az rfl,cell_of aF rfl,cell_of aF rfl,cell_of aF rfl,cell_of aF rfl,cell_of aF rfl,cell_of aF rfl,cell_of aF rfl,cell_of aF rfl,cell_of aF rfl,cell_of aF rfl,cR av 1,ax⟩
theorem atj(S:afp)(l:List dx)(aA:∀o∈l,qE o.2)(p:Ja)(n c:Nat)(hn:n=l.length)(w:aeo)(H:af (h9 S w p l)):
  Calls Tryz.prog 84 #[ad p n c] w fun e w'=>∃ig c' iH fA,e=ab (.agg (lG ig (jM l).length c' iH fA))∧my (fun k=>S k∨w.heap.size≤k) w' ig iH (jM l)∧ao w w w':=by
 have n9:n≤1000000000:=by rw[hn];exact H.out.1
 have bf:=aq hn;have dT:=aq aA;have e0:af (h9 (fun k=>S k∧k<w.heap.size) w p l):=H.out.mono (fun k av az=>⟨az,av⟩);obtain⟨oj,uQ⟩:∃oj:afp,(fun k=>S k∧k<w.heap.size)=oj:=⟨_,rfl⟩;have r9:af (∀k,oj k→S k):=by rw[←uQ];exact fun k h=>h.1
 have mz:af (∀k,oj k→k<w.heap.size):=by rw[←uQ];exact fun k h=>h.2
 have kk:af (∀k,oj k→k<w.heap.size+1):=fun k h=>Nat.lt_succ_of_lt (mz.out k h);rw[uQ] at e0;clear hn aA uQ H;go_enter Tryz.func84,Tryz.ntmps84;go_upto_region 2 with fail;obtain⟨W,br⟩:=ar ((w.alloc (ai (#[J 0,J 0]) je)).alloc (ai (#[J 0,J 0]) je));have bM:af (RcM oj w w.heap.size [] [] (J 0) (J 0) W):=by have av:an W w.heap.size (#[J 0,J 0]) je:=(by rw[←br];exact aU (cd _ _) (a' _ _));have az:an W (w.heap.size+1) (#[J 0,J 0]) je:=(by rw[←br];exact uJ _ _ _);exact⟨av,az,⟨[],⟨rfl,.inl ⟨rfl,rfl⟩⟩,trivial⟩,⟨rfl,.inl ⟨rfl,rfl⟩⟩,by rw[←br];exact nI _ _ _⟩
 rw[br];clear br;go_wp2_with fail
 go_loopw [10] (fun i wr=>∃(j:Nat) (fg fz:ada) (aK:aeo),aK=wr∧j≤n∧i=I j∧af (RcM oj w w.heap.size (zq (jM (l.take j))) (zr (jM (l.take j))) fg fz aK)) (fun i _=>n -(intOf i).toNat)
 case atStart=>exact⟨0,_,_,_,rfl,eE _,rfl,bM.out⟩
 case round=>
 obtain⟨j,fg,fz,aK,rfl,cr,rfl,aO⟩:=hrel;clear bM;obtain⟨qF,uR⟩:=ar (zq (jM (l.take j)));obtain⟨zs,EA⟩:=ar (zr (jM (l.take j)));rw[uR,EA] at aO;have uS:=aq uR.symm;have l9:=aq EA.symm;clear uR EA;by_cases b1:j<n
 ·have fL:j<l.length:=(by rw[←bf.out];exact b1);have i':(j:Int)<(n:Int):=(by omega);obtain⟨⟨od,⟨aB,os⟩⟩,aH⟩:=ar (l[j]);have Eu:=aq (dT.out (od,⟨aB,os⟩) (by rw[←aH];exact mu _));obtain⟨hz,lv,pl,cl,pp,cp,rfl,q',_,ek,aN,aL,aI,c3,bJ,c5,b2,b',bX,bj,cu⟩:=e0.out.at fL aH;have pF:=aq ek;obtain⟨o,bl⟩:=ar (sR ⟨aB,os⟩);obtain⟨tY,V2⟩:=ar (Ak ⟨aB,os⟩);have atk:=aq bl;have atl:=aq V2;have wk:=aq (ath (l.take j) (od,⟨aB,os⟩) o bl);have tt:af (l.take (j+1)=l.take j++[(od,⟨aB,os⟩)]):=(by show _=_;rw[y5 fL,aH]);obtain⟨nl,gF⟩:=ar aB.l.length;obtain⟨mp,AT⟩:=ar os.len;have q8:=aq gF;have Ov:=aq AT;have afm:af (∀Z,ao w w Z→Calls Tryz.prog 122 #[.agg #[I aB.k,I aB.a.1,I aB.a.2,I aB.b.1,I aB.b.2,I aB.c.1,I aB.c.2,I aB.r,ad pl nl cl,ad pp mp cp]] Z fun e w'=>e=ab (.tuple #[h7 (o.getD eh),U o.isSome])∧ao Z Z w'):=(by intro Z eG;rw[←gF,←AT];exact alx oj aB os Eu.out pl cl pp cp Z (aq (pF.out.below eG)) o atk);have atm:af (∀Z,ao w w Z→Calls Tryz.prog 123 #[.agg #[I aB.k,I aB.a.1,I aB.a.2,I aB.b.1,I aB.b.2,I aB.c.1,I aB.c.2,I aB.r,ad pl nl cl,ad pp mp cp]] Z fun e w'=>e=ab (U tY)∧ao Z Z w'):=(by intro Z eG;rw[←gF,←AT,←V2];exact alu aB os oj pl cl pp cp Z (aq (pF.out.below eG)));rw[gF] at bj;rw[AT] at cu;have el:=aO.out.n.aZ;have d0:=bP el aN;have d1:=bP el aL;have d2:=bP el aI;have d3:=bP el c3;have d4:=bP el bJ;have d5:=bP el c5;have d6:=bP el b2;have d7:=bP el b';have d8:=bP el bX;have d9:=bP el bj;have d10:=bP el cu;clear aN aL aI c3 bJ c5 b2 b' bX bj cu el ek aH bl V2 gF AT;go_upto_region 5 with fail;have c6:=aq (aO.out.below (a' aK (ai (#[U od,I aB.k,I aB.a.1,I aB.a.2,I aB.b.1,I aB.b.2,I aB.c.1,I aB.c.2,I aB.r,ad pl nl cl,ad pp mp cp]) dD)));have jn:af ((aK.alloc (ai (#[U od,I aB.k,I aB.a.1,I aB.a.2,I aB.b.1,I aB.b.2,I aB.c.1,I aB.c.2,I aB.r,ad pl nl cl,ad pp mp cp]) dD)).heap[aK.heap.size]?=some (.cells #[U od,I aB.k,I aB.a.1,I aB.a.2,I aB.b.1,I aB.b.2,I aB.c.1,I aB.c.2,I aB.r,ad pl nl cl,ad pp mp cp] dD)):=cd _ _;generalize aK.alloc (.cells #[U od,I aB.k,I aB.a.1,I aB.a.2,I aB.b.1,I aB.b.2,I aB.c.1,I aB.c.2,I aB.r,ad pl nl cl,ad pp mp cp] dD)=ck at c6 jn⊢;obtain⟨D,cb⟩:=ar aK.heap.size;have afn:af (∀k,fg.ownBlock=some k→k<D):=(by obtain⟨ayt,rW,_⟩:=aO.out.n.o;intro k ax;rw[←cb];exact (rW.lt k ax).2);rw[cb] at jn⊢;clear d0 d1 d2 d3 d4 d5 d6 d7 d8 d9 d10 cb aO;obtain⟨d0,d1,d2,d3,d4,d5,d6,d7,d8,d9,d10⟩:=pE jn.out;go_wp2_with fail;with_reducible refine (afm.out _ c6.out.n.aZ).mono ?_
  rintro e cm ⟨rfl,ay⟩;have cP:=aq (c6.out.below ay);have lb:=aq (aU jn.out ay);clear d0 d1 d2 d3 d4 d5 d6 d7 d8 d9 d10 ay jn c6 afm;cases o with
  |none=>
   have aP:af (jM (l.take (j+1))=jM (l.take j)):=(by show _=_;rw[tt.out,wk.out];rfl);go_wp2_with fail;have dk:=aq (cP.out.below (a' cm (cU eh)));go_round<;>first|exact⟨j+1,_,_,_,rfl,by omega,by go_num,by rw[aP.out,←uS.out,←l9.out];exact dk.out⟩|(simp[intOf]<;>omega)
  |some fC=>
   have aP:af (jM (l.take (j+1))=jM (l.take j)++[⟨(od,⟨aB,os⟩),fC,tY⟩]):=(by show _=_;rw[tt.out,wk.out,←atl.out];rfl);go_upto_region 7 with fail;have dk:=aq (cP.out.below (a' cm (cU fC)));have ih:=aq (aU lb.out (a' cm (cU fC)));have ly:af ((cm.alloc (cU fC)).heap[cm.heap.size]?=some (cU fC)):=cd _ _;change Code.wp _ _ _ _ (cm.alloc (cU fC));generalize cm.alloc (cU fC)=dt at dk ih ly⊢;obtain⟨sG,afo⟩:=ar cm.heap.size;rw[afo] at ly⊢;clear afo cP lb;obtain⟨xs,re,Cw⟩:=dk.out.n.o;obtain⟨jW,jX,rfl⟩:=jf re;obtain⟨e5,nc,rfl⟩:=jf dk.out.n.e;obtain⟨m,hm⟩:=ar qF.length;obtain⟨m2,jR⟩:=ar zs.length;have EB:m≤1000000000:=(by rw[←hm,uS.out,e6];have:=V1 (l.take j);rw[kj] at this;omega);have aae:m2≤1000000000:=(by rw[←jR,l9.out,e6];have:=V1 (l.take j);rw[kj] at this;omega);have xR:=aq hm;have c0:=aq jR;have tu:af (dt.ownsRow (w.heap.size+1+1) dD 11 (ad jW qF.length jX) qF.length xs):=re;have zg:=aq Cw;have aaf:=dk.out.n.aZ.size;have EC:=lt_of_heap dk.out.n.r;have mA:=aq (dk.out.below (a' dt (ai (#[U od,I aB.k,I aB.a.1,I aB.a.2,I aB.b.1,I aB.b.2,I aB.c.1,I aB.c.2,I aB.r,ad pl nl cl,ad pp mp cp]) dD)));rw[hm,jR] at dk mA;rw[hm] at tu afn;have jg:af ((dt.alloc (ai (#[U od,I aB.k,I aB.a.1,I aB.a.2,I aB.b.1,I aB.b.2,I aB.c.1,I aB.c.2,I aB.r,ad pl nl cl,ad pp mp cp]) dD)).ownsRow (w.heap.size+1+1) dD 11 (ad jW m jX) m xs):=tu.out.alloc _;have l7:∀(cA:aeo),(dt.alloc (ai (#[U od,I aB.k,I aB.a.1,I aB.a.2,I aB.b.1,I aB.b.2,I aB.c.1,I aB.c.2,I aB.r,ad pl nl cl,ad pp mp cp]) dD)).grownBy cA (Value.slice jW m jX).ownBlock→ak cA (w.heap.size+1) 0 (ad jW m jX)∧cA.frozen? ⟨w.heap.size+1,0,none⟩=false:=(by intro cA uT;have av:=(uT.block _ (lt_of_heap mA.out.n.r) (fun e=>by have:=(jg.out.lt _ e.symm).1;omega)).trans mA.out.n.r;exact⟨(o1 av).1,cR av 0⟩);clear re Cw hm jR;obtain⟨i0,hi,dE,dP,dq⟩:=info_parts Kv;have bZ:=aq (And.intro hi (And.intro dE (And.intro dP dq)));clear hi dE dP dq;obtain⟨gZ,fM⟩:=o1 dk.out.n.r;have fr:=cR dk.out.n.r;obtain⟨d0,d1,d2,d3,d4,d5,d6,d7,d8,d9,d10⟩:=pE ih.out;have sj:=lt_of_heap ih.out;go_upto_region 8 with (at_builtin;refine zm _ rfl _ _ _ rfl (w.heap.size+1+1) dD i0 Cu 11 120 Ez bZ.out.1 bZ.out.2.1 bZ.out.2.2.1 bZ.out.2.2.2 rfl (by omega) (ad jW m jX) m _ (by rfl) jg.out (aj dt.heap.size 0) 1 1 [U od,I aB.k,I aB.a.1,I aB.a.2,I aB.b.1,I aB.b.2,I aB.c.1,I aB.c.2,I aB.r,ad pl nl cl,ad pp mp cp] (by rfl) (by rfl) (kc (cs:= #[U od,I aB.k,I aB.a.1,I aB.a.2,I aB.b.1,I aB.b.2,I aB.c.1,I aB.c.2,I aB.r,ad pl nl cl,ad pp mp cp]) (t:=dD) (fr:=(0,0)) (ga dt _)) (by simp[Value.oneCell']) (by omega) (by unfold maxLen;omega) (by omega) (by simp;omega) (dt.heap.size+1) (by simp) ?_;intro dh hg cA cI dO eJ hV;obtain⟨bW,cj⟩:=l7 cA dO);have e4:=aq (RcM.AO (d:=od) (bs:=aB) (s:=os) (pl:=pl) (cl:=cl) (pp:=pp) (cp:=cp) mA.out (by rw[xR.out];exact jg.out) (zg.out.below (a' dt (ai (#[U od,I aB.k,I aB.a.1,I aB.a.2,I aB.b.1,I aB.b.2,I aB.c.1,I aB.c.2,I aB.r,ad pl nl cl,ad pp mp cp]) dD))) kk.out (bx _) dO (show [U od,I aB.k,I aB.a.1,I aB.a.2,I aB.b.1,I aB.b.2,I aB.c.1,I aB.c.2,I aB.r,ad pl nl cl,ad pp mp cp]=U od::ke aB (ad pl aB.l.length cl) (ad pp os.len cp) by rw[q8.out,Ov.out]) (by rw[xR.out];exact cI) (pF.out.below mA.out.n.aZ));have atn:D≠w.heap.size+1:=(by intro e;have aF:=ih.out;rw[e,dk.out.n.r] at aF;injection aF with aF;injection aF with _ aF;exact absurd aF (by decide));have ato:sG≠w.heap.size+1:=(by intro e;have aF:=ly.out;rw[e,dk.out.n.r] at aF;injection aF with aF;injection aF with _ aF;exact absurd aF (by decide));have og:af ((cA.setCell (aj (w.heap.size+1) 0) (ag dh 0 (m+1) hg)).heap[D]?=some (.cells #[U od,I aB.k,I aB.a.1,I aB.a.2,I aB.b.1,I aB.b.2,I aB.c.1,I aB.c.2,I aB.r,ad pl nl cl,ad pp mp cp] dD)):=(by have av:=aU ih.out (a' dt (ai (#[U od,I aB.k,I aB.a.1,I aB.a.2,I aB.b.1,I aB.b.2,I aB.c.1,I aB.c.2,I aB.r,ad pl nl cl,ad pp mp cp]) dD));exact (mw atn).trans ((dO.block D (lt_of_heap av) (fun e=>oP _ (afn.out D e.symm))).trans av));have kf:af ((cA.setCell (aj (w.heap.size+1) 0) (ag dh 0 (m+1) hg)).heap[sG]?=some (cU fC)):=(by have av:=aU ly.out (a' dt (ai (#[U od,I aB.k,I aB.a.1,I aB.a.2,I aB.b.1,I aB.b.2,I aB.c.1,I aB.c.2,I aB.r,ad pl nl cl,ad pp mp cp]) dD));exact (mw ato).trans ((dO.block sG (lt_of_heap av) (gJ (oZ jg.out av (by decide)))).trans av));clear cI dO eJ hV bW cj d0 d1 d2 d3 d4 d5 d6 d7 d8 d9 d10 gZ fM fr EC sj;generalize cA.setCell (aj (w.heap.size+1) 0) (ad (some (aj dh 0)) (m+1) hg)=gO at e4 og kf⊢;obtain⟨mx,hi,dE,dP,dq⟩:=info_parts SW;have df:=aq (And.intro hi (And.intro dE (And.intro dP dq)));clear hi dE dP dq;have gK:=e4.out.n.aZ.size;have afq:some (w.heap.size+1)≠(Value.slice e5 m2 nc).ownBlock:=(fun e=>by have:=(e4.out.n.e.lt _ e.symm).1;omega);have afr:some D≠(Value.slice e5 m2 nc).ownBlock:=gJ (oZ e4.out.n.e og.out (by decide));have afs:some sG≠(Value.slice e5 m2 nc).ownBlock:=gJ (oZ e4.out.n.e kf.out (by decide));have bz:af (∀Z,aQ (fun k=>some k≠(Value.slice e5 m2 nc).ownBlock) gO Z→afl gO (Value.slice e5 m2 nc).ownBlock (w.heap.size+1) sG D (ad e5 m2 nc) fC aB pl nl cl pp mp cp Z):=fun Z ax=>ati (od:=od) e4.out.n.r kf.out og.out afq afs afr ax;have yI:af (aQ (fun k=>some k≠(Value.slice e5 m2 nc).ownBlock) gO gO.drew):=aQ.dI (Below.refl _ _).drew;have l2:=aq (bz.out _ (aQ.refl _ _));have oi:=aq (bz.out _ yI.out);have atp:af (gO.ownsRow (w.heap.size+1+1) jH 5 (ad e5 m2 nc) m2 (o0 zs)):=(by have:=e4.out.n.e;rw[c0.out] at this;exact this);clear afq afr afs;have ayu:=lt_of_heap e4.out.n.r;have ayv:=lt_of_heap og.out;have SS:=lt_of_heap kf.out;have atq:af (∀cZ,ao gO.drew gO.drew cZ→w.heap.size+1<cZ.heap.size∧D<cZ.heap.size∧sG<cZ.heap.size):=(fun cZ h=>by have av:=h.size;have az:gO.drew.heap.size=gO.heap.size:=rfl;rw[az] at av;exact⟨by omega,by omega,by omega⟩);have J3:af (∀cZ,ao gO.drew gO.drew cZ→∀ki,(cZ.alloc (ai (#[I fC.aD,I fC.aC,I fC.aG,I fC.aE,U tY]) jH)).grownBy ki (Value.slice e5 m2 nc).ownBlock→ak ki (w.heap.size+1) 1 (ad e5 m2 nc)∧ki.frozen? ⟨w.heap.size+1,1,none⟩=false):=(by intro cZ cW ki eN;have ax:=bz.out ki (((yI.out.trans (aQ.dI cW)).trans (aQ.alloc _ _ _)).trans (aQ.grown eN (fun k ax h=>h ax.symm)));exact⟨ax.1,ax.2.2.2.2.2.2.2.2.2.2.2.2.2.2.2.1⟩);have CU:af (ao w w gO.drew):=e4.out.n.aZ.drew;obtain⟨Mz,vc,gQ,x',LP,Im,Bb,atr,PX,ats,l10,att,atu,atv,atw,JX,_⟩:=l2.out
   go_region_law (first|(refine Cr _ (by rfl) _ _ _ (by rfl) (w.heap.size+1+1) jH mx Ou 5 40 SV df.out.1 df.out.2.1 df.out.2.2.1 df.out.2.2.2 rfl (by omega) (ad e5 m2 nc) m2 _ (by rfl) ((e9 (e9 atp.out (Below.refl _ _).drew) ev).alloc _) (aj cZ.heap.size 0) 1 1 [I fC.aD,I fC.aC,I fC.aG,I fC.aE,U tY] (by rfl) (by rfl) (kc (cs:= #[I fC.aD,I fC.aC,I fC.aG,I fC.aE,U tY]) (t:=jH) (fr:=(0,0)) (ga cZ _)) (by simp[Value.oneCell']) (by omega) (by unfold maxLen;omega) (by omega) (by simp;omega) (cZ.heap.size+1) (by simp) ?_;intro ge KA ki cI dO eJ hV;obtain⟨bW,cj⟩:=J3.out cZ ev ki dO)|(rw[a8 (by rfl)];go_simp;go_at_call 123;with_reducible refine (atm.out _ CU.out).mono ?_;rintro e cZ ⟨rfl,ev⟩;obtain⟨bQ,bU,a7,il,rb,ri,E1,E2,E3,wA,E4,Mk,afa,afb,afc,m',_⟩:=bz.out cZ (yI.out.trans (aQ.dI ev));obtain⟨gM,gN,gD⟩:=atq.out cZ ev))
   all_goals
    have uU:=aq (((e4.out.below (Below.refl _ _).drew).below ev).below (a' cZ (ai (#[I fC.aD,I fC.aC,I fC.aG,I fC.aE,U tY]) jH)));have mv:=aq (RcM.Ex (c:=fC) (a:=tY) uU.out kk.out (bx _) dO (by rw[c0.out];exact cI));have a1:zq (jM (l.take (j+1)))=qF++[(od,⟨aB,os⟩)]:=(by rw[aP.out,zq,nb,uS.out];rfl);have a6:zr (jM (l.take (j+1)))=zs++[(fC,tY)]:=(by rw[aP.out,zr,nb,l9.out];rfl);rw[←a1,←a6] at mv;clear cI dO eJ hV bW cj bQ bU a7 il rb ri E1 E2 E3 wA E4 Mk afa afb afc m' gM gN gD Mz vc gQ x' LP Im Bb atr PX ats l10 att atu atv atw JX;generalize ki.setCell (aj (w.heap.size+1) 1) (ad (some (aj ge 0)) (m2+1) KA)=gR at mv⊢;go_wp2_with fail;go_round<;>first|exact⟨j+1,_,_,_,rfl,by omega,by go_num,mv.out⟩|(simp[intOf]<;>omega)
 ·have iR:j=n:=(by omega);subst iR;have c9:af (l.take j=l):=(by show _=_;rw[bf.out];exact vD);rw[c9.out] at uS l9;have jI:=aO.out.n;rw[uS.out,l9.out] at jI;obtain⟨ig,c',iH,fA,KB,KC,xS⟩:=jI.done (R':=fun k=>oj k∨w.heap.size+1+1≤k) (by have av:=V1 l;have az:=bf.out;show _≤1000000000;omega) (fun k h=>.inl h) (fun k h=>.inr h);have ED:=aq xS;obtain⟨L,lu⟩:=ar ((jM l).length);have EE:=aq lu;rw[lu] at KB KC;subst KB KC;clear jI xS lu;obtain⟨gZ,fM⟩:=o1 aO.out.n.r;obtain⟨u0,u1⟩:=o1 aO.out.res;have fu:=cR aO.out.res;go_wp2_with fail;have jV:=oU [ad ig L c',ad iH L fA] aO.out.res rfl;have ay:=tf (m:=0) (b:=w.heap.size) (bx _) [ad ig L c',ad iH L fA] aO.out.n.aZ;refine dC (pD rfl _ _ w.heap.size _ _ _ _ rfl jV Tryz.underlying201 rfl (by kernel_rfl)) rfl ⟨ig,c',iH,fA,by rw[EE.out],?_,ay⟩;refine (ED.out.keep (xK (S:=fun k=>oj k∨w.heap.size+1+1≤k) (b:=w.heap.size) (m:=0) (fun h=>?_) [ad ig L c',ad iH L fA])).mono (fun k _ h=>?_)
  ·rcases h with h|h
   ·have:=mz.out _ h;omega
   ·omega
  ·rcases h with h|h
   ·exact .inl (r9.out k h)
   ·exact .inr (by omega)
abbrev Ds(t:Int×Int):Obj:=.cells #[I t.1,I t.2] 107
abbrev Dt(t:Int×Int):Value:=.agg #[I t.1,I t.2]
theorem atx(c:Int)(w:aeo):Calls Tryz.prog 41 #[I c] w fun e w'=>e=ab (Dt (nw c))∧ao w w w':=by have hw:ae (65536 *max 0 (min c 255))=65536 *max 0 (min c 255):=cX _ (by omega);go_enter Tryz.func41,Tryz.ntmps41;go_wp2_with fail;exact dC (pD rfl _ _ w.heap.size _ _ _ _ rfl (cd _ _) Tryz.underlying107 rfl (by kernel_rfl)) rfl ⟨rfl,jE _ _⟩
theorem aft(t:Int×Int)(f:Bool)(hf:af (q2 t=f))(w:aeo):Calls Tryz.prog 66 #[Dt t] w fun e w'=>e=ab (U f)∧ao w w w':=by
 obtain⟨a,b⟩:=t;go_enter Tryz.func66,Tryz.ntmps66;go_wp2_with fail
 all_goals
  go_ret;refine⟨ej (Cl ⟨fun h=>?_,fun h=>?_⟩ hf.out),jE _ _⟩<;>simp only[q2,ix,iO,pq] at h⊢<;>omega
theorem aty(v:Int×Int)(cells:Int)(f:Bool)(hf:af (GK v cells=f))(w:aeo):Calls Tryz.prog 65 #[Dt v,I cells] w fun e w'=>e=ab (U f)∧ao w w w':=by
 obtain⟨a,b⟩:=v;go_enter Tryz.func65,Tryz.ntmps65;go_wp2_with fail
 all_goals
  go_ret;refine⟨ej (Cl ⟨fun h=>?_,fun h=>?_⟩ hf.out),jE _ _⟩<;>simp only[GK,ix,iO,pq] at h⊢<;>omega
theorem pg{w:aeo}{k:Nat}{t:aai}(h:an w k (#[I a,I b]) t):ak w k 0 (I a)∧ak w k 1 (I b):=by constructor<;>simp[World.cell?,h]
theorem afu(h:a=b):Ending.returned (.int .u8 a)=ab (.int .u8 b):=by rw[h]
theorem atz(t:Int×Int)(w:aeo):Calls Tryz.prog 44 #[Dt t] w fun e w'=>e=ab (.int .u8 (rN t))∧ao w w w':=by
 obtain⟨a,b⟩:=t;obtain⟨f,hf⟩:=ar (q2 (a,b));have aP:=aq hf;clear hf;go_enter Tryz.func44,Tryz.ntmps44;go_wp2_with fail;have aO:af (ao w w (w.alloc (Ds (a,b)))):=jE _ _;have cc:af ((w.alloc (Ds (a,b))).heap[w.heap.size]?=some (Ds (a,b))):=cd _ _;generalize w.alloc (Ds (a,b))=W at aO cc⊢;with_reducible refine (aft (a,b) _ aP _).mono ?_
 rintro e V ⟨rfl,ay⟩;have b0:af (ao w w V):=aO.out.trans (ay.mono aO.out.size);obtain⟨aN,aL⟩:=pg (aU cc.out ay);clear ay;simp only at aN aL;cases f with
 |false=>
  go_wp2_with fail;go_ret;refine⟨afu ?_,b0.out⟩;unfold rN;rw[aP.out];rfl
 |true=>
  have av:=aP.out;simp only[q2,ix,iO] at av;have bV:ae (a+b)=a+b:=cX _ (by omega);have bY:ae (a+b+65536)=a+b+65536:=cX _ (by omega);have dp:(a+b+65536).tdiv 131072=(a+b+65536)/ 131072:=Aq (by omega);have cA:ae ((a+b+65536)/ 131072)=(a+b+65536)/ 131072:=cX _ (by omega);have bt:IntKind.u8.wrap ((a+b+65536)/ 131072)=(a+b+65536)/ 131072:=(by exact IntWalk.u8_in _ (by omega));go_wp2_with fail;go_ret;refine⟨afu ?_,b0.out⟩;unfold rN;rw[aP.out];first|rfl|(simp[dp,cA,bt];done)
abbrev afv(v:iA):Array Value:= #[I v.x,I v.y,I v.ht,I v.w,I v.h,I v.depth]
abbrev F6(v:iA):Value:=.agg (afv v)
abbrev vu(v:iA):Obj:=.cells (afv v) 27
theorem BA{w:aeo}{k:Nat}{x y p:Int}(h:w.heap[k]?=some (vu ⟨x,y,p,a,b,d⟩)):ak w k 0 (I x)∧ak w k 1 (I y)∧ak w k 2 (I p)∧ak w k 3 (I a)∧ak w k 4 (I b)∧ak w k 5 (I d):=by refine⟨?_,?_,?_,?_,?_,?_⟩<;>simp[World.cell?,h]
theorem atA(aT:0≤d)(av:d≤6):1≤(2:Int)^ d.toNat∧(2:Int)^ d.toNat≤64:=by rcases (show d=0∨d=1∨d=2∨d=3∨d=4∨d=5∨d=6 by omega) with rfl|rfl|rfl|rfl|rfl|rfl|rfl<;>decide
theorem afw{p:Int}(aT:1≤a)(av:a≤256)(az:1≤p)(aF:p≤536870912):1≤a *p∧a *p≤137438953472:=by
 have a1:0≤(a-1) *p:=gW (by omega) (by omega);have a6:0≤(256-a) *p:=gW (by omega) (by omega);have ch:(a-1) *p=a *p-p:=by grind
 have gw:(256-a) *p=256 *p-a *p:=by grind
 omega
theorem QC(v:iA)(f:Bool)(hf:af (pZ v=f))(w:aeo):Calls Tryz.prog 58 #[F6 v] w fun e w'=>e=ab (U f)∧ao w w w':=by
 have h:=hf.out;clear hf;obtain⟨x,y,p,a,b,d⟩:=v;unfold pZ at h;simp only at h;by_cases aL:d<0∨6<d
 case pos=>
  have aP:af (false=f):=(by show _=_;rw[←h,a8 aL]);clear h;go_enter F4,F5;go_wp2_with fail
  all_goals
   go_ret;exact⟨ej aP.out,jE _ _⟩
 rw[aR aL] at h;have d0:0≤d:=by omega
 have d6:d≤6:=by omega
 have d64:d≤64:=by omega
 have dy:¬d<0:=by omega
 have eU:¬d > 6:=by omega
 obtain⟨fm,bW⟩:=atA d0 d6;obtain⟨P,hv⟩:∃P:Int,2^d.toNat=P:=⟨_,rfl⟩;have ayw:ae (2^d.toNat)=P:=by rw[hv];rw[hv] at fm bW;exact cX _ (by omega)
 rw[hv] at h fm bW;have ayx:¬P=0:=by omega
 clear hv aL d6;by_cases aI:p<1∨536870912<p
 case pos=>
  have aP:af (false=f):=(by show _=_;rw[←h,a8 (by omega)]);clear h;rcases aI with aI|aI
  ·go_enter F4,F5;go_upto_region 3 with fail
   go_quiet (fail)
   go_wp2_with fail;go_ret;exact⟨ej aP.out,jQ (jE _ _) _⟩
  ·have n3:¬p<1:=(by omega);go_enter F4,F5;go_upto_region 3 with fail
   go_quiet (fail)
   go_wp2_with fail;go_ret;exact⟨ej aP.out,jQ (jE _ _) _⟩
 have n3:¬p<1:=by omega
 have n4:¬p > 536870912:=by omega
 obtain⟨r,hr⟩:=ar (p%P);have su:p.tmod P=r:=by rw[y7 (by omega)];exact hr
 rw[hr] at h;clear hr;by_cases c3:r=0
 case neg=>
  have aP:af (false=f):=(by show _=_;rw[←h,a8 (by omega)]);clear h;go_enter F4,F5;go_upto_region 3 with fail
  go_quiet (fail)
  all_goals
   go_wp2_with fail;go_ret;exact⟨ej aP.out,jQ (jE _ _) _⟩
 subst c3;rw[aR (by omega)] at h;by_cases bJ:a<1∨256<a∨b<1∨256<b
 case pos=>
  have aP:af (false=f):=(by show _=_;rw[←h,a8 bJ]);clear h;go_enter F4,F5;go_upto_region 3 with fail
  go_quiet (fail)
  all_goals
   go_wp2_with fail
   all_goals
    go_ret;exact⟨ej aP.out,jQ (jE _ _) _⟩
 rw[aR bJ] at h;by_cases c5:x< -536870912∨536870912<x∨y< -536870912∨536870912<y
 case pos=>
  have aP:af (false=f):=(by show _=_;rw[←h,a8 c5]);clear h;go_enter F4,F5;go_upto_region 3 with fail
  go_quiet (fail)
  all_goals
   go_wp2_with fail
   all_goals
    go_ret;exact⟨ej aP.out,jQ (jE _ _) _⟩
 rw[aR c5] at h;have aP:=aq h;obtain⟨m1,m2⟩:=afw (a:=a) (p:=p) (by omega) (by omega) (by omega) (by omega);obtain⟨m3,m4⟩:=afw (a:=b) (p:=p) (by omega) (by omega) (by omega) (by omega);have bV:ae (a *p)=a *p:=cX _ (by omega);have bY:ae (b *p)=b *p:=cX _ (by omega);have dp:ae (x+a *p)=x+a *p:=cX _ (by omega);have cA:ae (y+b *p)=y+b *p:=cX _ (by omega);clear m1 m2 m3 m4 h;go_enter F4,F5;go_upto_region 3 with fail
 go_quiet (fail)
 go_wp2_with fail;with_reducible refine (ZH ⟨x,y,x+a *p,y+b *p⟩ f aP _).mono ?_
 rintro e V ⟨rfl,ay⟩;go_wp2_with fail;go_ret;exact⟨rfl,(jQ (jE _ _) _).trans (ay.mono (jQ (jE _ _) _).size)⟩
theorem F7{v:iA}(h:pZ v=true):(0≤v.depth∧v.depth≤6)∧(1≤v.ht∧v.ht≤536870912)∧(1≤v.w∧v.w≤256)∧(1≤v.h∧v.h≤256)∧(-536870912≤v.x∧v.x≤536870912)∧(-536870912≤v.y∧v.y≤536870912)∧okB ⟨v.x,v.y,v.x+v.w *v.ht,v.y+v.h *v.ht⟩=true:=by
 unfold pZ at h;split at h
 ·cases h
 ·split at h
  ·cases h
  ·split at h
   ·cases h
   ·split at h
    ·cases h
    ·exact⟨by omega,by omega,by omega,by omega,by omega,by omega,h⟩
theorem afx(aT:0≤d):(2:Int)^(2 *d).toNat=4^d.toNat:=by rw[show (2 *d).toNat=2 *d.toNat by omega,Int.pow_mul];rfl
theorem atB(v:iA)(aS:pZ v=true)(w:aeo):Calls Tryz.prog 42 #[F6 v] w fun e w'=>e=ab (I (Aj v))∧ao w w w':=by
 obtain⟨⟨d0,d6⟩,_⟩:=F7 aS;have b0:=aq aS;obtain⟨x,y,p,a,b,d⟩:=v;simp only at d0 d6;obtain⟨k,ax⟩:∃k:Int,4^d.toNat=k:=⟨_,rfl⟩;have s8:Aj ⟨x,y,p,a,b,d⟩=k:=ax;have ay:1≤k∧k≤4096:=by rw[←ax];rcases (show d=0∨d=1∨d=2∨d=3∨d=4∨d=5∨d=6 by omega) with rfl|rfl|rfl|rfl|rfl|rfl|rfl<;>decide
 have w0:ae (2 *d)=2 *d:=cX _ (by omega);have bV:ae (2 ^(2 *d).toNat)=k:=by rw[afx d0,ax];exact cX _ (by omega)
 have m0:0≤2 *d:=by omega
 have m1:2 *d≤64:=by omega
 have dn:=aq s8;clear ax s8 aS ay;go_enter Tryz.func42,Tryz.ntmps42;go_wp2_with fail;have aO:af (ao w w (w.alloc (vu ⟨x,y,p,a,b,d⟩))):=jE _ _;have cc:af ((w.alloc (vu ⟨x,y,p,a,b,d⟩)).heap[w.heap.size]?=some (vu ⟨x,y,p,a,b,d⟩)):=cd _ _;generalize w.alloc (vu ⟨x,y,p,a,b,d⟩)=W at aO cc⊢;with_reducible refine (QC ⟨x,y,p,a,b,d⟩ true b0 _).mono ?_
 rintro e V ⟨rfl,ay⟩;obtain⟨a0,bE,a2,a3,a4,a5⟩:=BA (aU cc.out ay);have c2:af (ao w w V):=aO.out.trans (ay.mono aO.out.size);clear ay;go_wp2_with fail;go_ret;exact⟨pA dn.out.symm,c2.out⟩
theorem V3(v:iA)(aS:pZ v=true)(i j:Nat)(hi:(i:Int)<v.w)(cr:(j:Int)<v.h)(w:aeo):Calls Tryz.prog 85 #[F6 v,I i,I j] w fun e w'=>e=ab (.tuple #[h7 (mR v i j),U true])∧ao w w w':=by
 obtain⟨⟨d0,d6⟩,⟨gf,e8⟩,⟨a0,bE⟩,⟨cy,cE⟩,⟨aD,aG⟩,⟨aC,aE⟩,eC⟩:=F7 aS;have b0:=aq aS;obtain⟨x,y,p,a,b,d⟩:=v;simp only at d0 d6 gf e8 a0 bE cy cE aD aG aC aE hi cr;have m1:0≤(i:Int) *p∧(i:Int) *p≤137438953472:=by have a1:0≤(i:Int) *p:=gW (by omega) (by omega);have a6:0≤(256 -(i:Int)) *p:=gW (by omega) (by omega);have gw:(256 -(i:Int)) *p=256 *p-i *p:=(by grind);omega
 have m2:0≤(b-1 -(j:Int)) *p∧(b-1 -(j:Int)) *p≤137438953472:=by have a1:0≤(b-1 -(j:Int)) *p:=gW (by omega) (by omega);have a6:0≤(256 -(b-1 -(j:Int))) *p:=gW (by omega) (by omega);have gw:(256 -(b-1 -(j:Int))) *p=256 *p -(b-1 -(j:Int)) *p:=(by grind);omega
 have bV:ae ((i:Int) *p)=i *p:=cX _ (by omega);have bY:ae (x+(i:Int) *p)=x+i *p:=cX _ (by omega);have dp:ae (b-1)=b-1:=cX _ (by omega);have cA:ae (b-1 -(j:Int))=b-1-j:=cX _ (by omega);have bt:ae ((b-1 -(j:Int)) *p)=(b-1-j) *p:=cX _ (by omega);have cZ:ae (y+(b-1 -(j:Int)) *p)=y+(b-1-j) *p:=cX _ (by omega);have ki:ae (x+(i:Int) *p+p)=x+i *p+p:=cX _ (by omega);have oD:ae (y+(b-1 -(j:Int)) *p+p)=y+(b-1-j) *p+p:=cX _ (by omega);clear m1 m2 aS eC;go_enter Tryz.func85,Tryz.ntmps85;go_upto_region 1 with fail;obtain⟨W,br⟩:=ar ((w.alloc (vu ⟨x,y,p,a,b,d⟩)).alloc (cU eh));have aO:af (ao w w W):=by show Below _ _ _;rw[←br];exact nI _ _ _
 have cc:af (W.heap[w.heap.size]?=some (vu ⟨x,y,p,a,b,d⟩)):=by show _=_;rw[←br];exact aU (cd _ _) (a' _ _)
 have bz:af (W.heap[w.heap.size+1]?=some (cU eh)):=by show _=_;rw[←br];exact uJ _ _ _
 change Code.wp _ _ _ _ ((w.alloc (vu ⟨x,y,p,a,b,d⟩)).alloc (cU eh));rw[br];clear br;obtain⟨afy,afz,afA,afB,afC,afD⟩:=BA cc.out;go_wp2_with fail;with_reducible refine (QC ⟨x,y,p,a,b,d⟩ true b0 _).mono ?_
 rintro e V ⟨rfl,ay⟩;clear afy afz afA afB afC afD;obtain⟨afy,afz,afA,afB,afC,afD⟩:=BA (aU cc.out ay);have c2:af (ao w w V):=aO.out.trans (ay.mono aO.out.size);have gn:=aq (aU bz.out ay);clear ay;have hf:=cR gn.out;obtain⟨aN,aL,aI,c3⟩:=hb (show V.heap[w.heap.size+1]?=some (cU ⟨0,0,0,0⟩) from gn.out);have dy:¬(i:Int)<0:=by omega
 have eU:¬(j:Int)<0:=by omega
 have n3:¬(i:Int)≥a:=by omega
 have n4:¬(j:Int)≥b:=by omega
 go_wp2_with fail;have hr:=oU [I (x+i *p),I (y+(b-1-j) *p),I (x+i *p+p),I (y+(b-1-j) *p+p)] gn.out rfl;have ay:=tf (m:=0) (b:=w.heap.size+1) (nX _) [I (x+i *p),I (y+(b-1-j) *p),I (x+i *p+p),I (y+(b-1-j) *p+p)] c2.out;exact dC (l6 rfl _ _ (w.heap.size+1) _ _ _ _ rfl hr Ek rfl (by kernel_rfl)) rfl ⟨rfl,ay⟩
end c4
