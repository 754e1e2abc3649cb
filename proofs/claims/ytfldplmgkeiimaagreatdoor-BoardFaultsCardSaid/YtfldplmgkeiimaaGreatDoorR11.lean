/- Lemmas. -/
import Derived.Test.YtfldplmgkeiimaaGreatDoorR10
import Derived.Laws.AppendOwn
set_option linter.all false
set_option maxRecDepth 100000
set_option maxHeartbeats 12800000
namespace Go.Proofs.YtfldplmgkeiimaaGreatDoor
abbrev RO:=@List.flatMap_cons
abbrev Nv:=@Nat.min_self
abbrev yH:=@Option.map_some
abbrev yI:=@wpList_append_lies
abbrev Du:=@Nat.le_of_lt
abbrev BC:=@step_append_lies
abbrev Dv:=@Proofs.Tryz.underlying47
abbrev RP:=@Proofs.Tryz.underlying199
abbrev qI:=@List.map_append
namespace dd
open Go.RowKit ef
abbrev jG:TypeId:=248
abbrev ja:TypeId:=201
variable{w w':aeo}{B bD n b k:Nat}{e t:aai}{v u:ada}
theorem gC{xs:aev}(h:w.ownsRow B e bD v n xs)(ax:ao w w w'):w'.ownsRow B e bD v n xs:=
 h.kept (row:=none) ⟨ax.os,ax.tape,ax.output,ax.size,fun k ay _=>ax.block k ay⟩ (by cases v.ownBlock<;>simp)
theorem m'{xs:aev}(h:w.ownsRow B e bD v n xs){cs:ajv}{dT:Nat×Nat}(ax:w.heap[b]?=some (.cells cs t dT))(he:e≠t):v.ownBlock≠some b:=by
 rcases h.2 with ⟨rfl,_⟩|⟨g,cap,cur,rfl,_,aK,_⟩
 ·simp[Value.ownBlock]
 ·intro az;have:g=b:=(by simpa[Value.ownBlock] using az);subst this;rw[ax] at aK;injection aK with aK;injection aK with _ bE;exact he bE.symm
theorem I'{C:Nat}{f:aai}{s1 s2 m:Nat}{xs fy:aev}(h:w.ownsRow B e s1 v n xs)(g:w.ownsRow C f s2 u m fy)(he:e≠f):u.ownBlock=none∨u.ownBlock≠v.ownBlock:=by
 rcases g.2 with ⟨rfl,_⟩|⟨k,cap,cur,rfl,_,aK,_⟩
 ·exact .inl rfl
 ·exact .inr (gu (m' h aK he))
theorem jH{xs:aev}(h:w.ownsRow B e bD v n xs):∃p cap,v=ad p n cap:=by
 rcases h.2 with ⟨rfl,rfl⟩|⟨g,cap,cur,rfl,_⟩
 ·exact⟨_,_,rfl⟩
 ·exact⟨_,_,rfl⟩
theorem zQ{xs:aev}{row:Option Nat}(h:w.ownsRow B e bD v n xs)(aF:w.grownBy w' row)(hne:v.ownBlock=none∨v.ownBlock≠row):w'.ownsRow B e bD v n xs:=h.kept aF hne
theorem Jb(w:aeo)(b i:Nat)(u:ada):w.grownBy (w.setCell (aj b i) u) (some b):=⟨rfl,rfl,rfl,by simp[World.setCell],fun k ay hne=>tn _ _ _ _ (by show k≠b;intro e;exact hne (by rw[e]))⟩
abbrev BD(b:ck)(a:Bool):List Value:=[I b.aD,I b.aE,I b.aL,I b.aH,U a]
def oq(l:List (ck×Bool)):List Value:=l.flatMap fun e=>BD e.1 e.2
theorem Yi(l:List (ck×Bool)):(oq l).length=l.length *5:=by
 induction l with
 |nil=>rfl
 |cons a l cO=>simp only[oq,RO,iv,fY] at cO⊢;rw[cO];simp;omega
variable{l:List (ck×Bool)}
theorem aiq{i:Nat}(hi:i<l.length){b:ck}{a:Bool}(he:l[i]=(b,a)):((oq l).drop (i *5)).take 5=BD b a:=by
 have a7:l=l.take i++(b,a)::l.drop (i+1):=by conv=>lhs;rw[←H7 i l,lD hi,he]
 have bf:oq l=oq (l.take i)++(BD b a++oq (l.drop (i+1))):=by
  conv=>lhs;rw[a7]
  simp only[oq,List.flatMap_append,RO]
 rw[bf,WU (by rw[Yi,kU];omega),mU (by rw[Yi,kU];omega),Ml,WT (by simp)];rfl
def vr(S:afp)(w:aeo)(p:Ja)(l:List (ck×Bool)):Prop:=l.length≤n9∧(0<l.length→∃(k o:Nat) (cs:ajv),p=some ⟨k,o,none⟩∧S k∧an w k cs jG∧(cs.toList.drop o).take (l.length *5)=oq l)
variable{p:Ja}
theorem vr.keep{S:afp}(h:vr S w p l)(ay:aP S w w'):vr S w' p l:=by refine⟨h.1,fun aA=>?_⟩;obtain⟨k,o,cs,e,hS,aK,hp⟩:=h.2 aA;exact⟨k,o,cs,e,hS,ay.get hS aK,hp⟩
theorem vr.below{S:afp}(h:vr S w p l)(ax:ao w w w'):vr S w' p l:=h.keep (.dW ax)
theorem vr.mono{S R:afp}(h:vr S w p l)(ay:∀k,k<w.heap.size→S k→R k):vr R w p l:=by refine⟨h.1,fun aA=>?_⟩;obtain⟨k,o,cs,e,hS,aK,hp⟩:=h.2 aA;exact⟨k,o,cs,e,ay _ (lt_of_heap aK) hS,aK,hp⟩
theorem vr.at{S:afp}{w:aeo}{p:Ja}{l:List (ck×Bool)}(h:vr S w p l){i:Nat}(hi:i<l.length){b:ck}{a:Bool}(he:l[i]=(b,a)):
  ∃(k o:Nat),p=some ⟨k,o,none⟩∧ak w k (o+i *5) (I b.aD)∧ak w k (o+i *5+1) (I b.aE)∧ak w k (o+i *5+2) (I b.aL)∧ak w k (o+i *5+3) (I b.aH)∧ak w k (o+i *5+4) (U a):=by
 obtain⟨k,o,cs,rfl,_,aK,hp⟩:=h.2 (by omega);have av:=aiq hi he;rw[←hp,Fp,si,CU,A7 (by omega)] at av;have key:∀j,j<5→cs[o+i *5+j]?=(BD b a)[j]?:=by intro j cd;rw[←av,sg,bb cd,yg];simp
 have bJ:=key 0 (by decide);have bO:=key 1 (by decide);have ba:=key 2 (by decide);have p0:=key 3 (by decide);have BE:=key 4 (by decide);simp only[IE] at bJ;refine⟨k,o,rfl,?_,?_,?_,?_,?_⟩<;>simp only[World.cell?, *]<;>rfl
structure me(S:afp)(w:aeo)(p q:Ja)(g:List fL):Prop where
 o:h8 S w p (g.map fL.o)
 e:vr S w q (g.map fun e=>(e.b,e.any))
theorem me.keep{S:afp}{w w':aeo}{p q:Ja}{l:List fL}(h:me S w p q l)(ay:aP S w w'):me S w' p q l:=⟨h.o.keep ay,h.e.keep ay⟩
theorem me.below{S:afp}{q:Ja}{l:List fL}(h:me S w p q l)(ax:ao w w w'):me S w' p q l:=h.keep (.dW ax)
theorem me.mono{S R:afp}{w:aeo}{p q:Ja}{l:List fL}(h:me S w p q l)(ay:∀k,k<w.heap.size→S k→R k):me R w p q l:=⟨h.o.mono ay,h.e.mono ay⟩
abbrev lp(p:Ja)(n c:Nat)(q:Ja)(d:Nat):Array Value:= #[ad p n c,ad q n d]
structure sH(S:afp)(w0:aeo)(R:Nat)(os:List eu)(es:List (ck×Bool))(fc fw:ada)(x:aeo):Prop where
 r:an x R (#[fc,fw]) ja
 o:∃xs,x.ownsRow (R+1) dq 11 fc os.length xs∧ds S x (pB os) xs
 e:x.ownsRow (R+1) jG 5 fw es.length (oq es)
 aX:ao w0 w0 x
theorem sH.below{S:afp}{w0:aeo}{R:Nat}{os:List eu}{es:List (ck×Bool)}{fc fw:ada}{x y:aeo}(h:sH S w0 R os es fc fw x)(ax:ao x x y):sH S w0 R os es fc fw y:=by obtain⟨xs,av,az⟩:=h.o;exact⟨aU h.r ax,⟨xs,gC av ax,az.below ax⟩,gC h.e ax,h.aX.trans (ax.mono h.aX.size)⟩
theorem sH.zR{S:afp}{w0:aeo}{R:Nat}{os:List eu}{es:List (ck×Bool)}{fc fw rC:ada}{x X y:aeo}{xs:aev}{d:Bool}{b:dm}{s:bk}{pl:Ja}{cl:Nat}{pp:Ja}{cp:Nat}
  (hr:an X R (#[fc,fw]) ja) (bm:X.ownsRow (R+1) dq 11 fc os.length xs) (hp:ds S X (pB os) xs) (he:X.ownsRow (R+1) jG 5 fw es.length (oq es)) (tz:ao w0 w0 X) (hS:∀k,S k→k<R) (hR:w0.heap.size≤R)
  (aF:X.grownBy y fc.ownBlock) (c0:y.ownsRow (R+1) dq 11 rC (os.length+1) (xs++U d::lF b (ad pl b.l.length cl) (ad pp s.len cp))) (ax:dE S X pl cl pp cp ⟨b,s⟩):
  sH S w0 R (os++[(d,⟨b,s⟩)]) es rC fw (y.setCell (aj R 0) rC):=by
 have ay:aP S X y:=aP.grown aF (fun k ay hs=>by have:=(bm.lt k ay).1;have:=hS k hs;omega);have yi:some R≠fc.ownBlock:=fun h=>by have:=(bm.lt R h.symm).1;omega
 have hy:an y R (#[fc,fw]) ja:=(aF.block R (lt_of_heap hr) yi).trans hr;have wE:y.ownsRow (R+1) jG 5 fw es.length (oq es):=zQ he aF (I' bm he (by decide));have Dw:=Jb y R 0 rC;have en:∀{e:aai} {bD n:Nat} {v:ada} {RQ:aev},y.ownsRow (R+1) e bD v n RQ→v.ownBlock=none∨v.ownBlock≠some R:=fun h=>.inr (fun e=>by have:=(h.lt R e).1;omega);refine⟨dt rC hy,⟨xs++U d::lF b (ad pl b.l.length cl) (ad pp s.len cp),?_,?_⟩,zQ wE Dw (en wE),(tz.grown aF (dx tz.size (bx _)) (fun k ay=>by have:=(bm.lt k ay).1;omega)).setCell (p:=⟨R,0,none⟩) hR _⟩
 ·rw[iv];exact zQ c0 Dw (en c0)
 ·rw[I8];have fs:aP S X (y.setCell (aj R 0) rC):=ay.trans (aP.set (a:=⟨R,0,none⟩) (fun hs=>mA _ (hS R hs)) rC);exact ds.append (hp.keep fs) (by rw[bm.1,Ds]) (.mk (by rfl) (ax.keep fs) trivial)
theorem sH.Dx{S:afp}{w0:aeo}{R:Nat}{os:List eu}{es:List (ck×Bool)}{fc fw sI:ada}{X y:aeo}{b:ck}{a:Bool}
  (h:sH S w0 R os es fc fw X) (hS:∀k,S k→k<R) (hR:w0.heap.size≤R)
  (aF:X.grownBy y fw.ownBlock) (c0:y.ownsRow (R+1) jG 5 sI (es.length+1) (oq es++BD b a)):
  sH S w0 R os (es++[(b,a)]) fc sI (y.setCell (aj R 1) sI):=by
 obtain⟨xs,bm,hp⟩:=h.o;have ay:aP S X y:=aP.grown aF (fun k ay hs=>by have:=(h.e.lt k ay).1;have:=hS k hs;omega);have yi:some R≠fw.ownBlock:=fun e=>by have:=(h.e.lt R e.symm).1;omega
 have hy:an y R (#[fc,fw]) ja:=(aF.block R (lt_of_heap h.r) yi).trans h.r;have iQ:y.ownsRow (R+1) dq 11 fc os.length xs:=zQ bm aF (I' h.e bm (by decide));have Dw:=Jb y R 1 sI;have en:∀{e:aai} {bD n:Nat} {v:ada} {RQ:aev},y.ownsRow (R+1) e bD v n RQ→v.ownBlock=none∨v.ownBlock≠some R:=fun h=>.inr (fun e=>by have:=(h.lt R e).1;omega);refine⟨dt sI hy,⟨xs,zQ iQ Dw (en iQ),?_⟩,?_,(h.aX.grown aF (dx h.aX.size (bx _)) (fun k ay=>by have:=(h.e.lt k ay).1;omega)).setCell (p:=⟨R,1,none⟩) hR _⟩
 ·exact (hp.keep ay).keep (aP.set (a:=⟨R,1,none⟩) (fun hs=>mA _ (hS R hs)) sI)
 ·rw[iv];have e:oq (es++[(b,a)])=oq es++BD b a:=(by simp[oq]);rw[e];exact zQ c0 Dw (en c0)
theorem sH.done{S R':afp}{w0:aeo}{R:Nat}{g:List fL}{fc fw:ada}{x:aeo}(h:sH S w0 R (g.map fL.o) (g.map fun e=>(e.b,e.any)) fc fw x)(oa:g.length≤n9)(hS:∀k,S k→R' k)(hR:∀k,R+1≤k→R' k):
  ∃p c q d,fc=ad p g.length c∧fw=ad q g.length d∧me R' x p q g:=by
 obtain⟨xs,bm,hp⟩:=h.o;obtain⟨p,c,rfl⟩:=jH bm;obtain⟨q,d,rfl⟩:=jH h.e;rw[gO,gO];refine⟨p,c,q,d,rfl,rfl,⟨by rw[gO];exact oa,fun aA=>?_⟩,⟨by rw[gO];exact oa,fun aA=>?_⟩⟩
 ·rcases bm.2 with ⟨_,aS⟩|⟨k,cap,cur,aY,ax,aK,_,_,_,bE⟩
  ·omega
  ·injection aY with av _ _;refine⟨k,0,cur,av,hR k ax,aK,?_⟩;refine (hp.mono (fun k _ hs=>hS k hs)).congr ?_;rw[Ds,tu,←bE,CU,Nv]
 ·rcases h.e.2 with ⟨_,aS⟩|⟨k,cap,cur,aY,ax,aK,_,_,_,bE⟩
  ·omega
  ·injection aY with av _ _;exact⟨k,0,cur,av,hR k ax,aK,by rw[tu];exact bE⟩
theorem air(p:b3):iA tA p=p:=by obtain⟨x,y⟩:=p;simp[iA,tA,ef.flip,MH]
theorem Yj(l:List b3):l.map (iA tA)=l:=by rw[show iA tA=id from funext air,List.map_id]
theorem ais(l:List (List b3)):(l.map fun c=>c.map (iA tA))=l:=by rw[show (fun c:List b3=>c.map (iA tA))=id from funext Yj,List.map_id]
def tV(l:List b3):List Value:=l.flatMap fun p=>[I p.1,I p.2]
theorem Yk(l:List b3):(tV l).length=l.length *2:=by
 induction l with
 |nil=>rfl
 |cons a l cO=>simp only[tV,RO,iv,fY] at cO⊢;rw[cO];simp;omega
theorem Nw:∀{l:List b3} {i:Nat} (hi:i<l.length),(tV l)[i *2]?=some (I l[i].1)∧(tV l)[i *2+1]?=some (I l[i].2)
 |a::l,0,_=>⟨rfl,rfl⟩
 |a::l,i+1,hi=>by have h:=Nw (l:=l) (i:=i) (by simpa using hi);have e:tV (a::l)=I a.1::I a.2::tV l:=rfl;rw[e,show (i+1) *2=i *2+1+1 by omega];exact h
theorem ait{l:List b3}(h:u∈tV l):u.oneCell'=true:=by obtain⟨p,_,hp⟩:=List.mem_flatMap.1 h;simp at hp;rcases hp with rfl|rfl<;>rfl
theorem h4.news{S:afp}{l:List b3}(h:h4 S w p l)(aA:0<l.length):∃b o,p=some ⟨b,o,none⟩∧∀j u,(tV l)[j]?=some u→w.cell? ((⟨b,o,none⟩:Addr).add j)=some u:=by
 obtain⟨b,o,cs,rfl,_,aK,hc⟩:=h.2 aA;refine⟨b,o,rfl,fun j u hu=>?_⟩;have cd:j<l.length *2:=by rw[←Yk];exact (List.getElem?_eq_some_iff.1 hu).1
 have wH:(⟨b,o,none⟩:Addr).add j=⟨b,o+j,none⟩:=by unfold Addr.add;split<;>simp_all
 rw[wH];obtain⟨aS,av⟩:=hc (j/2) (by omega);obtain⟨g0,g1⟩:=Nw (l:=l) (i:=j/2) (by omega);rcases (show j=j/2 *2∨j=j/2 *2+1 by omega) with e|e
 ·rw[e,g0] at hu;rw[e];rw[←hu];exact cell_of aK aS
 ·rw[e,g1] at hu;rw[e,←wo];rw[←hu];exact cell_of aK av
theorem h4.own{R:afp}{g cap:Nat}{l:List b3}(h:w.ownsRow B jT 2 (ag g 0 n cap) n (tV l))(hn:n=l.length)(ax:l.length≤n9)(hR:∀k,B≤k→R k):h4 R w (some (aj g 0)) l∧l.length≤cap:=by
 subst hn;rcases h.2 with ⟨aY,_⟩|⟨k,mW,cur,aY,bK,aK,hc,_,_,bE⟩
 ·cases aY
 ·injection aY with av _ aC;injection av with av;injection av with av;subst av aC;refine⟨⟨ax,fun aA=>⟨g,0,cur,rfl,hR g bK,aK,fun i hi=>?_⟩⟩,hc⟩;obtain⟨g0,g1⟩:=Nw (l:=l) hi;rw[←bE,sg] at g0 g1;rw[bb (by omega)] at g0 g1;rw[j7];exact⟨by simpa using g0,by simpa using g1⟩
theorem aiu{P:Program}{z:Option Value}(h:(P.info? t).map (fun i=>(i.zero,i.size,i.bytes))=some (z,n,b)):∃i,P.info? t=some i∧i.zero=z∧i.size=n∧i.bytes=b:=by
 cases hi:P.info? t with
 |none=>rw[hi] at h;cases h
 |some i=>
  rw[hi] at h;simp only[yH,n7,gh] at h;exact⟨i,rfl,h.1,h.2.1,h.2.2⟩
theorem aiv(h:w.grownBy w' (Value.slice none 0 0).ownBlock):ao w w w':=⟨h.os,h.tape,h.output,h.size,fun k ay=>h.block k ay (by simp[Value.ownBlock])⟩
theorem Yl(a b:Int)(ha:0≤a∧a≤1000000000)(ax:0≤b∧b≤1000000000)(w:aeo):Calls Tryz.prog 118 #[I a,I b] w fun e w'=>e=ab (I (a+b))∧w'=w:=by
 have av:ae (9223372036854775807-b)=9223372036854775807-b:=cY _ (by omega);have az:ae (a+b)=a+b:=cY _ (by omega);have aC:¬a > 9223372036854775807-b:=by omega
 go_enter Tryz.func118,Tryz.ntmps118;go_wp2_with fail;go_ret;exact⟨rfl,rfl⟩
theorem aiw(p:Ja)(c:Nat)(w:aeo):Calls Tryz.prog 119 #[ad p 0 c] w fun e w'=>e=ab (I 0)∧ao w w w':=by go_enter Tryz.func119,Tryz.ntmps119;go_wp2_with fail;go_ret;exact⟨rfl,Below.refl _ _⟩
theorem aix(k a1 aZ a8 bh cx bu r:Int)(pl:Ja)(n cl:Nat)(pp:Ja)(cp:Nat)(w:aeo):Calls Tryz.prog 79 #[.agg #[I k,I a1,I aZ,I a8,I bh,I cx,I bu,I r,ad pl n cl,ad pp 0 cp]] w fun e w'=>e=ab (I 1)∧ao w w w':=by
 go_enter Tryz.func79,Tryz.ntmps79;go_wp2_with fail;with_reducible refine (aiw pp cp _).mono ?_
 rintro e W ⟨rfl,ax⟩;go_wp2_with fail;with_reducible refine (Yl 1 0 ⟨by decide,by decide⟩ ⟨by decide,by decide⟩ _).mono ?_
 rintro e b4 ⟨rfl,rfl⟩;go_wp2_with fail;go_ret;exact⟨rfl,(jz _ _).trans (ax.mono (jz _ _).size)⟩
theorem aiy(S:afp)(p:Ja)(l:List (List b3))(hne:∀c∈l,0<c.length)(n c:Nat)(hn:n=l.length)(w:aeo)(H:af (iB S w p l)):
  Calls Tryz.prog 80 #[ad p n c] w fun e w'=>∃q d,e=ab (ad q n d)∧n≤d∧iB (fun k=>w.heap.size≤k) w' q l∧ao w w w':=by
 have oa:n≤1000000000:=by rw[hn];exact H.out.1
 have bd:=aq hn;have iM:=aq hne;clear hn hne;by_cases l0:n=0
 ·subst l0;have RR:af (l=[]):=mT bd.out.symm;go_enter Tryz.func80,Tryz.ntmps80;go_wp2_with fail;go_ret;exact⟨none,0,rfl,bx _,by rw[RR.out];exact .nil _ _ _,Below.refl _ _⟩
 have k0:((n:Int)==0)=false:=by simp;omega
 have tt:=zJ (P:=Tryz.prog) 72 78 (J 0) 1 24 Tryz.underlying72 XO n (by omega) (by omega);go_enter Tryz.func80,Tryz.ntmps80;go_wp2_with fail;obtain⟨W,bo⟩:=ar (w.alloc (ai (madeCells #[J 0] n) kW));have il:af (ao w w W):=by show Below _ _ _;rw[←bo];exact a6 _ _
 have zS:af (∃cs,an W w.heap.size cs kW∧cs.size=n∧nf (fun k=>w.heap.size<k) W cs tA l 0):=by refine⟨madeCells #[J 0] n,by rw[←bo];exact bY _ _,Nf _ _,fun i _ h=>absurd h (my _)⟩
 change Code.wp _ _ _ _ (w.alloc (ai (madeCells #[J 0] n) kW));rw[bo];clear bo tt;obtain⟨i0,hi,dy,dJ,dv⟩:=aiu XP;have b8:=aq (And.intro hi (And.intro dy (And.intro dJ dv)));clear hi dy dJ dv
 go_loopw [14] (fun i wr=>∃(j:Nat) (aM:aeo),aM=wr∧j≤n∧i=I j∧af (ao w w aM)∧af (∃cs,an aM w.heap.size cs kW∧cs.size=n∧nf (fun k=>w.heap.size<k) aM cs tA l j)) (fun i _=>n -(intOf i).toNat)
 case atStart=>exact⟨0,_,rfl,dO _,rfl,il.out,zS.out⟩
 case round=>
 obtain⟨j,aM,rfl,cd,rfl,aI,bw⟩:=hrel;by_cases bR:j<n
 ·have fE:j<l.length:=(by rw[←bd.out];exact bR);have gU:(j:Int)<(n:Int):=(by omega);have mB:(0:Int)≤(j:Int):=(by omega);obtain⟨r,hr⟩:=ar (l[j]);obtain⟨fz,w8,ni,na,rfl,I3,_,l2⟩:=H.out.at fE hr;have qm:=bV aI.out I3;have Dy:0<r.length:=iM.out r (by rw[←hr];exact kT _);obtain⟨nb,lH,rfl,zT⟩:=(l2.below aI.out).news Dy;have aiz:=aq zT;have Jc:r.length≤1000000000:=l2.1;have qH:=aq l2.1;obtain⟨m,hm⟩:=ar r.length;have F8:=aq hm;have aiA:=aq hr;rw[hm] at qm Dy Jc;have hlen:(tV r).length=m *2:=(by rw[Yk,hm]);have hN:=aq hlen;obtain⟨cs,iw,iF,eD⟩:=bw.out;have Di:=aq (And.intro iw (And.intro iF eD));have Ym:=lt_of_heap iw;have lO:∀bI,aM.grownBy bI (Value.slice none 0 0).ownBlock→(∃v,ak bI w.heap.size j v)∧bI.frozen? ⟨w.heap.size,j,none⟩=false:=(by intro bI aF;have av:an bI w.heap.size cs kW:=(aF.block _ Ym (by simp[Value.ownBlock])).trans iw;exact⟨IV av (by omega),cJ av j⟩);have aiB:=aq lO;clear I3 l2 zT hr hm iw iF eD hlen lO bw;go_upto_region 7 with fail;go_wp2_with (at_builtin;refine yI _ rfl _ _ _ rfl (w.heap.size+1) jT i0 (.agg #[I 0,I 0]) 2 16 Tryz.underlying78 b8.out.1 b8.out.2.1 b8.out.2.2.1 b8.out.2.2.2 rfl (by omega) (J 0) 0 [] (by rfl) ⟨rfl,.inl ⟨rfl,rfl⟩⟩ (aj nb lH) m na (tV r) (by rfl) hN.out aiz.out ?_ ?_ ?_ ?_ ?_ aM.heap.size ?_ ?_;exact (fun u h=>ait h);exact Dy;(unfold maxLen;omega);omega;exact Ym;rfl;intro g cap bI c0 ep eX iR;obtain⟨⟨v5,b1⟩,cw⟩:=aiB.out bI ep);have dY:=aiv ep;have RS:af (ao w w bI):=aI.out.trans (dY.mono aI.out.size);have RT:=h4.own (R:=fun k=>w.heap.size<k) (l:=r) (by simpa using c0) F8.out.symm qH.out (fun k h=>h);have cr:an bI w.heap.size cs kW:=aU Di.out.1 dY;have zL:aP (fun k=>w.heap.size<k) bI (bI.setCell (aj w.heap.size j) (ag g 0 m cap)):=aP.set (a:=⟨w.heap.size,j,none⟩) (fun h=>mA _ h) _;have Yn:=((Di.out.2.2.keep (aP.dW dY)).keep zL).next (by rw[Di.out.2.1];exact bR) (q:=some ⟨g,0,none⟩) (m:=m) (c:=cap) fE aiA.out F8.out (by have:=RT.2;rw[F8.out] at this;exact this) (by rw[Yj];exact RT.1.keep zL)
  have Dh:af (∃cs,(bI.setCell (aj w.heap.size j) (ag g 0 m cap)).heap[w.heap.size]?=some (.cells cs kW)∧cs.size=n∧nf (fun k=>w.heap.size<k) (bI.setCell (aj w.heap.size j) (ag g 0 m cap)) cs tA l (j+1)):=⟨_,dt _ cr,by rw[yp];exact Di.out.2.1,Yn⟩;have mb:af (ao w w (bI.setCell (aj w.heap.size j) (ag g 0 m cap))):=RS.out.setCell (p:=⟨w.heap.size,j,none⟩) (bx _) _;clear c0 ep eX iR b1 cw dY RT cr zL Yn RS;go_round<;>first|exact⟨j+1,_,rfl,by omega,by go_num,mb.out,Dh.out⟩|(simp[intOf]<;>omega)
 ·have iH:j=n:=(by omega);subst iH;obtain⟨cs,iw,iF,eD⟩:=bw.out;rw[bd.out] at eD;have hc:=nf.cons (R:=fun k=>w.heap.size≤k) (B:=w.heap.size) (eD.mono (fun k _ h=>Du h)) (bx _) iw (by have:=bd.out;show _≤1000000000;omega);rw[ais] at hc;have bC:=aq hc;clear hc iw iF eD;go_wp2_with fail;go_ret;exact⟨_,_,rfl,bx _,bC.out,aI.out⟩
abbrev BF:Value:=.agg #[U false,I 0,I 0,I 0,I 0,I 0,I 0,I 0,I 0,J 0,J 0]
abbrev Nx:Value:=.agg #[I 0,I 0,I 0,I 0,U false]
theorem Jd:(Tryz.prog.info? 77).map (fun i=>(i.zero,i.size,i.bytes))=some (some BF,11,120):=by kernel_rfl
theorem RU:(Tryz.prog.info? 248).map (fun i=>(i.zero,i.size,i.bytes))=some (some Nx,5,40):=by kernel_rfl
theorem info_parts{P:Program}{z:Option Value}(h:(P.info? t).map (fun i=>(i.zero,i.size,i.bytes))=some (z,n,b)):∃i,P.info? t=some i∧i.zero=z∧i.size=n∧i.bytes=b:=by
 cases hi:P.info? t with
 |none=>rw[hi] at h;cases h
 |some i=>
  rw[hi] at h;simp only[yH,n7,gh] at h;exact⟨i,rfl,h.1,h.2.1,h.2.2⟩
structure rD(S:afp)(w0:aeo)(g:Nat)(gs:ajv)(b:ck)(os:List eu)(es:List (ck×Bool))(fc fw:ada)(x:aeo):Prop where
 vt:an x g gs ja
 a8:x.heap[g+1]?=some (cV b)
 res:an x (g+1+1) (#[J 0,J 0]) ja
 n:sH S w0 (g+1+1+1) os es fc fw x
theorem rD.below{S:afp}{w0:aeo}{g:Nat}{gs:ajv}{b:ck}{os:List eu}{es:List (ck×Bool)}{fc fw:ada}{x y:aeo}(h:rD S w0 g gs b os es fc fw x)(ax:ao x x y):rD S w0 g gs b os es fc fw y:=⟨aU h.vt ax,aU h.a8 ax,aU h.res ax,h.n.below ax⟩
theorem BG{xs:aev}{X y:aeo}{i:Nat}{R:Nat}{o:Obj}(bm:X.ownsRow B e bD v n xs)(aF:X.grownBy y v.ownBlock)(ay:k<B)(hR:k≠R)(h:X.heap[k]?=some o):(y.setCell (aj R i) u).heap[k]?=some o:=
 (iK hR).trans ((aF.block k (lt_of_heap h) (fun e=>by have:=(bm.lt k e.symm).1;omega)).trans h)
theorem rD.zR{S:afp}{w0:aeo}{g:Nat}{gs:ajv}{b:ck}{os:List eu}{es:List (ck×Bool)}{fc fw rC:ada}{X y:aeo}{xs:aev}{d:Bool}{bs:dm}{s:bk}{pl:Ja}{cl:Nat}{pp:Ja}{cp:Nat}{V:aev}
  (h:rD S w0 g gs b os es fc fw X) (lq:X.ownsRow (g+1+1+1+1) dq 11 fc os.length xs) (hp:ds S X (pB os) xs) (hS:∀k,S k→k<g+1+1+1) (hR:w0.heap.size≤g)
  (aF:X.grownBy y fc.ownBlock) (nk:V=U d::lF bs (ad pl bs.l.length cl) (ad pp s.len cp)) (c0:y.ownsRow (g+1+1+1+1) dq 11 rC (os.length+1) (xs++V)) (ax:dE S X pl cl pp cp ⟨bs,s⟩):
  rD S w0 g gs b (os++[(d,⟨bs,s⟩)]) es rC fw (y.setCell (aj (g+1+1+1) 0) rC):=by
 subst nk;exact⟨BG lq aF (by omega) (by omega) h.vt,BG lq aF (by omega) (by omega) h.a8,BG lq aF (by omega) (by omega) h.res,sH.zR (x:=X) h.n.r lq hp h.n.e h.n.aX hS (by omega) aF c0 ax⟩
theorem rD.Dx{S:afp}{w0:aeo}{g:Nat}{gs:ajv}{b:ck}{os:List eu}{es:List (ck×Bool)}{fc fw sI:ada}{X y:aeo}{c:ck}{a:Bool}
  (h:rD S w0 g gs b os es fc fw X) (hS:∀k,S k→k<g+1+1+1) (hR:w0.heap.size≤g)
  (aF:X.grownBy y fw.ownBlock) (c0:y.ownsRow (g+1+1+1+1) jG 5 sI (es.length+1) (oq es++BD c a)):
  rD S w0 g gs b os (es++[(c,a)]) fc sI (y.setCell (aj (g+1+1+1) 1) sI):=
 ⟨BG h.n.e aF (by omega) (by omega) h.vt,BG h.n.e aF (by omega) (by omega) h.a8,BG h.n.e aF (by omega) (by omega) h.res,h.n.Dx hS (by omega) aF c0⟩
theorem aiC(l:List fL)(b:ck)(x:fL)(y:Bool)(h:(x.any || !FB x.b b)=y):gV (l++[x]) b=if y=true then gV l b++[x] else gV l b:=by
 unfold gV;rw[List.filter_append];cases y with
 |true=>simp[h]
 |false=>simp[h]
theorem Je(l:List fL)(b:ck):(gV l b).length≤l.length:=WS _ _
abbrev yJ(l:List fL):List eu:=l.map fL.o
abbrev yK(l:List fL):List (ck×Bool):=l.map fun e=>(e.b,e.any)
theorem ot{a b:ada}(h:an w k (#[a,b]) t):ak w k 0 a∧ak w k 1 b:=by constructor<;>simp[World.cell?,h]
theorem RV{a b c d e:ada}(h:an w k (#[a,b,c,d,e]) t):ak w k 0 a∧ak w k 1 b∧ak w k 2 c∧ak w k 3 d∧ak w k 4 e:=by refine⟨?_,?_,?_,?_,?_⟩<;>simp[World.cell?,h]
theorem Jf(S:afp)(g:List fL)(p q:Ja)(n c d:Nat)(b:ck)(hn:n=g.length)(w:aeo)(H:af (me S w p q g)):
  Calls Tryz.prog 86 #[.agg (lp p n c q d),h5 b] w fun e w'=>∃ik c' jD fx,e=ab (.agg (lp ik (gV g b).length c' jD fx))∧me (fun k=>S k∨w.heap.size≤k) w' ik jD (gV g b)∧ao w w w':=by
 have oa:n≤1000000000:=by rw[hn];have:=H.out.o.1;simpa using this
 have bd:=aq hn;have e0:af (me (fun k=>S k∧k<w.heap.size) w p q g):=H.out.mono (fun k av az=>⟨az,av⟩);have db:af (∀k,(S k∧k<w.heap.size)→k<w.heap.size+1+1+1):=fun k h=>by omega
 obtain⟨nO,tW⟩:∃nO:afp,(fun k=>S k∧k<w.heap.size)=nO:=⟨_,rfl⟩;have vu:af (∀k,nO k→S k):=by rw[←tW];exact fun k h=>h.1
 have ke:af (∀k,nO k→k<w.heap.size+1+1+1):=by rw[←tW];exact db.out
 have p1:af (∀k,nO k→k<w.heap.size):=by rw[←tW];exact fun k h=>h.2
 rw[tW] at e0;obtain⟨aD,aE,aL,aH⟩:=b;clear hn tW H db;go_enter Tryz.func86,Tryz.ntmps86;go_upto_region 2 with fail;obtain⟨W,bo⟩:=ar ((((w.alloc (ai (lp p n c q d) ja)).alloc (cV ⟨aD,aE,aL,aH⟩)).alloc (ai (#[J 0,J 0]) ja)).alloc (ai (#[J 0,J 0]) ja));have bH:af (rD nO w w.heap.size (lp p n c q d) ⟨aD,aE,aL,aH⟩ [] [] (J 0) (J 0) W):=by obtain⟨av,az,aC,bt,ax⟩:=zE bo;exact⟨av,az,aC,bt,⟨[],⟨rfl,.inl ⟨rfl,rfl⟩⟩,trivial⟩,⟨rfl,.inl ⟨rfl,rfl⟩⟩,ax⟩
 rw[bo];clear bo;obtain⟨g0,g1⟩:=ot bH.out.vt;go_wp2_with fail
 go_loopw [11] (fun i wr=>∃(j:Nat) (fc fw:ada) (aM:aeo),aM=wr∧j≤n∧i=I j∧af (rD nO w w.heap.size (lp p n c q d) ⟨aD,aE,aL,aH⟩ (yJ (gV (g.take j) ⟨aD,aE,aL,aH⟩)) (yK (gV (g.take j) ⟨aD,aE,aL,aH⟩)) fc fw aM)) (fun i _=>n -(intOf i).toNat)
 case atStart=>exact⟨0,_,_,_,rfl,dO _,rfl,bH.out⟩
 case round=>
 obtain⟨j,fc,fw,aM,rfl,cd,rfl,aI⟩:=hrel;clear g0 g1 bH;obtain⟨p2,tX⟩:=ar (yJ (gV (g.take j) ⟨aD,aE,aL,aH⟩));obtain⟨yL,Dz⟩:=ar (yK (gV (g.take j) ⟨aD,aE,aL,aH⟩));rw[tX,Dz] at aI;have tY:=aq tX.symm;have lP:=aq Dz.symm;clear tX Dz;by_cases bR:j<n
 ·have fE:j<g.length:=(by rw[←bd.out];exact bR);have gU:(j:Int)<(n:Int):=(by omega);obtain⟨⟨⟨od,⟨aB,os⟩⟩,⟨kf,kg,kh,ki⟩,sJ⟩,aR⟩:=ar (g[j]);obtain⟨ht,lg,pl,cl,pp,cp,rfl,qt,_,el,aQ,aN,aJ,c3,bF,c5,bZ,b',bU,bg,cH⟩:=e0.out.o.at (n:=j) (by rw[gO];exact fE) (show (g.map fL.o)[j]'(by rw[gO];exact fE)=(od,⟨aB,os⟩) by rw[IS,aR]);obtain⟨avU,avV,rfl,ek,a7,bf,cM,hO⟩:=e0.out.e.at (i:=j) (by rw[gO];exact fE) (show (g.map fun e=>(e.b,e.any))[j]'(by rw[gO];exact fE)=(⟨kf,kg,kh,ki⟩,sJ) by rw[IS,aR]);have o3:=aq el;obtain⟨nl,gj⟩:=ar aB.l.length;obtain⟨mp,zU⟩:=ar os.len;have qs:=aq gj;have Ny:=aq zU;rw[gj] at bg;rw[zU] at cH;clear gj zU;have dQ:=aI.out.n.aX;have bl:=aq (And.intro (bV dQ ek) (And.intro (bV dQ a7) (And.intro (bV dQ bf) (And.intro (bV dQ cM) (bV dQ hO)))));have b6:=aq (And.intro aQ (And.intro aN (And.intro aJ (And.intro c3 (And.intro bF (And.intro c5 (And.intro bZ (And.intro b' (And.intro bU (And.intro bg cH))))))))));clear aQ aN aJ c3 bF c5 bZ b' bU bg cH ek a7 bf cM hO el dQ;obtain⟨y,hy⟩:=ar (sJ || !FB ⟨kf,kg,kh,ki⟩ ⟨aD,aE,aL,aH⟩);have vq:=aq (aiC (g.take j) ⟨aD,aE,aL,aH⟩ ⟨(od,⟨aB,os⟩),⟨kf,kg,kh,ki⟩,sJ⟩ y hy);have sK:af (g.take (j+1)=g.take j++[⟨(od,⟨aB,os⟩),⟨kf,kg,kh,ki⟩,sJ⟩]):=(by show _=_;rw[wy fE,aR]);obtain⟨nm,ru⟩:=ar (FB ⟨kf,kg,kh,ki⟩ ⟨aD,aE,aL,aH⟩);have o4:=aq ru;rw[ru] at hy;have c1:=aq hy;clear aR hy ru;obtain⟨ek,a7,bf,cM,hO⟩:=bl.out;go_upto_region 5 with fail;have cC:=aq (aI.out.below (a6 aM (ai (#[I kf,I kg,I kh,I ki,U sJ]) jG)));have jl:af ((aM.alloc (ai (#[I kf,I kg,I kh,I ki,U sJ]) jG)).heap[aM.heap.size]?=some (.cells #[I kf,I kg,I kh,I ki,U sJ] jG)):=bY _ _;generalize aM.alloc (.cells #[I kf,I kg,I kh,I ki,U sJ] jG)=b7 at cC jl⊢;obtain⟨ex,hex⟩:=ar aM.heap.size;rw[hex] at jl⊢;clear ek a7 bf cM hO hex aI bl;obtain⟨z0,z1,z2,z3,z4⟩:=RV jl.out;obtain⟨cu,cS,bq,fA⟩:=gW cC.out.a8;cases sJ with
  |true=>
   have aO:af (gV (g.take (j+1)) ⟨aD,aE,aL,aH⟩=gV (g.take j) ⟨aD,aE,aL,aH⟩++[⟨(od,⟨aB,os⟩),⟨kf,kg,kh,ki⟩,true⟩]):=(by show _=_;rw[sK.out,vq.out,←c1.out];rfl);obtain⟨xs,qJ,BH⟩:=cC.out.n.o;obtain⟨jY,jZ,rfl⟩:=jH qJ;obtain⟨jI,mJ,rfl⟩:=jH cC.out.n.e;obtain⟨m2,jB⟩:=ar yL.length;have Yo:m2≤1000000000:=(by rw[←jB,lP.out,gO];have:=Je (g.take j) ⟨aD,aE,aL,aH⟩;rw[kU] at this;omega);have cA:=aq jB;obtain⟨m,hm⟩:=ar p2.length;have DA:m≤1000000000:=(by rw[←hm,tY.out,gO];have:=Je (g.take j) ⟨aD,aE,aL,aH⟩;rw[kU] at this;omega);have w9:=aq hm;have sL:af (b7.ownsRow (w.heap.size+1+1+1+1) dq 11 (ad jY p2.length jZ) p2.length xs):=qJ;have yC:=aq BH;have Yp:=cC.out.n.aX.size;have DB:=lt_of_heap cC.out.n.r;have mf:=aq (cC.out.below ((a6 b7 (ai (#[U od,I aB.k,I aB.a.1,I aB.a.2,I aB.b.1,I aB.b.2,I aB.c.1,I aB.c.2,I aB.r,ad pl nl cl,ad pp mp cp]) dq)).drew));rw[hm,jB] at cC mf;rw[hm] at sL;have jb:af (((b7.alloc (ai (#[U od,I aB.k,I aB.a.1,I aB.a.2,I aB.b.1,I aB.b.2,I aB.c.1,I aB.c.2,I aB.r,ad pl nl cl,ad pp mp cp]) dq)).drew).ownsRow (w.heap.size+1+1+1+1) dq 11 (ad jY m jZ) m xs):=(sL.out.alloc _).drew;have lO:∀(cW:aeo),((b7.alloc (ai (#[U od,I aB.k,I aB.a.1,I aB.a.2,I aB.b.1,I aB.b.2,I aB.c.1,I aB.c.2,I aB.r,ad pl nl cl,ad pp mp cp]) dq)).drew).grownBy cW (Value.slice jY m jZ).ownBlock→ak cW (w.heap.size+1+1+1) 0 (ad jY m jZ)∧cW.frozen? ⟨w.heap.size+1+1+1,0,none⟩=false:=(by intro cW tZ;have av:an cW (w.heap.size+1+1+1) (#[ad jY m jZ,ad jI m2 mJ]) ja:=(tZ.block _ (lt_of_heap mf.out.n.r) (fun e=>by have:=(jb.out.lt _ e.symm).1;omega)).trans mf.out.n.r;exact⟨(ot av).1,cJ av 0⟩);clear qJ BH hm jB;have RW:=lt_of_heap jl.out;obtain⟨i0,hi,dy,dJ,dv⟩:=info_parts Jd;have b8:=aq (And.intro hi (And.intro dy (And.intro dJ dv)));clear hi dy dJ dv;obtain⟨ju,iJ⟩:=ot cC.out.n.r;have fr:=cJ cC.out.n.r;obtain⟨g0,g1⟩:=ot cC.out.vt;obtain⟨aQ,aN,aJ,c3,bF,c5,bZ,b',bU,bg,cH⟩:=b6.out;have dQ:=cC.out.n.aX;have d0:=bV dQ aQ;have d1:=bV dQ aN;have d2:=bV dQ aJ;have d3:=bV dQ c3;have d4:=bV dQ bF;have d5:=bV dQ c5;have d6:=bV dQ bZ;have d7:=bV dQ b';have d8:=bV dQ bU;have d9:=bV dQ bg;have d10:=bV dQ cH;clear aQ aN aJ c3 bF c5 bZ b' bU bg cH dQ;go_upto_region 6 with fail
   go_region_law (first|(refine BC _ (by rfl) _ _ _ (by rfl) (w.heap.size+1+1+1+1) dq i0 BF 11 120 Dv b8.out.1 b8.out.2.1 b8.out.2.2.1 b8.out.2.2.2 rfl (by omega) (ad jY m jZ) m _ (by rfl) jb.out (aj b7.heap.size 0) 1 1 [U od,I aB.k,I aB.a.1,I aB.a.2,I aB.b.1,I aB.b.2,I aB.c.1,I aB.c.2,I aB.r,ad pl nl cl,ad pp mp cp] (by rfl) (by rfl) (j8 (cs:= #[U od,I aB.k,I aB.a.1,I aB.a.2,I aB.b.1,I aB.b.2,I aB.c.1,I aB.c.2,I aB.r,ad pl nl cl,ad pp mp cp]) (t:=dq) (fr:=(0,0)) (fJ b7 _)) (by simp[Value.oneCell']) (by omega) (by unfold maxLen;omega) (by omega) (by simp;omega) (b7.heap.size+1) (by simp) ?_;intro ed jc cW c0 ep eX iR;obtain⟨b1,cw⟩:=lO cW ep)|fail)
   all_goals
    have dV:=aq (rD.zR (d:=od) (bs:=aB) (s:=os) (pl:=pl) (cl:=cl) (pp:=pp) (cp:=cp) mf.out (by rw[w9.out];exact jb.out) (yC.out.below ((a6 b7 (ai (#[U od,I aB.k,I aB.a.1,I aB.a.2,I aB.b.1,I aB.b.2,I aB.c.1,I aB.c.2,I aB.r,ad pl nl cl,ad pp mp cp]) dq)).drew)) ke.out (bx _) ep (show [U od,I aB.k,I aB.a.1,I aB.a.2,I aB.b.1,I aB.b.2,I aB.c.1,I aB.c.2,I aB.r,ad pl nl cl,ad pp mp cp]=U od::lF aB (ad pl aB.l.length cl) (ad pp os.len cp) by rw[qs.out,Ny.out]) (by rw[w9.out];exact c0) (o3.out.below mf.out.n.aX));have ku:af ((cW.setCell (aj (w.heap.size+1+1+1) 0) (ag ed 0 (m+1) jc)).heap[ex]?=some (.cells #[I kf,I kg,I kh,I ki,U true] jG)):=(by have av:((b7.alloc (ai (#[U od,I aB.k,I aB.a.1,I aB.a.2,I aB.b.1,I aB.b.2,I aB.c.1,I aB.c.2,I aB.r,ad pl nl cl,ad pp mp cp]) dq)).drew).heap[ex]?=some (.cells #[I kf,I kg,I kh,I ki,U true] jG):=aU jl.out ((a6 b7 (ai (#[U od,I aB.k,I aB.a.1,I aB.a.2,I aB.b.1,I aB.b.2,I aB.c.1,I aB.c.2,I aB.r,ad pl nl cl,ad pp mp cp]) dq)).drew);have az:ex≠w.heap.size+1+1+1:=(by intro e;have aC:=mf.out.n.r;rw[←e,av] at aC;injection aC with aC;injection aC with _ aC;exact absurd aC (by decide));exact (iK az).trans ((ep.block ex (lt_of_heap av) (gu (m' jb.out av (by decide)))).trans av));clear c0 ep eX iR b1 cw d0 d1 d2 d3 d4 d5 d6 d7 d8 d9 d10 g0 g1 ju iJ fr DB RW;generalize cW.setCell (aj (w.heap.size+1+1+1) 0) (ad (some (aj ed 0)) (m+1) jc)=c9 at dV ku⊢;obtain⟨lN,hi,dy,dJ,dv⟩:=info_parts RU;have cG:=aq (And.intro hi (And.intro dy (And.intro dJ dv)));clear hi dy dJ dv;obtain⟨ju,iJ⟩:=ot dV.out.n.r;have fr:=cJ dV.out.n.r;obtain⟨z0,z1,z2,z3,z4⟩:=RV ku.out;have t':=aq (dV.out.below (a6 c9 (ai (#[I kf,I kg,I kh,I ki,U true]) jG)));have Jg:(c9.alloc (ai (#[I kf,I kg,I kh,I ki,U true]) jG)).ownsRow (w.heap.size+1+1+1+1) jG 5 (ad jI m2 mJ) m2 (oq yL):=(by have:=t'.out.n.e;rw[cA.out] at this;exact this);have Jh:=aq Jg;have iF:=dV.out.n.aX.size;have yM:=lt_of_heap dV.out.n.r;have RX:∀(cW:aeo),(c9.alloc (ai (#[I kf,I kg,I kh,I ki,U true]) jG)).grownBy cW (Value.slice jI m2 mJ).ownBlock→ak cW (w.heap.size+1+1+1) 1 (ad jI m2 mJ)∧cW.frozen? ⟨w.heap.size+1+1+1,1,none⟩=false:=(by intro cW tZ;have av:=(tZ.block _ (lt_of_heap t'.out.n.r) (fun e=>by have:=(Jh.out.lt _ e.symm).1;omega)).trans t'.out.n.r;exact⟨(ot av).2,cJ av 1⟩);clear Jg;go_wp2_with (at_builtin;refine yI _ rfl _ _ _ rfl (w.heap.size+1+1+1+1) jG lN Nx 5 40 RP cG.out.1 cG.out.2.1 cG.out.2.2.1 cG.out.2.2.2 rfl (by omega) (ad jI m2 mJ) m2 _ (by rfl) Jh.out (aj c9.heap.size 0) 1 1 [I kf,I kg,I kh,I ki,U true] (by rfl) (by rfl) (j8 (cs:= #[I kf,I kg,I kh,I ki,U true]) (t:=jG) (fr:=(0,0)) (fJ c9 _)) (by simp[Value.oneCell']) (by omega) (by unfold maxLen;omega) (by omega) (by simp;omega) (c9.heap.size+1) (by simp) ?_;intro ge Ji bI c0 ep eX iR;obtain⟨b1,cw⟩:=RX bI ep);have gb:=aq (rD.Dx (c:=⟨kf,kg,kh,ki⟩) (a:=true) t'.out ke.out (bx _) ep (by rw[cA.out];exact c0));clear c0 ep eX iR b1 cw ju iJ fr z0 z1 z2 z3 z4;have a7:yJ (gV (g.take (j+1)) ⟨aD,aE,aL,aH⟩)=p2++[(od,⟨aB,os⟩)]:=(by rw[aO.out,yJ,qI,tY.out];rfl);have bf:yK (gV (g.take (j+1)) ⟨aD,aE,aL,aH⟩)=yL++[(⟨kf,kg,kh,ki⟩,true)]:=(by rw[aO.out,yK,qI,lP.out];rfl);rw[←a7,←bf] at gb;go_round<;>first|exact⟨j+1,_,_,_,rfl,by omega,by go_num,gb.out⟩|(simp[intOf]<;>omega)
  |false=>
   go_wp2_with fail;with_reducible refine (ahn ⟨kf,kg,kh,ki⟩ ⟨aD,aE,aL,aH⟩ nm o4 _).mono ?_
   rintro e b4 ⟨rfl,ax⟩;have c6:=aq (cC.out.below ax);have kp:=aq (aU jl.out ax);clear cu cS bq fA z0 z1 z2 z3 z4 ax jl cC;cases nm with
   |true=>
    have aO:af (gV (g.take (j+1)) ⟨aD,aE,aL,aH⟩=gV (g.take j) ⟨aD,aE,aL,aH⟩):=(by show _=_;rw[sK.out,vq.out,←c1.out];rfl);go_wp2_with fail;go_round<;>first|exact⟨j+1,_,_,_,rfl,by omega,by go_num,by rw[aO.out,←tY.out,←lP.out];exact c6.out⟩|(simp[intOf]<;>omega)
   |false=>
    have aO:af (gV (g.take (j+1)) ⟨aD,aE,aL,aH⟩=gV (g.take j) ⟨aD,aE,aL,aH⟩++[⟨(od,⟨aB,os⟩),⟨kf,kg,kh,ki⟩,false⟩]):=(by show _=_;rw[sK.out,vq.out,←c1.out];rfl);obtain⟨xs,qJ,BH⟩:=c6.out.n.o;obtain⟨jY,jZ,rfl⟩:=jH qJ;obtain⟨jI,mJ,rfl⟩:=jH c6.out.n.e;obtain⟨m2,jB⟩:=ar yL.length;have Yo:m2≤1000000000:=(by rw[←jB,lP.out,gO];have:=Je (g.take j) ⟨aD,aE,aL,aH⟩;rw[kU] at this;omega);have cA:=aq jB;obtain⟨m,hm⟩:=ar p2.length;have DA:m≤1000000000:=(by rw[←hm,tY.out,gO];have:=Je (g.take j) ⟨aD,aE,aL,aH⟩;rw[kU] at this;omega);have w9:=aq hm;have sL:af (b4.ownsRow (w.heap.size+1+1+1+1) dq 11 (ad jY p2.length jZ) p2.length xs):=qJ;have yC:=aq BH;have Yp:=c6.out.n.aX.size;have DB:=lt_of_heap c6.out.n.r;have mf:=aq (c6.out.below ((a6 b4 (ai (#[U od,I aB.k,I aB.a.1,I aB.a.2,I aB.b.1,I aB.b.2,I aB.c.1,I aB.c.2,I aB.r,ad pl nl cl,ad pp mp cp]) dq)).drew));rw[hm,jB] at c6 mf;rw[hm] at sL;have jb:af (((b4.alloc (ai (#[U od,I aB.k,I aB.a.1,I aB.a.2,I aB.b.1,I aB.b.2,I aB.c.1,I aB.c.2,I aB.r,ad pl nl cl,ad pp mp cp]) dq)).drew).ownsRow (w.heap.size+1+1+1+1) dq 11 (ad jY m jZ) m xs):=(sL.out.alloc _).drew;have lO:∀(cW:aeo),((b4.alloc (ai (#[U od,I aB.k,I aB.a.1,I aB.a.2,I aB.b.1,I aB.b.2,I aB.c.1,I aB.c.2,I aB.r,ad pl nl cl,ad pp mp cp]) dq)).drew).grownBy cW (Value.slice jY m jZ).ownBlock→ak cW (w.heap.size+1+1+1) 0 (ad jY m jZ)∧cW.frozen? ⟨w.heap.size+1+1+1,0,none⟩=false:=(by intro cW tZ;have av:an cW (w.heap.size+1+1+1) (#[ad jY m jZ,ad jI m2 mJ]) ja:=(tZ.block _ (lt_of_heap mf.out.n.r) (fun e=>by have:=(jb.out.lt _ e.symm).1;omega)).trans mf.out.n.r;exact⟨(ot av).1,cJ av 0⟩);clear qJ BH hm jB;have RW:=lt_of_heap kp.out;obtain⟨i0,hi,dy,dJ,dv⟩:=info_parts Jd;have b8:=aq (And.intro hi (And.intro dy (And.intro dJ dv)));clear hi dy dJ dv;obtain⟨ju,iJ⟩:=ot c6.out.n.r;have fr:=cJ c6.out.n.r;obtain⟨g0,g1⟩:=ot c6.out.vt;obtain⟨aQ,aN,aJ,c3,bF,c5,bZ,b',bU,bg,cH⟩:=b6.out;have dQ:=c6.out.n.aX;have d0:=bV dQ aQ;have d1:=bV dQ aN;have d2:=bV dQ aJ;have d3:=bV dQ c3;have d4:=bV dQ bF;have d5:=bV dQ c5;have d6:=bV dQ bZ;have d7:=bV dQ b';have d8:=bV dQ bU;have d9:=bV dQ bg;have d10:=bV dQ cH;clear aQ aN aJ c3 bF c5 bZ b' bU bg cH dQ;go_upto_region 6 with fail
    go_region_law (first|(refine BC _ (by rfl) _ _ _ (by rfl) (w.heap.size+1+1+1+1) dq i0 BF 11 120 Dv b8.out.1 b8.out.2.1 b8.out.2.2.1 b8.out.2.2.2 rfl (by omega) (ad jY m jZ) m _ (by rfl) jb.out (aj b4.heap.size 0) 1 1 [U od,I aB.k,I aB.a.1,I aB.a.2,I aB.b.1,I aB.b.2,I aB.c.1,I aB.c.2,I aB.r,ad pl nl cl,ad pp mp cp] (by rfl) (by rfl) (j8 (cs:= #[U od,I aB.k,I aB.a.1,I aB.a.2,I aB.b.1,I aB.b.2,I aB.c.1,I aB.c.2,I aB.r,ad pl nl cl,ad pp mp cp]) (t:=dq) (fr:=(0,0)) (fJ b4 _)) (by simp[Value.oneCell']) (by omega) (by unfold maxLen;omega) (by omega) (by simp;omega) (b4.heap.size+1) (by simp) ?_;intro ed jc cW c0 ep eX iR;obtain⟨b1,cw⟩:=lO cW ep)|fail)
    all_goals
     have dV:=aq (rD.zR (d:=od) (bs:=aB) (s:=os) (pl:=pl) (cl:=cl) (pp:=pp) (cp:=cp) mf.out (by rw[w9.out];exact jb.out) (yC.out.below ((a6 b4 (ai (#[U od,I aB.k,I aB.a.1,I aB.a.2,I aB.b.1,I aB.b.2,I aB.c.1,I aB.c.2,I aB.r,ad pl nl cl,ad pp mp cp]) dq)).drew)) ke.out (bx _) ep (show [U od,I aB.k,I aB.a.1,I aB.a.2,I aB.b.1,I aB.b.2,I aB.c.1,I aB.c.2,I aB.r,ad pl nl cl,ad pp mp cp]=U od::lF aB (ad pl aB.l.length cl) (ad pp os.len cp) by rw[qs.out,Ny.out]) (by rw[w9.out];exact c0) (o3.out.below mf.out.n.aX));have ku:af ((cW.setCell (aj (w.heap.size+1+1+1) 0) (ag ed 0 (m+1) jc)).heap[ex]?=some (.cells #[I kf,I kg,I kh,I ki,U false] jG)):=(by have av:((b4.alloc (ai (#[U od,I aB.k,I aB.a.1,I aB.a.2,I aB.b.1,I aB.b.2,I aB.c.1,I aB.c.2,I aB.r,ad pl nl cl,ad pp mp cp]) dq)).drew).heap[ex]?=some (.cells #[I kf,I kg,I kh,I ki,U false] jG):=aU kp.out ((a6 b4 (ai (#[U od,I aB.k,I aB.a.1,I aB.a.2,I aB.b.1,I aB.b.2,I aB.c.1,I aB.c.2,I aB.r,ad pl nl cl,ad pp mp cp]) dq)).drew);have az:ex≠w.heap.size+1+1+1:=(by intro e;have aC:=mf.out.n.r;rw[←e,av] at aC;injection aC with aC;injection aC with _ aC;exact absurd aC (by decide));exact (iK az).trans ((ep.block ex (lt_of_heap av) (gu (m' jb.out av (by decide)))).trans av));clear c0 ep eX iR b1 cw d0 d1 d2 d3 d4 d5 d6 d7 d8 d9 d10 g0 g1 ju iJ fr DB RW;generalize cW.setCell (aj (w.heap.size+1+1+1) 0) (ad (some (aj ed 0)) (m+1) jc)=c9 at dV ku⊢;obtain⟨lN,hi,dy,dJ,dv⟩:=info_parts RU;have cG:=aq (And.intro hi (And.intro dy (And.intro dJ dv)));clear hi dy dJ dv;obtain⟨ju,iJ⟩:=ot dV.out.n.r;have fr:=cJ dV.out.n.r;obtain⟨z0,z1,z2,z3,z4⟩:=RV ku.out;have t':=aq (dV.out.below (a6 c9 (ai (#[I kf,I kg,I kh,I ki,U false]) jG)));have Jg:(c9.alloc (ai (#[I kf,I kg,I kh,I ki,U false]) jG)).ownsRow (w.heap.size+1+1+1+1) jG 5 (ad jI m2 mJ) m2 (oq yL):=(by have:=t'.out.n.e;rw[cA.out] at this;exact this);have Jh:=aq Jg;have iF:=dV.out.n.aX.size;have yM:=lt_of_heap dV.out.n.r;have RX:∀(cW:aeo),(c9.alloc (ai (#[I kf,I kg,I kh,I ki,U false]) jG)).grownBy cW (Value.slice jI m2 mJ).ownBlock→ak cW (w.heap.size+1+1+1) 1 (ad jI m2 mJ)∧cW.frozen? ⟨w.heap.size+1+1+1,1,none⟩=false:=(by intro cW tZ;have av:=(tZ.block _ (lt_of_heap t'.out.n.r) (fun e=>by have:=(Jh.out.lt _ e.symm).1;omega)).trans t'.out.n.r;exact⟨(ot av).2,cJ av 1⟩);clear Jg;go_wp2_with (at_builtin;refine yI _ rfl _ _ _ rfl (w.heap.size+1+1+1+1) jG lN Nx 5 40 RP cG.out.1 cG.out.2.1 cG.out.2.2.1 cG.out.2.2.2 rfl (by omega) (ad jI m2 mJ) m2 _ (by rfl) Jh.out (aj c9.heap.size 0) 1 1 [I kf,I kg,I kh,I ki,U false] (by rfl) (by rfl) (j8 (cs:= #[I kf,I kg,I kh,I ki,U false]) (t:=jG) (fr:=(0,0)) (fJ c9 _)) (by simp[Value.oneCell']) (by omega) (by unfold maxLen;omega) (by omega) (by simp;omega) (c9.heap.size+1) (by simp) ?_;intro ge Ji bI c0 ep eX iR;obtain⟨b1,cw⟩:=RX bI ep);have gb:=aq (rD.Dx (c:=⟨kf,kg,kh,ki⟩) (a:=false) t'.out ke.out (bx _) ep (by rw[cA.out];exact c0));clear c0 ep eX iR b1 cw ju iJ fr z0 z1 z2 z3 z4;have a7:yJ (gV (g.take (j+1)) ⟨aD,aE,aL,aH⟩)=p2++[(od,⟨aB,os⟩)]:=(by rw[aO.out,yJ,qI,tY.out];rfl);have bf:yK (gV (g.take (j+1)) ⟨aD,aE,aL,aH⟩)=yL++[(⟨kf,kg,kh,ki⟩,false)]:=(by rw[aO.out,yK,qI,lP.out];rfl);rw[←a7,←bf] at gb;go_round<;>first|exact⟨j+1,_,_,_,rfl,by omega,by go_num,gb.out⟩|(simp[intOf]<;>omega)
 ·have iH:j=n:=(by omega);subst iH;have dr:af (g.take j=g):=(by show _=_;rw[bd.out];exact uJ);rw[dr.out] at tY lP;have h9:=aI.out.n;rw[tY.out,lP.out] at h9;obtain⟨ik,c',jD,fx,Jj,Jk,xa⟩:=h9.done (R':=fun k=>nO k∨w.heap.size+1+1+1+1≤k) (by have av:=Je g ⟨aD,aE,aL,aH⟩;have az:=bd.out;show _≤1000000000;omega) (fun k h=>.inl h) (fun k h=>.inr h);have DC:=aq xa;obtain⟨L,jJ⟩:=ar ((gV g ⟨aD,aE,aL,aH⟩).length);have DD:=aq jJ;rw[jJ] at Jj Jk;subst Jj Jk;clear h9 xa jJ;obtain⟨ju,iJ⟩:=ot aI.out.n.r;obtain⟨u0,u1⟩:=ot aI.out.res;have fu:=cJ aI.out.res;go_wp2_with fail;have jX:=oh [ad ik L c',ad jD L fx] aI.out.res rfl;have ax:=ss (m:=0) (b:=w.heap.size+1+1) (show w.heap.size≤w.heap.size+1+1 by omega) [ad ik L c',ad jD L fx] aI.out.n.aX;refine dU (tK rfl _ _ (w.heap.size+1+1) _ _ _ _ rfl jX Tryz.underlying201 rfl (by kernel_rfl)) rfl ⟨ik,c',jD,fx,by rw[DD.out],?_,ax⟩;refine (DC.out.keep (wY (S:=fun k=>nO k∨w.heap.size+1+1+1+1≤k) (b:=w.heap.size+1+1) (m:=0) (fun h=>?_) [ad ik L c',ad jD L fx])).mono (fun k _ h=>?_)
  ·rcases h with h|h
   ·have:=p1.out _ h;omega
   ·omega
  ·rcases h with h|h
   ·exact .inl (vu.out k h)
   ·exact .inr (by omega)
end dd
