/- Lemmas. -/
import Derived.Test.YtfldplmgkeiimaaGreatDoorQ13
set_option linter.all false
set_option maxRecDepth 100000
set_option maxHeartbeats 12800000
namespace Go.Proofs.YtfldplmgkeiimaaGreatDoor
abbrev O4:=@wpList_make_own
namespace c4
open Go.RowKit dH
def Plain(s:dK):Prop:=Full s∧s.p.count≤100000000
def tB(S:afp)(w:aeo):List dK→aev→Prop
 |[],_=>True
 |s::l,xs=>(∃(pl:Ja) (cl:Nat) (pp:Ja) (cp:Nat),xs.take 10=ke s.b (ad pl s.b.l.length cl) (ad pp s.p.len cp)∧dv S w pl cl pp cp s)∧tB S w l (xs.drop 10)
def wC(S:afp)(w:aeo)(p:Ja)(l:List dK):Prop:=l.length≤mo∧(0<l.length→∃(k o:Nat) (cs:ajv),p=some ⟨k,o,none⟩∧S k∧an w k cs dz∧tB S w l (cs.toList.drop o))
theorem tB.keep{S:afp}{w w':aeo}(ax:aQ S w w'):∀{l:List dK} {xs:aev},tB S w l xs→tB S w' l xs
 |[],_,_=>trivial
 |s::l,xs,h=>by obtain⟨⟨pl,cl,pp,cp,av,az⟩,aF⟩:=h;exact⟨⟨pl,cl,pp,cp,av,az.keep ax⟩,tB.keep ax aF⟩
theorem tB.mono{S R:afp}{w:aeo}(ax:∀k,k<w.heap.size→S k→R k):∀{l:List dK} {xs:aev},tB S w l xs→tB R w l xs
 |[],_,_=>trivial
 |s::l,xs,h=>by obtain⟨⟨pl,cl,pp,cp,av,az⟩,aF⟩:=h;exact⟨⟨pl,cl,pp,cp,av,az.mono ax⟩,tB.mono ax aF⟩
theorem wC.keep{S:afp}{w w':aeo}{p:Ja}{l:List dK}(h:wC S w p l)(ax:aQ S w w'):wC S w' p l:=by refine⟨h.1,fun aA=>?_⟩;obtain⟨k,o,cs,e,hS,aJ,hp⟩:=h.2 aA;exact⟨k,o,cs,e,hS,ax.get hS aJ,tB.keep ax hp⟩
theorem wC.below{S:afp}{w w':aeo}{p:Ja}{l:List dK}(h:wC S w p l)(ay:ao w w w'):wC S w' p l:=h.keep (.dI ay)
theorem wC.nil(S:afp)(w:aeo)(p:Ja):wC S w p []:=⟨eE _,fun h=>absurd h (oP _)⟩
theorem tB.get{S:afp}{w:aeo}:∀{l:List dK} {xs:aev} {n:Nat} {s:dK},tB S w l xs→l[n]?=some s→∃(pl:Ja) (cl:Nat) (pp:Ja) (cp:Nat),(xs.drop (n *10)).take 10=ke s.b (ad pl s.b.l.length cl) (ad pp s.p.len cp)∧dv S w pl cl pp cp s
 |[],xs,n,s,h,hn=>by simp at hn
 |x::l,xs,0,s,h,hn=>by obtain rfl:x=s:=(by simpa using hn);obtain⟨⟨pl,cl,pp,cp,av,az⟩,_⟩:=h;exact⟨pl,cl,pp,cp,by simpa using av,az⟩
 |x::l,xs,n+1,s,h,hn=>by obtain⟨pl,cl,pp,cp,av,az⟩:=tB.get (n:=n) (s:=s) h.2 (by simpa using hn);exact⟨pl,cl,pp,cp,by rw[←av,xA];congr 2;omega,az⟩
theorem wC.at{S:afp}{w:aeo}{p:Ja}{l:List dK}{b:cJ}{s:bc}{n:Nat}(h:wC S w p l)(hn:n<l.length)(he:l[n]=⟨b,s⟩):
  ∃(k o:Nat) (pl:Ja) (cl:Nat) (pp:Ja) (cp:Nat),p=some ⟨k,o,none⟩∧k<w.heap.size∧S k∧dv S w pl cl pp cp ⟨b,s⟩∧
   ak w k (o+n *10) (I b.k)∧ak w k (o+n *10+1) (I b.a.1)∧ak w k (o+n *10+2) (I b.a.2)∧ak w k (o+n *10+3) (I b.b.1)∧ak w k (o+n *10+4) (I b.b.2)∧ak w k (o+n *10+5) (I b.c.1)∧ak w k (o+n *10+6) (I b.c.2)∧ak w k (o+n *10+7) (I b.r)∧ak w k (o+n *10+8) (ad pl b.l.length cl)∧ak w k (o+n *10+9) (ad pp s.len cp):=by
 obtain⟨k,o,cs,rfl,hS,aJ,hp⟩:=h.2 (by omega);obtain⟨pl,cl,pp,cp,av,az⟩:=hp.get (n:=n) (s:=⟨b,s⟩) (by rw[l8 hn,he]);rw[xA] at av;have hc:=HD av;exact⟨k,o,pl,cl,pp,cp,rfl,lt_of_heap aJ,hS,az,cell_of aJ (by simpa using hc 0 (by decide)),cell_of aJ (hc 1 (by decide)),cell_of aJ (hc 2 (by decide)),cell_of aJ (hc 3 (by decide)),cell_of aJ (hc 4 (by decide)),cell_of aJ (hc 5 (by decide)),cell_of aJ (hc 6 (by decide)),cell_of aJ (hc 7 (by decide)),cell_of aJ (hc 8 (by decide)),cell_of aJ (hc 9 (by decide))⟩
def tC(w0:aeo)(sv:ada)(os:List dx)(x:aeo):Prop:=∃(R:afp) (xs:aev),x.ownsRow w0.heap.size dD 11 sv os.length xs∧ds R x (p' os) xs∧(∀k,R k→w0.heap.size≤k∧k<x.heap.size)∧(∀k,sv.ownBlock=some k→¬R k)∧ao w0 w0 x
theorem tC.below{w0:aeo}{sv:ada}{os:List dx}{x y:aeo}(h:tC w0 sv os x)(ay:ao x x y):tC w0 sv os y:=by obtain⟨R,xs,av,az,aF,bk,b9⟩:=h;exact⟨R,xs,e9 av ay,az.below ay,fun k ax=>⟨(aF k ax).1,jN (aF k ax).2 ay.size⟩,bk,b9.trans (ay.mono b9.size)⟩
theorem tC.push{w0:aeo}{sv sv':ada}{os:List dx}{X Y Z:aeo}(h:tC w0 sv os X){g n' c':Nat}{d:Bool}{b:cJ}{s:bc}{q qp:Ja}{e f:Nat}{V:aev}{xs:aev}(CD:ao X X Y)(x1:ao Y Y Z)(aH:dv (fun k=>X.heap.size≤k) Y q e qp f ⟨b,s⟩){W:aeo}
  (ba:Z.grownBy W sv.ownBlock) (lg:V=U d::ke b (ad q b.l.length e) (ad qp s.len f)) (hx:∀fw,X.ownsRow w0.heap.size dD 11 sv os.length fw→xs=fw) (cI:W.ownsRow w0.heap.size dD 11 sv' (os.length+1) (xs++V)) (pt:sv'=ad (some (aj g 0)) n' c') (eJ:sv.ownBlock=some g∨Y.heap.size≤g):tC w0 sv' (os++[(d,⟨b,s⟩)]) W:=by
 obtain⟨R,fw,av,az,aF,bk,b9⟩:=h;obtain rfl:=hx fw av;subst lg;have TE:ao X X Z:=CD.trans (x1.mono CD.size)
 have aba:∀k,sv.ownBlock=some k→¬(R k∨(X.heap.size≤k∧k<Y.heap.size)):=fun k ax h=>by
  rcases h with h|h
  ·exact bk k ax h
  ·have:=(av.lt k ax).2;omega
 have abb:aQ (fun k=>R k∨(X.heap.size≤k∧k<Y.heap.size)) Z W:=aQ.grown ba aba;refine⟨fun k=>R k∨(X.heap.size≤k∧k<Y.heap.size),_,by rw[hl];exact cI,?_,fun k ax=>?_,fun k ax h=>?_,(b9.trans (TE.mono b9.size)).grown ba (dB b9.size TE.size) (fun k ax=>(av.lt k ax).1)⟩
 ·rw[Kn];refine ds.append (((az.below TE).mono (fun k _ ax=>.inl ax)).keep abb) (by rw[av.1,Et]) (.mk (by rfl) ?_ trivial);exact ((aH.mono (R:=fun k=>R k∨(X.heap.size≤k∧k<Y.heap.size)) (fun k ax h=>.inr ⟨h,ax⟩)).below x1).keep abb
 ·have rh:=CD.size;have vb:=x1.size;have AW:=ba.size;have axh:=b9.size;rcases ax with ax|ax
  ·have:=aF k ax;exact⟨this.1,by omega⟩
  ·exact⟨by omega,by omega⟩
 ·rw[pt] at ax;simp only[Value.ownBlock,mi] at ax;subst ax;rcases eJ with cW|cW
  ·exact aba g cW h
  ·rcases h with h|h
   ·have:=(aF g h).2;have:=CD.size;omega
   ·omega
theorem abc{w:aeo}{B D5:Nat}{e lh:aai}{bG n:Nat}{v:ada}{xs fw:aev}(h:w.ownsRow B e bG v n xs)(g:w.ownsRow D5 lh bG v n fw):xs=fw:=by
 rcases h.2 with ⟨aS,aT⟩|⟨k,cap,cur,aS,bL,aJ,_,_,_,bB⟩
 ·have av:=h.1;have az:=g.1;rw[aT,DK] at av az;rw[rQ av,rQ az]
 ·rcases g.2 with ⟨KZ,g0⟩|⟨a7,hg,abd,KZ,_,HF,_,_,_,gt⟩
  ·rw[aS] at KZ;cases KZ
  ·rw[aS] at KZ;injection KZ with a1 _ _;injection a1 with a1;injection a1 with a1;subst a1;rw[aJ] at HF;injection HF with HF;injection HF with HF _ _;subst HF;rw[←bB,←gt]
theorem h9.own{R:afp}{w0 x:aeo}{sv:ada}{os:List dx}(h:tC w0 sv os x)(ay:os.length≤mo)(hR:∀k,w0.heap.size≤k→R k):∃q d,sv=ad q os.length d∧h9 R x q os:=by
 obtain⟨zy,xs,av,az,aF,bk,b9⟩:=h;obtain⟨q,d,rfl⟩:=jf av;refine⟨q,d,rfl,ay,fun aA=>?_⟩;rcases av.2 with ⟨_,aT⟩|⟨k,cap,cur,aS,bL,aJ,_,_,_,bB⟩
 ·omega
 ·injection aS with a1 _ _;refine⟨k,0,cur,a1,hR k bL,aJ,?_⟩;refine (az.mono (fun k _ hs=>hR k (aF k hs).1)).congr ?_;rw[Et,rR,←bB,Ef,Ok]
theorem amx(S:afp)(l:List dx)(aA:∀o∈l,Plain o.2)(p:Ja)(n c:Nat)(hn:n=l.length)(hs:List dK)(abe:∀s∈hs,Plain s)(abf:Ja)(m zu:Nat)(hm:m=hs.length)(O5:n+m≤1000000000)(w:aeo)(H:af (h9 S w p l))(hB:af (wC S w abf hs)):
  Calls Tryz.prog 50 #[ad p n c,ad abf m zu] w fun e w'=>∃q d,e=ab (ad q (n+m) d)∧h9 (fun k=>w.heap.size≤k) w' q (l++hs.map fun s=>(false,s))∧ao w w w':=by
 have axi:m≤1000000000:=by rw[hm];exact hB.out.1
 have bM:=aq hm;have amy:=aq abe;have o6:af ((l++hs.map fun s=>(false,s)).length≤mo):=by show _≤1000000000;rw[hl,e6,←hm,←hn];exact O5
 clear hm abe;have n9:n≤1000000000:=by rw[hn];exact H.out.1
 have bf:=aq hn;have dT:=aq aA;obtain⟨i0,hi,dE,dP,dq⟩:=info_parts Kv;have bZ:=aq (And.intro hi (And.intro dE (And.intro dP dq)));have K0:ae ((n:Int)+(m:Int))=((n+m:Nat):Int):=by rw[cX _ (by omega)];omega
 clear hn aA hi dE dP dq;go_enter Tryz.func50,Tryz.ntmps50;go_upto_region 2 with (first|(refine O4 _ rfl _ _ _ rfl w.heap.size dD i0 Cu 11 Ez bZ.out.1 bZ.out.2.1 bZ.out.2.2.1 .i64 .i64 ((n+m:Nat):Int) (n+m) (by rfl) (by rfl) rfl (by rw[bZ.out.2.2.2];omega) (by unfold maxLen;omega) (bx _) ?_;intro dG cI A1));have mC:af (tC w (ag w.heap.size 0 0 (n+m)) [] dG):=⟨fun _=>False,[],cI,trivial,fun k h=>h.elim,fun k _ h=>h,⟨A1.os,A1.tape,A1.output,A1.size,fun k ax=>A1.block k ax (by simp)⟩⟩;clear cI A1;go_wp2_with fail
 go_loopw [5,18] (fun EY i wr=>∃(j:Nat) (sv:ada) (aK:aeo),aK=wr∧j≤n∧sv=EY∧i=I j∧af (tC w sv (l.take j) aK)) (fun _ i _=>n -(intOf i).toNat)
 case atStart=>exact⟨0,_,_,rfl,eE _,rfl,rfl,mC.out⟩
 case round=>
 obtain⟨j,sv,aK,rfl,cr,rfl,rfl,cC⟩:=hrel;by_cases b1:j<n
 ·have fL:j<l.length:=(by rw[←bf.out];exact b1);have i':(j:Int)<(n:Int):=(by omega);obtain⟨⟨od,⟨aB,os⟩⟩,aH⟩:=ar (l[j]);obtain⟨K1,A2⟩:=dT.out (od,⟨aB,os⟩) (by rw[←aH];exact mu _);have el:ao w w aK:=(by obtain⟨_,_,_,_,_,_,h⟩:=cC.out;exact h);obtain⟨hz,lv,pl,cl,pp,cp,rfl,q',_,ek,aN,aL,aI,c3,bJ,c5,b2,b',bX,bj,cu⟩:=H.out.at fL aH;obtain⟨nf,y'⟩:=ar os.len;have x2:=aq y';have tt:af (l.take (j+1)=l.take j++[(od,⟨aB,os⟩)]):=(by show _=_;rw[y5 fL,aH]);have EZ:(l.take j).length=j:=(by rw[kj];omega);obtain⟨qF,uR⟩:=ar (l.take j);rw[uR] at cC tt EZ;have E0:=aq EZ;obtain⟨nl,gF⟩:=ar aB.l.length;have q8:=aq gF;have TF:af (∀Z,ao w w Z→Calls Tryz.prog 53 #[.agg #[I aB.k,I aB.a.1,I aB.a.2,I aB.b.1,I aB.b.2,I aB.c.1,I aB.c.2,I aB.r,ad pl nl cl,ad pp nf cp]] Z fun e w'=>∃q d dN f,e=ab (.agg #[I aB.k,I aB.a.1,I aB.a.2,I aB.b.1,I aB.b.2,I aB.c.1,I aB.c.2,I aB.r,ad q nl d,ad dN nf f])∧dv (fun k=>Z.heap.size≤k) w' q d dN f ⟨aB,os⟩∧ao Z Z w'):=(by intro Z eG;rw[←gF,←y'];exact aaH S aB os K1 A2 pl cl pp cp Z (aq (ek.below eG)));rw[gF] at bj;rw[y'] at cu;have d0:=bP el aN;have d1:=bP el aL;have d2:=bP el aI;have d3:=bP el c3;have d4:=bP el bJ;have d5:=bP el c5;have d6:=bP el b2;have d7:=bP el b';have d8:=bP el bX;have d9:=bP el bj;have d10:=bP el cu;clear aN aL aI c3 bJ c5 b2 b' bX bj cu ek aH uR EZ gF y' q' K1 A2;go_upto_region 5 with fail;have HG:=aq (cC.out.below (a' aK (ai (#[U od,I aB.k,I aB.a.1,I aB.a.2,I aB.b.1,I aB.b.2,I aB.c.1,I aB.c.2,I aB.r,ad pl nl cl,ad pp nf cp]) dD)));have A3:af ((aK.alloc (ai (#[U od,I aB.k,I aB.a.1,I aB.a.2,I aB.b.1,I aB.b.2,I aB.c.1,I aB.c.2,I aB.r,ad pl nl cl,ad pp nf cp]) dD)).heap[aK.heap.size]?=some (.cells #[U od,I aB.k,I aB.a.1,I aB.a.2,I aB.b.1,I aB.b.2,I aB.c.1,I aB.c.2,I aB.r,ad pl nl cl,ad pp nf cp] dD)):=cd _ _;have dS:ao w w (aK.alloc (ai (#[U od,I aB.k,I aB.a.1,I aB.a.2,I aB.b.1,I aB.b.2,I aB.c.1,I aB.c.2,I aB.r,ad pl nl cl,ad pp nf cp]) dD)):=el.trans ((a' _ _).mono el.size);generalize aK.alloc (.cells #[U od,I aB.k,I aB.a.1,I aB.a.2,I aB.b.1,I aB.b.2,I aB.c.1,I aB.c.2,I aB.r,ad pl nl cl,ad pp nf cp] dD)=gO at HG A3 dS⊢;obtain⟨D,cb⟩:=ar aK.heap.size;rw[cb] at A3⊢;clear cb d0 d1 d2 d3 d4 d5 d6 d7 d8 d9 d10 el cC;obtain⟨d0,d1,d2,d3,d4,d5,d6,d7,d8,d9,d10⟩:=pE A3.out;have amz:af (an gO.drew D (#[U od,I aB.k,I aB.a.1,I aB.a.2,I aB.b.1,I aB.b.2,I aB.c.1,I aB.c.2,I aB.r,ad pl nl cl,ad pp nf cp]) dD):=A3.out;obtain⟨aC,aE,fJ,y3,y4,oq,y6,sh,si,Cz,O6⟩:=pE amz.out;have sj:=lt_of_heap A3.out;have HH:af (ao w w gO.drew):=dS.drew;have abg:gO.drew.heap.size=gO.heap.size:=rfl;have amA:=dS.size;have dX:=aq dS;obtain⟨xs,lI⟩:∃xs,gO.ownsRow w.heap.size dD 11 sv qF.length xs:=(by obtain⟨_,xs,h,_⟩:=HG.out;exact⟨xs,h⟩);rw[E0.out] at lI;obtain⟨ps,cs,rfl⟩:=jf lI;have CE:=aq lI;clear lI dS
  go_region_law (first
   |(refine Cr _ (by rfl) _ _ _ (by rfl) w.heap.size dD i0 Cu 11 120 Ez bZ.out.1 bZ.out.2.1 bZ.out.2.2.1 bZ.out.2.2.2 rfl (by omega) (ad ps j cs) j _ (by rfl) ((e9 (e9 CE.out (Below.refl _ _).drew) ev).alloc _) (aj cZ.heap.size 0) 1 1 [U od,I aB.k,I aB.a.1,I aB.a.2,I aB.b.1,I aB.b.2,I aB.c.1,I aB.c.2,I aB.r,ad fh nl js,ad la nf f6] (by rfl) (by rfl) (kc (cs:= #[U od,I aB.k,I aB.a.1,I aB.a.2,I aB.b.1,I aB.b.2,I aB.c.1,I aB.c.2,I aB.r,ad fh nl js,ad la nf f6]) (t:=dD) (fr:=(0,0)) (ga cZ _)) (by simp[Value.oneCell']) (by omega) (by unfold maxLen;omega) (by omega) (by simp;omega) (cZ.heap.size+1) (by simp) ?_;intro dh hg ki cI dO eJ hV)
   |(rw[a8 (by rfl)];go_simp;go_at_call 53;with_reducible refine (TF.out _ HH.out).mono ?_;rintro e cZ ⟨fh,js,la,f6,rfl,O7,ev⟩;have x3:=ev.size;rw[abg] at x3;have bQ:=bP ev aC;have bU:=bP ev aE;have a7:=bP ev fJ;have il:=bP ev y3;have rb:=bP ev y4;have ri:=bP ev oq;have E1:=bP ev y6;have E2:=bP ev sh;have E3:=bP ev si;have wA:=bP ev Cz;have E4:=bP ev O6))
  all_goals
   have abh:ao gO.drew gO.drew cZ:=ev;have A4:=aq (tC.push (d:=od) (b:=aB) (s:=os) (q:=fh) (qp:=la) (e:=js) (f:=f6) (g:=dh) (n':=j+1) (c':=hg) (V:=[U od,I aB.k,I aB.a.1,I aB.a.2,I aB.b.1,I aB.b.2,I aB.c.1,I aB.c.2,I aB.r,ad fh nl js,ad la nf f6]) (HG.out.below (Below.refl _ _).drew) abh (a' cZ (ai (#[U od,I aB.k,I aB.a.1,I aB.a.2,I aB.b.1,I aB.b.2,I aB.c.1,I aB.c.2,I aB.r,ad fh nl js,ad la nf f6]) dD)) O7 dO (by rw[q8.out,x2.out]) (fun fw h=>abc (w:=gO.drew) (CE.out.drew) (by rw[E0.out] at h;exact h)) (by rw[E0.out];exact cI) rfl (eJ.imp id (fun h=>by rw[h];exact nX _)));rw[←tt.out] at A4;clear cI dO eJ hV abh x3 bQ bU a7 il rb ri E1 E2 E3 wA E4 d0 d1 d2 d3 d4 d5 d6 d7 d8 d9 d10 aC aE fJ y3 y4 oq y6 sh si Cz O6 sj amA abg;go_wp2_with fail;go_round<;>first|exact⟨j+1,_,_,rfl,by omega,rfl,by go_num,A4.out⟩|(simp[intOf]<;>omega)
 ·have iR:j=n:=(by omega);subst iR;have eS:l.take j=l:=(by rw[bf.out];exact vD);have jI:=cC.out;rw[eS] at jI;have SR:=aq jI;clear eS jI cC mC;go_wp2_with fail
  go_loopw [5,34] (fun EY i wr=>∃(k:Nat) (zz:ada) (cD:aeo),cD=wr∧k≤m∧zz=EY∧i=I k∧af (tC w zz (l++(hs.take k).map fun s=>(false,s)) cD)) (fun _ i _=>m -(intOf i).toNat)
  case atStart=>exact⟨0,_,_,rfl,eE _,rfl,rfl,(by show tC _ _ _ _;rw[OR,AS,List.append_nil];exact SR.out)⟩
  case round=>
  obtain⟨k,zz,cD,rfl,ax,rfl,rfl,cC⟩:=hrel;by_cases fL:k<m
  ·have abi:k<hs.length:=(by rw[←bM.out];exact fL);have i':(k:Int)<(m:Int):=(by omega);obtain⟨⟨aB,os⟩,aH⟩:=ar (hs[k]);obtain⟨K1,A2⟩:=amy.out ⟨aB,os⟩ (by rw[←aH];exact mu _);have el:ao w w cD:=(by obtain⟨_,_,_,_,_,_,h⟩:=cC.out;exact h);obtain⟨hz,lv,pl,cl,pp,cp,rfl,q',_,ek,aN,aL,aI,c3,bJ,c5,b2,b',bX,bj⟩:=hB.out.at abi aH;obtain⟨nf,y'⟩:=ar os.len;have x2:=aq y';have tt:af (l++(hs.take (k+1)).map (fun s=>(false,s))=(l++(hs.take k).map fun s=>(false,s))++[(false,⟨aB,os⟩)]):=(by show _=_;rw[y5 abi,aH,nb,List.append_assoc];rfl);have EZ:(l++(hs.take k).map fun s=>(false,s)).length=j+k:=(by rw[hl,e6,kj,xH (by omega),bf.out]);obtain⟨qF,uR⟩:=ar (l++(hs.take k).map fun s=>(false,s));rw[uR] at cC tt EZ;have E0:=aq EZ;obtain⟨nl,gF⟩:=ar aB.l.length;have q8:=aq gF;have TF:af (∀Z,ao w w Z→Calls Tryz.prog 53 #[.agg #[I aB.k,I aB.a.1,I aB.a.2,I aB.b.1,I aB.b.2,I aB.c.1,I aB.c.2,I aB.r,ad pl nl cl,ad pp nf cp]] Z fun e w'=>∃q d dN f,e=ab (.agg #[I aB.k,I aB.a.1,I aB.a.2,I aB.b.1,I aB.b.2,I aB.c.1,I aB.c.2,I aB.r,ad q nl d,ad dN nf f])∧dv (fun k=>Z.heap.size≤k) w' q d dN f ⟨aB,os⟩∧ao Z Z w'):=(by intro Z eG;rw[←gF,←y'];exact aaH S aB os K1 A2 pl cl pp cp Z (aq (ek.below eG)));rw[gF] at bX;rw[y'] at bj;have d0:=bP el aN;have d1:=bP el aL;have d2:=bP el aI;have d3:=bP el c3;have d4:=bP el bJ;have d5:=bP el c5;have d6:=bP el b2;have d7:=bP el b';have d8:=bP el bX;have d9:=bP el bj;have axj:ae ((k:Int)+1)=(k:Int)+1:=cX _ (by omega);clear aN aL aI c3 bJ c5 b2 b' bX bj ek aH uR EZ gF y' q' K1 A2;have TG:af (ao w w (cD.alloc (ai (#[I aB.k,I aB.a.1,I aB.a.2,I aB.b.1,I aB.b.2,I aB.c.1,I aB.c.2,I aB.r,ad pl nl cl,ad pp nf cp]) dz))):=el.trans ((a' _ _).mono el.size);have HG:=aq (cC.out.below (a' cD (ai (#[I aB.k,I aB.a.1,I aB.a.2,I aB.b.1,I aB.b.2,I aB.c.1,I aB.c.2,I aB.r,ad pl nl cl,ad pp nf cp]) dz)));clear el cC;go_wp2_with fail;with_reducible refine (TF.out _ TG.out).mono ?_
   rintro e cZ ⟨fh,js,la,f6,rfl,O7,ev⟩;have mv:af (ao w w cZ):=TG.out.trans (ev.mono TG.out.size);have oT:=aq O7;have fa:=aq ev;obtain⟨xs,lI⟩:∃xs,(cD.alloc (ai (#[I aB.k,I aB.a.1,I aB.a.2,I aB.b.1,I aB.b.2,I aB.c.1,I aB.c.2,I aB.r,ad pl nl cl,ad pp nf cp]) dz)).ownsRow w.heap.size dD 11 zz qF.length xs:=(by obtain⟨_,xs,h,_⟩:=HG.out;exact⟨xs,h⟩);rw[E0.out] at lI;obtain⟨ps,cs,rfl⟩:=jf lI;have CE:=aq lI;have jg:af ((cZ.alloc (ai (#[U false,I aB.k,I aB.a.1,I aB.a.2,I aB.b.1,I aB.b.2,I aB.c.1,I aB.c.2,I aB.r,ad fh nl js,ad la nf f6]) dD)).ownsRow w.heap.size dD 11 (ad ps (j+k) cs) (j+k) xs):=(e9 lI ev).alloc _;have K2:=mv.out.size;clear lI ev O7 d0 d1 d2 d3 d4 d5 d6 d7 d8 d9;go_wp2_with (at_builtin;refine zm _ rfl _ _ _ rfl w.heap.size dD i0 Cu 11 120 Ez bZ.out.1 bZ.out.2.1 bZ.out.2.2.1 bZ.out.2.2.2 rfl (by omega) (ad ps (j+k) cs) (j+k) _ (by rfl) jg.out (aj cZ.heap.size 0) 1 1 [U false,I aB.k,I aB.a.1,I aB.a.2,I aB.b.1,I aB.b.2,I aB.c.1,I aB.c.2,I aB.r,ad fh nl js,ad la nf f6] (by rfl) (by rfl) (kc (cs:= #[U false,I aB.k,I aB.a.1,I aB.a.2,I aB.b.1,I aB.b.2,I aB.c.1,I aB.c.2,I aB.r,ad fh nl js,ad la nf f6]) (t:=dD) (fr:=(0,0)) (ga cZ _)) (by simp[Value.oneCell']) (by omega) (by unfold maxLen;omega) (by omega) (by simp;omega) (cZ.heap.size+1) (by simp) ?_;intro dh hg ki cI dO eJ hV)
   all_goals
    have A4:=aq (tC.push (d:=false) (b:=aB) (s:=os) (q:=fh) (qp:=la) (e:=js) (f:=f6) (g:=dh) (n':=j+k+1) (c':=hg) (V:=[U false,I aB.k,I aB.a.1,I aB.a.2,I aB.b.1,I aB.b.2,I aB.c.1,I aB.c.2,I aB.r,ad fh nl js,ad la nf f6]) HG.out fa.out (a' cZ (ai (#[U false,I aB.k,I aB.a.1,I aB.a.2,I aB.b.1,I aB.b.2,I aB.c.1,I aB.c.2,I aB.r,ad fh nl js,ad la nf f6]) dD)) oT.out dO (by rw[q8.out,x2.out]) (fun fw h=>abc CE.out (by rw[E0.out] at h;exact h)) (by rw[E0.out];exact cI) rfl (eJ.imp id (fun h=>by rw[h];exact nX _)));rw[←tt.out] at A4;clear cI dO eJ hV;go_round<;>first|exact⟨k+1,_,_,rfl,by omega,rfl,by go_num,A4.out⟩|(simp[intOf]<;>omega)
  ·obtain rfl:k=m:=(by omega);have zA:hs.take k=hs:=(by rw[bM.out];exact vD);have jI:=cC.out;rw[zA] at jI;have hlen:(l++hs.map fun s=>(false,s)).length=j+k:=(by rw[hl,e6,←bM.out,←bf.out]);obtain⟨q,d,jS,wD⟩:=h9.own (R:=fun k=>w.heap.size≤k) jI o6.out (fun k h=>h);have x4:=aq wD;have jG:af (ao w w cD):=(by obtain⟨_,_,_,_,_,_,h⟩:=cC.out;exact h);rw[hlen] at jS;subst jS;clear zA jI wD hlen cC;go_wp2_with fail;go_ret;exact⟨_,_,rfl,x4.out,jG.out⟩
theorem amB(S:afp)(l:List dx)(aA:∀o∈l,Plain o.2)(p:Ja)(n c:Nat)(hn:n=l.length)(w:aeo)(H:af (h9 S w p l)):
  Calls Tryz.prog 50 #[ad p n c,J 0] w fun e w'=>∃q d,e=ab (ad q n d)∧h9 (fun k=>w.heap.size≤k) w' q l∧ao w w w':=by
 have ay:n≤1000000000:=by rw[hn];exact H.out.1
 have h:=amx S l aA p n c hn [] (fun s hs=>by simp at hs) none 0 0 rfl (by omega) w H (aq (wC.nil S w none));rw[AS,List.append_nil,G0] at h;exact h
end c4
