/- Lemmas. -/
import Derived.Test.YtfldplmgkeiimaaGreatDoorQ9
import Derived.Laws.AppendOwn
set_option linter.all false
set_option maxRecDepth 100000
set_option maxHeartbeats 12800000
namespace Go.Proofs.YtfldplmgkeiimaaGreatDoor
abbrev Z5:=@List.take_append_drop
abbrev SQ:=@List.flatMap_cons
abbrev Ok:=@Nat.min_self
abbrev Cp:=@Option.map_some
abbrev zm:=@wpList_append_lies
abbrev tn:=@Nat.le_of_lt
namespace c4
open Go.RowKit dH
abbrev dD:TypeId:=77
def p':List dx→bc
 |[]=>.nil
 |o::l=>.cons o.1 o.2.b o.2.p (p' l)
theorem Et:∀l:List dx,(p' l).len=l.length
 |[]=>rfl
 |_::l=>by simp only[p',bc.len,Et l,eP]
theorem Kn:∀l m:List dx,p' (l++m)=(p' l).append (p' m)
 |[],_=>rfl
 |_::l,m=>by simp only[Jv,p',bc.append,Kn l m]
def h9(S:afp)(w:aeo)(p:Ja)(l:List dx):Prop:=l.length≤mo∧(0<l.length→∃(k o:Nat) (cs:ajv),p=some ⟨k,o,none⟩∧S k∧an w k cs dD∧ds S w (p' l) (cs.toList.drop o))
theorem h9.nil(S:afp)(w:aeo)(p:Ja):h9 S w p []:=⟨eE _,fun h=>absurd h (oP _)⟩
theorem h9.keep{S:afp}{w w':aeo}{p:Ja}{l:List dx}(h:h9 S w p l)(ax:aQ S w w'):h9 S w' p l:=by refine⟨h.1,fun aA=>?_⟩;obtain⟨k,o,cs,e,hS,aJ,hp⟩:=h.2 aA;exact⟨k,o,cs,e,hS,ax.get hS aJ,ds.keep ax hp⟩
variable{w w' w0:aeo}{p pl pp:Ja}
theorem h9.below{S:afp}{l:List dx}(h:h9 S w p l)(ay:ao w w w'):h9 S w' p l:=h.keep (.dI ay)
theorem h9.mono{S R:afp}{w:aeo}{p:Ja}{l:List dx}(h:h9 S w p l)(ax:∀k,k<w.heap.size→S k→R k):h9 R w p l:=by refine⟨h.1,fun aA=>?_⟩;obtain⟨k,o,cs,e,hS,aJ,hp⟩:=h.2 aA;exact⟨k,o,cs,e,ax _ (lt_of_heap aJ) hS,aJ,ds.mono ax hp⟩
theorem h9.at{S:afp}{w:aeo}{p:Ja}{l:List dx}{a:Bool}{b:cJ}{s:bc}{n:Nat}(h:h9 S w p l)(hn:n<l.length)(he:l[n]=(a,⟨b,s⟩)):
  ∃(k o:Nat) (pl:Ja) (cl:Nat) (pp:Ja) (cp:Nat),p=some ⟨k,o,none⟩∧k<w.heap.size∧S k∧dv S w pl cl pp cp ⟨b,s⟩∧
   ak w k (o+n *11) (U a)∧ak w k (o+n *11+1) (I b.k)∧ak w k (o+n *11+2) (I b.a.1)∧ak w k (o+n *11+3) (I b.a.2)∧ak w k (o+n *11+4) (I b.b.1)∧ak w k (o+n *11+5) (I b.b.2)∧ak w k (o+n *11+6) (I b.c.1)∧ak w k (o+n *11+7) (I b.c.2)∧ak w k (o+n *11+8) (I b.r)∧ak w k (o+n *11+9) (ad pl b.l.length cl)∧ak w k (o+n *11+10) (ad pp s.len cp):=by
 obtain⟨k,o,cs,rfl,hS,aJ,hp⟩:=h.2 (by omega);have a1:l=l.take n++(a,⟨b,s⟩)::l.drop (n+1):=by conv=>lhs;rw[←Z5 n l,lT hn,he]
 rw[a1,Kn] at hp;have az:=hp.drop;rw[xA,Et,kj,xH (by omega)] at az;obtain⟨pl,cl,pp,cp,aF,hs⟩:=ds.head (show ds S w (.cons a b s (p' (l.drop (n+1)))) _ from az);obtain⟨aN,aL,aI,c3,bJ,c5,b2,b',bX,bj,cu⟩:=Zd aF;refine⟨k,o,pl,cl,pp,cp,rfl,lt_of_heap aJ,hS,hs,?_,?_,?_,?_,?_,?_,?_,?_,?_,?_,?_⟩<;>simp only[World.cell?, *]<;>rfl
variable{t e:aai}
theorem pE{k:Nat}{v0 v1 v2 v3 v4 v5 v6 db c8 v9 v10:ada}(h:an w k (#[v0,v1,v2,v3,v4,v5,v6,db,c8,v9,v10]) t):
  ak w k 0 v0∧ak w k 1 v1∧ak w k 2 v2∧ak w k 3 v3∧ak w k 4 v4∧ak w k 5 v5∧ak w k 6 v6∧ak w k 7 db∧ak w k 8 c8∧ak w k 9 v9∧ak w k 10 v10:=by
 refine⟨?_,?_,?_,?_,?_,?_,?_,?_,?_,?_,?_⟩<;>simp[World.cell?,h]
variable{k:Int}
theorem alv{s:dK}{x:bO}(h:okV s=true)(ax:k2 x s=k):DP x s=k:=by rw[←ax];unfold k2;rw[a8 h]
theorem alw(S:afp)(x:bO)(hx:Kj x)(b:cJ)(s:bc)(hn:qE ⟨b,s⟩)(pl:Ja)(cl:Nat)(pp:Ja)(cp:Nat)(w:aeo)(ek:af (dv S w pl cl pp cp ⟨b,s⟩))(k:Int)(ax:af (k2 x ⟨b,s⟩=k)):
  Calls Tryz.prog 174 #[iD b (ad pl b.l.length cl) (ad pp s.len cp),h7 x] w fun e w'=>e=ab (I k)∧ao w w w':=by
 obtain⟨v,aS⟩:=ar (okV ⟨b,s⟩);have b0:=aq aS;have Eu:=aq hn;have c2:=aq hx;have ay:iD b (ad pl b.l.length cl) (ad pp s.len cp)=.agg #[I b.k,I b.a.1,I b.a.2,I b.b.1,I b.b.2,I b.c.1,I b.c.2,I b.r,ad pl b.l.length cl,ad pp s.len cp]:=rfl;obtain⟨aD,aC,aG,aE⟩:=x;obtain⟨n,fv⟩:=ar b.l.length;obtain⟨m,hm⟩:=ar s.len;have bf:=aq fv;have bM:=aq hm;clear aS hn hx ay;obtain⟨dU,⟨aW,aY⟩,⟨bb,bh⟩,⟨cx,bw⟩,r,l⟩:=b;show Calls _ _ #[.agg #[I dU,I aW,I aY,I bb,I bh,I cx,I bw,I r,ad pl l.length cl,ad pp s.len cp],h7 ⟨aD,aC,aG,aE⟩] w _;simp only at fv;rw[fv,hm];clear fv hm;go_enter Tryz.func174,Tryz.ntmps174;go_upto_region 1 with fail;obtain⟨W,br⟩:=ar ((w.alloc (ai (#[I dU,I aW,I aY,I bb,I bh,I cx,I bw,I r,ad pl n cl,ad pp m cp]) dz)).alloc (cU ⟨aD,aC,aG,aE⟩));have aO:af (ao w w W):=by show Below _ _ _;rw[←br];exact nI _ _ _
 have cc:af (an W w.heap.size (#[I dU,I aW,I aY,I bb,I bh,I cx,I bw,I r,ad pl n cl,ad pp m cp]) dz):=by show _=_;rw[←br];exact aU (cd _ _) (a' _ _)
 have bN:af (W.heap[w.heap.size+1]?=some (cU ⟨aD,aC,aG,aE⟩)):=by show _=_;rw[←br];exact uJ _ _ _
 rw[br];clear br;obtain⟨g0,g1,g2,g3,g4,g5,g6,g7,g8,g9⟩:=dZ cc.out;go_wp2_with fail;have kB:=J4 S ⟨dU,(aW,aY),(bb,bh),(cx,bw),r,l⟩ s pl cl pp cp W (aq (ek.out.below aO.out)) v b0;rw[show (⟨dU,(aW,aY),(bb,bh),(cx,bw),r,l⟩:cJ).l.length=n from bf.out,bM.out] at kB;with_reducible refine kB.mono ?_
 clear kB;rintro e V ⟨rfl,ay⟩;have c6:af (ao w w V):=aO.out.trans (ay.mono aO.out.size);have jc:=aq (aU cc.out ay);have kA:=aq (aU bN.out ay);clear g0 g1 g2 g3 g4 g5 g6 g7 g8 g9 ay;cases v with
 |false=>
  have aP:af ((0:Int)=k):=(by show _=_;rw[←ax.out];unfold k2;rw[b0.out];rfl);go_wp2_with fail;go_ret;exact⟨pA aP.out,c6.out⟩
 |true=>
  obtain⟨g0,g1,g2,g3,g4,g5,g6,g7,g8,g9⟩:=dZ jc.out;obtain⟨a0,bE,a2,a3⟩:=hb kA.out;go_wp2_with fail;have kB:=alj S ⟨aD,aC,aG,aE⟩ c2.out ⟨dU,(aW,aY),(bb,bh),(cx,bw),r,l⟩ s Eu.out b0.out pl cl pp cp V (aq (ek.out.below c6.out)) k (aq (alv b0.out ax.out));rw[show (⟨dU,(aW,aY),(bb,bh),(cx,bw),r,l⟩:cJ).l.length=n from bf.out,bM.out] at kB;with_reducible refine kB.mono ?_
  clear kB;rintro e lF ⟨rfl,ay⟩;have cP:af (ao w w lF):=c6.out.trans (ay.mono c6.out.size);clear ay g0 g1 g2 g3 g4 g5 g6 g7 g8 g9 a0 bE a2 a3;go_wp2_with fail;go_ret;exact⟨rfl,cP.out⟩
theorem alx(S:afp)(b:cJ)(s:bc)(hn:qE ⟨b,s⟩)(pl:Ja)(cl:Nat)(pp:Ja)(cp:Nat)(w:aeo)(ek:af (dv S w pl cl pp cp ⟨b,s⟩))(o:Option bO)(bl:af (sR ⟨b,s⟩=o)):
  Calls Tryz.prog 122 #[iD b (ad pl b.l.length cl) (ad pp s.len cp)] w fun e w'=>e=ab (.tuple #[h7 (o.getD eh),U o.isSome])∧ao w w w':=by
 obtain⟨v,aS⟩:=ar (okV ⟨b,s⟩);have b0:=aq aS;have Eu:=aq hn;have iW:=bl.out;unfold sR at iW;rw[aS] at iW;have b5:=aq iW;obtain⟨n,fv⟩:=ar b.l.length;obtain⟨m,hm⟩:=ar s.len;have bf:=aq fv;have bM:=aq hm;clear aS hn bl iW;obtain⟨dU,⟨aW,aY⟩,⟨bb,bh⟩,⟨cx,bw⟩,r,l⟩:=b;show Calls _ _ #[.agg #[I dU,I aW,I aY,I bb,I bh,I cx,I bw,I r,ad pl l.length cl,ad pp s.len cp]] w _;simp only at fv;rw[fv,hm];clear fv hm;go_enter Tryz.func122,Tryz.ntmps122;go_upto_region 1 with fail;obtain⟨W,br⟩:=ar ((w.alloc (ai (#[I dU,I aW,I aY,I bb,I bh,I cx,I bw,I r,ad pl n cl,ad pp m cp]) dz)).alloc (cU eh));have aO:af (ao w w W):=by show Below _ _ _;rw[←br];exact nI _ _ _
 have cc:af (an W w.heap.size (#[I dU,I aW,I aY,I bb,I bh,I cx,I bw,I r,ad pl n cl,ad pp m cp]) dz):=by show _=_;rw[←br];exact aU (cd _ _) (a' _ _)
 have bN:af (W.heap[w.heap.size+1]?=some (cU eh)):=by show _=_;rw[←br];exact uJ _ _ _
 change Code.wp _ _ _ _ ((w.alloc (ai (#[I dU,I aW,I aY,I bb,I bh,I cx,I bw,I r,ad pl n cl,ad pp m cp]) dz)).alloc (cU eh));rw[br];clear br;obtain⟨g0,g1,g2,g3,g4,g5,g6,g7,g8,g9⟩:=dZ cc.out;go_wp2_with fail;have kB:=J4 S ⟨dU,(aW,aY),(bb,bh),(cx,bw),r,l⟩ s pl cl pp cp W (aq (ek.out.below aO.out)) v b0;rw[show (⟨dU,(aW,aY),(bb,bh),(cx,bw),r,l⟩:cJ).l.length=n from bf.out,bM.out] at kB;with_reducible refine kB.mono ?_
 clear kB;rintro e V ⟨rfl,ay⟩;have c6:af (ao w w V):=aO.out.trans (ay.mono aO.out.size);have jc:=aq (aU cc.out ay);have kA:=aq (aU bN.out ay);clear g0 g1 g2 g3 g4 g5 g6 g7 g8 g9 ay;obtain⟨a0,bE,a2,a3⟩:=hb (show V.heap[w.heap.size+1]?=some (cU ⟨0,0,0,0⟩) from kA.out);have fr:=cR kA.out;cases v with
 |false=>
  obtain rfl:none=o:=b5.out;go_wp2_with fail;have jV:=oU [I 0,I 0,I 0,I 0] kA.out rfl;have ay:=tf (m:=0) (b:=w.heap.size+1) (nX _) [I 0,I 0,I 0,I 0] c6.out;exact dC (l6 rfl _ _ (w.heap.size+1) _ _ _ _ rfl jV Ek rfl (by kernel_rfl)) rfl ⟨rfl,ay⟩
 |true=>
  obtain⟨g0,g1,g2,g3,g4,g5,g6,g7,g8,g9⟩:=dZ jc.out;go_wp2_with fail;have kB:=alr S ⟨dU,(aW,aY),(bb,bh),(cx,bw),r,l⟩ s Eu.out b0.out pl cl pp cp V (aq (ek.out.below c6.out)) o (aq b5.out);rw[show (⟨dU,(aW,aY),(bb,bh),(cx,bw),r,l⟩:cJ).l.length=n from bf.out,bM.out] at kB;with_reducible refine kB.mono ?_
  clear kB;rintro e lF ⟨rfl,ay⟩;have cP:af (ao w w lF):=c6.out.trans (ay.mono c6.out.size);have lD:=aq (aU kA.out ay);clear ay g0 g1 g2 g3 g4 g5 g6 g7 g8 g9 a0 bE a2 a3 fr;obtain⟨a0,bE,a2,a3⟩:=hb (show lF.heap[w.heap.size+1]?=some (cU ⟨0,0,0,0⟩) from lD.out);have fr:=cR lD.out;go_wp2_with fail;have jV:=oU [I (o.getD eh).aD,I (o.getD eh).aC,I (o.getD eh).aG,I (o.getD eh).aE] lD.out rfl;have ay:=tf (m:=0) (b:=w.heap.size+1) (nX _) [I (o.getD eh).aD,I (o.getD eh).aC,I (o.getD eh).aG,I (o.getD eh).aE] cP.out;exact dC (l6 rfl _ _ (w.heap.size+1) _ _ _ _ rfl jV Ek rfl (by kernel_rfl)) rfl ⟨rfl,ay⟩
abbrev Ko(w0:aeo)(D:Nat)(d:Bool)(k aW aY bb bh cx bw r:Int)(pl:Ja)(n cl:Nat)(pp:Ja)(m cp:Nat)(g:Nat)(aD aC aG aE:Int)(Z:aeo):Prop:=
 Z.cell? ⟨D,0,none⟩=some (U d)∧ak Z D 1 (I k)∧ak Z D 2 (I aW)∧ak Z D 3 (I aY)∧ak Z D 4 (I bb)∧ak Z D 5 (I bh)∧ak Z D 6 (I cx)∧ak Z D 7 (I bw)∧ak Z D 8 (I r)∧ak Z D 9 (ad pl n cl)∧ak Z D 10 (ad pp m cp)∧ak Z g 0 (I aD)∧ak Z g 1 (I aC)∧ak Z g 2 (I aG)∧ak Z g 3 (I aE)∧ao w0 w0 Z
variable{n m g B bG:Nat}
theorem Z6{D:Nat}{d:Bool}{aW aY bb bh cx bw r:Int}{cl:Nat}{cp:Nat}{aD aC aG aE:Int}{v Z:aeo}(ay:ao v v Z)(h:Ko w0 D d k aW aY bb bh cx bw r pl n cl pp m cp g aD aC aG aE v):Ko w0 D d k aW aY bb bh cx bw r pl n cl pp m cp g aD aC aG aE Z:=
 ⟨bP ay h.1,bP ay h.2.1,bP ay h.2.2.1,bP ay h.2.2.2.1,bP ay h.2.2.2.2.1,bP ay h.2.2.2.2.2.1,bP ay h.2.2.2.2.2.2.1,bP ay h.2.2.2.2.2.2.2.1,bP ay h.2.2.2.2.2.2.2.2.1,bP ay h.2.2.2.2.2.2.2.2.2.1,bP ay h.2.2.2.2.2.2.2.2.2.2.1,bP ay h.2.2.2.2.2.2.2.2.2.2.2.1,bP ay h.2.2.2.2.2.2.2.2.2.2.2.2.1,bP ay h.2.2.2.2.2.2.2.2.2.2.2.2.2.1,bP ay h.2.2.2.2.2.2.2.2.2.2.2.2.2.2.1,h.2.2.2.2.2.2.2.2.2.2.2.2.2.2.2.trans (ay.mono h.2.2.2.2.2.2.2.2.2.2.2.2.2.2.2.size)⟩
theorem Z7{D:Nat}{d:Bool}{aW aY bb bh cx bw r:Int}{cl:Nat}{cp:Nat}{aD aC aG aE:Int}{v:aeo}(h:Ko w0 D d k aW aY bb bh cx bw r pl n cl pp m cp g aD aC aG aE v):ao w0 w0 v:=h.2.2.2.2.2.2.2.2.2.2.2.2.2.2.2
theorem aly(S:afp)(x:bO)(hx:Kj x)(p:Ja)(l:List dx)(n c:Nat)(hn:n=l.length)(aA:∀o∈l,qE o.2)(w:aeo)(H:af (h9 S w p l))(k:Int)(ax:af (kJ l x=k)):
  Calls Tryz.prog 126 #[ad p n c,h7 x] w fun e w'=>e=ab (I k)∧ao w w w':=by
 have n9:n≤1000000000:=by rw[hn];exact H.out.1
 have bf:=aq hn;have dT:=aq aA;have c2:=aq hx;obtain⟨F,hF⟩:∃F:Int→dx→Int,(fun k o=>nZ k (k2 x o.2) o.1)=F:=⟨_,rfl⟩;have aP:=aq hF;have l2:af ((l.drop 0).foldl F 0=k):=by show _=_;rw[←hF];exact ax.out
 clear hn aA hx hF ax;obtain⟨aD,aC,aG,aE⟩:=x;go_enter Tryz.func126,Tryz.ntmps126;go_wp2_with fail;have ez:af (ao w w (w.alloc (cU ⟨aD,aC,aG,aE⟩))):=jE _ _;have cc:af ((w.alloc (cU ⟨aD,aC,aG,aE⟩)).heap[w.heap.size]?=some (cU ⟨aD,aC,aG,aE⟩)):=cd _ _;generalize w.alloc (cU ⟨aD,aC,aG,aE⟩)=W at ez cc⊢
 go_loopw [5,10] (fun a i wr=>∃(j:Nat) (acc:Int) (aK:aeo),aK=wr∧j≤n∧af ((l.drop j).foldl F acc=k)∧a=I acc∧i=I j∧af (ao W W aK)) (fun _ i _=>n -(intOf i).toNat)
 case atStart=>exact⟨0,0,_,rfl,eE _,l2.out,rfl,rfl,Below.refl _ _⟩
 case round=>
 obtain⟨j,acc,aK,rfl,cr,df,rfl,rfl,aO⟩:=hrel;by_cases b1:j<n
 ·have fL:j<l.length:=(by rw[←bf.out];exact b1);have i':(j:Int)<(n:Int):=(by omega);obtain⟨⟨d,⟨b,s⟩⟩,aH⟩:=ar (l[j]);have Eu:=aq (dT.out (d,⟨b,s⟩) (by rw[←aH];exact mu _));obtain⟨hz,lv,pl,cl,pp,cp,rfl,q',_,ek,aN,aL,aI,c3,bJ,c5,b2,b',bX,bj,cu⟩:=(H.out.below (ez.out.trans (aO.out.mono ez.out.size))).at fL aH;have pF:=aq ek;obtain⟨bU,eI⟩:=ar (k2 ⟨aD,aC,aG,aE⟩ ⟨b,s⟩);obtain⟨a7,fT⟩:=ar (nZ acc bU d);have kx:=aq eI;have iQ:=aq fT;have ja:af ((l.drop (j+1)).foldl F a7=k):=(by show _=_;rw[←df.out,lT fL,aH,nW,←aP.out];simp only;rw[eI,fT]);obtain⟨cL,fv⟩:=ar b.l.length;obtain⟨ik,nK⟩:=ar s.len;have kB:af (∀Z,Below (aK).heap.size aK Z→Calls Tryz.prog 174 #[.agg #[I b.k,I b.a.1,I b.a.2,I b.b.1,I b.b.2,I b.c.1,I b.c.2,I b.r,ad pl cL cl,ad pp ik cp],h7 ⟨aD,aC,aG,aE⟩] Z fun e w'=>e=ab (I bU)∧ao Z Z w'):=(by intro Z eG;rw[←fv,←nK];exact alw S ⟨aD,aC,aG,aE⟩ c2.out b s Eu.out pl cl pp cp Z (aq (pF.out.below eG)) bU kx);rw[fv] at bj;rw[nK] at cu;clear ek aH eI fT fv nK;obtain⟨a0,bE,a2,a3⟩:=hb (aU cc.out aO.out);have dy:=lt_of_heap (aU cc.out aO.out);go_upto_region 5 with fail;have fo:af (Ko aK aK.heap.size d b.k b.a.1 b.a.2 b.b.1 b.b.2 b.c.1 b.c.2 b.r pl cL cl pp ik cp w.heap.size aD aC aG aE (aK.alloc (ai (#[U d,I b.k,I b.a.1,I b.a.2,I b.b.1,I b.b.2,I b.c.1,I b.c.2,I b.r,ad pl cL cl,ad pp ik cp]) dD))):=(by obtain⟨eD,a1,a6,ch,gw,na,js,tk,lf,jU,tl⟩:=pE (cd aK (ai (#[U d,I b.k,I b.a.1,I b.a.2,I b.b.1,I b.b.2,I b.c.1,I b.c.2,I b.r,ad pl cL cl,ad pp ik cp]) dD));have ay:=a' aK (ai (#[U d,I b.k,I b.a.1,I b.a.2,I b.b.1,I b.b.2,I b.c.1,I b.c.2,I b.r,ad pl cL cl,ad pp ik cp]) dD);exact⟨eD,a1,a6,ch,gw,na,js,tk,lf,jU,tl,bP ay a0,bP ay bE,bP ay a2,bP ay a3,ay⟩);generalize aK.alloc (.cells #[U d,I b.k,I b.a.1,I b.a.2,I b.b.1,I b.b.2,I b.c.1,I b.c.2,I b.r,ad pl cL cl,ad pp ik cp] dD)=cm at fo⊢;have tm:=aq (Z6 (Below.refl _ _).drew fo.out);clear a0 bE a2 a3 aN aL aI c3 bJ c5 b2 b' bX bj cu
  go_region_held3 (fun Z=>Ko aK aK.heap.size d b.k b.a.1 b.a.2 b.b.1 b.b.2 b.c.1 b.c.2 b.r pl cL cl pp ik cp w.heap.size aD aC aG aE Z) (first|with_reducible exact fo.out|with_reducible exact tm.out|with_reducible exact Z6 (by assumption) (by assumption)|assumption|fail) (first|(go_at_call 174;with_reducible refine (kB.out _ (Z7 (by assumption))).mono ?_;rintro e bt ⟨rfl,dS⟩)|(go_at_call 173;with_reducible refine (ZT acc bU d a7 iQ _).mono ?_;rintro e bt ⟨rfl,rfl⟩)|fail)
  rename_i hHeld;have aX:af (ao W W bt):=aO.out.trans ((Z7 hHeld).mono aO.out.size);clear hHeld fo tm;go_wp2_with fail;go_round<;>first|exact⟨j+1,a7,_,rfl,by omega,ja.out,rfl,by go_num,aX.out⟩|(simp[intOf]<;>omega)
 ·have iR:j=n:=(by omega);have c9:af (acc=k):=(by show _=_;rw[←df.out,n2 (by rw[←bf.out];omega)];rfl);subst iR;go_wp2_with fail;go_ret;exact⟨pA c9.out,ez.out.trans (aO.out.mono ez.out.size)⟩
abbrev jH:TypeId:=248
abbrev je:TypeId:=201
variable{v:ada}
theorem e9{xs:aev}(h:w.ownsRow B e bG v n xs)(ay:ao w w w'):w'.ownsRow B e bG v n xs:=
 h.kept (row:=none) ⟨ay.os,ay.tape,ay.output,ay.size,fun k ax _=>ay.block k ax⟩ (by cases v.ownBlock<;>simp)
theorem oZ{xs:aev}(h:w.ownsRow B e bG v n xs){b:Nat}{cs:ajv}{ei:Nat×Nat}(ay:w.heap[b]?=some (.cells cs t ei))(he:e≠t):v.ownBlock≠some b:=by
 rcases h.2 with ⟨rfl,_⟩|⟨g,cap,cur,rfl,_,aJ,_⟩
 ·simp[Value.ownBlock]
 ·intro az;have:g=b:=(by simpa[Value.ownBlock] using az);subst this;rw[ay] at aJ;injection aJ with aJ;injection aJ with _ bB;exact he bB.symm
theorem Kp{C:Nat}{f:aai}{s1 s2:Nat}{u:ada}{xs fw:aev}(h:w.ownsRow B e s1 v n xs)(g:w.ownsRow C f s2 u m fw)(he:e≠f):u.ownBlock=none∨u.ownBlock≠v.ownBlock:=by
 rcases g.2 with ⟨rfl,_⟩|⟨k,cap,cur,rfl,_,aJ,_⟩
 ·exact .inl rfl
 ·exact .inr (gJ (oZ h aJ he))
theorem jf{xs:aev}(h:w.ownsRow B e bG v n xs):∃p cap,v=ad p n cap:=by
 rcases h.2 with ⟨rfl,rfl⟩|⟨g,cap,cur,rfl,_⟩
 ·exact⟨_,_,rfl⟩
 ·exact⟨_,_,rfl⟩
theorem AN{xs:aev}{row:Option Nat}(h:w.ownsRow B e bG v n xs)(ba:w.grownBy w' row)(hne:v.ownBlock=none∨v.ownBlock≠row):w'.ownsRow B e bG v n xs:=h.kept ba hne
theorem Kq(w:aeo)(b i:Nat)(u:ada):w.grownBy (w.setCell (aj b i) u) (some b):=⟨rfl,rfl,rfl,by simp[World.setCell],fun k ax hne=>uo _ _ _ _ (by show k≠b;intro e;exact hne (by rw[e]))⟩
abbrev Cq(b:bO)(a:Bool):List Value:=[I b.aD,I b.aC,I b.aG,I b.aE,U a]
def o0(l:List (bO×Bool)):List Value:=l.flatMap fun e=>Cq e.1 e.2
theorem Z8(l:List (bO×Bool)):(o0 l).length=l.length *5:=by
 induction l with
 |nil=>rfl
 |cons a l cT=>simp only[o0,SQ,hl,eP] at cT⊢;rw[cT];simp;omega
variable{l:List (bO×Bool)}
theorem alz{i:Nat}(hi:i<l.length){b:bO}{a:Bool}(he:l[i]=(b,a)):((o0 l).drop (i *5)).take 5=Cq b a:=by
 have a1:l=l.take i++(b,a)::l.drop (i+1):=by conv=>lhs;rw[←Z5 i l,lT hi,he]
 have a6:o0 l=o0 (l.take i)++(Cq b a++o0 (l.drop (i+1))):=by
  conv=>lhs;rw[a1]
  simp only[o0,List.flatMap_append,SQ]
 rw[a6,Y7 (by rw[Z8,kj];omega),n2 (by rw[Z8,kj];omega),Jw,Y6 (by simp)];rfl
def wm(S:afp)(w:aeo)(p:Ja)(l:List (bO×Bool)):Prop:=l.length≤mo∧(0<l.length→∃(k o:Nat) (cs:ajv),p=some ⟨k,o,none⟩∧S k∧an w k cs jH∧(cs.toList.drop o).take (l.length *5)=o0 l)
theorem wm.keep{S:afp}(h:wm S w p l)(ax:aQ S w w'):wm S w' p l:=by refine⟨h.1,fun aA=>?_⟩;obtain⟨k,o,cs,e,hS,aJ,hp⟩:=h.2 aA;exact⟨k,o,cs,e,hS,ax.get hS aJ,hp⟩
theorem wm.below{S:afp}(h:wm S w p l)(ay:ao w w w'):wm S w' p l:=h.keep (.dI ay)
theorem wm.mono{S R:afp}(h:wm S w p l)(ax:∀k,k<w.heap.size→S k→R k):wm R w p l:=by refine⟨h.1,fun aA=>?_⟩;obtain⟨k,o,cs,e,hS,aJ,hp⟩:=h.2 aA;exact⟨k,o,cs,e,ax _ (lt_of_heap aJ) hS,aJ,hp⟩
theorem wm.at{S:afp}{w:aeo}{p:Ja}{l:List (bO×Bool)}(h:wm S w p l){i:Nat}(hi:i<l.length){b:bO}{a:Bool}(he:l[i]=(b,a)):
  ∃(k o:Nat),p=some ⟨k,o,none⟩∧ak w k (o+i *5) (I b.aD)∧ak w k (o+i *5+1) (I b.aC)∧ak w k (o+i *5+2) (I b.aG)∧ak w k (o+i *5+3) (I b.aE)∧ak w k (o+i *5+4) (U a):=by
 obtain⟨k,o,cs,rfl,_,aJ,hp⟩:=h.2 (by omega);have av:=alz hi he;rw[←hp,N4,xA,Ef,xH (by omega)] at av;have key:∀j,j<5→cs[o+i *5+j]?=(Cq b a)[j]?:=by intro j cr;rw[←av,s6,a8 cr,Av];simp
 have bQ:=key 0 (by decide);have bU:=key 1 (by decide);have a7:=key 2 (by decide);have il:=key 3 (by decide);have rb:=key 4 (by decide);simp only[G0] at bQ;refine⟨k,o,rfl,?_,?_,?_,?_,?_⟩<;>simp only[World.cell?, *]<;>rfl
structure my(S:afp)(w:aeo)(p q:Ja)(g:List eB):Prop where
 o:h9 S w p (g.map eB.o)
 e:wm S w q (g.map fun e=>(e.b,e.any))
theorem my.keep{S:afp}{w w':aeo}{p q:Ja}{l:List eB}(h:my S w p q l)(ax:aQ S w w'):my S w' p q l:=⟨h.o.keep ax,h.e.keep ax⟩
theorem my.below{S:afp}{q:Ja}{l:List eB}(h:my S w p q l)(ay:ao w w w'):my S w' p q l:=h.keep (.dI ay)
theorem my.mono{S R:afp}{w:aeo}{p q:Ja}{l:List eB}(h:my S w p q l)(ax:∀k,k<w.heap.size→S k→R k):my R w p q l:=⟨h.o.mono ax,h.e.mono ax⟩
abbrev lG(p:Ja)(n c:Nat)(q:Ja)(d:Nat):Array Value:= #[ad p n c,ad q n d]
structure tp(S:afp)(w0:aeo)(R:Nat)(os:List dx)(es:List (bO×Bool))(fg fz:ada)(x:aeo):Prop where
 r:an x R (#[fg,fz]) je
 o:∃xs,x.ownsRow (R+1) dD 11 fg os.length xs∧ds S x (p' os) xs
 e:x.ownsRow (R+1) jH 5 fz es.length (o0 es)
 aZ:ao w0 w0 x
theorem tp.below{S:afp}{w0:aeo}{R:Nat}{os:List dx}{es:List (bO×Bool)}{fg fz:ada}{x y:aeo}(h:tp S w0 R os es fg fz x)(ay:ao x x y):tp S w0 R os es fg fz y:=by obtain⟨xs,av,az⟩:=h.o;exact⟨aU h.r ay,⟨xs,e9 av ay,az.below ay⟩,e9 h.e ay,h.aZ.trans (ay.mono h.aZ.size)⟩
theorem tp.AO{S:afp}{w0:aeo}{R:Nat}{os:List dx}{es:List (bO×Bool)}{fg fz r7:ada}{x X y:aeo}{xs:aev}{d:Bool}{b:cJ}{s:bc}{pl:Ja}{cl:Nat}{pp:Ja}{cp:Nat}
  (hr:an X R (#[fg,fz]) je) (bl:X.ownsRow (R+1) dD 11 fg os.length xs) (hp:ds S X (p' os) xs) (he:X.ownsRow (R+1) jH 5 fz es.length (o0 es)) (Kr:ao w0 w0 X) (hS:∀k,S k→k<R) (hR:w0.heap.size≤R)
  (ba:X.grownBy y fg.ownBlock) (cI:y.ownsRow (R+1) dD 11 r7 (os.length+1) (xs++U d::ke b (ad pl b.l.length cl) (ad pp s.len cp))) (ay:dv S X pl cl pp cp ⟨b,s⟩):
  tp S w0 R (os++[(d,⟨b,s⟩)]) es r7 fz (y.setCell (aj R 0) r7):=by
 have ax:aQ S X y:=aQ.grown ba (fun k ax hs=>by have:=(bl.lt k ax).1;have:=hS k hs;omega);have Ev:some R≠fg.ownBlock:=fun h=>by have:=(bl.lt R h.symm).1;omega
 have hy:an y R (#[fg,fz]) je:=(ba.block R (lt_of_heap hr) Ev).trans hr;have xw:y.ownsRow (R+1) jH 5 fz es.length (o0 es):=AN he ba (Kp bl he (by decide));have Ew:=Kq y R 0 r7;have dy:∀{e:aai} {bG n:Nat} {v:ada} {AP:aev},y.ownsRow (R+1) e bG v n AP→v.ownBlock=none∨v.ownBlock≠some R:=fun h=>.inr (fun e=>by have:=(h.lt R e).1;omega);refine⟨dL r7 hy,⟨xs++U d::ke b (ad pl b.l.length cl) (ad pp s.len cp),?_,?_⟩,AN xw Ew (dy xw),(Kr.grown ba (dB Kr.size (bx _)) (fun k ax=>by have:=(bl.lt k ax).1;omega)).setCell (p:=⟨R,0,none⟩) hR _⟩
 ·rw[hl];exact AN cI Ew (dy cI)
 ·rw[Kn];have fT:aQ S X (y.setCell (aj R 0) r7):=ax.trans (aQ.set (a:=⟨R,0,none⟩) (fun hs=>oP _ (hS R hs)) r7);exact ds.append (hp.keep fT) (by rw[bl.1,Et]) (.mk (by rfl) (ay.keep fT) trivial)
theorem tp.Ex{S:afp}{w0:aeo}{R:Nat}{os:List dx}{es:List (bO×Bool)}{fg fz tq:ada}{X y:aeo}{b:bO}{a:Bool}
  (h:tp S w0 R os es fg fz X) (hS:∀k,S k→k<R) (hR:w0.heap.size≤R)
  (ba:X.grownBy y fz.ownBlock) (cI:y.ownsRow (R+1) jH 5 tq (es.length+1) (o0 es++Cq b a)):
  tp S w0 R os (es++[(b,a)]) fg tq (y.setCell (aj R 1) tq):=by
 obtain⟨xs,bl,hp⟩:=h.o;have ax:aQ S X y:=aQ.grown ba (fun k ax hs=>by have:=(h.e.lt k ax).1;have:=hS k hs;omega);have Ev:some R≠fz.ownBlock:=fun e=>by have:=(h.e.lt R e.symm).1;omega
 have hy:an y R (#[fg,fz]) je:=(ba.block R (lt_of_heap h.r) Ev).trans h.r;have iW:y.ownsRow (R+1) dD 11 fg os.length xs:=AN bl ba (Kp h.e bl (by decide));have Ew:=Kq y R 1 tq;have dy:∀{e:aai} {bG n:Nat} {v:ada} {AP:aev},y.ownsRow (R+1) e bG v n AP→v.ownBlock=none∨v.ownBlock≠some R:=fun h=>.inr (fun e=>by have:=(h.lt R e).1;omega);refine⟨dL tq hy,⟨xs,AN iW Ew (dy iW),?_⟩,?_,(h.aZ.grown ba (dB h.aZ.size (bx _)) (fun k ax=>by have:=(h.e.lt k ax).1;omega)).setCell (p:=⟨R,1,none⟩) hR _⟩
 ·exact (hp.keep ax).keep (aQ.set (a:=⟨R,1,none⟩) (fun hs=>oP _ (hS R hs)) tq)
 ·rw[hl];have e:o0 (es++[(b,a)])=o0 es++Cq b a:=(by simp[o0]);rw[e];exact AN cI Ew (dy cI)
theorem tp.done{S R':afp}{R:Nat}{g:List eB}{fg fz:ada}{x:aeo}(h:tp S w0 R (g.map eB.o) (g.map fun e=>(e.b,e.any)) fg fz x)(n9:g.length≤mo)(hS:∀k,S k→R' k)(hR:∀k,R+1≤k→R' k):
  ∃p c q d,fg=ad p g.length c∧fz=ad q g.length d∧my R' x p q g:=by
 obtain⟨xs,bl,hp⟩:=h.o;obtain⟨p,c,rfl⟩:=jf bl;obtain⟨q,d,rfl⟩:=jf h.e;rw[e6,e6];refine⟨p,c,q,d,rfl,rfl,⟨by rw[e6];exact n9,fun aA=>?_⟩,⟨by rw[e6];exact n9,fun aA=>?_⟩⟩
 ·rcases bl.2 with ⟨_,aT⟩|⟨k,cap,cur,aS,ay,aJ,_,_,_,bB⟩
  ·omega
  ·injection aS with av _ _;refine⟨k,0,cur,av,hR k ay,aJ,?_⟩;refine (hp.mono (fun k _ hs=>hS k hs)).congr ?_;rw[Et,rR,←bB,Ef,Ok]
 ·rcases h.e.2 with ⟨_,aT⟩|⟨k,cap,cur,aS,ay,aJ,_,_,_,bB⟩
  ·omega
  ·injection aS with av _ _;exact⟨k,0,cur,av,hR k ay,aJ,by rw[rR];exact bB⟩
theorem alA(p:bK):h2 h1 p=p:=by obtain⟨x,y⟩:=p;simp[h2,h1,dH.flip,Gu]
theorem Z9(l:List bK):l.map (h2 h1)=l:=by rw[show h2 h1=id from funext alA,List.map_id]
theorem alB(l:List (List bK)):(l.map fun c=>c.map (h2 h1))=l:=by rw[show (fun c:List bK=>c.map (h2 h1))=id from funext Z9,List.map_id]
def uP(l:List bK):List Value:=l.flatMap fun p=>[I p.1,I p.2]
theorem Z'(l:List bK):(uP l).length=l.length *2:=by
 induction l with
 |nil=>rfl
 |cons a l cT=>simp only[uP,SQ,hl,eP] at cT⊢;rw[cT];simp;omega
theorem Ol:∀{l:List bK} {i:Nat} (hi:i<l.length),(uP l)[i *2]?=some (I l[i].1)∧(uP l)[i *2+1]?=some (I l[i].2)
 |a::l,0,_=>⟨rfl,rfl⟩
 |a::l,i+1,hi=>by have h:=Ol (l:=l) (i:=i) (by simpa using hi);have e:uP (a::l)=I a.1::I a.2::uP l:=rfl;rw[e,show (i+1) *2=i *2+1+1 by omega];exact h
theorem alC{l:List bK}{u:ada}(h:u∈uP l):u.oneCell'=true:=by obtain⟨p,_,hp⟩:=List.mem_flatMap.1 h;simp at hp;rcases hp with rfl|rfl<;>rfl
theorem h6.news{S:afp}{l:List bK}(h:h6 S w p l)(aA:0<l.length):∃b o,p=some ⟨b,o,none⟩∧∀j u,(uP l)[j]?=some u→w.cell? ((⟨b,o,none⟩:Addr).add j)=some u:=by
 obtain⟨b,o,cs,rfl,_,aJ,hc⟩:=h.2 aA;refine⟨b,o,rfl,fun j u hu=>?_⟩;have cr:j<l.length *2:=by rw[←Z'];exact (List.getElem?_eq_some_iff.1 hu).1
 have zn:(⟨b,o,none⟩:Addr).add j=⟨b,o+j,none⟩:=by unfold Addr.add;split<;>simp_all
 rw[zn];obtain⟨aT,av⟩:=hc (j/2) (by omega);obtain⟨g0,g1⟩:=Ol (l:=l) (i:=j/2) (by omega);rcases (show j=j/2 *2∨j=j/2 *2+1 by omega) with e|e
 ·rw[e,g0] at hu;rw[e];rw[←hu];exact cell_of aJ aT
 ·rw[e,g1] at hu;rw[e,←xe];rw[←hu];exact cell_of aJ av
theorem h6.own{R:afp}{cap:Nat}{l:List bK}(h:w.ownsRow B i7 2 (ag g 0 n cap) n (uP l))(hn:n=l.length)(ay:l.length≤mo)(hR:∀k,B≤k→R k):h6 R w (some (aj g 0)) l∧l.length≤cap:=by
 subst hn;rcases h.2 with ⟨aS,_⟩|⟨k,mn,cur,aS,bL,aJ,hc,_,_,bB⟩
 ·cases aS
 ·injection aS with av _ aF;injection av with av;injection av with av;subst av aF;refine⟨⟨ay,fun aA=>⟨g,0,cur,rfl,hR g bL,aJ,fun i hi=>?_⟩⟩,hc⟩;obtain⟨g0,g1⟩:=Ol (l:=l) hi;rw[←bB,s6] at g0 g1;rw[a8 (by omega)] at g0 g1;rw[kr];exact⟨by simpa using g0,by simpa using g1⟩
theorem alD{P:Program}{z:Option Value}{b:Nat}(h:(P.info? t).map (fun i=>(i.zero,i.size,i.bytes))=some (z,n,b)):∃i,P.info? t=some i∧i.zero=z∧i.size=n∧i.bytes=b:=by
 cases hi:P.info? t with
 |none=>rw[hi] at h;cases h
 |some i=>
  rw[hi] at h;simp only[Cp,mi,fS] at h;exact⟨i,rfl,h.1,h.2.1,h.2.2⟩
theorem alE(h:w.grownBy w' (Value.slice none 0 0).ownBlock):ao w w w':=⟨h.os,h.tape,h.output,h.size,fun k ax=>h.block k ax (by simp[Value.ownBlock])⟩
theorem aaa(a b:Int)(ha:0≤a∧a≤1000000000)(ay:0≤b∧b≤1000000000)(w:aeo):Calls Tryz.prog 118 #[I a,I b] w fun e w'=>e=ab (I (a+b))∧w'=w:=by
 have av:ae (9223372036854775807-b)=9223372036854775807-b:=cX _ (by omega);have az:ae (a+b)=a+b:=cX _ (by omega);have aF:¬a > 9223372036854775807-b:=by omega
 go_enter Tryz.func118,Tryz.ntmps118;go_wp2_with fail;go_ret;exact⟨rfl,rfl⟩
theorem alF(p:Ja)(c:Nat)(w:aeo):Calls Tryz.prog 119 #[ad p 0 c] w fun e w'=>e=ab (I 0)∧ao w w w':=by go_enter Tryz.func119,Tryz.ntmps119;go_wp2_with fail;go_ret;exact⟨rfl,Below.refl _ _⟩
theorem alG(k aW aY bb bh cx bw r:Int)(pl:Ja)(n cl:Nat)(pp:Ja)(cp:Nat)(w:aeo):Calls Tryz.prog 79 #[.agg #[I k,I aW,I aY,I bb,I bh,I cx,I bw,I r,ad pl n cl,ad pp 0 cp]] w fun e w'=>e=ab (I 1)∧ao w w w':=by
 go_enter Tryz.func79,Tryz.ntmps79;go_wp2_with fail;with_reducible refine (alF pp cp _).mono ?_
 rintro e W ⟨rfl,ay⟩;go_wp2_with fail;with_reducible refine (aaa 1 0 ⟨by decide,by decide⟩ ⟨by decide,by decide⟩ _).mono ?_
 rintro e cm ⟨rfl,rfl⟩;go_wp2_with fail;go_ret;exact⟨rfl,(jE _ _).trans (ay.mono (jE _ _).size)⟩
theorem alH(S:afp)(p:Ja)(l:List (List bK))(hne:∀c∈l,0<c.length)(n c:Nat)(hn:n=l.length)(w:aeo)(H:af (iC S w p l)):
  Calls Tryz.prog 80 #[ad p n c] w fun e w'=>∃q d,e=ab (ad q n d)∧n≤d∧iC (fun k=>w.heap.size≤k) w' q l∧ao w w w':=by
 have n9:n≤1000000000:=by rw[hn];exact H.out.1
 have bf:=aq hn;have lH:=aq hne;clear hn hne;by_cases l4:n=0
 ·subst l4;have SR:af (l=[]):=rQ bf.out.symm;go_enter Tryz.func80,Tryz.ntmps80;go_wp2_with fail;go_ret;exact⟨none,0,rfl,bx _,by rw[SR.out];exact .nil _ _ _,Below.refl _ _⟩
 have kg:((n:Int)==0)=false:=by simp;omega
 have uw:=AF (P:=Tryz.prog) 72 78 (J 0) 1 24 Tryz.underlying72 Zy n (by omega) (by omega);go_enter Tryz.func80,Tryz.ntmps80;go_wp2_with fail;obtain⟨W,br⟩:=ar (w.alloc (ai (madeCells #[J 0] n) k6));have ij:af (ao w w W):=by show Below _ _ _;rw[←br];exact a' _ _
 have AQ:af (∃cs,an W w.heap.size cs k6∧cs.size=n∧nF (fun k=>w.heap.size<k) W cs h1 l 0):=by refine⟨madeCells #[J 0] n,by rw[←br];exact cd _ _,Hb _ _,fun i _ h=>absurd h (nB _)⟩
 change Code.wp _ _ _ _ (w.alloc (ai (madeCells #[J 0] n) k6));rw[br];clear br uw;obtain⟨i0,hi,dE,dP,dq⟩:=alD Zz;have bZ:=aq (And.intro hi (And.intro dE (And.intro dP dq)));clear hi dE dP dq
 go_loopw [14] (fun i wr=>∃(j:Nat) (aK:aeo),aK=wr∧j≤n∧i=I j∧af (ao w w aK)∧af (∃cs,an aK w.heap.size cs k6∧cs.size=n∧nF (fun k=>w.heap.size<k) aK cs h1 l j)) (fun i _=>n -(intOf i).toNat)
 case atStart=>exact⟨0,_,rfl,eE _,rfl,ij.out,AQ.out⟩
 case round=>
 obtain⟨j,aK,rfl,cr,rfl,aO,bq⟩:=hrel;by_cases b1:j<n
 ·have fL:j<l.length:=(by rw[←bf.out];exact b1);have i':(j:Int)<(n:Int):=(by omega);have Ks:(0:Int)≤(j:Int):=(by omega);obtain⟨r,hr⟩:=ar (l[j]);obtain⟨fC,xN,jr,nz,rfl,Kh,_,mq⟩:=H.out.at fL hr;have p2:=bP aO.out Kh;have Ey:0<r.length:=lH.out r (by rw[←hr];exact mu _);obtain⟨nA,l3,rfl,AR⟩:=(mq.below aO.out).news Ey;have alI:=aq AR;have Kt:r.length≤1000000000:=mq.1;have oS:=aq mq.1;obtain⟨m,hm⟩:=ar r.length;have Ho:=aq hm;have alJ:=aq hr;rw[hm] at p2 Ey Kt;have hlen:(uP r).length=m *2:=(by rw[Z',hm]);have im:=aq hlen;obtain⟨cs,gm,gK,d'⟩:=bq.out;have Ei:=aq (And.intro gm (And.intro gK d'));have aab:=lt_of_heap gm;have l7:∀bt,aK.grownBy bt (Value.slice none 0 0).ownBlock→(∃v,ak bt w.heap.size j v)∧bt.frozen? ⟨w.heap.size,j,none⟩=false:=(by intro bt ba;have av:an bt w.heap.size cs k6:=(ba.block _ aab (by simp[Value.ownBlock])).trans gm;exact⟨J9 av (by omega),cR av j⟩);have alK:=aq l7;clear Kh mq AR hr hm gm gK d' hlen l7 bq;go_upto_region 7 with fail;go_wp2_with (at_builtin;refine zm _ rfl _ _ _ rfl (w.heap.size+1) i7 i0 (.agg #[I 0,I 0]) 2 16 Tryz.underlying78 bZ.out.1 bZ.out.2.1 bZ.out.2.2.1 bZ.out.2.2.2 rfl (by omega) (J 0) 0 [] (by rfl) ⟨rfl,.inl ⟨rfl,rfl⟩⟩ (aj nA l3) m nz (uP r) (by rfl) im.out alI.out ?_ ?_ ?_ ?_ ?_ aK.heap.size ?_ ?_;exact (fun u h=>alC h);exact Ey;(unfold maxLen;omega);omega;exact aab;rfl;intro g cap bt cI dO eJ hV;obtain⟨⟨v5,bW⟩,cj⟩:=alK.out bt dO);have dS:=alE dO;have SS:af (ao w w bt):=aO.out.trans (dS.mono aO.out.size);have SU:=h6.own (R:=fun k=>w.heap.size<k) (l:=r) (by simpa using cI) Ho.out.symm oS.out (fun k h=>h);have b9:an bt w.heap.size cs k6:=aU Ei.out.1 dS;have AH:aQ (fun k=>w.heap.size<k) bt (bt.setCell (aj w.heap.size j) (ag g 0 m cap)):=aQ.set (a:=⟨w.heap.size,j,none⟩) (fun h=>oP _ h) _;have aac:=((Ei.out.2.2.keep (aQ.dI dS)).keep AH).next (by rw[Ei.out.2.1];exact b1) (q:=some ⟨g,0,none⟩) (m:=m) (c:=cap) fL alJ.out Ho.out (by have:=SU.2;rw[Ho.out] at this;exact this) (by rw[Z9];exact SU.1.keep AH)
  have Eh:af (∃cs,(bt.setCell (aj w.heap.size j) (ag g 0 m cap)).heap[w.heap.size]?=some (.cells cs k6)∧cs.size=n∧nF (fun k=>w.heap.size<k) (bt.setCell (aj w.heap.size j) (ag g 0 m cap)) cs h1 l (j+1)):=⟨_,dL _ b9,by rw[Ci];exact Ei.out.2.1,aac⟩;have mv:af (ao w w (bt.setCell (aj w.heap.size j) (ag g 0 m cap))):=SS.out.setCell (p:=⟨w.heap.size,j,none⟩) (bx _) _;clear cI dO eJ hV bW cj dS SU b9 AH aac SS;go_round<;>first|exact⟨j+1,_,rfl,by omega,by go_num,mv.out,Eh.out⟩|(simp[intOf]<;>omega)
 ·have iR:j=n:=(by omega);subst iR;obtain⟨cs,gm,gK,d'⟩:=bq.out;rw[bf.out] at d';have hc:=nF.cons (R:=fun k=>w.heap.size≤k) (B:=w.heap.size) (d'.mono (fun k _ h=>tn h)) (bx _) gm (by have:=bf.out;show _≤1000000000;omega);rw[alB] at hc;have bz:=aq hc;clear hc gm gK d';go_wp2_with fail;go_ret;exact⟨_,_,rfl,bx _,bz.out,aO.out⟩
end c4
