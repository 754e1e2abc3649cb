/- Lemmas. -/
import Derived.Test.YtfldplmgkeiimaaGreatDoorQ8
import Derived.Laws.AppendOwn
import Derived.Deep.AppendLies
import Derived.OwnWalk
set_option linter.all false
set_option maxRecDepth 100000
set_option maxHeartbeats 12800000
namespace Go.Proofs.YtfldplmgkeiimaaGreatDoor
abbrev Ty:=@List.take_append_drop
abbrev Tz:=@List.flatMap_cons
abbrev uW:=@List.drop_zero
abbrev OM:=@Nat.min_self
abbrev CX:=@Option.map_some
abbrev zE:=@wpList_append_lies
abbrev CY:=@Nat.le_of_lt
namespace dE
open Go.RowKit el
abbrev dQ:TypeId:=77
def qg:List ec→bh
 |[]=>.nil
 |o::l=>.cons o.1 o.2.b o.2.p (qg l)
theorem EW:∀l:List ec,(qg l).len=l.length
 |[]=>rfl
 |_::l=>by simp only[qg,bh.len,EW l,fK]
theorem KH:∀l m:List ec,qg (l++m)=(qg l).append (qg m)
 |[],_=>rfl
 |_::l,m=>by simp only[JL,qg,bh.append,KH l m]
def iD(S:Jp)(w:bTo)(p:aya)(l:List ec):Prop:=l.length≤nA∧(0<l.length→∃(k o:Nat) (cs:agv),p=some ⟨k,o,none⟩∧S k∧bo w k cs dQ∧dS S w (qg l) (cs.toList.drop o))
theorem iD.nil(S:Jp)(w:bTo)(p:aya):iD S w p []:=⟨eC _,fun h=>absurd h (nz _)⟩
theorem iD.keep{S:Jp}{w w':bTo}{p:aya}{l:List ec}(h:iD S w p l)(ab:aL S w w'):iD S w' p l:=by refine⟨h.1,fun aj=>?_⟩;obtain⟨k,o,cs,e,hS,aF,hp⟩:=h.2 aj;exact⟨k,o,cs,e,hS,ab.get hS aF,dS.keep ab hp⟩
variable{w w' w0:bTo}{p pl pp:aya}
theorem iD.below{S:Jp}{l:List ec}(h:iD S w p l)(af:av w w w'):iD S w' p l:=h.keep (.dM af)
theorem iD.mono{S R:Jp}{w:bTo}{p:aya}{l:List ec}(h:iD S w p l)(ab:∀k,k<w.heap.size→S k→R k):iD R w p l:=by refine⟨h.1,fun aj=>?_⟩;obtain⟨k,o,cs,e,hS,aF,hp⟩:=h.2 aj;exact⟨k,o,cs,e,ab _ (lt_of_heap aF) hS,aF,dS.mono ab hp⟩
theorem iD.at{S:Jp}{w:bTo}{p:aya}{l:List ec}{a:Bool}{b:dL}{s:bh}{n:Nat}(h:iD S w p l)(hn:n<l.length)(he:l[n]=(a,⟨b,s⟩)):
  ∃(k o:Nat) (pl:aya) (cl:Nat) (pp:aya) (cp:Nat),p=some ⟨k,o,none⟩∧k<w.heap.size∧S k∧dY S w pl cl pp cp ⟨b,s⟩∧
   aw w k (o+n *11) (ai a)∧aw w k (o+n *11+1) (I b.k)∧aw w k (o+n *11+2) (I b.a.1)∧aw w k (o+n *11+3) (I b.a.2)∧aw w k (o+n *11+4) (I b.b.1)∧aw w k (o+n *11+5) (I b.b.2)∧aw w k (o+n *11+6) (I b.c.1)∧aw w k (o+n *11+7) (I b.c.2)∧aw w k (o+n *11+8) (I b.r)∧aw w k (o+n *11+9) (ad pl b.l.length cl)∧aw w k (o+n *11+10) (ad pp s.len cp):=by
 obtain⟨k,o,cs,rfl,hS,aF,hp⟩:=h.2 (by omega);have aN:l=l.take n++(a,⟨b,s⟩)::l.drop (n+1):=by conv=>lhs;rw[←Ty n l,l3 hn,he]
 rw[aN,KH] at hp;have ah:=hp.drop;rw[pd,EW,mf,EB (by omega)] at ah;obtain⟨pl,cl,pp,cp,ax,hs⟩:=dS.head (show dS S w (.cons a b s (qg (l.drop (n+1)))) _ from ah);obtain⟨aJ,aI,c2,c3,bF,c5,b1,b5,bS,bf,cy⟩:=Yp ax;refine⟨k,o,pl,cl,pp,cp,rfl,lt_of_heap aF,hS,hs,?_,?_,?_,?_,?_,?_,?_,?_,?_,?_,?_⟩<;>simp only[World.cell?, *]<;>rfl
variable{t e:aui}
theorem qM{k:Nat}{v0 v1 v2 v3 v4 v5 v6 du ds v9 v10:ada}(h:bo w k (#[v0,v1,v2,v3,v4,v5,v6,du,ds,v9,v10]) t):
  aw w k 0 v0∧aw w k 1 v1∧aw w k 2 v2∧aw w k 3 v3∧aw w k 4 v4∧aw w k 5 v5∧aw w k 6 v6∧aw w k 7 du∧aw w k 8 ds∧aw w k 9 v9∧aw w k 10 v10:=by
 refine⟨?_,?_,?_,?_,?_,?_,?_,?_,?_,?_,?_⟩<;>simp[World.cell?,h]
variable{k:Int}
theorem akj{s:ey}{x:bR}(h:okV s=true)(ab:p2 x s=k):G2 x s=k:=by rw[←ab];unfold p2;rw[aT h]
theorem akk(S:Jp)(x:bR)(hx:A0 x)(b:dL)(s:bh)(hn:qI ⟨b,s⟩)(pl:aya)(cl:Nat)(pp:aya)(cp:Nat)(w:bTo)(eF:J (dY S w pl cl pp cp ⟨b,s⟩))(k:Int)(ab:J (p2 x ⟨b,s⟩=k)):
  Calls Tryz.prog 174 #[j0 b (ad pl b.l.length cl) (ad pp s.len cp),gJ x] w fun e w'=>e=bb (I k)∧av w w w':=by
 obtain⟨v,aS⟩:=az (okV ⟨b,s⟩);have cd:=U aS;have KI:=U hn;have cV:=U hx;have af:j0 b (ad pl b.l.length cl) (ad pp s.len cp)=.agg #[I b.k,I b.a.1,I b.a.2,I b.b.1,I b.b.2,I b.c.1,I b.c.2,I b.r,ad pl b.l.length cl,ad pp s.len cp]:=rfl;obtain⟨ao,ak,ar,aq⟩:=x;obtain⟨n,eY⟩:=az b.l.length;obtain⟨m,hm⟩:=az s.len;have a1:=U eY;have bB:=U hm;clear aS hn hx af;obtain⟨di,⟨aA,aB⟩,⟨aU,aZ⟩,⟨cx,aP⟩,r,l⟩:=b;show Calls _ _ #[.agg #[I di,I aA,I aB,I aU,I aZ,I cx,I aP,I r,ad pl l.length cl,ad pp s.len cp],gJ ⟨ao,ak,ar,aq⟩] w _;simp only at eY;rw[eY,hm];clear eY hm;go_enter Tryz.func174,Tryz.ntmps174;go_upto_region 1 with fail;obtain⟨W,a6⟩:=az ((w.alloc (aD (#[I di,I aA,I aB,I aU,I aZ,I cx,I aP,I r,ad pl n cl,ad pp m cp]) dh)).alloc (cH ⟨ao,ak,ar,aq⟩));have aH:J (av w w W):=by show Below _ _ _;rw[←a6];exact k5 _ _ _
 have b8:J (bo W w.heap.size (#[I di,I aA,I aB,I aU,I aZ,I cx,I aP,I r,ad pl n cl,ad pp m cp]) dh):=by show _=_;rw[←a6];exact aO (cw _ _) (ba _ _)
 have bL:J (W.heap[w.heap.size+1]?=some (cH ⟨ao,ak,ar,aq⟩)):=by show _=_;rw[←a6];exact ry _ _ _
 rw[a6];clear a6;obtain⟨g0,g1,g2,g3,g4,g5,g6,g7,g8,g9⟩:=en b8.out;go_wp2_with fail;have kQ:=J3 S ⟨di,(aA,aB),(aU,aZ),(cx,aP),r,l⟩ s pl cl pp cp W (U (eF.out.below aH.out)) v cd;rw[show (⟨di,(aA,aB),(aU,aZ),(cx,aP),r,l⟩:dL).l.length=n from a1.out,bB.out] at kQ;with_reducible refine kQ.mono ?_
 clear kQ;rintro e V ⟨rfl,af⟩;have cm:J (av w w V):=aH.out.trans (af.mono aH.out.size);have gf:=U (aO b8.out af);have gN:=U (aO bL.out af);clear g0 g1 g2 g3 g4 g5 g6 g7 g8 g9 af;cases v with
 |false=>
  have aE:J ((0:Int)=k):=(by show _=_;rw[←ab.out];unfold p2;rw[cd.out];rfl);go_wp2_with fail;go_ret;exact⟨fU aE.out,cm.out⟩
 |true=>
  obtain⟨g0,g1,g2,g3,g4,g5,g6,g7,g8,g9⟩:=en gf.out;obtain⟨a0,a',a2,a3⟩:=fD gN.out;go_wp2_with fail;have kQ:=aj4 S ⟨ao,ak,ar,aq⟩ cV.out ⟨di,(aA,aB),(aU,aZ),(cx,aP),r,l⟩ s cd.out pl cl pp cp V (U (eF.out.below cm.out)) k (U (akj cd.out ab.out));rw[show (⟨di,(aA,aB),(aU,aZ),(cx,aP),r,l⟩:dL).l.length=n from a1.out,bB.out] at kQ;with_reducible refine kQ.mono ?_
  clear kQ;rintro e hG ⟨rfl,af⟩;have c1:J (av w w hG):=cm.out.trans (af.mono cm.out.size);clear af g0 g1 g2 g3 g4 g5 g6 g7 g8 g9 a0 a' a2 a3;go_wp2_with fail;go_ret;exact⟨rfl,c1.out⟩
theorem akl(S:Jp)(b:dL)(s:bh)(hn:qI ⟨b,s⟩)(pl:aya)(cl:Nat)(pp:aya)(cp:Nat)(w:bTo)(eF:J (dY S w pl cl pp cp ⟨b,s⟩))(o:Option bR)(bl:J (v8 ⟨b,s⟩=o)):
  Calls Tryz.prog 122 #[j0 b (ad pl b.l.length cl) (ad pp s.len cp)] w fun e w'=>e=bb (.tuple #[gJ (o.getD ed),ai o.isSome])∧av w w w':=by
 obtain⟨v,aS⟩:=az (okV ⟨b,s⟩);have cd:=U aS;have KI:=U hn;have ir:=bl.out;unfold v8 at ir;rw[aS] at ir;have b':=U ir;obtain⟨n,eY⟩:=az b.l.length;obtain⟨m,hm⟩:=az s.len;have a1:=U eY;have bB:=U hm;clear aS hn bl ir;obtain⟨di,⟨aA,aB⟩,⟨aU,aZ⟩,⟨cx,aP⟩,r,l⟩:=b;show Calls _ _ #[.agg #[I di,I aA,I aB,I aU,I aZ,I cx,I aP,I r,ad pl l.length cl,ad pp s.len cp]] w _;simp only at eY;rw[eY,hm];clear eY hm;go_enter Tryz.func122,Tryz.ntmps122;go_upto_region 1 with fail;obtain⟨W,a6⟩:=az ((w.alloc (aD (#[I di,I aA,I aB,I aU,I aZ,I cx,I aP,I r,ad pl n cl,ad pp m cp]) dh)).alloc (cH ed));have aH:J (av w w W):=by show Below _ _ _;rw[←a6];exact k5 _ _ _
 have b8:J (bo W w.heap.size (#[I di,I aA,I aB,I aU,I aZ,I cx,I aP,I r,ad pl n cl,ad pp m cp]) dh):=by show _=_;rw[←a6];exact aO (cw _ _) (ba _ _)
 have bL:J (W.heap[w.heap.size+1]?=some (cH ed)):=by show _=_;rw[←a6];exact ry _ _ _
 change Code.wp _ _ _ _ ((w.alloc (aD (#[I di,I aA,I aB,I aU,I aZ,I cx,I aP,I r,ad pl n cl,ad pp m cp]) dh)).alloc (cH ed));rw[a6];clear a6;obtain⟨g0,g1,g2,g3,g4,g5,g6,g7,g8,g9⟩:=en b8.out;go_wp2_with fail;have kQ:=J3 S ⟨di,(aA,aB),(aU,aZ),(cx,aP),r,l⟩ s pl cl pp cp W (U (eF.out.below aH.out)) v cd;rw[show (⟨di,(aA,aB),(aU,aZ),(cx,aP),r,l⟩:dL).l.length=n from a1.out,bB.out] at kQ;with_reducible refine kQ.mono ?_
 clear kQ;rintro e V ⟨rfl,af⟩;have cm:J (av w w V):=aH.out.trans (af.mono aH.out.size);have gf:=U (aO b8.out af);have gN:=U (aO bL.out af);clear g0 g1 g2 g3 g4 g5 g6 g7 g8 g9 af;obtain⟨a0,a',a2,a3⟩:=fD (show V.heap[w.heap.size+1]?=some (cH ⟨0,0,0,0⟩) from gN.out);have fr:=cP gN.out;cases v with
 |false=>
  obtain rfl:none=o:=b'.out;go_wp2_with fail;have hO:=me [I 0,I 0,I 0,I 0] gN.out rfl;have af:=pt (m:=0) (b:=w.heap.size+1) (l4 _) [I 0,I 0,I 0,I 0] cm.out;exact dH (nK rfl _ _ (w.heap.size+1) _ _ _ _ rfl hO zw rfl (by kernel_rfl)) rfl ⟨rfl,af⟩
 |true=>
  obtain⟨g0,g1,g2,g3,g4,g5,g6,g7,g8,g9⟩:=en gf.out;go_wp2_with fail;have kQ:=akg S ⟨di,(aA,aB),(aU,aZ),(cx,aP),r,l⟩ s cd.out pl cl pp cp V (U (eF.out.below cm.out)) o (U b'.out);rw[show (⟨di,(aA,aB),(aU,aZ),(cx,aP),r,l⟩:dL).l.length=n from a1.out,bB.out] at kQ;with_reducible refine kQ.mono ?_
  clear kQ;rintro e hG ⟨rfl,af⟩;have c1:J (av w w hG):=cm.out.trans (af.mono cm.out.size);have mU:=U (aO gN.out af);clear af g0 g1 g2 g3 g4 g5 g6 g7 g8 g9 a0 a' a2 a3 fr;obtain⟨a0,a',a2,a3⟩:=fD (show hG.heap[w.heap.size+1]?=some (cH ⟨0,0,0,0⟩) from mU.out);have fr:=cP mU.out;go_wp2_with fail;have hO:=me [I (o.getD ed).ao,I (o.getD ed).ak,I (o.getD ed).ar,I (o.getD ed).aq] mU.out rfl;have af:=pt (m:=0) (b:=w.heap.size+1) (l4 _) [I (o.getD ed).ao,I (o.getD ed).ak,I (o.getD ed).ar,I (o.getD ed).aq] c1.out;exact dH (nK rfl _ _ (w.heap.size+1) _ _ _ _ rfl hO zw rfl (by kernel_rfl)) rfl ⟨rfl,af⟩
abbrev KJ(w0:bTo)(D:Nat)(d:Bool)(k aA aB aU aZ cx aP r:Int)(pl:aya)(n cl:Nat)(pp:aya)(m cp:Nat)(g:Nat)(ao ak ar aq:Int)(Z:bTo):Prop:=
 Z.cell? ⟨D,0,none⟩=some (ai d)∧aw Z D 1 (I k)∧aw Z D 2 (I aA)∧aw Z D 3 (I aB)∧aw Z D 4 (I aU)∧aw Z D 5 (I aZ)∧aw Z D 6 (I cx)∧aw Z D 7 (I aP)∧aw Z D 8 (I r)∧aw Z D 9 (ad pl n cl)∧aw Z D 10 (ad pp m cp)∧aw Z g 0 (I ao)∧aw Z g 1 (I ak)∧aw Z g 2 (I ar)∧aw Z g 3 (I aq)∧av w0 w0 Z
variable{n m g B bn:Nat}
theorem ZH{D:Nat}{d:Bool}{aA aB aU aZ cx aP r:Int}{cl:Nat}{cp:Nat}{ao ak ar aq:Int}{v Z:bTo}(af:av v v Z)(h:KJ w0 D d k aA aB aU aZ cx aP r pl n cl pp m cp g ao ak ar aq v):KJ w0 D d k aA aB aU aZ cx aP r pl n cl pp m cp g ao ak ar aq Z:=
 ⟨bM af h.1,bM af h.2.1,bM af h.2.2.1,bM af h.2.2.2.1,bM af h.2.2.2.2.1,bM af h.2.2.2.2.2.1,bM af h.2.2.2.2.2.2.1,bM af h.2.2.2.2.2.2.2.1,bM af h.2.2.2.2.2.2.2.2.1,bM af h.2.2.2.2.2.2.2.2.2.1,bM af h.2.2.2.2.2.2.2.2.2.2.1,bM af h.2.2.2.2.2.2.2.2.2.2.2.1,bM af h.2.2.2.2.2.2.2.2.2.2.2.2.1,bM af h.2.2.2.2.2.2.2.2.2.2.2.2.2.1,bM af h.2.2.2.2.2.2.2.2.2.2.2.2.2.2.1,h.2.2.2.2.2.2.2.2.2.2.2.2.2.2.2.trans (af.mono h.2.2.2.2.2.2.2.2.2.2.2.2.2.2.2.size)⟩
theorem ZI{D:Nat}{d:Bool}{aA aB aU aZ cx aP r:Int}{cl:Nat}{cp:Nat}{ao ak ar aq:Int}{v:bTo}(h:KJ w0 D d k aA aB aU aZ cx aP r pl n cl pp m cp g ao ak ar aq v):av w0 w0 v:=h.2.2.2.2.2.2.2.2.2.2.2.2.2.2.2
theorem akm(S:Jp)(x:bR)(hx:A0 x)(p:aya)(l:List ec)(n c:Nat)(hn:n=l.length)(aj:∀o∈l,qI o.2)(w:bTo)(H:J (iD S w p l))(k:Int)(ab:J (k4 l x=k)):
  Calls Tryz.prog 126 #[ad p n c,gJ x] w fun e w'=>e=bb (I k)∧av w w w':=by
 have mw:n≤1000000000:=by rw[hn];exact H.out.1
 have a1:=U hn;have dR:=U aj;have cV:=U hx;obtain⟨F,hF⟩:∃F:Int→ec→Int,(fun k o=>qB k (p2 x o.2) o.1)=F:=⟨_,rfl⟩;have aE:=U hF;have lq:J ((l.drop 0).foldl F 0=k):=by show _=_;rw[←hF];exact ab.out
 clear hn aj hx hF ab;obtain⟨ao,ak,ar,aq⟩:=x;go_enter Tryz.func126,Tryz.ntmps126;go_wp2_with fail;have dC:J (av w w (w.alloc (cH ⟨ao,ak,ar,aq⟩))):=jq _ _;have b8:J ((w.alloc (cH ⟨ao,ak,ar,aq⟩)).heap[w.heap.size]?=some (cH ⟨ao,ak,ar,aq⟩)):=cw _ _;generalize w.alloc (cH ⟨ao,ak,ar,aq⟩)=W at dC b8⊢
 go_loopw [5,10] (fun a i wr=>∃(j:Nat) (acc:Int) (aG:bTo),aG=wr∧j≤n∧J ((l.drop j).foldl F acc=k)∧a=I acc∧i=I j∧J (av W W aG)) (fun _ i _=>n -(intOf i).toNat)
 case atStart=>exact⟨0,0,_,rfl,eC _,lq.out,rfl,rfl,Below.refl _ _⟩
 case round=>
 obtain⟨j,acc,aG,rfl,cB,dA,rfl,rfl,aH⟩:=hrel;by_cases b0:j<n
 ·have fs:j<l.length:=(by rw[←a1.out];exact b0);have ib:(j:Int)<(n:Int):=(by omega);obtain⟨⟨d,⟨b,s⟩⟩,aC⟩:=az (l[j]);have KI:=U (dR.out (d,⟨b,s⟩) (by rw[←aC];exact j4 _));obtain⟨hY,lK,pl,cl,pp,cp,rfl,ri,_,eF,aJ,aI,c2,c3,bF,c5,b1,b5,bS,bf,cy⟩:=(H.out.below (dC.out.trans (aH.out.mono dC.out.size))).at fs aC;have pw:=U eF;obtain⟨bP,eA⟩:=az (p2 ⟨ao,ak,ar,aq⟩ ⟨b,s⟩);obtain⟨a8,ga⟩:=az (qB acc bP d);have iV:=U eA;have hg:=U ga;have jn:J ((l.drop (j+1)).foldl F a8=k):=(by show _=_;rw[←dA.out,l3 fs,aC,mR,←aE.out];simp only;rw[eA,ga]);obtain⟨dj,eY⟩:=az b.l.length;obtain⟨hH,kP⟩:=az s.len;have kQ:J (∀Z,Below (aG).heap.size aG Z→Calls Tryz.prog 174 #[.agg #[I b.k,I b.a.1,I b.a.2,I b.b.1,I b.b.2,I b.c.1,I b.c.2,I b.r,ad pl dj cl,ad pp hH cp],gJ ⟨ao,ak,ar,aq⟩] Z fun e w'=>e=bb (I bP)∧av Z Z w'):=(by intro Z eU;rw[←eY,←kP];exact akk S ⟨ao,ak,ar,aq⟩ cV.out b s KI.out pl cl pp cp Z (U (pw.out.below eU)) bP iV);rw[eY] at bf;rw[kP] at cy;clear eF aC eA ga eY kP;obtain⟨a0,a',a2,a3⟩:=fD (aO b8.out aH.out);have dK:=lt_of_heap (aO b8.out aH.out);go_upto_region 5 with fail;have fH:J (KJ aG aG.heap.size d b.k b.a.1 b.a.2 b.b.1 b.b.2 b.c.1 b.c.2 b.r pl dj cl pp hH cp w.heap.size ao ak ar aq (aG.alloc (aD (#[ai d,I b.k,I b.a.1,I b.a.2,I b.b.1,I b.b.2,I b.c.1,I b.c.2,I b.r,ad pl dj cl,ad pp hH cp]) dQ))):=(by obtain⟨cJ,aN,aR,cA,hN,mC,kR,uV,lD,j8,tG⟩:=qM (cw aG (aD (#[ai d,I b.k,I b.a.1,I b.a.2,I b.b.1,I b.b.2,I b.c.1,I b.c.2,I b.r,ad pl dj cl,ad pp hH cp]) dQ));have af:=ba aG (aD (#[ai d,I b.k,I b.a.1,I b.a.2,I b.b.1,I b.b.2,I b.c.1,I b.c.2,I b.r,ad pl dj cl,ad pp hH cp]) dQ);exact⟨cJ,aN,aR,cA,hN,mC,kR,uV,lD,j8,tG,bM af a0,bM af a',bM af a2,bM af a3,af⟩);generalize aG.alloc (.cells #[ai d,I b.k,I b.a.1,I b.a.2,I b.b.1,I b.b.2,I b.c.1,I b.c.2,I b.r,ad pl dj cl,ad pp hH cp] dQ)=ct at fH⊢;have tH:=U (ZH (Below.refl _ _).drew fH.out);clear a0 a' a2 a3 aJ aI c2 c3 bF c5 b1 b5 bS bf cy
  go_region_held3 (fun Z=>KJ aG aG.heap.size d b.k b.a.1 b.a.2 b.b.1 b.b.2 b.c.1 b.c.2 b.r pl dj cl pp hH cp w.heap.size ao ak ar aq Z) (first|with_reducible exact fH.out|with_reducible exact tH.out|with_reducible exact ZH (by assumption) (by assumption)|assumption|fail) (first|(go_at_call 174;go_fit (kQ.out _ (ZI (by assumption)));rintro e bt ⟨rfl,dT⟩)|(go_at_call 173;go_fit (Y8 acc bP d a8 hg _);rintro e bt ⟨rfl,rfl⟩)|fail)
  rename_i hHeld;have aV:J (av W W bt):=aH.out.trans ((ZI hHeld).mono aH.out.size);clear hHeld fH tH;go_wp2_with fail;go_round<;>first|exact⟨j+1,a8,_,rfl,by omega,jn.out,rfl,by go_num,aV.out⟩|(simp[intOf]<;>omega)
 ·have iH:j=n:=(by omega);have dF:J (acc=k):=(by show _=_;rw[←dA.out,n7 (by rw[←a1.out];omega)];rfl);subst iH;go_wp2_with fail;go_ret;exact⟨fU dF.out,dC.out.trans (aH.out.mono dC.out.size)⟩
abbrev jV:TypeId:=248
abbrev jt:TypeId:=201
variable{v:ada}
theorem fE{xs:bTv}(h:w.ownsRow B e bn v n xs)(af:av w w w'):w'.ownsRow B e bn v n xs:=
 h.kept (row:=none) ⟨af.os,af.tape,af.output,af.size,fun k ab _=>af.block k ab⟩ (by cases v.ownBlock<;>simp)
theorem oR{xs:bTv}(h:w.ownsRow B e bn v n xs){b:Nat}{cs:agv}{ef:Nat×Nat}(af:w.heap[b]?=some (.cells cs t ef))(he:e≠t):v.ownBlock≠some b:=by
 rcases h.2 with ⟨rfl,_⟩|⟨g,cap,cur,rfl,_,aF,_⟩
 ·simp[Value.ownBlock]
 ·intro ah;have:g=b:=(by simpa[Value.ownBlock] using ah);subst this;rw[af] at aF;injection aF with aF;injection aF with _ bH;exact he bH.symm
theorem KK{C:Nat}{f:aui}{s1 s2:Nat}{u:ada}{xs eS:bTv}(h:w.ownsRow B e s1 v n xs)(g:w.ownsRow C f s2 u m eS)(he:e≠f):u.ownBlock=none∨u.ownBlock≠v.ownBlock:=by
 rcases g.2 with ⟨rfl,_⟩|⟨k,cap,cur,rfl,_,aF,_⟩
 ·exact .inl rfl
 ·exact .inr (fN (oR h aF he))
theorem ik{xs:bTv}(h:w.ownsRow B e bn v n xs):∃p cap,v=ad p n cap:=by
 rcases h.2 with ⟨rfl,rfl⟩|⟨g,cap,cur,rfl,_⟩
 ·exact⟨_,_,rfl⟩
 ·exact⟨_,_,rfl⟩
theorem wK{xs:bTv}{row:Option Nat}(h:w.ownsRow B e bn v n xs)(aX:w.grownBy w' row)(hne:v.ownBlock=none∨v.ownBlock≠row):w'.ownsRow B e bn v n xs:=h.kept aX hne
theorem EX(w:bTo)(b i:Nat)(u:ada):w.grownBy (w.setCell (ag b i) u) (some b):=⟨rfl,rfl,rfl,by simp[World.setCell],fun k ab hne=>jZ _ _ _ _ (by show k≠b;intro e;exact hne (by rw[e]))⟩
abbrev CZ(b:bR)(a:Bool):List Value:=[I b.ao,I b.ak,I b.ar,I b.aq,ai a]
def oS(l:List (bR×Bool)):List Value:=l.flatMap fun e=>CZ e.1 e.2
theorem ZJ(l:List (bR×Bool)):(oS l).length=l.length *5:=by
 induction l with
 |nil=>rfl
 |cons a l dc=>simp only[oS,Tz,gh,fK] at dc⊢;rw[dc];simp;omega
variable{l:List (bR×Bool)}
theorem akn{i:Nat}(hi:i<l.length){b:bR}{a:Bool}(he:l[i]=(b,a)):((oS l).drop (i *5)).take 5=CZ b a:=by
 have aN:l=l.take i++(b,a)::l.drop (i+1):=by conv=>lhs;rw[←Ty i l,l3 hi,he]
 have aR:oS l=oS (l.take i)++(CZ b a++oS (l.drop (i+1))):=by
  conv=>lhs;rw[aN]
  simp only[oS,List.flatMap_append,Tz]
 rw[aR,Ya (by rw[ZJ,mf];omega),n7 (by rw[ZJ,mf];omega),J8,X' (by simp)];rfl
def wL(S:Jp)(w:bTo)(p:aya)(l:List (bR×Bool)):Prop:=l.length≤nA∧(0<l.length→∃(k o:Nat) (cs:agv),p=some ⟨k,o,none⟩∧S k∧bo w k cs jV∧(cs.toList.drop o).take (l.length *5)=oS l)
theorem wL.keep{S:Jp}(h:wL S w p l)(ab:aL S w w'):wL S w' p l:=by refine⟨h.1,fun aj=>?_⟩;obtain⟨k,o,cs,e,hS,aF,hp⟩:=h.2 aj;exact⟨k,o,cs,e,hS,ab.get hS aF,hp⟩
theorem wL.below{S:Jp}(h:wL S w p l)(af:av w w w'):wL S w' p l:=h.keep (.dM af)
theorem wL.mono{S R:Jp}(h:wL S w p l)(ab:∀k,k<w.heap.size→S k→R k):wL R w p l:=by refine⟨h.1,fun aj=>?_⟩;obtain⟨k,o,cs,e,hS,aF,hp⟩:=h.2 aj;exact⟨k,o,cs,e,ab _ (lt_of_heap aF) hS,aF,hp⟩
theorem wL.at{S:Jp}{w:bTo}{p:aya}{l:List (bR×Bool)}(h:wL S w p l){i:Nat}(hi:i<l.length){b:bR}{a:Bool}(he:l[i]=(b,a)):
  ∃(k o:Nat),p=some ⟨k,o,none⟩∧aw w k (o+i *5) (I b.ao)∧aw w k (o+i *5+1) (I b.ak)∧aw w k (o+i *5+2) (I b.ar)∧aw w k (o+i *5+3) (I b.aq)∧aw w k (o+i *5+4) (ai a):=by
 obtain⟨k,o,cs,rfl,_,aF,hp⟩:=h.2 (by omega);have aa:=akn hi he;rw[←hp,Ki,pd,Hm,EB (by omega)] at aa;have key:∀j,j<5→cs[o+i *5+j]?=(CZ b a)[j]?:=by intro j cB;rw[←aa,ti,aT cB,AF];simp
 have b6:=key 0 (by decide);have bP:=key 1 (by decide);have a8:=key 2 (by decide);have oi:=key 3 (by decide);have zF:=key 4 (by decide);simp only[Hk] at b6;refine⟨k,o,rfl,?_,?_,?_,?_,?_⟩<;>simp only[World.cell?, *]<;>rfl
structure mD(S:Jp)(w:bTo)(p q:aya)(g:List eJ):Prop where
 o:iD S w p (g.map eJ.o)
 e:wL S w q (g.map fun e=>(e.b,e.any))
theorem mD.keep{S:Jp}{w w':bTo}{p q:aya}{l:List eJ}(h:mD S w p q l)(ab:aL S w w'):mD S w' p q l:=⟨h.o.keep ab,h.e.keep ab⟩
theorem mD.below{S:Jp}{q:aya}{l:List eJ}(h:mD S w p q l)(af:av w w w'):mD S w' p q l:=h.keep (.dM af)
theorem mD.mono{S R:Jp}{w:bTo}{p q:aya}{l:List eJ}(h:mD S w p q l)(ab:∀k,k<w.heap.size→S k→R k):mD R w p q l:=⟨h.o.mono ab,h.e.mono ab⟩
abbrev lR(p:aya)(n c:Nat)(q:aya)(d:Nat):Array Value:= #[ad p n c,ad q n d]
structure tI(S:Jp)(w0:bTo)(R:Nat)(os:List ec)(es:List (bR×Bool))(fx fP:ada)(x:bTo):Prop where
 r:bo x R (#[fx,fP]) jt
 o:∃xs,x.ownsRow (R+1) dQ 11 fx os.length xs∧dS S x (qg os) xs
 e:x.ownsRow (R+1) jV 5 fP es.length (oS es)
 aY:av w0 w0 x
theorem tI.below{S:Jp}{w0:bTo}{R:Nat}{os:List ec}{es:List (bR×Bool)}{fx fP:ada}{x y:bTo}(h:tI S w0 R os es fx fP x)(af:av x x y):tI S w0 R os es fx fP y:=by obtain⟨xs,aa,ah⟩:=h.o;exact⟨aO h.r af,⟨xs,fE aa af,ah.below af⟩,fE h.e af,h.aY.trans (af.mono h.aY.size)⟩
theorem tI.Bf{S:Jp}{w0:bTo}{R:Nat}{os:List ec}{es:List (bR×Bool)}{fx fP sr:ada}{x X y:bTo}{xs:bTv}{d:Bool}{b:dL}{s:bh}{pl:aya}{cl:Nat}{pp:aya}{cp:Nat}
  (hr:bo X R (#[fx,fP]) jt) (bl:X.ownsRow (R+1) dQ 11 fx os.length xs) (hp:dS S X (qg os) xs) (he:X.ownsRow (R+1) jV 5 fP es.length (oS es)) (KL:av w0 w0 X) (hS:∀k,S k→k<R) (hR:w0.heap.size≤R)
  (aX:X.grownBy y fx.ownBlock) (cM:y.ownsRow (R+1) dQ 11 sr (os.length+1) (xs++ai d::l5 b (ad pl b.l.length cl) (ad pp s.len cp))) (af:dY S X pl cl pp cp ⟨b,s⟩):
  tI S w0 R (os++[(d,⟨b,s⟩)]) es sr fP (y.setCell (ag R 0) sr):=by
 have ab:aL S X y:=aL.grown aX (fun k ab hs=>by have:=(bl.lt k ab).1;have:=hS k hs;omega);have EY:some R≠fx.ownBlock:=fun h=>by have:=(bl.lt R h.symm).1;omega
 have hy:bo y R (#[fx,fP]) jt:=(aX.block R (lt_of_heap hr) EY).trans hr;have pj:y.ownsRow (R+1) jV 5 fP es.length (oS es):=wK he aX (KK bl he (by decide));have EZ:=EX y R 0 sr;have dK:∀{e:aui} {bn n:Nat} {v:ada} {Bg:bTv},y.ownsRow (R+1) e bn v n Bg→v.ownBlock=none∨v.ownBlock≠some R:=fun h=>.inr (fun e=>by have:=(h.lt R e).1;omega);refine⟨c4 sr hy,⟨xs++ai d::l5 b (ad pl b.l.length cl) (ad pp s.len cp),?_,?_⟩,wK pj EZ (dK pj),(KL.grown aX (dX KL.size (bD _)) (fun k ab=>by have:=(bl.lt k ab).1;omega)).setCell (p:=⟨R,0,none⟩) hR _⟩
 ·rw[gh];exact wK cM EZ (dK cM)
 ·rw[KH];have ga:aL S X (y.setCell (ag R 0) sr):=ab.trans (aL.set (a:=⟨R,0,none⟩) (fun hs=>nz _ (hS R hs)) sr);exact dS.append (hp.keep ga) (by rw[bl.1,EW]) (.mk (by rfl) (af.keep ga) trivial)
theorem tI.E0{S:Jp}{w0:bTo}{R:Nat}{os:List ec}{es:List (bR×Bool)}{fx fP tJ:ada}{X y:bTo}{b:bR}{a:Bool}
  (h:tI S w0 R os es fx fP X) (hS:∀k,S k→k<R) (hR:w0.heap.size≤R)
  (aX:X.grownBy y fP.ownBlock) (cM:y.ownsRow (R+1) jV 5 tJ (es.length+1) (oS es++CZ b a)):
  tI S w0 R os (es++[(b,a)]) fx tJ (y.setCell (ag R 1) tJ):=by
 obtain⟨xs,bl,hp⟩:=h.o;have ab:aL S X y:=aL.grown aX (fun k ab hs=>by have:=(h.e.lt k ab).1;have:=hS k hs;omega);have EY:some R≠fP.ownBlock:=fun e=>by have:=(h.e.lt R e.symm).1;omega
 have hy:bo y R (#[fx,fP]) jt:=(aX.block R (lt_of_heap h.r) EY).trans h.r;have ir:y.ownsRow (R+1) dQ 11 fx os.length xs:=wK bl aX (KK h.e bl (by decide));have EZ:=EX y R 1 tJ;have dK:∀{e:aui} {bn n:Nat} {v:ada} {Bg:bTv},y.ownsRow (R+1) e bn v n Bg→v.ownBlock=none∨v.ownBlock≠some R:=fun h=>.inr (fun e=>by have:=(h.lt R e).1;omega);refine⟨c4 tJ hy,⟨xs,wK ir EZ (dK ir),?_⟩,?_,(h.aY.grown aX (dX h.aY.size (bD _)) (fun k ab=>by have:=(h.e.lt k ab).1;omega)).setCell (p:=⟨R,1,none⟩) hR _⟩
 ·exact (hp.keep ab).keep (aL.set (a:=⟨R,1,none⟩) (fun hs=>nz _ (hS R hs)) tJ)
 ·rw[gh];have e:oS (es++[(b,a)])=oS es++CZ b a:=(by simp[oS]);rw[e];exact wK cM EZ (dK cM)
theorem tI.done{S R':Jp}{R:Nat}{g:List eJ}{fx fP:ada}{x:bTo}(h:tI S w0 R (g.map eJ.o) (g.map fun e=>(e.b,e.any)) fx fP x)(mw:g.length≤nA)(hS:∀k,S k→R' k)(hR:∀k,R+1≤k→R' k):
  ∃p c q d,fx=ad p g.length c∧fP=ad q g.length d∧mD R' x p q g:=by
 obtain⟨xs,bl,hp⟩:=h.o;obtain⟨p,c,rfl⟩:=ik bl;obtain⟨q,d,rfl⟩:=ik h.e;rw[hk,hk];refine⟨p,c,q,d,rfl,rfl,⟨by rw[hk];exact mw,fun aj=>?_⟩,⟨by rw[hk];exact mw,fun aj=>?_⟩⟩
 ·rcases bl.2 with ⟨_,aQ⟩|⟨k,cap,cur,aS,af,aF,_,_,_,bH⟩
  ·omega
  ·injection aS with aa _ _;refine⟨k,0,cur,aa,hR k af,aF,?_⟩;refine (hp.mono (fun k _ hs=>hS k hs)).congr ?_;rw[EW,uW,←bH,Hm,OM]
 ·rcases h.e.2 with ⟨_,aQ⟩|⟨k,cap,cur,aS,af,aF,_,_,_,bH⟩
  ·omega
  ·injection aS with aa _ _;exact⟨k,0,cur,aa,hR k af,aF,by rw[uW];exact bH⟩
theorem ako(p:bp):iU tn p=p:=by obtain⟨x,y⟩:=p;simp[iU,tn,el.flip,NL]
theorem ZK(l:List bp):l.map (iU tn)=l:=by rw[show iU tn=id from funext ako,List.map_id]
theorem akp(l:List (List bp)):(l.map fun c=>c.map (iU tn))=l:=by rw[show (fun c:List bp=>c.map (iU tn))=id from funext ZK,List.map_id]
def nP(l:List bp):List Value:=l.flatMap fun p=>[I p.1,I p.2]
theorem ZL(l:List bp):(nP l).length=l.length *2:=by
 induction l with
 |nil=>rfl
 |cons a l dc=>simp only[nP,Tz,gh,fK] at dc⊢;rw[dc];simp;omega
theorem KM:∀{l:List bp} {i:Nat} (hi:i<l.length),(nP l)[i *2]?=some (I l[i].1)∧(nP l)[i *2+1]?=some (I l[i].2)
 |a::l,0,_=>⟨rfl,rfl⟩
 |a::l,i+1,hi=>by have h:=KM (l:=l) (i:=i) (by simpa using hi);have e:nP (a::l)=I a.1::I a.2::nP l:=rfl;rw[e,show (i+1) *2=i *2+1+1 by omega];exact h
theorem akq{l:List bp}{u:ada}(h:u∈nP l):u.oneCell'=true:=by obtain⟨p,_,hp⟩:=List.mem_flatMap.1 h;simp at hp;rcases hp with rfl|rfl<;>rfl
theorem hX.news{S:Jp}{l:List bp}(h:hX S w p l)(aj:0<l.length):∃b o,p=some ⟨b,o,none⟩∧∀j u,(nP l)[j]?=some u→w.cell? ((⟨b,o,none⟩:Addr).add j)=some u:=by
 obtain⟨b,o,cs,rfl,_,aF,hc⟩:=h.2 aj;refine⟨b,o,rfl,fun j u hu=>?_⟩;have cB:j<l.length *2:=by rw[←ZL];exact (List.getElem?_eq_some_iff.1 hu).1
 have px:(⟨b,o,none⟩:Addr).add j=⟨b,o+j,none⟩:=by unfold Addr.add;split<;>simp_all
 rw[px];obtain⟨aQ,aa⟩:=hc (j/2) (by omega);obtain⟨g0,g1⟩:=KM (l:=l) (i:=j/2) (by omega);rcases (show j=j/2 *2∨j=j/2 *2+1 by omega) with e|e
 ·rw[e,g0] at hu;rw[e];rw[←hu];exact cell_of aF aQ
 ·rw[e,g1] at hu;rw[e,←y'];rw[←hu];exact cell_of aF aa
theorem hX.own{R:Jp}{cap:Nat}{l:List bp}(h:w.ownsRow B eE 2 (bG g 0 n cap) n (nP l))(hn:n=l.length)(af:l.length≤nA)(hR:∀k,B≤k→R k):hX R w (some (ag g 0)) l∧l.length≤cap:=by
 subst hn;rcases h.2 with ⟨aS,_⟩|⟨k,mE,cur,aS,bJ,aF,hc,_,_,bH⟩
 ·cases aS
 ·injection aS with aa _ ax;injection aa with aa;injection aa with aa;subst aa ax;refine⟨⟨af,fun aj=>⟨g,0,cur,rfl,hR g bJ,aF,fun i hi=>?_⟩⟩,hc⟩;obtain⟨g0,g1⟩:=KM (l:=l) hi;rw[←bH,ti] at g0 g1;rw[aT (by omega)] at g0 g1;rw[lk];exact⟨by simpa using g0,by simpa using g1⟩
theorem akr{P:Program}{z:Option Value}{b:Nat}(h:(P.info? t).map (fun i=>(i.zero,i.size,i.bytes))=some (z,n,b)):∃i,P.info? t=some i∧i.zero=z∧i.size=n∧i.bytes=b:=by
 cases hi:P.info? t with
 |none=>rw[hi] at h;cases h
 |some i=>
  rw[hi] at h;simp only[CX,mv,gA] at h;exact⟨i,rfl,h.1,h.2.1,h.2.2⟩
theorem aks(h:w.grownBy w' (Value.slice none 0 0).ownBlock):av w w w':=⟨h.os,h.tape,h.output,h.size,fun k ab=>h.block k ab (by simp[Value.ownBlock])⟩
theorem ZM(a b:Int)(ha:0≤a∧a≤1000000000)(af:0≤b∧b≤1000000000)(w:bTo):Calls Tryz.prog 118 #[I a,I b] w fun e w'=>e=bb (I (a+b))∧w'=w:=by
 have aa:bT (9223372036854775807-b)=9223372036854775807-b:=b4 _ (by omega);have ah:bT (a+b)=a+b:=b4 _ (by omega);have ax:¬a > 9223372036854775807-b:=by omega
 go_enter Tryz.func118,Tryz.ntmps118;go_wp2_with fail;go_ret;exact⟨rfl,rfl⟩
theorem akt(p:aya)(c:Nat)(w:bTo):Calls Tryz.prog 119 #[ad p 0 c] w fun e w'=>e=bb (I 0)∧av w w w':=by go_enter Tryz.func119,Tryz.ntmps119;go_wp2_with fail;go_ret;exact⟨rfl,Below.refl _ _⟩
theorem aku(k aA aB aU aZ cx aP r:Int)(pl:aya)(n cl:Nat)(pp:aya)(cp:Nat)(w:bTo):Calls Tryz.prog 79 #[.agg #[I k,I aA,I aB,I aU,I aZ,I cx,I aP,I r,ad pl n cl,ad pp 0 cp]] w fun e w'=>e=bb (I 1)∧av w w w':=by go_enter Tryz.func79,Tryz.ntmps79;go_wp2_with fail;go_fit (akt pp cp _);rintro e W ⟨rfl,af⟩;go_wp2_with fail;go_fit (ZM 1 0 ⟨by decide,by decide⟩ ⟨by decide,by decide⟩ _);rintro e ct ⟨rfl,rfl⟩;go_wp2_with fail;go_ret;exact⟨rfl,(jq _ _).trans (af.mono (jq _ _).size)⟩
theorem akv(S:Jp)(p:aya)(l:List (List bp))(hne:∀c∈l,0<c.length)(n c:Nat)(hn:n=l.length)(w:bTo)(H:J (iF S w p l)):
  Calls Tryz.prog 80 #[ad p n c] w fun e w'=>∃q d,e=bb (ad q n d)∧n≤d∧iF (fun k=>w.heap.size≤k) w' q l∧av w w w':=by
 have mw:n≤1000000000:=by rw[hn];exact H.out.1
 have a1:=U hn;have k8:=U hne;clear hn hne;by_cases l8:n=0
 ·subst l8;have TA:J (l=[]):=qz a1.out.symm;go_enter Tryz.func80,Tryz.ntmps80;go_wp2_with fail;go_ret;exact⟨none,0,rfl,bD _,by rw[TA.out];exact .nil _ _ _,Below.refl _ _⟩
 have kI:((n:Int)==0)=false:=by simp;omega
 have uF:=Ha (P:=Tryz.prog) 72 78 (ay 0) 1 24 N3 YD n (by omega) (by omega);go_enter Tryz.func80,Tryz.ntmps80;go_wp2_with fail;obtain⟨W,a6⟩:=az (w.alloc (aD (madeCells #[ay 0] n) fo));have h0:J (av w w W):=by show Below _ _ _;rw[←a6];exact ba _ _
 have Bh:J (∃cs,bo W w.heap.size cs fo∧cs.size=n∧nF (fun k=>w.heap.size<k) W cs tn l 0):=by refine⟨madeCells #[ay 0] n,by rw[←a6];exact cw _ _,N4 _ _,fun i _ h=>absurd h (l7 _)⟩
 change Code.wp _ _ _ _ (w.alloc (aD (madeCells #[ay 0] n) fo));rw[a6];clear a6 uF;obtain⟨i0,hi,cU,cW,dz⟩:=akr YE;have bY:=U (And.intro hi (And.intro cU (And.intro cW dz)));clear hi cU cW dz
 go_loopw [14] (fun i wr=>∃(j:Nat) (aG:bTo),aG=wr∧j≤n∧i=I j∧J (av w w aG)∧J (∃cs,bo aG w.heap.size cs fo∧cs.size=n∧nF (fun k=>w.heap.size<k) aG cs tn l j)) (fun i _=>n -(intOf i).toNat)
 case atStart=>exact⟨0,_,rfl,eC _,rfl,h0.out,Bh.out⟩
 case round=>
 obtain⟨j,aG,rfl,cB,rfl,aH,br⟩:=hrel;by_cases b0:j<n
 ·have fs:j<l.length:=(by rw[←a1.out];exact b0);have ib:(j:Int)<(n:Int):=(by omega);have Bi:(0:Int)≤(j:Int):=(by omega);obtain⟨r,hr⟩:=az (l[j]);obtain⟨fS,xX,nN,jB,rfl,Ks,_,mx⟩:=H.out.at fs hr;have nB:=bM aH.out Ks;have x3:0<r.length:=k8.out r (by rw[←hr];exact j4 _);obtain⟨nC,l6,rfl,Bj⟩:=(mx.below aH.out).news x3;have akw:=U Bj;have HK:r.length≤1000000000:=mx.1;have rm:=U mx.1;obtain⟨m,hm⟩:=az r.length;have Hv:=U hm;have KN:=U hr;rw[hm] at nB x3 HK;have hlen:(nP r).length=m *2:=(by rw[ZL,hm]);have iO:=U hlen;obtain⟨cs,h1,hh,eh⟩:=br.out;have Ey:=U (And.intro h1 (And.intro hh eh));have ZN:=lt_of_heap h1;have ju:∀bt,aG.grownBy bt (Value.slice none 0 0).ownBlock→(∃v,aw bt w.heap.size j v)∧bt.frozen? ⟨w.heap.size,j,none⟩=false:=(by intro bt aX;have aa:bo bt w.heap.size cs fo:=(aX.block _ ZN (by simp[Value.ownBlock])).trans h1;exact⟨Ka aa (by omega),cP aa j⟩);have akx:=U ju;clear Ks mx Bj hr hm h1 hh eh hlen ju br;go_upto_region 7 with fail;go_wp2_with (at_builtin;refine zE _ rfl _ _ _ rfl (w.heap.size+1) eE i0 (.agg #[I 0,I 0]) 2 16 Sv bY.out.1 bY.out.2.1 bY.out.2.2.1 bY.out.2.2.2 rfl (by omega) (ay 0) 0 [] (by rfl) ⟨rfl,.inl ⟨rfl,rfl⟩⟩ (ag nC l6) m jB (nP r) (by rfl) iO.out akw.out ?_ ?_ ?_ ?_ ?_ aG.heap.size ?_ ?_;exact (fun u h=>akq h);exact x3;(unfold maxLen;omega);omega;exact ZN;rfl;intro g cap bt cM dW e0 h5;obtain⟨⟨v5,bN⟩,ch⟩:=akx.out bt dW);have dT:=aks dW;have TB:J (av w w bt):=aH.out.trans (dT.mono aH.out.size);have TC:=hX.own (R:=fun k=>w.heap.size<k) (l:=r) (by simpa using cM) Hv.out.symm rm.out (fun k h=>h);have b7:bo bt w.heap.size cs fo:=aO Ey.out.1 dT;have AP:aL (fun k=>w.heap.size<k) bt (bt.setCell (ag w.heap.size j) (bG g 0 m cap)):=aL.set (a:=⟨w.heap.size,j,none⟩) (fun h=>nz _ h) _;have ZO:=((Ey.out.2.2.keep (aL.dM dT)).keep AP).next (by rw[Ey.out.2.1];exact b0) (q:=some ⟨g,0,none⟩) (m:=m) (c:=cap) fs KN.out Hv.out (by have:=TC.2;rw[Hv.out] at this;exact this) (by rw[ZK];exact TC.1.keep AP)
  have zp:J (∃cs,(bt.setCell (ag w.heap.size j) (bG g 0 m cap)).heap[w.heap.size]?=some (.cells cs fo)∧cs.size=n∧nF (fun k=>w.heap.size<k) (bt.setCell (ag w.heap.size j) (bG g 0 m cap)) cs tn l (j+1)):=⟨_,c4 _ b7,by rw[AN];exact Ey.out.2.1,ZO⟩;have im:J (av w w (bt.setCell (ag w.heap.size j) (bG g 0 m cap))):=TB.out.setCell (p:=⟨w.heap.size,j,none⟩) (bD _) _;clear cM dW e0 h5 bN ch dT TC b7 AP ZO TB;go_round<;>first|exact⟨j+1,_,rfl,by omega,by go_num,im.out,zp.out⟩|(simp[intOf]<;>omega)
 ·have iH:j=n:=(by omega);subst iH;obtain⟨cs,h1,hh,eh⟩:=br.out;rw[a1.out] at eh;have hc:=nF.cons (R:=fun k=>w.heap.size≤k) (B:=w.heap.size) (eh.mono (fun k _ h=>CY h)) (bD _) h1 (by have:=a1.out;show _≤1000000000;omega);rw[akp] at hc;have bq:=U hc;clear hc h1 hh eh;go_wp2_with fail;go_ret;exact⟨_,_,rfl,bD _,bq.out,aH.out⟩
end dE
