/- Lemmas. -/
import Derived.Test.YtkaiaijcieaofaaGreatDoorQ5
import Derived.Laws.CopyOwn
import Derived.OneCell
import Derived.Laws.Cover3
set_option linter.all false
set_option maxRecDepth 100000
set_option maxHeartbeats 25600000
namespace Go.Proofs.YtkaiaijcieaofaaGreatDoor
abbrev G0:=@List.mem_cons
abbrev G1:=@List.not_mem_nil
abbrev G2:=@or_false
abbrev G3:=@Proofs.Tryz.underlying40
abbrev G4:=@Nat.min_self
abbrev SL:=@List.nil_append
abbrev pF:=@Proofs.Tryz.underlying42
abbrev SM:=@ownsRow_setCell_other
abbrev AB:=@List.take_succ_eq_append_getElem
abbrev qL:=@RowKit.Below.heap_alloc
abbrev J8:=@Nat.not_le_of_lt
namespace c1
open Go.RowKit ef
theorem Y1{P:Program}(w:aeo)(Y2 J9 ty elem:aai)(g o SN ait:Nat)(a:Addr)(SO aiu aR:Nat)(cur:ajv)(t:aai)(cs:aev)
  (hu:P.underlying Y2=some (.slice elem)) (hs:(P.info? elem).map (·.size)=some aR)
  (aI:w.heap[g]?=some (.cells cur t (0,0))) (hn:cs.length=Nat.min SO SN *aR)
  (JS:∀j v,cs[j]?=some v→w.cell? (a.add j)=some v) (aiv:o+cs.length≤cur.size) (au:∀v∈cs,v.oneCell'=true):
  (Builtin.copy_ #[Y2,J9] ty #[ag g o SN ait,ad (some a) SO aiu]).run P w=
   .ok (goInt (Nat.min SO SN)) (w.setRow g (cur.toList.take o++cs++cur.toList.drop (o+cs.length)).toArray):=by
 have az:=Si (P:=P) w a cs JS;have hJ:=run_storeCells_at P g o t cs 0 cur w aI (by simpa using aiv) au;cases aG:P.info? elem with
 |none=>simp[aG] at hs
 |some i=>
  have hi:i.size=aR:=(by simpa[aG] using hs);simp[Builtin.copy_,k2 hu,Builtin.lenOf,Builtin.firstCells,sizeOf,typeInfo,aG,hi,←hn,az,hJ]
def kR(ps:List lW):Nat:=(ps.map fun d=>d.s.count+1).sum
theorem Y3(ps:List lW)(d:lW):kR (ps++[d])=kR ps+(d.s.count+1):=by simp[kR]
theorem SP(N:Nat):∀(s:bf) (m:Nat),kR (kids N m s)=s.count
 |.nil,_=>rfl
 |.cons a b s r,m=>by show (s.count+1)+kR (kids N (m+11) r)=s.count+r.count+1;rw[SP N r];omega
theorem Y4(ps ep:List lW):kR (ps++ep)=kR ps+kR ep:=by simp[kR]
variable{cs:ajv}
theorem G5{o:Nat}{v0 v1 v2 v3 v4 v5 v6 bS b0 v9:ada}(h:(cs.toList.drop o).take 10=[v0,v1,v2,v3,v4,v5,v6,bS,b0,v9]):∀j,j<10→cs[o+j]?=[v0,v1,v2,v3,v4,v5,v6,bS,b0,v9][j]?:=by intro j b6;rw[←h,ra,aW b6,z'];simp
theorem aiw(k:hQ)(w:aeo):(Instr.lookup 102 (.map none) (.agg #[ah k.1 k.2.1,I (k.2.2:Int)]) true).run Tryz.prog w=.ok (.tuple #[J 0,U false]) w:=by
 have JN:∀(x:Addr) (y:ada),(part 107 #[.pointer (some x),y] 0).run Tryz.prog w=.ok (.pointer (some x)) w:=fun x y=>by simp[part,k2 GH]
 have b7:∀(x:ada) (y:Int),(part 3 #[x,I y] 1).run Tryz.prog w=.ok (I y) w:=fun x y=>by simp[part,k2 qz]
 have key:∀(D d:Nat) (em:Bool),D=d+1+1→(Instr.checkKey em D 109 (.agg #[ah k.1 k.2.1,I (k.2.2:Int)])).run Tryz.prog w=.ok () w:=by intro D d em b4;subst b4;have Sb:∀x:Addr,(Instr.checkKey em (d+1) 107 (.pointer (some x))).run Tryz.prog w=.ok () w:=(fun x=>by simp[Instr.checkKey,k2 GH]);have Sc:∀x:Int,(Instr.checkKey em (d+1) 3 (I x)).run Tryz.prog w=.ok () w:=(fun x=>by simp[Instr.checkKey,k2 qz]);rw[Instr.checkKey];simp only[k2 Tryz.underlying109,GI,Ak];simp[JN,b7,Sb,Sc]
 have BT:=key 10000 9998 true (by decide);simp[Instr.lookup,k2 Tryz.underlying102,BT,Instr.findKey,k2 Tryz.underlying109,Instr.findNow,Result.andThen]
theorem iy.mono{ps ep:List lW}{x y:aeo}(h:iy ps x y)(aG:∀d∈ps,d∈ep):iy ep x y:=
 ⟨h.size,fun k cs t aE bc=>by obtain⟨hP,au,ax,aA⟩:=h.cells k cs t aE bc;exact⟨hP,au,ax,fun i hi=>aA i fun⟨d,hd,e⟩=>hi ⟨d,aG d hd,e⟩⟩⟩
theorem GY.fr{S:afp}{w0 x y:aeo}{d e:lW}(h:GY S w0 x e)(hf:iy [d] x y)(ha:Oc e d):GY S w0 y e:=by
 obtain⟨cs,t,pl,cl,pp,cp,au,ax,aA,bb⟩:=h;have bc:t≠oY:=by rcases ax with rfl|rfl<;>decide
 obtain⟨hP,g1,g2,g3⟩:=hf.cells _ _ _ au bc;refine⟨hP,t,pl,cl,pp,cp,g1,ax,(YY fun i ew a2=>g3 i fun⟨f,rn,f1,f2⟩=>?_).trans aA,bb⟩;obtain rfl:f=d:=by simpa using rn
 rcases ha with bj|bj|bj
 ·exact bj f1.symm
 ·rcases f2 with rfl|rfl<;>omega
 ·rcases f2 with rfl|rfl<;>omega
theorem da.long{S:afp}{w:aeo}:∀{s:bf} {xs:aev},da S w s xs→s.len *11≤xs.length∧∀v∈xs.take (s.len *11),v.oneCell'=true
 |.nil,xs,_=>⟨by simp[bf.len],fun v aS=>by simp[bf.len] at aS⟩
 |.cons a b s r,xs,h=>by
  obtain⟨pl,cl,pp,cp,au,_⟩:=h.head;obtain⟨ax,aA⟩:=da.long h.tail;have az:=fS List.length au;simp only[lz,eT,kZ] at az;have ux:11≤xs.length:=(by omega);rw[e8] at ax;refine⟨by show (r.len+1) *11≤_;omega,fun v aS=>?_⟩;rw[show (bf.cons a b s r).len *11=11+r.len *11 by show (r.len+1) *11=_;omega,List.take_add,au] at aS;rcases List.mem_append.1 aS with aS|aS
  ·simp only[G0,G1,G2] at aS;rcases aS with rfl|rfl|rfl|rfl|rfl|rfl|rfl|rfl|rfl|rfl|rfl<;>rfl
  ·exact aA v aS
theorem Y5{N:Nat}:∀{s:bf} {m j:Nat} {e:lW},(kids N m s)[j]?=some e→sk e=.pointer (some (aj N (m+j *11+1)))
 |.nil,m,j,e,h=>by simp[kids] at h
 |.cons a b s r,m,0,e,h=>by have:e=⟨N,m+1,b,s⟩:=(by simpa[kids] using h.symm);subst this;simp
 |.cons a b s r,m,j+1,e,h=>by
  have ax:=Y5 (s:=r) (m:=m+11) (j:=j) (e:=e) (by simpa[kids] using h);rw[ax]
  congr 3
  omega
theorem Y6{o:Nat}{b:dK}{b0 v9 u8 u9:ada}(h:(cs.toList.drop o).take 10=js b b0 v9):(((cs.setIfInBounds (o+8) u8).setIfInBounds (o+9) u9).toList.drop o).take 10=js b u8 u9:=by
 have aB:=G5 h;have fw:o+10≤cs.size:=by have e6:=aB 9 (by decide);have:=(Array.getElem?_eq_some_iff.1 (show cs[o+9]?=some v9 from e6)).1;omega
 apply GA;intro n;rw[ra,z'];by_cases hn:n<10
 ·rw[aW hn,yO,xm,xm];have aF:=aB n hn;rcases (show n=0∨n=1∨n=2∨n=3∨n=4∨n=5∨n=6∨n=7∨n=8∨n=9 by omega) with rfl|rfl|rfl|rfl|rfl|rfl|rfl|rfl|rfl|rfl
  all_goals first
   |(rw[aN (by omega),aN (by omega),aF];rfl)
   |(rw[aN (by omega),aW rfl,aW (by omega)];rfl)
   |(rw[aW rfl,aW (by simp;omega)];rfl)
 ·rw[aN hn];rw[NL];simp only[eT,kZ];omega
theorem Y7:∀ps:List lW,ps.length≤kR ps
 |[]=>cO _
 |d::ps=>by have:=Y7 ps;have e:kR (d::ps)=(d.s.count+1)+kR ps:=(by simp[kR]);rw[e,eT];omega
abbrev tB:Value:=.agg #[U false,I 0,I 0,I 0,I 0,I 0,I 0,I 0,I 0,J 0,J 0]
theorem SQ:(Tryz.prog.info? 47).map (fun i=>(i.zero,i.size,i.bytes))=some (some tB,11,120):=by kernel_rfl
theorem aix:(Tryz.prog.info? 104).map (fun i=>(i.zero,i.size,i.bytes))=some (some (.pointer none),1,8):=by kernel_rfl
theorem addr_add(k o j:Nat):(⟨k,o,none⟩:Addr).add j=⟨k,o+j,none⟩:=by unfold Addr.add;split<;>simp_all
theorem aiy(Z:aeo)(iz tC op m cp:Nat)(J':ajv)(tD:aev)(hk:Z.heap[iz]?=some (.cells (madeCells tB.cells (m *11)) ev (0,0)))(iY:Z.heap[tC]?=some (.cells J' ev (0,0)))(b2:(J'.toList.drop op).take (m *11)=tD)(az:tD.length=m *11)(B3:∀v∈tD,v.oneCell'=true)(ty:aai):
  (Builtin.copy_ #[40,40] ty #[ag iz 0 m m,ag tC op m cp]).run Tryz.prog Z=.ok (goInt m) (Z.setRow iz tD.toArray):=by
 have fw:(madeCells tB.cells (m *11)).toList.length=m *11:=by simp[madeCells]
 have h:=Y1 (P:=Tryz.prog) Z 40 40 ty 47 iz 0 m m (aj tC op) m cp 11 _ ev tD G3 (by kernel_rfl) hk (by rw [az,show Nat.min m m=m from G4 m]) (fun j v aS=>by
  rw[addr_add];refine cell_of iY ?_;rw[←b2,ra] at aS;split at aS
  ·rw[z'] at aS;simpa using aS
  ·cases aS) (by rw[jt,az];simp[madeCells]) B3
 rw[h,show Nat.min m m=m from G4 m,Gh,SL,Ac (by rw[jt,az,fw];exact aP _),List.append_nil]
theorem SR(S:afp)(b:dK)(s:bf)(hH:s.count≤100000000)(pl:Ja)(cl:Nat)(pp:Ja)(cp:Nat)(w:aeo)(H:af (dw S w pl cl pp cp ⟨b,s⟩)):
  Calls Tryz.prog 22 #[jc b (ad pl b.l.length cl) (ad pp s.len cp)] w fun e w'=>∃ql dl qp cf,e=ab (jc b (ad ql b.l.length dl) (ad qp s.len cf))∧dw (fun k=>w.heap.size≤k) w' ql dl qp cf ⟨b,s⟩∧an w w w':=by
 obtain⟨n0,jf⟩:=aq b.l.length;obtain⟨m0,ti⟩:=aq s.len;obtain⟨N,hk⟩:=aq s.count;have SS:=ao jf;have pG:=ao ti;have bd:=ao hk;have Oi:=ao hH;have B4:af (∀Z,an w w Z→Calls Tryz.prog 40 #[.agg #[I b.k,I b.a.1,I b.a.2,I b.b.1,I b.b.2,I b.c.1,I b.c.2,I b.r,ad pl n0 cl,ad pp m0 cp]] Z fun e w'=>e=ab (I ((N+1:Nat):Int))∧an Z Z w'):=by intro Z cN;rw[←ti,←hk];exact GX S b s hH pl n0 cl pp cp Z (ao (H.out.p.below cN))
 rw[hk] at hH;show Calls _ _ #[.agg #[I b.k,I b.a.1,I b.a.2,I b.b.1,I b.b.2,I b.c.1,I b.c.2,I b.r,ad pl b.l.length cl,ad pp s.len cp]] w _;rw[jf,ti];obtain⟨z,bP⟩:∃z:Int,((N+1:Nat):Int)=z:=⟨_,rfl⟩;rw[bP] at B4;have auF:¬z > 2147483647:=by omega
 clear jf ti hk bP hH;go_enter Tryz.func22,Tryz.ntmps22;go_upto_region 2 with fail;obtain⟨W,cP⟩:=aq ((w.alloc (ai (#[I b.k,I b.a.1,I b.a.2,I b.b.1,I b.b.2,I b.c.1,I b.c.2,I b.r,ad pl n0 cl,ad pp m0 cp]) cQ)).alloc jh);have H1:af (al W w.heap.size (#[I b.k,I b.a.1,I b.a.2,I b.b.1,I b.b.2,I b.c.1,I b.c.2,I b.r,ad pl n0 cl,ad pp m0 cp]) cQ):=by show _=_;rw[←cP];exact ba (cR _ _) (bh _ _)
 have bp:af (W.heap[w.heap.size+1]?=some jh):=by show _=_;rw[←cP];exact R6 _ _ _
 have aH:af (an w w W):=by show Below _ _ _;rw[←cP];exact D5 _ _ _
 have Y8:(w.alloc (ai (#[I b.k,I b.a.1,I b.a.2,I b.b.1,I b.b.2,I b.c.1,I b.c.2,I b.r,ad pl n0 cl,ad pp m0 cp]) cQ)).alloc (.cells #[I 0,I 0,I 0,I 0,I 0,I 0,I 0,I 0,J 0,J 0] cQ)=W:=cP;rw[Y8];clear cP Y8;obtain⟨g0,g1,g2,g3,g4,g5,g6,g7,g8,g9⟩:=dQ H1.out;go_wp2_with fail;with_reducible refine (B4.out _ aH.out).mono ?_
 rintro e b5 ⟨rfl,ay⟩;have Oj:=ao (ba H1.out ay);have Ok:=ao (ba bp.out ay);have G6:af (an w w b5):=aH.out.trans (ay.mono aH.out.size);clear g0 g1 g2 g3 g4 g5 g6 g7 g8 g9 ay H1 bp aH;go_wp2_with fail
 have tg:af (xD S w ⟨w.heap.size,0,b,s⟩ [⟨w.heap.size,0,b,s⟩] (ag b5.heap.size 0 1 1) (b5.alloc (ai (#[.pointer (some (aj w.heap.size 0))]) oY))):=by
  refine⟨G6.out.alloc G6.out.size _,World.ownsRow_lit (base:=w.heap.size) (e:=oY) (size:=1) b5 #[ah w.heap.size 0] 1 G6.out.size (by decide) rfl,fun d hd=>?_,fun d hd=>?_,List.pairwise_singleton _ _,ba Ok.out (bh _ _),fun GZ _ hd=>hd _ (by simp)⟩
  ·obtain rfl:d=⟨w.heap.size,0,b,s⟩:=(by simpa using hd);exact⟨_,_,pl,cl,pp,cp,ba Oj.out (bh _ _),.inl rfl,by rw[SS.out,pG.out];rfl,H.out⟩
  ·obtain rfl:d=⟨w.heap.size,0,b,s⟩:=(by simpa using hd);exact⟨aP _,by show w.heap.size≠w.heap.size+1;omega⟩
 have aiz:af (kR [⟨w.heap.size,0,b,s⟩]≤N+1∧kR [⟨w.heap.size,0,b,s⟩]≤100000001):=by have au:kR [⟨w.heap.size,0,b,s⟩]=s.count+1:=(by simp[kR]);have ax:=Oi.out;have aA:=bd.out;show _∧_;omega
 generalize b5.alloc (.cells #[ah w.heap.size 0] oY)=eE at tg⊢;generalize b5.heap.size=T at tg⊢;clear Oj Ok G6 B4
 go_loopg [4] (N+1) (fun gk sv wr=>∃(ps:List lW) (aL:aeo),aL=wr∧af (xD S w ⟨w.heap.size,0,b,s⟩ ps sv aL)∧af (kR ps≤gk∧kR ps≤100000001))
 case atStart=>exact⟨_,_,rfl,tg.out,aiz.out⟩
 case round=>
 obtain⟨ps,aL,rfl,bG,dr⟩:=hrel;rcases List.eq_nil_or_concat ps with rfl|⟨ep,d,rfl⟩
 ·obtain⟨p,c,rfl⟩:=iw bG.out.row;obtain⟨cs,t,ql,dl,qp,cf,aY,a6,cV⟩:=bG.out.fin;have sl:=ao cV;have oi:=G5 a6;have aV:ak aL w.heap.size 0 (I b.k):=cell_of aY (by simpa using oi 0 (by decide));have aT:ak aL w.heap.size 1 (I b.a.1):=cell_of aY (by simpa using oi 1 (by decide));have c2:ak aL w.heap.size 2 (I b.a.2):=cell_of aY (by simpa using oi 2 (by decide));have c3:ak aL w.heap.size 3 (I b.b.1):=cell_of aY (by simpa using oi 3 (by decide));have cD:ak aL w.heap.size 4 (I b.b.2):=cell_of aY (by simpa using oi 4 (by decide));have c5:ak aL w.heap.size 5 (I b.c.1):=cell_of aY (by simpa using oi 5 (by decide));have cX:ak aL w.heap.size 6 (I b.c.2):=cell_of aY (by simpa using oi 6 (by decide));have c7:ak aL w.heap.size 7 (I b.r):=cell_of aY (by simpa using oi 7 (by decide));have dj:ak aL w.heap.size 8 (ad ql n0 dl):=(by rw[←SS.out];exact cell_of aY (by simpa using oi 8 (by decide)));have bB:ak aL w.heap.size 9 (ad qp m0 cf):=(by rw[←pG.out];exact cell_of aY (by simpa using oi 9 (by decide)));obtain⟨u0,u1,u2,u3,u4,u5,u6,u7,u8,u9⟩:=dQ bG.out.res;have fu:=na bG.out.res;have uS:=ao bG.out.res;have qd:=ao bG.out.aM;clear aY a6 cV oi bG tg;go_wp2_with fail;have sn:=Yn [I b.k,I b.a.1,I b.a.2,I b.b.1,I b.b.2,I b.c.1,I b.c.2,I b.r,ad ql n0 dl,ad qp m0 cf] uS.out rfl;have ay:=R2 (m:=0) (b:=w.heap.size+1) (lO _) [I b.k,I b.a.1,I b.a.2,I b.b.1,I b.b.2,I b.c.1,I b.c.2,I b.r,ad ql n0 dl,ad qp m0 cf] qd.out;have aw:=BQ (S:=fun k=>w.heap.size≤k∧k≠w.heap.size+1) (b:=w.heap.size+1) (w:=aL) (m:=0) (fun h=>h.2 rfl) [I b.k,I b.a.1,I b.a.2,I b.b.1,I b.b.2,I b.c.1,I b.c.2,I b.r,ad ql n0 dl,ad qp m0 cf];exact cL (sg rfl _ _ (w.heap.size+1) _ _ _ _ rfl sn pF rfl (by kernel_rfl)) rfl ⟨ql,dl,qp,cf,rfl,(sl.out.keep aw).mono (fun k _ h=>h.1),ay⟩
 ·rw[List.concat_eq_append] at bG dr;obtain⟨n,hn⟩:=aq ep.length;have Ol:=ao hn;have dp:=bG.out.row;rw[show (ep++[d]).length=n+1 by simp[hn],v7] at dp;obtain⟨g,cap,rfl⟩:=ownsRow_succ dp;have e9:ak aL g n (.pointer (some (aj d.B d.o))):=(by rw[dp.cellAt n (by omega),xz (by simp[hn])];simp[hn]);have J0:=YM dp;obtain⟨cs,Eo,B5,B6,Y9,Om,hd,Og,hE,ff⟩:=bG.out.at_ d (by simp);have oi:=G5 hE;have d8:ak aL d.B (d.o+8) (ad B5 d.b.l.length B6):=cell_of hd (oi 8 (by decide));have nd:=dc hd;obtain⟨eG,h2⟩:=aq d.b.l.length;have mB:=ao h2;rw[h2] at d8;obtain⟨cI,hU⟩:=aq (n+1);have jJ:=ao hU;have iX:cI≤1000000000:=(by have au:=Y7 (ep++[d]);have ax:kR (ep++[d])≤100000001:=dr.out.2;rw[fH,hn] at au;simp only[eT,kZ] at au;omega);rw[hU];rw[hU] at J0;have ry:ae ((cI:Int)-1)=(n:Int):=(by rw[gw _ (by omega)];omega);have dv:(n:Int)<(cI:Int):=(by omega);have dx:n<cI:=(by omega);have N':(n:Int)≤(cap:Int):=(by omega);have aik:n≤cap:=(by omega);have ail:¬cap=0:=(by omega);have GU:(cI:Int)≤(cap:Int):=(by omega);have auG:decide ((cI:Int)> 0)=true:=gx (by omega);have b9:=ao hd;have lC:=ao hE;have Y':=ao Og;have qM:=ao ff;clear dp hn hU J0 hd hE oi Og ff h2;go_wp2_with fail;with_reducible refine (aic S B5 d.b.l eG B6 mB.out.symm _ (ao (qM.out.l.below bG.out.aM))).mono ?_
  rintro e V ⟨q,dl,rfl,qb,Za,ay⟩;have uT:=ao ay;have G7:=ao qb;have y1:af (g≠d.B):=by obtain⟨_,cur,gq⟩:=wj bG.out.row;have au:=b9.out;intro e;rw[e,au] at gq;injection gq with gq;injection gq with _ bc;rcases Y'.out with ax|ax<;>(rw[ax] at bc;exact absurd bc (by decide))
  have aiA:af (V.ownsRow w.heap.size oY 1 (ag g 0 n cap) n (ep.map sk)):=(by have au:=bG.out.row;rw[show (ep++[d]).length=n+1 by simp[Ol.out],v7] at au;exact fY (ownsRow_pop (xs:=ep.map sk) (last:=[d].map sk) (by simp[Ol.out]) au) ay);have aiB:af (iS (fun k=>aL.heap.size≤k∧k<V.heap.size) V q d.b.l):=Za.mono fun k aw h=>⟨h,aw⟩;have Ep:=ao (ba b9.out ay);have oi:=G5 lC.out;obtain⟨m1,fX⟩:=aq d.s.len;have ez:=ao fX;have Zb:d.o+9<cs.size:=(Array.getElem?_eq_some_iff.1 (oi 9 (by decide))).1;have oZ:=ao Zb;clear ay qb Za d8 nd e9;have d8:ak V d.B (d.o+8) (ad B5 d.b.l.length B6):=cell_of Ep.out (oi 8 (by decide));have d9:ak V d.B (d.o+9) (ad Y9 m1 Om):=(by rw[←fX];exact cell_of Ep.out (oi 9 (by decide)));have nd:=dc Ep.out;have Zc:=lt_of_heap Ep.out;have Zd:∀u,(V.setCell (aj d.B (d.o+8)) u).cell? ⟨d.B,d.o+9,none⟩=some (ad Y9 m1 Om):=fun u=>Sx Ep.out (by omega) d9;have Ze:∀u j,(V.setCell (aj d.B (d.o+8)) u).frozen? ⟨d.B,j,none⟩=false:=fun u j=>dc (dt u Ep.out) j;clear oi fX Zb;have p7:af ((V.setCell (aj d.B (d.o+8)) (ad q eG dl)).heap[d.B]?=some (.cells (cs.setIfInBounds (d.o+8) (ad q eG dl)) Eo (0,0))):=dt _ Ep.out;have On:af (iy [d] aL (V.setCell (aj d.B (d.o+8)) (ad q eG dl))):=(iy.c4 (ps:=[d]) uT.out).trans (iy.set (ps:=[d]) (ad q eG dl) ⟨d,by simp,rfl,.inl rfl⟩) fun _ _ _ h=>h;have Ka:af (an w w (V.setCell (aj d.B (d.o+8)) (ad q eG dl))):=(bG.out.aM.trans (uT.out.mono bG.out.aM.size)).setCell (bG.out.low d (by simp)).1 _;have Oo:af (iS (fun k=>aL.heap.size≤k∧k<V.heap.size) (V.setCell (aj d.B (d.o+8)) (ad q eG dl)) q d.b.l):=(by have az:=lt_of_heap b9.out;exact aiB.out.keep (aK.set (a:=⟨d.B,d.o+8,none⟩) (fun h=>mi _ (hN az h.1)) _));have Oq:af ((V.setCell (aj d.B (d.o+8)) (ad q eG dl)).ownsRow w.heap.size oY 1 (ag g 0 n cap) n (ep.map sk)):=SM aiA.out (fun e=>y1.out (by simpa[Value.ownBlock] using e)) _;have mA:(V.setCell (aj d.B (d.o+8)) (ad q eG dl)).heap.size=V.heap.size:=(by simp[World.setCell]);have eb:=ao mA;clear mA;go_upto_region 9 with fail;have tE:=Zd (ad q eG dl);have f9:=Ze (ad q eG dl);clear d8 d9 nd Zd Ze;generalize V.setCell (aj d.B (d.o+8)) (ad q eG dl)=X at tE f9 p7 On Ka Oo eb Oq⊢;have Zc:=lt_of_heap p7.out;have Zf:∀f∈ep,Oc f d:=fun f hf=>(List.pairwise_append.1 bG.out.ap).2.2 f hf d (by simp);have Zg:=ao Zf;have Zh:Eo≠oY:=by rcases Y'.out with rfl|rfl<;>decide
  have uU:=ao Zh;clear Zf Zh;by_cases aF:m1=0
  ·subst aF
   have oX:af (xD S w ⟨w.heap.size,0,b,s⟩ (ep++kids (X.heap.size+1) 0 d.s) (ag g 0 n cap) (X.setCell (aj d.B (d.o+9)) (J 0))):=by
    have Er:iy [d] aL (X.setCell (aj d.B (d.o+9)) (J 0)):=On.out.trans (iy.set (ps:=[d]) (J 0) ⟨d,by simp,rfl,.inr rfl⟩) fun _ _ _ h=>h;have jY:(kids (X.heap.size+1) 0 d.s)=[]:=lP (by rw[J6,ez.out]);have az:=lt_of_heap b9.out;refine xD.next (ql:=q) (pn:=none) (dl:=dl) (cn:=0) (csN:= #[]) (R1:=fun k=>aL.heap.size≤k∧k<V.heap.size) bG.out (Er.mono (fun e he=>by simp at he;simp[he])) (Ka.out.setCell (bG.out.low d (by simp)).1 _) ?_ (fun e he=>(bG.out.at_ e (by simp[he])).fr Er (Zg.out e he)) ?_ (dt _ p7.out) uU.out ?_ ?_ (fun k aw=>?_) ?_ (by rw[ez.out];exact aP _) (by rw[ez.out];exact cO _) ?_ (fun h=>by rw[ez.out] at h;exact absurd h (mi _))
    ·rw[jY,List.append_nil,Ol.out];exact SM Oq.out (fun e=>y1.out (by simpa[Value.ownBlock] using e)) _
    ·exact (Er.get bG.out.res (by decide) (fun e he=>by simp at he;subst he;exact (bG.out.low e (by simp)).2))
    ·have h:=Y6 (u8:=ad q eG dl) (u9:=J 0) lC.out;rw[mB.out,ez.out];exact h
    ·exact Oo.out.keep (aK.set (a:=⟨d.B,d.o+9,none⟩) (fun h=>mi _ (hN az h.1)) _)
    ·have au:=bG.out.aM.size;have ax:=lt_of_heap bG.out.res;have aA:=eb.out;refine⟨⟨by have:=aw.1;omega,by have:=aw.1;omega⟩,by have:=aw.2;omega,fun e he bb=>?_⟩;obtain⟨_,_,_,_,_,_,bj,_⟩:=bG.out.at_ e (by simp[he]);have:=lt_of_heap bj;have:=aw.1;omega
    ·rw[mB.out];exact G7.out
    ·have aA:=eb.out;have bb:=uT.out.size;omega
   have qN:af (kR (ep++kids (X.heap.size+1) 0 d.s)+1≤gk∧kR (ep++kids (X.heap.size+1) 0 d.s)≤100000001):=(by have au:=dr.out;rw[Y3] at au;show _∧_;rw[Y4,SP];omega);generalize kids (X.heap.size+1) 0 d.s=K at oX qN;go_wp2_with fail
   go_roundg (gk-1)<;>first
    |exact⟨_,_,rfl,oX.out,(by have h:=qN.out;omega:kR (ep++K)≤gk-1∧kR (ep++K)≤100000001)⟩
    |(have h:=qN.out;omega)
  ·have fX:((m1:Int)==0)=false:=(by rw[fO];omega);have jH:(0:Int)<(m1:Int):=(by omega);have G8:0<m1:=(by omega);have mC:m1≤1000000000:=(by rw[←ez.out];exact qM.out.p.1);obtain⟨tC,op,J',rfl,_,Zi,Zj⟩:=qM.out.p.2 (by show 0<d.s.len;rw[ez.out];exact G8);have aiC:=ao Zi;have tv:=ao Zj;clear Zi Zj;go_upto_region 11 with fail;go_region;have Ot:an X X ((X.alloc (ai (#[.pointer (some (aj tC op)),I (m1:Int)]) 109)).drew):=(bh _ _).drew;have k9:=bD Ot tE;have g9:∀j,(X.alloc (ai (#[.pointer (some (aj tC op)),I (m1:Int)]) 109)).drew.frozen? ⟨d.B,j,none⟩=false:=dc (ba p7.out Ot);obtain⟨s0,s1,_,_⟩:=NP (show (X.alloc (ai (#[.pointer (some (aj tC op)),I (m1:Int)]) 109)).drew.heap[X.heap.size]?=some (.cells #[ah tC op,I (m1:Int)] 109) from cR X _);have jI:=ao Ot;clear tE f9 Ot;generalize (X.alloc (ai (#[.pointer (some (aj tC op)),I (m1:Int)]) 109)).drew=Y at k9 g9 s0 s1 jI⊢;have so:=ao (ba p7.out jI.out);have Zk:af (iy [d] aL Y):=On.out.trans (iy.c4 (ps:=[d]) jI.out) fun _ _ _ h=>h;have SU:af (an w w Y):=Ka.out.trans (jI.out.mono Ka.out.size);have Zl:=ao (Oo.out.below jI.out);have Zm:=ao (fY Oq.out jI.out);have jZ:=aiw (tC,op,m1) Y;have B7:af (V.heap.size≤Y.heap.size):=(by have au:=eb.out;have ax:=jI.out.size;show _≤_;omega);clear p7 On Ka Oo Oq;have yS:=yR (P:=Tryz.prog) 40 47 tB 11 120 G3 SQ m1 (by omega) (by omega);go_upto_region 15 with fail;have Ou:an Y Y (Y.alloc (ai (madeCells tB.cells (m1 *11)) ev)):=bh _ _;have B8:af ((Y.alloc (ai (madeCells tB.cells (m1 *11)) ev)).heap[Y.heap.size]?=some (.cells (madeCells tB.cells (m1 *11)) ev)):=cR _ _;have z9:=bD Ou k9;have AD:∀j,(Y.alloc (ai (madeCells tB.cells (m1 *11)) ev)).frozen? ⟨d.B,j,none⟩=false:=dc (ba so.out Ou);have xE:=ao Ou;clear k9 g9 s0 s1 Ou jZ yS;change Code.wp _ _ _ _ (Y.alloc (ai (madeCells tB.cells (m1 *11)) ev));have SV:af ((Y.alloc (ai (madeCells tB.cells (m1 *11)) ev)).heap.size=Y.heap.size+1):=s8 _ _;generalize Y.alloc (.cells (madeCells tB.cells (m1 *11)) ev)=Z at z9 AD B8 xE SV⊢;have Zn:=ao (ba so.out xE.out);have SW:af (iy [d] aL Z):=Zk.out.trans (iy.c4 (ps:=[d]) xE.out) fun _ _ _ h=>h;have Ov:af (an w w Z):=SU.out.trans (xE.out.mono SU.out.size);have Zo:=ao (Zl.out.below xE.out);have SX:=ao (fY Zm.out xE.out);obtain⟨iz,Zp⟩:=aq Y.heap.size;rw[Zp] at B8 SV B7⊢;clear so Zk SU Zl Zm xE Zp;obtain⟨tD,Kb⟩:=aq ((J'.toList.drop op).take (m1 *11));obtain⟨SY,B3⟩:=tv.out.long;rw[ez.out,Kb] at B3;rw[ez.out] at SY;have SZ:tD.length=m1 *11:=(by rw[←Kb,lz,yL SY]);have G9:=Ov.out;have S0:=aiy Z iz tC op m1 Om J' tD B8.out (ba aiC.out G9) Kb SZ B3;have aiD:=ao SZ;have aiE:=ao Kb;clear Kb SY B3 SZ G9;go_upto_region 16 with fail;have xf:af (aK (fun k=>k≠iz) Z (Z.setRow iz tD.toArray)):=⟨rfl,rfl,rfl,by simp[World.setRow],fun k aw _=>setRow_other Z iz k _ aw⟩;have tF:af ((Z.setRow iz tD.toArray).heap[iz]?=some (.cells tD.toArray ev)):=setRow_heap Z iz _ _ ev (0,0) B8.out;clear S0 z9 AD;generalize Z.setRow iz tD.toArray=mD at xf tF⊢;have Ow:d.B≠iz:=(by intro e;have au:=lt_of_heap b9.out;have ax:=B7.out;have aA:=uT.out.size;omega);have tr:=ao (xf.out.get Ow Zn.out);have aiF:af (iy [d] aL mD):=(by refine⟨cd SW.out.size xf.out.size,fun k cs t aE bc=>?_⟩;obtain⟨hP,au,ax,aA⟩:=SW.out.cells k cs t aE bc;have bb:=lt_of_heap aE;have bj:=B7.out;have b8:=uT.out.size;exact⟨hP,xf.out.get (by omega) au,ax,aA⟩);have S1:af (an w w mD):=Ov.out.trans (xf.out.below _ Ov.out.size fun k aw=>by have au:=B7.out;have ax:=uT.out.size;have aA:=bG.out.aM.size;omega);have aiG:af (iS (fun k=>aL.heap.size≤k∧k<V.heap.size) mD q d.b.l):=Zo.out.keep (xf.out.mono fun k _ h=>by have au:=B7.out;have:=h.2;omega);have Kc:af (mD.ownsRow w.heap.size oY 1 (ag g 0 n cap) n (ep.map sk)):=(Su SX.out xf.out fun k e a6=>by obtain⟨_,cur,gq⟩:=wj SX.out;have:g=k:=(by simpa[Value.ownBlock] using e);rw[this,a6,B8.out] at gq;injection gq with gq;injection gq with _ bc;exact absurd bc (by decide));have auH:af (iz<mD.heap.size):=lt_of_heap tF.out;clear Zn SW Ov Zo SX xf B8 SV Ow;have aiH:(binOp .neq 102 (.map none) (.map none)).run Tryz.prog mD=.ok (U false) mD:=(by have h:=run_equal_map_nil (P:=Tryz.prog) mD _ _ _ none Tryz.underlying102;simp only[binOp];simp[h,Result.andThen]);go_wp2_with fail;obtain⟨i1,hi,cW,xA,xB⟩:=info_parts aix;have bL:=ao (And.intro hi (And.intro cW (And.intro xA xB)));clear hi cW xA xB aiH
   go_loopw [4,84] (fun sv i wr=>∃(j:Nat) (s2:ada) (sq:aeo),sq=wr∧s2=sv∧j≤m1∧i=I j∧af (sq.ownsRow w.heap.size oY 1 s2 (n+j) (ep.map sk++((kids iz 0 d.s).take j).map sk))∧af (aK (fun k=>k≠g) mD sq)∧af (∀k,s2.ownBlock=some k→k=g∨mD.heap.size≤k)) (fun _ i _=>m1 -(intOf i).toNat)
   case atStart=>exact⟨0,_,_,rfl,rfl,cO _,rfl,(by show World.ownsRow _ _ _ _ _ _ _;rw[Gh,nF,List.append_nil];exact Kc.out),aK.refl _ _,(fun k e=>.inl (by simpa[Value.ownBlock] using e.symm))⟩
   case round=>
   obtain⟨j,s2,sq,rfl,rfl,b6,rfl,Ox,y2,Es⟩:=hrel;by_cases bm:j<m1
   ·have fD:(j:Int)<(m1:Int):=(by omega);obtain⟨Zq,c2,rfl⟩:=iw Ox.out;have auI:ae ((j:Int)+1)=(j:Int)+1:=gw _ (by omega);have auJ:=S1.out.size;have Zr:=y2.out.size;have k8:af ((sq.alloc (ai (#[.pointer (some (aj iz (j *11+1)))]) oY)).ownsRow w.heap.size oY 1 (ad Zq (n+j) c2) (n+j) (ep.map sk++((kids iz 0 d.s).take j).map sk)):=Ox.out.alloc _;go_wp2_with (at_builtin;refine GP _ rfl _ _ _ rfl w.heap.size oY i1 (.pointer none) 1 8 Tryz.underlying105 bL.out.1 bL.out.2.1 bL.out.2.2.1 bL.out.2.2.2 rfl (by omega) (ad Zq (n+j) c2) (n+j) _ (by rfl) k8.out (aj sq.heap.size 0) 1 1 [ah iz (j *11+1)] (by rfl) (by rfl) (jx (cs:= #[.pointer (some (aj iz (j *11+1)))]) (t:=oY) (fr:=(0,0)) (dL sq _)) (by simp[Value.oneCell']) (by omega) (by unfold maxLen;omega) (by omega) (by simp;omega) (sq.heap.size+1) (by simp) ?_;intro gg gG br ct dn dF h5);have Et:j<(kids iz 0 d.s).length:=(by rw[J6,ez.out];exact bm);obtain⟨e,he⟩:=aq ((kids iz 0 d.s)[j]);have Ns:sk e=.pointer (some (aj iz (j *11+1))):=(by have h:=Y5 (N:=iz) (s:=d.s) (m:=0) (j:=j) (e:=e) (by rw[iW Et,he]);rw[h,jt]);have fz:af (br.ownsRow w.heap.size oY 1 (ag gg 0 (n+j+1) gG) (n+(j+1)) (ep.map sk++((kids iz 0 d.s).take (j+1)).map sk)):=by show World.ownsRow _ _ _ _ _ _ _;rw[AB Et,he,v7,←List.append_assoc,nx,nF,Ns,←vZ];exact ct
    have jw:af (aK (fun k=>k≠g) mD br):=by
     have au:=y2.out;refine⟨dn.os.trans au.os,dn.tape.trans au.tape,dn.output.trans au.output,cd Zr (cd (by simp) dn.size),fun k aw az=>?_⟩;have ax:k<sq.heap.size:=hN az Zr;refine (dn.block k (by simp;omega) fun a6=>?_).trans ((qL _ _ _ ax).trans (au.block k aw az));rcases Es.out k a6.symm with aA|aA
     ·exact aw aA
     ·omega
    have nM:af (∀k,(Value.slice (some (aj gg 0)) (n+j+1) gG).ownBlock=some k→k=g∨mD.heap.size≤k):=by
     intro k a6;have cV:gg=k:=(by simpa[Value.ownBlock] using a6);rcases dF with aA|aA
     ·rw[cV] at aA;exact Es.out k aA
     ·rw[←cV];omega
    clear ct dn dF h5 Et he Ns;all_goals (go_round<;>first|exact⟨j+1,_,_,rfl,rfl,by omega,by go_num,fz.out,jw.out,nM.out⟩|(simp[intOf]<;>omega))
   ·obtain rfl:j=m1:=(by omega);have Zs:d.B≠g:=fun e=>y1.out e.symm;have oV:=ao (y2.out.get Zs tr.out);have aiI:=ao (y2.out.get (fun e=>by obtain⟨_,cur,gq⟩:=wj Kc.out;rw[←e,tF.out] at gq;injection gq with gq;injection gq with _ bc;exact absurd bc (by decide):iz≠g) tF.out);have aiJ:af (iy [d] aL sq):=aiF.out.trans (iy.air (ps:=[d]) (T:=fun k=>k=g) y2.out (fun k cs t aw aE=>by obtain⟨_,cur,gq⟩:=wj Kc.out;rw[aw,gq] at aE;injection aE with aE;injection aE with _ bc;exact bc.symm)) fun _ _ _ h=>h;have aiK:af (an w w sq):=S1.out.trans (y2.out.below _ S1.out.size fun k aw e=>by have:=(wj Kc.out).1;omega);have aiL:af (iS (fun k=>aL.heap.size≤k∧k<V.heap.size) sq q d.b.l):=aiG.out.keep (y2.out.mono fun k _ h e=>by have au:=(wj Kc.out);have ax:=bG.out.row;obtain⟨_,cur,gq⟩:=wj ax;have:=lt_of_heap gq;have:=h.1;omega);have z9:ak sq d.B (d.o+9) (ad (some (aj tC op)) j Om):=(by refine cell_of oV.out ?_;have h:=G5 lC.out 9 (by decide);rw[xm,aN (by omega)];rw[ez.out] at h;exact h);have AD:=dc oV.out;have Zc:=lt_of_heap oV.out
    have oX:af (xD S w ⟨w.heap.size,0,b,s⟩ (ep++kids iz 0 d.s) s2 (sq.setCell (aj d.B (d.o+9)) (ag iz 0 j j))):=by
     have Er:iy [d] aL (sq.setCell (aj d.B (d.o+9)) (ag iz 0 j j)):=aiJ.out.trans (iy.set (ps:=[d]) (ag iz 0 j j) ⟨d,by simp,rfl,.inr rfl⟩) fun _ _ _ h=>h;have az:=lt_of_heap b9.out;have kL:(kids iz 0 d.s).length=j:=(by rw[J6,ez.out]);have Ow:d.B≠iz:=(by have ax:=B7.out;have aA:=uT.out.size;omega);refine xD.next (ql:=q) (pn:=some ⟨iz,0,none⟩) (dl:=dl) (cn:=j) (csN:=tD.toArray) (R1:=fun k=>aL.heap.size≤k∧k<V.heap.size) bG.out (Er.mono (fun e he=>by simp at he;simp[he])) (aiK.out.setCell (bG.out.low d (by simp)).1 _) ?_ (fun e he=>(bG.out.at_ e (by simp[he])).fr Er (Zg.out e he)) ?_ (dt _ oV.out) uU.out ?_ ?_ (fun k aw=>?_) ?_ (by rw[ez.out];exact aP _) (by rw[ez.out];exact mC) ?_ (fun h=>⟨rfl,(lT (eN Ow)).trans aiI.out,?_⟩)
     ·have h:=Ox.out;rw[←kL,vI,←v7] at h;rw[fH,Ol.out]
      exact SM h (fun e=>by
       have a6:s2.ownBlock=some d.B:=e;rcases Es.out _ a6 with aA|aA
       ·exact Zs aA
       ·have bb:=lt_of_heap tr.out;exact absurd aA (J8 bb)) _
     ·exact (Er.get bG.out.res (by decide) (fun e he=>by simp at he;subst he;exact (bG.out.low e (by simp)).2))
     ·have h:=Y6 (u8:=ad q eG dl) (u9:=ad (some (aj iz 0)) j j) lC.out;rw[mB.out,ez.out];exact h
     ·exact aiL.out.keep (aK.set (a:=⟨d.B,d.o+9,none⟩) (fun h=>mi _ (hN az h.1)) _)
     ·have au:=bG.out.aM.size;have ax:=lt_of_heap bG.out.res;have aA:=B7.out;refine⟨⟨by have:=aw.1;omega,by have:=aw.1;omega⟩,by have:=aw.2;omega,fun e he bb=>?_⟩;obtain⟨_,_,_,_,_,_,bj,_⟩:=bG.out.at_ e (by simp[he]);have:=lt_of_heap bj;have:=aw.1;omega
     ·rw[mB.out];exact G7.out
     ·have aA:=B7.out;have bb:=uT.out.size;omega
     ·refine da.congr tv.out ?_;rw[ez.out,aiE.out];show _=List.take _ tD;rw[sY (by rw[aiD.out];exact aP _)]
    have qN:af (kR (ep++kids iz 0 d.s)+1≤gk∧kR (ep++kids iz 0 d.s)≤100000001):=(by have au:=dr.out;rw[Y3] at au;show _∧_;rw[Y4,SP];omega);generalize kids iz 0 d.s=K at oX qN;clear Ox y2 Es;go_wp2_with fail
    go_roundg (gk-1)<;>first
     |exact⟨_,_,rfl,oX.out,(by have h:=qN.out;omega:kR (ep++K)≤gk-1∧kR (ep++K)≤100000001)⟩
     |(have h:=qN.out;omega)
abbrev uV:Value:=.agg #[U false,I 0,I 0,I 0,I 0,I 0,I 0,I 0,I 0,J 0,J 0]
theorem Zt:(Tryz.prog.info? 44).map (fun i=>(i.zero,i.size,i.bytes))=some (some uV,11,120):=by kernel_rfl
theorem info_parts{P:Program}{t:aai}{z:Option Value}{n b:Nat}(h:(P.info? t).map (fun i=>(i.zero,i.size,i.bytes))=some (z,n,b)):∃i,P.info? t=some i∧i.zero=z∧i.size=n∧i.bytes=b:=by
 cases hi:P.info? t with
 |none=>rw[hi] at h;cases h
 |some i=>
  rw[hi] at h;simp only[An,r0,fg] at h;exact⟨i,rfl,h.1,h.2.1,h.2.2⟩
end c1
