/- Lemmas. -/
import Derived.Test.YtfldplmgkeiimaaGreatDoorQ12
import Derived.Laws.CopyOwn
import Derived.OneCell
import Derived.Laws.Cover3
set_option linter.all false
set_option maxRecDepth 100000
set_option maxHeartbeats 25600000
namespace Go.Proofs.YtfldplmgkeiimaaGreatDoor
abbrev OQ:=@Proofs.Tryz.underlying73
abbrev OR:=@List.take_zero
abbrev tz:=@Proofs.Tryz.underlying75
abbrev Tq:=@ownsRow_setCell_other
namespace c4
open Go.RowKit dH
theorem amc{P:Program}(w:aeo)(KS Tr ty elem:aai)(g o KT Ts:Nat)(a:Addr)(Tt amd bG:Nat)(cur:ajv)(t:aai)(cs:aev)
  (hu:P.underlying KS=some (.slice elem)) (hs:(P.info? elem).map (·.size)=some bG)
  (ba:w.heap[g]?=some (.cells cur t (0,0))) (hn:cs.length=Nat.min Tt KT *bG)
  (ame:∀j v,cs[j]?=some v→w.cell? (a.add j)=some v) (amf:o+cs.length≤cur.size) (av:∀v∈cs,v.oneCell'=true):
  (Builtin.copy_ #[KS,Tr] ty #[ag g o KT Ts,ad (some a) Tt amd]).run P w=
   .ok (goInt (Nat.min Tt KT)) (w.setRow g (cur.toList.take o++cs++cur.toList.drop (o+cs.length)).toArray):=by
 have aA:=run_loadCells_list (P:=P) w a cs ame;have kQ:=run_storeCells_at P g o t cs 0 cur w ba (by simpa using amf) av;cases aH:P.info? elem with
 |none=>simp[aH] at hs
 |some i=>
  have hi:i.size=bG:=(by simpa[aH] using hs);simp[Builtin.copy_,jq hu,Builtin.lenOf,Builtin.firstCells,sizeOf,typeInfo,aH,hi,←hn,aA,kQ]
def kR(ps:List l'):Nat:=(ps.map fun d=>d.s.count+1).sum
theorem aaB(ps:List l')(d:l'):kR (ps++[d])=kR ps+(d.s.count+1):=by simp[kR]
theorem Tu(N:Nat):∀(s:bc) (m:Nat),kR (kids N m s)=s.count
 |.nil,_=>rfl
 |.cons a b s r,m=>by show (s.count+1)+kR (kids N (m+11) r)=s.count+r.count+1;rw[Tu N r];omega
theorem aaC(ps ep:List l'):kR (ps++ep)=kR ps+kR ep:=by simp[kR]
variable{cs:ajv}
theorem HD{o:Nat}{v0 v1 v2 v3 v4 v5 v6 db c8 v9:ada}(h:(cs.toList.drop o).take 10=[v0,v1,v2,v3,v4,v5,v6,db,c8,v9]):∀j,j<10→cs[o+j]?=[v0,v1,v2,v3,v4,v5,v6,db,c8,v9][j]?:=by intro j cr;rw[←h,s6,a8 cr,Av];simp
theorem amg(k:iq)(w:aeo):(Instr.lookup 185 (.map none) (.agg #[ah k.1 k.2.1,I (k.2.2:Int)]) true).run Tryz.prog w=.ok (.tuple #[J 0,U false]) w:=by
 have KD:∀(x:Addr) (y:ada),(part 190 #[.pointer (some x),y] 0).run Tryz.prog w=.ok (.pointer (some x)) w:=fun x y=>by simp[part,jq Hs]
 have bK:∀(x:ada) (y:Int),(part 3 #[x,I y] 1).run Tryz.prog w=.ok (I y) w:=fun x y=>by simp[part,jq zo]
 have key:∀(D d:Nat) (em:Bool),D=d+1+1→(Instr.checkKey em D 192 (.agg #[ah k.1 k.2.1,I (k.2.2:Int)])).run Tryz.prog w=.ok () w:=by intro D d em cb;subst cb;have Hu:∀x:Addr,(Instr.checkKey em (d+1) 190 (.pointer (some x))).run Tryz.prog w=.ok () w:=(fun x=>by simp[Instr.checkKey,jq Hs]);have Hv:∀x:Int,(Instr.checkKey em (d+1) 3 (I x)).run Tryz.prog w=.ok () w:=(fun x=>by simp[Instr.checkKey,jq zo]);rw[Instr.checkKey];simp only[jq Tryz.underlying192,On,Hd];simp[KD,bK,Hu,Hv]
 have Cx:=key 10000 9998 true (by decide);simp[Instr.lookup,jq Tryz.underlying185,Cx,Instr.findKey,jq Tryz.underlying192,Instr.findNow,Result.andThen]
theorem ir.mono{ps ep:List l'}{x y:aeo}(h:ir ps x y)(aH:∀d∈ps,d∈ep):ir ep x y:=
 ⟨h.size,fun k cs t aJ bB=>by obtain⟨kz,av,az,aF⟩:=h.cells k cs t aJ bB;exact⟨kz,av,az,fun i hi=>aF i fun⟨d,hd,e⟩=>hi ⟨d,aH d hd,e⟩⟩⟩
theorem HB.fr{S:afp}{w0 x y:aeo}{d e:l'}(h:HB S w0 x e)(hf:ir [d] x y)(ha:OJ e d):HB S w0 y e:=by
 obtain⟨cs,t,pl,cl,pp,cp,av,az,aF,bk⟩:=h;have bB:t≠o3:=by rcases az with rfl|rfl<;>decide
 obtain⟨kz,g1,g2,g3⟩:=hf.cells _ _ _ av bB;refine⟨kz,t,pl,cl,pp,cp,g1,az,(aaA fun i bE a2=>g3 i fun⟨f,uD,f1,f2⟩=>?_).trans aF,bk⟩;obtain rfl:f=d:=by simpa using uD
 rcases ha with b9|b9|b9
 ·exact b9 f1.symm
 ·rcases f2 with rfl|rfl<;>omega
 ·rcases f2 with rfl|rfl<;>omega
theorem ds.long{S:afp}{w:aeo}:∀{s:bc} {xs:aev},ds S w s xs→s.len *11≤xs.length∧∀v∈xs.take (s.len *11),v.oneCell'=true
 |.nil,xs,_=>⟨by simp[bc.len],fun v aS=>by simp[bc.len] at aS⟩
 |.cons a b s r,xs,h=>by
  obtain⟨pl,cl,pp,cp,av,_⟩:=h.head;obtain⟨az,aF⟩:=ds.long h.tail;have aA:=fK List.length av;simp only[kj,eP,rC] at aA;have G2:11≤xs.length:=(by omega);rw[gI] at az;refine⟨by show (r.len+1) *11≤_;omega,fun v aS=>?_⟩;rw[show (bc.cons a b s r).len *11=11+r.len *11 by show (r.len+1) *11=_;omega,List.take_add,av] at aS;rcases List.mem_append.1 aS with aS|aS
  ·simp only[vU,vV,uj] at aS;rcases aS with rfl|rfl|rfl|rfl|rfl|rfl|rfl|rfl|rfl|rfl|rfl<;>rfl
  ·exact aF v aS
theorem aaD{N:Nat}:∀{s:bc} {m j:Nat} {e:l'},(kids N m s)[j]?=some e→sd e=.pointer (some (aj N (m+j *11+1)))
 |.nil,m,j,e,h=>by simp[kids] at h
 |.cons a b s r,m,0,e,h=>by have:e=⟨N,m+1,b,s⟩:=(by simpa[kids] using h.symm);subst this;simp
 |.cons a b s r,m,j+1,e,h=>by
  have az:=aaD (s:=r) (m:=m+11) (j:=j) (e:=e) (by simpa[kids] using h);rw[az]
  congr 3
  omega
theorem aaE{o:Nat}{b:cJ}{c8 v9 u8 u9:ada}(h:(cs.toList.drop o).take 10=ke b c8 v9):(((cs.setIfInBounds (o+8) u8).setIfInBounds (o+9) u9).toList.drop o).take 10=ke b u8 u9:=by
 have hc:=HD h;have gK:o+10≤cs.size:=by have hJ:=hc 9 (by decide);have:=(Array.getElem?_eq_some_iff.1 (show cs[o+9]?=some v9 from hJ)).1;omega
 apply Hc;intro n;rw[s6,Av];by_cases hn:n<10
 ·rw[a8 hn,xP,zp,zp];have aT:=hc n hn;rcases (show n=0∨n=1∨n=2∨n=3∨n=4∨n=5∨n=6∨n=7∨n=8∨n=9 by omega) with rfl|rfl|rfl|rfl|rfl|rfl|rfl|rfl|rfl|rfl
  all_goals first
   |(rw[aR (by omega),aR (by omega),aT];rfl)
   |(rw[aR (by omega),a8 rfl,a8 (by omega)];rfl)
   |(rw[a8 rfl,a8 (by simp;omega)];rfl)
 ·rw[aR hn];rw[Sr];simp only[eP,rC];omega
theorem aaF:∀ps:List l',ps.length≤kR ps
 |[]=>eE _
 |d::ps=>by have:=aaF ps;have e:kR (d::ps)=(d.s.count+1)+kR ps:=(by simp[kR]);rw[e,eP];omega
abbrev wy:Value:=.agg #[U false,I 0,I 0,I 0,I 0,I 0,I 0,I 0,I 0,J 0,J 0]
theorem aaG:(Tryz.prog.info? 80).map (fun i=>(i.zero,i.size,i.bytes))=some (some wy,11,120):=by kernel_rfl
theorem amh:(Tryz.prog.info? 187).map (fun i=>(i.zero,i.size,i.bytes))=some (some (.pointer none),1,8):=by kernel_rfl
theorem addr_add(k o j:Nat):(⟨k,o,none⟩:Addr).add j=⟨k,o+j,none⟩:=by unfold Addr.add;split<;>simp_all
theorem ami(Z:aeo)(iu wz op m cp:Nat)(KU:ajv)(tA:aev)(h5:Z.heap[iu]?=some (.cells (madeCells wy.cells (m *11)) eQ (0,0)))(hv:Z.heap[wz]?=some (.cells KU eQ (0,0)))(dd:(KU.toList.drop op).take (m *11)=tA)(aA:tA.length=m *11)(EP:∀v∈tA,v.oneCell'=true)(ty:aai):
  (Builtin.copy_ #[73,73] ty #[ag iu 0 m m,ag wz op m cp]).run Tryz.prog Z=.ok (goInt m) (Z.setRow iu tA.toArray):=by
 have gK:(madeCells wy.cells (m *11)).toList.length=m *11:=by simp[madeCells]
 have h:=amc (P:=Tryz.prog) Z 73 73 ty 80 iu 0 m m (aj wz op) m cp 11 _ eQ tA OQ (by kernel_rfl) h5 (by rw [aA,show Nat.min m m=m from Ok m]) (fun j v aS=>by
  rw[addr_add];refine cell_of hv ?_;rw[←dd,s6] at aS;split at aS
  ·rw[Av] at aS;simpa using aS
  ·cases aS) (by rw[kr,aA];simp[madeCells]) EP
 rw[h,show Nat.min m m=m from Ok m,OR,Jw,n2 (by rw[kr,aA,gK];exact bx _),List.append_nil]
theorem aaH(S:afp)(b:cJ)(s:bc)(OP:Full ⟨b,s⟩)(fV:s.count≤100000000)(pl:Ja)(cl:Nat)(pp:Ja)(cp:Nat)(w:aeo)(H:af (dv S w pl cl pp cp ⟨b,s⟩)):
  Calls Tryz.prog 53 #[iD b (ad pl b.l.length cl) (ad pp s.len cp)] w fun e w'=>∃ql dl qp cK,e=ab (iD b (ad ql b.l.length dl) (ad qp s.len cK))∧dv (fun k=>w.heap.size≤k) w' ql dl qp cK ⟨b,s⟩∧ao w w w':=by
 have aP:=aq OP;obtain⟨n0,l4⟩:=ar b.l.length;obtain⟨m0,s9⟩:=ar s.len;obtain⟨N,h5⟩:=ar s.count;have aaI:=aq l4;have mC:=aq s9;have bf:=aq h5;have OS:=aq fV;have kB:af (∀Z,ao w w Z→Calls Tryz.prog 79 #[.agg #[I b.k,I b.a.1,I b.a.2,I b.b.1,I b.b.2,I b.c.1,I b.c.2,I b.r,ad pl n0 cl,ad pp m0 cp]] Z fun e w'=>e=ab (I ((N+1:Nat):Int))∧ao Z Z w'):=by intro Z eG;rw[←s9,←h5];exact HA S b s fV pl n0 cl pp cp Z (aq (H.out.p.below eG))
 rw[h5] at fV;show Calls _ _ #[.agg #[I b.k,I b.a.1,I b.a.2,I b.b.1,I b.b.2,I b.c.1,I b.c.2,I b.r,ad pl b.l.length cl,ad pp s.len cp]] w _;rw[l4,s9];obtain⟨z,bn⟩:∃z:Int,((N+1:Nat):Int)=z:=⟨_,rfl⟩;rw[bn] at kB;have axc:¬z > 2147483647:=by omega
 clear OP l4 s9 h5 bn fV;go_enter Tryz.func53,Tryz.ntmps53;go_upto_region 2 with fail;obtain⟨W,br⟩:=ar ((w.alloc (ai (#[I b.k,I b.a.1,I b.a.2,I b.b.1,I b.b.2,I b.c.1,I b.c.2,I b.r,ad pl n0 cl,ad pp m0 cp]) dz)).alloc qH);have H1:af (an W w.heap.size (#[I b.k,I b.a.1,I b.a.2,I b.b.1,I b.b.2,I b.c.1,I b.c.2,I b.r,ad pl n0 cl,ad pp m0 cp]) dz):=by show _=_;rw[←br];exact aU (cd _ _) (a' _ _)
 have c1:af (W.heap[w.heap.size+1]?=some qH):=by show _=_;rw[←br];exact uJ _ _ _
 have aO:af (ao w w W):=by show Below _ _ _;rw[←br];exact nI _ _ _
 have aaJ:(w.alloc (ai (#[I b.k,I b.a.1,I b.a.2,I b.b.1,I b.b.2,I b.c.1,I b.c.2,I b.r,ad pl n0 cl,ad pp m0 cp]) dz)).alloc (.cells #[I 0,I 0,I 0,I 0,I 0,I 0,I 0,I 0,J 0,J 0] dz)=W:=br;rw[aaJ];clear br aaJ;obtain⟨g0,g1,g2,g3,g4,g5,g6,g7,g8,g9⟩:=dZ H1.out;go_wp2_with fail;with_reducible refine (kB.out _ aO.out).mono ?_
 rintro e ck ⟨rfl,ay⟩;have aaK:=aq (aU H1.out ay);have aaL:=aq (aU c1.out ay);have OT:af (ao w w ck):=aO.out.trans (ay.mono aO.out.size);clear g0 g1 g2 g3 g4 g5 g6 g7 g8 g9 ay H1 c1 aO;go_wp2_with fail
 have l2:af (xZ S w ⟨w.heap.size,0,b,s⟩ [⟨w.heap.size,0,b,s⟩] (ag ck.heap.size 0 1 1) (ck.alloc (ai (#[.pointer (some (aj w.heap.size 0))]) o3))):=by
  refine⟨OT.out.alloc OT.out.size _,World.ownsRow_lit (base:=w.heap.size) (e:=o3) (size:=1) ck #[ah w.heap.size 0] 1 OT.out.size (by decide) rfl,fun d hd=>?_,fun d hd=>?_,fun d hd=>?_,List.pairwise_singleton _ _,aU aaL.out (a' _ _),fun HC _ hd=>hd _ (by simp)⟩
  ·obtain rfl:d=⟨w.heap.size,0,b,s⟩:=(by simpa using hd);exact⟨_,_,pl,cl,pp,cp,aU aaK.out (a' _ _),.inl rfl,by rw[aaI.out,mC.out];rfl,H.out⟩
  ·obtain rfl:d=⟨w.heap.size,0,b,s⟩:=(by simpa using hd);exact⟨bx _,by show w.heap.size≠w.heap.size+1;omega⟩
  ·obtain rfl:d=⟨w.heap.size,0,b,s⟩:=(by simpa using hd);exact aP.out
 have ER:af (kR [⟨w.heap.size,0,b,s⟩]≤N+1∧kR [⟨w.heap.size,0,b,s⟩]≤100000001):=by have av:kR [⟨w.heap.size,0,b,s⟩]=s.count+1:=(by simp[kR]);have az:=OS.out;have aF:=bf.out;show _∧_;omega
 generalize ck.alloc (.cells #[ah w.heap.size 0] o3)=cm at l2⊢;generalize ck.heap.size=T at l2⊢;clear aaK aaL OT kB
 go_loopg [4] (N+1) (fun gk sv wr=>∃(ps:List l') (aK:aeo),aK=wr∧af (xZ S w ⟨w.heap.size,0,b,s⟩ ps sv aK)∧af (kR ps≤gk∧kR ps≤100000001))
 case atStart=>exact⟨_,_,rfl,l2.out,ER.out⟩
 case round=>
 obtain⟨ps,aK,rfl,bz,c9⟩:=hrel;rcases List.eq_nil_or_concat ps with rfl|⟨ep,d,rfl⟩
 ·obtain⟨p,c,rfl⟩:=jf bz.out.row;obtain⟨cs,t,ql,dl,qp,cK,a1,a6,ch⟩:=bz.out.fin;have HE:=aq ch;have pI:=HD a6;have aN:ak aK w.heap.size 0 (I b.k):=cell_of a1 (by simpa using pI 0 (by decide));have aL:ak aK w.heap.size 1 (I b.a.1):=cell_of a1 (by simpa using pI 1 (by decide));have aI:ak aK w.heap.size 2 (I b.a.2):=cell_of a1 (by simpa using pI 2 (by decide));have c3:ak aK w.heap.size 3 (I b.b.1):=cell_of a1 (by simpa using pI 3 (by decide));have bJ:ak aK w.heap.size 4 (I b.b.2):=cell_of a1 (by simpa using pI 4 (by decide));have c5:ak aK w.heap.size 5 (I b.c.1):=cell_of a1 (by simpa using pI 5 (by decide));have b2:ak aK w.heap.size 6 (I b.c.2):=cell_of a1 (by simpa using pI 6 (by decide));have b':ak aK w.heap.size 7 (I b.r):=cell_of a1 (by simpa using pI 7 (by decide));have bX:ak aK w.heap.size 8 (ad ql n0 dl):=(by rw[←aaI.out];exact cell_of a1 (by simpa using pI 8 (by decide)));have bj:ak aK w.heap.size 9 (ad qp m0 cK):=(by rw[←mC.out];exact cell_of a1 (by simpa using pI 9 (by decide)));obtain⟨u0,u1,u2,u3,u4,u5,u6,u7,u8,u9⟩:=dZ bz.out.res;have fu:=lz bz.out.res;have qI:=aq bz.out.res;have u':=aq bz.out.aZ;clear a1 a6 ch pI bz l2;go_wp2_with fail;have jV:=oU [I b.k,I b.a.1,I b.a.2,I b.b.1,I b.b.2,I b.c.1,I b.c.2,I b.r,ad ql n0 dl,ad qp m0 cK] qI.out rfl;have ay:=tf (m:=0) (b:=w.heap.size+1) (nX _) [I b.k,I b.a.1,I b.a.2,I b.b.1,I b.b.2,I b.c.1,I b.c.2,I b.r,ad ql n0 dl,ad qp m0 cK] u'.out;have ax:=xK (S:=fun k=>w.heap.size≤k∧k≠w.heap.size+1) (b:=w.heap.size+1) (w:=aK) (m:=0) (fun h=>h.2 rfl) [I b.k,I b.a.1,I b.a.2,I b.b.1,I b.b.2,I b.c.1,I b.c.2,I b.r,ad ql n0 dl,ad qp m0 cK];exact dC (pD rfl _ _ (w.heap.size+1) _ _ _ _ rfl jV tz rfl (by kernel_rfl)) rfl ⟨ql,dl,qp,cK,rfl,(HE.out.keep ax).mono (fun k _ h=>h.1),ay⟩
 ·rw[List.concat_eq_append] at bz c9;obtain⟨n,hn⟩:=ar ep.length;have OU:=aq hn;have d':=bz.out.row;rw[show (ep++[d]).length=n+1 by simp[hn],nb] at d';obtain⟨g,cap,rfl⟩:=ownsRow_succ d';have eD:ak aK g n (.pointer (some (aj d.B d.o))):=(by rw[d'.cellAt n (by omega),EI (by simp[hn])];simp[hn]);have KH:=aam d';obtain⟨cs,EO,Tv,Tw,aaM,OV,hd,OO,gL,ek⟩:=bz.out.at_ d (by simp);have pI:=HD gL;have d8:ak aK d.B (d.o+8) (ad Tv d.b.l.length Tw):=cell_of hd (pI 8 (by decide));have n5:=cR hd;obtain⟨dy,kg⟩:=ar d.b.l.length;have KV:=aq kg;rw[kg] at d8;obtain⟨cL,fv⟩:=ar (n+1);have fQ:=aq fv;have uI:cL≤1000000000:=(by have av:=aaF (ep++[d]);have az:kR (ep++[d])≤100000001:=c9.out.2;rw[hl,hn] at av;simp only[eP,rC] at av;omega);rw[fv];rw[fv] at KH;have oY:ae ((cL:Int)-1)=(n:Int):=(by rw[cX _ (by omega)];omega);have dP:(n:Int)<(cL:Int):=(by omega);have dq:n<cL:=(by omega);have al0:(n:Int)≤(cap:Int):=(by omega);have al1:n≤cap:=(by omega);have al2:¬cap=0:=(by omega);have xW:(cL:Int)≤(cap:Int):=(by omega);have axd:decide ((cL:Int)> 0)=true:=e' (by omega);have di:=aq hd;have x0:=aq gL;have aaN:=aq OO;have pF:=aq ek;clear d' hn fv KH hd gL pI OO ek kg;go_wp2_with fail;with_reducible refine (alH S Tv d.b.l (by have h:=bz.out.full d (by simp);unfold Full at h;exact h.1) dy Tw KV.out.symm _ (aq (pF.out.l.below bz.out.aZ))).mono ?_
  rintro e V ⟨q,dl,rfl,AX,aaO,ay⟩;have va:=aq ay;have aaP:=aq AX;have ES:af (g≠d.B):=by obtain⟨_,cur,gp⟩:=wu bz.out.row;have av:=di.out;intro e;rw[e,av] at gp;injection gp with gp;injection gp with _ bB;rcases aaN.out with az|az<;>(rw[az] at bB;exact absurd bB (by decide))
  have amj:af (V.ownsRow w.heap.size o3 1 (ag g 0 n cap) n (ep.map sd)):=(by have av:=bz.out.row;rw[show (ep++[d]).length=n+1 by simp[OU.out],nb] at av;exact e9 (ownsRow_pop (xs:=ep.map sd) (last:=[d].map sd) (by simp[OU.out]) av) ay);have amk:af (iC (fun k=>aK.heap.size≤k∧k<V.heap.size) V q d.b.l):=aaO.mono fun k ax h=>⟨h,ax⟩;have AY:=aq (aU di.out ay);have pI:=HD x0.out;obtain⟨m1,oe⟩:=ar d.s.len;have gd:=aq oe;have aaQ:d.o+9<cs.size:=(Array.getElem?_eq_some_iff.1 (pI 9 (by decide))).1;have se:=aq aaQ;clear ay AX aaO d8 n5 eD;have d8:ak V d.B (d.o+8) (ad Tv d.b.l.length Tw):=cell_of AY.out (pI 8 (by decide));have d9:ak V d.B (d.o+9) (ad aaM m1 OV):=(by rw[←oe];exact cell_of AY.out (pI 9 (by decide)));have n5:=cR AY.out;have aaR:=lt_of_heap AY.out;have aaS:∀u,(V.setCell (aj d.B (d.o+8)) u).cell? ⟨d.B,d.o+9,none⟩=some (ad aaM m1 OV):=fun u=>S' AY.out (by omega) d9;have aaU:∀u j,(V.setCell (aj d.B (d.o+8)) u).frozen? ⟨d.B,j,none⟩=false:=fun u j=>cR (dL u AY.out) j;clear pI oe aaQ;have jn:af ((V.setCell (aj d.B (d.o+8)) (ad q dy dl)).heap[d.B]?=some (.cells (cs.setIfInBounds (d.o+8) (ad q dy dl)) EO (0,0))):=dL _ AY.out;have OW:af (ir [d] aK (V.setCell (aj d.B (d.o+8)) (ad q dy dl))):=(ir.dI (ps:=[d]) va.out).trans (ir.set (ps:=[d]) (ad q dy dl) ⟨d,by simp,rfl,.inl rfl⟩) fun _ _ _ h=>h;have KW:af (ao w w (V.setCell (aj d.B (d.o+8)) (ad q dy dl))):=(bz.out.aZ.trans (va.out.mono bz.out.aZ.size)).setCell (bz.out.low d (by simp)).1 _;have OX:af (iC (fun k=>aK.heap.size≤k∧k<V.heap.size) (V.setCell (aj d.B (d.o+8)) (ad q dy dl)) q d.b.l):=(by have aA:=lt_of_heap di.out;exact amk.out.keep (aQ.set (a:=⟨d.B,d.o+8,none⟩) (fun h=>oP _ (jN aA h.1)) _));have OY:af ((V.setCell (aj d.B (d.o+8)) (ad q dy dl)).ownsRow w.heap.size o3 1 (ag g 0 n cap) n (ep.map sd)):=Tq amj.out (fun e=>ES.out (by simpa[Value.ownBlock] using e)) _;have rh:(V.setCell (aj d.B (d.o+8)) (ad q dy dl)).heap.size=V.heap.size:=(by simp[World.setCell]);have kk:=aq rh;clear rh;go_upto_region 9 with fail;have AZ:=aaS (ad q dy dl);have f9:=aaU (ad q dy dl);clear d8 d9 n5 aaS aaU;generalize V.setCell (aj d.B (d.o+8)) (ad q dy dl)=X at AZ f9 jn OW KW OX kk OY⊢;have aaR:=lt_of_heap jn.out;have aaV:∀f∈ep,OJ f d:=fun f hf=>(List.pairwise_append.1 bz.out.ap).2.2 f hf d (by simp);have aaW:=aq aaV;have aaX:EO≠o3:=by rcases aaN.out with rfl|rfl<;>decide
  have sf:=aq aaX;clear aaV aaX;by_cases aT:m1=0
  ·subst aT
   have sc:af (xZ S w ⟨w.heap.size,0,b,s⟩ (ep++kids (X.heap.size+1) 0 d.s) (ag g 0 n cap) (X.setCell (aj d.B (d.o+9)) (J 0))):=by
    have ET:ir [d] aK (X.setCell (aj d.B (d.o+9)) (J 0)):=OW.out.trans (ir.set (ps:=[d]) (J 0) ⟨d,by simp,rfl,.inr rfl⟩) fun _ _ _ h=>h;have q4:(kids (X.heap.size+1) 0 d.s)=[]:=rQ (by rw[KQ,gd.out]);have aA:=lt_of_heap di.out;refine xZ.next (ql:=q) (pn:=none) (dl:=dl) (cn:=0) (csN:= #[]) (R1:=fun k=>aK.heap.size≤k∧k<V.heap.size) bz.out (ET.mono (fun e he=>by simp at he;simp[he])) (KW.out.setCell (bz.out.low d (by simp)).1 _) ?_ (fun e he=>(bz.out.at_ e (by simp[he])).fr ET (aaW.out e he)) ?_ (dL _ jn.out) sf.out ?_ ?_ (fun k ax=>?_) ?_ (by rw[gd.out];exact bx _) (by rw[gd.out];exact eE _) ?_ (fun h=>by rw[gd.out] at h;exact absurd h (oP _))
    ·rw[q4,List.append_nil,OU.out];exact Tq OY.out (fun e=>ES.out (by simpa[Value.ownBlock] using e)) _
    ·exact (ET.get bz.out.res (by decide) (fun e he=>by simp at he;subst he;exact (bz.out.low e (by simp)).2))
    ·have h:=aaE (u8:=ad q dy dl) (u9:=J 0) x0.out;rw[KV.out,gd.out];exact h
    ·exact OX.out.keep (aQ.set (a:=⟨d.B,d.o+9,none⟩) (fun h=>oP _ (jN aA h.1)) _)
    ·have av:=bz.out.aZ.size;have az:=lt_of_heap bz.out.res;have aF:=kk.out;refine⟨⟨by have:=ax.1;omega,by have:=ax.1;omega⟩,by have:=ax.2;omega,fun e he bk=>?_⟩;obtain⟨_,_,_,_,_,_,b9,_⟩:=bz.out.at_ e (by simp[he]);have:=lt_of_heap b9;have:=ax.1;omega
    ·rw[KV.out];exact aaP.out
    ·have aF:=kk.out;have bk:=va.out.size;omega
   have mD:af (kR (ep++kids (X.heap.size+1) 0 d.s)+1≤gk∧kR (ep++kids (X.heap.size+1) 0 d.s)≤100000001):=(by have av:=c9.out;rw[aaB] at av;show _∧_;rw[aaC,Tu];omega);generalize kids (X.heap.size+1) 0 d.s=K at sc mD;go_wp2_with fail
   go_roundg (gk-1)<;>first
    |exact⟨_,_,rfl,sc.out,(by have h:=mD.out;omega:kR (ep++K)≤gk-1∧kR (ep++K)≤100000001)⟩
    |(have h:=mD.out;omega)
  ·have oe:((m1:Int)==0)=false:=(by rw[uO];omega);have jR:(0:Int)<(m1:Int):=(by omega);have aml:0<m1:=(by omega);have EB:m1≤1000000000:=(by rw[←gd.out];exact pF.out.p.1);obtain⟨wz,op,KU,rfl,_,aaY,aaZ⟩:=pF.out.p.2 (by show 0<d.s.len;rw[gd.out];exact aml);have amm:=aq aaY;have N6:=aq aaZ;clear aaY aaZ;go_upto_region 11 with fail;go_region;have OZ:ao X X ((X.alloc (ai (#[.pointer (some (aj wz op)),I (m1:Int)]) 192)).drew):=(a' _ _).drew;have Cz:=bP OZ AZ;have g9:∀j,(X.alloc (ai (#[.pointer (some (aj wz op)),I (m1:Int)]) 192)).drew.frozen? ⟨d.B,j,none⟩=false:=cR (aU jn.out OZ);obtain⟨s0,s1,_,_⟩:=N0 (show (X.alloc (ai (#[.pointer (some (aj wz op)),I (m1:Int)]) 192)).drew.heap[X.heap.size]?=some (.cells #[ah wz op,I (m1:Int)] 192) from cd X _);have oh:=aq OZ;clear AZ f9 OZ;generalize (X.alloc (ai (#[.pointer (some (aj wz op)),I (m1:Int)]) 192)).drew=Y at Cz g9 s0 s1 oh⊢;have CA:=aq (aU jn.out oh.out);have aa0:af (ir [d] aK Y):=OW.out.trans (ir.dI (ps:=[d]) oh.out) fun _ _ _ h=>h;have Tx:af (ao w w Y):=KW.out.trans (oh.out.mono KW.out.size);have aa1:=aq (OX.out.below oh.out);have aa2:=aq (e9 OY.out oh.out);have o4:=amg (wz,op,m1) Y;have CB:af (V.heap.size≤Y.heap.size):=(by have av:=kk.out;have az:=oh.out.size;show _≤_;omega);clear jn OW KW OX OY;have uw:=AF (P:=Tryz.prog) 73 80 wy 11 120 OQ aaG m1 (by omega) (by omega);go_upto_region 15 with fail;have O0:ao Y Y (Y.alloc (ai (madeCells wy.cells (m1 *11)) eQ)):=a' _ _;have r5:af ((Y.alloc (ai (madeCells wy.cells (m1 *11)) eQ)).heap[Y.heap.size]?=some (.cells (madeCells wy.cells (m1 *11)) eQ)):=cd _ _;have z9:=bP O0 Cz;have wA:∀j,(Y.alloc (ai (madeCells wy.cells (m1 *11)) eQ)).frozen? ⟨d.B,j,none⟩=false:=cR (aU CA.out O0);have EU:=aq O0;clear Cz g9 s0 s1 O0 o4 uw;change Code.wp _ _ _ _ (Y.alloc (ai (madeCells wy.cells (m1 *11)) eQ));have Ty:af ((Y.alloc (ai (madeCells wy.cells (m1 *11)) eQ)).heap.size=Y.heap.size+1):=pz _ _;generalize Y.alloc (.cells (madeCells wy.cells (m1 *11)) eQ)=Z at z9 wA r5 EU Ty⊢;have aa3:=aq (aU CA.out EU.out);have Tz:af (ir [d] aK Z):=aa0.out.trans (ir.dI (ps:=[d]) EU.out) fun _ _ _ h=>h;have O1:af (ao w w Z):=Tx.out.trans (EU.out.mono Tx.out.size);have aa4:=aq (aa1.out.below EU.out);have TA:=aq (e9 aa2.out EU.out);obtain⟨iu,aa5⟩:=ar Y.heap.size;rw[aa5] at r5 Ty CB⊢;clear CA aa0 Tx aa1 aa2 EU aa5;obtain⟨tA,KX⟩:=ar ((KU.toList.drop op).take (m1 *11));obtain⟨TB,EP⟩:=N6.out.long;rw[gd.out,KX] at EP;rw[gd.out] at TB;have TC:tA.length=m1 *11:=(by rw[←KX,kj,xH TB]);have O2:=O1.out;have amn:=ami Z iu wz op m1 OV KU tA r5.out (aU amm.out O2) KX TC EP;have amo:=aq TC;have amp:=aq KX;clear KX TB EP TC O2;go_upto_region 16 with fail;have kM:af (aQ (fun k=>k≠iu) Z (Z.setRow iu tA.toArray)):=⟨rfl,rfl,rfl,by simp[World.setRow],fun k ax _=>setRow_other Z iu k _ ax⟩;have EV:af ((Z.setRow iu tA.toArray).heap[iu]?=some (.cells tA.toArray eQ)):=setRow_heap Z iu _ _ eQ (0,0) r5.out;clear amn z9 wA;generalize Z.setRow iu tA.toArray=o5 at kM EV⊢;have EW:d.B≠iu:=(by intro e;have av:=lt_of_heap di.out;have az:=CB.out;have aF:=va.out.size;omega);have lb:=aq (kM.out.get EW aa3.out);have amq:af (ir [d] aK o5):=(by refine⟨dB Tz.out.size kM.out.size,fun k cs t aJ bB=>?_⟩;obtain⟨kz,av,az,aF⟩:=Tz.out.cells k cs t aJ bB;have bk:=lt_of_heap aJ;have b9:=CB.out;have cW:=va.out.size;exact⟨kz,kM.out.get (by omega) av,az,aF⟩);have TD:af (ao w w o5):=O1.out.trans (kM.out.below _ O1.out.size fun k ax=>by have av:=CB.out;have az:=va.out.size;have aF:=bz.out.aZ.size;omega);have amr:af (iC (fun k=>aK.heap.size≤k∧k<V.heap.size) o5 q d.b.l):=aa4.out.keep (kM.out.mono fun k _ h=>by have av:=CB.out;have:=h.2;omega);have KY:af (o5.ownsRow w.heap.size o3 1 (ag g 0 n cap) n (ep.map sd)):=(S7 TA.out kM.out fun k e a6=>by obtain⟨_,cur,gp⟩:=wu TA.out;have:g=k:=(by simpa[Value.ownBlock] using e);rw[this,a6,r5.out] at gp;injection gp with gp;injection gp with _ bB;exact absurd bB (by decide));have axe:af (iu<o5.heap.size):=lt_of_heap EV.out;clear aa3 Tz O1 aa4 TA kM r5 Ty EW;have ams:(binOp .neq 185 (.map none) (.map none)).run Tryz.prog o5=.ok (U false) o5:=(by have h:=run_equal_map_nil (P:=Tryz.prog) o5 _ _ _ none Tryz.underlying185;simp only[binOp];simp[h,Result.andThen]);go_wp2_with fail;obtain⟨mx,hi,dE,xX,xY⟩:=info_parts amh;have bZ:=aq (And.intro hi (And.intro dE (And.intro xX xY)));clear hi dE xX xY ams
   go_loopw [4,84] (fun sv i wr=>∃(j:Nat) (s2:ada) (sg:aeo),sg=wr∧s2=sv∧j≤m1∧i=I j∧af (sg.ownsRow w.heap.size o3 1 s2 (n+j) (ep.map sd++((kids iu 0 d.s).take j).map sd))∧af (aQ (fun k=>k≠g) o5 sg)∧af (∀k,s2.ownBlock=some k→k=g∨o5.heap.size≤k)) (fun _ i _=>m1 -(intOf i).toNat)
   case atStart=>exact⟨0,_,_,rfl,rfl,eE _,rfl,(by show World.ownsRow _ _ _ _ _ _ _;rw[OR,AS,List.append_nil];exact KY.out),aQ.refl _ _,(fun k e=>.inl (by simpa[Value.ownBlock] using e.symm))⟩
   case round=>
   obtain⟨j,s2,sg,rfl,rfl,cr,rfl,O3,CC,EX⟩:=hrel;by_cases b1:j<m1
   ·have i':(j:Int)<(m1:Int):=(by omega);obtain⟨aa6,aI,rfl⟩:=jf O3.out;have axf:ae ((j:Int)+1)=(j:Int)+1:=cX _ (by omega);have axg:=TD.out.size;have aa7:=CC.out.size;have jg:af ((sg.alloc (ai (#[.pointer (some (aj iu (j *11+1)))]) o3)).ownsRow w.heap.size o3 1 (ad aa6 (n+j) aI) (n+j) (ep.map sd++((kids iu 0 d.s).take j).map sd)):=O3.out.alloc _;go_wp2_with (at_builtin;refine zm _ rfl _ _ _ rfl w.heap.size o3 mx (.pointer none) 1 8 Tryz.underlying188 bZ.out.1 bZ.out.2.1 bZ.out.2.2.1 bZ.out.2.2.2 rfl (by omega) (ad aa6 (n+j) aI) (n+j) _ (by rfl) jg.out (aj sg.heap.size 0) 1 1 [ah iu (j *11+1)] (by rfl) (by rfl) (kc (cs:= #[.pointer (some (aj iu (j *11+1)))]) (t:=o3) (fr:=(0,0)) (ga sg _)) (by simp[Value.oneCell']) (by omega) (by unfold maxLen;omega) (by omega) (by simp;omega) (sg.heap.size+1) (by simp) ?_;intro dh hg bt cI dO eJ hV);have A0:j<(kids iu 0 d.s).length:=(by rw[KQ,gd.out];exact b1);obtain⟨e,he⟩:=ar ((kids iu 0 d.s)[j]);have aa8:sd e=.pointer (some (aj iu (j *11+1))):=(by have h:=aaD (N:=iu) (s:=d.s) (m:=0) (j:=j) (e:=e) (by rw[l8 A0,he]);rw[h,kr]);have kP:af (bt.ownsRow w.heap.size o3 1 (ag dh 0 (n+j+1) hg) (n+(j+1)) (ep.map sd++((kids iu 0 d.s).take (j+1)).map sd)):=by show World.ownsRow _ _ _ _ _ _ _;rw[y5 A0,he,nb,←List.append_assoc,oH,AS,aa8,←xe];exact cI
    have ly:af (aQ (fun k=>k≠g) o5 bt):=by
     have av:=CC.out;refine⟨dO.os.trans av.os,dO.tape.trans av.tape,dO.output.trans av.output,dB aa7 (dB (by simp) dO.size),fun k ax aA=>?_⟩;have az:k<sg.heap.size:=jN aA aa7;refine (dO.block k (by simp;omega) fun a6=>?_).trans ((xq _ _ _ az).trans (av.block k ax aA));rcases EX.out k a6.symm with aF|aF
     ·exact ax aF
     ·omega
    have wB:af (∀k,(Value.slice (some (aj dh 0)) (n+j+1) hg).ownBlock=some k→k=g∨o5.heap.size≤k):=by
     intro k a6;have ch:dh=k:=(by simpa[Value.ownBlock] using a6);rcases eJ with aF|aF
     ·rw[ch] at aF;exact EX.out k aF
     ·rw[←ch];omega
    clear cI dO eJ hV A0 he aa8;all_goals (go_round<;>first|exact⟨j+1,_,_,rfl,rfl,by omega,by go_num,kP.out,ly.out,wB.out⟩|(simp[intOf]<;>omega))
   ·obtain rfl:j=m1:=(by omega);have aa9:d.B≠g:=fun e=>ES.out e.symm;have ih:=aq (CC.out.get aa9 lb.out);have amt:=aq (CC.out.get (fun e=>by obtain⟨_,cur,gp⟩:=wu KY.out;rw[←e,EV.out] at gp;injection gp with gp;injection gp with _ bB;exact absurd bB (by decide):iu≠g) EV.out);have amu:af (ir [d] aK sg):=amq.out.trans (ir.al8 (ps:=[d]) (T:=fun k=>k=g) CC.out (fun k cs t ax aJ=>by obtain⟨_,cur,gp⟩:=wu KY.out;rw[ax,gp] at aJ;injection aJ with aJ;injection aJ with _ bB;exact bB.symm)) fun _ _ _ h=>h;have amv:af (ao w w sg):=TD.out.trans (CC.out.below _ TD.out.size fun k ax e=>by have:=(wu KY.out).1;omega);have amw:af (iC (fun k=>aK.heap.size≤k∧k<V.heap.size) sg q d.b.l):=amr.out.keep (CC.out.mono fun k _ h e=>by have av:=(wu KY.out);have az:=bz.out.row;obtain⟨_,cur,gp⟩:=wu az;have:=lt_of_heap gp;have:=h.1;omega);have z9:ak sg d.B (d.o+9) (ad (some (aj wz op)) j OV):=(by refine cell_of ih.out ?_;have h:=HD x0.out 9 (by decide);rw[zp,aR (by omega)];rw[gd.out] at h;exact h);have wA:=cR ih.out;have aaR:=lt_of_heap ih.out
    have sc:af (xZ S w ⟨w.heap.size,0,b,s⟩ (ep++kids iu 0 d.s) s2 (sg.setCell (aj d.B (d.o+9)) (ag iu 0 j j))):=by
     have ET:ir [d] aK (sg.setCell (aj d.B (d.o+9)) (ag iu 0 j j)):=amu.out.trans (ir.set (ps:=[d]) (ag iu 0 j j) ⟨d,by simp,rfl,.inr rfl⟩) fun _ _ _ h=>h;have aA:=lt_of_heap di.out;have iE:(kids iu 0 d.s).length=j:=(by rw[KQ,gd.out]);have EW:d.B≠iu:=(by have az:=CB.out;have aF:=va.out.size;omega);refine xZ.next (ql:=q) (pn:=some ⟨iu,0,none⟩) (dl:=dl) (cn:=j) (csN:=tA.toArray) (R1:=fun k=>aK.heap.size≤k∧k<V.heap.size) bz.out (ET.mono (fun e he=>by simp at he;simp[he])) (amv.out.setCell (bz.out.low d (by simp)).1 _) ?_ (fun e he=>(bz.out.at_ e (by simp[he])).fr ET (aaW.out e he)) ?_ (dL _ ih.out) sf.out ?_ ?_ (fun k ax=>?_) ?_ (by rw[gd.out];exact bx _) (by rw[gd.out];exact EB) ?_ (fun h=>⟨rfl,(mw (gJ EW)).trans amt.out,?_⟩)
     ·have h:=O3.out;rw[←iE,vD,←nb] at h;rw[hl,OU.out]
      exact Tq h (fun e=>by
       have a6:s2.ownBlock=some d.B:=e;rcases EX.out _ a6 with aF|aF
       ·exact aa9 aF
       ·have bk:=lt_of_heap lb.out;exact absurd aF (Nat.not_le_of_lt bk)) _
     ·exact (ET.get bz.out.res (by decide) (fun e he=>by simp at he;subst he;exact (bz.out.low e (by simp)).2))
     ·have h:=aaE (u8:=ad q dy dl) (u9:=ad (some (aj iu 0)) j j) x0.out;rw[KV.out,gd.out];exact h
     ·exact amw.out.keep (aQ.set (a:=⟨d.B,d.o+9,none⟩) (fun h=>oP _ (jN aA h.1)) _)
     ·have av:=bz.out.aZ.size;have az:=lt_of_heap bz.out.res;have aF:=CB.out;refine⟨⟨by have:=ax.1;omega,by have:=ax.1;omega⟩,by have:=ax.2;omega,fun e he bk=>?_⟩;obtain⟨_,_,_,_,_,_,b9,_⟩:=bz.out.at_ e (by simp[he]);have:=lt_of_heap b9;have:=ax.1;omega
     ·rw[KV.out];exact aaP.out
     ·have aF:=CB.out;have bk:=va.out.size;omega
     ·refine ds.congr N6.out ?_;rw[gd.out,amp.out];show _=List.take _ tA;rw[vX (by rw[amo.out];exact bx _)]
    have mD:af (kR (ep++kids iu 0 d.s)+1≤gk∧kR (ep++kids iu 0 d.s)≤100000001):=(by have av:=c9.out;rw[aaB] at av;show _∧_;rw[aaC,Tu];omega);generalize kids iu 0 d.s=K at sc mD;clear O3 CC EX;go_wp2_with fail
    go_roundg (gk-1)<;>first
     |exact⟨_,_,rfl,sc.out,(by have h:=mD.out;omega:kR (ep++K)≤gk-1∧kR (ep++K)≤100000001)⟩
     |(have h:=mD.out;omega)
end c4
