/- Lemmas. -/
import Derived.Test.YtfldplmgkeiimaaGreatDoorQ11
import Derived.Laws.CopyOwn
import Derived.OneCell
import Derived.Laws.Cover3
set_option linter.all false
set_option maxRecDepth 100000
set_option maxHeartbeats 25600000
namespace Go.Proofs.YtfldplmgkeiimaaGreatDoor
abbrev vf:=@List.mem_cons
abbrev vg:=@List.not_mem_nil
abbrev vh:=@or_false
abbrev T8:=@Proofs.Tryz.underlying73
abbrev Pf:=@List.take_zero
abbrev zR:=@Proofs.Tryz.underlying75
abbrev T9:=@ownsRow_setCell_other
abbrev Bo:=@RowKit.Below.heap_alloc
abbrev Lc:=@Nat.not_le_of_lt
abbrev zS:=@List.take_of_length_le
namespace dE
open Go.RowKit el
theorem akV{P:Program}(w:bTo)(aac akW ty elem:aui)(g o T' akX:Nat)(a:Addr)(Ua akY bn:Nat)(cur:agv)(t:aui)(cs:bTv)
  (hu:P.underlying aac=some (.slice elem)) (hs:(P.info? elem).map (·.size)=some bn)
  (aX:w.heap[g]?=some (.cells cur t (0,0))) (hn:cs.length=Nat.min Ua T' *bn)
  (akZ:∀j v,cs[j]?=some v→w.cell? (a.add j)=some v) (ak0:o+cs.length≤cur.size) (aa:∀v∈cs,v.oneCell'=true):
  (Builtin.copy_ #[aac,akW] ty #[bG g o T' akX,ad (some a) Ua akY]).run P w=
   .ok (goInt (Nat.min Ua T')) (w.setRow g (cur.toList.take o++cs++cur.toList.drop (o+cs.length)).toArray):=by
 have aj:=run_loadCells_list (P:=P) w a cs akZ;have k9:=run_storeCells_at P g o t cs 0 cur w aX (by simpa using ak0) aa;cases aC:P.info? elem with
 |none=>simp[aC] at hs
 |some i=>
  have hi:i.size=bn:=(by simpa[aC] using hs);simp[Builtin.copy_,jT hu,Builtin.lenOf,Builtin.firstCells,sizeOf,typeInfo,aC,hi,←hn,aj,k9]
def k'(ps:List mj):Nat:=(ps.map fun d=>d.s.count+1).sum
theorem aad(ps:List mj)(d:mj):k' (ps++[d])=k' ps+(d.s.count+1):=by simp[k']
theorem Ub(N:Nat):∀(s:bh) (m:Nat),k' (kids N m s)=s.count
 |.nil,_=>rfl
 |.cons a b s r,m=>by show (s.count+1)+k' (kids N (m+11) r)=s.count+r.count+1;rw[Ub N r];omega
theorem aae(ps fg:List mj):k' (ps++fg)=k' ps+k' fg:=by simp[k']
variable{cs:agv}
theorem HU{o:Nat}{v0 v1 v2 v3 v4 v5 v6 du ds v9:ada}(h:(cs.toList.drop o).take 10=[v0,v1,v2,v3,v4,v5,v6,du,ds,v9]):∀j,j<10→cs[o+j]?=[v0,v1,v2,v3,v4,v5,v6,du,ds,v9][j]?:=by intro j cB;rw[←h,ti,aT cB,AF];simp
theorem ak1(k:iP)(w:bTo):(Instr.lookup 185 (.map none) (.agg #[dv k.1 k.2.1,I (k.2.2:Int)]) true).run Tryz.prog w=.ok (.tuple #[ay 0,ai false]) w:=by
 have KX:∀(x:Addr) (y:ada),(part 190 #[.pointer (some x),y] 0).run Tryz.prog w=.ok (.pointer (some x)) w:=fun x y=>by simp[part,jT HL]
 have bp:∀(x:ada) (y:Int),(part 3 #[x,I y] 1).run Tryz.prog w=.ok (I y) w:=fun x y=>by simp[part,jT zG]
 have key:∀(D d:Nat) (em:Bool),D=d+1+1→(Instr.checkKey em D 192 (.agg #[dv k.1 k.2.1,I (k.2.2:Int)])).run Tryz.prog w=.ok () w:=by intro D d em bZ;subst bZ;have HM:∀x:Addr,(Instr.checkKey em (d+1) 190 (.pointer (some x))).run Tryz.prog w=.ok () w:=(fun x=>by simp[Instr.checkKey,jT HL]);have HN:∀x:Int,(Instr.checkKey em (d+1) 3 (I x)).run Tryz.prog w=.ok () w:=(fun x=>by simp[Instr.checkKey,jT zG]);rw[Instr.checkKey];simp only[jT Tryz.underlying192,OO,EC];simp[KX,bp,HM,HN]
 have C5:=key 10000 9998 true (by decide);simp[Instr.lookup,jT Tryz.underlying185,C5,Instr.findKey,jT Tryz.underlying192,Instr.findNow,Result.andThen]
theorem iQ.mono{ps fg:List mj}{x y:bTo}(h:iQ ps x y)(aC:∀d∈ps,d∈fg):iQ fg x y:=
 ⟨h.size,fun k cs t aF bH=>by obtain⟨kM,aa,ah,ax⟩:=h.cells k cs t aF bH;exact⟨kM,aa,ah,fun i hi=>ax i fun⟨d,hd,e⟩=>hi ⟨d,aC d hd,e⟩⟩⟩
theorem HR.fr{S:Jp}{w0 x y:bTo}{d e:mj}(h:HR S w0 x e)(hf:iQ [d] x y)(ha:O9 e d):HR S w0 y e:=by
 obtain⟨cs,t,pl,cl,pp,cp,aa,ah,ax,bg⟩:=h;have bH:t≠oW:=by rcases ah with rfl|rfl<;>decide
 obtain⟨kM,g1,g2,g3⟩:=hf.cells _ _ _ aa bH;refine⟨kM,t,pl,cl,pp,cp,g1,ah,(aaa fun i a' a2=>g3 i fun⟨f,p6,f1,f2⟩=>?_).trans ax,bg⟩;obtain rfl:f=d:=by simpa using p6
 rcases ha with b7|b7|b7
 ·exact b7 f1.symm
 ·rcases f2 with rfl|rfl<;>omega
 ·rcases f2 with rfl|rfl<;>omega
theorem dS.long{S:Jp}{w:bTo}:∀{s:bh} {xs:bTv},dS S w s xs→s.len *11≤xs.length∧∀v∈xs.take (s.len *11),v.oneCell'=true
 |.nil,xs,_=>⟨by simp[bh.len],fun v aS=>by simp[bh.len] at aS⟩
 |.cons a b s r,xs,h=>by
  obtain⟨pl,cl,pp,cp,aa,_⟩:=h.head;obtain⟨ah,ax⟩:=dS.long h.tail;have aj:=gb List.length aa;simp only[mf,fK,th] at aj;have AH:11≤xs.length:=(by omega);rw[gZ] at ah;refine⟨by show (r.len+1) *11≤_;omega,fun v aS=>?_⟩;rw[show (bh.cons a b s r).len *11=11+r.len *11 by show (r.len+1) *11=_;omega,List.take_add,aa] at aS;rcases List.mem_append.1 aS with aS|aS
  ·simp only[vf,vg,vh] at aS;rcases aS with rfl|rfl|rfl|rfl|rfl|rfl|rfl|rfl|rfl|rfl|rfl<;>rfl
  ·exact ax v aS
theorem aaf{N:Nat}:∀{s:bh} {m j:Nat} {e:mj},(kids N m s)[j]?=some e→sA e=.pointer (some (ag N (m+j *11+1)))
 |.nil,m,j,e,h=>by simp[kids] at h
 |.cons a b s r,m,0,e,h=>by have:e=⟨N,m+1,b,s⟩:=(by simpa[kids] using h.symm);subst this;simp
 |.cons a b s r,m,j+1,e,h=>by
  have ah:=aaf (s:=r) (m:=m+11) (j:=j) (e:=e) (by simpa[kids] using h);rw[ah]
  congr 3
  omega
theorem aag{o:Nat}{b:dL}{ds v9 u8 u9:ada}(h:(cs.toList.drop o).take 10=l5 b ds v9):(((cs.setIfInBounds (o+8) u8).setIfInBounds (o+9) u9).toList.drop o).take 10=l5 b u8 u9:=by
 have hc:=HU h;have hh:o+10≤cs.size:=by have fG:=hc 9 (by decide);have:=(Array.getElem?_eq_some_iff.1 (show cs[o+9]?=some v9 from fG)).1;omega
 apply Hl;intro n;rw[ti,AF];by_cases hn:n<10
 ·rw[aT hn,zJ,zH,zH];have aQ:=hc n hn;rcases (show n=0∨n=1∨n=2∨n=3∨n=4∨n=5∨n=6∨n=7∨n=8∨n=9 by omega) with rfl|rfl|rfl|rfl|rfl|rfl|rfl|rfl|rfl|rfl
  all_goals first
   |(rw[aK (by omega),aK (by omega),aQ];rfl)
   |(rw[aK (by omega),aT rfl,aT (by omega)];rfl)
   |(rw[aT rfl,aT (by simp;omega)];rfl)
 ·rw[aK hn];rw[Kg];simp only[fK,th];omega
theorem aah:∀ps:List mj,ps.length≤k' ps
 |[]=>eC _
 |d::ps=>by have:=aah ps;have e:k' (d::ps)=(d.s.count+1)+k' ps:=(by simp[k']);rw[e,fK];omega
abbrev yg:Value:=.agg #[ai false,I 0,I 0,I 0,I 0,I 0,I 0,I 0,I 0,ay 0,ay 0]
theorem ak2:(Tryz.prog.info? 80).map (fun i=>(i.zero,i.size,i.bytes))=some (some yg,11,120):=by kernel_rfl
theorem ak3:(Tryz.prog.info? 187).map (fun i=>(i.zero,i.size,i.bytes))=some (some (.pointer none),1,8):=by kernel_rfl
theorem addr_add(k o j:Nat):(⟨k,o,none⟩:Addr).add j=⟨k,o+j,none⟩:=by unfold Addr.add;split<;>simp_all
theorem ak4(Z:bTo)(iR wS op m cp:Nat)(Ld:agv)(tQ:bTv)(iE:Z.heap[iR]?=some (.cells (madeCells yg.cells (m *11)) fb (0,0)))(h6:Z.heap[wS]?=some (.cells Ld fb (0,0)))(dp:(Ld.toList.drop op).take (m *11)=tQ)(aj:tQ.length=m *11)(Le:∀v∈tQ,v.oneCell'=true)(ty:aui):
  (Builtin.copy_ #[73,73] ty #[bG iR 0 m m,bG wS op m cp]).run Tryz.prog Z=.ok (goInt m) (Z.setRow iR tQ.toArray):=by
 have hh:(madeCells yg.cells (m *11)).toList.length=m *11:=by simp[madeCells]
 have h:=akV (P:=Tryz.prog) Z 73 73 ty 80 iR 0 m m (ag wS op) m cp 11 _ fb tQ T8 (by kernel_rfl) iE (by rw[aj,show Nat.min m m=m from OM m]) (fun j v aS=>by
  rw[addr_add];refine cell_of h6 ?_;rw[←dp,ti] at aS;split at aS
  ·rw[AF] at aS;simpa using aS
  ·cases aS) (by rw[lk,aj];simp[madeCells]) Le
 rw[h,show Nat.min m m=m from OM m,Pf,J8,n7 (by rw[lk,aj,hh];exact bD _),List.append_nil]
theorem aai(S:Jp)(b:dL)(s:bh)(Pe:Full ⟨b,s⟩)(hZ:s.count≤100000000)(pl:aya)(cl:Nat)(pp:aya)(cp:Nat)(w:bTo)(H:J (dY S w pl cl pp cp ⟨b,s⟩)):
  Calls Tryz.prog 53 #[j0 b (ad pl b.l.length cl) (ad pp s.len cp)] w fun e w'=>∃ql dl qp cL,e=bb (j0 b (ad ql b.l.length dl) (ad qp s.len cL))∧dY (fun k=>w.heap.size≤k) w' ql dl qp cL ⟨b,s⟩∧av w w w':=by
 have aE:=U Pe;obtain⟨n0,l8⟩:=az b.l.length;obtain⟨m0,sc⟩:=az s.len;obtain⟨N,iE⟩:=az s.count;have aaj:=U l8;have sB:=U sc;have a1:=U iE;have Pg:=U hZ;have kQ:J (∀Z,av w w Z→Calls Tryz.prog 79 #[.agg #[I b.k,I b.a.1,I b.a.2,I b.b.1,I b.b.2,I b.c.1,I b.c.2,I b.r,ad pl n0 cl,ad pp m0 cp]] Z fun e w'=>e=bb (I ((N+1:Nat):Int))∧av Z Z w'):=by intro Z eU;rw[←sc,←iE];exact K' S b s hZ pl n0 cl pp cp Z (U (H.out.p.below eU))
 rw[iE] at hZ;show Calls _ _ #[.agg #[I b.k,I b.a.1,I b.a.2,I b.b.1,I b.b.2,I b.c.1,I b.c.2,I b.r,ad pl b.l.length cl,ad pp s.len cp]] w _;rw[l8,sc];obtain⟨z,bx⟩:∃z:Int,((N+1:Nat):Int)=z:=⟨_,rfl⟩;rw[bx] at kQ;have awe:¬z > 2147483647:=by omega
 clear Pe l8 sc iE bx hZ;go_enter Tryz.func53,Tryz.ntmps53;go_upto_region 2 with fail;obtain⟨W,a6⟩:=az ((w.alloc (aD (#[I b.k,I b.a.1,I b.a.2,I b.b.1,I b.b.2,I b.c.1,I b.c.2,I b.r,ad pl n0 cl,ad pp m0 cp]) dh)).alloc Pc);have H1:J (bo W w.heap.size (#[I b.k,I b.a.1,I b.a.2,I b.b.1,I b.b.2,I b.c.1,I b.c.2,I b.r,ad pl n0 cl,ad pp m0 cp]) dh):=by show _=_;rw[←a6];exact aO (cw _ _) (ba _ _)
 have b9:J (W.heap[w.heap.size+1]?=some Pc):=by show _=_;rw[←a6];exact ry _ _ _
 have aH:J (av w w W):=by show Below _ _ _;rw[←a6];exact k5 _ _ _
 have aak:(w.alloc (aD (#[I b.k,I b.a.1,I b.a.2,I b.b.1,I b.b.2,I b.c.1,I b.c.2,I b.r,ad pl n0 cl,ad pp m0 cp]) dh)).alloc (.cells #[I 0,I 0,I 0,I 0,I 0,I 0,I 0,I 0,ay 0,ay 0] dh)=W:=a6;rw[aak];clear a6 aak;obtain⟨g0,g1,g2,g3,g4,g5,g6,g7,g8,g9⟩:=en H1.out;go_wp2_with fail;go_fit (kQ.out _ aH.out);rintro e bQ ⟨rfl,af⟩;have aal:=U (aO H1.out af);have aam:=U (aO b9.out af);have Ph:J (av w w bQ):=aH.out.trans (af.mono aH.out.size);clear g0 g1 g2 g3 g4 g5 g6 g7 g8 g9 af H1 b9 aH;go_wp2_with fail
 have lq:J (yf S w ⟨w.heap.size,0,b,s⟩ [⟨w.heap.size,0,b,s⟩] (bG bQ.heap.size 0 1 1) (bQ.alloc (aD (#[.pointer (some (ag w.heap.size 0))]) oW))):=by
  refine⟨Ph.out.alloc Ph.out.size _,World.ownsRow_lit (base:=w.heap.size) (e:=oW) (size:=1) bQ #[dv w.heap.size 0] 1 Ph.out.size (by decide) rfl,fun d hd=>?_,fun d hd=>?_,fun d hd=>?_,List.pairwise_singleton _ _,aO aam.out (ba _ _),fun HS _ hd=>hd _ (by simp)⟩
  ·obtain rfl:d=⟨w.heap.size,0,b,s⟩:=(by simpa using hd);exact⟨_,_,pl,cl,pp,cp,aO aal.out (ba _ _),.inl rfl,by rw[aaj.out,sB.out];rfl,H.out⟩
  ·obtain rfl:d=⟨w.heap.size,0,b,s⟩:=(by simpa using hd);exact⟨bD _,by show w.heap.size≠w.heap.size+1;omega⟩
  ·obtain rfl:d=⟨w.heap.size,0,b,s⟩:=(by simpa using hd);exact aE.out
 have Pj:J (k' [⟨w.heap.size,0,b,s⟩]≤N+1∧k' [⟨w.heap.size,0,b,s⟩]≤100000001):=by have aa:k' [⟨w.heap.size,0,b,s⟩]=s.count+1:=(by simp[k']);have ah:=Pg.out;have ax:=a1.out;show _∧_;omega
 generalize bQ.alloc (.cells #[dv w.heap.size 0] oW)=ct at lq⊢;generalize bQ.heap.size=T at lq⊢;clear aal aam Ph kQ
 go_loopg [4] (N+1) (fun gk sv wr=>∃(ps:List mj) (aG:bTo),aG=wr∧J (yf S w ⟨w.heap.size,0,b,s⟩ ps sv aG)∧J (k' ps≤gk∧k' ps≤100000001))
 case atStart=>exact⟨_,_,rfl,lq.out,Pj.out⟩
 case round=>
 obtain⟨ps,aG,rfl,bq,dF⟩:=hrel;rcases List.eq_nil_or_concat ps with rfl|⟨fg,d,rfl⟩
 ·obtain⟨p,c,rfl⟩:=ik bq.out.row;obtain⟨cs,t,ql,dl,qp,cL,aN,aR,cA⟩:=bq.out.fin;have qL:=U cA;have pE:=HU aR;have aJ:aw aG w.heap.size 0 (I b.k):=cell_of aN (by simpa using pE 0 (by decide));have aI:aw aG w.heap.size 1 (I b.a.1):=cell_of aN (by simpa using pE 1 (by decide));have c2:aw aG w.heap.size 2 (I b.a.2):=cell_of aN (by simpa using pE 2 (by decide));have c3:aw aG w.heap.size 3 (I b.b.1):=cell_of aN (by simpa using pE 3 (by decide));have bF:aw aG w.heap.size 4 (I b.b.2):=cell_of aN (by simpa using pE 4 (by decide));have c5:aw aG w.heap.size 5 (I b.c.1):=cell_of aN (by simpa using pE 5 (by decide));have b1:aw aG w.heap.size 6 (I b.c.2):=cell_of aN (by simpa using pE 6 (by decide));have b5:aw aG w.heap.size 7 (I b.r):=cell_of aN (by simpa using pE 7 (by decide));have bS:aw aG w.heap.size 8 (ad ql n0 dl):=(by rw[←aaj.out];exact cell_of aN (by simpa using pE 8 (by decide)));have bf:aw aG w.heap.size 9 (ad qp m0 cL):=(by rw[←sB.out];exact cell_of aN (by simpa using pE 9 (by decide)));obtain⟨u0,u1,u2,u3,u4,u5,u6,u7,u8,u9⟩:=en bq.out.res;have fu:=lu bq.out.res;have qP:=U bq.out.res;have vi:=U bq.out.aY;clear aN aR cA pE bq lq;go_wp2_with fail;have hO:=me [I b.k,I b.a.1,I b.a.2,I b.b.1,I b.b.2,I b.c.1,I b.c.2,I b.r,ad ql n0 dl,ad qp m0 cL] qP.out rfl;have af:=pt (m:=0) (b:=w.heap.size+1) (l4 _) [I b.k,I b.a.1,I b.a.2,I b.b.1,I b.b.2,I b.c.1,I b.c.2,I b.r,ad ql n0 dl,ad qp m0 cL] vi.out;have ab:=xT (S:=fun k=>w.heap.size≤k∧k≠w.heap.size+1) (b:=w.heap.size+1) (w:=aG) (m:=0) (fun h=>h.2 rfl) [I b.k,I b.a.1,I b.a.2,I b.b.1,I b.b.2,I b.c.1,I b.c.2,I b.r,ad ql n0 dl,ad qp m0 cL];exact dH (rq rfl _ _ (w.heap.size+1) _ _ _ _ rfl hO zR rfl (by kernel_rfl)) rfl ⟨ql,dl,qp,cL,rfl,(qL.out.keep ab).mono (fun k _ h=>h.1),af⟩
 ·rw[List.concat_eq_append] at bq dF;obtain⟨n,hn⟩:=az fg.length;have Pk:=U hn;have eh:=bq.out.row;rw[show (fg++[d]).length=n+1 by simp[hn],mh] at eh;obtain⟨g,cap,rfl⟩:=ownsRow_succ eh;have cJ:aw aG g n (.pointer (some (ag d.B d.o))):=(by rw[eh.cellAt n (by omega),zO (by simp[hn])];simp[hn]);have K2:=ZX eh;obtain⟨cs,Ff,Lf,Uc,aan,Pl,hd,Pd,fV,eF⟩:=bq.out.at_ d (by simp);have pE:=HU fV;have d8:aw aG d.B (d.o+8) (ad Lf d.b.l.length Uc):=cell_of hd (pE 8 (by decide));have oc:=cP hd;obtain⟨dK,kI⟩:=az d.b.l.length;have Lg:=U kI;rw[kI] at d8;obtain⟨dj,eY⟩:=az (n+1);have gw:=U eY;have oG:dj≤1000000000:=(by have aa:=aah (fg++[d]);have ah:k' (fg++[d])≤100000001:=dF.out.2;rw[gh,hn] at aa;simp only[fK,th] at aa;omega);rw[eY];rw[eY] at K2;have k6:bT ((dj:Int)-1)=(n:Int):=(by rw[b4 _ (by omega)];omega);have cW:(n:Int)<(dj:Int):=(by omega);have dz:n<dj:=(by omega);have Tk:(n:Int)≤(cap:Int):=(by omega);have akN:n≤cap:=(by omega);have akO:¬cap=0:=(by omega);have yc:(dj:Int)≤(cap:Int):=(by omega);have awf:decide ((dj:Int)> 0)=true:=eH (by omega);have cI:=U hd;have oX:=U fV;have aao:=U Pd;have pw:=U eF;clear eh hn eY K2 hd fV pE Pd eF kI;go_wp2_with fail;go_fit (akv S Lf d.b.l (by have h:=bq.out.full d (by simp);unfold Full at h;exact h.1) dK Uc Lg.out.symm _ (U (pw.out.l.below bq.out.aY)));rintro e V ⟨q,dl,rfl,ve,aap,af⟩;have vj:=U af;have aaq:=U ve;have Fg:J (g≠d.B):=by obtain⟨_,cur,gv⟩:=wP bq.out.row;have aa:=cI.out;intro e;rw[e,aa] at gv;injection gv with gv;injection gv with _ bH;rcases aao.out with ah|ah<;>(rw[ah] at bH;exact absurd bH (by decide))
  have ak5:J (V.ownsRow w.heap.size oW 1 (bG g 0 n cap) n (fg.map sA)):=(by have aa:=bq.out.row;rw[show (fg++[d]).length=n+1 by simp[Pk.out],mh] at aa;exact fE (ownsRow_pop (xs:=fg.map sA) (last:=[d].map sA) (by simp[Pk.out]) aa) af);have ak6:J (iF (fun k=>aG.heap.size≤k∧k<V.heap.size) V q d.b.l):=aap.mono fun k ab h=>⟨h,ab⟩;have Bp:=U (aO cI.out af);have pE:=HU oX.out;obtain⟨m1,kZ⟩:=az d.s.len;have lx:=U kZ;have aar:d.o+9<cs.size:=(Array.getElem?_eq_some_iff.1 (pE 9 (by decide))).1;have rE:=U aar;clear af ve aap d8 oc cJ;have d8:aw V d.B (d.o+8) (ad Lf d.b.l.length Uc):=cell_of Bp.out (pE 8 (by decide));have d9:aw V d.B (d.o+9) (ad aan m1 Pl):=(by rw[←kZ];exact cell_of Bp.out (pE 9 (by decide)));have oc:=cP Bp.out;have aas:=lt_of_heap Bp.out;have aat:∀u,(V.setCell (ag d.B (d.o+8)) u).cell? ⟨d.B,d.o+9,none⟩=some (ad aan m1 Pl):=fun u=>TT Bp.out (by omega) d9;have aau:∀u j,(V.setCell (ag d.B (d.o+8)) u).frozen? ⟨d.B,j,none⟩=false:=fun u j=>cP (c4 u Bp.out) j;clear pE kZ aar;have jE:J ((V.setCell (ag d.B (d.o+8)) (ad q dK dl)).heap[d.B]?=some (.cells (cs.setIfInBounds (d.o+8) (ad q dK dl)) Ff (0,0))):=c4 _ Bp.out;have Pm:J (iQ [d] aG (V.setCell (ag d.B (d.o+8)) (ad q dK dl))):=(iQ.dM (ps:=[d]) vj.out).trans (iQ.set (ps:=[d]) (ad q dK dl) ⟨d,by simp,rfl,.inl rfl⟩) fun _ _ _ h=>h;have Lh:J (av w w (V.setCell (ag d.B (d.o+8)) (ad q dK dl))):=(bq.out.aY.trans (vj.out.mono bq.out.aY.size)).setCell (bq.out.low d (by simp)).1 _;have Pn:J (iF (fun k=>aG.heap.size≤k∧k<V.heap.size) (V.setCell (ag d.B (d.o+8)) (ad q dK dl)) q d.b.l):=(by have aj:=lt_of_heap cI.out;exact ak6.out.keep (aL.set (a:=⟨d.B,d.o+8,none⟩) (fun h=>nz _ (jl aj h.1)) _));have Po:J ((V.setCell (ag d.B (d.o+8)) (ad q dK dl)).ownsRow w.heap.size oW 1 (bG g 0 n cap) n (fg.map sA)):=T9 ak5.out (fun e=>Fg.out (by simpa[Value.ownBlock] using e)) _;have k7:(V.setCell (ag d.B (d.o+8)) (ad q dK dl)).heap.size=V.heap.size:=(by simp[World.setCell]);have js:=U k7;clear k7;go_upto_region 9 with fail;have Bq:=aat (ad q dK dl);have f9:=aau (ad q dK dl);clear d8 d9 oc aat aau;generalize V.setCell (ag d.B (d.o+8)) (ad q dK dl)=X at Bq f9 jE Pm Lh Pn js Po⊢;have aas:=lt_of_heap jE.out;have aav:∀f∈fg,O9 f d:=fun f hf=>(List.pairwise_append.1 bq.out.ap).2.2 f hf d (by simp);have aaw:=U aav;have aax:Ff≠oW:=by rcases aao.out with rfl|rfl<;>decide
  have sC:=U aax;clear aav aax;by_cases aQ:m1=0
  ·subst aQ
   have sz:J (yf S w ⟨w.heap.size,0,b,s⟩ (fg++kids (X.heap.size+1) 0 d.s) (bG g 0 n cap) (X.setCell (ag d.B (d.o+9)) (ay 0))):=by
    have Fh:iQ [d] aG (X.setCell (ag d.B (d.o+9)) (ay 0)):=Pm.out.trans (iQ.set (ps:=[d]) (ay 0) ⟨d,by simp,rfl,.inr rfl⟩) fun _ _ _ h=>h;have nR:(kids (X.heap.size+1) 0 d.s)=[]:=qz (by rw[La,lx.out]);have aj:=lt_of_heap cI.out;refine yf.next (ql:=q) (pn:=none) (dl:=dl) (cn:=0) (csN:= #[]) (R1:=fun k=>aG.heap.size≤k∧k<V.heap.size) bq.out (Fh.mono (fun e he=>by simp at he;simp[he])) (Lh.out.setCell (bq.out.low d (by simp)).1 _) ?_ (fun e he=>(bq.out.at_ e (by simp[he])).fr Fh (aaw.out e he)) ?_ (c4 _ jE.out) sC.out ?_ ?_ (fun k ab=>?_) ?_ (by rw[lx.out];exact bD _) (by rw[lx.out];exact eC _) ?_ (fun h=>by rw[lx.out] at h;exact absurd h (nz _))
    ·rw[nR,List.append_nil,Pk.out];exact T9 Po.out (fun e=>Fg.out (by simpa[Value.ownBlock] using e)) _
    ·exact (Fh.get bq.out.res (by decide) (fun e he=>by simp at he;subst he;exact (bq.out.low e (by simp)).2))
    ·have h:=aag (u8:=ad q dK dl) (u9:=ay 0) oX.out;rw[Lg.out,lx.out];exact h
    ·exact Pn.out.keep (aL.set (a:=⟨d.B,d.o+9,none⟩) (fun h=>nz _ (jl aj h.1)) _)
    ·have aa:=bq.out.aY.size;have ah:=lt_of_heap bq.out.res;have ax:=js.out;refine⟨⟨by have:=ab.1;omega,by have:=ab.1;omega⟩,by have:=ab.2;omega,fun e he bg=>?_⟩;obtain⟨_,_,_,_,_,_,b7,_⟩:=bq.out.at_ e (by simp[he]);have:=lt_of_heap b7;have:=ab.1;omega
    ·rw[Lg.out];exact aaq.out
    ·have ax:=js.out;have bg:=vj.out.size;omega
   have lC:J (k' (fg++kids (X.heap.size+1) 0 d.s)+1≤gk∧k' (fg++kids (X.heap.size+1) 0 d.s)≤100000001):=(by have aa:=dF.out;rw[aad] at aa;show _∧_;rw[aae,Ub];omega);generalize kids (X.heap.size+1) 0 d.s=K at sz lC;go_wp2_with fail
   go_roundg (gk-1)<;>first
    |exact⟨_,_,rfl,sz.out,(by have h:=lC.out;omega:k' (fg++K)≤gk-1∧k' (fg++K)≤100000001)⟩
    |(have h:=lC.out;omega)
  ·have kZ:((m1:Int)==0)=false:=(by rw[kO];omega);have iJ:(0:Int)<(m1:Int):=(by omega);have aay:0<m1:=(by omega);have oU:m1≤1000000000:=(by rw[←lx.out];exact pw.out.p.1);obtain⟨wS,op,Ld,rfl,_,aaz,aaA⟩:=pw.out.p.2 (by show 0<d.s.len;rw[lx.out];exact aay);have ak7:=U aaz;have N6:=U aaA;clear aaz aaA;go_upto_region 11 with fail;go_region;have Pp:av X X ((X.alloc (aD (#[.pointer (some (ag wS op)),I (m1:Int)]) 192)).drew):=(ba _ _).drew;have C8:=bM Pp Bq;have g9:∀j,(X.alloc (aD (#[.pointer (some (ag wS op)),I (m1:Int)]) 192)).drew.frozen? ⟨d.B,j,none⟩=false:=cP (aO jE.out Pp);obtain⟨s0,s1,_,_⟩:=Es (show (X.alloc (aD (#[.pointer (some (ag wS op)),I (m1:Int)]) 192)).drew.heap[X.heap.size]?=some (.cells #[dv wS op,I (m1:Int)] 192) from cw X _);have kL:=U Pp;clear Bq f9 Pp;generalize (X.alloc (aD (#[.pointer (some (ag wS op)),I (m1:Int)]) 192)).drew=Y at C8 g9 s0 s1 kL⊢;have zT:=U (aO jE.out kL.out);have aaB:J (iQ [d] aG Y):=Pm.out.trans (iQ.dM (ps:=[d]) kL.out) fun _ _ _ h=>h;have Ud:J (av w w Y):=Lh.out.trans (kL.out.mono Lh.out.size);have aaC:=U (Pn.out.below kL.out);have aaD:=U (fE Po.out kL.out);have la:=ak1 (wS,op,m1) Y;have C9:J (V.heap.size≤Y.heap.size):=(by have aa:=js.out;have ah:=kL.out.size;show _≤_;omega);clear jE Pm Lh Pn Po;have uF:=Ha (P:=Tryz.prog) 73 80 yg 11 120 T8 ak2 m1 (by omega) (by omega);go_upto_region 15 with fail;have Pq:av Y Y (Y.alloc (aD (madeCells yg.cells (m1 *11)) fb)):=ba _ _;have sn:J ((Y.alloc (aD (madeCells yg.cells (m1 *11)) fb)).heap[Y.heap.size]?=some (.cells (madeCells yg.cells (m1 *11)) fb)):=cw _ _;have z9:=bM Pq C8;have wT:∀j,(Y.alloc (aD (madeCells yg.cells (m1 *11)) fb)).frozen? ⟨d.B,j,none⟩=false:=cP (aO zT.out Pq);have Fi:=U Pq;clear C8 g9 s0 s1 Pq la uF;change Code.wp _ _ _ _ (Y.alloc (aD (madeCells yg.cells (m1 *11)) fb));have Ue:J ((Y.alloc (aD (madeCells yg.cells (m1 *11)) fb)).heap.size=Y.heap.size+1):=xE _ _;generalize Y.alloc (.cells (madeCells yg.cells (m1 *11)) fb)=Z at z9 wT sn Fi Ue⊢;have aaE:=U (aO zT.out Fi.out);have Uf:J (iQ [d] aG Z):=aaB.out.trans (iQ.dM (ps:=[d]) Fi.out) fun _ _ _ h=>h;have Pr:J (av w w Z):=Ud.out.trans (Fi.out.mono Ud.out.size);have aaF:=U (aaC.out.below Fi.out);have Ug:=U (fE aaD.out Fi.out);obtain⟨iR,aaG⟩:=az Y.heap.size;rw[aaG] at sn Ue C9⊢;clear zT aaB Ud aaC aaD Fi aaG;obtain⟨tQ,Li⟩:=az ((Ld.toList.drop op).take (m1 *11));obtain⟨Uh,Le⟩:=N6.out.long;rw[lx.out,Li] at Le;rw[lx.out] at Uh;have Ui:tQ.length=m1 *11:=(by rw[←Li,mf,EB Uh]);have Ps:=Pr.out;have ak8:=ak4 Z iR wS op m1 Pl Ld tQ sn.out (aO ak7.out Ps) Li Ui Le;have ak9:=U Ui;have ala:=U Li;clear Li Uh Le Ui Ps;go_upto_region 16 with fail;have kW:J (aL (fun k=>k≠iR) Z (Z.setRow iR tQ.toArray)):=⟨rfl,rfl,rfl,by simp[World.setRow],fun k ab _=>setRow_other Z iR k _ ab⟩;have sD:J ((Z.setRow iR tQ.toArray).heap[iR]?=some (.cells tQ.toArray fb)):=setRow_heap Z iR _ _ fb (0,0) sn.out;clear ak8 z9 wT;generalize Z.setRow iR tQ.toArray=wU at kW sD⊢;have Fj:d.B≠iR:=(by intro e;have aa:=lt_of_heap cI.out;have ah:=C9.out;have ax:=vj.out.size;omega);have l':=U (kW.out.get Fj aaE.out);have alb:J (iQ [d] aG wU):=(by refine⟨dX Uf.out.size kW.out.size,fun k cs t aF bH=>?_⟩;obtain⟨kM,aa,ah,ax⟩:=Uf.out.cells k cs t aF bH;have bg:=lt_of_heap aF;have b7:=C9.out;have c0:=vj.out.size;exact⟨kM,kW.out.get (by omega) aa,ah,ax⟩);have Uj:J (av w w wU):=Pr.out.trans (kW.out.below _ Pr.out.size fun k ab=>by have aa:=C9.out;have ah:=vj.out.size;have ax:=bq.out.aY.size;omega);have alc:J (iF (fun k=>aG.heap.size≤k∧k<V.heap.size) wU q d.b.l):=aaF.out.keep (kW.out.mono fun k _ h=>by have aa:=C9.out;have:=h.2;omega);have Lj:J (wU.ownsRow w.heap.size oW 1 (bG g 0 n cap) n (fg.map sA)):=(TQ Ug.out kW.out fun k e aR=>by obtain⟨_,cur,gv⟩:=wP Ug.out;have:g=k:=(by simpa[Value.ownBlock] using e);rw[this,aR,sn.out] at gv;injection gv with gv;injection gv with _ bH;exact absurd bH (by decide));have awg:J (iR<wU.heap.size):=lt_of_heap sD.out;clear aaE Uf Pr aaF Ug kW sn Ue Fj;have ald:(binOp .neq 185 (.map none) (.map none)).run Tryz.prog wU=.ok (ai false) wU:=(by have h:=run_equal_map_nil (P:=Tryz.prog) wU _ _ _ none Tryz.underlying185;simp only[binOp];simp[h,Result.andThen]);go_wp2_with fail;obtain⟨iN,hi,cU,yd,ye⟩:=info_parts ak3;have bY:=U (And.intro hi (And.intro cU (And.intro yd ye)));clear hi cU yd ye ald
   go_loopw [4,84] (fun sv i wr=>∃(j:Nat) (s2:ada) (sE:bTo),sE=wr∧s2=sv∧j≤m1∧i=I j∧J (sE.ownsRow w.heap.size oW 1 s2 (n+j) (fg.map sA++((kids iR 0 d.s).take j).map sA))∧J (aL (fun k=>k≠g) wU sE)∧J (∀k,s2.ownBlock=some k→k=g∨wU.heap.size≤k)) (fun _ i _=>m1 -(intOf i).toNat)
   case atStart=>exact⟨0,_,_,rfl,rfl,eC _,rfl,(by show World.ownsRow _ _ _ _ _ _ _;rw[Pf,zI,List.append_nil];exact Lj.out),aL.refl _ _,(fun k e=>.inl (by simpa[Value.ownBlock] using e.symm))⟩
   case round=>
   obtain⟨j,s2,sE,rfl,rfl,cB,rfl,Pt,C',Fk⟩:=hrel;by_cases b0:j<m1
   ·have ib:(j:Int)<(m1:Int):=(by omega);obtain⟨aaH,c2,rfl⟩:=ik Pt.out;have ajF:bT ((j:Int)+1)=(j:Int)+1:=b4 _ (by omega);have awh:=Uj.out.size;have aaI:=C'.out.size;have hP:J ((sE.alloc (aD (#[.pointer (some (ag iR (j *11+1)))]) oW)).ownsRow w.heap.size oW 1 (ad aaH (n+j) c2) (n+j) (fg.map sA++((kids iR 0 d.s).take j).map sA)):=Pt.out.alloc _;go_wp2_with (at_builtin;refine zE _ rfl _ _ _ rfl w.heap.size oW iN (.pointer none) 1 8 Tryz.underlying188 bY.out.1 bY.out.2.1 bY.out.2.2.1 bY.out.2.2.2 rfl (by omega) (ad aaH (n+j) c2) (n+j) _ (by rfl) hP.out (ag sE.heap.size 0) 1 1 [dv iR (j *11+1)] (by rfl) (by rfl) (jW (cs:= #[.pointer (some (ag iR (j *11+1)))]) (t:=oW) (fr:=(0,0)) (gi sE _)) (by simp[Value.oneCell']) (by omega) (by unfold maxLen;omega) (by omega) (by simp;omega) (sE.heap.size+1) (by simp) ?_;intro gg il bt cM dW e0 h5);have Br:j<(kids iR 0 d.s).length:=(by rw[La,lx.out];exact b0);obtain⟨e,he⟩:=az ((kids iR 0 d.s)[j]);have aaJ:sA e=.pointer (some (ag iR (j *11+1))):=(by have h:=aaf (N:=iR) (s:=d.s) (m:=0) (j:=j) (e:=e) (by rw[jH Br,he]);rw[h,lk]);have lN:J (bt.ownsRow w.heap.size oW 1 (bG gg 0 (n+j+1) il) (n+(j+1)) (fg.map sA++((kids iR 0 d.s).take (j+1)).map sA)):=by show World.ownsRow _ _ _ _ _ _ _;rw[x4 Br,he,mh,←List.append_assoc,r4,zI,aaJ,←y'];exact cM
    have kq:J (aL (fun k=>k≠g) wU bt):=by
     have aa:=C'.out;refine⟨dW.os.trans aa.os,dW.tape.trans aa.tape,dW.output.trans aa.output,dX aaI (dX (by simp) dW.size),fun k ab aj=>?_⟩;have ah:k<sE.heap.size:=jl aj aaI;refine (dW.block k (by simp;omega) fun aR=>?_).trans ((Bo _ _ _ ah).trans (aa.block k ab aj));rcases Fk.out k aR.symm with ax|ax
     ·exact ab ax
     ·omega
    have Fl:J (∀k,(Value.slice (some (ag gg 0)) (n+j+1) il).ownBlock=some k→k=g∨wU.heap.size≤k):=by
     intro k aR;have cA:gg=k:=(by simpa[Value.ownBlock] using aR);rcases e0 with ax|ax
     ·rw[cA] at ax;exact Fk.out k ax
     ·rw[←cA];omega
    clear cM dW e0 h5 Br he aaJ;all_goals (go_round<;>first|exact⟨j+1,_,_,rfl,rfl,by omega,by go_num,lN.out,kq.out,Fl.out⟩|(simp[intOf]<;>omega))
   ·obtain rfl:j=m1:=(by omega);have aaK:d.B≠g:=fun e=>Fg.out e.symm;have kK:=U (C'.out.get aaK l'.out);have ale:=U (C'.out.get (fun e=>by obtain⟨_,cur,gv⟩:=wP Lj.out;rw[←e,sD.out] at gv;injection gv with gv;injection gv with _ bH;exact absurd bH (by decide):iR≠g) sD.out);have alf:J (iQ [d] aG sE):=alb.out.trans (iQ.akT (ps:=[d]) (T:=fun k=>k=g) C'.out (fun k cs t ab aF=>by obtain⟨_,cur,gv⟩:=wP Lj.out;rw[ab,gv] at aF;injection aF with aF;injection aF with _ bH;exact bH.symm)) fun _ _ _ h=>h;have alg:J (av w w sE):=Uj.out.trans (C'.out.below _ Uj.out.size fun k ab e=>by have:=(wP Lj.out).1;omega);have alh:J (iF (fun k=>aG.heap.size≤k∧k<V.heap.size) sE q d.b.l):=alc.out.keep (C'.out.mono fun k _ h e=>by have aa:=(wP Lj.out);have ah:=bq.out.row;obtain⟨_,cur,gv⟩:=wP ah;have:=lt_of_heap gv;have:=h.1;omega);have z9:aw sE d.B (d.o+9) (ad (some (ag wS op)) j Pl):=(by refine cell_of kK.out ?_;have h:=HU oX.out 9 (by decide);rw[zH,aK (by omega)];rw[lx.out] at h;exact h);have wT:=cP kK.out;have aas:=lt_of_heap kK.out
    have sz:J (yf S w ⟨w.heap.size,0,b,s⟩ (fg++kids iR 0 d.s) s2 (sE.setCell (ag d.B (d.o+9)) (bG iR 0 j j))):=by
     have Fh:iQ [d] aG (sE.setCell (ag d.B (d.o+9)) (bG iR 0 j j)):=alf.out.trans (iQ.set (ps:=[d]) (bG iR 0 j j) ⟨d,by simp,rfl,.inr rfl⟩) fun _ _ _ h=>h;have aj:=lt_of_heap cI.out;have ko:(kids iR 0 d.s).length=j:=(by rw[La,lx.out]);have Fj:d.B≠iR:=(by have ah:=C9.out;have ax:=vj.out.size;omega);refine yf.next (ql:=q) (pn:=some ⟨iR,0,none⟩) (dl:=dl) (cn:=j) (csN:=tQ.toArray) (R1:=fun k=>aG.heap.size≤k∧k<V.heap.size) bq.out (Fh.mono (fun e he=>by simp at he;simp[he])) (alg.out.setCell (bq.out.low d (by simp)).1 _) ?_ (fun e he=>(bq.out.at_ e (by simp[he])).fr Fh (aaw.out e he)) ?_ (c4 _ kK.out) sC.out ?_ ?_ (fun k ab=>?_) ?_ (by rw[lx.out];exact bD _) (by rw[lx.out];exact oU) ?_ (fun h=>⟨rfl,(jg (fN Fj)).trans ale.out,?_⟩)
     ·have h:=Pt.out;rw[←ko,uo,←mh] at h;rw[gh,Pk.out]
      exact T9 h (fun e=>by
       have aR:s2.ownBlock=some d.B:=e;rcases Fk.out _ aR with ax|ax
       ·exact aaK ax
       ·have bg:=lt_of_heap l'.out;exact absurd ax (Lc bg)) _
     ·exact (Fh.get bq.out.res (by decide) (fun e he=>by simp at he;subst he;exact (bq.out.low e (by simp)).2))
     ·have h:=aag (u8:=ad q dK dl) (u9:=ad (some (ag iR 0)) j j) oX.out;rw[Lg.out,lx.out];exact h
     ·exact alh.out.keep (aL.set (a:=⟨d.B,d.o+9,none⟩) (fun h=>nz _ (jl aj h.1)) _)
     ·have aa:=bq.out.aY.size;have ah:=lt_of_heap bq.out.res;have ax:=C9.out;refine⟨⟨by have:=ab.1;omega,by have:=ab.1;omega⟩,by have:=ab.2;omega,fun e he bg=>?_⟩;obtain⟨_,_,_,_,_,_,b7,_⟩:=bq.out.at_ e (by simp[he]);have:=lt_of_heap b7;have:=ab.1;omega
     ·rw[Lg.out];exact aaq.out
     ·have ax:=C9.out;have bg:=vj.out.size;omega
     ·refine dS.congr N6.out ?_;rw[lx.out,ala.out];show _=List.take _ tQ;rw[zS (by rw[ak9.out];exact bD _)]
    have lC:J (k' (fg++kids iR 0 d.s)+1≤gk∧k' (fg++kids iR 0 d.s)≤100000001):=(by have aa:=dF.out;rw[aad] at aa;show _∧_;rw[aae,Ub];omega);generalize kids iR 0 d.s=K at sz lC;clear Pt C' Fk;go_wp2_with fail
    go_roundg (gk-1)<;>first
     |exact⟨_,_,rfl,sz.out,(by have h:=lC.out;omega:k' (fg++K)≤gk-1∧k' (fg++K)≤100000001)⟩
     |(have h:=lC.out;omega)
end dE
