/- Lemmas. -/
import Derived.Test.YtkaiaijcieaofaaGreatDoorQ37
import Derived.Deep.RegionWith
set_option linter.all false
set_option maxRecDepth 100000
set_option maxHeartbeats 25600000
namespace Go.Proofs.YtkaiaijcieaofaaGreatDoor
abbrev z7:=@ByteArray.size_append
namespace c1
open Go.RowKit ef Gb
open mI (mN hY)
theorem as2(b:Nat)(MW:ada)(v:ajv)(w:aeo)(ay:al w b v lk)(ax:v[2]?=some (.int .u32 1)):Calls Tryz.prog 15 #[ah b 2,MW] w fun e w'=>e=ab (.tuple #[])∧w=w':=by have MU:∀(x:Bool) (w:aeo),(Op.unary .not (U x)).run Tryz.prog w=.ok (U (!x)) w:=fun _ _=>rfl;have c2:=cell_of (i:=2) ay ax;go_enter QZ,Q0;go_wp2_with (go_at_call 33;refine (Je (aj b 2) 1 true rfl _ c2).mono ?_;rintro e w' ⟨rfl,rfl⟩);go_end0;exact⟨rfl,rfl⟩
theorem afY(b:Nat)(S:Ua)(fL:S.size≤900000)(bo:Int)(rM:-9223372036854775808≤bo∧bo≤9223372036854775807)(w:aeo)(hg:mN w)(ay:al w b (mh S bo 0 0 0 (J 0) 0 0) lk):
  Calls Tryz.prog 9 #[ah b 0] w fun e w'=>∃(x:aeo) (bq:List dq) (i f:Nat) (ep:Ja) (dU:Nat) (R:afp) (q:Ja) (d:Nat),e=ab (.tuple #[ad q bq.length d,I (i:Int),I (f:Int)])∧af (z6 S bo b bq i f ep dU R x)∧af ((∀k,R k→w.heap.size≤k)∧(S=hY→i=3∧f=11))∧af (aK (fun k=>k≠b) w x)∧af (an x x w')∧af (iA (fun k=>x.heap.size≤k) w' q bq):=by
 have sU:=lt_of_heap ay;have mA:(w.alloc (ai (#[.pointer (some (aj b 0))]) 26)).heap.size=w.heap.size+1:=l' _;refine afX b S bo w sU (fun bq i f ep dU R x=>(∀k,R k→w.heap.size≤k)∧(S=hY→i=3∧f=11)) ?_;refine (as0 b w.heap.size (by omega) S fL bo rM _ (hg.below (bh _ _)) (cR _ _) (ba ay (bh _ _))).mono ?_;rintro e x ⟨he,bq,i,f,q,d,au,ax,aA,bb,bj⟩;exact⟨he,bq,i,f,q,d,_,⟨au,ax,bb.out.1,bb.out.2⟩,⟨fun k aw=>by have b8:_≤k:=aw;rw[mA] at b8;omega,bj.out⟩,aA⟩
theorem afZ(b:Nat)(S:Ua)(bo:Int)(bq:List dq)(i f:Nat)(ep:Ja)(dU:Nat)(R:afp)(w:aeo)(H:z6 S bo b bq i f ep dU R w):
  Calls Tryz.prog 9 #[ah b 0] w fun e w'=>∃q d,e=ab (.tuple #[ad q bq.length d,I (i:Int),I (f:Int)])∧af (an w w w')∧af (iA (fun k=>w.heap.size≤k) w' q bq):=by
 have sU:=lt_of_heap H.1;have cj:=bh w (ai (#[.pointer (some (aj b 0))]) 26);refine (afX b S bo w sU (fun af0 af1 f' as3 as4 rL x=>af0=bq∧af1=i∧f'=f∧an w w x) ?_).mono ?_
 ·refine (as2 b _ _ _ (ba H.1 cj) rfl).mono ?_;rintro e x ⟨he,rfl⟩;exact⟨he,bq,i,f,ep,dU,R,⟨ba H.1 cj,H.2.1.below cj,H.2.2⟩,⟨rfl,rfl,rfl,cj⟩,aK.refl _ _⟩
 ·rintro e w' ⟨x,af0,af1,f',as3,as4,rL,q,d,he,_,ax,_,bb,bj⟩;obtain⟨rfl,rfl,rfl,pL⟩:=ax.out;exact⟨q,d,he,pL.trans (bb.out.mono pL.size),bj.out.mono fun k _ aw=>cd pL.size aw⟩
theorem as5(S R:afp)(p q:Ja)(l:List (List b7))(n c d:Nat)(hn:n=l.length)(w:aeo)(H:af (iS S w p l))(K:af (iS R w q l)):
  Calls Tryz.prog 42 #[ad p n c,ad q n d] w fun e w'=>e=ab (U true)∧an w w w':=by
 have bd:=ao hn;have pv:n≤1000000000:=by rw[hn];exact H.out.1
 clear hn;go_enter Tryz.func42,Tryz.ntmps42;go_wp2_with fail
 go_loopw [5] (fun i wr=>∃(j:Nat) (aL:aeo),aL=wr∧j≤n∧i=I j∧af (an w w aL)) (fun i _=>n -(intOf i).toNat)
 case atStart=>exact⟨0,_,rfl,cO _,rfl,Below.refl _ _⟩
 case round=>
 obtain⟨j,aL,rfl,b6,rfl,aH⟩:=hrel;by_cases bm:j<n
 ·have gD:j<l.length:=(by rw[←bd.out];exact bm);have fD:(j:Int)<(n:Int):=(by omega);have qG:(0:Int)≤(j:Int):=(by omega);obtain⟨r,hr⟩:=aq (l[j]);obtain⟨cw,ek,bI,aT,rfl,oW,_,qA⟩:=H.out.at gD hr;obtain⟨bl,bV,bJ,c2,rfl,tK,_,oc⟩:=K.out.at gD hr;obtain⟨m,hm⟩:=aq r.length;rw[hm] at oW tK;have bN:=ao hm;have qI:=ao qA;have kb:=ao oc;have mC:m≤1000000000:=(by rw[←hm];exact qA.1);have kr:=ao oW;have kQ:=ao tK;have d1:=bD aH.out oW;have d2:=bD aH.out tK;clear hr hm oW tK qA oc;go_upto_region 6 with fail
  go_quiet (fail)
  have W3:=ao (iu aH.out nq);clear d1 d2 aH;generalize aL.drewN nq=d' at W3⊢;go_wp2_with fail
  go_loopw [6] (fun i wr=>∃(k:Nat) (cq:aeo),cq=wr∧k≤m∧i=I k∧af (an w w cq)) (fun i _=>m -(intOf i).toNat)
  case atStart=>exact⟨0,_,rfl,cO _,rfl,W3.out⟩
  case round=>
  obtain⟨k,cq,rfl,aw,rfl,cK⟩:=hrel;clear W3;have d1:=bD cK.out kr.out;have d2:=bD cK.out kQ.out;by_cases jZ:k<m
  ·have af2:k<r.length:=(by rw[bN.out];exact jZ);have as6:(k:Int)<(m:Int):=(by omega);have jY:(0:Int)≤(k:Int):=(by omega);obtain⟨ew,u1,rfl,aY,a6⟩:=qI.out.at af2 rfl;obtain⟨a2,u2,rfl,cV,iI⟩:=kb.out.at af2 rfl;obtain⟨x,hx⟩:=aq (r[k].1);obtain⟨y,hy⟩:=aq (r[k].2);rw[hx] at aY cV;rw[hy] at a6 iI;have f1:=bD cK.out aY;have f2:=bD cK.out a6;have f3:=bD cK.out cV;have f4:=bD cK.out iI;clear aY a6 cV iI hx hy;go_upto_region 11 with fail
   go_quiet (fail)
   have af3:=ao (iu cK.out nq);clear d1 d2 f1 f2 f3 f4 cK;generalize cq.drewN nq=nI at af3⊢;go_wp2_with fail;go_round<;>first|exact⟨k+1,_,rfl,by omega,by go_num,af3.out⟩|(simp[intOf]<;>omega)
  ·have as6:¬(k:Int)<(m:Int):=(by omega);go_wp2_with fail;go_round<;>first|exact⟨j+1,_,rfl,by omega,by go_num,cK.out⟩|(simp[intOf]<;>omega)
 ·have fD:¬(j:Int)<(n:Int):=(by omega);go_wp2_with fail;go_ret;exact⟨rfl,aH.out⟩
abbrev Q6(DB DC ea eS fo fQ:Nat)(v1 v2:ada)(a:Bool)(k a7 a' aX a8 cx bA r:Int)(uk um uo uq:ada)(x:aeo):Prop:=
 x.cell? ⟨DB,9,none⟩=some v1∧ak x DC 9 v2∧ak x ea eS (U a)∧ak x ea (eS+1) (I k)∧ak x ea (eS+2) (I a7)∧ak x ea (eS+3) (I a')∧ak x ea (eS+4) (I aX)∧ak x ea (eS+5) (I a8)∧ak x ea (eS+6) (I cx)∧ak x ea (eS+7) (I bA)∧ak x ea (eS+8) (I r)∧ak x ea (eS+9) uk∧ak x ea (eS+10) um∧ak x fo fQ (U a)∧ak x fo (fQ+1) (I k)∧ak x fo (fQ+2) (I a7)∧ak x fo (fQ+3) (I a')∧ak x fo (fQ+4) (I aX)∧ak x fo (fQ+5) (I a8)∧ak x fo (fQ+6) (I cx)∧ak x fo (fQ+7) (I bA)∧ak x fo (fQ+8) (I r)∧ak x fo (fQ+9) uo∧ak x fo (fQ+10) uq
variable{ea eS fo fQ:Nat}{x y:aeo}
theorem af4{DB DC:Nat}{v1 v2:ada}{a:Bool}{k a7 a' aX a8 cx bA r:Int}{uk um uo uq:ada}(h:an x x y)(H:Q6 DB DC ea eS fo fQ v1 v2 a k a7 a' aX a8 cx bA r uk um uo uq x):Q6 DB DC ea eS fo fQ v1 v2 a k a7 a' aX a8 cx bA r uk um uo uq y:=by obtain⟨aF,au,ax,aA,bb,bj,b8,cY,dM,e6,ly,ux,C1,kv,M1,M3,A9,Ga,M4,M5,Qk,W4,as7,as8⟩:=H;exact⟨bD h aF,bD h au,bD h ax,bD h aA,bD h bb,bD h bj,bD h b8,bD h cY,bD h dM,bD h e6,bD h ly,bD h ux,bD h C1,bD h kv,bD h M1,bD h M3,bD h A9,bD h Ga,bD h M4,bD h M5,bD h Qk,bD h W4,bD h as7,bD h as8⟩
def af5(N:Nat):Prop:=∀(s:bf) (b:dK) (S R:afp) (fx df bI bJ:Ja) (aT c2 aY a6:Nat) (w:aeo),s.count<N→af (dw S w fx aT bI aY ⟨b,s⟩)→af (dw R w df c2 bJ a6 ⟨b,s⟩)→Calls Tryz.prog 23 #[jc b (ad fx b.l.length aT) (ad bI s.len aY),jc b (ad df b.l.length c2) (ad bJ s.len a6)] w fun e w'=>e=ab (U true)∧an w w w'
theorem as9(N:Nat)(JD:af (af5 N))(s:bf)(b:dK)(S R:afp)(fx df bI bJ:Ja)(aT c2 aY a6:Nat)(w:aeo)(hs:s.count<N+1)(H:af (dw S w fx aT bI aY ⟨b,s⟩))(K:af (dw R w df c2 bJ a6 ⟨b,s⟩)):
  Calls Tryz.prog 23 #[jc b (ad fx b.l.length aT) (ad bI s.len aY),jc b (ad df b.l.length c2) (ad bJ s.len a6)] w fun e w'=>e=ab (U true)∧an w w w':=by
 have bH:=ao hs;obtain⟨nl,eU⟩:=aq b.l.length;obtain⟨n,hn⟩:=aq s.len;have r9:=ao eU;have bd:=ao hn;have pv:n≤1000000000:=by rw[←hn];exact H.out.p.1
 obtain⟨k,⟨a7,a'⟩,⟨aX,a8⟩,⟨cx,bA⟩,r,l⟩:=b;have P8:af (∀Z,an w w Z→Calls Tryz.prog 42 #[ad fx nl aT,ad df nl c2] Z fun e w'=>e=ab (U true)∧an Z Z w'):=fun Z cN=>as5 S R fx df l nl aT c2 eU.symm Z (ao (H.out.l.below cN)) (ao (K.out.l.below cN));show Calls _ _ #[.agg #[I k,I a7,I a',I aX,I a8,I cx,I bA,I r,ad fx l.length aT,ad bI s.len aY],.agg #[I k,I a7,I a',I aX,I a8,I cx,I bA,I r,ad df l.length c2,ad bJ s.len a6]] w _;have eU:l.length=nl:=eU;rw[eU,hn];clear eU hn hs;go_enter Tryz.func23,Tryz.ntmps23;go_upto_region 1 with fail;obtain⟨W,cP⟩:=aq ((w.alloc (ai (#[I k,I a7,I a',I aX,I a8,I cx,I bA,I r,ad fx nl aT,ad bI n aY]) cQ)).alloc (ai (#[I k,I a7,I a',I aX,I a8,I cx,I bA,I r,ad df nl c2,ad bJ n a6]) cQ));have H1:af (al W w.heap.size (#[I k,I a7,I a',I aX,I a8,I cx,I bA,I r,ad fx nl aT,ad bI n aY]) cQ):=by show _=_;rw[←cP];exact ba (cR _ _) (bh _ _)
 have bp:af (al W (w.heap.size+1) (#[I k,I a7,I a',I aX,I a8,I cx,I bA,I r,ad df nl c2,ad bJ n a6]) cQ):=by show _=_;rw[←cP];exact R6 _ _ _
 have aH:af (an w w W):=by show Below _ _ _;rw[←cP];exact D5 _ _ _
 rw[cP];clear cP;obtain⟨DB,KN⟩:=aq w.heap.size;obtain⟨DC,W5⟩:=aq (w.heap.size+1);rw[W5] at bp;rw[KN] at H1;try rw[W5]
 try rw[KN]
 clear KN W5;obtain⟨eC,eu,eO,jm,rP,zr,sH,Fh,Fi,tE⟩:=dQ H1.out;obtain⟨dH,c0,ee,y3,y4,j1,y6,h6,j2,k9⟩:=dQ bp.out;go_wp2_with fail;with_reducible refine (P8.out _ aH.out).mono ?_
 rintro e b5 ⟨rfl,ay⟩;have Oj:=ao (ba H1.out ay);have Ok:=ao (ba bp.out ay);have G6:af (an w w b5):=aH.out.trans (ay.mono aH.out.size);clear eC eu eO jm rP zr sH Fh Fi tE dH c0 ee y3 y4 j1 y6 h6 j2 k9 ay H1 bp aH P8;go_wp2_with fail
 go_loopw [5] (fun i wr=>∃(pre gp:bf) (j:Nat) (aL:aeo),aL=wr∧af (s=pre.append gp)∧af (pre.len=j)∧i=I j∧af (an w w aL)∧af (an b5 b5 aL)) (fun i _=>n -(intOf i).toNat)
 case atStart=>exact⟨.nil,s,0,_,rfl,rfl,rfl,rfl,G6.out,Below.refl _ _⟩
 case round=>
 obtain⟨pre,gp,j,aL,rfl,lr,kK,rfl,fq,aU⟩:=hrel;have tE:ak aL DB 9 (ad bI n aY):=cell_of (i:=9) (ba Oj.out aU.out) rfl;have k9:ak aL DC 9 (ad bJ n a6):=cell_of (i:=9) (ba Ok.out aU.out) rfl;cases gp with
 |nil=>
  have p4:j=n:=(by rw[←bd.out,←kK.out,lr.out,bf.append_nil]);subst p4;go_wp2_with fail;go_ret;exact⟨rfl,fq.out⟩
 |cons a b1 sub j'=>
  have tj:j<n:=(by rw[←bd.out,←kK.out,lr.out,bf.uw];simp only[bf.len];omega);have Yj:(j:Int)<(n:Int):=(by omega);have qG:(0:Int)≤(j:Int):=(by omega);have aE:=H.out.p.below fq.out;have aw:=K.out.p.below fq.out;have aE:hO S aL bI (pre.append (.cons a b1 sub j')):=(by rw[←lr.out];exact aE);have aw:hO R aL bJ (pre.append (.cons a b1 sub j')):=(by rw[←lr.out];exact aw);obtain⟨ea,eS,ql,dl,qp,cf,rfl,py,_,p5,g0,g1,g2,g3,g4,g5,g6,g7,g8,g9,g10⟩:=aE.part kK.out;obtain⟨fo,fQ,nS,ma,mb,qJ,rfl,mC,_,DD,aF,au,ax,aA,bb,bj,b8,cY,dM,e6,ly⟩:=aw.part kK.out;have hH:sub.count<N:=(by have au:=bH.out;rw[lr.out,bf.count_append] at au;simp only[bf.count] at au;omega);obtain⟨fB,ks⟩:=aq b1.l.length;obtain⟨mp,yz⟩:=aq sub.len;have af6:∀Z,an aL aL Z→Calls Tryz.prog 23 #[.agg #[I b1.k,I b1.a.1,I b1.a.2,I b1.b.1,I b1.b.2,I b1.c.1,I b1.c.2,I b1.r,ad ql fB dl,ad qp mp cf],.agg #[I b1.k,I b1.a.1,I b1.a.2,I b1.b.1,I b1.b.2,I b1.c.1,I b1.c.2,I b1.r,ad nS fB ma,ad mb mp qJ]] Z fun e w'=>e=ab (U true)∧an Z Z w':=(by intro Z cN;rw[←ks,←yz];exact JD.out sub b1 S R ql nS qp mb dl ma cf qJ Z hH (ao (p5.below cN)) (ao (DD.below cN)));have Gc:=ao af6;have zi:af (s=(pre.append (.cons a b1 sub .nil)).append j'):=(by show _=_;rw[lr.out,bf.append_assoc];rfl);have ata:af ((pre.append (.cons a b1 sub .nil)).len=j+1):=(by show _=_;rw[bf.uw,kK.out];rfl);rw[ks] at g9 e6;rw[yz] at g10 ly;clear af6 p5 DD aE aw ks yz hH;go_upto_region 6 with fail;have im:af (Q6 DB DC ea (eS+j *11) fo (fQ+j *11) (ag ea eS n aY) (ag fo fQ n a6) a b1.k b1.a.1 b1.a.2 b1.b.1 b1.b.2 b1.c.1 b1.c.2 b1.r (ad ql fB dl) (ad qp mp cf) (ad nS fB ma) (ad mb mp qJ) aL):=⟨tE,k9,g0,g1,g2,g3,g4,g5,g6,g7,g8,g9,g10,aF,au,ax,aA,bb,bj,b8,cY,dM,e6,ly⟩;have gy:=ao (af4 (Below.refl _ _).drew im.out);have W6:=ao (Below.refl aL.heap.size aL).drew;clear tE k9 g0 g1 g2 g3 g4 g5 g6 g7 g8 g9 g10 aF au ax aA bb bj b8 cY dM e6 ly
  go_region_held3 (fun Z=>Q6 DB DC ea (eS+j *11) fo (fQ+j *11) (ag ea eS n aY) (ag fo fQ n a6) a b1.k b1.a.1 b1.a.2 b1.b.1 b1.b.2 b1.c.1 b1.c.2 b1.r (ad ql fB dl) (ad qp mp cf) (ad nS fB ma) (ad mb mp qJ) Z) (first|with_reducible exact gy.out|with_reducible exact im.out|with_reducible exact af4 (by assumption) (by assumption)|assumption|fail) (first|(go_at_call 23;(with_reducible refine (Gc.out _ W6.out).mono ?_);rintro e b' ⟨rfl,dR⟩)|fail)
  all_goals
   have M6:=ao (fq.out.trans ((W6.out.trans dR).mono fq.out.size));have iU:=ao (aU.out.trans ((W6.out.trans dR).mono aU.out.size));clear im gy dR;go_wp2_with fail;go_round<;>first|exact⟨_,j',j+1,_,rfl,zi.out,ata.out,by go_num,M6.out,iU.out⟩|(simp[intOf]<;>omega)
theorem W7:∀N,af5 N
 |0=>fun s b S R fx df bI bJ aT c2 aY a6 w hs=>absurd hs (lS _)
 |N+1=>fun s b S R fx df bI bJ aT c2 aY a6 w hs H K=>as9 N (W7 N) s b S R fx df bI bJ aT c2 aY a6 w hs H K
abbrev Q7(ea eS fo fQ:Nat)(a:Bool)(k a7 a' aX a8 cx bA r:Int)(uk um uo uq:ada)(x:aeo):Prop:=
 x.cell? ⟨ea,eS,none⟩=some (U a)∧ak x ea (eS+1) (I k)∧ak x ea (eS+2) (I a7)∧ak x ea (eS+3) (I a')∧ak x ea (eS+4) (I aX)∧ak x ea (eS+5) (I a8)∧ak x ea (eS+6) (I cx)∧ak x ea (eS+7) (I bA)∧ak x ea (eS+8) (I r)∧ak x ea (eS+9) uk∧ak x ea (eS+10) um∧ak x fo fQ (U a)∧ak x fo (fQ+1) (I k)∧ak x fo (fQ+2) (I a7)∧ak x fo (fQ+3) (I a')∧ak x fo (fQ+4) (I aX)∧ak x fo (fQ+5) (I a8)∧ak x fo (fQ+6) (I cx)∧ak x fo (fQ+7) (I bA)∧ak x fo (fQ+8) (I r)∧ak x fo (fQ+9) uo∧ak x fo (fQ+10) uq
theorem af7{a:Bool}{k a7 a' aX a8 cx bA r:Int}{uk um uo uq:ada}(h:an x x y)(H:Q7 ea eS fo fQ a k a7 a' aX a8 cx bA r uk um uo uq x):Q7 ea eS fo fQ a k a7 a' aX a8 cx bA r uk um uo uq y:=by obtain⟨aF,au,ax,aA,bb,bj,b8,cY,dM,e6,ly,ux,C1,kv,M1,M3,A9,Ga,M4,M5,Qk,W4⟩:=H;exact⟨bD h aF,bD h au,bD h ax,bD h aA,bD h bb,bD h bj,bD h b8,bD h cY,bD h dM,bD h e6,bD h ly,bD h ux,bD h C1,bD h kv,bD h M1,bD h M3,bD h A9,bD h Ga,bD h M4,bD h M5,bD h Qk,bD h W4⟩
theorem af8(S R:afp)(l:List iH)(n:Nat)(hn:n=l.length)(p q:Ja)(c d:Nat)(w:aeo)(H:af (gz S w p l))(K:af (gz R w q l)):
  Calls Tryz.prog 10 #[ad p n c,ad q n d] w fun e w'=>e=ab (U true)∧an w w w':=by
 have bd:=ao hn;have pv:n≤1000000000:=by rw[hn];exact H.out.1
 clear hn;go_enter Tryz.func10,Tryz.ntmps10;go_wp2_with fail
 go_loopw [5] (fun i wr=>∃(k:Nat) (aL:aeo),aL=wr∧k≤n∧i=I k∧af (an w w aL)) (fun i _=>n -(intOf i).toNat)
 case atStart=>exact⟨0,_,rfl,cO _,rfl,Below.refl _ _⟩
 case round=>
 obtain⟨k,aL,rfl,aw,rfl,aH⟩:=hrel;by_cases bm:k<n
 ·have gD:k<l.length:=(by rw[←bd.out];exact bm);have fD:(k:Int)<(n:Int):=(by omega);have qG:(0:Int)≤(k:Int):=(by omega);obtain⟨⟨Q8,⟨aD,os⟩⟩,aG⟩:=aq (l[k]);obtain⟨ea,eS,ql,dl,qp,cf,rfl,py,_,p5,g0,g1,g2,g3,g4,g5,g6,g7,g8,g9,g10⟩:=H.out.at gD aG;obtain⟨fo,fQ,nS,ma,mb,qJ,rfl,mC,_,DD,aF,au,ax,aA,bb,bj,b8,cY,dM,e6,ly⟩:=K.out.at gD aG;obtain⟨fB,ks⟩:=aq aD.l.length;obtain⟨mp,yz⟩:=aq os.len;have Gc:af (∀Z,an w w Z→Calls Tryz.prog 23 #[.agg #[I aD.k,I aD.a.1,I aD.a.2,I aD.b.1,I aD.b.2,I aD.c.1,I aD.c.2,I aD.r,ad ql fB dl,ad qp mp cf],.agg #[I aD.k,I aD.a.1,I aD.a.2,I aD.b.1,I aD.b.2,I aD.c.1,I aD.c.2,I aD.r,ad nS fB ma,ad mb mp qJ]] Z fun e w'=>e=ab (U true)∧an Z Z w'):=(by intro Z cN;rw[←ks,←yz];exact W7 _ os aD S R ql nS qp mb dl ma cf qJ Z (JB _) (ao (p5.below cN)) (ao (DD.below cN)));rw[ks] at g9 e6;rw[yz] at g10 ly;have im:af (Q7 ea (eS+k *11) fo (fQ+k *11) Q8 aD.k aD.a.1 aD.a.2 aD.b.1 aD.b.2 aD.c.1 aD.c.2 aD.r (ad ql fB dl) (ad qp mp cf) (ad nS fB ma) (ad mb mp qJ) aL):=⟨bD aH.out g0,bD aH.out g1,bD aH.out g2,bD aH.out g3,bD aH.out g4,bD aH.out g5,bD aH.out g6,bD aH.out g7,bD aH.out g8,bD aH.out g9,bD aH.out g10,bD aH.out aF,bD aH.out au,bD aH.out ax,bD aH.out aA,bD aH.out bb,bD aH.out bj,bD aH.out b8,bD aH.out cY,bD aH.out dM,bD aH.out e6,bD aH.out ly⟩;have gy:=ao (af7 (Below.refl _ _).drew im.out);have lf:=ao aH.out.drew;clear g0 g1 g2 g3 g4 g5 g6 g7 g8 g9 g10 aF au ax aA bb bj b8 cY dM e6 ly p5 DD aG ks yz py mC;go_upto_region 6 with fail
  go_region_held3 (fun Z=>Q7 ea (eS+k *11) fo (fQ+k *11) Q8 aD.k aD.a.1 aD.a.2 aD.b.1 aD.b.2 aD.c.1 aD.c.2 aD.r (ad ql fB dl) (ad qp mp cf) (ad nS fB ma) (ad mb mp qJ) Z) (first|with_reducible exact gy.out|with_reducible exact im.out|with_reducible exact af7 (by assumption) (by assumption)|assumption|fail) (first|(go_at_call 23;(with_reducible refine (Gc.out _ lf.out).mono ?_);rintro e b' ⟨rfl,dR⟩)|fail)
  all_goals
   have M6:=ao (lf.out.trans (dR.mono lf.out.size));clear im gy lf aH Gc dR;go_wp2_with fail;go_round<;>first|exact⟨k+1,_,rfl,by omega,by go_num,M6.out⟩|(simp[intOf]<;>omega)
 ·have fD:¬(k:Int)<(n:Int):=(by omega);go_wp2_with fail;go_ret;exact⟨rfl,aH.out⟩
abbrev Q9(ea eS fo fQ:Nat)(k a7 a' aX a8 cx bA r:Int)(uk um uo uq:ada)(x:aeo):Prop:=
 x.cell? ⟨ea,eS,none⟩=some (I k)∧ak x ea (eS+1) (I a7)∧ak x ea (eS+2) (I a')∧ak x ea (eS+3) (I aX)∧ak x ea (eS+4) (I a8)∧ak x ea (eS+5) (I cx)∧ak x ea (eS+6) (I bA)∧ak x ea (eS+7) (I r)∧ak x ea (eS+8) uk∧ak x ea (eS+9) um∧ak x fo fQ (I k)∧ak x fo (fQ+1) (I a7)∧ak x fo (fQ+2) (I a')∧ak x fo (fQ+3) (I aX)∧ak x fo (fQ+4) (I a8)∧ak x fo (fQ+5) (I cx)∧ak x fo (fQ+6) (I bA)∧ak x fo (fQ+7) (I r)∧ak x fo (fQ+8) uo∧ak x fo (fQ+9) uq
theorem af9{k a7 a' aX a8 cx bA r:Int}{uk um uo uq:ada}(h:an x x y)(H:Q9 ea eS fo fQ k a7 a' aX a8 cx bA r uk um uo uq x):Q9 ea eS fo fQ k a7 a' aX a8 cx bA r uk um uo uq y:=by obtain⟨aF,au,ax,aA,bb,bj,b8,cY,dM,e6,ly,ux,C1,kv,M1,M3,A9,Ga,M4,M5⟩:=H;exact⟨bD h aF,bD h au,bD h ax,bD h aA,bD h bb,bD h bj,bD h b8,bD h cY,bD h dM,bD h e6,bD h ly,bD h ux,bD h C1,bD h kv,bD h M1,bD h M3,bD h A9,bD h Ga,bD h M4,bD h M5⟩
theorem aga(S R:afp)(l:List dq)(n:Nat)(hn:n=l.length)(p q:Ja)(c d:Nat)(w:aeo)(H:af (iA S w p l))(K:af (iA R w q l)):
  Calls Tryz.prog 11 #[ad p n c,ad q n d] w fun e w'=>e=ab (U true)∧an w w w':=by
 have bd:=ao hn;have pv:n≤1000000000:=by rw[hn];exact H.out.1
 clear hn;go_enter Tryz.func11,Tryz.ntmps11;go_wp2_with fail
 go_loopw [5] (fun i wr=>∃(k:Nat) (aL:aeo),aL=wr∧k≤n∧i=I k∧af (an w w aL)) (fun i _=>n -(intOf i).toNat)
 case atStart=>exact⟨0,_,rfl,cO _,rfl,Below.refl _ _⟩
 case round=>
 obtain⟨k,aL,rfl,aw,rfl,aH⟩:=hrel;by_cases bm:k<n
 ·have gD:k<l.length:=(by rw[←bd.out];exact bm);have fD:(k:Int)<(n:Int):=(by omega);have qG:(0:Int)≤(k:Int):=(by omega);obtain⟨⟨aD,os⟩,aG⟩:=aq (l[k]);obtain⟨ea,eS,ql,dl,qp,cf,rfl,py,_,p5,g0,g1,g2,g3,g4,g5,g6,g7,g8,g9⟩:=H.out.at gD aG;obtain⟨fo,fQ,nS,ma,mb,qJ,rfl,mC,_,DD,aF,au,ax,aA,bb,bj,b8,cY,dM,e6⟩:=K.out.at gD aG;obtain⟨fB,ks⟩:=aq aD.l.length;obtain⟨mp,yz⟩:=aq os.len;have Gc:af (∀Z,an w w Z→Calls Tryz.prog 23 #[.agg #[I aD.k,I aD.a.1,I aD.a.2,I aD.b.1,I aD.b.2,I aD.c.1,I aD.c.2,I aD.r,ad ql fB dl,ad qp mp cf],.agg #[I aD.k,I aD.a.1,I aD.a.2,I aD.b.1,I aD.b.2,I aD.c.1,I aD.c.2,I aD.r,ad nS fB ma,ad mb mp qJ]] Z fun e w'=>e=ab (U true)∧an Z Z w'):=(by intro Z cN;rw[←ks,←yz];exact W7 _ os aD S R ql nS qp mb dl ma cf qJ Z (JB _) (ao (p5.below cN)) (ao (DD.below cN)));rw[ks] at g8 dM;rw[yz] at g9 e6;have im:af (Q9 ea (eS+k *10) fo (fQ+k *10) aD.k aD.a.1 aD.a.2 aD.b.1 aD.b.2 aD.c.1 aD.c.2 aD.r (ad ql fB dl) (ad qp mp cf) (ad nS fB ma) (ad mb mp qJ) aL):=⟨bD aH.out g0,bD aH.out g1,bD aH.out g2,bD aH.out g3,bD aH.out g4,bD aH.out g5,bD aH.out g6,bD aH.out g7,bD aH.out g8,bD aH.out g9,bD aH.out aF,bD aH.out au,bD aH.out ax,bD aH.out aA,bD aH.out bb,bD aH.out bj,bD aH.out b8,bD aH.out cY,bD aH.out dM,bD aH.out e6⟩;have gy:=ao (af9 (Below.refl _ _).drew im.out);have lf:=ao aH.out.drew;clear g0 g1 g2 g3 g4 g5 g6 g7 g8 g9 aF au ax aA bb bj b8 cY dM e6 p5 DD aG ks yz py mC;go_upto_region 6 with fail
  go_region_held3 (fun Z=>Q9 ea (eS+k *10) fo (fQ+k *10) aD.k aD.a.1 aD.a.2 aD.b.1 aD.b.2 aD.c.1 aD.c.2 aD.r (ad ql fB dl) (ad qp mp cf) (ad nS fB ma) (ad mb mp qJ) Z) (first|with_reducible exact gy.out|with_reducible exact im.out|with_reducible exact af9 (by assumption) (by assumption)|assumption|fail) (first|(go_at_call 23;(with_reducible refine (Gc.out _ lf.out).mono ?_);rintro e b' ⟨rfl,dR⟩)|fail)
  all_goals
   have M6:=ao (lf.out.trans (dR.mono lf.out.size));clear im gy lf aH Gc dR;go_wp2_with fail;go_round<;>first|exact⟨k+1,_,rfl,by omega,by go_num,M6.out⟩|(simp[intOf]<;>omega)
 ·have fD:¬(k:Int)<(n:Int):=(by omega);go_wp2_with fail;go_ret;exact⟨rfl,aH.out⟩
structure jR(A:afp)(w w':aeo):Prop where
 keep:aK (fun k=>¬A k) w w'
 nC:∀(k:Nat) (cs:ajv),al w k cs e0→al w' k cs e0
 row:∀(k:Nat) (cs:ajv) (t:aai),al w k cs t→∃hP,al w' k hP t∧hP.size=cs.size
section
variable{A:afp}{w w' v:aeo}
theorem jR.refl(A:afp)(w:aeo):jR A w w:=⟨aK.refl _ _,fun _ _ h=>h,fun _ cs _ h=>⟨cs,h,rfl⟩⟩
theorem jR.trans(h:jR A w w')(g:jR A w' v):jR A w v:=⟨h.keep.trans g.keep,fun k cs e=>g.nC k cs (h.nC k cs e),fun k cs t e=>by obtain⟨aT,au,ax⟩:=h.row k cs t e;obtain⟨c2,aA,bb⟩:=g.row k aT t au;exact⟨c2,aA,bb.trans ax⟩⟩
theorem jR.below(ay:an w w w'):jR A w w':=⟨.c4 ay,fun k cs e=>ba e ay,fun k cs t e=>⟨cs,ba e ay,rfl⟩⟩
variable{b:Nat}{cs:ajv}
theorem W8{t:aai}(h:al w b cs t)(i:Nat)(u:ada):(w.setCell (aj b i) u).heap[b]?=some (.cells (cs.setIfInBounds i u) t):=by show (Array.modify _ _ _)[b]?=_;rw[vU,aW rfl,h];rfl
theorem jR.set{b:Nat}{cs:ajv}{t:aai}(hA:A b)(ay:al w b cs t)(bc:t≠e0)(i:Nat)(u:ada):jR A w (w.setCell (aj b i) u):=by
 refine⟨aK.set (fun h=>h hA) u,fun k dU e=>?_,fun k dU s e=>?_⟩
 ·have aw:k≠b:=(fun h=>by rw[h,ay] at e;injection e with e;injection e with _ a6 _;exact bc a6);exact (hC _ _ _ _ aw).trans e
 ·by_cases aw:k=b
  ·subst aw;rw[ay] at e;injection e with e;injection e with aY a6 _;subst aY a6;exact⟨_,W8 ay i u,xg⟩
  ·exact⟨dU,(hC _ _ _ _ aw).trans e,rfl⟩
def ur(w:aeo)(b o:Nat):aev→World
 |[]=>w
 |u::us=>ur (w.setCell (aj b o) u) b (o+1) us
theorem Q'{b d:Nat}(h:d≠b):∀(us:aev) (o:Nat) (w:aeo),(ur w b o us).heap[d]?=w.heap[d]?
 |[],_,_=>rfl
 |u::us,o,w=>(Q' h us (o+1) _).trans (hC _ _ _ _ h)
theorem agb{b:Nat}{t:aai}:∀(us:aev) (o:Nat) (w:aeo) (cs:ajv),al w b cs t→∃hP,(ur w b o us).heap[b]?=some (.cells hP t)∧hP.size=cs.size∧∀j,o+us.length≤j→hP[j]?=cs[j]?
 |[],_,_,cs,h=>⟨cs,h,rfl,fun _ _=>rfl⟩
 |u::us,o,w,cs,h=>by obtain⟨aT,au,ax,aA⟩:=agb us (o+1) (w.setCell (aj b o) u) _ (W8 h o u);refine⟨aT,au,ax.trans xg,fun j b6=>?_⟩;rw[eT] at b6;rw[aA j (by omega),xm,aN (by omega)]
theorem jR.put{b:Nat}{t:aai}(hA:A b)(bc:t≠e0):∀(us:aev) (o:Nat) (w:aeo) (cs:ajv),al w b cs t→jR A w (ur w b o us)
 |[],_,w,_,_=>.refl _ w
 |u::us,o,w,cs,h=>(jR.set hA h bc o u).trans (jR.put hA bc us (o+1) _ _ (W8 h o u))
theorem jR.ex(h:jR A w w'){i:Nat}{t:aai}(ay:al w b cs t)(hi:i<cs.size):∃u,ak w' b i u:=by obtain⟨aT,au,ax⟩:=h.row _ _ _ ay;exact⟨aT[i]'(by omega),by simp[World.cell?,au,JP (show i<aT.size by omega)]⟩
theorem jR.fr(h:jR A w w'){t:aai}(ay:al w b cs t)(i:Nat):w'.frozen? ⟨b,i,none⟩=false:=by obtain⟨aT,au,ax⟩:=h.row _ _ _ ay;simp[World.frozen?,au]
end
def vG(g o m:Nat)(t:aai)(cs:ajv)(w':aeo):Prop:=∃hP,al w' g hP t∧hP.size=cs.size∧∀j,o+m≤j→hP[j]?=cs[j]?
variable{g o m:Nat}{t:aai}{cs:ajv}
theorem vG.cell{w w':aeo}(h:vG g o m t cs w')(ay:al w g cs t){j:Nat}{u:ada}(b6:o+m≤j)(aB:ak w g j u):ak w' g j u:=by obtain⟨aT,au,ax,aA⟩:=h;simp only[World.cell?,ay] at aB;simp only[World.cell?,au];rw[aA j b6];exact aB
theorem vG.fr{w':aeo}(h:vG g o m t cs w')(j:Nat):w'.frozen? ⟨g,j,none⟩=false:=by obtain⟨aT,au,ax,aA⟩:=h;simp[World.frozen?,au]
theorem vG.Ip{w w':aeo}(h:vG g o m t cs w)(e:w'.heap[g]?=w.heap[g]?):vG g o m t cs w':=by obtain⟨aT,au,ax,aA⟩:=h;exact⟨aT,e.trans au,ax,aA⟩
theorem vG.put{n i:Nat}{t:aai}{w:aeo}(h:vG g o m t cs w)(us:aev)(hi:i+us.length≤o+n)(hm:m≤n):vG g o n t cs (ur w g i us):=by obtain⟨aT,au,ax,aA⟩:=h;obtain⟨c2,bb,bj,b8⟩:=agb us i w aT au;exact⟨c2,bb,bj.trans ax,fun j b6=>(b8 j (by omega)).trans (aA j (by omega))⟩
theorem W9{w:aeo}{a b:Nat}{dU:ajv}{s:aai}(h:al w a cs s)(g:al w b dU t)(bc:s≠t):a≠b:=fun e=>by rw[e,g] at h;injection h with h;injection h with _ ax _;exact bc ax.symm
theorem da.len{S:afp}{w:aeo}:∀{s:bf} {xs:aev},da S w s xs→s.len *11≤xs.length
 |.nil,_,_=>by simp[bf.len]
 |.cons a b s r,xs,h=>by obtain⟨pl,cl,pp,cp,au,_⟩:=h.head;have ax:=da.len h.tail;have aA:=fS List.length au;simp only[lz,eT,kZ] at aA;rw[e8] at ax;simp only[bf.len];omega
theorem j0.len{S:afp}{w:aeo}:∀{l:List dq} {xs:aev},j0 S w l xs→l.length *10≤xs.length
 |[],_,_=>by simp
 |s::l,xs,h=>by obtain⟨⟨pl,cl,pp,cp,au,_⟩,b8⟩:=h;have ax:=j0.len b8;have aA:=fS List.length au;simp only[lz,eT,kZ] at aA;rw[e8] at ax;rw[eT];omega
variable{p:Ja}
theorem gV.jn{S:afp}{w:aeo}{l:List b7}(h:gV S w p l)(az:0<l.length):∃(b o:Nat) (cs:ajv),p=some ⟨b,o,none⟩∧S b∧al w b cs de∧o+l.length *2≤cs.size:=by
 obtain⟨b,o,cs,rfl,bz,aE,aB⟩:=h.2 az;refine⟨b,o,cs,rfl,bz,aE,?_⟩;have ax:=(aB (l.length-1) (by omega)).2
 have aA:o+(l.length-1) *2+1<cs.size:=by
  rcases S3 (o+(l.length-1) *2+1) cs.size with bb|bb
  ·exact bb
  ·rw[Aj bb] at ax;cases ax
 omega
theorem hO.jn{S:afp}{w:aeo}{s:bf}(h:hO S w p s)(az:0<s.len):∃(b o:Nat) (cs:ajv),p=some ⟨b,o,none⟩∧S b∧al w b cs ev∧o+s.len *11≤cs.size:=by obtain⟨b,o,cs,rfl,bz,aE,aB⟩:=h.2 az;have ax:=aB.len;rw[e8,Ft] at ax;exact⟨b,o,cs,rfl,bz,aE,by omega⟩
theorem gz.jn{S:afp}{w:aeo}{l:List iH}(h:gz S w p l)(az:0<l.length):∃(b o:Nat) (cs:ajv),p=some ⟨b,o,none⟩∧S b∧al w b cs fA∧o+l.length *11≤cs.size:=by obtain⟨b,o,cs,rfl,bz,aE,aB⟩:=h.2 az;have ax:=aB.len;rw[e8,Ft,Eh] at ax;exact⟨b,o,cs,rfl,bz,aE,by omega⟩
theorem iA.jn{S:afp}{w:aeo}{l:List dq}(h:iA S w p l)(az:0<l.length):∃(b o:Nat) (cs:ajv),p=some ⟨b,o,none⟩∧S b∧al w b cs cQ∧o+l.length *10≤cs.size:=by obtain⟨b,o,cs,rfl,bz,aE,aB⟩:=h.2 az;have ax:l.length *10≤_:=aB.len;have aA:cs.toList.length=cs.size:=Ft;rw[e8,aA] at ax;exact⟨b,o,cs,rfl,bz,aE,by omega⟩
theorem q'{w w':aeo}{i:Nat}{u:ada}(h:w'.heap[g]?=w.heap[g]?)(c:ak w g i u):ak w' g i u:=by simp only[World.cell?,h];exact c
theorem z6.below{S:Ua}{bo:Int}{b:Nat}{bq:List dq}{i f:Nat}{ep:Ja}{dU:Nat}{R:afp}{x y:aeo}(h:z6 S bo b bq i f ep dU R x)(ay:an x x y):z6 S bo b bq i f ep dU R y:=⟨ba h.1 ay,h.2.1.below ay,h.2.2⟩
structure Gd(A:afp)(X Y:Nat)(S T:Ua)(aD:List iH)(bq:List dq)(i f i2 f2:Nat)(ep dT:Ja)(dU:Nat)(wY hz:Ja)(wZ:Nat)(x:aeo):Prop where
 hx:al x X (mV S 1000 1 0 0 1 (ad ep aD.length dU) i f) kY
 agc:¬A X
 os:gz (fun k=>¬A k) x ep aD
 Bl:gz (fun k=>¬A k) x dT aD
 agd:¬A Y
 dl:z6 T 1000 Y bq i2 f2 wY wZ (fun k=>¬A k) x
 W':iA (fun k=>¬A k) x hz bq
section
variable{A:afp}{X Y:Nat}{S T:Ua}{aD:List iH}{bq:List dq}{i f i2 f2:Nat}{ep dT:Ja}{dU:Nat}{wY hz:Ja}{wZ:Nat}{x y:aeo}
theorem Gd.mut(h:Gd A X Y S T aD bq i f i2 f2 ep dT dU wY hz wZ x)(m:jR A x y):Gd A X Y S T aD bq i f i2 f2 ep dT dU wY hz wZ y:=
 ⟨m.keep.get h.agc h.hx,h.agc,h.os.keep m.keep,h.Bl.keep m.keep,h.agd,⟨m.keep.get h.agd h.dl.1,h.dl.2.1.keep m.keep,h.dl.2.2⟩,h.W'.keep m.keep⟩
theorem Gd.below(h:Gd A X Y S T aD bq i f i2 f2 ep dT dU wY hz wZ x)(ay:an x x y):Gd A X Y S T aD bq i f i2 f2 ep dT dU wY hz wZ y:=h.mut (.below ay)
end
def atb(a b c d:Nat)(k:Nat):Prop:=(a≤k∧k<b)∨(c≤k∧k<d)
end c1
namespace c1
open Go.RowKit ef Gb
open cB (C k0)
open mI (mN hY)
theorem atc(a:Addr)(v:Int)(w:aeo)(aF:w.cell? a=some (.int .i32 v)):Calls Tryz.prog 43 #[.pointer (some a)] w fun e w'=>e=ab (.int .i32 v)∧w'=w:=by have az:=run_call_load (P:=Tryz.prog) Tryz.func64 (by kernel_rfl) (by kernel_rfl) (by kernel_rfl) .i32 (by kernel_rfl) aF;go_enter Tryz.func43,Tryz.ntmps43;go_wp2;go_ret;exact⟨rfl,rfl⟩
theorem age(b:Nat)(m:Int)(hm:0≤m∧m≤1)(v:ajv)(w:aeo)(ay:al w b v kY)(bj:v[5]?=some (.int .i32 m)):Calls Tryz.prog 24 #[ah b 0] w fun e w'=>e=ab (I m)∧w'=w:=by have c5:=cell_of (i:=5) ay bj;have hw:ae m=m:=gw _ (by omega);go_enter Tryz.func24,Tryz.ntmps24;go_wp2_with (go_at_call 43;refine (atc (aj b 5) m _ c5).mono ?_;rintro e w' ⟨rfl,rfl⟩);go_ret;exact⟨rfl,rfl⟩
abbrev sX:ByteArray:=⟨#[77,48,50,42]⟩
theorem atd:MT sX:=⟨(k0 sX.data.toList).1,(k0 sX.data.toList).2.1,Prod.ext rfl (Prod.ext rfl (show (k0 sX.data.toList).2.2=0 by decide+kernel)),show (k0 sX.data.toList).1.length=1 by decide+kernel,show ∀x∈(k0 sX.data.toList).1,x.2.k=5 by decide+kernel⟩
theorem ate(b:Nat)(w:aeo)(ay:al w b (mV sX 5 0 0 0 0 (J 0) 0 0) kY):Calls Tryz.prog 8 #[ah b 0] w fun e w'=>∃(i:Nat) (v:ajv) (eP:Ja) (d:Nat),e=ab (.tuple #[ad eP 0 d,I (i:Int),I 0])∧al w' b v kY∧v[5]?=some (.int .i32 1)∧aK (fun k=>k≠b) w w':=by refine (afP b sX 5 (by decide) w ay).mono ?_;rintro e w' ⟨aD,i,f,ep,dU,eP,d,s1,rfl,au,_,_,_,ax,_,aA⟩;obtain⟨rfl,rfl⟩:=aA.out atd;exact⟨i,_,eP,d,rfl,au.out,rfl,ax.out⟩
theorem atf(b:Nat)(w:aeo)(hg:mN w)(ay:al w b (mh hY 5 0 0 0 (J 0) 0 0) lk):Calls Tryz.prog 9 #[ah b 0] w fun e w'=>∃(n:Nat) (q:Ja) (d:Nat),e=ab (.tuple #[ad q n d,I 3,I 11])∧aK (fun k=>k≠b) w w':=by refine (afY b hY (by decide) 5 (by decide) w hg ay).mono ?_;rintro e w' ⟨x,bq,i,f,ep,dU,R,q,d,rfl,_,ax,aA,bb,_⟩;obtain⟨rfl,rfl⟩:=ax.out.2 rfl;exact⟨_,q,d,rfl,aA.out.trans (.c4 bb.out)⟩
theorem atg(w:aeo)(hg:mN w):Calls Tryz.prog 12 #[] w fun e w'=>e=ab (U true)∧an w w w':=by
 go_enter Tryz.func12,Tryz.ntmps12;go_upto_region 4 with (first|(go_at_call 4;(with_reducible refine (afU _ _ _).mono ?_);rintro e w' ⟨rfl,rfl⟩)|(go_at_call 6;(with_reducible refine (afW _ _ _).mono ?_);rintro e w' ⟨rfl,rfl⟩)|fail);have ei:af (((w.alloc (ai (mV sX 5 0 0 0 0 (J 0) 0 0) kY)).alloc (ai (mh hY 5 0 0 0 (J 0) 0 0) lk)).heap[w.heap.size]?=some (.cells (mV sX 5 0 0 0 0 (J 0) 0 0) kY)):=ba (cR _ _) (bh _ _);have b9:af (((w.alloc (ai (mV sX 5 0 0 0 0 (J 0) 0 0) kY)).alloc (ai (mh hY 5 0 0 0 (J 0) 0 0) lk)).heap[(w.alloc (ai (mV sX 5 0 0 0 0 (J 0) 0 0) kY)).heap.size]?=some (.cells (mh hY 5 0 0 0 (J 0) 0 0) lk)):=cR _ _;have aH:af (an w w ((w.alloc (ai (mV sX 5 0 0 0 0 (J 0) 0 0) kY)).alloc (ai (mh hY 5 0 0 0 (J 0) 0 0) lk))):=D5 _ _ _;have bd:af ((w.alloc (ai (mV sX 5 0 0 0 0 (J 0) 0 0) kY)).heap.size=w.heap.size+1):=l' _;generalize (w.alloc (ai (mV sX 5 0 0 0 0 (J 0) 0 0) kY)).alloc (.cells (mh hY 5 0 0 0 (J 0) 0 0) lk)=W at ei b9 aH⊢;rw[bd.out] at b9;clear bd;obtain⟨D,b4⟩:=aq (w.heap.size+1);rw[b4] at b9;try rw[b4]
 have bd:af (D=w.heap.size+1):=b4.symm;clear b4;obtain⟨B,bz⟩:=aq w.heap.size;rw[bz] at ei bd⊢;have axi:=bd;have hG:=ao bz;clear bz;have axj:=ao (hg.below aH.out);have az:=ei.out;have hne:B≠D:=by rw[bd.out];omega
 go_upto_region 5 with (first|(go_at_call 24;(with_reducible refine (age B 0 (by simp) _ _ az rfl).mono ?_);rintro e w' ⟨rfl,rfl⟩)|fail);go_upto_region 6 with (first|(go_at_call 8;(with_reducible refine (ate B _ az).mono ?_);rintro e dZ ⟨i,v,eP,d,rfl,aS,bj,ih⟩)|fail);have pW:al dZ D (mh hY 5 0 0 0 (J 0) 0 0) lk:=ih.get (fun h=>hne h.symm) b9.out;have jw:=ao ih;have cM:=ao aS;have dO:af (an w w dZ):=aH.out.trans (ih.below w.heap.size aH.out.size (fun k aw=>by have:=hG.out;omega));have G8:=hg.below dO.out;clear az ih aS;go_upto_region 7 with (first|(go_at_call 9;(with_reducible refine (atf D _ G8 pW).mono ?_);rintro e fU ⟨n,q,d2,rfl,vX⟩)|fail);have ath:=vX.get hne cM.out;have iJ:af (an w w fU):=dO.out.trans (vX.below w.heap.size dO.out.size (fun k aw=>by have:=hG.out;have:=bd.out;omega));clear pW G8 vX;go_wp2_with (first|(go_at_call 24;(with_reducible refine (age B 1 (by simp) _ _ ath bj).mono ?_);rintro e w' ⟨rfl,rfl⟩)|fail);go_ret;exact⟨rfl,iJ.out⟩
end c1
namespace yA
open Go.RowKit gI
class fZ (n:Nat) (m:outParam Nat):Prop where
 le:n≤m
instance(k:Nat):fZ (no_index (OfNat.ofNat k)) k:=⟨aP _⟩
instance{a b m n:Nat}[x:fZ a m][y:fZ b n]:fZ (a+b) (m+n):=⟨Vo x.le y.le⟩
instance(a:Array UInt8):fZ (ByteArray.mk a).size a.size:=⟨aP _⟩
instance{a b:Ua}{m n:Nat}[x:fZ a.size m][y:fZ b.size n]:fZ (a++b).size (m+n):=⟨by rw[z7];exact Vo x.le y.le⟩
theorem fits:∀(n:Nat) {m:Nat} [fZ n m],m≤9223372036854775807→¬9223372036854775807<n:=fun _ _ h hm ax=>by have:=h.le;omega
theorem fZ.to{n m k:Nat}[h:fZ n m](aw:m≤k):n≤k:=cd h.le aw
def pg(n:Nat)(w:aeo)(e:Ending)(w':aeo):Prop:=∃S,e=ab (aa S)∧fZ S.size n∧w=w'
theorem pg.get{n:Nat}{w w':aeo}{e:Ending}(h:pg n w e w'):∃S,e=ab (aa S)∧fZ S.size n∧w=w':=h
def Ra:Nat→Int→Prop
 |0,n=>n=0
 |j+1,n=>Ra j (n/10)
theorem w1(j least:Nat)(x:Int)(aF:0≤x)(au:x≤9223372036854775807)(h:af (Ra j x))(az:least≤j)(b6:j≤20)(w:aeo):
  Calls Tryz.prog 28 #[I x,I least] w (pg j w):=by
 go_enter Tryz.func28,Tryz.ntmps28;go_wp2
 go_loop [0,5] (fun v i=>∃(c:Int) (T:Ua) (r:Nat),0≤c∧c≤9223372036854775807∧T.size+r=j∧af (Ra r c)∧v=I c∧i=aa T) (fun _ i=>20-Lib.strSize i)
 case atStart=>exact⟨x,⟨#[]⟩,j,aF,au,jt _,h.out,rfl,rfl⟩
 case round=>
  obtain⟨c,T,r,CU,oW,hr,aQ,rfl,rfl⟩:=hrel;by_cases qj:0<c∨T.size<least
  ·obtain⟨r,rfl⟩:∃q,r=q+1:=by
    cases r with
    |zero=>have ax:c=0:=aQ.out;omega
    |succ q=>exact⟨q,rfl⟩
   have bd:af (Ra r (c/10)):=aQ.out;obtain⟨q,aG⟩:∃q:Nat,c%10=(q:Int):=⟨(c%10).toNat,by omega⟩;have Qc:q<10:=(by omega);have fw:((⟨#[48,49,50,51,52,53,54,55,56,57]⟩:Ua).extract q (q+1)).size=1:=(by rw[ByteArray.size_extract];show min (q+1) 10-q=1;omega);have th:af (¬0<c→T.size<least):=(by show _→_;omega);have axk:T.size≤20:=(by omega);have bH:=ao (show T.size+1+r=j∧T.size<20 by omega);clear hr aQ;by_cases ati:0<c
   ·clear qj;go_wp2;go_round
    case rel=>exact⟨c/10,_,r,by omega,by omega,by rw[z7,fw,JL 1];exact bH.out.1,bd.out,rfl,rfl⟩
    case measure=>simp only[Lib.strSize,z7,fw];have:=bH.out.2;omega
   ·have axl:T.size<least:=th.out ati;clear qj;go_wp2;go_round
    case rel=>exact⟨c/10,_,r,by omega,by omega,by rw[z7,fw,JL 1];exact bH.out.1,bd.out,rfl,rfl⟩
    case measure=>simp only[Lib.strSize,z7,fw];have:=bH.out.2;omega
  ·obtain rfl:c=0:=(by omega);have fw:¬T.size<least:=(by omega);have bH:=ao hr;clear qj hr;go_wp2_with fail;go_ret;exact⟨T,rfl,⟨by have:=bH.out;omega⟩,rfl⟩
theorem atj(s:Ua)(n:Nat)(hs:s.size≤n)(hn:n≤1000)(w:aeo):Calls Tryz.prog 45 #[aa s] w (pg n w):=by
 go_enter Tryz.func45,Tryz.ntmps45;go_wp2
 go_loop [0] (fun i=>∃(T:Ua),T.size≤n∧i=aa T) (fun i=>Lib.strSize i)
 case atStart=>exact⟨s,hs,rfl⟩
 case round=>
  obtain⟨T,dm,rfl⟩:=hrel;by_cases aF:0<T.size
  ·cases ay:((T[T.size-1].toNat:Int)==48) with
   |true=>
    go_wp2;go_round
    case rel=>exact⟨_,by simp;omega,rfl⟩
    case measure=>simp[Lib.strSize];omega
   |false=>
    go_wp2;go_ret;exact⟨T,rfl,⟨dm⟩,rfl⟩
  ·go_wp2;go_ret;exact⟨T,rfl,⟨dm⟩,rfl⟩
theorem atk(n:Int)(aF:-1000000000000<n)(au:n<1000000000000)(w:aeo):Calls Tryz.prog 44 #[I n] w fun e w'=>e=ab (U true)∧w=w':=by go_enter Tryz.func44,Tryz.ntmps44;go_wp2;go_ret;exact⟨rfl,rfl⟩
theorem Xa(n:Int)(aF:-100000000<n)(au:n<100000000)(w:aeo):Calls Tryz.prog 27 #[I n] w (pg 10 w):=by
 have fL:=fun w=>atk n (by omega) (by omega) w;have hf:=fits;obtain⟨x,hx,y9,qg⟩:∃x:Int,(x=n∧¬x<0∨n= -x∧-x<0)∧0≤x∧x<100000000:=⟨n.natAbs,by omega,by omega,by omega⟩;have h2:∀w,Calls Tryz.prog 28 #[I (x/1000000),I 1] w (pg 2 w):=fun w=>w1 2 1 _ (by omega) (by omega) (show x/1000000/10/10=0 by omega) (by decide) (by decide) w;have h3:∀w,Calls Tryz.prog 28 #[I (x%1000000),I 6] w (pg 6 w):=fun w=>w1 6 6 _ (by omega) (by omega) (show x%1000000/10/10/10/10/10/10=0 by omega) (by decide) (by decide) w;have mL:=ao fL;have H1:=ao h2;have bp:=ao h3;clear fL h2 h3 aF au;rcases hx with ⟨rfl,hx⟩|⟨rfl,hx⟩
 all_goals
  cases bP:((x%1000000) !=0)
  all_goals
   go_enter Tryz.func27,Tryz.ntmps27
   go_wp2_with (first
    |(go_at_call 44;(with_reducible refine (mL.out _).mono ?_);rintro e w' ⟨rfl,rfl⟩)
    |(go_at_call 28;(with_reducible refine (H1.out _).mono ?_);intro e w' h;obtain⟨S,rfl,hS,rfl⟩:=h.get)
    |(go_at_call 28;(with_reducible refine (bp.out _).mono ?_);intro e w' h;obtain⟨TS,rfl,KQ,rfl⟩:=h.get)
    |(go_at_call 45;(with_reducible refine (atj _ 6 KQ.le (by decide) _).mono ?_);intro e w' h;obtain⟨V,rfl,jK,rfl⟩:=h.get)
    |fail)
   go_ret;exact⟨_,rfl,⟨fZ.to (by decide)⟩,rfl⟩
theorem agf(v:Int)(w:aeo):Calls Tryz.prog 26 #[I v] w (pg 10 w):=by obtain⟨k,aw,gP,dP⟩:∃k,bits .and .i64 v 31=k∧0≤k∧k≤31:=⟨_,rfl,by rw[iL.Hk];omega,by rw[iL.Hk];omega⟩;go_enter Tryz.func26,Tryz.ntmps26;go_wp2_with (go_at_call 27;refine (Xa _ (by omega) (by omega) _).mono ?_;intro e w' h;obtain⟨S,rfl,hS,rfl⟩:=h.get);go_ret;exact⟨S,rfl,hS,rfl⟩
theorem agh(v:Int)(w:aeo):Calls Tryz.prog 65 #[I v] w (pg 10 w):=by obtain⟨k,aw,gP,dP⟩:∃k,bits .and .i64 v 63=k∧0≤k∧k≤63:=⟨_,rfl,by rw[iL.ZJ];omega,by rw[iL.ZJ];omega⟩;go_enter Tryz.func65,Tryz.ntmps65;go_wp2_with (go_at_call 27;refine (Xa _ (by omega) (by omega) _).mono ?_;intro e w' h;obtain⟨S,rfl,hS,rfl⟩:=h.get);go_ret;exact⟨S,rfl,hS,rfl⟩
theorem atl(v:Int)(w:aeo):Calls Tryz.prog 66 #[I v] w (pg 10 w):=by obtain⟨k,aw,gP,dP⟩:∃k,bits .and .i64 v 31=k∧0≤k∧k≤31:=⟨_,rfl,by rw[iL.Hk];omega,by rw[iL.Hk];omega⟩;go_enter Tryz.func66,Tryz.ntmps66;go_wp2_with (go_at_call 27;refine (Xa _ (by omega) (by omega) _).mono ?_;intro e w' h;obtain⟨S,rfl,hS,rfl⟩:=h.get);go_ret;exact⟨S,rfl,hS,rfl⟩
end yA
