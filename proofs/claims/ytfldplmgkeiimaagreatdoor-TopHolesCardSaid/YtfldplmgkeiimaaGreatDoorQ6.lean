/- Lemmas. -/
import Derived.Test.YtfldplmgkeiimaaGreatDoorQ5
import Derived.Test.YtfldplmgkeiimaaGreatDoorShelf
set_option linter.all false
set_option maxRecDepth 100000
set_option maxHeartbeats 12800000
namespace Go.Proofs.YtfldplmgkeiimaaGreatDoor
abbrev Hy:=@IntKind.wrap_u64
abbrev S1:=@of_decide_eq_true
abbrev Oq:=@eq_iff_iff
abbrev Ot:=@Bool.or_false
abbrev uR:=@if_true
abbrev tC:=@beq_iff_eq
abbrev S2:=@Bool.and_self
namespace dE
open Go.RowKit el
abbrev CL(n:Nat):Value:=.agg #[.int .u64 ((n/18446744073709551616:Nat):Int),.int .u64 ((n%18446744073709551616:Nat):Int)]
theorem ajk(v:Int)(h:-9223372036854775808<v∧v≤9223372036854775807)(n:Nat)(hn:J (v.natAbs=n))(w:bTo):
  Calls Tryz.prog 322 #[I v] w fun e w'=>e=bb (.int .u64 (n:Int))∧w'=w:=by
 by_cases aQ:v<0
 ·have aN:IntKind.u64.wrap v=v+18446744073709551616:=(by rw[Hy];omega);have aR:IntKind.u64.wrap (-(v+18446744073709551616))=(n:Int):=(by rw[Hy];have:=hn.out;omega);clear h hn;go_enter Tryz.func322,Tryz.ntmps322;go_wp2_with fail;go_ret;exact⟨rfl,rfl⟩
 ·have aN:IntKind.u64.wrap v=(n:Int):=(by rw[Hy];have:=hn.out;omega);clear h hn;go_enter Tryz.func322,Tryz.ntmps322;go_wp2_with fail;go_ret;exact⟨rfl,rfl⟩
theorem S3(x y:Nat)(hx:x<18446744073709551616)(hy:y<18446744073709551616)(n:Nat)(hn:J (x *y=n))(w:bTo):
  Calls Tryz.prog 313 #[.int .u64 (x:Int),.int .u64 (y:Int)] w fun e w'=>e=bb (CL n)∧av w w w':=by
 have hc:=Tryz.bits_Mul64 x y hx hy;rw[hn.out] at hc;obtain⟨hi,Ku⟩:=az (n/18446744073709551616);obtain⟨lo,Kv⟩:=az (n%18446744073709551616);unfold CL;rw[Ku,Kv] at hc⊢;have bq:=U hc;clear hc Ku Kv hn hx hy;go_enter Tryz.func313,Tryz.ntmps313;go_wp2_with fail;go_fit (bq.out _);rintro e bE ⟨rfl,rfl⟩;go_wp2_with fail;have key:=cw w (aD (#[.int .u64 (hi:Int),.int .u64 (lo:Int)]) 426);exact dH (rq rfl _ _ w.heap.size _ _ _ _ rfl key Tryz.underlying426 rfl (by kernel_rfl)) rfl ⟨rfl,jq _ _⟩
theorem Zd(v:Int)(h:-9223372036854775808<v∧v≤9223372036854775807)(n:Nat)(hn:J (v.natAbs *v.natAbs=n))(w:bTo):
  Calls Tryz.prog 310 #[I v] w fun e w'=>e=bb (CL n)∧av w w w':=by
 obtain⟨m,hm⟩:=az v.natAbs;have hA:=ajk v h m (U hm);have bJ:=S3 m m (by omega) (by omega) n (by show _=_;rw[←hn.out,hm]);unfold CL at bJ⊢;obtain⟨hi,Ku⟩:=az (n/18446744073709551616);obtain⟨lo,Kv⟩:=az (n%18446744073709551616);rw[Ku,Kv] at bJ⊢;have b8:=U hA;have aH:=U bJ;clear hA bJ Ku Kv hm hn h;go_enter Tryz.func310,Tryz.ntmps310;go_wp2_with fail;go_fit (b8.out _);rintro e bE ⟨rfl,rfl⟩;go_wp2_with fail;go_fit (aH.out _);rintro e cr ⟨rfl,af⟩;have br:=U (aO (cw w (aD (#[.int .u64 0,.int .u64 0]) 426)) af);have ajl:J (av w w cr):=(jq _ _).trans (af.mono (by simp));clear af;have aJ:=(Es br.out);obtain⟨aJ,aI,f0,f1⟩:=aJ;go_wp2_with fail;have key:=me [.int .u64 (hi:Int),.int .u64 (lo:Int)] br.out rfl;exact dH (rq rfl _ _ w.heap.size _ _ _ _ rfl key Tryz.underlying426 rfl (by kernel_rfl)) rfl ⟨rfl,pt (m:=0) (b:=w.heap.size) (bD _) [.int .u64 (hi:Int),.int .u64 (lo:Int)] ajl.out⟩
def zB(x y:Int):Int:=if x<y then -1 else if y<x then 1 else 0
theorem Hz(x:Int)(w:bTo):Calls Tryz.prog 333 #[.int .u64 x] w fun e w'=>e=bb (ai false)∧w'=w:=by go_enter Tryz.func333,Tryz.ntmps333;go_wp2_with fail;go_ret;exact⟨by simp,rfl⟩
theorem Ze(x y:Int)(k:Int)(ab:J (zB x y=k))(w:bTo):Calls Tryz.prog 323 #[.int .u64 x,.int .u64 y] w fun e w'=>e=bb (I k)∧w'=w:=by
 have key:∀(aI c2:Bool),J (decide (x<y)=aI)→J (decide (y<x)=c2)→J ((if aI=true then (-1:Int) else if c2=true then 1 else 0)=k)→Calls Tryz.prog 323 #[.int .u64 x,.int .u64 y] w fun e w'=>e=bb (I k)∧w'=w:=by
  intro aI c2 aa ah h;clear ab;have d1:=aa.out;have d2:=ah.out;cases aI
  ·have aN:¬x<y:=of_decide_eq_false d1;cases c2
   ·have cT:J ((0:Int)=k):=h.out;have aR:¬y<x:=of_decide_eq_false d2;clear h aa ah;go_enter Tryz.func323,Tryz.ntmps323;go_wp2_with fail;go_fit (Hz x _);rintro e bE ⟨rfl,rfl⟩;go_wp2_with fail;go_fit (Hz y _);rintro e bE ⟨rfl,rfl⟩;go_wp2_with fail;go_ret;exact⟨fU cT.out,rfl⟩
   ·have cT:J ((1:Int)=k):=h.out;have aR:y<x:=S1 d2;clear h aa ah;go_enter Tryz.func323,Tryz.ntmps323;go_wp2_with fail;go_fit (Hz x _);rintro e bE ⟨rfl,rfl⟩;go_wp2_with fail;go_fit (Hz y _);rintro e bE ⟨rfl,rfl⟩;go_wp2_with fail;go_ret;exact⟨fU cT.out,rfl⟩
  ·have aN:x<y:=S1 d1;have cT:J ((-1:Int)=k):=h.out;clear h aa ah d2;go_enter Tryz.func323,Tryz.ntmps323;go_wp2_with fail;go_fit (Hz x _);rintro e bE ⟨rfl,rfl⟩;go_wp2_with fail;go_fit (Hz y _);rintro e bE ⟨rfl,rfl⟩;go_wp2_with fail;go_ret;exact⟨fU cT.out,rfl⟩
 refine key _ _ rfl rfl ?_;show _=_;rw[←ab.out];simp only[zB,gH]
theorem ajm(a b:Nat):zB a b=if ((a/18446744073709551616:Nat):Int)=((b/18446744073709551616:Nat):Int) then zB ((a%18446744073709551616:Nat):Int) ((b%18446744073709551616:Nat):Int) else zB ((a/18446744073709551616:Nat):Int) ((b/18446744073709551616:Nat):Int):=by unfold zB;split<;>split<;>(try split)<;>(try split)<;>first|rfl|(split<;>first|rfl|omega)|omega
theorem Zf(a b:Nat)(k:Int)(ab:J (zB a b=k))(w:bTo):Calls Tryz.prog 312 #[CL a,CL b] w fun e w'=>e=bb (I k)∧av w w w':=by
 have h:=ab.out;rw[ajm] at h;unfold CL;obtain⟨Ou,aa⟩:∃z:Int,((a/18446744073709551616:Nat):Int)=z:=⟨_,rfl⟩;obtain⟨al,ah⟩:∃z:Int,((a%18446744073709551616:Nat):Int)=z:=⟨_,rfl⟩;obtain⟨Ov,ax⟩:∃z:Int,((b/18446744073709551616:Nat):Int)=z:=⟨_,rfl⟩;obtain⟨hq,bg⟩:∃z:Int,((b%18446744073709551616:Nat):Int)=z:=⟨_,rfl⟩;simp only[aa,ah,ax,bg] at h⊢;clear aa ah ax bg ab;by_cases c:Ou=Ov
 ·rw[aT c] at h;have cT:=U h;have hne:(Ou !=Ov)=false:=(by simp[c]);clear h;go_enter Tryz.func312,Tryz.ntmps312;go_wp2_with fail;go_fit (Ze al hq k cT _);rintro e bE ⟨rfl,rfl⟩;go_wp2_with fail;go_ret;exact⟨rfl,k5 _ _ _⟩
 ·rw[aK c] at h;have cT:=U h;have hne:(Ou !=Ov)=true:=(by simp[c]);clear h;go_enter Tryz.func312,Tryz.ntmps312;go_wp2_with fail;go_fit (Ze Ou Ov k cT _);rintro e bE ⟨rfl,rfl⟩;go_wp2_with fail;go_ret;exact⟨rfl,k5 _ _ _⟩
theorem Zg(a b:Nat):decide (zB a b≤0)=decide ((a:Int)≤b):=by
 unfold zB;by_cases h:(a:Int)<b
 ·rw[aT h,eH (by decide),eH (by omega)]
 ·rw[aK h];by_cases g:(b:Int)<a
  ·rw[aT g,eD (by decide),eD (by omega)]
  ·rw[aK g,eH (by decide),eH (by omega)]
theorem Zh(r:Int)(h:1≤r∧r≤536870912)(q:Int)(aC:J (r *r=q))(w:bTo):Calls Tryz.prog 276 #[I r] w fun e w'=>e=bb (I q)∧w'=w:=by
 have hm:min r 2147483648=r:=by omega
 have hs:=Cp (x:=r) ⟨by omega,by omega⟩;have hw:bT (r *r)=r *r:=b4 _ (by omega);clear hs h;go_enter Tryz.func276,Tryz.ntmps276;go_wp2_with fail;go_ret;exact⟨fU aC.out,rfl⟩
theorem EM{p:bp}(h:dw p):e4 p.1∧e4 p.2:=NV h
theorem Zi(p q:bp)(hp:dw p)(aC:dw q)(d:Int)(hd:J (kn p q=d))(w:bTo):
  Calls Tryz.prog 309 #[fA p,fA q] w fun e w'=>e=bb (I d)∧av w w w':=by
 have f1:=G6 hp aC;have f2:=G7 hp aC;have ip:=EM hp;have Kw:=EM aC;obtain⟨bW,bU⟩:=p;obtain⟨cY,cZ⟩:=q;obtain⟨j1,hx⟩:=az (mT bW cY cY);obtain⟨j2,hy⟩:=az (mT bU cZ cZ);have bP:=NU bW cY;have a8:=NU bU cZ;rw[hx] at bP;rw[hy] at a8;have cI:J (j1 *j1+j2 *j2=d):=by show _=_;rw[bP.1,a8.1,←hd.out];rfl
 have G:=U (NT cY cZ cY cZ bW bU ⟨Kw.1,Kw.2,Kw.1,Kw.2⟩ ip j1 j2 hx hy (bP.2 f1) (a8.2 f2) d cI);clear bP a8 f1 f2 hp aC ip Kw hx hy cI hd;go_enter Tryz.func309,Tryz.ntmps309;go_wp2_with fail;go_fit (G.out _);rintro e w' ⟨rfl,af⟩;have aH:J (av w w w'):=(((Below.refl _ _).alloc (bD _) _).alloc (by simp) _).trans (af.mono (by simp<;>omega));clear af;go_wp2_with fail;go_ret;exact⟨rfl,aH.out⟩
theorem EN{a b c d:Int}(ha:-1073741824≤a∧a≤1073741824)(af:-1073741824≤b∧b≤1073741824)(hc:-1073741824≤c∧c≤1073741824)(hd:-1073741824≤d∧d≤1073741824):
  bT (a *b)=a *b∧bT (c *d)=c *d∧bT (a *b+c *d)=a *b+c *d∧bT (a *b-c *d)=a *b-c *d∧(-2305843009213693952≤a *b+c *d∧a *b+c *d≤2305843009213693952)∧-2305843009213693952≤a *b-c *d∧a *b-c *d≤2305843009213693952:=by
 have m1:=AW ha af;have m2:=AW hc hd;exact⟨b4 _ (by omega),b4 _ (by omega),b4 _ (by omega),b4 _ (by omega),by omega,by omega⟩
theorem CM{a:Int}(ha:-1073741824≤a∧a≤1073741824):0≤a *a:=by
 rcases Int.le_total 0 a with h|h
 ·exact hL h h
 ·exact Int.mul_nonneg_of_nonpos_of_nonpos h h
theorem Zj(v:Int):((v.natAbs *v.natAbs:Nat):Int)=v *v:=by rw[Int.natAbs_mul_self]
theorem Ow(n:Nat)(h:n<18446744073709551616):IntKind.u64.wrap (n:Int)=(n:Int):=by rw[Hy];omega
abbrev Ox(w0:bTo)(k:Nat)(hi lo:Int)(Z:bTo):Prop:=Z.cell? ⟨k,0,none⟩=some (.int .u64 hi)∧aw Z k 1 (.int .u64 lo)∧av w0 w0 Z
theorem S4{w0:bTo}{k:Nat}{hi lo:Int}{v Z:bTo}(af:av v v Z)(h:Ox w0 k hi lo v):Ox w0 k hi lo Z:=
 ⟨bM af h.1,bM af h.2.1,h.2.2.trans (af.mono h.2.2.size)⟩
theorem ajn(p a c:bp)(r:Int)(hp:dw p)(ha:dw a)(hc:dw c)(hr:1≤r∧r≤536870912)(f:Bool)(hf:J (zf p a c r=f))(w:bTo):
  Calls Tryz.prog 275 #[fA p,fA a,fA c,I r] w fun e w'=>e=bb (ai f)∧av w w w':=by
 obtain⟨q,aC⟩:=az (r *r);obtain⟨d1,aa⟩:=az (kn p a);obtain⟨d2,ah⟩:=az (kn p c);obtain⟨al,rA⟩:=az (Cn a c p);obtain⟨am,uS⟩:=az (kn c a);obtain⟨iq,qJ⟩:=az (dN a c p);have S5:=U (Zi p a hp ha d1 (U aa));have ajo:=U (Zi p c hp hc d2 (U ah));have Kx:=U (xU a c p ha hc hp iq (U qJ));have S6:=U (Zh r hr q (U aC));have aE:J ((if al≤0 then decide (d1≤q) else if am≤al then decide (d2≤q) else decide (iq *iq≤q *am))=f):=by show _=_;rw[←hf.out,←aa,←ah,←rA,←uS,←qJ,←aC];rfl
 obtain⟨bW,bU⟩:=p;obtain⟨aA,aB⟩:=a;obtain⟨cx,aP⟩:=c;unfold dw at hp ha hc;simp only at hp ha hc;have aN:bT (cx-aA)=cx-aA:=b4 _ (by omega);have aR:bT (aP-aB)=aP-aB:=b4 _ (by omega);have cA:bT (bW-aA)=bW-aA:=b4 _ (by omega);have hN:bT (bU-aB)=bU-aB:=b4 _ (by omega);obtain⟨m1,m2,m3,_,m4,_⟩:=EN (a:=bW-aA) (b:=cx-aA) (c:=bU-aB) (d:=aP-aB) (by omega) (by omega) (by omega) (by omega);obtain⟨dK,e',n3,_,n4,_⟩:=EN (a:=cx-aA) (b:=cx-aA) (c:=aP-aB) (d:=aP-aB) (by omega) (by omega) (by omega) (by omega);have CN:(bW-aA) *(cx-aA)+(bU-aB) *(aP-aB)=al:=rA;have S7:(cx-aA) *(cx-aA)+(aP-aB) *(aP-aB)=am:=uS;have s1:=CM (a:=cx-aA) (by omega);have s2:=CM (a:=aP-aB) (by omega);obtain⟨_,_,_,_,_,ar⟩:=EN (a:=cx-aA) (b:=bU-aB) (c:=aP-aB) (d:=bW-aA) (by omega) (by omega) (by omega) (by omega);have S8:(cx-aA) *(bU-aB) -(aP-aB) *(bW-aA)=iq:=qJ;rw[S8] at ar;rw[CN] at m3 m4;rw[S7] at n3 n4;have CO:=Cp (x:=r) ⟨by omega,by omega⟩;rw[aC] at CO;have h4:¬r<1:=by omega
 have Zk:0≤am∧am≤2305843009213693952:=by omega
 have a7:=U CO;have S9:=U Zk;have cV:=U ar;clear hp ha hc hr hf aa ah rA uS qJ aC m4 n4 s1 s2 ar S8 CO Zk;go_enter Tryz.func275,Tryz.ntmps275;go_upto_region 1 with fail;obtain⟨W,a6⟩:=az (((w.alloc (dB (bW,bU))).alloc (dB (aA,aB))).alloc (dB (cx,aP)));obtain⟨t1,t2,t3,t4,t5⟩:=rb a6;have bL:=U t1;have b8:=U t2;have bq:=U t3;have aH:=U t4;simp only[dB] at a6;rw[a6];clear a6 t1 t2 t3 t4 t5;go_wp2_with fail;go_fit (S6.out _);rintro e bE ⟨rfl,rfl⟩;obtain⟨a0,a'⟩:=eP b8.out;obtain⟨aJ,aI⟩:=eP bq.out;simp only at a0 a' aJ aI;go_upto_region 4 with fail
 go_quiet (fail)
 have gN:=U (aO bL.out (gj (Below.refl _ _) nq));have gf:=U (aO b8.out (gj (Below.refl _ _) nq));have ji:=U (aO bq.out (gj (Below.refl _ _) nq));have cm:=U (gj aH.out nq);clear a0 a' aJ aI bL b8 bq aH;generalize bE.drewN nq=V at gN gf ji cm⊢;obtain⟨eK,er⟩:=eP gN.out;obtain⟨a0,a'⟩:=eP gf.out;obtain⟨aJ,aI⟩:=eP ji.out;simp only at eK er a0 a' aJ aI;by_cases b3:al≤0
 ·have hM:J (decide (d1≤q)=f):=(by show _=_;rw[←aE.out,aT b3]);go_wp2_with fail;go_fit (S5.out _);rintro e hG ⟨rfl,af⟩;have c1:J (av w w hG):=cm.out.trans (af.mono cm.out.size);clear af eK er a0 a' aJ aI;go_wp2_with fail;go_ret;exact⟨ej hM.out,c1.out⟩
 ·by_cases bc:am≤al
  ·have hM:J (decide (d2≤q)=f):=(by show _=_;rw[←aE.out,aK b3,aT bc]);go_wp2_with fail;go_fit (ajo.out _);rintro e hG ⟨rfl,af⟩;have c1:J (av w w hG):=cm.out.trans (af.mono cm.out.size);clear af eK er a0 a' aJ aI;go_wp2_with fail;go_ret;exact⟨ej hM.out,c1.out⟩
  ·have hM:J (decide (iq *iq≤q *am)=f):=(by show _=_;rw[←aE.out,aK b3,aK bc]);go_wp2_with fail;go_fit (Kx.out _);rintro e hG ⟨rfl,af⟩;have c1:J (av w w hG):=cm.out.trans (af.mono cm.out.size);clear af eK er a0 a' aJ aI;obtain⟨Ky,S'⟩:=az (iq.natAbs *iq.natAbs);obtain⟨HA,rfl⟩:∃n:Nat,q=n:=⟨q.toNat,by have:=a7.out;omega⟩;obtain⟨HB,rfl⟩:∃n:Nat,am=n:=⟨am.toNat,by have:=S9.out;omega⟩;obtain⟨pn,EO⟩:=az (HA *HB);obtain⟨di,qe⟩:=az (zB Ky pn);have Ta:=U (Zd iq (by have:=cV.out;omega) Ky (U S'));have Tb:=U (S3 HA HB (by have:=a7.out;omega) (by have:=S9.out;omega) pn (U EO));have Oy:=U (Zf Ky pn di (U qe));have e9:J (decide (di≤0)=f):=(by show _=_;rw[←hM.out,←qe,Zg,←S',←EO,Zj,Ev]);have u1:=Ow HA (by have:=a7.out;omega);have u2:=Ow HB (by have:=S9.out;omega);unfold CL at Ta Tb Oy;obtain⟨xY,k7⟩:∃z:Int,((Ky/18446744073709551616:Nat):Int)=z:=⟨_,rfl⟩;obtain⟨xZ,mg⟩:∃z:Int,((Ky%18446744073709551616:Nat):Int)=z:=⟨_,rfl⟩;obtain⟨HC,A2⟩:∃z:Int,((pn/18446744073709551616:Nat):Int)=z:=⟨_,rfl⟩;obtain⟨HD,ob⟩:∃z:Int,((pn%18446744073709551616:Nat):Int)=z:=⟨_,rfl⟩;rw[k7,mg] at Ta Oy;rw[A2,ob] at Tb Oy;clear k7 mg A2 ob S' EO qe;go_wp2_with fail;go_fit (Ta.out _);rintro e kN ⟨rfl,af⟩;have dx:J (av w w kN):=c1.out.trans (af.mono c1.out.size);clear af;go_upto_region 11 with fail;have cI:J (Ox w kN.heap.size xY xZ (kN.alloc (aD (#[.int .u64 xY,.int .u64 xZ]) 426))):=(by obtain⟨ak,aq,_,_⟩:=Es (cw kN (aD (#[.int .u64 xY,.int .u64 xZ]) 426));exact⟨ak,aq,dx.out.alloc dx.out.size _⟩);generalize kN.alloc (.cells #[.int .u64 xY,.int .u64 xZ] 426)=Y at cI⊢;generalize kN.heap.size=K at cI⊢;have ht:=U (S4 (Below.refl _ _).drew cI.out)
   go_region_held3 (fun Z=>Ox w K xY xZ Z) (first|with_reducible exact cI.out|with_reducible exact ht.out|with_reducible exact S4 (by assumption) (by assumption)|with_reducible exact S4 (Below.refl _ _).drew (by assumption)|assumption|fail) (first|(go_at_call 313;go_fit (Tb.out _);rintro e bt ⟨rfl,dT⟩)|(go_at_call 312;go_fit (Oy.out _);rintro e bt ⟨rfl,dT⟩)|fail)
   rename_i hHeld;have ek:=U hHeld.2.2;clear hHeld;go_wp2_with fail;go_ret;exact⟨ej e9.out,ek.out⟩
theorem Tc(b:bR)(p:bp)(aQ:dw (b.ao,b.ak))(aa:dw (b.ar,b.aq))(hp:dw p)(d:Int)(hd:J (ze b p=d))(w:bTo):
  Calls Tryz.prog 260 #[gJ b,fA p] w fun e w'=>e=bb (I d)∧av w w w':=by
 obtain⟨ao,ak,ar,aq⟩:=b;obtain⟨bW,bU⟩:=p;obtain⟨iN,i2,i3,_,i4⟩:=Hw hp.1 aQ.1 aa.1;obtain⟨gL,gM,gC,_,gD⟩:=Hw hp.2 aQ.2 aa.2;exact NT ao ak ar aq bW bU ⟨i2,gM,i3,gC⟩ ⟨iN,gL⟩ _ _ (U rfl) (U rfl) i4 gD d hd w
def i1(d:Nat→Bool):Nat→Int
 |0=>0
 |n+1=>i1 d n+if d n=true then 1 else 0
theorem Zl(d:Nat→Bool):∀n:Nat,0≤i1 d n∧i1 d n≤n
 |0=>by simp[i1]
 |n+1=>by have:=Zl d n;unfold i1;split<;>omega
theorem Oz(ao ak ar aq:Int)(f:bp→Bool):((kX ⟨ao,ak,ar,aq⟩).all f=true)=(i1 (fun k=>f (dV ao ak ar aq k)) 4=4):=by
 simp only[i1,kX,dV,AG,Hn,Cz,gy,Oq];constructor
 ·rintro⟨aa,ah,ax,bg⟩;simp[aa,ah,ax,bg]
 ·intro h
  repeat' split at h
  all_goals first|(refine⟨?_,?_,?_,?_⟩<;>assumption)|omega
theorem ajp(ao ak ar aq:Int)(f:bp→Bool):((kX ⟨ao,ak,ar,aq⟩).any f=true)=(0<i1 (fun k=>f (dV ao ak ar aq k)) 4):=by
 simp only[i1,kX,dV,List.any_cons,List.any_nil,Ot,zu,Oq];constructor
 ·rintro (h|h|h|h)<;>simp only[h,uR]<;>(repeat' split)<;>omega
 ·intro h
  repeat' split at h
  all_goals first|(exact .inl (by assumption))|(exact .inr (.inl (by assumption)))|(exact .inr (.inr (.inl (by assumption))))|(exact .inr (.inr (.inr (by assumption))))|omega
theorem Td{b:bR}(aQ:dw (b.ao,b.ak))(aa:dw (b.ar,b.aq)):∀k,dw (dV b.ao b.ak b.ar b.aq k):=by
 rintro (_|_|_|k)
 ·exact aQ
 ·exact⟨aa.1,aQ.2⟩
 ·exact⟨aQ.1,aa.2⟩
 ·exact aa
theorem ajq(b:bR)(a c:bp)(r:Int)(hx:A0 b)(ha:dw a)(hc:dw c)(hr:1≤r∧r≤536870912)(k:Int)(ab:J (NQ b a c r=k))(w:bTo):
  Calls Tryz.prog 250 #[gJ b,fA a,fA c,I r] w fun e w'=>e=bb (I k)∧av w w w':=by
 have cV:=U hx;have tD:=U ha;have A3:=U hc;have br:=U hr;have CP:=U (Td hx.eK hx.er);obtain⟨q,aC⟩:=az (r *r);obtain⟨d1,aa⟩:=az (ze b a);obtain⟨d2,ah⟩:=az (ze b c);obtain⟨mt,ax⟩:=az (p1 b a c);have uy:=U (Tc b a hx.eK hx.er ha d1 (U aa));have tq:=U (Tc b c hx.eK hx.er hc d2 (U ah));have EP:=U (YY b a c hx.eK hx.er ha hc hx.e mt (U ax));have S6:=U (Zh r hr q (U aC));obtain⟨ao,ak,ar,aq⟩:=b;have cT:J ((if i1 (fun k=>zf (dV ao ak ar aq k) a c r) 4=4 then (2:Int) else if 0<i1 (fun k=>zf (dV ao ak ar aq k) a c r) 4∨d1≤q∨d2≤q∨mt=true then 1 else 0)=k):=by show _=_;rw[←ab.out,←aa,←ah,←ax,←aC];unfold NQ;simp only[Oz,ajp]
 obtain⟨aA,aB⟩:=a;obtain⟨cx,aP⟩:=c;have h4:¬r<1:=by omega
 clear ab hx ha hc hr aC aa ah ax;go_enter Tryz.func250,Tryz.ntmps250;go_upto_region 1 with fail;obtain⟨W,a6⟩:=az (((w.alloc (cH ⟨ao,ak,ar,aq⟩)).alloc (dB (aA,aB))).alloc (dB (cx,aP)));obtain⟨t1,t2,t3,t4,t5⟩:=rb a6;have aH:=U t1;have b8:=U t2;have bq:=U t3;have dC:=U t4;rw[a6];clear a6 t1 t2 t3 t4 t5;obtain⟨bX,b3,bc,ev⟩:=fD aH.out;go_wp2_with fail;go_fit (Kl ⟨ao,ak,ar,aq⟩ (ao,ak) true (U (Ko ao ak ar aq cV.out.e)) _);rintro e V ⟨rfl,af⟩;have cm:=U (aO aH.out af);have gf:=U (aO b8.out af);have ji:=U (aO bq.out af);have zC:J (av w w V):=dC.out.trans (af.mono dC.out.size);clear bX b3 bc ev af aH b8 bq dC;obtain⟨bX,b3,bc,ev⟩:=fD cm.out;go_wp2_with fail;go_fit (Og ⟨ao,ak,ar,aq⟩ _);rintro e hG ⟨rfl,af⟩;have jR:J (av V V hG):=af;clear bX b3 bc ev af;go_wp2_with fail
 go_loopw [9,27] (fun rz i wr=>∃(j:Nat) (L:Int) (aG:bTo),aG=wr∧j≤4∧0≤L∧L≤(j:Int)∧J (i1 (fun k=>zf (dV ao ak ar aq k) (aA,aB) (cx,aP) r) j=L)∧rz=I L∧i=I j∧J (av V V aG)) (fun _ i _=>4 -(intOf i).toNat)
 case atStart=>exact⟨0,0,_,rfl,by decide,by decide,by decide,rfl,rfl,rfl,jR.out⟩
 case round=>
 obtain⟨j,L,aG,rfl,cB,SO,YZ,uO,rfl,rfl,cq⟩:=hrel;obtain⟨a0,a'⟩:=eP (aO gf.out cq.out);obtain⟨aJ,aI⟩:=eP (aO ji.out cq.out);simp only at a0 a' aJ aI;have dK:=lt_of_heap (aO gf.out cq.out);have e':=lt_of_heap (aO ji.out cq.out);by_cases b0:j<4
 ·have ib:(j:Int)<4:=(by omega);obtain⟨cY,cZ,rB⟩:∃cY cZ,dV ao ak ar aq j=(cY,cZ):=⟨_,_,rfl⟩;have oh:∀w,(Instr.index 394 (AX ⟨ao,ak,ar,aq⟩) (I (j:Int))).run Tryz.prog w=.ok (.agg #[I cY,I cZ]) w:=(fun w=>by rw[EH ao ak ar aq j b0 w,rB]);obtain⟨v,aS⟩:=az (zf (cY,cZ) (aA,aB) (cx,aP) r);have OA:=U (ajn (cY,cZ) (aA,aB) (cx,aP) r (by rw[←rB];exact CP.out j) tD.out A3.out br.out v (U aS));have dR:J (i1 (fun k=>zf (dV ao ak ar aq k) (aA,aB) (cx,aP) r) (j+1)=L+(if v=true then 1 else 0)):=(by show _=_;rw[←uO.out,←aS,←rB];rfl);have k6:bT (L+1)=L+1:=b4 _ (by omega);have qd:bT ((j:Int)+1)=(j:Int)+1:=b4 _ (by omega);clear aS rB;go_wp2_with fail;go_fit (OA.out _);rintro e dJ ⟨rfl,e6⟩;have aV:J (av V V dJ):=(cq.out.alloc cq.out.size _).trans (e6.mono (by have:=cq.out.size;simp;omega));clear e6 oh OA;cases v with
  |true=>
   have eW:J (i1 (fun k=>zf (dV ao ak ar aq k) (aA,aB) (cx,aP) r) (j+1)=L+1):=dR.out;go_wp2_with fail;go_round<;>first|exact⟨j+1,L+1,_,rfl,by omega,by omega,by omega,eW,rfl,by go_num,aV.out⟩|(simp[intOf]<;>omega)
  |false=>
   have eW:J (i1 (fun k=>zf (dV ao ak ar aq k) (aA,aB) (cx,aP) r) (j+1)=L):=(by show _=_;rw[dR.out];simp);go_wp2_with fail;go_round<;>first|exact⟨j+1,L,_,rfl,by omega,by omega,by omega,eW,rfl,by go_num,aV.out⟩|(simp[intOf]<;>omega)
 ·obtain rfl:j=4:=(by omega);have hg:J ((if L=4 then (2:Int) else if 0<L∨d1≤q∨d2≤q∨mt=true then 1 else 0)=k):=(by show _=_;rw[←uO.out];exact cT.out);have tE:J (av w w aG):=zC.out.trans (cq.out.mono zC.out.size);clear cT uO;obtain⟨bX,b3,bc,ev⟩:=fD (aO cm.out cq.out);by_cases bg:L=4
  ·have aE:J ((2:Int)=k):=(by show _=_;rw[←hg.out,aT bg]);subst bg;go_wp2_with fail;go_ret;exact⟨fU aE.out,tE.out⟩
  ·have kq:J ((if 0<L∨d1≤q∨d2≤q∨mt=true then (1:Int) else 0)=k):=(by show _=_;rw[←hg.out,aK bg]);clear hg;go_wp2_with fail;go_fit (S6.out _);rintro e bE ⟨rfl,rfl⟩;by_cases aQ:0<L
   ·have aE:J ((1:Int)=k):=(by show _=_;rw[←kq.out,aT (.inl aQ)]);have hd:decide (L > 0)=true:=eH aQ;go_wp2_with fail;go_ret;exact⟨fU aE.out,tE.out⟩
   ·have hd:decide (L > 0)=false:=eD aQ;go_wp2_with fail;go_fit (uy.out _);rintro e kN ⟨rfl,af⟩;have dx:=U (aO (aO cm.out cq.out) af);have Kz:=U (aO (aO gf.out cq.out) af);have nI:=U (aO (aO ji.out cq.out) af);have CQ:J (av w w kN):=tE.out.trans (af.mono tE.out.size);clear af bX b3 bc ev a0 a' aJ aI;obtain⟨bX,b3,bc,ev⟩:=fD dx.out;obtain⟨a0,a'⟩:=eP Kz.out;obtain⟨aJ,aI⟩:=eP nI.out;simp only at a0 a' aJ aI;by_cases g1:d1≤q
    ·have aE:J ((1:Int)=k):=(by show _=_;rw[←kq.out,aT (.inr (.inl g1))]);go_wp2_with fail;go_ret;exact⟨fU aE.out,CQ.out⟩
    ·go_wp2_with fail;go_fit (tq.out _);rintro e CJ ⟨rfl,af⟩;have fq:=U (aO dx.out af);have HE:=U (aO Kz.out af);have iL:=U (aO nI.out af);have Te:J (av w w CJ):=CQ.out.trans (af.mono CQ.out.size);clear af bX b3 bc ev a0 a' aJ aI;obtain⟨bX,b3,bc,ev⟩:=fD fq.out;obtain⟨a0,a'⟩:=eP HE.out;obtain⟨aJ,aI⟩:=eP iL.out;simp only at a0 a' aJ aI;by_cases g2:d2≤q
     ·have aE:J ((1:Int)=k):=(by show _=_;rw[←kq.out,aT (.inr (.inr (.inl g2)))]);go_wp2_with fail;go_ret;exact⟨fU aE.out,Te.out⟩
     ·go_wp2_with fail;go_fit (EP.out _);rintro e Oo ⟨rfl,af⟩;have CR:J (av w w Oo):=Te.out.trans (af.mono Te.out.size);clear af bX b3 bc ev a0 a' aJ aI;cases mt with
      |true=>
       have aE:J ((1:Int)=k):=(by show _=_;rw[←kq.out,aT (.inr (.inr (.inr rfl)))]);go_wp2_with fail;go_ret;exact⟨fU aE.out,CR.out⟩
      |false=>
       have aE:J ((0:Int)=k):=(by show _=_;rw[←kq.out,aK (by simp;omega)]);go_wp2_with fail;go_ret;exact⟨fU aE.out,CR.out⟩
abbrev CS(hi lo:Int):Value:=.agg #[.int .u64 hi,.int .u64 lo]
theorem Tf(iq q am:Int)(hc:-4611686018427387904≤iq∧iq≤4611686018427387904)(aC:0≤q∧q<18446744073709551616)(ha:0≤am∧am<18446744073709551616):
  ∃(xY xZ HC HD di:Int),(∀w,Calls Tryz.prog 310 #[I iq] w fun e w'=>e=bb (CS xY xZ)∧av w w w')∧
   (∀w,Calls Tryz.prog 313 #[.int .u64 q,.int .u64 am] w fun e w'=>e=bb (CS HC HD)∧av w w w')∧
   (∀w,Calls Tryz.prog 312 #[CS xY xZ,CS HC HD] w fun e w'=>e=bb (I di)∧av w w w')∧
   decide (di≤0)=decide (iq *iq≤q *am)∧IntKind.u64.wrap q=q∧IntKind.u64.wrap am=am:=by
 obtain⟨HA,rfl⟩:∃n:Nat,q=n:=⟨q.toNat,by omega⟩;obtain⟨HB,rfl⟩:∃n:Nat,am=n:=⟨am.toNat,by omega⟩;refine⟨_,_,_,_,_,Zd iq (by omega) _ (U rfl),S3 HA HB (by omega) (by omega) _ (U rfl),Zf _ _ _ (U rfl),?_,Ow HA (by omega),Ow HB (by omega)⟩;rw[Zg,Zj,Ev]
theorem ajr(a c:bp)(h:Int)(hne:a≠c)(aF:1≤h)(w:bTo):Calls Tryz.prog 278 #[fA a,fA c,I h] w fun e w'=>e=bb (ai false)∧av w w w':=by
 obtain⟨aA,aB⟩:=a;obtain⟨cx,aP⟩:=c;obtain⟨aN,qF⟩:=az (aA==cx);obtain⟨aR,pj⟩:=az (aB==aP);have af:(aN&&aR)=false:=by cases aN<;>cases aR<;>first|rfl|(exfalso;apply hne;rw[tC] at qF pj;rw[qF,pj])
 have aa:¬h<1:=by omega
 clear hne aF;cases aN<;>cases aR<;>simp only[Cz,Bool.and_false,Bool.true_eq_false,S2] at af<;>(try cases af)
 all_goals
  go_enter Tryz.func278,Tryz.ntmps278;go_wp2_with fail;go_ret;exact⟨rfl,k5 _ _ _⟩
structure ajs(bW bU aA aB cx aP al am:Int):Prop where
 aN:bT (cx-aA)=cx-aA
 aR:bT (aP-aB)=aP-aB
 cA:bT (bW-aA)=bW-aA
 hN:bT (bU-aB)=bU-aB
 m1:bT ((bW-aA) *(cx-aA))=(bW-aA) *(cx-aA)
 m2:bT ((bU-aB) *(aP-aB))=(bU-aB) *(aP-aB)
 m3:bT ((bW-aA) *(cx-aA)+(bU-aB) *(aP-aB))=al
 dK:bT ((cx-aA) *(cx-aA))=(cx-aA) *(cx-aA)
 e':bT ((aP-aB) *(aP-aB))=(aP-aB) *(aP-aB)
 n3:bT ((cx-aA) *(cx-aA)+(aP-aB) *(aP-aB))=am
 n4:0≤am∧am≤2305843009213693952
theorem Zm{bW bU aA aB cx aP al am:Int}(hp:dw (bW,bU))(ha:dw (aA,aB))(hc:dw (cx,aP))(rA:Cn (aA,aB) (cx,aP) (bW,bU)=al)(uS:kn (cx,aP) (aA,aB)=am):ajs bW bU aA aB cx aP al am:=by unfold dw at hp ha hc;simp only at hp ha hc;obtain⟨m1,m2,m3,_,_,_⟩:=EN (a:=bW-aA) (b:=cx-aA) (c:=bU-aB) (d:=aP-aB) (by omega) (by omega) (by omega) (by omega);obtain⟨dK,e',n3,_,n4,_⟩:=EN (a:=cx-aA) (b:=cx-aA) (c:=aP-aB) (d:=aP-aB) (by omega) (by omega) (by omega) (by omega);have CN:(bW-aA) *(cx-aA)+(bU-aB) *(aP-aB)=al:=rA;have S7:(cx-aA) *(cx-aA)+(aP-aB) *(aP-aB)=am:=uS;have s1:=CM (a:=cx-aA) (by omega);have s2:=CM (a:=aP-aB) (by omega);exact⟨b4 _ (by omega),b4 _ (by omega),b4 _ (by omega),b4 _ (by omega),m1,m2,m3.trans CN,dK,e',n3.trans S7,by omega⟩
theorem ajt{p a c:bp}(hp:dw p)(ha:dw a)(hc:dw c){iq:Int}(h:dN a c p=iq):-4611686018427387904≤iq∧iq≤4611686018427387904:=by obtain⟨bW,bU⟩:=p;obtain⟨aA,aB⟩:=a;obtain⟨cx,aP⟩:=c;unfold dw at hp ha hc;simp only at hp ha hc;obtain⟨_,_,_,_,_,ar⟩:=EN (a:=cx-aA) (b:=bU-aB) (c:=aP-aB) (d:=bW-aA) (by omega) (by omega) (by omega) (by omega);have S8:(cx-aA) *(bU-aB) -(aP-aB) *(bW-aA)=iq:=h;omega
theorem aju(p a c:bp)(hp:dw p)(ha:dw a)(hc:dw c)(k:Int)(ab:J (xD p a c=k))(w:bTo):
  Calls Tryz.prog 280 #[fA p,fA a,fA c] w fun e w'=>e=bb (I k)∧av w w w':=by
 obtain⟨al,rA⟩:=az (Cn a c p);obtain⟨am,uS⟩:=az (kn c a);have aE:J ((if al<0 then (-1:Int) else if am<al then 1 else 0)=k):=by show _=_;rw[←ab.out,←rA,←uS];rfl
 obtain⟨bW,bU⟩:=p;obtain⟨aA,aB⟩:=a;obtain⟨cx,aP⟩:=c;obtain⟨aN,aR,cA,hN,m1,m2,m3,dK,e',n3,n4⟩:=Zm hp ha hc rA uS;clear hp ha hc rA uS ab n4;go_enter Tryz.func280,Tryz.ntmps280;go_upto_region 1 with fail;obtain⟨W,a6⟩:=az (((w.alloc (dB (bW,bU))).alloc (dB (aA,aB))).alloc (dB (cx,aP)));obtain⟨t1,t2,t3,t4,t5⟩:=rb a6;have bL:=U t1;have b8:=U t2;have bq:=U t3;have aH:=U t4;simp only[dB] at a6;rw[a6];clear a6 t1 t2 t3 t4 t5;obtain⟨a0,a'⟩:=eP b8.out;obtain⟨aJ,aI⟩:=eP bq.out;simp only at a0 a' aJ aI
 go_quiet (fail)
 have gN:=U (aO bL.out (gj (Below.refl _ _) nq));have gf:=U (aO b8.out (gj (Below.refl _ _) nq));have cm:=U (gj aH.out nq);clear a0 a' aJ aI bL b8 bq aH;generalize W.drewN nq=V at gN gf cm⊢;obtain⟨eK,er⟩:=eP gN.out;obtain⟨a0,a'⟩:=eP gf.out;simp only at eK er a0 a';by_cases b3:al<0
 ·have hM:J ((-1:Int)=k):=(by show _=_;rw[←aE.out,aT b3]);go_wp2_with fail;go_ret;exact⟨fU hM.out,cm.out⟩
 ·by_cases bc:am<al
  ·have hM:J ((1:Int)=k):=(by show _=_;rw[←aE.out,aK b3,aT bc]);go_wp2_with fail;go_ret;exact⟨fU hM.out,cm.out⟩
  ·have hM:J ((0:Int)=k):=(by show _=_;rw[←aE.out,aK b3,aK bc]);go_wp2_with fail;go_ret;exact⟨fU hM.out,cm.out⟩
theorem ajv(p a c:bp)(h:Int)(hp:dw p)(ha:dw a)(hc:dw c)(aF:1≤h∧h≤536870912)(k:Int)(ab:J (xC p a c h=k))(w:bTo):
  Calls Tryz.prog 279 #[fA p,fA a,fA c,I h] w fun e w'=>e=bb (I k)∧av w w w':=by
 obtain⟨al,rA⟩:=az (Cn a c p);obtain⟨am,uS⟩:=az (kn c a);obtain⟨iq,qJ⟩:=az (dN a c p);obtain⟨q,aC⟩:=az (h *h);have Kx:=U (xU a c p ha hc hp iq (U qJ));have hl:=ajt hp ha hc qJ;have aE:J ((if iq *iq≤q *am then (0:Int) else if 0<iq then 1 else -1)=k):=by show _=_;rw[←ab.out,←qJ,←uS,←aC];rfl
 obtain⟨bW,bU⟩:=p;obtain⟨aA,aB⟩:=a;obtain⟨cx,aP⟩:=c;obtain⟨aN,aR,_,_,_,_,_,dK,e',n3,n4⟩:=Zm hp ha hc rA uS;have hm:min h 2147483648=h:=by omega
 have hs:=Cp (x:=h) ⟨by omega,by omega⟩;rw[aC] at hs;have hw:bT (h *h)=q:=by rw[aC];exact b4 _ (by omega)
 obtain⟨xY,xZ,HC,HD,di,g1,g2,g3,g4,u1,u2⟩:=Tf iq q am hl (by omega) (by omega);have uy:=U g1;have tq:=U g2;have EP:=U g3;have e9:J ((if di≤0 then (0:Int) else if 0<iq then 1 else -1)=k):=by show _=_;rw[←aE.out];have:(di≤0)=(iq *iq≤q *am):=(by rw[←decide_eq_decide.1 g4]);simp only[this]
 clear hp ha hc aF rA uS qJ ab aE hl aC hs n4 g1 g2 g3 g4;go_enter Tryz.func279,Tryz.ntmps279;go_upto_region 2 with fail;obtain⟨W,a6⟩:=az (((w.alloc (dB (bW,bU))).alloc (dB (aA,aB))).alloc (dB (cx,aP)));obtain⟨t1,t2,t3,t4,t5⟩:=rb a6;have bL:=U t1;have b8:=U t2;have bq:=U t3;have aH:=U t4;simp only[dB] at a6;rw[a6];clear a6 t1 t2 t3 t4 t5;obtain⟨a0,a'⟩:=eP b8.out;obtain⟨aJ,aI⟩:=eP bq.out;simp only at a0 a' aJ aI
 go_quiet (fail)
 have gN:=U (aO bL.out (gj (Below.refl _ _) nq));have gf:=U (aO b8.out (gj (Below.refl _ _) nq));have ji:=U (aO bq.out (gj (Below.refl _ _) nq));have cm:=U (gj aH.out nq);clear a0 a' aJ aI bL b8 bq aH;generalize W.drewN nq=V at gN gf ji cm⊢;obtain⟨eK,er⟩:=eP gN.out;obtain⟨a0,a'⟩:=eP gf.out;obtain⟨aJ,aI⟩:=eP ji.out;simp only at eK er a0 a' aJ aI;go_wp2_with fail;go_fit (Kx.out _);rintro e hG ⟨rfl,af⟩;have c1:J (av w w hG):=cm.out.trans (af.mono cm.out.size);clear af eK er a0 a' aJ aI;go_wp2_with fail;go_fit (uy.out _);rintro e kN ⟨rfl,af⟩;have dx:J (av w w kN):=c1.out.trans (af.mono c1.out.size);clear af;go_wp2_with fail;go_fit (tq.out _);rintro e CJ ⟨rfl,af⟩;have fq:J (av w w CJ):=dx.out.trans (af.mono dx.out.size);clear af;go_wp2_with fail;go_fit (EP.out _);rintro e Oo ⟨rfl,af⟩;have ek:J (av w w Oo):=fq.out.trans (af.mono fq.out.size);clear af;by_cases b3:di≤0
 ·have hM:J ((0:Int)=k):=(by show _=_;rw[←e9.out,aT b3]);go_wp2_with fail;go_ret;exact⟨fU hM.out,ek.out⟩
 ·by_cases bc:0<iq
  ·have hM:J ((1:Int)=k):=(by show _=_;rw[←e9.out,aK b3,aT bc]);have hd:decide (iq > 0)=true:=eH bc;go_wp2_with fail;go_ret;exact⟨fU hM.out,ek.out⟩
  ·have hM:J ((-1:Int)=k):=(by show _=_;rw[←e9.out,aK b3,aK bc]);have hd:decide (iq > 0)=false:=eD bc;go_wp2_with fail;go_ret;exact⟨fU hM.out,ek.out⟩
end dE
