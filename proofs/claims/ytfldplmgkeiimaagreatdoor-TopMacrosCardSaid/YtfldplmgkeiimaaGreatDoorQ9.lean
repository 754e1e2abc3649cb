/- Lemmas. -/
import Derived.Test.YtfldplmgkeiimaaGreatDoorQ8
import Derived.Laws.Cover1
set_option linter.all false
set_option maxRecDepth 100000
set_option maxHeartbeats 25600000
namespace Go.Proofs.YtfldplmgkeiimaaGreatDoor
abbrev SI:=@List.all_eq_true
abbrev Eo:=@Nat.succ_pos
abbrev uO:=@beq_eq_false_iff_ne
namespace c4
open Go.RowKit dH
theorem ak6(x y:Int):(if y > x then y else x)=max x y:=by rw[Int.max_def];split<;>split<;>omega
theorem ak7(w:aeo)(ts:Array TypeId)(t:aai)(a b c d:Int):(Builtin.max_ ts t #[I a,I b,I c,I d]).run Tryz.prog w=.ok (I (max (max (max a b) c) d)) w:=by simp[Builtin.max_,Builtin.max2,←ak6]
theorem ZX(v lo hi:Int)(h:eY v∧eY lo∧eY hi)(g:Int)(ba:af (Ac v lo hi=g))(w:aeo):Calls Tryz.prog 307 #[I v,I lo,I hi] w fun e w'=>e=ab (I g)∧w'=w:=by
 unfold eY at h;have av:ae (v-lo)=v-lo:=cX _ (by omega);have az:ae (lo-v)=lo-v:=cX _ (by omega);have aF:ae (v-hi)=v-hi:=cX _ (by omega);have bk:ae (hi-v)=hi-v:=cX _ (by omega);have hm:∀w,(Builtin.max_ #[2,2,2,2] 2 #[I (v-lo),I (lo-v),I (v-hi),I (hi-v)]).run Tryz.prog w=.ok (I g) w:=fun w=>by rw[ak7,←ba.out];rfl
 clear h;go_enter Tryz.func307,Tryz.ntmps307;go_wp2_with fail;go_ret;exact⟨rfl,rfl⟩
theorem ZY(r:Int)(h:1≤r∧r≤536870912)(q:Int)(aH:af (r *r=q))(w:aeo):Calls Tryz.prog 270 #[I r] w fun e w'=>e=ab (I q)∧w'=w:=by
 have hm:min r 2147483648=r:=by omega
 have hs:=JZ (x:=r) ⟨by omega,by omega⟩;have hw:ae (r *r)=r *r:=cX _ (by omega);clear hs h;go_enter Tryz.func270,Tryz.ntmps270;go_wp2_with fail;go_ret;exact⟨pA aH.out,rfl⟩
abbrev Of(w0:aeo)(k:Nat)(aD aC aG aE cw ct:Int)(Z:aeo):Prop:=
 Z.cell? ⟨k,0,none⟩=some (I aD)∧ak Z k 1 (I aC)∧ak Z k 2 (I aG)∧ak Z k 3 (I aE)∧ak Z (k+1) 0 (I cw)∧ak Z (k+1) 1 (I ct)∧ao w0 w0 Z
variable{w0 v:aeo}{aD aC aG aE:Int}
theorem SJ{k:Nat}{cw ct:Int}{Z:aeo}(ay:ao v v Z)(h:Of w0 k aD aC aG aE cw ct v):Of w0 k aD aC aG aE cw ct Z:=
 ⟨bP ay h.1,bP ay h.2.1,bP ay h.2.2.1,bP ay h.2.2.2.1,bP ay h.2.2.2.2.1,bP ay h.2.2.2.2.2.1,h.2.2.2.2.2.2.trans (ay.mono h.2.2.2.2.2.2.size)⟩
theorem Og{v lo hi:Int}(h:-536870912≤v∧v≤536870912)(aT:-536870912≤lo∧lo≤536870912)(av:-536870912≤hi∧hi≤536870912):eY v∧eY lo∧eY hi∧p3 (Ac v lo hi)∧p3 (mN v lo hi):=by refine⟨⟨by omega,by omega⟩,⟨by omega,by omega⟩,⟨by omega,by omega⟩,⟨?_,?_⟩,⟨?_,?_⟩⟩<;>first|(unfold Ac;omega)|(unfold mN;split<;>(try split)<;>omega)
theorem ak8(b:bO)(p:bK)(aT:hU (b.aD,b.aC))(av:hU (b.aG,b.aE))(hp:hU p)(d:Int)(hd:af (JF b p=d))(w:aeo):
  Calls Tryz.prog 271 #[h7 b,l1 p] w fun e w'=>e=ab (I d)∧ao w w w':=by
 obtain⟨aD,aC,aG,aE⟩:=b;obtain⟨cw,ct⟩:=p;obtain⟨mx,i2,i3,i4,_⟩:=Og hp.1 aT.1 av.1;obtain⟨gM,gN,gD,gE,_⟩:=Og hp.2 aT.2 av.2;obtain⟨k7,hx⟩:=ar (Ac cw aD aG);obtain⟨k8,hy⟩:=ar (Ac ct aC aE);simp only at mx i2 i3 i4 gM gN gD gE;rw[hx] at i4;rw[hy] at gE;have s1:=JZ i4;have s2:=JZ gE;have bV:ae (k7 *k7)=k7 *k7:=cX _ (by omega);have bY:ae (k8 *k8)=k8 *k8:=cX _ (by omega);have dp:ae (k7 *k7+k8 *k8)=d:=by rw[←hd.out,cX _ (by omega),←hx,←hy];rfl
 have c2:=aq hx;have cC:=aq hy;have bZ:=aq (And.intro mx (And.intro i2 i3));have df:=aq (And.intro gM (And.intro gN gD));clear mx i2 i3 i4 gM gN gD gE s1 s2 hx hy aT av hp;go_enter Tryz.func271,Tryz.ntmps271;go_upto_region 1 with fail;obtain⟨W,br⟩:=ar ((w.alloc (cU ⟨aD,aC,aG,aE⟩)).alloc (eZ (cw,ct)));have bN:af (Of w w.heap.size aD aC aG aE cw ct W):=by have t1:W.heap[w.heap.size]?=some (cU ⟨aD,aC,aG,aE⟩):=(by rw[←br];exact aU (cd _ _) (a' _ _));have t2:W.heap[w.heap.size+1]?=some (eZ (cw,ct)):=(by rw[←br];exact uJ _ _ _);obtain⟨a0,bE,a2,a3⟩:=hb t1;obtain⟨gf,e8⟩:=kv t2;exact⟨a0,bE,a2,a3,gf,e8,by rw[←br];exact nI _ _ _⟩
 rw[br];clear br;have ak9:=aq (SJ (Below.refl _ _).drew bN.out)
 go_region_held3 (fun Z=>Of w w.heap.size aD aC aG aE cw ct Z) (first|with_reducible exact bN.out|with_reducible exact ak9.out|with_reducible exact SJ (by assumption) (by assumption)|with_reducible exact SJ (Below.refl _ _).drew (by assumption)|assumption|fail) (first|(go_at_call 307;with_reducible refine (ZX cw aD aG bZ.out k7 c2 _).mono ?_;rintro e bt ⟨rfl,rfl⟩)|(go_at_call 307;with_reducible refine (ZX ct aC aE df.out k8 cC _).mono ?_;rintro e bt ⟨rfl,rfl⟩)|fail)
 rename_i hHeld;have aO:=aq hHeld.2.2.2.2.2.2;clear hHeld;go_wp2_with fail;go_ret;exact⟨rfl,aO.out⟩
theorem ala(b:bO)(c:bK)(r:Int)(aT:hU (b.aD,b.aC))(av:hU (b.aG,b.aE))(he:rH b=false)(hc:hU c)(hr:1≤r∧r≤536870912)(k:Int)(ax:af (Ad b c r=k))(w:aeo):
  Calls Tryz.prog 248 #[h7 b,l1 c,I r] w fun e w'=>e=ab (I k)∧ao w w w':=by
 have oV:=aq aT;have H1:=aq av;have bm:=aq he;have bz:=aq hc;have bq:=aq hr;obtain⟨aD,aC,aG,aE⟩:=b;obtain⟨cx,bw⟩:=c;obtain⟨mx,i2,i3,_,i4⟩:=Og hc.1 aT.1 av.1;obtain⟨gM,gN,gD,_,gE⟩:=Og hc.2 aT.2 av.2;simp only at mx i2 i3 i4 gM gN gD gE;have alb:af (bO.In ⟨aD,aC,aG,aE⟩):=(⟨i2,gN,i3,gD⟩:bO.In _);have alc:=aq (And.intro mx gM);obtain⟨k7,hx⟩:=ar (mN cx aD aG);obtain⟨k8,hy⟩:=ar (mN bw aC aE);rw[hx] at i4;rw[hy] at gE;obtain⟨zk,zl⟩:=ar (k7 *k7+k8 *k8);obtain⟨Oh,SK⟩:=ar (JF ⟨aD,aC,aG,aE⟩ (cx,bw));obtain⟨q,aH⟩:=ar (r *r);have dn:af ((if q<zk then (0:Int) else if Oh≤q then 2 else 1)=k):=by show _=_;rw[←ax.out,←zl,←SK,←aH,←hx,←hy];rfl
 have c2:=aq hx;have cC:=aq hy;have ald:=aq i4;have ale:=aq gE;have Hp:=aq zl;have alf:=aq SK;have bd:=aq aH;have jd:¬r<1:=by omega
 clear aT av he hc hr mx i2 i3 i4 gM gN gD gE hx hy zl SK aH ax;go_enter Tryz.func248,Tryz.ntmps248;go_upto_region 1 with fail;obtain⟨W,br⟩:=ar ((w.alloc (cU ⟨aD,aC,aG,aE⟩)).alloc (eZ (cx,bw)));have aO:af (ao w w W):=by show Below _ _ _;rw[←br];exact nI _ _ _
 have cc:af (W.heap[w.heap.size]?=some (cU ⟨aD,aC,aG,aE⟩)):=by show _=_;rw[←br];exact aU (cd _ _) (a' _ _)
 have bN:af (W.heap[w.heap.size+1]?=some (eZ (cx,bw))):=by show _=_;rw[←br];exact uJ _ _ _
 rw[br];clear br;obtain⟨a0,bE,a2,a3⟩:=hb cc.out;go_wp2_with fail;with_reducible refine (ZI ⟨aD,aC,aG,aE⟩ (aD,aC) true (aq (ZQ aD aC aG aE bm.out)) _).mono ?_
 rintro e V ⟨rfl,ay⟩;have c6:af (ao w w V):=aO.out.trans (ay.mono aO.out.size);have jc:=aq (aU cc.out ay);have kA:=aq (aU bN.out ay);clear a0 bE a2 a3 ay;obtain⟨a0,bE,a2,a3⟩:=hb jc.out;obtain⟨gf,e8⟩:=kv kA.out;simp only at gf e8;go_wp2_with fail;with_reducible refine (Zg aD aC aG aE cx bw alb.out alc.out k7 k8 c2 cC ald.out ale.out zk Hp _).mono ?_
 rintro e lF ⟨rfl,ay⟩;have cP:af (ao w w lF):=c6.out.trans (ay.mono c6.out.size);have jT:=aq (aU jc.out ay);have lD:=aq (aU kA.out ay);clear a0 bE a2 a3 gf e8 ay;obtain⟨a0,bE,a2,a3⟩:=hb jT.out;obtain⟨gf,e8⟩:=kv lD.out;simp only at gf e8;go_wp2_with fail;with_reducible refine (ZY r bq.out q bd _).mono ?_
 rintro e th ⟨rfl,rfl⟩;by_cases aL:q<zk
 ·have aP:af ((0:Int)=k):=(by show _=_;rw[←dn.out,a8 aL]);go_wp2_with fail;go_ret;exact⟨pA aP.out,cP.out⟩
 ·have iQ:af ((if Oh≤q then (2:Int) else 1)=k):=(by show _=_;rw[←dn.out,aR aL]);go_wp2_with fail;with_reducible refine (ak8 ⟨aD,aC,aG,aE⟩ (cx,bw) oV.out H1.out bz.out Oh alf _).mono ?_
  rintro e Oc ⟨rfl,ay⟩;have e4:af (ao w w Oc):=cP.out.trans (ay.mono cP.out.size);clear a0 bE a2 a3 gf e8 ay;go_wp2_with fail;with_reducible refine (ZY r bq.out q bd _).mono ?_
  rintro e awO ⟨rfl,rfl⟩;by_cases aI:Oh≤q
  ·have aP:af ((2:Int)=k):=(by show _=_;rw[←iQ.out,a8 aI]);go_wp2_with fail;go_ret;exact⟨pA aP.out,e4.out⟩
  ·have aP:af ((1:Int)=k):=(by show _=_;rw[←iQ.out,aR aI]);go_wp2_with fail;go_ret;exact⟨pA aP.out,e4.out⟩
structure Kj(b:bO):Prop where
 gf:hU (b.aD,b.aC)
 e8:hU (b.aG,b.aE)
 e:rH b=false
def xO(b:cJ):Prop:=b.k≠3∧b.k≠4∧b.k≠5
def ti:bc→Prop
 |.nil=>True
 |.cons _ b s r=>xO b∧ti s∧ti r
def qE(s:dK):Prop:=xO s.b∧ti s.p
theorem ti.at{a:Bool}{b:cJ}{s r:bc}:∀{pre:bc},ti (pre.append (.cons a b s r))→xO b∧ti s
 |.nil,h=>⟨h.1,h.2.1⟩
 |.cons _ _ _ q,h=>ti.at (pre:=q) h.2.2
theorem ZZ{p:bK}(h:fZ p=true):hU p:=uC h
def Hq(d:Nat→Bool):Nat→Int
 |0=>0
 |n+1=>Hq d n+if d n=true then 1 else 0
abbrev Oi(hi lo:Int):Value:=.agg #[.int .u64 hi,.int .u64 lo]
def Ep(d:Nat→Int)(v:Int):Nat→Int
 |0=>0
 |n+1=>Ep d v n+if d n=v then 1 else 0
structure SL(S E:Nat→Int)(j:Nat)(fe s0 s1 s2 eD a1 a6:Int):Prop where
 i:Hq (fun k=>decide (S k=0)&&decide (E k=0)) j=fe
 s0:Ep S (-1) j=s0
 s1:Ep S 0 j=s1
 s2:Ep S 1 j=s2
 eD:Ep E (-1) j=eD
 a1:Ep E 0 j=a1
 a6:Ep E 1 j=a6
theorem SL.next{S E:Nat→Int}{j:Nat}{fe s0 s1 s2 eD a1 a6 s e:Int}(h:SL S E j fe s0 s1 s2 eD a1 a6)(hs:S j=s)(he:E j=e):SL S E (j+1) (fe+if s=0∧e=0 then 1 else 0) (s0+if s= -1 then 1 else 0) (s1+if s=0 then 1 else 0) (s2+if s=1 then 1 else 0) (eD+if e= -1 then 1 else 0) (a1+if e=0 then 1 else 0) (a6+if e=1 then 1 else 0):=by
 obtain⟨av,az,aF,bk,b9,cW,eN⟩:=h;subst hs he;refine⟨?_,?_,?_,?_,?_,?_,?_⟩
 ·rw[←av];simp only[Hq,ix,iO]
 ·rw[←az];rfl
 ·rw[←aF];rfl
 ·rw[←bk];rfl
 ·rw[←b9];rfl
 ·rw[←cW];rfl
 ·rw[←eN];rfl
abbrev Kk(w0:aeo)(D:Nat)(d:Bool)(k aW aY bb bh cx bw r:Int)(pl:Ja)(n cl:Nat)(pp:Ja)(m cp:Nat)(g:Nat)(aD aC aG aE:Int)(Z:aeo):Prop:=
 Z.cell? ⟨D,0,none⟩=some (U d)∧ak Z D 1 (I k)∧ak Z D 2 (I aW)∧ak Z D 3 (I aY)∧ak Z D 4 (I bb)∧ak Z D 5 (I bh)∧ak Z D 6 (I cx)∧ak Z D 7 (I bw)∧ak Z D 8 (I r)∧ak Z D 9 (ad pl n cl)∧ak Z D 10 (ad pp m cp)∧ak Z g 0 (I aD)∧ak Z g 1 (I aC)∧ak Z g 2 (I aG)∧ak Z g 3 (I aE)∧ao w0 w0 Z
variable{pl pp:Ja}{n:Nat}
theorem Z0{D:Nat}{d:Bool}{k aW aY bb bh cx bw r:Int}{cl:Nat}{m cp:Nat}{g:Nat}{Z:aeo}(ay:ao v v Z)(h:Kk w0 D d k aW aY bb bh cx bw r pl n cl pp m cp g aD aC aG aE v):Kk w0 D d k aW aY bb bh cx bw r pl n cl pp m cp g aD aC aG aE Z:=by obtain⟨aT,av,az,aF,bk,b9,cW,eN,ff,hJ,Ab,g0,g1,g2,g3,aJ⟩:=h;exact⟨bP ay aT,bP ay av,bP ay az,bP ay aF,bP ay bk,bP ay b9,bP ay cW,bP ay eN,bP ay ff,bP ay hJ,bP ay Ab,bP ay g0,bP ay g1,bP ay g2,bP ay g3,aJ.trans (ay.mono aJ.size)⟩
theorem Z1{D:Nat}{d:Bool}{k aW aY bb bh cx bw r:Int}{cl:Nat}{m cp:Nat}{g:Nat}(h:Kk w0 D d k aW aY bb bh cx bw r pl n cl pp m cp g aD aC aG aE v):ao w0 w0 v:=h.2.2.2.2.2.2.2.2.2.2.2.2.2.2.2
theorem Z2{w:aeo}{k:Nat}{v0 v1 v2 v3 v4 v5 v6 db c8 v9 v10:ada}{t:aai}(h:an w k (#[v0,v1,v2,v3,v4,v5,v6,db,c8,v9,v10]) t):
  ak w k 0 v0∧ak w k 1 v1∧ak w k 2 v2∧ak w k 3 v3∧ak w k 4 v4∧ak w k 5 v5∧ak w k 6 v6∧ak w k 7 db∧ak w k 8 c8∧ak w k 9 v9∧ak w k 10 v10:=by
 refine⟨?_,?_,?_,?_,?_,?_,?_,?_,?_,?_,?_⟩<;>simp[World.cell?,h]
variable{b:cJ}
theorem Z3(h:ho b=true)(ax:b.k=1):hU b.a∧1≤b.r∧b.r≤536870912:=by unfold ho at h;rw[a8 ax] at h;simp only[ix,vJ,iO] at h;exact⟨ZZ h.1,h.2⟩
theorem Z4(h:ho b=true)(ax:b.k=2):∀c∈b.l,∀q∈c,hU q:=by unfold ho at h;rw[aR (by omega),a8 ax] at h;intro c hc q aH;unfold vK at h;simp only[ix,SI] at h;exact ZZ (h.2 c hc q aH)
theorem SM(h:ho b=true):b.k=1∨b.k=2∨b.k=3∨b.k=4∨b.k=5:=by
 unfold ho at h
 repeat' split at h
 all_goals first|omega|cases h
theorem Oj{a:Bool}{b:cJ}{s r:bc}{f:Nat}:∀{pre:bc} {n m:Int},hI (pre.append (.cons a b s r)) f n=some m→∃n' cS,kN b s f n'=some cS
 |.nil,n,m,h=>by
  rw[bc.append,G6] at h;cases av:kN b s f n with
  |none=>rw[av] at h;cases h
  |some k=>exact⟨n,k,av⟩
 |.cons hq bg s' fP,n,m,h=>by
  rw[bc.append,G6] at h;cases av:kN bg s' f n with
  |none=>rw[av] at h;cases h
  |some k=>rw[av] at h;exact Oj (pre:=fP) h
theorem alg(x:bO)(b:cJ)(ax:b.k=6)(sub:Int):BZ x b sub=sub:=by unfold BZ;rw[aR (by omega),aR (by omega),aR (by omega),aR (by omega),aR (by omega)]
theorem alh(x:bO)(hx:Kj x)(N:Nat):∀(s:bc),s.count<N→∀(b:cJ) (f:Nat) (left m:Int) (S:afp) (pl:Ja) (cl:Nat) (pp:Ja) (cp:Nat) (w:aeo) (k:Int),
  xO b→ti s→af (kN b s f left=some m)→af (dv S w pl cl pp cp ⟨b,s⟩)→af (DP x ⟨b,s⟩=k)→
  Calls Tryz.prog 217 #[iD b (ad pl b.l.length cl) (ad pp s.len cp),h7 x] w fun e w'=>e=ab (I k)∧ao w w w':=by
 induction N with
 |zero=>intro s hs;exact absurd hs (nB _)
 |succ N cT=>
 intro s hs b f left m S pl cl pp cp w k Kl tj bl ek ax;have xB:=aq cT;have wk:=aq hs;have Er:=aq Kl;have AJ:=aq tj;clear cT hs Kl tj;have c2:=aq hx;obtain⟨_,_,AK,AL⟩:=AB bl.out;clear bl;obtain⟨aD,aC,aG,aE⟩:=x;obtain⟨dU,⟨aW,aY⟩,⟨bb,bh⟩,⟨cx,bw⟩,r,l⟩:=b;have aA:=ax.out;clear ax;unfold DP at aA;simp only at aA AK AL;obtain⟨n,hn⟩:=ar l.length;have bf:=aq hn;obtain⟨fE,oc⟩:=ar s.len;have k9:=aq oc;show Calls _ _ #[.agg #[I dU,I aW,I aY,I bb,I bh,I cx,I bw,I r,ad pl l.length cl,ad pp s.len cp],h7 ⟨aD,aC,aG,aE⟩] w _;rw[hn,oc];clear hn oc;by_cases cW:dU=6
 ·have bN:=aq (AL cW).2;have dn:af (pV ⟨aD,aC,aG,aE⟩ s 0=k):=(by show _=_;rw[←aA];exact (alg _ _ cW _).symm);subst cW;clear AK AL aA;have n9:fE≤1000000000:=(by rw[←k9.out];exact ek.out.p.1);go_enter Tryz.func217,Tryz.ntmps217;go_upto_region 12 with fail;obtain⟨W,br⟩:=ar ((w.alloc (ai (#[I 6,I aW,I aY,I bb,I bh,I cx,I bw,I r,ad pl n cl,ad pp fE cp]) dz)).alloc (cU ⟨aD,aC,aG,aE⟩));have aO:af (ao w w W):=(by show Below _ _ _;rw[←br];exact nI _ _ _);have cc:af (an W w.heap.size (#[I 6,I aW,I aY,I bb,I bh,I cx,I bw,I r,ad pl n cl,ad pp fE cp]) dz):=(by show _=_;rw[←br];exact aU (cd _ _) (a' _ _));have bz:af (W.heap[w.heap.size+1]?=some (cU ⟨aD,aC,aG,aE⟩)):=(by show _=_;rw[←br];exact uJ _ _ _);rw[br];clear br;obtain⟨g0,g1,g2,g3,g4,g5,g6,g7,g8,g9⟩:=dZ cc.out;go_wp2_with fail
  go_loopw [5,59] (fun acc i wr=>∃(pre fU:bc) (v:Int) (j:Nat) (aK:aeo),aK=wr∧af (s=pre.append fU)∧af (pre.len=j)∧af (pV ⟨aD,aC,aG,aE⟩ fU v=k)∧acc=I v∧i=I j∧af (ao W W aK)) (fun _ i _=>fE -(intOf i).toNat)
  case atStart=>exact⟨.nil,s,0,0,_,rfl,rfl,rfl,dn.out,rfl,rfl,Below.refl _ _⟩
  case round=>
  obtain⟨pre,fU,v,j,aK,rfl,iS,df,b0,rfl,rfl,cC⟩:=hrel;clear g0 g1 g2 g3 g4 g5 g6 g7 g8 g9;cases fU with
  |nil=>
   have nD:j=fE:=(by rw[←k9.out,←df.out,iS.out,bc.append_nil]);have aP:af (v=k):=b0.out;subst nD;go_wp2_with fail;go_ret;exact⟨pA aP.out,aO.out.trans (cC.out.mono aO.out.size)⟩
  |cons a bg sub fP=>
   have q9:j<fE:=(by rw[←k9.out,←df.out,iS.out,bc.ue];simp only[bc.len];omega);have NZ:(j:Int)<(fE:Int):=(by omega);have Km:ao w w aK:=aO.out.trans (cC.out.mono aO.out.size);have iF:hM S aK pp (pre.append (.cons a bg sub fP)):=(by rw[←iS.out];exact ek.out.p.below Km);obtain⟨hz,lv,ql,dl,qp,cK,rfl,q',_,qA,aN,aL,aI,c3,bJ,c5,b2,b',bX,bj,cu⟩:=iF.part df.out;have v7:=aq qA;obtain⟨dy,m1,jm⟩:=Oj (show hI (pre.append (.cons a bg sub fP)) (f+1) (left-1)=some m by rw[←iS.out];exact bN.out);have Es:af (xO bg∧ti sub):=ti.at (pre:=pre) (by rw[←iS.out];exact AJ.out);have fV:sub.count<N:=(by have av:=wk.out;rw[iS.out,bc.count_append] at av;simp only[bc.count] at av;omega);obtain⟨bU,eI⟩:=ar (DP ⟨aD,aC,aG,aE⟩ ⟨bg,sub⟩);obtain⟨a7,fT⟩:=ar (nZ v bU a);have iQ:=aq fT;have lx:af (pV ⟨aD,aC,aG,aE⟩ fP a7=k):=(by show _=_;rw[←b0.out,←fT,←eI];rfl);have xE:af (s=(pre.append (.cons a bg sub .nil)).append fP):=(by show _=_;rw[iS.out,bc.append_assoc];rfl);have ja:af ((pre.append (.cons a bg sub .nil)).len=j+1):=(by show _=_;rw[bc.ue,df.out];rfl);obtain⟨cL,fv⟩:=ar bg.l.length;obtain⟨ik,nK⟩:=ar sub.len;have kB:af (∀Z,ao aK aK Z→Calls Tryz.prog 217 #[.agg #[I bg.k,I bg.a.1,I bg.a.2,I bg.b.1,I bg.b.2,I bg.c.1,I bg.c.2,I bg.r,ad ql cL dl,ad qp ik cK],h7 ⟨aD,aC,aG,aE⟩] Z fun e w'=>e=ab (I bU)∧ao Z Z w'):=(by intro Z eG;rw[←fv,←nK];exact xB.out sub fV bg (f+1) dy m1 S ql dl qp cK Z bU Es.out.1 Es.out.2 (aq jm) (aq (v7.out.below eG)) (aq eI));rw[fv] at bj;rw[nK] at cu;clear iF qA jm eI fT fv nK Km;obtain⟨a0,bE,a2,a3⟩:=hb (aU bz.out cC.out);have z1:=lt_of_heap (aU bz.out cC.out);go_upto_region 16 with fail;have fo:af (Kk aK aK.heap.size a bg.k bg.a.1 bg.a.2 bg.b.1 bg.b.2 bg.c.1 bg.c.2 bg.r ql cL dl qp ik cK (w.heap.size+1) aD aC aG aE (aK.alloc (ai (#[U a,I bg.k,I bg.a.1,I bg.a.2,I bg.b.1,I bg.b.2,I bg.c.1,I bg.c.2,I bg.r,ad ql cL dl,ad qp ik cK]) eQ))):=(by obtain⟨eD,a1,a6,ch,gw,na,js,tk,lf,jU,tl⟩:=Z2 (cd aK (ai (#[U a,I bg.k,I bg.a.1,I bg.a.2,I bg.b.1,I bg.b.2,I bg.c.1,I bg.c.2,I bg.r,ad ql cL dl,ad qp ik cK]) eQ));have ay:=a' aK (ai (#[U a,I bg.k,I bg.a.1,I bg.a.2,I bg.b.1,I bg.b.2,I bg.c.1,I bg.c.2,I bg.r,ad ql cL dl,ad qp ik cK]) eQ);exact⟨eD,a1,a6,ch,gw,na,js,tk,lf,jU,tl,bP ay a0,bP ay bE,bP ay a2,bP ay a3,ay⟩);generalize aK.alloc (.cells #[U a,I bg.k,I bg.a.1,I bg.a.2,I bg.b.1,I bg.b.2,I bg.c.1,I bg.c.2,I bg.r,ad ql cL dl,ad qp ik cK] eQ)=cm at fo⊢;have tm:=aq (Z0 (Below.refl _ _).drew fo.out);clear a0 bE a2 a3 aN aL aI c3 bJ c5 b2 b' bX bj cu
   go_region_held3 (fun Z=>Kk aK aK.heap.size a bg.k bg.a.1 bg.a.2 bg.b.1 bg.b.2 bg.c.1 bg.c.2 bg.r ql cL dl qp ik cK (w.heap.size+1) aD aC aG aE Z) (first|with_reducible exact fo.out|with_reducible exact tm.out|with_reducible exact Z0 (by assumption) (by assumption)|assumption|fail) (first|(go_at_call 217;with_reducible refine (kB.out _ (Z1 (by assumption))).mono ?_;rintro e bt ⟨rfl,dS⟩)|(go_at_call 173;with_reducible refine (ZT v bU a a7 iQ _).mono ?_;rintro e bt ⟨rfl,rfl⟩)|fail)
   rename_i hHeld;have aX:af (ao W W bt):=cC.out.trans ((Z1 hHeld).mono cC.out.size);clear hHeld fo tm;go_wp2_with fail;go_round<;>first|exact⟨_,fP,a7,j+1,_,rfl,xE.out,ja.out,lx.out,rfl,by go_num,aX.out⟩|(simp[intOf]<;>omega)
 ·have jS:=(AK cW).1;clear AL AK;rcases SM jS with h|h|h|h|h<;>simp only at h<;>subst h
  ·obtain⟨ha,hr⟩:=Z3 jS rfl;have ali:=aq ha;have bq:=aq hr;have dn:af (Ad ⟨aD,aC,aG,aE⟩ (aW,aY) r=k):=aA;clear jS ha hr aA;go_enter Tryz.func217,Tryz.ntmps217;go_wp2_with fail;with_reducible refine (ala ⟨aD,aC,aG,aE⟩ (aW,aY) r c2.out.gf c2.out.e8 c2.out.e ali.out bq.out k dn _).mono ?_
   rintro e V ⟨rfl,ay⟩;go_wp2_with fail;go_ret;exact⟨rfl,(nI _ _ _).trans (ay.mono (by simp;omega))⟩
  ·have bz:=aq (Z4 jS rfl);have dn:af (BY ⟨aD,aC,aG,aE⟩ l=k):=aA;have dT:=aq ek.out.l;clear jS aA;go_enter Tryz.func217,Tryz.ntmps217;go_wp2_with fail;with_reducible refine (ak0 S ⟨aD,aC,aG,aE⟩ c2.out.gf c2.out.e8 c2.out.e pl l n cl bf.out.symm bz.out _ (aq (dT.out.below (nI _ _ _))) k dn).mono ?_
   rintro e V ⟨rfl,ay⟩;go_wp2_with fail;go_ret;exact⟨rfl,(nI _ _ _).trans (ay.mono (by simp;omega))⟩
  ·exact absurd rfl Er.out.1
  ·exact absurd rfl Er.out.2.1
  ·exact absurd rfl Er.out.2.2
theorem alj(S:afp)(x:bO)(hx:Kj x)(b:cJ)(s:bc)(hn:qE ⟨b,s⟩)(eC:okV ⟨b,s⟩=true)(pl:Ja)(cl:Nat)(pp:Ja)(cp:Nat)(w:aeo)(ek:af (dv S w pl cl pp cp ⟨b,s⟩))(k:Int)(ax:af (DP x ⟨b,s⟩=k)):
  Calls Tryz.prog 217 #[iD b (ad pl b.l.length cl) (ad pp s.len cp),h7 x] w fun e w'=>e=ab (I k)∧ao w w w':=by
 unfold okV at eC;rw[show bc.one true ⟨b,s⟩=.cons true b s .nil from rfl,G6] at eC;cases hm:kN b s 0 1000 with
 |none=>rw[hm] at eC;simp at eC
 |some m=>exact alh x hx (s.count+1) s (G4 _) b 0 1000 m S pl cl pp cp w k hn.1 hn.2 (aq hm) ek ax
theorem alk(h:k0 b n=true)(ax:b.k≠2):b.l=[]:=by
 cases aA:b.l with
 |nil=>rfl
 |cons c l=>
  exfalso;unfold k0 at h;rw[a8 (.inl ⟨ax,by rw[aA];exact Eo _⟩)] at h;cases h
theorem alm{s:bc}(h:k0 b s.len=true)(ax:b.k≠6):s=.nil:=by
 cases s with
 |nil=>rfl
 |cons a bg s' fP=>
  exfalso;unfold k0 at h;rw[a8 (.inr ⟨ax,Eo _⟩)] at h;cases h
theorem aln(aW aY bb bh r:Int)(ha:hU (aW,aY))(hr:1≤r∧r≤536870912)(cx bw:Int)(pl:Ja)(n cl:Nat)(pp:Ja)(m cp:Nat)(w:aeo)(o:bO)(bl:af (ml (aW,aY) (aW,aY) r=o)):
  Calls Tryz.prog 170 #[.agg #[I 1,I aW,I aY,I bb,I bh,I cx,I bw,I r,ad pl n cl,ad pp m cp]] w fun e w'=>e=ab (.tuple #[h7 o,U true])∧ao w w w':=by
 have cc:=aq ha;have bq:af (0≤r∧r≤4611686018427387904):=by show _∧_;omega
 clear ha hr;go_enter Tryz.func170,Tryz.ntmps170;go_upto_region 1 with fail;obtain⟨W,br⟩:=ar ((w.alloc (ai (#[I 1,I aW,I aY,I bb,I bh,I cx,I bw,I r,ad pl n cl,ad pp m cp]) dz)).alloc (cU eh));have aO:af (ao w w W):=by show Below _ _ _;rw[←br];exact nI _ _ _
 have b7:af (an W w.heap.size (#[I 1,I aW,I aY,I bb,I bh,I cx,I bw,I r,ad pl n cl,ad pp m cp]) dz):=by show _=_;rw[←br];exact aU (cd _ _) (a' _ _)
 have bN:af (W.heap[w.heap.size+1]?=some (cU eh)):=by show _=_;rw[←br];exact uJ _ _ _
 change Code.wp _ _ _ _ ((w.alloc (ai (#[I 1,I aW,I aY,I bb,I bh,I cx,I bw,I r,ad pl n cl,ad pp m cp]) dz)).alloc (cU eh));rw[br];clear br;obtain⟨g0,g1,g2,g3,g4,g5,g6,g7,g8,g9⟩:=dZ b7.out;go_wp2_with fail;with_reducible refine (ZU (aW,aY) (aW,aY) r cc.out cc.out bq.out o bl _).mono ?_
 rintro e V ⟨rfl,ay⟩;have c6:af (ao w w V):=aO.out.trans (ay.mono aO.out.size);have kA:=aq (aU bN.out ay);clear g0 g1 g2 g3 g4 g5 g6 g7 g8 g9 ay;obtain⟨a0,bE,a2,a3⟩:=hb (show V.heap[w.heap.size+1]?=some (cU ⟨0,0,0,0⟩) from kA.out);have fr:=cR kA.out;go_wp2_with fail;have jV:=oU [I o.aD,I o.aC,I o.aG,I o.aE] kA.out rfl;have ay:=tf (m:=0) (b:=w.heap.size+1) (nX _) [I o.aD,I o.aC,I o.aG,I o.aE] c6.out;exact dC (l6 rfl _ _ (w.heap.size+1) _ _ _ _ rfl jV Ek rfl (by kernel_rfl)) rfl ⟨rfl,ay⟩
def SN (a:Bool) (dY u:Option bO):Option bO:=if a=true then (match dY with
 |none=>u
 |some x=>nu u x) else u
theorem alo(a:Bool)(b:cJ)(s r:bc)(u:Option bO):lq (.cons a b s r) u=lq r (SN a (yW b (lq s)) u):=by rw[lq];unfold SN;rfl
theorem alp(N:Nat):∀(s:bc),s.count<N→∀(b:cJ) (f:Nat) (left m:Int) (S:afp) (pl:Ja) (cl:Nat) (pp:Ja) (cp:Nat) (w:aeo) (o:Option bO),
  xO b→ti s→af (kN b s f left=some m)→af (dv S w pl cl pp cp ⟨b,s⟩)→af (yW b (lq s)=o)→
  Calls Tryz.prog 170 #[iD b (ad pl b.l.length cl) (ad pp s.len cp)] w fun e w'=>e=ab (.tuple #[h7 (o.getD eh),U o.isSome])∧ao w w w':=by
 induction N with
 |zero=>intro s hs;exact absurd hs (nB _)
 |succ N cT=>
 intro s hs b f left m S pl cl pp cp w o Kl tj bl ek ax;have xB:=aq cT;have wk:=aq hs;have Er:=aq Kl;have AJ:=aq tj;clear cT hs Kl tj;obtain⟨_,SO,AK,AL⟩:=AB bl.out;clear bl;obtain⟨dU,⟨aW,aY⟩,⟨bb,bh⟩,⟨cx,bw⟩,r,l⟩:=b;have aA:=ax.out;clear ax;simp only at AK AL;show Calls _ _ #[.agg #[I dU,I aW,I aY,I bb,I bh,I cx,I bw,I r,ad pl l.length cl,ad pp s.len cp]] w _;by_cases cW:dU=6
 ·have bN:=aq (AL cW).2;have hle:l=[]:=alk SO (by simp only;omega);subst hle cW;have dn:af (lq s none=o):=aA;clear AK AL aA SO;obtain⟨fE,oc⟩:=ar s.len;have k9:=aq oc;rw[oc,rC];clear oc;have n9:fE≤1000000000:=(by rw[←k9.out];exact ek.out.p.1);go_enter Tryz.func170,Tryz.ntmps170;go_upto_region 13 with fail;obtain⟨W,br⟩:=ar ((((w.alloc (ai (#[I 6,I aW,I aY,I bb,I bh,I cx,I bw,I r,ad pl 0 cl,ad pp fE cp]) dz)).alloc (cU eh)).alloc (cU eh)).alloc (Co false));have bM:af (xM w w.heap.size #[I 6,I aW,I aY,I bb,I bh,I cx,I bw,I r,ad pl 0 cl,ad pp fE cp] none W):=(by obtain⟨av,az,aF,bk,ay⟩:=AA br;exact⟨av,az,⟨aF,bk⟩,ay⟩);change Code.wp _ _ _ _ ((((w.alloc (ai (#[I 6,I aW,I aY,I bb,I bh,I cx,I bw,I r,ad pl 0 cl,ad pp fE cp]) dz)).alloc (cU eh)).alloc (cU eh)).alloc (Co false));rw[br];clear br;obtain⟨g0,g1,g2,g3,g4,g5,g6,g7,g8,g9⟩:=dZ bM.out.cF;go_wp2_with fail
  go_loopw [74] (fun i wr=>i=I 0∧wr=W) (fun _ _=>0)
  case atStart=>exact⟨rfl,rfl⟩
  case round=>
  obtain⟨rfl,rfl⟩:=hrel;go_wp2_with fail
  go_loopw [94] (fun i wr=>∃(pre fU:bc) (u:Option bO) (j:Nat) (aK:aeo),aK=wr∧af (s=pre.append fU)∧af (pre.len=j)∧af (lq fU u=o)∧i=I j∧af (xM w w.heap.size #[I 6,I aW,I aY,I bb,I bh,I cx,I bw,I r,ad pl 0 cl,ad pp fE cp] u aK)) (fun i _=>fE -(intOf i).toNat)
  case atStart=>exact⟨.nil,s,none,0,_,rfl,rfl,rfl,dn.out,rfl,bM.out⟩
  case round=>
  obtain⟨pre,fU,u,j,aK,rfl,iS,df,b0,rfl,aO⟩:=hrel;clear g0 g1 g2 g3 g4 g5 g6 g7 g8 g9;cases fU with
  |nil=>
   have nD:j=fE:=(by rw[←k9.out,←df.out,iS.out,bc.append_nil]);have c9:u=o:=b0.out;subst nD c9;obtain⟨a0,bE,a2,a3⟩:=hb (show aK.heap[w.heap.size+1+1]?=some (cU ⟨(u.getD eh).aD,(u.getD eh).aC,(u.getD eh).aG,(u.getD eh).aE⟩) from aO.out.vN.a);obtain⟨f0,f1⟩:=Hn aO.out.vN.f;obtain⟨gZ,fM,kO,p5⟩:=hb (show aK.heap[w.heap.size+1]?=some (cU ⟨0,0,0,0⟩) from aO.out.res);have fr:=cR aO.out.res;go_upto_region 30 with fail;go_region
   all_goals
    go_wp2_with fail;have hr:=oU [I (u.getD eh).aD,I (u.getD eh).aC,I (u.getD eh).aG,I (u.getD eh).aE] (show aK.heap[w.heap.size+1]?=some (.cells #[I 0,I 0,I 0,I 0] 198) from aO.out.res) rfl;have ay:=tf (m:=0) (b:=w.heap.size+1) (nX _) [I (u.getD eh).aD,I (u.getD eh).aC,I (u.getD eh).aG,I (u.getD eh).aE] aO.out.aZ;exact dC (l6 rfl _ _ (w.heap.size+1) _ _ _ _ rfl hr Ek rfl (by kernel_rfl)) rfl ⟨rfl,ay.drew⟩
  |cons a bg sub fP=>
   have q9:j<fE:=(by rw[←k9.out,←df.out,iS.out,bc.ue];simp only[bc.len];omega);have NZ:(j:Int)<(fE:Int):=(by omega);have iF:hM S aK pp (pre.append (.cons a bg sub fP)):=(by rw[←iS.out];exact ek.out.p.below aO.out.aZ);obtain⟨hz,lv,ql,dl,qp,cK,rfl,q',_,qA,aN,aL,aI,c3,bJ,c5,b2,b',bX,bj,cu⟩:=iF.part df.out;have v7:=aq qA;obtain⟨dy,m1,jm⟩:=Oj (show hI (pre.append (.cons a bg sub fP)) (f+1) (left-1)=some m by rw[←iS.out];exact bN.out);have Es:af (xO bg∧ti sub):=ti.at (pre:=pre) (by rw[←iS.out];exact AJ.out);have fV:sub.count<N:=(by have av:=wk.out;rw[iS.out,bc.count_append] at av;simp only[bc.count] at av;omega);obtain⟨dY,eI⟩:=ar (yW bg (lq sub));have lx:af (lq fP (SN a dY u)=o):=(by show _=_;rw[←b0.out,alo,eI]);have xE:af (s=(pre.append (.cons a bg sub .nil)).append fP):=(by show _=_;rw[iS.out,bc.append_assoc];rfl);have ja:af ((pre.append (.cons a bg sub .nil)).len=j+1):=(by show _=_;rw[bc.ue,df.out];rfl);obtain⟨cL,fv⟩:=ar bg.l.length;obtain⟨ik,nK⟩:=ar sub.len;have kB:af (∀Z,ao aK aK Z→Calls Tryz.prog 170 #[.agg #[I bg.k,I bg.a.1,I bg.a.2,I bg.b.1,I bg.b.2,I bg.c.1,I bg.c.2,I bg.r,ad ql cL dl,ad qp ik cK]] Z fun e w'=>e=ab (.tuple #[h7 (dY.getD eh),U dY.isSome])∧ao Z Z w'):=(by intro Z eG;rw[←fv,←nK];exact xB.out sub fV bg (f+1) dy m1 S ql dl qp cK Z dY Es.out.1 Es.out.2 (aq jm) (aq (v7.out.below eG)) (aq eI));rw[fv] at bj;rw[nK] at cu;clear iF qA jm eI fv nK;go_upto_region 25 with fail;have cb:=cd aK (ai (#[U a,I bg.k,I bg.a.1,I bg.a.2,I bg.b.1,I bg.b.2,I bg.c.1,I bg.c.2,I bg.r,ad ql cL dl,ad qp ik cK]) eQ);have jG:af (ao aK aK (aK.alloc (ai (#[U a,I bg.k,I bg.a.1,I bg.a.2,I bg.b.1,I bg.b.2,I bg.c.1,I bg.c.2,I bg.r,ad ql cL dl,ad qp ik cK]) eQ))):=a' _ _;have di:=aq cb;clear cb aN aL aI c3 bJ c5 b2 b' bX bj cu;generalize aK.alloc (.cells #[U a,I bg.k,I bg.a.1,I bg.a.2,I bg.b.1,I bg.b.2,I bg.c.1,I bg.c.2,I bg.r,ad ql cL dl,ad qp ik cK] eQ)=cm at jG di⊢;obtain⟨eD,a1,a6,ch,gw,na,js,tk,lf,jU,tl⟩:=Z2 di.out;have cP:=aq (aO.out.below jG.out);cases a with
   |false=>
    have nE:af (lq fP u=o):=lx.out;go_wp2_with fail;go_round<;>first|exact⟨_,fP,u,j+1,_,rfl,xE.out,ja.out,nE.out,by go_num,cP.out⟩|(simp[intOf]<;>omega)
   |true=>
    go_wp2_with fail;with_reducible refine (kB.out _ jG.out).mono ?_
    rintro e dt ⟨rfl,ay⟩;have dk:=aq (cP.out.below ay);clear ay eD a1 a6 ch gw na js tk lf jU tl;cases dY with
    |none=>
     have nE:af (lq fP u=o):=lx.out;go_wp2_with fail;have e4:=aq (dk.out.below (a' dt (cU eh)));go_round<;>first|exact⟨_,fP,u,j+1,_,rfl,xE.out,ja.out,nE.out,by go_num,e4.out⟩|(simp[intOf]<;>omega)
    |some x=>
     have nE:af (lq fP (nu u x)=o):=lx.out;obtain⟨aD,aC,aG,aE⟩:=x;go_upto_region 27 with fail;have e4:=aq (dk.out.below (a' dt (cU ⟨aD,aC,aG,aE⟩)));have SP:af ((dt.alloc (cU ⟨aD,aC,aG,aE⟩)).heap[dt.heap.size]?=some (cU ⟨aD,aC,aG,aE⟩)):=cd _ _;generalize dt.alloc (cU ⟨aD,aC,aG,aE⟩)=dG at e4 SP⊢;generalize dt.heap.size=K at SP⊢;obtain⟨a0,bE,a2,a3⟩:=hb SP.out;go_wp2_with fail;with_reducible refine (Od (w.heap.size+1+1) (w.heap.size+1+1+1) (by omega) u ⟨aD,aC,aG,aE⟩ _ (aq e4.out.vN)).mono ?_
     rintro e gO ⟨rfl,Ki,r6⟩;have zj:=aq (e4.out.take rfl Ki r6);clear Ki r6 a0 bE a2 a3;go_wp2_with fail;go_round<;>first|exact⟨_,fP,_,j+1,_,rfl,xE.out,ja.out,nE.out,by go_num,zj.out⟩|(simp[intOf]<;>omega)
 ·have jS:=(AK cW).1;clear AL AK;have alq:s=.nil:=alm SO (by simp only;omega);subst alq;rcases SM jS with h|h|h|h|h<;>simp only at h<;>subst h
  ·obtain⟨ha,hr⟩:=Z3 jS rfl;have e:some (ml (aW,aY) (aW,aY) r)=o:=aA;subst e;exact aln aW aY bb bh r ha hr cx bw pl l.length cl pp 0 cp w _ (aq rfl)
  ·exact ak4 S aW aY bb bh cx bw r l pl cl pp cp w (Z4 jS rfl) (aq ek.out.l) o (aq aA)
  ·exact absurd rfl Er.out.1
  ·exact absurd rfl Er.out.2.1
  ·exact absurd rfl Er.out.2.2
theorem alr(S:afp)(b:cJ)(s:bc)(hn:qE ⟨b,s⟩)(eC:okV ⟨b,s⟩=true)(pl:Ja)(cl:Nat)(pp:Ja)(cp:Nat)(w:aeo)(ek:af (dv S w pl cl pp cp ⟨b,s⟩))(o:Option bO)(bl:af (yW b (lq s)=o)):
  Calls Tryz.prog 170 #[iD b (ad pl b.l.length cl) (ad pp s.len cp)] w fun e w'=>e=ab (.tuple #[h7 (o.getD eh),U o.isSome])∧ao w w w':=by
 unfold okV at eC;rw[show bc.one true ⟨b,s⟩=.cons true b s .nil from rfl,G6] at eC;cases hm:kN b s 0 1000 with
 |none=>rw[hm] at eC;simp at eC
 |some m=>exact alp (s.count+1) s (G4 _) b 0 1000 m S pl cl pp cp w o hn.1 hn.2 (aq hm) ek bl
theorem als(N:Nat):∀(s:bc),s.count<N→∀(b:cJ) (S:afp) (pl:Ja) (cl:Nat) (pp:Ja) (cp:Nat) (w:aeo),
  af (dv S w pl cl pp cp ⟨b,s⟩)→
  Calls Tryz.prog 123 #[iD b (ad pl b.l.length cl) (ad pp s.len cp)] w fun e w'=>e=ab (U (Ak ⟨b,s⟩))∧ao w w w':=by
 induction N with
 |zero=>intro s hs;exact absurd hs (nB _)
 |succ N cT=>
 intro s hs b S pl cl pp cp w ek;have xB:=aq cT;have wk:=aq hs;clear cT hs;obtain⟨dU,⟨aW,aY⟩,⟨bb,bh⟩,⟨cx,bw⟩,r,l⟩:=b;obtain⟨v,aS⟩:=ar (Ak ⟨⟨dU,(aW,aY),(bb,bh),(cx,bw),r,l⟩,s⟩);have AM:af ((decide (dU=4)|| B4 s)=v):=aS;rw[aS];clear aS;obtain⟨n,hn⟩:=ar l.length;obtain⟨fE,oc⟩:=ar s.len;have k9:=aq oc;show Calls _ _ #[.agg #[I dU,I aW,I aY,I bb,I bh,I cx,I bw,I r,ad pl l.length cl,ad pp s.len cp]] w _;rw[hn,oc];clear hn oc;by_cases bk:dU=4
 ·have aP:af (true=v):=(by show _=_;rw[←AM.out,e' bk];rfl);subst bk;go_enter Tryz.func123,Tryz.ntmps123;go_wp2_with fail;go_ret;exact⟨ej aP.out,jE _ _⟩
 ·have dn:af (B4 s=v):=(by show _=_;rw[←AM.out,eT bk];rfl);clear AM;have n9:fE≤1000000000:=(by rw[←k9.out];exact ek.out.p.1);have awP:(dU==4)=false:=(by rw[uO];exact bk);go_enter Tryz.func123,Tryz.ntmps123;go_upto_region 3 with fail;have aO:af (ao w w (w.alloc (ai (#[I dU,I aW,I aY,I bb,I bh,I cx,I bw,I r,ad pl n cl,ad pp fE cp]) dz))):=a' _ _;have cc:af ((w.alloc (ai (#[I dU,I aW,I aY,I bb,I bh,I cx,I bw,I r,ad pl n cl,ad pp fE cp]) dz)).heap[w.heap.size]?=some (.cells #[I dU,I aW,I aY,I bb,I bh,I cx,I bw,I r,ad pl n cl,ad pp fE cp] dz)):=cd _ _;generalize w.alloc (.cells #[I dU,I aW,I aY,I bb,I bh,I cx,I bw,I r,ad pl n cl,ad pp fE cp] dz)=W at aO cc⊢;obtain⟨g0,g1,g2,g3,g4,g5,g6,g7,g8,g9⟩:=dZ cc.out;go_wp2_with fail
  go_loopw [11] (fun i wr=>∃(pre fU:bc) (j:Nat) (aK:aeo),aK=wr∧af (s=pre.append fU)∧af (pre.len=j)∧af (B4 fU=v)∧i=I j∧af (ao w w aK)) (fun i _=>fE -(intOf i).toNat)
  case atStart=>exact⟨.nil,s,0,_,rfl,rfl,rfl,dn.out,rfl,aO.out⟩
  case round=>
  obtain⟨pre,fU,j,aK,rfl,iS,df,b0,rfl,cC⟩:=hrel;clear g0 g1 g2 g3 g4 g5 g6 g7 g8 g9;cases fU with
  |nil=>
   have nD:j=fE:=(by rw[←k9.out,←df.out,iS.out,bc.append_nil]);have aP:af (false=v):=b0.out;subst nD;go_wp2_with fail;go_ret;exact⟨ej aP.out,cC.out⟩
  |cons a bg sub fP=>
   have q9:j<fE:=(by rw[←k9.out,←df.out,iS.out,bc.ue];simp only[bc.len];omega);have NZ:(j:Int)<(fE:Int):=(by omega);have iF:hM S aK pp (pre.append (.cons a bg sub fP)):=(by rw[←iS.out];exact ek.out.p.below cC.out);obtain⟨hz,lv,ql,dl,qp,cK,rfl,q',_,qA,aN,aL,aI,c3,bJ,c5,b2,b',bX,bj,cu⟩:=iF.part df.out;have v7:=aq qA;have fV:sub.count<N:=(by have av:=wk.out;rw[iS.out,bc.count_append] at av;simp only[bc.count] at av;omega);obtain⟨bU,eI⟩:=ar (Ak ⟨bg,sub⟩);have lx:af ((bU || B4 fP)=v):=(by show _=_;rw[←b0.out,←eI];rfl);have xE:af (s=(pre.append (.cons a bg sub .nil)).append fP):=(by show _=_;rw[iS.out,bc.append_assoc];rfl);have ja:af ((pre.append (.cons a bg sub .nil)).len=j+1):=(by show _=_;rw[bc.ue,df.out];rfl);obtain⟨cL,fv⟩:=ar bg.l.length;obtain⟨ik,nK⟩:=ar sub.len;have kB:af (∀Z,ao aK aK Z→Calls Tryz.prog 123 #[.agg #[I bg.k,I bg.a.1,I bg.a.2,I bg.b.1,I bg.b.2,I bg.c.1,I bg.c.2,I bg.r,ad ql cL dl,ad qp ik cK]] Z fun e w'=>e=ab (U bU)∧ao Z Z w'):=(by intro Z eG;rw[←fv,←nK,←eI];exact xB.out sub fV bg S ql dl qp cK Z (aq (v7.out.below eG)));rw[fv] at bj;rw[nK] at cu;clear iF qA eI fv nK;go_wp2_with fail;have jG:=aq (a' aK (ai (#[U a,I bg.k,I bg.a.1,I bg.a.2,I bg.b.1,I bg.b.2,I bg.c.1,I bg.c.2,I bg.r,ad ql cL dl,ad qp ik cK]) eQ));with_reducible refine (kB.out _ jG.out).mono ?_
   rintro e dt ⟨rfl,ay⟩;have dk:af (ao w w dt):=cC.out.trans ((jG.out.trans (ay.mono jG.out.size)).mono cC.out.size);clear ay aN aL aI c3 bJ c5 b2 b' bX bj cu;cases bU with
   |true=>
    have aP:af (true=v):=(by show _=_;rw[←lx.out];rfl);go_wp2_with fail;go_ret;exact⟨ej aP.out,dk.out⟩
   |false=>
    have nE:af (B4 fP=v):=lx.out;go_wp2_with fail;go_round<;>first|exact⟨_,fP,j+1,_,rfl,xE.out,ja.out,nE.out,by go_num,dk.out⟩|(simp[intOf]<;>omega)
theorem alu(b:cJ)(s:bc)(S:afp)(pl:Ja)(cl:Nat)(pp:Ja)(cp:Nat)(w:aeo)(ek:af (dv S w pl cl pp cp ⟨b,s⟩)):
  Calls Tryz.prog 123 #[iD b (ad pl b.l.length cl) (ad pp s.len cp)] w fun e w'=>e=ab (U (Ak ⟨b,s⟩))∧ao w w w':=
 als (s.count+1) s (G4 _) b S pl cl pp cp w ek
end c4
