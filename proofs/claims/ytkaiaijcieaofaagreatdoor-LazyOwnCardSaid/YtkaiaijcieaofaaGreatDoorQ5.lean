/- Lemmas. -/
import Derived.Test.YtkaiaijcieaofaaGreatDoorQ4
import Derived.WalkSmall
import Derived.RangeFuncBox
set_option linter.all false
set_option maxRecDepth 100000
set_option maxHeartbeats 25600000
namespace Go.Proofs.YtkaiaijcieaofaaGreatDoor
abbrev xz:=@List.getElem?_append_right
abbrev N5:=@Nat.add_sub_cancel_left
abbrev St:=@List.set_append_right
abbrev sg:=@results_cell_row
abbrev fO:=@beq_eq_false_iff_ne
abbrev wi:=@Option.some.inj
abbrev jx:=@World.news_of_block
namespace c1
open Go.RowKit ef
variable{S:afp}{w w' x y w0:aeo}{B aR n i c M k:Nat}{v:ada}
theorem Su{e:aai}{xs:aev}(h:w.ownsRow B e aR v n xs)(aw:aK S w w')(hS:∀k,v.ownBlock=some k→S k):w'.ownsRow B e aR v n xs:=by
 refine⟨h.1,?_⟩;rcases h.2 with au|⟨g,cap,cur,rfl,bz,aE,ax⟩
 ·exact .inl au
 ·exact .inr ⟨g,cap,cur,rfl,bz,aw.get (hS g rfl) aE,ax⟩
theorem aif{j:Nat}{a:ajv}{s:aai}{f:Nat×Nat}{es:Array MapEntry}(au:w.heap[i]?=some (.cells a s f))(ax:w.heap[j]?=some (.map es c)):i≠j:=by rintro rfl;rw[au] at ax;cases ax
theorem wj{g m:Nat}{e:aai}{xs:aev}(h:w.ownsRow B e aR (ag g 0 n c) m xs):B≤g∧∃cur,w.heap[g]?=some (.cells cur e (0,0)):=by
 rcases h.2 with ⟨aS,_⟩|⟨k,cap,cur,aw,bz,aE,_⟩
 ·cases aS
 ·injection aw with eM _ jE;injection eM with eM;injection eM with eM;subst eM;exact⟨bz,cur,aE⟩
theorem aih{e:aai}{xs:aev}(h:w.ownsRow B e aR v n xs){b:Nat}{es:Array MapEntry}(ay:w.heap[b]?=some (.map es c)):v.ownBlock≠some b:=by
 rcases h.2 with ⟨rfl,_⟩|⟨g,cap,cur,rfl,_,aE,_⟩
 ·simp[Value.ownBlock]
 ·intro ax;have:g=b:=(by simpa[Value.ownBlock] using ax);subst this;rw[ay] at aE;cases aE
abbrev wk:TypeId:=184
def YK(w0:aeo):List Fr→Prop
 |[]=>True
 |[_]=>True
 |f::g::ts=>w0.cell? ⟨g.k,g.o+g.pre.len *11+10,none⟩=some (ad (some (aj f.k f.o)) f.all.len f.c)∧YK w0 (g::ts)
structure oh(S:afp)(w0:aeo)(M:Nat)(root:bf)(ts:List Fr)(hd:Bool)(L:List (hQ×Int))(sv:ada)(w:aeo):Prop where
 aM:an w0 w0 w
 row:w.ownsRow w0.heap.size wk 3 sv ts.length (qa ts)
 map:sc w M L
 jd:uM S w0 L ts
 yX:uL root ts
 jD:YK w0 ts
 ps:∀g∈ts,hO S w0 (some (aj g.k g.o)) g.all∧0<g.all.len∧g.all.len≤1000000000
 N6:w0.heap.size≤M
 aw:hd=true→∃f us a b sub r tl v8 c',ts=f::us∧f.rest=.cons a b sub r∧0<sub.len∧ak w0 f.k (f.o+f.pre.len *11+10) (ad (some (aj tl v8)) sub.len c')∧ka L (tl,v8,sub.len)≠none
variable{L:List (hQ×Int)}
theorem sc.keep(h:sc w M L)(aw:aK S w w')(hS:S M):sc w' M L:=by obtain⟨es,c,au,ax⟩:=h;exact⟨es,c,aw.get hS au,ax⟩
theorem sc.below(h:sc w M L)(ay:an w w w'):sc w' M L:=h.keep (S:=fun _=>True) (.c4 ay) trivial
theorem D9.below(h:D9 w L)(ay:an w w w'):D9 w' L:=fun x hx=>by obtain⟨cs,aE⟩:=h x hx;exact⟨cs,ba aE ay⟩
theorem oh.below{S:afp}{w0:aeo}{M:Nat}{root:bf}{ts:List Fr}{hd:Bool}{L:List (hQ×Int)}{sv:ada}{w w':aeo}(h:oh S w0 M root ts hd L sv w)(ay:an w w w'):oh S w0 M root ts hd L sv w':=
 {h with aM:=h.aM.trans (ay.mono h.aM.size),row:=fY h.row ay,map:=h.map.below ay}
theorem Sv{e:aai}{xs:aev}(h:sc w M L)(hr:w.ownsRow B e aR v n xs):v.ownBlock≠some M:=by obtain⟨es,c,aE,_⟩:=h;exact aih hr aE
theorem JV{g:Nat}{e:aai}{xs:aev}{z0 z1 z2:ada}(h:w.ownsRow B e 3 (ag g 0 (n+1) c) (n+1) (xs++[z0,z1,z2]))(hx:xs.length=n *3):
  ak w g (n *3) z0∧ak w g (n *3+1) z1∧ak w g (n *3+2) z2:=by
 have key:∀j,j<3→w.cell? ⟨g,n *3+j,none⟩=[z0,z1,z2][j]?:=by intro j b6;rw[h.cellAt (n *3+j) (by omega),xz (by omega),hx,N5]
 exact⟨key 0 (by decide),key 1 (by decide),key 2 (by decide)⟩
theorem oh.pop{S:afp}{w0:aeo}{M:Nat}{root:bf}{f g:Fr}{ts:List Fr}{hd:Bool}{L:List (hQ×Int)}{qH cap n:Nat}{w bk:aeo}(h:oh S w0 M root (f::g::ts) hd L (ag qH 0 (n+1) cap) w)(hn:(g::ts).length=n)(aw:aK (fun b=>b≠M) w bk)(iY:sc bk M (od L f.key (f.all.count:Int))):
  oh S w0 M root (g::ts) true (od L f.key (f.all.count:Int)) (ag qH 0 n cap) bk:=by
 obtain⟨hp,az,_⟩:=h.ps f (by simp);obtain⟨⟨a,b,r,e⟩,JU⟩:=h.yX;obtain⟨oW,oe⟩:=h.jD;refine⟨h.aM.trans (aw.below _ h.aM.size fun k jE e=>by have:=h.N6;omega),?_,iY,h.jd.pop hp az,JU,oe,fun x hx=>h.ps x (by simp[hx]),h.N6,fun _=>⟨g,ts,a,b,f.all,r,f.k,f.o,f.c,rfl,e,az,oW,?_⟩⟩
 ·have au:bk.ownsRow w0.heap.size wk 3 (ag qH 0 (n+1) cap) (f::g::ts).length (qa (f::g::ts)):=Su h.row aw fun k a6 cV=>Sv h.map h.row (cV ▸ a6);rw[show (f::g::ts).length=n+1 by simp[←hn]] at au;have ax:=ownsRow_pop (xs:=qa (g::ts)) (last:=Ej f) (by rw[BZ,hn]) au;rw[hn];exact ax
 ·show ka _ f.key≠none;rw[GN,aW rfl];exact fun h=>by cases h
theorem oh.N4{S:afp}{w0:aeo}{M:Nat}{root:bf}{f:Fr}{ts:List Fr}{hd:Bool}{L:List (hQ×Int)}{qH cap n:Nat}{w:aeo}(h:oh S w0 M root (f::ts) hd L (ag qH 0 (n+1) cap) w)(hn:ts.length=n){a:Bool}{b:dK}{sub r:bf}(hr:f.rest=.cons a b sub r):
  oh S w0 M root (⟨f.k,f.o,f.c,f.pre.append (.cons a b sub .nil),r⟩::ts) false L (ag qH 0 (n+1) cap) ((w.setCell (aj qH (n *3+2)) (I (f.pre.count+(sub.count+1):Nat))).setCell (aj qH (n *3+1)) (I (f.pre.len+1:Nat))):=by
 have nc:(⟨f.k,f.o,f.c,f.pre.append (.cons a b sub .nil),r⟩:Fr).all=f.all:=by unfold Fr.all;rw[hr];show (f.pre.append (.cons a b sub .nil)).append r=_;rw[bf.append_assoc];rfl
 have aF:=h.row;rw[show (f::ts).length=n+1 by simp[hn]] at aF;obtain⟨au,g1⟩:=aF.stored (n *3+2) (I ((f.pre.count+(sub.count+1):Nat):Int));obtain⟨ax,g2⟩:=au.stored (n *3+1) (I ((f.pre.len+1:Nat):Int));have Ek:=(wj aF).1;obtain⟨_,cur,gq⟩:=wj aF;have Sw:M≠qH:=by obtain⟨es,c,aE,_⟩:=h.map;exact (aif gq aE).symm
 have hK:aK (fun k=>k≠qH) w ((w.setCell (aj qH (n *3+2)) (I (f.pre.count+(sub.count+1):Nat))).setCell (aj qH (n *3+1)) (I (f.pre.len+1:Nat))):=(aK.set (a:=⟨qH,n *3+2,none⟩) (fun h=>h rfl) _).trans (aK.set (a:=⟨qH,n *3+1,none⟩) (fun h=>h rfl) _);refine⟨h.aM.trans (hK.below _ h.aM.size fun k aw=>by omega),?_,h.map.keep hK Sw,h.jd.N4 (by unfold Fr.key;rw[nc]),?_,?_,fun x hx=>?_,h.N6,fun e=>by cases e⟩
 ·rw[show (⟨f.k,f.o,f.c,f.pre.append (.cons a b sub .nil),r⟩::ts:List Fr).length=n+1 by simp[hn]];have e:qa (⟨f.k,f.o,f.c,f.pre.append (.cons a b sub .nil),r⟩::ts)=((qa (f::ts)).set (n *3+2) (I ((f.pre.count+(sub.count+1):Nat):Int))).set (n *3+1) (I ((f.pre.len+1:Nat):Int)):=(by have az:(qa ts).length=n *3:=(by rw[BZ,hn]);simp only[qa,Ej,nc];rw[St _ _ (by omega),St _ _ (by omega),az,show n *3+2-n *3=2 by omega,show n *3+1-n *3=1 by omega];simp[bf.uw,bf.count_append,bf.len,bf.count]);rw[e];exact ax
 ·cases ts with
  |nil=>exact nc.trans h.yX
  |cons g ts=>
   obtain⟨⟨k1,b1,j',e⟩,JU⟩:=h.yX;exact⟨⟨k1,b1,j',by rw[nc];exact e⟩,JU⟩
 ·cases ts with
  |nil=>trivial
  |cons g ts=>
   obtain⟨e,oe⟩:=h.jD;exact⟨by rw[nc];exact e,oe⟩
 ·rcases List.mem_cons.1 hx with rfl|hx
  ·rw[nc];exact h.ps f (by simp)
  ·exact h.ps x (by simp[hx])
theorem oh.push{S:afp}{w0:aeo}{M:Nat}{root:bf}{f f':Fr}{ts:List Fr}{hd:Bool}{L:List (hQ×Int)}{sv sv':ada}{w w':aeo}(h:oh S w0 M root (f::ts) hd L sv w){a:Bool}{b:dK}{r:bf}(hr:f.rest=.cons a b f'.all r)(YL:f'.pre=.nil)(lR:ak w0 f.k (f.o+f.pre.len *11+10) (ad (some (aj f'.k f'.o)) f'.all.len f'.c))(hp:hO S w0 (some (aj f'.k f'.o)) f'.all)(az:0<f'.all.len∧f'.all.len≤1000000000)(ay:an w0 w0 w')(dp:w'.ownsRow w0.heap.size wk 3 sv' (f'::f::ts).length (qa (f'::f::ts)))(iY:sc w' M (od L f'.key (-1))):
  oh S w0 M root (f'::f::ts) false (od L f'.key (-1)) sv' w':=
 ⟨ay,dp,iY,h.jd.push hp az.1,⟨⟨a,b,r,hr⟩,h.yX⟩,⟨lR,h.jD⟩,fun x hx=>by
  rcases List.mem_cons.1 hx with rfl|hx
  ·exact⟨hp,az.1,az.2⟩
  ·exact h.ps x hx,h.N6,fun e=>by cases e⟩
theorem N7(k o n c:Nat)(hn:0<n∧n≤1000000000)(w:aeo):
  Calls Tryz.prog 96 #[ag k o n c] w fun e w'=>e=ab (lv (k,o,n))∧an w w w':=by
 have au:(0:Int)<(n:Int):=by omega
 have ax:=hn.1;go_enter Tryz.func96,Tryz.ntmps96;go_wp2_with fail;have key:=cR w (ai (#[.pointer (some (aj k o)),I (n:Int)]) xr);exact cL (sg rfl _ _ w.heap.size _ _ _ _ rfl key NQ rfl (by kernel_rfl)) rfl ⟨rfl,D4 _ _⟩
theorem JW(a b:Int)(ha:0≤a∧a≤1000000000)(ay:0≤b∧b≤1000000000)(r:Int)(hr:af (a+b=r))(w:aeo):Calls Tryz.prog 62 #[I a,I b] w fun e w'=>e=ab (I r)∧w'=w:=by rw[←hr.out];exact YG a b ha ay w
theorem Sx{v:aeo}{j:Nat}{u x:ada}{cs:ajv}{t:aai}(aE:v.heap[k]?=some (.cells cs t (0,0)))(h:j≠i)(hx:ak v k j x):(v.setCell (aj k i) u).cell? ⟨k,j,none⟩=some x:=by refine cell_of (dt u aE) ?_;rw[xm,aN (eN h)];simpa[World.cell?,aE] using hx
theorem uL.len{root:bf}:∀{f:Fr} {ts:List Fr},uL root (f::ts)→ts.length+f.all.count≤root.count
 |f,[],h=>by rw[show f.all=root from h];simp
 |f,g::ts,h=>by obtain⟨⟨a,b,r,e⟩,ax⟩:=h;have aA:=uL.len ax;have bb:f.all.count<g.all.count:=(by rw[show g.all=g.pre.append g.rest from rfl,bf.count_append,e,bf.count_cons];omega);simp only[eT];omega
theorem YM{g m:Nat}{e:aai}{xs:aev}(h:w.ownsRow B e aR (ag g 0 n c) m xs):m≤c:=by
 rcases h.2 with ⟨aS,_⟩|⟨k,cap,cur,aw,bz,aE,au,_⟩
 ·cases aS
 ·injection aw with _ _ aB;rw[aB];exact au
abbrev YN:Value:=.agg #[J 0,I 0,I 0]
theorem aii:(Tryz.prog.info? 184).map (fun i=>(i.zero,i.size,i.bytes))=some (some YN,3,40):=by kernel_rfl
theorem aij(S:afp)(s:bf)(k o c:Nat)(w:aeo)(bH:af (hO S w (some (aj k o)) s))(az:0<s.len)(ay:s.count≤100000000):
  Calls Tryz.prog 63 #[ag k o s.len c] w fun e w'=>e=ab (I (s.count:Int))∧an w w w':=by
 obtain⟨m,hm⟩:=aq s.len;obtain⟨N,hk⟩:=aq s.count;have bN:=ao hm;have bd:=ao hk;have pv:=bH.out.1;rw[hk] at ay;rw[hm] at az pv;have Sy:m≤1000000000:=pv;rw[hm,hk];clear hm hk pv;have sh:=@run_makeMap Tryz.prog;have ti:((m:Int)==0)=false:=by rw[fO];omega
 go_enter Tryz.func63,Tryz.ntmps63;go_wp2_with fail;with_reducible refine (N7 k o m c ⟨az,Sy⟩ _).mono ?_
 rintro e V ⟨rfl,Sz⟩;have yY:af (sc V w.heap.size []):=sc.below ⟨#[],0,cR w _,rfl⟩ Sz;have aH:af (an w w V):=(D4 _ _).trans (Sz.mono (by simp));clear Sz;obtain⟨cs,eD,_⟩:=bH.out.block (by rw[bN.out];exact az);obtain⟨bk,JX,qA,eM,mA⟩:=Sd yY.out (L:=[]) (fun x hx=>by simp at hx) (k,o,m) (ca:=cs) (ba eD aH.out) (-1);have qI:=ao qA;have cG:af (an w w bk):=aH.out.trans (eM.below _ aH.out.size fun k aw e=>by omega);clear qA eM eD mA;go_upto_region 5 with fail
 have tg:af (oh S w w.heap.size s [⟨k,o,c,.nil,s⟩] false (od [] (k,o,m) (-1)) (ag bk.heap.size 0 1 1) (bk.alloc (ai (#[ad (some (aj k o)) m c,I 0,I 0]) wk))):=by
  have jX:(⟨k,o,c,.nil,s⟩:Fr).key=(k,o,m):=(by unfold Fr.key Fr.all;rw[←bN.out];rfl);have nc:(⟨k,o,c,.nil,s⟩:Fr).all=s:=rfl;have jY:uM S w [] []:=⟨fun k v h=>by simp[ka] at h,fun k v h=>by simp[ka] at h,fun x hx=>by simp at hx⟩;refine⟨cG.out.alloc cG.out.size _,?_,qI.out.below (bh _ _),?_,rfl,trivial,fun g aI=>?_,aP _,fun e=>by cases e⟩
  ·have h:=World.ownsRow_lit (base:=w.heap.size) (e:=wk) (size:=3) bk #[ag k o m c,I 0,I 0] 1 cG.out.size (by decide) rfl;have e:qa [⟨k,o,c,.nil,s⟩]=[ad (some (aj k o)) m c,I 0,I 0]:=(by simp[qa,Ej,Fr.all,bf.append,bN.out,bf.len,bf.count]);rw[e];exact h
  ·have h:=jY.push (f:=⟨k,o,c,.nil,s⟩) bH.out (by rw[nc,bN.out];exact az);rw[jX] at h;exact h
  ·obtain rfl:g=⟨k,o,c,.nil,s⟩:=(by simpa using aI);rw[nc,bN.out];exact⟨bH.out,az,Sy⟩
 have p':af (iK false [⟨k,o,c,.nil,s⟩]≤rv s+1):=aP _;generalize bk.alloc (.cells #[ag k o m c,I 0,I 0] wk)=W at tg⊢;generalize bk.heap.size=G at tg⊢;clear cG qI aH yY ti JX
 go_loopg [4] (rv s+1) (fun gk sv wr=>∃(f:Fr) (ts:List Fr) (hd:Bool) (L:List (hQ×Int)) (aL:aeo),aL=wr∧af (oh S w w.heap.size s (f::ts) hd L sv aL)∧af (iK hd (f::ts)≤gk))
 case atStart=>exact⟨_,_,_,_,_,rfl,tg.out,p'.out⟩
 case round=>
 obtain⟨f,ts,hd,L,aL,rfl,bG,aQ⟩:=hrel;obtain⟨n,hn⟩:=aq ts.length;have si:=ao hn;have dp:=bG.out.row;rw[show (f::ts).length=n+1 by simp[hn]] at dp;obtain⟨g,cap,rfl⟩:=ownsRow_succ dp;obtain⟨e9,aY,a6⟩:=JV (z0:=ad (some (aj f.k f.o)) f.all.len f.c) (z1:=I (f.pre.len:Int)) (z2:=I (f.pre.count:Int)) dp (by rw[BZ,hn]);have nd:∀j,aL.frozen? ⟨g,j,none⟩=false:=fun j=>dp.frozenAt j;obtain⟨qJ,SA,flb⟩:=bG.out.ps f (by simp);have YO:=ao qJ;have hH:=bG.out.yX.YJ;rw[bd.out] at hH;have El:f.all.len=f.pre.len+f.rest.len:=bf.uw _ _;have YP:f.all.count=f.pre.count+f.rest.count:=bf.count_append _ _;obtain⟨JY,N8⟩:=aq f.all.len;obtain⟨pl,og⟩:=aq f.pre.len;obtain⟨ix,JZ⟩:=aq f.pre.count;have N9:=ao N8;have ru:=ao og;have Av:=ao JZ;rw[YP] at hH;rw[JZ] at hH a6;rw[og] at aY;rw[N8] at e9 SA flb;have lV:JY=pl+f.rest.len:=by rw[←N8,←og];exact El
 obtain⟨cI,hU⟩:=aq (n+1);have jJ:=ao hU;have auz:(cI:Int)≤1000000000:=by have au:=bG.out.yX.len;rw[hn,bd.out] at au;omega
 have J0:=YM dp;have N':(n:Int)≤(cap:Int):=by omega
 have aik:n≤cap:=by omega
 have ail:¬cap=0:=by omega
 have GU:(cI:Int)≤(cap:Int):=by omega
 rw[hU];have ry:ae ((cI:Int)-1)=(n:Int):=by rw[gw _ (by omega)];omega
 have dv:(n:Int)<(cI:Int):=by omega
 have dx:n<cI:=by omega
 clear dp El YP N8 og JZ hU hn qJ J0;cases uN:f.rest with
 |nil=>
  rw[uN] at lV hH;have B0:pl=JY:=(by rw[lV];rfl);clear lV;subst B0;go_upto_region 6 with fail
  go_quiet (fail)
  have kr:=ao (bG.out.below (iu (Below.refl _ _) nq));clear e9 aY a6 nd bG;generalize aL.drewN nq=YQ at kr⊢;have dp:=kr.out.row;rw[show (f::ts).length=n+1 by simp[si.out]] at dp;obtain⟨e9,aY,a6⟩:=JV (z0:=ad (some (aj f.k f.o)) f.all.len f.c) (z1:=I (f.pre.len:Int)) (z2:=I (f.pre.count:Int)) dp (by rw[BZ,si.out]);rw[Av.out] at a6;rw[N9.out] at e9;clear dp;go_wp2_with fail;with_reducible refine (N7 f.k f.o pl f.c ⟨SA,flb⟩ _).mono ?_
  rintro e Aw ⟨rfl,ck⟩;have kQ:=ao (kr.out.below ck);obtain⟨cs,eD,_⟩:=YO.out.block (by rw[N9.out];exact SA);obtain⟨db,JX,wm,ih,uO⟩:=Sd kQ.out.map (fun x hx=>by obtain⟨cs,aE⟩:=kQ.out.jd.e1 x hx;exact⟨cs,ba aE kQ.out.aM⟩) (f.k,f.o,pl) (ca:=cs) (ba eD kQ.out.aM) (ix:Int);have jX:(f.k,f.o,pl)=f.key:=(by unfold Fr.key;rw[N9.out]);have B1:(ix:Int)=(f.all.count:Int):=(by unfold Fr.all;rw[uN,bf.append_nil,Av.out]);rw[jX,B1] at wm;have nL:=ao wm;have jw:=ao ih;have kc:=ao B1;clear e9 aY a6 ck eD wm ih uO jX B1 kr;go_upto_region 10 with fail;cases ts with
  |nil=>
   have jf:n=0:=si.out.symm;subst jf;have aJ:af ((ix:Int)=(N:Int)):=(by show _=_;rw[kc.out,show f.all=s from kQ.out.yX,bd.out]);go_wp2_with fail;go_ret;exact⟨Gr aJ.out,kQ.out.aM.trans (jw.out.below _ kQ.out.aM.size fun k aw e=>by omega)⟩
  |cons g2 ts=>
   have jf:((n:Int)==0)=false:=(by have:=si.out;rw[eT] at this;rw[fO];omega);have nf:=ao (oh.pop kQ.out si.out jw.out nL.out);have dC:af (iK true (g2::ts)+1≤gk):=(by have aF:iK hd (f::g2::ts)≤gk:=aQ.out;have au:1+(wh g2.rest+2+xy ts)≤iK hd (f::g2::ts):=(by have e:iK hd (f::g2::ts)=(if hd=true then wh f.rest+2 else rv f.rest+1)+(wh g2.rest+2+xy ts):=rfl;rw[e];split<;>omega);have ax:iK true (g2::ts)=wh g2.rest+2+xy ts:=(by simp[iK]);show iK true (g2::ts)+1≤gk;rw[ax];omega);go_wp2_with fail
   go_roundg (gk-1)<;>first
    |exact⟨g2,ts,true,_,_,rfl,nf.out,(by have h:iK true (g2::ts)+1≤gk:=dC.out;omega:iK true (g2::ts)≤gk-1)⟩
    |(have h:iK true (g2::ts)+1≤gk:=dC.out;omega)
 |cons a b sub r=>
  rw[uN] at lV hH;rw[bf.count_cons] at hH;have bm:pl<JY:=(by rw[lV];show pl<pl+(r.len+1);omega);have DT:((pl:Int)==(JY:Int))=false:=(by rw[fO];omega);have fD:(pl:Int)<(JY:Int):=(by omega);clear lV;have kN:hO S w (some (aj f.k f.o)) (f.pre.append (.cons a b sub r)):=(by rw[←uN];exact YO.out);obtain⟨ea,eS,ql,dl,qp,cf,he,_,_,p5,_,_,_,_,_,_,_,_,_,_,di⟩:=kN.part ru.out;have uP:(⟨f.k,f.o,none⟩:Addr)=⟨ea,eS,none⟩:=wi he;have my:f.k=ea:=fS Addr.block uP;have uI:f.o=eS:=fS Addr.off uP;subst my uI;obtain⟨ng,xi⟩:=aq sub.len;have r8:=ao xi;rw[xi] at di;have GF:=ao p5;have SB:=ao di;have Em:=ao hH;clear kN he uP p5 di xi;go_upto_region 6 with fail
  go_quiet (fail)
  have kr:=ao (bG.out.below (iu (Below.refl _ _) nq));clear e9 aY a6 nd bG;generalize aL.drewN nq=YQ at kr⊢;have dp:=kr.out.row;rw[show (f::ts).length=n+1 by simp[si.out]] at dp;obtain⟨e9,aY,a6⟩:=JV (z0:=ad (some (aj f.k f.o)) f.all.len f.c) (z1:=I (f.pre.len:Int)) (z2:=I (f.pre.count:Int)) dp (by rw[BZ,si.out]);rw[Av.out] at a6;rw[ru.out] at aY;rw[N9.out] at e9;clear dp;have di:=bD kr.out.aM SB.out;go_upto_region 12 with fail
  go_quiet (fail)
  have kQ:=ao (kr.out.below (iu (Below.refl _ _) nq));clear e9 aY a6 di kr;generalize YQ.drewN nq=Aw at kQ⊢;clear nq;by_cases aF:ng=0
  ·subst aF
   have aim:sub=.nil:=by
    cases sub with
    |nil=>rfl
    |cons _ _ _ _=>exact absurd r8.out (by simp[bf.len])
   have SC:sub.count=0:=(by rw[aim];rfl);have wo:af (0≤(0:Int)∧(0:Int)≤1000000000):=(by show _∧_;decide);have dp:=kQ.out.row;rw[show (f::ts).length=n+1 by simp[si.out]] at dp;obtain⟨e9,aY,a6⟩:=JV (z0:=ad (some (aj f.k f.o)) f.all.len f.c) (z1:=I (f.pre.len:Int)) (z2:=I (f.pre.count:Int)) dp (by rw[BZ,si.out]);rw[Av.out] at a6;rw[ru.out] at aY;have nd:∀j,Aw.frozen? ⟨g,j,none⟩=false:=fun j=>dp.frozenAt j;obtain⟨cur,gq⟩:=(wj dp).2;obtain⟨bI,lB⟩:=aq (1+(0:Int));obtain⟨z1,xA⟩:∃z:Int,((f.pre.count+(sub.count+1):Nat):Int)=z:=⟨_,rfl⟩;obtain⟨z2,xB⟩:∃z:Int,((f.pre.len+1:Nat):Int)=z:=⟨_,rfl⟩;have eD:=Em.out;have SD:=Av.out;have SE:=ru.out;have SF:=wo.out;have J1:0≤bI∧bI≤1000000000:=(by omega);have J2:0≤(ix:Int)∧(ix:Int)≤1000000000:=(by omega);have J3:(ix:Int)+bI=z1:=(by omega);have YR:ae ((pl:Int)+1)=z2:=(by rw[gw _ (by omega)];omega);have rm:=ao lB;have SG:=ao J1;have J4:=ao J2;have Ax:=ao J3;have aT:∀u,(Aw.setCell (aj g (n *3+2)) u).cell? ⟨g,n *3+1,none⟩=some (I (pl:Int)):=fun u=>Sx gq (by omega) aY;have f1:∀u,(Aw.setCell (aj g (n *3+2)) u).frozen? ⟨g,n *3+1,none⟩=false:=fun u=>dc (dt u gq) _;have yZ:=oh.N4 kQ.out si.out uN;rw[xA,xB] at yZ;have SH:=ao yZ;have dC:af (iK false (⟨f.k,f.o,f.c,f.pre.append (.cons a b sub .nil),r⟩::ts)+1≤gk):=(by have aF:iK hd (f::ts)≤gk:=aQ.out;have e:iK hd (f::ts)=(if hd=true then wh f.rest+2 else rv f.rest+1)+xy ts:=rfl;have a6:iK false (⟨f.k,f.o,f.c,f.pre.append (.cons a b sub .nil),r⟩::ts)=(rv r+1)+xy ts:=rfl;show iK false _+1≤gk;rw[a6];rw[e,uN] at aF;simp only[wh,rv] at aF;split at aF<;>omega);clear dp gq lB xA xB eD SD SE J1 J2 J3 yZ SF;go_upto_region 22 with fail
   go_region_with (first|(go_at_call 62;with_reducible refine (JW 1 (0) ⟨by decide,by decide⟩ wo.out bI rm _).mono ?_;rintro e br ⟨rfl,rfl⟩)|(go_at_call 62;with_reducible refine (JW ix bI J4.out SG.out z1 Ax _).mono ?_;rintro e br ⟨rfl,rfl⟩)|fail)
   all_goals
    have c2:(Aw.setCell (aj g (n *3+2)) (I z1)).drew.cell? ⟨g,n *3+1,none⟩=some (I (pl:Int)):=aT _;have f2:(Aw.setCell (aj g (n *3+2)) (I z1)).drew.frozen? ⟨g,n *3+1,none⟩=false:=f1 _;have oX:af (oh S w w.heap.size s (⟨f.k,f.o,f.c,f.pre.append (.cons a b sub .nil),r⟩::ts) false L (ag g 0 (n+1) cap) ((Aw.setCell (aj g (n *3+2)) (I z1)).drew.setCell (aj g (n *3+1)) (I z2))):=SH.out.below (Below.refl _ _).drew;clear aT f1 e9 aY a6 nd;generalize (Aw.setCell (aj g (n *3+2)) (I z1)).drew=ain at c2 f2 oX⊢;rw[jJ.out] at oX;go_wp2_with fail
    go_roundg (gk-1)<;>first
     |exact⟨_,ts,false,L,_,rfl,oX.out,(by have h:iK false (⟨f.k,f.o,f.c,f.pre.append (.cons a b sub .nil),r⟩::ts)+1≤gk:=dC.out;omega:iK false (⟨f.k,f.o,f.c,f.pre.append (.cons a b sub .nil),r⟩::ts)≤gk-1)⟩
     |(have h:iK false (⟨f.k,f.o,f.c,f.pre.append (.cons a b sub .nil),r⟩::ts)+1≤gk:=dC.out;omega)
  ·have Oa:0<ng:=(by omega);have En:(0:Int)<(ng:Int):=(by omega);have wq:ng≤1000000000:=(by rw[←r8.out];exact GF.out.p.1);have aG:=GF.out.p;obtain⟨bM,bV,p6,rfl,aio,ed,_⟩:=aG.2 (by show 0<sub.len;rw[r8.out];exact Oa);have yV:af (hO S w (some (aj bM bV)) sub):=aG;have B2:=ao ed;have sj:decide ((ng:Int)> 0)=true:=gx En;clear aG ed aio;go_wp2_with fail;with_reducible refine (N7 bM bV ng cf ⟨Oa,wq⟩ _).mono ?_
   rintro e xC ⟨rfl,eF⟩;have lA:=ao (kQ.out.below eF);clear eF kQ;have uQ:=ahW lA.out.map (fun x hx=>by obtain⟨cs,aE⟩:=lA.out.jd.e1 x hx;exact⟨cs,ba aE lA.out.aM⟩) (bM,bV,ng) (ba B2.out lA.out.aM);obtain⟨aip,SI⟩:=aq (ka L (bM,bV,ng));have YS:=ao SI;rw[SI] at uQ;clear SI;cases aip with
   |some v=>
    have Ay:v=(sub.count:Int):=(by have au:ka L (bM,bV,sub.len)=some v:=(by rw[r8.out];exact YS.out);refine lA.out.jd.found lA.out.yX (fun g aI=>(lA.out.ps g aI).1) yV.out ?_ au;rw[show f.all=f.pre.append f.rest from rfl,bf.count_append,uN,bf.count_cons];omega);have wo:af (0≤v∧v≤1000000000):=(by have:=Em.out;show _∧_;omega);have tA:=ao Ay;have y0:(v== -1)=false:=(by rw[fO];omega);have YT:(Instr.lookup NW (.map (some w.heap.size)) (lv (bM,bV,ng)) true).run Tryz.prog xC=.ok (.tuple #[I v,U true]) xC:=uQ;clear uQ Ay;have dp:=lA.out.row;rw[show (f::ts).length=n+1 by simp[si.out]] at dp;obtain⟨e9,aY,a6⟩:=JV (z0:=ad (some (aj f.k f.o)) f.all.len f.c) (z1:=I (f.pre.len:Int)) (z2:=I (f.pre.count:Int)) dp (by rw[BZ,si.out]);rw[Av.out] at a6;rw[ru.out] at aY;have nd:∀j,xC.frozen? ⟨g,j,none⟩=false:=fun j=>dp.frozenAt j;obtain⟨cur,gq⟩:=(wj dp).2;obtain⟨bI,lB⟩:=aq (1+(v:Int));obtain⟨z1,xA⟩:∃z:Int,((f.pre.count+(sub.count+1):Nat):Int)=z:=⟨_,rfl⟩;obtain⟨z2,xB⟩:∃z:Int,((f.pre.len+1:Nat):Int)=z:=⟨_,rfl⟩;have eD:=Em.out;have SD:=Av.out;have SE:=ru.out;have SF:=wo.out;have Ay:=tA.out;have J1:0≤bI∧bI≤1000000000:=(by omega);have J2:0≤(ix:Int)∧(ix:Int)≤1000000000:=(by omega);have J3:(ix:Int)+bI=z1:=(by omega);have YR:ae ((pl:Int)+1)=z2:=(by rw[gw _ (by omega)];omega);have rm:=ao lB;have SG:=ao J1;have J4:=ao J2;have Ax:=ao J3;have aT:∀u,(xC.setCell (aj g (n *3+2)) u).cell? ⟨g,n *3+1,none⟩=some (I (pl:Int)):=fun u=>Sx gq (by omega) aY;have f1:∀u,(xC.setCell (aj g (n *3+2)) u).frozen? ⟨g,n *3+1,none⟩=false:=fun u=>dc (dt u gq) _;have yZ:=oh.N4 lA.out si.out uN;rw[xA,xB] at yZ;have SH:=ao yZ;have dC:af (iK false (⟨f.k,f.o,f.c,f.pre.append (.cons a b sub .nil),r⟩::ts)+1≤gk):=(by have aF:iK hd (f::ts)≤gk:=aQ.out;have e:iK hd (f::ts)=(if hd=true then wh f.rest+2 else rv f.rest+1)+xy ts:=rfl;have a6:iK false (⟨f.k,f.o,f.c,f.pre.append (.cons a b sub .nil),r⟩::ts)=(rv r+1)+xy ts:=rfl;show iK false _+1≤gk;rw[a6];rw[e,uN] at aF;simp only[wh,rv] at aF;split at aF<;>omega);clear dp gq lB xA xB eD SD SE J1 J2 J3 yZ SF Ay;go_upto_region 22 with fail
    go_region_with (first|(go_at_call 62;with_reducible refine (JW 1 (v) ⟨by decide,by decide⟩ wo.out bI rm _).mono ?_;rintro e br ⟨rfl,rfl⟩)|(go_at_call 62;with_reducible refine (JW ix bI J4.out SG.out z1 Ax _).mono ?_;rintro e br ⟨rfl,rfl⟩)|fail)
    all_goals
     have c2:(xC.setCell (aj g (n *3+2)) (I z1)).drew.cell? ⟨g,n *3+1,none⟩=some (I (pl:Int)):=aT _;have f2:(xC.setCell (aj g (n *3+2)) (I z1)).drew.frozen? ⟨g,n *3+1,none⟩=false:=f1 _;have oX:af (oh S w w.heap.size s (⟨f.k,f.o,f.c,f.pre.append (.cons a b sub .nil),r⟩::ts) false L (ag g 0 (n+1) cap) ((xC.setCell (aj g (n *3+2)) (I z1)).drew.setCell (aj g (n *3+1)) (I z2))):=SH.out.below (Below.refl _ _).drew;clear aT f1 e9 aY a6 nd;generalize (xC.setCell (aj g (n *3+2)) (I z1)).drew=ain at c2 f2 oX⊢;rw[jJ.out] at oX;go_wp2_with fail
     go_roundg (gk-1)<;>first
      |exact⟨_,ts,false,L,_,rfl,oX.out,(by have h:iK false (⟨f.k,f.o,f.c,f.pre.append (.cons a b sub .nil),r⟩::ts)+1≤gk:=dC.out;omega:iK false (⟨f.k,f.o,f.c,f.pre.append (.cons a b sub .nil),r⟩::ts)≤gk-1)⟩
      |(have h:iK false (⟨f.k,f.o,f.c,f.pre.append (.cons a b sub .nil),r⟩::ts)+1≤gk:=dC.out;omega)
   |none=>
    have YT:(Instr.lookup NW (.map (some w.heap.size)) (lv (bM,bV,ng)) true).run Tryz.prog xC=.ok (.tuple #[I 0,U false]) xC:=uQ;clear uQ
    have aiq:af (hd=false):=by
     show hd=false;cases hd with
     |false=>rfl
     |true=>
      exfalso;obtain⟨f',us,k1,b1,auA,j',tl,v8,c',e,a6,_,cV,iI⟩:=lA.out.aw rfl;injection e with lu kO;subst lu;rw[uN] at a6;injection a6 with _ _ tm _;subst tm;have xp:=SB.out;rw[ru.out,xp] at cV;injection cV with cV;injection cV with hb _ _;injection hb with hb;injection hb with xq BS;subst xq BS;apply iI;rw[r8.out];exact YS.out
    go_upto_region 18 with fail;go_wp2_with fail;with_reducible refine (N7 bM bV ng cf ⟨Oa,wq⟩ _).mono ?_
    rintro e auB ⟨rfl,k6⟩;have nf:=ao (lA.out.below k6);clear k6 lA YT;obtain⟨db,JX,wm,ih,uO⟩:=Sd nf.out.map (fun x hx=>by obtain⟨cs,aE⟩:=nf.out.jd.e1 x hx;exact⟨cs,ba aE nf.out.aM⟩) (bM,bV,ng) (ca:=p6) (ba B2.out nf.out.aM) (-1);have nL:=ao wm;have dO:af (an w w db):=nf.out.aM.trans (ih.below _ nf.out.aM.size fun k aw e=>by omega);have GV:af (db.ownsRow w.heap.size wk 3 (ag g 0 (n+1) cap) (n+1) (qa (f::ts))):=(by have h:=nf.out.row;rw[show (f::ts).length=n+1 by simp[si.out]] at h;exact Su h ih fun k a6 cV=>Sv nf.out.map h (cV ▸ a6));rw[jJ.out] at GV;clear wm ih uO;obtain⟨i0,hi,cW,xA,xB⟩:=info_parts aii;have bL:=ao (And.intro hi (And.intro cW (And.intro xA xB)));clear hi cW xA xB;have k8:af ((db.alloc (ai (#[ad (some (aj bM bV)) ng cf,I 0,I 0]) wk)).ownsRow w.heap.size wk 3 (ag g 0 cI cap) cI (qa (f::ts))):=GV.out.alloc _;have auC:=dO.out.size;go_wp2_with (at_builtin;refine GP _ rfl _ _ _ rfl w.heap.size wk i0 YN 3 40 Tryz.underlying185 bL.out.1 bL.out.2.1 bL.out.2.2.1 bL.out.2.2.2 rfl (by omega) (ag g 0 cI cap) cI _ (by rfl) k8.out (aj db.heap.size 0) 1 1 [ag bM bV ng cf,I 0,I 0] (by rfl) (by rfl) (jx (cs:= #[ad (some (aj bM bV)) ng cf,I 0,I 0]) (t:=wk) (fr:=(0,0)) (dL db _)) (by simp[Value.oneCell']) (by omega) (by unfold maxLen;omega) (by omega) (by simp;omega) (db.heap.size+1) (by simp) ?_;intro gg gG br ct dn dF h5);have uR:w.heap.size≤g:=(wj GV.out).1;have Sw:w.heap.size≠g:=(fun e=>by have h:=Sv nf.out.map nf.out.row;rw[←jJ.out] at ct;exact h (by rw[e];rfl));have GW:aK (fun b=>b≠g) (db.alloc (ai (#[ad (some (aj bM bV)) ng cf,I 0,I 0]) wk)) br:=aK.grown dn fun b e h=>h (by simpa[Value.ownBlock] using e.symm)
    have oX:af (oh S w w.heap.size s (⟨bM,bV,cf,.nil,sub⟩::f::ts) false (od L (bM,bV,ng) (-1)) (ag gg 0 (cI+1) gG) br):=by
     have jX:(⟨bM,bV,cf,.nil,sub⟩:Fr).key=(bM,bV,ng):=(by unfold Fr.key Fr.all;rw[←r8.out];rfl);have h:=oh.push (f':=⟨bM,bV,cf,.nil,sub⟩) (sv':=ad (some (aj gg 0)) (cI+1) gG) (w':=br) nf.out (a:=a) (b:=b) (r:=r) uN rfl ?_ yV.out ⟨?_,?_⟩ ?_ ?_ ?_
     ·rw[jX] at h;exact h
     ·rw[ru.out,show (⟨bM,bV,cf,.nil,sub⟩:Fr).all.len=ng from r8.out];exact SB.out
     ·rw[show (⟨bM,bV,cf,.nil,sub⟩:Fr).all.len=ng from r8.out];exact Oa
     ·rw[show (⟨bM,bV,cf,.nil,sub⟩:Fr).all.len=ng from r8.out];exact wq
     ·exact (dO.out.alloc dO.out.size _).trans (GW.below _ (dO.out.alloc dO.out.size _).size fun b ay e=>by omega)
     ·have e:qa (⟨bM,bV,cf,.nil,sub⟩::f::ts)=qa (f::ts)++[ad (some (aj bM bV)) ng cf,I 0,I 0]:=(by show qa (f::ts)++Ej _=_;unfold Ej;rw[show (⟨bM,bV,cf,.nil,sub⟩:Fr).all.len=ng from r8.out];rfl);rw[e,show (⟨bM,bV,cf,.nil,sub⟩::f::ts:List Fr).length=cI+1 by simp[si.out,jJ.out]];exact ct
     ·rw[jX];exact (nL.out.below (bh _ _)).keep GW Sw
    have dC:af (iK false (⟨bM,bV,cf,.nil,sub⟩::f::ts)+1≤gk):=(by have aF:iK hd (f::ts)≤gk:=aQ.out;have aE:hd=false:=aiq.out;subst aE;have e:iK false (f::ts)=rv f.rest+1+xy ts:=rfl;have a6:iK false (⟨bM,bV,cf,.nil,sub⟩::f::ts)=(rv sub+1)+(wh f.rest+2+xy ts):=rfl;show iK false (⟨bM,bV,cf,.nil,sub⟩::f::ts)+1≤gk;rw[a6,uN];rw[e,uN] at aF;simp only[wh,rv] at aF⊢;omega);clear ct dn dF h5 GW
    go_roundg (gk-1)<;>first
     |exact⟨_,_,false,_,_,rfl,oX.out,(by have h:iK false (⟨bM,bV,cf,.nil,sub⟩::f::ts)+1≤gk:=dC.out;omega:iK false (⟨bM,bV,cf,.nil,sub⟩::f::ts)≤gk-1)⟩
     |(have h:iK false (⟨bM,bV,cf,.nil,sub⟩::f::ts)+1≤gk:=dC.out;omega)
theorem GX(S:afp)(b:dK)(s:bf)(hs:s.count≤100000000)(pl:Ja)(n cl:Nat)(pp:Ja)(cp:Nat)(w:aeo)(bH:af (hO S w pp s)):
  Calls Tryz.prog 40 #[.agg #[I b.k,I b.a.1,I b.a.2,I b.b.1,I b.b.2,I b.c.1,I b.c.2,I b.r,ad pl n cl,ad pp s.len cp]] w fun e w'=>e=ab (I ((s.count+1:Nat):Int))∧an w w w':=by
 rcases w4 s.len with aF|aF
 ·have:s=.nil:=by
   cases s with
   |nil=>rfl
   |cons _ _ _ _=>simp[bf.len] at aF
  subst this;exact aia _ _ _ _ _ _ _ _ pl n cl pp cp w
 ·obtain⟨k,o,cs,rfl,_,_,_⟩:=bH.out.2 aF;have bG:=ao (fun (Z:aeo) (cN:an w w Z)=>aij S s k o cp Z (ao (bH.out.below cN)) aF hs);obtain⟨m,hm⟩:=aq s.len;obtain⟨N,hk⟩:=aq s.count;obtain⟨z,bP⟩:∃z:Int,((N+1:Nat):Int)=z:=⟨_,rfl⟩;rw[hk] at hs;rw[hm,hk] at bG;rw[hm,hk,bP];have bw:=ao (JW 1 N ⟨by decide,by decide⟩ ⟨by omega,by omega⟩ z (show _=_ by omega));clear hm hk bP;go_enter Tryz.func40,Tryz.ntmps40;go_wp2_with fail;with_reducible refine (bG.out _ (D4 _ _)).mono ?_
  rintro e V ⟨rfl,ay⟩;have aH:af (an w w V):=(D4 _ _).trans (ay.mono (D4 _ _).size);clear ay;go_wp2_with fail;with_reducible refine (bw.out _).mono ?_
  rintro e Aw ⟨rfl,rfl⟩;go_wp2_with fail;go_ret;exact⟨rfl,aH.out⟩
structure lW where
 B:Nat
 o:Nat
 b:dK
 s:bf
def GY(S:afp)(w0 x:aeo)(d:lW):Prop:=∃cs t pl cl pp cp,x.heap[d.B]?=some (.cells cs t (0,0))∧(t=cQ∨t=ev)∧(cs.toList.drop d.o).take 10=js d.b (ad pl d.b.l.length cl) (ad pp d.s.len cp)∧dw S w0 pl cl pp cp ⟨d.b,d.s⟩
def Ob(R:afp)(x:aeo)(d:lW):Prop:=∃cs t pl cl pp cp,x.heap[d.B]?=some (.cells cs t (0,0))∧(cs.toList.drop d.o).take 10=js d.b (ad pl d.b.l.length cl) (ad pp d.s.len cp)∧dw R x pl cl pp cp ⟨d.b,d.s⟩
def Oc(d e:lW):Prop:=d.B≠e.B∨d.o+10≤e.o∨e.o+10≤d.o
def Od(ps:List lW)(k i:Nat):Prop:=∃d∈ps,d.B=k∧(i=d.o+8∨i=d.o+9)
abbrev oY:TypeId:=104
structure iy(ps:List lW)(x y:aeo):Prop where
 size:x.heap.size≤y.heap.size
 cells:∀k cs t,x.heap[k]?=some (.cells cs t (0,0))→t≠oY→∃hP,y.heap[k]?=some (.cells hP t (0,0))∧hP.size=cs.size∧∀i,¬Od ps k i→hP[i]?=cs[i]?
theorem iy.refl(ps:List lW)(x:aeo):iy ps x x:=⟨aP _,fun k cs t h _=>⟨cs,h,rfl,fun _ _=>rfl⟩⟩
theorem iy.trans{ps ep:List lW}{x y z:aeo}(h:iy ps x y)(g:iy ep y z)(aG:∀k i,k<x.heap.size→Od ep k i→Od ps k i):iy ps x z where
 size:=cd h.size g.size
 cells:=fun k cs t aE bc=>by have az:=lt_of_heap aE;obtain⟨NV,au,ax,aA⟩:=h.cells k cs t aE bc;obtain⟨p6,g1,g2,g3⟩:=g.cells k NV t au bc;exact⟨p6,g1,g2.trans ax,fun i hi=>(g3 i fun J5=>hi (aG k i az J5)).trans (aA i hi)⟩
variable{ps:List lW}
theorem iy.air{T:afp}(h:aK (fun k=>¬T k) x y)(dm:∀k cs t,T k→x.heap[k]?=some (.cells cs t (0,0))→t=oY):iy ps x y:=⟨h.size,fun k cs t aE bc=>⟨cs,h.get (fun aw=>bc (dm k cs t aw aE)) aE,rfl,fun _ _=>rfl⟩⟩
theorem iy.c4(h:an x x y):iy ps x y:=⟨h.size,fun k cs t aE _=>⟨cs,ba aE h,rfl,fun _ _=>rfl⟩⟩
theorem iy.set(u:ada)(h:Od ps k i):iy ps x (x.setCell (aj k i) u) where
 size:=by simp[World.setCell]
 cells:=fun tl cs t aE _=>by
  by_cases e:tl=k
  ·subst e;refine⟨cs.setIfInBounds i u,dt u aE,by simp,fun j b6=>?_⟩;rw[xm,aN];rintro rfl;exact b6 h
  ·exact⟨cs,(lT e).trans aE,rfl,fun _ _=>rfl⟩
theorem iy.get(h:iy ps x y){cs:ajv}{t:aai}(aE:x.heap[k]?=some (.cells cs t (0,0)))(bc:t≠oY)(hn:∀d∈ps,d.B≠k):y.heap[k]?=some (.cells cs t (0,0)):=by
 obtain⟨hP,au,ax,aA⟩:=h.cells k cs t aE bc;have e:hP=cs:=by apply NM;intro i;exact aA i fun⟨d,hd,e,_⟩=>hn d hd e
 rw[au,e]
theorem gV.fr{R:afp}{p:Ja}{l:List b7}(h:gV R x p l)(hf:iy ps x y)(hn:∀k,R k→∀d∈ps,d.B≠k):gV R y p l:=by refine⟨h.1,fun az=>?_⟩;obtain⟨b,o,cs,rfl,bz,aE,aB⟩:=h.2 az;exact⟨b,o,cs,rfl,bz,hf.get aE (by decide) (hn b bz),aB⟩
theorem iS.fr{R:afp}{ps:List lW}{x y:aeo}{p:Ja}{l:List (List b7)}(h:iS R x p l)(hf:iy ps x y)(hn:∀k,R k→∀d∈ps,d.B≠k):iS R y p l:=by refine⟨h.1,fun az=>?_⟩;obtain⟨b,o,cs,rfl,bz,aE,aB⟩:=h.2 az;refine⟨b,o,cs,rfl,bz,hf.get aE (by decide) (hn b bz),fun i hi=>?_⟩;obtain⟨q,c,aG,rb,a1⟩:=aB i hi;exact⟨q,c,aG,rb,a1.fr hf hn⟩
def kids(N:Nat):Nat→bf→List lW
 |_,.nil=>[]
 |m,.cons _ b s r=>⟨N,m+1,b,s⟩::kids N (m+11) r
theorem J6(N:Nat):∀(s:bf) (m:Nat),(kids N m s).length=s.len
 |.nil,_=>rfl
 |.cons _ _ _ r,m=>by simp[kids,bf.len,J6 N r]
theorem Oe{N:Nat}:∀{s:bf} {m:Nat} {d:lW},d∈kids N m s→d.B=N∧m+1≤d.o∧d.o+10≤m+s.len *11
 |.nil,m,d,h=>by simp[kids] at h
 |.cons a b s r,m,d,h=>by
  rcases List.mem_cons.1 h with rfl|h
  ·refine⟨rfl,aP _,?_⟩;show m+1+10≤m+(r.len+1) *11;omega
  ·obtain⟨au,ax,aA⟩:=Oe h;refine⟨au,by omega,?_⟩;show d.o+10≤m+(r.len+1) *11;omega
theorem YU(N:Nat):∀(s:bf) (m:Nat),(kids N m s).Pairwise Oc
 |.nil,_=>List.Pairwise.nil
 |.cons a b s r,m=>by refine List.Pairwise.cons (fun d hd=>?_) (YU N r (m+11));obtain⟨au,ax,aA⟩:=Oe hd;exact .inr (.inl (by show m+1+10≤d.o;omega))
theorem ais(l:aev)(m:Nat)(v:ada)(h:l[m]?=some v)(k:Nat):(l.drop m).take (k+1)=v::(l.drop (m+1)).take k:=by obtain⟨az,rfl⟩:=List.getElem?_eq_some_iff.1 h;rw[rZ az,List.take_succ_cons]
theorem YV{S:afp}{w0 x:aeo}{N:Nat}{cs:ajv}(aE:x.heap[N]?=some (.cells cs ev (0,0))):∀{s:bf} {m:Nat},da S w0 s (cs.toList.drop m)→∀d∈kids N m s,GY S w0 x d
 |.nil,m,h,d,hd=>by simp[kids] at hd
 |.cons a b s r,m,h,d,hd=>by
  rcases List.mem_cons.1 hd with rfl|hd
  ·obtain⟨pl,cl,pp,cp,au,hs⟩:=h.head;refine⟨cs,ev,pl,cl,pp,cp,aE,.inr rfl,?_,hs⟩;show (cs.toList.drop (m+1)).take 10=_;have ax:=fS (List.drop 1) au;rw[D0,pw] at ax;exact ax
  ·refine YV aE (m:=m+11) ?_ d hd;have:=h.tail
   rwa [pw] at this
theorem YW{R:afp}{x:aeo}{N:Nat}{cs hP:ajv}{S:afp}{w0:aeo}(aE:x.heap[N]?=some (.cells hP ev (0,0))):∀{s:bf} {m:Nat},da S w0 s (cs.toList.drop m)→(∀i,i%11=m%11→m≤i→i<m+s.len *11→hP[i]?=cs[i]?)→(∀d∈kids N m s,Ob R x d)→da R x s (hP.toList.drop m)
 |.nil,m,h,aB,hd=>trivial
 |.cons a b s r,m,h,aB,hd=>by
  obtain⟨rl,auD,Az,AA,au,_⟩:=h.head;obtain⟨p6,t,pl,cl,pp,cp,aY,a6,hs⟩:=hd ⟨N,m+1,b,s⟩ (by simp[kids]);have Of:x.heap[N]?=some (.cells p6 t (0,0)):=aY;rw[aE] at Of;injection Of with Of;injection Of with cV _;subst cV;have hm:hP[m]?=some (U a):=(by rw[aB m rfl (aP _) (by show m<m+(r.len+1) *11;omega)];have aA:=fS (fun l:List Value=>l[0]?) au;simp only[ra,z',List.getElem?_cons_zero] at aA;simpa using aA);refine da.mk (pl:=pl) (cl:=cl) (pp:=pp) (cp:=cp) ?_ hs ?_
  ·rw[ais hP.toList m (U a) (by simpa using hm) 10];exact fS _ a6
  ·rw[pw];refine YW aE (cs:=cs) (m:=m+11) (S:=S) (w0:=w0) ?_ (fun i bb bj b8=>aB i (by omega) (by omega) (by show i<m+(r.len+1) *11;omega)) (fun d hE=>hd d (by simp[kids,hE]));have:=h.tail
   rwa [pw] at this
abbrev jh:Obj:=.cells #[I 0,I 0,I 0,I 0,I 0,I 0,I 0,I 0,J 0,J 0] cQ
abbrev sk(d:lW):Value:=.pointer (some (aj d.B d.o))
structure xD(S:afp)(w0:aeo)(root:lW)(ps:List lW)(sv:ada)(x:aeo):Prop where
 aM:an w0 w0 x
 row:x.ownsRow w0.heap.size oY 1 sv ps.length (ps.map sk)
 at_:∀d∈ps,GY S w0 x d
 low:∀d∈ps,w0.heap.size≤d.B∧d.B≠w0.heap.size+1
 ap:ps.Pairwise Oc
 res:x.heap[w0.heap.size+1]?=some jh
 YX:∀GZ,iy ps x GZ→(∀d∈ps,Ob (fun k=>w0.heap.size≤k∧k≠w0.heap.size+1) GZ d)→Ob (fun k=>w0.heap.size≤k∧k≠w0.heap.size+1) GZ root
theorem YY{cs hP:ajv}{o:Nat}(h:∀i,o≤i→i<o+10→hP[i]?=cs[i]?):(hP.toList.drop o).take 10=(cs.toList.drop o).take 10:=by
 apply GA;intro n;simp only[ra,z'];by_cases hn:n<10
 ·rw[aW hn,aW hn];simpa using h (o+n) (by omega) (by omega)
 ·rw[aN hn,aN hn]
variable{root:lW}
theorem xD.next{d:lW}{sv sv':ada}{ql pn:Ja}{dl N cn:Nat}{SJ csN:ajv}{Eo:aai}{R1:afp}(h:xD S w0 root (ps++[d]) sv x)(YZ:iy (ps++[d]) x y)(ay:an w0 w0 y)(dp:y.ownsRow w0.heap.size oY 1 sv' (ps++kids N 0 d.s).length ((ps++kids N 0 d.s).map sk))
  (dF:∀e∈ps,GY S w0 y e) (c6:y.heap[w0.heap.size+1]?=some jh) (hd:y.heap[d.B]?=some (.cells SJ Eo (0,0))) (Og:Eo≠oY) (hE:(SJ.toList.drop d.o).take 10=js d.b (ad ql d.b.l.length dl) (ad pn d.s.len cn))
  (aB:iS R1 y ql d.b.l) (qK:∀k,R1 k→(w0.heap.size≤k∧k≠w0.heap.size+1)∧k≠N∧∀e∈ps,e.B≠k) (qb:d.b.l.length≤dl) (B1:d.s.len≤cn) (wq:d.s.len≤jr) (auE:x.heap.size≤N)
  (hk:0<d.s.len→pn=some ⟨N,0,none⟩∧y.heap[N]?=some (.cells csN ev (0,0))∧da S w0 d.s csN.toList):xD S w0 root (ps++kids N 0 d.s) sv' y:=by
 have qc:=lt_of_heap h.res;have bm:∀e∈ps++[d],e.B<x.heap.size:=fun e he=>by obtain⟨cs,t,_,_,_,_,au,_⟩:=h.at_ e he;exact lt_of_heap au
 have J7:∀e∈kids N 0 d.s,e.B=N:=fun e he=>(Oe he).1;have B0:=List.pairwise_append.1 h.ap;refine⟨ay,dp,fun e he=>?_,fun e he=>?_,?_,c6,fun GZ Oh Y0=>?_⟩
 ·rcases List.mem_append.1 he with he|he
  ·exact dF e he
  ·rcases w4 d.s.len with aF|aF
   ·have:(kids N 0 d.s).length=0:=(by rw[J6,aF]);rw[lP this] at he;simp at he
   ·obtain⟨_,ax,aA⟩:=hk aF;exact YV ax (m:=0) aA e he
 ·rcases List.mem_append.1 he with he|he
  ·exact h.low e (by simp[he])
  ·rw[J7 e he];have:=h.aM.size;omega
 ·refine List.pairwise_append.2 ⟨B0.1,YU N d.s 0,fun e he f hf=>.inl ?_⟩;rw[J7 f hf];have:=bm e (by simp[he]);omega
 ·have SK:∀k,R1 k→∀e∈ps++kids N 0 d.s,e.B≠k:=fun k aw e he=>by
   obtain⟨_,ax,aA⟩:=qK k aw;rcases List.mem_append.1 he with he|he
   ·exact aA e he
   ·rw[J7 e he];exact eN ax
  refine h.YX GZ (YZ.trans Oh fun k i aw ⟨e,he,aY,a6⟩=>?_) fun e he=>?_
  ·rcases List.mem_append.1 he with he|he
   ·exact⟨e,by simp[he],aY,a6⟩
   ·rw[J7 e he] at aY;omega
  ·rcases List.mem_append.1 he with he|he
   ·exact Y0 e (by simp[he])
   ·obtain rfl:e=d:=(by simpa using he);obtain⟨hP,g1,g2,g3⟩:=Oh.cells e.B SJ Eo hd Og;refine⟨hP,Eo,ql,dl,pn,cn,g1,(YY fun i au ax=>g3 i fun⟨f,hf,f1,f2⟩=>?_).trans hE,⟨(aB.fr Oh SK).mono fun k _ aw=>(qK k aw).1,⟨wq,fun aF=>?_⟩,qb,B1⟩⟩
    ·rcases List.mem_append.1 hf with hf|hf
     ·rcases B0.2.2 f hf e (by simp) with bj|bj|bj
      ·exact bj f1
      ·rcases f2 with rfl|rfl<;>omega
      ·rcases f2 with rfl|rfl<;>omega
     ·rw[J7 f hf] at f1;have:=bm e (by simp);omega
    ·obtain⟨eG,fT,n3⟩:=hk aF;obtain⟨p6,dP,bM,fk⟩:=Oh.cells N csN ev fT (by decide);refine⟨N,0,p6,eG,?_,dP,?_⟩
     ·have:=h.aM.size;show w0.heap.size≤N∧N≠w0.heap.size+1;omega
     ·refine YW dP (cs:=csN) (m:=0) (S:=S) (w0:=w0) n3 (fun i au ax bb=>fk i fun⟨f,hf,f1,f2⟩=>?_) fun f hf=>Y0 f (by simp[hf]);rcases List.mem_append.1 hf with hf|hf
      ·have:=bm f (by simp[hf]);omega
      ·obtain⟨_,bJ,dT⟩:=Oe hf
       have hm:∀{s:bf} {m:Nat},f∈kids N m s→f.o%11=(m+1)%11:=by
        intro s
        induction s with
        |nil=>intro m hf;simp[kids] at hf
        |cons a b s r _ cU=>
         intro m hf;rcases List.mem_cons.1 hf with rfl|hf
         ·rfl
         ·rw[cU hf];omega
       have:=hm hf;rcases f2 with rfl|rfl<;>omega
theorem xD.fin{sv:ada}(h:xD S w0 root [] sv x):Ob (fun k=>w0.heap.size≤k∧k≠w0.heap.size+1) x root:=h.YX x (iy.refl _ _) fun d hd=>by simp at hd
end c1
