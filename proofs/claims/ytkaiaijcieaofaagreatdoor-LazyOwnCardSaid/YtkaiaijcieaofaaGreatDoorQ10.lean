/- Lemmas. -/
import Derived.Test.YtkaiaijcieaofaaGreatDoorQ9
import Derived.Maps.OwnSet
import Derived.Maps.OwnOps
import Derived.StillTailTactics
import Derived.RegionTactic
import Derived.BigRegion
set_option linter.all false
set_option maxRecDepth 100000
set_option maxHeartbeats 3200000
namespace Go.Proofs.YtkaiaijcieaofaaGreatDoor
abbrev OL:=@Proofs.Tryz.strings_Contains_one
abbrev EJ:=@Proofs.Tryz.results140
abbrev Tq:=@Maps.int_keyed
abbrev Tr:=@Proofs.Tryz.underlying148
abbrev KI:=@Proofs.Tryz.underlying2
abbrev Ts:=@Maps.keyOf_int_mk
abbrev OM:=@WalkArith.wf_i64
abbrev Tt:=@Proofs.Tryz.underlying32
abbrev KJ:=@bne_eq_false_iff_eq
abbrev y':=@bne_iff_ne
namespace dY
open Go.RowKit gI ga jz qe rC mI
open AK (vc KH EG y8)
abbrev Tu(sv:ada)(r:Nat)(m:M):Array Value:= #[sv,I m.budget,I m.lE,I m.u,I m.i,I m.d,U m.t,.map (some r),I m.hW,I m.x,I m.y,U m.gA,U m.down,U m.hit]
abbrev za(sv:ada)(r:Nat)(m:M):Obj:=.cells (Tu sv r m) 150
def wC(l:List kT):List Value:=l.flatMap fun s=>(Ho s).toList
def wD(w:aeo)(r n:Nat)(fK:Int→Option Int):Prop:=
 ∃D:DataW Unit,w.ownsMap Tryz.prog 3 (plainElem Tryz.prog 2) r n D∧Maps.IsMap D∧∀k:Int,Maps.has D (.int .i64 k)=(fK k).isSome∧D.atKey (.int .i64 k) (.lit (.int .i64 0))=.lit (.int .i64 ((fK k).getD 0))
structure eK(B b r n:Nat)(m:M)(w:aeo):Prop where
 Cp:B≤b
 Ht:B≤r
 cells:∃sv,w.heap[b]?=some (za sv r m)∧w.ownsRow B 42 10 sv m.bq.length (wC m.bq)
 fK:wD w r n m.fK
 hX:rD m
 t0:0≤m.hW
 t1:m.hW≤9999
variable{w w0 W:aeo}
theorem wD.below{w':aeo}{r n:Nat}{fK:Int→Option Int}(h:wD w r n fK)(ay:an w w w'):wD w' r n fK:=by obtain⟨D,au,ax,aA⟩:=h;exact⟨D,au.kept (row:=none) ⟨ay.os,ay.tape,ay.output,ay.size,fun k aw _=>ay.block k aw⟩ (by simp),ax,aA⟩
theorem fY{w':aeo}{B:Nat}{e:aai}{aR n:Nat}{v:ada}{xs:aev}(h:w.ownsRow B e aR v n xs)(ay:an w w w'):w'.ownsRow B e aR v n xs:=
 h.kept (row:=none) ⟨ay.os,ay.tape,ay.output,ay.size,fun k aw _=>ay.block k aw⟩ (by cases v.ownBlock<;>simp)
theorem eK.below{B b r n:Nat}{m:M}{w w':aeo}(h:eK B b r n m w)(ay:an w w w'):eK B b r n m w':=by obtain⟨sv,au,ax⟩:=h.cells;exact⟨h.Cp,h.Ht,⟨sv,ba au ay,fY ax ay⟩,h.fK.below ay,h.hX,h.t0,h.t1⟩
structure ajt(w:aeo)(b r:Nat)(sv:ada)(m:M):Prop where
 aV:ak w b 0 sv
 aT:ak w b 1 (I m.budget)
 c2:ak w b 2 (I m.lE)
 c3:ak w b 3 (I m.u)
 cD:ak w b 4 (I m.i)
 c5:ak w b 5 (I m.d)
 cX:ak w b 6 (U m.t)
 c7:ak w b 7 (.map (some r))
 dj:ak w b 8 (I m.hW)
 bB:ak w b 9 (I m.x)
 di:ak w b 10 (I m.y)
 dE:ak w b 11 (U m.gA)
 mM:ak w b 12 (U m.down)
 lZ:ak w b 13 (U m.hit)
 f:∀i,w.frozen? ⟨b,i,none⟩=false
variable{b:Nat}
theorem gQ{r:Nat}{sv:ada}{m:M}(h:w.heap[b]?=some (za sv r m)):ajt w b r sv m:=by refine⟨?_,?_,?_,?_,?_,?_,?_,?_,?_,?_,?_,?_,?_,?_,fun i=>?_⟩<;>simp[World.cell?,World.frozen?,h]
def aju(o:Option Int)(w:aeo)(e:Ending)(w':aeo):Prop:=e=ab (.tuple #[I (o.getD 0),U o.isSome])∧an w w w'
theorem EK(B b r n:Nat)(m:M)(S:Ua)(hs:S.size≤maxLen)(w:aeo)(H:af (eK B b r n m w))(o:Option Int)(a1:af (AH m S.data.toList=o)):
  Calls Tryz.prog 172 #[ah b 0,aa S] w (aju o w):=by
 have ou:=ao hs;obtain⟨sv,au,ax⟩:=H.out.cells;obtain⟨aV,aT,c2,c3,cD,c5,cX,c7,dj,bB,di,dE,mM,lZ,_⟩:=gQ au;clear au ax aV aT c2 c7 dj bB di dE mM lZ;have az:=a1.out;unfold AH at az;clear a1;by_cases aB:S.data.toList.contains 46=true
 ·rw[aW aB] at az;have bG:af (decide (0≤Lib.indexByte S.data.toList 46)=true):=(by show _=_;rw[ZN];exact aB);obtain⟨d,hd⟩:=aq (dec S.data.toList);rw[hd] at az;have b9:af (dec S.data.toList=d):=hd;clear aB hd;cases d with
  |none=>
   have bE:af (none=o):=az;clear az;go_enter Tryz.func172,Tryz.ntmps172;go_wp2_with fail;with_reducible refine (OL _ 46 _).mono ?_
   rintro e w' ⟨rfl,rfl⟩;rw[bG.out];go_wp2_with fail;with_reducible refine (Hi S _ ou.out).mono ?_
   rintro e bt ⟨rfl,rfl⟩;rw[b9.out];go_wp2_with fail;go_ret2;rw[←bE.out];exact⟨rfl,Below.refl _ _⟩
  |some z=>
   have bE:af ((mm.fW z m.u).getD 0=o.getD 0∧(mm.fW z m.u).isSome=o.isSome):=(by rw[←az];exact⟨rfl,rfl⟩);clear az;go_enter Tryz.func172,Tryz.ntmps172;go_wp2_with fail;with_reducible refine (OL _ 46 _).mono ?_
   rintro e w' ⟨rfl,rfl⟩;rw[bG.out];go_wp2_with fail;with_reducible refine (Hi S _ ou.out).mono ?_
   rintro e bt ⟨rfl,rfl⟩;rw[b9.out];go_wp2_with fail;with_reducible refine (vc z m.u _ _ bE _).mono ?_
   rintro e db ⟨rfl,rfl⟩;go_wp2_with fail;go_ret2;exact⟨rfl,Below.refl _ _⟩
 ·rw[aN aB] at az;have bG:af (decide (0≤Lib.indexByte S.data.toList 46)=false):=(by show _=_;rw[ZN];exact Bool.eq_false_iff.2 aB);have bE:af ((mm.kk S.data.toList m.u m.i m.d m.t).getD 0=o.getD 0∧(mm.kk S.data.toList m.u m.i m.d m.t).isSome=o.isSome):=(by rw[←az];exact⟨rfl,rfl⟩);clear az aB;go_enter Tryz.func172,Tryz.ntmps172;go_wp2_with fail;with_reducible refine (OL _ 46 _).mono ?_
  rintro e w' ⟨rfl,rfl⟩;rw[bG.out];go_wp2_with fail;with_reducible refine (KH S S.data.toList (ao (Eq.refl _)) m.u m.i m.d m.t _ _ bE (by have h:=ou.out;unfold maxLen at h;omega) _).mono ?_
  rintro e bt ⟨rfl,ay⟩;go_wp2_with fail;go_ret2;exact⟨rfl,ay⟩
variable{t:aai}
theorem fR{v0 v1:ada}(h:al w b (#[v0,v1]) t):(ak w b 0 v0∧ak w b 1 v1)∧w.frozen? ⟨b,0,none⟩=false∧w.frozen? ⟨b,1,none⟩=false:=by refine⟨⟨?_,?_⟩,?_,?_⟩<;>simp[World.cell?,World.frozen?,h]
theorem ON{x:aeo}{v0 v1:ada}(h:al x b (#[v0,v1]) t)(u:ada):(x.setCell (aj b 0) u).heap[b]?=some (.cells #[u,v1] t):=here h 0 u
theorem OO{x:aeo}{v0 v1:ada}(h:al x b (#[v0,v1]) t)(u:ada):(x.setCell (aj b 1) u).heap[b]?=some (.cells #[v0,u] t):=here h 1 u
structure tL(w0:aeo)(a b c d:Int)(W:aeo):Prop where
 r:W.heap[w0.heap.size+1]?=some (fl c d)
 p:W.heap[w0.heap.size+2]?=some (fl a b)
 aM:an w0 w0 W
variable{a c d:Int}
theorem tL.below{jN:aeo}{b:Int}(h:tL w0 a b c d W)(ay:an W W jN):tL w0 a b c d jN:=⟨ba h.r ay,ba h.p ay,h.aM.trans (ay.mono h.aM.size)⟩
theorem tL.ho{b:Int}(h:tL w0 a b c d W)(u:Int):tL w0 u b c d (W.setCell (aj (w0.heap.size+2) 0) (I u)):=
 ⟨(hC _ _ _ _ (by show w0.heap.size+1≠w0.heap.size+2;omega)).trans h.r,ON h.p _,h.aM.setCell (by show w0.heap.size≤w0.heap.size+2;omega) _⟩
theorem tL.fx{b:Int}(h:tL w0 a b c d W)(u:Int):tL w0 a u c d (W.setCell (aj (w0.heap.size+2) 1) (I u)):=
 ⟨(hC _ _ _ _ (by show w0.heap.size+1≠w0.heap.size+2;omega)).trans h.r,OO h.p _,h.aM.setCell (by show w0.heap.size≤w0.heap.size+2;omega) _⟩
theorem tL.gp{b:Int}(h:tL w0 a b c d W)(u v:Int):tL w0 a b u v ((W.setCell (aj (w0.heap.size+1) 0) (I u)).setCell (aj (w0.heap.size+1) 1) (I v)):=
 ⟨OO (ON h.r _) _,(hC _ _ _ _ (by show w0.heap.size+2≠w0.heap.size+1;omega)).trans ((hC _ _ _ _ (by show w0.heap.size+2≠w0.heap.size+1;omega)).trans h.p),(h.aM.setCell (by show w0.heap.size≤w0.heap.size+1;omega) _).setCell (by show w0.heap.size≤w0.heap.size+1;omega) _⟩
theorem ajw(w:aeo)(a b:Int):tL w a b 0 0 (((w.alloc (fl a b)).alloc (fl 0 0)).alloc (fl a b)):=by
 have aY:(w.alloc (fl a b)).heap.size=w.heap.size+1:=by simp
 have a6:((w.alloc (fl a b)).alloc (fl 0 0)).heap.size=w.heap.size+2:=by simp
 refine⟨?_,?_,(((Below.refl _ _).alloc (aP _) _).alloc (by omega) _).alloc (by omega) _⟩
 ·rw[qL _ _ _ (by omega)];have h:=dL (w.alloc (fl a b)) (fl 0 0)
  rwa [aY] at h
 ·have h:=dL ((w.alloc (fl a b)).alloc (fl 0 0)) (fl a b)
  rwa [a6] at h
def ajx(o:Option (Int×Int))(w:aeo)(e:Ending)(w':aeo):Prop:=e=ab (.tuple #[Cn (o.getD (0,0)).1 (o.getD (0,0)).2,U o.isSome])∧an w w w'
theorem rq(B b r n:Nat)(m:M)(X Y:Ua)(hx:X.size≤maxLen)(hy:Y.size≤maxLen)(gm gn:Int)(w:aeo)(H:af (eK B b r n m w))(o:Option (Int×Int))(a1:af (fI m X.data.toList Y.data.toList gm gn=o)):
  Calls Tryz.prog 140 #[ah b 0,aa X,aa Y,.agg #[I gm,I gn]] w (ajx o w):=by
 have cK:=ao hx;have fq:=ao hy;have bw:af (tL w gm gn 0 0 (((w.alloc (fl gm gn)).alloc (fl 0 0)).alloc (fl gm gn))):=ajw w gm gn;have az:=a1.out;unfold fI at az;clear a1 hx hy;go_enter Tryz.func140,Tryz.ntmps140;go_upto_region 3 with fail;generalize (((w.alloc (ai (#[I gm,I gn]) 38)).alloc (ai (#[I 0,I 0]) 38)).alloc (ai (#[I gm,I gn]) 38))=W at bw⊢;obtain⟨⟨du,dI⟩,z0,z1⟩:=fR bw.out.r;obtain⟨⟨ho,fx⟩,dH,c0⟩:=fR bw.out.p;by_cases xO:X.data.toList=[]
 ·rw[aW xO] at az;have ajy:X.toList.isEmpty=true:=(by rw[nj,xO];rfl);clear xO;simp only[] at az;by_cases qh:Y.data.toList=[]
  ·rw[aW qh] at az;have bE:af (some (gm,gn)=o):=az;have Tv:Y.toList.isEmpty=true:=(by rw[nj,qh];rfl);clear az qh;have aJ:=ao (bw.out.gp gm gn);go_wp2_with fail;refine cL (v:=.tuple #[Cn (gm) (gn),U true]) ?_ rfl ⟨by rw[←bE.out];rfl,aJ.out.aM⟩;obtain⟨⟨eB,bI⟩,_⟩:=fR aJ.out.r;clear du dI z0 z1 ho fx dH c0;simp[results,EJ,go_sem,eB,bI]<;>rfl
  ·rw[aN qh] at az
   have Tv:Y.toList.isEmpty=false:=by
    rw[nj];cases aG:Y.data.toList with
    |nil=>exact absurd aG qh
    |cons _ _=>rfl
   obtain⟨KK,EL⟩:=aq (AH m Y.data.toList);have Tw:=ao EL;rw[EL] at az;clear qh EL;go_wp2_with fail;with_reducible refine (EK B b r n m Y fq.out _ (ao (H.out.below bw.out.aM)) KK Tw).mono ?_
   rintro e bt ⟨rfl,ck⟩;have kb:=ao (bw.out.below ck);clear du dI z0 z1 ho fx dH c0 ck bw;have bw:=kb;clear kb;obtain⟨⟨du,dI⟩,z0,z1⟩:=fR bw.out.r;obtain⟨⟨ho,fx⟩,dH,c0⟩:=fR bw.out.p;cases KK with
   |none=>
    have bE:af (none=o):=az;clear az;have aJ:=ao ((bw.out.fx 0).gp 0 0);go_wp2_with fail;refine cL (v:=.tuple #[Cn (0) (0),U false]) ?_ rfl ⟨by rw[←bE.out];rfl,aJ.out.aM⟩;obtain⟨⟨eB,bI⟩,_⟩:=fR aJ.out.r;clear du dI z0 z1 ho fx dH c0;simp[results,EJ,go_sem,eB,bI]<;>rfl
   |some sx=>
    have bE:af (some (gm,sx)=o):=az;clear az;have aJ:=ao ((bw.out.fx sx).gp gm sx);go_wp2_with fail;refine cL (v:=.tuple #[Cn (gm) (sx),U true]) ?_ rfl ⟨by rw[←bE.out];rfl,aJ.out.aM⟩;obtain⟨⟨eB,bI⟩,_⟩:=fR aJ.out.r;clear du dI z0 z1 ho fx dH c0;simp[results,EJ,go_sem,eB,bI]<;>rfl
 ·rw[aN xO] at az
  have ajy:X.toList.isEmpty=false:=by
   rw[nj];cases aG:X.data.toList with
   |nil=>exact absurd aG xO
   |cons _ _=>rfl
  obtain⟨ox,Hu⟩:=aq (AH m X.data.toList);have ajz:=ao Hu;rw[Hu] at az;clear xO Hu;go_wp2_with fail;with_reducible refine (EK B b r n m X cK.out _ (ao (H.out.below bw.out.aM)) ox ajz).mono ?_
  rintro e bt ⟨rfl,ck⟩;have kb:=ao (bw.out.below ck);clear du dI z0 z1 ho fx dH c0 ck bw;have bw:=kb;clear kb;obtain⟨⟨du,dI⟩,z0,z1⟩:=fR bw.out.r;obtain⟨⟨ho,fx⟩,dH,c0⟩:=fR bw.out.p;cases ox with
  |none=>
   have bE:af (none=o):=az;clear az;have aJ:=ao ((bw.out.ho 0).gp 0 0);go_wp2_with fail;refine cL (v:=.tuple #[Cn (0) (0),U false]) ?_ rfl ⟨by rw[←bE.out];rfl,aJ.out.aM⟩;obtain⟨⟨eB,bI⟩,_⟩:=fR aJ.out.r;clear du dI z0 z1 ho fx dH c0;simp[results,EJ,go_sem,eB,bI]<;>rfl
  |some vd=>
   simp only[] at az;have EM:=ao (bw.out.ho vd);go_upto_region 7 with fail;clear du dI z0 z1 ho fx dH c0 bw;generalize bt.setCell _ _=dZ at *
   have bw:=EM;clear EM;obtain⟨⟨du,dI⟩,z0,z1⟩:=fR bw.out.r;obtain⟨⟨ho,fx⟩,dH,c0⟩:=fR bw.out.p;by_cases qh:Y.data.toList=[]
   ·rw[aW qh] at az;have bE:af (some (vd,gn)=o):=az;have Tv:Y.toList.isEmpty=true:=(by rw[nj,qh];rfl);clear az qh;have aJ:=ao (bw.out.gp vd gn);go_wp2_with fail;refine cL (v:=.tuple #[Cn (vd) (gn),U true]) ?_ rfl ⟨by rw[←bE.out];rfl,aJ.out.aM⟩;obtain⟨⟨eB,bI⟩,_⟩:=fR aJ.out.r;clear du dI z0 z1 ho fx dH c0;simp[results,EJ,go_sem,eB,bI]<;>rfl
   ·rw[aN qh] at az
    have Tv:Y.toList.isEmpty=false:=by
     rw[nj];cases aG:Y.data.toList with
     |nil=>exact absurd aG qh
     |cons _ _=>rfl
    obtain⟨KK,EL⟩:=aq (AH m Y.data.toList);have Tw:=ao EL;rw[EL] at az;clear qh EL;go_wp2_with fail;with_reducible refine (EK B b r n m Y fq.out _ (ao (H.out.below bw.out.aM)) KK Tw).mono ?_
    rintro e bt ⟨rfl,ck⟩;have kb:=ao (bw.out.below ck);clear du dI z0 z1 ho fx dH c0 ck bw;have bw:=kb;clear kb;obtain⟨⟨du,dI⟩,z0,z1⟩:=fR bw.out.r;obtain⟨⟨ho,fx⟩,dH,c0⟩:=fR bw.out.p;cases KK with
    |none=>
     have bE:af (none=o):=az;clear az;have aJ:=ao ((bw.out.fx 0).gp 0 0);go_wp2_with fail;refine cL (v:=.tuple #[Cn (0) (0),U false]) ?_ rfl ⟨by rw[←bE.out];rfl,aJ.out.aM⟩;obtain⟨⟨eB,bI⟩,_⟩:=fR aJ.out.r;clear du dI z0 z1 ho fx dH c0;simp[results,EJ,go_sem,eB,bI]<;>rfl
    |some sx=>
     have bE:af (some (vd,sx)=o):=az;clear az;have aJ:=ao ((bw.out.fx sx).gp vd sx);go_wp2_with fail;refine cL (v:=.tuple #[Cn (vd) (sx),U true]) ?_ rfl ⟨by rw[←bE.out];rfl,aJ.out.aM⟩;obtain⟨⟨eB,bI⟩,_⟩:=fR aJ.out.r;clear du dI z0 z1 ho fx dH c0;simp[results,EJ,go_sem,eB,bI]<;>rfl
end dY
namespace c1
open Go.RowKit ef
open dY (wC Ho)
theorem j0.congr{S:afp}{w:aeo}:∀{l:List dq} {xs ys:aev},j0 S w l xs→xs.take (l.length *10)=ys.take (l.length *10)→j0 S w l ys
 |[],_,_,_,_=>trivial
 |s::l,xs,ys,h,e=>by obtain⟨⟨pl,cl,pp,cp,au,ax⟩,b8⟩:=h;have aY:xs.take 10=ys.take 10:=(by have:=fS (List.take 10) e;rw[xh,xh,yL (by simp only[eT];omega)] at this;exact this);have a6:(xs.drop 10).take (l.length *10)=(ys.drop 10).take (l.length *10):=(by have:=fS (List.drop 10) e;rw[D0,D0,show (s::l).length *10-10=l.length *10 by simp only[eT];omega] at this;exact this);exact⟨⟨pl,cl,pp,cp,by rw[←aY];exact au,ax⟩,j0.congr b8 a6⟩
theorem j0.append{S:afp}{w:aeo}:∀{l m:List dq} {xs ys:aev},j0 S w l xs→xs.length=l.length *10→j0 S w m ys→j0 S w (l++m) (xs++ys)
 |[],m,xs,ys,_,hx,h=>by obtain rfl:xs=[]:=lP (by simpa using hx);exact h
 |s::l,m,xs,ys,h,hx,ax=>by obtain⟨⟨pl,cl,pp,cp,au,aA⟩,b8⟩:=h;rw[eT] at hx;refine⟨⟨pl,cl,pp,cp,by rw[XE (by omega)];exact au,aA⟩,?_⟩;rw[XF (by omega)];exact j0.append b8 (by rw[e8];omega) ax
theorem iA.mono{S R:afp}{w:aeo}{p:Ja}{l:List dq}(h:iA S w p l)(aw:∀k,k<w.heap.size→S k→R k):iA R w p l:=by refine⟨h.1,fun az=>?_⟩;obtain⟨k,o,cs,e,hS,aE,hp⟩:=h.2 az;exact⟨k,o,cs,e,aw k (lt_of_heap aE) hS,aE,j0.mono aw hp⟩
theorem iA.lt{S:afp}{w:aeo}{p:Ja}{l:List dq}(h:iA S w p l):iA (fun k=>S k∧k<w.heap.size) w p l:=h.mono fun _ au ax=>⟨ax,au⟩
def wE(w0:aeo)(sv:ada)(os:List dq)(x:aeo):Prop:=∃(R:afp) (xs:aev),x.ownsRow w0.heap.size cQ 10 sv os.length xs∧j0 R x os xs∧(∀k,R k→w0.heap.size≤k∧k<x.heap.size)∧(∀k,sv.ownBlock=some k→¬R k)∧an w0 w0 x
variable{w0:aeo}{sv:ada}{os:List dq}
theorem wE.below{x y:aeo}(h:wE w0 sv os x)(ay:an x x y):wE w0 sv os y:=by obtain⟨R,xs,au,ax,aA,bb,bj⟩:=h;exact⟨R,xs,fY au ay,ax.keep (.c4 ay),fun k aw=>⟨(aA k aw).1,hN (aA k aw).2 ay.size⟩,bb,bj.trans (ay.mono bj.size)⟩
theorem wE.push{sv':ada}{X Y Z:aeo}(h:wE w0 sv os X){g n' c':Nat}{b:dK}{s:bf}{q qp:Ja}{e f:Nat}{V:aev}{xs:aev}(jy:an X X Y)(qO:an Y Y Z)(aG:dw (fun k=>X.heap.size≤k) Y q e qp f ⟨b,s⟩){W:aeo}
  (aI:Z.grownBy W sv.ownBlock) (jK:V=js b (ad q b.l.length e) (ad qp s.len f)) (hx:∀ys,X.ownsRow w0.heap.size cQ 10 sv os.length ys→xs=ys) (ct:W.ownsRow w0.heap.size cQ 10 sv' (os.length+1) (xs++V)) (Ha:sv'=ad (some (aj g 0)) n' c') (dF:sv.ownBlock=some g∨Y.heap.size≤g):wE w0 sv' (os++[⟨b,s⟩]) W:=by
 obtain⟨R,ys,au,ax,aA,bb,bj⟩:=h;obtain rfl:=hx ys au;subst jK;have Eu:an X X Z:=jy.trans (qO.mono jy.size)
 have Kd:∀k,sv.ownBlock=some k→¬(R k∨(X.heap.size≤k∧k<Y.heap.size)):=fun k aw h=>by
  rcases h with h|h
  ·exact bb k aw h
  ·have:=(au.lt k aw).2;omega
 have Ke:aK (fun k=>R k∨(X.heap.size≤k∧k<Y.heap.size)) Z W:=aK.grown aI Kd;refine⟨fun k=>R k∨(X.heap.size≤k∧k<Y.heap.size),_,by rw[fH];exact ct,?_,fun k aw=>?_,fun k aw h=>?_,(bj.trans (Eu.mono bj.size)).grown aI (cd bj.size Eu.size) (fun k aw=>(au.lt k aw).1)⟩
 ·refine j0.append (((ax.keep (.c4 Eu)).mono (fun k _ aw=>.inl aw)).keep Ke) au.1 ⟨⟨q,e,qp,f,rfl,?_⟩,trivial⟩;exact ((aG.mono (R:=fun k=>R k∨(X.heap.size≤k∧k<Y.heap.size)) (fun k aw h=>.inr ⟨h,aw⟩)).below qO).keep Ke
 ·have mA:=jy.size;have k':=qO.size;have uO:=aI.size;have Oz:=bj.size;rcases aw with aw|aw
  ·have:=aA k aw;exact⟨this.1,by omega⟩
  ·exact⟨by omega,by omega⟩
 ·rw[Ha] at aw;simp only[Value.ownBlock,r0] at aw;subst aw;rcases dF with b8|b8
  ·exact Kd g b8 h
  ·rcases h with h|h
   ·have:=(aA g h).2;have:=jy.size;omega
   ·omega
theorem iA.own{R:afp}{B:Nat}{x:aeo}{xs:aev}(au:x.ownsRow B cQ 10 sv os.length xs)(ax:j0 R x os xs)(ay:os.length≤jr)(hR:∀k,B≤k→R k):∃q d,sv=ad q os.length d∧iA R x q os:=by
 obtain⟨q,d,rfl⟩:=iw au;refine⟨q,d,rfl,ay,fun az=>?_⟩;rcases au.2 with ⟨_,aF⟩|⟨k,cap,cur,aS,bz,aE,_,_,_,bc⟩
 ·omega
 ·injection aS with aY _ _;refine⟨k,0,cur,aY,hR k bz,aE,ax.congr ?_⟩;rw[wu,←bc,xh,G4]
theorem wE.own{R:afp}{w0 x:aeo}{sv:ada}{os:List dq}(h:wE w0 sv os x)(ay:os.length≤jr)(hR:∀k,w0.heap.size≤k→R k):∃q d,sv=ad q os.length d∧iA R x q os:=by obtain⟨kS,xs,au,ax,aA,bb,bj⟩:=h;exact iA.own au (ax.mono fun k _ hs=>hR k (aA k hs).1) ay hR
def KL(s:rC.kT):dq:=⟨⟨s.k,(s.a7,s.a'),(s.aX,s.a8),(s.cx,s.bA),s.r,[]⟩,.nil⟩
theorem Z1(S:afp)(w:aeo):∀l:List rC.kT,j0 S w (l.map KL) (wC l)
 |[]=>trivial
 |s::l=>⟨⟨none,0,none,0,rfl,⟨.nil _ _ _,.nil _ _ _,aP _,aP _⟩⟩,Z1 S w l⟩
theorem ajA{B:Nat}{w:aeo}{v:ada}{l:List rC.kT}(h:w.ownsRow B cQ 10 v l.length (wC l))(ay:l.length≤100000):∃q d,v=ad q (l.map KL).length d∧iA (fun k=>B≤k) w q (l.map KL):=
 iA.own (R:=fun k=>B≤k) (by rw[jV];exact h) (Z1 _ w l) (by rw[jV];show _≤1000000000;omega) fun _ h=>h
theorem ajB{l:List rC.kT}:∀s∈l.map KL,Plain s:=fun s hs=>by obtain⟨t,_,rfl⟩:=List.mem_map.1 hs;exact cO _
end c1
namespace dY
open Go.RowKit gI ga jz qe rC mI
def Cq(B b r n:Nat)(w:aeo)(res:Except Nat M)(e:Ending)(w':aeo):Prop:=Below B w w'∧match res with
 |.ok ey=>e=ab (I 0)∧eK B b r n ey w'
 |.error k=>e=ab (I (k:Int))
theorem ajC(l:List kT)(s:kT):wC (l++[s])=wC l++(Ho s).toList:=by simp[wC]
theorem eK.lt{B b r n:Nat}{m:M}{w:aeo}(h:eK B b r n m w):b<w.heap.size∧r<w.heap.size:=by obtain⟨sv,au,_⟩:=h.cells;obtain⟨D,ax,_⟩:=h.fK;exact⟨(Array.getElem?_eq_some_iff.1 au).1,ax.lt⟩
variable{w W X:aeo}{B aR n b r:Nat}{e:aai}{v:ada}
theorem Z2{xs:aev}(h:w.ownsRow B e aR v n xs){es:Array MapEntry}{c:Nat}(ay:w.heap[b]?=some (.map es c)):v.ownBlock≠some b:=by
 rcases h.2 with ⟨rfl,_⟩|⟨g,cap,cur,rfl,_,aE,_⟩
 ·simp[Value.ownBlock]
 ·intro ax;have:g=b:=(by simpa[Value.ownBlock] using ax);subst this;rw[ay] at aE;cases aE
theorem Z3{a c:Int}(h:(DataW.lit (.int .i64 a):DataW Unit)=.lit (.int .i64 c)):a=c:=by injection h with h;injection h
theorem ajD{t:aai}{xs:aev}(h:w.ownsRow B e aR v n xs){cs:ajv}{dk:Nat×Nat}(ay:w.heap[b]?=some (.cells cs t dk))(he:e≠t):v.ownBlock≠some b:=nP h ay he
theorem ajE{fK:Int→Option Int}(h:wD w r n fK)(k:Int)(aF:0≤k)(au:k≤9999):(Instr.lookup 148 (.map (some r)) (I k) false).run Tryz.prog w=.ok (I ((fK k).getD 0)) w:=by obtain⟨D,ct,_,aA⟩:=h;obtain⟨c,hr,dF,_⟩:=ct.lookup_int (Tq qz) Tr KI (by kernel_rfl) (Ts qz (OM (by omega:-9223372036854775808≤k∧k≤9223372036854775807)));have e:(fK k).getD 0=c:=Z3 ((aA k).2.symm.trans dF);rw[hr,e]
theorem Z4{fK:Int→Option Int}(h:wD w r n fK)(k:Int)(aF:0≤k)(au:k≤9999):(Instr.lookup 148 (.map (some r)) (I k) true).run Tryz.prog w=.ok (.tuple #[I ((fK k).getD 0),U (fK k).isSome]) w:=by obtain⟨D,ct,_,aA⟩:=h;obtain⟨v,ps,hr,aS⟩:=ct.look_ok (Tq qz) Tr (z:=I 0) (by kernel_rfl) (plainElem_int (H:=Unit) KI (by decide)) (Ts qz (OM (by omega:-9223372036854775808≤k∧k≤9223372036854775807)));obtain⟨c,rfl,aB,_⟩:=plainElem_int_inv KI aS;have e:(fK k).getD 0=c:=Z3 ((aA k).2.symm.trans (fS Prod.fst aB));rw[hr,(aA k).1,e]
def aK(w w':aeo):Prop:=w.heap.size≤w'.heap.size∧∀(k:Nat) (cs:ajv) (t:aai) (dk:Nat×Nat),w.heap[k]?=some (Obj.cells cs t dk)→t≠150→t≠42→w'.heap[k]?=some (.cells cs t dk)
theorem aK.c4{w':aeo}(h:an w w w'):aK w w':=⟨h.size,fun k cs t dk aw _ _=>ba aw h⟩
theorem aK.trans{a b c:aeo}(h:aK a b)(g:aK b c):aK a c:=⟨cd h.1 g.1,fun k cs t dk aw au ax=>g.2 k cs t dk (h.2 k cs t dk aw au ax) au ax⟩
variable{m:M}
theorem ajF{bk:aeo}{sv sv':ada}{xs:aev}{N:Nat}(hs:W.heap[b]?=some (za sv r m))(hr:W.ownsRow B 42 10 sv N xs)(b2:an W W X)(aI:X.grownBy bk sv.ownBlock):aK W (bk.setCell (aj b 0) sv'):=by
 have KM:=fY hr b2;refine⟨cd b2.size (cd aI.size (by simp[World.setCell])),fun k cs t dk aw au ax=>?_⟩;have eM:=ba aw b2;have py:k≠b:=by intro e;rw[e,hs] at aw;injection aw with aw;injection aw with _ a6 _;exact au a6.symm
 rw[hC _ _ _ _ py];exact (aI.block k (Array.getElem?_eq_some_iff.1 eM).1 (eN (ajD KM eM (eN ax)))).trans eM
theorem eK.push{bk:aeo}{sv sv':ada}{s:kT}(h:eK B b r n m W)(hs:W.heap[b]?=some (za sv r m))(hr:W.ownsRow B 42 10 sv m.bq.length (wC m.bq))(b2:an W W X)(aI:X.grownBy bk sv.ownBlock)
  (a1:bk.ownsRow B 42 10 sv' (m.bq.length+1) (wC m.bq++(Ho s).toList)) (hf:rD {m with bq:=m.bq++[s]}) (bz:B≤W.heap.size):
  eK B b r n {m with bq:=m.bq++[s]} (bk.setCell (aj b 0) sv')∧Below B W (bk.setCell (aj b 0) sv'):=by
 have Hv:X.heap[b]?=some (za sv r m):=ba hs b2;have KM:=fY hr b2;have bm:=(Array.getElem?_eq_some_iff.1 Hv).1;have cj:bk.heap[b]?=some (za sv r m):=(aI.block b bm (eN (nP KM Hv (by decide)))).trans Hv;have ck:(bk.setCell (aj b 0) sv').heap[b]?=some (za sv' r {m with bq:=m.bq++[s]}):=here cj 0 sv';have zb:bk.grownBy (bk.setCell (aj b 0) sv') (some b):=⟨rfl,rfl,rfl,by simp[World.setCell],fun k aw hne=>hC _ _ _ _ (by show k≠b;intro e;exact hne (by rw[e]))⟩;have ajG:Below B W X:=b2.mono bz;have KN:Below B W bk:=ajG.grown aI (cd bz b2.size) (fun k aw=>(KM.lt _ aw).1);refine⟨⟨h.Cp,h.Ht,⟨sv',ck,?_⟩,?_,hf,h.t0,h.t1⟩,KN.setCell h.Cp _⟩
 ·show World.ownsRow _ B _ 10 sv' (m.bq++[s]).length (wC (m.bq++[s]));rw[ajC,show (m.bq++[s]).length=m.bq.length+1 by simp];exact a1.kept zb (.inr (nP a1 cj (by decide)))
 ·obtain⟨D,au,ax,aA⟩:=h.fK.below b2;have hne:some r≠sv.ownBlock:=(by obtain⟨es,c,xP,_⟩:=au;exact eN (Z2 KM xP));refine⟨D,(au.kept aI hne).kept zb ?_,ax,aA⟩;intro e;injection e with e;obtain⟨es,c,xP,_⟩:=au;rw[e,Hv] at xP;cases xP
theorem ajH:(Tryz.prog.info? 42).map (fun i=>(i.zero,i.size,i.bytes))=some (some (.agg #[I 0,I 0,I 0,I 0,I 0,I 0,I 0,I 0,J 0,J 0]),10,112):=by kernel_rfl
theorem ajI{x:aeo}{v0 v1 v2 v3 v4 v5 v6 bS b0 v9:ada}{t:aai}(h:al x b (#[v0,v1,v2,v3,v4,v5,v6,bS,b0,v9]) t)(u:ada):(x.setCell (aj b 7) u).heap[b]?=some (.cells #[v0,v1,v2,v3,v4,v5,v6,u,b0,v9] t):=here h 7 u
theorem iw{xs:aev}(h:w.ownsRow B e aR v n xs):∃p cap,v=ad p n cap:=by
 rcases h.2 with ⟨rfl,rfl⟩|⟨g,cap,cur,rfl,_⟩
 ·exact⟨_,_,rfl⟩
 ·exact⟨_,_,rfl⟩
theorem ajJ{w':aeo}{row:Option Nat}{o:Obj}(b2:an W W X)(aI:X.grownBy w' row)(h:W.heap[b]?=some o)(hne:row≠some b):w'.heap[b]?=some o:=by have au:=ba h b2;exact (aI.block b (Array.getElem?_eq_some_iff.1 au).1 (eN hne)).trans au
theorem ax3(hm:rD m)(h:¬m.budget≤(m.bq.length:Int))(s:kT):rD {m with bq:=m.bq++[s]}:=
 ⟨hm.cH,hm.cw,by show (((m.bq++[s]).length:Nat):Int)≤m.budget;rw[fH];simp;omega,hm.eC,hm.eu,hm.dH,hm.c0⟩
def Tx(s:kT):Prop:=∀g,Plain {s with r:=g}
theorem Ty(x y:Int):Tx (xL x y 0):=fun g=>.inl ⟨x,y,g,rfl⟩
theorem Tz(x y p q:Int):Tx (tJ x y p q 0):=fun g=>.inr ⟨x,y,p,q,g,rfl⟩
theorem Hw(B b r n:Nat)(m:M)(s:kT)(hs:Tx s)(w:aeo)(bz:B≤w.heap.size)(H:af (eK B b r n m w))(res:Except Nat M)(c6:af (qT m s=res)):
  Calls Tryz.prog 173 #[ah b 0,.agg #[I s.k,I s.a7,I s.a',I s.aX,I s.a8,I s.cx,I s.bA,I s.r,J 0,J 0]] w (fun e w'=>Cq B b r n w res e w'∧aK w w'):=by
 obtain⟨k,a7,a',aX,a8,cx,bA,du⟩:=s;have TA:=ao hs;have cE:=ao bz;have cG:af (an w w (w.alloc (ai (#[I k,I a7,I a',I aX,I a8,I cx,I bA,I du,J 0,J 0]) 42))):=(Below.refl _ _).alloc (aP _) _;have ez:af (eK B b r n m (w.alloc (ai (#[I k,I a7,I a',I aX,I a8,I cx,I bA,I du,J 0,J 0]) 42))):=H.out.below cG.out;have eb:af ((w.alloc (ai (#[I k,I a7,I a',I aX,I a8,I cx,I bA,I du,J 0,J 0]) 42)).heap[w.heap.size]?=some (.cells #[I k,I a7,I a',I aX,I a8,I cx,I bA,I du,J 0,J 0] 42)):=dL w _;have th:=ao H.out.lt;clear hs bz;go_enter Tryz.func173,Tryz.ntmps173;go_upto_region 1 with fail;generalize w.alloc (.cells #[I k,I a7,I a',I aX,I a8,I cx,I bA,I du,J 0,J 0] 42)=W at cG ez eb⊢;obtain⟨sv,au,ax⟩:=ez.out.cells;obtain⟨_,_,_,_,_,_,_,c7,dj,_⟩:=gQ au;have uQ:=ajE (w:=W.drew) (ez.out.fK.below ⟨rfl,rfl,rfl,aP _,fun _ _=>rfl⟩) m.hW ez.out.t0 ez.out.t1;have f7:W.frozen? ⟨w.heap.size,7,none⟩=false:=by have h:=eb.out;simp[World.frozen?,h]
 obtain⟨_,_,_,_,_,_,_,g7,_,_⟩:=vb eb.out;clear au ax;go_region;obtain⟨v,aS⟩:=aq ((m.fK m.hW).getD 0);have az:=c6.out;unfold qT at az;rw[aS] at az⊢;have dy:af (an w w ((W.setCell (aj w.heap.size 7) (I v)).drew)):=(cG.out.setCell (p:=⟨w.heap.size,7,none⟩) (aP _) _).drew;have gu:af (((W.setCell (aj w.heap.size 7) (I v)).drew).heap[w.heap.size]?=some (.cells #[I k,I a7,I a',I aX,I a8,I cx,I bA,I v,J 0,J 0] 42)):=ajI eb.out _;clear uQ f7 g7 c7 dj ez eb cG c6 aS;generalize (W.setCell (aj w.heap.size 7) (I v)).drew=eE at dy gu⊢;obtain⟨g0,g1,g2,g3,g4,g5,g6,g7,g8,g9⟩:=vb gu.out;obtain⟨sy,ve⟩:=aq (AI ⟨k,a7,a',aX,a8,cx,bA,v⟩);have Z5:=ao ve;go_wp2_with fail;refine (JE ⟨k,a7,a',aX,a8,cx,bA,v⟩ (TA.out v) sy Z5 eE).mono ?_;rintro e dZ ⟨rfl,eF⟩;have jA:=ao (ba gu.out eF);have dO:=ao (dy.out.trans (eF.mono dy.out.size));clear g0 g1 g2 g3 g4 g5 g6 g7 g8 g9 eF gu dy Z5;cases sy with
 |false=>
  have aQ:af (.error 5=res):=(by show _=_;rw[←az];exact (aW ve).symm);clear az ve;go_wp2_with fail;go_ret;rw[←aQ.out];exact⟨⟨dO.out.mono cE.out,rfl⟩,aK.c4 dO.out⟩
 |true=>
  have hc:(if m.budget≤(m.bq.length:Int) then Except.error 6 else Except.ok {m with bq:=m.bq++[⟨k,a7,a',aX,a8,cx,bA,v⟩]})=res:=(by rw[←az];exact (aN (show ¬(AI ⟨k,a7,a',aX,a8,cx,bA,v⟩=false) by rw[ve];decide)).symm);have SS:=ao ve;have nJ:=ao (H.out.below dO.out);obtain⟨sv,au,ax⟩:=nJ.out.cells;obtain⟨aV,aT,_⟩:=gQ au;obtain⟨p,cap,rfl⟩:=iw ax;have gf:=ao au;have bE:=ao ax;have hlen:(m.bq.length:Int)≤100000:=(by have:=nJ.out.hX.n;have:=nJ.out.hX.cw;omega);clear az ve au ax;by_cases Z6:m.budget≤(m.bq.length:Int)
  ·have aQ:af (.error 6=res):=(by show _=_;rw[←hc];exact (aW Z6).symm);clear hc;go_wp2_with fail
   go_quiet (fail)
   go_wp2_with fail;go_ret;rw[←aQ.out];exact⟨⟨below_drewN (dO.out.mono cE.out) _,rfl⟩,aK.c4 (below_drewN dO.out _)⟩
  ·have aQ:af (.ok {m with bq:=m.bq++[⟨k,a7,a',aX,a8,cx,bA,v⟩]}=res):=(by show _=_;rw[←hc];exact (aN Z6).symm);clear hc;go_wp2_with fail
   go_quiet (fail)
   go_upto_region 6 with fail;generalize KO:dZ.drewN _=fU;have iJ:af (an w w fU):=(by show Below _ _ _;rw[←KO];exact below_drewN dO.out _);have zc:af (al fU w.heap.size (#[I k,I a7,I a',I aX,I a8,I cx,I bA,I v,J 0,J 0]) 42):=(by show _=_;rw[←KO];exact jA.out);have EN:af (fU.heap[b]?=some (za (ad p m.bq.length cap) r m)):=(by show _=_;rw[←KO];exact gf.out);have AM:af (fU.ownsRow B 42 10 (ad p m.bq.length cap) m.bq.length (wC m.bq)):=(by show World.ownsRow _ _ _ _ _ _ _;rw[←KO];exact bE.out);clear KO aV aT dO jA gf bE nJ;obtain⟨i0,hi,cW,dv,dx⟩:=info_parts ajH;have bL:=ao (And.intro hi (And.intro cW (And.intro dv dx)));clear hi cW dv dx;obtain⟨g0,g1,g2,g3,g4,g5,g6,g7,g8,g9⟩:=vb zc.out;obtain⟨aV,_⟩:=gQ EN.out;have Z7:∀i,fU.frozen? ⟨b,i,none⟩=false:=(gQ EN.out).f;have AN:=Z7 0;have iX:(Value.slice p m.bq.length cap).ownBlock≠some b:=nP AM.out EN.out (by decide);have TB:b<fU.heap.size:=(Array.getElem?_eq_some_iff.1 EN.out).1;have EO:w.heap.size<fU.heap.size:=(Array.getElem?_eq_some_iff.1 zc.out).1;clear Z7
   go_region_law (first|((refine sr _ (by rfl) _ _ _ (by rfl) B 42 i0 (.agg #[I 0,I 0,I 0,I 0,I 0,I 0,I 0,I 0,J 0,J 0]) 10 112 Tt bL.out.1 bL.out.2.1 bL.out.2.2.1 bL.out.2.2.2 rfl (by omega) (ad p m.bq.length cap) m.bq.length _ (by rfl) ((AM.out.alloc _).drew) (aj fU.heap.size 0) 1 1 [I k,I a7,I a',I aX,I a8,I cx,I bA,I v,J 0,J 0] (by rfl) (by rfl) (jx (cs:= #[I k,I a7,I a',I aX,I a8,I cx,I bA,I v,J 0,J 0]) (t:=42) (fr:=(0,0)) (dL fU _)) (by simp[Value.oneCell']) (by omega) (by unfold maxLen;omega) (by omega) (by have:=cE.out;simp;omega) (fU.heap.size+1) (by simp) ?_;intro gg gG bZ ct dn dF h5;have eB:=ajJ (((Below.refl _ _).alloc (aP _) _).drew) dn EN.out iX;have bI:=(gQ eB).aV;have bJ:=(gQ eB).f 0))|fail)
   all_goals
    obtain⟨hm,ja⟩:=eK.push (s:=⟨k,a7,a',aX,a8,cx,bA,v⟩) (H.out.below iJ.out) EN.out AM.out (((Below.refl _ _).alloc (aP _) _).drew) dn ct (ax3 H.out.hX (by omega) _) (cd cE.out iJ.out.size);have aJ:=ao (And.intro hm (And.intro ((iJ.out.mono cE.out).trans ja) ((aK.c4 iJ.out).trans (ajF (sv':=ad (some (aj gg 0)) (m.bq.length+1) gG) EN.out AM.out (((Below.refl _ _).alloc (aP _) _).drew) dn))));clear hm ja ct dn dF h5 eB bI bJ g0 g1 g2 g3 g4 g5 g6 g7 g8 g9 aV;go_wp2_with fail;go_ret;rw[←aQ.out];exact⟨⟨aJ.out.2.1,rfl,aJ.out.1⟩,aJ.out.2.2⟩
end dY
namespace dY
open Go.RowKit gI ga jz qe rC mI
open AK (vc)
theorem wD.mono{w:aeo}{r n k:Nat}{fK:Int→Option Int}(h:wD w r n fK)(aw:n≤k):wD w r k fK:=by obtain⟨D,au,ax,aA⟩:=h;exact⟨D,au.mono aw,ax,aA⟩
theorem eK.mono{B b r n k:Nat}{m:M}{w:aeo}(h:eK B b r n m w)(aw:n≤k):eK B b r k m w:=⟨h.Cp,h.Ht,h.cells,h.fK.mono aw,h.hX,h.t0,h.t1⟩
variable{r n:Nat}
theorem ajL{w:aeo}{fK:Int→Option Int}(h:wD w r n fK)(k g:Int)(aF:0≤k)(au:k≤9999)(g0:-9223372036854775808≤g)(g1:g≤9223372036854775807)(hn:n≤1000000000):
  ∃bk,(Instr.mapUpdate 148 (.map (some r)) (I k) (I g)).run Tryz.prog w=.ok () bk∧wD bk r (n+1) (fun j=>if j=k then some g else fK j)∧w.grownBy bk (some r):=by
 obtain⟨D,ct,b4,aA⟩:=h;have aw:(Lit.int .i64 k).wf=true:=OM (by omega:-9223372036854775808≤k∧k≤9223372036854775807);have aI:(Lit.int .i64 g).wf=true:=OM ⟨g0,g1⟩;obtain⟨bk,e,a1,EP⟩:=ct.update (Tq qz) Tr (by unfold maxLen;omega) (Ts qz aw) (plainElem_int (H:=Unit) KI aI);refine⟨bk,e,⟨_,a1,b4.put _ _,fun j=>?_⟩,EP⟩;have Z8:WideAt.IsKeyLit (.int .i64 k):=trivial;by_cases b6:j=k
 ·subst b6;rw[Maps.has_put_same b4 Z8,Maps.atKey_put_same b4 Z8];simp
 ·have hne:(Lit.int .i64 j)≠.int .i64 k:=(by intro e;injection e with _ e;exact b6 e);rw[Maps.has_put_other hne,Maps.atKey_put_other hne];simp only[b6,JM];exact aA j
variable{m:M}
theorem eK.put{B b:Nat}{W bk:aeo}{Z9:Int→Option Int}(h:eK B b r n m W)(hr:wD bk r (n+1) Z9)(aI:W.grownBy bk (some r))(bz:B≤W.heap.size):
  eK B b r (n+1) {m with fK:=Z9} bk∧Below B W bk:=by
 obtain⟨sv,au,ax⟩:=h.cells;obtain⟨D,dP,_,_⟩:=h.fK;obtain⟨es,c,xP,_⟩:=dP;have hne:r≠b:=by intro e;rw[e,au] at xP;cases xP
 refine⟨⟨h.Cp,h.Ht,⟨sv,?_,?_⟩,hr,⟨h.hX.cH,h.hX.cw,h.hX.n,h.hX.eC,h.hX.eu,h.hX.dH,h.hX.c0⟩,h.t0,h.t1⟩,(Below.refl _ _).grown aI bz (fun k aw=>by injection aw with aw;rw[←aw];exact h.Ht)⟩
 ·exact (aI.block b (Array.getElem?_eq_some_iff.1 au).1 (by intro e;injection e with e;exact hne e.symm)).trans au
 ·exact ax.kept aI (.inr (Z2 ax xP))
theorem eK.qU{B b:Nat}{w:aeo}(h:eK B b r n m w)(ey:M)(i:Nat)(u:ada)(aB:∀sv,(Tu sv r m).setIfInBounds i u=Tu sv r ey)(hs:ey.bq=m.bq)(hr:ey.fK=m.fK)(hf:rD ey)(aF:0≤ey.hW)(au:ey.hW≤9999):
  eK B b r n ey (w.setCell (aj b i) u)∧Below B w (w.setCell (aj b i) u):=by
 obtain⟨sv,dP,bM⟩:=h.cells;have zb:w.grownBy (w.setCell (aj b i) u) (some b):=⟨rfl,rfl,rfl,by simp[World.setCell],fun k aw hne=>hC _ _ _ _ (by show k≠b;intro e;exact hne (by rw[e]))⟩;refine⟨⟨h.Cp,h.Ht,⟨sv,?_,?_⟩,?_,hf,aF,au⟩,(Below.refl _ _).setCell (p:=⟨b,i,none⟩) h.Cp _⟩
 ·rw[here dP i u,aB sv]
 ·rw[hs];exact bM.kept zb (.inr (nP bM dP (by decide)))
 ·obtain⟨D,d1,d2,d3⟩:=h.fK;rw[hr];refine⟨D,d1.kept zb ?_,d2,d3⟩;intro e;injection e with e;obtain⟨es,c,xP,_⟩:=d1;rw[e,dP] at xP;cases xP
theorem ax2{ey:M}(h:rD m)(ay:ey.budget=m.budget)(hs:ey.bq=m.bq)(hx:ey.x=m.x)(hy:ey.y=m.y):rD ey:=
 ⟨by rw[ay];exact h.cH,by rw[ay];exact h.cw,by rw[ay,hs];exact h.n,by rw[hx];exact h.eC,by rw[hx];exact h.eu,by rw[hy];exact h.dH,by rw[hy];exact h.c0⟩
theorem ajM{l:List Int}(h:0<l.length):l[0]=l.headD 0:=by
 cases l with
 |nil=>simp at h
 |cons _ _=>rfl
theorem ajN{z u g:Int}(h:mm.fW z u=some g)(bP:0<z):0≤g:=by
 unfold mm.fW at h;split at h
 ·rename_i aB;injection h with h;have:=mm.ahv aB.2.1;rw[←h];exact BJ (by omega) (by omega)
 ·cases h
structure xQ(c:D):Prop where
 n0:0≤c.n
 eG:c.n≤9999
 x:c.x.length≤1000000
 y:c.y.length≤1000000
 u:c.u.length≤1000000
 v:c.v.length≤1000000
 l:c.bX.length≤1000000
 z:∀z∈c.bX,-1000000000000<z∧z<1000000000000
theorem ajO(B b r n:Nat)(m:M)(c:D)(aB:af (xQ c))(a:Int)(p:Ja)(cap wF:Nat)(w:aeo)(bz:B≤w.heap.size)(hn:n≤1000000000)(bd:af (dd wF w p c.bX))(H:af (eK B b r n m w))(res:Except Nat M)(c6:af (Ky m c=res)):
  Calls Tryz.prog 139 #[ah b 0,EC c a (ad p c.bX.length cap)] w (Cq B b r (n+1) w res):=by
 have cE:=ao bz;have jJ:=ao hn;have cG:af (an w w (w.alloc (gJ c a (ad p c.bX.length cap)))):=(Below.refl _ _).alloc (aP _) _;have eb:af ((w.alloc (gJ c a (ad p c.bX.length cap))).heap[w.heap.size]?=some (gJ c a (ad p c.bX.length cap))):=dL w _;have az:=c6.out;unfold Ky at az;clear bz hn c6;go_enter Tryz.func139,Tryz.ntmps139;go_upto_region 1 with fail;generalize w.alloc _=W at cG eb⊢;have ez:=ao (H.out.below cG.out);have mB:=ao (bd.out.below cG.out);obtain⟨sv,au,ax⟩:=ez.out.cells;obtain⟨_,_,_,c3,_,_,_,c7,_⟩:=gQ au;obtain⟨⟨_,_,d2,_,_,_,_,_,_,d9⟩,_⟩:=jM eb.out;have uQ:=Z4 (w:=W.drew) (ez.out.fK.below ⟨rfl,rfl,rfl,aP _,fun _ _=>rfl⟩) c.n aB.out.n0 aB.out.eG;obtain⟨q,aG⟩:=aq (m.fK c.n);rw[aG] at az uQ;clear au ax;go_region;clear uQ c3 c7 d2 d9;have dy:af (an w w W.drew):=cG.out.drew;have gu:af (W.drew.heap[w.heap.size]?=some (gJ c a (ad p c.bX.length cap))):=eb.out;have eo:af (eK B b r n m W.drew):=ez.out.below ⟨rfl,rfl,rfl,aP _,fun _ _=>rfl⟩;have lb:af (dd wF W.drew p c.bX):=mB.out.below ⟨rfl,rfl,rfl,aP _,fun _ _=>rfl⟩;clear ez mB cG eb;generalize W.drew=eE at dy gu eo lb⊢;obtain⟨sv,au,_⟩:=eo.out.cells;obtain⟨_,_,_,c3,_,_,_,c7,_⟩:=gQ au;obtain⟨⟨_,_,d2,_,_,_,_,_,_,d9⟩,_⟩:=jM gu.out;clear au;by_cases hu:m.u=0
 ·have AO:(m.u==0)=true:=beq_iff_eq.2 hu;have aQ:af (.error 4=res):=(by show _=_;rw[←az];exact (aW (.inl hu)).symm);clear az hu;go_wp2_with fail;go_ret;rw[←aQ.out];exact⟨dy.out.mono cE.out,rfl⟩
 ·have AO:(m.u==0)=false:=beq_eq_false_iff_ne.2 hu;cases q with
  |some q=>
   have aQ:af (.error 4=res):=(by show _=_;rw[←az];exact (aW (.inr (.inl rfl))).symm);clear az hu aG;go_wp2_with fail;go_ret;rw[←aQ.out];exact⟨dy.out.mono cE.out,rfl⟩
  |none=>
   by_cases aF:c.bX.length=0
   ·have TC:((c.bX.length:Int)==0)=true:=(by rw[xl];omega);have aQ:af (.error 4=res):=(by show _=_;rw[←az];exact (aW (.inr (.inr (.inl aF)))).symm);clear az hu aG aF;go_wp2_with fail;go_ret;rw[←aQ.out];exact⟨dy.out.mono cE.out,rfl⟩
   ·have TC:((c.bX.length:Int)==0)=false:=(by rw[fO];omega);have ER:0<c.bX.length:=(by omega);obtain⟨bl,bV,cs,rfl,_,aE,eD⟩:=lb.out ER;obtain⟨z,bP⟩:=aq (c.bX.headD 0);have cW:c.bX[0]=z:=(ajM ER).trans bP;have auQ:af (-1000000000000<z∧z<1000000000000):=aB.out.z z (by rw[←cW];exact k3 _);have Z':ak eE bl bV (I z):=(by have:=eD 0 ER;rw[cW,Gy] at this;simp[World.cell?,aE,this]);rw[bP] at az;clear aE eD bP cW;by_cases dv:z≤0
    ·have aQ:af (.error 4=res):=(by show _=_;rw[←az];exact (aW (.inr (.inr (.inr dv)))).symm);clear az hu aG aF;go_wp2_with fail;go_ret;rw[←aQ.out];exact⟨dy.out.mono cE.out,rfl⟩
    ·rw[aN (by rintro (e|e|e|e);exact hu e;cases e;exact aF e;exact dv e)] at az;obtain⟨o,a1⟩:=aq (mm.fW z m.u);have fy:af ((mm.fW z m.u).getD 0=o.getD 0∧(mm.fW z m.u).isSome=o.isSome):=(by rw[a1];exact⟨rfl,rfl⟩);rw[a1] at az;have KP:=ao a1;clear a1 hu aG aF;go_upto_region 4 with fail
     go_quiet ((go_at_call 126;exact s7 ((vc z m.u _ _ fy _).mono fun _ _ h=>⟨h.1,h.2.symm⟩)))
     have dO:af (an w w (eE.drewN nq)):=below_drewN dy.out _;have jA:af ((eE.drewN nq).heap[w.heap.size]?=some (gJ c a (ag bl bV c.bX.length cap))):=gu.out;have nJ:af (eK B b r n m (eE.drewN nq)):=eo.out.below ⟨rfl,rfl,rfl,aP _,fun _ _=>rfl⟩;clear eo lb dy gu Z' c3 c7 d2 d9;generalize eE.drewN nq=dZ at dO jA nJ⊢;cases o with
     |none=>
      have aQ:af (.error 5=res):=az;clear az;go_wp2_with fail;go_ret;rw[←aQ.out];exact⟨dO.out.mono cE.out,rfl⟩
     |some g=>
      have ES:=ajN KP.out (by omega);have EP:=(Tg KP.out).2;by_cases ax:g%2=0
      ·have TD:((g%2) !=0)=false:=(by rw[KJ];exact ax);have aQ:af (.ok {m with fK:=fun j=>if j=c.n then some (g/2) else m.fK j}=res):=(by show _=_;rw[←az];exact (aN (by omega)).symm);clear az ax;obtain⟨sv,au,_⟩:=nJ.out.cells;obtain⟨_,_,_,_,_,_,_,c7,_⟩:=gQ au;obtain⟨⟨_,_,d2,_,_,_,_,_,_,_⟩,_⟩:=jM jA.out;have xR:af (eK B b r n m dZ.drew):=nJ.out.below ⟨rfl,rfl,rfl,aP _,fun _ _=>rfl⟩;obtain⟨bk,KQ,gY,AP⟩:=ajL xR.out.fK c.n (g/2) aB.out.n0 aB.out.eG (by omega) (by omega) jJ.out;obtain⟨fX,cj⟩:=xR.out.put gY AP (cd cE.out dO.out.size);have aJ:af (eK B b r (n+1) {m with fK:=fun j=>if j=c.n then some (g/2) else m.fK j} bk∧Below B w bk):=⟨fX,((dO.out.drew).mono cE.out).trans cj⟩;clear au gY AP fX cj;go_upto_region 9 with fail;go_region;go_wp2_with fail;go_ret;rw[←aQ.out];exact⟨aJ.out.2,rfl,aJ.out.1⟩
      ·have TD:((g%2) !=0)=true:=(by rw[y'];exact ax);have aQ:af (.error 7=res):=(by show _=_;rw[←az];exact (aW (by omega)).symm);clear az ax;go_wp2_with fail;go_ret;rw[←aQ.out];exact⟨dO.out.mono cE.out,rfl⟩
end dY
