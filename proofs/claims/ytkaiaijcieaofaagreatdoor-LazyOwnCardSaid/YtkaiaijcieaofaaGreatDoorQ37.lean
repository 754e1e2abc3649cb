/- Lemmas. -/
import Derived.Test.YtkaiaijcieaofaaGreatDoorQ36
import Derived.Defers
import Derived.Laws.Pointers
import Derived.Laws.LoneSync
import Derived.RegionCalls
import Derived.ChangeAlike
import Derived.Test.YtkaiaijcieaofaaGreatDoorQ13
set_option linter.all false
set_option maxRecDepth 100000
set_option maxHeartbeats 25600000
namespace Go.Proofs.YtkaiaijcieaofaaGreatDoor
abbrev afG:=@run_convert_to_unsafe
abbrev QY:=@leaves_cons
abbrev QZ:=@Proofs.Tryz.func15
abbrev Q0:=@Proofs.Tryz.ntmps15
namespace c1
open Go.RowKit ef
open cB (C k0 ta)
open gK (iO iN Dm Qu Qv ad6 ad4 V' IZ afF pf afD Wo)
theorem asy{s:ar}(hs:s.length≤200000):(k0 s).1.length≤500000∧∀x∈(k0 s).1,QO x.2:=by
 obtain⟨⟨l,i,e⟩,h⟩:=aq (k0 s);have ha:=afF (fun c=>pf c∧IZ c) (fun _=>True) (fun w ws l hw h c aB=>⟨afD hw h c aB,Wo hw h c aB⟩) h fun _ _ _ _ _ _=>trivial;rw[h];refine⟨?_,fun x hx=>?_⟩
 ·unfold k0 at h;split at h;rename_i ws i1 aY hw;split at h
  ·cases h;exact cO _
  ·rename_i he;split at h
   ·cases h;exact cO _
   ·rename_i gE az;cases h;have e9:aY=0:=zM he;subst e9;unfold ta at hw;split at hw
    ·simp at hw
    ·split at hw
     ·rename_i aI;simp only[fg] at hw;exact absurd hw.2.2 (gK.Qy aI)
     ·split at hw
      ·simp at hw
      ·rename_i st aI _;simp only[fg] at hw;obtain⟨aY,a6⟩:=gK.Wa aI;have cV:=a6 0 (fun x hx=>absurd hx (by simp[cB.w5])) (aP _);rw[←hw.1] at az;obtain⟨g1,_⟩:=gK.aeq _ _ _ _ az (fun x hx=>by have:=cV x hx;omega) (fun x hx=>absurd hx (by simp));have iI:st.words.length≤0+s.length:=aY;rw[kZ] at g1;show l.length≤500000;omega
 ·obtain⟨⟨o,f⟩,_⟩:=ha x hx;refine⟨⟨o.n0,by have:=o.eG;omega⟩,⟨o.m0,by have:=o.m1;omega⟩,f.1,fun v aS=>?_,fun i=>?_,f.2.1,f.2.2⟩
  ·have:=o.bX v aS;omega
  ·unfold lK;split<;>first|exact cd o.x (by decide)|exact cd o.y (by decide)|exact cd o.i (by decide)|exact cd o.j (by decide)|exact cO _
theorem asz(S:Ua)(hm:S.size≤200000)(bo:Int)(w:aeo):
  Calls Tryz.prog 17 #[aa S,I bo] w (BA (∃l a,k0 S.data.toList=(l,a,0)∧ui l) w):=by
 obtain⟨⟨l,a,Q1⟩,hp⟩:=aq (k0 S.data.toList);have bw:=ao hp;have Dt:=asy (s:=S.data.toList) (by rw[Ft];exact hm);rw[hp] at Dt;have aQ:=ao Dt.2;have hc:l.length≤500000:=Dt.1;have zg:S.size≤maxLen:=by unfold maxLen;omega
 clear hp Dt;go_enter Tryz.func17,Tryz.ntmps17;go_wp2_with fail;with_reducible refine (ad6 S zg w l a Q1 bw).mono ?_
 rintro e W ⟨ay,v,rfl,nO⟩;obtain⟨pp,cap,rfl,q5⟩:=V' nO;have aH:=ao ay;have afH:=ao q5;clear ay nO q5;by_cases uP:Q1=0
 ·subst uP;obtain⟨n,hn⟩:=aq l.length;have bd:=ao hn;have iX:n≤500000:=(by rw[←hn];exact hc);rw[hn];clear hn;go_wp2_with fail;with_reducible refine (asj w.heap.size l pp n cap bd.out.symm bo W afH hc aQ.out).mono ?_
  rintro e eE ⟨ck,aD,i,f,q,d,rfl,nN,rU,uj⟩;have dy:=ao ck;have C2:=ao nN;have cE:=ao (aH.out.trans (dy.out.mono aH.out.size));have kX:af ((∃oT k1,k0 S.data.toList=(oT,k1,0)∧ui oT)→ui l):=(by rintro⟨oT,k1,au,ax⟩;rw[bw.out] at au;cases au;exact ax);clear ck nN;by_cases px:f=0
  ·subst px;go_wp2_with fail;go_ret3;exact⟨cE.out,aD,0,0,q,d,rfl,C2.out.mono fun k _ aw=>cd aH.out.size aw,rU,fun h=>⟨(uj.out (kX.out h)).1,rfl⟩⟩
  ·have oS:(((f:Int)==0):Bool)=false:=(by rw[fO];omega);have DA:af (¬∃oT k1,k0 S.data.toList=(oT,k1,0)∧ui oT):=fun h=>px (uj.out (kX.out h)).2;clear px;by_cases fC:i<n
   ·have asA:i<l.length:=(by rw[bd.out];exact fC);have afI:(i:Int)<(n:Int):=(by omega);have kf:(0:Int)≤(i:Int):=(by omega);obtain⟨⟨ca,jD⟩,rH⟩:=aq (l[i]);obtain⟨b,o,bI,dP,bJ,bM,rfl,ja,dF,_,_⟩:=afs afH.out asA rH;have hd:decide ((i:Int)<(n:Int))=true:=gx afI;have CU:=vD ja dy.out dF.1;clear dF rH ja C2;go_upto_region 8 with fail
    go_quiet (fail)
    go_wp2_with fail;go_ret3;exact BA.no ca f (iu cE.out _) DA.out
   ·have afI:¬(i:Int)<(n:Int):=(by omega);go_wp2_with fail;go_ret3;exact BA.no S.size f cE.out DA.out
 ·have my:(((Q1:Int) !=0):Bool)=true:=(by rw[y'];omega);have DA:af (¬∃oT k1,k0 S.data.toList=(oT,k1,0)∧ui oT):=(by rintro⟨oT,k1,au,ax⟩;rw[bw.out] at au;cases au;exact uP rfl);clear uP;go_wp2_with fail;go_ret3;exact BA.no a Q1 aH.out DA.out
end c1
namespace Gb
open Go.RowKit
theorem disable(w:aeo):(callFunc 97 #[]).run Tryz.prog w=.ok (.value (.tuple #[])) w:=run_call_mark0 Tryz.func97 (by kernel_rfl) (by kernel_rfl) (by kernel_rfl) .disable (by kernel_rfl) w
theorem enable(w:aeo):(callFunc 99 #[]).run Tryz.prog w=.ok (.value (.tuple #[])) w:=run_call_mark0 Tryz.func99 (by kernel_rfl) (by kernel_rfl) (by kernel_rfl) .enable (by kernel_rfl) w
theorem acquire(a:Addr)(w:aeo):(callFunc 100 #[.pointer (some a)]).run Tryz.prog w=.ok (.value (.tuple #[])) w:=run_call_marked Tryz.func100 (by kernel_rfl) (by kernel_rfl) (by kernel_rfl) .acquire (by kernel_rfl) a w
theorem releaseMerge(a:Addr)(w:aeo):(callFunc 102 #[.pointer (some a)]).run Tryz.prog w=.ok (.value (.tuple #[])) w:=run_call_marked Tryz.func102 (by kernel_rfl) (by kernel_rfl) (by kernel_rfl) .releaseMerge (by kernel_rfl) a w
theorem afJ(a:Addr)(x:ada)(u:FrameMode)(w:aeo)(aB:w.cell? a=some x)(bP:w.frozen? a=false):
  CallsD Tryz.prog 51 #[.pointer (some a),U true] u w fun e yD w'=>yD=u∧(e=ab (.tuple #[])∧w'=w.drew.setCell a (.int .u32 1)):=by
 have rb:w.drew.cell? a=some x:=by go_simp
 have acu:w.drew.frozen? a=false:=by go_simp
 have hJ:=run_call_store (P:=Tryz.prog) Tryz.func69 (by kernel_rfl) (by kernel_rfl) (by kernel_rfl) (by kernel_rfl) (k:=.u32) (y:=1) rb acu
 go_enter_d Tryz.func51,Tryz.ntmps51
 go_wp2
 go_region_calls
 all_goals (go_end0;exact⟨rfl,rfl⟩)
theorem asB(a:Addr)(w:aeo)(aB:w.cell? a=some (.int .i32 1))(bP:w.frozen? a=false):
  Calls Tryz.prog 68 #[.pointer (some a)] w fun e w'=>e=ab (.tuple #[])∧w'=w.setCell a (.int .i32 0):=by
 have hd:=disable;have he:=enable;have hr:=releaseMerge;have mz:=run_call_add (P:=Tryz.prog) Tryz.func37 (by kernel_rfl) (by kernel_rfl) (by kernel_rfl) .i32 (by kernel_rfl) (y:=-1) (s:=0) aB bP (by simp[go_sem];rfl);have kC:=afG (P:=Tryz.prog) (src:=187) (dst:=190) Tryz.underlying187 Tryz.underlying190 (by kernel_rfl) aB;go_enter Tryz.func68,Tryz.ntmps68;go_wp2;go_end0;exact⟨rfl,rfl⟩
theorem afK(a:Addr)(u:FrameMode)(w:aeo)(aB:w.cell? a=some (.int .i32 1))(bP:w.frozen? a=false):
  CallsD Tryz.prog 50 #[.pointer (some a)] u w fun e yD w'=>yD=u∧(e=ab (.tuple #[])∧w'=w.setCell a (.int .i32 0)):=by
 go_enter_d Tryz.func50,Tryz.ntmps50
 go_wp2_with (go_at_call 68;refine (asB a _ aB bP).mono ?_;rintro e w' ⟨rfl,rfl⟩);go_end0;exact⟨rfl,rfl⟩
theorem asC(a:Addr)(w:aeo)(aB:w.cell? a=some (.int .i32 0))(bP:w.frozen? a=false):
  Calls Tryz.prog 67 #[.pointer (some a)] w fun e w'=>e=ab (.tuple #[])∧w'=w.setCell a (.int .i32 1):=by
 have hd:=disable;have he:=enable;have ha:=acquire;have axh:=run_call_cas_hit (P:=Tryz.prog) Tryz.func98 (by kernel_rfl) (by kernel_rfl) (by kernel_rfl) .i32 (by kernel_rfl) (y:=1) aB bP;have rb:(w.setCell a (.int .i32 1)).cell? a=some (.int .i32 1):=World.cell?_setCell_same w a _ aB;have kC:=afG (P:=Tryz.prog) (src:=187) (dst:=190) Tryz.underlying187 Tryz.underlying190 (by kernel_rfl) rb;go_enter Tryz.func67,Tryz.ntmps67;go_wp2;first|go_end0|(simp only[Exit.inBlock,Exit.then];refine cL (o5 rfl _ _ _) rfl ?_)|refine cL (o5 rfl _ _ _) rfl ?_
 exact⟨rfl,rfl⟩
theorem afL(a:Addr)(w:aeo)(aB:w.cell? a=some (.int .i32 0))(bP:w.frozen? a=false):
  Calls Tryz.prog 49 #[.pointer (some a)] w fun e w'=>e=ab (.tuple #[])∧w'=w.setCell a (.int .i32 1):=by
 go_enter Tryz.func49,Tryz.ntmps49;go_wp2_with (go_at_call 67;refine (asC a _ aB bP).mono ?_;rintro e w' ⟨rfl,rfl⟩);go_end0;exact⟨rfl,rfl⟩
end Gb
namespace c1
open Go.RowKit ef
open cB (C k0)
abbrev kY:TypeId:=65
abbrev mV(S:Ua)(bo d st sm mk:Int)(ov:ada)(i e:Int):Array Value:= #[aa S,I bo,.int .u32 d,.int .i32 st,.int .u32 sm,.int .i32 mk,ov,I i,I e]
theorem asD(b i:Nat)(w:aeo)(aB:ak w b i (.int .i32 0))(bP:w.frozen? ⟨b,i,none⟩=false):Calls Tryz.prog 18 #[ah b i,.int .i32 1] w fun e w'=>e=ab (.int .i32 1)∧w'=w.setCell (aj b i) (.int .i32 1):=by have mz:=run_call_add (P:=Tryz.prog) Tryz.func37 (by kernel_rfl) (by kernel_rfl) (by kernel_rfl) .i32 (by kernel_rfl) (y:=1) (s:=1) aB bP (by simp[go_sem];rfl);go_enter Tryz.func18,Tryz.ntmps18;go_wp2_with fail;go_ret;exact⟨rfl,rfl⟩
abbrev asE(S:Ua)(bo:Int)(v6 bS b0:ada):Array Value:= #[aa S,I bo,.int .u32 0,.int .i32 1,.int .u32 0,.int .i32 0,v6,bS,b0]
structure rX(w:aeo)(q b:Nat)(S:Ua)(bo:Int)(v6 bS b0:ada)(x:aeo):Prop where
 aG:al x q (#[.pointer (some (aj b 0))]) 23
 ay:al x b (asE S bo v6 bS b0) kY
 aw:aK (fun k=>k≠b) w x
abbrev vE(w:aeo)(q b:Nat)(S:Ua)(bo:Int)(x:aeo):Prop:=
 x.cell? ⟨q,0,none⟩=some (.pointer (some (aj b 0)))∧ak x b 0 (aa S)∧ak x b 1 (I bo)∧
 ak x b 6 (lx x b 6)∧x.frozen? ⟨b,6,none⟩=false∧ak x b 7 (lx x b 7)∧x.frozen? ⟨b,7,none⟩=false∧ak x b 8 (lx x b 8)∧x.frozen? ⟨b,8,none⟩=false∧∃v6 bS b0,rX w q b S bo v6 bS b0 x
variable{w x:aeo}{q b:Nat}{S:Ua}{bo:Int}{v6 bS b0:ada}
theorem Jd(h:rX w q b S bo v6 bS b0 x):vE w q b S bo x:=
 ⟨cell_of h.aG rfl,cell_of h.ay rfl,cell_of h.ay rfl,pC (cell_of h.ay rfl),dc h.ay 6,pC (cell_of h.ay rfl),dc h.ay 7,pC (cell_of h.ay rfl),dc h.ay 8,_,_,_,h⟩
theorem Q2(h:vE w q b S bo x):∃v6 bS b0,rX w q b S bo v6 bS b0 x:=h.2.2.2.2.2.2.2.2.2
theorem rX.below{y:aeo}(h:rX w q b S bo v6 bS b0 x)(ay:an x x y):rX w q b S bo v6 bS b0 y:=⟨ba h.aG ay,ba h.ay ay,h.aw.trans (aK.c4 ay)⟩
theorem rX.MR(fs:q≠b)(h:rX w q b S bo v6 bS b0 x)(u:ada):rX w q b S bo u bS b0 (x.setCell (aj b 6) u):=⟨(lT fs).trans h.aG,(by have:=dt (i:=6) u h.ay;exact this),h.aw.trans (aK.set (a:=⟨b,6,none⟩) (fun aw=>aw rfl) _)⟩
theorem rX.MS(fs:q≠b)(h:rX w q b S bo v6 bS b0 x)(u:ada):rX w q b S bo v6 u b0 (x.setCell (aj b 7) u):=⟨(lT fs).trans h.aG,(by have:=dt (i:=7) u h.ay;exact this),h.aw.trans (aK.set (a:=⟨b,7,none⟩) (fun aw=>aw rfl) _)⟩
theorem rX.afM(fs:q≠b)(h:rX w q b S bo v6 bS b0 x)(u:ada):rX w q b S bo v6 bS u (x.setCell (aj b 8) u):=⟨(lT fs).trans h.aG,(by have:=dt (i:=8) u h.ay;exact this),h.aw.trans (aK.set (a:=⟨b,8,none⟩) (fun aw=>aw rfl) _)⟩
theorem asF{y:aeo}(ay:an x x y)(h:vE w q b S bo x):vE w q b S bo y:=by obtain⟨_,_,_,h⟩:=Q2 h;exact Jd (h.below ay)
theorem asG(fs:q≠b)(u:ada)(h:vE w q b S bo x):vE w q b S bo (x.setCell (aj b 6) u):=by obtain⟨_,_,_,h⟩:=Q2 h;exact Jd (h.MR fs u)
theorem asH(fs:q≠b)(u:ada)(h:vE w q b S bo x):vE w q b S bo (x.setCell (aj b 7) u):=by obtain⟨_,_,_,h⟩:=Q2 h;exact Jd (h.MS fs u)
theorem asI(fs:q≠b)(u:ada)(h:vE w q b S bo x):vE w q b S bo (x.setCell (aj b 8) u):=by obtain⟨_,_,_,h⟩:=Q2 h;exact Jd (h.afM fs u)
def WU(A:Prop)(S:Ua)(bo v l:Int)(b:Nat)(w w':aeo):Prop:=∃(aD:List iH) (i f:Nat) (eP:Ja) (d:Nat),al w' b (mV S bo v l 0 1 (ad eP aD.length d) i f) kY∧gz (fun k=>w.heap.size≤k) w' eP aD∧aK (fun k=>k≠b) w w'∧af ((∀o∈aD,okV o.2=true)∧aD.length≤1000000)∧af (A→aD=[]∧f=0)
abbrev MT(S:Ua):Prop:=∃l a,k0 S.data.toList=(l,a,0)∧ui l
theorem asJ(b q:Nat)(fs:q≠b)(S:Ua)(bo:Int)(fL:S.size≤200000)(w:aeo)(aG:al w q (#[.pointer (some (aj b 0))]) 23)(ay:al w b (mV S bo 0 1 0 0 (J 0) 0 0) kY):
  Calls Tryz.prog 16 #[ah q 0] w fun e w'=>e=ab (.tuple #[])∧WU (MT S) S bo 0 1 b w w':=by
 have aJ:=ao (asz S fL bo w.drew);have bn:=ao aG;have lg:=ao ay;have asK:=lt_of_heap aG;have sU:=lt_of_heap ay;clear fL aG ay;go_enter Tryz.func16,Tryz.ntmps16;have bN:af (rX w q b S bo (J 0) (I 0) (I 0) w):=⟨bn.out,lg.out,.refl _ _⟩;have gy:af (vE w q b S bo w.drew):=Jd (bN.out.below (Below.refl _ _).drew);have im:af (vE w q b S bo w):=Jd bN.out;go_upto_region 0 with fail
 go_region_held3 (fun Z=>vE w q b S bo Z) (first|with_reducible exact gy.out|with_reducible exact im.out|with_reducible exact asF (by assumption) (by assumption)|with_reducible exact asG fs _ (by assumption)|with_reducible exact asH fs _ (by assumption)|with_reducible exact asI fs _ (by assumption)|assumption|fail) (first|(go_at_call 17;(with_reducible refine (aJ.out).mono ?_);intro e b' ki;obtain⟨dR,aD,i,f,fh,d6,rfl,afN,rU,uj⟩:=ki)|fail)
 all_goals
  have iE:=ao ((((bN.out.below (Below.refl _ _).drew).below dR).MR fs (ad fh aD.length d6)).MS fs (I (i:Int))|>.afM fs (I (f:Int)));have qQ:af (gz (fun k=>w.heap.size≤k∧k≠b) b' fh aD):=afN.mono fun k _ aw=>⟨aw,fun e=>by have au:w.heap.size≤k:=aw;omega⟩;have vx:=ao (qQ.out.keep (((aK.set (a:=⟨b,6,none⟩) (S:=fun k=>w.heap.size≤k∧k≠b) (w:=b') (fun aw=>aw.2 rfl) (ad fh aD.length d6)).trans (aK.set (a:=⟨b,7,none⟩) (fun aw=>aw.2 rfl) (I (i:Int)))).trans (aK.set (a:=⟨b,8,none⟩) (fun aw=>aw.2 rfl) (I (f:Int)))));clear dR afN gy im;generalize ((b'.setCell (aj b 6) (ad fh aD.length d6)).setCell (aj b 7) (I (i:Int))).setCell (aj b 8) (I (f:Int))=sD at iE vx⊢;have eC:=cell_of (i:=0) iE.out.aG rfl;have c5:ak sD b 5 (.int .i32 0):=cell_of (i:=5) iE.out.ay rfl;have g5:=dc iE.out.ay 5;go_wp2_with fail;with_reducible refine (asD b 5 sD c5 g5).mono ?_
  rintro e hV ⟨rfl,rfl⟩;clear eC c5 g5;go_wp2_with fail;go_end0;refine⟨rfl,aD,i,f,fh,d6,?_,(vx.out.mono fun k _ aw=>aw).keep (aK.set (a:=⟨b,5,none⟩) (fun aw=>aw.2 rfl) _)|>.mono fun k _ aw=>aw.1,iE.out.aw.trans (aK.set (a:=⟨b,5,none⟩) (fun aw=>aw rfl) _),rU,uj⟩;have:=dt (i:=5) (.int .i32 1) iE.out.ay;exact this
end c1
namespace c1
open Go.RowKit ef Gb
open cB (C k0)
theorem Je(a:Addr)(v:Int)(f:Bool)(hf:(v !=0)=f)(w:aeo)(aF:w.cell? a=some (.int .u32 v)):Calls Tryz.prog 33 #[.pointer (some a)] w fun e w'=>e=ab (U f)∧w'=w:=by have az:=run_call_load (P:=Tryz.prog) Tryz.func48 (by kernel_rfl) (by kernel_rfl) (by kernel_rfl) .u32 (by kernel_rfl) aF;subst hf;go_enter Tryz.func33,Tryz.ntmps33;go_wp2;go_ret;exact⟨rfl,rfl⟩
theorem asL(b q:Nat)(fs:q≠b)(S:Ua)(bo:Int)(fL:S.size≤200000)(w:aeo)(aG:al w q (#[.pointer (some (aj b 0))]) 23)(ay:al w b (mV S bo 0 0 0 0 (J 0) 0 0) kY):
  Calls Tryz.prog 34 #[ah b 2,.func (.func 16) #[] #[ah q 0]] w fun e w'=>e=ab (.tuple #[])∧WU (MT S) S bo 1 0 b w w':=by
 have MU:∀(x:Bool) (w:aeo),(Op.unary .not (U x)).run Tryz.prog w=.ok (U (!x)) w:=fun _ _=>rfl;have c3:=cell_of (i:=3) ay rfl;have f3:=dc ay 3;have WV:(w.setCell (aj b 3) (.int .i32 1)).heap[q]?=some (.cells #[ah b 0] 23):=(lT fs).trans aG;have MV:(w.setCell (aj b 3) (.int .i32 1)).heap[b]?=some (.cells (mV S bo 0 1 0 0 (J 0) 0 0) kY):=by have:=dt (i:=3) (.int .i32 1) ay;exact this
 have gX:=asJ b q fs S bo fL _ WV MV;have c2:=cell_of (i:=2) MV rfl;have eM:aK (fun k=>k≠b) w (w.setCell (aj b 3) (.int .i32 1)):=aK.set (a:=⟨b,3,none⟩) (fun aw=>aw rfl) _;have fw:(w.setCell (aj b 3) (.int .i32 1)).heap.size=w.heap.size:=R0 _ _ _
 go_enter_defers Tryz.func34,Tryz.ntmps34
 go_wp2_with (go_at_call 49;refine (afL (aj b 3) _ c3 f3).mono ?_;rintro e w' ⟨rfl,rfl⟩);go_wp2_with (go_at_call 33;refine (Je (aj b 2) 0 false rfl _ c2).mono ?_;rintro e w' ⟨rfl,rfl⟩);go_wp2_with (go_at_call 16;refine gX.mono ?_;rintro e b' ⟨rfl,aD,i,f,eP,d,dR,yy,qy,rU,uj⟩);have z2:=cell_of (i:=2) dR rfl;have g2:=dc dR 2;have nu:(b'.drew.setCell (aj b 2) (.int .u32 1)).heap[b]?=some (.cells (mV S bo 1 1 0 1 (ad eP aD.length d) i f) kY):=by have:=dt (w:=b'.drew) (i:=2) (.int .u32 1) dR;exact this
 have z3:=cell_of (i:=3) nu rfl;have g3:=dc nu 3;refine QY (f:=51) (args:= #[.pointer (some (aj b 2)),U true]) (by simp) (by simp[go_sem]) ?_;refine (afJ (aj b 2) (.int .u32 0) .returning _ z2 g2).mono ?_;rintro e yD WW ⟨rfl,rfl,rfl⟩;refine QY (f:=50) (args:= #[.pointer (some (aj b 3))]) (by simp[settle]) (by simp[go_sem]) ?_;refine (afK (aj b 3) _ _ z3 g3).mono ?_;rintro e yD WW ⟨rfl,rfl,rfl⟩;have Dv:aK (fun k=>k≠b) b' ((b'.drew.setCell (aj b 2) (.int .u32 1)).setCell (aj b 3) (.int .i32 0)):=((aK.c4 (Below.refl _ _).drew).trans (aK.set (a:=⟨b,2,none⟩) (fun aw=>aw rfl) _)).trans (aK.set (a:=⟨b,3,none⟩) (fun aw=>aw rfl) _);have jP:((b'.drew.setCell (aj b 2) (.int .u32 1)).setCell (aj b 3) (.int .i32 0)).heap[b]?=some (.cells (mV S bo 1 0 0 1 (ad eP aD.length d) i f) kY):=by have:=dt (i:=3) (.int .i32 0) nu;exact this
 have sU:=lt_of_heap ay;rw[fw] at yy;have WX:=(yy.mono (R:=fun k=>w.heap.size≤k∧k≠b) (fun k _ aw=>⟨aw,by have au:w.heap.size≤k:=aw;omega⟩)).keep (Dv.mono fun k _ aw=>aw.2);refine⟨.tuple #[],by simp[results,Tryz.results34],rfl,aD,i,f,eP,d,jP,WX.mono fun k _ aw=>aw.1,(eM.trans qy).trans Dv,rU,uj⟩
theorem gz.lt{S:afp}{w:aeo}{p:Ja}{l:List iH}(h:gz S w p l):gz (fun k=>S k∧k<w.heap.size) w p l:=h.mono fun _ au ax=>⟨ax,au⟩
theorem afO{s:dq}(h:okV s=true):Plain s:=by
 unfold okV at h;cases hp:ir (.one true s) 0 1000 with
 |none=>rw[hp] at h;cases h
 |some m=>
  have au:=RD hp;have ax:(bf.one true s).count=s.p.count+0+1:=rfl;have aA:=Yf _ (by decide) hp;show s.p.count≤100000000;omega
theorem asM(b q:Nat)(fs:q≠b)(S:Ua)(bo:Int)(fL:S.size≤200000)(w:aeo)(aG:al w q (#[.pointer (some (aj b 0))]) 23)(ay:al w b (mV S bo 0 0 0 0 (J 0) 0 0) kY):
  Calls Tryz.prog 15 #[ah b 2,.func (.func 16) #[] #[ah q 0]] w fun e w'=>e=ab (.tuple #[])∧WU (MT S) S bo 1 0 b w w':=by
 have MU:∀(x:Bool) (w:aeo),(Op.unary .not (U x)).run Tryz.prog w=.ok (U (!x)) w:=fun _ _=>rfl;have xi:=asL b q fs S bo fL w aG ay;have c2:=cell_of (i:=2) ay rfl;go_enter QZ,Q0;go_wp2_with (go_at_call 33;refine (Je (aj b 2) 0 false rfl _ c2).mono ?_;rintro e w' ⟨rfl,rfl⟩);go_wp2_with (go_at_call 34;refine xi.mono ?_;rintro e b' ⟨rfl,b8⟩);go_end0;exact⟨rfl,b8⟩
theorem asN(b:Nat)(MW:ada)(v:ajv)(w:aeo)(ay:al w b v kY)(ax:v[2]?=some (.int .u32 1)):Calls Tryz.prog 15 #[ah b 2,MW] w fun e w'=>e=ab (.tuple #[])∧w=w':=by have MU:∀(x:Bool) (w:aeo),(Op.unary .not (U x)).run Tryz.prog w=.ok (U (!x)) w:=fun _ _=>rfl;have c2:=cell_of (i:=2) ay ax;go_enter QZ,Q0;go_wp2_with (go_at_call 33;refine (Je (aj b 2) 1 true rfl _ c2).mono ?_;rintro e w' ⟨rfl,rfl⟩);go_end0;exact⟨rfl,rfl⟩
structure Q3(q b:Nat)(S:Ua)(bo:Int)(ov:ada)(i e:Int)(x:aeo):Prop where
 aG:al x q (#[.pointer (some (aj b 0))]) 23
 ay:al x b (mV S bo 1 0 0 1 ov i e) kY
abbrev MX(q b:Nat)(S:Ua)(bo:Int)(ov:ada)(i e:Int)(x:aeo):Prop:=
 x.cell? ⟨q,0,none⟩=some (.pointer (some (aj b 0)))∧ak x b 6 ov∧ak x b 7 (I i)∧ak x b 8 (I e)∧Q3 q b S bo ov i e x
variable{bo:Int}{ov:ada}
theorem MY{q b:Nat}{S:Ua}{i e:Int}{x:aeo}(h:Q3 q b S bo ov i e x):MX q b S bo ov i e x:=⟨cell_of h.aG rfl,cell_of h.ay rfl,cell_of h.ay rfl,cell_of h.ay rfl,h⟩
theorem Q4{q b:Nat}{S:Ua}{i e:Int}{x y:aeo}(ay:an x x y)(h:MX q b S bo ov i e x):MX q b S bo ov i e y:=MY ⟨ba h.2.2.2.2.aG ay,ba h.2.2.2.2.ay ay⟩
theorem afP(b:Nat)(S:Ua)(bo:Int)(fL:S.size≤200000)(w:aeo)(ay:al w b (mV S bo 0 0 0 0 (J 0) 0 0) kY):
  Calls Tryz.prog 8 #[ah b 0] w fun e w'=>∃(aD:List iH) (i f:Nat) (ep:Ja) (dU:Nat) (eP:Ja) (d s1:Nat),e=ab (.tuple #[ad eP aD.length d,I (i:Int),I (f:Int)])∧af (al w' b (mV S bo 1 0 0 1 (ad ep aD.length dU) i f) kY)∧af (gz (fun k=>w.heap.size≤k∧k<s1) w' ep aD)∧af (gz (fun k=>s1≤k) w' eP aD)∧af (w.heap.size≤s1∧s1≤w'.heap.size)∧af (aK (fun k=>k≠b) w w')∧af ((∀o∈aD,okV o.2=true)∧aD.length≤1000000)∧af (MT S→aD=[]∧f=0):=by
 have afQ:∀(fn:Fn) (first cap:ajv) (w:aeo),(Instr.makeFunc fn first cap).run Tryz.prog w=.ok (.func fn first cap) w:=fun _ _ _ _=>rfl;have sU:=lt_of_heap ay;have fs:w.heap.size≠b:=by omega
 have lB:(w.alloc (ai (#[.pointer (some (aj b 0))]) 23)).heap[w.heap.size]?=some (.cells #[ah b 0] 23):=cR _ _;have cj:=ba ay (bh w (ai (#[.pointer (some (aj b 0))]) 23));have yw:=asM b w.heap.size fs S bo fL _ lB cj;have eM:aK (fun k=>k≠b) w (w.alloc (ai (#[.pointer (some (aj b 0))]) 23)):=aK.alloc _ _ _;have mA:(w.alloc (ai (#[.pointer (some (aj b 0))]) 23)).heap.size=w.heap.size+1:=l' _;have ho:=cell_of (i:=0) lB rfl;clear fL ay;go_enter Tryz.func8,Tryz.ntmps8;go_wp2_with (go_at_call 15;refine yw.mono ?_;rintro e b' ⟨rfl,aD,i,f,eP,d,dR,yy,qy,rU,uj⟩);obtain⟨n,hn⟩:=aq aD.length;have bd:=ao hn;have og:∀o∈aD,Plain o.2:=fun o a1=>afO (rU.out.1 o a1);rw[hn] at dR;have np:=ao (eM.trans qy);have MZ:af (al b' w.heap.size (#[.pointer (some (aj b 0))]) 23):=qy.get fs lB;have kW:af (gz (fun k=>w.heap.size≤k) b' eP aD):=yy.mono fun k _ aw=>by have au:_≤k:=aw;rw[mA] at au;exact Nat.le_of_succ_le au
 have jW:af (Q3 w.heap.size b S bo (ad eP n d) (i:Int) (f:Int) b'):=⟨MZ.out,dR⟩;have im:=ao (MY jW.out);have gy:=ao (Q4 (Below.refl _ _).drew (MY jW.out));have yM:=fun x (hx:an b' b' x)=>Zy (fun k=>w.heap.size≤k) aD og eP n d hn.symm x (ao (kW.out.below hx));have M0:=ao yM;clear yw lB cj ho eM mA dR yy qy yM hn og;go_upto_region 2 with fail
 go_region_held3 (fun Z=>MX w.heap.size b S bo (ad eP n d) (i:Int) (f:Int) Z) (first|with_reducible exact gy.out|with_reducible exact im.out|with_reducible exact Q4 (by assumption) (by assumption)|assumption|fail) (first|(go_at_call 19;(with_reducible refine (M0.out _ (Below.refl _ _).drew).mono ?_);rintro e hV ⟨rO,d7,rfl,WY,nu⟩)|fail)
 all_goals
  clear gy im M0;have vo:=ao (np.out.trans ((aK.c4 (Below.refl _ _).drew).trans (aK.c4 nu)));have vx:af (gz (fun k=>b'.heap.size≤k) hV rO aD):=WY;have sO:=ao (kW.out.lt.below ((Below.refl _ _).drew.trans nu));have oI:=ao (ba jW.out.ay ((Below.refl _ _).drew.trans nu));have asO:af (w.heap.size≤b'.heap.size∧b'.heap.size≤hV.heap.size):=⟨np.out.size,nu.size⟩;go_wp2_with fail;go_ret3;exact⟨aD,i,f,eP,d,rO,d7,b'.heap.size,by rw[bd.out];exact rfl,by rw[bd.out];exact oI.out,sO,vx,asO,vo,rU,uj⟩
theorem afR(b:Nat)(S:Ua)(bo:Int)(aD:List iH)(og:∀o∈aD,Plain o.2)(i f:Nat)(R:afp)(eP:Ja)(d:Nat)(w:aeo)(ay:al w b (mV S bo 1 0 0 1 (ad eP aD.length d) i f) kY)(a1:af (gz R w eP aD)):
  Calls Tryz.prog 8 #[ah b 0] w fun e w'=>∃bJ d2,e=ab (.tuple #[ad bJ aD.length d2,I (i:Int),I (f:Int)])∧af (gz (fun k=>w.heap.size≤k) w' bJ aD)∧af (an w w w'):=by
 have afQ:∀(fn:Fn) (first cap:ajv) (w:aeo),(Instr.makeFunc fn first cap).run Tryz.prog w=.ok (.func fn first cap) w:=fun _ _ _ _=>rfl;have sU:=lt_of_heap ay;have fs:w.heap.size≠b:=by omega
 have lB:(w.alloc (ai (#[.pointer (some (aj b 0))]) 23)).heap[w.heap.size]?=some (.cells #[ah b 0] 23):=cR _ _;have cj:=ba ay (bh w (ai (#[.pointer (some (aj b 0))]) 23));have mA:(w.alloc (ai (#[.pointer (some (aj b 0))]) 23)).heap.size=w.heap.size+1:=l' _;have WZ:=bh w (ai (#[.pointer (some (aj b 0))]) 23);have ho:=cell_of (i:=0) lB rfl;obtain⟨n,hn⟩:=aq aD.length;have bd:=ao hn;rw[hn] at cj;have yw:=fun MW=>asN b MW _ _ cj rfl;rw[hn];have jW:af (Q3 w.heap.size b S bo (ad eP n d) (i:Int) (f:Int) (w.alloc (ai (#[.pointer (some (aj b 0))]) 23))):=⟨lB,cj⟩;have kW:af (gz R (w.alloc (ai (#[.pointer (some (aj b 0))]) 23)) eP aD):=a1.out.below WZ;have qd:=ao WZ;have eb:=ao mA;clear ay hn WZ;go_enter Tryz.func8,Tryz.ntmps8;go_wp2_with (go_at_call 15;refine (yw _).mono ?_;rintro e b' ⟨rfl,rfl⟩);obtain⟨b',afS⟩:=aq (w.alloc (ai (#[.pointer (some (aj b 0))]) 23));change Code.wp _ _ _ _ (w.alloc (ai (#[.pointer (some (aj b 0))]) 23));clear yw lB cj ho mA;rw[afS] at jW kW qd eb⊢;clear afS;have im:=ao (MY jW.out);have gy:=ao (Q4 (Below.refl _ _).drew (MY jW.out));have M0:=ao (fun x (hx:an b' b' x)=>Zy R aD og eP n d bd.out.symm x (ao (kW.out.below hx)));clear og;go_upto_region 2 with fail
 go_region_held3 (fun Z=>MX w.heap.size b S bo (ad eP n d) (i:Int) (f:Int) Z) (first|with_reducible exact gy.out|with_reducible exact im.out|with_reducible exact Q4 (by assumption) (by assumption)|assumption|fail) (first|(go_at_call 19;(with_reducible refine (M0.out _ (Below.refl _ _).drew).mono ?_);rintro e hV ⟨rO,d7,rfl,WY,nu⟩)|fail)
 all_goals
  clear gy im M0;have oI:=ao (qd.out.trans (((Below.refl _ _).drew.trans nu).mono qd.out.size));have vx:af (gz (fun k=>w.heap.size≤k) hV rO aD):=WY.mono fun k _ aw=>cd qd.out.size aw;go_wp2_with fail;go_ret3;exact⟨rO,d7,rfl,vx,oI⟩
theorem afU(S:Ua)(bo:Int)(w:aeo):Calls Tryz.prog 4 #[aa S,I bo] w fun e w'=>e=ab (ah w.heap.size 0)∧w'=w.alloc (ai (mV S bo 0 0 0 0 (J 0) 0 0) kY):=by go_enter Tryz.func4,Tryz.ntmps4;go_wp2;go_ret;exact⟨rfl,rfl⟩
end c1
namespace c1
open Go.RowKit ef Gb
open mI (mN hY)
open dY (aap)
abbrev lk:TypeId:=69
def asP(S:Ua)(w:aeo)(e:Ending)(w':aeo):Prop:=∃(bq:List dq) (i f:Nat) (q:Ja) (d:Nat),e=ab (.tuple #[ad q bq.length d,I (i:Int),I (f:Int)])∧iA (fun k=>w.heap.size≤k) w' q bq∧an w w w'∧af ((∀s∈bq,Plain s)∧bq.length≤100000)∧af (S=hY→i=3∧f=11)
theorem asQ(S:Ua)(hs:S.size≤900000)(bo:Int)(rM:-9223372036854775808≤bo∧bo≤9223372036854775807)(w:aeo)(hg:mN w):Calls Tryz.prog 21 #[aa S,I bo] w (asP S w):=by refine (aap S hs bo rM.1 rM.2 w (ao hg)).mono ?_;rintro e w' ⟨bq,i,f,⟨v,rfl,ay,a1,az⟩,aB⟩;obtain⟨q,d,rfl,aG⟩:=ajA a1 az;exact⟨bq.map KL,i,f,q,d,rfl,aG,ay,⟨ajB,by rw[jV];exact az⟩,aB⟩
abbrev mh(S:Ua)(bo d st sm:Int)(sv:ada)(i e:Int):Array Value:= #[aa S,I bo,.int .u32 d,.int .i32 st,.int .u32 sm,sv,I i,I e]
abbrev asR(S:Ua)(bo:Int)(v5 v6 bS:ada):Array Value:= #[aa S,I bo,.int .u32 0,.int .i32 1,.int .u32 0,v5,v6,bS]
structure rY(w:aeo)(q b:Nat)(S:Ua)(bo:Int)(v5 v6 bS:ada)(x:aeo):Prop where
 aG:al x q (#[.pointer (some (aj b 0))]) 26
 ay:al x b (asR S bo v5 v6 bS) lk
 aw:aK (fun k=>k≠b) w x
abbrev vF(w:aeo)(q b:Nat)(S:Ua)(bo:Int)(x:aeo):Prop:=
 x.cell? ⟨q,0,none⟩=some (.pointer (some (aj b 0)))∧ak x b 0 (aa S)∧ak x b 1 (I bo)∧
 ak x b 5 (lx x b 5)∧x.frozen? ⟨b,5,none⟩=false∧ak x b 6 (lx x b 6)∧x.frozen? ⟨b,6,none⟩=false∧ak x b 7 (lx x b 7)∧x.frozen? ⟨b,7,none⟩=false∧∃v5 v6 bS,rY w q b S bo v5 v6 bS x
variable{w x:aeo}{q b:Nat}{S:Ua}{bo:Int}{v5 v6 bS:ada}
theorem Jf(h:rY w q b S bo v5 v6 bS x):vF w q b S bo x:=
 ⟨cell_of h.aG rfl,cell_of h.ay rfl,cell_of h.ay rfl,pC (cell_of h.ay rfl),dc h.ay 5,pC (cell_of h.ay rfl),dc h.ay 6,pC (cell_of h.ay rfl),dc h.ay 7,_,_,_,h⟩
theorem Q5(h:vF w q b S bo x):∃v5 v6 bS,rY w q b S bo v5 v6 bS x:=h.2.2.2.2.2.2.2.2.2
theorem rY.below{y:aeo}(h:rY w q b S bo v5 v6 bS x)(ay:an x x y):rY w q b S bo v5 v6 bS y:=⟨ba h.aG ay,ba h.ay ay,h.aw.trans (aK.c4 ay)⟩
theorem rY.afV(fs:q≠b)(h:rY w q b S bo v5 v6 bS x)(u:ada):rY w q b S bo u v6 bS (x.setCell (aj b 5) u):=⟨(lT fs).trans h.aG,(by have:=dt (i:=5) u h.ay;exact this),h.aw.trans (aK.set (a:=⟨b,5,none⟩) (fun aw=>aw rfl) _)⟩
theorem rY.MR(fs:q≠b)(h:rY w q b S bo v5 v6 bS x)(u:ada):rY w q b S bo v5 u bS (x.setCell (aj b 6) u):=⟨(lT fs).trans h.aG,(by have:=dt (i:=6) u h.ay;exact this),h.aw.trans (aK.set (a:=⟨b,6,none⟩) (fun aw=>aw rfl) _)⟩
theorem rY.MS(fs:q≠b)(h:rY w q b S bo v5 v6 bS x)(u:ada):rY w q b S bo v5 v6 u (x.setCell (aj b 7) u):=⟨(lT fs).trans h.aG,(by have:=dt (i:=7) u h.ay;exact this),h.aw.trans (aK.set (a:=⟨b,7,none⟩) (fun aw=>aw rfl) _)⟩
theorem asS{y:aeo}(ay:an x x y)(h:vF w q b S bo x):vF w q b S bo y:=by obtain⟨_,_,_,h⟩:=Q5 h;exact Jf (h.below ay)
theorem asT(fs:q≠b)(u:ada)(h:vF w q b S bo x):vF w q b S bo (x.setCell (aj b 5) u):=by obtain⟨_,_,_,h⟩:=Q5 h;exact Jf (h.afV fs u)
theorem asU(fs:q≠b)(u:ada)(h:vF w q b S bo x):vF w q b S bo (x.setCell (aj b 6) u):=by obtain⟨_,_,_,h⟩:=Q5 h;exact Jf (h.MR fs u)
theorem asV(fs:q≠b)(u:ada)(h:vF w q b S bo x):vF w q b S bo (x.setCell (aj b 7) u):=by obtain⟨_,_,_,h⟩:=Q5 h;exact Jf (h.MS fs u)
def W1(S:Ua)(bo v l:Int)(b:Nat)(w w':aeo):Prop:=∃(bq:List dq) (i f:Nat) (q:Ja) (d:Nat),al w' b (mh S bo v l 0 (ad q bq.length d) i f) lk∧iA (fun k=>w.heap.size≤k) w' q bq∧aK (fun k=>k≠b) w w'∧af ((∀s∈bq,Plain s)∧bq.length≤100000)∧af (S=hY→i=3∧f=11)
theorem asW(b q:Nat)(fs:q≠b)(S:Ua)(fL:S.size≤900000)(bo:Int)(rM:-9223372036854775808≤bo∧bo≤9223372036854775807)(w:aeo)(hg:mN w)(aG:al w q (#[.pointer (some (aj b 0))]) 26)(ay:al w b (mh S bo 0 1 0 (J 0) 0 0) lk):
  Calls Tryz.prog 20 #[ah q 0] w fun e w'=>e=ab (.tuple #[])∧W1 S bo 0 1 b w w':=by
 have aJ:=ao (asQ S fL bo rM w.drew (hg.below (Below.refl _ _).drew));have bn:=ao aG;have lg:=ao ay;have asK:=lt_of_heap aG;have sU:=lt_of_heap ay;clear fL rM aG ay hg;go_enter Tryz.func20,Tryz.ntmps20;have bN:af (rY w q b S bo (J 0) (I 0) (I 0) w):=⟨bn.out,lg.out,.refl _ _⟩;have gy:af (vF w q b S bo w.drew):=Jf (bN.out.below (Below.refl _ _).drew);have im:af (vF w q b S bo w):=Jf bN.out;go_upto_region 0 with fail
 go_region_held3 (fun Z=>vF w q b S bo Z) (first|with_reducible exact gy.out|with_reducible exact im.out|with_reducible exact asS (by assumption) (by assumption)|with_reducible exact asT fs _ (by assumption)|with_reducible exact asU fs _ (by assumption)|with_reducible exact asV fs _ (by assumption)|assumption|fail) (first|(go_at_call 21;(with_reducible refine (aJ.out).mono ?_);rintro e b' ⟨bq,i,f,fh,d6,rfl,yy,dR,rU,uj⟩)|fail)
 all_goals
  have iE:=ao ((((bN.out.below (Below.refl _ _).drew).below dR).afV fs (ad fh bq.length d6)).MR fs (I (i:Int))|>.MS fs (I (f:Int)));have qQ:af (iA (fun k=>w.heap.size≤k∧k≠b) b' fh bq):=yy.mono fun k _ aw=>⟨aw,fun e=>by have au:w.heap.size≤k:=aw;omega⟩;have vx:=ao (qQ.out.keep (((aK.set (a:=⟨b,5,none⟩) (S:=fun k=>w.heap.size≤k∧k≠b) (w:=b') (fun aw=>aw.2 rfl) (ad fh bq.length d6)).trans (aK.set (a:=⟨b,6,none⟩) (fun aw=>aw.2 rfl) (I (i:Int)))).trans (aK.set (a:=⟨b,7,none⟩) (fun aw=>aw.2 rfl) (I (f:Int)))));clear dR yy gy im;go_wp2_with fail;go_end0;exact⟨rfl,bq,i,f,fh,d6,iE.out.ay,vx.out.mono fun k _ aw=>aw.1,iE.out.aw,rU,uj⟩
theorem asX{i:Nat}{u:ada}(h:mN w)(aF:ak w b 0 (aa S)):mN (w.setCell (aj b i) u):=by
 obtain⟨m,hm⟩:=h;have hne:0≠b:=by intro e;subst e;rw[aF] at hm;cases hm
 exact⟨m,cell_far hne hm⟩
theorem asY(b q:Nat)(fs:q≠b)(S:Ua)(fL:S.size≤900000)(bo:Int)(rM:-9223372036854775808≤bo∧bo≤9223372036854775807)(w:aeo)(hg:mN w)(aG:al w q (#[.pointer (some (aj b 0))]) 26)(ay:al w b (mh S bo 0 0 0 (J 0) 0 0) lk):
  Calls Tryz.prog 34 #[ah b 2,.func (.func 20) #[] #[ah q 0]] w fun e w'=>e=ab (.tuple #[])∧W1 S bo 1 0 b w w':=by
 have MU:∀(x:Bool) (w:aeo),(Op.unary .not (U x)).run Tryz.prog w=.ok (U (!x)) w:=fun _ _=>rfl;have c3:=cell_of (i:=3) ay rfl;have f3:=dc ay 3;have WV:(w.setCell (aj b 3) (.int .i32 1)).heap[q]?=some (.cells #[ah b 0] 26):=(lT fs).trans aG;have MV:(w.setCell (aj b 3) (.int .i32 1)).heap[b]?=some (.cells (mh S bo 0 1 0 (J 0) 0 0) lk):=by have:=dt (i:=3) (.int .i32 1) ay;exact this
 have asZ:mN (w.setCell (aj b 3) (.int .i32 1)):=asX hg (cell_of (i:=0) ay rfl);have gX:=asW b q fs S fL bo rM _ asZ WV MV;have c2:=cell_of (i:=2) MV rfl;have eM:aK (fun k=>k≠b) w (w.setCell (aj b 3) (.int .i32 1)):=aK.set (a:=⟨b,3,none⟩) (fun aw=>aw rfl) _;have fw:(w.setCell (aj b 3) (.int .i32 1)).heap.size=w.heap.size:=R0 _ _ _
 go_enter_defers Tryz.func34,Tryz.ntmps34
 go_wp2_with (go_at_call 49;refine (afL (aj b 3) _ c3 f3).mono ?_;rintro e w' ⟨rfl,rfl⟩);go_wp2_with (go_at_call 33;refine (Je (aj b 2) 0 false rfl _ c2).mono ?_;rintro e w' ⟨rfl,rfl⟩);go_wp2_with (go_at_call 20;refine gX.mono ?_;rintro e b' ⟨rfl,bq,i,f,fh,d6,dR,yy,qy,rU,uj⟩);have z2:=cell_of (i:=2) dR rfl;have g2:=dc dR 2;have nu:(b'.drew.setCell (aj b 2) (.int .u32 1)).heap[b]?=some (.cells (mh S bo 1 1 0 (ad fh bq.length d6) i f) lk):=by have:=dt (w:=b'.drew) (i:=2) (.int .u32 1) dR;exact this
 have z3:=cell_of (i:=3) nu rfl;have g3:=dc nu 3;refine QY (f:=51) (args:= #[.pointer (some (aj b 2)),U true]) (by simp) (by simp[go_sem]) ?_;refine (afJ (aj b 2) (.int .u32 0) .returning _ z2 g2).mono ?_;rintro e yD WW ⟨rfl,rfl,rfl⟩;refine QY (f:=50) (args:= #[.pointer (some (aj b 3))]) (by simp[settle]) (by simp[go_sem]) ?_;refine (afK (aj b 3) _ _ z3 g3).mono ?_;rintro e yD WW ⟨rfl,rfl,rfl⟩;have Dv:aK (fun k=>k≠b) b' ((b'.drew.setCell (aj b 2) (.int .u32 1)).setCell (aj b 3) (.int .i32 0)):=((aK.c4 (Below.refl _ _).drew).trans (aK.set (a:=⟨b,2,none⟩) (fun aw=>aw rfl) _)).trans (aK.set (a:=⟨b,3,none⟩) (fun aw=>aw rfl) _);have jP:((b'.drew.setCell (aj b 2) (.int .u32 1)).setCell (aj b 3) (.int .i32 0)).heap[b]?=some (.cells (mh S bo 1 0 0 (ad fh bq.length d6) i f) lk):=by have:=dt (i:=3) (.int .i32 0) nu;exact this
 have sU:=lt_of_heap ay;rw[fw] at yy;have WX:=(yy.mono (R:=fun k=>w.heap.size≤k∧k≠b) (fun k _ aw=>⟨aw,by have au:w.heap.size≤k:=aw;omega⟩)).keep (Dv.mono fun k _ aw=>aw.2);refine⟨.tuple #[],by simp[results,Tryz.results34],rfl,bq,i,f,fh,d6,jP,WX.mono fun k _ aw=>aw.1,(eM.trans qy).trans Dv,rU,uj⟩
theorem as0(b q:Nat)(fs:q≠b)(S:Ua)(fL:S.size≤900000)(bo:Int)(rM:-9223372036854775808≤bo∧bo≤9223372036854775807)(w:aeo)(hg:mN w)(aG:al w q (#[.pointer (some (aj b 0))]) 26)(ay:al w b (mh S bo 0 0 0 (J 0) 0 0) lk):
  Calls Tryz.prog 15 #[ah b 2,.func (.func 20) #[] #[ah q 0]] w fun e w'=>e=ab (.tuple #[])∧W1 S bo 1 0 b w w':=by
 have MU:∀(x:Bool) (w:aeo),(Op.unary .not (U x)).run Tryz.prog w=.ok (U (!x)) w:=fun _ _=>rfl;have xi:=asY b q fs S fL bo rM w hg aG ay;have c2:=cell_of (i:=2) ay rfl;go_enter QZ,Q0;go_wp2_with (go_at_call 33;refine (Je (aj b 2) 0 false rfl _ c2).mono ?_;rintro e w' ⟨rfl,rfl⟩);go_wp2_with (go_at_call 34;refine xi.mono ?_;rintro e b' ⟨rfl,b8⟩);go_end0;exact⟨rfl,b8⟩
abbrev W2:Value:=.agg #[I 0,I 0,I 0,I 0,I 0,I 0,I 0,I 0,J 0,J 0]
theorem as1:(Tryz.prog.info? cQ).map (fun i=>(i.zero,i.size,i.bytes))=some (some W2,10,112):=by kernel_rfl
theorem afW(S:Ua)(bo:Int)(w:aeo):Calls Tryz.prog 6 #[aa S,I bo] w fun e w'=>e=ab (ah w.heap.size 0)∧w'=w.alloc (ai (mh S bo 0 0 0 (J 0) 0 0) lk):=by go_enter Tryz.func6,Tryz.ntmps6;go_wp2;go_ret;exact⟨rfl,rfl⟩
def z6(S:Ua)(bo:Int)(b:Nat)(bq:List dq)(i f:Nat)(ep:Ja)(dU:Nat)(R:afp)(x:aeo):Prop:=x.heap[b]?=some (.cells (mh S bo 1 0 0 (ad ep bq.length dU) i f) lk)∧iA R x ep bq∧(∀s∈bq,Plain s)∧bq.length≤100000
theorem afX(b:Nat)(S:Ua)(bo:Int)(w:aeo)(sU:b<w.heap.size)(X:List dq→Nat→Nat→Ja→Nat→(Nat→Prop)→aeo→Prop)
  (yw:Calls Tryz.prog 15 #[ah b 2,.func (.func 20) #[] #[ah w.heap.size 0]] (w.alloc (ai (#[.pointer (some (aj b 0))]) 26)) fun e x=>e=ab (.tuple #[])∧∃bq i f ep dU R,z6 S bo b bq i f ep dU R x∧X bq i f ep dU R x∧aK (fun k=>k≠b) (w.alloc (ai (#[.pointer (some (aj b 0))]) 26)) x):
  Calls Tryz.prog 9 #[ah b 0] w fun e w'=>∃(x:aeo) (bq:List dq) (i f:Nat) (ep:Ja) (dU:Nat) (R:afp) (q:Ja) (d:Nat),e=ab (.tuple #[ad q bq.length d,I (i:Int),I (f:Int)])∧af (z6 S bo b bq i f ep dU R x)∧af (X bq i f ep dU R x)∧af (aK (fun k=>k≠b) w x)∧af (an x x w')∧af (iA (fun k=>x.heap.size≤k) w' q bq):=by
 have afQ:∀(fn:Fn) (first cap:ajv) (w:aeo),(Instr.makeFunc fn first cap).run Tryz.prog w=.ok (.func fn first cap) w:=fun _ _ _ _=>rfl;have fs:w.heap.size≠b:=by omega
 have lB:(w.alloc (ai (#[.pointer (some (aj b 0))]) 26)).heap[w.heap.size]?=some (.cells #[ah b 0] 26):=cR _ _;have eM:aK (fun k=>k≠b) w (w.alloc (ai (#[.pointer (some (aj b 0))]) 26)):=aK.alloc _ _ _;have ho:=cell_of (i:=0) lB rfl;obtain⟨i0,hi,cW,dv,dx⟩:=info_parts as1;have bL:=ao (And.intro hi (And.intro cW (And.intro dv dx)));clear hi cW dv dx;go_enter Tryz.func9,Tryz.ntmps9;go_upto_region 2 with (first|(go_at_call 15;(with_reducible refine yw.mono ?_);rintro e b' ⟨rfl,bq,i,f,ep,dU,R,qb,b2,qy⟩)|fail);have G7:=ao qb;have cK:=ao b2;have np:=ao (eM.trans qy);have MZ:af (al b' w.heap.size (#[.pointer (some (aj b 0))]) 26):=qy.get fs lB;obtain⟨n,hn⟩:=aq bq.length;have bd:=ao hn;have iX:n≤100000:=by rw[←hn];exact qb.2.2.2
 have fE:af (al b' b (mh S bo 1 0 0 (ad ep n dU) i f) lk):=by show _=_;rw[←hn];exact qb.1
 have eC:ak b' w.heap.size 0 (.pointer (some (aj b 0))):=cell_of (i:=0) MZ.out rfl;have c5:ak b' b 5 (ad ep n dU):=cell_of (i:=5) fE.out rfl;clear yw lB ho eM qy qb b2 hn;go_upto_region 3 with (first|(refine wpList_make_own _ rfl _ _ _ rfl b'.heap.size cQ i0 W2 10 Tt bL.out.1 bL.out.2.1 bL.out.2.2.1 .i64 .i64 ((n:Nat):Int) n (by rfl) (by rfl) rfl (by rw[bL.out.2.2.2];omega) (by unfold maxLen;omega) (aP _) ?_;intro fU ct uW)|fail);have eL:an b' b' fU:=⟨uW.os,uW.tape,uW.output,uW.size,fun k aw=>uW.block k aw (by simp)⟩;have pG:af (wE b' (ag b'.heap.size 0 0 n) [] fU):=⟨fun _=>False,[],ct,trivial,fun k h=>h.elim,fun k _ h=>h,eL⟩;clear ct uW eC c5;have eC:ak fU w.heap.size 0 (.pointer (some (aj b 0))):=cell_of (i:=0) (ba MZ.out eL) rfl;have c5:ak fU b 5 (ad ep n dU):=cell_of (i:=5) (ba fE.out eL) rfl;clear eL;go_wp2_with fail
 go_loopw [5,24] (fun Kg xS wr=>∃(k:Nat) (sv:ada) (d':aeo),d'=wr∧k≤n∧sv=Kg∧xS=I k∧af (wE b' sv (bq.take k) d')) (fun _ xS _=>n -(intOf xS).toNat)
 case atStart=>exact⟨0,_,_,rfl,cO _,rfl,rfl,pG.out⟩
 case round=>
 obtain⟨k,sv,d',rfl,aw,rfl,rfl,fq⟩:=hrel;have eL:an b' b' d':=by obtain⟨_,_,_,_,_,_,h⟩:=fq.out;exact h
 clear eC c5 pG;by_cases gD:k<n
 ·have Kk:k<bq.length:=(by rw[bd.out];exact gD);have fD:(k:Int)<(n:Int):=(by omega);have jY:(0:Int)≤(k:Int):=(by omega);obtain⟨⟨aD,os⟩,aG⟩:=aq (bq[k]);have oj:=G7.out.2.2.1 ⟨aD,os⟩ (by rw[←aG];exact k3 _);obtain⟨ea,eS,pl,cl,pp,cp,rfl,py,_,ff,aV,aT,c2,c3,cD,c5,cX,c7,dj,bB⟩:=G7.out.2.1.at Kk aG;obtain⟨fB,ks⟩:=aq os.len;have Kh:=ao ks;have uX:af (bq.take (k+1)=bq.take k++[⟨aD,os⟩]):=(by show _=_;rw[AB Kk,aG]);have uY:(bq.take k).length=k:=(by rw[lz];omega);obtain⟨Ki,B9⟩:=aq (bq.take k);rw[B9] at fq uX uY;have xF:=ao uY;obtain⟨nl,eU⟩:=aq aD.l.length;have r9:=ao eU;have Kj:af (∀Z,an b' b' Z→Calls Tryz.prog 22 #[.agg #[I aD.k,I aD.a.1,I aD.a.2,I aD.b.1,I aD.b.2,I aD.c.1,I aD.c.2,I aD.r,ad pl nl cl,ad pp fB cp]] Z fun e w'=>∃q d df f,e=ab (.agg #[I aD.k,I aD.a.1,I aD.a.2,I aD.b.1,I aD.b.2,I aD.c.1,I aD.c.2,I aD.r,ad q nl d,ad df fB f])∧dw (fun k=>Z.heap.size≤k) w' q d df f ⟨aD,os⟩∧an Z Z w'):=(by intro Z cN;rw[←eU,←ks];exact SR R aD os oj pl cl pp cp Z (ao (ff.below cN)));rw[eU] at dj;rw[ks] at bB;have d0:=bD eL aV;have d1:=bD eL aT;have d2:=bD eL c2;have d3:=bD eL c3;have d4:=bD eL cD;have d5:=bD eL c5;have d6:=bD eL cX;have d7:=bD eL c7;have d8:=bD eL dj;have d9:=bD eL bB;clear aV aT c2 c3 cD c5 cX c7 dj bB ff aG B9 uY eU ks py oj;have Ex:af (an b' b' (d'.alloc (ai (#[I aD.k,I aD.a.1,I aD.a.2,I aD.b.1,I aD.b.2,I aD.c.1,I aD.c.2,I aD.r,ad pl nl cl,ad pp fB cp]) cQ))):=eL.trans ((bh _ _).mono eL.size);have wx:=ao (fq.out.below (bh d' (ai (#[I aD.k,I aD.a.1,I aD.a.2,I aD.b.1,I aD.b.2,I aD.c.1,I aD.c.2,I aD.r,ad pl nl cl,ad pp fB cp]) cQ)));clear eL fq;go_wp2_with fail;with_reducible refine (Kj.out _ Ex.out).mono ?_
  rintro e hV ⟨fh,kO,kP,f6,rfl,Ca,dR⟩;have mS:af (an b' b' hV):=Ex.out.trans (dR.mono Ex.out.size);have GR:=ao Ca;have cE:=ao dR;obtain⟨xs,mE⟩:∃xs,(d'.alloc (ai (#[I aD.k,I aD.a.1,I aD.a.2,I aD.b.1,I aD.b.2,I aD.c.1,I aD.c.2,I aD.r,ad pl nl cl,ad pp fB cp]) cQ)).ownsRow b'.heap.size cQ 10 sv Ki.length xs:=(by obtain⟨_,xs,h,_⟩:=wx.out;exact⟨xs,h⟩);rw[xF.out] at mE;obtain⟨ps,cs,rfl⟩:=iw mE;have tH:=ao mE;have k8:af ((hV.alloc (ai (#[I aD.k,I aD.a.1,I aD.a.2,I aD.b.1,I aD.b.2,I aD.c.1,I aD.c.2,I aD.r,ad fh nl kO,ad kP fB f6]) cQ)).ownsRow b'.heap.size cQ 10 (ad ps k cs) k xs):=(fY mE dR).alloc _;have aiQ:=mS.out.size;clear mE dR Ca d0 d1 d2 d3 d4 d5 d6 d7 d8 d9;go_wp2_with (at_builtin;refine GP _ rfl _ _ _ rfl b'.heap.size cQ i0 W2 10 112 Tt bL.out.1 bL.out.2.1 bL.out.2.2.1 bL.out.2.2.2 rfl (by omega) (ad ps k cs) k _ (by rfl) k8.out (aj hV.heap.size 0) 1 1 [I aD.k,I aD.a.1,I aD.a.2,I aD.b.1,I aD.b.2,I aD.c.1,I aD.c.2,I aD.r,ad fh nl kO,ad kP fB f6] (by rfl) (by rfl) (jx (cs:= #[I aD.k,I aD.a.1,I aD.a.2,I aD.b.1,I aD.b.2,I aD.c.1,I aD.c.2,I aD.r,ad fh nl kO,ad kP fB f6]) (t:=cQ) (fr:=(0,0)) (dL hV _)) (by simp[Value.oneCell']) (by omega) (by unfold maxLen;omega) (by omega) (by simp;omega) (hV.heap.size+1) (by simp) ?_;intro gg gG o' ct dn dF h5)
  all_goals
   have Cb:=ao (wE.push (b:=aD) (s:=os) (q:=fh) (qp:=kP) (e:=kO) (f:=f6) (g:=gg) (n':=k+1) (c':=gG) (V:=[I aD.k,I aD.a.1,I aD.a.2,I aD.b.1,I aD.b.2,I aD.c.1,I aD.c.2,I aD.r,ad fh nl kO,ad kP fB f6]) wx.out cE.out (bh hV (ai (#[I aD.k,I aD.a.1,I aD.a.2,I aD.b.1,I aD.b.2,I aD.c.1,I aD.c.2,I aD.r,ad fh nl kO,ad kP fB f6]) cQ)) GR.out dn (by rw[r9.out,Kh.out]) (fun ys h=>S2 tH.out (by rw[xF.out] at h;exact h)) (by rw[xF.out];exact ct) rfl (dF.imp id (fun h=>by rw[h];exact lO _)));rw[←uX.out] at Cb;clear ct dn dF h5;go_wp2_with fail;go_round<;>first|exact⟨k+1,_,_,rfl,by omega,rfl,by go_num,Cb.out⟩|(simp[intOf]<;>omega)
 ·obtain rfl:k=n:=(by omega);have fD:¬(k:Int)<(k:Int):=(by omega);have wy:bq.take k=bq:=(by rw[←bd.out];exact vI);have fF:=fq.out;rw[wy] at fF;obtain⟨q,d,oU,nN⟩:=wE.own (R:=fun k=>b'.heap.size≤k) fF (by rw[bd.out];show k≤1000000000;omega) (fun k h=>h);have qQ:=ao nN;have gH:=ao eL;rw[bd.out] at oU;subst oU;have eC:ak d' w.heap.size 0 (.pointer (some (aj b 0))):=cell_of (i:=0) (ba MZ.out eL) rfl;have cX:ak d' b 6 (I (i:Int)):=cell_of (i:=6) (ba fE.out eL) rfl;have c7:ak d' b 7 (I (f:Int)):=cell_of (i:=7) (ba fE.out eL) rfl;clear wy fF nN fq eL;go_wp2_with fail
  go_quiet (fail)
  have oI:=ao (iu gH.out nq);have vx:=ao (qQ.out.below (iu (Below.refl _ _) nq));go_wp2_with fail;go_ret3;exact⟨b',bq,i,f,ep,dU,R,q,d,by rw[bd.out];exact rfl,G7,cK,np,oI,vx⟩
end c1
