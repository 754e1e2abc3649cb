/- Lemmas. -/
import Derived.Test.YtkaiaijcieaofaaGreatDoorQ25
set_option linter.all false
set_option maxRecDepth 100000
set_option maxHeartbeats 12800000
namespace Go.Proofs.YtkaiaijcieaofaaGreatDoor
abbrev L7:=@Proofs.Tryz.underlying86
namespace c1
open Go.RowKit ef
open n2 (iq dG ec vu uc)
def Iq(v:Int×Int):Nat:=if v.2≠1∨(v.1≠0∧v.1≠1) then 4 else 0
def L8(add ok:Bool)(s:dq)(vs:List (Int×Int))(k e:Nat):bf×Nat:=match vs[k]? with
 |none=>if e≠0∨ok=false then (.nil,e) else match ri mX s with
  |none=>(.nil,5)
  |some m=>(.cons add m.b m.p .nil,0)
 |some v=>if C4 e v≠0∨ok=false then (.nil,C4 e v) else match ri {mX with q:=cb v} s with
  |none=>(.nil,5)
  |some m=>(.cons add m.b m.p .nil,0)
def L9 (add ok:Bool) (s:dq) (cz:gj) (a6:Nat) (R:bf × Nat):Prop:=(if a6≠0∨ok=false then ((.nil,a6):bf×Nat) else match ri cz s with
 |none=>(.nil,5)
 |some m=>(.cons add m.b m.p .nil,0))=R
variable{add:Bool}{cz:gj}
theorem L9.no{ok:Bool}{s:dq}{a6:Nat}{R:bf×Nat}(h:L9 add ok s cz a6 R)(he:a6≠0∨ok=false):(.nil,a6)=R:=(aW he).symm.trans h
theorem L9.yes {s:dq} {R:bf × Nat} (h:L9 add true s cz 0 R):(match ri cz s with
 |none=>((.nil,5):bf×Nat)
 |some m=>(.cons add m.b m.p .nil,0))=R:=(aN (by simp)).symm.trans h
theorem acV:e5 mX.eI.1∧e5 mX.eI.2:=⟨⟨by decide,by decide⟩,by decide,by decide⟩
def acW(T:Nat)(w:aeo)(r:bf×Nat)(b3:Ending)(w':aeo):Prop:=aK (fun b=>b≠T) w w'∧(∃a b c:ada,al w' T (#[a,b,c,I (r.2:Int)]) Be)∧∃(pp:Ja) (cp:Nat),b3=ab (ad pp r.1.len cp)∧r.1.len≤cp∧hO (fun k=>w.heap.size≤k) w' pp r.1
abbrev Vv(T V:Nat)(vs:List (Int×Int))(u:Int)(k dP:Nat)(E:Nat→Nat)(b:dK)(ps:bf)(ok:Bool)(f:Nat):Prop:=∀e Z,e3 T V vs u k e Z→Calls Tryz.prog f #[ah T 0] Z fun b3 w'=>mT T V vs u dP (E e) Z w'∧∃(pl:Ja) (cl:Nat) (pp:Ja) (cp:Nat),b3=ab (.tuple #[jc b (ad pl b.l.length cl) (ad pp ps.len cp),U ok])∧dw (fun k=>Z.heap.size≤k) w' pl cl pp cp ⟨b,ps⟩
abbrev acX(T V:Nat)(vs:List (Int×Int))(u:Int)(k dP:Nat)(E:Nat→Nat)(b:dK)(ps:bf)(f:Nat):Prop:=∀e Z,e3 T V vs u k e Z→Calls Tryz.prog f #[ah T 0] Z fun b3 w'=>mT T V vs u dP (E e) Z w'∧∃(pl:Ja) (cl:Nat) (pp:Ja) (cp:Nat),b3=ab (jc b (ad pl b.l.length cl) (ad pp ps.len cp))∧dw (fun k=>Z.heap.size≤k) w' pl cl pp cp ⟨b,ps⟩
theorem L'(T V:Nat)(n:Int)(vs:List (Int×Int))(u:Int)(gP e9:Nat)(add:Bool)(dP:Nat)(E:Nat→Nat)(b:dK)(ps:bf)(ok:Bool)(w:aeo)(H:af (e3 T V vs u 0 0 w))(tI:(n=7∧gP=0∧e9=0∧add=true)∨((n=1∨n=20∨n=21∨n=4)∧gP=1∧∃v0,af (vs[0]?=some v0)∧Iq v0=e9∧decide (v0.1=1)=add))(az:vs.length≤2000)(hs:af (∀v∈vs,-1073741824≤v.1∧v.1≤1073741824))(eM:dP≤vs.length)
    (qI:af (n=1→Vv T V vs u gP dP E b ps ok 222)) (Vw:af (n=20→Vv T V vs u gP dP E b ps ok 223)) (Vx:af (n=21→Vv T V vs u gP dP E b ps ok 224)) (Ir:af (n=4→ok=true∧acX T V vs u gP dP E b ps 225)) (Qd:af (n=7→ok=true∧acX T V vs u gP dP E b ps 226)):
    Calls Tryz.prog 200 #[ah T 0,I n] w (acW T w (L8 add ok ⟨b,ps⟩ vs dP (E e9))):=by
  have qs:=ao (lt_of_heap H.out.t);have mf:=ao (lt_of_heap H.out.v)
  have bd:af (n=7∨n=1∨n=20∨n=21∨n=4):=by
    rcases tI with h|h
    · exact .inl h.1
    · exact .inr h.1
  have ud:=ao tI;clear tI;obtain⟨R,hR⟩:∃r,L8 add ok ⟨b,ps⟩ vs dP (E e9)=r:=⟨_,rfl⟩;rw[hR]
  have key:∃(cz:gj) (bM a6:Nat),(∀Z,e3 T V vs u dP (E e9) Z→Calls Tryz.prog 227 #[ah T 0] Z fun b3 w'=>b3=ab (rp cz)∧mT T V vs u bM a6 Z w')∧(e5 cz.eI.1∧e5 cz.eI.2)∧L9 add ok ⟨b,ps⟩ cz a6 R:=by
    unfold L8 at hR;cases aS:vs[dP]? with
    |none=>
      have aw:dP=vs.length:=(by rw[List.getElem?_eq_none_iff] at aS;omega);rw[aS] at hR;exact⟨mX,vs.length,E e9,fun Z h=>an8 T V vs u (E e9) Z (ao (aw ▸ h)),acV,hR⟩
    |some v=>
      rw[aS] at hR;exact⟨{mX with q:=cb v},dP+1,C4 (E e9) v,fun Z h=>an9 T V vs u dP (E e9) v Z (ao h) (ao aS) (by omega) (hs.out v (List.mem_of_getElem? aS)),acV,hR⟩
  obtain⟨cz,bM,a6,acY,fj,iZ⟩:=key;have aom:=ao acY;have jI:=ao fj;have aQ:=ao iZ;clear hR acY fj iZ;go_enter Tryz.func200,Tryz.ntmps200;go_upto_if 12 with fail;go_cut [5] (fun v cq=>v=U add∧af (e3 T V vs u gP e9 cq)∧af (aK (fun b=>b≠T) w cq))
  case first=>
    rcases ud.out with ⟨rfl,rfl,rfl,rfl⟩|⟨hn,rfl,⟨a,d⟩,tI,uP,mz⟩
    · go_wp2_with fail
      go_meet;exact⟨rfl,H.out,.refl _ _⟩
    · have aon:(n !=7)=true:=by rcases hn with rfl|rfl|rfl|rfl<;>rfl
      have bG:=ao (fun (Z:aeo) (h:e3 T V vs u 0 0 Z)=>mF T V vs u 0 0 (a,d) Z (ao h) tI.out (by omega));have r7:af (Bh T V vs u 1 0 4 4):=C3 T V vs u 1 0 4;have yZ:af ((a==1)=add):=(by show _=_;rw[←mz];by_cases h:a=1<;>simp[h]);have pD:af (((d !=1)=true∧e9=4)∨((d !=1)=false∧(a !=0)=false∧e9=0)∨((d !=1)=false∧(a !=0)=true∧(a !=1)=true∧e9=4)∨((d !=1)=false∧(a !=0)=true∧(a !=1)=false∧e9=0)):=(by show _∨_;rw[←uP];unfold Iq;by_cases h:d=1<;>by_cases ax:a=0<;>by_cases aA:a=1<;>simp[h,ax,aA]);clear mz uP tI hn ud bd qI Vw Vx Ir Qd;go_wp2_with fail;with_reducible refine (bG.out _ H.out).mono ?_
      rintro b3 bt ⟨rfl,ax,bM⟩;have bp:=ao (ax.self (bh bt (dG a d)));have gW:=ao (bM.trans (aK.c4 (bh bt (dG a d))));have dC:=ao (cR bt (dG a d));clear ax bM bG;go_upto_region 4 with fail;generalize bt.alloc (dG a d)=db at bp gW dC⊢;obtain⟨⟨du,dI⟩,_⟩:=ec dC.out;rcases pD.out with ⟨eB,rfl⟩|⟨eB,bI,rfl⟩|⟨eB,bI,bJ,rfl⟩|⟨eB,bI,bJ,rfl⟩
      all_goals
        go_wp2_with (go_at_call 221;(with_reducible refine (r7.out _ bp.out.1).mono ?_);rintro b3 br ⟨⟨v5,rfl⟩,bj,hl⟩);go_meet
        first
          |exact⟨by rw[←yZ.out],bj,gW.out.trans hl⟩
          |exact⟨by rw[←yZ.out],bp.out.1,gW.out⟩
  case rest=>
  obtain⟨rfl,H1,iV⟩:=hcut;clear ud;go_upto_region 8 with fail;have bp:=ao (H1.out.self (bh wc jh));have gW:=ao (iV.out.trans bp.out.2);have gu:=ao (cR wc jh);have lG:af (w.heap.size≤wc.heap.size):=iV.out.size;generalize wc.alloc jh=bZ at bp gW gu⊢;obtain⟨D,b4⟩:∃D,wc.heap.size=D:=⟨_,rfl⟩;rw[b4] at gu lG⊢;clear b4 H1 iV;have zL:T≠D:=(by have:=qs.out;have:=lG.out;omega);cases ok;all_goals rcases bd.out with rfl|rfl|rfl|rfl|rfl
  all_goals first|exact absurd (Ir.out rfl).1 (by decide)|exact absurd (Qd.out rfl).1 (by decide)|skip
  all_goals
    first
      |have bw:=ao (qI.out rfl)
      |have bw:=ao (Vw.out rfl)
      |have bw:=ao (Vx.out rfl)
      |have bw:=ao (Ir.out rfl).2
      |have bw:=ao (Qd.out rfl).2
    clear qI Vw Vx Ir Qd bd;obtain⟨z0,z1,z2,z3,z4,z5,gZ,gR,fM,z9⟩:=dQ gu.out;have f0:=dc gu.out
    go_upto_region 20 with (first
      |(go_at_call 222;(with_reducible refine (bw.out _ _ bp.out.1).mono ?_);rintro b3 br ⟨⟨bj,hl⟩,pl,cl,pp,cp,rfl,Is⟩;have ib:=ao (hl.get (eN zL) gu.out);obtain⟨dH,c0,ee,y3,y4,j1,y6,h6,j2,k9⟩:=dQ ib.out;have f1:=dc ib.out)
      |(go_at_call 223;(with_reducible refine (bw.out _ _ bp.out.1).mono ?_);rintro b3 br ⟨⟨bj,hl⟩,pl,cl,pp,cp,rfl,Is⟩;have ib:=ao (hl.get (eN zL) gu.out);obtain⟨dH,c0,ee,y3,y4,j1,y6,h6,j2,k9⟩:=dQ ib.out;have f1:=dc ib.out)
      |(go_at_call 224;(with_reducible refine (bw.out _ _ bp.out.1).mono ?_);rintro b3 br ⟨⟨bj,hl⟩,pl,cl,pp,cp,rfl,Is⟩;have ib:=ao (hl.get (eN zL) gu.out);obtain⟨dH,c0,ee,y3,y4,j1,y6,h6,j2,k9⟩:=dQ ib.out;have f1:=dc ib.out)
      |(go_at_call 225;(with_reducible refine (bw.out _ _ bp.out.1).mono ?_);rintro b3 br ⟨⟨bj,hl⟩,pl,cl,pp,cp,rfl,Is⟩;have ib:=ao (hl.get (eN zL) gu.out);obtain⟨dH,c0,ee,y3,y4,j1,y6,h6,j2,k9⟩:=dQ ib.out;have f1:=dc ib.out)
      |(go_at_call 226;(with_reducible refine (bw.out _ _ bp.out.1).mono ?_);rintro b3 br ⟨⟨bj,hl⟩,pl,cl,pp,cp,rfl,Is⟩;have ib:=ao (hl.get (eN zL) gu.out);obtain⟨dH,c0,ee,y3,y4,j1,y6,h6,j2,k9⟩:=dQ ib.out;have f1:=dc ib.out)
      |fail)
    refine lh (P:=Code.wp _ _ _ _) (js b (ad pl b.l.length cl) (ad pp ps.len cp)) ib.out rfl fun nr g1 g2=>?_;have n1:af (nr.heap[D]?=some (.cells (rj b (ad pl b.l.length cl) (ad pp ps.len cp)) cQ)):=g1;have lM:=ao (bj.keep g2 zL (by have:=mf.out;have:=lG.out;omega));have np:=ao ((gW.out.trans hl).new g2 fun b ay=>by have:=lG.out;omega);have acZ:af (D<bZ.heap.size):=lt_of_heap gu.out;have ac0:af (dw (fun k=>D+1≤k) nr pl cl pp cp ⟨b,ps⟩):=((Is.keep (g2.mono fun k _ aw=>by have:=acZ.out;omega)).mono fun k _ aw=>by have:=acZ.out;omega);clear g1 g2 z0 z1 z2 z3 z4 z5 gZ gR fM z9 f0 dH c0 ee y3 y4 j1 y6 h6 j2 k9 f1 bj hl Is ib bw bp gW gu;go_wp2_with fail;with_reducible refine (aom.out _ lM.out).mono ?_
    rintro awe hV ⟨rfl,cY,ni⟩;have ua:=ao (cY.self (bh hV (JF cz)));have lL:=ao (ba (ni.get (eN zL) n1.out) (bh hV (JF cz)));have Cx:=ao ((np.out.trans ni).trans ua.out.2);have FR:=ao (cR hV (JF cz));have ac1:=ao ((ac0.out.keep (ni.mono fun k _ aw=>by have:=qs.out;have:=lG.out;omega)).below (bh hV (JF cz)));have aoo:af (D<hV.heap.size):=lt_of_heap (ni.get (eN zL) n1.out);clear cY ni lM n1 np ac0;go_upto_region 21 with fail;generalize hV.alloc (JF cz)=o' at ua lL Cx FR ac1⊢;obtain⟨Q,mQ⟩:∃Q,hV.heap.size=Q:=⟨_,rfl⟩;rw[mQ] at FR aoo⊢;clear mQ;obtain⟨⟨t0,t1,t2,t3⟩,nY⟩:=Bf ua.out.1.t;have awf:=lt_of_heap ua.out.1.t;by_cases he:a6=0
    · subst he
      first
        | (have hR:((.nil,0):bf×Nat)=R:=aQ.out.no (.inr rfl)
           subst hR;clear aQ;go_wp2_with fail;go_ret;exact⟨Cx.out,⟨_,_,_,ua.out.1.t⟩,none,0,rfl,aP _,.nil _ _ _⟩)
        |skip
      all_goals
        have hR : (match ri cz ⟨b,ps⟩ with
          |none=>((.nil,5):bf×Nat)
          |some m=>(.cons add m.b m.p .nil,0))=R:=aQ.out.yes
        have B0:=abc (fun k=>D+1≤k) b ps pl cl pp cp o' cz (ao jI.out) (ao ac1.out);obtain⟨o,a1⟩:∃o,ri cz ⟨b,ps⟩=o:=⟨_,rfl⟩;rw[a1] at hR B0;clear a1 aQ;obtain⟨z0,z1,z2,z3,z4,z5,gZ,gR,fM,z9⟩:=dQ lL.out;have eC:=cell_of (i:=0) FR.out rfl;have eu:=cell_of (i:=1) FR.out rfl;have eO:=cell_of (i:=2) FR.out rfl;have jm:=cell_of (i:=3) FR.out rfl;have rP:=cell_of (i:=4) FR.out rfl;have ac2:=ao B0;have Lx:af (Bh T V vs u bM 0 5 5):=C3 T V vs u bM 0 5;clear B0;cases o with
        |none=>
          have hR:((.nil,5):bf×Nat)=R:=hR;subst hR;go_upto_region 24 with (go_at_call 166;(with_reducible refine ac2.out.mono ?_);rintro aop GD ⟨jP,rfl⟩;have sO:=ao (ba lL.out jP);have Vy:=ao (ua.out.1.below jP);have vo:=ao (Cx.out.trans (.c4 jP));obtain⟨dH,c0,ee,y3,y4,j1,y6,h6,j2,k9⟩:=dQ sO.out;have f1:=dc sO.out;clear jP);refine lh (P:=Code.wp _ _ _ _) [I 0,I 0,I 0,I 0,I 0,I 0,I 0,I 0,J 0,J 0] sO.out rfl fun cZ g1 g2=>?_;have cc:=ao (Vy.out.keep g2 zL (by have:=mf.out;have:=lG.out;omega));have It:=ao (vo.out.new g2 fun b ay=>by have:=lG.out;omega);clear g1 g2 dH c0 ee y3 y4 j1 y6 h6 j2 k9 f1 z0 z1 z2 z3 z4 z5 gZ gR fM z9 eC eu eO jm rP t0 t1 t2 t3 nY;go_wp2_with (go_at_call 221;(with_reducible refine (Lx.out _ cc.out).mono ?_);rintro awg ue ⟨⟨v5,rfl⟩,ly,Ew⟩);go_ret;exact⟨It.out.trans Ew,⟨_,_,_,ly.t⟩,none,0,rfl,aP _,.nil _ _ _⟩
        |some m=>
          have hR:((.cons add m.b m.p .nil,0):bf×Nat)=R:=hR;subst hR;go_upto_region 24 with (go_at_call 166;(with_reducible refine ac2.out.mono ?_);rintro aop GD ⟨jP,ql,dl,qp,cf,rfl,ac3⟩;have sO:=ao (ba lL.out jP);have Vy:=ao (ua.out.1.below jP);have vo:=ao (Cx.out.trans (.c4 jP));obtain⟨dH,c0,ee,y3,y4,j1,y6,h6,j2,k9⟩:=dQ sO.out;have f1:=dc sO.out;clear jP);refine lh (P:=Code.wp _ _ _ _) (js m.b (ad ql m.b.l.length dl) (ad qp m.p.len cf)) sO.out rfl fun cZ g1 g2=>?_;have cc:=ao (Vy.out.keep g2 zL (by have:=mf.out;have:=lG.out;omega));have It:=ao (vo.out.new g2 fun b ay=>by have:=lG.out;omega);have aoq:=lt_of_heap lL.out;have Iu:=Cx.out.size;have LA:af (dw (fun k=>w.heap.size≤k) cZ ql dl qp cf m):=((ac3.keep (g2.mono fun k _ aw=>by omega)).mono fun k _ aw=>by omega);clear dH c0 ee y3 y4 j1 y6 h6 j2 k9 f1 z0 z1 z2 z3 z4 z5 gZ gR fM z9 eC eu eO jm rP t0 t1 t2 t3 nY ac3 aoq Iu;obtain⟨dH,c0,ee,y3,y4,j1,y6,h6,j2,k9⟩:=dQ g1;clear g1 g2;go_wp2_with fail;go_ret;exact⟨It.out.trans (.c4 (bh cZ _)),⟨_,_,_,ba cc.out.t (bh cZ _)⟩,some ⟨cZ.heap.size,0,none⟩,1,rfl,aP _,show 1≤jr by decide,fun _=>⟨cZ.heap.size,0,_,rfl,It.out.size,cR cZ (ai (#[U add,I m.b.k,I m.b.a.1,I m.b.a.2,I m.b.b.1,I m.b.b.2,I m.b.c.1,I m.b.c.2,I m.b.r,ad ql m.b.l.length dl,ad qp m.p.len cf]) ev),da.mk (pl:=ql) (cl:=dl) (pp:=qp) (cp:=cf) rfl (LA.out.below (bh _ _)) trivial⟩⟩
    · have hR:((.nil,a6):bf×Nat)=R:=aQ.out.no (.inl he)
      subst hR;have Bg:¬(a6:Int)=0:=(by omega);clear aQ he;go_wp2_with fail;go_ret;exact⟨Cx.out,⟨_,_,_,ua.out.1.t⟩,none,0,rfl,aP _,.nil _ _ _⟩
end c1
namespace gK
open Go.RowKit gI ga jz Mem hL cB
def rh(l:List C):List (Nat×C):=l.map fun c=>(0,c)
def Vz(res:Except Nat (List C))(w:aeo)(e:Ending)(w':aeo):Prop:=Below w.heap.size w w'∧match res with
 |.ok l=>∃v,e=ab (.tuple #[v,I 0])∧jO w.heap.size w' v (rh l)
 |.error k=>e=ab (.tuple #[cA,I (k:Int)])
theorem aor(c:C)(hn:c.bX=[])(ay:c.blocks=[])(w:aeo):
  Calls Tryz.prog 76 #[iO c 0 cA cA] w (Vz (.ok [c]) w):=by
 have bd:=ao hn;have aH:=ao ay;clear hn ay;unfold iO iN;have dY:af (jO w.heap.size ((w.alloc (ai (#[I 0,I c.k,I c.n,I c.m,U c.on,aa ⟨c.t.toArray⟩,aa ⟨c.x.toArray⟩,aa ⟨c.y.toArray⟩,aa ⟨c.i.toArray⟩,aa ⟨c.j.toArray⟩,cA,cA]) 92)).alloc (ai (#[I 0,I c.k,I c.n,I c.m,U c.on,aa ⟨c.t.toArray⟩,aa ⟨c.x.toArray⟩,aa ⟨c.y.toArray⟩,aa ⟨c.i.toArray⟩,aa ⟨c.j.toArray⟩,cA,cA]) 92)) (ag (w.heap.size+1) 0 1 1) (rh [c])):=by have h:=dL (w.alloc (ai (#[I 0,I c.k,I c.n,I c.m,U c.on,aa ⟨c.t.toArray⟩,aa ⟨c.x.toArray⟩,aa ⟨c.y.toArray⟩,aa ⟨c.i.toArray⟩,aa ⟨c.j.toArray⟩,cA,cA]) 92)) (ai (#[I 0,I c.k,I c.n,I c.m,U c.on,aa ⟨c.t.toArray⟩,aa ⟨c.x.toArray⟩,aa ⟨c.y.toArray⟩,aa ⟨c.i.toArray⟩,aa ⟨c.j.toArray⟩,cA,cA]) 92);rw[show (w.alloc (ai (#[I 0,I c.k,I c.n,I c.m,U c.on,aa ⟨c.t.toArray⟩,aa ⟨c.x.toArray⟩,aa ⟨c.y.toArray⟩,aa ⟨c.i.toArray⟩,aa ⟨c.j.toArray⟩,cA,cA]) 92)).heap.size=w.heap.size+1 by simp] at h;refine⟨_,⟨rfl,.inr ⟨w.heap.size+1,1,_,rfl,lO _,h,aP _,by unfold maxLen;omega,rfl,?_⟩⟩,.cons (p:=none) (q:=none) (k:=0) (m:=0) (by rw[bd.out];exact dd.nil _ _ _) (by rw[aH.out];exact fG.nil _ _ _) .nil⟩;simp only[bd.out,aH.out];rfl
 have cE:af (an w w ((w.alloc (ai (#[I 0,I c.k,I c.n,I c.m,U c.on,aa ⟨c.t.toArray⟩,aa ⟨c.x.toArray⟩,aa ⟨c.y.toArray⟩,aa ⟨c.i.toArray⟩,aa ⟨c.j.toArray⟩,cA,cA]) 92)).alloc (ai (#[I 0,I c.k,I c.n,I c.m,U c.on,aa ⟨c.t.toArray⟩,aa ⟨c.x.toArray⟩,aa ⟨c.y.toArray⟩,aa ⟨c.i.toArray⟩,aa ⟨c.j.toArray⟩,cA,cA]) 92))):=((Below.refl _ _).alloc (aP _) _).alloc (by simp) _;go_enter Tryz.func76,Tryz.ntmps76;go_wp2_with fail;go_ret2;exact⟨cE.out,_,rfl,dY.out⟩
theorem VA(k n m:Int)(on:Bool)(t x y i j:ar)(w:aeo):
  Calls Tryz.prog 76 #[.agg #[I 0,I k,I n,I m,U on,aa ⟨t.toArray⟩,aa ⟨x.toArray⟩,aa ⟨y.toArray⟩,aa ⟨i.toArray⟩,aa ⟨j.toArray⟩,J 0,J 0]] w (Vz (.ok [⟨k,n,m,on,t,x,y,i,j,[],[]⟩]) w):=
 aor ⟨k,n,m,on,t,x,y,i,j,[],[]⟩ rfl rfl w
theorem aos(S P:Ua):∃(R:Ua) (b:Bool),∀w,Calls Tryz.prog 72 #[aa S,aa P] w fun e w'=>e=ab (.tuple #[aa R,U b])∧w=w':=
 ⟨_,_,fun w=>(Tryz.strings_CutPrefix S P w).mono fun e w' ⟨he,hw⟩=>⟨he,hw.symm⟩⟩
def Iv(cs:List C):Option C→Except Nat (List C)
 |none=>.error 3
 |some c=>.ok (cs++[c])
theorem aot(t:ar)(x:C)(l:List C):pr t (x::l)=Iv (x::l) (iT t):=by unfold pr Iv;rw[aN (by rintro⟨_,_,h⟩;cases h)];rfl
variable{t:ar}
theorem aou(h:¬(t≠[]∧t.headD 0=68)):pr t []=Iv [] (iT t):=by unfold pr Iv;rw[aN (fun aE=>h ⟨aE.1,aE.2.1⟩)];rfl
theorem aov{r:ar}:pr (68::r) []=match tc r with|some n=>.ok [{dD 6 with n:=(n:Int)}]|none=>Iv [] (iT (68::r)):=by unfold pr Iv;rw[aW ⟨by simp,rfl,rfl⟩];rfl
theorem aow{B D:Nat}{w:aeo}{v:ada}{l:List (Nat×C)}(h:jO B w v l)(b4:D≤B):jO D w v l:=by
 obtain⟨xs,au,ax⟩:=h;refine⟨xs,⟨au.1,?_⟩,ax.imp (fun _ _ g=>g.mono b4) (fun _ _ g=>g.mono b4)⟩;rcases au.2 with g|⟨b,c,cur,aY,a6,cV⟩
 ·exact .inl g
 ·exact .inr ⟨b,c,cur,aY,cd b4 a6,cV⟩
theorem Qe(w:aeo)(a b:Obj):((w.alloc a).alloc b).heap[w.heap.size+1]?=some b:=by have h:=dL (w.alloc a) b;rw[show (w.alloc a).heap.size=w.heap.size+1 by simp] at h;exact h
def gk:Nat→List UInt8
 |0=>[71,48,49]
 |1=>[71,48,50]
 |_=>[71,48,51]
theorem aox{X:Ua}(h:af (X.size≤1000000000)):∃Y,X=Y∧af (Y.size≤1000000000):=⟨_,rfl,h⟩
def Ma(t:ar):Except Nat (List C):=if t.take 3=gk 0 then qw t 1 else if t.take 3=gk 1 then qw t 2 else if t.take 3=gk 2 then qw t 3 else pr t []
theorem aoy{k:Nat}(aw:k<3)(h:∀j,j<k→t.take 3≠gk j)(p:t.take 3=gk k):Ma t=qw t ((k:Int)+1):=by
 unfold Ma;rcases (show k=0∨k=1∨k=2 by omega) with rfl|rfl|rfl
 ·rw[aW p];rfl
 ·rw[aN (h 0 (by decide)),aW p];rfl
 ·rw[aN (h 0 (by decide)),aN (h 1 (by decide)),aW p];rfl
theorem aoz(h:∀j,j<3→t.take 3≠gk j):Ma t=pr t []:=by unfold Ma;rw[aN (h 0 (by decide)),aN (h 1 (by decide)),aN (h 2 (by decide))]
theorem VB(k:Nat):(gk k).length=3:=by unfold gk;split<;>rfl
abbrev Qf:Value:=.agg #[I 0,I 0,I 0,I 0,U false,aa ⟨#[]⟩,aa ⟨#[]⟩,aa ⟨#[]⟩,aa ⟨#[]⟩,aa ⟨#[]⟩,J 0,J 0]
abbrev Iw:Obj:=.cells #[aa ⟨#[71,48,49]⟩,aa ⟨#[71,48,50]⟩,aa ⟨#[71,48,51]⟩] 9
theorem aoA{w:aeo}{b k:Nat}(h:w.heap[b]?=some Iw)(aw:k<3):ak w b k (aa ⟨(gk k).toArray⟩):=by rcases (show k=0∨k=1∨k=2 by omega) with rfl|rfl|rfl<;>simp[World.cell?,h,gk]
theorem aoB(S:Ua)(hs:S.size≤1000000000)(res:Except Nat (List C))(hr:af (vQ S.data.toList=res))(w:aeo):
    Calls Tryz.prog 54 #[aa S] w (Vz res w):=by
  have bH:=ao hs;have az:=hr.out;clear hr hs;by_cases hm:S.data.toList∈([[71,51,54],[71,51,55],[71,55,52],[71,55,53],[77,48,50]]:List (List UInt8))
  · simp only[G0,G1,G2] at hm
    rcases hm with h|h|h|h|h
    all_goals
      have E:∀p,(S.toList==p)=decide (S.data.toList=p):=fun p=>hZ S p;rw[h] at E az;have aQ:=ao az;first|have aY:(S.toList==[71,51,54])=true:=E _|have aY:(S.toList==[71,51,54])=false:=E _
      first|have a6:(S.toList==[71,51,55])=true:=E _|have a6:(S.toList==[71,51,55])=false:=E _
      first|have cV:(S.toList==[71,55,52])=true:=E _|have cV:(S.toList==[71,55,52])=false:=E _
      first|have iI:(S.toList==[71,55,53])=true:=E _|have iI:(S.toList==[71,55,53])=false:=E _
      first|have lu:(S.toList==[77,48,50])=true:=E _|have lu:(S.toList==[77,48,50])=false:=E _
      clear h az E;go_enter Tryz.func54,Tryz.ntmps54;go_wp2_with fail
      first
        | (with_reducible refine (VA _ _ _ _ [] [] [] [] [] _).mono ?_
           rintro e bt ⟨ay,v,rfl,aB⟩;have bG:=ao (And.intro ay aB);clear ay aB;go_wp2_with fail;go_ret2;rw[←aQ.out];exact⟨bG.out.1,_,rfl,bG.out.2⟩)
        | (go_ret2
           rw[←aQ.out];exact⟨Below.refl _ _,rfl⟩)
  have F:∀p,p∈([[71,51,54],[71,51,55],[71,55,52],[71,55,53],[77,48,50]]:List (List UInt8))→(S.toList==p)=false:=(fun p hp=>by rw[hZ];exact fJ fun h=>hm (h ▸ hp));have aY:=F [71,51,54] (by decide);have a6:=F [71,51,55] (by decide);have cV:=F [71,55,52] (by decide);have iI:=F [71,55,53] (by decide);have lu:=F [77,48,50] (by decide);have hc:(if S.data.toList.take 3=[71,48,52] then .ok [{dD 1 with t:=S.data.toList.drop 3}] else Ma S.data.toList)=res:=(by rw[←az];unfold vQ;simp only[G0,G1,G2,not_or] at hm;rw[aN hm.1,aN hm.2.1,aN hm.2.2.1,aN hm.2.2.2.1,aN hm.2.2.2.2];rfl);clear az hm F;by_cases fh:S.data.toList.take 3=[71,48,52]
  · rw[aW fh] at hc
    have aQ:=ao hc;have bw:af (S.data.toList=(⟨#[71,48,52]⟩:Ua).data.toList++S.data.toList.drop 3):=TZ (p:=[71,48,52]) fh;clear hc fh;go_enter Tryz.func54,Tryz.ntmps54;go_wp2_with fail;with_reducible refine (qi _ _ _ bw _).mono ?_
    rintro e bt ⟨rfl,rfl⟩;go_wp2_with fail;with_reducible refine (VA 1 0 0 false (S.data.toList.drop 3) [] [] [] [] _).mono ?_
    rintro e bt ⟨ay,v,rfl,aB⟩;have bG:=ao (And.intro ay aB);clear ay aB;go_wp2_with fail;go_ret2;rw[←aQ.out];exact⟨bG.out.1,_,rfl,bG.out.2⟩
  rw[aN fh] at hc;have bw:af (∀r,S.data.toList≠(⟨#[71,48,52]⟩:Ua).data.toList++r):=T0 (p:=[71,48,52]) fh;clear fh;have ei:=ao hc;clear hc;obtain⟨i0,kf,cW,dv,dx⟩:=info_parts aaV;have bL:=ao (And.intro kf (And.intro cW (And.intro dv dx)));clear kf cW dv dx;go_enter Tryz.func54,Tryz.ntmps54;go_wp2_with fail;with_reducible refine (CD _ _ bw _).mono ?_
  rintro e bt ⟨rfl,rfl⟩;have bN:af ((w.alloc Iw).heap[w.heap.size]?=some Iw):=dL w _;have aH:af (an w w (w.alloc Iw)):=(Below.refl _ _).alloc (aP _) _;go_wp2_with fail;change Code.wp _ _ _ _ (w.alloc Iw);generalize w.alloc Iw=b5 at bN aH⊢
  go_loopw [0,6,54] (fun t c i wr=>∃(k:Nat) (Bk:aeo),Bk=wr∧Bk=b5∧k≤3∧af (∀j,j<k→S.data.toList.take 3≠gk j)∧t=aa S∧c=J 0∧i=I (k:Int)) (fun _ _ i _=>3 -(intOf i).toNat)
  case atStart=>exact⟨0,_,rfl,rfl,by omega,fun j h=>absurd h (lS j),rfl,rfl,rfl⟩
  case round=>
  obtain⟨k,Bk,rfl,aoC,aw,bd,rfl,rfl,rfl⟩:=hrel;subst aoC;by_cases ih:k<3
  case' pos=>
    have pN:(k:Int)<3:=(by omega);have jY:(0:Int)≤(k:Int):=(by omega);have m0:=aoA bN.out ih;by_cases fx:S.data.toList.take 3=gk k
    case neg=>
      have qI:af (∀r,S.data.toList≠(⟨(gk k).toArray⟩:Ua).data.toList++r):=T0 (p:=gk k) (by rw[VB];exact fx)
      have lb:af (∀j,j<k+1→S.data.toList.take 3≠gk j):=fun j b6=>by
        by_cases e:j=k
        · rw[e];exact fx
        · exact bd.out j (by omega)
      clear fx;go_wp2_with fail;with_reducible refine (CD _ _ qI _).mono ?_
      rintro e bt ⟨rfl,rfl⟩;go_wp2_with fail;go_round<;>first|exact⟨k+1,_,rfl,rfl,by omega,lb.out,rfl,rfl,by go_num⟩|(simp[intOf]<;>omega)
    obtain⟨X,b2⟩:=kd (S.data.toList.drop 3);have aG:qw S.data.toList ((k:Int)+1)=res:=(aoy ih bd.out fx).symm.trans ei.out;unfold qw at aG;have bw:af (S.data.toList=(⟨(gk k).toArray⟩:Ua).data.toList++X.data.toList):=(by have h:=TZ (l:=S.data.toList) (p:=gk k) (by rw[VB];exact fx);rw[VB] at h;show _=_;rw[b2];exact h);rw[←b2] at aG;have cK:af (X.size≤1000000000):=(by show X.size≤_;have au:=fS List.length b2;rw[ch,e8,ch] at au;have:=bH.out;omega);clear fx b2;by_cases CE:X.data.toList=[]
    case pos=>
      rw[aW CE] at aG;have bn:=ao aG;have aoD:(X.toList==[])=true:=(by rw[hZ];exact gx CE);clear aG CE;go_wp2_with fail;with_reducible refine (qi _ _ _ bw _).mono ?_
      rintro e bt ⟨rfl,rfl⟩;rw[o0];go_wp2_with ((at_builtin;refine wz _ rfl _ _ _ rfl w.heap.size 92 i0 Qf 12 168 L7 bL.out.1 bL.out.2.1 bL.out.2.2.1 bL.out.2.2.2 rfl (by omega) (J 0) 0 [] (by rfl) ⟨rfl,.inl ⟨rfl,rfl⟩⟩ (aj Bk.heap.size 0) 1 1 [I 0,I 2,I ((k:Int)+1),I 0,U false,aa ⟨#[]⟩,aa ⟨#[]⟩,aa ⟨#[]⟩,aa ⟨#[]⟩,aa ⟨#[]⟩,J 0,J 0] (by rfl) rfl (jx (dL Bk _)) (by simp[Value.oneCell']) (by unfold maxLen;omega) (by omega) (by have:=aH.out.size;simp;omega) ?_;intro v' w' gr h9 om;obtain⟨mG,k7,rfl,_,_⟩:=gr.form (by omega);have en:af (jO w.heap.size w' (ag mG 0 (0+1) k7) (rh [{dD 2 with n:=(k:Int)+1}])∧an w w w'):=⟨jO.push (l:=[]) (xs:=[]) (v:=J 0) (x:=(0,{dD 2 with n:=(k:Int)+1})) (p:=none) (q:=none) (k:=0) (m:=0) ⟨rfl,.inl ⟨rfl,rfl⟩⟩ .nil (dd.nil _ _ _) (fG.nil _ _ _) ((Below.refl _ _).alloc (aP _) _) h9 gr,(aH.out.alloc aH.out.size _).grown h9 (by have:=aH.out.size;simp;omega) (fun k aw=>by simp[Value.ownBlock] at aw)⟩;clear gr h9 om));go_ret2;rw[←bn.out];exact⟨en.out.2,_,rfl,en.out.1⟩
    rw[aN CE,aot] at aG;have o8:=ao aG;have aoD:(X.toList==[])=false:=(by rw[hZ];exact fJ CE);clear aG CE;obtain⟨awh,b,ac4⟩:=aos X ⟨#[68]⟩;go_wp2_with fail;with_reducible refine (qi _ _ _ bw _).mono ?_
    rintro e bt ⟨rfl,rfl⟩;rw[o0];go_wp2_with ((at_builtin;refine wz _ rfl _ _ _ rfl w.heap.size 92 i0 Qf 12 168 L7 bL.out.1 bL.out.2.1 bL.out.2.2.1 bL.out.2.2.2 rfl (by omega) (J 0) 0 [] (by rfl) ⟨rfl,.inl ⟨rfl,rfl⟩⟩ (aj Bk.heap.size 0) 1 1 [I 0,I 2,I ((k:Int)+1),I 0,U false,aa ⟨#[]⟩,aa ⟨#[]⟩,aa ⟨#[]⟩,aa ⟨#[]⟩,aa ⟨#[]⟩,J 0,J 0] (by rfl) rfl (jx (dL Bk _)) (by simp[Value.oneCell']) (by unfold maxLen;omega) (by omega) (by have:=aH.out.size;simp;omega) ?_;intro v' w' gr h9 om;obtain⟨mG,k7,rfl,_,_⟩:=gr.form (by omega);have en:af (jO w.heap.size w' (ag mG 0 (0+1) k7) (rh [{dD 2 with n:=(k:Int)+1}])∧an w w w'):=⟨jO.push (l:=[]) (xs:=[]) (v:=J 0) (x:=(0,{dD 2 with n:=(k:Int)+1})) (p:=none) (q:=none) (k:=0) (m:=0) ⟨rfl,.inl ⟨rfl,rfl⟩⟩ .nil (dd.nil _ _ _) (fG.nil _ _ _) ((Below.refl _ _).alloc (aP _) _) h9 gr,(aH.out.alloc aH.out.size _).grown h9 (by have:=aH.out.size;simp;omega) (fun k aw=>by simp[Value.ownBlock] at aw)⟩;clear gr h9 om));with_reducible refine (ac4 _).mono ?_
    rintro e db ⟨rfl,rfl⟩;clear ac4;cases b;all_goals go_wp2_with fail
  case' neg=>
    have aG:pr S.data.toList []=res:=(aoz (fun j b6=>bd.out j (by omega))).symm.trans ei.out;have en:af (jO w.heap.size Bk (J 0) (rh [])∧an w w Bk):=⟨jO.nil _ _,aH.out⟩;obtain rfl:k=3:=(by omega);have cK:=bH;by_cases b4:S.data.toList≠[]∧S.data.toList.headD 0=68
    case' pos=>
      obtain⟨r,hr⟩:∃r,S.data.toList=68::r:=by
        cases hS:S.data.toList with
        |nil=>exact absurd hS b4.1
        |cons a r=>
          have ax:=b4.2;rw[hS] at ax;exact⟨r,by rw[show a=68 from ax]⟩
      obtain⟨T,dm⟩:=kd r;rw[←dm] at hr;rw[hr,aov,←hr] at aG;have bw:af (S.data.toList=(⟨#[68]⟩:Ua).data.toList++T.data.toList):=hr;have dr:af (T.size≤maxLen):=(by show T.size≤_;have au:=fS List.length hr;rw[eT,ch,ch] at au;have:=bH.out;unfold maxLen;omega);obtain⟨Bl,FT⟩:∃Bl,tc T.data.toList=Bl:=⟨_,rfl⟩;have VC:=ao FT;rw[FT] at aG;have o8:=ao aG;clear FT b4 hr dm aG;go_wp2_with fail;with_reducible refine (qi _ _ _ bw _).mono ?_
      rintro e bt ⟨rfl,rfl⟩;rw[o0];go_wp2_with fail;with_reducible refine (T1 T dr.out _ VC _).mono ?_
      rintro e db ⟨aB,rfl⟩;cases Bl
      case some n=>
        obtain rfl:e=ab (.tuple #[I ((n:Nat):Int),U true]):=aB;go_wp2_with fail;with_reducible refine (VA 6 n 0 false [] [] [] [] [] _).mono ?_
        rintro e bZ ⟨ay,v,rfl,aB⟩;have bG:=ao (And.intro ay aB);clear ay aB;go_wp2_with fail;go_ret2;rw[←o8.out];exact⟨en.out.2.trans (bG.out.1.mono en.out.2.size),_,rfl,aow bG.out.2 en.out.2.size⟩
      obtain rfl:e=ab (.tuple #[I ((0:Nat):Int),U false]):=aB;go_wp2_with fail
    case' neg=>
      rw[aou b4] at aG;have bw:af (∀r,S.data.toList≠(⟨#[68]⟩:Ua).data.toList++r):=fun r hr=>b4 (by rw[hr];exact⟨by simp,rfl⟩);have o8:=ao aG;clear aG b4;go_wp2_with fail;with_reducible refine (CD _ _ bw _).mono ?_
      rintro e bt ⟨rfl,rfl⟩;go_wp2_with fail
  all_goals
    obtain⟨Y,e7,fq⟩:=aox cK;have aG:=o8.out;rw[e7] at aG⊢;obtain⟨yW,VD⟩:∃yW,iT Y.data.toList=yW:=⟨_,rfl⟩;have rU:=ao VD;rw[VD] at aG;have bn:=ao aG;clear VD aG e7;with_reducible refine (ald Y fq.out yW rU _).mono ?_
    rintro e br ⟨dX,c,p,dS,rfl,hn,mc,hd⟩;unfold iO iN;have bT:=ao (en.out.2.trans (dX.mono en.out.2.size));cases yW with
    |none=>
      clear dX hn mc hd;go_wp2_with fail;go_ret2;rw[←bn.out];exact⟨bT.out.alloc bT.out.size _,rfl⟩
    |some d=>
      obtain rfl:=hd d rfl;have Mb:=ao (en.out.1.below dX);have yj:=ao (And.intro (hn.mono en.out.2.size) mc);obtain⟨xs,sP,ac5⟩:=Mb.out;have x9:=ao sP;have tu:=ao ac5;clear dX hn mc hd sP ac5;go_wp2_with ((at_builtin;(first|refine wz _ rfl _ _ _ rfl w.heap.size 92 i0 Qf 12 168 L7 bL.out.1 bL.out.2.1 bL.out.2.2.1 bL.out.2.2.2 rfl (by omega) (.slice none 0 0) 0 xs (by rfl) (fY x9.out (((Below.refl _ _).alloc (aP _) _).alloc (by simp) _)) ⟨br.heap.size+1,0,none⟩ 1 1 [.int .i64 0,.int .i64 d.k,.int .i64 d.n,.int .i64 d.m,.bool d.on,.string ⟨d.t.toArray⟩,.string ⟨d.x.toArray⟩,.string ⟨d.y.toArray⟩,.string ⟨d.i.toArray⟩,.string ⟨d.j.toArray⟩,.slice p d.bX.length dS,cA] (by rfl) rfl (jx (Qe br _ _)) (by simp[Value.oneCell']) (by unfold maxLen;omega) (by omega) (by have:=bT.out.size;simp;omega) ?_|refine wz _ rfl _ _ _ rfl w.heap.size 92 i0 Qf 12 168 L7 bL.out.1 bL.out.2.1 bL.out.2.2.1 bL.out.2.2.2 rfl (by omega) (.slice (some ⟨mG,0,none⟩) (0+1) k7) 1 xs (by rfl) (fY x9.out (((Below.refl _ _).alloc (aP _) _).alloc (by simp) _)) ⟨br.heap.size+1,0,none⟩ 1 1 [.int .i64 0,.int .i64 d.k,.int .i64 d.n,.int .i64 d.m,.bool d.on,.string ⟨d.t.toArray⟩,.string ⟨d.x.toArray⟩,.string ⟨d.y.toArray⟩,.string ⟨d.i.toArray⟩,.string ⟨d.j.toArray⟩,.slice p d.bX.length dS,cA] (by rfl) rfl (jx (Qe br _ _)) (by simp[Value.oneCell']) (by unfold maxLen;omega) (by omega) (by have:=bT.out.size;simp;omega) ?_);intro v' w' gr h9 om;obtain⟨g2,gG,rfl,_,_⟩:=gr.form (by omega);have aJ:=ao (And.intro (jO.push (xs:=xs) (x:=(0,d)) (p:=p) (q:=none) (k:=dS) (m:=0) x9.out tu.out yj.out.1 (by rw[yj.out.2];exact fG.nil _ _ _) (((Below.refl _ _).alloc (aP _) _).alloc (by simp) _) h9 (by rw[yj.out.2];exact gr)) (((bT.out.alloc bT.out.size _).alloc (cd bT.out.size (by simp)) _).grown h9 (by have:=bT.out.size;simp;omega) (fun k aw=>(x9.out.lt _ aw).1)));clear gr h9 om));go_ret2;rw[←bn.out];exact⟨aJ.out.2,_,rfl,aJ.out.1⟩
end gK
