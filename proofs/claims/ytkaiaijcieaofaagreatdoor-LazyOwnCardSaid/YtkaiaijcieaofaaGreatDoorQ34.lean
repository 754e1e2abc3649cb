/- Lemmas. -/
import Derived.Test.YtkaiaijcieaofaaGreatDoorQ33
set_option linter.all false
set_option maxRecDepth 100000
set_option maxHeartbeats 12800000
namespace Go.Proofs.YtkaiaijcieaofaaGreatDoor
abbrev zU:=@Proofs.Tryz.underlying207
namespace c1
open Go.RowKit ef
open mm (fW)
open AK (vc)
open gK (dd)
abbrev MJ:TypeId:=248
abbrev F8(l:List Int):Array Value:= #[I (l.getD 0 0),I (l.getD 1 0),I (l.getD 2 0)]
theorem arA(l:List Int)(v:Int)(h:l.length<3):(F8 l).setIfInBounds l.length (I v)=F8 (l++[v]):=by
 rcases l with _|⟨a,_|⟨b,_|⟨c,l⟩⟩⟩
 ·rfl
 ·rfl
 ·rfl
 ·simp at h;omega
variable{w x:aeo}{k s:Nat}
theorem I4{l:List Int}(h:al w k (F8 l) MJ){j:Nat}(b6:j<3):ak w k j (I (l.getD j 0)):=by rcases (show j=0∨j=1∨j=2 by omega) with rfl|rfl|rfl<;>simp[World.cell?,h]
def app(pre:List Int):Except Nat (List Int)→Except Nat (List Int)
 |.error e=>.error e
 |.ok l=>.ok (pre++l)
def yr(s:Nat)(u:Int)(cu pre:List Int)(k:Nat):Prop:=pre.length=k∧(∀x∈pre,0≤x∧x≤268435456)∧r5 s u cu 0=app pre (r5 s u (cu.drop k) k)
theorem yr.nil (s:Nat) (u:Int) (cu:List Int):yr s u cu [] 0:=⟨rfl,fun x h=>absurd h (by simp),by
 rw[wu];cases r5 s u cu 0<;>rfl⟩
def MK(s:Nat)(u:Int)(cu:List Int)(k:Nat):Option Int→Except Nat (List Int)
 |none=>.error 5
 |some g=>if g<0∨(g=0∧s=2∧k<s) then .error 4 else if g.tmod 2≠0 then .error 7 else app [g.tdiv 2] (r5 s u (cu.drop (k+1)) (k+1))
variable{u a b h gp:Int}{cu pre:List Int}
theorem yr.at(h:yr s u cu pre k)(aw:k<cu.length):r5 s u cu 0=app pre (MK s u cu k (fW cu[k] u)):=by
 rw[h.2.2,rZ aw]
 congr 1
theorem yr.step(h:yr s u cu pre k)(aw:k<cu.length){g:Int}(aI:fW cu[k] u=some g)(au:¬(g<0∨(g=0∧s=2∧k<s)))(ax:g.tmod 2=0)(ay:g≤536870912):yr s u cu (pre++[g.tdiv 2]) (k+1):=by
 refine⟨by rw[fH,h.1];rfl,fun x hx=>?_,?_⟩
 ·rcases List.mem_append.1 hx with hx|hx
  ·exact h.2.1 x hx
  ·rw[List.mem_singleton.1 hx];rw[FI (by omega)];omega
 ·rw[h.at aw,aI];unfold MK;simp only;rw[aN au,aN (by simp[ax])];cases r5 s u (cu.drop (k+1)) (k+1)<;>simp[app]
theorem yr.fin(h:yr s u cu pre cu.length):r5 s u cu 0=.ok pre:=by rw[h.2.2,Nh];simp[r5,app]
def oN(bg:ar):Nat:=if bg=[67] then 1 else 2
def F9(bg:ar)(a b:Int):dK:=if bg=[67] then Jy a else if bg=[82] then RP a b else Gv a b
variable{bg:ar}
theorem WC(h:bg=[67]∨bg=[82]∨bg=[79])(cu:List Int)(u:Int)(ms:List mo):vS bg cu u ms=if cu.length≠oN bg∧cu.length≠oN bg+1 then .error 4 else match r5 (oN bg) u cu 0 with
  |.error e=>.error e
  |.ok g=>.ok (BO (F9 bg (g.getD 0 0) (g.getD 1 0)) (g.getD (oN bg) 0),if bg=[67]∧g.getD 1 0=0 then g.getD 0 0 else 0):=by
 unfold vS;rw[aW h];rcases h with rfl|rfl|rfl<;>simp[oN,F9]<;>rfl
abbrev QI:List Value:=[I 0,I 0,I 0,I 0,I 0,I 0,I 0,I 0,cC,cC,I 0]
structure yt(w:aeo)(pre:List Int)(x:aeo):Prop where
 aM:an w w x
 r:al x w.heap.size (oK fN cC cC 0) nZ
 h:al x (w.heap.size+1) (F8 pre) MJ
theorem yt.below{y:aeo}(h:yt w pre x)(ay:an x x y):yt w pre y:=⟨h.aM.trans (ay.mono h.aM.size),ba h.r ay,ba h.h ay⟩
theorem yt.step(h:yt w pre x){v:Int}(aw:pre.length=k)(aA:k<3):yt w (pre++[v]) (x.setCell (aj (w.heap.size+1) k) (I v)):=by subst aw;refine⟨h.aM.setCell (p:=⟨w.heap.size+1,pre.length,none⟩) (lO _) _,(lT (by omega)).trans h.r,?_⟩;rw[←arA pre v aA];exact dt _ h.h
theorem yd.err{w':aeo}{r:Except Nat (dq×Int)}{v ML:ada}(hr: .error k=r)(aw:k≠0)(ay:an w w w')(aS:v=U')(arB:ML=I (k:Int)):yd w r (ab (.tuple #[v,ML])) w':=by subst hr aS arB;exact⟨ay,aw,rfl⟩
theorem WD(h:bg=[67]∨bg=[82]∨bg=[79]){ms:List mo}(hn:¬(cu.length≠oN bg∧cu.length≠oN bg+1)){e:Nat}(he:r5 (oN bg) u cu 0=.error e): .error e=vS bg cu u ms:=by rw[WC h,aN hn,he]
theorem getD_in(h:∀x∈pre,0≤x∧x≤268435456)(j:Nat):0≤pre.getD j 0∧pre.getD j 0≤268435456:=by
 rw[zl];cases b6:pre[j]? with
 |none=>simp
 |some x=>exact h x (List.mem_of_getElem? b6)
theorem arC(_:oN bg=s)(a b:Int):∃K,F9 bg a b=K:=⟨_,rfl⟩
variable{K:dK}
theorem arD(aB:bg=[67]∨bg=[82]∨bg=[79]){ms:List mo}(hn:¬(cu.length≠oN bg∧cu.length≠oN bg+1))(hs:oN bg=s)(hf:r5 s u cu 0=.ok pre)(ha:pre.getD 0 0=a)(ay:pre.getD 1 0=b)(aE:pre.getD s 0=h)(hK:F9 bg a b=K)(hr:(if bg=[67]∧b=0 then a else 0)=gp): .ok (BO K h,gp)=vS bg cu u ms:=by rw[WC aB,aN hn,hs,hf];simp only;rw[ha,ay,aE,hK,hr]
theorem arE{r:Except Nat (dq×Int)}(aF:h=0)(hf: .ok (BO K h,gp)=r): .ok ((⟨K,.nil⟩:dq),gp)=r:=by rw[←hf,aF];rfl
theorem yt.keep{y:aeo}{T:Nat}(h:yt w pre x)(aw:aK (fun b=>b≠T) x y)(dm:w.heap.size+1<T):yt w pre y:=⟨aw.aM h.aM (by omega) h.aM.size,aw.get (by omega) h.r,aw.get (by omega) h.h⟩
theorem yd.yes{w':aeo}{s:dq}{r:Except Nat (dq×Int)}{v ML:ada}{pl:Ja}{cl:Nat}{pp:Ja}{cp:Nat}(hr: .ok (s,gp)=r)(ay:an w w w')(aS:v=.agg (oK s.b (ad pl s.b.l.length cl) (ad pp s.p.len cp) gp))(aw:ML=I 0)(hs:dw (fun k=>w.heap.size≤k) w' pl cl pp cp s):yd w r (ab (.tuple #[v,ML])) w':=by subst hr aS aw;exact⟨ay,_,_,_,_,rfl,hs⟩
abbrev aeQ(b:dK)(gb gv:ada)(r:Int):List Value:=[I b.k,I b.a.1,I b.a.2,I b.b.1,I b.b.2,I b.c.1,I b.c.2,I b.r,gb,gv,I r]
abbrev Dw(b:dK)(gb:ada)(h:Int):Obj:=.cells #[U true,I b.k,I b.a.1,I b.a.2,I b.b.1,I b.b.2,I b.c.1,I b.c.2,I b.r,gb,cC,U false,I 1,I 0,I 0,I 0,I 0,I 0,I 0,I h,cC,cC] ev
theorem arF{r:Except Nat (dq×Int)}(aF:0<h)(hf: .ok (BO K h,gp)=r): .ok ((⟨iG,.cons true K .nil (.cons false (mY (0,0) h) .nil .nil)⟩:dq),gp)=r:=by rw[←hf];unfold BO;rw[aW aF]
theorem arG(hs:oN bg=s)(ay:pre.getD 1 0=b)(aE:pre.getD s 0=h)(aF:¬h=0)(hx:bg=[67]∧b=0):False:=by obtain⟨rfl,rfl⟩:=hx;subst hs;exact aF (aE.symm.trans ay)
theorem arH(hs:oN bg=s)(ay:pre.getD 1 0=b)(aE:pre.getD s 0=h)(a:Int):∃r,(if bg=[67]∧b=0 then a else 0)=r∧(h≠0→0=r):=⟨_,rfl,fun aF=>by rw[aN (fun hx=>arG hs ay aE aF hx)]⟩
theorem arI{S:afp}{g cl:Nat}{pl:Ja}(hp:w.heap[g]?=some (Dw K (ad pl K.l.length cl) h))(hS:S g)(hs:dw S w pl cl none 0 ⟨K,.nil⟩):dw S w none 0 (some (aj g 0)) 2 ⟨iG,.cons true K .nil (.cons false (mY (0,0) h) .nil .nil)⟩:=
 ⟨.nil _ _ _,⟨show 2≤jr by decide,fun _=>⟨g,0,_,rfl,hS,hp,da.mk rfl hs (da.mk (pl:=none) (cl:=0) (pp:=none) (cp:=0) rfl (.bare _ _ _ _ _ _ _ rfl) trivial)⟩⟩,aP _,aP _⟩
theorem aeR(_:oN [67]=s):True:=trivial
theorem arJ(h:F9 [67] a b=K)(w:aeo):Calls Tryz.prog 158 #[I a] w (yh w K):=h ▸ anQ a w
theorem arK(h:F9 [82] a b=K)(ha:0≤a∧a≤268435456)(ay:0≤b∧b≤268435456)(w:aeo):Calls Tryz.prog 159 #[I a,I b] w (yh w K):=h ▸ anS a b ⟨ha.1,by omega⟩ ⟨ay.1,by omega⟩ w
theorem arL(h:F9 [79] a b=K)(ha:0≤a∧a≤268435456)(ay:0≤b∧b≤268435456)(w:aeo):Calls Tryz.prog 160 #[I a,I b] w (yh w K):=h ▸ anR a b ⟨ha.1,by omega⟩ ⟨ay.1,by omega⟩ w
theorem Ba(bg:ar)(oj:bg=[67]∨bg=[82]∨bg=[79])(cu:List Int)(nq:Ja)(bK:Nat)(u:Int)(ms:List mo)(eZ:ada)(B:Nat)(w:aeo)(nt:af (dd B w nq cu))(eU:cu.length≤1000000000):
    Calls Tryz.prog 118 #[aa ⟨bg.toArray⟩,ad nq cu.length bK,I u,eZ] w (yd w (vS bg cu u ms)):=by
  obtain⟨n,hn⟩:∃n,cu.length=n:=⟨_,rfl⟩;have bd:=ao hn;rw[hn] at eU⊢;clear hn;obtain⟨s,hs⟩:∃s,oN bg=s:=⟨_,rfl⟩;have bH:=ao hs;have Oi:=ao oj;have aeS:s=1∨s=2:=(by rw[←hs];unfold oN;split<;>simp);clear hs;by_cases hlen:n=s∨n=s+1
  case neg=>
    have aJ:af (.error 4=vS bg cu u ms):=by show _=_;rw[WC Oi.out,aW (by rw[bd.out,bH.out];omega)]
    have az:(bg=[67]→((n:Int) !=1)=true∧((n:Int) !=2)=true)∧(bg≠[67]→((n:Int) !=2)=true∧((n:Int) !=3)=true):=by
      have hs:=bH.out;unfold oN at hs;refine⟨fun h=>?_,fun h=>?_⟩
      · rw[aW h] at hs
        constructor<;>(rw[bne_iff_ne];omega)
      · rw[aN h] at hs
        constructor<;>(rw[bne_iff_ne];omega)
    clear aeS bH Oi;rcases oj with rfl|rfl|rfl
    all_goals
      first|have l:=az.1 rfl|have l:=az.2 (by decide)
      obtain⟨iP,gE⟩:=l;go_enter Tryz.func118,Tryz.ntmps118;go_wp2_with fail;exact cL (mw rfl _ _ w.heap.size _ _ _ _ rfl (cR w (ai (oK fN cC cC 0) nZ)) zU rfl (by kernel_rfl)) rfl (.err aJ.out (by decide) (bh _ _) rfl rfl)
  have wH:n≤3:=(by omega);have jg:af (¬(cu.length≠oN bg∧cu.length≠oN bg+1)):=by show ¬_;rw[bd.out,bH.out];omega
  have az:(bg=[67]→(((n:Int) !=1)=false∨((n:Int) !=1)=true∧((n:Int) !=2)=false)∧s=1)∧(bg≠[67]→(((n:Int) !=2)=false∨((n:Int) !=2)=true∧((n:Int) !=3)=false)∧s=2):=by
    have hs:=bH.out;unfold oN at hs;refine⟨fun h=>?_,fun h=>?_⟩
    · rw[aW h] at hs
      subst hs;refine⟨?_,rfl⟩;rcases hlen with rfl|rfl
      · exact .inl rfl
      · exact .inr ⟨rfl,rfl⟩
    · rw[aN h] at hs
      subst hs;refine⟨?_,rfl⟩;rcases hlen with rfl|rfl
      · exact .inl rfl
      · exact .inr ⟨rfl,rfl⟩
  clear hlen;rcases oj with rfl|rfl|rfl
  all_goals
    first|have l:=az.1 rfl|have l:=az.2 (by decide)
    have ei:=ao l.1;have eb:=ao l.2;clear az aeS l;go_enter Tryz.func118,Tryz.ntmps118;go_upto_region 9 with fail;go_cut [41] (fun a cq=>a=U false∧cq=w.alloc (ai (oK fN cC cC 0) nZ))
    case first=>
      rcases ei.out with l|⟨l,gE⟩
      all_goals
        go_wp2_with fail;go_meet;exact⟨rfl,rfl⟩
    case rest=>
      obtain⟨rfl,rfl⟩:=hcut;have pG:af (yt w [] ((w.alloc (ai (oK fN cC cC 0) nZ)).alloc (ai (F8 []) MJ))):=(by exact⟨D5 _ _ _,ba (cR _ _) (bh _ _),R6 _ _ _⟩);have I5:af (yr s u cu [] 0):=.nil _ _ _;go_wp2_with fail;change Code.wp _ _ _ _ ((w.alloc (ai (oK fN cC cC 0) nZ)).alloc (ai (F8 []) MJ));generalize (w.alloc (ai (oK fN cC cC 0) nZ)).alloc (.cells (F8 []) MJ)=W0 at pG⊢
      go_loopw [45] (fun i wr=>∃(k:Nat) (pre:List Int) (aL:aeo),aL=wr∧k≤n∧i=I k∧af (yt w pre aL)∧af (yr s u cu pre k)) (fun i _=>n -(intOf i).toNat)
      case atStart=>exact⟨0,[],_,rfl,by omega,rfl,pG.out,I5.out⟩
      case round=>
      obtain⟨k,pre,aL,rfl,aw,rfl,lN,bw⟩:=hrel;clear pG I5;by_cases la:k<n
      · have pN:(k:Int)<(n:Int):=by omega
        have jY:(0:Int)≤(k:Int):=(by omega);have kL:k<cu.length:=(by rw[bd.out];exact la);obtain⟨b,o,cs,aG,_,aE,eD⟩:=nt.out (by omega);subst aG;obtain⟨x,hx⟩:∃x,cu[k]=x:=⟨_,rfl⟩;have PK:aL.cell? ⟨b,o+k,none⟩=some (I x):=cell_of (ba aE lN.out.aM) (by rw[←hx];exact eD k kL);have cK:af (∀h:k<cu.length,cu[k]'h=x):=fun _=>hx;have arM:=ao kL;obtain⟨I6,QJ⟩:∃I6,fW x u=I6:=⟨_,rfl⟩;have fy:=ao QJ;have cM:af ((fW x u).getD 0=I6.getD 0∧(fW x u).isSome=I6.isSome):=(by show _∧_;rw[QJ];exact⟨rfl,rfl⟩);have dr:af (r5 s u cu 0=app pre (MK s u cu k I6)):=(by have h:=bw.out.at kL;rw[hx,QJ] at h;exact h);clear eD aE hx kL QJ;go_wp2_with fail;with_reducible refine (vc x u _ _ cM _).mono ?_
        rintro e br ⟨rfl,rfl⟩;clear PK cM;cases I6 with
        |none=>
          have aJ:af (.error 5=vS _ cu u ms):=WD (by decide) jg.out (by rw[bH.out];exact dr.out);obtain⟨z0,z1,z2,z3,z4,z5,gZ,gR,fM,z9,j4⟩:=pE lN.out.r;have rW:=dc lN.out.r;go_wp2_with fail;refine lh (P:=bodyPost _ _ _ _ _) QI lN.out.r rfl fun cZ g1 g2=>?_;exact cL (mw rfl _ _ w.heap.size _ _ _ _ rfl g1 zU rfl (by kernel_rfl)) rfl (.err aJ.out (by decide) (g2.aM lN.out.aM (aP _) lN.out.aM.size) rfl rfl)
        |some g=>
          have uR:=PC fy.out;by_cases yu:g.tmod 2=0∧¬(g<0∨(g=0∧s=2∧k<s))
          · have kb:=ao (bw.out.step arM.out (by rw[cK.out];exact fy.out) yu.2 yu.1 uR.2)
            have ih:k<3:=(by omega);have jf:¬g<0:=fun h=>yu.2 (.inl h);have aw4:wrap64 (g.tdiv 2)=g.tdiv 2:=qo _ (by rw[FI (by omega)];omega);have eo:=ao (lN.out.step (v:=g.tdiv 2) bw.out.1 ih);have nN:(g%2 !=0)=false:=(by rw[bne_eq_false_iff_eq,←Bb (by omega)];exact yu.1);have v0:=I4 lN.out.h ih;have amU:=dc lN.out.h k;have sK:g=0→s=2→¬(k:Int)<2:=fun aF ax aA=>yu.2 (.inr ⟨aF,ax,by omega⟩);clear yu uR;by_cases ES:g=0
            · subst ES
              first|have jE:=sK rfl eb.out|skip
              clear sK;go_wp2_with fail;go_round<;>first|exact⟨k+1,_,_,rfl,by omega,by go_num,eo.out,kb.out⟩|(simp[intOf]<;>omega)
            · have EP:(g==0)=false:=beq_eq_false_iff_ne.2 ES
              clear sK;go_wp2_with fail;go_round
              · exact⟨k+1,_,_,rfl,by omega,by go_num,eo.out,kb.out⟩
              · (simp[intOf]<;>omega)
          · obtain⟨z0,z1,z2,z3,z4,z5,gZ,gR,fM,z9,j4⟩:=pE lN.out.r
            have rW:=dc lN.out.r;by_cases fb:g<0∨(g=0∧s=2∧k<s)
            · have aJ:af (.error 4=vS _ cu u ms):=WD (by decide) jg.out (by rw[bH.out,dr.out];unfold MK;simp only;rw[aW fb];rfl)
              clear yu;rcases fb with jf|⟨rfl,k',wg⟩
              · go_wp2_with fail
                refine lh (P:=bodyPost _ _ _ _ _) QI lN.out.r rfl fun cZ g1 g2=>?_;exact cL (mw rfl _ _ w.heap.size _ _ _ _ rfl g1 zU rfl (by kernel_rfl)) rfl (.err aJ.out (by decide) (g2.aM lN.out.aM (aP _) lN.out.aM.size) rfl rfl)
              · first
                  |(exfalso;have:=eb.out;omega)
                  | (have jE:(k:Int)<2:=by omega
                     go_wp2_with fail;refine lh (P:=bodyPost _ _ _ _ _) QI lN.out.r rfl fun cZ g1 g2=>?_;exact cL (mw rfl _ _ w.heap.size _ _ _ _ rfl g1 zU rfl (by kernel_rfl)) rfl (.err aJ.out (by decide) (g2.aM lN.out.aM (aP _) lN.out.aM.size) rfl rfl))
            · have aJ:af (.error 7=vS _ cu u ms):=WD (by decide) jg.out (by rw[bH.out,dr.out];unfold MK;simp only;rw[aN fb,aW (fun h=>yu ⟨h,fb⟩)];rfl)
              have jf:¬g<0:=fun h=>fb (.inl h);have nN:(g%2 !=0)=true:=(by rw[bne_iff_ne,←Bb (by omega)];exact fun h=>yu ⟨h,fb⟩);have EP:(g==0)=false:=beq_eq_false_iff_ne.2 fun h=>yu ⟨by rw[h];rfl,fb⟩;clear yu fb;go_wp2_with fail;refine lh (P:=bodyPost _ _ _ _ _) QI lN.out.r rfl fun cZ g1 g2=>?_;exact cL (mw rfl _ _ w.heap.size _ _ _ _ rfl g1 zU rfl (by kernel_rfl)) rfl (.err aJ.out (by decide) (g2.aM lN.out.aM (aP _) lN.out.aM.size) rfl rfl)
      · obtain rfl:n=k:=by omega
        have fF:r5 s u cu 0=.ok pre:=(by have h:=bw.out;rw[←bd.out] at h;exact h.fin);have qm:=fun j=>getD_in bw.out.2.1 j;obtain⟨a,ha⟩:∃a,pre.getD 0 0=a:=⟨_,rfl⟩;obtain⟨b,ay⟩:∃b,pre.getD 1 0=b:=⟨_,rfl⟩;obtain⟨h,aE⟩:∃h,pre.getD s 0=h:=⟨_,rfl⟩;have FO:=qm 0;have IN:=qm 1;have arN:=qm s;rw[ha] at FO;rw[ay] at IN;rw[aE] at arN;obtain⟨K,hK⟩:=arC bH.out a b;first|have bG:=ao (fun Z=>arJ hK Z)|have bG:=ao (fun Z=>arK hK FO IN Z)|have bG:=ao (fun Z=>arL hK FO IN Z)
        have en:=ao hK;obtain⟨gp,sn,hD⟩:=arH bH.out ay aE a;have dC:=ao hD;have aJ:=ao (arD (ms:=ms) (by decide) jg.out bH.out fF ha ay aE hK sn);have xT:=ao sn;have aeU:=ao aE;have cE:=ao ay;have cJ:=ao ha;have aV:=I4 lN.out.h (j:=0) (by decide);have aT:=I4 lN.out.h (j:=1) (by decide);have cs:=I4 lN.out.h (j:=s) (by have:=eb.out;omega);rw[ha] at aV;rw[ay] at aT;rw[aE] at cs;clear fF qm ha ay aE hK sn hD la;first|obtain rfl:s=1:=eb.out|obtain rfl:s=2:=eb.out
        first|(have MD:=aeU.out.symm.trans cE.out;clear aT MD;have aT:=aV)|skip
        go_upto_region 26 with fail;have MM:af ((aL.alloc (ai (oK fN cC cC 0) nZ)).heap[aL.heap.size]?=some (.cells (oK fN cC cC 0) nZ)):=cR _ _;have ez:=ao (lN.out.below (bh aL (ai (oK fN cC cC 0) nZ)));have vr:af (w.heap.size+1<aL.heap.size):=lt_of_heap lN.out.h;have d0:=bD (bh aL (ai (oK fN cC cC 0) nZ)) aV;have d1:=bD (bh aL (ai (oK fN cC cC 0) nZ)) aT;have dU:=bD (bh aL (ai (oK fN cC cC 0) nZ)) cs;clear aV aT cs lN;change Code.wp _ _ _ _ (aL.alloc (ai (oK fN cC cC 0) nZ));generalize aL.alloc (.cells (oK fN cC cC 0) nZ)=b5 at MM ez d0 d1 dU⊢;obtain⟨T,dm⟩:∃T,aL.heap.size=T:=⟨_,rfl⟩;rw[dm] at MM vr⊢;clear dm;go_wp2_with fail;with_reducible refine (bG.out _).mono ?_
        rintro e b' ⟨dR,pl,cl,rfl,xG⟩;have jo:=ao (ba MM.out dR);have jW:=ao (ez.out.below dR);have qs:af (T<b5.heap.size):=lt_of_heap MM.out;have n1:=ao xG;clear dR MM ez xG d0 d1 dU bG;have d0:=I4 jW.out.h (j:=0) (by decide);obtain⟨z0,z1,z2,z3,z4,z5,gZ,gR,fM,z9,j4⟩:=pE jo.out;have rW:=dc jo.out;first|(have arO:=aeR bH.out;go_upto_region 29 with fail)|go_upto_region 35 with fail
        refine ang (P:=Code.wp _ _ _ _) (js K (ad pl K.l.length cl) cC) jo.out (show 10≤11 by decide) fun ug g1 g2=>?_;have oH:af (ug.heap[T]?=some (.cells (oK K (ad pl K.l.length cl) cC 0) nZ)):=g1;have wS:=ao (jW.out.keep g2 vr.out);have lL:af (dw (fun k=>w.heap.size+2≤k∧k≠T) ug pl cl none 0 ⟨K,.nil⟩):=((n1.out.keep (g2.mono fun k _ aw=>by have:=qs.out;omega)).mono fun k _ aw=>by have:=qs.out;have:=vr.out;omega);clear g1 g2 z0 z1 z2 z3 z4 z5 gZ gR fM z9 j4 rW d0 jo jW n1;obtain⟨z0,z1,z2,z3,z4,z5,gZ,gR,fM,z9,j4⟩:=pE oH.out;have rW:=dc oH.out;have d0:=I4 wS.out.h (j:=0) (by decide);rw[cJ.out] at d0;by_cases QK:h=0
        · have fp:=ao (arE QK aJ.out)
          subst QK;obtain⟨I7,aw5⟩:∃W:aeo,W=ug:=⟨_,rfl⟩
          first
            | (have arO:=aeR bH.out
               go_upto_region 35 with fail;refine anf (P:=Code.wp _ _ _ _) oH.out fun sD g3 g4=>?_;have sn:=xT.out;rw[aW (And.intro (by trivial) (cE.out.symm.trans aeU.out))] at sn;have aeV:af (sD.heap[T]?=some (.cells (oK K (ad pl K.l.length cl) cC gp) nZ)):=(by show _=_;rw[←sn];exact g3);have rT:=ao (wS.out.keep g4 vr.out);have QL:=ao (lL.out.keep (g4.mono fun k _ aw=>aw.2)))
            | (have sn:=xT.out
               rw[aN (fun h=>absurd h.1 (by decide))] at sn;have aeV:af (ug.heap[T]?=some (.cells (oK K (ad pl K.l.length cl) cC gp) nZ)):=(by show _=_;rw[←sn];exact oH.out);have rT:=wS;have QL:=lL)
          clear z0 z1 z2 z3 z4 z5 gZ gR fM z9 j4 rW d0 oH wS lL;obtain⟨t0,t1,t2,t3,t4,t5,t6,t7,t8,t9,t10⟩:=pE aeV.out;obtain⟨z0,z1,z2,z3,z4,z5,gZ,gR,fM,z9,j4⟩:=pE rT.out.r;have rW:=dc rT.out.r;go_wp2_with fail;refine lh (P:=bodyPost _ _ _ _ _) (aeQ K (ad pl K.l.length cl) cC gp) rT.out.r rfl fun cZ g5 g6=>?_;exact cL (mw rfl _ _ w.heap.size _ _ _ _ rfl g5 zU rfl (by kernel_rfl)) rfl (.yes fp.out (g6.aM rT.out.aM (aP _) rT.out.aM.size) rfl rfl ((QL.out.keep (g6.mono fun k _ aw=>by omega)).mono fun k _ aw=>by omega))
        · have Ao:(h==0)=false:=beq_eq_false_iff_ne.2 QK
          have wA:0<h:=(by omega);have fp:=ao (arF wA aJ.out);have fz:=ao (dC.out QK);have Cz:=lt_of_heap oH.out;go_upto_region 37 with fail;refine abZ (P:=fun X=>Code.wp _ _ _ _ (X.alloc (Dw K (ad pl K.l.length cl) h))) (js iG cC (ag ug.heap.size 0 2 2)) oH.out (show 10≤11 by decide) fun I7 g3 g4 gs=>?_;have C7:af ((I7.alloc (Dw K (ad pl K.l.length cl) h)).heap[ug.heap.size]?=some (Dw K (ad pl K.l.length cl) h)):=(by show _=_;rw[←gs];exact cR _ _);have iE:=ao ((wS.out.keep g4 vr.out).below (bh I7 (Dw K (ad pl K.l.length cl) h)));have sO:=ao ((lL.out.keep (g4.mono fun k _ aw=>aw.2)).below (bh I7 (Dw K (ad pl K.l.length cl) h)));have Pw:af ((I7.alloc (Dw K (ad pl K.l.length cl) h)).heap[T]?=some (.cells (oK iG cC (ag ug.heap.size 0 2 2) 0) nZ)):=ba g3 (bh _ _);have aeW:af (T<ug.heap.size):=Cz;clear g3 g4 gs z0 z1 z2 z3 z4 z5 gZ gR fM z9 j4 rW d0 Cz oH wS lL;generalize I7.alloc (Dw K (ad pl K.l.length cl) h)=sD at C7 iE sO Pw⊢;obtain⟨t0,t1,t2,t3,t4,t5,t6,t7,t8,t9,t10⟩:=pE Pw.out;obtain⟨z0,z1,z2,z3,z4,z5,gZ,gR,fM,z9,j4⟩:=pE iE.out.r;have rW:=dc iE.out.r;go_wp2_with fail;refine lh (P:=bodyPost _ _ _ _ _) (aeQ iG cC (ag ug.heap.size 0 2 2) 0) iE.out.r rfl fun cZ g5 g6=>?_;rw[←fz.out] at fp;exact cL (mw rfl _ _ w.heap.size _ _ _ _ rfl g5 zU rfl (by kernel_rfl)) rfl (.yes (pp:=some ⟨ug.heap.size,0,none⟩) (cp:=2) (pl:=none) (cl:=0) fp.out (g6.aM iE.out.aM (aP _) iE.out.aM.size) rfl rfl (arI (g6.get (by have:=aeW.out;have:=vr.out;omega) C7.out) (by have:=aeW.out;have:=vr.out;omega) ((sO.out.keep (g6.mono fun k _ aw=>by omega)).mono fun k _ aw=>by omega)))
end c1
namespace c1
open Go.RowKit ef
open cB (dN)
open gK (fG dd oL)
open n2 (iq dG ec FC)
open _root_.Go.Proofs.YtkaiaijcieaofaaGreatDoor.Fr (jT Ad)
abbrev oO:Obj:=.cells #[I 0,I 0,I 0,I 0,I 0,I 0,I 0,I 0,J 0,J 0,I 0] nZ
abbrev Dx(b:dK)(gb gv:ada)(r:Int):List Value:=[I b.k,I b.a.1,I b.a.2,I b.b.1,I b.b.2,I b.c.1,I b.c.2,I b.r,gb,gv,I r]
def yv(w:aeo)(e:Ending)(w':aeo):Prop:=∃r,yd w r e w'
abbrev QM(Y:aeo)(b:Nat):World:=((((((((((Y.setCell (aj b 0) (I 0)).setCell (aj b 1) (I 0)).setCell (aj b 2) (I 0)).setCell (aj b 3) (I 0)).setCell (aj b 4) (I 0)).setCell (aj b 5) (I 0)).setCell (aj b 6) (I 0)).setCell (aj b 7) (I 0)).setCell (aj b 8) cC).setCell (aj b 9) cC).setCell (aj b 10) (I 0)
variable{fn:Func}{p u:Tmp}{tmps:ajv}{w Y:aeo}
theorem WE(k:Nat)(h:fn.results= #[.cell p 207,.tmp u])(hr:Y.heap[w.heap.size]?=some oO)(ay:an w w Y)(hp:tmps.getD p undef=.pointer (some (aj w.heap.size 0)))(hu:tmps.getD u undef=I (k:Int))(aw:k≠0):
  bodyPost Tryz.prog fn (yv w) Exit.ret {tmps:=tmps,defers:=[]} Y:=
 cL (mw h _ _ w.heap.size _ _ _ _ hp hr zU rfl (by kernel_rfl)) rfl ⟨.error k,ay,aw,by rw[hu]⟩
theorem aeX{o:Obj}(k:Nat)(h:fn.results= #[.cell p 207,.tmp u])(hr:Y.heap[w.heap.size]?=some oO)(ay:an w w Y)(hp:tmps.getD p undef=.pointer (some (aj w.heap.size 0)))(hu:tmps.getD u undef=I (k:Int))(aw:k≠0):
  bodyPost Tryz.prog fn (yv w) Exit.ret {tmps:=tmps,defers:=[]} ((QM Y w.heap.size).alloc o):=by
 rw[show QM Y w.heap.size=ij Y w.heap.size 0 (Dx fN cC cC 0) from rfl];refine lh (P:=fun X=>bodyPost Tryz.prog fn (yv w) Exit.ret {tmps:=tmps,defers:=[]} (X.alloc o)) (Dx fN cC cC 0) hr rfl fun cZ g1 g2=>?_;have au:=g2.aM ay (aP _) ay.size;exact WE k h (ba (show cZ.heap[w.heap.size]?=some oO from g1) (bh _ _)) (au.trans ((bh _ _).mono au.size)) hp hu aw
theorem arP(k:Nat)(h:fn.results= #[.cell p 207,.tmp u])(hr:Y.heap[w.heap.size]?=some oO)(ay:an w w Y)(hp:tmps.getD p undef=.pointer (some (aj w.heap.size 0)))(hu:tmps.getD u undef=I (k:Int))(aw:k≠0):
  bodyPost Tryz.prog fn (yv w) Exit.ret {tmps:=tmps,defers:=[]} (QM Y w.heap.size):=by
 rw[show QM Y w.heap.size=ij Y w.heap.size 0 (Dx fN cC cC 0) from rfl];refine lh (P:=fun X=>bodyPost Tryz.prog fn (yv w) Exit.ret {tmps:=tmps,defers:=[]} X) (Dx fN cC cC 0) hr rfl fun cZ g1 g2=>?_;have au:=g2.aM ay (aP _) ay.size;exact WE k h g1 au hp hu aw
abbrev QN(Y:aeo)(g:Nat)(b:dK)(gb gv:ada)(r:Int):World:=((((((((((Y.setCell (aj g 0) (I b.k)).setCell (aj g 1) (I b.a.1)).setCell (aj g 2) (I b.a.2)).setCell (aj g 3) (I b.b.1)).setCell (aj g 4) (I b.b.2)).setCell (aj g 5) (I b.c.1)).setCell (aj g 6) (I b.c.2)).setCell (aj g 7) (I b.r)).setCell (aj g 8) gb).setCell (aj g 9) gv).setCell (aj g 10) (I r)
theorem arQ{o:Obj}{b:dK}{s:bf}{r:Int}{gb gv:ada}(h:fn.results= #[.cell p 207,.tmp u])(hr:Y.heap[w.heap.size]?=some oO)(ay:an w w Y)(hp:tmps.getD p undef=.pointer (some (aj w.heap.size 0)))(hu:tmps.getD u undef=I 0)(pl:Ja)(cl:Nat)(pp:Ja)(cp:Nat)(aY:gb=ad pl b.l.length cl)(a6:gv=ad pp s.len cp)(hs:dw (fun k=>w.heap.size<k) Y pl cl pp cp ⟨b,s⟩):
  bodyPost Tryz.prog fn (yv w) Exit.ret {tmps:=tmps,defers:=[]} ((QN Y w.heap.size b gb gv r).alloc o):=by
 rw[show QN Y w.heap.size b gb gv r=ij Y w.heap.size 0 (Dx b gb gv r) from rfl];refine lh (P:=fun X=>bodyPost Tryz.prog fn (yv w) Exit.ret {tmps:=tmps,defers:=[]} (X.alloc o)) (Dx b gb gv r) hr rfl fun cZ g1 g2=>?_;have au:=g2.aM ay (aP _) ay.size;subst aY a6;exact cL (mw h _ _ w.heap.size _ _ _ _ hp (ba g1 (bh _ _)) zU rfl (by kernel_rfl)) rfl ⟨.ok (⟨b,s⟩,r),au.trans ((bh _ _).mono au.size),pl,cl,pp,cp,by rw[hu],((hs.keep (g2.mono fun k _ aw=>by omega)).below (bh _ _)).mono fun k _ aw=>k5 aw⟩
theorem arR{b:dK}{s:bf}{r:Int}{gb gv:ada}(h:fn.results= #[.cell p 207,.tmp u])(hr:Y.heap[w.heap.size]?=some oO)(ay:an w w Y)(hp:tmps.getD p undef=.pointer (some (aj w.heap.size 0)))(hu:tmps.getD u undef=I 0)(pl:Ja)(cl:Nat)(pp:Ja)(cp:Nat)(aY:gb=ad pl b.l.length cl)(a6:gv=ad pp s.len cp)(hs:dw (fun k=>w.heap.size<k) Y pl cl pp cp ⟨b,s⟩):
  bodyPost Tryz.prog fn (yv w) Exit.ret {tmps:=tmps,defers:=[]} (QN Y w.heap.size b gb gv r):=by
 rw[show QN Y w.heap.size b gb gv r=ij Y w.heap.size 0 (Dx b gb gv r) from rfl];refine lh (P:=fun X=>bodyPost Tryz.prog fn (yv w) Exit.ret {tmps:=tmps,defers:=[]} X) (Dx b gb gv r) hr rfl fun cZ g1 g2=>?_;have au:=g2.aM ay (aP _) ay.size;subst aY a6;exact cL (mw h _ _ w.heap.size _ _ _ _ hp (ba g1 (Below.refl _ _)) zU rfl (by kernel_rfl)) rfl ⟨.ok (⟨b,s⟩,r),au.trans ((Below.refl _ _).mono au.size),pl,cl,pp,cp,by rw[hu],((hs.keep (g2.mono fun k _ aw=>by omega)).below (Below.refl _ _)).mono fun k _ aw=>k5 aw⟩
theorem arS(name:ar)(cu:List Int)(nq:Ja)(bK:Nat)(u:Int)(ms:List mo)(eZ:ada)(bx:aev)(D B:Nat)(w0 w:aeo)(dp:af (w.ownsRow D pP 2 eZ ms.length bx))(zg:af (vk w0 ms bx))(ay:af (an w0 w0 w))(x0:ms.length≤1000000000)(fF:af (∀m∈ms,m.b.length≤1000000∧∀b∈m.b,oL b))(nt:af (dd B w nq cu))(eU:cu.length≤1000000000)(iX:af (∀x∈cu,-4611686018427387904≤x∧x≤4611686018427387904)):
  Calls Tryz.prog 157 #[aa ⟨name.toArray⟩,ad nq cu.length bK,I u,eZ] w (yv w):=by
 obtain⟨p,cap,rfl⟩:=iw dp.out;obtain⟨S,hS⟩:∃S:Ua,(⟨name.toArray⟩:Ua)=S:=⟨_,rfl⟩;obtain⟨m,hm⟩:=aq ms.length;obtain⟨n,hn⟩:=aq cu.length;have bN:=ao hm;have bd:=ao hn;rw[hS,hm,hn];rw[hm] at x0;rw[hn] at eU;clear hS hm hn;have Fl:af (w.ownsRow D pP 2 (ad p m cap) m bx):=by have h:=dp.out;rw[bN.out] at h;exact h
 have aQ:=ao (cR w oO);have arU:∀Z:aeo,(Instr.makeSlice 266 (I (n:Int)) (I (n:Int))).run Tryz.prog Z=.ok (ag Z.heap.size 0 n n) (Z.alloc (ai (madeCells #[I 0,I 0] (n *2)) n5)):=fun Z=>yR _ _ _ 2 16 IH V0 n (by omega) (by omega) Z;go_enter Tryz.func157,Tryz.ntmps157;go_wp2_with fail
 go_loopw [10] (fun i wr=>∃j:Nat,j≤m∧i=I ((j:Int)-1)∧wr=w.alloc oO) (fun i _=>(intOf i+1).toNat)
 case atStart=>exact⟨m,by omega,rfl,rfl⟩
 case round=>
 obtain⟨j,b6,rfl,rfl⟩:=hrel;rcases w4 j with rfl|qG
 ·go_wp2_with fail;exact WE 4 rfl aQ.out (bh _ _) rfl rfl (by decide)
 obtain⟨k,rfl⟩:∃k,j=k+1:=⟨j-1,by omega⟩;have eM:((k+1:Nat):Int)-1=(k:Int):=by omega
 rw[eM];have jY:(0:Int)≤(k:Int):=by omega
 have Gx:(k:Int)<(m:Int):=by omega
 have kL:k<ms.length:=by rw[bN.out];omega
 obtain⟨q,c,fX,jH,mc⟩:=zg.out.get k kL
 obtain⟨dz,rfl⟩:∃b,p=some ⟨b,0,none⟩:=by
  rcases Fl.out.2 with ⟨_,aF⟩|⟨g,_,_,aI,_⟩
  ·omega
  ·injection aI with aI;exact⟨g,aI⟩
 obtain⟨CZ,aeY⟩:∃S:Ua,(⟨(ms[k]).name.toArray⟩:Ua)=S:=⟨_,rfl⟩;obtain⟨ns,iX⟩:=aq ((ms[k]).b.length);rw[aeY] at fX;rw[iX] at jH;have MH:=ao (fF.out _ (k3 kL));have I0:=ao mc;have U5:=ao iX;have du:(w.alloc oO).cell? ⟨dz,k *2,none⟩=some (aa CZ):=bD (bh _ _) ((Fl.out.cellAt (k *2) (by omega)).trans fX);have dI:(w.alloc oO).cell? ⟨dz,k *2+1,none⟩=some (ad q ns c):=bD (bh _ _) ((Fl.out.cellAt (k *2+1) (by omega)).trans jH);have eo:af (∀Z,an w w Z→ak Z dz (k *2+1) (ad q ns c)):=fun Z cN=>bD cN ((Fl.out.cellAt (k *2+1) (by omega)).trans jH);clear fX jH mc aeY iX;by_cases ya:CZ.toList=S.toList
 case neg=>
  have mA:(CZ.toList==S.toList)=false:=beq_eq_false_iff_ne.2 ya;have k':(CZ.toList !=S.toList)=true:=bne_iff_ne.2 ya;clear ya;go_wp2_with fail;go_round
  ·exact⟨k,by omega,rfl,trivial⟩
  ·(simp[intOf]<;>omega)
 have mA:(CZ.toList==S.toList)=true:=beq_iff_eq.2 ya;have k':(CZ.toList !=S.toList)=false:=by rw[ya];simp
 clear ya;go_wp2_with fail;have hh:af (an w w ((w.alloc oO).alloc (ai (madeCells #[I 0,I 0] (n *2)) n5))):=D5 _ _ _;have ud:af (kh Dh (w.alloc oO).heap.size n ((w.alloc oO).alloc (ai (madeCells #[I 0,I 0] (n *2)) n5))):=.made ⟨by decide,by decide⟩ (cR _ _);have p':=ao (ba aQ.out (bh (w.alloc oO) (ai (madeCells #[I 0,I 0] (n *2)) n5)));rw[show (w.alloc oO).heap.size=w.heap.size+1 from s8 _ _] at ud;change Code.wp _ _ _ _ ((w.alloc oO).alloc (ai (madeCells #[I 0,I 0] (n *2)) n5));generalize (w.alloc oO).alloc (.cells (madeCells #[I 0,I 0] (n *2)) n5)=W0 at hh ud p'⊢;obtain⟨V,jK⟩:=aq (w.heap.size+1);rw[jK] at ud⊢;have aeZ:w.heap.size<V:=by omega
 clear du dI arU jK
 go_loopw [42] (fun i wr=>∃(bM:Nat) (X:aeo),X=wr∧bM≤n∧i=I bM∧af (kh Dh V n X)∧af (an w w X)∧af (X.heap[w.heap.size]?=some oO)) (fun i _=>n -(intOf i).toNat)
 case atStart=>exact⟨0,_,rfl,by omega,rfl,ud.out,hh.out,p'.out⟩
 case round=>
 obtain⟨bM,X,rfl,jE,rfl,cM,eW,Du⟩:=hrel;clear ud hh p';by_cases la:bM<n
 ·have pN:(bM:Int)<(n:Int):=(by omega);obtain⟨b,o,cs,rfl,_,aE,eD⟩:=nt.out (by rw[bd.out];omega);have CV:=eD bM (by rw[bd.out];exact la);obtain⟨v,aS⟩:=aq (cu[bM]'(by rw[bd.out];exact la));have Wz:=iX.out v (by rw[←aS];exact k3 _);rw[aS] at CV;have d0:=bD eW.out (cell_of aE CV);obtain⟨N,D,e,hR⟩:∃N D e,jT v 1000000=(N,D,e):=⟨_,_,_,rfl⟩;have fC:=Ad v 1000000;rw[hR] at fC;have fC:Dh (N,D):=⟨fC.1,fC.2.1⟩;have MN:=ao (n2.Ba v 1000000 (by omega) (by omega) (by omega) (by omega) (N,D,e) (ao hR) X);clear eD aE CV aS hR;go_wp2_with fail;with_reducible refine MN.out.mono ?_
  rintro b3 db ⟨rfl,eF⟩;have pz:=ao (cM.out.below eF);have dO:=ao (eW.out.trans (eF.mono eW.out.size));have fz:=ao (ba Du.out eF);clear d0 eF MN;by_cases uP:e=0
  ·subst uP;obtain⟨u0,u1,_,du,dI,f0⟩:=pz.out.at la;have er:=pz.out.lt;have nL:=ao (pz.out.put la (a:=N) (b:=D) fC);have Am:af (aK (fun b=>b≠V) db ((db.setCell (aj V (bM *2)) (I N)).setCell (aj V (bM *2+1)) (I D))):=(aK.ne _).trans (aK.ne _);clear fC;go_wp2_with fail;have iJ:=ao (Am.out.aM dO.out (k5 aeZ) dO.out.size);have ko:=ao (Am.out.get (qn aeZ) fz.out);go_round<;>first|exact⟨bM+1,_,rfl,by omega,by go_num,nL.out.below (bh _ _),iJ.out.trans ((bh _ _).mono iJ.out.size),ba ko.out (bh _ _)⟩|(simp[intOf]<;>omega)
  ·have my:(((e:Nat):Int) !=0)=true:=(by rw[bne_iff_ne];omega);obtain⟨z0,z1,z2,z3,z4,z5,gZ,gR,fM,z9,j4⟩:=pE fz.out;have rW:=dc fz.out;have Wx:=lt_of_heap fz.out;clear fC;go_wp2_with fail;exact aeX e rfl fz.out dO.out rfl rfl uP
 ·obtain rfl:bM=n:=(by omega);have QH:af (∀Z,an X X Z→Calls Tryz.prog 183 #[ad q ns c,ag V 0 bM bM,I u] Z (Ds Z)):=(fun Z cN=>by have h:=aro (ms[k]).b (ao MH.out.2) q c V bM bM u Z MH.out.1 (ao (c1.fG.aM I0.out (ay.out.trans ((eW.out.mono ay.out.size).trans (cN.mono (cd ay.out.size eW.out.size)))))) (ao (cM.out.below cN));rw[U5.out] at h;exact h);have dI:=eo.out X eW.out;go_wp2_with fail;with_reducible refine (QH.out _ (Below.refl _ _)).mono ?_
  intro e db uO;obtain⟨eF,⟨oM,QG,rfl⟩|⟨ps,pp,cp,rfl,hs⟩⟩:=uO
  ·have fz:=ao (ba Du.out eF);have dO:=ao (eW.out.trans (eF.mono eW.out.size));have my:(((oM:Nat):Int) !=0)=true:=(by rw[bne_iff_ne];omega);obtain⟨z0,z1,z2,z3,z4,z5,gZ,gR,fM,z9,j4⟩:=pE fz.out;have rW:=dc fz.out;have Wx:=lt_of_heap fz.out;clear eF;go_wp2_with fail;exact aeX oM rfl fz.out dO.out rfl rfl QG
  ·have dO:=ao (eW.out.trans (eF.mono eW.out.size));have fz:=ao (ba Du.out eF);have WG:=ao hs;obtain⟨z0,z1,z2,z3,z4,z5,gZ,gR,fM,z9,j4⟩:=pE fz.out;have rW:=dc fz.out;have Wx:=lt_of_heap fz.out;have fP:=lt_of_heap Du.out;clear eF hs QH;go_wp2_with fail;exact arQ (b:=iG) (s:=ps) rfl fz.out dO.out rfl rfl none 0 pp cp rfl rfl (WG.out.mono fun k _ aw=>hN fP aw)
theorem arV(name:ar)(cu:List Int)(nq:Ja)(bK:Nat)(u:Int)(ms:List mo)(eZ:ada)(bx:aev)(D B:Nat)(w0 w:aeo)(dp:af (w.ownsRow D pP 2 eZ ms.length bx))(zg:af (vk w0 ms bx))(ay:af (an w0 w0 w))(x0:ms.length≤1000000000)(fF:af (∀m∈ms,m.b.length≤1000000∧∀b∈m.b,oL b))(nt:af (dd B w nq cu))(eU:cu.length≤1000000000)(iX:af (∀x∈cu,-4611686018427387904≤x∧x≤4611686018427387904)):
  Calls Tryz.prog 118 #[aa ⟨name.toArray⟩,ad nq cu.length bK,I u,eZ] w (yv w):=by
 by_cases hJ:name=[67]∨name=[82]∨name=[79]
 ·exact (Ba name hJ cu nq bK u ms eZ B w nt eU).mono fun e w' h=>⟨_,h⟩
 ·have au:((⟨name.toArray⟩:Ua).toList==[67])=false:=(by rw[PO,fO];exact fun h=>hJ (.inl h));have ax:((⟨name.toArray⟩:Ua).toList==[82])=false:=(by rw[PO,fO];exact fun h=>hJ (.inr (.inl h)));have aA:((⟨name.toArray⟩:Ua).toList==[79])=false:=(by rw[PO,fO];exact fun h=>hJ (.inr (.inr h)));have b9:=ao (fun Z (cN:an w w Z)=>arS name cu nq bK u ms eZ bx D B w0 Z (ao (fY dp.out cN)) zg (ao (ay.out.trans (cN.mono ay.out.size))) x0 fF (ao (nt.out.below cN)) eU iX);have aQ:=ao (cR w oO);obtain⟨S,hS⟩:∃S:Ua,(⟨name.toArray⟩:Ua)=S:=⟨_,rfl⟩;rw[hS] at au ax aA b9⊢;clear hS hJ fF dp zg ay nt iX;go_enter Tryz.func118,Tryz.ntmps118;go_wp2_with fail;have cJ:=ao (bh w oO);with_reducible refine (b9.out _ cJ.out).mono ?_
  rintro e bt ⟨r,ax⟩;cases r with
  |error k=>
   obtain⟨ck,aw,rfl⟩:=ax.no;have dC:=ao (ba aQ.out ck);have dy:=ao (cJ.out.trans (ck.mono cJ.out.size));obtain⟨z0,z1,z2,z3,z4,z5,gZ,gR,fM,z9,j4⟩:=pE dC.out;have rW:=dc dC.out;clear ck b9;go_wp2_with fail;exact arP k rfl dC.out dy.out rfl rfl aw
  |ok x=>
   obtain⟨ck,pl,cl,pp,cp,rfl,hs⟩:=ax.get;have dy:=ao (cJ.out.trans (ck.mono cJ.out.size));have dC:=ao (ba aQ.out ck);have WG:=ao hs;obtain⟨z0,z1,z2,z3,z4,z5,gZ,gR,fM,z9,j4⟩:=pE dC.out;have rW:=dc dC.out;have dx:w.heap.size+1≤(w.alloc oO).heap.size:=(by rw[s8];omega);clear ck hs b9;go_wp2_with fail;exact arR (b:=x.1.b) (s:=x.1.p) (r:=x.2) rfl dC.out dy.out rfl rfl pl cl pp cp rfl rfl (WG.out.mono fun k _ aw=>by omega)
end c1
