/- Lemmas. -/
import Derived.Test.YtfldplmgkeiimaaGreatDoorR37
set_option linter.all false
set_option maxRecDepth 100000
set_option maxHeartbeats 12800000
namespace Go.Proofs.YtfldplmgkeiimaaGreatDoor
abbrev E7:=@Proofs.Tryz.underlying268
namespace dd
open Go.RowKit ef
open ym (h6)
open GM (GQ)
open iS (dH)
abbrev LC:TypeId:=306
abbrev E8(l:List Int):Array Value:= #[I (l.getD 0 0),I (l.getD 1 0),I (l.getD 2 0)]
theorem arz(l:List Int)(v:Int)(h:l.length<3):(E8 l).setIfInBounds l.length (I v)=E8 (l++[v]):=by
 rcases l with _|⟨a,_|⟨b,_|⟨c,l⟩⟩⟩
 ·rfl
 ·rfl
 ·rfl
 ·simp at h;omega
variable{w x:aeo}{k s:Nat}
theorem HK{l:List Int}(h:an w k (E8 l) LC){j:Nat}(cd:j<3):ak w k j (I (l.getD j 0)):=by rcases (show j=0∨j=1∨j=2 by omega) with rfl|rfl|rfl<;>simp[World.cell?,h]
def app(pre:List Int):Except Nat (List Int)→Except Nat (List Int)
 |.error e=>.error e
 |.ok l=>.ok (pre++l)
def x1(s:Nat)(u:Int)(da pre:List Int)(k:Nat):Prop:=pre.length=k∧(∀x∈pre,0≤x∧x≤268435456)∧pU s u da 0=app pre (pU s u (da.drop k) k)
theorem x1.nil (s:Nat) (u:Int) (da:List Int):x1 s u da [] 0:=⟨rfl,fun x h=>absurd h (by simp),by
 rw[tu];cases pU s u da 0<;>rfl⟩
def LD(s:Nat)(u:Int)(da:List Int)(k:Nat):Option Int→Except Nat (List Int)
 |none=>.error 5
 |some g=>if g<0∨(g=0∧s=2∧k<s) then .error 4 else if g.tmod 2≠0 then .error 7 else app [g.tdiv 2] (pU s u (da.drop (k+1)) (k+1))
variable{u a b h hP:Int}{da pre:List Int}
theorem x1.at(h:x1 s u da pre k)(ay:k<da.length):pU s u da 0=app pre (LD s u da k (h6 da[k] u)):=by
 rw[h.2.2,lD ay]
 congr 1
theorem x1.step(h:x1 s u da pre k)(ay:k<da.length){g:Int}(aF:h6 da[k] u=some g)(av:¬(g<0∨(g=0∧s=2∧k<s)))(az:g.tmod 2=0)(ax:g≤536870912):x1 s u da (pre++[g.tdiv 2]) (k+1):=by
 refine⟨by rw[iv,h.1];rfl,fun x hx=>?_,?_⟩
 ·rcases List.mem_append.1 hx with hx|hx
  ·exact h.2.1 x hx
  ·rw[List.mem_singleton.1 hx];rw[Hs (by omega)];omega
 ·rw[h.at ay,aF];unfold LD;simp only;rw[aW av,aW (by simp[az])];cases pU s u (da.drop (k+1)) (k+1)<;>simp[app]
theorem x1.fin(h:x1 s u da pre da.length):pU s u da 0=.ok pre:=by rw[h.2.2,List.drop_length];simp[pU,app]
def nZ(bz:au):Nat:=if bz=[67] then 1 else 2
def E9(bz:au)(a b:Int):dm:=if bz=[67] then IJ a else if bz=[82] then Rk a b else FO a b
variable{bz:au}
theorem V1(h:bz=[67]∨bz=[82]∨bz=[79])(da:List Int)(u:Int)(ms:List lI):oe bz da u ms=if da.length≠nZ bz∧da.length≠nZ bz+1 then .error 4 else match pU (nZ bz) u da 0 with
  |.error e=>.error e
  |.ok g=>.ok (Bl (E9 bz (g.getD 0 0) (g.getD 1 0)) (g.getD (nZ bz) 0),if bz=[67]∧g.getD 1 0=0 then g.getD 0 0 else 0):=by
 unfold oe;rw[bb h];rcases h with rfl|rfl|rfl<;>simp[nZ,E9]<;>rfl
abbrev P5:List Value:=[I 0,I 0,I 0,I 0,I 0,I 0,I 0,I 0,fg,fg,I 0]
structure x2(w:aeo)(pre:List Int)(x:aeo):Prop where
 aX:ao w w x
 r:an x w.heap.size (nX iz fg fg 0) nu
 h:an x (w.heap.size+1) (E8 pre) LC
theorem x2.below{y:aeo}(h:x2 w pre x)(ax:ao x x y):x2 w pre y:=⟨h.aX.trans (ax.mono h.aX.size),aU h.r ax,aU h.h ax⟩
theorem x2.step(h:x2 w pre x){v:Int}(ay:pre.length=k)(aC:k<3):x2 w (pre++[v]) (x.setCell (aj (w.heap.size+1) k) (I v)):=by subst ay;refine⟨h.aX.setCell (p:=⟨w.heap.size+1,pre.length,none⟩) (mv _) _,(iK (by omega)).trans h.r,?_⟩;rw[←arz pre v aC];exact dt _ h.h
theorem xH.err{w':aeo}{r:Except Nat (eg×Int)}{v LF:ada}(hr: .error k=r)(ay:k≠0)(ax:ao w w w')(aY:v=TQ)(arA:LF=I (k:Int)):xH w r (ab (.tuple #[v,LF])) w':=by subst hr aY arA;exact⟨ax,ay,rfl⟩
theorem V2(h:bz=[67]∨bz=[82]∨bz=[79]){ms:List lI}(hn:¬(da.length≠nZ bz∧da.length≠nZ bz+1)){e:Nat}(he:pU (nZ bz) u da 0=.error e): .error e=oe bz da u ms:=by rw[V1 h,aW hn,he]
theorem getD_in(h:∀x∈pre,0≤x∧x≤268435456)(j:Nat):0≤pre.getD j 0∧pre.getD j 0≤268435456:=by
 rw[Gt];cases cd:pre[j]? with
 |none=>simp
 |some x=>exact h x (List.mem_of_getElem? cd)
theorem arB(_:nZ bz=s)(a b:Int):∃K,E9 bz a b=K:=⟨_,rfl⟩
variable{K:dm}
theorem arC(hc:bz=[67]∨bz=[82]∨bz=[79]){ms:List lI}(hn:¬(da.length≠nZ bz∧da.length≠nZ bz+1))(hs:nZ bz=s)(hf:pU s u da 0=.ok pre)(ha:pre.getD 0 0=a)(ax:pre.getD 1 0=b)(aK:pre.getD s 0=h)(hK:E9 bz a b=K)(hr:(if bz=[67]∧b=0 then a else 0)=hP): .ok (Bl K h,hP)=oe bz da u ms:=by rw[V1 hc,aW hn,hs,hf];simp only;rw[ha,ax,aK,hK,hr]
theorem arD{r:Except Nat (eg×Int)}(aS:h=0)(hf: .ok (Bl K h,hP)=r): .ok ((⟨K,.nil⟩:eg),hP)=r:=by rw[←hf,aS];rfl
theorem x2.keep{y:aeo}{T:Nat}(h:x2 w pre x)(ay:aP (fun b=>b≠T) x y)(fC:w.heap.size+1<T):x2 w pre y:=⟨ay.aX h.aX (by omega) h.aX.size,ay.get (by omega) h.r,ay.get (by omega) h.h⟩
theorem xH.yes{w':aeo}{s:eg}{r:Except Nat (eg×Int)}{v LF:ada}{pl:Ja}{cl:Nat}{pp:Ja}{cp:Nat}(hr: .ok (s,hP)=r)(ax:ao w w w')(aY:v=.agg (nX s.b (ad pl s.b.l.length cl) (ad pp s.p.len cp) hP))(ay:LF=I 0)(hs:dE (fun k=>w.heap.size≤k) w' pl cl pp cp s):xH w r (ab (.tuple #[v,LF])) w':=by subst hr aY ay;exact⟨ax,_,_,_,_,rfl,hs⟩
abbrev aeA(b:dm)(jj bQ:ada)(r:Int):List Value:=[I b.k,I b.a.1,I b.a.2,I b.b.1,I b.b.2,I b.c.1,I b.c.2,I b.r,jj,bQ,I r]
abbrev CF(b:dm)(jj:ada)(h:Int):Obj:=.cells #[U true,I b.k,I b.a.1,I b.a.2,I b.b.1,I b.b.2,I b.c.1,I b.c.2,I b.r,jj,fg,U false,I 1,I 0,I 0,I 0,I 0,I 0,I 0,I h,fg,fg] eP
theorem arE{r:Except Nat (eg×Int)}(aS:0<h)(hf: .ok (Bl K h,hP)=r): .ok ((⟨zB,.cons true K .nil (.cons false (rj (0,0) h) .nil .nil)⟩:eg),hP)=r:=by rw[←hf];unfold Bl;rw[bb aS]
theorem arF(hs:nZ bz=s)(ax:pre.getD 1 0=b)(aK:pre.getD s 0=h)(aS:¬h=0)(hx:bz=[67]∧b=0):False:=by obtain⟨rfl,rfl⟩:=hx;subst hs;exact aS (aK.symm.trans ax)
theorem arG(hs:nZ bz=s)(ax:pre.getD 1 0=b)(aK:pre.getD s 0=h)(a:Int):∃r,(if bz=[67]∧b=0 then a else 0)=r∧(h≠0→0=r):=⟨_,rfl,fun aS=>by rw[aW (fun hx=>arF hs ax aK aS hx)]⟩
theorem arH{S:afp}{g cl:Nat}{pl:Ja}(hp:w.heap[g]?=some (CF K (ad pl K.l.length cl) h))(hS:S g)(hs:dE S w pl cl none 0 ⟨K,.nil⟩):dE S w none 0 (some (aj g 0)) 2 ⟨zB,.cons true K .nil (.cons false (rj (0,0) h) .nil .nil)⟩:=
 ⟨.nil _ _ _,⟨show 2≤n9 by decide,fun _=>⟨g,0,_,rfl,hS,hp,ds.mk rfl hs (ds.mk (pl:=none) (cl:=0) (pp:=none) (cp:=0) rfl (.bare _ _ _ _ _ _ _ rfl) trivial)⟩⟩,bx _,bx _⟩
theorem aeB(_:nZ [67]=s):True:=trivial
theorem arI(h:E9 [67] a b=K)(w:aeo):Calls Tryz.prog 183 #[I a] w (CE w K):=h ▸ arw a w
theorem arJ(h:E9 [82] a b=K)(ha:0≤a∧a≤268435456)(ax:0≤b∧b≤268435456)(w:aeo):Calls Tryz.prog 184 #[I a,I b] w (CE w K):=h ▸ ary a b ⟨ha.1,by omega⟩ ⟨ax.1,by omega⟩ w
theorem arK(h:E9 [79] a b=K)(ha:0≤a∧a≤268435456)(ax:0≤b∧b≤268435456)(w:aeo):Calls Tryz.prog 185 #[I a,I b] w (CE w K):=h ▸ arx a b ⟨ha.1,by omega⟩ ⟨ax.1,by omega⟩ w
theorem arL(bz:au)(Ab:bz=[67]∨bz=[82]∨bz=[79])(da:List Int)(nq:Ja)(bn:Nat)(u:Int)(ms:List lI)(e4:ada)(B:Nat)(w:aeo)(wZ:af (dH B w nq da))(gj:da.length≤1000000000):
    Calls Tryz.prog 142 #[aa ⟨bz.toArray⟩,ad nq da.length bn,I u,e4] w (xH w (oe bz da u ms)):=by
  obtain⟨n,hn⟩:∃n,da.length=n:=⟨_,rfl⟩;have bd:=aq hn;rw[hn] at gj⊢;clear hn;obtain⟨s,hs⟩:∃s,nZ bz=s:=⟨_,rfl⟩;have db:=aq hs;have N0:=aq Ab;have aeC:s=1∨s=2:=(by rw[←hs];unfold nZ;split<;>simp);clear hs;by_cases hlen:n=s∨n=s+1
  case neg=>
    have aO:af (.error 4=oe bz da u ms):=by show _=_;rw[V1 N0.out,bb (by rw[bd.out,db.out];omega)]
    have aA:(bz=[67]→((n:Int) !=1)=true∧((n:Int) !=2)=true)∧(bz≠[67]→((n:Int) !=2)=true∧((n:Int) !=3)=true):=by
      have hs:=db.out;unfold nZ at hs;refine⟨fun h=>?_,fun h=>?_⟩
      · rw[bb h] at hs
        constructor<;>(rw[wK];omega)
      · rw[aW h] at hs
        constructor<;>(rw[wK];omega)
    clear aeC db N0;rcases Ab with rfl|rfl|rfl
    all_goals
      first|have l:=aA.1 rfl|have l:=aA.2 (by decide)
      obtain⟨ug,gL⟩:=l;go_enter Tryz.func142,Tryz.ntmps142;go_wp2_with fail;exact dU (o1 rfl _ _ w.heap.size _ _ _ _ rfl (bY w (ai (nX iz fg fg 0) nu)) E7 rfl (by kernel_rfl)) rfl (.err aO.out (by decide) (a6 _ _) rfl rfl)
  have yz:n≤3:=(by omega);have hN:af (¬(da.length≠nZ bz∧da.length≠nZ bz+1)):=by show ¬_;rw[bd.out,db.out];omega
  have aA:(bz=[67]→(((n:Int) !=1)=false∨((n:Int) !=1)=true∧((n:Int) !=2)=false)∧s=1)∧(bz≠[67]→(((n:Int) !=2)=false∨((n:Int) !=2)=true∧((n:Int) !=3)=false)∧s=2):=by
    have hs:=db.out;unfold nZ at hs;refine⟨fun h=>?_,fun h=>?_⟩
    · rw[bb h] at hs
      subst hs;refine⟨?_,rfl⟩;rcases hlen with rfl|rfl
      · exact .inl rfl
      · exact .inr ⟨rfl,rfl⟩
    · rw[aW h] at hs
      subst hs;refine⟨?_,rfl⟩;rcases hlen with rfl|rfl
      · exact .inl rfl
      · exact .inr ⟨rfl,rfl⟩
  clear hlen;rcases Ab with rfl|rfl|rfl
  all_goals
    first|have l:=aA.1 rfl|have l:=aA.2 (by decide)
    have dn:=aq l.1;have ke:=aq l.2;clear aA aeC l;go_enter Tryz.func142,Tryz.ntmps142;go_upto_region 9 with fail;go_cut [41] (fun a dw=>a=U false∧dw=w.alloc (ai (nX iz fg fg 0) nu))
    case first=>
      rcases dn.out with l|⟨l,gL⟩
      all_goals
        go_wp2_with fail;go_meet;exact⟨rfl,rfl⟩
    case rest=>
      obtain⟨rfl,rfl⟩:=hcut;have pD:af (x2 w [] ((w.alloc (ai (nX iz fg fg 0) nu)).alloc (ai (E8 []) LC))):=(by exact⟨pz _ _ _,aU (bY _ _) (a6 _ _),vd _ _ _⟩);have Ay:af (x1 s u da [] 0):=.nil _ _ _;go_wp2_with fail;change Code.wp _ _ _ _ ((w.alloc (ai (nX iz fg fg 0) nu)).alloc (ai (E8 []) LC));generalize (w.alloc (ai (nX iz fg fg 0) nu)).alloc (.cells (E8 []) LC)=W0 at pD⊢
      go_loopw [45] (fun i wr=>∃(k:Nat) (pre:List Int) (aM:aeo),aM=wr∧k≤n∧i=I k∧af (x2 w pre aM)∧af (x1 s u da pre k)) (fun i _=>n -(intOf i).toNat)
      case atStart=>exact⟨0,[],_,rfl,by omega,rfl,pD.out,Ay.out⟩
      case round=>
      obtain⟨k,pre,aM,rfl,ay,rfl,jg,bT⟩:=hrel;clear pD Ay;by_cases uQ:k<n
      · have qP:(k:Int)<(n:Int):=by omega
        have qi:(0:Int)≤(k:Int):=(by omega);have j':k<da.length:=(by rw[bd.out];exact uQ);obtain⟨b,o,cs,aR,_,aK,iw⟩:=wZ.out (by omega);subst aR;obtain⟨x,hx⟩:∃x,da[k]=x:=⟨_,rfl⟩;have TT:aM.cell? ⟨b,o+k,none⟩=some (I x):=cell_of (aU aK jg.out.aX) (by rw[←hx];exact iw k j');have cR:af (∀h:k<da.length,da[k]'h=x):=fun _=>hx;have adB:=aq j';obtain⟨HL,P6⟩:∃HL,h6 x u=HL:=⟨_,rfl⟩;have e0:=aq P6;have b0:af ((h6 x u).getD 0=HL.getD 0∧(h6 x u).isSome=HL.isSome):=(by show _∧_;rw[P6];exact⟨rfl,rfl⟩);have dr:af (pU s u da 0=app pre (LD s u da k HL)):=(by have h:=bT.out.at j';rw[hx,P6] at h;exact h);clear iw aK hx j' P6;go_wp2_with fail;with_reducible refine (GQ x u _ _ b0 _).mono ?_
        rintro e bI ⟨rfl,rfl⟩;clear TT b0;cases HL with
        |none=>
          have aO:af (.error 5=oe _ da u ms):=V2 (by decide) hN.out (by rw[db.out];exact dr.out);obtain⟨z0,z1,z2,z3,z4,z5,ns,mN,mm,z9,lv⟩:=pZ jg.out.r;have oJ:=cJ jg.out.r;go_wp2_with fail;refine FW (P:=bodyPost _ _ _ _ _) P5 jg.out.r rfl fun e5 g1 g2=>?_;exact dU (o1 rfl _ _ w.heap.size _ _ _ _ rfl g1 E7 rfl (by kernel_rfl)) rfl (.err aO.out (by decide) (g2.aX jg.out.aX (bx _) jg.out.aX.size) rfl rfl)
        |some g=>
          have Jw:=aaJ e0.out;by_cases x3:g.tmod 2=0∧¬(g<0∨(g=0∧s=2∧k<s))
          · have mF:=aq (bT.out.step adB.out (by rw[cR.out];exact e0.out) x3.2 x3.1 Jw.2)
            have l6:k<3:=(by omega);have l0:¬g<0:=fun h=>x3.2 (.inl h);have axQ:wrap64 (g.tdiv 2)=g.tdiv 2:=IntWalk.wrap64_in _ (by rw[Hs (by omega)];omega);have cA:=aq (jg.out.step (v:=g.tdiv 2) bT.out.1 l6);have vE:(g%2 !=0)=false:=(by rw[bne_eq_false_iff_eq,←By (by omega)];exact x3.1);have v0:=HK jg.out.h l6;have aly:=cJ jg.out.h k;have vQ:g=0→s=2→¬(k:Int)<2:=fun aS az aC=>x3.2 (.inr ⟨aS,az,by omega⟩);clear x3 Jw;by_cases BV:g=0
            · subst BV
              first|have fs:=vQ rfl ke.out|skip
              clear vQ;go_wp2_with fail;go_round<;>first|exact⟨k+1,_,_,rfl,by omega,by go_num,cA.out,mF.out⟩|(simp[intOf]<;>omega)
            · have BT:(g==0)=false:=beq_eq_false_iff_ne.2 BV
              clear vQ;go_wp2_with fail;go_round
              · exact⟨k+1,_,_,rfl,by omega,by go_num,cA.out,mF.out⟩
              · (simp[intOf]<;>omega)
          · obtain⟨z0,z1,z2,z3,z4,z5,ns,mN,mm,z9,lv⟩:=pZ jg.out.r
            have oJ:=cJ jg.out.r;by_cases fb:g<0∨(g=0∧s=2∧k<s)
            · have aO:af (.error 4=oe _ da u ms):=V2 (by decide) hN.out (by rw[db.out,dr.out];unfold LD;simp only;rw[bb fb];rfl)
              clear x3;rcases fb with l0|⟨rfl,uf,zL⟩
              · go_wp2_with fail
                refine FW (P:=bodyPost _ _ _ _ _) P5 jg.out.r rfl fun e5 g1 g2=>?_;exact dU (o1 rfl _ _ w.heap.size _ _ _ _ rfl g1 E7 rfl (by kernel_rfl)) rfl (.err aO.out (by decide) (g2.aX jg.out.aX (bx _) jg.out.aX.size) rfl rfl)
              · first
                  |(exfalso;have:=ke.out;omega)
                  | (have fs:(k:Int)<2:=by omega
                     go_wp2_with fail;refine FW (P:=bodyPost _ _ _ _ _) P5 jg.out.r rfl fun e5 g1 g2=>?_;exact dU (o1 rfl _ _ w.heap.size _ _ _ _ rfl g1 E7 rfl (by kernel_rfl)) rfl (.err aO.out (by decide) (g2.aX jg.out.aX (bx _) jg.out.aX.size) rfl rfl))
            · have aO:af (.error 7=oe _ da u ms):=V2 (by decide) hN.out (by rw[db.out,dr.out];unfold LD;simp only;rw[aW fb,bb (fun h=>x3 ⟨h,fb⟩)];rfl)
              have l0:¬g<0:=fun h=>fb (.inl h);have vE:(g%2 !=0)=true:=(by rw[wK,←By (by omega)];exact fun h=>x3 ⟨h,fb⟩);have BT:(g==0)=false:=beq_eq_false_iff_ne.2 fun h=>x3 ⟨by rw[h];rfl,fb⟩;clear x3 fb;go_wp2_with fail;refine FW (P:=bodyPost _ _ _ _ _) P5 jg.out.r rfl fun e5 g1 g2=>?_;exact dU (o1 rfl _ _ w.heap.size _ _ _ _ rfl g1 E7 rfl (by kernel_rfl)) rfl (.err aO.out (by decide) (g2.aX jg.out.aX (bx _) jg.out.aX.size) rfl rfl)
      · obtain rfl:n=k:=by omega
        have h9:pU s u da 0=.ok pre:=(by have h:=bT.out;rw[←bd.out] at h;exact h.fin);have y1:=fun j=>getD_in bT.out.2.1 j;obtain⟨a,ha⟩:∃a,pre.getD 0 0=a:=⟨_,rfl⟩;obtain⟨b,ax⟩:∃b,pre.getD 1 0=b:=⟨_,rfl⟩;obtain⟨h,aK⟩:∃h,pre.getD s 0=h:=⟨_,rfl⟩;have V3:=y1 0;have Hg:=y1 1;have arM:=y1 s;rw[ha] at V3;rw[ax] at Hg;rw[aK] at arM;obtain⟨K,hK⟩:=arB db.out a b;first|have bC:=aq (fun Z=>arI hK Z)|have bC:=aq (fun Z=>arJ hK V3 Hg Z)|have bC:=aq (fun Z=>arK hK V3 Hg Z)
        have cQ:=aq hK;obtain⟨hP,jX,mY⟩:=arG db.out ax aK a;have eO:=aq mY;have aO:=aq (arC (ms:=ms) (by decide) hN.out db.out h9 ha ax aK hK jX);have EE:=aq jX;have aeD:=aq aK;have e7:=aq ax;have cy:=aq ha;have aQ:=HK jg.out.h (j:=0) (by decide);have aN:=HK jg.out.h (j:=1) (by decide);have cs:=HK jg.out.h (j:=s) (by have:=ke.out;omega);rw[ha] at aQ;rw[ax] at aN;rw[aK] at cs;clear h9 y1 ha ax aK hK jX mY uQ;first|obtain rfl:s=1:=ke.out|obtain rfl:s=2:=ke.out
        first|(have KS:=aeD.out.symm.trans e7.out;clear aN KS;have aN:=aQ)|skip
        go_upto_region 26 with fail;have LG:af ((aM.alloc (ai (nX iz fg fg 0) nu)).heap[aM.heap.size]?=some (.cells (nX iz fg fg 0) nu)):=bY _ _;have kd:=aq (jg.out.below (a6 aM (ai (nX iz fg fg 0) nu)));have E':af (w.heap.size+1<aM.heap.size):=lt_of_heap jg.out.h;have d0:=bV (a6 aM (ai (nX iz fg fg 0) nu)) aQ;have d1:=bV (a6 aM (ai (nX iz fg fg 0) nu)) aN;have hV:=bV (a6 aM (ai (nX iz fg fg 0) nu)) cs;clear aQ aN cs jg;change Code.wp _ _ _ _ (aM.alloc (ai (nX iz fg fg 0) nu));generalize aM.alloc (.cells (nX iz fg fg 0) nu)=b7 at LG kd d0 d1 hV⊢;obtain⟨T,fC⟩:∃T,aM.heap.size=T:=⟨_,rfl⟩;rw[fC] at LG E'⊢;clear fC;go_wp2_with fail;with_reducible refine (bC.out _).mono ?_
        rintro e cN ⟨dF,pl,cl,rfl,BP⟩;have s3:=aq (aU LG.out dF);have sB:=aq (kd.out.below dF);have aeE:af (T<b7.heap.size):=lt_of_heap LG.out;have aeF:=aq BP;clear dF LG kd BP d0 d1 hV bC;have d0:=HK sB.out.h (j:=0) (by decide);obtain⟨z0,z1,z2,z3,z4,z5,ns,mN,mm,z9,lv⟩:=pZ s3.out;have oJ:=cJ s3.out;first|(have arN:=aeB db.out;go_upto_region 29 with fail)|go_upto_region 35 with fail
        refine ahx (P:=Code.wp _ _ _ _) (lF K (ad pl K.l.length cl) fg) s3.out (show 10≤11 by decide) fun cU g1 g2=>?_;have vP:af (cU.heap[T]?=some (.cells (nX K (ad pl K.l.length cl) fg 0) nu)):=g1;have wg:=aq (sB.out.keep g2 E'.out);have r3:af (dE (fun k=>w.heap.size+2≤k∧k≠T) cU pl cl none 0 ⟨K,.nil⟩):=((aeF.out.keep (g2.mono fun k _ ay=>by have:=aeE.out;omega)).mono fun k _ ay=>by have:=aeE.out;have:=E'.out;omega);clear g1 g2 z0 z1 z2 z3 z4 z5 ns mN mm z9 lv oJ d0 s3 sB aeF;obtain⟨z0,z1,z2,z3,z4,z5,ns,mN,mm,z9,lv⟩:=pZ vP.out;have oJ:=cJ vP.out;have d0:=HK wg.out.h (j:=0) (by decide);rw[cy.out] at d0;by_cases P7:h=0
        · have fT:=aq (arD P7 aO.out)
          subst P7;obtain⟨eT,axR⟩:∃W:aeo,W=cU:=⟨_,rfl⟩
          first
            | (have arN:=aeB db.out
               go_upto_region 35 with fail;refine ahw (P:=Code.wp _ _ _ _) vP.out fun e6 g3 g4=>?_;have jX:=EE.out;rw[bb (And.intro (by trivial) (e7.out.symm.trans aeD.out))] at jX;have aeG:af (e6.heap[T]?=some (.cells (nX K (ad pl K.l.length cl) fg hP) nu)):=(by show _=_;rw[←jX];exact g3);have wm:=aq (wg.out.keep g4 E'.out);have y5:=aq (r3.out.keep (g4.mono fun k _ ay=>ay.2)))
            | (have jX:=EE.out
               rw[aW (fun h=>absurd h.1 (by decide))] at jX;have aeG:af (cU.heap[T]?=some (.cells (nX K (ad pl K.l.length cl) fg hP) nu)):=(by show _=_;rw[←jX];exact vP.out);have wm:=wg;have y5:=r3)
          clear z0 z1 z2 z3 z4 z5 ns mN mm z9 lv oJ d0 vP wg r3;obtain⟨t0,t1,t2,t3,t4,t5,t6,t7,t8,t9,t10⟩:=pZ aeG.out;obtain⟨z0,z1,z2,z3,z4,z5,ns,mN,mm,z9,lv⟩:=pZ wm.out.r;have oJ:=cJ wm.out.r;go_wp2_with fail;refine FW (P:=bodyPost _ _ _ _ _) (aeA K (ad pl K.l.length cl) fg hP) wm.out.r rfl fun e5 g5 g6=>?_;exact dU (o1 rfl _ _ w.heap.size _ _ _ _ rfl g5 E7 rfl (by kernel_rfl)) rfl (.yes fT.out (g6.aX wm.out.aX (bx _) wm.out.aX.size) rfl rfl ((y5.out.keep (g6.mono fun k _ ay=>by omega)).mono fun k _ ay=>by omega))
        · have DE:(h==0)=false:=beq_eq_false_iff_ne.2 P7
          have A4:0<h:=(by omega);have fT:=aq (arE A4 aO.out);have rz:=aq (eO.out P7);have Bs:=lt_of_heap vP.out;go_upto_region 37 with fail;refine XF (P:=fun X=>Code.wp _ _ _ _ (X.alloc (CF K (ad pl K.l.length cl) h))) (lF zB fg (ag cU.heap.size 0 2 2)) vP.out (show 10≤11 by decide) fun eT g3 g4 gs=>?_;have aeH:af ((eT.alloc (CF K (ad pl K.l.length cl) h)).heap[cU.heap.size]?=some (CF K (ad pl K.l.length cl) h)):=(by show _=_;rw[←gs];exact bY _ _);have pG:=aq ((wg.out.keep g4 E'.out).below (a6 eT (CF K (ad pl K.l.length cl) h)));have Cf:=aq ((r3.out.keep (g4.mono fun k _ ay=>ay.2)).below (a6 eT (CF K (ad pl K.l.length cl) h)));have aeI:af ((eT.alloc (CF K (ad pl K.l.length cl) h)).heap[T]?=some (.cells (nX zB fg (ag cU.heap.size 0 2 2) 0) nu)):=aU g3 (a6 _ _);have aeJ:af (T<cU.heap.size):=Bs;clear g3 g4 gs z0 z1 z2 z3 z4 z5 ns mN mm z9 lv oJ d0 Bs vP wg r3;generalize eT.alloc (CF K (ad pl K.l.length cl) h)=e6 at aeH pG Cf aeI⊢;obtain⟨t0,t1,t2,t3,t4,t5,t6,t7,t8,t9,t10⟩:=pZ aeI.out;obtain⟨z0,z1,z2,z3,z4,z5,ns,mN,mm,z9,lv⟩:=pZ pG.out.r;have oJ:=cJ pG.out.r;go_wp2_with fail;refine FW (P:=bodyPost _ _ _ _ _) (aeA zB fg (ag cU.heap.size 0 2 2) 0) pG.out.r rfl fun e5 g5 g6=>?_;rw[←rz.out] at fT;exact dU (o1 rfl _ _ w.heap.size _ _ _ _ rfl g5 E7 rfl (by kernel_rfl)) rfl (.yes (pp:=some ⟨cU.heap.size,0,none⟩) (cp:=2) (pl:=none) (cl:=0) fT.out (g6.aX pG.out.aX (bx _) pG.out.aX.size) rfl rfl (arH (g6.get (by have:=aeJ.out;have:=E'.out;omega) aeH.out) (by have:=aeJ.out;have:=E'.out;omega) ((Cf.out.keep (g6.mono fun k _ ay=>by omega)).mono fun k _ ay=>by omega)))
end dd
namespace dd
open Go.RowKit ef
open ct (C k2)
open iS (dH)
def aeK(t:au):Bool:=decide (t=[67])||(decide (t=[82])|| decide (t=[79]))
def P8(c:C):Bool:=decide (Es c.k c.n)&&(decide (c.bX.length≤1000000)&&(c.bX.all (fun x=>decide (-4611686018427387904≤x)&&decide (x≤4611686018427387904))&&(decide (c.x.length≤1000000)&&(decide (c.y.length≤1000000)&&(decide (c.i.length≤1000000)&&(decide (c.j.length≤1000000)&&(decide (c.k≠10)|| aeK c.t)))))))
theorem aeL{c:C}(h:P8 c=true):KO c∧abB c:=by
 unfold P8 at h;simp only[jh,jR,HZ,Bb] at h;obtain⟨av,az,aC,bt,cr,c4,ez,eS⟩:=h;refine⟨⟨av,by omega,aC,fun i=>?_⟩,fun ay w0 Z B nq et u ms hn arO e4 bB ax _ _ _=>?_⟩
 ·unfold nW;split<;>omega
 ·refine arL c.t ?_ c.bX nq et u ms e4 B arO (aq (hn.below ax)) (by omega);rcases eS with eS|eS
  ·exact absurd ay eS
  ·unfold aeK at eS;simpa using eS
theorem HM{S:Ua}{br:Int}(hs:S.size≤1000000)(h:(k2 S.data.toList).1.all (fun x=>P8 x.2)=true)(aA:(k2 S.data.toList).1.length≤500000):AD S br:=
 ⟨hs,⟨fun x hx=>(aeL (List.all_eq_true.1 h x hx)).1,xQ.of _ fun c hc=>by obtain⟨x,hx,rfl⟩:=List.mem_map.1 hc;exact (aeL (List.all_eq_true.1 h x hx)).2⟩,aA⟩
end dd
namespace dd
open Go.RowKit ef
open Mem (hI)
theorem arP:wi ⟨-2,-2,4,1,1,0⟩ [] 0 1 2 3=true:=by decide+kernel
theorem aeM:wi ⟨-2,-2,4,1,1,0⟩ [⟨⟨#[68,49,48,42]⟩,9,0,0,255,false⟩] 0 1 2 3=true:=by decide+kernel
theorem aeN:jx [68,49,48,42] 10=([],0,4):=by decide+kernel
theorem arQ:(ct.k2 [68,49,48,42]).1.all (fun x=>P8 x.2)=true:=by decide+kernel
theorem arR:(ct.k2 [68,49,48,42]).1.length≤500000:=by decide+kernel
theorem arS:VA 10 [⟨⟨#[68,49,48,42]⟩,9,0,0,255,false⟩]:=by intro y hy;rw[List.mem_singleton.1 hy];refine⟨rfl,HM (by decide) arQ arR,?_⟩;show ∀x∈(jx [68,49,48,42] 10).1,_;rw[aeN];exact fun x hx=>absurd hx (by simp)
theorem arU:nA ⟨-2,-2,4,1,1,0⟩ 10 [] 0 (lV 1 2 3 ((1:Int).toNat *(1:Int).toNat)) (max 0 (min 10 100000000))=.ok [(65536,65536),(131072,131072),(196608,196608)]:=by rfl
theorem arV:nA ⟨-2,-2,4,1,1,0⟩ 10 [⟨⟨#[68,49,48,42]⟩,9,0,0,255,false⟩] 0 (lV 1 2 3 ((1:Int).toNat *(1:Int).toNat)) (max 0 (min 10 100000000))=.error (1,0,0,4):=by rw[AO];show wj _ _ _ _ _ _ (ny _ _ _ (jx [68,49,48,42] 10))=_;rw[aeN];rfl
variable{w w' w0:aeo}{q:Ja}
theorem arW{B n c:Nat}{l:au}{xs:aev}(h:w.ownsRow B 5 1 (ad q n c) n xs)(hx:xs=l.map fun b=>.int .u8 (b.toNat:Int)):hI w q l:=by
 have aA:l.length=n:=by have:=h.1;rw[hx,gO] at this;omega
 rcases h.2 with ⟨a7,bf⟩|⟨g,cap,cur,a7,_⟩
 ·have:l=[]:=mT (by omega);subst this;exact .nil _ _
 ·injection a7 with a7 _ _;subst a7;refine hI.of fun i hi=>?_;have:=h.cellAt i (by omega);rw[j7,this,hx,xb,mx hi];rfl
theorem arX(W H:Int)(c:Bool)(p q:Ja)(n m cp uF:Nat)(l:au)(hn:af (n=l.length))(hm:af (m=l.length))(w:aeo)(hp:hI w p l)(aR:hI w q l):
  Calls Tryz.prog 21 #[.agg #[I W,I H,U c,ad p n cp],.agg #[I W,I H,U c,ad q m uF]] w fun e w'=>e=ab (U true)∧ao w w w':=by
 have tz:ao w w ((w.alloc (ai (#[I W,I H,U c,ad p n cp]) jO)).alloc (ai (#[I W,I H,U c,ad q m uF]) jO)):=((Below.refl _ _).alloc (bx _) _).alloc (by simp) _;have s1:=(hp.below tz).str (P:=Tryz.prog) 52 5 9 Cn O8 O9 n cp hn.out;have s2:=(aR.below tz).str (P:=Tryz.prog) 52 5 9 Cn O8 O9 m uF hm.out;have aI:=aq tz;clear tz hp aR;go_enter Tryz.func21,Tryz.ntmps21;go_wp2_with fail;go_ret;exact⟨rfl,aI.out⟩
variable{eI eM:Int}{e:Ending}
theorem Cz.aX{T:Except (Int×Int×Int×Int) (List jr)}(h:Cz w eI eM T e w'):ao w w w':=h.1
theorem Cz.yes{ts:List jr}(h:Cz w eI eM (.ok ts) e w'):∃q cp,e=ab (.tuple #[.agg #[I eI,I eM,U true,ad q ts.length cp],lU 0 0 0 0])∧w'.ownsRow w.heap.size 5 1 (ad q ts.length cp) ts.length (ts.map fun t=>.int .u8 (rn t)):=h.2
theorem Cz.no{a b c d:Int}(h:Cz w eI eM (.error (a,b,c,d)) e w'):e=ab (.tuple #[.agg #[I 0,I 0,U false,J 0],lU a b c d]):=h.2
theorem Lm.aX{r:zc}(h:Lm w r e w'):ao w w w':=h.1
theorem Lm.no{a b c d m:Int}(h:Lm w ⟨none,a,b,c,d,m⟩ e w'):e=ab (.tuple #[J 0,lU a b c d]):=h.2
theorem Fa{b:Nat}{t:Ua}{r g l a:Int}{c:Bool}(h:an w b (#[aa t,I r,I g,I l,I a,U c]) c8):nY (fun _=>True) w (some (aj b 0)) [⟨t,r,g,l,a,c⟩]:=by
 refine⟨by show 1≤1000000000;decide,fun _=>⟨b,0,_,rfl,trivial,h,fun i hi=>?_⟩⟩;have:i=0:=by simpa using hi
 subst this;rfl
theorem LH(w:aeo):nY (fun _=>True) w none []:=⟨by decide,fun h=>absurd h (by decide)⟩
structure Fb(w0:aeo)(e' F:Nat)(q:Ja)(cp:Nat)(x:aeo):Prop where
 aX:ao w0 w0 x
 gG:an x e' (#[I 1,I 1,U true,ad q 3 cp]) jO
 eJ:an x F (#[I 0,I 0,I 0,I 0]) eN
 row:∃B,x.ownsRow B 5 1 (ad q 3 cp) 3 [.int .u8 1,.int .u8 2,.int .u8 3]
variable{cp:Nat}
theorem Fb.below{e' F:Nat}{x y:aeo}(h:Fb w0 e' F q cp x)(ax:ao x x y):Fb w0 e' F q cp y:=⟨h.aX.trans (ax.mono h.aX.size),aU h.gG ax,aU h.eJ ax,by obtain⟨B,h⟩:=h.row;exact⟨B,gC h ax⟩⟩
theorem Fb.set{e' F tg:Nat}{x:aeo}(h:Fb w0 e' F q cp x){cs:ajv}(Fc:an x tg cs iX)(arY:w0.heap.size≤tg)(i:Nat)(u:ada):Fb w0 e' F q cp (x.setCell (aj tg i) u):=by refine⟨h.aX.setCell (p:=⟨tg,i,none⟩) arY u,(iK (oC h.gG Fc (by decide))).trans h.gG,(iK (oC h.eJ Fc (by decide))).trans h.eJ,?_⟩;obtain⟨B,h⟩:=h.row;exact⟨B,zQ h (Jb _ tg i _) (.inr (rU h Fc (by decide)))⟩
theorem arZ(w:aeo):Calls Tryz.prog 31 #[] w fun e w'=>e=ab (U true)∧ao w w w':=by
 go_enter Tryz.func31,Tryz.ntmps31;go_upto_region 2 with fail;have cG:af ((w.alloc (ai (#[I (-2),I (-2),I 4,I 1,I 1,I 0,J 0,J 0,I 1,I 2,I 3,I 10,I 10]) iX)).heap[w.heap.size]?=some (.cells #[I (-2),I (-2),I 4,I 1,I 1,I 0,J 0,J 0,I 1,I 2,I 3,I 10,I 10] iX)):=bY _ _;have aI:af (ao w w (w.alloc (ai (#[I (-2),I (-2),I 4,I 1,I 1,I 0,J 0,J 0,I 1,I 2,I 3,I 10,I 10]) iX))):=a6 _ _;generalize w.alloc (.cells #[I (-2),I (-2),I 4,I 1,I 1,I 0,J 0,J 0,I 1,I 2,I 3,I 10,I 10] iX)=W at cG aI⊢;obtain⟨tg,Fc⟩:=ar w.heap.size;have ar0:=aq Fc;rw[Fc] at cG⊢;clear Fc;have i7:=PU (fun _=>True) (-2) (-2) 4 1 1 0 [] none 0 0 rfl none 0 1 2 3 10 10 arP (fun y hy=>absurd hy (by simp)) W (aq (LH W));rw[arU] at i7;obtain⟨jd,gH,gI,gz,gA,je,iY,jo,j2,j3,j4,jf,jq⟩:=pd cG.out;go_upto_region 3 with (first|(go_at_call 20;(with_reducible refine i7.mono ?_);intro e b4 hr;have dc:=hr.aX;obtain⟨q,cp,rfl,eD⟩:=hr.yes)|fail);have aeO:b4.ownsRow W.heap.size 5 1 (ad q 3 cp) 3 [.int .u8 1,.int .u8 2,.int .u8 3]:=eD;have cy:af (Fb w b4.heap.size (b4.heap.size+1) q cp ((b4.alloc (ai (#[I 1,I 1,U true,ad q 3 cp]) jO)).alloc (ai (#[I 0,I 0,I 0,I 0]) eN))):=by have s1:(b4.alloc (ai (#[I 1,I 1,U true,ad q 3 cp]) jO)).heap.size=b4.heap.size+1:=sx _;have a2:=bY (b4.alloc (ai (#[I 1,I 1,U true,ad q 3 cp]) jO)) (ai (#[I 0,I 0,I 0,I 0]) eN);rw[s1] at a2;exact⟨((aI.out.trans (dc.mono aI.out.size)).alloc (dx aI.out.size dc.size) _).alloc (by rw[s1];have:=aI.out.size;have:=dc.size;omega) _,aU (bY b4 _) (a6 _ _),a2,_,(aeO.alloc _).alloc _⟩
 have tC:=aq (aU (aU (aU cG.out dc) (a6 b4 (ai (#[I 1,I 1,U true,ad q 3 cp]) jO))) (a6 (b4.alloc (ai (#[I 1,I 1,U true,ad q 3 cp]) jO)) (ai (#[I 0,I 0,I 0,I 0]) eN)));clear hr dc eD aeO i7 jd gH gI gz gA je iY jo j2 j3 j4 jf jq cG aI;generalize (b4.alloc (ai (#[I 1,I 1,U true,ad q 3 cp]) jO)).alloc (.cells #[I 0,I 0,I 0,I 0] eN)=c9 at cy tC⊢;obtain⟨e',D6⟩:=ar b4.heap.size;rw[D6] at cy⊢;clear D6;have iY:=cell_of (i:=6) tC.out rfl;have g6:=cJ tC.out 6;have ar1:=lt_of_heap tC.out;go_upto_region 4 with fail;have ar2:af (w.heap.size≤tg):=J1 ar0.out;have aeP:=aq (cy.out.set tC.out ar2.out 6 (ag c9.heap.size 0 1 1));have aeQ:af ((c9.setCell (aj tg 6) (ag c9.heap.size 0 1 1)).heap[tg]?=some (.cells #[I (-2),I (-2),I 4,I 1,I 1,I 0,ag c9.heap.size 0 1 1,J 0,I 1,I 2,I 3,I 10,I 10] iX)):=by have:=dt (i:=6) (ag c9.heap.size 0 1 1) tC.out;exact this
 have KI:=aq (aeP.out.below (a6 (c9.setCell (aj tg 6) (ag c9.heap.size 0 1 1)) (ai (#[aa ⟨#[68,49,48,42]⟩,I 9,I 0,I 0,I 255,U false]) c8)));have LI:=aq (aU aeQ.out (a6 (c9.setCell (aj tg 6) (ag c9.heap.size 0 1 1)) (ai (#[aa ⟨#[68,49,48,42]⟩,I 9,I 0,I 0,I 255,U false]) c8)));have LJ:af (((c9.setCell (aj tg 6) (ag c9.heap.size 0 1 1)).alloc (ai (#[aa ⟨#[68,49,48,42]⟩,I 9,I 0,I 0,I 255,U false]) c8)).heap[c9.heap.size]?=some (.cells #[aa ⟨#[68,49,48,42]⟩,I 9,I 0,I 0,I 255,U false] c8)):=by have h:=bY (c9.setCell (aj tg 6) (ag c9.heap.size 0 1 1)) (ai (#[aa ⟨#[68,49,48,42]⟩,I 9,I 0,I 0,I 255,U false]) c8);rw[M6] at h;exact h
 clear iY g6 cy tC aeP aeQ ar1;generalize (c9.setCell (aj tg 6) (ag c9.heap.size 0 1 1)).alloc (.cells #[aa ⟨#[68,49,48,42]⟩,I 9,I 0,I 0,I 255,U false] c8)=gB at KI LI LJ⊢;obtain⟨aeR,aeS⟩:=ar c9.heap.size;rw[aeS] at LI LJ⊢;clear aeS;have mY:=PU (fun _=>True) (-2) (-2) 4 1 1 0 [⟨⟨#[68,49,48,42]⟩,9,0,0,255,false⟩] (some (aj aeR 0)) 1 1 rfl none 0 1 2 3 10 10 aeM arS gB (aq (Fa LJ.out));rw[arV] at mY;obtain⟨jd,gH,gI,gz,gA,je,iY,jo,j2,j3,j4,jf,jq⟩:=pd LI.out;go_upto_region 5 with (first|(go_at_call 20;(with_reducible refine mY.mono ?_);intro e fP hr;have dF:=hr.aX;obtain rfl:=hr.no)|fail);have ta:ao gB gB ((fP.alloc (ai (#[I 0,I 0,U false,J 0]) jO)).alloc (ai (#[I 1,I 0,I 0,I 4]) eN)):=(dF.alloc dF.size _).alloc (dx dF.size (a6 fP (ai (#[I 0,I 0,U false,J 0]) jO)).size) _;have P9:af (((fP.alloc (ai (#[I 0,I 0,U false,J 0]) jO)).alloc (ai (#[I 1,I 0,I 0,I 4]) eN)).heap[fP.heap.size+1]?=some (.cells #[I 1,I 0,I 0,I 4] eN)):=by have a2:=bY (fP.alloc (ai (#[I 0,I 0,U false,J 0]) jO)) (ai (#[I 1,I 0,I 0,I 4]) eN);rw[show (fP.alloc (ai (#[I 0,I 0,U false,J 0]) jO)).heap.size=fP.heap.size+1 from sx _] at a2;exact a2
 have V4:=aq (KI.out.below ta);have V5:=aq (aU LI.out ta);have V6:=aq (aU LJ.out ta);clear hr dF ta mY jd gH gI gz gA je iY jo j2 j3 j4 jf jq KI LI LJ;generalize (fP.alloc (ai (#[I 0,I 0,U false,J 0]) jO)).alloc (.cells #[I 1,I 0,I 0,I 4] eN)=cU at P9 V4 V5 V6⊢;obtain⟨axS,aeU⟩:=ar (fP.heap.size+1);rw[aeU] at P9⊢;clear aeU;have zq:=aqB (fun _=>True) (-2) (-2) 4 1 1 0 [⟨⟨#[68,49,48,42]⟩,9,0,0,255,false⟩] (some (aj aeR 0)) 1 1 rfl none 0 1 2 3 10 10 1 aeM (by decide) cU (aq (Fa V6.out));obtain⟨jd,gH,gI,gz,gA,je,iY,jo,j2,j3,j4,jf,jq⟩:=pd V5.out;go_upto_region 6 with (first|(go_at_call 16;(with_reducible refine zq.mono ?_);intro e eT hr;have la:=hr.aX;obtain rfl:=hr.no)|fail);have xS:ao cU cU (eT.alloc (ai (#[I 0,I 0,I 0,I 1]) eN)):=la.alloc la.size _;have HN:af ((eT.alloc (ai (#[I 0,I 0,I 0,I 1]) eN)).heap[eT.heap.size]?=some (.cells #[I 0,I 0,I 0,I 1] eN)):=bY _ _;have HO:=aq (V4.out.below xS);have aeV:=aq (aU P9.out xS);clear hr la xS zq jd gH gI gz gA je iY jo j2 j3 j4 jf jq V4 V5 P9 V6;generalize eT.alloc (.cells #[I 0,I 0,I 0,I 1] eN)=e6 at HN HO aeV⊢;obtain⟨axT,aeW⟩:=ar eT.heap.size;rw[aeW] at HN⊢;clear aeW;obtain⟨i0,lN,i2,i3⟩:=jN HO.out.gG;obtain⟨B,eD⟩:=HO.out.row;have AR:=a6 e6 (ai (#[.int .u8 1,.int .u8 2,.int .u8 3]) 5);have ar3:hI (e6.alloc (ai (#[.int .u8 1,.int .u8 2,.int .u8 3]) 5)) (some (aj e6.heap.size 0)) [1,2,3]:=by refine hI.of fun i hi=>?_;have h:=bY e6 (ai (#[.int .u8 1,.int .u8 2,.int .u8 3]) 5);have abq:i<3:=hi;rcases (show i=0∨i=1∨i=2 by omega) with rfl|rfl|rfl<;>exact cell_of h rfl
 have ar4:=arX 1 1 true q (some (aj e6.heap.size 0)) 3 3 cp 3 [1,2,3] (aq rfl) (aq rfl) _ ((arW eD rfl).below AR) ar3;have hU:af (ao w w (e6.alloc (ai (#[.int .u8 1,.int .u8 2,.int .u8 3]) 5))):=HO.out.aX.trans (AR.mono HO.out.aX.size);obtain⟨a0,bA,a2,a3⟩:=jN (aU HO.out.eJ AR);obtain⟨cu,cS,bq,fA⟩:=jN (aU aeV.out AR);obtain⟨aQ,aN,aJ,c3⟩:=jN (aU HN.out AR);clear eD;go_wp2_with (first|(go_at_call 21;(with_reducible refine ar4.mono ?_);rintro e aeX ⟨rfl,uI⟩;have a0:=bV uI a0;have bA:=bV uI bA;have a2:=bV uI a2;have a3:=bV uI a3;have cu:=bV uI cu;have cS:=bV uI cS;have bq:=bV uI bq;have fA:=bV uI fA;have aQ:=bV uI aQ;have aN:=bV uI aN;have aJ:=bV uI aJ;have c3:=bV uI c3)|fail);go_ret;exact⟨rfl,hU.out.trans (uI.mono hU.out.size)⟩
end dd
