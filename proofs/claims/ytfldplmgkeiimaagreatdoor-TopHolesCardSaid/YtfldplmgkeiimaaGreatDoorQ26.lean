/- Lemmas. -/
import Derived.Test.YtfldplmgkeiimaaGreatDoorQ25
set_option linter.all false
set_option maxRecDepth 100000
set_option maxHeartbeats 12800000
namespace Go.Proofs.YtfldplmgkeiimaaGreatDoor
abbrev F8:=@Proofs.Tryz.underlying268
namespace dE
open Go.RowKit el
open wq (ig)
open Iz (IC)
open jj (fa)
abbrev Mf:TypeId:=306
abbrev F9(l:List Int):Array Value:= #[I (l.getD 0 0),I (l.getD 1 0),I (l.getD 2 0)]
theorem aoC(l:List Int)(v:Int)(h:l.length<3):(F9 l).setIfInBounds l.length (I v)=F9 (l++[v]):=by
 rcases l with _|⟨a,_|⟨b,_|⟨c,l⟩⟩⟩
 ·rfl
 ·rfl
 ·rfl
 ·simp at h;omega
variable{w x:bTo}{k s:Nat}
theorem IJ{l:List Int}(h:bo w k (F9 l) Mf){j:Nat}(cB:j<3):aw w k j (I (l.getD j 0)):=by rcases (show j=0∨j=1∨j=2 by omega) with rfl|rfl|rfl<;>simp[World.cell?,h]
def app(pre:List Int):Except Nat (List Int)→Except Nat (List Int)
 |.error e=>.error e
 |.ok l=>.ok (pre++l)
def yI(s:Nat)(u:Int)(c7 pre:List Int)(k:Nat):Prop:=pre.length=k∧(∀x∈pre,0≤x∧x≤268435456)∧qG s u c7 0=app pre (qG s u (c7.drop k) k)
theorem yI.nil (s:Nat) (u:Int) (c7:List Int):yI s u c7 [] 0:=⟨rfl,fun x h=>absurd h (by simp),by
 rw[uW];cases qG s u c7 0<;>rfl⟩
def Mg(s:Nat)(u:Int)(c7:List Int)(k:Nat):Option Int→Except Nat (List Int)
 |none=>.error 5
 |some g=>if g<0∨(g=0∧s=2∧k<s) then .error 4 else if g.tmod 2≠0 then .error 7 else app [g.tdiv 2] (qG s u (c7.drop (k+1)) (k+1))
variable{u a b h gl:Int}{c7 pre:List Int}
theorem yI.at(h:yI s u c7 pre k)(ab:k<c7.length):qG s u c7 0=app pre (Mg s u c7 k (ig c7[k] u)):=by
 rw[h.2.2,l3 ab]
 congr 1
theorem yI.step(h:yI s u c7 pre k)(ab:k<c7.length){g:Int}(aX:ig c7[k] u=some g)(aa:¬(g<0∨(g=0∧s=2∧k<s)))(ah:g.tmod 2=0)(af:g≤536870912):yI s u c7 (pre++[g.tdiv 2]) (k+1):=by
 refine⟨by rw[gh,h.1];rfl,fun x hx=>?_,?_⟩
 ·rcases List.mem_append.1 hx with hx|hx
  ·exact h.2.1 x hx
  ·rw[List.mem_singleton.1 hx];rw[CW (by omega)];omega
 ·rw[h.at ab,aX];unfold Mg;simp only;rw[aK aa,aK (by simp[ah])];cases qG s u (c7.drop (k+1)) (k+1)<;>simp[app]
theorem yI.fin(h:yI s u c7 pre c7.length):qG s u c7 0=.ok pre:=by rw[h.2.2,List.drop_length];simp[qG,app]
def oA(bj:bk):Nat:=if bj=[67] then 1 else 2
def F'(bj:bk)(a b:Int):dL:=if bj=[67] then Kf a else if bj=[82] then SG a b else Hj a b
variable{bj:bk}
theorem VP(h:bj=[67]∨bj=[82]∨bj=[79])(c7:List Int)(u:Int)(ms:List ma):oK bj c7 u ms=if c7.length≠oA bj∧c7.length≠oA bj+1 then .error 4 else match qG (oA bj) u c7 0 with
  |.error e=>.error e
  |.ok g=>.ok (Cy (F' bj (g.getD 0 0) (g.getD 1 0)) (g.getD (oA bj) 0),if bj=[67]∧g.getD 1 0=0 then g.getD 0 0 else 0):=by
 unfold oK;rw[aT h];rcases h with rfl|rfl|rfl<;>simp[oA,F']<;>rfl
abbrev Qx:List Value:=[I 0,I 0,I 0,I 0,I 0,I 0,I 0,I 0,eX,eX,I 0]
structure yJ(w:bTo)(pre:List Int)(x:bTo):Prop where
 aY:av w w x
 r:bo x w.heap.size (oz hb eX eX 0) nZ
 h:bo x (w.heap.size+1) (F9 pre) Mf
theorem yJ.below{y:bTo}(h:yJ w pre x)(af:av x x y):yJ w pre y:=⟨h.aY.trans (af.mono h.aY.size),aO h.r af,aO h.h af⟩
theorem yJ.step(h:yJ w pre x){v:Int}(ab:pre.length=k)(ax:k<3):yJ w (pre++[v]) (x.setCell (ag (w.heap.size+1) k) (I v)):=by subst ab;refine⟨h.aY.setCell (p:=⟨w.heap.size+1,pre.length,none⟩) (l4 _) _,(jg (by omega)).trans h.r,?_⟩;rw[←aoC pre v ax];exact c4 _ h.h
theorem yF.err{w':bTo}{r:Except Nat (ey×Int)}{v Mh:ada}(hr: .error k=r)(ab:k≠0)(af:av w w w')(aS:v=VL)(aoD:Mh=I (k:Int)):yF w r (bb (.tuple #[v,Mh])) w':=by subst hr aS aoD;exact⟨af,ab,rfl⟩
theorem VQ(h:bj=[67]∨bj=[82]∨bj=[79]){ms:List ma}(hn:¬(c7.length≠oA bj∧c7.length≠oA bj+1)){e:Nat}(he:qG (oA bj) u c7 0=.error e): .error e=oK bj c7 u ms:=by rw[VP h,aK hn,he]
theorem getD_in(h:∀x∈pre,0≤x∧x≤268435456)(j:Nat):0≤pre.getD j 0∧pre.getD j 0≤268435456:=by
 rw[yt];cases cB:pre[j]? with
 |none=>simp
 |some x=>exact h x (U6 cB)
theorem aoE(_:oA bj=s)(a b:Int):∃K,F' bj a b=K:=⟨_,rfl⟩
variable{K:dL}
theorem aoF(hc:bj=[67]∨bj=[82]∨bj=[79]){ms:List ma}(hn:¬(c7.length≠oA bj∧c7.length≠oA bj+1))(hs:oA bj=s)(hf:qG s u c7 0=.ok pre)(ha:pre.getD 0 0=a)(af:pre.getD 1 0=b)(aF:pre.getD s 0=h)(hK:F' bj a b=K)(hr:(if bj=[67]∧b=0 then a else 0)=gl): .ok (Cy K h,gl)=oK bj c7 u ms:=by rw[VP hc,aK hn,hs,hf];simp only;rw[ha,af,aF,hK,hr]
theorem aoG{r:Except Nat (ey×Int)}(aQ:h=0)(hf: .ok (Cy K h,gl)=r): .ok ((⟨K,.nil⟩:ey),gl)=r:=by rw[←hf,aQ];rfl
theorem yJ.keep{y:bTo}{T:Nat}(h:yJ w pre x)(ab:aL (fun b=>b≠T) x y)(fh:w.heap.size+1<T):yJ w pre y:=⟨ab.aY h.aY (by omega) h.aY.size,ab.get (by omega) h.r,ab.get (by omega) h.h⟩
theorem yF.yes{w':bTo}{s:ey}{r:Except Nat (ey×Int)}{v Mh:ada}{pl:aya}{cl:Nat}{pp:aya}{cp:Nat}(hr: .ok (s,gl)=r)(af:av w w w')(aS:v=.agg (oz s.b (ad pl s.b.l.length cl) (ad pp s.p.len cp) gl))(ab:Mh=I 0)(hs:dY (fun k=>w.heap.size≤k) w' pl cl pp cp s):yF w r (bb (.tuple #[v,Mh])) w':=by subst hr aS ab;exact⟨af,_,_,_,_,rfl,hs⟩
abbrev adg(b:dL)(jA cD:ada)(r:Int):List Value:=[I b.k,I b.a.1,I b.a.2,I b.b.1,I b.b.2,I b.c.1,I b.c.2,I b.r,jA,cD,I r]
abbrev DK(b:dL)(jA:ada)(h:Int):Obj:=.cells #[ai true,I b.k,I b.a.1,I b.a.2,I b.b.1,I b.b.2,I b.c.1,I b.c.2,I b.r,jA,eX,ai false,I 1,I 0,I 0,I 0,I 0,I 0,I 0,I h,eX,eX] fb
theorem aoH{r:Except Nat (ey×Int)}(aQ:0<h)(hf: .ok (Cy K h,gl)=r): .ok ((⟨AS,.cons true K .nil (.cons false (wB (0,0) h) .nil .nil)⟩:ey),gl)=r:=by rw[←hf];unfold Cy;rw[aT aQ]
theorem aoI(hs:oA bj=s)(af:pre.getD 1 0=b)(aF:pre.getD s 0=h)(aQ:¬h=0)(hx:bj=[67]∧b=0):False:=by obtain⟨rfl,rfl⟩:=hx;subst hs;exact aQ (aF.symm.trans af)
theorem aoJ(hs:oA bj=s)(af:pre.getD 1 0=b)(aF:pre.getD s 0=h)(a:Int):∃r,(if bj=[67]∧b=0 then a else 0)=r∧(h≠0→0=r):=⟨_,rfl,fun aQ=>by rw[aK (fun hx=>aoI hs af aF aQ hx)]⟩
theorem aoK{S:Jp}{g cl:Nat}{pl:aya}(hp:w.heap[g]?=some (DK K (ad pl K.l.length cl) h))(hS:S g)(hs:dY S w pl cl none 0 ⟨K,.nil⟩):dY S w none 0 (some (ag g 0)) 2 ⟨AS,.cons true K .nil (.cons false (wB (0,0) h) .nil .nil)⟩:=
 ⟨.nil _ _ _,⟨show 2≤nA by decide,fun _=>⟨g,0,_,rfl,hS,hp,dS.mk rfl hs (dS.mk (pl:=none) (cl:=0) (pp:=none) (cp:=0) rfl (.bare _ _ _ _ _ _ _ rfl) trivial)⟩⟩,bD _,bD _⟩
theorem adh(_:oA [67]=s):True:=trivial
theorem aoL(h:F' [67] a b=K)(w:bTo):Calls Tryz.prog 183 #[I a] w (DJ w K):=h ▸ aoz a w
theorem aoM(h:F' [82] a b=K)(ha:0≤a∧a≤268435456)(af:0≤b∧b≤268435456)(w:bTo):Calls Tryz.prog 184 #[I a,I b] w (DJ w K):=h ▸ aoB a b ⟨ha.1,by omega⟩ ⟨af.1,by omega⟩ w
theorem aoN(h:F' [79] a b=K)(ha:0≤a∧a≤268435456)(af:0≤b∧b≤268435456)(w:bTo):Calls Tryz.prog 185 #[I a,I b] w (DJ w K):=h ▸ aoA a b ⟨ha.1,by omega⟩ ⟨af.1,by omega⟩ w
theorem aoO(bj:bk)(tT:bj=[67]∨bj=[82]∨bj=[79])(c7:List Int)(nq:aya)(bC:Nat)(u:Int)(ms:List ma)(fj:ada)(B:Nat)(w:bTo)(Al:J (fa B w nq c7))(gp:c7.length≤1000000000):
    Calls Tryz.prog 142 #[au ⟨bj.toArray⟩,ad nq c7.length bC,I u,fj] w (yF w (oK bj c7 u ms)):=by
  obtain⟨n,hn⟩:∃n,c7.length=n:=⟨_,rfl⟩;have a1:=U hn;rw[hn] at gp⊢;clear hn;obtain⟨s,hs⟩:∃s,oA bj=s:=⟨_,rfl⟩;have cF:=U hs;have Pg:=U tT;have adi:s=1∨s=2:=(by rw[←hs];unfold oA;split<;>simp);clear hs;by_cases hlen:n=s∨n=s+1
  case neg=>
    have aE:J (.error 4=oK bj c7 u ms):=by show _=_;rw[VP Pg.out,aT (by rw[a1.out,cF.out];omega)]
    have aj:(bj=[67]→((n:Int) !=1)=true∧((n:Int) !=2)=true)∧(bj≠[67]→((n:Int) !=2)=true∧((n:Int) !=3)=true):=by
      have hs:=cF.out;unfold oA at hs;refine⟨fun h=>?_,fun h=>?_⟩
      · rw[aT h] at hs
        constructor<;>(rw[tt];omega)
      · rw[aK h] at hs
        constructor<;>(rw[tt];omega)
    clear adi cF Pg;rcases tT with rfl|rfl|rfl
    all_goals
      first|have l:=aj.1 rfl|have l:=aj.2 (by decide)
      obtain⟨ij,gV⟩:=l;go_enter Tryz.func142,Tryz.ntmps142;go_wp2_with fail;exact dH (nK rfl _ _ w.heap.size _ _ _ _ rfl (cw w (aD (oz hb eX eX 0) nZ)) F8 rfl (by kernel_rfl)) rfl (.err aE.out (by decide) (ba _ _) rfl rfl)
  have Ip:n≤3:=(by omega);have iO:J (¬(c7.length≠oA bj∧c7.length≠oA bj+1)):=by show ¬_;rw[a1.out,cF.out];omega
  have aj:(bj=[67]→(((n:Int) !=1)=false∨((n:Int) !=1)=true∧((n:Int) !=2)=false)∧s=1)∧(bj≠[67]→(((n:Int) !=2)=false∨((n:Int) !=2)=true∧((n:Int) !=3)=false)∧s=2):=by
    have hs:=cF.out;unfold oA at hs;refine⟨fun h=>?_,fun h=>?_⟩
    · rw[aT h] at hs
      subst hs;refine⟨?_,rfl⟩;rcases hlen with rfl|rfl
      · exact .inl rfl
      · exact .inr ⟨rfl,rfl⟩
    · rw[aK h] at hs
      subst hs;refine⟨?_,rfl⟩;rcases hlen with rfl|rfl
      · exact .inl rfl
      · exact .inr ⟨rfl,rfl⟩
  clear hlen;rcases tT with rfl|rfl|rfl
  all_goals
    first|have l:=aj.1 rfl|have l:=aj.2 (by decide)
    have dR:=U l.1;have js:=U l.2;clear aj adi l;go_enter Tryz.func142,Tryz.ntmps142;go_upto_region 9 with fail;go_cut [41] (fun a fT=>a=ai false∧fT=w.alloc (aD (oz hb eX eX 0) nZ))
    case first=>
      rcases dR.out with l|⟨l,gV⟩
      all_goals
        go_wp2_with fail;go_meet;exact⟨rfl,rfl⟩
    case rest=>
      obtain⟨rfl,rfl⟩:=hcut;have sB:J (yJ w [] ((w.alloc (aD (oz hb eX eX 0) nZ)).alloc (aD (F9 []) Mf))):=(by exact⟨k5 _ _ _,aO (cw _ _) (ba _ _),ry _ _ _⟩);have BO:J (yI s u c7 [] 0):=.nil _ _ _;go_wp2_with fail;change Code.wp _ _ _ _ ((w.alloc (aD (oz hb eX eX 0) nZ)).alloc (aD (F9 []) Mf));generalize (w.alloc (aD (oz hb eX eX 0) nZ)).alloc (.cells (F9 []) Mf)=W0 at sB⊢
      go_loopw [45] (fun i wr=>∃(k:Nat) (pre:List Int) (aG:bTo),aG=wr∧k≤n∧i=I k∧J (yJ w pre aG)∧J (yI s u c7 pre k)) (fun i _=>n -(intOf i).toNat)
      case atStart=>exact⟨0,[],_,rfl,by omega,rfl,sB.out,BO.out⟩
      case round=>
      obtain⟨k,pre,aG,rfl,ab,rfl,jw,bL⟩:=hrel;clear sB BO;by_cases vp:k<n
      · have rM:(k:Int)<(n:Int):=by omega
        have nR:(0:Int)≤(k:Int):=(by omega);have ko:k<c7.length:=(by rw[a1.out];exact vp);obtain⟨b,o,cs,aC,_,aF,h1⟩:=Al.out (by omega);subst aC;obtain⟨x,hx⟩:∃x,c7[k]=x:=⟨_,rfl⟩;have Qp:aG.cell? ⟨b,o+k,none⟩=some (I x):=cell_of (aO aF jw.out.aY) (by rw[←hx];exact h1 k ko);have cV:J (∀h:k<c7.length,c7[k]'h=x):=fun _=>hx;have adj:=U ko;obtain⟨IK,Qy⟩:∃IK,ig x u=IK:=⟨_,rfl⟩;have fv:=U Qy;have cd:J ((ig x u).getD 0=IK.getD 0∧(ig x u).isSome=IK.isSome):=(by show _∧_;rw[Qy];exact⟨rfl,rfl⟩);have dF:J (qG s u c7 0=app pre (Mg s u c7 k IK)):=(by have h:=bL.out.at ko;rw[hx,Qy] at h;exact h);clear h1 aF hx ko Qy;go_wp2_with fail;go_fit (IC x u _ _ cd _);rintro e bt ⟨rfl,rfl⟩;clear Qp cd;cases IK with
        |none=>
          have aE:J (.error 5=oK _ c7 u ms):=VQ (by decide) iO.out (by rw[cF.out];exact dF.out);obtain⟨z0,z1,z2,z3,z4,z5,nW,nj,mK,z9,lX⟩:=qM jw.out.r;have o6:=cP jw.out.r;go_wp2_with fail;refine F7 (P:=bodyPost _ _ _ _ _) Qx jw.out.r rfl fun fB g1 g2=>?_;exact dH (nK rfl _ _ w.heap.size _ _ _ _ rfl g1 F8 rfl (by kernel_rfl)) rfl (.err aE.out (by decide) (g2.aY jw.out.aY (bD _) jw.out.aY.size) rfl rfl)
        |some g=>
          have K9:=acU fv.out;by_cases yK:g.tmod 2=0∧¬(g<0∨(g=0∧s=2∧k<s))
          · have mU:=U (bL.out.step adj.out (by rw[cV.out];exact fv.out) yK.2 yK.1 K9.2)
            have p5:k<3:=(by omega);have l8:¬g<0:=fun h=>yK.2 (.inl h);have aw9:wrap64 (g.tdiv 2)=g.tdiv 2:=IntWalk.wrap64_in _ (by rw[CW (by omega)];omega);have dn:=U (jw.out.step (v:=g.tdiv 2) bL.out.1 p5);have sH:(g%2 !=0)=false:=(by rw[bne_eq_false_iff_eq,←CG (by omega)];exact yK.1);have v0:=IJ jw.out.h p5;have an4:=cP jw.out.h k;have qe:g=0→s=2→¬(k:Int)<2:=fun aQ ah ax=>yK.2 (.inr ⟨aQ,ah,by omega⟩);clear yK K9;by_cases Dn:g=0
            · subst Dn
              first|have ga:=qe rfl js.out|skip
              clear qe;go_wp2_with fail;go_round<;>first|exact⟨k+1,_,_,rfl,by omega,by go_num,dn.out,mU.out⟩|(simp[intOf]<;>omega)
            · have Dl:(g==0)=false:=beq_eq_false_iff_ne.2 Dn
              clear qe;go_wp2_with fail;go_round
              · exact⟨k+1,_,_,rfl,by omega,by go_num,dn.out,mU.out⟩
              · (simp[intOf]<;>omega)
          · obtain⟨z0,z1,z2,z3,z4,z5,nW,nj,mK,z9,lX⟩:=qM jw.out.r
            have o6:=cP jw.out.r;by_cases fX:g<0∨(g=0∧s=2∧k<s)
            · have aE:J (.error 4=oK _ c7 u ms):=VQ (by decide) iO.out (by rw[cF.out,dF.out];unfold Mg;simp only;rw[aT fX];rfl)
              clear yK;rcases fX with l8|⟨rfl,mg,AP⟩
              · go_wp2_with fail
                refine F7 (P:=bodyPost _ _ _ _ _) Qx jw.out.r rfl fun fB g1 g2=>?_;exact dH (nK rfl _ _ w.heap.size _ _ _ _ rfl g1 F8 rfl (by kernel_rfl)) rfl (.err aE.out (by decide) (g2.aY jw.out.aY (bD _) jw.out.aY.size) rfl rfl)
              · first
                  |(exfalso;have:=js.out;omega)
                  | (have ga:(k:Int)<2:=by omega
                     go_wp2_with fail;refine F7 (P:=bodyPost _ _ _ _ _) Qx jw.out.r rfl fun fB g1 g2=>?_;exact dH (nK rfl _ _ w.heap.size _ _ _ _ rfl g1 F8 rfl (by kernel_rfl)) rfl (.err aE.out (by decide) (g2.aY jw.out.aY (bD _) jw.out.aY.size) rfl rfl))
            · have aE:J (.error 7=oK _ c7 u ms):=VQ (by decide) iO.out (by rw[cF.out,dF.out];unfold Mg;simp only;rw[aK fX,aT (fun h=>yK ⟨h,fX⟩)];rfl)
              have l8:¬g<0:=fun h=>fX (.inl h);have sH:(g%2 !=0)=true:=(by rw[tt,←CG (by omega)];exact fun h=>yK ⟨h,fX⟩);have Dl:(g==0)=false:=beq_eq_false_iff_ne.2 fun h=>yK ⟨by rw[h];rfl,fX⟩;clear yK fX;go_wp2_with fail;refine F7 (P:=bodyPost _ _ _ _ _) Qx jw.out.r rfl fun fB g1 g2=>?_;exact dH (nK rfl _ _ w.heap.size _ _ _ _ rfl g1 F8 rfl (by kernel_rfl)) rfl (.err aE.out (by decide) (g2.aY jw.out.aY (bD _) jw.out.aY.size) rfl rfl)
      · obtain rfl:n=k:=by omega
        have i6:qG s u c7 0=.ok pre:=(by have h:=bL.out;rw[←a1.out] at h;exact h.fin);have qs:=fun j=>getD_in bL.out.2.1 j;obtain⟨a,ha⟩:∃a,pre.getD 0 0=a:=⟨_,rfl⟩;obtain⟨b,af⟩:∃b,pre.getD 1 0=b:=⟨_,rfl⟩;obtain⟨h,aF⟩:∃h,pre.getD s 0=h:=⟨_,rfl⟩;have VR:=qs 0;have IL:=qs 1;have aoP:=qs s;rw[ha] at VR;rw[af] at IL;rw[aF] at aoP;obtain⟨K,hK⟩:=aoE cF.out a b;first|have bq:=U (fun Z=>aoL hK Z)|have bq:=U (fun Z=>aoM hK VR IL Z)|have bq:=U (fun Z=>aoN hK VR IL Z)
        have cT:=U hK;obtain⟨gl,hO,vy⟩:=aoJ cF.out af aF a;have eg:=U vy;have aE:=U (aoF (ms:=ms) (by decide) iO.out cF.out i6 ha af aF hK hO);have Ga:=U hO;have adk:=U aF;have fp:=U af;have b8:=U ha;have aJ:=IJ jw.out.h (j:=0) (by decide);have aI:=IJ jw.out.h (j:=1) (by decide);have cs:=IJ jw.out.h (j:=s) (by have:=js.out;omega);rw[ha] at aJ;rw[af] at aI;rw[aF] at cs;clear i6 qs ha af aF hK hO vy vp;first|obtain rfl:s=1:=js.out|obtain rfl:s=2:=js.out
        first|(have Mi:=adk.out.symm.trans fp.out;clear aI Mi;have aI:=aJ)|skip
        go_upto_region 26 with fail;have DL:J ((aG.alloc (aD (oz hb eX eX 0) nZ)).heap[aG.heap.size]?=some (.cells (oz hb eX eX 0) nZ)):=cw _ _;have lx:=U (jw.out.below (ba aG (aD (oz hb eX eX 0) nZ)));have Gb:J (w.heap.size+1<aG.heap.size):=lt_of_heap jw.out.h;have d0:=bM (ba aG (aD (oz hb eX eX 0) nZ)) aJ;have d1:=bM (ba aG (aD (oz hb eX eX 0) nZ)) aI;have iw:=bM (ba aG (aD (oz hb eX eX 0) nZ)) cs;clear aJ aI cs jw;change Code.wp _ _ _ _ (aG.alloc (aD (oz hb eX eX 0) nZ));generalize aG.alloc (.cells (oz hb eX eX 0) nZ)=bQ at DL lx d0 d1 iw⊢;obtain⟨T,fh⟩:∃T,aG.heap.size=T:=⟨_,rfl⟩;rw[fh] at DL Gb⊢;clear fh;go_wp2_with fail;go_fit (bq.out _);rintro e cX ⟨eQ,pl,cl,rfl,Dc⟩;have kD:=U (aO DL.out eQ);have wo:=U (lx.out.below eQ);have adl:J (T<bQ.heap.size):=lt_of_heap DL.out;have adm:=U Dc;clear eQ DL lx Dc d0 d1 iw bq;have d0:=IJ wo.out.h (j:=0) (by decide);obtain⟨z0,z1,z2,z3,z4,z5,nW,nj,mK,z9,lX⟩:=qM kD.out;have o6:=cP kD.out;first|(have aoQ:=adh cF.out;go_upto_region 29 with fail)|go_upto_region 35 with fail
        refine aoy (P:=Code.wp _ _ _ _) (l5 K (ad pl K.l.length cl) eX) kD.out (show 10≤11 by decide) fun dG g1 g2=>?_;have pN:J (dG.heap[T]?=some (.cells (oz K (ad pl K.l.length cl) eX 0) nZ)):=g1;have w6:=U (wo.out.keep g2 Gb.out);have s4:J (dY (fun k=>w.heap.size+2≤k∧k≠T) dG pl cl none 0 ⟨K,.nil⟩):=((adm.out.keep (g2.mono fun k _ ab=>by have:=adl.out;omega)).mono fun k _ ab=>by have:=adl.out;have:=Gb.out;omega);clear g1 g2 z0 z1 z2 z3 z4 z5 nW nj mK z9 lX o6 d0 kD wo adm;obtain⟨z0,z1,z2,z3,z4,z5,nW,nj,mK,z9,lX⟩:=qM pN.out;have o6:=cP pN.out;have d0:=IJ w6.out.h (j:=0) (by decide);rw[b8.out] at d0;by_cases Qz:h=0
        · have e9:=U (aoG Qz aE.out)
          subst Qz;obtain⟨hD,axa⟩:∃W:bTo,W=dG:=⟨_,rfl⟩
          first
            | (have aoQ:=adh cF.out
               go_upto_region 35 with fail;refine adb (P:=Code.wp _ _ _ _) pN.out fun fR g3 g4=>?_;have hO:=Ga.out;rw[aT (And.intro (by trivial) (fp.out.symm.trans adk.out))] at hO;have adn:J (fR.heap[T]?=some (.cells (oz K (ad pl K.l.length cl) eX gl) nZ)):=(by show _=_;rw[←hO];exact g3);have w7:=U (w6.out.keep g4 Gb.out);have Am:=U (s4.out.keep (g4.mono fun k _ ab=>ab.2)))
            | (have hO:=Ga.out
               rw[aK (fun h=>absurd h.1 (by decide))] at hO;have adn:J (dG.heap[T]?=some (.cells (oz K (ad pl K.l.length cl) eX gl) nZ)):=(by show _=_;rw[←hO];exact pN.out);have w7:=w6;have Am:=s4)
          clear z0 z1 z2 z3 z4 z5 nW nj mK z9 lX o6 d0 pN w6 s4;obtain⟨t0,t1,t2,t3,t4,t5,t6,t7,t8,t9,t10⟩:=qM adn.out;obtain⟨z0,z1,z2,z3,z4,z5,nW,nj,mK,z9,lX⟩:=qM w7.out.r;have o6:=cP w7.out.r;go_wp2_with fail;refine F7 (P:=bodyPost _ _ _ _ _) (adg K (ad pl K.l.length cl) eX gl) w7.out.r rfl fun fB g5 g6=>?_;exact dH (nK rfl _ _ w.heap.size _ _ _ _ rfl g5 F8 rfl (by kernel_rfl)) rfl (.yes e9.out (g6.aY w7.out.aY (bD _) w7.out.aY.size) rfl rfl ((Am.out.keep (g6.mono fun k _ ab=>by omega)).mono fun k _ ab=>by omega))
        · have E7:(h==0)=false:=beq_eq_false_iff_ne.2 Qz
          have Df:0<h:=(by omega);have e9:=U (aoH Df aE.out);have lN:=U (eg.out Qz);have ado:=lt_of_heap pN.out;go_upto_region 37 with fail;refine adf (P:=fun X=>Code.wp _ _ _ _ (X.alloc (DK K (ad pl K.l.length cl) h))) (l5 AS eX (bG dG.heap.size 0 2 2)) pN.out (show 10≤11 by decide) fun hD g3 g4 gs=>?_;have adp:J ((hD.alloc (DK K (ad pl K.l.length cl) h)).heap[dG.heap.size]?=some (DK K (ad pl K.l.length cl) h)):=(by show _=_;rw[←gs];exact cw _ _);have s5:=U ((w6.out.keep g4 Gb.out).below (ba hD (DK K (ad pl K.l.length cl) h)));have DI:=U ((s4.out.keep (g4.mono fun k _ ab=>ab.2)).below (ba hD (DK K (ad pl K.l.length cl) h)));have Qb:J ((hD.alloc (DK K (ad pl K.l.length cl) h)).heap[T]?=some (.cells (oz AS eX (bG dG.heap.size 0 2 2) 0) nZ)):=aO g3 (ba _ _);have adq:J (T<dG.heap.size):=ado;clear g3 g4 gs z0 z1 z2 z3 z4 z5 nW nj mK z9 lX o6 d0 ado pN w6 s4;generalize hD.alloc (DK K (ad pl K.l.length cl) h)=fR at adp s5 DI Qb⊢;obtain⟨t0,t1,t2,t3,t4,t5,t6,t7,t8,t9,t10⟩:=qM Qb.out;obtain⟨z0,z1,z2,z3,z4,z5,nW,nj,mK,z9,lX⟩:=qM s5.out.r;have o6:=cP s5.out.r;go_wp2_with fail;refine F7 (P:=bodyPost _ _ _ _ _) (adg AS eX (bG dG.heap.size 0 2 2) 0) s5.out.r rfl fun fB g5 g6=>?_;rw[←lN.out] at e9;exact dH (nK rfl _ _ w.heap.size _ _ _ _ rfl g5 F8 rfl (by kernel_rfl)) rfl (.yes (pp:=some ⟨dG.heap.size,0,none⟩) (cp:=2) (pl:=none) (cl:=0) e9.out (g6.aY s5.out.aY (bD _) s5.out.aY.size) rfl rfl (aoK (g6.get (by have:=adq.out;have:=Gb.out;omega) adp.out) (by have:=adq.out;have:=Gb.out;omega) ((DI.out.keep (g6.mono fun k _ ab=>by omega)).mono fun k _ ab=>by omega)))
def BP(cs:List (List bp))(cx eS:bTv)(j:Nat):Prop:=eS.length=j∧∀i (hi:i<cs.length),i<j→∃q c,cx[i]?=some (.slice q cs[i].length c)∧eS[i]?=some (ad q (cs[i].length-1) (cs[i].length-1))
theorem BP.nil(cs:List (List bp))(cx:bTv):BP cs cx [] 0:=⟨rfl,fun i _ h=>absurd h (l7 _)⟩
theorem BP.push{cs:List (List bp)}{cx eS:bTv}{j:Nat}(h:BP cs cx eS j){q:aya}{c len:Nat}(cB:j<cs.length)(aj:cs[j].length=len)(hc:cx[j]?=some (ad q len c)):BP cs cx (eS++[ad q (len-1) (len-1)]) (j+1):=by
 refine⟨by rw[gh,h.1];rfl,fun i hi Qd=>?_⟩;by_cases e:i=j
 ·subst e;have aoR:=h.1;rw[zO (by omega),aoR,Lw,aj];exact⟨q,c,hc,rfl⟩
 ·have aj:i<eS.length:=(by have:=h.1;omega);rw[Iq aj];exact h.2 i hi (by omega)
abbrev dropped(cs:List (List bp)):List (List bp):=cs.map List.dropLast
def An(cs:List (List bp)):Nat:=((cs.map List.dropLast).map List.length).sum
theorem adr(cs:List (List bp))(j:Nat)(cB:j<cs.length):An (cs.take (j+1))=An (cs.take j)+(cs[j].length-1):=by unfold An;rw[x4 cB,mh,mh,List.sum_append];simp only[r4,zI,R4,List.sum_nil,Af,Hk]
theorem ads(cs:List (List bp))(h:∀c∈cs,c.length≤1000000):∀j,j≤cs.length→An (cs.take j)≤j *1000000
 |0,_=>by simp[An]
 |j+1,cB=>by have:=ads cs h j (by omega);have ah:=h cs[j] (j4 _);rw[adr cs j (by omega)];omega
theorem aoS{w0:bTo}{P:Nat}{R:Jp}{m:Nat}{L:o3}{fu:Int}{cv ov:ada}{cx ox:bTv}{p:cG}{W X Y:bTo}{D:Nat}{e3:ada}{eS:bTv}{n:Nat}(hn:p.bO.length=n)
  (h:eR w0 P R m L fu cv ov cx ox p W) (bZ:W.heap.size=D) (hf:Ah w0.heap.size D W p.bO e3 eS n X) (hr:BP p.bO cx eS n) (af:p.bO.length≤1000000∧∀c∈p.bO,0<c.length∧c.length≤1000000) (ih:∀k,k≠P→Y.heap[k]?=X.heap[k]?) (VS:∀k cs t,bo X k cs t→t=eE∨t=fo→k≠P):
  ∃pl cl,e3=ad pl n cl∧n≤cl∧iF (fun k=>R k∨Iu w0.heap.size Y k) Y pl (dropped p.bO):=by
 obtain⟨pl,cl,rfl⟩:=ik hf.own;have hlen:(dropped p.bO).length=n:=by rw[hk,hn]
 have mw:∀c∈p.bO,c.length≤nA:=fun c hc=>by have:=(af.2 c hc).2;show _≤1000000000;omega
 have adt:av W W X:=by rw[bZ];exact hf.aY
 have eh:∀k,Iu w0.heap.size X k→Iu w0.heap.size Y k:=by rintro k ⟨aa,cs,t,ah,ax⟩;exact⟨aa,cs,t,(ih k (VS k cs t ah ax)).trans ah,ax⟩
 have T7:∀k,qU R w0.heap.size W k→R k∨Iu w0.heap.size Y k:=by
  rintro k (ab|⟨bJ,cs,ab⟩)
  ·exact .inl ab
  ·exact .inr (eh k ⟨bJ,cs,eE,aO ab adt,.inl rfl⟩)
 rcases hf.own.2 with ⟨aN,aR⟩|⟨g,c,cur,aN,bJ,aF,aa,ah,ax,bg⟩
 ·injection aN with cA hN mC;subst aR;refine⟨pl,cl,rfl,eC _,by rw[hlen];exact eC _,fun h=>by rw[hlen] at h;exact absurd h (nz _)⟩
 ·injection aN with cA hN mC;subst cA mC;refine⟨_,cl,rfl,aa,by rw[hlen];show _≤1000000000;omega,fun aj=>?_⟩;have aX:g≠P:=VS g cur fo aF (.inr rfl);have Ir:=(ih g aX).trans aF;have tO:w0.heap.size≤g:=(by have:=h.aY.size;omega);refine⟨g,0,cur,rfl,.inr ⟨tO,cur,fo,Ir,.inr rfl⟩,Ir,fun i hi=>?_⟩;have sq:i<p.bO.length:=(by rw[hk] at hi;exact hi);obtain⟨q,c,bP,a8⟩:=hr.2 i sq (by omega);obtain⟨jF,c',g1,g2,g3⟩:=h.bj.all mw i sq;rw[bP] at g1;injection g1 with g1;injection g1 with g1 _ g4;subst g1 g4;have e:(dropped p.bO)[i]=p.bO[i].dropLast:=J6 ..;rw[e,Af];refine⟨q,p.bO[i].length-1,?_,bD _,?_⟩
  ·rw[lk,←a8,←bg,ti,aT (by omega)];simp
  ·have g5:=g3.below adt;have g6:hX (fun k=>R k∨Iu w0.heap.size Y k) X q p.bO[i]:=g5.mono fun k _ ab=>T7 k ab;obtain⟨a',a2⟩:=g6.pre;refine⟨a',fun aj=>?_⟩;obtain⟨b,o,cs,f1,f2,f3,f4⟩:=a2 aj;exact⟨b,o,cs,f1,f2,(ih b (VS b cs eE f3 (.inl rfl))).trans f3,f4⟩
theorem aoT(w0:bTo)(P:Nat)(p:cG)(w:bTo)(H:J (lF w0 P p w))(hs:FT p)(ah:oL p.bO=true→∀c∈p.bO,2≤c.length)(sH:p.top.fk.length≤1000000)(EL:0≤p.made∧p.made≤1000000)(Ac:p.levels.length≤1000)(res:Except Nat cG)(dk:J (zv p=res)):
  Calls Tryz.prog 98 #[dv P 0] w fun e w'=>fm w0 P res e w':=by
 obtain⟨f,hf⟩:=az (oL p.bO);have bq:=U hf;have cF:=U hs;have b9:=U ah;have br:J ((if f=false then .error 4 else if 1000<An p.bO then .error 6 else if p.bO=[] then .ok {p with bO:=[]} else iM {p with bO:=[]} p.fe (gT (jo (dropped p.bO))))=res):=by rw[←dk.out,←hf];rfl
 clear hf hs ah dk;go_enter Tryz.func98,Tryz.ntmps98;go_wp2_with fail;go_fit (abW w0 P p w H cF.out f bq);rintro e W ⟨rfl,af⟩;have bB:=U (H.out.below af);clear H af;cases f with
 |false=>
  have aE:J (.error 4=res):=br.out;have aH:J (av w0 w0 W):=(by obtain⟨_,_,_,_,_,_,_,_,h⟩:=bB.out;exact h.aY);go_wp2_with fail;go_ret;rw[←aE.out];exact⟨aH.out,rfl⟩
 |true=>
  obtain⟨R,m,L,fu,cv,ov,cx,ox,h⟩:=bB.out;have H1:=U h;have eg:J ((if 1000<An p.bO then .error 6 else if p.bO=[] then .ok {p with bO:=[]} else iM {p with bO:=[]} p.fe (gT (jo (dropped p.bO))))=res):=br.out;clear bB h br;obtain⟨n,hn⟩:=az p.bO.length;have a1:=U hn;have oG:n≤1000000:=(by rw[←hn];exact cF.out.1);have j9:World.ownsRow W w0.heap.size fo 1 cv p.bO.length cx:=H1.out.bj.own;rw[hn] at j9;clear hn;obtain⟨gq,jB,rfl⟩:=ik j9;have rC:=U j9;clear j9;go_upto_region 5 with fail;have cI:J ((W.alloc (aD (#[I 2,I 0,I 0,I 0,I 0,I 0,I 0,I 0,ay 0,ay 0]) dh)).heap[W.heap.size]?=some (.cells #[I 2,I 0,I 0,I 0,I 0,I 0,I 0,I 0,ay 0,ay 0] dh)):=cw _ _;have L9:J (Ah w0.heap.size W.heap.size W p.bO (ay 0) [] 0 (W.alloc (aD (#[I 2,I 0,I 0,I 0,I 0,I 0,I 0,I 0,ay 0,ay 0]) dh))):=⟨cI.out,⟨rfl,.inl ⟨rfl,rfl⟩⟩,ba _ _⟩;have wZ:(W.alloc (aD (#[I 2,I 0,I 0,I 0,I 0,I 0,I 0,I 0,ay 0,ay 0]) dh)).cell? ⟨P,20,none⟩=some (ad gq n jB):=bM (ba _ _) (cell_of (i:=20) H1.out.pl rfl);generalize W.alloc (.cells #[I 2,I 0,I 0,I 0,I 0,I 0,I 0,I 0,ay 0,ay 0] dh)=axb at cI L9 wZ⊢;obtain⟨D,bZ⟩:=az W.heap.size;have ht:=U bZ;rw[bZ] at L9⊢;clear bZ cI;go_wp2_with fail;clear wZ
  go_loopw [4,17] (fun t i wr=>∃(j N:Nat) (e3:ada) (eS:bTv) (aG:bTo),aG=wr∧j≤n∧i=I j∧t=I N∧J (N=An (p.bO.take j))∧J (Ah w0.heap.size D W p.bO e3 eS j aG)∧J (BP p.bO cx eS j)) (fun _ i _=>n -(intOf i).toNat)
  case atStart=>exact⟨0,0,_,_,_,rfl,eC _,rfl,rfl,rfl,L9.out,BP.nil _ _⟩
  case round=>
  obtain⟨j,N,e3,eS,aG,rfl,cB,rfl,rfl,gw,aE,KN⟩:=hrel;have aoU:N≤j *1000000:=(by rw[gw.out];exact ads _ (fun c hc=>(cF.out.2 c hc).2) j (by rw[a1.out];exact cB));by_cases b0:j<n
  ·have fs:j<p.bO.length:=(by rw[a1.out];exact b0);have ib:(j:Int)<(n:Int):=(by omega);obtain⟨len,hlen⟩:=az (p.bO[j].length);have kb:2≤len:=(by rw[←hlen];exact b9.out bq.out _ (j4 _));have J4:len≤1000000:=(by rw[←hlen];exact (cF.out.2 _ (j4 _)).2);obtain⟨q,c,bP,a8,oi⟩:=H1.out.bj.all (fun c hc=>by have:=(cF.out.2 c hc).2;show _≤1000000000;omega) j fs;obtain⟨fw,eG,_,aC,_⟩:=oi.2 (by omega);subst aC;rw[hlen] at bP a8;have nb:=U hlen;have iV:=U bP;obtain⟨ij,mS⟩:∃k,len=k+1:=⟨len-1,by omega⟩;subst mS
   obtain⟨K,K1,nB⟩:∃K,gq=some ⟨K,0,none⟩∧aw aG K j (ad (some (ag fw eG)) (ij+1) c):=by
    have bl:=rC.out;rcases bl.2 with ⟨aN,aR⟩|⟨g,cap,cur,aN,bJ,aF,g1,g2,g3,g4⟩
    ·omega
    ·injection aN with cA _ mC;subst cA mC;refine⟨g,rfl,?_⟩;have bg:=(bl.cellAt j (by omega)).trans iV.out;exact bM (by have:=aE.out.aY;rw[←ht.out] at this;exact this) bg
   subst K1;clear hlen bP oi;have k6:bT (((ij:Int)+1)-1)=(ij:Int):=(by rw[b4 _ (by omega)];omega);have qd:bT ((N:Int)+(ij:Int))=((N+ij:Nat):Int):=(by rw[b4 _ (by omega)];omega);have Bi:(0:Int)≤(j:Int):=(by omega);have sc:(0:Int)≤(ij:Int):=(by omega);have kZ:(ij:Int)≤(c:Int):=(by omega);have iJ:ij≤c:=(by omega);have aay:¬ij=0:=(by omega);go_upto_region 10 with fail;clear nB k6 qd;have VT:=aE.out.own;obtain⟨gW,w8,rfl⟩:=ik VT;have hP:J ((aG.drew.alloc (aD (#[ad (some (ag fw eG)) ij ij]) fo)).ownsRow (D+1) fo 1 (ad gW j w8) j eS):=VT.drew.alloc _;have adu:=U (aE.out.below (show Below aG.heap.size aG (aG.drew.alloc (aD (#[ad (some (ag fw eG)) ij ij]) fo)) from (Below.refl _ _).drew.alloc (bD _) _));clear VT;have d8:aw aG D 8 (ad gW j w8):=cell_of (i:=8) aE.out.dP rfl;have f8:=cP aE.out.dP 8;have qj:=lt_of_heap aE.out.dP;have ju:∀(cb:bTo),(aG.drew.alloc (aD (#[ad (some (ag fw eG)) ij ij]) fo)).grownBy cb (Value.slice gW j w8).ownBlock→aw cb D 8 (ad gW j w8)∧cb.frozen? ⟨D,8,none⟩=false:=(by intro cb pB;have aQ:=adu.out.dP;have aa:=(pB.block _ (lt_of_heap aQ) (fN (ni hP.out aQ (by decide)))).trans aQ;exact⟨cell_of aa rfl,cP aa 8⟩);obtain⟨i0,hi,cU,cW,dz⟩:=info_parts ace;have bY:=U (And.intro hi (And.intro cU (And.intro cW dz)));clear hi cU cW dz
   go_region_law (first|(refine x5 _ (by rfl) _ _ _ (by rfl) (D+1) fo i0 (ay 0) 1 24 N3 bY.out.1 bY.out.2.1 bY.out.2.2.1 bY.out.2.2.2 rfl (by omega) (ad gW j w8) j _ (by rfl) hP.out (ag aG.heap.size 0) 1 1 [bG fw eG ij ij] (by rfl) (by rfl) (jW (cs:= #[ad (some (ag fw eG)) ij ij]) (t:=fo) (fr:=(0,0)) (gi aG _)) (by simp[Value.oneCell']) (by omega) (by unfold maxLen;omega) (by omega) (by simp;omega) (aG.heap.size+1) (by simp) ?_;intro gg il bt cM dW e0 h5;obtain⟨bN,ch⟩:=ju bt dW)|fail)
   all_goals
    have Mj:=U (Ah.push adu.out dW cM);have w9:J (BP p.bO cx (eS++[ad (some (ag fw eG)) ij ij]) (j+1)):=KN.out.push fs nb.out iV.out;have VK:J (N+ij=An (p.bO.take (j+1))):=(by show _=_;rw[adr _ _ fs,nb.out,←gw.out];rfl);clear cM dW e0 h5 bN ch d8 f8 ju;go_wp2_with fail;go_round<;>first|exact⟨j+1,N+ij,_,_,_,rfl,by omega,by go_num,by go_num,VK.out,Mj.out,w9.out⟩|(simp[intOf]<;>omega)
  ·have iH:j=n:=(by omega);subst iH;have qj:=lt_of_heap aE.out.dP;have adv:J (av W W aG):=(by have h:=aE.out.aY;rw[←ht.out] at h;exact h);have cS:=U (H1.out.below adv.out);have Ma:P≠D:=(fun e=>by have:=lt_of_heap H1.out.pl;have:=ht.out;omega);have f20:=cP cS.out.pl 20;have wZ:aw aG P 20 (ad gq j jB):=cell_of (i:=20) cS.out.pl rfl;have ji:=aoS (Y:=aG.setCell (ag P 20) (ay 0)) a1.out H1.out ht.out aE.out KN.out cF.out (fun k ab=>jg ab) (fun k cs t aF bH=>by rcases bH with rfl|rfl<;>exact jb aF cS.out.pl (by decide));obtain⟨gW,w8,rfl,pM,adw⟩:=ji;have j5:=U adw;clear adw;have iT:=U (eR.rows cS.out.anh rfl);have VU:J ((aG.setCell (ag P 20) (ay 0)).heap[D]?=some (.cells #[I 2,I 0,I 0,I 0,I 0,I 0,I 0,I 0,ad gW j w8,ay 0] dh)):=(jg (fN Ma)).trans aE.out.dP;have axc:N≤1000000000000:=(by omega);have sT:J (N=An p.bO):=(by have h:=gw.out;rw[←a1.out,uo] at h;exact h);go_upto_region 13 with fail;generalize aG.setCell (ag P 20) (ay 0)=gn at j5 iT VU⊢;clear wZ f20 aE KN gw adv cS;have d8:aw gn D 8 (ad gW j w8):=cell_of (i:=8) VU.out rfl;by_cases adx:1000<N
   ·have FA:((N:Int)> 1000):=(by omega);have aE:J (.error 6=res):=U ((aT (by rw[←sT.out];exact adx)).symm.trans eg.out);go_wp2_with fail
    all_goals
     go_ret;rw[←aE.out];exact⟨iT.out.aY,rfl⟩
   have FA:¬((N:Int)> 1000):=(by omega);have lN:J ((if p.bO=[] then .ok {p with bO:=[]} else iM {p with bO:=[]} p.fe (gT (jo (dropped p.bO))))=res):=U ((aK (by rw[←sT.out];exact adx)).symm.trans eg.out);clear eg;by_cases Bi:j=0
   ·subst Bi;have aE:J (.ok {p with bO:=[]}=res):=U ((aT (qz a1.out)).symm.trans lN.out);go_wp2_with fail
    all_goals
     go_ret;rw[←aE.out];exact fm.mJ rfl iT.out
   have axd:(((j:Int)==0):Bool)=false:=(by rw[kO];omega);have uH:J (iM {p with bO:=[]} p.fe (gT (jo (dropped p.bO)))=res):=U ((aK (fun h=>Bi (by rw[←a1.out,h];rfl))).symm.trans lN.out);clear lN;have ve:(dropped p.bO).length=j:=(by rw[hk,a1.out]);have px:∀X,av gn gn X→Calls Tryz.prog 145 #[dv P 0,ai p.fe,.agg #[I 2,I 0,I 0,I 0,I 0,I 0,I 0,I 0,ad gW j w8,ay 0]] X fun e w'=>fm w0 P res e w':=(by intro X dp;have aa:=P0 w0 P _ m L fu _ ov _ ox {p with bO:=[]} p.fe (jo (dropped p.bO)) .nil gW w8 none 0 X (iT.out.below dp) (show Hid _ from⟨j5.out.below dp,.nil _ _ _,by show (dropped p.bO).length≤_;rw[ve];exact pM,bD _⟩) sH EL Ac res uH;have e:(Value.slice gW j w8)=ad gW (dropped p.bO).length w8:=(by rw[ve]);rw[e];exact aa.mono fun _ _ h=>h.res);have b8:=U px;clear px ve j5 uH sH EL Ac;go_upto_region 17 with fail;obtain⟨s0,s1,s2,kT,nm,nn,np,nr,ns,nt⟩:=en VU.out;have Ak:aw gn P 13 (ai p.fe):=cell_of (i:=13) iT.out.pl rfl
   go_region_law (first|(rw[aT (by rfl)];go_simp;go_at_call 145;go_fit (b8.out _ ((Below.refl _ _).drew));intro e cX dk;obtain⟨v6,rfl⟩:=dk.ret)|fail)
   all_goals
    clear s0 s1 s2 kT nm nn np nr ns nt Ak d8;go_wp2_with fail;go_ret;exact dk
end dE
namespace dE
open Go.RowKit el
open cf (C eI)
open jj (kd jk fa hB)
theorem aoV(w0:bTo)(P:Nat)(p:cG)(ca cN cn cC:Int)(db:Bool)(bj dZ d' dO bn:bk)(c7:List Int)(hq:List eI)(dd bv:ada)(w:bTo)(H:J (lF w0 P p w))(bx:nX p)(hs:FT p)(ah:oL p.bO=true→∀c∈p.bO,2≤c.length)
  (BQ:(cN=8∨cN=9∨cN=10∨cN=19)→∀Z,av w w Z→Calls Tryz.prog 96 #[dv P 0,.agg (iy ca cN cn cC db bj dZ d' dO bn dd bv)] Z fun e w'=>fm w0 P (EF p ⟨cN,cn,cC,db,bj,dZ,d',dO,bn,c7,hq⟩) e w')
  (BR:(cN=2∨cN=4∨cN=6∨cN=15∨cN=16∨cN=17)→∀Z,av w w Z→Calls Tryz.prog 97 #[dv P 0,.agg (iy ca cN cn cC db bj dZ d' dO bn dd bv)] Z fun e w'=>fm w0 P (AT p ⟨cN,cn,cC,db,bj,dZ,d',dO,bn,c7,hq⟩) e w')
  (qX:cN=7→∀Z,av w w Z→Calls Tryz.prog 99 #[dv P 0,.agg (iy ca cN cn cC db bj dZ d' dO bn dd bv)] Z fun e w'=>fm w0 P (rr p ⟨cN,cn,cC,db,bj,dZ,d',dO,bn,c7,hq⟩) e w')
  (ab:(cN=1∨cN=18)∨(cN=8∨cN=9∨cN=10∨cN=19)∨(cN=2∨cN=4∨cN=6∨cN=15∨cN=16∨cN=17)∨cN=7∨cN=3∨cN=5) (res:Except Nat cG) (dk:J (lP p ⟨cN,cn,cC,db,bj,dZ,d',dO,bn,c7,hq⟩=res)):
  Calls Tryz.prog 64 #[dv P 0,.agg (iy ca cN cn cC db bj dZ d' dO bn dd bv)] w fun e w'=>fm w0 P res e w':=by
 have BQ:=U BQ;have BR:=U BR;have qX:=U qX;obtain⟨R,m,L,fu,cv,ov,cx,ox,h⟩:=H.out;have H1:=U h;have aV:=U bx;have Qi:=U hs;have O5:=U ah;have cT:=U ab;obtain⟨lf,IM⟩:=az p.ended;have bm:=U IM;obtain⟨rg,qs⟩:=az p.region;have sV:=U qs;clear h H bx hs ah ab IM qs;go_enter Tryz.func64,Tryz.ntmps64;go_upto_region 1 with fail;have b9:=U (H1.out.below (ba w (aD (iy ca cN cn cC db bj dZ d' dO bn dd bv) gP)));have cI:J ((w.alloc (aD (iy ca cN cn cC db bj dZ d' dO bn dd bv) gP)).heap[w.heap.size]?=some (.cells (iy ca cN cn cC db bj dZ d' dO bn dd bv) gP)):=cw _ _;have aH:J (av w w (w.alloc (aD (iy ca cN cn cC db bj dZ d' dO bn dd bv) gP))):=ba _ _;generalize w.alloc (.cells (iy ca cN cn cC db bj dZ d' dO bn dd bv) gP)=W at b9 cI aH⊢;obtain⟨D,bZ⟩:=az w.heap.size;rw[bZ] at cI⊢;clear bZ H1;have IN:aw W P 24 (ai lf):=by rw[←bm.out];exact cell_of (i:=24) b9.out.pl rfl
 have qt:aw W P 19 (ai rg):=by rw[←sV.out];exact cell_of (i:=19) b9.out.pl rfl
 cases lf with
 |true=>
  have hF: .error 4=res:=(by rw[←dk.out];unfold lP;rw[bm.out];rfl);go_wp2_with fail;go_ret;rw[←hF];exact⟨b9.out.aY,rfl⟩
 |false=>
  have d0:=cell_of (i:=0) cI.out rfl;have d1:=cell_of (i:=1) cI.out rfl;have d2:=cell_of (i:=2) cI.out rfl;have d3:=cell_of (i:=3) cI.out rfl;have d4:=cell_of (i:=4) cI.out rfl;have d5:=cell_of (i:=5) cI.out rfl;have d6:=cell_of (i:=6) cI.out rfl;have d7:=cell_of (i:=7) cI.out rfl;have d8:=cell_of (i:=8) cI.out rfl;have d9:=cell_of (i:=9) cI.out rfl;have d10:=cell_of (i:=10) cI.out rfl;have d11:=cell_of (i:=11) cI.out rfl;rcases cT.out with aX|aX|aX|aX|aX|aX
  ·rcases aX with rfl|rfl
   all_goals
    have hF: .ok p=res:=(by rw[←dk.out];unfold lP;rw[bm.out];simp);clear BQ BR qX cT dk;go_wp2_with fail;go_ret;rw[←hF];exact fm.mJ rfl b9.out
  ·have bq:=U (BQ.out aX);have aE:J (EF p ⟨cN,cn,cC,db,bj,dZ,d',dO,bn,c7,hq⟩=res):=by show _=_;rw[←dk.out];unfold lP;rw[bm.out];rcases aX with rfl|rfl|rfl|rfl<;>simp
   rw[aE.out] at bq;clear BQ BR qX cT dk aE;rcases aX with rfl|rfl|rfl|rfl
   all_goals
    go_wp2_with fail;go_fit (bq.out _ aH.out);intro e cX kE;obtain⟨v6,rfl⟩:=kE.ret;clear IN qt d0 d1 d2 d3 d4 d5 d6 d7 d8 d9 d10 d11;go_wp2_with fail;go_ret;exact kE
  ·have bq:=U (BR.out aX);have aE:J ((if rg=true∧(cN=6∨cN=15∨cN=16∨cN=17) then .error 4 else AT p ⟨cN,cn,cC,db,bj,dZ,d',dO,bn,c7,hq⟩)=res):=by show _=_;rw[←dk.out];unfold lP;rw[bm.out,sV.out];rcases aX with rfl|rfl|rfl|rfl|rfl|rfl<;>simp
   clear BQ BR qX cT dk;by_cases af:rg=true∧(cN=6∨cN=15∨cN=16∨cN=17)
   ·have hF: .error 4=res:=(by rw[←aE.out,aT af]);obtain⟨rfl,af⟩:=af;clear bq aE aX;rcases af with rfl|rfl|rfl|rfl
    all_goals
     go_wp2_with fail;go_ret;rw[←hF];exact⟨b9.out.aY,rfl⟩
   ·have e9:J (AT p ⟨cN,cn,cC,db,bj,dZ,d',dO,bn,c7,hq⟩=res):=(by show _=_;rw[←aE.out,aK af]);rw[e9.out] at bq;have hr:(cN=6∨cN=15∨cN=16∨cN=17)→rg=false:=(fun h=>by cases rg;rfl;exact absurd ⟨rfl,h⟩ af);clear aE e9 af;by_cases c0:cN=6∨cN=15∨cN=16∨cN=17
    ·obtain rfl:=hr c0;clear aX hr;rcases c0 with rfl|rfl|rfl|rfl
     all_goals
      go_wp2_with fail;go_fit (bq.out _ aH.out);intro e cX kE;obtain⟨v6,rfl⟩:=kE.ret;clear IN qt d0 d1 d2 d3 d4 d5 d6 d7 d8 d9 d10 d11;go_wp2_with fail;go_ret;exact kE
    ·have N0:cN=2∨cN=4:=(by omega);clear aX hr c0;rcases N0 with rfl|rfl
     all_goals
      go_wp2_with fail;go_fit (bq.out _ aH.out);intro e cX kE;obtain⟨v6,rfl⟩:=kE.ret;clear IN qt d0 d1 d2 d3 d4 d5 d6 d7 d8 d9 d10 d11;go_wp2_with fail;go_ret;exact kE
  ·have bq:=U (qX.out aX);have aE:J (rr p ⟨cN,cn,cC,db,bj,dZ,d',dO,bn,c7,hq⟩=res):=(by show _=_;rw[←dk.out];unfold lP;rw[bm.out];subst aX;simp);rw[aE.out] at bq;clear BQ BR qX cT dk aE;subst aX;go_wp2_with fail;go_fit (bq.out _ aH.out);intro e cX kE;obtain⟨v6,rfl⟩:=kE.ret;clear IN qt d0 d1 d2 d3 d4 d5 d6 d7 d8 d9 d10 d11;go_wp2_with fail;go_ret;exact kE
  ·subst aX;have aE:J ((if rg=db then .error 4 else if db=true then .ok {p with region:=true} else zv {p with region:=false})=res):=(by show _=_;rw[←dk.out];unfold lP;rw[bm.out,sV.out];simp);clear BQ BR qX cT dk;have ua:=U aV.out.Iw;have vl:=U aV.out.an;have aoW:=U aV.out.LS;cases rg<;>cases db
   all_goals
    go_upto_region 31 with fail
    go_quiet (fail)
    have cS:=U (b9.out.below (gj (Below.refl _ _) nq));have kB:=U (aO cI.out (gj (Below.refl _ _) nq));clear IN qt d0 d1 d2 d3 d4 d5 d6 d7 d8 d9 d10 d11;generalize W.drewN nq=ct at cS kB⊢;have g19:=cP cS.out.pl 19;have d4:=cell_of (i:=4) kB.out rfl
   ·have hF: .error 4=res:=aE.out;go_wp2_with fail;go_ret;rw[←hF];exact⟨cS.out.aY,rfl⟩
   ·have hF: .ok {p with region:=true}=res:=aE.out;have qt:aw ct P 19 (ai false):=(by rw[←sV.out];exact cell_of (i:=19) cS.out.pl rfl);have Ma:P≠D:=jb cS.out.pl kB.out (by decide);go_wp2_with fail;go_ret;rw[←hF];exact fm.mJ rfl (cS.out.vr (aL.set (a:=⟨P,19,none⟩) (fun ab=>ab rfl) _) (by have:=c4 (k:=P) (i:=19) (ai true) cS.out.pl;exact this) rfl rfl rfl rfl rfl)
   ·have e9:J (zv {p with region:=false}=res):=aE.out;have qt:aw ct P 19 (ai true):=(by rw[←sV.out];exact cell_of (i:=19) cS.out.pl rfl);have Ma:P≠D:=jb cS.out.pl kB.out (by decide);have aoX:J (lF w0 P {p with region:=false} (ct.setCell (ag P 19) (ai false))):=⟨R,m,L,fu,cv,ov,cx,ox,cS.out.vr (aL.set (a:=⟨P,19,none⟩) (fun ab=>ab rfl) _) (by have:=c4 (k:=P) (i:=19) (ai false) cS.out.pl;exact this) rfl rfl rfl rfl rfl⟩;go_wp2_with fail;go_fit (aoT w0 P {p with region:=false} _ aoX Qi.out O5.out vl.out aoW.out ua.out res e9);intro e cX kE;obtain⟨v6,rfl⟩:=kE.ret;clear qt g19 d4;go_wp2_with fail;go_ret;exact kE
   ·have hF: .error 4=res:=aE.out;go_wp2_with fail;go_ret;rw[←hF];exact⟨cS.out.aY,rfl⟩
  ·subst aX;have aE:J ((if rg=true∨p.levels≠[] then .error 4 else .ok {p with ended:=true})=res):=(by show _=_;rw[←dk.out];unfold lP;rw[bm.out,sV.out];simp);clear BQ BR qX cT dk;cases rg with
   |true=>
    have hF: .error 4=res:=aE.out;go_wp2_with fail;go_ret;rw[←hF];exact⟨b9.out.aY,rfl⟩
   |false=>
    obtain⟨eL,lY,lc,ix,hs,fj,bz⟩:=L;have sS:lY=p.levels.length+1:=b9.out.nU;have LG:aw W P 21 (ad (some (ag eL 0)) lY lc):=cell_of (i:=21) b9.out.pl rfl;have g24:=cP b9.out.pl 24;by_cases aj:p.levels=[]
    ·have hF: .ok {p with ended:=true}=res:=(by rw[←aE.out,aK (by simp[aj])]);have aa:lY=1:=(by rw[sS,aj];rfl);subst aa;clear sS;go_wp2_with fail;go_ret;rw[←hF];exact fm.mJ rfl (b9.out.vr (aL.set (a:=⟨P,24,none⟩) (fun ab=>ab rfl) _) (by have:=c4 (k:=P) (i:=24) (ai true) b9.out.pl;exact this) rfl rfl rfl rfl rfl)
    ·have hF: .error 4=res:=by rw[←aE.out,aT (.inr aj)]
     have aa:1<lY:=by
      cases hc:p.levels with
      |nil=>exact absurd hc aj
      |cons a l=>rw[sS,hc,fK];omega
     have FA:(lY:Int)> 1:=(by omega);clear sS;go_wp2_with fail;go_ret;rw[←hF];exact⟨b9.out.aY,rfl⟩
end dE
