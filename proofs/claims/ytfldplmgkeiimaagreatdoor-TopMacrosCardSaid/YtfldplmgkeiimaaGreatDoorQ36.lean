/- Lemmas. -/
import Derived.Test.YtfldplmgkeiimaaGreatDoorQ35
set_option linter.all false
set_option maxRecDepth 100000
set_option maxHeartbeats 25600000
namespace Go.Proofs.YtfldplmgkeiimaaGreatDoor
abbrev Wc:=@Nat.mul_le_mul
namespace c4
open Go.RowKit dH
def iM(l:List eM):List Value:=l.flatMap fun c=>[I c.1,I c.2]
theorem afS(l:List eM)(c:eM):iM (l++[c])=iM l++[I c.1,I c.2]:=by simp[iM]
abbrev Wd:Value:=.agg #[I 0,I 0]
theorem atS:(Tryz.prog.info? 43).map (fun i=>(i.zero,i.size,i.bytes))=some (some Wd,2,16):=by kernel_rfl
def atT(W:aeo)(sv0 sv:ada):Prop:=∀k,sv.ownBlock=some k→W.heap.size≤k∨sv0.ownBlock=some k
abbrev vx(W:aeo)(bH:Nat)(sv0:ada):Nat→Prop:=fun k=>k<W.heap.size∧k≠bH∧some k≠sv0.ownBlock
structure nU(W:aeo)(bH:Nat)(sv0:ada)(cf a:Int)(sv:ada)(acc:List eM)(x:aeo):Prop where
 k:aQ (vx W bH sv0) W x
 row:∃B,B≤x.heap.size∧x.ownsRow B oE 2 sv acc.length (iM acc)
 inv:atT W sv0 sv
 mt:x.heap[bH]?=some (hk cf a)
variable{W x y w w':aeo}{bH:Nat}{cf a cS:Int}{acc:List eM}
theorem nU.step{sv0 sv:ada}{hq:Int}(h:nU W bH sv0 cf a sv acc x)(ax:aQ (fun k=>k≠bH) x y)(hm:y.heap[bH]?=some (hk cf hq)):nU W bH sv0 cf hq sv acc y:=by
 obtain⟨B,We,hr⟩:=h.row;refine⟨h.k.trans (ax.mono (R:=vx W bH sv0) (fun k _ hs=>hs.2.1)),⟨B,dB We ax.size,?_⟩,h.inv,hm⟩;rcases hr.2 with ⟨aS,aT⟩|⟨b,cap,cur,aS,bL,aJ,av⟩
 ·exact⟨hr.1,.inl ⟨aS,aT⟩⟩
 ·refine⟨hr.1,.inr ⟨b,cap,cur,aS,bL,ax.get ?_ aJ,av⟩⟩;intro e;rw[e,h.mt] at aJ;injection aJ with aJ;injection aJ with _ bB;exact absurd bB (by decide)
theorem nU.below{sv0 sv:ada}(h:nU W bH sv0 cf a sv acc x)(ay:ao x x y):nU W bH sv0 cf a sv acc y:=h.step (aQ.dI ay) (aU h.mt ay)
theorem nU.push{sv0 sv sv':ada}{X:aeo}(h:nU W bH sv0 cf a sv acc X){B g' n' c':Nat}{xs:aev}{c:eM}(hr:X.ownsRow B oE 2 sv n' xs)(ba:X.grownBy y sv.ownBlock)(cI:y.ownsRow B oE 2 sv' (acc.length+1) (iM acc++[I c.1,I c.2]))(bL:B≤X.heap.size)(eJ:sv.ownBlock=some g'∨g'=X.heap.size)(pt:sv'=ad (some (aj g' 0)) (acc.length+1) c'):nU W bH sv0 cf a sv' (acc++[c]) y:=by
 refine⟨h.k.trans (aQ.grown ba (fun k ax hs=>?_)),⟨B,dB bL ba.size,?_⟩,fun k ax=>?_,(ba.block bH (lt_of_heap h.mt) (gJ (oZ hr h.mt (by decide)))).trans h.mt⟩
 ·rcases h.inv k ax with av|av
  ·exact absurd hs.1 (by omega)
  ·exact hs.2.2 av.symm
 ·rw[afS,hl];exact cI
 ·rw[pt] at ax;simp only[Value.ownBlock,mi] at ax;subst ax;rcases eJ with av|av
  ·exact h.inv _ av
  ·exact .inl (by rw[av];exact h.k.size)
theorem nU.outer{sv0 sv:ada}(h:nU W bH sv0 cf a sv acc x)(hK:aQ (fun k=>k≠bH) w W)(hS:∀k,sv0.ownBlock=some k→w.heap.size≤k):aQ (fun k=>k≠bH) w x:=
 ⟨h.k.os.trans hK.os,h.k.tape.trans hK.tape,h.k.output.trans hK.output,dB hK.size h.k.size,fun k ax aA=>(h.k.block k ⟨jN aA hK.size,ax,fun e=>absurd (hS k e.symm) (by omega)⟩ (jN aA hK.size)).trans (hK.block k ax aA)⟩
def Jb(R:afp)(w:aeo)(sv:ada)(l:List eM):Prop:=∃B,w.ownsRow B oE 2 sv l.length (iM l)∧∀k,sv.ownBlock=some k→R k
def w9(bH:Nat)(cf:Int)(w:aeo)(r:Option (List eM)× Int)(e:Ending)(w':aeo):Prop:=
 w'.heap[bH]?=some (hk cf (cf-r.2))∧aQ (fun k=>k≠bH) w w'∧match r.1 with
  |none=>e=ab (.tuple #[J 0,I 6])
  |some l=>∃sv,e=ab (.tuple #[sv,I 0])∧Jb (fun k=>w.heap.size≤k) w' sv l
theorem toNat_lt{n i:Nat}(hn:a.toNat=n)(aT:0≤a):(i<n↔(i:Int)<a):=by omega
theorem QF(h:w.grownBy w' none):ao w w w':=⟨h.os,h.tape,h.output,h.size,fun k ax=>h.block k ax (by simp)⟩
theorem nU.back{t':aeo}{sv0 sv sv':ada}{hq:Int}{afU:List eM}(h:nU W bH sv0 cf a sv acc x)(hx:aQ (fun k=>k≠bH) x t')(g:nU t' bH sv cf hq sv' afU y):nU W bH sv0 cf hq sv' afU y:=by
 have gK:W.heap.size≤t'.heap.size:=dB h.k.size hx.size;refine⟨(h.k.trans (hx.mono (R:=vx W bH sv0) (fun k _ hs=>hs.2.1))).trans (g.k.mono (R:=vx W bH sv0) (fun k _ hs=>⟨jN hs.1 gK,hs.2.1,fun e=>?_⟩)),g.row,fun k ax=>?_,g.mt⟩
 ·rcases h.inv k e.symm with av|av
  ·exact absurd hs.1 (by omega)
  ·exact hs.2.2 av.symm
 ·rcases g.inv k ax with av|av
  ·exact .inl (dB gK av)
  ·exact h.inv k av
theorem nU.put{sv0 sv:ada}{dc:aeo}(h:nU W bH sv0 cf a sv acc x){c i:Nat}{cs:ajv}(hWIs:W.heap.size≤dc.heap.size)(hc:dc.heap.size≤c)(bn:an x c cs oE)(ba:bH<dc.heap.size)(d':∀k,sv.ownBlock=some k→k≠c)(u:ada):nU W bH sv0 cf a sv acc (x.setCell (aj c i) u):=by obtain⟨B,We,hr⟩:=h.row;refine⟨h.k.w6 (by omega) u,⟨B,dB We (by simp[World.setCell]),AN hr (Kq x c i u) (.inr (fun e=>d' c e rfl))⟩,h.inv,(mw (by omega)).trans h.mt⟩
theorem atU(v:iA)(x y:Nat):(mR v x y).aG -(mR v x y).aD=v.ht∧(mR v x y).aE -(mR v x y).aC=v.ht:=by simp only[mR];omega
theorem atV{b:bO}(h:(b.aD≤b.aG∧b.aC≤b.aE)∧(-536870912≤b.aD∧b.aG≤536870912)∧(-536870912≤b.aC∧b.aE≤536870912)):okB b=true:=by simp only[okB,sP,ix,iO];omega
variable{v:iA}
theorem atW(aS:pZ v=true){x y:Nat}(hx:(x:Int)<v.w)(hy:(y:Int)<v.h):okB (mR v x y)=true:=by
 obtain⟨⟨d0,d6⟩,⟨gf,e8⟩,⟨a0,bE⟩,⟨cy,cE⟩,⟨aD,aG⟩,⟨aC,aE⟩,eC⟩:=F7 aS;obtain⟨av,az,aF,bk,b9⟩:=Qw eC;simp only at av az aF bk b9;have a1:0≤(x:Int) *v.ht:=gW (by omega) (by omega);have a6:0≤(v.w-1-x) *v.ht:=gW (by omega) (by omega);have ch:(v.w-1-x) *v.ht=v.w *v.ht-v.ht-x *v.ht:=by grind
 have f1:0≤(v.h-1 -(y:Int)) *v.ht:=gW (by omega) (by omega);have f2:0≤(y:Int) *v.ht:=gW (by omega) (by omega);have f3:(v.h-1 -(y:Int)) *v.ht=v.h *v.ht-v.ht-y *v.ht:=by grind
 refine atV ?_;simp only[mR];omega
theorem atX(aS:pZ v=true):v.ht%2^v.depth.toNat=0∧0<v.ht:=by
 have h:=aS;obtain⟨_,⟨gf,_⟩,_⟩:=F7 aS;unfold pZ at h;split at h
 ·cases h
 ·split at h
  ·cases h
  ·rename_i az;exact⟨by omega,by omega⟩
theorem atY(v:iA)(g:List eB)(y k x:Nat)(acc:List eM)(m:Int){o:Option eM}(h:n1 v.depth.toNat (fj g (mR v x y)) (mR v x y) m=(o,cS)):oL v g y (k+1) x acc m=o.elim (none,cS) (fun c=>oL v g y k (x+1) (acc++[c]) cS):=by rw[oL,h];cases o<;>rfl
theorem atZ(v:iA)(g:List eB)(k y:Nat)(acc:List eM)(m:Int){o:Option (List eM)}(h:oL v (fj g (sW v y)) y v.w.toNat 0 acc m=(o,cS)):q1 v g (k+1) y acc m=o.elim (none,cS) (fun a=>q1 v g k (y+1) a cS):=by rw[q1,h];cases o<;>rfl
abbrev Wf(W:aeo)(bH g0:Nat)(cY:Int)(g:Nat)(p q:Ja)(n c e:Nat)(mL:Nat)(a0 bE a2 a3:Int)(Z:aeo):Prop:=
 Z.cell? ⟨g0,5,none⟩=some (I cY)∧QD W bH g p q n c e mL a0 bE a2 a3 Z
theorem at0{Z:aeo}{g0:Nat}{g:Nat}{p q:Ja}{n c e:Nat}{mL:Nat}{a0 bE a2 a3:Int}(aS:W.heap[g0]?=some (vu v))(ba:an W g (lG p n c q e) je)(ay:W.heap[mL]?=some (cU ⟨a0,bE,a2,a3⟩))(n0:g0≠bH)(dy:g≠bH)(eU:mL≠bH)(ax:aQ (fun k=>k≠bH) W Z):Wf W bH g0 v.depth g p q n c e mL a0 bE a2 a3 Z:=
 ⟨cell_of (ax.get n0 aS) rfl,afF ba ay dy eU ax⟩
theorem at1(S:afp)(l:List dx)(aA:∀o∈l,qE o.2)(p:Ja)(n c:Nat)(hn:n=l.length)(v:iA)(aS:pZ v=true)(bH:Nat)(hS:¬S bH)(cf m:Int)(hm:0≤m∧m≤cf∧cf≤100000000)(w:aeo)(H:af (h9 S w p l))(bM:af (w.heap[bH]?=some (hk cf (cf-m))))(r:Option (List eM)× Int)(hr:af (sX l v m=r)):
    Calls Tryz.prog 60 #[ad p n c,F6 v,ah bH 0] w (w9 bH cf w r):=by
  have dT:=aq aA;have bf:=aq hn;have b0:=aq aS;have I9:=aq hS;have xI:=aq hm;have tX:=aq (lt_of_heap bM.out);obtain⟨⟨d0,d6⟩,⟨gf,e8⟩,⟨a0,bE⟩,⟨cy,cE⟩,⟨at2,at3⟩,⟨at4,at5⟩,eC⟩:=F7 aS;have nP:=aq eC;have AQ:=hr.out;unfold sX at AQ;clear aA hn aS hS hm eC;obtain⟨cM,cN,cq,cg,du,cY⟩:=v;simp only at d0 d6 gf e8 a0 bE cy cE at2 at3 at4 at5 AQ;obtain⟨wn,at6⟩:∃n,cg.toNat=n:=⟨_,rfl⟩;obtain⟨BE,afV⟩:∃n,du.toNat=n:=⟨_,rfl⟩;have MH:=aq at6;have afW:=aq afV;rw[afV] at AQ;have bq:=aq AQ;clear AQ;have Mr:1≤cg *du∧cg *du≤65536:=(by have a1:0≤(cg-1) *du:=gW (by omega) (by omega);have a6:0≤(256-cg) *du:=gW (by omega) (by omega);have ch:(cg-1) *du=cg *du-du:=(by grind);have gw:(256-cg) *du=256 *du-cg *du:=(by grind);omega);obtain⟨C,oR⟩:∃C,cg *du=C:=⟨_,rfl⟩;rw[oR] at Mr;have ayF:ae (cg *du)=C:=(by rw[oR];exact cX _ (by omega));have ld:af (C=(C.toNat:Int)):=(by show _=_;omega);have ayG:C.toNat≤65536:=(by omega);clear oR;go_enter Tryz.func60,Tryz.ntmps60;go_wp2_with fail;have yk:af ((w.alloc (vu ⟨cM,cN,cq,cg,du,cY⟩)).heap[w.heap.size]?=some (vu ⟨cM,cN,cq,cg,du,cY⟩)):=cd _ _;have aO:af (ao w w (w.alloc (vu ⟨cM,cN,cq,cg,du,cY⟩))):=a' _ _;generalize w.alloc (vu ⟨cM,cN,cq,cg,du,cY⟩)=W at yk aO⊢;with_reducible refine (QC ⟨cM,cN,cq,cg,du,cY⟩ true b0 _).mono ?_
  rintro e ck ⟨rfl,ay⟩;have afX:=aq (aU yk.out ay);have c6:af (ao w w ck):=aO.out.trans (ay.mono aO.out.size);clear ay yk aO;go_wp2_with fail;with_reducible refine (atj S l dT.out p n c bf.out _ (aq (H.out.below c6.out))).mono ?_
  rintro e cm ⟨ig,c',iH,fA,rfl,xS,ay⟩;have Wg:=aq (aU afX.out ay);have cP:af (ao w w cm):=c6.out.trans (ay.mono c6.out.size);have ED:=aq xS;have ayH:=aq ay.size;clear ay xS afX;go_upto_region 4 with fail;obtain⟨G,Dw⟩:∃G,jM l=G:=⟨_,rfl⟩;have at7:af (∀e∈G,qE e.o.2):=(by intro e he;rw[←Dw] at he;obtain⟨o,bl,xw⟩:=List.mem_filterMap.1 he;obtain⟨b,_,rfl⟩:=Option.map_eq_some_iff.1 xw;exact dT.out o bl);rw[Dw] at ED bq⊢;clear Dw;have MI:=aq (aU Wg.out (a' cm (ai (lG ig G.length c' iH fA) je)));have dk:af (ao w w (cm.alloc (ai (lG ig G.length c' iH fA) je))):=cP.out.trans ((a' _ _).mono cP.out.size);have Wh:=aq (ED.out.below (a' cm (ai (lG ig G.length c' iH fA) je)));have MJ:af ((cm.alloc (ai (lG ig G.length c' iH fA) je)).heap[cm.heap.size]?=some (.cells (lG ig G.length c' iH fA) je)):=cd _ _;have MK:af (w.heap.size<cm.heap.size):=lt_of_heap Wg.out;change Code.wp _ _ _ _ (cm.alloc (ai (lG ig G.length c' iH fA) je));generalize cm.alloc (.cells (lG ig G.length c' iH fA) je)=dt at MI dk Wh MJ⊢;obtain⟨aua,zv⟩:∃B,cm.heap.size=B:=⟨_,rfl⟩;rw[zv] at MJ MK⊢;clear zv Wg cP ED;obtain⟨i0,hi,dE,dP,dq⟩:=info_parts atS;have bZ:=aq (And.intro hi (And.intro dE (And.intro dP dq)));clear hi dE dP dq;obtain⟨v0,v1,v2,v3,v4,v5⟩:=BA MI.out;go_upto_region 5 with (first|(refine O4 _ rfl _ _ _ rfl dt.heap.size oE i0 Wd 2 Tryz.underlying36 bZ.out.1 bZ.out.2.1 bZ.out.2.2.1 .i64 .i64 C C.toNat (by rfl) (by rfl) ld.out (by rw[bZ.out.2.2.2];omega) (by unfold maxLen;omega) (bx _) ?_;intro dG cI A1));have iU:=QF A1;obtain⟨sv0,Jc⟩:∃s,Value.slice (some (aj dt.heap.size 0)) 0 C.toNat=s:=⟨_,rfl⟩
  have afY:af (my (vx dG bH sv0) dt ig iH G):=by
    refine Wh.out.mono (fun k ax hs=>⟨jN ax iU.size,?_,?_⟩)
    · rcases hs with hs|hs
      · intro e;exact I9.out (e ▸ hs)
      · have:=tX.out;have:=c6.out.size;omega
    · rw[←Jc];intro e;simp only[Value.ownBlock,mi] at e;omega
  have aub:=aq (afY.out.below iU);have QG:=aq (aU MI.out iU);have auc:=aq (aU MJ.out iU);have AW:=dk.out.size;have ML:af (vx dG bH sv0 w.heap.size∧vx dG bH sv0 aua):=(by have av:=lt_of_heap MI.out;have az:=lt_of_heap MJ.out;have aF:=tX.out;have bk:=MK.out;have b9:=iU.size;refine⟨⟨by omega,by omega,?_⟩,⟨by omega,by omega,?_⟩⟩<;>(rw[←Jc];intro e;simp only[Value.ownBlock,mi] at e;omega));have ra:af (nU dG bH sv0 cf (cf-m) sv0 [] dG):=(by refine⟨aQ.refl _ _,⟨dt.heap.size,iU.size,by rw[←Jc];exact cI⟩,fun k ax=>.inr ax,aU (aU bM.out dk.out) iU⟩);have kf:af (aQ (fun k=>k≠bH) w dG):=aQ.dI (dk.out.trans (iU.mono dk.out.size));have rr:af (∀k,sv0.ownBlock=some k→w.heap.size≤k):=(by intro k ax;rw[←Jc] at ax;simp only[Value.ownBlock,mi] at ax;omega);rw[Jc];clear Jc cI A1 iU AW MI dk Wh MJ afY v0 v1 v2 v3 v4 v5;obtain⟨v0,v1,v2,v3,v4,v5⟩:=BA QG.out;go_wp2_with fail;clear v0 v1 v2 v3 v4 v5
  go_loopw [9,34] (fun EY i wr=>∃(j:Nat) (sv:ada) (acc:List eM) (m1:Int) (aK:aeo),aK=wr∧j≤BE∧0≤m1∧m1≤m∧acc.length=j *wn∧sv=EY∧i=I j∧af (q1 ⟨cM,cN,cq,cg,du,cY⟩ G (BE-j) j acc m1=r)∧af (nU dG bH sv0 cf (cf-m1) sv acc aK)) (fun _ i _=>BE -(intOf i).toNat)
  case atStart=>exact⟨0,sv0,[],m,_,rfl,eE _,xI.out.1,oJ _,by simp,rfl,rfl,bq.out,ra.out⟩
  case round=>
  obtain⟨j,sv,acc,m1,aK,rfl,cr,afL,atJ,aud,rfl,rfl,df,cC⟩:=hrel;by_cases b1:j<BE
  · have AI:(j:Int)<du:=by have:=afW.out;omega
    have A0:BE-j=(BE -(j+1))+1:=(by omega);obtain⟨⟨ro,Gc⟩,d'⟩:∃o,oL ⟨cM,cN,cq,cg,du,cY⟩ (fj G (sW ⟨cM,cN,cq,cg,du,cY⟩ j)) j wn 0 acc m1=o:=⟨_,rfl⟩;have afZ:=aq d';have ja:af (ro.elim (none,Gc) (fun a=>q1 ⟨cM,cN,cq,cg,du,cY⟩ G (BE -(j+1)) (j+1) a Gc)=r):=(by show _=_;rw[←df.out,A0];exact (atZ ⟨cM,cN,cq,cg,du,cY⟩ G _ j acc m1 (by show oL _ _ _ cg.toNat _ _ _=_;rw[MH.out];exact d')).symm);obtain⟨⟨s0,s1,s2,ss⟩,Wi⟩:∃b,mR ⟨cM,cN,cq,cg,du,cY⟩ 0 j=b:=⟨_,rfl⟩;obtain⟨⟨t0,t1,t2,t3⟩,Wj⟩:∃b,mR ⟨cM,cN,cq,cg,du,cY⟩ (wn-1) j=b:=⟨_,rfl⟩;have Fo:af (sW ⟨cM,cN,cq,cg,du,cY⟩ j=⟨s0,s1,t2,t3⟩):=(by show _=_;simp only[sW];rw[MH.out,Wi,Wj]);have By:af (∀Z,Calls Tryz.prog 85 #[F6 ⟨cM,cN,cq,cg,du,cY⟩,I 0,I (j:Int)] Z fun e w'=>e=ab (.tuple #[h7 ⟨s0,s1,s2,ss⟩,U true])∧ao Z Z w'):=(fun Z=>by rw[←Wi];exact V3 ⟨cM,cN,cq,cg,du,cY⟩ b0.out 0 j (by show (0:Int)<cg;omega) AI Z);have oY:cg-1=((wn-1:Nat):Int):=(by have:=MH.out;omega);have kA:af (∀Z,Calls Tryz.prog 85 #[F6 ⟨cM,cN,cq,cg,du,cY⟩,I (cg-1),I (j:Int)] Z fun e w'=>e=ab (.tuple #[h7 ⟨t0,t1,t2,t3⟩,U true])∧ao Z Z w'):=(fun Z=>by rw[←Wj,oY];exact V3 ⟨cM,cN,cq,cg,du,cY⟩ b0.out (wn-1) j (by show ((wn-1:Nat):Int)<cg;omega) AI Z);have ayI:ae (cg-1)=cg-1:=cX _ (by omega);clear d' Wi Wj oY;obtain⟨v0,v1,v2,v3,v4,v5⟩:=BA (cC.out.k.get ML.out.1 QG.out);go_wp2_with fail;with_reducible refine (By.out _).mono ?_
    rintro e MM ⟨rfl,l0⟩;have jn:=aq l0;clear v0 v1 v2 v3 v4 v5 l0;go_upto_region 9 with fail;have lb:af (ao aK aK (MM.alloc (cU ⟨s0,s1,s2,ss⟩))):=jn.out.trans ((a' _ _).mono jn.out.size);have eV:af ((MM.alloc (cU ⟨s0,s1,s2,ss⟩)).heap[MM.heap.size]?=some (cU ⟨s0,s1,s2,ss⟩)):=cd _ _;generalize MM.alloc (cU ⟨s0,s1,s2,ss⟩)=oB at lb eV⊢;obtain⟨QH,af0⟩:∃B,MM.heap.size=B:=⟨_,rfl⟩;rw[af0] at eV⊢;clear af0 jn;obtain⟨v0,v1,v2,v3,v4,v5⟩:=BA (aU (cC.out.k.get ML.out.1 QG.out) lb.out);go_wp2_with fail;with_reducible refine (kA.out _).mono ?_
    rintro e vl ⟨rfl,wO⟩;have ih:af (ao aK aK vl):=lb.out.trans (wO.mono lb.out.size);have uE:=aq (aU eV.out wO);clear v0 v1 v2 v3 v4 v5 wO lb eV;go_upto_region 10 with fail;have og:af (ao aK aK (vl.alloc (cU ⟨t0,t1,t2,t3⟩))):=ih.out.trans ((a' _ _).mono ih.out.size);have xD:=aq (aU uE.out (a' vl (cU ⟨t0,t1,t2,t3⟩)));have QI:af ((vl.alloc (cU ⟨t0,t1,t2,t3⟩)).heap[vl.heap.size]?=some (cU ⟨t0,t1,t2,t3⟩)):=cd _ _;generalize vl.alloc (cU ⟨t0,t1,t2,t3⟩)=ayJ at og xD QI⊢;obtain⟨QJ,af1⟩:∃B,vl.heap.size=B:=⟨_,rfl⟩;rw[af1] at QI⊢;clear af1 ih uE;obtain⟨f0,f1,f2,f3⟩:=hb xD.out;obtain⟨g0,g1,g2,g3⟩:=hb QI.out;obtain⟨bQ,bU⟩:=o1 (aU (cC.out.k.get ML.out.2 auc.out) og.out);go_wp2_with fail;with_reducible refine (Kx (vx dG bH sv0) G ig iH G.length c' fA ⟨s0,s1,t2,t3⟩ rfl _ (aq ((aub.out.keep cC.out.k).below og.out))).mono ?_
    rintro e yx ⟨dN,aI,cj,d2,rfl,K8,tS⟩;have Wk:=aq K8;have wH:af (ao aK aK yx):=og.out.trans (tS.mono og.out.size);have aue:=og.out.size;clear f0 f1 f2 f3 g0 g1 g2 g3 bQ bU xD QI K8;go_upto_region 11 with fail;obtain⟨mM,QK⟩:∃mM,fj G ⟨s0,s1,t2,t3⟩=mM:=⟨_,rfl⟩;rw[Fo.out,QK] at afZ;have fQ:af (∀e∈mM,qE e.o.2):=fun e he=>at7.out e (by rw[←QK] at he;exact (List.mem_filter.1 he).1);rw[QK] at Wk⊢;have CS:af (ao aK aK (yx.alloc (ai (lG dN mM.length aI cj d2) je))):=wH.out.trans ((a' _ _).mono wH.out.size);have MN:af ((yx.alloc (ai (lG dN mM.length aI cj d2) je)).heap[yx.heap.size]?=some (.cells (lG dN mM.length aI cj d2) je)):=cd _ _;have Wl:=aq (Wk.out.below (a' yx (ai (lG dN mM.length aI cj d2) je)));have af2:aK.heap.size≤yx.heap.size:=wH.out.size;change Code.wp _ _ _ _ (yx.alloc (ai (lG dN mM.length aI cj d2) je));generalize yx.alloc (.cells (lG dN mM.length aI cj d2) je)=t' at CS MN Wl⊢;obtain⟨QL,af3⟩:∃B,yx.heap.size=B:=⟨_,rfl⟩;rw[af3] at MN af2⊢;clear af3 Wk wH QK;have af4:=aq (cC.out.below CS.out);have af5:=cC.out.inv;have Wm:∀k,sv.ownBlock=some k→k<aK.heap.size:=by obtain⟨B,_,hr⟩:=cC.out.row;exact fun k ax=>(hr.lt k ax).2
    have vo : ∀ k, vx dG bH sv0 k → vx t' bH sv k := fun k hs => ⟨jN hs.1 (dB cC.out.k.size CS.out.size),hs.2.1,fun e=>by
      rcases af5 k e.symm with av|av
      · exact absurd hs.1 (by omega)
      · exact hs.2.2 av.symm⟩
    have ayK:=lt_of_heap cC.out.mt
    have auf : af (my (vx t' bH sv) t' dN cj mM) := Wl.out.mono (fun k ax hs=>by
      rcases hs with hs|hs
      · exact vo k hs
      · exact⟨ax,by omega,fun e=>by have:=Wm k e.symm;omega⟩)
    have MO:af (vx t' bH sv w.heap.size∧vx t' bH sv QL):=⟨vo _ ML.out.1,lt_of_heap MN.out,by omega,fun e=>by have:=Wm _ e.symm;omega⟩;have Wn:=aq (aU (cC.out.k.get ML.out.1 QG.out) CS.out);have aug:af (nU t' bH sv cf (cf-m1) sv acc t'):=⟨aQ.refl _ _,af4.out.row,fun k ax=>.inr ax,af4.out.mt⟩;have af6:af (aQ (fun k=>k≠bH) aK t'):=aQ.dI CS.out;clear af5 Wm vo af2 Wl Fo By kA aue og;obtain⟨v0,v1,v2,v3,v4,v5⟩:=BA Wn.out;go_wp2_with fail;clear v0 v1 v2 v3 v4 v5;obtain⟨Jd,Wo⟩:∃Jd,mM.length=Jd:=⟨_,rfl⟩;have q8:=aq Wo.symm;rw[Wo] at MN⊢;clear Wo
    go_loopw [9,65] (fun EY i wr=>∃(x:Nat) (zz:ada) (ry:List eM) (m2:Int) (cD:aeo),cD=wr∧x≤wn∧0≤m2∧m2≤m1∧ry.length=acc.length+x∧zz=EY∧i=I x∧af (oL ⟨cM,cN,cq,cg,du,cY⟩ mM j (wn-x) x ry m2=(ro,Gc))∧af (nU t' bH sv cf (cf-m2) zz ry cD)) (fun _ i _=>wn -(intOf i).toNat)
    case atStart=>exact⟨0,sv,acc,m1,_,rfl,eE _,afL,oJ _,rfl,rfl,rfl,afZ.out,aug.out⟩
    case round=>
    obtain⟨x,zz,ry,m2,cD,rfl,hx,af7,ayL,af8,rfl,rfl,af9,aX⟩:=hrel;by_cases ayM:x<wn
    · have aga:(x:Int)<cg:=by have:=MH.out;omega
      have auh:wn-x=(wn -(x+1))+1:=(by omega);obtain⟨⟨a0,bE,a2,a3⟩,QM⟩:∃b,mR ⟨cM,cN,cq,cg,du,cY⟩ x j=b:=⟨_,rfl⟩;have p9:=atW b0.out (x:=x) (y:=j) aga AI;have iF:=atU ⟨cM,cN,cq,cg,du,cY⟩ x j;rw[QM] at p9 iF;obtain⟨zk,zl⟩:∃n,cY.toNat=n:=⟨_,rfl⟩;have vi:=atX b0.out;simp only at iF vi;rw[zl] at vi;have aui:=aq p9;have I8:af ((a2-a0)%2^zk=0∧0<a2-a0):=(by rw[iF.1];exact vi);have auj:af ((a3-bE)%2^zk=0∧0<a3-bE):=(by rw[iF.2];exact vi);obtain⟨⟨fW,m6⟩,cW⟩:∃p6,n1 zk (fj mM ⟨a0,bE,a2,a3⟩) ⟨a0,bE,a2,a3⟩ m2=p6:=⟨_,rfl⟩;have zN:=aq cW;have G3:af (fW.elim (none,m6) (fun c=>oL ⟨cM,cN,cq,cg,du,cY⟩ mM j (wn -(x+1)) (x+1) (ry++[c]) m6)=(ro,Gc)):=(by show _=_;rw[←af9.out,auh];exact (atY ⟨cM,cN,cq,cg,du,cY⟩ mM j _ x ry m2 (by show n1 cY.toNat _ _ _=_;rw[QM,zl];exact cW)).symm);obtain⟨pf,MC⟩:∃pf:Int,(if fW.isNone=true then 6 else 0)=pf:=⟨_,rfl⟩;obtain⟨⟨dV,dW⟩,mY⟩:∃c:eM,fW.getD (0,0)=c:=⟨_,rfl⟩;have BC:=aq MC;have ve:=aq mY;have Wp:af (cY=(zk:Int)):=(by show _=_;omega);have auk:af (∀Z,Calls Tryz.prog 85 #[F6 ⟨cM,cN,cq,cg,du,cY⟩,I (x:Int),I (j:Int)] Z fun e w'=>e=ab (.tuple #[h7 ⟨a0,bE,a2,a3⟩,U true])∧ao Z Z w'):=(fun Z=>by rw[←QM];exact V3 ⟨cM,cN,cq,cg,du,cY⟩ b0.out x j aga AI Z);clear cW MC mY QM p9 iF vi zl;obtain⟨v0,v1,v2,v3,v4,v5⟩:=BA (aX.out.k.get MO.out.1 Wn.out);go_wp2_with fail;with_reducible refine (auk.out _).mono ?_
      rintro e tV ⟨rfl,I'⟩;have Lm:=aq (aX.out.below I');have aul:=I'.size;clear v0 v1 v2 v3 v4 v5 I';go_upto_region 15 with fail;have tZ:=aq (Lm.out.below (a' tV (cU ⟨a0,bE,a2,a3⟩)));have sy:af ((tV.alloc (cU ⟨a0,bE,a2,a3⟩)).heap[tV.heap.size]?=some (cU ⟨a0,bE,a2,a3⟩)):=cd _ _;have aum:=lt_of_heap Lm.out.mt;have MP:t'.heap.size≤(tV.alloc (cU ⟨a0,bE,a2,a3⟩)).heap.size:=tZ.out.k.size;change Code.wp _ _ _ _ (tV.alloc (cU ⟨a0,bE,a2,a3⟩));generalize tV.alloc (cU ⟨a0,bE,a2,a3⟩)=dc at tZ sy MP⊢;obtain⟨mL,ME⟩:∃B,tV.heap.size=B:=⟨_,rfl⟩;rw[ME] at sy aum aul⊢;have zv:mL≠bH:=(by omega);have w1:w.heap.size≠bH:=MO.out.1.2.1;have aun:QL≠bH:=MO.out.2.2.1;have auo:=aq (tZ.out.k.get MO.out.1 Wn.out);have tO:=aq (tZ.out.k.get MO.out.2 MN.out);have agb:af (my (fun k=>k≠bH) dc dN cj mM):=(auf.out.keep tZ.out.k).mono (fun k _ hs=>hs.2.1);have bz:af (∀Z,aQ (fun k=>k≠bH) dc Z→Wf dc bH w.heap.size cY QL dN cj Jd aI d2 mL a0 bE a2 a3 Z):=fun Z ax=>at0 (v:=⟨cM,cN,cq,cg,du,cY⟩) auo.out tO.out sy.out w1 aun zv ax;have yI:af (aQ (fun k=>k≠bH) dc dc.drew):=aQ.dI (Below.refl _ _).drew;have kM:af (aQ (fun k=>k≠bH) dc (dc.alloc (gj 0 0)).drew):=aQ.dI (a' _ _).drew;have l2:=aq (bz.out _ (aQ.refl _ _));have oi:=aq (bz.out _ yI.out);have ES:af (my (fun k=>k≠bH) dc.drew dN cj mM):=agb.out.keep yI.out;have Mt:af (my (fun k=>k≠bH) (dc.alloc (gj 0 0)).drew dN cj mM):=agb.out.keep kM.out;have wW:af (dc.drew.heap[bH]?=some (hk cf (cf-m2))):=tZ.out.mt;have wg:af ((dc.alloc (gj 0 0)).drew.heap[bH]?=some (hk cf (cf-m2))):=aU tZ.out.mt (a' _ _).drew;have aup:af ((dc.alloc (gj 0 0)).drew.heap[dc.heap.size]?=some (gj 0 0)):=cd _ _;have F8:bH<dc.heap.size:=lt_of_heap tZ.out.mt;have zL:af (∀k,(k≠bH∨dc.drew.heap.size≤k)→k≠bH):=fun k h=>h.elim id (fun h=>by have az:dc.heap.size≤k:=h;omega);have se:af (∀k,(k≠bH∨(dc.alloc (gj 0 0)).drew.heap.size≤k)→k≠bH):=fun k h=>h.elim id (fun h=>by have az:=dB (a' dc (gj 0 0)).size h;omega);have Wa:dc.heap.size≠bH:=(by omega);have QN:∀c,dc.heap.size≤c→∀k,zz.ownBlock=some k→k≠c:=(by obtain⟨B,_,hr⟩:=tZ.out.row;exact fun c hc k ax=>by have:=(hr.lt k ax).2;omega);have MF:af (∀(sI iL:Ja) (bX lf:Nat) (Z:aeo),my (fun k=>k≠bH) Z sI iL (fj mM ⟨a0,bE,a2,a3⟩)→Z.heap[bH]?=some (hk cf (cf-m2))→Calls Tryz.prog 87 #[.agg (lG sI (fj mM ⟨a0,bE,a2,a3⟩).length bX iL lf),h7 ⟨a0,bE,a2,a3⟩,I cY,ah bH 0] Z (BB bH cf Z (fW,m6))):=(by intro sI iL bX lf Z ba bn;rw[Wp.out];exact atG 7 zk (by have:=Wp.out;omega) (by have:=Wp.out;omega) (fun k=>k≠bH) (fj mM ⟨a0,bE,a2,a3⟩) (fun e he=>fQ.out e (List.mem_filter.1 he).1) sI iL _ bX lf rfl ⟨a0,bE,a2,a3⟩ aui.out I8.out auj.out bH (fun h=>h rfl) cf m2 (by have:=xI.out;omega) Z (aq ba) (aq bn) (fW,m6) zN);clear ME
      go_region_held3 (fun Z => Wf dc bH w.heap.size cY QL dN cj Jd aI d2 mL a0 bE a2 a3 Z) (first | with_reducible exact l2.out | with_reducible exact oi.out | with_reducible exact bz.out _ kM.out | with_reducible exact bz.out _ (((mg.w6 kW.size _).w6 kW.size _)) | with_reducible exact bz.out _ (((mg.w6 (bx _) _).w6 (bx _) _)) | with_reducible exact bz.out _ (mg.trans (aQ.alloc _ _ _)) | with_reducible exact bz.out _ mg | with_reducible exact bz.out _ (kW.trans (aQ.alloc _ _ _)) | with_reducible exact bz.out _ kW | assumption | (trace_state; fail)) (first
        |(go_at_call 86;with_reducible refine (Kx (fun k=>k≠bH) mM dN cj Jd aI d2 ⟨a0,bE,a2,a3⟩ q8.out dc.drew ES).mono ?_;rintro e gR ⟨sI,bX,iL,lf,rfl,vw,nr⟩;have kW:=yI.out.trans (aQ.dI nr);have F9:=aU wW.out nr;have F':=vw.mono (fun k _ h=>zL.out k h);clear vw)
        |(go_at_call 86;with_reducible refine (Kx (fun k=>k≠bH) mM dN cj Jd aI d2 ⟨a0,bE,a2,a3⟩ q8.out (dc.alloc (gj 0 0)).drew Mt).mono ?_;rintro e gR ⟨sI,bX,iL,lf,rfl,vw,nr⟩;have kW:=kM.out.trans (aQ.dI nr);have F9:=aU wg.out nr;have F':=vw.mono (fun k _ h=>se.out k h);have Wb:=aU aup.out nr;clear vw)
        |(go_at_call 87;with_reducible refine (MF.out sI iL bX lf gR F' F9).mono ?_;intro e gH hJ;obtain⟨Ga,BD,yJ⟩:=BB.get hJ ve.out BC.out;subst Ga;have mg:=kW.trans yJ;try (have ns:=yJ.get Wa Wb;obtain⟨z0,z1⟩:=pg ns;have nR:=cR ns))
        |(go_at_call 87;with_reducible refine (MF.out sI iL bX lf (gR.alloc (gj 0 0)) (F'.below (a' _ _)) (aU F9 (a' _ _))).mono ?_;intro e gH hJ;obtain⟨Ga,BD,yJ⟩:=BB.get hJ ve.out BC.out;subst Ga;have mg:=(kW.trans (aQ.alloc _ _ _)).trans yJ;have ns:=yJ.get (afE kW.size F8) (cd gR (gj 0 0));obtain⟨z0,z1⟩:=pg ns;have nR:=cR ns))
      all_goals
        first
          | (change Exit.then _ _ _ _ (gH.alloc (gj dV dW))
             have qq:=aq ((tZ.out.step mg BD).below (a' gH (gj dV dW)));have kV:af ((gH.alloc (gj dV dW)).heap[gH.heap.size]?=some (gj dV dW)):=cd _ _;generalize gH.alloc (gj dV dW)=w8 at qq kV⊢;obtain⟨MG,qT⟩:∃B,gH.heap.size=B:=⟨_,rfl⟩;rw[qT] at kV⊢;clear qT)
          | (change Exit.then _ _ _ _ ((gH.setCell (aj gR.heap.size 0) (I dV)).setCell (aj gR.heap.size 1) (I dW))
             have qq:=aq (((tZ.out.step mg BD).put (hWIs:=MP) (c:=gR.heap.size) (i:=0) (hc:=kW.size) ns F8 (QN _ kW.size) (I dV)).put (hWIs:=MP) (c:=gR.heap.size) (i:=1) (hc:=kW.size) (dL _ ns) F8 (QN _ kW.size) (I dW));have kV:af (((gH.setCell (aj gR.heap.size 0) (I dV)).setCell (aj gR.heap.size 1) (I dW)).heap[gR.heap.size]?=some (gj dV dW)):=oU [I dV,I dW] ns rfl;generalize (gH.setCell (aj gR.heap.size 0) (I dV)).setCell (aj gR.heap.size 1) (I dW)=w8 at qq kV⊢;clear z0 z1 nR ns;obtain⟨MG,qT⟩:∃B,gR.heap.size=B:=⟨_,rfl⟩;rw[qT] at kV⊢;clear qT)
          | (change Exit.then _ _ _ _ ((gH.setCell (aj dc.heap.size 0) (I dV)).setCell (aj dc.heap.size 1) (I dW))
             have qq:=aq (((tZ.out.step mg BD).put (hWIs:=MP) (c:=dc.heap.size) (i:=0) (hc:=bx _) ns F8 (QN _ (bx _)) (I dV)).put (hWIs:=MP) (c:=dc.heap.size) (i:=1) (hc:=bx _) (dL _ ns) F8 (QN _ (bx _)) (I dW));have kV:af (((gH.setCell (aj dc.heap.size 0) (I dV)).setCell (aj dc.heap.size 1) (I dW)).heap[dc.heap.size]?=some (gj dV dW)):=oU [I dV,I dW] ns rfl;generalize (gH.setCell (aj dc.heap.size 0) (I dV)).setCell (aj dc.heap.size 1) (I dW)=w8 at qq kV⊢;clear z0 z1 nR ns;obtain⟨MG,qT⟩:∃B,dc.heap.size=B:=⟨_,rfl⟩;rw[qT] at kV⊢;clear qT)
      all_goals
        obtain⟨v0,v1⟩:=pg kV.out;cases fW with
        |none=>
          obtain rfl:(6:Int)=pf:=BC.out;obtain⟨rfl,rfl⟩:none=ro∧m6=Gc:=(by have:=G3.out;simpa using this);have c9:af (r=(none,m6)):=ja.out.symm;have IG:=aq (cC.out.back af6.out qq.out);go_wp2_with fail;go_ret2;rw[c9.out];exact⟨IG.out.mt,IG.out.outer kf.out rr.out,rfl⟩
        |some js=>
          obtain rfl:(0:Int)=pf:=BC.out;obtain rfl:(dV,dW)=js:=ve.out.symm;have c9:af (oL ⟨cM,cN,cq,cg,du,cY⟩ mM j (wn -(x+1)) (x+1) (ry++[(dV,dW)]) m6=(ro,Gc)):=G3.out;obtain⟨_,afQ,afR⟩:=Nw _ _ _ _ _ _ zN.out;obtain⟨QO,auq,yK⟩:=qq.out.row;obtain⟨agc,agd,rfl⟩:=jf yK;obtain⟨Wq,Ev⟩:∃n,ry.length=n:=⟨_,rfl⟩;have aur:Wq≤1000000:=(by have av:j *wn≤256 *256:=Wc (by have:=afW.out;omega) (by have:=MH.out;omega);omega);have EV:=aq Ev;have FR:=aq (qq.out.below (a' w8 (ai (#[I dV,I dW]) oE)));have Hh:af ((w8.alloc (ai (#[I dV,I dW]) oE)).ownsRow QO oE 2 (ad agc ry.length agd) ry.length (iM ry)):=yK.alloc _;have Wr:QO≤(w8.alloc (ai (#[I dV,I dW]) oE)).heap.size:=dB auq (a' _ _).size;rw[Ev] at FR Hh⊢;clear Ev yK;go_wp2_with (at_builtin;refine zm _ rfl _ _ _ rfl QO oE i0 Wd 2 16 Tryz.underlying36 bZ.out.1 bZ.out.2.1 bZ.out.2.2.1 bZ.out.2.2.2 rfl (by omega) (ad agc Wq agd) Wq _ (by rfl) Hh.out (aj w8.heap.size 0) 1 1 [I dV,I dW] (by rfl) (by rfl) (kc (cs:= #[I dV,I dW]) (t:=oE) (fr:=(0,0)) (ga w8 _)) (by simp[Value.oneCell']) (by omega) (by unfold maxLen;omega) (by omega) Wr (w8.heap.size+1) (by simp) ?_;intro ge KA bt cI dO eJ hV);have OE:=aq (FR.out.push (c:=(dV,dW)) (g':=ge) (c':=KA) Hh.out dO (by rw[EV.out];exact cI) Wr (eJ.imp id (fun h=>by rw[h];simp)) (by rw[EV.out]));clear cI dO eJ hV;have hlen:(ry++[(dV,dW)]).length=acc.length+(x+1):=(by rw[hl];simp only[eP,rC];omega);have aus:m6≤m1:=(by omega);have l0:x+1≤wn:=(by omega);clear afR aur Wr af8;go_round<;>first|exact⟨x+1,_,ry++[(dV,dW)],m6,_,rfl,l0,afQ,aus,hlen,rfl,by go_num,c9.out,OE.out⟩|(simp[intOf]<;>omega)
    · have aut:x=wn:=by omega
      subst aut;obtain⟨rfl,rfl⟩:some ry=ro∧m2=Gc:=(by have:=af9.out;rw[TP] at this;simpa[oL] using this);have IG:=aq (cC.out.back af6.out aX.out);have c9:af (q1 ⟨cM,cN,cq,cg,du,cY⟩ G (BE -(j+1)) (j+1) ry m2=r):=ja.out;go_wp2_with fail;go_round<;>first|exact⟨j+1,_,ry,m2,_,rfl,by omega,by omega,by omega,by rw[af8,aud,Nat.add_mul,Nat.one_mul],rfl,by go_num,c9.out,IG.out⟩|(simp[intOf]<;>omega)
  · have iR:j=BE:=by omega
    subst iR;have c9:af (r=(some acc,m1)):=(by show _=_;rw[←df.out,TP];rfl);go_wp2_with fail;go_ret2;rw[c9.out];obtain⟨B,_,hr⟩:=cC.out.row;refine⟨cC.out.mt,cC.out.outer kf.out rr.out,_,rfl,B,hr,fun k ax=>?_⟩;rcases cC.out.inv k ax with av|av
    · exact dB kf.out.size av
    · exact rr.out k av
def iN(c:Int):Bool:=decide (0≤c)&&decide (c≤255)
theorem Gd(c:Int)(f:Bool)(hf:af (iN c=f))(w:aeo):Calls Tryz.prog 59 #[I c] w fun e w'=>e=ab (U f)∧w'=w:=by
 go_enter Tryz.func59,Tryz.ntmps59;go_wp2_with fail
 all_goals
  go_ret;refine⟨ej (Cl ⟨fun h=>?_,fun h=>?_⟩ hf.out),rfl⟩<;>simp only[iN,ix,iO,pq] at h⊢<;>omega
structure pQ where
 t:ByteArray
 r:Int
 g:Int
 b:Int
 al:Int
 yL:Bool
abbrev mh:TypeId:=35
abbrev age(l:pQ):List Value:=[aa l.t,I l.r,I l.g,I l.b,I l.al,U l.yL]
def ua(S:afp)(w:aeo)(p:Ja)(l:List pQ):Prop:=l.length≤mo∧(0<l.length→∃(k o:Nat) (cs:ajv),p=some ⟨k,o,none⟩∧S k∧an w k cs mh∧∀i (hi:i<l.length),(cs.toList.drop (o+i *6)).take 6=age l[i])
theorem ua.keep{S:afp}{p:Ja}{l:List pQ}(h:ua S w p l)(ax:aQ S w w'):ua S w' p l:=by refine⟨h.1,fun aA=>?_⟩;obtain⟨k,o,cs,e,hS,aJ,hp⟩:=h.2 aA;exact⟨k,o,cs,e,hS,ax.get hS aJ,hp⟩
theorem ua.below{S:afp}{p:Ja}{l:List pQ}(h:ua S w p l)(ay:ao w w w'):ua S w' p l:=h.keep (.dI ay)
theorem ua.at{S:afp}{w:aeo}{p:Ja}{l:List pQ}(h:ua S w p l){i:Nat}(hi:i<l.length){y:pQ}(he:l[i]=y):
  ∃k o,p=some ⟨k,o,none⟩∧ak w k (o+i *6) (aa y.t)∧ak w k (o+i *6+1) (I y.r)∧ak w k (o+i *6+2) (I y.g)∧ak w k (o+i *6+3) (I y.b)∧ak w k (o+i *6+4) (I y.al)∧ak w k (o+i *6+5) (U y.yL):=by
 obtain⟨k,o,cs,rfl,_,aJ,hp⟩:=h.2 (by omega);have av:=hp i hi;rw[he] at av;have key:∀j,j<6→cs[o+i *6+j]?=(age y)[j]?:=by intro j cr;rw[←av,s6,a8 cr,Av];simp
 have bQ:=key 0 (by decide);simp only[G0] at bQ;exact⟨k,o,rfl,cell_of aJ bQ,cell_of aJ (key 1 (by decide)),cell_of aJ (key 2 (by decide)),cell_of aJ (key 3 (by decide)),cell_of aJ (key 4 (by decide)),cell_of aJ (key 5 (by decide))⟩
abbrev kX:TypeId:=32
theorem nt{k:Nat}{v0 v1 v2 v3 v4 v5 v6 db c8 v9 v10 v11 v12:ada}{t:aai}(h:an w k (#[v0,v1,v2,v3,v4,v5,v6,db,c8,v9,v10,v11,v12]) t):
  ak w k 0 v0∧ak w k 1 v1∧ak w k 2 v2∧ak w k 3 v3∧ak w k 4 v4∧ak w k 5 v5∧ak w k 6 v6∧ak w k 7 db∧ak w k 8 c8∧ak w k 9 v9∧ak w k 10 v10∧ak w k 11 v11∧ak w k 12 v12:=by
 refine⟨?_,?_,?_,?_,?_,?_,?_,?_,?_,?_,?_,?_,?_⟩<;>simp[World.cell?,h]
end c4
