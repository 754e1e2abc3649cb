/- Lemmas. -/
import Derived.Test.YtfldplmgkeiimaaGreatDoorQ35
set_option linter.all false
set_option maxRecDepth 100000
set_option maxHeartbeats 25600000
namespace Go.Proofs.YtfldplmgkeiimaaGreatDoor
abbrev WU:=@Nat.mul_le_mul
namespace dE
open Go.RowKit el
def jd(l:List eV):List Value:=l.flatMap fun c=>[I c.1,I c.2]
theorem afB(l:List eV)(c:eV):jd (l++[c])=jd l++[I c.1,I c.2]:=by simp[jd]
abbrev WV:Value:=.agg #[I 0,I 0]
theorem asI:(Tryz.prog.info? 43).map (fun i=>(i.zero,i.size,i.bytes))=some (some WV,2,16):=by kernel_rfl
def asJ(W:bTo)(sv0 sv:ada):Prop:=∀k,sv.ownBlock=some k→W.heap.size≤k∨sv0.ownBlock=some k
abbrev vO(W:bTo)(bI:Nat)(sv0:ada):Nat→Prop:=fun k=>k<W.heap.size∧k≠bI∧some k≠sv0.ownBlock
structure n2(W:bTo)(bI:Nat)(sv0:ada)(cu a:Int)(sv:ada)(acc:List eV)(x:bTo):Prop where
 k:aL (vO W bI sv0) W x
 row:∃B,B≤x.heap.size∧x.ownsRow B oB 2 sv acc.length (jd acc)
 inv:asJ W sv0 sv
 mt:x.heap[bI]?=some (hU cu a)
variable{W x y w w':bTo}{bI:Nat}{cu a cQ:Int}{acc:List eV}
theorem n2.step{sv0 sv:ada}{h2:Int}(h:n2 W bI sv0 cu a sv acc x)(ab:aL (fun k=>k≠bI) x y)(hm:y.heap[bI]?=some (hU cu h2)):n2 W bI sv0 cu h2 sv acc y:=by
 obtain⟨B,WW,hr⟩:=h.row;refine⟨h.k.trans (ab.mono (R:=vO W bI sv0) (fun k _ hs=>hs.2.1)),⟨B,dX WW ab.size,?_⟩,h.inv,hm⟩;rcases hr.2 with ⟨aS,aQ⟩|⟨b,cap,cur,aS,bJ,aF,aa⟩
 ·exact⟨hr.1,.inl ⟨aS,aQ⟩⟩
 ·refine⟨hr.1,.inr ⟨b,cap,cur,aS,bJ,ab.get ?_ aF,aa⟩⟩;intro e;rw[e,h.mt] at aF;injection aF with aF;injection aF with _ bH;exact absurd bH (by decide)
theorem n2.below{sv0 sv:ada}(h:n2 W bI sv0 cu a sv acc x)(af:av x x y):n2 W bI sv0 cu a sv acc y:=h.step (aL.dM af) (aO h.mt af)
theorem n2.push{sv0 sv sv':ada}{X:bTo}(h:n2 W bI sv0 cu a sv acc X){B g' n' c':Nat}{xs:bTv}{c:eV}(hr:X.ownsRow B oB 2 sv n' xs)(aX:X.grownBy y sv.ownBlock)(cM:y.ownsRow B oB 2 sv' (acc.length+1) (jd acc++[I c.1,I c.2]))(bJ:B≤X.heap.size)(e0:sv.ownBlock=some g'∨g'=X.heap.size)(pG:sv'=ad (some (ag g' 0)) (acc.length+1) c'):n2 W bI sv0 cu a sv' (acc++[c]) y:=by
 refine⟨h.k.trans (aL.grown aX (fun k ab hs=>?_)),⟨B,dX bJ aX.size,?_⟩,fun k ab=>?_,(aX.block bI (lt_of_heap h.mt) (fN (oR hr h.mt (by decide)))).trans h.mt⟩
 ·rcases h.inv k ab with aa|aa
  ·exact absurd hs.1 (by omega)
  ·exact hs.2.2 aa.symm
 ·rw[afB,gh];exact cM
 ·rw[pG] at ab;simp only[Value.ownBlock,mv] at ab;subst ab;rcases e0 with aa|aa
  ·exact h.inv _ aa
  ·exact .inl (by rw[aa];exact h.k.size)
theorem n2.outer{sv0 sv:ada}(h:n2 W bI sv0 cu a sv acc x)(hK:aL (fun k=>k≠bI) w W)(hS:∀k,sv0.ownBlock=some k→w.heap.size≤k):aL (fun k=>k≠bI) w x:=
 ⟨h.k.os.trans hK.os,h.k.tape.trans hK.tape,h.k.output.trans hK.output,dX hK.size h.k.size,fun k ab aj=>(h.k.block k ⟨jl aj hK.size,ab,fun e=>absurd (hS k e.symm) (by omega)⟩ (jl aj hK.size)).trans (hK.block k ab aj)⟩
def Jo(R:Jp)(w:bTo)(sv:ada)(l:List eV):Prop:=∃B,w.ownsRow B oB 2 sv l.length (jd l)∧∀k,sv.ownBlock=some k→R k
def xp(bI:Nat)(cu:Int)(w:bTo)(r:Option (List eV)× Int)(e:Ending)(w':bTo):Prop:=
 w'.heap[bI]?=some (hU cu (cu-r.2))∧aL (fun k=>k≠bI) w w'∧match r.1 with
  |none=>e=bb (.tuple #[ay 0,I 6])
  |some l=>∃sv,e=bb (.tuple #[sv,I 0])∧Jo (fun k=>w.heap.size≤k) w' sv l
theorem toNat_lt{n i:Nat}(hn:a.toNat=n)(aQ:0≤a):(i<n↔(i:Int)<a):=by omega
theorem Rb(h:w.grownBy w' none):av w w w':=⟨h.os,h.tape,h.output,h.size,fun k ab=>h.block k ab (by simp)⟩
theorem n2.back{uh:bTo}{sv0 sv sv':ada}{h2:Int}{afC:List eV}(h:n2 W bI sv0 cu a sv acc x)(hx:aL (fun k=>k≠bI) x uh)(g:n2 uh bI sv cu h2 sv' afC y):n2 W bI sv0 cu h2 sv' afC y:=by
 have hh:W.heap.size≤uh.heap.size:=dX h.k.size hx.size;refine⟨(h.k.trans (hx.mono (R:=vO W bI sv0) (fun k _ hs=>hs.2.1))).trans (g.k.mono (R:=vO W bI sv0) (fun k _ hs=>⟨jl hs.1 hh,hs.2.1,fun e=>?_⟩)),g.row,fun k ab=>?_,g.mt⟩
 ·rcases h.inv k e.symm with aa|aa
  ·exact absurd hs.1 (by omega)
  ·exact hs.2.2 aa.symm
 ·rcases g.inv k ab with aa|aa
  ·exact .inl (dX hh aa)
  ·exact h.inv k aa
theorem n2.put{sv0 sv:ada}{dG:bTo}(h:n2 W bI sv0 cu a sv acc x){c i:Nat}{cs:agv}(hWIs:W.heap.size≤dG.heap.size)(hc:dG.heap.size≤c)(bx:bo x c cs oB)(aX:bI<dG.heap.size)(eh:∀k,sv.ownBlock=some k→k≠c)(u:ada):n2 W bI sv0 cu a sv acc (x.setCell (ag c i) u):=by obtain⟨B,WW,hr⟩:=h.row;refine⟨h.k.xm (by omega) u,⟨B,dX WW (by simp[World.setCell]),wK hr (EX x c i u) (.inr (fun e=>eh c e rfl))⟩,h.inv,(jg (by omega)).trans h.mt⟩
theorem asK(v:iZ)(x y:Nat):(mW v x y).ar -(mW v x y).ao=v.h3∧(mW v x y).aq -(mW v x y).ak=v.h3:=by simp only[mW];omega
theorem asL{b:bR}(h:(b.ao≤b.ar∧b.ak≤b.aq)∧(-536870912≤b.ao∧b.ar≤536870912)∧(-536870912≤b.ak∧b.aq≤536870912)):okB b=true:=by simp only[okB,tp,gy,gH];omega
variable{v:iZ}
theorem asM(aS:qa v=true){x y:Nat}(hx:(x:Int)<v.w)(hy:(y:Int)<v.h):okB (mW v x y)=true:=by
 obtain⟨⟨d0,d6⟩,⟨eK,er⟩,⟨a0,a'⟩,⟨bX,b3⟩,⟨ao,ar⟩,⟨ak,aq⟩,ff⟩:=Gt aS;obtain⟨aa,ah,ax,bg,b7⟩:=Q2 ff;simp only at aa ah ax bg b7;have aN:0≤(x:Int) *v.h3:=hL (by omega) (by omega);have aR:0≤(v.w-1-x) *v.h3:=hL (by omega) (by omega);have cA:(v.w-1-x) *v.h3=v.w *v.h3-v.h3-x *v.h3:=by grind
 have f1:0≤(v.h-1 -(y:Int)) *v.h3:=hL (by omega) (by omega);have f2:0≤(y:Int) *v.h3:=hL (by omega) (by omega);have f3:(v.h-1 -(y:Int)) *v.h3=v.h *v.h3-v.h3-y *v.h3:=by grind
 refine asL ?_;simp only[mW];omega
theorem asN(aS:qa v=true):v.h3%2^v.depth.toNat=0∧0<v.h3:=by
 have h:=aS;obtain⟨_,⟨eK,_⟩,_⟩:=Gt aS;unfold qa at h;split at h
 ·cases h
 ·split at h
  ·cases h
  ·rename_i ah;exact⟨by omega,by omega⟩
theorem asO(v:iZ)(g:List eJ)(y k x:Nat)(acc:List eV)(m:Int){o:Option eV}(h:oe v.depth.toNat (fC g (mW v x y)) (mW v x y) m=(o,cQ)):oM v g y (k+1) x acc m=o.elim (none,cQ) (fun c=>oM v g y k (x+1) (acc++[c]) cQ):=by rw[oM,h];cases o<;>rfl
theorem asP(v:iZ)(g:List eJ)(k y:Nat)(acc:List eV)(m:Int){o:Option (List eV)}(h:oM v (fC g (tA v y)) y v.w.toNat 0 acc m=(o,cQ)):ru v g (k+1) y acc m=o.elim (none,cQ) (fun a=>ru v g k (y+1) a cQ):=by rw[ru,h];cases o<;>rfl
abbrev WX(W:bTo)(bI g0:Nat)(c8:Int)(g:Nat)(p q:aya)(n c e:Nat)(mP:Nat)(a0 a' a2 a3:Int)(Z:bTo):Prop:=
 Z.cell? ⟨g0,5,none⟩=some (I c8)∧Q' W bI g p q n c e mP a0 a' a2 a3 Z
theorem asQ{Z:bTo}{g0:Nat}{g:Nat}{p q:aya}{n c e:Nat}{mP:Nat}{a0 a' a2 a3:Int}(aS:W.heap[g0]?=some (vL v))(aX:bo W g (lR p n c q e) jt)(af:W.heap[mP]?=some (cH ⟨a0,a',a2,a3⟩))(n0:g0≠bI)(dK:g≠bI)(e':mP≠bI)(ab:aL (fun k=>k≠bI) W Z):WX W bI g0 v.depth g p q n c e mP a0 a' a2 a3 Z:=
 ⟨cell_of (ab.get n0 aS) rfl,afo aX af dK e' ab⟩
theorem asR(S:Jp)(l:List ec)(aj:∀o∈l,qI o.2)(p:aya)(n c:Nat)(hn:n=l.length)(v:iZ)(aS:qa v=true)(bI:Nat)(hS:¬S bI)(cu m:Int)(hm:0≤m∧m≤cu∧cu≤100000000)(w:bTo)(H:J (iD S w p l))(bB:J (w.heap[bI]?=some (hU cu (cu-m))))(r:Option (List eV)× Int)(hr:J (uM l v m=r)):
    Calls Tryz.prog 60 #[ad p n c,Gs v,dv bI 0] w (xp bI cu w r):=by
  have dR:=U aj;have a1:=U hn;have cd:=U aS;have Jm:=U hS;have xK:=U hm;have uf:=U (lt_of_heap bB.out);obtain⟨⟨d0,d6⟩,⟨eK,er⟩,⟨a0,a'⟩,⟨bX,b3⟩,⟨asS,asT⟩,⟨asU,asV⟩,ff⟩:=Gt aS;have rW:=U ff;have Bh:=hr.out;unfold uM at Bh;clear aj hn aS hS hm ff;obtain⟨de,df,cD,cz,dI,c8⟩:=v;simp only at d0 d6 eK er a0 a' bX b3 asS asT asU asV Bh;obtain⟨wn,asW⟩:∃n,cz.toNat=n:=⟨_,rfl⟩;obtain⟨B5,afD⟩:∃n,dI.toNat=n:=⟨_,rfl⟩;have M6:=U asW;have afE:=U afD;rw[afD] at Bh;have br:=U Bh;clear Bh;have MQ:1≤cz *dI∧cz *dI≤65536:=(by have aN:0≤(cz-1) *dI:=hL (by omega) (by omega);have aR:0≤(256-cz) *dI:=hL (by omega) (by omega);have cA:(cz-1) *dI=cz *dI-dI:=(by grind);have hN:(256-cz) *dI=256 *dI-cz *dI:=(by grind);omega);obtain⟨C,lA⟩:∃C,cz *dI=C:=⟨_,rfl⟩;rw[lA] at MQ;have axK:bT (cz *dI)=C:=(by rw[lA];exact b4 _ (by omega));have j5:J (C=(C.toNat:Int)):=(by show _=_;omega);have axL:C.toNat≤65536:=(by omega);clear lA;go_enter Tryz.func60,Tryz.ntmps60;go_wp2_with fail;have yC:J ((w.alloc (vL ⟨de,df,cD,cz,dI,c8⟩)).heap[w.heap.size]?=some (vL ⟨de,df,cD,cz,dI,c8⟩)):=cw _ _;have aH:J (av w w (w.alloc (vL ⟨de,df,cD,cz,dI,c8⟩))):=ba _ _;generalize w.alloc (vL ⟨de,df,cD,cz,dI,c8⟩)=W at yC aH⊢;go_fit (Q9 ⟨de,df,cD,cz,dI,c8⟩ true cd _);rintro e bQ ⟨rfl,af⟩;have afF:=U (aO yC.out af);have cm:J (av w w bQ):=aH.out.trans (af.mono aH.out.size);clear af yC aH;go_wp2_with fail;go_fit (ar7 S l dR.out p n c a1.out _ (U (H.out.below cm.out)));rintro e ct ⟨iK,c',jF,fQ,rfl,x8,af⟩;have WY:=U (aO afF.out af);have c1:J (av w w ct):=cm.out.trans (af.mono cm.out.size);have E5:=U x8;have axM:=U af.size;clear af x8 afF;go_upto_region 4 with fail;obtain⟨G,wG⟩:∃G,j6 l=G:=⟨_,rfl⟩;have asX:J (∀e∈G,qI e.o.2):=(by intro e he;rw[←wG] at he;obtain⟨o,bl,pj⟩:=List.mem_filterMap.1 he;obtain⟨b,_,rfl⟩:=Option.map_eq_some_iff.1 pj;exact dR.out o bl);rw[wG] at E5 br⊢;clear wG;have M7:=U (aO WY.out (ba ct (aD (lR iK G.length c' jF fQ) jt)));have dx:J (av w w (ct.alloc (aD (lR iK G.length c' jF fQ) jt))):=c1.out.trans ((ba _ _).mono c1.out.size);have WZ:=U (E5.out.below (ba ct (aD (lR iK G.length c' jF fQ) jt)));have M8:J ((ct.alloc (aD (lR iK G.length c' jF fQ) jt)).heap[ct.heap.size]?=some (.cells (lR iK G.length c' jF fQ) jt)):=cw _ _;have M9:J (w.heap.size<ct.heap.size):=lt_of_heap WY.out;change Code.wp _ _ _ _ (ct.alloc (aD (lR iK G.length c' jF fQ) jt));generalize ct.alloc (.cells (lR iK G.length c' jF fQ) jt)=c6 at M7 dx WZ M8⊢;obtain⟨asY,tO⟩:∃B,ct.heap.size=B:=⟨_,rfl⟩;rw[tO] at M8 M9⊢;clear tO WY c1 E5;obtain⟨i0,hi,cU,cW,dz⟩:=info_parts asI;have bY:=U (And.intro hi (And.intro cU (And.intro cW dz)));clear hi cU cW dz;obtain⟨v0,v1,v2,v3,v4,v5⟩:=B1 M7.out;go_upto_region 5 with (first|(refine Pu _ rfl _ _ _ rfl c6.heap.size oB i0 WV 2 Tryz.underlying36 bY.out.1 bY.out.2.1 bY.out.2.2.1 .i64 .i64 C C.toNat (by rfl) (by rfl) j5.out (by rw[bY.out.2.2.2];omega) (by unfold maxLen;omega) (bD _) ?_;intro ez cM Bs));have gB:=Rb Bs;obtain⟨sv0,ayB⟩:∃s,Value.slice (some (ag c6.heap.size 0)) 0 C.toNat=s:=⟨_,rfl⟩
  have afG:J (mD (vO ez bI sv0) c6 iK jF G):=by
    refine WZ.out.mono (fun k ab hs=>⟨jl ab gB.size,?_,?_⟩)
    · rcases hs with hs|hs
      · intro e;exact Jm.out (e ▸ hs)
      · have:=uf.out;have:=cm.out.size;omega
    · rw[←ayB];intro e;simp only[Value.ownBlock,mv] at e;omega
  have asZ:=U (afG.out.below gB);have Rc:=U (aO M7.out gB);have as0:=U (aO M8.out gB);have HQ:=dx.out.size;have M':J (vO ez bI sv0 w.heap.size∧vO ez bI sv0 asY):=(by have aa:=lt_of_heap M7.out;have ah:=lt_of_heap M8.out;have ax:=uf.out;have bg:=M9.out;have b7:=gB.size;refine⟨⟨by omega,by omega,?_⟩,⟨by omega,by omega,?_⟩⟩<;>(rw[←ayB];intro e;simp only[Value.ownBlock,mv] at e;omega));have rl:J (n2 ez bI sv0 cu (cu-m) sv0 [] ez):=(by refine⟨aL.refl _ _,⟨c6.heap.size,gB.size,by rw[←ayB];exact cM⟩,fun k ab=>.inr ab,aO (aO bB.out dx.out) gB⟩);have re:J (aL (fun k=>k≠bI) w ez):=aL.dM (dx.out.trans (gB.mono dx.out.size));have tZ:J (∀k,sv0.ownBlock=some k→w.heap.size≤k):=(by intro k ab;rw[←ayB] at ab;simp only[Value.ownBlock,mv] at ab;omega);rw[ayB];clear ayB cM Bs gB HQ M7 dx WZ M8 afG v0 v1 v2 v3 v4 v5;obtain⟨v0,v1,v2,v3,v4,v5⟩:=B1 Rc.out;go_wp2_with fail;clear v0 v1 v2 v3 v4 v5
  go_loopw [9,34] (fun Fo i wr=>∃(j:Nat) (sv:ada) (acc:List eV) (m1:Int) (aG:bTo),aG=wr∧j≤B5∧0≤m1∧m1≤m∧acc.length=j *wn∧sv=Fo∧i=I j∧J (ru ⟨de,df,cD,cz,dI,c8⟩ G (B5-j) j acc m1=r)∧J (n2 ez bI sv0 cu (cu-m1) sv acc aG)) (fun _ i _=>B5 -(intOf i).toNat)
  case atStart=>exact⟨0,sv0,[],m,_,rfl,eC _,xK.out.1,rk _,by simp,rfl,rfl,br.out,rl.out⟩
  case round=>
  obtain⟨j,sv,acc,m1,aG,rfl,cB,afu,asA,as1,rfl,rfl,dA,cq⟩:=hrel;by_cases b0:j<B5
  · have CF:(j:Int)<dI:=by have:=afE.out;omega
    have Br:B5-j=(B5 -(j+1))+1:=(by omega);obtain⟨⟨ro,wH⟩,eh⟩:∃o,oM ⟨de,df,cD,cz,dI,c8⟩ (fC G (tA ⟨de,df,cD,cz,dI,c8⟩ j)) j wn 0 acc m1=o:=⟨_,rfl⟩;have afH:=U eh;have jn:J (ro.elim (none,wH) (fun a=>ru ⟨de,df,cD,cz,dI,c8⟩ G (B5 -(j+1)) (j+1) a wH)=r):=(by show _=_;rw[←dA.out,Br];exact (asP ⟨de,df,cD,cz,dI,c8⟩ G _ j acc m1 (by show oM _ _ _ cz.toNat _ _ _=_;rw[M6.out];exact eh)).symm);obtain⟨⟨s0,s1,s2,kT⟩,W1⟩:∃b,mW ⟨de,df,cD,cz,dI,c8⟩ 0 j=b:=⟨_,rfl⟩;obtain⟨⟨t0,t1,t2,t3⟩,W2⟩:∃b,mW ⟨de,df,cD,cz,dI,c8⟩ (wn-1) j=b:=⟨_,rfl⟩;have FM:J (tA ⟨de,df,cD,cz,dI,c8⟩ j=⟨s0,s1,t2,t3⟩):=(by show _=_;simp only[tA];rw[M6.out,W1,W2]);have BO:J (∀Z,Calls Tryz.prog 85 #[Gs ⟨de,df,cD,cz,dI,c8⟩,I 0,I (j:Int)] Z fun e w'=>e=bb (.tuple #[gJ ⟨s0,s1,s2,kT⟩,ai true])∧av Z Z w'):=(fun Z=>by rw[←W1];exact WJ ⟨de,df,cD,cz,dI,c8⟩ cd.out 0 j (by show (0:Int)<cz;omega) CF Z);have k6:cz-1=((wn-1:Nat):Int):=(by have:=M6.out;omega);have gN:J (∀Z,Calls Tryz.prog 85 #[Gs ⟨de,df,cD,cz,dI,c8⟩,I (cz-1),I (j:Int)] Z fun e w'=>e=bb (.tuple #[gJ ⟨t0,t1,t2,t3⟩,ai true])∧av Z Z w'):=(fun Z=>by rw[←W2,k6];exact WJ ⟨de,df,cD,cz,dI,c8⟩ cd.out (wn-1) j (by show ((wn-1:Nat):Int)<cz;omega) CF Z);have axN:bT (cz-1)=cz-1:=b4 _ (by omega);clear eh W1 W2 k6;obtain⟨v0,v1,v2,v3,v4,v5⟩:=B1 (cq.out.k.get M'.out.1 Rc.out);go_wp2_with fail;go_fit (BO.out _);rintro e vz ⟨rfl,mm⟩;have jE:=U mm;clear v0 v1 v2 v3 v4 v5 mm;go_upto_region 9 with fail;have l':J (av aG aG (vz.alloc (cH ⟨s0,s1,s2,kT⟩))):=jE.out.trans ((ba _ _).mono jE.out.size);have e9:J ((vz.alloc (cH ⟨s0,s1,s2,kT⟩)).heap[vz.heap.size]?=some (cH ⟨s0,s1,s2,kT⟩)):=cw _ _;generalize vz.alloc (cH ⟨s0,s1,s2,kT⟩)=F0 at l' e9⊢;obtain⟨D3,afI⟩:∃B,vz.heap.size=B:=⟨_,rfl⟩;rw[afI] at e9⊢;clear afI jE;obtain⟨v0,v1,v2,v3,v4,v5⟩:=B1 (aO (cq.out.k.get M'.out.1 Rc.out) l'.out);go_wp2_with fail;go_fit (gN.out _);rintro e BJ ⟨rfl,xa⟩;have kK:J (av aG aG BJ):=l'.out.trans (xa.mono l'.out.size);have p7:=U (aO e9.out xa);clear v0 v1 v2 v3 v4 v5 xa l' e9;go_upto_region 10 with fail;have lz:J (av aG aG (BJ.alloc (cH ⟨t0,t1,t2,t3⟩))):=kK.out.trans ((ba _ _).mono kK.out.size);have sb:=U (aO p7.out (ba BJ (cH ⟨t0,t1,t2,t3⟩)));have DE:J ((BJ.alloc (cH ⟨t0,t1,t2,t3⟩)).heap[BJ.heap.size]?=some (cH ⟨t0,t1,t2,t3⟩)):=cw _ _;generalize BJ.alloc (cH ⟨t0,t1,t2,t3⟩)=axO at lz sb DE⊢;obtain⟨Rd,afJ⟩:∃B,BJ.heap.size=B:=⟨_,rfl⟩;rw[afJ] at DE⊢;clear afJ kK p7;obtain⟨f0,f1,f2,f3⟩:=fD sb.out;obtain⟨g0,g1,g2,g3⟩:=fD DE.out;obtain⟨b6,bP⟩:=oT (aO (cq.out.k.get M'.out.2 as0.out) lz.out);go_wp2_with fail;go_fit (KR (vO ez bI sv0) G iK jF G.length c' fQ ⟨s0,s1,t2,t3⟩ rfl _ (U ((asZ.out.keep cq.out.k).below lz.out)));rintro e B6 ⟨ee,c2,ch,d2,rfl,Lu,uc⟩;have W3:=U Lu;have rT:J (av aG aG B6):=lz.out.trans (uc.mono lz.out.size);have as2:=lz.out.size;clear f0 f1 f2 f3 g0 g1 g2 g3 b6 bP sb DE Lu;go_upto_region 11 with fail;obtain⟨mQ,Re⟩:∃mQ,fC G ⟨s0,s1,t2,t3⟩=mQ:=⟨_,rfl⟩;rw[FM.out,Re] at afH;have gw:J (∀e∈mQ,qI e.o.2):=fun e he=>asX.out e (by rw[←Re] at he;exact (List.mem_filter.1 he).1);rw[Re] at W3⊢;have w1:J (av aG aG (B6.alloc (aD (lR ee mQ.length c2 ch d2) jt))):=rT.out.trans ((ba _ _).mono rT.out.size);have Na:J ((B6.alloc (aD (lR ee mQ.length c2 ch d2) jt)).heap[B6.heap.size]?=some (.cells (lR ee mQ.length c2 ch d2) jt)):=cw _ _;have W4:=U (W3.out.below (ba B6 (aD (lR ee mQ.length c2 ch d2) jt)));have afK:aG.heap.size≤B6.heap.size:=rT.out.size;change Code.wp _ _ _ _ (B6.alloc (aD (lR ee mQ.length c2 ch d2) jt));generalize B6.alloc (.cells (lR ee mQ.length c2 ch d2) jt)=uh at w1 Na W4⊢;obtain⟨Rf,afL⟩:∃B,B6.heap.size=B:=⟨_,rfl⟩;rw[afL] at Na afK⊢;clear afL W3 rT Re;have afM:=U (cq.out.below w1.out);have afN:=cq.out.inv;have W5:∀k,sv.ownBlock=some k→k<aG.heap.size:=by obtain⟨B,_,hr⟩:=cq.out.row;exact fun k ab=>(hr.lt k ab).2
    have vH : ∀ k, vO ez bI sv0 k → vO uh bI sv k := fun k hs => ⟨jl hs.1 (dX cq.out.k.size w1.out.size),hs.2.1,fun e=>by
      rcases afN k e.symm with aa|aa
      · exact absurd hs.1 (by omega)
      · exact hs.2.2 aa.symm⟩
    have axP:=lt_of_heap cq.out.mt
    have as3 : J (mD (vO uh bI sv) uh ee ch mQ) := W4.out.mono (fun k ab hs=>by
      rcases hs with hs|hs
      · exact vH k hs
      · exact⟨ab,by omega,fun e=>by have:=W5 k e.symm;omega⟩)
    have Nb:J (vO uh bI sv w.heap.size∧vO uh bI sv Rf):=⟨vH _ M'.out.1,lt_of_heap Na.out,by omega,fun e=>by have:=W5 _ e.symm;omega⟩;have W6:=U (aO (cq.out.k.get M'.out.1 Rc.out) w1.out);have L0:J (n2 uh bI sv cu (cu-m1) sv acc uh):=⟨aL.refl _ _,afM.out.row,fun k ab=>.inr ab,afM.out.mt⟩;have afO:J (aL (fun k=>k≠bI) aG uh):=aL.dM w1.out;clear afN W5 vH afK W4 FM BO gN as2 lz;obtain⟨v0,v1,v2,v3,v4,v5⟩:=B1 W6.out;go_wp2_with fail;clear v0 v1 v2 v3 v4 v5;obtain⟨Jq,W7⟩:∃Jq,mQ.length=Jq:=⟨_,rfl⟩;have rf:=U W7.symm;rw[W7] at Na⊢;clear W7
    go_loopw [9,65] (fun Fo i wr=>∃(x:Nat) (zX:ada) (rZ:List eV) (m2:Int) (cO:bTo),cO=wr∧x≤wn∧0≤m2∧m2≤m1∧rZ.length=acc.length+x∧zX=Fo∧i=I x∧J (oM ⟨de,df,cD,cz,dI,c8⟩ mQ j (wn-x) x rZ m2=(ro,wH))∧J (n2 uh bI sv cu (cu-m2) zX rZ cO)) (fun _ i _=>wn -(intOf i).toNat)
    case atStart=>exact⟨0,sv,acc,m1,_,rfl,eC _,afu,rk _,rfl,rfl,rfl,afH.out,L0.out⟩
    case round=>
    obtain⟨x,zX,rZ,m2,cO,rfl,hx,afP,axQ,afQ,rfl,rfl,afR,aV⟩:=hrel;by_cases axR:x<wn
    · have afS:(x:Int)<cz:=by have:=M6.out;omega
      have as4:wn-x=(wn -(x+1))+1:=(by omega);obtain⟨⟨a0,a',a2,a3⟩,Rg⟩:∃b,mW ⟨de,df,cD,cz,dI,c8⟩ x j=b:=⟨_,rfl⟩;have AZ:=asM cd.out (x:=x) (y:=j) afS CF;have kp:=asK ⟨de,df,cD,cz,dI,c8⟩ x j;rw[Rg] at AZ kp;obtain⟨zz,zA⟩:∃n,c8.toNat=n:=⟨_,rfl⟩;have vB:=asN cd.out;simp only at kp vB;rw[zA] at vB;have as5:=U AZ;have Jl:J ((a2-a0)%2^zz=0∧0<a2-a0):=(by rw[kp.1];exact vB);have as6:J ((a3-a')%2^zz=0∧0<a3-a'):=(by rw[kp.2];exact vB);obtain⟨⟨gu,m6⟩,c0⟩:∃qE,oe zz (fC mQ ⟨a0,a',a2,a3⟩) ⟨a0,a',a2,a3⟩ m2=qE:=⟨_,rfl⟩;have Gu:=U c0;have GY:J (gu.elim (none,m6) (fun c=>oM ⟨de,df,cD,cz,dI,c8⟩ mQ j (wn -(x+1)) (x+1) (rZ++[c]) m6)=(ro,wH)):=(by show _=_;rw[←afR.out,as4];exact (asO ⟨de,df,cD,cz,dI,c8⟩ mQ j _ x rZ m2 (by show oe c8.toNat _ _ _=_;rw[Rg,zA];exact c0)).symm);obtain⟨o9,M0⟩:∃o9:Int,(if gu.isNone=true then 6 else 0)=o9:=⟨_,rfl⟩;obtain⟨⟨et,eu⟩,ph⟩:∃c:eV,gu.getD (0,0)=c:=⟨_,rfl⟩;have B3:=U M0;have sO:=U ph;have W8:J (c8=(zz:Int)):=(by show _=_;omega);have as7:J (∀Z,Calls Tryz.prog 85 #[Gs ⟨de,df,cD,cz,dI,c8⟩,I (x:Int),I (j:Int)] Z fun e w'=>e=bb (.tuple #[gJ ⟨a0,a',a2,a3⟩,ai true])∧av Z Z w'):=(fun Z=>by rw[←Rg];exact WJ ⟨de,df,cD,cz,dI,c8⟩ cd.out x j afS CF Z);clear c0 M0 ph Rg AZ kp vB zA;obtain⟨v0,v1,v2,v3,v4,v5⟩:=B1 (aV.out.k.get Nb.out.1 W6.out);go_wp2_with fail;go_fit (as7.out _);rintro e GA ⟨rfl,Jn⟩;have A5:=U (aV.out.below Jn);have as8:=Jn.size;clear v0 v1 v2 v3 v4 v5 Jn;go_upto_region 15 with fail;have ug:=U (A5.out.below (ba GA (cH ⟨a0,a',a2,a3⟩)));have lQ:J ((GA.alloc (cH ⟨a0,a',a2,a3⟩)).heap[GA.heap.size]?=some (cH ⟨a0,a',a2,a3⟩)):=cw _ _;have as9:=lt_of_heap A5.out.mt;have Nc:uh.heap.size≤(GA.alloc (cH ⟨a0,a',a2,a3⟩)).heap.size:=ug.out.k.size;change Code.wp _ _ _ _ (GA.alloc (cH ⟨a0,a',a2,a3⟩));generalize GA.alloc (cH ⟨a0,a',a2,a3⟩)=dG at ug lQ Nc⊢;obtain⟨mP,M3⟩:∃B,GA.heap.size=B:=⟨_,rfl⟩;rw[M3] at lQ as9 as8⊢;have tO:mP≠bI:=(by omega);have xg:w.heap.size≠bI:=Nb.out.1.2.1;have ata:Rf≠bI:=Nb.out.2.2.1;have atb:=U (ug.out.k.get Nb.out.1 W6.out);have pN:=U (ug.out.k.get Nb.out.2 Na.out);have afT:J (mD (fun k=>k≠bI) dG ee ch mQ):=(as3.out.keep ug.out.k).mono (fun k _ hs=>hs.2.1);have bq:J (∀Z,aL (fun k=>k≠bI) dG Z→WX dG bI w.heap.size c8 Rf ee ch Jq c2 d2 mP a0 a' a2 a3 Z):=fun Z ab=>asQ (v:=⟨de,df,cD,cz,dI,c8⟩) atb.out pN.out lQ.out xg ata tO ab;have yV:J (aL (fun k=>k≠bI) dG dG.drew):=aL.dM (Below.refl _ _).drew;have kW:J (aL (fun k=>k≠bI) dG (dG.alloc (gF 0 0)).drew):=aL.dM (ba _ _).drew;have lq:=U (bq.out _ (aL.refl _ _));have ji:=U (bq.out _ yV.out);have Fg:J (mD (fun k=>k≠bI) dG.drew ee ch mQ):=afT.out.keep yV.out;have MS:J (mD (fun k=>k≠bI) (dG.alloc (gF 0 0)).drew ee ch mQ):=afT.out.keep kW.out;have w6:J (dG.drew.heap[bI]?=some (hU cu (cu-m2))):=ug.out.mt;have wk:J ((dG.alloc (gF 0 0)).drew.heap[bI]?=some (hU cu (cu-m2))):=aO ug.out.mt (ba _ _).drew;have atc:J ((dG.alloc (gF 0 0)).drew.heap[dG.heap.size]?=some (gF 0 0)):=cw _ _;have Gv:bI<dG.heap.size:=lt_of_heap ug.out.mt;have Am:J (∀k,(k≠bI∨dG.drew.heap.size≤k)→k≠bI):=fun k h=>h.elim id (fun h=>by have ah:dG.heap.size≤k:=h;omega);have rE:J (∀k,(k≠bI∨(dG.alloc (gF 0 0)).drew.heap.size≤k)→k≠bI):=fun k h=>h.elim id (fun h=>by have ah:=dX (ba dG (gF 0 0)).size h;omega);have WS:dG.heap.size≠bI:=(by omega);have Rh:∀c,dG.heap.size≤c→∀k,zX.ownBlock=some k→k≠c:=(by obtain⟨B,_,hr⟩:=ug.out.row;exact fun c hc k ab=>by have:=(hr.lt k ab).2;omega);have M4:J (∀(td jc:aya) (bS lD:Nat) (Z:bTo),mD (fun k=>k≠bI) Z td jc (fC mQ ⟨a0,a',a2,a3⟩)→Z.heap[bI]?=some (hU cu (cu-m2))→Calls Tryz.prog 87 #[.agg (lR td (fC mQ ⟨a0,a',a2,a3⟩).length bS jc lD),gJ ⟨a0,a',a2,a3⟩,I c8,dv bI 0] Z (B2 bI cu Z (gu,m6))):=(by intro td jc bS lD Z aX bx;rw[W8.out];exact asx 7 zz (by have:=W8.out;omega) (by have:=W8.out;omega) (fun k=>k≠bI) (fC mQ ⟨a0,a',a2,a3⟩) (fun e he=>gw.out e (List.mem_filter.1 he).1) td jc _ bS lD rfl ⟨a0,a',a2,a3⟩ as5.out Jl.out as6.out bI (fun h=>h rfl) cu m2 (by have:=xK.out;omega) Z (U aX) (U bx) (gu,m6) Gu);clear M3
      go_region_held3 (fun Z => WX dG bI w.heap.size c8 Rf ee ch Jq c2 d2 mP a0 a' a2 a3 Z) (first | with_reducible exact lq.out | with_reducible exact ji.out | with_reducible exact bq.out _ kW.out | with_reducible exact bq.out _ (((mO.xm lh.size _).xm lh.size _)) | with_reducible exact bq.out _ (((mO.xm (bD _) _).xm (bD _) _)) | with_reducible exact bq.out _ (mO.trans (aL.alloc _ _ _)) | with_reducible exact bq.out _ mO | with_reducible exact bq.out _ (lh.trans (aL.alloc _ _ _)) | with_reducible exact bq.out _ lh | assumption | (trace_state; fail)) (first
        |(go_at_call 86;go_fit (KR (fun k=>k≠bI) mQ ee ch Jq c2 d2 ⟨a0,a',a2,a3⟩ rf.out dG.drew Fg);rintro e hD ⟨td,bS,jc,lD,rfl,vN,nw⟩;have lh:=yV.out.trans (aL.dM nw);have Gw:=aO w6.out nw;have Gx:=vN.mono (fun k _ h=>Am.out k h);clear vN)
        |(go_at_call 86;go_fit (KR (fun k=>k≠bI) mQ ee ch Jq c2 d2 ⟨a0,a',a2,a3⟩ rf.out (dG.alloc (gF 0 0)).drew MS);rintro e hD ⟨td,bS,jc,lD,rfl,vN,nw⟩;have lh:=kW.out.trans (aL.dM nw);have Gw:=aO wk.out nw;have Gx:=vN.mono (fun k _ h=>rE.out k h);have WT:=aO atc.out nw;clear vN)
        |(go_at_call 87;go_fit (M4.out td jc bS lD hD Gx Gw);intro e fR fG;obtain⟨Gy,B4,yW⟩:=B2.get fG sO.out B3.out;subst Gy;have mO:=lh.trans yW;try (have nx:=yW.get WS WT;obtain⟨z0,z1⟩:=pa nx;have o6:=cP nx))
        |(go_at_call 87;go_fit (M4.out td jc bS lD (hD.alloc (gF 0 0)) (Gx.below (ba _ _)) (aO Gw (ba _ _)));intro e fR fG;obtain⟨Gy,B4,yW⟩:=B2.get fG sO.out B3.out;subst Gy;have mO:=(lh.trans (aL.alloc _ _ _)).trans yW;have nx:=yW.get (afn lh.size Gv) (cw hD (gF 0 0));obtain⟨z0,z1⟩:=pa nx;have o6:=cP nx))
      all_goals
        first
          | (change Exit.then _ _ _ _ (fR.alloc (gF et eu))
             have qy:=U ((ug.out.step mO B4).below (ba fR (gF et eu)));have gE:J ((fR.alloc (gF et eu)).heap[fR.heap.size]?=some (gF et eu)):=cw _ _;generalize fR.alloc (gF et eu)=xo at qy gE⊢;obtain⟨M5,q2⟩:∃B,fR.heap.size=B:=⟨_,rfl⟩;rw[q2] at gE⊢;clear q2)
          | (change Exit.then _ _ _ _ ((fR.setCell (ag hD.heap.size 0) (I et)).setCell (ag hD.heap.size 1) (I eu))
             have qy:=U (((ug.out.step mO B4).put (hWIs:=Nc) (c:=hD.heap.size) (i:=0) (hc:=lh.size) nx Gv (Rh _ lh.size) (I et)).put (hWIs:=Nc) (c:=hD.heap.size) (i:=1) (hc:=lh.size) (c4 _ nx) Gv (Rh _ lh.size) (I eu));have gE:J (((fR.setCell (ag hD.heap.size 0) (I et)).setCell (ag hD.heap.size 1) (I eu)).heap[hD.heap.size]?=some (gF et eu)):=me [I et,I eu] nx rfl;generalize (fR.setCell (ag hD.heap.size 0) (I et)).setCell (ag hD.heap.size 1) (I eu)=xo at qy gE⊢;clear z0 z1 o6 nx;obtain⟨M5,q2⟩:∃B,hD.heap.size=B:=⟨_,rfl⟩;rw[q2] at gE⊢;clear q2)
          | (change Exit.then _ _ _ _ ((fR.setCell (ag dG.heap.size 0) (I et)).setCell (ag dG.heap.size 1) (I eu))
             have qy:=U (((ug.out.step mO B4).put (hWIs:=Nc) (c:=dG.heap.size) (i:=0) (hc:=bD _) nx Gv (Rh _ (bD _)) (I et)).put (hWIs:=Nc) (c:=dG.heap.size) (i:=1) (hc:=bD _) (c4 _ nx) Gv (Rh _ (bD _)) (I eu));have gE:J (((fR.setCell (ag dG.heap.size 0) (I et)).setCell (ag dG.heap.size 1) (I eu)).heap[dG.heap.size]?=some (gF et eu)):=me [I et,I eu] nx rfl;generalize (fR.setCell (ag dG.heap.size 0) (I et)).setCell (ag dG.heap.size 1) (I eu)=xo at qy gE⊢;clear z0 z1 o6 nx;obtain⟨M5,q2⟩:∃B,dG.heap.size=B:=⟨_,rfl⟩;rw[q2] at gE⊢;clear q2)
      all_goals
        obtain⟨v0,v1⟩:=pa gE.out;cases gu with
        |none=>
          obtain rfl:(6:Int)=o9:=B3.out;obtain⟨rfl,rfl⟩:none=ro∧m6=wH:=(by have:=GY.out;simpa using this);have dF:J (r=(none,m6)):=jn.out.symm;have I6:=U (cq.out.back afO.out qy.out);go_wp2_with fail;go_ret2;rw[dF.out];exact⟨I6.out.mt,I6.out.outer re.out tZ.out,rfl⟩
        |some kR=>
          obtain rfl:(0:Int)=o9:=B3.out;obtain rfl:(et,eu)=kR:=sO.out.symm;have dF:J (oM ⟨de,df,cD,cz,dI,c8⟩ mQ j (wn -(x+1)) (x+1) (rZ++[(et,eu)]) m6=(ro,wH)):=GY.out;obtain⟨_,afz,afA⟩:=Q8 _ _ _ _ _ _ Gu.out;obtain⟨Ri,atd,yX⟩:=qy.out.row;obtain⟨afU,iq,rfl⟩:=ik yX;obtain⟨W9,EY⟩:∃n,rZ.length=n:=⟨_,rfl⟩;have ate:W9≤1000000:=(by have aa:j *wn≤256 *256:=WU (by have:=afE.out;omega) (by have:=M6.out;omega);omega);have sD:=U EY;have Gj:=U (qy.out.below (ba xo (aD (#[I et,I eu]) oB)));have Hd:J ((xo.alloc (aD (#[I et,I eu]) oB)).ownsRow Ri oB 2 (ad afU rZ.length iq) rZ.length (jd rZ)):=yX.alloc _;have W':Ri≤(xo.alloc (aD (#[I et,I eu]) oB)).heap.size:=dX atd (ba _ _).size;rw[EY] at Gj Hd⊢;clear EY yX;go_wp2_with (at_builtin;refine zE _ rfl _ _ _ rfl Ri oB i0 WV 2 16 Tryz.underlying36 bY.out.1 bY.out.2.1 bY.out.2.2.1 bY.out.2.2.2 rfl (by omega) (ad afU W9 iq) W9 _ (by rfl) Hd.out (ag xo.heap.size 0) 1 1 [I et,I eu] (by rfl) (by rfl) (jW (cs:= #[I et,I eu]) (t:=oB) (fr:=(0,0)) (gi xo _)) (by simp[Value.oneCell']) (by omega) (by unfold maxLen;omega) (by omega) W' (xo.heap.size+1) (by simp) ?_;intro ge KU bt cM dW e0 h5);have O2:=U (Gj.out.push (c:=(et,eu)) (g':=ge) (c':=KU) Hd.out dW (by rw[sD.out];exact cM) W' (e0.imp id (fun h=>by rw[h];simp)) (by rw[sD.out]));clear cM dW e0 h5;have hlen:(rZ++[(et,eu)]).length=acc.length+(x+1):=(by rw[gh];simp only[fK,th];omega);have atf:m6≤m1:=(by omega);have mm:x+1≤wn:=(by omega);clear afA ate W' afQ;go_round<;>first|exact⟨x+1,_,rZ++[(et,eu)],m6,_,rfl,mm,afz,atf,hlen,rfl,by go_num,dF.out,O2.out⟩|(simp[intOf]<;>omega)
    · have ET:x=wn:=by omega
      subst ET;obtain⟨rfl,rfl⟩:some rZ=ro∧m2=wH:=(by have:=afR.out;rw[Lw] at this;simpa[oM] using this);have I6:=U (cq.out.back afO.out aV.out);have dF:J (ru ⟨de,df,cD,cz,dI,c8⟩ G (B5 -(j+1)) (j+1) rZ m2=r):=jn.out;go_wp2_with fail;go_round<;>first|exact⟨j+1,_,rZ,m2,_,rfl,by omega,by omega,by omega,by rw[afQ,as1,Nat.add_mul,Nat.one_mul],rfl,by go_num,dF.out,I6.out⟩|(simp[intOf]<;>omega)
  · have iH:j=B5:=by omega
    subst iH;have dF:J (r=(some acc,m1)):=(by show _=_;rw[←dA.out,Lw];rfl);go_wp2_with fail;go_ret2;rw[dF.out];obtain⟨B,_,hr⟩:=cq.out.row;refine⟨cq.out.mt,cq.out.outer re.out tZ.out,_,rfl,B,hr,fun k ab=>?_⟩;rcases cq.out.inv k ab with aa|aa
    · exact dX re.out.size aa
    · exact tZ.out k aa
def je(c:Int):Bool:=decide (0≤c)&&decide (c≤255)
theorem GB(c:Int)(f:Bool)(hf:J (je c=f))(w:bTo):Calls Tryz.prog 59 #[I c] w fun e w'=>e=bb (ai f)∧w'=w:=by
 go_enter Tryz.func59,Tryz.ntmps59;go_wp2_with fail
 all_goals
  go_ret;refine⟨ej (CE ⟨fun h=>?_,fun h=>?_⟩ hf.out),rfl⟩<;>simp only[je,gy,gH,oE] at h⊢<;>omega
structure pU where
 t:ByteArray
 r:Int
 g:Int
 b:Int
 al:Int
 yY:Bool
abbrev mu:TypeId:=35
abbrev afV(l:pU):List Value:=[au l.t,I l.r,I l.g,I l.b,I l.al,ai l.yY]
def ui(S:Jp)(w:bTo)(p:aya)(l:List pU):Prop:=l.length≤nA∧(0<l.length→∃(k o:Nat) (cs:agv),p=some ⟨k,o,none⟩∧S k∧bo w k cs mu∧∀i (hi:i<l.length),(cs.toList.drop (o+i *6)).take 6=afV l[i])
theorem ui.keep{S:Jp}{p:aya}{l:List pU}(h:ui S w p l)(ab:aL S w w'):ui S w' p l:=by refine⟨h.1,fun aj=>?_⟩;obtain⟨k,o,cs,e,hS,aF,hp⟩:=h.2 aj;exact⟨k,o,cs,e,hS,ab.get hS aF,hp⟩
theorem ui.below{S:Jp}{p:aya}{l:List pU}(h:ui S w p l)(af:av w w w'):ui S w' p l:=h.keep (.dM af)
theorem ui.at{S:Jp}{w:bTo}{p:aya}{l:List pU}(h:ui S w p l){i:Nat}(hi:i<l.length){y:pU}(he:l[i]=y):
  ∃k o,p=some ⟨k,o,none⟩∧aw w k (o+i *6) (au y.t)∧aw w k (o+i *6+1) (I y.r)∧aw w k (o+i *6+2) (I y.g)∧aw w k (o+i *6+3) (I y.b)∧aw w k (o+i *6+4) (I y.al)∧aw w k (o+i *6+5) (ai y.yY):=by
 obtain⟨k,o,cs,rfl,_,aF,hp⟩:=h.2 (by omega);have aa:=hp i hi;rw[he] at aa;have key:∀j,j<6→cs[o+i *6+j]?=(afV y)[j]?:=by intro j cB;rw[←aa,ti,aT cB,AF];simp
 have b6:=key 0 (by decide);simp only[Hk] at b6;exact⟨k,o,rfl,cell_of aF b6,cell_of aF (key 1 (by decide)),cell_of aF (key 2 (by decide)),cell_of aF (key 3 (by decide)),cell_of aF (key 4 (by decide)),cell_of aF (key 5 (by decide))⟩
abbrev lj:TypeId:=32
theorem ny{k:Nat}{v0 v1 v2 v3 v4 v5 v6 du ds v9 v10 v11 v12:ada}{t:aui}(h:bo w k (#[v0,v1,v2,v3,v4,v5,v6,du,ds,v9,v10,v11,v12]) t):
  aw w k 0 v0∧aw w k 1 v1∧aw w k 2 v2∧aw w k 3 v3∧aw w k 4 v4∧aw w k 5 v5∧aw w k 6 v6∧aw w k 7 du∧aw w k 8 ds∧aw w k 9 v9∧aw w k 10 v10∧aw w k 11 v11∧aw w k 12 v12:=by
 refine⟨?_,?_,?_,?_,?_,?_,?_,?_,?_,?_,?_,?_,?_⟩<;>simp[World.cell?,h]
end dE
