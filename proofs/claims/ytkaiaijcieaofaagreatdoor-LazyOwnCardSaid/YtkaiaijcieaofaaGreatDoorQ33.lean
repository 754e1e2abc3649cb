/- Lemmas. -/
import Derived.Test.YtkaiaijcieaofaaGreatDoorQ32
set_option linter.all false
set_option maxRecDepth 100000
set_option maxHeartbeats 12800000
namespace Go.Proofs.YtkaiaijcieaofaaGreatDoor
abbrev Wl:=@Nat.le_of_ble_eq_true
abbrev aej:=@List.dropWhile_sublist
namespace gK
open Go.RowKit gI ga jz Mem hL cB
def IZ(c:C):Prop:=c.bX.length≤1000000000∧c.blocks.length≤1000000∧∀b∈c.blocks,oL b
variable{s t:ar}
theorem aq1{k d:Nat}{t:ph.T}(h:ph.G k d s t):(ph.pk t).length≤s.length:=by
 induction h with
 |num au ax=>
  have:=List.length_pos_iff.2 au.1;exact this
 |var _ _ _ _ _=>exact Nat.succ_le_succ (cO _)
 |plus _ cU=>exact F1 cU
 |neg _ cU=>simp only[ph.pk,fH,eT,kZ];omega
 |par _ cU=>simp only[fH,eT,kZ];omega
 |XP _ cU=>exact cU
 |pop _ _ _ DP yF=>simp only[ph.pk,fH,eT,kZ];omega
 |XQ _ cU=>exact cU
 |XR _ _ _ DP yF=>simp only[ph.pk,fH,eT,kZ];omega
theorem aek{l:List (Int×Int)}{a e:Nat}(h:ph.uu s=(l,a,e))(he:¬e≠0):l.length≤300:=by have e9:e=0:=zM he;subst e9;obtain⟨t,au,ax,aA⟩:=ph.aho h;rw[au];exact cd (aq1 ax) aA
variable{b:dN}
theorem aq2(h:DW s=.ok b):oL b:=by
 unfold DW at h;split at h
 ·cases h
 ·split at h
  ·cases h
  ·split at h;rename_i l a e hp;split at h
   ·cases h
   ·rename_i he;cases h;refine⟨(by show 1≤1100;decide),fun x hx=>?_⟩;rw[List.mem_singleton.1 hx];exact cd (aek hp he) (by decide)
theorem ael:∀(f:Nat) (s:ar) (acc l:List (List (Int×Int))),vN f s acc=.ok l→acc.length≤1100→(∀a∈acc,a.length≤300)→l.length≤1100∧∀a∈l,a.length≤300
 |0,s,acc,l,h,au,ax=>by cases h;exact⟨au,ax⟩
 |f+1,s,acc,l,h,au,ax=>by
  unfold vN at h;split at h
  ·cases h
  ·rename_i hn;split at h;rename_i iP a e hp;split at h
   ·cases h
   ·rename_i he;have aA:(acc++[iP]).length≤1100:=by rw[fH,Bm];omega
    have bb:∀a∈acc++[iP],a.length≤300:=fun a ha=>by
     rcases List.mem_append.1 ha with ha|ha
     ·exact ax a ha
     ·rw[List.mem_singleton.1 ha];exact aek hp he
    split at h
    ·exact ael f _ _ l h aA bb
    ·cases h;exact⟨aA,bb⟩
theorem aq3(h:tb s=.ok b):oL b:=by
 unfold tb at h;split at h
 ·cases h
 ·split at h
  ·cases h
  ·split at h
   ·cases h
   ·split at h
    ·cases h
    ·rename_i l az;split at h
     ·cases h;obtain⟨au,ax⟩:=ael _ _ _ _ az (by decide) (fun a ha=>absurd ha (by simp));exact⟨cd au (by decide),fun a ha=>cd (ax a ha) (by decide)⟩
     ·cases h
theorem aq4(h:w7 s=.ok b):oL b:=by
 unfold w7 at h;split at h
 ·cases h;exact⟨by decide,fun a ha=>absurd ha (by simp[cH])⟩
 ·split at h
  ·cases h;exact⟨(by show 0≤1100;decide),fun a ha=>absurd ha (by simp[cH])⟩
  ·split at h
   ·exact aq2 h
   ·exact aq3 h
theorem aem:∀(l:List (List UInt8)) (i:Nat) (acc r:List dN),w8 l i acc=.ok r→(∀b∈acc,oL b)→r.length=acc.length+l.length∧∀b∈r,oL b
 |[],i,acc,r,h,au=>by cases h;exact⟨rfl,au⟩
 |s::l,i,acc,r,h,au=>by
  unfold w8 at h;split at h
  ·cases h
  ·rename_i b ay
   obtain ⟨ax,aA⟩:=aem l _ _ r h (fun x hx=>by
    rcases List.mem_append.1 hx with hx|hx
    ·exact au x hx
    ·rw[List.mem_singleton.1 hx];exact aq4 ay)
   refine⟨?_,aA⟩;rw[ax,fH,Bm,eT];omega
theorem aq5{l:List (List UInt8)}{b:List dN}{i e:Nat}(h:yH l=(b,i,e)):b.length≤500∧∀x∈b,oL x:=by
 unfold yH at h;split at h
 ·cases h;exact⟨by decide,fun x hx=>absurd hx (by simp)⟩
 ·rename_i az;split at h
  ·cases h;exact⟨by decide,fun x hx=>absurd hx (by simp)⟩
  ·rename_i cw ay;cases h;obtain⟨au,ax⟩:=aem _ _ _ _ ay (fun x hx=>absurd hx (by simp));rw[kZ] at au;exact⟨by omega,ax⟩
def vB(c:C):Prop:=c.bX.length≤10000000∧c.blocks=[]
variable{c:C}
theorem vB.fin(h:vB c):IZ c:=⟨cd h.1 (by decide),by rw[h.2];decide,by rw[h.2];exact fun b ay=>absurd ay (by simp)⟩
theorem F5(c:C)(au:c.bX=[])(ax:c.blocks=[]):vB c:=⟨by rw[au];decide,ax⟩
theorem aq6(h:iT t=some c):vB c:=by
 unfold iT at h;dsimp only at h;split at h
 ·cases h
 ·cases h;exact F5 _ rfl rfl
theorem aq7{l:List C}(h:vQ t=.ok l):∀c∈l,vB c:=by
 have one:∀c:C,c.bX=[]→c.blocks=[]→∀x∈ [c],vB x:=fun c au ax x hx=>by rw[List.mem_singleton.1 hx];exact F5 _ au ax
 have yn:∀{t:ar} {cs l:List C},pr t cs=.ok l→(∀c∈cs,vB c)→∀c∈l,vB c:=by
  intro t cs l h aB;unfold pr at h;split at h
  ·cases h;exact one _ rfl rfl
  ·split at h
   ·cases h
   ·rename_i c Wm;cases h;intro x hx;rcases List.mem_append.1 hx with hx|hx
    ·exact aB x hx
    ·rw[List.mem_singleton.1 hx];exact aq6 Wm
 have zv:∀{t:ar} {m:Int} {l:List C},qw t m=.ok l→∀c∈l,vB c:=by
  intro t m l h;unfold qw at h;split at h
  ·cases h;exact one _ rfl rfl
  ·exact yn h (one _ rfl rfl)
 unfold vQ at h
 repeat' split at h
 all_goals first|exact zv h|exact yn h (fun c aB=>absurd aB (by simp))|(cases h;exact one _ rfl rfl)|cases h
theorem aen:∀(f:Nat) (s:ar) (acc l:List Int),vR f s acc=some l→l.length≤acc.length+f
 |0,s,acc,l,h=>by cases h;exact aP _
 |f+1,s,acc,l,h=>by
  unfold vR at h;split at h
  ·cases h
  ·split at h
   ·have:=aen f _ _ l h;rw[fH,Bm] at this;omega
   ·cases h;rw[fH,Bm];omega
theorem aep{n:Nat}{r:ar}(h:mn.BN t=some (n,r)):r.length≤t.length:=by
 unfold mn.BN at h;split at h
 ·cases h
 ·cases h;rw[e8];omega
theorem aq8(bc:t.length≤1000000)(h:mn t=some c):vB c:=by
 unfold mn at h;split at h
 ·cases h
 ·split at h
  ·cases h
  ·rename_i n r hn;have au:=aep hn;rw[e8] at au;split at h
   ·cases h
   ·split at h
    ·cases h;exact F5 _ rfl rfl
    ·split at h
     ·cases h
     ·rename_i l az;cases h;have ax:=aen _ _ _ _ az;refine⟨?_,rfl⟩;show l.length≤_;rw[kZ] at ax;omega
theorem aq9(bc:t.length≤1000000)(h:xa t=some c):vB c:=by
 have hd:(t.drop 2).length≤1000000:=by rw[e8];omega
 unfold xa at h;split at h
 ·unfold Gs at h;split at h
  ·cases h
  ·cases h;exact F5 _ rfl rfl
 ·split at h
  ·exact aq8 hd h
  ·split at h
   ·unfold Gt at h;split at h
    ·cases h
    ·split at h
     ·cases h
     ·cases h;exact F5 _ rfl rfl
   ·split at h
    ·unfold cB.stepG at h;split at h
     ·cases h
     ·split at h
      ·cases h;exact⟨(Wl rfl),rfl⟩
      ·cases h
    ·split at h
     ·unfold ND at h;split at h
      ·cases h
      ·cases h;exact⟨(Wl rfl),rfl⟩
     ·split at h
      ·cases h;exact F5 _ rfl rfl
      ·cases h
theorem ara:∀p∈w9,vB p.2:=by
 intro p hp;have h:∀p∈w9,p.2.bX=[]∧p.2.blocks=[]:=by decide
 exact F5 _ (h p hp).1 (h p hp).2
theorem Wn{α:Type}:∀(l:List (List UInt8×α)) (k:ar) (v:α),l.lookup k=some v→∃p∈l,p.2=v
 |[],k,v,h=>by cases h
 |(a,b)::l,k,v,h=>by
  rw[List.lookup_cons] at h;split at h
  ·cases h;exact⟨_,List.mem_cons_self ..,rfl⟩
  ·obtain⟨p,hp,e⟩:=Wn l k v h;exact⟨p,zO _ hp,e⟩
theorem arb(bc:t.length≤1000000)(h:te t=.ok c):vB c:=by
 unfold te at h;split at h
 ·cases h
 ·split at h
  ·rename_i c2 aB;cases h;obtain⟨p,hp,rfl⟩:=Wn _ _ _ aB;exact ara p hp
  ·split at h
   ·cases h
   ·rename_i c2 aB;cases h;exact aq9 bc aB
theorem Wo{w:eR}{ws:List eR}{l:List C}(hw:w.t.length≤1000000)(h:r4 w ws=.ok l):∀c∈l,IZ c:=by
 unfold r4 at h;split at h
 ·unfold yI at h;split at h
  ·split at h
   ·cases h
   ·rename_i c aB;split at h
    ·cases h;intro x hx;rw[List.mem_singleton.1 hx];exact (arb hw aB).fin
    ·cases h
  ·split at h
   ·cases h
   ·split at h;rename_i b i e ay;split at h
    ·cases h
    ·cases h;intro x hx;rw[List.mem_singleton.1 hx];obtain⟨au,ax⟩:=aq5 ay;exact⟨(Wl rfl),cd au (by decide),ax⟩
 ·split at h
  ·cases h
  ·rename_i gE az;cases h;exact fun c aB=>(aq7 az c aB).fin
theorem aeq:∀(f:Nat) (ws:List eR) (acc l:List (Nat×C)),p3 f ws acc=.ok l→(∀x∈ws,x.t.length≤1000000)→(∀x∈acc,IZ x.2)→l.length≤acc.length+2 *f∧∀x∈l,IZ x.2
 |0,ws,acc,l,h,au,ax=>by unfold p3 at h;cases h;exact⟨by omega,ax⟩
 |f+1,[],acc,l,h,au,ax=>by unfold p3 at h;cases h;exact⟨by omega,ax⟩
 |f+1,w::ws,acc,l,h,au,ax=>by
  unfold p3 at h;split at h
  ·cases h
  ·rename_i gE az;have aA:=adV az;have bb:=Wo (au w (by simp)) az
   obtain ⟨g1,g2⟩:=aeq f _ _ l h (fun x hx=>au x (zO _ ((aej _).subset hx))) (fun x hx=>by
    rcases List.mem_append.1 hx with hx|hx
    ·exact ax x hx
    ·obtain⟨c,aB,rfl⟩:=List.mem_map.1 hx;exact bb c aB)
   refine⟨?_,g2⟩;rw[fH,jV] at g1;omega
end gK
namespace c1
open Go.RowKit ef
open cB (dN lQ)
open gK (l7 j5 fG oL)
open n2 (iq dG ec rS VV FC)
open _root_.Go.Proofs.YtkaiaijcieaofaaGreatDoor.Fr (BM iF ny iT p2 Small Ad RL DU)
open hL (e')
theorem arc{st:List (Int×Int)}(h:Small st)(i:Nat):-1073741824≤(Fr.top st i).1∧(Fr.top st i).1≤1073741824∧0≤(Fr.top st i).2∧(Fr.top st i).2≤1073741824:=by
 unfold Fr.top;rw[zl];cases aI:st[st.length-i]? with
 |none=>simp
 |some v=>exact h v (List.mem_of_getElem? aI)
theorem aer(vars:List (Int×Int)):∀(l st:List (Int×Int)),Small st→Dh ((iF vars l st).1,0)
 |[],st,h=>by
  unfold iF p2;split
  ·have:=h _ (List.mem_singleton.2 rfl);exact⟨this.1,this.2.1⟩
  ·exact⟨by decide,by decide⟩
 |o::l,st,h=>by
  unfold iF;split
  ·refine aer vars l _ ?_;unfold ny;split
   ·exact h
   ·split
    ·rename_i aF
     have key:-1073741824≤(iT vars st o.1 o.2).1∧(iT vars st o.1 o.2).1≤1073741824∧0≤(iT vars st o.1 o.2).2.1∧(iT vars st o.1 o.2).2.1≤1073741824:=by
      revert aF
      unfold iT;by_cases dP:o.1=1
      ·simp only[aW dP];exact fun _=>Ad _ _
      by_cases bM:o.1=2
      ·simp only[aN dP,aW bM];intro aF;by_cases aI:Fr.oR (Fr.iR vars o.2).1 (Fr.iR vars o.2).2=true
       ·obtain⟨au,ax,aA,bb⟩:=DU aI;exact⟨aA,bb,by omega,ax⟩
       ·rw[aN aI] at aF;cases aF
      by_cases ni:o.1=7
      ·simp only[aN dP,aN bM,aW ni];intro _;have:=arc h 1;omega
      ·simp only[aN dP,aN bM,aN ni];exact fun _=>RL _ _ _ _ _
     exact (h.take _).snoc key.1 key.2.1 key.2.2.1 key.2.2.2
    ·exact h
  ·exact⟨show (-1073741824:Int)≤0 by decide,show (0:Int)≤1073741824 by decide⟩
theorem ard(p q:Ja)(l vars:List (Int×Int))(c d:Nat)(az:l.length≤300)(aS:vars.length≤100)(w:aeo)(ei:af (rS w p l))(cM:af (rS w q vars)):
  Calls Tryz.prog 199 #[ad p l.length c,ad q vars.length d] w fun e w'=>∃(a b:Int) (k:Nat),e=ab (.tuple #[iq a b,I (k:Int)])∧Dh (a,b)∧an w w w':=
 (VV p q l vars c d az aS w ei cM _ (ao (Eq.refl _))).mono fun e w' h=>⟨_,_,_,h.1,aer vars l [] (fun x hx=>absurd hx (by simp)),h.2⟩
abbrev are:TypeId:=197
abbrev F6(b:dN)(q:Ja)(n c:Nat):Obj:=.cells #[I b.k,I b.n,aa ⟨b.t.toArray⟩,ad q n c] are
variable{w Y:aeo}{p:Ja}
theorem aes{e1:List dN}(h:fG 0 w p e1){j:Nat}{m:dN}(hm:e1[j]?=some m):∃b o q c,p=some ⟨b,o,none⟩∧ak w b (o+j *4) (I m.k)∧ak w b (o+j *4+1) (I m.n)∧ak w b (o+j *4+2) (aa ⟨m.t.toArray⟩)∧ak w b (o+j *4+3) (ad q m.args.length c)∧j5 0 w q m.args:=by obtain⟨b6,rfl⟩:=List.getElem?_eq_some_iff.1 hm;obtain⟨b,o,cs,hp,_,aE,nc⟩:=h (by omega);obtain⟨q,c,aF,au,ax,aA,bb⟩:=nc j b6;exact⟨b,o,q,c,hp,cell_of aE aF,cell_of aE au,cell_of aE ax,cell_of aE aA,bb⟩
theorem arf{l:List (List (Int×Int))}(h:j5 0 w p l){j:Nat}{a:List (Int×Int)}(ha:l[j]?=some a):∃b o q c,p=some ⟨b,o,none⟩∧ak w b (o+j) (ad q a.length c)∧rS w q a:=by obtain⟨b6,rfl⟩:=List.getElem?_eq_some_iff.1 ha;obtain⟨b,o,cs,hp,_,aE,nc⟩:=h (by omega);obtain⟨q,c,aF,au⟩:=nc j b6;refine⟨b,o,q,c,hp,cell_of aE aF,fun az=>?_⟩;obtain⟨bl,bV,p6,aG,_,ed,aet⟩:=au az;exact⟨bl,bV,aG,fun i hi=>⟨cell_of ed (aet i hi).1,cell_of ed (aet i hi).2⟩⟩
structure yp(w:aeo)(F:Nat)(R:afp)(ps:bf)(eH:ada)(xs:aev)(Y:aeo):Prop where
 aM:an w w Y
 r:Y.heap[w.heap.size]?=some jh
 f:al Y F (rj iG cC eH) cQ
 mU:qt (F+1) R ps eH xs Y
 ma:w.heap.size<F
theorem yp.below{w:aeo}{F:Nat}{R:afp}{ps:bf}{eH:ada}{xs:aev}{Y Z:aeo}(h:yp w F R ps eH xs Y)(ay:an Y Y Z):yp w F R ps eH xs Z:=
 ⟨h.aM.trans (ay.mono h.aM.size),ba h.r ay,ba h.f ay,h.mU.below ay,h.ma⟩
def Ds(w:aeo)(e:Ending)(w':aeo):Prop:=Below w.heap.size w w'∧((∃k:Nat,k≠0∧e=ab (.tuple #[jc fN cC cC,I (k:Int)]))∨∃ps pp cp,e=ab (.tuple #[jc iG cC (ad pp ps.len cp),I 0])∧dw (fun k=>w.heap.size≤k) w' none 0 pp cp ⟨iG,ps⟩)
variable{fn:Func}{u:Tmp}{tmps:ajv}
theorem Wp{p:Tmp}(k:Nat)(h:fn.results= #[.cell p 42,.tmp u])(hr:Y.heap[w.heap.size]?=some jh)(ay:an w w Y)(hp:tmps.getD p undef=.pointer (some (aj w.heap.size 0)))(hu:tmps.getD u undef=I (k:Int))(aw:k≠0):
  bodyPost Tryz.prog fn (Ds w) Exit.ret {tmps:=tmps,defers:=[]} Y:=
 cL (mw h _ _ w.heap.size _ _ _ _ hp hr pF rfl (by kernel_rfl)) rfl ⟨ay,.inl ⟨k,aw,by rw[hu];rfl⟩⟩
abbrev MG(Y:aeo)(b:Nat):World:=(((((((((Y.setCell (aj b 0) (I 0)).setCell (aj b 1) (I 0)).setCell (aj b 2) (I 0)).setCell (aj b 3) (I 0)).setCell (aj b 4) (I 0)).setCell (aj b 5) (I 0)).setCell (aj b 6) (I 0)).setCell (aj b 7) (I 0)).setCell (aj b 8) cC).setCell (aj b 9) cC
theorem aeu{p:Tmp}(k:Nat)(h:fn.results= #[.cell p 42,.tmp u])(hr:Y.heap[w.heap.size]?=some jh)(ay:an w w Y)(hp:tmps.getD p undef=.pointer (some (aj w.heap.size 0)))(hu:tmps.getD u undef=I (k:Int))(aw:k≠0):
  bodyPost Tryz.prog fn (Ds w) Exit.ret {tmps:=tmps,defers:=[]} (MG Y w.heap.size):=by
 show bodyPost _ _ _ _ _ (ij Y w.heap.size 0 (js fN cC cC));refine lh (P:=bodyPost _ _ _ _ _) (js fN cC cC) hr rfl fun cZ g1 g2=>?_;exact cL (mw h _ _ w.heap.size _ _ _ _ hp g1 pF rfl (by kernel_rfl)) rfl ⟨g2.aM ay (aP _) ay.size,.inl ⟨k,aw,by rw[hu]⟩⟩
theorem arh{p:Tmp}{o:Obj}(k:Nat)(h:fn.results= #[.cell p 42,.tmp u])(hr:Y.heap[w.heap.size]?=some jh)(ay:an w w Y)(hp:tmps.getD p undef=.pointer (some (aj w.heap.size 0)))(hu:tmps.getD u undef=I (k:Int))(aw:k≠0):
  bodyPost Tryz.prog fn (Ds w) Exit.ret {tmps:=tmps,defers:=[]} ((MG Y w.heap.size).alloc o):=by
 rw[show MG Y w.heap.size=ij Y w.heap.size 0 (js fN cC cC) from rfl];refine lh (P:=fun X=>bodyPost Tryz.prog fn (Ds w) Exit.ret {tmps:=tmps,defers:=[]} (X.alloc o)) (js fN cC cC) hr rfl fun cZ g1 g2=>?_;have au:=g2.aM ay (aP _) ay.size;exact Wp k h (ba (show cZ.heap[w.heap.size]?=some jh from g1) (bh _ _)) (au.trans ((bh _ _).mono au.size)) hp hu aw
theorem ari{p:Tmp}(k:Nat)(h:fn.results= #[.cell p 42,.tmp u])(hr:Y.heap[w.heap.size]?=some jh)(ay:an w w Y)(hp:tmps.getD p undef=.pointer (some (aj w.heap.size 0)))(hu:tmps.getD u undef=I (k:Int))(aw:k≠0):
  bodyPost Tryz.prog fn (Ds w) Exit.ret {tmps:=tmps,defers:=[]} (MG Y w.heap.size).drew:=by
 rw[show MG Y w.heap.size=ij Y w.heap.size 0 (js fN cC cC) from rfl];refine lh (P:=fun X=>bodyPost Tryz.prog fn (Ds w) Exit.ret {tmps:=tmps,defers:=[]} X.drew) (js fN cC cC) hr rfl fun cZ g1 g2=>?_;have au:=g2.aM ay (aP _) ay.size;exact Wp k h (ba (show cZ.heap[w.heap.size]?=some jh from g1) (Below.refl _ _).drew) au.drew hp hu aw
theorem yp.arj{F V:Nat}{R:afp}{ps:bf}{eH:ada}{xs:aev}{Z:aeo}(h:yp w F R ps eH xs Y)(aw:aK (fun b=>b≠V) Y Z)(au:w.heap.size<V)(ax:V<F):yp w F R ps eH xs Z:=
 ⟨h.aM.trans (aw.below _ h.aM.size fun b ay=>by omega),aw.get (qn au) h.r,aw.get (by omega) h.f,h.mU.keep aw (fun b ay=>by have:=(h.mU.gp b ay).1;omega) (fun b ay=>by have:=(ky h.mU.own ay).1;omega),h.ma⟩
theorem ark{S:afp}{s:bf}(h:hO S w p s):∃news:aev,news.length=s.len *11∧(0<s.len→∃rV,p=some rV∧∀Z:aeo,an w w Z→∀j u,news[j]?=some u→Z.cell? (rV.add j)=some u)∧(∀u∈news,u.oneCell'=true)∧da S w s news:=by
 rcases w4 s.len with aF|aF
 ·cases s with
  |nil=>exact⟨[],rfl,fun h=>absurd h (mi _),fun u hu=>absurd hu (by simp),trivial⟩
  |cons _ _ _ _=>simp[bf.len] at aF
 ·obtain⟨k,o,cs,rfl,hS,aE,dF⟩:=h.2 aF;have az:=dF.long;refine⟨(cs.toList.drop o).take (s.len *11),?_,fun _=>⟨_,rfl,fun Z cN j u hu=>?_⟩,fun u hu=>az.2 u hu,dF.congr (by rw[xh,G4])⟩
  ·rw[lz];have:=az.1;omega
  ·rw[ra] at hu;split at hu
   ·rw[show (⟨k,o,none⟩:Addr).add j=⟨k,o+j,none⟩ by unfold Addr.add;split<;>simp_all];rw[z'] at hu;exact bD cN (cell_of aE (by simpa using hu))
   ·cases hu
theorem arl{P:Program}{w:aeo}{ops:Array Oper}{o:Oper}{a:Act}{K:Act→aeo→Prop}{Q:Exit→Act→aeo→Prop}{E:Prop}(BY:o.guard=none)(s x:Operand)(t:aai)
  (a1:o.op=.call {callee:=.builtin .append,args:= #[s,x],argTypes:= #[t,t]})
  (base:Nat) (e:aai) (i:TypeInfo) (z:ada) (size bytes:Nat) (bc:P.underlying t=some (.slice e)) (hi:P.info? e=some i) (bP:i.zero=some z)
  (Qt:i.size=size) (fj:i.bytes=bytes) (V9:z.cells.size=size) (fw:0<size)
  (v:ada) (n:Nat) (xs:aev) (hs:a.eval s=v) (ct:w.ownsRow base e size v n xs)
  (p:Ja) (m c:Nat) (news:aev) (hx:a.eval x=ad p m c) (az:news.length=m *size) (hp:0<m→∃rV,p=some rV∧∀j u,news[j]?=some u→w.cell? (rV.add j)=some u) (au:∀u∈news,u.oneCell'=true)
  (Ef:n+m≤maxLen) (BV:(n+m) *bytes≤140737488355328) (G9:base≤w.heap.size)
  (h:∀q cap w',w'.ownsRow base e size (ad q (n+m) cap) (n+m) (xs++news)→w.grownBy w' v.ownBlock→((Value.slice q (n+m) cap).ownBlock=v.ownBlock∨∃g,(Value.slice q (n+m) cap).ownBlock=some g∧w.heap.size≤g)→K (a.put o.dst (ad q (n+m) cap)) w'):
  if Region.wanted o (yielded ops a.tmps)=true then Oper.wp P o a w K Q else E:=by
 have hw:Region.wanted o (yielded ops a.tmps)=true:=by simp[Region.wanted,BY]
 rw[aW hw]
 have key:∃q cap w',(Builtin.append_ #[t,t] o.type #[v,ad p m c]).run P w=.ok (ad q (n+m) cap) w'∧w'.ownsRow base e size (ad q (n+m) cap) (n+m) (xs++news)∧w.grownBy w' v.ownBlock∧((Value.slice q (n+m) cap).ownBlock=v.ownBlock∨∃g,(Value.slice q (n+m) cap).ownBlock=some g∧w.heap.size≤g):=by
  rcases w4 m with rfl|hm
  ·obtain rfl:news=[]:=lP (by omega);obtain⟨q,cap,rfl⟩:=iw ct
   have hle:n≤cap:=by
    rcases ct.2 with ⟨aS,aF⟩|⟨g,k,cur,aS,_,_,y5,_⟩
    ·omega
    ·injection aS with _ _ aS;omega
   have cW:∀(y:aeo) (x:Addr),(loadCells x 0).run P y=.ok #[] y:=(fun y x=>by simpa using Si (P:=P) y x [] (by simp));have JS:Src P i.size t (ad p 0 c) 0 [] w:=⟨.inl ⟨e,bc⟩,fun _=>by simp[Builtin.lenOf],by cases p<;>simp[Builtin.firstCells,cW],by cases p<;>simp[Builtin.firstCells,cW],by simp,fun u hu=>absurd hu (by simp)⟩;refine⟨q,cap,w,run_append_nothing w t t o.type e i bc hi q n cap hle _ JS,by simpa using ct,⟨rfl,rfl,rfl,aP _,fun _ _ _=>rfl⟩,.inl rfl⟩
  ·obtain⟨rV,rfl,xx⟩:=hp hm;obtain⟨g,cap,w',hr,ax,aA,bb,bj⟩:=run_append_lies (P:=P) w t o.type base e i z size bytes bc hi bP Qt fj V9 fw v n xs ct rV m c news az xx au hm Ef BV G9 _ rfl;exact⟨_,cap,w',hr,ax,aA,bb.imp (fun h=>h.symm) fun h=>⟨g,rfl,CN h.symm⟩⟩
 obtain⟨q,cap,w',hr,ax,aA,bb⟩:=key;unfold Oper.wp execOp;simp only[a1,resolve,invoke,builtin,GI,JC,Ak,Sj,nx,nF,hs,hx,hr];exact h q cap w' ax aA bb
theorem Qj.get{T:Nat}{w':aeo}{b3:Ending}(h:Qj T w b3 w'):∃(q:bf) (ql k:Nat) (pp:Ja) (cp:Nat) (news:aev) (a b c:ada),b3=ab (ad pp ql cp)∧af (q.len=ql)∧af (aK (fun b=>b≠T) w w')∧af (al w' T (#[a,b,c,I (k:Int)]) Be)∧af (q.count≤1000)∧news.length=ql *11∧af (0<ql→∃rV,pp=some rV∧∀Z:aeo,an w' w' Z→∀j u,news[j]?=some u→Z.cell? (rV.add j)=some u)∧(∀u∈news,u.oneCell'=true)∧af (da (fun k=>w.heap.size≤k) w' q news)∧ql≤1000:=by obtain⟨⟨q,k⟩,⟨au,⟨a,b,c,ax⟩,pp,cp,aA,bb,bj⟩,b8⟩:=h;obtain⟨news,g1,g2,g3,g4⟩:=ark bj;exact⟨q,q.len,k,pp,cp,news,a,b,c,aA,rfl,au,ax,b8,g1,g2,g3,g4,cd q.Nw b8⟩
theorem yp.push{w:aeo}{F:Nat}{R:afp}{ps q:bf}{eH pv':ada}{xs news:aev}{Y Z mD br:aeo}(h:yp w F R ps eH xs Y)(qO:an Y Y Z)(Io:an Z Z mD)(hp:da (fun b=>Y.heap.size≤b) Z q news)(ct:br.ownsRow (F+1) ev 11 pv' (ps.len+q.len) (xs++news))(dn:mD.grownBy br eH.ownBlock)(dF:pv'.ownBlock=eH.ownBlock∨∃g,pv'.ownBlock=some g∧Z.heap.size≤g):
  yp w F (fun b=>R b∨(Y.heap.size≤b∧b<Z.heap.size)) (ps.append q) pv' (xs++news) (br.setCell (aj F 9) pv'):=by
 have awP:=lt_of_heap h.f;have Dt:=h.mU.push qO Io hp ct dn dF (by omega);have cN:=h.below (qO.trans (Io.mono qO.size));have Wq:∀b,b≤F→eH.ownBlock≠some b:=fun b ay e=>by have:=(ky h.mU.own e).1;omega
 have arn:al br F (rj iG cC eH) cQ:=(dn.block F (lt_of_heap cN.f) (eN (Wq F (aP _)))).trans cN.f;have hK:aK (fun b=>b≠F) br (br.setCell (aj F 9) pv'):=aK.set (a:=⟨F,9,none⟩) (fun aw=>aw rfl) _;have GW:aK (fun b=>eH.ownBlock≠some b∧b≠F) mD (br.setCell (aj F 9) pv'):=(aK.grown dn fun k e aw=>aw.1 e).trans (hK.mono fun b _ ay=>ay.2)
 exact {
  aM:=cN.aM.trans (GW.below _ cN.aM.size fun b ay=>⟨Wq b (by have:=h.ma;omega),by have:=h.ma;omega⟩)
  r:=GW.get ⟨Wq _ (k5 h.ma),qn h.ma⟩ cN.r
  f:=by have:=dt (k:=F) (i:=9) pv' arn;exact this
  mU:=Dt.keep hK (fun b ay=>by have:=(Dt.gp b ay).1;omega) fun b ay=>by have:=(ky Dt.own ay).1;omega
  ma:=h.ma}
end c1
namespace c1
open Go.RowKit ef
open cB (dN lQ)
open gK (l7 j5 fG oL)
open n2 (iq dG ec rS)
open hL (e')
theorem aro(e1:List dN)(fF:af (∀b∈e1,oL b))(p:Ja)(c:Nat)(Q m d:Nat)(u:Int)(w:aeo)(az:e1.length≤1000000)(aH:af (fG 0 w p e1))(cJ:af (kh Dh Q m w)):
  Calls Tryz.prog 183 #[ad p e1.length c,ag Q 0 m d,I u] w (Ds w):=by
 obtain⟨n,hn⟩:=aq e1.length;have bd:=ao hn;rw[hn] at az⊢;clear hn;have aQ:=ao (cR w jh);have arp:∀Z:aeo,(Instr.makeSlice 266 (I 99) (I 99)).run Tryz.prog Z=.ok (ag Z.heap.size 0 99 99) (Z.alloc (ai (madeCells #[I 0,I 0] 198) n5)):=fun Z=>yR _ _ _ 2 16 IH V0 99 (by decide) (by decide) Z;go_enter Tryz.func183,Tryz.ntmps183;go_wp2_with fail
 ·exact Wp 3 rfl aQ.out (bh _ _) rfl rfl (by decide)
 go_loopw [27] (fun i wr=>∃(j:Nat) (W:aeo),W=wr∧j≤n∧i=I j∧af (an w w W)∧af (W.heap[w.heap.size]?=some jh)∧af (∀k b,k<j→e1[k]?=some b→Qi b.k b.n b.args.length)) (fun i _=>n -(intOf i).toNat)
 case atStart=>exact⟨0,_,rfl,by omega,rfl,bh _ _,aQ.out,fun k b h=>absurd h (lS _)⟩
 case round=>
 obtain⟨j,W,rfl,b6,rfl,zS,oG,aew⟩:=hrel;by_cases p4:j<n
 ·have awQ:(j:Int)<(n:Int):=(by omega);obtain⟨b,Bx⟩:∃b,e1[j]?=some b:=⟨_,iW (by rw[bd.out];exact p4)⟩;have se:=(fF.out b (List.mem_of_getElem? Bx)).1;obtain⟨cH,o,uK,ca,rfl,eC,eu,eO,jm,_⟩:=aes aH.out Bx;have aV:=bD zS.out eC;have aT:=bD zS.out eu;have c2:=bD zS.out eO;have c3:=bD zS.out jm;have arq:=ao Bx;obtain⟨cI,hU⟩:=aq b.args.length;have jJ:=ao hU;rw[hU] at c3 se;clear eC eu eO jm Bx hU;go_wp2_with fail;with_reducible refine (apa b.k b.n _ cI uK ca se _).mono ?_
  rintro aY bk ⟨⟨ok,rfl,fL⟩,cj⟩;have Fg:=bh W (F6 b uK cI ca);have dy:=ao ((zS.out.trans (Fg.mono zS.out.size)).trans (cj.mono (cd zS.out.size Fg.size)));have dC:=ao (ba (ba oG.out Fg) cj);clear cj Fg aV aT c2 c3;cases ok with
  |true=>
   have fp:af (∀k b,k<j+1→e1[k]?=some b→Qi b.k b.n b.args.length):=by
    intro k bl aw ck;by_cases e:k=j
    ·subst e;obtain rfl:b=bl:=(by simpa[arq.out] using ck);rw[jJ.out];exact fL rfl
    ·exact aew.out k bl (by omega) ck
   clear fL;go_wp2_with fail;go_round<;>first|exact⟨j+1,_,rfl,by omega,by go_num,dy.out,dC.out,fp.out⟩|(simp[intOf]<;>omega)
  |false=>
   obtain⟨z0,z1,z2,z3,z4,z5,gZ,gR,fM,z9⟩:=dQ dC.out;have rW:=dc dC.out;go_wp2_with fail;exact aeu 3 rfl dC.out dy.out rfl rfl (by decide)
 ·obtain rfl:j=n:=(by omega);have ud:af (kh (fun _=>True) W.heap.size 99 (W.alloc (ai (madeCells #[I 0,I 0] 198) n5))):=.made trivial (cR _ _);have dO:=ao (zS.out.trans ((bh W (ai (madeCells #[I 0,I 0] 198) n5)).mono zS.out.size));have fz:=ao (ba oG.out (bh W (ai (madeCells #[I 0,I 0] 198) n5)));have mf:af (w.heap.size<W.heap.size):=lt_of_heap oG.out;go_wp2_with fail;generalize W.alloc (.cells (madeCells #[I 0,I 0] 198) n5)=dZ at ud dO fz⊢;obtain⟨V,jK⟩:=aq W.heap.size;rw[jK] at ud mf⊢;clear jK zS oG
  go_loopw [39] (fun i wr=>∃(k:Nat) (X:aeo),X=wr∧k≤99∧i=I k∧af (an w w X)∧af (X.heap[w.heap.size]?=some jh)∧af (kh (fun _=>True) V 99 X)) (fun i _=>99 -(intOf i).toNat)
  case atStart=>exact⟨0,_,rfl,by omega,rfl,dO.out,fz.out,ud.out⟩
  case round=>
  obtain⟨k,X,rfl,aw,rfl,eW,Du,By⟩:=hrel;by_cases Dv:k<99
  ·have pN:(k:Int)<99:=(by omega);obtain⟨v0,v1,_,aV,aT,f0⟩:=By.out.at Dv;have tr:=ao (By.out.put Dv (a:=0) (b:=1) trivial);have gW:af (aK (fun b=>b≠V) X ((X.setCell (aj V (k *2)) (I 0)).setCell (aj V (k *2+1)) (I 1))):=(aK.ne _).trans (aK.ne _);go_wp2_with fail;go_round<;>first|exact⟨k+1,_,rfl,by omega,by go_num,gW.out.aM eW.out (k5 mf.out) eW.out.size,gW.out.get (qn mf.out) Du.out,tr.out⟩|(simp[intOf]<;>omega)
  ·obtain rfl:k=99:=(by omega);obtain⟨dD,zT,S0,Wr,aex⟩:=By.out.copy (c:=d) (cJ.out.below eW.out) (fun _ _=>trivial) 3;have xE:=ao (Wr.aM eW.out (k5 mf.out) eW.out.size);have wb:=ao (Wr.get (qn mf.out) Du.out);have Ws:=ao aex;clear Wr aex eW Du By dO fz ud;go_wp2_with fail;have m':af ((zT.alloc (ai (rj iG cC cC) cQ)).heap[zT.heap.size]?=some (.cells (rj iG cC cC) cQ)):=cR _ _;have bT:=ao (xE.out.trans ((bh zT (ai (rj iG cC cC) cQ)).mono xE.out.size));have tu:=ao (ba wb.out (bh zT (ai (rj iG cC cC) cQ)));have Wt:=ao (Ws.out.below (bh zT (ai (rj iG cC cC) cQ)));have yb:af (w.heap.size<zT.heap.size):=lt_of_heap wb.out;have QD:af (V<zT.heap.size):=Ws.out.lt;change Code.wp _ _ _ _ (zT.alloc (ai (rj iG cC cC) cQ));generalize zT.alloc (.cells (rj iG cC cC) cQ)=ars at m' bT tu Wt⊢;obtain⟨F,hF⟩:=aq zT.heap.size;rw[hF] at m' yb QD⊢;clear hF xE wb Ws arp S0;have im:af (yp w F (fun _=>False) .nil cC [] ars):=⟨bT.out,tu.out,m'.out,⟨World.ownsRow_nil _ _ _ _,trivial,fun b h=>h.elim⟩,yb.out⟩;clear bT tu m'
   go_loopw [53] (fun i wr=>∃(k:Nat) (Y:aeo) (R:afp) (ps:bf) (eH:ada) (xs:aev),Y=wr∧k≤j∧i=I k∧ps.count≤899∧af (yp w F R ps eH xs Y)∧af (kh (fun _=>True) V 99 Y)) (fun i _=>j -(intOf i).toNat)
   case atStart=>exact⟨0,_,_,.nil,_,_,rfl,by omega,rfl,cO _,im.out,Wt.out⟩
   case round=>
   obtain⟨k,Y,R,ps,eH,xs,rfl,D',rfl,hH,bH,cM⟩:=hrel;clear im Wt;by_cases la:k<j
   ·have pN:(k:Int)<(j:Int):=(by omega);obtain⟨b,Bx⟩:∃b,e1[k]?=some b:=⟨_,iW (by rw[bd.out];exact la)⟩;obtain⟨se,tp⟩:=fF.out b (List.mem_of_getElem? Bx);obtain⟨cH,o,uK,ca,rfl,eC,eu,eO,jm,rP⟩:=aes aH.out Bx;have aV:=bD bH.out.aM eC;have aT:=bD bH.out.aM eu;have c2:=bD bH.out.aM eO;have c3:=bD bH.out.aM jm;have art:=ao rP;have MH:=ao (aew.out k b la Bx);have aru:=ao tp;obtain⟨cI,hU⟩:=aq b.args.length;have jJ:=ao hU;rw[hU] at c3 se MH;clear eC eu eO jm rP Bx hU tp;have arv:∀Z:aeo,(Instr.makeSlice 266 (I (cI:Int)) (I (cI:Int))).run Tryz.prog Z=.ok (ag Z.heap.size 0 cI cI) (Z.alloc (ai (madeCells #[I 0,I 0] (cI *2)) n5)):=fun Z=>yR _ _ _ 2 16 IH V0 cI (by omega) (by omega) Z;have I0:=ao (cR Y (F6 b uK cI ca));have vn:=ao (bh Y (F6 b uK cI ca));go_wp2_with fail;change Code.wp _ _ _ _ ((Y.alloc (F6 b uK cI ca)).alloc (ai (madeCells #[I 0,I 0] (cI *2)) n5));have fw:=s8 Y (F6 b uK cI ca);generalize Y.alloc (F6 b uK cI ca)=I1 at I0 vn fw⊢;have MI:af (kh Dh I1.heap.size cI (I1.alloc (ai (madeCells #[I 0,I 0] (cI *2)) n5))):=.made ⟨by decide,by decide⟩ (cR _ _);have dy:=ao (vn.out.trans ((bh I1 (ai (madeCells #[I 0,I 0] (cI *2)) n5)).mono vn.out.size));have Wu:=ao (ba I0.out (bh I1 (ai (madeCells #[I 0,I 0] (cI *2)) n5)));have QE:af (Y.heap.size<I1.heap.size):=lt_of_heap I0.out;generalize I1.alloc (.cells (madeCells #[I 0,I 0] (cI *2)) n5)=acG at MI dy Wu⊢;rw[fw] at MI QE;obtain⟨yq,aey⟩:=aq (Y.heap.size+1);rw[aey] at MI QE⊢;clear aey I0 vn arv aV aT c2 c3 fw
    go_loopw [64] (fun i wr=>∃(bM:Nat) (j3:aeo),j3=wr∧bM≤cI∧i=I bM∧af (kh Dh yq cI j3)∧af (an Y Y j3)∧af (j3.heap[Y.heap.size]?=some (F6 b uK cI ca))) (fun i _=>cI -(intOf i).toNat)
    case atStart=>exact⟨0,_,rfl,by omega,rfl,MI.out,dy.out,Wu.out⟩
    case round=>
    obtain⟨bM,j3,rfl,jE,rfl,By,I2,F7⟩:=hrel;clear MI dy Wu;by_cases ih:bM<cI
    ·have awR:(bM:Int)<(cI:Int):=(by omega);obtain⟨a,ha⟩:∃a,b.args[bM]?=some a:=⟨_,iW (by rw[jJ.out];exact ih)⟩;have aez:=aru.out a (List.mem_of_getElem? ha);obtain⟨cw,ek,bI,aT,rfl,dH,aeA⟩:=arf art.out ha;have vq:=ao (bH.out.aM.trans (I2.out.mono bH.out.aM.size));have d0:=bD vq.out dH;obtain⟨vs,mH,_,aeB⟩:=(cM.out.below I2.out).aps;have Wv:=ard bI (some (aj V 0)) a vs aT 99 aez (by omega) j3 (ao (aeA.below vq.out)) (ao aeB);rw[mH] at Wv;have Ww:=ao Wv;obtain⟨awS,aeC⟩:=aq a.length;rw[aeC] at d0 Ww;clear dH ha aeB mH Wv aeA aeC aez;go_wp2_with fail;with_reducible refine Ww.out.mono ?_
     rintro cV db ⟨N,D,dS,rfl,fC,eF⟩;have pz:=ao (By.out.below eF);have dO:=ao (I2.out.trans (eF.mono I2.out.size));have jw:=ao (ba F7.out eF);have fz:=ao (ba bH.out.r dO.out);clear d0 eF Ww;by_cases jY:dS=0
     ·subst jY;obtain⟨u0,u1,_,du,dI,f0⟩:=pz.out.at ih;have er:=pz.out.lt;have nL:=ao (pz.out.put ih (a:=N) (b:=D) fC);have Am:af (aK (fun b=>b≠yq) db ((db.setCell (aj yq (bM *2)) (I N)).setCell (aj yq (bM *2+1)) (I D))):=(aK.ne _).trans (aK.ne _);clear fC;go_wp2_with fail;have iJ:=ao (Am.out.aM dO.out (k5 QE.out) dO.out.size);have ko:=ao (Am.out.get (qn QE.out) jw.out);go_round
      ·(repeat apply Exists.intro)
       exact⟨⟨bM+1,_,rfl,by omega,by go_num,nL.out.below (bh _ _),iJ.out.trans ((bh _ _).mono iJ.out.size),ba ko.out (bh _ _)⟩,rfl⟩
      ·(simp[intOf]<;>omega)
     ·have eM:(((dS:Nat):Int) !=0)=true:=(by rw[bne_iff_ne];omega);obtain⟨z0,z1,z2,z3,z4,z5,gZ,gR,fM,z9⟩:=dQ fz.out;have rW:=dc fz.out;have Wx:=lt_of_heap fz.out;clear fC;go_wp2_with fail;exact arh dS rfl fz.out (bH.out.aM.trans (dO.out.mono bH.out.aM.size)) rfl rfl jY
    ·obtain rfl:bM=cI:=(by omega);have vf:=ao (bH.out.below I2.out);have tA:=ao (cM.out.below I2.out);obtain⟨d0,d1,d2,d3⟩:ak j3 Y.heap.size 0 (I b.k)∧ak j3 Y.heap.size 1 (I b.n)∧ak j3 Y.heap.size 2 (aa ⟨b.t.toArray⟩)∧ak j3 Y.heap.size 3 (ad uK bM ca):=⟨cell_of F7.out rfl,cell_of F7.out rfl,cell_of F7.out rfl,cell_of F7.out rfl⟩;have qZ:=lt_of_heap F7.out;obtain⟨n9,mc⟩:=aq b.k;obtain⟨mJ,kU⟩:=aq b.n;rw[mc] at d0;rw[kU] at d1;rcases MH.out with ⟨ax,aA⟩|⟨ax,h2,h3,au⟩|⟨aA,Fv⟩
     ·have bJ:(n9==2)=false:=(by rw[fO,←mc];exact ax);have dT:(n9==3)=false:=(by rw[fO,←mc];exact aA);go_wp2_with fail;go_round<;>first|exact⟨k+1,_,_,_,_,_,rfl,by omega,by go_num,hH,vf.out,tA.out⟩|(simp[intOf]<;>omega)
     ·obtain rfl:n9=2:=(by rw[←mc];exact ax);obtain⟨m,hm⟩:∃m:Nat,mJ=(m:Int)+1:=⟨(mJ-1).toNat,by omega⟩;have aeD:m<99:=(by omega);have L0:(m:Int)<99:=(by omega);have ti:(0:Int)≤(m:Int):=(by omega);subst au;rw[hm] at d1;obtain⟨cT,aeE,_,du,dI,_⟩:=By.out.at (j:=0) (by decide);obtain⟨awT,awU,_,s0,s1,acD⟩:=tA.out.at aeD;have er:=tA.out.lt;have awV:=By.out.lt;have nL:=ao (tA.out.put aeD (a:=cT) (b:=aeE) trivial);have Am:af (aK (fun b=>b≠V) j3 ((j3.setCell (aj V (m *2)) (I cT)).setCell (aj V (m *2+1)) (I aeE))):=(aK.ne _).trans (aK.ne _);have jA:=ao (vf.out.arj Am.out mf.out QD.out);clear hm kU mc ax h2 h3;go_upto_region 31 with fail;go_region;go_wp2_with fail;go_round<;>first|exact⟨k+1,_,_,_,_,_,rfl,by omega,by go_num,hH,jA.out.below (Below.refl _ _).drew,nL.out.below (Below.refl _ _).drew⟩|(simp[intOf]<;>omega)
     ·obtain rfl:n9=3:=(by rw[←mc];exact aA);obtain⟨Wy,mH,Wz,aeF⟩:=By.out;obtain⟨T,dm⟩:=aq j3.heap.size;have WA:af (e3 T yq Wy u 0 0 (j3.alloc (ai (#[ad (some (aj yq 0)) bM bM,I 0,I u,I 0]) Be))):=⟨by rw[←dm,mH];exact cR _ _,ba aeF (bh _ _)⟩;have Av:af (∀Z,e3 T yq Wy u 0 0 Z→Calls Tryz.prog 200 #[ah T 0,I mJ] Z (Qj T Z)):=fun Z h=>apc T yq mJ Wy u Z (ao h) (by rw[mH,←kU];exact Fv) (ao Wz);have oV:=ao (bh j3 (ai (#[ad (some (aj yq 0)) bM bM,I 0,I u,I 0]) Be));have jA:=ao (vf.out.below oV.out);have pz:=ao (tA.out.below oV.out);have QF:=ao (ba F7.out oV.out);have zH:af (Y.heap.size<T∧F<T∧V<T):=⟨dm ▸ qZ,dm ▸ lt_of_heap vf.out.f,dm ▸ tA.out.lt⟩;have kq:=ao kU;clear mH Wz aeF mc aA Fv;go_upto_region 34 with fail;change Code.wp _ _ _ _ (j3.alloc (ai (#[ad (some (aj yq 0)) bM bM,I 0,I u,I 0]) Be));generalize j3.alloc (.cells #[ag yq 0 bM bM,I 0,I u,I 0] Be)=A4 at WA oV jA pz QF⊢;have awW:af (T≤A4.heap.size):=(by have:=oV.out.size;show _≤_;omega);clear d0 d1 d2 d3 qZ kU;obtain⟨Az,AA,rfl⟩:=iw jA.out.mU.own;obtain⟨pn,KS⟩:=aq ps.len;have zi:=ao KS;have awX:pn≤899:=(by have:=ps.Nw;omega);rw[KS] at jA;have bB:ak A4 F 9 (ad Az pn AA):=cell_of (i:=9) jA.out.f rfl;have eG:ak A4 Y.heap.size 1 (I mJ):=(by rw[←kq.out];exact cell_of (i:=1) QF.out rfl);obtain⟨i0,hi,cW,dv,dx⟩:=info_parts SQ;have bL:=ao (And.intro hi (And.intro cW (And.intro dv dx)));clear hi cW dv dx;have awY:=lt_of_heap jA.out.f;have nM:af (A4.ownsRow (F+1) ev 11 (ad Az pn AA) pn xs):=(by have h:=jA.out.mU.own;rw[zi.out] at h;exact h);have C2:af (∀b,b≤F→(Value.slice Az pn AA).ownBlock≠some b):=(fun b ay e=>by have:=(ky nM.out e).1;omega);have aeG:af (∀b,(Value.slice Az pn AA).ownBlock=some b→b≠T):=(fun b ay e=>by have:=(ky (vf.out.mU.own) (k:=b) (by rw[zi.out];exact ay)).2.1;omega);have key:∀bZ,aK (fun b=>b≠T) A4 bZ→ak bZ F 9 (ad Az pn AA)∧ak bZ Y.heap.size 1 (I mJ):=fun bZ aw=>⟨cell_of (i:=9) (aw.get (by have:=zH.out;omega) jA.out.f) rfl,by rw[←kq.out];exact cell_of (i:=1) (aw.get (by have:=zH.out;omega) QF.out) rfl⟩;have aeH:∀bZ mD br:aeo,aK (fun b=>b≠T) A4 bZ→an bZ bZ mD→mD.grownBy br (Value.slice Az pn AA).ownBlock→ak br F 9 (ad Az pn AA)∧br.frozen? ⟨F,9,none⟩=false:=(by intro bZ mD br aw ay aI;have bb:=ba (aw.get (by have:=zH.out;omega) jA.out.f) ay;have bj:=(aI.block F (lt_of_heap bb) (eN (C2.out F (aP _)))).trans bb;exact⟨cell_of bj rfl,dc bj 9⟩);have aeI:=ao key;have aeJ:=ao aeH;clear key aeH
      go_region_law (first|(refine arl (by rfl) _ _ _ (by rfl) (F+1) ev i0 tB 11 120 G3 bL.out.1 bL.out.2.1 bL.out.2.2.1 bL.out.2.2.2 rfl (by omega) (.slice Az pn AA) pn xs (by rfl) (fY AM.out (by first|exact Below.refl _ _|exact (Below.refl _ _).drew)) pp ql cp news (by rfl) eU (fun h=>by obtain⟨rV,aY,a6⟩:=aeK.out h;exact⟨rV,aY,a6 _ (by first|exact Below.refl _ _|exact (Below.refl _ _).drew)⟩) B3 (by unfold maxLen;omega) (by omega) (by first|omega|(simp;omega)) ?_;intro I3 gG br ct dn dF;obtain⟨bI,bJ⟩:=aeJ.out _ _ _ ko.out (by first|exact Below.refl _ _|exact (Below.refl _ _).drew) dn)|(rw[aW (by rfl)];go_simp;go_at_call 200;with_reducible refine (Av.out _ (by first|exact WA.out|exact WA.out.below ((Below.refl _ _).drew))).mono ?_;intro iI bZ wR;obtain⟨q,ql,oM,pp,cp,news,R8,R9,yg,rfl,aeL,vX,pS,aeM,eU,aeK,B3,aeN,LU⟩:=wR.get;have ko:=ao (show aK (fun b=>b≠T) A4 bZ from (by first|exact vX.out|exact aK.trans (.c4 ((Below.refl _ _).drew)) vX.out));obtain⟨Uy,arw⟩:=aeI.out _ ko.out;have AM:=ao (jk nM.out ko.out (fun b ay=>aeG.out b ay));have arx:=ko.out.size;clear vX wR)|fail)
      all_goals
       have qO:an j3 j3 bZ:=oV.out.trans (ko.out.below j3.heap.size oV.out.size fun b ay e=>by omega);have n1:=ao (vf.out.push (q:=q) (pv':=ad I3 (pn+ql) gG) qO (by first|exact Below.refl _ _|exact (Below.refl _ _).drew) (aeN.out.mono fun b _ ay=>by first|exact cd oV.out.size ay) (by rw[zi.out,aeL.out];exact ct) (by rw[zi.out];exact dn) (by rw[zi.out];exact dF));have jo:af ((br.setCell (aj F 9) (ad I3 (pn+ql) gG)).heap[T]?=some (.cells #[R8,R9,yg,I oM] Be)):=(tn (by show T≠F;have:=zH.out;omega)).trans ((dn.block T (by first|exact lt_of_heap pS.out) (fun e=>aeG.out T e.symm rfl)).trans pS.out);have aeO:af (kh (fun _=>True) V 99 (br.setCell (aj F 9) (ad I3 (pn+ql) gG))):=(((pz.out.keep ko.out (show V≠T by have:=zH.out;omega)).below (by first|exact Below.refl _ _|exact (Below.refl _ _).drew)).keep (S:=fun b=>b≤F) (aK.grown dn fun b e ay=>C2.out b ay e) (by have:=QD.out;omega)).keep (aK.ne _) (show V≠F by have:=QD.out;omega);have aeP:af ((ps.append q).count≤1899):=(by show _≤_;rw[bf.count_append];have:=aeM.out;omega);clear ct dn dF bI bJ qO aeI aeJ aeN aeK AM pS bL bB eG Uy arw oV jA pz QF eU B3 aeM;generalize br.setCell (aj F 9) (ad I3 (pn+ql) gG)=nr at n1 jo aeO⊢;have t3:=cell_of (i:=3) jo.out rfl;by_cases QG:oM=0
       ·subst QG;have hlen:(ps.append q).len=pn+ql:=(by rw[bf.uw,zi.out,aeL.out]);have WB:af (Calls Tryz.prog 40 #[.agg #[I iG.k,I iG.a.1,I iG.a.2,I iG.b.1,I iG.b.2,I iG.c.1,I iG.c.2,I iG.r,cC,ad I3 (pn+ql) gG]] nr fun e w'=>e=ab (I (((ps.append q).count+1:Nat):Int))∧an nr nr w'):=(by obtain⟨awZ,aw0,aY,au⟩:=n1.out.mU.fin (by have:=(ps.append q).Nw;have:=aeP.out;unfold jr;omega);rw[hlen] at aY;injection aY with aY _ cV;subst aY cV;have h:=GX _ iG (ps.append q) (by have:=aeP.out;omega) none 0 0 I3 gG nr (ao au.p);rw[hlen] at h;exact h);obtain⟨bg,oj⟩:=aq ((ps.append q).count);have kc:=ao oj;rw[oj] at WB;obtain⟨z0,z1,z2,z3,z4,z5,gZ,gR,fM,z9⟩:=dQ n1.out.f;clear hlen oj;go_wp2_with fail;with_reducible refine WB.out.mono ?_
        rintro tm hV ⟨rfl,nu⟩;have lL:=ao (n1.out.below nu);have ary:=ao (aeO.out.below nu);clear nu z0 z1 z2 z3 z4 z5 gZ gR fM z9 t3 WB;by_cases F4:bg≤899
        ·have rH:¬(900:Int)<((bg+1:Nat):Int):=(by omega);go_wp2_with fail;go_round
         ·(repeat apply Exists.intro)
          exact⟨⟨k+1,_,_,_,_,_,rfl,by omega,by go_num,(show (ps.append q).count≤899 by rw[kc.out];exact F4),lL.out,ary.out⟩,rfl⟩
         ·(simp[intOf]<;>omega)
        ·have rH:(900:Int)<((bg+1:Nat):Int):=(by omega);obtain⟨du,dI,h4,qC,qD,qE,qF,tq,xv,xw⟩:=dQ lL.out.r;have LK:=dc lL.out.r;go_wp2_with fail;exact aeu 6 rfl lL.out.r lL.out.aM rfl rfl (by decide)
       ·have eM:(((oM:Nat):Int) !=0)=true:=(by rw[bne_iff_ne];omega);obtain⟨du,dI,h4,qC,qD,qE,qF,tq,xv,xw⟩:=dQ n1.out.r;have LK:=dc n1.out.r;have aw1:=lt_of_heap n1.out.r;have aw2:w.heap.size<T:=(by have:=zH.out;have:=yb.out;omega);have aw3:T≠w.heap.size:=(by omega);have LQ:=lt_of_heap jo.out;go_upto_region 36 with fail;go_region
        all_goals
         go_wp2_with fail;exact ari oM rfl n1.out.r n1.out.aM rfl rfl QG
   ·obtain rfl:k=j:=(by omega);obtain⟨pp,cp,arz,ff⟩:=bH.out.mU.fin (by have:=ps.Nw;unfold jr;omega);subst arz;have QH:=ao ff;obtain⟨z0,z1,z2,z3,z4,z5,gZ,gR,fM,z9⟩:=dQ bH.out.f;obtain⟨du,dI,h4,qC,qD,qE,qF,tq,xv,xw⟩:=dQ bH.out.r;have f0:=dc bH.out.r;clear ff;go_wp2_with fail;refine lh (P:=bodyPost _ _ _ _ _) (js iG cC (ad pp ps.len cp)) bH.out.r rfl fun cZ g1 g2=>?_;exact cL (mw rfl _ _ w.heap.size _ _ _ _ rfl g1 pF rfl (by kernel_rfl)) rfl ⟨g2.aM bH.out.aM (aP _) bH.out.aM.size,.inr ⟨ps,pp,cp,rfl,(QH.out.keep (g2.mono fun b _ ay=>by have:=yb.out;omega)).mono fun b _ ay=>by have:=yb.out;omega⟩⟩
end c1
