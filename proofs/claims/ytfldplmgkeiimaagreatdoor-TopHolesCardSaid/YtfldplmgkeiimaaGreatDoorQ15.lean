/- Lemmas. -/
import Derived.Test.YtfldplmgkeiimaaGreatDoorQ14
import Derived.StillTailTactics
import Derived.RegionTactic
import Derived.BigRegion
set_option linter.all false
set_option maxRecDepth 100000
set_option maxHeartbeats 6400000
namespace Go.Proofs.YtfldplmgkeiimaaGreatDoor
abbrev PI:=@Proofs.Tryz.func138
abbrev PJ:=@Proofs.Tryz.ntmps138
abbrev aa8:=@List.isPrefixOf_iff_prefix
abbrev Uu:=@Proofs.Tryz.strings_CutPrefix
abbrev Lq:=@decide_eq_true_iff
abbrev HZ:=@Eq.symm
abbrev Fz:=@UInt8.toNat.inj
abbrev aa9:=@List.length_eq_zero_iff
abbrev yn:=@Proofs.Tryz.func139
abbrev yo:=@Proofs.Tryz.ntmps139
abbrev Dg:=@decide_eq_decide
namespace jj
open Go.RowKit pH kG qk Mem rG cf
theorem ej{a b:Bool}(h:a=b):Ending.returned (ai a)=bb (ai b):=by rw[h]
variable{w:bTo}
theorem aO{v:bTo}{b:Nat}{o:Obj}(h:w.heap[b]?=some o)(af:av w w v):v.heap[b]?=some o:=
 (af.block b (Array.getElem?_eq_some_iff.1 h).1).trans h
variable{v:ada}{B bn n size:Nat}{e:aui}
theorem fE{w':bTo}{xs:bTv}(h:w.ownsRow B e bn v n xs)(af:av w w w'):w'.ownsRow B e bn v n xs:=
 h.kept (row:=none) ⟨af.os,af.tape,af.output,af.size,fun k ab _=>af.block k ab⟩ (by cases v.ownBlock<;>simp)
theorem oR{t:aui}{xs:bTv}(h:w.ownsRow B e bn v n xs){b:Nat}{cs:agv}{ef:Nat×Nat}(af:w.heap[b]?=some (.cells cs t ef))(he:e≠t):v.ownBlock≠some b:=by
 rcases h.2 with ⟨rfl,_⟩|⟨g,cap,cur,rfl,_,aF,_⟩
 ·simp[Value.ownBlock]
 ·intro ah;have:g=b:=(by simpa[Value.ownBlock] using ah);subst this;rw[af] at aF;injection aF with aF;injection aF with _ bH;exact he bH.symm
theorem KK{C:Nat}{f:aui}{s1 s2 m:Nat}{u:ada}{xs eS:bTv}(h:w.ownsRow B e s1 v n xs)(g:w.ownsRow C f s2 u m eS)(he:e≠f):u.ownBlock=none∨u.ownBlock≠v.ownBlock:=by
 rcases g.2 with ⟨rfl,_⟩|⟨k,cap,cur,rfl,_,aF,_⟩
 ·exact .inl rfl
 ·exact .inr (fN (oR h aF he))
theorem ik{xs:bTv}(h:w.ownsRow B e bn v n xs):∃p cap,v=ad p n cap:=by
 rcases h.2 with ⟨rfl,rfl⟩|⟨g,cap,cur,rfl,_⟩
 ·exact⟨_,_,rfl⟩
 ·exact⟨_,_,rfl⟩
def CS(x:ew):List Value:=[I (x.a:Int),ai x.ext,ai x.first,au ⟨x.t.toArray⟩]
def rI(l:List ew):List Value:=l.flatMap CS
theorem alQ(l:List ew)(x:ew):rI (l++[x])=rI l++CS x:=by simp[rI]
abbrev Dh(cz iS:ada)(a:Nat)(g:Bool)(i:Nat):Obj:=.cells #[cz,iS,I (a:Int),ai g,I (i:Int)] 210
structure wW(s:iB):Prop where
 n0:s.words.length≤20000
 dK:s.text≠[]→s.words.length<20000
 e':s.text.length≤10000
 n4:s.inner≤s.words.length
structure hv(B R:Nat)(cz iS:ada)(s:iB)(w:bTo):Prop where
 ge:B≤R
 obj:w.heap[R]?=some (Dh cz iS s.a s.group s.inner)
 ws:w.ownsRow B 153 4 cz s.words.length (rI s.words)
 tx:w.ownsRow B 5 1 iS s.text.length (sI s.text)
theorem alR(w:bTo)(R o:Nat)(u:ada):w.grownBy (w.setCell (ag R o) u) (some R):=
 ⟨rfl,rfl,rfl,by simp[World.setCell],fun k ab hne=>jZ _ _ _ _ (fun e=>hne (gb some e))⟩
theorem tU{x:bTo}{base:Nat}{t:aui}{xs:bTv}(h:x.ownsRow base e size v n xs){R o:Nat}{cs:agv}{ef:Nat×Nat}(hR:x.heap[R]?=some (.cells cs t ef))(he:e≠t)(u:ada):(x.setCell (ag R o) u).ownsRow base e size v n xs:=
 h.kept (alR x R o u) (.inr (oR h hR he))
theorem aba{x:bTo}{p:aya}{cap:Nat}{xs:bTv}(h:x.ownsRow B e size (ad p n cap) n xs):x.ownsRow B e size (ad p 0 cap) 0 []:=by
 rcases h.2 with ⟨aa,ah⟩|⟨g,c,cur,aa,ah,ax,bg,b7,c0,ea⟩
 ·refine⟨by simp,.inl ⟨?_,rfl⟩⟩;injection aa with aN _ cA;rw[aN,cA]
 ·injection aa with aN _ cA;subst aN;subst cA;exact⟨by simp,.inr ⟨g,cap,cur,rfl,ah,ax,eC _,b7,c0,by simp⟩⟩
section
variable{B R:Nat}{cz iS:ada}{s:iB}{w w':bTo}
theorem hv.below(h:hv B R cz iS s w)(af:av w w w'):hv B R cz iS s w':=
 ⟨h.ge,aO h.obj af,fE h.ws af,fE h.tx af⟩
theorem hv.cells(h:hv B R cz iS s w):aw w R 0 cz∧aw w R 1 iS∧aw w R 2 (I (s.a:Int))∧aw w R 3 (ai s.group)∧aw w R 4 (I (s.inner:Int)):=by have aa:=h.obj;refine⟨?_,?_,?_,?_,?_⟩<;>simp[World.cell?,aa]
theorem hv.ef(h:hv B R cz iS s w)(o:Nat):w.frozen? ⟨R,o,none⟩=false:=by have aa:=h.obj;simp[World.frozen?,aa]
theorem hv.lt(h:hv B R cz iS s w):R<w.heap.size:=(Array.getElem?_eq_some_iff.1 h.obj).1
theorem hv.at(h:hv B R cz iS s w)(a:Nat):hv B R cz iS {s with a:=a} (w.setCell (ag R 2) (I (a:Int))):=
 ⟨h.ge,by rw[kA h.obj];rfl,tU h.ws h.obj (by decide) _,tU h.tx h.obj (by decide) _⟩
theorem hv.SF(h:hv B R cz iS s w)(g:Bool):hv B R cz iS {s with group:=g} (w.setCell (ag R 3) (ai g)):=
 ⟨h.ge,by rw[kA h.obj];rfl,tU h.ws h.obj (by decide) _,tU h.tx h.obj (by decide) _⟩
theorem hv.rz(h:hv B R cz iS s w)(i:Nat)(x:Int)(hx:(i:Int)=x):hv B R cz iS {s with inner:=i} (w.setCell (ag R 4) (I x)):=by subst hx;exact⟨h.ge,by rw[kA h.obj];rfl,tU h.ws h.obj (by decide) _,tU h.tx h.obj (by decide) _⟩
theorem hv.clear{p:aya}{n cap:Nat}(h:hv B R cz (ad p n cap) s w)(hn:n=s.text.length):hv B R cz (ad p 0 cap) {s with text:=[]} (w.setCell (ag R 1) (ad p 0 cap)):=by
 subst hn;exact
 ⟨h.ge,by rw[kA h.obj];rfl,tU h.ws h.obj (by decide) _,tU (aba h.tx) h.obj (by decide) _⟩
variable{v':ada}
theorem hv.push{X bE:bTo}{x:ew}(h:hv B R cz iS s w)(dp:av w w X)(aX:X.grownBy bE cz.ownBlock)(bl:bE.ownsRow B 153 4 v' (s.words.length+1) (rI s.words++CS x))(bJ:B≤w.heap.size):
  hv B R v' iS {s with words:=s.words++[x]} (bE.setCell (ag R 0) v')∧Below B w (bE.setCell (ag R 0) v')∧bE.heap[R]?=some (Dh cz iS s.a s.group s.inner):=by
 have aa:=h.below dp;have hR:bE.heap[R]?=some (Dh cz iS s.a s.group s.inner):=(aX.block R aa.lt (fN (oR aa.ws aa.obj (by decide)))).trans aa.obj;have bH:=aa.tx.kept aX (KK aa.ws aa.tx (by decide));refine⟨⟨h.ge,by rw[kA hR];rfl,?_,tU bH hR (by decide) _⟩,?_,hR⟩
 ·show World.ownsRow _ B _ 4 v' (s.words++[x]).length (rI (s.words++[x]));rw[alQ,show (s.words++[x]).length=s.words.length+1 by simp];exact tU bl hR (by decide) _
 ·exact (((dp.mono bJ).grown aX (dX bJ dp.size) (fun k ab=>(aa.ws.lt _ ab).1))).setCell h.ge _
theorem hv.add{X bE:bTo}{c:UInt8}(h:hv B R cz iS s w)(dp:av w w X)(aX:X.grownBy bE iS.ownBlock)(bl:bE.ownsRow B 5 1 v' (s.text.length+1) (sI s.text++[.int .u8 (c.toNat:Int)]))(bJ:B≤w.heap.size):
  hv B R cz v' {s with text:=s.text++[c]} (bE.setCell (ag R 1) v')∧Below B w (bE.setCell (ag R 1) v')∧bE.heap[R]?=some (Dh cz iS s.a s.group s.inner):=by
 have aa:=h.below dp;have hR:bE.heap[R]?=some (Dh cz iS s.a s.group s.inner):=(aX.block R aa.lt (fN (oR aa.tx aa.obj (by decide)))).trans aa.obj;have bH:=aa.ws.kept aX (KK aa.tx aa.ws (by decide));refine⟨⟨h.ge,by rw[kA hR];rfl,tU bH hR (by decide) _,?_⟩,?_,hR⟩
 ·show World.ownsRow _ B _ 1 v' (s.text++[c]).length (sI (s.text++[c]));rw[alr,show (s.text++[c]).length=s.text.length+1 by simp];exact tU bl hR (by decide) _
 ·exact (((dp.mono bJ).grown aX (dX bJ dp.size) (fun k ab=>(aa.tx.lt _ ab).1))).setCell h.ge _
end
def abb(B R:Nat)(w:bTo)(res:Except Nat iB)(e:Ending)(w':bTo):Prop:=Below B w w'∧match res with
 |.ok s'=>e=bb (I 0)∧wW s'∧∃cz iS,hv B R cz iS s' w'
 |.error k=>e=bb (I (k:Int))
theorem abc:(Tryz.prog.info? 153).map (fun i=>(i.zero,i.size,i.bytes))=some (some (.agg #[I 0,ai false,ai false,au ⟨#[]⟩]),4,32):=by kernel_rfl
theorem PK:(Tryz.prog.info? 5).map (fun i=>(i.zero,i.size,i.bytes))=some (some (.int .u8 0),1,1):=by kernel_rfl
end jj
namespace jj
open Go.RowKit pH kG qk Mem rG cf
theorem qm(S:aia):(⟨S.data.toList.toArray⟩:aia)=S:=rfl
theorem Di(S:aia)(k:Nat):(S.extract 0 k).data.toList=S.data.toList.take k:=by rw[Da];simp
theorem abd(s:aia)(a k:Nat):(s.extract a k).data.toList=(s.data.toList.take k).drop a:=by rw[Da,Ki]
theorem mG(S:aia)(hs:S.size≤maxLen)(n:Nat)(hn:J (bC S.data.toList=n))(w:bTo):
  Calls Tryz.prog 176 #[au S] w fun e w'=>e=bb (I (n:Int))∧w=w':=by
 have Dj:=U hs;unfold maxLen at hs;go_enter Tryz.func176,Tryz.ntmps176;go_wp2_with fail
 go_loop [3] (fun i=>∃k:Nat,J (k≤bC S.data.toList)∧i=I (k:Int)) (fun i=>S.size -(intOf i).toNat)
 case atStart=>exact⟨0,eC _,rfl⟩
 case round=>
  obtain⟨k,cT,rfl⟩:=hrel;have ko:k≤S.size:=(by have aa:=r5 S.data.toList;have:=cT.out;rw[cR] at aa;omega);by_cases b0:k<S.size
  ·have Lr:k<S.data.toList.length:=(by rw[cR];exact b0);have ib:(k:Int)<(S.size:Int):=(by omega);by_cases hd:48≤S[k].toNat∧S[k].toNat≤57
   ·have a1:J (k+1≤bC S.data.toList):=NK cT.out Lr (by rw[oq S k b0];exact (q7 _).2 hd);obtain⟨gQ,fV⟩:=hd;go_wp2_with fail;go_round
    case rel=>exact⟨k+1,a1,by go_num⟩
    case measure=>simp[intOf];omega
   ·have a1:J (k=n):=(by show _=_;rw[←hn.out];exact (JQ cT.out Lr (by rw[oq S k b0];exact (JO _).2 (by omega))).symm);by_cases aa:48≤S[k].toNat
    ·have ah:¬S[k].toNat≤57:=fun h=>hd ⟨aa,h⟩;go_wp2_with fail;go_ret;exact⟨Fy (by rw[a1.out]),rfl⟩
    ·go_wp2_with fail;go_ret;exact⟨Fy (by rw[a1.out]),rfl⟩
  ·have a1:J (k=n):=(by show _=_;rw[←hn.out];have aa:=r5 S.data.toList;have:=cT.out;rw[cR] at aa;omega);have ib:¬((k:Int)<(S.size:Int)):=(by omega);go_wp2_with fail;go_ret;exact⟨Fy (by rw[a1.out]),rfl⟩
def Ls(o:Option Nat)(e:Ending):Prop:=e=bb (.tuple #[I ((o.getD 0:Nat):Int),ai o.isSome])
theorem K'(S:aia)(hs:S.size≤maxLen)(o:Option Nat)(bl:J (Ez S.data.toList=o))(w:bTo):
  Calls Tryz.prog 138 #[au S] w fun e w'=>Ls o e∧w=w':=by
 have Dj:=U hs;unfold maxLen at hs;have aj:=bl.out;unfold Ez at aj;rw[cR] at aj;clear bl;obtain⟨n,hn⟩:=az (bC S.data.toList);have ot:=U hn;by_cases aa:S.size<1
 ·rw[aT (.inl aa)] at aj;have b':=U aj;have FA:(S.size:Int)<1:=(by omega);clear aj;go_enter PI,PJ;go_wp2_with fail;go_ret2;rw[←b'.out];exact⟨rfl,rfl⟩
 ·by_cases bg:4<S.size
  ·rw[aT (.inr (.inl bg))] at aj;have b':=U aj;have FA:¬(S.size:Int)<1:=(by omega);have alS:4<(S.size:Int):=(by omega);clear aj;go_enter PI,PJ;go_wp2_with fail;go_ret2;rw[←b'.out];exact⟨rfl,rfl⟩
  ·have FA:¬(S.size:Int)<1:=(by omega);have alS:¬4<(S.size:Int):=(by omega);by_cases gp:n=S.size
   ·rw[aK (by rw[hn];omega)] at aj;have b':=U aj;have Lt:((n:Int) !=(S.size:Int))=false:=(by simp[gp]);clear aj;go_enter PI,PJ;go_wp2_with fail;go_fit (mG S Dj.out n ot _);rintro e cr ⟨rfl,rfl⟩;go_wp2_with fail
    go_loop [4,23] (fun v i=>∃k:Nat,k≤S.size∧i=I (k:Int)∧v=I (val (S.data.toList.take k):Nat)) (fun _ i=>S.size -(intOf i).toNat)
    case atStart=>exact⟨0,eC _,rfl,rfl⟩
    case round=>
     obtain⟨k,ab,rfl,rfl⟩:=hrel;by_cases b0:k<S.size
     ·have ko:k<S.data.toList.length:=(by rw[cR];exact b0);have hd:48≤S[k].toNat∧S[k].toNat≤57:=(by have:=(za S.data.toList).1 k ko (by rw[ot.out];omega);rw[oq S k b0] at this;exact (q7 _).1 this);have aS:val (S.data.toList.take k)<10000:=jl (Ei S.data.toList k (by rw[ot.out];omega)) (by have:=vU (n:=10) (by decide) (show k≤4 by omega);simpa using this);have cF:J (val (S.data.toList.take (k+1))=val (S.data.toList.take k) *10+(S[k].toNat-48)):=(by show _=_;rw[PE S k b0];exact NJ _ _);have ib:(k:Int)<(S.size:Int):=(by omega);obtain⟨gQ,fV⟩:=hd;go_wp2_with fail;go_round
      case rel=>exact⟨k+1,by omega,by go_num,by rw[cF.out];go_num⟩
      case measure=>simp[intOf];omega
     ·have ib:¬((k:Int)<(S.size:Int)):=(by omega);have cd:J (S.data.toList.take k=S.data.toList):=zS (by rw[cR];omega);go_wp2_with fail;go_ret2;rw[←b'.out,cd.out];exact⟨rfl,rfl⟩
   ·rw[aT (.inr (.inr (by rw[hn];exact gp)))] at aj;have b':=U aj;have Lt:((n:Int) !=(S.size:Int))=true:=(by simp;omega);clear aj;go_enter PI,PJ;go_wp2_with fail;go_fit (mG S Dj.out n ot _);rintro e cr ⟨rfl,rfl⟩;go_wp2_with fail;go_ret2;rw[←b'.out];exact⟨rfl,rfl⟩
theorem qn(S P:aia)(r:bk)(h:J (S.data.toList=P.data.toList++r))(w:bTo):
  Calls Tryz.prog 89 #[au S,au P] w fun e w'=>e=bb (.tuple #[au ⟨r.toArray⟩,ai true])∧w=w':=by
 have aa:Lib.hasPrefix S.data.toList P.data.toList=true:=by rw[h.out];unfold Lib.hasPrefix;rw[aa8];exact List.prefix_append _ _
 have ah:Lib.trimPrefix S.data.toList P.data.toList=r:=by unfold Lib.trimPrefix;rw[aT aa,h.out,List.drop_left]
 refine (Uu S P w).mono fun e w' ⟨he,hw⟩=>⟨?_,hw.symm⟩;rw[he,aa,ah]
theorem Dk(S P:aia)(h:J (∀r,S.data.toList≠P.data.toList++r))(w:bTo):
  Calls Tryz.prog 89 #[au S,au P] w fun e w'=>e=bb (.tuple #[au S,ai false])∧w=w':=by
 have aa:Lib.hasPrefix S.data.toList P.data.toList=false:=by rw[y8];unfold Lib.hasPrefix;intro hp;obtain⟨r,hr⟩:=List.isPrefixOf_iff_prefix.1 hp;exact h.out r hr.symm
 have ah:Lib.trimPrefix S.data.toList P.data.toList=S.data.toList:=by unfold Lib.trimPrefix;rw[aa];rfl
 refine (Uu S P w).mono fun e w' ⟨he,hw⟩=>⟨?_,hw.symm⟩;rw[he,aa,ah,qm]
theorem yp(S P:aia)(b:Bool)(h:J (decide (S.data.toList.take P.data.toList.length=P.data.toList)=b))(w:bTo):
  Calls Tryz.prog 130 #[au S,au P] w fun e w'=>e=bb (ai b)∧w=w':=by
 refine (Tryz.strings_HasPrefix S P w).mono fun e w' ⟨he,hw⟩=>⟨?_,hw.symm⟩;rw[he,←h.out];refine ej ?_;rw[xO,Lq];unfold Lib.hasPrefix;rw[aa8,List.prefix_iff_eq_take];exact⟨HZ,HZ⟩
theorem Uv{l p:bk}(h:l.take p.length=p):l=p++l.drop p.length:=by conv=>lhs;rw[←Ty p.length l,h]
theorem Uw{l p:bk}(h:l.take p.length≠p):∀r,l≠p++r:=fun r hr=>h (by rw[hr];simp)
theorem Ux(S:aia)(hs:S.size≤maxLen)(o:Option Nat)(bl:J (wv S.data.toList=o))(w:bTo):
  Calls Tryz.prog 94 #[au S] w fun e w'=>Ls o e∧w=w':=by
 have Dj:=U hs;unfold maxLen at hs;have aj:=bl.out;unfold wv at aj;rw[cR] at aj;clear bl;by_cases aa:S.size<2
 ·rw[aT (.inl aa)] at aj;have b':=U aj;have FA:(S.size:Int)<2:=(by omega);clear aj;go_enter Tryz.func94,Tryz.ntmps94;go_wp2_with fail;go_ret2;rw[←b'.out];exact⟨rfl,rfl⟩
 ·have FA:¬(S.size:Int)<2:=(by omega);have hp:0<S.size:=(by omega);have aF:=Bw S hp;obtain⟨c,hc⟩:=az (S[0]);have hd:S.data.toList.headD 0=c:=(by rw[aF,hc];rfl);rw[hd] at aj;obtain⟨x,hx⟩:=az (c.toNat:Int);clear aF hd;by_cases ja:c=48
  ·rw[aT (.inr ja)] at aj;have b':=U aj;have alT:x=48:=(by rw[←hx,ja];rfl);clear aj ja;go_enter Tryz.func94,Tryz.ntmps94;go_wp2_with fail;go_ret2;rw[←b'.out];exact⟨rfl,rfl⟩
  ·rw[aK (by intro h;rcases h with h|h;exact aa h;exact ja h)] at aj;have b':=U aj;have alT:(x==48)=false:=(by rw[y8];intro h;apply ja;apply Fz;have:x=48:=(by simpa using h);show c.toNat=48;omega);clear aj ja;go_enter Tryz.func94,Tryz.ntmps94;go_wp2_with fail;go_fit (K' S Dj.out o b' _);rintro e cr ⟨he,rfl⟩;unfold Ls at he;subst he;go_wp2_with fail;go_ret2;exact⟨rfl,rfl⟩
def H0(w w':bTo):Prop:=∃n,w'=w.drewN n
variable{w x W fB:bTo}
theorem mn{w':bTo}(h:H0 w w'):av w w w':=by obtain⟨n,rfl⟩:=h;exact below_drewN (Below.refl _ _) n
theorem abe(S:aia):(S.toList==[])=decide (S.size=0):=by rw[oY,xO,tC,Lq,←cR,aa9]
theorem H2{c:UInt8}{k:Nat}(ab:k<256)(h:c≠UInt8.ofNat k):((c.toNat:Int)==(k:Int))=false:=by
 rw[y8];intro he;apply h;apply Fz;have:(c.toNat:Int)=(k:Int):=by simpa using he
 have ah:(UInt8.ofNat k).toNat=k:=by simp;omega
 rw[ah];omega
theorem PL(S:aia)(hs:S.size≤1000000000)(c:UInt8)(A R:aia)(h:J (k0 S.data.toList c=(A.data.toList,R.data.toList)))(w:bTo):
  Calls Tryz.prog 139 #[au S,au ⟨#[c]⟩] w fun e w'=>e=bb (.tuple #[au A,au R])∧H0 w w':=by
 have Dj:=U hs;have aF:=h.out;unfold k0 at aF;clear h;by_cases hc:S.data.toList≠[]∧S.data.toList.headD 0=c
 ·rw[aT hc] at aF;obtain⟨r,hr⟩:=az (S.data.toList.drop 1);rw[hr] at aF
  have hS:S.data.toList=[c] ++r:=by
   cases aC:S.data.toList with
   |nil=>exact absurd aC hc.1
   |cons d q=>
    rw[aC] at hc hr;rw[←hr,←hc.2];rfl
  obtain⟨T,rfl⟩:=kz r;have cF:J (S.data.toList=(⟨#[c]⟩:aia).data.toList++T.data.toList):=hS;have r9:T.size+1=S.size:=(by have aa:=gb List.length hS;rw[cR,gh,cR] at aa;simp at aa;omega);obtain⟨g,aX⟩:=az (wx T.data.toList);rw[aX] at aF;obtain⟨n,hn⟩:=az (bC (T.data.toList.drop g));rw[hn] at aF
  have Dl:g≤1∧g≤T.size:=by
   rw[←aX,←cR];unfold wx;split
   ·rename_i aC;exact⟨bD _,List.length_pos_iff.2 aC.1⟩
   ·exact⟨eC _,eC _⟩
  have Lu:g+n≤T.size:=(by have aa:=r5 (T.data.toList.drop g);rw[hn,gZ,cR] at aa;omega);have yq:J (bC (T.extract g T.size).data.toList=n):=(by show _=_;rw[nd,hn]);have Lv:(T.extract g T.size).size≤maxLen:=(by rw[←cR,nd,gZ,cR];unfold maxLen;omega);have H3:=U Lv;have ho:=U aF;have PM:T.size≤1000000000:=(by omega);obtain⟨Dl,N0⟩:=Dl;clear aF hc hr hS Lv hn r9;by_cases aQ:T.size=0
  ·have Dm:(T.toList==[])=true:=(by rw[abe];exact eH aQ);have Dn:g=0:=(by omega);subst Dn;have l8:n=0:=(by omega);subst l8;have CU:J (bC T.data.toList=0):=(by have aa:=yq.out;rw[nd] at aa;exact aa);have aF:=ho.out;rw[aT (.inl (by omega))] at aF;simp only[gA] at aF;obtain rfl:A=⟨#[]⟩:=ml aF.1.symm;obtain rfl:R=S:=ml aF.2.symm;clear aF ho aX aQ;go_enter yn,yo;go_wp2_with fail;go_fit (qn _ _ _ cF _);rintro e cr ⟨rfl,rfl⟩;rw[qm];go_wp2_with fail;go_fit (mG T (by unfold maxLen;omega) 0 (U CU.out) _);rintro e cr ⟨rfl,rfl⟩;go_wp2_with fail;go_ret2;exact⟨rfl,0,rfl⟩
  ·have Dm:(T.toList==[])=false:=(by rw[abe];exact eD aQ);have hp:0<T.size:=(by omega);have Uy:=Bw T hp;obtain⟨d,hd⟩:=az (T[0]);rw[hd] at Uy;have FB:wx T.data.toList=if d=43∨d=45 then 1 else 0:=by rw[Uy];unfold wx;simp
   rw[aX] at FB;clear Uy aX aQ;by_cases De:d=43
   ·subst De;rw[aT (.inl rfl)] at FB;subst FB;have alU:((43:UInt8).toNat:Int)=43:=rfl;by_cases fX:n<1∨12<n
    ·have aF:=ho.out;rw[aT fX] at aF;simp only[gA] at aF;obtain rfl:A=⟨#[]⟩:=ml aF.1.symm;obtain rfl:R=S:=ml aF.2.symm;clear aF ho;by_cases kI:(n:Int)<1
     ·clear fX;go_enter yn,yo;go_wp2_with fail;go_fit (qn _ _ _ cF _);rintro e cr ⟨rfl,rfl⟩;rw[qm];go_wp2_with fail;go_fit (mG _ H3.out n yq _);rintro e cr ⟨rfl,rfl⟩;go_wp2_with fail;go_ret2;exact⟨rfl,0,rfl⟩
     ·have FC:12<(n:Int):=(by omega);clear fX;go_enter yn,yo;go_wp2_with fail;go_fit (qn _ _ _ cF _);rintro e cr ⟨rfl,rfl⟩;rw[qm];go_wp2_with fail;go_fit (mG _ H3.out n yq _);rintro e cr ⟨rfl,rfl⟩;go_wp2_with fail;go_ret2;exact⟨rfl,0,rfl⟩
    ·have aF:=ho.out;rw[aK fX] at aF;simp only[gA] at aF;have b8:J (T.extract 0 (1+n)=A):=ml (by rw[Di];exact aF.1);have br:J (T.extract (1+n) T.size=R):=ml (by rw[nd];exact aF.2);have kI:¬(n:Int)<1:=(by omega);have FC:¬12<(n:Int):=(by omega);have abf:(n:Int)≤12:=(by omega);clear aF ho fX;go_enter yn,yo;go_wp2_with fail;go_fit (qn _ _ _ cF _);rintro e cr ⟨rfl,rfl⟩;rw[qm];go_wp2_with fail;go_fit (mG _ H3.out n yq _);rintro e cr ⟨rfl,rfl⟩;go_wp2_with fail
     go_quiet (fail)
     go_wp2_with fail;go_ret2;obtain rfl:=b8.out;obtain rfl:=br.out;exact⟨rfl,_,rfl⟩
   ·by_cases PN:d=45
    ·subst PN;rw[aT (.inr rfl)] at FB;subst FB;have alU:((45:UInt8).toNat:Int)=45:=rfl;by_cases fX:n<1∨12<n
     ·have aF:=ho.out;rw[aT fX] at aF;simp only[gA] at aF;obtain rfl:A=⟨#[]⟩:=ml aF.1.symm;obtain rfl:R=S:=ml aF.2.symm;clear aF ho;by_cases kI:(n:Int)<1
      ·clear fX;go_enter yn,yo;go_wp2_with fail;go_fit (qn _ _ _ cF _);rintro e cr ⟨rfl,rfl⟩;rw[qm];go_wp2_with fail;go_fit (mG _ H3.out n yq _);rintro e cr ⟨rfl,rfl⟩;go_wp2_with fail;go_ret2;exact⟨rfl,0,rfl⟩
      ·have FC:12<(n:Int):=(by omega);clear fX;go_enter yn,yo;go_wp2_with fail;go_fit (qn _ _ _ cF _);rintro e cr ⟨rfl,rfl⟩;rw[qm];go_wp2_with fail;go_fit (mG _ H3.out n yq _);rintro e cr ⟨rfl,rfl⟩;go_wp2_with fail;go_ret2;exact⟨rfl,0,rfl⟩
     ·have aF:=ho.out;rw[aK fX] at aF;simp only[gA] at aF;have b8:J (T.extract 0 (1+n)=A):=ml (by rw[Di];exact aF.1);have br:J (T.extract (1+n) T.size=R):=ml (by rw[nd];exact aF.2);have kI:¬(n:Int)<1:=(by omega);have FC:¬12<(n:Int):=(by omega);have abf:(n:Int)≤12:=(by omega);clear aF ho fX;go_enter yn,yo;go_wp2_with fail;go_fit (qn _ _ _ cF _);rintro e cr ⟨rfl,rfl⟩;rw[qm];go_wp2_with fail;go_fit (mG _ H3.out n yq _);rintro e cr ⟨rfl,rfl⟩;go_wp2_with fail
      go_quiet (fail)
      go_wp2_with fail;go_ret2;obtain rfl:=b8.out;obtain rfl:=br.out;exact⟨rfl,_,rfl⟩
    ·rw[aK (by intro h;rcases h with h|h;exact De h;exact PN h)] at FB;subst FB;have CU:J (bC T.data.toList=n):=(by have aa:=yq.out;rw[nd] at aa;exact aa);have awq:((d.toNat:Int)==43)=false:=H2 (k:=43) (by decide) De;have awr:((d.toNat:Int)==45)=false:=H2 (k:=45) (by decide) PN;clear De PN;by_cases fX:n<1∨12<n
     ·have aF:=ho.out;rw[aT fX] at aF;simp only[gA] at aF;obtain rfl:A=⟨#[]⟩:=ml aF.1.symm;obtain rfl:R=S:=ml aF.2.symm;clear aF ho;by_cases kI:(n:Int)<1
      ·clear fX;go_enter yn,yo;go_wp2_with fail;go_fit (qn _ _ _ cF _);rintro e cr ⟨rfl,rfl⟩;rw[qm];go_wp2_with fail;go_fit (mG T (by unfold maxLen;omega) n CU _);rintro e cr ⟨rfl,rfl⟩;go_wp2_with fail;go_ret2;exact⟨rfl,0,rfl⟩
      ·have FC:12<(n:Int):=(by omega);clear fX;go_enter yn,yo;go_wp2_with fail;go_fit (qn _ _ _ cF _);rintro e cr ⟨rfl,rfl⟩;rw[qm];go_wp2_with fail;go_fit (mG T (by unfold maxLen;omega) n CU _);rintro e cr ⟨rfl,rfl⟩;go_wp2_with fail;go_ret2;exact⟨rfl,0,rfl⟩
     ·have aF:=ho.out;rw[aK fX] at aF;simp only[gA] at aF;have b8:J (T.extract 0 n=A):=ml (by rw[Di];have:=aF.1;rwa [lk] at this);have br:J (T.extract n T.size=R):=ml (by rw[nd];have:=aF.2;rwa [lk] at this);have kI:¬(n:Int)<1:=(by omega);have FC:¬12<(n:Int):=(by omega);have abf:(n:Int)≤12:=(by omega);clear aF ho fX;go_enter yn,yo;go_wp2_with fail;go_fit (qn _ _ _ cF _);rintro e cr ⟨rfl,rfl⟩;rw[qm];go_wp2_with fail;go_fit (mG T (by unfold maxLen;omega) n CU _);rintro e cr ⟨rfl,rfl⟩;go_wp2_with fail
      go_quiet (fail)
      go_wp2_with fail;go_ret2;obtain rfl:=b8.out;obtain rfl:=br.out;exact⟨rfl,_,rfl⟩
 ·rw[aK hc] at aF;simp only[gA] at aF;obtain rfl:A=⟨#[]⟩:=ml aF.1.symm;obtain rfl:R=S:=ml aF.2.symm;have a1:J (∀r,R.data.toList≠(⟨#[c]⟩:aia).data.toList++r):=(by intro r hr;apply hc;rw[hr];exact⟨by simp,rfl⟩);clear aF hc;go_enter yn,yo;go_wp2_with fail;go_fit (Dk _ _ a1 _);rintro e cr ⟨rfl,rfl⟩;go_wp2_with fail;go_ret2;exact⟨rfl,0,rfl⟩
def yr(j:Nat)(c:UInt8):Bool:=N7 c ||(decide (0<j)&&SC c)
theorem alV(l:bk)(aa:1≤l.length)(ah:l.length≤100):tv l=true↔∀j (h:j<l.length),yr j l[j]=true:=by
 cases l with
 |nil=>simp at aa
 |cons c r=>
  unfold tv;rw[eH aa,eH ah];simp only[JM,List.headD_cons,Bv,uW,gy,Tq];constructor
  ·rintro⟨ha,af⟩ j cB;cases j with
   |zero=>unfold yr;simp[ha]
   |succ j=>
    have:=af (r[j]'(by simpa using cB)) (j4 _);unfold yr;simpa using this
  ·intro h;refine⟨?_,fun x hx=>?_⟩
   ·have:=h 0 (by simp);unfold yr at this;simpa using this
   ·obtain⟨j,cB,rfl⟩:=List.getElem_of_mem hx;have:=h (j+1) (by simpa using cB);unfold yr at this;simpa using this
theorem alW(j:Nat)(c:UInt8)(x:Int)(hx:(c.toNat:Int)=x):yr j c=((decide (97≤x)&&decide (x≤122))||(decide (65≤x)&&decide (x≤90))|| decide (x=95)|| decide (x=46)|| decide (x=36)||(decide (0<j)&&((decide (48≤x)&&decide (x≤57))|| decide (x=45)))):=by
 have aa:∀k:Nat,k<256→(c==UInt8.ofNat k)=decide (x=(k:Int)):=by
  intro k ab;rw[xO,tC,Lq,←hx];constructor
  ·intro h;rw[h];simp;omega
  ·intro h;apply Fz;simp;omega
 have ah:∀k:Nat,decide (k≤c.toNat)=decide ((k:Int)≤x):=by intro k;rw[Dg,←hx];omega
 have ax:∀k:Nat,decide (c.toNat≤k)=decide (x≤(k:Int)):=by intro k;rw[Dg,←hx];omega
 unfold yr N7 SC fi;rw[ah,ax,ah,ax,ah,ax,show (c==95)=_ from aa 95 (by decide),show (c==46)=_ from aa 46 (by decide),show (c==36)=_ from aa 36 (by decide),show (c==45)=_ from aa 45 (by decide)];rfl
theorem abg(S:aia)(hs:S.size≤maxLen)(b:Bool)(af:J (tv S.data.toList=b))(w:bTo):
    Calls Tryz.prog 91 #[au S] w fun e w'=>e=bb (ai b)∧w=w':=by
  unfold maxLen at hs;by_cases aa:(S.size:Int)<1
  · have aH:J (false=b):=by show _=_;rw[←af.out];unfold tv;rw[cR,eD (show ¬1≤S.size by omega)];rfl
    go_enter Tryz.func91,Tryz.ntmps91;go_wp2_with fail;go_ret;exact⟨ej aH.out,rfl⟩
  · by_cases ah:100<(S.size:Int)
    · have aH:J (false=b):=by show _=_;rw[←af.out];unfold tv;rw[cR,eD (show ¬S.size≤100 by omega)];simp
      go_enter Tryz.func91,Tryz.ntmps91;go_wp2_with fail;go_ret;exact⟨ej aH.out,rfl⟩
    · have bY:J (tv S.data.toList=true↔∀j (h:j<S.data.toList.length),yr j S.data.toList[j]=true):=alV _ (by rw[cR];omega) (by rw[cR];omega)
      go_enter Tryz.func91,Tryz.ntmps91;go_wp2_with fail
      go_loop [15] (fun i=>∃k:Nat,k≤S.size∧J (∀j (h:j<S.data.toList.length),j<k→yr j S.data.toList[j]=true)∧i=I (k:Int)) (fun i=>S.size -(intOf i).toNat)
      case atStart=>exact⟨0,eC _,fun j _ h=>absurd h (l7 _),rfl⟩
      case round=>
        obtain⟨k,ab,cT,rfl⟩:=hrel;by_cases b0:k<S.size
        · have ko:k<S.data.toList.length:=by rw[cR];exact b0
          have ib:(k:Int)<(S.size:Int):=(by omega);obtain⟨x,hx⟩:∃x,(S[k].toNat:Int)=x:=⟨_,rfl⟩;obtain⟨H4,PO⟩:∃H4,yr k S[k]=H4:=⟨_,rfl⟩;have z6:=PO;rw[alW k S[k] x hx] at z6
          have h0:J (H4=true→∀j (h:j<S.data.toList.length),j<k+1→yr j S.data.toList[j]=true):=by
            intro bH j cB Br;by_cases alX:j=k
            · subst alX;rw[oq S j b0,PO,bH]
            · exact cT.out j cB (by omega)
          have cm:J (H4=false→false=b):=(by intro hf;rw[←af.out];refine (Bool.eq_false_iff.2 fun hn=>?_).symm;have:=bY.out.1 hn k ko;rw[oq S k b0,PO,hf] at this;cases this);clear PO;have hl:(97≤x∧x≤122)∨(123≤x)∨(x=96)∨(x=95)∨(91≤x∧x≤94)∨(65≤x∧x≤90)∨(58≤x∧x≤64)∨(48≤x∧x≤57)∨(x=47)∨(x=46)∨(x=45)∨(37≤x∧x≤44)∨(x=36)∨(x≤35):=(by omega);rcases hl with hl|hl|hl|hl|hl|hl|hl|hl|hl|hl|hl|hl|hl|hl
          all_goals
            first|have eK:97≤x:=by omega|have eK:¬97≤x:=by omega
            first|have er:x≤122:=by omega|have er:¬x≤122:=by omega
            first|have ee:65≤x:=by omega|have ee:¬65≤x:=by omega
            first|have zk:x≤90:=by omega|have zk:¬x≤90:=by omega
            first|have zl:48≤x:=by omega|have zl:¬48≤x:=by omega
            first|have AM:x≤57:=by omega|have AM:¬x≤57:=by omega
            first|have alY:(x==95)=true:=by rw[tC];omega|have alY:(x==95)=false:=by rw[kO];omega
            first|have alZ:(x==46)=true:=by rw[tC];omega|have alZ:(x==46)=false:=by rw[kO];omega
            first|have al0:(x==36)=true:=by rw[tC];omega|have al0:(x==36)=false:=by rw[kO];omega
            first|have al1:(x==45)=true:=by rw[tC];omega|have al1:(x==45)=false:=by rw[kO];omega
            by_cases nR:0<(k:Int)
            all_goals first
              | (have Bx:H4=true:=by rw[←z6];simp only[zu,gy,Lq];omega
                 have hg:=U (h0.out Bx);clear z6 hl Bx h0 cm;go_wp2_with fail;go_round<;>first|exact⟨k+1,by omega,hg.out,by go_num⟩|(simp[intOf]<;>omega))
              | (have Bx:H4=false:=by rw[←z6,y8];intro h;simp only[zu,gy,Lq] at h;omega
                 have aH:=U (cm.out Bx);clear z6 hl Bx h0 cm;go_wp2_with fail;go_ret;exact⟨ej aH.out,rfl⟩)
        · have aH:J (true=b):=by show _=_;rw[←af.out];refine (bY.out.2 fun j cB=>cT.out j cB ?_).symm;rw[cR] at cB;omega
          have ib:¬((k:Int)<(S.size:Int)):=(by omega);go_wp2_with fail;go_ret;exact⟨ej aH.out,rfl⟩
def fa(B:Nat)(w:bTo)(p:aya)(l:List Int):Prop:=0<l.length→∃(b o:Nat) (cs:agv),p=some ⟨b,o,none⟩∧B≤b∧bo w b cs 2∧∀i (hi:i<l.length),cs[o+i]?=some (I l[i])
theorem fa.nil(B:Nat)(w:bTo)(p:aya):fa B w p []:=fun h=>absurd h (nz _)
variable{l:List Int}{p:aya}{B b:Nat}
theorem fa.below{w':bTo}(h:fa B w p l)(af:av w w w'):fa B w' p l:=by intro aj;obtain⟨b,o,cs,rfl,bJ,aF,hc⟩:=h aj;exact⟨b,o,cs,rfl,bJ,aO aF af,hc⟩
theorem fa.mono{D:Nat}(h:fa B w p l)(bZ:D≤B):fa D w p l:=by intro aj;obtain⟨b,o,cs,rfl,bJ,aF,hc⟩:=h aj;exact⟨b,o,cs,rfl,dX bZ bJ,aF,hc⟩
abbrev cc:Value:=ay 0
def jk(c:C)(a:Int)(dd bv:ada):Array Value:= #[I a,I c.k,I c.n,I c.m,ai c.on,au ⟨c.t.toArray⟩,au ⟨c.x.toArray⟩,au ⟨c.y.toArray⟩,au ⟨c.i.toArray⟩,au ⟨c.j.toArray⟩,dd,bv]
abbrev kd(c:C)(a:Int)(dd bv:ada):Value:=.agg (jk c a dd bv)
abbrev tV(c:C)(a:Int)(dd bv:ada):Obj:=.cells (jk c a dd bv) 104
def Dp(o:Option C)(w:bTo)(e:Ending)(w':bTo):Prop:=Below w.heap.size w w'∧∃(c:C) (p:aya) (k:Nat),
 e=bb (.tuple #[kd c 0 (ad p c.cj.length k) cc,ai o.isSome])∧fa w.heap.size w' p c.cj∧c.blocks=[]∧∀d,o=some d→d=c
variable{v0 v1 v2 v3 v4 v5 v6 du ds v9 v10 v11:ada}{t:aui}
theorem dD(h:bo x b (#[v0,v1,v2,v3,v4,v5,v6,du,ds,v9,v10,v11]) t):
  (aw x b 0 v0∧aw x b 1 v1∧aw x b 2 v2∧aw x b 3 v3∧aw x b 4 v4∧aw x b 5 v5∧aw x b 6 v6∧aw x b 7 du∧aw x b 8 ds∧aw x b 9 v9∧aw x b 10 v10∧aw x b 11 v11)∧
  (x.frozen? ⟨b,0,none⟩=false∧x.frozen? ⟨b,1,none⟩=false∧x.frozen? ⟨b,2,none⟩=false∧x.frozen? ⟨b,3,none⟩=false∧x.frozen? ⟨b,4,none⟩=false∧x.frozen? ⟨b,5,none⟩=false∧x.frozen? ⟨b,6,none⟩=false∧x.frozen? ⟨b,7,none⟩=false∧x.frozen? ⟨b,8,none⟩=false∧x.frozen? ⟨b,9,none⟩=false∧x.frozen? ⟨b,10,none⟩=false∧x.frozen? ⟨b,11,none⟩=false):=by
 refine⟨⟨?_,?_,?_,?_,?_,?_,?_,?_,?_,?_,?_,?_⟩,?_,?_,?_,?_,?_,?_,?_,?_,?_,?_,?_,?_⟩<;>simp[World.cell?,World.frozen?,h]
def lb(w:bTo)(b:Nat)(c:C)(a:Int)(dd bv:ada):World:=
 (((((((((((w.setCell (ag b 0) (I a)).setCell (ag b 1) (I c.k)).setCell (ag b 2) (I c.n)).setCell (ag b 3) (I c.m)).setCell (ag b 4) (ai c.on)).setCell (ag b 5) (au ⟨c.t.toArray⟩)).setCell (ag b 6) (au ⟨c.x.toArray⟩)).setCell (ag b 7) (au ⟨c.y.toArray⟩)).setCell (ag b 8) (au ⟨c.i.toArray⟩)).setCell (ag b 9) (au ⟨c.j.toArray⟩)).setCell (ag b 10) (dd)).setCell (ag b 11) (bv)
theorem Uz(h:bo x b (#[v0,v1,v2,v3,v4,v5,v6,du,ds,v9,v10,v11]) t)(u:ada):(x.setCell (ag b 0) u).heap[b]?=some (.cells #[u,v1,v2,v3,v4,v5,v6,du,ds,v9,v10,v11] t):=kA h 0 u
theorem abh(h:bo x b (#[v0,v1,v2,v3,v4,v5,v6,du,ds,v9,v10,v11]) t)(u:ada):(x.setCell (ag b 1) u).heap[b]?=some (.cells #[v0,u,v2,v3,v4,v5,v6,du,ds,v9,v10,v11] t):=kA h 1 u
theorem abi(h:bo x b (#[v0,v1,v2,v3,v4,v5,v6,du,ds,v9,v10,v11]) t)(u:ada):(x.setCell (ag b 2) u).heap[b]?=some (.cells #[v0,v1,u,v3,v4,v5,v6,du,ds,v9,v10,v11] t):=kA h 2 u
theorem abj(h:bo x b (#[v0,v1,v2,v3,v4,v5,v6,du,ds,v9,v10,v11]) t)(u:ada):(x.setCell (ag b 3) u).heap[b]?=some (.cells #[v0,v1,v2,u,v4,v5,v6,du,ds,v9,v10,v11] t):=kA h 3 u
theorem abk(h:bo x b (#[v0,v1,v2,v3,v4,v5,v6,du,ds,v9,v10,v11]) t)(u:ada):(x.setCell (ag b 4) u).heap[b]?=some (.cells #[v0,v1,v2,v3,u,v5,v6,du,ds,v9,v10,v11] t):=kA h 4 u
theorem abl(h:bo x b (#[v0,v1,v2,v3,v4,v5,v6,du,ds,v9,v10,v11]) t)(u:ada):(x.setCell (ag b 5) u).heap[b]?=some (.cells #[v0,v1,v2,v3,v4,u,v6,du,ds,v9,v10,v11] t):=kA h 5 u
theorem abm(h:bo x b (#[v0,v1,v2,v3,v4,v5,v6,du,ds,v9,v10,v11]) t)(u:ada):(x.setCell (ag b 6) u).heap[b]?=some (.cells #[v0,v1,v2,v3,v4,v5,u,du,ds,v9,v10,v11] t):=kA h 6 u
theorem abn(h:bo x b (#[v0,v1,v2,v3,v4,v5,v6,du,ds,v9,v10,v11]) t)(u:ada):(x.setCell (ag b 7) u).heap[b]?=some (.cells #[v0,v1,v2,v3,v4,v5,v6,u,ds,v9,v10,v11] t):=kA h 7 u
theorem abo(h:bo x b (#[v0,v1,v2,v3,v4,v5,v6,du,ds,v9,v10,v11]) t)(u:ada):(x.setCell (ag b 8) u).heap[b]?=some (.cells #[v0,v1,v2,v3,v4,v5,v6,du,u,v9,v10,v11] t):=kA h 8 u
theorem abp(h:bo x b (#[v0,v1,v2,v3,v4,v5,v6,du,ds,v9,v10,v11]) t)(u:ada):(x.setCell (ag b 9) u).heap[b]?=some (.cells #[v0,v1,v2,v3,v4,v5,v6,du,ds,u,v10,v11] t):=kA h 9 u
theorem abq(h:bo x b (#[v0,v1,v2,v3,v4,v5,v6,du,ds,v9,v10,v11]) t)(u:ada):(x.setCell (ag b 10) u).heap[b]?=some (.cells #[v0,v1,v2,v3,v4,v5,v6,du,ds,v9,u,v11] t):=kA h 10 u
theorem abr(h:bo x b (#[v0,v1,v2,v3,v4,v5,v6,du,ds,v9,v10,v11]) t)(u:ada):(x.setCell (ag b 11) u).heap[b]?=some (.cells #[v0,v1,v2,v3,v4,v5,v6,du,ds,v9,v10,u] t):=kA h 11 u
theorem al2{jI:bTo}(af:av w w jI)(hr:bo jI w.heap.size (#[v0,v1,v2,v3,v4,v5,v6,du,ds,v9,v10,v11]) 104)(c:C)(a:Int)(dd bv:ada):
  (lb jI w.heap.size c a dd bv).heap[w.heap.size]?=some (tV c a dd bv)∧av w w (lb jI w.heap.size c a dd bv):=by
 refine⟨(abr (abq (abp (abo (abn (abm (abl (abk (abj (abi (abh (Uz hr _) _) _) _) _) _) _) _) _) _) _) _),?_⟩;unfold lb;exact ((((((((((((af.setCell (bD _) _).setCell (bD _) _).setCell (bD _) _).setCell (bD _) _).setCell (bD _) _).setCell (bD _) _).setCell (bD _) _).setCell (bD _) _).setCell (bD _) _).setCell (bD _) _).setCell (bD _) _).setCell (bD _) _)
theorem UA(w:bTo){d:Nat}(h:d≠b)(c:C)(a:Int)(dd bv:ada):(lb w b c a dd bv).heap[d]?=w.heap[d]?:=by have key:∀(w:bTo) (i:Nat) (u:ada),(w.setCell (ag b i) u).heap[d]?=w.heap[d]?:=fun w i u=>jZ _ _ _ _ h;unfold lb;rw[key,key,key,key,key,key,key,key,key,key,key,key]
theorem al3(af:b<B)(h:fa B w p l)(c:C)(a:Int)(dd bv:ada):fa B (lb w b c a dd bv) p l:=by intro aj;obtain⟨d,o,cs,rfl,bJ,aF,hc⟩:=h aj;exact⟨d,o,cs,rfl,bJ,(UA w (by omega) c a dd bv).trans aF,hc⟩
abbrev By:Obj:=.cells #[I 0,I 0,I 0,I 0,ai false,au ⟨#[]⟩,au ⟨#[]⟩,au ⟨#[]⟩,au ⟨#[]⟩,au ⟨#[]⟩,ay 0,ay 0] 104
structure sL(w W:bTo):Prop where
 a:W.heap[w.heap.size]?=some By
 b:av w w W
theorem sL.below{ng:bTo}(h:sL w W)(af:av W W ng):sL w ng:=⟨aO h.a af,h.b.trans (af.mono h.b.size)⟩
theorem H5(w:bTo):sL w (w.alloc By):=⟨gi w _,(Below.refl _ _).alloc (bD _) _⟩
theorem e2(S:aia)(L:bk):(S.toList==L)=decide (S.data.toList=L):=by rw[oY,xO,tC,gH]
theorem PQ(s:aia)(v:Int)(b:Bool)(aS:J ((dec s.data.toList).getD 0=v∧(dec s.data.toList).isSome=b))(hs:s.size≤maxLen)(w:bTo):
  Calls Tryz.prog 136 #[au s] w fun e w'=>e=bb (.tuple #[I v,ai b])∧w=w':=by
 obtain⟨aa,ah⟩:=aS.out;subst aa;subst ah;exact aa3 s w hs
variable{fn:Func}{u:Tmp}
theorem abt{P:Program}{p:Tmp}{ty:aui}(h:fn.results= #[.cell p ty,.tmp u])(tmps:agv)(w:bTo)(g:Nat)(t:aui)(cs:agv)(fr:Nat×Nat)(d:TypeDesc)
  (hp:tmps.getD p undef=.pointer (some (ag g 0))) (aX:w.heap[g]?=some (.cells cs t fr))
  (hu:P.underlying ty=some d) (hd:(match d with|.struct _|.array _ _=>true|_=>false)=true) (hi:(P.info? ty).map (·.size)=some cs.size):
  (results fn tmps).run P w=.ok (.tuple #[.agg cs,tmps.getD u undef]) w:=by
 rw[results_cell_tmp h,hp];simp only[asAddr,SI,EC,run_loadVar_row w g t ty cs fr d aX hu hd hi]
variable{fr:Act}
theorem nS{p:Tmp}{Q:Ending→bTo→Prop}(D:C)(dd:ada)(h:fn.results= #[.cell p 104,.tmp u])(a6:fB=lb W w.heap.size D 0 dd cc∨fB=(lb W w.heap.size D 0 dd cc).drew)(hp:fr.tmps.getD p undef=.pointer (some (ag w.heap.size 0)))(hd:fr.defers=[])(ha:bo W w.heap.size (#[v0,v1,v2,v3,v4,v5,v6,du,ds,v9,v10,v11]) 104)(af:av w w W)(k:av w w fB→Q (bb (.tuple #[kd D 0 dd cc,fr.tmps.getD u undef])) fB):bodyPost Tryz.prog fn Q Exit.ret fr fB:=by
 have aE:=al2 af ha D 0 dd cc;rcases a6 with rfl|rfl
 ·exact dH (abt h _ _ w.heap.size _ _ _ _ hp aE.1 Tryz.underlying104 rfl (by kernel_rfl)) hd (k aE.2)
 ·exact dH (abt h _ _ w.heap.size _ _ _ _ hp (aO aE.1 (Below.refl _ _).drew) Tryz.underlying104 rfl (by kernel_rfl)) hd (k aE.2.drew)
theorem rJ{p:Tmp}{o:Option C}{D:C}(a7:J (o=some D))(h:fn.results= #[.cell p 104,.tmp u])(a6:fB=lb W w.heap.size D 0 cc cc∨fB=(lb W w.heap.size D 0 cc cc).drew)(hp:fr.tmps.getD p undef=.pointer (some (ag w.heap.size 0)))(hu:fr.tmps.getD u undef=ai true)(hd:fr.defers=[])(aV:sL w W)(hn:D.cj=[])(ab:D.blocks=[]):bodyPost Tryz.prog fn (Dp o w) Exit.ret fr fB:=by
 refine nS D cc h a6 hp hd aV.a aV.b fun af=>⟨af,D,none,0,?_,by rw[hn];exact fa.nil _ _ _,ab,?_⟩
 ·rw[hu,a7.out,hn];rfl
 ·rw[a7.out];intro e he;exact (C7 he).symm
theorem nh{p:Tmp}{o:Option C}(D:C)(a7:J (o=none))(h:fn.results= #[.cell p 104,.tmp u])(a6:fB=lb W w.heap.size D 0 cc cc∨fB=(lb W w.heap.size D 0 cc cc).drew)(hp:fr.tmps.getD p undef=.pointer (some (ag w.heap.size 0)))(hu:fr.tmps.getD u undef=ai false)(hd:fr.defers=[])(aV:sL w W)(hn:D.cj=[])(ab:D.blocks=[]):bodyPost Tryz.prog fn (Dp o w) Exit.ret fr fB:=by
 refine nS D cc h a6 hp hd aV.a aV.b fun af=>⟨af,D,none,0,?_,by rw[hn];exact fa.nil _ _ _,ab,?_⟩
 ·rw[hu,a7.out,hn];rfl
 ·rw[a7.out];intro e he;cases he
theorem UB(t:bk)(c:UInt8):(k0 t c).2.length≤t.length:=by
 unfold k0;split
 ·split
  ·exact bD _
  ·rw[gZ,gZ];omega
 ·exact bD _
structure sM(w0:bTo)(c:C)(W:bTo):Prop where
 r:W.heap[w0.heap.size]?=some By
 p:W.heap[w0.heap.size+1]?=some (tV c 0 cc cc)
 aY:av w0 w0 W
theorem sM.below{w0 ng:bTo}{c:C}(h:sM w0 c W)(af:av W W ng):sM w0 c ng:=⟨aO h.r af,aO h.p af,h.aY.trans (af.mono h.aY.size)⟩
theorem sM.put{w0:bTo}{c d:C}{k:Nat}{u:ada}(h:sM w0 c W)(hd:(jk c 0 cc cc).setIfInBounds k u=jk d 0 cc cc):sM w0 d (W.setCell (ag (w0.heap.size+1) k) u):=
 ⟨(jZ _ _ _ _ (by show w0.heap.size≠w0.heap.size+1;omega)).trans h.r,by rw[kA h.p,hd],h.aY.setCell (by show w0.heap.size≤w0.heap.size+1;omega) _⟩
theorem al4(w:bTo)(c:C):sM w c ((w.alloc By).alloc (tV c 0 cc cc)):=by
 have aN:(w.alloc By).heap.size=w.heap.size+1:=by simp
 refine⟨?_,?_,((Below.refl _ _).alloc (bD _) _).alloc (by omega) _⟩
 ·rw[Bo _ _ _ (by omega)];exact gi w _
 ·have h:=gi (w.alloc By) (tV c 0 cc cc)
  rwa [aN] at h
theorem al5(S:aia)(hs:S.size≤1000000000)(o:Option C)(bl:J (tu S.data.toList=o))(w:bTo):
  Calls Tryz.prog 95 #[au S] w (Dp o w):=by
 have aj:=bl.out;unfold tu at aj;obtain⟨gO,hA1⟩:=kz (k0 S.data.toList 88).1;obtain⟨R1,qc⟩:=kz (k0 S.data.toList 88).2;have H1:J (k0 S.data.toList 88=(gO.data.toList,R1.data.toList)):=by show _=_;rw[hA1,qc]
 have ij:R1.size≤1000000000:=by have:=UB S.data.toList 88;rw[←qc,cR,cR] at this;omega
 obtain⟨iv,hA2⟩:=kz (k0 R1.data.toList 89).1;obtain⟨hI,nf⟩:=kz (k0 R1.data.toList 89).2;have b9:J (k0 R1.data.toList 89=(iv.data.toList,hI.data.toList)):=by show _=_;rw[hA2,nf]
 have gV:hI.size≤1000000000:=by have:=UB R1.data.toList 89;rw[←nf,cR,cR] at this;omega
 obtain⟨lW,hA3⟩:=kz (k0 hI.data.toList 73).1;obtain⟨rK,zN⟩:=kz (k0 hI.data.toList 73).2;have cS:J (k0 hI.data.toList 73=(lW.data.toList,rK.data.toList)):=by show _=_;rw[hA3,zN]
 have Bz:rK.size≤1000000000:=by have:=UB hI.data.toList 73;rw[←zN,cR,cR] at this;omega
 obtain⟨rL,hA4⟩:=kz (k0 rK.data.toList 74).1;obtain⟨hz,abu⟩:=kz (k0 rK.data.toList 74).2;have iT:J (k0 rK.data.toList 74=(rL.data.toList,hz.data.toList)):=by show _=_;rw[hA4,abu]
 rw[H1.out] at aj;simp only[] at aj;rw[b9.out] at aj;simp only[] at aj;rw[cS.out] at aj;simp only[] at aj;rw[iT.out] at aj;simp only[] at aj;have dR:=U aj;have cF:=U hs;have Dq:=U ij;have eW:=U gV;have ld:=U Bz;clear aj bl hA1 qc hA2 nf hA3 zN hA4 abu ij gV Bz hs;have b':J (sM w (b2 7) ((w.alloc (aD (#[I 0,I 0,I 0,I 0,ai false,au ⟨#[]⟩,au ⟨#[]⟩,au ⟨#[]⟩,au ⟨#[]⟩,au ⟨#[]⟩,ay 0,ay 0]) 104)).alloc (aD (#[I 0,I 7,I 0,I 0,ai false,au ⟨#[]⟩,au ⟨#[]⟩,au ⟨#[]⟩,au ⟨#[]⟩,au ⟨#[]⟩,ay 0,ay 0]) 104))):=al4 w _;go_enter Tryz.func95,Tryz.ntmps95;go_upto_region 2 with fail;generalize (w.alloc (aD (#[I 0,I 0,I 0,I 0,ai false,au ⟨#[]⟩,au ⟨#[]⟩,au ⟨#[]⟩,au ⟨#[]⟩,au ⟨#[]⟩,ay 0,ay 0]) 104)).alloc (.cells #[I 0,I 7,I 0,I 0,ai false,au ⟨#[]⟩,au ⟨#[]⟩,au ⟨#[]⟩,au ⟨#[]⟩,au ⟨#[]⟩,ay 0,ay 0] 104)=W at b'⊢;go_wp2_with fail;go_fit (PL S cF.out 88 gO R1 H1 _);rintro e cr ⟨rfl,hd⟩;have bL:=U (b'.out.below (mn hd));clear hd b';obtain⟨⟨aJ,aI,c2,c3,bF,c5,b1,b5,bS,bf,cy,dq⟩,f0,f1,f2,f3,f4,f5,f6,f7,f8,f9,f10,f11⟩:=dD bL.out.p;have b':J (sM w {b2 7 with x:=gO.data.toList} (cr.setCell (ag (w.heap.size+1) 6) (au gO))):=bL.out.put rfl;go_upto_region 3 with fail;generalize cr.setCell (ag (w.heap.size+1) 6) (au gO)=W at b'⊢;clear aJ aI c2 c3 bF c5 b1 b5 bS bf cy dq f0 f1 f2 f3 f4 f5 f6 f7 f8 f9 f10 f11 bL;go_wp2_with fail;go_fit (PL R1 Dq.out 89 iv hI b9 _);rintro e cr ⟨rfl,hd⟩;have bL:=U (b'.out.below (mn hd));clear hd b';obtain⟨⟨aJ,aI,c2,c3,bF,c5,b1,b5,bS,bf,cy,dq⟩,f0,f1,f2,f3,f4,f5,f6,f7,f8,f9,f10,f11⟩:=dD bL.out.p;have b':J (sM w {b2 7 with x:=gO.data.toList,y:=iv.data.toList} (cr.setCell (ag (w.heap.size+1) 7) (au iv))):=bL.out.put rfl;go_upto_region 4 with fail;generalize cr.setCell (ag (w.heap.size+1) 7) (au iv)=W at b'⊢;clear aJ aI c2 c3 bF c5 b1 b5 bS bf cy dq f0 f1 f2 f3 f4 f5 f6 f7 f8 f9 f10 f11 bL;go_wp2_with fail;go_fit (PL hI eW.out 73 lW rK cS _);rintro e cr ⟨rfl,hd⟩;have bL:=U (b'.out.below (mn hd));clear hd b';obtain⟨⟨aJ,aI,c2,c3,bF,c5,b1,b5,bS,bf,cy,dq⟩,f0,f1,f2,f3,f4,f5,f6,f7,f8,f9,f10,f11⟩:=dD bL.out.p;have b':J (sM w {b2 7 with x:=gO.data.toList,y:=iv.data.toList,i:=lW.data.toList} (cr.setCell (ag (w.heap.size+1) 8) (au lW))):=bL.out.put rfl;go_upto_region 5 with fail;generalize cr.setCell (ag (w.heap.size+1) 8) (au lW)=W at b'⊢;clear aJ aI c2 c3 bF c5 b1 b5 bS bf cy dq f0 f1 f2 f3 f4 f5 f6 f7 f8 f9 f10 f11 bL;go_wp2_with fail;go_fit (PL rK ld.out 74 rL hz iT _);rintro e cr ⟨rfl,hd⟩;have bL:=U (b'.out.below (mn hd));clear hd b';obtain⟨⟨aJ,aI,c2,c3,bF,c5,b1,b5,bS,bf,cy,dq⟩,f0,f1,f2,f3,f4,f5,f6,f7,f8,f9,f10,f11⟩:=dD bL.out.p;have b':J (sM w {b2 7 with x:=gO.data.toList,y:=iv.data.toList,i:=lW.data.toList,j:=rL.data.toList} (cr.setCell (ag (w.heap.size+1) 9) (au rL))):=bL.out.put rfl;go_upto_region 6 with fail;generalize cr.setCell (ag (w.heap.size+1) 9) (au rL)=W at b'⊢;clear aJ aI c2 c3 bF c5 b1 b5 bS bf cy dq f0 f1 f2 f3 f4 f5 f6 f7 f8 f9 f10 f11 bL;by_cases bN:hz.data.toList=[68,48,49]
 ·have aN:(hz.toList==[68,48,49])=true:=(by rw[e2];exact eH bN);have ys:uJ hz.data.toList=1:=(by unfold uJ;rw[bN];rfl);have aj:=dR.out;rw[ys] at aj;have a7:J (o=some {b2 7 with x:=gO.data.toList,y:=iv.data.toList,i:=lW.data.toList,j:=rL.data.toList,n:=1}):=(by show _=_;rw[←aj];rfl);clear aj ys bN;obtain⟨⟨aJ,aI,c2,c3,bF,c5,b1,b5,bS,bf,cy,dq⟩,f0,f1,f2,f3,f4,f5,f6,f7,f8,f9,f10,f11⟩:=dD b'.out.p;have bL:J (sM w {b2 7 with x:=gO.data.toList,y:=iv.data.toList,i:=lW.data.toList,j:=rL.data.toList,n:=1} (W.setCell (ag (w.heap.size+1) 2) (I 1))):=b'.out.put rfl;go_upto_region 13 with fail;clear aJ aI c2 c3 bF c5 b1 b5 bS bf cy dq f0 f1 f2 f3 f4 f5 f6 f7 f8 f9 f10 f11 b';generalize W.setCell (ag (w.heap.size+1) 2) (I 1)=W at bL⊢;have b':=bL;clear bL;obtain⟨⟨aJ,aI,c2,c3,bF,c5,b1,b5,bS,bf,cy,dq⟩,f0,f1,f2,f3,f4,f5,f6,f7,f8,f9,f10,f11⟩:=dD b'.out.p;obtain⟨⟨d0,d1,d2,d3,d4,d5,d6,d7,d8,d9,d10,d11⟩,g0,g1,g2,g3,g4,g5,g6,g7,g8,g9,g10,g11⟩:=dD b'.out.r;go_region
  all_goals
   clear aJ aI c2 c3 bF c5 b1 b5 bS bf cy dq f0 f1 f2 f3 f4 f5 f6 f7 f8 f9 f10 f11 d0 d1 d2 d3 d4 d5 d6 d7 d8 d9 d10 d11 g0 g1 g2 g3 g4 g5 g6 g7 g8 g9 g10 g11;go_wp2_with fail;exact rJ (W:=W) a7 rfl (.inr rfl) rfl rfl rfl ⟨b'.out.r,b'.out.aY⟩ rfl rfl
 ·have aN:(hz.toList==[68,48,49])=false:=(by rw[e2];exact eD bN);by_cases ch:hz.data.toList=[68,48,50]
  ·have aR:(hz.toList==[68,48,50])=true:=(by rw[e2];exact eH ch);have ys:uJ hz.data.toList=2:=(by unfold uJ;rw[ch];rfl);have aj:=dR.out;rw[ys] at aj;have a7:J (o=some {b2 7 with x:=gO.data.toList,y:=iv.data.toList,i:=lW.data.toList,j:=rL.data.toList,n:=2}):=(by show _=_;rw[←aj];rfl);clear aj ys ch;obtain⟨⟨aJ,aI,c2,c3,bF,c5,b1,b5,bS,bf,cy,dq⟩,f0,f1,f2,f3,f4,f5,f6,f7,f8,f9,f10,f11⟩:=dD b'.out.p;have bL:J (sM w {b2 7 with x:=gO.data.toList,y:=iv.data.toList,i:=lW.data.toList,j:=rL.data.toList,n:=2} (W.setCell (ag (w.heap.size+1) 2) (I 2))):=b'.out.put rfl;go_upto_region 13 with fail;clear aJ aI c2 c3 bF c5 b1 b5 bS bf cy dq f0 f1 f2 f3 f4 f5 f6 f7 f8 f9 f10 f11 b';generalize W.setCell (ag (w.heap.size+1) 2) (I 2)=W at bL⊢;have b':=bL;clear bL;obtain⟨⟨aJ,aI,c2,c3,bF,c5,b1,b5,bS,bf,cy,dq⟩,f0,f1,f2,f3,f4,f5,f6,f7,f8,f9,f10,f11⟩:=dD b'.out.p;obtain⟨⟨d0,d1,d2,d3,d4,d5,d6,d7,d8,d9,d10,d11⟩,g0,g1,g2,g3,g4,g5,g6,g7,g8,g9,g10,g11⟩:=dD b'.out.r;go_region
   all_goals
    clear aJ aI c2 c3 bF c5 b1 b5 bS bf cy dq f0 f1 f2 f3 f4 f5 f6 f7 f8 f9 f10 f11 d0 d1 d2 d3 d4 d5 d6 d7 d8 d9 d10 d11 g0 g1 g2 g3 g4 g5 g6 g7 g8 g9 g10 g11;go_wp2_with fail;exact rJ (W:=W) a7 rfl (.inr rfl) rfl rfl rfl ⟨b'.out.r,b'.out.aY⟩ rfl rfl
  ·have aR:(hz.toList==[68,48,50])=false:=(by rw[e2];exact eD ch);by_cases ep:hz.data.toList=[68,48,51]
   ·have cA:(hz.toList==[68,48,51])=true:=(by rw[e2];exact eH ep);have ys:uJ hz.data.toList=3:=(by unfold uJ;rw[ep];rfl);have aj:=dR.out;rw[ys] at aj;have a7:J (o=some {b2 7 with x:=gO.data.toList,y:=iv.data.toList,i:=lW.data.toList,j:=rL.data.toList,n:=3}):=(by show _=_;rw[←aj];rfl);clear aj ys ep;obtain⟨⟨aJ,aI,c2,c3,bF,c5,b1,b5,bS,bf,cy,dq⟩,f0,f1,f2,f3,f4,f5,f6,f7,f8,f9,f10,f11⟩:=dD b'.out.p;have bL:J (sM w {b2 7 with x:=gO.data.toList,y:=iv.data.toList,i:=lW.data.toList,j:=rL.data.toList,n:=3} (W.setCell (ag (w.heap.size+1) 2) (I 3))):=b'.out.put rfl;go_upto_region 13 with fail;clear aJ aI c2 c3 bF c5 b1 b5 bS bf cy dq f0 f1 f2 f3 f4 f5 f6 f7 f8 f9 f10 f11 b';generalize W.setCell (ag (w.heap.size+1) 2) (I 3)=W at bL⊢;have b':=bL;clear bL;obtain⟨⟨aJ,aI,c2,c3,bF,c5,b1,b5,bS,bf,cy,dq⟩,f0,f1,f2,f3,f4,f5,f6,f7,f8,f9,f10,f11⟩:=dD b'.out.p;obtain⟨⟨d0,d1,d2,d3,d4,d5,d6,d7,d8,d9,d10,d11⟩,g0,g1,g2,g3,g4,g5,g6,g7,g8,g9,g10,g11⟩:=dD b'.out.r;go_region
    all_goals
     clear aJ aI c2 c3 bF c5 b1 b5 bS bf cy dq f0 f1 f2 f3 f4 f5 f6 f7 f8 f9 f10 f11 d0 d1 d2 d3 d4 d5 d6 d7 d8 d9 d10 d11 g0 g1 g2 g3 g4 g5 g6 g7 g8 g9 g10 g11;go_wp2_with fail;exact rJ (W:=W) a7 rfl (.inr rfl) rfl rfl rfl ⟨b'.out.r,b'.out.aY⟩ rfl rfl
   ·have cA:(hz.toList==[68,48,51])=false:=(by rw[e2];exact eD ep);have ys:uJ hz.data.toList=0:=(by unfold uJ;rw[aK bN,aK ch,aK ep]);have aj:=dR.out;rw[ys] at aj;have a7:J (o=none):=(by show _=_;rw[←aj];rfl);clear aj ys bN ch ep;go_upto_region 13 with fail;obtain⟨⟨aJ,aI,c2,c3,bF,c5,b1,b5,bS,bf,cy,dq⟩,f0,f1,f2,f3,f4,f5,f6,f7,f8,f9,f10,f11⟩:=dD b'.out.p;obtain⟨⟨d0,d1,d2,d3,d4,d5,d6,d7,d8,d9,d10,d11⟩,g0,g1,g2,g3,g4,g5,g6,g7,g8,g9,g10,g11⟩:=dD b'.out.r;go_region
    all_goals
     clear aJ aI c2 c3 bF c5 b1 b5 bS bf cy dq f0 f1 f2 f3 f4 f5 f6 f7 f8 f9 f10 f11 d0 d1 d2 d3 d4 d5 d6 d7 d8 d9 d10 d11 g0 g1 g2 g3 g4 g5 g6 g7 g8 g9 g10 g11;go_wp2_with fail;exact nh (W:=W) {b2 7 with x:=gO.data.toList,y:=iv.data.toList,i:=lW.data.toList,j:=rL.data.toList} a7 rfl (.inr rfl) rfl rfl rfl ⟨b'.out.r,b'.out.aY⟩ rfl rfl
end jj
