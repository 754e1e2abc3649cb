/- Lemmas. -/
import Derived.Test.YtfldplmgkeiimaaGreatDoorR5
import Derived.Deep.RegionLaw
import Derived.Deep.RegionHeld3
import Derived.StillTailTactics
import Derived.RegionTactic
import Derived.BigRegion
set_option linter.all false
set_option maxRecDepth 100000
set_option maxHeartbeats 6400000
namespace Go.Proofs.YtfldplmgkeiimaaGreatDoor
abbrev Og:=@Proofs.Tryz.func138
abbrev Oh:=@Proofs.Tryz.ntmps138
abbrev Zu:=@List.isPrefixOf_iff_prefix
abbrev SO:=@Proofs.Tryz.strings_CutPrefix
abbrev JH:=@decide_eq_true_iff
abbrev D0:=@UInt8.toNat.inj
abbrev Zv:=@List.length_eq_zero_iff
abbrev xo:=@Proofs.Tryz.func139
abbrev xp:=@Proofs.Tryz.ntmps139
namespace iS
open Go.RowKit kR ig n1 Mem pN ct
theorem dD{a b:Bool}(h:a=b):Ending.returned (U a)=ab (U b):=by rw[h]
variable{w:aeo}
theorem aU{v:aeo}{b:Nat}{o:Obj}(h:w.heap[b]?=some o)(ax:ao w w v):v.heap[b]?=some o:=
 (ax.block b (Array.getElem?_eq_some_iff.1 h).1).trans h
variable{v:ada}{B bD n size:Nat}{e:aai}
theorem gC{w':aeo}{xs:aev}(h:w.ownsRow B e bD v n xs)(ax:ao w w w'):w'.ownsRow B e bD v n xs:=
 h.kept (row:=none) ⟨ax.os,ax.tape,ax.output,ax.size,fun k ay _=>ax.block k ay⟩ (by cases v.ownBlock<;>simp)
theorem m'{t:aai}{xs:aev}(h:w.ownsRow B e bD v n xs){b:Nat}{cs:ajv}{dT:Nat×Nat}(ax:w.heap[b]?=some (.cells cs t dT))(he:e≠t):v.ownBlock≠some b:=by
 rcases h.2 with ⟨rfl,_⟩|⟨g,cap,cur,rfl,_,aK,_⟩
 ·simp[Value.ownBlock]
 ·intro az;have:g=b:=(by simpa[Value.ownBlock] using az);subst this;rw[ax] at aK;injection aK with aK;injection aK with _ bE;exact he bE.symm
theorem I'{C:Nat}{f:aai}{s1 s2 m:Nat}{u:ada}{xs fy:aev}(h:w.ownsRow B e s1 v n xs)(g:w.ownsRow C f s2 u m fy)(he:e≠f):u.ownBlock=none∨u.ownBlock≠v.ownBlock:=by
 rcases g.2 with ⟨rfl,_⟩|⟨k,cap,cur,rfl,_,aK,_⟩
 ·exact .inl rfl
 ·exact .inr (gu (m' h aK he))
theorem jH{xs:aev}(h:w.ownsRow B e bD v n xs):∃p cap,v=ad p n cap:=by
 rcases h.2 with ⟨rfl,rfl⟩|⟨g,cap,cur,rfl,_⟩
 ·exact⟨_,_,rfl⟩
 ·exact⟨_,_,rfl⟩
def Nt(x:e2):List Value:=[I (x.a:Int),U x.ext,U x.first,aa ⟨x.t.toArray⟩]
def qM(l:List e2):List Value:=l.flatMap Nt
theorem ajy(l:List e2)(x:e2):qM (l++[x])=qM l++Nt x:=by simp[qM]
abbrev BQ(bM iu:ada)(a:Nat)(g:Bool)(i:Nat):Obj:=.cells #[bM,iu,I (a:Int),U g,I (i:Int)] 210
structure vF(s:i6):Prop where
 n0:s.words.length≤20000
 en:s.text≠[]→s.words.length<20000
 fa:s.text.length≤10000
 n4:s.inner≤s.words.length
structure gK(B R:Nat)(bM iu:ada)(s:i6)(w:aeo):Prop where
 ge:B≤R
 obj:w.heap[R]?=some (BQ bM iu s.a s.group s.inner)
 ws:w.ownsRow B 153 4 bM s.words.length (qM s.words)
 hG:w.ownsRow B 5 1 iu s.text.length (q6 s.text)
theorem ajz(w:aeo)(R o:Nat)(u:ada):w.grownBy (w.setCell (aj R o) u) (some R):=
 ⟨rfl,rfl,rfl,by simp[World.setCell],fun k ay hne=>tn _ _ _ _ (fun e=>hne (fp some e))⟩
theorem sR{x:aeo}{base:Nat}{t:aai}{xs:aev}(h:x.ownsRow base e size v n xs){R o:Nat}{cs:ajv}{dT:Nat×Nat}(hR:x.heap[R]?=some (.cells cs t dT))(he:e≠t)(u:ada):(x.setCell (aj R o) u).ownsRow base e size v n xs:=
 h.kept (ajz x R o u) (.inr (m' h hR he))
theorem Zw{x:aeo}{p:Ja}{cap:Nat}{xs:aev}(h:x.ownsRow B e size (ad p n cap) n xs):x.ownsRow B e size (ad p 0 cap) 0 []:=by
 rcases h.2 with ⟨av,az⟩|⟨g,c,cur,av,az,aC,bt,cr,c4,ez⟩
 ·refine⟨by simp,.inl ⟨?_,rfl⟩⟩;injection av with a7 _ cM;rw[a7,cM]
 ·injection av with a7 _ cM;subst a7;subst cM;exact⟨by simp,.inr ⟨g,cap,cur,rfl,az,aC,dO _,cr,c4,by simp⟩⟩
section
variable{B R:Nat}{bM iu:ada}{s:i6}{w w':aeo}
theorem gK.below(h:gK B R bM iu s w)(ax:ao w w w'):gK B R bM iu s w':=
 ⟨h.ge,aU h.obj ax,gC h.ws ax,gC h.hG ax⟩
theorem gK.cells(h:gK B R bM iu s w):ak w R 0 bM∧ak w R 1 iu∧ak w R 2 (I (s.a:Int))∧ak w R 3 (U s.group)∧ak w R 4 (I (s.inner:Int)):=by have av:=h.obj;refine⟨?_,?_,?_,?_,?_⟩<;>simp[World.cell?,av]
theorem gK.dT(h:gK B R bM iu s w)(o:Nat):w.frozen? ⟨R,o,none⟩=false:=by have av:=h.obj;simp[World.frozen?,av]
theorem gK.lt(h:gK B R bM iu s w):R<w.heap.size:=(Array.getElem?_eq_some_iff.1 h.obj).1
theorem gK.at(h:gK B R bM iu s w)(a:Nat):gK B R bM iu {s with a:=a} (w.setCell (aj R 2) (I (a:Int))):=
 ⟨h.ge,by rw[j9 h.obj];rfl,sR h.ws h.obj (by decide) _,sR h.hG h.obj (by decide) _⟩
theorem gK.Rj(h:gK B R bM iu s w)(g:Bool):gK B R bM iu {s with group:=g} (w.setCell (aj R 3) (U g)):=
 ⟨h.ge,by rw[j9 h.obj];rfl,sR h.ws h.obj (by decide) _,sR h.hG h.obj (by decide) _⟩
theorem gK.vp(h:gK B R bM iu s w)(i:Nat)(x:Int)(hx:(i:Int)=x):gK B R bM iu {s with inner:=i} (w.setCell (aj R 4) (I x)):=by subst hx;exact⟨h.ge,by rw[j9 h.obj];rfl,sR h.ws h.obj (by decide) _,sR h.hG h.obj (by decide) _⟩
theorem gK.clear{p:Ja}{n cap:Nat}(h:gK B R bM (ad p n cap) s w)(hn:n=s.text.length):gK B R bM (ad p 0 cap) {s with text:=[]} (w.setCell (aj R 1) (ad p 0 cap)):=by
 subst hn;exact
 ⟨h.ge,by rw[j9 h.obj];rfl,sR h.ws h.obj (by decide) _,sR (Zw h.hG) h.obj (by decide) _⟩
variable{v':ada}
theorem gK.push{X cc:aeo}{x:e2}(h:gK B R bM iu s w)(c7:ao w w X)(aF:X.grownBy cc bM.ownBlock)(bm:cc.ownsRow B 153 4 v' (s.words.length+1) (qM s.words++Nt x))(bK:B≤w.heap.size):
  gK B R v' iu {s with words:=s.words++[x]} (cc.setCell (aj R 0) v')∧Below B w (cc.setCell (aj R 0) v')∧cc.heap[R]?=some (BQ bM iu s.a s.group s.inner):=by
 have av:=h.below c7;have hR:cc.heap[R]?=some (BQ bM iu s.a s.group s.inner):=(aF.block R av.lt (gu (m' av.ws av.obj (by decide)))).trans av.obj;have bE:=av.hG.kept aF (I' av.ws av.hG (by decide));refine⟨⟨h.ge,by rw[j9 hR];rfl,?_,sR bE hR (by decide) _⟩,?_,hR⟩
 ·show World.ownsRow _ B _ 4 v' (s.words++[x]).length (qM (s.words++[x]));rw[ajy,show (s.words++[x]).length=s.words.length+1 by simp];exact sR bm hR (by decide) _
 ·exact (((c7.mono bK).grown aF (dx bK c7.size) (fun k ay=>(av.ws.lt _ ay).1))).setCell h.ge _
theorem gK.add{X cc:aeo}{c:UInt8}(h:gK B R bM iu s w)(c7:ao w w X)(aF:X.grownBy cc iu.ownBlock)(bm:cc.ownsRow B 5 1 v' (s.text.length+1) (q6 s.text++[.int .u8 (c.toNat:Int)]))(bK:B≤w.heap.size):
  gK B R bM v' {s with text:=s.text++[c]} (cc.setCell (aj R 1) v')∧Below B w (cc.setCell (aj R 1) v')∧cc.heap[R]?=some (BQ bM iu s.a s.group s.inner):=by
 have av:=h.below c7;have hR:cc.heap[R]?=some (BQ bM iu s.a s.group s.inner):=(aF.block R av.lt (gu (m' av.hG av.obj (by decide)))).trans av.obj;have bE:=av.ws.kept aF (I' av.hG av.ws (by decide));refine⟨⟨h.ge,by rw[j9 hR];rfl,sR bE hR (by decide) _,?_⟩,?_,hR⟩
 ·show World.ownsRow _ B _ 1 v' (s.text++[c]).length (q6 (s.text++[c]));rw[afX,show (s.text++[c]).length=s.text.length+1 by simp];exact sR bm hR (by decide) _
 ·exact (((c7.mono bK).grown aF (dx bK c7.size) (fun k ay=>(av.hG.lt _ ay).1))).setCell h.ge _
end
def Zx(B R:Nat)(w:aeo)(res:Except Nat i6)(e:Ending)(w':aeo):Prop:=Below B w w'∧match res with
 |.ok s'=>e=ab (I 0)∧vF s'∧∃bM iu,gK B R bM iu s' w'
 |.error k=>e=ab (I (k:Int))
theorem Zy:(Tryz.prog.info? 153).map (fun i=>(i.zero,i.size,i.bytes))=some (some (.agg #[I 0,U false,U false,aa ⟨#[]⟩]),4,32):=by kernel_rfl
theorem Oi:(Tryz.prog.info? 5).map (fun i=>(i.zero,i.size,i.bytes))=some (some (.int .u8 0),1,1):=by kernel_rfl
end iS
namespace iS
open Go.RowKit kR ig n1 Mem pN ct
theorem n5(S:Ua):(⟨S.data.toList.toArray⟩:Ua)=S:=rfl
theorem BR(S:Ua)(k:Nat):(S.extract 0 k).data.toList=S.data.toList.take k:=by rw[x8];simp
theorem Fs(s:Ua)(a k:Nat):(s.extract a k).data.toList=(s.data.toList.take k).drop a:=by rw[x8,Fp]
theorem mh(S:Ua)(hs:S.size≤maxLen)(n:Nat)(hn:af (bn S.data.toList=n))(w:aeo):
  Calls Tryz.prog 176 #[aa S] w fun e w'=>e=ab (I (n:Int))∧w=w':=by
 have wG:=aq hs;unfold maxLen at hs;go_enter Tryz.func176,Tryz.ntmps176;go_wp2_with fail
 go_loop [3] (fun i=>∃k:Nat,af (k≤bn S.data.toList)∧i=I (k:Int)) (fun i=>S.size -(intOf i).toNat)
 case atStart=>exact⟨0,dO _,rfl⟩
 case round=>
  obtain⟨k,cQ,rfl⟩:=hrel;have j':k≤S.size:=(by have av:=qd S.data.toList;have:=cQ.out;rw[cb] at av;omega);by_cases bR:k<S.size
  ·have JI:k<S.data.toList.length:=(by rw[cb];exact bR);have gU:(k:Int)<(S.size:Int):=(by omega);by_cases hd:48≤S[k].toNat∧S[k].toNat≤57
   ·have bd:af (k+1≤bn S.data.toList):=HV cQ.out JI (by rw[nG S k bR];exact (ph _).2 hd);obtain⟨ih,gD⟩:=hd;go_wp2_with fail;go_round
    case rel=>exact⟨k+1,bd,by go_num⟩
    case measure=>simp[intOf];omega
   ·have bd:af (k=n):=(by show _=_;rw[←hn.out];exact (CI cQ.out JI (by rw[nG S k bR];exact (zh _).2 (by omega))).symm);by_cases av:48≤S[k].toNat
    ·have az:¬S[k].toNat≤57:=fun h=>hd ⟨av,h⟩;go_wp2_with fail;go_ret;exact⟨CP (by rw[bd.out]),rfl⟩
    ·go_wp2_with fail;go_ret;exact⟨CP (by rw[bd.out]),rfl⟩
  ·have bd:af (k=n):=(by show _=_;rw[←hn.out];have av:=qd S.data.toList;have:=cQ.out;rw[cb] at av;omega);have gU:¬((k:Int)<(S.size:Int)):=(by omega);go_wp2_with fail;go_ret;exact⟨CP (by rw[bd.out]),rfl⟩
def JJ(o:Option Nat)(e:Ending):Prop:=e=ab (.tuple #[I ((o.getD 0:Nat):Int),U o.isSome])
theorem Fu(S:Ua)(hs:S.size≤maxLen)(o:Option Nat)(bm:af (C9 S.data.toList=o))(w:aeo):
  Calls Tryz.prog 138 #[aa S] w fun e w'=>JJ o e∧w=w':=by
 have wG:=aq hs;unfold maxLen at hs;have aA:=bm.out;unfold C9 at aA;rw[cb] at aA;clear bm;obtain⟨n,hn⟩:=ar (bn S.data.toList);have nS:=aq hn;by_cases av:S.size<1
 ·rw[bb (.inl av)] at aA;have b6:=aq aA;have JK:(S.size:Int)<1:=(by omega);clear aA;go_enter Og,Oh;go_wp2_with fail;go_ret2;rw[←b6.out];exact⟨rfl,rfl⟩
 ·by_cases bt:4<S.size
  ·rw[bb (.inr (.inl bt))] at aA;have b6:=aq aA;have JK:¬(S.size:Int)<1:=(by omega);have ajA:4<(S.size:Int):=(by omega);clear aA;go_enter Og,Oh;go_wp2_with fail;go_ret2;rw[←b6.out];exact⟨rfl,rfl⟩
  ·have JK:¬(S.size:Int)<1:=(by omega);have ajA:¬4<(S.size:Int):=(by omega);by_cases gj:n=S.size
   ·rw[aW (by rw[hn];omega)] at aA;have b6:=aq aA;have JL:((n:Int) !=(S.size:Int))=false:=(by simp[gj]);clear aA;go_enter Og,Oh;go_wp2_with fail;with_reducible refine (mh S wG.out n nS _).mono ?_
    rintro e b9 ⟨rfl,rfl⟩;go_wp2_with fail
    go_loop [4,23] (fun v i=>∃k:Nat,k≤S.size∧i=I (k:Int)∧v=I (val (S.data.toList.take k):Nat)) (fun _ i=>S.size -(intOf i).toNat)
    case atStart=>exact⟨0,dO _,rfl,rfl⟩
    case round=>
     obtain⟨k,ay,rfl,rfl⟩:=hrel;by_cases bR:k<S.size
     ·have j':k<S.data.toList.length:=(by rw[cb];exact bR);have hd:48≤S[k].toNat∧S[k].toNat≤57:=(by have:=(x9 S.data.toList).1 k j' (by rw[nS.out];omega);rw[nG S k bR] at this;exact (ph _).1 this);have aY:val (S.data.toList.take k)<10000:=km (CJ S.data.toList k (by rw[nS.out];omega)) (by have:=wz (n:=10) (by decide) (show k≤4 by omega);simpa using this);have db:af (val (S.data.toList.take (k+1))=val (S.data.toList.take k) *10+(S[k].toNat-48)):=(by show _=_;rw[H2 S k bR];exact HU _ _);have gU:(k:Int)<(S.size:Int):=(by omega);obtain⟨ih,gD⟩:=hd;go_wp2_with fail;go_round
      case rel=>exact⟨k+1,by omega,by go_num,by rw[db.out];go_num⟩
      case measure=>simp[intOf];omega
     ·have gU:¬((k:Int)<(S.size:Int)):=(by omega);have b0:af (S.data.toList.take k=S.data.toList):=wq (by rw[cb];omega);go_wp2_with fail;go_ret2;rw[←b6.out,b0.out];exact⟨rfl,rfl⟩
   ·rw[bb (.inr (.inr (by rw[hn];exact gj)))] at aA;have b6:=aq aA;have JL:((n:Int) !=(S.size:Int))=true:=(by simp;omega);clear aA;go_enter Og,Oh;go_wp2_with fail;with_reducible refine (mh S wG.out n nS _).mono ?_
    rintro e b9 ⟨rfl,rfl⟩;go_wp2_with fail;go_ret2;rw[←b6.out];exact⟨rfl,rfl⟩
theorem QI{S:Ua}(h:S.size=0):S=⟨#[]⟩:=hY (mT (by rw[cb];exact h))
theorem pF(S P:Ua)(r:au)(h:af (S.data.toList=P.data.toList++r))(w:aeo):
  Calls Tryz.prog 89 #[aa S,aa P] w fun e w'=>e=ab (.tuple #[aa ⟨r.toArray⟩,U true])∧w=w':=by
 have av:Lib.hasPrefix S.data.toList P.data.toList=true:=by rw[h.out];unfold Lib.hasPrefix;rw[Zu];exact List.prefix_append _ _
 have az:Lib.trimPrefix S.data.toList P.data.toList=r:=by unfold Lib.trimPrefix;rw[bb av,h.out,List.drop_left]
 refine (SO S P w).mono fun e w' ⟨he,hw⟩=>⟨?_,hw.symm⟩;rw[he,av,az]
theorem BS(S P:Ua)(h:af (∀r,S.data.toList≠P.data.toList++r))(w:aeo):
  Calls Tryz.prog 89 #[aa S,aa P] w fun e w'=>e=ab (.tuple #[aa S,U false])∧w=w':=by
 have av:Lib.hasPrefix S.data.toList P.data.toList=false:=by rw[x6];unfold Lib.hasPrefix;intro hp;obtain⟨r,hr⟩:=List.isPrefixOf_iff_prefix.1 hp;exact h.out r hr.symm
 have az:Lib.trimPrefix S.data.toList P.data.toList=S.data.toList:=by unfold Lib.trimPrefix;rw[av];rfl
 refine (SO S P w).mono fun e w' ⟨he,hw⟩=>⟨?_,hw.symm⟩;rw[he,av,az,n5]
theorem xq(S P:Ua)(b:Bool)(h:af (decide (S.data.toList.take P.data.toList.length=P.data.toList)=b))(w:aeo):
  Calls Tryz.prog 130 #[aa S,aa P] w fun e w'=>e=ab (U b)∧w=w':=by
 refine (Tryz.strings_HasPrefix S P w).mono fun e w' ⟨he,hw⟩=>⟨?_,hw.symm⟩;rw[he,←h.out];refine dD ?_;rw[yc,JH];unfold Lib.hasPrefix;rw[Zu,List.prefix_iff_eq_take];exact⟨Eq.symm,Eq.symm⟩
theorem SP{l p:au}(h:l.take p.length=p):l=p++l.drop p.length:=by conv=>lhs;rw[←H7 p.length l,h]
theorem SQ{l p:au}(h:l.take p.length≠p):∀r,l≠p++r:=fun r hr=>h (by rw[hr];simp)
theorem SR(S:Ua)(hs:S.size≤maxLen)(o:Option Nat)(bm:af (vb S.data.toList=o))(w:aeo):
  Calls Tryz.prog 94 #[aa S] w fun e w'=>JJ o e∧w=w':=by
 have wG:=aq hs;unfold maxLen at hs;have aA:=bm.out;unfold vb at aA;rw[cb] at aA;clear bm;by_cases av:S.size<2
 ·rw[bb (.inl av)] at aA;have b6:=aq aA;have JK:(S.size:Int)<2:=(by omega);clear aA;go_enter Tryz.func94,Tryz.ntmps94;go_wp2_with fail;go_ret2;rw[←b6.out];exact⟨rfl,rfl⟩
 ·have JK:¬(S.size:Int)<2:=(by omega);have hp:0<S.size:=(by omega);have aK:=zl S hp;obtain⟨c,hc⟩:=ar (S[0]);have hd:S.data.toList.headD 0=c:=(by rw[aK,hc];rfl);rw[hd] at aA;obtain⟨x,hx⟩:=ar (c.toNat:Int);clear aK hd;by_cases h0:c=48
  ·rw[bb (.inr h0)] at aA;have b6:=aq aA;have ajB:x=48:=(by rw[←hx,h0];rfl);clear aA h0;go_enter Tryz.func94,Tryz.ntmps94;go_wp2_with fail;go_ret2;rw[←b6.out];exact⟨rfl,rfl⟩
  ·rw[aW (by intro h;rcases h with h|h;exact av h;exact h0 h)] at aA;have b6:=aq aA;have ajB:(x==48)=false:=(by rw[x6];intro h;apply h0;apply D0;have:x=48:=(by simpa using h);show c.toNat=48;omega);clear aA h0;go_enter Tryz.func94,Tryz.ntmps94;go_wp2_with fail;with_reducible refine (Fu S wG.out o b6 _).mono ?_
   rintro e b9 ⟨he,rfl⟩;unfold JJ at he;subst he;go_wp2_with fail;go_ret2;exact⟨rfl,rfl⟩
def sh(w w':aeo):Prop:=∃n,w'=w.drewN n
variable{w x W e5:aeo}
theorem ld{w':aeo}(h:sh w w'):ao w w w':=by obtain⟨n,rfl⟩:=h;exact below_drewN (Below.refl _ _) n
theorem CR(S:Ua):(S.toList==[])=decide (S.size=0):=by rw[mV,yc,uR,JH,←cb,Zv]
theorem Gq{c:UInt8}{k:Nat}(ay:k<256)(h:c≠UInt8.ofNat k):((c.toNat:Int)==(k:Int))=false:=by
 rw[x6];intro he;apply h;apply D0;have:(c.toNat:Int)=(k:Int):=by simpa using he
 have az:(UInt8.ofNat k).toNat=k:=by simp;omega
 rw[az];omega
theorem H'(S:Ua)(hs:S.size≤1000000000)(c:UInt8)(A R:Ua)(h:af (oc S.data.toList c=(A.data.toList,R.data.toList)))(w:aeo):
  Calls Tryz.prog 139 #[aa S,aa ⟨#[c]⟩] w fun e w'=>e=ab (.tuple #[aa A,aa R])∧sh w w':=by
 have wG:=aq hs;have aK:=h.out;unfold oc at aK;clear h;by_cases hc:S.data.toList≠[]∧S.data.toList.headD 0=c
 ·rw[bb hc] at aK;obtain⟨r,hr⟩:=ar (S.data.toList.drop 1);rw[hr] at aK
  have hS:S.data.toList=[c] ++r:=by
   cases aR:S.data.toList with
   |nil=>exact absurd aR hc.1
   |cons d q=>
    rw[aR] at hc hr;rw[←hr,←hc.2];rfl
  obtain⟨T,rfl⟩:=jQ r;have db:af (S.data.toList=(⟨#[c]⟩:Ua).data.toList++T.data.toList):=hS;have oR:T.size+1=S.size:=(by have av:=fp List.length hS;rw[cb,iv,cb] at av;simp at av;omega);obtain⟨g,aF⟩:=ar (yt T.data.toList);rw[aF] at aK;obtain⟨n,hn⟩:=ar (bn (T.data.toList.drop g));rw[hn] at aK
  have BT:g≤1∧g≤T.size:=by
   rw[←aF,←cb];unfold yt;split
   ·rename_i aR;exact⟨bx _,List.length_pos_iff.2 aR.1⟩
   ·exact⟨dO _,dO _⟩
  have JM:g+n≤T.size:=(by have av:=qd (T.data.toList.drop g);rw[hn,fH,cb] at av;omega);have oT:af (bn (T.extract g T.size).data.toList=n):=(by show _=_;rw[jP,hn]);have JN:(T.extract g T.size).size≤maxLen:=(by rw[←cb,jP,fH,cb];unfold maxLen;omega);have Gr:=aq JN;have hz:=aq aK;have Oj:T.size≤1000000000:=(by omega);obtain⟨BT,XJ⟩:=BT;clear aK hc hr hS JN hn oR;by_cases aS:T.size=0
  ·have BU:(T.toList==[])=true:=(by rw[CR];exact eL aS);have BV:g=0:=(by omega);subst BV;have l0:n=0:=(by omega);subst l0;have JO:af (bn T.data.toList=0):=(by have av:=oT.out;rw[jP] at av;exact av);have aK:=hz.out;rw[bb (.inl (by omega))] at aK;simp only[gh] at aK;obtain rfl:A=⟨#[]⟩:=hY aK.1.symm;obtain rfl:R=S:=hY aK.2.symm;clear aK hz aF aS;go_enter xo,xp;go_wp2_with fail;with_reducible refine (pF _ _ _ db _).mono ?_
   rintro e b9 ⟨rfl,rfl⟩;rw[n5];go_wp2_with fail;with_reducible refine (mh T (by unfold maxLen;omega) 0 (aq JO.out) _).mono ?_
   rintro e b9 ⟨rfl,rfl⟩;go_wp2_with fail;go_ret2;exact⟨rfl,0,rfl⟩
  ·have BU:(T.toList==[])=false:=(by rw[CR];exact ey aS);have hp:0<T.size:=(by omega);have SS:=zl T hp;obtain⟨d,hd⟩:=ar (T[0]);rw[hd] at SS;have D1:yt T.data.toList=if d=43∨d=45 then 1 else 0:=by rw[SS];unfold yt;simp
   rw[aF] at D1;clear SS aF aS;by_cases wB:d=43
   ·subst wB;rw[bb (.inl rfl)] at D1;subst D1;have ajC:((43:UInt8).toNat:Int)=43:=rfl;by_cases fb:n<1∨12<n
    ·have aK:=hz.out;rw[bb fb] at aK;simp only[gh] at aK;obtain rfl:A=⟨#[]⟩:=hY aK.1.symm;obtain rfl:R=S:=hY aK.2.symm;clear aK hz;by_cases k0:(n:Int)<1
     ·clear fb;go_enter xo,xp;go_wp2_with fail;with_reducible refine (pF _ _ _ db _).mono ?_
      rintro e b9 ⟨rfl,rfl⟩;rw[n5];go_wp2_with fail;with_reducible refine (mh _ Gr.out n oT _).mono ?_
      rintro e b9 ⟨rfl,rfl⟩;go_wp2_with fail;go_ret2;exact⟨rfl,0,rfl⟩
     ·have D2:12<(n:Int):=(by omega);clear fb;go_enter xo,xp;go_wp2_with fail;with_reducible refine (pF _ _ _ db _).mono ?_
      rintro e b9 ⟨rfl,rfl⟩;rw[n5];go_wp2_with fail;with_reducible refine (mh _ Gr.out n oT _).mono ?_
      rintro e b9 ⟨rfl,rfl⟩;go_wp2_with fail;go_ret2;exact⟨rfl,0,rfl⟩
    ·have aK:=hz.out;rw[aW fb] at aK;simp only[gh] at aK;have cy:af (T.extract 0 (1+n)=A):=hY (by rw[BR];exact aK.1);have bw:af (T.extract (1+n) T.size=R):=hY (by rw[jP];exact aK.2);have k0:¬(n:Int)<1:=(by omega);have D2:¬12<(n:Int):=(by omega);have Zz:(n:Int)≤12:=(by omega);clear aK hz fb;go_enter xo,xp;go_wp2_with fail;with_reducible refine (pF _ _ _ db _).mono ?_
     rintro e b9 ⟨rfl,rfl⟩;rw[n5];go_wp2_with fail;with_reducible refine (mh _ Gr.out n oT _).mono ?_
     rintro e b9 ⟨rfl,rfl⟩;go_wp2_with fail
     go_quiet (fail)
     go_wp2_with fail;go_ret2;obtain rfl:=cy.out;obtain rfl:=bw.out;exact⟨rfl,_,rfl⟩
   ·by_cases CT:d=45
    ·subst CT;rw[bb (.inr rfl)] at D1;subst D1;have ajC:((45:UInt8).toNat:Int)=45:=rfl;by_cases fb:n<1∨12<n
     ·have aK:=hz.out;rw[bb fb] at aK;simp only[gh] at aK;obtain rfl:A=⟨#[]⟩:=hY aK.1.symm;obtain rfl:R=S:=hY aK.2.symm;clear aK hz;by_cases k0:(n:Int)<1
      ·clear fb;go_enter xo,xp;go_wp2_with fail;with_reducible refine (pF _ _ _ db _).mono ?_
       rintro e b9 ⟨rfl,rfl⟩;rw[n5];go_wp2_with fail;with_reducible refine (mh _ Gr.out n oT _).mono ?_
       rintro e b9 ⟨rfl,rfl⟩;go_wp2_with fail;go_ret2;exact⟨rfl,0,rfl⟩
      ·have D2:12<(n:Int):=(by omega);clear fb;go_enter xo,xp;go_wp2_with fail;with_reducible refine (pF _ _ _ db _).mono ?_
       rintro e b9 ⟨rfl,rfl⟩;rw[n5];go_wp2_with fail;with_reducible refine (mh _ Gr.out n oT _).mono ?_
       rintro e b9 ⟨rfl,rfl⟩;go_wp2_with fail;go_ret2;exact⟨rfl,0,rfl⟩
     ·have aK:=hz.out;rw[aW fb] at aK;simp only[gh] at aK;have cy:af (T.extract 0 (1+n)=A):=hY (by rw[BR];exact aK.1);have bw:af (T.extract (1+n) T.size=R):=hY (by rw[jP];exact aK.2);have k0:¬(n:Int)<1:=(by omega);have D2:¬12<(n:Int):=(by omega);have Zz:(n:Int)≤12:=(by omega);clear aK hz fb;go_enter xo,xp;go_wp2_with fail;with_reducible refine (pF _ _ _ db _).mono ?_
      rintro e b9 ⟨rfl,rfl⟩;rw[n5];go_wp2_with fail;with_reducible refine (mh _ Gr.out n oT _).mono ?_
      rintro e b9 ⟨rfl,rfl⟩;go_wp2_with fail
      go_quiet (fail)
      go_wp2_with fail;go_ret2;obtain rfl:=cy.out;obtain rfl:=bw.out;exact⟨rfl,_,rfl⟩
    ·rw[aW (by intro h;rcases h with h|h;exact wB h;exact CT h)] at D1;subst D1;have JO:af (bn T.data.toList=n):=(by have av:=oT.out;rw[jP] at av;exact av);have awo:((d.toNat:Int)==43)=false:=Gq (k:=43) (by decide) wB;have awp:((d.toNat:Int)==45)=false:=Gq (k:=45) (by decide) CT;clear wB CT;by_cases fb:n<1∨12<n
     ·have aK:=hz.out;rw[bb fb] at aK;simp only[gh] at aK;obtain rfl:A=⟨#[]⟩:=hY aK.1.symm;obtain rfl:R=S:=hY aK.2.symm;clear aK hz;by_cases k0:(n:Int)<1
      ·clear fb;go_enter xo,xp;go_wp2_with fail;with_reducible refine (pF _ _ _ db _).mono ?_
       rintro e b9 ⟨rfl,rfl⟩;rw[n5];go_wp2_with fail;with_reducible refine (mh T (by unfold maxLen;omega) n JO _).mono ?_
       rintro e b9 ⟨rfl,rfl⟩;go_wp2_with fail;go_ret2;exact⟨rfl,0,rfl⟩
      ·have D2:12<(n:Int):=(by omega);clear fb;go_enter xo,xp;go_wp2_with fail;with_reducible refine (pF _ _ _ db _).mono ?_
       rintro e b9 ⟨rfl,rfl⟩;rw[n5];go_wp2_with fail;with_reducible refine (mh T (by unfold maxLen;omega) n JO _).mono ?_
       rintro e b9 ⟨rfl,rfl⟩;go_wp2_with fail;go_ret2;exact⟨rfl,0,rfl⟩
     ·have aK:=hz.out;rw[aW fb] at aK;simp only[gh] at aK;have cy:af (T.extract 0 n=A):=hY (by rw[BR];have:=aK.1;rwa [j7] at this);have bw:af (T.extract n T.size=R):=hY (by rw[jP];have:=aK.2;rwa [j7] at this);have k0:¬(n:Int)<1:=(by omega);have D2:¬12<(n:Int):=(by omega);have Zz:(n:Int)≤12:=(by omega);clear aK hz fb;go_enter xo,xp;go_wp2_with fail;with_reducible refine (pF _ _ _ db _).mono ?_
      rintro e b9 ⟨rfl,rfl⟩;rw[n5];go_wp2_with fail;with_reducible refine (mh T (by unfold maxLen;omega) n JO _).mono ?_
      rintro e b9 ⟨rfl,rfl⟩;go_wp2_with fail
      go_quiet (fail)
      go_wp2_with fail;go_ret2;obtain rfl:=cy.out;obtain rfl:=bw.out;exact⟨rfl,_,rfl⟩
 ·rw[aW hc] at aK;simp only[gh] at aK;obtain rfl:A=⟨#[]⟩:=hY aK.1.symm;obtain rfl:R=S:=hY aK.2.symm;have bd:af (∀r,R.data.toList≠(⟨#[c]⟩:Ua).data.toList++r):=(by intro r hr;apply hc;rw[hr];exact⟨by simp,rfl⟩);clear aK hc;go_enter xo,xp;go_wp2_with fail;with_reducible refine (BS _ _ bd _).mono ?_
  rintro e b9 ⟨rfl,rfl⟩;go_wp2_with fail;go_ret2;exact⟨rfl,0,rfl⟩
def xr(j:Nat)(c:UInt8):Bool:=MW c ||(decide (0<j)&&Rh c)
theorem ajD(l:au)(av:1≤l.length)(az:l.length≤100):sq l=true↔∀j (h:j<l.length),xr j l[j]=true:=by
 cases l with
 |nil=>simp at av
 |cons c r=>
  unfold sq;rw[eL av,eL az];simp only[H0,List.headD_cons,uP,tu,jh,HZ];constructor
  ·rintro⟨ha,ax⟩ j cd;cases j with
   |zero=>unfold xr;simp[ha]
   |succ j=>
    have:=ax (r[j]'(by simpa using cd)) (kT _);unfold xr;simpa using this
  ·intro h;refine⟨?_,fun x hx=>?_⟩
   ·have:=h 0 (by simp);unfold xr at this;simpa using this
   ·obtain⟨j,cd,rfl⟩:=List.getElem_of_mem hx;have:=h (j+1) (by simpa using cd);unfold xr at this;simpa using this
theorem ajE(j:Nat)(c:UInt8)(x:Int)(hx:(c.toNat:Int)=x):xr j c=((decide (97≤x)&&decide (x≤122))||(decide (65≤x)&&decide (x≤90))|| decide (x=95)|| decide (x=46)|| decide (x=36)||(decide (0<j)&&((decide (48≤x)&&decide (x≤57))|| decide (x=45)))):=by
 have av:∀k:Nat,k<256→(c==UInt8.ofNat k)=decide (x=(k:Int)):=by
  intro k ay;rw[yc,uR,JH,←hx];constructor
  ·intro h;rw[h];simp;omega
  ·intro h;apply D0;simp;omega
 have az:∀k:Nat,decide (k≤c.toNat)=decide ((k:Int)≤x):=by intro k;rw[decide_eq_decide,←hx];omega
 have aC:∀k:Nat,decide (c.toNat≤k)=decide (x≤(k:Int)):=by intro k;rw[decide_eq_decide,←hx];omega
 unfold xr MW Rh fi;rw[az,aC,az,aC,az,aC,show (c==95)=_ from av 95 (by decide),show (c==46)=_ from av 46 (by decide),show (c==36)=_ from av 36 (by decide),show (c==45)=_ from av 45 (by decide)];rfl
theorem ZA(S:Ua)(hs:S.size≤maxLen)(b:Bool)(ax:af (sq S.data.toList=b))(w:aeo):
    Calls Tryz.prog 91 #[aa S] w fun e w'=>e=ab (U b)∧w=w':=by
  unfold maxLen at hs;by_cases av:(S.size:Int)<1
  · have aI:af (false=b):=by show _=_;rw[←ax.out];unfold sq;rw[cb,ey (show ¬1≤S.size by omega)];rfl
    go_enter Tryz.func91,Tryz.ntmps91;go_wp2_with fail;go_ret;exact⟨dD aI.out,rfl⟩
  · by_cases az:100<(S.size:Int)
    · have aI:af (false=b):=by show _=_;rw[←ax.out];unfold sq;rw[cb,ey (show ¬S.size≤100 by omega)];simp
      go_enter Tryz.func91,Tryz.ntmps91;go_wp2_with fail;go_ret;exact⟨dD aI.out,rfl⟩
    · have b8:af (sq S.data.toList=true↔∀j (h:j<S.data.toList.length),xr j S.data.toList[j]=true):=ajD _ (by rw[cb];omega) (by rw[cb];omega)
      go_enter Tryz.func91,Tryz.ntmps91;go_wp2_with fail
      go_loop [15] (fun i=>∃k:Nat,k≤S.size∧af (∀j (h:j<S.data.toList.length),j<k→xr j S.data.toList[j]=true)∧i=I (k:Int)) (fun i=>S.size -(intOf i).toNat)
      case atStart=>exact⟨0,dO _,fun j _ h=>absurd h (my _),rfl⟩
      case round=>
        obtain⟨k,ay,cQ,rfl⟩:=hrel;by_cases bR:k<S.size
        · have j':k<S.data.toList.length:=by rw[cb];exact bR
          have gU:(k:Int)<(S.size:Int):=(by omega);obtain⟨x,hx⟩:∃x,(S[k].toNat:Int)=x:=⟨_,rfl⟩;obtain⟨Gs,Ok⟩:∃Gs,xr k S[k]=Gs:=⟨_,rfl⟩;have yT:=Ok;rw[ajE k S[k] x hx] at yT
          have il:af (Gs=true→∀j (h:j<S.data.toList.length),j<k+1→xr j S.data.toList[j]=true):=by
            intro bE j cd z8;by_cases ajF:j=k
            · subst ajF;rw[nG S j bR,Ok,bE]
            · exact cQ.out j cd (by omega)
          have cC:af (Gs=false→false=b):=(by intro hf;rw[←ax.out];refine (Bool.eq_false_iff.2 fun hn=>?_).symm;have:=b8.out.1 hn k j';rw[nG S k bR,Ok,hf] at this;cases this);clear Ok;have gi:(97≤x∧x≤122)∨(123≤x)∨(x=96)∨(x=95)∨(91≤x∧x≤94)∨(65≤x∧x≤90)∨(58≤x∧x≤64)∨(48≤x∧x≤57)∨(x=47)∨(x=46)∨(x=45)∨(37≤x∧x≤44)∨(x=36)∨(x≤35):=(by omega);rcases gi with gi|gi|gi|gi|gi|gi|gi|gi|gi|gi|gi|gi|gi|gi
          all_goals
            first|have fO:97≤x:=by omega|have fO:¬97≤x:=by omega
            first|have fh:x≤122:=by omega|have fh:¬x≤122:=by omega
            first|have dI:65≤x:=by omega|have dI:¬65≤x:=by omega
            first|have zG:x≤90:=by omega|have zG:¬x≤90:=by omega
            first|have zH:48≤x:=by omega|have zH:¬48≤x:=by omega
            first|have zI:x≤57:=by omega|have zI:¬x≤57:=by omega
            first|have ajG:(x==95)=true:=by rw[uR];omega|have ajG:(x==95)=false:=by rw[kS];omega
            first|have ajH:(x==46)=true:=by rw[uR];omega|have ajH:(x==46)=false:=by rw[kS];omega
            first|have ajI:(x==36)=true:=by rw[uR];omega|have ajI:(x==36)=false:=by rw[kS];omega
            first|have ajJ:(x==45)=true:=by rw[uR];omega|have ajJ:(x==45)=false:=by rw[kS];omega
            by_cases qi:0<(k:Int)
            all_goals first
              | (have Af:Gs=true:=by rw[←yT];simp only[Bb,jh,JH];omega
                 have kq:=aq (il.out Af);clear yT gi Af il cC;go_wp2_with fail;go_round<;>first|exact⟨k+1,by omega,kq.out,by go_num⟩|(simp[intOf]<;>omega))
              | (have Af:Gs=false:=by rw[←yT,x6];intro h;simp only[Bb,jh,JH] at h;omega
                 have aI:=aq (cC.out Af);clear yT gi Af il cC;go_wp2_with fail;go_ret;exact⟨dD aI.out,rfl⟩)
        · have aI:af (true=b):=by show _=_;rw[←ax.out];refine (b8.out.2 fun j cd=>cQ.out j cd ?_).symm;rw[cb] at cd;omega
          have gU:¬((k:Int)<(S.size:Int)):=(by omega);go_wp2_with fail;go_ret;exact⟨dD aI.out,rfl⟩
def dH(B:Nat)(w:aeo)(p:Ja)(l:List Int):Prop:=0<l.length→∃(b o:Nat) (cs:ajv),p=some ⟨b,o,none⟩∧B≤b∧an w b cs 2∧∀i (hi:i<l.length),cs[o+i]?=some (I l[i])
theorem dH.nil(B:Nat)(w:aeo)(p:Ja):dH B w p []:=fun h=>absurd h (mA _)
variable{l:List Int}{p:Ja}{B b:Nat}
theorem dH.below{w':aeo}(h:dH B w p l)(ax:ao w w w'):dH B w' p l:=by intro aA;obtain⟨b,o,cs,rfl,bK,aK,hc⟩:=h aA;exact⟨b,o,cs,rfl,bK,aU aK ax,hc⟩
theorem dH.mono{D:Nat}(h:dH B w p l)(b2:D≤B):dH D w p l:=by intro aA;obtain⟨b,o,cs,rfl,bK,aK,hc⟩:=h aA;exact⟨b,o,cs,rfl,dx b2 bK,aK,hc⟩
abbrev bN:Value:=J 0
def jm(c:C)(a:Int)(cK bv:ada):Array Value:= #[I a,I c.k,I c.n,I c.m,U c.on,aa ⟨c.t.toArray⟩,aa ⟨c.x.toArray⟩,aa ⟨c.y.toArray⟩,aa ⟨c.i.toArray⟩,aa ⟨c.j.toArray⟩,cK,bv]
abbrev lu(c:C)(a:Int)(cK bv:ada):Value:=.agg (jm c a cK bv)
abbrev sS(c:C)(a:Int)(cK bv:ada):Obj:=.cells (jm c a cK bv) 104
def yf(o:Option C)(w:aeo)(e:Ending)(w':aeo):Prop:=Below w.heap.size w w'∧∃(c:C) (p:Ja) (k:Nat),
 e=ab (.tuple #[lu c 0 (ad p c.bX.length k) bN,U o.isSome])∧dH w.heap.size w' p c.bX∧c.blocks=[]∧∀d,o=some d→d=c
variable{v0 v1 v2 v3 v4 v5 v6 cj cD v9 v10 v11:ada}{t:aai}
theorem di(h:an x b (#[v0,v1,v2,v3,v4,v5,v6,cj,cD,v9,v10,v11]) t):
  (ak x b 0 v0∧ak x b 1 v1∧ak x b 2 v2∧ak x b 3 v3∧ak x b 4 v4∧ak x b 5 v5∧ak x b 6 v6∧ak x b 7 cj∧ak x b 8 cD∧ak x b 9 v9∧ak x b 10 v10∧ak x b 11 v11)∧
  (x.frozen? ⟨b,0,none⟩=false∧x.frozen? ⟨b,1,none⟩=false∧x.frozen? ⟨b,2,none⟩=false∧x.frozen? ⟨b,3,none⟩=false∧x.frozen? ⟨b,4,none⟩=false∧x.frozen? ⟨b,5,none⟩=false∧x.frozen? ⟨b,6,none⟩=false∧x.frozen? ⟨b,7,none⟩=false∧x.frozen? ⟨b,8,none⟩=false∧x.frozen? ⟨b,9,none⟩=false∧x.frozen? ⟨b,10,none⟩=false∧x.frozen? ⟨b,11,none⟩=false):=by
 refine⟨⟨?_,?_,?_,?_,?_,?_,?_,?_,?_,?_,?_,?_⟩,?_,?_,?_,?_,?_,?_,?_,?_,?_,?_,?_,?_⟩<;>simp[World.cell?,World.frozen?,h]
def kM(w:aeo)(b:Nat)(c:C)(a:Int)(cK bv:ada):World:=
 (((((((((((w.setCell (aj b 0) (I a)).setCell (aj b 1) (I c.k)).setCell (aj b 2) (I c.n)).setCell (aj b 3) (I c.m)).setCell (aj b 4) (U c.on)).setCell (aj b 5) (aa ⟨c.t.toArray⟩)).setCell (aj b 6) (aa ⟨c.x.toArray⟩)).setCell (aj b 7) (aa ⟨c.y.toArray⟩)).setCell (aj b 8) (aa ⟨c.i.toArray⟩)).setCell (aj b 9) (aa ⟨c.j.toArray⟩)).setCell (aj b 10) (cK)).setCell (aj b 11) (bv)
theorem Ic(h:an x b (#[v0,v1,v2,v3,v4,v5,v6,cj,cD,v9,v10,v11]) t)(u:ada):(x.setCell (aj b 0) u).heap[b]?=some (.cells #[u,v1,v2,v3,v4,v5,v6,cj,cD,v9,v10,v11] t):=j9 h 0 u
theorem Mq(h:an x b (#[v0,v1,v2,v3,v4,v5,v6,cj,cD,v9,v10,v11]) t)(u:ada):(x.setCell (aj b 1) u).heap[b]?=some (.cells #[v0,u,v2,v3,v4,v5,v6,cj,cD,v9,v10,v11] t):=j9 h 1 u
theorem Mr(h:an x b (#[v0,v1,v2,v3,v4,v5,v6,cj,cD,v9,v10,v11]) t)(u:ada):(x.setCell (aj b 2) u).heap[b]?=some (.cells #[v0,v1,u,v3,v4,v5,v6,cj,cD,v9,v10,v11] t):=j9 h 2 u
theorem Ms(h:an x b (#[v0,v1,v2,v3,v4,v5,v6,cj,cD,v9,v10,v11]) t)(u:ada):(x.setCell (aj b 3) u).heap[b]?=some (.cells #[v0,v1,v2,u,v4,v5,v6,cj,cD,v9,v10,v11] t):=j9 h 3 u
theorem Mt(h:an x b (#[v0,v1,v2,v3,v4,v5,v6,cj,cD,v9,v10,v11]) t)(u:ada):(x.setCell (aj b 4) u).heap[b]?=some (.cells #[v0,v1,v2,v3,u,v5,v6,cj,cD,v9,v10,v11] t):=j9 h 4 u
theorem Mu(h:an x b (#[v0,v1,v2,v3,v4,v5,v6,cj,cD,v9,v10,v11]) t)(u:ada):(x.setCell (aj b 5) u).heap[b]?=some (.cells #[v0,v1,v2,v3,v4,u,v6,cj,cD,v9,v10,v11] t):=j9 h 5 u
theorem Mv(h:an x b (#[v0,v1,v2,v3,v4,v5,v6,cj,cD,v9,v10,v11]) t)(u:ada):(x.setCell (aj b 6) u).heap[b]?=some (.cells #[v0,v1,v2,v3,v4,v5,u,cj,cD,v9,v10,v11] t):=j9 h 6 u
theorem Mw(h:an x b (#[v0,v1,v2,v3,v4,v5,v6,cj,cD,v9,v10,v11]) t)(u:ada):(x.setCell (aj b 7) u).heap[b]?=some (.cells #[v0,v1,v2,v3,v4,v5,v6,u,cD,v9,v10,v11] t):=j9 h 7 u
theorem Mx(h:an x b (#[v0,v1,v2,v3,v4,v5,v6,cj,cD,v9,v10,v11]) t)(u:ada):(x.setCell (aj b 8) u).heap[b]?=some (.cells #[v0,v1,v2,v3,v4,v5,v6,cj,u,v9,v10,v11] t):=j9 h 8 u
theorem My(h:an x b (#[v0,v1,v2,v3,v4,v5,v6,cj,cD,v9,v10,v11]) t)(u:ada):(x.setCell (aj b 9) u).heap[b]?=some (.cells #[v0,v1,v2,v3,v4,v5,v6,cj,cD,u,v10,v11] t):=j9 h 9 u
theorem ZB(h:an x b (#[v0,v1,v2,v3,v4,v5,v6,cj,cD,v9,v10,v11]) t)(u:ada):(x.setCell (aj b 10) u).heap[b]?=some (.cells #[v0,v1,v2,v3,v4,v5,v6,cj,cD,v9,u,v11] t):=j9 h 10 u
theorem ZC(h:an x b (#[v0,v1,v2,v3,v4,v5,v6,cj,cD,v9,v10,v11]) t)(u:ada):(x.setCell (aj b 11) u).heap[b]?=some (.cells #[v0,v1,v2,v3,v4,v5,v6,cj,cD,v9,v10,u] t):=j9 h 11 u
theorem ajK{h2:aeo}(ax:ao w w h2)(hr:an h2 w.heap.size (#[v0,v1,v2,v3,v4,v5,v6,cj,cD,v9,v10,v11]) 104)(c:C)(a:Int)(cK bv:ada):
  (kM h2 w.heap.size c a cK bv).heap[w.heap.size]?=some (sS c a cK bv)∧ao w w (kM h2 w.heap.size c a cK bv):=by
 refine⟨(ZC (ZB (My (Mx (Mw (Mv (Mu (Mt (Ms (Mr (Mq (Ic hr _) _) _) _) _) _) _) _) _) _) _) _),?_⟩;unfold kM;exact ((((((((((((ax.setCell (bx _) _).setCell (bx _) _).setCell (bx _) _).setCell (bx _) _).setCell (bx _) _).setCell (bx _) _).setCell (bx _) _).setCell (bx _) _).setCell (bx _) _).setCell (bx _) _).setCell (bx _) _).setCell (bx _) _)
theorem SU(w:aeo){d:Nat}(h:d≠b)(c:C)(a:Int)(cK bv:ada):(kM w b c a cK bv).heap[d]?=w.heap[d]?:=by have key:∀(w:aeo) (i:Nat) (u:ada),(w.setCell (aj b i) u).heap[d]?=w.heap[d]?:=fun w i u=>tn _ _ _ _ h;unfold kM;rw[key,key,key,key,key,key,key,key,key,key,key,key]
theorem ajL(ax:b<B)(h:dH B w p l)(c:C)(a:Int)(cK bv:ada):dH B (kM w b c a cK bv) p l:=by intro aA;obtain⟨d,o,cs,rfl,bK,aK,hc⟩:=h aA;exact⟨d,o,cs,rfl,bK,(SU w (by omega) c a cK bv).trans aK,hc⟩
abbrev Ag:Obj:=.cells #[I 0,I 0,I 0,I 0,U false,aa ⟨#[]⟩,aa ⟨#[]⟩,aa ⟨#[]⟩,aa ⟨#[]⟩,aa ⟨#[]⟩,J 0,J 0] 104
structure nH(w W:aeo):Prop where
 a:W.heap[w.heap.size]?=some Ag
 b:ao w w W
theorem nH.below{ko:aeo}(h:nH w W)(ax:ao W W ko):nH w ko:=⟨aU h.a ax,h.b.trans (ax.mono h.b.size)⟩
theorem A'(w:aeo):nH w (w.alloc Ag):=⟨fJ w _,(Below.refl _ _).alloc (bx _) _⟩
theorem eG(S:Ua)(L:au):(S.toList==L)=decide (S.data.toList=L):=by rw[mV,yc,uR,jR]
theorem Ie(s:Ua)(v:Int)(b:Bool)(aY:af ((dec s.data.toList).getD 0=v∧(dec s.data.toList).isSome=b))(hs:s.size≤maxLen)(w:aeo):
  Calls Tryz.prog 136 #[aa s] w fun e w'=>e=ab (.tuple #[I v,U b])∧w=w':=by
 obtain⟨av,az⟩:=aY.out;subst av;subst az;exact Mg s w hs
variable{fn:Func}{u:Tmp}
theorem ZD{P:Program}{p:Tmp}{ty:aai}(h:fn.results= #[.cell p ty,.tmp u])(tmps:ajv)(w:aeo)(g:Nat)(t:aai)(cs:ajv)(fr:Nat×Nat)(d:TypeDesc)
  (hp:tmps.getD p undef=.pointer (some (aj g 0))) (aF:w.heap[g]?=some (.cells cs t fr))
  (hu:P.underlying ty=some d) (hd:(match d with|.struct _|.array _ _=>true|_=>false)=true) (hi:(P.info? ty).map (·.size)=some cs.size):
  (results fn tmps).run P w=.ok (.tuple #[.agg cs,tmps.getD u undef]) w:=by
 rw[results_cell_tmp h,hp];simp only[asAddr,MV,uZ,run_loadVar_row w g t ty cs fr d aF hu hd hi]
variable{fr:Act}
theorem nn{p:Tmp}{Q:Ending→aeo→Prop}(D:C)(cK:ada)(h:fn.results= #[.cell p 104,.tmp u])(bo:e5=kM W w.heap.size D 0 cK bN∨e5=(kM W w.heap.size D 0 cK bN).drew)(hp:fr.tmps.getD p undef=.pointer (some (aj w.heap.size 0)))(hd:fr.defers=[])(ha:an W w.heap.size (#[v0,v1,v2,v3,v4,v5,v6,cj,cD,v9,v10,v11]) 104)(ax:ao w w W)(k:ao w w e5→Q (ab (.tuple #[lu D 0 cK bN,fr.tmps.getD u undef])) e5):bodyPost Tryz.prog fn Q Exit.ret fr e5:=by
 have aO:=ajK ax ha D 0 cK bN;rcases bo with rfl|rfl
 ·exact dU (ZD h _ _ w.heap.size _ _ _ _ hp aO.1 Tryz.underlying104 rfl (by kernel_rfl)) hd (k aO.2)
 ·exact dU (ZD h _ _ w.heap.size _ _ _ _ hp (aU aO.1 (Below.refl _ _).drew) Tryz.underlying104 rfl (by kernel_rfl)) hd (k aO.2.drew)
theorem qN{p:Tmp}{o:Option C}{D:C}(a':af (o=some D))(h:fn.results= #[.cell p 104,.tmp u])(bo:e5=kM W w.heap.size D 0 bN bN∨e5=(kM W w.heap.size D 0 bN bN).drew)(hp:fr.tmps.getD p undef=.pointer (some (aj w.heap.size 0)))(hu:fr.tmps.getD u undef=U true)(hd:fr.defers=[])(aV:nH w W)(hn:D.bX=[])(ay:D.blocks=[]):bodyPost Tryz.prog fn (yf o w) Exit.ret fr e5:=by
 refine nn D bN h bo hp hd aV.a aV.b fun ax=>⟨ax,D,none,0,?_,by rw[hn];exact dH.nil _ _ _,ay,?_⟩
 ·rw[hu,a'.out,hn];rfl
 ·rw[a'.out];intro e he;exact (q5 he).symm
theorem mL{p:Tmp}{o:Option C}(D:C)(a':af (o=none))(h:fn.results= #[.cell p 104,.tmp u])(bo:e5=kM W w.heap.size D 0 bN bN∨e5=(kM W w.heap.size D 0 bN bN).drew)(hp:fr.tmps.getD p undef=.pointer (some (aj w.heap.size 0)))(hu:fr.tmps.getD u undef=U false)(hd:fr.defers=[])(aV:nH w W)(hn:D.bX=[])(ay:D.blocks=[]):bodyPost Tryz.prog fn (yf o w) Exit.ret fr e5:=by
 refine nn D bN h bo hp hd aV.a aV.b fun ax=>⟨ax,D,none,0,?_,by rw[hn];exact dH.nil _ _ _,ay,?_⟩
 ·rw[hu,a'.out,hn];rfl
 ·rw[a'.out];intro e he;cases he
theorem SV(t:au)(c:UInt8):(oc t c).2.length≤t.length:=by
 unfold oc;split
 ·split
  ·exact bx _
  ·rw[fH,fH];omega
 ·exact bx _
structure rR(w0:aeo)(c:C)(W:aeo):Prop where
 r:W.heap[w0.heap.size]?=some Ag
 p:W.heap[w0.heap.size+1]?=some (sS c 0 bN bN)
 aX:ao w0 w0 W
theorem rR.below{w0 ko:aeo}{c:C}(h:rR w0 c W)(ax:ao W W ko):rR w0 c ko:=⟨aU h.r ax,aU h.p ax,h.aX.trans (ax.mono h.aX.size)⟩
theorem rR.put{w0:aeo}{c d:C}{k:Nat}{u:ada}(h:rR w0 c W)(hd:(jm c 0 bN bN).setIfInBounds k u=jm d 0 bN bN):rR w0 d (W.setCell (aj (w0.heap.size+1) k) u):=
 ⟨(tn _ _ _ _ (by show w0.heap.size≠w0.heap.size+1;omega)).trans h.r,by rw[j9 h.p,hd],h.aX.setCell (by show w0.heap.size≤w0.heap.size+1;omega) _⟩
theorem ajM(w:aeo)(c:C):rR w c ((w.alloc Ag).alloc (sS c 0 bN bN)):=by
 have a7:(w.alloc Ag).heap.size=w.heap.size+1:=by simp
 refine⟨?_,?_,((Below.refl _ _).alloc (bx _) _).alloc (by omega) _⟩
 ·rw[A2 _ _ _ (by omega)];exact fJ w _
 ·have h:=fJ (w.alloc Ag) (sS c 0 bN bN)
  rwa [a7] at h
theorem ajN(S:Ua)(hs:S.size≤1000000000)(o:Option C)(bm:af (uY S.data.toList=o))(w:aeo):
  Calls Tryz.prog 95 #[aa S] w (yf o w):=by
 have aA:=bm.out;unfold uY at aA;obtain⟨gX,hA1⟩:=jQ (oc S.data.toList 88).1;obtain⟨R1,pY⟩:=jQ (oc S.data.toList 88).2;have H1:af (oc S.data.toList 88=(gX.data.toList,R1.data.toList)):=by show _=_;rw[hA1,pY]
 have ug:R1.size≤1000000000:=by have:=SV S.data.toList 88;rw[←pY,cb,cb] at this;omega
 obtain⟨iT,hA2⟩:=jQ (oc R1.data.toList 89).1;obtain⟨gR,mz⟩:=jQ (oc R1.data.toList 89).2;have dp:af (oc R1.data.toList 89=(iT.data.toList,gR.data.toList)):=by show _=_;rw[hA2,mz]
 have gL:gR.size≤1000000000:=by have:=SV R1.data.toList 89;rw[←mz,cb,cb] at this;omega
 obtain⟨np,hA3⟩:=jQ (oc gR.data.toList 73).1;obtain⟨qO,yM⟩:=jQ (oc gR.data.toList 73).2;have eo:af (oc gR.data.toList 73=(np.data.toList,qO.data.toList)):=by show _=_;rw[hA3,yM]
 have Ah:qO.size≤1000000000:=by have:=SV gR.data.toList 73;rw[←yM,cb,cb] at this;omega
 obtain⟨vG,hA4⟩:=jQ (oc qO.data.toList 74).1;obtain⟨rS,ZE⟩:=jQ (oc qO.data.toList 74).2;have j0:af (oc qO.data.toList 74=(vG.data.toList,rS.data.toList)):=by show _=_;rw[hA4,ZE]
 rw[H1.out] at aA;simp only[] at aA;rw[dp.out] at aA;simp only[] at aA;rw[eo.out] at aA;simp only[] at aA;rw[j0.out] at aA;simp only[] at aA;have dn:=aq aA;have db:=aq hs;have BW:=aq ug;have e9:=aq gL;have kN:=aq Ah;clear aA bm hA1 pY hA2 mz hA3 yM hA4 ZE ug gL Ah hs;have b6:af (rR w (cI 7) ((w.alloc (ai (#[I 0,I 0,I 0,I 0,U false,aa ⟨#[]⟩,aa ⟨#[]⟩,aa ⟨#[]⟩,aa ⟨#[]⟩,aa ⟨#[]⟩,J 0,J 0]) 104)).alloc (ai (#[I 0,I 7,I 0,I 0,U false,aa ⟨#[]⟩,aa ⟨#[]⟩,aa ⟨#[]⟩,aa ⟨#[]⟩,aa ⟨#[]⟩,J 0,J 0]) 104))):=ajM w _;go_enter Tryz.func95,Tryz.ntmps95;go_upto_region 2 with fail;generalize (w.alloc (ai (#[I 0,I 0,I 0,I 0,U false,aa ⟨#[]⟩,aa ⟨#[]⟩,aa ⟨#[]⟩,aa ⟨#[]⟩,aa ⟨#[]⟩,J 0,J 0]) 104)).alloc (.cells #[I 0,I 7,I 0,I 0,U false,aa ⟨#[]⟩,aa ⟨#[]⟩,aa ⟨#[]⟩,aa ⟨#[]⟩,aa ⟨#[]⟩,J 0,J 0] 104)=W at b6⊢;go_wp2_with fail;with_reducible refine (H' S db.out 88 gX R1 H1 _).mono ?_
 rintro e b9 ⟨rfl,hd⟩;have bT:=aq (b6.out.below (ld hd));clear hd b6;obtain⟨⟨aQ,aN,aJ,c3,bF,c5,bZ,b',bU,bg,cH,dR⟩,f0,f1,f2,f3,f4,f5,f6,f7,f8,f9,f10,f11⟩:=di bT.out.p;have b6:af (rR w {cI 7 with x:=gX.data.toList} (b9.setCell (aj (w.heap.size+1) 6) (aa gX))):=bT.out.put rfl;go_upto_region 3 with fail;generalize b9.setCell (aj (w.heap.size+1) 6) (aa gX)=W at b6⊢;clear aQ aN aJ c3 bF c5 bZ b' bU bg cH dR f0 f1 f2 f3 f4 f5 f6 f7 f8 f9 f10 f11 bT;go_wp2_with fail;with_reducible refine (H' R1 BW.out 89 iT gR dp _).mono ?_
 rintro e b9 ⟨rfl,hd⟩;have bT:=aq (b6.out.below (ld hd));clear hd b6;obtain⟨⟨aQ,aN,aJ,c3,bF,c5,bZ,b',bU,bg,cH,dR⟩,f0,f1,f2,f3,f4,f5,f6,f7,f8,f9,f10,f11⟩:=di bT.out.p;have b6:af (rR w {cI 7 with x:=gX.data.toList,y:=iT.data.toList} (b9.setCell (aj (w.heap.size+1) 7) (aa iT))):=bT.out.put rfl;go_upto_region 4 with fail;generalize b9.setCell (aj (w.heap.size+1) 7) (aa iT)=W at b6⊢;clear aQ aN aJ c3 bF c5 bZ b' bU bg cH dR f0 f1 f2 f3 f4 f5 f6 f7 f8 f9 f10 f11 bT;go_wp2_with fail;with_reducible refine (H' gR e9.out 73 np qO eo _).mono ?_
 rintro e b9 ⟨rfl,hd⟩;have bT:=aq (b6.out.below (ld hd));clear hd b6;obtain⟨⟨aQ,aN,aJ,c3,bF,c5,bZ,b',bU,bg,cH,dR⟩,f0,f1,f2,f3,f4,f5,f6,f7,f8,f9,f10,f11⟩:=di bT.out.p;have b6:af (rR w {cI 7 with x:=gX.data.toList,y:=iT.data.toList,i:=np.data.toList} (b9.setCell (aj (w.heap.size+1) 8) (aa np))):=bT.out.put rfl;go_upto_region 5 with fail;generalize b9.setCell (aj (w.heap.size+1) 8) (aa np)=W at b6⊢;clear aQ aN aJ c3 bF c5 bZ b' bU bg cH dR f0 f1 f2 f3 f4 f5 f6 f7 f8 f9 f10 f11 bT;go_wp2_with fail;with_reducible refine (H' qO kN.out 74 vG rS j0 _).mono ?_
 rintro e b9 ⟨rfl,hd⟩;have bT:=aq (b6.out.below (ld hd));clear hd b6;obtain⟨⟨aQ,aN,aJ,c3,bF,c5,bZ,b',bU,bg,cH,dR⟩,f0,f1,f2,f3,f4,f5,f6,f7,f8,f9,f10,f11⟩:=di bT.out.p;have b6:af (rR w {cI 7 with x:=gX.data.toList,y:=iT.data.toList,i:=np.data.toList,j:=vG.data.toList} (b9.setCell (aj (w.heap.size+1) 9) (aa vG))):=bT.out.put rfl;go_upto_region 6 with fail;generalize b9.setCell (aj (w.heap.size+1) 9) (aa vG)=W at b6⊢;clear aQ aN aJ c3 bF c5 bZ b' bU bg cH dR f0 f1 f2 f3 f4 f5 f6 f7 f8 f9 f10 f11 bT;by_cases b1:rS.data.toList=[68,48,49]
 ·have a7:(rS.toList==[68,48,49])=true:=(by rw[eG];exact eL b1);have bP:yu rS.data.toList=1:=(by unfold yu;rw[b1];rfl);have aA:=dn.out;rw[bP] at aA;have a':af (o=some {cI 7 with x:=gX.data.toList,y:=iT.data.toList,i:=np.data.toList,j:=vG.data.toList,n:=1}):=(by show _=_;rw[←aA];rfl);clear aA bP b1;obtain⟨⟨aQ,aN,aJ,c3,bF,c5,bZ,b',bU,bg,cH,dR⟩,f0,f1,f2,f3,f4,f5,f6,f7,f8,f9,f10,f11⟩:=di b6.out.p;have bT:af (rR w {cI 7 with x:=gX.data.toList,y:=iT.data.toList,i:=np.data.toList,j:=vG.data.toList,n:=1} (W.setCell (aj (w.heap.size+1) 2) (I 1))):=b6.out.put rfl;go_upto_region 13 with fail;clear aQ aN aJ c3 bF c5 bZ b' bU bg cH dR f0 f1 f2 f3 f4 f5 f6 f7 f8 f9 f10 f11 b6;generalize W.setCell (aj (w.heap.size+1) 2) (I 1)=W at bT⊢;have b6:=bT;clear bT;obtain⟨⟨aQ,aN,aJ,c3,bF,c5,bZ,b',bU,bg,cH,dR⟩,f0,f1,f2,f3,f4,f5,f6,f7,f8,f9,f10,f11⟩:=di b6.out.p;obtain⟨⟨d0,d1,d2,d3,d4,d5,d6,d7,d8,d9,d10,d11⟩,g0,g1,g2,g3,g4,g5,g6,g7,g8,g9,g10,g11⟩:=di b6.out.r;go_region
  all_goals
   clear aQ aN aJ c3 bF c5 bZ b' bU bg cH dR f0 f1 f2 f3 f4 f5 f6 f7 f8 f9 f10 f11 d0 d1 d2 d3 d4 d5 d6 d7 d8 d9 d10 d11 g0 g1 g2 g3 g4 g5 g6 g7 g8 g9 g10 g11;go_wp2_with fail;exact qN (W:=W) a' rfl (.inr rfl) rfl rfl rfl ⟨b6.out.r,b6.out.aX⟩ rfl rfl
 ·have a7:(rS.toList==[68,48,49])=false:=(by rw[eG];exact ey b1);by_cases cw:rS.data.toList=[68,48,50]
  ·have bf:(rS.toList==[68,48,50])=true:=(by rw[eG];exact eL cw);have bP:yu rS.data.toList=2:=(by unfold yu;rw[cw];rfl);have aA:=dn.out;rw[bP] at aA;have a':af (o=some {cI 7 with x:=gX.data.toList,y:=iT.data.toList,i:=np.data.toList,j:=vG.data.toList,n:=2}):=(by show _=_;rw[←aA];rfl);clear aA bP cw;obtain⟨⟨aQ,aN,aJ,c3,bF,c5,bZ,b',bU,bg,cH,dR⟩,f0,f1,f2,f3,f4,f5,f6,f7,f8,f9,f10,f11⟩:=di b6.out.p;have bT:af (rR w {cI 7 with x:=gX.data.toList,y:=iT.data.toList,i:=np.data.toList,j:=vG.data.toList,n:=2} (W.setCell (aj (w.heap.size+1) 2) (I 2))):=b6.out.put rfl;go_upto_region 13 with fail;clear aQ aN aJ c3 bF c5 bZ b' bU bg cH dR f0 f1 f2 f3 f4 f5 f6 f7 f8 f9 f10 f11 b6;generalize W.setCell (aj (w.heap.size+1) 2) (I 2)=W at bT⊢;have b6:=bT;clear bT;obtain⟨⟨aQ,aN,aJ,c3,bF,c5,bZ,b',bU,bg,cH,dR⟩,f0,f1,f2,f3,f4,f5,f6,f7,f8,f9,f10,f11⟩:=di b6.out.p;obtain⟨⟨d0,d1,d2,d3,d4,d5,d6,d7,d8,d9,d10,d11⟩,g0,g1,g2,g3,g4,g5,g6,g7,g8,g9,g10,g11⟩:=di b6.out.r;go_region
   all_goals
    clear aQ aN aJ c3 bF c5 bZ b' bU bg cH dR f0 f1 f2 f3 f4 f5 f6 f7 f8 f9 f10 f11 d0 d1 d2 d3 d4 d5 d6 d7 d8 d9 d10 d11 g0 g1 g2 g3 g4 g5 g6 g7 g8 g9 g10 g11;go_wp2_with fail;exact qN (W:=W) a' rfl (.inr rfl) rfl rfl rfl ⟨b6.out.r,b6.out.aX⟩ rfl rfl
  ·have bf:(rS.toList==[68,48,50])=false:=(by rw[eG];exact ey cw);by_cases ei:rS.data.toList=[68,48,51]
   ·have cM:(rS.toList==[68,48,51])=true:=(by rw[eG];exact eL ei);have bP:yu rS.data.toList=3:=(by unfold yu;rw[ei];rfl);have aA:=dn.out;rw[bP] at aA;have a':af (o=some {cI 7 with x:=gX.data.toList,y:=iT.data.toList,i:=np.data.toList,j:=vG.data.toList,n:=3}):=(by show _=_;rw[←aA];rfl);clear aA bP ei;obtain⟨⟨aQ,aN,aJ,c3,bF,c5,bZ,b',bU,bg,cH,dR⟩,f0,f1,f2,f3,f4,f5,f6,f7,f8,f9,f10,f11⟩:=di b6.out.p;have bT:af (rR w {cI 7 with x:=gX.data.toList,y:=iT.data.toList,i:=np.data.toList,j:=vG.data.toList,n:=3} (W.setCell (aj (w.heap.size+1) 2) (I 3))):=b6.out.put rfl;go_upto_region 13 with fail;clear aQ aN aJ c3 bF c5 bZ b' bU bg cH dR f0 f1 f2 f3 f4 f5 f6 f7 f8 f9 f10 f11 b6;generalize W.setCell (aj (w.heap.size+1) 2) (I 3)=W at bT⊢;have b6:=bT;clear bT;obtain⟨⟨aQ,aN,aJ,c3,bF,c5,bZ,b',bU,bg,cH,dR⟩,f0,f1,f2,f3,f4,f5,f6,f7,f8,f9,f10,f11⟩:=di b6.out.p;obtain⟨⟨d0,d1,d2,d3,d4,d5,d6,d7,d8,d9,d10,d11⟩,g0,g1,g2,g3,g4,g5,g6,g7,g8,g9,g10,g11⟩:=di b6.out.r;go_region
    all_goals
     clear aQ aN aJ c3 bF c5 bZ b' bU bg cH dR f0 f1 f2 f3 f4 f5 f6 f7 f8 f9 f10 f11 d0 d1 d2 d3 d4 d5 d6 d7 d8 d9 d10 d11 g0 g1 g2 g3 g4 g5 g6 g7 g8 g9 g10 g11;go_wp2_with fail;exact qN (W:=W) a' rfl (.inr rfl) rfl rfl rfl ⟨b6.out.r,b6.out.aX⟩ rfl rfl
   ·have cM:(rS.toList==[68,48,51])=false:=(by rw[eG];exact ey ei);have bP:yu rS.data.toList=0:=(by unfold yu;rw[aW b1,aW cw,aW ei]);have aA:=dn.out;rw[bP] at aA;have a':af (o=none):=(by show _=_;rw[←aA];rfl);clear aA bP b1 cw ei;go_upto_region 13 with fail;obtain⟨⟨aQ,aN,aJ,c3,bF,c5,bZ,b',bU,bg,cH,dR⟩,f0,f1,f2,f3,f4,f5,f6,f7,f8,f9,f10,f11⟩:=di b6.out.p;obtain⟨⟨d0,d1,d2,d3,d4,d5,d6,d7,d8,d9,d10,d11⟩,g0,g1,g2,g3,g4,g5,g6,g7,g8,g9,g10,g11⟩:=di b6.out.r;go_region
    all_goals
     clear aQ aN aJ c3 bF c5 bZ b' bU bg cH dR f0 f1 f2 f3 f4 f5 f6 f7 f8 f9 f10 f11 d0 d1 d2 d3 d4 d5 d6 d7 d8 d9 d10 d11 g0 g1 g2 g3 g4 g5 g6 g7 g8 g9 g10 g11;go_wp2_with fail;exact mL (W:=W) {cI 7 with x:=gX.data.toList,y:=iT.data.toList,i:=np.data.toList,j:=vG.data.toList} a' rfl (.inr rfl) rfl rfl rfl ⟨b6.out.r,b6.out.aX⟩ rfl rfl
end iS
