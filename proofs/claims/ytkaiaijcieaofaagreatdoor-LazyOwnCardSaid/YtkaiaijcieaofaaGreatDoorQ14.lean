/- Lemmas. -/
import Derived.Test.YtkaiaijcieaofaaGreatDoorQ8
import Derived.StillTailTactics
import Derived.RegionTactic
import Derived.BigRegion
set_option linter.all false
set_option maxRecDepth 100000
set_option maxHeartbeats 6400000
namespace Go.Proofs.YtkaiaijcieaofaaGreatDoor
abbrev O0:=@Proofs.Tryz.func114
abbrev O1:=@Proofs.Tryz.ntmps114
abbrev aar:=@List.isPrefixOf_iff_prefix
abbrev K5:=@decide_eq_true_iff
abbrev HB:=@Eq.symm
abbrev E4:=@UInt8.toNat.inj
abbrev aas:=@List.length_eq_zero_iff
abbrev xV:=@Proofs.Tryz.func115
abbrev xW:=@Proofs.Tryz.ntmps115
namespace gK
open Go.RowKit gI ga jz Mem hL cB
theorem h1{a b:Bool}(h:a=b):Ending.returned (U a)=ab (U b):=by rw[h]
variable{w:aeo}
theorem ba{v:aeo}{b:Nat}{o:Obj}(h:w.heap[b]?=some o)(ay:an w w v):v.heap[b]?=some o:=
 (ay.block b (Array.getElem?_eq_some_iff.1 h).1).trans h
variable{v:ada}{B aR n size:Nat}{e:aai}
theorem fY{w':aeo}{xs:aev}(h:w.ownsRow B e aR v n xs)(ay:an w w w'):w'.ownsRow B e aR v n xs:=
 h.kept (row:=none) ⟨ay.os,ay.tape,ay.output,ay.size,fun k aw _=>ay.block k aw⟩ (by cases v.ownBlock<;>simp)
theorem nP{t:aai}{xs:aev}(h:w.ownsRow B e aR v n xs){b:Nat}{cs:ajv}{dk:Nat×Nat}(ay:w.heap[b]?=some (.cells cs t dk))(he:e≠t):v.ownBlock≠some b:=by
 rcases h.2 with ⟨rfl,_⟩|⟨g,cap,cur,rfl,_,aE,_⟩
 ·simp[Value.ownBlock]
 ·intro ax;have:g=b:=(by simpa[Value.ownBlock] using ax);subst this;rw[ay] at aE;injection aE with aE;injection aE with _ bc;exact he bc.symm
theorem aat{C:Nat}{f:aai}{s1 s2 m:Nat}{u:ada}{xs ys:aev}(h:w.ownsRow B e s1 v n xs)(g:w.ownsRow C f s2 u m ys)(he:e≠f):u.ownBlock=none∨u.ownBlock≠v.ownBlock:=by
 rcases g.2 with ⟨rfl,_⟩|⟨k,cap,cur,rfl,_,aE,_⟩
 ·exact .inl rfl
 ·exact .inr (eN (nP h aE he))
theorem iw{xs:aev}(h:w.ownsRow B e aR v n xs):∃p cap,v=ad p n cap:=by
 rcases h.2 with ⟨rfl,rfl⟩|⟨g,cap,cur,rfl,_⟩
 ·exact⟨_,_,rfl⟩
 ·exact⟨_,_,rfl⟩
def TX(x:eR):List Value:=[I (x.a:Int),U x.ext,U x.first,aa ⟨x.t.toArray⟩]
def rI(l:List eR):List Value:=l.flatMap TX
theorem akY(l:List eR)(x:eR):rI (l++[x])=rI l++TX x:=by simp[rI]
abbrev CB(hq iC:ada)(a:Nat)(g:Bool)(i:Nat):Obj:=.cells #[hq,iC,I (a:Int),U g,I (i:Int)] 161
structure wJ(s:je):Prop where
 n0:s.words.length≤20000
 eG:s.text≠[]→s.words.length<20000
 fT:s.text.length≤10000
 n4:s.inner≤s.words.length
structure gS(B R:Nat)(hq iC:ada)(s:je)(w:aeo):Prop where
 ge:B≤R
 obj:w.heap[R]?=some (CB hq iC s.a s.group s.inner)
 ws:w.ownsRow B 125 4 hq s.words.length (rI s.words)
 tx:w.ownsRow B 5 1 iC s.text.length (su s.text)
theorem akZ(w:aeo)(R o:Nat)(u:ada):w.grownBy (w.setCell (aj R o) u) (some R):=
 ⟨rfl,rfl,rfl,by simp[World.setCell],fun k aw hne=>hC _ _ _ _ (fun e=>hne (fS some e))⟩
theorem tR{x:aeo}{base:Nat}{t:aai}{xs:aev}(h:x.ownsRow base e size v n xs){R o:Nat}{cs:ajv}{dk:Nat×Nat}(hR:x.heap[R]?=some (.cells cs t dk))(he:e≠t)(u:ada):(x.setCell (aj R o) u).ownsRow base e size v n xs:=
 h.kept (akZ x R o u) (.inr (nP h hR he))
theorem aau{x:aeo}{p:Ja}{cap:Nat}{xs:aev}(h:x.ownsRow B e size (ad p n cap) n xs):x.ownsRow B e size (ad p 0 cap) 0 []:=by
 rcases h.2 with ⟨au,ax⟩|⟨g,c,cur,au,ax,aA,bb,bj,b8,cY⟩
 ·refine⟨by simp,.inl ⟨?_,rfl⟩⟩;injection au with aY _ cV;rw[aY,cV]
 ·injection au with aY _ cV;subst aY;subst cV;exact⟨by simp,.inr ⟨g,cap,cur,rfl,ax,aA,cO _,bj,b8,by simp⟩⟩
section
variable{B R:Nat}{hq iC:ada}{s:je}{w w':aeo}
theorem gS.below(h:gS B R hq iC s w)(ay:an w w w'):gS B R hq iC s w':=
 ⟨h.ge,ba h.obj ay,fY h.ws ay,fY h.tx ay⟩
theorem gS.cells(h:gS B R hq iC s w):ak w R 0 hq∧ak w R 1 iC∧ak w R 2 (I (s.a:Int))∧ak w R 3 (U s.group)∧ak w R 4 (I (s.inner:Int)):=by have au:=h.obj;refine⟨?_,?_,?_,?_,?_⟩<;>simp[World.cell?,au]
theorem gS.dk(h:gS B R hq iC s w)(o:Nat):w.frozen? ⟨R,o,none⟩=false:=by have au:=h.obj;simp[World.frozen?,au]
theorem gS.lt(h:gS B R hq iC s w):R<w.heap.size:=(Array.getElem?_eq_some_iff.1 h.obj).1
theorem gS.at(h:gS B R hq iC s w)(a:Nat):gS B R hq iC {s with a:=a} (w.setCell (aj R 2) (I (a:Int))):=
 ⟨h.ge,by rw[ke h.obj];rfl,tR h.ws h.obj (by decide) _,tR h.tx h.obj (by decide) _⟩
theorem gS.RO(h:gS B R hq iC s w)(g:Bool):gS B R hq iC {s with group:=g} (w.setCell (aj R 3) (U g)):=
 ⟨h.ge,by rw[ke h.obj];rfl,tR h.ws h.obj (by decide) _,tR h.tx h.obj (by decide) _⟩
theorem gS.aav(h:gS B R hq iC s w)(i:Nat)(x:Int)(hx:(i:Int)=x):gS B R hq iC {s with inner:=i} (w.setCell (aj R 4) (I x)):=by subst hx;exact⟨h.ge,by rw[ke h.obj];rfl,tR h.ws h.obj (by decide) _,tR h.tx h.obj (by decide) _⟩
theorem gS.clear{p:Ja}{n cap:Nat}(h:gS B R hq (ad p n cap) s w)(hn:n=s.text.length):gS B R hq (ad p 0 cap) {s with text:=[]} (w.setCell (aj R 1) (ad p 0 cap)):=by
 subst hn;exact
 ⟨h.ge,by rw[ke h.obj];rfl,tR h.ws h.obj (by decide) _,tR (aau h.tx) h.obj (by decide) _⟩
variable{v':ada}
theorem gS.push{X bk:aeo}{x:eR}(h:gS B R hq iC s w)(b2:an w w X)(aI:X.grownBy bk hq.ownBlock)(a1:bk.ownsRow B 125 4 v' (s.words.length+1) (rI s.words++TX x))(bz:B≤w.heap.size):
  gS B R v' iC {s with words:=s.words++[x]} (bk.setCell (aj R 0) v')∧Below B w (bk.setCell (aj R 0) v')∧bk.heap[R]?=some (CB hq iC s.a s.group s.inner):=by
 have au:=h.below b2;have hR:bk.heap[R]?=some (CB hq iC s.a s.group s.inner):=(aI.block R au.lt (eN (nP au.ws au.obj (by decide)))).trans au.obj;have bc:=au.tx.kept aI (aat au.ws au.tx (by decide));refine⟨⟨h.ge,by rw[ke hR];rfl,?_,tR bc hR (by decide) _⟩,?_,hR⟩
 ·show World.ownsRow _ B _ 4 v' (s.words++[x]).length (rI (s.words++[x]));rw[akY,show (s.words++[x]).length=s.words.length+1 by simp];exact tR a1 hR (by decide) _
 ·exact (((b2.mono bz).grown aI (cd bz b2.size) (fun k aw=>(au.ws.lt _ aw).1))).setCell h.ge _
theorem gS.add{X bk:aeo}{c:UInt8}(h:gS B R hq iC s w)(b2:an w w X)(aI:X.grownBy bk iC.ownBlock)(a1:bk.ownsRow B 5 1 v' (s.text.length+1) (su s.text++[.int .u8 (c.toNat:Int)]))(bz:B≤w.heap.size):
  gS B R hq v' {s with text:=s.text++[c]} (bk.setCell (aj R 1) v')∧Below B w (bk.setCell (aj R 1) v')∧bk.heap[R]?=some (CB hq iC s.a s.group s.inner):=by
 have au:=h.below b2;have hR:bk.heap[R]?=some (CB hq iC s.a s.group s.inner):=(aI.block R au.lt (eN (nP au.tx au.obj (by decide)))).trans au.obj;have bc:=au.ws.kept aI (aat au.tx au.ws (by decide));refine⟨⟨h.ge,by rw[ke hR];rfl,tR bc hR (by decide) _,?_⟩,?_,hR⟩
 ·show World.ownsRow _ B _ 1 v' (s.text++[c]).length (su (s.text++[c]));rw[aiU,show (s.text++[c]).length=s.text.length+1 by simp];exact tR a1 hR (by decide) _
 ·exact (((b2.mono bz).grown aI (cd bz b2.size) (fun k aw=>(au.tx.lt _ aw).1))).setCell h.ge _
end
def aaw(B R:Nat)(w:aeo)(res:Except Nat je)(e:Ending)(w':aeo):Prop:=Below B w w'∧match res with
 |.ok s'=>e=ab (I 0)∧wJ s'∧∃hq iC,gS B R hq iC s' w'
 |.error k=>e=ab (I (k:Int))
theorem aax:(Tryz.prog.info? 125).map (fun i=>(i.zero,i.size,i.bytes))=some (some (.agg #[I 0,U false,U false,aa ⟨#[]⟩]),4,32):=by kernel_rfl
theorem aay:(Tryz.prog.info? 5).map (fun i=>(i.zero,i.size,i.bytes))=some (some (.int .u8 0),1,1):=by kernel_rfl
end gK
namespace gK
open Go.RowKit gI ga jz Mem hL cB
theorem o0(S:Ua):(⟨S.data.toList.toArray⟩:Ua)=S:=rfl
theorem CC(S:Ua)(k:Nat):(S.extract 0 k).data.toList=S.data.toList.take k:=by rw[AE];simp
theorem Km(s:Ua)(a k:Nat):(s.extract a k).data.toList=(s.data.toList.take k).drop a:=by rw[AE,D0]
theorem pK(S:Ua)(hs:S.size≤maxLen)(n:Nat)(hn:af (bK S.data.toList=n))(w:aeo):
  Calls Tryz.prog 151 #[aa S] w fun e w'=>e=ab (I (n:Int))∧w=w':=by
 have ou:=ao hs;unfold maxLen at hs;go_enter Tryz.func151,Tryz.ntmps151;go_wp2_with fail
 go_loop [3] (fun i=>∃k:Nat,af (k≤bK S.data.toList)∧i=I (k:Int)) (fun i=>S.size -(intOf i).toNat)
 case atStart=>exact⟨0,cO _,rfl⟩
 case round=>
  obtain⟨k,en,rfl⟩:=hrel;have kL:k≤S.size:=(by have au:=r1 S.data.toList;have:=en.out;rw[ch] at au;omega);by_cases bm:k<S.size
  ·have K6:k<S.data.toList.length:=(by rw[ch];exact bm);have fD:(k:Int)<(S.size:Int):=(by omega);by_cases hd:48≤S[k].toNat∧S[k].toNat≤57
   ·have bd:af (k+1≤bK S.data.toList):=No en.out K6 (by rw[oo S k bm];exact (sZ _).2 hd);obtain⟨gL,hE⟩:=hd;go_wp2_with fail;go_round
    case rel=>exact⟨k+1,bd,by go_num⟩
    case measure=>simp[intOf];omega
   ·have bd:af (k=n):=(by show _=_;rw[←hn.out];exact (Jq en.out K6 (by rw[oo S k bm];exact (Jp _).2 (by omega))).symm);by_cases au:48≤S[k].toNat
    ·have ax:¬S[k].toNat≤57:=fun h=>hd ⟨au,h⟩;go_wp2_with fail;go_ret;exact⟨sw (by rw[bd.out]),rfl⟩
    ·go_wp2_with fail;go_ret;exact⟨sw (by rw[bd.out]),rfl⟩
  ·have bd:af (k=n):=(by show _=_;rw[←hn.out];have au:=r1 S.data.toList;have:=en.out;rw[ch] at au;omega);have fD:¬((k:Int)<(S.size:Int)):=(by omega);go_wp2_with fail;go_ret;exact⟨sw (by rw[bd.out]),rfl⟩
def K7(o:Option Nat)(e:Ending):Prop:=e=ab (.tuple #[I ((o.getD 0:Nat):Int),U o.isSome])
theorem GX(S:Ua)(hs:S.size≤maxLen)(o:Option Nat)(a1:af (Ae S.data.toList=o))(w:aeo):
  Calls Tryz.prog 114 #[aa S] w fun e w'=>K7 o e∧w=w':=by
 have ou:=ao hs;unfold maxLen at hs;have az:=a1.out;unfold Ae at az;rw[ch] at az;clear a1;obtain⟨n,hn⟩:=aq (bK S.data.toList);have oy:=ao hn;by_cases au:S.size<1
 ·rw[aW (.inl au)] at az;have bE:=ao az;have AW:(S.size:Int)<1:=(by omega);clear az;go_enter O0,O1;go_wp2_with fail;go_ret2;rw[←bE.out];exact⟨rfl,rfl⟩
 ·by_cases bb:4<S.size
  ·rw[aW (.inr (.inl bb))] at az;have bE:=ao az;have AW:¬(S.size:Int)<1:=(by omega);have ak0:4<(S.size:Int):=(by omega);clear az;go_enter O0,O1;go_wp2_with fail;go_ret2;rw[←bE.out];exact⟨rfl,rfl⟩
  ·have AW:¬(S.size:Int)<1:=(by omega);have ak0:¬4<(S.size:Int):=(by omega);by_cases eU:n=S.size
   ·rw[aN (by rw[hn];omega)] at az;have bE:=ao az;have TY:((n:Int) !=(S.size:Int))=false:=(by simp[eU]);clear az;go_enter O0,O1;go_wp2_with fail;with_reducible refine (pK S ou.out n oy _).mono ?_
    rintro e bt ⟨rfl,rfl⟩;go_wp2_with fail
    go_loop [4,23] (fun v i=>∃k:Nat,k≤S.size∧i=I (k:Int)∧v=I (val (S.data.toList.take k):Nat)) (fun _ i=>S.size -(intOf i).toNat)
    case atStart=>exact⟨0,cO _,rfl,rfl⟩
    case round=>
     obtain⟨k,aw,rfl,rfl⟩:=hrel;by_cases bm:k<S.size
     ·have kL:k<S.data.toList.length:=(by rw[ch];exact bm);have hd:48≤S[k].toNat∧S[k].toNat≤57:=(by have:=(Aa S.data.toList).1 k kL (by rw[oy.out];omega);rw[oo S k bm] at this;exact (sZ _).1 this);have aS:val (S.data.toList.take k)<10000:=hN (DK S.data.toList k (by rw[oy.out];omega)) (by have:=vK (n:=10) (by decide) (show k≤4 by omega);simpa using this);have bH:af (val (S.data.toList.take (k+1))=val (S.data.toList.take k) *10+(S[k].toNat-48)):=(by show _=_;rw[OE S k bm];exact Nl _ _);have fD:(k:Int)<(S.size:Int):=(by omega);obtain⟨gL,hE⟩:=hd;go_wp2_with fail;go_round
      case rel=>exact⟨k+1,by omega,by go_num,by rw[bH.out];go_num⟩
      case measure=>simp[intOf];omega
     ·have fD:¬((k:Int)<(S.size:Int)):=(by omega);have cM:af (S.data.toList.take k=S.data.toList):=sY (by rw[ch];omega);go_wp2_with fail;go_ret2;rw[←bE.out,cM.out];exact⟨rfl,rfl⟩
   ·rw[aW (.inr (.inr (by rw[hn];exact eU)))] at az;have bE:=ao az;have TY:((n:Int) !=(S.size:Int))=true:=(by simp;omega);clear az;go_enter O0,O1;go_wp2_with fail;with_reducible refine (pK S ou.out n oy _).mono ?_
    rintro e bt ⟨rfl,rfl⟩;go_wp2_with fail;go_ret2;rw[←bE.out];exact⟨rfl,rfl⟩
theorem qi(S P:Ua)(r:ar)(h:af (S.data.toList=P.data.toList++r))(w:aeo):
  Calls Tryz.prog 72 #[aa S,aa P] w fun e w'=>e=ab (.tuple #[aa ⟨r.toArray⟩,U true])∧w=w':=by
 have au:Lib.hasPrefix S.data.toList P.data.toList=true:=by rw[h.out];unfold Lib.hasPrefix;rw[aar];exact List.prefix_append _ _
 have ax:Lib.trimPrefix S.data.toList P.data.toList=r:=by unfold Lib.trimPrefix;rw[aW au,h.out,List.drop_left]
 refine (Tryz.strings_CutPrefix S P w).mono fun e w' ⟨he,hw⟩=>⟨?_,hw.symm⟩;rw[he,au,ax]
theorem CD(S P:Ua)(h:af (∀r,S.data.toList≠P.data.toList++r))(w:aeo):
  Calls Tryz.prog 72 #[aa S,aa P] w fun e w'=>e=ab (.tuple #[aa S,U false])∧w=w':=by
 have au:Lib.hasPrefix S.data.toList P.data.toList=false:=by rw[yC];unfold Lib.hasPrefix;intro hp;obtain⟨r,hr⟩:=List.isPrefixOf_iff_prefix.1 hp;exact h.out r hr.symm
 have ax:Lib.trimPrefix S.data.toList P.data.toList=S.data.toList:=by unfold Lib.trimPrefix;rw[au];rfl
 refine (Tryz.strings_CutPrefix S P w).mono fun e w' ⟨he,hw⟩=>⟨?_,hw.symm⟩;rw[he,au,ax,o0]
theorem xX(S P:Ua)(b:Bool)(h:af (decide (S.data.toList.take P.data.toList.length=P.data.toList)=b))(w:aeo):
  Calls Tryz.prog 106 #[aa S,aa P] w fun e w'=>e=ab (U b)∧w=w':=by
 refine (Tryz.strings_HasPrefix S P w).mono fun e w' ⟨he,hw⟩=>⟨?_,hw.symm⟩;rw[he,←h.out];refine h1 ?_;rw[yN,K5];unfold Lib.hasPrefix;rw[aar,List.prefix_iff_eq_take];exact⟨HB,HB⟩
theorem TZ{l p:ar}(h:l.take p.length=p):l=p++l.drop p.length:=by conv=>lhs;rw[←Gg p.length l,h]
theorem T0{l p:ar}(h:l.take p.length≠p):∀r,l≠p++r:=fun r hr=>h (by rw[hr];simp)
theorem T1(S:Ua)(hs:S.size≤maxLen)(o:Option Nat)(a1:af (tc S.data.toList=o))(w:aeo):
  Calls Tryz.prog 77 #[aa S] w fun e w'=>K7 o e∧w=w':=by
 have ou:=ao hs;unfold maxLen at hs;have az:=a1.out;unfold tc at az;rw[ch] at az;clear a1;by_cases au:S.size<2
 ·rw[aW (.inl au)] at az;have bE:=ao az;have AW:(S.size:Int)<2:=(by omega);clear az;go_enter Tryz.func77,Tryz.ntmps77;go_wp2_with fail;go_ret2;rw[←bE.out];exact⟨rfl,rfl⟩
 ·have AW:¬(S.size:Int)<2:=(by omega);have hp:0<S.size:=(by omega);have aE:=AF S hp;obtain⟨c,aB⟩:=aq (S[0]);have hd:S.data.toList.headD 0=c:=(by rw[aE,aB];rfl);rw[hd] at az;obtain⟨x,hx⟩:=aq (c.toNat:Int);clear aE hd;by_cases ik:c=48
  ·rw[aW (.inr ik)] at az;have bE:=ao az;have ak1:x=48:=(by rw[←hx,ik];rfl);clear az ik;go_enter Tryz.func77,Tryz.ntmps77;go_wp2_with fail;go_ret2;rw[←bE.out];exact⟨rfl,rfl⟩
  ·rw[aN (by intro h;rcases h with h|h;exact au h;exact ik h)] at az;have bE:=ao az;have ak1:(x==48)=false:=(by rw[yC];intro h;apply ik;apply E4;have:x=48:=(by simpa using h);show c.toNat=48;omega);clear az ik;go_enter Tryz.func77,Tryz.ntmps77;go_wp2_with fail;with_reducible refine (GX S ou.out o bE _).mono ?_
   rintro e bt ⟨he,rfl⟩;unfold K7 at he;subst he;go_wp2_with fail;go_ret2;exact⟨rfl,rfl⟩
def xJ(w w':aeo):Prop:=∃n,w'=w.drewN n
variable{w x W cZ:aeo}
theorem o4{w':aeo}(h:xJ w w'):an w w w':=by obtain⟨n,rfl⟩:=h;exact below_drewN (Below.refl _ _) n
theorem EB(S:Ua):(S.toList==[])=decide (S.size=0):=by rw[nj,yN,xl,K5,←ch,aas]
theorem HC{c:UInt8}{k:Nat}(aw:k<256)(h:c≠UInt8.ofNat k):((c.toNat:Int)==(k:Int))=false:=by
 rw[yC];intro he;apply h;apply E4;have:(c.toNat:Int)=(k:Int):=by simpa using he
 have ax:(UInt8.ofNat k).toNat=k:=by simp;omega
 rw[ax];omega
theorem O2(S:Ua)(hs:S.size≤1000000000)(c:UInt8)(A R:Ua)(h:af (nA S.data.toList c=(A.data.toList,R.data.toList)))(w:aeo):
  Calls Tryz.prog 115 #[aa S,aa ⟨#[c]⟩] w fun e w'=>e=ab (.tuple #[aa A,aa R])∧xJ w w':=by
 have ou:=ao hs;have aE:=h.out;unfold nA at aE;clear h;by_cases aB:S.data.toList≠[]∧S.data.toList.headD 0=c
 ·rw[aW aB] at aE;obtain⟨r,hr⟩:=aq (S.data.toList.drop 1);rw[hr] at aE
  have hS:S.data.toList=[c] ++r:=by
   cases aG:S.data.toList with
   |nil=>exact absurd aG aB.1
   |cons d q=>
    rw[aG] at aB hr;rw[←hr,←aB.2];rfl
  obtain⟨T,rfl⟩:=kd r;have bH:af (S.data.toList=(⟨#[c]⟩:Ua).data.toList++T.data.toList):=hS;have DZ:T.size+1=S.size:=(by have au:=fS List.length hS;rw[ch,fH,ch] at au;simp at au;omega);obtain⟨g,aI⟩:=aq (vO T.data.toList);rw[aI] at aE;obtain⟨n,hn⟩:=aq (bK (T.data.toList.drop g));rw[hn] at aE
  have EP:g≤1∧g≤T.size:=by
   rw[←aI,←ch];unfold vO;split
   ·rename_i aG;exact⟨aP _,List.length_pos_iff.2 aG.1⟩
   ·exact⟨cO _,cO _⟩
  have zk:g+n≤T.size:=(by have au:=r1 (T.data.toList.drop g);rw[hn,e8,ch] at au;omega);have wK:af (bK (T.extract g T.size).data.toList=n):=(by show _=_;rw[lX,hn]);have K8:(T.extract g T.size).size≤maxLen:=(by rw[←ch,lX,e8,ch];unfold maxLen;omega);have HD:=ao K8;have gf:=ao aE;have au4:T.size≤1000000000:=(by omega);obtain⟨EP,yQ⟩:=EP;clear aE aB hr hS K8 hn DZ;by_cases aF:T.size=0
  ·have CE:(T.toList==[])=true:=(by rw[EB];exact gx aF);have ES:g=0:=(by omega);subst ES;have jf:n=0:=(by omega);subst jf;have K9:af (bK T.data.toList=0):=(by have au:=wK.out;rw[lX] at au;exact au);have aE:=gf.out;rw[aW (.inl (by omega))] at aE;simp only[fg] at aE;obtain rfl:A=⟨#[]⟩:=lD aE.1.symm;obtain rfl:R=S:=lD aE.2.symm;clear aE gf aI aF;go_enter xV,xW;go_wp2_with fail;with_reducible refine (qi _ _ _ bH _).mono ?_
   rintro e bt ⟨rfl,rfl⟩;rw[o0];go_wp2_with fail;with_reducible refine (pK T (by unfold maxLen;omega) 0 (ao K9.out) _).mono ?_
   rintro e bt ⟨rfl,rfl⟩;go_wp2_with fail;go_ret2;exact⟨rfl,0,rfl⟩
  ·have CE:(T.toList==[])=false:=(by rw[EB];exact fJ aF);have hp:0<T.size:=(by omega);have T2:=AF T hp;obtain⟨d,hd⟩:=aq (T[0]);rw[hd] at T2;have E5:vO T.data.toList=if d=43∨d=45 then 1 else 0:=by rw[T2];unfold vO;simp
   rw[aI] at E5;clear T2 aI aF;by_cases Cg:d=43
   ·subst Cg;rw[aW (.inl rfl)] at E5;subst E5;have ak2:((43:UInt8).toNat:Int)=43:=rfl;by_cases fb:n<1∨12<n
    ·have aE:=gf.out;rw[aW fb] at aE;simp only[fg] at aE;obtain rfl:A=⟨#[]⟩:=lD aE.1.symm;obtain rfl:R=S:=lD aE.2.symm;clear aE gf;by_cases h2:(n:Int)<1
     ·clear fb;go_enter xV,xW;go_wp2_with fail;with_reducible refine (qi _ _ _ bH _).mono ?_
      rintro e bt ⟨rfl,rfl⟩;rw[o0];go_wp2_with fail;with_reducible refine (pK _ HD.out n wK _).mono ?_
      rintro e bt ⟨rfl,rfl⟩;go_wp2_with fail;go_ret2;exact⟨rfl,0,rfl⟩
     ·have E6:12<(n:Int):=(by omega);clear fb;go_enter xV,xW;go_wp2_with fail;with_reducible refine (qi _ _ _ bH _).mono ?_
      rintro e bt ⟨rfl,rfl⟩;rw[o0];go_wp2_with fail;with_reducible refine (pK _ HD.out n wK _).mono ?_
      rintro e bt ⟨rfl,rfl⟩;go_wp2_with fail;go_ret2;exact⟨rfl,0,rfl⟩
    ·have aE:=gf.out;rw[aN fb] at aE;simp only[fg] at aE;have cJ:af (T.extract 0 (1+n)=A):=lD (by rw[CC];exact aE.1);have aQ:af (T.extract (1+n) T.size=R):=lD (by rw[lX];exact aE.2);have h2:¬(n:Int)<1:=(by omega);have E6:¬12<(n:Int):=(by omega);have aaz:(n:Int)≤12:=(by omega);clear aE gf fb;go_enter xV,xW;go_wp2_with fail;with_reducible refine (qi _ _ _ bH _).mono ?_
     rintro e bt ⟨rfl,rfl⟩;rw[o0];go_wp2_with fail;with_reducible refine (pK _ HD.out n wK _).mono ?_
     rintro e bt ⟨rfl,rfl⟩;go_wp2_with fail
     go_quiet (fail)
     go_wp2_with fail;go_ret2;obtain rfl:=cJ.out;obtain rfl:=aQ.out;exact⟨rfl,_,rfl⟩
   ·by_cases O3:d=45
    ·subst O3;rw[aW (.inr rfl)] at E5;subst E5;have ak2:((45:UInt8).toNat:Int)=45:=rfl;by_cases fb:n<1∨12<n
     ·have aE:=gf.out;rw[aW fb] at aE;simp only[fg] at aE;obtain rfl:A=⟨#[]⟩:=lD aE.1.symm;obtain rfl:R=S:=lD aE.2.symm;clear aE gf;by_cases h2:(n:Int)<1
      ·clear fb;go_enter xV,xW;go_wp2_with fail;with_reducible refine (qi _ _ _ bH _).mono ?_
       rintro e bt ⟨rfl,rfl⟩;rw[o0];go_wp2_with fail;with_reducible refine (pK _ HD.out n wK _).mono ?_
       rintro e bt ⟨rfl,rfl⟩;go_wp2_with fail;go_ret2;exact⟨rfl,0,rfl⟩
      ·have E6:12<(n:Int):=(by omega);clear fb;go_enter xV,xW;go_wp2_with fail;with_reducible refine (qi _ _ _ bH _).mono ?_
       rintro e bt ⟨rfl,rfl⟩;rw[o0];go_wp2_with fail;with_reducible refine (pK _ HD.out n wK _).mono ?_
       rintro e bt ⟨rfl,rfl⟩;go_wp2_with fail;go_ret2;exact⟨rfl,0,rfl⟩
     ·have aE:=gf.out;rw[aN fb] at aE;simp only[fg] at aE;have cJ:af (T.extract 0 (1+n)=A):=lD (by rw[CC];exact aE.1);have aQ:af (T.extract (1+n) T.size=R):=lD (by rw[lX];exact aE.2);have h2:¬(n:Int)<1:=(by omega);have E6:¬12<(n:Int):=(by omega);have aaz:(n:Int)≤12:=(by omega);clear aE gf fb;go_enter xV,xW;go_wp2_with fail;with_reducible refine (qi _ _ _ bH _).mono ?_
      rintro e bt ⟨rfl,rfl⟩;rw[o0];go_wp2_with fail;with_reducible refine (pK _ HD.out n wK _).mono ?_
      rintro e bt ⟨rfl,rfl⟩;go_wp2_with fail
      go_quiet (fail)
      go_wp2_with fail;go_ret2;obtain rfl:=cJ.out;obtain rfl:=aQ.out;exact⟨rfl,_,rfl⟩
    ·rw[aN (by intro h;rcases h with h|h;exact Cg h;exact O3 h)] at E5;subst E5;have K9:af (bK T.data.toList=n):=(by have au:=wK.out;rw[lX] at au;exact au);have au5:((d.toNat:Int)==43)=false:=HC (k:=43) (by decide) Cg;have au6:((d.toNat:Int)==45)=false:=HC (k:=45) (by decide) O3;clear Cg O3;by_cases fb:n<1∨12<n
     ·have aE:=gf.out;rw[aW fb] at aE;simp only[fg] at aE;obtain rfl:A=⟨#[]⟩:=lD aE.1.symm;obtain rfl:R=S:=lD aE.2.symm;clear aE gf;by_cases h2:(n:Int)<1
      ·clear fb;go_enter xV,xW;go_wp2_with fail;with_reducible refine (qi _ _ _ bH _).mono ?_
       rintro e bt ⟨rfl,rfl⟩;rw[o0];go_wp2_with fail;with_reducible refine (pK T (by unfold maxLen;omega) n K9 _).mono ?_
       rintro e bt ⟨rfl,rfl⟩;go_wp2_with fail;go_ret2;exact⟨rfl,0,rfl⟩
      ·have E6:12<(n:Int):=(by omega);clear fb;go_enter xV,xW;go_wp2_with fail;with_reducible refine (qi _ _ _ bH _).mono ?_
       rintro e bt ⟨rfl,rfl⟩;rw[o0];go_wp2_with fail;with_reducible refine (pK T (by unfold maxLen;omega) n K9 _).mono ?_
       rintro e bt ⟨rfl,rfl⟩;go_wp2_with fail;go_ret2;exact⟨rfl,0,rfl⟩
     ·have aE:=gf.out;rw[aN fb] at aE;simp only[fg] at aE;have cJ:af (T.extract 0 n=A):=lD (by rw[CC];have:=aE.1;rwa [jt] at this);have aQ:af (T.extract n T.size=R):=lD (by rw[lX];have:=aE.2;rwa [jt] at this);have h2:¬(n:Int)<1:=(by omega);have E6:¬12<(n:Int):=(by omega);have aaz:(n:Int)≤12:=(by omega);clear aE gf fb;go_enter xV,xW;go_wp2_with fail;with_reducible refine (qi _ _ _ bH _).mono ?_
      rintro e bt ⟨rfl,rfl⟩;rw[o0];go_wp2_with fail;with_reducible refine (pK T (by unfold maxLen;omega) n K9 _).mono ?_
      rintro e bt ⟨rfl,rfl⟩;go_wp2_with fail
      go_quiet (fail)
      go_wp2_with fail;go_ret2;obtain rfl:=cJ.out;obtain rfl:=aQ.out;exact⟨rfl,_,rfl⟩
 ·rw[aN aB] at aE;simp only[fg] at aE;obtain rfl:A=⟨#[]⟩:=lD aE.1.symm;obtain rfl:R=S:=lD aE.2.symm;have bd:af (∀r,R.data.toList≠(⟨#[c]⟩:Ua).data.toList++r):=(by intro r hr;apply aB;rw[hr];exact⟨by simp,rfl⟩);clear aE aB;go_enter xV,xW;go_wp2_with fail;with_reducible refine (CD _ _ bd _).mono ?_
  rintro e bt ⟨rfl,rfl⟩;go_wp2_with fail;go_ret2;exact⟨rfl,0,rfl⟩
def xY(j:Nat)(c:UInt8):Bool:=NC c ||(decide (0<j)&&RN c)
theorem ak3(l:ar)(au:1≤l.length)(ax:l.length≤100):td l=true↔∀j (h:j<l.length),xY j l[j]=true:=by
 cases l with
 |nil=>simp at au
 |cons c r=>
  unfold td;rw[gx au,gx ax];simp only[Gp,List.headD_cons,Ce,wu,qv,List.all_eq_true];constructor
  ·rintro⟨ha,ay⟩ j b6;cases j with
   |zero=>unfold xY;simp[ha]
   |succ j=>
    have:=ay (r[j]'(by simpa using b6)) (k3 _);unfold xY;simpa using this
  ·intro h;refine⟨?_,fun x hx=>?_⟩
   ·have:=h 0 (by simp);unfold xY at this;simpa using this
   ·obtain⟨j,b6,rfl⟩:=List.getElem_of_mem hx;have:=h (j+1) (by simpa using b6);unfold xY at this;simpa using this
theorem ak4(j:Nat)(c:UInt8)(x:Int)(hx:(c.toNat:Int)=x):xY j c=((decide (97≤x)&&decide (x≤122))||(decide (65≤x)&&decide (x≤90))|| decide (x=95)|| decide (x=46)|| decide (x=36)||(decide (0<j)&&((decide (48≤x)&&decide (x≤57))|| decide (x=45)))):=by
 have au:∀k:Nat,k<256→(c==UInt8.ofNat k)=decide (x=(k:Int)):=by
  intro k aw;rw[yN,xl,K5,←hx];constructor
  ·intro h;rw[h];simp;omega
  ·intro h;apply E4;simp;omega
 have ax:∀k:Nat,decide (k≤c.toNat)=decide ((k:Int)≤x):=by intro k;rw[decide_eq_decide,←hx];omega
 have aA:∀k:Nat,decide (c.toNat≤k)=decide (x≤(k:Int)):=by intro k;rw[decide_eq_decide,←hx];omega
 unfold xY NC RN fi;rw[ax,aA,ax,aA,ax,aA,show (c==95)=_ from au 95 (by decide),show (c==46)=_ from au 46 (by decide),show (c==36)=_ from au 36 (by decide),show (c==45)=_ from au 45 (by decide)];rfl
theorem aaA(S:Ua)(hs:S.size≤maxLen)(b:Bool)(ay:af (td S.data.toList=b))(w:aeo):
    Calls Tryz.prog 74 #[aa S] w fun e w'=>e=ab (U b)∧w=w':=by
  unfold maxLen at hs;by_cases au:(S.size:Int)<1
  · have aH:af (false=b):=by show _=_;rw[←ay.out];unfold td;rw[ch,fJ (show ¬1≤S.size by omega)];rfl
    go_enter Tryz.func74,Tryz.ntmps74;go_wp2_with fail;go_ret;exact⟨h1 aH.out,rfl⟩
  · by_cases ax:100<(S.size:Int)
    · have aH:af (false=b):=by show _=_;rw[←ay.out];unfold td;rw[ch,fJ (show ¬S.size≤100 by omega)];simp
      go_enter Tryz.func74,Tryz.ntmps74;go_wp2_with fail;go_ret;exact⟨h1 aH.out,rfl⟩
    · have bL:af (td S.data.toList=true↔∀j (h:j<S.data.toList.length),xY j S.data.toList[j]=true):=ak3 _ (by rw[ch];omega) (by rw[ch];omega)
      go_enter Tryz.func74,Tryz.ntmps74;go_wp2_with fail
      go_loop [15] (fun i=>∃k:Nat,k≤S.size∧af (∀j (h:j<S.data.toList.length),j<k→xY j S.data.toList[j]=true)∧i=I (k:Int)) (fun i=>S.size -(intOf i).toNat)
      case atStart=>exact⟨0,cO _,fun j _ h=>absurd h (lS _),rfl⟩
      case round=>
        obtain⟨k,aw,en,rfl⟩:=hrel;by_cases bm:k<S.size
        · have kL:k<S.data.toList.length:=by rw[ch];exact bm
          have fD:(k:Int)<(S.size:Int):=(by omega);obtain⟨x,hx⟩:∃x,(S[k].toNat:Int)=x:=⟨_,rfl⟩;obtain⟨sy,ve⟩:∃sy,xY k S[k]=sy:=⟨_,rfl⟩;have pL:=ve;rw[ak4 k S[k] x hx] at pL
          have hh:af (sy=true→∀j (h:j<S.data.toList.length),j<k+1→xY j S.data.toList[j]=true):=by
            intro bc j b6 Et;by_cases ak5:j=k
            · subst ak5;rw[oo S j bm,ve,bc]
            · exact en.out j b6 (by omega)
          have cG:af (sy=false→false=b):=(by intro hf;rw[←ay.out];refine (Bool.eq_false_iff.2 fun hn=>?_).symm;have:=bL.out.1 hn k kL;rw[oo S k bm,ve,hf] at this;cases this);clear ve;have gX:(97≤x∧x≤122)∨(123≤x)∨(x=96)∨(x=95)∨(91≤x∧x≤94)∨(65≤x∧x≤90)∨(58≤x∧x≤64)∨(48≤x∧x≤57)∨(x=47)∨(x=46)∨(x=45)∨(37≤x∧x≤44)∨(x=36)∨(x≤35):=(by omega);rcases gX with gX|gX|gX|gX|gX|gX|gX|gX|gX|gX|gX|gX|gX|gX
          all_goals
            first|have ho:97≤x:=by omega|have ho:¬97≤x:=by omega
            first|have fx:x≤122:=by omega|have fx:¬x≤122:=by omega
            first|have df:65≤x:=by omega|have df:¬65≤x:=by omega
            first|have yP:x≤90:=by omega|have yP:¬x≤90:=by omega
            first|have Eb:48≤x:=by omega|have Eb:¬48≤x:=by omega
            first|have Ec:x≤57:=by omega|have Ec:¬x≤57:=by omega
            first|have ak6:(x==95)=true:=by rw[xl];omega|have ak6:(x==95)=false:=by rw[fO];omega
            first|have ak7:(x==46)=true:=by rw[xl];omega|have ak7:(x==46)=false:=by rw[fO];omega
            first|have ak8:(x==36)=true:=by rw[xl];omega|have ak8:(x==36)=false:=by rw[fO];omega
            first|have ak9:(x==45)=true:=by rw[xl];omega|have ak9:(x==45)=false:=by rw[fO];omega
            by_cases jY:0<(k:Int)
            all_goals first
              | (have K':sy=true:=by rw[←pL];simp only[Bool.or_eq_true,qv,K5];omega
                 have gW:=ao (hh.out K');clear pL gX K' hh cG;go_wp2_with fail;go_round<;>first|exact⟨k+1,by omega,gW.out,by go_num⟩|(simp[intOf]<;>omega))
              | (have K':sy=false:=by rw[←pL,yC];intro h;simp only[Bool.or_eq_true,qv,K5] at h;omega
                 have aH:=ao (cG.out K');clear pL gX K' hh cG;go_wp2_with fail;go_ret;exact⟨h1 aH.out,rfl⟩)
        · have aH:af (true=b):=by show _=_;rw[←ay.out];refine (bL.out.2 fun j b6=>en.out j b6 ?_).symm;rw[ch] at b6;omega
          have fD:¬((k:Int)<(S.size:Int)):=(by omega);go_wp2_with fail;go_ret;exact⟨h1 aH.out,rfl⟩
def dd(B:Nat)(w:aeo)(p:Ja)(l:List Int):Prop:=0<l.length→∃(b o:Nat) (cs:ajv),p=some ⟨b,o,none⟩∧B≤b∧al w b cs 2∧∀i (hi:i<l.length),cs[o+i]?=some (I l[i])
theorem dd.nil(B:Nat)(w:aeo)(p:Ja):dd B w p []:=fun h=>absurd h (mi _)
variable{l:List Int}{p:Ja}{B b:Nat}
theorem dd.below{w':aeo}(h:dd B w p l)(ay:an w w w'):dd B w' p l:=by intro az;obtain⟨b,o,cs,rfl,bz,aE,aB⟩:=h az;exact⟨b,o,cs,rfl,bz,ba aE ay,aB⟩
theorem dd.mono{D:Nat}(h:dd B w p l)(b4:D≤B):dd D w p l:=by intro az;obtain⟨b,o,cs,rfl,bz,aE,aB⟩:=h az;exact⟨b,o,cs,rfl,cd b4 bz,aE,aB⟩
abbrev cA:Value:=J 0
def iN(c:C)(a:Int)(bF bv:ada):Array Value:= #[I a,I c.k,I c.n,I c.m,U c.on,aa ⟨c.t.toArray⟩,aa ⟨c.x.toArray⟩,aa ⟨c.y.toArray⟩,aa ⟨c.i.toArray⟩,aa ⟨c.j.toArray⟩,bF,bv]
abbrev iO(c:C)(a:Int)(bF bv:ada):Value:=.agg (iN c a bF bv)
abbrev tS(c:C)(a:Int)(bF bv:ada):Obj:=.cells (iN c a bF bv) 92
def CF(o:Option C)(w:aeo)(e:Ending)(w':aeo):Prop:=Below w.heap.size w w'∧∃(c:C) (p:Ja) (k:Nat),
 e=ab (.tuple #[iO c 0 (ad p c.bX.length k) cA,U o.isSome])∧dd w.heap.size w' p c.bX∧c.blocks=[]∧∀d,o=some d→d=c
variable{v0 v1 v2 v3 v4 v5 v6 bS b0 v9 v10 v11:ada}{t:aai}
theorem fc(h:al x b (#[v0,v1,v2,v3,v4,v5,v6,bS,b0,v9,v10,v11]) t):
  (ak x b 0 v0∧ak x b 1 v1∧ak x b 2 v2∧ak x b 3 v3∧ak x b 4 v4∧ak x b 5 v5∧ak x b 6 v6∧ak x b 7 bS∧ak x b 8 b0∧ak x b 9 v9∧ak x b 10 v10∧ak x b 11 v11)∧
  (x.frozen? ⟨b,0,none⟩=false∧x.frozen? ⟨b,1,none⟩=false∧x.frozen? ⟨b,2,none⟩=false∧x.frozen? ⟨b,3,none⟩=false∧x.frozen? ⟨b,4,none⟩=false∧x.frozen? ⟨b,5,none⟩=false∧x.frozen? ⟨b,6,none⟩=false∧x.frozen? ⟨b,7,none⟩=false∧x.frozen? ⟨b,8,none⟩=false∧x.frozen? ⟨b,9,none⟩=false∧x.frozen? ⟨b,10,none⟩=false∧x.frozen? ⟨b,11,none⟩=false):=by
 refine⟨⟨?_,?_,?_,?_,?_,?_,?_,?_,?_,?_,?_,?_⟩,?_,?_,?_,?_,?_,?_,?_,?_,?_,?_,?_,?_⟩<;>simp[World.cell?,World.frozen?,h]
def sA(w:aeo)(b:Nat)(c:C)(a:Int)(bF bv:ada):World:=
 (((((((((((w.setCell (aj b 0) (I a)).setCell (aj b 1) (I c.k)).setCell (aj b 2) (I c.n)).setCell (aj b 3) (I c.m)).setCell (aj b 4) (U c.on)).setCell (aj b 5) (aa ⟨c.t.toArray⟩)).setCell (aj b 6) (aa ⟨c.x.toArray⟩)).setCell (aj b 7) (aa ⟨c.y.toArray⟩)).setCell (aj b 8) (aa ⟨c.i.toArray⟩)).setCell (aj b 9) (aa ⟨c.j.toArray⟩)).setCell (aj b 10) (bF)).setCell (aj b 11) (bv)
theorem Hl(h:al x b (#[v0,v1,v2,v3,v4,v5,v6,bS,b0,v9,v10,v11]) t)(u:ada):(x.setCell (aj b 0) u).heap[b]?=some (.cells #[u,v1,v2,v3,v4,v5,v6,bS,b0,v9,v10,v11] t):=ke h 0 u
theorem Kn(h:al x b (#[v0,v1,v2,v3,v4,v5,v6,bS,b0,v9,v10,v11]) t)(u:ada):(x.setCell (aj b 1) u).heap[b]?=some (.cells #[v0,u,v2,v3,v4,v5,v6,bS,b0,v9,v10,v11] t):=ke h 1 u
theorem Ko(h:al x b (#[v0,v1,v2,v3,v4,v5,v6,bS,b0,v9,v10,v11]) t)(u:ada):(x.setCell (aj b 2) u).heap[b]?=some (.cells #[v0,v1,u,v3,v4,v5,v6,bS,b0,v9,v10,v11] t):=ke h 2 u
theorem Kp(h:al x b (#[v0,v1,v2,v3,v4,v5,v6,bS,b0,v9,v10,v11]) t)(u:ada):(x.setCell (aj b 3) u).heap[b]?=some (.cells #[v0,v1,v2,u,v4,v5,v6,bS,b0,v9,v10,v11] t):=ke h 3 u
theorem Kq(h:al x b (#[v0,v1,v2,v3,v4,v5,v6,bS,b0,v9,v10,v11]) t)(u:ada):(x.setCell (aj b 4) u).heap[b]?=some (.cells #[v0,v1,v2,v3,u,v5,v6,bS,b0,v9,v10,v11] t):=ke h 4 u
theorem Kr(h:al x b (#[v0,v1,v2,v3,v4,v5,v6,bS,b0,v9,v10,v11]) t)(u:ada):(x.setCell (aj b 5) u).heap[b]?=some (.cells #[v0,v1,v2,v3,v4,u,v6,bS,b0,v9,v10,v11] t):=ke h 5 u
theorem Ks(h:al x b (#[v0,v1,v2,v3,v4,v5,v6,bS,b0,v9,v10,v11]) t)(u:ada):(x.setCell (aj b 6) u).heap[b]?=some (.cells #[v0,v1,v2,v3,v4,v5,u,bS,b0,v9,v10,v11] t):=ke h 6 u
theorem Kt(h:al x b (#[v0,v1,v2,v3,v4,v5,v6,bS,b0,v9,v10,v11]) t)(u:ada):(x.setCell (aj b 7) u).heap[b]?=some (.cells #[v0,v1,v2,v3,v4,v5,v6,u,b0,v9,v10,v11] t):=ke h 7 u
theorem Ku(h:al x b (#[v0,v1,v2,v3,v4,v5,v6,bS,b0,v9,v10,v11]) t)(u:ada):(x.setCell (aj b 8) u).heap[b]?=some (.cells #[v0,v1,v2,v3,v4,v5,v6,bS,u,v9,v10,v11] t):=ke h 8 u
theorem Kv(h:al x b (#[v0,v1,v2,v3,v4,v5,v6,bS,b0,v9,v10,v11]) t)(u:ada):(x.setCell (aj b 9) u).heap[b]?=some (.cells #[v0,v1,v2,v3,v4,v5,v6,bS,b0,u,v10,v11] t):=ke h 9 u
theorem aaB(h:al x b (#[v0,v1,v2,v3,v4,v5,v6,bS,b0,v9,v10,v11]) t)(u:ada):(x.setCell (aj b 10) u).heap[b]?=some (.cells #[v0,v1,v2,v3,v4,v5,v6,bS,b0,v9,u,v11] t):=ke h 10 u
theorem aaC(h:al x b (#[v0,v1,v2,v3,v4,v5,v6,bS,b0,v9,v10,v11]) t)(u:ada):(x.setCell (aj b 11) u).heap[b]?=some (.cells #[v0,v1,v2,v3,v4,v5,v6,bS,b0,v9,v10,u] t):=ke h 11 u
theorem ala{gh:aeo}(ay:an w w gh)(hr:al gh w.heap.size (#[v0,v1,v2,v3,v4,v5,v6,bS,b0,v9,v10,v11]) 92)(c:C)(a:Int)(bF bv:ada):
  (sA gh w.heap.size c a bF bv).heap[w.heap.size]?=some (tS c a bF bv)∧an w w (sA gh w.heap.size c a bF bv):=by
 refine⟨(aaC (aaB (Kv (Ku (Kt (Ks (Kr (Kq (Kp (Ko (Kn (Hl hr _) _) _) _) _) _) _) _) _) _) _) _),?_⟩;unfold sA;exact ((((((((((((ay.setCell (aP _) _).setCell (aP _) _).setCell (aP _) _).setCell (aP _) _).setCell (aP _) _).setCell (aP _) _).setCell (aP _) _).setCell (aP _) _).setCell (aP _) _).setCell (aP _) _).setCell (aP _) _).setCell (aP _) _)
theorem T3(w:aeo){d:Nat}(h:d≠b)(c:C)(a:Int)(bF bv:ada):(sA w b c a bF bv).heap[d]?=w.heap[d]?:=by have key:∀(w:aeo) (i:Nat) (u:ada),(w.setCell (aj b i) u).heap[d]?=w.heap[d]?:=fun w i u=>hC _ _ _ _ h;unfold sA;rw[key,key,key,key,key,key,key,key,key,key,key,key]
theorem alb(ay:b<B)(h:dd B w p l)(c:C)(a:Int)(bF bv:ada):dd B (sA w b c a bF bv) p l:=by intro az;obtain⟨d,o,cs,rfl,bz,aE,aB⟩:=h az;exact⟨d,o,cs,rfl,bz,(T3 w (by omega) c a bF bv).trans aE,aB⟩
abbrev AX:Obj:=.cells #[I 0,I 0,I 0,I 0,U false,aa ⟨#[]⟩,aa ⟨#[]⟩,aa ⟨#[]⟩,aa ⟨#[]⟩,aa ⟨#[]⟩,J 0,J 0] 92
structure kt(w W:aeo):Prop where
 a:W.heap[w.heap.size]?=some AX
 b:an w w W
theorem kt.below{jN:aeo}(h:kt w W)(ay:an W W jN):kt w jN:=⟨ba h.a ay,h.b.trans (ay.mono h.b.size)⟩
theorem va(w:aeo):kt w (w.alloc AX):=⟨dL w _,(Below.refl _ _).alloc (aP _) _⟩
theorem hZ(S:Ua)(L:ar):(S.toList==L)=decide (S.data.toList=L):=by rw[nj,yN,xl,p0]
theorem O4(s:Ua)(v:Int)(b:Bool)(aS:af ((dec s.data.toList).getD 0=v∧(dec s.data.toList).isSome=b))(hs:s.size≤maxLen)(w:aeo):
  Calls Tryz.prog 112 #[aa s] w fun e w'=>e=ab (.tuple #[I v,U b])∧w=w':=by
 obtain⟨au,ax⟩:=aS.out;subst au;subst ax;exact Hi s w hs
variable{fn:Func}{u:Tmp}
theorem aaD{P:Program}{p:Tmp}{ty:aai}(h:fn.results= #[.cell p ty,.tmp u])(tmps:ajv)(w:aeo)(g:Nat)(t:aai)(cs:ajv)(fr:Nat×Nat)(d:TypeDesc)
  (hp:tmps.getD p undef=.pointer (some (aj g 0))) (aI:w.heap[g]?=some (.cells cs t fr))
  (hu:P.underlying ty=some d) (hd:(match d with|.struct _|.array _ _=>true|_=>false)=true) (hi:(P.info? ty).map (·.size)=some cs.size):
  (results fn tmps).run P w=.ok (.tuple #[.agg cs,tmps.getD u undef]) w:=by
 rw[results_cell_tmp h,hp];simp only[asAddr,JC,Ak,run_loadVar_row w g t ty cs fr d aI hu hd hi]
variable{fr:Act}
theorem E7{p:Tmp}{Q:Ending→aeo→Prop}(D:C)(bF:ada)(h:fn.results= #[.cell p 92,.tmp u])(cP:cZ=sA W w.heap.size D 0 bF cA∨cZ=(sA W w.heap.size D 0 bF cA).drew)(hp:fr.tmps.getD p undef=.pointer (some (aj w.heap.size 0)))(hd:fr.defers=[])(ha:al W w.heap.size (#[v0,v1,v2,v3,v4,v5,v6,bS,b0,v9,v10,v11]) 92)(ay:an w w W)(k:an w w cZ→Q (ab (.tuple #[iO D 0 bF cA,fr.tmps.getD u undef])) cZ):bodyPost Tryz.prog fn Q Exit.ret fr cZ:=by
 have aJ:=ala ay ha D 0 bF cA;rcases cP with rfl|rfl
 ·exact cL (aaD h _ _ w.heap.size _ _ _ _ hp aJ.1 Tryz.underlying92 rfl (by kernel_rfl)) hd (k aJ.2)
 ·exact cL (aaD h _ _ w.heap.size _ _ _ _ hp (ba aJ.1 (Below.refl _ _).drew) Tryz.underlying92 rfl (by kernel_rfl)) hd (k aJ.2.drew)
theorem vh{p:Tmp}{o:Option C}{D:C}(bn:af (o=some D))(h:fn.results= #[.cell p 92,.tmp u])(cP:cZ=sA W w.heap.size D 0 cA cA∨cZ=(sA W w.heap.size D 0 cA cA).drew)(hp:fr.tmps.getD p undef=.pointer (some (aj w.heap.size 0)))(hu:fr.tmps.getD u undef=U true)(hd:fr.defers=[])(aU:kt w W)(hn:D.bX=[])(aw:D.blocks=[]):bodyPost Tryz.prog fn (CF o w) Exit.ret fr cZ:=by
 refine E7 D cA h cP hp hd aU.a aU.b fun ay=>⟨ay,D,none,0,?_,by rw[hn];exact dd.nil _ _ _,aw,?_⟩
 ·rw[hu,bn.out,hn];rfl
 ·rw[bn.out];intro e he;exact (wi he).symm
theorem pM{p:Tmp}{o:Option C}(D:C)(bn:af (o=none))(h:fn.results= #[.cell p 92,.tmp u])(cP:cZ=sA W w.heap.size D 0 cA cA∨cZ=(sA W w.heap.size D 0 cA cA).drew)(hp:fr.tmps.getD p undef=.pointer (some (aj w.heap.size 0)))(hu:fr.tmps.getD u undef=U false)(hd:fr.defers=[])(aU:kt w W)(hn:D.bX=[])(aw:D.blocks=[]):bodyPost Tryz.prog fn (CF o w) Exit.ret fr cZ:=by
 refine E7 D cA h cP hp hd aU.a aU.b fun ay=>⟨ay,D,none,0,?_,by rw[hn];exact dd.nil _ _ _,aw,?_⟩
 ·rw[hu,bn.out,hn];rfl
 ·rw[bn.out];intro e he;cases he
theorem T4(t:ar)(c:UInt8):(nA t c).2.length≤t.length:=by
 unfold nA;split
 ·split
  ·exact aP _
  ·rw[e8,e8];omega
 ·exact aP _
structure vi(w0:aeo)(c:C)(W:aeo):Prop where
 r:W.heap[w0.heap.size]?=some AX
 p:W.heap[w0.heap.size+1]?=some (tS c 0 cA cA)
 aM:an w0 w0 W
theorem vi.below{w0 jN:aeo}{c:C}(h:vi w0 c W)(ay:an W W jN):vi w0 c jN:=⟨ba h.r ay,ba h.p ay,h.aM.trans (ay.mono h.aM.size)⟩
theorem vi.put{w0:aeo}{c d:C}{k:Nat}{u:ada}(h:vi w0 c W)(hd:(iN c 0 cA cA).setIfInBounds k u=iN d 0 cA cA):vi w0 d (W.setCell (aj (w0.heap.size+1) k) u):=
 ⟨(hC _ _ _ _ (by show w0.heap.size≠w0.heap.size+1;omega)).trans h.r,by rw[ke h.p,hd],h.aM.setCell (by show w0.heap.size≤w0.heap.size+1;omega) _⟩
theorem alc(w:aeo)(c:C):vi w c ((w.alloc AX).alloc (tS c 0 cA cA)):=by
 have aY:(w.alloc AX).heap.size=w.heap.size+1:=by simp
 refine⟨?_,?_,((Below.refl _ _).alloc (aP _) _).alloc (by omega) _⟩
 ·rw[qL _ _ _ (by omega)];exact dL w _
 ·have h:=dL (w.alloc AX) (tS c 0 cA cA)
  rwa [aY] at h
theorem ald(S:Ua)(hs:S.size≤1000000000)(o:Option C)(a1:af (iT S.data.toList=o))(w:aeo):
  Calls Tryz.prog 78 #[aa S] w (CF o w):=by
 have az:=a1.out;unfold iT at az;obtain⟨e2,hA1⟩:=kd (nA S.data.toList 88).1;obtain⟨R1,qK⟩:=kd (nA S.data.toList 88).2;have H1:af (nA S.data.toList 88=(e2.data.toList,R1.data.toList)):=by show _=_;rw[hA1,qK]
 have iP:R1.size≤1000000000:=by have:=T4 S.data.toList 88;rw[←qK,ch,ch] at this;omega
 obtain⟨fV,hA2⟩:=kd (nA R1.data.toList 89).1;obtain⟨fa,iZ⟩:=kd (nA R1.data.toList 89).2;have bp:af (nA R1.data.toList 89=(fV.data.toList,fa.data.toList)):=by show _=_;rw[hA2,iZ]
 have gE:fa.size≤1000000000:=by have:=T4 R1.data.toList 89;rw[←iZ,ch,ch] at this;omega
 obtain⟨eX,hA3⟩:=kd (nA fa.data.toList 73).1;obtain⟨rJ,CG⟩:=kd (nA fa.data.toList 73).2;have bW:af (nA fa.data.toList 73=(eX.data.toList,rJ.data.toList)):=by show _=_;rw[hA3,CG]
 have La:rJ.size≤1000000000:=by have:=T4 fa.data.toList 73;rw[←CG,ch,ch] at this;omega
 obtain⟨sB,hA4⟩:=kd (nA rJ.data.toList 74).1;obtain⟨sC,aaE⟩:=kd (nA rJ.data.toList 74).2;have ht:af (nA rJ.data.toList 74=(sB.data.toList,sC.data.toList)):=by show _=_;rw[hA4,aaE]
 rw[H1.out] at az;simp only[] at az;rw[bp.out] at az;simp only[] at az;rw[bW.out] at az;simp only[] at az;rw[ht.out] at az;simp only[] at az;have ei:=ao az;have bH:=ao hs;have xZ:=ao iP;have lG:=ao gE;have AU:=ao La;clear az a1 hA1 qK hA2 iZ hA3 CG hA4 aaE iP gE La hs;have bE:af (vi w (dD 7) ((w.alloc (ai (#[I 0,I 0,I 0,I 0,U false,aa ⟨#[]⟩,aa ⟨#[]⟩,aa ⟨#[]⟩,aa ⟨#[]⟩,aa ⟨#[]⟩,J 0,J 0]) 92)).alloc (ai (#[I 0,I 7,I 0,I 0,U false,aa ⟨#[]⟩,aa ⟨#[]⟩,aa ⟨#[]⟩,aa ⟨#[]⟩,aa ⟨#[]⟩,J 0,J 0]) 92))):=alc w _;go_enter Tryz.func78,Tryz.ntmps78;go_upto_region 2 with fail;generalize (w.alloc (ai (#[I 0,I 0,I 0,I 0,U false,aa ⟨#[]⟩,aa ⟨#[]⟩,aa ⟨#[]⟩,aa ⟨#[]⟩,aa ⟨#[]⟩,J 0,J 0]) 92)).alloc (.cells #[I 0,I 7,I 0,I 0,U false,aa ⟨#[]⟩,aa ⟨#[]⟩,aa ⟨#[]⟩,aa ⟨#[]⟩,aa ⟨#[]⟩,J 0,J 0] 92)=W at bE⊢;go_wp2_with fail;with_reducible refine (O2 S bH.out 88 e2 R1 H1 _).mono ?_
 rintro e bt ⟨rfl,hd⟩;have bw:=ao (bE.out.below (o4 hd));clear hd bE;obtain⟨⟨aV,aT,c2,c3,cD,c5,cX,c7,dj,bB,di,dE⟩,f0,f1,f2,f3,f4,f5,f6,f7,f8,f9,f10,f11⟩:=fc bw.out.p;have bE:af (vi w {dD 7 with x:=e2.data.toList} (bt.setCell (aj (w.heap.size+1) 6) (aa e2))):=bw.out.put rfl;go_upto_region 3 with fail;generalize bt.setCell (aj (w.heap.size+1) 6) (aa e2)=W at bE⊢;clear aV aT c2 c3 cD c5 cX c7 dj bB di dE f0 f1 f2 f3 f4 f5 f6 f7 f8 f9 f10 f11 bw;go_wp2_with fail;with_reducible refine (O2 R1 xZ.out 89 fV fa bp _).mono ?_
 rintro e bt ⟨rfl,hd⟩;have bw:=ao (bE.out.below (o4 hd));clear hd bE;obtain⟨⟨aV,aT,c2,c3,cD,c5,cX,c7,dj,bB,di,dE⟩,f0,f1,f2,f3,f4,f5,f6,f7,f8,f9,f10,f11⟩:=fc bw.out.p;have bE:af (vi w {dD 7 with x:=e2.data.toList,y:=fV.data.toList} (bt.setCell (aj (w.heap.size+1) 7) (aa fV))):=bw.out.put rfl;go_upto_region 4 with fail;generalize bt.setCell (aj (w.heap.size+1) 7) (aa fV)=W at bE⊢;clear aV aT c2 c3 cD c5 cX c7 dj bB di dE f0 f1 f2 f3 f4 f5 f6 f7 f8 f9 f10 f11 bw;go_wp2_with fail;with_reducible refine (O2 fa lG.out 73 eX rJ bW _).mono ?_
 rintro e bt ⟨rfl,hd⟩;have bw:=ao (bE.out.below (o4 hd));clear hd bE;obtain⟨⟨aV,aT,c2,c3,cD,c5,cX,c7,dj,bB,di,dE⟩,f0,f1,f2,f3,f4,f5,f6,f7,f8,f9,f10,f11⟩:=fc bw.out.p;have bE:af (vi w {dD 7 with x:=e2.data.toList,y:=fV.data.toList,i:=eX.data.toList} (bt.setCell (aj (w.heap.size+1) 8) (aa eX))):=bw.out.put rfl;go_upto_region 5 with fail;generalize bt.setCell (aj (w.heap.size+1) 8) (aa eX)=W at bE⊢;clear aV aT c2 c3 cD c5 cX c7 dj bB di dE f0 f1 f2 f3 f4 f5 f6 f7 f8 f9 f10 f11 bw;go_wp2_with fail;with_reducible refine (O2 rJ AU.out 74 sB sC ht _).mono ?_
 rintro e bt ⟨rfl,hd⟩;have bw:=ao (bE.out.below (o4 hd));clear hd bE;obtain⟨⟨aV,aT,c2,c3,cD,c5,cX,c7,dj,bB,di,dE⟩,f0,f1,f2,f3,f4,f5,f6,f7,f8,f9,f10,f11⟩:=fc bw.out.p;have bE:af (vi w {dD 7 with x:=e2.data.toList,y:=fV.data.toList,i:=eX.data.toList,j:=sB.data.toList} (bt.setCell (aj (w.heap.size+1) 9) (aa sB))):=bw.out.put rfl;go_upto_region 6 with fail;generalize bt.setCell (aj (w.heap.size+1) 9) (aa sB)=W at bE⊢;clear aV aT c2 c3 cD c5 cX c7 dj bB di dE f0 f1 f2 f3 f4 f5 f6 f7 f8 f9 f10 f11 bw;have E:∀l,(sC.toList==l)=decide (sC.data.toList=l):=fun l=>hZ _ _;by_cases q:vP sC.data.toList=0
 ·have bn:af (o=none):=(by show _=_;rw[←ei.out,aW q]);have bI:¬sC.data.toList=[68,48,49]:=(fun h=>by rw[h] at q;exact absurd q (by decide));have bJ:¬sC.data.toList=[68,48,50]:=(fun h=>by rw[h] at q;exact absurd q (by decide));have dT:¬sC.data.toList=[68,48,51]:=(fun h=>by rw[h] at q;exact absurd q (by decide));clear q;go_upto_region 13 with fail;obtain⟨⟨aV,aT,c2,c3,cD,c5,cX,c7,dj,bB,di,dE⟩,f0,f1,f2,f3,f4,f5,f6,f7,f8,f9,f10,f11⟩:=fc bE.out.p;obtain⟨⟨d0,d1,d2,d3,d4,d5,d6,d7,d8,d9,d10,d11⟩,g0,g1,g2,g3,g4,g5,g6,g7,g8,g9,g10,g11⟩:=fc bE.out.r;go_region
  all_goals
   clear aV aT c2 c3 cD c5 cX c7 dj bB di dE f0 f1 f2 f3 f4 f5 f6 f7 f8 f9 f10 f11 d0 d1 d2 d3 d4 d5 d6 d7 d8 d9 d10 d11 g0 g1 g2 g3 g4 g5 g6 g7 g8 g9 g10 g11;go_wp2_with fail;exact pM (W:=W) {dD 7 with x:=e2.data.toList,y:=fV.data.toList,i:=eX.data.toList,j:=sB.data.toList} bn rfl (.inr rfl) rfl rfl rfl ⟨bE.out.r,bE.out.aM⟩ rfl rfl
 ·obtain⟨jd,aw⟩:=aq (vP sC.data.toList);have bn:af (o=some {dD 7 with x:=e2.data.toList,y:=fV.data.toList,i:=eX.data.toList,j:=sB.data.toList,n:=jd}):=by show _=_;rw[←ei.out,aN q,aw]
  have hr:sC.data.toList=[68,48,49]∨sC.data.toList=[68,48,50]∨sC.data.toList=[68,48,51]:=by
   by_cases bI:sC.data.toList=[68,48,49]
   ·exact .inl bI
   by_cases bJ:sC.data.toList=[68,48,50]
   ·exact .inr (.inl bJ)
   by_cases dT:sC.data.toList=[68,48,51]
   ·exact .inr (.inr dT)
   ·exact absurd (by unfold vP;rw[aN bI,aN bJ,aN dT]) q
  obtain⟨⟨aV,aT,c2,c3,cD,c5,cX,c7,dj,bB,di,dE⟩,f0,f1,f2,f3,f4,f5,f6,f7,f8,f9,f10,f11⟩:=fc bE.out.p;clear q ei;rcases hr with hr|hr|hr
  all_goals
   rw[hr] at aw;first|obtain rfl:1=jd:=aw|obtain rfl:2=jd:=aw|obtain rfl:3=jd:=aw
   go_upto_region 13 with fail;clear hr E;generalize cP:W.setCell (aj (w.heap.size+1) 2) _=sD;obtain⟨OT,O5,bw,e6⟩:∃n:Int,af (o=some {dD 7 with x:=e2.data.toList,y:=fV.data.toList,i:=eX.data.toList,j:=sB.data.toList,n:=n})∧af (vi w {dD 7 with x:=e2.data.toList,y:=fV.data.toList,i:=eX.data.toList,j:=sB.data.toList,n:=n} sD)∧0<n:=⟨_,bn,by rw[←cP];exact bE.out.put rfl,by decide⟩;clear aV aT c2 c3 cD c5 cX c7 dj bB di dE f0 f1 f2 f3 f4 f5 f6 f7 f8 f9 f10 f11 bE cP bn;obtain⟨⟨aV,aT,c2,c3,cD,c5,cX,c7,dj,bB,di,dE⟩,f0,f1,f2,f3,f4,f5,f6,f7,f8,f9,f10,f11⟩:=fc bw.out.p;obtain⟨⟨d0,d1,d2,d3,d4,d5,d6,d7,d8,d9,d10,d11⟩,g0,g1,g2,g3,g4,g5,g6,g7,g8,g9,g10,g11⟩:=fc bw.out.r;go_region
   all_goals
    clear aV aT c2 c3 cD c5 cX c7 dj bB di dE f0 f1 f2 f3 f4 f5 f6 f7 f8 f9 f10 f11 d0 d1 d2 d3 d4 d5 d6 d7 d8 d9 d10 d11 g0 g1 g2 g3 g4 g5 g6 g7 g8 g9 g10 g11;go_wp2_with fail;exact vh (W:=sD) O5 rfl (.inr rfl) rfl rfl rfl ⟨bw.out.r,bw.out.aM⟩ rfl rfl
end gK
