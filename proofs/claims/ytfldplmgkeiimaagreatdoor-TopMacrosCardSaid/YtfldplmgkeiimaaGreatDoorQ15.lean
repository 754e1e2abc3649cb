/- Lemmas. -/
import Derived.Test.YtfldplmgkeiimaaGreatDoorQ3
import Derived.Deep.RegionLaw
import Derived.Deep.RegionHeld3
import Derived.StillTailTactics
import Derived.RegionTactic
import Derived.BigRegion
set_option linter.all false
set_option maxRecDepth 100000
set_option maxHeartbeats 6400000
namespace Go.Proofs.YtfldplmgkeiimaaGreatDoor
abbrev O8:=@Proofs.Tryz.func138
abbrev O9:=@Proofs.Tryz.ntmps138
abbrev abj:=@List.isPrefixOf_iff_prefix
abbrev TH:=@Proofs.Tryz.strings_CutPrefix
abbrev K3:=@decide_eq_true_iff
abbrev E5:=@UInt8.toNat.inj
abbrev abk:=@List.length_eq_zero_iff
abbrev x5:=@Proofs.Tryz.func139
abbrev x6:=@Proofs.Tryz.ntmps139
namespace gT
open Go.RowKit ny j6 px Mem p1 bS
theorem ej{a b:Bool}(h:a=b):Ending.returned (U a)=ab (U b):=by rw[h]
variable{w:aeo}
theorem aU{v:aeo}{b:Nat}{o:Obj}(h:w.heap[b]?=some o)(ay:ao w w v):v.heap[b]?=some o:=
 (ay.block b (Array.getElem?_eq_some_iff.1 h).1).trans h
variable{v:ada}{B bG n size:Nat}{e:aai}
theorem e9{w':aeo}{xs:aev}(h:w.ownsRow B e bG v n xs)(ay:ao w w w'):w'.ownsRow B e bG v n xs:=
 h.kept (row:=none) ⟨ay.os,ay.tape,ay.output,ay.size,fun k ax _=>ay.block k ax⟩ (by cases v.ownBlock<;>simp)
theorem oZ{t:aai}{xs:aev}(h:w.ownsRow B e bG v n xs){b:Nat}{cs:ajv}{ei:Nat×Nat}(ay:w.heap[b]?=some (.cells cs t ei))(he:e≠t):v.ownBlock≠some b:=by
 rcases h.2 with ⟨rfl,_⟩|⟨g,cap,cur,rfl,_,aJ,_⟩
 ·simp[Value.ownBlock]
 ·intro az;have:g=b:=(by simpa[Value.ownBlock] using az);subst this;rw[ay] at aJ;injection aJ with aJ;injection aJ with _ bB;exact he bB.symm
theorem Kp{C:Nat}{f:aai}{s1 s2 m:Nat}{u:ada}{xs fw:aev}(h:w.ownsRow B e s1 v n xs)(g:w.ownsRow C f s2 u m fw)(he:e≠f):u.ownBlock=none∨u.ownBlock≠v.ownBlock:=by
 rcases g.2 with ⟨rfl,_⟩|⟨k,cap,cur,rfl,_,aJ,_⟩
 ·exact .inl rfl
 ·exact .inr (gJ (oZ h aJ he))
theorem jf{xs:aev}(h:w.ownsRow B e bG v n xs):∃p cap,v=ad p n cap:=by
 rcases h.2 with ⟨rfl,rfl⟩|⟨g,cap,cur,rfl,_⟩
 ·exact⟨_,_,rfl⟩
 ·exact⟨_,_,rfl⟩
def Oi(x:ea):List Value:=[I (x.a:Int),U x.ext,U x.first,aa ⟨x.t.toArray⟩]
def rj(l:List ea):List Value:=l.flatMap Oi
theorem amC(l:List ea)(x:ea):rj (l++[x])=rj l++Oi x:=by simp[rj]
abbrev CF(cg iv:ada)(a:Nat)(g:Bool)(i:Nat):Obj:=.cells #[cg,iv,I (a:Int),U g,I (i:Int)] 210
structure wE(s:iy):Prop where
 n0:s.words.length≤20000
 dy:s.text≠[]→s.words.length<20000
 eU:s.text.length≤10000
 n4:s.inner≤s.words.length
structure gP(B R:Nat)(cg iv:ada)(s:iy)(w:aeo):Prop where
 ge:B≤R
 obj:w.heap[R]?=some (CF cg iv s.a s.group s.inner)
 ws:w.ownsRow B 153 4 cg s.words.length (rj s.words)
 hN:w.ownsRow B 5 1 iv s.text.length (rS s.text)
theorem amD(w:aeo)(R o:Nat)(u:ada):w.grownBy (w.setCell (aj R o) u) (some R):=
 ⟨rfl,rfl,rfl,by simp[World.setCell],fun k ax hne=>uo _ _ _ _ (fun e=>hne (fK some e))⟩
theorem tD{x:aeo}{base:Nat}{t:aai}{xs:aev}(h:x.ownsRow base e size v n xs){R o:Nat}{cs:ajv}{ei:Nat×Nat}(hR:x.heap[R]?=some (.cells cs t ei))(he:e≠t)(u:ada):(x.setCell (aj R o) u).ownsRow base e size v n xs:=
 h.kept (amD x R o u) (.inr (oZ h hR he))
theorem abl{x:aeo}{p:Ja}{cap:Nat}{xs:aev}(h:x.ownsRow B e size (ad p n cap) n xs):x.ownsRow B e size (ad p 0 cap) 0 []:=by
 rcases h.2 with ⟨av,az⟩|⟨g,c,cur,av,az,aF,bk,b9,cW,eN⟩
 ·refine⟨by simp,.inl ⟨?_,rfl⟩⟩;injection av with a1 _ ch;rw[a1,ch]
 ·injection av with a1 _ ch;subst a1;subst ch;exact⟨by simp,.inr ⟨g,cap,cur,rfl,az,aF,eE _,b9,cW,by simp⟩⟩
section
variable{B R:Nat}{cg iv:ada}{s:iy}{w w':aeo}
theorem gP.below(h:gP B R cg iv s w)(ay:ao w w w'):gP B R cg iv s w':=
 ⟨h.ge,aU h.obj ay,e9 h.ws ay,e9 h.hN ay⟩
theorem gP.cells(h:gP B R cg iv s w):ak w R 0 cg∧ak w R 1 iv∧ak w R 2 (I (s.a:Int))∧ak w R 3 (U s.group)∧ak w R 4 (I (s.inner:Int)):=by have av:=h.obj;refine⟨?_,?_,?_,?_,?_⟩<;>simp[World.cell?,av]
theorem gP.ei(h:gP B R cg iv s w)(o:Nat):w.frozen? ⟨R,o,none⟩=false:=by have av:=h.obj;simp[World.frozen?,av]
theorem gP.lt(h:gP B R cg iv s w):R<w.heap.size:=(Array.getElem?_eq_some_iff.1 h.obj).1
theorem gP.at(h:gP B R cg iv s w)(a:Nat):gP B R cg iv {s with a:=a} (w.setCell (aj R 2) (I (a:Int))):=
 ⟨h.ge,by rw[kd h.obj];rfl,tD h.ws h.obj (by decide) _,tD h.hN h.obj (by decide) _⟩
theorem gP.JK(h:gP B R cg iv s w)(g:Bool):gP B R cg iv {s with group:=g} (w.setCell (aj R 3) (U g)):=
 ⟨h.ge,by rw[kd h.obj];rfl,tD h.ws h.obj (by decide) _,tD h.hN h.obj (by decide) _⟩
theorem gP.wj(h:gP B R cg iv s w)(i:Nat)(x:Int)(hx:(i:Int)=x):gP B R cg iv {s with inner:=i} (w.setCell (aj R 4) (I x)):=by subst hx;exact⟨h.ge,by rw[kd h.obj];rfl,tD h.ws h.obj (by decide) _,tD h.hN h.obj (by decide) _⟩
theorem gP.clear{p:Ja}{n cap:Nat}(h:gP B R cg (ad p n cap) s w)(hn:n=s.text.length):gP B R cg (ad p 0 cap) {s with text:=[]} (w.setCell (aj R 1) (ad p 0 cap)):=by
 subst hn;exact
 ⟨h.ge,by rw[kd h.obj];rfl,tD h.ws h.obj (by decide) _,tD (abl h.hN) h.obj (by decide) _⟩
variable{v':ada}
theorem gP.push{X bV:aeo}{x:ea}(h:gP B R cg iv s w)(dd:ao w w X)(ba:X.grownBy bV cg.ownBlock)(bl:bV.ownsRow B 153 4 v' (s.words.length+1) (rj s.words++Oi x))(bL:B≤w.heap.size):
  gP B R v' iv {s with words:=s.words++[x]} (bV.setCell (aj R 0) v')∧Below B w (bV.setCell (aj R 0) v')∧bV.heap[R]?=some (CF cg iv s.a s.group s.inner):=by
 have av:=h.below dd;have hR:bV.heap[R]?=some (CF cg iv s.a s.group s.inner):=(ba.block R av.lt (gJ (oZ av.ws av.obj (by decide)))).trans av.obj;have bB:=av.hN.kept ba (Kp av.ws av.hN (by decide));refine⟨⟨h.ge,by rw[kd hR];rfl,?_,tD bB hR (by decide) _⟩,?_,hR⟩
 ·show World.ownsRow _ B _ 4 v' (s.words++[x]).length (rj (s.words++[x]));rw[amC,show (s.words++[x]).length=s.words.length+1 by simp];exact tD bl hR (by decide) _
 ·exact (((dd.mono bL).grown ba (dB bL dd.size) (fun k ax=>(av.ws.lt _ ax).1))).setCell h.ge _
theorem gP.add{X bV:aeo}{c:UInt8}(h:gP B R cg iv s w)(dd:ao w w X)(ba:X.grownBy bV iv.ownBlock)(bl:bV.ownsRow B 5 1 v' (s.text.length+1) (rS s.text++[.int .u8 (c.toNat:Int)]))(bL:B≤w.heap.size):
  gP B R cg v' {s with text:=s.text++[c]} (bV.setCell (aj R 1) v')∧Below B w (bV.setCell (aj R 1) v')∧bV.heap[R]?=some (CF cg iv s.a s.group s.inner):=by
 have av:=h.below dd;have hR:bV.heap[R]?=some (CF cg iv s.a s.group s.inner):=(ba.block R av.lt (gJ (oZ av.hN av.obj (by decide)))).trans av.obj;have bB:=av.ws.kept ba (Kp av.hN av.ws (by decide));refine⟨⟨h.ge,by rw[kd hR];rfl,tD bB hR (by decide) _,?_⟩,?_,hR⟩
 ·show World.ownsRow _ B _ 1 v' (s.text++[c]).length (rS (s.text++[c]));rw[ajK,show (s.text++[c]).length=s.text.length+1 by simp];exact tD bl hR (by decide) _
 ·exact (((dd.mono bL).grown ba (dB bL dd.size) (fun k ax=>(av.hN.lt _ ax).1))).setCell h.ge _
end
def abm(B R:Nat)(w:aeo)(res:Except Nat iy)(e:Ending)(w':aeo):Prop:=Below B w w'∧match res with
 |.ok s'=>e=ab (I 0)∧wE s'∧∃cg iv,gP B R cg iv s' w'
 |.error k=>e=ab (I (k:Int))
theorem abn:(Tryz.prog.info? 153).map (fun i=>(i.zero,i.size,i.bytes))=some (some (.agg #[I 0,U false,U false,aa ⟨#[]⟩]),4,32):=by kernel_rfl
theorem O':(Tryz.prog.info? 5).map (fun i=>(i.zero,i.size,i.bytes))=some (some (.int .u8 0),1,1):=by kernel_rfl
end gT
namespace gT
open Go.RowKit ny j6 px Mem p1 bS
theorem qc(S:Ua):(⟨S.data.toList.toArray⟩:Ua)=S:=rfl
theorem CG(S:Ua)(k:Nat):(S.extract 0 k).data.toList=S.data.toList.take k:=by rw[B'];simp
theorem abo(s:Ua)(a k:Nat):(s.extract a k).data.toList=(s.data.toList.take k).drop a:=by rw[B',List.drop_take]
theorem mE(S:Ua)(hs:S.size≤maxLen)(n:Nat)(hn:af (bA S.data.toList=n))(w:aeo):
  Calls Tryz.prog 176 #[aa S] w fun e w'=>e=ab (I (n:Int))∧w=w':=by
 have CH:=aq hs;unfold maxLen at hs;go_enter Tryz.func176,Tryz.ntmps176;go_wp2_with fail
 go_loop [3] (fun i=>∃k:Nat,af (k≤bA S.data.toList)∧i=I (k:Int)) (fun i=>S.size -(intOf i).toNat)
 case atStart=>exact⟨0,eE _,rfl⟩
 case round=>
  obtain⟨k,dn,rfl⟩:=hrel;have iE:k≤S.size:=(by have av:=rD S.data.toList;have:=dn.out;rw[cG] at av;omega);by_cases b1:k<S.size
  ·have K4:k<S.data.toList.length:=(by rw[cG];exact b1);have i':(k:Int)<(S.size:Int):=(by omega);by_cases hd:48≤S[k].toNat∧S[k].toNat≤57
   ·have bf:af (k+1≤bA S.data.toList):=Ni dn.out K4 (by rw[n7 S k b1];exact (qU _).2 hd);obtain⟨hQ,gL⟩:=hd;go_wp2_with fail;go_round
    case rel=>exact⟨k+1,bf,by go_num⟩
    case measure=>simp[intOf];omega
   ·have bf:af (k=n):=(by show _=_;rw[←hn.out];exact (JA dn.out K4 (by rw[n7 S k b1];exact (Jy _).2 (by omega))).symm);by_cases av:48≤S[k].toNat
    ·have az:¬S[k].toNat≤57:=fun h=>hd ⟨av,h⟩;go_wp2_with fail;go_ret;exact⟨xt (by rw[bf.out]),rfl⟩
    ·go_wp2_with fail;go_ret;exact⟨xt (by rw[bf.out]),rfl⟩
  ·have bf:af (k=n):=(by show _=_;rw[←hn.out];have av:=rD S.data.toList;have:=dn.out;rw[cG] at av;omega);have i':¬((k:Int)<(S.size:Int)):=(by omega);go_wp2_with fail;go_ret;exact⟨xt (by rw[bf.out]),rfl⟩
def K5(o:Option Nat)(e:Ending):Prop:=e=ab (.tuple #[I ((o.getD 0:Nat):Int),U o.isSome])
theorem HA(S:Ua)(hs:S.size≤maxLen)(o:Option Nat)(bl:af (DQ S.data.toList=o))(w:aeo):
  Calls Tryz.prog 138 #[aa S] w fun e w'=>K5 o e∧w=w':=by
 have CH:=aq hs;unfold maxLen at hs;have aA:=bl.out;unfold DQ at aA;rw[cG] at aA;clear bl;obtain⟨n,hn⟩:=ar (bA S.data.toList);have ot:=aq hn;by_cases av:S.size<1
 ·rw[a8 (.inl av)] at aA;have b5:=aq aA;have K6:(S.size:Int)<1:=(by omega);clear aA;go_enter O8,O9;go_wp2_with fail;go_ret2;rw[←b5.out];exact⟨rfl,rfl⟩
 ·by_cases bk:4<S.size
  ·rw[a8 (.inr (.inl bk))] at aA;have b5:=aq aA;have K6:¬(S.size:Int)<1:=(by omega);have amE:4<(S.size:Int):=(by omega);clear aA;go_enter O8,O9;go_wp2_with fail;go_ret2;rw[←b5.out];exact⟨rfl,rfl⟩
  ·have K6:¬(S.size:Int)<1:=(by omega);have amE:¬4<(S.size:Int):=(by omega);by_cases gF:n=S.size
   ·rw[aR (by rw[hn];omega)] at aA;have b5:=aq aA;have K7:((n:Int) !=(S.size:Int))=false:=(by simp[gF]);clear aA;go_enter O8,O9;go_wp2_with fail;with_reducible refine (mE S CH.out n ot _).mono ?_
    rintro e bY ⟨rfl,rfl⟩;go_wp2_with fail
    go_loop [4,23] (fun v i=>∃k:Nat,k≤S.size∧i=I (k:Int)∧v=I (val (S.data.toList.take k):Nat)) (fun _ i=>S.size -(intOf i).toNat)
    case atStart=>exact⟨0,eE _,rfl,rfl⟩
    case round=>
     obtain⟨k,ax,rfl,rfl⟩:=hrel;by_cases b1:k<S.size
     ·have iE:k<S.data.toList.length:=(by rw[cG];exact b1);have hd:48≤S[k].toNat∧S[k].toNat≤57:=(by have:=(yU S.data.toList).1 k iE (by rw[ot.out];omega);rw[n7 S k b1] at this;exact (qU _).1 this);have aS:val (S.data.toList.take k)<10000:=jN (DM S.data.toList k (by rw[ot.out];omega)) (by have:=vE (n:=10) (by decide) (show k≤4 by omega);simpa using this);have b7:af (val (S.data.toList.take (k+1))=val (S.data.toList.take k) *10+(S[k].toNat-48)):=(by show _=_;rw[NM S k b1];exact Nh _ _);have i':(k:Int)<(S.size:Int):=(by omega);obtain⟨hQ,gL⟩:=hd;go_wp2_with fail;go_round
      case rel=>exact⟨k+1,by omega,by go_num,by rw[b7.out];go_num⟩
      case measure=>simp[intOf];omega
     ·have i':¬((k:Int)<(S.size:Int)):=(by omega);have b0:af (S.data.toList.take k=S.data.toList):=vX (by rw[cG];omega);go_wp2_with fail;go_ret2;rw[←b5.out,b0.out];exact⟨rfl,rfl⟩
   ·rw[a8 (.inr (.inr (by rw[hn];exact gF)))] at aA;have b5:=aq aA;have K7:((n:Int) !=(S.size:Int))=true:=(by simp;omega);clear aA;go_enter O8,O9;go_wp2_with fail;with_reducible refine (mE S CH.out n ot _).mono ?_
    rintro e bY ⟨rfl,rfl⟩;go_wp2_with fail;go_ret2;rw[←b5.out];exact⟨rfl,rfl⟩
theorem qd(S P:Ua)(r:au)(h:af (S.data.toList=P.data.toList++r))(w:aeo):
  Calls Tryz.prog 89 #[aa S,aa P] w fun e w'=>e=ab (.tuple #[aa ⟨r.toArray⟩,U true])∧w=w':=by
 have av:Lib.hasPrefix S.data.toList P.data.toList=true:=by rw[h.out];unfold Lib.hasPrefix;rw[abj];exact List.prefix_append _ _
 have az:Lib.trimPrefix S.data.toList P.data.toList=r:=by unfold Lib.trimPrefix;rw[a8 av,h.out,List.drop_left]
 refine (TH S P w).mono fun e w' ⟨he,hw⟩=>⟨?_,hw.symm⟩;rw[he,av,az]
theorem CI(S P:Ua)(h:af (∀r,S.data.toList≠P.data.toList++r))(w:aeo):
  Calls Tryz.prog 89 #[aa S,aa P] w fun e w'=>e=ab (.tuple #[aa S,U false])∧w=w':=by
 have av:Lib.hasPrefix S.data.toList P.data.toList=false:=by rw[yS];unfold Lib.hasPrefix;intro hp;obtain⟨r,hr⟩:=List.isPrefixOf_iff_prefix.1 hp;exact h.out r hr.symm
 have az:Lib.trimPrefix S.data.toList P.data.toList=S.data.toList:=by unfold Lib.trimPrefix;rw[av];rfl
 refine (TH S P w).mono fun e w' ⟨he,hw⟩=>⟨?_,hw.symm⟩;rw[he,av,az,qc]
theorem x7(S P:Ua)(b:Bool)(h:af (decide (S.data.toList.take P.data.toList.length=P.data.toList)=b))(w:aeo):
  Calls Tryz.prog 130 #[aa S,aa P] w fun e w'=>e=ab (U b)∧w=w':=by
 refine (Tryz.strings_HasPrefix S P w).mono fun e w' ⟨he,hw⟩=>⟨?_,hw.symm⟩;rw[he,←h.out];refine ej ?_;rw[Cb,K3];unfold Lib.hasPrefix;rw[abj,List.prefix_iff_eq_take];exact⟨Eq.symm,Eq.symm⟩
theorem TI{l p:au}(h:l.take p.length=p):l=p++l.drop p.length:=by conv=>lhs;rw[←List.take_append_drop p.length l,h]
theorem TJ{l p:au}(h:l.take p.length≠p):∀r,l≠p++r:=fun r hr=>h (by rw[hr];simp)
theorem TK(S:Ua)(hs:S.size≤maxLen)(o:Option Nat)(bl:af (vP S.data.toList=o))(w:aeo):
  Calls Tryz.prog 94 #[aa S] w fun e w'=>K5 o e∧w=w':=by
 have CH:=aq hs;unfold maxLen at hs;have aA:=bl.out;unfold vP at aA;rw[cG] at aA;clear bl;by_cases av:S.size<2
 ·rw[a8 (.inl av)] at aA;have b5:=aq aA;have K6:(S.size:Int)<2:=(by omega);clear aA;go_enter Tryz.func94,Tryz.ntmps94;go_wp2_with fail;go_ret2;rw[←b5.out];exact⟨rfl,rfl⟩
 ·have K6:¬(S.size:Int)<2:=(by omega);have hp:0<S.size:=(by omega);have aJ:=Ar S hp;obtain⟨c,hc⟩:=ar (S[0]);have hd:S.data.toList.headD 0=c:=(by rw[aJ,hc];rfl);rw[hd] at aA;obtain⟨x,hx⟩:=ar (c.toNat:Int);clear aJ hd;by_cases iJ:c=48
  ·rw[a8 (.inr iJ)] at aA;have b5:=aq aA;have amF:x=48:=(by rw[←hx,iJ];rfl);clear aA iJ;go_enter Tryz.func94,Tryz.ntmps94;go_wp2_with fail;go_ret2;rw[←b5.out];exact⟨rfl,rfl⟩
  ·rw[aR (by intro h;rcases h with h|h;exact av h;exact iJ h)] at aA;have b5:=aq aA;have amF:(x==48)=false:=(by rw[yS];intro h;apply iJ;apply E5;have:x=48:=(by simpa using h);show c.toNat=48;omega);clear aA iJ;go_enter Tryz.func94,Tryz.ntmps94;go_wp2_with fail;with_reducible refine (HA S CH.out o b5 _).mono ?_
   rintro e bY ⟨he,rfl⟩;unfold K5 at he;subst he;go_wp2_with fail;go_ret2;exact⟨rfl,rfl⟩
def HI(w w':aeo):Prop:=∃n,w'=w.drewN n
variable{w x W et:aeo}
theorem ma{w':aeo}(h:HI w w'):ao w w w':=by obtain⟨n,rfl⟩:=h;exact below_drewN (Below.refl _ _) n
theorem abp(S:Ua):(S.toList==[])=decide (S.size=0):=by rw[oN,Cb,beq_iff_eq,K3,←cG,abk]
theorem HJ{c:UInt8}{k:Nat}(ax:k<256)(h:c≠UInt8.ofNat k):((c.toNat:Int)==(k:Int))=false:=by
 rw[yS];intro he;apply h;apply E5;have:(c.toNat:Int)=(k:Int):=by simpa using he
 have az:(UInt8.ofNat k).toNat=k:=by simp;omega
 rw[az];omega
theorem Pa(S:Ua)(hs:S.size≤1000000000)(c:UInt8)(A R:Ua)(h:af (kG S.data.toList c=(A.data.toList,R.data.toList)))(w:aeo):
  Calls Tryz.prog 139 #[aa S,aa ⟨#[c]⟩] w fun e w'=>e=ab (.tuple #[aa A,aa R])∧HI w w':=by
 have CH:=aq hs;have aJ:=h.out;unfold kG at aJ;clear h;by_cases hc:S.data.toList≠[]∧S.data.toList.headD 0=c
 ·rw[a8 hc] at aJ;obtain⟨r,hr⟩:=ar (S.data.toList.drop 1);rw[hr] at aJ
  have hS:S.data.toList=[c] ++r:=by
   cases aH:S.data.toList with
   |nil=>exact absurd aH hc.1
   |cons d q=>
    rw[aH] at hc hr;rw[←hr,←hc.2];rfl
  obtain⟨T,rfl⟩:=kb r;have b7:af (S.data.toList=(⟨#[c]⟩:Ua).data.toList++T.data.toList):=hS;have rV:T.size+1=S.size:=(by have av:=fK List.length hS;rw[cG,hl,cG] at av;simp at av;omega);obtain⟨g,ba⟩:=ar (vQ T.data.toList);rw[ba] at aJ;obtain⟨n,hn⟩:=ar (bA (T.data.toList.drop g));rw[hn] at aJ
  have CJ:g≤1∧g≤T.size:=by
   rw[←ba,←cG];unfold vQ;split
   ·rename_i aH;exact⟨bx _,List.length_pos_iff.2 aH.1⟩
   ·exact⟨eE _,eE _⟩
  have K8:g+n≤T.size:=(by have av:=rD (T.data.toList.drop g);rw[hn,gI,cG] at av;omega);have x8:af (bA (T.extract g T.size).data.toList=n):=(by show _=_;rw[mS,hn]);have K9:(T.extract g T.size).size≤maxLen:=(by rw[←cG,mS,gI,cG];unfold maxLen;omega);have HK:=aq K9;have hB:=aq aJ;have Pb:T.size≤1000000000:=(by omega);obtain⟨CJ,Zt⟩:=CJ;clear aJ hc hr hS K9 hn rV;by_cases aT:T.size=0
  ·have CK:(T.toList==[])=true:=(by rw[abp];exact e' aT);have zB:g=0:=(by omega);subst zB;have l4:n=0:=(by omega);subst l4;have K':af (bA T.data.toList=0):=(by have av:=x8.out;rw[mS] at av;exact av);have aJ:=hB.out;rw[a8 (.inl (by omega))] at aJ;simp only[fS] at aJ;obtain rfl:A=⟨#[]⟩:=lY aJ.1.symm;obtain rfl:R=S:=lY aJ.2.symm;clear aJ hB ba aT;go_enter x5,x6;go_wp2_with fail;with_reducible refine (qd _ _ _ b7 _).mono ?_
   rintro e bY ⟨rfl,rfl⟩;rw[qc];go_wp2_with fail;with_reducible refine (mE T (by unfold maxLen;omega) 0 (aq K'.out) _).mono ?_
   rintro e bY ⟨rfl,rfl⟩;go_wp2_with fail;go_ret2;exact⟨rfl,0,rfl⟩
  ·have CK:(T.toList==[])=false:=(by rw[abp];exact eT aT);have hp:0<T.size:=(by omega);have TL:=Ar T hp;obtain⟨d,hd⟩:=ar (T[0]);rw[hd] at TL;have E6:vQ T.data.toList=if d=43∨d=45 then 1 else 0:=by rw[TL];unfold vQ;simp
   rw[ba] at E6;clear TL ba aT;by_cases Cc:d=43
   ·subst Cc;rw[a8 (.inl rfl)] at E6;subst E6;have amG:((43:UInt8).toNat:Int)=43:=rfl;by_cases fF:n<1∨12<n
    ·have aJ:=hB.out;rw[a8 fF] at aJ;simp only[fS] at aJ;obtain rfl:A=⟨#[]⟩:=lY aJ.1.symm;obtain rfl:R=S:=lY aJ.2.symm;clear aJ hB;by_cases kg:(n:Int)<1
     ·clear fF;go_enter x5,x6;go_wp2_with fail;with_reducible refine (qd _ _ _ b7 _).mono ?_
      rintro e bY ⟨rfl,rfl⟩;rw[qc];go_wp2_with fail;with_reducible refine (mE _ HK.out n x8 _).mono ?_
      rintro e bY ⟨rfl,rfl⟩;go_wp2_with fail;go_ret2;exact⟨rfl,0,rfl⟩
     ·have E7:12<(n:Int):=(by omega);clear fF;go_enter x5,x6;go_wp2_with fail;with_reducible refine (qd _ _ _ b7 _).mono ?_
      rintro e bY ⟨rfl,rfl⟩;rw[qc];go_wp2_with fail;with_reducible refine (mE _ HK.out n x8 _).mono ?_
      rintro e bY ⟨rfl,rfl⟩;go_wp2_with fail;go_ret2;exact⟨rfl,0,rfl⟩
    ·have aJ:=hB.out;rw[aR fF] at aJ;simp only[fS] at aJ;have cc:af (T.extract 0 (1+n)=A):=lY (by rw[CG];exact aJ.1);have bq:af (T.extract (1+n) T.size=R):=lY (by rw[mS];exact aJ.2);have kg:¬(n:Int)<1:=(by omega);have E7:¬12<(n:Int):=(by omega);have abq:(n:Int)≤12:=(by omega);clear aJ hB fF;go_enter x5,x6;go_wp2_with fail;with_reducible refine (qd _ _ _ b7 _).mono ?_
     rintro e bY ⟨rfl,rfl⟩;rw[qc];go_wp2_with fail;with_reducible refine (mE _ HK.out n x8 _).mono ?_
     rintro e bY ⟨rfl,rfl⟩;go_wp2_with fail
     go_quiet (fail)
     go_wp2_with fail;go_ret2;obtain rfl:=cc.out;obtain rfl:=bq.out;exact⟨rfl,_,rfl⟩
   ·by_cases Pc:d=45
    ·subst Pc;rw[a8 (.inr rfl)] at E6;subst E6;have amG:((45:UInt8).toNat:Int)=45:=rfl;by_cases fF:n<1∨12<n
     ·have aJ:=hB.out;rw[a8 fF] at aJ;simp only[fS] at aJ;obtain rfl:A=⟨#[]⟩:=lY aJ.1.symm;obtain rfl:R=S:=lY aJ.2.symm;clear aJ hB;by_cases kg:(n:Int)<1
      ·clear fF;go_enter x5,x6;go_wp2_with fail;with_reducible refine (qd _ _ _ b7 _).mono ?_
       rintro e bY ⟨rfl,rfl⟩;rw[qc];go_wp2_with fail;with_reducible refine (mE _ HK.out n x8 _).mono ?_
       rintro e bY ⟨rfl,rfl⟩;go_wp2_with fail;go_ret2;exact⟨rfl,0,rfl⟩
      ·have E7:12<(n:Int):=(by omega);clear fF;go_enter x5,x6;go_wp2_with fail;with_reducible refine (qd _ _ _ b7 _).mono ?_
       rintro e bY ⟨rfl,rfl⟩;rw[qc];go_wp2_with fail;with_reducible refine (mE _ HK.out n x8 _).mono ?_
       rintro e bY ⟨rfl,rfl⟩;go_wp2_with fail;go_ret2;exact⟨rfl,0,rfl⟩
     ·have aJ:=hB.out;rw[aR fF] at aJ;simp only[fS] at aJ;have cc:af (T.extract 0 (1+n)=A):=lY (by rw[CG];exact aJ.1);have bq:af (T.extract (1+n) T.size=R):=lY (by rw[mS];exact aJ.2);have kg:¬(n:Int)<1:=(by omega);have E7:¬12<(n:Int):=(by omega);have abq:(n:Int)≤12:=(by omega);clear aJ hB fF;go_enter x5,x6;go_wp2_with fail;with_reducible refine (qd _ _ _ b7 _).mono ?_
      rintro e bY ⟨rfl,rfl⟩;rw[qc];go_wp2_with fail;with_reducible refine (mE _ HK.out n x8 _).mono ?_
      rintro e bY ⟨rfl,rfl⟩;go_wp2_with fail
      go_quiet (fail)
      go_wp2_with fail;go_ret2;obtain rfl:=cc.out;obtain rfl:=bq.out;exact⟨rfl,_,rfl⟩
    ·rw[aR (by intro h;rcases h with h|h;exact Cc h;exact Pc h)] at E6;subst E6;have K':af (bA T.data.toList=n):=(by have av:=x8.out;rw[mS] at av;exact av);have axk:((d.toNat:Int)==43)=false:=HJ (k:=43) (by decide) Cc;have axl:((d.toNat:Int)==45)=false:=HJ (k:=45) (by decide) Pc;clear Cc Pc;by_cases fF:n<1∨12<n
     ·have aJ:=hB.out;rw[a8 fF] at aJ;simp only[fS] at aJ;obtain rfl:A=⟨#[]⟩:=lY aJ.1.symm;obtain rfl:R=S:=lY aJ.2.symm;clear aJ hB;by_cases kg:(n:Int)<1
      ·clear fF;go_enter x5,x6;go_wp2_with fail;with_reducible refine (qd _ _ _ b7 _).mono ?_
       rintro e bY ⟨rfl,rfl⟩;rw[qc];go_wp2_with fail;with_reducible refine (mE T (by unfold maxLen;omega) n K' _).mono ?_
       rintro e bY ⟨rfl,rfl⟩;go_wp2_with fail;go_ret2;exact⟨rfl,0,rfl⟩
      ·have E7:12<(n:Int):=(by omega);clear fF;go_enter x5,x6;go_wp2_with fail;with_reducible refine (qd _ _ _ b7 _).mono ?_
       rintro e bY ⟨rfl,rfl⟩;rw[qc];go_wp2_with fail;with_reducible refine (mE T (by unfold maxLen;omega) n K' _).mono ?_
       rintro e bY ⟨rfl,rfl⟩;go_wp2_with fail;go_ret2;exact⟨rfl,0,rfl⟩
     ·have aJ:=hB.out;rw[aR fF] at aJ;simp only[fS] at aJ;have cc:af (T.extract 0 n=A):=lY (by rw[CG];have:=aJ.1;rwa [kr] at this);have bq:af (T.extract n T.size=R):=lY (by rw[mS];have:=aJ.2;rwa [kr] at this);have kg:¬(n:Int)<1:=(by omega);have E7:¬12<(n:Int):=(by omega);have abq:(n:Int)≤12:=(by omega);clear aJ hB fF;go_enter x5,x6;go_wp2_with fail;with_reducible refine (qd _ _ _ b7 _).mono ?_
      rintro e bY ⟨rfl,rfl⟩;rw[qc];go_wp2_with fail;with_reducible refine (mE T (by unfold maxLen;omega) n K' _).mono ?_
      rintro e bY ⟨rfl,rfl⟩;go_wp2_with fail
      go_quiet (fail)
      go_wp2_with fail;go_ret2;obtain rfl:=cc.out;obtain rfl:=bq.out;exact⟨rfl,_,rfl⟩
 ·rw[aR hc] at aJ;simp only[fS] at aJ;obtain rfl:A=⟨#[]⟩:=lY aJ.1.symm;obtain rfl:R=S:=lY aJ.2.symm;have bf:af (∀r,R.data.toList≠(⟨#[c]⟩:Ua).data.toList++r):=(by intro r hr;apply hc;rw[hr];exact⟨by simp,rfl⟩);clear aJ hc;go_enter x5,x6;go_wp2_with fail;with_reducible refine (CI _ _ bf _).mono ?_
  rintro e bY ⟨rfl,rfl⟩;go_wp2_with fail;go_ret2;exact⟨rfl,0,rfl⟩
def x9(j:Nat)(c:UInt8):Bool:=Nn c ||(decide (0<j)&&RA c)
theorem amH(l:au)(av:1≤l.length)(az:l.length≤100):qX l=true↔∀j (h:j<l.length),x9 j l[j]=true:=by
 cases l with
 |nil=>simp at av
 |cons c r=>
  unfold qX;rw[e' av,e' az];simp only[Bool.true_and,List.headD_cons,Ap,rR,ix,List.all_eq_true];constructor
  ·rintro⟨ha,ay⟩ j cr;cases j with
   |zero=>unfold x9;simp[ha]
   |succ j=>
    have:=ay (r[j]'(by simpa using cr)) (List.getElem_mem _);unfold x9;simpa using this
  ·intro h;refine⟨?_,fun x hx=>?_⟩
   ·have:=h 0 (by simp);unfold x9 at this;simpa using this
   ·obtain⟨j,cr,rfl⟩:=List.getElem_of_mem hx;have:=h (j+1) (by simpa using cr);unfold x9 at this;simpa using this
theorem amI(j:Nat)(c:UInt8)(x:Int)(hx:(c.toNat:Int)=x):x9 j c=((decide (97≤x)&&decide (x≤122))||(decide (65≤x)&&decide (x≤90))|| decide (x=95)|| decide (x=46)|| decide (x=36)||(decide (0<j)&&((decide (48≤x)&&decide (x≤57))|| decide (x=45)))):=by
 have av:∀k:Nat,k<256→(c==UInt8.ofNat k)=decide (x=(k:Int)):=by
  intro k ax;rw[Cb,beq_iff_eq,K3,←hx];constructor
  ·intro h;rw[h];simp;omega
  ·intro h;apply E5;simp;omega
 have az:∀k:Nat,decide (k≤c.toNat)=decide ((k:Int)≤x):=by intro k;rw[yY,←hx];omega
 have aF:∀k:Nat,decide (c.toNat≤k)=decide (x≤(k:Int)):=by intro k;rw[yY,←hx];omega
 unfold x9 Nn RA e2;rw[az,aF,az,aF,az,aF,show (c==95)=_ from av 95 (by decide),show (c==46)=_ from av 46 (by decide),show (c==36)=_ from av 36 (by decide),show (c==45)=_ from av 45 (by decide)];rfl
theorem abr(S:Ua)(hs:S.size≤maxLen)(b:Bool)(ay:af (qX S.data.toList=b))(w:aeo):
    Calls Tryz.prog 91 #[aa S] w fun e w'=>e=ab (U b)∧w=w':=by
  unfold maxLen at hs;by_cases av:(S.size:Int)<1
  · have aO:af (false=b):=by show _=_;rw[←ay.out];unfold qX;rw[cG,eT (show ¬1≤S.size by omega)];rfl
    go_enter Tryz.func91,Tryz.ntmps91;go_wp2_with fail;go_ret;exact⟨ej aO.out,rfl⟩
  · by_cases az:100<(S.size:Int)
    · have aO:af (false=b):=by show _=_;rw[←ay.out];unfold qX;rw[cG,eT (show ¬S.size≤100 by omega)];simp
      go_enter Tryz.func91,Tryz.ntmps91;go_wp2_with fail;go_ret;exact⟨ej aO.out,rfl⟩
    · have bZ:af (qX S.data.toList=true↔∀j (h:j<S.data.toList.length),x9 j S.data.toList[j]=true):=amH _ (by rw[cG];omega) (by rw[cG];omega)
      go_enter Tryz.func91,Tryz.ntmps91;go_wp2_with fail
      go_loop [15] (fun i=>∃k:Nat,k≤S.size∧af (∀j (h:j<S.data.toList.length),j<k→x9 j S.data.toList[j]=true)∧i=I (k:Int)) (fun i=>S.size -(intOf i).toNat)
      case atStart=>exact⟨0,eE _,fun j _ h=>absurd h (Nat.not_lt_zero _),rfl⟩
      case round=>
        obtain⟨k,ax,dn,rfl⟩:=hrel;by_cases b1:k<S.size
        · have iE:k<S.data.toList.length:=by rw[cG];exact b1
          have i':(k:Int)<(S.size:Int):=(by omega);obtain⟨x,hx⟩:∃x,(S[k].toNat:Int)=x:=⟨_,rfl⟩;obtain⟨HL,Pd⟩:∃HL,x9 k S[k]=HL:=⟨_,rfl⟩;have zC:=Pd;rw[amI k S[k] x hx] at zC
          have ij:af (HL=true→∀j (h:j<S.data.toList.length),j<k+1→x9 j S.data.toList[j]=true):=by
            intro bB j cr A0;by_cases amJ:j=k
            · subst amJ;rw[n7 S j b1,Pd,bB]
            · exact dn.out j cr (by omega)
          have c6:af (HL=false→false=b):=(by intro hf;rw[←ay.out];refine (Bool.eq_false_iff.2 fun hn=>?_).symm;have:=bZ.out.1 hn k iE;rw[n7 S k b1,Pd,hf] at this;cases this);clear Pd;have jo:(97≤x∧x≤122)∨(123≤x)∨(x=96)∨(x=95)∨(91≤x∧x≤94)∨(65≤x∧x≤90)∨(58≤x∧x≤64)∨(48≤x∧x≤57)∨(x=47)∨(x=46)∨(x=45)∨(37≤x∧x≤44)∨(x=36)∨(x≤35):=(by omega);rcases jo with jo|jo|jo|jo|jo|jo|jo|jo|jo|jo|jo|jo|jo|jo
          all_goals
            first|have gf:97≤x:=by omega|have gf:¬97≤x:=by omega
            first|have e8:x≤122:=by omega|have e8:¬x≤122:=by omega
            first|have dN:65≤x:=by omega|have dN:¬65≤x:=by omega
            first|have ze:x≤90:=by omega|have ze:¬x≤90:=by omega
            first|have AD:48≤x:=by omega|have AD:¬48≤x:=by omega
            first|have AE:x≤57:=by omega|have AE:¬x≤57:=by omega
            first|have amK:(x==95)=true:=by rw[beq_iff_eq];omega|have amK:(x==95)=false:=by rw[beq_eq_false_iff_ne];omega
            first|have amL:(x==46)=true:=by rw[beq_iff_eq];omega|have amL:(x==46)=false:=by rw[beq_eq_false_iff_ne];omega
            first|have amM:(x==36)=true:=by rw[beq_iff_eq];omega|have amM:(x==36)=false:=by rw[beq_eq_false_iff_ne];omega
            first|have amN:(x==45)=true:=by rw[beq_iff_eq];omega|have amN:(x==45)=false:=by rw[beq_eq_false_iff_ne];omega
            by_cases q4:0<(k:Int)
            all_goals first
              | (have A5:HL=true:=by rw[←zC];simp only[DS,ix,K3];omega
                 have iQ:=aq (ij.out A5);clear zC jo A5 ij c6;go_wp2_with fail;go_round<;>first|exact⟨k+1,by omega,iQ.out,by go_num⟩|(simp[intOf]<;>omega))
              | (have A5:HL=false:=by rw[←zC,yS];intro h;simp only[DS,ix,K3] at h;omega
                 have aO:=aq (c6.out A5);clear zC jo A5 ij c6;go_wp2_with fail;go_ret;exact⟨ej aO.out,rfl⟩)
        · have aO:af (true=b):=by show _=_;rw[←ay.out];refine (bZ.out.2 fun j cr=>dn.out j cr ?_).symm;rw[cG] at cr;omega
          have i':¬((k:Int)<(S.size:Int)):=(by omega);go_wp2_with fail;go_ret;exact⟨ej aO.out,rfl⟩
def eW(B:Nat)(w:aeo)(p:Ja)(l:List Int):Prop:=0<l.length→∃(b o:Nat) (cs:ajv),p=some ⟨b,o,none⟩∧B≤b∧an w b cs 2∧∀i (hi:i<l.length),cs[o+i]?=some (I l[i])
theorem eW.nil(B:Nat)(w:aeo)(p:Ja):eW B w p []:=fun h=>absurd h (Nat.lt_irrefl _)
variable{l:List Int}{p:Ja}{B b:Nat}
theorem eW.below{w':aeo}(h:eW B w p l)(ay:ao w w w'):eW B w' p l:=by intro aA;obtain⟨b,o,cs,rfl,bL,aJ,hc⟩:=h aA;exact⟨b,o,cs,rfl,bL,aU aJ ay,hc⟩
theorem eW.mono{D:Nat}(h:eW B w p l)(cb:D≤B):eW D w p l:=by intro aA;obtain⟨b,o,cs,rfl,bL,aJ,hc⟩:=h aA;exact⟨b,o,cs,rfl,dB cb bL,aJ,hc⟩
abbrev b3:Value:=J 0
def iX(c:C)(a:Int)(c7 bv:ada):Array Value:= #[I a,I c.k,I c.n,I c.m,U c.on,aa ⟨c.t.toArray⟩,aa ⟨c.x.toArray⟩,aa ⟨c.y.toArray⟩,aa ⟨c.i.toArray⟩,aa ⟨c.j.toArray⟩,c7,bv]
abbrev kS(c:C)(a:Int)(c7 bv:ada):Value:=.agg (iX c a c7 bv)
abbrev tE(c:C)(a:Int)(c7 bv:ada):Obj:=.cells (iX c a c7 bv) 104
def CL(o:Option C)(w:aeo)(e:Ending)(w':aeo):Prop:=Below w.heap.size w w'∧∃(c:C) (p:Ja) (k:Nat),
 e=ab (.tuple #[kS c 0 (ad p c.b6.length k) b3,U o.isSome])∧eW w.heap.size w' p c.b6∧c.blocks=[]∧∀d,o=some d→d=c
variable{v0 v1 v2 v3 v4 v5 v6 db c8 v9 v10 v11:ada}{t:aai}
theorem dj(h:an x b (#[v0,v1,v2,v3,v4,v5,v6,db,c8,v9,v10,v11]) t):
  (ak x b 0 v0∧ak x b 1 v1∧ak x b 2 v2∧ak x b 3 v3∧ak x b 4 v4∧ak x b 5 v5∧ak x b 6 v6∧ak x b 7 db∧ak x b 8 c8∧ak x b 9 v9∧ak x b 10 v10∧ak x b 11 v11)∧
  (x.frozen? ⟨b,0,none⟩=false∧x.frozen? ⟨b,1,none⟩=false∧x.frozen? ⟨b,2,none⟩=false∧x.frozen? ⟨b,3,none⟩=false∧x.frozen? ⟨b,4,none⟩=false∧x.frozen? ⟨b,5,none⟩=false∧x.frozen? ⟨b,6,none⟩=false∧x.frozen? ⟨b,7,none⟩=false∧x.frozen? ⟨b,8,none⟩=false∧x.frozen? ⟨b,9,none⟩=false∧x.frozen? ⟨b,10,none⟩=false∧x.frozen? ⟨b,11,none⟩=false):=by
 refine⟨⟨?_,?_,?_,?_,?_,?_,?_,?_,?_,?_,?_,?_⟩,?_,?_,?_,?_,?_,?_,?_,?_,?_,?_,?_,?_⟩<;>simp[World.cell?,World.frozen?,h]
def kT(w:aeo)(b:Nat)(c:C)(a:Int)(c7 bv:ada):World:=
 (((((((((((w.setCell (aj b 0) (I a)).setCell (aj b 1) (I c.k)).setCell (aj b 2) (I c.n)).setCell (aj b 3) (I c.m)).setCell (aj b 4) (U c.on)).setCell (aj b 5) (aa ⟨c.t.toArray⟩)).setCell (aj b 6) (aa ⟨c.x.toArray⟩)).setCell (aj b 7) (aa ⟨c.y.toArray⟩)).setCell (aj b 8) (aa ⟨c.i.toArray⟩)).setCell (aj b 9) (aa ⟨c.j.toArray⟩)).setCell (aj b 10) (c7)).setCell (aj b 11) (bv)
theorem TM(h:an x b (#[v0,v1,v2,v3,v4,v5,v6,db,c8,v9,v10,v11]) t)(u:ada):(x.setCell (aj b 0) u).heap[b]?=some (.cells #[u,v1,v2,v3,v4,v5,v6,db,c8,v9,v10,v11] t):=kd h 0 u
theorem abt(h:an x b (#[v0,v1,v2,v3,v4,v5,v6,db,c8,v9,v10,v11]) t)(u:ada):(x.setCell (aj b 1) u).heap[b]?=some (.cells #[v0,u,v2,v3,v4,v5,v6,db,c8,v9,v10,v11] t):=kd h 1 u
theorem abu(h:an x b (#[v0,v1,v2,v3,v4,v5,v6,db,c8,v9,v10,v11]) t)(u:ada):(x.setCell (aj b 2) u).heap[b]?=some (.cells #[v0,v1,u,v3,v4,v5,v6,db,c8,v9,v10,v11] t):=kd h 2 u
theorem abv(h:an x b (#[v0,v1,v2,v3,v4,v5,v6,db,c8,v9,v10,v11]) t)(u:ada):(x.setCell (aj b 3) u).heap[b]?=some (.cells #[v0,v1,v2,u,v4,v5,v6,db,c8,v9,v10,v11] t):=kd h 3 u
theorem abw(h:an x b (#[v0,v1,v2,v3,v4,v5,v6,db,c8,v9,v10,v11]) t)(u:ada):(x.setCell (aj b 4) u).heap[b]?=some (.cells #[v0,v1,v2,v3,u,v5,v6,db,c8,v9,v10,v11] t):=kd h 4 u
theorem abx(h:an x b (#[v0,v1,v2,v3,v4,v5,v6,db,c8,v9,v10,v11]) t)(u:ada):(x.setCell (aj b 5) u).heap[b]?=some (.cells #[v0,v1,v2,v3,v4,u,v6,db,c8,v9,v10,v11] t):=kd h 5 u
theorem aby(h:an x b (#[v0,v1,v2,v3,v4,v5,v6,db,c8,v9,v10,v11]) t)(u:ada):(x.setCell (aj b 6) u).heap[b]?=some (.cells #[v0,v1,v2,v3,v4,v5,u,db,c8,v9,v10,v11] t):=kd h 6 u
theorem abz(h:an x b (#[v0,v1,v2,v3,v4,v5,v6,db,c8,v9,v10,v11]) t)(u:ada):(x.setCell (aj b 7) u).heap[b]?=some (.cells #[v0,v1,v2,v3,v4,v5,v6,u,c8,v9,v10,v11] t):=kd h 7 u
theorem abA(h:an x b (#[v0,v1,v2,v3,v4,v5,v6,db,c8,v9,v10,v11]) t)(u:ada):(x.setCell (aj b 8) u).heap[b]?=some (.cells #[v0,v1,v2,v3,v4,v5,v6,db,u,v9,v10,v11] t):=kd h 8 u
theorem abB(h:an x b (#[v0,v1,v2,v3,v4,v5,v6,db,c8,v9,v10,v11]) t)(u:ada):(x.setCell (aj b 9) u).heap[b]?=some (.cells #[v0,v1,v2,v3,v4,v5,v6,db,c8,u,v10,v11] t):=kd h 9 u
theorem abC(h:an x b (#[v0,v1,v2,v3,v4,v5,v6,db,c8,v9,v10,v11]) t)(u:ada):(x.setCell (aj b 10) u).heap[b]?=some (.cells #[v0,v1,v2,v3,v4,v5,v6,db,c8,v9,u,v11] t):=kd h 10 u
theorem abD(h:an x b (#[v0,v1,v2,v3,v4,v5,v6,db,c8,v9,v10,v11]) t)(u:ada):(x.setCell (aj b 11) u).heap[b]?=some (.cells #[v0,v1,v2,v3,v4,v5,v6,db,c8,v9,v10,u] t):=kd h 11 u
theorem amO{jt:aeo}(ay:ao w w jt)(hr:an jt w.heap.size (#[v0,v1,v2,v3,v4,v5,v6,db,c8,v9,v10,v11]) 104)(c:C)(a:Int)(c7 bv:ada):
  (kT jt w.heap.size c a c7 bv).heap[w.heap.size]?=some (tE c a c7 bv)∧ao w w (kT jt w.heap.size c a c7 bv):=by
 refine⟨(abD (abC (abB (abA (abz (aby (abx (abw (abv (abu (abt (TM hr _) _) _) _) _) _) _) _) _) _) _) _),?_⟩;unfold kT;exact ((((((((((((ay.setCell (bx _) _).setCell (bx _) _).setCell (bx _) _).setCell (bx _) _).setCell (bx _) _).setCell (bx _) _).setCell (bx _) _).setCell (bx _) _).setCell (bx _) _).setCell (bx _) _).setCell (bx _) _).setCell (bx _) _)
theorem TN(w:aeo){d:Nat}(h:d≠b)(c:C)(a:Int)(c7 bv:ada):(kT w b c a c7 bv).heap[d]?=w.heap[d]?:=by have key:∀(w:aeo) (i:Nat) (u:ada),(w.setCell (aj b i) u).heap[d]?=w.heap[d]?:=fun w i u=>uo _ _ _ _ h;unfold kT;rw[key,key,key,key,key,key,key,key,key,key,key,key]
theorem amP(ay:b<B)(h:eW B w p l)(c:C)(a:Int)(c7 bv:ada):eW B (kT w b c a c7 bv) p l:=by intro aA;obtain⟨d,o,cs,rfl,bL,aJ,hc⟩:=h aA;exact⟨d,o,cs,rfl,bL,(TN w (by omega) c a c7 bv).trans aJ,hc⟩
abbrev A6:Obj:=.cells #[I 0,I 0,I 0,I 0,U false,aa ⟨#[]⟩,aa ⟨#[]⟩,aa ⟨#[]⟩,aa ⟨#[]⟩,aa ⟨#[]⟩,J 0,J 0] 104
structure sk(w W:aeo):Prop where
 a:W.heap[w.heap.size]?=some A6
 b:ao w w W
theorem sk.below{ng:aeo}(h:sk w W)(ay:ao W W ng):sk w ng:=⟨aU h.a ay,h.b.trans (ay.mono h.b.size)⟩
theorem HM(w:aeo):sk w (w.alloc A6):=⟨ga w _,(Below.refl _ _).alloc (bx _) _⟩
theorem eR(S:Ua)(L:au):(S.toList==L)=decide (S.data.toList=L):=by rw[oN,Cb,beq_iff_eq,iO]
theorem Pe(s:Ua)(v:Int)(b:Bool)(aS:af ((dec s.data.toList).getD 0=v∧(dec s.data.toList).isSome=b))(hs:s.size≤maxLen)(w:aeo):
  Calls Tryz.prog 136 #[aa s] w fun e w'=>e=ab (.tuple #[I v,U b])∧w=w':=by
 obtain⟨av,az⟩:=aS.out;subst av;subst az;exact YO s w hs
variable{fn:Func}{u:Tmp}
theorem abE{P:Program}{p:Tmp}{ty:aai}(h:fn.results= #[.cell p ty,.tmp u])(tmps:ajv)(w:aeo)(g:Nat)(t:aai)(cs:ajv)(fr:Nat×Nat)(d:TypeDesc)
  (hp:tmps.getD p undef=.pointer (some (aj g 0))) (ba:w.heap[g]?=some (.cells cs t fr))
  (hu:P.underlying ty=some d) (hd:(match d with|.struct _|.array _ _=>true|_=>false)=true) (hi:(P.info? ty).map (·.size)=some cs.size):
  (results fn tmps).run P w=.ok (.tuple #[.agg cs,tmps.getD u undef]) w:=by
 rw[results_cell_tmp h,hp];simp only[asAddr,Sem.run_pure,Result.andThen_ok,run_loadVar_row w g t ty cs fr d ba hu hd hi]
variable{fr:Act}
theorem nM{p:Tmp}{Q:Ending→aeo→Prop}(D:C)(c7:ada)(h:fn.results= #[.cell p 104,.tmp u])(br:et=kT W w.heap.size D 0 c7 b3∨et=(kT W w.heap.size D 0 c7 b3).drew)(hp:fr.tmps.getD p undef=.pointer (some (aj w.heap.size 0)))(hd:fr.defers=[])(ha:an W w.heap.size (#[v0,v1,v2,v3,v4,v5,v6,db,c8,v9,v10,v11]) 104)(ay:ao w w W)(k:ao w w et→Q (ab (.tuple #[kS D 0 c7 b3,fr.tmps.getD u undef])) et):bodyPost Tryz.prog fn Q Exit.ret fr et:=by
 have aP:=amO ay ha D 0 c7 b3;rcases br with rfl|rfl
 ·exact bodyPost_ret (abE h _ _ w.heap.size _ _ _ _ hp aP.1 Tryz.underlying104 rfl (by kernel_rfl)) hd (k aP.2)
 ·exact bodyPost_ret (abE h _ _ w.heap.size _ _ _ _ hp (aU aP.1 (Below.refl _ _).drew) Tryz.underlying104 rfl (by kernel_rfl)) hd (k aP.2.drew)
theorem rk{p:Tmp}{o:Option C}{D:C}(bd:af (o=some D))(h:fn.results= #[.cell p 104,.tmp u])(br:et=kT W w.heap.size D 0 b3 b3∨et=(kT W w.heap.size D 0 b3 b3).drew)(hp:fr.tmps.getD p undef=.pointer (some (aj w.heap.size 0)))(hu:fr.tmps.getD u undef=U true)(hd:fr.defers=[])(aX:sk w W)(hn:D.b6=[])(ax:D.blocks=[]):bodyPost Tryz.prog fn (CL o w) Exit.ret fr et:=by
 refine nM D b3 h br hp hd aX.a aX.b fun ay=>⟨ay,D,none,0,?_,by rw[hn];exact eW.nil _ _ _,ax,?_⟩
 ·rw[hu,bd.out,hn];rfl
 ·rw[bd.out];intro e he;exact (Option.some.inj he).symm
theorem nh{p:Tmp}{o:Option C}(D:C)(bd:af (o=none))(h:fn.results= #[.cell p 104,.tmp u])(br:et=kT W w.heap.size D 0 b3 b3∨et=(kT W w.heap.size D 0 b3 b3).drew)(hp:fr.tmps.getD p undef=.pointer (some (aj w.heap.size 0)))(hu:fr.tmps.getD u undef=U false)(hd:fr.defers=[])(aX:sk w W)(hn:D.b6=[])(ax:D.blocks=[]):bodyPost Tryz.prog fn (CL o w) Exit.ret fr et:=by
 refine nM D b3 h br hp hd aX.a aX.b fun ay=>⟨ay,D,none,0,?_,by rw[hn];exact eW.nil _ _ _,ax,?_⟩
 ·rw[hu,bd.out,hn];rfl
 ·rw[bd.out];intro e he;cases he
theorem TO(t:au)(c:UInt8):(kG t c).2.length≤t.length:=by
 unfold kG;split
 ·split
  ·exact bx _
  ·rw[gI,gI];omega
 ·exact bx _
structure sl(w0:aeo)(c:C)(W:aeo):Prop where
 r:W.heap[w0.heap.size]?=some A6
 p:W.heap[w0.heap.size+1]?=some (tE c 0 b3 b3)
 aZ:ao w0 w0 W
theorem sl.below{w0 ng:aeo}{c:C}(h:sl w0 c W)(ay:ao W W ng):sl w0 c ng:=⟨aU h.r ay,aU h.p ay,h.aZ.trans (ay.mono h.aZ.size)⟩
theorem sl.put{w0:aeo}{c d:C}{k:Nat}{u:ada}(h:sl w0 c W)(hd:(iX c 0 b3 b3).setIfInBounds k u=iX d 0 b3 b3):sl w0 d (W.setCell (aj (w0.heap.size+1) k) u):=
 ⟨(uo _ _ _ _ (by show w0.heap.size≠w0.heap.size+1;omega)).trans h.r,by rw[kd h.p,hd],h.aZ.setCell (by show w0.heap.size≤w0.heap.size+1;omega) _⟩
theorem amQ(w:aeo)(c:C):sl w c ((w.alloc A6).alloc (tE c 0 b3 b3)):=by
 have a1:(w.alloc A6).heap.size=w.heap.size+1:=by simp
 refine⟨?_,?_,((Below.refl _ _).alloc (bx _) _).alloc (by omega) _⟩
 ·rw[xq _ _ _ (by omega)];exact ga w _
 ·have h:=ga (w.alloc A6) (tE c 0 b3 b3)
  rwa [a1] at h
theorem amR(S:Ua)(hs:S.size≤1000000000)(o:Option C)(bl:af (pX S.data.toList=o))(w:aeo):
  Calls Tryz.prog 95 #[aa S] w (CL o w):=by
 have aA:=bl.out;unfold pX at aA;obtain⟨gq,hA1⟩:=kb (kG S.data.toList 88).1;obtain⟨R1,qD⟩:=kb (kG S.data.toList 88).2;have H1:af (kG S.data.toList 88=(gq.data.toList,R1.data.toList)):=by show _=_;rw[hA1,qD]
 have vc:R1.size≤1000000000:=by have:=TO S.data.toList 88;rw[←qD,cG,cG] at this;omega
 obtain⟨hW,hA2⟩:=kb (kG R1.data.toList 89).1;obtain⟨gU,mU⟩:=kb (kG R1.data.toList 89).2;have c1:af (kG R1.data.toList 89=(hW.data.toList,gU.data.toList)):=by show _=_;rw[hA2,mU]
 have gQ:gU.size≤1000000000:=by have:=TO R1.data.toList 89;rw[←mU,cG,cG] at this;omega
 obtain⟨lK,hA3⟩:=kb (kG gU.data.toList 73).1;obtain⟨rl,zt⟩:=kb (kG gU.data.toList 73).2;have dM:af (kG gU.data.toList 73=(lK.data.toList,rl.data.toList)):=by show _=_;rw[hA3,zt]
 have x':rl.size≤1000000000:=by have:=TO gU.data.toList 73;rw[←zt,cG,cG] at this;omega
 obtain⟨rm,hA4⟩:=kb (kG rl.data.toList 74).1;obtain⟨ka,abF⟩:=kb (kG rl.data.toList 74).2;have iY:af (kG rl.data.toList 74=(rm.data.toList,ka.data.toList)):=by show _=_;rw[hA4,abF]
 rw[H1.out] at aA;simp only[] at aA;rw[c1.out] at aA;simp only[] at aA;rw[dM.out] at aA;simp only[] at aA;rw[iY.out] at aA;simp only[] at aA;have dT:=aq aA;have b7:=aq hs;have CM:=aq vc;have fb:=aq gQ;have kC:=aq x';clear aA bl hA1 qD hA2 mU hA3 zt hA4 abF vc gQ x' hs;have b5:af (sl w (b4 7) ((w.alloc (ai (#[I 0,I 0,I 0,I 0,U false,aa ⟨#[]⟩,aa ⟨#[]⟩,aa ⟨#[]⟩,aa ⟨#[]⟩,aa ⟨#[]⟩,J 0,J 0]) 104)).alloc (ai (#[I 0,I 7,I 0,I 0,U false,aa ⟨#[]⟩,aa ⟨#[]⟩,aa ⟨#[]⟩,aa ⟨#[]⟩,aa ⟨#[]⟩,J 0,J 0]) 104))):=amQ w _;go_enter Tryz.func95,Tryz.ntmps95;go_upto_region 2 with fail;generalize (w.alloc (ai (#[I 0,I 0,I 0,I 0,U false,aa ⟨#[]⟩,aa ⟨#[]⟩,aa ⟨#[]⟩,aa ⟨#[]⟩,aa ⟨#[]⟩,J 0,J 0]) 104)).alloc (.cells #[I 0,I 7,I 0,I 0,U false,aa ⟨#[]⟩,aa ⟨#[]⟩,aa ⟨#[]⟩,aa ⟨#[]⟩,aa ⟨#[]⟩,J 0,J 0] 104)=W at b5⊢;go_wp2_with fail;with_reducible refine (Pa S b7.out 88 gq R1 H1 _).mono ?_
 rintro e bY ⟨rfl,hd⟩;have bN:=aq (b5.out.below (ma hd));clear hd b5;obtain⟨⟨aN,aL,aI,c3,bJ,c5,b2,b',bX,bj,cu,dw⟩,f0,f1,f2,f3,f4,f5,f6,f7,f8,f9,f10,f11⟩:=dj bN.out.p;have b5:af (sl w {b4 7 with x:=gq.data.toList} (bY.setCell (aj (w.heap.size+1) 6) (aa gq))):=bN.out.put rfl;go_upto_region 3 with fail;generalize bY.setCell (aj (w.heap.size+1) 6) (aa gq)=W at b5⊢;clear aN aL aI c3 bJ c5 b2 b' bX bj cu dw f0 f1 f2 f3 f4 f5 f6 f7 f8 f9 f10 f11 bN;go_wp2_with fail;with_reducible refine (Pa R1 CM.out 89 hW gU c1 _).mono ?_
 rintro e bY ⟨rfl,hd⟩;have bN:=aq (b5.out.below (ma hd));clear hd b5;obtain⟨⟨aN,aL,aI,c3,bJ,c5,b2,b',bX,bj,cu,dw⟩,f0,f1,f2,f3,f4,f5,f6,f7,f8,f9,f10,f11⟩:=dj bN.out.p;have b5:af (sl w {b4 7 with x:=gq.data.toList,y:=hW.data.toList} (bY.setCell (aj (w.heap.size+1) 7) (aa hW))):=bN.out.put rfl;go_upto_region 4 with fail;generalize bY.setCell (aj (w.heap.size+1) 7) (aa hW)=W at b5⊢;clear aN aL aI c3 bJ c5 b2 b' bX bj cu dw f0 f1 f2 f3 f4 f5 f6 f7 f8 f9 f10 f11 bN;go_wp2_with fail;with_reducible refine (Pa gU fb.out 73 lK rl dM _).mono ?_
 rintro e bY ⟨rfl,hd⟩;have bN:=aq (b5.out.below (ma hd));clear hd b5;obtain⟨⟨aN,aL,aI,c3,bJ,c5,b2,b',bX,bj,cu,dw⟩,f0,f1,f2,f3,f4,f5,f6,f7,f8,f9,f10,f11⟩:=dj bN.out.p;have b5:af (sl w {b4 7 with x:=gq.data.toList,y:=hW.data.toList,i:=lK.data.toList} (bY.setCell (aj (w.heap.size+1) 8) (aa lK))):=bN.out.put rfl;go_upto_region 5 with fail;generalize bY.setCell (aj (w.heap.size+1) 8) (aa lK)=W at b5⊢;clear aN aL aI c3 bJ c5 b2 b' bX bj cu dw f0 f1 f2 f3 f4 f5 f6 f7 f8 f9 f10 f11 bN;go_wp2_with fail;with_reducible refine (Pa rl kC.out 74 rm ka iY _).mono ?_
 rintro e bY ⟨rfl,hd⟩;have bN:=aq (b5.out.below (ma hd));clear hd b5;obtain⟨⟨aN,aL,aI,c3,bJ,c5,b2,b',bX,bj,cu,dw⟩,f0,f1,f2,f3,f4,f5,f6,f7,f8,f9,f10,f11⟩:=dj bN.out.p;have b5:af (sl w {b4 7 with x:=gq.data.toList,y:=hW.data.toList,i:=lK.data.toList,j:=rm.data.toList} (bY.setCell (aj (w.heap.size+1) 9) (aa rm))):=bN.out.put rfl;go_upto_region 6 with fail;generalize bY.setCell (aj (w.heap.size+1) 9) (aa rm)=W at b5⊢;clear aN aL aI c3 bJ c5 b2 b' bX bj cu dw f0 f1 f2 f3 f4 f5 f6 f7 f8 f9 f10 f11 bN;by_cases bW:ka.data.toList=[68,48,49]
 ·have a1:(ka.toList==[68,48,49])=true:=(by rw[eR];exact e' bW);have ya:sT ka.data.toList=1:=(by unfold sT;rw[bW];rfl);have aA:=dT.out;rw[ya] at aA;have bd:af (o=some {b4 7 with x:=gq.data.toList,y:=hW.data.toList,i:=lK.data.toList,j:=rm.data.toList,n:=1}):=(by show _=_;rw[←aA];rfl);clear aA ya bW;obtain⟨⟨aN,aL,aI,c3,bJ,c5,b2,b',bX,bj,cu,dw⟩,f0,f1,f2,f3,f4,f5,f6,f7,f8,f9,f10,f11⟩:=dj b5.out.p;have bN:af (sl w {b4 7 with x:=gq.data.toList,y:=hW.data.toList,i:=lK.data.toList,j:=rm.data.toList,n:=1} (W.setCell (aj (w.heap.size+1) 2) (I 1))):=b5.out.put rfl;go_upto_region 13 with fail;clear aN aL aI c3 bJ c5 b2 b' bX bj cu dw f0 f1 f2 f3 f4 f5 f6 f7 f8 f9 f10 f11 b5;generalize W.setCell (aj (w.heap.size+1) 2) (I 1)=W at bN⊢;have b5:=bN;clear bN;obtain⟨⟨aN,aL,aI,c3,bJ,c5,b2,b',bX,bj,cu,dw⟩,f0,f1,f2,f3,f4,f5,f6,f7,f8,f9,f10,f11⟩:=dj b5.out.p;obtain⟨⟨d0,d1,d2,d3,d4,d5,d6,d7,d8,d9,d10,d11⟩,g0,g1,g2,g3,g4,g5,g6,g7,g8,g9,g10,g11⟩:=dj b5.out.r;go_region
  all_goals
   clear aN aL aI c3 bJ c5 b2 b' bX bj cu dw f0 f1 f2 f3 f4 f5 f6 f7 f8 f9 f10 f11 d0 d1 d2 d3 d4 d5 d6 d7 d8 d9 d10 d11 g0 g1 g2 g3 g4 g5 g6 g7 g8 g9 g10 g11;go_wp2_with fail;exact rk (W:=W) bd rfl (.inr rfl) rfl rfl rfl ⟨b5.out.r,b5.out.aZ⟩ rfl rfl
 ·have a1:(ka.toList==[68,48,49])=false:=(by rw[eR];exact eT bW);by_cases cj:ka.data.toList=[68,48,50]
  ·have a6:(ka.toList==[68,48,50])=true:=(by rw[eR];exact e' cj);have ya:sT ka.data.toList=2:=(by unfold sT;rw[cj];rfl);have aA:=dT.out;rw[ya] at aA;have bd:af (o=some {b4 7 with x:=gq.data.toList,y:=hW.data.toList,i:=lK.data.toList,j:=rm.data.toList,n:=2}):=(by show _=_;rw[←aA];rfl);clear aA ya cj;obtain⟨⟨aN,aL,aI,c3,bJ,c5,b2,b',bX,bj,cu,dw⟩,f0,f1,f2,f3,f4,f5,f6,f7,f8,f9,f10,f11⟩:=dj b5.out.p;have bN:af (sl w {b4 7 with x:=gq.data.toList,y:=hW.data.toList,i:=lK.data.toList,j:=rm.data.toList,n:=2} (W.setCell (aj (w.heap.size+1) 2) (I 2))):=b5.out.put rfl;go_upto_region 13 with fail;clear aN aL aI c3 bJ c5 b2 b' bX bj cu dw f0 f1 f2 f3 f4 f5 f6 f7 f8 f9 f10 f11 b5;generalize W.setCell (aj (w.heap.size+1) 2) (I 2)=W at bN⊢;have b5:=bN;clear bN;obtain⟨⟨aN,aL,aI,c3,bJ,c5,b2,b',bX,bj,cu,dw⟩,f0,f1,f2,f3,f4,f5,f6,f7,f8,f9,f10,f11⟩:=dj b5.out.p;obtain⟨⟨d0,d1,d2,d3,d4,d5,d6,d7,d8,d9,d10,d11⟩,g0,g1,g2,g3,g4,g5,g6,g7,g8,g9,g10,g11⟩:=dj b5.out.r;go_region
   all_goals
    clear aN aL aI c3 bJ c5 b2 b' bX bj cu dw f0 f1 f2 f3 f4 f5 f6 f7 f8 f9 f10 f11 d0 d1 d2 d3 d4 d5 d6 d7 d8 d9 d10 d11 g0 g1 g2 g3 g4 g5 g6 g7 g8 g9 g10 g11;go_wp2_with fail;exact rk (W:=W) bd rfl (.inr rfl) rfl rfl rfl ⟨b5.out.r,b5.out.aZ⟩ rfl rfl
  ·have a6:(ka.toList==[68,48,50])=false:=(by rw[eR];exact eT cj);by_cases eb:ka.data.toList=[68,48,51]
   ·have ch:(ka.toList==[68,48,51])=true:=(by rw[eR];exact e' eb);have ya:sT ka.data.toList=3:=(by unfold sT;rw[eb];rfl);have aA:=dT.out;rw[ya] at aA;have bd:af (o=some {b4 7 with x:=gq.data.toList,y:=hW.data.toList,i:=lK.data.toList,j:=rm.data.toList,n:=3}):=(by show _=_;rw[←aA];rfl);clear aA ya eb;obtain⟨⟨aN,aL,aI,c3,bJ,c5,b2,b',bX,bj,cu,dw⟩,f0,f1,f2,f3,f4,f5,f6,f7,f8,f9,f10,f11⟩:=dj b5.out.p;have bN:af (sl w {b4 7 with x:=gq.data.toList,y:=hW.data.toList,i:=lK.data.toList,j:=rm.data.toList,n:=3} (W.setCell (aj (w.heap.size+1) 2) (I 3))):=b5.out.put rfl;go_upto_region 13 with fail;clear aN aL aI c3 bJ c5 b2 b' bX bj cu dw f0 f1 f2 f3 f4 f5 f6 f7 f8 f9 f10 f11 b5;generalize W.setCell (aj (w.heap.size+1) 2) (I 3)=W at bN⊢;have b5:=bN;clear bN;obtain⟨⟨aN,aL,aI,c3,bJ,c5,b2,b',bX,bj,cu,dw⟩,f0,f1,f2,f3,f4,f5,f6,f7,f8,f9,f10,f11⟩:=dj b5.out.p;obtain⟨⟨d0,d1,d2,d3,d4,d5,d6,d7,d8,d9,d10,d11⟩,g0,g1,g2,g3,g4,g5,g6,g7,g8,g9,g10,g11⟩:=dj b5.out.r;go_region
    all_goals
     clear aN aL aI c3 bJ c5 b2 b' bX bj cu dw f0 f1 f2 f3 f4 f5 f6 f7 f8 f9 f10 f11 d0 d1 d2 d3 d4 d5 d6 d7 d8 d9 d10 d11 g0 g1 g2 g3 g4 g5 g6 g7 g8 g9 g10 g11;go_wp2_with fail;exact rk (W:=W) bd rfl (.inr rfl) rfl rfl rfl ⟨b5.out.r,b5.out.aZ⟩ rfl rfl
   ·have ch:(ka.toList==[68,48,51])=false:=(by rw[eR];exact eT eb);have ya:sT ka.data.toList=0:=(by unfold sT;rw[aR bW,aR cj,aR eb]);have aA:=dT.out;rw[ya] at aA;have bd:af (o=none):=(by show _=_;rw[←aA];rfl);clear aA ya bW cj eb;go_upto_region 13 with fail;obtain⟨⟨aN,aL,aI,c3,bJ,c5,b2,b',bX,bj,cu,dw⟩,f0,f1,f2,f3,f4,f5,f6,f7,f8,f9,f10,f11⟩:=dj b5.out.p;obtain⟨⟨d0,d1,d2,d3,d4,d5,d6,d7,d8,d9,d10,d11⟩,g0,g1,g2,g3,g4,g5,g6,g7,g8,g9,g10,g11⟩:=dj b5.out.r;go_region
    all_goals
     clear aN aL aI c3 bJ c5 b2 b' bX bj cu dw f0 f1 f2 f3 f4 f5 f6 f7 f8 f9 f10 f11 d0 d1 d2 d3 d4 d5 d6 d7 d8 d9 d10 d11 g0 g1 g2 g3 g4 g5 g6 g7 g8 g9 g10 g11;go_wp2_with fail;exact nh (W:=W) {b4 7 with x:=gq.data.toList,y:=hW.data.toList,i:=lK.data.toList,j:=rm.data.toList} bd rfl (.inr rfl) rfl rfl rfl ⟨b5.out.r,b5.out.aZ⟩ rfl rfl
end gT
