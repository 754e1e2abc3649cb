/- Lemmas. -/
import Derived.Test.YtkaiaijcieaofaaGreatDoorQ31
set_option linter.all false
set_option maxRecDepth 100000
set_option maxHeartbeats 25600000
namespace Go.Proofs.YtkaiaijcieaofaaGreatDoor
abbrev wV:=@Proofs.Tryz.func71
abbrev wW:=@Proofs.Tryz.ntmps71
namespace gK
open Go.RowKit gI ga jz Mem hL cB
theorem adY{s:je}(h:wJ s)(hn:s.words.length<20000)(bc:s.text.length<10000)(a:Nat)(c:UInt8):wJ {s with text:=s.text++[c],a:=a}:=
 ⟨h.n0,fun _=>hn,by simp;omega,h.n4⟩
theorem aqq(B R:Nat)(s:je)(hq iC:ada)(w:aeo)(bz:B≤w.heap.size)(H:af (gS B R hq iC s w))(hf:wJ s)(c:UInt8)(x:Int)(hx:af ((c.toNat:Int)=x))(i:Nat)(hi:i≤1000000)(res:Except Nat je)(c6:af (w6 s c i=res)):
  Calls Tryz.prog 71 #[ah R 0,.int .u8 x,I (i:Int)] w (aaw B R w res):=by
 have cE:=ao bz;have aJ:=ao hf;clear hf;have IQ:=c.toNat_lt;have sV:=hx.out;obtain⟨aV,aT,c2,c3,cD⟩:=H.out.cells;have nd:=H.out.dk;obtain⟨p,cap,rfl,q5,qX⟩:=Wc H.out.tx;obtain⟨mU,yo,rfl⟩:=iw H.out.ws;clear q5 qX;have az:=c6.out;unfold w6 at az;clear c6;by_cases kv:c=13∨c=10
 ·rw[aW kv] at az;have aQ:=ao az;have cc:af (wJ s∧∃hq iC,gS B R hq iC s w):=⟨aJ.out,_,_,H.out⟩;clear az
  have y9:x=13∨x=10:=by
   rcases kv with rfl|rfl
   ·exact .inl (by rw[←sV];rfl)
   ·exact .inr (by rw[←sV];rfl)
  clear kv sV hx IQ;rcases y9 with rfl|rfl
  all_goals
   go_enter wV,wW;go_wp2_with fail;go_ret;rw[←aQ.out];exact⟨Below.refl _ _,rfl,cc.out⟩
 ·rw[aN kv] at az;have adZ:(x==13)=false:=(by rw[yC];intro h;apply kv;left;apply E4;have:x=13:=(by simpa using h);show c.toNat=13;omega);have xq:(x==10)=false:=(by rw[yC];intro h;apply kv;right;apply E4;have:x=10:=(by simpa using h);show c.toNat=10;omega);by_cases F2:c.toNat<32∨126<c.toNat
  ·rw[aW F2] at az;have aQ:=ao az;clear az;by_cases au:x<32
   ·clear F2 kv sV hx IQ;go_enter wV,wW;go_wp2_with fail;go_ret;rw[←aQ.out];exact⟨Below.refl _ _,rfl⟩
   ·have ax:126<x:=(by omega);clear F2 kv sV hx IQ;go_enter wV,wW;go_wp2_with fail;go_ret;rw[←aQ.out];exact⟨Below.refl _ _,rfl⟩
  ·rw[aN F2] at az;have au:32≤x:=(by omega);have ax:x≤126:=(by omega);by_cases F3:c=42
   ·rw[aW F3] at az;have aQ:=ao az;have y9:x=42:=(by rw[←sV,F3];rfl);subst y9;clear az F3 F2 kv sV hx IQ adZ xq au ax aV aT c2 c3 cD nd;go_enter wV,wW;go_wp2_with fail;with_reducible refine (PS B R s _ _ w cE.out H aJ.out res aQ).mono ?_
    rintro e bt ⟨ay,hr⟩;cases res with
    |error k=>
     obtain rfl:=hr;have dy:=ao ay;clear ay;go_wp2_with fail;go_ret;exact⟨dy.out,rfl⟩
    |ok s'=>
     obtain⟨rfl,hr⟩:=hr;have dy:=ao (And.intro ay hr);clear ay hr;go_wp2_with fail;go_ret;exact⟨dy.out.1,rfl,dy.out.2⟩
   ·rw[aN F3] at az;have aqr:(x==42)=false:=(by rw[yC];intro h;apply F3;apply E4;have:x=42:=(by simpa using h);show c.toNat=42;omega);by_cases IS:c=37
    ·rw[aW IS] at az;have y9:x=37:=(by rw[←sV,IS];rfl);subst y9;clear IS F3 F2 kv sV hx IQ adZ xq aqr au ax;by_cases fb:s.text≠[]∨(s.group=true∧s.inner=0)
     ·rw[aW fb] at az;have aQ:=ao az;clear az;by_cases bc:s.text.length=0
      ·have aI:s.group=true∧s.inner=0:=fb.resolve_left (fun h=>h (lP bc));rw[aI.1] at c3;rw[aI.2] at cD;rw[bc] at aT;clear fb aI bc;go_enter wV,wW;go_wp2_with fail;go_ret;rw[←aQ.out];exact⟨Below.refl _ _,rfl⟩
      ·have wA:0<s.text.length:=(by omega);clear fb bc;go_enter wV,wW;go_wp2_with fail;go_ret;rw[←aQ.out];exact⟨Below.refl _ _,rfl⟩
     ·rw[aN fb] at az;have aQ:=ao az;have bc:s.text=[]:=vJ fun h=>fb (.inl h);have Bu:s.text.length=0:=by rw[bc];rfl
      have aqs:s.group=false∨¬s.inner=0:=by
       cases aI:s.group with
       |false=>exact .inl rfl
       |true=>exact .inr fun h=>fb (.inr ⟨aI,h⟩)
      rw[Bu] at aT;have C5:af (gS B R (ad mU s.words.length yo) (ad p s.text.length cap) {s with group:=!s.group} (w.setCell (aj R 3) (U (!s.group)))):=H.out.RO _;have cG:af (Below B w (w.setCell (aj R 3) (U (!s.group)))):=(Below.refl _ _).setCell (p:=⟨R,3,none⟩) H.out.ge _;have zj:af (gS B R (ad mU s.words.length yo) (ad p s.text.length cap) {s with group:=!s.group,inner:=0} ((w.setCell (aj R 3) (U (!s.group))).setCell (aj R 4) (I 0))):=C5.out.aav 0 0 rfl;have dy:af (Below B w ((w.setCell (aj R 3) (U (!s.group))).setCell (aj R 4) (I 0))):=cG.out.setCell (p:=⟨R,4,none⟩) H.out.ge _;have dY:af (wJ {s with group:=!s.group,inner:=0}):=⟨aJ.out.n0,aJ.out.eG,aJ.out.fT,cO _⟩;clear az fb bc Bu;have hz:(w.setCell (aj R 3) (U (!s.group))).cell? ⟨R,4,none⟩=_:=C5.out.cells.2.2.2.2;have f4:(w.setCell (aj R 3) (U (!s.group))).frozen? ⟨R,4,none⟩=_:=C5.out.dk 4;rcases aqs with aI|kf
      ·generalize EO:(!s.group)=FX at aQ C5 cG zj dy dY hz f4;have zk:FX=true:=(by rw[←EO,aI];rfl);clear EO;rw[aI] at c3;subst zk;clear aI;go_enter wV,wW;go_wp2_with fail;go_ret;rw[←aQ.out];exact⟨dy.out,rfl,dY.out,_,_,zj.out⟩
      ·have ap5:((s.inner:Int)==0)=false:=(by simp;omega);clear kf;go_enter wV,wW;generalize EO:s.group=g0 at c3 aQ C5 cG zj dy dY hz f4;clear EO;cases g0
       all_goals
        go_wp2_with fail;go_ret;rw[←aQ.out];exact⟨dy.out,rfl,dY.out,_,_,zj.out⟩
    ·rw[aN IS] at az;have awJ:(x==37)=false:=(by rw[yC];intro h;apply IS;apply E4;have:x=37:=(by simpa using h);show c.toNat=37;omega);clear IS F3 F2 kv IQ;by_cases bc:s.text=[]
     ·rw[aW bc] at az;have Bu:s.text.length=0:=(by rw[bc];rfl);have dr:=ao bc;rw[Bu] at aT;by_cases hw:s.words.length=20000
      ·rw[aW hw] at az;have aQ:=ao az;rw[hw] at aV;clear az bc Bu hw sV;go_enter wV,wW;go_wp2_with fail;go_ret;rw[←aQ.out];exact⟨Below.refl _ _,rfl⟩
      ·rw[aN hw] at az;unfold DV at az;rw[aN (show ¬({s with a:=i}:je).text.length=10000 by show ¬s.text.length=10000;rw[Bu];omega)] at az;have aQ:=ao az;have ry:((s.words.length:Int)==20000)=false:=(by simp;omega);have aqt:af (s.words.length<20000):=(by show _<_;have:=aJ.out.n0;omega);have hg:=H.out.at i;rw[Bu] at hg;have bN:af (gS B R (ad mU s.words.length yo) (ad p 0 cap) {s with a:=i} (w.setCell (aj R 2) (I (i:Int)))):=hg;have cG:af (Below B w (w.setCell (aj R 2) (I (i:Int)))):=(Below.refl _ _).setCell (p:=⟨R,2,none⟩) H.out.ge _;have ei:af (s.text.length=0):=Bu;clear az hw hg Bu sV bc;go_enter wV,wW;go_upto_region 17 with fail;obtain⟨_,d1,_⟩:=bN.out.cells;have Qw:=ao (aau (H.out.at i).tx);generalize w.setCell (aj R 2) (I (i:Int))=b5 at bN cG Qw d1⊢;obtain⟨i0,kf,cW,dv,dx⟩:=info_parts aay;have bL:=ao (And.intro kf (And.intro cW (And.intro dv dx)));clear kf cW dv dx;go_wp2_with (at_builtin;refine wz _ rfl _ _ _ rfl B 5 i0 (.int .u8 0) 1 1 Qp bL.out.1 bL.out.2.1 bL.out.2.2.1 bL.out.2.2.2 rfl (by omega) (ad p 0 cap) 0 ([]) (by rfl) (Qw.out.alloc _) (aj ((b5).heap.size) 0) 1 1 [.int .u8 x] (by rfl) rfl (jx (dL (b5) _)) (by simp[Value.oneCell']) (by unfold maxLen;omega) (by omega) (by have:=cE.out;have:=cG.out.size;simp<;>omega) ?_;intro v' w' gr h9 om;obtain⟨mG,k7,rfl,_,_⟩:=gr.form (by omega);rw[←hx.out] at gr;obtain⟨qf,hT,zK⟩:=bN.out.add (c:=c) (v':=ad (some (aj mG 0)) (0+1) k7) ((Below.refl _ _).alloc (aP _) _) h9 (by rw[dr.out];exact gr) (cd cE.out cG.out.size);have lY:=ao (And.intro qf (cG.out.trans hT));have VM:ak w' R 1 _:=Cd w' R 1 _ _ (0,0) zK;have VN:w'.frozen? ⟨R,1,none⟩=false:=(by simp[World.frozen?,zK]);clear qf hT zK gr h9 om);go_ret;rw[←aQ.out];exact⟨lY.out.2,rfl,adY aJ.out aqt.out (by have:=ei.out;omega) i c,_,_,lY.out.1⟩
     ·rw[aN bc] at az;have wA:((s.text.length:Int)==0)=false:=(by have:=List.length_pos_iff.2 bc;simp;omega);have dr:=ao bc;unfold DV at az;by_cases hn:s.text.length=10000
      ·rw[aW hn] at az;have aQ:=ao az;rw[hn] at aT;clear az hn bc wA sV;go_enter wV,wW;go_wp2_with fail;go_ret;rw[←aQ.out];exact⟨Below.refl _ _,rfl⟩
      ·rw[aN hn] at az;have aQ:=ao az;have h2:((s.text.length:Int)==10000)=false:=(by simp;omega);have h3:s.text.length<10000:=(by have:=aJ.out.fT;omega);have bN:af (gS B R (ad mU s.words.length yo) (ad p s.text.length cap) s w):=H.out;have cG:af (Below B w w):=Below.refl _ _;have Qw:=ao H.out.tx;clear az hn bc sV;go_enter wV,wW;obtain⟨i0,kf,cW,dv,dx⟩:=info_parts aay;have bL:=ao (And.intro kf (And.intro cW (And.intro dv dx)));clear kf cW dv dx;go_wp2_with (at_builtin;refine wz _ rfl _ _ _ rfl B 5 i0 (.int .u8 0) 1 1 Qp bL.out.1 bL.out.2.1 bL.out.2.2.1 bL.out.2.2.2 rfl (by omega) (ad p s.text.length cap) s.text.length (su s.text) (by rfl) (Qw.out.alloc _) (aj ((w).heap.size) 0) 1 1 [.int .u8 x] (by rfl) rfl (jx (dL (w) _)) (by simp[Value.oneCell']) (by unfold maxLen;omega) (by omega) (by have:=cE.out;have:=cG.out.size;simp<;>omega) ?_;intro v' w' gr h9 om;obtain⟨mG,k7,rfl,_,_⟩:=gr.form (by omega);rw[←hx.out] at gr;obtain⟨qf,hT,zK⟩:=bN.out.add (c:=c) (v':=ad (some (aj mG 0)) (s.text.length+1) k7) ((Below.refl _ _).alloc (aP _) _) h9 (gr) (cd cE.out cG.out.size);have lY:=ao (And.intro qf (cG.out.trans hT));have VM:ak w' R 1 _:=Cd w' R 1 _ _ (0,0) zK;have VN:w'.frozen? ⟨R,1,none⟩=false:=(by simp[World.frozen?,zK]);clear qf hT zK gr h9 om);go_ret;rw[←aQ.out];exact⟨lY.out.2,rfl,adY aJ.out (aJ.out.eG dr.out) h3 s.a c,_,_,lY.out.1⟩
def aqu(ws:List eR)(i e:Nat)(w:aeo)(b3:Ending)(w':aeo):Prop:=
 ∃v,b3=ab (.tuple #[v,I (i:Int),I (e:Int)])∧w'.ownsRow w.heap.size 125 4 v ws.length (rI ws)∧an w w w'
theorem Qx(w:aeo)(B:Nat):w.ownsRow B 125 4 (J 0) ([]:List eR).length (rI []):=⟨rfl,.inl ⟨rfl,rfl⟩⟩
def after(k:Nat)(r:ar):Except Nat je→Except (Nat×Nat) je
 |.error e=>.error (k,e)
 |.ok s'=>nz r (k+1) s'
theorem aqv{l:ar}{k:Nat}(h:k<l.length)(s:je):nz (l.drop k) k s=after k (l.drop (k+1)) (w6 s l[k] k):=by rw[rZ h];unfold after;rfl
theorem ad0{s:je}{c:UInt8}{i e:Nat}(h:w6 s c i=.error e):0<e:=by
 unfold w6 Jx DV at h
 repeat' split at h
 all_goals first|(injection h with h;omega)|cases h
theorem aqw(w:aeo):gS w.heap.size w.heap.size (J 0) (J 0) w5 (w.alloc (CB (J 0) (J 0) 0 false 0)):=
 ⟨aP _,dL w _,⟨rfl,.inl ⟨rfl,rfl⟩⟩,⟨rfl,.inl ⟨rfl,rfl⟩⟩⟩
theorem aqx:wJ w5:=⟨by decide,fun h=>absurd rfl h,by decide,aP _⟩
theorem aqy(S:Ua)(hm:S.size≤maxLen)(w:aeo)(ws:List eR)(i e:Nat)(hw:af (ta S.data.toList=(ws,i,e))):
  Calls Tryz.prog 52 #[aa S] w (aqu ws i e w):=by
 unfold maxLen at hm;have hlen:S.data.toList.length=S.size:=ch S;have hx:=hw.out;unfold ta at hx;by_cases pv:1000000<(S.size:Int)
 ·rw[aW (by omega)] at hx;simp only[fg] at hx;obtain⟨rfl,rfl,rfl⟩:=hx;clear hlen;go_enter Tryz.func52,Tryz.ntmps52;go_wp2_with fail;go_ret3;exact⟨_,rfl,Qx w _,Below.refl _ _⟩
 ·rw[aN (by omega)] at hx;have cK:=ao hx;have hS:S.size≤1000000:=(by omega);have aQ:af (gS w.heap.size w.heap.size (J 0) (J 0) w5 (w.alloc (CB (J 0) (J 0) 0 false 0))):=aqw w;have aH:af (an w w (w.alloc (CB (J 0) (J 0) 0 false 0))):=(Below.refl _ _).alloc (aP _) _;clear hx hlen hw;go_enter Tryz.func52,Tryz.ntmps52;go_wp2_with fail
  go_loopw [6] (fun x wr=>∃(k:Nat) (s:je) (hq iC:ada),k≤S.size∧af (wJ s∧gS w.heap.size w.heap.size hq iC s wr∧an w w wr∧nz (S.data.toList.drop k) k s=nz S.data.toList 0 w5)∧x=I (k:Int)) (fun x _=>S.size -(intOf x).toNat)
  case atStart=>exact⟨0,w5,_,_,cO _,⟨aqx,aQ.out,aH.out,rfl⟩,rfl⟩
  case round=>
  obtain⟨k,s,hq,iC,aw,H,rfl⟩:=hrel;by_cases bm:k<S.size
  ·have kL:k<S.data.toList.length:=(by rw[ch];exact bm);obtain⟨x,sV⟩:=aq (S[k].toNat:Int);have Qo:=ao sV;obtain⟨res,c6⟩:=aq (w6 s S[k] k);have o8:=ao c6;have qj:nz S.data.toList 0 w5=after k (S.data.toList.drop (k+1)) res:=(by rw[←H.out.2.2.2,aqv kL,oo S k bm,c6]);have KP:=ao qj;have fD:(k:Int)<(S.size:Int):=(by omega);clear qj c6;go_wp2_with fail;with_reducible refine (aqq w.heap.size w.heap.size s hq iC _ H.out.2.2.1.size (ao H.out.2.1) H.out.1 S[k] x Qo k (by omega) res o8).mono ?_
   rintro b3 bt ⟨ay,hr⟩;cases res with
   |error x3=>
    obtain rfl:=hr;have aqz:=ad0 o8.out;have qc:=cK.out;rw[KP.out] at qc;simp only[after,fg] at qc;obtain⟨rfl,rfl,rfl⟩:=qc;have dy:=ao (H.out.2.2.1.trans ay);have hne:((x3:Int)==0)=false:=(by simp;omega);have Gk:((x3:Int) !=0)=true:=(by simp;omega);clear ay aqz;go_wp2_with fail;go_ret3;exact⟨_,rfl,Qx _ _,dy.out⟩
   |ok s'=>
    obtain⟨rfl,ad1,ad2,ad3,AV⟩:=hr;have bd:af (wJ s'∧gS w.heap.size w.heap.size ad2 ad3 s' bt∧an w w bt∧nz (S.data.toList.drop (k+1)) (k+1) s'=nz S.data.toList 0 w5):=⟨ad1,AV,H.out.2.2.1.trans ay,KP.out.symm⟩;clear ay ad1 AV;go_wp2_with fail;go_round<;>first|exact⟨k+1,s',ad2,ad3,by omega,bd.out,by go_num⟩|(simp[intOf]<;>omega)
  ·have jE:k=S.size:=(by omega);have qj:nz S.data.toList 0 w5=.ok s:=(by rw[←H.out.2.2.2,Ac (by rw[ch];omega)];rfl);have qc:=cK.out;rw[qj] at qc;obtain⟨aV,aT,c2,c3,cD⟩:=H.out.2.1.cells;obtain⟨p,cap,rfl,q5,qX⟩:=Wc H.out.2.1.tx;obtain⟨mU,yo,rfl⟩:=iw H.out.2.1.ws;have fD:¬((k:Int)<(S.size:Int)):=(by omega);clear q5 qX qj;by_cases fb:s.text≠[]∨s.group=true
   ·simp only[] at qc;rw[aW fb,ch] at qc;simp only[fg] at qc;obtain⟨rfl,rfl,rfl⟩:=qc;have cc:af (an w w wr):=H.out.2.2.1;by_cases bc:s.text.length=0
    ·have aI:s.group=true:=fb.resolve_left (fun h=>h (lP bc));rw[aI] at c3;rw[bc] at aT;clear fb aI bc;go_wp2_with fail;go_ret3;exact⟨_,rfl,Qx _ _,cc.out⟩
    ·have wA:0<s.text.length:=(by omega);clear fb bc;go_wp2_with fail;go_ret3;exact⟨_,rfl,Qx _ _,cc.out⟩
   ·simp only[] at qc;rw[aN fb] at qc;simp only[fg] at qc;obtain⟨rfl,rfl,rfl⟩:=qc;have bc:s.text.length=0:=(by rw[aas];exact vJ fun h=>fb (.inl h));have aI:s.group=false:=Bool.eq_false_iff.2 fun h=>fb (.inr h);rw[aI] at c3;rw[bc] at aT;clear fb aI bc;go_wp2_with fail;go_ret3;exact⟨_,rfl,H.out.2.1.ws,H.out.2.2.1⟩
def lenOf:ada→Nat
 |.slice _ n _=>n
 |_=>0
def ad4(l:List (Nat×C))(i e:Nat)(w:aeo)(b3:Ending)(w':aeo):Prop:=Below w.heap.size w w'∧∃v,b3=ab (.tuple #[v,I (i:Int),I (e:Int)])∧jO w.heap.size w' v l
theorem Qy:∀{l:ar} {k:Nat} {s:je} {i e:Nat},nz l k s=.error (i,e)→e≠0
 |[],k,s,i,e,h=>by cases h
 |c::l,k,s,i,e,h=>by
  unfold nz at h;split at h
  ·rename_i ax;cases h;exact Nat.pos_iff_ne_zero.1 (ad0 ax)
  ·exact Qy h
theorem aqA{s:ar}{ws:List eR}{i:Nat}(h:ta s=(ws,i,0)):i=0:=by
 unfold ta at h;split at h
 ·simp at h
 ·split at h
  ·rename_i ax;simp only[fg] at h;exact absurd h.2.2 (Qy ax)
  ·split at h
   ·simp at h
   ·simp only[fg] at h;exact h.2.1.symm
def aqB(r:Except (Nat×Nat) (List C))(B:Nat)(br:aeo)(v:ada)(a e:Nat):Prop:=match r with
 |.ok cs=>e=0∧jO B br v (rh cs)
 |.error y=>a=y.1∧e=y.2
variable{w w':aeo}
theorem aqC{p:Addr}{v:ada}(h:w.cell? p=some v):p.block<w.heap.size:=World.block_lt_of_cell? w p h
variable{p Dn:Ja}{xs:aev}
theorem aqD{W X bk:aeo}{N Bv a:Nat}{pY:Int}{v':ada}{L:List (Nat×C)}{c:C}{pn o2:Ja}{jd ea:Nat}(Bs:(a:Int)=pY)(hk:L.length=N)(hx:W.ownsRow w.heap.size 92 12 (ad Dn N Bv) N xs)(hr:iM w.heap.size W L xs)(hn:dd w.heap.size W pn c.bX)(ay:fG w.heap.size W o2 c.blocks)(b2:an W W X)(aI:X.grownBy bk (Value.ownBlock (ad Dn N Bv)))
  (a1:bk.ownsRow w.heap.size 92 12 v' (N+1) (xs++(iN c pY (ad pn c.bX.length jd) (ad o2 c.blocks.length ea)).toList)) (bz:an w w W):jO w.heap.size bk v' (L++[(a,c)])∧an w w bk:=by
 subst Bs;subst hk;refine⟨jO.push (x:=(a,c)) hx hr hn ay b2 aI a1,?_⟩;have ck:=bz.trans (b2.mono bz.size);exact ck.grown aI ck.size (fun k aw=>((fY hx b2).lt _ aw).1)
theorem aqE{wc W X bk:aeo}{Bw N Bv mG k7:Nat}(hx:W.ownsRow w.heap.size 92 12 (ad Dn N Bv) N xs)(b2:an W W X)(aI:X.grownBy bk (Value.ownBlock (ad Dn N Bv)))(hw:Value.ownBlock (ad (some (aj mG 0)) (N+1) k7)=Value.ownBlock (ad Dn N Bv)∨Value.ownBlock (ad (some (aj mG 0)) (N+1) k7)=some X.heap.size)
  (hK:kx 92 wc W) (ad5:∀dS,Value.ownBlock (ad Dn N Bv)=some dS→dS<Bw∨wc.heap.size≤dS) (iY:∀dS,Bw≤dS→dS<wc.heap.size→W.heap[dS]?=wc.heap[dS]?):
  kx 92 wc bk∧(∀dS,Value.ownBlock (ad (some (aj mG 0)) (N+1) k7)=some dS→dS<Bw∨wc.heap.size≤dS)∧(∀dS,Bw≤dS→dS<wc.heap.size→bk.heap[dS]?=wc.heap[dS]?):=by
 refine⟨(hK.trans (.c4 b2)).trans (.grown (fY hx b2) aI),fun dS sK=>?_,fun dS au ax=>?_⟩
 ·rcases hw with h|h
  ·exact ad5 dS (h.symm.trans sK)
  ·rw[h] at sK;injection sK with sK;exact .inr (by rw[←sK];exact cd hK.1 b2.size)
 ·have aA:dS<W.heap.size:=hN ax hK.1;rw[←iY dS au ax,←b2.block dS aA];refine aI.block dS (hN aA b2.size) (fun h=>?_);rcases ad5 dS h.symm with bb|bb<;>omega
theorem ad6(S:Ua)(hm:S.size≤maxLen)(w:aeo)(l:List (Nat×C))(i e:Nat)(h:af (k0 S.data.toList=(l,i,e))):
  Calls Tryz.prog 35 #[aa S] w (ad4 l i e w):=by
 obtain⟨⟨ws,i1,aY⟩,hw⟩:=aq (ta S.data.toList);have dY:=ao hw;have ou:=ao hm;have az:=h.out;clear h hm;go_enter Tryz.func35,Tryz.ntmps35;go_wp2_with fail;with_reducible refine (aqy S ou.out _ ws i1 aY dY).mono ?_
 rintro b3 bk ⟨v,rfl,aS,ay⟩;have aH:=ao ay;clear ay;by_cases he:aY=0
 ·subst he;obtain rfl:=aqA hw;rw[aqn hw] at az;have ei:=ao az;have nh:=ao (adU hw);obtain⟨p,c,g,pe,rfl,LF,nO,Dp⟩:=ap9 aS;have zQ:=ao (And.intro LF nO);have Qz:=ao Dp;clear az hw aS Dp dY LF nO;go_wp2_with fail
  go_loopw [5,8] (fun u v wr=>∃(f:Nat) (lw:List eR) (L:Nat) (acc:List (Nat×C)) (p:Ja) (cp o:Nat),u=ad p L cp∧af (lw.length=L)∧L≤f∧L≤cp∧af (cp≤maxLen)∧af (jO w.heap.size wr v acc)∧af (an w w wr)∧af (0<lw.length→p=some ⟨g,o,none⟩∧al wr g pe 125∧Bt pe o lw)∧af (lw.length≤1000000∧∀x∈lw,x.t.length≤1000000)∧af (acc.length+2 *lw.length≤2000000)∧af (Wb (p3 f lw acc)=(l,i,e))) (fun u _ _=>lenOf u)
  case atStart=>exact⟨ws.length,ws,ws.length,[],p,c,0,rfl,rfl,aP _,zQ.out.1,zQ.out.2,jO.nil _ _,aH.out,Qz,nh,(by show 0+_≤_;have:=nh.out.1;omega),ei⟩
  case round=>
  obtain⟨f,lw,L,acc,p,cp,o,rfl,zI,awK,awL,vj,bG,aH,Qz,nh,Em,aQ⟩:=hrel;by_cases aF:L=0
  ·have adR:¬(0:Int)<(L:Int):=(by omega);have hr:=aQ.out;have De:lw=[]:=lP (zI.out.trans aF);rw[De,X9] at hr;have hD:(acc,0,0)=(l,i,e):=hr;simp only[fg] at hD;obtain⟨rfl,rfl,rfl⟩:=hD;clear hr De aF;go_wp2_with fail;go_ret3;exact⟨aH.out,_,rfl,bG.out⟩
  ·obtain⟨x,gE,hx⟩:∃x gE,lw=x::gE:=by
    cases lw with
    |nil=>exact absurd zI.out.symm aF
    |cons a b=>exact⟨a,b,rfl⟩
   subst hx;obtain⟨f2,rfl⟩:∃f2,f=f2+1:=⟨f-1,by omega⟩;obtain⟨rfl,aI,Dp⟩:=Qz.out (Mz _);have fy:=ao aI;have ad7:=ao Dp;have lV:gE.length+1=L:=zI.out;obtain⟨k,aw⟩:=aq ((gE.takeWhile fun x=>!x.first).length);have hr:=aQ.out;rw[aqm,aqh,aqi,aw] at hr;obtain⟨r,sn⟩:=aq (r4 x (gE.take k));have xT:=ao sn;rw[sn] at hr;have dC:=ao hr;have kL:k+1≤L:=(by have:=aql gE;omega);have aqF:af (∀j,j<k→pe[o+(j+1) *4+2]?=some (U false)):=(by intro j b6;obtain⟨au,ax⟩:=aqj (l:=gE) (k:=j) (by rw[aw];exact b6);have aA:=(Dp (j+1) (by rw[eT];omega)).2.2.1;simp only[Iz] at aA;rw[ax] at aA;exact aA);have It:af (k+1<L→pe[o+(k+1) *4+2]?=some (U true)):=(by intro b6;have au:(gE.takeWhile fun x=>!x.first).length<gE.length:=(by omega);have ax:=aqk au;have aA:=(Dp (k+1) (by rw[eT];omega)).2.2.1;simp only[Iz] at aA;simp only[aw] at ax;rw[aA,ax]);have QA:=Dp 0 (Mz _);simp only[Mg,G',Gy] at QA;obtain⟨T,dm⟩:=kd x.t;have MB:(⟨x.t.toArray⟩:Ua)=T:=lD dm.symm;rw[MB] at QA;have Ar:=ao QA;have x8:=ao dm;have awM:(0:Int)<(L:Int):=(by omega);have awN:0<L:=(by omega);have py:k<1000000:=(by have:=nh.out.1;rw[eT] at this;omega);have eM:((k+1:Nat):Int)≤(cp:Int):=(by omega);clear hr aw sn aI Dp QA dm MB aF aQ Qz lV;have IU:af (∀(j:Nat) (u:ada),pe[j]?=some u→ak wr g j u):=(fun j u b6=>by simp[World.cell?,fy.out,b6]);go_wp2_with fail
   go_loopw [9] (fun n cq=>∃j,j≤k∧n=I ((j+1:Nat):Int)∧cq=wr) (fun n _=>k+1 -(intOf n).toNat)
   case atStart=>exact⟨0,cO _,rfl,rfl⟩
   case round=>
   obtain⟨j,b6,rfl,rfl⟩:=hrel;by_cases Et:j<k
   ·have Wd:((j+1:Nat):Int)<(L:Int):=(by omega);have lR:=IU.out _ _ (aqF.out j Et);go_wp2_with fail
    go_roundw
    case rel=>
     exact⟨j+1,by omega,by go_num,trivial⟩
    case measure=>simp[intOf]<;>omega
   ·obtain rfl:j=k:=(by omega);clear Et b6;go_upto_region 7 with fail;go_cut [37] (fun c cq=>c=U false∧wr=cq)
    case first=>
     by_cases aqG:j+1<L
     ·have Wd:((j+1:Nat):Int)<(L:Int):=(by omega);have lR:=IU.out _ _ (It.out aqG);go_wp2_with fail;go_meet;exact⟨rfl,rfl⟩
     ·have Wd:¬((j+1:Nat):Int)<(L:Int):=(by omega);go_wp2_with fail;go_meet;exact⟨rfl,rfl⟩
    case rest=>
    obtain⟨rfl,rfl⟩:=hcut;have uU:af (T.size≤1000000000):=(by show _≤_;rw[←ch,x8.out];have:=nh.out.2 x (by simp);omega);obtain⟨v0,v1,v2,v3⟩:=Ar.out;have eC:=IU.out _ _ v0;have eu:=IU.out _ _ v1;have eO:=IU.out _ _ v2;have jm:=IU.out _ _ v3;clear v0 v1 v2 v3;go_upto_if 43 with fail;go_cut [10,6,7] (fun v a hb br=>∃(QB IV:Nat),a=I (QB:Int)∧hb=I (IV:Int)∧af (an wr wr br)∧af (aqB r wr.heap.size br v QB IV))
    case first=>
     cases IW:x.ext with
     |true=>
      rw[IW] at eu;have ad8:af (yI x (gE.take j)=r):=(by have h:=xT.out;unfold r4 at h;rw[aW IW] at h;exact h);have tj:j≤gE.length:=by have:=zI.out;rw[eT] at this;omega
      have We:=ap1 (some (aj g o)) cp x (gE.take j) wr (ao (Bt.aqa ad7.out fy.out (by rw [List.prefix_cons_inj];exact List.take_prefix _ _))) (by have:=nh.out.1;rw [eT] at this;rw [lz];omega) (by rw [lz];omega) vj.out (ao (by
       intro y hy
       have:=nh.out.2 y (by
        rcases List.mem_cons.1 hy with rfl|hy
        ·simp
        ·exact zO _ (NA hy))
       omega)) r ad8
      rw[lz,yL tj] at We;have aqH:=ao We;clear We IW ad8 tj;go_wp2_with fail;with_reducible refine aqH.out.mono ?_
      rintro b3 br ⟨dX,sP⟩;have bT:=ao dX;clear dX;cases r with
      |ok cs=>
       obtain⟨v,rfl,Dq⟩:=sP;have Mb:=ao Dq;clear Dq;go_wp2_with fail;go_meet;exact⟨0,0,rfl,rfl,bT.out,rfl,Mb.out⟩
      |error y=>
       obtain rfl:=sP;go_wp2_with fail;go_meet;exact⟨y.1,y.2,rfl,rfl,bT.out,rfl,rfl⟩
     |false=>
      rw[IW] at eu;obtain⟨mb,Bq⟩:=aq (vQ T.data.toList);have aqI:=ao Bq;have gY:=xT.out;unfold r4 at gY;rw[aN (by rw[IW];decide),←x8.out,Bq] at gY;have ad9:g<wr.heap.size:=(Array.getElem?_eq_some_iff.1 fy.out).1;have aqJ:=ao ad9;have cK:=ao eC;clear Bq IW ad9;go_wp2_with fail;with_reducible refine (aoB T uU.out mb aqI _).mono ?_
      rintro b3 br ⟨dX,sP⟩;have bT:=ao dX;have dH:ak br g o (I (x.a:Int)):=(dX.cell (p:=⟨g,o,none⟩) aqJ.out).trans cK.out;clear dX;cases mb with
      |ok cs=>
       obtain⟨v,rfl,Dq⟩:=sP;have Mb:=ao Dq;have bn:af (r=.ok cs):=gY.symm;clear Dq gY;go_wp2_with fail;go_meet;exact⟨x.a,0,rfl,rfl,bT.out,(by rw[bn.out];exact⟨rfl,Mb.out⟩)⟩
      |error n=>
       obtain rfl:=sP;have bn:af (r=.error (x.a,n)):=gY.symm;clear gY;go_wp2_with fail;go_meet;exact⟨x.a,n,rfl,rfl,bT.out,(by rw[bn.out];exact⟨rfl,rfl⟩)⟩
    case rest=>
    obtain⟨QB,IV,rfl,rfl,bT,bE⟩:=hcut;have Dl:=ao (aH.out.trans (bT.out.mono aH.out.size));clear eC eu eO jm;cases r with
    |error y=>
     obtain⟨c0,ee⟩:=y;obtain⟨rfl,rfl⟩:=bE.out;have hne:IV≠0:=aqg xT.out;have Bg:((IV:Int) !=0)=true:=(by simp;omega);have hr:=dC.out;have hD:(([]:List (Nat×C)),QB,IV)=(l,i,e):=hr;simp only[fg] at hD;obtain⟨rfl,rfl,rfl⟩:=hD;clear hr hne;go_wp2_with fail;go_ret3;exact⟨Dl.out,_,rfl,jO.nil _ _⟩
    |ok cs=>
     obtain⟨rfl,Dq⟩:=bE.out;obtain⟨pm,bY,Fw,Wf⟩:=V' Dq;obtain⟨Bw,HR⟩:=aq wr.heap.size;have qd:af (w.heap.size≤Bw):=(by show _≤_;rw[←HR];exact aH.out.size);rw[HR] at Wf;rw[show (rh cs).length=cs.length by simp[rh]] at Fw;subst Fw;have aqK:=ao Wf;have aqL:=ao (bG.out.below bT.out);have aqM:af (∀dS,u8.ownBlock=some dS→dS<Bw∨wc.heap.size≤dS):=(by obtain⟨xs,mE,_⟩:=bG.out;rw[←HR];exact fun dS h=>.inl (mE.lt dS h).2);have gX:cs.length≤2:=adV xT.out;have aqN:af (acc.length≤2000000):=(by have:=Em.out;show _≤_;omega);have aea:af (al wc g pe 125):=ba fy.out bT.out;have aqO:=ao Ar.out.1;clear Dq Wf bE bG Ar HR;go_wp2_with fail
     go_loopw [8,70] (fun b0 n d'=>∃q,q≤cs.length∧n=I (q:Int)∧af (jO w.heap.size d' b0 (acc++(cs.take q).map fun c=>(x.a,c)))∧af (kx 92 wc d')∧af (an w w d')∧af (∀dS,b0.ownBlock=some dS→dS<Bw∨wc.heap.size≤dS)∧af (∀dS,Bw≤dS→dS<wc.heap.size→d'.heap[dS]?=wc.heap[dS]?)) (fun _ n _=>cs.length -(intOf n).toNat)
     case atStart=>exact⟨0,cO _,rfl,by rw[Gh,nF,List.append_nil];exact aqL.out,⟨aP _,fun _ _ _ _ aw _=>aw⟩,Dl.out,aqM.out,fun _ _ _=>rfl⟩
     case round=>
     obtain⟨q,aG,rfl,aeb,IX,Dr,aqP,aec⟩:=hrel;by_cases aqQ:q<cs.length
     ·have aed:(q:Int)<(cs.length:Int):=(by omega);obtain⟨b,aD,cur,rfl,PQ,MD,nc⟩:=aqK.out (by simp[rh];omega);obtain⟨pn,o2,jd,ea,Wg,ME,Wh⟩:=nc q (by simp[rh];omega);obtain⟨bB,F4⟩:=aq (cs[q]);have dF:(rh cs)[q]'(by simp[rh];omega)=(0,bB):=(by simp[rh,F4]);simp only[dF] at Wg ME Wh;have sU:b<wc.heap.size:=(Array.getElem?_eq_some_iff.1 MD).1;have C9:al wr b cur 92:=(aec.out b PQ sU).trans MD;obtain⟨a0,ew,a2,a3,a4,a5,rr,pB,tk,a9,aqR,aqS⟩:=Qv (c:=bB) (a:=0) (o:=aD+q *12) C9 Wg;have Ve:=IX.out.2 g _ _ _ aea.out (by decide);have QC:ak wr g o (I (x.a:Int)):=(by simp[World.cell?,Ve,aqO.out]);have aqU:=ao ((ME.mono qd.out).keep IX.out (by decide));have aqV:=ao ((Wh.mono qd.out).keep IX.out (by decide) (by decide) (by decide));obtain⟨xs,mE,aee⟩:=aeb.out;obtain⟨N,hk⟩:=aq ((acc++(cs.take q).map fun c=>(x.a,c)).length);rw[hk] at mE;obtain⟨Dn,Bv,rfl⟩:=iw mE;have aqW:N≤3000000:=(by rw[←hk,fH,jV,lz];have:=aqN.out;omega);have tH:=ao mE;have aqX:=ao aee;have aqY:=ao F4;have jJ:=ao hk;obtain⟨pY,Bs⟩:∃a:Int,(x.a:Int)=a:=⟨_,rfl⟩;rw[Bs] at QC;have Qr:=ao Bs;have awO:af (wc.heap.size≤wr.heap.size):=IX.out.1;clear PQ MD nc Wg ME Wh dF sU C9 Ve mE aee F4 hk Bs;go_upto_region 19 with fail;have IY:af ((wr.alloc (ai (#[I 0,I bB.k,I bB.n,I bB.m,U bB.on,aa ⟨bB.t.toArray⟩,aa ⟨bB.x.toArray⟩,aa ⟨bB.y.toArray⟩,aa ⟨bB.i.toArray⟩,aa ⟨bB.j.toArray⟩,ad pn bB.bX.length jd,ad o2 bB.blocks.length ea]) 92)).heap[wr.heap.size]?=some (.cells #[I 0,I bB.k,I bB.n,I bB.m,U bB.on,aa ⟨bB.t.toArray⟩,aa ⟨bB.x.toArray⟩,aa ⟨bB.y.toArray⟩,aa ⟨bB.i.toArray⟩,aa ⟨bB.j.toArray⟩,ad pn bB.bX.length jd,ad o2 bB.blocks.length ea] 92)∧an wr wr (wr.alloc (ai (#[I 0,I bB.k,I bB.n,I bB.m,U bB.on,aa ⟨bB.t.toArray⟩,aa ⟨bB.x.toArray⟩,aa ⟨bB.y.toArray⟩,aa ⟨bB.i.toArray⟩,aa ⟨bB.j.toArray⟩,ad pn bB.bX.length jd,ad o2 bB.blocks.length ea]) 92))):=⟨dL wr _,(Below.refl _ _).alloc (aP _) _⟩;have aef:(wr.alloc (ai (#[I 0,I bB.k,I bB.n,I bB.m,U bB.on,aa ⟨bB.t.toArray⟩,aa ⟨bB.x.toArray⟩,aa ⟨bB.y.toArray⟩,aa ⟨bB.i.toArray⟩,aa ⟨bB.j.toArray⟩,ad pn bB.bX.length jd,ad o2 bB.blocks.length ea]) 92)).cell? ⟨g,o,none⟩=some (I pY):=(IY.out.2.cell (p:=⟨g,o,none⟩) (aqC QC)).trans QC;clear a0 ew a2 a3 a4 a5 rr pB tk a9 aqR aqS QC;generalize wr.alloc (.cells #[I 0,I bB.k,I bB.n,I bB.m,U bB.on,aa ⟨bB.t.toArray⟩,aa ⟨bB.x.toArray⟩,aa ⟨bB.y.toArray⟩,aa ⟨bB.i.toArray⟩,aa ⟨bB.j.toArray⟩,ad pn bB.bX.length jd,ad o2 bB.blocks.length ea] 92)=nr at IY aef⊢;have MF:af ((nr.setCell (aj wr.heap.size 0) (I pY)).heap[wr.heap.size]?=some (.cells #[I pY,I bB.k,I bB.n,I bB.m,U bB.on,aa ⟨bB.t.toArray⟩,aa ⟨bB.x.toArray⟩,aa ⟨bB.y.toArray⟩,aa ⟨bB.i.toArray⟩,aa ⟨bB.j.toArray⟩,ad pn bB.bX.length jd,ad o2 bB.blocks.length ea] 92)∧an wr wr (nr.setCell (aj wr.heap.size 0) (I pY))):=⟨Hl IY.out.1 _,IY.out.2.setCell (aP _) _⟩;obtain⟨⟨d0,d1,d2,d3,d4,d5,d6,d7,d8,d9,d10,d11⟩,g0,g1,g2,g3,g4,g5,g6,g7,g8,g9,g10,g11⟩:=fc IY.out.1;go_upto_region 20 with fail;clear d0 d1 d2 d3 d4 d5 d6 d7 d8 d9 d10 d11 g0 g1 g2 g3 g4 g5 g6 g7 g8 g9 g10 g11 aef IY;generalize nr.setCell (aj wr.heap.size 0) (I pY)=ug at MF⊢;obtain⟨⟨d0,d1,d2,d3,d4,d5,d6,d7,d8,d9,d10,d11⟩,_⟩:=fc MF.out.1;obtain⟨i0,kf,cW,dv,dx⟩:=info_parts aaV;have bL:=ao (And.intro kf (And.intro cW (And.intro dv dx)));clear kf cW dv dx;have Wi:af (an wr wr (ug.alloc (ai (#[I pY,I bB.k,I bB.n,I bB.m,U bB.on,aa ⟨bB.t.toArray⟩,aa ⟨bB.x.toArray⟩,aa ⟨bB.y.toArray⟩,aa ⟨bB.i.toArray⟩,aa ⟨bB.j.toArray⟩,ad pn bB.bX.length jd,ad o2 bB.blocks.length ea]) 92))):=MF.out.2.alloc MF.out.2.size _;go_wp2_with ((at_builtin;refine ap7 rfl _ _ _ rfl w.heap.size 92 i0 (.agg #[I 0,I 0,I 0,I 0,U false,aa ⟨#[]⟩,aa ⟨#[]⟩,aa ⟨#[]⟩,aa ⟨#[]⟩,aa ⟨#[]⟩,J 0,J 0]) 12 168 L7 bL.out.1 bL.out.2.1 bL.out.2.2.1 bL.out.2.2.2 rfl (by omega) (ad Dn N Bv) N xs (by rfl) (fY tH.out Wi.out) (aj ug.heap.size 0) 1 1 rfl [I pY,I bB.k,I bB.n,I bB.m,U bB.on,aa ⟨bB.t.toArray⟩,aa ⟨bB.x.toArray⟩,aa ⟨bB.y.toArray⟩,aa ⟨bB.i.toArray⟩,aa ⟨bB.j.toArray⟩,ad pn bB.bX.length jd,ad o2 bB.blocks.length ea] (by rfl) rfl (jx (dL ug _)) (by simp[Value.oneCell']) (by unfold maxLen;omega) (by omega) (by have:=Dr.out.size;have:=MF.out.2.size;simp<;>omega) ?_;intro v' w' gr h9 aeg;obtain⟨mG,k7,rfl,_,_⟩:=gr.form (by omega);have aeh:=ao (aqD (a:=x.a) (c:=bB) Qr.out jJ.out tH.out aqX.out aqU.out aqV.out Wi.out h9 gr Dr.out);have Wj:=ao (aqE tH.out Wi.out h9 aeg IX.out aqP.out aec.out);clear gr h9 aeg));clear d0 d1 d2 d3 d4 d5 d6 d7 d8 d9 d10 d11
      go_roundw
      case rel=>
       refine⟨q+1,by omega,by go_num,?_,Wj.out.1,aeh.out.2,Wj.out.2.1,Wj.out.2.2⟩;rw[List.take_add_one,iW aqQ,aqY.out];simp only[Option.toList_some,v7,nx,nF,←List.append_assoc];exact aeh.out.1
      case measure=>simp[intOf]<;>omega
     ·obtain rfl:q=cs.length:=(by omega);have fz:af (Wb (p3 f2 (gE.drop j) (acc++cs.map fun c=>(x.a,c)))=(l,i,e)):=dC.out;have aei:af (jO w.heap.size wr u8 (acc++cs.map fun c=>(x.a,c))):=(by have h:=aeb.out;rw[vI] at h;exact h);have Wd:((j:Int)+1)≤(L:Int):=(by omega);have aqZ:=ao (IX.out.2 g _ _ _ aea.out (by decide));by_cases oe:j+1=cp
      ·have Wk:((j:Int)+1)=(cp:Int):=(by omega);go_wp2_with fail
       go_roundw
       case rel=>
        have aq0:gE.length+1=L:=zI.out;have qb:(gE.drop j).length=0:=by rw[e8];omega
        exact ⟨f2,gE.drop j,0,acc++cs.map fun c=>(x.a,c),_,0,o+(j+1) *4,rfl,qb,by omega,by omega,(by have:=vj.out;show _≤_;omega),aei,Dr,fun h=>absurd h (by rw[qb];decide),
         ⟨by have:=nh.out.1;rw[eT] at this;omega,fun y hy=>nh.out.2 y (zO _ (VU hy))⟩,
         (by have:=Em.out;rw[eT] at this;show (acc++cs.map fun c=>(x.a,c)).length+2 *(gE.drop j).length≤_;rw[fH,jV];omega),fz⟩
       case measure=>show 0<L;omega
      ·have Wk:((j:Int)+1)<(cp:Int):=(by omega);go_wp2_with fail
       go_roundw
       case rel=>
        have aq0:gE.length+1=L:=zI.out;have qb:(gE.drop j).length=(L -(j+1)):=by rw[e8];omega
        exact ⟨f2,gE.drop j,(L -(j+1)),acc++cs.map fun c=>(x.a,c),_,(cp -(j+1)),o+(j+1) *4,rfl,qb,by omega,by omega,(by have:=vj.out;show _≤_;omega),aei,Dr,fun _=>⟨rfl,aqZ.out,Bt.drop (k:=j+1) ad7.out⟩,
         ⟨by have:=nh.out.1;rw[eT] at this;omega,fun y hy=>nh.out.2 y (zO _ (VU hy))⟩,
         (by have:=Em.out;rw[eT] at this;show (acc++cs.map fun c=>(x.a,c)).length+2 *(gE.drop j).length≤_;rw[fH,jV];omega),fz⟩
       case measure=>show (L -(j+1))<L;omega
 ·have Bg:((aY:Int) !=0)=true:=(by simp;omega);rw[aqo hw he] at az;simp only[fg] at az;obtain⟨rfl,rfl,rfl⟩:=az;clear hw he aS dY;go_wp2_with fail;go_ret3;exact⟨aH.out,_,rfl,jO.nil _ _⟩
def oL(b:dN):Prop:=b.args.length≤1100∧∀a∈b.args,a.length≤300
variable{B:Nat}
theorem l7.below{l:List (Int×Int)}(h:l7 B w p l)(ay:an w w w'):l7 B w' p l:=h.keep (T:=0) (.c4 ay) (by decide)
theorem j5.below{l:List (List (Int×Int))}(h:j5 B w p l)(ay:an w w w'):j5 B w' p l:=h.keep (T:=0) (.c4 ay) (by decide) (by decide)
theorem fG.below{l:List dN}(h:fG B w p l)(ay:an w w w'):fG B w' p l:=h.keep (T:=0) (.c4 ay) (by decide) (by decide) (by decide)
theorem Dm.below{B:Nat}{w w':aeo}{p:Ja}{l:List (Nat×C)}(h:Dm B w p l)(ay:an w w w'):Dm B w' p l:=by intro az;obtain⟨b,o,cur,hp,bz,aE,aB⟩:=h az;refine⟨b,o,cur,hp,bz,ba aE ay,fun i hi=>?_⟩;obtain⟨q,r,k,m,au,ax,aA⟩:=aB i hi;exact⟨q,r,k,m,au,ax.below ay,aA.below ay⟩
end gK
