/- Lemmas. -/
import Derived.Test.YtfldplmgkeiimaaGreatDoorQ32
import Derived.Defers
import Derived.Laws.Pointers
import Derived.Laws.LoneSync
import Derived.RegionCalls
import Derived.ChangeAlike
set_option linter.all false
set_option maxRecDepth 100000
set_option maxHeartbeats 25600000
namespace Go.Proofs.YtfldplmgkeiimaaGreatDoor
abbrev xh:=@Proofs.Tryz.func88
abbrev xi:=@Proofs.Tryz.ntmps88
abbrev Wq:=@run_call_add
abbrev aei:=@run_convert_to_unsafe
namespace jj
open Go.RowKit pH kG qk Mem rG cf
theorem aej{s:iB}(h:wW s)(hn:s.words.length<20000)(bH:s.text.length<10000)(a:Nat)(c:UInt8):wW {s with text:=s.text++[c],a:=a}:=
 ⟨h.n0,fun _=>hn,by simp;omega,h.n4⟩
theorem Ok(B R:Nat)(s:iB)(cz iS:ada)(w:bTo)(bJ:B≤w.heap.size)(H:J (hv B R cz iS s w))(hf:wW s)(c:UInt8)(x:Int)(hx:J ((c.toNat:Int)=x))(i:Nat)(hi:i≤1000000)(res:Except Nat iB)(dk:J (sj s c i=res)):
  Calls Tryz.prog 88 #[dv R 0,.int .u8 x,I (i:Int)] w (abb B R w res):=by
 have fp:=U bJ;have aE:=U hf;clear hf;have Jc:=c.toNat_lt;have s9:=hx.out;obtain⟨aJ,aI,c2,c3,bF⟩:=H.out.cells;have oc:=H.out.ef;obtain⟨p,cap,rfl,nu,sS⟩:=Wp H.out.tx;obtain⟨j',ka,rfl⟩:=ik H.out.ws;clear nu sS;have aj:=dk.out;unfold sj at aj;clear dk;by_cases yS:c=13∨c=10
 ·rw[aT yS] at aj;have br:=U aj;have bm:J (wW s∧∃cz iS,hv B R cz iS s w):=⟨aE.out,_,_,H.out⟩;clear aj
  have sK:x=13∨x=10:=by
   rcases yS with rfl|rfl
   ·exact .inl (by rw[←s9];rfl)
   ·exact .inr (by rw[←s9];rfl)
  clear yS s9 hx Jc;rcases sK with rfl|rfl
  all_goals
   go_enter xh,xi;go_wp2_with fail;go_ret;rw[←br.out];exact⟨Below.refl _ _,rfl,bm.out⟩
 ·rw[aK yS] at aj;have aek:(x==13)=false:=(by rw[y8];intro h;apply yS;left;apply Fz;have:x=13:=(by simpa using h);show c.toNat=13;omega);have tG:(x==10)=false:=(by rw[y8];intro h;apply yS;right;apply Fz;have:x=10:=(by simpa using h);show c.toNat=10;omega);by_cases Gm:c.toNat<32∨126<c.toNat
  ·rw[aT Gm] at aj;have br:=U aj;clear aj;by_cases aa:x<32
   ·clear Gm yS s9 hx Jc;go_enter xh,xi;go_wp2_with fail;go_ret;rw[←br.out];exact⟨Below.refl _ _,rfl⟩
   ·have ah:126<x:=(by omega);clear Gm yS s9 hx Jc;go_enter xh,xi;go_wp2_with fail;go_ret;rw[←br.out];exact⟨Below.refl _ _,rfl⟩
  ·rw[aK Gm] at aj;have aa:32≤x:=(by omega);have ah:x≤126:=(by omega);by_cases Gn:c=42
   ·rw[aT Gn] at aj;have br:=U aj;have sK:x=42:=(by rw[←s9,Gn];rfl);subst sK;clear aj Gn Gm yS s9 hx Jc aek tG aa ah aJ aI c2 c3 bF oc;go_enter xh,xi;go_wp2_with fail;go_fit (aqX B R s _ _ w fp.out H aE.out res br);rintro e cr ⟨af,hr⟩;cases res with
    |error k=>
     obtain rfl:=hr;have c1:=U af;clear af;go_wp2_with fail;go_ret;exact⟨c1.out,rfl⟩
    |ok s'=>
     obtain⟨rfl,hr⟩:=hr;have c1:=U (And.intro af hr);clear af hr;go_wp2_with fail;go_ret;exact⟨c1.out.1,rfl,c1.out.2⟩
   ·rw[aK Gn] at aj;have aqY:(x==42)=false:=(by rw[y8];intro h;apply Gn;apply Fz;have:x=42:=(by simpa using h);show c.toNat=42;omega);by_cases Jd:c=37
    ·rw[aT Jd] at aj;have sK:x=37:=(by rw[←s9,Jd];rfl);subst sK;clear Jd Gn Gm yS s9 hx Jc aek tG aqY aa ah;by_cases fX:s.text≠[]∨(s.group=true∧s.inner=0)
     ·rw[aT fX] at aj;have br:=U aj;clear aj;by_cases bH:s.text.length=0
      ·have aX:s.group=true∧s.inner=0:=fX.resolve_left (fun h=>h (qz bH));rw[aX.1] at c3;rw[aX.2] at bF;rw[bH] at aI;clear fX aX bH;go_enter xh,xi;go_wp2_with fail;go_ret;rw[←br.out];exact⟨Below.refl _ _,rfl⟩
      ·have Df:0<s.text.length:=(by omega);clear fX bH;go_enter xh,xi;go_wp2_with fail;go_ret;rw[←br.out];exact⟨Below.refl _ _,rfl⟩
     ·rw[aK fX] at aj;have br:=U aj;have bH:s.text=[]:=xv fun h=>fX (.inl h);have xk:s.text.length=0:=by rw[bH];rfl
      have aqZ:s.group=false∨¬s.inner=0:=by
       cases aX:s.group with
       |false=>exact .inl rfl
       |true=>exact .inr fun h=>fX (.inr ⟨aX,h⟩)
      rw[xk] at aI;have q0:J (hv B R (ad j' s.words.length ka) (ad p s.text.length cap) {s with group:=!s.group} (w.setCell (ag R 3) (ai (!s.group)))):=H.out.SF _;have cm:J (Below B w (w.setCell (ag R 3) (ai (!s.group)))):=(Below.refl _ _).setCell (p:=⟨R,3,none⟩) H.out.ge _;have oy:J (hv B R (ad j' s.words.length ka) (ad p s.text.length cap) {s with group:=!s.group,inner:=0} ((w.setCell (ag R 3) (ai (!s.group))).setCell (ag R 4) (I 0))):=q0.out.rz 0 0 rfl;have c1:J (Below B w ((w.setCell (ag R 3) (ai (!s.group))).setCell (ag R 4) (I 0))):=cm.out.setCell (p:=⟨R,4,none⟩) H.out.ge _;have dC:J (wW {s with group:=!s.group,inner:=0}):=⟨aE.out.n0,aE.out.dK,aE.out.e',eC _⟩;clear aj fX bH xk;have gx:(w.setCell (ag R 3) (ai (!s.group))).cell? ⟨R,4,none⟩=_:=q0.out.cells.2.2.2.2;have f4:(w.setCell (ag R 3) (ai (!s.group))).frozen? ⟨R,4,none⟩=_:=q0.out.ef 4;rcases aqZ with aX|lg
      ·generalize xg:(!s.group)=aq0 at br q0 cm oy c1 dC gx f4;have Lu:aq0=true:=(by rw[←xg,aX];rfl);clear xg;rw[aX] at c3;subst Lu;clear aX;go_enter xh,xi;go_wp2_with fail;go_ret;rw[←br.out];exact⟨c1.out,rfl,dC.out,_,_,oy.out⟩
      ·have KD:((s.inner:Int)==0)=false:=(by simp;omega);clear lg;go_enter xh,xi;generalize xg:s.group=g0 at c3 br q0 cm oy c1 dC gx f4;clear xg;cases g0
       all_goals
        go_wp2_with fail;go_ret;rw[←br.out];exact⟨c1.out,rfl,dC.out,_,_,oy.out⟩
    ·rw[aK Jd] at aj;have axm:(x==37)=false:=(by rw[y8];intro h;apply Jd;apply Fz;have:x=37:=(by simpa using h);show c.toNat=37;omega);clear Jd Gn Gm yS Jc;by_cases bH:s.text=[]
     ·rw[aT bH] at aj;have xk:s.text.length=0:=(by rw[bH];rfl);have dF:=U bH;rw[xk] at aI;by_cases hw:s.words.length=20000
      ·rw[aT hw] at aj;have br:=U aj;rw[hw] at aJ;clear aj bH xk hw s9;go_enter xh,xi;go_wp2_with fail;go_ret;rw[←br.out];exact⟨Below.refl _ _,rfl⟩
      ·rw[aK hw] at aj;unfold xM at aj;rw[aK (show ¬({s with a:=i}:iB).text.length=10000 by show ¬s.text.length=10000;rw[xk];omega)] at aj;have br:=U aj;have k6:((s.words.length:Int)==20000)=false:=(by simp;omega);have aq1:J (s.words.length<20000):=(by show _<_;have:=aE.out.n0;omega);have na:=H.out.at i;rw[xk] at na;have bB:J (hv B R (ad j' s.words.length ka) (ad p 0 cap) {s with a:=i} (w.setCell (ag R 2) (I (i:Int)))):=na;have cm:J (Below B w (w.setCell (ag R 2) (I (i:Int)))):=(Below.refl _ _).setCell (p:=⟨R,2,none⟩) H.out.ge _;have dR:J (s.text.length=0):=xk;clear aj hw na xk s9 bH;go_enter xh,xi;go_upto_region 17 with fail;obtain⟨_,d1,_⟩:=bB.out.cells;have QV:=U (aba (H.out.at i).tx);generalize w.setCell (ag R 2) (I (i:Int))=bQ at bB cm QV d1⊢;obtain⟨i0,lg,cU,cW,dz⟩:=info_parts PK;have bY:=U (And.intro lg (And.intro cU (And.intro cW dz)));clear lg cU cW dz;go_wp2_with (at_builtin;refine yi _ rfl _ _ _ rfl B 5 i0 (.int .u8 0) 1 1 Ja bY.out.1 bY.out.2.1 bY.out.2.2.1 bY.out.2.2.2 rfl (by omega) (ad p 0 cap) 0 ([]) (by rfl) (QV.out.alloc _) (ag ((bQ).heap.size) 0) 1 1 [.int .u8 x] (by rfl) rfl (jW (gi (bQ) _)) (by simp[Value.oneCell']) (by unfold maxLen;omega) (by omega) (by have:=fp.out;have:=cm.out.size;simp<;>omega) ?_;intro v' w' gX i' pJ;obtain⟨g',mE,rfl,_,_⟩:=gX.form (by omega);rw[←hx.out] at gX;obtain⟨Dd,sg,Gp⟩:=bB.out.add (c:=c) (v':=ad (some (ag g' 0)) (0+1) mE) ((Below.refl _ _).alloc (bD _) _) i' (by rw[dF.out];exact gX) (dX fp.out cm.out.size);have vo:=U (And.intro Dd (cm.out.trans sg));have V':aw w' R 1 _:=Ge w' R 1 _ _ (0,0) Gp;have Wa:w'.frozen? ⟨R,1,none⟩=false:=(by simp[World.frozen?,Gp]);clear Dd sg Gp gX i' pJ);go_ret;rw[←br.out];exact⟨vo.out.2,rfl,aej aE.out aq1.out (by have:=dR.out;omega) i c,_,_,vo.out.1⟩
     ·rw[aK bH] at aj;have Df:((s.text.length:Int)==0)=false:=(by have:=List.length_pos_iff.2 bH;simp;omega);have dF:=U bH;unfold xM at aj;by_cases hn:s.text.length=10000
      ·rw[aT hn] at aj;have br:=U aj;rw[hn] at aI;clear aj hn bH Df s9;go_enter xh,xi;go_wp2_with fail;go_ret;rw[←br.out];exact⟨Below.refl _ _,rfl⟩
      ·rw[aK hn] at aj;have br:=U aj;have kI:((s.text.length:Int)==10000)=false:=(by simp;omega);have ic:s.text.length<10000:=(by have:=aE.out.e';omega);have bB:J (hv B R (ad j' s.words.length ka) (ad p s.text.length cap) s w):=H.out;have cm:J (Below B w w):=Below.refl _ _;have QV:=U H.out.tx;clear aj hn bH s9;go_enter xh,xi;obtain⟨i0,lg,cU,cW,dz⟩:=info_parts PK;have bY:=U (And.intro lg (And.intro cU (And.intro cW dz)));clear lg cU cW dz;go_wp2_with (at_builtin;refine yi _ rfl _ _ _ rfl B 5 i0 (.int .u8 0) 1 1 Ja bY.out.1 bY.out.2.1 bY.out.2.2.1 bY.out.2.2.2 rfl (by omega) (ad p s.text.length cap) s.text.length (sI s.text) (by rfl) (QV.out.alloc _) (ag ((w).heap.size) 0) 1 1 [.int .u8 x] (by rfl) rfl (jW (gi (w) _)) (by simp[Value.oneCell']) (by unfold maxLen;omega) (by omega) (by have:=fp.out;have:=cm.out.size;simp<;>omega) ?_;intro v' w' gX i' pJ;obtain⟨g',mE,rfl,_,_⟩:=gX.form (by omega);rw[←hx.out] at gX;obtain⟨Dd,sg,Gp⟩:=bB.out.add (c:=c) (v':=ad (some (ag g' 0)) (s.text.length+1) mE) ((Below.refl _ _).alloc (bD _) _) i' (gX) (dX fp.out cm.out.size);have vo:=U (And.intro Dd (cm.out.trans sg));have V':aw w' R 1 _:=Ge w' R 1 _ _ (0,0) Gp;have Wa:w'.frozen? ⟨R,1,none⟩=false:=(by simp[World.frozen?,Gp]);clear Dd sg Gp gX i' pJ);go_ret;rw[←br.out];exact⟨vo.out.2,rfl,aej aE.out (aE.out.dK dF.out) ic s.a c,_,_,vo.out.1⟩
def aq2(ws:List ew)(i e:Nat)(w:bTo)(lf:Ending)(w':bTo):Prop:=
 ∃v,lf=bb (.tuple #[v,I (i:Int),I (e:Int)])∧w'.ownsRow w.heap.size 153 4 v ws.length (rI ws)∧av w w w'
theorem QW(w:bTo)(B:Nat):w.ownsRow B 153 4 (ay 0) ([]:List ew).length (rI []):=⟨rfl,.inl ⟨rfl,rfl⟩⟩
def after(k:Nat)(r:bk):Except Nat iB→Except (Nat×Nat) iB
 |.error e=>.error (k,e)
 |.ok s'=>jG r (k+1) s'
theorem aq3{l:bk}{k:Nat}(h:k<l.length)(s:iB):jG (l.drop k) k s=after k (l.drop (k+1)) (sj s l[k] k):=by rw[l3 h];unfold after;rfl
theorem ael{s:iB}{c:UInt8}{i e:Nat}(h:sj s c i=.error e):0<e:=by
 unfold sj He xM at h
 repeat' split at h
 all_goals first|(injection h with h;omega)|cases h
theorem aq4(w:bTo):hv w.heap.size w.heap.size (ay 0) (ay 0) xL (w.alloc (Dh (ay 0) (ay 0) 0 false 0)):=
 ⟨bD _,gi w _,⟨rfl,.inl ⟨rfl,rfl⟩⟩,⟨rfl,.inl ⟨rfl,rfl⟩⟩⟩
theorem aq5:wW xL:=⟨by decide,fun h=>absurd rfl h,by decide,bD _⟩
theorem aq6(S:aia)(hm:S.size≤maxLen)(w:bTo)(ws:List ew)(i e:Nat)(hw:J (uI S.data.toList=(ws,i,e))):
  Calls Tryz.prog 61 #[au S] w (aq2 ws i e w):=by
 unfold maxLen at hm;have hlen:S.data.toList.length=S.size:=cR S;have hx:=hw.out;unfold uI at hx;by_cases mw:1000000<(S.size:Int)
 ·rw[aT (by omega)] at hx;simp only[gA] at hx;obtain⟨rfl,rfl,rfl⟩:=hx;clear hlen;go_enter Tryz.func61,Tryz.ntmps61;go_wp2_with fail;go_ret3;exact⟨_,rfl,QW w _,Below.refl _ _⟩
 ·rw[aK (by omega)] at hx;have cV:=U hx;have hS:S.size≤1000000:=(by omega);have br:J (hv w.heap.size w.heap.size (ay 0) (ay 0) xL (w.alloc (Dh (ay 0) (ay 0) 0 false 0))):=aq4 w;have aH:J (av w w (w.alloc (Dh (ay 0) (ay 0) 0 false 0))):=(Below.refl _ _).alloc (bD _) _;clear hx hlen hw;go_enter Tryz.func61,Tryz.ntmps61;go_wp2_with fail
  go_loopw [6] (fun x wr=>∃(k:Nat) (s:iB) (cz iS:ada),k≤S.size∧J (wW s∧hv w.heap.size w.heap.size cz iS s wr∧av w w wr∧jG (S.data.toList.drop k) k s=jG S.data.toList 0 xL)∧x=I (k:Int)) (fun x _=>S.size -(intOf x).toNat)
  case atStart=>exact⟨0,xL,_,_,eC _,⟨aq5,br.out,aH.out,rfl⟩,rfl⟩
  case round=>
  obtain⟨k,s,cz,iS,ab,H,rfl⟩:=hrel;by_cases b0:k<S.size
  ·have ko:k<S.data.toList.length:=(by rw[cR];exact b0);obtain⟨x,s9⟩:=az (S[k].toNat:Int);have mF:=U s9;obtain⟨res,dk⟩:=az (sj s S[k] k);have mN:=U dk;have rH:jG S.data.toList 0 xL=after k (S.data.toList.drop (k+1)) res:=(by rw[←H.out.2.2.2,aq3 ko,oq S k b0,dk]);have aem:=U rH;have ib:(k:Int)<(S.size:Int):=(by omega);clear rH dk;go_wp2_with fail;go_fit (Ok w.heap.size w.heap.size s cz iS _ H.out.2.2.1.size (U H.out.2.1) H.out.1 S[k] x mF k (by omega) res mN);rintro lf cr ⟨af,hr⟩;cases res with
   |error BD=>
    obtain rfl:=hr;have aq7:=ael mN.out;have pD:=cV.out;rw[aem.out] at pD;simp only[after,gA] at pD;obtain⟨rfl,rfl,rfl⟩:=pD;have c1:=U (H.out.2.2.1.trans af);have hne:((BD:Int)==0)=false:=(by simp;omega);have HY:((BD:Int) !=0)=true:=(by simp;omega);clear af aq7;go_wp2_with fail;go_ret3;exact⟨_,rfl,QW _ _,c1.out⟩
   |ok s'=>
    obtain⟨rfl,aen,aeo,aep,aeq⟩:=hr;have a1:J (wW s'∧hv w.heap.size w.heap.size aeo aep s' cr∧av w w cr∧jG (S.data.toList.drop (k+1)) (k+1) s'=jG S.data.toList 0 xL):=⟨aen,aeq,H.out.2.2.1.trans af,aem.out.symm⟩;clear af aen aeq;go_wp2_with fail;go_round<;>first|exact⟨k+1,s',aeo,aep,by omega,a1.out,by go_num⟩|(simp[intOf]<;>omega)
  ·have ga:k=S.size:=(by omega);have rH:jG S.data.toList 0 xL=.ok s:=(by rw[←H.out.2.2.2,n7 (by rw[cR];omega)];rfl);have pD:=cV.out;rw[rH] at pD;obtain⟨aJ,aI,c2,c3,bF⟩:=H.out.2.1.cells;obtain⟨p,cap,rfl,nu,sS⟩:=Wp H.out.2.1.tx;obtain⟨j',ka,rfl⟩:=ik H.out.2.1.ws;have ib:¬((k:Int)<(S.size:Int)):=(by omega);clear nu sS rH;by_cases fX:s.text≠[]∨s.group=true
   ·simp only[] at pD;rw[aT fX,cR] at pD;simp only[gA] at pD;obtain⟨rfl,rfl,rfl⟩:=pD;have bm:J (av w w wr):=H.out.2.2.1;by_cases bH:s.text.length=0
    ·have aX:s.group=true:=fX.resolve_left (fun h=>h (qz bH));rw[aX] at c3;rw[bH] at aI;clear fX aX bH;go_wp2_with fail;go_ret3;exact⟨_,rfl,QW _ _,bm.out⟩
    ·have Df:0<s.text.length:=(by omega);clear fX bH;go_wp2_with fail;go_ret3;exact⟨_,rfl,QW _ _,bm.out⟩
   ·simp only[] at pD;rw[aK fX] at pD;simp only[gA] at pD;obtain⟨rfl,rfl,rfl⟩:=pD;have bH:s.text.length=0:=(by rw[aa9];exact xv fun h=>fX (.inl h));have aX:s.group=false:=Bool.eq_false_iff.2 fun h=>fX (.inr h);rw[aX] at c3;rw[bH] at aI;clear fX aX bH;go_wp2_with fail;go_ret3;exact⟨_,rfl,H.out.2.1.ws,H.out.2.2.1⟩
def lenOf:ada→Nat
 |.slice _ n _=>n
 |_=>0
def aer(l:List (Nat×C))(i e:Nat)(w:bTo)(lf:Ending)(w':bTo):Prop:=Below w.heap.size w w'∧∃v,lf=bb (.tuple #[v,I (i:Int),I (e:Int)])∧jX w.heap.size w' v l
theorem aes:∀{l:bk} {k:Nat} {s:iB} {i e:Nat},jG l k s=.error (i,e)→e≠0
 |[],k,s,i,e,h=>by cases h
 |c::l,k,s,i,e,h=>by
  unfold jG at h;split at h
  ·rename_i ah;cases h;exact Nat.pos_iff_ne_zero.1 (ael ah)
  ·exact aes h
theorem aq8{s:bk}{ws:List ew}{i:Nat}(h:uI s=(ws,i,0)):i=0:=by
 unfold uI at h;split at h
 ·simp at h
 ·split at h
  ·rename_i ah;simp only[gA] at h;exact absurd h.2.2 (aes ah)
  ·split at h
   ·simp at h
   ·simp only[gA] at h;exact h.2.1.symm
def aq9(r:Except (Nat×Nat) (List C))(B:Nat)(bt:bTo)(v:ada)(a e:Nat):Prop:=match r with
 |.ok cs=>e=0∧jX B bt v (ub cs)
 |.error y=>a=y.1∧e=y.2
variable{w:bTo}
theorem ara{p:Addr}{v:ada}(h:w.cell? p=some v):p.block<w.heap.size:=World.block_lt_of_cell? w p h
variable{xj:aya}{xs:bTv}
theorem arb{W X bE:bTo}{N vJ a:Nat}{pR:Int}{v':ada}{L:List (Nat×C)}{c:C}{pn fw:aya}{oJ hY:Nat}(BW:(a:Int)=pR)(iE:L.length=N)(hx:W.ownsRow w.heap.size 104 12 (ad xj N vJ) N xs)(hr:ou w.heap.size W L xs)(hn:fa w.heap.size W pn c.cj)(af:hB w.heap.size W fw c.blocks)(dp:av W W X)(aX:X.grownBy bE (Value.ownBlock (ad xj N vJ)))
  (bl:bE.ownsRow w.heap.size 104 12 v' (N+1) (xs++(jk c pR (ad pn c.cj.length oJ) (ad fw c.blocks.length hY)).toList)) (bJ:av w w W):jX w.heap.size bE v' (L++[(a,c)])∧av w w bE:=by
 subst BW;subst iE;refine⟨jX.push (x:=(a,c)) hx hr hn af dp aX bl,?_⟩;have eb:=bJ.trans (dp.mono bJ.size);exact eb.grown aX eb.size (fun k ab=>((fE hx dp).lt _ ab).1)
theorem arc{wc W X bE:bTo}{xl N vJ g' mE:Nat}(hx:W.ownsRow w.heap.size 104 12 (ad xj N vJ) N xs)(dp:av W W X)(aX:X.grownBy bE (Value.ownBlock (ad xj N vJ)))(hw:Value.ownBlock (ad (some (ag g' 0)) (N+1) mE)=Value.ownBlock (ad xj N vJ)∨Value.ownBlock (ad (some (ag g' 0)) (N+1) mE)=some X.heap.size)
  (hK:kS 104 wc W) (aet:∀di,Value.ownBlock (ad xj N vJ)=some di→di<xl∨wc.heap.size≤di) (h6:∀di,xl≤di→di<wc.heap.size→W.heap[di]?=wc.heap[di]?):
  kS 104 wc bE∧(∀di,Value.ownBlock (ad (some (ag g' 0)) (N+1) mE)=some di→di<xl∨wc.heap.size≤di)∧(∀di,xl≤di→di<wc.heap.size→bE.heap[di]?=wc.heap[di]?):=by
 refine⟨(hK.trans (.dM dp)).trans (.grown (fE hx dp) aX),fun di qe=>?_,fun di aa ah=>?_⟩
 ·rcases hw with h|h
  ·exact aet di (h.symm.trans qe)
  ·rw[h] at qe;injection qe with qe;exact .inr (by rw[←qe];exact dX hK.1 dp.size)
 ·have ax:di<W.heap.size:=jl ah hK.1;rw[←h6 di aa ah,←dp.block di ax];refine aX.block di (jl ax dp.size) (fun h=>?_);rcases aet di h.symm with bg|bg<;>omega
theorem aeu(S:aia)(hm:S.size≤maxLen)(w:bTo)(l:List (Nat×C))(i e:Nat)(h:J (ks S.data.toList=(l,i,e))):
  Calls Tryz.prog 39 #[au S] w (aer l i e w):=by
 obtain⟨⟨ws,iN,aN⟩,hw⟩:=az (uI S.data.toList);have dC:=U hw;have Dj:=U hm;have aj:=h.out;clear h hm;go_enter Tryz.func39,Tryz.ntmps39;go_wp2_with fail;go_fit (aq6 S Dj.out _ ws iN aN dC);rintro lf bE ⟨v,rfl,aS,af⟩;have aH:=U af;clear af;by_cases he:aN=0
 ·subst he;obtain rfl:=aq8 hw;rw[aqH hw] at aj;have dR:=U aj;have nb:=U (aqu hw);obtain⟨p,c,g,o8,rfl,VJ,zY,DT⟩:=aqr aS;have DS:=U (And.intro VJ zY);have QX:=U DT;clear aj hw aS DT dC VJ zY;go_wp2_with fail
  go_loopw [5,8] (fun u v wr=>∃(f:Nat) (lw:List ew) (L:Nat) (acc:List (Nat×C)) (p:aya) (cp o:Nat),u=ad p L cp∧J (lw.length=L)∧L≤f∧L≤cp∧J (cp≤maxLen)∧J (jX w.heap.size wr v acc)∧J (av w w wr)∧J (0<lw.length→p=some ⟨g,o,none⟩∧bo wr g o8 153∧BY o8 o lw)∧J (lw.length≤1000000∧∀x∈lw,x.t.length≤1000000)∧J (acc.length+2 *lw.length≤2000000)∧J (Wl (tw f lw acc)=(l,i,e))) (fun u _ _=>lenOf u)
  case atStart=>exact⟨ws.length,ws,ws.length,[],p,c,0,rfl,rfl,bD _,DS.out.1,DS.out.2,jX.nil _ _,aH.out,QX,nb,(by show 0+_≤_;have:=nb.out.1;omega),dR⟩
  case round=>
  obtain⟨f,lw,L,acc,p,cp,o,rfl,ua,axn,axo,vq,bq,aH,QX,nb,Fa,br⟩:=hrel;by_cases aQ:L=0
  ·have adZ:¬(0:Int)<(L:Int):=(by omega);have hr:=br.out;have aev:lw=[]:=qz (ua.out.trans aQ);rw[aev,SD] at hr;have vy:(acc,0,0)=(l,i,e):=hr;simp only[gA] at vy;obtain⟨rfl,rfl,rfl⟩:=vy;clear hr aev aQ;go_wp2_with fail;go_ret3;exact⟨aH.out,_,rfl,bq.out⟩
  ·obtain⟨x,gV,hx⟩:∃x gV,lw=x::gV:=by
    cases lw with
    |nil=>exact absurd ua.out.symm aQ
    |cons a b=>exact⟨a,b,rfl⟩
   subst hx;obtain⟨f2,rfl⟩:∃f2,f=f2+1:=⟨f-1,by omega⟩;obtain⟨rfl,aX,DT⟩:=QX.out (EU _);have fv:=U aX;have aew:=U DT;have sy:gV.length+1=L:=ua.out;obtain⟨k,ab⟩:=az ((gV.takeWhile fun x=>!x.first).length);have hr:=br.out;rw[aqG,aqB,aqC,ab] at hr;obtain⟨r,hO⟩:=az (wz x (gV.take k));have Ga:=U hO;rw[hO] at hr;have eg:=U hr;have ko:k+1≤L:=(by have:=aqF gV;omega);have ard:J (∀j,j<k→o8[o+(j+1) *4+2]?=some (ai false)):=(by intro j cB;obtain⟨aa,ah⟩:=aqD (l:=gV) (k:=j) (by rw[ab];exact cB);have ax:=(DT (j+1) (by rw[fK];omega)).2.2.1;simp only[Gd] at ax;rw[ah] at ax;exact ax);have are:J (k+1<L→o8[o+(k+1) *4+2]?=some (ai true)):=(by intro cB;have aa:(gV.takeWhile fun x=>!x.first).length<gV.length:=(by omega);have ah:=aqE aa;have ax:=(DT (k+1) (by rw[fK];omega)).2.2.1;simp only[Gd] at ax;simp only[ab] at ah;rw[ax,ah]);have QY:=DT 0 (EU _);simp only[IV,Eg,Hk] at QY;obtain⟨T,fh⟩:=kz x.t;have vH:(⟨x.t.toArray⟩:aia)=T:=ml fh.symm;rw[vH] at QY;have wj:=U QY;have rV:=U fh;have SO:(0:Int)<(L:Int):=(by omega);have axp:0<L:=(by omega);have ri:k<1000000:=(by have:=nb.out.1;rw[fK] at this;omega);have eA:((k+1:Nat):Int)≤(cp:Int):=(by omega);clear hr ab hO aX DT QY fh vH aQ br QX sy;have Je:J (∀(j:Nat) (u:ada),o8[j]?=some u→aw wr g j u):=(fun j u cB=>by simp[World.cell?,fv.out,cB]);go_wp2_with fail
   go_loopw [9] (fun n fT=>∃j,j≤k∧n=I ((j+1:Nat):Int)∧fT=wr) (fun n _=>k+1 -(intOf n).toNat)
   case atStart=>exact⟨0,eC _,rfl,rfl⟩
   case round=>
   obtain⟨j,cB,rfl,rfl⟩:=hrel;by_cases Br:j<k
   ·have Wr:((j+1:Nat):Int)<(L:Int):=(by omega);have nB:=Je.out _ _ (ard.out j Br);go_wp2_with fail
    go_roundw
    case rel=>
     exact⟨j+1,by omega,by go_num,trivial⟩
    case measure=>simp[intOf]<;>omega
   ·obtain rfl:j=k:=(by omega);clear Br cB;go_upto_region 7 with fail;go_cut [37] (fun c fT=>c=ai false∧wr=fT)
    case first=>
     by_cases arf:j+1<L
     ·have Wr:((j+1:Nat):Int)<(L:Int):=(by omega);have nB:=Je.out _ _ (are.out arf);go_wp2_with fail;go_meet;exact⟨rfl,rfl⟩
     ·have Wr:¬((j+1:Nat):Int)<(L:Int):=(by omega);go_wp2_with fail;go_meet;exact⟨rfl,rfl⟩
    case rest=>
    obtain⟨rfl,rfl⟩:=hcut;have sC:J (T.size≤1000000000):=(by show _≤_;rw[←cR,rV.out];have:=nb.out.2 x (by simp);omega);obtain⟨v0,v1,v2,v3⟩:=wj.out;have ao:=Je.out _ _ v0;have ar:=Je.out _ _ v1;have gY:=Je.out _ _ v2;have mL:=Je.out _ _ v3;clear v0 v1 v2 v3;go_upto_if 43 with fail;go_cut [10,6,7] (fun v a j8 bt=>∃(tK Jf:Nat),a=I (tK:Int)∧j8=I (Jf:Int)∧J (av wr wr bt)∧J (aq9 r wr.heap.size bt v tK Jf))
    case first=>
     cases Jg:x.ext with
     |true=>
      rw[Jg] at ar;have x8:J (zt x (gV.take j)=r):=(by have h:=Ga.out;unfold wz at h;rw[aT Jg] at h;exact h);have rh:j≤gV.length:=by have:=ua.out;rw[fK] at this;omega
      have MP:=aqj (some (ag g o)) cp x (gV.take j) wr (U (BY.aqs aew.out fv.out (by rw [List.prefix_cons_inj];exact List.take_prefix _ _))) (by have:=nb.out.1;rw [fK] at this;rw [mf];omega) (by rw [mf];omega) vq.out (U (by
       intro y hy
       have:=nb.out.2 y (by
        rcases List.mem_cons.1 hy with rfl|hy
        ·simp
        ·exact BT _ (List.mem_of_mem_take hy))
       omega)) r x8
      rw[mf,EB rh] at MP;have arh:=U MP;clear MP Jg x8 rh;go_wp2_with fail;with_reducible refine arh.out.mono ?_
      rintro lf bt ⟨dT,uc⟩;have ek:=U dT;clear dT;cases r with
      |ok cs=>
       obtain⟨v,rfl,DU⟩:=uc;have Mo:=U DU;clear DU;go_wp2_with fail;go_meet;exact⟨0,0,rfl,rfl,ek.out,rfl,Mo.out⟩
      |error y=>
       obtain rfl:=uc;go_wp2_with fail;go_meet;exact⟨y.1,y.2,rfl,rfl,ek.out,rfl,rfl⟩
     |false=>
      rw[Jg] at ar;obtain⟨Ad,BU⟩:=az (wy T.data.toList);have ari:=U BU;have h4:=Ga.out;unfold wz at h4;rw[aK (by rw[Jg];decide),←rV.out,BU] at h4;have Jh:g<wr.heap.size:=(Array.getElem?_eq_some_iff.1 fv.out).1;have uf:=U Jh;have cV:=U ao;clear BU Jg Jh;go_wp2_with fail;go_fit (apa T sC.out Ad ari _);rintro lf bt ⟨dT,uc⟩;have ek:=U dT;have ak:aw bt g o (I (x.a:Int)):=(dT.cell (p:=⟨g,o,none⟩) uf.out).trans cV.out;clear dT;cases Ad with
      |ok cs=>
       obtain⟨v,rfl,DU⟩:=uc;have Mo:=U DU;have a7:J (r=.ok cs):=h4.symm;clear DU h4;go_wp2_with fail;go_meet;exact⟨x.a,0,rfl,rfl,ek.out,(by rw[a7.out];exact⟨rfl,Mo.out⟩)⟩
      |error n=>
       obtain rfl:=uc;have a7:J (r=.error (x.a,n)):=h4.symm;clear h4;go_wp2_with fail;go_meet;exact⟨x.a,n,rfl,rfl,ek.out,(by rw[a7.out];exact⟨rfl,rfl⟩)⟩
    case rest=>
    obtain⟨tK,Jf,rfl,rfl,ek,b'⟩:=hcut;have DR:=U (aH.out.trans (ek.out.mono aH.out.size));clear ao ar gY mL;cases r with
    |error y=>
     obtain⟨aq,e1⟩:=y;obtain⟨rfl,rfl⟩:=b'.out;have hne:Jf≠0:=aqz Ga.out;have MC:((Jf:Int) !=0)=true:=(by simp;omega);have hr:=eg.out;have vy:(([]:List (Nat×C)),tK,Jf)=(l,i,e):=hr;simp only[gA] at vy;obtain⟨rfl,rfl,rfl⟩:=vy;clear hr hne;go_wp2_with fail;go_ret3;exact⟨DR.out,_,rfl,jX.nil _ _⟩
    |ok cs=>
     obtain⟨rfl,DU⟩:=b'.out;obtain⟨pm,cC,vB,Ws⟩:=Wk DU;obtain⟨xl,Im⟩:=az wr.heap.size;have vi:J (w.heap.size≤xl):=(by show _≤_;rw[←Im];exact aH.out.size);rw[Im] at Ws;rw[show (ub cs).length=cs.length by simp[ub]] at vB;subst vB;have arj:=U Ws;have ark:=U (bq.out.below ek.out);have arl:J (∀di,u8.ownBlock=some di→di<xl∨wc.heap.size≤di):=(by obtain⟨xs,lS,_⟩:=bq.out;rw[←Im];exact fun di h=>.inl (lS.lt di h).2);have hl:cs.length≤2:=aqA Ga.out;have arn:J (acc.length≤2000000):=(by have:=Fa.out;show _≤_;omega);have aex:J (bo wc g o8 153):=aO fv.out ek.out;have KA:=U wj.out.1;clear DU Ws b' bq wj Im;go_wp2_with fail
     go_loopw [8,70] (fun ds n cO=>∃q,q≤cs.length∧n=I (q:Int)∧J (jX w.heap.size cO ds (acc++(cs.take q).map fun c=>(x.a,c)))∧J (kS 104 wc cO)∧J (av w w cO)∧J (∀di,ds.ownBlock=some di→di<xl∨wc.heap.size≤di)∧J (∀di,xl≤di→di<wc.heap.size→cO.heap[di]?=wc.heap[di]?)) (fun _ n _=>cs.length -(intOf n).toNat)
     case atStart=>exact⟨0,eC _,rfl,by rw[Pf,zI,List.append_nil];exact ark.out,⟨bD _,fun _ _ _ _ ab _=>ab⟩,DR.out,arl.out,fun _ _ _=>rfl⟩
     case round=>
     obtain⟨q,aC,rfl,aey,pS,yT,aro,aez⟩:=hrel;by_cases arp:q<cs.length
     ·have axq:(q:Int)<(cs.length:Int):=(by omega);obtain⟨b,an,cur,rfl,aeA,Mi,nG⟩:=arj.out (by simp[ub];omega);obtain⟨pn,fw,oJ,hY,MQ,Wt,Wu⟩:=nG q (by simp[ub];omega);obtain⟨bf,Wv⟩:=az (cs[q]);have e0:(ub cs)[q]'(by simp[ub];omega)=(0,bf):=(by simp[ub,Wv]);simp only[e0] at MQ Wt Wu;have Gi:b<wc.heap.size:=(Array.getElem?_eq_some_iff.1 Mi).1;have aeB:bo wr b cur 104:=(aez.out b aeA Gi).trans Mi;obtain⟨a0,a',a2,a3,a4,a5,rj,pg,tr,a9,arq,ars⟩:=QL (c:=bf) (a:=0) (o:=an+q *12) aeB MQ;have aeC:=pS.out.2 g _ _ _ aex.out (by decide);have QZ:aw wr g o (I (x.a:Int)):=(by simp[World.cell?,aeC,KA.out]);have art:=U ((Wt.mono vi.out).keep pS.out (by decide));have aru:=U ((Wu.mono vi.out).keep pS.out (by decide) (by decide) (by decide));obtain⟨xs,lS,aeD⟩:=aey.out;obtain⟨N,iE⟩:=az ((acc++(cs.take q).map fun c=>(x.a,c)).length);rw[iE] at lS;obtain⟨xj,vJ,rfl⟩:=ik lS;have aoU:N≤3000000:=(by rw[←iE,gh,hk,mf];have:=arn.out;omega);have Db:=U lS;have arv:=U aeD;have arw:=U Wv;have gw:=U iE;obtain⟨pR,BW⟩:∃a:Int,(x.a:Int)=a:=⟨_,rfl⟩;rw[BW] at QZ;have Gj:=U BW;have axr:J (wc.heap.size≤wr.heap.size):=pS.out.1;clear aeA Mi nG MQ Wt Wu e0 Gi aeB aeC lS aeD Wv iE BW;go_upto_region 19 with fail;have Ji:J ((wr.alloc (aD (#[I 0,I bf.k,I bf.n,I bf.m,ai bf.on,au ⟨bf.t.toArray⟩,au ⟨bf.x.toArray⟩,au ⟨bf.y.toArray⟩,au ⟨bf.i.toArray⟩,au ⟨bf.j.toArray⟩,ad pn bf.cj.length oJ,ad fw bf.blocks.length hY]) 104)).heap[wr.heap.size]?=some (.cells #[I 0,I bf.k,I bf.n,I bf.m,ai bf.on,au ⟨bf.t.toArray⟩,au ⟨bf.x.toArray⟩,au ⟨bf.y.toArray⟩,au ⟨bf.i.toArray⟩,au ⟨bf.j.toArray⟩,ad pn bf.cj.length oJ,ad fw bf.blocks.length hY] 104)∧av wr wr (wr.alloc (aD (#[I 0,I bf.k,I bf.n,I bf.m,ai bf.on,au ⟨bf.t.toArray⟩,au ⟨bf.x.toArray⟩,au ⟨bf.y.toArray⟩,au ⟨bf.i.toArray⟩,au ⟨bf.j.toArray⟩,ad pn bf.cj.length oJ,ad fw bf.blocks.length hY]) 104))):=⟨gi wr _,(Below.refl _ _).alloc (bD _) _⟩;have aeE:(wr.alloc (aD (#[I 0,I bf.k,I bf.n,I bf.m,ai bf.on,au ⟨bf.t.toArray⟩,au ⟨bf.x.toArray⟩,au ⟨bf.y.toArray⟩,au ⟨bf.i.toArray⟩,au ⟨bf.j.toArray⟩,ad pn bf.cj.length oJ,ad fw bf.blocks.length hY]) 104)).cell? ⟨g,o,none⟩=some (I pR):=(Ji.out.2.cell (p:=⟨g,o,none⟩) (ara QZ)).trans QZ;clear a0 a' a2 a3 a4 a5 rj pg tr a9 arq ars QZ;generalize wr.alloc (.cells #[I 0,I bf.k,I bf.n,I bf.m,ai bf.on,au ⟨bf.t.toArray⟩,au ⟨bf.x.toArray⟩,au ⟨bf.y.toArray⟩,au ⟨bf.i.toArray⟩,au ⟨bf.j.toArray⟩,ad pn bf.cj.length oJ,ad fw bf.blocks.length hY] 104)=hQ at Ji aeE⊢;have MR:J ((hQ.setCell (ag wr.heap.size 0) (I pR)).heap[wr.heap.size]?=some (.cells #[I pR,I bf.k,I bf.n,I bf.m,ai bf.on,au ⟨bf.t.toArray⟩,au ⟨bf.x.toArray⟩,au ⟨bf.y.toArray⟩,au ⟨bf.i.toArray⟩,au ⟨bf.j.toArray⟩,ad pn bf.cj.length oJ,ad fw bf.blocks.length hY] 104)∧av wr wr (hQ.setCell (ag wr.heap.size 0) (I pR))):=⟨Uz Ji.out.1 _,Ji.out.2.setCell (bD _) _⟩;obtain⟨⟨d0,d1,d2,d3,d4,d5,d6,d7,d8,d9,d10,d11⟩,g0,g1,g2,g3,g4,g5,g6,g7,g8,g9,g10,g11⟩:=dD Ji.out.1;go_upto_region 20 with fail;clear d0 d1 d2 d3 d4 d5 d6 d7 d8 d9 d10 d11 g0 g1 g2 g3 g4 g5 g6 g7 g8 g9 g10 g11 aeE Ji;generalize hQ.setCell (ag wr.heap.size 0) (I pR)=dG at MR⊢;obtain⟨⟨d0,d1,d2,d3,d4,d5,d6,d7,d8,d9,d10,d11⟩,_⟩:=dD MR.out.1;obtain⟨i0,lg,cU,cW,dz⟩:=info_parts abK;have bY:=U (And.intro lg (And.intro cU (And.intro cW dz)));clear lg cU cW dz;have Ww:J (av wr wr (dG.alloc (aD (#[I pR,I bf.k,I bf.n,I bf.m,ai bf.on,au ⟨bf.t.toArray⟩,au ⟨bf.x.toArray⟩,au ⟨bf.y.toArray⟩,au ⟨bf.i.toArray⟩,au ⟨bf.j.toArray⟩,ad pn bf.cj.length oJ,ad fw bf.blocks.length hY]) 104))):=MR.out.2.alloc MR.out.2.size _;go_wp2_with ((at_builtin;refine aqn rfl _ _ _ rfl w.heap.size 104 i0 (.agg #[I 0,I 0,I 0,I 0,ai false,au ⟨#[]⟩,au ⟨#[]⟩,au ⟨#[]⟩,au ⟨#[]⟩,au ⟨#[]⟩,ay 0,ay 0]) 12 168 Mk bY.out.1 bY.out.2.1 bY.out.2.2.1 bY.out.2.2.2 rfl (by omega) (ad xj N vJ) N xs (by rfl) (fE Db.out Ww.out) (ag dG.heap.size 0) 1 1 rfl [I pR,I bf.k,I bf.n,I bf.m,ai bf.on,au ⟨bf.t.toArray⟩,au ⟨bf.x.toArray⟩,au ⟨bf.y.toArray⟩,au ⟨bf.i.toArray⟩,au ⟨bf.j.toArray⟩,ad pn bf.cj.length oJ,ad fw bf.blocks.length hY] (by rfl) rfl (jW (gi dG _)) (by simp[Value.oneCell']) (by unfold maxLen;omega) (by omega) (by have:=yT.out.size;have:=MR.out.2.size;simp<;>omega) ?_;intro v' w' gX i' aeF;obtain⟨g',mE,rfl,_,_⟩:=gX.form (by omega);have aeG:=U (arb (a:=x.a) (c:=bf) Gj.out gw.out Db.out arv.out art.out aru.out Ww.out i' gX yT.out);have Wx:=U (arc Db.out Ww.out i' aeF pS.out aro.out aez.out);clear gX i' aeF));clear d0 d1 d2 d3 d4 d5 d6 d7 d8 d9 d10 d11
      go_roundw
      case rel=>
       refine⟨q+1,by omega,by go_num,?_,Wx.out.1,aeG.out.2,Wx.out.2.1,Wx.out.2.2⟩;rw[List.take_add_one,jH arp,arw.out];simp only[Option.toList_some,mh,r4,zI,←List.append_assoc];exact aeG.out.1
      case measure=>simp[intOf]<;>omega
     ·obtain rfl:q=cs.length:=(by omega);have lN:J (Wl (tw f2 (gV.drop j) (acc++cs.map fun c=>(x.a,c)))=(l,i,e)):=eg.out;have aeH:J (jX w.heap.size wr u8 (acc++cs.map fun c=>(x.a,c))):=(by have h:=aey.out;rw[uo] at h;exact h);have Wr:((j:Int)+1)≤(L:Int):=(by omega);have MS:=U (pS.out.2 g _ _ _ aex.out (by decide));by_cases ph:j+1=cp
      ·have arx:((j:Int)+1)=(cp:Int):=(by omega);go_wp2_with fail
       go_roundw
       case rel=>
        have Q0:gV.length+1=L:=ua.out;have ve:(gV.drop j).length=0:=by rw[gZ];omega
        exact ⟨f2,gV.drop j,0,acc++cs.map fun c=>(x.a,c),_,0,o+(j+1) *4,rfl,ve,by omega,by omega,(by have:=vq.out;show _≤_;omega),aeH,yT,fun h=>absurd h (by rw[ve];decide),
         ⟨by have:=nb.out.1;rw[fK] at this;omega,fun y hy=>nb.out.2 y (BT _ (List.mem_of_mem_drop hy))⟩,
         (by have:=Fa.out;rw[fK] at this;show (acc++cs.map fun c=>(x.a,c)).length+2 *(gV.drop j).length≤_;rw[gh,hk];omega),lN⟩
       case measure=>show 0<L;omega
      ·have arx:((j:Int)+1)<(cp:Int):=(by omega);go_wp2_with fail
       go_roundw
       case rel=>
        have Q0:gV.length+1=L:=ua.out;have ve:(gV.drop j).length=(L -(j+1)):=by rw[gZ];omega
        exact ⟨f2,gV.drop j,(L -(j+1)),acc++cs.map fun c=>(x.a,c),_,(cp -(j+1)),o+(j+1) *4,rfl,ve,by omega,by omega,(by have:=vq.out;show _≤_;omega),aeH,yT,fun _=>⟨rfl,MS.out,BY.drop (k:=j+1) aew.out⟩,
         ⟨by have:=nb.out.1;rw[fK] at this;omega,fun y hy=>nb.out.2 y (BT _ (List.mem_of_mem_drop hy))⟩,
         (by have:=Fa.out;rw[fK] at this;show (acc++cs.map fun c=>(x.a,c)).length+2 *(gV.drop j).length≤_;rw[gh,hk];omega),lN⟩
       case measure=>show (L -(j+1))<L;omega
 ·have MC:((aN:Int) !=0)=true:=(by simp;omega);rw[aqI hw he] at aj;simp only[gA] at aj;obtain⟨rfl,rfl,rfl⟩:=aj;clear hw he aS dC;go_wp2_with fail;go_ret3;exact⟨aH.out,_,rfl,jX.nil _ _⟩
end jj
namespace dE
open Go.RowKit el
open cf (C ks)
open jj (kd jk MI QK QL aeu aer Wk)
def MT(bn:Nat)(l:List (Nat×C)):List ec×Nat×Nat→List ec×Nat×Nat
 |(o,i,f)=>if f=0 then (o,0,0) else if i<l.length then ([],((l.map Prod.fst)[i]?).getD 0,f) else ([],bn,f)
variable{s:bk}
theorem ary{l:List (Nat×C)}{a:Nat}{b:Int}(h:ks s=(l,a,0)):mV s b=MT s.length l (xR (l.map Prod.snd) b):=by unfold mV MT;rw[h];rfl
theorem arz{l:List (Nat×C)}{a e:Nat}{b:Int}(h:ks s=(l,a,e))(he:e≠0):mV s b=([],a,e):=by unfold mV;rw[h];simp only;rw[aT he]
theorem arA(S:aia)(hm:S.size≤1000000)(dr:Int)(w:bTo)(hR:(∀x∈(ks S.data.toList).1,MK x.2)∧∀x∈(ks S.data.toList).1,ML x.2)(aj:(ks S.data.toList).1.length≤500000)(res:List ec×Nat×Nat)(dk:mV S.data.toList dr=res):
  Calls Tryz.prog 19 #[au S,I dr] w fun e w'=>MM w res e w':=by
 obtain⟨⟨l,a,o9⟩,hp⟩:=az (ks S.data.toList);have bL:=U hp;rw[hp] at hR aj;have br:=U hR;have kb:l.length≤500000:=aj;have aeI:=U dk;have arB:S.size≤maxLen:=by unfold maxLen;omega
 clear hp hR aj dk;go_enter Tryz.func19,Tryz.ntmps19;go_wp2_with fail;go_fit (aeu S arB w l a o9 bL);rintro e W ⟨af,v,rfl,zY⟩;obtain⟨pp,cap,rfl,nu⟩:=Wk zY;have aH:=U af;have aeJ:=U nu;clear af zY nu;by_cases A7:o9=0
 ·subst A7;obtain⟨⟨an,i,f⟩,oH⟩:=az (xR (l.map Prod.snd) dr);have aE:J (MT S.size l (an,i,f)=res):=(by rw[←oH,←aeI.out];exact (ary bL.out).symm);have FU:=U oH;obtain⟨n,hn⟩:=az l.length;have a1:=U hn;have oG:n≤500000:=(by rw[←hn];exact kb);rw[hn];clear oH hn;go_wp2_with fail;go_fit (aqV w.heap.size l pp n cap a1.out.symm dr W aeJ kb br.out.1 br.out.2 (an,i,f) FU);rintro e ct ⟨eb,q,d,rfl,sH⟩;have c1:=U eb;have aeK:=U sH;clear eb sH;by_cases nE:f=0
  ·subst nE;have e9:J ((an,0,0)=res):=(by rw[←aE.out];exact rfl);go_wp2_with fail;go_ret3;rw[←e9.out];exact⟨aH.out.trans (c1.out.mono aH.out.size),q,d,rfl,aeK.out.mono fun k _ ab=>dX aH.out.size ab⟩
  ·have lI:(((f:Int)==0):Bool)=false:=(by rw[kO];omega);by_cases pO:i<n
   ·have Wy:i<l.length:=(by rw[a1.out];exact pO);have aeL:(i:Int)<(n:Int):=(by omega);have lg:(0:Int)≤(i:Int):=(by omega);obtain⟨⟨ca,jB⟩,yA⟩:=az (l[i]);obtain⟨b,o,bN,bP,ch,a8,rfl,lG,e0,_,_⟩:=ad7 aeJ.out Wy yA;have hd:decide ((i:Int)<(n:Int))=true:=eH aeL;have e9:J (([],ca,f)=res):=(by show _=_;rw[←aE.out];unfold MT;simp only;rw[aK nE,aT Wy,C1,jH Wy,yA];rfl);have PH:=vI lG c1.out e0.1;have fp:=U (aH.out.trans (c1.out.mono aH.out.size));clear e0 yA lG aeK;go_upto_region 8 with fail
    go_quiet (fail)
    go_wp2_with fail;go_ret3;rw[←e9.out];exact⟨gj fp.out _,none,0,rfl,.nil _ _ _⟩
   ·have aeL:¬(i:Int)<(n:Int):=(by omega);have e9:J (([],S.size,f)=res):=(by show _=_;rw[←aE.out];unfold MT;simp only;rw[aK nE,aK (by rw[a1.out];exact pO)]);go_wp2_with fail;go_ret3;rw[←e9.out];exact⟨aH.out.trans (c1.out.mono aH.out.size),none,0,rfl,.nil _ _ _⟩
 ·have qF:(((o9:Int) !=0):Bool)=true:=(by rw[tt];omega);have aE:J (([],a,o9)=res):=(by rw[←aeI.out];exact (arz bL.out A7).symm);go_wp2_with fail;go_ret3;rw[←aE.out];exact⟨aH.out,none,0,rfl,.nil _ _ _⟩
end dE
namespace aeM
open Go.RowKit
theorem disable(w:bTo):(callFunc 191 #[]).run Tryz.prog w=.ok (.value (.tuple #[])) w:=run_call_mark0 Tryz.func191 (by kernel_rfl) (by kernel_rfl) (by kernel_rfl) .disable (by kernel_rfl) w
theorem enable(w:bTo):(callFunc 193 #[]).run Tryz.prog w=.ok (.value (.tuple #[])) w:=run_call_mark0 Tryz.func193 (by kernel_rfl) (by kernel_rfl) (by kernel_rfl) .enable (by kernel_rfl) w
theorem acquire(a:Addr)(w:bTo):(callFunc 194 #[.pointer (some a)]).run Tryz.prog w=.ok (.value (.tuple #[])) w:=run_call_marked Tryz.func194 (by kernel_rfl) (by kernel_rfl) (by kernel_rfl) .acquire (by kernel_rfl) a w
theorem releaseMerge(a:Addr)(w:bTo):(callFunc 196 #[.pointer (some a)]).run Tryz.prog w=.ok (.value (.tuple #[])) w:=run_call_marked Tryz.func196 (by kernel_rfl) (by kernel_rfl) (by kernel_rfl) .releaseMerge (by kernel_rfl) a w
theorem arC(a:Addr)(x:ada)(u:FrameMode)(w:bTo)(hc:w.cell? a=some x)(bx:w.frozen? a=false):
  CallsD Tryz.prog 111 #[.pointer (some a),ai true] u w fun e MU w'=>MU=u∧(e=bb (.tuple #[])∧w'=w.drew.setCell a (.int .u32 1)):=by
 have q8:w.drew.cell? a=some x:=by go_simp
 have arD:w.drew.frozen? a=false:=by go_simp
 have k9:=run_call_store (P:=Tryz.prog) Tryz.func157 (by kernel_rfl) (by kernel_rfl) (by kernel_rfl) (by kernel_rfl) (k:=.u32) (y:=1) q8 arD
 go_enter_d Tryz.func111,Tryz.ntmps111
 go_wp2
 go_region_calls
 all_goals (go_end0;exact⟨rfl,rfl⟩)
theorem arE(a:Addr)(w:bTo)(hc:w.cell? a=some (.int .i32 1))(bx:w.frozen? a=false):
  Calls Tryz.prog 156 #[.pointer (some a)] w fun e w'=>e=bb (.tuple #[])∧w'=w.setCell a (.int .i32 0):=by
 have hd:=disable;have he:=enable;have hr:=releaseMerge;have px:=Wq (P:=Tryz.prog) Tryz.func76 (by kernel_rfl) (by kernel_rfl) (by kernel_rfl) .i32 (by kernel_rfl) (y:=-1) (s:=0) hc bx (by simp[go_sem];rfl);have pM:=aei (P:=Tryz.prog) (src:=315) (dst:=318) Tryz.underlying315 Tryz.underlying318 (by kernel_rfl) hc;go_enter Tryz.func156,Tryz.ntmps156;go_wp2;go_end0;exact⟨rfl,rfl⟩
theorem arF(a:Addr)(u:FrameMode)(w:bTo)(hc:w.cell? a=some (.int .i32 1))(bx:w.frozen? a=false):
  CallsD Tryz.prog 110 #[.pointer (some a)] u w fun e MU w'=>MU=u∧(e=bb (.tuple #[])∧w'=w.setCell a (.int .i32 0)):=by
 go_enter_d Tryz.func110,Tryz.ntmps110
 go_wp2_with (go_at_call 156;refine (arE a _ hc bx).mono ?_;rintro e w' ⟨rfl,rfl⟩);go_end0;exact⟨rfl,rfl⟩
theorem arG(a:Addr)(w:bTo)(hc:w.cell? a=some (.int .i32 0))(bx:w.frozen? a=false):
  Calls Tryz.prog 155 #[.pointer (some a)] w fun e w'=>e=bb (.tuple #[])∧w'=w.setCell a (.int .i32 1):=by
 have hd:=disable;have he:=enable;have ha:=acquire;have axs:=run_call_cas_hit (P:=Tryz.prog) Tryz.func192 (by kernel_rfl) (by kernel_rfl) (by kernel_rfl) .i32 (by kernel_rfl) (y:=1) hc bx;have q8:(w.setCell a (.int .i32 1)).cell? a=some (.int .i32 1):=World.cell?_setCell_same w a _ hc;have pM:=aei (P:=Tryz.prog) (src:=315) (dst:=318) Tryz.underlying315 Tryz.underlying318 (by kernel_rfl) q8;go_enter Tryz.func155,Tryz.ntmps155;go_wp2;first|go_end0|(simp only[Exit.inBlock,Exit.then];refine dH (nL rfl _ _ _) rfl ?_)|refine dH (nL rfl _ _ _) rfl ?_
 exact⟨rfl,rfl⟩
theorem arH(a:Addr)(w:bTo)(hc:w.cell? a=some (.int .i32 0))(bx:w.frozen? a=false):
  Calls Tryz.prog 109 #[.pointer (some a)] w fun e w'=>e=bb (.tuple #[])∧w'=w.setCell a (.int .i32 1):=by
 go_enter Tryz.func109,Tryz.ntmps109;go_wp2_with (go_at_call 155;refine (arG a _ hc bx).mono ?_;rintro e w' ⟨rfl,rfl⟩);go_end0;exact⟨rfl,rfl⟩
end aeM
