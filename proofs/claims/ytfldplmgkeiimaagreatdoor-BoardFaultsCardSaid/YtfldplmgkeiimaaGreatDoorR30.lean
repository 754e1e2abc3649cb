/- Lemmas. -/
import Derived.Test.YtfldplmgkeiimaaGreatDoorR29
import Derived.Defers
import Derived.Laws.Pointers
import Derived.Laws.LoneSync
import Derived.RegionCalls
import Derived.ChangeAlike
set_option linter.all false
set_option maxRecDepth 100000
set_option maxHeartbeats 25600000
namespace Go.Proofs.YtfldplmgkeiimaaGreatDoor
abbrev vY:=@Proofs.Tryz.func88
abbrev vZ:=@Proofs.Tryz.ntmps88
abbrev Uv:=@run_call_add
abbrev abO:=@run_convert_to_unsafe
namespace iS
open Go.RowKit kR ig n1 Mem pN ct
theorem abP{s:i6}(h:vF s)(hn:s.words.length<20000)(bE:s.text.length<10000)(a:Nat)(c:UInt8):vF {s with text:=s.text++[c],a:=a}:=
 ⟨h.n0,fun _=>hn,by simp;omega,h.n4⟩
theorem No(B R:Nat)(s:i6)(bM iu:ada)(w:aeo)(bK:B≤w.heap.size)(H:af (gK B R bM iu s w))(hf:vF s)(c:UInt8)(x:Int)(hx:af ((c.toNat:Int)=x))(i:Nat)(hi:i≤1000000)(res:Except Nat i6)(dA:af (wU s c i=res)):
  Calls Tryz.prog 88 #[ah R 0,.int .u8 x,I (i:Int)] w (Zx B R w res):=by
 have e7:=aq bK;have aO:=aq hf;clear hf;have Hl:=c.toNat_lt;have n2:=hx.out;obtain⟨aQ,aN,aJ,c3,bF⟩:=H.out.cells;have nE:=H.out.dT;obtain⟨p,cap,rfl,mQ,pP⟩:=Uu H.out.hG;obtain⟨jY,jZ,rfl⟩:=jH H.out.ws;clear mQ pP;have aA:=dA.out;unfold wU at aA;clear dA;by_cases n8:c=13∨c=10
 ·rw[bb n8] at aA;have bw:=aq aA;have bl:af (vF s∧∃bM iu,gK B R bM iu s w):=⟨aO.out,_,_,H.out⟩;clear aA
  have xE:x=13∨x=10:=by
   rcases n8 with rfl|rfl
   ·exact .inl (by rw[←n2];rfl)
   ·exact .inr (by rw[←n2];rfl)
  clear n8 n2 hx Hl;rcases xE with rfl|rfl
  all_goals
   go_enter vY,vZ;go_wp2_with fail;go_ret;rw[←bw.out];exact⟨Below.refl _ _,rfl,bl.out⟩
 ·rw[aW n8] at aA;have abQ:(x==13)=false:=(by rw[x6];intro h;apply n8;left;apply D0;have:x=13:=(by simpa using h);show c.toNat=13;omega);have sF:(x==10)=false:=(by rw[x6];intro h;apply n8;right;apply D0;have:x=10:=(by simpa using h);show c.toNat=10;omega);by_cases EB:c.toNat<32∨126<c.toNat
  ·rw[bb EB] at aA;have bw:=aq aA;clear aA;by_cases av:x<32
   ·clear EB n8 n2 hx Hl;go_enter vY,vZ;go_wp2_with fail;go_ret;rw[←bw.out];exact⟨Below.refl _ _,rfl⟩
   ·have az:126<x:=(by omega);clear EB n8 n2 hx Hl;go_enter vY,vZ;go_wp2_with fail;go_ret;rw[←bw.out];exact⟨Below.refl _ _,rfl⟩
  ·rw[aW EB] at aA;have av:32≤x:=(by omega);have az:x≤126:=(by omega);by_cases EC:c=42
   ·rw[bb EC] at aA;have bw:=aq aA;have xE:x=42:=(by rw[←n2,EC];rfl);subst xE;clear aA EC EB n8 n2 hx Hl abQ sF av az aQ aN aJ c3 bF nE;go_enter vY,vZ;go_wp2_with fail;with_reducible refine (an1 B R s _ _ w e7.out H aO.out res bw).mono ?_
    rintro e b9 ⟨ax,hr⟩;cases res with
    |error k=>
     obtain rfl:=hr;have c6:=aq ax;clear ax;go_wp2_with fail;go_ret;exact⟨c6.out,rfl⟩
    |ok s'=>
     obtain⟨rfl,hr⟩:=hr;have c6:=aq (And.intro ax hr);clear ax hr;go_wp2_with fail;go_ret;exact⟨c6.out.1,rfl,c6.out.2⟩
   ·rw[aW EC] at aA;have Uw:(x==42)=false:=(by rw[x6];intro h;apply EC;apply D0;have:x=42:=(by simpa using h);show c.toNat=42;omega);by_cases Hm:c=37
    ·rw[bb Hm] at aA;have xE:x=37:=(by rw[←n2,Hm];rfl);subst xE;clear Hm EC EB n8 n2 hx Hl abQ sF Uw av az;by_cases fb:s.text≠[]∨(s.group=true∧s.inner=0)
     ·rw[bb fb] at aA;have bw:=aq aA;clear aA;by_cases bE:s.text.length=0
      ·have aF:s.group=true∧s.inner=0:=fb.resolve_left (fun h=>h (mT bE));rw[aF.1] at c3;rw[aF.2] at bF;rw[bE] at aN;clear fb aF bE;go_enter vY,vZ;go_wp2_with fail;go_ret;rw[←bw.out];exact⟨Below.refl _ _,rfl⟩
      ·have A4:0<s.text.length:=(by omega);clear fb bE;go_enter vY,vZ;go_wp2_with fail;go_ret;rw[←bw.out];exact⟨Below.refl _ _,rfl⟩
     ·rw[aW fb] at aA;have bw:=aq aA;have bE:s.text=[]:=uK fun h=>fb (.inl h);have v7:s.text.length=0:=by rw[bE];rfl
      have FY:s.group=false∨¬s.inner=0:=by
       cases aF:s.group with
       |false=>exact .inl rfl
       |true=>exact .inr fun h=>fb (.inr ⟨aF,h⟩)
      rw[v7] at aN;have s9:af (gK B R (ad jY s.words.length jZ) (ad p s.text.length cap) {s with group:=!s.group} (w.setCell (aj R 3) (U (!s.group)))):=H.out.Rj _;have cC:af (Below B w (w.setCell (aj R 3) (U (!s.group)))):=(Below.refl _ _).setCell (p:=⟨R,3,none⟩) H.out.ge _;have r8:af (gK B R (ad jY s.words.length jZ) (ad p s.text.length cap) {s with group:=!s.group,inner:=0} ((w.setCell (aj R 3) (U (!s.group))).setCell (aj R 4) (I 0))):=s9.out.vp 0 0 rfl;have c6:af (Below B w ((w.setCell (aj R 3) (U (!s.group))).setCell (aj R 4) (I 0))):=cC.out.setCell (p:=⟨R,4,none⟩) H.out.ge _;have ee:af (vF {s with group:=!s.group,inner:=0}):=⟨aO.out.n0,aO.out.en,aO.out.fa,dO _⟩;clear aA fb bE v7;have gZ:(w.setCell (aj R 3) (U (!s.group))).cell? ⟨R,4,none⟩=_:=s9.out.cells.2.2.2.2;have f4:(w.setCell (aj R 3) (U (!s.group))).frozen? ⟨R,4,none⟩=_:=s9.out.dT 4;rcases FY with aF|k'
      ·generalize vX:(!s.group)=an3 at bw s9 cC r8 c6 ee gZ f4;have JM:an3=true:=(by rw[←vX,aF];rfl);clear vX;rw[aF] at c3;subst JM;clear aF;go_enter vY,vZ;go_wp2_with fail;go_ret;rw[←bw.out];exact⟨c6.out,rfl,ee.out,_,_,r8.out⟩
      ·have ano:((s.inner:Int)==0)=false:=(by simp;omega);clear k';go_enter vY,vZ;generalize vX:s.group=g0 at c3 bw s9 cC r8 c6 ee gZ f4;clear vX;cases g0
       all_goals
        go_wp2_with fail;go_ret;rw[←bw.out];exact⟨c6.out,rfl,ee.out,_,_,r8.out⟩
    ·rw[aW Hm] at aA;have abR:(x==37)=false:=(by rw[x6];intro h;apply Hm;apply D0;have:x=37:=(by simpa using h);show c.toNat=37;omega);clear Hm EC EB n8 Hl;by_cases bE:s.text=[]
     ·rw[bb bE] at aA;have v7:s.text.length=0:=(by rw[bE];rfl);have dr:=aq bE;rw[v7] at aN;by_cases hw:s.words.length=20000
      ·rw[bb hw] at aA;have bw:=aq aA;rw[hw] at aQ;clear aA bE v7 hw n2;go_enter vY,vZ;go_wp2_with fail;go_ret;rw[←bw.out];exact⟨Below.refl _ _,rfl⟩
      ·rw[aW hw] at aA;unfold C8 at aA;rw[aW (show ¬({s with a:=i}:i6).text.length=10000 by show ¬s.text.length=10000;rw[v7];omega)] at aA;have bw:=aq aA;have oo:((s.words.length:Int)==20000)=false:=(by simp;omega);have an4:af (s.words.length<20000):=(by show _<_;have:=aO.out.n0;omega);have ff:=H.out.at i;rw[v7] at ff;have bH:af (gK B R (ad jY s.words.length jZ) (ad p 0 cap) {s with a:=i} (w.setCell (aj R 2) (I (i:Int)))):=ff;have cC:af (Below B w (w.setCell (aj R 2) (I (i:Int)))):=(Below.refl _ _).setCell (p:=⟨R,2,none⟩) H.out.ge _;have dn:af (s.text.length=0):=v7;clear aA hw ff v7 n2 bE;go_enter vY,vZ;go_upto_region 17 with fail;obtain⟨_,d1,_⟩:=bH.out.cells;have Pl:=aq (Zw (H.out.at i).hG);generalize w.setCell (aj R 2) (I (i:Int))=b7 at bH cC Pl d1⊢;obtain⟨i0,k',dy,dJ,dv⟩:=info_parts Oi;have b8:=aq (And.intro k' (And.intro dy (And.intro dJ dv)));clear k' dy dJ dv;go_wp2_with (at_builtin;refine uO _ rfl _ _ _ rfl B 5 i0 (.int .u8 0) 1 1 Cn b8.out.1 b8.out.2.1 b8.out.2.2.1 b8.out.2.2.2 rfl (by omega) (ad p 0 cap) 0 ([]) (by rfl) (Pl.out.alloc _) (aj ((b7).heap.size) 0) 1 1 [.int .u8 x] (by rfl) rfl (j8 (fJ (b7) _)) (by simp[Value.oneCell']) (by unfold maxLen;omega) (by omega) (by have:=e7.out;have:=cC.out.size;simp<;>omega) ?_;intro v' w' fR hL nF;obtain⟨g',mW,rfl,_,_⟩:=fR.form (by omega);rw[←hx.out] at fR;obtain⟨A3,ry,ED⟩:=bH.out.add (c:=c) (v':=ad (some (aj g' 0)) (0+1) mW) ((Below.refl _ _).alloc (bx _) _) hL (by rw[dr.out];exact fR) (dx e7.out cC.out.size);have tr:=aq (And.intro A3 (cC.out.trans ry));have T8:ak w' R 1 _:=A1 w' R 1 _ _ (0,0) ED;have T9:w'.frozen? ⟨R,1,none⟩=false:=(by simp[World.frozen?,ED]);clear A3 ry ED fR hL nF);go_ret;rw[←bw.out];exact⟨tr.out.2,rfl,abP aO.out an4.out (by have:=dn.out;omega) i c,_,_,tr.out.1⟩
     ·rw[aW bE] at aA;have A4:((s.text.length:Int)==0)=false:=(by have:=List.length_pos_iff.2 bE;simp;omega);have dr:=aq bE;unfold C8 at aA;by_cases hn:s.text.length=10000
      ·rw[bb hn] at aA;have bw:=aq aA;rw[hn] at aN;clear aA hn bE A4 n2;go_enter vY,vZ;go_wp2_with fail;go_ret;rw[←bw.out];exact⟨Below.refl _ _,rfl⟩
      ·rw[aW hn] at aA;have bw:=aq aA;have k0:((s.text.length:Int)==10000)=false:=(by simp;omega);have h1:s.text.length<10000:=(by have:=aO.out.fa;omega);have bH:af (gK B R (ad jY s.words.length jZ) (ad p s.text.length cap) s w):=H.out;have cC:af (Below B w w):=Below.refl _ _;have Pl:=aq H.out.hG;clear aA hn bE n2;go_enter vY,vZ;obtain⟨i0,k',dy,dJ,dv⟩:=info_parts Oi;have b8:=aq (And.intro k' (And.intro dy (And.intro dJ dv)));clear k' dy dJ dv;go_wp2_with (at_builtin;refine uO _ rfl _ _ _ rfl B 5 i0 (.int .u8 0) 1 1 Cn b8.out.1 b8.out.2.1 b8.out.2.2.1 b8.out.2.2.2 rfl (by omega) (ad p s.text.length cap) s.text.length (q6 s.text) (by rfl) (Pl.out.alloc _) (aj ((w).heap.size) 0) 1 1 [.int .u8 x] (by rfl) rfl (j8 (fJ (w) _)) (by simp[Value.oneCell']) (by unfold maxLen;omega) (by omega) (by have:=e7.out;have:=cC.out.size;simp<;>omega) ?_;intro v' w' fR hL nF;obtain⟨g',mW,rfl,_,_⟩:=fR.form (by omega);rw[←hx.out] at fR;obtain⟨A3,ry,ED⟩:=bH.out.add (c:=c) (v':=ad (some (aj g' 0)) (s.text.length+1) mW) ((Below.refl _ _).alloc (bx _) _) hL (fR) (dx e7.out cC.out.size);have tr:=aq (And.intro A3 (cC.out.trans ry));have T8:ak w' R 1 _:=A1 w' R 1 _ _ (0,0) ED;have T9:w'.frozen? ⟨R,1,none⟩=false:=(by simp[World.frozen?,ED]);clear A3 ry ED fR hL nF);go_ret;rw[←bw.out];exact⟨tr.out.2,rfl,abP aO.out (aO.out.en dr.out) h1 s.a c,_,_,tr.out.1⟩
def an5(ws:List e2)(i e:Nat)(w:aeo)(h3:Ending)(w':aeo):Prop:=
 ∃v,h3=ab (.tuple #[v,I (i:Int),I (e:Int)])∧w'.ownsRow w.heap.size 153 4 v ws.length (qM ws)∧ao w w w'
theorem Pm(w:aeo)(B:Nat):w.ownsRow B 153 4 (J 0) ([]:List e2).length (qM []):=⟨rfl,.inl ⟨rfl,rfl⟩⟩
def after(k:Nat)(r:au):Except Nat i6→Except (Nat×Nat) i6
 |.error e=>.error (k,e)
 |.ok s'=>nc r (k+1) s'
theorem an6{l:au}{k:Nat}(h:k<l.length)(s:i6):nc (l.drop k) k s=after k (l.drop (k+1)) (wU s l[k] k):=by rw[lD h];unfold after;rfl
theorem abS{s:i6}{c:UInt8}{i e:Nat}(h:wU s c i=.error e):0<e:=by
 unfold wU IG C8 at h
 repeat' split at h
 all_goals first|(injection h with h;omega)|cases h
theorem an7(w:aeo):gK w.heap.size w.heap.size (J 0) (J 0) yq (w.alloc (BQ (J 0) (J 0) 0 false 0)):=
 ⟨bx _,fJ w _,⟨rfl,.inl ⟨rfl,rfl⟩⟩,⟨rfl,.inl ⟨rfl,rfl⟩⟩⟩
theorem an8:vF yq:=⟨by decide,fun h=>absurd rfl h,by decide,bx _⟩
theorem an9(S:Ua)(hm:S.size≤maxLen)(w:aeo)(ws:List e2)(i e:Nat)(hw:af (yr S.data.toList=(ws,i,e))):
  Calls Tryz.prog 61 #[aa S] w (an5 ws i e w):=by
 unfold maxLen at hm;have hlen:S.data.toList.length=S.size:=cb S;have hx:=hw.out;unfold yr at hx;by_cases oa:1000000<(S.size:Int)
 ·rw[bb (by omega)] at hx;simp only[gh] at hx;obtain⟨rfl,rfl,rfl⟩:=hx;clear hlen;go_enter Tryz.func61,Tryz.ntmps61;go_wp2_with fail;go_ret3;exact⟨_,rfl,Pm w _,Below.refl _ _⟩
 ·rw[aW (by omega)] at hx;have cR:=aq hx;have hS:S.size≤1000000:=(by omega);have bw:af (gK w.heap.size w.heap.size (J 0) (J 0) yq (w.alloc (BQ (J 0) (J 0) 0 false 0))):=an7 w;have aI:af (ao w w (w.alloc (BQ (J 0) (J 0) 0 false 0))):=(Below.refl _ _).alloc (bx _) _;clear hx hlen hw;go_enter Tryz.func61,Tryz.ntmps61;go_wp2_with fail
  go_loopw [6] (fun x wr=>∃(k:Nat) (s:i6) (bM iu:ada),k≤S.size∧af (vF s∧gK w.heap.size w.heap.size bM iu s wr∧ao w w wr∧nc (S.data.toList.drop k) k s=nc S.data.toList 0 yq)∧x=I (k:Int)) (fun x _=>S.size -(intOf x).toNat)
  case atStart=>exact⟨0,yq,_,_,dO _,⟨an8,bw.out,aI.out,rfl⟩,rfl⟩
  case round=>
  obtain⟨k,s,bM,iu,ay,H,rfl⟩:=hrel;by_cases bR:k<S.size
  ·have j':k<S.data.toList.length:=(by rw[cb];exact bR);obtain⟨x,n2⟩:=ar (S[k].toNat:Int);have mf:=aq n2;obtain⟨res,dA⟩:=ar (wU s S[k] k);have xK:=aq dA;have yW:nc S.data.toList 0 yq=after k (S.data.toList.drop (k+1)) res:=(by rw[←H.out.2.2.2,an6 j',nG S k bR,dA]);have wM:=aq yW;have gU:(k:Int)<(S.size:Int):=(by omega);clear yW dA;go_wp2_with fail;with_reducible refine (No w.heap.size w.heap.size s bM iu _ H.out.2.2.1.size (aq H.out.2.1) H.out.1 S[k] x mf k (by omega) res xK).mono ?_
   rintro h3 b9 ⟨ax,hr⟩;cases res with
   |error D8=>
    obtain rfl:=hr;have aoa:=abS xK.out;have mE:=cR.out;rw[wM.out] at mE;simp only[after,gh] at mE;obtain⟨rfl,rfl,rfl⟩:=mE;have c6:=aq (H.out.2.2.1.trans ax);have hne:((D8:Int)==0)=false:=(by simp;omega);have CQ:((D8:Int) !=0)=true:=(by simp;omega);clear ax aoa;go_wp2_with fail;go_ret3;exact⟨_,rfl,Pm _ _,c6.out⟩
   |ok s'=>
    obtain⟨rfl,abU,abV,abW,Im⟩:=hr;have bd:af (vF s'∧gK w.heap.size w.heap.size abV abW s' b9∧ao w w b9∧nc (S.data.toList.drop (k+1)) (k+1) s'=nc S.data.toList 0 yq):=⟨abU,Im,H.out.2.2.1.trans ax,wM.out.symm⟩;clear ax abU Im;go_wp2_with fail;go_round<;>first|exact⟨k+1,s',abV,abW,by omega,bd.out,by go_num⟩|(simp[intOf]<;>omega)
  ·have fs:k=S.size:=(by omega);have yW:nc S.data.toList 0 yq=.ok s:=(by rw[←H.out.2.2.2,mU (by rw[cb];omega)];rfl);have mE:=cR.out;rw[yW] at mE;obtain⟨aQ,aN,aJ,c3,bF⟩:=H.out.2.1.cells;obtain⟨p,cap,rfl,mQ,pP⟩:=Uu H.out.2.1.hG;obtain⟨jY,jZ,rfl⟩:=jH H.out.2.1.ws;have gU:¬((k:Int)<(S.size:Int)):=(by omega);clear mQ pP yW;by_cases fb:s.text≠[]∨s.group=true
   ·simp only[] at mE;rw[bb fb,cb] at mE;simp only[gh] at mE;obtain⟨rfl,rfl,rfl⟩:=mE;have bl:af (ao w w wr):=H.out.2.2.1;by_cases bE:s.text.length=0
    ·have aF:s.group=true:=fb.resolve_left (fun h=>h (mT bE));rw[aF] at c3;rw[bE] at aN;clear fb aF bE;go_wp2_with fail;go_ret3;exact⟨_,rfl,Pm _ _,bl.out⟩
    ·have A4:0<s.text.length:=(by omega);clear fb bE;go_wp2_with fail;go_ret3;exact⟨_,rfl,Pm _ _,bl.out⟩
   ·simp only[] at mE;rw[aW fb] at mE;simp only[gh] at mE;obtain⟨rfl,rfl,rfl⟩:=mE;have bE:s.text.length=0:=(by rw[Zv];exact uK fun h=>fb (.inl h));have aF:s.group=false:=Bool.eq_false_iff.2 fun h=>fb (.inr h);rw[aF] at c3;rw[bE] at aN;clear fb aF bE;go_wp2_with fail;go_ret3;exact⟨_,rfl,H.out.2.1.ws,H.out.2.2.1⟩
def lenOf:ada→Nat
 |.slice _ n _=>n
 |_=>0
def abX(l:List (Nat×C))(i e:Nat)(w:aeo)(h3:Ending)(w':aeo):Prop:=Below w.heap.size w w'∧∃v,h3=ab (.tuple #[v,I (i:Int),I (e:Int)])∧jL w.heap.size w' v l
theorem abY:∀{l:au} {k:Nat} {s:i6} {i e:Nat},nc l k s=.error (i,e)→e≠0
 |[],k,s,i,e,h=>by cases h
 |c::l,k,s,i,e,h=>by
  unfold nc at h;split at h
  ·rename_i az;cases h;exact Nat.pos_iff_ne_zero.1 (abS az)
  ·exact abY h
theorem aob{s:au}{ws:List e2}{i:Nat}(h:yr s=(ws,i,0)):i=0:=by
 unfold yr at h;split at h
 ·simp at h
 ·split at h
  ·rename_i az;simp only[gh] at h;exact absurd h.2.2 (abY az)
  ·split at h
   ·simp at h
   ·simp only[gh] at h;exact h.2.1.symm
def aoc(r:Except (Nat×Nat) (List C))(B:Nat)(bI:aeo)(v:ada)(a e:Nat):Prop:=match r with
 |.ok cs=>e=0∧jL B bI v (s4 cs)
 |.error y=>a=y.1∧e=y.2
variable{w:aeo}
theorem aod{p:Addr}{v:ada}(h:w.cell? p=some v):p.block<w.heap.size:=World.block_lt_of_cell? w p h
variable{v8:Ja}{xs:aev}
theorem aoe{W X cc:aeo}{N ux a:Nat}{pa:Int}{v':ada}{L:List (Nat×C)}{c:C}{pn gd:Ja}{ob ht:Nat}(Aw:(a:Int)=pa)(hZ:L.length=N)(hx:W.ownsRow w.heap.size 104 12 (ad v8 N ux) N xs)(hr:iy w.heap.size W L xs)(hn:dH w.heap.size W pn c.bX)(ax:gY w.heap.size W gd c.blocks)(c7:ao W W X)(aF:X.grownBy cc (Value.ownBlock (ad v8 N ux)))
  (bm:cc.ownsRow w.heap.size 104 12 v' (N+1) (xs++(jm c pa (ad pn c.bX.length ob) (ad gd c.blocks.length ht)).toList)) (bK:ao w w W):jL w.heap.size cc v' (L++[(a,c)])∧ao w w cc:=by
 subst Aw;subst hZ;refine⟨jL.push (x:=(a,c)) hx hr hn ax c7 aF bm,?_⟩;have dc:=bK.trans (c7.mono bK.size);exact dc.grown aF dc.size (fun k ay=>((gC hx c7).lt _ ay).1)
theorem aof{wc W X cc:aeo}{AB N ux g' mW:Nat}(hx:W.ownsRow w.heap.size 104 12 (ad v8 N ux) N xs)(c7:ao W W X)(aF:X.grownBy cc (Value.ownBlock (ad v8 N ux)))(hw:Value.ownBlock (ad (some (aj g' 0)) (N+1) mW)=Value.ownBlock (ad v8 N ux)∨Value.ownBlock (ad (some (aj g' 0)) (N+1) mW)=some X.heap.size)
  (hK:ky 104 wc W) (abZ:∀dK,Value.ownBlock (ad v8 N ux)=some dK→dK<AB∨wc.heap.size≤dK) (hB:∀dK,AB≤dK→dK<wc.heap.size→W.heap[dK]?=wc.heap[dK]?):
  ky 104 wc cc∧(∀dK,Value.ownBlock (ad (some (aj g' 0)) (N+1) mW)=some dK→dK<AB∨wc.heap.size≤dK)∧(∀dK,AB≤dK→dK<wc.heap.size→cc.heap[dK]?=wc.heap[dK]?):=by
 refine⟨(hK.trans (.dW c7)).trans (.grown (gC hx c7) aF),fun dK vQ=>?_,fun dK av az=>?_⟩
 ·rcases hw with h|h
  ·exact abZ dK (h.symm.trans vQ)
  ·rw[h] at vQ;injection vQ with vQ;exact .inr (by rw[←vQ];exact dx hK.1 c7.size)
 ·have aC:dK<W.heap.size:=km az hK.1;rw[←hB dK av az,←c7.block dK aC];refine aF.block dK (km aC c7.size) (fun h=>?_);rcases abZ dK h.symm with bt|bt<;>omega
theorem ab0(S:Ua)(hm:S.size≤maxLen)(w:aeo)(l:List (Nat×C))(i e:Nat)(h:af (k2 S.data.toList=(l,i,e))):
  Calls Tryz.prog 39 #[aa S] w (abX l i e w):=by
 obtain⟨⟨ws,lN,a7⟩,hw⟩:=ar (yr S.data.toList);have ee:=aq hw;have wG:=aq hm;have aA:=h.out;clear h hm;go_enter Tryz.func39,Tryz.ntmps39;go_wp2_with fail;with_reducible refine (an9 S wG.out _ ws lN a7 ee).mono ?_
 rintro h3 cc ⟨v,rfl,aY,ax⟩;have aI:=aq ax;clear ax;by_cases he:a7=0
 ·subst he;obtain rfl:=aob hw;rw[anK hw] at aA;have dn:=aq aA;have oz:=aq (anw hw);obtain⟨p,c,g,oL,rfl,TP,yd,Co⟩:=ant aY;have Cm:=aq (And.intro TP yd);have Pn:=aq Co;clear aA hw aY Co ee TP yd;go_wp2_with fail
  go_loopw [5,8] (fun u v wr=>∃(f:Nat) (lw:List e2) (L:Nat) (acc:List (Nat×C)) (p:Ja) (cp o:Nat),u=ad p L cp∧af (lw.length=L)∧L≤f∧L≤cp∧af (cp≤maxLen)∧af (jL w.heap.size wr v acc)∧af (ao w w wr)∧af (0<lw.length→p=some ⟨g,o,none⟩∧an wr g oL 153∧Ax oL o lw)∧af (lw.length≤1000000∧∀x∈lw,x.t.length≤1000000)∧af (acc.length+2 *lw.length≤2000000)∧af (Up (yw f lw acc)=(l,i,e))) (fun u _ _=>lenOf u)
  case atStart=>exact⟨ws.length,ws,ws.length,[],p,c,0,rfl,rfl,bx _,Cm.out.1,Cm.out.2,jL.nil _ _,aI.out,Pn,oz,(by show 0+_≤_;have:=oz.out.1;omega),dn⟩
  case round=>
  obtain⟨f,lw,L,acc,p,cp,o,rfl,wa,aw3,aw4,uh,bC,aI,Pn,oz,DI,bw⟩:=hrel;by_cases aS:L=0
  ·have abt:¬(0:Int)<(L:Int):=(by omega);have hr:=bw.out;have ab1:lw=[]:=mT (wa.out.trans aS);rw[ab1,Xp] at hr;have mY:(acc,0,0)=(l,i,e):=hr;simp only[gh] at mY;obtain⟨rfl,rfl,rfl⟩:=mY;clear hr ab1 aS;go_wp2_with fail;go_ret3;exact⟨aI.out,_,rfl,bC.out⟩
  ·obtain⟨x,gL,hx⟩:∃x gL,lw=x::gL:=by
    cases lw with
    |nil=>exact absurd wa.out.symm aS
    |cons a b=>exact⟨a,b,rfl⟩
   subst hx;obtain⟨f2,rfl⟩:∃f2,f=f2+1:=⟨f-1,by omega⟩;obtain⟨rfl,aF,Co⟩:=Pn.out (Dp _);have e0:=aq aF;have ab2:=aq Co;have q':gL.length+1=L:=wa.out;obtain⟨k,ay⟩:=ar ((gL.takeWhile fun x=>!x.first).length);have hr:=bw.out;rw[anJ,anE,anF,ay] at hr;obtain⟨r,jX⟩:=ar (zA x (gL.take k));have EE:=aq jX;rw[jX] at hr;have eO:=aq hr;have j':k+1≤L:=(by have:=anI gL;omega);have aog:af (∀j,j<k→oL[o+(j+1) *4+2]?=some (U false)):=(by intro j cd;obtain⟨av,az⟩:=anG (l:=gL) (k:=j) (by rw[ay];exact cd);have aC:=(Co (j+1) (by rw[fY];omega)).2.2.1;simp only[A6] at aC;rw[az] at aC;exact aC);have Ij:af (k+1<L→oL[o+(k+1) *4+2]?=some (U true)):=(by intro cd;have av:(gL.takeWhile fun x=>!x.first).length<gL.length:=(by omega);have az:=anH av;have aC:=(Co (k+1) (by rw[fY];omega)).2.2.1;simp only[A6] at aC;simp only[ay] at az;rw[aC,az]);have Po:=Co 0 (Dp _);simp only[G5,Fi,IE] at Po;obtain⟨T,fC⟩:=jQ x.t;have uv:(⟨x.t.toArray⟩:Ua)=T:=hY fC.symm;rw[uv] at Po;have vl:=aq Po;have EF:=aq fC;have ahK:(0:Int)<(L:Int):=(by omega);have aw5:0<L:=(by omega);have qt:k<1000000:=(by have:=oz.out.1;rw[fY] at this;omega);have ej:((k+1:Nat):Int)≤(cp:Int):=(by omega);clear hr ay jX aF Co Po fC uv aS bw Pn q';have Hn:af (∀(j:Nat) (u:ada),oL[j]?=some u→ak wr g j u):=(fun j u cd=>by simp[World.cell?,e0.out,cd]);go_wp2_with fail
   go_loopw [9] (fun n dw=>∃j,j≤k∧n=I ((j+1:Nat):Int)∧dw=wr) (fun n _=>k+1 -(intOf n).toNat)
   case atStart=>exact⟨0,dO _,rfl,rfl⟩
   case round=>
   obtain⟨j,cd,rfl,rfl⟩:=hrel;by_cases z8:j<k
   ·have Ux:((j+1:Nat):Int)<(L:Int):=(by omega);have qm:=Hn.out _ _ (aog.out j z8);go_wp2_with fail
    go_roundw
    case rel=>
     exact⟨j+1,by omega,by go_num,trivial⟩
    case measure=>simp[intOf]<;>omega
   ·obtain rfl:j=k:=(by omega);clear z8 cd;go_upto_region 7 with fail;go_cut [37] (fun c dw=>c=U false∧wr=dw)
    case first=>
     by_cases aoh:j+1<L
     ·have Ux:((j+1:Nat):Int)<(L:Int):=(by omega);have qm:=Hn.out _ _ (Ij.out aoh);go_wp2_with fail;go_meet;exact⟨rfl,rfl⟩
     ·have Ux:¬((j+1:Nat):Int)<(L:Int):=(by omega);go_wp2_with fail;go_meet;exact⟨rfl,rfl⟩
    case rest=>
    obtain⟨rfl,rfl⟩:=hcut;have rM:af (T.size≤1000000000):=(by show _≤_;rw[←cb,EF.out];have:=oz.out.2 x (by simp);omega);obtain⟨v0,v1,v2,v3⟩:=vl.out;have aD:=Hn.out _ _ v0;have aL:=Hn.out _ _ v1;have mO:=Hn.out _ _ v2;have mP:=Hn.out _ _ v3;clear v0 v1 v2 v3;go_upto_if 43 with fail;go_cut [10,6,7] (fun v a nj bI=>∃(sJ Ho:Nat),a=I (sJ:Int)∧nj=I (Ho:Int)∧af (ao wr wr bI)∧af (aoc r wr.heap.size bI v sJ Ho))
    case first=>
     cases Hp:x.ext with
     |true=>
      rw[Hp] at aL;have xa:af (Bj x (gL.take j)=r):=(by have h:=EE.out;unfold zA at h;rw[bb Hp] at h;exact h);have lX:j≤gL.length:=by have:=wa.out;rw[fY] at this;omega
      have KR:=ank (some (aj g o)) cp x (gL.take j) wr (aq (Ax.anu ab2.out e0.out (by rw [List.prefix_cons_inj];exact List.take_prefix _ _))) (by have:=oz.out.1;rw [fY] at this;rw [kU];omega) (by rw [kU];omega) uh.out (aq (by
       intro y hy
       have:=oz.out.2 y (by
        rcases List.mem_cons.1 hy with rfl|hy
        ·simp
        ·exact Ew _ (List.mem_of_mem_take hy))
       omega)) r xa
      rw[kU,A7 lX] at KR;have aoi:=aq KR;clear KR Hp xa lX;go_wp2_with fail;with_reducible refine aoi.out.mono ?_
      rintro h3 bI ⟨dY,s5⟩;have eH:=aq dY;clear dY;cases r with
      |ok cs=>
       obtain⟨v,rfl,Cp⟩:=s5;have Ks:=aq Cp;clear Cp;go_wp2_with fail;go_meet;exact⟨0,0,rfl,rfl,eH.out,rfl,Ks.out⟩
      |error y=>
       obtain rfl:=s5;go_wp2_with fail;go_meet;exact⟨y.1,y.2,rfl,rfl,eH.out,rfl,rfl⟩
     |false=>
      rw[Hp] at aL;obtain⟨y0,At⟩:=ar (Bh T.data.toList);have aoj:=aq At;have i7:=EE.out;unfold zA at i7;rw[aW (by rw[Hp];decide),←EF.out,At] at i7;have Hq:g<wr.heap.size:=(Array.getElem?_eq_some_iff.1 e0.out).1;have po:=aq Hq;have cR:=aq aD;clear At Hp Hq;go_wp2_with fail;with_reducible refine (amc T rM.out y0 aoj _).mono ?_
      rintro h3 bI ⟨dY,s5⟩;have eH:=aq dY;have aE:ak bI g o (I (x.a:Int)):=(dY.cell (p:=⟨g,o,none⟩) po.out).trans cR.out;clear dY;cases y0 with
      |ok cs=>
       obtain⟨v,rfl,Cp⟩:=s5;have Ks:=aq Cp;have a':af (r=.ok cs):=i7.symm;clear Cp i7;go_wp2_with fail;go_meet;exact⟨x.a,0,rfl,rfl,eH.out,(by rw[a'.out];exact⟨rfl,Ks.out⟩)⟩
      |error n=>
       obtain rfl:=s5;have a':af (r=.error (x.a,n)):=i7.symm;clear i7;go_wp2_with fail;go_meet;exact⟨x.a,n,rfl,rfl,eH.out,(by rw[a'.out];exact⟨rfl,rfl⟩)⟩
    case rest=>
    obtain⟨sJ,Ho,rfl,rfl,eH,b6⟩:=hcut;have Cl:=aq (aI.out.trans (eH.out.mono aI.out.size));clear aD aL mO mP;cases r with
    |error y=>
     obtain⟨aH,gQ⟩:=y;obtain⟨rfl,rfl⟩:=b6.out;have hne:Ho≠0:=anC EE.out;have KF:((Ho:Int) !=0)=true:=(by simp;omega);have hr:=eO.out;have mY:(([]:List (Nat×C)),sJ,Ho)=(l,i,e):=hr;simp only[gh] at mY;obtain⟨rfl,rfl,rfl⟩:=mY;clear hr hne;go_wp2_with fail;go_ret3;exact⟨Cl.out,_,rfl,jL.nil _ _⟩
    |ok cs=>
     obtain⟨rfl,Cp⟩:=b6.out;obtain⟨pm,cP,um,Uy⟩:=Un Cp;obtain⟨AB,Kb⟩:=ar wr.heap.size;have ue:af (w.heap.size≤AB):=(by show _≤_;rw[←Kb];exact aI.out.size);rw[Kb] at Uy;rw[show (s4 cs).length=cs.length by simp[s4]] at um;subst um;have aok:=aq Uy;have aol:=aq (bC.out.below eH.out);have aom:af (∀dK,u8.ownBlock=some dK→dK<AB∨wc.heap.size≤dK):=(by obtain⟨xs,lq,_⟩:=bC.out;rw[←Kb];exact fun dK h=>.inl (lq.lt dK h).2);have gi:cs.length≤2:=anD EE.out;have aon:af (acc.length≤2000000):=(by have:=DI.out;show _≤_;omega);have ab3:af (an wc g oL 153):=aU e0.out eH.out;have aoo:=aq vl.out.1;clear Cp Uy b6 bC vl Kb;go_wp2_with fail
     go_loopw [8,70] (fun cD n cE=>∃q,q≤cs.length∧n=I (q:Int)∧af (jL w.heap.size cE cD (acc++(cs.take q).map fun c=>(x.a,c)))∧af (ky 104 wc cE)∧af (ao w w cE)∧af (∀dK,cD.ownBlock=some dK→dK<AB∨wc.heap.size≤dK)∧af (∀dK,AB≤dK→dK<wc.heap.size→cE.heap[dK]?=wc.heap[dK]?)) (fun _ n _=>cs.length -(intOf n).toNat)
     case atStart=>exact⟨0,dO _,rfl,by rw[H8,yO,List.append_nil];exact aol.out,⟨bx _,fun _ _ _ _ ay _=>ay⟩,Cl.out,aom.out,fun _ _ _=>rfl⟩
     case round=>
     obtain⟨q,aR,rfl,ab4,pb,xR,aop,ab5⟩:=hrel;by_cases aoq:q<cs.length
     ·have aw6:(q:Int)<(cs.length:Int):=(by omega);obtain⟨b,aB,cur,rfl,ab6,KS,ix⟩:=aok.out (by simp[s4];omega);obtain⟨pn,gd,ob,ht,KT,Uz,UA⟩:=ix q (by simp[s4];omega);obtain⟨bg,UB⟩:=ar (cs[q]);have eX:(s4 cs)[q]'(by simp[s4];omega)=(0,bg):=(by simp[s4,UB]);simp only[eX] at KT Uz UA;have Av:b<wc.heap.size:=(Array.getElem?_eq_some_iff.1 KS).1;have ab7:an wr b cur 104:=(ab5.out b ab6 Av).trans KS;obtain⟨a0,bA,a2,a3,a4,a5,rh,pT,sl,a9,aor,aos⟩:=Pa (c:=bg) (a:=0) (o:=aB+q *12) ab7 KT;have ab8:=pb.out.2 g _ _ _ ab3.out (by decide);have Pp:ak wr g o (I (x.a:Int)):=(by simp[World.cell?,ab8,aoo.out]);have aot:=aq ((Uz.mono ue.out).keep pb.out (by decide));have aou:=aq ((UA.mono ue.out).keep pb.out (by decide) (by decide) (by decide));obtain⟨xs,lq,ab9⟩:=ab4.out;obtain⟨N,hZ⟩:=ar ((acc++(cs.take q).map fun c=>(x.a,c)).length);rw[hZ] at lq;obtain⟨v8,ux,rfl⟩:=jH lq;have aw7:N≤3000000:=(by rw[←hZ,iv,gO,kU];have:=aon.out;omega);have uU:=aq lq;have aov:=aq ab9;have aow:=aq UB;have gP:=aq hZ;obtain⟨pa,Aw⟩:∃a:Int,(x.a:Int)=a:=⟨_,rfl⟩;rw[Aw] at Pp;have Ey:=aq Aw;have aw8:af (wc.heap.size≤wr.heap.size):=pb.out.1;clear ab6 KS ix KT Uz UA eX Av ab7 ab8 lq ab9 UB hZ Aw;go_upto_region 19 with fail;have Hr:af ((wr.alloc (ai (#[I 0,I bg.k,I bg.n,I bg.m,U bg.on,aa ⟨bg.t.toArray⟩,aa ⟨bg.x.toArray⟩,aa ⟨bg.y.toArray⟩,aa ⟨bg.i.toArray⟩,aa ⟨bg.j.toArray⟩,ad pn bg.bX.length ob,ad gd bg.blocks.length ht]) 104)).heap[wr.heap.size]?=some (.cells #[I 0,I bg.k,I bg.n,I bg.m,U bg.on,aa ⟨bg.t.toArray⟩,aa ⟨bg.x.toArray⟩,aa ⟨bg.y.toArray⟩,aa ⟨bg.i.toArray⟩,aa ⟨bg.j.toArray⟩,ad pn bg.bX.length ob,ad gd bg.blocks.length ht] 104)∧ao wr wr (wr.alloc (ai (#[I 0,I bg.k,I bg.n,I bg.m,U bg.on,aa ⟨bg.t.toArray⟩,aa ⟨bg.x.toArray⟩,aa ⟨bg.y.toArray⟩,aa ⟨bg.i.toArray⟩,aa ⟨bg.j.toArray⟩,ad pn bg.bX.length ob,ad gd bg.blocks.length ht]) 104))):=⟨fJ wr _,(Below.refl _ _).alloc (bx _) _⟩;have aca:(wr.alloc (ai (#[I 0,I bg.k,I bg.n,I bg.m,U bg.on,aa ⟨bg.t.toArray⟩,aa ⟨bg.x.toArray⟩,aa ⟨bg.y.toArray⟩,aa ⟨bg.i.toArray⟩,aa ⟨bg.j.toArray⟩,ad pn bg.bX.length ob,ad gd bg.blocks.length ht]) 104)).cell? ⟨g,o,none⟩=some (I pa):=(Hr.out.2.cell (p:=⟨g,o,none⟩) (aod Pp)).trans Pp;clear a0 bA a2 a3 a4 a5 rh pT sl a9 aor aos Pp;generalize wr.alloc (.cells #[I 0,I bg.k,I bg.n,I bg.m,U bg.on,aa ⟨bg.t.toArray⟩,aa ⟨bg.x.toArray⟩,aa ⟨bg.y.toArray⟩,aa ⟨bg.i.toArray⟩,aa ⟨bg.j.toArray⟩,ad pn bg.bX.length ob,ad gd bg.blocks.length ht] 104)=fP at Hr aca⊢;have KU:af ((fP.setCell (aj wr.heap.size 0) (I pa)).heap[wr.heap.size]?=some (.cells #[I pa,I bg.k,I bg.n,I bg.m,U bg.on,aa ⟨bg.t.toArray⟩,aa ⟨bg.x.toArray⟩,aa ⟨bg.y.toArray⟩,aa ⟨bg.i.toArray⟩,aa ⟨bg.j.toArray⟩,ad pn bg.bX.length ob,ad gd bg.blocks.length ht] 104)∧ao wr wr (fP.setCell (aj wr.heap.size 0) (I pa))):=⟨Ic Hr.out.1 _,Hr.out.2.setCell (bx _) _⟩;obtain⟨⟨d0,d1,d2,d3,d4,d5,d6,d7,d8,d9,d10,d11⟩,g0,g1,g2,g3,g4,g5,g6,g7,g8,g9,g10,g11⟩:=di Hr.out.1;go_upto_region 20 with fail;clear d0 d1 d2 d3 d4 d5 d6 d7 d8 d9 d10 d11 g0 g1 g2 g3 g4 g5 g6 g7 g8 g9 g10 g11 aca Hr;generalize fP.setCell (aj wr.heap.size 0) (I pa)=cU at KU⊢;obtain⟨⟨d0,d1,d2,d3,d4,d5,d6,d7,d8,d9,d10,d11⟩,_⟩:=di KU.out.1;obtain⟨i0,k',dy,dJ,dv⟩:=info_parts ZU;have b8:=aq (And.intro k' (And.intro dy (And.intro dJ dv)));clear k' dy dJ dv;have lT:af (ao wr wr (cU.alloc (ai (#[I pa,I bg.k,I bg.n,I bg.m,U bg.on,aa ⟨bg.t.toArray⟩,aa ⟨bg.x.toArray⟩,aa ⟨bg.y.toArray⟩,aa ⟨bg.i.toArray⟩,aa ⟨bg.j.toArray⟩,ad pn bg.bX.length ob,ad gd bg.blocks.length ht]) 104))):=KU.out.2.alloc KU.out.2.size _;go_wp2_with ((at_builtin;refine anq rfl _ _ _ rfl w.heap.size 104 i0 (.agg #[I 0,I 0,I 0,I 0,U false,aa ⟨#[]⟩,aa ⟨#[]⟩,aa ⟨#[]⟩,aa ⟨#[]⟩,aa ⟨#[]⟩,J 0,J 0]) 12 168 Kp b8.out.1 b8.out.2.1 b8.out.2.2.1 b8.out.2.2.2 rfl (by omega) (ad v8 N ux) N xs (by rfl) (gC uU.out lT.out) (aj cU.heap.size 0) 1 1 rfl [I pa,I bg.k,I bg.n,I bg.m,U bg.on,aa ⟨bg.t.toArray⟩,aa ⟨bg.x.toArray⟩,aa ⟨bg.y.toArray⟩,aa ⟨bg.i.toArray⟩,aa ⟨bg.j.toArray⟩,ad pn bg.bX.length ob,ad gd bg.blocks.length ht] (by rfl) rfl (j8 (fJ cU _)) (by simp[Value.oneCell']) (by unfold maxLen;omega) (by omega) (by have:=xR.out.size;have:=KU.out.2.size;simp<;>omega) ?_;intro v' w' fR hL acb;obtain⟨g',mW,rfl,_,_⟩:=fR.form (by omega);have acd:=aq (aoe (a:=x.a) (c:=bg) Ey.out gP.out uU.out aov.out aot.out aou.out lT.out hL fR xR.out);have UC:=aq (aof uU.out lT.out hL acb pb.out aop.out ab5.out);clear fR hL acb));clear d0 d1 d2 d3 d4 d5 d6 d7 d8 d9 d10 d11
      go_roundw
      case rel=>
       refine⟨q+1,by omega,by go_num,?_,UC.out.1,acd.out.2,UC.out.2.1,UC.out.2.2⟩;rw[List.take_add_one,mx aoq,aow.out];simp only[Option.toList_some,qI,yh,yO,←List.append_assoc];exact acd.out.1
      case measure=>simp[intOf]<;>omega
     ·obtain rfl:q=cs.length:=(by omega);have rz:af (Up (yw f2 (gL.drop j) (acc++cs.map fun c=>(x.a,c)))=(l,i,e)):=eO.out;have ace:af (jL w.heap.size wr u8 (acc++cs.map fun c=>(x.a,c))):=(by have h:=ab4.out;rw[uJ] at h;exact h);have Ux:((j:Int)+1)≤(L:Int):=(by omega);have KV:=aq (pb.out.2 g _ _ _ ab3.out (by decide));by_cases ka:j+1=cp
      ·have aox:((j:Int)+1)=(cp:Int):=(by omega);go_wp2_with fail
       go_roundw
       case rel=>
        have aoy:gL.length+1=L:=wa.out;have zZ:(gL.drop j).length=0:=by rw[fH];omega
        exact ⟨f2,gL.drop j,0,acc++cs.map fun c=>(x.a,c),_,0,o+(j+1) *4,rfl,zZ,by omega,by omega,(by have:=uh.out;show _≤_;omega),ace,xR,fun h=>absurd h (by rw[zZ];decide),
         ⟨by have:=oz.out.1;rw[fY] at this;omega,fun y hy=>oz.out.2 y (Ew _ (List.mem_of_mem_drop hy))⟩,
         (by have:=DI.out;rw[fY] at this;show (acc++cs.map fun c=>(x.a,c)).length+2 *(gL.drop j).length≤_;rw[iv,gO];omega),rz⟩
       case measure=>show 0<L;omega
      ·have aox:((j:Int)+1)<(cp:Int):=(by omega);go_wp2_with fail
       go_roundw
       case rel=>
        have aoy:gL.length+1=L:=wa.out;have zZ:(gL.drop j).length=(L -(j+1)):=by rw[fH];omega
        exact ⟨f2,gL.drop j,(L -(j+1)),acc++cs.map fun c=>(x.a,c),_,(cp -(j+1)),o+(j+1) *4,rfl,zZ,by omega,by omega,(by have:=uh.out;show _≤_;omega),ace,xR,fun _=>⟨rfl,KV.out,Ax.drop (k:=j+1) ab2.out⟩,
         ⟨by have:=oz.out.1;rw[fY] at this;omega,fun y hy=>oz.out.2 y (Ew _ (List.mem_of_mem_drop hy))⟩,
         (by have:=DI.out;rw[fY] at this;show (acc++cs.map fun c=>(x.a,c)).length+2 *(gL.drop j).length≤_;rw[iv,gO];omega),rz⟩
       case measure=>show (L -(j+1))<L;omega
 ·have KF:((a7:Int) !=0)=true:=(by simp;omega);rw[anL hw he] at aA;simp only[gh] at aA;obtain⟨rfl,rfl,rfl⟩:=aA;clear hw he aY ee;go_wp2_with fail;go_ret3;exact⟨aI.out,_,rfl,jL.nil _ _⟩
end iS
namespace dd
open Go.RowKit ef
open ct (C k2)
open iS (lu jm KM O' Pa ab0 abX Un)
def KW(bD:Nat)(l:List (Nat×C)):List eu×Nat×Nat→List eu×Nat×Nat
 |(o,i,f)=>if f=0 then (o,0,0) else if i<l.length then ([],((l.map Prod.fst)[i]?).getD 0,f) else ([],bD,f)
variable{s:au}
theorem aoz{l:List (Nat×C)}{a:Nat}{b:Int}(h:k2 s=(l,a,0)):jx s b=KW s.length l (FQ (l.map Prod.snd) b):=by unfold jx KW;rw[h];rfl
theorem aoA{l:List (Nat×C)}{a e:Nat}{b:Int}(h:k2 s=(l,a,e))(he:e≠0):jx s b=([],a,e):=by unfold jx;rw[h];simp only;rw[bb he]
theorem aoB(S:Ua)(hm:S.size≤1000000)(br:Int)(w:aeo)(hR:(∀x∈(k2 S.data.toList).1,KO x.2)∧xQ ((k2 S.data.toList).1.map Prod.snd) (tN br))(aA:(k2 S.data.toList).1.length≤500000)(res:List eu×Nat×Nat)(dA:jx S.data.toList br=res):
  Calls Tryz.prog 19 #[aa S,I br] w fun e w'=>KP w res e w':=by
 obtain⟨⟨l,a,oM⟩,hp⟩:=ar (k2 S.data.toList);have bT:=aq hp;rw[hp] at hR aA;have bw:=aq hR;have mg:l.length≤500000:=aA;have acf:=aq dA;have Ib:S.size≤maxLen:=by unfold maxLen;omega
 clear hp hR aA dA;go_enter Tryz.func19,Tryz.ntmps19;go_wp2_with fail;with_reducible refine (ab0 S Ib w l a oM bT).mono ?_
 rintro e W ⟨ax,v,rfl,yd⟩;obtain⟨pp,cap,rfl,mQ⟩:=Un yd;have aI:=aq ax;have acg:=aq mQ;clear ax yd mQ;by_cases Gg:oM=0
 ·subst Gg;obtain⟨⟨aB,i,f⟩,pX⟩:=ar (FQ (l.map Prod.snd) br);have aO:af (KW S.size l (aB,i,f)=res):=(by rw[←pX,←acf.out];exact (aoz bT.out).symm);have aoC:=aq pX;obtain⟨n,hn⟩:=ar l.length;have bd:=aq hn;have rb:n≤500000:=(by rw[←hn];exact mg);rw[hn];clear pX hn;go_wp2_with fail;with_reducible refine (anX w.heap.size l pp n cap bd.out.symm br W acg mg bw.out.1 bw.out.2 (aB,i,f) aoC).mono ?_
  rintro e b4 ⟨dc,q,d,rfl,vE⟩;have c6:=aq dc;have ach:=aq vE;clear dc vE;by_cases l4:f=0
  ·subst l4;have fT:af ((aB,0,0)=res):=(by rw[←aO.out];exact rfl);go_wp2_with fail;go_ret3;rw[←fT.out];exact⟨aI.out.trans (c6.out.mono aI.out.size),q,d,rfl,ach.out.mono fun k _ ay=>dx aI.out.size ay⟩
  ·have nK:(((f:Int)==0):Bool)=false:=(by rw[kS];omega);by_cases lZ:i<n
   ·have UD:i<l.length:=(by rw[bd.out];exact lZ);have aci:(i:Int)<(n:Int):=(by omega);have k':(0:Int)≤(i:Int):=(by omega);obtain⟨⟨ca,na⟩,Fo⟩:=ar (l[i]);obtain⟨b,o,b1,bO,cw,ba,rfl,ks,eX,_,_⟩:=abC acg.out UD Fo;have hd:decide ((i:Int)<(n:Int))=true:=eL aci;have fT:af (([],ca,f)=res):=(by show _=_;rw[←aO.out];unfold KW;simp only;rw[aW l4,bb UD,xb,mx UD,Fo];rfl);have aw9:=uw ks c6.out eX.1;have e7:=aq (aI.out.trans (c6.out.mono aI.out.size));clear eX Fo ks ach;go_upto_region 8 with fail
    go_quiet (fail)
    go_wp2_with fail;go_ret3;rw[←fT.out];exact⟨kX e7.out _,none,0,rfl,.nil _ _ _⟩
   ·have aci:¬(i:Int)<(n:Int):=(by omega);have fT:af (([],S.size,f)=res):=(by show _=_;rw[←aO.out];unfold KW;simp only;rw[aW l4,aW (by rw[bd.out];exact lZ)]);go_wp2_with fail;go_ret3;rw[←fT.out];exact⟨aI.out.trans (c6.out.mono aI.out.size),none,0,rfl,.nil _ _ _⟩
 ·have IW:(((oM:Int) !=0):Bool)=true:=(by rw[wK];omega);have aO:af (([],a,oM)=res):=(by rw[←acf.out];exact (aoA bT.out Gg).symm);go_wp2_with fail;go_ret3;rw[←aO.out];exact⟨aI.out,none,0,rfl,.nil _ _ _⟩
end dd
namespace Pq
open Go.RowKit
theorem disable(w:aeo):(callFunc 191 #[]).run Tryz.prog w=.ok (.value (.tuple #[])) w:=run_call_mark0 Tryz.func191 (by kernel_rfl) (by kernel_rfl) (by kernel_rfl) .disable (by kernel_rfl) w
theorem enable(w:aeo):(callFunc 193 #[]).run Tryz.prog w=.ok (.value (.tuple #[])) w:=run_call_mark0 Tryz.func193 (by kernel_rfl) (by kernel_rfl) (by kernel_rfl) .enable (by kernel_rfl) w
theorem acquire(a:Addr)(w:aeo):(callFunc 194 #[.pointer (some a)]).run Tryz.prog w=.ok (.value (.tuple #[])) w:=run_call_marked Tryz.func194 (by kernel_rfl) (by kernel_rfl) (by kernel_rfl) .acquire (by kernel_rfl) a w
theorem releaseMerge(a:Addr)(w:aeo):(callFunc 196 #[.pointer (some a)]).run Tryz.prog w=.ok (.value (.tuple #[])) w:=run_call_marked Tryz.func196 (by kernel_rfl) (by kernel_rfl) (by kernel_rfl) .releaseMerge (by kernel_rfl) a w
theorem acj(a:Addr)(x:ada)(u:FrameMode)(w:aeo)(hc:w.cell? a=some x)(cz:w.frozen? a=false):
  CallsD Tryz.prog 111 #[.pointer (some a),U true] u w fun e EG w'=>EG=u∧(e=ab (.tuple #[])∧w'=w.drew.setCell a (.int .u32 1)):=by
 have qe:w.drew.cell? a=some x:=by go_simp
 have aoD:w.drew.frozen? a=false:=by go_simp
 have kK:=run_call_store (P:=Tryz.prog) Tryz.func157 (by kernel_rfl) (by kernel_rfl) (by kernel_rfl) (by kernel_rfl) (k:=.u32) (y:=1) qe aoD
 go_enter_d Tryz.func111,Tryz.ntmps111
 go_wp2
 go_region_calls
 all_goals (go_end0;exact⟨rfl,rfl⟩)
theorem aoE(a:Addr)(w:aeo)(hc:w.cell? a=some (.int .i32 1))(cz:w.frozen? a=false):
  Calls Tryz.prog 156 #[.pointer (some a)] w fun e w'=>e=ab (.tuple #[])∧w'=w.setCell a (.int .i32 0):=by
 have hd:=disable;have he:=enable;have hr:=releaseMerge;have wH:=Uv (P:=Tryz.prog) Tryz.func76 (by kernel_rfl) (by kernel_rfl) (by kernel_rfl) .i32 (by kernel_rfl) (y:=-1) (s:=0) hc cz (by simp[go_sem];rfl);have AA:=abO (P:=Tryz.prog) (src:=315) (dst:=318) Tryz.underlying315 Tryz.underlying318 (by kernel_rfl) hc;go_enter Tryz.func156,Tryz.ntmps156;go_wp2;go_end0;exact⟨rfl,rfl⟩
theorem ack(a:Addr)(u:FrameMode)(w:aeo)(hc:w.cell? a=some (.int .i32 1))(cz:w.frozen? a=false):
  CallsD Tryz.prog 110 #[.pointer (some a)] u w fun e EG w'=>EG=u∧(e=ab (.tuple #[])∧w'=w.setCell a (.int .i32 0)):=by
 go_enter_d Tryz.func110,Tryz.ntmps110
 go_wp2_with (go_at_call 156;refine (aoE a _ hc cz).mono ?_;rintro e w' ⟨rfl,rfl⟩);go_end0;exact⟨rfl,rfl⟩
theorem aoF(a:Addr)(w:aeo)(hc:w.cell? a=some (.int .i32 0))(cz:w.frozen? a=false):
  Calls Tryz.prog 155 #[.pointer (some a)] w fun e w'=>e=ab (.tuple #[])∧w'=w.setCell a (.int .i32 1):=by
 have hd:=disable;have he:=enable;have ha:=acquire;have axa:=run_call_cas_hit (P:=Tryz.prog) Tryz.func192 (by kernel_rfl) (by kernel_rfl) (by kernel_rfl) .i32 (by kernel_rfl) (y:=1) hc cz;have qe:(w.setCell a (.int .i32 1)).cell? a=some (.int .i32 1):=World.cell?_setCell_same w a _ hc;have AA:=abO (P:=Tryz.prog) (src:=315) (dst:=318) Tryz.underlying315 Tryz.underlying318 (by kernel_rfl) qe;go_enter Tryz.func155,Tryz.ntmps155;go_wp2;first|go_end0|(simp only[Exit.inBlock,Exit.then];refine dU (Nk rfl _ _ _) rfl ?_)|refine dU (Nk rfl _ _ _) rfl ?_
 exact⟨rfl,rfl⟩
theorem acm(a:Addr)(w:aeo)(hc:w.cell? a=some (.int .i32 0))(cz:w.frozen? a=false):
  Calls Tryz.prog 109 #[.pointer (some a)] w fun e w'=>e=ab (.tuple #[])∧w'=w.setCell a (.int .i32 1):=by
 go_enter Tryz.func109,Tryz.ntmps109;go_wp2_with (go_at_call 155;refine (aoF a _ hc cz).mono ?_;rintro e w' ⟨rfl,rfl⟩);go_end0;exact⟨rfl,rfl⟩
end Pq
