/- Lemmas. -/
import Derived.Test.YtfldplmgkeiimaaGreatDoorR1
import Derived.Lib.Replace
import Derived.Lib.IndexBytes
set_option linter.all false
set_option maxRecDepth 100000
set_option maxHeartbeats 800000
namespace Go.Proofs.YtfldplmgkeiimaaGreatDoor
abbrev Fp:=@List.drop_take
abbrev gh:=@Prod.mk.injEq
abbrev A6:=@List.getElem_cons_succ
abbrev Mj:=@of_decide_eq_true
abbrev QK:=@Proofs.Tryz.strings_IndexByte
abbrev Fq:=@Int.natCast_nonneg
abbrev H6:=@List.take_succ_cons
abbrev tu:=@List.drop_zero
abbrev kU:=@List.length_take
abbrev q9:=@Calls.quiet_of_same
abbrev H7:=@List.take_append_drop
abbrev CU:=@List.take_take
abbrev A7:=@Nat.min_eq_left
abbrev mA:=@Nat.lt_irrefl
abbrev H8:=@List.take_zero
abbrev uR:=@beq_iff_eq
abbrev QL:=@Lib.replaceK_hit
abbrev CV:=@List.takeWhile_cons_of_pos
abbrev WL:=@List.filter_eq_nil_iff
abbrev Mk:=@List.getElem_take
abbrev Ml:=@List.nil_append
abbrev H9:=@List.cons_append
abbrev Mm:=@List.getElem?_append_left
abbrev A8:=@List.getElem?_append_right
abbrev CW:=@List.getElem_append_left
namespace pk
open Go.RowKit kR ig n1 zi
theorem Fs(s:Ua)(a k:Nat):(s.extract a k).data.toList=(s.data.toList.take k).drop a:=by rw[x8,Fp]
theorem agi(c:UInt8)(r:au)(l:UInt8):hH (c::r) l=if c=l then (r.take (wx r),r.drop (wx r),Fj (r.take (wx r))) else ([],c::r,true):=rfl
def sh(w w':aeo):Prop:=∃n,w'=w.drewN n
theorem agj(c:UInt8):((c.toNat:Int)).toNat.toUInt8=c:=by simp
theorem H'(S:Ua)(hs:S.size≤maxLen)(l:UInt8)(gE:Int)(Mn:af ((l.toNat:Int)=gE))(C R:Ua)(ok:Bool)(h:af (hH S.data.toList l=(C.data.toList,R.data.toList,ok)))(w:aeo):
  Calls Tryz.prog 237 #[aa S,.int .u8 gE] w fun e w'=>e=ab (.tuple #[aa C,aa R,U ok])∧sh w w':=by
 have wG:=aq hs;unfold maxLen at hs;by_cases aS:S.size=0
 ·obtain rfl:=QI aS;have aK:=h.out;unfold hH at aK;simp only[gh] at aK;obtain⟨av,az,aC⟩:=aK;obtain rfl:C=⟨#[]⟩:=hY av.symm;obtain rfl:R=⟨#[]⟩:=hY az.symm;subst aC;clear h av az;go_enter Tryz.func237,Tryz.ntmps237;go_wp2_with fail;go_ret3;exact⟨rfl,0,rfl⟩
 ·have hne:(S.toList==[])=false:=(by rw[CR];exact ey aS);have hp:0<S.size:=(by omega);obtain⟨r,hr,mY⟩:=QJ S hp;obtain⟨c,hc⟩:=ar (S[0]);rw[hc] at hr;have aK:=h.out;rw[hr,agi] at aK;by_cases gi:c=l
  ·subst gi;rw[bb rfl] at aK;simp only[gh] at aK;obtain⟨av,az,aC⟩:=aK;have bC:=aq av;have bw:=aq az;have b6:=aq aC;have dn:=aq hr;have oR:r.length+1=S.size:=(by rw[←cb,hr];rfl);have avy:(c.toNat:Int)=gE:=Mn.out;clear h av az aC mY hr;go_enter Tryz.func237,Tryz.ntmps237;go_wp2_with fail
   go_loop [7] (fun i=>∃j:Nat,j+1≤S.size∧af (j≤sp ya r)∧i=I ((j:Int)+1)) (fun i=>S.size+1 -(intOf i).toNat)
   case atStart=>exact⟨0,by omega,dO _,rfl⟩
   case round=>
    obtain⟨j,cd,cG,rfl⟩:=hrel;by_cases bR:j+1<S.size
    ·have gU:(j:Int)+1<(S.size:Int):=(by omega);obtain⟨x,hx⟩:=ar (S[j+1]);have agk:∃aA:j<r.length,r[j]=x:=(by refine⟨by omega,?_⟩;obtain⟨aA,he⟩:=Fm S (j+1) bR;rw[←hx,←he];simp only[dn.out,A6]);have ee:af (decide (0≤Lib.indexByte [43,45,46,48,49,50,51,52,53,54,55,56,57] ((x.toNat:Int)).toNat.toUInt8)=ya x):=(by show _=_;rw[agj];exact afV x);obtain⟨lX,Mo⟩:=agk;cases Ft:ya x with
     |true=>
      have hM:af (j+1≤sp ya r):=Wt cG.out lX (by rw[Mo];exact Ft);have kB:(0:Int)≤Lib.indexByte [43,45,46,48,49,50,51,52,53,54,55,56,57] ((x.toNat:Int)).toNat.toUInt8:=(by have:=ee.out;rw[Ft] at this;exact Mj this);obtain⟨Ia,CX⟩:=ar (Lib.indexByte [43,45,46,48,49,50,51,52,53,54,55,56,57] ((x.toNat:Int)).toNat.toUInt8);have CY:=aq CX;rw[CX] at kB;clear CX Ft ee Mo lX;go_wp2_with fail;with_reducible refine (QK _ _ _).mono ?_
      rintro e w' ⟨rfl,rfl⟩;have gi:(⟨#[43,45,46,48,49,50,51,52,53,54,55,56,57]⟩:Ua).data.toList=[43,45,46,48,49,50,51,52,53,54,55,56,57]:=rfl;rw[gi,CY.out];go_wp2_with fail;go_round
      case rel=>exact⟨j+1,by omega,hM.out,by go_num⟩
      case measure=>simp[intOf];omega
     |false=>
      have hM:af (sp ya r=j):=Wu cG.out lX (by rw[Mo];exact Ft);have kB:¬(0:Int)≤Lib.indexByte [43,45,46,48,49,50,51,52,53,54,55,56,57] ((x.toNat:Int)).toNat.toUInt8:=(by have:=ee.out;rw[Ft] at this;exact of_decide_eq_false this);obtain⟨Ia,CX⟩:=ar (Lib.indexByte [43,45,46,48,49,50,51,52,53,54,55,56,57] ((x.toNat:Int)).toNat.toUInt8);have CY:=aq CX;rw[CX] at kB;have bl:af (j=wx r):=(by show _=_;rw[Wv,hM.out]);clear CX Ft ee Mo lX;go_wp2_with fail;with_reducible refine (QK _ _ _).mono ?_
      rintro e w' ⟨rfl,rfl⟩;have gi:(⟨#[43,45,46,48,49,50,51,52,53,54,55,56,57]⟩:Ua).data.toList=[43,45,46,48,49,50,51,52,53,54,55,56,57]:=rfl;rw[gi,CY.out];clear CY gi;have mB:(0:Int)≤(j:Int):=Fq _;have lY:af (S.extract 1 (j+1)=C):=hY (by rw[Fs,dn.out,H6,uP,tu,bl.out];exact bC.out);have tv:af (S.extract (j+1) S.size=R):=hY (by rw[jP,dn.out,uP,bl.out];exact bw.out);have QM:C.size≤maxLen:=(by rw[←cb,←bC.out];have:=kU (i:=wx r) (l:=r);unfold maxLen;omega);have QN:af (Fj C.data.toList=ok):=(by show _=_;rw[←bC.out];exact b6.out);go_upto_region 7 with fail;rw[lY.out]
      go_quiet ((go_at_call 265;exact q9 ((WJ C QM ok QN _).mono fun _ _ h=>⟨h.1,h.2.symm⟩)))
      all_goals
       rw[tv.out];go_wp2_with fail;go_ret3;exact⟨rfl,_,rfl⟩
    ·have gU:¬((j:Int)+1<(S.size:Int)):=(by omega);have bl:af (j=wx r):=(by show _=_;have av:=cG.out;have az:=Ws ya r;rw[Wv];omega);have mB:(0:Int)≤(j:Int):=Fq _;have lY:af (S.extract 1 (j+1)=C):=hY (by rw[Fs,dn.out,H6,uP,tu,bl.out];exact bC.out);have tv:af (S.extract (j+1) S.size=R):=hY (by rw[jP,dn.out,uP,bl.out];exact bw.out);have QM:C.size≤maxLen:=(by rw[←cb,←bC.out];have:=kU (i:=wx r) (l:=r);unfold maxLen;omega);have QN:af (Fj C.data.toList=ok):=(by show _=_;rw[←bC.out];exact b6.out);go_upto_region 7 with fail;rw[lY.out]
     go_quiet ((go_at_call 265;exact q9 ((WJ C QM ok QN _).mono fun _ _ h=>⟨h.1,h.2.symm⟩)))
     all_goals
      rw[tv.out];go_wp2_with fail;go_ret3;exact⟨rfl,_,rfl⟩
  ·rw[aW gi] at aK;simp only[gh] at aK;obtain⟨av,az,aC⟩:=aK;obtain rfl:C=⟨#[]⟩:=hY av.symm;obtain rfl:R=S:=hY (az.symm.trans hr.symm);subst aC;have avz:((c.toNat:Int)==gE)=false:=(by rw[kS,←Mn.out];intro e;exact gi (UInt8.toNat_inj.1 (by omega)));clear h av az hr mY;go_enter Tryz.func237,Tryz.ntmps237;go_wp2_with fail;go_ret3;exact⟨rfl,0,rfl⟩
theorem sh.trans{a b c:aeo}(h:sh a b)(az:sh b c):sh a c:=by obtain⟨n,rfl⟩:=h;obtain⟨m,rfl⟩:=az;exact⟨n+m,by simp[World.drewN,wo]⟩
theorem n5(S:Ua):(⟨S.data.toList.toArray⟩:Ua)=S:=hY rfl
theorem Mf(S:Ua):S.data.toList=[]↔S.size=0:=by rw[←cb];exact⟨fun h=>by rw[h];rfl,mT⟩
theorem WM(l:au){j k:Nat}(h:j≤k):val (l.take j)≤val (l.take k):=by have e:=(H7 j (l.take k)).symm;rw[CU,A7 h] at e;rw[e,afB];have:1≤10 ^((l.take k).drop j).length:=HY (by decide);have az:val (l.take j) *1≤val (l.take j) *10 ^((l.take k).drop j).length:=Nat.mul_le_mul_left _ this;omega
theorem WN(l:au)(h:0<l.length):l.headD 0=l[0]:=by
 cases l with
 |nil=>simp at h
 |cons x r=>rfl
def agl(o:Option (Nat×List UInt8))(e:Ending):Prop:=match o with
 |some (n,r)=>e=ab (.tuple #[I (n:Int),aa ⟨r.toArray⟩,U true])
 |none=>∃(n:Int) (r:Ua),e=ab (.tuple #[I n,aa r,U false])
theorem Fu(S:Ua)(hs:S.size≤maxLen)(b5:Nat)(hm:b5≤9999)(bB:Int)(Ib:af ((b5:Int)=bB))(o:Option (Nat×List UInt8))(h:af (Fk S.data.toList b5=o))(w:aeo):
  Calls Tryz.prog 202 #[aa S,I bB] w fun e w'=>agl o e∧sh w w':=by
 unfold maxLen at hs;have agm:0≤bB∧bB≤9999:=by have:=Ib.out;omega
 obtain⟨avA,avB⟩:=agm;clear hm;go_enter Tryz.func202,Tryz.ntmps202;go_wp2_with fail
 go_loop [7,8] (fun v i=>∃(n j:Nat),j≤S.size∧n≤9999∧af (j≤bn S.data.toList∧n=val (S.data.toList.take j)∧n≤b5∧(0<j→S.data.toList.headD 0≠48))∧v=I n∧i=I j) (fun _ i=>S.size -(intOf i).toNat)
 case atStart=>exact⟨0,0,dO _,dO _,⟨dO _,rfl,dO _,fun h=>absurd h (mA _)⟩,rfl,rfl⟩
 case round=>
  obtain⟨n,j,cd,hn,cG,rfl,rfl⟩:=hrel
  have zm:af (bn S.data.toList=j→o=if j=0 then none else some (n,S.data.toList.drop j)):=by
   intro he;obtain⟨_,az,aC,bt⟩:=cG.out;rw[←h.out];unfold Fk;rw[he,←az];by_cases aS:j=0
   ·rw[bb (.inl aS),bb aS]
   ·rw[aW (by rintro (h|h|h)<;>first|exact aS h|exact bt (by omega) h|omega),aW aS]
  by_cases bR:j<S.size
  ·have gU:(j:Int)<(S.size:Int):=(by omega);obtain⟨c,hc⟩:=ar (S[j]);obtain⟨aA,he⟩:=Fm S j bR;rw[hc] at he;by_cases h0:(48:Int)≤(c.toNat:Int)
   ·by_cases agh:(c.toNat:Int)≤57
    ·have b2:fi c=true:=(ph c).2 ⟨by omega,by omega⟩;obtain⟨d,hd⟩:∃d:Nat,c.toNat-48=d:=⟨_,rfl⟩;have avC:d≤9:=(by omega);have oS:(c.toNat:Int)-48=(d:Int):=(by omega);have avD:IntKind.u8.wrap (d:Int)=(d:Int):=(by rw[IntKind.wrap_u8];omega);obtain⟨fa,h1⟩:∃fa:Nat,10 *n+d=fa:=⟨_,rfl⟩;have wH:10 *(n:Int)+(d:Int)=(fa:Int):=(by omega);have b0:af (fa=val (S.data.toList.take (j+1))∧j+1≤bn S.data.toList):=(by obtain⟨g1,g2,_,_⟩:=cG.out;refine⟨?_,HV g1 aA (by rw[he];exact b2)⟩;rw[wy aA,HU,←g2,he,hd];omega);by_cases cz:fa=0
     ·have bd:af (o=none):=by
       show _=_;obtain⟨g1,g2,g3,g4⟩:=cG.out
       have mB:j=0:=by
        apply uK;intro mC;have aK:=g4 (by omega);have QO:=b0.out.2;have av:val (S.data.toList.take 1)≤val (S.data.toList.take (j+1)):=WM _ (by omega);rw[←b0.out.1,cz] at av;cases q':S.data.toList with
        |nil=>rw[q'] at aA;simp at aA
        |cons x r=>
         rw[q'] at av aK QO;have hx:fi x=true:=(by apply uK;intro hx;rw[L3,aW hx] at QO;omega);have n2:=(ph x).1 hx;rw[H6,H8] at av;have az:val [x]=x.toNat-48:=(by simp[val]);rw[az] at av;apply aK;show x=48;exact UInt8.toNat_inj.1 (by show x.toNat=48;omega)
       subst mB;rw[←h.out];unfold Fk;rw[bb];right;left;have agn:c=48:=UInt8.toNat_inj.1 (by show c.toNat=48;omega);rw[WN _ aA,he,agn]
      have QE:((fa:Int)==0)=true:=(by rw[cz];rfl);clear zm he hd;go_wp2_with fail;go_ret3;exact⟨by rw[bd.out];exact⟨_,_,rfl⟩,0,rfl⟩
     ·have QE:((fa:Int)==0)=false:=(by rw[kS];omega);by_cases avE:bB<(fa:Int)
      ·have bd:af (o=none):=(by show _=_;rw[←h.out];unfold Fk;rw[bb];right;right;have av:=WM S.data.toList b0.out.2;rw[←b0.out.1] at av;have:=Ib.out;omega);clear zm he hd;go_wp2_with fail;go_ret3;exact⟨by rw[bd.out];exact⟨_,_,rfl⟩,0,rfl⟩
      ·have hM:af (j+1≤bn S.data.toList∧fa=val (S.data.toList.take (j+1))∧fa≤b5∧(0<j+1→S.data.toList.headD 0≠48)):=by
        refine⟨b0.out.2,b0.out.1,by have:=Ib.out;omega,fun _=>?_⟩;by_cases mB:j=0
        ·subst mB;intro ago;have hx:c=48:=(by rw[←ago,WN _ aA,he]);have aS:n=0:=(by have:=cG.out.2.1;rw[this];rfl);have:c.toNat=48:=(by rw[hx];rfl);omega
        ·exact cG.out.2.2.2 (by omega)
       have agp:fa≤9999:=(by omega);clear zm he hd;go_wp2_with fail;go_round
       case rel=>exact⟨fa,j+1,by omega,agp,hM.out,rfl,by go_num⟩
       case measure=>simp[intOf];omega
    ·have cR:af (o=if j=0 then none else some (n,S.data.toList.drop j)):=zm.out (CI cG.out.1 aA (by rw[he];exact (zh c).2 (by omega)));clear zm he;go_wp2_with fail
     go_quiet (fail)
     all_goals
      go_wp2_with fail;go_ret3;by_cases mB:j=0
      ·refine⟨?_,_,rfl⟩;rw[cR.out,bb mB];exact⟨_,_,by rw[mB];rfl⟩
      ·refine⟨?_,_,rfl⟩;rw[cR.out,aW mB];have hd:decide (0<j)=true:=eL (by omega);have hS:S.extract j S.size=⟨(S.data.toList.drop j).toArray⟩:=hY (jP S j);show _=Ending.returned (.tuple #[I (n:Int),aa ⟨(S.data.toList.drop j).toArray⟩,U true]);rw[←hS,←hd];rfl
   ·have cR:af (o=if j=0 then none else some (n,S.data.toList.drop j)):=zm.out (CI cG.out.1 aA (by rw[he];exact (zh c).2 (by omega)));clear zm he;go_wp2_with fail
    go_quiet (fail)
    all_goals
     go_wp2_with fail;go_ret3;by_cases mB:j=0
     ·refine⟨?_,_,rfl⟩;rw[cR.out,bb mB];exact⟨_,_,by rw[mB];rfl⟩
     ·refine⟨?_,_,rfl⟩;rw[cR.out,aW mB];have hd:decide (0<j)=true:=eL (by omega);have hS:S.extract j S.size=⟨(S.data.toList.drop j).toArray⟩:=hY (jP S j);show _=Ending.returned (.tuple #[I (n:Int),aa ⟨(S.data.toList.drop j).toArray⟩,U true]);rw[←hS,←hd];rfl
  ·have gU:¬((j:Int)<(S.size:Int)):=(by omega);have cR:af (o=if j=0 then none else some (n,S.data.toList.drop j)):=zm.out (by have:=qd S.data.toList;rw[cb] at this;have:=cG.out.1;omega);clear zm;go_wp2_with fail
   go_quiet (fail)
   all_goals
    go_wp2_with fail;go_ret3;by_cases mB:j=0
    ·refine⟨?_,_,rfl⟩;rw[cR.out,bb mB];exact⟨_,_,by rw[mB];rfl⟩
    ·refine⟨?_,_,rfl⟩;rw[cR.out,aW mB];have hd:decide (0<j)=true:=eL (by omega);have hS:S.extract j S.size=⟨(S.data.toList.drop j).toArray⟩:=hY (jP S j);show _=Ending.returned (.tuple #[I (n:Int),aa ⟨(S.data.toList.drop j).toArray⟩,U true]);rw[←hS,←hd];rfl
def Mp(d:D)(a:Int)(cK:ada):Array Value:= #[I a,I d.k,I d.n,U d.on,aa ⟨d.t.toArray⟩,aa ⟨d.x.toArray⟩,aa ⟨d.y.toArray⟩,aa ⟨d.u.toArray⟩,aa ⟨d.v.toArray⟩,cK]
abbrev bN:Value:=J 0
abbrev A9(d:D)(a:Int)(cK:ada):Value:=.agg (Mp d a cK)
abbrev agq(d:D)(a:Int)(cK:ada):Obj:=.cells (Mp d a cK) 184
def dH(B:Nat)(w:aeo)(p:Ja)(l:List Int):Prop:=0<l.length→∃(b o:Nat) (cs:ajv),p=some ⟨b,o,none⟩∧B≤b∧an w b cs 2∧∀i (hi:i<l.length),cs[o+i]?=some (I l[i])
theorem dH.nil(B:Nat)(w:aeo)(p:Ja):dH B w p []:=fun h=>absurd h (mA _)
variable{b:Nat}{w x:aeo}
theorem aU{v:aeo}{o:Obj}(h:w.heap[b]?=some o)(ax:ao w w v):v.heap[b]?=some o:=
 (ax.block b (Array.getElem?_eq_some_iff.1 h).1).trans h
theorem dH.below{B:Nat}{w':aeo}{p:Ja}{l:List Int}(h:dH B w p l)(ax:ao w w w'):dH B w' p l:=by intro aA;obtain⟨b,o,cs,rfl,bK,aK,hc⟩:=h aA;exact⟨b,o,cs,rfl,bK,aU aK ax,hc⟩
theorem dH.mono{B C:Nat}{p:Ja}{l:List Int}(h:dH B w p l)(mZ:C≤B):dH C w p l:=by intro aA;obtain⟨b,o,cs,rfl,bK,aK,hc⟩:=h aA;exact⟨b,o,cs,rfl,dx mZ bK,aK,hc⟩
def yf(o:Option D)(w:aeo)(e:Ending)(w':aeo):Prop:=Below w.heap.size w w'∧match o with
 |some d=>∃p c,e=ab (.tuple #[A9 d 0 (ad p d.bX.length c),U true])∧dH w.heap.size w' p d.bX
 |none=>e=ab (.tuple #[A9 Qs 0 bN,U false])
variable{v0 v1 v2 v3 v4 v5 v6 cj cD v9:ada}{t:aai}
theorem ra(h:an w b (#[v0,v1,v2,v3,v4,v5,v6,cj,cD,v9]) t):
  (ak w b 0 v0∧ak w b 1 v1∧ak w b 2 v2∧ak w b 3 v3∧ak w b 4 v4∧ak w b 5 v5∧ak w b 6 v6∧ak w b 7 cj∧ak w b 8 cD∧ak w b 9 v9)∧
  (w.frozen? ⟨b,0,none⟩=false∧w.frozen? ⟨b,1,none⟩=false∧w.frozen? ⟨b,2,none⟩=false∧w.frozen? ⟨b,3,none⟩=false∧w.frozen? ⟨b,4,none⟩=false∧w.frozen? ⟨b,5,none⟩=false∧w.frozen? ⟨b,6,none⟩=false∧w.frozen? ⟨b,7,none⟩=false∧w.frozen? ⟨b,8,none⟩=false∧w.frozen? ⟨b,9,none⟩=false):=by
 refine⟨⟨?_,?_,?_,?_,?_,?_,?_,?_,?_,?_⟩,?_,?_,?_,?_,?_,?_,?_,?_,?_,?_⟩<;>simp[World.cell?,World.frozen?,h]
theorem here{c:ajv}(h:an x b c t)(o:Nat)(u:ada):(x.setCell (aj b o) u).heap[b]?=some (.cells (c.setIfInBounds o u) t):=by show (Array.modify _ _ _)[b]?=_;rw[zj,bb rfl,h];rfl
def wI(w:aeo)(b:Nat)(d:D)(a:Int)(cK:ada):World:=
 (((((((((w.setCell (aj b 0) (I a)).setCell (aj b 1) (I d.k)).setCell (aj b 2) (I d.n)).setCell (aj b 3) (U d.on)).setCell (aj b 4) (aa ⟨d.t.toArray⟩)).setCell (aj b 5) (aa ⟨d.x.toArray⟩)).setCell (aj b 6) (aa ⟨d.y.toArray⟩)).setCell (aj b 7) (aa ⟨d.u.toArray⟩)).setCell (aj b 8) (aa ⟨d.v.toArray⟩)).setCell (aj b 9) cK
theorem Ic(h:an x b (#[v0,v1,v2,v3,v4,v5,v6,cj,cD,v9]) t)(u:ada):(x.setCell (aj b 0) u).heap[b]?=some (.cells #[u,v1,v2,v3,v4,v5,v6,cj,cD,v9] t):=here h 0 u
theorem Mq(h:an x b (#[v0,v1,v2,v3,v4,v5,v6,cj,cD,v9]) t)(u:ada):(x.setCell (aj b 1) u).heap[b]?=some (.cells #[v0,u,v2,v3,v4,v5,v6,cj,cD,v9] t):=here h 1 u
theorem Mr(h:an x b (#[v0,v1,v2,v3,v4,v5,v6,cj,cD,v9]) t)(u:ada):(x.setCell (aj b 2) u).heap[b]?=some (.cells #[v0,v1,u,v3,v4,v5,v6,cj,cD,v9] t):=here h 2 u
theorem Ms(h:an x b (#[v0,v1,v2,v3,v4,v5,v6,cj,cD,v9]) t)(u:ada):(x.setCell (aj b 3) u).heap[b]?=some (.cells #[v0,v1,v2,u,v4,v5,v6,cj,cD,v9] t):=here h 3 u
theorem Mt(h:an x b (#[v0,v1,v2,v3,v4,v5,v6,cj,cD,v9]) t)(u:ada):(x.setCell (aj b 4) u).heap[b]?=some (.cells #[v0,v1,v2,v3,u,v5,v6,cj,cD,v9] t):=here h 4 u
theorem Mu(h:an x b (#[v0,v1,v2,v3,v4,v5,v6,cj,cD,v9]) t)(u:ada):(x.setCell (aj b 5) u).heap[b]?=some (.cells #[v0,v1,v2,v3,v4,u,v6,cj,cD,v9] t):=here h 5 u
theorem Mv(h:an x b (#[v0,v1,v2,v3,v4,v5,v6,cj,cD,v9]) t)(u:ada):(x.setCell (aj b 6) u).heap[b]?=some (.cells #[v0,v1,v2,v3,v4,v5,u,cj,cD,v9] t):=here h 6 u
theorem Mw(h:an x b (#[v0,v1,v2,v3,v4,v5,v6,cj,cD,v9]) t)(u:ada):(x.setCell (aj b 7) u).heap[b]?=some (.cells #[v0,v1,v2,v3,v4,v5,v6,u,cD,v9] t):=here h 7 u
theorem Mx(h:an x b (#[v0,v1,v2,v3,v4,v5,v6,cj,cD,v9]) t)(u:ada):(x.setCell (aj b 8) u).heap[b]?=some (.cells #[v0,v1,v2,v3,v4,v5,v6,cj,u,v9] t):=here h 8 u
theorem My(h:an x b (#[v0,v1,v2,v3,v4,v5,v6,cj,cD,v9]) t)(u:ada):(x.setCell (aj b 9) u).heap[b]?=some (.cells #[v0,v1,v2,v3,v4,v5,v6,cj,cD,u] t):=here h 9 u
theorem Mz{h2:aeo}(ax:ao w w h2)(hr:an h2 w.heap.size (#[v0,v1,v2,v3,v4,v5,v6,cj,cD,v9]) 184)(d:D)(a:Int)(cK:ada):
  (wI h2 w.heap.size d a cK).heap[w.heap.size]?=some (agq d a cK)∧ao w w (wI h2 w.heap.size d a cK):=by
 refine⟨?_,?_⟩
 ·exact My (Mx (Mw (Mv (Mu (Mt (Ms (Mr (Mq (Ic hr _) _) _) _) _) _) _) _) _) _
 ·unfold wI;exact (((((((((ax.setCell (bx _) _).setCell (bx _) _).setCell (bx _) _).setCell (bx _) _).setCell (bx _) _).setCell (bx _) _).setCell (bx _) _).setCell (bx _) _).setCell (bx _) _).setCell (bx _) _
abbrev Fv:Obj:=.cells #[I 0,I 0,I 0,U false,aa ⟨#[]⟩,aa ⟨#[]⟩,aa ⟨#[]⟩,aa ⟨#[]⟩,aa ⟨#[]⟩,J 0] 184
structure nH(w W:aeo):Prop where
 a:W.heap[w.heap.size]?=some Fv
 b:ao w w W
theorem nH.below{W ko:aeo}(h:nH w W)(ax:ao W W ko):nH w ko:=⟨aU h.a ax,h.b.trans (ax.mono h.b.size)⟩
theorem A'(w:aeo):nH w (w.alloc Fv):=⟨fJ w _,(Below.refl _ _).alloc (bx _) _⟩
theorem eG(S:Ua)(L:au):(S.toList==L)=decide (S.data.toList=L):=by rw[mV,yc,uR,jR]
theorem ld{w':aeo}(h:sh w w'):ao w w w':=by obtain⟨n,rfl⟩:=h;exact below_drewN (Below.refl _ _) n
theorem Ie(s:Ua)(v:Int)(b:Bool)(aY:af ((dec s.data.toList).getD 0=v∧(dec s.data.toList).isSome=b))(hs:s.size≤maxLen)(w:aeo):
  Calls Tryz.prog 136 #[aa s] w fun e w'=>e=ab (.tuple #[I v,U b])∧w=w':=by
 obtain⟨av,az⟩:=aY.out;subst av;subst az;exact Mg s w hs
end pk
namespace zi
open ig
open Go.Lib (replaceK replaceAll replace replaceNum indexByte index)
theorem WO(c:UInt8):∀s:au,replaceK [c] [] (s.count c) s=s.filter (· !=c)
 |[]=>rfl
 |b::l=>by
  have cO:=WO c l;by_cases h:b=c
  ·subst h;have hi:index (b::l) [b]=((0:Nat):Int):=(by rw[Lib.index_one];unfold indexByte;rw[bb (by simp)];rfl);rw[List.count_cons_self,QL _ _ _ _ 0 hi];simp[cO]
  ·have ax:(b==c)=false:=beq_eq_false_iff_ne.2 h;rw[List.count_cons_of_ne h,List.filter_cons_of_pos (by simp[h])];cases ay:l.count c with
   |zero=>
    rw[ay] at cO;have e:∀s:au,replaceK [c] [] 0 s=s:=fun s=>rfl;rw[e] at cO⊢;rw[←cO]
   |succ k=>
    rw[ay] at cO;have hc:0<Lib.count l [c]:=(by rw[Lib.count_one,ay];omega);obtain⟨i,hi⟩:=Lib.index_of_count hc;have Ba:index (b::l) [c]=((i+1:Nat):Int):=(by rw[Lib.index_one] at hi⊢;unfold indexByte;rw[ax,aW (by decide),hi,aW (by simp<;>omega)];rfl);rw[QL _ _ _ _ _ hi] at cO;rw[QL _ _ _ _ _ Ba,←cO];simp
theorem agr(c:UInt8)(s:au):replaceAll s [c] []=s.filter (· !=c):=by
 unfold replaceAll replace;rw[aW (by simp)];have:replaceNum s [c] (-1)=s.count c:=by unfold replaceNum;rw[bb (.inl (by decide)),Lib.count_one]
 rw[this];exact WO c s
theorem ags(s:au):fZ s=s.take (fZ s).length:=by unfold fZ;exact List.prefix_iff_eq_take.1 (Wg _)
theorem agt(s:au):(fZ s).length≤s.length:=Ws _ s
theorem agu(s:au):indexByte s 10=if (fZ s).length<s.length then ((fZ s).length:Int) else -1:=by
 induction s with
 |nil=>rfl
 |cons b l cO=>
  unfold indexByte;by_cases h:b=10
  ·subst h;rw[bb (by decide)];have:fZ (10::l)=[]:=rfl;rw[this,bb (by simp)];rfl
  ·have hu:fZ (b::l)=b::fZ l:=(by unfold fZ;rw[CV (by simp[h])]);rw[aW (by simp[h]),cO,hu];simp only[fY];by_cases aA:(fZ l).length<l.length
   ·rw[bb aA,aW (by simp<;>omega),bb (by omega)];rfl
   ·rw[aW aA,bb (by decide),aW (by omega)]
theorem agv(s:au):(s.drop (q4 s)).filter (· !=13)=s.filter (· !=13):=by
 have h:=H7 (q4 s) s;have az:(s.take (q4 s)).filter (· !=13)=[]:=by rw[WL];intro x hx;obtain⟨k,ay,rfl⟩:=List.mem_iff_getElem.1 hx;rw[kU] at ay;have:=(L6 (· ==13) s).1 k (by omega) (by rw[←Qv];omega);rw[Mk];simpa using this
 conv=>rhs;rw[←h,List.filter_append,az,Ml]
theorem agw{s:au}(h:q4 s<s.length):0<(s.filter (· !=13)).length:=by
 have av:=(L6 (· ==13) s).2 (by rw[←Qv];exact h);have hm:s[sp (· ==13) s]'(by rw[←Qv];exact h)∈s.filter (· !=13):=by rw[List.mem_filter];refine⟨kT _,?_⟩;simpa using av
 exact List.length_pos_of_mem hm
theorem go_fuel:∀(k m:Nat) (r:au) (o:Nat) (acc:List (Nat×D)),r.length≤k→r.length≤m→qg k r o acc=qg m r o acc
 |0,0,_,_,_,_,_=>rfl
 |0,m+1,r,o,acc,h,_=>by have:r=[]:=mT (by omega);subst this;rfl
 |k+1,0,r,o,acc,_,h=>by have:r=[]:=mT (by omega);subst this;rfl
 |k+1,m+1,r,o,acc,ay,hm=>by
  rw[qg,qg];by_cases h:r=[]
  ·rw[bb h,bb h]
  ·rw[aW h,aW h];have hp:=List.length_pos_iff.2 h;have hd:(r.drop ((fZ r).length+1)).length≤r.length-1:=(by rw[fH];omega);split
   ·exact go_fuel k m _ _ _ (by omega) (by omega)
   ·split
    ·rfl
    ·exact go_fuel k m _ _ _ (by omega) (by omega)
theorem go_step{r:au}(h:r≠[])(o:Nat)(acc:List (Nat×D)):qg r.length r o acc=
  if q4 (fZ r)=(fZ r).length then qg (r.drop ((fZ r).length+1)).length (r.drop ((fZ r).length+1)) (o+(fZ r).length+1) acc
  else match yb ((fZ r).filter (· !=13)) with
   |none=>([],o+q4 (fZ r),3)
   |some d=>qg (r.drop ((fZ r).length+1)).length (r.drop ((fZ r).length+1)) (o+(fZ r).length+1) (acc++[(o+q4 (fZ r),d)]):=by
 have hp:=List.length_pos_iff.2 h;obtain⟨k,ay⟩:∃k,r.length=k+1:=⟨r.length-1,by omega⟩;have hd:(r.drop ((fZ r).length+1)).length≤k:=by rw[fH];omega
 rw[ay,qg,aW h];by_cases hc:q4 (fZ r)=(fZ r).length
 ·rw[bb hc,bb hc];exact go_fuel _ _ _ _ _ hd (bx _)
 ·rw[aW hc,aW hc];cases yb ((fZ r).filter (· !=13)) with
  |none=>rfl
  |some d=>exact go_fuel _ _ _ _ _ hd (bx _)
end zi
namespace pk
open Go.RowKit kR ig zi
def mD(x:Nat×D)(cK:ada):List Value:=(Mp x.2 (x.1:Int) cK).toList
def nI:List (Nat×D)→aev→List Value
 |x::l,v::kV=>mD x v++nI l kV
 |_,_=>[]
def iy(B:Nat)(w:aeo)(l:List (Nat×D))(xs:aev):Prop:=
 ∃kV:aev,kV.length=l.length∧xs=nI l kV∧∀i (h:i<l.length) (az:i<kV.length),∃p c,kV[i]=.slice p l[i].2.bX.length c∧dH B w p l[i].2.bX
theorem QP(x:Nat×D)(v:ada):(mD x v).length=10:=rfl
theorem WQ:∀(l:List (Nat×D)) (kV:aev) (x:Nat×D) (v:ada),kV.length=l.length→nI (l++[x]) (kV++[v])=nI l kV++mD x v
 |[],[],x,v,_=>by simp[nI]
 |[],_::_,_,_,h=>by simp at h
 |_::_,[],_,_,h=>by simp at h
 |y::l,n::kV,x,v,h=>by have cO:=WQ l kV x v (by simpa using h);simp only[H9,nI,cO,List.append_assoc]
theorem WR:∀(l:List (Nat×D)) (kV:aev) (h:kV.length=l.length) (i:Nat) (hi:i<l.length) (j:Nat),j<10→(nI l kV)[i *10+j]?=(mD l[i] (kV[i]'(by omega)))[j]?
 |[],_,_,i,hi,_,_=>by simp at hi
 |_::_,[],h,_,_,_,_=>by simp at h
 |y::l,n::kV,h,0,hi,j,cd=>by simp only[nI,Fi,j7];rw[Mm (by rw[QP];exact cd)];rfl
 |y::l,n::kV,h,i+1,hi,j,cd=>by simp only[nI];rw[A8 (by rw[QP];omega),QP,show (i+1) *10+j-10=i *10+j by omega];exact WR l kV (by simpa using h) i (by simpa using hi) j cd
theorem iy.nil(B:Nat)(w:aeo):iy B w [] []:=⟨[],rfl,rfl,fun i h _=>absurd h (by simp)⟩
variable{B:Nat}{w:aeo}{xs:aev}
theorem iy.imp{w':aeo}{l:List (Nat×D)}(h:iy B w l xs)(hn:∀p (n:List Int),dH B w p n→dH B w' p n):iy B w' l xs:=by obtain⟨kV,av,az,aC⟩:=h;refine⟨kV,av,az,fun i hi Ba=>?_⟩;obtain⟨p,c,e,hp⟩:=aC i hi Ba;exact⟨p,c,e,hn _ _ hp⟩
theorem iy.below{B:Nat}{w w':aeo}{l:List (Nat×D)}{xs:aev}(h:iy B w l xs)(ax:ao w w w'):iy B w' l xs:=h.imp fun _ _ hp=>hp.below ax
theorem iy.snoc{l:List (Nat×D)}(h:iy B w l xs)(x:Nat×D)(p:Ja)(c:Nat)(hp:dH B w p x.2.bX):iy B w (l++[x]) (xs++mD x (ad p x.2.bX.length c)):=by
 obtain⟨kV,av,rfl,aC⟩:=h;refine⟨kV++[ad p x.2.bX.length c],by simp[av],(WQ l kV x _ av).symm,fun i hi Ba=>?_⟩;by_cases Fw:i<l.length
 ·obtain⟨q,d,e,aR⟩:=aC i Fw (by omega);refine⟨q,d,?_,?_⟩
  ·rw[CW (by omega),e];simp[CW,Fw]
  ·simpa[CW,Fw] using aR
 ·have e:i=l.length:=(by simp at hi;omega);subst e;refine⟨p,c,?_,?_⟩
  ·simp[←av]
  ·simpa using hp
structure wJ(w0:aeo)(v:ada)(acc:List (Nat×D))(w:aeo):Prop where
 own:∃xs,w.ownsRow w0.heap.size 184 10 v acc.length xs∧iy w0.heap.size w acc xs
 aX:ao w0 w0 w
theorem wJ.below{w0 w w':aeo}{v:ada}{acc:List (Nat×D)}(h:wJ w0 v acc w)(ax:ao w w w'):wJ w0 v acc w':=by obtain⟨⟨xs,av,az⟩,aC⟩:=h;exact⟨⟨xs,av.kept (row:=none) ⟨ax.os,ax.tape,ax.output,ax.size,fun k ay _=>ax.block k ay⟩ (by cases v.ownBlock<;>simp),az.below ax⟩,aC.trans (ax.mono aC.size)⟩
theorem m'{e t:aai}{bD n:Nat}{v:ada}{xs:aev}(h:w.ownsRow B e bD v n xs){b:Nat}{cs:ajv}{dT:Nat×Nat}(ax:w.heap[b]?=some (.cells cs t dT))(he:e≠t):v.ownBlock≠some b:=by
 rcases h.2 with ⟨rfl,_⟩|⟨g,cap,cur,rfl,_,aK,_⟩
 ·simp[Value.ownBlock]
 ·intro az;have:g=b:=(by simpa[Value.ownBlock] using az);subst this;rw[ax] at aK;injection aK with aK;injection aK with _ bE;exact he bE.symm
theorem wJ.push{w0 w':aeo}{v v':ada}{acc:List (Nat×D)}{xs:aev}{o:Obj}{x:Nat×D}{p:Ja}{c:Nat}(hx:w.ownsRow w0.heap.size 184 10 v acc.length xs)(hr:iy w0.heap.size w acc xs)(ax:ao w0 w0 w)
  (hp:dH w0.heap.size w p x.2.bX) (aF:(w.alloc o).grownBy w' v.ownBlock) (bm:w'.ownsRow w0.heap.size 184 10 v' (acc.length+1) (xs++mD x (ad p x.2.bX.length c))):wJ w0 v' (acc++[x]) w':=by
 have key:∀q (n:List Int),dH w0.heap.size w q n→dH w0.heap.size w' q n:=by intro q n aR aA;obtain⟨b,nD,cs,rfl,bK,aK,hc⟩:=aR aA;have bR:=(Array.getElem?_eq_some_iff.1 aK).1;refine⟨b,nD,cs,rfl,bK,?_,hc⟩;rw[aF.block b (by simp;omega) (gu (m' hx aK (by decide))),A2 _ _ _ bR];exact aK
 refine⟨⟨_,?_,(hr.imp key).snoc x p c (key _ _ hp)⟩,?_⟩
 ·rw[show (acc++[x]).length=acc.length+1 by simp];exact bm
 ·exact (ax.alloc ax.size o).grown aF (dx ax.size (by simp)) (fun k ay=>(hx.lt _ ay).1)
theorem agx:(Tryz.prog.info? 184).map (fun i=>(i.zero,i.size,i.bytes))=some (some (.agg #[I 0,I 0,I 0,U false,aa ⟨#[]⟩,aa ⟨#[]⟩,aa ⟨#[]⟩,aa ⟨#[]⟩,aa ⟨#[]⟩,J 0]),10,136):=by kernel_rfl
def agy(l:List (Nat×D))(a e:Nat)(w:aeo)(h3:Ending)(w':aeo):Prop:=∃v,h3=ab (.tuple #[v,I (a:Int),I (e:Int)])∧wJ w v l w'
theorem agz(w:aeo){w':aeo}(ax:ao w w w'):wJ w bN [] w':=⟨⟨[],⟨rfl,.inl ⟨rfl,rfl⟩⟩,iy.nil _ _⟩,ax⟩
end pk
