/- Lemmas. -/
import Derived.Test.YtfldplmgkeiimaaGreatDoorQ15
set_option linter.all false
set_option maxRecDepth 100000
set_option maxHeartbeats 6400000
namespace Go.Proofs.YtfldplmgkeiimaaGreatDoor
abbrev IX:=@Proofs.Tryz.underlying52
abbrev wY:=@Proofs.Tryz.func88
abbrev wZ:=@Proofs.Tryz.ntmps88
namespace gT
open Go.RowKit ny j6 px Mem p1 bS
variable{l:au}
theorem VL{w:aeo}{B:Nat}{e:aai}{v:ada}{n:Nat}(h:w.ownsRow B e 1 v n (rS l)):∃p cap,v=ad p n cap∧jO w p l∧n=l.length:=by
 have aA:n=l.length:=by have:=h.1;rw[ajJ] at this;omega
 rcases h.2 with ⟨rfl,rfl⟩|⟨g,cap,cur,rfl,_,ba,_,_,_,bB⟩
 ·refine⟨_,_,rfl,?_,aA⟩;obtain rfl:l=[]:=rQ aA.symm;exact jO.nil _ _
 ·refine⟨_,_,rfl,jO.of fun i hi=>?_,aA⟩;rw[kr,cell_of_row w g i cur e (0,0) ba];have:=ajN l i hi;rw[←bB,List.getElem?_take,a8 (by omega)] at this;simpa using this
theorem aeC{w:aeo}{b:Nat}{v0 v1 v2 v3:ada}{t:aai}(h:an w b (#[v0,v1,v2,v3]) t):(ak w b 0 v0∧ak w b 1 v1∧ak w b 2 v2∧ak w b 3 v3)∧(∀i,w.frozen? ⟨b,i,none⟩=false):=by refine⟨⟨?_,?_,?_,?_⟩,fun i=>?_⟩<;>simp[World.cell?,World.frozen?,h]
variable{s:iy}
theorem aeD(h:wE s)(hn:s.words.length<20000)(x:ea){i:Nat}(hi:i≤s.words.length+1):wE {s with words:=s.words++[x],inner:=i,text:=[]}:=
 ⟨by simp;omega,fun h=>absurd rfl h,by simp,by simp;omega⟩
theorem asc(B R:Nat)(s:iy)(cg iv:ada)(w:aeo)(bL:B≤w.heap.size)(H:af (gP B R cg iv s w))(hf:wE s)(res:Except Nat iy)(dQ:af (Gx s=res)):
  Calls Tryz.prog 128 #[ah R 0] w (abm B R w res):=by
 have fa:=aq bL;have aP:=aq hf;clear hf;obtain⟨aN,aL,aI,c3,bJ⟩:=H.out.cells;have n5:=H.out.ei;obtain⟨p,cap,rfl,nn,sr⟩:=VL H.out.hN;have aA:=dQ.out;unfold Gx at aA;by_cases bB:s.text=[]
 ·rw[a8 bB] at aA;have bq:af (.error 2=res):=aA;have aT:s.text.length=0:=(by rw[bB];rfl);rw[aT] at aL;clear aA dQ sr nn bB;go_enter Tryz.func128,Tryz.ntmps128;go_wp2_with fail;go_ret;rw[←bq.out];exact⟨Below.refl _ _,rfl⟩
 ·rw[aR bB] at aA;have bq:=aq aA;have As:0<s.text.length:=List.length_pos_iff.2 bB;have hne:((s.text.length:Int)==0)=false:=(by simp;omega);have EC:=H.out.lt;have d0:(w.alloc (ai (#[I 0,U false,U false,aa ⟨#[]⟩]) 153)).cell? ⟨R,0,none⟩=_:=(H.out.below ((Below.refl _ _).alloc (bx _) _)).cells.1;have d1:(w.alloc (ai (#[I 0,U false,U false,aa ⟨#[]⟩]) 153)).cell? ⟨R,1,none⟩=_:=(H.out.below ((Below.refl _ _).alloc (bx _) _)).cells.2.1;have d2:(w.alloc (ai (#[I 0,U false,U false,aa ⟨#[]⟩]) 153)).cell? ⟨R,2,none⟩=_:=(H.out.below ((Below.refl _ _).alloc (bx _) _)).cells.2.2.1;have d3:(w.alloc (ai (#[I 0,U false,U false,aa ⟨#[]⟩]) 153)).cell? ⟨R,3,none⟩=_:=(H.out.below ((Below.refl _ _).alloc (bx _) _)).cells.2.2.2.1;have d4:(w.alloc (ai (#[I 0,U false,U false,aa ⟨#[]⟩]) 153)).cell? ⟨R,4,none⟩=_:=(H.out.below ((Below.refl _ _).alloc (bx _) _)).cells.2.2.2.2;have asd:=jO.str (P:=Tryz.prog) (w:=(w.alloc (ai (#[I 0,U false,U false,aa ⟨#[]⟩]) 153)).drew) (p:=p) (l:=s.text) (nn.below (((Below.refl _ _).alloc (bx _) _).drew)) 52 5 9 IX Tryz.underlying5 Tryz.underlying9 s.text.length cap rfl;have yF:=jO.str (P:=Tryz.prog) (w:=w.drew) (p:=p) (l:=s.text) nn 52 5 9 IX Tryz.underlying5 Tryz.underlying9 s.text.length cap rfl;clear aA dQ sr;go_enter Tryz.func128,Tryz.ntmps128;go_upto_region 3 with fail;have mc:((s.inner:Int)==0)=decide (s.inner=0):=(by rw[Cb];simp);have bM:af (gP B R cg (ad p s.text.length cap) s ((w.alloc (ai (#[I (s.a:Int),U s.group,U (decide (s.inner=0)),aa ⟨s.text.toArray⟩]) 153)).drew)):=H.out.below (((Below.refl _ _).alloc (bx _) _).drew);have b7:af (((w.alloc (ai (#[I (s.a:Int),U s.group,U (decide (s.inner=0)),aa ⟨s.text.toArray⟩]) 153)).drew).heap[w.heap.size]?=some (.cells #[I (s.a:Int),U s.group,U (decide (s.inner=0)),aa ⟨s.text.toArray⟩] 153)):=ga w _;have c6:af (ao w w ((w.alloc (ai (#[I (s.a:Int),U s.group,U (decide (s.inner=0)),aa ⟨s.text.toArray⟩]) 153)).drew)):=((Below.refl _ _).alloc (bx _) _).drew;have ard:(s.inner:Int)≤20000:=(by have:=aP.out.n0;have:=aP.out.n4;omega);go_region
  all_goals
   clear aN aL aI c3 bJ d0 d1 d2 d3 d4 yF asd nn n5 EC mc;generalize (w.alloc (ai (#[I (s.a:Int),U s.group,U (decide (s.inner=0)),aa ⟨s.text.toArray⟩]) 153)).drew=W at bM b7 c6⊢;obtain⟨_,_,_,c3,bJ⟩:=bM.out.cells;have f4:=bM.out.ei 4;by_cases ba:s.group=true
   ·rw[ba] at c3;have e0:=aq ba;clear ba;have jD:af (gP B R cg (ad p s.text.length cap) {s with inner:=s.inner+1} (W.setCell (aj R 4) (I ((s.inner:Int)+1)))):=bM.out.wj (s.inner+1) _ (by omega);have nj:af ((W.setCell (aj R 4) (I ((s.inner:Int)+1))).heap[w.heap.size]?=some (.cells #[I (s.a:Int),U s.group,U (decide (s.inner=0)),aa ⟨s.text.toArray⟩] 153)):=(uo _ _ _ _ (by show w.heap.size≠R;have:=H.out.lt;omega)).trans b7.out;have dX:af (Below B w (W.setCell (aj R 4) (I ((s.inner:Int)+1)))):=(c6.out.mono fa.out).setCell (p:=⟨R,4,none⟩) H.out.ge _;go_upto_region 6 with fail;clear bM b7 c6 c3 bJ f4;generalize W.setCell (aj R 4) (I ((s.inner:Int)+1))=gO at jD nj dX⊢;obtain⟨i0,hi,dE,dP,dq⟩:=info_parts abn;have bZ:=aq (And.intro hi (And.intro dE (And.intro dP dq)));clear hi dE dP dq;obtain⟨⟨g0,g1,g2,g3⟩,_⟩:=aeC nj.out;obtain⟨aN,aL,aI,c3,bJ⟩:=jD.out.cells;have f0:=jD.out.ei 0;have f1:=jD.out.ei 1;have ad5:R<gO.heap.size:=jD.out.lt;have w1:w.heap.size<gO.heap.size:=(Array.getElem?_eq_some_iff.1 nj.out).1;obtain⟨jW,jX,rfl⟩:=jf jD.out.ws;have kg:s.words.length<20000:=aP.out.dy bB;have uI:(Value.slice jW s.words.length jX).ownBlock≠some R:=oZ jD.out.ws jD.out.obj (by decide)
    go_region_law (first|((refine step_append_lies _ (by rfl) _ _ _ (by rfl) B 153 i0 (.agg #[I 0,U false,U false,aa ⟨#[]⟩]) 4 32 Tryz.underlying149 bZ.out.1 bZ.out.2.1 bZ.out.2.2.1 bZ.out.2.2.2 rfl (by omega) (ad jW s.words.length jX) s.words.length _ (by rfl) ((jD.out.ws.alloc _).drew) (aj gO.heap.size 0) 1 1 [I (s.a:Int),U s.group,U (decide (s.inner=0)),aa ⟨s.text.toArray⟩] (by rfl) (by rfl) (kc (cs:= #[I (s.a:Int),U s.group,U (decide (s.inner=0)),aa ⟨s.text.toArray⟩]) (t:=153) (fr:=(0,0)) (ga gO _)) (by simp[Value.oneCell']) (by omega) (by unfold maxLen;omega) (by omega) (by have:=fa.out;have:=dX.out.size;simp;omega) (gO.heap.size+1) (by simp) ?_;intro dh hg cA cI dO eJ hV;have fm:=(jD.out.push (x:=⟨s.a,s.group,decide (s.inner=0),s.text⟩) (((Below.refl _ _).alloc (bx _) _).drew) dO cI (dB fa.out dX.out.size)).2.2;have bW:ak cA R 0 _:=cell_of_row cA R 0 _ _ (0,0) fm;have cj:cA.frozen? ⟨R,0,none⟩=false:=by simp[World.frozen?,fm]))|fail)
    all_goals
     obtain⟨hm,ll,_⟩:=jD.out.push (x:=⟨s.a,s.group,decide (s.inner=0),s.text⟩) (((Below.refl _ _).alloc (bx _) _).drew) dO cI (dB fa.out dX.out.size);have bd:=aq (And.intro hm (dX.out.trans ll));clear hm ll cI dO eJ hV fm bW cj g0 g1 g2 g3 aN aL aI c3 bJ f0 f1;generalize cA.setCell (aj R 0) (ad (some (aj dh 0)) (s.words.length+1) hg)=gh at bd⊢;obtain⟨aN,aL,aI,c3,bJ⟩:=bd.out.1.cells;have f1:=bd.out.1.ei 1;have jo:=bd.out.1.clear rfl;have bm:af (gP B R (ag dh 0 (s.words.length+1) hg) (ad p 0 cap) {s with words:=s.words++[⟨s.a,s.group,decide (s.inner=0),s.text⟩],inner:=s.inner+1,text:=[]} (gh.setCell (aj R 1) (ad p 0 cap))∧Below B w (gh.setCell (aj R 1) (ad p 0 cap))):=⟨jo,bd.out.2.setCell H.out.ge _⟩;clear jo;go_wp2_with fail;go_ret;rw[←bq.out];simp only[e0.out,sZ];have Mp:=bm.out.1;have br:=aeD aP.out kg ⟨s.a,s.group,decide (s.inner=0),s.text⟩ (i:=s.inner+1) (by show s.inner+1≤_;have:=aP.out.n4;omega);rw[e0.out] at Mp br;exact⟨bm.out.2,rfl,br,_,_,Mp⟩
   ·rw[Bool.eq_false_iff.2 ba] at c3;have e0:af (s.group=false):=Bool.eq_false_iff.2 ba;clear ba;have jD:af (gP B R cg (ad p s.text.length cap) {s with inner:=s.inner} W):=bM.out;have nj:=b7;have dX:af (Below B w W):=c6.out.mono fa.out;go_upto_region 6 with fail;clear bM b7 c6 c3 bJ f4;generalize W=gO at jD nj dX⊢;obtain⟨i0,hi,dE,dP,dq⟩:=info_parts abn;have bZ:=aq (And.intro hi (And.intro dE (And.intro dP dq)));clear hi dE dP dq;obtain⟨⟨g0,g1,g2,g3⟩,_⟩:=aeC nj.out;obtain⟨aN,aL,aI,c3,bJ⟩:=jD.out.cells;have f0:=jD.out.ei 0;have f1:=jD.out.ei 1;have ad5:R<gO.heap.size:=jD.out.lt;have w1:w.heap.size<gO.heap.size:=(Array.getElem?_eq_some_iff.1 nj.out).1;obtain⟨jW,jX,rfl⟩:=jf jD.out.ws;have kg:s.words.length<20000:=aP.out.dy bB;have uI:(Value.slice jW s.words.length jX).ownBlock≠some R:=oZ jD.out.ws jD.out.obj (by decide)
    go_region_law (first|((refine step_append_lies _ (by rfl) _ _ _ (by rfl) B 153 i0 (.agg #[I 0,U false,U false,aa ⟨#[]⟩]) 4 32 Tryz.underlying149 bZ.out.1 bZ.out.2.1 bZ.out.2.2.1 bZ.out.2.2.2 rfl (by omega) (ad jW s.words.length jX) s.words.length _ (by rfl) ((jD.out.ws.alloc _).drew) (aj gO.heap.size 0) 1 1 [I (s.a:Int),U s.group,U (decide (s.inner=0)),aa ⟨s.text.toArray⟩] (by rfl) (by rfl) (kc (cs:= #[I (s.a:Int),U s.group,U (decide (s.inner=0)),aa ⟨s.text.toArray⟩]) (t:=153) (fr:=(0,0)) (ga gO _)) (by simp[Value.oneCell']) (by omega) (by unfold maxLen;omega) (by omega) (by have:=fa.out;have:=dX.out.size;simp;omega) (gO.heap.size+1) (by simp) ?_;intro dh hg cA cI dO eJ hV;have fm:=(jD.out.push (x:=⟨s.a,s.group,decide (s.inner=0),s.text⟩) (((Below.refl _ _).alloc (bx _) _).drew) dO cI (dB fa.out dX.out.size)).2.2;have bW:ak cA R 0 _:=cell_of_row cA R 0 _ _ (0,0) fm;have cj:cA.frozen? ⟨R,0,none⟩=false:=by simp[World.frozen?,fm]))|fail)
    all_goals
     obtain⟨hm,ll,_⟩:=jD.out.push (x:=⟨s.a,s.group,decide (s.inner=0),s.text⟩) (((Below.refl _ _).alloc (bx _) _).drew) dO cI (dB fa.out dX.out.size);have bd:=aq (And.intro hm (dX.out.trans ll));clear hm ll cI dO eJ hV fm bW cj g0 g1 g2 g3 aN aL aI c3 bJ f0 f1;generalize cA.setCell (aj R 0) (ad (some (aj dh 0)) (s.words.length+1) hg)=gh at bd⊢;obtain⟨aN,aL,aI,c3,bJ⟩:=bd.out.1.cells;have f1:=bd.out.1.ei 1;have jo:=bd.out.1.clear rfl;have bm:af (gP B R (ag dh 0 (s.words.length+1) hg) (ad p 0 cap) {s with words:=s.words++[⟨s.a,s.group,decide (s.inner=0),s.text⟩],inner:=s.inner,text:=[]} (gh.setCell (aj R 1) (ad p 0 cap))∧Below B w (gh.setCell (aj R 1) (ad p 0 cap))):=⟨jo,bd.out.2.setCell H.out.ge _⟩;clear jo;go_wp2_with fail;go_ret;rw[←bq.out];simp only[e0.out,pq,yZ];have Mp:=bm.out.1;have br:=aeD aP.out kg ⟨s.a,s.group,decide (s.inner=0),s.text⟩ (i:=s.inner) (by show s.inner≤_;have:=aP.out.n4;omega);rw[e0.out] at Mp br;exact⟨bm.out.2,rfl,br,_,_,Mp⟩
theorem aeE(h:wE s)(hn:s.words.length<20000)(bB:s.text.length<10000)(a:Nat)(c:UInt8):wE {s with text:=s.text++[c],a:=a}:=
 ⟨h.n0,fun _=>hn,by simp;omega,h.n4⟩
theorem Od(B R:Nat)(s:iy)(cg iv:ada)(w:aeo)(bL:B≤w.heap.size)(H:af (gP B R cg iv s w))(hf:wE s)(c:UInt8)(x:Int)(hx:af ((c.toNat:Int)=x))(i:Nat)(hi:i≤1000000)(res:Except Nat iy)(dQ:af (rK s c i=res)):
  Calls Tryz.prog 88 #[ah R 0,.int .u8 x,I (i:Int)] w (abm B R w res):=by
 have fa:=aq bL;have aP:=aq hf;clear hf;have IY:=c.toNat_lt;have sF:=hx.out;obtain⟨aN,aL,aI,c3,bJ⟩:=H.out.cells;have n5:=H.out.ei;obtain⟨p,cap,rfl,nn,sr⟩:=VL H.out.hN;obtain⟨jW,jX,rfl⟩:=jf H.out.ws;clear nn sr;have aA:=dQ.out;unfold rK at aA;clear dQ;by_cases yG:c=13∨c=10
 ·rw[a8 yG] at aA;have bq:=aq aA;have bm:af (wE s∧∃cg iv,gP B R cg iv s w):=⟨aP.out,_,_,H.out⟩;clear aA
  have rW:x=13∨x=10:=by
   rcases yG with rfl|rfl
   ·exact .inl (by rw[←sF];rfl)
   ·exact .inr (by rw[←sF];rfl)
  clear yG sF hx IY;rcases rW with rfl|rfl
  all_goals
   go_enter wY,wZ;go_wp2_with fail;go_ret;rw[←bq.out];exact⟨Below.refl _ _,rfl,bm.out⟩
 ·rw[aR yG] at aA;have aeF:(x==13)=false:=(by rw[yS];intro h;apply yG;left;apply E5;have:x=13:=(by simpa using h);show c.toNat=13;omega);have tl:(x==10)=false:=(by rw[yS];intro h;apply yG;right;apply E5;have:x=10:=(by simpa using h);show c.toNat=10;omega);by_cases FZ:c.toNat<32∨126<c.toNat
  ·rw[a8 FZ] at aA;have bq:=aq aA;clear aA;by_cases av:x<32
   ·clear FZ yG sF hx IY;go_enter wY,wZ;go_wp2_with fail;go_ret;rw[←bq.out];exact⟨Below.refl _ _,rfl⟩
   ·have az:126<x:=(by omega);clear FZ yG sF hx IY;go_enter wY,wZ;go_wp2_with fail;go_ret;rw[←bq.out];exact⟨Below.refl _ _,rfl⟩
  ·rw[aR FZ] at aA;have av:32≤x:=(by omega);have az:x≤126:=(by omega);by_cases F0:c=42
   ·rw[a8 F0] at aA;have bq:=aq aA;have rW:x=42:=(by rw[←sF,F0];rfl);subst rW;clear aA F0 FZ yG sF hx IY aeF tl av az aN aL aI c3 bJ n5;go_enter wY,wZ;go_wp2_with fail;with_reducible refine (asc B R s _ _ w fa.out H aP.out res bq).mono ?_
    rintro e bY ⟨ay,hr⟩;cases res with
    |error k=>
     obtain rfl:=hr;have cP:=aq ay;clear ay;go_wp2_with fail;go_ret;exact⟨cP.out,rfl⟩
    |ok s'=>
     obtain⟨rfl,hr⟩:=hr;have cP:=aq (And.intro ay hr);clear ay hr;go_wp2_with fail;go_ret;exact⟨cP.out.1,rfl,cP.out.2⟩
   ·rw[aR F0] at aA;have ase:(x==42)=false:=(by rw[yS];intro h;apply F0;apply E5;have:x=42:=(by simpa using h);show c.toNat=42;omega);by_cases IZ:c=37
    ·rw[a8 IZ] at aA;have rW:x=37:=(by rw[←sF,IZ];rfl);subst rW;clear IZ F0 FZ yG sF hx IY aeF tl ase av az;by_cases fF:s.text≠[]∨(s.group=true∧s.inner=0)
     ·rw[a8 fF] at aA;have bq:=aq aA;clear aA;by_cases bB:s.text.length=0
      ·have ba:s.group=true∧s.inner=0:=fF.resolve_left (fun h=>h (rQ bB));rw[ba.1] at c3;rw[ba.2] at bJ;rw[bB] at aL;clear fF ba bB;go_enter wY,wZ;go_wp2_with fail;go_ret;rw[←bq.out];exact⟨Below.refl _ _,rfl⟩
      ·have As:0<s.text.length:=(by omega);clear fF bB;go_enter wY,wZ;go_wp2_with fail;go_ret;rw[←bq.out];exact⟨Below.refl _ _,rfl⟩
     ·rw[aR fF] at aA;have bq:=aq aA;have bB:s.text=[]:=xd fun h=>fF (.inl h);have w2:s.text.length=0:=by rw[bB];rfl
      have asf:s.group=false∨¬s.inner=0:=by
       cases ba:s.group with
       |false=>exact .inl rfl
       |true=>exact .inr fun h=>fF (.inr ⟨ba,h⟩)
      rw[w2] at aL;have pO:af (gP B R (ad jW s.words.length jX) (ad p s.text.length cap) {s with group:=!s.group} (w.setCell (aj R 3) (U (!s.group)))):=H.out.JK _;have c6:af (Below B w (w.setCell (aj R 3) (U (!s.group)))):=(Below.refl _ _).setCell (p:=⟨R,3,none⟩) H.out.ge _;have qo:af (gP B R (ad jW s.words.length jX) (ad p s.text.length cap) {s with group:=!s.group,inner:=0} ((w.setCell (aj R 3) (U (!s.group))).setCell (aj R 4) (I 0))):=pO.out.wj 0 0 rfl;have cP:af (Below B w ((w.setCell (aj R 3) (U (!s.group))).setCell (aj R 4) (I 0))):=c6.out.setCell (p:=⟨R,4,none⟩) H.out.ge _;have ez:af (wE {s with group:=!s.group,inner:=0}):=⟨aP.out.n0,aP.out.dy,aP.out.eU,eE _⟩;clear aA fF bB w2;have gi:(w.setCell (aj R 3) (U (!s.group))).cell? ⟨R,4,none⟩=_:=pO.out.cells.2.2.2.2;have f4:(w.setCell (aj R 3) (U (!s.group))).frozen? ⟨R,4,none⟩=_:=pO.out.ei 4;rcases asf with ba|ln
      ·generalize w1:(!s.group)=asg at bq pO c6 qo cP ez gi f4;have K8:asg=true:=(by rw[←w1,ba];rfl);clear w1;rw[ba] at c3;subst K8;clear ba;go_enter wY,wZ;go_wp2_with fail;go_ret;rw[←bq.out];exact⟨cP.out,rfl,ez.out,_,_,qo.out⟩
      ·have arc:((s.inner:Int)==0)=false:=(by simp;omega);clear ln;go_enter wY,wZ;generalize w1:s.group=g0 at c3 bq pO c6 qo cP ez gi f4;clear w1;cases g0
       all_goals
        go_wp2_with fail;go_ret;rw[←bq.out];exact⟨cP.out,rfl,ez.out,_,_,qo.out⟩
    ·rw[aR IZ] at aA;have ayg:(x==37)=false:=(by rw[yS];intro h;apply IZ;apply E5;have:x=37:=(by simpa using h);show c.toNat=37;omega);clear IZ F0 FZ yG IY;by_cases bB:s.text=[]
     ·rw[a8 bB] at aA;have w2:s.text.length=0:=(by rw[bB];rfl);have c9:=aq bB;rw[w2] at aL;by_cases hw:s.words.length=20000
      ·rw[a8 hw] at aA;have bq:=aq aA;rw[hw] at aN;clear aA bB w2 hw sF;go_enter wY,wZ;go_wp2_with fail;go_ret;rw[←bq.out];exact⟨Below.refl _ _,rfl⟩
      ·rw[aR hw] at aA;unfold xj at aA;rw[aR (show ¬({s with a:=i}:iy).text.length=10000 by show ¬s.text.length=10000;rw[w2];omega)] at aA;have bq:=aq aA;have oY:((s.words.length:Int)==20000)=false:=(by simp;omega);have ash:af (s.words.length<20000):=(by show _<_;have:=aP.out.n0;omega);have nd:=H.out.at i;rw[w2] at nd;have bM:af (gP B R (ad jW s.words.length jX) (ad p 0 cap) {s with a:=i} (w.setCell (aj R 2) (I (i:Int)))):=nd;have c6:af (Below B w (w.setCell (aj R 2) (I (i:Int)))):=(Below.refl _ _).setCell (p:=⟨R,2,none⟩) H.out.ge _;have dT:af (s.text.length=0):=w2;clear aA hw nd w2 sF bB;go_enter wY,wZ;go_upto_region 17 with fail;obtain⟨_,d1,_⟩:=bM.out.cells;have Dn:=aq (abl (H.out.at i).hN);generalize w.setCell (aj R 2) (I (i:Int))=ck at bM c6 Dn d1⊢;obtain⟨i0,ln,dE,dP,dq⟩:=info_parts O';have bZ:=aq (And.intro ln (And.intro dE (And.intro dP dq)));clear ln dE dP dq;go_wp2_with (at_builtin;refine xr _ rfl _ _ _ rfl B 5 i0 (.int .u8 0) 1 1 IX bZ.out.1 bZ.out.2.1 bZ.out.2.2.1 bZ.out.2.2.2 rfl (by omega) (ad p 0 cap) 0 ([]) (by rfl) (Dn.out.alloc _) (aj ((ck).heap.size) 0) 1 1 [.int .u8 x] (by rfl) rfl (kc (ga (ck) _)) (by simp[Value.oneCell']) (by unfold maxLen;omega) (by omega) (by have:=fa.out;have:=c6.out.size;simp<;>omega) ?_;intro v' w' gx iB pw;obtain⟨g',mn,rfl,_,_⟩:=gx.form (by omega);rw[←hx.out] at gx;obtain⟨rU,r2,F1⟩:=bM.out.add (c:=c) (v':=ad (some (aj g' 0)) (0+1) mn) ((Below.refl _ _).alloc (bx _) _) iB (by rw[c9.out];exact gx) (dB fa.out c6.out.size);have lZ:=aq (And.intro rU (c6.out.trans r2));have Vg:ak w' R 1 _:=cell_of_row w' R 1 _ _ (0,0) F1;have Vh:w'.frozen? ⟨R,1,none⟩=false:=(by simp[World.frozen?,F1]);clear rU r2 F1 gx iB pw);go_ret;rw[←bq.out];exact⟨lZ.out.2,rfl,aeE aP.out ash.out (by have:=dT.out;omega) i c,_,_,lZ.out.1⟩
     ·rw[aR bB] at aA;have As:((s.text.length:Int)==0)=false:=(by have:=List.length_pos_iff.2 bB;simp;omega);have c9:=aq bB;unfold xj at aA;by_cases hn:s.text.length=10000
      ·rw[a8 hn] at aA;have bq:=aq aA;rw[hn] at aL;clear aA hn bB As sF;go_enter wY,wZ;go_wp2_with fail;go_ret;rw[←bq.out];exact⟨Below.refl _ _,rfl⟩
      ·rw[aR hn] at aA;have bq:=aq aA;have kg:((s.text.length:Int)==10000)=false:=(by simp;omega);have gS:s.text.length<10000:=(by have:=aP.out.eU;omega);have bM:af (gP B R (ad jW s.words.length jX) (ad p s.text.length cap) s w):=H.out;have c6:af (Below B w w):=Below.refl _ _;have Dn:=aq H.out.hN;clear aA hn bB sF;go_enter wY,wZ;obtain⟨i0,ln,dE,dP,dq⟩:=info_parts O';have bZ:=aq (And.intro ln (And.intro dE (And.intro dP dq)));clear ln dE dP dq;go_wp2_with (at_builtin;refine xr _ rfl _ _ _ rfl B 5 i0 (.int .u8 0) 1 1 IX bZ.out.1 bZ.out.2.1 bZ.out.2.2.1 bZ.out.2.2.2 rfl (by omega) (ad p s.text.length cap) s.text.length (rS s.text) (by rfl) (Dn.out.alloc _) (aj ((w).heap.size) 0) 1 1 [.int .u8 x] (by rfl) rfl (kc (ga (w) _)) (by simp[Value.oneCell']) (by unfold maxLen;omega) (by omega) (by have:=fa.out;have:=c6.out.size;simp<;>omega) ?_;intro v' w' gx iB pw;obtain⟨g',mn,rfl,_,_⟩:=gx.form (by omega);rw[←hx.out] at gx;obtain⟨rU,r2,F1⟩:=bM.out.add (c:=c) (v':=ad (some (aj g' 0)) (s.text.length+1) mn) ((Below.refl _ _).alloc (bx _) _) iB (gx) (dB fa.out c6.out.size);have lZ:=aq (And.intro rU (c6.out.trans r2));have Vg:ak w' R 1 _:=cell_of_row w' R 1 _ _ (0,0) F1;have Vh:w'.frozen? ⟨R,1,none⟩=false:=(by simp[World.frozen?,F1]);clear rU r2 F1 gx iB pw);go_ret;rw[←bq.out];exact⟨lZ.out.2,rfl,aeE aP.out (aP.out.dy c9.out) gS s.a c,_,_,lZ.out.1⟩
def asi(ws:List ea)(i e:Nat)(w:aeo)(jY:Ending)(w':aeo):Prop:=
 ∃v,jY=ab (.tuple #[v,I (i:Int),I (e:Int)])∧w'.ownsRow w.heap.size 153 4 v ws.length (rj ws)∧ao w w w'
theorem Qq(w:aeo)(B:Nat):w.ownsRow B 153 4 (J 0) ([]:List ea).length (rj []):=⟨rfl,.inl ⟨rfl,rfl⟩⟩
def after(k:Nat)(r:au):Except Nat iy→Except (Nat×Nat) iy
 |.error e=>.error (k,e)
 |.ok s'=>jl r (k+1) s'
theorem asj{k:Nat}(h:k<l.length)(s:iy):jl (l.drop k) k s=after k (l.drop (k+1)) (rK s l[k] k):=by rw[lT h];unfold after;rfl
theorem aeG{c:UInt8}{i e:Nat}(h:rK s c i=.error e):0<e:=by
 unfold rK Gx xj at h
 repeat' split at h
 all_goals first|(injection h with h;omega)|cases h
theorem asl(w:aeo):gP w.heap.size w.heap.size (J 0) (J 0) xi (w.alloc (CF (J 0) (J 0) 0 false 0)):=
 ⟨bx _,ga w _,⟨rfl,.inl ⟨rfl,rfl⟩⟩,⟨rfl,.inl ⟨rfl,rfl⟩⟩⟩
theorem asm:wE xi:=⟨by decide,fun h=>absurd rfl h,by decide,bx _⟩
theorem asn(S:Ua)(hm:S.size≤maxLen)(w:aeo)(ws:List ea)(i e:Nat)(hw:af (uf S.data.toList=(ws,i,e))):
  Calls Tryz.prog 61 #[aa S] w (asi ws i e w):=by
 unfold maxLen at hm;have hlen:S.data.toList.length=S.size:=cG S;have hx:=hw.out;unfold uf at hx;by_cases n9:1000000<(S.size:Int)
 ·rw[a8 (by omega)] at hx;simp only[fS] at hx;obtain⟨rfl,rfl,rfl⟩:=hx;clear hlen;go_enter Tryz.func61,Tryz.ntmps61;go_wp2_with fail;go_ret3;exact⟨_,rfl,Qq w _,Below.refl _ _⟩
 ·rw[aR (by omega)] at hx;have c2:=aq hx;have hS:S.size≤1000000:=(by omega);have bq:af (gP w.heap.size w.heap.size (J 0) (J 0) xi (w.alloc (CF (J 0) (J 0) 0 false 0))):=asl w;have aO:af (ao w w (w.alloc (CF (J 0) (J 0) 0 false 0))):=(Below.refl _ _).alloc (bx _) _;clear hx hlen hw;go_enter Tryz.func61,Tryz.ntmps61;go_wp2_with fail
  go_loopw [6] (fun x wr=>∃(k:Nat) (s:iy) (cg iv:ada),k≤S.size∧af (wE s∧gP w.heap.size w.heap.size cg iv s wr∧ao w w wr∧jl (S.data.toList.drop k) k s=jl S.data.toList 0 xi)∧x=I (k:Int)) (fun x _=>S.size -(intOf x).toNat)
  case atStart=>exact⟨0,xi,_,_,eE _,⟨asm,bq.out,aO.out,rfl⟩,rfl⟩
  case round=>
  obtain⟨k,s,cg,iv,ax,H,rfl⟩:=hrel;by_cases b1:k<S.size
  ·have iE:k<S.data.toList.length:=(by rw[cG];exact b1);obtain⟨x,sF⟩:=ar (S[k].toNat:Int);have mA:=aq sF;obtain⟨res,dQ⟩:=ar (rK s S[k] k);have yr:=aq dQ;have q5:jl S.data.toList 0 xi=after k (S.data.toList.drop (k+1)) res:=(by rw[←H.out.2.2.2,asj iE,n7 S k b1,dQ]);have aeH:=aq q5;have i':(k:Int)<(S.size:Int):=(by omega);clear q5 dQ;go_wp2_with fail;with_reducible refine (Od w.heap.size w.heap.size s cg iv _ H.out.2.2.1.size (aq H.out.2.1) H.out.1 S[k] x mA k (by omega) res yr).mono ?_
   rintro jY bY ⟨ay,hr⟩;cases res with
   |error Fb=>
    obtain rfl:=hr;have aso:=aeG yr.out;have pH:=c2.out;rw[aeH.out] at pH;simp only[after,fS] at pH;obtain⟨rfl,rfl,rfl⟩:=pH;have cP:=aq (H.out.2.2.1.trans ay);have hne:((Fb:Int)==0)=false:=(by simp;omega);have GV:((Fb:Int) !=0)=true:=(by simp;omega);clear ay aso;go_wp2_with fail;go_ret3;exact⟨_,rfl,Qq _ _,cP.out⟩
   |ok s'=>
    obtain⟨rfl,aeI,aeJ,aeK,aeL⟩:=hr;have bf:af (wE s'∧gP w.heap.size w.heap.size aeJ aeK s' bY∧ao w w bY∧jl (S.data.toList.drop (k+1)) (k+1) s'=jl S.data.toList 0 xi):=⟨aeI,aeL,H.out.2.2.1.trans ay,aeH.out.symm⟩;clear ay aeI aeL;go_wp2_with fail;go_round<;>first|exact⟨k+1,s',aeJ,aeK,by omega,bf.out,by go_num⟩|(simp[intOf]<;>omega)
  ·have fT:k=S.size:=(by omega);have q5:jl S.data.toList 0 xi=.ok s:=(by rw[←H.out.2.2.2,n2 (by rw[cG];omega)];rfl);have pH:=c2.out;rw[q5] at pH;obtain⟨aN,aL,aI,c3,bJ⟩:=H.out.2.1.cells;obtain⟨p,cap,rfl,nn,sr⟩:=VL H.out.2.1.hN;obtain⟨jW,jX,rfl⟩:=jf H.out.2.1.ws;have i':¬((k:Int)<(S.size:Int)):=(by omega);clear nn sr q5;by_cases fF:s.text≠[]∨s.group=true
   ·simp only[] at pH;rw[a8 fF,cG] at pH;simp only[fS] at pH;obtain⟨rfl,rfl,rfl⟩:=pH;have bm:af (ao w w wr):=H.out.2.2.1;by_cases bB:s.text.length=0
    ·have ba:s.group=true:=fF.resolve_left (fun h=>h (rQ bB));rw[ba] at c3;rw[bB] at aL;clear fF ba bB;go_wp2_with fail;go_ret3;exact⟨_,rfl,Qq _ _,bm.out⟩
    ·have As:0<s.text.length:=(by omega);clear fF bB;go_wp2_with fail;go_ret3;exact⟨_,rfl,Qq _ _,bm.out⟩
   ·simp only[] at pH;rw[aR fF] at pH;simp only[fS] at pH;obtain⟨rfl,rfl,rfl⟩:=pH;have bB:s.text.length=0:=(by rw[abk];exact xd fun h=>fF (.inl h));have ba:s.group=false:=Bool.eq_false_iff.2 fun h=>fF (.inr h);rw[ba] at c3;rw[bB] at aL;clear fF ba bB;go_wp2_with fail;go_ret3;exact⟨_,rfl,H.out.2.1.ws,H.out.2.2.1⟩
end gT
