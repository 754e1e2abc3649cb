/- Lemmas. -/
import Derived.Test.YtfldplmgkeiimaaGreatDoorQ7
import Derived.Lib.MinMax
import Derived.Deep.RegionLaw
set_option linter.all false
set_option maxRecDepth 100000
set_option maxHeartbeats 12800000
namespace Go.Proofs.YtfldplmgkeiimaaGreatDoor
abbrev jq:=@run_underlying
abbrev kj:=@List.length_take
abbrev N8:=@List.getElem_append_left
abbrev Sy:=@List.getElem_drop
abbrev Sz:=@List.getElem_append_right
abbrev Ek:=@Proofs.Tryz.underlying198
abbrev N9:=@results_none
namespace c4
open Go.RowKit dH
def oW(d:Nat→Int):Nat→Int
 |0=>0
 |n+1=>oW d n+if 0<d n then 1 else 0
def oX(d:Nat→Int):Nat→Int
 |0=>0
 |n+1=>oX d n+if d n<0 then 1 else 0
def fy(aD aC aG aE:Int):Nat→bK
 |0=>(aD,aC)
 |1=>(aG,aC)
 |2=>(aD,aE)
 |_=>(aG,aE)
theorem akQ(aD aC aG aE:Int)(p q:bK)(hm:¬(max p.1 q.1<aD∨aG<min p.1 q.1∨max p.2 q.2<aC∨aE<min p.2 q.2)):
  qt ⟨aD,aC,aG,aE⟩ p q=(decide (oW (fun k=>eH p q (fy aD aC aG aE k)) 4<4)&&decide (oX (fun k=>eH p q (fy aD aC aG aE k)) 4<4)):=by
 unfold qt;rw[aR hm];simp only[oW,oX,oI,fy,GF,RG,RH]
 congr 1<;>rw[Cb]<;>simp only[RI,iO,RJ,DT]<;>(repeat' split)<;>omega
theorem N'{b:bO}{p q:bK}{f:Bool}(h:qt b p q=f)(hm:max p.1 q.1<b.aD∨b.aG<min p.1 q.1∨max p.2 q.2<b.aC∨b.aE<min p.2 q.2):false=f:=by rw[←h];unfold qt;rw[a8 hm]
theorem Oa(aD aC aG aE:Int)(j:Nat)(cr:j<4)(w:aeo):(Instr.index 394 (Hk ⟨aD,aC,aG,aE⟩) (I j)).run Tryz.prog w=.ok (l1 (fy aD aC aG aE j)) w:=by rcases (show j=0∨j=1∨j=2∨j=3 by omega) with rfl|rfl|rfl|rfl<;>simp[Instr.index,jq Tryz.underlying394,asIntOf,go_sem,fy,part]
theorem akR(b:bO)(p q:bK)(aT:hU (b.aD,b.aC))(av:hU (b.aG,b.aE))(hp:hU p)(aH:hU q)(he:rH b=false)(f:Bool)(hf:af (qt b p q=f))(w:aeo):
  Calls Tryz.prog 277 #[h7 b,l1 p,l1 q] w fun e w'=>e=ab (U f)∧ao w w w':=by
 have bz:af (∀k,hU (fy b.aD b.aC b.aG b.aE k)):=by
  rintro (_|_|_|k)
  ·exact aT
  ·exact⟨av.1,aT.2⟩
  ·exact⟨aT.1,av.2⟩
  ·exact av
 have bm:=aq he;have bN:=aq hp;have bd:=aq aH;clear aT av he hp aH;obtain⟨aD,aC,aG,aE⟩:=b;obtain⟨cw,ct⟩:=p;obtain⟨en,eo⟩:=q;go_enter Tryz.func277,Tryz.ntmps277;go_upto_region 1 with fail;obtain⟨W,br⟩:=ar (((w.alloc (cU ⟨aD,aC,aG,aE⟩)).alloc (eZ (cw,ct))).alloc (eZ (en,eo)));obtain⟨t1,t2,t3,t4,t5⟩:=zc br;have cc:=aq t1;have aO:=aq t2;have di:=aq t3;have ez:=aq t4;rw[br];clear br t1 t2 t3 t4 t5;obtain⟨a0,bE,a2,a3⟩:=hb cc.out;go_wp2_with fail;with_reducible refine (Sx ⟨aD,aC,aG,aE⟩ _ bm _).mono ?_
 rintro e V ⟨rfl,aS⟩;have jc:=aq (aU cc.out aS);have c6:=aq (aU aO.out aS);have wi:=aq (aU di.out aS);have b0:af (ao w w V):=ez.out.trans (aS.mono ez.out.size);clear a0 bE a2 a3 aS cc aO di ez;obtain⟨a0,bE,a2,a3⟩:=hb jc.out;obtain⟨gf,e8⟩:=kv c6.out;obtain⟨fm,bW⟩:=kv wi.out;simp only at gf e8 fm bW;by_cases aL:max cw en<aD
 case pos=>
  have aP:af (false=f):=N' hf.out (.inl aL);go_wp2_with fail;go_ret;exact⟨ej aP.out,b0.out⟩
 by_cases aI:aG<min cw en
 case pos=>
  have aP:af (false=f):=N' hf.out (.inr (.inl aI));go_wp2_with fail;go_ret;exact⟨ej aP.out,b0.out⟩
 by_cases c3:max ct eo<aC
 case pos=>
  have aP:af (false=f):=N' hf.out (.inr (.inr (.inl c3)));go_wp2_with fail;go_ret;exact⟨ej aP.out,b0.out⟩
 by_cases bJ:aE<min ct eo
 case pos=>
  have aP:af (false=f):=N' hf.out (.inr (.inr (.inr bJ)));go_wp2_with fail;go_ret;exact⟨ej aP.out,b0.out⟩
 have bM:=aq ((akQ aD aC aG aE (cw,ct) (en,eo) (by simp only;omega)).symm.trans hf.out);go_wp2_with fail;with_reducible refine (akP ⟨aD,aC,aG,aE⟩ _).mono ?_
 rintro e lF ⟨rfl,aS⟩;have lx:af (ao V V lF):=aS;clear aS a0 bE a2 a3 gf e8 fm bW;go_wp2_with fail
 go_loopw [7,8,56] (fun JX rt i wr=>∃(j:Nat) (L R:Int) (aK:aeo),aK=wr∧j≤4∧0≤L∧L≤(j:Int)∧0≤R∧R≤(j:Int)∧af (oW (fun k=>eH (cw,ct) (en,eo) (fy aD aC aG aE k)) j=L)∧af (oX (fun k=>eH (cw,ct) (en,eo) (fy aD aC aG aE k)) j=R)∧JX=I L∧rt=I R∧i=I j∧af (ao V V aK)) (fun _ _ i _=>4 -(intOf i).toNat)
 case atStart=>exact⟨0,0,0,_,rfl,by decide,by decide,by decide,by decide,by decide,rfl,rfl,rfl,rfl,rfl,lx.out⟩
 case round=>
 obtain⟨j,L,R,aK,rfl,cr,akS,awL,awM,qD,Kd,Ke,rfl,rfl,rfl,cC⟩:=hrel;obtain⟨uK,AI⟩:∃uK:Int,(j:Int)=uK:=⟨_,rfl⟩;rw[AI];rcases (show j=0∨j=1∨j=2∨j=3∨j=4 by omega) with rfl|rfl|rfl|rfl|rfl
 ·
  obtain rfl:uK=0:=(by omega);have r4:∀w,(Instr.index 394 (Hk ⟨aD,aC,aG,aE⟩) (I 0)).run Tryz.prog w=.ok (l1 (fy aD aC aG aE 0)) w:=fun w=>Oa aD aC aG aE 0 (by decide) w;obtain⟨v,aS⟩:=ar (eH (cw,ct) (en,eo) (fy aD aC aG aE 0));have c2:=aq aS;have dT:af (oW (fun k=>eH (cw,ct) (en,eo) (fy aD aC aG aE k)) (0+1)=L+(if 0<v then 1 else 0)):=(by show _=_;rw[←Kd.out,←aS];rfl);have bq:af (oX (fun k=>eH (cw,ct) (en,eo) (fy aD aC aG aE k)) (0+1)=R+(if v<0 then 1 else 0)):=(by show _=_;rw[←Ke.out,←aS];rfl);clear aS;obtain⟨gf,e8⟩:=kv (aU c6.out cC.out);obtain⟨fm,bW⟩:=kv (aU wi.out cC.out);simp only at gf e8 fm bW;have dy:=lt_of_heap (aU c6.out cC.out);have eU:=lt_of_heap (aU wi.out cC.out);have oY:ae (L+1)=L+1:=cX _ (by omega);have xL:ae (R+1)=R+1:=cX _ (by omega);go_wp2_with fail;with_reducible refine (Hj (cw,ct) (en,eo) (fy aD aC aG aE 0) bN.out bd.out (bz.out 0) v c2 _).mono ?_
  rintro e dp ⟨rfl,eA⟩;have aX:af (ao V V dp):=(cC.out.alloc cC.out.size _).trans (eA.mono (by have:=cC.out.size;simp;omega));clear eA;by_cases cv:v > 0
  ·have fb:af (oW (fun k=>eH (cw,ct) (en,eo) (fy aD aC aG aE k)) (0+1)=L+1):=(by show _=_;rw[dT.out,a8 cv]);have eF:af (oX (fun k=>eH (cw,ct) (en,eo) (fy aD aC aG aE k)) (0+1)=R):=(by show _=_;rw[bq.out,aR (by omega),p0]);have cn:¬v<0:=(by omega);go_wp2_with fail;go_round<;>first|exact⟨0+1,L+1,R,_,rfl,by omega,by omega,by omega,by omega,by omega,fb,eF,rfl,rfl,by go_num,aX.out⟩|(simp[intOf]<;>omega)
  ·by_cases cn:v<0
   ·have fb:af (oW (fun k=>eH (cw,ct) (en,eo) (fy aD aC aG aE k)) (0+1)=L):=(by show _=_;rw[dT.out,aR (by omega),p0]);have eF:af (oX (fun k=>eH (cw,ct) (en,eo) (fy aD aC aG aE k)) (0+1)=R+1):=(by show _=_;rw[bq.out,a8 cn]);go_wp2_with fail;go_round<;>first|exact⟨0+1,L,R+1,_,rfl,by omega,by omega,by omega,by omega,by omega,fb,eF,rfl,rfl,by go_num,aX.out⟩|(simp[intOf]<;>omega)
   ·have fb:af (oW (fun k=>eH (cw,ct) (en,eo) (fy aD aC aG aE k)) (0+1)=L):=(by show _=_;rw[dT.out,aR (by omega),p0]);have eF:af (oX (fun k=>eH (cw,ct) (en,eo) (fy aD aC aG aE k)) (0+1)=R):=(by show _=_;rw[bq.out,aR (by omega),p0]);go_wp2_with fail;go_round<;>first|exact⟨0+1,L,R,_,rfl,by omega,by omega,by omega,by omega,by omega,fb,eF,rfl,rfl,by go_num,aX.out⟩|(simp[intOf]<;>omega)
 ·
  obtain rfl:uK=1:=(by omega);have r4:∀w,(Instr.index 394 (Hk ⟨aD,aC,aG,aE⟩) (I 1)).run Tryz.prog w=.ok (l1 (fy aD aC aG aE 1)) w:=fun w=>Oa aD aC aG aE 1 (by decide) w;obtain⟨v,aS⟩:=ar (eH (cw,ct) (en,eo) (fy aD aC aG aE 1));have c2:=aq aS;have dT:af (oW (fun k=>eH (cw,ct) (en,eo) (fy aD aC aG aE k)) (1+1)=L+(if 0<v then 1 else 0)):=(by show _=_;rw[←Kd.out,←aS];rfl);have bq:af (oX (fun k=>eH (cw,ct) (en,eo) (fy aD aC aG aE k)) (1+1)=R+(if v<0 then 1 else 0)):=(by show _=_;rw[←Ke.out,←aS];rfl);clear aS;obtain⟨gf,e8⟩:=kv (aU c6.out cC.out);obtain⟨fm,bW⟩:=kv (aU wi.out cC.out);simp only at gf e8 fm bW;have dy:=lt_of_heap (aU c6.out cC.out);have eU:=lt_of_heap (aU wi.out cC.out);have oY:ae (L+1)=L+1:=cX _ (by omega);have xL:ae (R+1)=R+1:=cX _ (by omega);go_wp2_with fail;with_reducible refine (Hj (cw,ct) (en,eo) (fy aD aC aG aE 1) bN.out bd.out (bz.out 1) v c2 _).mono ?_
  rintro e dp ⟨rfl,eA⟩;have aX:af (ao V V dp):=(cC.out.alloc cC.out.size _).trans (eA.mono (by have:=cC.out.size;simp;omega));clear eA;by_cases cv:v > 0
  ·have fb:af (oW (fun k=>eH (cw,ct) (en,eo) (fy aD aC aG aE k)) (1+1)=L+1):=(by show _=_;rw[dT.out,a8 cv]);have eF:af (oX (fun k=>eH (cw,ct) (en,eo) (fy aD aC aG aE k)) (1+1)=R):=(by show _=_;rw[bq.out,aR (by omega),p0]);have cn:¬v<0:=(by omega);go_wp2_with fail;go_round<;>first|exact⟨1+1,L+1,R,_,rfl,by omega,by omega,by omega,by omega,by omega,fb,eF,rfl,rfl,by go_num,aX.out⟩|(simp[intOf]<;>omega)
  ·by_cases cn:v<0
   ·have fb:af (oW (fun k=>eH (cw,ct) (en,eo) (fy aD aC aG aE k)) (1+1)=L):=(by show _=_;rw[dT.out,aR (by omega),p0]);have eF:af (oX (fun k=>eH (cw,ct) (en,eo) (fy aD aC aG aE k)) (1+1)=R+1):=(by show _=_;rw[bq.out,a8 cn]);go_wp2_with fail;go_round<;>first|exact⟨1+1,L,R+1,_,rfl,by omega,by omega,by omega,by omega,by omega,fb,eF,rfl,rfl,by go_num,aX.out⟩|(simp[intOf]<;>omega)
   ·have fb:af (oW (fun k=>eH (cw,ct) (en,eo) (fy aD aC aG aE k)) (1+1)=L):=(by show _=_;rw[dT.out,aR (by omega),p0]);have eF:af (oX (fun k=>eH (cw,ct) (en,eo) (fy aD aC aG aE k)) (1+1)=R):=(by show _=_;rw[bq.out,aR (by omega),p0]);go_wp2_with fail;go_round<;>first|exact⟨1+1,L,R,_,rfl,by omega,by omega,by omega,by omega,by omega,fb,eF,rfl,rfl,by go_num,aX.out⟩|(simp[intOf]<;>omega)
 ·
  obtain rfl:uK=2:=(by omega);have r4:∀w,(Instr.index 394 (Hk ⟨aD,aC,aG,aE⟩) (I 2)).run Tryz.prog w=.ok (l1 (fy aD aC aG aE 2)) w:=fun w=>Oa aD aC aG aE 2 (by decide) w;obtain⟨v,aS⟩:=ar (eH (cw,ct) (en,eo) (fy aD aC aG aE 2));have c2:=aq aS;have dT:af (oW (fun k=>eH (cw,ct) (en,eo) (fy aD aC aG aE k)) (2+1)=L+(if 0<v then 1 else 0)):=(by show _=_;rw[←Kd.out,←aS];rfl);have bq:af (oX (fun k=>eH (cw,ct) (en,eo) (fy aD aC aG aE k)) (2+1)=R+(if v<0 then 1 else 0)):=(by show _=_;rw[←Ke.out,←aS];rfl);clear aS;obtain⟨gf,e8⟩:=kv (aU c6.out cC.out);obtain⟨fm,bW⟩:=kv (aU wi.out cC.out);simp only at gf e8 fm bW;have dy:=lt_of_heap (aU c6.out cC.out);have eU:=lt_of_heap (aU wi.out cC.out);have oY:ae (L+1)=L+1:=cX _ (by omega);have xL:ae (R+1)=R+1:=cX _ (by omega);go_wp2_with fail;with_reducible refine (Hj (cw,ct) (en,eo) (fy aD aC aG aE 2) bN.out bd.out (bz.out 2) v c2 _).mono ?_
  rintro e dp ⟨rfl,eA⟩;have aX:af (ao V V dp):=(cC.out.alloc cC.out.size _).trans (eA.mono (by have:=cC.out.size;simp;omega));clear eA;by_cases cv:v > 0
  ·have fb:af (oW (fun k=>eH (cw,ct) (en,eo) (fy aD aC aG aE k)) (2+1)=L+1):=(by show _=_;rw[dT.out,a8 cv]);have eF:af (oX (fun k=>eH (cw,ct) (en,eo) (fy aD aC aG aE k)) (2+1)=R):=(by show _=_;rw[bq.out,aR (by omega),p0]);have cn:¬v<0:=(by omega);go_wp2_with fail;go_round<;>first|exact⟨2+1,L+1,R,_,rfl,by omega,by omega,by omega,by omega,by omega,fb,eF,rfl,rfl,by go_num,aX.out⟩|(simp[intOf]<;>omega)
  ·by_cases cn:v<0
   ·have fb:af (oW (fun k=>eH (cw,ct) (en,eo) (fy aD aC aG aE k)) (2+1)=L):=(by show _=_;rw[dT.out,aR (by omega),p0]);have eF:af (oX (fun k=>eH (cw,ct) (en,eo) (fy aD aC aG aE k)) (2+1)=R+1):=(by show _=_;rw[bq.out,a8 cn]);go_wp2_with fail;go_round<;>first|exact⟨2+1,L,R+1,_,rfl,by omega,by omega,by omega,by omega,by omega,fb,eF,rfl,rfl,by go_num,aX.out⟩|(simp[intOf]<;>omega)
   ·have fb:af (oW (fun k=>eH (cw,ct) (en,eo) (fy aD aC aG aE k)) (2+1)=L):=(by show _=_;rw[dT.out,aR (by omega),p0]);have eF:af (oX (fun k=>eH (cw,ct) (en,eo) (fy aD aC aG aE k)) (2+1)=R):=(by show _=_;rw[bq.out,aR (by omega),p0]);go_wp2_with fail;go_round<;>first|exact⟨2+1,L,R,_,rfl,by omega,by omega,by omega,by omega,by omega,fb,eF,rfl,rfl,by go_num,aX.out⟩|(simp[intOf]<;>omega)
 ·
  obtain rfl:uK=3:=(by omega);have r4:∀w,(Instr.index 394 (Hk ⟨aD,aC,aG,aE⟩) (I 3)).run Tryz.prog w=.ok (l1 (fy aD aC aG aE 3)) w:=fun w=>Oa aD aC aG aE 3 (by decide) w;obtain⟨v,aS⟩:=ar (eH (cw,ct) (en,eo) (fy aD aC aG aE 3));have c2:=aq aS;have dT:af (oW (fun k=>eH (cw,ct) (en,eo) (fy aD aC aG aE k)) (3+1)=L+(if 0<v then 1 else 0)):=(by show _=_;rw[←Kd.out,←aS];rfl);have bq:af (oX (fun k=>eH (cw,ct) (en,eo) (fy aD aC aG aE k)) (3+1)=R+(if v<0 then 1 else 0)):=(by show _=_;rw[←Ke.out,←aS];rfl);clear aS;obtain⟨gf,e8⟩:=kv (aU c6.out cC.out);obtain⟨fm,bW⟩:=kv (aU wi.out cC.out);simp only at gf e8 fm bW;have dy:=lt_of_heap (aU c6.out cC.out);have eU:=lt_of_heap (aU wi.out cC.out);have oY:ae (L+1)=L+1:=cX _ (by omega);have xL:ae (R+1)=R+1:=cX _ (by omega);go_wp2_with fail;with_reducible refine (Hj (cw,ct) (en,eo) (fy aD aC aG aE 3) bN.out bd.out (bz.out 3) v c2 _).mono ?_
  rintro e dp ⟨rfl,eA⟩;have aX:af (ao V V dp):=(cC.out.alloc cC.out.size _).trans (eA.mono (by have:=cC.out.size;simp;omega));clear eA;by_cases cv:v > 0
  ·have fb:af (oW (fun k=>eH (cw,ct) (en,eo) (fy aD aC aG aE k)) (3+1)=L+1):=(by show _=_;rw[dT.out,a8 cv]);have eF:af (oX (fun k=>eH (cw,ct) (en,eo) (fy aD aC aG aE k)) (3+1)=R):=(by show _=_;rw[bq.out,aR (by omega),p0]);have cn:¬v<0:=(by omega);go_wp2_with fail;go_round<;>first|exact⟨3+1,L+1,R,_,rfl,by omega,by omega,by omega,by omega,by omega,fb,eF,rfl,rfl,by go_num,aX.out⟩|(simp[intOf]<;>omega)
  ·by_cases cn:v<0
   ·have fb:af (oW (fun k=>eH (cw,ct) (en,eo) (fy aD aC aG aE k)) (3+1)=L):=(by show _=_;rw[dT.out,aR (by omega),p0]);have eF:af (oX (fun k=>eH (cw,ct) (en,eo) (fy aD aC aG aE k)) (3+1)=R+1):=(by show _=_;rw[bq.out,a8 cn]);go_wp2_with fail;go_round<;>first|exact⟨3+1,L,R+1,_,rfl,by omega,by omega,by omega,by omega,by omega,fb,eF,rfl,rfl,by go_num,aX.out⟩|(simp[intOf]<;>omega)
   ·have fb:af (oW (fun k=>eH (cw,ct) (en,eo) (fy aD aC aG aE k)) (3+1)=L):=(by show _=_;rw[dT.out,aR (by omega),p0]);have eF:af (oX (fun k=>eH (cw,ct) (en,eo) (fy aD aC aG aE k)) (3+1)=R):=(by show _=_;rw[bq.out,aR (by omega),p0]);go_wp2_with fail;go_round<;>first|exact⟨3+1,L,R,_,rfl,by omega,by omega,by omega,by omega,by omega,fb,eF,rfl,rfl,by go_num,aX.out⟩|(simp[intOf]<;>omega)
 ·
  obtain rfl:uK=4:=(by omega);have aP:af ((decide (L<4)&&decide (R<4))=f):=(by show _=_;rw[←Kd.out,←Ke.out];exact bM.out);go_wp2_with fail
  all_goals
   go_ret;refine⟨ej (Cl ⟨fun h=>?_,fun h=>?_⟩ aP.out),b0.out.trans (cC.out.mono b0.out.size)⟩<;>simp only[ix,iO,pq] at h⊢<;>omega
theorem akU(p a e:bK)(hp:hU p)(ha:hU a)(he:hU e)(f:Bool)(hf:af (vL p a e=f))(w:aeo):
  Calls Tryz.prog 308 #[l1 p,l1 a,l1 e] w fun r w'=>r=ab (U f)∧ao w w w':=by
 have bN:=aq hp;have cc:=aq ha;have bm:=aq he;clear hp ha he;have h:=hf.out;clear hf;unfold vL at h;obtain⟨cw,ct⟩:=p;obtain⟨aW,aY⟩:=a;obtain⟨ex,bI⟩:=e;simp only at h;obtain⟨v,aS⟩:=ar (eH (aW,aY) (ex,bI) (cw,ct));rw[aS] at h;have b0:=aq aS;have hB:=aq h;clear aS h;go_enter Tryz.func308,Tryz.ntmps308;go_upto_region 1 with fail;obtain⟨W,br⟩:=ar (((w.alloc (eZ (cw,ct))).alloc (eZ (aW,aY))).alloc (eZ (ex,bI)));obtain⟨t1,t2,t3,t4,t5⟩:=zc br;have c6:=aq t1;have cP:=aq t2;have dk:=aq t3;have ez:=aq t4;rw[br];clear br t1 t2 t3 t4 t5;obtain⟨gf,e8⟩:=kv c6.out;obtain⟨a0,bE⟩:=kv cP.out;obtain⟨eD,a1⟩:=kv dk.out;simp only at gf e8 a0 bE eD a1;by_cases aL:ct<aY<;>by_cases aI:ct<bI
 ·have aP:af (false=f):=(by show _=_;rw[←hB.out];simp[aL,aI]);go_wp2_with fail;go_ret;exact⟨ej aP.out,ez.out⟩
 ·have aP:af ((if aY<bI then decide (0<v) else decide (v<0))=f):=(by show _=_;rw[←hB.out];simp[aL,aI]);have c3:¬aY<bI:=(by omega);go_wp2_with fail;with_reducible refine (Hj (aW,aY) (ex,bI) (cw,ct) cc.out bm.out bN.out v b0 _).mono ?_
  rintro r V ⟨rfl,aS⟩;have c2:af (ao w w V):=ez.out.trans (aS.mono ez.out.size);obtain⟨a0,bE⟩:=kv (aU cP.out aS);obtain⟨eD,a1⟩:=kv (aU dk.out aS);simp only at a0 bE eD a1;clear aS;go_wp2_with fail;go_ret;refine⟨ej ?_,c2.out⟩;rw[←aP.out,aR (by omega)]
 ·have aP:af ((if aY<bI then decide (0<v) else decide (v<0))=f):=(by show _=_;rw[←hB.out];simp[aL,aI]);have c3:aY<bI:=(by omega);go_wp2_with fail;with_reducible refine (Hj (aW,aY) (ex,bI) (cw,ct) cc.out bm.out bN.out v b0 _).mono ?_
  rintro r V ⟨rfl,aS⟩;have c2:af (ao w w V):=ez.out.trans (aS.mono ez.out.size);obtain⟨a0,bE⟩:=kv (aU cP.out aS);obtain⟨eD,a1⟩:=kv (aU dk.out aS);simp only at a0 bE eD a1;clear aS;go_wp2_with fail;go_ret;refine⟨ej ?_,c2.out⟩;rw[←aP.out,a8 c3]
 ·have aP:af (false=f):=(by show _=_;rw[←hB.out];simp[aL,aI]);go_wp2_with fail;go_ret;exact⟨ej aP.out,ez.out⟩
theorem Kf(c:List bK):(jy c).length=c.length:=by unfold jy;rw[List.length_zip,hl,gI,kj];omega
theorem ZK(c:List bK)(i:Nat)(hi:i<c.length)(hm:(i+1)%c.length<c.length):(jy c)[i]'(by rw[Kf];exact hi)=(c[i],c[(i+1)%c.length]):=by
 simp only[jy,List.getElem_zip]
 congr 1
 by_cases h:i+1<c.length
 ·rw[N8 (by simp;omega),Sy]
  congr 1
  rw[Nat.mod_eq_of_lt h,DL]
 ·have aA:i+1=c.length:=(by omega);rw[Sz (by simp;omega),List.getElem_take]
  congr 1
  simp only[gI];rw[aA,Nat.mod_self];omega
theorem ZL{a b:Int}(aT:0≤a)(av:0<b):a.tmod b=a%b:=y7 aT
abbrev Hl(w0:aeo)(bQ:Nat)(aD aC aG aE:Int)(D:Nat)(aW aY:Int)(gg fD:Nat)(ex bI:Int)(Z:aeo):Prop:=
 Z.cell? ⟨bQ,0,none⟩=some (I aD)∧ak Z bQ 1 (I aC)∧ak Z bQ 2 (I aG)∧ak Z bQ 3 (I aE)∧ak Z D 0 (I aW)∧ak Z D 1 (I aY)∧ak Z gg fD (I ex)∧ak Z gg (fD+1) (I bI)∧ao w0 w0 Z
variable{w0 v w:aeo}{bQ D gg fD:Nat}{aD aC aW aY ex bI:Int}
theorem ZM{aG aE:Int}{Z:aeo}(ay:ao v v Z)(h:Hl w0 bQ aD aC aG aE D aW aY gg fD ex bI v):Hl w0 bQ aD aC aG aE D aW aY gg fD ex bI Z:=
 ⟨bP ay h.1,bP ay h.2.1,bP ay h.2.2.1,bP ay h.2.2.2.1,bP ay h.2.2.2.2.1,bP ay h.2.2.2.2.2.1,bP ay h.2.2.2.2.2.2.1,bP ay h.2.2.2.2.2.2.2.1,h.2.2.2.2.2.2.2.2.trans (ay.mono h.2.2.2.2.2.2.2.2.size)⟩
theorem ZN{aG aE:Int}(h:Hl w0 bQ aD aC aG aE D aW aY gg fD ex bI v):Hl w0 bQ aD aC aG aE D aW aY gg fD ex bI v.drew:=ZM (Below.refl _ _).drew h
theorem akV(S:afp)(b:bO)(aT:hU (b.aD,b.aC))(av:hU (b.aG,b.aE))(he:rH b=false)(p:Ja)(l:List (List bK))(n c:Nat)(hn:n=l.length)(aA:∀c∈l,∀q∈c,hU q)(w:aeo)(H:af (iC S w p l))(f:Bool)(hf:af (Ae b l=f)):
  Calls Tryz.prog 272 #[h7 b,ad p n c] w fun e w'=>e=ab (U f)∧ao w w w':=by
 have n9:n≤1000000000:=by rw[hn];exact H.out.1
 have bf:=aq hn;have dT:=aq aA;have oV:=aq aT;have H1:=aq av;have bm:=aq he;obtain⟨g,ba⟩:∃g:bK×bK→Bool,(fun e=>qt b e.1 e.2)=g:=⟨_,rfl⟩;have e0:=aq ba;have l2:af ((l.drop 0).any (fun c=>(jy c).any g)=f):=by show _=_;rw[←ba];exact hf.out
 clear hf hn aA aT av he ba;obtain⟨aD,aC,aG,aE⟩:=b;go_enter Tryz.func272,Tryz.ntmps272;go_wp2_with fail;have ez:af (ao w w (w.alloc (cU ⟨aD,aC,aG,aE⟩))):=jE _ _;have cc:af ((w.alloc (cU ⟨aD,aC,aG,aE⟩)).heap[w.heap.size]?=some (cU ⟨aD,aC,aG,aE⟩)):=cd _ _;generalize w.alloc (cU ⟨aD,aC,aG,aE⟩)=W at ez cc⊢
 go_loopw [11] (fun i wr=>∃(j:Nat) (aK:aeo),aK=wr∧j≤n∧af ((l.drop j).any (fun c=>(jy c).any g)=f)∧i=I j∧af (ao W W aK)) (fun i _=>n -(intOf i).toNat)
 case atStart=>exact⟨0,_,rfl,eE _,l2.out,rfl,Below.refl _ _⟩
 case round=>
 obtain⟨j,aK,rfl,cr,df,rfl,aO⟩:=hrel;by_cases b1:j<n
 ·have fL:j<l.length:=(by rw[←bf.out];exact b1);have i':(j:Int)<(n:Int):=(by omega);obtain⟨r,hr⟩:=ar (l[j]);obtain⟨fC,o,q,nz,rfl,p2,_,mq⟩:=(H.out.below (ez.out.trans (aO.out.mono ez.out.size))).at fL hr;have bN:=aq mq;have rV:r.length≤1000000000:=mq.1;have bq:af (∀q∈r,hU q):=(by intro q aH;exact dT.out r (by rw[←hr];exact mu _) q aH);have ja:af (((jy r).any g ||(l.drop (j+1)).any (fun c=>(jy c).any g))=f):=(by show _=_;rw[←df.out,lT fL,hr];rfl);obtain⟨m,hm⟩:=ar r.length;have bM:=aq hm;rw[hm] at p2 rV;clear mq hr df hm;go_wp2_with fail
  go_loopw [17] (fun i gy=>∃(k:Nat) (cD:aeo),cD=gy∧k≤m∧af (((jy r).drop k).any g=(jy r).any g)∧i=I k∧af (ao aK aK cD)) (fun i _=>m -(intOf i).toNat)
  case atStart=>exact⟨0,_,rfl,eE _,rfl,rfl,Below.refl _ _⟩
  case round=>
  obtain⟨k,cD,rfl,ax,dn,rfl,aX⟩:=hrel;by_cases iE:k<m
  ·have qz:k<r.length:=(by rw[bM.out];exact iE);have NW:(k:Int)<(m:Int):=(by omega);obtain⟨a7,fT⟩:=ar ((k+1)%m);have SA:a7<m:=(by rw[←fT];exact Nat.mod_lt _ (by omega));have El:a7<r.length:=(by rw[bM.out];exact SA);obtain⟨z,bn⟩:=ar (r[k]);obtain⟨z2,dq⟩:=ar (r[a7]);have r5:=aq (bq.out z (by rw[←bn];exact mu _));have SB:=aq (bq.out z2 (by rw[←dq];exact mu _));obtain⟨nA,l3,rfl,s0,s1⟩:=(bN.out.below aX.out).at qz bn;obtain⟨Em,En,p9,u0,u1⟩:=(bN.out.below aX.out).at El dq;obtain⟨rfl,rfl⟩:Em=nA∧En=l3:=(by injection p9 with av;injection av with av az;exact⟨av.symm,az.symm⟩);have kM:af (((jy r).drop k).any g=(g (z,z2)||((jy r).drop (k+1)).any g)):=(by show _=_;rw[lT (by rw[Kf];exact qz),ZK r k qz (by rw[bM.out,fT,←bM.out];exact El)];have:r[(k+1)%r.length]'(by rw[bM.out,fT,←bM.out];exact El)=z2:=(by rw[←dq];congr 1;rw[bM.out,fT]);rw[this,bn];rfl);clear bn dq p9;obtain⟨gz,gA⟩:=z;obtain⟨ex,bI⟩:=z2;obtain⟨mZ,uL⟩:=ar (g ((gz,gA),(ex,bI)));have Cm:=aq uL;have D':af (qt ⟨aD,aC,aG,aE⟩ (gz,gA) (ex,bI)=mZ):=(by show _=_;rw[←uL,←e0.out]);have oY:ae ((k:Int)+1)=(k:Int)+1:=cX _ (by omega);have s9:¬((m:Int)=0):=(by omega);have Ob:((k:Int)+1).tmod (m:Int)=(a7:Int):=(by rw[ZL (by omega) (by omega),←fT];exact (Int.natCast_emod (k+1) m).symm);have akW:¬m=0:=(by omega);have akX:(0:Int)≤(a7:Int):=(by omega);have akY:(a7:Int)<(m:Int):=(by omega);clear uL fT;obtain⟨a0,bE,a2,a3⟩:=hb (aU (aU cc.out aO.out) aX.out);have dy:=lt_of_heap (aU (aU cc.out aO.out) aX.out);go_upto_region 7 with fail;have fo:af (Hl cD w.heap.size aD aC aG aE cD.heap.size gz gA Em (En+a7 *2) ex bI (cD.alloc (eZ (gz,gA)))):=(by obtain⟨cy,cE⟩:=kv (cd cD (eZ (gz,gA)));have ay:=a' cD (eZ (gz,gA));exact⟨bP ay a0,bP ay bE,bP ay a2,bP ay a3,cy,cE,bP ay u0,bP ay u1,ay⟩);generalize cD.alloc (eZ (gz,gA))=cm at fo⊢;clear a0 bE a2 a3 s0 s1 u0 u1
   go_region_held3 (fun Z=>Hl cD w.heap.size aD aC aG aE cD.heap.size gz gA Em (En+a7 *2) ex bI Z) (first|with_reducible exact fo.out|with_reducible exact ZN fo.out|with_reducible exact ZM (by assumption) (by assumption)|with_reducible exact ZN (by assumption)|fail) (first|(go_at_call 277;with_reducible refine (akR ⟨aD,aC,aG,aE⟩ (gz,gA) (ex,bI) oV.out H1.out r5.out SB.out bm.out mZ D' _).mono ?_;rintro e bt ⟨rfl,dS⟩)|fail)
   rename_i hHeld;have eX:af (ao aK aK bt):=aX.out.trans (hHeld.2.2.2.2.2.2.2.2.mono aX.out.size);clear hHeld dS fo;cases mZ with
   |true=>
    have aP:af (true=f):=(by show _=_;rw[←ja.out,←dn.out,kM.out,Cm.out];rfl);go_wp2_with fail;go_ret;exact⟨ej aP.out,ez.out.trans ((aO.out.trans (eX.out.mono aO.out.size)).mono ez.out.size)⟩
   |false=>
    have iQ:af (((jy r).drop (k+1)).any g=(jy r).any g):=(by show _=_;rw[←dn.out,kM.out,Cm.out];rfl);go_wp2_with fail;go_round<;>first|exact⟨k+1,_,rfl,by omega,iQ.out,by go_num,eX.out⟩|(simp[intOf]<;>omega)
  ·have xz:k=m:=(by omega);have bd:af ((l.drop (j+1)).any (fun c=>(jy c).any g)=f):=(by show _=_;have av:=dn.out;rw[n2 (by rw[Kf];have:=bM.out;omega)] at av;rw[←ja.out,←av];rfl);subst xz;go_wp2_with fail;go_round<;>first|exact⟨j+1,_,rfl,by omega,bd.out,by go_num,aO.out.trans (aX.out.mono aO.out.size)⟩|(simp[intOf]<;>omega)
 ·have iR:j=n:=(by omega);have c9:af (false=f):=(by show _=_;rw[←df.out,n2 (by rw[←bf.out];omega)];rfl);subst iR;go_wp2_with fail;go_ret;exact⟨ej c9.out,ez.out.trans (aO.out.mono ez.out.size)⟩
abbrev Hm(w0:aeo)(bQ:Nat)(aD aC:Int)(D:Nat)(aW aY:Int)(gg fD:Nat)(ex bI:Int)(Z:aeo):Prop:=
 Z.cell? ⟨bQ,0,none⟩=some (I aD)∧ak Z bQ 1 (I aC)∧ak Z D 0 (I aW)∧ak Z D 1 (I aY)∧ak Z gg fD (I ex)∧ak Z gg (fD+1) (I bI)∧ao w0 w0 Z
theorem ZO{Z:aeo}(ay:ao v v Z)(h:Hm w0 bQ aD aC D aW aY gg fD ex bI v):Hm w0 bQ aD aC D aW aY gg fD ex bI Z:=
 ⟨bP ay h.1,bP ay h.2.1,bP ay h.2.2.1,bP ay h.2.2.2.1,bP ay h.2.2.2.2.1,bP ay h.2.2.2.2.2.1,h.2.2.2.2.2.2.trans (ay.mono h.2.2.2.2.2.2.size)⟩
theorem ZP(h:Hm w0 bQ aD aC D aW aY gg fD ex bI v):Hm w0 bQ aD aC D aW aY gg fD ex bI v.drew:=ZO (Below.refl _ _).drew h
theorem akZ(S:afp)(b:bK)(aT:hU b)(p:Ja)(l:List (List bK))(n c:Nat)(hn:n=l.length)(aA:∀c∈l,∀q∈c,hU q)(w:aeo)(H:af (iC S w p l))(f:Bool)(hf:af (JG b l=f)):
  Calls Tryz.prog 273 #[l1 b,ad p n c] w fun e w'=>e=ab (U f)∧ao w w w':=by
 have n9:n≤1000000000:=by rw[hn];exact H.out.1
 have bf:=aq hn;have dT:=aq aA;have oV:=aq aT;obtain⟨g,ba⟩:∃g:bK×bK→Bool,(fun e=>vL b e.1 e.2)=g:=⟨_,rfl⟩;have e0:=aq ba;have l2:af ((l.drop 0).foldl (fun i c=>(jy c).foldl (fun i e=>if g e=true then !i else i) i) false=f):=by show _=_;rw[←ba];exact hf.out
 clear hf hn aA aT ba;obtain⟨aD,aC⟩:=b;go_enter Tryz.func273,Tryz.ntmps273;go_wp2_with fail;have ez:af (ao w w (w.alloc (eZ (aD,aC)))):=jE _ _;have cc:af ((w.alloc (eZ (aD,aC))).heap[w.heap.size]?=some (eZ (aD,aC))):=cd _ _;generalize w.alloc (eZ (aD,aC))=W at ez cc⊢
 go_loopw [5,12] (fun SC i wr=>∃(j:Nat) (wj:Bool) (aK:aeo),aK=wr∧j≤n∧af ((l.drop j).foldl (fun i c=>(jy c).foldl (fun i e=>if g e=true then !i else i) i) wj=f)∧SC=U wj∧i=I j∧af (ao W W aK)) (fun _ i _=>n -(intOf i).toNat)
 case atStart=>exact⟨0,false,_,rfl,eE _,l2.out,rfl,rfl,Below.refl _ _⟩
 case round=>
 obtain⟨j,wj,aK,rfl,cr,df,rfl,rfl,aO⟩:=hrel;by_cases b1:j<n
 ·have fL:j<l.length:=(by rw[←bf.out];exact b1);have i':(j:Int)<(n:Int):=(by omega);obtain⟨r,hr⟩:=ar (l[j]);obtain⟨fC,o,q,nz,rfl,p2,_,mq⟩:=(H.out.below (ez.out.trans (aO.out.mono ez.out.size))).at fL hr;have bN:=aq mq;have rV:r.length≤1000000000:=mq.1;have bq:af (∀q∈r,hU q):=(by intro q aH;exact dT.out r (by rw[←hr];exact mu _) q aH);have ja:af ((l.drop (j+1)).foldl (fun i c=>(jy c).foldl (fun i e=>if g e=true then !i else i) i) ((jy r).foldl (fun i e=>if g e=true then !i else i) wj)=f):=(by show _=_;rw[←df.out,lT fL,hr];rfl);obtain⟨m,hm⟩:=ar r.length;have bM:=aq hm;rw[hm] at p2 rV;clear mq hr df hm;go_wp2_with fail
  go_loopw [5,18] (fun SC i gy=>∃(k:Nat) (jF:Bool) (cD:aeo),cD=gy∧k≤m∧af (((jy r).drop k).foldl (fun i e=>if g e=true then !i else i) jF=(jy r).foldl (fun i e=>if g e=true then !i else i) wj)∧SC=U jF∧i=I k∧af (ao aK aK cD)) (fun _ i _=>m -(intOf i).toNat)
  case atStart=>exact⟨0,wj,_,rfl,eE _,rfl,rfl,rfl,Below.refl _ _⟩
  case round=>
  obtain⟨k,jF,cD,rfl,ax,dn,rfl,rfl,aX⟩:=hrel;by_cases iE:k<m
  ·have qz:k<r.length:=(by rw[bM.out];exact iE);have NW:(k:Int)<(m:Int):=(by omega);obtain⟨a7,fT⟩:=ar ((k+1)%m);have SA:a7<m:=(by rw[←fT];exact Nat.mod_lt _ (by omega));have El:a7<r.length:=(by rw[bM.out];exact SA);obtain⟨z,bn⟩:=ar (r[k]);obtain⟨z2,dq⟩:=ar (r[a7]);have r5:=aq (bq.out z (by rw[←bn];exact mu _));have SB:=aq (bq.out z2 (by rw[←dq];exact mu _));obtain⟨nA,l3,rfl,s0,s1⟩:=(bN.out.below aX.out).at qz bn;obtain⟨Em,En,p9,u0,u1⟩:=(bN.out.below aX.out).at El dq;obtain⟨rfl,rfl⟩:Em=nA∧En=l3:=(by injection p9 with av;injection av with av az;exact⟨av.symm,az.symm⟩);have kM:af (((jy r).drop k).foldl (fun i e=>if g e=true then !i else i) jF=((jy r).drop (k+1)).foldl (fun i e=>if g e=true then !i else i) (if g (z,z2)=true then !jF else jF)):=(by show _=_;rw[lT (by rw[Kf];exact qz),ZK r k qz (by rw[bM.out,fT,←bM.out];exact El)];have:r[(k+1)%r.length]'(by rw[bM.out,fT,←bM.out];exact El)=z2:=(by rw[←dq];congr 1;rw[bM.out,fT]);rw[this,bn];rfl);clear bn dq p9;obtain⟨gz,gA⟩:=z;obtain⟨ex,bI⟩:=z2;obtain⟨mZ,uL⟩:=ar (g ((gz,gA),(ex,bI)));have Cm:=aq uL;have D':af (vL (aD,aC) (gz,gA) (ex,bI)=mZ):=(by show _=_;rw[←uL,←e0.out]);have oY:ae ((k:Int)+1)=(k:Int)+1:=cX _ (by omega);have s9:¬((m:Int)=0):=(by omega);have Ob:((k:Int)+1).tmod (m:Int)=(a7:Int):=(by rw[ZL (by omega) (by omega),←fT];exact (Int.natCast_emod (k+1) m).symm);have akW:¬m=0:=(by omega);have akX:(0:Int)≤(a7:Int):=(by omega);have akY:(a7:Int)<(m:Int):=(by omega);clear uL fT;obtain⟨a0,bE⟩:=kv (aU (aU cc.out aO.out) aX.out);have dy:=lt_of_heap (aU (aU cc.out aO.out) aX.out);go_upto_region 8 with fail;have fo:af (Hm cD w.heap.size aD aC cD.heap.size gz gA Em (En+a7 *2) ex bI (cD.alloc (eZ (gz,gA)))):=(by obtain⟨cy,cE⟩:=kv (cd cD (eZ (gz,gA)));have ay:=a' cD (eZ (gz,gA));exact⟨bP ay a0,bP ay bE,cy,cE,bP ay u0,bP ay u1,ay⟩);generalize cD.alloc (eZ (gz,gA))=cm at fo⊢;clear a0 bE s0 s1 u0 u1
   go_region_held3 (fun Z=>Hm cD w.heap.size aD aC cD.heap.size gz gA Em (En+a7 *2) ex bI Z) (first|with_reducible exact fo.out|with_reducible exact ZP fo.out|with_reducible exact ZO (by assumption) (by assumption)|with_reducible exact ZP (by assumption)|fail) (first|(go_at_call 308;with_reducible refine (akU (aD,aC) (gz,gA) (ex,bI) oV.out r5.out SB.out mZ D' _).mono ?_;rintro e bt ⟨rfl,dS⟩)|fail)
   rename_i hHeld;have eX:af (ao aK aK bt):=aX.out.trans (hHeld.2.2.2.2.2.2.mono aX.out.size);clear hHeld dS fo;cases mZ with
   |true=>
    have iQ:af (((jy r).drop (k+1)).foldl (fun i e=>if g e=true then !i else i) (!jF)=(jy r).foldl (fun i e=>if g e=true then !i else i) wj):=(by show _=_;rw[←dn.out,kM.out,Cm.out];rfl);go_wp2_with fail;go_round<;>first|exact⟨k+1,!jF,_,rfl,by omega,iQ.out,rfl,by go_num,eX.out⟩|(simp[intOf]<;>omega)
   |false=>
    have iQ:af (((jy r).drop (k+1)).foldl (fun i e=>if g e=true then !i else i) jF=(jy r).foldl (fun i e=>if g e=true then !i else i) wj):=(by show _=_;rw[←dn.out,kM.out,Cm.out];rfl);go_wp2_with fail;go_round<;>first|exact⟨k+1,jF,_,rfl,by omega,iQ.out,rfl,by go_num,eX.out⟩|(simp[intOf]<;>omega)
  ·have xz:k=m:=(by omega);have bd:af ((l.drop (j+1)).foldl (fun i c=>(jy c).foldl (fun i e=>if g e=true then !i else i) i) jF=f):=(by show _=_;have av:=dn.out;rw[n2 (by rw[Kf];have:=bM.out;omega)] at av;rw[←ja.out,←av];rfl);subst xz;go_wp2_with fail;go_round<;>first|exact⟨j+1,jF,_,rfl,by omega,bd.out,rfl,by go_num,aO.out.trans (aX.out.mono aO.out.size)⟩|(simp[intOf]<;>omega)
 ·have iR:j=n:=(by omega);have c9:af (wj=f):=(by show _=_;rw[←df.out,n2 (by rw[←bf.out];omega)];rfl);subst iR;go_wp2_with fail;go_ret;exact⟨ej c9.out,ez.out.trans (aO.out.mono ez.out.size)⟩
theorem ZQ(aD aC aG aE:Int)(he:rH ⟨aD,aC,aG,aE⟩=false):(decide (aD≤aD)&&(decide (aD≤aG)&&(decide (aC≤aC)&&decide (aC≤aE))))=true:=by simp only[rH,Bool.or_eq_false_iff,DT] at he;simp;omega
theorem ak0(S:afp)(b:bO)(aT:hU (b.aD,b.aC))(av:hU (b.aG,b.aE))(he:rH b=false)(p:Ja)(l:List (List bK))(n c:Nat)(hn:n=l.length)(aA:∀c∈l,∀q∈c,hU q)(w:aeo)(H:af (iC S w p l))(k:Int)(ax:af (BY b l=k)):
  Calls Tryz.prog 249 #[h7 b,ad p n c] w fun e w'=>e=ab (I k)∧ao w w w':=by
 have oV:=aq aT;have H1:=aq av;have bm:=aq he;have dT:=aq aA;have bf:=aq hn;obtain⟨fs,Cn⟩:=ar (Ae b l);obtain⟨SD,SE⟩:=ar (JG (b.aD,b.aC) l);have ak1:=aq Cn;have ZR:=aq SE;have dn:af ((if fs=true then (1:Int) else if SD=true then 2 else 0)=k):=by show _=_;rw[←ax.out,←Cn,←SE];rfl
 clear Cn SE ax aT av he aA hn;obtain⟨aD,aC,aG,aE⟩:=b;simp only at ZR;go_enter Tryz.func249,Tryz.ntmps249;go_wp2_with fail;have ez:af (ao w w (w.alloc (cU ⟨aD,aC,aG,aE⟩))):=jE _ _;have cc:af ((w.alloc (cU ⟨aD,aC,aG,aE⟩)).heap[w.heap.size]?=some (cU ⟨aD,aC,aG,aE⟩)):=cd _ _;generalize w.alloc (cU ⟨aD,aC,aG,aE⟩)=W at ez cc⊢;with_reducible refine (akV S ⟨aD,aC,aG,aE⟩ oV.out H1.out bm.out p l n c bf.out dT.out _ (aq (H.out.below ez.out)) fs ak1).mono ?_
 rintro e V ⟨rfl,ay⟩;have b0:af (ao w w V):=ez.out.trans (ay.mono ez.out.size);have jT:=aq (aU cc.out ay);clear ay;obtain⟨a0,bE,a2,a3⟩:=hb jT.out;cases fs with
 |true=>
  go_wp2_with fail;go_ret;exact⟨pA dn.out,b0.out⟩
 |false=>
  go_upto_region 4 with fail;have cP:af (ao V V (V.alloc (eZ (aD,aC)))):=a' _ _;have bN:af ((V.alloc (eZ (aD,aC))).heap[V.heap.size]?=some (eZ (aD,aC))):=cd _ _;generalize V.alloc (eZ (aD,aC))=lF at cP bN⊢;clear a0 bE a2 a3;obtain⟨a0,bE,a2,a3⟩:=hb (aU jT.out cP.out);obtain⟨gf,e8⟩:=kv bN.out;simp only at gf e8;have lx:af (ao w w lF):=b0.out.trans (cP.out.mono b0.out.size);go_wp2_with fail;with_reducible refine (ZI ⟨aD,aC,aG,aE⟩ (aD,aC) true (aq (ZQ aD aC aG aE bm.out)) _).mono ?_
  rintro e th ⟨rfl,ay⟩;have nE:af (ao w w th):=lx.out.trans (ay.mono lx.out.size);have uM:=aq (aU bN.out ay);clear a0 bE a2 a3 gf e8 ay;obtain⟨gf,e8⟩:=kv uM.out;simp only at gf e8;go_wp2_with fail;with_reducible refine (akZ S (aD,aC) oV.out p l n c bf.out dT.out _ (aq (H.out.below nE.out)) SD ZR).mono ?_
  rintro e Oc ⟨rfl,ay⟩;have ZS:af (ao w w Oc):=nE.out.trans (ay.mono nE.out.size);clear gf e8 ay;cases SD with
  |true=>
   go_wp2_with fail;go_ret;exact⟨pA dn.out,ZS.out⟩
  |false=>
   go_wp2_with fail;go_ret;exact⟨pA dn.out,ZS.out⟩
theorem ZT(was cls:Int)(add:Bool)(k:Int)(ax:af (nZ was cls add=k))(w:aeo):Calls Tryz.prog 173 #[I was,I cls,U add] w fun e w'=>e=ab (I k)∧w'=w:=by
 cases add<;>go_enter Tryz.func173,Tryz.ntmps173<;>go_wp2_with fail
 all_goals
  go_ret;refine⟨pA ?_,rfl⟩;have h:=ax.out;unfold nZ at h
  grind
theorem ak2(w:aeo)(o p q:Obj):(((w.alloc o).alloc p).alloc q).heap[w.heap.size+1+1]?=some q:=by rw[←pz w o,←pz (w.alloc o) p];exact cd _ _
theorem ZU(p q:bK)(r:Int)(hp:hU p)(aH:hU q)(hr:0≤r∧r≤4611686018427387904)(b:bO)(ay:af (ml p q r=b))(w:aeo):Calls Tryz.prog 213 #[l1 p,l1 q,I r] w fun e w'=>e=ab (h7 b)∧ao w w w':=by obtain⟨cw,ct⟩:=p;obtain⟨en,eo⟩:=q;unfold hU at hp aH;simp only at hp aH;have bV:ae (min cw en-r)=min cw en-r:=cX _ (by omega);have bY:ae (min ct eo-r)=min ct eo-r:=cX _ (by omega);have dp:ae (max cw en+r)=max cw en+r:=cX _ (by omega);have cA:ae (max ct eo+r)=max ct eo+r:=cX _ (by omega);clear hp aH hr;go_enter Tryz.func213,Tryz.ntmps213;go_wp2_with fail;rw[←ay.out];have key:=ak2 w (eZ (cw,ct)) (eZ (en,eo)) (cU (ml (cw,ct) (en,eo) r));exact dC (pD rfl _ _ (w.heap.size+1+1) _ _ _ _ rfl key Ek rfl (by kernel_rfl)) rfl ⟨rfl,ZG _ _ _ _⟩
abbrev Co(b:Bool):Obj:=.cells #[U b] 4
theorem Hn{k:Nat}{b:Bool}(h:w.heap[k]?=some (Co b)):ak w k 0 (U b)∧∀i,w.frozen? ⟨k,i,none⟩=false:=by refine⟨?_,fun i=>?_⟩<;>simp[World.cell?,World.frozen?,h]
structure zi(w:aeo)(nJ m':Nat)(o:Option bO):Prop where
 a:w.heap[nJ]?=some (cU (o.getD eh))
 f:w.heap[m']?=some (Co o.isSome)
theorem zi.below{w':aeo}{nJ m':Nat}{o:Option bO}(h:zi w nJ m' o)(ay:ao w w w'):zi w' nJ m' o:=⟨aU h.a ay,aU h.f ay⟩
theorem ZV{W:aeo}{nJ m':Nat}{f:Bool}{a:bO}{aD aC aG aE:Int}(ha:W.heap[nJ]?=some (cU a))(hf:W.heap[m']?=some (Co f))(hne:nJ≠m')(ay:ao w w W):
  Ending.returned (.tuple #[])=ab (.tuple #[])∧zi ((iV W nJ 0 [I aD,I aC,I aG,I aE]).setCell (aj m' 0) (U true)) nJ m' (some ⟨aD,aC,aG,aE⟩)∧aQ (fun k=>k≠nJ∧k≠m') w ((iV W nJ 0 [I aD,I aC,I aG,I aE]).setCell (aj m' 0) (U true)):=by
 refine⟨rfl,⟨(mw hne).trans (oU _ ha rfl),dL _ ((xJ (gJ hne) _).trans hf)⟩,?_⟩;exact ((aQ.dI ay).trans (xK (fun h=>h.1 rfl) _)).trans (aQ.set (fun h=>h.2 rfl) _)
theorem Od(nJ m':Nat)(hne:nJ≠m')(o:Option bO)(b:bO)(w:aeo)(H:af (zi w nJ m' o)):Calls Tryz.prog 215 #[h7 b,ah m' 0,ah nJ 0] w fun e w'=>e=ab (.tuple #[])∧zi w' nJ m' (nu o b)∧aQ (fun k=>k≠nJ∧k≠m') w w':=by
 obtain⟨aD,aC,aG,aE⟩:=b;cases o with
 |none=>
  go_enter Tryz.func215,Tryz.ntmps215;go_upto_region 1 with fail;have cc:af ((w.alloc (cU ⟨aD,aC,aG,aE⟩)).heap[w.heap.size]?=some (cU ⟨aD,aC,aG,aE⟩)):=cd _ _;have c9:af (zi (w.alloc (cU ⟨aD,aC,aG,aE⟩)) nJ m' none):=H.out.below (a' _ _);have aO:af (ao w w (w.alloc (cU ⟨aD,aC,aG,aE⟩))):=a' _ _;generalize w.alloc (cU ⟨aD,aC,aG,aE⟩)=W at cc c9 aO⊢;have aP:af (∀i,W.frozen? ⟨m',i,none⟩=false):=(Hn c9.out.f).2;obtain⟨f0,f1⟩:=Hn c9.out.f;obtain⟨a0,bE,a2,a3⟩:=hb cc.out;have g:=cR c9.out.a;obtain⟨eD,a1,a6,ch⟩:=hb (show W.heap[nJ]?=some (cU ⟨0,0,0,0⟩) from c9.out.a);have eI:=lt_of_heap c9.out.a;have fT:=lt_of_heap c9.out.f;go_wp2_with fail;refine bodyPost_end (N9 rfl _ _ _) rfl ?_;exact ZV c9.out.a c9.out.f hne aO.out
 |some a=>
  obtain⟨u0,v0,u1,v1⟩:=a;go_enter Tryz.func215,Tryz.ntmps215;go_upto_region 1 with fail;have cc:af ((w.alloc (cU ⟨aD,aC,aG,aE⟩)).heap[w.heap.size]?=some (cU ⟨aD,aC,aG,aE⟩)):=cd _ _;have c9:af (zi (w.alloc (cU ⟨aD,aC,aG,aE⟩)) nJ m' (some ⟨u0,v0,u1,v1⟩)):=H.out.below (a' _ _);have aO:af (ao w w (w.alloc (cU ⟨aD,aC,aG,aE⟩))):=a' _ _;generalize w.alloc (cU ⟨aD,aC,aG,aE⟩)=W at cc c9 aO⊢;obtain⟨f0,f1⟩:=Hn c9.out.f;obtain⟨a0,bE,a2,a3⟩:=hb cc.out;obtain⟨eD,a1,a6,ch⟩:=hb (show W.heap[nJ]?=some (cU ⟨u0,v0,u1,v1⟩) from c9.out.a);have ak3:=cR cc.out;go_upto_region 3 with fail;have awN:=lt_of_heap H.out.a;have SF:=lt_of_heap H.out.f;obtain⟨cm,gC⟩:=ar (iV W w.heap.size 0 [I (min u0 aD),I (min v0 aC),I (max u1 aG),I (max v1 aE)]);have jT:af (cm.heap[w.heap.size]?=some (cU ⟨min u0 aD,min v0 aC,max u1 aG,max v1 aE⟩)):=(by show _=_;rw[←gC];exact oU _ cc.out rfl);have cP:af (ao w w cm):=(by show Below _ _ _;rw[←gC];exact tf (bx _) _ aO.out);have Oe:af (cm.heap[nJ]?=some (cU ⟨u0,v0,u1,v1⟩)):=(by show _=_;rw[←gC,xJ (by omega)];exact c9.out.a);have SG:af (cm.heap[m']?=some (Co true)):=(by show _=_;rw[←gC,xJ (by omega)];exact c9.out.f);change Code.wp _ _ _ _ (iV W w.heap.size 0 [I (min u0 aD),I (min v0 aC),I (max u1 aG),I (max v1 aE)]);rw[gC];clear gC f0 f1 a0 bE a2 a3 eD a1 a6 ch ak3;obtain⟨f0,f1⟩:=Hn SG.out;obtain⟨a0,bE,a2,a3⟩:=hb jT.out;have g:=cR Oe.out;obtain⟨eD,a1,a6,ch⟩:=hb Oe.out;have eI:=lt_of_heap Oe.out;have fT:=lt_of_heap SG.out;go_wp2_with fail;refine bodyPost_end (N9 rfl _ _ _) rfl ?_;exact ZV Oe.out SG.out hne cP.out
structure xM(w0:aeo)(g:Nat)(cF:ajv)(o:Option bO)(x:aeo):Prop where
 cF:an x g cF dz
 res:x.heap[g+1]?=some (cU eh)
 vN:zi x (g+1+1) (g+1+1+1) o
 aZ:ao w0 w0 x
theorem xM.below{w0:aeo}{g:Nat}{cF:ajv}{o:Option bO}{x y:aeo}(h:xM w0 g cF o x)(ay:ao x x y):xM w0 g cF o y:=
 ⟨aU h.cF ay,aU h.res ay,h.vN.below ay,h.aZ.trans (ay.mono h.aZ.size)⟩
theorem xM.take{g:Nat}{cF:ajv}{o uq:Option bO}{x y:aeo}(h:xM w0 g cF o x)(ba:g=w0.heap.size)(bB:zi y (g+1+1) (g+1+1+1) uq)(ax:aQ (fun k=>k≠g+1+1∧k≠g+1+1+1) x y):xM w0 g cF uq y:=
 ⟨ax.get ⟨by omega,by omega⟩ h.cF,ax.get ⟨by omega,by omega⟩ h.res,bB,h.aZ.trans (ax.below w0.heap.size h.aZ.size (fun k ax=>⟨by omega,by omega⟩))⟩
abbrev Kg(o:Option bO)(c:List bK):Option bO:=c.foldl (fun o p=>nu o (ml p p 0)) o
theorem ak4(S:afp)(aW aY bb bh cx bw r:Int)(l:List (List bK))(pl:Ja)(cl:Nat)(pp:Ja)(cp:Nat)(w:aeo)(aA:∀c∈l,∀q∈c,hU q)(H:af (iC S w pl l))(o:Option bO)(bl:af (l.foldl Kg none=o)):
  Calls Tryz.prog 170 #[.agg #[I 2,I aW,I aY,I bb,I bh,I cx,I bw,I r,ad pl l.length cl,ad pp 0 cp]] w fun e w'=>e=ab (.tuple #[h7 (o.getD eh),U o.isSome])∧ao w w w':=by
 have dT:=aq aA;obtain⟨n,hn⟩:=ar l.length;have n9:n≤1000000000:=by rw[←hn];exact H.out.1
 have bf:=aq hn;rw[hn];have l2:af ((l.drop 0).foldl Kg none=o):=bl.out;clear aA hn bl;go_enter Tryz.func170,Tryz.ntmps170;go_upto_region 13 with fail;obtain⟨W,br⟩:=ar ((((w.alloc (ai (#[I 2,I aW,I aY,I bb,I bh,I cx,I bw,I r,ad pl n cl,ad pp 0 cp]) dz)).alloc (cU eh)).alloc (cU eh)).alloc (Co false));have bM:af (xM w w.heap.size #[I 2,I aW,I aY,I bb,I bh,I cx,I bw,I r,ad pl n cl,ad pp 0 cp] none W):=by obtain⟨av,az,aF,bk,ay⟩:=AA br;exact⟨av,az,⟨aF,bk⟩,ay⟩
 change Code.wp _ _ _ _ ((((w.alloc (ai (#[I 2,I aW,I aY,I bb,I bh,I cx,I bw,I r,ad pl n cl,ad pp 0 cp]) dz)).alloc (cU eh)).alloc (cU eh)).alloc (Co false));rw[br];clear br;obtain⟨g0,g1,g2,g3,g4,g5,g6,g7,g8,g9⟩:=dZ bM.out.cF;go_wp2_with fail
 go_loopw [74] (fun i wr=>∃(j:Nat) (u:Option bO) (aK:aeo),aK=wr∧j≤n∧af ((l.drop j).foldl Kg u=o)∧i=I j∧af (xM w w.heap.size #[I 2,I aW,I aY,I bb,I bh,I cx,I bw,I r,ad pl n cl,ad pp 0 cp] u aK)) (fun i _=>n -(intOf i).toNat)
 case atStart=>exact⟨0,none,_,rfl,eE _,l2.out,rfl,bM.out⟩
 case round=>
 obtain⟨j,u,aK,rfl,cr,df,rfl,aO⟩:=hrel;clear g0 g1 g2 g3 g4 g5 g6 g7 g8 g9 bM;by_cases b1:j<n
 ·have fL:j<l.length:=(by rw[bf.out];exact b1);have i':(j:Int)<(n:Int):=(by omega);obtain⟨q,aH⟩:=ar (l[j]);obtain⟨fC,xN,jr,nz,rfl,Kh,_,mq⟩:=H.out.at fL aH;have p2:=bP aO.out.aZ Kh;clear Kh;have bN:=aq mq;have rV:q.length≤1000000000:=mq.1;have bq:af (∀z∈q,hU z):=(by intro z bn;exact dT.out q (by rw[←aH];exact mu _) z bn);have ja:af ((l.drop (j+1)).foldl Kg (q.foldl (fun o p=>nu o (ml p p 0)) u)=o):=(by show _=_;rw[←df.out,lT fL,aH];rfl);obtain⟨m,hm⟩:=ar q.length;have Ho:=aq hm;rw[hm] at p2 rV;clear mq aH df hm;go_wp2_with fail
  go_loopw [80] (fun i gy=>∃(k:Nat) (v:Option bO) (cD:aeo),cD=gy∧k≤m∧af ((q.drop k).foldl (fun o p=>nu o (ml p p 0)) v=q.foldl (fun o p=>nu o (ml p p 0)) u)∧i=I k∧af (xM w w.heap.size #[I 2,I aW,I aY,I bb,I bh,I cx,I bw,I r,ag fC xN n cl,ad pp 0 cp] v cD)) (fun i _=>m -(intOf i).toNat)
  case atStart=>exact⟨0,u,_,rfl,eE _,rfl,rfl,aO.out⟩
  case round=>
  obtain⟨k,v,cD,rfl,ax,dn,rfl,aX⟩:=hrel;by_cases iE:k<m
  ·have qz:k<q.length:=(by rw[Ho.out];exact iE);have NW:(k:Int)<(m:Int):=(by omega);obtain⟨z,bn⟩:=ar (q[k]);have r5:=aq (bq.out z (by rw[←bn];exact mu _));obtain⟨nA,l3,rfl,s0,s1⟩:=(bN.out.below aX.out.aZ).at qz bn;have kM:af ((q.drop (k+1)).foldl (fun o p=>nu o (ml p p 0)) (nu v (ml z z 0))=q.foldl (fun o p=>nu o (ml p p 0)) u):=(by show _=_;rw[←dn.out,lT qz,bn];rfl);clear bn;obtain⟨gz,gA⟩:=z;obtain⟨ZW,SH⟩:=ar (ml (gz,gA) (gz,gA) 0);have ak5:=aq SH;rw[SH] at kM;clear SH;go_wp2_with fail;have uN:=aq (aX.out.below (a' cD (eZ (gz,gA))));generalize cD.alloc (eZ (gz,gA))=cm at uN⊢;with_reducible refine (ZU (gz,gA) (gz,gA) 0 r5.out r5.out ⟨by decide,by decide⟩ ZW ak5 _).mono ?_
   rintro e dt ⟨rfl,ay⟩;have eX:=aq (uN.out.below ay);clear ay;go_wp2_with fail;with_reducible refine (Od (w.heap.size+1+1) (w.heap.size+1+1+1) (by omega) v ZW _ (aq eX.out.vN)).mono ?_
   rintro e dG ⟨rfl,Ki,r6⟩;have zj:=aq (eX.out.take rfl Ki r6);clear Ki r6 eX uN;go_wp2_with fail;go_round<;>first|exact⟨k+1,_,_,rfl,by omega,kM.out,by go_num,zj.out⟩|(simp[intOf]<;>omega)
  ·have xz:k=m:=(by omega);have bd:af ((l.drop (j+1)).foldl Kg v=o):=(by show _=_;have av:=dn.out;rw[n2 (by have:=Ho.out;omega)] at av;rw[←ja.out,←av];rfl);subst xz;go_wp2_with fail;go_round<;>first|exact⟨j+1,v,_,rfl,by omega,bd.out,by go_num,aX.out⟩|(simp[intOf]<;>omega)
 ·have iR:j=n:=(by omega);have c9:u=o:=(by rw[←df.out,n2 (by have:=bf.out;omega)];rfl);subst iR c9;obtain⟨g0,g1,g2,g3,g4,g5,g6,g7,g8,g9⟩:=dZ aO.out.cF;obtain⟨a0,bE,a2,a3⟩:=hb (show aK.heap[w.heap.size+1+1]?=some (cU ⟨(u.getD eh).aD,(u.getD eh).aC,(u.getD eh).aG,(u.getD eh).aE⟩) from aO.out.vN.a);obtain⟨f0,f1⟩:=Hn aO.out.vN.f;obtain⟨gZ,fM,kO,p5⟩:=hb (show aK.heap[w.heap.size+1]?=some (cU ⟨0,0,0,0⟩) from aO.out.res);have fr:=cR aO.out.res;go_wp2_with fail
  go_loopw [94] (fun i wr=>i=I 0∧wr=aK) (fun _ _=>0)
  case atStart=>exact⟨rfl,rfl⟩
  case round=>
  obtain⟨rfl,rfl⟩:=hrel;go_upto_region 30 with fail;go_region
  all_goals
   go_wp2_with fail;have hr:=oU [I (u.getD eh).aD,I (u.getD eh).aC,I (u.getD eh).aG,I (u.getD eh).aE] (show wr.heap[w.heap.size+1]?=some (.cells #[I 0,I 0,I 0,I 0] 198) from aO.out.res) rfl;have ay:=tf (m:=0) (b:=w.heap.size+1) (nX _) [I (u.getD eh).aD,I (u.getD eh).aC,I (u.getD eh).aG,I (u.getD eh).aE] aO.out.aZ;exact dC (l6 rfl _ _ (w.heap.size+1) _ _ _ _ rfl hr Ek rfl (by kernel_rfl)) rfl ⟨rfl,ay.drew⟩
end c4
