/- Lemmas. -/
import Derived.Test.YtfldplmgkeiimaaGreatDoorQ27
set_option linter.all false
set_option maxRecDepth 100000
set_option maxHeartbeats 12800000
namespace Go.Proofs.YtfldplmgkeiimaaGreatDoor
abbrev Ap:=@Decidable.of_not_not
abbrev ayA:=@List.takeWhile_cons_of_neg
abbrev IU:=@List.takeWhile_cons_of_pos
abbrev V1:=@List.takeWhile_append_dropWhile
abbrev adC:=@List.takeWhile_sublist
abbrev Mp:=@Option.isSome_none
abbrev Mq:=@Option.getD_none
abbrev Mr:=@Option.isSome_some
abbrev Ms:=@Option.getD_some
abbrev IV:=@List.getElem_cons_zero
abbrev Gd:=@List.getElem_cons_succ
namespace jj
open Go.RowKit pH kG qk Mem rG cf
theorem ape(S:aia)(o:Option C)(bl:J (Hf.lookup S.data.toList=o))(w:bTo):
  Calls Tryz.prog 131 #[au S] w (Dp o w):=by
 have aV:J (sL w (w.alloc (aD (#[I 0,I 0,I 0,I 0,ai false,au ⟨#[]⟩,au ⟨#[]⟩,au ⟨#[]⟩,au ⟨#[]⟩,au ⟨#[]⟩,ay 0,ay 0]) 104))):=H5 w;go_enter Tryz.func131,Tryz.ntmps131;go_upto_region 1 with fail;generalize w.alloc (.cells #[I 0,I 0,I 0,I 0,ai false,au ⟨#[]⟩,au ⟨#[]⟩,au ⟨#[]⟩,au ⟨#[]⟩,au ⟨#[]⟩,ay 0,ay 0] 104)=W at aV⊢;by_cases bN:S.data.toList=[77,79,77,77]
 ·have aN:(S.toList==[77,79,77,77])=true:=(by rw[e2];exact eH bN);have a7:J (o=some {b2 9 with n:=1}):=(by show _=_;rw[←bl.out,bN];rfl);clear bl bN;obtain⟨⟨aJ,aI,c2,c3,bF,c5,b1,b5,bS,bf,cy,dq⟩,f0,f1,f2,f3,f4,f5,f6,f7,f8,f9,f10,f11⟩:=dD aV.out.a;go_wp2_with fail;exact rJ (W:=W) a7 rfl (.inl rfl) rfl rfl rfl aV.out rfl rfl
 ·have aN:(S.toList==[77,79,77,77])=false:=(by rw[e2];exact eD bN);by_cases ch:S.data.toList=[77,79,73,78]
  ·have aR:(S.toList==[77,79,73,78])=true:=(by rw[e2];exact eH ch);have a7:J (o=some {b2 9 with n:=2}):=(by show _=_;rw[←bl.out,ch];rfl);clear bl bN ch;obtain⟨⟨aJ,aI,c2,c3,bF,c5,b1,b5,bS,bf,cy,dq⟩,f0,f1,f2,f3,f4,f5,f6,f7,f8,f9,f10,f11⟩:=dD aV.out.a;go_wp2_with fail;exact rJ (W:=W) a7 rfl (.inl rfl) rfl rfl rfl aV.out rfl rfl
  ·have aR:(S.toList==[77,79,73,78])=false:=(by rw[e2];exact eD ch);by_cases ep:S.data.toList=[65,66]
   ·have cA:(S.toList==[65,66])=true:=(by rw[e2];exact eH ep);have a7:J (o=some (b2 12)):=(by show _=_;rw[←bl.out,ep];rfl);clear bl bN ch ep;obtain⟨⟨aJ,aI,c2,c3,bF,c5,b1,b5,bS,bf,cy,dq⟩,f0,f1,f2,f3,f4,f5,f6,f7,f8,f9,f10,f11⟩:=dD aV.out.a;go_wp2_with fail;exact rJ (W:=W) a7 rfl (.inl rfl) rfl rfl rfl aV.out rfl rfl
   ·have cA:(S.toList==[65,66])=false:=(by rw[e2];exact eD ep);by_cases gx:S.data.toList=[83,82]
    ·have hN:(S.toList==[83,82])=true:=(by rw[e2];exact eH gx);have a7:J (o=some (b2 14)):=(by show _=_;rw[←bl.out,gx];rfl);clear bl bN ch ep gx;obtain⟨⟨aJ,aI,c2,c3,bF,c5,b1,b5,bS,bf,cy,dq⟩,f0,f1,f2,f3,f4,f5,f6,f7,f8,f9,f10,f11⟩:=dD aV.out.a;go_wp2_with fail;exact rJ (W:=W) a7 rfl (.inl rfl) rfl rfl rfl aV.out rfl rfl
    ·have hN:(S.toList==[83,82])=false:=(by rw[e2];exact eD gx);by_cases jL:S.data.toList=[76,80,68]
     ·have mC:(S.toList==[76,80,68])=true:=(by rw[e2];exact eH jL);have a7:J (o=some {b2 15 with on:=true}):=(by show _=_;rw[←bl.out,jL];rfl);clear bl bN ch ep gx jL;obtain⟨⟨aJ,aI,c2,c3,bF,c5,b1,b5,bS,bf,cy,dq⟩,f0,f1,f2,f3,f4,f5,f6,f7,f8,f9,f10,f11⟩:=dD aV.out.a;go_wp2_with fail;exact rJ (W:=W) a7 rfl (.inl rfl) rfl rfl rfl aV.out rfl rfl
     ·have mC:(S.toList==[76,80,68])=false:=(by rw[e2];exact eD jL);by_cases fI:S.data.toList=[76,80,67]
      ·have kR:(S.toList==[76,80,67])=true:=(by rw[e2];exact eH fI);have a7:J (o=some (b2 15)):=(by show _=_;rw[←bl.out,fI];rfl);clear bl bN ch ep gx jL fI;obtain⟨⟨aJ,aI,c2,c3,bF,c5,b1,b5,bS,bf,cy,dq⟩,f0,f1,f2,f3,f4,f5,f6,f7,f8,f9,f10,f11⟩:=dD aV.out.a;go_wp2_with fail;exact rJ (W:=W) a7 rfl (.inl rfl) rfl rfl rfl aV.out rfl rfl
      ·have kR:(S.toList==[76,80,67])=false:=(by rw[e2];exact eD fI);by_cases mo:S.data.toList=[76,77,78]
       ·have uV:(S.toList==[76,77,78])=true:=(by rw[e2];exact eH mo);have a7:J (o=some (b2 16)):=(by show _=_;rw[←bl.out,mo];rfl);clear bl bN ch ep gx jL fI mo;obtain⟨⟨aJ,aI,c2,c3,bF,c5,b1,b5,bS,bf,cy,dq⟩,f0,f1,f2,f3,f4,f5,f6,f7,f8,f9,f10,f11⟩:=dD aV.out.a;go_wp2_with fail;exact rJ (W:=W) a7 rfl (.inl rfl) rfl rfl rfl aV.out rfl rfl
       ·have uV:(S.toList==[76,77,78])=false:=(by rw[e2];exact eD mo);by_cases jc:S.data.toList=[76,77,88]
        ·have lD:(S.toList==[76,77,88])=true:=(by rw[e2];exact eH jc);have a7:J (o=some {b2 16 with n:=1}):=(by show _=_;rw[←bl.out,jc];rfl);clear bl bN ch ep gx jL fI mo jc;obtain⟨⟨aJ,aI,c2,c3,bF,c5,b1,b5,bS,bf,cy,dq⟩,f0,f1,f2,f3,f4,f5,f6,f7,f8,f9,f10,f11⟩:=dD aV.out.a;go_wp2_with fail;exact rJ (W:=W) a7 rfl (.inl rfl) rfl rfl rfl aV.out rfl rfl
        ·have lD:(S.toList==[76,77,88])=false:=(by rw[e2];exact eD jc);by_cases pQ:S.data.toList=[76,77,89]
         ·have j8:(S.toList==[76,77,89])=true:=(by rw[e2];exact eH pQ);have a7:J (o=some {b2 16 with n:=2}):=(by show _=_;rw[←bl.out,pQ];rfl);clear bl bN ch ep gx jL fI mo jc pQ;obtain⟨⟨aJ,aI,c2,c3,bF,c5,b1,b5,bS,bf,cy,dq⟩,f0,f1,f2,f3,f4,f5,f6,f7,f8,f9,f10,f11⟩:=dD aV.out.a;go_wp2_with fail;exact rJ (W:=W) a7 rfl (.inl rfl) rfl rfl rfl aV.out rfl rfl
         ·have j8:(S.toList==[76,77,89])=false:=(by rw[e2];exact eD pQ);by_cases yM:S.data.toList=[76,77,88,89]
          ·have tG:(S.toList==[76,77,88,89])=true:=(by rw[e2];exact eH yM);have a7:J (o=some {b2 16 with n:=3}):=(by show _=_;rw[←bl.out,yM];rfl);clear bl bN ch ep gx jL fI mo jc pQ yM;obtain⟨⟨aJ,aI,c2,c3,bF,c5,b1,b5,bS,bf,cy,dq⟩,f0,f1,f2,f3,f4,f5,f6,f7,f8,f9,f10,f11⟩:=dD aV.out.a;go_wp2_with fail;exact rJ (W:=W) a7 rfl (.inl rfl) rfl rfl rfl aV.out rfl rfl
          ·have tG:(S.toList==[76,77,88,89])=false:=(by rw[e2];exact eD yM);have a7:J (o=none):=(by show _=_;rw[←bl.out];simp[Hf,List.lookup_cons,beq_eq_false_iff_ne.2 bN,beq_eq_false_iff_ne.2 ch,beq_eq_false_iff_ne.2 ep,beq_eq_false_iff_ne.2 gx,beq_eq_false_iff_ne.2 jL,beq_eq_false_iff_ne.2 fI,beq_eq_false_iff_ne.2 mo,beq_eq_false_iff_ne.2 jc,beq_eq_false_iff_ne.2 pQ,beq_eq_false_iff_ne.2 yM]);clear bl bN ch ep gx jL fI mo jc pQ yM;obtain⟨⟨aJ,aI,c2,c3,bF,c5,b1,b5,bS,bf,cy,dq⟩,f0,f1,f2,f3,f4,f5,f6,f7,f8,f9,f10,f11⟩:=dD aV.out.a;go_wp2_with fail;exact nh (W:=W) cf.aJ a7 rfl (.inl rfl) rfl rfl rfl aV.out rfl rfl
theorem apf(S:aia)(hs:S.size≤1000000000)(o:Option C)(bl:J (N' S.data.toList=o))(w:bTo):
  Calls Tryz.prog 134 #[au S] w (Dp o w):=by
 have cF:=U hs;have aj:=bl.out;unfold N' at aj;clear bl hs;have aV:J (sL w (w.alloc (aD (#[I 0,I 0,I 0,I 0,ai false,au ⟨#[]⟩,au ⟨#[]⟩,au ⟨#[]⟩,au ⟨#[]⟩,au ⟨#[]⟩,ay 0,ay 0]) 104))):=H5 w;go_enter Tryz.func134,Tryz.ntmps134;go_upto_region 1 with fail;generalize w.alloc (.cells #[I 0,I 0,I 0,I 0,ai false,au ⟨#[]⟩,au ⟨#[]⟩,au ⟨#[]⟩,au ⟨#[]⟩,au ⟨#[]⟩,ay 0,ay 0] 104)=W at aV⊢;by_cases bZ:S.data.toList.headD 0≠68
 ·rw[aT bZ] at aj;have a7:J (o=none):=aj.symm;have bL:J (∀r,S.data.toList≠(⟨#[68]⟩:aia).data.toList++r):=fun r hr=>bZ (by rw[hr];rfl);clear aj bZ;go_wp2_with fail;go_fit (Dk _ _ bL _);rintro e cr ⟨rfl,rfl⟩;obtain⟨⟨aJ,aI,c2,c3,bF,c5,b1,b5,bS,bf,cy,dq⟩,f0,f1,f2,f3,f4,f5,f6,f7,f8,f9,f10,f11⟩:=dD aV.out.a;go_wp2_with fail;exact nh (W:=W) cf.aJ a7 rfl (.inl rfl) rfl rfl rfl aV.out rfl rfl
 ·rw[aK bZ] at aj
  obtain⟨r,hr⟩:∃r,S.data.toList=68::r:=by
   cases hS:S.data.toList with
   |nil=>exact absurd (by rw[hS];decide) bZ
   |cons a r=>exact⟨r,by rw[hS] at bZ;rw[show a=68 from Ap bZ]⟩
  obtain⟨T,fh⟩:=kz r;rw[←fh] at hr;rw[hr,Bv,uW] at aj;have bL:J (S.data.toList=(⟨#[68]⟩:aia).data.toList++T.data.toList):=hr;have dF:J (T.size≤maxLen):=(by show T.size≤_;have aa:=gb List.length hr;rw[fK,cR,cR] at aa;have:=cF.out;unfold maxLen;omega);obtain⟨Mn,Gc⟩:=az (wv T.data.toList);have VZ:=U Gc;rw[Gc] at aj;clear Gc bZ hr fh;go_wp2_with fail;go_fit (qn _ _ _ bL _);rintro e cr ⟨rfl,rfl⟩;rw[qm];go_wp2_with fail;go_fit (Ux T dF.out _ VZ _);rintro e dJ ⟨hc,rfl⟩;cases Mn with
  |some n=>
   have a7:J (o=some {b2 11 with n:=n}):=aj.symm;obtain rfl:e=bb (.tuple #[I ((n:Nat):Int),ai true]):=hc;clear aj;obtain⟨⟨aJ,aI,c2,c3,bF,c5,b1,b5,bS,bf,cy,dq⟩,f0,f1,f2,f3,f4,f5,f6,f7,f8,f9,f10,f11⟩:=dD aV.out.a;go_wp2_with fail;exact rJ (W:=W) a7 rfl (.inl rfl) rfl rfl rfl aV.out rfl rfl
  |none=>
   have a7:J (o=none):=aj.symm;obtain rfl:e=bb (.tuple #[I ((0:Nat):Int),ai false]):=hc;clear aj;obtain⟨⟨aJ,aI,c2,c3,bF,c5,b1,b5,bS,bf,cy,dq⟩,f0,f1,f2,f3,f4,f5,f6,f7,f8,f9,f10,f11⟩:=dD aV.out.a;go_wp2_with fail;exact nh (W:=W) (b2 11) a7 rfl (.inl rfl) rfl rfl rfl aV.out rfl rfl
variable{l:bk}{c:UInt8}
theorem apg(h:(l.takeWhile (· !=c)).length<l.length):Lib.indexByte l c=((l.takeWhile (· !=c)).length:Int):=by
 induction l with
 |nil=>exact absurd h (nz _)
 |cons b l dc=>
  unfold Lib.indexByte;by_cases af:b=c
  ·rw[aT (by rw[af];simp),ayA (by simp[af])];rfl
  ·rw[IU (by simp[af])] at h⊢;have ah:=dc (BC h);rw[aK (by simp[af]),ah,aK (by simp)];simp
theorem aph(h:¬(l.takeWhile (· !=c)).length<l.length):Lib.indexByte l c= -1:=by
 induction l with
 |nil=>rfl
 |cons b l dc=>
  unfold Lib.indexByte;by_cases af:b=c
  ·exfalso;apply h;rw[ayA (by simp[af])];simp
  ·rw[IU (by simp[af])] at h;have ah:=dc (fun ax=>h (Nat.succ_lt_succ ax));rw[aK (by simp[af]),ah];rfl
theorem api(c:UInt8)(l:bk):(eT c l).1=l.takeWhile (· !=c):=by
 unfold eT;split
 ·rfl
 ·rename_i h;have aa:=V1 (p:=(· !=c)) (l:=l);have ah:=gb List.length aa;rw[gh] at ah;have ax:l.dropWhile (· !=c)=[]:=qz (by omega);rw[ax,List.append_nil] at aa;exact aa.symm
theorem apj(c:UInt8)(l:bk):l.take (l.takeWhile (· !=c)).length=l.takeWhile (· !=c):=by
 have aa:=V1 (p:=(· !=c)) (l:=l)
 conv=>lhs;rw[←aa]
 rw[V1]
 conv=>lhs;arg 2;rw[←aa]
 rw[List.take_left]
theorem apk(S:aia)(hs:S.size≤1000000000)(c:UInt8)(A R:aia)(b:Bool)(h:J (eT c S.data.toList=(A.data.toList,R.data.toList,b)))(w:bTo):
  Calls Tryz.prog 218 #[au S,au ⟨#[c]⟩] w fun e w'=>e=bb (.tuple #[au A,au R,ai b])∧H0 w w':=by
 have aF:=h.out;unfold eT at aF;clear h;by_cases ab:(S.data.toList.takeWhile (· !=c)).length<S.data.toList.length
 ·rw[aT ab] at aF;have hi:=apg ab;have bH:=apj c S.data.toList;obtain⟨k,qe⟩:=az ((S.data.toList.takeWhile (· !=c)).length);rw[qe] at aF hi ab bH;rw[cR] at ab;simp only[gA] at aF;obtain⟨aa,ah,rfl⟩:=aF;have b8:J (A=S.extract 0 k):=(by show A=_;refine ml ?_;rw[Di,bH,aa]);have br:J (R=S.extract (k+1) S.size):=(by show R=_;refine ml ?_;rw[nd,ah]);have bY:=U hi;clear aa ah hi bH qe;go_enter Tryz.func218,Tryz.ntmps218;go_wp2_with fail;go_fit (Tryz.stringslite_Index_one S c _);rintro e cr ⟨rfl,rfl⟩;rw[bY.out];go_wp2_with fail;go_region
  all_goals
   go_wp2_with fail;go_ret3;rw[b8.out,br.out];exact⟨by simp,1,rfl⟩
 ·rw[aK ab] at aF;have bY:J (Lib.indexByte S.data.toList c= -1):=aph ab;simp only[gA] at aF;obtain⟨aa,ah,rfl⟩:=aF;obtain rfl:A=S:=ml aa.symm;obtain rfl:R=⟨#[]⟩:=ml ah.symm;clear aa ah ab;go_enter Tryz.func218,Tryz.ntmps218;go_wp2_with fail;go_fit (Tryz.stringslite_Index_one A c _);rintro e cr ⟨rfl,rfl⟩;rw[bY.out];go_wp2_with fail;go_ret3;exact⟨rfl,0,rfl⟩
theorem IW(S:aia)(hs:S.size≤1000000000)(c:UInt8)(A R:aia)(b:Bool)(h:J (eT c S.data.toList=(A.data.toList,R.data.toList,b)))(w:bTo):
  Calls Tryz.prog 177 #[au S,au ⟨#[c]⟩] w fun e w'=>e=bb (.tuple #[au A,au R,ai b])∧H0 w w':=by
 have cF:=U hs;clear hs;go_enter Tryz.func177,Tryz.ntmps177;go_wp2_with fail;go_fit (apk S cF.out c A R b h _);rintro e cr ⟨rfl,hd⟩;have cI:=U hd;clear hd;go_wp2_with fail;go_ret3;exact⟨rfl,cI.out⟩
theorem IX(c:UInt8)(l:bk):(eT c l).1.length≤l.length:=by rw[api];exact (adC _).length_le
theorem IY(c:UInt8)(l:bk):(eT c l).2.1.length≤l.length:=by
 unfold eT;split
 ·rw[gZ];omega
 ·exact eC _
theorem apl(S:aia)(hs:S.size≤1000000000)(o:Option C)(bl:J (cf.stepG S.data.toList=o))(w:bTo):
  Calls Tryz.prog 135 #[au S] w (Dp o w):=by
 have cF:=U hs;have aj:=bl.out;unfold cf.stepG at aj;clear bl hs;have aV:J (sL w (w.alloc (aD (#[I 0,I 0,I 0,I 0,ai false,au ⟨#[]⟩,au ⟨#[]⟩,au ⟨#[]⟩,au ⟨#[]⟩,au ⟨#[]⟩,ay 0,ay 0]) 104))):=H5 w;go_enter Tryz.func135,Tryz.ntmps135;go_upto_region 1 with fail;generalize w.alloc (.cells #[I 0,I 0,I 0,I 0,ai false,au ⟨#[]⟩,au ⟨#[]⟩,au ⟨#[]⟩,au ⟨#[]⟩,au ⟨#[]⟩,ay 0,ay 0] 104)=W at aV⊢;by_cases bZ:S.data.toList.headD 0≠88
 ·rw[aT bZ] at aj;have a7:J (o=none):=aj.symm;have bL:J (∀r,S.data.toList≠(⟨#[88]⟩:aia).data.toList++r):=fun r hr=>bZ (by rw[hr];rfl);clear aj bZ;go_wp2_with fail;go_fit (Dk _ _ bL _);rintro e cr ⟨rfl,rfl⟩;obtain⟨⟨aJ,aI,c2,c3,bF,c5,b1,b5,bS,bf,cy,dq⟩,f0,f1,f2,f3,f4,f5,f6,f7,f8,f9,f10,f11⟩:=dD aV.out.a;go_wp2_with fail;exact nh (W:=W) cf.aJ a7 rfl (.inl rfl) rfl rfl rfl aV.out rfl rfl
 ·rw[aK bZ] at aj
  obtain⟨r,hr⟩:∃r,S.data.toList=88::r:=by
   cases hS:S.data.toList with
   |nil=>exact absurd (by rw[hS];decide) bZ
   |cons a r=>exact⟨r,by rw[hS] at bZ;rw[show a=88 from Ap bZ]⟩
  obtain⟨T,fh⟩:=kz r;rw[←fh] at hr;rw[hr,Bv,uW] at aj;have bL:J (S.data.toList=(⟨#[88]⟩:aia).data.toList++T.data.toList):=hr;have Mt:T.size≤1000000000:=(by have aa:=gb List.length hr;rw[fK,cR,cR] at aa;have:=cF.out;omega);obtain⟨gO,hA1⟩:=kz (eT 89 T.data.toList).1;obtain⟨R1,qc⟩:=kz (eT 89 T.data.toList).2.1;obtain⟨b3,e5⟩:=az ((eT 89 T.data.toList).2.2);have H1:J (eT 89 T.data.toList=(gO.data.toList,R1.data.toList,b3)):=(by show _=_;rw[hA1,qc,←e5]);have ij:gO.size≤1000000000∧R1.size≤1000000000:=(by have aa:=IX 89 T.data.toList;have ah:=IY 89 T.data.toList;rw[←hA1,cR,cR] at aa;rw[←qc,cR,cR] at ah;omega);rw[←hA1,←qc] at aj;clear hA1 qc e5;have Dq:J (gO.size≤1000000000∧R1.size≤1000000000):=ij;obtain⟨iv,hA2⟩:=kz (eT 73 R1.data.toList).1;obtain⟨hI,nf⟩:=kz (eT 73 R1.data.toList).2.1;obtain⟨bc,eb⟩:=az ((eT 73 R1.data.toList).2.2);have b9:J (eT 73 R1.data.toList=(iv.data.toList,hI.data.toList,bc)):=(by show _=_;rw[hA2,nf,←eb]);have gV:iv.size≤1000000000∧hI.size≤1000000000:=(by have aa:=IX 73 R1.data.toList;have ah:=IY 73 R1.data.toList;rw[←hA2,cR,cR] at aa;rw[←nf,cR,cR] at ah;omega);rw[←hA2,←nf] at aj;clear hA2 nf eb;have eW:J (iv.size≤1000000000∧hI.size≤1000000000):=gV;obtain⟨lW,hA3⟩:=kz (eT 74 hI.data.toList).1;obtain⟨rK,zN⟩:=kz (eT 74 hI.data.toList).2.1;obtain⟨ev,e6⟩:=az ((eT 74 hI.data.toList).2.2);have cS:J (eT 74 hI.data.toList=(lW.data.toList,rK.data.toList,ev)):=(by show _=_;rw[hA3,zN,←e6]);have Bz:lW.size≤1000000000∧rK.size≤1000000000:=(by have aa:=IX 74 hI.data.toList;have ah:=IY 74 hI.data.toList;rw[←hA3,cR,cR] at aa;rw[←zN,cR,cR] at ah;omega);rw[←hA3,←zN] at aj;clear hA3 zN e6;have ld:J (lW.size≤1000000000∧rK.size≤1000000000):=Bz;obtain⟨dt,iI⟩:=az (Ez gO.data.toList);obtain⟨cE,ir⟩:=az (Ez iv.data.toList);obtain⟨ft,V2⟩:=az (dec lW.data.toList);obtain⟨gr,IZ⟩:=az (dec rK.data.toList);rw[iI,ir,V2,IZ] at aj;have xG:=U iI;have pe:=U ir;have Fl:J ((dec lW.data.toList).getD 0=ft.getD 0∧(dec lW.data.toList).isSome=ft.isSome):=(by show _∧_;rw[V2];exact⟨rfl,rfl⟩);have V3:J ((dec rK.data.toList).getD 0=gr.getD 0∧(dec rK.data.toList).isSome=gr.isSome):=(by show _∧_;rw[IZ];exact⟨rfl,rfl⟩);have pv:=U aj;have sC:=U Mt;clear iI ir V2 IZ aj Mt ij gV Bz hr fh bZ;go_wp2_with fail;go_fit (qn _ _ _ bL _);rintro e cr ⟨rfl,rfl⟩;rw[qm];go_wp2_with fail;go_fit (IW T sC.out 89 gO R1 b3 H1 _);rintro e dJ ⟨rfl,hd⟩;have mB:=U (aV.out.below (mn hd));clear hd aV;have aV:=mB;clear mB;go_wp2_with fail;go_fit (IW R1 Dq.out.2 73 iv hI bc b9 _);rintro e cb ⟨rfl,hd⟩;have fc:=U (aV.out.below (mn hd));clear hd aV;have aV:=fc;clear fc;go_wp2_with fail;go_fit (IW hI eW.out.2 74 lW rK ev cS _);rintro e bt ⟨rfl,hd⟩;have zy:=U (aV.out.below (mn hd));clear hd aV;have aV:=zy;clear zy;go_wp2_with fail;go_fit (K' gO (dX Dq.out.1 (by decide)) dt xG _);rintro e cX ⟨he,rfl⟩;unfold Ls at he;subst he;go_wp2_with fail;go_fit (K' iv (dX eW.out.1 (by decide)) cE pe _);rintro e cX ⟨he,rfl⟩;unfold Ls at he;subst he;go_wp2_with fail;go_fit (PQ lW _ _ Fl (dX ld.out.1 (by decide)) _);rintro e cX ⟨rfl,rfl⟩;go_wp2_with fail;go_fit (PQ rK _ _ V3 (dX ld.out.2 (by decide)) _);rintro e cX ⟨rfl,rfl⟩;cases dt with
  |none=>
   have a7:J (o=none):=pv.out.symm;clear pv;simp only[Mp,Mq];obtain⟨⟨aJ,aI,c2,c3,bF,c5,b1,b5,bS,bf,cy,dq⟩,f0,f1,f2,f3,f4,f5,f6,f7,f8,f9,f10,f11⟩:=dD aV.out.a;go_wp2_with fail;exact nh (W:=bt) cf.aJ a7 rfl (.inl rfl) rfl rfl rfl aV.out rfl rfl
  |some v1=>
   cases cE with
   |none=>
    have a7:J (o=none):=pv.out.symm;clear pv;simp only[Mp,Mq,Mr,Ms];obtain⟨⟨aJ,aI,c2,c3,bF,c5,b1,b5,bS,bf,cy,dq⟩,f0,f1,f2,f3,f4,f5,f6,f7,f8,f9,f10,f11⟩:=dD aV.out.a;go_wp2_with fail;exact nh (W:=bt) cf.aJ a7 rfl (.inl rfl) rfl rfl rfl aV.out rfl rfl
   |some v2=>
    cases ft with
    |none=>
     have a7:J (o=none):=pv.out.symm;clear pv;simp only[Mp,Mq,Mr,Ms];obtain⟨⟨aJ,aI,c2,c3,bF,c5,b1,b5,bS,bf,cy,dq⟩,f0,f1,f2,f3,f4,f5,f6,f7,f8,f9,f10,f11⟩:=dD aV.out.a;go_wp2_with fail;exact nh (W:=bt) cf.aJ a7 rfl (.inl rfl) rfl rfl rfl aV.out rfl rfl
    |some v3=>
     cases gr with
     |none=>
      have a7:J (o=none):=pv.out.symm;clear pv;simp only[Mp,Mq,Mr,Ms];obtain⟨⟨aJ,aI,c2,c3,bF,c5,b1,b5,bS,bf,cy,dq⟩,f0,f1,f2,f3,f4,f5,f6,f7,f8,f9,f10,f11⟩:=dD aV.out.a;go_wp2_with fail;exact nh (W:=bt) cf.aJ a7 rfl (.inl rfl) rfl rfl rfl aV.out rfl rfl
     |some v4=>
      have a7:J (o=some {b2 13 with n:=(v1:Int),m:=(v2:Int),cj:=[v3,v4]}):=pv.out.symm;clear pv;simp only[Mr,Ms];have a1:J (fa bt.heap.size (bt.alloc (aD (#[I v3,I v4]) 2)) (some (ag bt.heap.size 0)) [v3,v4]):=by intro _;refine⟨bt.heap.size,0,_,rfl,bD _,gi bt _,fun i hi=>?_⟩;have ah:i<2:=hi;have ax:i=0∨i=1:=(by omega);rcases ax with rfl|rfl<;>rfl
      have yN:J (sL w (bt.alloc (aD (#[I v3,I v4]) 2))):=aV.out.below ((Below.refl _ _).alloc (bD _) _);have rE:J (w.heap.size<bt.heap.size):=(Array.getElem?_eq_some_iff.1 aV.out.a).1;clear aV;obtain⟨⟨aJ,aI,c2,c3,bF,c5,b1,b5,bS,bf,cy,dq⟩,f0,f1,f2,f3,f4,f5,f6,f7,f8,f9,f10,f11⟩:=dD yN.out.a;have gw:=U ((al3 rE.out a1.out {b2 13 with n:=(v1:Int),m:=(v2:Int),cj:=[v3,v4]} 0 (bG bt.heap.size 0 2 2) cc).mono (CY rE.out));go_wp2_with fail;exact nS {b2 13 with n:=(v1:Int),m:=(v2:Int),cj:=[v3,v4]} (ad (some (ag bt.heap.size 0)) 2 2) rfl (.inl rfl) rfl rfl yN.out.a yN.out.b fun af=>⟨af,{b2 13 with n:=(v1:Int),m:=(v2:Int),cj:=[v3,v4]},_,2,by rw[a7.out];rfl,gw.out,rfl,by rw[a7.out];intro e he;exact (C7 he).symm⟩
theorem QC{k:Nat}(ab:k<256)(h:c≠UInt8.ofNat k):((c.toNat:Int) !=(k:Int))=true:=by rw[bne,H2 ab h];rfl
theorem apm(S:aia)(hs:S.size≤1000000000)(o:Option C)(bl:J (N8 S.data.toList=o))(w:bTo):
  Calls Tryz.prog 132 #[au S] w (Dp o w):=by
 have cF:=U hs;have aj:=bl.out;unfold N8 at aj;rw[cR] at aj;clear bl hs;have aV:J (sL w (w.alloc (aD (#[I 0,I 0,I 0,I 0,ai false,au ⟨#[]⟩,au ⟨#[]⟩,au ⟨#[]⟩,au ⟨#[]⟩,au ⟨#[]⟩,ay 0,ay 0]) 104))):=H5 w;go_enter Tryz.func132,Tryz.ntmps132;go_upto_region 1 with fail;generalize w.alloc (.cells #[I 0,I 0,I 0,I 0,ai false,au ⟨#[]⟩,au ⟨#[]⟩,au ⟨#[]⟩,au ⟨#[]⟩,au ⟨#[]⟩,ay 0,ay 0] 104)=W at aV⊢;by_cases eO:S.size≠8
 ·rw[aT (.inl eO)] at aj;have a7:J (o=none):=aj.symm;have V4:((S.size:Int) !=8)=true:=(by simp;omega);clear aj eO
  go_quiet (fail)
  generalize gU:W.drewN _=ct;have fc:=U (aV.out.below (mn ⟨_,gU.symm⟩));clear gU aV;have aV:=fc;clear fc;obtain⟨⟨aJ,aI,c2,c3,bF,c5,b1,b5,bS,bf,cy,dq⟩,f0,f1,f2,f3,f4,f5,f6,f7,f8,f9,f10,f11⟩:=dD aV.out.a;go_wp2_with fail;exact nh (W:=ct) cf.aJ a7 rfl (.inl rfl) rfl rfl rfl aV.out rfl rfl
 ·have V4:S.size=8:=Ap eO;have Yx:((S.size:Int) !=8)=false:=(by simp;omega);have QD:S.data.toList.length=8:=by rw[cR];exact V4
  obtain⟨d0,d1,d2,d3,d4,d5,d6,d7,hS⟩:∃d0 d1 d2 d3 d4 d5 d6 d7,S.data.toList=[d0,d1,d2,d3,d4,d5,d6,d7]:=by
   match aC:S.data.toList,QD with
   |[d0,d1,d2,d3,d4,d5,d6,d7],_=>exact⟨_,_,_,_,_,_,_,_,rfl⟩
  have g0:S[0]'(by omega)=d0:=(by have h:=oq S 0 (by omega);rw[←h];simp[hS]);have g1:S[1]'(by omega)=d1:=(by have h:=oq S 1 (by omega);rw[←h];simp[hS]);have g2:S[2]'(by omega)=d2:=(by have h:=oq S 2 (by omega);rw[←h];simp[hS]);have g3:S[3]'(by omega)=d3:=(by have h:=oq S 3 (by omega);rw[←h];simp[hS]);have g4:S[4]'(by omega)=d4:=(by have h:=oq S 4 (by omega);rw[←h];simp[hS]);have g5:S[5]'(by omega)=d5:=(by have h:=oq S 5 (by omega);rw[←h];simp[hS]);have g6:S[6]'(by omega)=d6:=(by have h:=oq S 6 (by omega);rw[←h];simp[hS]);have g7:S[7]'(by omega)=d7:=(by have h:=oq S 7 (by omega);rw[←h];simp[hS]);have QE:(S.extract 1 3).data.toList=[d1,d2]:=(by rw[abd,hS];rfl);have QF:(S.extract 3 5).data.toList=[d3,d4]:=(by rw[abd,hS];rfl);have QG:(S.extract 6 S.size).data.toList=[d6,d7]:=(by rw[nd,hS];rfl);have adD:(S.extract 3 S.size).data.toList=[d3,d4,d5,d6,d7]:=(by rw[nd,hS];rfl);have mi:J ((S.extract 3 S.size).size≤maxLen):=(by show _≤_;rw[←cR,adD];show 5≤maxLen;decide);obtain⟨n,hn⟩:=az (bC (S.extract 3 S.size).data.toList);have ot:=U hn;rw[adD] at hn;have bx:(8:Int)≤(S.size:Int):=(by omega);clear V4 QD;by_cases e8:d0≠76∧d0≠84
  ·have er:((d0.toNat:Int) !=76)=true:=QC (k:=76) (by decide) e8.1;have ee:((d0.toNat:Int) !=84)=true:=QC (k:=84) (by decide) e8.2;rw[aT (.inr (.inl (by rw[hS];exact e8)))] at aj;have a7:J (o=none):=aj.symm;clear aj
   go_quiet (first|(go_at_call 176;exact ra ((mG (S.extract 3 S.size) mi.out n ot _).mono fun _ _ h=>⟨h.1,h.2.symm⟩)))
   generalize gU:W.drewN _=ct;have fc:=U (aV.out.below (mn ⟨_,gU.symm⟩));clear gU aV;have aV:=fc;clear fc;obtain⟨⟨aJ,aI,c2,c3,bF,c5,b1,b5,bS,bf,cy,dq⟩,f0,f1,f2,f3,f4,f5,f6,f7,f8,f9,f10,f11⟩:=dD aV.out.a;go_wp2_with fail;exact nh (W:=ct) cf.aJ a7 rfl (.inl rfl) rfl rfl rfl aV.out rfl rfl
  ·obtain rfl|rfl:d0=76∨d0=84:=by by_cases h:d0=76<;>by_cases ah:d0=84<;>simp_all
   ·have eK:((76:UInt8).toNat:Int)=76:=rfl;by_cases bN: [d1,d2]≠[65,88]
    ·have zk:((S.extract 1 3).toList==[65,88])=false:=(by rw[e2,QE];exact eD bN);rw[aT (.inr (.inr (.inl (by rw[hS];exact bN))))] at aj;have a7:J (o=none):=aj.symm;clear aj
     go_quiet (first|(go_at_call 176;exact ra ((mG (S.extract 3 S.size) mi.out n ot _).mono fun _ _ h=>⟨h.1,h.2.symm⟩)))
     generalize gU:W.drewN _=ct;have fc:=U (aV.out.below (mn ⟨_,gU.symm⟩));clear gU aV;have aV:=fc;clear fc;obtain⟨⟨aJ,aI,c2,c3,bF,c5,b1,b5,bS,bf,cy,dq⟩,f0,f1,f2,f3,f4,f5,f6,f7,f8,f9,f10,f11⟩:=dD aV.out.a;go_wp2_with fail;exact nh (W:=ct) cf.aJ a7 rfl (.inl rfl) rfl rfl rfl aV.out rfl rfl
    ·have zk:((S.extract 1 3).toList==[65,88])=true:=(by rw[e2,QE];exact eH (Ap bN));by_cases ch:n≠2
     ·have zl:((n:Int) !=2)=true:=(by simp;omega);rw[aT (.inr (.inr (.inr (.inl (by rw[hS];show bC [d3,d4,d5,d6,d7]≠2;rw[hn];exact ch)))))] at aj;have a7:J (o=none):=aj.symm;clear aj
      go_quiet (first|(go_at_call 176;exact ra ((mG (S.extract 3 S.size) mi.out n ot _).mono fun _ _ h=>⟨h.1,h.2.symm⟩)))
      generalize gU:W.drewN _=ct;have fc:=U (aV.out.below (mn ⟨_,gU.symm⟩));clear gU aV;have aV:=fc;clear fc;obtain⟨⟨aJ,aI,c2,c3,bF,c5,b1,b5,bS,bf,cy,dq⟩,f0,f1,f2,f3,f4,f5,f6,f7,f8,f9,f10,f11⟩:=dD aV.out.a;go_wp2_with fail;exact nh (W:=ct) cf.aJ a7 rfl (.inl rfl) rfl rfl rfl aV.out rfl rfl
     ·have zl:((n:Int) !=2)=false:=(by simp;omega);by_cases ep:d5≠89
      ·have AM:((d5.toNat:Int) !=89)=true:=QC (k:=89) (by decide) ep;rw[aT (.inr (.inr (.inr (.inr (.inl (by rw[hS];exact ep))))))] at aj;have a7:J (o=none):=aj.symm;clear aj
       go_quiet (first|(go_at_call 176;exact ra ((mG (S.extract 3 S.size) mi.out n ot _).mono fun _ _ h=>⟨h.1,h.2.symm⟩)))
       generalize gU:W.drewN _=ct;have fc:=U (aV.out.below (mn ⟨_,gU.symm⟩));clear gU aV;have aV:=fc;clear fc;obtain⟨⟨aJ,aI,c2,c3,bF,c5,b1,b5,bS,bf,cy,dq⟩,f0,f1,f2,f3,f4,f5,f6,f7,f8,f9,f10,f11⟩:=dD aV.out.a;go_wp2_with fail;exact nh (W:=ct) cf.aJ a7 rfl (.inl rfl) rfl rfl rfl aV.out rfl rfl
      ·obtain rfl:d5=89:=Ap ep;have AM:((89:UInt8).toNat:Int)=89:=rfl;by_cases gx: [d6,d7]≠[d3,d4]
       ·have lv:((S.extract 6 S.size).toList==(S.extract 3 5).toList)=false:=(by rw[oY,oY,QG,QF,kO];exact gx);rw[aT (.inr (.inr (.inr (.inr (.inr (by rw[hS];exact gx))))))] at aj;have a7:J (o=none):=aj.symm;clear aj
        go_quiet (first|(go_at_call 176;exact ra ((mG (S.extract 3 S.size) mi.out n ot _).mono fun _ _ h=>⟨h.1,h.2.symm⟩)))
        generalize gU:W.drewN _=ct;have fc:=U (aV.out.below (mn ⟨_,gU.symm⟩));clear gU aV;have aV:=fc;clear fc;obtain⟨⟨aJ,aI,c2,c3,bF,c5,b1,b5,bS,bf,cy,dq⟩,f0,f1,f2,f3,f4,f5,f6,f7,f8,f9,f10,f11⟩:=dD aV.out.a;go_wp2_with fail;exact nh (W:=ct) cf.aJ a7 rfl (.inl rfl) rfl rfl rfl aV.out rfl rfl
       ·have lv:((S.extract 6 S.size).toList==(S.extract 3 5).toList)=true:=by rw[oY,oY,QG,QF,tC];exact Ap gx
        rw [aK (by
         rw[hS];rintro (h|h|h|h|h|h)
         ·exact eO h
         ·exact e8 h
         ·exact bN h
         ·exact absurd (show bC [d3,d4,89,d6,d7]≠2 from h) (by rw[hn];exact ch)
         ·exact h rfl
         ·exact gx h)] at aj
        have a7:J (o=some {b2 8 with on:=false,n:=(d3.toNat:Int)-48,m:=(d4.toNat:Int)-48}):=(by show _=_;rw[←aj,hS];rfl);have hd:=(za [d3,d4,89,d6,d7]).1;rw[hn] at hd;have qv:=(q7 _).1 (hd 0 (by simp) (by omega));have Mu:=(q7 _).1 (hd 1 (by simp) (by omega));simp only[IV,Gd] at qv Mu;obtain⟨V5,V6⟩:=qv;obtain⟨V7,V8⟩:=Mu;obtain⟨mL,xa⟩:=az (d3.toNat:Int);obtain⟨yx,I0⟩:=az (d4.toNat:Int);have apn:48≤mL:=(by omega);have apo:mL≤57:=(by omega);have apq:48≤yx:=(by omega);have apr:yx≤57:=(by omega);clear aj hd V5 V6 V7 V8;rw[xa,I0] at a7
        go_quiet (first|(go_at_call 176;exact ra ((mG (S.extract 3 S.size) mi.out n ot _).mono fun _ _ h=>⟨h.1,h.2.symm⟩)))
        generalize gU:W.drewN _=ct;have fc:=U (aV.out.below (mn ⟨_,gU.symm⟩));clear gU aV;have aV:=fc;clear fc;go_upto_region 3 with fail;obtain⟨⟨aJ,aI,c2,c3,bF,c5,b1,b5,bS,bf,cy,dq⟩,f0,f1,f2,f3,f4,f5,f6,f7,f8,f9,f10,f11⟩:=dD aV.out.a;go_region
        all_goals
         clear aJ aI c2 c3 bF c5 b1 b5 bS bf cy dq f0 f1 f2 f3 f4 f5 f6 f7 f8 f9 f10 f11;go_wp2_with fail;exact rJ (W:=ct) a7 rfl (.inr rfl) rfl rfl rfl aV.out rfl rfl
   ·have eK:((84:UInt8).toNat:Int)=84:=rfl;by_cases bN: [d1,d2]≠[65,88]
    ·have zk:((S.extract 1 3).toList==[65,88])=false:=(by rw[e2,QE];exact eD bN);rw[aT (.inr (.inr (.inl (by rw[hS];exact bN))))] at aj;have a7:J (o=none):=aj.symm;clear aj
     go_quiet (first|(go_at_call 176;exact ra ((mG (S.extract 3 S.size) mi.out n ot _).mono fun _ _ h=>⟨h.1,h.2.symm⟩)))
     generalize gU:W.drewN _=ct;have fc:=U (aV.out.below (mn ⟨_,gU.symm⟩));clear gU aV;have aV:=fc;clear fc;obtain⟨⟨aJ,aI,c2,c3,bF,c5,b1,b5,bS,bf,cy,dq⟩,f0,f1,f2,f3,f4,f5,f6,f7,f8,f9,f10,f11⟩:=dD aV.out.a;go_wp2_with fail;exact nh (W:=ct) cf.aJ a7 rfl (.inl rfl) rfl rfl rfl aV.out rfl rfl
    ·have zk:((S.extract 1 3).toList==[65,88])=true:=(by rw[e2,QE];exact eH (Ap bN));by_cases ch:n≠2
     ·have zl:((n:Int) !=2)=true:=(by simp;omega);rw[aT (.inr (.inr (.inr (.inl (by rw[hS];show bC [d3,d4,d5,d6,d7]≠2;rw[hn];exact ch)))))] at aj;have a7:J (o=none):=aj.symm;clear aj
      go_quiet (first|(go_at_call 176;exact ra ((mG (S.extract 3 S.size) mi.out n ot _).mono fun _ _ h=>⟨h.1,h.2.symm⟩)))
      generalize gU:W.drewN _=ct;have fc:=U (aV.out.below (mn ⟨_,gU.symm⟩));clear gU aV;have aV:=fc;clear fc;obtain⟨⟨aJ,aI,c2,c3,bF,c5,b1,b5,bS,bf,cy,dq⟩,f0,f1,f2,f3,f4,f5,f6,f7,f8,f9,f10,f11⟩:=dD aV.out.a;go_wp2_with fail;exact nh (W:=ct) cf.aJ a7 rfl (.inl rfl) rfl rfl rfl aV.out rfl rfl
     ·have zl:((n:Int) !=2)=false:=(by simp;omega);by_cases ep:d5≠89
      ·have AM:((d5.toNat:Int) !=89)=true:=QC (k:=89) (by decide) ep;rw[aT (.inr (.inr (.inr (.inr (.inl (by rw[hS];exact ep))))))] at aj;have a7:J (o=none):=aj.symm;clear aj
       go_quiet (first|(go_at_call 176;exact ra ((mG (S.extract 3 S.size) mi.out n ot _).mono fun _ _ h=>⟨h.1,h.2.symm⟩)))
       generalize gU:W.drewN _=ct;have fc:=U (aV.out.below (mn ⟨_,gU.symm⟩));clear gU aV;have aV:=fc;clear fc;obtain⟨⟨aJ,aI,c2,c3,bF,c5,b1,b5,bS,bf,cy,dq⟩,f0,f1,f2,f3,f4,f5,f6,f7,f8,f9,f10,f11⟩:=dD aV.out.a;go_wp2_with fail;exact nh (W:=ct) cf.aJ a7 rfl (.inl rfl) rfl rfl rfl aV.out rfl rfl
      ·obtain rfl:d5=89:=Ap ep;have AM:((89:UInt8).toNat:Int)=89:=rfl;by_cases gx: [d6,d7]≠[d3,d4]
       ·have lv:((S.extract 6 S.size).toList==(S.extract 3 5).toList)=false:=(by rw[oY,oY,QG,QF,kO];exact gx);rw[aT (.inr (.inr (.inr (.inr (.inr (by rw[hS];exact gx))))))] at aj;have a7:J (o=none):=aj.symm;clear aj
        go_quiet (first|(go_at_call 176;exact ra ((mG (S.extract 3 S.size) mi.out n ot _).mono fun _ _ h=>⟨h.1,h.2.symm⟩)))
        generalize gU:W.drewN _=ct;have fc:=U (aV.out.below (mn ⟨_,gU.symm⟩));clear gU aV;have aV:=fc;clear fc;obtain⟨⟨aJ,aI,c2,c3,bF,c5,b1,b5,bS,bf,cy,dq⟩,f0,f1,f2,f3,f4,f5,f6,f7,f8,f9,f10,f11⟩:=dD aV.out.a;go_wp2_with fail;exact nh (W:=ct) cf.aJ a7 rfl (.inl rfl) rfl rfl rfl aV.out rfl rfl
       ·have lv:((S.extract 6 S.size).toList==(S.extract 3 5).toList)=true:=by rw[oY,oY,QG,QF,tC];exact Ap gx
        rw [aK (by
         rw[hS];rintro (h|h|h|h|h|h)
         ·exact eO h
         ·exact e8 h
         ·exact bN h
         ·exact absurd (show bC [d3,d4,89,d6,d7]≠2 from h) (by rw[hn];exact ch)
         ·exact h rfl
         ·exact gx h)] at aj
        have a7:J (o=some {b2 8 with on:=true,n:=(d3.toNat:Int)-48,m:=(d4.toNat:Int)-48}):=(by show _=_;rw[←aj,hS];rfl);have hd:=(za [d3,d4,89,d6,d7]).1;rw[hn] at hd;have qv:=(q7 _).1 (hd 0 (by simp) (by omega));have Mu:=(q7 _).1 (hd 1 (by simp) (by omega));simp only[IV,Gd] at qv Mu;obtain⟨V5,V6⟩:=qv;obtain⟨V7,V8⟩:=Mu;obtain⟨mL,xa⟩:=az (d3.toNat:Int);obtain⟨yx,I0⟩:=az (d4.toNat:Int);have apn:48≤mL:=(by omega);have apo:mL≤57:=(by omega);have apq:48≤yx:=(by omega);have apr:yx≤57:=(by omega);clear aj hd V5 V6 V7 V8;rw[xa,I0] at a7
        go_quiet (first|(go_at_call 176;exact ra ((mG (S.extract 3 S.size) mi.out n ot _).mono fun _ _ h=>⟨h.1,h.2.symm⟩)))
        generalize gU:W.drewN _=ct;have fc:=U (aV.out.below (mn ⟨_,gU.symm⟩));clear gU aV;have aV:=fc;clear fc;go_upto_region 3 with fail;obtain⟨⟨aJ,aI,c2,c3,bF,c5,b1,b5,bS,bf,cy,dq⟩,f0,f1,f2,f3,f4,f5,f6,f7,f8,f9,f10,f11⟩:=dD aV.out.a;go_region
        all_goals
         clear aJ aI c2 c3 bF c5 b1 b5 bS bf cy dq f0 f1 f2 f3 f4 f5 f6 f7 f8 f9 f10 f11;go_wp2_with fail;exact rJ (W:=ct) a7 rfl (.inr rfl) rfl rfl rfl aV.out rfl rfl
end jj
