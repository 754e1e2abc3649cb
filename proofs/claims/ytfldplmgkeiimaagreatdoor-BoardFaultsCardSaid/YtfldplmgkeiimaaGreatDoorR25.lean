/- Lemmas. -/
import Derived.Test.YtfldplmgkeiimaaGreatDoorR24
set_option linter.all false
set_option maxRecDepth 100000
set_option maxHeartbeats 12800000
namespace Go.Proofs.YtfldplmgkeiimaaGreatDoor
abbrev y8:=@Decidable.of_not_not
abbrev G3:=@List.takeWhile_cons_of_neg
abbrev TZ:=@List.takeWhile_append_dropWhile
abbrev aa4:=@List.takeWhile_sublist
abbrev Kt:=@Option.isSome_none
abbrev Ku:=@Option.getD_none
abbrev Kv:=@Option.isSome_some
abbrev G4:=@Option.getD_some
abbrev G5:=@List.getElem_cons_zero
namespace iS
open Go.RowKit kR ig n1 Mem pN ct
theorem amg(S:Ua)(o:Option C)(bm:af (FK.lookup S.data.toList=o))(w:aeo):
  Calls Tryz.prog 131 #[aa S] w (yf o w):=by
 have aV:af (nH w (w.alloc (ai (#[I 0,I 0,I 0,I 0,U false,aa ⟨#[]⟩,aa ⟨#[]⟩,aa ⟨#[]⟩,aa ⟨#[]⟩,aa ⟨#[]⟩,J 0,J 0]) 104))):=A' w;go_enter Tryz.func131,Tryz.ntmps131;go_upto_region 1 with fail;generalize w.alloc (.cells #[I 0,I 0,I 0,I 0,U false,aa ⟨#[]⟩,aa ⟨#[]⟩,aa ⟨#[]⟩,aa ⟨#[]⟩,aa ⟨#[]⟩,J 0,J 0] 104)=W at aV⊢;by_cases b1:S.data.toList=[77,79,77,77]
 ·have a7:(S.toList==[77,79,77,77])=true:=(by rw[eG];exact eL b1);have a':af (o=some {cI 9 with n:=1}):=(by show _=_;rw[←bm.out,b1];rfl);clear bm b1;obtain⟨⟨aQ,aN,aJ,c3,bF,c5,bZ,b',bU,bg,cH,dR⟩,f0,f1,f2,f3,f4,f5,f6,f7,f8,f9,f10,f11⟩:=di aV.out.a;go_wp2_with fail;exact qN (W:=W) a' rfl (.inl rfl) rfl rfl rfl aV.out rfl rfl
 ·have a7:(S.toList==[77,79,77,77])=false:=(by rw[eG];exact ey b1);by_cases cw:S.data.toList=[77,79,73,78]
  ·have bf:(S.toList==[77,79,73,78])=true:=(by rw[eG];exact eL cw);have a':af (o=some {cI 9 with n:=2}):=(by show _=_;rw[←bm.out,cw];rfl);clear bm b1 cw;obtain⟨⟨aQ,aN,aJ,c3,bF,c5,bZ,b',bU,bg,cH,dR⟩,f0,f1,f2,f3,f4,f5,f6,f7,f8,f9,f10,f11⟩:=di aV.out.a;go_wp2_with fail;exact qN (W:=W) a' rfl (.inl rfl) rfl rfl rfl aV.out rfl rfl
  ·have bf:(S.toList==[77,79,73,78])=false:=(by rw[eG];exact ey cw);by_cases ei:S.data.toList=[65,66]
   ·have cM:(S.toList==[65,66])=true:=(by rw[eG];exact eL ei);have a':af (o=some (cI 12)):=(by show _=_;rw[←bm.out,ei];rfl);clear bm b1 cw ei;obtain⟨⟨aQ,aN,aJ,c3,bF,c5,bZ,b',bU,bg,cH,dR⟩,f0,f1,f2,f3,f4,f5,f6,f7,f8,f9,f10,f11⟩:=di aV.out.a;go_wp2_with fail;exact qN (W:=W) a' rfl (.inl rfl) rfl rfl rfl aV.out rfl rfl
   ·have cM:(S.toList==[65,66])=false:=(by rw[eG];exact ey ei);by_cases gZ:S.data.toList=[83,82]
    ·have hO:(S.toList==[83,82])=true:=(by rw[eG];exact eL gZ);have a':af (o=some (cI 14)):=(by show _=_;rw[←bm.out,gZ];rfl);clear bm b1 cw ei gZ;obtain⟨⟨aQ,aN,aJ,c3,bF,c5,bZ,b',bU,bg,cH,dR⟩,f0,f1,f2,f3,f4,f5,f6,f7,f8,f9,f10,f11⟩:=di aV.out.a;go_wp2_with fail;exact qN (W:=W) a' rfl (.inl rfl) rfl rfl rfl aV.out rfl rfl
    ·have hO:(S.toList==[83,82])=false:=(by rw[eG];exact ey gZ);by_cases kO:S.data.toList=[76,80,68]
     ·have nN:(S.toList==[76,80,68])=true:=(by rw[eG];exact eL kO);have a':af (o=some {cI 15 with on:=true}):=(by show _=_;rw[←bm.out,kO];rfl);clear bm b1 cw ei gZ kO;obtain⟨⟨aQ,aN,aJ,c3,bF,c5,bZ,b',bU,bg,cH,dR⟩,f0,f1,f2,f3,f4,f5,f6,f7,f8,f9,f10,f11⟩:=di aV.out.a;go_wp2_with fail;exact qN (W:=W) a' rfl (.inl rfl) rfl rfl rfl aV.out rfl rfl
     ·have nN:(S.toList==[76,80,68])=false:=(by rw[eG];exact ey kO);by_cases gn:S.data.toList=[76,80,67]
      ·have jW:(S.toList==[76,80,67])=true:=(by rw[eG];exact eL gn);have a':af (o=some (cI 15)):=(by show _=_;rw[←bm.out,gn];rfl);clear bm b1 cw ei gZ kO gn;obtain⟨⟨aQ,aN,aJ,c3,bF,c5,bZ,b',bU,bg,cH,dR⟩,f0,f1,f2,f3,f4,f5,f6,f7,f8,f9,f10,f11⟩:=di aV.out.a;go_wp2_with fail;exact qN (W:=W) a' rfl (.inl rfl) rfl rfl rfl aV.out rfl rfl
      ·have jW:(S.toList==[76,80,67])=false:=(by rw[eG];exact ey gn);by_cases oG:S.data.toList=[76,77,78]
       ·have iO:(S.toList==[76,77,78])=true:=(by rw[eG];exact eL oG);have a':af (o=some (cI 16)):=(by show _=_;rw[←bm.out,oG];rfl);clear bm b1 cw ei gZ kO gn oG;obtain⟨⟨aQ,aN,aJ,c3,bF,c5,bZ,b',bU,bg,cH,dR⟩,f0,f1,f2,f3,f4,f5,f6,f7,f8,f9,f10,f11⟩:=di aV.out.a;go_wp2_with fail;exact qN (W:=W) a' rfl (.inl rfl) rfl rfl rfl aV.out rfl rfl
       ·have iO:(S.toList==[76,77,78])=false:=(by rw[eG];exact ey oG);by_cases j1:S.data.toList=[76,77,88]
        ·have iP:(S.toList==[76,77,88])=true:=(by rw[eG];exact eL j1);have a':af (o=some {cI 16 with n:=1}):=(by show _=_;rw[←bm.out,j1];rfl);clear bm b1 cw ei gZ kO gn oG j1;obtain⟨⟨aQ,aN,aJ,c3,bF,c5,bZ,b',bU,bg,cH,dR⟩,f0,f1,f2,f3,f4,f5,f6,f7,f8,f9,f10,f11⟩:=di aV.out.a;go_wp2_with fail;exact qN (W:=W) a' rfl (.inl rfl) rfl rfl rfl aV.out rfl rfl
        ·have iP:(S.toList==[76,77,88])=false:=(by rw[eG];exact ey j1);by_cases s6:S.data.toList=[76,77,89]
         ·have nj:(S.toList==[76,77,89])=true:=(by rw[eG];exact eL s6);have a':af (o=some {cI 16 with n:=2}):=(by show _=_;rw[←bm.out,s6];rfl);clear bm b1 cw ei gZ kO gn oG j1 s6;obtain⟨⟨aQ,aN,aJ,c3,bF,c5,bZ,b',bU,bg,cH,dR⟩,f0,f1,f2,f3,f4,f5,f6,f7,f8,f9,f10,f11⟩:=di aV.out.a;go_wp2_with fail;exact qN (W:=W) a' rfl (.inl rfl) rfl rfl rfl aV.out rfl rfl
         ·have nj:(S.toList==[76,77,89])=false:=(by rw[eG];exact ey s6);by_cases C0:S.data.toList=[76,77,88,89]
          ·have sF:(S.toList==[76,77,88,89])=true:=(by rw[eG];exact eL C0);have a':af (o=some {cI 16 with n:=3}):=(by show _=_;rw[←bm.out,C0];rfl);clear bm b1 cw ei gZ kO gn oG j1 s6 C0;obtain⟨⟨aQ,aN,aJ,c3,bF,c5,bZ,b',bU,bg,cH,dR⟩,f0,f1,f2,f3,f4,f5,f6,f7,f8,f9,f10,f11⟩:=di aV.out.a;go_wp2_with fail;exact qN (W:=W) a' rfl (.inl rfl) rfl rfl rfl aV.out rfl rfl
          ·have sF:(S.toList==[76,77,88,89])=false:=(by rw[eG];exact ey C0);have a':af (o=none):=(by show _=_;rw[←bm.out];simp[FK,List.lookup_cons,beq_eq_false_iff_ne.2 b1,beq_eq_false_iff_ne.2 cw,beq_eq_false_iff_ne.2 ei,beq_eq_false_iff_ne.2 gZ,beq_eq_false_iff_ne.2 kO,beq_eq_false_iff_ne.2 gn,beq_eq_false_iff_ne.2 oG,beq_eq_false_iff_ne.2 j1,beq_eq_false_iff_ne.2 s6,beq_eq_false_iff_ne.2 C0]);clear bm b1 cw ei gZ kO gn oG j1 s6 C0;obtain⟨⟨aQ,aN,aJ,c3,bF,c5,bZ,b',bU,bg,cH,dR⟩,f0,f1,f2,f3,f4,f5,f6,f7,f8,f9,f10,f11⟩:=di aV.out.a;go_wp2_with fail;exact mL (W:=W) ct.aQ a' rfl (.inl rfl) rfl rfl rfl aV.out rfl rfl
theorem amh(S:Ua)(hs:S.size≤1000000000)(o:Option C)(bm:af (MZ S.data.toList=o))(w:aeo):
  Calls Tryz.prog 134 #[aa S] w (yf o w):=by
 have db:=aq hs;have aA:=bm.out;unfold MZ at aA;clear bm hs;have aV:af (nH w (w.alloc (ai (#[I 0,I 0,I 0,I 0,U false,aa ⟨#[]⟩,aa ⟨#[]⟩,aa ⟨#[]⟩,aa ⟨#[]⟩,aa ⟨#[]⟩,J 0,J 0]) 104))):=A' w;go_enter Tryz.func134,Tryz.ntmps134;go_upto_region 1 with fail;generalize w.alloc (.cells #[I 0,I 0,I 0,I 0,U false,aa ⟨#[]⟩,aa ⟨#[]⟩,aa ⟨#[]⟩,aa ⟨#[]⟩,aa ⟨#[]⟩,J 0,J 0] 104)=W at aV⊢;by_cases b2:S.data.toList.headD 0≠68
 ·rw[bb b2] at aA;have a':af (o=none):=aA.symm;have bT:af (∀r,S.data.toList≠(⟨#[68]⟩:Ua).data.toList++r):=fun r hr=>b2 (by rw[hr];rfl);clear aA b2;go_wp2_with fail;with_reducible refine (BS _ _ bT _).mono ?_
  rintro e b9 ⟨rfl,rfl⟩;obtain⟨⟨aQ,aN,aJ,c3,bF,c5,bZ,b',bU,bg,cH,dR⟩,f0,f1,f2,f3,f4,f5,f6,f7,f8,f9,f10,f11⟩:=di aV.out.a;go_wp2_with fail;exact mL (W:=W) ct.aQ a' rfl (.inl rfl) rfl rfl rfl aV.out rfl rfl
 ·rw[aW b2] at aA
  obtain⟨r,hr⟩:∃r,S.data.toList=68::r:=by
   cases hS:S.data.toList with
   |nil=>exact absurd (by rw[hS];decide) b2
   |cons a r=>exact⟨r,by rw[hS] at b2;rw[show a=68 from y8 b2]⟩
  obtain⟨T,fC⟩:=jQ r;rw[←fC] at hr;rw[hr,uP,tu] at aA;have bT:af (S.data.toList=(⟨#[68]⟩:Ua).data.toList++T.data.toList):=hr;have dr:af (T.size≤maxLen):=(by show T.size≤_;have av:=fp List.length hr;rw[fY,cb,cb] at av;have:=db.out;unfold maxLen;omega);obtain⟨Kr,Et⟩:=ar (vb T.data.toList);have TX:=aq Et;rw[Et] at aA;clear Et b2 hr fC;go_wp2_with fail;with_reducible refine (pF _ _ _ bT _).mono ?_
  rintro e b9 ⟨rfl,rfl⟩;rw[n5];go_wp2_with fail;with_reducible refine (SR T dr.out _ TX _).mono ?_
  rintro e dP ⟨hc,rfl⟩;cases Kr with
  |some n=>
   have a':af (o=some {cI 11 with n:=n}):=aA.symm;obtain rfl:e=ab (.tuple #[I ((n:Nat):Int),U true]):=hc;clear aA;obtain⟨⟨aQ,aN,aJ,c3,bF,c5,bZ,b',bU,bg,cH,dR⟩,f0,f1,f2,f3,f4,f5,f6,f7,f8,f9,f10,f11⟩:=di aV.out.a;go_wp2_with fail;exact qN (W:=W) a' rfl (.inl rfl) rfl rfl rfl aV.out rfl rfl
  |none=>
   have a':af (o=none):=aA.symm;obtain rfl:e=ab (.tuple #[I ((0:Nat):Int),U false]):=hc;clear aA;obtain⟨⟨aQ,aN,aJ,c3,bF,c5,bZ,b',bU,bg,cH,dR⟩,f0,f1,f2,f3,f4,f5,f6,f7,f8,f9,f10,f11⟩:=di aV.out.a;go_wp2_with fail;exact mL (W:=W) (cI 11) a' rfl (.inl rfl) rfl rfl rfl aV.out rfl rfl
variable{l:au}{c:UInt8}
theorem ami(h:(l.takeWhile (· !=c)).length<l.length):Lib.indexByte l c=((l.takeWhile (· !=c)).length:Int):=by
 induction l with
 |nil=>exact absurd h (mA _)
 |cons b l cO=>
  unfold Lib.indexByte;by_cases ax:b=c
  ·rw[bb (by rw[ax];simp),G3 (by simp[ax])];rfl
  ·rw[CV (by simp[ax])] at h⊢;have az:=cO (Aj h);rw[aW (by simp[ax]),az,aW (by simp)];simp
theorem amj(h:¬(l.takeWhile (· !=c)).length<l.length):Lib.indexByte l c= -1:=by
 induction l with
 |nil=>rfl
 |cons b l cO=>
  unfold Lib.indexByte;by_cases ax:b=c
  ·exfalso;apply h;rw[G3 (by simp[ax])];simp
  ·rw[CV (by simp[ax])] at h;have az:=cO (fun aC=>h (Nat.succ_lt_succ aC));rw[aW (by simp[ax]),az];rfl
theorem amk(c:UInt8)(l:au):(eE c l).1=l.takeWhile (· !=c):=by
 unfold eE;split
 ·rfl
 ·rename_i h;have av:=TZ (p:=(· !=c)) (l:=l);have az:=fp List.length av;rw[iv] at az;have aC:l.dropWhile (· !=c)=[]:=mT (by omega);rw[aC,List.append_nil] at av;exact av.symm
theorem aml(c:UInt8)(l:au):l.take (l.takeWhile (· !=c)).length=l.takeWhile (· !=c):=by
 have av:=TZ (p:=(· !=c)) (l:=l)
 conv=>lhs;rw[←av]
 rw[TZ]
 conv=>lhs;arg 2;rw[←av]
 rw[List.take_left]
theorem amm(S:Ua)(hs:S.size≤1000000000)(c:UInt8)(A R:Ua)(b:Bool)(h:af (eE c S.data.toList=(A.data.toList,R.data.toList,b)))(w:aeo):
  Calls Tryz.prog 218 #[aa S,aa ⟨#[c]⟩] w fun e w'=>e=ab (.tuple #[aa A,aa R,U b])∧sh w w':=by
 have aK:=h.out;unfold eE at aK;clear h;by_cases ay:(S.data.toList.takeWhile (· !=c)).length<S.data.toList.length
 ·rw[bb ay] at aK;have hi:=ami ay;have bE:=aml c S.data.toList;obtain⟨k,vQ⟩:=ar ((S.data.toList.takeWhile (· !=c)).length);rw[vQ] at aK hi ay bE;rw[cb] at ay;simp only[gh] at aK;obtain⟨av,az,rfl⟩:=aK;have cy:af (A=S.extract 0 k):=(by show A=_;refine hY ?_;rw[BR,bE,av]);have bw:af (R=S.extract (k+1) S.size):=(by show R=_;refine hY ?_;rw[jP,az]);have b8:=aq hi;clear av az hi bE vQ;go_enter Tryz.func218,Tryz.ntmps218;go_wp2_with fail;with_reducible refine (Tryz.stringslite_Index_one S c _).mono ?_
  rintro e b9 ⟨rfl,rfl⟩;rw[b8.out];go_wp2_with fail;go_region
  all_goals
   go_wp2_with fail;go_ret3;rw[cy.out,bw.out];exact⟨by simp,1,rfl⟩
 ·rw[aW ay] at aK;have b8:af (Lib.indexByte S.data.toList c= -1):=amj ay;simp only[gh] at aK;obtain⟨av,az,rfl⟩:=aK;obtain rfl:A=S:=hY av.symm;obtain rfl:R=⟨#[]⟩:=hY az.symm;clear av az ay;go_enter Tryz.func218,Tryz.ntmps218;go_wp2_with fail;with_reducible refine (Tryz.stringslite_Index_one A c _).mono ?_
  rintro e b9 ⟨rfl,rfl⟩;rw[b8.out];go_wp2_with fail;go_ret3;exact⟨rfl,0,rfl⟩
theorem G6(S:Ua)(hs:S.size≤1000000000)(c:UInt8)(A R:Ua)(b:Bool)(h:af (eE c S.data.toList=(A.data.toList,R.data.toList,b)))(w:aeo):
  Calls Tryz.prog 177 #[aa S,aa ⟨#[c]⟩] w fun e w'=>e=ab (.tuple #[aa A,aa R,U b])∧sh w w':=by
 have db:=aq hs;clear hs;go_enter Tryz.func177,Tryz.ntmps177;go_wp2_with fail;with_reducible refine (amm S db.out c A R b h _).mono ?_
 rintro e b9 ⟨rfl,hd⟩;have cF:=aq hd;clear hd;go_wp2_with fail;go_ret3;exact⟨rfl,cF.out⟩
theorem G7(c:UInt8)(l:au):(eE c l).1.length≤l.length:=by rw[amk];exact (aa4 _).length_le
theorem G8(c:UInt8)(l:au):(eE c l).2.1.length≤l.length:=by
 unfold eE;split
 ·rw[fH];omega
 ·exact dO _
theorem amn(S:Ua)(hs:S.size≤1000000000)(o:Option C)(bm:af (ct.stepG S.data.toList=o))(w:aeo):
  Calls Tryz.prog 135 #[aa S] w (yf o w):=by
 have db:=aq hs;have aA:=bm.out;unfold ct.stepG at aA;clear bm hs;have aV:af (nH w (w.alloc (ai (#[I 0,I 0,I 0,I 0,U false,aa ⟨#[]⟩,aa ⟨#[]⟩,aa ⟨#[]⟩,aa ⟨#[]⟩,aa ⟨#[]⟩,J 0,J 0]) 104))):=A' w;go_enter Tryz.func135,Tryz.ntmps135;go_upto_region 1 with fail;generalize w.alloc (.cells #[I 0,I 0,I 0,I 0,U false,aa ⟨#[]⟩,aa ⟨#[]⟩,aa ⟨#[]⟩,aa ⟨#[]⟩,aa ⟨#[]⟩,J 0,J 0] 104)=W at aV⊢;by_cases b2:S.data.toList.headD 0≠88
 ·rw[bb b2] at aA;have a':af (o=none):=aA.symm;have bT:af (∀r,S.data.toList≠(⟨#[88]⟩:Ua).data.toList++r):=fun r hr=>b2 (by rw[hr];rfl);clear aA b2;go_wp2_with fail;with_reducible refine (BS _ _ bT _).mono ?_
  rintro e b9 ⟨rfl,rfl⟩;obtain⟨⟨aQ,aN,aJ,c3,bF,c5,bZ,b',bU,bg,cH,dR⟩,f0,f1,f2,f3,f4,f5,f6,f7,f8,f9,f10,f11⟩:=di aV.out.a;go_wp2_with fail;exact mL (W:=W) ct.aQ a' rfl (.inl rfl) rfl rfl rfl aV.out rfl rfl
 ·rw[aW b2] at aA
  obtain⟨r,hr⟩:∃r,S.data.toList=88::r:=by
   cases hS:S.data.toList with
   |nil=>exact absurd (by rw[hS];decide) b2
   |cons a r=>exact⟨r,by rw[hS] at b2;rw[show a=88 from y8 b2]⟩
  obtain⟨T,fC⟩:=jQ r;rw[←fC] at hr;rw[hr,uP,tu] at aA;have bT:af (S.data.toList=(⟨#[88]⟩:Ua).data.toList++T.data.toList):=hr;have A5:T.size≤1000000000:=(by have av:=fp List.length hr;rw[fY,cb,cb] at av;have:=db.out;omega);obtain⟨gX,hA1⟩:=jQ (eE 89 T.data.toList).1;obtain⟨R1,pY⟩:=jQ (eE 89 T.data.toList).2.1;obtain⟨cS,er⟩:=ar ((eE 89 T.data.toList).2.2);have H1:af (eE 89 T.data.toList=(gX.data.toList,R1.data.toList,cS)):=(by show _=_;rw[hA1,pY,←er]);have ug:gX.size≤1000000000∧R1.size≤1000000000:=(by have av:=G7 89 T.data.toList;have az:=G8 89 T.data.toList;rw[←hA1,cb,cb] at av;rw[←pY,cb,cb] at az;omega);rw[←hA1,←pY] at aA;clear hA1 pY er;have BW:af (gX.size≤1000000000∧R1.size≤1000000000):=ug;obtain⟨iT,hA2⟩:=jQ (eE 73 R1.data.toList).1;obtain⟨gR,mz⟩:=jQ (eE 73 R1.data.toList).2.1;obtain⟨bq,dc⟩:=ar ((eE 73 R1.data.toList).2.2);have dp:af (eE 73 R1.data.toList=(iT.data.toList,gR.data.toList,bq)):=(by show _=_;rw[hA2,mz,←dc]);have gL:iT.size≤1000000000∧gR.size≤1000000000:=(by have av:=G7 73 R1.data.toList;have az:=G8 73 R1.data.toList;rw[←hA2,cb,cb] at av;rw[←mz,cb,cb] at az;omega);rw[←hA2,←mz] at aA;clear hA2 mz dc;have e9:af (iT.size≤1000000000∧gR.size≤1000000000):=gL;obtain⟨np,hA3⟩:=jQ (eE 74 gR.data.toList).1;obtain⟨qO,yM⟩:=jQ (eE 74 gR.data.toList).2.1;obtain⟨fA,im⟩:=ar ((eE 74 gR.data.toList).2.2);have eo:af (eE 74 gR.data.toList=(np.data.toList,qO.data.toList,fA)):=(by show _=_;rw[hA3,yM,←im]);have Ah:np.size≤1000000000∧qO.size≤1000000000:=(by have av:=G7 74 gR.data.toList;have az:=G8 74 gR.data.toList;rw[←hA3,cb,cb] at av;rw[←yM,cb,cb] at az;omega);rw[←hA3,←yM] at aA;clear hA3 yM im;have kN:af (np.size≤1000000000∧qO.size≤1000000000):=Ah;obtain⟨dX,jk⟩:=ar (C9 gX.data.toList);obtain⟨c2,iQ⟩:=ar (C9 iT.data.toList);obtain⟨fq,T0⟩:=ar (dec np.data.toList);obtain⟨gx,G9⟩:=ar (dec qO.data.toList);rw[jk,iQ,T0,G9] at aA;have wS:=aq jk;have oV:=aq iQ;have uS:af ((dec np.data.toList).getD 0=fq.getD 0∧(dec np.data.toList).isSome=fq.isSome):=(by show _∧_;rw[T0];exact⟨rfl,rfl⟩);have T1:af ((dec qO.data.toList).getD 0=gx.getD 0∧(dec qO.data.toList).isSome=gx.isSome):=(by show _∧_;rw[G9];exact⟨rfl,rfl⟩);have p8:=aq aA;have rM:=aq A5;clear jk iQ T0 G9 aA A5 ug gL Ah hr fC b2;go_wp2_with fail;with_reducible refine (pF _ _ _ bT _).mono ?_
  rintro e b9 ⟨rfl,rfl⟩;rw[n5];go_wp2_with fail;with_reducible refine (G6 T rM.out 89 gX R1 cS H1 _).mono ?_
  rintro e dP ⟨rfl,hd⟩;have tT:=aq (aV.out.below (ld hd));clear hd aV;have aV:=tT;clear tT;go_wp2_with fail;with_reducible refine (G6 R1 BW.out.2 73 iT gR bq dp _).mono ?_
  rintro e cW ⟨rfl,hd⟩;have eQ:=aq (aV.out.below (ld hd));clear hd aV;have aV:=eQ;clear eQ;go_wp2_with fail;with_reducible refine (G6 gR e9.out.2 74 np qO fA eo _).mono ?_
  rintro e bI ⟨rfl,hd⟩;have yE:=aq (aV.out.below (ld hd));clear hd aV;have aV:=yE;clear yE;go_wp2_with fail;with_reducible refine (Fu gX (dx BW.out.1 (by decide)) dX wS _).mono ?_
  rintro e cN ⟨he,rfl⟩;unfold JJ at he;subst he;go_wp2_with fail;with_reducible refine (Fu iT (dx e9.out.1 (by decide)) c2 oV _).mono ?_
  rintro e cN ⟨he,rfl⟩;unfold JJ at he;subst he;go_wp2_with fail;with_reducible refine (Ie np _ _ uS (dx kN.out.1 (by decide)) _).mono ?_
  rintro e cN ⟨rfl,rfl⟩;go_wp2_with fail;with_reducible refine (Ie qO _ _ T1 (dx kN.out.2 (by decide)) _).mono ?_
  rintro e cN ⟨rfl,rfl⟩;cases dX with
  |none=>
   have a':af (o=none):=p8.out.symm;clear p8;simp only[Kt,Ku];obtain⟨⟨aQ,aN,aJ,c3,bF,c5,bZ,b',bU,bg,cH,dR⟩,f0,f1,f2,f3,f4,f5,f6,f7,f8,f9,f10,f11⟩:=di aV.out.a;go_wp2_with fail;exact mL (W:=bI) ct.aQ a' rfl (.inl rfl) rfl rfl rfl aV.out rfl rfl
  |some v1=>
   cases c2 with
   |none=>
    have a':af (o=none):=p8.out.symm;clear p8;simp only[Kt,Ku,Kv,G4];obtain⟨⟨aQ,aN,aJ,c3,bF,c5,bZ,b',bU,bg,cH,dR⟩,f0,f1,f2,f3,f4,f5,f6,f7,f8,f9,f10,f11⟩:=di aV.out.a;go_wp2_with fail;exact mL (W:=bI) ct.aQ a' rfl (.inl rfl) rfl rfl rfl aV.out rfl rfl
   |some v2=>
    cases fq with
    |none=>
     have a':af (o=none):=p8.out.symm;clear p8;simp only[Kt,Ku,Kv,G4];obtain⟨⟨aQ,aN,aJ,c3,bF,c5,bZ,b',bU,bg,cH,dR⟩,f0,f1,f2,f3,f4,f5,f6,f7,f8,f9,f10,f11⟩:=di aV.out.a;go_wp2_with fail;exact mL (W:=bI) ct.aQ a' rfl (.inl rfl) rfl rfl rfl aV.out rfl rfl
    |some v3=>
     cases gx with
     |none=>
      have a':af (o=none):=p8.out.symm;clear p8;simp only[Kt,Ku,Kv,G4];obtain⟨⟨aQ,aN,aJ,c3,bF,c5,bZ,b',bU,bg,cH,dR⟩,f0,f1,f2,f3,f4,f5,f6,f7,f8,f9,f10,f11⟩:=di aV.out.a;go_wp2_with fail;exact mL (W:=bI) ct.aQ a' rfl (.inl rfl) rfl rfl rfl aV.out rfl rfl
     |some v4=>
      have a':af (o=some {cI 13 with n:=(v1:Int),m:=(v2:Int),bX:=[v3,v4]}):=p8.out.symm;clear p8;simp only[Kv,G4];have bd:af (dH bI.heap.size (bI.alloc (ai (#[I v3,I v4]) 2)) (some (aj bI.heap.size 0)) [v3,v4]):=by intro _;refine⟨bI.heap.size,0,_,rfl,bx _,fJ bI _,fun i hi=>?_⟩;have az:i<2:=hi;have aC:i=0∨i=1:=(by omega);rcases aC with rfl|rfl<;>rfl
      have xM:af (nH w (bI.alloc (ai (#[I v3,I v4]) 2))):=aV.out.below ((Below.refl _ _).alloc (bx _) _);have rL:af (w.heap.size<bI.heap.size):=(Array.getElem?_eq_some_iff.1 aV.out.a).1;clear aV;obtain⟨⟨aQ,aN,aJ,c3,bF,c5,bZ,b',bU,bg,cH,dR⟩,f0,f1,f2,f3,f4,f5,f6,f7,f8,f9,f10,f11⟩:=di xM.out.a;have gP:=aq ((ajL rL.out bd.out {cI 13 with n:=(v1:Int),m:=(v2:Int),bX:=[v3,v4]} 0 (ag bI.heap.size 0 2 2) bN).mono (Du rL.out));go_wp2_with fail;exact nn {cI 13 with n:=(v1:Int),m:=(v2:Int),bX:=[v3,v4]} (ad (some (aj bI.heap.size 0)) 2 2) rfl (.inl rfl) rfl rfl xM.out.a xM.out.b fun ax=>⟨ax,{cI 13 with n:=(v1:Int),m:=(v2:Int),bX:=[v3,v4]},_,2,by rw[a'.out];rfl,gP.out,rfl,by rw[a'.out];intro e he;exact (q5 he).symm⟩
theorem OZ{k:Nat}(ay:k<256)(h:c≠UInt8.ofNat k):((c.toNat:Int) !=(k:Int))=true:=by rw[bne,Gq ay h];rfl
theorem amo(S:Ua)(hs:S.size≤1000000000)(o:Option C)(bm:af (MX S.data.toList=o))(w:aeo):
  Calls Tryz.prog 132 #[aa S] w (yf o w):=by
 have db:=aq hs;have aA:=bm.out;unfold MX at aA;rw[cb] at aA;clear bm hs;have aV:af (nH w (w.alloc (ai (#[I 0,I 0,I 0,I 0,U false,aa ⟨#[]⟩,aa ⟨#[]⟩,aa ⟨#[]⟩,aa ⟨#[]⟩,aa ⟨#[]⟩,J 0,J 0]) 104))):=A' w;go_enter Tryz.func132,Tryz.ntmps132;go_upto_region 1 with fail;generalize w.alloc (.cells #[I 0,I 0,I 0,I 0,U false,aa ⟨#[]⟩,aa ⟨#[]⟩,aa ⟨#[]⟩,aa ⟨#[]⟩,aa ⟨#[]⟩,J 0,J 0] 104)=W at aV⊢;by_cases eS:S.size≠8
 ·rw[bb (.inl eS)] at aA;have a':af (o=none):=aA.symm;have T2:((S.size:Int) !=8)=true:=(by simp;omega);clear aA eS
  go_quiet (fail)
  generalize gy:W.drewN _=b4;have eQ:=aq (aV.out.below (ld ⟨_,gy.symm⟩));clear gy aV;have aV:=eQ;clear eQ;obtain⟨⟨aQ,aN,aJ,c3,bF,c5,bZ,b',bU,bg,cH,dR⟩,f0,f1,f2,f3,f4,f5,f6,f7,f8,f9,f10,f11⟩:=di aV.out.a;go_wp2_with fail;exact mL (W:=b4) ct.aQ a' rfl (.inl rfl) rfl rfl rfl aV.out rfl rfl
 ·have T2:S.size=8:=y8 eS;have Xj:((S.size:Int) !=8)=false:=(by simp;omega);have O0:S.data.toList.length=8:=by rw[cb];exact T2
  obtain⟨d0,d1,d2,d3,d4,d5,d6,d7,hS⟩:∃d0 d1 d2 d3 d4 d5 d6 d7,S.data.toList=[d0,d1,d2,d3,d4,d5,d6,d7]:=by
   match aR:S.data.toList,O0 with
   |[d0,d1,d2,d3,d4,d5,d6,d7],_=>exact⟨_,_,_,_,_,_,_,_,rfl⟩
  have g0:S[0]'(by omega)=d0:=(by have h:=nG S 0 (by omega);rw[←h];simp[hS]);have g1:S[1]'(by omega)=d1:=(by have h:=nG S 1 (by omega);rw[←h];simp[hS]);have g2:S[2]'(by omega)=d2:=(by have h:=nG S 2 (by omega);rw[←h];simp[hS]);have g3:S[3]'(by omega)=d3:=(by have h:=nG S 3 (by omega);rw[←h];simp[hS]);have g4:S[4]'(by omega)=d4:=(by have h:=nG S 4 (by omega);rw[←h];simp[hS]);have g5:S[5]'(by omega)=d5:=(by have h:=nG S 5 (by omega);rw[←h];simp[hS]);have g6:S[6]'(by omega)=d6:=(by have h:=nG S 6 (by omega);rw[←h];simp[hS]);have g7:S[7]'(by omega)=d7:=(by have h:=nG S 7 (by omega);rw[←h];simp[hS]);have O1:(S.extract 1 3).data.toList=[d1,d2]:=(by rw[Fs,hS];rfl);have O2:(S.extract 3 5).data.toList=[d3,d4]:=(by rw[Fs,hS];rfl);have O3:(S.extract 6 S.size).data.toList=[d6,d7]:=(by rw[jP,hS];rfl);have aa5:(S.extract 3 S.size).data.toList=[d3,d4,d5,d6,d7]:=(by rw[jP,hS];rfl);have lP:af ((S.extract 3 S.size).size≤maxLen):=(by show _≤_;rw[←cb,aa5];show 5≤maxLen;decide);obtain⟨n,hn⟩:=ar (bn (S.extract 3 S.size).data.toList);have nS:=aq hn;rw[aa5] at hn;have cz:(8:Int)≤(S.size:Int):=(by omega);clear T2 O0;by_cases fS:d0≠76∧d0≠84
  ·have fh:((d0.toNat:Int) !=76)=true:=OZ (k:=76) (by decide) fS.1;have dI:((d0.toNat:Int) !=84)=true:=OZ (k:=84) (by decide) fS.2;rw[bb (.inr (.inl (by rw[hS];exact fS)))] at aA;have a':af (o=none):=aA.symm;clear aA
   go_quiet (first|(go_at_call 176;exact q9 ((mh (S.extract 3 S.size) lP.out n nS _).mono fun _ _ h=>⟨h.1,h.2.symm⟩)))
   generalize gy:W.drewN _=b4;have eQ:=aq (aV.out.below (ld ⟨_,gy.symm⟩));clear gy aV;have aV:=eQ;clear eQ;obtain⟨⟨aQ,aN,aJ,c3,bF,c5,bZ,b',bU,bg,cH,dR⟩,f0,f1,f2,f3,f4,f5,f6,f7,f8,f9,f10,f11⟩:=di aV.out.a;go_wp2_with fail;exact mL (W:=b4) ct.aQ a' rfl (.inl rfl) rfl rfl rfl aV.out rfl rfl
  ·obtain rfl|rfl:d0=76∨d0=84:=by by_cases h:d0=76<;>by_cases az:d0=84<;>simp_all
   ·have fO:((76:UInt8).toNat:Int)=76:=rfl;by_cases b1: [d1,d2]≠[65,88]
    ·have zG:((S.extract 1 3).toList==[65,88])=false:=(by rw[eG,O1];exact ey b1);rw[bb (.inr (.inr (.inl (by rw[hS];exact b1))))] at aA;have a':af (o=none):=aA.symm;clear aA
     go_quiet (first|(go_at_call 176;exact q9 ((mh (S.extract 3 S.size) lP.out n nS _).mono fun _ _ h=>⟨h.1,h.2.symm⟩)))
     generalize gy:W.drewN _=b4;have eQ:=aq (aV.out.below (ld ⟨_,gy.symm⟩));clear gy aV;have aV:=eQ;clear eQ;obtain⟨⟨aQ,aN,aJ,c3,bF,c5,bZ,b',bU,bg,cH,dR⟩,f0,f1,f2,f3,f4,f5,f6,f7,f8,f9,f10,f11⟩:=di aV.out.a;go_wp2_with fail;exact mL (W:=b4) ct.aQ a' rfl (.inl rfl) rfl rfl rfl aV.out rfl rfl
    ·have zG:((S.extract 1 3).toList==[65,88])=true:=(by rw[eG,O1];exact eL (y8 b1));by_cases cw:n≠2
     ·have zH:((n:Int) !=2)=true:=(by simp;omega);rw[bb (.inr (.inr (.inr (.inl (by rw[hS];show bn [d3,d4,d5,d6,d7]≠2;rw[hn];exact cw)))))] at aA;have a':af (o=none):=aA.symm;clear aA
      go_quiet (first|(go_at_call 176;exact q9 ((mh (S.extract 3 S.size) lP.out n nS _).mono fun _ _ h=>⟨h.1,h.2.symm⟩)))
      generalize gy:W.drewN _=b4;have eQ:=aq (aV.out.below (ld ⟨_,gy.symm⟩));clear gy aV;have aV:=eQ;clear eQ;obtain⟨⟨aQ,aN,aJ,c3,bF,c5,bZ,b',bU,bg,cH,dR⟩,f0,f1,f2,f3,f4,f5,f6,f7,f8,f9,f10,f11⟩:=di aV.out.a;go_wp2_with fail;exact mL (W:=b4) ct.aQ a' rfl (.inl rfl) rfl rfl rfl aV.out rfl rfl
     ·have zH:((n:Int) !=2)=false:=(by simp;omega);by_cases ei:d5≠89
      ·have zI:((d5.toNat:Int) !=89)=true:=OZ (k:=89) (by decide) ei;rw[bb (.inr (.inr (.inr (.inr (.inl (by rw[hS];exact ei))))))] at aA;have a':af (o=none):=aA.symm;clear aA
       go_quiet (first|(go_at_call 176;exact q9 ((mh (S.extract 3 S.size) lP.out n nS _).mono fun _ _ h=>⟨h.1,h.2.symm⟩)))
       generalize gy:W.drewN _=b4;have eQ:=aq (aV.out.below (ld ⟨_,gy.symm⟩));clear gy aV;have aV:=eQ;clear eQ;obtain⟨⟨aQ,aN,aJ,c3,bF,c5,bZ,b',bU,bg,cH,dR⟩,f0,f1,f2,f3,f4,f5,f6,f7,f8,f9,f10,f11⟩:=di aV.out.a;go_wp2_with fail;exact mL (W:=b4) ct.aQ a' rfl (.inl rfl) rfl rfl rfl aV.out rfl rfl
      ·obtain rfl:d5=89:=y8 ei;have zI:((89:UInt8).toNat:Int)=89:=rfl;by_cases gZ: [d6,d7]≠[d3,d4]
       ·have k5:((S.extract 6 S.size).toList==(S.extract 3 5).toList)=false:=(by rw[mV,mV,O3,O2,kS];exact gZ);rw[bb (.inr (.inr (.inr (.inr (.inr (by rw[hS];exact gZ))))))] at aA;have a':af (o=none):=aA.symm;clear aA
        go_quiet (first|(go_at_call 176;exact q9 ((mh (S.extract 3 S.size) lP.out n nS _).mono fun _ _ h=>⟨h.1,h.2.symm⟩)))
        generalize gy:W.drewN _=b4;have eQ:=aq (aV.out.below (ld ⟨_,gy.symm⟩));clear gy aV;have aV:=eQ;clear eQ;obtain⟨⟨aQ,aN,aJ,c3,bF,c5,bZ,b',bU,bg,cH,dR⟩,f0,f1,f2,f3,f4,f5,f6,f7,f8,f9,f10,f11⟩:=di aV.out.a;go_wp2_with fail;exact mL (W:=b4) ct.aQ a' rfl (.inl rfl) rfl rfl rfl aV.out rfl rfl
       ·have k5:((S.extract 6 S.size).toList==(S.extract 3 5).toList)=true:=by rw[mV,mV,O3,O2,uR];exact y8 gZ
        rw [aW (by
         rw[hS];rintro (h|h|h|h|h|h)
         ·exact eS h
         ·exact fS h
         ·exact b1 h
         ·exact absurd (show bn [d3,d4,89,d6,d7]≠2 from h) (by rw[hn];exact cw)
         ·exact h rfl
         ·exact gZ h)] at aA
        have a':af (o=some {cI 8 with on:=false,n:=(d3.toNat:Int)-48,m:=(d4.toNat:Int)-48}):=(by show _=_;rw[←aA,hS];rfl);have hd:=(x9 [d3,d4,89,d6,d7]).1;rw[hn] at hd;have pH:=(ph _).1 (hd 0 (by simp) (by omega));have Kw:=(ph _).1 (hd 1 (by simp) (by omega));simp only[G5,A6] at pH Kw;obtain⟨T3,T4⟩:=pH;obtain⟨T5,T6⟩:=Kw;obtain⟨mP,vR⟩:=ar (d3.toNat:Int);obtain⟨xB,G'⟩:=ar (d4.toNat:Int);have amp:48≤mP:=(by omega);have amq:mP≤57:=(by omega);have amr:48≤xB:=(by omega);have ams:xB≤57:=(by omega);clear aA hd T3 T4 T5 T6;rw[vR,G'] at a'
        go_quiet (first|(go_at_call 176;exact q9 ((mh (S.extract 3 S.size) lP.out n nS _).mono fun _ _ h=>⟨h.1,h.2.symm⟩)))
        generalize gy:W.drewN _=b4;have eQ:=aq (aV.out.below (ld ⟨_,gy.symm⟩));clear gy aV;have aV:=eQ;clear eQ;go_upto_region 3 with fail;obtain⟨⟨aQ,aN,aJ,c3,bF,c5,bZ,b',bU,bg,cH,dR⟩,f0,f1,f2,f3,f4,f5,f6,f7,f8,f9,f10,f11⟩:=di aV.out.a;go_region
        all_goals
         clear aQ aN aJ c3 bF c5 bZ b' bU bg cH dR f0 f1 f2 f3 f4 f5 f6 f7 f8 f9 f10 f11;go_wp2_with fail;exact qN (W:=b4) a' rfl (.inr rfl) rfl rfl rfl aV.out rfl rfl
   ·have fO:((84:UInt8).toNat:Int)=84:=rfl;by_cases b1: [d1,d2]≠[65,88]
    ·have zG:((S.extract 1 3).toList==[65,88])=false:=(by rw[eG,O1];exact ey b1);rw[bb (.inr (.inr (.inl (by rw[hS];exact b1))))] at aA;have a':af (o=none):=aA.symm;clear aA
     go_quiet (first|(go_at_call 176;exact q9 ((mh (S.extract 3 S.size) lP.out n nS _).mono fun _ _ h=>⟨h.1,h.2.symm⟩)))
     generalize gy:W.drewN _=b4;have eQ:=aq (aV.out.below (ld ⟨_,gy.symm⟩));clear gy aV;have aV:=eQ;clear eQ;obtain⟨⟨aQ,aN,aJ,c3,bF,c5,bZ,b',bU,bg,cH,dR⟩,f0,f1,f2,f3,f4,f5,f6,f7,f8,f9,f10,f11⟩:=di aV.out.a;go_wp2_with fail;exact mL (W:=b4) ct.aQ a' rfl (.inl rfl) rfl rfl rfl aV.out rfl rfl
    ·have zG:((S.extract 1 3).toList==[65,88])=true:=(by rw[eG,O1];exact eL (y8 b1));by_cases cw:n≠2
     ·have zH:((n:Int) !=2)=true:=(by simp;omega);rw[bb (.inr (.inr (.inr (.inl (by rw[hS];show bn [d3,d4,d5,d6,d7]≠2;rw[hn];exact cw)))))] at aA;have a':af (o=none):=aA.symm;clear aA
      go_quiet (first|(go_at_call 176;exact q9 ((mh (S.extract 3 S.size) lP.out n nS _).mono fun _ _ h=>⟨h.1,h.2.symm⟩)))
      generalize gy:W.drewN _=b4;have eQ:=aq (aV.out.below (ld ⟨_,gy.symm⟩));clear gy aV;have aV:=eQ;clear eQ;obtain⟨⟨aQ,aN,aJ,c3,bF,c5,bZ,b',bU,bg,cH,dR⟩,f0,f1,f2,f3,f4,f5,f6,f7,f8,f9,f10,f11⟩:=di aV.out.a;go_wp2_with fail;exact mL (W:=b4) ct.aQ a' rfl (.inl rfl) rfl rfl rfl aV.out rfl rfl
     ·have zH:((n:Int) !=2)=false:=(by simp;omega);by_cases ei:d5≠89
      ·have zI:((d5.toNat:Int) !=89)=true:=OZ (k:=89) (by decide) ei;rw[bb (.inr (.inr (.inr (.inr (.inl (by rw[hS];exact ei))))))] at aA;have a':af (o=none):=aA.symm;clear aA
       go_quiet (first|(go_at_call 176;exact q9 ((mh (S.extract 3 S.size) lP.out n nS _).mono fun _ _ h=>⟨h.1,h.2.symm⟩)))
       generalize gy:W.drewN _=b4;have eQ:=aq (aV.out.below (ld ⟨_,gy.symm⟩));clear gy aV;have aV:=eQ;clear eQ;obtain⟨⟨aQ,aN,aJ,c3,bF,c5,bZ,b',bU,bg,cH,dR⟩,f0,f1,f2,f3,f4,f5,f6,f7,f8,f9,f10,f11⟩:=di aV.out.a;go_wp2_with fail;exact mL (W:=b4) ct.aQ a' rfl (.inl rfl) rfl rfl rfl aV.out rfl rfl
      ·obtain rfl:d5=89:=y8 ei;have zI:((89:UInt8).toNat:Int)=89:=rfl;by_cases gZ: [d6,d7]≠[d3,d4]
       ·have k5:((S.extract 6 S.size).toList==(S.extract 3 5).toList)=false:=(by rw[mV,mV,O3,O2,kS];exact gZ);rw[bb (.inr (.inr (.inr (.inr (.inr (by rw[hS];exact gZ))))))] at aA;have a':af (o=none):=aA.symm;clear aA
        go_quiet (first|(go_at_call 176;exact q9 ((mh (S.extract 3 S.size) lP.out n nS _).mono fun _ _ h=>⟨h.1,h.2.symm⟩)))
        generalize gy:W.drewN _=b4;have eQ:=aq (aV.out.below (ld ⟨_,gy.symm⟩));clear gy aV;have aV:=eQ;clear eQ;obtain⟨⟨aQ,aN,aJ,c3,bF,c5,bZ,b',bU,bg,cH,dR⟩,f0,f1,f2,f3,f4,f5,f6,f7,f8,f9,f10,f11⟩:=di aV.out.a;go_wp2_with fail;exact mL (W:=b4) ct.aQ a' rfl (.inl rfl) rfl rfl rfl aV.out rfl rfl
       ·have k5:((S.extract 6 S.size).toList==(S.extract 3 5).toList)=true:=by rw[mV,mV,O3,O2,uR];exact y8 gZ
        rw [aW (by
         rw[hS];rintro (h|h|h|h|h|h)
         ·exact eS h
         ·exact fS h
         ·exact b1 h
         ·exact absurd (show bn [d3,d4,89,d6,d7]≠2 from h) (by rw[hn];exact cw)
         ·exact h rfl
         ·exact gZ h)] at aA
        have a':af (o=some {cI 8 with on:=true,n:=(d3.toNat:Int)-48,m:=(d4.toNat:Int)-48}):=(by show _=_;rw[←aA,hS];rfl);have hd:=(x9 [d3,d4,89,d6,d7]).1;rw[hn] at hd;have pH:=(ph _).1 (hd 0 (by simp) (by omega));have Kw:=(ph _).1 (hd 1 (by simp) (by omega));simp only[G5,A6] at pH Kw;obtain⟨T3,T4⟩:=pH;obtain⟨T5,T6⟩:=Kw;obtain⟨mP,vR⟩:=ar (d3.toNat:Int);obtain⟨xB,G'⟩:=ar (d4.toNat:Int);have amp:48≤mP:=(by omega);have amq:mP≤57:=(by omega);have amr:48≤xB:=(by omega);have ams:xB≤57:=(by omega);clear aA hd T3 T4 T5 T6;rw[vR,G'] at a'
        go_quiet (first|(go_at_call 176;exact q9 ((mh (S.extract 3 S.size) lP.out n nS _).mono fun _ _ h=>⟨h.1,h.2.symm⟩)))
        generalize gy:W.drewN _=b4;have eQ:=aq (aV.out.below (ld ⟨_,gy.symm⟩));clear gy aV;have aV:=eQ;clear eQ;go_upto_region 3 with fail;obtain⟨⟨aQ,aN,aJ,c3,bF,c5,bZ,b',bU,bg,cH,dR⟩,f0,f1,f2,f3,f4,f5,f6,f7,f8,f9,f10,f11⟩:=di aV.out.a;go_region
        all_goals
         clear aQ aN aJ c3 bF c5 bZ b' bU bg cH dR f0 f1 f2 f3 f4 f5 f6 f7 f8 f9 f10 f11;go_wp2_with fail;exact qN (W:=b4) a' rfl (.inr rfl) rfl rfl rfl aV.out rfl rfl
end iS
