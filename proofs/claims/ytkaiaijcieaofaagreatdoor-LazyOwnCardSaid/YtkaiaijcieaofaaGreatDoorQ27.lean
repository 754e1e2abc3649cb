/- Lemmas. -/
import Derived.Test.YtkaiaijcieaofaaGreatDoorQ26
set_option linter.all false
set_option maxRecDepth 100000
set_option maxHeartbeats 12800000
namespace Go.Proofs.YtkaiaijcieaofaaGreatDoor
abbrev zM:=@Decidable.of_not_not
abbrev Ix:=@List.takeWhile_cons_of_neg
abbrev Iy:=@List.takeWhile_cons_of_pos
abbrev VE:=@List.takeWhile_append_dropWhile
abbrev VF:=@List.takeWhile_sublist
abbrev Mc:=@Option.isSome_none
abbrev Md:=@Option.getD_none
abbrev Me:=@Option.isSome_some
abbrev Mf:=@Option.getD_some
abbrev Mg:=@List.getElem_cons_zero
abbrev Iz:=@List.getElem_cons_succ
abbrev FU:=@List.getElem?_take_of_lt
abbrev Bm:=@List.length_singleton
namespace gK
open Go.RowKit gI ga jz Mem hL cB
theorem aoE(S:Ua)(o:Option C)(a1:af (w9.lookup S.data.toList=o))(w:aeo):
  Calls Tryz.prog 107 #[aa S] w (CF o w):=by
 have aU:af (kt w (w.alloc (ai (#[I 0,I 0,I 0,I 0,U false,aa ⟨#[]⟩,aa ⟨#[]⟩,aa ⟨#[]⟩,aa ⟨#[]⟩,aa ⟨#[]⟩,J 0,J 0]) 92))):=va w;go_enter Tryz.func107,Tryz.ntmps107;go_upto_region 1 with fail;generalize w.alloc (.cells #[I 0,I 0,I 0,I 0,U false,aa ⟨#[]⟩,aa ⟨#[]⟩,aa ⟨#[]⟩,aa ⟨#[]⟩,aa ⟨#[]⟩,J 0,J 0] 92)=W at aU⊢;by_cases bI:S.data.toList=[77,79,77,77]
 ·have aY:(S.toList==[77,79,77,77])=true:=(by rw[hZ];exact gx bI);have bn:af (o=some {dD 9 with n:=1}):=(by show _=_;rw[←a1.out,bI];rfl);clear a1 bI;obtain⟨⟨aV,aT,c2,c3,cD,c5,cX,c7,dj,bB,di,dE⟩,f0,f1,f2,f3,f4,f5,f6,f7,f8,f9,f10,f11⟩:=fc aU.out.a;go_wp2_with fail;exact vh (W:=W) bn rfl (.inl rfl) rfl rfl rfl aU.out rfl rfl
 ·have aY:(S.toList==[77,79,77,77])=false:=(by rw[hZ];exact fJ bI);by_cases bJ:S.data.toList=[77,79,73,78]
  ·have a6:(S.toList==[77,79,73,78])=true:=(by rw[hZ];exact gx bJ);have bn:af (o=some {dD 9 with n:=2}):=(by show _=_;rw[←a1.out,bJ];rfl);clear a1 bI bJ;obtain⟨⟨aV,aT,c2,c3,cD,c5,cX,c7,dj,bB,di,dE⟩,f0,f1,f2,f3,f4,f5,f6,f7,f8,f9,f10,f11⟩:=fc aU.out.a;go_wp2_with fail;exact vh (W:=W) bn rfl (.inl rfl) rfl rfl rfl aU.out rfl rfl
  ·have a6:(S.toList==[77,79,73,78])=false:=(by rw[hZ];exact fJ bJ);by_cases dT:S.data.toList=[65,66]
   ·have cV:(S.toList==[65,66])=true:=(by rw[hZ];exact gx dT);have bn:af (o=some (dD 12)):=(by show _=_;rw[←a1.out,dT];rfl);clear a1 bI bJ dT;obtain⟨⟨aV,aT,c2,c3,cD,c5,cX,c7,dj,bB,di,dE⟩,f0,f1,f2,f3,f4,f5,f6,f7,f8,f9,f10,f11⟩:=fc aU.out.a;go_wp2_with fail;exact vh (W:=W) bn rfl (.inl rfl) rfl rfl rfl aU.out rfl rfl
   ·have cV:(S.toList==[65,66])=false:=(by rw[hZ];exact fJ dT);by_cases hz:S.data.toList=[83,82]
    ·have iI:(S.toList==[83,82])=true:=(by rw[hZ];exact gx hz);have bn:af (o=some (dD 14)):=(by show _=_;rw[←a1.out,hz];rfl);clear a1 bI bJ dT hz;obtain⟨⟨aV,aT,c2,c3,cD,c5,cX,c7,dj,bB,di,dE⟩,f0,f1,f2,f3,f4,f5,f6,f7,f8,f9,f10,f11⟩:=fc aU.out.a;go_wp2_with fail;exact vh (W:=W) bn rfl (.inl rfl) rfl rfl rfl aU.out rfl rfl
    ·have iI:(S.toList==[83,82])=false:=(by rw[hZ];exact fJ hz);by_cases mP:S.data.toList=[76,80,68]
     ·have lu:(S.toList==[76,80,68])=true:=(by rw[hZ];exact gx mP);have bn:af (o=some {dD 15 with on:=true}):=(by show _=_;rw[←a1.out,mP];rfl);clear a1 bI bJ dT hz mP;obtain⟨⟨aV,aT,c2,c3,cD,c5,cX,c7,dj,bB,di,dE⟩,f0,f1,f2,f3,f4,f5,f6,f7,f8,f9,f10,f11⟩:=fc aU.out.a;go_wp2_with fail;exact vh (W:=W) bn rfl (.inl rfl) rfl rfl rfl aU.out rfl rfl
     ·have lu:(S.toList==[76,80,68])=false:=(by rw[hZ];exact fJ mP);by_cases fh:S.data.toList=[76,80,67]
      ·have kO:(S.toList==[76,80,67])=true:=(by rw[hZ];exact gx fh);have bn:af (o=some (dD 15)):=(by show _=_;rw[←a1.out,fh];rfl);clear a1 bI bJ dT hz mP fh;obtain⟨⟨aV,aT,c2,c3,cD,c5,cX,c7,dj,bB,di,dE⟩,f0,f1,f2,f3,f4,f5,f6,f7,f8,f9,f10,f11⟩:=fc aU.out.a;go_wp2_with fail;exact vh (W:=W) bn rfl (.inl rfl) rfl rfl rfl aU.out rfl rfl
      ·have kO:(S.toList==[76,80,67])=false:=(by rw[hZ];exact fJ fh);by_cases rO:S.data.toList=[76,77,78]
       ·have tm:(S.toList==[76,77,78])=true:=(by rw[hZ];exact gx rO);have bn:af (o=some (dD 16)):=(by show _=_;rw[←a1.out,rO];rfl);clear a1 bI bJ dT hz mP fh rO;obtain⟨⟨aV,aT,c2,c3,cD,c5,cX,c7,dj,bB,di,dE⟩,f0,f1,f2,f3,f4,f5,f6,f7,f8,f9,f10,f11⟩:=fc aU.out.a;go_wp2_with fail;exact vh (W:=W) bn rfl (.inl rfl) rfl rfl rfl aU.out rfl rfl
       ·have tm:(S.toList==[76,77,78])=false:=(by rw[hZ];exact fJ rO);by_cases C':S.data.toList=[76,77,88]
        ·have xp:(S.toList==[76,77,88])=true:=(by rw[hZ];exact gx C');have bn:af (o=some {dD 16 with n:=1}):=(by show _=_;rw[←a1.out,C'];rfl);clear a1 bI bJ dT hz mP fh rO C';obtain⟨⟨aV,aT,c2,c3,cD,c5,cX,c7,dj,bB,di,dE⟩,f0,f1,f2,f3,f4,f5,f6,f7,f8,f9,f10,f11⟩:=fc aU.out.a;go_wp2_with fail;exact vh (W:=W) bn rfl (.inl rfl) rfl rfl rfl aU.out rfl rfl
        ·have xp:(S.toList==[76,77,88])=false:=(by rw[hZ];exact fJ C');by_cases Bj:S.data.toList=[76,77,89]
         ·have hb:(S.toList==[76,77,89])=true:=(by rw[hZ];exact gx Bj);have bn:af (o=some {dD 16 with n:=2}):=(by show _=_;rw[←a1.out,Bj];rfl);clear a1 bI bJ dT hz mP fh rO C' Bj;obtain⟨⟨aV,aT,c2,c3,cD,c5,cX,c7,dj,bB,di,dE⟩,f0,f1,f2,f3,f4,f5,f6,f7,f8,f9,f10,f11⟩:=fc aU.out.a;go_wp2_with fail;exact vh (W:=W) bn rfl (.inl rfl) rfl rfl rfl aU.out rfl rfl
         ·have hb:(S.toList==[76,77,89])=false:=(by rw[hZ];exact fJ Bj);by_cases E3:S.data.toList=[76,77,88,89]
          ·have xq:(S.toList==[76,77,88,89])=true:=(by rw[hZ];exact gx E3);have bn:af (o=some {dD 16 with n:=3}):=(by show _=_;rw[←a1.out,E3];rfl);clear a1 bI bJ dT hz mP fh rO C' Bj E3;obtain⟨⟨aV,aT,c2,c3,cD,c5,cX,c7,dj,bB,di,dE⟩,f0,f1,f2,f3,f4,f5,f6,f7,f8,f9,f10,f11⟩:=fc aU.out.a;go_wp2_with fail;exact vh (W:=W) bn rfl (.inl rfl) rfl rfl rfl aU.out rfl rfl
          ·have xq:(S.toList==[76,77,88,89])=false:=(by rw[hZ];exact fJ E3);have bn:af (o=none):=(by show _=_;rw[←a1.out];simp[w9,List.lookup_cons,beq_eq_false_iff_ne.2 bI,beq_eq_false_iff_ne.2 bJ,beq_eq_false_iff_ne.2 dT,beq_eq_false_iff_ne.2 hz,beq_eq_false_iff_ne.2 mP,beq_eq_false_iff_ne.2 fh,beq_eq_false_iff_ne.2 rO,beq_eq_false_iff_ne.2 C',beq_eq_false_iff_ne.2 Bj,beq_eq_false_iff_ne.2 E3]);clear a1 bI bJ dT hz mP fh rO C' Bj E3;obtain⟨⟨aV,aT,c2,c3,cD,c5,cX,c7,dj,bB,di,dE⟩,f0,f1,f2,f3,f4,f5,f6,f7,f8,f9,f10,f11⟩:=fc aU.out.a;go_wp2_with fail;exact pM (W:=W) cB.aV bn rfl (.inl rfl) rfl rfl rfl aU.out rfl rfl
theorem aoF(S:Ua)(hs:S.size≤1000000000)(o:Option C)(a1:af (Gt S.data.toList=o))(w:aeo):
  Calls Tryz.prog 110 #[aa S] w (CF o w):=by
 have bH:=ao hs;have az:=a1.out;unfold Gt at az;clear a1 hs;have aU:af (kt w (w.alloc (ai (#[I 0,I 0,I 0,I 0,U false,aa ⟨#[]⟩,aa ⟨#[]⟩,aa ⟨#[]⟩,aa ⟨#[]⟩,aa ⟨#[]⟩,J 0,J 0]) 92))):=va w;go_enter Tryz.func110,Tryz.ntmps110;go_upto_region 1 with fail;generalize w.alloc (.cells #[I 0,I 0,I 0,I 0,U false,aa ⟨#[]⟩,aa ⟨#[]⟩,aa ⟨#[]⟩,aa ⟨#[]⟩,aa ⟨#[]⟩,J 0,J 0] 92)=W at aU⊢;by_cases b4:S.data.toList.headD 0≠68
 ·rw[aW b4] at az;have bn:af (o=none):=az.symm;have bw:af (∀r,S.data.toList≠(⟨#[68]⟩:Ua).data.toList++r):=fun r hr=>b4 (by rw[hr];rfl);clear az b4;go_wp2_with fail;with_reducible refine (CD _ _ bw _).mono ?_
  rintro e bt ⟨rfl,rfl⟩;obtain⟨⟨aV,aT,c2,c3,cD,c5,cX,c7,dj,bB,di,dE⟩,f0,f1,f2,f3,f4,f5,f6,f7,f8,f9,f10,f11⟩:=fc aU.out.a;go_wp2_with fail;exact pM (W:=W) cB.aV bn rfl (.inl rfl) rfl rfl rfl aU.out rfl rfl
 ·rw[aN b4] at az
  obtain⟨r,hr⟩:∃r,S.data.toList=68::r:=by
   cases hS:S.data.toList with
   |nil=>exact absurd (by rw[hS];decide) b4
   |cons a r=>exact⟨r,by rw[hS] at b4;rw[show a=68 from zM b4]⟩
  obtain⟨T,dm⟩:=kd r;rw[←dm] at hr;rw[hr,Ce,wu] at az;have bw:af (S.data.toList=(⟨#[68]⟩:Ua).data.toList++T.data.toList):=hr;have dr:af (T.size≤maxLen):=(by show T.size≤_;have au:=fS List.length hr;rw[eT,ch,ch] at au;have:=bH.out;unfold maxLen;omega);obtain⟨Bl,FT⟩:=aq (tc T.data.toList);have VC:=ao FT;rw[FT] at az;clear FT b4 hr dm;go_wp2_with fail;with_reducible refine (qi _ _ _ bw _).mono ?_
  rintro e bt ⟨rfl,rfl⟩;rw[o0];go_wp2_with fail;with_reducible refine (T1 T dr.out _ VC _).mono ?_
  rintro e db ⟨aB,rfl⟩;cases Bl with
  |some n=>
   have bn:af (o=some {dD 11 with n:=n}):=az.symm;obtain rfl:e=ab (.tuple #[I ((n:Nat):Int),U true]):=aB;clear az;obtain⟨⟨aV,aT,c2,c3,cD,c5,cX,c7,dj,bB,di,dE⟩,f0,f1,f2,f3,f4,f5,f6,f7,f8,f9,f10,f11⟩:=fc aU.out.a;go_wp2_with fail;exact vh (W:=W) bn rfl (.inl rfl) rfl rfl rfl aU.out rfl rfl
  |none=>
   have bn:af (o=none):=az.symm;obtain rfl:e=ab (.tuple #[I ((0:Nat):Int),U false]):=aB;clear az;obtain⟨⟨aV,aT,c2,c3,cD,c5,cX,c7,dj,bB,di,dE⟩,f0,f1,f2,f3,f4,f5,f6,f7,f8,f9,f10,f11⟩:=fc aU.out.a;go_wp2_with fail;exact pM (W:=W) (dD 11) bn rfl (.inl rfl) rfl rfl rfl aU.out rfl rfl
variable{l T:ar}{c:UInt8}
theorem aoG(h:(l.takeWhile (· !=c)).length<l.length):Lib.indexByte l c=((l.takeWhile (· !=c)).length:Int):=by
 induction l with
 |nil=>exact absurd h (mi _)
 |cons b l cU=>
  unfold Lib.indexByte;by_cases ay:b=c
  ·rw[aW (by rw[ay];simp),Ix (by simp[ay])];rfl
  ·rw[Iy (by simp[ay])] at h⊢;have ax:=cU (A0 h);rw[aN (by simp[ay]),ax,aN (by simp)];simp
theorem aoH(h:¬(l.takeWhile (· !=c)).length<l.length):Lib.indexByte l c= -1:=by
 induction l with
 |nil=>rfl
 |cons b l cU=>
  unfold Lib.indexByte;by_cases ay:b=c
  ·exfalso;apply h;rw[Ix (by simp[ay])];simp
  ·rw[Iy (by simp[ay])] at h;have ax:=cU (fun aA=>h (Nat.succ_lt_succ aA));rw[aN (by simp[ay]),ax];rfl
theorem aoI(c:UInt8)(l:ar):(eJ c l).1=l.takeWhile (· !=c):=by
 unfold eJ;split
 ·rfl
 ·rename_i h;have au:=VE (p:=(· !=c)) (l:=l);have ax:=fS List.length au;rw[fH] at ax;have aA:l.dropWhile (· !=c)=[]:=lP (by omega);rw[aA,List.append_nil] at au;exact au.symm
theorem aoJ(c:UInt8)(l:ar):l.take (l.takeWhile (· !=c)).length=l.takeWhile (· !=c):=by
 have au:=VE (p:=(· !=c)) (l:=l)
 conv=>lhs;rw[←au]
 rw[VE]
 conv=>lhs;arg 2;rw[←au]
 rw[Ni]
theorem aoK(S:Ua)(hs:S.size≤1000000000)(c:UInt8)(A R:Ua)(b:Bool)(h:af (eJ c S.data.toList=(A.data.toList,R.data.toList,b)))(w:aeo):
  Calls Tryz.prog 175 #[aa S,aa ⟨#[c]⟩] w fun e w'=>e=ab (.tuple #[aa A,aa R,U b])∧xJ w w':=by
 have aE:=h.out;unfold eJ at aE;clear h;by_cases aw:(S.data.toList.takeWhile (· !=c)).length<S.data.toList.length
 ·rw[aW aw] at aE;have hi:=aoG aw;have bc:=aoJ c S.data.toList;obtain⟨k,sK⟩:=aq ((S.data.toList.takeWhile (· !=c)).length);rw[sK] at aE hi aw bc;rw[ch] at aw;simp only[fg] at aE;obtain⟨au,ax,rfl⟩:=aE;have cJ:af (A=S.extract 0 k):=(by show A=_;refine lD ?_;rw[CC,bc,au]);have aQ:af (R=S.extract (k+1) S.size):=(by show R=_;refine lD ?_;rw[lX,ax]);have bL:=ao hi;clear au ax hi bc sK;go_enter Tryz.func175,Tryz.ntmps175;go_wp2_with fail;with_reducible refine (Tryz.stringslite_Index_one S c _).mono ?_
  rintro e bt ⟨rfl,rfl⟩;rw[bL.out];go_wp2_with fail;go_region
  all_goals
   go_wp2_with fail;go_ret3;rw[cJ.out,aQ.out];exact⟨by simp,1,rfl⟩
 ·rw[aN aw] at aE;have bL:af (Lib.indexByte S.data.toList c= -1):=aoH aw;simp only[fg] at aE;obtain⟨au,ax,rfl⟩:=aE;obtain rfl:A=S:=lD au.symm;obtain rfl:R=⟨#[]⟩:=lD ax.symm;clear au ax aw;go_enter Tryz.func175,Tryz.ntmps175;go_wp2_with fail;with_reducible refine (Tryz.stringslite_Index_one A c _).mono ?_
  rintro e bt ⟨rfl,rfl⟩;rw[bL.out];go_wp2_with fail;go_ret3;exact⟨rfl,0,rfl⟩
theorem Ct(S:Ua)(hs:S.size≤1000000000)(c:UInt8)(A R:Ua)(b:Bool)(h:af (eJ c S.data.toList=(A.data.toList,R.data.toList,b)))(w:aeo):
  Calls Tryz.prog 152 #[aa S,aa ⟨#[c]⟩] w fun e w'=>e=ab (.tuple #[aa A,aa R,U b])∧xJ w w':=by
 have bH:=ao hs;clear hs;go_enter Tryz.func152,Tryz.ntmps152;go_wp2_with fail;with_reducible refine (aoK S bH.out c A R b h _).mono ?_
 rintro e bt ⟨rfl,hd⟩;have b9:=ao hd;clear hd;go_wp2_with fail;go_ret3;exact⟨rfl,b9.out⟩
theorem IA(c:UInt8)(l:ar):(eJ c l).1.length≤l.length:=by rw[aoI];exact (VF _).length_le
theorem IB(c:UInt8)(l:ar):(eJ c l).2.1.length≤l.length:=by
 unfold eJ;split
 ·rw[e8];omega
 ·exact cO _
theorem aoL(S:Ua)(hs:S.size≤1000000000)(o:Option C)(a1:af (cB.stepG S.data.toList=o))(w:aeo):
  Calls Tryz.prog 111 #[aa S] w (CF o w):=by
 have bH:=ao hs;have az:=a1.out;unfold cB.stepG at az;clear a1 hs;have aU:af (kt w (w.alloc (ai (#[I 0,I 0,I 0,I 0,U false,aa ⟨#[]⟩,aa ⟨#[]⟩,aa ⟨#[]⟩,aa ⟨#[]⟩,aa ⟨#[]⟩,J 0,J 0]) 92))):=va w;go_enter Tryz.func111,Tryz.ntmps111;go_upto_region 1 with fail;generalize w.alloc (.cells #[I 0,I 0,I 0,I 0,U false,aa ⟨#[]⟩,aa ⟨#[]⟩,aa ⟨#[]⟩,aa ⟨#[]⟩,aa ⟨#[]⟩,J 0,J 0] 92)=W at aU⊢;by_cases b4:S.data.toList.headD 0≠88
 ·rw[aW b4] at az;have bn:af (o=none):=az.symm;have bw:af (∀r,S.data.toList≠(⟨#[88]⟩:Ua).data.toList++r):=fun r hr=>b4 (by rw[hr];rfl);clear az b4;go_wp2_with fail;with_reducible refine (CD _ _ bw _).mono ?_
  rintro e bt ⟨rfl,rfl⟩;obtain⟨⟨aV,aT,c2,c3,cD,c5,cX,c7,dj,bB,di,dE⟩,f0,f1,f2,f3,f4,f5,f6,f7,f8,f9,f10,f11⟩:=fc aU.out.a;go_wp2_with fail;exact pM (W:=W) cB.aV bn rfl (.inl rfl) rfl rfl rfl aU.out rfl rfl
 ·rw[aN b4] at az
  obtain⟨r,hr⟩:∃r,S.data.toList=88::r:=by
   cases hS:S.data.toList with
   |nil=>exact absurd (by rw[hS];decide) b4
   |cons a r=>exact⟨r,by rw[hS] at b4;rw[show a=88 from zM b4]⟩
  obtain⟨T,dm⟩:=kd r;rw[←dm] at hr;rw[hr,Ce,wu] at az;have bw:af (S.data.toList=(⟨#[88]⟩:Ua).data.toList++T.data.toList):=hr;have CA:T.size≤1000000000:=(by have au:=fS List.length hr;rw[eT,ch,ch] at au;have:=bH.out;omega);obtain⟨e2,hA1⟩:=kd (eJ 89 T.data.toList).1;obtain⟨R1,qK⟩:=kd (eJ 89 T.data.toList).2.1;obtain⟨cw,cj⟩:=aq ((eJ 89 T.data.toList).2.2);have H1:af (eJ 89 T.data.toList=(e2.data.toList,R1.data.toList,cw)):=(by show _=_;rw[hA1,qK,←cj]);have iP:e2.size≤1000000000∧R1.size≤1000000000:=(by have au:=IA 89 T.data.toList;have ax:=IB 89 T.data.toList;rw[←hA1,ch,ch] at au;rw[←qK,ch,ch] at ax;omega);rw[←hA1,←qK] at az;clear hA1 qK cj;have xZ:af (e2.size≤1000000000∧R1.size≤1000000000):=iP;obtain⟨fV,hA2⟩:=kd (eJ 73 R1.data.toList).1;obtain⟨fa,iZ⟩:=kd (eJ 73 R1.data.toList).2.1;obtain⟨bl,ck⟩:=aq ((eJ 73 R1.data.toList).2.2);have bp:af (eJ 73 R1.data.toList=(fV.data.toList,fa.data.toList,bl)):=(by show _=_;rw[hA2,iZ,←ck]);have gE:fV.size≤1000000000∧fa.size≤1000000000:=(by have au:=IA 73 R1.data.toList;have ax:=IB 73 R1.data.toList;rw[←hA2,ch,ch] at au;rw[←iZ,ch,ch] at ax;omega);rw[←hA2,←iZ] at az;clear hA2 iZ ck;have lG:af (fV.size≤1000000000∧fa.size≤1000000000):=gE;obtain⟨eX,hA3⟩:=kd (eJ 74 fa.data.toList).1;obtain⟨rJ,CG⟩:=kd (eJ 74 fa.data.toList).2.1;obtain⟨ll,eF⟩:=aq ((eJ 74 fa.data.toList).2.2);have bW:af (eJ 74 fa.data.toList=(eX.data.toList,rJ.data.toList,ll)):=(by show _=_;rw[hA3,CG,←eF]);have La:eX.size≤1000000000∧rJ.size≤1000000000:=(by have au:=IA 74 fa.data.toList;have ax:=IB 74 fa.data.toList;rw[←hA3,ch,ch] at au;rw[←CG,ch,ch] at ax;omega);rw[←hA3,←CG] at az;clear hA3 CG eF;have AU:af (eX.size≤1000000000∧rJ.size≤1000000000):=La;obtain⟨ek,jv⟩:=aq (Ae e2.data.toList);obtain⟨bV,h'⟩:=aq (Ae fV.data.toList);obtain⟨gl,VG⟩:=aq (dec eX.data.toList);obtain⟨hI,VH⟩:=aq (dec rJ.data.toList);rw[jv,h',VG,VH] at az;have xj:=ao jv;have ju:=ao h';have nM:af ((dec eX.data.toList).getD 0=gl.getD 0∧(dec eX.data.toList).isSome=gl.isSome):=(by show _∧_;rw[VG];exact⟨rfl,rfl⟩);have AM:af ((dec rJ.data.toList).getD 0=hI.getD 0∧(dec rJ.data.toList).isSome=hI.isSome):=(by show _∧_;rw[VH];exact⟨rfl,rfl⟩);have o9:=ao az;have uU:=ao CA;clear jv h' VG VH az CA iP gE La hr dm b4;go_wp2_with fail;with_reducible refine (qi _ _ _ bw _).mono ?_
  rintro e bt ⟨rfl,rfl⟩;rw[o0];go_wp2_with fail;with_reducible refine (Ct T uU.out 89 e2 R1 cw H1 _).mono ?_
  rintro e db ⟨rfl,hd⟩;have Ax:=ao (aU.out.below (o4 hd));clear hd aU;have aU:=Ax;clear Ax;go_wp2_with fail;with_reducible refine (Ct R1 xZ.out.2 73 fV fa bl bp _).mono ?_
  rintro e bZ ⟨rfl,hd⟩;have iU:=ao (aU.out.below (o4 hd));clear hd aU;have aU:=iU;clear iU;go_wp2_with fail;with_reducible refine (Ct fa lG.out.2 74 eX rJ ll bW _).mono ?_
  rintro e br ⟨rfl,hd⟩;have Mh:=ao (aU.out.below (o4 hd));clear hd aU;have aU:=Mh;clear Mh;go_wp2_with fail;with_reducible refine (GX e2 (cd xZ.out.1 (by decide)) ek xj _).mono ?_
  rintro e b' ⟨he,rfl⟩;unfold K7 at he;subst he;go_wp2_with fail;with_reducible refine (GX fV (cd lG.out.1 (by decide)) bV ju _).mono ?_
  rintro e b' ⟨he,rfl⟩;unfold K7 at he;subst he;go_wp2_with fail;with_reducible refine (O4 eX _ _ nM (cd AU.out.1 (by decide)) _).mono ?_
  rintro e b' ⟨rfl,rfl⟩;go_wp2_with fail;with_reducible refine (O4 rJ _ _ AM (cd AU.out.2 (by decide)) _).mono ?_
  rintro e b' ⟨rfl,rfl⟩;cases ek with
  |none=>
   have bn:af (o=none):=o9.out.symm;clear o9;simp only[Mc,Md];obtain⟨⟨aV,aT,c2,c3,cD,c5,cX,c7,dj,bB,di,dE⟩,f0,f1,f2,f3,f4,f5,f6,f7,f8,f9,f10,f11⟩:=fc aU.out.a;go_wp2_with fail;exact pM (W:=br) cB.aV bn rfl (.inl rfl) rfl rfl rfl aU.out rfl rfl
  |some v1=>
   cases bV with
   |none=>
    have bn:af (o=none):=o9.out.symm;clear o9;simp only[Mc,Md,Me,Mf];obtain⟨⟨aV,aT,c2,c3,cD,c5,cX,c7,dj,bB,di,dE⟩,f0,f1,f2,f3,f4,f5,f6,f7,f8,f9,f10,f11⟩:=fc aU.out.a;go_wp2_with fail;exact pM (W:=br) cB.aV bn rfl (.inl rfl) rfl rfl rfl aU.out rfl rfl
   |some v2=>
    cases gl with
    |none=>
     have bn:af (o=none):=o9.out.symm;clear o9;simp only[Mc,Md,Me,Mf];obtain⟨⟨aV,aT,c2,c3,cD,c5,cX,c7,dj,bB,di,dE⟩,f0,f1,f2,f3,f4,f5,f6,f7,f8,f9,f10,f11⟩:=fc aU.out.a;go_wp2_with fail;exact pM (W:=br) cB.aV bn rfl (.inl rfl) rfl rfl rfl aU.out rfl rfl
    |some v3=>
     cases hI with
     |none=>
      have bn:af (o=none):=o9.out.symm;clear o9;simp only[Mc,Md,Me,Mf];obtain⟨⟨aV,aT,c2,c3,cD,c5,cX,c7,dj,bB,di,dE⟩,f0,f1,f2,f3,f4,f5,f6,f7,f8,f9,f10,f11⟩:=fc aU.out.a;go_wp2_with fail;exact pM (W:=br) cB.aV bn rfl (.inl rfl) rfl rfl rfl aU.out rfl rfl
     |some v4=>
      have bn:af (o=some {dD 13 with n:=(v1:Int),m:=(v2:Int),bX:=[v3,v4]}):=o9.out.symm;clear o9;simp only[Me,Mf];have bd:af (dd br.heap.size (br.alloc (ai (#[I v3,I v4]) 2)) (some (aj br.heap.size 0)) [v3,v4]):=by intro _;refine⟨br.heap.size,0,_,rfl,aP _,dL br _,fun i hi=>?_⟩;have ax:i<2:=hi;have aA:i=0∨i=1:=(by omega);rcases aA with rfl|rfl<;>rfl
      have yk:af (kt w (br.alloc (ai (#[I v3,I v4]) 2))):=aU.out.below ((Below.refl _ _).alloc (aP _) _);have oZ:af (w.heap.size<br.heap.size):=(Array.getElem?_eq_some_iff.1 aU.out.a).1;clear aU;obtain⟨⟨aV,aT,c2,c3,cD,c5,cX,c7,dj,bB,di,dE⟩,f0,f1,f2,f3,f4,f5,f6,f7,f8,f9,f10,f11⟩:=fc yk.out.a;have jJ:=ao ((alb oZ.out bd.out {dD 13 with n:=(v1:Int),m:=(v2:Int),bX:=[v3,v4]} 0 (ag br.heap.size 0 2 2) cA).mono (k5 oZ.out));go_wp2_with fail;exact E7 {dD 13 with n:=(v1:Int),m:=(v2:Int),bX:=[v3,v4]} (ad (some (aj br.heap.size 0)) 2 2) rfl (.inl rfl) rfl rfl yk.out.a yk.out.b fun ay=>⟨ay,{dD 13 with n:=(v1:Int),m:=(v2:Int),bX:=[v3,v4]},_,2,by rw[bn.out];rfl,jJ.out,rfl,by rw[bn.out];intro e he;exact (wi he).symm⟩
variable{k b:Nat}
theorem VI(aw:k<256)(h:c≠UInt8.ofNat k):((c.toNat:Int) !=(k:Int))=true:=by rw[bne,HC aw h];rfl
theorem aoM(S:Ua)(hs:S.size≤1000000000)(o:Option C)(a1:af (Gs S.data.toList=o))(w:aeo):
  Calls Tryz.prog 108 #[aa S] w (CF o w):=by
 have bH:=ao hs;have az:=a1.out;unfold Gs at az;rw[ch] at az;clear a1 hs;have aU:af (kt w (w.alloc (ai (#[I 0,I 0,I 0,I 0,U false,aa ⟨#[]⟩,aa ⟨#[]⟩,aa ⟨#[]⟩,aa ⟨#[]⟩,aa ⟨#[]⟩,J 0,J 0]) 92))):=va w;go_enter Tryz.func108,Tryz.ntmps108;go_upto_region 1 with fail;generalize w.alloc (.cells #[I 0,I 0,I 0,I 0,U false,aa ⟨#[]⟩,aa ⟨#[]⟩,aa ⟨#[]⟩,aa ⟨#[]⟩,aa ⟨#[]⟩,J 0,J 0] 92)=W at aU⊢;by_cases dM:S.size≠8
 ·rw[aW (.inl dM)] at az;have bn:af (o=none):=az.symm;have VJ:((S.size:Int) !=8)=true:=(by simp;omega);clear az dM
  go_quiet (fail)
  generalize pa:W.drewN _=eE;have iU:=ao (aU.out.below (o4 ⟨_,pa.symm⟩));clear pa aU;have aU:=iU;clear iU;obtain⟨⟨aV,aT,c2,c3,cD,c5,cX,c7,dj,bB,di,dE⟩,f0,f1,f2,f3,f4,f5,f6,f7,f8,f9,f10,f11⟩:=fc aU.out.a;go_wp2_with fail;exact pM (W:=eE) cB.aV bn rfl (.inl rfl) rfl rfl rfl aU.out rfl rfl
 ·have VJ:S.size=8:=zM dM;have Yh:((S.size:Int) !=8)=false:=(by simp;omega);have ac6:S.data.toList.length=8:=by rw[ch];exact VJ
  obtain⟨d0,d1,d2,d3,d4,d5,d6,d7,hS⟩:∃d0 d1 d2 d3 d4 d5 d6 d7,S.data.toList=[d0,d1,d2,d3,d4,d5,d6,d7]:=by
   match aG:S.data.toList,ac6 with
   |[d0,d1,d2,d3,d4,d5,d6,d7],_=>exact⟨_,_,_,_,_,_,_,_,rfl⟩
  have g0:S[0]'(by omega)=d0:=(by have h:=oo S 0 (by omega);rw[←h];simp[hS]);have g1:S[1]'(by omega)=d1:=(by have h:=oo S 1 (by omega);rw[←h];simp[hS]);have g2:S[2]'(by omega)=d2:=(by have h:=oo S 2 (by omega);rw[←h];simp[hS]);have g3:S[3]'(by omega)=d3:=(by have h:=oo S 3 (by omega);rw[←h];simp[hS]);have g4:S[4]'(by omega)=d4:=(by have h:=oo S 4 (by omega);rw[←h];simp[hS]);have g5:S[5]'(by omega)=d5:=(by have h:=oo S 5 (by omega);rw[←h];simp[hS]);have g6:S[6]'(by omega)=d6:=(by have h:=oo S 6 (by omega);rw[←h];simp[hS]);have g7:S[7]'(by omega)=d7:=(by have h:=oo S 7 (by omega);rw[←h];simp[hS]);have ac7:(S.extract 1 3).data.toList=[d1,d2]:=(by rw[Km,hS];rfl);have ac8:(S.extract 3 5).data.toList=[d3,d4]:=(by rw[Km,hS];rfl);have ac9:(S.extract 6 S.size).data.toList=[d6,d7]:=(by rw[lX,hS];rfl);have adb:(S.extract 3 S.size).data.toList=[d3,d4,d5,d6,d7]:=(by rw[lX,hS];rfl);have IC:af ((S.extract 3 S.size).size≤maxLen):=(by show _≤_;rw[←ch,adb];show 5≤maxLen;decide);obtain⟨n,hn⟩:=aq (bK (S.extract 3 S.size).data.toList);have oy:=ao hn;rw[adb] at hn;have bP:(8:Int)≤(S.size:Int):=(by omega);clear VJ ac6;by_cases eB:d0≠76∧d0≠84
  ·have fx:((d0.toNat:Int) !=76)=true:=VI (k:=76) (by decide) eB.1;have df:((d0.toNat:Int) !=84)=true:=VI (k:=84) (by decide) eB.2;rw[aW (.inr (.inl (by rw[hS];exact eB)))] at az;have bn:af (o=none):=az.symm;clear az
   go_quiet (first|(go_at_call 151;exact s7 ((pK (S.extract 3 S.size) IC.out n oy _).mono fun _ _ h=>⟨h.1,h.2.symm⟩)))
   generalize pa:W.drewN _=eE;have iU:=ao (aU.out.below (o4 ⟨_,pa.symm⟩));clear pa aU;have aU:=iU;clear iU;obtain⟨⟨aV,aT,c2,c3,cD,c5,cX,c7,dj,bB,di,dE⟩,f0,f1,f2,f3,f4,f5,f6,f7,f8,f9,f10,f11⟩:=fc aU.out.a;go_wp2_with fail;exact pM (W:=eE) cB.aV bn rfl (.inl rfl) rfl rfl rfl aU.out rfl rfl
  ·obtain⟨sy,ve⟩:∃sy:Bool,(d0=76∧((76:UInt8).toNat:Int)=76∧false=sy)∨(d0=84∧((84:UInt8).toNat:Int)=84∧true=sy):=by
    by_cases h:d0=76
    ·exact⟨_,.inl ⟨h,rfl,rfl⟩⟩
    ·by_cases ax:d0=84
     ·exact⟨_,.inr ⟨ax,rfl,rfl⟩⟩
     ·exact absurd ⟨h,ax⟩ eB
   have D3:af (∀n m:Int,some {dD 8 with on:=sy,n:=n,m:=m}=o→o=some {dD 8 with on:=sy,n:=n,m:=m}):=fun _ _ h=>h.symm;rcases ve with ⟨rfl,ho,rfl⟩|⟨rfl,ho,rfl⟩
   all_goals
    by_cases bI: [d1,d2]≠[65,88]
    ·have yP:((S.extract 1 3).toList==[65,88])=false:=(by rw[hZ,ac7];exact fJ bI);rw[aW (.inr (.inr (.inl (by rw[hS];exact bI))))] at az;have bn:af (o=none):=az.symm;clear az
     go_quiet (first|(go_at_call 151;exact s7 ((pK (S.extract 3 S.size) IC.out n oy _).mono fun _ _ h=>⟨h.1,h.2.symm⟩)))
     generalize pa:W.drewN _=eE;have iU:=ao (aU.out.below (o4 ⟨_,pa.symm⟩));clear pa aU;have aU:=iU;clear iU;obtain⟨⟨aV,aT,c2,c3,cD,c5,cX,c7,dj,bB,di,dE⟩,f0,f1,f2,f3,f4,f5,f6,f7,f8,f9,f10,f11⟩:=fc aU.out.a;go_wp2_with fail;exact pM (W:=eE) cB.aV bn rfl (.inl rfl) rfl rfl rfl aU.out rfl rfl
    ·have yP:((S.extract 1 3).toList==[65,88])=true:=(by rw[hZ,ac7];exact gx (zM bI));by_cases bJ:n≠2
     ·have Eb:((n:Int) !=2)=true:=(by simp;omega);rw[aW (.inr (.inr (.inr (.inl (by rw[hS];show bK [d3,d4,d5,d6,d7]≠2;rw[hn];exact bJ)))))] at az;have bn:af (o=none):=az.symm;clear az
      go_quiet (first|(go_at_call 151;exact s7 ((pK (S.extract 3 S.size) IC.out n oy _).mono fun _ _ h=>⟨h.1,h.2.symm⟩)))
      generalize pa:W.drewN _=eE;have iU:=ao (aU.out.below (o4 ⟨_,pa.symm⟩));clear pa aU;have aU:=iU;clear iU;obtain⟨⟨aV,aT,c2,c3,cD,c5,cX,c7,dj,bB,di,dE⟩,f0,f1,f2,f3,f4,f5,f6,f7,f8,f9,f10,f11⟩:=fc aU.out.a;go_wp2_with fail;exact pM (W:=eE) cB.aV bn rfl (.inl rfl) rfl rfl rfl aU.out rfl rfl
     ·have Eb:((n:Int) !=2)=false:=(by simp;omega);by_cases dT:d5≠89
      ·have Ec:((d5.toNat:Int) !=89)=true:=VI (k:=89) (by decide) dT;rw[aW (.inr (.inr (.inr (.inr (.inl (by rw[hS];exact dT))))))] at az;have bn:af (o=none):=az.symm;clear az
       go_quiet (first|(go_at_call 151;exact s7 ((pK (S.extract 3 S.size) IC.out n oy _).mono fun _ _ h=>⟨h.1,h.2.symm⟩)))
       generalize pa:W.drewN _=eE;have iU:=ao (aU.out.below (o4 ⟨_,pa.symm⟩));clear pa aU;have aU:=iU;clear iU;obtain⟨⟨aV,aT,c2,c3,cD,c5,cX,c7,dj,bB,di,dE⟩,f0,f1,f2,f3,f4,f5,f6,f7,f8,f9,f10,f11⟩:=fc aU.out.a;go_wp2_with fail;exact pM (W:=eE) cB.aV bn rfl (.inl rfl) rfl rfl rfl aU.out rfl rfl
      ·obtain rfl:d5=89:=zM dT;have Ec:((89:UInt8).toNat:Int)=89:=rfl;by_cases hz: [d6,d7]≠[d3,d4]
       ·have kP:((S.extract 6 S.size).toList==(S.extract 3 5).toList)=false:=(by rw[nj,nj,ac9,ac8,fO];exact hz);rw[aW (.inr (.inr (.inr (.inr (.inr (by rw[hS];exact hz))))))] at az;have bn:af (o=none):=az.symm;clear az
        go_quiet (first|(go_at_call 151;exact s7 ((pK (S.extract 3 S.size) IC.out n oy _).mono fun _ _ h=>⟨h.1,h.2.symm⟩)))
        generalize pa:W.drewN _=eE;have iU:=ao (aU.out.below (o4 ⟨_,pa.symm⟩));clear pa aU;have aU:=iU;clear iU;obtain⟨⟨aV,aT,c2,c3,cD,c5,cX,c7,dj,bB,di,dE⟩,f0,f1,f2,f3,f4,f5,f6,f7,f8,f9,f10,f11⟩:=fc aU.out.a;go_wp2_with fail;exact pM (W:=eE) cB.aV bn rfl (.inl rfl) rfl rfl rfl aU.out rfl rfl
       ·have kP:((S.extract 6 S.size).toList==(S.extract 3 5).toList)=true:=by rw[nj,nj,ac9,ac8,xl];exact zM hz
        rw [aN (by
         rw[hS];rintro (h|h|h|h|h|h)
         ·exact dM h
         ·exact eB h
         ·exact bI h
         ·exact absurd (show bK [d3,d4,89,d6,d7]≠2 from h) (by rw[hn];exact bJ)
         ·exact h rfl
         ·exact hz h)] at az
        have bn:=ao (D3.out ((d3.toNat:Int)-48) ((d4.toNat:Int)-48) (by rw[←az,hS];rfl));have hd:=(Aa [d3,d4,89,d6,d7]).1;rw[hn] at hd;have pW:=(sZ _).1 (hd 0 (by simp) (by omega));have ade:=(sZ _).1 (hd 1 (by simp) (by omega));simp only[Mg,Iz] at pW ade;obtain⟨aoN,aoO⟩:=pW;obtain⟨aoP,aoQ⟩:=ade;obtain⟨jm,Mi⟩:=aq (d3.toNat:Int);obtain⟨rP,adf⟩:=aq (d4.toNat:Int);have awi:48≤jm:=(by omega);have awj:jm≤57:=(by omega);have awk:48≤rP:=(by omega);have awl:rP≤57:=(by omega);clear az hd aoN aoO aoP aoQ;rw[Mi,adf] at bn
        go_quiet (first|(go_at_call 151;exact s7 ((pK (S.extract 3 S.size) IC.out n oy _).mono fun _ _ h=>⟨h.1,h.2.symm⟩)))
        generalize pa:W.drewN _=eE;have iU:=ao (aU.out.below (o4 ⟨_,pa.symm⟩));clear pa aU;have aU:=iU;clear iU;go_upto_region 3 with fail;obtain⟨⟨aV,aT,c2,c3,cD,c5,cX,c7,dj,bB,di,dE⟩,f0,f1,f2,f3,f4,f5,f6,f7,f8,f9,f10,f11⟩:=fc aU.out.a;go_region
        all_goals
         clear aV aT c2 c3 cD c5 cX c7 dj bB di dE f0 f1 f2 f3 f4 f5 f6 f7 f8 f9 f10 f11;go_wp2_with fail;exact vh (W:=eE) bn rfl (.inr rfl) rfl rfl rfl aU.out rfl rfl
theorem adg(h:(eJ c l).2.2=true):(eJ c l).2.1.length<l.length:=by
 unfold eJ at h⊢;split
 ·rename_i aw;rw[e8];omega
 ·rename_i aw;rw[aN aw] at h;exact absurd h Bool.false_ne_true
def Qg:ada→Nat
 |.bool true=>1
 |_=>0
theorem aoR:(Tryz.prog.info? 2).map (fun i=>(i.zero,i.size,i.bytes))=some (some (I 0),1,8):=by kernel_rfl
def Da(l:List Int):List Value:=l.map fun v=>I v
structure zN(w:aeo)(b:Nat)(c:C)(bF:ada)(acc:List Int)(W:aeo):Prop where
 gt:w.heap.size<b
 r:W.heap[w.heap.size]?=some AX
 p:W.heap[b]?=some (tS c 0 bF cA)
 row:W.ownsRow w.heap.size 2 1 bF acc.length (Da acc)
 aM:an w w W
variable{w W:aeo}{acc:List Int}
theorem zN.below{jN:aeo}{c:C}{bF:ada}(h:zN w b c bF acc W)(ay:an W W jN):zN w b c bF acc jN:=
 ⟨h.gt,ba h.r ay,ba h.p ay,fY h.row ay,h.aM.trans (ay.mono h.aM.size)⟩
theorem zN.push{X bk:aeo}{c:C}{bF v':ada}{v:Int}(h:zN w b c bF acc W)(b2:an W W X)(aI:X.grownBy bk bF.ownBlock)(a1:bk.ownsRow w.heap.size 2 1 v' (acc.length+1) (Da acc++[I v])):
  zN w b c v' (acc++[v]) (bk.setCell (aj b 10) v')∧bk.heap[b]?=some (tS c 0 bF cA):=by
 have au:=h.below b2;have lt:∀{k:Nat} {o:Obj},X.heap[k]?=some o→k<X.heap.size:=fun aw=>(Array.getElem?_eq_some_iff.1 aw).1;have hr:bk.heap[w.heap.size]?=some AX:=(aI.block _ (lt au.r) (eN (nP au.row au.r (by decide)))).trans au.r;have hp:bk.heap[b]?=some (tS c 0 bF cA):=(aI.block _ (lt au.p) (eN (nP au.row au.p (by decide)))).trans au.p;refine⟨⟨h.gt,?_,?_,?_,?_⟩,hp⟩
 ·exact (hC _ _ _ _ (by show w.heap.size≠b;have:=h.gt;omega)).trans hr
 ·rw[ke hp];rfl
 ·rw[show (acc++[v]).length=acc.length+1 by simp,show Da (acc++[v])=Da acc++[I v] by simp[Da]];exact tR a1 hp (by decide) _
 ·exact ((au.aM.grown aI au.aM.size (fun k aw=>(au.row.lt _ aw).1))).setCell (k5 h.gt) _
theorem zN.bX{c:C}{p:Ja}{cap:Nat}(h:zN w b c (ad p acc.length cap) acc W):dd w.heap.size W p acc:=by
 intro az;rcases h.row.2 with ⟨_,ax⟩|⟨g,c2,cur,au,ax,aA,bb,bj,b8,cY⟩
 ·exact absurd ax (by omega)
 ·injection au with aY _ _;refine⟨g,0,cur,aY,ax,aA,fun i hi=>?_⟩;have dM:(cur.toList.take (acc.length *1))[i]?=(Da acc)[i]?:=(by rw[cY]);rw[FU (by omega),yO] at dM;rw[jt,dM,Da,D7,iW hi];rfl
def Mj(k:Nat)(t:ar):Option (List Int)→Option C
 |none=>none
 |some l=>some {dD 10 with n:=k,t:=t,bX:=l}
theorem aoS(f:Nat)(s:ar)(acc:List Int):vR (f+1) s acc=match dec (eJ 88 s).1 with
 |none=>none
 |some v=>if (eJ 88 s).2.2=true then vR f (eJ 88 s).2.1 (acc++[v]) else some (acc++[v]):=rfl
theorem aoU(aB:tc (T.take (bK T))=some k)(hn:td (eJ 44 (T.drop (bK T))).1=true):
  mn (68::T)=Mj k (eJ 44 (T.drop (bK T))).1 (if (eJ 44 (T.drop (bK T))).2.2=true then vR ((T.drop (bK T)).length+1) (eJ 44 (T.drop (bK T))).2.1 [] else some []):=by
 unfold mn mn.BN;rw[aN (by simp)];simp only[Ce,wu,aB];rw[aN (by rw[hn];decide)];cases ay:(eJ 44 (T.drop (bK T))).2.2 with
 |false=>rfl
 |true=>
  rw[aN (by decide),aW rfl];unfold Mj;split<;>rename_i au<;>rw[au]
theorem aoV(aB:tc (T.take (bK T))=some k)(hn:td (eJ 44 (T.drop (bK T))).1=false):mn (68::T)=none:=by unfold mn mn.BN;rw[aN (by simp)];simp only[Ce,wu,aB];rw[aW hn]
theorem aoW(aB:tc (T.take (bK T))=none):mn (68::T)=none:=by unfold mn mn.BN;rw[aN (by simp)];simp only[Ce,wu,aB]
theorem VK{B:Nat}{cs:ajv}{t:aai}{p:Ja}{l:List Int}(h:dd B w p l)(ay:al w b cs t)(bc:2≠t)(c:C)(a:Int)(bF bv:ada):dd B (sA w b c a bF bv) p l:=by
 intro az;obtain⟨d,o,p6,rfl,bz,aE,aB⟩:=h az;have hd:d≠b:=by intro e;rw[e,ay] at aE;injection aE with aE;injection aE with _ a6 _;exact bc a6.symm
 exact⟨d,o,p6,rfl,bz,(T3 w hd c a bF bv).trans aE,aB⟩
theorem aoX(S:Ua)(hs:S.size≤1000000000)(o:Option C)(a1:af (mn S.data.toList=o))(w:aeo):
  Calls Tryz.prog 109 #[aa S] w (CF o w):=by
 have bH:=ao hs;have az:=a1.out;clear a1 hs;have aU:af (kt w (w.alloc (ai (#[I 0,I 0,I 0,I 0,U false,aa ⟨#[]⟩,aa ⟨#[]⟩,aa ⟨#[]⟩,aa ⟨#[]⟩,aa ⟨#[]⟩,J 0,J 0]) 92))):=va w;go_enter Tryz.func109,Tryz.ntmps109;go_upto_region 1 with fail;generalize w.alloc (.cells #[I 0,I 0,I 0,I 0,U false,aa ⟨#[]⟩,aa ⟨#[]⟩,aa ⟨#[]⟩,aa ⟨#[]⟩,aa ⟨#[]⟩,J 0,J 0] 92)=W at aU⊢;by_cases b4:S.data.toList.headD 0≠68
 ·unfold mn at az;rw[aW b4] at az;have bn:af (o=none):=az.symm;have bw:af (∀r,S.data.toList≠(⟨#[68]⟩:Ua).data.toList++r):=fun r hr=>b4 (by rw[hr];rfl);clear az b4;go_wp2_with fail;with_reducible refine (CD _ _ bw _).mono ?_
  rintro e bt ⟨rfl,rfl⟩;obtain⟨⟨aV,aT,c2,c3,cD,c5,cX,c7,dj,bB,di,dE⟩,f0,f1,f2,f3,f4,f5,f6,f7,f8,f9,f10,f11⟩:=fc aU.out.a;go_wp2_with fail;exact pM (W:=W) cB.aV bn rfl (.inl rfl) rfl rfl rfl aU.out rfl rfl
 ·obtain⟨r,hr⟩:∃r,S.data.toList=68::r:=by
   cases hS:S.data.toList with
   |nil=>exact absurd (by rw[hS];decide) b4
   |cons a r=>exact⟨r,by rw[hS] at b4;rw[show a=68 from zM b4]⟩
  obtain⟨T,dm⟩:=kd r;rw[←dm] at hr;rw[hr] at az;have bw:af (S.data.toList=(⟨#[68]⟩:Ua).data.toList++T.data.toList):=hr;have CA:T.size≤1000000000:=(by have au:=fS List.length hr;rw[eT,ch,ch] at au;have:=bH.out;omega);obtain⟨n,hn⟩:=aq (bK T.data.toList);have oy:=ao hn;have awm:n≤T.size:=(by have au:=r1 T.data.toList;rw[hn,ch] at au;exact au);have uU:=ao CA;obtain⟨ek,jv⟩:=aq (tc (T.extract 0 n).data.toList);have xj:=ao jv;have K8:af ((T.extract 0 n).size≤maxLen):=(by show _≤_;rw[←ch,CC,lz,ch];unfold maxLen;omega);have VL:af ((T.extract n T.size).size≤1000000000):=(by show _≤_;rw[←ch,lX,e8,ch];omega);rw[CC,←hn] at jv;clear hr dm b4 CA;go_wp2_with fail;with_reducible refine (qi _ _ _ bw _).mono ?_
  rintro e bt ⟨rfl,rfl⟩;rw[o0];go_wp2_with fail;with_reducible refine (pK T (cd uU.out (by decide)) n oy _).mono ?_
  rintro e bt ⟨rfl,rfl⟩;go_wp2_with fail;with_reducible refine (T1 (T.extract 0 n) K8.out ek xj _).mono ?_
  rintro e db ⟨aB,rfl⟩;cases ek with
  |none=>
   have bn:af (o=none):=(by show _=_;rw[←az,aoW jv]);obtain rfl:e=ab (.tuple #[I ((0:Nat):Int),U false]):=aB;clear az jv hn;obtain⟨⟨aV,aT,c2,c3,cD,c5,cX,c7,dj,bB,di,dE⟩,f0,f1,f2,f3,f4,f5,f6,f7,f8,f9,f10,f11⟩:=fc aU.out.a;go_wp2_with fail;exact pM (W:=W) cB.aV bn rfl (.inl rfl) rfl rfl rfl aU.out rfl rfl
  |some k=>
   obtain rfl:e=ab (.tuple #[I ((k:Nat):Int),U true]):=aB;obtain⟨e2,hA1⟩:=kd (eJ 44 (T.extract n T.size).data.toList).1;obtain⟨R1,qK⟩:=kd (eJ 44 (T.extract n T.size).data.toList).2.1;obtain⟨cw,cj⟩:=aq ((eJ 44 (T.extract n T.size).data.toList).2.2);have H1:af (eJ 44 (T.extract n T.size).data.toList=(e2.data.toList,R1.data.toList,cw)):=(by show _=_;rw[hA1,qK,←cj]);have iP:e2.size≤1000000000∧R1.size≤(T.extract n T.size).size:=(by have au:=IA 44 (T.extract n T.size).data.toList;have ax:=IB 44 (T.extract n T.size).data.toList;rw[←hA1,ch,ch] at au;rw[←qK,ch,ch] at ax;have:=VL.out;omega);obtain⟨mJ,kU⟩:=aq (td e2.data.toList);have kq:=ao kU;have xZ:af (e2.size≤1000000000∧R1.size≤(T.extract n T.size).size):=iP;have EY:T.data.toList.drop (bK T.data.toList)=(T.extract n T.size).data.toList:=(by rw[lX,hn]);have cK:af (td e2.data.toList=true→Mj k e2.data.toList (if cw=true then vR ((T.extract n T.size).size+1) R1.data.toList [] else some [])=o):=(by intro h;rw[←az,aoU jv (by rw[EY,←hA1];exact h),EY,←hA1,cj,ch,qK]);have fq:af (td e2.data.toList=false→o=none):=(by intro h;rw[←az,aoV jv (by rw[EY,←hA1];exact h)]);clear az jv hn hA1 qK cj iP kU EY;go_wp2_with fail;with_reducible refine (Ct (T.extract n T.size) VL.out 44 e2 R1 cw H1 _).mono ?_
   rintro e db ⟨rfl,hd⟩;have Ax:=ao (aU.out.below (o4 hd));clear hd aU;have aU:=Ax;clear Ax;go_wp2_with fail;with_reducible refine (aaA e2 (cd xZ.out.1 (by decide)) mJ kq _).mono ?_
   rintro e bZ ⟨rfl,rfl⟩;cases mJ with
   |false=>
    have bn:af (o=none):=fq.out kq.out;clear cK fq;obtain⟨⟨aV,aT,c2,c3,cD,c5,cX,c7,dj,bB,di,dE⟩,f0,f1,f2,f3,f4,f5,f6,f7,f8,f9,f10,f11⟩:=fc aU.out.a;go_wp2_with fail;exact pM (W:=db) cB.aV bn rfl (.inl rfl) rfl rfl rfl aU.out rfl rfl
   |true=>
    have aQ:=ao (cK.out kq.out);clear cK fq;have cJ:af (zN w db.heap.size {dD 10 with n:=(k:Int),t:=e2.data.toList} cA [] (db.alloc (ai (#[I 0,I 10,I (k:Int),I 0,U false,aa e2,aa ⟨#[]⟩,aa ⟨#[]⟩,aa ⟨#[]⟩,aa ⟨#[]⟩,J 0,J 0]) 92))):=⟨(Array.getElem?_eq_some_iff.1 aU.out.a).1,ba aU.out.a ((Below.refl _ _).alloc (aP _) _),dL db _,World.ownsRow_nil _ _ _ _,aU.out.b.alloc aU.out.b.size _⟩;have cM:af ((T.extract n T.size).size≤1000000000):=VL;go_upto_region 12 with fail;generalize db.alloc (.cells #[I 0,I 10,I (k:Int),I 0,U false,aa e2,aa ⟨#[]⟩,aa ⟨#[]⟩,aa ⟨#[]⟩,aa ⟨#[]⟩,J 0,J 0] 92)=fU at cJ⊢;obtain⟨vy,qk⟩:=aq db.heap.size;rw[qk] at cJ⊢;clear aU qk K8
    go_loopw [9,10] (fun l s wr=>∃(f:Nat) (hM:Ua) (ku:Bool) (acc:List Int) (bF:ada),l=aa hM∧s=U ku∧af (zN w vy {dD 10 with n:=(k:Int),t:=e2.data.toList} bF acc wr)∧af (hM.size≤1000000000)∧af (ku=true→hM.size<f)∧af (acc.length+f≤1000000010)∧af (Mj k e2.data.toList (if ku=true then vR f hM.data.toList acc else some acc)=o)) (fun l s _=>Qg s *(Lib.strSize l+1))
    case atStart=>exact⟨_,R1,cw,[],cA,rfl,rfl,cJ,cd xZ.out.2 cM.out,fun _=>Nat.lt_succ_of_le xZ.out.2,(by have:=cM.out;show 0+_≤_;omega),aQ⟩
    case round=>
     obtain⟨f,hM,ku,acc,bF,rfl,rfl,cJ,FV,kn,fp,aQ⟩:=hrel;cases ku with
     |false=>
      have bn:af (o=some {dD 10 with n:=(k:Int),t:=e2.data.toList,bX:=acc}):=aQ.out.symm;obtain⟨p,cap,rfl⟩:=iw cJ.out.row;obtain⟨⟨aV,aT,c2,c3,cD,c5,cX,c7,dj,bB,di,dE⟩,f0,f1,f2,f3,f4,f5,f6,f7,f8,f9,f10,f11⟩:=fc cJ.out.r;obtain⟨⟨d0,d1,d2,d3,d4,d5,d6,d7,d8,d9,d10,d11⟩,g0,g1,g2,g3,g4,g5,g6,g7,g8,g9,g10,g11⟩:=fc cJ.out.p;have jJ:=ao (VK cJ.out.bX cJ.out.r (by decide) {dD 10 with n:=(k:Int),t:=e2.data.toList,bX:=acc} 0 (ad p acc.length cap) cA);go_wp2_with fail;exact E7 {dD 10 with n:=(k:Int),t:=e2.data.toList,bX:=acc} (ad p acc.length cap) rfl (.inl rfl) rfl rfl cJ.out.r cJ.out.aM fun ay=>⟨ay,{dD 10 with n:=(k:Int),t:=e2.data.toList,bX:=acc},p,cap,by rw[bn.out];rfl,jJ.out,rfl,by rw[bn.out];intro e he;exact (wi he).symm⟩
     |true=>
      obtain⟨g,rfl⟩:∃g,f=g+1:=⟨f-1,by have:=kn.out rfl;omega⟩;have fy:af (hM.size<g+1):=kn.out rfl;clear kn;obtain⟨fV,hA2⟩:=kd (eJ 88 hM.data.toList).1;obtain⟨fa,iZ⟩:=kd (eJ 88 hM.data.toList).2.1;obtain⟨bl,ck⟩:=aq ((eJ 88 hM.data.toList).2.2);have bp:af (eJ 88 hM.data.toList=(fV.data.toList,fa.data.toList,bl)):=(by show _=_;rw[hA2,iZ,←ck]);have lG:af (fV.size≤hM.size∧fa.size≤hM.size∧(bl=true→fa.size<hM.size)):=(by have au:=IA 88 hM.data.toList;have ax:=IB 88 hM.data.toList;have aA:=fun h=>adg (c:=88) (l:=hM.data.toList) h;rw[←hA2,ch,ch] at au;rw[←iZ,ch,ch] at ax;rw[←iZ,ch,ch,ck] at aA;exact⟨au,ax,aA⟩);obtain⟨bV,h'⟩:=aq (dec fV.data.toList);have ju:af ((dec fV.data.toList).getD 0=bV.getD 0∧(dec fV.data.toList).isSome=bV.isSome):=(by show _∧_;rw[h'];exact⟨rfl,rfl⟩);have hr:=aQ.out;rw[aW rfl,aoS,←hA2,h',ck,←iZ] at hr;have dC:=ao hr;clear hA2 iZ ck h' hr aQ;go_wp2_with fail;with_reducible refine (Ct hM FV.out 88 fV fa bl bp _).mono ?_
      rintro e br ⟨rfl,hd⟩;have kX:=ao (cJ.out.below (o4 hd));clear hd cJ;have cJ:=kX;clear kX;go_wp2_with fail;with_reducible refine (O4 fV _ _ ju (cd (cd lG.out.1 FV.out) (by decide)) _).mono ?_
      rintro e b' ⟨rfl,rfl⟩;cases bV with
      |none=>
       have bn:af (o=none):=dC.out.symm;have aU:af (kt w br):=⟨cJ.out.r,cJ.out.aM⟩;clear dC;simp only[Mc,Md];obtain⟨⟨aV,aT,c2,c3,cD,c5,cX,c7,dj,bB,di,dE⟩,f0,f1,f2,f3,f4,f5,f6,f7,f8,f9,f10,f11⟩:=fc aU.out.a;go_wp2_with fail;exact pM (W:=br) cB.aV bn rfl (.inl rfl) rfl rfl rfl aU.out rfl rfl
      |some v=>
       simp only[Me,Mf];have fz:af (Mj k e2.data.toList (if bl=true then vR g fa.data.toList (acc++[v]) else some (acc++[v]))=o):=dC.out;clear dC;obtain⟨p,cap,rfl⟩:=iw cJ.out.row;obtain⟨⟨d0,d1,d2,d3,d4,d5,d6,d7,d8,d9,d10,d11⟩,g0,g1,g2,g3,g4,g5,g6,g7,g8,g9,g10,g11⟩:=fc cJ.out.p;have uR:acc.length≤1000000010:=(by have:=fp.out;omega);obtain⟨i0,kf,cW,dv,dx⟩:=info_parts aoR;have bL:=ao (And.intro kf (And.intro cW (And.intro dv dx)));clear kf cW dv dx;go_wp2_with (at_builtin;refine wz _ rfl _ _ _ rfl w.heap.size 2 i0 (I 0) 1 8 Tryz.underlying22 bL.out.1 bL.out.2.1 bL.out.2.2.1 bL.out.2.2.2 rfl (by omega) (ad p acc.length cap) acc.length (Da acc) (by rfl) (cJ.out.row.alloc _) (aj ((br).heap.size) 0) 1 1 [I v] (by rfl) rfl (jx (dL (br) _)) (by simp[Value.oneCell']) (by unfold maxLen;omega) (by omega) (by have:=cJ.out.aM.size;simp<;>omega) ?_;intro v' w' gr h9 om;obtain⟨mG,k7,rfl,_,_⟩:=gr.form (by omega);obtain⟨Mk,hT⟩:=cJ.out.push (v:=v) (v':=ad (some (aj mG 0)) (acc.length+1) k7) ((Below.refl _ _).alloc (aP _) _) h9 gr;have Bn:=ao Mk;have VM:ak w' vy 10 _:=Cd w' vy 10 _ _ (0,0) hT;have VN:w'.frozen? ⟨vy,10,none⟩=false:=(by simp[World.frozen?,hT]);clear Mk hT;clear gr h9 om);clear d0 d1 d2 d3 d4 d5 d6 d7 d8 d9 d10 d11 g0 g1 g2 g3 g4 g5 g6 g7 g8 g9 g10 g11;go_round
       case rel=>exact⟨g,fa,bl,acc++[v],_,rfl,rfl,Bn,cd lG.out.2.1 FV.out,(fun h=>by have:=fy.out;have:=lG.out.2.2 h;omega),(by have:=fp.out;show (acc++[v]).length+g≤_;rw[fH];simp only[Bm];omega),fz⟩
       case measure=>
        show Qg (U bl) *(fa.size+1)<1 *(hM.size+1);have:=lG.out.2.2;cases bl with
        |false=>show 0 *(fa.size+1)<1 *(hM.size+1);omega
        |true=>show 1 *(fa.size+1)<1 *(hM.size+1);have:=this rfl;omega
end gK
