/- Lemmas. -/
import Derived.Test.YtfldplmgkeiimaaGreatDoorQ24
set_option linter.all false
set_option maxRecDepth 100000
set_option maxHeartbeats 12800000
namespace Go.Proofs.YtfldplmgkeiimaaGreatDoor
abbrev zO:=@Decidable.of_not_not
abbrev Iq:=@List.takeWhile_cons_of_neg
abbrev Ir:=@List.takeWhile_cons_of_pos
abbrev U8:=@List.takeWhile_append_dropWhile
abbrev adn:=@List.takeWhile_sublist
abbrev LV:=@Option.isSome_none
abbrev LW:=@Option.getD_none
abbrev LX:=@Option.isSome_some
abbrev LY:=@Option.getD_some
abbrev Is:=@List.getElem_cons_zero
abbrev FK:=@List.getElem_cons_succ
namespace gT
open Go.RowKit ny j6 px Mem p1 bS
theorem apI(S:Ua)(o:Option C)(bl:af (Gy.lookup S.data.toList=o))(w:aeo):
  Calls Tryz.prog 131 #[aa S] w (CL o w):=by
 have aX:af (sk w (w.alloc (ai (#[I 0,I 0,I 0,I 0,U false,aa ⟨#[]⟩,aa ⟨#[]⟩,aa ⟨#[]⟩,aa ⟨#[]⟩,aa ⟨#[]⟩,J 0,J 0]) 104))):=HM w;go_enter Tryz.func131,Tryz.ntmps131;go_upto_region 1 with fail;generalize w.alloc (.cells #[I 0,I 0,I 0,I 0,U false,aa ⟨#[]⟩,aa ⟨#[]⟩,aa ⟨#[]⟩,aa ⟨#[]⟩,aa ⟨#[]⟩,J 0,J 0] 104)=W at aX⊢;by_cases bW:S.data.toList=[77,79,77,77]
 ·have a1:(S.toList==[77,79,77,77])=true:=(by rw[eR];exact e' bW);have bd:af (o=some {b4 9 with n:=1}):=(by show _=_;rw[←bl.out,bW];rfl);clear bl bW;obtain⟨⟨aN,aL,aI,c3,bJ,c5,b2,b',bX,bj,cu,dw⟩,f0,f1,f2,f3,f4,f5,f6,f7,f8,f9,f10,f11⟩:=dj aX.out.a;go_wp2_with fail;exact rk (W:=W) bd rfl (.inl rfl) rfl rfl rfl aX.out rfl rfl
 ·have a1:(S.toList==[77,79,77,77])=false:=(by rw[eR];exact eT bW);by_cases cj:S.data.toList=[77,79,73,78]
  ·have a6:(S.toList==[77,79,73,78])=true:=(by rw[eR];exact e' cj);have bd:af (o=some {b4 9 with n:=2}):=(by show _=_;rw[←bl.out,cj];rfl);clear bl bW cj;obtain⟨⟨aN,aL,aI,c3,bJ,c5,b2,b',bX,bj,cu,dw⟩,f0,f1,f2,f3,f4,f5,f6,f7,f8,f9,f10,f11⟩:=dj aX.out.a;go_wp2_with fail;exact rk (W:=W) bd rfl (.inl rfl) rfl rfl rfl aX.out rfl rfl
  ·have a6:(S.toList==[77,79,73,78])=false:=(by rw[eR];exact eT cj);by_cases eb:S.data.toList=[65,66]
   ·have ch:(S.toList==[65,66])=true:=(by rw[eR];exact e' eb);have bd:af (o=some (b4 12)):=(by show _=_;rw[←bl.out,eb];rfl);clear bl bW cj eb;obtain⟨⟨aN,aL,aI,c3,bJ,c5,b2,b',bX,bj,cu,dw⟩,f0,f1,f2,f3,f4,f5,f6,f7,f8,f9,f10,f11⟩:=dj aX.out.a;go_wp2_with fail;exact rk (W:=W) bd rfl (.inl rfl) rfl rfl rfl aX.out rfl rfl
   ·have ch:(S.toList==[65,66])=false:=(by rw[eR];exact eT eb);by_cases gi:S.data.toList=[83,82]
    ·have gw:(S.toList==[83,82])=true:=(by rw[eR];exact e' gi);have bd:af (o=some (b4 14)):=(by show _=_;rw[←bl.out,gi];rfl);clear bl bW cj eb gi;obtain⟨⟨aN,aL,aI,c3,bJ,c5,b2,b',bX,bj,cu,dw⟩,f0,f1,f2,f3,f4,f5,f6,f7,f8,f9,f10,f11⟩:=dj aX.out.a;go_wp2_with fail;exact rk (W:=W) bd rfl (.inl rfl) rfl rfl rfl aX.out rfl rfl
    ·have gw:(S.toList==[83,82])=false:=(by rw[eR];exact eT gi);by_cases ju:S.data.toList=[76,80,68]
     ·have na:(S.toList==[76,80,68])=true:=(by rw[eR];exact e' ju);have bd:af (o=some {b4 15 with on:=true}):=(by show _=_;rw[←bl.out,ju];rfl);clear bl bW cj eb gi ju;obtain⟨⟨aN,aL,aI,c3,bJ,c5,b2,b',bX,bj,cu,dw⟩,f0,f1,f2,f3,f4,f5,f6,f7,f8,f9,f10,f11⟩:=dj aX.out.a;go_wp2_with fail;exact rk (W:=W) bd rfl (.inl rfl) rfl rfl rfl aX.out rfl rfl
     ·have na:(S.toList==[76,80,68])=false:=(by rw[eR];exact eT ju);by_cases fh:S.data.toList=[76,80,67]
      ·have js:(S.toList==[76,80,67])=true:=(by rw[eR];exact e' fh);have bd:af (o=some (b4 15)):=(by show _=_;rw[←bl.out,fh];rfl);clear bl bW cj eb gi ju fh;obtain⟨⟨aN,aL,aI,c3,bJ,c5,b2,b',bX,bj,cu,dw⟩,f0,f1,f2,f3,f4,f5,f6,f7,f8,f9,f10,f11⟩:=dj aX.out.a;go_wp2_with fail;exact rk (W:=W) bd rfl (.inl rfl) rfl rfl rfl aX.out rfl rfl
      ·have js:(S.toList==[76,80,67])=false:=(by rw[eR];exact eT fh);by_cases mb:S.data.toList=[76,77,78]
       ·have tk:(S.toList==[76,77,78])=true:=(by rw[eR];exact e' mb);have bd:af (o=some (b4 16)):=(by show _=_;rw[←bl.out,mb];rfl);clear bl bW cj eb gi ju fh mb;obtain⟨⟨aN,aL,aI,c3,bJ,c5,b2,b',bX,bj,cu,dw⟩,f0,f1,f2,f3,f4,f5,f6,f7,f8,f9,f10,f11⟩:=dj aX.out.a;go_wp2_with fail;exact rk (W:=W) bd rfl (.inl rfl) rfl rfl rfl aX.out rfl rfl
       ·have tk:(S.toList==[76,77,78])=false:=(by rw[eR];exact eT mb);by_cases iL:S.data.toList=[76,77,88]
        ·have lf:(S.toList==[76,77,88])=true:=(by rw[eR];exact e' iL);have bd:af (o=some {b4 16 with n:=1}):=(by show _=_;rw[←bl.out,iL];rfl);clear bl bW cj eb gi ju fh mb iL;obtain⟨⟨aN,aL,aI,c3,bJ,c5,b2,b',bX,bj,cu,dw⟩,f0,f1,f2,f3,f4,f5,f6,f7,f8,f9,f10,f11⟩:=dj aX.out.a;go_wp2_with fail;exact rk (W:=W) bd rfl (.inl rfl) rfl rfl rfl aX.out rfl rfl
        ·have lf:(S.toList==[76,77,88])=false:=(by rw[eR];exact eT iL);by_cases pM:S.data.toList=[76,77,89]
         ·have jU:(S.toList==[76,77,89])=true:=(by rw[eR];exact e' pM);have bd:af (o=some {b4 16 with n:=2}):=(by show _=_;rw[←bl.out,pM];rfl);clear bl bW cj eb gi ju fh mb iL pM;obtain⟨⟨aN,aL,aI,c3,bJ,c5,b2,b',bX,bj,cu,dw⟩,f0,f1,f2,f3,f4,f5,f6,f7,f8,f9,f10,f11⟩:=dj aX.out.a;go_wp2_with fail;exact rk (W:=W) bd rfl (.inl rfl) rfl rfl rfl aX.out rfl rfl
         ·have jU:(S.toList==[76,77,89])=false:=(by rw[eR];exact eT pM);by_cases yt:S.data.toList=[76,77,88,89]
          ·have tl:(S.toList==[76,77,88,89])=true:=(by rw[eR];exact e' yt);have bd:af (o=some {b4 16 with n:=3}):=(by show _=_;rw[←bl.out,yt];rfl);clear bl bW cj eb gi ju fh mb iL pM yt;obtain⟨⟨aN,aL,aI,c3,bJ,c5,b2,b',bX,bj,cu,dw⟩,f0,f1,f2,f3,f4,f5,f6,f7,f8,f9,f10,f11⟩:=dj aX.out.a;go_wp2_with fail;exact rk (W:=W) bd rfl (.inl rfl) rfl rfl rfl aX.out rfl rfl
          ·have tl:(S.toList==[76,77,88,89])=false:=(by rw[eR];exact eT yt);have bd:af (o=none):=(by show _=_;rw[←bl.out];simp[Gy,List.lookup_cons,beq_eq_false_iff_ne.2 bW,beq_eq_false_iff_ne.2 cj,beq_eq_false_iff_ne.2 eb,beq_eq_false_iff_ne.2 gi,beq_eq_false_iff_ne.2 ju,beq_eq_false_iff_ne.2 fh,beq_eq_false_iff_ne.2 mb,beq_eq_false_iff_ne.2 iL,beq_eq_false_iff_ne.2 pM,beq_eq_false_iff_ne.2 yt]);clear bl bW cj eb gi ju fh mb iL pM yt;obtain⟨⟨aN,aL,aI,c3,bJ,c5,b2,b',bX,bj,cu,dw⟩,f0,f1,f2,f3,f4,f5,f6,f7,f8,f9,f10,f11⟩:=dj aX.out.a;go_wp2_with fail;exact nh (W:=W) bS.aN bd rfl (.inl rfl) rfl rfl rfl aX.out rfl rfl
theorem apJ(S:Ua)(hs:S.size≤1000000000)(o:Option C)(bl:af (Nq S.data.toList=o))(w:aeo):
  Calls Tryz.prog 134 #[aa S] w (CL o w):=by
 have b7:=aq hs;have aA:=bl.out;unfold Nq at aA;clear bl hs;have aX:af (sk w (w.alloc (ai (#[I 0,I 0,I 0,I 0,U false,aa ⟨#[]⟩,aa ⟨#[]⟩,aa ⟨#[]⟩,aa ⟨#[]⟩,aa ⟨#[]⟩,J 0,J 0]) 104))):=HM w;go_enter Tryz.func134,Tryz.ntmps134;go_upto_region 1 with fail;generalize w.alloc (.cells #[I 0,I 0,I 0,I 0,U false,aa ⟨#[]⟩,aa ⟨#[]⟩,aa ⟨#[]⟩,aa ⟨#[]⟩,aa ⟨#[]⟩,J 0,J 0] 104)=W at aX⊢;by_cases cb:S.data.toList.headD 0≠68
 ·rw[a8 cb] at aA;have bd:af (o=none):=aA.symm;have bN:af (∀r,S.data.toList≠(⟨#[68]⟩:Ua).data.toList++r):=fun r hr=>cb (by rw[hr];rfl);clear aA cb;go_wp2_with fail;with_reducible refine (CI _ _ bN _).mono ?_
  rintro e bY ⟨rfl,rfl⟩;obtain⟨⟨aN,aL,aI,c3,bJ,c5,b2,b',bX,bj,cu,dw⟩,f0,f1,f2,f3,f4,f5,f6,f7,f8,f9,f10,f11⟩:=dj aX.out.a;go_wp2_with fail;exact nh (W:=W) bS.aN bd rfl (.inl rfl) rfl rfl rfl aX.out rfl rfl
 ·rw[aR cb] at aA
  obtain⟨r,hr⟩:∃r,S.data.toList=68::r:=by
   cases hS:S.data.toList with
   |nil=>exact absurd (by rw[hS];decide) cb
   |cons a r=>exact⟨r,by rw[hS] at cb;rw[show a=68 from zO cb]⟩
  obtain⟨T,eS⟩:=kb r;rw[←eS] at hr;rw[hr,Ap,rR] at aA;have bN:af (S.data.toList=(⟨#[68]⟩:Ua).data.toList++T.data.toList):=hr;have c9:af (T.size≤maxLen):=(by show T.size≤_;have av:=fK List.length hr;rw[eP,cG,cG] at av;have:=b7.out;unfold maxLen;omega);obtain⟨LS,FJ⟩:=ar (vP T.data.toList);have U6:=aq FJ;rw[FJ] at aA;clear FJ cb hr eS;go_wp2_with fail;with_reducible refine (qd _ _ _ bN _).mono ?_
  rintro e bY ⟨rfl,rfl⟩;rw[qc];go_wp2_with fail;with_reducible refine (TK T c9.out _ U6 _).mono ?_
  rintro e dp ⟨hc,rfl⟩;cases LS with
  |some n=>
   have bd:af (o=some {b4 11 with n:=n}):=aA.symm;obtain rfl:e=ab (.tuple #[I ((n:Nat):Int),U true]):=hc;clear aA;obtain⟨⟨aN,aL,aI,c3,bJ,c5,b2,b',bX,bj,cu,dw⟩,f0,f1,f2,f3,f4,f5,f6,f7,f8,f9,f10,f11⟩:=dj aX.out.a;go_wp2_with fail;exact rk (W:=W) bd rfl (.inl rfl) rfl rfl rfl aX.out rfl rfl
  |none=>
   have bd:af (o=none):=aA.symm;obtain rfl:e=ab (.tuple #[I ((0:Nat):Int),U false]):=hc;clear aA;obtain⟨⟨aN,aL,aI,c3,bJ,c5,b2,b',bX,bj,cu,dw⟩,f0,f1,f2,f3,f4,f5,f6,f7,f8,f9,f10,f11⟩:=dj aX.out.a;go_wp2_with fail;exact nh (W:=W) (b4 11) bd rfl (.inl rfl) rfl rfl rfl aX.out rfl rfl
variable{l:au}{c:UInt8}
theorem apK(h:(l.takeWhile (· !=c)).length<l.length):Lib.indexByte l c=((l.takeWhile (· !=c)).length:Int):=by
 induction l with
 |nil=>exact absurd h (oP _)
 |cons b l cT=>
  unfold Lib.indexByte;by_cases ay:b=c
  ·rw[a8 (by rw[ay];simp),Iq (by simp[ay])];rfl
  ·rw[Ir (by simp[ay])] at h⊢;have az:=cT (A9 h);rw[aR (by simp[ay]),az,aR (by simp)];simp
theorem apL(h:¬(l.takeWhile (· !=c)).length<l.length):Lib.indexByte l c= -1:=by
 induction l with
 |nil=>rfl
 |cons b l cT=>
  unfold Lib.indexByte;by_cases ay:b=c
  ·exfalso;apply h;rw[Iq (by simp[ay])];simp
  ·rw[Ir (by simp[ay])] at h;have az:=cT (fun aF=>h (Nat.succ_lt_succ aF));rw[aR (by simp[ay]),az];rfl
theorem apM(c:UInt8)(l:au):(eu c l).1=l.takeWhile (· !=c):=by
 unfold eu;split
 ·rfl
 ·rename_i h;have av:=U8 (p:=(· !=c)) (l:=l);have az:=fK List.length av;rw[hl] at az;have aF:l.dropWhile (· !=c)=[]:=rQ (by omega);rw[aF,List.append_nil] at av;exact av.symm
theorem apN(c:UInt8)(l:au):l.take (l.takeWhile (· !=c)).length=l.takeWhile (· !=c):=by
 have av:=U8 (p:=(· !=c)) (l:=l)
 conv=>lhs;rw[←av]
 rw[U8]
 conv=>lhs;arg 2;rw[←av]
 rw[List.take_left]
theorem apO(S:Ua)(hs:S.size≤1000000000)(c:UInt8)(A R:Ua)(b:Bool)(h:af (eu c S.data.toList=(A.data.toList,R.data.toList,b)))(w:aeo):
  Calls Tryz.prog 218 #[aa S,aa ⟨#[c]⟩] w fun e w'=>e=ab (.tuple #[aa A,aa R,U b])∧HI w w':=by
 have aJ:=h.out;unfold eu at aJ;clear h;by_cases ax:(S.data.toList.takeWhile (· !=c)).length<S.data.toList.length
 ·rw[a8 ax] at aJ;have hi:=apK ax;have bB:=apN c S.data.toList;obtain⟨k,wN⟩:=ar ((S.data.toList.takeWhile (· !=c)).length);rw[wN] at aJ hi ax bB;rw[cG] at ax;simp only[fS] at aJ;obtain⟨av,az,rfl⟩:=aJ;have cc:af (A=S.extract 0 k):=(by show A=_;refine lY ?_;rw[CG,bB,av]);have bq:af (R=S.extract (k+1) S.size):=(by show R=_;refine lY ?_;rw[mS,az]);have bZ:=aq hi;clear av az hi bB wN;go_enter Tryz.func218,Tryz.ntmps218;go_wp2_with fail;with_reducible refine (Tryz.stringslite_Index_one S c _).mono ?_
  rintro e bY ⟨rfl,rfl⟩;rw[bZ.out];go_wp2_with fail;go_region
  all_goals
   go_wp2_with fail;go_ret3;rw[cc.out,bq.out];exact⟨by simp,1,rfl⟩
 ·rw[aR ax] at aJ;have bZ:af (Lib.indexByte S.data.toList c= -1):=apL ax;simp only[fS] at aJ;obtain⟨av,az,rfl⟩:=aJ;obtain rfl:A=S:=lY av.symm;obtain rfl:R=⟨#[]⟩:=lY az.symm;clear av az ax;go_enter Tryz.func218,Tryz.ntmps218;go_wp2_with fail;with_reducible refine (Tryz.stringslite_Index_one A c _).mono ?_
  rintro e bY ⟨rfl,rfl⟩;rw[bZ.out];go_wp2_with fail;go_ret3;exact⟨rfl,0,rfl⟩
theorem It(S:Ua)(hs:S.size≤1000000000)(c:UInt8)(A R:Ua)(b:Bool)(h:af (eu c S.data.toList=(A.data.toList,R.data.toList,b)))(w:aeo):
  Calls Tryz.prog 177 #[aa S,aa ⟨#[c]⟩] w fun e w'=>e=ab (.tuple #[aa A,aa R,U b])∧HI w w':=by
 have b7:=aq hs;clear hs;go_enter Tryz.func177,Tryz.ntmps177;go_wp2_with fail;with_reducible refine (apO S b7.out c A R b h _).mono ?_
 rintro e bY ⟨rfl,hd⟩;have di:=aq hd;clear hd;go_wp2_with fail;go_ret3;exact⟨rfl,di.out⟩
theorem Iu(c:UInt8)(l:au):(eu c l).1.length≤l.length:=by rw[apM];exact (adn _).length_le
theorem Iv(c:UInt8)(l:au):(eu c l).2.1.length≤l.length:=by
 unfold eu;split
 ·rw[gI];omega
 ·exact eE _
theorem apP(S:Ua)(hs:S.size≤1000000000)(o:Option C)(bl:af (bS.stepG S.data.toList=o))(w:aeo):
  Calls Tryz.prog 135 #[aa S] w (CL o w):=by
 have b7:=aq hs;have aA:=bl.out;unfold bS.stepG at aA;clear bl hs;have aX:af (sk w (w.alloc (ai (#[I 0,I 0,I 0,I 0,U false,aa ⟨#[]⟩,aa ⟨#[]⟩,aa ⟨#[]⟩,aa ⟨#[]⟩,aa ⟨#[]⟩,J 0,J 0]) 104))):=HM w;go_enter Tryz.func135,Tryz.ntmps135;go_upto_region 1 with fail;generalize w.alloc (.cells #[I 0,I 0,I 0,I 0,U false,aa ⟨#[]⟩,aa ⟨#[]⟩,aa ⟨#[]⟩,aa ⟨#[]⟩,aa ⟨#[]⟩,J 0,J 0] 104)=W at aX⊢;by_cases cb:S.data.toList.headD 0≠88
 ·rw[a8 cb] at aA;have bd:af (o=none):=aA.symm;have bN:af (∀r,S.data.toList≠(⟨#[88]⟩:Ua).data.toList++r):=fun r hr=>cb (by rw[hr];rfl);clear aA cb;go_wp2_with fail;with_reducible refine (CI _ _ bN _).mono ?_
  rintro e bY ⟨rfl,rfl⟩;obtain⟨⟨aN,aL,aI,c3,bJ,c5,b2,b',bX,bj,cu,dw⟩,f0,f1,f2,f3,f4,f5,f6,f7,f8,f9,f10,f11⟩:=dj aX.out.a;go_wp2_with fail;exact nh (W:=W) bS.aN bd rfl (.inl rfl) rfl rfl rfl aX.out rfl rfl
 ·rw[aR cb] at aA
  obtain⟨r,hr⟩:∃r,S.data.toList=88::r:=by
   cases hS:S.data.toList with
   |nil=>exact absurd (by rw[hS];decide) cb
   |cons a r=>exact⟨r,by rw[hS] at cb;rw[show a=88 from zO cb]⟩
  obtain⟨T,eS⟩:=kb r;rw[←eS] at hr;rw[hr,Ap,rR] at aA;have bN:af (S.data.toList=(⟨#[88]⟩:Ua).data.toList++T.data.toList):=hr;have LZ:T.size≤1000000000:=(by have av:=fK List.length hr;rw[eP,cG,cG] at av;have:=b7.out;omega);obtain⟨gq,hA1⟩:=kb (eu 89 T.data.toList).1;obtain⟨R1,qD⟩:=kb (eu 89 T.data.toList).2.1;obtain⟨cE,er⟩:=ar ((eu 89 T.data.toList).2.2);have H1:af (eu 89 T.data.toList=(gq.data.toList,R1.data.toList,cE)):=(by show _=_;rw[hA1,qD,←er]);have vc:gq.size≤1000000000∧R1.size≤1000000000:=(by have av:=Iu 89 T.data.toList;have az:=Iv 89 T.data.toList;rw[←hA1,cG,cG] at av;rw[←qD,cG,cG] at az;omega);rw[←hA1,←qD] at aA;clear hA1 qD er;have CM:af (gq.size≤1000000000∧R1.size≤1000000000):=vc;obtain⟨hW,hA2⟩:=kb (eu 73 R1.data.toList).1;obtain⟨gU,mU⟩:=kb (eu 73 R1.data.toList).2.1;obtain⟨bo,dA⟩:=ar ((eu 73 R1.data.toList).2.2);have c1:af (eu 73 R1.data.toList=(hW.data.toList,gU.data.toList,bo)):=(by show _=_;rw[hA2,mU,←dA]);have gQ:hW.size≤1000000000∧gU.size≤1000000000:=(by have av:=Iu 73 R1.data.toList;have az:=Iv 73 R1.data.toList;rw[←hA2,cG,cG] at av;rw[←mU,cG,cG] at az;omega);rw[←hA2,←mU] at aA;clear hA2 mU dA;have fb:af (hW.size≤1000000000∧gU.size≤1000000000):=gQ;obtain⟨lK,hA3⟩:=kb (eu 74 gU.data.toList).1;obtain⟨rl,zt⟩:=kb (eu 74 gU.data.toList).2.1;obtain⟨fk,eA⟩:=ar ((eu 74 gU.data.toList).2.2);have dM:af (eu 74 gU.data.toList=(lK.data.toList,rl.data.toList,fk)):=(by show _=_;rw[hA3,zt,←eA]);have x':lK.size≤1000000000∧rl.size≤1000000000:=(by have av:=Iu 74 gU.data.toList;have az:=Iv 74 gU.data.toList;rw[←hA3,cG,cG] at av;rw[←zt,cG,cG] at az;omega);rw[←hA3,←zt] at aA;clear hA3 zt eA;have kC:af (lK.size≤1000000000∧rl.size≤1000000000):=x';obtain⟨dY,jm⟩:=ar (DQ gq.data.toList);obtain⟨cO,iW⟩:=ar (DQ hW.data.toList);obtain⟨fl,U9⟩:=ar (dec lK.data.toList);obtain⟨gB,Iw⟩:=ar (dec rl.data.toList);rw[jm,iW,U9,Iw] at aA;have jb:=aq jm;have pB:=aq iW;have wB:af ((dec lK.data.toList).getD 0=fl.getD 0∧(dec lK.data.toList).isSome=fl.isSome):=(by show _∧_;rw[U9];exact⟨rfl,rfl⟩);have Bn:af ((dec rl.data.toList).getD 0=gB.getD 0∧(dec rl.data.toList).isSome=gB.isSome):=(by show _∧_;rw[Iw];exact⟨rfl,rfl⟩);have qO:=aq aA;have sf:=aq LZ;clear jm iW U9 Iw aA LZ vc gQ x' hr eS cb;go_wp2_with fail;with_reducible refine (qd _ _ _ bN _).mono ?_
  rintro e bY ⟨rfl,rfl⟩;rw[qc];go_wp2_with fail;with_reducible refine (It T sf.out 89 gq R1 cE H1 _).mono ?_
  rintro e dp ⟨rfl,hd⟩;have uN:=aq (aX.out.below (ma hd));clear hd aX;have aX:=uN;clear uN;go_wp2_with fail;with_reducible refine (It R1 CM.out.2 73 hW gU bo c1 _).mono ?_
  rintro e cA ⟨rfl,hd⟩;have eX:=aq (aX.out.below (ma hd));clear hd aX;have aX:=eX;clear eX;go_wp2_with fail;with_reducible refine (It gU fb.out.2 74 lK rl fk dM _).mono ?_
  rintro e bt ⟨rfl,hd⟩;have zj:=aq (aX.out.below (ma hd));clear hd aX;have aX:=zj;clear zj;go_wp2_with fail;with_reducible refine (HA gq (dB CM.out.1 (by decide)) dY jb _).mono ?_
  rintro e cZ ⟨he,rfl⟩;unfold K5 at he;subst he;go_wp2_with fail;with_reducible refine (HA hW (dB fb.out.1 (by decide)) cO pB _).mono ?_
  rintro e cZ ⟨he,rfl⟩;unfold K5 at he;subst he;go_wp2_with fail;with_reducible refine (Pe lK _ _ wB (dB kC.out.1 (by decide)) _).mono ?_
  rintro e cZ ⟨rfl,rfl⟩;go_wp2_with fail;with_reducible refine (Pe rl _ _ Bn (dB kC.out.2 (by decide)) _).mono ?_
  rintro e cZ ⟨rfl,rfl⟩;cases dY with
  |none=>
   have bd:af (o=none):=qO.out.symm;clear qO;simp only[LV,LW];obtain⟨⟨aN,aL,aI,c3,bJ,c5,b2,b',bX,bj,cu,dw⟩,f0,f1,f2,f3,f4,f5,f6,f7,f8,f9,f10,f11⟩:=dj aX.out.a;go_wp2_with fail;exact nh (W:=bt) bS.aN bd rfl (.inl rfl) rfl rfl rfl aX.out rfl rfl
  |some v1=>
   cases cO with
   |none=>
    have bd:af (o=none):=qO.out.symm;clear qO;simp only[LV,LW,LX,LY];obtain⟨⟨aN,aL,aI,c3,bJ,c5,b2,b',bX,bj,cu,dw⟩,f0,f1,f2,f3,f4,f5,f6,f7,f8,f9,f10,f11⟩:=dj aX.out.a;go_wp2_with fail;exact nh (W:=bt) bS.aN bd rfl (.inl rfl) rfl rfl rfl aX.out rfl rfl
   |some v2=>
    cases fl with
    |none=>
     have bd:af (o=none):=qO.out.symm;clear qO;simp only[LV,LW,LX,LY];obtain⟨⟨aN,aL,aI,c3,bJ,c5,b2,b',bX,bj,cu,dw⟩,f0,f1,f2,f3,f4,f5,f6,f7,f8,f9,f10,f11⟩:=dj aX.out.a;go_wp2_with fail;exact nh (W:=bt) bS.aN bd rfl (.inl rfl) rfl rfl rfl aX.out rfl rfl
    |some v3=>
     cases gB with
     |none=>
      have bd:af (o=none):=qO.out.symm;clear qO;simp only[LV,LW,LX,LY];obtain⟨⟨aN,aL,aI,c3,bJ,c5,b2,b',bX,bj,cu,dw⟩,f0,f1,f2,f3,f4,f5,f6,f7,f8,f9,f10,f11⟩:=dj aX.out.a;go_wp2_with fail;exact nh (W:=bt) bS.aN bd rfl (.inl rfl) rfl rfl rfl aX.out rfl rfl
     |some v4=>
      have bd:af (o=some {b4 13 with n:=(v1:Int),m:=(v2:Int),b6:=[v3,v4]}):=qO.out.symm;clear qO;simp only[LX,LY];have bf:af (eW bt.heap.size (bt.alloc (ai (#[I v3,I v4]) 2)) (some (aj bt.heap.size 0)) [v3,v4]):=by intro _;refine⟨bt.heap.size,0,_,rfl,bx _,ga bt _,fun i hi=>?_⟩;have az:i<2:=hi;have aF:i=0∨i=1:=(by omega);rcases aF with rfl|rfl<;>rfl
      have yu:af (sk w (bt.alloc (ai (#[I v3,I v4]) 2))):=aX.out.below ((Below.refl _ _).alloc (bx _) _);have se:af (w.heap.size<bt.heap.size):=(Array.getElem?_eq_some_iff.1 aX.out.a).1;clear aX;obtain⟨⟨aN,aL,aI,c3,bJ,c5,b2,b',bX,bj,cu,dw⟩,f0,f1,f2,f3,f4,f5,f6,f7,f8,f9,f10,f11⟩:=dj yu.out.a;have fQ:=aq ((amP se.out bf.out {b4 13 with n:=(v1:Int),m:=(v2:Int),b6:=[v3,v4]} 0 (ag bt.heap.size 0 2 2) b3).mono (tn se.out));go_wp2_with fail;exact nM {b4 13 with n:=(v1:Int),m:=(v2:Int),b6:=[v3,v4]} (ad (some (aj bt.heap.size 0)) 2 2) rfl (.inl rfl) rfl rfl yu.out.a yu.out.b fun ay=>⟨ay,{b4 13 with n:=(v1:Int),m:=(v2:Int),b6:=[v3,v4]},_,2,by rw[bd.out];rfl,fQ.out,rfl,by rw[bd.out];intro e he;exact (EJ he).symm⟩
theorem PW{k:Nat}(ax:k<256)(h:c≠UInt8.ofNat k):((c.toNat:Int) !=(k:Int))=true:=by rw[bne,HJ ax h];rfl
theorem apQ(S:Ua)(hs:S.size≤1000000000)(o:Option C)(bl:af (No S.data.toList=o))(w:aeo):
  Calls Tryz.prog 132 #[aa S] w (CL o w):=by
 have b7:=aq hs;have aA:=bl.out;unfold No at aA;rw[cG] at aA;clear bl hs;have aX:af (sk w (w.alloc (ai (#[I 0,I 0,I 0,I 0,U false,aa ⟨#[]⟩,aa ⟨#[]⟩,aa ⟨#[]⟩,aa ⟨#[]⟩,aa ⟨#[]⟩,J 0,J 0]) 104))):=HM w;go_enter Tryz.func132,Tryz.ntmps132;go_upto_region 1 with fail;generalize w.alloc (.cells #[I 0,I 0,I 0,I 0,U false,aa ⟨#[]⟩,aa ⟨#[]⟩,aa ⟨#[]⟩,aa ⟨#[]⟩,aa ⟨#[]⟩,J 0,J 0] 104)=W at aX⊢;by_cases ff:S.size≠8
 ·rw[a8 (.inl ff)] at aA;have bd:af (o=none):=aA.symm;have U':((S.size:Int) !=8)=true:=(by simp;omega);clear aA ff
  go_quiet (fail)
  generalize gC:W.drewN _=cm;have eX:=aq (aX.out.below (ma ⟨_,gC.symm⟩));clear gC aX;have aX:=eX;clear eX;obtain⟨⟨aN,aL,aI,c3,bJ,c5,b2,b',bX,bj,cu,dw⟩,f0,f1,f2,f3,f4,f5,f6,f7,f8,f9,f10,f11⟩:=dj aX.out.a;go_wp2_with fail;exact nh (W:=cm) bS.aN bd rfl (.inl rfl) rfl rfl rfl aX.out rfl rfl
 ·have U':S.size=8:=zO ff;have Zq:((S.size:Int) !=8)=false:=(by simp;omega);have PX:S.data.toList.length=8:=by rw[cG];exact U'
  obtain⟨d0,d1,d2,d3,d4,d5,d6,d7,hS⟩:∃d0 d1 d2 d3 d4 d5 d6 d7,S.data.toList=[d0,d1,d2,d3,d4,d5,d6,d7]:=by
   match aH:S.data.toList,PX with
   |[d0,d1,d2,d3,d4,d5,d6,d7],_=>exact⟨_,_,_,_,_,_,_,_,rfl⟩
  have g0:S[0]'(by omega)=d0:=(by have h:=n7 S 0 (by omega);rw[←h];simp[hS]);have g1:S[1]'(by omega)=d1:=(by have h:=n7 S 1 (by omega);rw[←h];simp[hS]);have g2:S[2]'(by omega)=d2:=(by have h:=n7 S 2 (by omega);rw[←h];simp[hS]);have g3:S[3]'(by omega)=d3:=(by have h:=n7 S 3 (by omega);rw[←h];simp[hS]);have g4:S[4]'(by omega)=d4:=(by have h:=n7 S 4 (by omega);rw[←h];simp[hS]);have g5:S[5]'(by omega)=d5:=(by have h:=n7 S 5 (by omega);rw[←h];simp[hS]);have g6:S[6]'(by omega)=d6:=(by have h:=n7 S 6 (by omega);rw[←h];simp[hS]);have g7:S[7]'(by omega)=d7:=(by have h:=n7 S 7 (by omega);rw[←h];simp[hS]);have PY:(S.extract 1 3).data.toList=[d1,d2]:=(by rw[abo,hS];rfl);have PZ:(S.extract 3 5).data.toList=[d3,d4]:=(by rw[abo,hS];rfl);have P0:(S.extract 6 S.size).data.toList=[d6,d7]:=(by rw[mS,hS];rfl);have ado:(S.extract 3 S.size).data.toList=[d3,d4,d5,d6,d7]:=(by rw[mS,hS];rfl);have l9:af ((S.extract 3 S.size).size≤maxLen):=(by show _≤_;rw[←cG,ado];show 5≤maxLen;decide);obtain⟨n,hn⟩:=ar (bA (S.extract 3 S.size).data.toList);have ot:=aq hn;rw[ado] at hn;have bn:(8:Int)≤(S.size:Int):=(by omega);clear U' PX;by_cases fm:d0≠76∧d0≠84
  ·have e8:((d0.toNat:Int) !=76)=true:=PW (k:=76) (by decide) fm.1;have dN:((d0.toNat:Int) !=84)=true:=PW (k:=84) (by decide) fm.2;rw[a8 (.inr (.inl (by rw[hS];exact fm)))] at aA;have bd:af (o=none):=aA.symm;clear aA
   go_quiet (first|(go_at_call 176;exact rX ((mE (S.extract 3 S.size) l9.out n ot _).mono fun _ _ h=>⟨h.1,h.2.symm⟩)))
   generalize gC:W.drewN _=cm;have eX:=aq (aX.out.below (ma ⟨_,gC.symm⟩));clear gC aX;have aX:=eX;clear eX;obtain⟨⟨aN,aL,aI,c3,bJ,c5,b2,b',bX,bj,cu,dw⟩,f0,f1,f2,f3,f4,f5,f6,f7,f8,f9,f10,f11⟩:=dj aX.out.a;go_wp2_with fail;exact nh (W:=cm) bS.aN bd rfl (.inl rfl) rfl rfl rfl aX.out rfl rfl
  ·obtain rfl|rfl:d0=76∨d0=84:=by by_cases h:d0=76<;>by_cases az:d0=84<;>simp_all
   ·have gf:((76:UInt8).toNat:Int)=76:=rfl;by_cases bW: [d1,d2]≠[65,88]
    ·have ze:((S.extract 1 3).toList==[65,88])=false:=(by rw[eR,PY];exact eT bW);rw[a8 (.inr (.inr (.inl (by rw[hS];exact bW))))] at aA;have bd:af (o=none):=aA.symm;clear aA
     go_quiet (first|(go_at_call 176;exact rX ((mE (S.extract 3 S.size) l9.out n ot _).mono fun _ _ h=>⟨h.1,h.2.symm⟩)))
     generalize gC:W.drewN _=cm;have eX:=aq (aX.out.below (ma ⟨_,gC.symm⟩));clear gC aX;have aX:=eX;clear eX;obtain⟨⟨aN,aL,aI,c3,bJ,c5,b2,b',bX,bj,cu,dw⟩,f0,f1,f2,f3,f4,f5,f6,f7,f8,f9,f10,f11⟩:=dj aX.out.a;go_wp2_with fail;exact nh (W:=cm) bS.aN bd rfl (.inl rfl) rfl rfl rfl aX.out rfl rfl
    ·have ze:((S.extract 1 3).toList==[65,88])=true:=(by rw[eR,PY];exact e' (zO bW));by_cases cj:n≠2
     ·have AD:((n:Int) !=2)=true:=(by simp;omega);rw[a8 (.inr (.inr (.inr (.inl (by rw[hS];show bA [d3,d4,d5,d6,d7]≠2;rw[hn];exact cj)))))] at aA;have bd:af (o=none):=aA.symm;clear aA
      go_quiet (first|(go_at_call 176;exact rX ((mE (S.extract 3 S.size) l9.out n ot _).mono fun _ _ h=>⟨h.1,h.2.symm⟩)))
      generalize gC:W.drewN _=cm;have eX:=aq (aX.out.below (ma ⟨_,gC.symm⟩));clear gC aX;have aX:=eX;clear eX;obtain⟨⟨aN,aL,aI,c3,bJ,c5,b2,b',bX,bj,cu,dw⟩,f0,f1,f2,f3,f4,f5,f6,f7,f8,f9,f10,f11⟩:=dj aX.out.a;go_wp2_with fail;exact nh (W:=cm) bS.aN bd rfl (.inl rfl) rfl rfl rfl aX.out rfl rfl
     ·have AD:((n:Int) !=2)=false:=(by simp;omega);by_cases eb:d5≠89
      ·have AE:((d5.toNat:Int) !=89)=true:=PW (k:=89) (by decide) eb;rw[a8 (.inr (.inr (.inr (.inr (.inl (by rw[hS];exact eb))))))] at aA;have bd:af (o=none):=aA.symm;clear aA
       go_quiet (first|(go_at_call 176;exact rX ((mE (S.extract 3 S.size) l9.out n ot _).mono fun _ _ h=>⟨h.1,h.2.symm⟩)))
       generalize gC:W.drewN _=cm;have eX:=aq (aX.out.below (ma ⟨_,gC.symm⟩));clear gC aX;have aX:=eX;clear eX;obtain⟨⟨aN,aL,aI,c3,bJ,c5,b2,b',bX,bj,cu,dw⟩,f0,f1,f2,f3,f4,f5,f6,f7,f8,f9,f10,f11⟩:=dj aX.out.a;go_wp2_with fail;exact nh (W:=cm) bS.aN bd rfl (.inl rfl) rfl rfl rfl aX.out rfl rfl
      ·obtain rfl:d5=89:=zO eb;have AE:((89:UInt8).toNat:Int)=89:=rfl;by_cases gi: [d6,d7]≠[d3,d4]
       ·have la:((S.extract 6 S.size).toList==(S.extract 3 5).toList)=false:=(by rw[oN,oN,P0,PZ,uO];exact gi);rw[a8 (.inr (.inr (.inr (.inr (.inr (by rw[hS];exact gi))))))] at aA;have bd:af (o=none):=aA.symm;clear aA
        go_quiet (first|(go_at_call 176;exact rX ((mE (S.extract 3 S.size) l9.out n ot _).mono fun _ _ h=>⟨h.1,h.2.symm⟩)))
        generalize gC:W.drewN _=cm;have eX:=aq (aX.out.below (ma ⟨_,gC.symm⟩));clear gC aX;have aX:=eX;clear eX;obtain⟨⟨aN,aL,aI,c3,bJ,c5,b2,b',bX,bj,cu,dw⟩,f0,f1,f2,f3,f4,f5,f6,f7,f8,f9,f10,f11⟩:=dj aX.out.a;go_wp2_with fail;exact nh (W:=cm) bS.aN bd rfl (.inl rfl) rfl rfl rfl aX.out rfl rfl
       ·have la:((S.extract 6 S.size).toList==(S.extract 3 5).toList)=true:=by rw[oN,oN,P0,PZ,beq_iff_eq];exact zO gi
        rw [aR (by
         rw[hS];rintro (h|h|h|h|h|h)
         ·exact ff h
         ·exact fm h
         ·exact bW h
         ·exact absurd (show bA [d3,d4,89,d6,d7]≠2 from h) (by rw[hn];exact cj)
         ·exact h rfl
         ·exact gi h)] at aA
        have bd:af (o=some {b4 8 with on:=false,n:=(d3.toNat:Int)-48,m:=(d4.toNat:Int)-48}):=(by show _=_;rw[←aA,hS];rfl);have hd:=(yU [d3,d4,89,d6,d7]).1;rw[hn] at hd;have qj:=(qU _).1 (hd 0 (by simp) (by omega));have L0:=(qU _).1 (hd 1 (by simp) (by omega));simp only[Is,FK] at qj L0;obtain⟨Va,Vb⟩:=qj;obtain⟨Vc,Vd⟩:=L0;obtain⟨lN,wO⟩:=ar (d3.toNat:Int);obtain⟨tJ,Ix⟩:=ar (d4.toNat:Int);have apR:48≤lN:=(by omega);have apS:lN≤57:=(by omega);have apT:48≤tJ:=(by omega);have apU:tJ≤57:=(by omega);clear aA hd Va Vb Vc Vd;rw[wO,Ix] at bd
        go_quiet (first|(go_at_call 176;exact rX ((mE (S.extract 3 S.size) l9.out n ot _).mono fun _ _ h=>⟨h.1,h.2.symm⟩)))
        generalize gC:W.drewN _=cm;have eX:=aq (aX.out.below (ma ⟨_,gC.symm⟩));clear gC aX;have aX:=eX;clear eX;go_upto_region 3 with fail;obtain⟨⟨aN,aL,aI,c3,bJ,c5,b2,b',bX,bj,cu,dw⟩,f0,f1,f2,f3,f4,f5,f6,f7,f8,f9,f10,f11⟩:=dj aX.out.a;go_region
        all_goals
         clear aN aL aI c3 bJ c5 b2 b' bX bj cu dw f0 f1 f2 f3 f4 f5 f6 f7 f8 f9 f10 f11;go_wp2_with fail;exact rk (W:=cm) bd rfl (.inr rfl) rfl rfl rfl aX.out rfl rfl
   ·have gf:((84:UInt8).toNat:Int)=84:=rfl;by_cases bW: [d1,d2]≠[65,88]
    ·have ze:((S.extract 1 3).toList==[65,88])=false:=(by rw[eR,PY];exact eT bW);rw[a8 (.inr (.inr (.inl (by rw[hS];exact bW))))] at aA;have bd:af (o=none):=aA.symm;clear aA
     go_quiet (first|(go_at_call 176;exact rX ((mE (S.extract 3 S.size) l9.out n ot _).mono fun _ _ h=>⟨h.1,h.2.symm⟩)))
     generalize gC:W.drewN _=cm;have eX:=aq (aX.out.below (ma ⟨_,gC.symm⟩));clear gC aX;have aX:=eX;clear eX;obtain⟨⟨aN,aL,aI,c3,bJ,c5,b2,b',bX,bj,cu,dw⟩,f0,f1,f2,f3,f4,f5,f6,f7,f8,f9,f10,f11⟩:=dj aX.out.a;go_wp2_with fail;exact nh (W:=cm) bS.aN bd rfl (.inl rfl) rfl rfl rfl aX.out rfl rfl
    ·have ze:((S.extract 1 3).toList==[65,88])=true:=(by rw[eR,PY];exact e' (zO bW));by_cases cj:n≠2
     ·have AD:((n:Int) !=2)=true:=(by simp;omega);rw[a8 (.inr (.inr (.inr (.inl (by rw[hS];show bA [d3,d4,d5,d6,d7]≠2;rw[hn];exact cj)))))] at aA;have bd:af (o=none):=aA.symm;clear aA
      go_quiet (first|(go_at_call 176;exact rX ((mE (S.extract 3 S.size) l9.out n ot _).mono fun _ _ h=>⟨h.1,h.2.symm⟩)))
      generalize gC:W.drewN _=cm;have eX:=aq (aX.out.below (ma ⟨_,gC.symm⟩));clear gC aX;have aX:=eX;clear eX;obtain⟨⟨aN,aL,aI,c3,bJ,c5,b2,b',bX,bj,cu,dw⟩,f0,f1,f2,f3,f4,f5,f6,f7,f8,f9,f10,f11⟩:=dj aX.out.a;go_wp2_with fail;exact nh (W:=cm) bS.aN bd rfl (.inl rfl) rfl rfl rfl aX.out rfl rfl
     ·have AD:((n:Int) !=2)=false:=(by simp;omega);by_cases eb:d5≠89
      ·have AE:((d5.toNat:Int) !=89)=true:=PW (k:=89) (by decide) eb;rw[a8 (.inr (.inr (.inr (.inr (.inl (by rw[hS];exact eb))))))] at aA;have bd:af (o=none):=aA.symm;clear aA
       go_quiet (first|(go_at_call 176;exact rX ((mE (S.extract 3 S.size) l9.out n ot _).mono fun _ _ h=>⟨h.1,h.2.symm⟩)))
       generalize gC:W.drewN _=cm;have eX:=aq (aX.out.below (ma ⟨_,gC.symm⟩));clear gC aX;have aX:=eX;clear eX;obtain⟨⟨aN,aL,aI,c3,bJ,c5,b2,b',bX,bj,cu,dw⟩,f0,f1,f2,f3,f4,f5,f6,f7,f8,f9,f10,f11⟩:=dj aX.out.a;go_wp2_with fail;exact nh (W:=cm) bS.aN bd rfl (.inl rfl) rfl rfl rfl aX.out rfl rfl
      ·obtain rfl:d5=89:=zO eb;have AE:((89:UInt8).toNat:Int)=89:=rfl;by_cases gi: [d6,d7]≠[d3,d4]
       ·have la:((S.extract 6 S.size).toList==(S.extract 3 5).toList)=false:=(by rw[oN,oN,P0,PZ,uO];exact gi);rw[a8 (.inr (.inr (.inr (.inr (.inr (by rw[hS];exact gi))))))] at aA;have bd:af (o=none):=aA.symm;clear aA
        go_quiet (first|(go_at_call 176;exact rX ((mE (S.extract 3 S.size) l9.out n ot _).mono fun _ _ h=>⟨h.1,h.2.symm⟩)))
        generalize gC:W.drewN _=cm;have eX:=aq (aX.out.below (ma ⟨_,gC.symm⟩));clear gC aX;have aX:=eX;clear eX;obtain⟨⟨aN,aL,aI,c3,bJ,c5,b2,b',bX,bj,cu,dw⟩,f0,f1,f2,f3,f4,f5,f6,f7,f8,f9,f10,f11⟩:=dj aX.out.a;go_wp2_with fail;exact nh (W:=cm) bS.aN bd rfl (.inl rfl) rfl rfl rfl aX.out rfl rfl
       ·have la:((S.extract 6 S.size).toList==(S.extract 3 5).toList)=true:=by rw[oN,oN,P0,PZ,beq_iff_eq];exact zO gi
        rw [aR (by
         rw[hS];rintro (h|h|h|h|h|h)
         ·exact ff h
         ·exact fm h
         ·exact bW h
         ·exact absurd (show bA [d3,d4,89,d6,d7]≠2 from h) (by rw[hn];exact cj)
         ·exact h rfl
         ·exact gi h)] at aA
        have bd:af (o=some {b4 8 with on:=true,n:=(d3.toNat:Int)-48,m:=(d4.toNat:Int)-48}):=(by show _=_;rw[←aA,hS];rfl);have hd:=(yU [d3,d4,89,d6,d7]).1;rw[hn] at hd;have qj:=(qU _).1 (hd 0 (by simp) (by omega));have L0:=(qU _).1 (hd 1 (by simp) (by omega));simp only[Is,FK] at qj L0;obtain⟨Va,Vb⟩:=qj;obtain⟨Vc,Vd⟩:=L0;obtain⟨lN,wO⟩:=ar (d3.toNat:Int);obtain⟨tJ,Ix⟩:=ar (d4.toNat:Int);have apR:48≤lN:=(by omega);have apS:lN≤57:=(by omega);have apT:48≤tJ:=(by omega);have apU:tJ≤57:=(by omega);clear aA hd Va Vb Vc Vd;rw[wO,Ix] at bd
        go_quiet (first|(go_at_call 176;exact rX ((mE (S.extract 3 S.size) l9.out n ot _).mono fun _ _ h=>⟨h.1,h.2.symm⟩)))
        generalize gC:W.drewN _=cm;have eX:=aq (aX.out.below (ma ⟨_,gC.symm⟩));clear gC aX;have aX:=eX;clear eX;go_upto_region 3 with fail;obtain⟨⟨aN,aL,aI,c3,bJ,c5,b2,b',bX,bj,cu,dw⟩,f0,f1,f2,f3,f4,f5,f6,f7,f8,f9,f10,f11⟩:=dj aX.out.a;go_region
        all_goals
         clear aN aL aI c3 bJ c5 b2 b' bX bj cu dw f0 f1 f2 f3 f4 f5 f6 f7 f8 f9 f10 f11;go_wp2_with fail;exact rk (W:=cm) bd rfl (.inr rfl) rfl rfl rfl aX.out rfl rfl
end gT
