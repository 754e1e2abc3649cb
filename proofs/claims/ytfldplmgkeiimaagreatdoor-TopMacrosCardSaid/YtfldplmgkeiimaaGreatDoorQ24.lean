/- Lemmas. -/
import Derived.Test.YtfldplmgkeiimaaGreatDoorQ23
set_option linter.all false
set_option maxRecDepth 100000
set_option maxHeartbeats 12800000
namespace Go.Proofs.YtfldplmgkeiimaaGreatDoor
abbrev LQ:=@Proofs.Tryz.underlying98
namespace gT
open Go.RowKit ny j6 px Mem p1 bS
theorem apv(S P:Ua):∃(R:Ua) (b:Bool),∀w,Calls Tryz.prog 89 #[aa S,aa P] w fun e w'=>e=ab (.tuple #[aa R,U b])∧w=w':=
 ⟨_,_,fun w=>(TH S P w).mono fun e w' ⟨he,hw⟩=>⟨he,hw.symm⟩⟩
def Io(cs:List C):Option C→Except Nat (List C)
 |none=>.error 3
 |some c=>.ok (cs++[c])
theorem apw(t:au)(x:C)(l:List C):qY t (x::l)=Io (x::l) (pX t):=by unfold qY Io;rw[aR (by rintro⟨_,_,h⟩;cases h)];rfl
variable{t:au}
theorem apx(h:¬(t≠[]∧t.headD 0=68)):qY t []=Io [] (pX t):=by unfold qY Io;rw[aR (fun aJ=>h ⟨aJ.1,aJ.2.1⟩)];rfl
theorem apy{r:au}:qY (68::r) []=match vP r with|some n=>.ok [{b4 6 with n:=(n:Int)}]|none=>Io [] (pX (68::r)):=by unfold qY Io;rw[a8 ⟨by simp,rfl,rfl⟩];rfl
theorem apz{B D:Nat}{w:aeo}{v:ada}{l:List (Nat×C)}(h:jJ B w v l)(cb:D≤B):jJ D w v l:=by
 obtain⟨xs,av,az⟩:=h;refine⟨xs,⟨av.1,?_⟩,az.imp (fun _ _ g=>g.mono cb) (fun _ _ g=>g.mono cb)⟩;rcases av.2 with g|⟨b,c,cur,a1,a6,ch⟩
 ·exact .inl g
 ·exact .inr ⟨b,c,cur,a1,dB cb a6,ch⟩
theorem PU(w:aeo)(a b:Obj):((w.alloc a).alloc b).heap[w.heap.size+1]?=some b:=by have h:=ga (w.alloc a) b;rw[show (w.alloc a).heap.size=w.heap.size+1 by simp] at h;exact h
def gk:Nat→List UInt8
 |0=>[71,48,49]
 |1=>[71,48,50]
 |_=>[71,48,51]
theorem apA{X:Ua}(h:af (X.size≤1000000000)):∃Y,X=Y∧af (Y.size≤1000000000):=⟨_,rfl,h⟩
def LR(t:au):Except Nat (List C):=if t.take 3=gk 0 then uh t 1 else if t.take 3=gk 1 then uh t 2 else if t.take 3=gk 2 then uh t 3 else qY t []
theorem apB{k:Nat}(ax:k<3)(h:∀j,j<k→t.take 3≠gk j)(p:t.take 3=gk k):LR t=uh t ((k:Int)+1):=by
 unfold LR;rcases (show k=0∨k=1∨k=2 by omega) with rfl|rfl|rfl
 ·rw[a8 p];rfl
 ·rw[aR (h 0 (by decide)),a8 p];rfl
 ·rw[aR (h 0 (by decide)),aR (h 1 (by decide)),a8 p];rfl
theorem apC(h:∀j,j<3→t.take 3≠gk j):LR t=qY t []:=by unfold LR;rw[aR (h 0 (by decide)),aR (h 1 (by decide)),aR (h 2 (by decide))]
theorem U5(k:Nat):(gk k).length=3:=by unfold gk;split<;>rfl
abbrev PV:Value:=.agg #[I 0,I 0,I 0,I 0,U false,aa ⟨#[]⟩,aa ⟨#[]⟩,aa ⟨#[]⟩,aa ⟨#[]⟩,aa ⟨#[]⟩,J 0,J 0]
abbrev Ip:Obj:=.cells #[aa ⟨#[71,48,49]⟩,aa ⟨#[71,48,50]⟩,aa ⟨#[71,48,51]⟩] 9
theorem apD{w:aeo}{b k:Nat}(h:w.heap[b]?=some Ip)(ax:k<3):ak w b k (aa ⟨(gk k).toArray⟩):=by rcases (show k=0∨k=1∨k=2 by omega) with rfl|rfl|rfl<;>simp[World.cell?,h,gk]
theorem apE(S:Ua)(hs:S.size≤1000000000)(res:Except Nat (List C))(hr:af (vR S.data.toList=res))(w:aeo):
    Calls Tryz.prog 63 #[aa S] w (U3 res w):=by
  have b7:=aq hs;have aA:=hr.out;clear hr hs;by_cases hm:S.data.toList∈([[71,51,54],[71,51,55],[71,55,52],[71,55,53],[77,48,50]]:List (List UInt8))
  · simp only[vU,vV,uj] at hm
    rcases hm with h|h|h|h|h
    all_goals
      have E:∀p,(S.toList==p)=decide (S.data.toList=p):=fun p=>eR S p;rw[h] at E aA;have bq:=aq aA;first|have a1:(S.toList==[71,51,54])=true:=E _|have a1:(S.toList==[71,51,54])=false:=E _
      first|have a6:(S.toList==[71,51,55])=true:=E _|have a6:(S.toList==[71,51,55])=false:=E _
      first|have ch:(S.toList==[71,55,52])=true:=E _|have ch:(S.toList==[71,55,52])=false:=E _
      first|have gw:(S.toList==[71,55,53])=true:=E _|have gw:(S.toList==[71,55,53])=false:=E _
      first|have na:(S.toList==[77,48,50])=true:=E _|have na:(S.toList==[77,48,50])=false:=E _
      clear h aA E;go_enter Tryz.func63,Tryz.ntmps63;go_wp2_with fail
      first
        | (with_reducible refine (U4 _ _ _ _ [] [] [] [] [] _).mono ?_
           rintro e bY ⟨ay,v,rfl,hc⟩;have bz:=aq (And.intro ay hc);clear ay hc;go_wp2_with fail;go_ret2;rw[←bq.out];exact⟨bz.out.1,_,rfl,bz.out.2⟩)
        | (go_ret2
           rw[←bq.out];exact⟨Below.refl _ _,rfl⟩)
  have F:∀p,p∈([[71,51,54],[71,51,55],[71,55,52],[71,55,53],[77,48,50]]:List (List UInt8))→(S.toList==p)=false:=(fun p hp=>by rw[eR];exact eT fun h=>hm (h ▸ hp));have a1:=F [71,51,54] (by decide);have a6:=F [71,51,55] (by decide);have ch:=F [71,55,52] (by decide);have gw:=F [71,55,53] (by decide);have na:=F [77,48,50] (by decide);have mB:(if S.data.toList.take 3=[71,48,52] then .ok [{b4 1 with t:=S.data.toList.drop 3}] else LR S.data.toList)=res:=(by rw[←aA];unfold vR;simp only[vU,vV,uj,not_or] at hm;rw[aR hm.1,aR hm.2.1,aR hm.2.2.1,aR hm.2.2.2.1,aR hm.2.2.2.2];rfl);clear aA hm F;by_cases fh:S.data.toList.take 3=[71,48,52]
  · rw[a8 fh] at mB
    have bq:=aq mB;have bN:af (S.data.toList=(⟨#[71,48,52]⟩:Ua).data.toList++S.data.toList.drop 3):=TI (p:=[71,48,52]) fh;clear mB fh;go_enter Tryz.func63,Tryz.ntmps63;go_wp2_with fail;with_reducible refine (qd _ _ _ bN _).mono ?_
    rintro e bY ⟨rfl,rfl⟩;go_wp2_with fail;with_reducible refine (U4 1 0 0 false (S.data.toList.drop 3) [] [] [] [] _).mono ?_
    rintro e bY ⟨ay,v,rfl,hc⟩;have bz:=aq (And.intro ay hc);clear ay hc;go_wp2_with fail;go_ret2;rw[←bq.out];exact⟨bz.out.1,_,rfl,bz.out.2⟩
  rw[aR fh] at mB;have bN:af (∀r,S.data.toList≠(⟨#[71,48,52]⟩:Ua).data.toList++r):=TJ (p:=[71,48,52]) fh;clear fh;have dT:=aq mB;clear mB;obtain⟨i0,ln,dE,dP,dq⟩:=info_parts abW;have bZ:=aq (And.intro ln (And.intro dE (And.intro dP dq)));clear ln dE dP dq;go_enter Tryz.func63,Tryz.ntmps63;go_wp2_with fail;with_reducible refine (CI _ _ bN _).mono ?_
  rintro e bY ⟨rfl,rfl⟩;have bM:af ((w.alloc Ip).heap[w.heap.size]?=some Ip):=ga w _;have aO:af (ao w w (w.alloc Ip)):=(Below.refl _ _).alloc (bx _) _;go_wp2_with fail;change Code.wp _ _ _ _ (w.alloc Ip);generalize w.alloc Ip=ck at bM aO⊢
  go_loopw [0,6,54] (fun t c i wr=>∃(k:Nat) (Bo:aeo),Bo=wr∧Bo=ck∧k≤3∧af (∀j,j<k→S.data.toList.take 3≠gk j)∧t=aa S∧c=J 0∧i=I (k:Int)) (fun _ _ i _=>3 -(intOf i).toNat)
  case atStart=>exact⟨0,_,rfl,rfl,by omega,fun j h=>absurd h (nB j),rfl,rfl,rfl⟩
  case round=>
  obtain⟨k,Bo,rfl,apF,ax,bf,rfl,rfl,rfl⟩:=hrel;subst apF;by_cases ob:k<3
  case' pos=>
    have ou:(k:Int)<3:=(by omega);have q4:(0:Int)≤(k:Int):=(by omega);have m0:=apD bM.out ob;by_cases e8:S.data.toList.take 3=gk k
    case neg=>
      have kA:af (∀r,S.data.toList≠(⟨(gk k).toArray⟩:Ua).data.toList++r):=TJ (p:=gk k) (by rw[U5];exact e8)
      have wJ:af (∀j,j<k+1→S.data.toList.take 3≠gk j):=fun j cr=>by
        by_cases e:j=k
        · rw[e];exact e8
        · exact bf.out j (by omega)
      clear e8;go_wp2_with fail;with_reducible refine (CI _ _ kA _).mono ?_
      rintro e bY ⟨rfl,rfl⟩;go_wp2_with fail;go_round<;>first|exact⟨k+1,_,rfl,rfl,by omega,wJ.out,rfl,rfl,by go_num⟩|(simp[intOf]<;>omega)
    obtain⟨X,dd⟩:=kb (S.data.toList.drop 3);have aH:uh S.data.toList ((k:Int)+1)=res:=(apB ob bf.out e8).symm.trans dT.out;unfold uh at aH;have bN:af (S.data.toList=(⟨(gk k).toArray⟩:Ua).data.toList++X.data.toList):=(by have h:=TI (l:=S.data.toList) (p:=gk k) (by rw[U5];exact e8);rw[U5] at h;show _=_;rw[dd];exact h);rw[←dd] at aH;have c2:af (X.size≤1000000000):=(by show X.size≤_;have av:=fK List.length dd;rw[cG,gI,cG] at av;have:=b7.out;omega);clear e8 dd;by_cases CK:X.data.toList=[]
    case pos=>
      rw[a8 CK] at aH;have bd:=aq aH;have apG:(X.toList==[])=true:=(by rw[eR];exact e' CK);clear aH CK;go_wp2_with fail;with_reducible refine (qd _ _ _ bN _).mono ?_
      rintro e bY ⟨rfl,rfl⟩;rw[qc];go_wp2_with ((at_builtin;refine xr _ rfl _ _ _ rfl w.heap.size 104 i0 PV 12 168 LQ bZ.out.1 bZ.out.2.1 bZ.out.2.2.1 bZ.out.2.2.2 rfl (by omega) (J 0) 0 [] (by rfl) ⟨rfl,.inl ⟨rfl,rfl⟩⟩ (aj Bo.heap.size 0) 1 1 [I 0,I 2,I ((k:Int)+1),I 0,U false,aa ⟨#[]⟩,aa ⟨#[]⟩,aa ⟨#[]⟩,aa ⟨#[]⟩,aa ⟨#[]⟩,J 0,J 0] (by rfl) rfl (kc (ga Bo _)) (by simp[Value.oneCell']) (by unfold maxLen;omega) (by omega) (by have:=aO.out.size;simp;omega) ?_;intro v' w' gx iB pw;obtain⟨g',mn,rfl,_,_⟩:=gx.form (by omega);have dn:af (jJ w.heap.size w' (ag g' 0 (0+1) mn) (tR [{b4 2 with n:=(k:Int)+1}])∧ao w w w'):=⟨jJ.push (l:=[]) (xs:=[]) (v:=J 0) (x:=(0,{b4 2 with n:=(k:Int)+1})) (p:=none) (q:=none) (k:=0) (m:=0) ⟨rfl,.inl ⟨rfl,rfl⟩⟩ .nil (eW.nil _ _ _) (fG.nil _ _ _) ((Below.refl _ _).alloc (bx _) _) iB gx,(aO.out.alloc aO.out.size _).grown iB (by have:=aO.out.size;simp;omega) (fun k ax=>by simp[Value.ownBlock] at ax)⟩;clear gx iB pw));go_ret2;rw[←bd.out];exact⟨dn.out.2,_,rfl,dn.out.1⟩
    rw[aR CK,apw] at aH;have yr:=aq aH;have apG:(X.toList==[])=false:=(by rw[eR];exact eT CK);clear aH CK;obtain⟨axU,b,adl⟩:=apv X ⟨#[68]⟩;go_wp2_with fail;with_reducible refine (qd _ _ _ bN _).mono ?_
    rintro e bY ⟨rfl,rfl⟩;rw[qc];go_wp2_with ((at_builtin;refine xr _ rfl _ _ _ rfl w.heap.size 104 i0 PV 12 168 LQ bZ.out.1 bZ.out.2.1 bZ.out.2.2.1 bZ.out.2.2.2 rfl (by omega) (J 0) 0 [] (by rfl) ⟨rfl,.inl ⟨rfl,rfl⟩⟩ (aj Bo.heap.size 0) 1 1 [I 0,I 2,I ((k:Int)+1),I 0,U false,aa ⟨#[]⟩,aa ⟨#[]⟩,aa ⟨#[]⟩,aa ⟨#[]⟩,aa ⟨#[]⟩,J 0,J 0] (by rfl) rfl (kc (ga Bo _)) (by simp[Value.oneCell']) (by unfold maxLen;omega) (by omega) (by have:=aO.out.size;simp;omega) ?_;intro v' w' gx iB pw;obtain⟨g',mn,rfl,_,_⟩:=gx.form (by omega);have dn:af (jJ w.heap.size w' (ag g' 0 (0+1) mn) (tR [{b4 2 with n:=(k:Int)+1}])∧ao w w w'):=⟨jJ.push (l:=[]) (xs:=[]) (v:=J 0) (x:=(0,{b4 2 with n:=(k:Int)+1})) (p:=none) (q:=none) (k:=0) (m:=0) ⟨rfl,.inl ⟨rfl,rfl⟩⟩ .nil (eW.nil _ _ _) (fG.nil _ _ _) ((Below.refl _ _).alloc (bx _) _) iB gx,(aO.out.alloc aO.out.size _).grown iB (by have:=aO.out.size;simp;omega) (fun k ax=>by simp[Value.ownBlock] at ax)⟩;clear gx iB pw));with_reducible refine (adl _).mono ?_
    rintro e dp ⟨rfl,rfl⟩;clear adl;cases b;all_goals go_wp2_with fail
  case' neg=>
    have aH:qY S.data.toList []=res:=(apC (fun j cr=>bf.out j (by omega))).symm.trans dT.out;have dn:af (jJ w.heap.size Bo (J 0) (tR [])∧ao w w Bo):=⟨jJ.nil _ _,aO.out⟩;obtain rfl:k=3:=(by omega);have c2:=b7;by_cases cb:S.data.toList≠[]∧S.data.toList.headD 0=68
    case' pos=>
      obtain⟨r,hr⟩:∃r,S.data.toList=68::r:=by
        cases hS:S.data.toList with
        |nil=>exact absurd hS cb.1
        |cons a r=>
          have az:=cb.2;rw[hS] at az;exact⟨r,by rw[show a=68 from az]⟩
      obtain⟨T,eS⟩:=kb r;rw[←eS] at hr;rw[hr,apy,←hr] at aH;have bN:af (S.data.toList=(⟨#[68]⟩:Ua).data.toList++T.data.toList):=hr;have c9:af (T.size≤maxLen):=(by show T.size≤_;have av:=fK List.length hr;rw[eP,cG,cG] at av;have:=b7.out;unfold maxLen;omega);obtain⟨LS,FJ⟩:∃LS,vP T.data.toList=LS:=⟨_,rfl⟩;have U6:=aq FJ;rw[FJ] at aH;have yr:=aq aH;clear FJ cb hr eS aH;go_wp2_with fail;with_reducible refine (qd _ _ _ bN _).mono ?_
      rintro e bY ⟨rfl,rfl⟩;rw[qc];go_wp2_with fail;with_reducible refine (TK T c9.out _ U6 _).mono ?_
      rintro e dp ⟨hc,rfl⟩;cases LS
      case some n=>
        obtain rfl:e=ab (.tuple #[I ((n:Nat):Int),U true]):=hc;go_wp2_with fail;with_reducible refine (U4 6 n 0 false [] [] [] [] [] _).mono ?_
        rintro e cA ⟨ay,v,rfl,hc⟩;have bz:=aq (And.intro ay hc);clear ay hc;go_wp2_with fail;go_ret2;rw[←yr.out];exact⟨dn.out.2.trans (bz.out.1.mono dn.out.2.size),_,rfl,apz bz.out.2 dn.out.2.size⟩
      obtain rfl:e=ab (.tuple #[I ((0:Nat):Int),U false]):=hc;go_wp2_with fail
    case' neg=>
      rw[apx cb] at aH;have bN:af (∀r,S.data.toList≠(⟨#[68]⟩:Ua).data.toList++r):=fun r hr=>cb (by rw[hr];exact⟨by simp,rfl⟩);have yr:=aq aH;clear aH cb;go_wp2_with fail;with_reducible refine (CI _ _ bN _).mono ?_
      rintro e bY ⟨rfl,rfl⟩;go_wp2_with fail
  all_goals
    obtain⟨Y,lj,cC⟩:=apA c2;have aH:=yr.out;rw[lj] at aH⊢;obtain⟨xN,U7⟩:∃xN,pX Y.data.toList=xN:=⟨_,rfl⟩;have apH:=aq U7;rw[U7] at aH;have bd:=aq aH;clear U7 aH lj;with_reducible refine (amR Y cC.out xN apH _).mono ?_
    rintro e bt ⟨dS,c,p,dU,rfl,hn,qh,hd⟩;unfold kS iX;have dX:=aq (dn.out.2.trans (dS.mono dn.out.2.size));cases xN with
    |none=>
      clear dS hn qh hd;go_wp2_with fail;go_ret2;rw[←bd.out];exact⟨dX.out.alloc dX.out.size _,rfl⟩
    |some d=>
      obtain rfl:=hd d rfl;have LU:=aq (dn.out.1.below dS);have ys:=aq (And.intro (hn.mono dn.out.2.size) qh);obtain⟨xs,tS,adm⟩:=LU.out;have wH:=aq tS;have zh:=aq adm;clear dS hn qh hd tS adm;go_wp2_with ((at_builtin;(first|refine xr _ rfl _ _ _ rfl w.heap.size 104 i0 PV 12 168 LQ bZ.out.1 bZ.out.2.1 bZ.out.2.2.1 bZ.out.2.2.2 rfl (by omega) (.slice none 0 0) 0 xs (by rfl) (e9 wH.out (((Below.refl _ _).alloc (bx _) _).alloc (by simp) _)) ⟨bt.heap.size+1,0,none⟩ 1 1 [.int .i64 0,.int .i64 d.k,.int .i64 d.n,.int .i64 d.m,.bool d.on,.string ⟨d.t.toArray⟩,.string ⟨d.x.toArray⟩,.string ⟨d.y.toArray⟩,.string ⟨d.i.toArray⟩,.string ⟨d.j.toArray⟩,.slice p d.b6.length dU,b3] (by rfl) rfl (kc (PU bt _ _)) (by simp[Value.oneCell']) (by unfold maxLen;omega) (by omega) (by have:=dX.out.size;simp;omega) ?_|refine xr _ rfl _ _ _ rfl w.heap.size 104 i0 PV 12 168 LQ bZ.out.1 bZ.out.2.1 bZ.out.2.2.1 bZ.out.2.2.2 rfl (by omega) (.slice (some ⟨g',0,none⟩) (0+1) mn) 1 xs (by rfl) (e9 wH.out (((Below.refl _ _).alloc (bx _) _).alloc (by simp) _)) ⟨bt.heap.size+1,0,none⟩ 1 1 [.int .i64 0,.int .i64 d.k,.int .i64 d.n,.int .i64 d.m,.bool d.on,.string ⟨d.t.toArray⟩,.string ⟨d.x.toArray⟩,.string ⟨d.y.toArray⟩,.string ⟨d.i.toArray⟩,.string ⟨d.j.toArray⟩,.slice p d.b6.length dU,b3] (by rfl) rfl (kc (PU bt _ _)) (by simp[Value.oneCell']) (by unfold maxLen;omega) (by omega) (by have:=dX.out.size;simp;omega) ?_);intro v' w' gx iB pw;obtain⟨g2,hg,rfl,_,_⟩:=gx.form (by omega);have aP:=aq (And.intro (jJ.push (xs:=xs) (x:=(0,d)) (p:=p) (q:=none) (k:=dU) (m:=0) wH.out zh.out ys.out.1 (by rw[ys.out.2];exact fG.nil _ _ _) (((Below.refl _ _).alloc (bx _) _).alloc (by simp) _) iB (by rw[ys.out.2];exact gx)) (((dX.out.alloc dX.out.size _).alloc (dB dX.out.size (by simp)) _).grown iB (by have:=dX.out.size;simp;omega) (fun k ax=>(wH.out.lt _ ax).1)));clear gx iB pw));go_ret2;rw[←bd.out];exact⟨aP.out.2,_,rfl,aP.out.1⟩
end gT
