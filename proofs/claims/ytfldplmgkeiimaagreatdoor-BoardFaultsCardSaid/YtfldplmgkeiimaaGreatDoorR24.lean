/- Lemmas. -/
import Derived.Test.YtfldplmgkeiimaaGreatDoorR23
set_option linter.all false
set_option maxRecDepth 100000
set_option maxHeartbeats 12800000
namespace Go.Proofs.YtfldplmgkeiimaaGreatDoor
abbrev Kp:=@Proofs.Tryz.underlying98
namespace iS
open Go.RowKit kR ig n1 Mem pN ct
theorem al3(S P:Ua):∃(R:Ua) (b:Bool),∀w,Calls Tryz.prog 89 #[aa S,aa P] w fun e w'=>e=ab (.tuple #[aa R,U b])∧w=w':=
 ⟨_,_,fun w=>(SO S P w).mono fun e w' ⟨he,hw⟩=>⟨he,hw.symm⟩⟩
def G1(cs:List C):Option C→Except Nat (List C)
 |none=>.error 3
 |some c=>.ok (cs++[c])
theorem al4(t:au)(x:C)(l:List C):ri t (x::l)=G1 (x::l) (uY t):=by unfold ri G1;rw[aW (by rintro⟨_,_,h⟩;cases h)];rfl
variable{t:au}
theorem al5(h:¬(t≠[]∧t.headD 0=68)):ri t []=G1 [] (uY t):=by unfold ri G1;rw[aW (fun aK=>h ⟨aK.1,aK.2.1⟩)];rfl
theorem al6{r:au}:ri (68::r) []=match vb r with|some n=>.ok [{cI 6 with n:=(n:Int)}]|none=>G1 [] (uY (68::r)):=by unfold ri G1;rw[bb ⟨by simp,rfl,rfl⟩];rfl
theorem al7{B D:Nat}{w:aeo}{v:ada}{l:List (Nat×C)}(h:jL B w v l)(b2:D≤B):jL D w v l:=by
 obtain⟨xs,av,az⟩:=h;refine⟨xs,⟨av.1,?_⟩,az.imp (fun _ _ g=>g.mono b2) (fun _ _ g=>g.mono b2)⟩;rcases av.2 with g|⟨b,c,cur,a7,bf,cM⟩
 ·exact .inl g
 ·exact .inr ⟨b,c,cur,a7,dx b2 bf,cM⟩
theorem OX(w:aeo)(a b:Obj):((w.alloc a).alloc b).heap[w.heap.size+1]?=some b:=by have h:=fJ (w.alloc a) b;rw[show (w.alloc a).heap.size=w.heap.size+1 by simp] at h;exact h
def gk:Nat→List UInt8
 |0=>[71,48,49]
 |1=>[71,48,50]
 |_=>[71,48,51]
theorem al8{X:Ua}(h:af (X.size≤1000000000)):∃Y,X=Y∧af (Y.size≤1000000000):=⟨_,rfl,h⟩
def Kq(t:au):Except Nat (List C):=if t.take 3=gk 0 then tL t 1 else if t.take 3=gk 1 then tL t 2 else if t.take 3=gk 2 then tL t 3 else ri t []
theorem al9{k:Nat}(ay:k<3)(h:∀j,j<k→t.take 3≠gk j)(p:t.take 3=gk k):Kq t=tL t ((k:Int)+1):=by
 unfold Kq;rcases (show k=0∨k=1∨k=2 by omega) with rfl|rfl|rfl
 ·rw[bb p];rfl
 ·rw[aW (h 0 (by decide)),bb p];rfl
 ·rw[aW (h 0 (by decide)),aW (h 1 (by decide)),bb p];rfl
theorem ama(h:∀j,j<3→t.take 3≠gk j):Kq t=ri t []:=by unfold Kq;rw[aW (h 0 (by decide)),aW (h 1 (by decide)),aW (h 2 (by decide))]
theorem TW(k:Nat):(gk k).length=3:=by unfold gk;split<;>rfl
abbrev OY:Value:=.agg #[I 0,I 0,I 0,I 0,U false,aa ⟨#[]⟩,aa ⟨#[]⟩,aa ⟨#[]⟩,aa ⟨#[]⟩,aa ⟨#[]⟩,J 0,J 0]
abbrev G2:Obj:=.cells #[aa ⟨#[71,48,49]⟩,aa ⟨#[71,48,50]⟩,aa ⟨#[71,48,51]⟩] 9
theorem amb{w:aeo}{b k:Nat}(h:w.heap[b]?=some G2)(ay:k<3):ak w b k (aa ⟨(gk k).toArray⟩):=by rcases (show k=0∨k=1∨k=2 by omega) with rfl|rfl|rfl<;>simp[World.cell?,h,gk]
theorem amc(S:Ua)(hs:S.size≤1000000000)(res:Except Nat (List C))(hr:af (Bh S.data.toList=res))(w:aeo):
    Calls Tryz.prog 63 #[aa S] w (TU res w):=by
  have db:=aq hs;have aA:=hr.out;clear hr hs;by_cases hm:S.data.toList∈([[71,51,54],[71,51,55],[71,55,52],[71,55,53],[77,48,50]]:List (List UInt8))
  · simp only[Sd,Se,or_false] at hm
    rcases hm with h|h|h|h|h
    all_goals
      have E:∀p,(S.toList==p)=decide (S.data.toList=p):=fun p=>eG S p;rw[h] at E aA;have bw:=aq aA;first|have a7:(S.toList==[71,51,54])=true:=E _|have a7:(S.toList==[71,51,54])=false:=E _
      first|have bf:(S.toList==[71,51,55])=true:=E _|have bf:(S.toList==[71,51,55])=false:=E _
      first|have cM:(S.toList==[71,55,52])=true:=E _|have cM:(S.toList==[71,55,52])=false:=E _
      first|have hO:(S.toList==[71,55,53])=true:=E _|have hO:(S.toList==[71,55,53])=false:=E _
      first|have nN:(S.toList==[77,48,50])=true:=E _|have nN:(S.toList==[77,48,50])=false:=E _
      clear h aA E;go_enter Tryz.func63,Tryz.ntmps63;go_wp2_with fail
      first
        | (with_reducible refine (TV _ _ _ _ [] [] [] [] [] _).mono ?_
           rintro e b9 ⟨ax,v,rfl,hc⟩;have bC:=aq (And.intro ax hc);clear ax hc;go_wp2_with fail;go_ret2;rw[←bw.out];exact⟨bC.out.1,_,rfl,bC.out.2⟩)
        | (go_ret2
           rw[←bw.out];exact⟨Below.refl _ _,rfl⟩)
  have F:∀p,p∈([[71,51,54],[71,51,55],[71,55,52],[71,55,53],[77,48,50]]:List (List UInt8))→(S.toList==p)=false:=(fun p hp=>by rw[eG];exact ey fun h=>hm (h ▸ hp));have a7:=F [71,51,54] (by decide);have bf:=F [71,51,55] (by decide);have cM:=F [71,55,52] (by decide);have hO:=F [71,55,53] (by decide);have nN:=F [77,48,50] (by decide);have mg:(if S.data.toList.take 3=[71,48,52] then .ok [{cI 1 with t:=S.data.toList.drop 3}] else Kq S.data.toList)=res:=(by rw[←aA];unfold Bh;simp only[Sd,Se,or_false,not_or] at hm;rw[aW hm.1,aW hm.2.1,aW hm.2.2.1,aW hm.2.2.2.1,aW hm.2.2.2.2];rfl);clear aA hm F;by_cases gn:S.data.toList.take 3=[71,48,52]
  · rw[bb gn] at mg
    have bw:=aq mg;have bT:af (S.data.toList=(⟨#[71,48,52]⟩:Ua).data.toList++S.data.toList.drop 3):=SP (p:=[71,48,52]) gn;clear mg gn;go_enter Tryz.func63,Tryz.ntmps63;go_wp2_with fail;with_reducible refine (pF _ _ _ bT _).mono ?_
    rintro e b9 ⟨rfl,rfl⟩;go_wp2_with fail;with_reducible refine (TV 1 0 0 false (S.data.toList.drop 3) [] [] [] [] _).mono ?_
    rintro e b9 ⟨ax,v,rfl,hc⟩;have bC:=aq (And.intro ax hc);clear ax hc;go_wp2_with fail;go_ret2;rw[←bw.out];exact⟨bC.out.1,_,rfl,bC.out.2⟩
  rw[aW gn] at mg;have bT:af (∀r,S.data.toList≠(⟨#[71,48,52]⟩:Ua).data.toList++r):=SQ (p:=[71,48,52]) gn;clear gn;have dn:=aq mg;clear mg;obtain⟨i0,k',dy,dJ,dv⟩:=info_parts ZU;have b8:=aq (And.intro k' (And.intro dy (And.intro dJ dv)));clear k' dy dJ dv;go_enter Tryz.func63,Tryz.ntmps63;go_wp2_with fail;with_reducible refine (BS _ _ bT _).mono ?_
  rintro e b9 ⟨rfl,rfl⟩;have bH:af ((w.alloc G2).heap[w.heap.size]?=some G2):=fJ w _;have aI:af (ao w w (w.alloc G2)):=(Below.refl _ _).alloc (bx _) _;go_wp2_with fail;change Code.wp _ _ _ _ (w.alloc G2);generalize w.alloc G2=b7 at bH aI⊢
  go_loopw [0,6,54] (fun t c i wr=>∃(k:Nat) (As:aeo),As=wr∧As=b7∧k≤3∧af (∀j,j<k→S.data.toList.take 3≠gk j)∧t=aa S∧c=J 0∧i=I (k:Int)) (fun _ _ i _=>3 -(intOf i).toNat)
  case atStart=>exact⟨0,_,rfl,rfl,by omega,fun j h=>absurd h (my j),rfl,rfl,rfl⟩
  case round=>
  obtain⟨k,As,rfl,amd,ay,bd,rfl,rfl,rfl⟩:=hrel;subst amd;by_cases l6:k<3
  case' pos=>
    have qP:(k:Int)<3:=(by omega);have qi:(0:Int)≤(k:Int):=(by omega);have m0:=amb bH.out l6;by_cases fh:S.data.toList.take 3=gk k
    case neg=>
      have lE:af (∀r,S.data.toList≠(⟨(gk k).toArray⟩:Ua).data.toList++r):=SQ (p:=gk k) (by rw[TW];exact fh)
      have vM:af (∀j,j<k+1→S.data.toList.take 3≠gk j):=fun j cd=>by
        by_cases e:j=k
        · rw[e];exact fh
        · exact bd.out j (by omega)
      clear fh;go_wp2_with fail;with_reducible refine (BS _ _ lE _).mono ?_
      rintro e b9 ⟨rfl,rfl⟩;go_wp2_with fail;go_round<;>first|exact⟨k+1,_,rfl,rfl,by omega,vM.out,rfl,rfl,by go_num⟩|(simp[intOf]<;>omega)
    obtain⟨X,c7⟩:=jQ (S.data.toList.drop 3);have aR:tL S.data.toList ((k:Int)+1)=res:=(al9 l6 bd.out fh).symm.trans dn.out;unfold tL at aR;have bT:af (S.data.toList=(⟨(gk k).toArray⟩:Ua).data.toList++X.data.toList):=(by have h:=SP (l:=S.data.toList) (p:=gk k) (by rw[TW];exact fh);rw[TW] at h;show _=_;rw[c7];exact h);rw[←c7] at aR;have cR:af (X.size≤1000000000):=(by show X.size≤_;have av:=fp List.length c7;rw[cb,fH,cb] at av;have:=db.out;omega);clear fh c7;by_cases BU:X.data.toList=[]
    case pos=>
      rw[bb BU] at aR;have a':=aq aR;have ame:(X.toList==[])=true:=(by rw[eG];exact eL BU);clear aR BU;go_wp2_with fail;with_reducible refine (pF _ _ _ bT _).mono ?_
      rintro e b9 ⟨rfl,rfl⟩;rw[n5];go_wp2_with ((at_builtin;refine uO _ rfl _ _ _ rfl w.heap.size 104 i0 OY 12 168 Kp b8.out.1 b8.out.2.1 b8.out.2.2.1 b8.out.2.2.2 rfl (by omega) (J 0) 0 [] (by rfl) ⟨rfl,.inl ⟨rfl,rfl⟩⟩ (aj As.heap.size 0) 1 1 [I 0,I 2,I ((k:Int)+1),I 0,U false,aa ⟨#[]⟩,aa ⟨#[]⟩,aa ⟨#[]⟩,aa ⟨#[]⟩,aa ⟨#[]⟩,J 0,J 0] (by rfl) rfl (j8 (fJ As _)) (by simp[Value.oneCell']) (by unfold maxLen;omega) (by omega) (by have:=aI.out.size;simp;omega) ?_;intro v' w' fR hL nF;obtain⟨g',mW,rfl,_,_⟩:=fR.form (by omega);have cQ:af (jL w.heap.size w' (ag g' 0 (0+1) mW) (s4 [{cI 2 with n:=(k:Int)+1}])∧ao w w w'):=⟨jL.push (l:=[]) (xs:=[]) (v:=J 0) (x:=(0,{cI 2 with n:=(k:Int)+1})) (p:=none) (q:=none) (k:=0) (m:=0) ⟨rfl,.inl ⟨rfl,rfl⟩⟩ .nil (dH.nil _ _ _) (gY.nil _ _ _) ((Below.refl _ _).alloc (bx _) _) hL fR,(aI.out.alloc aI.out.size _).grown hL (by have:=aI.out.size;simp;omega) (fun k ay=>by simp[Value.ownBlock] at ay)⟩;clear fR hL nF));go_ret2;rw[←a'.out];exact⟨cQ.out.2,_,rfl,cQ.out.1⟩
    rw[aW BU,al4] at aR;have xK:=aq aR;have ame:(X.toList==[])=false:=(by rw[eG];exact ey BU);clear aR BU;obtain⟨awW,b,aa2⟩:=al3 X ⟨#[68]⟩;go_wp2_with fail;with_reducible refine (pF _ _ _ bT _).mono ?_
    rintro e b9 ⟨rfl,rfl⟩;rw[n5];go_wp2_with ((at_builtin;refine uO _ rfl _ _ _ rfl w.heap.size 104 i0 OY 12 168 Kp b8.out.1 b8.out.2.1 b8.out.2.2.1 b8.out.2.2.2 rfl (by omega) (J 0) 0 [] (by rfl) ⟨rfl,.inl ⟨rfl,rfl⟩⟩ (aj As.heap.size 0) 1 1 [I 0,I 2,I ((k:Int)+1),I 0,U false,aa ⟨#[]⟩,aa ⟨#[]⟩,aa ⟨#[]⟩,aa ⟨#[]⟩,aa ⟨#[]⟩,J 0,J 0] (by rfl) rfl (j8 (fJ As _)) (by simp[Value.oneCell']) (by unfold maxLen;omega) (by omega) (by have:=aI.out.size;simp;omega) ?_;intro v' w' fR hL nF;obtain⟨g',mW,rfl,_,_⟩:=fR.form (by omega);have cQ:af (jL w.heap.size w' (ag g' 0 (0+1) mW) (s4 [{cI 2 with n:=(k:Int)+1}])∧ao w w w'):=⟨jL.push (l:=[]) (xs:=[]) (v:=J 0) (x:=(0,{cI 2 with n:=(k:Int)+1})) (p:=none) (q:=none) (k:=0) (m:=0) ⟨rfl,.inl ⟨rfl,rfl⟩⟩ .nil (dH.nil _ _ _) (gY.nil _ _ _) ((Below.refl _ _).alloc (bx _) _) hL fR,(aI.out.alloc aI.out.size _).grown hL (by have:=aI.out.size;simp;omega) (fun k ay=>by simp[Value.ownBlock] at ay)⟩;clear fR hL nF));with_reducible refine (aa2 _).mono ?_
    rintro e dP ⟨rfl,rfl⟩;clear aa2;cases b;all_goals go_wp2_with fail
  case' neg=>
    have aR:ri S.data.toList []=res:=(ama (fun j cd=>bd.out j (by omega))).symm.trans dn.out;have cQ:af (jL w.heap.size As (J 0) (s4 [])∧ao w w As):=⟨jL.nil _ _,aI.out⟩;obtain rfl:k=3:=(by omega);have cR:=db;by_cases b2:S.data.toList≠[]∧S.data.toList.headD 0=68
    case' pos=>
      obtain⟨r,hr⟩:∃r,S.data.toList=68::r:=by
        cases hS:S.data.toList with
        |nil=>exact absurd hS b2.1
        |cons a r=>
          have az:=b2.2;rw[hS] at az;exact⟨r,by rw[show a=68 from az]⟩
      obtain⟨T,fC⟩:=jQ r;rw[←fC] at hr;rw[hr,al6,←hr] at aR;have bT:af (S.data.toList=(⟨#[68]⟩:Ua).data.toList++T.data.toList):=hr;have dr:af (T.size≤maxLen):=(by show T.size≤_;have av:=fp List.length hr;rw[fY,cb,cb] at av;have:=db.out;unfold maxLen;omega);obtain⟨Kr,Et⟩:∃Kr,vb T.data.toList=Kr:=⟨_,rfl⟩;have TX:=aq Et;rw[Et] at aR;have xK:=aq aR;clear Et b2 hr fC aR;go_wp2_with fail;with_reducible refine (pF _ _ _ bT _).mono ?_
      rintro e b9 ⟨rfl,rfl⟩;rw[n5];go_wp2_with fail;with_reducible refine (SR T dr.out _ TX _).mono ?_
      rintro e dP ⟨hc,rfl⟩;cases Kr
      case some n=>
        obtain rfl:e=ab (.tuple #[I ((n:Nat):Int),U true]):=hc;go_wp2_with fail;with_reducible refine (TV 6 n 0 false [] [] [] [] [] _).mono ?_
        rintro e cW ⟨ax,v,rfl,hc⟩;have bC:=aq (And.intro ax hc);clear ax hc;go_wp2_with fail;go_ret2;rw[←xK.out];exact⟨cQ.out.2.trans (bC.out.1.mono cQ.out.2.size),_,rfl,al7 bC.out.2 cQ.out.2.size⟩
      obtain rfl:e=ab (.tuple #[I ((0:Nat):Int),U false]):=hc;go_wp2_with fail
    case' neg=>
      rw[al5 b2] at aR;have bT:af (∀r,S.data.toList≠(⟨#[68]⟩:Ua).data.toList++r):=fun r hr=>b2 (by rw[hr];exact⟨by simp,rfl⟩);have xK:=aq aR;clear aR b2;go_wp2_with fail;with_reducible refine (BS _ _ bT _).mono ?_
      rintro e b9 ⟨rfl,rfl⟩;go_wp2_with fail
  all_goals
    obtain⟨Y,k9,c1⟩:=al8 cR;have aR:=xK.out;rw[k9] at aR⊢;obtain⟨w8,TY⟩:∃w8,uY Y.data.toList=w8:=⟨_,rfl⟩;have amf:=aq TY;rw[TY] at aR;have a':=aq aR;clear TY aR k9;with_reducible refine (ajN Y c1.out w8 amf _).mono ?_
    rintro e bI ⟨dY,c,p,dK,rfl,hn,rX,hd⟩;unfold lu jm;have eH:=aq (cQ.out.2.trans (dY.mono cQ.out.2.size));cases w8 with
    |none=>
      clear dY hn rX hd;go_wp2_with fail;go_ret2;rw[←a'.out];exact⟨eH.out.alloc eH.out.size _,rfl⟩
    |some d=>
      obtain rfl:=hd d rfl;have Ks:=aq (cQ.out.1.below dY);have xL:=aq (And.intro (hn.mono cQ.out.2.size) rX);obtain⟨xs,s5,aa3⟩:=Ks.out;have vK:=aq s5;have F3:=aq aa3;clear dY hn rX hd s5 aa3;go_wp2_with ((at_builtin;(first|refine uO _ rfl _ _ _ rfl w.heap.size 104 i0 OY 12 168 Kp b8.out.1 b8.out.2.1 b8.out.2.2.1 b8.out.2.2.2 rfl (by omega) (.slice none 0 0) 0 xs (by rfl) (gC vK.out (((Below.refl _ _).alloc (bx _) _).alloc (by simp) _)) ⟨bI.heap.size+1,0,none⟩ 1 1 [.int .i64 0,.int .i64 d.k,.int .i64 d.n,.int .i64 d.m,.bool d.on,.string ⟨d.t.toArray⟩,.string ⟨d.x.toArray⟩,.string ⟨d.y.toArray⟩,.string ⟨d.i.toArray⟩,.string ⟨d.j.toArray⟩,.slice p d.bX.length dK,bN] (by rfl) rfl (j8 (OX bI _ _)) (by simp[Value.oneCell']) (by unfold maxLen;omega) (by omega) (by have:=eH.out.size;simp;omega) ?_|refine uO _ rfl _ _ _ rfl w.heap.size 104 i0 OY 12 168 Kp b8.out.1 b8.out.2.1 b8.out.2.2.1 b8.out.2.2.2 rfl (by omega) (.slice (some ⟨g',0,none⟩) (0+1) mW) 1 xs (by rfl) (gC vK.out (((Below.refl _ _).alloc (bx _) _).alloc (by simp) _)) ⟨bI.heap.size+1,0,none⟩ 1 1 [.int .i64 0,.int .i64 d.k,.int .i64 d.n,.int .i64 d.m,.bool d.on,.string ⟨d.t.toArray⟩,.string ⟨d.x.toArray⟩,.string ⟨d.y.toArray⟩,.string ⟨d.i.toArray⟩,.string ⟨d.j.toArray⟩,.slice p d.bX.length dK,bN] (by rfl) rfl (j8 (OX bI _ _)) (by simp[Value.oneCell']) (by unfold maxLen;omega) (by omega) (by have:=eH.out.size;simp;omega) ?_);intro v' w' fR hL nF;obtain⟨g2,jc,rfl,_,_⟩:=fR.form (by omega);have aO:=aq (And.intro (jL.push (xs:=xs) (x:=(0,d)) (p:=p) (q:=none) (k:=dK) (m:=0) vK.out F3.out xL.out.1 (by rw[xL.out.2];exact gY.nil _ _ _) (((Below.refl _ _).alloc (bx _) _).alloc (by simp) _) hL (by rw[xL.out.2];exact fR)) (((eH.out.alloc eH.out.size _).alloc (dx eH.out.size (by simp)) _).grown hL (by have:=eH.out.size;simp;omega) (fun k ay=>(vK.out.lt _ ay).1)));clear fR hL nF));go_ret2;rw[←a'.out];exact⟨aO.out.2,_,rfl,aO.out.1⟩
end iS
