/- Lemmas. -/
import Derived.Test.YtfldplmgkeiimaaGreatDoorQ1
import Derived.Test.YtfldplmgkeiimaaGreatDoorShelf
import Derived.WalkKit
import Derived.WalkSpells
import Derived.WalkLawsBesides
import Derived.Lib.Hide
import Derived.Lib.Strings
import Derived.Lib.AppendIntMem
import Derived.Deep.DeepCutAuto
import Derived.Deep.CutRange
import Derived.BigQuiet
import Derived.Deep.QuietTactic
import Derived.Outline
set_option linter.all false
namespace Go.Proofs.YtfldplmgkeiimaaGreatDoor
abbrev sZ:=@if_true
abbrev fK:=@congrArg
abbrev e6:=@List.length_map
abbrev NA:=@Int.natCast_add
abbrev NB:=@Int.natCast_one
abbrev p0:=@Int.add_zero
abbrev B':=@Lib.extract_data
abbrev vX:=@List.take_of_length_le
namespace dH
def ft:List cJ→bc
 |[]=>.nil
 |b::l=>.cons true b .nil (ft l)
structure Am(b:cJ)(B:bO):Prop where
 rO:yW b (lq .nil)=some B
 off:∀q,Sub q q→sQ B q=true→BZ q b (pV q .nil 0)=0
 s3:b.k≠4
 ok:okV (gX b)=true
theorem Am.snd{b:cJ}{B:bO}(h:Am b B)(d:Bool):sY (d,gX b):=by unfold sY sR k2;simp only[h.ok,sZ];have e:yW (gX b).b (lq (gX b).p)=some B:=h.rO;rw[e];exact fun _ q aH ha=>h.off q aH ha
theorem Ye(q:bO):∀(p:bc) (k:Int),0≤k∧k≤2→0≤pV q p k∧pV q p k≤2
 |.nil,k,h=>h
 |.cons a b s r,k,h=>Ye q r _ (Nv _ _ _ h)
theorem Yf(q:bO):∀(l:List cJ) (k:Int),(∀b∈l,okV (gX b)=true)→pV q (ft l) k=(l.map fun b=>((true,gX b):dx)).foldl (fun k o=>nZ k (k2 q o.2) o.1) k
 |[],_,_=>rfl
 |b::l,k,h=>by have ay:k2 q (gX b)=BZ q b (pV q .nil 0):=(by unfold k2;rw[a8 (h b (by simp))];rfl);rw[oH,nW];show pV q (ft l) _=List.foldl _ (nZ k (k2 q (gX b)) true) _;rw[ay];exact Yf q l _ fun c hc=>h c (by simp[hc])
theorem ajm{k:Int}(h:0≤k∧k≤2):nZ 0 k true=k:=by rcases (show k=0∨k=1∨k=2 by omega) with rfl|rfl|rfl<;>decide
variable{l:List cJ}
theorem ajn(h:∀b∈l,okV (gX b)=true)(hf:okV ⟨ew,ft l⟩=true)(q:bO):kJ [(true,⟨ew,ft l⟩)] q=kJ (l.map fun b=>((true,gX b):dx)) q:=by
 unfold kJ;rw[nW,GB,←Yf q l 0 h];have e:k2 q ⟨ew,ft l⟩=pV q (ft l) 0:=by unfold k2;rw[a8 hf];rfl
 simp only[e];exact ajm (Ye q _ 0 (by decide))
theorem Yg(q:bO):∀(l:List cJ),(∀b∈l,BZ q b (pV q .nil 0)=0)→pV q (ft l) 0=0
 |[],_=>rfl
 |b::l,h=>by show pV q (ft l) (nZ 0 (BZ q b (pV q .nil 0)) true)=0;rw[h b (by simp)];exact Yg q l fun c hc=>h c (by simp[hc])
def An(B k5:bO):Prop:=k5.aD≤B.aD∧k5.aC≤B.aC∧B.aG≤k5.aG∧B.aE≤k5.aE
theorem Yh:∀(l:List cJ),(∀b∈l,∃B,Am b B)→∀o:Option bO,(lq (ft l) o=o∧l=[])∨∃k5,lq (ft l) o=some k5∧(∀a,o=some a→An a k5)∧∀b∈l,∃B,Am b B∧An B k5
 |[],_,o=>.inl ⟨rfl,rfl⟩
 |b::l,h,o=>by
  obtain⟨B,bL⟩:=h b (by simp);have e:lq (ft (b::l)) o=lq (ft l) (nu o B):=(by show lq (ft l) (if true=true then (match yW b (lq .nil) with|none=>o|some x=>nu o x) else o)=_;rw[bL.rO];rfl);rw[e]
  obtain⟨a,ha,JP,Yi⟩:∃a,nu o B=some a∧An B a∧∀c,o=some c→An c a:=by
   cases o with
   |none=>exact⟨B,rfl,⟨oJ _,oJ _,oJ _,oJ _⟩,fun c hc=>by cases hc⟩
   |some c=>exact⟨_,rfl,by unfold An;simp only;omega,fun d hd=>by injection hd with hd;subst hd;unfold An;simp only;omega⟩
  right;rcases Yh l (fun c hc=>h c (by simp[hc])) (nu o B) with ⟨av,rfl⟩|⟨k5,av,az,aF⟩
  ·refine⟨a,by rw[av,ha],Yi,fun c hc=>?_⟩;obtain rfl:c=b:=(by simpa using hc);exact⟨B,bL,JP⟩
  ·have JQ:=az a ha;refine⟨k5,av,fun c hc=>?_,fun c hc=>?_⟩
   ·have:=Yi c hc;unfold An at *
    omega
   ·rcases List.mem_cons.1 hc with rfl|hc
    ·exact⟨B,bL,by unfold An at *;omega⟩
    ·exact aF c hc
theorem ajo(h:∀b∈l,∃B,Am b B)(d:Bool):sY (d,⟨ew,ft l⟩):=by
 unfold sY sR k2;cases hf:okV ⟨ew,ft l⟩ with
 |false=>simp
 |true=>
  simp only[sZ];have e:yW (⟨ew,ft l⟩:dK).b (lq (⟨ew,ft l⟩:dK).p)=lq (ft l) none:=rfl;have a6:∀q,DP q ⟨ew,ft l⟩=pV q (ft l) 0:=fun q=>rfl;rw[e];rcases Yh l h none with ⟨av,rfl⟩|⟨k5,av,_,aF⟩
  ·rw[av];intro q _;rfl
  ·rw[av];intro _ q aH ha;rw[a6];refine Yg q l fun b ay=>?_;obtain⟨B,bL,JQ⟩:=aF b ay;refine bL.off q aH ?_;rw[JN _ _ aH] at ha⊢;unfold An at JQ;unfold Sub at aH;omega
theorem ajp(h:∀b∈l,∃B,Am b B)(hf:okV ⟨ew,ft l⟩=true){v:iA}(hp:0<v.ht)(hw:0<v.w)(m:Int):sX [(true,⟨ew,ft l⟩)] v m=sX (l.map fun b=>((true,gX b):dx)) v m:=by
 refine ai9 hp hw (fun o bl=>?_) (fun o bl=>?_) (fun q _=>ajn (fun b ay=>?_) hf q) m
 ·obtain rfl:o=(true,⟨ew,ft l⟩):=(by simpa using bl);exact ajo h true
 ·obtain⟨b,ay,rfl⟩:=List.mem_map.1 bl;obtain⟨B,bL⟩:=h b ay;exact bL.snd true
 ·obtain⟨B,bL⟩:=h b ay;exact bL.ok
theorem ajq{aD aC aG aE:Int}(h:ka aD aC aG aE):Am (j8 [lX aD aC aG aE]) ⟨aD,aC,aG,aE⟩:=by
 have ay:=RW h;have ax:=RV (Nz h);refine⟨?_,fun q aH ha=>?_,by show (2:Int)≠4;decide,ax⟩
 ·unfold sR at ay;rw[a8 ax] at ay;exact ay
 ·have hs:=ajl true h;unfold sY at hs;simp only at hs;rw[RW h] at hs;have:=hs (by rfl) q aH ha;unfold k2 at this;rw[a8 ax] at this;exact this
variable{r:Int}
theorem Yj{g:Int}(aT:0≤r)(h:r<g):r *r<g *g:=by have av:r *r≤r *g:=JJ (by omega) aT;have az:r *g<g *g:=Int.mul_lt_mul_of_pos_right h (by omega);omega
theorem Yk(g:Int):0≤g *g:=by
 rcases Int.le_total 0 g with h|h
 ·exact gW h h
 ·exact Int.mul_nonneg_of_nonpos_of_nonpos h h
theorem Yl{v lo hi:Int}(aA:lo≤hi)(aT:0≤r)(h:hi<v-r∨v+r<lo):r *r<mN v lo hi *mN v lo hi:=by
 unfold mN;rcases h with h|h
 ·rw[aR (by omega),a8 (by omega)];exact Yj aT (by omega)
 ·rw[a8 (by omega)];exact Yj aT (by omega)
theorem ajr{c:bK}(hr:0<r)(hx:-536870912≤c.1-r∧c.1+r≤536870912)(hy:-536870912≤c.2-r∧c.2+r≤536870912)(eC:okV (gX (k4 c r))=true):Am (k4 c r) ⟨c.1-r,c.2-r,c.1+r,c.2+r⟩:=by
 refine⟨?_,fun q aH ha=>?_,by show (1:Int)≠4;decide,eC⟩
 ·show some (ml c c r)=_;unfold ml
  congr 1
  simp only[bO.mk.injEq];omega
 ·show Ad q c r=0;unfold Ad;rw[a8 ?_];rw[JN _ _ aH] at ha;unfold Sub at aH;unfold Gv;have dy:=Yk (mN c.1 q.aD q.aG);have eU:=Yk (mN c.2 q.aC q.aE);rcases (show (q.aG<c.1-r∨c.1+r<q.aD)∨(q.aE<c.2-r∨c.2+r<q.aC) by simp only at ha;omega) with h|h
  ·have:=Yl (v:=c.1) (lo:=q.aD) (hi:=q.aG) (by omega) (by omega) h;omega
  ·have:=Yl (v:=c.2) (lo:=q.aC) (hi:=q.aE) (by omega) (by omega) h;omega
end dH
namespace bS
def GO(p:au):Prop:=(∀c∈p,wc c=true)∧p≠[]∧p.length≤10000
structure gv where
 ext:Bool
 p:List UInt8
 ep:List (List UInt8)
def nx(ep:List (List UInt8)):List UInt8:=(ep.map fun q=>q++[42]).flatten
def gv.t(x:gv):List UInt8:=if x.ext=true then[37] ++((x.p++[42])++(nx x.ep++[37])) else x.p++[42]
def mm(x:gv)(c:C):Prop:=GO x.p∧(∀q∈x.ep,GO q)∧if x.ext=true then ∀a ws,ws.map ea.t=x.ep→xk ⟨a,true,true,x.p⟩ ws=.ok [c] else x.ep=[]∧vR x.p=.ok [c]
theorem go_stars:∀(ep:List (List UInt8)) (i a:Nat) (ws:List ea) (n:Nat),(∀q∈ep,GO q)→0<n→ws.length+ep.length<20000→∃hq W,jl (nx ep) i ⟨ws,[],a,true,n⟩=.ok ⟨ws++W,[],hq,true,n+ep.length⟩∧W.map ea.t=ep∧∀w∈W,w.first=false
 |[],i,a,ws,n,_,_,_=>⟨a,[],by simp[nx,jl],rfl,by simp⟩
 |q::ep,i,a,ws,n,h,hn,aA=>by
  obtain⟨av,az,aF⟩:=h q (by simp);simp only[eP] at aA;obtain⟨hq,W,e,a1,a6⟩:=go_stars ep (i+(q++[42]).length) i (ws++[⟨i,true,decide (n=0),q⟩]) (n+1) (fun x hx=>h x (by simp[hx])) (by omega) (by simp;omega);refine⟨hq,⟨i,true,decide (n=0),q⟩::W,?_,by simp[a1],fun w hw=>?_⟩
  ·rw[show nx (q::ep)=(q++[42])++nx ep by simp[nx],go_append,go_word av az aF i a ws true n (by omega)];simp only[sZ];refine e.trans ?_;rw[eP,show n+1+ep.length=n+(ep.length+1) by omega,List.append_assoc];rfl
  ·rcases List.mem_cons.1 hw with rfl|hw
   ·exact eT (by omega)
   ·exact a6 w hw
theorem go_pc{x:gv}{c:C}(h:mm x c)(i a:Nat)(ws:List ea)(aA:ws.length+1+x.ep.length<20000):∃hq i0 W,jl x.t i (base ws a)=.ok (base (ws++⟨i0,x.ext,true,x.p⟩::W) hq)∧W.map ea.t=x.ep∧∀w∈W,w.first=false:=by
 obtain⟨⟨av,az,aF⟩,bk,b9⟩:=h;obtain⟨ext,p,ep⟩:=x;cases ext with
 |false=>
  rw[aR (by simp)] at b9;obtain⟨b9,_⟩:=b9;simp only at b9;subst b9;refine⟨i,i,[],?_,rfl,by simp⟩;unfold gv.t base;simp only[pq,yZ];rw[go_word av az aF i a ws false 0 (by omega)];rfl
 |true=>
  obtain⟨hq,W,e,a1,a6⟩:=go_stars ep (i+1+(p++[42]).length) (i+1) (ws++[⟨i+1,true,true,p⟩]) 1 bk (by decide) (by simp at aA⊢;omega);refine⟨hq,i+1,W,?_,a1,a6⟩;unfold gv.t base;simp only[sZ];rw[go_append,go_pct rfl (by simp)];simp only[Bool.not_false,GC];rw[go_append,go_word av az aF (i+1) a ws true 0 (by omega)];simp only[sZ];rw[go_append];refine (fK (fun r:Except (Nat×Nat) iy=>match r with|.error x=>Except.error x|.ok de=>jl [37] (i+1+(p++[42]).length+(nx ep).length) de) e).trans ?_;simp only;rw[go_pct rfl (by simp)];simp
def Lay:List (gv×C)→List ea→Prop
 |[],ws=>ws=[]
 |x::xs,ws=>∃i0 W r,ws=⟨i0,x.1.ext,true,x.1.p⟩::(W++r)∧W.map ea.t=x.1.ep∧(∀w∈W,w.first=false)∧Lay xs r
theorem Lay.head{xs:List (gv×C)}{ws:List ea}(h:Lay xs ws):XJ ws:=by
 intro w hw;cases xs with
 |nil=>rw[h] at hw;cases hw
 |cons x xs=>
  obtain⟨i0,W,r,rfl,_⟩:=h;injection hw with hw;rw[←hw]
def h3(xs:List (gv×C)):List UInt8:=(xs.map fun x=>x.1.t).flatten
def h4(xs:List (gv×C)):Nat:=(xs.map fun x=>1+x.1.ep.length).sum
theorem go_txt:∀(xs:List (gv×C)) (i a:Nat) (ws:List ea),(∀x∈xs,mm x.1 x.2)→ws.length+h4 xs<20000→∃hq W,jl (h3 xs) i (base ws a)=.ok (base (ws++W) hq)∧Lay xs W
 |[],i,a,ws,_,_=>⟨a,[],by simp[h3,jl],rfl⟩
 |x::xs,i,a,ws,h,aA=>by have eD:h4 (x::xs)=1+x.1.ep.length+h4 xs:=(by simp[h4]);obtain⟨bE,i0,W,e,a1,a6⟩:=go_pc (h x (by simp)) i a ws (by omega);have hw:W.length=x.1.ep.length:=(by rw[←a1,e6]);obtain⟨a2,R,ch,gw⟩:=go_txt xs (i+x.1.t.length) bE (ws++⟨i0,x.1.ext,true,x.1.p⟩::W) (fun y hy=>h y (by simp[hy])) (by simp;omega);refine⟨a2,⟨i0,x.1.ext,true,x.1.p⟩::(W++R),?_,i0,W,R,rfl,a1,a6,gw⟩;rw[show h3 (x::xs)=x.1.t++h3 xs by simp[h3],go_append,e];simp only;rw[ch];simp
theorem Ym:∀{W:List ea},(∀w∈W,w.first=false)→W.takeWhile vT=W∧W.dropWhile vT=[]
 |[],_=>⟨rfl,rfl⟩
 |w::W,h=>by have av:vT w=true:=(by unfold vT;rw[h w (by simp)];rfl);obtain⟨az,aF⟩:=Ym (W:=W) fun x hx=>h x (by simp[hx]);rw[Re,List.dropWhile_cons,a8 av,a8 av,az,aF];exact⟨rfl,rfl⟩
theorem Yn:∀(xs:List (gv×C)) (f:Nat) (ws:List ea) (acc:List (Nat×C)),(∀x∈xs,mm x.1 x.2)→Lay xs ws→ws.length≤f→∃l,sU f ws acc=.ok l∧l.map Prod.snd=acc.map Prod.snd++xs.map Prod.snd
 |[],f,ws,acc,_,h,_=>by rw[h,RB];exact⟨acc,rfl,by simp⟩
 |x::xs,f,ws,acc,hx,h,hf=>by
  obtain⟨i0,W,r,rfl,a1,a6,ch⟩:=h;cases f with
  |zero=>simp at hf
  |succ f=>
   obtain⟨t1,t2⟩:=aiP W ch.head;obtain⟨t3,t4⟩:=Ym a6;obtain⟨_,_,hc⟩:=hx x (by simp)
   have y1:vS ⟨i0,x.1.ext,true,x.1.p⟩ W=.ok [x.2]:=by
    unfold vS;split
    ·rename_i he;simp only at he;rw[a8 he] at hc;rw[he];exact hc i0 W a1
    ·rename_i he;simp only at he;rw[aR he] at hc;rw[hc.2]
   rw[aiQ,t1,t2,t3,t4,y1,Jw];obtain⟨l,av,az⟩:=Yn xs f r (acc++[(i0,x.2)]) (fun y hy=>hx y (by simp[hy])) ch (by simp at hf;omega);exact⟨l,av,by rw[az];simp⟩
theorem Yo(xs:List (gv×C))(h:∀x∈xs,mm x.1 x.2)(hc:h4 xs<20000)(aA:(h3 xs).length≤1000000):∃l,j7 (h3 xs)=(l,0,0)∧l.map Prod.snd=xs.map Prod.snd:=by
 obtain⟨a,W,e,lu⟩:=go_txt xs 0 0 [] h (by simpa using hc);have hw:uf (h3 xs)=(W,0,0):=by unfold uf;rw[aR (by omega),aiN,e];simp[base]
 obtain⟨l,av,az⟩:=Yn xs W.length W [] h lu (bx _);refine⟨l,?_,by simpa using az⟩;rw[aiR hw,av]
end bS
namespace bS
open vF (vH)
def dg(v:Nat):UInt8:=UInt8.ofNat (48+v)
def D0(w a b:Nat):List UInt8:=[49,44,49,44,dg w,44,dg a,44,dg b]
def D1(w h a b:Nat):List UInt8:=[50,49,44,49,44,dg w,44,dg h,44,dg a,44,dg b,44,48]
abbrev i6(v:Nat):List (Int×Int):=[(1,(v:Int) *1000000)]
variable{v:Nat}
theorem Yp(h:v<9):∃a,vH [dg v]=(i6 v,a,0):=by rcases (show v=0∨v=1∨v=2∨v=3∨v=4∨v=5∨v=6∨v=7∨v=8 by omega) with rfl|rfl|rfl|rfl|rfl|rfl|rfl|rfl|rfl<;>exact⟨_,by rfl⟩
theorem Yq(h:v<9):dg v≠44:=by rcases (show v=0∨v=1∨v=2∨v=3∨v=4∨v=5∨v=6∨v=7∨v=8 by omega) with rfl|rfl|rfl|rfl|rfl|rfl|rfl|rfl|rfl<;>decide
theorem Yr{c:UInt8}(h:c≠44)(r:au):eu 44 (c::44::r)=([c],r,true)∧eu 44 [c]=([c],[],false):=by have ay:(c !=44)=true:=bne_iff_ne.2 h;constructor<;>simp[eu,List.takeWhile,ay]
theorem ajs(h:v<9)(r:au):eu 44 (dg v::44::r)=([dg v],r,true):=(Yr (Yq h) r).1
theorem ajt(h:v<9):eu 44 [dg v]=([dg v],[],false):=(Yr (Yq h) []).2
theorem Ys{s d r:au}{n:Int}{l:List (List (Int×Int))}(hs:ug s=some (d,44::r))(hp:qu d=n)(aT:n≠0)(ha:pY (r.length+2) r []=.ok l)(hf:lV n l.length=true):rL s=.ok ⟨3,n,[],l⟩:=by unfold rL;rw[hs];simp[hp,aT,ha,hf]
theorem Yt{c d:UInt8}{t:au}(av:c≠48)(az:c≠36):sS (c::d::t)=rL (c::d::t):=by unfold sS;rw[aR (by simp),aR (by simp[av]),aR (by simpa using az)]
theorem Ca(h:v<9)(f:Nat)(r:au)(acc:List (List (Int×Int)))(ha:acc.length<100):pY (f+1) (dg v::44::r) acc=pY f r (acc++[i6 v]):=by obtain⟨a,hp⟩:=Yp h;rw[pY,aR (by omega),ajs h r,hp];rfl
theorem Yu(h:v<9)(f:Nat)(acc:List (List (Int×Int)))(ha:acc.length<100):pY (f+1) [dg v] acc=.ok (acc++[i6 v]):=by obtain⟨a,hp⟩:=Yp h;rw[pY,aR (by omega),ajt h,hp];rfl
theorem aju{w a b:Nat}(hw:w<9)(ha:a<9)(ay:b<9):sS (D0 w a b)=.ok ⟨3,1,[],[i6 1,i6 w,i6 a,i6 b]⟩:=by
 have e:pY 9 [dg 1,44,dg w,44,dg a,44,dg b] []=.ok [i6 1,i6 w,i6 a,i6 b]:=by rw[Ca (v:=1) (by decide) _ _ _ (by decide),Ca hw _ _ _ (by simp),Ca ha _ _ _ (by simp),Yu ay _ _ (by simp)];rfl
 unfold D0;rw[Yt (by decide) (by decide)];exact Ys (d:=[49]) (r:=[dg 1,44,dg w,44,dg a,44,dg b]) (by rfl) (by decide) (by decide) e (by rfl)
theorem ajw{w h a b:Nat}(hw:w<9)(aJ:h<9)(ha:a<9)(ay:b<9):sS (D1 w h a b)=.ok ⟨3,21,[],[i6 1,i6 w,i6 h,i6 a,i6 b,i6 0]⟩:=by
 have e:pY 13 [dg 1,44,dg w,44,dg h,44,dg a,44,dg b,44,dg 0] []=.ok [i6 1,i6 w,i6 h,i6 a,i6 b,i6 0]:=by rw[Ca (v:=1) (by decide) _ _ _ (by decide),Ca hw _ _ _ (by simp),Ca aJ _ _ _ (by simp),Ca ha _ _ _ (by simp),Ca ay _ _ _ (by simp),Yu (v:=0) (by decide) _ _ (by simp)];rfl
 unfold D1;rw[Yt (by decide) (by decide)];exact Ys (d:=[50,49]) (r:=[dg 1,44,dg w,44,dg h,44,dg a,44,dg b,44,dg 0]) (by rfl) (by decide) (by decide) e (by rfl)
structure cz where
 d:Bool
 w:Nat
 h:Nat
 a:Nat
 b:Nat
structure cz.e7(p:cz):Prop where
 w:1≤p.w∧p.w≤8
 h:1≤p.h∧p.h≤8
 a:p.a≤7
 b:p.b≤7
def cz.t(p:cz):List UInt8:=if p.d=true then D0 p.w p.a p.b else D1 p.w p.h p.a p.b
def cz.hL(p:cz):eg:=if p.d=true then⟨3,1,[],[i6 1,i6 p.w,i6 p.a,i6 p.b]⟩ else⟨3,21,[],[i6 1,i6 p.w,i6 p.h,i6 p.a,i6 p.b,i6 0]⟩
theorem cz.e7.block{p:cz}(h:p.e7):sS p.t=.ok p.hL:=by
 have av:=h.w;have az:=h.h;have aF:=h.a;have bk:=h.b;unfold cz.t cz.hL;split
 ·exact aju (by omega) (by omega) (by omega)
 ·exact ajw (by omega) (by omega) (by omega) (by omega)
theorem Yv:∀(l:List cz) (i:Nat) (acc:List eg),(∀p∈l,p.e7)→vO (l.map cz.t) i acc=.ok (acc++l.map cz.hL)
 |[],i,acc,_=>by simp[vO]
 |p::l,i,acc,h=>by have hp:=(h p (by simp)).block;rw[oH,oH,vO,hp];simp only;rw[Yv l (i+1) (acc++[p.hL]) fun q aH=>h q (by simp[aH])];simp
theorem ajx{l:List cz}(h:∀p∈l,p.e7)(aA:l.length≤6):yX (l.map cz.t)=(l.map cz.hL,0,0):=by unfold yX;rw[aR (by rw[e6];omega),Yv l 0 [] h];rfl
theorem D2(h:v<9):wc (dg v)=true:=by rcases (show v=0∨v=1∨v=2∨v=3∨v=4∨v=5∨v=6∨v=7∨v=8 by omega) with rfl|rfl|rfl|rfl|rfl|rfl|rfl|rfl|rfl<;>decide
theorem cz.e7.ajy{p:cz}(h:p.e7):GO p.t:=by
 have av:=h.w;have az:=h.h;have aF:=h.a;have bk:=h.b;have a1:=D2 (v:=p.w) (by omega);have a6:=D2 (v:=p.h) (by omega);have ch:=D2 (v:=p.a) (by omega);have gw:=D2 (v:=p.b) (by omega);have dy:wc 49=true:=by decide
 have eU:wc 44=true:=by decide
 have n3:wc 50=true:=by decide
 have n4:wc 48=true:=by decide
 unfold cz.t;split
 ·refine⟨fun c hc=>?_,by simp[D0],by simp[D0]⟩;simp only[D0,vU,vV,uj] at hc;rcases hc with rfl|rfl|rfl|rfl|rfl|rfl|rfl|rfl|rfl<;>assumption
 ·refine⟨fun c hc=>?_,by simp[D1],by simp[D1]⟩;simp only[D1,vU,vV,uj] at hc;rcases hc with rfl|rfl|rfl|rfl|rfl|rfl|rfl|rfl|rfl|rfl|rfl|rfl|rfl|rfl<;>assumption
def rP(l:List cz):gv×C:=(⟨true,[65,77,84],l.map cz.t⟩,{b4 19 with t:=[84],blocks:=l.map cz.hL})
theorem ajz{l:List cz}(h:∀p∈l,p.e7)(aA:l.length≤6):mm (rP l).1 (rP l).2:=by
 refine⟨⟨show ∀c∈ [65,77,84],wc c=true by decide,show [65,77,84]≠[] by decide,show 3≤10000 by decide⟩,fun q aH=>?_,?_⟩
 ·obtain⟨p,hp,rfl⟩:=List.mem_map.1 aH;exact (h p hp).ajy
 ·show if true=true then _ else _
  rw[a8 rfl];intro a ws hw;have e:ws.map ea.t=l.map cz.t:=hw;unfold xk;have t2:¬((rP l).1.p.take 2≠[65,77]):=(by show ¬([65,77,84].take 2≠[65,77]);decide);have t3:¬qX ((rP l).1.p.drop 2)=false:=(by show ¬qX [84]=false;decide);simp only;rw[aR t2,aR t3,e,ajx h aA];rfl
end bS
namespace dH
open bS (cz C b4)
variable{b:cJ}
theorem ajA(cW:b.k≠6)(ay:k0 b 0=true)(hs:ho b=true):okV (gX b)=true:=by unfold okV bc.one gX;simp[hI,bc.len,ay,cW,hs]
structure s4(b:cJ):Prop where
 k:b.k=1∨b.k=2
 r:k0 b 0=true
 s:ho b=true
theorem s4.ok(h:s4 b):okV (gX b)=true:=ajA (by rcases h.k with e|e<;>omega) h.r h.s
theorem Yw:∀(l:List cJ) (f:Nat) (left:Int),(∀b∈l,s4 b)→(l.length:Int)≤left→hI (ft l) f left=some (left-l.length)
 |[],f,left,_,_=>by simp[ft,hI]
 |b::l,f,left,h,aA=>by
  have ay:=h b (by simp);have cW:b.k≠6:=by rcases ay.k with e|e<;>omega
  simp only[eP,NA,NB] at aA⊢;show (if left<1∨k0 b (bc.len .nil)=false then none else if b.k=6 then _ else if ho b=true then hI (ft l) f (left-1) else none)=_;have a1:k0 b (bc.len .nil)=true:=ay.r;rw[aR (by rw[a1];simp only[Bool.true_eq_false,uj];omega),aR cW,a8 ay.s,Yw l f (left-1) (fun c hc=>h c (by simp[hc])) (by omega)]
  congr 1
  omega
theorem NC{l:List cJ}(h:∀b∈l,s4 b)(aA:l.length≤900):okV ⟨ew,ft l⟩=true:=by
 unfold okV bc.one;show (if (1000:Int)<1∨k0 ew (ft l).len=false then none else if ew.k=6 then (if 8≤0 then none else match hI (ft l) 1 (1000-1) with|none=>none|some m=>hI .nil 0 m) else _).isSome=true;have a1:k0 ew (ft l).len=true:=by unfold k0;simp[ew,gu,z2]
 rw[aR (by rw[a1];simp),a8 (show ew.k=6 from rfl),aR (by simp),Yw l 1 _ h (by omega)];rfl
theorem Yx(c:bK)(r:Int)(x y:Int):k1 {h1 with eL:=(x,y)} (k4 c r)=k4 (c.1+x,c.2+y) r:=by simp[k1,k4,h1,h2,Gu,flip,gu]
theorem Yy(aD aC aG aE:Int)(x y:Int):k1 {h1 with eL:=(x,y)} (j8 [lX aD aC aG aE])=j8 [lX (aD+x) (aC+y) (aG+x) (aE+y)]:=by simp[k1,j8,h1,h2,Gu,flip,gu,lX]
theorem Yz(t:fR):∀(l:List cJ),(∀b∈l,b.k≠6)→mj t (ft l)=ft (l.map (k1 t))
 |[],_=>rfl
 |b::l,h=>by show bc.cons true (k1 t b) (if b.k=6 then mj t .nil else .nil) (mj t (ft l))=_;rw[aR (h b (by simp)),Yz t l fun c hc=>h c (by simp[hc])];rfl
theorem ajB(t:fR)(l:List cJ)(h:∀b∈l,b.k≠6):lU t ⟨ew,ft l⟩=⟨ew,ft (l.map (k1 t))⟩:=by unfold lU;rw[show (⟨ew,ft l⟩:dK).b.k=6 from rfl,a8 rfl];show (⟨k1 t ew,mj t (ft l)⟩:dK)=_;rw[Yz t l h];rfl
theorem YA{t:fR}{c:cJ}(hc:k1 t b=c)(h:s4 b)(g:s4 c):po t (gX b)=some (gX c):=by
 have e:lU t (gX b)=gX c:=by unfold lU gX;simp only;rw[hc];simp[mj]
 unfold po;rw[e,a8 ⟨h.ok,g.ok⟩]
theorem ajC{t:fR}{l:List cJ}(h:∀b∈l,s4 b)(g:∀b∈l,s4 (k1 t b))(aA:l.length≤900):po t ⟨ew,ft l⟩=some ⟨ew,ft (l.map (k1 t))⟩:=by have az:okV ⟨ew,ft (l.map (k1 t))⟩=true:=NC (fun b ay=>by obtain⟨c,hc,rfl⟩:=List.mem_map.1 ay;exact g c hc) (by rw[e6];exact aA);unfold po;rw[ajB t l (fun b ay=>by rcases (h b ay).k with e|e<;>omega),a8 ⟨NC h aA,az⟩]
theorem YB{c:bK}{r:Int}(hr:1≤r∧r≤536870912)(hc:fZ c=true):s4 (k4 c r):=
 ⟨.inl rfl,by simp[k0,k4,gu,z2],by simp[ho,k4,hc,vJ,hr.1,hr.2]⟩
theorem YC{aD aC aG aE:Int}(h:ka aD aC aG aE):s4 (j8 [lX aD aC aG aE]):=
 ⟨.inr rfl,by simp[k0,j8,gu,z2],by simp[ho,j8,Nz h]⟩
def cz.cF(x y:Int)(p:cz):cJ:=if p.d=true then k4 ((p.a:Int) *10000000+x,(p.b:Int) *10000000+y) ((p.w:Int) *5000000) else j8 [lX ((p.a:Int) *10000000 -(p.w:Int) *5000000+x) ((p.b:Int) *10000000 -(p.h:Int) *5000000+y) ((p.a:Int) *10000000+(p.w:Int) *5000000+x) ((p.b:Int) *10000000+(p.h:Int) *5000000+y)]
def y2(x y:Int):Prop:=0≤x∧x≤100000000∧0≤y∧y≤100000000
variable{p:cz}{x y:Int}
theorem GP(h:p.e7)(hr:y2 x y):s4 (cz.cF x y p):=by
 have av:=h.w;have az:=h.h;have aF:=h.a;have bk:=h.b;unfold y2 at hr;unfold cz.cF;split
 ·exact YB (by omega) (by rw[Yd];simp only;omega)
 ·exact YC (by unfold ka;omega)
theorem ajD(h:p.e7)(hr:y2 x y):∃B,Am (cz.cF x y p) B:=by
 have av:=h.w;have az:=h.h;have aF:=h.a;have bk:=h.b;have hs:=GP h hr;unfold y2 at hr;unfold cz.cF at hs⊢;split
 ·rename_i hd;rw[a8 hd] at hs;exact⟨_,ajr (by omega) (by simp only;omega) (by simp only;omega) hs.ok⟩
 ·exact⟨_,ajq (by unfold ka;omega)⟩
theorem YD(x y:Int):k1 {h1 with eL:=(x,y)} (cz.cF 0 0 p)=cz.cF x y p:=by
 unfold cz.cF;split
 ·rw[Yx];simp only[p0]
 ·rw[Yy];simp only[p0]
theorem ajE{l:List cz}(h:∀p∈l,p.e7)(aA:l.length≤6)(hr:y2 x y){v:iA}(hp:0<v.ht)(hw:0<v.w)(m:Int):sX [(true,⟨ew,ft (l.map (cz.cF x y))⟩)] v m=sX (l.map fun p=>((true,gX (cz.cF x y p)):dx)) v m:=by have e:=ajp (l:=l.map (cz.cF x y)) (fun b ay=>by obtain⟨p,hp,rfl⟩:=List.mem_map.1 ay;exact ajD (h p hp) hr) (NC (fun b ay=>by obtain⟨p,hp,rfl⟩:=List.mem_map.1 ay;exact GP (h p hp) hr) (by rw[e6];omega)) hp hw m;rw[e,Jt];rfl
end dH
namespace vM
open j6
open Go.Lib (decDigits nDigits trimRightB dg)
def D3(l:au)(size d:Nat)(t:Bool):Nat:=val l *(if t then 10 ^(size-l.length) else 1) *10 ^(6-d)
variable{l:au}
theorem ND{u i d:Int}{t:Bool}(h:¬(rJ u i d=true∧1≤(strip l).2.length∧((strip l).2.length:Int)≤i+d∧bA (strip l).2=(strip l).2.length)):k3 l u i d t=none:=by unfold k3;rw[aR h]
theorem ajF{u:Int}{fe D:Nat}{t:Bool}(h:rJ u fe D=true∧1≤(strip l).2.length∧((strip l).2.length:Int)≤(fe:Int)+D∧bA (strip l).2=(strip l).2.length):
  k3 l u fe D t=gV (if (strip l).1 then -((D3 (strip l).2 (fe+D) D t:Nat):Int) else ((D3 (strip l).2 (fe+D) D t:Nat):Int)) u:=by
 unfold k3;rw[a8 h];rfl
theorem ajG(h:bA l=l.length):val l<10^l.length:=by
 have:=DM l l.length (by omega)
 rwa [vD] at this
theorem YE(h:∀c∈l,e2 c=true):bA l=l.length:=by have:=Xx l h [];simpa[ah9] using this
theorem YF(v:Nat):∀c∈decDigits v,e2 c=true:=by rw[Rl];exact aiq _ _
theorem YG(v:Nat):val (decDigits v)=v:=by rw[Rl,Xw];exact Nat.mod_eq_of_lt (Rf _)
variable{size:Nat}
theorem RX{v:Nat}(hs:1≤size):nDigits v≤size↔v<10^size:=by
 constructor
 ·intro h;have av:=Rf v;have az:10^nDigits v≤10^size:=vE (by decide) h;omega
 ·intro h;exact Rm size v h hs
theorem YH{v:Nat}{t:Bool}(hs:1≤size)(h:v<10^size):1≤(Rz v size t).length∧(Rz v size t).length≤size:=by
 unfold Rz;split
 ·split
  ·exact⟨bx _,hs⟩
  ·rename_i hne;have av:=ain (pad v size) 48;rw[Rk] at av;refine⟨?_,av⟩;cases hx:trimRightB (pad v size) 48 with
   |nil=>exact absurd hx hne
   |cons _ _=>simp
 ·rw[Lib.decDigits_length];exact⟨Rg v,(RX hs).2 h⟩
end vM
namespace ny
open Go.RowKit
def qx(w:aeo):Prop:=Lib.TabIs Tryz.prog w "internal/strconv.uint64pow10" .u64 Lib.pow10Tab
theorem YI:Tryz.prog.globalNamed "internal/strconv.uint64pow10" =some 5:=by kernel_rfl
variable{w:aeo}
theorem qx.below{w':aeo}(h:qx w)(ay:ao w w w'):qx w':=by
 unfold qx Lib.TabIs at h⊢;have b1:5<w.heap.size:=by unfold World.var? at h;simp only[YI,Option.bind_some] at h;apply xd;intro hn;have:w.heap[5]?=none:=(by rw[Array.getElem?_eq_none_iff];omega);rw[this] at h;simp at h
 exact var?_below ay YI b1 h
theorem qx.of_heap{w':aeo}(h:qx w)(aJ:w'.heap=w.heap):qx w':=by unfold qx Lib.TabIs World.var? at h⊢;rw[aJ];exact h
theorem qx.drewN{w:aeo}(h:qx w)(n:Nat):qx (w.drewN n):=h.of_heap rfl
theorem qx.drew{w:aeo}(h:qx w):qx w.drew:=h.of_heap rfl
theorem qx.alloc{w:aeo}(h:qx w)(o:Obj):qx (w.alloc o):=h.below ((Below.refl _ _).alloc (bx _) _)
theorem below_drewN{B:Nat}{a:aeo}(h:Below B a w)(n:Nat):Below B a (w.drewN n):=⟨h.os,h.tape,h.output,h.size,h.block⟩
theorem lY{a b:Ua}(h:a.data.toList=b.data.toList):a=b:=by cases a;cases b;simp only[ByteArray.mk.injEq];exact Array.toList_inj.1 h
theorem ajH{a b:Ua}(h:a.data.toList=b.data.toList):Ending.returned (aa a)=Ending.returned (aa b):=by rw[lY h]
theorem cG(s:Ua):s.data.toList.length=s.size:=by simp
theorem ajI(a b:Ua):(a++b).data.toList=a.data.toList++b.data.toList:=by simp
theorem mS(s:Ua)(k:Nat):(s.extract k s.size).data.toList=s.data.toList.drop k:=by rw[B'];exact vX (by simp)
theorem kb(l:au):∃S:Ua,S.data.toList=l:=⟨⟨l.toArray⟩,rfl⟩
end ny
