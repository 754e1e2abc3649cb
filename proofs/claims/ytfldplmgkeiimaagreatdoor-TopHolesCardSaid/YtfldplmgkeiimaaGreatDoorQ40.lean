/- Lemmas. -/
import Derived.Test.YtfldplmgkeiimaaGreatDoorQ37
set_option linter.all false
namespace Go.Proofs.YtfldplmgkeiimaaGreatDoor
abbrev XI:=@List.mem_cons_self
namespace cf
def RC(p:bk):Prop:=(∀c∈p,wc c=true)∧p≠[]∧p.length≤10000
structure km where
 ext:Bool
 p:List UInt8
 fg:List (List UInt8)
def Cd(fg:List (List UInt8)):List UInt8:=(fg.map fun q=>q++[42]).flatten
def km.t(x:km):List UInt8:=if x.ext=true then[37] ++((x.p++[42])++(Cd x.fg++[37])) else x.p++[42]
def r3(x:km)(c:C):Prop:=RC x.p∧(∀q∈x.fg,RC q)∧if x.ext=true then ∀a ws,ws.map ew.t=x.fg→zt ⟨a,true,true,x.p⟩ ws=.ok [c] else x.fg=[]∧wy x.p=.ok [c]
theorem go_stars:∀(fg:List (List UInt8)) (i a:Nat) (ws:List ew) (n:Nat),(∀q∈fg,RC q)→0<n→ws.length+fg.length<20000→∃h2 W,jG (Cd fg) i ⟨ws,[],a,true,n⟩=.ok ⟨ws++W,[],h2,true,n+fg.length⟩∧W.map ew.t=fg∧∀w∈W,w.first=false
 |[],i,a,ws,n,_,_,_=>⟨a,[],by simp[Cd,jG],rfl,by simp⟩
 |q::fg,i,a,ws,n,h,hn,aj=>by
  obtain⟨aa,ah,ax⟩:=h q (by simp);simp only[fK] at aj;obtain⟨h2,W,e,aN,aR⟩:=go_stars fg (i+(q++[42]).length) i (ws++[⟨i,true,decide (n=0),q⟩]) (n+1) (fun x hx=>h x (by simp[hx])) (by omega) (by simp;omega);refine⟨h2,⟨i,true,decide (n=0),q⟩::W,?_,by simp[aN],fun w hw=>?_⟩
  ·rw[show Cd (q::fg)=(q++[42])++Cd fg by simp[Cd],go_append,go_word aa ah ax i a ws true n (by omega)];simp only[uR];refine e.trans ?_;rw[fK,show n+1+fg.length=n+(fg.length+1) by omega,List.append_assoc];rfl
  ·rcases List.mem_cons.1 hw with rfl|hw
   ·exact eD (by omega)
   ·exact aR w hw
theorem go_pc{x:km}{c:C}(h:r3 x c)(i a:Nat)(ws:List ew)(aj:ws.length+1+x.fg.length<20000):∃h2 i0 W,jG x.t i (base ws a)=.ok (base (ws++⟨i0,x.ext,true,x.p⟩::W) h2)∧W.map ew.t=x.fg∧∀w∈W,w.first=false:=by
 obtain⟨⟨aa,ah,ax⟩,bg,b7⟩:=h;obtain⟨ext,p,fg⟩:=x;cases ext with
 |false=>
  rw[aK (by simp)] at b7;obtain⟨b7,_⟩:=b7;simp only at b7;subst b7;refine⟨i,i,[],?_,rfl,by simp⟩;unfold km.t base;simp only[oE,x0];rw[go_word aa ah ax i a ws false 0 (by omega)];rfl
 |true=>
  obtain⟨h2,W,e,aN,aR⟩:=go_stars fg (i+1+(p++[42]).length) (i+1) (ws++[⟨i+1,true,true,p⟩]) 1 bg (by decide) (by simp at aj⊢;omega);refine⟨h2,i+1,W,?_,aN,aR⟩;unfold km.t base;simp only[uR];rw[go_append,go_pct rfl (by simp)];simp only[Bool.not_false,I2];rw[go_append,go_word aa ah ax (i+1) a ws true 0 (by omega)];simp only[uR];rw[go_append];refine (gb (fun r:Except (Nat×Nat) iB=>match r with|.error x=>Except.error x|.ok dy=>jG [37] (i+1+(p++[42]).length+(Cd fg).length) dy) e).trans ?_;simp only;rw[go_pct rfl (by simp)];simp
def Lay:List (km×C)→List ew→Prop
 |[],ws=>ws=[]
 |x::xs,ws=>∃i0 W r,ws=⟨i0,x.1.ext,true,x.1.p⟩::(W++r)∧W.map ew.t=x.1.fg∧(∀w∈W,w.first=false)∧Lay xs r
theorem Lay.head{xs:List (km×C)}{ws:List ew}(h:Lay xs ws):YN ws:=by
 intro w hw;cases xs with
 |nil=>rw[h] at hw;cases hw
 |cons x xs=>
  obtain⟨i0,W,r,rfl,_⟩:=h;injection hw with hw;rw[←hw]
def hV(xs:List (km×C)):List UInt8:=(xs.map fun x=>x.1.t).flatten
def tg(xs:List (km×C)):Nat:=(xs.map fun x=>1+x.1.fg.length).sum
theorem go_txt:∀(xs:List (km×C)) (i a:Nat) (ws:List ew),(∀x∈xs,r3 x.1 x.2)→ws.length+tg xs<20000→∃h2 W,jG (hV xs) i (base ws a)=.ok (base (ws++W) h2)∧Lay xs W
 |[],i,a,ws,_,_=>⟨a,[],by simp[hV,jG],rfl⟩
 |x::xs,i,a,ws,h,aj=>by have cJ:tg (x::xs)=1+x.1.fg.length+tg xs:=(by simp[tg]);obtain⟨a',i0,W,e,aN,aR⟩:=go_pc (h x (by simp)) i a ws (by omega);have hw:W.length=x.1.fg.length:=(by rw[←aN,hk]);obtain⟨a2,R,cA,hN⟩:=go_txt xs (i+x.1.t.length) a' (ws++⟨i0,x.1.ext,true,x.1.p⟩::W) (fun y hy=>h y (by simp[hy])) (by simp;omega);refine⟨a2,⟨i0,x.1.ext,true,x.1.p⟩::(W++R),?_,i0,W,R,rfl,aN,aR,hN⟩;rw[show hV (x::xs)=x.1.t++hV xs by simp[hV],go_append,e];simp only;rw[cA];simp
theorem agY:∀{W:List ew},(∀w∈W,w.first=false)→W.takeWhile wA=W∧W.dropWhile wA=[]
 |[],_=>⟨rfl,rfl⟩
 |w::W,h=>by have aa:wA w=true:=(by unfold wA;rw[h w (by simp)];rfl);obtain⟨ah,ax⟩:=agY (W:=W) fun x hx=>h x (by simp[hx]);rw[RY,List.dropWhile_cons,aT aa,aT aa,ah,ax];exact⟨rfl,rfl⟩
theorem agZ:∀(xs:List (km×C)) (f:Nat) (ws:List ew) (acc:List (Nat×C)),(∀x∈xs,r3 x.1 x.2)→Lay xs ws→ws.length≤f→∃l,tw f ws acc=.ok l∧l.map Prod.snd=acc.map Prod.snd++xs.map Prod.snd
 |[],f,ws,acc,_,h,_=>by rw[h,SD];exact⟨acc,rfl,by simp⟩
 |x::xs,f,ws,acc,hx,h,hf=>by
  obtain⟨i0,W,r,rfl,aN,aR,cA⟩:=h;cases f with
  |zero=>simp at hf
  |succ f=>
   obtain⟨t1,t2⟩:=aiN W cA.head;obtain⟨t3,t4⟩:=agY aR;obtain⟨_,_,hc⟩:=hx x (by simp)
   have zY:wz ⟨i0,x.1.ext,true,x.1.p⟩ W=.ok [x.2]:=by
    unfold wz;split
    ·rename_i he;simp only at he;rw[aT he] at hc;rw[he];exact hc i0 W aN
    ·rename_i he;simp only at he;rw[aK he] at hc;rw[hc.2]
   rw[aiO,t1,t2,t3,t4,zY,J8];obtain⟨l,aa,ah⟩:=agZ xs f r (acc++[(i0,x.2)]) (fun y hy=>hx y (by simp[hy])) cA (by simp at hf;omega);exact⟨l,aa,by rw[ah];simp⟩
theorem XJ(xs:List (km×C))(h:∀x∈xs,r3 x.1 x.2)(hc:tg xs<20000)(aj:(hV xs).length≤1000000):∃l,ks (hV xs)=(l,0,0)∧l.map Prod.snd=xs.map Prod.snd:=by
 obtain⟨a,W,e,lU⟩:=go_txt xs 0 0 [] h (by simpa using hc);have hw:uI (hV xs)=(W,0,0):=by unfold uI;rw[aK (by omega),aiL,e];simp[base]
 obtain⟨l,aa,ah⟩:=agZ xs W.length W [] h lU (bD _);refine⟨l,?_,by simpa using ah⟩;rw[aiP hw,aa]
end cf
namespace el
def Sub(q b:bR):Prop:=b.ao≤q.ao∧q.ao≤q.ar∧q.ar≤b.ar∧b.ak≤q.ak∧q.ak≤q.aq∧q.aq≤b.aq
variable{b q:bR}
theorem Sub.trans{a c:bR}(h:Sub a b)(g:Sub b c):Sub a c:=by unfold Sub at *;omega
theorem Sub.self(h:Sub q b):Sub q q:=by unfold Sub at *;omega
theorem auy(h:Sub b b)(aC:q∈splitB b):Sub q b:=by
 unfold splitB at aC;simp only[vf,vg,vh] at aC;unfold Sub at *
 rcases aC with rfl|rfl|rfl|rfl<;>simp only<;>omega
theorem RD(a b:bR)(af:Sub b b):uv a b=true↔a.ar<a.ao∨a.aq<a.ak∨a.ar<b.ao∨b.ar<a.ao∨a.aq<b.ak∨b.aq<a.ak:=by unfold Sub at af;unfold uv r';simp only[zu,gH];omega
theorem auz{a:bR}(af:Sub b b)(aC:Sub q b)(h:uv a b=true):uv a q=true:=by
 rw[RD a b af] at h;rw[RD a q aC.self];unfold Sub at *
 omega
def xt(e:eJ):Prop:=e.any=false→∀q,Sub q q→uv e.b q=true→p2 q e.o.2=0
def y7(o:ec):Prop:=match v8 o.2 with
 |none=>∀q,Sub q q→p2 q o.2=0
 |some b=>AV o.2=false→∀q,Sub q q→uv b q=true→p2 q o.2=0
abbrev JA(r:bR):Int→ec→Int:=fun k o=>qB k (p2 r o.2) o.1
theorem ag0{k:Int}(h:0≤k∧k≤2)(a:Bool):qB k 0 a=k:=by unfold qB;rw[aK (by omega),aT rfl]
theorem XK(f:eJ→Bool)(r:bR):∀(g:List eJ) (k:Int),0≤k∧k≤2→(∀e∈g,f e=false→p2 r e.o.2=0)→((g.filter f).map eJ.o).foldl (JA r) k=(g.map eJ.o).foldl (JA r) k
 |[],_,_,_=>rfl
 |e::g,k,ab,h=>by
  have ah:=fun x hx=>h x (BT _ hx);rw[List.filter_cons];split
  ·rw[r4,r4,mR,mR];exact XK f r g _ (WI _ _ _ ab) ah
  ·rename_i hf;rw[r4,mR];show _=List.foldl (JA r) (qB k (p2 r e.o.2) e.o.1) _;rw[h e (XI ..) (by simpa using hf),ag0 ab];exact XK f r g k ab ah
def Alike(g g':List eJ)(b:bR):Prop:=∀q,Sub q b→k4 (g.map eJ.o) q=k4 (g'.map eJ.o) q
variable{g:List eJ}
theorem ag1(hs:∀e∈g,xt e)(af:Sub b b)(aC:Sub q b):k4 ((fC g b).map eJ.o) q=k4 (g.map eJ.o) q:=by unfold k4 fC;refine XK _ q g 0 (by decide) fun e he hf=>?_;simp only[Bool.or_eq_false_iff,Bool.not_eq_false'] at hf;exact hs e he hf.1 q aC.self (auz af aC hf.2)
theorem Alike.XL{g':List eJ}(hs:∀e∈g,xt e)(pG:∀e∈g',xt e)(h:Alike g g' b)(aC:Sub q b):Alike (fC g q) (fC g' q) q:=fun r hr=>by rw[ag1 hs aC.self hr,ag1 pG aC.self hr];exact h r (hr.trans aC)
theorem JB(hs:∀e∈g,xt e)(b:bR):∀e∈fC g b,xt e:=fun e he=>hs e (List.mem_filter.1 he).1
theorem ag2:∀(d:Nat) (g g':List eJ) (b:bR) (m:Int),(∀e∈g,xt e)→(∀e∈g',xt e)→Alike g g' b→Sub b b→oe d g b m=oe d g' b m
 |0,g,g',b,m,_,_,h,af=>by rw[DY,DY,h b af]
 |d+1,g,g',b,m,hs,pG,h,af=>by
  have key:∀(l:List bR),(∀q∈l,Sub q b)→∀s,l.foldl (o' d g) s=l.foldl (o' d g') s:=by
   intro l
   induction l with
   |nil=>intro _ s;rfl
   |cons q l dc=>
    intro aj s;have aC:=aj q (XI ..)
    have e:o' d g s q=o' d g' s q:=by
     obtain⟨o,m⟩:=s;cases o with
     |none=>rfl
     |some c=>simp only[o',ag2 d (fC g q) (fC g' q) q m (JB hs q) (JB pG q) (h.XL hs pG aC) aC.self]
    rw[mR,mR,e];exact dc (fun r hr=>aj r (BT _ hr)) _
  rw[DX,DX,h b af,key _ (fun q aC=>auy af aC)]
variable{v:iZ}
theorem ag3(hp:0<v.h3)(x y:Nat)(hx:(x:Int)<v.w):Sub (mW v x y) (tA v y):=by
 have aQ:(0:Int)≤(x:Int) *v.h3:=hL (by omega) (by omega);have e:((v.w.toNat-1:Nat):Int)=v.w-1:=by omega
 have aa:(x:Int) *v.h3≤(v.w-1) *v.h3:=Rj (by omega) (by omega);unfold Sub tA mW;simp only;rw[e];simp only[Int.ofNat_zero,Int.zero_mul];omega
theorem ag4{v:iZ}(hp:0<v.h3){g g':List eJ}(hs:∀e∈g,xt e)(pG:∀e∈g',xt e){y:Nat}(h:Alike g g' (tA v y)):∀(k x:Nat) (acc:List eV) (m:Int),((x+k:Nat):Int)≤v.w→oM v g y k x acc m=oM v g' y k x acc m
 |0,_,_,_,_=>rfl
 |k+1,x,acc,m,hx=>by
  have aC:=ag3 hp x y (by omega:(x:Int)<v.w);unfold oM;rw[ag2 _ _ _ _ m (JB hs _) (JB pG _) (h.XL hs pG aC) aC.self];split
  ·rfl
  ·exact ag4 hp hs pG h k (x+1) _ _ (by omega)
theorem ag5{v:iZ}(hp:0<v.h3)(hw:0<v.w){g g':List eJ}(hs:∀e∈g,xt e)(pG:∀e∈g',xt e)(h:∀q,Sub q q→k4 (g.map eJ.o) q=k4 (g'.map eJ.o) q):∀(k y:Nat) (acc:List eV) (m:Int),ru v g k y acc m=ru v g' k y acc m
 |0,_,_,_=>rfl
 |k+1,y,acc,m=>by
  have af:Sub (tA v y) (tA v y):=by
   have:=ag3 hp 0 y (by omega:((0:Nat):Int)<v.w);unfold Sub at *
   omega
  have hA:Alike (fC g (tA v y)) (fC g' (tA v y)) (tA v y):=Alike.XL hs pG (fun q aC=>h q aC.self) af;unfold ru;rw[ag4 hp (JB hs _) (JB pG _) hA _ 0 acc m (by omega)];split
  ·rfl
  ·exact ag5 hp hw hs pG h k (y+1) _ _
theorem ag6{l:List ec}(h:∀o∈l,y7 o):∀e∈j6 l,xt e:=by
 intro e he;unfold j6 at he;obtain⟨o,bl,hm⟩:=List.mem_filterMap.1 he;have hs:=h o bl;unfold y7 at hs;cases af:v8 o.2 with
 |none=>rw[af] at hm;cases hm
 |some b=>
  rw[af] at hm hs;injection hm with hm;subst hm;exact hs
theorem ag7{l:List ec}(h:∀o∈l,y7 o)(r:bR)(hr:Sub r r):k4 ((j6 l).map eJ.o) r=k4 l r:=by
 unfold k4
 have key:∀(l:List ec),(∀o∈l,y7 o)→∀k:Int,0≤k∧k≤2→((j6 l).map eJ.o).foldl (JA r) k=l.foldl (JA r) k:=by
  intro l
  induction l with
  |nil=>intro _ k _;rfl
  |cons o l dc=>
   intro h k ab;have hs:=h o (XI ..);have ah:=fun x hx=>h x (BT o hx);unfold y7 at hs;rw[mR];cases af:v8 o.2 with
   |none=>
    rw[af] at hs;have e:j6 (o::l)=j6 l:=(by unfold j6;rw[List.filterMap_cons,af];rfl);rw[e];show _=List.foldl (JA r) (qB k (p2 r o.2) o.1) _;rw[hs r hr,ag0 ab];exact dc ah k ab
   |some b=>
    have e:j6 (o::l)=⟨o,b,AV o.2⟩::j6 l:=(by unfold j6;rw[List.filterMap_cons,af];rfl);rw[e,r4,mR];exact dc ah _ (WI _ _ _ ab)
 exact key l h 0 (by decide)
theorem auA{l u':List ec}(hp:0<v.h3)(hw:0<v.w)(hs:∀o∈l,y7 o)(pG:∀o∈u',y7 o)(h:∀q,Sub q q→k4 l q=k4 u' q)(m:Int):uM l v m=uM u' v m:=
 ag5 hp hw (ag6 hs) (ag6 pG) (fun q aC=>by rw[ag7 hs q aC,ag7 pG q aC];exact h q aC) _ _ _ _
def cost:Nat→Int
 |0=>1
 |d+1=>4 *cost d+1
theorem Nx:∀d,1≤cost d
 |0=>by decide
 |d+1=>by unfold cost;have:=Nx d;omega
theorem ag8:∀(d:Nat) (g:List eJ) (b:bR) (m:Int),cost d≤m→∃c cQ,oe d g b m=(some c,cQ)∧m-cost d≤cQ
 |0,g,b,m,h=>by unfold cost at h;rw[DY,aK (by omega)];exact⟨_,_,rfl,by unfold cost;omega⟩
 |d+1,g,b,m,h=>by
  have hp:=Nx d;have ah:4 *cost d+1≤m:=h;have e:cost (d+1)=4 *cost d+1:=rfl;rw[DX,aK (by omega),e];split
  ·exact⟨_,_,rfl,by omega⟩
  ·split
   ·exact⟨_,_,rfl,by omega⟩
   ·have key:∀(l:List bR) (c:eV) (m:Int),(l.length:Int) *cost d≤m→∃c' cQ,l.foldl (o' d g) (some c,m)=(some c',cQ)∧m -(l.length:Int) *cost d≤cQ:=by
     intro l
     induction l with
     |nil=>intro c m _;exact⟨c,m,rfl,by simp⟩
     |cons q l dc=>
      intro c m hm;have aR:((q::l).length:Int) *cost d=(l.length:Int) *cost d+cost d:=(by rw[fK];push_cast;grind);rw[aR] at hm⊢;have aQ:0≤(l.length:Int) *cost d:=hL (by omega) (by omega);obtain⟨x,m1,aa,ax⟩:=ag8 d (fC g q) q m (by omega);rw[mR,WH aa];obtain⟨c',cQ,bg,b7⟩:=dc (c.1+x.1,c.2+x.2) m1 (by omega);exact⟨c',cQ,bg,by omega⟩
    obtain⟨c',cQ,bg,b7⟩:=key (splitB b) (0,0) (m-1) (by show (4:Int) *cost d≤_;omega);exact⟨c',cQ,bg,by have:((splitB b).length:Int) *cost d=4 *cost d:=rfl;omega⟩
theorem ag9(v:iZ)(g:List eJ)(y:Nat):∀(k x:Nat) (acc:List eV) (m:Int),(k:Int) *cost v.depth.toNat≤m→∃r cQ,oM v g y k x acc m=(some r,cQ)∧m -(k:Int) *cost v.depth.toNat≤cQ
 |0,x,acc,m,h=>⟨acc,m,rfl,by simp⟩
 |k+1,x,acc,m,h=>by have e:((k+1:Nat):Int) *cost v.depth.toNat=(k:Int) *cost v.depth.toNat+cost v.depth.toNat:=(by push_cast;grind);rw[e] at h⊢;have aQ:0≤(k:Int) *cost v.depth.toNat:=hL (by omega) (by have:=Nx v.depth.toNat;omega);obtain⟨c,m1,aa,ah⟩:=ag8 v.depth.toNat (fC g (mW v x y)) (mW v x y) m (by omega);unfold oM;rw[aa];obtain⟨r,cQ,ax,bg⟩:=ag9 v g y k (x+1) (acc++[c]) m1 (by omega);exact⟨r,cQ,ax,by omega⟩
theorem aha(v:iZ)(g:List eJ):∀(k y:Nat) (acc:List eV) (m:Int),(k:Int) *((v.w.toNat:Int) *cost v.depth.toNat)≤m→∃r cQ,ru v g k y acc m=(some r,cQ)∧m -(k:Int) *((v.w.toNat:Int) *cost v.depth.toNat)≤cQ
 |0,y,acc,m,h=>⟨acc,m,rfl,by simp⟩
 |k+1,y,acc,m,h=>by obtain⟨K,hK⟩:=az ((v.w.toNat:Int) *cost v.depth.toNat);have UT:0≤K:=(by rw[←hK];exact hL (by omega) (by have:=Nx v.depth.toNat;omega));rw[hK] at h⊢;have e:((k+1:Nat):Int) *K=(k:Int) *K+K:=(by push_cast;grind);rw[e] at h⊢;have aQ:0≤(k:Int) *K:=hL (by omega) UT;obtain⟨ie,m1,aa,ah⟩:=ag9 v (fC g (tA v y)) y v.w.toNat 0 acc m (by rw[hK];omega);rw[hK] at ah;unfold ru;rw[aa];obtain⟨r,cQ,ax,bg⟩:=aha v g k (y+1) ie m1 (by rw[hK];omega);rw[hK] at bg;exact⟨r,cQ,ax,by omega⟩
theorem auB(l:List ec)(v:iZ)(m:Int)(h:(v.h.toNat:Int) *((v.w.toNat:Int) *cost v.depth.toNat)≤m):∃r cQ,uM l v m=(some r,cQ):=by obtain⟨r,cQ,aa,_⟩:=aha v (j6 l) v.h.toNat 0 [] m h;exact⟨r,cQ,aa⟩
def h'(ao ak ar aq:Int):List bp:=[(ao,ak),(ar,ak),(ar,aq),(ao,aq)]
variable{d ao ak ar aq u0 v0 u1 v1:Int}
theorem JC{x:Int}(hd:0≤d)(hx:x≤0):d *x≤0:=Int.mul_nonpos_of_nonneg_of_nonpos hd hx
theorem RE{x:Int}(hd:0≤d)(hx:0≤x):0≤d *x:=hL hd hx
variable{a p e:bp}
theorem ahb(af:Sub b b){q:bp}(h:p.2=q.2):p1 b p q=true↔min p.1 q.1≤b.ar∧b.ao≤max p.1 q.1∧b.ak≤p.2∧p.2≤b.aq:=by
 obtain⟨bW,bU⟩:=p;obtain⟨cY,cZ⟩:=q;obtain rfl:bU=cZ:=h;unfold p1 Sub at *
 simp only;split
 ·simp only[oE,false_iff];omega
 ·rename_i h;have aN:∀c:bp,dN (bW,bU) (cY,bU) c=(cY-bW) *(c.2-bU):=(by intro c;unfold dN;simp only;grind);simp only[kX,AG,Hn,aN,Cz,gy,SJ,Oe,CA]
  have k:((cY-bW) *(b.ak-bU)≤0∨(cY-bW) *(b.aq-bU)≤0)∧(0≤(cY-bW) *(b.ak-bU)∨0≤(cY-bW) *(b.aq-bU)):=by
   by_cases hd:0≤cY-bW
   ·exact⟨.inl (JC hd (by omega)),.inr (RE hd (by omega))⟩
   ·have aa:=JC (d:=bW-cY) (x:=b.ak-bU) (by omega) (by omega);have ah:=RE (d:=bW-cY) (x:=b.aq-bU) (by omega) (by omega);have cA:∀x,(bW-cY) *x= -((cY-bW) *x):=(by intro x;grind);rw[cA] at aa ah;omega
  omega
theorem ahc(af:Sub b b){q:bp}(h:p.1=q.1):p1 b p q=true↔min p.2 q.2≤b.aq∧b.ak≤max p.2 q.2∧b.ao≤p.1∧p.1≤b.ar:=by
 obtain⟨bW,bU⟩:=p;obtain⟨cY,cZ⟩:=q;obtain rfl:bW=cY:=h;unfold p1 Sub at *
 simp only;split
 ·simp only[oE,false_iff];omega
 ·rename_i h;have aN:∀c:bp,dN (bW,bU) (bW,cZ) c= -((cZ-bU) *(c.1-bW)):=(by intro c;unfold dN;simp only;grind);simp only[kX,AG,Hn,aN,Cz,gy,SJ,Oe,CA]
  have k:((cZ-bU) *(b.ao-bW)≤0∨(cZ-bU) *(b.ar-bW)≤0)∧(0≤(cZ-bU) *(b.ao-bW)∨0≤(cZ-bU) *(b.ar-bW)):=by
   by_cases hd:0≤cZ-bU
   ·exact⟨.inl (JC hd (by omega)),.inr (RE hd (by omega))⟩
   ·have aa:=JC (d:=bU-cZ) (x:=b.ao-bW) (by omega) (by omega);have ah:=RE (d:=bU-cZ) (x:=b.ar-bW) (by omega) (by omega);have cA:∀x,(bU-cZ) *x= -((cZ-bU) *x):=(by intro x;grind);rw[cA] at aa ah;omega
  omega
def q4(b:bR)(ao ak ar aq:Int):Prop:=ao≤b.ar∧b.ao≤ar∧ak≤b.aq∧b.ak≤aq∧(b.ak≤ak∨aq≤b.aq∨b.ao≤ao∨ar≤b.ar)
theorem RF(af:Sub b b)(hx:ao<ar)(hy:ak<aq)(l:List (List bp)):zg b (h' ao ak ar aq::l)=true↔q4 b ao ak ar aq∨zg b l=true:=by
 have e:zg b (h' ao ak ar aq::l)=((p1 b (ao,ak) (ar,ak)||(p1 b (ar,ak) (ar,aq)||(p1 b (ar,aq) (ao,aq)||(p1 b (ao,aq) (ao,ak)|| false))))|| zg b l):=rfl;rw[e];simp only[zu,Ot];rw[ahb af (p:=(ao,ak)) (q:=(ar,ak)) rfl,ahc af (p:=(ar,ak)) (q:=(ar,aq)) rfl,ahb af (p:=(ar,aq)) (q:=(ao,aq)) rfl,ahc af (p:=(ao,aq)) (q:=(ao,ak)) rfl];unfold q4 Sub at *
 simp only;constructor
 ·rintro (h|h)
  ·left;omega
  ·exact .inr h
 ·rintro (h|h)
  ·left;omega
  ·exact .inr h
theorem ahd(h:a.2=e.2):vZ p a e=false:=by unfold vZ;rw[h,aT rfl]
theorem auC(h:a.1=e.1)(hy:a.2<e.2):vZ p a e=decide (a.2≤p.2∧p.2<e.2∧p.1<a.1):=by
 obtain⟨aA,aB⟩:=a;obtain⟨ex,bw⟩:=e;obtain⟨bW,bU⟩:=p;obtain rfl:aA=ex:=h;simp only at hy⊢;have aN:dN (aA,aB) (aA,bw) (bW,bU)=(bw-aB) *(aA-bW):=by unfold dN;simp only;grind
 have k:0<(bw-aB) *(aA-bW)↔bW<aA:=by
  constructor
  ·intro h;rcases Int.lt_or_le bW aA with g|g
   ·exact g
   ·have:=JC (d:=bw-aB) (x:=aA-bW) (by omega) (by omega);omega
  ·intro h;exact Int.mul_pos (by omega) (by omega)
 unfold vZ;simp only[aN];split
 ·rename_i h;rw[Dg] at h;rw[eq_comm,CA];omega
 ·rename_i h;rw[Dg] at h;rw[Dg,k];omega
theorem auD(h:a.1=e.1)(hy:e.2<a.2):vZ p a e=decide (e.2≤p.2∧p.2<a.2∧p.1<a.1):=by
 obtain⟨aA,aB⟩:=a;obtain⟨ex,bw⟩:=e;obtain⟨bW,bU⟩:=p;obtain rfl:aA=ex:=h;simp only at hy⊢;have aN:dN (aA,aB) (aA,bw) (bW,bU)= -((aB-bw) *(aA-bW)):=by unfold dN;simp only;grind
 have k:-((aB-bw) *(aA-bW))<0↔bW<aA:=by
  constructor
  ·intro h;rcases Int.lt_or_le bW aA with g|g
   ·exact g
   ·have:=JC (d:=aB-bw) (x:=aA-bW) (by omega) (by omega);omega
  ·intro h;have:=Int.mul_pos (a:=aB-bw) (b:=aA-bW) (by omega) (by omega);omega
 unfold vZ;simp only[aN];split
 ·rename_i h;rw[Dg] at h;rw[eq_comm,CA];omega
 ·rename_i h;rw[Dg] at h;rw[aK (by omega),Dg,k];omega
def q5(p:bp)(ao ak ar aq:Int):Prop:=ao≤p.1∧p.1<ar∧ak≤p.2∧p.2<aq
instance(p:bp)(ao ak ar aq:Int):Decidable (q5 p ao ak ar aq):=inferInstanceAs (Decidable (_∧_))
theorem XM(p:bp)(hx:ao<ar)(hy:ak<aq)(i:Bool):(jQ (h' ao ak ar aq)).foldl (fun i e=>if vZ p e.1 e.2=true then !i else i) i=xor i (decide (q5 p ao ak ar aq)):=by
 have e:jQ (h' ao ak ar aq)=[((ao,ak),(ar,ak)),((ar,ak),(ar,aq)),((ar,aq),(ao,aq)),((ao,aq),(ao,ak))]:=rfl;rw[e];simp only[mR,DW];rw[ahd (p:=p) (a:=(ao,ak)) (e:=(ar,ak)) rfl,auC (p:=p) (a:=(ar,ak)) (e:=(ar,aq)) rfl hy,ahd (p:=p) (a:=(ar,aq)) (e:=(ao,aq)) rfl,auD (p:=p) (a:=(ao,aq)) (e:=(ao,ak)) rfl hy];simp only[gH,oE,x0];by_cases aa:ak≤p.2∧p.2<aq∧p.1<ar
 ·rw[aT aa];by_cases ah:ak≤p.2∧p.2<aq∧p.1<ao
  ·rw[aT ah,eD (by unfold q5;omega)];cases i<;>rfl
  ·rw[aK ah,eH (by unfold q5;omega)];cases i<;>rfl
 ·rw[aK aa,aK (by omega),eD (by unfold q5;omega)];cases i<;>rfl
theorem auE(p:bp)(hx:ao<ar)(hy:ak<aq):En p [h' ao ak ar aq]=decide (q5 p ao ak ar aq):=by unfold En;rw[mR,DW,XM p hx hy];simp
theorem auF(p:bp)(hx:ao<ar)(hy:ak<aq)(hu:u0<u1)(aS:v0<v1):En p [h' ao ak ar aq,h' u0 v0 u1 v1]=xor (decide (q5 p ao ak ar aq)) (decide (q5 p u0 v0 u1 v1)):=by unfold En;rw[mR,mR,DW,XM p hx hy,XM p hu aS];simp
theorem ahe(b:bR):¬zg b []=true:=by simp[zg]
theorem XN(af:Sub b b)(hx:ao<ar)(hy:ak<aq):(q4 b ao ak ar aq∧v7 b [h' ao ak ar aq]=1)∨(¬q4 b ao ak ar aq∧q5 (b.ao,b.ak) ao ak ar aq∧v7 b [h' ao ak ar aq]=2)∨(¬q4 b ao ak ar aq∧¬q5 (b.ao,b.ak) ao ak ar aq∧v7 b [h' ao ak ar aq]=0):=by
 unfold v7;rw[auE _ hx hy];by_cases h:q4 b ao ak ar aq
 ·left;exact⟨h,aT ((RF af hx hy []).2 (.inl h))⟩
 ·rw[aK (fun g=>by rcases (RF af hx hy []).1 g with g|g;exact h g;exact ahe _ g)];by_cases ah:q5 (b.ao,b.ak) ao ak ar aq
  ·exact .inr (.inl ⟨h,ah,aT (eH ah)⟩)
  ·exact .inr (.inr ⟨h,ah,aK (by simp[ah])⟩)
theorem XO{l:List (List bp)}(h:p0 l=true):okV (gT (jo l))=true:=by unfold okV bh.one gT jo;simp[jm,pZ,hb,z2,bh.len,ia,h]
theorem Ny{l:List (List bp)}(h:p0 l=true)(q:bR):p2 q (gT (jo l))=v7 q l:=by unfold p2;rw[aT (XO h)];rfl
theorem ahf{l:List (List bp)}(h:p0 l=true):v8 (gT (jo l))=l.foldl (fun o c=>c.foldl (fun o p=>p3 o (kH p p 0)) o) none:=by unfold v8;rw[aT (XO h)];rfl
theorem GP{a b c:Int}(hp:-536870912≤p.1∧p.1≤536870912∧-536870912≤p.2∧p.2≤536870912):p3 (some ⟨a,b,c,d⟩) (kH p p 0)=some ⟨min a p.1,min b p.2,max c p.1,max d p.2⟩:=by unfold p3 kH;simp only[mv,bR.mk.injEq];omega
theorem auG(hp:-536870912≤p.1∧p.1≤536870912∧-536870912≤p.2∧p.2≤536870912):p3 none (kH p p 0)=some ⟨p.1,p.2,p.1,p.2⟩:=by unfold p3 kH;simp only[mv,bR.mk.injEq];omega
def hz(ao ak ar aq:Int):Prop:=-536870912≤ao∧ao<ar∧ar≤536870912∧-536870912≤ak∧ak<aq∧aq≤536870912
theorem ahg(p:bp):gI p=true↔-536870912≤p.1∧p.1≤536870912∧-536870912≤p.2∧p.2≤536870912:=by unfold gI;simp only[gy,gH]
theorem Nz(h:hz ao ak ar aq):p0 [h' ao ak ar aq]=true:=by unfold hz at h;unfold p0 h';simp[ahg];omega
theorem RG(h:hz ao ak ar aq)(g:hz u0 v0 u1 v1):p0 [h' ao ak ar aq,h' u0 v0 u1 v1]=true:=by unfold hz at h g;unfold p0 h';simp[ahg];omega
theorem XP(h:hz ao ak ar aq)(o:Option bR)(bl:o=none∨∃a b c d,o=some ⟨a,b,c,d⟩∧a≤ao∧b≤ak∧ar≤c∧aq≤d):(h' ao ak ar aq).foldl (fun o p=>p3 o (kH p p 0)) o=match o with|none=>some ⟨ao,ak,ar,aq⟩|some b=>some b:=by
 unfold hz at h;unfold h';simp only[mR,DW];rcases bl with rfl|⟨a,b,c,d,rfl,aa,ah,ax,bg⟩
 ·rw[auG (by simp only;omega),GP (by simp only;omega),GP (by simp only;omega),GP (by simp only;omega)];simp only[mv,bR.mk.injEq];omega
 ·rw[GP (by simp only;omega),GP (by simp only;omega),GP (by simp only;omega),GP (by simp only;omega)];simp only[mv,bR.mk.injEq];omega
theorem auH(h:hz ao ak ar aq):v8 (gT (jo [h' ao ak ar aq]))=some ⟨ao,ak,ar,aq⟩:=by rw[ahf (Nz h)];simp only[mR,DW];rw[XP h none (.inl rfl)]
theorem auI(h:hz ao ak ar aq)(g:hz u0 v0 u1 v1)(hi:ao≤u0∧ak≤v0∧u1≤ar∧v1≤aq):v8 (gT (jo [h' ao ak ar aq,h' u0 v0 u1 v1]))=some ⟨ao,ak,ar,aq⟩:=by rw[ahf (RG h g)];simp only[mR,DW];rw[XP h none (.inl rfl)];simp only;rw[XP g _ (.inr ⟨_,_,_,_,rfl,hi.1,hi.2.1,hi.2.2.1,hi.2.2.2⟩)]
theorem hz.off(h:hz ao ak ar aq)(aC:Sub q q)(ha:uv ⟨ao,ak,ar,aq⟩ q=true):¬q4 q ao ak ar aq∧¬q5 (q.ao,q.ak) ao ak ar aq:=by
 rw[RD _ _ aC] at ha;unfold hz q4 q5 Sub at *
 simp only at ha⊢;omega
theorem ahh(d:Bool)(h:hz ao ak ar aq):y7 (d,gT (jo [h' ao ak ar aq])):=by
 unfold y7;simp only;rw[auH h];intro _ q aC ha;rw[Ny (Nz h)];obtain⟨aa,ah⟩:=h.off aC ha;rcases XN aC h.2.1 h.2.2.2.2.1 with g|g|g
 ·exact absurd g.1 aa
 ·exact absurd g.2.1 ah
 ·exact g.2.2
instance(b:bR)(ao ak ar aq:Int):Decidable (q4 b ao ak ar aq):=inferInstanceAs (Decidable (_∧_))
theorem ahi(af:Sub b b)(h:hz ao ak ar aq)(g:hz u0 v0 u1 v1):v7 b [h' ao ak ar aq,h' u0 v0 u1 v1]=if q4 b ao ak ar aq∨q4 b u0 v0 u1 v1 then 1 else if xor (decide (q5 (b.ao,b.ak) ao ak ar aq)) (decide (q5 (b.ao,b.ak) u0 v0 u1 v1))=true then 2 else 0:=by
 unfold v7;rw[auF _ h.2.1 h.2.2.2.2.1 g.2.1 g.2.2.2.2.1]
 have e:zg b [h' ao ak ar aq,h' u0 v0 u1 v1]=true↔q4 b ao ak ar aq∨q4 b u0 v0 u1 v1:=by
  rw[RF af h.2.1 h.2.2.2.2.1,RF af g.2.1 g.2.2.2.2.1];constructor
  ·rintro (a|a|a)
   ·exact .inl a
   ·exact .inr a
   ·exact absurd a (ahe _)
  ·rintro (a|a)
   ·exact .inl a
   ·exact .inr (.inl a)
 by_cases hc:q4 b ao ak ar aq∨q4 b u0 v0 u1 v1
 ·rw[aT hc,aT (e.2 hc)]
 ·rw[aK hc,aK (fun a=>hc (e.1 a))]
theorem auJ(h:hz ao ak ar aq)(g:hz u0 v0 u1 v1)(hi:ao<u0∧ak<v0∧u1<ar∧v1<aq)(q:bR)(aC:Sub q q):k4 [(true,gT (jo [h' ao ak ar aq,h' u0 v0 u1 v1]))] q=k4 [(true,gT (jo [h' ao ak ar aq])),(false,gT (jo [h' u0 v0 u1 v1]))] q:=by
 unfold k4;simp only[mR,DW];rw[Ny (RG h g),Ny (Nz h),Ny (Nz g),ahi aC h g];have bP:=XN aC h.2.1 h.2.2.2.2.1;have a8:=XN aC g.2.1 g.2.2.2.2.1;generalize v7 q [h' ao ak ar aq]=a at bP⊢;generalize v7 q [h' u0 v0 u1 v1]=b at a8⊢;rcases bP with ⟨a',rfl⟩|⟨a',a2,rfl⟩|⟨a',a2,rfl⟩<;>rcases a8 with ⟨b3,rfl⟩|⟨b3,bc,rfl⟩|⟨b3,bc,rfl⟩
 all_goals first
  |(rw[aT (.inl (by assumption))];rfl)
  |(rw[aT (.inr (by assumption))];rfl)
  |(rw[aK (by rintro (c|c)<;>contradiction),eH a2,eH bc];rfl)
  |(rw[aK (by rintro (c|c)<;>contradiction),eH a2,eD bc];rfl)
  |(rw[aK (by rintro (c|c)<;>contradiction),eD a2,eD bc];rfl)
  |(exfalso;unfold hz q4 q5 Sub at *;simp only at *;omega)
theorem auK(d:Bool)(h:hz ao ak ar aq)(g:hz u0 v0 u1 v1)(hi:ao<u0∧ak<v0∧u1<ar∧v1<aq):y7 (d,gT (jo [h' ao ak ar aq,h' u0 v0 u1 v1])):=by unfold y7;simp only;rw[auI h g (by omega)];intro _ q aC ha;rw[Ny (RG h g),ahi aC h g];obtain⟨aa,ah⟩:=h.off aC ha;have aX:¬q4 q u0 v0 u1 v1∧¬q5 (q.ao,q.ak) u0 v0 u1 v1:=g.off aC (by rw[RD _ _ aC] at ha⊢;simp only at ha⊢;unfold hz at h g;omega);rw[aK (by rintro (c|c);exact aa c;exact aX.1 c),eD ah,eD aX.2];rfl
theorem auL(h:hz ao ak ar aq)(g:hz u0 v0 u1 v1)(hi:ao<u0∧ak<v0∧u1<ar∧v1<aq)(hp:0<v.h3)(hw:0<v.w)(m:Int):uM [(true,gT (jo [h' ao ak ar aq,h' u0 v0 u1 v1]))] v m=uM [(true,gT (jo [h' ao ak ar aq])),(false,gT (jo [h' u0 v0 u1 v1]))] v m:=by
 refine auA hp hw (fun o bl=>?_) (fun o bl=>?_) (auJ h g hi) m
 ·rw[List.mem_singleton.1 bl];exact auK _ h g hi
 ·simp only[vf,vg,vh] at bl;rcases bl with rfl|rfl
  ·exact ahh _ h
  ·exact ahh _ g
end el
namespace el
open kG
open cf
open wq (lB ig si acF acG acH Vv)
def jz(v:Nat):List UInt8:=GW v 1
theorem XQ(v:Nat):∀c∈jz v,fi c=true:=by unfold jz;rw[R8];exact acG v
variable{v:Nat}
theorem JD(h:v<1000000):1≤(jz v).length∧(jz v).length≤6:=by unfold jz;rw[R8,Lib.decDigits_length];exact⟨R0 _,(Vv (by decide)).2 (by simpa using h)⟩
theorem JE(h:v<1000000):jz v≠[]:=fun e=>by have:=(JD h).1;rw[e] at this;exact absurd this (by decide)
variable{c:UInt8}
theorem XR(h:fi c=true):48≤c.toNat∧c.toNat≤57:=by simpa[fi] using h
theorem auM:∀{l:bk},(∀c∈l,fi c=true)→strip l=(false,l)
 |[],_=>rfl
 |c::r,h=>by have:=XR (h c (by simp));show (if c.toNat=43 then (false,r) else if c.toNat=45 then (true,r) else (false,c::r))=_;rw[aK (by omega),aK (by omega)]
theorem auN(h:v<500000):lB (jz v) 1 2 4 false=some (1000 *v):=by
 obtain⟨aa,ah⟩:=JD (v:=v) (by omega);have aS:val (jz v)=v:=by unfold jz;rw[R8,acH]
 unfold lB;rw[auM (XQ v)];simp only;rw[aT ⟨by decide,aa,by omega,acF (XQ v)⟩,aS];unfold ig
 have e:((v *(if false=true then 10 ^(((2:Int)+4).toNat -(jz v).length) else 1) *10 ^(6 -(4:Int).toNat):Nat):Int)=100 *v:=by
  simp only[oE,x0,P3];rw[show 6 -(4:Int).toNat=2 by rfl]
  push_cast
  omega
 rw[e];simp only[oE,x0];have hp:wq.sh 1=10:=rfl;rw[hp,aT ⟨by simp[tj];omega,by simp,by omega,by omega⟩]
 congr 1
 omega
def vS(x y:bk)(d:UInt8):List UInt8:=(if x=[] then[] else 88::x)++((if y=[] then[] else 89::y)++[68,48,d])
def xu(x:bk):Prop:=(∀c∈x,fi c=true)∧x.length≤12
variable{x r y p:bk}
theorem auO(h:xu x)(hr:fi (r.headD 0)=false∧r.headD 0≠43∧r.headD 0≠45):wx (x++r)=0:=by
 unfold wx;rw[aK];rintro⟨_,ah⟩;cases x with
 |nil=>rcases ah with ah|ah;exact hr.2.1 ah;exact hr.2.2 ah
 |cons c x=>
  have:=XR (h.1 c (by simp));rcases ah with ah|ah<;>(simp at ah;rw[ah] at this;revert this;decide)
theorem auP(hr:fi (r.headD 0)=false):bC r=0:=by
 cases r with
 |nil=>rfl
 |cons c r=>rw[JP];simp only[List.headD_cons] at hr;rw[hr];rfl
theorem ahj(c:UInt8)(h:xu x)(hn:x≠[])(hr:fi (r.headD 0)=false∧r.headD 0≠43∧r.headD 0≠45):k0 (c::(x++r)) c=(x,r):=by
 have aa:1≤x.length:=by cases x with|nil=>exact absurd rfl hn|cons=>simp
 unfold k0;rw[aT ⟨by simp,rfl⟩];simp only[Bv,uW];rw[auO h hr,uW,Yj x h.1,auP hr.1,aK (by have:=h.2;omega)];simp
theorem RH{t:bk}(h:t.headD 0≠c):k0 t c=([],t):=by unfold k0;rw[aK (fun e=>h e.2)]
theorem auQ{d:UInt8}(hx:xu x)(hy:xu y)(hd:d=49∨d=50∨d=51):tu (vS x y d)=some {b2 7 with n:=uJ [68,48,d],x:=x,y:=y}:=by
 have bZ:fi (([68,48,d]:bk).headD 0)=false∧([68,48,d]:bk).headD 0≠43∧([68,48,d]:bk).headD 0≠45:=⟨rfl,by simp,by simp⟩
 have aR:k0 ((if y=[] then[] else 89::y)++[68,48,d]) 89=(y,[68,48,d]):=by
  by_cases h:y=[]
  ·rw[aT h,h];exact RH (by simp)
  ·rw[aK h];exact ahj 89 hy h bZ
 have hR:fi (((if y=[] then[] else 89::y)++[68,48,d]).headD 0)=false∧((if y=[] then[] else 89::y)++[68,48,d]).headD 0≠43∧((if y=[] then[] else 89::y)++[68,48,d]).headD 0≠45∧((if y=[] then[] else 89::y)++[68,48,d]).headD 0≠88:=by split<;>simp<;>decide
 have aN:k0 (vS x y d) 88=(x,(if y=[] then[] else 89::y)++[68,48,d]):=by
  unfold vS;by_cases h:x=[]
  ·rw[aT h,h];exact RH hR.2.2.2
  ·rw[aK h];exact ahj 88 hx h ⟨hR.1,hR.2.1,hR.2.2.1⟩
 have cA:k0 [68,48,d] 73=([],[68,48,d]):=RH (by simp);have hN:k0 [68,48,d] 74=([],[68,48,d]):=RH (by simp);unfold tu;simp only[aN,aR,cA,hN];rw[aK (by rcases hd with rfl|rfl|rfl<;>decide)];rfl
theorem auR{d:UInt8}(hx:xu x)(hy:xu y)(hd:d=49∨d=50∨d=51)(hn:¬(x=[]∧y=[])):wy (vS x y d)=.ok [{b2 7 with n:=uJ [68,48,d],x:=x,y:=y}]:=by
 obtain⟨c,r,hc,he⟩:∃c r,(c=88∨c=89)∧vS x y d=c::r:=by
  unfold vS;by_cases h:x=[]
  ·rw[aT h,aK (fun e=>hn ⟨h,e⟩)];exact⟨89,_,.inr rfl,rfl⟩
  ·rw[aK h];exact⟨88,_,.inl rfl,rfl⟩
 have bl:=auQ hx hy hd;unfold wy rp;rw[bl,he];rcases hc with rfl|rfl<;>simp
theorem ahk(h:fi c=true):wc c=true:=by have:=XR h;unfold wc;simp only[gy,gH,tt,ne_eq];refine⟨by omega,by omega,?_,?_⟩<;>(rintro rfl;revert this;decide)
theorem auS{d:UInt8}(hx:xu x)(hy:xu y)(hd:d=49∨d=50∨d=51):RC (vS x y d):=by
 refine⟨fun c hc=>?_,fun e=>by simp[vS] at e,?_⟩
 ·unfold vS at hc;rcases List.mem_append.1 hc with hc|hc
  ·split at hc
   ·cases hc
   ·rcases List.mem_cons.1 hc with rfl|hc
    ·decide
    ·exact ahk (hx.1 c hc)
  ·rcases List.mem_append.1 hc with hc|hc
   ·split at hc
    ·cases hc
    ·rcases List.mem_cons.1 hc with rfl|hc
     ·decide
     ·exact ahk (hy.1 c hc)
   ·simp only[vf,vg,vh] at hc;rcases hc with rfl|rfl|rfl
    ·decide
    ·decide
    ·rcases hd with rfl|rfl|rfl<;>decide
 ·unfold vS;have:=hx.2;have:=hy.2;rw[gh,gh];split<;>split<;>simp<;>omega
def ln(x y:bk)(d:UInt8):km×C:=(⟨false,vS x y d,[]⟩,{b2 7 with n:=uJ [68,48,d],x:=x,y:=y})
theorem NA {d:UInt8} (hx:xu x) (hy:xu y) (hd:d=49∨d=50∨d=51) (hn:¬(x= []∧y= [])):r3 (ln x y d).1 (ln x y d).2:=⟨auS hx hy hd,by simp[ln],by
 show if false=true then _ else _
 rw[aK (by simp)];exact⟨rfl,auR hx hy hd hn⟩⟩
def AA(p:bk)(c:C):km×C:=(⟨false,p,[]⟩,c)
theorem NB {c:C} (h:wy p= .ok [c]) (hp:p.all wc=true) (hn:p≠ []) (aj:p.length≤10000):r3 (AA p c).1 (AA p c).2:=⟨⟨fun c hc=>List.all_eq_true.1 hp c hc,hn,aj⟩,by simp[AA],by
 show if false=true then _ else _
 rw[aK (by simp)];exact⟨rfl,h⟩⟩
def Ce(p:bk)(c:C):km×C:=(⟨true,p,[]⟩,c)
theorem XS {c:C} (h:xN p= .ok c) (bH:p.take 2≠ [65,77]) (hp:p.all wc=true) (hn:p≠ []) (aj:p.length≤10000):r3 (Ce p c).1 (Ce p c).2:=⟨⟨fun c hc=>List.all_eq_true.1 hp c hc,hn,aj⟩,by simp[Ce],by
 show if true=true then _ else _
 rw[aT rfl];intro a ws hw;have hw:ws=[]:=List.map_eq_nil_iff.1 hw;subst hw;unfold zt;show (if p.take 2≠[65,77] then _ else _)=_;rw[aT bH];simp[Ce,h]⟩
def hW(b:Int)(at_:bp)(fe region:Bool)(cs:List (List bp))(os:List ec)(made:Int):cG:=⟨1,2,4,false,true,fun _=>none,0,[],at_,1,false,fe,tn,region,cs,{Kj with fk:=os},[],made,min (max b 0) 100000,false⟩
theorem GQ{c:C}{l:List C}{i:Nat}{p q:cG}(h:lP p c=.ok q):mA (c::l) i p=mA l (i+1) q:=by show (match lP p c with|.error e=>_|.ok q=>_)=_;rw[h]
def Cf(x:bk)(was v:Int):Prop:=iY (hW 0 (0,0) true true [] [] 0) x was=some v
theorem JF(h:v<500000)(was:Int):Cf (jz v) was (1000 *v):=by unfold Cf iY;rw[aK (JE (by omega))];exact auN h
theorem RI(was:Int):Cf [] was was:=rfl
variable{d:Bool}{b m u:Int}{at_:bp}{cs:List (List bp)}{os:List ec}
theorem ahl{r:Bool}{k:Int}{v:Int}(hx:Cf x at_.1 u)(hy:Cf y at_.2 v):lP (hW b at_ d r cs os m) {b2 7 with n:=k,x:=x,y:=y}=match (if k=1 then wE (hW b at_ d r cs os m) {b2 7 with n:=k,x:=x,y:=y} (u,v) (0,0) else if k=2 then xP (hW b at_ d r cs os m) (u,v) else if k=3 then wD (hW b at_ d r cs os m) (u,v) else .error 4) with
  |.error e=>.error e
  |.ok q=>.ok {q with at_:=(u,v)}:=by
 have HT:iY (hW b at_ d r cs os m) x at_.1=some u:=hx;have ayL:iY (hW b at_ d r cs os m) y at_.2=some v:=hy;have e:lP (hW b at_ d r cs os m) {b2 7 with n:=k,x:=x,y:=y}=rr (hW b at_ d r cs os m) {b2 7 with n:=k,x:=x,y:=y}:=by unfold lP;cases r<;>simp[hW,b2,aJ]
 rw[e];unfold rr;rw[aK (by simp[hW])];show (match iY (hW b at_ d r cs os m) x at_.1 with|none=>_|some x=>_)=_;rw[HT];show (match iY (hW b at_ d r cs os m) y at_.2 with|none=>_|some x=>_)=_;rw[ayL];rfl
theorem auU{v:Int}(hx:Cf x at_.1 u)(hy:Cf y at_.2 v)(hc:oL cs=true):lP (hW b at_ d true cs os m) {b2 7 with n:=2,x:=x,y:=y}=.ok (hW b (u,v) d true (cs++[[(u,v)]]) os m):=by rw[ahl hx hy];rw[aK (by decide),aT rfl];unfold xP;rw[aK (by simp[hW]),aK (by simp[hW,hc])];rfl
theorem RJ{l:List bp}{v:Int}(hx:Cf x at_.1 u)(hy:Cf y at_.2 v):lP (hW b at_ d true (cs++[l]) os m) {b2 7 with n:=1,x:=x,y:=y}=.ok (hW b (u,v) d true (cs++[l++[(u,v)]]) os m):=by rw[ahl hx hy];rw[aT rfl];unfold wE;rw[aK (by simp[hW]),aK (by simp[hW]),aK (by simp[hW,b2,aJ]),aT (by simp[hW]),aK (by simp[hW])];simp[hW,mc]
def pX(x y w h:Nat):List (km×C):=[ln (jz x) (jz y) 50,ln (jz (x+w)) [] 49,ln [] (jz (y+h)) 49,ln (jz x) [] 49,ln [] (jz y) 49]
theorem JG(h:v<500000):xu (jz v):=⟨XQ v,by have:=(JD (v:=v) (by omega)).2;omega⟩
theorem RL:xu []:=⟨by simp,by decide⟩
theorem RM{x y w h:Nat}(hx:x+w<500000)(hy:y+h<500000):∀z∈pX x y w h,r3 z.1 z.2:=by
 have n:∀{v:Nat},v<500000→jz v≠[]:=fun h=>JE (by omega);intro z bx;unfold pX at bx;simp only[vf,vg,vh] at bx;rcases bx with rfl|rfl|rfl|rfl|rfl
 ·exact NA (JG (by omega)) (JG (by omega)) (by decide) (fun e=>n (by omega) e.1)
 ·exact NA (JG (by omega)) RL (by decide) (fun e=>n (by omega) e.1)
 ·exact NA RL (JG (by omega)) (by decide) (fun e=>n (by omega) e.2)
 ·exact NA (JG (by omega)) RL (by decide) (fun e=>n (by omega) e.1)
 ·exact NA RL (JG (by omega)) (by decide) (fun e=>n (by omega) e.2)
def NC(x y w h:Nat):List bp:=[(1000 *x,1000 *y),(1000 *(x+w:Nat),1000 *y),(1000 *(x+w:Nat),1000 *(y+h:Nat)),(1000 *x,1000 *(y+h:Nat)),(1000 *x,1000 *y)]
theorem RN{x y w h:Nat}(hx:x+w<500000)(hy:y+h<500000)(hc:oL cs=true)(l:List C)(i:Nat):mA ((pX x y w h).map Prod.snd++l) i (hW b at_ d true cs os m)=mA l (i+5) (hW b (1000 *x,1000 *y) d true (cs++[NC x y w h]) os m):=by show mA ({b2 7 with n:=2,x:=jz x,y:=jz y}::{b2 7 with n:=1,x:=jz (x+w),y:=[]}::{b2 7 with n:=1,x:=[],y:=jz (y+h)}::{b2 7 with n:=1,x:=jz x,y:=[]}::{b2 7 with n:=1,x:=[],y:=jz y}::l) i _=_;rw[GQ (auU (JF (v:=x) (by omega) _) (JF (v:=y) (by omega) _) hc)];rw[GQ (RJ (JF hx _) (RI _)),GQ (RJ (RI _) (JF hy _)),GQ (RJ (JF (v:=x) (by omega) _) (RI _)),GQ (RJ (RI _) (JF (v:=y) (by omega) _))];rfl
theorem RO(cs:List (List bp))(x y w h:Nat):oL (cs++[NC x y w h])=true:=by unfold oL;simp[NC]
theorem ahm(hc:oL cs=true)(aQ:p0 (cs.map List.dropLast)=true)(hn:cs≠[])(af:m<min (max b 0) 100000):lP (hW b at_ d true cs os m) (b2 3)=.ok (hW b at_ d false [] (os++[(d,gT (jo (cs.map List.dropLast)))]) (m+1)):=by
 have e:lP (hW b at_ d true cs os m) (b2 3)=zv (hW b at_ d false cs os m):=by unfold lP;simp[hW,b2,aJ]
 have hs:((cs.map List.dropLast).map List.length).sum≤1000:=by have h:=aQ;unfold p0 at h;simp only[gy,gH] at h;exact h.1
 rw[e];unfold zv;rw[aK (by simp[hW,hc]),aK (by show ¬1000<_;simp only[hW];omega),aK (by simpa[hW] using hn)];unfold iM;show (if okV (gT (jo (cs.map List.dropLast)))=false then _ else _)=_;rw[XO aQ,aK (by simp)];show (if min (max b 0) 100000≤m then _ else _)=_;rw[aK (by omega)];rfl
end el
