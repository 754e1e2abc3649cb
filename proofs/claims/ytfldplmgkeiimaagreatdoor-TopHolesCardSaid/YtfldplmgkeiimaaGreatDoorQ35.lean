/- Lemmas. -/
import Derived.Test.YtfldplmgkeiimaaGreatDoorQ34
set_option linter.all false
set_option maxRecDepth 100000
set_option maxHeartbeats 25600000
namespace Go.Proofs.YtfldplmgkeiimaaGreatDoor
abbrev DW:=@List.foldl_nil
abbrev WE:=@Int.pow_nonneg
abbrev Gq:=@Proofs.Tryz.func58
abbrev Gr:=@Proofs.Tryz.ntmps58
abbrev MY:=@Int.mul_le_mul
namespace el
def o'(d:Nat)(g:List eJ)(s:Option eV×Int)(q:bR):Option eV×Int:=match s with
 |(none,m)=>(none,m)
 |(some c,m)=>match oe d (fC g q) q m with
  |(none,m)=>(none,m)
  |(some e,m)=>(some (c.1+e.1,c.2+e.2),m)
theorem asm(d:Nat)(g:List eJ)(m:Int)(q:bR):o' d g (none,m) q=(none,m):=rfl
theorem WG(d:Nat)(g:List eJ)(m:Int):∀l:List bR,l.foldl (o' d g) (none,m)=(none,m)
 |[]=>rfl
 |q::l=>by rw[mR,asm];exact WG d g m l
variable{d:Nat}
theorem ae9{g:List eJ}{c:eV}{m cQ:Int}{q:bR}(h:oe d (fC g q) q m=(none,cQ)):o' d g (some c,m) q=(none,cQ):=by simp only[o',h]
theorem WH{g:List eJ}{c e:eV}{m cQ:Int}{q:bR}(h:oe d (fC g q) q m=(some e,cQ)):o' d g (some c,m) q=(some (c.1+e.1,c.2+e.2),cQ):=by simp only[o',h]
theorem DX(d:Nat)(g:List eJ)(b:bR)(m:Int):oe (d+1) g b m=if m≤0 then (none,m-1) else
 if k4 (g.map eJ.o) b=0 then (some (0,0),m-1)
 else if k4 (g.map eJ.o) b=2 then (some (4 ^(d+1),4 ^(d+1)),m-1)
 else (splitB b).foldl (o' d g) (some (0,0),m-1):=rfl
theorem DY(g:List eJ)(b:bR)(m:Int):oe 0 g b m=if m≤0 then (none,m-1) else
 (some (if k4 (g.map eJ.o) b=0 then (0,0) else if k4 (g.map eJ.o) b=2 then (1,1) else (0,1)),m-1):=rfl
theorem WI(was cls:Int)(add:Bool)(h:0≤was∧was≤2):0≤qB was cls add∧qB was cls add≤2:=by
 unfold qB
 repeat' split
 all_goals omega
theorem asn(l:List ec)(x:bR):0≤k4 l x∧k4 l x≤2:=by
 unfold k4
 have key:∀(l:List ec) (k:Int),0≤k∧k≤2→0≤l.foldl (fun k o=>qB k (p2 x o.2) o.1) k∧l.foldl (fun k o=>qB k (p2 x o.2) o.1) k≤2:=by
  intro l
  induction l with
  |nil=>intro k h;exact h
  |cons a l dc=>intro k h;rw[mR];exact dc _ (WI _ _ _ h)
 exact key l 0 (by decide)
def pT(k:Int)(c:eV):Prop:=0≤c.1∧c.1≤c.2∧c.2≤k
theorem afa(d:Nat)(g:List eJ)(P:Int)(h6:0≤P)(dc:∀q m c cQ,oe d (fC g q) q m=(some c,cQ)→pT P c∧0≤cQ∧cQ<m):∀(l:List bR) (K:Int) (c:eV) (m:Int) (r:eV) (cQ:Int),pT K c→0≤m→l.foldl (o' d g) (some c,m)=(some r,cQ)→pT (K+l.length *P) r∧0≤cQ∧cQ≤m
 |[],K,c,m,r,cQ,hc,hm,h=>by simp only[DW,gA,mv] at h;obtain⟨rfl,rfl⟩:=h;simp only[th];exact⟨by unfold pT at hc⊢;omega,hm,rk _⟩
 |q::l,K,c,m,r,cQ,hc,hm,h=>by
  rw[mR] at h;cases he:oe d (fC g q) q m with
  |mk o m1=>
   cases o with
   |none=>
    rw[ae9 he,WG] at h;simp at h
   |some e=>
    rw[WH he] at h;obtain⟨aa,ah,ax⟩:=dc q m e m1 he;have F3:pT (K+P) (c.1+e.1,c.2+e.2):=(by unfold pT at hc aa⊢;simp only;omega);obtain⟨bg,b7,c0⟩:=afa d g P h6 dc l (K+P) _ m1 r cQ F3 ah h;refine⟨?_,b7,by omega⟩;have:K+((q::l).length:Int) *P=K+P+(l.length:Int) *P:=(by simp only[fK];grind);rw[this];exact bg
theorem Q8:∀(d:Nat) (g:List eJ) (b:bR) (m:Int) (c:eV) (cQ:Int),oe d g b m=(some c,cQ)→pT (4^d) c∧0≤cQ∧cQ<m
 |0,g,b,m,c,cQ,h=>by
  rw[DY] at h;split at h
  ·simp at h
  ·simp only[gA,mv] at h;obtain⟨rfl,rfl⟩:=h;refine⟨?_,by omega,by omega⟩;unfold pT
   repeat' split
   all_goals decide
 |d+1,g,b,m,c,cQ,h=>by
  have hp:(0:Int)≤4^d:=WE (by decide);rw[DX] at h;split at h
  ·simp at h
  ·split at h
   ·simp only[gA,mv] at h;obtain⟨rfl,rfl⟩:=h;refine⟨?_,by omega,by omega⟩;have:(0:Int)≤4 ^(d+1):=WE (by decide);exact⟨rk _,rk _,this⟩
   ·split at h
    ·simp only[gA,mv] at h;obtain⟨rfl,rfl⟩:=h;refine⟨?_,by omega,by omega⟩;have:(0:Int)≤4 ^(d+1):=WE (by decide);exact⟨this,rk _,rk _⟩
    ·obtain⟨aa,ah,ax⟩:=afa d g (4^d) hp (fun q m c cQ h=>Q8 d _ q m c cQ h) (splitB b) 0 (0,0) (m-1) c cQ (by unfold pT;decide) (by omega) h;refine⟨?_,ah,by omega⟩;have e:(0:Int)+((splitB b).length:Int) *4^d=4 ^(d+1):=(by simp only[splitB,fK,th];rw[Int.pow_succ];omega);rw[e] at aa;exact aa
theorem afb{lo hi:Int}(h:(hi-lo)%2 ^(d+1)=0∧0<hi-lo):((hi-lo)%2=0)∧0<(hi-lo)/ 2∧((hi-lo)/ 2)%2^d=0∧hi -(lo+(hi-lo)/ 2)=(hi-lo)/ 2:=by
 obtain⟨aa,ah⟩:=h;obtain⟨k,ab⟩:=Int.dvd_of_emod_eq_zero aa;rw[Int.pow_succ] at ab;have e:hi-lo=2 *(2^d *k):=by rw[ab];grind
 have aR:(hi-lo)/ 2=2^d *k:=by rw[e];exact Int.mul_ediv_cancel_left _ (by decide)
 refine⟨by omega,by omega,?_,by omega⟩;rw[aR];exact Int.mul_emod_right _ _
end el
namespace dE
open Go.RowKit el
abbrev DZ(t:Int×Int):Obj:=.cells #[I t.1,I t.2] 107
abbrev D0(t:Int×Int):Value:=.agg #[I t.1,I t.2]
theorem aso(c:Int)(w:bTo):Calls Tryz.prog 41 #[I c] w fun e w'=>e=bb (D0 (nJ c))∧av w w w':=by have hw:bT (65536 *max 0 (min c 255))=65536 *max 0 (min c 255):=b4 _ (by omega);go_enter Tryz.func41,Tryz.ntmps41;go_wp2_with fail;exact dH (rq rfl _ _ w.heap.size _ _ _ _ rfl (cw _ _) Tryz.underlying107 rfl (by kernel_rfl)) rfl ⟨rfl,jq _ _⟩
theorem afc(t:Int×Int)(f:Bool)(hf:J (rv t=f))(w:bTo):Calls Tryz.prog 66 #[D0 t] w fun e w'=>e=bb (ai f)∧av w w w':=by
 obtain⟨a,b⟩:=t;go_enter Tryz.func66,Tryz.ntmps66;go_wp2_with fail
 all_goals
  go_ret;refine⟨ej (CE ⟨fun h=>?_,fun h=>?_⟩ hf.out),jq _ _⟩<;>simp only[rv,gy,gH,oE] at h⊢<;>omega
theorem asp(v:Int×Int)(cells:Int)(f:Bool)(hf:J (Ho v cells=f))(w:bTo):Calls Tryz.prog 65 #[D0 v,I cells] w fun e w'=>e=bb (ai f)∧av w w w':=by
 obtain⟨a,b⟩:=v;go_enter Tryz.func65,Tryz.ntmps65;go_wp2_with fail
 all_goals
  go_ret;refine⟨ej (CE ⟨fun h=>?_,fun h=>?_⟩ hf.out),jq _ _⟩<;>simp only[Ho,gy,gH,oE] at h⊢<;>omega
variable{w x w0:bTo}{a d cu:Int}
theorem pa{k:Nat}{b:Int}{t:aui}(h:bo w k (#[I a,I b]) t):aw w k 0 (I a)∧aw w k 1 (I b):=by constructor<;>simp[World.cell?,h]
theorem afd{b:Int}(h:a=b):Ending.returned (.int .u8 a)=bb (.int .u8 b):=by rw[h]
theorem asq(t:Int×Int)(w:bTo):Calls Tryz.prog 44 #[D0 t] w fun e w'=>e=bb (.int .u8 (sk t))∧av w w w':=by
 obtain⟨a,b⟩:=t;obtain⟨f,hf⟩:=az (rv (a,b));have aE:=U hf;clear hf;go_enter Tryz.func44,Tryz.ntmps44;go_wp2_with fail;have aH:J (av w w (w.alloc (DZ (a,b)))):=jq _ _;have b8:J ((w.alloc (DZ (a,b))).heap[w.heap.size]?=some (DZ (a,b))):=cw _ _;generalize w.alloc (DZ (a,b))=W at aH b8⊢;go_fit (afc (a,b) _ aE _);rintro e V ⟨rfl,af⟩;have cd:J (av w w V):=aH.out.trans (af.mono aH.out.size);obtain⟨aJ,aI⟩:=pa (aO b8.out af);clear af;simp only at aJ aI;cases f with
 |false=>
  go_wp2_with fail;go_ret;refine⟨afd ?_,cd.out⟩;unfold sk;rw[aE.out];rfl
 |true=>
  have aa:=aE.out;simp only[rv,gy,gH] at aa;have bE:bT (a+b)=a+b:=b4 _ (by omega);have cr:bT (a+b+65536)=a+b+65536:=b4 _ (by omega);have dJ:(a+b+65536).tdiv 131072=(a+b+65536)/ 131072:=CW (by omega);have cb:bT ((a+b+65536)/ 131072)=(a+b+65536)/ 131072:=b4 _ (by omega);have bt:IntKind.u8.wrap ((a+b+65536)/ 131072)=(a+b+65536)/ 131072:=(by exact IntWalk.u8_in _ (by omega));go_wp2_with fail;go_ret;refine⟨afd ?_,cd.out⟩;unfold sk;rw[aE.out];first|rfl|(simp[dJ,cb,bt];done)
abbrev afe(v:iZ):Array Value:= #[I v.x,I v.y,I v.h3,I v.w,I v.h,I v.depth]
abbrev Gs(v:iZ):Value:=.agg (afe v)
abbrev vL(v:iZ):Obj:=.cells (afe v) 27
theorem B1{k:Nat}{x y p b:Int}(h:w.heap[k]?=some (vL ⟨x,y,p,a,b,d⟩)):aw w k 0 (I x)∧aw w k 1 (I y)∧aw w k 2 (I p)∧aw w k 3 (I a)∧aw w k 4 (I b)∧aw w k 5 (I d):=by refine⟨?_,?_,?_,?_,?_,?_⟩<;>simp[World.cell?,h]
theorem asr(aQ:0≤d)(aa:d≤6):1≤(2:Int)^ d.toNat∧(2:Int)^ d.toNat≤64:=by rcases (show d=0∨d=1∨d=2∨d=3∨d=4∨d=5∨d=6 by omega) with rfl|rfl|rfl|rfl|rfl|rfl|rfl<;>decide
theorem aff{p:Int}(aQ:1≤a)(aa:a≤256)(ah:1≤p)(ax:p≤536870912):1≤a *p∧a *p≤137438953472:=by
 have aN:0≤(a-1) *p:=hL (by omega) (by omega);have aR:0≤(256-a) *p:=hL (by omega) (by omega);have cA:(a-1) *p=a *p-p:=by grind
 have hN:(256-a) *p=256 *p-a *p:=by grind
 omega
theorem Q9(v:iZ)(f:Bool)(hf:J (qa v=f))(w:bTo):Calls Tryz.prog 58 #[Gs v] w fun e w'=>e=bb (ai f)∧av w w w':=by
 have h:=hf.out;clear hf;obtain⟨x,y,p,a,b,d⟩:=v;unfold qa at h;simp only at h;by_cases aI:d<0∨6<d
 case pos=>
  have aE:J (false=f):=(by show _=_;rw[←h,aT aI]);clear h;go_enter Gq,Gr;go_wp2_with fail
  all_goals
   go_ret;exact⟨ej aE.out,jq _ _⟩
 rw[aK aI] at h;have d0:0≤d:=by omega
 have d6:d≤6:=by omega
 have d64:d≤64:=by omega
 have dK:¬d<0:=by omega
 have e':¬d > 6:=by omega
 obtain⟨e8,bN⟩:=asr d0 d6;obtain⟨P,h6⟩:∃P:Int,2^d.toNat=P:=⟨_,rfl⟩;have axB:bT (2^d.toNat)=P:=by rw[h6];rw[h6] at e8 bN;exact b4 _ (by omega)
 rw[h6] at h e8 bN;have axC:¬P=0:=by omega
 clear h6 aI d6;by_cases c2:p<1∨536870912<p
 case pos=>
  have aE:J (false=f):=(by show _=_;rw[←h,aT (by omega)]);clear h;rcases c2 with c2|c2
  ·go_enter Gq,Gr;go_upto_region 3 with fail
   go_quiet (fail)
   go_wp2_with fail;go_ret;exact⟨ej aE.out,gj (jq _ _) _⟩
  ·have n3:¬p<1:=(by omega);go_enter Gq,Gr;go_upto_region 3 with fail
   go_quiet (fail)
   go_wp2_with fail;go_ret;exact⟨ej aE.out,gj (jq _ _) _⟩
 have n3:¬p<1:=by omega
 have n4:¬p > 536870912:=by omega
 obtain⟨r,hr⟩:=az (p%P);have vy:p.tmod P=r:=by rw[CG (by omega)];exact hr
 rw[hr] at h;clear hr;by_cases c3:r=0
 case neg=>
  have aE:J (false=f):=(by show _=_;rw[←h,aT (by omega)]);clear h;go_enter Gq,Gr;go_upto_region 3 with fail
  go_quiet (fail)
  all_goals
   go_wp2_with fail;go_ret;exact⟨ej aE.out,gj (jq _ _) _⟩
 subst c3;rw[aK (by omega)] at h;by_cases bF:a<1∨256<a∨b<1∨256<b
 case pos=>
  have aE:J (false=f):=(by show _=_;rw[←h,aT bF]);clear h;go_enter Gq,Gr;go_upto_region 3 with fail
  go_quiet (fail)
  all_goals
   go_wp2_with fail
   all_goals
    go_ret;exact⟨ej aE.out,gj (jq _ _) _⟩
 rw[aK bF] at h;by_cases c5:x< -536870912∨536870912<x∨y< -536870912∨536870912<y
 case pos=>
  have aE:J (false=f):=(by show _=_;rw[←h,aT c5]);clear h;go_enter Gq,Gr;go_upto_region 3 with fail
  go_quiet (fail)
  all_goals
   go_wp2_with fail
   all_goals
    go_ret;exact⟨ej aE.out,gj (jq _ _) _⟩
 rw[aK c5] at h;have aE:=U h;obtain⟨m1,m2⟩:=aff (a:=a) (p:=p) (by omega) (by omega) (by omega) (by omega);obtain⟨m3,m4⟩:=aff (a:=b) (p:=p) (by omega) (by omega) (by omega) (by omega);have bE:bT (a *p)=a *p:=b4 _ (by omega);have cr:bT (b *p)=b *p:=b4 _ (by omega);have dJ:bT (x+a *p)=x+a *p:=b4 _ (by omega);have cb:bT (y+b *p)=y+b *p:=b4 _ (by omega);clear m1 m2 m3 m4 h;go_enter Gq,Gr;go_upto_region 3 with fail
 go_quiet (fail)
 go_wp2_with fail;go_fit (YX ⟨x,y,x+a *p,y+b *p⟩ f aE _);rintro e V ⟨rfl,af⟩;go_wp2_with fail;go_ret;exact⟨rfl,(gj (jq _ _) _).trans (af.mono (gj (jq _ _) _).size)⟩
theorem Gt{v:iZ}(h:qa v=true):(0≤v.depth∧v.depth≤6)∧(1≤v.h3∧v.h3≤536870912)∧(1≤v.w∧v.w≤256)∧(1≤v.h∧v.h≤256)∧(-536870912≤v.x∧v.x≤536870912)∧(-536870912≤v.y∧v.y≤536870912)∧okB ⟨v.x,v.y,v.x+v.w *v.h3,v.y+v.h *v.h3⟩=true:=by
 unfold qa at h;split at h
 ·cases h
 ·split at h
  ·cases h
  ·split at h
   ·cases h
   ·split at h
    ·cases h
    ·exact⟨by omega,by omega,by omega,by omega,by omega,by omega,h⟩
theorem afg(aQ:0≤d):(2:Int)^(2 *d).toNat=4^d.toNat:=by rw[show (2 *d).toNat=2 *d.toNat by omega,Int.pow_mul];rfl
theorem ass(v:iZ)(aS:qa v=true)(w:bTo):Calls Tryz.prog 42 #[Gs v] w fun e w'=>e=bb (I (AU v))∧av w w w':=by
 obtain⟨⟨d0,d6⟩,_⟩:=Gt aS;have cd:=U aS;obtain⟨x,y,p,a,b,d⟩:=v;simp only at d0 d6;obtain⟨k,ab⟩:∃k:Int,4^d.toNat=k:=⟨_,rfl⟩;have zi:AU ⟨x,y,p,a,b,d⟩=k:=ab;have af:1≤k∧k≤4096:=by rw[←ab];rcases (show d=0∨d=1∨d=2∨d=3∨d=4∨d=5∨d=6 by omega) with rfl|rfl|rfl|rfl|rfl|rfl|rfl<;>decide
 have w0:bT (2 *d)=2 *d:=b4 _ (by omega);have bE:bT (2 ^(2 *d).toNat)=k:=by rw[afg d0,ab];exact b4 _ (by omega)
 have m0:0≤2 *d:=by omega
 have m1:2 *d≤64:=by omega
 have cT:=U zi;clear ab zi aS af;go_enter Tryz.func42,Tryz.ntmps42;go_wp2_with fail;have aH:J (av w w (w.alloc (vL ⟨x,y,p,a,b,d⟩))):=jq _ _;have b8:J ((w.alloc (vL ⟨x,y,p,a,b,d⟩)).heap[w.heap.size]?=some (vL ⟨x,y,p,a,b,d⟩)):=cw _ _;generalize w.alloc (vL ⟨x,y,p,a,b,d⟩)=W at aH b8⊢;go_fit (Q9 ⟨x,y,p,a,b,d⟩ true cd _);rintro e V ⟨rfl,af⟩;obtain⟨a0,a',a2,a3,a4,a5⟩:=B1 (aO b8.out af);have cV:J (av w w V):=aH.out.trans (af.mono aH.out.size);clear af;go_wp2_with fail;go_ret;exact⟨fU cT.out.symm,cV.out⟩
theorem WJ(v:iZ)(aS:qa v=true)(i j:Nat)(hi:(i:Int)<v.w)(cB:(j:Int)<v.h)(w:bTo):Calls Tryz.prog 85 #[Gs v,I i,I j] w fun e w'=>e=bb (.tuple #[gJ (mW v i j),ai true])∧av w w w':=by
 obtain⟨⟨d0,d6⟩,⟨eK,er⟩,⟨a0,a'⟩,⟨bX,b3⟩,⟨ao,ar⟩,⟨ak,aq⟩,ff⟩:=Gt aS;have cd:=U aS;obtain⟨x,y,p,a,b,d⟩:=v;simp only at d0 d6 eK er a0 a' bX b3 ao ar ak aq hi cB;have m1:0≤(i:Int) *p∧(i:Int) *p≤137438953472:=by have aN:0≤(i:Int) *p:=hL (by omega) (by omega);have aR:0≤(256 -(i:Int)) *p:=hL (by omega) (by omega);have hN:(256 -(i:Int)) *p=256 *p-i *p:=(by grind);omega
 have m2:0≤(b-1 -(j:Int)) *p∧(b-1 -(j:Int)) *p≤137438953472:=by have aN:0≤(b-1 -(j:Int)) *p:=hL (by omega) (by omega);have aR:0≤(256 -(b-1 -(j:Int))) *p:=hL (by omega) (by omega);have hN:(256 -(b-1 -(j:Int))) *p=256 *p -(b-1 -(j:Int)) *p:=(by grind);omega
 have bE:bT ((i:Int) *p)=i *p:=b4 _ (by omega);have cr:bT (x+(i:Int) *p)=x+i *p:=b4 _ (by omega);have dJ:bT (b-1)=b-1:=b4 _ (by omega);have cb:bT (b-1 -(j:Int))=b-1-j:=b4 _ (by omega);have bt:bT ((b-1 -(j:Int)) *p)=(b-1-j) *p:=b4 _ (by omega);have cX:bT (y+(b-1 -(j:Int)) *p)=y+(b-1-j) *p:=b4 _ (by omega);have j7:bT (x+(i:Int) *p+p)=x+i *p+p:=b4 _ (by omega);have mZ:bT (y+(b-1 -(j:Int)) *p+p)=y+(b-1-j) *p+p:=b4 _ (by omega);clear m1 m2 aS ff;go_enter Tryz.func85,Tryz.ntmps85;go_upto_region 1 with fail;obtain⟨W,a6⟩:=az ((w.alloc (vL ⟨x,y,p,a,b,d⟩)).alloc (cH ed));have aH:J (av w w W):=by show Below _ _ _;rw[←a6];exact k5 _ _ _
 have b8:J (W.heap[w.heap.size]?=some (vL ⟨x,y,p,a,b,d⟩)):=by show _=_;rw[←a6];exact aO (cw _ _) (ba _ _)
 have bq:J (W.heap[w.heap.size+1]?=some (cH ed)):=by show _=_;rw[←a6];exact ry _ _ _
 change Code.wp _ _ _ _ ((w.alloc (vL ⟨x,y,p,a,b,d⟩)).alloc (cH ed));rw[a6];clear a6;obtain⟨afh,afi,afj,afk,afl,afm⟩:=B1 b8.out;go_wp2_with fail;go_fit (Q9 ⟨x,y,p,a,b,d⟩ true cd _);rintro e V ⟨rfl,af⟩;clear afh afi afj afk afl afm;obtain⟨afh,afi,afj,afk,afl,afm⟩:=B1 (aO b8.out af);have cV:J (av w w V):=aH.out.trans (af.mono aH.out.size);have gK:=U (aO bq.out af);clear af;have hf:=cP gK.out;obtain⟨aJ,aI,c2,c3⟩:=fD (show V.heap[w.heap.size+1]?=some (cH ⟨0,0,0,0⟩) from gK.out);have dK:¬(i:Int)<0:=by omega
 have e':¬(j:Int)<0:=by omega
 have n3:¬(i:Int)≥a:=by omega
 have n4:¬(j:Int)≥b:=by omega
 go_wp2_with fail;have hr:=me [I (x+i *p),I (y+(b-1-j) *p),I (x+i *p+p),I (y+(b-1-j) *p+p)] gK.out rfl;have af:=pt (m:=0) (b:=w.heap.size+1) (l4 _) [I (x+i *p),I (y+(b-1-j) *p),I (x+i *p+p),I (y+(b-1-j) *p+p)] cV.out;exact dH (nK rfl _ _ (w.heap.size+1) _ _ _ _ rfl hr zw rfl (by kernel_rfl)) rfl ⟨rfl,af⟩
abbrev oB:TypeId:=43
abbrev gF(a b:Int):Obj:=.cells #[I a,I b] oB
theorem aL.xm{S:Jp}{W:bTo}(h:aL S W x){b i:Nat}(af:W.heap.size≤b)(u:ada):aL S W (x.setCell (ag b i) u):=
 ⟨h.os,h.tape,h.output,dX h.size (by simp[World.setCell]),fun k hs aj=>(jg (by omega)).trans (h.block k hs aj)⟩
variable{bI g:Nat}
theorem WK{S:Jp}(hS:¬S bI)(h:aL (fun k=>k≠bI) w x):aL S w x:=h.mono (R:=S) (fun k _ hs=>by show k≠bI;intro e;rw[e] at hs;exact hS hs)
structure xn(w0:bTo)(g bI:Nat)(gs:agv)(b:bR)(cu a:Int)(x:bTo):Prop where
 wM:bo x g gs jt
 aU:x.heap[g+1]?=some (cH b)
 res:x.heap[g+1+1]?=some (gF 0 0)
 mt:x.heap[bI]?=some (hU cu a)
 k:aL (fun k=>k≠bI) w0 x
 lt:bI<g
variable{b:bR}{gs:agv}
theorem xn.step{h2:Int}{y:bTo}(h:xn w0 g bI gs b cu a x)(ab:aL (fun k=>k≠bI) x y)(hm:y.heap[bI]?=some (hU cu h2)):xn w0 g bI gs b cu h2 y:=by have aj:=h.lt;exact⟨ab.get (by show _≠_;omega) h.wM,ab.get (by show _≠_;omega) h.aU,ab.get (by show _≠_;omega) h.res,hm,h.k.trans ab,h.lt⟩
theorem xn.below{y:bTo}(h:xn w0 g bI gs b cu a x)(af:av x x y):xn w0 g bI gs b cu a y:=h.step (aL.dM af) (aO h.mt af)
theorem xn.new(h:xn w0 g bI gs b cu a x){c i:Nat}(hc:g+1+1<c∧w0.heap.size≤c)(u:ada):xn w0 g bI gs b cu a (x.setCell (ag c i) u):=by have aj:=h.lt;exact⟨(jg (by omega)).trans h.wM,(jg (by omega)).trans h.aU,(jg (by omega)).trans h.res,(jg (by omega)).trans h.mt,h.k.xm hc.2 u,h.lt⟩
theorem afn{a b:Nat}(h:a≤b)(aX:bI<a):b≠bI:=by omega
def B2(bI:Nat)(cu:Int)(w:bTo)(r:Option eV×Int)(e:Ending)(w':bTo):Prop:=
 e=bb (.tuple #[D0 (r.1.getD (0,0)),I (if r.1.isNone=true then 6 else 0)])∧w'.heap[bI]?=some (hU cu (cu-r.2))∧aL (fun k=>k≠bI) w w'
theorem B2.get{o:Option eV}{m:Int}{e:Ending}{w':bTo}(h:B2 bI cu w (o,m) e w'){b o9:Int}(hc:o.getD (0,0)=(a,b))(he:(if o.isNone=true then 6 else 0)=o9):
  e=bb (.tuple #[.agg #[I a,I b],I o9])∧w'.heap[bI]?=some (hU cu (cu-m))∧aL (fun k=>k≠bI) w w':=by
 obtain⟨aa,ah,ax⟩:=h;simp only at aa;rw[hc,he] at aa;exact⟨aa,ah,ax⟩
theorem Jk{cr:bTo}(aX:g=w.heap.size)(h:xn w g bI gs b cu a cr){r:Option eV×Int}(aJ aI o9:Int)(hc:(aJ,aI)=r.1.getD (0,0))(he:o9=if r.1.isNone=true then 6 else 0)(ha:a=cu-r.2)
  {tmps:agv} (hp:tmps.getD 8 undef=.pointer (some (ag (g+1+1) 0))) (hs:tmps.getD 9 undef=I o9):
  bodyPost Tryz.prog Tryz.f87 (B2 bI cu w r) .ret ⟨tmps,[]⟩ ((cr.setCell (ag (g+1+1) 0) (I aJ)).setCell (ag (g+1+1) 1) (I aI)):=by
 have hO:=me [I aJ,I aI] h.res rfl;have aj:=h.lt;refine dH (nK rfl _ _ (g+1+1) _ _ _ _ hp hO Tryz.underlying43 rfl (by kernel_rfl)) rfl ⟨?_,?_,?_⟩
 ·rw[hs,←hc,he]
 ·rw[←ha];exact (xS (by omega) [I aJ,I aI]).trans h.mt
 ·exact (h.k.xm (by omega) _).xm (by omega) _
theorem ast(d:Nat)(g:List eJ)(b:bR)(m:Int)(h:m≤0):oe d g b m=(none,m-1):=by
 cases d with
 |zero=>rw[DY,aT h]
 |succ d=>rw[DX,aT h]
theorem asu(d:Nat)(g:List eJ)(b:bR)(m:Int)(h:¬m≤0)(ab:k4 (g.map eJ.o) b=0):oe d g b m=(some (0,0),m-1):=by
 cases d with
 |zero=>rw[DY,aK h,aT ab]
 |succ d=>rw[DX,aK h,aT ab]
theorem asv(d:Nat)(g:List eJ)(b:bR)(m:Int)(h:¬m≤0)(ab:k4 (g.map eJ.o) b=2):oe d g b m=(some (4^d,4^d),m-1):=by
 cases d with
 |zero=>rw[DY,aK h,aK (by omega),aT ab];rfl
 |succ d=>rw[DX,aK h,aK (by omega),aT ab]
def tc(ao ak ar aq x y:Int):Nat→bR
 |0=>⟨ao,ak,x,y⟩
 |1=>⟨x,ak,ar,y⟩
 |2=>⟨ao,y,x,aq⟩
 |_=>⟨x,y,ar,aq⟩
theorem asw(ao ak ar aq x y:Int)(j:Nat)(cB:j<4)(w:bTo):(Instr.index 251 (.agg #[I ao,I ak,I x,I y,I x,I ak,I ar,I y,I ao,I y,I x,I aq,I x,I y,I ar,I aq]) (I j)).run Tryz.prog w=.ok (gJ (tc ao ak ar aq x y j)) w:=by rcases (show j=0∨j=1∨j=2∨j=3 by omega) with rfl|rfl|rfl|rfl<;>simp[Instr.index,jT Tryz.underlying251,asIntOf,go_sem,tc,part]
abbrev Q'(W:bTo)(bI g:Nat)(p q:aya)(n c e:Nat)(mP:Nat)(a0 a' a2 a3:Int)(Z:bTo):Prop:=
 Z.cell? ⟨g,0,none⟩=some (ad p n c)∧aw Z g 1 (ad q n e)∧aw Z mP 0 (I a0)∧aw Z mP 1 (I a')∧aw Z mP 2 (I a2)∧aw Z mP 3 (I a3)∧aL (fun k=>k≠bI) W Z
theorem afo{W Z:bTo}{p q:aya}{n c e:Nat}{mP:Nat}{a0 a' a2 a3:Int}(aX:bo W g (lR p n c q e) jt)(af:W.heap[mP]?=some (cH ⟨a0,a',a2,a3⟩))(dK:g≠bI)(e':mP≠bI)(ab:aL (fun k=>k≠bI) W Z):Q' W bI g p q n c e mP a0 a' a2 a3 Z:=by have aa:=ab.get dK aX;have ah:=ab.get e' af;exact⟨cell_of aa rfl,cell_of aa rfl,cell_of ah rfl,cell_of ah rfl,cell_of ah rfl,cell_of ah rfl,ab⟩
theorem asx(N:Nat):∀(d:Nat),d<N→d≤6→∀(S:Jp) (g:List eJ) (aj:∀e∈g,qI e.o.2) (p q:aya) (n c lE:Nat) (hn:n=g.length) (b:bR) (af:okB b=true) (hx:(b.ar-b.ao)%2^d=0∧0<b.ar-b.ao) (hy:(b.aq-b.ak)%2^d=0∧0<b.aq-b.ak) (bI:Nat) (hS:¬S bI) (cu m:Int) (hm:-1≤cu-m∧cu≤100000000∧-1000≤m) (w:bTo) (H:J (mD S w p q g)) (bB:J (w.heap[bI]?=some (hU cu (cu-m)))) (r:Option eV×Int) (hr:J (oe d g b m=r)),
    Calls Tryz.prog 87 #[.agg (lR p n c q lE),gJ b,I (d:Int),dv bI 0] w (B2 bI cu w r):=by
  induction N with
  |zero=>intro d h;exact absurd h (l7 _)
  |succ N dc=>
  intro d Fj afp S g aj p q n c lE hn b af hx hy bI hS cu m hm w H bB r hr;have xF:=U dc;have Hx:=U Fj;have dR:=U aj;have a1:=U hn;have mM:=U af;have Jl:=U (And.intro hx hy);have Jm:=U hS;have xK:=U hm;have uf:=U (lt_of_heap bB.out);clear dc Fj aj hn af hx hy hS hm;obtain⟨ao,ak,ar,aq⟩:=b;obtain⟨f,hf⟩:∃f,decide (cu-m+1≤cu)=f:=⟨_,rfl⟩;have aE:=U hf;obtain⟨k,ab⟩:∃k,k4 (g.map eJ.o) ⟨ao,ak,ar,aq⟩=k:=⟨_,rfl⟩;have cT:=U ab;have WL:=asn (g.map eJ.o) ⟨ao,ak,ar,aq⟩;rw[ab] at WL;have axD:=U WL;clear ab WL;go_enter Tryz.func87,Tryz.ntmps87;go_upto_region 1 with fail;obtain⟨W,a6⟩:∃W,((w.alloc (aD (lR p n c q lE) jt)).alloc (cH ⟨ao,ak,ar,aq⟩)).alloc (gF 0 0)=W:=⟨_,rfl⟩;have bm:J (xn w w.heap.size bI (lR p n c q lE) ⟨ao,ak,ar,aq⟩ cu (cu-m) W):=(by obtain⟨aa,ah,ax,bg,_⟩:=rb a6;exact⟨aa,ah,ax,aO bB.out bg,aL.dM bg,uf.out⟩);rw[a6];clear a6;go_wp2_with fail;go_fit (arK bI cu (cu-m) (by have:=xK.out;omega) _ (U bm.out.mt) f aE);rintro e bQ ⟨rfl,afq,so⟩;have q0:=U (bm.out.step so afq);clear afq so bm;obtain⟨g0,g1⟩:=oT q0.out.wM;obtain⟨bX,b3,bc,ev⟩:=fD q0.out.aU;obtain⟨u0,u1⟩:=pa q0.out.res;have fu:=cP q0.out.res;cases f with
  |false=>
    have sc:m≤0:=(by simp only[CA] at hf;omega);have br:J (r=(none,m-1)):=(by show _=_;rw[←hr.out,ast _ _ _ _ sc]);clear hf;go_wp2_with fail;rw[br.out];exact Jk rfl q0.out 0 0 6 rfl rfl (by show _=cu -(m-1);omega) rfl rfl
  |true=>
    have sB:J (0<m):=(by show 0<m;simp only[gH] at hf;omega);clear hf;go_wp2_with fail;go_fit (akm S ⟨ao,ak,ar,aq⟩ (arL mM.out) p (g.map eJ.o) n c (by rw[hk];exact a1.out) (by intro o bl;obtain⟨e,he,rfl⟩:=List.mem_map.1 bl;exact dR.out e he) _ (U (H.out.o.keep (WK Jm.out q0.out.k))) k cT);rintro e ct ⟨rfl,af⟩;have oy:=U (q0.out.below af);clear af q0 g0 g1 bX b3 bc ev u0 u1 fu;obtain⟨g0,g1⟩:=oT oy.out.wM;obtain⟨bX,b3,bc,ev⟩:=fD oy.out.aU;obtain⟨u0,u1⟩:=pa oy.out.res;have fu:=cP oy.out.res;by_cases b6:k=0
    · subst b6
      have br:J (r=(some (0,0),m-1)):=(by show _=_;rw[←hr.out,asu _ _ _ _ (Int.not_le.2 sB.out) cT.out]);go_wp2_with fail;rw[br.out];exact Jk rfl oy.out 0 0 0 rfl rfl (by show _=cu -(m-1);omega) rfl rfl
    by_cases a8:k=2
    · subst a8
      obtain⟨P,h6⟩:∃P:Int,4^d=P:=⟨_,rfl⟩;have WM:1≤P∧P≤4096:=by rw[←h6];rcases (show d=0∨d=1∨d=2∨d=3∨d=4∨d=5∨d=6 by omega) with rfl|rfl|rfl|rfl|rfl|rfl|rfl<;>decide
      have br:J (r=(some (P,P),m-1)):=(by show _=_;rw[←hr.out,asv _ _ _ _ (Int.not_le.2 sB.out) cT.out,h6]);have w0:bT (2 *(d:Int))=2 *(d:Int):=b4 _ (by omega);have bE:bT (2 ^(2 *(d:Int)).toNat)=P:=(by have:=afg (d:=(d:Int)) (by omega);rw[this,show ((d:Int)).toNat=d from rfl,h6];exact b4 _ (by omega));have m0:0≤2 *(d:Int):=(by omega);have m1:2 *(d:Int)≤64:=(by omega);clear h6 WM;go_wp2_with fail;rw[br.out];exact Jk rfl oy.out P P 0 rfl rfl (by show _=cu -(m-1);omega) rfl rfl
    have axE:(k==0)=false:=(by simp;omega);have axF:(k==2)=false:=(by simp;omega);by_cases d0:d=0
    · subst d0
      have br:J (r=(some (0,1),m-1)):=(by show _=_;rw[←hr.out,DY,aK (Int.not_le.2 sB.out),cT.out,aK b6,aK a8]);go_wp2_with fail;rw[br.out];exact Jk rfl oy.out 0 1 0 rfl rfl (by show _=cu -(m-1);omega) rfl rfl
    obtain⟨fQ,rfl⟩:∃fQ,d=fQ+1:=⟨d-1,by omega⟩;have br:J ((splitB ⟨ao,ak,ar,aq⟩).foldl (o' fQ g) (some (0,0),m-1)=r):=(by show _=_;rw[←hr.out,DX,aK (Int.not_le.2 sB.out),cT.out,aK b6,aK a8]);obtain⟨mm,pD,xa,I0⟩:=afb Jl.out.1;obtain⟨Jn,WN,WO,asy⟩:=afb Jl.out.2;obtain⟨x,dp⟩:∃x,ao+(ar-ao)/ 2=x:=⟨_,rfl⟩;obtain⟨y,ih⟩:∃y,ak+(aq-ak)/ 2=y:=⟨_,rfl⟩;have FM:J (splitB ⟨ao,ak,ar,aq⟩=[⟨ao,ak,x,y⟩,⟨x,ak,ar,y⟩,⟨ao,y,x,aq⟩,⟨x,y,ar,aq⟩]):=(by show _=_;simp only[splitB,dp,ih]);have zz:((((fQ+1:Nat):Int))==0)=false:=(by simp;omega);go_upto_region 12 with fail;have qL:=U (oy.out.below (ba ct (gF 0 0)));have Ra:J ((ct.alloc (gF 0 0)).heap[ct.heap.size]?=some (gF 0 0)):=cw _ _;have D1:J (w.heap.size+1+1<ct.heap.size):=lt_of_heap oy.out.res;obtain⟨oQ,CT⟩:∃oQ,ct.heap.size=oQ:=⟨_,rfl⟩;change Code.wp _ _ _ _ (ct.alloc (gF 0 0));generalize ct.alloc (gF 0 0)=c6 at qL Ra⊢;rw[CT] at Ra D1⊢;clear CT oy g0 g1 bX b3 bc ev u0 u1 fu;obtain⟨bX,b3,bc,ev⟩:=fD qL.out.aU;go_wp2_with fail;go_fit (arM ao ak ar aq mM.out ⟨mm,Jl.out.1.2⟩ ⟨Jn,Jl.out.2.2⟩ x y dp ih _);rintro e ez ⟨rfl,af⟩;have afr:=U (qL.out.below af);have afs:=U (aO Ra.out af);clear af qL Ra bX b3 bc ev;go_wp2_with fail;have qw:=U (afr.out.below (ba ez (aD ((DV ao ak ar aq x y).toArray) 251)));have aft:=U (aO afs.out (ba ez (aD ((DV ao ak ar aq x y).toArray) 251)));obtain⟨gn,WQ⟩:∃gn,ez.alloc (.cells (DV ao ak ar aq x y).toArray 251)=gn:=⟨_,rfl⟩;rw[WQ] at qw aft;have asz:J (∀j,okB (tc ao ak ar aq x y j)=true):=(by have z6:=Q2 mM.out;simp only at z6;rintro (_|_|_|j)<;>simp only[tc,okB,tp,gy,gH]<;>omega);have U4:J (∀j,((tc ao ak ar aq x y j).ar -(tc ao ak ar aq x y j).ao)%2^fQ=0∧0<(tc ao ak ar aq x y j).ar -(tc ao ak ar aq x y j).ao):=by have aN:x-ao=(ar-ao)/ 2:=(by omega);have aR:ar-x=(ar-ao)/ 2:=(by omega);rintro (_|_|_|j)<;>simp only[tc]<;>first|(rw[aN];exact⟨xa,pD⟩)|(rw[aR];exact⟨xa,pD⟩)
    have NY:J (∀j,((tc ao ak ar aq x y j).aq -(tc ao ak ar aq x y j).ak)%2^fQ=0∧0<(tc ao ak ar aq x y j).aq -(tc ao ak ar aq x y j).ak):=by have aN:y-ak=(aq-ak)/ 2:=(by omega);have aR:aq-y=(aq-ak)/ 2:=(by omega);rintro (_|_|_|j)<;>simp only[tc]<;>first|(rw[aN];exact⟨WO,WN⟩)|(rw[aR];exact⟨WO,WN⟩)
    rw[FM.out] at br;obtain⟨P,h6⟩:∃P:Int,4^fQ=P:=⟨_,rfl⟩;have WM:1≤P∧P≤1024:=by rw[←h6];rcases (show fQ=0∨fQ=1∨fQ=2∨fQ=3∨fQ=4∨fQ=5 by omega) with rfl|rfl|rfl|rfl|rfl|rfl<;>decide
    have zn:=U h6;clear h6 afr afs FM mm pD xa I0 Jn WN WO asy dp ih;change Code.wp _ _ _ _ (ez.alloc (aD ((DV ao ak ar aq x y).toArray) 251));rw[WQ];clear WQ
    go_loopw [46] (fun i wr=>∃(j:Nat) (lo hi m1:Int) (aG:bTo),aG=wr∧j≤4∧i=I j∧0≤lo∧lo≤hi∧hi≤j *P∧0≤m1∧m1≤m-1∧J (([⟨ao,ak,x,y⟩,⟨x,ak,ar,y⟩,⟨ao,y,x,aq⟩,⟨x,y,ar,aq⟩].drop j).foldl (o' fQ g) (some (lo,hi),m1)=r)∧J (xn w w.heap.size bI (lR p n c q lE) ⟨ao,ak,ar,aq⟩ cu (cu-m1) aG)∧J (aG.heap[oQ]?=some (gF lo hi))) (fun i _=>4 -(intOf i).toNat)
    case atStart=>exact⟨0,0,0,m-1,_,rfl,by decide,rfl,by decide,by decide,by omega,by have:=sB.out;omega,by omega,br.out,by rw[show cu -(m-1)=cu-m+1 by omega];exact qw.out,aft.out⟩
    case round=>
    obtain⟨j,lo,hi,m1,aG,rfl,cB,rfl,JV,mS,kb,afu,asA,dA,cq,afv⟩:=hrel;by_cases F6:j<4
    · have an2:(j:Int)<4:=by omega
      have Bi:(0:Int)≤(j:Int):=(by omega);have axG:(j:Int) *P≤4 *1024:=MY (by omega) WM.2 (by omega) (by decide);obtain⟨⟨nN,fw,pb,hC⟩,MZ⟩:∃b,tc ao ak ar aq x y j=b:=⟨_,rfl⟩;have afw:J (∀s,([⟨ao,ak,x,y⟩,⟨x,ak,ar,y⟩,⟨ao,y,x,aq⟩,⟨x,y,ar,aq⟩].drop j).foldl (o' fQ g) s=([⟨ao,ak,x,y⟩,⟨x,ak,ar,y⟩,⟨ao,y,x,aq⟩,⟨x,y,ar,aq⟩].drop (j+1)).foldl (o' fQ g) (o' fQ g s ⟨nN,fw,pb,hC⟩)):=by intro s;rw[←MZ];rcases (show j=0∨j=1∨j=2∨j=3 by omega) with rfl|rfl|rfl|rfl<;>rfl
      have oh:∀w,(Instr.index 251 (.agg (DV ao ak ar aq x y).toArray) (I j)).run Tryz.prog w=.ok (gJ ⟨nN,fw,pb,hC⟩) w:=(fun w=>by rw[←MZ];exact asw ao ak ar aq x y j F6 w);obtain⟨⟨gu,m6⟩,c0⟩:∃qE,oe fQ (fC g ⟨nN,fw,pb,hC⟩) ⟨nN,fw,pb,hC⟩ m1=qE:=⟨_,rfl⟩;have Gu:=U c0;obtain⟨o9,M0⟩:∃o9:Int,(if gu.isNone=true then 6 else 0)=o9:=⟨_,rfl⟩;obtain⟨⟨et,eu⟩,ph⟩:∃c:eV,gu.getD (0,0)=c:=⟨_,rfl⟩;have B3:=U M0;have sO:=U ph;have asB:J (okB ⟨nN,fw,pb,hC⟩=true):=(by show _=_;rw[←MZ];exact asz.out j);have asC:J ((pb-nN)%2^fQ=0∧0<pb-nN):=(by have h:=U4.out j;rw[MZ] at h;exact h);have asD:J ((hC-fw)%2^fQ=0∧0<hC-fw):=(by have h:=NY.out j;rw[MZ] at h;exact h);clear c0 M0 ph;go_upto_region 16 with fail;have vM:=U (cq.out.below (ba aG (cH ⟨nN,fw,pb,hC⟩)));have M1:=U (aO afv.out (ba aG (cH ⟨nN,fw,pb,hC⟩)));have lQ:J ((aG.alloc (cH ⟨nN,fw,pb,hC⟩)).heap[aG.heap.size]?=some (cH ⟨nN,fw,pb,hC⟩)):=cw _ _;have NX:=vM.out.lt;have afx:J (bI<aG.heap.size):=lt_of_heap cq.out.mt;generalize aG.alloc (cH ⟨nN,fw,pb,hC⟩)=dG at vM M1 lQ⊢;obtain⟨mP,M3⟩:∃mP,aG.heap.size=mP:=⟨_,rfl⟩;rw[M3] at lQ afx⊢;have tO:mP≠bI:=(by have:=afx.out;omega);have xg:w.heap.size≠bI:=(by have:=uf.out;omega);have bq:J (∀Z,aL (fun k=>k≠bI) dG Z→Q' dG bI w.heap.size p q n c lE mP nN fw pb hC Z):=fun Z ab=>afo vM.out.wM lQ.out xg tO ab;have yV:J (aL (fun k=>k≠bI) dG dG.drew):=aL.dM (Below.refl _ _).drew;have lq:=U (bq.out _ (aL.refl _ _));have ji:=U (bq.out _ yV.out);have kW:J (aL (fun k=>k≠bI) dG (dG.alloc (gF 0 0)).drew):=aL.dM (ba _ _).drew;have Fg:J (mD S dG.drew p q g):=H.out.keep (WK Jm.out (vM.out.k.trans yV.out));have MS:J (mD S (dG.alloc (gF 0 0)).drew p q g):=H.out.keep (WK Jm.out (vM.out.k.trans kW.out));have w6:J (dG.drew.heap[bI]?=some (hU cu (cu-m1))):=vM.out.mt;have wk:J ((dG.alloc (gF 0 0)).drew.heap[bI]?=some (hU cu (cu-m1))):=aO vM.out.mt (ba _ _).drew;have ug:J ((dG.alloc (gF 0 0)).drew.heap[dG.heap.size]?=some (gF 0 0)):=cw _ _;have Am:J (∀k,(S k∨dG.drew.heap.size≤k)→(S k∨dG.heap.size≤k)):=fun k h=>h;have rE:J (∀k,(S k∨(dG.alloc (gF 0 0)).drew.heap.size≤k)→(S k∨dG.heap.size≤k)):=fun k h=>h.elim .inl (fun h=>.inr (dX (ba dG (gF 0 0)).size h))
      have afy:J (¬(fun k=>S k∨dG.heap.size≤k) bI):=by
        show ¬(S bI∨_);intro h;rcases h with h|h
        · exact Jm.out h
        · have aa:=lt_of_heap vM.out.mt
          exact absurd h (by omega)
      have axH:=lt_of_heap M1.out;have WR:oQ≠bI:=(by have:=D1.out;have:=uf.out;omega);have WS:dG.heap.size≠bI:=(by have aa:=lt_of_heap vM.out.mt;omega);have axI:bT (fQ:Int)=(fQ:Int):=b4 _ (by omega);have M4:=U (fun (x9:Nat→Prop) (asE:¬x9 bI) (td jc:aya) (bS lD:Nat) (Z:bTo) (aX:mD x9 Z td jc (fC g ⟨nN,fw,pb,hC⟩)) (bx:Z.heap[bI]?=some (hU cu (cu-m1)))=>xF.out fQ (by have:=Hx.out;omega) (by omega) x9 (fC g ⟨nN,fw,pb,hC⟩) (fun e he=>dR.out e (List.mem_filter.1 he).1) td jc (fC g ⟨nN,fw,pb,hC⟩).length bS lD rfl ⟨nN,fw,pb,hC⟩ asB.out asC.out asD.out bI asE cu m1 (by have:=xK.out;omega) Z (U aX) (U bx) (gu,m6) Gu);have Gv:bI<dG.heap.size:=lt_of_heap vM.out.mt;clear M3 NX
      go_region_held3 (fun Z => Q' dG bI w.heap.size p q n c lE mP nN fw pb hC Z) (first | with_reducible exact lq.out | with_reducible exact ji.out | with_reducible exact bq.out _ kW.out | with_reducible exact bq.out _ (((mO.xm lh.size _).xm lh.size _)) | with_reducible exact bq.out _ (((mO.xm (bD _) _).xm (bD _) _)) | with_reducible exact bq.out _ (mO.trans (aL.alloc _ _ _)) | with_reducible exact bq.out _ mO | with_reducible exact bq.out _ (lh.trans (aL.alloc _ _ _)) | with_reducible exact bq.out _ lh | assumption | (trace_state; fail)) (first
        |(go_at_call 86;go_fit (KR S g p q n c lE ⟨nN,fw,pb,hC⟩ a1.out dG.drew Fg);rintro e hD ⟨td,bS,jc,lD,rfl,vN,nw⟩;have lh:=yV.out.trans (aL.dM nw);have Gw:=aO w6.out nw;have Gx:=vN.mono (fun k _ h=>Am.out k h);clear vN)
        |(go_at_call 86;go_fit (KR S g p q n c lE ⟨nN,fw,pb,hC⟩ a1.out (dG.alloc (gF 0 0)).drew MS);rintro e hD ⟨td,bS,jc,lD,rfl,vN,nw⟩;have lh:=kW.out.trans (aL.dM nw);have Gw:=aO wk.out nw;have Gx:=vN.mono (fun k _ h=>rE.out k h);have WT:=aO ug.out nw;clear vN)
        |(go_at_call 87;go_fit (M4.out (fun k=>S k∨dG.heap.size≤k) afy.out td jc bS lD hD Gx Gw);intro e fR fG;obtain⟨Gy,B4,yW⟩:=B2.get fG sO.out B3.out;subst Gy;have mO:=lh.trans yW;try (have nx:=yW.get WS WT;obtain⟨z0,z1⟩:=pa nx;have o6:=cP nx))
        |(go_at_call 87;go_fit (M4.out (fun k=>S k∨dG.heap.size≤k) afy.out td jc bS lD (hD.alloc (gF 0 0)) (Gx.below (ba _ _)) (aO Gw (ba _ _)));intro e fR fG;obtain⟨Gy,B4,yW⟩:=B2.get fG sO.out B3.out;subst Gy;have mO:=(lh.trans (aL.alloc _ _ _)).trans yW;have nx:=yW.get (afn lh.size Gv) (cw hD (gF 0 0));obtain⟨z0,z1⟩:=pa nx;have o6:=cP nx))
      all_goals
        first
          | (change Exit.then _ _ _ _ (fR.alloc (gF et eu))
             have qy:=U ((vM.out.step mO B4).below (ba fR (gF et eu)));have gE:J ((fR.alloc (gF et eu)).heap[fR.heap.size]?=some (gF et eu)):=cw _ _;have D2:J ((fR.alloc (gF et eu)).heap[oQ]?=some (gF lo hi)):=(mO.trans (aL.alloc _ _ _)).get WR M1.out;have Gz:fR.heap.size≠oQ:=(by have:=mO.size;omega);generalize fR.alloc (gF et eu)=xo at qy gE D2⊢;obtain⟨M5,q2⟩:∃B,fR.heap.size=B:=⟨_,rfl⟩;rw[q2] at gE Gz⊢;clear q2)
          | (change Exit.then _ _ _ _ ((fR.setCell (ag hD.heap.size 0) (I et)).setCell (ag hD.heap.size 1) (I eu))
             have asF:=lh.size;have qy:=U (((vM.out.step mO B4).new (c:=hD.heap.size) (i:=0) (by have:=D1.out;omega) (I et)).new (c:=hD.heap.size) (i:=1) (by have:=D1.out;omega) (I eu));have gE:J (((fR.setCell (ag hD.heap.size 0) (I et)).setCell (ag hD.heap.size 1) (I eu)).heap[hD.heap.size]?=some (gF et eu)):=me [I et,I eu] nx rfl;have Gz:hD.heap.size≠oQ:=(by omega);have D2:J (((fR.setCell (ag hD.heap.size 0) (I et)).setCell (ag hD.heap.size 1) (I eu)).heap[oQ]?=some (gF lo hi)):=(xS (m:=0) (fN Gz) [I et,I eu]).trans (mO.get WR M1.out);generalize (fR.setCell (ag hD.heap.size 0) (I et)).setCell (ag hD.heap.size 1) (I eu)=xo at qy gE D2⊢;clear asF z0 z1 o6 nx;obtain⟨M5,q2⟩:∃B,hD.heap.size=B:=⟨_,rfl⟩;rw[q2] at gE Gz⊢;clear q2)
          | (change Exit.then _ _ _ _ ((fR.setCell (ag dG.heap.size 0) (I et)).setCell (ag dG.heap.size 1) (I eu))
             have qy:=U (((vM.out.step mO B4).new (c:=dG.heap.size) (i:=0) (by have:=D1.out;omega) (I et)).new (c:=dG.heap.size) (i:=1) (by have:=D1.out;omega) (I eu));have gE:J (((fR.setCell (ag dG.heap.size 0) (I et)).setCell (ag dG.heap.size 1) (I eu)).heap[dG.heap.size]?=some (gF et eu)):=me [I et,I eu] nx rfl;have Gz:dG.heap.size≠oQ:=(by omega);have D2:J (((fR.setCell (ag dG.heap.size 0) (I et)).setCell (ag dG.heap.size 1) (I eu)).heap[oQ]?=some (gF lo hi)):=(xS (m:=0) (fN Gz) [I et,I eu]).trans (mO.get WR M1.out);generalize (fR.setCell (ag dG.heap.size 0) (I et)).setCell (ag dG.heap.size 1) (I eu)=xo at qy gE D2⊢;clear z0 z1 o6 nx;obtain⟨M5,q2⟩:∃B,dG.heap.size=B:=⟨_,rfl⟩;rw[q2] at gE Gz⊢;clear q2)
      all_goals
        obtain⟨s0,s1⟩:=pa D2.out;obtain⟨v0,v1⟩:=pa gE.out;obtain⟨u0,u1⟩:=pa qy.out.res;have fu:=cP qy.out.res;have axJ:=cP D2.out;cases gu with
        |none=>
          obtain rfl:(6:Int)=o9:=B3.out;have dF:J (r=(none,m6)):=dA.out.symm.trans (by rw[afw.out,ae9 Gu.out,WG]);go_wp2_with fail;rw[dF.out];exact Jk rfl qy.out 0 0 6 rfl rfl rfl rfl rfl
        |some kR=>
          obtain rfl:(0:Int)=o9:=B3.out;obtain rfl:(et,eu)=kR:=sO.out.symm;obtain⟨aS,afz,afA⟩:=Q8 fQ _ _ _ _ _ Gu.out;rw[zn.out] at aS;obtain⟨yk,tP,p8⟩:=aS;have k6:bT (lo+et)=lo+et:=b4 _ (by omega);have qd:bT (hi+eu)=hi+eu:=b4 _ (by omega);have dF:J (([⟨ao,ak,x,y⟩,⟨x,ak,ar,y⟩,⟨ao,y,x,aq⟩,⟨x,y,ar,aq⟩].drop (j+1)).foldl (o' fQ g) (some (lo+et,hi+eu),m6)=r):=(by show _=_;rw[←dA.out,afw.out,WH Gu.out]);have asG:=U ((qy.out.new (c:=oQ) (i:=0) (by have:=D1.out;omega) (I (lo+et))).new (c:=oQ) (i:=1) (by have:=D1.out;omega) (I (hi+eu)));have asH:J (((xo.setCell (ag oQ 0) (I (lo+et))).setCell (ag oQ 1) (I (hi+eu))).heap[oQ]?=some (gF (lo+et) (hi+eu))):=me [I (lo+et),I (hi+eu)] D2.out rfl;go_wp2_with fail;go_round<;>first|exact⟨j+1,lo+et,hi+eu,m6,_,rfl,by omega,by go_num,by omega,by omega,by rw[show ((j+1:Nat):Int) *P=(j:Int) *P+P by push_cast;grind];omega,by omega,by omega,dF.out,asG.out,asH.out⟩|(simp[intOf]<;>omega)
    ·
      obtain rfl:j=4:=(by omega);have dF:J (r=(some (lo,hi),m1)):=dA.out.symm;obtain⟨s0,s1⟩:=pa afv.out;obtain⟨u0,u1⟩:=pa cq.out.res;have fu:=cP cq.out.res;go_wp2_with fail;rw[dF.out];exact Jk rfl cq.out lo hi 0 rfl rfl rfl rfl rfl
end dE
