/- Lemmas. -/
import Derived.Test.YtfldplmgkeiimaaGreatDoorQ22
set_option linter.all false
set_option maxRecDepth 100000
set_option maxHeartbeats 6400000
namespace Go.Proofs.YtfldplmgkeiimaaGreatDoor
abbrev Bm:=@IntWalk.wrap64_in
abbrev wM:=@Nat.ne_of_lt
abbrev LN:=@Proofs.Tryz.underlying349
abbrev FG:=@World.ownsRow_nil
namespace c4
open Go.RowKit dH
open _root_.Go.Proofs.YtfldplmgkeiimaaGreatDoor.Fr (Nl pW B0)
open FF (pc eO ac7 nS UU US)
open ny
variable{n:Int}
theorem adb(h:0≤n∧n≤8):B0 n 1=true:=by rcases (show n=0∨n=1∨n=2∨n=3∨n=4∨n=5∨n=6∨n=7∨n=8 by omega) with rfl|rfl|rfl|rfl|rfl|rfl|rfl|rfl|rfl<;>decide
theorem ao9(h:0≤n∧n≤8):pW n 1=(n,1,0):=by rcases (show n=0∨n=1∨n=2∨n=3∨n=4∨n=5∨n=6∨n=7∨n=8 by omega) with rfl|rfl|rfl|rfl|rfl|rfl|rfl|rfl|rfl<;>decide
structure Ik(w0:aeo)(n d m e:Int)(w:aeo):Prop where
 a:w.heap[w0.heap.size]?=some (eO n d)
 b:w.heap[w0.heap.size+1]?=some (eO m e)
 r:w.heap[w0.heap.size+2]?=some (eO 0 0)
 aZ:ao w0 w0 w
variable{w x y:aeo}
theorem Ik.below{w0 w':aeo}{d m e:Int}(h:Ik w0 n d m e w)(ay:ao w w w'):Ik w0 n d m e w':=
 ⟨(ay.block _ (Array.getElem?_eq_some_iff.1 h.a).1).trans h.a,(ay.block _ (Array.getElem?_eq_some_iff.1 h.b).1).trans h.b,(ay.block _ (Array.getElem?_eq_some_iff.1 h.r).1).trans h.r,h.aZ.trans (ay.mono h.aZ.size)⟩
theorem apa(w:aeo)(n d m e:Int):Ik w n d m e (((w.alloc (eO n d)).alloc (eO m e)).alloc (eO 0 0)):=by
 refine⟨?_,?_,?_,?_⟩
 ·rw[xq _ _ _ (by simp;omega),xq _ _ _ (by simp)];show (w.heap.push _)[w.heap.size]?=_;simp
 ·rw[xq _ _ _ (by simp)];show ((w.alloc (eO n d)).heap.push _)[_]?=_;rw[Array.getElem?_push,a8 (by simp)]
 ·show (((w.alloc (eO n d)).alloc (eO m e)).heap.push _)[_]?=_;rw[Array.getElem?_push,a8 (by simp)]
 ·exact (((Below.refl _ _).alloc (bx _) _).alloc (by simp) _).alloc (by simp;omega) _
theorem Ik.fin{w0:aeo}{d m e:Int}(h:Ik w0 n d m e w)(N D:Int):∀v,v=(w.setCell (aj (w0.heap.size+2) 0) (I N)).setCell (aj (w0.heap.size+2) 1) (I D)→
  v.heap[w0.heap.size+2]?=some (eO N D)∧ao w0 w0 v:=by
 rintro v rfl;exact⟨UU h.r N D,(h.aZ.setCell (by show _≤_+2;omega) _).setCell (by show _≤_+2;omega) _⟩
theorem apb(n:Int)(hn:0≤n∧n≤8)(w:aeo):
  Calls Tryz.prog 295 #[I 3,pc n 1,pc 0 1] w fun e w'=>e=ab (.tuple #[pc n 1,I 0])∧ao w w w':=by
 have J0:=aq (adb hn);have apc:=aq (adb (n:=0) (by decide));have bM:=aq (ao9 hn);have oV:=aq (apa w n 1 0 1);have av:wrap64 n=n:=Bm _ (by omega);go_enter Tryz.func295,Tryz.ntmps295;go_wp2_with fail;with_reducible refine (US n 1 true J0 _).mono ?_
 rintro jY bV ⟨rfl,er⟩;have H1:Hid _:=oV.out.below er;obtain⟨⟨cy,cE⟩,_⟩:=nS H1.out.b;clear er;go_wp2_with fail;with_reducible refine (US 0 1 true apc _).mono ?_
 rintro jY bY ⟨rfl,dA⟩;have c1:Hid _:=H1.out.below dA;clear cy cE dA;obtain⟨⟨a0,bE⟩,_⟩:=nS c1.out.a;obtain⟨⟨cy,cE⟩,_⟩:=nS c1.out.b;go_wp2_with fail;with_reducible refine (FF.PO n 1 (by omega) (by omega) (by omega) (by omega) _ bM _).mono ?_
 rintro jY dp ⟨rfl,eA⟩;have dM:Hid _:=c1.out.below eA;clear eA a0 bE cy cE;obtain⟨⟨aN,aL⟩,f0,f1⟩:=nS dM.out.r;have aP:Hid _:=dM.out.fin n 1 _ rfl;go_wp2_with fail;generalize (dp.setCell (aj (w.heap.size+2) 0) (I n)).setCell (aj (w.heap.size+2) 1) (I 1)=et at aP⊢;obtain⟨⟨gZ,fM⟩,_⟩:=nS aP.out.1;exact dC (v:=.tuple #[pc n 1,I 0]) (by simp[results,Tryz.results295,go_sem,gZ,fM]) rfl ⟨rfl,aP.out.2⟩
theorem Ii(n:Int)(hn:0≤n∧n≤8)(w:aeo):
  Calls Tryz.prog 336 #[pc n 1,I 1] w fun e w'=>e=ab (.tuple #[I (n *10000000),I 0])∧ao w w w':=by
 have bz:=aq (fun Z=>apb n hn Z);have av:wrap64 (n *10000000)=n *10000000:=Bm _ (by omega);have az:¬n *10000000< -536870912:=by omega
 have aF:¬536870912<n *10000000:=by omega
 have bf:=aq (cd w (eO n 1));obtain⟨⟨a0,bE⟩,_⟩:=nS bf.out;go_enter Tryz.func336,Tryz.ntmps336;go_wp2_with fail;with_reducible refine (bz.out _).mono ?_
 rintro e bY ⟨rfl,ay⟩;have cP:=aq ((a' w (eO n 1)).trans (ay.mono (a' w (eO n 1)).size));obtain⟨⟨aN,aL⟩,_⟩:=nS (aU bf.out ay);have dk:=aq (aU (aU bf.out ay) (a' bY (eO n 1)));obtain⟨⟨d0,d1⟩,_⟩:=nS dk.out;clear ay a0 bE;go_wp2_with fail;go_ret2;exact⟨rfl,cP.out.trans ((a' bY (eO n 1)).mono cP.out.size)⟩
abbrev C9:TypeId:=380
abbrev mf:TypeId:=351
def FH:List Int→List Value
 |[]=>[]
 |v::l=>I v::I 1::FH l
theorem UX:∀(l:List Int) (i:Nat) (v:Int),l[i]?=some v→(FH l)[i *2]?=some (I v)∧(FH l)[i *2+1]?=some (I 1)
 |[],i,v,h=>by simp at h
 |a::l,0,v,h=>by obtain rfl:a=v:=(by simpa using h);exact⟨rfl,rfl⟩
 |a::l,i+1,v,h=>by have:=UX l i v (by simpa using h);rw[show (i+1) *2=i *2+2 by omega];exact this
structure jZ(T V:Nat)(vs:List Int)(k:Nat)(w:aeo):Prop where
 t:an w T (#[ad (some (aj V 0)) vs.length vs.length,I (k:Int),I 1,I 0]) C9
 v:an w V ((FH vs).toArray) mf
 hn:∀v∈vs,0≤v∧v≤8
abbrev zM(T V:Nat)(vs:List Int)(k:Nat)(w w':aeo):Prop:=jZ T V vs k w'∧aQ (fun b=>b≠T) w w'
variable{T V k:Nat}{vs:List Int}
theorem jZ.below(h:jZ T V vs k x)(ay:ao x x y):jZ T V vs k y:=⟨aU h.t ay,aU h.v ay,h.hn⟩
theorem jZ.self(h:jZ T V vs k x)(ay:ao x x y):zM T V vs k x y:=⟨h.below ay,.dI ay⟩
theorem jZ.keep{S:afp}(h:jZ T V vs k x)(ax:aQ S x y)(eS:S T)(lg:S V):jZ T V vs k y:=⟨ax.get eS h.t,ax.get lg h.v,h.hn⟩
theorem aQ.new{S R:afp}(h:aQ S w x)(g:aQ R x y)(hR:∀k,k<w.heap.size→R k):aQ S w y:=⟨g.os.trans h.os,g.tape.trans h.tape,g.output.trans h.output,dB h.size g.size,fun k ax aA=>(g.block k (hR k aA) (jN aA h.size)).trans (h.block k ax aA)⟩
theorem jZ.put(h:jZ T V vs k x)(j:Nat):zM T V vs j x (x.setCell (aj T 1) (I (j:Int))):=
 ⟨⟨dL (k:=T) (i:=1) _ h.t,(tb (by show V≠T;exact lL h.v h.t (by decide))).trans h.v,h.hn⟩,.ne _⟩
theorem jZ.at(h:jZ T V vs k x){v:Int}(aS:vs[k]?=some v):(ak x V (k *2) (I v)∧ak x V (k *2+1) (I 1))∧(0≤v∧v≤8)∧(k:Int)<vs.length:=by obtain⟨av,az⟩:=UX vs k v aS;exact⟨⟨cell_of h.v (by simpa using av),cell_of h.v (by simpa using az)⟩,h.hn v (GD aS),by have:=(List.getElem?_eq_some_iff.1 aS).1;omega⟩
theorem Il{a b c d:ada}(h:an w T (#[a,b,c,d]) C9):(ak w T 0 a∧ak w T 1 b∧ak w T 2 c∧ak w T 3 d)∧∀i,w.frozen? ⟨T,i,none⟩=false:=by refine⟨⟨?_,?_,?_,?_⟩,fun i=>cR h i⟩<;>simp[World.cell?,h]
theorem mT(T V:Nat)(vs:List Int)(k:Nat)(v:Int)(w:aeo)(H:af (jZ T V vs k w))(aS:vs[k]?=some v)(aA:vs.length≤6):
  Calls Tryz.prog 296 #[ah T 0] w fun e w'=>e=ab (pc v 1)∧zM T V vs (k+1) w w':=by
 obtain⟨⟨v0,v1⟩,y8,oO⟩:=H.out.at aS;have iE:k<vs.length:=by omega
 have av:wrap64 ((k:Int)+1)=(k:Int)+1:=Bm _ (by omega);have b0:=aq aS;clear aS;obtain⟨⟨t0,t1,t2,t3⟩,FI⟩:=Il H.out.t;have lt:=lt_of_heap H.out.t;have gG:=lt_of_heap H.out.v;go_enter Tryz.func296,Tryz.ntmps296;go_upto_region 1 with fail;go_region;go_wp2_with fail;have b7:=(H.out.put (k+1)).1.below (nI _ (eO v 1) (eO v 1));have dn:=(H.out.put (k+1)).2.trans (.dI (nI _ (eO v 1) (eO v 1)));have hs:(w.setCell (aj T 1) (I ((k:Int)+1))).heap.size=w.heap.size:=Ss _ _ _;have hr:=(show _=_ from aU (cd (w.setCell (aj T 1) (I ((k:Int)+1))) (eO v 1)) (a' _ (eO v 1)));rw[hs] at hr;exact dC (pD rfl _ _ w.heap.size _ _ _ _ rfl hr Tryz.underlying351 rfl (by kernel_rfl)) rfl ⟨rfl,b7.below (jQ (Below.refl _ _) 1),dn.trans (.dI (jQ (Below.refl _ _) 1))⟩
theorem apd(T V:Nat)(vs:List Int)(k:Nat)(w:aeo)(H:af (jZ T V vs k w)):
  Calls Tryz.prog 297 #[ah T 0,I 0] w fun e w'=>(∃v,e=ab v)∧zM T V vs k w w':=by
 obtain⟨⟨t0,t1,t2,t3⟩,FI⟩:=Il H.out.t;have b7:af (zM T V vs k w (w.setCell (aj T 3) (I 0))):=⟨⟨dL (k:=T) (i:=3) _ H.out.t,(tb (by show V≠T;exact lL H.out.v H.out.t (by decide))).trans H.out.v,H.out.hn⟩,.ne _⟩;go_enter Tryz.func297,Tryz.ntmps297;go_wp2_with fail;go_end0;exact⟨⟨_,rfl⟩,b7.out⟩
theorem UY(T V:Nat)(vs:List Int)(k:Nat)(v:Int)(w:aeo)(H:af (jZ T V vs k w))(aS:af (vs[k]?=some v))(aA:vs.length≤6):
  Calls Tryz.prog 332 #[ah T 0] w fun e w'=>e=ab (I (v *10000000))∧zM T V vs (k+1) w w':=by
 have ay:=(H.out.at aS.out).2.1;have bz:=aq (fun (Z:aeo) (h:jZ T V vs k Z)=>mT T V vs k v Z (aq h) aS.out aA);have aX:=aq (fun Z=>Ii v ay Z);have aP:=aq (fun (Z:aeo) (h:jZ T V vs (k+1) Z)=>apd T V vs (k+1) Z (aq h));obtain⟨⟨t0,t1,t2,t3⟩,FI⟩:=Il H.out.t;go_enter Tryz.func332,Tryz.ntmps332;go_upto_region 1 with fail
 go_region_with (first|(go_at_call 296;with_reducible refine (bz.out _ (by first|exact H.out|exact H.out.below ((Below.refl _ _).drew))).mono ?_;rintro e bY ⟨rfl,eS,hK⟩;obtain⟨⟨s0,s1,s2,ss⟩,ape⟩:=Il eS.t)|(go_at_call 336;with_reducible refine (aX.out _).mono ?_;rintro e dp ⟨rfl,eA⟩))
 all_goals
  have c9:=aq (eS.below eA);have dn:=aq (show aQ (fun b=>b≠T) w dp from aQ.trans (by first|exact hK|exact aQ.trans (.dI ((Below.refl _ _).drew)) hK) (.dI eA));clear t0 t1 t2 t3 FI s0 s1 s2 ss ape eS eA bz aX hK;go_wp2_with fail;with_reducible refine (aP.out _ (by first|exact c9.out|exact c9.out.below ((Below.refl _ _).drew))).mono ?_
  rintro e cA ⟨⟨v4,rfl⟩,bk,rb⟩;have kf:=aq (show aQ (fun b=>b≠T) w cA from dn.out.trans (by first|exact rb|exact aQ.trans (.dI ((Below.refl _ _).drew)) rb));clear rb;go_wp2_with fail;go_ret;exact⟨rfl,bk,kf.out⟩
theorem ade(T V:Nat)(vs:List Int)(k:Nat)(x y:Int)(w:aeo)(H:af (jZ T V vs k w))(hx:af (vs[k]?=some x))(hy:af (vs[k+1]?=some y))(aA:vs.length≤6):
  Calls Tryz.prog 320 #[ah T 0] w fun e w'=>e=ab (.agg #[I (x *10000000),I (y *10000000)])∧zM T V vs (k+1+1) w w':=by
 have c2:=aq (fun (Z:aeo) (h:jZ T V vs k Z)=>UY T V vs k x Z (aq h) hx aA);have cC:=aq (fun (Z:aeo) (h:jZ T V vs (k+1) Z)=>UY T V vs (k+1) y Z (aq h) hy aA);have cc:=aq (cd w (ai (#[I 0,I 0]) i7));have H1:=aq (H.out.self (a' w (ai (#[I 0,I 0]) i7)));have c9:af (w.heap.size≠T):=by have:=lt_of_heap H.out.t;show _≠_;omega
 go_enter Tryz.func320,Tryz.ntmps320;go_wp2_with fail;with_reducible refine (c2.out _ H1.out.1).mono ?_
 rintro e bY ⟨rfl,az,a7⟩;have c1:=aq (az);have jT:=aq (a7.get c9.out cc.out);have iQ:=aq (H1.out.2.trans a7);clear az a7 c2;go_wp2_with fail;with_reducible refine (cC.out _ c1.out).mono ?_
 rintro e dp ⟨rfl,aF,il⟩;have dM:=aq aF;have vj:=aq (il.get c9.out jT.out);have ly:=aq (iQ.out.trans il);have f0:=cR vj.out;have z0:=cell_of (i:=0) vj.out rfl;have z1:=cell_of (i:=1) vj.out rfl;have yp:=aq (lt_of_heap H.out.v);clear aF il;go_wp2_with fail;refine qi (P:=bodyPost _ _ _ _ _) [I (x *10000000),I (y *10000000)] vj.out rfl fun et g1 g2=>?_;exact dC (pD rfl _ _ w.heap.size _ _ _ _ rfl g1 Tryz.underlying71 rfl (by kernel_rfl)) rfl ⟨rfl,dM.out.keep g2 c9.out.symm (wM yp.out),ly.out.new g2 fun k ax=>wM ax⟩
theorem UZ(T V:Nat)(vs:List Int)(k:Nat)(v:Int)(w:aeo)(H:af (jZ T V vs k w))(aS:af (vs[k]?=some v))(aA:vs.length≤6):
  Calls Tryz.prog 319 #[ah T 0] w fun e w'=>e=ab (I (v *5000000))∧zM T V vs (k+1) w w':=by
 have ay:=(H.out.at aS.out).2.1;have bz:=aq (UY T V vs k v w H aS aA);have av:¬v *10000000<0:=by omega
 go_enter Tryz.func319,Tryz.ntmps319;go_wp2_with fail;with_reducible refine bz.out.mono ?_
 rintro e bY ⟨rfl,az⟩;have c9:=aq az;have aF:(v *10000000%2 !=0)=false:=by rw[bne_eq_false_iff_eq];omega
 clear az;go_wp2_with fail;go_ret;exact⟨pA (by omega),c9.out⟩
end c4
namespace c4
open Go.RowKit dH
open FF (pc eO nS)
theorem apf(x y a b:Int)(hx:0≤x∧x≤1000000000)(hy:0≤y∧y≤1000000000)(ha:0≤a∧a≤1000000000)(ay:0≤b∧b≤1000000000)(w:aeo):Calls Tryz.prog 321 #[.agg #[I x,I y],I a,I b] w (Bk w (j8 [xl (x,y) a b])):=by
 have a1:wrap64 (x-a)=x-a:=Bm _ (by omega);have a6:wrap64 (y-b)=y-b:=Bm _ (by omega);have ch:wrap64 (x+a)=x+a:=Bm _ (by omega);have gw:wrap64 (y+b)=y+b:=Bm _ (by omega);go_enter Tryz.func321,Tryz.ntmps321;go_wp2_with fail;obtain⟨av,az,aF,ay,_⟩:=zc (w:=w.alloc (ai (#[I x,I y]) i7)) rfl;rw[pz] at av az aF;refine dC (pD rfl _ _ (w.heap.size+1) _ _ _ _ rfl av tz rfl (by kernel_rfl)) rfl ⟨(a' w _).trans (ay.mono (by rw[pz];omega)),some ⟨w.heap.size+1+1+1,0,none⟩,1,rfl,⟨⟨show 1≤mo by decide,fun _=>⟨_,0,_,rfl,by omega,aF,?_⟩⟩,.nil _ _ _,bx _,bx _⟩⟩;intro i hi;obtain rfl:i=0:=by have:i<1:=hi;omega
 refine⟨some ⟨w.heap.size+1+1,0,none⟩,4,rfl,bx _,show 4≤mo by decide,fun _=>⟨_,0,_,rfl,by omega,az,?_⟩⟩;intro i hi;have hi:i<4:=hi;rcases (show i=0∨i=1∨i=2∨i=3 by omega) with rfl|rfl|rfl|rfl<;>exact⟨rfl,rfl⟩
theorem apg(T V:Nat)(vs:List Int)(k:Nat)(w:aeo)(H:af (jZ T V vs k w))(aA:vs.length≤6)(ax:k=vs.length∨k<vs.length∧af (vs[k]?=some 0)):
  Calls Tryz.prog 303 #[ah T 0] w fun e w'=>e=ab (rY h1)∧∃j,zM T V vs j w w':=by
 obtain⟨⟨t0,t1,t2,t3⟩,FI⟩:=Il H.out.t;have lt:=lt_of_heap H.out.t;have cc:=aq (cd w (ai (#[U false,U false,I 0,I 0,I 0]) 164));have H1:=aq (H.out.self (a' w (ai (#[U false,U false,I 0,I 0,I 0]) 164)));have c9:af (w.heap.size≠T):=by show _≠_;omega
 have yp:=aq (lt_of_heap H.out.v);rcases ax with ax|⟨ax,aS⟩
 ·have e:((k:Int)==(vs.length:Int))=true:=(by rw[ax];simp);go_enter Tryz.func303,Tryz.ntmps303;go_upto_region 1 with fail;go_region;go_wp2_with fail;exact dC (pD rfl _ _ w.heap.size _ _ _ _ rfl (cd w (ai (#[U false,U false,I 0,I 0,I 0]) 164)) Tryz.underlying164 rfl (by kernel_rfl)) rfl ⟨rfl,_,(H1.out.1.below (jQ (Below.refl _ _) 1)),H1.out.2.trans (.dI (jQ (Below.refl _ _) 1))⟩
 ·have e:((k:Int)==(vs.length:Int))=false:=beq_eq_false_iff_ne.2 (by omega);have bz:=aq (fun (Z:aeo) (h:jZ T V vs k Z)=>mT T V vs k 0 Z (aq h) aS.out aA);go_enter Tryz.func303,Tryz.ntmps303;go_upto_region 1 with fail;go_region;go_wp2_with fail;with_reducible refine (bz.out _ (by first|exact H1.out.1|exact H1.out.1.below ((Below.refl _ _).drew))).mono ?_
  rintro a6 bY ⟨rfl,az,a7⟩;have c1:=aq az;have jT:=aq (a7.get c9.out (by first|exact cc.out|exact aU cc.out ((Below.refl _ _).drew)));have iQ:=aq (show aQ (fun b=>b≠T) w bY from H1.out.2.trans (by first|exact a7|exact aQ.trans (.dI ((Below.refl _ _).drew)) a7));have lw:=lt_of_heap jT.out;have f0:=cR jT.out;have z0:=cell_of (i:=0) jT.out rfl;have z1:=cell_of (i:=1) jT.out rfl;have z2:=cell_of (i:=2) jT.out rfl;have z3:=cell_of (i:=3) jT.out rfl;have z4:=cell_of (i:=4) jT.out rfl;clear az a7 t0 t1 t2 t3 FI;go_wp2_with fail;refine qi (P:=fun X=>bodyPost _ _ _ _ _ (X.alloc (eO 0 1))) [U false,U false,I 0,I 0,I 0] jT.out rfl fun et g1 g2=>?_;have bm:=c1.out.keep g2 c9.out.symm (wM yp.out);exact dC (pD rfl _ _ w.heap.size _ _ _ _ rfl (aU g1 (a' _ _)) Tryz.underlying164 rfl (by kernel_rfl)) rfl ⟨rfl,_,bm.below (a' _ _),(iQ.out.new g2 fun k ax=>wM ax).trans (.dI (a' _ _))⟩
def PQ(T V:Nat)(vs:List Int)(k:Nat)(w:aeo)(b:cJ)(e:Ending)(w':aeo):Prop:=zM T V vs k w w'∧∃(pl:Ja) (cl:Nat),e=ab (.tuple #[iD b (ad pl b.l.length cl) dr,U true])∧dv (fun k=>w.heap.size≤k) w' pl cl none 0 ⟨b,.nil⟩
theorem aph(T V:Nat)(d x y:Int)(w:aeo)(H:af (jZ T V [1,d,x,y] 1 w))(hd:0<d):
  Calls Tryz.prog 298 #[ah T 0] w (PQ T V [1,d,x,y] 4 w (k4 (x *10000000,y *10000000) (d *5000000))):=by
 have H1:=aq (H.out.self (a' w qH));have cc:=aq (cd w qH);have c9:af (w.heap.size≠T):=by have:=lt_of_heap H.out.t;show _≠_;omega
 have yp:=aq (lt_of_heap H.out.v);have As:0<d *5000000:=by omega
 go_enter Tryz.func298,Tryz.ntmps298;go_wp2_with fail;with_reducible refine (UZ T V _ 1 d _ (aq H1.out.1) (aq rfl) (by simp)).mono ?_
 rintro a6 bY ⟨rfl,az,a7⟩;have c1:=aq az;have jT:=aq (a7.get c9.out cc.out);have iQ:=aq (H1.out.2.trans a7);clear az a7;go_wp2_with fail;with_reducible refine (ade T V _ 2 x y _ c1 (aq rfl) (aq rfl) (by simp)).mono ?_
 rintro ch dp ⟨rfl,aF,il⟩;have dM:=aq aF;have vj:=aq (il.get c9.out jT.out);have ly:=aq (iQ.out.trans il);obtain⟨z0,z1,z2,z3,z4,z5,hZ,hO,ib,z9⟩:=dZ vj.out;have f0:=cR vj.out;clear aF il;go_wp2_with fail;refine qi (P:=bodyPost _ _ _ _ _) (ke (k4 (x *10000000,y *10000000) (d *5000000)) dr dr) vj.out rfl fun et g1 g2=>?_;exact dC (l6 rfl _ _ w.heap.size _ _ _ _ rfl g1 tz rfl (by kernel_rfl)) rfl ⟨⟨dM.out.keep g2 c9.out.symm (wM yp.out),ly.out.new g2 fun k ax=>wM ax⟩,none,0,rfl,.bare _ _ _ _ _ _ _ rfl⟩
theorem api(T V:Nat)(a b x y:Int)(w:aeo)(H:af (jZ T V [1,a,b,x,y,0] 1 w))(ha:0<a)(ay:0<b):
  Calls Tryz.prog 300 #[ah T 0] w (PQ T V [1,a,b,x,y,0] 5 w (j8 [xl (x *10000000,y *10000000) (a *5000000) (b *5000000)])):=by
 have H1:=aq (H.out.self (a' w qH));have cc:=aq (cd w qH);have c9:af (w.heap.size≠T):=by have:=lt_of_heap H.out.t;show _≠_;omega
 have yp:=aq (lt_of_heap H.out.v);have e8:0<a *5000000:=by omega
 have dN:0<b *5000000:=by omega
 have bf:=aq H.out.hn;go_enter Tryz.func300,Tryz.ntmps300;go_wp2_with fail;with_reducible refine (UZ T V _ 1 a _ (aq H1.out.1) (aq rfl) (by simp)).mono ?_
 rintro a6 bY ⟨rfl,az,a7⟩;have c1:=aq az;have jT:=aq (a7.get c9.out cc.out);have iQ:=aq (H1.out.2.trans a7);clear az a7;go_wp2_with fail;with_reducible refine (UZ T V _ 2 b _ c1 (aq rfl) (by simp)).mono ?_
 rintro ch dp ⟨rfl,aF,il⟩;have dM:=aq aF;have vj:=aq (il.get c9.out jT.out);have ly:=aq (iQ.out.trans il);clear aF il;go_wp2_with fail;with_reducible refine (ade T V _ 3 x y _ dM (aq rfl) (aq rfl) (by simp)).mono ?_
 rintro gw cA ⟨rfl,bk,rb⟩;have iY:=aq bk;have adf:=aq (rb.get c9.out vj.out);have kf:=aq (ly.out.trans rb);clear bk rb;go_wp2_with fail;have hx:=bf.out x (by simp);have hy:=bf.out y (by simp);have hA:=bf.out a (by simp);have bL:=bf.out b (by simp);with_reducible refine (apf _ _ _ _ (by omega) (by omega) (by omega) (by omega) _).mono ?_
 rintro na bt ⟨dS,pl,cl,rfl,hs⟩;clear hx hy hA bL;have qg:=aq (iY.out.self dS);have LO:=aq (aU adf.out dS);have H0:=aq (kf.out.trans (.dI dS));have nj:=aq hs;have tQ:=aq (lt_of_heap adf.out);obtain⟨z0,z1,z2,z3,z4,z5,hZ,hO,ib,z9⟩:=dZ LO.out;have f0:=cR LO.out;clear dS hs;go_wp2_with fail;refine qi (P:=bodyPost _ _ _ _ _) (ke (j8 [xl (x *10000000,y *10000000) (a *5000000) (b *5000000)]) (ad pl (j8 [xl (x *10000000,y *10000000) (a *5000000) (b *5000000)]).l.length cl) dr) LO.out rfl fun et g1 g2=>?_;exact dC (l6 rfl _ _ w.heap.size _ _ _ _ rfl g1 tz rfl (by kernel_rfl)) rfl ⟨⟨qg.out.1.keep g2 c9.out.symm (wM yp.out),H0.out.new g2 fun k ax=>wM ax⟩,pl,cl,rfl,(nj.out.keep (g2.mono fun k _ ax=>by have:=tQ.out;omega)).mono fun k _ ax=>by have:=tQ.out;omega⟩
theorem apj:eY h1.eL.1∧eY h1.eL.2:=⟨⟨by decide,by decide⟩,by decide,by decide⟩
theorem apk{S:afp}{b:cJ}(bl:po h1 ⟨b,.nil⟩=some ⟨b,.nil⟩){pl:Ja}{cl:Nat}{w:aeo}(hs:dv S w pl cl none 0 ⟨b,.nil⟩):Calls Tryz.prog 190 #[iD b (ad pl b.l.length cl) dr,rY h1] w fun e w'=>Below w.heap.size w w'∧∃(ql:Ja) (dl:Nat) (qp:Ja) (cK:Nat),e=ab (.tuple #[iD b (ad ql b.l.length dl) (ad qp 0 cK),U true])∧dv (fun k=>w.heap.size≤k) w' ql dl qp cK ⟨b,.nil⟩:=by have h:=acf S b .nil pl cl none 0 w h1 (aq apj) (aq hs);rw[bl] at h;exact h
def Prim(n:Int)(vs:List Int)(b:cJ):Prop:=(n=1∧∃d x y,vs=[1,d,x,y]∧0<d∧b=k4 (x *10000000,y *10000000) (d *5000000))∨(n=21∧∃d h x y,vs=[1,d,h,x,y,0]∧0<d∧0<h∧b=j8 [xl (x *10000000,y *10000000) (d *5000000) (h *5000000)])
abbrev adg(T:Nat)(w:aeo)(b:cJ)(e:Ending)(w':aeo):Prop:=(∃G,e=ab (ag G 0 1 1)∧hM (fun k=>w.heap.size≤k) w' (some (aj G 0)) (.cons true b .nil .nil))∧(∃V n at_,an w' T (#[ad (some (aj V 0)) n n,I at_,I 1,I 0]) C9)∧aQ (fun b=>b≠T) w w'
theorem apl(T V:Nat)(n:Int)(vs:List Int)(b:cJ)(w:aeo)(H:af (jZ T V vs 0 w))(hp:Prim n vs b)(bl:af (po h1 ⟨b,.nil⟩=some ⟨b,.nil⟩)):
  Calls Tryz.prog 259 #[ah T 0,I n] w (adg T w b):=by
 have cc:af ((n=1→∀Z,jZ T V vs 1 Z→Calls Tryz.prog 298 #[ah T 0] Z (PQ T V vs 4 Z b))∧(n=21→∀Z,jZ T V vs 1 Z→Calls Tryz.prog 300 #[ah T 0] Z (PQ T V vs 5 Z b))):=by
  refine⟨fun hn Z eG=>?_,fun hn Z eG=>?_⟩<;>rcases hp with ⟨aT,d,x,y,rfl,av,rfl⟩|⟨aT,d,h,x,y,rfl,av,az,rfl⟩
  ·exact aph T V d x y Z (aq eG) av
  ·exact absurd (hn.symm.trans aT) (by decide)
  ·exact absurd (hn.symm.trans aT) (by decide)
  ·exact api T V d h x y Z (aq eG) av az
 have dn:af (∀k,(n=1→k=4)→(n=21→k=5)→k=vs.length∨k<vs.length∧af (vs[k]?=some 0)):=by
  intro k bk b9;rcases hp with ⟨rfl,d,x,y,rfl,av,rfl⟩|⟨rfl,d,h,x,y,rfl,av,az,rfl⟩
  ·rw[bk rfl];exact .inl rfl
  ·rw[b9 rfl];exact .inr ⟨by simp,aq rfl⟩
 have b0:af (vs.length≤6∧vs[0]?=some 1):=by rcases hp with ⟨rfl,d,x,y,rfl,av,rfl⟩|⟨rfl,d,h,x,y,rfl,av,az,rfl⟩<;>exact⟨by simp,rfl⟩
 have hn:n=1∨n=21:=by rcases hp with h|h;exact .inl h.1;exact .inr h.1
 have U0:=aq (lt_of_heap H.out.t);clear hp;rcases hn with rfl|rfl
 all_goals
  first|have bz:=aq (cc.out.1 rfl)|have bz:=aq (cc.out.2 rfl)
  first|have pL:=aq (dn.out 4 (fun _=>rfl) (fun h=>absurd h (by decide)))|have pL:=aq (dn.out 5 (fun h=>absurd h (by decide)) (fun _=>rfl))
  clear cc dn;go_enter Tryz.func259,Tryz.ntmps259;go_wp2_with fail;with_reducible refine (mT T V vs 0 1 _ H b0.out.2 b0.out.1).mono ?_
  rintro a1 bV ⟨rfl,av,bU⟩;have H1:=aq av;have kx:=aq bU;clear av bU;go_wp2_with fail;have c1:=aq (H1.out.self (nI bV (eO 1 1) qH));have mz:=aq (uJ bV (eO 1 1) qH);have sD:af (T<bV.heap.size):=lt_of_heap H1.out.t;with_reducible refine (bz.out ((bV.alloc (eO 1 1)).alloc qH) c1.out.1).mono ?_
  rintro ch dp ⟨⟨aF,il⟩,pl,cl,rfl,AW⟩;have dM:=aq aF;have ly:=aq (kx.out.trans (c1.out.2.trans il));have vg:=aq (il.get (by have:=sD.out;omega) mz.out);have kC:af (bV.heap.size+2≤dp.heap.size):=(by have:=il.size;have:=lt_of_heap mz.out;have:=lt_of_heap (il.get (by have:=sD.out;show bV.heap.size+1≠T;omega) mz.out);show _≤_;omega);have adh:=aq AW;obtain⟨z0,z1,z2,z3,z4,z5,hZ,hO,ib,z9⟩:=dZ vg.out;have f0:=cR vg.out;clear aF il AW bz c1 mz;go_upto_region 20 with fail;refine qi (P:=Code.wp _ _ _ _) (ke b (ad pl b.l.length cl) dr) vg.out rfl fun dG g1 g2=>?_;have rr:af (an dG (bV.heap.size+1) (q6 b (ad pl b.l.length cl) dr) dz):=g1;have iY:=aq (dM.out.keep g2 (by have:=sD.out;omega) (by have:=lt_of_heap H1.out.v;omega));have kf:=aq (ly.out.new g2 fun k ax=>by have:=kx.out.size;omega);have apm:af (dv (fun k=>bV.heap.size+2≤k) dG pl cl none 0 ⟨b,.nil⟩):=((adh.out.mono fun k _ ax=>by have:=pz bV (eO 1 1);have:=pz (bV.alloc (eO 1 1)) qH;omega).keep (g2.mono fun k _ (ax:bV.heap.size+2≤k)=>by omega));clear g1 g2 z0 z1 z2 z3 z4 z5 hZ hO ib z9 f0 dM ly vg adh;go_wp2_with fail;with_reducible refine (apg T V vs _ _ iY b0.out.1 pL.out).mono ?_
  rintro na bt ⟨rfl,j,b9,ri⟩;have qg:=aq b9;have nj:=aq (ri.get (by have:=sD.out;omega) rr.out);have H0:=aq (kf.out.trans ri);have apn:af (bV.heap.size+2≤bt.heap.size):=(by have:=lt_of_heap nj.out;show _≤_;omega);have apo:=aq (apm.out.keep (ri.mono fun k _ ax=>by have:=sD.out;omega));obtain⟨z0,z1,z2,z3,z4,z5,hZ,hO,ib,z9⟩:=dZ nj.out;have f0:=cR nj.out;obtain⟨⟨t0,t1,t2,t3⟩,FI⟩:=Il qg.out.t;have lt:=lt_of_heap qg.out.t;have ls:=lt_of_heap nj.out;clear b9 ri pL;go_wp2_with fail;have dX:=aq (a' bt (Zs h1));with_reducible refine (apk bl.out (apo.out.below dX.out)).mono ?_
  rintro js cZ ⟨ev,ql,dl,qp,cK,rfl,x3⟩;have yq:=aq (aU (aU nj.out dX.out) ev);have zN:=aq ((qg.out.self dX.out).1.self ev);have yi:=aq ((H0.out.trans (qg.out.self dX.out).2).trans zN.out.2);have adi:af (bV.heap.size+2≤(bt.alloc (Zs h1)).heap.size):=dB apn.out dX.out.size;have apq:=aq x3;clear z0 z1 z2 z3 z4 z5 hZ hO ib z9 f0 t0 t1 t2 t3 FI lt ls ev x3;obtain⟨z0,z1,z2,z3,z4,z5,hZ,hO,ib,z9⟩:=dZ yq.out;have f0:=cR yq.out;go_upto_region 24 with fail;refine qi (P:=Code.wp _ _ _ _) (ke b (ad ql b.l.length dl) (ad qp 0 cK)) yq.out rfl fun dc g1 g2=>?_;have tO:=aq (g2.get (by have:=sD.out;omega) zN.out.1.t);have PR:=aq (yi.out.new g2 fun k ax=>by have:=kx.out.size;omega);have apr:af (dv (fun k=>w.heap.size≤k) dc ql dl qp cK ⟨b,.nil⟩):=((apq.out.keep (g2.mono fun k _ ax=>by have:=adi.out;omega)).mono fun k _ ax=>by have:=kx.out.size;have:=adi.out;omega);clear z0 z1 z2 z3 z4 z5 hZ hO ib z9 f0;obtain⟨z0,z1,z2,z3,z4,z5,hZ,hO,ib,z9⟩:=dZ g1;have aX:af (w.heap.size≤dc.heap.size):=PR.out.size;clear g1 g2;go_wp2_with fail;go_ret;exact⟨⟨_,rfl,show 1≤mo by decide,fun _=>⟨dc.heap.size,0,_,rfl,aX.out,cd dc (ai (#[U true,I b.k,I b.a.1,I b.a.2,I b.b.1,I b.b.2,I b.c.1,I b.c.2,I b.r,ad ql b.l.length dl,ad qp 0 cK]) eQ),ds.mk rfl (apr.out.below (a' _ _)) trivial⟩⟩,⟨_,_,_,aU tO.out (a' _ _)⟩,PR.out.trans (.dI (a' _ _))⟩
end c4
namespace c4
open Go.RowKit dH
open _root_.Go.Proofs.YtfldplmgkeiimaaGreatDoor.Fr (pW)
open FF (pc eO nS)
theorem PS:(Tryz.prog.info? 351).map (fun i=>(i.zero,i.size,i.bytes))=some (some (.agg #[I 0,I 0]),2,16):=by kernel_rfl
theorem adj{n:Int}(h:0≤n∧n≤8):pW (n *1000000) 1000000=(n,1,0):=by rcases (show n=0∨n=1∨n=2∨n=3∨n=4∨n=5∨n=6∨n=7∨n=8 by omega) with rfl|rfl|rfl|rfl|rfl|rfl|rfl|rfl|rfl<;>decide
abbrev pX(v:Int):Value:=.agg #[I 1,I (v *1000000)]
theorem aps(v:Int)(h:0≤v∧v≤8)(w:aeo):Calls Tryz.prog 292 #[pX v] w fun e w'=>e=ab (U true)∧ao w w w':=by
 have av:¬v *1000000<0:=by omega
 have az:-1000000000000<v *1000000:=by omega
 have aF:v *1000000<1000000000000:=by omega
 go_enter Tryz.func292,Tryz.ntmps292;go_wp2;go_ret;exact⟨rfl,a' _ _⟩
theorem adk(w:aeo):Calls Tryz.prog 293 #[I 1] w fun e w'=>e=ab (I 0)∧w'=w:=by go_enter Tryz.func293,Tryz.ntmps293;go_wp2_with fail;go_ret;exact⟨rfl,rfl⟩
def U1(w0:aeo)(v:Int)(s i:ada)(W:aeo):Prop:=Below w0.heap.size w0 W∧W.heap[w0.heap.size]?=some (eO 0 0)∧((i=I 0∧s=J 0)∨(i=I 1∧∃G c,s=ad (some (aj G 0)) 1 c∧ak W G 0 (I v)∧ak W G 1 (I 1)))
theorem apt(b o c:Nat)(v:Int)(aS:0≤v∧v≤8)(q:ada)(w:aeo)(aT:ak w b o (I 1))(av:ak w b (o+1) (I (v *1000000))):
  Calls Tryz.prog 258 #[ag b o 1 c,q] w fun e w'=>e=ab (.tuple #[pc v 1,I 0])∧ao w w w':=by
 have b0:=aq aS;have b7:af (U1 w v (J 0) (I 0) (w.alloc (eO 0 0))):=⟨a' _ _,cd _ _,.inl ⟨rfl,rfl⟩⟩;have oV:=aq aT;have H1:=aq av;clear aT av aS;go_enter Tryz.func258,Tryz.ntmps258;go_wp2_with fail
 go_loopw [6,14] (fun s i wr=>∃W,W=wr∧af (U1 w v s i W)) (fun _ i _=>1 -(intOf i).toNat)
 case atStart=>exact⟨_,rfl,b7.out⟩
 case round=>
 obtain⟨W,rfl,hS⟩:=hrel;obtain⟨ay,hr,⟨rfl,rfl⟩|⟨rfl,G,aI,rfl,g0,g1⟩⟩:=hS.out
 ·have aO:=aq ay;have bq:=aq hr;have aN:=bP ay oV.out;have aL:=bP ay H1.out;have b5:=aq (cd W (ai (#[I 1,I (v *1000000)]) 413));have c6:=aq (a' W (ai (#[I 1,I (v *1000000)]) 413));have sB:=aq (adj b0.out);have PT:af (-9223372036854775808≤v *1000000∧v *1000000≤9223372036854775807):=(by have:=b0.out;exact⟨by omega,by omega⟩);clear ay hr hS b7;go_wp2_with fail;with_reducible refine (aps v b0.out _).mono ?_
  rintro a1 bV ⟨rfl,er⟩;have jb:=aq (aU b5.out er);have cP:=aq (c6.out.trans (er.mono c6.out.size));have d0:=cell_of (i:=0) jb.out rfl;have d1:=cell_of (i:=1) jb.out rfl;have lw:=lt_of_heap jb.out;clear aN aL er;go_wp2_with fail;with_reducible refine (adk _).mono ?_
  rintro a6 bY ⟨rfl,rfl⟩;go_wp2_with fail;with_reducible refine (FF.PO _ _ PT.out.1 PT.out.2 (by decide) (by decide) _ sB _).mono ?_
  rintro ch dp ⟨rfl,eA⟩;have kP:=aq (aU (cd bY (eO 0 0)) eA);have wB:=aq (aU (aU jb.out (a' bY (eO 0 0))) eA);have dk:=aq ((cP.out.trans ((a' bY (eO 0 0)).mono cP.out.size)).trans (eA.mono (dB cP.out.size (a' bY (eO 0 0)).size)));have U2:af (W.heap.size<bY.heap.size):=lw;have d0:=cell_of (i:=0) wB.out rfl;have d1:=cell_of (i:=1) wB.out rfl;obtain⟨⟨gZ,fM⟩,f0,f1⟩:=nS kP.out;clear eA lw;go_upto_region 24 with fail;refine qi (P:=Code.wp _ _ _ _) [I v,I 1] kP.out rfl fun dG g1 g2=>?_;have Hg:af (dG.heap[bY.heap.size]?=some (eO v 1)):=g1;have Bn:=aq (g2.get (by have:=U2.out;omega) wB.out);have e4:=aq (g2.aZ dk.out (tn U2.out) dk.out.size);clear g1 g2 gZ fM f0 f1 d0 d1 kP wB;have d0:=cell_of (i:=0) Bn.out rfl;obtain⟨⟨gZ,fM⟩,f0,f1⟩:=nS Hg.out;obtain⟨i0,hi,dE,dP,dq⟩:=info_parts PS;have bZ:=aq (And.intro hi (And.intro dE (And.intro dP dq)));clear hi dE dP dq;have fJ:ae (0:Int)=0:=(by decide);have LP:=lt_of_heap Hg.out;have Im:=lt_of_heap Bn.out;have lw:=U2.out
  go_region_law (first|(refine Cr _ (by rfl) _ _ _ (by rfl) W.heap.size mf i0 (.agg #[I 0,I 0]) 2 16 LN bZ.out.1 bZ.out.2.1 bZ.out.2.2.1 bZ.out.2.2.2 rfl (by omega) (J 0) 0 _ (by rfl) (FG _ _ _ _) (aj dG.heap.size 0) 1 1 [I v,I 1] (by rfl) (by rfl) (kc (cs:= #[I v,I 1]) (t:=mf) (fr:=(0,0)) (ga dG _)) (by simp[Value.oneCell']) (by omega) (by unfold maxLen;omega) (by omega) (by simp;omega) (dG.heap.size+1) (by simp) ?_;intro dh hg bt cI dO eJ hV)|(rw[a8 (by rfl)];go_simp;go_at_call 293;with_reducible refine (adk _).mono ?_;rintro js cZ ⟨rfl,rfl⟩)|fail)
  all_goals
   have ri:aQ (fun _=>True) dG bt:=(aQ.dI (by first|exact a' _ _|exact (a' _ _).drew|exact (Below.refl _ _).drew.alloc (bx _) _|exact ((Below.refl _ _).drew.alloc (bx _) _).drew)).trans (aQ.grown dO (fun k e=>by simp[Value.ownBlock] at e));have UL:=(aO.out.trans (e4.out.mono aO.out.size)).trans (ri.below _ (dB aO.out.size e4.out.size) fun _ _=>trivial);have nj:af (U1 w v (ag dh 0 1 hg) (I 1) bt):=⟨UL,ri.get trivial ((e4.out.block _ (lt_of_heap bq.out)).trans bq.out),.inr ⟨rfl,dh,hg,rfl,cI.cellAt 0 (by decide),cI.cellAt 1 (by decide)⟩⟩;clear cI dO eJ hV ri UL d0 gZ fM f0 f1 LP Im lw fJ;go_wp2_with fail;go_round<;>first|exact⟨_,rfl,nj.out⟩|(simp[intOf]<;>omega)
 ·have aO:=aq ay;have bq:=aq hr;obtain⟨⟨gZ,fM⟩,f0,f1⟩:=nS hr;clear ay hr hS b7;go_wp2_with fail;refine qi (P:=bodyPost _ _ _ _ _) [I v,I 1] bq.out rfl fun dG g3 g4=>?_;exact dC (l6 rfl _ _ w.heap.size _ _ _ _ rfl g3 Tryz.underlying351 rfl (by kernel_rfl)) rfl ⟨rfl,g4.aZ aO.out (bx _) aO.out.size⟩
end c4
namespace gT
open Go.RowKit ny j6 px Mem p1 bS
def tR(l:List C):List (Nat×C):=l.map fun c=>(0,c)
def U3(res:Except Nat (List C))(w:aeo)(e:Ending)(w':aeo):Prop:=Below w.heap.size w w'∧match res with
 |.ok l=>∃v,e=ab (.tuple #[v,I 0])∧jJ w.heap.size w' v (tR l)
 |.error k=>e=ab (.tuple #[b3,I (k:Int)])
theorem apu(c:C)(hn:c.b6=[])(ay:c.blocks=[])(w:aeo):
  Calls Tryz.prog 93 #[kS c 0 b3 b3] w (U3 (.ok [c]) w):=by
 have bf:=aq hn;have aO:=aq ay;clear hn ay;unfold kS iX;have ez:af (jJ w.heap.size ((w.alloc (ai (#[I 0,I c.k,I c.n,I c.m,U c.on,aa ⟨c.t.toArray⟩,aa ⟨c.x.toArray⟩,aa ⟨c.y.toArray⟩,aa ⟨c.i.toArray⟩,aa ⟨c.j.toArray⟩,b3,b3]) 104)).alloc (ai (#[I 0,I c.k,I c.n,I c.m,U c.on,aa ⟨c.t.toArray⟩,aa ⟨c.x.toArray⟩,aa ⟨c.y.toArray⟩,aa ⟨c.i.toArray⟩,aa ⟨c.j.toArray⟩,b3,b3]) 104)) (ag (w.heap.size+1) 0 1 1) (tR [c])):=by have h:=ga (w.alloc (ai (#[I 0,I c.k,I c.n,I c.m,U c.on,aa ⟨c.t.toArray⟩,aa ⟨c.x.toArray⟩,aa ⟨c.y.toArray⟩,aa ⟨c.i.toArray⟩,aa ⟨c.j.toArray⟩,b3,b3]) 104)) (ai (#[I 0,I c.k,I c.n,I c.m,U c.on,aa ⟨c.t.toArray⟩,aa ⟨c.x.toArray⟩,aa ⟨c.y.toArray⟩,aa ⟨c.i.toArray⟩,aa ⟨c.j.toArray⟩,b3,b3]) 104);rw[show (w.alloc (ai (#[I 0,I c.k,I c.n,I c.m,U c.on,aa ⟨c.t.toArray⟩,aa ⟨c.x.toArray⟩,aa ⟨c.y.toArray⟩,aa ⟨c.i.toArray⟩,aa ⟨c.j.toArray⟩,b3,b3]) 104)).heap.size=w.heap.size+1 by simp] at h;refine⟨_,⟨rfl,.inr ⟨w.heap.size+1,1,_,rfl,nX _,h,bx _,by unfold maxLen;omega,rfl,?_⟩⟩,.cons (p:=none) (q:=none) (k:=0) (m:=0) (by rw[bf.out];exact eW.nil _ _ _) (by rw[aO.out];exact fG.nil _ _ _) .nil⟩;simp only[bf.out,aO.out];rfl
 have fa:af (ao w w ((w.alloc (ai (#[I 0,I c.k,I c.n,I c.m,U c.on,aa ⟨c.t.toArray⟩,aa ⟨c.x.toArray⟩,aa ⟨c.y.toArray⟩,aa ⟨c.i.toArray⟩,aa ⟨c.j.toArray⟩,b3,b3]) 104)).alloc (ai (#[I 0,I c.k,I c.n,I c.m,U c.on,aa ⟨c.t.toArray⟩,aa ⟨c.x.toArray⟩,aa ⟨c.y.toArray⟩,aa ⟨c.i.toArray⟩,aa ⟨c.j.toArray⟩,b3,b3]) 104))):=((Below.refl _ _).alloc (bx _) _).alloc (by simp) _;go_enter Tryz.func93,Tryz.ntmps93;go_wp2_with fail;go_ret2;exact⟨fa.out,_,rfl,ez.out⟩
theorem U4(k n m:Int)(on:Bool)(t x y i j:au)(w:aeo):
  Calls Tryz.prog 93 #[.agg #[I 0,I k,I n,I m,U on,aa ⟨t.toArray⟩,aa ⟨x.toArray⟩,aa ⟨y.toArray⟩,aa ⟨i.toArray⟩,aa ⟨j.toArray⟩,J 0,J 0]] w (U3 (.ok [⟨k,n,m,on,t,x,y,i,j,[],[]⟩]) w):=
 apu ⟨k,n,m,on,t,x,y,i,j,[],[]⟩ rfl rfl w
end gT
