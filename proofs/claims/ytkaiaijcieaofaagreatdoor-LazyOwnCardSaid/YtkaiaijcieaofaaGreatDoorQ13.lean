/- Lemmas. -/
import Derived.Test.YtkaiaijcieaofaaGreatDoorQ12
import Derived.Deep.CutBlock
set_option linter.all false
set_option maxRecDepth 100000
set_option maxHeartbeats 12800000
namespace Go.Proofs.YtkaiaijcieaofaaGreatDoor
abbrev TQ:=@List.size_toArray
namespace mI
open Go.RowKit gI ga jz qe
def aky(S:Ua)(w:aeo)(e:Ending)(w':aeo):Prop:=∃(X Y R:Ua) (b:Bool),e=ab (.tuple #[aa X,aa Y,aa R,U b])∧(X.size≤S.size∧Y.size≤S.size∧R.size≤S.size)∧an w w w'
theorem OW(S:Ua)(hs:S.size≤maxLen)(w:aeo):Calls Tryz.prog 134 #[aa S] w (aky S w):=by
 go_enter Tryz.func134,Tryz.ntmps134;go_wp2_with fail;with_reducible refine (aag _ hs _ _).mono ?_
 rintro e bk ⟨X,R,ok,rfl,b2,hR,cj⟩;go_wp2_with fail;with_reducible refine (aag _ (cd hR hs) _ _).mono ?_
 rintro e bt ⟨Y,fa,nR,rfl,e7,iZ,ck⟩;have ay:=cj.trans (ck.mono cj.size);go_wp2_with fail
 all_goals
  refine cL (ai8 rfl _ _ _) rfl ?_;first|exact⟨_,_,_,_,rfl,⟨b2,cd e7 hR,cd iZ hR⟩,ay⟩|exact⟨_,_,_,_,rfl,⟨cO _,cO _,cO _⟩,ay⟩
structure qW(n:Int)(x y u v:Ua)(l:List Int):Prop where
 n:0≤n∧n≤9999
 x:x.size≤1000000
 y:y.size≤1000000
 u:u.size≤1000000
 v:v.size≤1000000
 l:l.length≤1∧∀z∈l,-1000000000000<z∧z<1000000000000
theorem qW.nil{n:Int}{x y u v:Ua}(hn:0≤n∧n≤9999)(hx:x.size≤1000000)(hy:y.size≤1000000)(hu:u.size≤1000000)(aS:v.size≤1000000):qW n x y u v []:=⟨hn,hx,hy,hu,aS,by decide,fun z bP=>absurd bP (by simp)⟩
variable{S:Ua}
theorem E0(h:S.size≤1000000):S.size≤maxLen:=cd h (by unfold maxLen;decide)
def K2(w:aeo)(e:Ending)(w':aeo):Prop:=Below w.heap.size w w'∧∃(k n:Int) (on:Bool) (t x y u v:Ua) (l:List Int) (p:Ja) (c:Nat) (b:Bool),
 e=ab (.tuple #[.agg #[I 0,I k,I n,U on,aa t,aa x,aa y,aa u,aa v,ad p l.length c],U b])∧dd w.heap.size w' p l∧qW n x y u v l
abbrev zh(w:aeo)(b:Nat)(v0 v1 v2 v3 v4 v5 v6 bS b0 v9:ada):World:=
 (((((((((w.setCell (aj b 0) v0).setCell (aj b 1) v1).setCell (aj b 2) v2).setCell (aj b 3) v3).setCell (aj b 4) v4).setCell (aj b 5) v5).setCell (aj b 6) v6).setCell (aj b 7) bS).setCell (aj b 8) b0).setCell (aj b 9) v9
variable{w:aeo}
theorem aaj{gh:aeo}(bP:kt w gh)(v0 v1 v2 v3 v4 v5 v6 bS b0 v9:ada):
  (zh gh w.heap.size v0 v1 v2 v3 v4 v5 v6 bS b0 v9).heap[w.heap.size]?=some (.cells #[v0,v1,v2,v3,v4,v5,v6,bS,b0,v9] 101)∧an w w (zh gh w.heap.size v0 v1 v2 v3 v4 v5 v6 bS b0 v9):=by
 refine⟨?_,(((((((((bP.b.setCell (aP _) _).setCell (aP _) _).setCell (aP _) _).setCell (aP _) _).setCell (aP _) _).setCell (aP _) _).setCell (aP _) _).setCell (aP _) _).setCell (aP _) _).setCell (aP _) _⟩;exact Kv (Ku (Kt (Ks (Kr (Kq (Kp (Ko (Kn (Hl bP.a _) _) _) _) _) _) _) _) _) _
variable{fn:Func}{tmps:ajv}
theorem tQ{p u:Tmp}{Q:Ending→aeo→Prop}(h:fn.results= #[.cell p 101,.tmp u]){gh:aeo}(bP:kt w gh){v0 v1 v2 v3 v4 v5 v6 bS b0 v9:ada}(hp:tmps.getD p undef=.pointer (some (aj w.heap.size 0)))
  (aG:an w w (zh gh w.heap.size v0 v1 v2 v3 v4 v5 v6 bS b0 v9)→Q (ab (.tuple #[.agg #[v0,v1,v2,v3,v4,v5,v6,bS,b0,v9],tmps.getD u undef])) (zh gh w.heap.size v0 v1 v2 v3 v4 v5 v6 bS b0 v9)):
  bodyPost Tryz.prog fn Q Exit.ret {tmps:=tmps,defers:=[]} (zh gh w.heap.size v0 v1 v2 v3 v4 v5 v6 bS b0 v9):=by
 obtain⟨g,ay⟩:=aaj bP v0 v1 v2 v3 v4 v5 v6 bS b0 v9;exact cL (c1.mw h _ _ w.heap.size _ _ _ _ hp g Tryz.underlying101 rfl (by kernel_rfl)) rfl (aG ay)
theorem akz{p u:Tmp}{Q:Ending→aeo→Prop}{o:Obj}(h:fn.results= #[.cell p 101,.tmp u]){w gh:aeo}(bP:kt w gh){v0 v1 v2 v3 v4 v5 v6 bS b0 v9:ada}(hp:tmps.getD p undef=.pointer (some (aj w.heap.size 0)))
  (aG:an w w (zh gh w.heap.size v0 v1 v2 v3 v4 v5 v6 bS b0 v9)→(zh gh w.heap.size v0 v1 v2 v3 v4 v5 v6 bS b0 v9).heap.size=gh.heap.size→Q (ab (.tuple #[.agg #[v0,v1,v2,v3,v4,v5,v6,bS,b0,v9],tmps.getD u undef])) ((zh gh w.heap.size v0 v1 v2 v3 v4 v5 v6 bS b0 v9).alloc o)):
  bodyPost Tryz.prog fn Q Exit.ret {tmps:=tmps,defers:=[]} ((zh gh w.heap.size v0 v1 v2 v3 v4 v5 v6 bS b0 v9).alloc o):=by
 obtain⟨g,ay⟩:=aaj bP v0 v1 v2 v3 v4 v5 v6 bS b0 v9;exact cL (c1.mw h _ _ w.heap.size _ _ _ _ hp (ba g ((Below.refl _ _).alloc (aP _) _)) Tryz.underlying101 rfl (by kernel_rfl)) rfl (aG ay (by simp[World.setCell]))
theorem akA{w0:aeo}{n:Nat}{v:Int}(hn:w.heap.size=n)(h:w0.heap.size≤n):dd w0.heap.size (w.alloc (ai (#[I v]) 2)) (some (aj n 0)) [v]:=by
 intro _;refine⟨n,0,_,rfl,h,hn ▸ dL w _,fun i hi=>?_⟩;obtain rfl:i=0:=by simp at hi;omega
 rfl
theorem akB(S:Ua)(hs:S.size≤1000000)(w:aeo):Calls Tryz.prog 89 #[aa S] w (K2 w):=by
 have aU:af (kt w _):=va w;go_enter Tryz.func89,Tryz.ntmps89;go_upto_region 1 with fail;generalize w.alloc Ci=b5 at aU⊢;obtain⟨_,f0,f1,f2,f3,f4,f5,f6,f7,f8,f9⟩:=jM aU.out.a;go_wp2_with fail
 ·exact tQ rfl aU.out rfl fun ay=>⟨ay,_,_,_,_,_,_,_,_,[],none,0,_,rfl,dd.nil _ _ _,by apply qW.nil<;>first|decide|exact cO _|omega⟩
 with_reducible refine (aah S (E0 hs) _ (by decide) _).mono ?_
 rintro e eE ⟨n,R,b,rfl,hR,hn,ck⟩;replace aU:=ao (aU.out.below ck);clear f0 f1 f2 f3 f4 f5 f6 f7 f8 f9;obtain⟨_,f0,f1,f2,f3,f4,f5,f6,f7,f8,f9⟩:=jM aU.out.a;have auU:R.size≤9223372036854775807:=by omega
 have b2:(R.extract 1 R.size).size≤maxLen:=cd (EZ _ _ _) (cd hR (E0 hs))
 have aF:(R.toList==[])=true∨(R.toList==[])=false∧0<R.size:=by
  rw[EB];by_cases h:R.size=0
  ·exact .inl (gx h)
  ·exact .inr ⟨fJ h,by omega⟩
 rcases aF with aF|⟨aF,hp⟩
 ·go_wp2_with fail;all_goals exact tQ rfl aU.out rfl fun ay=>⟨ay,_,_,_,_,_,_,_,_,[],none,0,_,rfl,dd.nil _ _ _,by apply qW.nil<;>first|decide|exact cO _|omega⟩
 go_wp2_with fail;all_goals try exact tQ rfl aU.out rfl fun ay=>⟨ay,_,_,_,_,_,_,_,_,[],none,0,_,rfl,dd.nil _ _ _,by apply qW.nil<;>first|decide|exact cO _|omega⟩
 ·with_reducible refine (Hi _ _ b2).mono ?_
  rintro e db ⟨rfl,rfl⟩;go_upto_region 13 with fail;all_goals try exact tQ rfl aU.out rfl fun ay=>⟨ay,_,_,_,_,_,_,_,_,[],none,0,_,rfl,dd.nil _ _ _,by apply qW.nil<;>first|decide|exact cO _|omega⟩
  have bm:=(Array.getElem?_eq_some_iff.1 aU.out.a).1;go_wp2_with fail;exact akz rfl aU.out rfl fun ay fw=>⟨ay.alloc ay.size _,_,_,_,_,_,_,_,_,[_],some _,1,_,rfl,akA fw aU.out.b.size,hn,cO _,cO _,cO _,cO _,aP _,fun z bP=>by rw[List.mem_singleton.1 bP];exact akx _⟩
theorem akC(S:Ua)(hs:S.size≤1000000)(w:aeo):Calls Tryz.prog 90 #[aa S] w (K2 w):=by
 have aU:af (kt w _):=va w;go_enter Tryz.func90,Tryz.ntmps90;go_upto_region 1 with fail;generalize w.alloc Ci=b5 at aU⊢;go_wp2_with fail;with_reducible refine (aah S (E0 hs) _ (by decide) _).mono ?_
 rintro e eE ⟨n,R,b,rfl,hR,hn,ck⟩;replace aU:=ao (aU.out.below ck);obtain⟨_,f0,f1,f2,f3,f4,f5,f6,f7,f8,f9⟩:=jM aU.out.a;go_wp2_with fail;all_goals try exact tQ rfl aU.out rfl fun ay=>⟨ay,_,_,_,_,_,_,_,_,[],none,0,_,rfl,dd.nil _ _ _,by apply qW.nil<;>first|decide|exact cO _|omega⟩
 ·with_reducible refine (OW R (cd hR (E0 hs)) _).mono ?_
  rintro e dZ ⟨X,Y,fa,bl,rfl,⟨b2,e7,iZ⟩,eF⟩;replace aU:=ao (aU.out.below eF);clear f0 f1 f2 f3 f4 f5 f6 f7 f8 f9;obtain⟨_,f0,f1,f2,f3,f4,f5,f6,f7,f8,f9⟩:=jM aU.out.a;go_wp2_with fail;all_goals exact tQ rfl aU.out rfl fun ay=>⟨ay,_,_,_,_,_,_,_,_,[],none,0,_,rfl,dd.nil _ _ _,by apply qW.nil<;>first|decide|exact cO _|omega⟩
theorem TR(S P:Ua)(w:aeo):Calls Tryz.prog 72 #[aa S,aa P] w fun e w'=>∃(T:Ua) (b:Bool),e=ab (.tuple #[aa T,U b])∧T.size≤S.size∧w=w':=
 (Tryz.strings_CutPrefix S P w).mono fun e w' ⟨he,hw⟩=>⟨_,_,he,by
  show (Lib.trimPrefix S.data.toList P.data.toList).toArray.size≤S.size;rw[TQ,←ch S];unfold Lib.trimPrefix;split
  ·rw[e8];omega
  ·exact aP _,hw.symm⟩
theorem akD(S:Ua)(hs:S.size≤1000000)(w:aeo):Calls Tryz.prog 91 #[aa S] w (K2 w):=by
 have aU:af (kt w _):=va w;go_enter Tryz.func91,Tryz.ntmps91;go_upto_region 1 with fail;generalize w.alloc Ci=b5 at aU⊢;obtain⟨_,f0,f1,f2,f3,f4,f5,f6,f7,f8,f9⟩:=jM aU.out.a;go_wp2_with fail;with_reducible refine (TR S _ _).mono ?_
 rintro e w' ⟨T,b,rfl,dm,rfl⟩;cases b<;>go_wp2_with fail;all_goals try ((with_reducible refine (TR S _ _).mono ?_);rintro e w' ⟨T,b,rfl,dm,rfl⟩;cases b<;>go_wp2_with fail)
 all_goals try exact tQ rfl aU.out rfl fun ay=>⟨ay,_,_,_,_,_,_,_,_,[],none,0,_,rfl,dd.nil _ _ _,by apply qW.nil<;>first|decide|exact cO _|omega⟩
 all_goals
  with_reducible refine (OW T (E0 (cd dm hs)) _).mono ?_
  rintro e dZ ⟨X,Y,fa,bl,rfl,⟨b2,e7,iZ⟩,eF⟩;replace aU:=ao (aU.out.below eF);clear f0 f1 f2 f3 f4 f5 f6 f7 f8 f9;obtain⟨_,f0,f1,f2,f3,f4,f5,f6,f7,f8,f9⟩:=jM aU.out.a;go_wp2_with fail;all_goals exact tQ rfl aU.out rfl fun ay=>⟨ay,_,_,_,_,_,_,_,_,[],none,0,_,rfl,dd.nil _ _ _,by apply qW.nil<;>first|decide|exact cO _|omega⟩
theorem akE(S:Ua)(hs:S.size≤1000000)(w:aeo):Calls Tryz.prog 92 #[aa S] w (K2 w):=by
 have aU:af (kt w _):=va w;go_enter Tryz.func92,Tryz.ntmps92;go_upto_region 1 with fail;generalize w.alloc Ci=b5 at aU⊢;go_wp2_with fail;with_reducible refine (OW S (E0 hs) _).mono ?_
 rintro e eE ⟨X,Y,R,b,rfl,⟨b2,e7,hR⟩,ck⟩;replace aU:=ao (aU.out.below ck);obtain⟨_,f0,f1,f2,f3,f4,f5,f6,f7,f8,f9⟩:=jM aU.out.a;go_wp2_with fail;all_goals try exact tQ rfl aU.out rfl fun ay=>⟨ay,_,_,_,_,_,_,_,_,[],none,0,_,rfl,dd.nil _ _ _,by apply qW.nil<;>first|decide|exact cO _|omega⟩
 with_reducible refine (TR R _ _).mono ?_
 rintro e w' ⟨T,ll,rfl,dm,rfl⟩;go_wp2_with fail;all_goals try exact tQ rfl aU.out rfl fun ay=>⟨ay,_,_,_,_,_,_,_,_,[],none,0,_,rfl,dd.nil _ _ _,by apply qW.nil<;>first|decide|exact cO _|omega⟩
 with_reducible refine (OW T (E0 (cd dm (cd hR hs))) _).mono ?_
 rintro e dZ ⟨TS,V,fa,AL,rfl,⟨KQ,jK,iZ⟩,eF⟩;replace aU:=ao (aU.out.below eF);clear f0 f1 f2 f3 f4 f5 f6 f7 f8 f9;obtain⟨_,f0,f1,f2,f3,f4,f5,f6,f7,f8,f9⟩:=jM aU.out.a;go_wp2_with fail;all_goals exact tQ rfl aU.out rfl fun ay=>⟨ay,_,_,_,_,_,_,_,_,[],none,0,_,rfl,dd.nil _ _ _,by apply qW.nil<;>first|decide|exact cO _|omega⟩
theorem akF{B:Nat}{b:Nat}(ay:b<B){p:Ja}{l:List Int}(h:dd B w p l)(v0 v1 v2 v3 v4 v5 v6 bS b0 v9:ada):dd B (zh w b v0 v1 v2 v3 v4 v5 v6 bS b0 v9) p l:=by intro az;obtain⟨c,o,cs,rfl,bz,aE,aB⟩:=h az;have key:∀(w:aeo) (i:Nat) (u:ada),(w.setCell (aj b i) u).heap[c]?=w.heap[c]?:=fun w i u=>hC _ _ _ _ (by show c≠b;omega);exact⟨c,o,cs,rfl,bz,by rw[key,key,key,key,key,key,key,key,key,key];exact aE,aB⟩
theorem akG(S:Ua)(hs:S.size≤1000000)(hp:0<S.size)(w:aeo):Calls Tryz.prog 59 #[aa S] w (K2 w):=by
 have aU:af (kt w _):=va w;have b2:(S.extract 1 S.size).size≤1000000:=cd (EZ _ _ _) hs;go_enter Tryz.func59,Tryz.ntmps59;go_upto_region 1 with fail;generalize w.alloc Ci=b5 at aU⊢;obtain⟨_,f0,f1,f2,f3,f4,f5,f6,f7,f8,f9⟩:=jM aU.out.a;have bm:=(Array.getElem?_eq_some_iff.1 aU.out.a).1;go_wp2_with fail;all_goals try exact tQ rfl aU.out rfl fun ay=>⟨ay,_,_,_,_,_,_,_,_,[],none,0,_,rfl,dd.nil _ _ _,by apply qW.nil<;>first|decide|exact cO _|exact b2⟩
 all_goals
  first
   |with_reducible refine (akB _ b2 _).mono ?_
   |with_reducible refine (akC _ b2 _).mono ?_
   |with_reducible refine (akD _ hs _).mono ?_
   |with_reducible refine (akE _ hs _).mono ?_
  rintro e eE ⟨ay,k,n,on,t,x,y,u,v,l,p,c,b,rfl,hn,hd⟩;replace aU:=ao (aU.out.below ay);clear f0 f1 f2 f3 f4 f5 f6 f7 f8 f9;obtain⟨_,f0,f1,f2,f3,f4,f5,f6,f7,f8,f9⟩:=jM aU.out.a;go_wp2_with fail;exact tQ rfl aU.out rfl fun ay=>⟨ay,_,_,_,_,_,_,_,_,l,p,c,_,rfl,(akF bm hn _ _ _ _ _ _ _ _ _ _).mono (k5 bm),hd⟩
def aak(A:Prop)(w:aeo)(e:Ending)(w':aeo):Prop:=Below w.heap.size w w'∧∃(k n:Int) (on:Bool) (t x y u v:Ua) (l:List Int) (p:Ja) (c:Nat) (b:Bool),
 e=ab (.tuple #[.agg #[I 0,I k,I n,U on,aa t,aa x,aa y,aa u,aa v,ad p l.length c],U b])∧dd w.heap.size w' p l∧qW n x y u v l∧af (A→b=true∧k=2)
theorem akH(A:Prop)(w:aeo):Calls Tryz.prog 59 #[aa hY] w (aak A w):=by have aU:af (kt w _):=va w;go_enter Tryz.func59,Tryz.ntmps59;go_upto_region 1 with fail;generalize w.alloc Ci=b5 at aU⊢;obtain⟨_,f0,f1,f2,f3,f4,f5,f6,f7,f8,f9⟩:=jM aU.out.a;go_wp2_with fail;exact tQ rfl aU.out rfl fun ay=>⟨ay,_,_,_,_,_,_,_,_,[],none,0,_,rfl,dd.nil _ _ _,by apply qW.nil<;>first|decide|exact cO _,fun _=>⟨rfl,rfl⟩⟩
theorem akI(A:Prop)(S:Ua)(hs:S.size≤1000000)(hp:0<S.size)(hA:A→S=hY)(w:aeo):Calls Tryz.prog 59 #[aa S] w (aak A w):=by
 by_cases h:S=hY
 ·subst h;exact akH A w
 ·exact (akG S hs hp w).mono fun e w' ⟨ay,k,n,on,t,x,y,u,v,l,p,c,b,he,hn,hd⟩=>⟨ay,k,n,on,t,x,y,u,v,l,p,c,b,he,hn,hd,fun ha=>absurd (hA ha) h⟩
def mN(w:aeo):Prop:=∃m,ak w 0 0 (I m)
theorem mN.below{w':aeo}(h:mN w)(ay:an w w w'):mN w':=by
 obtain⟨m,hm⟩:=h;have bm:0<w.heap.size:=by apply vJ;intro hn;have:w.heap[0]?=none:=Aj (by omega);simp[World.cell?,this] at hm
 exact⟨m,(ay.cell (p:=⟨0,0,none⟩) bm).trans hm⟩
theorem akJ(S:Ua)(hs:S.size≤1000000)(A E:Nat)(ft:E≤S.size)(hA:A<E)(aB:S[A]≠13)(w:aeo)(hm:mN w):
  Calls Tryz.prog 60 #[aa (S.extract A E),aa ⟨#[13]⟩,aa ⟨#[]⟩] w fun e w'=>∃R:Ua,e=ab (aa R)∧0<R.size∧R.size≤S.size∧af (S=hY→A=0→E=3→R=hY)∧an w w w':=by
 obtain⟨m,hm⟩:=hm;have hx:=EZ S A E;refine (Tryz.strings_ReplaceAll (S.extract A E) ⟨#[13]⟩ ⟨#[]⟩ m w (by omega) hm (by decide) (by show (S.extract A E).size+Lib.countB (S.extract A E) ⟨#[13]⟩ *0≤_;omega)).mono fun e w' ⟨he,hw⟩=>⟨_,he,?_⟩;have aY:Lib.replaceAll (S.extract A E).data.toList (⟨#[13]⟩:Ua).data.toList (⟨#[]⟩:Ua).data.toList=(S.extract A E).data.toList.filter (· !=13):=ai9 13 _;rw[aY];have ax:=List.length_filter_le (· !=13) (S.extract A E).data.toList;rw[ch] at ax;refine⟨?_,by show (List.toArray _).size≤_;rw[TQ];omega,by rintro rfl rfl rfl;rfl,hw⟩;show 0<(List.toArray _).size;rw[TQ,List.length_pos_iff];intro aF;rw[List.filter_eq_nil_iff] at aF;have E1:S[A]∈(S.extract A E).data.toList:=by rw[Km];obtain⟨az,he⟩:=ai7 S A (by omega);have aA:((S.data.toList.take E).drop A)[0]?=some S[A]:=(by rw[z',ra,aW (by omega),Gy,iW az,he]);exact List.mem_of_getElem? aA
 have:=aF _ E1;simp at this;exact aB this
theorem akK{o:Nat}(a1:o≤S.size){E2:Int}(h:Lib.indexByte (S.extract o S.size).data.toList (Int.toNat 10).toUInt8=E2):E2= -1∨∃n:Nat,E2=n∧o+n<S.size:=by
 have au:=Lib.indexByte_ge (S.extract o S.size).data.toList (Int.toNat 10).toUInt8;by_cases aF:E2= -1
 ·exact .inl aF
 ·obtain⟨n,hn⟩:=Int.eq_ofNat_of_zero_le (show 0≤E2 by omega);refine .inr ⟨n,hn,?_⟩;have ax:=(Lib.indexByte_some (h.trans hn)).1;have aA:=(List.getElem?_eq_some_iff.1 ax).1;rw[lX,e8,ch] at aA;omega
theorem aal:∀(i:Nat) (h:i<hY.size),hY[i]≠13∧32≤((hY[i].toNat:Nat):Int)∧((hY[i].toNat:Nat):Int)≤126
 |0,_=>show (77:UInt8)≠13∧32≤(((77:UInt8).toNat:Nat):Int)∧(((77:UInt8).toNat:Nat):Int)≤126 by decide
 |1,_=>show (52:UInt8)≠13∧32≤(((52:UInt8).toNat:Nat):Int)∧(((52:UInt8).toNat:Nat):Int)≤126 by decide
 |2,_=>show (56:UInt8)≠13∧32≤(((56:UInt8).toNat:Nat):Int)∧(((56:UInt8).toNat:Nat):Int)≤126 by decide
 |n+3,h=>absurd h (by show ¬n+3<3;omega)
structure OX(d:D):Prop where
 n:0≤d.n∧d.n≤9999
 x:d.x.length≤1000000
 y:d.y.length≤1000000
 u:d.u.length≤1000000
 v:d.v.length≤1000000
 l:d.bX.length≤1∧∀z∈d.bX,-1000000000000<z∧z<1000000000000
def aam(S:Ua)(w:aeo)(b3:Ending)(w':aeo):Prop:=∃(v:ada) (l:List (Nat×D)) (a e:Nat),b3=ab (.tuple #[v,I (a:Int),I (e:Int)])∧xK w v l w'∧l.length≤S.size+1∧(∀x∈l,OX x.2)∧af (S=hY→e=0∧∃c:D,l=[(0,c)]∧c.k=2)
theorem TT{w':aeo}{a e:Nat}(ay:an w w w')(ik:S≠hY):aam S w (ab (.tuple #[cA,I (a:Int),I (e:Int)])) w':=⟨_,[],a,e,rfl,ZR w ay,cO _,fun x hx=>absurd hx (by simp),fun h=>absurd h ik⟩
theorem akL(S:Ua)(hs:S.size≤1000000)(w:aeo)(hg:af (mN w)):Calls Tryz.prog 38 #[aa S] w (aam S w):=by
 obtain⟨i0,hi,cW,dv,dx⟩:=info_parts aja;have bL:=ao (And.intro hi (And.intro cW (And.intro dv dx)));have zg:S.size≤maxLen:=by unfold maxLen;omega
 clear hi cW dv dx;go_enter Tryz.func38,Tryz.ntmps38;go_wp2_with fail;with_reducible refine (aks S hs _).mono ?_
 rintro b3 w' ⟨nl,rfl,r9,rfl⟩;go_wp2_with fail
 ·go_ret3;exact TT (a:=0) (e:=6) (Below.refl _ _) fun h=>by have:=r9.out h;omega
 go_loop [5] (fun i=>∃j:Nat,j≤S.size∧i=I j) (fun i=>S.size -(intOf i).toNat)
 case atStart=>exact⟨0,cO _,rfl⟩
 case round=>
  obtain⟨j,b6,rfl⟩:=hrel;by_cases bm:j<S.size
  ·have fD:(j:Int)<(S.size:Int):=(by omega);obtain⟨c,aB⟩:=aq (S[j]);by_cases kv:c=13
   ·subst kv;have rH:((13:UInt8).toNat:Int)=13:=rfl;go_wp2_with fail;go_round
    case rel=>exact⟨j+1,by omega,by go_num⟩
    case measure=>simp[intOf];omega
   ·have g13:((c.toNat:Int)==13)=false:=(by rw[fO];intro e;exact kv (UInt8.toNat_inj.1 (by show c.toNat=13;omega)));have auV:((c.toNat:Int) !=13)=true:=(by rw[y'];intro e;exact kv (UInt8.toNat_inj.1 (by show c.toNat=13;omega)));by_cases ly:c=10
    ·subst ly;have rH:((10:UInt8).toNat:Int)=10:=rfl;go_wp2_with fail;go_round
     case rel=>exact⟨j+1,by omega,by go_num⟩
     case measure=>simp[intOf];omega
    ·have g10:((c.toNat:Int)==10)=false:=(by rw[fO];intro e;exact ly (UInt8.toNat_inj.1 (by show c.toNat=10;omega)));have E3:((c.toNat:Int) !=10)=true:=(by rw[y'];intro e;exact ly (UInt8.toNat_inj.1 (by show c.toNat=10;omega)));clear kv ly;go_wp2_with fail;with_reducible refine (akr _ _).mono ?_
     rintro b3 w' ⟨b,rfl,lr,rfl⟩;have bn:af (S=hY→b=true):=(by intro h;subst h;have au:=(aal j bm).2;rw[aB] at au;exact lr.out au.1 au.2);clear lr;cases b<;>go_wp2_with fail
     ·go_ret3;exact TT (a:=j) (e:=2) (Below.refl _ _) fun h=>by have:=bn.out h;cases this
     ·go_round
      case rel=>exact⟨j+1,by omega,by go_num⟩
      case measure=>simp[intOf];omega
  ·have fD:¬((j:Int)<(S.size:Int)):=(by omega);clear bm b6;go_upto_region 10 with fail
   go_loopw [6,7] (fun s i wr=>∃(o:Nat) (acc:List (Nat×D)),o≤S.size+1∧acc.length≤o∧i=I o∧af (xK w s acc wr∧(∀x∈acc,OX x.2)∧(S=hY→(o=0∧acc=[])∨(o=4∧∃c:D,acc=[(0,c)]∧c.k=2)))) (fun _ i _=>S.size+1 -(intOf i).toNat)
   case atStart=>exact⟨0,[],cO _,cO _,rfl,ZR w (Below.refl _ _),fun x hx=>absurd hx (by simp),fun _=>.inl ⟨rfl,rfl⟩⟩
   case round=>
   obtain⟨o,acc,a1,auW,rfl,bw⟩:=hrel;rename_i wr;by_cases bm:o<S.size
   ·have fD:(o:Int)<(S.size:Int):=(by omega);go_wp2_with fail;with_reducible refine (Tryz.strings_IndexByte _ _ _).mono ?_
    rintro b3 w' ⟨rfl,rfl⟩;obtain⟨E2,AT⟩:=aq (Lib.indexByte (S.extract o S.size).data.toList (Int.toNat 10).toUInt8);have OY:=akK (by omega) AT
    have bE:af (S=hY→o=0∧acc=[]):=by
     intro h;rcases bw.out.2.2 h with au|au
     ·exact au
     ·rw[h] at bm;have ax:o<3:=bm;omega
    have aan:af (S=hY→E2= -1):=(by intro h;have au:=(bE.out h).1;subst h au;rw[←AT];decide);rw[AT];clear AT;go_upto_if 56 with fail;go_cut [8] (fun v cq=>∃E:Nat,v=I (E:Int)∧o≤E∧E≤S.size∧af (S=hY→E=3)∧w'=cq)
    case first=>
     rcases OY with rfl|⟨n,rfl,hn⟩
     ·go_wp2_with fail;go_meet;exact⟨S.size,rfl,by omega,by omega,fun h=>by rw[h];rfl,rfl⟩
     ·have jf:(0:Int)≤(n:Int):=Cm _;go_wp2_with fail;go_meet;exact⟨o+n,by go_num,by omega,by omega,fun h=>by have:=aan.out h;omega,rfl⟩
    case rest=>
    obtain⟨E,rfl,auX,akM,sl,rfl⟩:=hcut;clear OY;go_upto_region 16 with fail
    go_loop [10] (fun x=>∃k:Nat,o≤k∧k≤E∧af (S=hY→k=0)∧x=I (k:Int)) (fun x=>E -(intOf x).toNat)
    case atStart=>exact⟨o,by omega,by omega,fun h=>(bE.out h).1,rfl⟩
    case round=>
     obtain⟨A,auY,aw,xU,rfl⟩:=hrel;by_cases la:A<E
     ·have akN:(A:Int)<(E:Int):=(by omega);have akO:A<S.size:=(by omega);obtain⟨c,aB⟩:=aq (S[A]);by_cases kv:c=13
      ·subst kv;have rH:((13:UInt8).toNat:Int)=13:=rfl;have akP:af (S≠hY):=(by intro h;have au:=xU.out h;subst h;exact (aal A akO).1 aB);go_wp2_with fail;go_round
       case rel=>exact⟨A+1,by omega,by omega,fun h=>absurd h akP.out,by go_num⟩
       case measure=>simp[intOf];omega
      ·have g13:((c.toNat:Int)==13)=false:=(by rw[fO];intro e;exact kv (UInt8.toNat_inj.1 (by show c.toNat=13;omega)));have hne:((A:Int)==(E:Int))=false:=(by rw[fO];omega);have bG:af (S[A]≠13):=(by show _≠_;rw[aB];exact kv);clear kv;go_wp2_with fail;with_reducible refine (akJ S hs A E akM la bG.out _ (hg.out.below bw.out.1.aM)).mono ?_
       rintro b3 bk ⟨R,rfl,K3,qK,aao,cj⟩;have qI:=ao (And.intro (bw.out.1.below cj) bw.out.2);clear bw cj;go_wp2_with fail;with_reducible refine (akI (S=hY) R (by omega) K3 (fun h=>aao.out h (xU.out h) (sl.out h)) _).mono ?_
       rintro b3 bt ⟨ck,k,n,on,t,x,y,u,v,i',p,c',ok,rfl,hn,hd,TU⟩;have kb:=ao (And.intro (qI.out.1.below ck) qI.out.2);have bd:af (dd w.heap.size bt p i'):=hn.mono qI.out.1.aM.size;have b9:=ao hd;clear qI ck hn hd;cases ok with
       |false=>
        go_wp2_with fail;go_ret3;exact TT (a:=A) (e:=3) (kb.out.1.aM.alloc kb.out.1.aM.size _) fun h=>by have:=(TU.out h).1;cases this
       |true=>
        go_upto_region 24 with fail;have nM:af (_=_):=dL bt (ai (#[I (A:Int),I k,I n,U on,aa t,aa x,aa y,aa u,aa v,ad p i'.length c']) 101);have El:=(Below.refl bt.heap.size bt).alloc (aP _) (ai (#[I (A:Int),I k,I n,U on,aa t,aa x,aa y,aa u,aa v,ad p i'.length c']) 101);have nL:=ao (kb.out.1.below El);have wI:=ao (bd.out.below El);have jj:=ao kb.out.2.1;have AU:af (S=hY→E+1=4∧A=0∧acc=[]∧k=2):=fun h=>⟨by rw[sl.out h],xU.out h,(bE.out h).2,(TU.out h).2⟩;clear TU bE sl xU aao aan;obtain⟨g,aI⟩:=aq bt.heap.size;rw[aI] at nM;rw[aI];clear kb bd El aI;generalize bt.alloc (.cells #[I (A:Int),I k,I n,U on,aa t,aa x,aa y,aa u,aa v,ad p i'.length c'] 101)=dZ at nM nL wI⊢;obtain⟨⟨aV,aT,c2,c3,cD,c5,cX,c7,dj,bB⟩,_⟩:=jM nM.out;obtain⟨xs,hx,AV⟩:=nL.out.own;have tH:=ao (And.intro hx AV);have KE:=ao nL.out.aM;have auZ:acc.length+1≤E+1:=(by omega);have au0:E+1≤1000001:=(by omega);clear nL hx AV nM;go_wp2_with (at_builtin;refine wz _ rfl _ _ _ rfl w.heap.size 101 i0 (.agg #[I 0,I 0,I 0,U false,aa ⟨#[]⟩,aa ⟨#[]⟩,aa ⟨#[]⟩,aa ⟨#[]⟩,aa ⟨#[]⟩,J 0]) 10 136 Tryz.underlying96 bL.out.1 bL.out.2.1 bL.out.2.2.1 bL.out.2.2.2 rfl (by omega) u6 acc.length xs (by rfl) (tH.out.1.alloc _) (aj dZ.heap.size 0) 1 1 [I (A:Int),I k,I n,U on,aa t,aa x,aa y,aa u,aa v,ad p i'.length c'] (by rfl) rfl (jx (dL dZ _)) (by simp[Value.oneCell']) (by unfold maxLen;omega) (by omega) (by have:=KE.out.size;simp;omega) ?_;intro v' w' gr h9 om;skip);have zi:=ao (xK.push (x:=(A,⟨k,n,on,t.data.toList,x.data.toList,y.data.toList,u.data.toList,v.data.toList,i'⟩)) (c:=c') tH.out.1 tH.out.2 KE.out wI.out h9 (by simpa only[Cj,OG,o0] using gr));have akQ:af (OX ⟨k,n,on,t.data.toList,x.data.toList,y.data.toList,u.data.toList,v.data.toList,i'⟩):=⟨b9.out.n,by rw[ch];exact b9.out.x,by rw[ch];exact b9.out.y,by rw[ch];exact b9.out.u,by rw[ch];exact b9.out.v,b9.out.l⟩;clear gr h9 om;go_round<;>first|exact⟨E+1,_,by omega,by simp;omega,by go_num,zi.out,fun z bP=>by rcases List.mem_append.1 bP with bP|bP;exact jj.out z bP;rw[List.mem_singleton.1 bP];exact akQ.out,fun h=>by obtain⟨au,ax,aA,bb⟩:=AU.out h;exact .inr ⟨au,_,by rw[aA,ax];rfl,bb⟩⟩|(simp[intOf]<;>omega)
     ·have akN:¬((A:Int)<(E:Int)):=(by omega);obtain rfl:A=E:=(by omega);go_wp2_with fail;go_round<;>first|exact⟨A+1,acc,by omega,by omega,by go_num,bw.out.1,bw.out.2.1,fun h=>by have au:=xU.out h;have ax:=sl.out h;omega⟩|(simp[intOf]<;>omega)
   ·have fD:¬((o:Int)<(S.size:Int)):=(by omega);go_wp2_with fail;go_ret3;refine⟨_,acc,0,0,rfl,bw.out.1,by omega,bw.out.2.1,fun h=>⟨rfl,?_⟩⟩;rcases bw.out.2.2 h with au|au
    ·rw[h,au.1] at bm;exact absurd (show 0<3 by decide) bm
    ·exact au.2
end mI
namespace dY
open Go.RowKit gI ga jz qe rC mI
theorem akR{w:aeo}{B Ev:Nat}{e:aai}{aR n:Nat}{v:ada}{xs:aev}(h:w.ownsRow B e aR v n xs)(bz:Ev≤B):w.ownsRow Ev e aR v n xs:=by
 refine⟨h.1,?_⟩;rcases h.2 with ax|⟨g,cap,cur,au,ay,aA⟩
 ·exact .inl ax
 ·exact .inr ⟨g,cap,cur,au,cd bz ay,aA⟩
theorem TV:∀(l:List D) (i:Nat) (m:M) {j k:Nat},iF l i m=.error (j,k)→i≤j∧j<i+l.length
 |[],i,m,j,k,h=>by cases h
 |c::l,i,m,j,k,h=>by
  unfold iF at h;split at h
  ·have:=TV l (i+1) m h;simp;omega
  ·split at h
   ·injection h with h;injection h with au ax;simp;omega
   ·rename_i ey _;have:=TV l (i+1) ey h;simp;omega
theorem akS{l:List D}{b:Int}{bq:List kT}{i e:Nat}(h:EF l b=(bq,i,e))(aF:e≠0)(au:e≠11):i<l.length:=by
 unfold EF at h;split at h
 ·rename_i j k hr;have:=TV l 0 _ hr;simp only[fg] at h;omega
 ·split at h
  ·simp only[fg] at h;exact absurd h.2.2.symm au
  ·simp only[fg] at h;exact absurd h.2.2.symm aF
def akU(S:Ua)(w:aeo)(b3:Ending)(w':aeo):Prop:=∃(bq:List kT) (i e:Nat),TP bq i e w b3 w'∧af (S=hY→i=3∧e=11)
theorem akV{d:D}(h:OX d):xQ d:=⟨h.n.1,h.n.2,h.x,h.y,h.u,h.v,cd h.l.1 (by decide),h.l.2⟩
theorem akW{c:D}(aw:c.k=2)(bo:Int):EF [c] bo=([],1,11):=by
 have h:kF (m0 bo) c=.ok {m0 bo with lE:=1}:=by unfold kF;rw[aW (show (m0 bo).lE=0 from rfl),aN (by omega)]
 have ax:iF [c] 0 (m0 bo)=.ok {m0 bo with lE:=1}:=by unfold iF;rw[aN (by omega),h];rfl
 unfold EF;rw[ax];rfl
theorem aap(S:Ua)(hs:S.size≤900000)(bo:Int)(cH:-9223372036854775808≤bo)(cw:bo≤9223372036854775807)(w:aeo)(hg:af (mN w)):
  Calls Tryz.prog 21 #[aa S,I bo] w (akU S w):=by
 go_enter Tryz.func21,Tryz.ntmps21;go_wp2_with fail;with_reducible refine (akL S (by omega) w hg).mono ?_
 rintro b3 bk ⟨v,l,a,TW,rfl,kN,lV,K4,aaq⟩;obtain⟨p,cp,rfl,hd⟩:=kN.reads;have cG:=ao kN.aM;have HA:=ao hd;have akX:af (∀x∈l,xQ x.2):=fun x hx=>akV (K4 x hx);have qX:l.length≤1000000:=by omega
 clear kN hd K4 lV;by_cases aF:TW=0
 ·subst aF;obtain⟨OZ,i2,a6,ed⟩:∃OZ i2 a6,EF (l.map Prod.snd) bo=(OZ,i2,a6):=⟨_,_,_,rfl⟩;have B2:=ao ed;have zj:af (S=hY→a6=11):=(by intro h;obtain⟨_,c,rfl,aw⟩:=aaq.out h;have au:=akW aw bo;have ax:=B2.out;rw[nx,nF,au] at ax;simp only[fg] at ax;exact ax.2.2.symm);have bP:((((0:Nat):Int)) !=0)=false:=(by decide);clear ed;go_wp2_with fail;refine (akl w.heap.size p cp l qX akX bk HA bo cH cw OZ i2 a6 B2).mono ?_;rintro b3 bt ⟨v,rfl,ck,h',rn⟩;have dy:=ao (cG.out.trans (ck.mono cG.out.size));have ju:=ao (akR h' cG.out.size);have lC:=ao (HA.out.below ck);have fp:=ao rn;clear ck h' HA cG rn;by_cases e9:a6=0
  ·subst e9;go_wp2_with fail;go_ret3;exact⟨OZ,0,0,⟨_,rfl,dy.out,ju.out,fp.out⟩,fun h=>absurd (zj.out h) (by decide)⟩
  ·have au1:((a6:Int)==0)=false:=(by rw[fO];omega);by_cases BS:a6=11
   ·subst BS;go_wp2_with fail;go_ret3;exact⟨[],S.size,11,KZ dy.out,fun h=>⟨by rw[h];rfl,rfl⟩⟩
   ·have au2:((a6:Int)==11)=false:=(by rw[fO];omega);have oq:=akS B2.out e9 BS;rw[jV] at oq;obtain⟨x,hx⟩:=aq (l[i2]);obtain⟨e1,ol,rfl,ja,Cz⟩:=lC.out (by omega);obtain⟨eA,ow,bc,_⟩:=Cz i2 oq;rw[hx] at bc;have s0:=bc.1;have au3:(i2:Int)<(l.length:Int):=(by omega);have jb:af (S≠hY):=fun h=>BS (zj.out h);clear hx Cz bc e9 BS;go_wp2_with fail
    go_quiet (fail)
    go_wp2_with fail;go_ret3;exact⟨[],_,a6,KZ (below_drewN dy.out _),fun h=>absurd h jb.out⟩
 ·have NB:((TW:Int) !=0)=true:=(by rw[y'];omega);have jb:af (S≠hY):=fun h=>aF (aaq.out h).1;clear aF;go_wp2_with fail;go_ret3;exact⟨[],a,TW,KZ cG.out,fun h=>absurd h jb.out⟩
end dY
