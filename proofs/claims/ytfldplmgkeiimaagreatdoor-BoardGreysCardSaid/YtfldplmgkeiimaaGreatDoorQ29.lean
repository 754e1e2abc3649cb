/-
  Several texts of this proof in one: Gz.
-/
import Derived.Test.YtfldplmgkeiimaaGreatDoorQ28
set_option linter.unusedVariables false
set_option linter.unusedSimpArgs false
namespace Go.Proofs.YtfldplmgkeiimaaGreatDoor.GW
open Go.RowKit Go.Proofs.YtfldplmgkeiimaaGreatDoor.Base Go.Proofs.YtfldplmgkeiimaaGreatDoor.Dp Go.Proofs.YtfldplmgkeiimaaGreatDoor.DeciW Go.Proofs.YtfldplmgkeiimaaGreatDoor.Mem Go.Proofs.YtfldplmgkeiimaaGreatDoor.RdW Go.Proofs.YtfldplmgkeiimaaGreatDoor.Gp
theorem clone_c (S:ByteArray) (hs:S.size≤1000000000) (w:World):
  Calls Tryz.prog 179 #[.string S] w fun e w'=>e= .returned (.string S)∧Below w.heap.size w w':=by
 have hlim:S.size≤281474976710656:=by omega
 have HL:=Lib.hid hlim
 clear hs hlim
 go_enter Tryz.func179,Tryz.ntmps179
 go_wp2_with fail
 with_reducible refine (Tryz.stringslite_Clone S _ HL.out).mono ?_
 rintro e w2 ⟨rfl,hb⟩
 have HB:=Lib.hid hb
 clear hb
 go_wp2_with fail
 go_ret
 exact ⟨rfl,HB.out⟩
theorem bvarV_ne {s:List UInt8} {n:Nat} (h:bvarV s= .error n):n≠0:=by
 unfold bvarV at h
 split at h
 ·cases h;decide
 ·split at h
  ·cases h;decide
  ·split at h
   split at h
   ·rename_i h0
    cases h
    exact h0
   ·cases h
theorem argsV_ne:∀{f:Nat} {s:List UInt8} {acc:List (List (Int × Int))} {n:Nat},argsV f s acc= .error n→n≠0
 | 0,s,acc,n,h=>by cases h
 | f+1,s,acc,n,h=>by
  rw [argsV_succ] at h
  split at h
  ·cases h;decide
  ·split at h
   split at h
   ·rename_i h0
    cases h
    exact h0
   ·split at h
    ·exact argsV_ne h
    ·cases h
theorem bprimV_ne {s:List UInt8} {n:Nat} (h:bprimV s= .error n):n≠0:=by
 unfold bprimV at h
 split at h
 ·cases h;decide
 ·split at h
  ·cases h;decide
  ·split at h
   ·cases h;decide
   ·split at h
    ·rename_i h2
     cases h
     exact argsV_ne h2
    ·split at h <;> cases h
     decide
theorem blockV_ne {s:List UInt8} {n:Nat} (h:blockV s= .error n):n≠0:=by
 unfold blockV at h
 split at h
 ·cases h
 ·split at h
  ·cases h
  ·split at h
   ·exact bvarV_ne h
   ·exact bprimV_ne h
set_option maxRecDepth 100000 in
set_option maxHeartbeats 12800000 in
theorem mparse_c (S:ByteArray) (hs:S.size≤1000000000) (res:Except Nat Blk) (hr:Hid (blockV S.data.toList=res)) (w:World):
  Calls Tryz.prog 137 #[.string S] w (BlkOut res w):=by
 have HS:=Lib.hid hs
 have hl:=hr.out
 unfold blockV at hl
 clear hr hs
 have HZ:Hid (ZB w (w.alloc (.cells #[.int .i64 0, .int .i64 0, .string ⟨#[]⟩, .slice none 0 0] 259))):=zb_new w
 go_enter Tryz.func137,Tryz.ntmps137
 go_upto_region 1 with fail
 generalize w.alloc (.cells #[.int .i64 0, .int .i64 0, .string ⟨#[]⟩, .slice none 0 0] 259)=W at HZ⊢
 by_cases q1:S.data.toList= [48]
 ·rw [if_pos q1] at hl
  have HQ:Hid (Except.ok {Gp.b0 with k:=1}=res):=hl
  have e1:(S.toList== [48])=true:=by rw [str_is];exact decide_eq_true q1
  clear hl q1
  have HKK:=Lib.hid (bkSet_keep HZ.out.a ({Gp.b0 with k:=1}:Blk) (.slice none 0 0))
  have HF:=Lib.hid (bk_fin HZ.out ({Gp.b0 with k:=1}:Blk) (.slice none 0 0))
  obtain ⟨⟨c0,c1,c2,c3⟩,f0,f1,f2,f3⟩:=bk_at HZ.out.a
  go_wp2_with fail
  refine bodyPost_ret (w:=bkSet W w.heap.size ({Gp.b0 with k:=1}:Blk) (.slice none 0 0)) (v:= .tuple #[bkVal ({Gp.b0 with k:=1}:Blk) (.slice none 0 0), .int .i64 0]) ?_ rfl ?_
  ·clear c0 c1 c2 c3 f0 f1 f2 f3 HKK
   generalize bkSet W w.heap.size ({Gp.b0 with k:=1}:Blk) (.slice none 0 0)=WE at HF⊢
   obtain ⟨⟨c0,c1,c2,c3⟩,_⟩:=bk_at HF.out.1
   simp [results,Tryz.results137,go_sem,c0,c1,c2,c3] <;> rfl
  ·rw [←HQ.out]
   exact ⟨HF.out.2,_,_,rfl,ArgsIn.nil _ _ _⟩
 ·rw [if_neg q1] at hl
  have e1:(S.toList== [48])=false:=by rw [str_is];exact decide_eq_false q1
  by_cases q2:S.data.toList.take 2= [48,32]
  ·rw [if_pos q2] at hl
   have HP:Hid (decide (S.data.toList.take (⟨#[48,32]⟩:ByteArray).data.toList.length=(⟨#[48,32]⟩:ByteArray).data.toList)=true):=decide_eq_true q2
   have h2:(2:Int)≤(S.size:Int):=by
    have h1:=congrArg List.length q2
    rw [List.length_take,len_list] at h1
    simp at h1
    omega
   have hX:S.data.toList.drop 2=(S.extract 2 S.size).data.toList:=(ext_list S 2).symm
   have hXs:Hid ((S.extract 2 S.size).size≤1000000000):=by
    show _≤_
    rw [←len_list,ext_list,List.length_drop,len_list]
    have:=HS.out
    omega
   rw [hX] at hl
   have HQ:Hid (Except.ok {Gp.b0 with k:=1,t:=(S.extract 2 S.size).data.toList}=res):=hl
   clear hl q1 q2 hX
   go_wp2_with fail
   with_reducible refine (has_c _ _ _ HP _).mono ?_
   rintro e w3 ⟨rfl,rfl⟩
   go_wp2_with fail
   with_reducible refine (clone_c (S.extract 2 S.size) hXs.out _).mono ?_
   rintro e w5 ⟨rfl,hb5⟩
   have HZ5:=Lib.hid (HZ.out.below hb5)
   clear hb5 HZ
   have HZ:=HZ5
   clear HZ5
   have HKK:=Lib.hid (bkSet_keep HZ.out.a ({Gp.b0 with k:=1,t:=(S.extract 2 S.size).data.toList}:Blk) (.slice none 0 0))
   have HF:=Lib.hid (bk_fin HZ.out ({Gp.b0 with k:=1,t:=(S.extract 2 S.size).data.toList}:Blk) (.slice none 0 0))
   obtain ⟨⟨c0,c1,c2,c3⟩,f0,f1,f2,f3⟩:=bk_at HZ.out.a
   go_wp2_with fail
   refine bodyPost_ret (w:=bkSet w5 w.heap.size ({Gp.b0 with k:=1,t:=(S.extract 2 S.size).data.toList}:Blk) (.slice none 0 0)) (v:= .tuple #[bkVal ({Gp.b0 with k:=1,t:=(S.extract 2 S.size).data.toList}:Blk) (.slice none 0 0), .int .i64 0]) ?_ rfl ?_
   ·clear c0 c1 c2 c3 f0 f1 f2 f3 HKK
    generalize bkSet w5 w.heap.size ({Gp.b0 with k:=1,t:=(S.extract 2 S.size).data.toList}:Blk) (.slice none 0 0)=WE at HF⊢
    obtain ⟨⟨c0,c1,c2,c3⟩,_⟩:=bk_at HF.out.1
    simp [results,Tryz.results137,go_sem,c0,c1,c2,c3] <;> rfl
   ·rw [←HQ.out]
    exact ⟨HF.out.2,_,_,rfl,ArgsIn.nil _ _ _⟩
  ·rw [if_neg q2] at hl
   have HP:Hid (decide (S.data.toList.take (⟨#[48,32]⟩:ByteArray).data.toList.length=(⟨#[48,32]⟩:ByteArray).data.toList)=false):=decide_eq_false q2
   have HH:Hid (decide (S.data.toList.take (⟨#[36]⟩:ByteArray).data.toList.length=(⟨#[36]⟩:ByteArray).data.toList)=decide (S.data.toList.headD 0=36)):=take1 _ (by decide)
   by_cases q3:S.data.toList.headD 0=36
   ·rw [if_pos q3] at hl
    rw [decide_eq_true q3] at HH
    have hrp:0 < S.size:=by
     rw [←len_list]
     cases hq:S.data.toList with
     | nil=>rw [hq] at q3;exact absurd q3 (by decide)
     | cons a b=>simp
    have hr1:(1:Int)≤(S.size:Int):=by omega
    have hX:S.data.toList.drop 1=(S.extract 1 S.size).data.toList:=(ext_list S 1).symm
    have hXs:Hid ((S.extract 1 S.size).size≤1000000000):=by
     show _≤_
     rw [←len_list,ext_list,List.length_drop,len_list]
     have:=HS.out
     omega
    rw [hX] at hl
    have HR:=Lib.hid hl
    clear hl q1 q2 q3 hX hrp
    go_wp2_with fail
    with_reducible refine (has_c _ _ _ HP _).mono ?_
    rintro e w3 ⟨rfl,rfl⟩
    go_wp2_with fail
    with_reducible refine (has_c _ _ _ HH _).mono ?_
    rintro e w3 ⟨rfl,rfl⟩
    go_wp2_with fail
    with_reducible refine (var_c (S.extract 1 S.size) hXs.out res HR _).mono ?_
    rintro e w5 ⟨hb5,hx⟩
    have HZ5:=Lib.hid (HZ.out.below hb5)
    have HB0:=Lib.hid HZ.out.b.size
    clear hb5 HZ
    have HZ:=HZ5
    clear HZ5
    cases res with
    | error n=>
     obtain rfl:e= .returned (.tuple #[bkVal Gp.b0 nils, .int .i64 (n:Int)]):=hx
     unfold bkVal bkCells Gp.b0
     obtain ⟨⟨c0,c1,c2,c3⟩,f0,f1,f2,f3⟩:=bk_at HZ.out.a
     have HF:=Lib.hid (bk_fin HZ.out Gp.b0 nils)
     go_wp2_with fail
     refine bodyPost_ret (w:=bkSet w5 w.heap.size Gp.b0 nils) (v:= .tuple #[bkVal Gp.b0 nils, .int .i64 (n:Int)]) ?_ rfl ?_
     ·clear c0 c1 c2 c3 f0 f1 f2 f3
      generalize bkSet w5 w.heap.size Gp.b0 nils=WE at HF⊢
      obtain ⟨⟨c0,c1,c2,c3⟩,_⟩:=bk_at HF.out.1
      simp [results,Tryz.results137,go_sem,c0,c1,c2,c3] <;> rfl
     ·exact ⟨HF.out.2,rfl⟩
    | ok b=>
     obtain ⟨q,k,rfl,hai⟩:=hx
     have HAI:=Lib.hid (hai.mono HB0.out)
     clear hai
     unfold bkVal bkCells
     have HKK:=Lib.hid (bkSet_keep HZ.out.a b (.slice q b.args.length k))
     have HF:=Lib.hid (bk_fin HZ.out b (.slice q b.args.length k))
     obtain ⟨⟨c0,c1,c2,c3⟩,f0,f1,f2,f3⟩:=bk_at HZ.out.a
     go_wp2_with fail
     refine bodyPost_ret (w:=bkSet w5 w.heap.size b (.slice q b.args.length k)) (v:= .tuple #[bkVal b (.slice q b.args.length k), .int .i64 0]) ?_ rfl ?_
     ·clear c0 c1 c2 c3 f0 f1 f2 f3 HKK
      generalize bkSet w5 w.heap.size b (.slice q b.args.length k)=WE at HF⊢
      obtain ⟨⟨c0,c1,c2,c3⟩,_⟩:=bk_at HF.out.1
      simp [results,Tryz.results137,go_sem,c0,c1,c2,c3] <;> rfl
     ·exact ⟨HF.out.2,_,_,rfl,HAI.out.keep HKK.out (by decide) (by decide)⟩
   ·rw [if_neg q3] at hl
    rw [decide_eq_false q3] at HH
    have HR:=Lib.hid hl
    clear hl q1 q2 q3
    go_wp2_with fail
    with_reducible refine (has_c _ _ _ HP _).mono ?_
    rintro e w3 ⟨rfl,rfl⟩
    go_wp2_with fail
    with_reducible refine (has_c _ _ _ HH _).mono ?_
    rintro e w3 ⟨rfl,rfl⟩
    go_wp2_with fail
    with_reducible refine (prim_c S HS.out res HR _).mono ?_
    rintro e w5 ⟨hb5,hx⟩
    have HZ5:=Lib.hid (HZ.out.below hb5)
    have HB0:=Lib.hid HZ.out.b.size
    clear hb5 HZ
    have HZ:=HZ5
    clear HZ5
    cases res with
    | error n=>
     obtain rfl:e= .returned (.tuple #[bkVal Gp.b0 nils, .int .i64 (n:Int)]):=hx
     unfold bkVal bkCells Gp.b0
     obtain ⟨⟨c0,c1,c2,c3⟩,f0,f1,f2,f3⟩:=bk_at HZ.out.a
     have HF:=Lib.hid (bk_fin HZ.out Gp.b0 nils)
     go_wp2_with fail
     refine bodyPost_ret (w:=bkSet w5 w.heap.size Gp.b0 nils) (v:= .tuple #[bkVal Gp.b0 nils, .int .i64 (n:Int)]) ?_ rfl ?_
     ·clear c0 c1 c2 c3 f0 f1 f2 f3
      generalize bkSet w5 w.heap.size Gp.b0 nils=WE at HF⊢
      obtain ⟨⟨c0,c1,c2,c3⟩,_⟩:=bk_at HF.out.1
      simp [results,Tryz.results137,go_sem,c0,c1,c2,c3] <;> rfl
     ·exact ⟨HF.out.2,rfl⟩
    | ok b=>
     obtain ⟨q,k,rfl,hai⟩:=hx
     have HAI:=Lib.hid (hai.mono HB0.out)
     clear hai
     unfold bkVal bkCells
     have HKK:=Lib.hid (bkSet_keep HZ.out.a b (.slice q b.args.length k))
     have HF:=Lib.hid (bk_fin HZ.out b (.slice q b.args.length k))
     obtain ⟨⟨c0,c1,c2,c3⟩,f0,f1,f2,f3⟩:=bk_at HZ.out.a
     go_wp2_with fail
     refine bodyPost_ret (w:=bkSet w5 w.heap.size b (.slice q b.args.length k)) (v:= .tuple #[bkVal b (.slice q b.args.length k), .int .i64 0]) ?_ rfl ?_
     ·clear c0 c1 c2 c3 f0 f1 f2 f3 HKK
      generalize bkSet w5 w.heap.size b (.slice q b.args.length k)=WE at HF⊢
      obtain ⟨⟨c0,c1,c2,c3⟩,_⟩:=bk_at HF.out.1
      simp [results,Tryz.results137,go_sem,c0,c1,c2,c3] <;> rfl
     ·exact ⟨HF.out.2,_,_,rfl,HAI.out.keep HKK.out (by decide) (by decide)⟩
def StrsIn (w:World) (p:Option Addr) (l:List (List UInt8)):Prop:=0 < l.length→∃b o,p=some ⟨b,o,none⟩∧b < w.heap.size∧∀i (hi:i < l.length),w.cell? ⟨b,o+i,none⟩=some (.string ⟨l[i].toArray⟩)
theorem StrsIn.below {w w':World} {p:Option Addr} {l:List (List UInt8)} (h:StrsIn w p l) (hb:Below w.heap.size w w'):StrsIn w' p l:=by
 intro hl
 obtain ⟨b,o,hp,hlt,hc⟩:=h hl
 exact ⟨b,o,hp,Nat.lt_of_lt_of_le hlt hb.size,fun i hi=>(hb.cell (p:=⟨b,o+i,none⟩) hlt).trans (hc i hi)⟩
inductive BlksAt (B:Nat) (w:World):List Blk→List Value→Prop
 | nil:BlksAt B w [] []
 | cons {x:Blk} {l:List Blk} {q:Option Addr} {k:Nat} {xs:List Value}:ArgsIn B w q x.args→BlksAt B w l xs→BlksAt B w (x :: l) ((bkCells x (.slice q x.args.length k)).toList++xs)
theorem BlksAt.keep {T:TypeId} {B:Nat} {w w':World} {l:List Blk} {xs:List Value} (h:BlksAt B w l xs) (hk:KeepT T w w') (h1:413≠T) (h2:345≠T):BlksAt B w' l xs:=by
 induction h with
 | nil=>exact .nil
 | cons a _ ih=>exact .cons (a.keep hk h1 h2) ih
theorem BlksAt.append {B:Nat} {w:World} {l m:List Blk} {xs ys:List Value} (h:BlksAt B w l xs) (g:BlksAt B w m ys):BlksAt B w (l++m) (xs++ys):=by
 induction h with
 | nil=>exact g
 | cons a _ ih=>rw [List.cons_append,List.append_assoc];exact .cons a ih
theorem BlksAt.snoc {B:Nat} {w:World} {l:List Blk} {xs:List Value} (h:BlksAt B w l xs) (x:Blk) {q:Option Addr} (k:Nat) (hx:ArgsIn B w q x.args):BlksAt B w (l++ [x]) (xs++(bkCells x (.slice q x.args.length k)).toList):=by
 have h2:=h.append (.cons (k:=k) hx .nil)
 rwa [List.append_nil] at h2
theorem BlksAt.get {B:Nat} {w:World} {l:List Blk} {xs:List Value} (h:BlksAt B w l xs):∀(i:Nat) (hi:i < l.length),∃q c,xs[i *4]?=some (.int .i64 l[i].k)∧xs[i *4+1]?=some (.int .i64 l[i].n)∧xs[i *4+2]?=some (.string ⟨l[i].t.toArray⟩)∧xs[i *4+3]?=some (.slice q l[i].args.length c)∧ArgsIn B w q l[i].args:=by
 induction h with
 | nil=>exact fun i hi=>absurd hi (Nat.not_lt_zero _)
 | cons a _ ih=>
  intro i hi
  cases i with
  | zero=>exact ⟨_,_,rfl,rfl,rfl,rfl,a⟩
  | succ i=>
   obtain ⟨q,c,g0,g1,g2,g3,g4⟩:=ih i (Nat.lt_of_succ_lt_succ hi)
   refine ⟨q,c,?_,?_,?_,?_,g4⟩
   ·rw [show (i+1) *4=i *4+1+1+1+1 by omega];exact g0
   ·rw [show (i+1) *4+1=(i *4+1)+1+1+1+1 by omega];exact g1
   ·rw [show (i+1) *4+2=(i *4+2)+1+1+1+1 by omega];exact g2
   ·rw [show (i+1) *4+3=(i *4+3)+1+1+1+1 by omega];exact g3
theorem blks_row {w:World} {B:Nat} {v:Value} {l:List Blk} {xs:List Value} (h:w.ownsRow B 259 4 v l.length xs) (ha:BlksAt B w l xs):∃p c,v= .slice p l.length c∧BlksIn B w p l:=by
 rcases h.2 with ⟨h1,h2⟩|⟨g,c,cur,h1,h2,h3,h4,h5,h6,h7⟩
 ·exact ⟨none,0,by rw [h1,h2],fun hl=>absurd hl (by omega)⟩
 ·refine ⟨_,c,h1,fun hl=>⟨g,0,cur,rfl,h2,h3,fun i hi=>?_⟩⟩
  obtain ⟨q,k,g0,g1,g2,g3,g4⟩:=ha.get i hi
  have key:∀j,j < l.length *4→cur[j]?=xs[j]?:=fun j hj=>by
   rw [←h7,List.getElem?_take_of_lt hj,Array.getElem?_toList]
  refine ⟨q,k,?_,?_,?_,?_,g4⟩
  ·rw [Nat.zero_add,key _ (by omega)];exact g0
  ·rw [Nat.zero_add,key _ (by omega)];exact g1
  ·rw [Nat.zero_add,key _ (by omega)];exact g2
  ·rw [Nat.zero_add,key _ (by omega)];exact g3
def BlksOut (bs:List Blk) (i e:Nat) (w:World) (en:Ending) (w':World):Prop:=Below w.heap.size w w'∧∃q k,en= .returned (.tuple #[.slice q bs.length k, .int .i64 (i:Int), .int .i64 (e:Int)])∧BlksIn w.heap.size w' q bs
def blksK:Except (Nat × Nat) (List Blk)→List Blk × Nat × Nat
 | .error (i,e)=>([],i,e)
 | .ok b=>(b,0,0)
theorem blocksV_K (l:List (List UInt8)) (h:¬500 < l.length):blocksV l=blksK (blocksN l 0 []):=by
 unfold blocksV
 rw [if_neg h]
 cases blocksN l 0 [] <;> rfl
def aftB (k:Nat) (r:List (List UInt8)) (acc:List Blk):Except Nat Blk→Except (Nat × Nat) (List Blk)
 | .error e=> .error (k,e)
 | .ok b=>blocksN r (k+1) (acc++ [b])
theorem blocksN_at {l:List (List UInt8)} {k:Nat} (h:k < l.length) (acc:List Blk):blocksN (l.drop k) k acc=aftB k (l.drop (k+1)) acc (blockV l[k]):=by
 rw [List.drop_eq_getElem_cons h]
 show (match blockV l[k] with | .error e=>_ | .ok b=>_)=_
 cases blockV l[k] <;> rfl
theorem info_bk:(Tryz.prog.info? 259).map (fun i=>(i.zero,i.size,i.bytes))=some (some (.agg #[.int .i64 0, .int .i64 0, .string ⟨#[]⟩, .slice none 0 0]),4,56):=by kernel_rfl
theorem blks_push {w W X w1:World} {v v':Value} {acc:List Blk} {xs:List Value} {x:Blk} {q:Option Addr} {k:Nat} (hx:W.ownsRow w.heap.size 259 4 v acc.length xs) (ha:BlksAt w.heap.size W acc xs) (hai:ArgsIn w.heap.size W q x.args) (hB:Below w.heap.size w W) (hX:Below W.heap.size W X) (hg:X.grownBy w1 v.ownBlock) (ho:w1.ownsRow w.heap.size 259 4 v' (acc.length+1) (xs++(bkCells x (.slice q x.args.length k)).toList)):
  (∃ys,w1.ownsRow w.heap.size 259 4 v' (acc++ [x]).length ys∧BlksAt w.heap.size w1 (acc++ [x]) ys)∧Below w.heap.size w w1:=by
 have hx1:=row_below hx hX
 have hK:KeepT 259 W w1:=(KeepT.of_below hX).trans (.grown hx1 hg)
 refine ⟨⟨_,?_,(ha.keep hK (by decide) (by decide)).snoc x k (hai.keep hK (by decide) (by decide))⟩,?_⟩
 ·rw [show (acc++ [x]).length=acc.length+1 by simp]
  exact ho
 ·have hb2:=hB.trans (hX.mono hB.size)
  exact hb2.grown hg hb2.size (fun k hk=>(hx1.lt _ hk).1)
set_option maxRecDepth 100000 in
set_option maxHeartbeats 12800000 in
theorem blocks_c (p:Option Addr) (cap:Nat) (l:List (List UInt8)) (w:World) (hin:Hid (StrsIn w p l)) (hn:l.length≤1000000) (hs:Hid (∀s∈l,s.length≤1000000000)) (bs:List Blk) (i e:Nat) (h:Hid (blocksV l=(bs,i,e))):
  Calls Tryz.prog 92 #[.slice p l.length cap] w (BlksOut bs i e w):=by
 by_cases h5:500 < l.length
 ·have hl:=h.out
  unfold blocksV at hl
  rw [if_pos h5] at hl
  simp only [Prod.mk.injEq] at hl
  obtain ⟨rfl,rfl,rfl⟩:=hl
  have h5i:(500:Int)<(l.length:Int):=by omega
  clear h
  go_enter Tryz.func92,Tryz.ntmps92
  go_wp2_with fail
  go_ret3
  exact ⟨Below.refl _ _,none,0,rfl,BlksIn.nil _ _ _⟩
 ·have h5i:¬(500:Int)<(l.length:Int):=by omega
  have hl:=h.out
  rw [blocksV_K l h5] at hl
  have HL:=Lib.hid hl
  clear hl h
  go_enter Tryz.func92,Tryz.ntmps92
  go_wp2_with fail
  go_loopw [5,15] (fun u x wr=>∃(k:Nat) (acc:List Blk),k≤l.length∧Hid (acc.length=k)∧x= .int .i64 (k:Int)∧Hid (∃xs,wr.ownsRow w.heap.size 259 4 u acc.length xs∧BlksAt w.heap.size wr acc xs)∧Hid (Below w.heap.size w wr)∧Hid (blksK (blocksN (l.drop k) k acc)=(bs,i,e))) (fun _ x _=>l.length -(intOf x).toNat)
  case atStart=>exact ⟨0, [],Nat.zero_le _,rfl,rfl,⟨[],World.ownsRow_nil _ _ _ _, .nil⟩,Below.refl _ _,HL⟩
  case round=>
   obtain ⟨k,acc,hk,HAK,rfl,HX,HB,HR⟩:=hrel
   obtain ⟨xs,hx,ha⟩:=HX.out
   obtain ⟨pv,cv,rfl,hbi⟩:=blks_row hx ha
   have HXX:=Lib.hid hx
   have HA:=Lib.hid ha
   have HBI:=Lib.hid hbi
   clear hx ha hbi HX
   by_cases hlt:k < l.length
   ·have hr:=HR.out
    rw [blocksN_at hlt] at hr
    obtain ⟨S,hS⟩:=str_ex l[k]
    rw [←hS] at hr
    obtain ⟨rb,hrb⟩:∃rb,blockV S.data.toList=rb:=⟨_,rfl⟩
    have HRB:=Lib.hid hrb
    rw [hrb] at hr
    have HR2:=Lib.hid hr
    obtain ⟨b,o,rfl,hblt,hc⟩:=hin.out (by omega)
    have hck:wr.cell? ⟨b,o+k,none⟩=some (.string S):=by
     rw [HB.out.cell (p:=⟨b,o+k,none⟩) hblt,hc k hlt,←hS]
    have HSS:Hid (S.size≤1000000000):=by
     show _≤_
     rw [←len_list,hS]
     exact hs.out _ (List.getElem_mem hlt)
    have hlti:(k:Int)<(l.length:Int):=by omega
    clear hr hrb hS hc HR
    go_wp2_with fail
    with_reducible refine (mparse_c S HSS.out rb HRB _).mono ?_
    rintro en w5 ⟨hb5,hx5⟩
    have HB5:=Lib.hid (HB.out.trans (hb5.mono HB.out.size))
    have HXX5:=Lib.hid (row_below HXX.out hb5)
    have HA5:=Lib.hid (HA.out.keep (T:=0) (.of_below hb5) (by decide) (by decide))
    clear hb5 HXX HA HBI
    cases rb with
    | error n=>
     obtain rfl:en= .returned (.tuple #[bkVal Gp.b0 nils, .int .i64 (n:Int)]):=hx5
     have hn0:n≠0:=blockV_ne HRB.out
     have hni:((n:Int) !=0)=true:=by simp;omega
     have hq:=HR2.out
     unfold aftB blksK at hq
     simp only [Prod.mk.injEq] at hq
     obtain ⟨rfl,rfl,rfl⟩:=hq
     unfold bkVal bkCells Gp.b0
     clear hn0 HR2
     go_wp2_with fail
     go_ret3
     exact ⟨HB5.out.alloc HB5.out.size _,none,0,rfl,BlksIn.nil _ _ _⟩
    | ok x=>
     obtain ⟨q,c,rfl,hai⟩:=hx5
     have HAI:=Lib.hid (hai.mono HB.out.size)
     unfold bkVal bkCells
     clear hai
     have hal:acc.length≤1000000:=by have:=HAK.out;omega
     obtain ⟨i0,hi0,hz0,hz1,hz2⟩:=info_parts info_bk
     have HI:=Lib.hid (And.intro hi0 (And.intro hz0 (And.intro hz1 hz2)))
     clear hi0 hz0 hz1 hz2
     go_wp2_with (at_builtin;refine wpList_append_own _ rfl _ _ _ rfl w.heap.size 259 i0 (.agg #[.int .i64 0, .int .i64 0, .string ⟨#[]⟩, .slice none 0 0]) 4 56 Tryz.underlying102 HI.out.1 HI.out.2.1 HI.out.2.2.1 HI.out.2.2.2 rfl (by omega) (.slice pv acc.length cv) acc.length (xs) (by rfl) ((HXX5.out.alloc _).alloc _) ⟨w5.heap.size+1,0,none⟩ 1 1 [.int .i64 x.k, .int .i64 x.n, .string ⟨x.t.toArray⟩, .slice q x.args.length c] (by rfl) rfl (World.news_of_block (two_new w5 _ _)) (by simp [Value.oneCell']) (by unfold maxLen;omega) (by omega) (by have:=HB5.out.size;simp <;> omega) ?_;intro v' w' hown' hgrow' hnn';obtain ⟨g',cap',rfl,_,_⟩:=hown'.form (by omega);have HN:Hid ((∃ys,w'.ownsRow w.heap.size 259 4 (.slice (some ⟨g',0,none⟩) (acc.length+1) cap') (acc++ [x]).length ys∧BlksAt w.heap.size w' (acc++ [x]) ys)∧Below w.heap.size w w'):=blks_push HXX5.out HA5.out (k:=c) HAI.out HB5.out (((Below.refl _ _).alloc (Nat.le_refl _) _).alloc (by simp) _) hgrow' hown';clear hown' hgrow' hnn')
     go_round
     case rel=>exact ⟨k+1,acc++ [x],by omega,(by have:=HAK.out;show (acc++ [x]).length=k+1;rw [List.length_append];simp only [List.length_singleton];omega),by go_num,HN.out.1,HN.out.2,HR2⟩
     case measure=>simp [intOf];omega
   ·have hke:k=l.length:=by omega
    have hlti:¬(k:Int)<(l.length:Int):=by omega
    have hq:=HR.out
    rw [hke,List.drop_length] at hq
    have hq2:(acc,0,0)=(bs,i,e):=hq
    simp only [Prod.mk.injEq] at hq2
    obtain ⟨rfl,rfl,rfl⟩:=hq2
    clear hq HR
    go_wp2_with fail
    go_ret3
    exact ⟨HB.out,_,_,rfl,HBI.out⟩
end Go.Proofs.YtfldplmgkeiimaaGreatDoor.GW
