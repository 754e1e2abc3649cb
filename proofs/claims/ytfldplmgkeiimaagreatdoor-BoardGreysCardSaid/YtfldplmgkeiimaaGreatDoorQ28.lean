/-
  Several texts of this proof in one: Gy.
-/
import Derived.Test.YtfldplmgkeiimaaGreatDoorQ27
set_option linter.unusedVariables false
set_option linter.unusedSimpArgs false
namespace Go.Proofs.YtfldplmgkeiimaaGreatDoor.GW
open Go.RowKit Go.Proofs.YtfldplmgkeiimaaGreatDoor.Base Go.Proofs.YtfldplmgkeiimaaGreatDoor.Dp Go.Proofs.YtfldplmgkeiimaaGreatDoor.DeciW Go.Proofs.YtfldplmgkeiimaaGreatDoor.Mem Go.Proofs.YtfldplmgkeiimaaGreatDoor.RdW Go.Proofs.YtfldplmgkeiimaaGreatDoor.Gp
inductive ArgsAt (B:Nat) (w:World):List (List (Int × Int))→List Value→Prop
 | nil:ArgsAt B w [] []
 | cons {x:List (Int × Int)} {l:List (List (Int × Int))} {q:Option Addr} {k:Nat} {xs:List Value}:OpsIn B w q x→ArgsAt B w l xs→ArgsAt B w (x :: l) (.slice q x.length k :: xs)
theorem ArgsAt.keep {T:TypeId} {B:Nat} {w w':World} {l:List (List (Int × Int))} {xs:List Value} (h:ArgsAt B w l xs) (hk:KeepT T w w') (hT:413≠T):ArgsAt B w' l xs:=by
 induction h with
 | nil=>exact .nil
 | cons a _ ih=>exact .cons (a.keep hk hT) ih
theorem ArgsAt.snoc {B:Nat} {w:World} {l:List (List (Int × Int))} {xs:List Value} (h:ArgsAt B w l xs) {x:List (Int × Int)} {q:Option Addr} (k:Nat) (hx:OpsIn B w q x):ArgsAt B w (l++ [x]) (xs++ [.slice q x.length k]):=by
 induction h with
 | nil=>exact .cons hx .nil
 | cons a _ ih=>exact .cons a ih
theorem ArgsAt.get {B:Nat} {w:World} {l:List (List (Int × Int))} {xs:List Value} (h:ArgsAt B w l xs):∀(i:Nat) (hi:i < l.length),∃q c,xs[i]?=some (.slice q l[i].length c)∧OpsIn B w q l[i]:=by
 induction h with
 | nil=>exact fun i hi=>absurd hi (Nat.not_lt_zero _)
 | cons a _ ih=>
  intro i hi
  cases i with
  | zero=>exact ⟨_,_,rfl,a⟩
  | succ i=>exact ih i (Nat.lt_of_succ_lt_succ hi)
theorem args_row {w:World} {B:Nat} {v:Value} {l:List (List (Int × Int))} {xs:List Value} (h:w.ownsRow B 345 1 v l.length xs) (ha:ArgsAt B w l xs):∃p c,v= .slice p l.length c∧ArgsIn B w p l:=by
 rcases h.2 with ⟨h1,h2⟩|⟨g,c,cur,h1,h2,h3,h4,h5,h6,h7⟩
 ·exact ⟨none,0,by rw [h1,h2],fun hl=>absurd hl (by omega)⟩
 ·refine ⟨_,c,h1,fun hl=>⟨g,0,cur,rfl,h2,h3,fun i hi=>?_⟩⟩
  obtain ⟨q,k,g1,g2⟩:=ha.get i hi
  refine ⟨q,k,?_,g2⟩
  rw [Nat.zero_add,←Array.getElem?_toList,←g1,←h7,List.getElem?_take_of_lt (by omega)]
structure PB (w:World) (b:Nat) (n:Int) (av:Value) (acc:List (List (Int × Int))) (W:World):Prop where
 gt:w.heap.size < b
 r:W.heap[w.heap.size]?=some zBk
 pb:W.heap[b]?=some (.cells #[.int .i64 3, .int .i64 n, .string ⟨#[]⟩,av] 259)
 row:∃xs,W.ownsRow w.heap.size 345 1 av acc.length xs∧ArgsAt w.heap.size W acc xs
 bel:Below w.heap.size w W
theorem PB.below {w W W':World} {b:Nat} {n:Int} {av:Value} {acc:List (List (Int × Int))} (h:PB w b n av acc W) (hb:Below W.heap.size W W'):PB w b n av acc W':=by
 obtain ⟨xs,h1,h2⟩:=h.row
 exact ⟨h.gt,one_below h.r hb,one_below h.pb hb,⟨xs,row_below h1 hb,h2.keep (T:=0) (.of_below hb) (by decide)⟩,h.bel.trans (hb.mono h.bel.size)⟩
theorem PB.push {w W X w1:World} {b:Nat} {n:Int} {av v':Value} {acc:List (List (Int × Int))} {xs:List Value} {l:List (Int × Int)} {q:Option Addr} {k:Nat} (h:PB w b n av acc W) (hx:W.ownsRow w.heap.size 345 1 av acc.length xs) (ha:ArgsAt w.heap.size W acc xs) (hX:Below W.heap.size W X) (hg:X.grownBy w1 av.ownBlock) (ho:w1.ownsRow w.heap.size 345 1 v' (acc.length+1) (xs++ [.slice q l.length k])) (hl:OpsIn w.heap.size W q l):
  PB w b n v' (acc++ [l]) (w1.setCell ⟨b,3,none⟩ v')∧w1.heap[b]?=some (.cells #[.int .i64 3, .int .i64 n, .string ⟨#[]⟩,av] 259):=by
 have h1:=h.below hX
 have hx1:=row_below hx hX
 have lt:∀{k:Nat} {o:Obj},X.heap[k]?=some o→k < X.heap.size:=fun hk=>(Array.getElem?_eq_some_iff.1 hk).1
 have hr:w1.heap[w.heap.size]?=some zBk:=(hg.block _ (lt h1.r) (Ne.symm (own_ne hx1 h1.r (by decide)))).trans h1.r
 have hp:w1.heap[b]?=some (.cells #[.int .i64 3, .int .i64 n, .string ⟨#[]⟩,av] 259):=(hg.block _ (lt h1.pb) (Ne.symm (own_ne hx1 h1.pb (by decide)))).trans h1.pb
 have hK:KeepT 345 W w1:=(KeepT.of_below hX).trans (.grown hx1 hg)
 have hK2:KeepT 259 w1 (w1.setCell ⟨b,3,none⟩ v'):= .set hp v'
 refine ⟨⟨h.gt,?_,?_,⟨_,?_,((ha.keep hK (by decide)).snoc k (hl.keep hK (by decide))).keep hK2 (by decide)⟩,?_⟩,hp⟩
 ·exact (Below.heap_setCell _ _ _ _ (by show w.heap.size≠b;have:=h.gt;omega)).trans hr
 ·rw [heap_here hp];rfl
 ·rw [show (acc++ [l]).length=acc.length+1 by simp]
  exact row_set ho hp (by decide) _
 ·exact ((h1.bel.grown hg h1.bel.size (fun k hk=>(hx1.lt _ hk).1))).setCell (Nat.le_of_lt h.gt) _
def primK (n:Int):Except Nat (List (List (Int × Int)))→Except Nat Blk
 | .error e=> .error e
 | .ok l=>if fitsP n l.length=true then .ok ⟨3,n, [],l⟩ else .error 3
theorem argsV_succ (f:Nat) (s:List UInt8) (acc:List (List (Int × Int))):argsV (f+1) s acc=if acc.length=1100 then .error 6 else match Ep.parseV (cutB 44 s).1 with
 |(l,_,e)=>if e≠0 then .error e else if (cutB 44 s).2.2=true then argsV f (cutB 44 s).2.1 (acc++ [l]) else .ok (acc++ [l]):=rfl
theorem bprimV_yes {s d r:List UInt8} (h:numberV s=some (d,r)) (h44:r.headD 0=44) (hp:primV d≠0):bprimV s=primK (primV d) (argsV (r.length+1) (r.drop 1) []):=by
 unfold bprimV
 rw [h]
 simp only []
 rw [if_neg (fun hh=>hh h44),if_neg hp]
 cases argsV (r.length+1) (r.drop 1) [] <;> rfl
theorem bprimV_none {s d r:List UInt8} (h:numberV s=some (d,r)) (h44:r.headD 0=44) (hp:primV d=0):bprimV s= .error 8:=by
 unfold bprimV
 rw [h]
 simp only []
 rw [if_neg (fun hh=>hh h44),if_pos hp]
theorem bprimV_head {s d r:List UInt8} (h:numberV s=some (d,r)) (h44:r.headD 0≠44):bprimV s= .error 3:=by
 unfold bprimV
 rw [h]
 simp only []
 rw [if_pos h44]
theorem bprimV_num {s:List UInt8} (h:numberV s=none):bprimV s= .error 3:=by
 unfold bprimV
 rw [h]
theorem primV_some (d:List UInt8) (h:primV d≠0):primV d=1∨primV d=4∨primV d=7∨primV d=20∨primV d=21:=by
 unfold primV at h⊢
 split
 ·exact .inl rfl
 ·split
  ·exact .inr (.inl rfl)
  ·split
   ·exact .inr (.inr (.inl rfl))
   ·split
    ·exact .inr (.inr (.inr (.inl rfl)))
    ·split
     ·exact .inr (.inr (.inr (.inr rfl)))
     ·rename_i h1 h2 h3 h4 h5
      rw [if_neg h1,if_neg h2,if_neg h3,if_neg h4,if_neg h5] at h
      exact absurd rfl h
theorem info_args:(Tryz.prog.info? 345).map (fun i=>(i.zero,i.size,i.bytes))=some (some (.slice none 0 0),1,24):=by kernel_rfl
set_option maxRecDepth 100000 in
set_option maxHeartbeats 12800000 in
theorem prim_c (S:ByteArray) (hs:S.size≤1000000000) (res:Except Nat Blk) (hr:Hid (bprimV S.data.toList=res)) (w:World):
  Calls Tryz.prog 181 #[.string S] w (BlkOut res w):=by
 have HS:=Lib.hid hs
 have hl:=hr.out
 obtain ⟨o,ho⟩:=nb_ex S.data.toList
 have HO:=Lib.hid ho
 clear hr hs
 have HZ:Hid (ZB w (w.alloc (.cells #[.int .i64 0, .int .i64 0, .string ⟨#[]⟩, .slice none 0 0] 259))):=zb_new w
 go_enter Tryz.func181,Tryz.ntmps181
 go_upto_region 1 with fail
 generalize w.alloc (.cells #[.int .i64 0, .int .i64 0, .string ⟨#[]⟩, .slice none 0 0] 259)=W at HZ⊢
 go_wp2_with fail
 with_reducible refine (number_c S HS.out o HO _).mono ?_
 rintro e W2 ⟨he,hd⟩
 have HZ2:=Lib.hid (HZ.out.below (drew_below hd))
 clear hd HZ
 have HZ:=HZ2
 clear HZ2
 cases o with
 | none=>
  have HQ:Hid (Except.error 3=res):=by show _=_;rw [←hl,bprimV_num ho]
  unfold NbOut at he
  simp only [] at he
  subst he
  clear hl ho HO
  obtain ⟨⟨c0,c1,c2,c3⟩,f0,f1,f2,f3⟩:=bk_at HZ.out.a
  have HF:=Lib.hid (bk_fin HZ.out Gp.b0 nils)
  go_wp2_with fail
  refine bodyPost_ret (w:=bkSet W2 w.heap.size Gp.b0 nils) (v:= .tuple #[bkVal Gp.b0 nils, .int .i64 3]) ?_ rfl ?_
  ·clear c0 c1 c2 c3 f0 f1 f2 f3
   generalize bkSet W2 w.heap.size Gp.b0 nils=WE at HF⊢
   obtain ⟨⟨c0,c1,c2,c3⟩,_⟩:=bk_at HF.out.1
   simp [results,Tryz.results181,go_sem,c0,c1,c2,c3] <;> rfl
  ·rw [←HQ.out]
   exact ⟨HF.out.2,rfl⟩
 | some x=>
  obtain ⟨D,R⟩:=x
  unfold NbOut at he
  simp only [] at he
  subst he
  obtain ⟨hd0,hd1,hd2,hd3⟩:=number_digs ho
  rw [len_list,len_list] at hd2 hd3
  have hd2:D.size≤S.size:=hd2
  have hd3:R.size≤S.size:=hd3
  simp only [Option.map_some] at ho
  have HH:Hid (decide (R.data.toList.take (⟨#[44]⟩:ByteArray).data.toList.length=(⟨#[44]⟩:ByteArray).data.toList)=decide (R.data.toList.headD 0=44)):=take1 _ (by decide)
  by_cases h44:R.data.toList.headD 0=44
  ·rw [decide_eq_true h44] at HH
   have hrp:0 < R.size:=by
    rw [←len_list]
    cases hq:R.data.toList with
    | nil=>rw [hq] at h44;exact absurd h44 (by decide)
    | cons a b=>simp
   have hr1:(1:Int)≤(R.size:Int):=by omega
   obtain ⟨n,hn⟩:∃n,primV D.data.toList=n:=⟨_,rfl⟩
   have HN:=Lib.hid hn
   have HB:Hid (PB w W2.heap.size n nils [] (W2.alloc (.cells #[.int .i64 3, .int .i64 n, .string ⟨#[]⟩, .slice none 0 0] 259))):=
    ⟨(Array.getElem?_eq_some_iff.1 HZ.out.a).1,one_below HZ.out.a ((Below.refl _ _).alloc (Nat.le_refl _) _),heap_alloc_new W2 _,⟨[],World.ownsRow_nil _ _ _ _, .nil⟩,HZ.out.b.alloc HZ.out.b.size _⟩
   have HX:Hid (n=0→res= .error 8):=fun h=>by rw [←hl,bprimV_none ho h44 (by rw [hn];exact h)]
   have HY:Hid (n≠0→primK n (argsV (R.size+1) (R.extract 1 R.size).data.toList [])=res):=fun h=>by
    rw [←hl,bprimV_yes ho h44 (by rw [hn];exact h),hn,len_list,ext_list]
   have HV:Hid (n≠0→n=1∨n=4∨n=7∨n=20∨n=21):=fun h=>by rw [←hn];exact primV_some _ (by rw [hn];exact h)
   have HRS:Hid ((R.extract 1 R.size).size < R.size+1∧R.size≤1000000000):=by
    refine ⟨?_,by have:=HS.out;omega⟩
    rw [←len_list,ext_list,List.length_drop,len_list]
    omega
   clear hl ho HO hd0 hd1 hd2 hd3 h44 hn hrp
   generalize hbc:W2.heap.size=bc at HB
   go_wp2_with fail
   with_reducible refine (has_c _ _ _ HH _).mono ?_
   rintro e w3 ⟨rfl,rfl⟩
   go_wp2_with fail
   with_reducible refine (primitive_c D n HN _).mono ?_
   rintro e w4 ⟨rfl,rfl⟩
   go_upto_region 5 with fail
   generalize W2.alloc _=W4 at HB⊢
   clear HZ hbc
   by_cases h0:n=0
   ·have HQ:Hid (Except.error 8=res):=(HX.out h0).symm
    have n0:(n==0)=true:=by simp [h0]
    obtain ⟨⟨d0,d1,d2,d3⟩,g0,g1,g2,g3⟩:=bk_at HB.out.pb
    have HZ:Hid (ZB w W4):=⟨HB.out.r,HB.out.bel⟩
    clear h0 HX HY HV
    obtain ⟨⟨c0,c1,c2,c3⟩,f0,f1,f2,f3⟩:=bk_at HZ.out.a
    have HF:=Lib.hid (bk_fin HZ.out Gp.b0 nils)
    go_wp2_with fail
    refine bodyPost_ret (w:=bkSet W4 w.heap.size Gp.b0 nils) (v:= .tuple #[bkVal Gp.b0 nils, .int .i64 8]) ?_ rfl ?_
    ·clear c0 c1 c2 c3 f0 f1 f2 f3
     generalize bkSet W4 w.heap.size Gp.b0 nils=WE at HF⊢
     obtain ⟨⟨c0,c1,c2,c3⟩,_⟩:=bk_at HF.out.1
     simp [results,Tryz.results181,go_sem,c0,c1,c2,c3] <;> rfl
    ·rw [←HQ.out]
     exact ⟨HF.out.2,rfl⟩
   ·have n0:(n==0)=false:=by simp [h0]
    have HR:=Lib.hid (HY.out h0)
    have HNV:=Lib.hid (HV.out h0)
    obtain ⟨⟨d0,d1,d2,d3⟩,g0,g1,g2,g3⟩:=bk_at HB.out.pb
    clear h0 HX HY HV
    go_upto_region 9 with fail
    clear d0 d1 d2 d3 g0 g1 g2 g3
    go_loopw [5,8] (fun l s wr=>∃(f:Nat) (LS:ByteArray) (sb:Bool) (acc:List (List (Int × Int))) (av:Value),l= .string LS∧s= .bool sb∧Hid (PB w bc n av acc wr)∧Hid (LS.size≤1000000000)∧Hid (sb=true→LS.size < f)∧Hid (acc.length≤1100)∧Hid (primK n (if sb=true then argsV f LS.data.toList acc else .ok acc)=res)) (fun l s _=>boolN s *(Lib.strSize l+1))
    case atStart=>exact ⟨R.size+1,R.extract 1 R.size,true, [],nils,rfl,rfl,HB,(by have:=HRS.out;show _≤_;omega),fun _=>HRS.out.1,Nat.zero_le _,HR⟩
    case round=>
     obtain ⟨f,LS,sb,acc,av,rfl,rfl,HB,HLS,HF1,HF2,HR⟩:=hrel
     obtain ⟨xs,hx,ha⟩:=HB.out.row
     obtain ⟨p,cap,rfl,hai⟩:=args_row hx ha
     have HX:=Lib.hid hx
     have HA:=Lib.hid ha
     have HAI:=Lib.hid hai
     have hgb:acc.length≤1100:=HF2.out
     clear hx ha hai
     obtain ⟨⟨d0,d1,d2,d3⟩,g0,g1,g2,g3⟩:=bk_at HB.out.pb
     have HZ:Hid (ZB w wr):=⟨HB.out.r,HB.out.bel⟩
     cases sb with
     | false=>
      obtain ⟨b,hb⟩:∃b,fitsP n acc.length=b:=⟨_,rfl⟩
      have HFB:=Lib.hid hb
      have hr:=HR.out
      rw [if_neg (by decide)] at hr
      unfold primK at hr
      simp only [] at hr
      rw [hb] at hr
      clear hb HR
      go_wp2_with fail
      with_reducible refine (fits_c n acc.length p cap b HNV.out HF2.out HFB _).mono ?_
      rintro e w5 ⟨rfl,hb5⟩
      have HB5:=Lib.hid (HB.out.below hb5)
      have HAI5:=Lib.hid (HAI.out.keep (.of_below (T:=0) hb5) (by decide) (by decide))
      have HZ5:=Lib.hid (HZ.out.below hb5)
      clear hb5 HZ HB d0 d1 d2 d3 g0 g1 g2 g3 HX HA HAI
      have HZ:=HZ5
      clear HZ5
      obtain ⟨⟨d0,d1,d2,d3⟩,g0,g1,g2,g3⟩:=bk_at HB5.out.pb
      cases b with
      | false=>
       have HQ:Hid (Except.error 3=res):=hr
       clear hr
       obtain ⟨⟨c0,c1,c2,c3⟩,f0,f1,f2,f3⟩:=bk_at HZ.out.a
       have HF:=Lib.hid (bk_fin HZ.out Gp.b0 nils)
       go_wp2_with fail
       refine bodyPost_ret (w:=bkSet w5 w.heap.size Gp.b0 nils) (v:= .tuple #[bkVal Gp.b0 nils, .int .i64 3]) ?_ rfl ?_
       ·clear c0 c1 c2 c3 f0 f1 f2 f3
        generalize bkSet w5 w.heap.size Gp.b0 nils=WE at HF⊢
        obtain ⟨⟨c0,c1,c2,c3⟩,_⟩:=bk_at HF.out.1
        simp [results,Tryz.results181,go_sem,c0,c1,c2,c3] <;> rfl
       ·rw [←HQ.out]
        exact ⟨HF.out.2,rfl⟩
      | true=>
       have HQ:Hid (Except.ok ⟨3,n, [],acc⟩=res):=hr
       clear hr
       have HKK:=Lib.hid (bkSet_keep HZ.out.a ⟨3,n, [],acc⟩ (.slice p acc.length cap))
       have HF:=Lib.hid (bk_fin HZ.out ⟨3,n, [],acc⟩ (.slice p acc.length cap))
       obtain ⟨⟨c0,c1,c2,c3⟩,f0,f1,f2,f3⟩:=bk_at HZ.out.a
       go_wp2_with fail
       refine bodyPost_ret (w:=bkSet w5 w.heap.size ⟨3,n, [],acc⟩ (.slice p acc.length cap)) (v:= .tuple #[bkVal ⟨3,n, [],acc⟩ (.slice p acc.length cap), .int .i64 0]) ?_ rfl ?_
       ·clear c0 c1 c2 c3 f0 f1 f2 f3 d0 d1 d2 d3 g0 g1 g2 g3 HKK
        generalize bkSet w5 w.heap.size ⟨3,n, [],acc⟩ (.slice p acc.length cap)=WE at HF⊢
        obtain ⟨⟨c0,c1,c2,c3⟩,_⟩:=bk_at HF.out.1
        simp [results,Tryz.results181,go_sem,c0,c1,c2,c3] <;> rfl
       ·rw [←HQ.out]
        exact ⟨HF.out.2,_,_,rfl,HAI5.out.keep HKK.out (by decide) (by decide)⟩
     | true=>
      obtain ⟨g,rfl⟩:∃g,f=g+1:=⟨f - 1,by have:=HF1.out rfl;omega⟩
      have HG:Hid (LS.size < g+1):=HF1.out rfl
      clear HF1
      have hr:=HR.out
      rw [if_pos rfl,argsV_succ] at hr
      by_cases hm:acc.length=1100
      ·rw [if_pos hm] at hr
       have HQ:Hid (Except.error 6=res):=hr
       have hmi:((acc.length:Int)==1100)=true:=by simp;omega
       clear hr hm HR
       obtain ⟨⟨c0,c1,c2,c3⟩,f0,f1,f2,f3⟩:=bk_at HZ.out.a
       have HF:=Lib.hid (bk_fin HZ.out Gp.b0 nils)
       go_wp2_with fail
       refine bodyPost_ret (w:=bkSet wr w.heap.size Gp.b0 nils) (v:= .tuple #[bkVal Gp.b0 nils, .int .i64 6]) ?_ rfl ?_
       ·clear c0 c1 c2 c3 f0 f1 f2 f3
        generalize bkSet wr w.heap.size Gp.b0 nils=WE at HF⊢
        obtain ⟨⟨c0,c1,c2,c3⟩,_⟩:=bk_at HF.out.1
        simp [results,Tryz.results181,go_sem,c0,c1,c2,c3] <;> rfl
       ·rw [←HQ.out]
        exact ⟨HF.out.2,rfl⟩
      ·rw [if_neg hm] at hr
       have hmi:((acc.length:Int)==1100)=false:=by simp;omega
       obtain ⟨A2,hA2⟩:=str_ex (cutB 44 LS.data.toList).1
       obtain ⟨R2,hR2⟩:=str_ex (cutB 44 LS.data.toList).2.1
       obtain ⟨b2,hb2⟩:∃b,(cutB 44 LS.data.toList).2.2=b:=⟨_,rfl⟩
       have H2:Hid (cutB 44 LS.data.toList=(A2.data.toList,R2.data.toList,b2)):=by show _=_;rw [hA2,hR2,←hb2]
       have HL2:Hid (A2.size≤LS.size∧R2.size≤LS.size∧(b2=true→R2.size < LS.size)):=by
        have h1:=cutB_len1 44 LS.data.toList
        have h2:=cutB_len2 44 LS.data.toList
        have h3:=fun h=>cutB_lt (c:=44) (l:=LS.data.toList) h
        rw [←hA2,len_list,len_list] at h1
        rw [←hR2,len_list,len_list] at h2
        rw [←hR2,len_list,len_list,hb2] at h3
        exact ⟨h1,h2,h3⟩
       rw [←hA2,←hR2,hb2] at hr
       obtain ⟨⟨l,a,e⟩,hp⟩:∃x,Ep.parseV A2.data.toList=x:=⟨_,rfl⟩
       have HP:=Lib.hid hp
       rw [hp] at hr
       simp only [] at hr
       have HR2:=Lib.hid hr
       clear hr hp hA2 hR2 hb2 HR HX HA HAI HZ
       go_wp2_with fail
       with_reducible refine (cut_c LS HLS.out 44 A2 R2 b2 H2 _).mono ?_
       rintro e5 w5 ⟨rfl,hd⟩
       have HB5:=Lib.hid (HB.out.below (drew_below hd))
       clear hd HB d0 d1 d2 d3 g0 g1 g2 g3
       go_wp2_with fail
       with_reducible refine (parse_w A2 (Nat.le_trans (Nat.le_trans HL2.out.1 HLS.out) (by decide)) _ l a e HP).mono ?_
       rintro en w6 ⟨v,rfl,hv,hb6⟩
       obtain ⟨p6,c6,rfl,hops⟩:=ops_row hv
       have HB:=Lib.hid (HB5.out.below hb6)
       have HOP:=Lib.hid (hops.mono HB5.out.bel.size)
       clear hb6 hv hops HB5
       by_cases he:e=0
       ·subst he
        have HR3:Hid (primK n (if b2=true then argsV g R2.data.toList (acc++ [l]) else .ok (acc++ [l]))=res):=HR2.out
        clear HR2
        obtain ⟨xs,hx,ha⟩:=HB.out.row
        have HX:=Lib.hid hx
        have HA:=Lib.hid ha
        clear hx ha
        obtain ⟨⟨d0,d1,d2,d3⟩,g0,g1,g2,g3⟩:=bk_at HB.out.pb
        obtain ⟨i0,hi0,hz0,hz1,hz2⟩:=info_parts info_args
        have HI:=Lib.hid (And.intro hi0 (And.intro hz0 (And.intro hz1 hz2)))
        clear hi0 hz0 hz1 hz2
        go_wp2_with (at_builtin;refine wpList_append_own _ rfl _ _ _ rfl w.heap.size 345 i0 (.slice none 0 0) 1 24 Tryz.underlying257 HI.out.1 HI.out.2.1 HI.out.2.2.1 HI.out.2.2.2 rfl (by omega) (.slice p acc.length cap) acc.length (xs) (by rfl) (HX.out.alloc _) ⟨(w6).heap.size,0,none⟩ 1 1 [.slice p6 l.length c6] (by rfl) rfl (World.news_of_block (heap_alloc_new (w6) _)) (by simp [Value.oneCell']) (by unfold maxLen;omega) (by omega) (by have:=HB.out.bel.size;simp <;> omega) ?_;intro v' w' hown' hgrow' hnn';obtain ⟨g',cap',rfl,_,_⟩:=hown'.form (by omega);obtain ⟨ha',hb'⟩:=HB.out.push (l:=l) (q:=p6) (k:=c6) (v':= .slice (some ⟨g',0,none⟩) (acc.length+1) cap') HX.out HA.out ((Below.refl _ _).alloc (Nat.le_refl _) _) hgrow' hown' HOP.out;have HAA:=Lib.hid ha';have c1':w'.cell? ⟨bc,3,none⟩=some _:=cell_of_row w' bc 3 _ _ (0,0) hb';have f1':w'.frozen? ⟨bc,3,none⟩=false:=(by simp [World.frozen?,hb']);clear ha' hb';clear hown' hgrow' hnn')
        clear d0 d1 d2 d3 g0 g1 g2 g3
        go_round
        case rel=>exact ⟨g,R2,b2,acc++ [l],_,rfl,rfl,HAA,Nat.le_trans HL2.out.2.1 HLS.out,(fun h=>by have:=HG.out;have:=HL2.out.2.2 h;omega),(by show (acc++ [l]).length≤_;rw [List.length_append];simp only [List.length_singleton];omega),HR3⟩
        case measure=>
         show boolN (.bool b2) *(R2.size+1)< 1 *(LS.size+1)
         have:=HL2.out.2.2
         cases b2 with
         | false=>show 0 *(R2.size+1)< 1 *(LS.size+1);omega
         | true=>show 1 *(R2.size+1)< 1 *(LS.size+1);have:=this rfl;omega
       ·have hei:((e:Int) !=0)=true:=by simp;omega
        have HQ:Hid (Except.error e=res):=by
         show _=_
         rw [←HR2.out,if_pos he]
         rfl
        have HZ:Hid (ZB w w6):=⟨HB.out.r,HB.out.bel⟩
        clear HR2 he
        obtain ⟨⟨c0,c1,c2,c3⟩,f0,f1,f2,f3⟩:=bk_at HZ.out.a
        have HF:=Lib.hid (bk_fin HZ.out Gp.b0 nils)
        go_wp2_with fail
        refine bodyPost_ret (w:=bkSet w6 w.heap.size Gp.b0 nils) (v:= .tuple #[bkVal Gp.b0 nils, .int .i64 (e:Int)]) ?_ rfl ?_
        ·clear c0 c1 c2 c3 f0 f1 f2 f3
         generalize bkSet w6 w.heap.size Gp.b0 nils=WE at HF⊢
         obtain ⟨⟨c0,c1,c2,c3⟩,_⟩:=bk_at HF.out.1
         simp [results,Tryz.results181,go_sem,c0,c1,c2,c3] <;> rfl
        ·rw [←HQ.out]
         exact ⟨HF.out.2,rfl⟩
  ·have HQ:Hid (Except.error 3=res):=by show _=_;rw [←hl,bprimV_head ho h44]
   rw [decide_eq_false h44] at HH
   clear hl hd0 hd1 hd2 hd3 h44 ho HO
   go_wp2_with fail
   with_reducible refine (has_c _ _ _ HH _).mono ?_
   rintro e w3 ⟨rfl,rfl⟩
   obtain ⟨⟨c0,c1,c2,c3⟩,f0,f1,f2,f3⟩:=bk_at HZ.out.a
   have HF:=Lib.hid (bk_fin HZ.out Gp.b0 nils)
   go_wp2_with fail
   refine bodyPost_ret (w:=bkSet W2 w.heap.size Gp.b0 nils) (v:= .tuple #[bkVal Gp.b0 nils, .int .i64 3]) ?_ rfl ?_
   ·clear c0 c1 c2 c3 f0 f1 f2 f3
    generalize bkSet W2 w.heap.size Gp.b0 nils=WE at HF⊢
    obtain ⟨⟨c0,c1,c2,c3⟩,_⟩:=bk_at HF.out.1
    simp [results,Tryz.results181,go_sem,c0,c1,c2,c3] <;> rfl
   ·rw [←HQ.out]
    exact ⟨HF.out.2,rfl⟩
end Go.Proofs.YtfldplmgkeiimaaGreatDoor.GW
