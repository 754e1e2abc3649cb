/-
  Several texts of this proof in one: Gv.
-/
import Derived.Test.YtfldplmgkeiimaaGreatDoorQ25
set_option linter.unusedVariables false
set_option linter.unusedSimpArgs false
namespace Go.Proofs.YtfldplmgkeiimaaGreatDoor.GW
open Go.RowKit Go.Proofs.YtfldplmgkeiimaaGreatDoor.Base Go.Proofs.YtfldplmgkeiimaaGreatDoor.Dp Go.Proofs.YtfldplmgkeiimaaGreatDoor.DeciW Go.Proofs.YtfldplmgkeiimaaGreatDoor.Mem Go.Proofs.YtfldplmgkeiimaaGreatDoor.RdW Go.Proofs.YtfldplmgkeiimaaGreatDoor.Gp
def ExtOut (res:Except Nat C) (w:World) (e:Ending) (w':World):Prop:=Below w.heap.size w w'∧match res with
 | .ok c=>∃p k,e= .returned (.tuple #[cmVal c 0 (.slice p c.nums.length k) nils, .int .i64 0])∧NumsIn w.heap.size w' p c.nums∧c.blocks= []
 | .error n=>e= .returned (.tuple #[cmVal Gp.c0 0 nils nils, .int .i64 (n:Int)])
structure EW (w:World) (b:Nat) (c:C) (p:Option Addr) (k:Nat) (W:World):Prop where
 gt:w.heap.size < b
 r:W.heap[w.heap.size]?=some zCm
 pc:W.heap[b]?=some (cmObj c 0 (.slice p c.nums.length k) nils)
 nums:NumsIn w.heap.size W p c.nums
 bel:Below w.heap.size w W
theorem EW.below {w W W':World} {b:Nat} {c:C} {p:Option Addr} {k:Nat} (h:EW w b c p k W) (hb:Below W.heap.size W W'):EW w b c p k W':=
 ⟨h.gt,one_below h.r hb,one_below h.pc hb,h.nums.below hb,h.bel.trans (hb.mono h.bel.size)⟩
theorem EW.set {w W:World} {b:Nat} {c d:C} {p q:Option Addr} {k m:Nat} (h:EW w b c p k W) (hn:NumsIn w.heap.size W q d.nums):EW w b d q m (cmSet W b d 0 (.slice q d.nums.length m) nils):=by
 refine ⟨h.gt,(cmSet_heap W (by have:=h.gt;omega) _ _ _ _).trans h.r,?_,cmSet_nums' hn h.pc (by decide) _ _ _ _,?_⟩
 ·exact (st11 (st10 (st9 (st8 (st7 (st6 (st5 (st4 (st3 (st2 (st1 (st0 h.pc _) _) _) _) _) _) _) _) _) _) _) _)
 ·have hw:=Nat.le_of_lt h.gt
  unfold cmSet
  exact ((((((((((((h.bel.setCell hw _).setCell hw _).setCell hw _).setCell hw _).setCell hw _).setCell hw _).setCell hw _).setCell hw _).setCell hw _).setCell hw _).setCell hw _).setCell hw _)
theorem ew_new {w W:World} (h:ZAt w W) {c:C} {p:Option Addr} {k:Nat} (hn:NumsIn w.heap.size W p c.nums):EW w W.heap.size c p k (W.alloc (cmObj c 0 (.slice p c.nums.length k) nils)):=
 ⟨(Array.getElem?_eq_some_iff.1 h.a).1,one_below h.a ((Below.refl _ _).alloc (Nat.le_refl _) _),heap_alloc_new W _,hn.below ((Below.refl _ _).alloc (Nat.le_refl _) _),h.b.alloc h.b.size _⟩
theorem extV_two {t:List UInt8} (h1:t.take 2≠ [76,83]) (h2:fixedG.lookup t=none):extV t=match twoV t with
  | none=> .error 3
  | some c=> .ok c:=by
 unfold extV
 rw [if_neg h1,h2]
 rfl
theorem extV_one {t:List UInt8} {d:C} (h1:t.take 2≠ [76,83]) (h2:fixedG.lookup t=some d):extV t= .ok d:=by
 unfold extV
 rw [if_neg h1,h2]
set_option maxRecDepth 100000 in
set_option maxHeartbeats 25600000 in
theorem ext_c (S:ByteArray) (hs:S.size≤1000000000) (res:Except Nat C) (hr:Hid (extV S.data.toList=res)) (w:World):
  Calls Tryz.prog 90 #[.string S] w (ExtOut res w):=by
 have HS:=Lib.hid hs
 have hl:=hr.out
 clear hr hs
 have HZ:Hid (ZAt w (w.alloc (.cells #[.int .i64 0, .int .i64 0, .int .i64 0, .int .i64 0, .bool false, .string ⟨#[]⟩, .string ⟨#[]⟩, .string ⟨#[]⟩, .string ⟨#[]⟩, .string ⟨#[]⟩, .slice none 0 0, .slice none 0 0] 104))):=z_new w
 go_enter Tryz.func90,Tryz.ntmps90
 go_upto_region 1 with fail
 generalize w.alloc (.cells #[.int .i64 0, .int .i64 0, .int .i64 0, .int .i64 0, .bool false, .string ⟨#[]⟩, .string ⟨#[]⟩, .string ⟨#[]⟩, .string ⟨#[]⟩, .string ⟨#[]⟩, .slice none 0 0, .slice none 0 0] 104)=W at HZ⊢
 by_cases hLS:S.data.toList.take 2= [76,83]
 ·have HQ:Hid (Except.error 8=res):=by show _=_;rw [←hl];unfold extV;rw [if_pos hLS]
  have HP:Hid (decide (S.data.toList.take (⟨#[76,83]⟩:ByteArray).data.toList.length=(⟨#[76,83]⟩:ByteArray).data.toList)=true):=decide_eq_true hLS
  clear hl hLS
  go_wp2_with fail
  with_reducible refine (has_c _ _ _ HP _).mono ?_
  rintro e w2 ⟨rfl,rfl⟩
  obtain ⟨⟨c0,c1,c2,c3,c4,c5,c6,c7,c8,c9,c10,c11⟩,f0,f1,f2,f3,f4,f5,f6,f7,f8,f9,f10,f11⟩:=cm_at HZ.out.a
  have HF:=Lib.hid (cm_fin HZ.out.b HZ.out.a Gp.c0 0 nils nils)
  go_wp2_with fail
  refine bodyPost_ret (w:=cmSet W w.heap.size Gp.c0 0 nils nils) (v:= .tuple #[cmVal Gp.c0 0 nils nils, .int .i64 8]) ?_ rfl ?_
  ·clear c0 c1 c2 c3 c4 c5 c6 c7 c8 c9 c10 c11 f0 f1 f2 f3 f4 f5 f6 f7 f8 f9 f10 f11
   generalize cmSet W w.heap.size Gp.c0 0 nils nils=WE at HF⊢
   obtain ⟨⟨c0,c1,c2,c3,c4,c5,c6,c7,c8,c9,c10,c11⟩,_⟩:=cm_at HF.out.1
   simp [results,Tryz.results90,go_sem,c0,c1,c2,c3,c4,c5,c6,c7,c8,c9,c10,c11] <;> rfl
  ·rw [←HQ.out]
   exact ⟨HF.out.2,rfl⟩
 ·have HP:Hid (decide (S.data.toList.take (⟨#[76,83]⟩:ByteArray).data.toList.length=(⟨#[76,83]⟩:ByteArray).data.toList)=false):=decide_eq_false hLS
  obtain ⟨o1,ho1⟩:∃o,fixedG.lookup S.data.toList=o:=⟨_,rfl⟩
  have HO1:=Lib.hid ho1
  go_wp2_with fail
  with_reducible refine (has_c _ _ _ HP _).mono ?_
  rintro e w2 ⟨rfl,rfl⟩
  go_wp2_with fail
  with_reducible refine (fixed_c S o1 HO1 _).mono ?_
  rintro e w3 ⟨hb,c,p,k,rfl,hn,hbk,hd⟩
  have HZ3:=Lib.hid (HZ.out.below hb)
  have HN3:=Lib.hid (hn.mono HZ.out.b.size)
  clear hb hn
  have HE:Hid (EW w w3.heap.size c p k (w3.alloc (cmObj c 0 (.slice p c.nums.length k) nils))):=ew_new HZ3.out HN3.out
  unfold cmVal cmCells
  unfold cmObj cmCells at HE
  generalize hbc:w3.heap.size=bc at HE
  cases o1 with
  | some d=>
   obtain rfl:=hd d rfl
   have HQ:Hid (Except.ok d=res):=by show _=_;rw [←hl,extV_one hLS ho1]
   have HBK:=Lib.hid hbk
   clear hl hLS ho1 hd hbk HZ HZ3
   go_upto_region 4 with fail
   generalize w3.alloc _=W4 at HE⊢
   clear hbc
   obtain ⟨⟨c0,c1,c2,c3,c4,c5,c6,c7,c8,c9,c10,c11⟩,f0,f1,f2,f3,f4,f5,f6,f7,f8,f9,f10,f11⟩:=cm_at HE.out.r
   obtain ⟨⟨d0,d1,d2,d3,d4,d5,d6,d7,d8,d9,d10,d11⟩,g0,g1,g2,g3,g4,g5,g6,g7,g8,g9,g10,g11⟩:=cm_at HE.out.pc
   have HF:=Lib.hid (cm_fin HE.out.bel HE.out.r d 0 (.slice p d.nums.length k) nils)
   have HNN:=Lib.hid (cmSet_nums' HE.out.nums HE.out.r (by decide) d 0 (.slice p d.nums.length k) nils)
   go_wp2_with fail
   refine bodyPost_ret (w:=cmSet W4 w.heap.size d 0 (.slice p d.nums.length k) nils) (v:= .tuple #[cmVal d 0 (.slice p d.nums.length k) nils, .int .i64 0]) ?_ rfl ?_
   ·clear c0 c1 c2 c3 c4 c5 c6 c7 c8 c9 c10 c11 f0 f1 f2 f3 f4 f5 f6 f7 f8 f9 f10 f11 d0 d1 d2 d3 d4 d5 d6 d7 d8 d9 d10 d11 g0 g1 g2 g3 g4 g5 g6 g7 g8 g9 g10 g11
    generalize cmSet W4 w.heap.size d 0 (.slice p d.nums.length k) nils=WE at HF⊢
    obtain ⟨⟨c0,c1,c2,c3,c4,c5,c6,c7,c8,c9,c10,c11⟩,_⟩:=cm_at HF.out.1
    simp [results,Tryz.results90,go_sem,c0,c1,c2,c3,c4,c5,c6,c7,c8,c9,c10,c11] <;> rfl
   ·rw [←HQ.out]
    exact ⟨HF.out.2,p,k,rfl,HNN.out,HBK.out⟩
  | none=>
   rw [extV_two hLS ho1] at hl
   clear hLS ho1 hd hbk HZ HZ3
   go_upto_region 4 with fail
   generalize w3.alloc _=W4 at HE⊢
   clear hbc HN3
   by_cases h2:S.size < 2
   ·have h2i:¬(2:Int)≤(S.size:Int):=by omega
    have HQ:Hid (Except.error 3=res):=by
     show _=_
     rw [←hl]
     have hh:∀a b:UInt8,S.data.toList.take 2≠ [a,b]:=fun a b h=>by
      have h3:=congrArg List.length h
      rw [List.length_take,len_list] at h3
      simp at h3
      omega
     unfold twoV
     rw [if_neg (hh _ _),if_neg (hh _ _),if_neg (hh _ _),if_neg (hh _ _),if_neg (hh _ _),if_neg (by rintro (h | h | h | h)<;> exact hh _ _ h)]
    clear hl h2
    obtain ⟨⟨c0,c1,c2,c3,c4,c5,c6,c7,c8,c9,c10,c11⟩,f0,f1,f2,f3,f4,f5,f6,f7,f8,f9,f10,f11⟩:=cm_at HE.out.r
    have HF:=Lib.hid (cm_fin HE.out.bel HE.out.r Gp.c0 0 nils nils)
    go_wp2_with fail
    refine bodyPost_ret (w:=cmSet W4 w.heap.size Gp.c0 0 nils nils) (v:= .tuple #[cmVal Gp.c0 0 nils nils, .int .i64 3]) ?_ rfl ?_
    ·clear c0 c1 c2 c3 c4 c5 c6 c7 c8 c9 c10 c11 f0 f1 f2 f3 f4 f5 f6 f7 f8 f9 f10 f11
     generalize cmSet W4 w.heap.size Gp.c0 0 nils nils=WE at HF⊢
     obtain ⟨⟨c0,c1,c2,c3,c4,c5,c6,c7,c8,c9,c10,c11⟩,_⟩:=cm_at HF.out.1
     simp [results,Tryz.results90,go_sem,c0,c1,c2,c3,c4,c5,c6,c7,c8,c9,c10,c11] <;> rfl
    ·rw [←HQ.out]
     exact ⟨HF.out.2,rfl⟩
   ·have h2i:(2:Int)≤(S.size:Int):=by omega
    have E2:(S.extract 0 2).data.toList=S.data.toList.take 2:=tak_list S 2
    have hXs:Hid ((S.extract 2 S.size).size≤1000000000):=by
     show _≤_
     rw [←len_list,ext_list,List.length_drop,len_list]
     have:=HS.out
     omega
    have hX:S.data.toList.drop 2=(S.extract 2 S.size).data.toList:=(ext_list S 2).symm
    unfold twoV at hl
    clear h2
    by_cases q1:S.data.toList.take 2= [70,83]
    ·have e1:((S.extract 0 2).toList== [70,83])=true:=by rw [str_is,E2];exact decide_eq_true q1
     rw [if_pos q1,hX] at hl
     obtain ⟨o2,ho2⟩:∃o,formatV (S.extract 2 S.size).data.toList=o:=⟨_,rfl⟩
     have HO2:=Lib.hid ho2
     rw [ho2] at hl
     obtain ⟨⟨d0,d1,d2,d3,d4,d5,d6,d7,d8,d9,d10,d11⟩,g0,g1,g2,g3,g4,g5,g6,g7,g8,g9,g10,g11⟩:=cm_at HE.out.pc
     clear ho2 q1
     go_wp2_with fail
     with_reducible refine (format_c (S.extract 2 S.size) hXs.out o2 HO2 _).mono ?_
     rintro e w5 ⟨hb,c2,p2,k2,rfl,hn2,hbk2,hd2⟩
     have HE5:=Lib.hid (HE.out.below hb)
     have HN5:=Lib.hid (hn2.mono HE.out.bel.size)
     clear hb hn2 d0 d1 d2 d3 d4 d5 d6 d7 d8 d9 d10 d11 g0 g1 g2 g3 g4 g5 g6 g7 g8 g9 g10 g11 HE
     have HE:Hid (EW w bc c2 p2 k2 (cmSet w5 bc c2 0 (.slice p2 c2.nums.length k2) nils)):=HE5.out.set HN5.out
     obtain ⟨⟨d0,d1,d2,d3,d4,d5,d6,d7,d8,d9,d10,d11⟩,g0,g1,g2,g3,g4,g5,g6,g7,g8,g9,g10,g11⟩:=cm_at HE5.out.pc
     unfold cmVal cmCells
     go_upto_region 23 with fail
     unfold cmSet at HE
     clear d0 d1 d2 d3 d4 d5 d6 d7 d8 d9 d10 d11 g0 g1 g2 g3 g4 g5 g6 g7 g8 g9 g10 g11
     generalize ((((((((((((w5).setCell ⟨bc,0,none⟩ (.int .i64 0)).setCell ⟨bc,1,none⟩ (.int .i64 c2.k)).setCell ⟨bc,2,none⟩ (.int .i64 c2.n)).setCell ⟨bc,3,none⟩ (.int .i64 c2.m)).setCell ⟨bc,4,none⟩ (.bool c2.on)).setCell ⟨bc,5,none⟩ (.string ⟨c2.t.toArray⟩)).setCell ⟨bc,6,none⟩ (.string ⟨c2.x.toArray⟩)).setCell ⟨bc,7,none⟩ (.string ⟨c2.y.toArray⟩)).setCell ⟨bc,8,none⟩ (.string ⟨c2.i.toArray⟩)).setCell ⟨bc,9,none⟩ (.string ⟨c2.j.toArray⟩)).setCell ⟨bc,10,none⟩ (.slice p2 c2.nums.length k2)).setCell ⟨bc,11,none⟩ (nils)=W6 at HE⊢
     cases o2 with
     | none=>
      have HQ:Hid (Except.error 3=res):=hl
      clear hl hd2 hbk2
      obtain ⟨⟨c0,c1,c2,c3,c4,c5,c6,c7,c8,c9,c10,c11⟩,f0,f1,f2,f3,f4,f5,f6,f7,f8,f9,f10,f11⟩:=cm_at HE.out.r
      have HF:=Lib.hid (cm_fin HE.out.bel HE.out.r Gp.c0 0 nils nils)
      go_wp2_with fail
      refine bodyPost_ret (w:=cmSet W6 w.heap.size Gp.c0 0 nils nils) (v:= .tuple #[cmVal Gp.c0 0 nils nils, .int .i64 3]) ?_ rfl ?_
      ·clear c0 c1 c2 c3 c4 c5 c6 c7 c8 c9 c10 c11 f0 f1 f2 f3 f4 f5 f6 f7 f8 f9 f10 f11
       generalize cmSet W6 w.heap.size Gp.c0 0 nils nils=WE at HF⊢
       obtain ⟨⟨c0,c1,c2,c3,c4,c5,c6,c7,c8,c9,c10,c11⟩,_⟩:=cm_at HF.out.1
       simp [results,Tryz.results90,go_sem,c0,c1,c2,c3,c4,c5,c6,c7,c8,c9,c10,c11] <;> rfl
      ·rw [←HQ.out]
       exact ⟨HF.out.2,rfl⟩
     | some d=>
      obtain rfl:=hd2 d rfl
      have HQ:Hid (Except.ok d=res):=hl
      have HBK:=Lib.hid hbk2
      clear hl hd2 hbk2
      obtain ⟨⟨c0,c1,c2,c3,c4,c5,c6,c7,c8,c9,c10,c11⟩,f0,f1,f2,f3,f4,f5,f6,f7,f8,f9,f10,f11⟩:=cm_at HE.out.r
      obtain ⟨⟨d0,d1,d2,d3,d4,d5,d6,d7,d8,d9,d10,d11⟩,g0,g1,g2,g3,g4,g5,g6,g7,g8,g9,g10,g11⟩:=cm_at HE.out.pc
      have HF:=Lib.hid (cm_fin HE.out.bel HE.out.r d 0 (.slice p2 d.nums.length k2) nils)
      have HNN:=Lib.hid (cmSet_nums' HE.out.nums HE.out.r (by decide) d 0 (.slice p2 d.nums.length k2) nils)
      go_wp2_with fail
      refine bodyPost_ret (w:=cmSet W6 w.heap.size d 0 (.slice p2 d.nums.length k2) nils) (v:= .tuple #[cmVal d 0 (.slice p2 d.nums.length k2) nils, .int .i64 0]) ?_ rfl ?_
      ·clear c0 c1 c2 c3 c4 c5 c6 c7 c8 c9 c10 c11 f0 f1 f2 f3 f4 f5 f6 f7 f8 f9 f10 f11 d0 d1 d2 d3 d4 d5 d6 d7 d8 d9 d10 d11 g0 g1 g2 g3 g4 g5 g6 g7 g8 g9 g10 g11
       generalize cmSet W6 w.heap.size d 0 (.slice p2 d.nums.length k2) nils=WE at HF⊢
       obtain ⟨⟨c0,c1,c2,c3,c4,c5,c6,c7,c8,c9,c10,c11⟩,_⟩:=cm_at HF.out.1
       simp [results,Tryz.results90,go_sem,c0,c1,c2,c3,c4,c5,c6,c7,c8,c9,c10,c11] <;> rfl
      ·rw [←HQ.out]
       exact ⟨HF.out.2,p2,k2,rfl,HNN.out,HBK.out⟩
    ·have e1:((S.extract 0 2).toList== [70,83])=false:=by rw [str_is,E2];exact decide_eq_false q1
     rw [if_neg q1] at hl
     by_cases q2:S.data.toList.take 2= [65,68]
     ·have e2:((S.extract 0 2).toList== [65,68])=true:=by rw [str_is,E2];exact decide_eq_true q2
      rw [if_pos q2,hX] at hl
      obtain ⟨o2,ho2⟩:∃o,aperV (S.extract 2 S.size).data.toList=o:=⟨_,rfl⟩
      have HO2:=Lib.hid ho2
      rw [ho2] at hl
      obtain ⟨⟨d0,d1,d2,d3,d4,d5,d6,d7,d8,d9,d10,d11⟩,g0,g1,g2,g3,g4,g5,g6,g7,g8,g9,g10,g11⟩:=cm_at HE.out.pc
      clear ho2 q2
      go_wp2_with fail
      with_reducible refine (aper_c (S.extract 2 S.size) hXs.out o2 HO2 _).mono ?_
      rintro e w5 ⟨hb,c2,p2,k2,rfl,hn2,hbk2,hd2⟩
      have HE5:=Lib.hid (HE.out.below hb)
      have HN5:=Lib.hid (hn2.mono HE.out.bel.size)
      clear hb hn2 d0 d1 d2 d3 d4 d5 d6 d7 d8 d9 d10 d11 g0 g1 g2 g3 g4 g5 g6 g7 g8 g9 g10 g11 HE
      have HE:Hid (EW w bc c2 p2 k2 (cmSet w5 bc c2 0 (.slice p2 c2.nums.length k2) nils)):=HE5.out.set HN5.out
      obtain ⟨⟨d0,d1,d2,d3,d4,d5,d6,d7,d8,d9,d10,d11⟩,g0,g1,g2,g3,g4,g5,g6,g7,g8,g9,g10,g11⟩:=cm_at HE5.out.pc
      unfold cmVal cmCells
      go_upto_region 23 with fail
      unfold cmSet at HE
      clear d0 d1 d2 d3 d4 d5 d6 d7 d8 d9 d10 d11 g0 g1 g2 g3 g4 g5 g6 g7 g8 g9 g10 g11
      generalize ((((((((((((w5).setCell ⟨bc,0,none⟩ (.int .i64 0)).setCell ⟨bc,1,none⟩ (.int .i64 c2.k)).setCell ⟨bc,2,none⟩ (.int .i64 c2.n)).setCell ⟨bc,3,none⟩ (.int .i64 c2.m)).setCell ⟨bc,4,none⟩ (.bool c2.on)).setCell ⟨bc,5,none⟩ (.string ⟨c2.t.toArray⟩)).setCell ⟨bc,6,none⟩ (.string ⟨c2.x.toArray⟩)).setCell ⟨bc,7,none⟩ (.string ⟨c2.y.toArray⟩)).setCell ⟨bc,8,none⟩ (.string ⟨c2.i.toArray⟩)).setCell ⟨bc,9,none⟩ (.string ⟨c2.j.toArray⟩)).setCell ⟨bc,10,none⟩ (.slice p2 c2.nums.length k2)).setCell ⟨bc,11,none⟩ (nils)=W6 at HE⊢
      cases o2 with
      | none=>
       have HQ:Hid (Except.error 3=res):=hl
       clear hl hd2 hbk2
       obtain ⟨⟨c0,c1,c2,c3,c4,c5,c6,c7,c8,c9,c10,c11⟩,f0,f1,f2,f3,f4,f5,f6,f7,f8,f9,f10,f11⟩:=cm_at HE.out.r
       have HF:=Lib.hid (cm_fin HE.out.bel HE.out.r Gp.c0 0 nils nils)
       go_wp2_with fail
       refine bodyPost_ret (w:=cmSet W6 w.heap.size Gp.c0 0 nils nils) (v:= .tuple #[cmVal Gp.c0 0 nils nils, .int .i64 3]) ?_ rfl ?_
       ·clear c0 c1 c2 c3 c4 c5 c6 c7 c8 c9 c10 c11 f0 f1 f2 f3 f4 f5 f6 f7 f8 f9 f10 f11
        generalize cmSet W6 w.heap.size Gp.c0 0 nils nils=WE at HF⊢
        obtain ⟨⟨c0,c1,c2,c3,c4,c5,c6,c7,c8,c9,c10,c11⟩,_⟩:=cm_at HF.out.1
        simp [results,Tryz.results90,go_sem,c0,c1,c2,c3,c4,c5,c6,c7,c8,c9,c10,c11] <;> rfl
       ·rw [←HQ.out]
        exact ⟨HF.out.2,rfl⟩
      | some d=>
       obtain rfl:=hd2 d rfl
       have HQ:Hid (Except.ok d=res):=hl
       have HBK:=Lib.hid hbk2
       clear hl hd2 hbk2
       obtain ⟨⟨c0,c1,c2,c3,c4,c5,c6,c7,c8,c9,c10,c11⟩,f0,f1,f2,f3,f4,f5,f6,f7,f8,f9,f10,f11⟩:=cm_at HE.out.r
       obtain ⟨⟨d0,d1,d2,d3,d4,d5,d6,d7,d8,d9,d10,d11⟩,g0,g1,g2,g3,g4,g5,g6,g7,g8,g9,g10,g11⟩:=cm_at HE.out.pc
       have HF:=Lib.hid (cm_fin HE.out.bel HE.out.r d 0 (.slice p2 d.nums.length k2) nils)
       have HNN:=Lib.hid (cmSet_nums' HE.out.nums HE.out.r (by decide) d 0 (.slice p2 d.nums.length k2) nils)
       go_wp2_with fail
       refine bodyPost_ret (w:=cmSet W6 w.heap.size d 0 (.slice p2 d.nums.length k2) nils) (v:= .tuple #[cmVal d 0 (.slice p2 d.nums.length k2) nils, .int .i64 0]) ?_ rfl ?_
       ·clear c0 c1 c2 c3 c4 c5 c6 c7 c8 c9 c10 c11 f0 f1 f2 f3 f4 f5 f6 f7 f8 f9 f10 f11 d0 d1 d2 d3 d4 d5 d6 d7 d8 d9 d10 d11 g0 g1 g2 g3 g4 g5 g6 g7 g8 g9 g10 g11
        generalize cmSet W6 w.heap.size d 0 (.slice p2 d.nums.length k2) nils=WE at HF⊢
        obtain ⟨⟨c0,c1,c2,c3,c4,c5,c6,c7,c8,c9,c10,c11⟩,_⟩:=cm_at HF.out.1
        simp [results,Tryz.results90,go_sem,c0,c1,c2,c3,c4,c5,c6,c7,c8,c9,c10,c11] <;> rfl
       ·rw [←HQ.out]
        exact ⟨HF.out.2,p2,k2,rfl,HNN.out,HBK.out⟩
     ·have e2:((S.extract 0 2).toList== [65,68])=false:=by rw [str_is,E2];exact decide_eq_false q2
      rw [if_neg q2] at hl
      by_cases q3:S.data.toList.take 2= [65,66]
      ·have e3:((S.extract 0 2).toList== [65,66])=true:=by rw [str_is,E2];exact decide_eq_true q3
       rw [if_pos q3,hX] at hl
       obtain ⟨o2,ho2⟩:∃o,blkV (S.extract 2 S.size).data.toList=o:=⟨_,rfl⟩
       have HO2:=Lib.hid ho2
       rw [ho2] at hl
       obtain ⟨⟨d0,d1,d2,d3,d4,d5,d6,d7,d8,d9,d10,d11⟩,g0,g1,g2,g3,g4,g5,g6,g7,g8,g9,g10,g11⟩:=cm_at HE.out.pc
       clear ho2 q3
       go_wp2_with fail
       with_reducible refine (block_c (S.extract 2 S.size) hXs.out o2 HO2 _).mono ?_
       rintro e w5 ⟨hb,c2,p2,k2,rfl,hn2,hbk2,hd2⟩
       have HE5:=Lib.hid (HE.out.below hb)
       have HN5:=Lib.hid (hn2.mono HE.out.bel.size)
       clear hb hn2 d0 d1 d2 d3 d4 d5 d6 d7 d8 d9 d10 d11 g0 g1 g2 g3 g4 g5 g6 g7 g8 g9 g10 g11 HE
       have HE:Hid (EW w bc c2 p2 k2 (cmSet w5 bc c2 0 (.slice p2 c2.nums.length k2) nils)):=HE5.out.set HN5.out
       obtain ⟨⟨d0,d1,d2,d3,d4,d5,d6,d7,d8,d9,d10,d11⟩,g0,g1,g2,g3,g4,g5,g6,g7,g8,g9,g10,g11⟩:=cm_at HE5.out.pc
       unfold cmVal cmCells
       go_upto_region 23 with fail
       unfold cmSet at HE
       clear d0 d1 d2 d3 d4 d5 d6 d7 d8 d9 d10 d11 g0 g1 g2 g3 g4 g5 g6 g7 g8 g9 g10 g11
       generalize ((((((((((((w5).setCell ⟨bc,0,none⟩ (.int .i64 0)).setCell ⟨bc,1,none⟩ (.int .i64 c2.k)).setCell ⟨bc,2,none⟩ (.int .i64 c2.n)).setCell ⟨bc,3,none⟩ (.int .i64 c2.m)).setCell ⟨bc,4,none⟩ (.bool c2.on)).setCell ⟨bc,5,none⟩ (.string ⟨c2.t.toArray⟩)).setCell ⟨bc,6,none⟩ (.string ⟨c2.x.toArray⟩)).setCell ⟨bc,7,none⟩ (.string ⟨c2.y.toArray⟩)).setCell ⟨bc,8,none⟩ (.string ⟨c2.i.toArray⟩)).setCell ⟨bc,9,none⟩ (.string ⟨c2.j.toArray⟩)).setCell ⟨bc,10,none⟩ (.slice p2 c2.nums.length k2)).setCell ⟨bc,11,none⟩ (nils)=W6 at HE⊢
       cases o2 with
       | none=>
        have HQ:Hid (Except.error 3=res):=hl
        clear hl hd2 hbk2
        obtain ⟨⟨c0,c1,c2,c3,c4,c5,c6,c7,c8,c9,c10,c11⟩,f0,f1,f2,f3,f4,f5,f6,f7,f8,f9,f10,f11⟩:=cm_at HE.out.r
        have HF:=Lib.hid (cm_fin HE.out.bel HE.out.r Gp.c0 0 nils nils)
        go_wp2_with fail
        refine bodyPost_ret (w:=cmSet W6 w.heap.size Gp.c0 0 nils nils) (v:= .tuple #[cmVal Gp.c0 0 nils nils, .int .i64 3]) ?_ rfl ?_
        ·clear c0 c1 c2 c3 c4 c5 c6 c7 c8 c9 c10 c11 f0 f1 f2 f3 f4 f5 f6 f7 f8 f9 f10 f11
         generalize cmSet W6 w.heap.size Gp.c0 0 nils nils=WE at HF⊢
         obtain ⟨⟨c0,c1,c2,c3,c4,c5,c6,c7,c8,c9,c10,c11⟩,_⟩:=cm_at HF.out.1
         simp [results,Tryz.results90,go_sem,c0,c1,c2,c3,c4,c5,c6,c7,c8,c9,c10,c11] <;> rfl
        ·rw [←HQ.out]
         exact ⟨HF.out.2,rfl⟩
       | some d=>
        obtain rfl:=hd2 d rfl
        have HQ:Hid (Except.ok d=res):=hl
        have HBK:=Lib.hid hbk2
        clear hl hd2 hbk2
        obtain ⟨⟨c0,c1,c2,c3,c4,c5,c6,c7,c8,c9,c10,c11⟩,f0,f1,f2,f3,f4,f5,f6,f7,f8,f9,f10,f11⟩:=cm_at HE.out.r
        obtain ⟨⟨d0,d1,d2,d3,d4,d5,d6,d7,d8,d9,d10,d11⟩,g0,g1,g2,g3,g4,g5,g6,g7,g8,g9,g10,g11⟩:=cm_at HE.out.pc
        have HF:=Lib.hid (cm_fin HE.out.bel HE.out.r d 0 (.slice p2 d.nums.length k2) nils)
        have HNN:=Lib.hid (cmSet_nums' HE.out.nums HE.out.r (by decide) d 0 (.slice p2 d.nums.length k2) nils)
        go_wp2_with fail
        refine bodyPost_ret (w:=cmSet W6 w.heap.size d 0 (.slice p2 d.nums.length k2) nils) (v:= .tuple #[cmVal d 0 (.slice p2 d.nums.length k2) nils, .int .i64 0]) ?_ rfl ?_
        ·clear c0 c1 c2 c3 c4 c5 c6 c7 c8 c9 c10 c11 f0 f1 f2 f3 f4 f5 f6 f7 f8 f9 f10 f11 d0 d1 d2 d3 d4 d5 d6 d7 d8 d9 d10 d11 g0 g1 g2 g3 g4 g5 g6 g7 g8 g9 g10 g11
         generalize cmSet W6 w.heap.size d 0 (.slice p2 d.nums.length k2) nils=WE at HF⊢
         obtain ⟨⟨c0,c1,c2,c3,c4,c5,c6,c7,c8,c9,c10,c11⟩,_⟩:=cm_at HF.out.1
         simp [results,Tryz.results90,go_sem,c0,c1,c2,c3,c4,c5,c6,c7,c8,c9,c10,c11] <;> rfl
        ·rw [←HQ.out]
         exact ⟨HF.out.2,p2,k2,rfl,HNN.out,HBK.out⟩
      ·have e3:((S.extract 0 2).toList== [65,66])=false:=by rw [str_is,E2];exact decide_eq_false q3
       rw [if_neg q3] at hl
       by_cases q4:S.data.toList.take 2= [83,82]
       ·have e4:((S.extract 0 2).toList== [83,82])=true:=by rw [str_is,E2];exact decide_eq_true q4
        rw [if_pos q4,hX] at hl
        obtain ⟨o2,ho2⟩:∃o,Gp.stepG (S.extract 2 S.size).data.toList=o:=⟨_,rfl⟩
        have HO2:=Lib.hid ho2
        rw [ho2] at hl
        obtain ⟨⟨d0,d1,d2,d3,d4,d5,d6,d7,d8,d9,d10,d11⟩,g0,g1,g2,g3,g4,g5,g6,g7,g8,g9,g10,g11⟩:=cm_at HE.out.pc
        clear ho2 q4
        go_wp2_with fail
        with_reducible refine (step_c (S.extract 2 S.size) hXs.out o2 HO2 _).mono ?_
        rintro e w5 ⟨hb,c2,p2,k2,rfl,hn2,hbk2,hd2⟩
        have HE5:=Lib.hid (HE.out.below hb)
        have HN5:=Lib.hid (hn2.mono HE.out.bel.size)
        clear hb hn2 d0 d1 d2 d3 d4 d5 d6 d7 d8 d9 d10 d11 g0 g1 g2 g3 g4 g5 g6 g7 g8 g9 g10 g11 HE
        have HE:Hid (EW w bc c2 p2 k2 (cmSet w5 bc c2 0 (.slice p2 c2.nums.length k2) nils)):=HE5.out.set HN5.out
        obtain ⟨⟨d0,d1,d2,d3,d4,d5,d6,d7,d8,d9,d10,d11⟩,g0,g1,g2,g3,g4,g5,g6,g7,g8,g9,g10,g11⟩:=cm_at HE5.out.pc
        unfold cmVal cmCells
        go_upto_region 23 with fail
        unfold cmSet at HE
        clear d0 d1 d2 d3 d4 d5 d6 d7 d8 d9 d10 d11 g0 g1 g2 g3 g4 g5 g6 g7 g8 g9 g10 g11
        generalize ((((((((((((w5).setCell ⟨bc,0,none⟩ (.int .i64 0)).setCell ⟨bc,1,none⟩ (.int .i64 c2.k)).setCell ⟨bc,2,none⟩ (.int .i64 c2.n)).setCell ⟨bc,3,none⟩ (.int .i64 c2.m)).setCell ⟨bc,4,none⟩ (.bool c2.on)).setCell ⟨bc,5,none⟩ (.string ⟨c2.t.toArray⟩)).setCell ⟨bc,6,none⟩ (.string ⟨c2.x.toArray⟩)).setCell ⟨bc,7,none⟩ (.string ⟨c2.y.toArray⟩)).setCell ⟨bc,8,none⟩ (.string ⟨c2.i.toArray⟩)).setCell ⟨bc,9,none⟩ (.string ⟨c2.j.toArray⟩)).setCell ⟨bc,10,none⟩ (.slice p2 c2.nums.length k2)).setCell ⟨bc,11,none⟩ (nils)=W6 at HE⊢
        cases o2 with
        | none=>
         have HQ:Hid (Except.error 3=res):=hl
         clear hl hd2 hbk2
         obtain ⟨⟨c0,c1,c2,c3,c4,c5,c6,c7,c8,c9,c10,c11⟩,f0,f1,f2,f3,f4,f5,f6,f7,f8,f9,f10,f11⟩:=cm_at HE.out.r
         have HF:=Lib.hid (cm_fin HE.out.bel HE.out.r Gp.c0 0 nils nils)
         go_wp2_with fail
         refine bodyPost_ret (w:=cmSet W6 w.heap.size Gp.c0 0 nils nils) (v:= .tuple #[cmVal Gp.c0 0 nils nils, .int .i64 3]) ?_ rfl ?_
         ·clear c0 c1 c2 c3 c4 c5 c6 c7 c8 c9 c10 c11 f0 f1 f2 f3 f4 f5 f6 f7 f8 f9 f10 f11
          generalize cmSet W6 w.heap.size Gp.c0 0 nils nils=WE at HF⊢
          obtain ⟨⟨c0,c1,c2,c3,c4,c5,c6,c7,c8,c9,c10,c11⟩,_⟩:=cm_at HF.out.1
          simp [results,Tryz.results90,go_sem,c0,c1,c2,c3,c4,c5,c6,c7,c8,c9,c10,c11] <;> rfl
         ·rw [←HQ.out]
          exact ⟨HF.out.2,rfl⟩
        | some d=>
         obtain rfl:=hd2 d rfl
         have HQ:Hid (Except.ok d=res):=hl
         have HBK:=Lib.hid hbk2
         clear hl hd2 hbk2
         obtain ⟨⟨c0,c1,c2,c3,c4,c5,c6,c7,c8,c9,c10,c11⟩,f0,f1,f2,f3,f4,f5,f6,f7,f8,f9,f10,f11⟩:=cm_at HE.out.r
         obtain ⟨⟨d0,d1,d2,d3,d4,d5,d6,d7,d8,d9,d10,d11⟩,g0,g1,g2,g3,g4,g5,g6,g7,g8,g9,g10,g11⟩:=cm_at HE.out.pc
         have HF:=Lib.hid (cm_fin HE.out.bel HE.out.r d 0 (.slice p2 d.nums.length k2) nils)
         have HNN:=Lib.hid (cmSet_nums' HE.out.nums HE.out.r (by decide) d 0 (.slice p2 d.nums.length k2) nils)
         go_wp2_with fail
         refine bodyPost_ret (w:=cmSet W6 w.heap.size d 0 (.slice p2 d.nums.length k2) nils) (v:= .tuple #[cmVal d 0 (.slice p2 d.nums.length k2) nils, .int .i64 0]) ?_ rfl ?_
         ·clear c0 c1 c2 c3 c4 c5 c6 c7 c8 c9 c10 c11 f0 f1 f2 f3 f4 f5 f6 f7 f8 f9 f10 f11 d0 d1 d2 d3 d4 d5 d6 d7 d8 d9 d10 d11 g0 g1 g2 g3 g4 g5 g6 g7 g8 g9 g10 g11
          generalize cmSet W6 w.heap.size d 0 (.slice p2 d.nums.length k2) nils=WE at HF⊢
          obtain ⟨⟨c0,c1,c2,c3,c4,c5,c6,c7,c8,c9,c10,c11⟩,_⟩:=cm_at HF.out.1
          simp [results,Tryz.results90,go_sem,c0,c1,c2,c3,c4,c5,c6,c7,c8,c9,c10,c11] <;> rfl
         ·rw [←HQ.out]
          exact ⟨HF.out.2,p2,k2,rfl,HNN.out,HBK.out⟩
       ·have e4:((S.extract 0 2).toList== [83,82])=false:=by rw [str_is,E2];exact decide_eq_false q4
        rw [if_neg q4] at hl
        by_cases q5:S.data.toList.take 2= [76,82]
        ·have e5:((S.extract 0 2).toList== [76,82])=true:=by rw [str_is,E2];exact decide_eq_true q5
         rw [if_pos q5,hX] at hl
         unfold turnV at hl
         obtain ⟨o2,ho2⟩:∃o,dec (S.extract 2 S.size).data.toList=o:=⟨_,rfl⟩
         have HO2:Hid ((dec (S.extract 2 S.size).data.toList).getD 0=o2.getD 0∧(dec (S.extract 2 S.size).data.toList).isSome=o2.isSome):=by show _∧_;rw [ho2];exact ⟨rfl,rfl⟩
         rw [ho2] at hl
         clear ho2 q5
         go_wp2_with fail
         with_reducible refine (parse_at (S.extract 2 S.size) _ _ HO2 (Nat.le_trans hXs.out (by decide)) _).mono ?_
         rintro e w5 ⟨rfl,rfl⟩
         obtain ⟨v,hv⟩:∃v,o2.getD 0=v:=⟨_,rfl⟩
         rw [hv]
         have HN:Hid (NumsIn w.heap.size (W4.alloc (.cells #[.int .i64 v] 2)) (some ⟨W4.heap.size,0,none⟩) [v]):=by
          intro _
          refine ⟨W4.heap.size,0,_,rfl,HE.out.bel.size,heap_alloc_new W4 _,fun i hi=>?_⟩
          have h3:i=0:=by simp at hi;omega
          subst h3
          rfl
         have HE5:Hid (EW w bc c p k (W4.alloc (.cells #[.int .i64 v] 2))):=HE.out.below ((Below.refl _ _).alloc (Nat.le_refl _) _)
         have HE6:Hid (EW w bc ({kc 17 with nums:= [v]}:C) (some ⟨W4.heap.size,0,none⟩) 1 (cmSet (W4.alloc (.cells #[.int .i64 v] 2)) bc ({kc 17 with nums:= [v]}:C) 0 (.slice (some ⟨W4.heap.size,0,none⟩) 1 1) nils)):=HE5.out.set (d:=({kc 17 with nums:= [v]}:C)) HN.out
         clear HE
         have HE:=HE6
         clear HE6
         obtain ⟨⟨d0,d1,d2,d3,d4,d5,d6,d7,d8,d9,d10,d11⟩,g0,g1,g2,g3,g4,g5,g6,g7,g8,g9,g10,g11⟩:=cm_at HE5.out.pc
         go_upto_region 23 with fail
         clear d0 d1 d2 d3 d4 d5 d6 d7 d8 d9 d10 d11 g0 g1 g2 g3 g4 g5 g6 g7 g8 g9 g10 g11 HE5 HN
         generalize hW6:World.setCell _ _ _=W6
         have HE6:Hid (EW w bc ({kc 17 with nums:= [v]}:C) (some ⟨W4.heap.size,0,none⟩) 1 W6):=by rw [←hW6];exact HE
         clear hW6 HE
         have HE:=HE6
         clear HE6
         generalize hP6:(some (⟨W4.heap.size,0,none⟩:Addr))=p6 at HE
         clear hP6
         cases o2 with
         | none=>
          have HQ:Hid (Except.error 3=res):=hl
          clear hl hv
          obtain ⟨⟨c0,c1,c2,c3,c4,c5,c6,c7,c8,c9,c10,c11⟩,f0,f1,f2,f3,f4,f5,f6,f7,f8,f9,f10,f11⟩:=cm_at HE.out.r
          have HF:=Lib.hid (cm_fin HE.out.bel HE.out.r Gp.c0 0 nils nils)
          go_wp2_with fail
          refine bodyPost_ret (w:=cmSet W6 w.heap.size Gp.c0 0 nils nils) (v:= .tuple #[cmVal Gp.c0 0 nils nils, .int .i64 3]) ?_ rfl ?_
          ·clear c0 c1 c2 c3 c4 c5 c6 c7 c8 c9 c10 c11 f0 f1 f2 f3 f4 f5 f6 f7 f8 f9 f10 f11
           generalize cmSet W6 w.heap.size Gp.c0 0 nils nils=WE at HF⊢
           obtain ⟨⟨c0,c1,c2,c3,c4,c5,c6,c7,c8,c9,c10,c11⟩,_⟩:=cm_at HF.out.1
           simp [results,Tryz.results90,go_sem,c0,c1,c2,c3,c4,c5,c6,c7,c8,c9,c10,c11] <;> rfl
          ·rw [←HQ.out]
           exact ⟨HF.out.2,rfl⟩
         | some v2=>
          obtain rfl:v2=v:=hv
          have HQ:Hid (Except.ok ({kc 17 with nums:= [v2]}:C)=res):=hl
          have HBK:Hid ((({kc 17 with nums:= [v2]}:C)).blocks= []):=rfl
          clear hl
          obtain ⟨⟨c0,c1,c2,c3,c4,c5,c6,c7,c8,c9,c10,c11⟩,f0,f1,f2,f3,f4,f5,f6,f7,f8,f9,f10,f11⟩:=cm_at HE.out.r
          obtain ⟨⟨d0,d1,d2,d3,d4,d5,d6,d7,d8,d9,d10,d11⟩,g0,g1,g2,g3,g4,g5,g6,g7,g8,g9,g10,g11⟩:=cm_at HE.out.pc
          have HF:=Lib.hid (cm_fin HE.out.bel HE.out.r ({kc 17 with nums:= [v2]}:C) 0 (.slice p6 ({kc 17 with nums:= [v2]}:C).nums.length 1) nils)
          have HNN:=Lib.hid (cmSet_nums' HE.out.nums HE.out.r (by decide) ({kc 17 with nums:= [v2]}:C) 0 (.slice p6 ({kc 17 with nums:= [v2]}:C).nums.length 1) nils)
          go_wp2_with fail
          refine bodyPost_ret (w:=cmSet W6 w.heap.size ({kc 17 with nums:= [v2]}:C) 0 (.slice p6 ({kc 17 with nums:= [v2]}:C).nums.length 1) nils) (v:= .tuple #[cmVal ({kc 17 with nums:= [v2]}:C) 0 (.slice p6 ({kc 17 with nums:= [v2]}:C).nums.length 1) nils, .int .i64 0]) ?_ rfl ?_
          ·clear c0 c1 c2 c3 c4 c5 c6 c7 c8 c9 c10 c11 f0 f1 f2 f3 f4 f5 f6 f7 f8 f9 f10 f11 d0 d1 d2 d3 d4 d5 d6 d7 d8 d9 d10 d11 g0 g1 g2 g3 g4 g5 g6 g7 g8 g9 g10 g11
           generalize cmSet W6 w.heap.size ({kc 17 with nums:= [v2]}:C) 0 (.slice p6 ({kc 17 with nums:= [v2]}:C).nums.length 1) nils=WE at HF⊢
           obtain ⟨⟨c0,c1,c2,c3,c4,c5,c6,c7,c8,c9,c10,c11⟩,_⟩:=cm_at HF.out.1
           simp [results,Tryz.results90,go_sem,c0,c1,c2,c3,c4,c5,c6,c7,c8,c9,c10,c11] <;> rfl
          ·rw [←HQ.out]
           exact ⟨HF.out.2,p6,1,rfl,HNN.out,HBK.out⟩
        ·have e5:((S.extract 0 2).toList== [76,82])=false:=by rw [str_is,E2];exact decide_eq_false q5
         rw [if_neg q5] at hl
         by_cases q6:S.data.toList.take 2= [84,70]
         ·have e6:((S.extract 0 2).toList== [84,70])=true:=by rw [str_is,E2];exact decide_eq_true q6
          rw [if_pos (.inl q6)] at hl
          have HQ:Hid (Except.ok ({kc 18 with t:=S.data.toList}:C)=res):=hl
          have HBK:Hid ((({kc 18 with t:=S.data.toList}:C)).blocks= []):=rfl
          have HE6:Hid (EW w bc ({kc 18 with t:=S.data.toList}:C) none 0 (cmSet W4 bc ({kc 18 with t:=S.data.toList}:C) 0 nils nils)):=HE.out.set (d:=({kc 18 with t:=S.data.toList}:C)) (NumsIn.nil _ _ _)
          obtain ⟨⟨d0,d1,d2,d3,d4,d5,d6,d7,d8,d9,d10,d11⟩,g0,g1,g2,g3,g4,g5,g6,g7,g8,g9,g10,g11⟩:=cm_at HE.out.pc
          clear hl q6
          go_upto_region 23 with fail
          clear d0 d1 d2 d3 d4 d5 d6 d7 d8 d9 d10 d11 g0 g1 g2 g3 g4 g5 g6 g7 g8 g9 g10 g11 HE
          generalize hW6:World.setCell _ _ _=W6
          have HE:Hid (EW w bc ({kc 18 with t:=S.data.toList}:C) none 0 W6):=by rw [←hW6];exact HE6
          clear hW6 HE6
          obtain ⟨⟨c0,c1,c2,c3,c4,c5,c6,c7,c8,c9,c10,c11⟩,f0,f1,f2,f3,f4,f5,f6,f7,f8,f9,f10,f11⟩:=cm_at HE.out.r
          obtain ⟨⟨d0,d1,d2,d3,d4,d5,d6,d7,d8,d9,d10,d11⟩,g0,g1,g2,g3,g4,g5,g6,g7,g8,g9,g10,g11⟩:=cm_at HE.out.pc
          have HF:=Lib.hid (cm_fin HE.out.bel HE.out.r ({kc 18 with t:=S.data.toList}:C) 0 (.slice none ({kc 18 with t:=S.data.toList}:C).nums.length 0) nils)
          have HNN:=Lib.hid (cmSet_nums' HE.out.nums HE.out.r (by decide) ({kc 18 with t:=S.data.toList}:C) 0 (.slice none ({kc 18 with t:=S.data.toList}:C).nums.length 0) nils)
          go_wp2_with fail
          refine bodyPost_ret (w:=cmSet W6 w.heap.size ({kc 18 with t:=S.data.toList}:C) 0 (.slice none ({kc 18 with t:=S.data.toList}:C).nums.length 0) nils) (v:= .tuple #[cmVal ({kc 18 with t:=S.data.toList}:C) 0 (.slice none ({kc 18 with t:=S.data.toList}:C).nums.length 0) nils, .int .i64 0]) ?_ rfl ?_
          ·clear c0 c1 c2 c3 c4 c5 c6 c7 c8 c9 c10 c11 f0 f1 f2 f3 f4 f5 f6 f7 f8 f9 f10 f11 d0 d1 d2 d3 d4 d5 d6 d7 d8 d9 d10 d11 g0 g1 g2 g3 g4 g5 g6 g7 g8 g9 g10 g11
           generalize cmSet W6 w.heap.size ({kc 18 with t:=S.data.toList}:C) 0 (.slice none ({kc 18 with t:=S.data.toList}:C).nums.length 0) nils=WE at HF⊢
           obtain ⟨⟨c0,c1,c2,c3,c4,c5,c6,c7,c8,c9,c10,c11⟩,_⟩:=cm_at HF.out.1
           simp [results,Tryz.results90,go_sem,c0,c1,c2,c3,c4,c5,c6,c7,c8,c9,c10,c11] <;> rfl
          ·rw [←HQ.out]
           exact ⟨HF.out.2,none,0,rfl,HNN.out,HBK.out⟩
         ·have e6:((S.extract 0 2).toList== [84,70])=false:=by rw [str_is,E2];exact decide_eq_false q6
          by_cases q7:S.data.toList.take 2= [84,65]
          ·have e7:((S.extract 0 2).toList== [84,65])=true:=by rw [str_is,E2];exact decide_eq_true q7
           rw [if_pos (.inr (.inl q7))] at hl
           have HQ:Hid (Except.ok ({kc 18 with t:=S.data.toList}:C)=res):=hl
           have HBK:Hid ((({kc 18 with t:=S.data.toList}:C)).blocks= []):=rfl
           have HE6:Hid (EW w bc ({kc 18 with t:=S.data.toList}:C) none 0 (cmSet W4 bc ({kc 18 with t:=S.data.toList}:C) 0 nils nils)):=HE.out.set (d:=({kc 18 with t:=S.data.toList}:C)) (NumsIn.nil _ _ _)
           obtain ⟨⟨d0,d1,d2,d3,d4,d5,d6,d7,d8,d9,d10,d11⟩,g0,g1,g2,g3,g4,g5,g6,g7,g8,g9,g10,g11⟩:=cm_at HE.out.pc
           clear hl q7
           go_upto_region 23 with fail
           clear d0 d1 d2 d3 d4 d5 d6 d7 d8 d9 d10 d11 g0 g1 g2 g3 g4 g5 g6 g7 g8 g9 g10 g11 HE
           generalize hW6:World.setCell _ _ _=W6
           have HE:Hid (EW w bc ({kc 18 with t:=S.data.toList}:C) none 0 W6):=by rw [←hW6];exact HE6
           clear hW6 HE6
           obtain ⟨⟨c0,c1,c2,c3,c4,c5,c6,c7,c8,c9,c10,c11⟩,f0,f1,f2,f3,f4,f5,f6,f7,f8,f9,f10,f11⟩:=cm_at HE.out.r
           obtain ⟨⟨d0,d1,d2,d3,d4,d5,d6,d7,d8,d9,d10,d11⟩,g0,g1,g2,g3,g4,g5,g6,g7,g8,g9,g10,g11⟩:=cm_at HE.out.pc
           have HF:=Lib.hid (cm_fin HE.out.bel HE.out.r ({kc 18 with t:=S.data.toList}:C) 0 (.slice none ({kc 18 with t:=S.data.toList}:C).nums.length 0) nils)
           have HNN:=Lib.hid (cmSet_nums' HE.out.nums HE.out.r (by decide) ({kc 18 with t:=S.data.toList}:C) 0 (.slice none ({kc 18 with t:=S.data.toList}:C).nums.length 0) nils)
           go_wp2_with fail
           refine bodyPost_ret (w:=cmSet W6 w.heap.size ({kc 18 with t:=S.data.toList}:C) 0 (.slice none ({kc 18 with t:=S.data.toList}:C).nums.length 0) nils) (v:= .tuple #[cmVal ({kc 18 with t:=S.data.toList}:C) 0 (.slice none ({kc 18 with t:=S.data.toList}:C).nums.length 0) nils, .int .i64 0]) ?_ rfl ?_
           ·clear c0 c1 c2 c3 c4 c5 c6 c7 c8 c9 c10 c11 f0 f1 f2 f3 f4 f5 f6 f7 f8 f9 f10 f11 d0 d1 d2 d3 d4 d5 d6 d7 d8 d9 d10 d11 g0 g1 g2 g3 g4 g5 g6 g7 g8 g9 g10 g11
            generalize cmSet W6 w.heap.size ({kc 18 with t:=S.data.toList}:C) 0 (.slice none ({kc 18 with t:=S.data.toList}:C).nums.length 0) nils=WE at HF⊢
            obtain ⟨⟨c0,c1,c2,c3,c4,c5,c6,c7,c8,c9,c10,c11⟩,_⟩:=cm_at HF.out.1
            simp [results,Tryz.results90,go_sem,c0,c1,c2,c3,c4,c5,c6,c7,c8,c9,c10,c11] <;> rfl
           ·rw [←HQ.out]
            exact ⟨HF.out.2,none,0,rfl,HNN.out,HBK.out⟩
          ·have e7:((S.extract 0 2).toList== [84,65])=false:=by rw [str_is,E2];exact decide_eq_false q7
           by_cases q8:S.data.toList.take 2= [84,79]
           ·have e8:((S.extract 0 2).toList== [84,79])=true:=by rw [str_is,E2];exact decide_eq_true q8
            rw [if_pos (.inr (.inr (.inl q8)))] at hl
            have HQ:Hid (Except.ok ({kc 18 with t:=S.data.toList}:C)=res):=hl
            have HBK:Hid ((({kc 18 with t:=S.data.toList}:C)).blocks= []):=rfl
            have HE6:Hid (EW w bc ({kc 18 with t:=S.data.toList}:C) none 0 (cmSet W4 bc ({kc 18 with t:=S.data.toList}:C) 0 nils nils)):=HE.out.set (d:=({kc 18 with t:=S.data.toList}:C)) (NumsIn.nil _ _ _)
            obtain ⟨⟨d0,d1,d2,d3,d4,d5,d6,d7,d8,d9,d10,d11⟩,g0,g1,g2,g3,g4,g5,g6,g7,g8,g9,g10,g11⟩:=cm_at HE.out.pc
            clear hl q8
            go_upto_region 23 with fail
            clear d0 d1 d2 d3 d4 d5 d6 d7 d8 d9 d10 d11 g0 g1 g2 g3 g4 g5 g6 g7 g8 g9 g10 g11 HE
            generalize hW6:World.setCell _ _ _=W6
            have HE:Hid (EW w bc ({kc 18 with t:=S.data.toList}:C) none 0 W6):=by rw [←hW6];exact HE6
            clear hW6 HE6
            obtain ⟨⟨c0,c1,c2,c3,c4,c5,c6,c7,c8,c9,c10,c11⟩,f0,f1,f2,f3,f4,f5,f6,f7,f8,f9,f10,f11⟩:=cm_at HE.out.r
            obtain ⟨⟨d0,d1,d2,d3,d4,d5,d6,d7,d8,d9,d10,d11⟩,g0,g1,g2,g3,g4,g5,g6,g7,g8,g9,g10,g11⟩:=cm_at HE.out.pc
            have HF:=Lib.hid (cm_fin HE.out.bel HE.out.r ({kc 18 with t:=S.data.toList}:C) 0 (.slice none ({kc 18 with t:=S.data.toList}:C).nums.length 0) nils)
            have HNN:=Lib.hid (cmSet_nums' HE.out.nums HE.out.r (by decide) ({kc 18 with t:=S.data.toList}:C) 0 (.slice none ({kc 18 with t:=S.data.toList}:C).nums.length 0) nils)
            go_wp2_with fail
            refine bodyPost_ret (w:=cmSet W6 w.heap.size ({kc 18 with t:=S.data.toList}:C) 0 (.slice none ({kc 18 with t:=S.data.toList}:C).nums.length 0) nils) (v:= .tuple #[cmVal ({kc 18 with t:=S.data.toList}:C) 0 (.slice none ({kc 18 with t:=S.data.toList}:C).nums.length 0) nils, .int .i64 0]) ?_ rfl ?_
            ·clear c0 c1 c2 c3 c4 c5 c6 c7 c8 c9 c10 c11 f0 f1 f2 f3 f4 f5 f6 f7 f8 f9 f10 f11 d0 d1 d2 d3 d4 d5 d6 d7 d8 d9 d10 d11 g0 g1 g2 g3 g4 g5 g6 g7 g8 g9 g10 g11
             generalize cmSet W6 w.heap.size ({kc 18 with t:=S.data.toList}:C) 0 (.slice none ({kc 18 with t:=S.data.toList}:C).nums.length 0) nils=WE at HF⊢
             obtain ⟨⟨c0,c1,c2,c3,c4,c5,c6,c7,c8,c9,c10,c11⟩,_⟩:=cm_at HF.out.1
             simp [results,Tryz.results90,go_sem,c0,c1,c2,c3,c4,c5,c6,c7,c8,c9,c10,c11] <;> rfl
            ·rw [←HQ.out]
             exact ⟨HF.out.2,none,0,rfl,HNN.out,HBK.out⟩
           ·have e8:((S.extract 0 2).toList== [84,79])=false:=by rw [str_is,E2];exact decide_eq_false q8
            by_cases q9:S.data.toList.take 2= [84,68]
            ·have e9:((S.extract 0 2).toList== [84,68])=true:=by rw [str_is,E2];exact decide_eq_true q9
             rw [if_pos (.inr (.inr (.inr q9)))] at hl
             have HQ:Hid (Except.ok ({kc 18 with t:=S.data.toList}:C)=res):=hl
             have HBK:Hid ((({kc 18 with t:=S.data.toList}:C)).blocks= []):=rfl
             have HE6:Hid (EW w bc ({kc 18 with t:=S.data.toList}:C) none 0 (cmSet W4 bc ({kc 18 with t:=S.data.toList}:C) 0 nils nils)):=HE.out.set (d:=({kc 18 with t:=S.data.toList}:C)) (NumsIn.nil _ _ _)
             obtain ⟨⟨d0,d1,d2,d3,d4,d5,d6,d7,d8,d9,d10,d11⟩,g0,g1,g2,g3,g4,g5,g6,g7,g8,g9,g10,g11⟩:=cm_at HE.out.pc
             clear hl q9
             go_upto_region 23 with fail
             clear d0 d1 d2 d3 d4 d5 d6 d7 d8 d9 d10 d11 g0 g1 g2 g3 g4 g5 g6 g7 g8 g9 g10 g11 HE
             generalize hW6:World.setCell _ _ _=W6
             have HE:Hid (EW w bc ({kc 18 with t:=S.data.toList}:C) none 0 W6):=by rw [←hW6];exact HE6
             clear hW6 HE6
             obtain ⟨⟨c0,c1,c2,c3,c4,c5,c6,c7,c8,c9,c10,c11⟩,f0,f1,f2,f3,f4,f5,f6,f7,f8,f9,f10,f11⟩:=cm_at HE.out.r
             obtain ⟨⟨d0,d1,d2,d3,d4,d5,d6,d7,d8,d9,d10,d11⟩,g0,g1,g2,g3,g4,g5,g6,g7,g8,g9,g10,g11⟩:=cm_at HE.out.pc
             have HF:=Lib.hid (cm_fin HE.out.bel HE.out.r ({kc 18 with t:=S.data.toList}:C) 0 (.slice none ({kc 18 with t:=S.data.toList}:C).nums.length 0) nils)
             have HNN:=Lib.hid (cmSet_nums' HE.out.nums HE.out.r (by decide) ({kc 18 with t:=S.data.toList}:C) 0 (.slice none ({kc 18 with t:=S.data.toList}:C).nums.length 0) nils)
             go_wp2_with fail
             refine bodyPost_ret (w:=cmSet W6 w.heap.size ({kc 18 with t:=S.data.toList}:C) 0 (.slice none ({kc 18 with t:=S.data.toList}:C).nums.length 0) nils) (v:= .tuple #[cmVal ({kc 18 with t:=S.data.toList}:C) 0 (.slice none ({kc 18 with t:=S.data.toList}:C).nums.length 0) nils, .int .i64 0]) ?_ rfl ?_
             ·clear c0 c1 c2 c3 c4 c5 c6 c7 c8 c9 c10 c11 f0 f1 f2 f3 f4 f5 f6 f7 f8 f9 f10 f11 d0 d1 d2 d3 d4 d5 d6 d7 d8 d9 d10 d11 g0 g1 g2 g3 g4 g5 g6 g7 g8 g9 g10 g11
              generalize cmSet W6 w.heap.size ({kc 18 with t:=S.data.toList}:C) 0 (.slice none ({kc 18 with t:=S.data.toList}:C).nums.length 0) nils=WE at HF⊢
              obtain ⟨⟨c0,c1,c2,c3,c4,c5,c6,c7,c8,c9,c10,c11⟩,_⟩:=cm_at HF.out.1
              simp [results,Tryz.results90,go_sem,c0,c1,c2,c3,c4,c5,c6,c7,c8,c9,c10,c11] <;> rfl
             ·rw [←HQ.out]
              exact ⟨HF.out.2,none,0,rfl,HNN.out,HBK.out⟩
            ·have e9:((S.extract 0 2).toList== [84,68])=false:=by rw [str_is,E2];exact decide_eq_false q9
             rw [if_neg (by intro h;rcases h with h | h | h | h;exact q6 h;exact q7 h;exact q8 h;exact q9 h)] at hl
             have HQ:Hid (Except.error 3=res):=hl
             clear hl q1 q2 q3 q4 q5 q6 q7 q8 q9
             obtain ⟨⟨c0,c1,c2,c3,c4,c5,c6,c7,c8,c9,c10,c11⟩,f0,f1,f2,f3,f4,f5,f6,f7,f8,f9,f10,f11⟩:=cm_at HE.out.r
             have HF:=Lib.hid (cm_fin HE.out.bel HE.out.r Gp.c0 0 nils nils)
             go_wp2_with fail
             refine bodyPost_ret (w:=cmSet W4 w.heap.size Gp.c0 0 nils nils) (v:= .tuple #[cmVal Gp.c0 0 nils nils, .int .i64 3]) ?_ rfl ?_
             ·clear c0 c1 c2 c3 c4 c5 c6 c7 c8 c9 c10 c11 f0 f1 f2 f3 f4 f5 f6 f7 f8 f9 f10 f11
              generalize cmSet W4 w.heap.size Gp.c0 0 nils nils=WE at HF⊢
              obtain ⟨⟨c0,c1,c2,c3,c4,c5,c6,c7,c8,c9,c10,c11⟩,_⟩:=cm_at HF.out.1
              simp [results,Tryz.results90,go_sem,c0,c1,c2,c3,c4,c5,c6,c7,c8,c9,c10,c11] <;> rfl
             ·rw [←HQ.out]
              exact ⟨HF.out.2,rfl⟩
end Go.Proofs.YtfldplmgkeiimaaGreatDoor.GW
