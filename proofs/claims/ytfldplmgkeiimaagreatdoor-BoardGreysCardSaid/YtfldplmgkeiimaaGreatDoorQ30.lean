/-
  Several texts of this proof in one: Ia.
-/
import Derived.Test.YtfldplmgkeiimaaGreatDoorQ29
import Derived.BigQuiet
set_option linter.unusedVariables false
set_option linter.unusedSimpArgs false
namespace Go.Proofs.YtfldplmgkeiimaaGreatDoor.GW
open Go.RowKit Go.Proofs.YtfldplmgkeiimaaGreatDoor.Base Go.Proofs.YtfldplmgkeiimaaGreatDoor.Dp Go.Proofs.YtfldplmgkeiimaaGreatDoor.DeciW Go.Proofs.YtfldplmgkeiimaaGreatDoor.Mem Go.Proofs.YtfldplmgkeiimaaGreatDoor.RdW Go.Proofs.YtfldplmgkeiimaaGreatDoor.Gp
def WdsIn (w:World) (p:Option Addr) (l:List Wd):Prop:=0 < l.length→∃b o,p=some ⟨b,o,none⟩∧b < w.heap.size∧∀i (hi:i < l.length),w.cell? ⟨b,o+i *4,none⟩=some (.int .i64 (l[i].a:Int))∧w.cell? ⟨b,o+i *4+1,none⟩=some (.bool l[i].ext)∧w.cell? ⟨b,o+i *4+2,none⟩=some (.bool l[i].first)∧w.cell? ⟨b,o+i *4+3,none⟩=some (.string ⟨l[i].t.toArray⟩)
theorem WdsIn.below {w w':World} {p:Option Addr} {l:List Wd} (h:WdsIn w p l) (hb:Below w.heap.size w w'):WdsIn w' p l:=by
 intro hl
 obtain ⟨b,o,hp,hlt,hc⟩:=h hl
 refine ⟨b,o,hp,Nat.lt_of_lt_of_le hlt hb.size,fun i hi=>?_⟩
 obtain ⟨h0,h1,h2,h3⟩:=hc i hi
 exact ⟨(hb.cell (p:=⟨b,o+i *4,none⟩) hlt).trans h0,(hb.cell (p:=⟨b,o+i *4+1,none⟩) hlt).trans h1,(hb.cell (p:=⟨b,o+i *4+2,none⟩) hlt).trans h2,(hb.cell (p:=⟨b,o+i *4+3,none⟩) hlt).trans h3⟩
def GroupOut (res:Except (Nat × Nat) (List C)) (w:World) (en:Ending) (w':World):Prop:=Below w.heap.size w w'∧match res with
 | .ok cs=>∃v,en= .returned (.tuple #[v, .int .i64 0, .int .i64 0])∧CmdsAt w.heap.size w' v (at0 cs)
 | .error x=>en= .returned (.tuple #[nils, .int .i64 (x.1:Int), .int .i64 (x.2:Int)])
theorem cmds_one {B:Nat} {W:World} (x:Nat × C) {p q:Option Addr} {k m:Nat} (hB:B≤W.heap.size) (hn:NumsIn B W p x.2.nums) (hb:BlksIn B W q x.2.blocks):
  CmdsAt B (W.alloc (.cells (cmCells x.2 (x.1:Int) (.slice p x.2.nums.length k) (.slice q x.2.blocks.length m)) 104)) (.slice (some ⟨W.heap.size,0,none⟩) 1 1) [x]:=by
 have hK:KeepT (0:TypeId) W (W.alloc (.cells (cmCells x.2 (x.1:Int) (.slice p x.2.nums.length k) (.slice q x.2.blocks.length m)) 104)):= .of_below ((Below.refl _ _).alloc (Nat.le_refl _) _)
 refine ⟨_,⟨rfl, .inr ⟨W.heap.size,1,_,rfl,hB,heap_alloc_new W _,Nat.le_refl _,by unfold maxLen;omega,rfl,?_⟩⟩, .cons (k:=k) (m:=m) (hn.keep hK (by decide)) (hb.keep hK (by decide) (by decide) (by decide)) .nil⟩
 rw [List.append_nil]
 rfl
def strVs (l:List (List UInt8)):List Value:=l.map fun s=> .string ⟨s.toArray⟩
theorem strs_row {w:World} {B:Nat} {v:Value} {l:List (List UInt8)} (h:w.ownsRow B 9 1 v l.length (strVs l)):∃p c,v= .slice p l.length c∧StrsIn w p l:=by
 rcases h.2 with ⟨h1,h2⟩|⟨g,c,cur,h1,h2,h3,h4,h5,h6,h7⟩
 ·exact ⟨none,0,by rw [h1,h2],fun hl=>absurd hl (by omega)⟩
 ·subst h1
  refine ⟨_,c,rfl,fun hl=>⟨g,0,rfl,(Array.getElem?_eq_some_iff.1 h3).1,fun i hi=>?_⟩⟩
  have h9:(strVs l)[i]?=some (.string ⟨l[i].toArray⟩):=by
   rw [strVs,List.getElem?_map,List.getElem?_eq_getElem hi];rfl
  rw [Nat.zero_add,World.ownsRow.cellAt h i (by omega),h9]
theorem blocksN_lt:∀{l:List (List UInt8)} {k:Nat} {acc:List Blk} {i e:Nat},blocksN l k acc= .error (i,e)→i < k+l.length
 | [],k,acc,i,e,h=>by cases h
 | s :: l,k,acc,i,e,h=>by
  unfold blocksN at h
  split at h
  ·injection h with h
   injection h with h1 _
   rw [List.length_cons];omega
  ·have:=blocksN_lt h
   rw [List.length_cons];omega
theorem blocksV_lt {l:List (List UInt8)} {b:List Blk} {i e:Nat} (h:blocksV l=(b,i,e)) (he:e≠0):i < l.length:=by
 unfold blocksV at h
 split at h
 ·rename_i h5
  simp only [Prod.mk.injEq] at h
  omega
 ·split at h
  ·rename_i h2
   have:=blocksN_lt h2
   simp only [Prod.mk.injEq] at h
   omega
  ·simp only [Prod.mk.injEq] at h
   omega
theorem info_str:(Tryz.prog.info? 9).map (fun i=>(i.zero,i.size,i.bytes))=some (some (.string ⟨#[]⟩),1,16):=by kernel_rfl
theorem wd_at {x:World} {b:Nat} {v0 v1 v2 v3:Value} {t:TypeId} (h:x.heap[b]?=some (.cells #[v0,v1,v2,v3] t)):
 x.cell? ⟨b,0,none⟩=some v0∧x.cell? ⟨b,1,none⟩=some v1∧x.cell? ⟨b,2,none⟩=some v2∧x.cell? ⟨b,3,none⟩=some v3:=(bk_at h).1
structure EC (w:World) (b:Nat) (c:C) (p:Option Addr) (k:Nat) (W:World):Prop where
 ec:W.heap[b]?=some (cmObj c 0 (.slice p c.nums.length k) nils)
 nums:NumsIn w.heap.size W p c.nums
 bel:Below w.heap.size w W
theorem extV_ne {t:List UInt8} {n:Nat} (h:extV t= .error n):n≠0:=by
 unfold extV at h
 split at h
 ·cases h;decide
 ·split at h
  ·cases h
  ·split at h
   ·cases h;decide
   ·cases h
theorem drew_below' {B:Nat} {w w':World} (hB:B≤w.heap.size) (h:Drew w w'):Below B w w':=(drew_below h).mono hB
theorem strs_cast {W:World} {B n k:Nat} {v:Value} {l:List Wd} {z:ByteArray} (h:k < l.length) (e:(⟨l[k].t.toArray⟩:ByteArray)=z) (ho:W.ownsRow B 9 1 v n (strVs ((l.take k).map Wd.t)++ [.string z])):W.ownsRow B 9 1 v n (strVs ((l.take (k+1)).map Wd.t)):=by
 have h2:strVs ((l.take (k+1)).map Wd.t)=strVs ((l.take k).map Wd.t)++ [.string z]:=by
  rw [List.take_add_one,List.getElem?_eq_getElem h,List.map_append,←e]
  simp [strVs]
 rw [h2]
 exact ho
theorem strs_push {w W X w1:World} {v:Value} {n:Nat} {xs:List Value} {bb:Nat} {ds:Array Value} (hx:W.ownsRow w.heap.size 9 1 v n xs) (hB:Below w.heap.size w W) (hw:W.heap[bb]?=some (.cells ds 153)) (hX:Below W.heap.size W X) (hg:X.grownBy w1 v.ownBlock):
  Below w.heap.size w w1∧w1.heap[bb]?=some (.cells ds 153):=by
 have hx1:=row_below hx hX
 have hb2:=hB.trans (hX.mono hB.size)
 have hw2:=one_below hw hX
 exact ⟨hb2.grown hg hb2.size (fun k hk=>(hx1.lt _ hk).1),(hg.block _ (Array.getElem?_eq_some_iff.1 hw2).1 (Ne.symm (own_ne hx1 hw2 (by decide)))).trans hw2⟩
set_option maxRecDepth 100000 in
set_option maxHeartbeats 25600000 in
theorem group_c (p:Option Addr) (cap:Nat) (x:Wd) (l:List Wd) (w:World) (hin:Hid (WdsIn w p (x :: l))) (hn:l.length≤999999) (hcap:l.length+1≤cap) (hc2:cap≤maxLen) (hs:Hid (∀y∈x :: l,y.t.length≤1000000000)) (res:Except (Nat × Nat) (List C)) (hr:Hid (groupV x l=res)):
  Calls Tryz.prog 62 #[.slice p (l.length+1) cap] w (GroupOut res w):=by
 obtain ⟨b,o,rfl,hlt,hc⟩:=hin.out (Nat.succ_pos _)
 have h0:=hc 0 (Nat.succ_pos _)
 rw [show o+0 *4=o by omega] at h0
 obtain ⟨x0,x1,x2,x3⟩:=h0
 simp only [List.getElem_cons_zero] at x0 x1 x2 x3
 obtain ⟨T,hT⟩:=str_ex x.t
 have hTT:(⟨x.t.toArray⟩:ByteArray)=T:=str_eq hT.symm
 rw [hTT] at x3
 have HTS:Hid (T.size≤1000000000):=by
  show _≤_
  rw [←len_list,hT]
  exact hs.out x (by simp)
 have HC:Hid (b < w.heap.size∧∀i (hi:i <(x :: l).length),w.cell? ⟨b,o+i *4,none⟩=some (.int .i64 ((x :: l)[i].a:Int))∧w.cell? ⟨b,o+i *4+1,none⟩=some (.bool (x :: l)[i].ext)∧w.cell? ⟨b,o+i *4+2,none⟩=some (.bool (x :: l)[i].first)∧w.cell? ⟨b,o+i *4+3,none⟩=some (.string ⟨(x :: l)[i].t.toArray⟩)):=⟨hlt,hc⟩
 have hl:=hr.out
 unfold groupV at hl
 rw [←hT] at hl
 obtain ⟨xa,hxa⟩:∃a:Int,(x.a:Int)=a:=⟨_,rfl⟩
 rw [hxa] at x0
 have HXA:=Lib.hid hxa
 have hli:(0:Int)≤(l.length:Int):=by omega
 clear hlt hc hr hT hTT hxa
 have HW:Hid ((w.alloc (.cells #[.int .i64 xa, .bool x.ext, .bool x.first, .string T] 153)).heap[w.heap.size]?=some (.cells #[.int .i64 xa, .bool x.ext, .bool x.first, .string T] 153)∧Below w.heap.size w (w.alloc (.cells #[.int .i64 xa, .bool x.ext, .bool x.first, .string T] 153))):=⟨heap_alloc_new w _,(Below.refl _ _).alloc (Nat.le_refl _) _⟩
 go_enter Tryz.func62,Tryz.ntmps62
 go_upto_region 2 with fail
 clear x0 x1 x2 x3
 generalize w.alloc (.cells #[.int .i64 xa, .bool x.ext, .bool x.first, .string T] 153)=W1 at HW⊢
 obtain ⟨y0,y1,y2,y3⟩:=wd_at HW.out.1
 by_cases hAM:T.data.toList.take 2= [65,77]
 ·rw [if_neg (fun h=>h hAM)] at hl
  obtain ⟨R,hR⟩:=str_ex (T.data.toList.drop 2)
  have HP:Hid (T.data.toList=(⟨#[65,77]⟩:ByteArray).data.toList++R.data.toList):=by show _=_;rw [hR];exact pre_take (p:= [65,77]) hAM
  have HRS:Hid (R.size≤maxLen):=by
   show _≤_
   have h1:=congrArg List.length hR
   rw [len_list,List.length_drop,len_list] at h1
   have:=HTS.out
   unfold maxLen
   omega
  rw [←hR] at hl
  obtain ⟨bn,hbn⟩:∃b,nameV R.data.toList=b:=⟨_,rfl⟩
  have HBN:=Lib.hid hbn
  rw [hbn] at hl
  clear hR hbn hAM
  go_wp2_with fail
  with_reducible refine (pre_yes_c _ _ _ HP _).mono ?_
  rintro e w2 ⟨rfl,rfl⟩
  rw [bs_eta]
  go_wp2_with fail
  with_reducible refine (name_c R HRS.out bn HBN _).mono ?_
  rintro e w2 ⟨rfl,rfl⟩
  cases bn with
  | false=>
   rw [if_pos rfl] at hl
   have HQ:Hid (Except.error (x.a,3)=res):=hl
   clear hl
   go_upto_region 11 with fail
   go_quiet (fail)
   go_wp2_with fail
   go_ret3
   rw [←HQ.out]
   exact ⟨HW.out.2.trans (drew_below' HW.out.2.size ⟨_,rfl⟩),by rw [←HXA.out];rfl⟩
  | true=>
   rw [if_neg (by decide)] at hl
   obtain ⟨⟨bs,i,e⟩,hb⟩:∃y,blocksV (l.map Wd.t)=y:=⟨_,rfl⟩
   have HBV:=Lib.hid hb
   rw [hb] at hl
   simp only [] at hl
   have HQ0:=Lib.hid hl
   clear hb hl
   have hcapi:(l.length:Int)+1≤(cap:Int):=by omega
   obtain hc1 | hc1:cap=1∨1 < cap:=by omega
   ·skip
    go_wp2_with fail
    clear y0 y1 y2 y3
    go_loopw [10,55] (fun u xi wr=>∃(k:Nat),k≤l.length∧xi= .int .i64 (k:Int)∧Hid (wr.ownsRow w.heap.size 9 1 u k (strVs ((l.take k).map Wd.t)))∧Hid (Below w.heap.size w wr)∧Hid (wr.heap[w.heap.size]?=some (.cells #[.int .i64 xa, .bool x.ext, .bool x.first, .string T] 153))) (fun _ xi _=>l.length -(intOf xi).toNat)
    case atStart=>exact ⟨0,Nat.zero_le _,rfl,World.ownsRow_nil _ _ _ _,HW.out.2,HW.out.1⟩
    case round=>
     obtain ⟨k,hk,rfl,HX,HB,HW1⟩:=hrel
     obtain ⟨pv,cv,rfl⟩:=row_form HX.out
     by_cases hlt:k < l.length
     ·exfalso;omega
     ·obtain rfl:k=l.length:=by omega
      have hX2:wr.ownsRow w.heap.size 9 1 (.slice pv l.length cv) (l.map Wd.t).length (strVs (l.map Wd.t)):=by
       have h:=HX.out
       rw [List.take_length] at h
       rw [List.length_map]
       exact h
      obtain ⟨pt,ct,hpt,hsi⟩:=strs_row hX2
      rw [List.length_map] at hpt
      injection hpt with e1 _ e3
      subst e1
      subst e3
      have HSI:=Lib.hid hsi
      have hbc:=blocks_c pv cv (l.map Wd.t) wr HSI (by rw [List.length_map];omega) (Lib.hid (by
       intro s hs2
       obtain ⟨y,hy,rfl⟩:=List.mem_map.1 hs2
       exact hs.out y (List.mem_cons_of_mem _ hy))) bs i e HBV
      rw [List.length_map] at hbc
      have HBC:=Lib.hid hbc
      clear hX2 hsi hbc
      go_wp2_with fail
      with_reducible refine HBC.out.mono ?_
      rintro en w5 ⟨hb5,q,kb,rfl,hbi⟩
      have HB5:=Lib.hid (HB.out.trans (hb5.mono HB.out.size))
      have HBI:=Lib.hid (hbi.mono HB.out.size)
      have HW5:=Lib.hid (one_below HW1.out hb5)
      clear hb5 hbi HX HSI HBC
      by_cases he:e=0
      ·subst he
       have HQ:Hid (Except.ok [{kc 19 with t:=R.data.toList,blocks:=bs}]=res):=by
        have h:=HQ0.out
        rw [if_neg (fun h=>h rfl)] at h
        exact h
       have HCM:=Lib.hid (cmds_one (W:=w5) (0,{kc 19 with t:=R.data.toList,blocks:=bs}) (p:=none) (q:=q) (k:=0) (m:=kb) HB5.out.size (NumsIn.nil _ _ _) HBI.out)
       clear HQ0
       go_wp2_with fail
       go_ret3
       rw [←HQ.out]
       exact ⟨HB5.out.alloc HB5.out.size _,_,rfl,HCM.out⟩
      ·have hei:((e:Int) !=0)=true:=by simp;omega
       have hil:i < l.length:=by
        have h:=blocksV_lt HBV.out he
        rwa [List.length_map] at h
       exfalso;omega
   ·have hc1i:(1:Int)<(cap:Int):=by omega
    go_wp2_with fail
    clear y0 y1 y2 y3
    go_loopw [10,55] (fun u xi wr=>∃(k:Nat),k≤l.length∧xi= .int .i64 (k:Int)∧Hid (wr.ownsRow w.heap.size 9 1 u k (strVs ((l.take k).map Wd.t)))∧Hid (Below w.heap.size w wr)∧Hid (wr.heap[w.heap.size]?=some (.cells #[.int .i64 xa, .bool x.ext, .bool x.first, .string T] 153))) (fun _ xi _=>l.length -(intOf xi).toNat)
    case atStart=>exact ⟨0,Nat.zero_le _,rfl,World.ownsRow_nil _ _ _ _,HW.out.2,HW.out.1⟩
    case round=>
     obtain ⟨k,hk,rfl,HX,HB,HW1⟩:=hrel
     obtain ⟨pv,cv,rfl⟩:=row_form HX.out
     by_cases hlt:k < l.length
     ·have hlti:(k:Int)<(l.length:Int):=by omega
      obtain ⟨z0,z1,z2,z3⟩:=HC.out.2 (k+1) (by rw [List.length_cons];omega)
      rw [←HB.out.cell (p:=⟨b,o+(k+1) *4,none⟩) HC.out.1,show o+(k+1) *4=o+4+k *4 by omega] at z0
      rw [←HB.out.cell (p:=⟨b,o+(k+1) *4+1,none⟩) HC.out.1,show o+(k+1) *4=o+4+k *4 by omega] at z1
      rw [←HB.out.cell (p:=⟨b,o+(k+1) *4+2,none⟩) HC.out.1,show o+(k+1) *4=o+4+k *4 by omega] at z2
      rw [←HB.out.cell (p:=⟨b,o+(k+1) *4+3,none⟩) HC.out.1,show o+(k+1) *4=o+4+k *4 by omega] at z3
      simp only [List.getElem_cons_succ] at z0 z1 z2 z3
      obtain ⟨za,hza⟩:∃a:Int,(l[k].a:Int)=a:=⟨_,rfl⟩
      obtain ⟨zb,hzb⟩:∃a,l[k].ext=a:=⟨_,rfl⟩
      obtain ⟨zc,hzc⟩:∃a,l[k].first=a:=⟨_,rfl⟩
      obtain ⟨zt,hzt⟩:∃a:ByteArray,(⟨l[k].t.toArray⟩:ByteArray)=a:=⟨_,rfl⟩
      rw [hza] at z0
      rw [hzb] at z1
      rw [hzc] at z2
      rw [hzt] at z3
      have HZT:=Lib.hid hzt
      clear hza hzb hzc hzt
      obtain ⟨i0,hi0,hz0,hz1,hz2⟩:=info_parts info_str
      have HI:=Lib.hid (And.intro hi0 (And.intro hz0 (And.intro hz1 hz2)))
      clear hi0 hz0 hz1 hz2
      go_wp2_with (at_builtin;refine wpList_append_own _ rfl _ _ _ rfl w.heap.size 9 i0 (.string ⟨#[]⟩) 1 16 Tryz.underlying29 HI.out.1 HI.out.2.1 HI.out.2.2.1 HI.out.2.2.2 rfl (by omega) (.slice pv k cv) k (strVs ((l.take k).map Wd.t)) (by rfl) ((HX.out.alloc _).alloc _) ⟨wr.heap.size+1,0,none⟩ 1 1 [.string zt] (by rfl) rfl (World.news_of_block (two_new wr _ _)) (by simp [Value.oneCell']) (by unfold maxLen;omega) (by omega) (by have:=HB.out.size;simp <;> omega) ?_;intro v' w' hown' hgrow' hnn';obtain ⟨g',cap',rfl,_,_⟩:=hown'.form (by omega);have HX2:=Lib.hid (strs_cast hlt HZT.out hown');have HBX:=Lib.hid (strs_push HX.out HB.out HW1.out (((Below.refl _ _).alloc (Nat.le_refl _) _).alloc (by simp) _) hgrow');clear hown' hgrow' hnn')
      clear z0 z1 z2 z3
      go_round
      case rel=>exact ⟨k+1,by omega,by go_num,HX2,HBX.out.1,HBX.out.2⟩
      case measure=>simp [intOf];omega
     ·obtain rfl:k=l.length:=by omega
      have hX2:wr.ownsRow w.heap.size 9 1 (.slice pv l.length cv) (l.map Wd.t).length (strVs (l.map Wd.t)):=by
       have h:=HX.out
       rw [List.take_length] at h
       rw [List.length_map]
       exact h
      obtain ⟨pt,ct,hpt,hsi⟩:=strs_row hX2
      rw [List.length_map] at hpt
      injection hpt with e1 _ e3
      subst e1
      subst e3
      have HSI:=Lib.hid hsi
      have hbc:=blocks_c pv cv (l.map Wd.t) wr HSI (by rw [List.length_map];omega) (Lib.hid (by
       intro s hs2
       obtain ⟨y,hy,rfl⟩:=List.mem_map.1 hs2
       exact hs.out y (List.mem_cons_of_mem _ hy))) bs i e HBV
      rw [List.length_map] at hbc
      have HBC:=Lib.hid hbc
      clear hX2 hsi hbc
      go_wp2_with fail
      with_reducible refine HBC.out.mono ?_
      rintro en w5 ⟨hb5,q,kb,rfl,hbi⟩
      have HB5:=Lib.hid (HB.out.trans (hb5.mono HB.out.size))
      have HBI:=Lib.hid (hbi.mono HB.out.size)
      have HW5:=Lib.hid (one_below HW1.out hb5)
      clear hb5 hbi HX HSI HBC
      by_cases he:e=0
      ·subst he
       have HQ:Hid (Except.ok [{kc 19 with t:=R.data.toList,blocks:=bs}]=res):=by
        have h:=HQ0.out
        rw [if_neg (fun h=>h rfl)] at h
        exact h
       have HCM:=Lib.hid (cmds_one (W:=w5) (0,{kc 19 with t:=R.data.toList,blocks:=bs}) (p:=none) (q:=q) (k:=0) (m:=kb) HB5.out.size (NumsIn.nil _ _ _) HBI.out)
       clear HQ0
       go_wp2_with fail
       go_ret3
       rw [←HQ.out]
       exact ⟨HB5.out.alloc HB5.out.size _,_,rfl,HCM.out⟩
      ·have hei:((e:Int) !=0)=true:=by simp;omega
       have hil:i < l.length:=by
        have h:=blocksV_lt HBV.out he
        rwa [List.length_map] at h
       have HQ:Hid (Except.error (l[i].a,e)=res):=by
        have h:=HQ0.out
        rw [if_pos he,List.getElem?_map,List.getElem?_eq_getElem hil] at h
        exact h
       have z0:=(HC.out.2 (i+1) (by rw [List.length_cons];omega)).1
       rw [←HB5.out.cell (p:=⟨b,o+(i+1) *4,none⟩) HC.out.1] at z0
       simp only [List.getElem_cons_succ] at z0
       obtain ⟨za,hza⟩:∃a:Int,(l[i].a:Int)=a:=⟨_,rfl⟩
       rw [hza] at z0
       have HZA:=Lib.hid hza
       have hi1:(1:Int)+(i:Int)=((i+1:Nat):Int):=by omega
       have hi2:(i:Int)<(l.length:Int):=by omega
       have hi3:((i+1:Nat):Int)<(l.length:Int)+1:=by omega
       clear HQ0 he hza
       go_upto_region 20 with fail
       go_quiet (fail)
       go_wp2_with fail
       go_ret3
       rw [←HQ.out]
       exact ⟨HB5.out.trans (drew_below' HB5.out.size ⟨_,rfl⟩),by rw [←HZA.out];rfl⟩
 ·rw [if_pos hAM] at hl
  have HP:Hid (∀r,T.data.toList≠(⟨#[65,77]⟩:ByteArray).data.toList++r):=pre_not (p:= [65,77]) hAM
  obtain ⟨r1,hr1⟩:∃r,extV T.data.toList=r:=⟨_,rfl⟩
  have HR1:=Lib.hid hr1
  rw [hr1] at hl
  clear hr1 hAM
  go_wp2_with fail
  with_reducible refine (pre_no_c _ _ HP _).mono ?_
  rintro e w2 ⟨rfl,rfl⟩
  go_wp2_with fail
  with_reducible refine (ext_c T HTS.out r1 HR1 _).mono ?_
  rintro e w2 ⟨hb2,hx⟩
  have HB2:=Lib.hid (HW.out.2.trans (hb2.mono HW.out.2.size))
  have HW2:=Lib.hid (one_below HW.out.1 hb2)
  have HSZ:=Lib.hid HW.out.2.size
  clear hb2 y0 y1 y2 y3 HW
  cases r1 with
  | error n=>
   obtain rfl:e= .returned (.tuple #[cmVal Gp.c0 0 nils nils, .int .i64 (n:Int)]):=hx
   have hn0:n≠0:=extV_ne HR1.out
   have hni:((n:Int) !=0)=true:=by simp;omega
   have HQ:Hid (Except.error (x.a,n)=res):=hl
   have HB3:Hid (∀oo,Below w.heap.size w (w2.alloc oo)∧(w2.alloc oo).heap[w.heap.size]?=some (.cells #[.int .i64 xa, .bool x.ext, .bool x.first, .string T] 153)):=fun oo=>⟨HB2.out.alloc HB2.out.size _,one_below HW2.out ((Below.refl _ _).alloc (Nat.le_refl _) _)⟩
   unfold cmVal cmCells
   clear hn0 hl
   go_upto_region 5 with fail
   generalize hW3:w2.alloc _=W3
   have HB4:Hid (Below w.heap.size w W3∧W3.heap[w.heap.size]?=some (.cells #[.int .i64 xa, .bool x.ext, .bool x.first, .string T] 153)):=by rw [←hW3];exact HB3.out _
   clear hW3 HB3
   obtain ⟨y0,y1,y2,y3⟩:=wd_at HB4.out.2
   go_upto_region 6 with fail
   go_quiet (fail)
   go_wp2_with fail
   go_ret3
   rw [←HQ.out]
   exact ⟨HB4.out.1.trans (drew_below' HB4.out.1.size ⟨_,rfl⟩),by rw [←HXA.out];rfl⟩
  | ok c=>
   obtain ⟨p2,k2,rfl,hn2,hbk⟩:=hx
   have HN2:=Lib.hid (hn2.mono HSZ.out)
   have HBK:=Lib.hid hbk
   have HE:Hid (EC w w2.heap.size c p2 k2 (w2.alloc (cmObj c 0 (.slice p2 c.nums.length k2) nils))):=⟨heap_alloc_new w2 _,HN2.out.below ((Below.refl _ _).alloc (Nat.le_refl _) _),HB2.out.alloc HB2.out.size _⟩
   unfold cmVal cmCells
   unfold cmObj cmCells at HE
   generalize hbc:w2.heap.size=bc at HE
   clear hn2 hbk
   go_upto_region 5 with fail
   generalize w2.alloc _=W3 at HE⊢
   clear hbc HW2 HB2 HN2 HSZ
   by_cases h0:l.length=0
   ·have hl0:l= []:=List.eq_nil_of_length_eq_zero h0
    have HQ:Hid (Except.ok [c]=res):=by
     show _=_
     rw [hl0] at hl
     exact hl
    have h0i:¬(1:Int)<(l.length:Int)+1:=by omega
    have HCM:Hid (CmdsAt w.heap.size (W3.alloc (.cells #[.int .i64 0, .int .i64 c.k, .int .i64 c.n, .int .i64 c.m, .bool c.on, .string ⟨c.t.toArray⟩, .string ⟨c.x.toArray⟩, .string ⟨c.y.toArray⟩, .string ⟨c.i.toArray⟩, .string ⟨c.j.toArray⟩, .slice p2 c.nums.length k2,nils] 104)) (.slice (some ⟨W3.heap.size,0,none⟩) 1 1) [(0,c)]):=by
     have h:=cmds_one (W:=W3) (0,c) (p:=p2) (q:=none) (k:=k2) (m:=0) HE.out.bel.size HE.out.nums (by rw [HBK.out];exact BlksIn.nil _ _ _)
     rw [HBK.out] at h
     exact h
    obtain ⟨⟨c0,c1,c2,c3,c4,c5,c6,c7,c8,c9,c10,c11⟩,_⟩:=cm_at HE.out.ec
    clear hl h0 hl0
    go_wp2_with fail
    go_ret3
    rw [←HQ.out]
    exact ⟨HE.out.bel.alloc HE.out.bel.size _,_,rfl,HCM.out⟩
   ·obtain ⟨x2,l2,hl2⟩:∃x2 l2,l=x2 :: l2:=by
     cases l with
     | nil=>exact absurd rfl h0
     | cons a b=>exact ⟨a,b,rfl⟩
    have HQ:Hid (Except.error (x2.a,3)=res):=by
     show _=_
     rw [hl2] at hl
     exact hl
    have h0i:(1:Int)<(l.length:Int)+1:=by omega
    have z0:=(HC.out.2 1 (by rw [List.length_cons];omega)).1
    rw [←HE.out.bel.cell (p:=⟨b,o+1 *4,none⟩) HC.out.1,show o+1 *4=o+4 by omega] at z0
    simp only [hl2,List.getElem_cons_succ,List.getElem_cons_zero] at z0
    obtain ⟨za,hza⟩:∃a:Int,(x2.a:Int)=a:=⟨_,rfl⟩
    rw [hza] at z0
    have HZA:=Lib.hid hza
    clear hza hl hl2 h0
    go_upto_region 8 with fail
    go_quiet (fail)
    go_wp2_with fail
    go_ret3
    rw [←HQ.out]
    exact ⟨HE.out.bel.trans (drew_below' HE.out.bel.size ⟨_,rfl⟩),by rw [←HZA.out];rfl⟩
end Go.Proofs.YtfldplmgkeiimaaGreatDoor.GW
