/-
  Several texts of this proof in one: Zc, Base.
-/
import Derived.Test.YtfldplmgkeiimaaGreatDoorQ12
import Derived.Test.YtfldplmgkeiimaaGreatDoorShelf
import Derived.WalkKit
import Derived.WalkSpells
import Derived.WalkLawsBesides
import Derived.Lib.Hide
import Derived.Lib.Strings
import Derived.Lib.ItoaLen
import Derived.Lib.AppendIntMem
import Derived.Deep.DeepCutAuto
import Derived.Deep.CutRange
import Derived.BigQuiet
import Derived.Deep.QuietTactic
import Derived.Outline
set_option linter.unusedVariables false
set_option linter.unusedSimpArgs false
namespace Go.Proofs.YtfldplmgkeiimaaGreatDoor.VW
open Go.RowKit Go.Proofs.YtfldplmgkeiimaaGreatDoor.Vp
abbrev tCm:TypeId:=104
set_option maxRecDepth 100000 in
set_option maxHeartbeats 12800000 in
theorem draw_c (w0:World) (P:Nat) (p:Pl) (ca ck cn cm:Int) (con:Bool) (ct cx0 cy0:ByteArray) (nv bv:Value) (tx ty mx my:Int) (w1 w:World) (H:Hid (PlM w0 P p w1)) (HW:Hid (Below w1.heap.size w1 w)) (hs:SzC p) (hmode:p.mode=1) (hreg:p.region=true) (hne:p.conts≠ []):
  Calls Tryz.prog 147 #[.pointer (some ⟨P,0,none⟩), .agg #[.int .i64 ca, .int .i64 ck, .int .i64 cn, .int .i64 cm, .bool con, .string ct, .string cx0, .string cy0, .string ⟨#[]⟩, .string ⟨#[]⟩,nv,bv], .agg #[.int .i64 tx, .int .i64 ty], .agg #[.int .i64 mx, .int .i64 my]] w fun e w'=>PlRes w0 P (.ok {p with conts:=lastPush p.conts (tx,ty)}) e w'∧Keep (fun k=>w1.heap.size≤k) w w':=by
 obtain ⟨R,m,L,fu,cv,ov,cx,ox,h⟩:=H.out
 have H1:=Lib.hid (h.below HW.out)
 have HH:=Lib.hid h
 have HS:=Lib.hid hs
 have HMo:=Lib.hid hmode
 have HRg:=Lib.hid hreg
 obtain ⟨n,hn⟩:∃n,p.conts.length=n+1:=⟨p.conts.length - 1,by cases hc:p.conts with | nil=>exact absurd hc hne | cons a l=>simp⟩
 obtain ⟨c,hc⟩:∃c,p.conts[n]?=some c:=⟨p.conts[n]'(by omega),List.getElem?_eq_getElem _⟩
 have HN:=Lib.hid hn
 have HC:=Lib.hid hc
 obtain ⟨len,hlen⟩:∃k,c.length=k:=⟨_,rfl⟩
 have HL:=Lib.hid hlen
 have hlb:len≤1000000:=by rw [←hlen];exact (hs.2 c (List.mem_of_getElem? hc)).2
 have hnb:n+1≤1000000:=by rw [←hn];exact hs.1
 clear h H hs hmode hreg hne hn hc hlen
 go_enter Tryz.func147,Tryz.ntmps147
 go_upto_region 1 with fail
 obtain ⟨W,hW⟩:∃W,((w.alloc (.cells #[.int .i64 ca, .int .i64 ck, .int .i64 cn, .int .i64 cm, .bool con, .string ct, .string cx0, .string cy0, .string ⟨#[]⟩, .string ⟨#[]⟩,nv,bv] tCm)).alloc (.cells #[.int .i64 tx, .int .i64 ty] tPt)).alloc (.cells #[.int .i64 mx, .int .i64 my] tPt)=W:=⟨_,rfl⟩
 have HB:Hid (Below w.heap.size w W):=by
  show Below _ _ _
  rw [←hW]
  exact (bel_alloc _ _).trans (((bel_alloc _ _).trans ((bel_alloc _ _).mono (bel_alloc _ _).size)).mono (bel_alloc _ _).size)
 have HE:Hid (∃D E,W.heap[D]?=some (.cells #[.int .i64 ca, .int .i64 ck, .int .i64 cn, .int .i64 cm, .bool con, .string ct, .string cx0, .string cy0, .string ⟨#[]⟩, .string ⟨#[]⟩,nv,bv] tCm)∧W.heap[E]?=some (.cells #[.int .i64 tx, .int .i64 ty] tPt)∧w.heap.size=D∧w.heap.size+1=E):=by
  refine ⟨w.heap.size,w.heap.size+1,?_,?_,rfl,rfl⟩
  ·rw [←hW]
   exact one_below (one_below (alloc_new w _) (bel_alloc _ _)) (bel_alloc _ _)
  ·rw [←hW]
   exact one_below (by rw [show w.heap.size+1=(w.alloc (.cells #[.int .i64 ca, .int .i64 ck, .int .i64 cn, .int .i64 cm, .bool con, .string ct, .string cx0, .string cy0, .string ⟨#[]⟩, .string ⟨#[]⟩,nv,bv] tCm)).heap.size from (Array.size_push _).symm];exact alloc_new _ _) (bel_alloc _ _)
 rw [hW]
 clear hW
 have H2:=Lib.hid (H1.out.below HB.out)
 obtain ⟨D,E,hD,hE,hd1,he1⟩:=HE.out
 rw [hd1] at he1
 rw [hd1,he1]
 have HD2:=Lib.hid hD
 have HE2:=Lib.hid hE
 have HBW:Hid (Below w1.heap.size w1 W):=HW.out.trans (HB.out.mono HW.out.size)
 have HKw:Hid (Keep (fun k=>w1.heap.size≤k) w W):=Keep.of_below HB.out
 clear hD hE hd1 he1 HE HB H1
 have d8:W.cell? ⟨D,8,none⟩=some (.string ⟨#[]⟩):=cell_of (i:=8) HD2.out rfl
 have d9:W.cell? ⟨D,9,none⟩=some (.string ⟨#[]⟩):=cell_of (i:=9) HD2.out rfl
 have c11:W.cell? ⟨P,11,none⟩=some (.int .i64 1):=by rw [←HMo.out];exact cell_of (i:=11) H2.out.pl rfl
 have c19:W.cell? ⟨P,19,none⟩=some (.bool true):=by rw [←HRg.out];exact cell_of (i:=19) H2.out.pl rfl
 obtain ⟨K,capk,g,cg,hcv,hk0,hkf,hrow,hgR⟩:=HH.out.ct.lastAt HN.out HC.out
 subst hcv
 have HPl:Hid (K < w1.heap.size∧g < w1.heap.size):=⟨(HH.out.ct.own.lt K rfl).2,(hrow.lt g rfl).2⟩
 have hk0:=cell_keep HBW.out hk0
 have hrow:=row_below hrow HBW.out
 rw [HL.out] at hk0 hrow
 have c20:W.cell? ⟨P,20,none⟩=some (.slice (some ⟨K,0,none⟩) (n+1) capk):=cell_of (i:=20) H2.out.pl rfl
 have HK:=Lib.hid (And.intro hk0 True.intro)
 have HRow:=Lib.hid hrow
 have HgR:=Lib.hid hgR
 clear hk0 hkf hrow hgR
 have hn0:(((n:Int)+1==0):Bool)=false:=by rw [beq_eq_false_iff_ne];omega
 have hw1:IntKind.i64.wrap ((n:Int)+1 - 1)=(n:Int):=by rw [IntWalk.i64_in _ (by omega)];omega
 have hn1:(n:Int)<(n:Int)+1:=by omega
 have hz0:(0:Int)≤(n:Int):=by omega
 go_upto_region 11 with fail
 go_quiet (fail)
 have H3:=Lib.hid (H2.out.below (bel_drewN (Below.refl _ _) nq))
 have HE3:=Lib.hid (one_below HE2.out (bel_drewN (Below.refl _ _) nq))
 have HK3:=Lib.hid (cell_keep (bel_drewN (Below.refl _ _) nq) HK.out.1)
 have HRow3:=Lib.hid (row_below HRow.out (bel_drewN (Below.refl _ _) nq))
 clear c11 c19 c20 d8 d9 H2 HE2 HD2 HK HRow
 have HK1:Hid (Keep (fun k=>w1.heap.size≤k) w (W.drewN nq)):=HKw.out.trans (Keep.of_below (bel_drewN (Below.refl _ _) nq))
 generalize W.drewN nq=W1 at H3 HE3 HK3 HRow3 HK1⊢
 obtain ⟨KK,capK,gK,cgK,hcv,hcell,hfr,_,_⟩:=H3.out.ct.lastAt HN.out HC.out
 injection hcv with hcv1 _ hcv2
 injection hcv1 with hcv1
 injection hcv1 with hcv1
 subst hcv1 hcv2
 clear hcell
 have hkc:=HK3.out
 obtain ⟨e0,e1⟩:=pt_at2 HE3.out
 have hElt:=lt_of_heap HE3.out
 have hsz:=H3.out.bel.size
 have hgt:=own_type HRow3.out
 have hKt:∃kc,W1.heap[K]?=some (.cells kc tPts):=by
  have h:=H3.out.ct.own
  rw [HN.out] at h
  exact (own_type h).2
 have hKlt:K < W1.heap.size:=by obtain ⟨kc,h⟩:=hKt;exact lt_of_heap h
 have hKg:K≠g:=by
  obtain ⟨kc,h⟩:=hKt
  obtain ⟨_,gc,h2⟩:=hgt
  exact ne_of_type h h2 (by decide)
 have HXO:Hid ((W1.drew.alloc (.cells #[.int .i64 tx, .int .i64 ty] tPt)).ownsRow w0.heap.size tPt 2 (.slice (some ⟨g,0,none⟩) len cg) len (ptsL c)):=HRow3.out.drew.alloc _
 have HBY:Hid (Below W1.heap.size W1 (W1.drew.alloc (.cells #[.int .i64 tx, .int .i64 ty] tPt))):=(Below.refl _ _).drew.alloc (Nat.le_refl _) _
 have hkey:∀(w4:World),(W1.drew.alloc (.cells #[.int .i64 tx, .int .i64 ty] tPt)).grownBy w4 (Value.slice (some ⟨g,0,none⟩) len cg).ownBlock→w4.cell? ⟨K,n,none⟩=some (.slice (some ⟨g,0,none⟩) len cg)∧w4.frozen? ⟨K,n,none⟩=false:=by
  intro w4 hg4
  obtain ⟨kc,h⟩:=hKt
  have h0:=one_below h HBY.out
  have h1:w4.heap[K]?=some (.cells kc tPts):=(hg4.block _ (lt_of_heap h0) (fun e=>hKg (by simpa [Value.ownBlock] using e))).trans h0
  refine ⟨?_,cells_f0 h1 n⟩
  have h2:=hkc
  simp only [World.cell?,h,h1] at h2⊢
  exact h2
 obtain ⟨i0,hi,hz0,hz1,hz2⟩:=info_parts info_p2
 have HI:=Lib.hid (And.intro hi (And.intro hz0 (And.intro hz1 hz2)))
 have HGT:=Lib.hid hgt
 clear hi hz0 hz1 hz2 hgt hKt
 go_upto_region 12 with fail
 go_region_law (first |(refine step_append_lies _ (by rfl) _ _ _ (by rfl) w0.heap.size tPt i0 (.agg #[.int .i64 0, .int .i64 0]) 2 16 Tryz.underlying78 HI.out.1 HI.out.2.1 HI.out.2.2.1 HI.out.2.2.2 rfl (by omega) (.slice (some ⟨g,0,none⟩) len cg) len _ (by rfl) HXO.out ⟨W1.heap.size,0,none⟩ 1 1 [.int .i64 tx, .int .i64 ty] (by rfl) (by rfl) (World.news_of_block (cs:= #[.int .i64 tx, .int .i64 ty]) (t:=tPt) (fr:=(0,0)) (heap_alloc_new W1 _)) (by simp [Value.oneCell']) (by omega) (by unfold maxLen;omega) (by omega) (by simp;omega) (W1.heap.size+1) (by simp) ?_;intro gg cap2 w5 hown hgrow hat hltt;obtain ⟨q1,q2⟩:=hkey w5 hgrow)| fail)
 all_goals
  have hfin:=PlAt.pushP (tx:=tx) (ty:=ty) (c2:=cap2) (gg:=gg) H3.out HN.out HC.out rfl (cg:=cg) (g:=g) (len:=len) ?hlast HL.out HBY.out hgrow hown (hat.imp Eq.symm (fun h=>by rw [h];exact Nat.le_of_eq (Array.size_push _))) HgR.out HGT.out.1 HGT.out.2
  case hlast=>
   have h:=H3.out.ct.own
   rw [HN.out] at h
   exact (h.cellAt n (by omega)).symm.trans hkc
  have HK9:=Lib.hid ((HK1.out.trans (Keep.of_below HBY.out)).trans ((Keep.grown hgrow (fun k e hk=>Nat.not_le_of_lt (show k < w1.heap.size by have h7:g=k:=(by simpa [Value.ownBlock] using e);rw [←h7];exact HPl.out.2) hk)).trans (Keep.set (a:=⟨K,n,none⟩) (fun hk=>Nat.not_le_of_lt HPl.out.1 hk) (.slice (some ⟨gg,0,none⟩) (len+1) cap2))))
  clear hown hgrow hat hltt q1 q2 e0 e1 hkey hkc
  go_wp2_with fail
  go_ret
  exact ⟨PlRes.ok2 rfl hfin,HK9.out⟩
end Go.Proofs.YtfldplmgkeiimaaGreatDoor.VW
namespace Go.Proofs.YtfldplmgkeiimaaGreatDoor.Base
open Go.RowKit
def Tab (w:World):Prop:=Lib.TabIs Tryz.prog w "internal/strconv.uint64pow10" .u64 Lib.pow10Tab
theorem gTab:Tryz.prog.globalNamed "internal/strconv.uint64pow10" =some 5:=by kernel_rfl
theorem Tab.below {w w':World} (h:Tab w) (hb:Below w.heap.size w w'):Tab w':=by
 unfold Tab Lib.TabIs at h⊢
 have hlt:5 < w.heap.size:=by
  unfold World.var? at h
  simp only [gTab,Option.bind_some] at h
  apply Classical.byContradiction
  intro hn
  have:w.heap[5]?=none:=by rw [Array.getElem?_eq_none_iff];omega
  rw [this] at h
  simp at h
 exact var?_below hb gTab hlt h
theorem Tab.of_heap {w w':World} (h:Tab w) (hh:w'.heap=w.heap):Tab w':=by
 unfold Tab Lib.TabIs World.var? at h⊢
 rw [hh];exact h
theorem Tab.drewN {w:World} (h:Tab w) (n:Nat):Tab (w.drewN n):=h.of_heap rfl
theorem Tab.drew {w:World} (h:Tab w):Tab w.drew:=h.of_heap rfl
theorem Tab.alloc {w:World} (h:Tab w) (o:Obj):Tab (w.alloc o):=h.below ((Below.refl _ _).alloc (Nat.le_refl _) _)
theorem below_drewN {B:Nat} {a w:World} (h:Below B a w) (n:Nat):Below B a (w.drewN n):=⟨h.os,h.tape,h.output,h.size,h.block⟩
theorem str_eq {a b:ByteArray} (h:a.data.toList=b.data.toList):a=b:=by
 cases a;cases b;simp only [ByteArray.mk.injEq];exact Array.toList_inj.1 h
theorem len_list (s:ByteArray):s.data.toList.length=s.size:=by simp
theorem ext_list (s:ByteArray) (k:Nat):(s.extract k s.size).data.toList=s.data.toList.drop k:=by
 rw [Lib.extract_data]
 exact List.take_of_length_le (by simp)
theorem str_ex (l:List UInt8):∃S:ByteArray,S.data.toList=l:=⟨⟨l.toArray⟩,rfl⟩
end Go.Proofs.YtfldplmgkeiimaaGreatDoor.Base
