/-
  Several texts of this proof in one: Qp.
-/
import Derived.Test.YtfldplmgkeiimaaGreatDoorQ35
import Derived.Test.YtfldplmgkeiimaaGreatDoorQ37
set_option linter.unusedVariables false
set_option linter.unusedSimpArgs false
namespace Go.Proofs.YtfldplmgkeiimaaGreatDoor.VW
open Go.RowKit Go.Proofs.YtfldplmgkeiimaaGreatDoor.Vp
def cvsV (l:List Cv):List Value:=l.flatMap fun c=> [.int .i64 c.1, .int .i64 c.2]
theorem cvsV_snoc (l:List Cv) (c:Cv):cvsV (l++ [c])=cvsV l++ [.int .i64 c.1, .int .i64 c.2]:=by simp [cvsV]
abbrev zCov:Value:= .agg #[.int .i64 0, .int .i64 0]
theorem info_cov:(Tryz.prog.info? 43).map (fun i=>(i.zero,i.size,i.bytes))=some (some zCov,2,16):=by kernel_rfl
def RowInv (W:World) (sv0 sv:Value):Prop:=∀k,sv.ownBlock=some k→W.heap.size≤k∨sv0.ownBlock=some k
abbrev TK (W:World) (gm:Nat) (sv0:Value):Nat→Prop:=fun k=>k < W.heap.size∧k≠gm∧some k≠sv0.ownBlock
structure RnM (W:World) (gm:Nat) (sv0:Value) (most a:Int) (sv:Value) (acc:List Cv) (x:World):Prop where
 k:Keep (TK W gm sv0) W x
 row:∃B,B≤x.heap.size∧x.ownsRow B tCov 2 sv acc.length (cvsV acc)
 inv:RowInv W sv0 sv
 mt:x.heap[gm]?=some (mtO most a)
theorem RnM.step {W:World} {gm:Nat} {sv0 sv:Value} {most a a':Int} {acc:List Cv} {x y:World} (h:RnM W gm sv0 most a sv acc x) (hk:Keep (fun k=>k≠gm) x y) (hm:y.heap[gm]?=some (mtO most a')):RnM W gm sv0 most a' sv acc y:=by
 obtain ⟨B,hBs,hr⟩:=h.row
 refine ⟨h.k.trans (hk.mono (R:=TK W gm sv0) (fun k _ hs=>hs.2.1)),⟨B,Nat.le_trans hBs hk.size,?_⟩,h.inv,hm⟩
 rcases hr.2 with ⟨hv,h0⟩|⟨b,cap,cur,hv,hB,hh,h1⟩
 ·exact ⟨hr.1, .inl ⟨hv,h0⟩⟩
 ·refine ⟨hr.1, .inr ⟨b,cap,cur,hv,hB,hk.get ?_ hh,h1⟩⟩
  intro e
  rw [e,h.mt] at hh
  injection hh with hh
  injection hh with _ ht
  exact absurd ht (by decide)
theorem RnM.below {W:World} {gm:Nat} {sv0 sv:Value} {most a:Int} {acc:List Cv} {x y:World} (h:RnM W gm sv0 most a sv acc x) (hb:Below x.heap.size x y):RnM W gm sv0 most a sv acc y:=h.step (Keep.of_below hb) (one_below h.mt hb)
theorem RnM.push {W:World} {gm:Nat} {sv0 sv sv':Value} {most a:Int} {acc:List Cv} {X y:World} (h:RnM W gm sv0 most a sv acc X) {B g' n' c':Nat} {xs:List Value} {c:Cv} (hr:X.ownsRow B tCov 2 sv n' xs) (hg:X.grownBy y sv.ownBlock) (hown:y.ownsRow B tCov 2 sv' (acc.length+1) (cvsV acc++ [.int .i64 c.1, .int .i64 c.2])) (hB:B≤X.heap.size) (hat:sv.ownBlock=some g'∨g'=X.heap.size) (hs':sv'= .slice (some ⟨g',0,none⟩) (acc.length+1) c'):RnM W gm sv0 most a sv' (acc++ [c]) y:=by
 refine ⟨h.k.trans (Keep.grown hg (fun k hk hs=>?_)),⟨B,Nat.le_trans hB hg.size,?_⟩,fun k hk=>?_,(hg.block gm (lt_of_heap h.mt) (Ne.symm (own_ne hr h.mt (by decide)))).trans h.mt⟩
 ·rcases h.inv k hk with h1 | h1
  ·exact absurd hs.1 (by omega)
  ·exact hs.2.2 h1.symm
 ·rw [cvsV_snoc,List.length_append]
  exact hown
 ·rw [hs'] at hk
  simp only [Value.ownBlock,Option.some.injEq] at hk
  subst hk
  rcases hat with h1 | h1
  ·exact h.inv _ h1
  ·exact .inl (by rw [h1];exact h.k.size)
theorem RnM.outer {w W:World} {gm:Nat} {sv0 sv:Value} {most a:Int} {acc:List Cv} {x:World} (h:RnM W gm sv0 most a sv acc x) (hK:Keep (fun k=>k≠gm) w W) (hS:∀k,sv0.ownBlock=some k→w.heap.size≤k):Keep (fun k=>k≠gm) w x:=
 ⟨h.k.os.trans hK.os,h.k.tape.trans hK.tape,h.k.output.trans hK.output,Nat.le_trans hK.size h.k.size,fun k hk hl=>(h.k.block k ⟨Nat.lt_of_lt_of_le hl hK.size,hk,fun e=>absurd (hS k e.symm) (by omega)⟩ (Nat.lt_of_lt_of_le hl hK.size)).trans (hK.block k hk hl)⟩
def CvsIn (R:Nat→Prop) (w:World) (sv:Value) (l:List Cv):Prop:=∃B,w.ownsRow B tCov 2 sv l.length (cvsV l)∧∀k,sv.ownBlock=some k→R k
def RnOut (gm:Nat) (most:Int) (w:World) (r:Option (List Cv)× Int) (e:Ending) (w':World):Prop:=
 w'.heap[gm]?=some (mtO most (most - r.2))∧Keep (fun k=>k≠gm) w w'∧match r.1 with
  | none=>e= .returned (.tuple #[.slice none 0 0, .int .i64 6])
  | some l=>∃sv,e= .returned (.tuple #[sv, .int .i64 0])∧CvsIn (fun k=>w.heap.size≤k) w' sv l
theorem toNat_lt {a:Int} {n i:Nat} (hn:a.toNat=n) (h0:0≤a):(i < n↔(i:Int)< a):=by omega
theorem below_grown {w w':World} (h:w.grownBy w' none):Below w.heap.size w w':=⟨h.os,h.tape,h.output,h.size,fun k hk=>h.block k hk (by simp)⟩
theorem RnM.back {W WI:World} {gm:Nat} {sv0 sv sv':Value} {most a a':Int} {acc acc':List Cv} {x y:World} (h:RnM W gm sv0 most a sv acc x) (hx:Keep (fun k=>k≠gm) x WI) (g:RnM WI gm sv most a' sv' acc' y):RnM W gm sv0 most a' sv' acc' y:=by
 have hsz:W.heap.size≤WI.heap.size:=Nat.le_trans h.k.size hx.size
 refine ⟨(h.k.trans (hx.mono (R:=TK W gm sv0) (fun k _ hs=>hs.2.1))).trans (g.k.mono (R:=TK W gm sv0) (fun k _ hs=>⟨Nat.lt_of_lt_of_le hs.1 hsz,hs.2.1,fun e=>?_⟩)),g.row,fun k hk=>?_,g.mt⟩
 ·rcases h.inv k e.symm with h1 | h1
  ·exact absurd hs.1 (by omega)
  ·exact hs.2.2 h1.symm
 ·rcases g.inv k hk with h1 | h1
  ·exact .inl (Nat.le_trans hsz h1)
  ·exact h.inv k h1
theorem RnM.put {W:World} {gm:Nat} {sv0 sv:Value} {most a:Int} {acc:List Cv} {x W7:World} (h:RnM W gm sv0 most a sv acc x) {c i:Nat} {cs:Array Value} (hWIs:W.heap.size≤W7.heap.size) (hc:W7.heap.size≤c) (hz:x.heap[c]?=some (.cells cs tCov)) (hg:gm < W7.heap.size) (hrow:∀k,sv.ownBlock=some k→k≠c) (u:Value):RnM W gm sv0 most a sv acc (x.setCell ⟨c,i,none⟩ u):=by
 obtain ⟨B,hBs,hr⟩:=h.row
 refine ⟨h.k.set_new (by omega) u,⟨B,Nat.le_trans hBs (by simp [World.setCell]),row_grown hr (grown_set x c i u) (.inr (fun e=>hrow c e rfl))⟩,h.inv,(far0 (by omega)).trans h.mt⟩
theorem pixel_side (v:Vw) (x y:Nat):(pixelV v x y).x1 -(pixelV v x y).x0=v.pitch∧(pixelV v x y).y1 -(pixelV v x y).y0=v.pitch:=by
 simp only [pixelV];omega
theorem okB_mk {b:Bx} (h:(b.x0≤b.x1∧b.y0≤b.y1)∧(-536870912≤b.x0∧b.x1≤536870912)∧(-536870912≤b.y0∧b.y1≤536870912)):okB b=true:=by
 simp only [okB,wiV,Bool.and_eq_true,decide_eq_true_eq]
 omega
theorem pixel_ok {v:Vw} (hv:viewOk v=true) {x y:Nat} (hx:(x:Int)< v.w) (hy:(y:Int)< v.h):okB (pixelV v x y)=true:=by
 obtain ⟨⟨d0,d6⟩,⟨p0,p1⟩,⟨a0,a1⟩,⟨b0,b1⟩,⟨x0,x1⟩,⟨y0,y1⟩,hok⟩:=viewOk_props hv
 obtain ⟨h1,h2,h3,h4,h5⟩:=okB_props hok
 simp only at h1 h2 h3 h4 h5
 have e1:0≤(x:Int) *v.pitch:=Int.mul_nonneg (by omega) (by omega)
 have e2:0≤(v.w - 1 - x) *v.pitch:=Int.mul_nonneg (by omega) (by omega)
 have e3:(v.w - 1 - x) *v.pitch=v.w *v.pitch - v.pitch - x *v.pitch:=by grind
 have f1:0≤(v.h - 1 -(y:Int)) *v.pitch:=Int.mul_nonneg (by omega) (by omega)
 have f2:0≤(y:Int) *v.pitch:=Int.mul_nonneg (by omega) (by omega)
 have f3:(v.h - 1 -(y:Int)) *v.pitch=v.h *v.pitch - v.pitch - y *v.pitch:=by grind
 refine okB_mk ?_
 simp only [pixelV]
 omega
theorem pixel_mod {v:Vw} (hv:viewOk v=true):v.pitch % 2 ^ v.depth.toNat=0∧0 < v.pitch:=by
 have h:=hv
 obtain ⟨_,⟨p0,_⟩,_⟩:=viewOk_props hv
 unfold viewOk at h
 split at h
 ·cases h
 ·split at h
  ·cases h
  ·rename_i h2
   exact ⟨by omega,by omega⟩
theorem rowV_step (v:Vw) (g:List Ex) (y k x:Nat) (acc:List Cv) (m:Int) {o:Option Cv} {m':Int} (h:examV v.depth.toNat (nearE g (pixelV v x y)) (pixelV v x y) m=(o,m')):rowV v g y (k+1) x acc m=o.elim (none,m') (fun c=>rowV v g y k (x+1) (acc++ [c]) m'):=by
 rw [rowV,h]
 cases o <;> rfl
theorem rowsV_step (v:Vw) (g:List Ex) (k y:Nat) (acc:List Cv) (m:Int) {o:Option (List Cv)} {m':Int} (h:rowV v (nearE g (spanV v y)) y v.w.toNat 0 acc m=(o,m')):rowsV v g (k+1) y acc m=o.elim (none,m') (fun a=>rowsV v g k (y+1) a m'):=by
 rw [rowsV,h]
 cases o <;> rfl
abbrev RnS (W:World) (gm g0:Nat) (vd:Int) (g:Nat) (p q:Option Addr) (n c e:Nat) (Bq:Nat) (a0 a1 a2 a3:Int) (Z:World):Prop:=
 Z.cell? ⟨g0,5,none⟩=some (.int .i64 vd)∧ExS W gm g p q n c e Bq a0 a1 a2 a3 Z
theorem rns_of {W Z:World} {gm g0:Nat} {v:Vw} {g:Nat} {p q:Option Addr} {n c e:Nat} {Bq:Nat} {a0 a1 a2 a3:Int} (hv:W.heap[g0]?=some (vwO v)) (hg:W.heap[g]?=some (.cells (grCs p n c q e) tGrp)) (hb:W.heap[Bq]?=some (bxO ⟨a0,a1,a2,a3⟩)) (n0:g0≠gm) (n1:g≠gm) (n2:Bq≠gm) (hk:Keep (fun k=>k≠gm) W Z):RnS W gm g0 v.depth g p q n c e Bq a0 a1 a2 a3 Z:=
 ⟨cell_of (hk.get n0 hv) rfl,exs_of hg hb n1 n2 hk⟩
set_option maxRecDepth 100000 in
set_option maxHeartbeats 25600000 in
theorem render_c (S:Nat→Prop) (l:List Ob) (hl:∀o∈l,Nice o.2) (p:Option Addr) (n c:Nat) (hn:n=l.length) (v:Vw) (hv:viewOk v=true) (gm:Nat) (hS:¬S gm) (most m:Int) (hm:0≤m∧m≤most∧most≤100000000) (w:World) (H:Hid (ObsIn S w p l)) (HM:Hid (w.heap[gm]?=some (mtO most (most - m)))) (r:Option (List Cv)× Int) (hr:Hid (rastV l v m=r)):
    Calls Tryz.prog 60 #[.slice p n c, vwV v, .pointer (some ⟨gm, 0, none⟩)] w (RnOut gm most w r) := by
  have HL := Lib.hid hl
  have HN := Lib.hid hn
  have HV := Lib.hid hv
  have HSg := Lib.hid hS
  have HMM := Lib.hid hm
  have HGL := Lib.hid (lt_of_heap HM.out)
  obtain ⟨⟨d0, d6⟩, ⟨p0, p1⟩, ⟨a0, a1⟩, ⟨b0, b1⟩, ⟨vx0, vx1⟩, ⟨vy0, vy1⟩, hok⟩ := viewOk_props hv
  have HOK := Lib.hid hok
  have HR0 := hr.out
  unfold rastV at HR0
  clear hl hn hv hS hm hok
  obtain ⟨vx, vy, vp, vw, vh, vd⟩ := v
  simp only at d0 d6 p0 p1 a0 a1 b0 b1 vx0 vx1 vy0 vy1 HR0
  obtain ⟨wn, hwn⟩ : ∃ n, vw.toNat = n := ⟨_, rfl⟩
  obtain ⟨hn', hhn⟩ : ∃ n, vh.toNat = n := ⟨_, rfl⟩
  have HWN := Lib.hid hwn
  have HHN := Lib.hid hhn
  rw [hhn] at HR0
  have HR := Lib.hid HR0
  clear HR0
  have hcells : 1 ≤ vw * vh ∧ vw * vh ≤ 65536 := by
    have e1 : 0 ≤ (vw - 1) * vh := Int.mul_nonneg (by omega) (by omega)
    have e2 : 0 ≤ (256 - vw) * vh := Int.mul_nonneg (by omega) (by omega)
    have e3 : (vw - 1) * vh = vw * vh - vh := by grind
    have e4 : (256 - vw) * vh = 256 * vh - vw * vh := by grind
    omega
  obtain ⟨C, hC⟩ : ∃ C, vw * vh = C := ⟨_, rfl⟩
  rw [hC] at hcells
  have hwC : IntKind.i64.wrap (vw * vh) = C := by rw [hC]; exact IntWalk.i64_in _ (by omega)
  have HCN : Hid (C = (C.toNat : Int)) := by show _ = _; omega
  have hCb : C.toNat ≤ 65536 := by omega
  clear hC
  go_enter Tryz.func60, Tryz.ntmps60
  go_wp2_with fail
  have HVW : Hid ((w.alloc (vwO ⟨vx, vy, vp, vw, vh, vd⟩)).heap[w.heap.size]? = some (vwO ⟨vx, vy, vp, vw, vh, vd⟩)) := alloc_new _ _
  have HB : Hid (Below w.heap.size w (w.alloc (vwO ⟨vx, vy, vp, vw, vh, vd⟩))) := bel_alloc _ _
  generalize w.alloc (vwO ⟨vx, vy, vp, vw, vh, vd⟩) = W at HVW HB ⊢
  with_reducible refine (viewOk_c ⟨vx, vy, vp, vw, vh, vd⟩ true HV _).mono ?_
  rintro e W1 ⟨rfl, hb⟩
  have HVW1 := Lib.hid (one_below HVW.out hb)
  have HB1 : Hid (Below w.heap.size w W1) := HB.out.trans (hb.mono HB.out.size)
  clear hb HVW HB
  go_wp2_with fail
  with_reducible refine (reach_g S l HL.out p n c HN.out _ (Lib.hid (H.out.below HB1.out))).mono ?_
  rintro e W2 ⟨p', c', q', d', rfl, hgr, hb⟩
  have HVW2 := Lib.hid (one_below HVW1.out hb)
  have HB2 : Hid (Below w.heap.size w W2) := HB1.out.trans (hb.mono HB1.out.size)
  have HGR := Lib.hid hgr
  have HW12 := Lib.hid hb.size
  clear hb hgr HVW1
  go_upto_region 4 with fail
  obtain ⟨G, hG⟩ : ∃ G, reachO l = G := ⟨_, rfl⟩
  have HGN : Hid (∀ e ∈ G, Nice e.o.2) := by
    intro e he
    rw [← hG] at he
    obtain ⟨o, ho, he2⟩ := List.mem_filterMap.1 he
    obtain ⟨b, _, rfl⟩ := Option.map_eq_some_iff.1 he2
    exact HL.out o ho
  rw [hG] at HGR HR ⊢
  clear hG
  have HVW3 := Lib.hid (one_below HVW2.out (bel_alloc W2 (.cells (grCs p' G.length c' q' d') tGrp)))
  have HB3 : Hid (Below w.heap.size w (W2.alloc (.cells (grCs p' G.length c' q' d') tGrp))) := HB2.out.trans ((bel_alloc _ _).mono HB2.out.size)
  have HGR3 := Lib.hid (HGR.out.below (bel_alloc W2 (.cells (grCs p' G.length c' q' d') tGrp)))
  have HGB3 : Hid ((W2.alloc (.cells (grCs p' G.length c' q' d') tGrp)).heap[W2.heap.size]? = some (.cells (grCs p' G.length c' q' d') tGrp)) := alloc_new _ _
  have HBG : Hid (w.heap.size < W2.heap.size) := lt_of_heap HVW2.out
  change Code.wp _ _ _ _ (W2.alloc (.cells (grCs p' G.length c' q' d') tGrp))
  generalize W2.alloc (.cells (grCs p' G.length c' q' d') tGrp) = W3 at HVW3 HB3 HGR3 HGB3 ⊢
  obtain ⟨Bg, hBg⟩ : ∃ B, W2.heap.size = B := ⟨_, rfl⟩
  rw [hBg] at HGB3 HBG ⊢
  clear hBg HVW2 HB2 HGR
  obtain ⟨i0, hi, hz0, hz1, hz2⟩ := info_parts info_cov
  have HI := Lib.hid (And.intro hi (And.intro hz0 (And.intro hz1 hz2)))
  clear hi hz0 hz1 hz2
  obtain ⟨v0, v1, v2, v3, v4, v5⟩ := vw_at HVW3.out
  go_upto_region 5 with (first | (refine wpList_make_own _ rfl _ _ _ rfl W3.heap.size tCov i0 zCov 2 Tryz.underlying36 HI.out.1 HI.out.2.1 HI.out.2.2.1 .i64 .i64 C C.toNat (by rfl) (by rfl) HCN.out (by rw [HI.out.2.2.2]; omega) (by unfold maxLen; omega) (Nat.le_refl _) ?_; intro W4 hown hgr4))
  have hb4 := below_grown hgr4
  obtain ⟨sv0, hsv0⟩ : ∃ s, Value.slice (some ⟨W3.heap.size, 0, none⟩) 0 C.toNat = s := ⟨_, rfl⟩
  have hGS : Hid (GrpIn (TK W4 gm sv0) W3 p' q' G) := by
    refine HGR3.out.mono (fun k hk hs => ⟨Nat.lt_of_lt_of_le hk hb4.size, ?_, ?_⟩)
    · rcases hs with hs | hs
      · intro e; exact HSg.out (e ▸ hs)
      · have := HGL.out; have := HB1.out.size; omega
    · rw [← hsv0]; intro e; simp only [Value.ownBlock, Option.some.injEq] at e; omega
  have HGR4 := Lib.hid (hGS.out.below hb4)
  have HVW4 := Lib.hid (one_below HVW3.out hb4)
  have HGB4 := Lib.hid (one_below HGB3.out hb4)
  have hs3 := HB3.out.size
  have HVT : Hid (TK W4 gm sv0 w.heap.size ∧ TK W4 gm sv0 Bg) := by
    have h1 := lt_of_heap HVW3.out
    have h2 := lt_of_heap HGB3.out
    have h3 := HGL.out
    have h4 := HBG.out
    have h5 := hb4.size
    refine ⟨⟨by omega, by omega, ?_⟩, ⟨by omega, by omega, ?_⟩⟩ <;> (rw [← hsv0]; intro e; simp only [Value.ownBlock, Option.some.injEq] at e; omega)
  have HM4 : Hid (RnM W4 gm sv0 most (most - m) sv0 [] W4) := by
    refine ⟨Keep.refl _ _, ⟨W3.heap.size, hb4.size, by rw [← hsv0]; exact hown⟩, fun k hk => .inr hk, one_below (one_below HM.out HB3.out) hb4⟩
  have HK4 : Hid (Keep (fun k => k ≠ gm) w W4) := Keep.of_below (HB3.out.trans (hb4.mono HB3.out.size))
  have HS4 : Hid (∀ k, sv0.ownBlock = some k → w.heap.size ≤ k) := by
    intro k hk
    rw [← hsv0] at hk
    simp only [Value.ownBlock, Option.some.injEq] at hk
    omega
  rw [hsv0]
  clear hsv0 hown hgr4 hb4 hs3 HVW3 HB3 HGR3 HGB3 hGS v0 v1 v2 v3 v4 v5
  obtain ⟨v0, v1, v2, v3, v4, v5⟩ := vw_at HVW4.out
  go_wp2_with fail
  clear v0 v1 v2 v3 v4 v5
  go_loopw [9, 34] (fun rv i wr => ∃ (j : Nat) (sv : Value) (acc : List Cv) (m1 : Int) (wy : World), wy = wr ∧ j ≤ hn' ∧ 0 ≤ m1 ∧ m1 ≤ m ∧ acc.length = j * wn ∧ sv = rv ∧ i = .int .i64 j ∧ Hid (rowsV ⟨vx, vy, vp, vw, vh, vd⟩ G (hn' - j) j acc m1 = r) ∧ Hid (RnM W4 gm sv0 most (most - m1) sv acc wy)) (fun _ i _ => hn' - (intOf i).toNat)
  case atStart => exact ⟨0, sv0, [], m, _, rfl, Nat.zero_le _, HMM.out.1, Int.le_refl _, by simp, rfl, rfl, HR.out, HM4.out⟩
  case round =>
  obtain ⟨j, sv, acc, m1, wy, rfl, hj, hm10, hm11, hacc, rfl, rfl, HJ, HY⟩ := hrel
  by_cases hlt : j < hn'
  · have hji : (j : Int) < vh := by have := HHN.out; omega
    have hjk : hn' - j = (hn' - (j + 1)) + 1 := by omega
    obtain ⟨⟨ro, rm⟩, hrow⟩ : ∃ o, rowV ⟨vx, vy, vp, vw, vh, vd⟩ (nearE G (spanV ⟨vx, vy, vp, vw, vh, vd⟩ j)) j wn 0 acc m1 = o := ⟨_, rfl⟩
    have HROW := Lib.hid hrow
    have HJ2 : Hid (ro.elim (none, rm) (fun a => rowsV ⟨vx, vy, vp, vw, vh, vd⟩ G (hn' - (j + 1)) (j + 1) a rm) = r) := by
      show _ = _
      rw [← HJ.out, hjk]
      exact (rowsV_step ⟨vx, vy, vp, vw, vh, vd⟩ G _ j acc m1 (by show rowV _ _ _ vw.toNat _ _ _ = _; rw [HWN.out]; exact hrow)).symm
    obtain ⟨⟨s0, s1, s2, s3⟩, hpx0⟩ : ∃ b, pixelV ⟨vx, vy, vp, vw, vh, vd⟩ 0 j = b := ⟨_, rfl⟩
    obtain ⟨⟨t0, t1, t2, t3⟩, hpx1⟩ : ∃ b, pixelV ⟨vx, vy, vp, vw, vh, vd⟩ (wn - 1) j = b := ⟨_, rfl⟩
    have HSP : Hid (spanV ⟨vx, vy, vp, vw, vh, vd⟩ j = ⟨s0, s1, t2, t3⟩) := by
      show _ = _
      simp only [spanV]
      rw [HWN.out, hpx0, hpx1]
    have HP0 : Hid (∀ Z, Calls Tryz.prog 85 #[vwV ⟨vx, vy, vp, vw, vh, vd⟩, .int .i64 0, .int .i64 (j : Int)] Z fun e w' => e = .returned (.tuple #[bxV ⟨s0, s1, s2, s3⟩, .bool true]) ∧ Below Z.heap.size Z w') := fun Z => by
      rw [← hpx0]
      exact pixel_c ⟨vx, vy, vp, vw, vh, vd⟩ HV.out 0 j (by show (0 : Int) < vw; omega) hji Z
    have hw1 : vw - 1 = ((wn - 1 : Nat) : Int) := by have := HWN.out; omega
    have HP1 : Hid (∀ Z, Calls Tryz.prog 85 #[vwV ⟨vx, vy, vp, vw, vh, vd⟩, .int .i64 (vw - 1), .int .i64 (j : Int)] Z fun e w' => e = .returned (.tuple #[bxV ⟨t0, t1, t2, t3⟩, .bool true]) ∧ Below Z.heap.size Z w') := fun Z => by
      rw [← hpx1, hw1]
      exact pixel_c ⟨vx, vy, vp, vw, vh, vd⟩ HV.out (wn - 1) j (by show ((wn - 1 : Nat) : Int) < vw; omega) hji Z
    have hww : IntKind.i64.wrap (vw - 1) = vw - 1 := IntWalk.i64_in _ (by omega)
    clear hrow hpx0 hpx1 hw1
    obtain ⟨v0, v1, v2, v3, v4, v5⟩ := vw_at (HY.out.k.get HVT.out.1 HVW4.out)
    go_wp2_with fail
    with_reducible refine (HP0.out _).mono ?_
    rintro e X1 ⟨rfl, hx1⟩
    have HX1 := Lib.hid hx1
    clear v0 v1 v2 v3 v4 v5 hx1
    go_upto_region 9 with fail
    have HX2 : Hid (Below wy.heap.size wy (X1.alloc (bxO ⟨s0, s1, s2, s3⟩))) := HX1.out.trans ((bel_alloc _ _).mono HX1.out.size)
    have HF2 : Hid ((X1.alloc (bxO ⟨s0, s1, s2, s3⟩)).heap[X1.heap.size]? = some (bxO ⟨s0, s1, s2, s3⟩)) := alloc_new _ _
    generalize X1.alloc (bxO ⟨s0, s1, s2, s3⟩) = X2 at HX2 HF2 ⊢
    obtain ⟨B1, hB1⟩ : ∃ B, X1.heap.size = B := ⟨_, rfl⟩
    rw [hB1] at HF2 ⊢
    clear hB1 HX1
    obtain ⟨v0, v1, v2, v3, v4, v5⟩ := vw_at (one_below (HY.out.k.get HVT.out.1 HVW4.out) HX2.out)
    go_wp2_with fail
    with_reducible refine (HP1.out _).mono ?_
    rintro e X3 ⟨rfl, hx3⟩
    have HX3 : Hid (Below wy.heap.size wy X3) := HX2.out.trans (hx3.mono HX2.out.size)
    have HF3 := Lib.hid (one_below HF2.out hx3)
    clear v0 v1 v2 v3 v4 v5 hx3 HX2 HF2
    go_upto_region 10 with fail
    have HX4 : Hid (Below wy.heap.size wy (X3.alloc (bxO ⟨t0, t1, t2, t3⟩))) := HX3.out.trans ((bel_alloc _ _).mono HX3.out.size)
    have HF4 := Lib.hid (one_below HF3.out (bel_alloc X3 (bxO ⟨t0, t1, t2, t3⟩)))
    have HF5 : Hid ((X3.alloc (bxO ⟨t0, t1, t2, t3⟩)).heap[X3.heap.size]? = some (bxO ⟨t0, t1, t2, t3⟩)) := alloc_new _ _
    generalize X3.alloc (bxO ⟨t0, t1, t2, t3⟩) = X4 at HX4 HF4 HF5 ⊢
    obtain ⟨B2, hB2⟩ : ∃ B, X3.heap.size = B := ⟨_, rfl⟩
    rw [hB2] at HF5 ⊢
    clear hB2 HX3 HF3
    obtain ⟨f0, f1, f2, f3⟩ := bx_at HF4.out
    obtain ⟨g0, g1, g2, g3⟩ := bx_at HF5.out
    obtain ⟨k0, k1⟩ := gr_at (one_below (HY.out.k.get HVT.out.2 HGB4.out) HX4.out)
    go_wp2_with fail
    with_reducible refine (near_g (TK W4 gm sv0) G p' q' G.length c' d' ⟨s0, s1, t2, t3⟩ rfl _ (Lib.hid ((HGR4.out.keep HY.out.k).below HX4.out))).mono ?_
    rintro e X5 ⟨p2, c2, q2, d2, rfl, hng, hx5⟩
    have HNG := Lib.hid hng
    have HX5 : Hid (Below wy.heap.size wy X5) := HX4.out.trans (hx5.mono HX4.out.size)
    have hX4s := HX4.out.size
    clear f0 f1 f2 f3 g0 g1 g2 g3 k0 k1 HF4 HF5 hng
    go_upto_region 11 with fail
    obtain ⟨NG, hNG⟩ : ∃ NG, nearE G ⟨s0, s1, t2, t3⟩ = NG := ⟨_, rfl⟩
    rw [HSP.out, hNG] at HROW
    have HNN : Hid (∀ e ∈ NG, Nice e.o.2) := fun e he => HGN.out e (by rw [← hNG] at he; exact (List.mem_filter.1 he).1)
    rw [hNG] at HNG ⊢
    have HX6 : Hid (Below wy.heap.size wy (X5.alloc (.cells (grCs p2 NG.length c2 q2 d2) tGrp))) := HX5.out.trans ((bel_alloc _ _).mono HX5.out.size)
    have HBT : Hid ((X5.alloc (.cells (grCs p2 NG.length c2 q2 d2) tGrp)).heap[X5.heap.size]? = some (.cells (grCs p2 NG.length c2 q2 d2) tGrp)) := alloc_new _ _
    have HNG6 := Lib.hid (HNG.out.below (bel_alloc X5 (.cells (grCs p2 NG.length c2 q2 d2) tGrp)))
    have hBtl : wy.heap.size ≤ X5.heap.size := HX5.out.size
    change Code.wp _ _ _ _ (X5.alloc (.cells (grCs p2 NG.length c2 q2 d2) tGrp))
    generalize X5.alloc (.cells (grCs p2 NG.length c2 q2 d2) tGrp) = WI at HX6 HBT HNG6 ⊢
    obtain ⟨Bt, hBt⟩ : ∃ B, X5.heap.size = B := ⟨_, rfl⟩
    rw [hBt] at HBT hBtl ⊢
    clear hBt HNG HX5 hNG
    have HYI := Lib.hid (HY.out.below HX6.out)
    have hIN := HY.out.inv
    have hsvl : ∀ k, sv.ownBlock = some k → k < wy.heap.size := by
      obtain ⟨B, _, hr⟩ := HY.out.row
      exact fun k hk => (hr.lt k hk).2
    have hTT : ∀ k, TK W4 gm sv0 k → TK WI gm sv k := fun k hs => ⟨Nat.lt_of_lt_of_le hs.1 (Nat.le_trans HY.out.k.size HX6.out.size), hs.2.1, fun e => by
      rcases hIN k e.symm with h1 | h1
      · exact absurd hs.1 (by omega)
      · exact hs.2.2 h1.symm⟩
    have hgy := lt_of_heap HY.out.mt
    have HGI : Hid (GrpIn (TK WI gm sv) WI p2 q2 NG) := HNG6.out.mono (fun k hk hs => by
      rcases hs with hs | hs
      · exact hTT k hs
      · exact ⟨hk, by omega, fun e => by have := hsvl k e.symm; omega⟩)
    have HVI : Hid (TK WI gm sv w.heap.size ∧ TK WI gm sv Bt) := ⟨hTT _ HVT.out.1, lt_of_heap HBT.out, by omega, fun e => by have := hsvl _ e.symm; omega⟩
    have HVWI := Lib.hid (one_below (HY.out.k.get HVT.out.1 HVW4.out) HX6.out)
    have HMI : Hid (RnM WI gm sv most (most - m1) sv acc WI) := ⟨Keep.refl _ _, HYI.out.row, fun k hk => .inr hk, HYI.out.mt⟩
    have HKI : Hid (Keep (fun k => k ≠ gm) wy WI) := Keep.of_below HX6.out
    clear hIN hsvl hTT hBtl HNG6 HSP HP0 HP1 hX4s HX4
    obtain ⟨v0, v1, v2, v3, v4, v5⟩ := vw_at HVWI.out
    go_wp2_with fail
    clear v0 v1 v2 v3 v4 v5
    obtain ⟨NL, hNL⟩ : ∃ NL, NG.length = NL := ⟨_, rfl⟩
    have HNL := Lib.hid hNL.symm
    rw [hNL] at HBT ⊢
    clear hNL
    go_loopw [9, 65] (fun rv i wr => ∃ (x : Nat) (sv2 : Value) (acc2 : List Cv) (m2 : Int) (wz : World), wz = wr ∧ x ≤ wn ∧ 0 ≤ m2 ∧ m2 ≤ m1 ∧ acc2.length = acc.length + x ∧ sv2 = rv ∧ i = .int .i64 x ∧ Hid (rowV ⟨vx, vy, vp, vw, vh, vd⟩ NG j (wn - x) x acc2 m2 = (ro, rm)) ∧ Hid (RnM WI gm sv most (most - m2) sv2 acc2 wz)) (fun _ i _ => wn - (intOf i).toNat)
    case atStart => exact ⟨0, sv, acc, m1, _, rfl, Nat.zero_le _, hm10, Int.le_refl _, rfl, rfl, rfl, HROW.out, HMI.out⟩
    case round =>
    obtain ⟨x, sv2, acc2, m2, wz, rfl, hx, hm20, hm21, hacc2, rfl, rfl, HJX, HZ⟩ := hrel
    by_cases hxt : x < wn
    · have hxi : (x : Int) < vw := by have := HWN.out; omega
      have hxk : wn - x = (wn - (x + 1)) + 1 := by omega
      obtain ⟨⟨a0, a1, a2, a3⟩, hpx⟩ : ∃ b, pixelV ⟨vx, vy, vp, vw, vh, vd⟩ x j = b := ⟨_, rfl⟩
      have hpo := pixel_ok HV.out (x := x) (y := j) hxi hji
      have hps := pixel_side ⟨vx, vy, vp, vw, vh, vd⟩ x j
      rw [hpx] at hpo hps
      obtain ⟨dn, hdn⟩ : ∃ n, vd.toNat = n := ⟨_, rfl⟩
      have hpm := pixel_mod HV.out
      simp only at hps hpm
      rw [hdn] at hpm
      have HPO := Lib.hid hpo
      have HSX : Hid ((a2 - a0) % 2 ^ dn = 0 ∧ 0 < a2 - a0) := by rw [hps.1]; exact hpm
      have HSY : Hid ((a3 - a1) % 2 ^ dn = 0 ∧ 0 < a3 - a1) := by rw [hps.2]; exact hpm
      obtain ⟨⟨o6, m6⟩, h6⟩ : ∃ r6, examV dn (nearE NG ⟨a0, a1, a2, a3⟩) ⟨a0, a1, a2, a3⟩ m2 = r6 := ⟨_, rfl⟩
      have H6 := Lib.hid h6
      have HJ3 : Hid (o6.elim (none, m6) (fun c => rowV ⟨vx, vy, vp, vw, vh, vd⟩ NG j (wn - (x + 1)) (x + 1) (acc2 ++ [c]) m6) = (ro, rm)) := by
        show _ = _
        rw [← HJX.out, hxk]
        exact (rowV_step ⟨vx, vy, vp, vw, vh, vd⟩ NG j _ x acc2 m2 (by show examV vd.toNat _ _ _ = _; rw [hpx, hdn]; exact h6)).symm
      obtain ⟨er, her⟩ : ∃ er : Int, (if o6.isNone = true then 6 else 0) = er := ⟨_, rfl⟩
      obtain ⟨⟨clo, chi⟩, hcc⟩ : ∃ c : Cv, o6.getD (0, 0) = c := ⟨_, rfl⟩
      have HER := Lib.hid her
      have HCC := Lib.hid hcc
      have HVD : Hid (vd = (dn : Int)) := by show _ = _; omega
      have HPX : Hid (∀ Z, Calls Tryz.prog 85 #[vwV ⟨vx, vy, vp, vw, vh, vd⟩, .int .i64 (x : Int), .int .i64 (j : Int)] Z fun e w' => e = .returned (.tuple #[bxV ⟨a0, a1, a2, a3⟩, .bool true]) ∧ Below Z.heap.size Z w') := fun Z => by
        rw [← hpx]
        exact pixel_c ⟨vx, vy, vp, vw, vh, vd⟩ HV.out x j hxi hji Z
      clear h6 her hcc hpx hpo hps hpm hdn
      obtain ⟨v0, v1, v2, v3, v4, v5⟩ := vw_at (HZ.out.k.get HVI.out.1 HVWI.out)
      go_wp2_with fail
      with_reducible refine (HPX.out _).mono ?_
      rintro e Y1 ⟨rfl, hy1⟩
      have HY1 := Lib.hid (HZ.out.below hy1)
      have hysz := hy1.size
      clear v0 v1 v2 v3 v4 v5 hy1
      go_upto_region 15 with fail
      have HZ7 := Lib.hid (HY1.out.below (bel_alloc Y1 (bxO ⟨a0, a1, a2, a3⟩)))
      have HB7 : Hid ((Y1.alloc (bxO ⟨a0, a1, a2, a3⟩)).heap[Y1.heap.size]? = some (bxO ⟨a0, a1, a2, a3⟩)) := alloc_new _ _
      have hgm1 := lt_of_heap HY1.out.mt
      have hWI7 : WI.heap.size ≤ (Y1.alloc (bxO ⟨a0, a1, a2, a3⟩)).heap.size := HZ7.out.k.size
      change Code.wp _ _ _ _ (Y1.alloc (bxO ⟨a0, a1, a2, a3⟩))
      generalize Y1.alloc (bxO ⟨a0, a1, a2, a3⟩) = W7 at HZ7 HB7 hWI7 ⊢
      obtain ⟨Bq, hBq⟩ : ∃ B, Y1.heap.size = B := ⟨_, rfl⟩
      rw [hBq] at HB7 hgm1 hysz ⊢
      have hBg : Bq ≠ gm := by omega
      have hgg : w.heap.size ≠ gm := HVI.out.1.2.1
      have hBtg : Bt ≠ gm := HVI.out.2.2.1
      have HV7 := Lib.hid (HZ7.out.k.get HVI.out.1 HVWI.out)
      have HT7 := Lib.hid (HZ7.out.k.get HVI.out.2 HBT.out)
      have HG7 : Hid (GrpIn (fun k => k ≠ gm) W7 p2 q2 NG) := (HGI.out.keep HZ7.out.k).mono (fun k _ hs => hs.2.1)
      have HC : Hid (∀ Z, Keep (fun k => k ≠ gm) W7 Z → RnS W7 gm w.heap.size vd Bt p2 q2 NL c2 d2 Bq a0 a1 a2 a3 Z) := fun Z hk => rns_of (v := ⟨vx, vy, vp, vw, vh, vd⟩) HV7.out HT7.out HB7.out hgg hBtg hBg hk
      have HKD : Hid (Keep (fun k => k ≠ gm) W7 W7.drew) := Keep.of_below (Below.refl _ _).drew
      have HKZ : Hid (Keep (fun k => k ≠ gm) W7 (W7.alloc (cvO 0 0)).drew) := Keep.of_below (bel_alloc _ _).drew
      have HC0 := Lib.hid (HC.out _ (Keep.refl _ _))
      have HC1 := Lib.hid (HC.out _ HKD.out)
      have HGD : Hid (GrpIn (fun k => k ≠ gm) W7.drew p2 q2 NG) := HG7.out.keep HKD.out
      have HGZ : Hid (GrpIn (fun k => k ≠ gm) (W7.alloc (cvO 0 0)).drew p2 q2 NG) := HG7.out.keep HKZ.out
      have HM7 : Hid (W7.drew.heap[gm]? = some (mtO most (most - m2))) := HZ7.out.mt
      have HMZ : Hid ((W7.alloc (cvO 0 0)).drew.heap[gm]? = some (mtO most (most - m2))) := one_below HZ7.out.mt (bel_alloc _ _).drew
      have HZc : Hid ((W7.alloc (cvO 0 0)).drew.heap[W7.heap.size]? = some (cvO 0 0)) := alloc_new _ _
      have hGm7 : gm < W7.heap.size := lt_of_heap HZ7.out.mt
      have HS8 : Hid (∀ k, (k ≠ gm ∨ W7.drew.heap.size ≤ k) → k ≠ gm) := fun k h => h.elim id (fun h => by have h2 : W7.heap.size ≤ k := h; omega)
      have HSZ : Hid (∀ k, (k ≠ gm ∨ (W7.alloc (cvO 0 0)).drew.heap.size ≤ k) → k ≠ gm) := fun k h => h.elim id (fun h => by have h2 := Nat.le_trans (bel_alloc W7 (cvO 0 0)).size h; omega)
      have hWg : W7.heap.size ≠ gm := by omega
      have hOw7 : ∀ c, W7.heap.size ≤ c → ∀ k, sv2.ownBlock = some k → k ≠ c := by
        obtain ⟨B, _, hr⟩ := HZ7.out.row
        exact fun c hc k hk => by have := (hr.lt k hk).2; omega
      have HIH : Hid (∀ (p8 q8 : Option Addr) (c8 e8 : Nat) (Z : World), GrpIn (fun k => k ≠ gm) Z p8 q8 (nearE NG ⟨a0, a1, a2, a3⟩) → Z.heap[gm]? = some (mtO most (most - m2)) → Calls Tryz.prog 87 #[.agg (grCs p8 (nearE NG ⟨a0, a1, a2, a3⟩).length c8 q8 e8), bxV ⟨a0, a1, a2, a3⟩, .int .i64 vd, .pointer (some ⟨gm, 0, none⟩)] Z (ExOut gm most Z (o6, m6))) := by
        intro p8 q8 c8 e8 Z hg hz
        rw [HVD.out]
        exact exam_c 7 dn (by have := HVD.out; omega) (by have := HVD.out; omega) (fun k => k ≠ gm) (nearE NG ⟨a0, a1, a2, a3⟩) (fun e he => HNN.out e (List.mem_filter.1 he).1) p8 q8 _ c8 e8 rfl ⟨a0, a1, a2, a3⟩ HPO.out HSX.out HSY.out gm (fun h => h rfl) most m2 (by have := HMM.out; omega) Z (Lib.hid hg) (Lib.hid hz) (o6, m6) H6
      clear hBq
      go_region_held3 (fun Z => RnS W7 gm w.heap.size vd Bt p2 q2 NL c2 d2 Bq a0 a1 a2 a3 Z) (first | with_reducible exact HC0.out | with_reducible exact HC1.out | with_reducible exact HC.out _ HKZ.out | with_reducible exact HC.out _ (((hk9.set_new hk8.size _).set_new hk8.size _)) | with_reducible exact HC.out _ (((hk9.set_new (Nat.le_refl _) _).set_new (Nat.le_refl _) _)) | with_reducible exact HC.out _ (hk9.trans (Keep.alloc _ _ _)) | with_reducible exact HC.out _ hk9 | with_reducible exact HC.out _ (hk8.trans (Keep.alloc _ _ _)) | with_reducible exact HC.out _ hk8 | assumption | (trace_state; fail)) (first
        | (go_at_call 86; with_reducible refine (near_g (fun k => k ≠ gm) NG p2 q2 NL c2 d2 ⟨a0, a1, a2, a3⟩ HNL.out W7.drew HGD).mono ?_; rintro e W8 ⟨p8, c8, q8, e8, rfl, hg8, hb8⟩; have hk8 := HKD.out.trans (Keep.of_below hb8); have hm8 := one_below HM7.out hb8; have hg8' := hg8.mono (fun k _ h => HS8.out k h); clear hg8)
        | (go_at_call 86; with_reducible refine (near_g (fun k => k ≠ gm) NG p2 q2 NL c2 d2 ⟨a0, a1, a2, a3⟩ HNL.out (W7.alloc (cvO 0 0)).drew HGZ).mono ?_; rintro e W8 ⟨p8, c8, q8, e8, rfl, hg8, hb8⟩; have hk8 := HKZ.out.trans (Keep.of_below hb8); have hm8 := one_below HMZ.out hb8; have hg8' := hg8.mono (fun k _ h => HSZ.out k h); have hz8 := one_below HZc.out hb8; clear hg8)
        | (go_at_call 87; with_reducible refine (HIH.out p8 q8 c8 e8 W8 hg8' hm8).mono ?_; intro e W9 h9; obtain ⟨he9, hm9, hk9'⟩ := ExOut.get h9 HCC.out HER.out; subst he9; have hk9 := hk8.trans hk9'; try (have hz9 := hk9'.get hWg hz8; obtain ⟨z0, z1⟩ := to_at hz9; have zf := cells_f0 hz9))
        | (go_at_call 87; with_reducible refine (HIH.out p8 q8 c8 e8 (W8.alloc (cvO 0 0)) (hg8'.below (bel_alloc _ _)) (one_below hm8 (bel_alloc _ _))).mono ?_; intro e W9 h9; obtain ⟨he9, hm9, hk9'⟩ := ExOut.get h9 HCC.out HER.out; subst he9; have hk9 := (hk8.trans (Keep.alloc _ _ _)).trans hk9'; have hz9 := hk9'.get (ne_of_size hk8.size hGm7) (alloc_new W8 (cvO 0 0)); obtain ⟨z0, z1⟩ := to_at hz9; have zf := cells_f0 hz9))
      all_goals
        first
          | (change Exit.then _ _ _ _ (W9.alloc (cvO clo chi))
             have HE9 := Lib.hid ((HZ7.out.step hk9 hm9).below (bel_alloc W9 (cvO clo chi)))
             have HB9 : Hid ((W9.alloc (cvO clo chi)).heap[W9.heap.size]? = some (cvO clo chi)) := alloc_new _ _
             generalize W9.alloc (cvO clo chi) = WA at HE9 HB9 ⊢
             obtain ⟨Bc, hBc⟩ : ∃ B, W9.heap.size = B := ⟨_, rfl⟩
             rw [hBc] at HB9 ⊢
             clear hBc)
          | (change Exit.then _ _ _ _ ((W9.setCell ⟨W8.heap.size, 0, none⟩ (.int .i64 clo)).setCell ⟨W8.heap.size, 1, none⟩ (.int .i64 chi))
             have HE9 := Lib.hid (((HZ7.out.step hk9 hm9).put (hWIs := hWI7) (c := W8.heap.size) (i := 0) (hc := hk8.size) hz9 hGm7 (hOw7 _ hk8.size) (.int .i64 clo)).put (hWIs := hWI7) (c := W8.heap.size) (i := 1) (hc := hk8.size) (set_at _ hz9) hGm7 (hOw7 _ hk8.size) (.int .i64 chi))
             have HB9 : Hid (((W9.setCell ⟨W8.heap.size, 0, none⟩ (.int .i64 clo)).setCell ⟨W8.heap.size, 1, none⟩ (.int .i64 chi)).heap[W8.heap.size]? = some (cvO clo chi)) := putW_all [.int .i64 clo, .int .i64 chi] hz9 rfl
             generalize (W9.setCell ⟨W8.heap.size, 0, none⟩ (.int .i64 clo)).setCell ⟨W8.heap.size, 1, none⟩ (.int .i64 chi) = WA at HE9 HB9 ⊢
             clear z0 z1 zf hz9
             obtain ⟨Bc, hBc⟩ : ∃ B, W8.heap.size = B := ⟨_, rfl⟩
             rw [hBc] at HB9 ⊢
             clear hBc)
          | (change Exit.then _ _ _ _ ((W9.setCell ⟨W7.heap.size, 0, none⟩ (.int .i64 clo)).setCell ⟨W7.heap.size, 1, none⟩ (.int .i64 chi))
             have HE9 := Lib.hid (((HZ7.out.step hk9 hm9).put (hWIs := hWI7) (c := W7.heap.size) (i := 0) (hc := Nat.le_refl _) hz9 hGm7 (hOw7 _ (Nat.le_refl _)) (.int .i64 clo)).put (hWIs := hWI7) (c := W7.heap.size) (i := 1) (hc := Nat.le_refl _) (set_at _ hz9) hGm7 (hOw7 _ (Nat.le_refl _)) (.int .i64 chi))
             have HB9 : Hid (((W9.setCell ⟨W7.heap.size, 0, none⟩ (.int .i64 clo)).setCell ⟨W7.heap.size, 1, none⟩ (.int .i64 chi)).heap[W7.heap.size]? = some (cvO clo chi)) := putW_all [.int .i64 clo, .int .i64 chi] hz9 rfl
             generalize (W9.setCell ⟨W7.heap.size, 0, none⟩ (.int .i64 clo)).setCell ⟨W7.heap.size, 1, none⟩ (.int .i64 chi) = WA at HE9 HB9 ⊢
             clear z0 z1 zf hz9
             obtain ⟨Bc, hBc⟩ : ∃ B, W7.heap.size = B := ⟨_, rfl⟩
             rw [hBc] at HB9 ⊢
             clear hBc)
      all_goals
        obtain ⟨v0, v1⟩ := to_at HB9.out
        cases o6 with
        | none =>
          obtain rfl : (6 : Int) = er := HER.out
          obtain ⟨rfl, rfl⟩ : none = ro ∧ m6 = rm := by have := HJ3.out; simpa using this
          have HT : Hid (r = (none, m6)) := HJ2.out.symm
          have HFB := Lib.hid (HY.out.back HKI.out HE9.out)
          go_wp2_with fail
          go_ret2
          rw [HT.out]
          exact ⟨HFB.out.mt, HFB.out.outer HK4.out HS4.out, rfl⟩
        | some e6 =>
          obtain rfl : (0 : Int) = er := HER.out
          obtain rfl : (clo, chi) = e6 := HCC.out.symm
          have HT : Hid (rowV ⟨vx, vy, vp, vw, vh, vd⟩ NG j (wn - (x + 1)) (x + 1) (acc2 ++ [(clo, chi)]) m6 = (ro, rm)) := HJ3.out
          obtain ⟨_, hm60, hm61⟩ := examV_in _ _ _ _ _ _ H6.out
          obtain ⟨Br, hBr, hrow9⟩ := HE9.out.row
          obtain ⟨pr, cr, rfl⟩ := row_form hrow9
          obtain ⟨nr, hnr⟩ : ∃ n, acc2.length = n := ⟨_, rfl⟩
          have hnrb : nr ≤ 1000000 := by
            have h1 : j * wn ≤ 256 * 256 := Nat.mul_le_mul (by have := HHN.out; omega) (by have := HWN.out; omega)
            omega
          have HNR := Lib.hid hnr
          have HXA := Lib.hid (HE9.out.below (bel_alloc WA (.cells #[.int .i64 clo, .int .i64 chi] tCov)))
          have HRA : Hid ((WA.alloc (.cells #[.int .i64 clo, .int .i64 chi] tCov)).ownsRow Br tCov 2 (.slice pr acc2.length cr) acc2.length (cvsV acc2)) := hrow9.alloc _
          have hBA : Br ≤ (WA.alloc (.cells #[.int .i64 clo, .int .i64 chi] tCov)).heap.size := Nat.le_trans hBr (bel_alloc _ _).size
          rw [hnr] at HXA HRA ⊢
          clear hnr hrow9
          go_wp2_with (at_builtin; refine wpList_append_lies _ rfl _ _ _ rfl Br tCov i0 zCov 2 16 Tryz.underlying36 HI.out.1 HI.out.2.1 HI.out.2.2.1 HI.out.2.2.2 rfl (by omega) (.slice pr nr cr) nr _ (by rfl) HRA.out ⟨WA.heap.size, 0, none⟩ 1 1 [.int .i64 clo, .int .i64 chi] (by rfl) (by rfl) (World.news_of_block (cs := #[.int .i64 clo, .int .i64 chi]) (t := tCov) (fr := (0, 0)) (heap_alloc_new WA _)) (by simp [Value.oneCell']) (by omega) (by unfold maxLen; omega) (by omega) hBA (WA.heap.size + 1) (by simp) ?_; intro ge cape w5 hown hgrow hat hltt)
          have HFP := Lib.hid (HXA.out.push (c := (clo, chi)) (g' := ge) (c' := cape) HRA.out hgrow (by rw [HNR.out]; exact hown) hBA (hat.imp id (fun h => by rw [h]; simp)) (by rw [HNR.out]))
          clear hown hgrow hat hltt
          have hlen : (acc2 ++ [(clo, chi)]).length = acc.length + (x + 1) := by rw [List.length_append]; simp only [List.length_cons, List.length_nil]; omega
          have hm6m : m6 ≤ m1 := by omega
          have hx1 : x + 1 ≤ wn := by omega
          clear hm61 hnrb hBA hacc2
          go_round <;> first | exact ⟨x + 1, _, acc2 ++ [(clo, chi)], m6, _, rfl, hx1, hm60, hm6m, hlen, rfl, by go_num, HT.out, HFP.out⟩ | (simp [intOf] <;> omega)
    · have hxe : x = wn := by omega
      subst hxe
      obtain ⟨rfl, rfl⟩ : some acc2 = ro ∧ m2 = rm := by have := HJX.out; rw [Nat.sub_self] at this; simpa [rowV] using this
      have HFB := Lib.hid (HY.out.back HKI.out HZ.out)
      have HT : Hid (rowsV ⟨vx, vy, vp, vw, vh, vd⟩ G (hn' - (j + 1)) (j + 1) acc2 m2 = r) := HJ2.out
      go_wp2_with fail
      go_round <;> first | exact ⟨j + 1, _, acc2, m2, _, rfl, by omega, by omega, by omega, by rw [hacc2, hacc, Nat.add_mul, Nat.one_mul], rfl, by go_num, HT.out, HFB.out⟩ | (simp [intOf] <;> omega)
  · have hje : j = hn' := by omega
    subst hje
    have HT : Hid (r = (some acc, m1)) := by show _ = _; rw [← HJ.out, Nat.sub_self]; rfl
    go_wp2_with fail
    go_ret2
    rw [HT.out]
    obtain ⟨B, _, hr⟩ := HY.out.row
    refine ⟨HY.out.mt, HY.out.outer HK4.out HS4.out, _, rfl, B, hr, fun k hk => ?_⟩
    rcases HY.out.inv k hk with h1 | h1
    · exact Nat.le_trans HK4.out.size h1
    · exact HS4.out k h1
end Go.Proofs.YtfldplmgkeiimaaGreatDoor.VW
