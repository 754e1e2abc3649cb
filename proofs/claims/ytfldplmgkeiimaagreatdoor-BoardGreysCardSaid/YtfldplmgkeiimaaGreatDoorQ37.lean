/-
  Several texts of this proof in one: Qo.
-/
import Derived.Test.YtfldplmgkeiimaaGreatDoorQ10
import Derived.Test.YtfldplmgkeiimaaGreatDoorQ34
import Derived.Test.YtfldplmgkeiimaaGreatDoorQ35
import Derived.Test.YtfldplmgkeiimaaGreatDoorQ36
set_option linter.unusedVariables false
set_option linter.unusedSimpArgs false
namespace Go.Proofs.YtfldplmgkeiimaaGreatDoor.VW
open Go.RowKit Go.Proofs.YtfldplmgkeiimaaGreatDoor.Vp
abbrev tCov:TypeId:=43
abbrev cvO (a b:Int):Obj:= .cells #[.int .i64 a, .int .i64 b] tCov
theorem Keep.set_new {S:Nat→Prop} {W x:World} (h:Keep S W x) {b i:Nat} (hb:W.heap.size≤b) (u:Value):Keep S W (x.setCell ⟨b,i,none⟩ u):=
 ⟨h.os,h.tape,h.output,Nat.le_trans h.size (by simp [World.setCell]),fun k hs hl=>(far0 (by omega)).trans (h.block k hs hl)⟩
theorem keep_S {S:Nat→Prop} {gm:Nat} {w x:World} (hS:¬S gm) (h:Keep (fun k=>k≠gm) w x):Keep S w x:=h.mono (R:=S) (fun k _ hs=>by show k≠gm;intro e;rw [e] at hs;exact hS hs)
structure ExM (w0:World) (g gm:Nat) (gs:Array Value) (b:Bx) (most a:Int) (x:World):Prop where
 grp:x.heap[g]?=some (.cells gs tGrp)
 bx:x.heap[g+1]?=some (bxO b)
 res:x.heap[g+1+1]?=some (cvO 0 0)
 mt:x.heap[gm]?=some (mtO most a)
 k:Keep (fun k=>k≠gm) w0 x
 lt:gm < g
theorem ExM.step {w0:World} {g gm:Nat} {gs:Array Value} {b:Bx} {most a a':Int} {x y:World} (h:ExM w0 g gm gs b most a x) (hk:Keep (fun k=>k≠gm) x y) (hm:y.heap[gm]?=some (mtO most a')):ExM w0 g gm gs b most a' y:=by
 have hl:=h.lt
 exact ⟨hk.get (by show _≠_;omega) h.grp,hk.get (by show _≠_;omega) h.bx,hk.get (by show _≠_;omega) h.res,hm,h.k.trans hk,h.lt⟩
theorem ExM.below {w0:World} {g gm:Nat} {gs:Array Value} {b:Bx} {most a:Int} {x y:World} (h:ExM w0 g gm gs b most a x) (hb:Below x.heap.size x y):ExM w0 g gm gs b most a y:=h.step (Keep.of_below hb) (one_below h.mt hb)
theorem ExM.new {w0:World} {g gm:Nat} {gs:Array Value} {b:Bx} {most a:Int} {x:World} (h:ExM w0 g gm gs b most a x) {c i:Nat} (hc:g+1+1 < c∧w0.heap.size≤c) (u:Value):ExM w0 g gm gs b most a (x.setCell ⟨c,i,none⟩ u):=by
 have hl:=h.lt
 exact ⟨(far0 (by omega)).trans h.grp,(far0 (by omega)).trans h.bx,(far0 (by omega)).trans h.res,(far0 (by omega)).trans h.mt,h.k.set_new hc.2 u,h.lt⟩
theorem ne_of_size {a b gm:Nat} (h:a≤b) (hg:gm < a):b≠gm:=by omega
def ExOut (gm:Nat) (most:Int) (w:World) (r:Option Cv × Int) (e:Ending) (w':World):Prop:=
 e= .returned (.tuple #[toV (r.1.getD (0,0)), .int .i64 (if r.1.isNone=true then 6 else 0)])∧w'.heap[gm]?=some (mtO most (most - r.2))∧Keep (fun k=>k≠gm) w w'
theorem ExOut.get {gm:Nat} {most:Int} {w:World} {o:Option Cv} {m:Int} {e:Ending} {w':World} (h:ExOut gm most w (o,m) e w') {a b er:Int} (hc:o.getD (0,0)=(a,b)) (he:(if o.isNone=true then 6 else 0)=er):
  e= .returned (.tuple #[.agg #[.int .i64 a, .int .i64 b], .int .i64 er])∧w'.heap[gm]?=some (mtO most (most - m))∧Keep (fun k=>k≠gm) w w':=by
 obtain ⟨h1,h2,h3⟩:=h
 simp only at h1
 rw [hc,he] at h1
 exact ⟨h1,h2,h3⟩
theorem ex_out {w w2:World} {g gm:Nat} {gs:Array Value} {b:Bx} {most a:Int} (hg:g=w.heap.size) (h:ExM w g gm gs b most a w2) {r:Option Cv × Int} (c0 c1 er:Int) (hc:(c0,c1)=r.1.getD (0,0)) (he:er=if r.1.isNone=true then 6 else 0) (ha:a=most - r.2)
  {tmps:Array Value} (hp:tmps.getD 8 undef= .pointer (some ⟨g+1+1,0,none⟩)) (hs:tmps.getD 9 undef= .int .i64 er):
  bodyPost Tryz.prog Tryz.f87 (ExOut gm most w r) .ret ⟨tmps, []⟩ ((w2.setCell ⟨g+1+1,0,none⟩ (.int .i64 c0)).setCell ⟨g+1+1,1,none⟩ (.int .i64 c1)):=by
 have hrr:=putW_all [.int .i64 c0, .int .i64 c1] h.res rfl
 have hl:=h.lt
 refine bodyPost_ret (results_cell_tmp_row rfl _ _ (g+1+1) _ _ _ _ hp hrr Tryz.underlying43 rfl (by kernel_rfl)) rfl ⟨?_,?_,?_⟩
 ·rw [hs,←hc,he]
 ·rw [←ha]
  exact (putW_far (by omega) [.int .i64 c0, .int .i64 c1]).trans h.mt
 ·exact (h.k.set_new (by omega) _).set_new (by omega) _
theorem examV_out (d:Nat) (g:List Ex) (b:Bx) (m:Int) (h:m≤0):examV d g b m=(none,m - 1):=by
 cases d with
 | zero=>rw [examV_zero,if_pos h]
 | succ d=>rw [examV_step,if_pos h]
theorem examV_0 (d:Nat) (g:List Ex) (b:Bx) (m:Int) (h:¬m≤0) (hk:pileC (g.map Ex.o) b=0):examV d g b m=(some (0,0),m - 1):=by
 cases d with
 | zero=>rw [examV_zero,if_neg h,if_pos hk]
 | succ d=>rw [examV_step,if_neg h,if_pos hk]
theorem examV_2 (d:Nat) (g:List Ex) (b:Bx) (m:Int) (h:¬m≤0) (hk:pileC (g.map Ex.o) b=2):examV d g b m=(some (4 ^ d,4 ^ d),m - 1):=by
 cases d with
 | zero=>rw [examV_zero,if_neg h,if_neg (by omega),if_pos hk];rfl
 | succ d=>rw [examV_step,if_neg h,if_neg (by omega),if_pos hk]
def quaP (x0 y0 x1 y1 x y:Int):Nat→Bx
 | 0=>⟨x0,y0,x,y⟩
 | 1=>⟨x,y0,x1,y⟩
 | 2=>⟨x0,y,x,y1⟩
 | _=>⟨x,y,x1,y1⟩
theorem idx_qua (x0 y0 x1 y1 x y:Int) (j:Nat) (hj:j < 4) (w:World):(Instr.index 251 (.agg #[.int .i64 x0, .int .i64 y0, .int .i64 x, .int .i64 y, .int .i64 x, .int .i64 y0, .int .i64 x1, .int .i64 y, .int .i64 x0, .int .i64 y, .int .i64 x, .int .i64 y1, .int .i64 x, .int .i64 y, .int .i64 x1, .int .i64 y1]) (.int .i64 j)).run Tryz.prog w= .ok (bxV (quaP x0 y0 x1 y1 x y j)) w:=by
 rcases (show j=0∨j=1∨j=2∨j=3 by omega) with rfl | rfl | rfl | rfl <;> simp [Instr.index,run_underlying Tryz.underlying251,asIntOf,go_sem,quaP,part]
abbrev ExS (W:World) (gm g:Nat) (p q:Option Addr) (n c e:Nat) (Bq:Nat) (a0 a1 a2 a3:Int) (Z:World):Prop:=
 Z.cell? ⟨g,0,none⟩=some (.slice p n c)∧Z.cell? ⟨g,1,none⟩=some (.slice q n e)∧Z.cell? ⟨Bq,0,none⟩=some (.int .i64 a0)∧Z.cell? ⟨Bq,1,none⟩=some (.int .i64 a1)∧Z.cell? ⟨Bq,2,none⟩=some (.int .i64 a2)∧Z.cell? ⟨Bq,3,none⟩=some (.int .i64 a3)∧Keep (fun k=>k≠gm) W Z
theorem exs_of {W Z:World} {gm g:Nat} {p q:Option Addr} {n c e:Nat} {Bq:Nat} {a0 a1 a2 a3:Int} (hg:W.heap[g]?=some (.cells (grCs p n c q e) tGrp)) (hb:W.heap[Bq]?=some (bxO ⟨a0,a1,a2,a3⟩)) (n1:g≠gm) (n2:Bq≠gm) (hk:Keep (fun k=>k≠gm) W Z):ExS W gm g p q n c e Bq a0 a1 a2 a3 Z:=by
 have h1:=hk.get n1 hg
 have h2:=hk.get n2 hb
 exact ⟨cell_of h1 rfl,cell_of h1 rfl,cell_of h2 rfl,cell_of h2 rfl,cell_of h2 rfl,cell_of h2 rfl,hk⟩
set_option maxRecDepth 100000 in
set_option maxHeartbeats 25600000 in
theorem exam_c (N:Nat):∀(d:Nat),d < N→d≤6→∀(S:Nat→Prop) (g:List Ex) (hl:∀e∈g,Nice e.o.2) (p q:Option Addr) (n c e':Nat) (hn:n=g.length) (b:Bx) (hb:okB b=true) (hx:(b.x1 - b.x0) % 2 ^ d=0∧0 < b.x1 - b.x0) (hy:(b.y1 - b.y0) % 2 ^ d=0∧0 < b.y1 - b.y0) (gm:Nat) (hS:¬S gm) (most m:Int) (hm:-1≤most - m∧most≤100000000∧-1000≤m) (w:World) (H:Hid (GrpIn S w p q g)) (HM:Hid (w.heap[gm]?=some (mtO most (most - m)))) (r:Option Cv × Int) (hr:Hid (examV d g b m=r)),
    Calls Tryz.prog 87 #[.agg (grCs p n c q e'), bxV b, .int .i64 (d : Int), .pointer (some ⟨gm, 0, none⟩)] w (ExOut gm most w r) := by
  induction N with
  | zero => intro d h; exact absurd h (Nat.not_lt_zero _)
  | succ N ih =>
  intro d hdN hd6 S g hl p q n c e' hn b hb hx hy gm hS most m hm w H HM r hr
  have IH := Lib.hid ih
  have HDN := Lib.hid hdN
  have HL := Lib.hid hl
  have HN := Lib.hid hn
  have HBX := Lib.hid hb
  have HSX := Lib.hid (And.intro hx hy)
  have HSg := Lib.hid hS
  have HMM := Lib.hid hm
  have HGL := Lib.hid (lt_of_heap HM.out)
  clear ih hdN hl hn hb hx hy hS hm
  obtain ⟨x0, y0, x1, y1⟩ := b
  obtain ⟨f, hf⟩ : ∃ f, decide (most - m + 1 ≤ most) = f := ⟨_, rfl⟩
  have HF := Lib.hid hf
  obtain ⟨k, hk⟩ : ∃ k, pileC (g.map Ex.o) ⟨x0, y0, x1, y1⟩ = k := ⟨_, rfl⟩
  have HK := Lib.hid hk
  have hk01 := pileC_in (g.map Ex.o) ⟨x0, y0, x1, y1⟩
  rw [hk] at hk01
  have HK01 := Lib.hid hk01
  clear hk hk01
  go_enter Tryz.func87, Tryz.ntmps87
  go_upto_region 1 with fail
  obtain ⟨W, hW⟩ : ∃ W, ((w.alloc (.cells (grCs p n c q e') tGrp)).alloc (bxO ⟨x0, y0, x1, y1⟩)).alloc (cvO 0 0) = W := ⟨_, rfl⟩
  have HE : Hid (ExM w w.heap.size gm (grCs p n c q e') ⟨x0, y0, x1, y1⟩ most (most - m) W) := by
    obtain ⟨h1, h2, h3, h4, _⟩ := three_at hW
    exact ⟨h1, h2, h3, one_below HM.out h4, Keep.of_below h4, HGL.out⟩
  rw [hW]
  clear hW
  go_wp2_with fail
  with_reducible refine (take_m gm most (most - m) (by have := HMM.out; omega) _ (Lib.hid HE.out.mt) f HF).mono ?_
  rintro e W1 ⟨rfl, hmt, hkp⟩
  have HE1 := Lib.hid (HE.out.step hkp hmt)
  clear hmt hkp HE
  obtain ⟨g0, g1⟩ := gr_at HE1.out.grp
  obtain ⟨b0, b1, b2, b3⟩ := bx_at HE1.out.bx
  obtain ⟨u0, u1⟩ := to_at HE1.out.res
  have fu := cells_f0 HE1.out.res
  cases f with
  | false =>
    have hm0 : m ≤ 0 := by simp only [decide_eq_false_iff_not] at hf; omega
    have HR : Hid (r = (none, m - 1)) := by show _ = _; rw [← hr.out, examV_out _ _ _ _ hm0]
    clear hf
    go_wp2_with fail
    rw [HR.out]
    exact ex_out rfl HE1.out 0 0 6 rfl rfl (by show _ = most - (m - 1); omega) rfl rfl
  | true =>
    have HM0 : Hid (0 < m) := by show 0 < m; simp only [decide_eq_true_eq] at hf; omega
    clear hf
    go_wp2_with fail
    with_reducible refine (pileC_c S ⟨x0, y0, x1, y1⟩ (bxOk_of HBX.out) p (g.map Ex.o) n c (by rw [List.length_map]; exact HN.out) (by intro o ho; obtain ⟨e, he, rfl⟩ := List.mem_map.1 ho; exact HL.out e he) _ (Lib.hid (H.out.o.keep (keep_S HSg.out HE1.out.k))) k HK).mono ?_
    rintro e W2 ⟨rfl, hb⟩
    have HE2 := Lib.hid (HE1.out.below hb)
    clear hb HE1 g0 g1 b0 b1 b2 b3 u0 u1 fu
    obtain ⟨g0, g1⟩ := gr_at HE2.out.grp
    obtain ⟨b0, b1, b2, b3⟩ := bx_at HE2.out.bx
    obtain ⟨u0, u1⟩ := to_at HE2.out.res
    have fu := cells_f0 HE2.out.res
    by_cases k0 : k = 0
    · subst k0
      have HR : Hid (r = (some (0, 0), m - 1)) := by show _ = _; rw [← hr.out, examV_0 _ _ _ _ (Int.not_le.2 HM0.out) HK.out]
      go_wp2_with fail
      rw [HR.out]
      exact ex_out rfl HE2.out 0 0 0 rfl rfl (by show _ = most - (m - 1); omega) rfl rfl
    by_cases k2 : k = 2
    · subst k2
      obtain ⟨P, hP⟩ : ∃ P : Int, 4 ^ d = P := ⟨_, rfl⟩
      have hPb : 1 ≤ P ∧ P ≤ 4096 := by
        rw [← hP]
        rcases (show d = 0 ∨ d = 1 ∨ d = 2 ∨ d = 3 ∨ d = 4 ∨ d = 5 ∨ d = 6 by omega) with rfl | rfl | rfl | rfl | rfl | rfl | rfl <;> decide
      have HR : Hid (r = (some (P, P), m - 1)) := by show _ = _; rw [← hr.out, examV_2 _ _ _ _ (Int.not_le.2 HM0.out) HK.out, hP]
      have w0 : IntKind.i64.wrap (2 * (d : Int)) = 2 * (d : Int) := IntWalk.i64_in _ (by omega)
      have w1 : IntKind.i64.wrap (2 ^ (2 * (d : Int)).toNat) = P := by
        have := four_pow (d := (d : Int)) (by omega)
        rw [this, show ((d : Int)).toNat = d from rfl, hP]
        exact IntWalk.i64_in _ (by omega)
      have m0 : 0 ≤ 2 * (d : Int) := by omega
      have m1 : 2 * (d : Int) ≤ 64 := by omega
      clear hP hPb
      go_wp2_with fail
      rw [HR.out]
      exact ex_out rfl HE2.out P P 0 rfl rfl (by show _ = most - (m - 1); omega) rfl rfl
    have k0b : (k == 0) = false := by simp; omega
    have k2b : (k == 2) = false := by simp; omega
    by_cases d0 : d = 0
    · subst d0
      have HR : Hid (r = (some (0, 1), m - 1)) := by show _ = _; rw [← hr.out, examV_zero, if_neg (Int.not_le.2 HM0.out), HK.out, if_neg k0, if_neg k2]
      go_wp2_with fail
      rw [HR.out]
      exact ex_out rfl HE2.out 0 1 0 rfl rfl (by show _ = most - (m - 1); omega) rfl rfl
    obtain ⟨d', rfl⟩ : ∃ d', d = d' + 1 := ⟨d - 1, by omega⟩
    have HR : Hid ((splitB ⟨x0, y0, x1, y1⟩).foldl (exF d' g) (some (0, 0), m - 1) = r) := by show _ = _; rw [← hr.out, examV_step, if_neg (Int.not_le.2 HM0.out), HK.out, if_neg k0, if_neg k2]
    obtain ⟨hx1, hx2, hx3, hx4⟩ := half_ok HSX.out.1
    obtain ⟨hy1, hy2, hy3, hy4⟩ := half_ok HSX.out.2
    obtain ⟨x, hX⟩ : ∃ x, x0 + (x1 - x0) / 2 = x := ⟨_, rfl⟩
    obtain ⟨y, hY⟩ : ∃ y, y0 + (y1 - y0) / 2 = y := ⟨_, rfl⟩
    have HSP : Hid (splitB ⟨x0, y0, x1, y1⟩ = [⟨x0, y0, x, y⟩, ⟨x, y0, x1, y⟩, ⟨x0, y, x, y1⟩, ⟨x, y, x1, y1⟩]) := by show _ = _; simp only [splitB, hX, hY]
    have dn : ((((d' + 1 : Nat) : Int)) == 0) = false := by simp; omega
    go_upto_region 12 with fail
    have HE3 := Lib.hid (HE2.out.below (bel_alloc W2 (cvO 0 0)))
    have HSu : Hid ((W2.alloc (cvO 0 0)).heap[W2.heap.size]? = some (cvO 0 0)) := alloc_new _ _
    have HSl : Hid (w.heap.size + 1 + 1 < W2.heap.size) := lt_of_heap HE2.out.res
    obtain ⟨U, hU⟩ : ∃ U, W2.heap.size = U := ⟨_, rfl⟩
    change Code.wp _ _ _ _ (W2.alloc (cvO 0 0))
    generalize W2.alloc (cvO 0 0) = W3 at HE3 HSu ⊢
    rw [hU] at HSu HSl ⊢
    clear hU HE2 g0 g1 b0 b1 b2 b3 u0 u1 fu
    obtain ⟨b0, b1, b2, b3⟩ := bx_at HE3.out.bx
    go_wp2_with fail
    with_reducible refine (split_c x0 y0 x1 y1 HBX.out ⟨hx1, HSX.out.1.2⟩ ⟨hy1, HSX.out.2.2⟩ x y hX hY _).mono ?_
    rintro e W4 ⟨rfl, hb⟩
    have HE4 := Lib.hid (HE3.out.below hb)
    have HSu4 := Lib.hid (one_below HSu.out hb)
    clear hb HE3 HSu b0 b1 b2 b3
    go_wp2_with fail
    have HE5 := Lib.hid (HE4.out.below (bel_alloc W4 (.cells (quarts x0 y0 x1 y1 x y).toArray 251)))
    have HSu5 := Lib.hid (one_below HSu4.out (bel_alloc W4 (.cells (quarts x0 y0 x1 y1 x y).toArray 251)))
    obtain ⟨W5, hW5⟩ : ∃ W5, W4.alloc (.cells (quarts x0 y0 x1 y1 x y).toArray 251) = W5 := ⟨_, rfl⟩
    rw [hW5] at HE5 HSu5
    have HQO : Hid (∀ j, okB (quaP x0 y0 x1 y1 x y j) = true) := by
      have hbx := okB_props HBX.out
      simp only at hbx
      rintro (_ | _ | _ | j) <;> simp only [quaP, okB, wiV, Bool.and_eq_true, decide_eq_true_eq] <;> omega
    have HQX : Hid (∀ j, ((quaP x0 y0 x1 y1 x y j).x1 - (quaP x0 y0 x1 y1 x y j).x0) % 2 ^ d' = 0 ∧ 0 < (quaP x0 y0 x1 y1 x y j).x1 - (quaP x0 y0 x1 y1 x y j).x0) := by
      have e1 : x - x0 = (x1 - x0) / 2 := by omega
      have e2 : x1 - x = (x1 - x0) / 2 := by omega
      rintro (_ | _ | _ | j) <;> simp only [quaP] <;> first | (rw [e1]; exact ⟨hx3, hx2⟩) | (rw [e2]; exact ⟨hx3, hx2⟩)
    have HQY : Hid (∀ j, ((quaP x0 y0 x1 y1 x y j).y1 - (quaP x0 y0 x1 y1 x y j).y0) % 2 ^ d' = 0 ∧ 0 < (quaP x0 y0 x1 y1 x y j).y1 - (quaP x0 y0 x1 y1 x y j).y0) := by
      have e1 : y - y0 = (y1 - y0) / 2 := by omega
      have e2 : y1 - y = (y1 - y0) / 2 := by omega
      rintro (_ | _ | _ | j) <;> simp only [quaP] <;> first | (rw [e1]; exact ⟨hy3, hy2⟩) | (rw [e2]; exact ⟨hy3, hy2⟩)
    rw [HSP.out] at HR
    obtain ⟨P, hP⟩ : ∃ P : Int, 4 ^ d' = P := ⟨_, rfl⟩
    have hPb : 1 ≤ P ∧ P ≤ 1024 := by
      rw [← hP]
      rcases (show d' = 0 ∨ d' = 1 ∨ d' = 2 ∨ d' = 3 ∨ d' = 4 ∨ d' = 5 by omega) with rfl | rfl | rfl | rfl | rfl | rfl <;> decide
    have HPP := Lib.hid hP
    clear hP HE4 HSu4 HSP hx1 hx2 hx3 hx4 hy1 hy2 hy3 hy4 hX hY
    change Code.wp _ _ _ _ (W4.alloc (.cells (quarts x0 y0 x1 y1 x y).toArray 251))
    rw [hW5]
    clear hW5
    go_loopw [46] (fun i wr => ∃ (j : Nat) (lo hi m1 : Int) (wy : World), wy = wr ∧ j ≤ 4 ∧ i = .int .i64 j ∧ 0 ≤ lo ∧ lo ≤ hi ∧ hi ≤ j * P ∧ 0 ≤ m1 ∧ m1 ≤ m - 1 ∧ Hid (([⟨x0, y0, x, y⟩, ⟨x, y0, x1, y⟩, ⟨x0, y, x, y1⟩, ⟨x, y, x1, y1⟩].drop j).foldl (exF d' g) (some (lo, hi), m1) = r) ∧ Hid (ExM w w.heap.size gm (grCs p n c q e') ⟨x0, y0, x1, y1⟩ most (most - m1) wy) ∧ Hid (wy.heap[U]? = some (cvO lo hi))) (fun i _ => 4 - (intOf i).toNat)
    case atStart => exact ⟨0, 0, 0, m - 1, _, rfl, by decide, rfl, by decide, by decide, by omega, by have := HM0.out; omega, by omega, HR.out, by rw [show most - (m - 1) = most - m + 1 by omega]; exact HE5.out, HSu5.out⟩
    case round =>
    obtain ⟨j, lo, hi, m1, wy, rfl, hj, rfl, hl0, hl1, hl2, hm10, hm11, HJ, HY, HUy⟩ := hrel
    obtain ⟨ji, hji⟩ : ∃ ji : Int, (j : Int) = ji := ⟨_, rfl⟩
    rw [hji] at hl2 ⊢
    rcases (show j = 0 ∨ j = 1 ∨ j = 2 ∨ j = 3 ∨ j = 4 by omega) with rfl | rfl | rfl | rfl | rfl
    ·
      obtain rfl : ji = 0 := by omega
      have hix : ∀ w, (Instr.index 251 (.agg (quarts x0 y0 x1 y1 x y).toArray) (.int .i64 0)).run Tryz.prog w = .ok (bxV ⟨x0, y0, x, y⟩) w := fun w => idx_qua x0 y0 x1 y1 x y 0 (by decide) w
      obtain ⟨⟨o6, m6⟩, h6⟩ : ∃ r6, examV d' (nearE g ⟨x0, y0, x, y⟩) ⟨x0, y0, x, y⟩ m1 = r6 := ⟨_, rfl⟩
      have H6 := Lib.hid h6
      obtain ⟨er, her⟩ : ∃ er : Int, (if o6.isNone = true then 6 else 0) = er := ⟨_, rfl⟩
      obtain ⟨⟨clo, chi⟩, hcc⟩ : ∃ c : Cv, o6.getD (0, 0) = c := ⟨_, rfl⟩
      have HER := Lib.hid her
      have HCC := Lib.hid hcc
      have HOQ : Hid (okB ⟨x0, y0, x, y⟩ = true) := HQO.out 0
      have HSQ : Hid ((x - x0) % 2 ^ d' = 0 ∧ 0 < x - x0) := HQX.out 0
      have HTQ : Hid ((y - y0) % 2 ^ d' = 0 ∧ 0 < y - y0) := HQY.out 0
      clear h6 her hcc
      go_upto_region 16 with fail
      have HE7 := Lib.hid (HY.out.below (bel_alloc wy (bxO ⟨x0, y0, x, y⟩)))
      have HU7 := Lib.hid (one_below HUy.out (bel_alloc wy (bxO ⟨x0, y0, x, y⟩)))
      have HB7 : Hid ((wy.alloc (bxO ⟨x0, y0, x, y⟩)).heap[wy.heap.size]? = some (bxO ⟨x0, y0, x, y⟩)) := alloc_new _ _
      have hgl := HE7.out.lt
      have hBl : Hid (gm < wy.heap.size) := lt_of_heap HY.out.mt
      generalize wy.alloc (bxO ⟨x0, y0, x, y⟩) = W7 at HE7 HU7 HB7 ⊢
      obtain ⟨Bq, hBq⟩ : ∃ Bq, wy.heap.size = Bq := ⟨_, rfl⟩
      rw [hBq] at HB7 hBl ⊢
      have hBg : Bq ≠ gm := by have := hBl.out; omega
      have hgg : w.heap.size ≠ gm := by have := HGL.out; omega
      have HC : Hid (∀ Z, Keep (fun k => k ≠ gm) W7 Z → ExS W7 gm w.heap.size p q n c e' Bq x0 y0 x y Z) := fun Z hk => exs_of HE7.out.grp HB7.out hgg hBg hk
      have HKD : Hid (Keep (fun k => k ≠ gm) W7 W7.drew) := Keep.of_below (Below.refl _ _).drew
      have HC0 := Lib.hid (HC.out _ (Keep.refl _ _))
      have HC1 := Lib.hid (HC.out _ HKD.out)
      have HKZ : Hid (Keep (fun k => k ≠ gm) W7 (W7.alloc (cvO 0 0)).drew) := Keep.of_below (bel_alloc _ _).drew
      have HGD : Hid (GrpIn S W7.drew p q g) := H.out.keep (keep_S HSg.out (HE7.out.k.trans HKD.out))
      have HGZ : Hid (GrpIn S (W7.alloc (cvO 0 0)).drew p q g) := H.out.keep (keep_S HSg.out (HE7.out.k.trans HKZ.out))
      have HM7 : Hid (W7.drew.heap[gm]? = some (mtO most (most - m1))) := HE7.out.mt
      have HMZ : Hid ((W7.alloc (cvO 0 0)).drew.heap[gm]? = some (mtO most (most - m1))) := one_below HE7.out.mt (bel_alloc _ _).drew
      have HZ7 : Hid ((W7.alloc (cvO 0 0)).drew.heap[W7.heap.size]? = some (cvO 0 0)) := alloc_new _ _
      have HS8 : Hid (∀ k, (S k ∨ W7.drew.heap.size ≤ k) → (S k ∨ W7.heap.size ≤ k)) := fun k h => h
      have HSZ : Hid (∀ k, (S k ∨ (W7.alloc (cvO 0 0)).drew.heap.size ≤ k) → (S k ∨ W7.heap.size ≤ k)) := fun k h => h.elim .inl (fun h => .inr (Nat.le_trans (bel_alloc W7 (cvO 0 0)).size h))
      have HGS : Hid (¬ (fun k => S k ∨ W7.heap.size ≤ k) gm) := by
        show ¬ (S gm ∨ _)
        intro h
        rcases h with h | h
        · exact HSg.out h
        · have h1 := lt_of_heap HE7.out.mt
          exact absurd h (by omega)
      have hUl := lt_of_heap HU7.out
      have hUg : U ≠ gm := by have := HSl.out; have := HGL.out; omega
      have hWg : W7.heap.size ≠ gm := by have h1 := lt_of_heap HE7.out.mt; omega
      have hwd : IntKind.i64.wrap (d' : Int) = (d' : Int) := IntWalk.i64_in _ (by omega)
      have HIH := Lib.hid (fun (S' : Nat → Prop) (hS' : ¬ S' gm) (p8 q8 : Option Addr) (c8 e8 : Nat) (Z : World) (hg : GrpIn S' Z p8 q8 (nearE g ⟨x0, y0, x, y⟩)) (hz : Z.heap[gm]? = some (mtO most (most - m1))) => IH.out d' (by have := HDN.out; omega) (by omega) S' (nearE g ⟨x0, y0, x, y⟩) (fun e he => HL.out e (List.mem_filter.1 he).1) p8 q8 (nearE g ⟨x0, y0, x, y⟩).length c8 e8 rfl ⟨x0, y0, x, y⟩ HOQ.out HSQ.out HTQ.out gm hS' most m1 (by have := HMM.out; omega) Z (Lib.hid hg) (Lib.hid hz) (o6, m6) H6)
      have hGm7 : gm < W7.heap.size := lt_of_heap HE7.out.mt
      clear hBq hgl
      go_region_held3 (fun Z => ExS W7 gm w.heap.size p q n c e' Bq x0 y0 x y Z) (first | with_reducible exact HC0.out | with_reducible exact HC1.out | with_reducible exact HC.out _ HKZ.out | with_reducible exact HC.out _ (((hk9.set_new hk8.size _).set_new hk8.size _)) | with_reducible exact HC.out _ (((hk9.set_new (Nat.le_refl _) _).set_new (Nat.le_refl _) _)) | with_reducible exact HC.out _ (hk9.trans (Keep.alloc _ _ _)) | with_reducible exact HC.out _ hk9 | with_reducible exact HC.out _ (hk8.trans (Keep.alloc _ _ _)) | with_reducible exact HC.out _ hk8 | assumption | (trace_state; fail)) (first
        | (go_at_call 86; with_reducible refine (near_g S g p q n c e' ⟨x0, y0, x, y⟩ HN.out W7.drew HGD).mono ?_; rintro e W8 ⟨p8, c8, q8, e8, rfl, hg8, hb8⟩; have hk8 := HKD.out.trans (Keep.of_below hb8); have hm8 := one_below HM7.out hb8; have hg8' := hg8.mono (fun k _ h => HS8.out k h); clear hg8)
        | (go_at_call 86; with_reducible refine (near_g S g p q n c e' ⟨x0, y0, x, y⟩ HN.out (W7.alloc (cvO 0 0)).drew HGZ).mono ?_; rintro e W8 ⟨p8, c8, q8, e8, rfl, hg8, hb8⟩; have hk8 := HKZ.out.trans (Keep.of_below hb8); have hm8 := one_below HMZ.out hb8; have hg8' := hg8.mono (fun k _ h => HSZ.out k h); have hz8 := one_below HZ7.out hb8; clear hg8)
        | (go_at_call 87; with_reducible refine (HIH.out (fun k => S k ∨ W7.heap.size ≤ k) HGS.out p8 q8 c8 e8 W8 hg8' hm8).mono ?_; intro e W9 h9; obtain ⟨he9, hm9, hk9'⟩ := ExOut.get h9 HCC.out HER.out; subst he9; have hk9 := hk8.trans hk9'; try (have hz9 := hk9'.get hWg hz8; obtain ⟨z0, z1⟩ := to_at hz9; have zf := cells_f0 hz9))
        | (go_at_call 87; with_reducible refine (HIH.out (fun k => S k ∨ W7.heap.size ≤ k) HGS.out p8 q8 c8 e8 (W8.alloc (cvO 0 0)) (hg8'.below (bel_alloc _ _)) (one_below hm8 (bel_alloc _ _))).mono ?_; intro e W9 h9; obtain ⟨he9, hm9, hk9'⟩ := ExOut.get h9 HCC.out HER.out; subst he9; have hk9 := (hk8.trans (Keep.alloc _ _ _)).trans hk9'; have hz9 := hk9'.get (ne_of_size hk8.size hGm7) (alloc_new W8 (cvO 0 0)); obtain ⟨z0, z1⟩ := to_at hz9; have zf := cells_f0 hz9))
      all_goals
        first
          | (change Exit.then _ _ _ _ (W9.alloc (cvO clo chi))
             have HE9 := Lib.hid ((HE7.out.step hk9 hm9).below (bel_alloc W9 (cvO clo chi)))
             have HB9 : Hid ((W9.alloc (cvO clo chi)).heap[W9.heap.size]? = some (cvO clo chi)) := alloc_new _ _
             have HU9 : Hid ((W9.alloc (cvO clo chi)).heap[U]? = some (cvO lo hi)) := (hk9.trans (Keep.alloc _ _ _)).get hUg HU7.out
             have hUB : W9.heap.size ≠ U := by have := hk9.size; omega
             generalize W9.alloc (cvO clo chi) = WA at HE9 HB9 HU9 ⊢
             obtain ⟨Bc, hBc⟩ : ∃ B, W9.heap.size = B := ⟨_, rfl⟩
             rw [hBc] at HB9 hUB ⊢
             clear hBc)
          | (change Exit.then _ _ _ _ ((W9.setCell ⟨W8.heap.size, 0, none⟩ (.int .i64 clo)).setCell ⟨W8.heap.size, 1, none⟩ (.int .i64 chi))
             have hB8 := hk8.size
             have HE9 := Lib.hid (((HE7.out.step hk9 hm9).new (c := W8.heap.size) (i := 0) (by have := HSl.out; omega) (.int .i64 clo)).new (c := W8.heap.size) (i := 1) (by have := HSl.out; omega) (.int .i64 chi))
             have HB9 : Hid (((W9.setCell ⟨W8.heap.size, 0, none⟩ (.int .i64 clo)).setCell ⟨W8.heap.size, 1, none⟩ (.int .i64 chi)).heap[W8.heap.size]? = some (cvO clo chi)) := putW_all [.int .i64 clo, .int .i64 chi] hz9 rfl
             have hUB : W8.heap.size ≠ U := by omega
             have HU9 : Hid (((W9.setCell ⟨W8.heap.size, 0, none⟩ (.int .i64 clo)).setCell ⟨W8.heap.size, 1, none⟩ (.int .i64 chi)).heap[U]? = some (cvO lo hi)) := (putW_far (m := 0) (Ne.symm hUB) [.int .i64 clo, .int .i64 chi]).trans (hk9.get hUg HU7.out)
             generalize (W9.setCell ⟨W8.heap.size, 0, none⟩ (.int .i64 clo)).setCell ⟨W8.heap.size, 1, none⟩ (.int .i64 chi) = WA at HE9 HB9 HU9 ⊢
             clear hB8 z0 z1 zf hz9
             obtain ⟨Bc, hBc⟩ : ∃ B, W8.heap.size = B := ⟨_, rfl⟩
             rw [hBc] at HB9 hUB ⊢
             clear hBc)
          | (change Exit.then _ _ _ _ ((W9.setCell ⟨W7.heap.size, 0, none⟩ (.int .i64 clo)).setCell ⟨W7.heap.size, 1, none⟩ (.int .i64 chi))
             have HE9 := Lib.hid (((HE7.out.step hk9 hm9).new (c := W7.heap.size) (i := 0) (by have := HSl.out; omega) (.int .i64 clo)).new (c := W7.heap.size) (i := 1) (by have := HSl.out; omega) (.int .i64 chi))
             have HB9 : Hid (((W9.setCell ⟨W7.heap.size, 0, none⟩ (.int .i64 clo)).setCell ⟨W7.heap.size, 1, none⟩ (.int .i64 chi)).heap[W7.heap.size]? = some (cvO clo chi)) := putW_all [.int .i64 clo, .int .i64 chi] hz9 rfl
             have hUB : W7.heap.size ≠ U := by omega
             have HU9 : Hid (((W9.setCell ⟨W7.heap.size, 0, none⟩ (.int .i64 clo)).setCell ⟨W7.heap.size, 1, none⟩ (.int .i64 chi)).heap[U]? = some (cvO lo hi)) := (putW_far (m := 0) (Ne.symm hUB) [.int .i64 clo, .int .i64 chi]).trans (hk9.get hUg HU7.out)
             generalize (W9.setCell ⟨W7.heap.size, 0, none⟩ (.int .i64 clo)).setCell ⟨W7.heap.size, 1, none⟩ (.int .i64 chi) = WA at HE9 HB9 HU9 ⊢
             clear z0 z1 zf hz9
             obtain ⟨Bc, hBc⟩ : ∃ B, W7.heap.size = B := ⟨_, rfl⟩
             rw [hBc] at HB9 hUB ⊢
             clear hBc)
      all_goals
        obtain ⟨s0, s1⟩ := to_at HU9.out
        obtain ⟨v0, v1⟩ := to_at HB9.out
        obtain ⟨u0, u1⟩ := to_at HE9.out.res
        have fu := cells_f0 HE9.out.res
        have fs := cells_f0 HU9.out
        cases o6 with
        | none =>
          obtain rfl : (6 : Int) = er := HER.out
          have HT : Hid (r = (none, m6)) := HJ.out.symm.trans (by show [⟨x, y0, x1, y⟩, ⟨x0, y, x, y1⟩, ⟨x, y, x1, y1⟩].foldl (exF d' g) (exF d' g (some (lo, hi), m1) ⟨x0, y0, x, y⟩) = _; rw [exF_no H6.out, exF_nones])
          go_wp2_with fail
          rw [HT.out]
          exact ex_out rfl HE9.out 0 0 6 rfl rfl rfl rfl rfl
        | some e6 =>
          obtain rfl : (0 : Int) = er := HER.out
          obtain rfl : (clo, chi) = e6 := HCC.out.symm
          obtain ⟨hv, hm60, hm61⟩ := examV_in d' _ _ _ _ _ H6.out
          rw [HPP.out] at hv
          obtain ⟨hv0, hv1, hv2⟩ := hv
          have hw1 : IntKind.i64.wrap (lo + clo) = lo + clo := IntWalk.i64_in _ (by omega)
          have hw2 : IntKind.i64.wrap (hi + chi) = hi + chi := IntWalk.i64_in _ (by omega)
          have HT : Hid ([⟨x, y0, x1, y⟩, ⟨x0, y, x, y1⟩, ⟨x, y, x1, y1⟩].foldl (exF d' g) (some (lo + clo, hi + chi), m6) = r) := (show [⟨x, y0, x1, y⟩, ⟨x0, y, x, y1⟩, ⟨x, y, x1, y1⟩].foldl (exF d' g) (some (lo + clo, hi + chi), m6) = [⟨x, y0, x1, y⟩, ⟨x0, y, x, y1⟩, ⟨x, y, x1, y1⟩].foldl (exF d' g) (exF d' g (some (lo, hi), m1) ⟨x0, y0, x, y⟩) by rw [exF_yes H6.out]).trans HJ.out
          have HEA := Lib.hid ((HE9.out.new (c := U) (i := 0) (by have := HSl.out; omega) (.int .i64 (lo + clo))).new (c := U) (i := 1) (by have := HSl.out; omega) (.int .i64 (hi + chi)))
          have HUA : Hid (((WA.setCell ⟨U, 0, none⟩ (.int .i64 (lo + clo))).setCell ⟨U, 1, none⟩ (.int .i64 (hi + chi))).heap[U]? = some (cvO (lo + clo) (hi + chi))) := putW_all [.int .i64 (lo + clo), .int .i64 (hi + chi)] HU9.out rfl
          go_wp2_with fail
          go_round <;> first | exact ⟨0 + 1, lo + clo, hi + chi, m6, _, rfl, by omega, by go_num, by omega, by omega, by omega, by omega, by omega, HT.out, HEA.out, HUA.out⟩ | (simp [intOf] <;> omega)
    ·
      obtain rfl : ji = 1 := by omega
      have hix : ∀ w, (Instr.index 251 (.agg (quarts x0 y0 x1 y1 x y).toArray) (.int .i64 1)).run Tryz.prog w = .ok (bxV ⟨x, y0, x1, y⟩) w := fun w => idx_qua x0 y0 x1 y1 x y 1 (by decide) w
      obtain ⟨⟨o6, m6⟩, h6⟩ : ∃ r6, examV d' (nearE g ⟨x, y0, x1, y⟩) ⟨x, y0, x1, y⟩ m1 = r6 := ⟨_, rfl⟩
      have H6 := Lib.hid h6
      obtain ⟨er, her⟩ : ∃ er : Int, (if o6.isNone = true then 6 else 0) = er := ⟨_, rfl⟩
      obtain ⟨⟨clo, chi⟩, hcc⟩ : ∃ c : Cv, o6.getD (0, 0) = c := ⟨_, rfl⟩
      have HER := Lib.hid her
      have HCC := Lib.hid hcc
      have HOQ : Hid (okB ⟨x, y0, x1, y⟩ = true) := HQO.out 1
      have HSQ : Hid ((x1 - x) % 2 ^ d' = 0 ∧ 0 < x1 - x) := HQX.out 1
      have HTQ : Hid ((y - y0) % 2 ^ d' = 0 ∧ 0 < y - y0) := HQY.out 1
      clear h6 her hcc
      go_upto_region 16 with fail
      have HE7 := Lib.hid (HY.out.below (bel_alloc wy (bxO ⟨x, y0, x1, y⟩)))
      have HU7 := Lib.hid (one_below HUy.out (bel_alloc wy (bxO ⟨x, y0, x1, y⟩)))
      have HB7 : Hid ((wy.alloc (bxO ⟨x, y0, x1, y⟩)).heap[wy.heap.size]? = some (bxO ⟨x, y0, x1, y⟩)) := alloc_new _ _
      have hgl := HE7.out.lt
      have hBl : Hid (gm < wy.heap.size) := lt_of_heap HY.out.mt
      generalize wy.alloc (bxO ⟨x, y0, x1, y⟩) = W7 at HE7 HU7 HB7 ⊢
      obtain ⟨Bq, hBq⟩ : ∃ Bq, wy.heap.size = Bq := ⟨_, rfl⟩
      rw [hBq] at HB7 hBl ⊢
      have hBg : Bq ≠ gm := by have := hBl.out; omega
      have hgg : w.heap.size ≠ gm := by have := HGL.out; omega
      have HC : Hid (∀ Z, Keep (fun k => k ≠ gm) W7 Z → ExS W7 gm w.heap.size p q n c e' Bq x y0 x1 y Z) := fun Z hk => exs_of HE7.out.grp HB7.out hgg hBg hk
      have HKD : Hid (Keep (fun k => k ≠ gm) W7 W7.drew) := Keep.of_below (Below.refl _ _).drew
      have HC0 := Lib.hid (HC.out _ (Keep.refl _ _))
      have HC1 := Lib.hid (HC.out _ HKD.out)
      have HKZ : Hid (Keep (fun k => k ≠ gm) W7 (W7.alloc (cvO 0 0)).drew) := Keep.of_below (bel_alloc _ _).drew
      have HGD : Hid (GrpIn S W7.drew p q g) := H.out.keep (keep_S HSg.out (HE7.out.k.trans HKD.out))
      have HGZ : Hid (GrpIn S (W7.alloc (cvO 0 0)).drew p q g) := H.out.keep (keep_S HSg.out (HE7.out.k.trans HKZ.out))
      have HM7 : Hid (W7.drew.heap[gm]? = some (mtO most (most - m1))) := HE7.out.mt
      have HMZ : Hid ((W7.alloc (cvO 0 0)).drew.heap[gm]? = some (mtO most (most - m1))) := one_below HE7.out.mt (bel_alloc _ _).drew
      have HZ7 : Hid ((W7.alloc (cvO 0 0)).drew.heap[W7.heap.size]? = some (cvO 0 0)) := alloc_new _ _
      have HS8 : Hid (∀ k, (S k ∨ W7.drew.heap.size ≤ k) → (S k ∨ W7.heap.size ≤ k)) := fun k h => h
      have HSZ : Hid (∀ k, (S k ∨ (W7.alloc (cvO 0 0)).drew.heap.size ≤ k) → (S k ∨ W7.heap.size ≤ k)) := fun k h => h.elim .inl (fun h => .inr (Nat.le_trans (bel_alloc W7 (cvO 0 0)).size h))
      have HGS : Hid (¬ (fun k => S k ∨ W7.heap.size ≤ k) gm) := by
        show ¬ (S gm ∨ _)
        intro h
        rcases h with h | h
        · exact HSg.out h
        · have h1 := lt_of_heap HE7.out.mt
          exact absurd h (by omega)
      have hUl := lt_of_heap HU7.out
      have hUg : U ≠ gm := by have := HSl.out; have := HGL.out; omega
      have hWg : W7.heap.size ≠ gm := by have h1 := lt_of_heap HE7.out.mt; omega
      have hwd : IntKind.i64.wrap (d' : Int) = (d' : Int) := IntWalk.i64_in _ (by omega)
      have HIH := Lib.hid (fun (S' : Nat → Prop) (hS' : ¬ S' gm) (p8 q8 : Option Addr) (c8 e8 : Nat) (Z : World) (hg : GrpIn S' Z p8 q8 (nearE g ⟨x, y0, x1, y⟩)) (hz : Z.heap[gm]? = some (mtO most (most - m1))) => IH.out d' (by have := HDN.out; omega) (by omega) S' (nearE g ⟨x, y0, x1, y⟩) (fun e he => HL.out e (List.mem_filter.1 he).1) p8 q8 (nearE g ⟨x, y0, x1, y⟩).length c8 e8 rfl ⟨x, y0, x1, y⟩ HOQ.out HSQ.out HTQ.out gm hS' most m1 (by have := HMM.out; omega) Z (Lib.hid hg) (Lib.hid hz) (o6, m6) H6)
      have hGm7 : gm < W7.heap.size := lt_of_heap HE7.out.mt
      clear hBq hgl
      go_region_held3 (fun Z => ExS W7 gm w.heap.size p q n c e' Bq x y0 x1 y Z) (first | with_reducible exact HC0.out | with_reducible exact HC1.out | with_reducible exact HC.out _ HKZ.out | with_reducible exact HC.out _ (((hk9.set_new hk8.size _).set_new hk8.size _)) | with_reducible exact HC.out _ (((hk9.set_new (Nat.le_refl _) _).set_new (Nat.le_refl _) _)) | with_reducible exact HC.out _ (hk9.trans (Keep.alloc _ _ _)) | with_reducible exact HC.out _ hk9 | with_reducible exact HC.out _ (hk8.trans (Keep.alloc _ _ _)) | with_reducible exact HC.out _ hk8 | assumption | (trace_state; fail)) (first
        | (go_at_call 86; with_reducible refine (near_g S g p q n c e' ⟨x, y0, x1, y⟩ HN.out W7.drew HGD).mono ?_; rintro e W8 ⟨p8, c8, q8, e8, rfl, hg8, hb8⟩; have hk8 := HKD.out.trans (Keep.of_below hb8); have hm8 := one_below HM7.out hb8; have hg8' := hg8.mono (fun k _ h => HS8.out k h); clear hg8)
        | (go_at_call 86; with_reducible refine (near_g S g p q n c e' ⟨x, y0, x1, y⟩ HN.out (W7.alloc (cvO 0 0)).drew HGZ).mono ?_; rintro e W8 ⟨p8, c8, q8, e8, rfl, hg8, hb8⟩; have hk8 := HKZ.out.trans (Keep.of_below hb8); have hm8 := one_below HMZ.out hb8; have hg8' := hg8.mono (fun k _ h => HSZ.out k h); have hz8 := one_below HZ7.out hb8; clear hg8)
        | (go_at_call 87; with_reducible refine (HIH.out (fun k => S k ∨ W7.heap.size ≤ k) HGS.out p8 q8 c8 e8 W8 hg8' hm8).mono ?_; intro e W9 h9; obtain ⟨he9, hm9, hk9'⟩ := ExOut.get h9 HCC.out HER.out; subst he9; have hk9 := hk8.trans hk9'; try (have hz9 := hk9'.get hWg hz8; obtain ⟨z0, z1⟩ := to_at hz9; have zf := cells_f0 hz9))
        | (go_at_call 87; with_reducible refine (HIH.out (fun k => S k ∨ W7.heap.size ≤ k) HGS.out p8 q8 c8 e8 (W8.alloc (cvO 0 0)) (hg8'.below (bel_alloc _ _)) (one_below hm8 (bel_alloc _ _))).mono ?_; intro e W9 h9; obtain ⟨he9, hm9, hk9'⟩ := ExOut.get h9 HCC.out HER.out; subst he9; have hk9 := (hk8.trans (Keep.alloc _ _ _)).trans hk9'; have hz9 := hk9'.get (ne_of_size hk8.size hGm7) (alloc_new W8 (cvO 0 0)); obtain ⟨z0, z1⟩ := to_at hz9; have zf := cells_f0 hz9))
      all_goals
        first
          | (change Exit.then _ _ _ _ (W9.alloc (cvO clo chi))
             have HE9 := Lib.hid ((HE7.out.step hk9 hm9).below (bel_alloc W9 (cvO clo chi)))
             have HB9 : Hid ((W9.alloc (cvO clo chi)).heap[W9.heap.size]? = some (cvO clo chi)) := alloc_new _ _
             have HU9 : Hid ((W9.alloc (cvO clo chi)).heap[U]? = some (cvO lo hi)) := (hk9.trans (Keep.alloc _ _ _)).get hUg HU7.out
             have hUB : W9.heap.size ≠ U := by have := hk9.size; omega
             generalize W9.alloc (cvO clo chi) = WA at HE9 HB9 HU9 ⊢
             obtain ⟨Bc, hBc⟩ : ∃ B, W9.heap.size = B := ⟨_, rfl⟩
             rw [hBc] at HB9 hUB ⊢
             clear hBc)
          | (change Exit.then _ _ _ _ ((W9.setCell ⟨W8.heap.size, 0, none⟩ (.int .i64 clo)).setCell ⟨W8.heap.size, 1, none⟩ (.int .i64 chi))
             have hB8 := hk8.size
             have HE9 := Lib.hid (((HE7.out.step hk9 hm9).new (c := W8.heap.size) (i := 0) (by have := HSl.out; omega) (.int .i64 clo)).new (c := W8.heap.size) (i := 1) (by have := HSl.out; omega) (.int .i64 chi))
             have HB9 : Hid (((W9.setCell ⟨W8.heap.size, 0, none⟩ (.int .i64 clo)).setCell ⟨W8.heap.size, 1, none⟩ (.int .i64 chi)).heap[W8.heap.size]? = some (cvO clo chi)) := putW_all [.int .i64 clo, .int .i64 chi] hz9 rfl
             have hUB : W8.heap.size ≠ U := by omega
             have HU9 : Hid (((W9.setCell ⟨W8.heap.size, 0, none⟩ (.int .i64 clo)).setCell ⟨W8.heap.size, 1, none⟩ (.int .i64 chi)).heap[U]? = some (cvO lo hi)) := (putW_far (m := 0) (Ne.symm hUB) [.int .i64 clo, .int .i64 chi]).trans (hk9.get hUg HU7.out)
             generalize (W9.setCell ⟨W8.heap.size, 0, none⟩ (.int .i64 clo)).setCell ⟨W8.heap.size, 1, none⟩ (.int .i64 chi) = WA at HE9 HB9 HU9 ⊢
             clear hB8 z0 z1 zf hz9
             obtain ⟨Bc, hBc⟩ : ∃ B, W8.heap.size = B := ⟨_, rfl⟩
             rw [hBc] at HB9 hUB ⊢
             clear hBc)
          | (change Exit.then _ _ _ _ ((W9.setCell ⟨W7.heap.size, 0, none⟩ (.int .i64 clo)).setCell ⟨W7.heap.size, 1, none⟩ (.int .i64 chi))
             have HE9 := Lib.hid (((HE7.out.step hk9 hm9).new (c := W7.heap.size) (i := 0) (by have := HSl.out; omega) (.int .i64 clo)).new (c := W7.heap.size) (i := 1) (by have := HSl.out; omega) (.int .i64 chi))
             have HB9 : Hid (((W9.setCell ⟨W7.heap.size, 0, none⟩ (.int .i64 clo)).setCell ⟨W7.heap.size, 1, none⟩ (.int .i64 chi)).heap[W7.heap.size]? = some (cvO clo chi)) := putW_all [.int .i64 clo, .int .i64 chi] hz9 rfl
             have hUB : W7.heap.size ≠ U := by omega
             have HU9 : Hid (((W9.setCell ⟨W7.heap.size, 0, none⟩ (.int .i64 clo)).setCell ⟨W7.heap.size, 1, none⟩ (.int .i64 chi)).heap[U]? = some (cvO lo hi)) := (putW_far (m := 0) (Ne.symm hUB) [.int .i64 clo, .int .i64 chi]).trans (hk9.get hUg HU7.out)
             generalize (W9.setCell ⟨W7.heap.size, 0, none⟩ (.int .i64 clo)).setCell ⟨W7.heap.size, 1, none⟩ (.int .i64 chi) = WA at HE9 HB9 HU9 ⊢
             clear z0 z1 zf hz9
             obtain ⟨Bc, hBc⟩ : ∃ B, W7.heap.size = B := ⟨_, rfl⟩
             rw [hBc] at HB9 hUB ⊢
             clear hBc)
      all_goals
        obtain ⟨s0, s1⟩ := to_at HU9.out
        obtain ⟨v0, v1⟩ := to_at HB9.out
        obtain ⟨u0, u1⟩ := to_at HE9.out.res
        have fu := cells_f0 HE9.out.res
        have fs := cells_f0 HU9.out
        cases o6 with
        | none =>
          obtain rfl : (6 : Int) = er := HER.out
          have HT : Hid (r = (none, m6)) := HJ.out.symm.trans (by show [⟨x0, y, x, y1⟩, ⟨x, y, x1, y1⟩].foldl (exF d' g) (exF d' g (some (lo, hi), m1) ⟨x, y0, x1, y⟩) = _; rw [exF_no H6.out, exF_nones])
          go_wp2_with fail
          rw [HT.out]
          exact ex_out rfl HE9.out 0 0 6 rfl rfl rfl rfl rfl
        | some e6 =>
          obtain rfl : (0 : Int) = er := HER.out
          obtain rfl : (clo, chi) = e6 := HCC.out.symm
          obtain ⟨hv, hm60, hm61⟩ := examV_in d' _ _ _ _ _ H6.out
          rw [HPP.out] at hv
          obtain ⟨hv0, hv1, hv2⟩ := hv
          have hw1 : IntKind.i64.wrap (lo + clo) = lo + clo := IntWalk.i64_in _ (by omega)
          have hw2 : IntKind.i64.wrap (hi + chi) = hi + chi := IntWalk.i64_in _ (by omega)
          have HT : Hid ([⟨x0, y, x, y1⟩, ⟨x, y, x1, y1⟩].foldl (exF d' g) (some (lo + clo, hi + chi), m6) = r) := (show [⟨x0, y, x, y1⟩, ⟨x, y, x1, y1⟩].foldl (exF d' g) (some (lo + clo, hi + chi), m6) = [⟨x0, y, x, y1⟩, ⟨x, y, x1, y1⟩].foldl (exF d' g) (exF d' g (some (lo, hi), m1) ⟨x, y0, x1, y⟩) by rw [exF_yes H6.out]).trans HJ.out
          have HEA := Lib.hid ((HE9.out.new (c := U) (i := 0) (by have := HSl.out; omega) (.int .i64 (lo + clo))).new (c := U) (i := 1) (by have := HSl.out; omega) (.int .i64 (hi + chi)))
          have HUA : Hid (((WA.setCell ⟨U, 0, none⟩ (.int .i64 (lo + clo))).setCell ⟨U, 1, none⟩ (.int .i64 (hi + chi))).heap[U]? = some (cvO (lo + clo) (hi + chi))) := putW_all [.int .i64 (lo + clo), .int .i64 (hi + chi)] HU9.out rfl
          go_wp2_with fail
          go_round <;> first | exact ⟨1 + 1, lo + clo, hi + chi, m6, _, rfl, by omega, by go_num, by omega, by omega, by omega, by omega, by omega, HT.out, HEA.out, HUA.out⟩ | (simp [intOf] <;> omega)
    ·
      obtain rfl : ji = 2 := by omega
      have hix : ∀ w, (Instr.index 251 (.agg (quarts x0 y0 x1 y1 x y).toArray) (.int .i64 2)).run Tryz.prog w = .ok (bxV ⟨x0, y, x, y1⟩) w := fun w => idx_qua x0 y0 x1 y1 x y 2 (by decide) w
      obtain ⟨⟨o6, m6⟩, h6⟩ : ∃ r6, examV d' (nearE g ⟨x0, y, x, y1⟩) ⟨x0, y, x, y1⟩ m1 = r6 := ⟨_, rfl⟩
      have H6 := Lib.hid h6
      obtain ⟨er, her⟩ : ∃ er : Int, (if o6.isNone = true then 6 else 0) = er := ⟨_, rfl⟩
      obtain ⟨⟨clo, chi⟩, hcc⟩ : ∃ c : Cv, o6.getD (0, 0) = c := ⟨_, rfl⟩
      have HER := Lib.hid her
      have HCC := Lib.hid hcc
      have HOQ : Hid (okB ⟨x0, y, x, y1⟩ = true) := HQO.out 2
      have HSQ : Hid ((x - x0) % 2 ^ d' = 0 ∧ 0 < x - x0) := HQX.out 2
      have HTQ : Hid ((y1 - y) % 2 ^ d' = 0 ∧ 0 < y1 - y) := HQY.out 2
      clear h6 her hcc
      go_upto_region 16 with fail
      have HE7 := Lib.hid (HY.out.below (bel_alloc wy (bxO ⟨x0, y, x, y1⟩)))
      have HU7 := Lib.hid (one_below HUy.out (bel_alloc wy (bxO ⟨x0, y, x, y1⟩)))
      have HB7 : Hid ((wy.alloc (bxO ⟨x0, y, x, y1⟩)).heap[wy.heap.size]? = some (bxO ⟨x0, y, x, y1⟩)) := alloc_new _ _
      have hgl := HE7.out.lt
      have hBl : Hid (gm < wy.heap.size) := lt_of_heap HY.out.mt
      generalize wy.alloc (bxO ⟨x0, y, x, y1⟩) = W7 at HE7 HU7 HB7 ⊢
      obtain ⟨Bq, hBq⟩ : ∃ Bq, wy.heap.size = Bq := ⟨_, rfl⟩
      rw [hBq] at HB7 hBl ⊢
      have hBg : Bq ≠ gm := by have := hBl.out; omega
      have hgg : w.heap.size ≠ gm := by have := HGL.out; omega
      have HC : Hid (∀ Z, Keep (fun k => k ≠ gm) W7 Z → ExS W7 gm w.heap.size p q n c e' Bq x0 y x y1 Z) := fun Z hk => exs_of HE7.out.grp HB7.out hgg hBg hk
      have HKD : Hid (Keep (fun k => k ≠ gm) W7 W7.drew) := Keep.of_below (Below.refl _ _).drew
      have HC0 := Lib.hid (HC.out _ (Keep.refl _ _))
      have HC1 := Lib.hid (HC.out _ HKD.out)
      have HKZ : Hid (Keep (fun k => k ≠ gm) W7 (W7.alloc (cvO 0 0)).drew) := Keep.of_below (bel_alloc _ _).drew
      have HGD : Hid (GrpIn S W7.drew p q g) := H.out.keep (keep_S HSg.out (HE7.out.k.trans HKD.out))
      have HGZ : Hid (GrpIn S (W7.alloc (cvO 0 0)).drew p q g) := H.out.keep (keep_S HSg.out (HE7.out.k.trans HKZ.out))
      have HM7 : Hid (W7.drew.heap[gm]? = some (mtO most (most - m1))) := HE7.out.mt
      have HMZ : Hid ((W7.alloc (cvO 0 0)).drew.heap[gm]? = some (mtO most (most - m1))) := one_below HE7.out.mt (bel_alloc _ _).drew
      have HZ7 : Hid ((W7.alloc (cvO 0 0)).drew.heap[W7.heap.size]? = some (cvO 0 0)) := alloc_new _ _
      have HS8 : Hid (∀ k, (S k ∨ W7.drew.heap.size ≤ k) → (S k ∨ W7.heap.size ≤ k)) := fun k h => h
      have HSZ : Hid (∀ k, (S k ∨ (W7.alloc (cvO 0 0)).drew.heap.size ≤ k) → (S k ∨ W7.heap.size ≤ k)) := fun k h => h.elim .inl (fun h => .inr (Nat.le_trans (bel_alloc W7 (cvO 0 0)).size h))
      have HGS : Hid (¬ (fun k => S k ∨ W7.heap.size ≤ k) gm) := by
        show ¬ (S gm ∨ _)
        intro h
        rcases h with h | h
        · exact HSg.out h
        · have h1 := lt_of_heap HE7.out.mt
          exact absurd h (by omega)
      have hUl := lt_of_heap HU7.out
      have hUg : U ≠ gm := by have := HSl.out; have := HGL.out; omega
      have hWg : W7.heap.size ≠ gm := by have h1 := lt_of_heap HE7.out.mt; omega
      have hwd : IntKind.i64.wrap (d' : Int) = (d' : Int) := IntWalk.i64_in _ (by omega)
      have HIH := Lib.hid (fun (S' : Nat → Prop) (hS' : ¬ S' gm) (p8 q8 : Option Addr) (c8 e8 : Nat) (Z : World) (hg : GrpIn S' Z p8 q8 (nearE g ⟨x0, y, x, y1⟩)) (hz : Z.heap[gm]? = some (mtO most (most - m1))) => IH.out d' (by have := HDN.out; omega) (by omega) S' (nearE g ⟨x0, y, x, y1⟩) (fun e he => HL.out e (List.mem_filter.1 he).1) p8 q8 (nearE g ⟨x0, y, x, y1⟩).length c8 e8 rfl ⟨x0, y, x, y1⟩ HOQ.out HSQ.out HTQ.out gm hS' most m1 (by have := HMM.out; omega) Z (Lib.hid hg) (Lib.hid hz) (o6, m6) H6)
      have hGm7 : gm < W7.heap.size := lt_of_heap HE7.out.mt
      clear hBq hgl
      go_region_held3 (fun Z => ExS W7 gm w.heap.size p q n c e' Bq x0 y x y1 Z) (first | with_reducible exact HC0.out | with_reducible exact HC1.out | with_reducible exact HC.out _ HKZ.out | with_reducible exact HC.out _ (((hk9.set_new hk8.size _).set_new hk8.size _)) | with_reducible exact HC.out _ (((hk9.set_new (Nat.le_refl _) _).set_new (Nat.le_refl _) _)) | with_reducible exact HC.out _ (hk9.trans (Keep.alloc _ _ _)) | with_reducible exact HC.out _ hk9 | with_reducible exact HC.out _ (hk8.trans (Keep.alloc _ _ _)) | with_reducible exact HC.out _ hk8 | assumption | (trace_state; fail)) (first
        | (go_at_call 86; with_reducible refine (near_g S g p q n c e' ⟨x0, y, x, y1⟩ HN.out W7.drew HGD).mono ?_; rintro e W8 ⟨p8, c8, q8, e8, rfl, hg8, hb8⟩; have hk8 := HKD.out.trans (Keep.of_below hb8); have hm8 := one_below HM7.out hb8; have hg8' := hg8.mono (fun k _ h => HS8.out k h); clear hg8)
        | (go_at_call 86; with_reducible refine (near_g S g p q n c e' ⟨x0, y, x, y1⟩ HN.out (W7.alloc (cvO 0 0)).drew HGZ).mono ?_; rintro e W8 ⟨p8, c8, q8, e8, rfl, hg8, hb8⟩; have hk8 := HKZ.out.trans (Keep.of_below hb8); have hm8 := one_below HMZ.out hb8; have hg8' := hg8.mono (fun k _ h => HSZ.out k h); have hz8 := one_below HZ7.out hb8; clear hg8)
        | (go_at_call 87; with_reducible refine (HIH.out (fun k => S k ∨ W7.heap.size ≤ k) HGS.out p8 q8 c8 e8 W8 hg8' hm8).mono ?_; intro e W9 h9; obtain ⟨he9, hm9, hk9'⟩ := ExOut.get h9 HCC.out HER.out; subst he9; have hk9 := hk8.trans hk9'; try (have hz9 := hk9'.get hWg hz8; obtain ⟨z0, z1⟩ := to_at hz9; have zf := cells_f0 hz9))
        | (go_at_call 87; with_reducible refine (HIH.out (fun k => S k ∨ W7.heap.size ≤ k) HGS.out p8 q8 c8 e8 (W8.alloc (cvO 0 0)) (hg8'.below (bel_alloc _ _)) (one_below hm8 (bel_alloc _ _))).mono ?_; intro e W9 h9; obtain ⟨he9, hm9, hk9'⟩ := ExOut.get h9 HCC.out HER.out; subst he9; have hk9 := (hk8.trans (Keep.alloc _ _ _)).trans hk9'; have hz9 := hk9'.get (ne_of_size hk8.size hGm7) (alloc_new W8 (cvO 0 0)); obtain ⟨z0, z1⟩ := to_at hz9; have zf := cells_f0 hz9))
      all_goals
        first
          | (change Exit.then _ _ _ _ (W9.alloc (cvO clo chi))
             have HE9 := Lib.hid ((HE7.out.step hk9 hm9).below (bel_alloc W9 (cvO clo chi)))
             have HB9 : Hid ((W9.alloc (cvO clo chi)).heap[W9.heap.size]? = some (cvO clo chi)) := alloc_new _ _
             have HU9 : Hid ((W9.alloc (cvO clo chi)).heap[U]? = some (cvO lo hi)) := (hk9.trans (Keep.alloc _ _ _)).get hUg HU7.out
             have hUB : W9.heap.size ≠ U := by have := hk9.size; omega
             generalize W9.alloc (cvO clo chi) = WA at HE9 HB9 HU9 ⊢
             obtain ⟨Bc, hBc⟩ : ∃ B, W9.heap.size = B := ⟨_, rfl⟩
             rw [hBc] at HB9 hUB ⊢
             clear hBc)
          | (change Exit.then _ _ _ _ ((W9.setCell ⟨W8.heap.size, 0, none⟩ (.int .i64 clo)).setCell ⟨W8.heap.size, 1, none⟩ (.int .i64 chi))
             have hB8 := hk8.size
             have HE9 := Lib.hid (((HE7.out.step hk9 hm9).new (c := W8.heap.size) (i := 0) (by have := HSl.out; omega) (.int .i64 clo)).new (c := W8.heap.size) (i := 1) (by have := HSl.out; omega) (.int .i64 chi))
             have HB9 : Hid (((W9.setCell ⟨W8.heap.size, 0, none⟩ (.int .i64 clo)).setCell ⟨W8.heap.size, 1, none⟩ (.int .i64 chi)).heap[W8.heap.size]? = some (cvO clo chi)) := putW_all [.int .i64 clo, .int .i64 chi] hz9 rfl
             have hUB : W8.heap.size ≠ U := by omega
             have HU9 : Hid (((W9.setCell ⟨W8.heap.size, 0, none⟩ (.int .i64 clo)).setCell ⟨W8.heap.size, 1, none⟩ (.int .i64 chi)).heap[U]? = some (cvO lo hi)) := (putW_far (m := 0) (Ne.symm hUB) [.int .i64 clo, .int .i64 chi]).trans (hk9.get hUg HU7.out)
             generalize (W9.setCell ⟨W8.heap.size, 0, none⟩ (.int .i64 clo)).setCell ⟨W8.heap.size, 1, none⟩ (.int .i64 chi) = WA at HE9 HB9 HU9 ⊢
             clear hB8 z0 z1 zf hz9
             obtain ⟨Bc, hBc⟩ : ∃ B, W8.heap.size = B := ⟨_, rfl⟩
             rw [hBc] at HB9 hUB ⊢
             clear hBc)
          | (change Exit.then _ _ _ _ ((W9.setCell ⟨W7.heap.size, 0, none⟩ (.int .i64 clo)).setCell ⟨W7.heap.size, 1, none⟩ (.int .i64 chi))
             have HE9 := Lib.hid (((HE7.out.step hk9 hm9).new (c := W7.heap.size) (i := 0) (by have := HSl.out; omega) (.int .i64 clo)).new (c := W7.heap.size) (i := 1) (by have := HSl.out; omega) (.int .i64 chi))
             have HB9 : Hid (((W9.setCell ⟨W7.heap.size, 0, none⟩ (.int .i64 clo)).setCell ⟨W7.heap.size, 1, none⟩ (.int .i64 chi)).heap[W7.heap.size]? = some (cvO clo chi)) := putW_all [.int .i64 clo, .int .i64 chi] hz9 rfl
             have hUB : W7.heap.size ≠ U := by omega
             have HU9 : Hid (((W9.setCell ⟨W7.heap.size, 0, none⟩ (.int .i64 clo)).setCell ⟨W7.heap.size, 1, none⟩ (.int .i64 chi)).heap[U]? = some (cvO lo hi)) := (putW_far (m := 0) (Ne.symm hUB) [.int .i64 clo, .int .i64 chi]).trans (hk9.get hUg HU7.out)
             generalize (W9.setCell ⟨W7.heap.size, 0, none⟩ (.int .i64 clo)).setCell ⟨W7.heap.size, 1, none⟩ (.int .i64 chi) = WA at HE9 HB9 HU9 ⊢
             clear z0 z1 zf hz9
             obtain ⟨Bc, hBc⟩ : ∃ B, W7.heap.size = B := ⟨_, rfl⟩
             rw [hBc] at HB9 hUB ⊢
             clear hBc)
      all_goals
        obtain ⟨s0, s1⟩ := to_at HU9.out
        obtain ⟨v0, v1⟩ := to_at HB9.out
        obtain ⟨u0, u1⟩ := to_at HE9.out.res
        have fu := cells_f0 HE9.out.res
        have fs := cells_f0 HU9.out
        cases o6 with
        | none =>
          obtain rfl : (6 : Int) = er := HER.out
          have HT : Hid (r = (none, m6)) := HJ.out.symm.trans (by show [⟨x, y, x1, y1⟩].foldl (exF d' g) (exF d' g (some (lo, hi), m1) ⟨x0, y, x, y1⟩) = _; rw [exF_no H6.out, exF_nones])
          go_wp2_with fail
          rw [HT.out]
          exact ex_out rfl HE9.out 0 0 6 rfl rfl rfl rfl rfl
        | some e6 =>
          obtain rfl : (0 : Int) = er := HER.out
          obtain rfl : (clo, chi) = e6 := HCC.out.symm
          obtain ⟨hv, hm60, hm61⟩ := examV_in d' _ _ _ _ _ H6.out
          rw [HPP.out] at hv
          obtain ⟨hv0, hv1, hv2⟩ := hv
          have hw1 : IntKind.i64.wrap (lo + clo) = lo + clo := IntWalk.i64_in _ (by omega)
          have hw2 : IntKind.i64.wrap (hi + chi) = hi + chi := IntWalk.i64_in _ (by omega)
          have HT : Hid ([⟨x, y, x1, y1⟩].foldl (exF d' g) (some (lo + clo, hi + chi), m6) = r) := (show [⟨x, y, x1, y1⟩].foldl (exF d' g) (some (lo + clo, hi + chi), m6) = [⟨x, y, x1, y1⟩].foldl (exF d' g) (exF d' g (some (lo, hi), m1) ⟨x0, y, x, y1⟩) by rw [exF_yes H6.out]).trans HJ.out
          have HEA := Lib.hid ((HE9.out.new (c := U) (i := 0) (by have := HSl.out; omega) (.int .i64 (lo + clo))).new (c := U) (i := 1) (by have := HSl.out; omega) (.int .i64 (hi + chi)))
          have HUA : Hid (((WA.setCell ⟨U, 0, none⟩ (.int .i64 (lo + clo))).setCell ⟨U, 1, none⟩ (.int .i64 (hi + chi))).heap[U]? = some (cvO (lo + clo) (hi + chi))) := putW_all [.int .i64 (lo + clo), .int .i64 (hi + chi)] HU9.out rfl
          go_wp2_with fail
          go_round <;> first | exact ⟨2 + 1, lo + clo, hi + chi, m6, _, rfl, by omega, by go_num, by omega, by omega, by omega, by omega, by omega, HT.out, HEA.out, HUA.out⟩ | (simp [intOf] <;> omega)
    ·
      obtain rfl : ji = 3 := by omega
      have hix : ∀ w, (Instr.index 251 (.agg (quarts x0 y0 x1 y1 x y).toArray) (.int .i64 3)).run Tryz.prog w = .ok (bxV ⟨x, y, x1, y1⟩) w := fun w => idx_qua x0 y0 x1 y1 x y 3 (by decide) w
      obtain ⟨⟨o6, m6⟩, h6⟩ : ∃ r6, examV d' (nearE g ⟨x, y, x1, y1⟩) ⟨x, y, x1, y1⟩ m1 = r6 := ⟨_, rfl⟩
      have H6 := Lib.hid h6
      obtain ⟨er, her⟩ : ∃ er : Int, (if o6.isNone = true then 6 else 0) = er := ⟨_, rfl⟩
      obtain ⟨⟨clo, chi⟩, hcc⟩ : ∃ c : Cv, o6.getD (0, 0) = c := ⟨_, rfl⟩
      have HER := Lib.hid her
      have HCC := Lib.hid hcc
      have HOQ : Hid (okB ⟨x, y, x1, y1⟩ = true) := HQO.out 3
      have HSQ : Hid ((x1 - x) % 2 ^ d' = 0 ∧ 0 < x1 - x) := HQX.out 3
      have HTQ : Hid ((y1 - y) % 2 ^ d' = 0 ∧ 0 < y1 - y) := HQY.out 3
      clear h6 her hcc
      go_upto_region 16 with fail
      have HE7 := Lib.hid (HY.out.below (bel_alloc wy (bxO ⟨x, y, x1, y1⟩)))
      have HU7 := Lib.hid (one_below HUy.out (bel_alloc wy (bxO ⟨x, y, x1, y1⟩)))
      have HB7 : Hid ((wy.alloc (bxO ⟨x, y, x1, y1⟩)).heap[wy.heap.size]? = some (bxO ⟨x, y, x1, y1⟩)) := alloc_new _ _
      have hgl := HE7.out.lt
      have hBl : Hid (gm < wy.heap.size) := lt_of_heap HY.out.mt
      generalize wy.alloc (bxO ⟨x, y, x1, y1⟩) = W7 at HE7 HU7 HB7 ⊢
      obtain ⟨Bq, hBq⟩ : ∃ Bq, wy.heap.size = Bq := ⟨_, rfl⟩
      rw [hBq] at HB7 hBl ⊢
      have hBg : Bq ≠ gm := by have := hBl.out; omega
      have hgg : w.heap.size ≠ gm := by have := HGL.out; omega
      have HC : Hid (∀ Z, Keep (fun k => k ≠ gm) W7 Z → ExS W7 gm w.heap.size p q n c e' Bq x y x1 y1 Z) := fun Z hk => exs_of HE7.out.grp HB7.out hgg hBg hk
      have HKD : Hid (Keep (fun k => k ≠ gm) W7 W7.drew) := Keep.of_below (Below.refl _ _).drew
      have HC0 := Lib.hid (HC.out _ (Keep.refl _ _))
      have HC1 := Lib.hid (HC.out _ HKD.out)
      have HKZ : Hid (Keep (fun k => k ≠ gm) W7 (W7.alloc (cvO 0 0)).drew) := Keep.of_below (bel_alloc _ _).drew
      have HGD : Hid (GrpIn S W7.drew p q g) := H.out.keep (keep_S HSg.out (HE7.out.k.trans HKD.out))
      have HGZ : Hid (GrpIn S (W7.alloc (cvO 0 0)).drew p q g) := H.out.keep (keep_S HSg.out (HE7.out.k.trans HKZ.out))
      have HM7 : Hid (W7.drew.heap[gm]? = some (mtO most (most - m1))) := HE7.out.mt
      have HMZ : Hid ((W7.alloc (cvO 0 0)).drew.heap[gm]? = some (mtO most (most - m1))) := one_below HE7.out.mt (bel_alloc _ _).drew
      have HZ7 : Hid ((W7.alloc (cvO 0 0)).drew.heap[W7.heap.size]? = some (cvO 0 0)) := alloc_new _ _
      have HS8 : Hid (∀ k, (S k ∨ W7.drew.heap.size ≤ k) → (S k ∨ W7.heap.size ≤ k)) := fun k h => h
      have HSZ : Hid (∀ k, (S k ∨ (W7.alloc (cvO 0 0)).drew.heap.size ≤ k) → (S k ∨ W7.heap.size ≤ k)) := fun k h => h.elim .inl (fun h => .inr (Nat.le_trans (bel_alloc W7 (cvO 0 0)).size h))
      have HGS : Hid (¬ (fun k => S k ∨ W7.heap.size ≤ k) gm) := by
        show ¬ (S gm ∨ _)
        intro h
        rcases h with h | h
        · exact HSg.out h
        · have h1 := lt_of_heap HE7.out.mt
          exact absurd h (by omega)
      have hUl := lt_of_heap HU7.out
      have hUg : U ≠ gm := by have := HSl.out; have := HGL.out; omega
      have hWg : W7.heap.size ≠ gm := by have h1 := lt_of_heap HE7.out.mt; omega
      have hwd : IntKind.i64.wrap (d' : Int) = (d' : Int) := IntWalk.i64_in _ (by omega)
      have HIH := Lib.hid (fun (S' : Nat → Prop) (hS' : ¬ S' gm) (p8 q8 : Option Addr) (c8 e8 : Nat) (Z : World) (hg : GrpIn S' Z p8 q8 (nearE g ⟨x, y, x1, y1⟩)) (hz : Z.heap[gm]? = some (mtO most (most - m1))) => IH.out d' (by have := HDN.out; omega) (by omega) S' (nearE g ⟨x, y, x1, y1⟩) (fun e he => HL.out e (List.mem_filter.1 he).1) p8 q8 (nearE g ⟨x, y, x1, y1⟩).length c8 e8 rfl ⟨x, y, x1, y1⟩ HOQ.out HSQ.out HTQ.out gm hS' most m1 (by have := HMM.out; omega) Z (Lib.hid hg) (Lib.hid hz) (o6, m6) H6)
      have hGm7 : gm < W7.heap.size := lt_of_heap HE7.out.mt
      clear hBq hgl
      go_region_held3 (fun Z => ExS W7 gm w.heap.size p q n c e' Bq x y x1 y1 Z) (first | with_reducible exact HC0.out | with_reducible exact HC1.out | with_reducible exact HC.out _ HKZ.out | with_reducible exact HC.out _ (((hk9.set_new hk8.size _).set_new hk8.size _)) | with_reducible exact HC.out _ (((hk9.set_new (Nat.le_refl _) _).set_new (Nat.le_refl _) _)) | with_reducible exact HC.out _ (hk9.trans (Keep.alloc _ _ _)) | with_reducible exact HC.out _ hk9 | with_reducible exact HC.out _ (hk8.trans (Keep.alloc _ _ _)) | with_reducible exact HC.out _ hk8 | assumption | (trace_state; fail)) (first
        | (go_at_call 86; with_reducible refine (near_g S g p q n c e' ⟨x, y, x1, y1⟩ HN.out W7.drew HGD).mono ?_; rintro e W8 ⟨p8, c8, q8, e8, rfl, hg8, hb8⟩; have hk8 := HKD.out.trans (Keep.of_below hb8); have hm8 := one_below HM7.out hb8; have hg8' := hg8.mono (fun k _ h => HS8.out k h); clear hg8)
        | (go_at_call 86; with_reducible refine (near_g S g p q n c e' ⟨x, y, x1, y1⟩ HN.out (W7.alloc (cvO 0 0)).drew HGZ).mono ?_; rintro e W8 ⟨p8, c8, q8, e8, rfl, hg8, hb8⟩; have hk8 := HKZ.out.trans (Keep.of_below hb8); have hm8 := one_below HMZ.out hb8; have hg8' := hg8.mono (fun k _ h => HSZ.out k h); have hz8 := one_below HZ7.out hb8; clear hg8)
        | (go_at_call 87; with_reducible refine (HIH.out (fun k => S k ∨ W7.heap.size ≤ k) HGS.out p8 q8 c8 e8 W8 hg8' hm8).mono ?_; intro e W9 h9; obtain ⟨he9, hm9, hk9'⟩ := ExOut.get h9 HCC.out HER.out; subst he9; have hk9 := hk8.trans hk9'; try (have hz9 := hk9'.get hWg hz8; obtain ⟨z0, z1⟩ := to_at hz9; have zf := cells_f0 hz9))
        | (go_at_call 87; with_reducible refine (HIH.out (fun k => S k ∨ W7.heap.size ≤ k) HGS.out p8 q8 c8 e8 (W8.alloc (cvO 0 0)) (hg8'.below (bel_alloc _ _)) (one_below hm8 (bel_alloc _ _))).mono ?_; intro e W9 h9; obtain ⟨he9, hm9, hk9'⟩ := ExOut.get h9 HCC.out HER.out; subst he9; have hk9 := (hk8.trans (Keep.alloc _ _ _)).trans hk9'; have hz9 := hk9'.get (ne_of_size hk8.size hGm7) (alloc_new W8 (cvO 0 0)); obtain ⟨z0, z1⟩ := to_at hz9; have zf := cells_f0 hz9))
      all_goals
        first
          | (change Exit.then _ _ _ _ (W9.alloc (cvO clo chi))
             have HE9 := Lib.hid ((HE7.out.step hk9 hm9).below (bel_alloc W9 (cvO clo chi)))
             have HB9 : Hid ((W9.alloc (cvO clo chi)).heap[W9.heap.size]? = some (cvO clo chi)) := alloc_new _ _
             have HU9 : Hid ((W9.alloc (cvO clo chi)).heap[U]? = some (cvO lo hi)) := (hk9.trans (Keep.alloc _ _ _)).get hUg HU7.out
             have hUB : W9.heap.size ≠ U := by have := hk9.size; omega
             generalize W9.alloc (cvO clo chi) = WA at HE9 HB9 HU9 ⊢
             obtain ⟨Bc, hBc⟩ : ∃ B, W9.heap.size = B := ⟨_, rfl⟩
             rw [hBc] at HB9 hUB ⊢
             clear hBc)
          | (change Exit.then _ _ _ _ ((W9.setCell ⟨W8.heap.size, 0, none⟩ (.int .i64 clo)).setCell ⟨W8.heap.size, 1, none⟩ (.int .i64 chi))
             have hB8 := hk8.size
             have HE9 := Lib.hid (((HE7.out.step hk9 hm9).new (c := W8.heap.size) (i := 0) (by have := HSl.out; omega) (.int .i64 clo)).new (c := W8.heap.size) (i := 1) (by have := HSl.out; omega) (.int .i64 chi))
             have HB9 : Hid (((W9.setCell ⟨W8.heap.size, 0, none⟩ (.int .i64 clo)).setCell ⟨W8.heap.size, 1, none⟩ (.int .i64 chi)).heap[W8.heap.size]? = some (cvO clo chi)) := putW_all [.int .i64 clo, .int .i64 chi] hz9 rfl
             have hUB : W8.heap.size ≠ U := by omega
             have HU9 : Hid (((W9.setCell ⟨W8.heap.size, 0, none⟩ (.int .i64 clo)).setCell ⟨W8.heap.size, 1, none⟩ (.int .i64 chi)).heap[U]? = some (cvO lo hi)) := (putW_far (m := 0) (Ne.symm hUB) [.int .i64 clo, .int .i64 chi]).trans (hk9.get hUg HU7.out)
             generalize (W9.setCell ⟨W8.heap.size, 0, none⟩ (.int .i64 clo)).setCell ⟨W8.heap.size, 1, none⟩ (.int .i64 chi) = WA at HE9 HB9 HU9 ⊢
             clear hB8 z0 z1 zf hz9
             obtain ⟨Bc, hBc⟩ : ∃ B, W8.heap.size = B := ⟨_, rfl⟩
             rw [hBc] at HB9 hUB ⊢
             clear hBc)
          | (change Exit.then _ _ _ _ ((W9.setCell ⟨W7.heap.size, 0, none⟩ (.int .i64 clo)).setCell ⟨W7.heap.size, 1, none⟩ (.int .i64 chi))
             have HE9 := Lib.hid (((HE7.out.step hk9 hm9).new (c := W7.heap.size) (i := 0) (by have := HSl.out; omega) (.int .i64 clo)).new (c := W7.heap.size) (i := 1) (by have := HSl.out; omega) (.int .i64 chi))
             have HB9 : Hid (((W9.setCell ⟨W7.heap.size, 0, none⟩ (.int .i64 clo)).setCell ⟨W7.heap.size, 1, none⟩ (.int .i64 chi)).heap[W7.heap.size]? = some (cvO clo chi)) := putW_all [.int .i64 clo, .int .i64 chi] hz9 rfl
             have hUB : W7.heap.size ≠ U := by omega
             have HU9 : Hid (((W9.setCell ⟨W7.heap.size, 0, none⟩ (.int .i64 clo)).setCell ⟨W7.heap.size, 1, none⟩ (.int .i64 chi)).heap[U]? = some (cvO lo hi)) := (putW_far (m := 0) (Ne.symm hUB) [.int .i64 clo, .int .i64 chi]).trans (hk9.get hUg HU7.out)
             generalize (W9.setCell ⟨W7.heap.size, 0, none⟩ (.int .i64 clo)).setCell ⟨W7.heap.size, 1, none⟩ (.int .i64 chi) = WA at HE9 HB9 HU9 ⊢
             clear z0 z1 zf hz9
             obtain ⟨Bc, hBc⟩ : ∃ B, W7.heap.size = B := ⟨_, rfl⟩
             rw [hBc] at HB9 hUB ⊢
             clear hBc)
      all_goals
        obtain ⟨s0, s1⟩ := to_at HU9.out
        obtain ⟨v0, v1⟩ := to_at HB9.out
        obtain ⟨u0, u1⟩ := to_at HE9.out.res
        have fu := cells_f0 HE9.out.res
        have fs := cells_f0 HU9.out
        cases o6 with
        | none =>
          obtain rfl : (6 : Int) = er := HER.out
          have HT : Hid (r = (none, m6)) := HJ.out.symm.trans (by show [].foldl (exF d' g) (exF d' g (some (lo, hi), m1) ⟨x, y, x1, y1⟩) = _; rw [exF_no H6.out, exF_nones])
          go_wp2_with fail
          rw [HT.out]
          exact ex_out rfl HE9.out 0 0 6 rfl rfl rfl rfl rfl
        | some e6 =>
          obtain rfl : (0 : Int) = er := HER.out
          obtain rfl : (clo, chi) = e6 := HCC.out.symm
          obtain ⟨hv, hm60, hm61⟩ := examV_in d' _ _ _ _ _ H6.out
          rw [HPP.out] at hv
          obtain ⟨hv0, hv1, hv2⟩ := hv
          have hw1 : IntKind.i64.wrap (lo + clo) = lo + clo := IntWalk.i64_in _ (by omega)
          have hw2 : IntKind.i64.wrap (hi + chi) = hi + chi := IntWalk.i64_in _ (by omega)
          have HT : Hid ([].foldl (exF d' g) (some (lo + clo, hi + chi), m6) = r) := (show [].foldl (exF d' g) (some (lo + clo, hi + chi), m6) = [].foldl (exF d' g) (exF d' g (some (lo, hi), m1) ⟨x, y, x1, y1⟩) by rw [exF_yes H6.out]).trans HJ.out
          have HEA := Lib.hid ((HE9.out.new (c := U) (i := 0) (by have := HSl.out; omega) (.int .i64 (lo + clo))).new (c := U) (i := 1) (by have := HSl.out; omega) (.int .i64 (hi + chi)))
          have HUA : Hid (((WA.setCell ⟨U, 0, none⟩ (.int .i64 (lo + clo))).setCell ⟨U, 1, none⟩ (.int .i64 (hi + chi))).heap[U]? = some (cvO (lo + clo) (hi + chi))) := putW_all [.int .i64 (lo + clo), .int .i64 (hi + chi)] HU9.out rfl
          go_wp2_with fail
          go_round <;> first | exact ⟨3 + 1, lo + clo, hi + chi, m6, _, rfl, by omega, by go_num, by omega, by omega, by omega, by omega, by omega, HT.out, HEA.out, HUA.out⟩ | (simp [intOf] <;> omega)
    ·
      obtain rfl : ji = 4 := by omega
      have HT : Hid (r = (some (lo, hi), m1)) := HJ.out.symm
      obtain ⟨s0, s1⟩ := to_at HUy.out
      obtain ⟨u0, u1⟩ := to_at HY.out.res
      have fu := cells_f0 HY.out.res
      go_wp2_with fail
      rw [HT.out]
      exact ex_out rfl HY.out lo hi 0 rfl rfl rfl rfl rfl
end Go.Proofs.YtfldplmgkeiimaaGreatDoor.VW
