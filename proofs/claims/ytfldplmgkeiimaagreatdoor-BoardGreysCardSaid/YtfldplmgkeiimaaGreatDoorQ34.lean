/-
  Several texts of this proof in one: Qm, Zm, Zn, Zo.
-/
import Derived.Test.YtfldplmgkeiimaaGreatDoorQ8
import Derived.Laws.LoneSync
import Derived.Deep.RegionHeld3
import Derived.Test.YtfldplmgkeiimaaGreatDoorQ33
import Derived.Test.YtfldplmgkeiimaaGreatDoorQ2
import Derived.Test.YtfldplmgkeiimaaGreatDoorQ11
set_option linter.unusedVariables false
set_option linter.unusedSimpArgs false
namespace Go.Proofs.YtfldplmgkeiimaaGreatDoor.VW
open Go.RowKit Go.Proofs.YtfldplmgkeiimaaGreatDoor.Vp
abbrev tMt:TypeId:=148
abbrev mtO (most a:Int):Obj:= .cells #[.int .i64 most, .int .i64 a] tMt
theorem newMeter_c (n:Int) (w:World):Calls Tryz.prog 38 #[.int .i64 n] w fun e w'=>e= .returned (.pointer (some ⟨w.heap.size,0,none⟩))∧w'=w.alloc (mtO (max 0 (min n 100000000)) 0):=by
 go_enter Tryz.func38,Tryz.ntmps38
 go_wp2_with fail
 go_ret
 exact ⟨rfl,rfl⟩
theorem add_c (b i:Nat) (a:Int) (h0:-1≤a∧a≤4611686018427387904) (w:World) (hc:w.cell? ⟨b,i,none⟩=some (.int .i64 a)) (hz:w.frozen? ⟨b,i,none⟩=false):Calls Tryz.prog 172 #[.pointer (some ⟨b,i,none⟩), .int .i64 1] w fun e w'=>e= .returned (.int .i64 (a+1))∧w'=w.setCell ⟨b,i,none⟩ (.int .i64 (a+1)):=by
 have hadd:=run_call_add (P:=Tryz.prog) Tryz.func216 (by kernel_rfl) (by kernel_rfl) (by kernel_rfl) .i64 (by kernel_rfl) (y:=1) (s:=a+1) hc hz (by simp [go_sem,IntWalk.i64_in (a+1) (by omega)])
 go_enter Tryz.func172,Tryz.ntmps172
 go_wp2
 go_ret
 exact ⟨rfl,rfl⟩
theorem mt_at {w:World} {k:Nat} {m a:Int} (h:w.heap[k]?=some (mtO m a)):w.cell? ⟨k,0,none⟩=some (.int .i64 m)∧w.cell? ⟨k,1,none⟩=some (.int .i64 a)∧w.frozen? ⟨k,1,none⟩=false:=by
 refine ⟨?_,?_,?_⟩<;> simp [World.cell?,World.frozen?,h]
theorem mt_set {w:World} {k:Nat} {m a:Int} (b:Int) (h:w.heap[k]?=some (mtO m a)):(w.setCell ⟨k,1,none⟩ (.int .i64 b)).heap[k]?=some (mtO m b):=set_at _ h
theorem take_m (g:Nat) (most a:Int) (h0:-1≤a∧a≤4611686018427387904) (w:World) (H:Hid (w.heap[g]?=some (mtO most a))) (f:Bool) (hf:Hid (decide (a+1≤most)=f)):Calls Tryz.prog 125 #[.pointer (some ⟨g,0,none⟩)] w fun e w'=>e= .returned (.bool f)∧w'.heap[g]?=some (mtO most (a+1))∧Keep (fun k=>k≠g) w w':=by
 have HD:Hid (w.drew.heap[g]?=some (mtO most a)):=H.out
 have HC:Hid (w.drew.cell? ⟨g,1,none⟩=some (.int .i64 a)∧w.drew.frozen? ⟨g,1,none⟩=false):=(mt_at HD.out).2
 have HA:=Lib.hid h0
 have H0:Hid (w.cell? ⟨g,0,none⟩=some (.int .i64 most)):=(mt_at H.out).1
 have H1:Hid (w.drew.cell? ⟨g,0,none⟩=some (.int .i64 most)):=(mt_at H.out).1
 have H2:Hid ((w.drew.setCell ⟨g,1,none⟩ (.int .i64 (a+1))).cell? ⟨g,0,none⟩=some (.int .i64 most)):=(mt_at (mt_set (a+1) HD.out)).1
 go_enter Tryz.func125,Tryz.ntmps125
 go_upto_region 1 with fail
 go_region_held3 (fun Z=>Z.cell? ⟨g,0,none⟩=some (.int .i64 most)) (first | exact H0.out | exact H1.out | exact H2.out | assumption | fail) (first |(go_at_call 172;with_reducible refine (add_c g 1 a HA.out _ HC.out.1 HC.out.2).mono ?_;rintro e w5 ⟨rfl,rfl⟩)| fail)
 go_wp2_with fail
 go_ret
 refine ⟨ret_b hf.out,mt_set _ HD.out,?_⟩
 exact (Keep.of_below (Below.refl _ _).drew).trans (Keep.set (a:=⟨g,1,none⟩) (fun h=>h rfl) _)
abbrev bxs4 (a b c d:Bx):List Value:= [.int .i64 a.x0, .int .i64 a.y0, .int .i64 a.x1, .int .i64 a.y1, .int .i64 b.x0, .int .i64 b.y0, .int .i64 b.x1, .int .i64 b.y1, .int .i64 c.x0, .int .i64 c.y0, .int .i64 c.x1, .int .i64 c.y1, .int .i64 d.x0, .int .i64 d.y0, .int .i64 d.x1, .int .i64 d.y1]
abbrev quarts (x0 y0 x1 y1 x y:Int):List Value:=bxs4 ⟨x0,y0,x,y⟩ ⟨x,y0,x1,y⟩ ⟨x0,y,x,y1⟩ ⟨x,y,x1,y1⟩
theorem okB_props {b:Bx} (h:okB b=true):(b.x0≤b.x1∧b.y0≤b.y1)∧(-536870912≤b.x0∧b.x0≤536870912)∧(-536870912≤b.y0∧b.y0≤536870912)∧(-536870912≤b.x1∧b.x1≤536870912)∧(-536870912≤b.y1∧b.y1≤536870912):=by
 simp only [okB,wiV,Bool.and_eq_true,decide_eq_true_eq] at h
 omega
theorem bxOk_of {b:Bx} (h:okB b=true):BxOk b:=by
 obtain ⟨h1,h2,h3,h4,h5⟩:=okB_props h
 exact ⟨⟨h2,h3⟩,⟨h4,h5⟩,by simp [emptyB];omega⟩
set_option maxRecDepth 100000 in
set_option maxHeartbeats 12800000 in
theorem split_c (x0 y0 x1 y1:Int) (hok:okB ⟨x0,y0,x1,y1⟩=true) (hx:(x1 - x0) % 2=0∧0 < x1 - x0) (hy:(y1 - y0) % 2=0∧0 < y1 - y0) (x y:Int) (hX:x0+(x1 - x0)/ 2=x) (hY:y0+(y1 - y0)/ 2=y) (w:World):
  Calls Tryz.prog 127 #[bxV ⟨x0,y0,x1,y1⟩] w fun e w'=>e= .returned (.tuple #[.agg (quarts x0 y0 x1 y1 x y).toArray, .bool true])∧Below w.heap.size w w':=by
 obtain ⟨h1,h2,h3,h4,h5⟩:=okB_props hok
 have HOK:=Lib.hid hok
 obtain ⟨a,ha⟩:∃a,x1 - x0=a:=⟨_,rfl⟩
 obtain ⟨b,hb⟩:∃b,y1 - y0=b:=⟨_,rfl⟩
 simp only at h1 h2 h3 h4 h5
 have w1:IntKind.i64.wrap (x1 - x0)=a:=by rw [IntWalk.i64_in _ (by omega),ha]
 have w2:IntKind.i64.wrap (y1 - y0)=b:=by rw [IntWalk.i64_in _ (by omega),hb]
 rw [ha] at hx hX
 rw [hb] at hy hY
 have t1:a.tmod 2=0:=by rw [Int.tmod_eq_emod_of_nonneg (by omega)];exact hx.1
 have t2:b.tmod 2=0:=by rw [Int.tmod_eq_emod_of_nonneg (by omega)];exact hy.1
 have t3:a.tdiv 2=a / 2:=Int.tdiv_eq_ediv_of_nonneg (by omega)
 have t4:b.tdiv 2=b / 2:=Int.tdiv_eq_ediv_of_nonneg (by omega)
 have t5:IntKind.i64.wrap (a / 2)=a / 2:=IntWalk.i64_in _ (by omega)
 have t6:IntKind.i64.wrap (b / 2)=b / 2:=IntWalk.i64_in _ (by omega)
 have t7:IntKind.i64.wrap (x0+a / 2)=x:=by rw [IntWalk.i64_in _ (by omega),hX]
 have t8:IntKind.i64.wrap (y0+b / 2)=y:=by rw [IntWalk.i64_in _ (by omega),hY]
 have a0:(a==0)=false:=by simp;omega
 have b0:(b==0)=false:=by simp;omega
 have an:¬a=0:=by omega
 have bn:¬b=0:=by omega
 clear h1 h2 h3 h4 h5 hok ha hb hx hy hX hY
 go_enter Tryz.func127,Tryz.ntmps127
 go_upto_region 1 with fail
 obtain ⟨Z16,hZ⟩:∃z:List Value, [.int .i64 0, .int .i64 0, .int .i64 0, .int .i64 0, .int .i64 0, .int .i64 0, .int .i64 0, .int .i64 0, .int .i64 0, .int .i64 0, .int .i64 0, .int .i64 0, .int .i64 0, .int .i64 0, .int .i64 0, .int .i64 0]=z:=⟨_,rfl⟩
 obtain ⟨W,hW⟩:∃W,(w.alloc (bxO ⟨x0,y0,x1,y1⟩)).alloc (.cells (bxs4 bx0 bx0 bx0 bx0).toArray 251)=W:=⟨_,rfl⟩
 have HB:Hid (Below w.heap.size w W):=by show Below _ _ _;rw [←hW];exact bel2 _ _ _
 have HA:Hid (W.heap[w.heap.size]?=some (bxO ⟨x0,y0,x1,y1⟩)):=by show _=_;rw [←hW];exact one_below (alloc_new _ _) (bel_alloc _ _)
 have HC:Hid (W.heap[w.heap.size+1]?=some (.cells (bxs4 bx0 bx0 bx0 bx0).toArray 251)):=by show _=_;rw [←hW];exact second_new _ _ _
 change Code.wp _ _ _ _ ((w.alloc (bxO ⟨x0,y0,x1,y1⟩)).alloc (.cells (bxs4 bx0 bx0 bx0 bx0).toArray 251))
 rw [hW]
 clear hW hZ
 obtain ⟨c0,c1,c2,c3⟩:=bx_at HA.out
 go_wp2_with fail
 with_reducible refine (bok_c ⟨x0,y0,x1,y1⟩ true HOK _).mono ?_
 rintro e V ⟨rfl,hb⟩
 have HB1:Hid (Below w.heap.size w V):=HB.out.trans (hb.mono HB.out.size)
 have HA1:=Lib.hid (one_below HA.out hb)
 have HC1:=Lib.hid (one_below HC.out hb)
 clear c0 c1 c2 c3 hb
 obtain ⟨c0,c1,c2,c3⟩:=bx_at HA1.out
 go_upto_region 3 with fail
 go_quiet (fail)
 go_upto_region 6 with fail
 go_quiet (fail)
 generalize hV2:World.drewN _ _=V2
 have HB2:Hid (Below w.heap.size w V2):=by show Below _ _ _;rw [←hV2];exact bel_drewN (bel_drewN HB1.out _) _
 have HA2:Hid (V2.heap[w.heap.size]?=some (bxO ⟨x0,y0,x1,y1⟩)):=by show _=_;rw [←hV2];exact HA1.out
 have HC2:Hid (V2.heap[w.heap.size+1]?=some (.cells (bxs4 bx0 bx0 bx0 bx0).toArray 251)):=by show _=_;rw [←hV2];exact HC1.out
 clear c0 c1 c2 c3 hV2
 obtain ⟨c0,c1,c2,c3⟩:=bx_at HA2.out
 have k0:=cell_of (i:=0) HC2.out rfl
 have k1:=cell_of (i:=1) HC2.out rfl
 have k2:=cell_of (i:=2) HC2.out rfl
 have k3:=cell_of (i:=3) HC2.out rfl
 have k4:=cell_of (i:=4) HC2.out rfl
 have k5:=cell_of (i:=5) HC2.out rfl
 have k6:=cell_of (i:=6) HC2.out rfl
 have k7:=cell_of (i:=7) HC2.out rfl
 have k8:=cell_of (i:=8) HC2.out rfl
 have k9:=cell_of (i:=9) HC2.out rfl
 have k10:=cell_of (i:=10) HC2.out rfl
 have k11:=cell_of (i:=11) HC2.out rfl
 have k12:=cell_of (i:=12) HC2.out rfl
 have k13:=cell_of (i:=13) HC2.out rfl
 have k14:=cell_of (i:=14) HC2.out rfl
 have k15:=cell_of (i:=15) HC2.out rfl
 have fz:=cells_f0 HC2.out
 go_wp2_with fail
 have hrr:=putW_all (quarts x0 y0 x1 y1 x y) HC2.out rfl
 have hb:=putW_below (m:=0) (b:=w.heap.size+1) (Nat.le_succ _) (quarts x0 y0 x1 y1 x y) HB2.out
 exact bodyPost_ret (results_cell_tmp_row rfl _ _ (w.heap.size+1) _ _ _ _ rfl hrr Tryz.underlying251 rfl (by kernel_rfl)) rfl ⟨rfl,hb⟩
end Go.Proofs.YtfldplmgkeiimaaGreatDoor.VW
namespace Go.Proofs.YtfldplmgkeiimaaGreatDoor.VW
open Go.RowKit Go.Proofs.YtfldplmgkeiimaaGreatDoor.Vp
open Go.Proofs.YtfldplmgkeiimaaGreatDoor.Gp (C parseG)
abbrev tLa:TypeId:=128
abbrev laCs (S:ByteArray) (bu d st sm mk:Int) (ov:Value) (i e:Int):Array Value:= #[.string S, .int .i64 bu, .int .u32 d, .int .i32 st, .int .u32 sm, .int .i32 mk,ov, .int .i64 i, .int .i64 e]
theorem add32_c (b i:Nat) (w:World) (hc:w.cell? ⟨b,i,none⟩=some (.int .i32 0)) (hz:w.frozen? ⟨b,i,none⟩=false):Calls Tryz.prog 49 #[.pointer (some ⟨b,i,none⟩), .int .i32 1] w fun e w'=>e= .returned (.int .i32 1)∧w'=w.setCell ⟨b,i,none⟩ (.int .i32 1):=by
 have hadd:=run_call_add (P:=Tryz.prog) Tryz.func76 (by kernel_rfl) (by kernel_rfl) (by kernel_rfl) .i32 (by kernel_rfl) (y:=1) (s:=1) hc hz (by simp [go_sem];rfl)
 go_enter Tryz.func49,Tryz.ntmps49
 go_wp2_with fail
 go_ret
 exact ⟨rfl,rfl⟩
theorem PltOut.get {w:World} {r:List Ob × Nat × Nat} {e:Ending} {w':World} (h:PltOut w r e w'):Below w.heap.size w w'∧∃q d,e= .returned (.tuple #[.slice q r.1.length d, .int .i64 (r.2.1:Int), .int .i64 (r.2.2:Int)])∧ObsIn (fun k=>w.heap.size≤k) w' q r.1:=h
abbrev laV (S:ByteArray) (bu:Int) (v6 v7 v8:Value):Array Value:= #[.string S, .int .i64 bu, .int .u32 0, .int .i32 1, .int .u32 0, .int .i32 0,v6,v7,v8]
structure LaM (w:World) (q b:Nat) (S:ByteArray) (bu:Int) (v6 v7 v8:Value) (x:World):Prop where
 hq:x.heap[q]?=some (.cells #[.pointer (some ⟨b,0,none⟩)] 59)
 hb:x.heap[b]?=some (.cells (laV S bu v6 v7 v8) tLa)
 hk:Keep (fun k=>k≠b) w x
abbrev LyS (w:World) (q b:Nat) (S:ByteArray) (bu:Int) (x:World):Prop:=
 x.cell? ⟨q,0,none⟩=some (.pointer (some ⟨b,0,none⟩))∧x.cell? ⟨b,0,none⟩=some (.string S)∧x.cell? ⟨b,1,none⟩=some (.int .i64 bu)∧
 x.cell? ⟨b,6,none⟩=some (valAt x b 6)∧x.frozen? ⟨b,6,none⟩=false∧x.cell? ⟨b,7,none⟩=some (valAt x b 7)∧x.frozen? ⟨b,7,none⟩=false∧x.cell? ⟨b,8,none⟩=some (valAt x b 8)∧x.frozen? ⟨b,8,none⟩=false∧∃v6 v7 v8,LaM w q b S bu v6 v7 v8 x
theorem lys_of {w:World} {q b:Nat} {S:ByteArray} {bu:Int} {v6 v7 v8:Value} {x:World} (h:LaM w q b S bu v6 v7 v8 x):LyS w q b S bu x:=
 ⟨cell_of h.hq rfl,cell_of h.hb rfl,cell_of h.hb rfl,valAt_eq (cell_of h.hb rfl),cells_f0 h.hb 6,valAt_eq (cell_of h.hb rfl),cells_f0 h.hb 7,valAt_eq (cell_of h.hb rfl),cells_f0 h.hb 8,_,_,_,h⟩
theorem lys_m {w:World} {q b:Nat} {S:ByteArray} {bu:Int} {x:World} (h:LyS w q b S bu x):∃v6 v7 v8,LaM w q b S bu v6 v7 v8 x:=h.2.2.2.2.2.2.2.2.2
theorem LaM.below {w:World} {q b:Nat} {S:ByteArray} {bu:Int} {v6 v7 v8:Value} {x y:World} (h:LaM w q b S bu v6 v7 v8 x) (hb:Below x.heap.size x y):LaM w q b S bu v6 v7 v8 y:=⟨one_below h.hq hb,one_below h.hb hb,h.hk.trans (Keep.of_below hb)⟩
theorem LaM.set6 {w:World} {q b:Nat} (hqb:q≠b) {S:ByteArray} {bu:Int} {v6 v7 v8:Value} {x:World} (h:LaM w q b S bu v6 v7 v8 x) (u:Value):LaM w q b S bu u v7 v8 (x.setCell ⟨b,6,none⟩ u):=⟨(far0 hqb).trans h.hq,(by have:=set_at (i:=6) u h.hb;exact this),h.hk.trans (Keep.set (a:=⟨b,6,none⟩) (fun hk=>hk rfl) _)⟩
theorem LaM.set7 {w:World} {q b:Nat} (hqb:q≠b) {S:ByteArray} {bu:Int} {v6 v7 v8:Value} {x:World} (h:LaM w q b S bu v6 v7 v8 x) (u:Value):LaM w q b S bu v6 u v8 (x.setCell ⟨b,7,none⟩ u):=⟨(far0 hqb).trans h.hq,(by have:=set_at (i:=7) u h.hb;exact this),h.hk.trans (Keep.set (a:=⟨b,7,none⟩) (fun hk=>hk rfl) _)⟩
theorem LaM.set8 {w:World} {q b:Nat} (hqb:q≠b) {S:ByteArray} {bu:Int} {v6 v7 v8:Value} {x:World} (h:LaM w q b S bu v6 v7 v8 x) (u:Value):LaM w q b S bu v6 v7 u (x.setCell ⟨b,8,none⟩ u):=⟨(far0 hqb).trans h.hq,(by have:=set_at (i:=8) u h.hb;exact this),h.hk.trans (Keep.set (a:=⟨b,8,none⟩) (fun hk=>hk rfl) _)⟩
theorem lys_keep {w:World} {q b:Nat} {S:ByteArray} {bu:Int} {x y:World} (hb:Below x.heap.size x y) (h:LyS w q b S bu x):LyS w q b S bu y:=by obtain ⟨_,_,_,h⟩:=lys_m h;exact lys_of (h.below hb)
theorem lys_set6 {w:World} {q b:Nat} (hqb:q≠b) {S:ByteArray} {bu:Int} {x:World} (u:Value) (h:LyS w q b S bu x):LyS w q b S bu (x.setCell ⟨b,6,none⟩ u):=by obtain ⟨_,_,_,h⟩:=lys_m h;exact lys_of (h.set6 hqb u)
theorem lys_set7 {w:World} {q b:Nat} (hqb:q≠b) {S:ByteArray} {bu:Int} {x:World} (u:Value) (h:LyS w q b S bu x):LyS w q b S bu (x.setCell ⟨b,7,none⟩ u):=by obtain ⟨_,_,_,h⟩:=lys_m h;exact lys_of (h.set7 hqb u)
theorem lys_set8 {w:World} {q b:Nat} (hqb:q≠b) {S:ByteArray} {bu:Int} {x:World} (u:Value) (h:LyS w q b S bu x):LyS w q b S bu (x.setCell ⟨b,8,none⟩ u):=by obtain ⟨_,_,_,h⟩:=lys_m h;exact lys_of (h.set8 hqb u)
def FileOk (S:ByteArray) (bu:Int):Prop:=S.size≤1000000∧runR ((parseG S.data.toList).1.map Prod.snd) (pl0 bu)=true∧(parseG S.data.toList).1.length≤500000
set_option maxRecDepth 100000 in
set_option maxHeartbeats 12800000 in
theorem clo_c (b q:Nat) (hqb:q≠b) (S:ByteArray) (bu:Int) (hok:FileOk S bu) (ob:List Ob) (i f:Nat) (hres:fileV S.data.toList bu=(ob,i,f)) (w:World) (hq:w.heap[q]?=some (.cells #[.pointer (some ⟨b,0,none⟩)] 59)) (hb:w.heap[b]?=some (.cells (laCs S bu 0 1 0 0 (.slice none 0 0) 0 0) tLa)):
  Calls Tryz.prog 48 #[.pointer (some ⟨q,0,none⟩)] w fun e w'=>e= .returned (.tuple #[])∧∃qo d,w'.heap[b]?=some (.cells (laCs S bu 0 1 0 1 (.slice qo ob.length d) i f) tLa)∧ObsIn (fun k=>w.heap.size≤k) w' qo ob∧Keep (fun k=>k≠b) w w':=by
 have HF:=Lib.hid (file_c S hok.1 bu w.drew hok.2.1 hok.2.2 (ob,i,f) hres)
 have HQ:=Lib.hid hq
 have HBb:=Lib.hid hb
 have hqlt:=lt_of_heap hq
 have hblt:=lt_of_heap hb
 obtain ⟨n,hn⟩:∃n,ob.length=n:=⟨_,rfl⟩
 have HN:=Lib.hid hn
 clear hok hres hq hb hn
 go_enter Tryz.func48,Tryz.ntmps48
 have HM:Hid (LaM w q b S bu (.slice none 0 0) (.int .i64 0) (.int .i64 0) w):=⟨HQ.out,HBb.out, .refl _ _⟩
 have HSD:Hid (LyS w q b S bu w.drew):=lys_of (HM.out.below (Below.refl _ _).drew)
 have HS0:Hid (LyS w q b S bu w):=lys_of HM.out
 go_upto_region 0 with fail
 go_region_held3 (fun Z=>LyS w q b S bu Z) (first | with_reducible exact HSD.out | with_reducible exact HS0.out | with_reducible exact lys_keep (by assumption) (by assumption)| with_reducible exact lys_set6 hqb _ (by assumption)| with_reducible exact lys_set7 hqb _ (by assumption)| with_reducible exact lys_set8 hqb _ (by assumption)| assumption | fail) (first |(go_at_call 19;(with_reducible refine (HF.out).mono ?_);intro e w6 hr6;obtain ⟨hb6,q6,d6,rfl,hob6⟩:=PltOut.get hr6)| fail)
 all_goals
  have HM9:=Lib.hid ((((HM.out.below (Below.refl _ _).drew).below hb6).set6 hqb (.slice q6 ob.length d6)).set7 hqb (.int .i64 (i:Int))|>.set8 hqb (.int .i64 (f:Int)))
  have HOB:Hid (ObsIn (fun k=>w.heap.size≤k∧k≠b) w6 q6 ob):=hob6.mono fun k _ hk=>⟨hk,fun e=>by have h1:w.heap.size≤k:=hk;omega⟩
  have HO9:=Lib.hid (HOB.out.keep (((Keep.set (a:=⟨b,6,none⟩) (S:=fun k=>w.heap.size≤k∧k≠b) (w:=w6) (fun hk=>hk.2 rfl) (.slice q6 ob.length d6)).trans (Keep.set (a:=⟨b,7,none⟩) (fun hk=>hk.2 rfl) (.int .i64 (i:Int)))).trans (Keep.set (a:=⟨b,8,none⟩) (fun hk=>hk.2 rfl) (.int .i64 (f:Int)))))
  clear hb6 hob6 HSD HS0
  generalize ((w6.setCell ⟨b,6,none⟩ (.slice q6 ob.length d6)).setCell ⟨b,7,none⟩ (.int .i64 (i:Int))).setCell ⟨b,8,none⟩ (.int .i64 (f:Int))=W9 at HM9 HO9⊢
  have x0:=cell_of (i:=0) HM9.out.hq rfl
  have c5:W9.cell? ⟨b,5,none⟩=some (.int .i32 0):=cell_of (i:=5) HM9.out.hb rfl
  have g5:=cells_f0 HM9.out.hb 5
  go_wp2_with fail
  with_reducible refine (add32_c b 5 W9 c5 g5).mono ?_
  rintro e w7 ⟨rfl,rfl⟩
  clear x0 c5 g5
  go_wp2_with fail
  go_end0
  refine ⟨rfl,q6,d6,?_,(HO9.out.mono fun k _ hk=>hk).keep (Keep.set (a:=⟨b,5,none⟩) (fun hk=>hk.2 rfl) _)|>.mono fun k _ hk=>hk.1,HM9.out.hk.trans (Keep.set (a:=⟨b,5,none⟩) (fun hk=>hk rfl) _)⟩
  have:=set_at (i:=5) (.int .i32 1) HM9.out.hb
  exact this
end Go.Proofs.YtfldplmgkeiimaaGreatDoor.VW
namespace Go.Proofs.YtfldplmgkeiimaaGreatDoor.VW
open Go.RowKit Go.Proofs.YtfldplmgkeiimaaGreatDoor.Vp Go.Proofs.YtfldplmgkeiimaaGreatDoor.LZ
open Go.Proofs.YtfldplmgkeiimaaGreatDoor.Gp (C parseG)
theorem bload_c (a:Addr) (v:Int) (f:Bool) (hf:(v !=0)=f) (w:World) (h0:w.cell? a=some (.int .u32 v)):Calls Tryz.prog 74 #[.pointer (some a)] w fun e w'=>e= .returned (.bool f)∧w'=w:=by
 have hl:=run_call_load (P:=Tryz.prog) Tryz.func108 (by kernel_rfl) (by kernel_rfl) (by kernel_rfl) .u32 (by kernel_rfl) h0
 subst hf
 go_enter Tryz.func74,Tryz.ntmps74
 go_wp2
 go_ret
 exact ⟨rfl,rfl⟩
set_option maxRecDepth 100000 in
set_option maxHeartbeats 12800000 in
theorem slow_c (b q:Nat) (hqb:q≠b) (S:ByteArray) (bu:Int) (hok:FileOk S bu) (ob:List Ob) (i f:Nat) (hres:fileV S.data.toList bu=(ob,i,f)) (w:World) (hq:w.heap[q]?=some (.cells #[.pointer (some ⟨b,0,none⟩)] 59)) (hb:w.heap[b]?=some (.cells (laCs S bu 0 0 0 0 (.slice none 0 0) 0 0) tLa)):
  Calls Tryz.prog 75 #[.pointer (some ⟨b,2,none⟩), .func (.func 48) #[] #[.pointer (some ⟨q,0,none⟩)]] w fun e w'=>e= .returned (.tuple #[])∧∃qo d,w'.heap[b]?=some (.cells (laCs S bu 1 0 0 1 (.slice qo ob.length d) i f) tLa)∧ObsIn (fun k=>w.heap.size≤k) w' qo ob∧Keep (fun k=>k≠b) w w':=by
 have hnot:∀(x:Bool) (w:World),(Op.unary .not (.bool x)).run Tryz.prog w= .ok (.bool (!x)) w:=fun _ _=>rfl
 have c3:=cell_of (i:=3) hb rfl
 have f3:=cells_f0 hb 3
 have h1q:(w.setCell ⟨b,3,none⟩ (.int .i32 1)).heap[q]?=some (.cells #[.pointer (some ⟨b,0,none⟩)] 59):=(far0 hqb).trans hq
 have h1b:(w.setCell ⟨b,3,none⟩ (.int .i32 1)).heap[b]?=some (.cells (laCs S bu 0 1 0 0 (.slice none 0 0) 0 0) tLa):=by have:=set_at (i:=3) (.int .i32 1) hb;exact this
 have hcl:=clo_c b q hqb S bu hok ob i f hres _ h1q h1b
 have c2:=cell_of (i:=2) h1b rfl
 have hk1:Keep (fun k=>k≠b) w (w.setCell ⟨b,3,none⟩ (.int .i32 1)):=Keep.set (a:=⟨b,3,none⟩) (fun hk=>hk rfl) _
 have hsz:(w.setCell ⟨b,3,none⟩ (.int .i32 1)).heap.size=w.heap.size:=ssz0 _ _ _
 go_enter_defers Tryz.func75,Tryz.ntmps75
 go_wp2_with (go_at_call 109;refine (lock_free ⟨b,3,none⟩ _ c3 f3).mono ?_;rintro e w' ⟨rfl,rfl⟩)
 go_wp2_with (go_at_call 74;refine (bload_c ⟨b,2,none⟩ 0 false rfl _ c2).mono ?_;rintro e w' ⟨rfl,rfl⟩)
 go_wp2_with (go_at_call 48;refine hcl.mono ?_;rintro e w6 ⟨rfl,qo,d,hb6,ho6,hk6⟩)
 have z2:=cell_of (i:=2) hb6 rfl
 have g2:=cells_f0 hb6 2
 have hb7:(w6.drew.setCell ⟨b,2,none⟩ (.int .u32 1)).heap[b]?=some (.cells (laCs S bu 1 1 0 1 (.slice qo ob.length d) i f) tLa):=by have:=set_at (w:=w6.drew) (i:=2) (.int .u32 1) hb6;exact this
 have z3:=cell_of (i:=3) hb7 rfl
 have g3:=cells_f0 hb7 3
 refine leaves_cons (f:=111) (args:= #[.pointer (some ⟨b,2,none⟩), .bool true]) (by simp) (by simp [go_sem]) ?_
 refine (store_deferred ⟨b,2,none⟩ (.int .u32 0) .returning _ z2 g2).mono ?_
 rintro e u' w'' ⟨rfl,rfl,rfl⟩
 refine leaves_cons (f:=110) (args:= #[.pointer (some ⟨b,3,none⟩)]) (by simp [settle]) (by simp [go_sem]) ?_
 refine (unlock_deferred ⟨b,3,none⟩ _ _ z3 g3).mono ?_
 rintro e u' w'' ⟨rfl,rfl,rfl⟩
 have hk9:Keep (fun k=>k≠b) w6 ((w6.drew.setCell ⟨b,2,none⟩ (.int .u32 1)).setCell ⟨b,3,none⟩ (.int .i32 0)):=((Keep.of_below (Below.refl _ _).drew).trans (Keep.set (a:=⟨b,2,none⟩) (fun hk=>hk rfl) _)).trans (Keep.set (a:=⟨b,3,none⟩) (fun hk=>hk rfl) _)
 have hb9:((w6.drew.setCell ⟨b,2,none⟩ (.int .u32 1)).setCell ⟨b,3,none⟩ (.int .i32 0)).heap[b]?=some (.cells (laCs S bu 1 0 0 1 (.slice qo ob.length d) i f) tLa):=by have:=set_at (i:=3) (.int .i32 0) hb7;exact this
 have hblt:=lt_of_heap hb
 rw [hsz] at ho6
 have ho9:=(ho6.mono (R:=fun k=>w.heap.size≤k∧k≠b) (fun k _ hk=>⟨hk,by have h1:w.heap.size≤k:=hk;omega⟩)).keep (hk9.mono fun k _ hk=>hk.2)
 refine ⟨.tuple #[],by simp [results,Tryz.results75],rfl,qo,d,hb9,ho9.mono fun k _ hk=>hk.1,(hk1.trans hk6).trans hk9⟩
end Go.Proofs.YtfldplmgkeiimaaGreatDoor.VW
namespace Go.Proofs.YtfldplmgkeiimaaGreatDoor.VW
open Go.RowKit Go.Proofs.YtfldplmgkeiimaaGreatDoor.Vp Go.Proofs.YtfldplmgkeiimaaGreatDoor.LZ
open Go.Proofs.YtfldplmgkeiimaaGreatDoor.Gp (C parseG)
set_option maxRecDepth 100000 in
set_option maxHeartbeats 12800000 in
theorem once_c (b q:Nat) (hqb:q≠b) (S:ByteArray) (bu:Int) (hok:FileOk S bu) (ob:List Ob) (i f:Nat) (hres:fileV S.data.toList bu=(ob,i,f)) (w:World) (hq:w.heap[q]?=some (.cells #[.pointer (some ⟨b,0,none⟩)] 59)) (hb:w.heap[b]?=some (.cells (laCs S bu 0 0 0 0 (.slice none 0 0) 0 0) tLa)):
  Calls Tryz.prog 47 #[.pointer (some ⟨b,2,none⟩), .func (.func 48) #[] #[.pointer (some ⟨q,0,none⟩)]] w fun e w'=>e= .returned (.tuple #[])∧∃qo d,w'.heap[b]?=some (.cells (laCs S bu 1 0 0 1 (.slice qo ob.length d) i f) tLa)∧ObsIn (fun k=>w.heap.size≤k) w' qo ob∧Keep (fun k=>k≠b) w w':=by
 have hnot:∀(x:Bool) (w:World),(Op.unary .not (.bool x)).run Tryz.prog w= .ok (.bool (!x)) w:=fun _ _=>rfl
 have hsl:=slow_c b q hqb S bu hok ob i f hres w hq hb
 have c2:=cell_of (i:=2) hb rfl
 go_enter Tryz.func47,Tryz.ntmps47
 go_wp2_with (go_at_call 74;refine (bload_c ⟨b,2,none⟩ 0 false rfl _ c2).mono ?_;rintro e w' ⟨rfl,rfl⟩)
 go_wp2_with (go_at_call 75;refine hsl.mono ?_;rintro e w6 ⟨rfl,h6⟩)
 go_end0
 exact ⟨rfl,h6⟩
structure OjM (q b:Nat) (S:ByteArray) (bu:Int) (ov:Value) (i e:Int) (x:World):Prop where
 hq:x.heap[q]?=some (.cells #[.pointer (some ⟨b,0,none⟩)] 59)
 hb:x.heap[b]?=some (.cells (laCs S bu 1 0 0 1 ov i e) tLa)
abbrev OjS (q b:Nat) (S:ByteArray) (bu:Int) (ov:Value) (i e:Int) (x:World):Prop:=
 x.cell? ⟨q,0,none⟩=some (.pointer (some ⟨b,0,none⟩))∧x.cell? ⟨b,6,none⟩=some ov∧x.cell? ⟨b,7,none⟩=some (.int .i64 i)∧x.cell? ⟨b,8,none⟩=some (.int .i64 e)∧OjM q b S bu ov i e x
theorem ojs_of {q b:Nat} {S:ByteArray} {bu:Int} {ov:Value} {i e:Int} {x:World} (h:OjM q b S bu ov i e x):OjS q b S bu ov i e x:=⟨cell_of h.hq rfl,cell_of h.hb rfl,cell_of h.hb rfl,cell_of h.hb rfl,h⟩
theorem ojs_keep {q b:Nat} {S:ByteArray} {bu:Int} {ov:Value} {i e:Int} {x y:World} (hb:Below x.heap.size x y) (h:OjS q b S bu ov i e x):OjS q b S bu ov i e y:=ojs_of ⟨one_below h.2.2.2.2.hq hb,one_below h.2.2.2.2.hb hb⟩
set_option maxRecDepth 100000 in
set_option maxHeartbeats 12800000 in
theorem objects_c (b:Nat) (S:ByteArray) (bu:Int) (hok:FileOk S bu) (ob:List Ob) (hpl:∀o∈ob,Plain o.2) (i f:Nat) (hres:fileV S.data.toList bu=(ob,i,f)) (w:World) (hb:w.heap[b]?=some (.cells (laCs S bu 0 0 0 0 (.slice none 0 0) 0 0) tLa)):
  Calls Tryz.prog 26 #[.pointer (some ⟨b,0,none⟩)] w fun e w'=>∃qo d,e= .returned (.tuple #[.slice qo ob.length d, .int .i64 (i:Int), .int .i64 (f:Int)])∧ObsIn (fun k=>w.heap.size≤k) w' qo ob∧Keep (fun k=>k≠b) w w':=by
 have hmf:∀(fn:Fn) (first cap:Array Value) (w:World),(Instr.makeFunc fn first cap).run Tryz.prog w= .ok (.func fn first cap) w:=fun _ _ _ _=>rfl
 have hblt:=lt_of_heap hb
 have hqb:w.heap.size≠b:=by omega
 have hq1:(w.alloc (.cells #[.pointer (some ⟨b,0,none⟩)] 59)).heap[w.heap.size]?=some (.cells #[.pointer (some ⟨b,0,none⟩)] 59):=alloc_new _ _
 have hb1:=one_below hb (bel_alloc w (.cells #[.pointer (some ⟨b,0,none⟩)] 59))
 have hdo:=once_c b w.heap.size hqb S bu hok ob i f hres _ hq1 hb1
 have hk1:Keep (fun k=>k≠b) w (w.alloc (.cells #[.pointer (some ⟨b,0,none⟩)] 59)):=Keep.alloc _ _ _
 have hs1:(w.alloc (.cells #[.pointer (some ⟨b,0,none⟩)] 59)).heap.size=w.heap.size+1:=Array.size_push _
 have p0:=cell_of (i:=0) hq1 rfl
 obtain ⟨n,hn⟩:∃n,ob.length=n:=⟨_,rfl⟩
 rw [hn] at hdo⊢
 clear hok hres hb
 go_enter Tryz.func26,Tryz.ntmps26
 go_wp2_with (go_at_call 47;refine hdo.mono ?_;rintro e w6 ⟨rfl,qo,d,hb6,ho6,hk6⟩)
 have HK6:=Lib.hid (hk1.trans hk6)
 have HQ6:Hid (w6.heap[w.heap.size]?=some (.cells #[.pointer (some ⟨b,0,none⟩)] 59)):=hk6.get hqb hq1
 have HO6:Hid (ObsIn (fun k=>w.heap.size≤k) w6 qo ob):=ho6.mono fun k _ hk=>by have h1:_≤k:=hk;rw [hs1] at h1;exact Nat.le_of_succ_le h1
 have HM6:Hid (OjM w.heap.size b S bu (.slice qo n d) (i:Int) (f:Int) w6):=⟨HQ6.out,hb6⟩
 have HS0:=Lib.hid (ojs_of HM6.out)
 have HSD:=Lib.hid (ojs_keep (Below.refl _ _).drew (ojs_of HM6.out))
 have HLE:=fun x (hx:Below w6.heap.size w6 x)=>less0_c (fun k=>w.heap.size≤k) ob hpl qo n d hn.symm x (Lib.hid (HO6.out.below hx))
 have HLE2:=Lib.hid HLE
 clear hdo hq1 hb1 p0 hk1 hs1 hb6 ho6 hk6 HLE hn hpl
 go_upto_region 2 with fail
 go_region_held3 (fun Z=>OjS w.heap.size b S bu (.slice qo n d) (i:Int) (f:Int) Z) (first | with_reducible exact HSD.out | with_reducible exact HS0.out | with_reducible exact ojs_keep (by assumption) (by assumption)| assumption | fail) (first |(go_at_call 50;(with_reducible refine (HLE2.out _ (Below.refl _ _).drew).mono ?_);rintro e w7 ⟨q7,d7,rfl,ho7,hb7⟩)| fail)
 all_goals
  clear HSD HS0 HLE2
  have HK9:=Lib.hid (HK6.out.trans ((Keep.of_below (Below.refl _ _).drew).trans (Keep.of_below hb7)))
  have HO9:Hid (ObsIn (fun k=>w.heap.size≤k) w7 q7 ob):=ho7.mono fun k _ hk=>Nat.le_trans HK6.out.size hk
  go_wp2_with fail
  go_ret3
  exact ⟨q7,d7,rfl,HO9.out,HK9.out⟩
theorem lnew_c (S:ByteArray) (bu:Int) (w:World):Calls Tryz.prog 22 #[.string S, .int .i64 bu] w fun e w'=>e= .returned (.pointer (some ⟨w.heap.size,0,none⟩))∧w'=w.alloc (.cells (laCs S bu 0 0 0 0 (.slice none 0 0) 0 0) tLa):=by
 go_enter Tryz.func22,Tryz.ntmps22
 go_wp2
 go_ret
 exact ⟨rfl,rfl⟩
end Go.Proofs.YtfldplmgkeiimaaGreatDoor.VW
