/-
  Several texts of this proof in one: Gb, Gc, Gd.
-/
import Derived.Test.YtfldplmgkeiimaaGreatDoorQ19
set_option linter.unusedVariables false
set_option linter.unusedSimpArgs false
namespace Go.Proofs.YtfldplmgkeiimaaGreatDoor.GW
open Go.RowKit Go.Proofs.YtfldplmgkeiimaaGreatDoor.Base Go.Proofs.YtfldplmgkeiimaaGreatDoor.Dp Go.Proofs.YtfldplmgkeiimaaGreatDoor.DeciW Go.Proofs.YtfldplmgkeiimaaGreatDoor.Mem Go.Proofs.YtfldplmgkeiimaaGreatDoor.RdW Go.Proofs.YtfldplmgkeiimaaGreatDoor.Gp
theorem row_reads {w:World} {B:Nat} {e:TypeId} {v:Value} {n:Nat} {l:List UInt8} (h:w.ownsRow B e 1 v n (byteVs l)):∃p cap,v= .slice p n cap∧RB w p l∧n=l.length:=by
 have hl:n=l.length:=by have:=h.1;rw [byteVs_length] at this;omega
 rcases h.2 with ⟨rfl,rfl⟩|⟨g,cap,cur,rfl,_,hg,_,_,_,ht⟩
 ·refine ⟨_,_,rfl,?_,hl⟩
  obtain rfl:l= []:=List.eq_nil_of_length_eq_zero hl.symm
  exact RB.nil _ _
 ·refine ⟨_,_,rfl,RB.of fun i hi=>?_,hl⟩
  rw [Nat.zero_add,cell_of_row w g i cur e (0,0) hg]
  have:=byteVs_get l i hi
  rw [←ht,List.getElem?_take,if_pos (by omega)] at this
  simpa using this
theorem wd_cells {w:World} {b:Nat} {v0 v1 v2 v3:Value} {t:TypeId} (h:w.heap[b]?=some (.cells #[v0,v1,v2,v3] t)):(w.cell? ⟨b,0,none⟩=some v0∧w.cell? ⟨b,1,none⟩=some v1∧w.cell? ⟨b,2,none⟩=some v2∧w.cell? ⟨b,3,none⟩=some v3)∧(∀i,w.frozen? ⟨b,i,none⟩=false):=by
 refine ⟨⟨?_,?_,?_,?_⟩,fun i=>?_⟩<;> simp [World.cell?,World.frozen?,h]
theorem wf_end {s:Ws} (h:Wf s) (hn:s.words.length < 20000) (x:Wd) {i:Nat} (hi:i≤s.words.length+1):Wf {s with words:=s.words++ [x],inner:=i,text:= []}:=
 ⟨by simp;omega,fun h=>absurd rfl h,by simp,by simp;omega⟩
set_option maxRecDepth 100000 in
set_option maxHeartbeats 3200000 in
theorem end_c (B R:Nat) (s:Ws) (vw vt:Value) (w:World) (hB:B≤w.heap.size) (H:Hid (Rw B R vw vt s w)) (hf:Wf s) (res:Except Nat Ws) (hres:Hid (endW s=res)):
  Calls Tryz.prog 128 #[.pointer (some ⟨R,0,none⟩)] w (TOut B R w res):=by
 have HBB:=Lib.hid hB
 have HF:=Lib.hid hf
 clear hf
 obtain ⟨c0,c1,c2,c3,c4⟩:=H.out.cells
 have hfz:=H.out.fz
 obtain ⟨p,cap,rfl,hrd,hln⟩:=row_reads H.out.tx
 have hl:=hres.out
 unfold endW at hl
 by_cases ht:s.text= []
 ·rw [if_pos ht] at hl
  have HR:Hid (.error 2=res):=hl
  have h0:s.text.length=0:=by rw [ht];rfl
  rw [h0] at c1
  clear hl hres hln hrd ht
  go_enter Tryz.func128,Tryz.ntmps128
  go_wp2_with fail
  go_ret
  rw [←HR.out]
  exact ⟨Below.refl _ _,rfl⟩
 ·rw [if_neg ht] at hl
  have HR:=Lib.hid hl
  have hpos:0 < s.text.length:=List.length_pos_iff.2 ht
  have hne:((s.text.length:Int)==0)=false:=by simp;omega
  have hRlt:=H.out.lt
  have d0:(w.alloc (.cells #[.int .i64 0, .bool false, .bool false, .string ⟨#[]⟩] 153)).cell? ⟨R,0,none⟩=_:=(H.out.below ((Below.refl _ _).alloc (Nat.le_refl _) _)).cells.1
  have d1:(w.alloc (.cells #[.int .i64 0, .bool false, .bool false, .string ⟨#[]⟩] 153)).cell? ⟨R,1,none⟩=_:=(H.out.below ((Below.refl _ _).alloc (Nat.le_refl _) _)).cells.2.1
  have d2:(w.alloc (.cells #[.int .i64 0, .bool false, .bool false, .string ⟨#[]⟩] 153)).cell? ⟨R,2,none⟩=_:=(H.out.below ((Below.refl _ _).alloc (Nat.le_refl _) _)).cells.2.2.1
  have d3:(w.alloc (.cells #[.int .i64 0, .bool false, .bool false, .string ⟨#[]⟩] 153)).cell? ⟨R,3,none⟩=_:=(H.out.below ((Below.refl _ _).alloc (Nat.le_refl _) _)).cells.2.2.2.1
  have d4:(w.alloc (.cells #[.int .i64 0, .bool false, .bool false, .string ⟨#[]⟩] 153)).cell? ⟨R,4,none⟩=_:=(H.out.below ((Below.refl _ _).alloc (Nat.le_refl _) _)).cells.2.2.2.2
  have hcv2:=RB.str (P:=Tryz.prog) (w:=(w.alloc (.cells #[.int .i64 0, .bool false, .bool false, .string ⟨#[]⟩] 153)).drew) (p:=p) (l:=s.text) (hrd.below (((Below.refl _ _).alloc (Nat.le_refl _) _).drew)) 52 5 9 Tryz.underlying52 Tryz.underlying5 Tryz.underlying9 s.text.length cap rfl
  have hcv:=RB.str (P:=Tryz.prog) (w:=w.drew) (p:=p) (l:=s.text) hrd 52 5 9 Tryz.underlying52 Tryz.underlying5 Tryz.underlying9 s.text.length cap rfl
  clear hl hres hln
  go_enter Tryz.func128,Tryz.ntmps128
  go_upto_region 3 with fail
  have hin:((s.inner:Int)==0)=decide (s.inner=0):=by
   rw [Bool.eq_iff_iff];simp
  have HM:Hid (Rw B R vw (.slice p s.text.length cap) s ((w.alloc (.cells #[.int .i64 (s.a:Int), .bool s.group, .bool (decide (s.inner=0)), .string ⟨s.text.toArray⟩] 153)).drew)):=H.out.below (((Below.refl _ _).alloc (Nat.le_refl _) _).drew)
  have HS:Hid (((w.alloc (.cells #[.int .i64 (s.a:Int), .bool s.group, .bool (decide (s.inner=0)), .string ⟨s.text.toArray⟩] 153)).drew).heap[w.heap.size]?=some (.cells #[.int .i64 (s.a:Int), .bool s.group, .bool (decide (s.inner=0)), .string ⟨s.text.toArray⟩] 153)):=heap_alloc_new w _
  have HB1:Hid (Below w.heap.size w ((w.alloc (.cells #[.int .i64 (s.a:Int), .bool s.group, .bool (decide (s.inner=0)), .string ⟨s.text.toArray⟩] 153)).drew)):=((Below.refl _ _).alloc (Nat.le_refl _) _).drew
  have hi3:(s.inner:Int)≤20000:=by have:=HF.out.n0;have:=HF.out.n4;omega
  go_region
  all_goals
   clear c0 c1 c2 c3 c4 d0 d1 d2 d3 d4 hcv hcv2 hrd hfz hRlt hin
   generalize (w.alloc (.cells #[.int .i64 (s.a:Int), .bool s.group, .bool (decide (s.inner=0)), .string ⟨s.text.toArray⟩] 153)).drew=W at HM HS HB1⊢
   obtain ⟨_,_,_,c3,c4⟩:=HM.out.cells
   have f4:=HM.out.fz 4
   by_cases hg:s.group=true
   ·rw [hg] at c3
    have HG:=Lib.hid hg
    clear hg
    have HM5:Hid (Rw B R vw (.slice p s.text.length cap) {s with inner:=s.inner+1} (W.setCell ⟨R,4,none⟩ (.int .i64 ((s.inner:Int)+1)))):=HM.out.inn (s.inner+1) _ (by omega)
    have HS5:Hid ((W.setCell ⟨R,4,none⟩ (.int .i64 ((s.inner:Int)+1))).heap[w.heap.size]?=some (.cells #[.int .i64 (s.a:Int), .bool s.group, .bool (decide (s.inner=0)), .string ⟨s.text.toArray⟩] 153)):=(Below.heap_setCell _ _ _ _ (by show w.heap.size≠R;have:=H.out.lt;omega)).trans HS.out
    have HB5:Hid (Below B w (W.setCell ⟨R,4,none⟩ (.int .i64 ((s.inner:Int)+1)))):=(HB1.out.mono HBB.out).setCell (p:=⟨R,4,none⟩) H.out.ge _
    go_upto_region 6 with fail
    clear HM HS HB1 c3 c4 f4
    generalize W.setCell ⟨R,4,none⟩ (.int .i64 ((s.inner:Int)+1))=W5 at HM5 HS5 HB5⊢
    obtain ⟨i0,hi,hz0,hz1,hz2⟩:=info_parts info_wd
    have HI:=Lib.hid (And.intro hi (And.intro hz0 (And.intro hz1 hz2)))
    clear hi hz0 hz1 hz2
    obtain ⟨⟨g0,g1,g2,g3⟩,_⟩:=wd_cells HS5.out
    obtain ⟨c0,c1,c2,c3,c4⟩:=HM5.out.cells
    have f0:=HM5.out.fz 0
    have f1:=HM5.out.fz 1
    have hbg:R < W5.heap.size:=HM5.out.lt
    have hgg:w.heap.size < W5.heap.size:=(Array.getElem?_eq_some_iff.1 HS5.out).1
    obtain ⟨pw,capw,rfl⟩:=row_form HM5.out.ws
    have hn1:s.words.length < 20000:=HF.out.n1 ht
    have hnb:(Value.slice pw s.words.length capw).ownBlock≠some R:=own_ne HM5.out.ws HM5.out.obj (by decide)
    go_region_law (first |((refine step_append_lies _ (by rfl) _ _ _ (by rfl) B 153 i0 (.agg #[.int .i64 0, .bool false, .bool false, .string ⟨#[]⟩]) 4 32 Tryz.underlying149 HI.out.1 HI.out.2.1 HI.out.2.2.1 HI.out.2.2.2 rfl (by omega) (.slice pw s.words.length capw) s.words.length _ (by rfl) ((HM5.out.ws.alloc _).drew) ⟨W5.heap.size,0,none⟩ 1 1 [.int .i64 (s.a:Int), .bool s.group, .bool (decide (s.inner=0)), .string ⟨s.text.toArray⟩] (by rfl) (by rfl) (World.news_of_block (cs:= #[.int .i64 (s.a:Int), .bool s.group, .bool (decide (s.inner=0)), .string ⟨s.text.toArray⟩]) (t:=153) (fr:=(0,0)) (heap_alloc_new W5 _)) (by simp [Value.oneCell']) (by omega) (by unfold maxLen;omega) (by omega) (by have:=HBB.out;have:=HB5.out.size;simp;omega) (W5.heap.size+1) (by simp) ?_;intro gg cap2 w4 hown hgrow hat hltt;have q0:=(HM5.out.push (x:=⟨s.a,s.group,decide (s.inner=0),s.text⟩) (((Below.refl _ _).alloc (Nat.le_refl _) _).drew) hgrow hown (Nat.le_trans HBB.out HB5.out.size)).2.2;have q1:w4.cell? ⟨R,0,none⟩=some _:=cell_of_row w4 R 0 _ _ (0,0) q0;have q2:w4.frozen? ⟨R,0,none⟩=false:=by simp [World.frozen?,q0]))| fail)
    all_goals
     obtain ⟨hm,hbl,_⟩:=HM5.out.push (x:=⟨s.a,s.group,decide (s.inner=0),s.text⟩) (((Below.refl _ _).alloc (Nat.le_refl _) _).drew) hgrow hown (Nat.le_trans HBB.out HB5.out.size)
     have HQ:=Lib.hid (And.intro hm (HB5.out.trans hbl))
     clear hm hbl hown hgrow hat hltt q0 q1 q2 g0 g1 g2 g3 c0 c1 c2 c3 c4 f0 f1
     generalize w4.setCell ⟨R,0,none⟩ (.slice (some ⟨gg,0,none⟩) (s.words.length+1) cap2)=W6 at HQ⊢
     obtain ⟨c0,c1,c2,c3,c4⟩:=HQ.out.1.cells
     have f1:=HQ.out.1.fz 1
     have hcl:=HQ.out.1.clear rfl
     have HE:Hid (Rw B R (.slice (some ⟨gg,0,none⟩) (s.words.length+1) cap2) (.slice p 0 cap) {s with words:=s.words++ [⟨s.a,s.group,decide (s.inner=0),s.text⟩],inner:=s.inner+1,text:= []} (W6.setCell ⟨R,1,none⟩ (.slice p 0 cap))∧Below B w (W6.setCell ⟨R,1,none⟩ (.slice p 0 cap))):=⟨hcl,HQ.out.2.setCell H.out.ge _⟩
     clear hcl
     go_wp2_with fail
     go_ret
     rw [←HR.out]
     simp only [HG.out,if_true]
     have hE:=HE.out.1
     have hW:=wf_end HF.out hn1 ⟨s.a,s.group,decide (s.inner=0),s.text⟩ (i:=s.inner+1) (by show s.inner+1≤_;have:=HF.out.n4;omega)
     rw [HG.out] at hE hW
     exact ⟨HE.out.2,rfl,hW,_,_,hE⟩
   ·rw [Bool.eq_false_iff.2 hg] at c3
    have HG:Hid (s.group=false):=Bool.eq_false_iff.2 hg
    clear hg
    have HM5:Hid (Rw B R vw (.slice p s.text.length cap) {s with inner:=s.inner} W):=HM.out
    have HS5:=HS
    have HB5:Hid (Below B w W):=HB1.out.mono HBB.out
    go_upto_region 6 with fail
    clear HM HS HB1 c3 c4 f4
    generalize W=W5 at HM5 HS5 HB5⊢
    obtain ⟨i0,hi,hz0,hz1,hz2⟩:=info_parts info_wd
    have HI:=Lib.hid (And.intro hi (And.intro hz0 (And.intro hz1 hz2)))
    clear hi hz0 hz1 hz2
    obtain ⟨⟨g0,g1,g2,g3⟩,_⟩:=wd_cells HS5.out
    obtain ⟨c0,c1,c2,c3,c4⟩:=HM5.out.cells
    have f0:=HM5.out.fz 0
    have f1:=HM5.out.fz 1
    have hbg:R < W5.heap.size:=HM5.out.lt
    have hgg:w.heap.size < W5.heap.size:=(Array.getElem?_eq_some_iff.1 HS5.out).1
    obtain ⟨pw,capw,rfl⟩:=row_form HM5.out.ws
    have hn1:s.words.length < 20000:=HF.out.n1 ht
    have hnb:(Value.slice pw s.words.length capw).ownBlock≠some R:=own_ne HM5.out.ws HM5.out.obj (by decide)
    go_region_law (first |((refine step_append_lies _ (by rfl) _ _ _ (by rfl) B 153 i0 (.agg #[.int .i64 0, .bool false, .bool false, .string ⟨#[]⟩]) 4 32 Tryz.underlying149 HI.out.1 HI.out.2.1 HI.out.2.2.1 HI.out.2.2.2 rfl (by omega) (.slice pw s.words.length capw) s.words.length _ (by rfl) ((HM5.out.ws.alloc _).drew) ⟨W5.heap.size,0,none⟩ 1 1 [.int .i64 (s.a:Int), .bool s.group, .bool (decide (s.inner=0)), .string ⟨s.text.toArray⟩] (by rfl) (by rfl) (World.news_of_block (cs:= #[.int .i64 (s.a:Int), .bool s.group, .bool (decide (s.inner=0)), .string ⟨s.text.toArray⟩]) (t:=153) (fr:=(0,0)) (heap_alloc_new W5 _)) (by simp [Value.oneCell']) (by omega) (by unfold maxLen;omega) (by omega) (by have:=HBB.out;have:=HB5.out.size;simp;omega) (W5.heap.size+1) (by simp) ?_;intro gg cap2 w4 hown hgrow hat hltt;have q0:=(HM5.out.push (x:=⟨s.a,s.group,decide (s.inner=0),s.text⟩) (((Below.refl _ _).alloc (Nat.le_refl _) _).drew) hgrow hown (Nat.le_trans HBB.out HB5.out.size)).2.2;have q1:w4.cell? ⟨R,0,none⟩=some _:=cell_of_row w4 R 0 _ _ (0,0) q0;have q2:w4.frozen? ⟨R,0,none⟩=false:=by simp [World.frozen?,q0]))| fail)
    all_goals
     obtain ⟨hm,hbl,_⟩:=HM5.out.push (x:=⟨s.a,s.group,decide (s.inner=0),s.text⟩) (((Below.refl _ _).alloc (Nat.le_refl _) _).drew) hgrow hown (Nat.le_trans HBB.out HB5.out.size)
     have HQ:=Lib.hid (And.intro hm (HB5.out.trans hbl))
     clear hm hbl hown hgrow hat hltt q0 q1 q2 g0 g1 g2 g3 c0 c1 c2 c3 c4 f0 f1
     generalize w4.setCell ⟨R,0,none⟩ (.slice (some ⟨gg,0,none⟩) (s.words.length+1) cap2)=W6 at HQ⊢
     obtain ⟨c0,c1,c2,c3,c4⟩:=HQ.out.1.cells
     have f1:=HQ.out.1.fz 1
     have hcl:=HQ.out.1.clear rfl
     have HE:Hid (Rw B R (.slice (some ⟨gg,0,none⟩) (s.words.length+1) cap2) (.slice p 0 cap) {s with words:=s.words++ [⟨s.a,s.group,decide (s.inner=0),s.text⟩],inner:=s.inner,text:= []} (W6.setCell ⟨R,1,none⟩ (.slice p 0 cap))∧Below B w (W6.setCell ⟨R,1,none⟩ (.slice p 0 cap))):=⟨hcl,HQ.out.2.setCell H.out.ge _⟩
     clear hcl
     go_wp2_with fail
     go_ret
     rw [←HR.out]
     simp only [HG.out,Bool.false_eq_true,if_false]
     have hE:=HE.out.1
     have hW:=wf_end HF.out hn1 ⟨s.a,s.group,decide (s.inner=0),s.text⟩ (i:=s.inner) (by show s.inner≤_;have:=HF.out.n4;omega)
     rw [HG.out] at hE hW
     exact ⟨HE.out.2,rfl,hW,_,_,hE⟩
end Go.Proofs.YtfldplmgkeiimaaGreatDoor.GW
namespace Go.Proofs.YtfldplmgkeiimaaGreatDoor.GW
open Go.RowKit Go.Proofs.YtfldplmgkeiimaaGreatDoor.Base Go.Proofs.YtfldplmgkeiimaaGreatDoor.Dp Go.Proofs.YtfldplmgkeiimaaGreatDoor.DeciW Go.Proofs.YtfldplmgkeiimaaGreatDoor.Mem Go.Proofs.YtfldplmgkeiimaaGreatDoor.RdW Go.Proofs.YtfldplmgkeiimaaGreatDoor.Gp
theorem wf_add {s:Ws} (h:Wf s) (hn:s.words.length < 20000) (ht:s.text.length < 10000) (a:Nat) (c:UInt8):Wf {s with text:=s.text++ [c],a:=a}:=
 ⟨h.n0,fun _=>hn,by simp;omega,h.n4⟩
set_option maxRecDepth 100000 in
set_option maxHeartbeats 6400000 in
theorem take_c (B R:Nat) (s:Ws) (vw vt:Value) (w:World) (hB:B≤w.heap.size) (H:Hid (Rw B R vw vt s w)) (hf:Wf s) (c:UInt8) (x:Int) (hx:Hid ((c.toNat:Int)=x)) (i:Nat) (hi:i≤1000000) (res:Except Nat Ws) (hres:Hid (takeW s c i=res)):
  Calls Tryz.prog 88 #[.pointer (some ⟨R,0,none⟩), .int .u8 x, .int .i64 (i:Int)] w (TOut B R w res):=by
 have HBB:=Lib.hid hB
 have HF:=Lib.hid hf
 clear hf
 have hc256:=c.toNat_lt
 have hxx:=hx.out
 obtain ⟨c0,c1,c2,c3,c4⟩:=H.out.cells
 have hfz:=H.out.fz
 obtain ⟨p,cap,rfl,hrd,hln⟩:=row_reads H.out.tx
 obtain ⟨pw,capw,rfl⟩:=row_form H.out.ws
 clear hrd hln
 have hl:=hres.out
 unfold takeW at hl
 clear hres
 by_cases h13:c=13∨c=10
 ·rw [if_pos h13] at hl
  have HR:=Lib.hid hl
  have HE:Hid (Wf s∧∃vw vt,Rw B R vw vt s w):=⟨HF.out,_,_,H.out⟩
  clear hl
  have hx0:x=13∨x=10:=by
   rcases h13 with rfl | rfl
   ·exact .inl (by rw [←hxx];rfl)
   ·exact .inr (by rw [←hxx];rfl)
  clear h13 hxx hx hc256
  rcases hx0 with rfl | rfl
  all_goals
   go_enter Tryz.func88,Tryz.ntmps88
   go_wp2_with fail
   go_ret
   rw [←HR.out]
   exact ⟨Below.refl _ _,rfl,HE.out⟩
 ·rw [if_neg h13] at hl
  have e13:(x==13)=false:=by
   rw [Bool.eq_false_iff];intro h;apply h13;left;apply UInt8.toNat.inj;have:x=13:=by simpa using h
   show c.toNat=13;omega
  have e10:(x==10)=false:=by
   rw [Bool.eq_false_iff];intro h;apply h13;right;apply UInt8.toNat.inj;have:x=10:=by simpa using h
   show c.toNat=10;omega
  by_cases h32:c.toNat < 32∨126 < c.toNat
  ·rw [if_pos h32] at hl
   have HR:=Lib.hid hl
   clear hl
   by_cases h1:x < 32
   ·clear h32 h13 hxx hx hc256
    go_enter Tryz.func88,Tryz.ntmps88
    go_wp2_with fail
    go_ret
    rw [←HR.out]
    exact ⟨Below.refl _ _,rfl⟩
   ·have h2:126 < x:=by omega
    clear h32 h13 hxx hx hc256
    go_enter Tryz.func88,Tryz.ntmps88
    go_wp2_with fail
    go_ret
    rw [←HR.out]
    exact ⟨Below.refl _ _,rfl⟩
  ·rw [if_neg h32] at hl
   have h1:32≤x:=by omega
   have h2:x≤126:=by omega
   by_cases h42:c=42
   ·rw [if_pos h42] at hl
    have HR:=Lib.hid hl
    have hx0:x=42:=by rw [←hxx,h42];rfl
    subst hx0
    clear hl h42 h32 h13 hxx hx hc256 e13 e10 h1 h2 c0 c1 c2 c3 c4 hfz
    go_enter Tryz.func88,Tryz.ntmps88
    go_wp2_with fail
    with_reducible refine (end_c B R s _ _ w HBB.out H HF.out res HR).mono ?_
    rintro e w2 ⟨hb,hr⟩
    cases res with
    | error k=>
     obtain rfl:=hr
     have HB2:=Lib.hid hb
     clear hb
     go_wp2_with fail
     go_ret
     exact ⟨HB2.out,rfl⟩
    | ok s'=>
     obtain ⟨rfl,hr⟩:=hr
     have HB2:=Lib.hid (And.intro hb hr)
     clear hb hr
     go_wp2_with fail
     go_ret
     exact ⟨HB2.out.1,rfl,HB2.out.2⟩
   ·rw [if_neg h42] at hl
    have e42:(x==42)=false:=by
     rw [Bool.eq_false_iff];intro h;apply h42;apply UInt8.toNat.inj;have:x=42:=by simpa using h
     show c.toNat=42;omega
    by_cases h37:c=37
    ·rw [if_pos h37] at hl
     have hx0:x=37:=by rw [←hxx,h37];rfl
     subst hx0
     clear h37 h42 h32 h13 hxx hx hc256 e13 e10 e42 h1 h2
     by_cases hbad:s.text≠ []∨(s.group=true∧s.inner=0)
     ·rw [if_pos hbad] at hl
      have HR:=Lib.hid hl
      clear hl
      by_cases ht:s.text.length=0
      ·have hg:s.group=true∧s.inner=0:=hbad.resolve_left (fun h=>h (List.eq_nil_of_length_eq_zero ht))
       rw [hg.1] at c3
       rw [hg.2] at c4
       rw [ht] at c1
       clear hbad hg ht
       go_enter Tryz.func88,Tryz.ntmps88
       go_wp2_with fail
       go_ret
       rw [←HR.out]
       exact ⟨Below.refl _ _,rfl⟩
      ·have hpos:0 < s.text.length:=by omega
       clear hbad ht
       go_enter Tryz.func88,Tryz.ntmps88
       go_wp2_with fail
       go_ret
       rw [←HR.out]
       exact ⟨Below.refl _ _,rfl⟩
     ·rw [if_neg hbad] at hl
      have HR:=Lib.hid hl
      have ht:s.text= []:=Classical.byContradiction fun h=>hbad (.inl h)
      have ht0:s.text.length=0:=by rw [ht];rfl
      have hgi:s.group=false∨¬s.inner=0:=by
       cases hg:s.group with
       | false=>exact .inl rfl
       | true=>exact .inr fun h=>hbad (.inr ⟨hg,h⟩)
      rw [ht0] at c1
      have HE1:Hid (Rw B R (.slice pw s.words.length capw) (.slice p s.text.length cap) {s with group:=!s.group} (w.setCell ⟨R,3,none⟩ (.bool (!s.group)))):=H.out.turn _
      have HB1:Hid (Below B w (w.setCell ⟨R,3,none⟩ (.bool (!s.group)))):=(Below.refl _ _).setCell (p:=⟨R,3,none⟩) H.out.ge _
      have HE2:Hid (Rw B R (.slice pw s.words.length capw) (.slice p s.text.length cap) {s with group:=!s.group,inner:=0} ((w.setCell ⟨R,3,none⟩ (.bool (!s.group))).setCell ⟨R,4,none⟩ (.int .i64 0))):=HE1.out.inn 0 0 rfl
      have HB2:Hid (Below B w ((w.setCell ⟨R,3,none⟩ (.bool (!s.group))).setCell ⟨R,4,none⟩ (.int .i64 0))):=HB1.out.setCell (p:=⟨R,4,none⟩) H.out.ge _
      have HW:Hid (Wf {s with group:=!s.group,inner:=0}):=⟨HF.out.n0,HF.out.n1,HF.out.n2,Nat.zero_le _⟩
      clear hl hbad ht ht0
      have q4:(w.setCell ⟨R,3,none⟩ (.bool (!s.group))).cell? ⟨R,4,none⟩=_:=HE1.out.cells.2.2.2.2
      have f4:(w.setCell ⟨R,3,none⟩ (.bool (!s.group))).frozen? ⟨R,4,none⟩=_:=HE1.out.fz 4
      rcases hgi with hg | hi0
      ·generalize hgg:(!s.group)=ng at HR HE1 HB1 HE2 HB2 HW q4 f4
       have hng:ng=true:=by rw [←hgg,hg];rfl
       clear hgg
       rw [hg] at c3
       subst hng
       clear hg
       go_enter Tryz.func88,Tryz.ntmps88
       go_wp2_with fail
       go_ret
       rw [←HR.out]
       exact ⟨HB2.out,rfl,HW.out,_,_,HE2.out⟩
      ·have hi1:((s.inner:Int)==0)=false:=by simp;omega
       clear hi0
       go_enter Tryz.func88,Tryz.ntmps88
       generalize hgg:s.group=g0 at c3 HR HE1 HB1 HE2 HB2 HW q4 f4
       clear hgg
       cases g0
       all_goals
        go_wp2_with fail
        go_ret
        rw [←HR.out]
        exact ⟨HB2.out,rfl,HW.out,_,_,HE2.out⟩
    ·rw [if_neg h37] at hl
     have e37:(x==37)=false:=by
      rw [Bool.eq_false_iff];intro h;apply h37;apply UInt8.toNat.inj;have:x=37:=by simpa using h
      show c.toNat=37;omega
     clear h37 h42 h32 h13 hc256
     by_cases ht:s.text= []
     ·rw [if_pos ht] at hl
      have ht0:s.text.length=0:=by rw [ht];rfl
      have HT:=Lib.hid ht
      rw [ht0] at c1
      by_cases hw:s.words.length=20000
      ·rw [if_pos hw] at hl
       have HR:=Lib.hid hl
       rw [hw] at c0
       clear hl ht ht0 hw hxx
       go_enter Tryz.func88,Tryz.ntmps88
       go_wp2_with fail
       go_ret
       rw [←HR.out]
       exact ⟨Below.refl _ _,rfl⟩
      ·rw [if_neg hw] at hl
       unfold addW at hl
       rw [if_neg (show ¬({s with a:=i}:Ws).text.length=10000 by show ¬s.text.length=10000;rw [ht0];omega)] at hl
       have HR:=Lib.hid hl
       have hw1:((s.words.length:Int)==20000)=false:=by simp;omega
       have HW20:Hid (s.words.length < 20000):=by show _ < _;have:=HF.out.n0;omega
       have hM:=H.out.at i
       rw [ht0] at hM
       have HM:Hid (Rw B R (.slice pw s.words.length capw) (.slice p 0 cap) {s with a:=i} (w.setCell ⟨R,2,none⟩ (.int .i64 (i:Int)))):=hM
       have HB1:Hid (Below B w (w.setCell ⟨R,2,none⟩ (.int .i64 (i:Int)))):=(Below.refl _ _).setCell (p:=⟨R,2,none⟩) H.out.ge _
       have HL:Hid (s.text.length=0):=ht0
       clear hl hw hM ht0 hxx ht
       go_enter Tryz.func88,Tryz.ntmps88
       go_upto_region 17 with fail
       obtain ⟨_,d1,_⟩:=HM.out.cells
       have TX:=Lib.hid (row_clear (H.out.at i).tx)
       generalize w.setCell ⟨R,2,none⟩ (.int .i64 (i:Int))=W1 at HM HB1 TX d1⊢
       obtain ⟨i0,hi0,hz0,hz1,hz2⟩:=info_parts info_u8
       have HI:=Lib.hid (And.intro hi0 (And.intro hz0 (And.intro hz1 hz2)))
       clear hi0 hz0 hz1 hz2
       go_wp2_with (at_builtin;refine wpList_append_own _ rfl _ _ _ rfl B 5 i0 (.int .u8 0) 1 1 Tryz.underlying52 HI.out.1 HI.out.2.1 HI.out.2.2.1 HI.out.2.2.2 rfl (by omega) (.slice p 0 cap) 0 ([]) (by rfl) (TX.out.alloc _) ⟨(W1).heap.size,0,none⟩ 1 1 [.int .u8 x] (by rfl) rfl (World.news_of_block (heap_alloc_new (W1) _)) (by simp [Value.oneCell']) (by unfold maxLen;omega) (by omega) (by have:=HBB.out;have:=HB1.out.size;simp <;> omega) ?_;intro v' w' hown' hgrow' hnn';obtain ⟨g',cap',rfl,_,_⟩:=hown'.form (by omega);rw [←hx.out] at hown';obtain ⟨hr',hb',ho'⟩:=HM.out.add (c:=c) (v':= .slice (some ⟨g',0,none⟩) (0+1) cap') ((Below.refl _ _).alloc (Nat.le_refl _) _) hgrow' (by rw [HT.out];exact hown') (Nat.le_trans HBB.out HB1.out.size);have HR':=Lib.hid (And.intro hr' (HB1.out.trans hb'));have c1':w'.cell? ⟨R,1,none⟩=some _:=cell_of_row w' R 1 _ _ (0,0) ho';have f1':w'.frozen? ⟨R,1,none⟩=false:=(by simp [World.frozen?,ho']);clear hr' hb' ho' hown' hgrow' hnn')
       go_ret
       rw [←HR.out]
       exact ⟨HR'.out.2,rfl,wf_add HF.out HW20.out (by have:=HL.out;omega) i c,_,_,HR'.out.1⟩
     ·rw [if_neg ht] at hl
      have hpos:((s.text.length:Int)==0)=false:=by have:=List.length_pos_iff.2 ht;simp;omega
      have HT:=Lib.hid ht
      unfold addW at hl
      by_cases hn:s.text.length=10000
      ·rw [if_pos hn] at hl
       have HR:=Lib.hid hl
       rw [hn] at c1
       clear hl hn ht hpos hxx
       go_enter Tryz.func88,Tryz.ntmps88
       go_wp2_with fail
       go_ret
       rw [←HR.out]
       exact ⟨Below.refl _ _,rfl⟩
      ·rw [if_neg hn] at hl
       have HR:=Lib.hid hl
       have hn1:((s.text.length:Int)==10000)=false:=by simp;omega
       have hn2:s.text.length < 10000:=by have:=HF.out.n2;omega
       have HM:Hid (Rw B R (.slice pw s.words.length capw) (.slice p s.text.length cap) s w):=H.out
       have HB1:Hid (Below B w w):=Below.refl _ _
       have TX:=Lib.hid H.out.tx
       clear hl hn ht hxx
       go_enter Tryz.func88,Tryz.ntmps88
       obtain ⟨i0,hi0,hz0,hz1,hz2⟩:=info_parts info_u8
       have HI:=Lib.hid (And.intro hi0 (And.intro hz0 (And.intro hz1 hz2)))
       clear hi0 hz0 hz1 hz2
       go_wp2_with (at_builtin;refine wpList_append_own _ rfl _ _ _ rfl B 5 i0 (.int .u8 0) 1 1 Tryz.underlying52 HI.out.1 HI.out.2.1 HI.out.2.2.1 HI.out.2.2.2 rfl (by omega) (.slice p s.text.length cap) s.text.length (byteVs s.text) (by rfl) (TX.out.alloc _) ⟨(w).heap.size,0,none⟩ 1 1 [.int .u8 x] (by rfl) rfl (World.news_of_block (heap_alloc_new (w) _)) (by simp [Value.oneCell']) (by unfold maxLen;omega) (by omega) (by have:=HBB.out;have:=HB1.out.size;simp <;> omega) ?_;intro v' w' hown' hgrow' hnn';obtain ⟨g',cap',rfl,_,_⟩:=hown'.form (by omega);rw [←hx.out] at hown';obtain ⟨hr',hb',ho'⟩:=HM.out.add (c:=c) (v':= .slice (some ⟨g',0,none⟩) (s.text.length+1) cap') ((Below.refl _ _).alloc (Nat.le_refl _) _) hgrow' (hown') (Nat.le_trans HBB.out HB1.out.size);have HR':=Lib.hid (And.intro hr' (HB1.out.trans hb'));have c1':w'.cell? ⟨R,1,none⟩=some _:=cell_of_row w' R 1 _ _ (0,0) ho';have f1':w'.frozen? ⟨R,1,none⟩=false:=(by simp [World.frozen?,ho']);clear hr' hb' ho' hown' hgrow' hnn')
       go_ret
       rw [←HR.out]
       exact ⟨HR'.out.2,rfl,wf_add HF.out (HF.out.n1 HT.out) hn2 s.a c,_,_,HR'.out.1⟩
end Go.Proofs.YtfldplmgkeiimaaGreatDoor.GW
namespace Go.Proofs.YtfldplmgkeiimaaGreatDoor.GW
open Go.RowKit Go.Proofs.YtfldplmgkeiimaaGreatDoor.Base Go.Proofs.YtfldplmgkeiimaaGreatDoor.Dp Go.Proofs.YtfldplmgkeiimaaGreatDoor.DeciW Go.Proofs.YtfldplmgkeiimaaGreatDoor.Mem Go.Proofs.YtfldplmgkeiimaaGreatDoor.RdW Go.Proofs.YtfldplmgkeiimaaGreatDoor.Gp
def WordsOut (ws:List Wd) (i e:Nat) (w:World) (en:Ending) (w':World):Prop:=
 ∃v,en= .returned (.tuple #[v, .int .i64 (i:Int), .int .i64 (e:Int)])∧w'.ownsRow w.heap.size 153 4 v ws.length (wdsV ws)∧Below w.heap.size w w'
theorem words_nil (w:World) (B:Nat):w.ownsRow B 153 4 (.slice none 0 0) ([]:List Wd).length (wdsV []):=⟨rfl, .inl ⟨rfl,rfl⟩⟩
def after (k:Nat) (r:List UInt8):Except Nat Ws→Except (Nat × Nat) Ws
 | .error e=> .error (k,e)
 | .ok s'=>goW r (k+1) s'
theorem goW_at {l:List UInt8} {k:Nat} (h:k < l.length) (s:Ws):goW (l.drop k) k s=after k (l.drop (k+1)) (takeW s l[k] k):=by
 rw [List.drop_eq_getElem_cons h]
 unfold after
 rfl
theorem takeW_er {s:Ws} {c:UInt8} {i e:Nat} (h:takeW s c i= .error e):0 < e:=by
 unfold takeW endW addW at h
 repeat' split at h
 all_goals first |(injection h with h;omega)| cases h
theorem rw_new (w:World):Rw w.heap.size w.heap.size (.slice none 0 0) (.slice none 0 0) ws0 (w.alloc (wrObj (.slice none 0 0) (.slice none 0 0) 0 false 0)):=
 ⟨Nat.le_refl _,heap_alloc_new w _,⟨rfl, .inl ⟨rfl,rfl⟩⟩,⟨rfl, .inl ⟨rfl,rfl⟩⟩⟩
theorem wf0:Wf ws0:=⟨by decide,fun h=>absurd rfl h,by decide,Nat.le_refl _⟩
set_option maxRecDepth 100000 in
set_option maxHeartbeats 3200000 in
theorem words_c (S:ByteArray) (hm:S.size≤maxLen) (w:World) (ws:List Wd) (i e:Nat) (hw:Hid (wordsV S.data.toList=(ws,i,e))):
  Calls Tryz.prog 61 #[.string S] w (WordsOut ws i e w):=by
 unfold maxLen at hm
 have hlen:S.data.toList.length=S.size:=len_list S
 have hx:=hw.out
 unfold wordsV at hx
 by_cases hbig:1000000 <(S.size:Int)
 ·rw [if_pos (by omega)] at hx
  simp only [Prod.mk.injEq] at hx
  obtain ⟨rfl,rfl,rfl⟩:=hx
  clear hlen
  go_enter Tryz.func61,Tryz.ntmps61
  go_wp2_with fail
  go_ret3
  exact ⟨_,rfl,words_nil w _,Below.refl _ _⟩
 ·rw [if_neg (by omega)] at hx
  have HX:=Lib.hid hx
  have hS:S.size≤1000000:=by omega
  have HR:Hid (Rw w.heap.size w.heap.size (.slice none 0 0) (.slice none 0 0) ws0 (w.alloc (wrObj (.slice none 0 0) (.slice none 0 0) 0 false 0))):=rw_new w
  have HB:Hid (Below w.heap.size w (w.alloc (wrObj (.slice none 0 0) (.slice none 0 0) 0 false 0))):=(Below.refl _ _).alloc (Nat.le_refl _) _
  clear hx hlen hw
  go_enter Tryz.func61,Tryz.ntmps61
  go_wp2_with fail
  go_loopw [6] (fun x wr=>∃(k:Nat) (s:Ws) (vw vt:Value),k≤S.size∧Hid (Wf s∧Rw w.heap.size w.heap.size vw vt s wr∧Below w.heap.size w wr∧goW (S.data.toList.drop k) k s=goW S.data.toList 0 ws0)∧x= .int .i64 (k:Int)) (fun x _=>S.size -(intOf x).toNat)
  case atStart=>exact ⟨0,ws0,_,_,Nat.zero_le _,⟨wf0,HR.out,HB.out,rfl⟩,rfl⟩
  case round=>
  obtain ⟨k,s,vw,vt,hk,H,rfl⟩:=hrel
  by_cases hlt:k < S.size
  ·have hkl:k < S.data.toList.length:=by rw [len_list];exact hlt
   obtain ⟨x,hxx⟩:∃x,(S[k].toNat:Int)=x:=⟨_,rfl⟩
   have HXX:=Lib.hid hxx
   obtain ⟨res,hres⟩:∃res,takeW s S[k] k=res:=⟨_,rfl⟩
   have HRES:=Lib.hid hres
   have hgo:goW S.data.toList 0 ws0=after k (S.data.toList.drop (k+1)) res:=by
    rw [←H.out.2.2.2,goW_at hkl,getl S k hlt,hres]
   have HGO:=Lib.hid hgo
   have hlti:(k:Int)<(S.size:Int):=by omega
   clear hgo hres
   go_wp2_with fail
   with_reducible refine (take_c w.heap.size w.heap.size s vw vt _ H.out.2.2.1.size (Lib.hid H.out.2.1) H.out.1 S[k] x HXX k (by omega) res HRES).mono ?_
   rintro en w2 ⟨hb,hr⟩
   cases res with
   | error ec=>
    obtain rfl:=hr
    have hec:=takeW_er HRES.out
    have hx2:=HX.out
    rw [HGO.out] at hx2
    simp only [after,Prod.mk.injEq] at hx2
    obtain ⟨rfl,rfl,rfl⟩:=hx2
    have HB2:=Lib.hid (H.out.2.2.1.trans hb)
    have hne:((ec:Int)==0)=false:=by simp;omega
    have hne2:((ec:Int) !=0)=true:=by simp;omega
    clear hb hec
    go_wp2_with fail
    go_ret3
    exact ⟨_,rfl,words_nil _ _,HB2.out⟩
   | ok s'=>
    obtain ⟨rfl,hwf,vw',vt',hrw⟩:=hr
    have HN:Hid (Wf s'∧Rw w.heap.size w.heap.size vw' vt' s' w2∧Below w.heap.size w w2∧goW (S.data.toList.drop (k+1)) (k+1) s'=goW S.data.toList 0 ws0):=⟨hwf,hrw,H.out.2.2.1.trans hb,HGO.out.symm⟩
    clear hb hwf hrw
    go_wp2_with fail
    go_round <;> first | exact ⟨k+1,s',vw',vt',by omega,HN.out,by go_num⟩|(simp [intOf] <;> omega)
  ·have hk2:k=S.size:=by omega
   have hgo:goW S.data.toList 0 ws0= .ok s:=by
    rw [←H.out.2.2.2,List.drop_eq_nil_of_le (by rw [len_list];omega)]
    rfl
   have hx2:=HX.out
   rw [hgo] at hx2
   obtain ⟨c0,c1,c2,c3,c4⟩:=H.out.2.1.cells
   obtain ⟨p,cap,rfl,hrd,hln⟩:=row_reads H.out.2.1.tx
   obtain ⟨pw,capw,rfl⟩:=row_form H.out.2.1.ws
   have hlti:¬((k:Int)<(S.size:Int)):=by omega
   clear hrd hln hgo
   by_cases hbad:s.text≠ []∨s.group=true
   ·simp only [] at hx2
    rw [if_pos hbad,len_list] at hx2
    simp only [Prod.mk.injEq] at hx2
    obtain ⟨rfl,rfl,rfl⟩:=hx2
    have HE:Hid (Below w.heap.size w wr):=H.out.2.2.1
    by_cases ht:s.text.length=0
    ·have hg:s.group=true:=hbad.resolve_left (fun h=>h (List.eq_nil_of_length_eq_zero ht))
     rw [hg] at c3
     rw [ht] at c1
     clear hbad hg ht
     go_wp2_with fail
     go_ret3
     exact ⟨_,rfl,words_nil _ _,HE.out⟩
    ·have hpos:0 < s.text.length:=by omega
     clear hbad ht
     go_wp2_with fail
     go_ret3
     exact ⟨_,rfl,words_nil _ _,HE.out⟩
   ·simp only [] at hx2
    rw [if_neg hbad] at hx2
    simp only [Prod.mk.injEq] at hx2
    obtain ⟨rfl,rfl,rfl⟩:=hx2
    have ht:s.text.length=0:=by
     rw [List.length_eq_zero_iff]
     exact Classical.byContradiction fun h=>hbad (.inl h)
    have hg:s.group=false:=Bool.eq_false_iff.2 fun h=>hbad (.inr h)
    rw [hg] at c3
    rw [ht] at c1
    clear hbad hg ht
    go_wp2_with fail
    go_ret3
    exact ⟨_,rfl,H.out.2.1.ws,H.out.2.2.1⟩
end Go.Proofs.YtfldplmgkeiimaaGreatDoor.GW
