/-
  Several texts of this proof in one: Qy, Zd.
-/
import Derived.Test.YtfldplmgkeiimaaGreatDoorQ12
set_option linter.unusedVariables false
set_option linter.unusedSimpArgs false
namespace Go.Proofs.YtfldplmgkeiimaaGreatDoor.VW
open Go.RowKit Go.Proofs.YtfldplmgkeiimaaGreatDoor.Vp
set_option maxRecDepth 100000 in
set_option maxHeartbeats 12800000 in
theorem plAdd_c (w0:World) (P:Nat) (R:Nat→Prop) (m L:Nat) (fu:Int) (cv ov:Value) (cx ox:List Value) (p:Pl) (d:Bool) (b:Bs) (s:Ps) (pl:Option Addr) (cl:Nat) (pp:Option Addr) (cp:Nat) (w:World) (H:Hid (PlAt w0 P R m L fu cv ov cx ox p w)) (HS:Hid (ShIn R w pl cl pp cp ⟨b,s⟩)) (hob:p.top.objs.length≤1000000) (hmd:0≤p.made∧p.made≤1000000) (res:Except Nat Pl) (hres:Hid (addO p d ⟨b,s⟩=res)):
  Calls Tryz.prog 145 #[.pointer (some ⟨P,0,none⟩), .bool d,shV b (.slice pl b.l.length cl) (.slice pp s.len cp)] w fun e w'=>PlRes w0 P res e w':=by
 obtain ⟨k,⟨ax,ay⟩,⟨bx,bz⟩,⟨cx0,cy0⟩,r,l⟩:=b
 obtain ⟨v,hv⟩:∃v,okV ⟨⟨k,(ax,ay),(bx,bz),(cx0,cy0),r,l⟩,s⟩=v:=⟨_,rfl⟩
 have HV:=Lib.hid hv
 have HR:Hid ((if v=false then .error 5 else if p.budget≤p.made then .error 6 else .ok {p with made:=p.made+1,top:={p.top with objs:=p.top.objs++ [(d,⟨⟨k,(ax,ay),(bx,bz),(cx0,cy0),r,l⟩,s⟩)]}})=res):=by rw [←hres.out];show _=_;unfold addO;rw [hv]
 clear hv hres
 show Calls _ _ #[.pointer (some ⟨P,0,none⟩), .bool d, .agg #[.int .i64 k, .int .i64 ax, .int .i64 ay, .int .i64 bx, .int .i64 bz, .int .i64 cx0, .int .i64 cy0, .int .i64 r, .slice pl l.length cl, .slice pp s.len cp]] w _
 go_enter Tryz.func145,Tryz.ntmps145
 go_upto_region 1 with fail
 have HD:Hid ((w.alloc (.cells #[.int .i64 k, .int .i64 ax, .int .i64 ay, .int .i64 bx, .int .i64 bz, .int .i64 cx0, .int .i64 cy0, .int .i64 r, .slice pl l.length cl, .slice pp s.len cp] tSh)).heap[w.heap.size]?=some (.cells #[.int .i64 k, .int .i64 ax, .int .i64 ay, .int .i64 bx, .int .i64 bz, .int .i64 cx0, .int .i64 cy0, .int .i64 r, .slice pl l.length cl, .slice pp s.len cp] tSh)):=alloc_new _ _
 have H1:=Lib.hid (H.out.below (bel_alloc w (.cells #[.int .i64 k, .int .i64 ax, .int .i64 ay, .int .i64 bx, .int .i64 bz, .int .i64 cx0, .int .i64 cy0, .int .i64 r, .slice pl l.length cl, .slice pp s.len cp] tSh)))
 have HS1:=Lib.hid (HS.out.below (bel_alloc w (.cells #[.int .i64 k, .int .i64 ax, .int .i64 ay, .int .i64 bx, .int .i64 bz, .int .i64 cx0, .int .i64 cy0, .int .i64 r, .slice pl l.length cl, .slice pp s.len cp] tSh)))
 generalize w.alloc (.cells #[.int .i64 k, .int .i64 ax, .int .i64 ay, .int .i64 bx, .int .i64 bz, .int .i64 cx0, .int .i64 cy0, .int .i64 r, .slice pl l.length cl, .slice pp s.len cp] tSh)=W at HD H1 HS1⊢
 obtain ⟨D,hD⟩:∃D,w.heap.size=D:=⟨_,rfl⟩
 rw [hD] at HD⊢
 clear hD H HS
 obtain ⟨s0,s1,s2,s3,s4,s5,s6,s7,s8,s9⟩:=sh_at HD.out
 go_wp2_with fail
 with_reducible refine (ok_c R ⟨k,(ax,ay),(bx,bz),(cx0,cy0),r,l⟩ s pl cl pp cp _ HS1 v HV).mono ?_
 rintro e W1 ⟨rfl,hb⟩
 have HD1:=Lib.hid (one_below HD.out hb)
 have H2:=Lib.hid (H1.out.below hb)
 have HS2:=Lib.hid (HS1.out.below hb)
 clear s0 s1 s2 s3 s4 s5 s6 s7 s8 s9 hb HD H1 HS1
 cases v with
 | false=>
  have HF:Hid (.error 5=res):=HR.out
  go_wp2_with fail
  go_ret
  rw [←HF.out]
  exact ⟨H2.out.bel,rfl⟩
 | true=>
  have c22:=cell_of (i:=22) H2.out.pl rfl
  have c23:=cell_of (i:=23) H2.out.pl rfl
  by_cases hbu:p.budget≤p.made
  ·have HF:Hid (.error 6=res):=by rw [←HR.out];show _=_;simp [hbu]
   have hd:decide (p.budget≤p.made)=true:=decide_eq_true hbu
   go_upto_region 3 with fail
   go_quiet (fail)
   go_wp2_with fail
   go_ret
   rw [←HF.out]
   exact ⟨bel_drewN H2.out.bel _,rfl⟩
  ·have HF:Hid (.ok {p with made:=p.made+1,top:={p.top with objs:=p.top.objs++ [(d,⟨⟨k,(ax,ay),(bx,bz),(cx0,cy0),r,l⟩,s⟩)]}}=res):=by rw [←HR.out];show _=_;simp [hbu]
   have hd:decide (p.budget≤p.made)=false:=decide_eq_false hbu
   have hw:IntKind.i64.wrap (p.made+1)=p.made+1:=IntWalk.i64_in _ (by omega)
   go_upto_region 3 with fail
   go_quiet (fail)
   have H3:=Lib.hid (H2.out.below (bel_drewN (Below.refl _ _) nq))
   have HS3:=Lib.hid (HS2.out.below (bel_drewN (Below.refl _ _) nq))
   have HD3:=Lib.hid (one_below HD1.out (bel_drewN (Below.refl _ _) nq))
   clear c22 c23 hd H2 HS2 HD1 HR HV
   generalize W1.drewN nq=W2 at H3 HS3 HD3⊢
   have c22:=cell_of (i:=22) H3.out.pl rfl
   have f22:=cells_f0 H3.out.pl 22
   go_upto_region 6 with fail
   have hK:Keep (fun k=>k≠P) W2 (W2.setCell ⟨P,22,none⟩ (.int .i64 (p.made+1))):=Keep.set (a:=⟨P,22,none⟩) (fun hk=>hk rfl) _
   have H4:Hid (PlAt w0 P R m L fu cv ov cx ox {p with made:=p.made+1} (W2.setCell ⟨P,22,none⟩ (.int .i64 (p.made+1)))):=H3.out.setP hK (by have:=set_at (k:=P) (i:=22) (.int .i64 (p.made+1)) H3.out.pl;exact this) rfl rfl rfl rfl rfl
   have HS4:=Lib.hid (HS3.out.keep (hK.mono fun k _ hk e=>H3.out.rP (e ▸ hk)))
   have HD4:=Lib.hid (hK.get (ne_of_type HD3.out H3.out.pl (by decide)) HD3.out)
   clear c22 f22 hK H3 HS3 HD3
   generalize W2.setCell ⟨P,22,none⟩ (.int .i64 (p.made+1))=W3 at H4 HS4 HD4⊢
   have c21:W3.cell? ⟨P,21,none⟩=some (.slice (some ⟨L,0,none⟩) 1 1):=cell_of (i:=21) H4.out.pl rfl
   go_quiet (fail)
   have H5:=Lib.hid (H4.out.below (bel_drewN (Below.refl _ _) nq))
   have HS5:=Lib.hid (HS4.out.below (bel_drewN (Below.refl _ _) nq))
   have HD5:=Lib.hid (one_below HD4.out (bel_drewN (Below.refl _ _) nq))
   clear c21 H4 HS4 HD4
   generalize W3.drewN nq=W4 at H5 HS5 HD5⊢
   obtain ⟨n,hn⟩:∃n,p.top.objs.length=n:=⟨_,rfl⟩
   have HNn:=Lib.hid hn
   have hown0:World.ownsRow W4 w0.heap.size tOb 11 ov p.top.objs.length ox:=H5.out.ob
   rw [hn] at hob hown0
   clear hn
   obtain ⟨po,co,rfl⟩:=row_form hown0
   have HOW:=Lib.hid hown0
   clear hown0
   obtain ⟨s0,s1,s2,s3,s4,s5,s6,s7,s8,s9⟩:=sh_at HD5.out
   have l6:W4.cell? ⟨L,6,none⟩=some (.slice po n co):=cell_of (i:=6) H5.out.lv rfl
   have fl:=cells_f0 H5.out.lv 6
   have hsz:=H5.out.bel.size
   obtain ⟨i0,hi,hz0,hz1,hz2⟩:=info_parts info_ob
   have HI:=Lib.hid (And.intro hi (And.intro hz0 (And.intro hz1 hz2)))
   clear hi hz0 hz1 hz2
   have HXO:Hid ((W4.drew.alloc (.cells #[.bool false, .int .i64 0, .int .i64 0, .int .i64 0, .int .i64 0, .int .i64 0, .int .i64 0, .int .i64 0, .int .i64 0, .slice none 0 0, .slice none 0 0] tOb)).ownsRow w0.heap.size tOb 11 (.slice po n co) n ox):=HOW.out.drew.alloc _
   have hkey:∀(w4:World),(W4.drew.alloc (.cells #[.bool false, .int .i64 0, .int .i64 0, .int .i64 0, .int .i64 0, .int .i64 0, .int .i64 0, .int .i64 0, .int .i64 0, .slice none 0 0, .slice none 0 0] tOb)).grownBy w4 (Value.slice po n co).ownBlock→w4.cell? ⟨L,6,none⟩=some (.slice po n co)∧w4.frozen? ⟨L,6,none⟩=false∧∃lc,w4.heap[L]?=some (.cells lc tLv):=by
    intro w4 hg4
    have hL4:(W4.drew.alloc (.cells #[.bool false, .int .i64 0, .int .i64 0, .int .i64 0, .int .i64 0, .int .i64 0, .int .i64 0, .int .i64 0, .int .i64 0, .slice none 0 0, .slice none 0 0] tOb)).heap[L]?=some (.cells (lvCs (.slice po n co)) tLv):=one_below H5.out.lv ((Below.refl _ _).drew.alloc (Nat.le_refl _) _)
    have h1:w4.heap[L]?=some (.cells (lvCs (.slice po n co)) tLv):=(hg4.block _ (lt_of_heap hL4) (Ne.symm (own_other HXO.out hL4 (by decide)))).trans hL4
    exact ⟨cell_of h1 rfl,cells_f0 h1 6,_,h1⟩
   have hn1:(n:Int)<(n:Int)+1:=by omega
   have hDlt:=lt_of_heap HD5.out
   have hLlt:=lt_of_heap H5.out.lv
   have hxl:ox.length=n *11:=HOW.out.1
   go_upto_region 7 with fail
   go_region_law (first |(refine step_append_lies _ (by rfl) _ _ _ (by rfl) w0.heap.size tOb i0 zOb 11 120 Tryz.underlying47 HI.out.1 HI.out.2.1 HI.out.2.2.1 HI.out.2.2.2 rfl (by omega) (.slice po n co) n _ (by rfl) HXO.out ⟨W4.heap.size,0,none⟩ 1 1 [.bool false, .int .i64 0, .int .i64 0, .int .i64 0, .int .i64 0, .int .i64 0, .int .i64 0, .int .i64 0, .int .i64 0, .slice none 0 0, .slice none 0 0] (by rfl) (by rfl) (World.news_of_block (cs:= #[.bool false, .int .i64 0, .int .i64 0, .int .i64 0, .int .i64 0, .int .i64 0, .int .i64 0, .int .i64 0, .int .i64 0, .slice none 0 0, .slice none 0 0]) (t:=tOb) (fr:=(0,0)) (heap_alloc_new W4 _)) (by simp [Value.oneCell']) (by omega) (by unfold maxLen;omega) (by omega) (by simp;omega) (W4.heap.size+1) (by simp) ?_;intro gg cap2 w5 hown hgrow hat hltt;obtain ⟨q1,q2,lc,q5⟩:=hkey w5 hgrow;obtain ⟨cur,hcur⟩:=(own_type hown).2;have q3:=fun j=>cells_f0 hcur j;obtain ⟨y0,y1,y2,y3,y4,y5,y6,y7,y8,y9,y10⟩:=own_last11 hown hxl;have q6:L≠gg:=ne_of_type q5 hcur (by decide);have q7:gg≠L:=q6.symm)| fail)
   all_goals
    have hfin:=PlAt.pushO (Z:= [.bool false, .int .i64 0, .int .i64 0, .int .i64 0, .int .i64 0, .int .i64 0, .int .i64 0, .int .i64 0, .int .i64 0, .slice none 0 0, .slice none 0 0]) (d:=d) (bs:=⟨k,(ax,ay),(bx,bz),(cx0,cy0),r,l⟩) (s:=s) (pl:=pl) (cl:=cl) (pp:=pp) (cp:=cp) (V:= [.bool d, .int .i64 k, .int .i64 ax, .int .i64 ay, .int .i64 bx, .int .i64 bz, .int .i64 cx0, .int .i64 cy0, .int .i64 r, .slice pl l.length cl, .slice pp s.len cp]) (H5.out.below ((Below.refl _ _).drew.alloc (Nat.le_refl _) _)) (show p.top.objs.length=n from HNn.out) hgrow hown (hat.imp Eq.symm (fun h=>by rw [h];exact Nat.le_of_eq (Array.size_push _))) rfl (HS5.out.below ((Below.refl _ _).drew.alloc (Nat.le_refl _) _))
    have hA:=hfin
    simp only [putW,Nat.add_assoc,Nat.reduceAdd] at hA
    have hB:=hfin
    rw [←putW_set q6] at hB
    simp only [putW,Nat.add_assoc,Nat.reduceAdd] at hB
    clear hfin hown hgrow hat hltt q1 q2 q3 q5 hcur y0 y1 y2 y3 y4 y5 y6 y7 y8 y9 y10 hkey s0 s1 s2 s3 s4 s5 s6 s7 s8 s9 l6 fl
    go_wp2_with fail
    go_ret
    rw [←HF.out]
    refine PlRes.ok2 (R:=R) (m:=m) (L:=L) (fu:=fu) (cv:=cv) (ov:= .slice (some ⟨gg,0,none⟩) (n+1) cap2) (cx:=cx) (ox:=ox++ [.bool d, .int .i64 k, .int .i64 ax, .int .i64 ay, .int .i64 bx, .int .i64 bz, .int .i64 cx0, .int .i64 cy0, .int .i64 r, .slice pl l.length cl, .slice pp s.len cp]) rfl ?_
    first
     | with_reducible exact hA
     | with_reducible exact hB
end Go.Proofs.YtfldplmgkeiimaaGreatDoor.VW
namespace Go.Proofs.YtfldplmgkeiimaaGreatDoor.VW
open Go.RowKit Go.Proofs.YtfldplmgkeiimaaGreatDoor.Vp
theorem PlRes.ret {w0:World} {P:Nat} {res:Except Nat Pl} {e:Ending} {w':World} (h:PlRes w0 P res e w'):∃v:Int,e= .returned (.int .i64 v):=by
 cases res with
 | ok q=>exact ⟨0,h.2.1⟩
 | error k=>exact ⟨(k:Int),h.2⟩
def FlR (cs:List (List P2)) (cx ys:List Value) (j:Nat):Prop:=ys.length=j∧∀i (hi:i < cs.length),i < j→∃q c,cx[i]?=some (.slice q cs[i].length c)∧ys[i]?=some (.slice q (cs[i].length - 1) (cs[i].length - 1))
theorem FlR.nil (cs:List (List P2)) (cx:List Value):FlR cs cx [] 0:=⟨rfl,fun i _ h=>absurd h (Nat.not_lt_zero _)⟩
theorem FlR.push {cs:List (List P2)} {cx ys:List Value} {j:Nat} (h:FlR cs cx ys j) {q:Option Addr} {c len:Nat} (hj:j < cs.length) (hl:cs[j].length=len) (hc:cx[j]?=some (.slice q len c)):FlR cs cx (ys++ [.slice q (len - 1) (len - 1)]) (j+1):=by
 refine ⟨by rw [List.length_append,h.1];rfl,fun i hi hij=>?_⟩
 by_cases e:i=j
 ·subst e
  have hl9:=h.1
  rw [List.getElem?_append_right (by omega),hl9,Nat.sub_self,hl]
  exact ⟨q,c,hc,rfl⟩
 ·have hl:i < ys.length:=by have:=h.1;omega
  rw [List.getElem?_append_left hl]
  exact h.2 i hi (by omega)
abbrev dropped (cs:List (List P2)):List (List P2):=cs.map List.dropLast
def ptsN (cs:List (List P2)):Nat:=((cs.map List.dropLast).map List.length).sum
theorem ptsN_take (cs:List (List P2)) (j:Nat) (hj:j < cs.length):ptsN (cs.take (j+1))=ptsN (cs.take j)+(cs[j].length - 1):=by
 unfold ptsN
 rw [List.take_succ_eq_append_getElem hj,List.map_append,List.map_append,List.sum_append]
 simp only [List.map_cons,List.map_nil,List.sum_cons,List.sum_nil,List.length_dropLast,Nat.add_zero]
theorem ptsN_le (cs:List (List P2)) (h:∀c∈cs,c.length≤1000000):∀j,j≤cs.length→ptsN (cs.take j)≤j *1000000
 | 0,_=>by simp [ptsN]
 | j+1,hj=>by
  have:=ptsN_le cs h j (by omega)
  have h2:=h cs[j] (List.getElem_mem _)
  rw [ptsN_take cs j (by omega)]
  omega
theorem fl_cons {w0:World} {P:Nat} {R:Nat→Prop} {m L:Nat} {fu:Int} {cv ov:Value} {cx ox:List Value} {p:Pl} {W X Y:World} {D:Nat} {lv:Value} {ys:List Value} {n:Nat} (hn:p.conts.length=n)
  (h:PlAt w0 P R m L fu cv ov cx ox p W) (hD:W.heap.size=D) (hf:FlM w0.heap.size D W p.conts lv ys n X) (hr:FlR p.conts cx ys n) (hb:p.conts.length≤1000000∧∀c∈p.conts,0 < c.length∧c.length≤1000000) (hY:∀k,k≠P→Y.heap[k]?=X.heap[k]?) (hPl:∀k cs t,X.heap[k]?=some (.cells cs t)→t=tPt∨t=tPts→k≠P):
  ∃pl cl,lv= .slice pl n cl∧n≤cl∧ConsIn (fun k=>R k∨RowsP w0.heap.size Y k) Y pl (dropped p.conts):=by
 obtain ⟨pl,cl,rfl⟩:=row_form hf.own
 have hlen:(dropped p.conts).length=n:=by rw [List.length_map,hn]
 have hbig:∀c∈p.conts,c.length≤big:=fun c hc=>by have:=(hb.2 c hc).2;show _≤1000000000;omega
 have hWX:Below W.heap.size W X:=by rw [hD];exact hf.bel
 have hrow:∀k,RowsP w0.heap.size X k→RowsP w0.heap.size Y k:=by
  rintro k ⟨h1,cs,t,h2,h3⟩
  exact ⟨h1,cs,t,(hY k (hPl k cs t h2 h3)).trans h2,h3⟩
 have hcold:∀k,ColdP R w0.heap.size W k→R k∨RowsP w0.heap.size Y k:=by
  rintro k (hk |⟨hB,cs,hk⟩)
  ·exact .inl hk
  ·exact .inr (hrow k ⟨hB,cs,tPt,one_below hk hWX, .inl rfl⟩)
 rcases hf.own.2 with ⟨e1,e2⟩|⟨g,c,cur,e1,hB,hh,h1,h2,h3,h4⟩
 ·injection e1 with e3 e4 e5
  subst e2
  refine ⟨pl,cl,rfl,Nat.zero_le _,by rw [hlen];exact Nat.zero_le _,fun h=>by rw [hlen] at h;exact absurd h (Nat.lt_irrefl _)⟩
 ·injection e1 with e3 e4 e5
  subst e3 e5
  refine ⟨_,cl,rfl,h1,by rw [hlen];show _≤1000000000;omega,fun hl=>?_⟩
  have hg:g≠P:=hPl g cur tPts hh (.inr rfl)
  have hgY:=(hY g hg).trans hh
  have hBg:w0.heap.size≤g:=by have:=h.bel.size;omega
  refine ⟨g,0,cur,rfl, .inr ⟨hBg,cur,tPts,hgY, .inr rfl⟩,hgY,fun i hi=>?_⟩
  have hi2:i < p.conts.length:=by rw [List.length_map] at hi;exact hi
  obtain ⟨q,c,k1,k2⟩:=hr.2 i hi2 (by omega)
  obtain ⟨q',c',g1,g2,g3⟩:=h.ct.all hbig i hi2
  rw [k1] at g1
  injection g1 with g1
  injection g1 with g1 _ g4
  subst g1 g4
  have e:(dropped p.conts)[i]=p.conts[i].dropLast:=List.getElem_map ..
  rw [e,List.length_dropLast]
  refine ⟨q,p.conts[i].length - 1,?_,Nat.le_refl _,?_⟩
  ·rw [Nat.zero_add,←k2,←h4,List.getElem?_take,if_pos (by omega)]
   simp
  ·have g5:=g3.below hWX
   have g6:PtsIn (fun k=>R k∨RowsP w0.heap.size Y k) X q p.conts[i]:=g5.mono fun k _ hk=>hcold k hk
   obtain ⟨a1,a2⟩:=g6.pre
   refine ⟨a1,fun hl=>?_⟩
   obtain ⟨b,o,cs,f1,f2,f3,f4⟩:=a2 hl
   exact ⟨b,o,cs,f1,f2,(hY b (hPl b cs tPt f3 (.inl rfl))).trans f3,f4⟩
set_option maxRecDepth 100000 in
set_option maxHeartbeats 12800000 in
theorem fill_c (w0:World) (P:Nat) (p:Pl) (w:World) (H:Hid (PlM w0 P p w)) (hs:SzC p) (h2:∀c∈p.conts,2≤c.length) (hob:p.top.objs.length≤1000000) (hmd:0≤p.made∧p.made≤1000000) (res:Except Nat Pl) (hres:Hid (fillV p=res)):
  Calls Tryz.prog 98 #[.pointer (some ⟨P,0,none⟩)] w fun e w'=>PlRes w0 P res e w':=by
 obtain ⟨f,hf⟩:∃f,closedC p.conts=f:=⟨_,rfl⟩
 have HC:=Lib.hid hf
 have HS:=Lib.hid hs
 have H2:=Lib.hid h2
 have HR:Hid ((if f=false then .error 4 else if 1000 < ptsN p.conts then .error 6 else if p.conts= [] then .ok {p with conts:= []} else addO {p with conts:= []} p.dark (simp_ (polyB (dropped p.conts))))=res):=by rw [←hres.out,←hf];rfl
 clear hf hs h2 hres
 go_enter Tryz.func98,Tryz.ntmps98
 go_wp2_with fail
 with_reducible refine (closed_c w0 P p w H HS.out f HC).mono ?_
 rintro e W ⟨rfl,hb⟩
 have HM:=Lib.hid (H.out.below hb)
 clear H hb
 cases f with
 | false=>
  have HF:Hid (.error 4=res):=HR.out
  have HB:Hid (Below w0.heap.size w0 W):=by obtain ⟨_,_,_,_,_,_,_,_,h⟩:=HM.out;exact h.bel
  go_wp2_with fail
  go_ret
  rw [←HF.out]
  exact ⟨HB.out,rfl⟩
 | true=>
  obtain ⟨R,m,L,fu,cv,ov,cx,ox,h⟩:=HM.out
  have H1:=Lib.hid h
  have HR2:Hid ((if 1000 < ptsN p.conts then .error 6 else if p.conts= [] then .ok {p with conts:= []} else addO {p with conts:= []} p.dark (simp_ (polyB (dropped p.conts))))=res):=HR.out
  clear HM h HR
  obtain ⟨n,hn⟩:∃n,p.conts.length=n:=⟨_,rfl⟩
  have HN:=Lib.hid hn
  have hnb:n≤1000000:=by rw [←hn];exact HS.out.1
  have hown0:World.ownsRow W w0.heap.size tPts 1 cv p.conts.length cx:=H1.out.ct.own
  rw [hn] at hown0
  clear hn
  obtain ⟨pc,cc,rfl⟩:=row_form hown0
  have HOW:=Lib.hid hown0
  clear hown0
  go_upto_region 5 with fail
  have HD:Hid ((W.alloc (.cells #[.int .i64 2, .int .i64 0, .int .i64 0, .int .i64 0, .int .i64 0, .int .i64 0, .int .i64 0, .int .i64 0, .slice none 0 0, .slice none 0 0] tSh)).heap[W.heap.size]?=some (.cells #[.int .i64 2, .int .i64 0, .int .i64 0, .int .i64 0, .int .i64 0, .int .i64 0, .int .i64 0, .int .i64 0, .slice none 0 0, .slice none 0 0] tSh)):=alloc_new _ _
  have HFl:Hid (FlM w0.heap.size W.heap.size W p.conts (.slice none 0 0) [] 0 (W.alloc (.cells #[.int .i64 2, .int .i64 0, .int .i64 0, .int .i64 0, .int .i64 0, .int .i64 0, .int .i64 0, .int .i64 0, .slice none 0 0, .slice none 0 0] tSh))):=⟨HD.out,⟨rfl, .inl ⟨rfl,rfl⟩⟩,bel_alloc _ _⟩
  have c20:(W.alloc (.cells #[.int .i64 2, .int .i64 0, .int .i64 0, .int .i64 0, .int .i64 0, .int .i64 0, .int .i64 0, .int .i64 0, .slice none 0 0, .slice none 0 0] tSh)).cell? ⟨P,20,none⟩=some (.slice pc n cc):=cell_keep (bel_alloc _ _) (cell_of (i:=20) H1.out.pl rfl)
  generalize W.alloc (.cells #[.int .i64 2, .int .i64 0, .int .i64 0, .int .i64 0, .int .i64 0, .int .i64 0, .int .i64 0, .int .i64 0, .slice none 0 0, .slice none 0 0] tSh)=X0 at HD HFl c20⊢
  obtain ⟨D,hD⟩:∃D,W.heap.size=D:=⟨_,rfl⟩
  have HDD:=Lib.hid hD
  rw [hD] at HFl⊢
  clear hD HD
  go_wp2_with fail
  clear c20
  go_loopw [4,17] (fun t i wr=>∃(j N:Nat) (lv:Value) (ys:List Value) (wy:World),wy=wr∧j≤n∧i= .int .i64 j∧t= .int .i64 N∧Hid (N=ptsN (p.conts.take j))∧Hid (FlM w0.heap.size D W p.conts lv ys j wy)∧Hid (FlR p.conts cx ys j)) (fun _ i _=>n -(intOf i).toNat)
  case atStart=>exact ⟨0,0,_,_,_,rfl,Nat.zero_le _,rfl,rfl,rfl,HFl.out,FlR.nil _ _⟩
  case round=>
  obtain ⟨j,N,lv,ys,wy,rfl,hj,rfl,rfl,HNN,HF,HRr⟩:=hrel
  have hNb:N≤j *1000000:=by rw [HNN.out];exact ptsN_le _ (fun c hc=>(HS.out.2 c hc).2) j (by rw [HN.out];exact hj)
  by_cases hlt:j < n
  ·have hlt2:j < p.conts.length:=by rw [HN.out];exact hlt
   have hlti:(j:Int)<(n:Int):=by omega
   obtain ⟨len,hlen⟩:∃k,p.conts[j].length=k:=⟨_,rfl⟩
   have hl2:2≤len:=by rw [←hlen];exact H2.out _ (List.getElem_mem _)
   have hl3:len≤1000000:=by rw [←hlen];exact (HS.out.2 _ (List.getElem_mem _)).2
   obtain ⟨q,c,k1,k2,k3⟩:=H1.out.ct.all (fun c hc=>by have:=(HS.out.2 c hc).2;show _≤1000000000;omega) j hlt2
   obtain ⟨qb,qo,_,hq,_⟩:=k3.2 (by omega)
   subst hq
   rw [hlen] at k1 k2
   have HLEN:=Lib.hid hlen
   have HK1:=Lib.hid k1
   obtain ⟨l1,hl1⟩:∃k,len=k+1:=⟨len - 1,by omega⟩
   subst hl1
   obtain ⟨K,hpc,hcell⟩:∃K,pc=some ⟨K,0,none⟩∧wy.cell? ⟨K,j,none⟩=some (.slice (some ⟨qb,qo,none⟩) (l1+1) c):=by
    have ho:=HOW.out
    rcases ho.2 with ⟨e1,e2⟩|⟨g,cap,cur,e1,hB,hh,g1,g2,g3,g4⟩
    ·omega
    ·injection e1 with e3 _ e5
     subst e3 e5
     refine ⟨g,rfl,?_⟩
     have h4:=(ho.cellAt j (by omega)).trans HK1.out
     exact cell_keep (by have:=HF.out.bel;rw [←HDD.out] at this;exact this) h4
   subst hpc
   clear hlen k1 k3
   have hw1:IntKind.i64.wrap (((l1:Int)+1) - 1)=(l1:Int):=by rw [IntWalk.i64_in _ (by omega)];omega
   have hw2:IntKind.i64.wrap ((N:Int)+(l1:Int))=((N+l1:Nat):Int):=by rw [IntWalk.i64_in _ (by omega)];omega
   have hj0:(0:Int)≤(j:Int):=by omega
   have hm0:(0:Int)≤(l1:Int):=by omega
   have hm1:(l1:Int)≤(c:Int):=by omega
   have hm2:l1≤c:=by omega
   have hm3:¬l1=0:=by omega
   go_upto_region 10 with fail
   clear hcell hw1 hw2
   have hownF:=HF.out.own
   obtain ⟨pv,cvv,rfl⟩:=row_form hownF
   have HXO:Hid ((wy.drew.alloc (.cells #[.slice (some ⟨qb,qo,none⟩) l1 l1] tPts)).ownsRow (D+1) tPts 1 (.slice pv j cvv) j ys):=hownF.drew.alloc _
   have HFY:=Lib.hid (HF.out.below (show Below wy.heap.size wy (wy.drew.alloc (.cells #[.slice (some ⟨qb,qo,none⟩) l1 l1] tPts)) from (Below.refl _ _).drew.alloc (Nat.le_refl _) _))
   clear hownF
   have d8:wy.cell? ⟨D,8,none⟩=some (.slice pv j cvv):=cell_of (i:=8) HF.out.sh rfl
   have f8:=cells_f0 HF.out.sh 8
   have hDlt:=lt_of_heap HF.out.sh
   have hkey:∀(w4:World),(wy.drew.alloc (.cells #[.slice (some ⟨qb,qo,none⟩) l1 l1] tPts)).grownBy w4 (Value.slice pv j cvv).ownBlock→w4.cell? ⟨D,8,none⟩=some (.slice pv j cvv)∧w4.frozen? ⟨D,8,none⟩=false:=by
    intro w4 hg4
    have h0:=HFY.out.sh
    have h1:=(hg4.block _ (lt_of_heap h0) (Ne.symm (own_other HXO.out h0 (by decide)))).trans h0
    exact ⟨cell_of h1 rfl,cells_f0 h1 8⟩
   obtain ⟨i0,hi,hz0,hz1,hz2⟩:=info_parts info_cs
   have HI:=Lib.hid (And.intro hi (And.intro hz0 (And.intro hz1 hz2)))
   clear hi hz0 hz1 hz2
   go_region_law (first |(refine step_append_lies _ (by rfl) _ _ _ (by rfl) (D+1) tPts i0 (.slice none 0 0) 1 24 Tryz.underlying72 HI.out.1 HI.out.2.1 HI.out.2.2.1 HI.out.2.2.2 rfl (by omega) (.slice pv j cvv) j _ (by rfl) HXO.out ⟨wy.heap.size,0,none⟩ 1 1 [.slice (some ⟨qb,qo,none⟩) l1 l1] (by rfl) (by rfl) (World.news_of_block (cs:= #[.slice (some ⟨qb,qo,none⟩) l1 l1]) (t:=tPts) (fr:=(0,0)) (heap_alloc_new wy _)) (by simp [Value.oneCell']) (by omega) (by unfold maxLen;omega) (by omega) (by simp;omega) (wy.heap.size+1) (by simp) ?_;intro gg cap2 w5 hown hgrow hat hltt;obtain ⟨q1,q2⟩:=hkey w5 hgrow)| fail)
   all_goals
    have HF9:=Lib.hid (FlM.push HFY.out hgrow hown)
    have HR9:Hid (FlR p.conts cx (ys++ [.slice (some ⟨qb,qo,none⟩) l1 l1]) (j+1)):=HRr.out.push hlt2 HLEN.out HK1.out
    have HN9:Hid (N+l1=ptsN (p.conts.take (j+1))):=by show _=_;rw [ptsN_take _ _ hlt2,HLEN.out,←HNN.out];rfl
    clear hown hgrow hat hltt q1 q2 d8 f8 hkey
    go_wp2_with fail
    go_round <;> first | exact ⟨j+1,N+l1,_,_,_,rfl,by omega,by go_num,by go_num,HN9.out,HF9.out,HR9.out⟩|(simp [intOf] <;> omega)
  ·have hje:j=n:=by omega
   subst hje
   have hDlt:=lt_of_heap HF.out.sh
   have HWY:Hid (Below W.heap.size W wy):=by have h:=HF.out.bel;rw [←HDD.out] at h;exact h
   have H3:=Lib.hid (H1.out.below HWY.out)
   have hPD:P≠D:=fun e=>by have:=lt_of_heap H1.out.pl;have:=HDD.out;omega
   have f20:=cells_f0 H3.out.pl 20
   have c20:wy.cell? ⟨P,20,none⟩=some (.slice pc j cc):=cell_of (i:=20) H3.out.pl rfl
   have HC1:=fl_cons (Y:=wy.setCell ⟨P,20,none⟩ (.slice none 0 0)) HN.out H1.out HDD.out HF.out HRr.out HS.out (fun k hk=>far0 hk) (fun k cs t hh ht=>by rcases ht with rfl | rfl <;> exact ne_of_type hh H3.out.pl (by decide))
   obtain ⟨pv,cvv,rfl,hcv,hcons⟩:=HC1
   have HCN:=Lib.hid hcons
   clear hcons
   have H4:=Lib.hid (PlAt.rows H3.out.noC rfl)
   have HDs:Hid ((wy.setCell ⟨P,20,none⟩ (.slice none 0 0)).heap[D]?=some (.cells #[.int .i64 2, .int .i64 0, .int .i64 0, .int .i64 0, .int .i64 0, .int .i64 0, .int .i64 0, .int .i64 0, .slice pv j cvv, .slice none 0 0] tSh)):=(far0 (Ne.symm hPD)).trans HF.out.sh
   have hNb2:N≤1000000000000:=by omega
   have HN2:Hid (N=ptsN p.conts):=by have h:=HNN.out;rw [←HN.out,List.take_length] at h;exact h
   go_upto_region 13 with fail
   generalize wy.setCell ⟨P,20,none⟩ (.slice none 0 0)=W5 at HCN H4 HDs⊢
   clear c20 f20 HF HRr HNN HWY H3
   have d8:W5.cell? ⟨D,8,none⟩=some (.slice pv j cvv):=cell_of (i:=8) HDs.out rfl
   by_cases h1000:1000 < N
   ·have h1i:((N:Int)> 1000):=by omega
    have HF:Hid (.error 6=res):=Lib.hid ((if_pos (by rw [←HN2.out];exact h1000)).symm.trans HR2.out)
    go_wp2_with fail
    all_goals
     go_ret
     rw [←HF.out]
     exact ⟨H4.out.bel,rfl⟩
   have h1i:¬((N:Int)> 1000):=by omega
   have HR3:Hid ((if p.conts= [] then .ok {p with conts:= []} else addO {p with conts:= []} p.dark (simp_ (polyB (dropped p.conts))))=res):=Lib.hid ((if_neg (by rw [←HN2.out];exact h1000)).symm.trans HR2.out)
   clear HR2
   by_cases hj0:j=0
   ·subst hj0
    have HF:Hid (.ok {p with conts:= []}=res):=Lib.hid ((if_pos (List.eq_nil_of_length_eq_zero HN.out)).symm.trans HR3.out)
    go_wp2_with fail
    all_goals
     go_ret
     rw [←HF.out]
     exact PlRes.ok2 rfl H4.out
   have hj0b:(((j:Int)==0):Bool)=false:=by rw [beq_eq_false_iff_ne];omega
   have HR4:Hid (addO {p with conts:= []} p.dark (simp_ (polyB (dropped p.conts)))=res):=Lib.hid ((if_neg (fun h=>hj0 (by rw [←HN.out,h];rfl))).symm.trans HR3.out)
   clear HR3
   have hdl:(dropped p.conts).length=j:=by rw [List.length_map,HN.out]
   have hadd:∀X,Below W5.heap.size W5 X→Calls Tryz.prog 145 #[.pointer (some ⟨P,0,none⟩), .bool p.dark, .agg #[.int .i64 2, .int .i64 0, .int .i64 0, .int .i64 0, .int .i64 0, .int .i64 0, .int .i64 0, .int .i64 0, .slice pv j cvv, .slice none 0 0]] X fun e w'=>PlRes w0 P res e w':=by
    intro X hX
    have h1:=plAdd_c w0 P _ m L fu _ ov _ ox {p with conts:= []} p.dark (polyB (dropped p.conts)) .nil pv cvv none 0 X (H4.out.below hX) (show Hid _ from ⟨HCN.out.below hX, .nil _ _ _,by show (dropped p.conts).length≤_;rw [hdl];exact hcv,Nat.le_refl _⟩) hob hmd res HR4
    have e:(Value.slice pv j cvv)= .slice pv (dropped p.conts).length cvv:=by rw [hdl]
    rw [e]
    exact h1
   have HA:=Lib.hid hadd
   clear hadd hdl HCN HR4 hob hmd
   go_upto_region 17 with fail
   obtain ⟨s0,s1,s2,s3,s4,s5,s6,s7,s8,s9⟩:=sh_at HDs.out
   have c13:W5.cell? ⟨P,13,none⟩=some (.bool p.dark):=cell_of (i:=13) H4.out.pl rfl
   go_region_law (first |(rw [if_pos (by rfl)];go_simp;go_at_call 145;with_reducible refine (HA.out _ ((Below.refl _ _).drew)).mono ?_;intro e w6 hres;obtain ⟨v6,rfl⟩:=hres.ret)| fail)
   all_goals
    clear s0 s1 s2 s3 s4 s5 s6 s7 s8 s9 c13 d8
    go_wp2_with fail
    go_ret
    exact hres
end Go.Proofs.YtfldplmgkeiimaaGreatDoor.VW
