/-
  Several texts of this proof in one: Qx, Qz, Za, Zb.
-/
import Derived.Test.YtfldplmgkeiimaaGreatDoorQ11
set_option linter.unusedVariables false
set_option linter.unusedSimpArgs false
namespace Go.Proofs.YtfldplmgkeiimaaGreatDoor.VW
open Go.RowKit Go.Proofs.YtfldplmgkeiimaaGreatDoor.Vp
theorem own_put {w:World} {B g n c sz:Nat} {e:TypeId} {xs Z V:List Value} (h:w.ownsRow B e sz (.slice (some ⟨g,0,none⟩) (n+1) c) (n+1) (xs++Z)) (hx:xs.length=n *sz) (hv:V.length=sz):(putW w g (n *sz) V).ownsRow B e sz (.slice (some ⟨g,0,none⟩) (n+1) c) (n+1) (xs++V):=by
 have hsum:(n+1) *sz=n *sz+sz:=Nat.succ_mul n sz
 refine ⟨by rw [List.length_append,hx,hv,hsum],?_⟩
 rcases h.2 with ⟨hv,_⟩|⟨k,cap,cur,hk,hB,hh,h1,h2,h3,h4⟩
 ·cases hv
 ·injection hk with hk1 _ hk2
  injection hk1 with hk1
  injection hk1 with hk1
  subst hk1 hk2
  have hsz:n *sz+V.length≤cur.size:=by
   rw [hv,h3,←hsum]
   exact Nat.mul_le_mul_right _ h1
  refine .inr ⟨g,c,_,rfl,hB,putW_at V hh,h1,h2,by rw [putA_size];exact h3,?_⟩
  have hd:=putA_drop (vs:=V) hsz
  rw [hv] at hd
  rw [hsum,List.take_add,putA_take (Nat.le_refl _),hd]
  congr 1
  have:=congrArg (List.take (n *sz)) h4
  rw [List.take_take,Nat.min_eq_left (by rw [hsum];omega),List.take_left' hx] at this
  exact this
theorem own_type {w:World} {B g n c sz m:Nat} {e:TypeId} {xs:List Value} (h:w.ownsRow B e sz (.slice (some ⟨g,0,none⟩) n c) m xs):B≤g∧∃cur,w.heap[g]?=some (.cells cur e (0,0)):=by
 rcases h.2 with ⟨hv,_⟩|⟨k,cap,cur,hk,hB,hh,_⟩
 ·cases hv
 ·injection hk with hk1 _ hk2
  injection hk1 with hk1
  injection hk1 with hk1
  subst hk1
  exact ⟨hB,cur,hh⟩
theorem own_map2 {w:World} {B:Nat} {e:TypeId} {sz n:Nat} {v:Value} {xs:List Value} (h:w.ownsRow B e sz v n xs) {b:Nat} {es:Array MapEntry} {c:Nat} (hb:w.heap[b]?=some (.map es c)):v.ownBlock≠some b:=by
 rcases h.2 with ⟨rfl,_⟩|⟨g,cap,cur,rfl,_,hh,_⟩
 ·simp [Value.ownBlock]
 ·intro h2
  have:g=b:=by simpa [Value.ownBlock] using h2
  subst this
  rw [hb] at hh
  cases hh
theorem own_last11 {w:World} {B g n c:Nat} {e:TypeId} {xs:List Value} {z0 z1 z2 z3 z4 z5 z6 z7 z8 z9 z10:Value} (h:w.ownsRow B e 11 (.slice (some ⟨g,0,none⟩) (n+1) c) (n+1) (xs++ [z0,z1,z2,z3,z4,z5,z6,z7,z8,z9,z10])) (hx:xs.length=n *11):
  w.cell? ⟨g,n *11,none⟩=some z0∧w.cell? ⟨g,n *11+1,none⟩=some z1∧w.cell? ⟨g,n *11+2,none⟩=some z2∧w.cell? ⟨g,n *11+3,none⟩=some z3∧w.cell? ⟨g,n *11+4,none⟩=some z4∧w.cell? ⟨g,n *11+5,none⟩=some z5∧w.cell? ⟨g,n *11+6,none⟩=some z6∧w.cell? ⟨g,n *11+7,none⟩=some z7∧w.cell? ⟨g,n *11+8,none⟩=some z8∧w.cell? ⟨g,n *11+9,none⟩=some z9∧w.cell? ⟨g,n *11+10,none⟩=some z10:=by
 have key:∀j,j < 11→w.cell? ⟨g,n *11+j,none⟩= [z0,z1,z2,z3,z4,z5,z6,z7,z8,z9,z10][j]?:=by
  intro j hj
  rw [h.cellAt (n *11+j) (by omega),List.getElem?_append_right (by omega),hx,Nat.add_sub_cancel_left]
 exact ⟨key 0 (by decide),key 1 (by decide),key 2 (by decide),key 3 (by decide),key 4 (by decide),key 5 (by decide),key 6 (by decide),key 7 (by decide),key 8 (by decide),key 9 (by decide),key 10 (by decide)⟩
theorem set_comm {w:World} {i j a b:Nat} {u v:Value} (h:i≠j):(w.setCell ⟨i,a,none⟩ u).setCell ⟨j,b,none⟩ v=(w.setCell ⟨j,b,none⟩ v).setCell ⟨i,a,none⟩ u:=by
 unfold World.setCell
 simp only
 congr 1
 apply Array.ext_getElem?
 intro k
 rw [Array.getElem?_modify,Array.getElem?_modify,Array.getElem?_modify,Array.getElem?_modify]
 by_cases h1:i=k
 ·subst h1
  rw [if_neg (Ne.symm h),if_neg (Ne.symm h)]
 ·rw [if_neg h1,if_neg h1]
theorem putW_set {b L o:Nat} {u:Value} (h:L≠b):∀(vs:List Value) {w:World} {m:Nat},putW (w.setCell ⟨L,o,none⟩ u) b m vs=(putW w b m vs).setCell ⟨L,o,none⟩ u
 | [],_,_=>rfl
 | v :: vs,w,m=>by
  show putW ((w.setCell ⟨L,o,none⟩ u).setCell ⟨b,m,none⟩ v) b (m+1) vs=(putW (w.setCell ⟨b,m,none⟩ v) b (m+1) vs).setCell ⟨L,o,none⟩ u
  rw [set_comm h]
  exact putW_set h vs
theorem PlAt.more {w0:World} {P:Nat} {R T:Nat→Prop} {m L:Nat} {fu:Int} {cv ov:Value} {cx ox:List Value} {p:Pl} {w:World} (h:PlAt w0 P R m L fu cv ov cx ox p w) (hc:p.conts= []) (hT:∀k,T k→w0.heap.size≤k∧k < w.heap.size∧k≠P∧k≠L∧k≠m∧cv.ownBlock≠some k∧ov.ownBlock≠some k):PlAt w0 P (fun k=>R k∨T k) m L fu cv ov cx ox p w:=
 {h with
  ct:=by
   have h1:=h.ct
   rw [hc] at h1⊢
   exact ⟨h1.own,fun i hi=>absurd hi (Nat.not_lt_zero _),fun i hi=>absurd hi (Nat.not_lt_zero _)⟩
  obs:=h.obs.mono fun k _ hk=> .inl hk
  rlo:=fun k hk=>hk.elim (h.rlo k) fun hk=>⟨(hT k hk).1,(hT k hk).2.1⟩
  rP:=fun hk=>hk.elim h.rP fun hk=>(hT _ hk).2.2.1 rfl
  rL:=fun hk=>hk.elim h.rL fun hk=>(hT _ hk).2.2.2.1 rfl
  rm:=fun hk=>hk.elim h.rm fun hk=>(hT _ hk).2.2.2.2.1 rfl
  rK:=fun k e hk=>hk.elim (h.rK k e) fun hk=>(hT _ hk).2.2.2.2.2.1 e
  rO:=fun k e hk=>hk.elim (h.rO k e) fun hk=>(hT _ hk).2.2.2.2.2.2 e}
theorem obs_push {R:Nat→Prop} {w:World} {l:List Ob} {ox V:List Value} {d:Bool} {bs:Bs} {s:Ps} {pl:Option Addr} {cl:Nat} {pp:Option Addr} {cp:Nat} (h:PartsAt R w (obP l) ox) (hl:ox.length=l.length *11) (hV:V= .bool d :: shVs bs (.slice pl bs.l.length cl) (.slice pp s.len cp)) (hb:ShIn R w pl cl pp cp ⟨bs,s⟩):PartsAt R w (obP (l++ [(d,⟨bs,s⟩)])) (ox++V):=by
 rw [obP_append]
 refine PartsAt.append h (by rw [hl,obP_len]) ?_
 subst hV
 exact PartsAt.mk (S:=R) (w:=w) (a:=d) (b:=bs) (s:=s) (r:= .nil) (pl:=pl) (cl:=cl) (pp:=pp) (cp:=cp) (by rfl) hb trivial
theorem PlAt.pushO {w0:World} {P:Nat} {R:Nat→Prop} {m L:Nat} {fu:Int} {cv ov:Value} {cx ox:List Value} {p:Pl} {X w4:World} {n gg c:Nat} {Z V:List Value} {d:Bool} {bs:Bs} {s:Ps} {pl:Option Addr} {cl:Nat} {pp:Option Addr} {cp:Nat}
  (h:PlAt w0 P R m L fu cv ov cx ox p X) (hn:p.top.objs.length=n) (hg:X.grownBy w4 ov.ownBlock) (hown:w4.ownsRow w0.heap.size tOb 11 (.slice (some ⟨gg,0,none⟩) (n+1) c) (n+1) (ox++Z)) (hw:some gg=ov.ownBlock∨X.heap.size≤gg)
  (hV:V= .bool d :: shVs bs (.slice pl bs.l.length cl) (.slice pp s.len cp)) (hb:ShIn R X pl cl pp cp ⟨bs,s⟩):
  PlAt w0 P R m L fu cv (.slice (some ⟨gg,0,none⟩) (n+1) c) cx (ox++V) {p with top:={p.top with objs:=p.top.objs++ [(d,⟨bs,s⟩)]}} ((putW w4 gg (n *11) V).setCell ⟨L,6,none⟩ (.slice (some ⟨gg,0,none⟩) (n+1) c)):=by
 have hVl:V.length=11:=by rw [hV];rfl
 have hox:ox.length=n *11:=by rw [h.ob.1,hn]
 have hown2:=own_put hown hox hVl
 obtain ⟨hBg,cur,hcur⟩:=own_type hown
 obtain ⟨_,cur2,hcur2⟩:=own_type hown2
 have hRg:¬R gg:=by
  rcases hw with e | e
  ·exact h.rO gg e.symm
  ·intro hk;have:=(h.rlo gg hk).2;omega
 have hne:∀k cs t fz,X.heap[k]?=some (.cells cs t fz)→t≠tOb→ov.ownBlock≠some k∧k≠gg:=by
  intro k cs t fz hk ht
  have h1:=own_other h.ob hk (Ne.symm ht)
  exact ⟨h1,ne_of_type ((hg.block k (lt_of_heap hk) (Ne.symm h1)).trans hk) hcur ht⟩
 have hnm:∀k es c,X.heap[k]?=some (.map es c)→ov.ownBlock≠some k∧k≠gg:=by
  intro k es c hk
  have h1:=own_map2 h.ob hk
  exact ⟨h1,(ne_of_map hcur ((hg.block k (lt_of_heap hk) (Ne.symm h1)).trans hk)).symm⟩
 have hLg:=hne _ _ _ _ h.lv (by decide)
 have hK0:Keep (fun k=>ov.ownBlock≠some k∧k≠gg∧k≠L) X w4:=Keep.grown hg fun k e hk=>hk.1 e
 have hK1:Keep (fun k=>ov.ownBlock≠some k∧k≠gg∧k≠L) w4 (putW w4 gg (n *11) V):=putW_keep (fun hk=>hk.2.1 rfl) V
 have hK:Keep (fun k=>ov.ownBlock≠some k∧k≠gg∧k≠L) X ((putW w4 gg (n *11) V).setCell ⟨L,6,none⟩ (.slice (some ⟨gg,0,none⟩) (n+1) c)):=(hK0.trans hK1).trans (Keep.set (a:=⟨L,6,none⟩) (fun hk=>hk.2.2 rfl) _)
 have hLX:(putW w4 gg (n *11) V).heap[L]?=some (.cells (lvCs ov) tLv):=(putW_far hLg.2 V).trans ((hg.block L (lt_of_heap h.lv) (Ne.symm hLg.1)).trans h.lv)
 have hTy:∀k cs t fz,X.heap[k]?=some (.cells cs t fz)→t≠tOb→t≠tLv→ov.ownBlock≠some k∧k≠gg∧k≠L:=fun k cs t fz hk h1 h2=>⟨(hne k cs t fz hk h1).1,(hne k cs t fz hk h1).2,ne_of_type hk h.lv h2⟩
 have hRS:∀k,R k→ov.ownBlock≠some k∧k≠gg∧k≠L:=fun k hk=>⟨fun e=>h.rO k e hk,fun e=>hRg (e ▸ hk),fun e=>h.rL (e ▸ hk)⟩
 exact {
  pl:=hK.get (hTy _ _ _ _ h.pl (by decide) (by decide)) h.pl
  mp:=⟨h.mp.1,hK.get ⟨(hnm _ _ _ h.mp.2).1,(hnm _ _ _ h.mp.2).2,(ne_of_map h.lv h.mp.2).symm⟩ h.mp.2⟩
  lv:=by
   have:=set_at (k:=L) (i:=6) (.slice (some ⟨gg,0,none⟩) (n+1) c) hLX
   exact this
  ct:=h.ct.keep hK hRS (fun k cur hh=>hTy _ _ _ _ hh (by decide) (by decide)) (fun k cur hh=>hTy _ _ _ _ hh (by decide) (by decide))
  ob:=by
   have h1:World.ownsRow ((putW w4 gg (n *11) V).setCell ⟨L,6,none⟩ (.slice (some ⟨gg,0,none⟩) (n+1) c)) w0.heap.size tOb 11 (.slice (some ⟨gg,0,none⟩) (n+1) c) (n+1) (ox++V):=row_grown hown2 (grown_set _ L 6 _) (.inr (own_other hown2 hLX (by decide)))
   rw [←hn] at h1⊢
   have e:(p.top.objs++ [(d,(⟨bs,s⟩:Shp))]).length=p.top.objs.length+1:=by simp
   show World.ownsRow _ _ _ _ _ (p.top.objs++ [(d,(⟨bs,s⟩:Shp))]).length _
   rw [e]
   exact h1
  obs:=obs_push (h.obs.keep (hK.mono fun k _ hk=>hRS k hk)) (by rw [hox,hn]) hV (hb.keep (hK.mono fun k _ hk=>hRS k hk))
  rlo:=fun k hk=>⟨(h.rlo k hk).1,Nat.lt_of_lt_of_le (h.rlo k hk).2 hK.size⟩
  rP:=h.rP
  rL:=h.rL
  rm:=h.rm
  rK:=h.rK
  rO:=fun k e=>by
   have:gg=k:=by simpa [Value.ownBlock] using e
   rw [←this];exact hRg
  bP:=h.bP
  bL:=h.bL
  bm:=h.bm
  bel:=h.bel.trans (hK.below _ h.bel.size fun k hk=>⟨fun e=>by have:=(h.ob.lt k e).1;omega,by omega,by have:=h.bL;omega⟩)
  top:=congrArg (a₁:=p.top) (a₂:={lv0 with objs:=p.top.objs}) (fun (t:Lv)=>({t with objs:=p.top.objs++ [(d,(⟨bs,s⟩:Shp))]}:Lv)) h.top
  lvs:=h.lvs
  mac:=h.mac}
def PlRes (w0:World) (P:Nat) (res:Except Nat Pl) (e:Ending) (w':World):Prop:=Below w0.heap.size w0 w'∧match res with
 | .ok q=>e= .returned (.int .i64 0)∧PlM w0 P q w'
 | .error k=>e= .returned (.int .i64 (k:Int))
theorem PlRes.ok {w0:World} {P:Nat} {R:Nat→Prop} {m L:Nat} {fu:Int} {cv ov:Value} {cx ox:List Value} {p:Pl} {w:World} (h:PlAt w0 P R m L fu cv ov cx ox p w):PlRes w0 P (.ok p) (.returned (.int .i64 0)) w:=⟨h.bel,rfl,_,_,_,_,_,_,_,_,h⟩
theorem PlRes.ok2 {w0:World} {P:Nat} {R:Nat→Prop} {m L:Nat} {fu:Int} {cv ov:Value} {cx ox:List Value} {p:Pl} {w:World} {e:Ending} (he:e= .returned (.int .i64 0)) (h:PlAt w0 P R m L fu cv ov cx ox p w):PlRes w0 P (.ok p) e w:=⟨h.bel,he,_,_,_,_,_,_,_,_,h⟩
theorem PlRes.get {w0:World} {P:Nat} {res:Except Nat Pl} {e:Ending} {w':World} (h:PlRes w0 P res e w') {q:Pl} (hq:res= .ok q):e= .returned (.int .i64 0)∧PlM w0 P q w':=by subst hq;exact h.2
theorem PlRes.err {w0:World} {P:Nat} {res:Except Nat Pl} {e:Ending} {w':World} (h:PlRes w0 P res e w') {k:Nat} (hq:res= .error k):e= .returned (.int .i64 (k:Int)):=by subst hq;exact h.2
end Go.Proofs.YtfldplmgkeiimaaGreatDoor.VW
namespace Go.Proofs.YtfldplmgkeiimaaGreatDoor.VW
open Go.RowKit Go.Proofs.YtfldplmgkeiimaaGreatDoor.Vp
def ColdP (R:Nat→Prop) (B:Nat) (X:World) (k:Nat):Prop:=R k∨(B≤k∧∃cs,X.heap[k]?=some (.cells cs tPt))
theorem ColdP.ne {w0:World} {P:Nat} {R:Nat→Prop} {m L:Nat} {fu:Int} {cv ov:Value} {cx ox:List Value} {p:Pl} {X:World} (h:PlAt w0 P R m L fu cv ov cx ox p X) {k:Nat} (hk:ColdP R w0.heap.size X k):(w0.heap.size≤k∧k < X.heap.size)∧k≠P∧k≠L∧k≠m∧cv.ownBlock≠some k∧ov.ownBlock≠some k:=by
 rcases hk with hk |⟨hB,cs,hk⟩
 ·exact ⟨h.rlo k hk,fun e=>h.rP (e ▸ hk),fun e=>h.rL (e ▸ hk),fun e=>h.rm (e ▸ hk),fun e=>h.rK k e hk,fun e=>h.rO k e hk⟩
 ·exact ⟨⟨hB,lt_of_heap hk⟩,ne_of_type hk h.pl (by decide),ne_of_type hk h.lv (by decide),ne_of_map hk h.mp.2,own_other h.ct.own hk (by decide),own_other h.ob hk (by decide)⟩
theorem ptsIn_of_own {R:Nat→Prop} {w:World} {B g n cap:Nat} {l:List P2} (h:w.ownsRow B tPt 2 (.slice (some ⟨g,0,none⟩) n cap) n (ptsL l)) (hn:n=l.length) (hb:l.length≤big) (hR:R g):PtsIn R w (some ⟨g,0,none⟩) l:=by
 have h1:=(PtsIn.own (R:=fun k=>k=g∨B≤k) h hn hb (fun k hk=> .inr hk)).1
 refine ⟨hb,fun hl=>?_⟩
 obtain ⟨b,o,cs,e,_,hh,hc⟩:=h1.2 hl
 injection e with e
 injection e with e1 e2
 subst e1
 exact ⟨g,o,cs,by rw [←e2],hR,hh,hc⟩
theorem CtM.all {R:Nat→Prop} {B:Nat} {X:World} {cv:Value} {cs:List (List P2)} {xs:List Value} (h:CtM R B X cv cs xs) (hb:∀c∈cs,c.length≤big):∀i (hi:i < cs.length),∃q c,xs[i]?=some (.slice q cs[i].length c)∧cs[i].length≤c∧PtsIn (ColdP R B X) X q cs[i]:=by
 intro i hi
 by_cases hl:i+1 < cs.length
 ·obtain ⟨q,c,h1,h2,h3⟩:=h.init i hl
  exact ⟨q,c,h1,h2,h3.mono fun k _ hk=> .inl hk⟩
 ·obtain ⟨g,c,h1,h2,h3⟩:=h.last i hi (by omega)
  obtain ⟨hB,cur,hcur⟩:=own_type h2
  have h4:=PtsIn.own (R:=fun k=>B≤k) h2 rfl (hb _ (List.getElem_mem hi)) (fun k hk=>hk)
  exact ⟨_,c,h1,h4.2,ptsIn_of_own h2 rfl (hb _ (List.getElem_mem hi)) (.inr ⟨hB,cur,hcur⟩)⟩
theorem row_news {w:World} {g:Nat} {x y:Value} (B:Nat) (hB:B≤g) (h:w.heap[g]?=some (.cells #[x,y] tPt)):w.ownsRow B tPt 2 (.slice (some ⟨g,0,none⟩) 1 1) 1 [x,y]:=⟨rfl, .inr ⟨g,1,_,rfl,hB,h,Nat.le_refl _,by decide,rfl,rfl⟩⟩
set_option maxHeartbeats 1600000 in
theorem PlAt.pushC {w0:World} {P:Nat} {R:Nat→Prop} {m L:Nat} {fu:Int} {cv ov:Value} {cx ox:List Value} {p:Pl} {X Y w4:World} {n gg g c:Nat} {tx ty:Int}
  (h:PlAt w0 P R m L fu cv ov cx ox p X) (hn:p.conts.length=n) (hbig:∀c∈p.conts,c.length≤big) (hXY:Below X.heap.size X Y) (hgX:X.heap.size≤g) (hgY:Y.heap[g]?=some (.cells #[.int .i64 tx, .int .i64 ty] tPt))
  (hg:Y.grownBy w4 cv.ownBlock) (hown:w4.ownsRow w0.heap.size tPts 1 (.slice (some ⟨gg,0,none⟩) (n+1) c) (n+1) (cx++ [.slice (some ⟨g,0,none⟩) 1 1])) (hw:some gg=cv.ownBlock∨Y.heap.size≤gg):
  PlAt w0 P (ColdP R w0.heap.size X) m L fu (.slice (some ⟨gg,0,none⟩) (n+1) c) ov (cx++ [.slice (some ⟨g,0,none⟩) 1 1]) ox {p with conts:=p.conts++ [[(tx,ty)]]} (w4.setCell ⟨P,20,none⟩ (.slice (some ⟨gg,0,none⟩) (n+1) c)):=by
 have hB0:=h.bel.size
 obtain ⟨hBg,cur,hcur⟩:=own_type hown
 have hY:=h.below hXY
 have hne:∀k cs t fz,Y.heap[k]?=some (.cells cs t fz)→t≠tPts→cv.ownBlock≠some k∧k≠gg:=by
  intro k cs t fz hk ht
  have h1:=own_other hY.ct.own hk (Ne.symm ht)
  exact ⟨h1,ne_of_type ((hg.block k (lt_of_heap hk) (Ne.symm h1)).trans hk) hcur ht⟩
 have hnm:∀k es c,Y.heap[k]?=some (.map es c)→cv.ownBlock≠some k∧k≠gg:=by
  intro k es c hk
  have h1:=own_map2 hY.ct.own hk
  exact ⟨h1,(ne_of_map hcur ((hg.block k (lt_of_heap hk) (Ne.symm h1)).trans hk)).symm⟩
 have hK1:Keep (fun k=>cv.ownBlock≠some k∧k≠P) Y (w4.setCell ⟨P,20,none⟩ (.slice (some ⟨gg,0,none⟩) (n+1) c)):=(Keep.grown hg fun k e hk=>hk.1 e).trans (Keep.set (a:=⟨P,20,none⟩) (fun hk=>hk.2 rfl) _)
 have hK:Keep (fun k=>cv.ownBlock≠some k∧k≠P) X (w4.setCell ⟨P,20,none⟩ (.slice (some ⟨gg,0,none⟩) (n+1) c)):=(Keep.of_below hXY).trans hK1
 have hTy:∀k cs t fz,X.heap[k]?=some (.cells cs t fz)→t≠tPts→t≠tPl→cv.ownBlock≠some k∧k≠P:=fun k cs t fz hk h1 h2=>⟨own_other h.ct.own hk (Ne.symm h1),ne_of_type hk h.pl h2⟩
 have hPY:=hY.pl
 have hPg:=hne _ _ _ _ hPY (by decide)
 have hP4:w4.heap[P]?=some (.cells (plCs p fu m L cv) tPl):=(hg.block P (lt_of_heap hPY) (Ne.symm hPg.1)).trans hPY
 have hC:∀k,ColdP R w0.heap.size X k→cv.ownBlock≠some k∧k≠P:=fun k hk=>⟨(ColdP.ne h hk).2.2.2.2.1,(ColdP.ne h hk).2.1⟩
 have hgnot:¬ColdP R w0.heap.size X g:=fun hk=>by have:=(ColdP.ne h hk).1.2;omega
 have hggnot:∀k,some k=some gg→¬ColdP R w0.heap.size X k:=by
  intro k e hk
  injection e with e
  subst e
  rcases hw with e | e
  ·exact (ColdP.ne h hk).2.2.2.2.1 e.symm
  ·have:=(ColdP.ne h hk).1.2;have:=hXY.size;omega
 exact {
  pl:=by have:=set_at (k:=P) (i:=20) (.slice (some ⟨gg,0,none⟩) (n+1) c) hP4;exact this
  mp:=⟨h.mp.1,hK.get ⟨own_map2 h.ct.own h.mp.2,(ne_of_map h.pl h.mp.2).symm⟩ h.mp.2⟩
  lv:=hK.get (hTy _ _ _ _ h.lv (by decide) (by decide)) h.lv
  ct:=by
   have hlen:(p.conts++ [[(tx,ty)]]).length=n+1:=by rw [List.length_append,hn];rfl
   have hgw:(w4.setCell ⟨P,20,none⟩ (.slice (some ⟨gg,0,none⟩) (n+1) c)).heap[g]?=some (.cells #[.int .i64 tx, .int .i64 ty] tPt):=hK1.get ⟨(hne _ _ _ _ hgY (by decide)).1,ne_of_type hgY hPY (by decide)⟩ hgY
   have hcx:cx.length=n:=by rw [h.ct.own.1,hn,Nat.mul_one]
   refine ⟨?_,fun i hi=>?_,fun i hi he=>?_⟩
   ·show World.ownsRow _ _ _ _ _ (p.conts++ [[(tx,ty)]]).length _
    rw [hlen]
    exact row_grown hown (grown_set _ P 20 _) (.inr (own_other hown hP4 (by decide)))
   ·have hi2:i < p.conts.length:=by have:i+1 <(p.conts++ [[(tx,ty)]]).length:=hi;omega
    obtain ⟨q,d,h1,h2,h3⟩:=h.ct.all hbig i hi2
    have e:(p.conts++ [[(tx,ty)]])[i]'(by omega)=p.conts[i]:=List.getElem_append_left hi2
    show ∃q c,_=some (Value.slice q ((p.conts++ [[(tx,ty)]])[i]'(by omega)).length c)∧((p.conts++ [[(tx,ty)]])[i]'(by omega)).length≤c∧PtsIn _ _ q ((p.conts++ [[(tx,ty)]])[i]'(by omega))
    rw [e,List.getElem?_append_left (by omega)]
    exact ⟨q,d,h1,h2,h3.keep (hK.mono fun k _ hk=>hC k hk)⟩
   ·have hie:i=n:=by have:i+1=(p.conts++ [[(tx,ty)]]).length:=he;omega
    subst hie
    have e:(p.conts++ [[(tx,ty)]])[i]'(by omega)= [(tx,ty)]:=by rw [List.getElem_append_right (by omega)];simp [hn]
    show ∃g c,_=some (Value.slice (some ⟨g,0,none⟩) ((p.conts++ [[(tx,ty)]])[i]'(by omega)).length c)∧World.ownsRow _ _ _ _ (.slice (some ⟨g,0,none⟩) ((p.conts++ [[(tx,ty)]])[i]'(by omega)).length c) ((p.conts++ [[(tx,ty)]])[i]'(by omega)).length (ptsL ((p.conts++ [[(tx,ty)]])[i]'(by omega)))∧_
    rw [e,List.getElem?_append_right (by omega),hcx,Nat.sub_self]
    exact ⟨g,1,rfl,row_news _ (by omega) hgw,hgnot⟩
  ob:=row_keep h.ob hK fun k e=>⟨fun e2=>by
    rcases own_ne2 h.ct.own h.ob (by decide) with h1 | h1
    ·rw [h1] at e;cases e
    ·exact h1 (e.trans e2.symm),fun e2=>own_other h.ob h.pl (by decide) (e2 ▸ e)⟩
  obs:=(h.obs.mono fun k _ hk=> .inl hk).keep (hK.mono fun k _ hk=>hC k hk)
  rlo:=fun k hk=>⟨(ColdP.ne h hk).1.1,Nat.lt_of_lt_of_le (ColdP.ne h hk).1.2 hK.size⟩
  rP:=fun hk=>(ColdP.ne h hk).2.1 rfl
  rL:=fun hk=>(ColdP.ne h hk).2.2.1 rfl
  rm:=fun hk=>(ColdP.ne h hk).2.2.2.1 rfl
  rK:=fun k e=>hggnot k (by simpa [Value.ownBlock] using e.symm)
  rO:=fun k e hk=>(ColdP.ne h hk).2.2.2.2.2 e
  bP:=h.bP
  bL:=h.bL
  bm:=h.bm
  bel:=h.bel.trans (hK.below _ h.bel.size fun k hk=>⟨fun e=>by have:=(h.ct.own.lt k e).1;omega,by have:=h.bP;omega⟩)
  top:=h.top
  lvs:=h.lvs
  mac:=h.mac}
theorem own_set1 {w:World} {B K n c i:Nat} {e:TypeId} {xs:List Value} {u:Value} (h:w.ownsRow B e 1 (.slice (some ⟨K,0,none⟩) n c) n xs) (hi:i < n):(w.setCell ⟨K,i,none⟩ u).ownsRow B e 1 (.slice (some ⟨K,0,none⟩) n c) n (xs.set i u):=by
 refine ⟨by rw [List.length_set];exact h.1,?_⟩
 rcases h.2 with ⟨hv,_⟩|⟨k,cap,cur,hk,hB,hh,h1,h2,h3,h4⟩
 ·cases hv
 ·injection hk with hk1 _ hk2
  injection hk1 with hk1
  injection hk1 with hk1
  subst hk1 hk2
  refine .inr ⟨K,c,cur.setIfInBounds i u,rfl,hB,set_at u hh,h1,h2,by rw [Array.size_setIfInBounds];exact h3,?_⟩
  rw [Array.toList_setIfInBounds,List.take_set,h4]
set_option maxHeartbeats 1600000 in
theorem PlAt.pushP {w0:World} {P:Nat} {R:Nat→Prop} {m L:Nat} {fu:Int} {cv ov:Value} {cx ox:List Value} {p:Pl} {X Y w4:World} {n K capk g cg gg c2 len:Nat} {c:List P2} {tx ty:Int}
  (h:PlAt w0 P R m L fu cv ov cx ox p X) (hn:p.conts.length=n+1) (hc:p.conts[n]?=some c) (hcv:cv= .slice (some ⟨K,0,none⟩) (n+1) capk) (hlast:cx[n]?=some (.slice (some ⟨g,0,none⟩) len cg)) (hlen:c.length=len) (hXY:Below X.heap.size X Y)
  (hg:Y.grownBy w4 (some g)) (hown:w4.ownsRow w0.heap.size tPt 2 (.slice (some ⟨gg,0,none⟩) (len+1) c2) (len+1) (ptsL c++ [.int .i64 tx, .int .i64 ty])) (hw:some gg=some g∨Y.heap.size≤gg) (hgR:¬R g) (hgB:w0.heap.size≤g) (hgT:∃cur,X.heap[g]?=some (.cells cur tPt)):
  PlAt w0 P R m L fu cv ov (cx.set n (.slice (some ⟨gg,0,none⟩) (len+1) c2)) ox {p with conts:=lastPush p.conts (tx,ty)} (w4.setCell ⟨K,n,none⟩ (.slice (some ⟨gg,0,none⟩) (len+1) c2)):=by
 subst hcv
 have hY:=h.below hXY
 obtain ⟨hBg,cur,hcur⟩:=own_type hown
 obtain ⟨hi,rfl⟩:=List.getElem?_eq_some_iff.1 hc
 obtain ⟨gcur,hgT⟩:=hgT
 have hown0:=h.ct.own
 rw [hn] at hown0
 obtain ⟨hBK,kcur,hKX⟩:=own_type hown0
 have hggR:¬R gg:=by
  rcases hw with e | e
  ·injection e with e;rw [e];exact hgR
  ·intro hk;have:=(h.rlo gg hk).2;have:=hXY.size;omega
 have hKc:Keep (fun k=>k≠g∧k≠K) X (w4.setCell ⟨K,n,none⟩ (.slice (some ⟨gg,0,none⟩) (len+1) c2)):=((Keep.of_below hXY).trans (Keep.grown hg fun k e hk=>hk.1 (by injection e with e;exact e.symm))).trans (Keep.set (a:=⟨K,n,none⟩) (fun hk=>hk.2 rfl) _)
 have hTy:∀k cs t fz,X.heap[k]?=some (.cells cs t fz)→t≠tPts→t≠tPt→k≠g∧k≠K:=fun k cs t fz hk h1 h2=>⟨ne_of_type hk hgT h2,ne_of_type hk hKX h1⟩
 have hK4:∃kc,w4.heap[K]?=some (.cells kc tPts):=by
  have hne:K≠g:=ne_of_type hKX hgT (by decide)
  exact ⟨kcur,(hg.block K (lt_of_heap (one_below hKX hXY)) (fun e=>hne (by injection e))).trans (one_below hKX hXY)⟩
 obtain ⟨kc4,hK4⟩:=hK4
 have hRk:∀k,R k→k≠g∧k≠K:=fun k hk=>⟨fun e=>hgR (e ▸ hk),fun e=>h.rK K rfl (e ▸ hk)⟩
 have hcx:cx.length=n+1:=by rw [hown0.1,Nat.mul_one]
 have hlp:lastPush p.conts (tx,ty)=p.conts.dropLast++ [p.conts[n] ++ [(tx,ty)]]:=by
  unfold lastPush
  congr 2
  rw [List.getLastD_eq_getLast?,List.getLast?_eq_getElem?,hn]
  simp only [Nat.add_sub_cancel]
  rw [List.getElem?_eq_getElem hi]
  rfl
 have hll:(lastPush p.conts (tx,ty)).length=n+1:=by rw [hlp,List.length_append,List.length_dropLast,hn];rfl
 have hle:(lastPush p.conts (tx,ty))[n]?=some (p.conts[n] ++ [(tx,ty)]):=by rw [hlp,List.getElem?_append_right (by rw [List.length_dropLast];omega),List.length_dropLast,hn];simp
 exact {
  pl:=hKc.get (hTy _ _ _ _ h.pl (by decide) (by decide)) h.pl
  mp:=⟨h.mp.1,hKc.get ⟨(ne_of_map hgT h.mp.2).symm,(ne_of_map hKX h.mp.2).symm⟩ h.mp.2⟩
  lv:=hKc.get (hTy _ _ _ _ h.lv (by decide) (by decide)) h.lv
  ct:=by
   refine ⟨?_,fun i hi2=>?_,fun i hi2 he=>?_⟩
   ·show World.ownsRow _ _ _ _ _ (lastPush p.conts (tx,ty)).length _
    rw [hll]
    have h1:World.ownsRow w4 w0.heap.size tPts 1 (.slice (some ⟨K,0,none⟩) (n+1) capk) (n+1) cx:=by
     refine row_grown (row_below hown0 hXY) hg (.inr ?_)
     intro e
     have e2:K=g:=by simpa [Value.ownBlock] using e
     exact ne_of_type hKX hgT (by decide) e2
    exact own_set1 h1 (Nat.lt_succ_self _)
   ·have hi3:i < n:=by have:i+1 <(lastPush p.conts (tx,ty)).length:=hi2;omega
    obtain ⟨q,d,h1,h2,h3⟩:=h.ct.init i (by omega)
    have e:(lastPush p.conts (tx,ty))[i]'(by omega)=p.conts[i]:=by
     have h5:(lastPush p.conts (tx,ty))[i]?=p.conts[i]?:=by rw [hlp,List.getElem?_append_left (by rw [List.length_dropLast];omega),List.getElem?_dropLast,if_pos (by omega)]
     rw [List.getElem?_eq_getElem (by omega),List.getElem?_eq_getElem (by omega)] at h5
     injection h5
    show ∃q c,_=some (Value.slice q ((lastPush p.conts (tx,ty))[i]'(by omega)).length c)∧((lastPush p.conts (tx,ty))[i]'(by omega)).length≤c∧PtsIn _ _ q ((lastPush p.conts (tx,ty))[i]'(by omega))
    rw [e,List.getElem?_set_ne (by omega)]
    exact ⟨q,d,h1,h2,h3.keep (hKc.mono fun k _ hk=>hRk k hk)⟩
   ·have hie:i=n:=by have:i+1=(lastPush p.conts (tx,ty)).length:=he;omega
    subst hie
    have e:(lastPush p.conts (tx,ty))[i]'(by omega)=p.conts[i] ++ [(tx,ty)]:=by
     have h5:=hle
     rw [List.getElem?_eq_getElem (by omega)] at h5
     injection h5
    show ∃g c,_=some (Value.slice (some ⟨g,0,none⟩) ((lastPush p.conts (tx,ty))[i]'(by omega)).length c)∧World.ownsRow _ _ _ _ (.slice (some ⟨g,0,none⟩) ((lastPush p.conts (tx,ty))[i]'(by omega)).length c) ((lastPush p.conts (tx,ty))[i]'(by omega)).length (ptsL ((lastPush p.conts (tx,ty))[i]'(by omega)))∧_
    rw [e,List.getElem?_set_self (by omega),List.length_append,hlen]
    refine ⟨gg,c2,rfl,?_,hggR⟩
    have e3:ptsL (p.conts[i] ++ [(tx,ty)])=ptsL p.conts[i] ++ [.int .i64 tx, .int .i64 ty]:=by unfold ptsL;rw [List.flatMap_append];rfl
    rw [e3]
    exact row_grown hown (grown_set _ K i _) (.inr (own_other hown hK4 (by decide)))
  ob:=row_keep h.ob hKc fun k e=>⟨fun e2=>own_other h.ob hgT (by decide) (e2 ▸ e),fun e2=>own_other h.ob hKX (by decide) (e2 ▸ e)⟩
  obs:=h.obs.keep (hKc.mono fun k _ hk=>hRk k hk)
  rlo:=fun k hk=>⟨(h.rlo k hk).1,Nat.lt_of_lt_of_le (h.rlo k hk).2 hKc.size⟩
  rP:=h.rP
  rL:=h.rL
  rm:=h.rm
  rK:=h.rK
  rO:=h.rO
  bP:=h.bP
  bL:=h.bL
  bm:=h.bm
  bel:=h.bel.trans (hKc.below _ h.bel.size fun k hk=>⟨by omega,by omega⟩)
  top:=h.top
  lvs:=h.lvs
  mac:=h.mac}
end Go.Proofs.YtfldplmgkeiimaaGreatDoor.VW
namespace Go.Proofs.YtfldplmgkeiimaaGreatDoor.VW
open Go.RowKit Go.Proofs.YtfldplmgkeiimaaGreatDoor.Vp
theorem PtsIn.pre {S:Nat→Prop} {w:World} {q:Option Addr} {l:List P2} (h:PtsIn S w q l):PtsIn S w q l.dropLast:=by
 refine ⟨by rw [List.length_dropLast];exact Nat.le_trans (Nat.sub_le _ _) h.1,fun hl=>?_⟩
 rw [List.length_dropLast] at hl
 obtain ⟨b,o,cs,e,hS,hh,hc⟩:=h.2 (by omega)
 refine ⟨b,o,cs,e,hS,hh,fun i hi=>?_⟩
 rw [List.length_dropLast] at hi
 rw [List.getElem_dropLast]
 exact hc i (by omega)
theorem PlAt.noC {w0:World} {P:Nat} {R:Nat→Prop} {m L:Nat} {fu:Int} {cv ov:Value} {cx ox:List Value} {p:Pl} {w:World} (h:PlAt w0 P R m L fu cv ov cx ox p w):
  PlAt w0 P R m L fu (.slice none 0 0) ov [] ox {p with conts:= []} (w.setCell ⟨P,20,none⟩ (.slice none 0 0)):=by
 have hk:Keep (fun k=>k≠P) w (w.setCell ⟨P,20,none⟩ (.slice none 0 0)):=Keep.set (a:=⟨P,20,none⟩) (fun hk=>hk rfl) _
 exact {
  pl:=by have:=set_at (k:=P) (i:=20) (.slice none 0 0) h.pl;exact this
  mp:=⟨h.mp.1,hk.get (ne_of_map h.pl h.mp.2).symm h.mp.2⟩
  lv:=hk.get (ne_of_type h.lv h.pl (by decide)) h.lv
  ct:= .nil _ _ _
  ob:=row_keep h.ob hk fun k e=>fun e2=>own_other h.ob h.pl (by decide) (e2 ▸ e)
  obs:=h.obs.keep (hk.mono fun k _ hR e=>h.rP (e ▸ hR))
  rlo:=fun k hk'=>⟨(h.rlo k hk').1,Nat.lt_of_lt_of_le (h.rlo k hk').2 hk.size⟩
  rP:=h.rP
  rL:=h.rL
  rm:=h.rm
  rK:=fun k e=>by simp [Value.ownBlock] at e
  rO:=h.rO
  bP:=h.bP
  bL:=h.bL
  bm:=h.bm
  bel:=h.bel.trans (hk.below _ h.bel.size fun k hk2 e=>by have:=h.bP;omega)
  top:=h.top
  lvs:=h.lvs
  mac:=h.mac}
def RowsP (B:Nat) (X:World) (k:Nat):Prop:=B≤k∧∃cs t,X.heap[k]?=some (.cells cs t)∧(t=tPt∨t=tPts)
theorem PlAt.rows {w0:World} {P:Nat} {R:Nat→Prop} {m L:Nat} {fu:Int} {ov:Value} {cx ox:List Value} {p:Pl} {w:World} (h:PlAt w0 P R m L fu (.slice none 0 0) ov cx ox p w) (hc:p.conts= []):
  PlAt w0 P (fun k=>R k∨RowsP w0.heap.size w k) m L fu (.slice none 0 0) ov cx ox p w:=by
 refine h.more hc fun k hk=>?_
 obtain ⟨hB,cs,t,hh,ht⟩:=hk
 refine ⟨hB,lt_of_heap hh,?_,?_,ne_of_map hh h.mp.2,by simp [Value.ownBlock],?_⟩
 ·rcases ht with rfl | rfl <;> exact ne_of_type hh h.pl (by decide)
 ·rcases ht with rfl | rfl <;> exact ne_of_type hh h.lv (by decide)
 ·rcases ht with rfl | rfl <;> exact own_other h.ob hh (by decide)
structure FlM (B D:Nat) (w:World) (cs:List (List P2)) (lv:Value) (ys:List Value) (j:Nat) (x:World):Prop where
 sh:x.heap[D]?=some (.cells #[.int .i64 2, .int .i64 0, .int .i64 0, .int .i64 0, .int .i64 0, .int .i64 0, .int .i64 0, .int .i64 0,lv, .slice none 0 0] tSh)
 own:x.ownsRow (D+1) tPts 1 lv j ys
 bel:Below D w x
theorem FlM.below {B D:Nat} {w:World} {cs:List (List P2)} {lv:Value} {ys:List Value} {j:Nat} {x y:World} (h:FlM B D w cs lv ys j x) (hb:Below x.heap.size x y):FlM B D w cs lv ys j y:=⟨one_below h.sh hb,row_below h.own hb,h.bel.trans (hb.mono (Nat.le_of_lt (lt_of_heap h.sh)))⟩
theorem FlM.push {B D:Nat} {w:World} {cs:List (List P2)} {lv lv':Value} {ys:List Value} {j:Nat} {x y:World} {u:Value} (h:FlM B D w cs lv ys j x) (hg:x.grownBy y lv.ownBlock) (hown:y.ownsRow (D+1) tPts 1 lv' (j+1) (ys++ [u])):FlM B D w cs lv' (ys++ [u]) (j+1) (y.setCell ⟨D,8,none⟩ lv'):=by
 have h1:=own_other h.own h.sh (by decide)
 have h2:y.heap[D]?=_:=(hg.block D (lt_of_heap h.sh) (Ne.symm h1)).trans h.sh
 refine ⟨?_,?_,?_⟩
 ·have:=set_at (k:=D) (i:=8) lv' h2
  exact this
 ·exact row_grown hown (grown_set _ D 8 _) (.inr (own_other hown h2 (by decide)))
 ·have h3:Below D w y:=h.bel.grown hg (Nat.le_of_lt (lt_of_heap h.sh)) (fun k hk=>by have:=(h.own.lt k hk).1;omega)
  exact h3.setCell (p:=⟨D,8,none⟩) (Nat.le_refl _) _
end Go.Proofs.YtfldplmgkeiimaaGreatDoor.VW
namespace Go.Proofs.YtfldplmgkeiimaaGreatDoor.VW
open Go.RowKit Go.Proofs.YtfldplmgkeiimaaGreatDoor.Vp
theorem info_cs:(Tryz.prog.info? 78).map (fun i=>(i.zero,i.size,i.bytes))=some (some (.slice none 0 0),1,24):=by kernel_rfl
theorem info_p2:(Tryz.prog.info? 71).map (fun i=>(i.zero,i.size,i.bytes))=some (some (.agg #[.int .i64 0, .int .i64 0]),2,16):=by kernel_rfl
theorem pt_at2 {w:World} {k:Nat} {a b:Value} {t:TypeId} (h:w.heap[k]?=some (.cells #[a,b] t)):w.cell? ⟨k,0,none⟩=some a∧w.cell? ⟨k,1,none⟩=some b:=by
 constructor <;> simp [World.cell?,h]
abbrev SzC (p:Pl):Prop:=p.conts.length≤1000000∧∀c∈p.conts,0 < c.length∧c.length≤1000000
set_option maxRecDepth 100000 in
set_option maxHeartbeats 12800000 in
theorem move_c (w0:World) (P:Nat) (p:Pl) (tx ty:Int) (w1 w:World) (H:Hid (PlM w0 P p w1)) (HW:Hid (Below w1.heap.size w1 w)) (hs:SzC p) (res:Except Nat Pl) (hres:Hid (moveV p (tx,ty)=res)):
  Calls Tryz.prog 148 #[.pointer (some ⟨P,0,none⟩), .agg #[.int .i64 tx, .int .i64 ty]] w fun e w'=>PlRes w0 P res e w'∧Keep (fun k=>w1.heap.size≤k) w w':=by
 obtain ⟨R,m,L,fu,cv,ov,cx,ox,h⟩:=H.out
 have H1:=Lib.hid (h.below HW.out)
 have HPl:Hid (P < w1.heap.size∧∀k,cv.ownBlock=some k→k < w1.heap.size):=⟨lt_of_heap h.pl,fun k e=>(h.ct.own.lt k e).2⟩
 have HS:=Lib.hid hs
 obtain ⟨rg,hrg⟩:∃r,p.region=r:=⟨_,rfl⟩
 have HRG:=Lib.hid hrg
 have HR:Hid ((if rg=false then .ok p else if closedC p.conts=false then .error 4 else .ok {p with conts:=p.conts++ [[(tx,ty)]]})=res):=by rw [←hres.out,←hrg];rfl
 clear h hs H hres hrg
 go_enter Tryz.func148,Tryz.ntmps148
 go_upto_region 1 with fail
 have H2:=Lib.hid (H1.out.below (bel_alloc w (.cells #[.int .i64 tx, .int .i64 ty] tPt)))
 have HD2:Hid ((w.alloc (.cells #[.int .i64 tx, .int .i64 ty] tPt)).heap[w.heap.size]?=some (.cells #[.int .i64 tx, .int .i64 ty] tPt)):=alloc_new _ _
 have HDn:Hid (∀k,w.heap.size≤k→¬R k):=fun k hk h=>by have:=(H1.out.rlo k h).2;omega
 clear H1
 have HKw:Hid (Keep (fun k=>w1.heap.size≤k) w (w.alloc (.cells #[.int .i64 tx, .int .i64 ty] tPt))):=Keep.alloc _ _ _
 generalize w.alloc (.cells #[.int .i64 tx, .int .i64 ty] tPt)=W at H2 HD2 HKw⊢
 obtain ⟨D,hD⟩:∃D,w.heap.size=D:=⟨_,rfl⟩
 rw [hD] at HD2⊢
 clear hD HDn
 have c19:W.cell? ⟨P,19,none⟩=some (.bool rg):=by rw [←HRG.out];exact cell_of (i:=19) H2.out.pl rfl
 cases rg with
 | false=>
  have HF:Hid (.ok p=res):=HR.out
  go_wp2_with fail
  go_ret
  rw [←HF.out]
  exact ⟨PlRes.ok2 rfl H2.out,HKw.out⟩
 | true=>
  obtain ⟨f,hf⟩:∃f,closedC p.conts=f:=⟨_,rfl⟩
  have HC:=Lib.hid hf
  have HR2:Hid ((if f=false then .error 4 else .ok {p with conts:=p.conts++ [[(tx,ty)]]})=res):=by rw [←HR.out,←hf];rfl
  clear hf HR
  go_upto_region 3 with fail
  have HM:Hid (PlM w0 P p W):=⟨_,_,_,_,_,_,_,_,H2.out⟩
  go_wp2_with fail
  with_reducible refine (closed_c w0 P p W HM HS.out f HC).mono ?_
  rintro e W1 ⟨rfl,hb⟩
  have H3:=Lib.hid (H2.out.below hb)
  have HD3:=Lib.hid (one_below HD2.out hb)
  have HK1:=Lib.hid (HKw.out.trans (Keep.of_below hb))
  clear c19 H2 HD2 HM hb
  cases f with
  | false=>
   have HF:Hid (.error 4=res):=HR2.out
   go_wp2_with fail
   go_ret
   rw [←HF.out]
   exact ⟨⟨H3.out.bel,rfl⟩,HK1.out⟩
  | true=>
   have HF:Hid (.ok {p with conts:=p.conts++ [[(tx,ty)]]}=res):=HR2.out
   go_upto_region 5 with fail
   obtain ⟨n,hn⟩:∃n,p.conts.length=n:=⟨_,rfl⟩
   have HNn:=Lib.hid hn
   have hnb:n≤1000000:=by rw [←hn];exact HS.out.1
   have hown0:World.ownsRow W1 w0.heap.size tPts 1 cv p.conts.length cx:=H3.out.ct.own
   rw [hn] at hown0
   clear hn HR2
   obtain ⟨pc,cc,rfl⟩:=row_form hown0
   have HXO:Hid (((W1.drew.alloc (.cells #[.int .i64 tx, .int .i64 ty] tPt)).alloc (.cells #[.slice (some ⟨W1.heap.size,0,none⟩) 1 1] tPts)).ownsRow w0.heap.size tPts 1 (.slice pc n cc) n cx):=(hown0.drew.alloc _).alloc _
   clear hown0
   obtain ⟨d0,d1⟩:=pt_at2 HD3.out
   have c20:W1.cell? ⟨P,20,none⟩=some (.slice pc n cc):=cell_of (i:=20) H3.out.pl rfl
   have f20:=cells_f0 H3.out.pl 20
   have hsz:=H3.out.bel.size
   have hDlt:=lt_of_heap HD3.out
   have hPlt:=lt_of_heap H3.out.pl
   have HBY:Hid (Below W1.heap.size W1 ((W1.drew.alloc (.cells #[.int .i64 tx, .int .i64 ty] tPt)).alloc (.cells #[.slice (some ⟨W1.heap.size,0,none⟩) 1 1] tPts))):=((Below.refl _ _).drew.alloc (Nat.le_refl _) _).alloc (by rw [show (W1.drew.alloc (.cells #[.int .i64 tx, .int .i64 ty] tPt)).heap.size=W1.heap.size+1 from Array.size_push _];exact Nat.le_succ _) _
   have hkey:∀(w4:World),((W1.drew.alloc (.cells #[.int .i64 tx, .int .i64 ty] tPt)).alloc (.cells #[.slice (some ⟨W1.heap.size,0,none⟩) 1 1] tPts)).grownBy w4 (Value.slice pc n cc).ownBlock→w4.cell? ⟨P,20,none⟩=some (.slice pc n cc)∧w4.frozen? ⟨P,20,none⟩=false:=by
    intro w4 hg4
    have hP4:=one_below H3.out.pl HBY.out
    have h1:w4.heap[P]?=some (.cells (plCs p fu m L (.slice pc n cc)) tPl):=(hg4.block _ (lt_of_heap hP4) (Ne.symm (own_other HXO.out hP4 (by decide)))).trans hP4
    exact ⟨cell_of h1 rfl,cells_f0 h1 20⟩
   obtain ⟨i0,hi,hz0,hz1,hz2⟩:=info_parts info_cs
   have HI:=Lib.hid (And.intro hi (And.intro hz0 (And.intro hz1 hz2)))
   clear hi hz0 hz1 hz2
   go_region_law (first |(refine step_append_lies _ (by rfl) _ _ _ (by rfl) w0.heap.size tPts i0 (.slice none 0 0) 1 24 Tryz.underlying72 HI.out.1 HI.out.2.1 HI.out.2.2.1 HI.out.2.2.2 rfl (by omega) (.slice pc n cc) n _ (by rfl) HXO.out ⟨W1.heap.size+1,0,none⟩ 1 1 [.slice (some ⟨W1.heap.size,0,none⟩) 1 1] (by rfl) (by rfl) (World.news_of_block (cs:= #[.slice (some ⟨W1.heap.size,0,none⟩) 1 1]) (t:=tPts) (fr:=(0,0)) (by rw [show W1.heap.size+1=(W1.drew.alloc (.cells #[.int .i64 tx, .int .i64 ty] tPt)).heap.size from (Array.size_push _).symm];exact heap_alloc_new _ _)) (by simp [Value.oneCell']) (by omega) (by unfold maxLen;omega) (by omega) (by simp;omega) (W1.heap.size+1+1) (by simp) ?_;intro gg cap2 w5 hown hgrow hat hltt;obtain ⟨q1,q2⟩:=hkey w5 hgrow)| fail)
   all_goals
    have hfin:=PlAt.pushC (tx:=tx) (ty:=ty) H3.out HNn.out (fun c hc=>by have:=(HS.out.2 c hc).2;show _≤1000000000;omega) HBY.out (Nat.le_refl _) (one_below (k:=W1.heap.size) (alloc_new W1.drew (.cells #[.int .i64 tx, .int .i64 ty] tPt)) (bel_alloc _ _)) hgrow hown (hat.imp Eq.symm (fun h=>by rw [h];exact Nat.le_of_eq (by rw [show ((W1.drew.alloc (.cells #[.int .i64 tx, .int .i64 ty] tPt)).alloc (.cells #[.slice (some ⟨W1.heap.size,0,none⟩) 1 1] tPts)).heap.size=(W1.drew.alloc (.cells #[.int .i64 tx, .int .i64 ty] tPt)).heap.size+1 from Array.size_push _,show (W1.drew.alloc (.cells #[.int .i64 tx, .int .i64 ty] tPt)).heap.size=W1.heap.size+1 from Array.size_push _])))
    have HK9:=Lib.hid ((HK1.out.trans (Keep.of_below HBY.out)).trans ((Keep.grown hgrow (fun k e hk=>Nat.not_le_of_lt (HPl.out.2 k e) hk)).trans (Keep.set (a:=⟨P,20,none⟩) (fun hk=>Nat.not_le_of_lt HPl.out.1 hk) (.slice (some ⟨gg,0,none⟩) (n+1) cap2))))
    clear hown hgrow hat hltt q1 q2 d0 d1 c20 f20 hkey
    go_wp2_with fail
    go_ret
    rw [←HF.out]
    exact ⟨PlRes.ok2 rfl hfin,HK9.out⟩
end Go.Proofs.YtfldplmgkeiimaaGreatDoor.VW
