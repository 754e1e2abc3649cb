/-
  Several texts of this proof in one: Qr.
-/
import Derived.Test.YtfldplmgkeiimaaGreatDoorQ3
import Derived.Test.YtfldplmgkeiimaaGreatDoorQ8
set_option linter.unusedVariables false
set_option linter.unusedSimpArgs false
namespace Go.Proofs.YtfldplmgkeiimaaGreatDoor.VW
open Go.RowKit Go.Proofs.YtfldplmgkeiimaaGreatDoor.Vp
theorem ptV_id (p:P2):ptV tn0 p=p:=by
 obtain ⟨x,y⟩:=p
 simp [ptV,tn0,Vp.flip,quartV]
theorem map_id2 (l:List P2):l.map (ptV tn0)=l:=by
 rw [show ptV tn0=id from funext ptV_id,List.map_id]
theorem map_id3 (l:List (List P2)):(l.map fun c=>c.map (ptV tn0))=l:=by
 rw [show (fun c:List P2=>c.map (ptV tn0))=id from funext map_id2,List.map_id]
def ptsL (l:List P2):List Value:=l.flatMap fun p=> [.int .i64 p.1, .int .i64 p.2]
theorem ptsL_len (l:List P2):(ptsL l).length=l.length *2:=by
 induction l with
 | nil=>rfl
 | cons a l ih=>simp only [ptsL,List.flatMap_cons,List.length_append,List.length_cons] at ih⊢;rw [ih];simp;omega
theorem ptsL_at:∀{l:List P2} {i:Nat} (hi:i < l.length),(ptsL l)[i *2]?=some (.int .i64 l[i].1)∧(ptsL l)[i *2+1]?=some (.int .i64 l[i].2)
 | a :: l,0,_=>⟨rfl,rfl⟩
 | a :: l,i+1,hi=>by
  have h:=ptsL_at (l:=l) (i:=i) (by simpa using hi)
  have e:ptsL (a :: l)= .int .i64 a.1 :: .int .i64 a.2 :: ptsL l:=rfl
  rw [e,show (i+1) *2=i *2+1+1 by omega]
  exact h
theorem ptsL_one {l:List P2} {u:Value} (h:u∈ptsL l):u.oneCell'=true:=by
 obtain ⟨p,_,hp⟩:=List.mem_flatMap.1 h
 simp at hp
 rcases hp with rfl | rfl <;> rfl
theorem PtsIn.news {S:Nat→Prop} {w:World} {p:Option Addr} {l:List P2} (h:PtsIn S w p l) (hl:0 < l.length):∃b o,p=some ⟨b,o,none⟩∧∀j u,(ptsL l)[j]?=some u→w.cell? ((⟨b,o,none⟩:Addr).add j)=some u:=by
 obtain ⟨b,o,cs,rfl,_,hh,hc⟩:=h.2 hl
 refine ⟨b,o,rfl,fun j u hu=>?_⟩
 have hj:j < l.length *2:=by
  rw [←ptsL_len]
  exact (List.getElem?_eq_some_iff.1 hu).1
 have hadd:(⟨b,o,none⟩:Addr).add j=⟨b,o+j,none⟩:=by unfold Addr.add;split <;> simp_all
 rw [hadd]
 obtain ⟨h0,h1⟩:=hc (j / 2) (by omega)
 obtain ⟨g0,g1⟩:=ptsL_at (l:=l) (i:=j / 2) (by omega)
 rcases (show j=j / 2 *2∨j=j / 2 *2+1 by omega) with e | e
 ·rw [e,g0] at hu
  rw [e]
  rw [←hu]
  exact cell_of hh h0
 ·rw [e,g1] at hu
  rw [e,←Nat.add_assoc]
  rw [←hu]
  exact cell_of hh h1
theorem PtsIn.own {R:Nat→Prop} {w:World} {B g n cap:Nat} {l:List P2} (h:w.ownsRow B tPt 2 (.slice (some ⟨g,0,none⟩) n cap) n (ptsL l)) (hn:n=l.length) (hb:l.length≤big) (hR:∀k,B≤k→R k):PtsIn R w (some ⟨g,0,none⟩) l∧l.length≤cap:=by
 subst hn
 rcases h.2 with ⟨hv,_⟩|⟨k,cap',cur,hv,hB,hh,hc,_,_,ht⟩
 ·cases hv
 ·injection hv with h1 _ h3
  injection h1 with h1
  injection h1 with h1
  subst h1 h3
  refine ⟨⟨hb,fun hl=>⟨g,0,cur,rfl,hR g hB,hh,fun i hi=>?_⟩⟩,hc⟩
  obtain ⟨g0,g1⟩:=ptsL_at (l:=l) hi
  rw [←ht,List.getElem?_take] at g0 g1
  rw [if_pos (by omega)] at g0 g1
  rw [Nat.zero_add]
  exact ⟨by simpa using g0,by simpa using g1⟩
theorem info_parts2 {P:Program} {t:TypeId} {z:Option Value} {n b:Nat} (h:(P.info? t).map (fun i=>(i.zero,i.size,i.bytes))=some (z,n,b)):∃i,P.info? t=some i∧i.zero=z∧i.size=n∧i.bytes=b:=by
 cases hi:P.info? t with
 | none=>rw [hi] at h;cases h
 | some i=>
  rw [hi] at h
  simp only [Option.map_some,Option.some.injEq,Prod.mk.injEq] at h
  exact ⟨i,rfl,h.1,h.2.1,h.2.2⟩
theorem below_none {w w':World} (h:w.grownBy w' (Value.slice none 0 0).ownBlock):Below w.heap.size w w':=⟨h.os,h.tape,h.output,h.size,fun k hk=>h.block k hk (by simp [Value.ownBlock])⟩
theorem plus_c (a b:Int) (ha:0≤a∧a≤1000000000) (hb:0≤b∧b≤1000000000) (w:World):Calls Tryz.prog 118 #[.int .i64 a, .int .i64 b] w fun e w'=>e= .returned (.int .i64 (a+b))∧w'=w:=by
 have h1:IntKind.i64.wrap (9223372036854775807 - b)=9223372036854775807 - b:=IntWalk.i64_in _ (by omega)
 have h2:IntKind.i64.wrap (a+b)=a+b:=IntWalk.i64_in _ (by omega)
 have h3:¬a > 9223372036854775807 - b:=by omega
 go_enter Tryz.func118,Tryz.ntmps118
 go_wp2_with fail
 go_ret
 exact ⟨rfl,rfl⟩
set_option maxRecDepth 100000 in
theorem countParts0 (p:Option Addr) (c:Nat) (w:World):Calls Tryz.prog 119 #[.slice p 0 c] w fun e w'=>e= .returned (.int .i64 0)∧Below w.heap.size w w':=by
 go_enter Tryz.func119,Tryz.ntmps119
 go_wp2_with fail
 go_ret
 exact ⟨rfl,Below.refl _ _⟩
theorem count0 (k ax ay bx bz cx cy r:Int) (pl:Option Addr) (n cl:Nat) (pp:Option Addr) (cp:Nat) (w:World):Calls Tryz.prog 79 #[.agg #[.int .i64 k, .int .i64 ax, .int .i64 ay, .int .i64 bx, .int .i64 bz, .int .i64 cx, .int .i64 cy, .int .i64 r, .slice pl n cl, .slice pp 0 cp]] w fun e w'=>e= .returned (.int .i64 1)∧Below w.heap.size w w':=by
 go_enter Tryz.func79,Tryz.ntmps79
 go_wp2_with fail
 with_reducible refine (countParts0 pp cp _).mono ?_
 rintro e W ⟨rfl,hb⟩
 go_wp2_with fail
 with_reducible refine (plus_c 1 0 ⟨by decide,by decide⟩ ⟨by decide,by decide⟩ _).mono ?_
 rintro e W2 ⟨rfl,rfl⟩
 go_wp2_with fail
 go_ret
 exact ⟨rfl,(bel1 _ _).trans (hb.mono (bel1 _ _).size)⟩
set_option maxRecDepth 100000 in
set_option maxHeartbeats 12800000 in
theorem pileCont_c (S:Nat→Prop) (p:Option Addr) (l:List (List P2)) (hne:∀c∈l,0 < c.length) (n c:Nat) (hn:n=l.length) (w:World) (H:Hid (ConsIn S w p l)):
  Calls Tryz.prog 80 #[.slice p n c] w fun e w'=>∃q d,e= .returned (.slice q n d)∧n≤d∧ConsIn (fun k=>w.heap.size≤k) w' q l∧Below w.heap.size w w':=by
 have hbig:n≤1000000000:=by rw [hn];exact H.out.1
 have HN:=Lib.hid hn
 have HNE:=Lib.hid hne
 clear hn hne
 by_cases hn0:n=0
 ·subst hn0
  have HL0:Hid (l= []):=List.eq_nil_of_length_eq_zero HN.out.symm
  go_enter Tryz.func80,Tryz.ntmps80
  go_wp2_with fail
  go_ret
  exact ⟨none,0,rfl,Nat.le_refl _,by rw [HL0.out];exact .nil _ _ _,Below.refl _ _⟩
 have hn1:((n:Int)==0)=false:=by simp;omega
 have hmk:=make_rows (P:=Tryz.prog) 72 78 (.slice none 0 0) 1 24 Tryz.underlying72 info_pts n (by omega) (by omega)
 go_enter Tryz.func80,Tryz.ntmps80
 go_wp2_with fail
 obtain ⟨W,hW⟩:∃W,w.alloc (.cells (madeCells #[.slice none 0 0] n) tPts)=W:=⟨_,rfl⟩
 have HB0:Hid (Below w.heap.size w W):=by show Below _ _ _;rw [←hW];exact bel_alloc _ _
 have HR0:Hid (∃cs,W.heap[w.heap.size]?=some (.cells cs tPts)∧cs.size=n∧RowAt (fun k=>w.heap.size < k) W cs tn0 l 0):=by
  refine ⟨madeCells #[.slice none 0 0] n,by rw [←hW];exact alloc_new _ _,size_madeCells _ _,fun i _ h=>absurd h (Nat.not_lt_zero _)⟩
 change Code.wp _ _ _ _ (w.alloc (.cells (madeCells #[.slice none 0 0] n) tPts))
 rw [hW]
 clear hW hmk
 obtain ⟨i0,hi,hz0,hz1,hz2⟩:=info_parts2 info_pt
 have HI:=Lib.hid (And.intro hi (And.intro hz0 (And.intro hz1 hz2)))
 clear hi hz0 hz1 hz2
 go_loopw [14] (fun i wr=>∃(j:Nat) (wy:World),wy=wr∧j≤n∧i= .int .i64 j∧Hid (Below w.heap.size w wy)∧Hid (∃cs,wy.heap[w.heap.size]?=some (.cells cs tPts)∧cs.size=n∧RowAt (fun k=>w.heap.size < k) wy cs tn0 l j)) (fun i _=>n -(intOf i).toNat)
 case atStart=>exact ⟨0,_,rfl,Nat.zero_le _,rfl,HB0.out,HR0.out⟩
 case round=>
 obtain ⟨j,wy,rfl,hj,rfl,HB,HR⟩:=hrel
 by_cases hlt:j < n
 ·have hlt2:j < l.length:=by rw [←HN.out];exact hlt
  have hlti:(j:Int)<(n:Int):=by omega
  have hj0:(0:Int)≤(j:Int):=by omega
  obtain ⟨r,hr⟩:∃r,l[j]=r:=⟨_,rfl⟩
  obtain ⟨bb,oo,qa,cc,rfl,hcell0,_,hpts⟩:=H.out.at hlt2 hr
  have hcell:=cell_keep HB.out hcell0
  have hr0:0 < r.length:=HNE.out r (by rw [←hr];exact List.getElem_mem _)
  obtain ⟨pb,po,rfl,hnews⟩:=(hpts.below HB.out).news hr0
  have HNW:=Lib.hid hnews
  have hrb:r.length≤1000000000:=hpts.1
  have HPL:=Lib.hid hpts.1
  obtain ⟨m,hm⟩:∃m,r.length=m:=⟨_,rfl⟩
  have HMl:=Lib.hid hm
  have HRr:=Lib.hid hr
  rw [hm] at hcell hr0 hrb
  have hlen:(ptsL r).length=m *2:=by rw [ptsL_len,hm]
  have HLN:=Lib.hid hlen
  obtain ⟨cs,hcs,hsz,hrow⟩:=HR.out
  have HCS:=Lib.hid (And.intro hcs (And.intro hsz hrow))
  have hBlt:=lt_of_heap hcs
  have hkey:∀w5,wy.grownBy w5 (Value.slice none 0 0).ownBlock→(∃v,w5.cell? ⟨w.heap.size,j,none⟩=some v)∧w5.frozen? ⟨w.heap.size,j,none⟩=false:=by
   intro w5 hg
   have h1:w5.heap[w.heap.size]?=some (.cells cs tPts):=(hg.block _ hBlt (by simp [Value.ownBlock])).trans hcs
   exact ⟨cell_in h1 (by omega),cells_f0 h1 j⟩
  have HKEY:=Lib.hid hkey
  clear hcell0 hpts hnews hr hm hcs hsz hrow hlen hkey HR
  go_upto_region 7 with fail
  go_wp2_with (at_builtin;refine wpList_append_lies _ rfl _ _ _ rfl (w.heap.size+1) tPt i0 (.agg #[.int .i64 0, .int .i64 0]) 2 16 Tryz.underlying78 HI.out.1 HI.out.2.1 HI.out.2.2.1 HI.out.2.2.2 rfl (by omega) (.slice none 0 0) 0 [] (by rfl) ⟨rfl, .inl ⟨rfl,rfl⟩⟩ ⟨pb,po,none⟩ m cc (ptsL r) (by rfl) HLN.out HNW.out ?_ ?_ ?_ ?_ ?_ wy.heap.size ?_ ?_;exact (fun u h=>ptsL_one h);exact hr0;(unfold maxLen;omega);omega;exact hBlt;rfl;intro g cap w5 hown hgrow hat hltt;obtain ⟨⟨v5,q1⟩,q2⟩:=HKEY.out w5 hgrow)
  have hb5:=below_none hgrow
  have hB5:Hid (Below w.heap.size w w5):=HB.out.trans (hb5.mono HB.out.size)
  have hp5:=PtsIn.own (R:=fun k=>w.heap.size < k) (l:=r) (by simpa using hown) HMl.out.symm HPL.out (fun k h=>h)
  have h5:w5.heap[w.heap.size]?=some (.cells cs tPts):=one_below HCS.out.1 hb5
  have hks:Keep (fun k=>w.heap.size < k) w5 (w5.setCell ⟨w.heap.size,j,none⟩ (.slice (some ⟨g,0,none⟩) m cap)):=Keep.set (a:=⟨w.heap.size,j,none⟩) (fun h=>Nat.lt_irrefl _ h) _
  have hnx:=((HCS.out.2.2.keep (Keep.of_below hb5)).keep hks).next (by rw [HCS.out.2.1];exact hlt) (q:=some ⟨g,0,none⟩) (m:=m) (c:=cap) hlt2 HRr.out HMl.out (by have:=hp5.2;rw [HMl.out] at this;exact this) (by rw [map_id2];exact hp5.1.keep hks)
  have HR6:Hid (∃cs,(w5.setCell ⟨w.heap.size,j,none⟩ (.slice (some ⟨g,0,none⟩) m cap)).heap[w.heap.size]?=some (.cells cs tPts)∧cs.size=n∧RowAt (fun k=>w.heap.size < k) (w5.setCell ⟨w.heap.size,j,none⟩ (.slice (some ⟨g,0,none⟩) m cap)) cs tn0 l (j+1)):=⟨_,set_at _ h5,by rw [Array.size_setIfInBounds];exact HCS.out.2.1,hnx⟩
  have HB6:Hid (Below w.heap.size w (w5.setCell ⟨w.heap.size,j,none⟩ (.slice (some ⟨g,0,none⟩) m cap))):=hB5.out.setCell (p:=⟨w.heap.size,j,none⟩) (Nat.le_refl _) _
  clear hown hgrow hat hltt q1 q2 hb5 hp5 h5 hks hnx hB5
  go_round <;> first | exact ⟨j+1,_,rfl,by omega,by go_num,HB6.out,HR6.out⟩|(simp [intOf] <;> omega)
 ·have hje:j=n:=by omega
  subst hje
  obtain ⟨cs,hcs,hsz,hrow⟩:=HR.out
  rw [HN.out] at hrow
  have hc:=RowAt.cons (R:=fun k=>w.heap.size≤k) (B:=w.heap.size) (hrow.mono (fun k _ h=>Nat.le_of_lt h)) (Nat.le_refl _) hcs (by have:=HN.out;show _≤1000000000;omega)
  rw [map_id3] at hc
  have HC:=Lib.hid hc
  clear hc hcs hsz hrow
  go_wp2_with fail
  go_ret
  exact ⟨_,_,rfl,Nat.le_refl _,HC.out,HB.out⟩
end Go.Proofs.YtfldplmgkeiimaaGreatDoor.VW
