/-
  Several texts of this proof in one: Vj, Vk, Vl.
-/
import Derived.Test.YtfldplmgkeiimaaGreatDoorQ1
import Derived.Laws.BitsLemmas
import Derived.Deep.RegionHeld3
set_option linter.unusedVariables false
set_option linter.unusedSimpArgs false
namespace Go.Proofs.YtfldplmgkeiimaaGreatDoor.VW
open Go.RowKit Go.Proofs.YtfldplmgkeiimaaGreatDoor.Vp
abbrev tInt:TypeId:=3
def oneV (b:Bs) (s:Ps) (f:Nat) (left:Int):Option Int:=partsV (.cons true b s .nil) f left
theorem partsV_cons (a:Bool) (b:Bs) (s r:Ps) (f:Nat) (left:Int):partsV (.cons a b s r) f left=
 if left < 1∨bareV b s.len=false then none
 else if b.k=6 then (if 8≤f then none else match partsV s (f+1) (left - 1) with
  | none=>none
  | some m=>partsV r f m)
 else if simpleV b=true then partsV r f (left - 1) else none:=by rw [partsV] <;> rfl
theorem oneV_no {b:Bs} {s:Ps} {f:Nat} {left:Int} (h:left < 1∨bareV b s.len=false):oneV b s f left=none:=by
 unfold oneV
 rw [partsV_cons,if_pos h]
theorem oneV_simple {b:Bs} {s:Ps} {f:Nat} {left:Int} (h:¬left < 1) (hb:bareV b s.len=true) (hk:b.k≠6) {v:Bool} (hv:simpleV b=v):oneV b s f left=if v=true then some (left - 1) else none:=by
 unfold oneV
 rw [partsV_cons,if_neg (by rw [hb];simp [h]),if_neg hk,hv]
 rfl
theorem oneV_form {b:Bs} {s:Ps} {f:Nat} {left:Int} (h:¬left < 1) (hb:bareV b s.len=true) (hk:b.k=6):oneV b s f left=if 8≤f then none else partsV s (f+1) (left - 1):=by
 unfold oneV
 rw [partsV_cons,if_neg (by rw [hb];simp [h]),if_pos hk]
 by_cases h8:8≤f
 ·rw [if_pos h8,if_pos h8]
 ·rw [if_neg h8,if_neg h8]
  cases h:partsV s (f+1) (left - 1)<;> rfl
theorem parts_cons {a:Bool} {b:Bs} {s r:Ps} {f:Nat} {left:Int}:partsV (.cons a b s r) f left=(oneV b s f left).bind (fun m=>partsV r f m):=by
 unfold oneV
 rw [partsV_cons,partsV_cons]
 split
 ·rfl
 ·split
  ·split
   ·rfl
   ·cases partsV s (f+1) (left - 1)<;> rfl
  ·split <;> rfl
theorem sh_at {w:World} {k:Nat} {v0 v1 v2 v3 v4 v5 v6 v7 v8 v9:Value} {t:TypeId} (h:w.heap[k]?=some (.cells #[v0,v1,v2,v3,v4,v5,v6,v7,v8,v9] t)):
  w.cell? ⟨k,0,none⟩=some v0∧w.cell? ⟨k,1,none⟩=some v1∧w.cell? ⟨k,2,none⟩=some v2∧w.cell? ⟨k,3,none⟩=some v3∧w.cell? ⟨k,4,none⟩=some v4∧w.cell? ⟨k,5,none⟩=some v5∧w.cell? ⟨k,6,none⟩=some v6∧w.cell? ⟨k,7,none⟩=some v7∧w.cell? ⟨k,8,none⟩=some v8∧w.cell? ⟨k,9,none⟩=some v9:=by
 refine ⟨?_,?_,?_,?_,?_,?_,?_,?_,?_,?_⟩<;> simp [World.cell?,h]
theorem int_at {w:World} {k:Nat} {n:Int} (h:w.heap[k]?=some (.cells #[.int .i64 n] tInt)):w.cell? ⟨k,0,none⟩=some (.int .i64 n)∧w.frozen? ⟨k,0,none⟩=false:=by
 constructor
 ·simp [World.cell?,h]
 ·simp [World.frozen?,h]
theorem int_set {w:World} {k:Nat} {n:Int} (m:Int) (h:w.heap[k]?=some (.cells #[.int .i64 n] tInt)):(w.setCell ⟨k,0,none⟩ (.int .i64 m)).heap[k]?=some (.cells #[.int .i64 m] tInt):=by
 show (Array.modify _ _ _)[k]?=_
 rw [Array.getElem?_modify,if_pos rfl,h];rfl
theorem far_in {p:P2} (h:farV p=true):(-536870912≤p.1∧p.1≤536870912)∧-536870912≤p.2∧p.2≤536870912:=by
 simp only [farV,Bool.and_eq_true,decide_eq_true_eq] at h
 omega
theorem far_i {p:P2} (h:(-536870912≤p.1∧p.1≤536870912)∧-536870912≤p.2∧p.2≤536870912):inI p.1∧inI p.2:=by
 unfold inI
 omega
theorem far_f1 {p q:P2} (h:(-536870912≤p.1∧p.1≤536870912)∧-536870912≤p.2∧p.2≤536870912) (g:(-536870912≤q.1∧q.1≤536870912)∧-536870912≤q.2∧q.2≤536870912):fitsI (p.1 - q.1):=by
 unfold fitsI
 omega
theorem far_f2 {p q:P2} (h:(-536870912≤p.1∧p.1≤536870912)∧-536870912≤p.2∧p.2≤536870912) (g:(-536870912≤q.1∧q.1≤536870912)∧-536870912≤q.2∧q.2≤536870912):fitsI (p.2 - q.2):=by
 unfold fitsI
 omega
theorem partsV_nonneg:∀(p:Ps) {f:Nat} {n k:Int},0≤n→partsV p f n=some k→0≤k:=by
 intro p
 induction p with
 | nil=>intro f n k hn hk;simp only [partsV,Option.some.injEq] at hk;omega
 | cons a b s r ih1 ih2=>
  intro f n k hn hk
  rw [partsV_cons] at hk
  split at hk
  ·cases hk
  ·rename_i h0
   split at hk
   ·split at hk
    ·cases hk
    ·split at hk
     ·cases hk
     ·rename_i j hj
      exact ih2 (ih1 (by omega) hj) hk
   ·split at hk
    ·exact ih2 (by omega) hk
    ·cases hk
theorem PartsAt.drop {S:Nat→Prop} {w:World} {r:Ps}:∀{p:Ps} {xs:List Value},PartsAt S w (p.append r) xs→PartsAt S w r (xs.drop (p.len *11))
 | .nil,xs,h=>h
 | .cons a b s t,xs,h=>by
  have h2:=PartsAt.drop (p:=t) (r:=r) (xs:=xs.drop 11) h.2
  rw [List.drop_drop] at h2
  rwa [show (Ps.cons a b s t).len *11=11+t.len *11 by simp only [Ps.len];omega]
theorem PsIn.part {S:Nat→Prop} {w:World} {p:Option Addr} {pre:Ps} {a:Bool} {b:Bs} {s r:Ps} {n:Nat} (h:PsIn S w p (pre.append (.cons a b s r))) (hn:pre.len=n):
  ∃(k o:Nat) (pl:Option Addr) (cl:Nat) (pp:Option Addr) (cp:Nat),p=some ⟨k,o,none⟩∧k < w.heap.size∧S k∧ShIn S w pl cl pp cp ⟨b,s⟩∧
   w.cell? ⟨k,o+n *11,none⟩=some (.bool a)∧w.cell? ⟨k,o+n *11+1,none⟩=some (.int .i64 b.k)∧w.cell? ⟨k,o+n *11+2,none⟩=some (.int .i64 b.a.1)∧w.cell? ⟨k,o+n *11+3,none⟩=some (.int .i64 b.a.2)∧w.cell? ⟨k,o+n *11+4,none⟩=some (.int .i64 b.b.1)∧w.cell? ⟨k,o+n *11+5,none⟩=some (.int .i64 b.b.2)∧w.cell? ⟨k,o+n *11+6,none⟩=some (.int .i64 b.c.1)∧w.cell? ⟨k,o+n *11+7,none⟩=some (.int .i64 b.c.2)∧w.cell? ⟨k,o+n *11+8,none⟩=some (.int .i64 b.r)∧w.cell? ⟨k,o+n *11+9,none⟩=some (.slice pl b.l.length cl)∧w.cell? ⟨k,o+n *11+10,none⟩=some (.slice pp s.len cp):=by
 subst hn
 obtain ⟨k,o,cs,rfl,hS,hh,hp⟩:=h.2 (by rw [Ps.len_append];simp only [Ps.len];omega)
 have h2:=hp.drop
 rw [List.drop_drop] at h2
 obtain ⟨pl,cl,pp,cp,h3,hs⟩:=h2.head
 obtain ⟨c0,c1,c2,c3,c4,c5,c6,c7,c8,c9,c10⟩:=cells11 h3
 refine ⟨k,o,pl,cl,pp,cp,rfl,lt_of_heap hh,hS,hs,?_,?_,?_,?_,?_,?_,?_,?_,?_,?_,?_⟩<;> simp only [World.cell?, *] <;> rfl
def ValOut (q:Nat) (w:World) (o:Option Int) (e:Ending) (w':World):Prop:=e= .returned (.bool o.isSome)∧Keep (fun k=>k≠q) w w'∧∀m,o=some m→w'.heap[q]?=some (.cells #[.int .i64 m] tInt)
theorem ValOut.no {q:Nat} {w w':World} {o:Option Int} (h:o=none) (hk:Keep (fun k=>k≠q) w w'):ValOut q w o (.returned (.bool false)) w':=by
 subst h
 exact ⟨rfl,hk,fun m hm=>by cases hm⟩
theorem ValOut.yes {q:Nat} {w w':World} {o:Option Int} {m:Int} (h:o=some m) (hk:Keep (fun k=>k≠q) w w') (hq:w'.heap[q]?=some (.cells #[.int .i64 m] tInt)):ValOut q w o (.returned (.bool true)) w':=by
 subst h
 exact ⟨rfl,hk,fun n hn=>by cases hn;exact hq⟩
theorem ValOut.is {q:Nat} {w w':World} {o:Option Int} {m:Int} {v:Bool} (h:o=if v=true then some m else none) (hk:Keep (fun k=>k≠q) w w') (hq:w'.heap[q]?=some (.cells #[.int .i64 m] tInt)):ValOut q w o (.returned (.bool v)) w':=by
 cases v
 ·exact .no h hk
 ·exact .yes h hk hq
set_option maxRecDepth 100000 in
set_option maxHeartbeats 12800000 in
theorem valid_c (N:Nat):∀(s:Ps),s.count < N→∀(b:Bs) (f:Nat) (left:Int) (S:Nat→Prop) (pl:Option Addr) (cl:Nat) (pp:Option Addr) (cp:Nat) (w:World) (q:Nat) (o:Option Int),
  Hid (∀k,S k→k≠q)→f≤8→-1000000≤left→left≤1000000→Hid (w.heap[q]?=some (.cells #[.int .i64 left] tInt))→Hid (ShIn S w pl cl pp cp ⟨b,s⟩)→Hid (oneV b s f left=o)→
  Calls Tryz.prog 212 #[shV b (.slice pl b.l.length cl) (.slice pp s.len cp), .int .i64 f, .pointer (some ⟨q,0,none⟩)] w (ValOut q w o):=by
 induction N with
 | zero=>intro s hs;exact absurd hs (Nat.not_lt_zero _)
 | succ N ih=>
 intro s hs b f left S pl cl pp cp w q o hSq hf hl0 hl1 hq hsh ho
 obtain ⟨k,⟨ax,ay⟩,⟨bx,bz⟩,⟨cx,cy⟩,r,l⟩:=b
 have IH:=Lib.hid ih
 have HS:=Lib.hid hs
 clear ih hs
 obtain ⟨q0,q1⟩:=int_at hq.out
 have hlt:=lt_of_heap hq.out
 have HLT:=Lib.hid hlt
 show Calls _ _ #[.agg #[.int .i64 k, .int .i64 ax, .int .i64 ay, .int .i64 bx, .int .i64 bz, .int .i64 cx, .int .i64 cy, .int .i64 r, .slice pl l.length cl, .slice pp s.len cp], .int .i64 f, .pointer (some ⟨q,0,none⟩)] w _
 by_cases hle:left < 1
 ·have HN:Hid (o=none):=by show _=_;rw [←ho.out];exact oneV_no (.inl hle)
  clear ho
  go_enter Tryz.func212,Tryz.ntmps212
  go_wp2_with fail
  go_ret
  exact .no HN.out (.alloc _ _ _)
 ·have hle2:1≤left:=by omega
  have HLE:=Lib.hid hle2
  have hw:IntKind.i64.wrap (left - 1)=left - 1:=IntWalk.i64_in _ (by omega)
  go_enter Tryz.func212,Tryz.ntmps212
  go_upto_region 4 with fail
  obtain ⟨W,hW⟩:∃W,(w.setCell ⟨q,0,none⟩ (.int .i64 (left - 1))).alloc (.cells #[.int .i64 k, .int .i64 ax, .int .i64 ay, .int .i64 bx, .int .i64 bz, .int .i64 cx, .int .i64 cy, .int .i64 r, .slice pl l.length cl, .slice pp s.len cp] tSh)=W:=⟨_,rfl⟩
  have HG:Hid (W.heap[w.heap.size]?=some (.cells #[.int .i64 k, .int .i64 ax, .int .i64 ay, .int .i64 bx, .int .i64 bz, .int .i64 cx, .int .i64 cy, .int .i64 r, .slice pl l.length cl, .slice pp s.len cp] tSh)):=by
   show _=_
   rw [←hW]
   have h:=alloc_new (w.setCell ⟨q,0,none⟩ (.int .i64 (left - 1))) (.cells #[.int .i64 k, .int .i64 ax, .int .i64 ay, .int .i64 bx, .int .i64 bz, .int .i64 cx, .int .i64 cy, .int .i64 r, .slice pl l.length cl, .slice pp s.len cp] tSh)
   rwa [show (w.setCell ⟨q,0,none⟩ (.int .i64 (left - 1))).heap.size=w.heap.size by simp] at h
  have HQ:Hid (W.heap[q]?=some (.cells #[.int .i64 (left - 1)] tInt)):=by
   show _=_
   rw [←hW]
   exact one_below (int_set _ hq.out) (bel_alloc _ _)
  have HK:Hid (Keep (fun k=>k≠q) w W):=by
   show Keep _ _ _
   rw [←hW]
   exact (Keep.set (fun h=>h rfl) _).trans (.alloc _ _ _)
  rw [hW]
  clear hW q0 q1 hlt
  obtain ⟨g0,g1,g2,g3,g4,g5,g6,g7,g8,g9⟩:=sh_at HG.out
  go_wp2_with fail
  with_reducible refine (bare_c k ax ay bx bz cx cy r pl pp l.length s.len cl cp W).mono ?_
  rintro e w1 ⟨rfl,hb1⟩
  have HG1:=Lib.hid (one_below HG.out hb1)
  have HQ1:=Lib.hid (one_below HQ.out hb1)
  have HK1:=Lib.hid (HK.out.trans (.of_below hb1))
  obtain ⟨bb,hbb⟩:∃x,bareN k (ax,ay) (bx,bz) (cx,cy) r l.length s.len=x:=⟨_,rfl⟩
  rw [hbb]
  have HBB:Hid (bareV ⟨k,(ax,ay),(bx,bz),(cx,cy),r,l⟩ s.len=bb):=hbb
  clear g0 g1 g2 g3 g4 g5 g6 g7 g8 g9 HG HQ HK hb1 hbb
  obtain ⟨g0,g1,g2,g3,g4,g5,g6,g7,g8,g9⟩:=sh_at HG1.out
  have hgl:=lt_of_heap HG1.out
  cases bb with
  | false=>
   have HN:Hid (o=none):=by show _=_;rw [←ho.out];exact oneV_no (.inr HBB.out)
   clear ho
   go_wp2_with fail
   go_ret
   exact .no HN.out HK1.out
  | true=>
   by_cases hk1:k=1
   ·subst hk1
    have HO:Hid (o=if simpleV (⟨1,(ax,ay),(bx,bz),(cx,cy),r,l⟩:Bs)=true then some (left - 1) else none):=by show _=_;rw [←ho.out];exact oneV_simple (Int.not_lt.2 HLE.out) HBB.out (show (1:Int)≠6 by decide) rfl
    clear ho
    go_wp2_with fail
    refine (near_c (ax,ay) _).mono ?_
    rintro e w2 ⟨rfl,rfl⟩
    obtain ⟨f0,hf0⟩:∃x,farV (ax,ay)=x:=⟨_,rfl⟩
    rw [hf0]
    have HF0:=Lib.hid hf0
    clear hf0
    cases f0 with
    | false=>
     have HN:Hid (o=none):=by show _=_;rw [HO.out];simp [simpleV,HF0.out]
     clear HO
     go_wp2_with fail
     go_ret
     exact .no HN.out (HK1.out.trans (.alloc _ _ _))
    | true=>
     go_wp2_with fail
     refine (width_c r _).mono ?_
     rintro e w3 ⟨rfl,rfl⟩
     obtain ⟨f1,hf1⟩:∃x,radV r=x:=⟨_,rfl⟩
     rw [hf1]
     have HF1:=Lib.hid hf1
     clear hf1
     have HN:Hid (o=if f1=true then some (left - 1) else none):=by show _=_;rw [HO.out];simp [simpleV,HF0.out,HF1.out]
     clear HO
     go_wp2_with fail
     go_ret
     exact .is HN.out (HK1.out.trans (.alloc _ _ _)) (one_below HQ1.out (bel_alloc _ _))
   by_cases hk2:k=2
   ·subst hk2
    have HO:Hid (o=if simpleV (⟨2,(ax,ay),(bx,bz),(cx,cy),r,l⟩:Bs)=true then some (left - 1) else none):=by show _=_;rw [←ho.out];exact oneV_simple (Int.not_lt.2 HLE.out) HBB.out (show (2:Int)≠6 by decide) rfl
    clear ho
    have HL:Hid (ConsIn S w1 pl l):=hsh.out.l.keep (HK1.out.mono fun k _ h=>hSq.out k h)
    go_wp2_with fail
    refine (contours_c S pl l l.length cl rfl w1 HL (contV l) (Lib.hid rfl)).mono ?_
    rintro e w2 ⟨rfl,hb2⟩
    have HK2:=Lib.hid (HK1.out.trans (.of_below hb2))
    have HQ2:=Lib.hid (one_below HQ1.out hb2)
    clear hb2
    go_wp2_with fail
    go_ret
    exact .is HO.out HK2.out HQ2.out
   by_cases hk3:k=3
   ·subst hk3
    have HO:Hid (o=if simpleV (⟨3,(ax,ay),(bx,bz),(cx,cy),r,l⟩:Bs)=true then some (left - 1) else none):=by show _=_;rw [←ho.out];exact oneV_simple (Int.not_lt.2 HLE.out) HBB.out (show (3:Int)≠6 by decide) rfl
    clear ho
    go_wp2_with fail
    refine (near_c (ax,ay) _).mono ?_
    rintro e w2 ⟨rfl,rfl⟩
    obtain ⟨f0,hf0⟩:∃x,farV (ax,ay)=x:=⟨_,rfl⟩
    rw [hf0]
    have HF0:=Lib.hid hf0
    clear hf0
    cases f0 with
    | false=>
     have HN:Hid (o=none):=by show _=_;rw [HO.out];simp [simpleV,HF0.out]
     clear HO
     go_wp2_with fail
     go_ret
     exact .no HN.out (HK1.out.trans (.alloc _ _ _))
    | true=>
     go_wp2_with fail
     refine (near_c (bx,bz) _).mono ?_
     rintro e w3 ⟨rfl,rfl⟩
     obtain ⟨f1,hf1⟩:∃x,farV (bx,bz)=x:=⟨_,rfl⟩
     rw [hf1]
     have HF1:=Lib.hid hf1
     clear hf1
     cases f1 with
     | false=>
      have HN:Hid (o=none):=by show _=_;rw [HO.out];simp [simpleV,HF0.out,HF1.out]
      clear HO
      go_wp2_with fail
      go_ret
      exact .no HN.out ((HK1.out.trans (.alloc _ _ _)).trans (.alloc _ _ _))
     | true=>
      go_wp2_with fail
      refine (width_c r _).mono ?_
      rintro e w4 ⟨rfl,rfl⟩
      obtain ⟨f2,hf2⟩:∃x,radV r=x:=⟨_,rfl⟩
      rw [hf2]
      have HF2:=Lib.hid hf2
      clear hf2
      have HN:Hid (o=if f2=true then some (left - 1) else none):=by show _=_;rw [HO.out];simp [simpleV,HF0.out,HF1.out,HF2.out]
      clear HO
      go_wp2_with fail
      go_ret
      exact .is HN.out ((HK1.out.trans (.alloc _ _ _)).trans (.alloc _ _ _)) (one_below (one_below HQ1.out (bel_alloc _ _)) (bel_alloc _ _))
   by_cases hk4:k=4
   ·subst hk4
    have HO:Hid (o=if simpleV (⟨4,(ax,ay),(bx,bz),(cx,cy),r,l⟩:Bs)=true then some (left - 1) else none):=by show _=_;rw [←ho.out];exact oneV_simple (Int.not_lt.2 HLE.out) HBB.out (show (4:Int)≠6 by decide) rfl
    clear ho
    go_wp2_with fail
    refine (near_c (ax,ay) _).mono ?_
    rintro e w2 ⟨rfl,rfl⟩
    obtain ⟨f0,hf0⟩:∃x,farV (ax,ay)=x:=⟨_,rfl⟩
    rw [hf0]
    have HF0:=Lib.hid hf0
    clear hf0
    cases f0 with
    | false=>
     have HN:Hid (o=none):=by show _=_;rw [HO.out];simp [simpleV,HF0.out]
     clear HO
     go_wp2_with fail
     go_ret
     exact .no HN.out (HK1.out.trans (.alloc _ _ _))
    | true=>
     go_wp2_with fail
     refine (near_c (bx,bz) _).mono ?_
     rintro e w3 ⟨rfl,rfl⟩
     obtain ⟨f1,hf1⟩:∃x,farV (bx,bz)=x:=⟨_,rfl⟩
     rw [hf1]
     have HF1:=Lib.hid hf1
     clear hf1
     cases f1 with
     | false=>
      have HN:Hid (o=none):=by show _=_;rw [HO.out];simp [simpleV,HF0.out,HF1.out]
      clear HO
      go_wp2_with fail
      go_ret
      exact .no HN.out ((HK1.out.trans (.alloc _ _ _)).trans (.alloc _ _ _))
     | true=>
      go_wp2_with fail
      refine (width_c r _).mono ?_
      rintro e w4 ⟨rfl,rfl⟩
      obtain ⟨f2,hf2⟩:∃x,radV r=x:=⟨_,rfl⟩
      rw [hf2]
      have HF2:=Lib.hid hf2
      clear hf2
      cases f2 with
      | false=>
       have HN:Hid (o=none):=by show _=_;rw [HO.out];simp [simpleV,HF0.out,HF1.out,HF2.out]
       clear HO
       go_wp2_with fail
       go_ret
       exact .no HN.out ((HK1.out.trans (.alloc _ _ _)).trans (.alloc _ _ _))
      | true=>
       obtain ⟨f3,hf3⟩:∃x:Bool,decide ((ax,ay)≠(bx,bz))=x:=⟨_,rfl⟩
       have HF3:=Lib.hid hf3
       clear hf3
       have HN:Hid (o=if f3=true then some (left - 1) else none):=by show _=_;rw [HO.out,←HF3.out];simp [simpleV,HF0.out,HF1.out,HF2.out]
       clear HO
       go_wp2_with fail
       all_goals
        go_ret
        refine .is (by rw [HN.out,←HF3.out];grind) ((HK1.out.trans (.alloc _ _ _)).trans (.alloc _ _ _)) (one_below (one_below HQ1.out (bel_alloc _ _)) (bel_alloc _ _))
   by_cases hk5:k=5
   ·subst hk5
    have HO:Hid (o=if simpleV (⟨5,(ax,ay),(bx,bz),(cx,cy),r,l⟩:Bs)=true then some (left - 1) else none):=by show _=_;rw [←ho.out];exact oneV_simple (Int.not_lt.2 HLE.out) HBB.out (show (5:Int)≠6 by decide) rfl
    clear ho
    go_wp2_with fail
    refine (near_c (ax,ay) _).mono ?_
    rintro e w2 ⟨rfl,rfl⟩
    obtain ⟨f0,hf0⟩:∃x,farV (ax,ay)=x:=⟨_,rfl⟩
    rw [hf0]
    have HF0:=Lib.hid hf0
    clear hf0
    cases f0 with
    | false=>
     have HN:Hid (o=none):=by show _=_;rw [HO.out];simp [simpleV,HF0.out]
     clear HO
     go_wp2_with fail
     go_ret
     exact .no HN.out (HK1.out.trans (.alloc _ _ _))
    | true=>
     go_wp2_with fail
     refine (near_c (bx,bz) _).mono ?_
     rintro e w3 ⟨rfl,rfl⟩
     obtain ⟨f1,hf1⟩:∃x,farV (bx,bz)=x:=⟨_,rfl⟩
     rw [hf1]
     have HF1:=Lib.hid hf1
     clear hf1
     cases f1 with
     | false=>
      have HN:Hid (o=none):=by show _=_;rw [HO.out];simp [simpleV,HF0.out,HF1.out]
      clear HO
      go_wp2_with fail
      go_ret
      exact .no HN.out ((HK1.out.trans (.alloc _ _ _)).trans (.alloc _ _ _))
     | true=>
      go_wp2_with fail
      refine (near_c (cx,cy) _).mono ?_
      rintro e w4 ⟨rfl,rfl⟩
      obtain ⟨f2,hf2⟩:∃x,farV (cx,cy)=x:=⟨_,rfl⟩
      rw [hf2]
      have HK4:Hid (Keep (fun k=>k≠q) w (((w1.alloc (ptO (ax,ay))).alloc (ptO (bx,bz))).alloc (ptO (cx,cy)))):=(((HK1.out.trans (.alloc _ _ _)).trans (.alloc _ _ _)).trans (.alloc _ _ _))
      have HQ4:Hid ((((w1.alloc (ptO (ax,ay))).alloc (ptO (bx,bz))).alloc (ptO (cx,cy))).heap[q]?=some (.cells #[.int .i64 (left - 1)] tInt)):=(one_below (one_below (one_below HQ1.out (bel_alloc _ _)) (bel_alloc _ _)) (bel_alloc _ _))
      have HG4:Hid ((((w1.alloc (ptO (ax,ay))).alloc (ptO (bx,bz))).alloc (ptO (cx,cy))).heap[w.heap.size]?=some (.cells #[.int .i64 5, .int .i64 ax, .int .i64 ay, .int .i64 bx, .int .i64 bz, .int .i64 cx, .int .i64 cy, .int .i64 r, .slice pl l.length cl, .slice pp s.len cp] tSh)):=one_below (one_below (one_below HG1.out (bel_alloc _ _)) (bel_alloc _ _)) (bel_alloc _ _)
      clear g0 g1 g2 g3 g4 g5 g6 g7 g8 g9 hgl HG1 HQ1 HK1
      generalize ((w1.alloc (ptO (ax,ay))).alloc (ptO (bx,bz))).alloc (ptO (cx,cy))=w9 at HK4 HQ4 HG4⊢
      obtain ⟨g0,g1,g2,g3,g4,g5,g6,g7,g8,g9⟩:=sh_at HG4.out
      have hgl:=lt_of_heap HG4.out
      have HF2:=Lib.hid hf2
      clear hf2
      cases f2 with
      | false=>
       have HN:Hid (o=none):=by show _=_;rw [HO.out];simp [simpleV,HF0.out,HF1.out,HF2.out]
       clear HO
       go_wp2_with fail
       go_ret
       exact .no HN.out HK4.out
      | true=>
       go_wp2_with fail
       refine (width_c r _).mono ?_
       rintro e w5 ⟨rfl,rfl⟩
       obtain ⟨f3,hf3⟩:∃x,radV r=x:=⟨_,rfl⟩
       rw [hf3]
       have HF3:=Lib.hid hf3
       clear hf3
       cases f3 with
       | false=>
        have HN:Hid (o=none):=by show _=_;rw [HO.out];simp [simpleV,HF0.out,HF1.out,HF2.out,HF3.out]
        clear HO
        go_wp2_with fail
        go_ret
        exact .no HN.out HK4.out
       | true=>
        go_wp2_with fail
        obtain ⟨f4,hf4⟩:∃x,ringOk (cx,cy) (ax,ay) (bx,bz)=x:=⟨_,rfl⟩
        have hn0:=far_in HF0.out
        have hn1:=far_in HF1.out
        have hn2:=far_in HF2.out
        refine (ringOk_c (cx,cy) (ax,ay) (bx,bz) (far_i hn2) (far_i hn0) (far_i hn1) (far_f1 hn0 hn2) (far_f2 hn0 hn2) (far_f1 hn1 hn2) (far_f2 hn1 hn2) f4 (Lib.hid hf4) _).mono ?_
        rintro e w6 ⟨rfl,hb6⟩
        have HK2:=Lib.hid (HK4.out.trans (.of_below hb6))
        have HQ2:=Lib.hid (one_below HQ4.out hb6)
        clear hb6 hn0 hn1 hn2
        have HF4:=Lib.hid hf4
        clear hf4
        have HN:Hid (o=if f4=true then some (left - 1) else none):=by show _=_;rw [HO.out];simp [simpleV,HF0.out,HF1.out,HF2.out,HF3.out,HF4.out]
        clear HO
        go_wp2_with fail
        go_ret
        exact .is HN.out HK2.out HQ2.out
   by_cases hk6:k=6
   ·subst hk6
    have HO:Hid ((if 8≤f then none else partsV s (f+1) (left - 1))=o):=by show _=_;rw [←ho.out];exact (oneV_form (Int.not_lt.2 HLE.out) HBB.out rfl).symm
    clear ho
    by_cases h8:8≤f
    ·have HN:Hid (o=none):=by show _=_;rw [←HO.out,if_pos h8]
     have h8i:(8:Int)≤(f:Int):=by omega
     clear HO
     go_wp2_with fail
     go_ret
     exact .no HN.out HK1.out
    ·have HO2:Hid (partsV s (f+1) (left - 1)=o):=by show _=_;rw [←HO.out,if_neg h8]
     have h8i:(f:Int)< 8:=by omega
     have hf1:IntKind.i64.wrap ((f:Int)+1)=((f+1:Nat):Int):=by rw [IntWalk.i64_in _ (by omega)];omega
     have HF1:=Lib.hid hf1
     have HSL:=Lib.hid (show s.len≤1000000000 from hsh.out.p.1)
     have hsl:=HSL.out
     obtain ⟨n,hn⟩:∃n,s.len=n:=⟨_,rfl⟩
     have HNL:=Lib.hid hn
     rw [hn] at hsl g9⊢
     clear HO hn hf1
     go_wp2_with fail
     go_loopw [111] (fun i wr=>∃(pre rr:Ps) (m:Int) (j:Nat) (wy:World),wy=wr∧Hid (s=pre.append rr)∧Hid (pre.len=j)∧i= .int .i64 j∧Hid (partsV rr (f+1) m=o)∧0≤m∧m≤1000000∧Hid (wy.heap[q]?=some (.cells #[.int .i64 m] tInt))∧Hid (Keep (fun k=>k≠q) w wy)) (fun i _=>n -(intOf i).toNat)
     case atStart=>exact ⟨.nil,s,left - 1,0,_,rfl,rfl,rfl,rfl,HO2.out,by omega,by omega,HQ1.out,HK1.out⟩
     case round=>
     obtain ⟨pre,rr,m,j,wy,rfl,HPR,HJ,rfl,HV,hm0,hm1,HQY,HKY⟩:=hrel
     cases rr with
     | nil=>
      have hjn:j=n:=by rw [←HNL.out,←HJ.out,HPR.out,Ps.append_nil]
      have HN:Hid (o=some m):=HV.out.symm
      subst hjn
      go_wp2_with fail
      go_ret
      exact .yes HN.out HKY.out HQY.out
     | cons a b' sub r'=>
      have hjl:j < n:=by rw [←HNL.out,←HJ.out,HPR.out,Ps.len_append];simp only [Ps.len];omega
      have hjli:(j:Int)<(n:Int):=by omega
      have hps:PsIn S wy pp (pre.append (.cons a b' sub r')):=by rw [←HPR.out];exact hsh.out.p.keep (HKY.out.mono fun k _ h=>hSq.out k h)
      obtain ⟨kb,ko,ql,dl,qp,dp,rfl,hkb,_,hsub,c0,c1,c2,c3,c4,c5,c6,c7,c8,c9,c10⟩:=hps.part HJ.out
      have HSUB:=Lib.hid hsub
      have hf1:=HF1.out
      clear hps hsub
      go_wp2_with fail
      obtain ⟨o1,ho1⟩:∃o1,oneV b' sub (f+1) m=o1:=⟨_,rfl⟩
      have HO1:=Lib.hid ho1
      have HV2:Hid (o1.bind (fun m'=>partsV r' (f+1) m')=o):=by show _=_;rw [←HV.out,parts_cons,ho1]
      have hcnt:sub.count < N:=by
       have h1:=HS.out
       rw [HPR.out,Ps.count_append] at h1
       simp only [Ps.count] at h1
       omega
      have HPR2:Hid (s=(pre.append (.cons a b' sub .nil)).append r'):=by show _=_;rw [HPR.out,Ps.append_assoc];rfl
      have HJ2:Hid ((pre.append (.cons a b' sub .nil)).len=j+1):=by show _=_;rw [Ps.len_append,HJ.out];rfl
      refine (IH.out sub hcnt b' (f+1) m S ql dl qp dp _ q o1 hSq (by omega) (by omega) hm1 (one_below HQY.out (bel_alloc _ _)) (HSUB.out.below (bel_alloc _ _)) HO1).mono ?_
      rintro e w3 ⟨rfl,hk3,hq3⟩
      have HK3:=Lib.hid ((HKY.out.trans (.alloc _ _ _)).trans hk3)
      have HQ3:=Lib.hid hq3
      clear hk3 hq3
      cases o1 with
      | none=>
       have HN:Hid (o=none):=HV2.out.symm
       clear HV2 ho1
       go_wp2_with fail
       go_ret
       exact .no HN.out HK3.out
      | some m'=>
       have HV3:Hid (partsV r' (f+1) m'=o):=HV2.out
       have hm':0≤m':=partsV_nonneg _ hm0 (show partsV (.cons true b' sub .nil) (f+1) m=some m' from ho1)
       have hm'':m'≤m:=(partsV_mono (show partsV (.cons true b' sub .nil) (f+1) m=some m' from ho1)).1
       clear HV2 ho1
       go_wp2_with fail
       go_round <;> first | exact ⟨_,r',m',j+1,_,rfl,HPR2.out,HJ2.out,by go_num,HV3.out,hm',by omega,HQ3.out _ rfl,HK3.out⟩|(simp [intOf] <;> omega)
   ·have HN:Hid (o=none):=by
     show _=_
     rw [←ho.out,oneV_simple (Int.not_lt.2 HLE.out) HBB.out (show k≠6 from hk6) (v:=false) (by simp [simpleV,hk1,hk2,hk3,hk4,hk5])]
     rfl
    clear ho
    go_wp2_with fail
    go_ret
    exact .no HN.out HK1.out
theorem ok_c (S:Nat→Prop) (b:Bs) (s:Ps) (pl:Option Addr) (cl:Nat) (pp:Option Addr) (cp:Nat) (w:World) (hsh:Hid (ShIn S w pl cl pp cp ⟨b,s⟩)) (v:Bool) (hv:Hid (okV ⟨b,s⟩=v)):
  Calls Tryz.prog 169 #[shV b (.slice pl b.l.length cl) (.slice pp s.len cp)] w fun e w'=>e= .returned (.bool v)∧Below w.heap.size w w':=by
 obtain ⟨k,⟨ax,ay⟩,⟨bx,bz⟩,⟨cx,cy⟩,r,l⟩:=b
 show Calls _ _ #[.agg #[.int .i64 k, .int .i64 ax, .int .i64 ay, .int .i64 bx, .int .i64 bz, .int .i64 cx, .int .i64 cy, .int .i64 r, .slice pl l.length cl, .slice pp s.len cp]] w _
 go_enter Tryz.func169,Tryz.ntmps169
 go_wp2_with fail
 obtain ⟨W,hW⟩:∃W,(w.alloc (.cells #[.int .i64 k, .int .i64 ax, .int .i64 ay, .int .i64 bx, .int .i64 bz, .int .i64 cx, .int .i64 cy, .int .i64 r, .slice pl l.length cl, .slice pp s.len cp] tSh)).alloc (.cells #[.int .i64 1000] tInt)=W:=⟨_,rfl⟩
 have HQ:Hid (W.heap[w.heap.size+1]?=some (.cells #[.int .i64 1000] tInt)):=by
  show _=_
  rw [←hW]
  have h:=alloc_new (w.alloc (.cells #[.int .i64 k, .int .i64 ax, .int .i64 ay, .int .i64 bx, .int .i64 bz, .int .i64 cx, .int .i64 cy, .int .i64 r, .slice pl l.length cl, .slice pp s.len cp] tSh)) (.cells #[.int .i64 1000] tInt)
  rwa [alloc_size] at h
 have HB:Hid (Below w.heap.size w W):=by
  show Below _ _ _
  rw [←hW]
  exact (bel_alloc _ _).trans ((bel_alloc _ _).mono (by rw [alloc_size];omega))
 rw [hW]
 have HL:Hid (w.heap.size+1 < W.heap.size):=lt_of_heap HQ.out
 clear hW
 refine (valid_c (s.count+1) s (Nat.lt_succ_self _) ⟨k,(ax,ay),(bx,bz),(cx,cy),r,l⟩ 0 1000 (fun k=>S k∧k < w.heap.size) pl cl pp cp W (w.heap.size+1) _ (Lib.hid fun k h=>by have:=h.2;omega) (by decide) (by decide) (by decide) HQ (hsh.out.lt.below HB.out) (Lib.hid rfl)).mono ?_
 rintro e w' ⟨rfl,hk,_⟩
 have HK:Hid (Below w.heap.size w w'):=HB.out.trans (hk.below _ HB.out.size fun k h=>by omega)
 clear hk
 have hv2:(oneV ⟨k,(ax,ay),(bx,bz),(cx,cy),r,l⟩ s 0 1000).isSome=v:=hv.out
 rw [hv2]
 go_wp2_with fail
 go_ret
 exact ⟨rfl,HK.out⟩
end Go.Proofs.YtfldplmgkeiimaaGreatDoor.VW
namespace Go.Proofs.YtfldplmgkeiimaaGreatDoor.VW
open Go.RowKit Go.Proofs.YtfldplmgkeiimaaGreatDoor.Vp
abbrev tTn:TypeId:=164
theorem set_at {w:World} {k i:Nat} {cs:Array Value} {t:TypeId} {fz:Nat × Nat} (u:Value) (h:w.heap[k]?=some (.cells cs t fz)):(w.setCell ⟨k,i,none⟩ u).heap[k]?=some (.cells (cs.setIfInBounds i u) t fz):=by
 show (Array.modify _ _ _)[k]?=_
 rw [Array.getElem?_modify,if_pos rfl,h];rfl
end Go.Proofs.YtfldplmgkeiimaaGreatDoor.VW
namespace Go.Proofs.YtfldplmgkeiimaaGreatDoor.VW
open Go.RowKit Go.Proofs.YtfldplmgkeiimaaGreatDoor.Vp
structure ApM (w0:World) (g:Nat) (sh tn out:Array Value) (x:World):Prop where
 sh:x.heap[g]?=some (.cells sh tSh)
 tn:x.heap[g+1]?=some (.cells tn tTn)
 res:x.heap[g+1+1]?=some (.cells #[.int .i64 0, .int .i64 0, .int .i64 0, .int .i64 0, .int .i64 0, .int .i64 0, .int .i64 0, .int .i64 0, .slice none 0 0, .slice none 0 0] tSh)
 out:x.heap[g+1+1+1]?=some (.cells out tSh)
 bel:Below g w0 x
theorem ApM.below {w0:World} {g:Nat} {sh tn out:Array Value} {x y:World} (h:ApM w0 g sh tn out x) (hb:Below x.heap.size x y):ApM w0 g sh tn out y:=
 ⟨one_below h.sh hb,one_below h.tn hb,one_below h.res hb,one_below h.out hb,h.bel.trans (hb.mono (by have:=lt_of_heap h.sh;omega))⟩
theorem heap_far {w:World} {k i j:Nat} {u:Value} (h:k≠j):(w.setCell ⟨j,i,none⟩ u).heap[k]?=w.heap[k]?:=Below.heap_setCell _ _ _ _ h
theorem ApM.set {w0:World} {g:Nat} {sh tn out:Array Value} {x:World} (h:ApM w0 g sh tn out x) (i:Nat) (u:Value):ApM w0 g sh tn (out.setIfInBounds i u) (x.setCell ⟨g+1+1+1,i,none⟩ u):=
 ⟨(heap_far (by omega)).trans h.sh,(heap_far (by omega)).trans h.tn,(heap_far (by omega)).trans h.res,set_at u h.out,h.bel.setCell (p:=⟨g+1+1+1,i,none⟩) (by show g≤g+1+1+1;omega) _⟩
theorem four_at {w W:World} {o1 o2 o3 o4:Obj} (h:(((w.alloc o1).alloc o2).alloc o3).alloc o4=W):W.heap[w.heap.size]?=some o1∧W.heap[w.heap.size+1]?=some o2∧W.heap[w.heap.size+1+1]?=some o3∧W.heap[w.heap.size+1+1+1]?=some o4∧Below w.heap.size w W:=by
 subst h
 obtain ⟨h1,h2,h3,hb,hs⟩:=three_at (rfl:((w.alloc o1).alloc o2).alloc o3=_)
 have h4:=alloc_new (((w.alloc o1).alloc o2).alloc o3) o4
 have b:=bel_alloc (((w.alloc o1).alloc o2).alloc o3) o4
 rw [hs] at h4
 exact ⟨one_below h1 b,one_below h2 b,one_below h3 b,h4,hb.trans (b.mono hb.size)⟩
theorem cells_f {w:World} {k:Nat} {cs:Array Value} {t:TypeId} (h:w.heap[k]?=some (.cells cs t)) (i:Nat):w.frozen? ⟨k,i,none⟩=false:=by
 simp [World.frozen?,h]
theorem oneV_some {b:Bs} {s:Ps} {f:Nat} {left m:Int} (h:oneV b s f left=some m):¬left < 1∧bareV b s.len=true∧(b.k≠6→simpleV b=true∧m=left - 1)∧(b.k=6→¬8≤f∧partsV s (f+1) (left - 1)=some m):=by
 by_cases h0:left < 1∨bareV b s.len=false
 ·rw [oneV_no h0] at h;cases h
 ·have h1:¬left < 1:=fun h=>h0 (.inl h)
  have h2:bareV b s.len=true:=by
   cases h3:bareV b s.len
   ·exact absurd (.inr h3) h0
   ·rfl
  refine ⟨h1,h2,fun hk=>?_,fun hk=>?_⟩
  ·rw [oneV_simple h1 h2 hk rfl] at h
   split at h
   ·rename_i hs
    injection h with h
    exact ⟨hs,h.symm⟩
   ·cases h
  ·rw [oneV_form h1 h2 hk] at h
   split at h
   ·cases h
   ·rename_i h8
    exact ⟨h8,h⟩
def valAt (x:World) (g i:Nat):Value:=(x.cell? ⟨g,i,none⟩).getD undef
theorem valAt_eq {x:World} {g i:Nat} {v:Value} (h:x.cell? ⟨g,i,none⟩=some v):x.cell? ⟨g,i,none⟩=some (valAt x g i):=by
 unfold valAt
 rw [h]
 rfl
def ApOut (w:World) (t:Tn) (b:Bs) (s:Ps) (e:Ending) (w':World):Prop:=∃(ql:Option Addr) (dl:Nat) (qp:Option Addr) (dp:Nat),e= .returned (shV (turnS t ⟨b,s⟩).b (.slice ql (turnS t ⟨b,s⟩).b.l.length dl) (.slice qp (turnS t ⟨b,s⟩).p.len dp))∧ShIn (fun k=>w.heap.size≤k) w' ql dl qp dp (turnS t ⟨b,s⟩)∧Below w.heap.size w w'
theorem ApOut.mk {w:World} {t:Tn} {b b':Bs} {s p':Ps} {w':World} (ht:turnS t ⟨b,s⟩=⟨b',p'⟩) {v:Value} (ql:Option Addr) (dl:Nat) (qp:Option Addr) (dp:Nat) (hv:v=shV b' (.slice ql b'.l.length dl) (.slice qp p'.len dp)) (hs:ShIn (fun k=>w.heap.size≤k) w' ql dl qp dp ⟨b',p'⟩) (hb:Below w.heap.size w w'):ApOut w t b s (.returned v) w':=by
 refine ⟨ql,dl,qp,dp,?_,?_,hb⟩
 ·rw [ht,hv]
 ·rw [ht];exact hs
end Go.Proofs.YtfldplmgkeiimaaGreatDoor.VW
