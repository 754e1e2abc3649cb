/-
  Several texts of this proof in one: Ic, Zk, Zl.
-/
import Derived.Test.YtfldplmgkeiimaaGreatDoorQ31
import Derived.Test.YtfldplmgkeiimaaGreatDoorQ32
import Derived.Deep.DeepCutAuto
import Derived.Test.YtfldplmgkeiimaaGreatDoorQ0
import Derived.Defers
import Derived.Laws.Pointers
import Derived.Laws.LoneSync
import Derived.RegionTactic
import Derived.RegionCalls
import Derived.ChangeAlike
set_option linter.unusedVariables false
set_option linter.unusedSimpArgs false
namespace Go.Proofs.YtfldplmgkeiimaaGreatDoor.GW
open Go.RowKit Go.Proofs.YtfldplmgkeiimaaGreatDoor.Base Go.Proofs.YtfldplmgkeiimaaGreatDoor.Dp Go.Proofs.YtfldplmgkeiimaaGreatDoor.DeciW Go.Proofs.YtfldplmgkeiimaaGreatDoor.Mem Go.Proofs.YtfldplmgkeiimaaGreatDoor.RdW Go.Proofs.YtfldplmgkeiimaaGreatDoor.Gp
def lenOf:Value→Nat
 | .slice _ n _=>n
 | _=>0
def GParseOut (l:List (Nat × C)) (i e:Nat) (w:World) (en:Ending) (w':World):Prop:=Below w.heap.size w w'∧∃v,en= .returned (.tuple #[v, .int .i64 (i:Int), .int .i64 (e:Int)])∧CmdsAt w.heap.size w' v l
theorem goW_er:∀{l:List UInt8} {k:Nat} {s:Ws} {i e:Nat},goW l k s= .error (i,e)→e≠0
 | [],k,s,i,e,h=>by cases h
 | c :: l,k,s,i,e,h=>by
  unfold goW at h
  split at h
  ·rename_i h2
   cases h
   exact Nat.pos_iff_ne_zero.1 (takeW_er h2)
  ·exact goW_er h
theorem wordsV_zero {s:List UInt8} {ws:List Wd} {i:Nat} (h:wordsV s=(ws,i,0)):i=0:=by
 unfold wordsV at h
 split at h
 ·simp at h
 ·split at h
  ·rename_i h2
   simp only [Prod.mk.injEq] at h
   exact absurd h.2.2 (goW_er h2)
  ·split at h
   ·simp at h
   ·simp only [Prod.mk.injEq] at h
    exact h.2.1.symm
def OneOut (r:Except (Nat × Nat) (List C)) (B:Nat) (w5:World) (v:Value) (a e:Nat):Prop:=match r with
 | .ok cs=>e=0∧CmdsAt B w5 v (at0 cs)
 | .error y=>a=y.1∧e=y.2
theorem block_lt {w:World} {p:Addr} {v:Value} (h:w.cell? p=some v):p.block < w.heap.size:=World.block_lt_of_cell? w p h
theorem one_push {w W X w1:World} {pz:Option Addr} {N cz a:Nat} {xa:Int} {v':Value} {L:List (Nat × C)} {xs:List Value} {c:C} {pn qb:Option Addr} {kn kb:Nat} (hxa:(a:Int)=xa) (hN:L.length=N) (hx:W.ownsRow w.heap.size 104 12 (.slice pz N cz) N xs) (hr:RowsAt w.heap.size W L xs) (hn:NumsIn w.heap.size W pn c.nums) (hb:BlksIn w.heap.size W qb c.blocks) (hX:Below W.heap.size W X) (hg:X.grownBy w1 (Value.ownBlock (.slice pz N cz)))
  (ho:w1.ownsRow w.heap.size 104 12 v' (N+1) (xs++(cmCells c xa (.slice pn c.nums.length kn) (.slice qb c.blocks.length kb)).toList)) (hB:Below w.heap.size w W):CmdsAt w.heap.size w1 v' (L++ [(a,c)])∧Below w.heap.size w w1:=by
 subst hxa
 subst hN
 refine ⟨CmdsAt.push (x:=(a,c)) hx hr hn hb hX hg ho,?_⟩
 have hb2:=hB.trans (hX.mono hB.size)
 exact hb2.grown hg hb2.size (fun k hk=>((row_below hx hX).lt _ hk).1)
theorem one_keep {w wc W X w1:World} {B0 N cz g' cap':Nat} {pz:Option Addr} {xs:List Value} (hx:W.ownsRow w.heap.size 104 12 (.slice pz N cz) N xs) (hX:Below W.heap.size W X) (hg:X.grownBy w1 (Value.ownBlock (.slice pz N cz))) (hw:Value.ownBlock (.slice (some ⟨g',0,none⟩) (N+1) cap')=Value.ownBlock (.slice pz N cz)∨Value.ownBlock (.slice (some ⟨g',0,none⟩) (N+1) cap')=some X.heap.size)
  (hK:KeepT 104 wc W) (hO:∀kk,Value.ownBlock (.slice pz N cz)=some kk→kk < B0∨wc.heap.size≤kk) (hP:∀kk,B0≤kk→kk < wc.heap.size→W.heap[kk]?=wc.heap[kk]?):
  KeepT 104 wc w1∧(∀kk,Value.ownBlock (.slice (some ⟨g',0,none⟩) (N+1) cap')=some kk→kk < B0∨wc.heap.size≤kk)∧(∀kk,B0≤kk→kk < wc.heap.size→w1.heap[kk]?=wc.heap[kk]?):=by
 refine ⟨(hK.trans (.of_below hX)).trans (.grown (row_below hx hX) hg),fun kk hkk=>?_,fun kk h1 h2=>?_⟩
 ·rcases hw with h | h
  ·exact hO kk (h.symm.trans hkk)
  ·rw [h] at hkk
   injection hkk with hkk
   exact .inr (by rw [←hkk];exact Nat.le_trans hK.1 hX.size)
 ·have h3:kk < W.heap.size:=Nat.lt_of_lt_of_le h2 hK.1
  rw [←hP kk h1 h2,←hX.block kk h3]
  refine hg.block kk (Nat.lt_of_lt_of_le h3 hX.size) (fun h=>?_)
  rcases hO kk h.symm with h4 | h4 <;> omega
set_option maxRecDepth 100000 in
set_option maxHeartbeats 25600000 in
theorem gparse_c (S:ByteArray) (hm:S.size≤maxLen) (w:World) (l:List (Nat × C)) (i e:Nat) (h:Hid (parseG S.data.toList=(l,i,e))):
  Calls Tryz.prog 39 #[.string S] w (GParseOut l i e w):=by
 obtain ⟨⟨ws,i1,e1⟩,hw⟩:∃y,wordsV S.data.toList=y:=⟨_,rfl⟩
 have HW:=Lib.hid hw
 have HSM:=Lib.hid hm
 have hl:=h.out
 clear h hm
 go_enter Tryz.func39,Tryz.ntmps39
 go_wp2_with fail
 with_reducible refine (words_c S HSM.out _ ws i1 e1 HW).mono ?_
 rintro en w1 ⟨v,rfl,hv,hb⟩
 have HB:=Lib.hid hb
 clear hb
 by_cases he:e1=0
 ·subst he
  obtain rfl:=wordsV_zero hw
  rw [parseG_K hw] at hl
  have HL:=Lib.hid hl
  have HLEN:=Lib.hid (wordsV_len hw)
  obtain ⟨p,c,g,cw,rfl,hlc,hcm,hwc⟩:=wds_row hv
  have HCM:=Lib.hid (And.intro hlc hcm)
  have HWC:=Lib.hid hwc
  clear hl hw hv hwc HW hlc hcm
  go_wp2_with fail
  go_loopw [5,8] (fun u v wr=>∃(f:Nat) (lw:List Wd) (L:Nat) (acc:List (Nat × C)) (p:Option Addr) (cp o:Nat),u= .slice p L cp∧Hid (lw.length=L)∧L≤f∧L≤cp∧Hid (cp≤maxLen)∧Hid (CmdsAt w.heap.size wr v acc)∧Hid (Below w.heap.size w wr)∧Hid (0 < lw.length→p=some ⟨g,o,none⟩∧wr.heap[g]?=some (.cells cw 153)∧WdsC cw o lw)∧Hid (lw.length≤1000000∧∀x∈lw,x.t.length≤1000000)∧Hid (acc.length+2 *lw.length≤2000000)∧Hid (goK (goG f lw acc)=(l,i,e))) (fun u _ _=>lenOf u)
  case atStart=>exact ⟨ws.length,ws,ws.length, [],p,c,0,rfl,rfl,Nat.le_refl _,HCM.out.1,HCM.out.2,CmdsAt.nil _ _,HB.out,HWC,HLEN,(by show 0+_≤_;have:=HLEN.out.1;omega),HL⟩
  case round=>
  obtain ⟨f,lw,L,acc,p,cp,o,rfl,HLL,hLf,hLc,HCP,HC,HB,HWC,HLEN,HCNT,HR⟩:=hrel
  by_cases h0:L=0
  ·have h0i:¬(0:Int)<(L:Int):=by omega
   have hr:=HR.out
   have hnil:lw= []:=List.eq_nil_of_length_eq_zero (HLL.out.trans h0)
   rw [hnil,goG_nil] at hr
   have hr2:(acc,0,0)=(l,i,e):=hr
   simp only [Prod.mk.injEq] at hr2
   obtain ⟨rfl,rfl,rfl⟩:=hr2
   clear hr hnil h0
   go_wp2_with fail
   go_ret3
   exact ⟨HB.out,_,rfl,HC.out⟩
  ·obtain ⟨x,l2,hx⟩:∃x l2,lw=x :: l2:=by
    cases lw with
    | nil=>exact absurd HLL.out.symm h0
    | cons a b=>exact ⟨a,b,rfl⟩
   subst hx
   obtain ⟨f2,rfl⟩:∃f2,f=f2+1:=⟨f - 1,by omega⟩
   obtain ⟨rfl,hg,hwc⟩:=HWC.out (Nat.succ_pos _)
   have HG:=Lib.hid hg
   have HWD:=Lib.hid hwc
   have hll:l2.length+1=L:=HLL.out
   obtain ⟨k,hk⟩:∃k,(l2.takeWhile fun x=>!x.first).length=k:=⟨_,rfl⟩
   have hr:=HR.out
   rw [goG_succ,tw_take,dw_drop,hk] at hr
   obtain ⟨r,hrr⟩:∃r,cmdsW x (l2.take k)=r:=⟨_,rfl⟩
   have HRR:=Lib.hid hrr
   rw [hrr] at hr
   have HR2:=Lib.hid hr
   have hkl:k+1≤L:=by have:=tw_le l2;omega
   have HKA:Hid (∀j,j < k→cw[o+(j+1) *4+2]?=some (.bool false)):=by
    intro j hj
    obtain ⟨h1,h2⟩:=tw_at (l:=l2) (k:=j) (by rw [hk];exact hj)
    have h3:=(hwc (j+1) (by rw [List.length_cons];omega)).2.2.1
    simp only [List.getElem_cons_succ] at h3
    rw [h2] at h3
    exact h3
   have HKE:Hid (k+1 < L→cw[o+(k+1) *4+2]?=some (.bool true)):=by
    intro hj
    have h1:(l2.takeWhile fun x=>!x.first).length < l2.length:=by omega
    have h2:=tw_end h1
    have h3:=(hwc (k+1) (by rw [List.length_cons];omega)).2.2.1
    simp only [List.getElem_cons_succ] at h3
    simp only [hk] at h2
    rw [h3,h2]
   have h00:=hwc 0 (Nat.succ_pos _)
   simp only [List.getElem_cons_zero,Nat.zero_mul,Nat.add_zero] at h00
   obtain ⟨T,hT⟩:=str_ex x.t
   have hTT:(⟨x.t.toArray⟩:ByteArray)=T:=str_eq hT.symm
   rw [hTT] at h00
   have HX0:=Lib.hid h00
   have HTT:=Lib.hid hT
   have hL0:(0:Int)<(L:Int):=by omega
   have hL0n:0 < L:=by omega
   have hkb:k < 1000000:=by have:=HLEN.out.1;rw [List.length_cons] at this;omega
   have hk1:((k+1:Nat):Int)≤(cp:Int):=by omega
   clear hr hk hrr hg hwc h00 hT hTT h0 HR HWC hll
   have HCW:Hid (∀(j:Nat) (u:Value),cw[j]?=some u→wr.cell? ⟨g,j,none⟩=some u):=fun j u hj=>by simp [World.cell?,HG.out,hj]
   go_wp2_with fail
   go_loopw [9] (fun n wx=>∃j,j≤k∧n= .int .i64 ((j+1:Nat):Int)∧wx=wr) (fun n _=>k+1 -(intOf n).toNat)
   case atStart=>exact ⟨0,Nat.zero_le _,rfl,rfl⟩
   case round=>
   obtain ⟨j,hj,rfl,rfl⟩:=hrel
   by_cases hjk:j < k
   ·have hjL:((j+1:Nat):Int)<(L:Int):=by omega
    have hcell:=HCW.out _ _ (HKA.out j hjk)
    go_wp2_with fail
    go_roundw
    case rel=>
     exact ⟨j+1,by omega,by go_num,trivial⟩
    case measure=>simp [intOf] <;> omega
   ·obtain rfl:j=k:=by omega
    clear hjk hj
    go_upto_region 7 with fail
    go_cut [37] (fun c wx=>c= .bool false∧wr=wx)
    case first=>
     by_cases hkL:j+1 < L
     ·have hjL:((j+1:Nat):Int)<(L:Int):=by omega
      have hcell:=HCW.out _ _ (HKE.out hkL)
      go_wp2_with fail
      go_meet
      exact ⟨rfl,rfl⟩
     ·have hjL:¬((j+1:Nat):Int)<(L:Int):=by omega
      go_wp2_with fail
      go_meet
      exact ⟨rfl,rfl⟩
    case rest=>
    obtain ⟨rfl,rfl⟩:=hcut
    have HTS:Hid (T.size≤1000000000):=by
     show _≤_
     rw [←len_list,HTT.out]
     have:=HLEN.out.2 x (by simp)
     omega
    obtain ⟨v0,v1,v2,v3⟩:=HX0.out
    have x0:=HCW.out _ _ v0
    have x1:=HCW.out _ _ v1
    have x2:=HCW.out _ _ v2
    have x3:=HCW.out _ _ v3
    clear v0 v1 v2 v3
    go_upto_if 43 with fail
    go_cut [10,6,7] (fun v a e9 w5=>∃(ea ee:Nat),a= .int .i64 (ea:Int)∧e9= .int .i64 (ee:Int)∧Hid (Below wr.heap.size wr w5)∧Hid (OneOut r wr.heap.size w5 v ea ee))
    case first=>
     cases hext:x.ext with
     | true=>
      rw [hext] at x1
      have hgr:Hid (groupV x (l2.take j)=r):=by
       have h:=HRR.out
       unfold cmdsW at h
       rw [if_pos hext] at h
       exact h
      have hjl:j≤l2.length:=by have:=HLL.out;rw [List.length_cons] at this;omega
      have hgc:=group_c (some ⟨g,o,none⟩) cp x (l2.take j) wr (Lib.hid (WdsC.wdsIn HWD.out HG.out (by rw [List.prefix_cons_inj];exact List.take_prefix _ _))) (by have:=HLEN.out.1;rw [List.length_cons] at this;rw [List.length_take];omega) (by rw [List.length_take];omega) HCP.out (Lib.hid (by
       intro y hy
       have:=HLEN.out.2 y (by
        rcases List.mem_cons.1 hy with rfl | hy
        ·simp
        ·exact List.mem_cons_of_mem _ (List.mem_of_mem_take hy))
       omega)) r hgr
      rw [List.length_take,Nat.min_eq_left hjl] at hgc
      have HGC:=Lib.hid hgc
      clear hgc hext hgr hjl
      go_wp2_with fail
      with_reducible refine HGC.out.mono ?_
      rintro en w5 ⟨hb5,hx5⟩
      have HB5:=Lib.hid hb5
      clear hb5
      cases r with
      | ok cs=>
       obtain ⟨v,rfl,hc5⟩:=hx5
       have HC5:=Lib.hid hc5
       clear hc5
       go_wp2_with fail
       go_meet
       exact ⟨0,0,rfl,rfl,HB5.out,rfl,HC5.out⟩
      | error y=>
       obtain rfl:=hx5
       go_wp2_with fail
       go_meet
       exact ⟨y.1,y.2,rfl,rfl,HB5.out,rfl,rfl⟩
     | false=>
      rw [hext] at x1
      obtain ⟨rp,hrp⟩:∃rp,plainV T.data.toList=rp:=⟨_,rfl⟩
      have HRP:=Lib.hid hrp
      have hr1:=HRR.out
      unfold cmdsW at hr1
      rw [if_neg (by rw [hext];decide),←HTT.out,hrp] at hr1
      have hglt:g < wr.heap.size:=(Array.getElem?_eq_some_iff.1 HG.out).1
      have HGL:=Lib.hid hglt
      have HX:=Lib.hid x0
      clear hrp hext hglt
      go_wp2_with fail
      with_reducible refine (plain_c T HTS.out rp HRP _).mono ?_
      rintro en w5 ⟨hb5,hx5⟩
      have HB5:=Lib.hid hb5
      have y0:w5.cell? ⟨g,o,none⟩=some (.int .i64 (x.a:Int)):=(hb5.cell (p:=⟨g,o,none⟩) HGL.out).trans HX.out
      clear hb5
      cases rp with
      | ok cs=>
       obtain ⟨v,rfl,hc5⟩:=hx5
       have HC5:=Lib.hid hc5
       have HQ:Hid (r= .ok cs):=hr1.symm
       clear hc5 hr1
       go_wp2_with fail
       go_meet
       exact ⟨x.a,0,rfl,rfl,HB5.out,(by rw [HQ.out];exact ⟨rfl,HC5.out⟩)⟩
      | error n=>
       obtain rfl:=hx5
       have HQ:Hid (r= .error (x.a,n)):=hr1.symm
       clear hr1
       go_wp2_with fail
       go_meet
       exact ⟨x.a,n,rfl,rfl,HB5.out,(by rw [HQ.out];exact ⟨rfl,rfl⟩)⟩
    case rest=>
    obtain ⟨ea,ee,rfl,rfl,HB5,HO⟩:=hcut
    have HBC:=Lib.hid (HB.out.trans (HB5.out.mono HB.out.size))
    clear x0 x1 x2 x3
    cases r with
    | error y=>
     obtain ⟨y1,y2⟩:=y
     obtain ⟨rfl,rfl⟩:=HO.out
     have hne:ee≠0:=cmdsW_ne HRR.out
     have hei:((ee:Int) !=0)=true:=by simp;omega
     have hr:=HR2.out
     have hr2:(([]:List (Nat × C)),ea,ee)=(l,i,e):=hr
     simp only [Prod.mk.injEq] at hr2
     obtain ⟨rfl,rfl,rfl⟩:=hr2
     clear hr hne
     go_wp2_with fail
     go_ret3
     exact ⟨HBC.out,_,rfl,CmdsAt.nil _ _⟩
    | ok cs=>
     obtain ⟨rfl,hc5⟩:=HO.out
     obtain ⟨pm,cm,hpm,hread⟩:=cmds_read hc5
     obtain ⟨B0,hB0⟩:∃B0,wr.heap.size=B0:=⟨_,rfl⟩
     have HBL:Hid (w.heap.size≤B0):=by show _≤_;rw [←hB0];exact HB.out.size
     rw [hB0] at hread
     rw [show (at0 cs).length=cs.length by simp [at0]] at hpm
     subst hpm
     have HREAD:=Lib.hid hread
     have HACC:=Lib.hid (HC.out.below HB5.out)
     have HOWN:Hid (∀kk,u8.ownBlock=some kk→kk < B0∨wc.heap.size≤kk):=by
      obtain ⟨xs,hxs,_⟩:=HC.out
      rw [←hB0]
      exact fun kk h=> .inl (hxs.lt kk h).2
     have hcl:cs.length≤2:=cmdsW_len HRR.out
     have HACL:Hid (acc.length≤2000000):=by have:=HCNT.out;show _≤_;omega
     have HGW:Hid (wc.heap[g]?=some (.cells cw 153)):=one_below HG.out HB5.out
     have HW0:=Lib.hid HX0.out.1
     clear hc5 hread HO HC HX0 hB0
     go_wp2_with fail
     go_loopw [8,70] (fun v8 n wz=>∃q,q≤cs.length∧n= .int .i64 (q:Int)∧Hid (CmdsAt w.heap.size wz v8 (acc++(cs.take q).map fun c=>(x.a,c)))∧Hid (KeepT 104 wc wz)∧Hid (Below w.heap.size w wz)∧Hid (∀kk,v8.ownBlock=some kk→kk < B0∨wc.heap.size≤kk)∧Hid (∀kk,B0≤kk→kk < wc.heap.size→wz.heap[kk]?=wc.heap[kk]?)) (fun _ n _=>cs.length -(intOf n).toNat)
     case atStart=>exact ⟨0,Nat.zero_le _,rfl,by rw [List.take_zero,List.map_nil,List.append_nil];exact HACC.out,⟨Nat.le_refl _,fun _ _ _ _ hk _=>hk⟩,HBC.out,HOWN.out,fun _ _ _=>rfl⟩
     case round=>
     obtain ⟨q,hq,rfl,HCz,HKz,HBz,HOz,HPz⟩:=hrel
     by_cases hqc:q < cs.length
     ·have hqi:(q:Int)<(cs.length:Int):=by omega
      obtain ⟨b,ob,cur,rfl,hBb,hbh,hall⟩:=HREAD.out (by simp [at0];omega)
      obtain ⟨pn,qb,kn,kb,hcells,hnum,hblk⟩:=hall q (by simp [at0];omega)
      obtain ⟨c9,hc9⟩:∃c9,cs[q]=c9:=⟨_,rfl⟩
      have hat:(at0 cs)[q]'(by simp [at0];omega)=(0,c9):=by simp [at0,hc9]
      simp only [hat] at hcells hnum hblk
      have hblt:b < wc.heap.size:=(Array.getElem?_eq_some_iff.1 hbh).1
      have hbz:wr.heap[b]?=some (.cells cur 104):=(HPz.out b hBb hblt).trans hbh
      obtain ⟨a0,a1,a2,a3,a4,a5,a6,a7,a8,a9,a10,a11⟩:=cmAt_of (c:=c9) (a:=0) (o:=ob+q *12) hbz hcells
      have hgz:=HKz.out.2 g _ _ _ HGW.out (by decide)
      have xw0:wr.cell? ⟨g,o,none⟩=some (.int .i64 (x.a:Int)):=by simp [World.cell?,hgz,HW0.out]
      have HNUM:=Lib.hid ((hnum.mono HBL.out).keep HKz.out (by decide))
      have HBLK:=Lib.hid ((hblk.mono HBL.out).keep HKz.out (by decide) (by decide) (by decide))
      obtain ⟨xs,hxs,hrows⟩:=HCz.out
      obtain ⟨N,hN⟩:∃N,(acc++(cs.take q).map fun c=>(x.a,c)).length=N:=⟨_,rfl⟩
      rw [hN] at hxs
      obtain ⟨pz,cz,rfl⟩:=row_form hxs
      have hNb:N≤3000000:=by
       rw [←hN,List.length_append,List.length_map,List.length_take]
       have:=HACL.out
       omega
      have HXS:=Lib.hid hxs
      have HROWS:=Lib.hid hrows
      have HC9:=Lib.hid hc9
      have HNN:=Lib.hid hN
      obtain ⟨xa,hxa⟩:∃a:Int,(x.a:Int)=a:=⟨_,rfl⟩
      rw [hxa] at xw0
      have HXA:=Lib.hid hxa
      have HWCL:Hid (wc.heap.size≤wr.heap.size):=HKz.out.1
      clear hBb hbh hall hcells hnum hblk hat hblt hbz hgz hxs hrows hc9 hN hxa
      go_upto_region 19 with fail
      have HW6:Hid ((wr.alloc (.cells #[.int .i64 0, .int .i64 c9.k, .int .i64 c9.n, .int .i64 c9.m, .bool c9.on, .string ⟨c9.t.toArray⟩, .string ⟨c9.x.toArray⟩, .string ⟨c9.y.toArray⟩, .string ⟨c9.i.toArray⟩, .string ⟨c9.j.toArray⟩, .slice pn c9.nums.length kn, .slice qb c9.blocks.length kb] 104)).heap[wr.heap.size]?=some (.cells #[.int .i64 0, .int .i64 c9.k, .int .i64 c9.n, .int .i64 c9.m, .bool c9.on, .string ⟨c9.t.toArray⟩, .string ⟨c9.x.toArray⟩, .string ⟨c9.y.toArray⟩, .string ⟨c9.i.toArray⟩, .string ⟨c9.j.toArray⟩, .slice pn c9.nums.length kn, .slice qb c9.blocks.length kb] 104)∧Below wr.heap.size wr (wr.alloc (.cells #[.int .i64 0, .int .i64 c9.k, .int .i64 c9.n, .int .i64 c9.m, .bool c9.on, .string ⟨c9.t.toArray⟩, .string ⟨c9.x.toArray⟩, .string ⟨c9.y.toArray⟩, .string ⟨c9.i.toArray⟩, .string ⟨c9.j.toArray⟩, .slice pn c9.nums.length kn, .slice qb c9.blocks.length kb] 104))):=⟨heap_alloc_new wr _,(Below.refl _ _).alloc (Nat.le_refl _) _⟩
      have xw6:(wr.alloc (.cells #[.int .i64 0, .int .i64 c9.k, .int .i64 c9.n, .int .i64 c9.m, .bool c9.on, .string ⟨c9.t.toArray⟩, .string ⟨c9.x.toArray⟩, .string ⟨c9.y.toArray⟩, .string ⟨c9.i.toArray⟩, .string ⟨c9.j.toArray⟩, .slice pn c9.nums.length kn, .slice qb c9.blocks.length kb] 104)).cell? ⟨g,o,none⟩=some (.int .i64 xa):=(HW6.out.2.cell (p:=⟨g,o,none⟩) (block_lt xw0)).trans xw0
      clear a0 a1 a2 a3 a4 a5 a6 a7 a8 a9 a10 a11 xw0
      generalize wr.alloc (.cells #[.int .i64 0, .int .i64 c9.k, .int .i64 c9.n, .int .i64 c9.m, .bool c9.on, .string ⟨c9.t.toArray⟩, .string ⟨c9.x.toArray⟩, .string ⟨c9.y.toArray⟩, .string ⟨c9.i.toArray⟩, .string ⟨c9.j.toArray⟩, .slice pn c9.nums.length kn, .slice qb c9.blocks.length kb] 104)=W6 at HW6 xw6⊢
      have HW7:Hid ((W6.setCell ⟨wr.heap.size,0,none⟩ (.int .i64 xa)).heap[wr.heap.size]?=some (.cells #[.int .i64 xa, .int .i64 c9.k, .int .i64 c9.n, .int .i64 c9.m, .bool c9.on, .string ⟨c9.t.toArray⟩, .string ⟨c9.x.toArray⟩, .string ⟨c9.y.toArray⟩, .string ⟨c9.i.toArray⟩, .string ⟨c9.j.toArray⟩, .slice pn c9.nums.length kn, .slice qb c9.blocks.length kb] 104)∧Below wr.heap.size wr (W6.setCell ⟨wr.heap.size,0,none⟩ (.int .i64 xa))):=⟨st0 HW6.out.1 _,HW6.out.2.setCell (Nat.le_refl _) _⟩
      obtain ⟨⟨d0,d1,d2,d3,d4,d5,d6,d7,d8,d9,d10,d11⟩,g0,g1,g2,g3,g4,g5,g6,g7,g8,g9,g10,g11⟩:=cm_at HW6.out.1
      go_upto_region 20 with fail
      clear d0 d1 d2 d3 d4 d5 d6 d7 d8 d9 d10 d11 g0 g1 g2 g3 g4 g5 g6 g7 g8 g9 g10 g11 xw6 HW6
      generalize W6.setCell ⟨wr.heap.size,0,none⟩ (.int .i64 xa)=W7 at HW7⊢
      obtain ⟨⟨d0,d1,d2,d3,d4,d5,d6,d7,d8,d9,d10,d11⟩,_⟩:=cm_at HW7.out.1
      obtain ⟨i0,hi0,hz0,hz1,hz2⟩:=info_parts info_cm
      have HI:=Lib.hid (And.intro hi0 (And.intro hz0 (And.intro hz1 hz2)))
      clear hi0 hz0 hz1 hz2
      have HX7:Hid (Below wr.heap.size wr (W7.alloc (.cells #[.int .i64 xa, .int .i64 c9.k, .int .i64 c9.n, .int .i64 c9.m, .bool c9.on, .string ⟨c9.t.toArray⟩, .string ⟨c9.x.toArray⟩, .string ⟨c9.y.toArray⟩, .string ⟨c9.i.toArray⟩, .string ⟨c9.j.toArray⟩, .slice pn c9.nums.length kn, .slice qb c9.blocks.length kb] 104))):=HW7.out.2.alloc HW7.out.2.size _
      go_wp2_with ((at_builtin;refine wpList_append_where rfl _ _ _ rfl w.heap.size 104 i0 (.agg #[.int .i64 0, .int .i64 0, .int .i64 0, .int .i64 0, .bool false, .string ⟨#[]⟩, .string ⟨#[]⟩, .string ⟨#[]⟩, .string ⟨#[]⟩, .string ⟨#[]⟩, .slice none 0 0, .slice none 0 0]) 12 168 Tryz.underlying98 HI.out.1 HI.out.2.1 HI.out.2.2.1 HI.out.2.2.2 rfl (by omega) (.slice pz N cz) N xs (by rfl) (row_below HXS.out HX7.out) ⟨W7.heap.size,0,none⟩ 1 1 rfl [.int .i64 xa, .int .i64 c9.k, .int .i64 c9.n, .int .i64 c9.m, .bool c9.on, .string ⟨c9.t.toArray⟩, .string ⟨c9.x.toArray⟩, .string ⟨c9.y.toArray⟩, .string ⟨c9.i.toArray⟩, .string ⟨c9.j.toArray⟩, .slice pn c9.nums.length kn, .slice qb c9.blocks.length kb] (by rfl) rfl (World.news_of_block (heap_alloc_new W7 _)) (by simp [Value.oneCell']) (by unfold maxLen;omega) (by omega) (by have:=HBz.out.size;have:=HW7.out.2.size;simp <;> omega) ?_;intro v' w' hown' hgrow' hwh';obtain ⟨g',cap',rfl,_,_⟩:=hown'.form (by omega);have HPU:=Lib.hid (one_push (a:=x.a) (c:=c9) HXA.out HNN.out HXS.out HROWS.out HNUM.out HBLK.out HX7.out hgrow' hown' HBz.out);have HPK:=Lib.hid (one_keep HXS.out HX7.out hgrow' hwh' HKz.out HOz.out HPz.out);clear hown' hgrow' hwh'))
      clear d0 d1 d2 d3 d4 d5 d6 d7 d8 d9 d10 d11
      go_roundw
      case rel=>
       refine ⟨q+1,by omega,by go_num,?_,HPK.out.1,HPU.out.2,HPK.out.2.1,HPK.out.2.2⟩
       rw [List.take_add_one,List.getElem?_eq_getElem hqc,HC9.out]
       simp only [Option.toList_some,List.map_append,List.map_cons,List.map_nil,←List.append_assoc]
       exact HPU.out.1
      case measure=>simp [intOf] <;> omega
     ·obtain rfl:q=cs.length:=by omega
      have HR3:Hid (goK (goG f2 (l2.drop j) (acc++cs.map fun c=>(x.a,c)))=(l,i,e)):=HR2.out
      have HCF:Hid (CmdsAt w.heap.size wr u8 (acc++cs.map fun c=>(x.a,c))):=by
       have h:=HCz.out
       rw [List.take_length] at h
       exact h
      have hjL:((j:Int)+1)≤(L:Int):=by omega
      have HGZ:=Lib.hid (HKz.out.2 g _ _ _ HGW.out (by decide))
      by_cases hcc:j+1=cp
      ·have hcci:((j:Int)+1)=(cp:Int):=by omega
       go_wp2_with fail
       go_roundw
       case rel=>
        have hLL:l2.length+1=L:=HLL.out
        have hdl:(l2.drop j).length=0:=by rw [List.length_drop];omega
        exact ⟨f2,l2.drop j,0,acc++cs.map fun c=>(x.a,c),_,0,o+(j+1) *4,rfl,hdl,by omega,by omega,(by have:=HCP.out;show _≤_;omega),HCF,HBz,fun h=>absurd h (by rw [hdl];decide),
         ⟨by have:=HLEN.out.1;rw [List.length_cons] at this;omega,fun y hy=>HLEN.out.2 y (List.mem_cons_of_mem _ (List.mem_of_mem_drop hy))⟩,
         (by have:=HCNT.out;rw [List.length_cons] at this;show (acc++cs.map fun c=>(x.a,c)).length+2 *(l2.drop j).length≤_;rw [List.length_append,List.length_map];omega),HR3⟩
       case measure=>show 0 < L;omega
      ·have hcci:((j:Int)+1)<(cp:Int):=by omega
       go_wp2_with fail
       go_roundw
       case rel=>
        have hLL:l2.length+1=L:=HLL.out
        have hdl:(l2.drop j).length=(L -(j+1)):=by rw [List.length_drop];omega
        exact ⟨f2,l2.drop j,(L -(j+1)),acc++cs.map fun c=>(x.a,c),_,(cp -(j+1)),o+(j+1) *4,rfl,hdl,by omega,by omega,(by have:=HCP.out;show _≤_;omega),HCF,HBz,fun _=>⟨rfl,HGZ.out,WdsC.drop (k:=j+1) HWD.out⟩,
         ⟨by have:=HLEN.out.1;rw [List.length_cons] at this;omega,fun y hy=>HLEN.out.2 y (List.mem_cons_of_mem _ (List.mem_of_mem_drop hy))⟩,
         (by have:=HCNT.out;rw [List.length_cons] at this;show (acc++cs.map fun c=>(x.a,c)).length+2 *(l2.drop j).length≤_;rw [List.length_append,List.length_map];omega),HR3⟩
       case measure=>show (L -(j+1))< L;omega
 ·have hei:((e1:Int) !=0)=true:=by simp;omega
  rw [parseG_E hw he] at hl
  simp only [Prod.mk.injEq] at hl
  obtain ⟨rfl,rfl,rfl⟩:=hl
  clear hw he hv HW
  go_wp2_with fail
  go_ret3
  exact ⟨HB.out,_,rfl,CmdsAt.nil _ _⟩
end Go.Proofs.YtfldplmgkeiimaaGreatDoor.GW
namespace Go.Proofs.YtfldplmgkeiimaaGreatDoor.VW
open Go.RowKit Go.Proofs.YtfldplmgkeiimaaGreatDoor.Vp
open Go.Proofs.YtfldplmgkeiimaaGreatDoor.Gp (C parseG)
open Go.Proofs.YtfldplmgkeiimaaGreatDoor.GW (cmVal cmCells ReadC CmAt cmAt_of gparse_c GParseOut cmds_read)
def fileK (sz:Nat) (l:List (Nat × C)):List Ob × Nat × Nat→List Ob × Nat × Nat
 |(o,i,f)=>if f=0 then (o,0,0) else if i < l.length then ([],((l.map Prod.fst)[i]?).getD 0,f) else ([],sz,f)
theorem fileV_ok {s:List UInt8} {l:List (Nat × C)} {a:Nat} {b:Int} (h:parseG s=(l,a,0)):fileV s b=fileK s.length l (plotV (l.map Prod.snd) b):=by
 unfold fileV fileK
 rw [h]
 rfl
theorem fileV_no {s:List UInt8} {l:List (Nat × C)} {a e:Nat} {b:Int} (h:parseG s=(l,a,e)) (he:e≠0):fileV s b=([],a,e):=by
 unfold fileV
 rw [h]
 simp only
 rw [if_pos he]
set_option maxRecDepth 100000 in
set_option maxHeartbeats 12800000 in
theorem file_c (S:ByteArray) (hm:S.size≤1000000) (bu:Int) (w:World) (hR:runR ((parseG S.data.toList).1.map Prod.snd) (pl0 bu)=true) (hl:(parseG S.data.toList).1.length≤500000) (res:List Ob × Nat × Nat) (hres:fileV S.data.toList bu=res):
  Calls Tryz.prog 19 #[.string S, .int .i64 bu] w fun e w'=>PltOut w res e w':=by
 obtain ⟨⟨l,a,er⟩,hp⟩:∃x,parseG S.data.toList=x:=⟨_,rfl⟩
 have HP:=Lib.hid hp
 rw [hp] at hR hl
 have HR:=Lib.hid hR
 have hl2:l.length≤500000:=hl
 have HRes:=Lib.hid hres
 have hmx:S.size≤maxLen:=by unfold maxLen;omega
 clear hp hR hl hres
 go_enter Tryz.func19,Tryz.ntmps19
 go_wp2_with fail
 with_reducible refine (gparse_c S hmx w l a er HP).mono ?_
 rintro e W ⟨hb,v,rfl,hcm⟩
 obtain ⟨pp,cap,rfl,hrd⟩:=cmds_read hcm
 have HB:=Lib.hid hb
 have HRd:=Lib.hid hrd
 clear hb hcm hrd
 by_cases he0:er=0
 ·subst he0
  obtain ⟨⟨ob,i,f⟩,hpl⟩:∃x,plotV (l.map Prod.snd) bu=x:=⟨_,rfl⟩
  have HF:Hid (fileK S.size l (ob,i,f)=res):=by rw [←hpl,←HRes.out];exact (fileV_ok HP.out).symm
  have HPl:=Lib.hid hpl
  obtain ⟨n,hn⟩:∃n,l.length=n:=⟨_,rfl⟩
  have HN:=Lib.hid hn
  have hnb:n≤500000:=by rw [←hn];exact hl2
  rw [hn]
  clear hpl hn
  go_wp2_with fail
  with_reducible refine (plot_c w.heap.size l pp n cap HN.out.symm bu W HRd hl2 HR (ob,i,f) HPl).mono ?_
  rintro e W2 ⟨hb2,q,d,rfl,hob⟩
  have HB2:=Lib.hid hb2
  have HOb:=Lib.hid hob
  clear hb2 hob
  by_cases hf0:f=0
  ·subst hf0
   have HF2:Hid ((ob,0,0)=res):=by rw [←HF.out];exact rfl
   go_wp2_with fail
   go_ret3
   rw [←HF2.out]
   exact ⟨HB.out.trans (HB2.out.mono HB.out.size),q,d,rfl,HOb.out.mono fun k _ hk=>Nat.le_trans HB.out.size hk⟩
  ·have hf1:(((f:Int)==0):Bool)=false:=by rw [beq_eq_false_iff_ne];omega
   by_cases hin:i < n
   ·have hin2:i < l.length:=by rw [HN.out];exact hin
    have hini:(i:Int)<(n:Int):=by omega
    have hi0:(0:Int)≤(i:Int):=by omega
    obtain ⟨⟨ca,cc⟩,hci⟩:∃x,l[i]=x:=⟨_,rfl⟩
    obtain ⟨b,o,q1,n1,k1,q2,n2,k2,rfl,hbl,hat⟩:=read_at HRd.out hin2 hci
    have hd:decide ((i:Int)<(n:Int))=true:=decide_eq_true hini
    have HF2:Hid (([],ca,f)=res):=by
     show _=_
     rw [←HF.out]
     unfold fileK;simp only
     rw [if_neg hf0,if_pos hin2,List.getElem?_map,List.getElem?_eq_getElem hin2,hci]
     rfl
    have hc0:=cell_keep' hbl HB2.out hat.1
    have HBB:=Lib.hid (HB.out.trans (HB2.out.mono HB.out.size))
    clear hat hci hbl HOb
    go_upto_region 8 with fail
    go_quiet (fail)
    go_wp2_with fail
    go_ret3
    rw [←HF2.out]
    exact ⟨bel_drewN HBB.out _,none,0,rfl, .nil _ _ _⟩
   ·have hini:¬(i:Int)<(n:Int):=by omega
    have HF2:Hid (([],S.size,f)=res):=by
     show _=_
     rw [←HF.out]
     unfold fileK;simp only
     rw [if_neg hf0,if_neg (by rw [HN.out];exact hin)]
    go_wp2_with fail
    go_ret3
    rw [←HF2.out]
    exact ⟨HB.out.trans (HB2.out.mono HB.out.size),none,0,rfl, .nil _ _ _⟩
 ·have he1:(((er:Int) !=0):Bool)=true:=by rw [bne_iff_ne];omega
  have HF:Hid (([],a,er)=res):=by rw [←HRes.out];exact (fileV_no HP.out he0).symm
  go_wp2_with fail
  go_ret3
  rw [←HF.out]
  exact ⟨HB.out,none,0,rfl, .nil _ _ _⟩
end Go.Proofs.YtfldplmgkeiimaaGreatDoor.VW
namespace Go.Proofs.YtfldplmgkeiimaaGreatDoor.LZ
open Go.RowKit
theorem disable (w:World):(callFunc 191 #[]).run Tryz.prog w= .ok (.value (.tuple #[])) w:=run_call_mark0 Tryz.func191 (by kernel_rfl) (by kernel_rfl) (by kernel_rfl) .disable (by kernel_rfl) w
theorem enable (w:World):(callFunc 193 #[]).run Tryz.prog w= .ok (.value (.tuple #[])) w:=run_call_mark0 Tryz.func193 (by kernel_rfl) (by kernel_rfl) (by kernel_rfl) .enable (by kernel_rfl) w
theorem acquire (a:Addr) (w:World):(callFunc 194 #[.pointer (some a)]).run Tryz.prog w= .ok (.value (.tuple #[])) w:=run_call_marked Tryz.func194 (by kernel_rfl) (by kernel_rfl) (by kernel_rfl) .acquire (by kernel_rfl) a w
theorem releaseMerge (a:Addr) (w:World):(callFunc 196 #[.pointer (some a)]).run Tryz.prog w= .ok (.value (.tuple #[])) w:=run_call_marked Tryz.func196 (by kernel_rfl) (by kernel_rfl) (by kernel_rfl) .releaseMerge (by kernel_rfl) a w
set_option maxRecDepth 100000 in
set_option maxHeartbeats 1600000 in
theorem store_deferred (a:Addr) (x:Value) (u:FrameMode) (w:World) (hc:w.cell? a=some x) (hz:w.frozen? a=false):
  CallsD Tryz.prog 111 #[.pointer (some a), .bool true] u w fun e u' w'=>u'=u∧(e= .returned (.tuple #[])∧w'=w.drew.setCell a (.int .u32 1)):=by
 have hc':w.drew.cell? a=some x:=by go_simp
 have hz':w.drew.frozen? a=false:=by go_simp
 have hst:=run_call_store (P:=Tryz.prog) Tryz.func157 (by kernel_rfl) (by kernel_rfl) (by kernel_rfl) (by kernel_rfl) (k:= .u32) (y:=1) hc' hz'
 go_enter_d Tryz.func111,Tryz.ntmps111
 go_wp2
 go_region_calls
 all_goals (go_end0;exact ⟨rfl,rfl⟩)
set_option maxRecDepth 100000 in
set_option maxHeartbeats 1600000 in
theorem iunlock (a:Addr) (w:World) (hc:w.cell? a=some (.int .i32 1)) (hz:w.frozen? a=false):
  Calls Tryz.prog 156 #[.pointer (some a)] w fun e w'=>e= .returned (.tuple #[])∧w'=w.setCell a (.int .i32 0):=by
 have hd:=disable
 have he:=enable
 have hr:=releaseMerge
 have hadd:=run_call_add (P:=Tryz.prog) Tryz.func76 (by kernel_rfl) (by kernel_rfl) (by kernel_rfl) .i32 (by kernel_rfl) (y:=-1) (s:=0) hc hz (by simp [go_sem];rfl)
 have hcv:=run_convert_to_unsafe (P:=Tryz.prog) (src:=315) (dst:=318) Tryz.underlying315 Tryz.underlying318 (by kernel_rfl) hc
 go_enter Tryz.func156,Tryz.ntmps156
 go_wp2
 go_end0
 exact ⟨rfl,rfl⟩
set_option maxRecDepth 100000 in
set_option maxHeartbeats 1600000 in
theorem unlock_deferred (a:Addr) (u:FrameMode) (w:World) (hc:w.cell? a=some (.int .i32 1)) (hz:w.frozen? a=false):
  CallsD Tryz.prog 110 #[.pointer (some a)] u w fun e u' w'=>u'=u∧(e= .returned (.tuple #[])∧w'=w.setCell a (.int .i32 0)):=by
 go_enter_d Tryz.func110,Tryz.ntmps110
 go_wp2_with (go_at_call 156;refine (iunlock a _ hc hz).mono ?_;rintro e w' ⟨rfl,rfl⟩)
 go_end0
 exact ⟨rfl,rfl⟩
set_option maxRecDepth 100000 in
set_option maxHeartbeats 1600000 in
theorem ilock (a:Addr) (w:World) (hc:w.cell? a=some (.int .i32 0)) (hz:w.frozen? a=false):
  Calls Tryz.prog 155 #[.pointer (some a)] w fun e w'=>e= .returned (.tuple #[])∧w'=w.setCell a (.int .i32 1):=by
 have hd:=disable
 have he:=enable
 have ha:=acquire
 have hcas:=run_call_cas_hit (P:=Tryz.prog) Tryz.func192 (by kernel_rfl) (by kernel_rfl) (by kernel_rfl) .i32 (by kernel_rfl) (y:=1) hc hz
 have hc':(w.setCell a (.int .i32 1)).cell? a=some (.int .i32 1):=World.cell?_setCell_same w a _ hc
 have hcv:=run_convert_to_unsafe (P:=Tryz.prog) (src:=315) (dst:=318) Tryz.underlying315 Tryz.underlying318 (by kernel_rfl) hc'
 go_enter Tryz.func155,Tryz.ntmps155
 go_wp2
 first | go_end0 |(simp only [Exit.inBlock,Exit.then];refine bodyPost_ret (results_none rfl _ _ _) rfl ?_)| refine bodyPost_ret (results_none rfl _ _ _) rfl ?_
 exact ⟨rfl,rfl⟩
set_option maxRecDepth 100000 in
set_option maxHeartbeats 1600000 in
theorem lock_free (a:Addr) (w:World) (hc:w.cell? a=some (.int .i32 0)) (hz:w.frozen? a=false):
  Calls Tryz.prog 109 #[.pointer (some a)] w fun e w'=>e= .returned (.tuple #[])∧w'=w.setCell a (.int .i32 1):=by
 go_enter Tryz.func109,Tryz.ntmps109
 go_wp2_with (go_at_call 155;refine (ilock a _ hc hz).mono ?_;rintro e w' ⟨rfl,rfl⟩)
 go_end0
 exact ⟨rfl,rfl⟩
end Go.Proofs.YtfldplmgkeiimaaGreatDoor.LZ
