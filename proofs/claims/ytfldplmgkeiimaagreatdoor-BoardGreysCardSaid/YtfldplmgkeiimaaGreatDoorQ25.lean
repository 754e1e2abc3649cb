/-
  Several texts of this proof in one: Gu.
-/
import Derived.Test.YtfldplmgkeiimaaGreatDoorQ24
set_option linter.unusedVariables false
set_option linter.unusedSimpArgs false
namespace Go.Proofs.YtfldplmgkeiimaaGreatDoor.GW
open Go.RowKit Go.Proofs.YtfldplmgkeiimaaGreatDoor.Base Go.Proofs.YtfldplmgkeiimaaGreatDoor.Dp Go.Proofs.YtfldplmgkeiimaaGreatDoor.DeciW Go.Proofs.YtfldplmgkeiimaaGreatDoor.Mem Go.Proofs.YtfldplmgkeiimaaGreatDoor.RdW Go.Proofs.YtfldplmgkeiimaaGreatDoor.Gp
theorem cutB_lt {c:UInt8} {l:List UInt8} (h:(cutB c l).2.2=true):(cutB c l).2.1.length < l.length:=by
 unfold cutB at h⊢
 split
 ·rename_i hk
  rw [List.length_drop];omega
 ·rename_i hk
  rw [if_neg hk] at h
  exact absurd h Bool.false_ne_true
def boolN:Value→Nat
 | .bool true=>1
 | _=>0
theorem info_int:(Tryz.prog.info? 2).map (fun i=>(i.zero,i.size,i.bytes))=some (some (.int .i64 0),1,8):=by kernel_rfl
def intVs (l:List Int):List Value:=l.map fun v=> .int .i64 v
structure AP (w:World) (b:Nat) (c:C) (nv:Value) (acc:List Int) (W:World):Prop where
 gt:w.heap.size < b
 r:W.heap[w.heap.size]?=some zCm
 p:W.heap[b]?=some (cmObj c 0 nv nils)
 row:W.ownsRow w.heap.size 2 1 nv acc.length (intVs acc)
 bel:Below w.heap.size w W
theorem AP.below {w W W':World} {b:Nat} {c:C} {nv:Value} {acc:List Int} (h:AP w b c nv acc W) (hb:Below W.heap.size W W'):AP w b c nv acc W':=
 ⟨h.gt,one_below h.r hb,one_below h.p hb,row_below h.row hb,h.bel.trans (hb.mono h.bel.size)⟩
theorem AP.push {w W X w1:World} {b:Nat} {c:C} {nv v':Value} {acc:List Int} {v:Int} (h:AP w b c nv acc W) (hX:Below W.heap.size W X) (hg:X.grownBy w1 nv.ownBlock) (ho:w1.ownsRow w.heap.size 2 1 v' (acc.length+1) (intVs acc++ [.int .i64 v])):
  AP w b c v' (acc++ [v]) (w1.setCell ⟨b,10,none⟩ v')∧w1.heap[b]?=some (cmObj c 0 nv nils):=by
 have h1:=h.below hX
 have lt:∀{k:Nat} {o:Obj},X.heap[k]?=some o→k < X.heap.size:=fun hk=>(Array.getElem?_eq_some_iff.1 hk).1
 have hr:w1.heap[w.heap.size]?=some zCm:=(hg.block _ (lt h1.r) (Ne.symm (own_ne h1.row h1.r (by decide)))).trans h1.r
 have hp:w1.heap[b]?=some (cmObj c 0 nv nils):=(hg.block _ (lt h1.p) (Ne.symm (own_ne h1.row h1.p (by decide)))).trans h1.p
 refine ⟨⟨h.gt,?_,?_,?_,?_⟩,hp⟩
 ·exact (Below.heap_setCell _ _ _ _ (by show w.heap.size≠b;have:=h.gt;omega)).trans hr
 ·rw [heap_here hp];rfl
 ·rw [show (acc++ [v]).length=acc.length+1 by simp,show intVs (acc++ [v])=intVs acc++ [.int .i64 v] by simp [intVs]]
  exact row_set ho hp (by decide) _
 ·exact ((h1.bel.grown hg h1.bel.size (fun k hk=>(h1.row.lt _ hk).1))).setCell (Nat.le_of_lt h.gt) _
theorem AP.nums {w W:World} {b:Nat} {c:C} {acc:List Int} {p:Option Addr} {cap:Nat} (h:AP w b c (.slice p acc.length cap) acc W):NumsIn w.heap.size W p acc:=by
 intro hl
 rcases h.row.2 with ⟨_,h2⟩|⟨g,c2,cur,h1,h2,h3,h4,h5,h6,h7⟩
 ·exact absurd h2 (by omega)
 ·injection h1 with e1 _ _
  refine ⟨g,0,cur,e1,h2,h3,fun i hi=>?_⟩
  have h8:(cur.toList.take (acc.length *1))[i]?=(intVs acc)[i]?:=by rw [h7]
  rw [List.getElem?_take_of_lt (by omega),Array.getElem?_toList] at h8
  rw [Nat.zero_add,h8,intVs,List.getElem?_map,List.getElem?_eq_getElem hi]
  rfl
def aperK (k:Nat) (t:List UInt8):Option (List Int)→Option C
 | none=>none
 | some l=>some {kc 10 with n:=k,t:=t,nums:=l}
theorem numsV_succ (f:Nat) (s:List UInt8) (acc:List Int):numsV (f+1) s acc=match dec (cutB 88 s).1 with
 | none=>none
 | some v=>if (cutB 88 s).2.2=true then numsV f (cutB 88 s).2.1 (acc++ [v]) else some (acc++ [v]):=rfl
theorem aperV_yes {T:List UInt8} {k:Nat} (hc:codeV (T.take (nd T))=some k) (hn:nameV (cutB 44 (T.drop (nd T))).1=true):
  aperV (68 :: T)=aperK k (cutB 44 (T.drop (nd T))).1 (if (cutB 44 (T.drop (nd T))).2.2=true then numsV ((T.drop (nd T)).length+1) (cutB 44 (T.drop (nd T))).2.1 [] else some []):=by
 unfold aperV aperV.countA
 rw [if_neg (by simp)]
 simp only [List.drop_succ_cons,List.drop_zero,hc]
 rw [if_neg (by rw [hn];decide)]
 cases hb:(cutB 44 (T.drop (nd T))).2.2 with
 | false=>rfl
 | true=>
  rw [if_neg (by decide),if_pos rfl]
  unfold aperK
  split <;> rename_i h1 <;> rw [h1]
theorem aperV_name {T:List UInt8} {k:Nat} (hc:codeV (T.take (nd T))=some k) (hn:nameV (cutB 44 (T.drop (nd T))).1=false):aperV (68 :: T)=none:=by
 unfold aperV aperV.countA
 rw [if_neg (by simp)]
 simp only [List.drop_succ_cons,List.drop_zero,hc]
 rw [if_pos hn]
theorem aperV_code {T:List UInt8} (hc:codeV (T.take (nd T))=none):aperV (68 :: T)=none:=by
 unfold aperV aperV.countA
 rw [if_neg (by simp)]
 simp only [List.drop_succ_cons,List.drop_zero,hc]
theorem cmSet_nums' {B:Nat} {w:World} {b:Nat} {cs:Array Value} {t:TypeId} {p:Option Addr} {l:List Int} (h:NumsIn B w p l) (hb:w.heap[b]?=some (.cells cs t)) (ht:2≠t) (c:C) (a:Int) (nv bv:Value):NumsIn B (cmSet w b c a nv bv) p l:=by
 intro hl
 obtain ⟨d,o,cs2,rfl,hB,hh,hc⟩:=h hl
 have hd:d≠b:=by
  intro e
  rw [e,hb] at hh
  injection hh with hh
  injection hh with _ e2 _
  exact ht e2.symm
 exact ⟨d,o,cs2,rfl,hB,(cmSet_heap w hd c a nv bv).trans hh,hc⟩
set_option maxRecDepth 100000 in
set_option maxHeartbeats 12800000 in
theorem aper_c (S:ByteArray) (hs:S.size≤1000000000) (o:Option C) (ho:Hid (aperV S.data.toList=o)) (w:World):
  Calls Tryz.prog 133 #[.string S] w (CmdOut o w):=by
 have HS:=Lib.hid hs
 have hl:=ho.out
 clear ho hs
 have HZ:Hid (ZAt w (w.alloc (.cells #[.int .i64 0, .int .i64 0, .int .i64 0, .int .i64 0, .bool false, .string ⟨#[]⟩, .string ⟨#[]⟩, .string ⟨#[]⟩, .string ⟨#[]⟩, .string ⟨#[]⟩, .slice none 0 0, .slice none 0 0] 104))):=z_new w
 go_enter Tryz.func133,Tryz.ntmps133
 go_upto_region 1 with fail
 generalize w.alloc (.cells #[.int .i64 0, .int .i64 0, .int .i64 0, .int .i64 0, .bool false, .string ⟨#[]⟩, .string ⟨#[]⟩, .string ⟨#[]⟩, .string ⟨#[]⟩, .string ⟨#[]⟩, .slice none 0 0, .slice none 0 0] 104)=W at HZ⊢
 by_cases hD:S.data.toList.headD 0≠68
 ·unfold aperV at hl
  rw [if_pos hD] at hl
  have HQ:Hid (o=none):=hl.symm
  have HP:Hid (∀r,S.data.toList≠(⟨#[68]⟩:ByteArray).data.toList++r):=fun r hr=>hD (by rw [hr];rfl)
  clear hl hD
  go_wp2_with fail
  with_reducible refine (pre_no_c _ _ HP _).mono ?_
  rintro e w2 ⟨rfl,rfl⟩
  obtain ⟨⟨c0,c1,c2,c3,c4,c5,c6,c7,c8,c9,c10,c11⟩,f0,f1,f2,f3,f4,f5,f6,f7,f8,f9,f10,f11⟩:=cm_at HZ.out.a
  have HF:=Lib.hid (cm_fin HZ.out.b HZ.out.a Gp.c0 0 nils nils)
  go_wp2_with fail
  refine bodyPost_ret (w:=cmSet W w.heap.size Gp.c0 0 nils nils) (v:= .tuple #[cmVal Gp.c0 0 nils nils, .bool false]) ?_ rfl ⟨HF.out.2,Gp.c0,none,0,?_,NumsIn.nil _ _ _,rfl,?_⟩
  ·clear c0 c1 c2 c3 c4 c5 c6 c7 c8 c9 c10 c11 f0 f1 f2 f3 f4 f5 f6 f7 f8 f9 f10 f11
   generalize cmSet W w.heap.size Gp.c0 0 nils nils=WE at HF⊢
   obtain ⟨⟨c0,c1,c2,c3,c4,c5,c6,c7,c8,c9,c10,c11⟩,_⟩:=cm_at HF.out.1
   simp [results,Tryz.results133,go_sem,c0,c1,c2,c3,c4,c5,c6,c7,c8,c9,c10,c11] <;> rfl
  ·rw [HQ.out];rfl
  ·rw [HQ.out];intro e he;cases he
 ·obtain ⟨r,hr⟩:∃r,S.data.toList=68 :: r:=by
   cases hS:S.data.toList with
   | nil=>exact absurd (by rw [hS];decide) hD
   | cons a r=>exact ⟨r,by rw [hS] at hD;rw [show a=68 from Decidable.of_not_not hD]⟩
  obtain ⟨T,hT⟩:=str_ex r
  rw [←hT] at hr
  rw [hr] at hl
  have HP:Hid (S.data.toList=(⟨#[68]⟩:ByteArray).data.toList++T.data.toList):=hr
  have hTs:T.size≤1000000000:=by
   have h1:=congrArg List.length hr
   rw [List.length_cons,len_list,len_list] at h1
   have:=HS.out
   omega
  obtain ⟨n,hn⟩:∃n,nd T.data.toList=n:=⟨_,rfl⟩
  have HND:=Lib.hid hn
  have hnT:n≤T.size:=by
   have h1:=nd_le T.data.toList
   rw [hn,len_list] at h1
   exact h1
  have HTS:=Lib.hid hTs
  obtain ⟨o1,ho1⟩:∃o,codeV (T.extract 0 n).data.toList=o:=⟨_,rfl⟩
  have HO1:=Lib.hid ho1
  have hUs:Hid ((T.extract 0 n).size≤maxLen):=by
   show _≤_
   rw [←len_list,tak_list,List.length_take,len_list]
   unfold maxLen;omega
  have hVs:Hid ((T.extract n T.size).size≤1000000000):=by
   show _≤_
   rw [←len_list,ext_list,List.length_drop,len_list]
   omega
  rw [tak_list,←hn] at ho1
  clear hr hT hD hTs
  go_wp2_with fail
  with_reducible refine (pre_yes_c _ _ _ HP _).mono ?_
  rintro e w2 ⟨rfl,rfl⟩
  rw [bs_eta]
  go_wp2_with fail
  with_reducible refine (digs_c T (Nat.le_trans HTS.out (by decide)) n HND _).mono ?_
  rintro e w2 ⟨rfl,rfl⟩
  go_wp2_with fail
  with_reducible refine (code_c (T.extract 0 n) hUs.out o1 HO1 _).mono ?_
  rintro e w3 ⟨hc,rfl⟩
  cases o1 with
  | none=>
   have HQ:Hid (o=none):=by show _=_;rw [←hl,aperV_code ho1]
   obtain rfl:e= .returned (.tuple #[.int .i64 ((0:Nat):Int), .bool false]):=hc
   clear hl ho1 hn
   obtain ⟨⟨c0,c1,c2,c3,c4,c5,c6,c7,c8,c9,c10,c11⟩,f0,f1,f2,f3,f4,f5,f6,f7,f8,f9,f10,f11⟩:=cm_at HZ.out.a
   have HF:=Lib.hid (cm_fin HZ.out.b HZ.out.a Gp.c0 0 nils nils)
   go_wp2_with fail
   refine bodyPost_ret (w:=cmSet W w.heap.size Gp.c0 0 nils nils) (v:= .tuple #[cmVal Gp.c0 0 nils nils, .bool false]) ?_ rfl ⟨HF.out.2,Gp.c0,none,0,?_,NumsIn.nil _ _ _,rfl,?_⟩
   ·clear c0 c1 c2 c3 c4 c5 c6 c7 c8 c9 c10 c11 f0 f1 f2 f3 f4 f5 f6 f7 f8 f9 f10 f11
    generalize cmSet W w.heap.size Gp.c0 0 nils nils=WE at HF⊢
    obtain ⟨⟨c0,c1,c2,c3,c4,c5,c6,c7,c8,c9,c10,c11⟩,_⟩:=cm_at HF.out.1
    simp [results,Tryz.results133,go_sem,c0,c1,c2,c3,c4,c5,c6,c7,c8,c9,c10,c11] <;> rfl
   ·rw [HQ.out];rfl
   ·rw [HQ.out];intro e he;cases he
  | some k=>
   obtain rfl:e= .returned (.tuple #[.int .i64 ((k:Nat):Int), .bool true]):=hc
   obtain ⟨A1,hA1⟩:=str_ex (cutB 44 (T.extract n T.size).data.toList).1
   obtain ⟨R1,hR1⟩:=str_ex (cutB 44 (T.extract n T.size).data.toList).2.1
   obtain ⟨b1,hb1⟩:∃b,(cutB 44 (T.extract n T.size).data.toList).2.2=b:=⟨_,rfl⟩
   have H1:Hid (cutB 44 (T.extract n T.size).data.toList=(A1.data.toList,R1.data.toList,b1)):=by show _=_;rw [hA1,hR1,←hb1]
   have l1:A1.size≤1000000000∧R1.size≤(T.extract n T.size).size:=by
    have h1:=cutB_len1 44 (T.extract n T.size).data.toList
    have h2:=cutB_len2 44 (T.extract n T.size).data.toList
    rw [←hA1,len_list,len_list] at h1
    rw [←hR1,len_list,len_list] at h2
    have:=hVs.out
    omega
   obtain ⟨bn,hbn⟩:∃b,nameV A1.data.toList=b:=⟨_,rfl⟩
   have HBN:=Lib.hid hbn
   have HL1:Hid (A1.size≤1000000000∧R1.size≤(T.extract n T.size).size):=l1
   have hdr:T.data.toList.drop (nd T.data.toList)=(T.extract n T.size).data.toList:=by rw [ext_list,hn]
   have HX:Hid (nameV A1.data.toList=true→aperK k A1.data.toList (if b1=true then numsV ((T.extract n T.size).size+1) R1.data.toList [] else some [])=o):=by
    intro h
    rw [←hl,aperV_yes ho1 (by rw [hdr,←hA1];exact h),hdr,←hA1,hb1,len_list,hR1]
   have HY:Hid (nameV A1.data.toList=false→o=none):=by
    intro h
    rw [←hl,aperV_name ho1 (by rw [hdr,←hA1];exact h)]
   clear hl ho1 hn hA1 hR1 hb1 l1 hbn hdr
   go_wp2_with fail
   with_reducible refine (cut_c (T.extract n T.size) hVs.out 44 A1 R1 b1 H1 _).mono ?_
   rintro e w3 ⟨rfl,hd⟩
   have HZ1:=Lib.hid (HZ.out.below (drew_below hd))
   clear hd HZ
   have HZ:=HZ1
   clear HZ1
   go_wp2_with fail
   with_reducible refine (name_c A1 (Nat.le_trans HL1.out.1 (by decide)) bn HBN _).mono ?_
   rintro e w4 ⟨rfl,rfl⟩
   cases bn with
   | false=>
    have HQ:Hid (o=none):=HY.out HBN.out
    clear HX HY
    obtain ⟨⟨c0,c1,c2,c3,c4,c5,c6,c7,c8,c9,c10,c11⟩,f0,f1,f2,f3,f4,f5,f6,f7,f8,f9,f10,f11⟩:=cm_at HZ.out.a
    have HF:=Lib.hid (cm_fin HZ.out.b HZ.out.a Gp.c0 0 nils nils)
    go_wp2_with fail
    refine bodyPost_ret (w:=cmSet w3 w.heap.size Gp.c0 0 nils nils) (v:= .tuple #[cmVal Gp.c0 0 nils nils, .bool false]) ?_ rfl ⟨HF.out.2,Gp.c0,none,0,?_,NumsIn.nil _ _ _,rfl,?_⟩
    ·clear c0 c1 c2 c3 c4 c5 c6 c7 c8 c9 c10 c11 f0 f1 f2 f3 f4 f5 f6 f7 f8 f9 f10 f11
     generalize cmSet w3 w.heap.size Gp.c0 0 nils nils=WE at HF⊢
     obtain ⟨⟨c0,c1,c2,c3,c4,c5,c6,c7,c8,c9,c10,c11⟩,_⟩:=cm_at HF.out.1
     simp [results,Tryz.results133,go_sem,c0,c1,c2,c3,c4,c5,c6,c7,c8,c9,c10,c11] <;> rfl
    ·rw [HQ.out];rfl
    ·rw [HQ.out];intro e he;cases he
   | true=>
    have HR:=Lib.hid (HX.out HBN.out)
    clear HX HY
    have HA:Hid (AP w w3.heap.size {kc 10 with n:=(k:Int),t:=A1.data.toList} nils [] (w3.alloc (.cells #[.int .i64 0, .int .i64 10, .int .i64 (k:Int), .int .i64 0, .bool false, .string A1, .string ⟨#[]⟩, .string ⟨#[]⟩, .string ⟨#[]⟩, .string ⟨#[]⟩, .slice none 0 0, .slice none 0 0] 104))):=⟨(Array.getElem?_eq_some_iff.1 HZ.out.a).1,one_below HZ.out.a ((Below.refl _ _).alloc (Nat.le_refl _) _),heap_alloc_new w3 _,World.ownsRow_nil _ _ _ _,HZ.out.b.alloc HZ.out.b.size _⟩
    have HV:Hid ((T.extract n T.size).size≤1000000000):=hVs
    go_upto_region 12 with fail
    generalize w3.alloc (.cells #[.int .i64 0, .int .i64 10, .int .i64 (k:Int), .int .i64 0, .bool false, .string A1, .string ⟨#[]⟩, .string ⟨#[]⟩, .string ⟨#[]⟩, .string ⟨#[]⟩, .slice none 0 0, .slice none 0 0] 104)=W4 at HA⊢
    obtain ⟨bc,hbc⟩:∃bc,w3.heap.size=bc:=⟨_,rfl⟩
    rw [hbc] at HA⊢
    clear HZ hbc hUs
    go_loopw [9,10] (fun l s wr=>∃(f:Nat) (LS:ByteArray) (sb:Bool) (acc:List Int) (nv:Value),l= .string LS∧s= .bool sb∧Hid (AP w bc {kc 10 with n:=(k:Int),t:=A1.data.toList} nv acc wr)∧Hid (LS.size≤1000000000)∧Hid (sb=true→LS.size < f)∧Hid (acc.length+f≤1000000010)∧Hid (aperK k A1.data.toList (if sb=true then numsV f LS.data.toList acc else some acc)=o)) (fun l s _=>boolN s *(Lib.strSize l+1))
    case atStart=>exact ⟨_,R1,b1, [],nils,rfl,rfl,HA,Nat.le_trans HL1.out.2 HV.out,fun _=>Nat.lt_succ_of_le HL1.out.2,(by have:=HV.out;show 0+_≤_;omega),HR⟩
    case round=>
     obtain ⟨f,LS,sb,acc,nv,rfl,rfl,HA,HLS,HF1,HF2,HR⟩:=hrel
     cases sb with
     | false=>
      have HQ:Hid (o=some {kc 10 with n:=(k:Int),t:=A1.data.toList,nums:=acc}):=HR.out.symm
      obtain ⟨p,cap,rfl⟩:=row_form HA.out.row
      obtain ⟨⟨c0,c1,c2,c3,c4,c5,c6,c7,c8,c9,c10,c11⟩,f0,f1,f2,f3,f4,f5,f6,f7,f8,f9,f10,f11⟩:=cm_at HA.out.r
      obtain ⟨⟨d0,d1,d2,d3,d4,d5,d6,d7,d8,d9,d10,d11⟩,g0,g1,g2,g3,g4,g5,g6,g7,g8,g9,g10,g11⟩:=cm_at HA.out.p
      have HF:=Lib.hid (cm_fin HA.out.bel HA.out.r {kc 10 with n:=(k:Int),t:=A1.data.toList,nums:=acc} 0 (.slice p acc.length cap) nils)
      have HNN:=Lib.hid (cmSet_nums' HA.out.nums HA.out.r (by decide) {kc 10 with n:=(k:Int),t:=A1.data.toList,nums:=acc} 0 (.slice p acc.length cap) nils)
      go_wp2_with fail
      refine bodyPost_ret (w:=cmSet wr w.heap.size {kc 10 with n:=(k:Int),t:=A1.data.toList,nums:=acc} 0 (.slice p acc.length cap) nils) (v:= .tuple #[cmVal {kc 10 with n:=(k:Int),t:=A1.data.toList,nums:=acc} 0 (.slice p acc.length cap) nils, .bool true]) ?_ rfl ⟨HF.out.2,{kc 10 with n:=(k:Int),t:=A1.data.toList,nums:=acc},p,cap,?_,HNN.out,rfl,?_⟩
      ·clear c0 c1 c2 c3 c4 c5 c6 c7 c8 c9 c10 c11 f0 f1 f2 f3 f4 f5 f6 f7 f8 f9 f10 f11 d0 d1 d2 d3 d4 d5 d6 d7 d8 d9 d10 d11 g0 g1 g2 g3 g4 g5 g6 g7 g8 g9 g10 g11
       generalize cmSet wr w.heap.size {kc 10 with n:=(k:Int),t:=A1.data.toList,nums:=acc} 0 (.slice p acc.length cap) nils=WE at HF⊢
       obtain ⟨⟨c0,c1,c2,c3,c4,c5,c6,c7,c8,c9,c10,c11⟩,_⟩:=cm_at HF.out.1
       simp [results,Tryz.results133,go_sem,c0,c1,c2,c3,c4,c5,c6,c7,c8,c9,c10,c11] <;> rfl
      ·rw [HQ.out];rfl
      ·rw [HQ.out];intro e he;exact (Option.some.inj he).symm
     | true=>
      obtain ⟨g,rfl⟩:∃g,f=g+1:=⟨f - 1,by have:=HF1.out rfl;omega⟩
      have HG:Hid (LS.size < g+1):=HF1.out rfl
      clear HF1
      obtain ⟨A2,hA2⟩:=str_ex (cutB 88 LS.data.toList).1
      obtain ⟨R2,hR2⟩:=str_ex (cutB 88 LS.data.toList).2.1
      obtain ⟨b2,hb2⟩:∃b,(cutB 88 LS.data.toList).2.2=b:=⟨_,rfl⟩
      have H2:Hid (cutB 88 LS.data.toList=(A2.data.toList,R2.data.toList,b2)):=by show _=_;rw [hA2,hR2,←hb2]
      have HL2:Hid (A2.size≤LS.size∧R2.size≤LS.size∧(b2=true→R2.size < LS.size)):=by
       have h1:=cutB_len1 88 LS.data.toList
       have h2:=cutB_len2 88 LS.data.toList
       have h3:=fun h=>cutB_lt (c:=88) (l:=LS.data.toList) h
       rw [←hA2,len_list,len_list] at h1
       rw [←hR2,len_list,len_list] at h2
       rw [←hR2,len_list,len_list,hb2] at h3
       exact ⟨h1,h2,h3⟩
      obtain ⟨o2,ho2⟩:∃o,dec A2.data.toList=o:=⟨_,rfl⟩
      have HO2:Hid ((dec A2.data.toList).getD 0=o2.getD 0∧(dec A2.data.toList).isSome=o2.isSome):=by show _∧_;rw [ho2];exact ⟨rfl,rfl⟩
      have hr:=HR.out
      rw [if_pos rfl,numsV_succ,←hA2,ho2,hb2,←hR2] at hr
      have HR2:=Lib.hid hr
      clear hA2 hR2 hb2 ho2 hr HR
      go_wp2_with fail
      with_reducible refine (cut_c LS HLS.out 88 A2 R2 b2 H2 _).mono ?_
      rintro e w5 ⟨rfl,hd⟩
      have HA2:=Lib.hid (HA.out.below (drew_below hd))
      clear hd HA
      have HA:=HA2
      clear HA2
      go_wp2_with fail
      with_reducible refine (parse_at A2 _ _ HO2 (Nat.le_trans (Nat.le_trans HL2.out.1 HLS.out) (by decide)) _).mono ?_
      rintro e w6 ⟨rfl,rfl⟩
      cases o2 with
      | none=>
       have HQ:Hid (o=none):=HR2.out.symm
       have HZ:Hid (ZAt w w5):=⟨HA.out.r,HA.out.bel⟩
       clear HR2
       simp only [Option.isSome_none,Option.getD_none]
       obtain ⟨⟨c0,c1,c2,c3,c4,c5,c6,c7,c8,c9,c10,c11⟩,f0,f1,f2,f3,f4,f5,f6,f7,f8,f9,f10,f11⟩:=cm_at HZ.out.a
       have HF:=Lib.hid (cm_fin HZ.out.b HZ.out.a Gp.c0 0 nils nils)
       go_wp2_with fail
       refine bodyPost_ret (w:=cmSet w5 w.heap.size Gp.c0 0 nils nils) (v:= .tuple #[cmVal Gp.c0 0 nils nils, .bool false]) ?_ rfl ⟨HF.out.2,Gp.c0,none,0,?_,NumsIn.nil _ _ _,rfl,?_⟩
       ·clear c0 c1 c2 c3 c4 c5 c6 c7 c8 c9 c10 c11 f0 f1 f2 f3 f4 f5 f6 f7 f8 f9 f10 f11
        generalize cmSet w5 w.heap.size Gp.c0 0 nils nils=WE at HF⊢
        obtain ⟨⟨c0,c1,c2,c3,c4,c5,c6,c7,c8,c9,c10,c11⟩,_⟩:=cm_at HF.out.1
        simp [results,Tryz.results133,go_sem,c0,c1,c2,c3,c4,c5,c6,c7,c8,c9,c10,c11] <;> rfl
       ·rw [HQ.out];rfl
       ·rw [HQ.out];intro e he;cases he
      | some v=>
       simp only [Option.isSome_some,Option.getD_some]
       have HR3:Hid (aperK k A1.data.toList (if b2=true then numsV g R2.data.toList (acc++ [v]) else some (acc++ [v]))=o):=HR2.out
       clear HR2
       obtain ⟨p,cap,rfl⟩:=row_form HA.out.row
       obtain ⟨⟨d0,d1,d2,d3,d4,d5,d6,d7,d8,d9,d10,d11⟩,g0,g1,g2,g3,g4,g5,g6,g7,g8,g9,g10,g11⟩:=cm_at HA.out.p
       have hgb:acc.length≤1000000010:=by have:=HF2.out;omega
       obtain ⟨i0,hi0,hz0,hz1,hz2⟩:=info_parts info_int
       have HI:=Lib.hid (And.intro hi0 (And.intro hz0 (And.intro hz1 hz2)))
       clear hi0 hz0 hz1 hz2
       go_wp2_with (at_builtin;refine wpList_append_own _ rfl _ _ _ rfl w.heap.size 2 i0 (.int .i64 0) 1 8 Tryz.underlying22 HI.out.1 HI.out.2.1 HI.out.2.2.1 HI.out.2.2.2 rfl (by omega) (.slice p acc.length cap) acc.length (intVs acc) (by rfl) (HA.out.row.alloc _) ⟨(w5).heap.size,0,none⟩ 1 1 [.int .i64 v] (by rfl) rfl (World.news_of_block (heap_alloc_new (w5) _)) (by simp [Value.oneCell']) (by unfold maxLen;omega) (by omega) (by have:=HA.out.bel.size;simp <;> omega) ?_;intro v' w' hown' hgrow' hnn';obtain ⟨g',cap',rfl,_,_⟩:=hown'.form (by omega);obtain ⟨ha',hb'⟩:=HA.out.push (v:=v) (v':= .slice (some ⟨g',0,none⟩) (acc.length+1) cap') ((Below.refl _ _).alloc (Nat.le_refl _) _) hgrow' hown';have HAA:=Lib.hid ha';have c1':w'.cell? ⟨bc,10,none⟩=some _:=cell_of_row w' bc 10 _ _ (0,0) hb';have f1':w'.frozen? ⟨bc,10,none⟩=false:=(by simp [World.frozen?,hb']);clear ha' hb';clear hown' hgrow' hnn')
       clear d0 d1 d2 d3 d4 d5 d6 d7 d8 d9 d10 d11 g0 g1 g2 g3 g4 g5 g6 g7 g8 g9 g10 g11
       go_round
       case rel=>exact ⟨g,R2,b2,acc++ [v],_,rfl,rfl,HAA,Nat.le_trans HL2.out.2.1 HLS.out,(fun h=>by have:=HG.out;have:=HL2.out.2.2 h;omega),(by have:=HF2.out;show (acc++ [v]).length+g≤_;rw [List.length_append];simp only [List.length_singleton];omega),HR3⟩
       case measure=>
        show boolN (.bool b2) *(R2.size+1)< 1 *(LS.size+1)
        have:=HL2.out.2.2
        cases b2 with
        | false=>show 0 *(R2.size+1)< 1 *(LS.size+1);omega
        | true=>show 1 *(R2.size+1)< 1 *(LS.size+1);have:=this rfl;omega
end Go.Proofs.YtfldplmgkeiimaaGreatDoor.GW
