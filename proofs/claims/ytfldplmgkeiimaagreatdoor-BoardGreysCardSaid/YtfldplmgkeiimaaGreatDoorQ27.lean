/-
  Several texts of this proof in one: Gw, Gx.
-/
import Derived.Test.YtfldplmgkeiimaaGreatDoorQ26
import Derived.Test.YtfldplmgkeiimaaGreatDoorShelf
import Derived.Lib.ConvBytes
set_option linter.unusedVariables false
set_option linter.unusedSimpArgs false
namespace Go.Proofs.YtfldplmgkeiimaaGreatDoor.GW
open Go.RowKit Go.Proofs.YtfldplmgkeiimaaGreatDoor.Base Go.Proofs.YtfldplmgkeiimaaGreatDoor.Dp Go.Proofs.YtfldplmgkeiimaaGreatDoor.DeciW Go.Proofs.YtfldplmgkeiimaaGreatDoor.Mem Go.Proofs.YtfldplmgkeiimaaGreatDoor.RdW Go.Proofs.YtfldplmgkeiimaaGreatDoor.Gp
def NbOut:Option (ByteArray × ByteArray)→Ending→Prop
 | none,e=>e= .returned (.tuple #[.string ⟨#[]⟩, .string ⟨#[]⟩, .bool false])
 | some x,e=>e= .returned (.tuple #[.string x.1, .string x.2, .bool true])
theorem nb_ex (s:List UInt8):∃o:Option (ByteArray × ByteArray),numberV s=o.map fun x=>(x.1.data.toList,x.2.data.toList):=by
 unfold numberV
 split
 ·exact ⟨none,rfl⟩
 ·exact ⟨some (⟨(s.take (nd s)).toArray⟩,⟨(s.drop (nd s)).toArray⟩),rfl⟩
set_option maxRecDepth 100000 in
set_option maxHeartbeats 3200000 in
theorem number_c (S:ByteArray) (hs:S.size≤1000000000) (o:Option (ByteArray × ByteArray)) (ho:Hid (numberV S.data.toList=o.map fun x=>(x.1.data.toList,x.2.data.toList))) (w:World):
  Calls Tryz.prog 220 #[.string S] w fun e w'=>NbOut o e∧Drew w w':=by
 have hl:=ho.out
 unfold numberV at hl
 obtain ⟨n,hn⟩:∃n,nd S.data.toList=n:=⟨_,rfl⟩
 have HND:=Lib.hid hn
 have HO1:Hid (n=0→o=none):=by
  intro h
  rw [if_pos (.inl (by rw [hn];exact h))] at hl
  cases o with
  | none=>rfl
  | some x=>cases hl
 have HO2:Hid (∀h:0 < S.size,S[0]=48→o=none):=by
  intro hp h
  rw [if_pos (.inr (by rw [head_of S hp];exact h))] at hl
  cases o with
  | none=>rfl
  | some x=>cases hl
 have HO3:Hid (n≠0→∀h:0 < S.size,S[0]≠48→o=some (S.extract 0 n,S.extract n S.size)):=by
  intro h0 hp h
  rw [if_neg (by rintro (h1 | h1);exact h0 (by rw [←hn];exact h1);exact h (by rw [head_of S hp] at h1;exact h1))] at hl
  cases o with
  | none=>cases hl
  | some x=>
   obtain ⟨a,b⟩:=x
   have h2:=Option.some.inj hl
   simp only [Prod.mk.injEq] at h2
   have ha:a=S.extract 0 n:=str_eq (by rw [tak_list,←hn];exact h2.1.symm)
   have hb:b=S.extract n S.size:=str_eq (by rw [ext_list,←hn];exact h2.2.symm)
   rw [ha,hb]
 clear hl hn ho
 go_enter Tryz.func220,Tryz.ntmps220
 go_wp2_with fail
 go_loop [5] (fun i=>∃k:Nat,Hid (k≤nd S.data.toList)∧i= .int .i64 (k:Int)) (fun i=>S.size -(intOf i).toNat)
 case atStart=>exact ⟨0,Nat.zero_le _,rfl⟩
 case round=>
  obtain ⟨k,HK,rfl⟩:=hrel
  have hkl:k≤S.size:=by have h1:=nd_le S.data.toList;have:=HK.out;rw [len_list] at h1;omega
  by_cases hlt:k < S.size
  ·have hkl':k < S.data.toList.length:=by rw [len_list];exact hlt
   have hlti:(k:Int)<(S.size:Int):=by omega
   by_cases hd:48≤S[k].toNat∧S[k].toNat≤57
   ·have HN:Hid (k+1≤nd S.data.toList):=nd_lt HK.out hkl' (by rw [getl S k hlt];exact (isD_iff _).2 hd)
    obtain ⟨hd1,hd2⟩:=hd
    go_wp2_with fail
    go_round
    case rel=>exact ⟨k+1,HN,by go_num⟩
    case measure=>simp [intOf];omega
   ·have HN:Hid (k=n):=by
     show _=_
     rw [←HND.out]
     exact (nd_stop HK.out hkl' (by rw [getl S k hlt];exact (isD_false _).2 (by omega))).symm
    by_cases h1:48≤S[k].toNat
    ·have h2:¬S[k].toNat≤57:=fun h=>hd ⟨h1,h⟩
     obtain rfl:k=n:=HN.out
     clear HN HK
     by_cases h0:k=0
     ·have HQ:=Lib.hid (HO1.out h0)
      have k0:((k:Int)==0)=true:=by simp;omega
      clear h0
      go_wp2_with fail
      go_ret3
      rw [HQ.out]
      exact ⟨rfl,0,rfl⟩
     ·have k0:((k:Int)==0)=false:=by simp;omega
      have hp:0 < S.size:=by omega
      obtain ⟨c,hc⟩:∃c,S[0]=c:=⟨_,rfl⟩
      by_cases h48:c=48
      ·have HQ:=Lib.hid (HO2.out hp (hc.trans h48))
       subst h48
       have x0:((48:UInt8).toNat:Int)=48:=rfl
       clear h0
       go_wp2_with fail
       go_ret3
       rw [HQ.out]
       exact ⟨rfl,0,rfl⟩
      ·have HQ:=Lib.hid (HO3.out h0 hp (by rw [hc];exact h48))
       have x0:((c.toNat:Int)==48)=false:=byte_ne (k:=48) (by decide) h48
       clear h0 h48
       go_wp2_with fail
       go_region
       all_goals
        go_wp2_with fail
        go_ret3
        rw [HQ.out]
        exact ⟨rfl,1,rfl⟩
    ·skip
     obtain rfl:k=n:=HN.out
     clear HN HK
     by_cases h0:k=0
     ·have HQ:=Lib.hid (HO1.out h0)
      have k0:((k:Int)==0)=true:=by simp;omega
      clear h0
      go_wp2_with fail
      go_ret3
      rw [HQ.out]
      exact ⟨rfl,0,rfl⟩
     ·have k0:((k:Int)==0)=false:=by simp;omega
      have hp:0 < S.size:=by omega
      obtain ⟨c,hc⟩:∃c,S[0]=c:=⟨_,rfl⟩
      by_cases h48:c=48
      ·have HQ:=Lib.hid (HO2.out hp (hc.trans h48))
       subst h48
       have x0:((48:UInt8).toNat:Int)=48:=rfl
       clear h0
       go_wp2_with fail
       go_ret3
       rw [HQ.out]
       exact ⟨rfl,0,rfl⟩
      ·have HQ:=Lib.hid (HO3.out h0 hp (by rw [hc];exact h48))
       have x0:((c.toNat:Int)==48)=false:=byte_ne (k:=48) (by decide) h48
       clear h0 h48
       go_wp2_with fail
       go_region
       all_goals
        go_wp2_with fail
        go_ret3
        rw [HQ.out]
        exact ⟨rfl,1,rfl⟩
  ·have HN:Hid (k=n):=by
    show _=_
    rw [←HND.out]
    have h1:=nd_le S.data.toList
    have:=HK.out
    rw [len_list] at h1
    omega
   have hlti:¬((k:Int)<(S.size:Int)):=by omega
   obtain rfl:k=n:=HN.out
   clear HN HK
   by_cases h0:k=0
   ·have HQ:=Lib.hid (HO1.out h0)
    have k0:((k:Int)==0)=true:=by simp;omega
    clear h0
    go_wp2_with fail
    go_ret3
    rw [HQ.out]
    exact ⟨rfl,0,rfl⟩
   ·have k0:((k:Int)==0)=false:=by simp;omega
    have hp:0 < S.size:=by omega
    obtain ⟨c,hc⟩:∃c,S[0]=c:=⟨_,rfl⟩
    by_cases h48:c=48
    ·have HQ:=Lib.hid (HO2.out hp (hc.trans h48))
     subst h48
     have x0:((48:UInt8).toNat:Int)=48:=rfl
     clear h0
     go_wp2_with fail
     go_ret3
     rw [HQ.out]
     exact ⟨rfl,0,rfl⟩
    ·have HQ:=Lib.hid (HO3.out h0 hp (by rw [hc];exact h48))
     have x0:((c.toNat:Int)==48)=false:=byte_ne (k:=48) (by decide) h48
     clear h0 h48
     go_wp2_with fail
     go_region
     all_goals
      go_wp2_with fail
      go_ret3
      rw [HQ.out]
      exact ⟨rfl,1,rfl⟩
set_option maxRecDepth 100000 in
set_option maxHeartbeats 3200000 in
theorem primitive_c (S:ByteArray) (n:Int) (hn:Hid (primV S.data.toList=n)) (w:World):
  Calls Tryz.prog 223 #[.string S] w fun e w'=>e= .returned (.int .i64 n)∧w=w':=by
 have hl:=hn.out
 unfold primV at hl
 by_cases q1:S.data.toList= [49]
 ·rw [if_pos q1] at hl
  have e1:(S.toList== [49])=true:=by rw [str_is];exact decide_eq_true q1
  subst hl
  clear hn q1
  go_enter Tryz.func223,Tryz.ntmps223
  go_wp2_with fail
  go_ret
  exact ⟨rfl,rfl⟩
 ·rw [if_neg q1] at hl
  have e1:(S.toList== [49])=false:=by rw [str_is];exact decide_eq_false q1
  by_cases q2:S.data.toList= [52]
  ·rw [if_pos q2] at hl
   have e2:(S.toList== [52])=true:=by rw [str_is];exact decide_eq_true q2
   subst hl
   clear hn q1 q2
   go_enter Tryz.func223,Tryz.ntmps223
   go_wp2_with fail
   go_ret
   exact ⟨rfl,rfl⟩
  ·rw [if_neg q2] at hl
   have e2:(S.toList== [52])=false:=by rw [str_is];exact decide_eq_false q2
   by_cases q3:S.data.toList= [55]
   ·rw [if_pos q3] at hl
    have e3:(S.toList== [55])=true:=by rw [str_is];exact decide_eq_true q3
    subst hl
    clear hn q1 q2 q3
    go_enter Tryz.func223,Tryz.ntmps223
    go_wp2_with fail
    go_ret
    exact ⟨rfl,rfl⟩
   ·rw [if_neg q3] at hl
    have e3:(S.toList== [55])=false:=by rw [str_is];exact decide_eq_false q3
    by_cases q4:S.data.toList= [50,48]
    ·rw [if_pos q4] at hl
     have e4:(S.toList== [50,48])=true:=by rw [str_is];exact decide_eq_true q4
     subst hl
     clear hn q1 q2 q3 q4
     go_enter Tryz.func223,Tryz.ntmps223
     go_wp2_with fail
     go_ret
     exact ⟨rfl,rfl⟩
    ·rw [if_neg q4] at hl
     have e4:(S.toList== [50,48])=false:=by rw [str_is];exact decide_eq_false q4
     by_cases q5:S.data.toList= [50,49]
     ·rw [if_pos q5] at hl
      have e5:(S.toList== [50,49])=true:=by rw [str_is];exact decide_eq_true q5
      subst hl
      clear hn q1 q2 q3 q4 q5
      go_enter Tryz.func223,Tryz.ntmps223
      go_wp2_with fail
      go_ret
      exact ⟨rfl,rfl⟩
     ·rw [if_neg q5] at hl
      have e5:(S.toList== [50,49])=false:=by rw [str_is];exact decide_eq_false q5
      subst hl
      clear hn q1 q2 q3 q4 q5
      go_enter Tryz.func223,Tryz.ntmps223
      go_wp2_with fail
      go_ret
      exact ⟨rfl,rfl⟩
set_option maxRecDepth 100000 in
set_option maxHeartbeats 6400000 in
theorem fits_c (n:Int) (k:Nat) (p:Option Addr) (c:Nat) (b:Bool) (hn:n=1∨n=4∨n=7∨n=20∨n=21) (hk:k≤1100) (hb:Hid (fitsP n k=b)) (w:World):
  Calls Tryz.prog 224 #[.agg #[.int .i64 3, .int .i64 n, .string ⟨#[]⟩, .slice p k c]] w fun e w'=>e= .returned (.bool b)∧Below w.heap.size w w':=by
 have hx:Hid (b=fitsP n k):=hb.out.symm
 clear hb
 have HBB:∀o,Hid (Below w.heap.size w (w.alloc o)):=fun o=>(Below.refl _ _).alloc (Nat.le_refl _) _
 obtain rfl | rfl | rfl | rfl | rfl:=hn
 ·skip
  by_cases h0:k=4
  ·have k0:((k:Int)==4)=true:=by simp;omega
   go_enter Tryz.func224,Tryz.ntmps224
   go_wp2_with fail
   go_ret
   refine ⟨ret_b ?_,(HBB _).out⟩
   rw [hx.out]
   simp [fitsP, *]
  ·have k0:((k:Int)==4)=false:=by simp;omega
   by_cases h1:k=5
   ·have k1:((k:Int)==5)=true:=by simp;omega
    go_enter Tryz.func224,Tryz.ntmps224
    go_wp2_with fail
    go_ret
    refine ⟨ret_b ?_,(HBB _).out⟩
    rw [hx.out]
    simp [fitsP, *]
   ·have k1:((k:Int)==5)=false:=by simp;omega
    go_enter Tryz.func224,Tryz.ntmps224
    go_wp2_with fail
    go_ret
    refine ⟨ret_b ?_,(HBB _).out⟩
    rw [hx.out]
    simp [fitsP, *]
 ·skip
  by_cases h0:k % 2=1
  ·have k0:((k:Int) % 2==1)=true:=by simp;omega
   have k0':(Int.tmod (k:Int) 2==1)=true:=by rw [Int.tmod_eq_emod_of_nonneg (by omega)];exact k0
   by_cases h1:7≤k
   ·have k1:7≤(k:Int):=by omega
    have k2:(k:Int)≤1100:=by omega
    go_enter Tryz.func224,Tryz.ntmps224
    go_wp2_with fail
    go_ret
    refine ⟨ret_b ?_,(HBB _).out⟩
    rw [hx.out]
    simp [fitsP, *]
   ·have k1:¬7≤(k:Int):=by omega
    go_enter Tryz.func224,Tryz.ntmps224
    go_wp2_with fail
    go_ret
    refine ⟨ret_b ?_,(HBB _).out⟩
    rw [hx.out]
    simp [fitsP, *]
  ·have k0:((k:Int) % 2==1)=false:=by simp;omega
   have k0':(Int.tmod (k:Int) 2==1)=false:=by rw [Int.tmod_eq_emod_of_nonneg (by omega)];exact k0
   go_enter Tryz.func224,Tryz.ntmps224
   go_wp2_with fail
   go_ret
   refine ⟨ret_b ?_,(HBB _).out⟩
   rw [hx.out]
   simp [fitsP, *]
 ·skip
  by_cases h0:k=6
  ·have k0:((k:Int)==6)=true:=by simp;omega
   go_enter Tryz.func224,Tryz.ntmps224
   go_wp2_with fail
   go_ret
   refine ⟨ret_b ?_,(HBB _).out⟩
   rw [hx.out]
   simp [fitsP, *]
  ·have k0:((k:Int)==6)=false:=by simp;omega
   go_enter Tryz.func224,Tryz.ntmps224
   go_wp2_with fail
   go_ret
   refine ⟨ret_b ?_,(HBB _).out⟩
   rw [hx.out]
   simp [fitsP, *]
 ·skip
  by_cases h0:k=7
  ·have k0:((k:Int)==7)=true:=by simp;omega
   go_enter Tryz.func224,Tryz.ntmps224
   go_wp2_with fail
   go_ret
   refine ⟨ret_b ?_,(HBB _).out⟩
   rw [hx.out]
   simp [fitsP, *]
  ·have k0:((k:Int)==7)=false:=by simp;omega
   go_enter Tryz.func224,Tryz.ntmps224
   go_wp2_with fail
   go_ret
   refine ⟨ret_b ?_,(HBB _).out⟩
   rw [hx.out]
   simp [fitsP, *]
 ·skip
  by_cases h0:k=6
  ·have k0:((k:Int)==6)=true:=by simp;omega
   go_enter Tryz.func224,Tryz.ntmps224
   go_wp2_with fail
   go_ret
   refine ⟨ret_b ?_,(HBB _).out⟩
   rw [hx.out]
   simp [fitsP, *]
  ·have k0:((k:Int)==6)=false:=by simp;omega
   go_enter Tryz.func224,Tryz.ntmps224
   go_wp2_with fail
   go_ret
   refine ⟨ret_b ?_,(HBB _).out⟩
   rw [hx.out]
   simp [fitsP, *]
theorem digs_dec:∀(l:List UInt8) (acc:Nat),(∀c∈l,isD c=true)→Lib.decFrom acc l=some (l.foldl (fun v c=>v *10+(c.toNat - 48)) acc)
 | [],acc,_=>rfl
 | c :: r,acc,h=>by
  have hc:=(isD_iff _).1 (h c (by simp))
  unfold Lib.decFrom Lib.digitVal
  rw [if_pos hc]
  exact digs_dec r _ fun d hd=>h d (List.mem_cons_of_mem _ hd)
theorem digs_atoi {l:List UInt8} (h0:l≠ []) (h:∀c∈l,isD c=true):Lib.atoi l=some (val l:Int):=by
 cases l with
 | nil=>exact absurd rfl h0
 | cons b r=>
  have hb:=(isD_iff _).1 (h b (by simp))
  have n1:(b==45)=false:=by rw [beq_eq_false_iff_ne];rintro rfl;exact absurd hb (by decide)
  have n2:(b==43)=false:=by rw [beq_eq_false_iff_ne];rintro rfl;exact absurd hb (by decide)
  show (if (b==45)=true then (Lib.decNat r).map (fun (m:Nat)=>-(m:Int)) else if (b==43)=true then (Lib.decNat r).map (fun (m:Nat)=>(m:Int)) else (Lib.decNat (b :: r)).map (fun (m:Nat)=>(m:Int)))=_
  unfold Lib.decNat
  rw [n1,n2,List.isEmpty_cons,if_neg (by decide),if_neg (by decide),if_neg (by decide),digs_dec _ _ h]
  rfl
theorem number_digs {s d r:List UInt8} (h:numberV s=some (d,r)):d≠ []∧(∀c∈d,isD c=true)∧d.length≤s.length∧r.length≤s.length:=by
 unfold numberV at h
 split at h
 ·cases h
 ·rename_i hn
  have h2:=Option.some.inj h
  simp only [Prod.mk.injEq] at h2
  obtain ⟨rfl,rfl⟩:=h2
  have h3:=nd_le s
  refine ⟨?_,?_,?_,?_⟩
  ·intro h4
   have h5:=congrArg List.length h4
   rw [List.length_take,List.length_nil] at h5
   have h6:nd s≠0:=fun h=>hn (.inl h)
   omega
  ·intro c hc
   obtain ⟨i,hi,rfl⟩:=List.getElem_of_mem hc
   rw [List.length_take] at hi
   rw [List.getElem_take]
   exact (nd_spec s).1 i (by omega) (by omega)
  ·rw [List.length_take];omega
  ·rw [List.length_drop];omega
theorem atoi_c (D:ByteArray) (h0:D.data.toList≠ []) (h:∀c∈D.data.toList,isD c=true) (hs:D.size≤18) (n:Int) (hn:(val D.data.toList:Int)=n) (w:World):
  Calls Tryz.prog 221 #[.string D] w fun e w'=>e= .returned (.tuple #[.int .i64 n, .nilIface])∧Below w.heap.size w w':=by
 refine (Tryz.strconv_Atoi D _ hs (digs_atoi h0 h) w).mono fun e w' ⟨he,t,ht⟩=>⟨by rw [he,hn],?_⟩
 rw [ht]
 exact ⟨rfl,rfl,rfl,by rw [Lib.bytesWorld_size];omega,fun k hk=>Lib.bytesWorld_at_old _ _ _ _ hk⟩
end Go.Proofs.YtfldplmgkeiimaaGreatDoor.GW
namespace Go.Proofs.YtfldplmgkeiimaaGreatDoor.GW
open Go.RowKit Go.Proofs.YtfldplmgkeiimaaGreatDoor.Base Go.Proofs.YtfldplmgkeiimaaGreatDoor.Dp Go.Proofs.YtfldplmgkeiimaaGreatDoor.DeciW Go.Proofs.YtfldplmgkeiimaaGreatDoor.Mem Go.Proofs.YtfldplmgkeiimaaGreatDoor.RdW Go.Proofs.YtfldplmgkeiimaaGreatDoor.Gp
abbrev zBk:Obj:= .cells #[.int .i64 0, .int .i64 0, .string ⟨#[]⟩, .slice none 0 0] 259
def bkCells (b:Blk) (av:Value):Array Value:= #[.int .i64 b.k, .int .i64 b.n, .string ⟨b.t.toArray⟩,av]
abbrev bkVal (b:Blk) (av:Value):Value:= .agg (bkCells b av)
abbrev bkObj (b:Blk) (av:Value):Obj:= .cells (bkCells b av) 259
theorem bk_at {x:World} {b:Nat} {v0 v1 v2 v3:Value} {t:TypeId} (h:x.heap[b]?=some (.cells #[v0,v1,v2,v3] t)):
  (x.cell? ⟨b,0,none⟩=some v0∧x.cell? ⟨b,1,none⟩=some v1∧x.cell? ⟨b,2,none⟩=some v2∧x.cell? ⟨b,3,none⟩=some v3)∧(x.frozen? ⟨b,0,none⟩=false∧x.frozen? ⟨b,1,none⟩=false∧x.frozen? ⟨b,2,none⟩=false∧x.frozen? ⟨b,3,none⟩=false):=by
 refine ⟨⟨?_,?_,?_,?_⟩,?_,?_,?_,?_⟩<;> simp [World.cell?,World.frozen?,h]
def bkSet (w:World) (b:Nat) (x:Blk) (av:Value):World:=
 (((w.setCell ⟨b,0,none⟩ (.int .i64 x.k)).setCell ⟨b,1,none⟩ (.int .i64 x.n)).setCell ⟨b,2,none⟩ (.string ⟨x.t.toArray⟩)).setCell ⟨b,3,none⟩ av
theorem bk0 {x:World} {b:Nat} {v0 v1 v2 v3:Value} {t:TypeId} (h:x.heap[b]?=some (.cells #[v0,v1,v2,v3] t)) (u:Value):(x.setCell ⟨b,0,none⟩ u).heap[b]?=some (.cells #[u,v1,v2,v3] t):=heap_here h 0 u
theorem bk1 {x:World} {b:Nat} {v0 v1 v2 v3:Value} {t:TypeId} (h:x.heap[b]?=some (.cells #[v0,v1,v2,v3] t)) (u:Value):(x.setCell ⟨b,1,none⟩ u).heap[b]?=some (.cells #[v0,u,v2,v3] t):=heap_here h 1 u
theorem bk2 {x:World} {b:Nat} {v0 v1 v2 v3:Value} {t:TypeId} (h:x.heap[b]?=some (.cells #[v0,v1,v2,v3] t)) (u:Value):(x.setCell ⟨b,2,none⟩ u).heap[b]?=some (.cells #[v0,v1,u,v3] t):=heap_here h 2 u
theorem bk3 {x:World} {b:Nat} {v0 v1 v2 v3:Value} {t:TypeId} (h:x.heap[b]?=some (.cells #[v0,v1,v2,v3] t)) (u:Value):(x.setCell ⟨b,3,none⟩ u).heap[b]?=some (.cells #[v0,v1,v2,u] t):=heap_here h 3 u
structure ZB (w W:World):Prop where
 a:W.heap[w.heap.size]?=some zBk
 b:Below w.heap.size w W
theorem ZB.below {w W W':World} (h:ZB w W) (hb:Below W.heap.size W W'):ZB w W':=⟨one_below h.a hb,h.b.trans (hb.mono h.b.size)⟩
theorem zb_new (w:World):ZB w (w.alloc zBk):=⟨heap_alloc_new w _,(Below.refl _ _).alloc (Nat.le_refl _) _⟩
theorem bk_fin {w W:World} (h:ZB w W) (x:Blk) (av:Value):(bkSet W w.heap.size x av).heap[w.heap.size]?=some (bkObj x av)∧Below w.heap.size w (bkSet W w.heap.size x av):=
 ⟨bk3 (bk2 (bk1 (bk0 h.a _) _) _) _,(((h.b.setCell (Nat.le_refl _) _).setCell (Nat.le_refl _) _).setCell (Nat.le_refl _) _).setCell (Nat.le_refl _) _⟩
theorem bkSet_keep {W:World} {b:Nat} {cs:Array Value} (h:W.heap[b]?=some (.cells cs 259)) (x:Blk) (av:Value):KeepT 259 W (bkSet W b x av):=by
 have step:∀{V:World} {cs:Array Value} (i:Nat) (u:Value),V.heap[b]?=some (.cells cs 259)→KeepT 259 V (V.setCell ⟨b,i,none⟩ u)∧∃ds,(V.setCell ⟨b,i,none⟩ u).heap[b]?=some (.cells ds 259):=fun i u hv=>⟨.set hv u,_,heap_here hv i u⟩
 obtain ⟨k0,_,h0⟩:=step 0 (.int .i64 x.k) h
 obtain ⟨k1,_,h1⟩:=step 1 (.int .i64 x.n) h0
 obtain ⟨k2,_,h2⟩:=step 2 (.string ⟨x.t.toArray⟩) h1
 obtain ⟨k3,_,h3⟩:=step 3 av h2
 exact ((k0.trans k1).trans k2).trans k3
def BlkOut (res:Except Nat Blk) (w:World) (e:Ending) (w':World):Prop:=Below w.heap.size w w'∧match res with
 | .ok b=>∃q k,e= .returned (.tuple #[bkVal b (.slice q b.args.length k), .int .i64 0])∧ArgsIn w.heap.size w' q b.args
 | .error n=>e= .returned (.tuple #[bkVal Gp.b0 nils, .int .i64 (n:Int)])
theorem take1 (l:List UInt8) {c:UInt8} (hc:c≠0):decide (l.take 1= [c])=decide (l.headD 0=c):=by
 cases l with
 | nil=>rw [decide_eq_false (by simp),decide_eq_false (by simpa using hc.symm)]
 | cons a l=>simp
theorem opVs_get (l:List (Int × Int)) (i:Nat) (hi:i < l.length):(opVs l)[i *2]?=some (.int .i64 l[i].1)∧(opVs l)[i *2+1]?=some (.int .i64 l[i].2):=by
 induction l generalizing i with
 | nil=>exact absurd hi (Nat.not_lt_zero _)
 | cons o l ih=>
  have e:opVs (o :: l)= [.int .i64 o.1, .int .i64 o.2] ++opVs l:=rfl
  cases i with
  | zero=>rw [e];exact ⟨rfl,rfl⟩
  | succ i=>
   have:=ih i (Nat.lt_of_succ_lt_succ hi)
   rw [e,show (i+1) *2=i *2+1+1 by omega,show i *2+1+1+1=(i *2+1)+1+1 by omega]
   simpa using this
theorem ops_row {w:World} {B:Nat} {v:Value} {l:List (Int × Int)} (h:w.ownsRow B 413 2 v l.length (opVs l)):∃p c,v= .slice p l.length c∧OpsIn B w p l:=by
 rcases h.2 with ⟨h1,h2⟩|⟨g,c,cur,h1,h2,h3,h4,h5,h6,h7⟩
 ·exact ⟨none,0,by rw [h1,h2],fun hl=>absurd hl (by omega)⟩
 ·refine ⟨_,c,h1,fun hl=>⟨g,0,cur,rfl,h2,h3,fun i hi=>?_⟩⟩
  have key:∀j,j < l.length *2→cur[j]?=(opVs l)[j]?:=fun j hj=>by
   rw [←h7,List.getElem?_take_of_lt hj,Array.getElem?_toList]
  obtain ⟨g1,g2⟩:=opVs_get l i hi
  rw [Nat.zero_add,key _ (by omega),key _ (by omega)]
  exact ⟨g1,g2⟩
set_option maxRecDepth 100000 in
set_option maxHeartbeats 6400000 in
theorem var_c (S:ByteArray) (hs:S.size≤1000000000) (res:Except Nat Blk) (hr:Hid (bvarV S.data.toList=res)) (w:World):
  Calls Tryz.prog 180 #[.string S] w (BlkOut res w):=by
 have HS:=Lib.hid hs
 have hl:=hr.out
 unfold bvarV at hl
 obtain ⟨o,ho⟩:=nb_ex S.data.toList
 rw [ho] at hl
 have HO:=Lib.hid ho
 clear hr hs
 have HZ:Hid (ZB w (w.alloc (.cells #[.int .i64 0, .int .i64 0, .string ⟨#[]⟩, .slice none 0 0] 259))):=zb_new w
 go_enter Tryz.func180,Tryz.ntmps180
 go_upto_region 1 with fail
 generalize w.alloc (.cells #[.int .i64 0, .int .i64 0, .string ⟨#[]⟩, .slice none 0 0] 259)=W at HZ⊢
 go_wp2_with fail
 with_reducible refine (number_c S HS.out o HO _).mono ?_
 rintro e W2 ⟨he,hd⟩
 have HZ2:=Lib.hid (HZ.out.below (drew_below hd))
 clear hd HZ
 have HZ:=HZ2
 clear HZ2
 cases o with
 | none=>
  have HQ:Hid (Except.error 3=res):=hl
  unfold NbOut at he
  simp only [] at he
  subst he
  clear hl ho HO
  obtain ⟨⟨c0,c1,c2,c3⟩,f0,f1,f2,f3⟩:=bk_at HZ.out.a
  have HF:=Lib.hid (bk_fin HZ.out Gp.b0 nils)
  go_wp2_with fail
  refine bodyPost_ret (w:=bkSet W2 w.heap.size Gp.b0 nils) (v:= .tuple #[bkVal Gp.b0 nils, .int .i64 3]) ?_ rfl ?_
  ·clear c0 c1 c2 c3 f0 f1 f2 f3
   generalize bkSet W2 w.heap.size Gp.b0 nils=WE at HF⊢
   obtain ⟨⟨c0,c1,c2,c3⟩,_⟩:=bk_at HF.out.1
   simp [results,Tryz.results180,go_sem,c0,c1,c2,c3] <;> rfl
  ·rw [←HQ.out]
   exact ⟨HF.out.2,rfl⟩
 | some x=>
  obtain ⟨D,R⟩:=x
  unfold NbOut at he
  simp only [] at he
  subst he
  obtain ⟨hd0,hd1,hd2,hd3⟩:=number_digs ho
  rw [len_list,len_list] at hd2 hd3
  have hd2:D.size≤S.size:=hd2
  have hd3:R.size≤S.size:=hd3
  simp only [Option.map_some] at hl
  rw [len_list] at hl
  clear ho HO
  by_cases h2:2 < D.size
  ·rw [if_pos (.inl h2)] at hl
   have HQ:Hid (Except.error 3=res):=hl
   have h2i:(2:Int)<(D.size:Int):=by omega
   clear hl hd0 hd1 hd2 hd3 h2
   obtain ⟨⟨c0,c1,c2,c3⟩,f0,f1,f2,f3⟩:=bk_at HZ.out.a
   have HF:=Lib.hid (bk_fin HZ.out Gp.b0 nils)
   go_wp2_with fail
   refine bodyPost_ret (w:=bkSet W2 w.heap.size Gp.b0 nils) (v:= .tuple #[bkVal Gp.b0 nils, .int .i64 3]) ?_ rfl ?_
   ·clear c0 c1 c2 c3 f0 f1 f2 f3
    generalize bkSet W2 w.heap.size Gp.b0 nils=WE at HF⊢
    obtain ⟨⟨c0,c1,c2,c3⟩,_⟩:=bk_at HF.out.1
    simp [results,Tryz.results180,go_sem,c0,c1,c2,c3] <;> rfl
   ·rw [←HQ.out]
    exact ⟨HF.out.2,rfl⟩
  ·have h2i:¬(2:Int)<(D.size:Int):=by omega
   have HH:Hid (decide (R.data.toList.take (⟨#[61]⟩:ByteArray).data.toList.length=(⟨#[61]⟩:ByteArray).data.toList)=decide (R.data.toList.headD 0=61)):=take1 _ (by decide)
   by_cases h61:R.data.toList.headD 0=61
   ·rw [if_neg (by rintro (h | h);exact h2 h;exact h h61)] at hl
    have hrp:0 < R.size:=by
     rw [←len_list]
     cases hq:R.data.toList with
     | nil=>rw [hq] at h61;exact absurd h61 (by decide)
     | cons a b=>simp
    have hX:R.data.toList.drop 1=(R.extract 1 R.size).data.toList:=(ext_list R 1).symm
    rw [hX] at hl
    have hXs:Hid ((R.extract 1 R.size).size≤maxLen):=by
     show _≤_
     rw [←len_list,ext_list,List.length_drop,len_list]
     have:=HS.out
     unfold maxLen
     omega
    obtain ⟨⟨l,a,e⟩,hp⟩:∃x,Ep.parseV (R.extract 1 R.size).data.toList=x:=⟨_,rfl⟩
    have HP:=Lib.hid hp
    rw [hp] at hl
    simp only [] at hl
    obtain ⟨n,hn⟩:∃n,(val D.data.toList:Int)=n:=⟨_,rfl⟩
    have HD:=Lib.hid (And.intro hd0 (And.intro hd1 (And.intro (show D.size≤18 by omega) hn)))
    have hr1:(1:Int)≤(R.size:Int):=by omega
    rw [hn] at hl
    have HL:=Lib.hid hl
    rw [decide_eq_true h61] at HH
    clear hl hd0 hd1 hd2 hd3 h2 h61 hX hp hn hrp
    go_wp2_with fail
    with_reducible refine (has_c _ _ _ HH _).mono ?_
    rintro e w3 ⟨rfl,rfl⟩
    go_wp2_with fail
    with_reducible refine (atoi_c D HD.out.1 HD.out.2.1 HD.out.2.2.1 n HD.out.2.2.2 _).mono ?_
    rintro e w4 ⟨rfl,hb4⟩
    have HZ4:=Lib.hid (HZ.out.below hb4)
    clear hb4 HZ
    go_wp2_with fail
    with_reducible refine (parse_w (R.extract 1 R.size) hXs.out _ l a e HP).mono ?_
    rintro en w5 ⟨v,rfl,hv,hb5⟩
    obtain ⟨p,c,rfl,hops⟩:=ops_row hv
    have HZ:=Lib.hid (HZ4.out.below hb5)
    have HOP:=Lib.hid (hops.mono HZ4.out.b.size)
    clear hb5 hv hops HZ4
    by_cases he:e=0
    ·subst he
     have HQ:Hid (Except.ok ⟨2,n, [], [l]⟩=res):=HL.out
     clear HL
     have HZA:Hid (ZB w (w5.alloc (.cells #[.slice p l.length c] 345))):=HZ.out.below ((Below.refl _ _).alloc (Nat.le_refl _) _)
     have HAA:Hid (ArgsIn w.heap.size (w5.alloc (.cells #[.slice p l.length c] 345)) (some ⟨w5.heap.size,0,none⟩) [l]):=by
      intro _
      refine ⟨w5.heap.size,0,_,rfl,HZ.out.b.size,heap_alloc_new w5 _,fun i hi=>?_⟩
      have h3:i=0:=by simp at hi;omega
      subst h3
      exact ⟨p,c,rfl,HOP.out.keep (T:=0) (.of_below ((Below.refl _ _).alloc (Nat.le_refl _) _)) (by decide)⟩
     have HKK:=Lib.hid (bkSet_keep HZA.out.a ⟨2,n, [], [l]⟩ (.slice (some ⟨w5.heap.size,0,none⟩) 1 1))
     have HF:=Lib.hid (bk_fin HZA.out ⟨2,n, [], [l]⟩ (.slice (some ⟨w5.heap.size,0,none⟩) 1 1))
     obtain ⟨⟨c0,c1,c2,c3⟩,f0,f1,f2,f3⟩:=bk_at HZA.out.a
     clear HZ
     go_wp2_with fail
     refine bodyPost_ret (w:=bkSet (w5.alloc (.cells #[.slice p l.length c] 345)) w.heap.size ⟨2,n, [], [l]⟩ (.slice (some ⟨w5.heap.size,0,none⟩) 1 1)) (v:= .tuple #[bkVal ⟨2,n, [], [l]⟩ (.slice (some ⟨w5.heap.size,0,none⟩) 1 1), .int .i64 0]) ?_ rfl ?_
     ·clear c0 c1 c2 c3 f0 f1 f2 f3 HKK
      generalize bkSet (w5.alloc (.cells #[.slice p l.length c] 345)) w.heap.size ⟨2,n, [], [l]⟩ (.slice (some ⟨w5.heap.size,0,none⟩) 1 1)=WE at HF⊢
      obtain ⟨⟨c0,c1,c2,c3⟩,_⟩:=bk_at HF.out.1
      simp [results,Tryz.results180,go_sem,c0,c1,c2,c3] <;> rfl
     ·rw [←HQ.out]
      exact ⟨HF.out.2,_,_,rfl,HAA.out.keep HKK.out (by decide) (by decide)⟩
    ·have hei:((e:Int) !=0)=true:=by simp;omega
     have HQ:Hid (Except.error e=res):=by
      show _=_
      rw [←HL.out,if_pos he]
     clear HL he
     obtain ⟨⟨c0,c1,c2,c3⟩,f0,f1,f2,f3⟩:=bk_at HZ.out.a
     have HF:=Lib.hid (bk_fin HZ.out Gp.b0 nils)
     go_wp2_with fail
     refine bodyPost_ret (w:=bkSet w5 w.heap.size Gp.b0 nils) (v:= .tuple #[bkVal Gp.b0 nils, .int .i64 (e:Int)]) ?_ rfl ?_
     ·clear c0 c1 c2 c3 f0 f1 f2 f3
      generalize bkSet w5 w.heap.size Gp.b0 nils=WE at HF⊢
      obtain ⟨⟨c0,c1,c2,c3⟩,_⟩:=bk_at HF.out.1
      simp [results,Tryz.results180,go_sem,c0,c1,c2,c3] <;> rfl
     ·rw [←HQ.out]
      exact ⟨HF.out.2,rfl⟩
   ·rw [if_pos (.inr h61)] at hl
    have HQ:Hid (Except.error 3=res):=hl
    rw [decide_eq_false h61] at HH
    clear hl hd0 hd1 hd2 hd3 h2 h61
    go_wp2_with fail
    with_reducible refine (has_c _ _ _ HH _).mono ?_
    rintro e w3 ⟨rfl,rfl⟩
    obtain ⟨⟨c0,c1,c2,c3⟩,f0,f1,f2,f3⟩:=bk_at HZ.out.a
    have HF:=Lib.hid (bk_fin HZ.out Gp.b0 nils)
    go_wp2_with fail
    refine bodyPost_ret (w:=bkSet W2 w.heap.size Gp.b0 nils) (v:= .tuple #[bkVal Gp.b0 nils, .int .i64 3]) ?_ rfl ?_
    ·clear c0 c1 c2 c3 f0 f1 f2 f3
     generalize bkSet W2 w.heap.size Gp.b0 nils=WE at HF⊢
     obtain ⟨⟨c0,c1,c2,c3⟩,_⟩:=bk_at HF.out.1
     simp [results,Tryz.results180,go_sem,c0,c1,c2,c3] <;> rfl
    ·rw [←HQ.out]
     exact ⟨HF.out.2,rfl⟩
end Go.Proofs.YtfldplmgkeiimaaGreatDoor.GW
