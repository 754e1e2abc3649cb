/-
  Several texts of this proof in one: Gl.
-/
import Derived.Test.YtfldplmgkeiimaaGreatDoorQ22
set_option linter.unusedVariables false
set_option linter.unusedSimpArgs false
namespace Go.Proofs.YtfldplmgkeiimaaGreatDoor.GW
open Go.RowKit Go.Proofs.YtfldplmgkeiimaaGreatDoor.Base Go.Proofs.YtfldplmgkeiimaaGreatDoor.Dp Go.Proofs.YtfldplmgkeiimaaGreatDoor.DeciW Go.Proofs.YtfldplmgkeiimaaGreatDoor.Mem Go.Proofs.YtfldplmgkeiimaaGreatDoor.RdW Go.Proofs.YtfldplmgkeiimaaGreatDoor.Gp
theorem pre_ex (S P:ByteArray):∃(R:ByteArray) (b:Bool),∀w,Calls Tryz.prog 89 #[.string S, .string P] w fun e w'=>e= .returned (.tuple #[.string R, .bool b])∧w=w':=
 ⟨_,_,fun w=>(Tryz.strings_CutPrefix S P w).mono fun e w' ⟨he,hw⟩=>⟨he,hw.symm⟩⟩
def opR (cs:List C):Option C→Except Nat (List C)
 | none=> .error 3
 | some c=> .ok (cs++ [c])
theorem restV_cons (t:List UInt8) (x:C) (l:List C):restV t (x :: l)=opR (x :: l) (opV t):=by
 unfold restV opR
 rw [if_neg (by rintro ⟨_,_,h⟩;cases h)]
 rfl
theorem restV_no {t:List UInt8} (h:¬(t≠ []∧t.headD 0=68)):restV t []=opR [] (opV t):=by
 unfold restV opR
 rw [if_neg (fun hh=>h ⟨hh.1,hh.2.1⟩)]
 rfl
theorem restV_yes {r:List UInt8}:restV (68 :: r) []=match codeV r with | some n=> .ok [{kc 6 with n:=(n:Int)}] | none=>opR [] (opV (68 :: r)):=by
 unfold restV opR
 rw [if_pos ⟨by simp,rfl,rfl⟩]
 rfl
theorem cmds_low {B D:Nat} {w:World} {v:Value} {l:List (Nat × C)} (h:CmdsAt B w v l) (hD:D≤B):CmdsAt D w v l:=by
 obtain ⟨xs,h1,h2⟩:=h
 refine ⟨xs,⟨h1.1,?_⟩,h2.imp (fun _ _ g=>g.mono hD) (fun _ _ g=>g.mono hD)⟩
 rcases h1.2 with g |⟨b,c,cur,e1,e2,e3⟩
 ·exact .inl g
 ·exact .inr ⟨b,c,cur,e1,Nat.le_trans hD e2,e3⟩
theorem two_new (w:World) (a b:Obj):((w.alloc a).alloc b).heap[w.heap.size+1]?=some b:=by
 have h:=heap_alloc_new (w.alloc a) b
 rw [show (w.alloc a).heap.size=w.heap.size+1 by simp] at h
 exact h
set_option maxRecDepth 100000 in
set_option maxHeartbeats 12800000 in
theorem plain_c (S:ByteArray) (hs:S.size≤1000000000) (res:Except Nat (List C)) (hr:Hid (plainV S.data.toList=res)) (w:World):
  Calls Tryz.prog 63 #[.string S] w (PlainOut res w):=by
 have HS:=Lib.hid hs
 have hl:=hr.out
 unfold plainV at hl
 clear hr hs
 by_cases q1:S.data.toList= [71,51,54]
 ·rw [if_pos q1] at hl
  have HR:=Lib.hid hl
  have e1:(S.toList== [71,51,54])=true:=by rw [str_is];exact decide_eq_true q1
  clear hl q1
  go_enter Tryz.func63,Tryz.ntmps63
  go_wp2_with fail
  with_reducible refine (one_at 3 0 0 true [] [] [] [] [] _).mono ?_
  rintro e w2 ⟨hb,v,rfl,hc⟩
  have HC:=Lib.hid (And.intro hb hc)
  clear hb hc
  go_wp2_with fail
  go_ret2
  rw [←HR.out]
  exact ⟨HC.out.1,_,rfl,HC.out.2⟩
 ·rw [if_neg q1] at hl
  have e1:(S.toList== [71,51,54])=false:=by rw [str_is];exact decide_eq_false q1
  clear q1
  by_cases q2:S.data.toList= [71,51,55]
  ·rw [if_pos q2] at hl
   have HR:=Lib.hid hl
   have e2:(S.toList== [71,51,55])=true:=by rw [str_is];exact decide_eq_true q2
   clear hl q2
   go_enter Tryz.func63,Tryz.ntmps63
   go_wp2_with fail
   with_reducible refine (one_at 3 0 0 false [] [] [] [] [] _).mono ?_
   rintro e w2 ⟨hb,v,rfl,hc⟩
   have HC:=Lib.hid (And.intro hb hc)
   clear hb hc
   go_wp2_with fail
   go_ret2
   rw [←HR.out]
   exact ⟨HC.out.1,_,rfl,HC.out.2⟩
  ·rw [if_neg q2] at hl
   have e2:(S.toList== [71,51,55])=false:=by rw [str_is];exact decide_eq_false q2
   clear q2
   by_cases q3:S.data.toList= [71,55,52]
   ·rw [if_pos q3] at hl
    have HR:=Lib.hid hl
    have e3:(S.toList== [71,55,52])=true:=by rw [str_is];exact decide_eq_true q3
    clear hl q3
    go_enter Tryz.func63,Tryz.ntmps63
    go_wp2_with fail
    go_ret2
    rw [←HR.out]
    exact ⟨Below.refl _ _,rfl⟩
   ·rw [if_neg q3] at hl
    have e3:(S.toList== [71,55,52])=false:=by rw [str_is];exact decide_eq_false q3
    clear q3
    by_cases q4:S.data.toList= [71,55,53]
    ·rw [if_pos q4] at hl
     have HR:=Lib.hid hl
     have e4:(S.toList== [71,55,53])=true:=by rw [str_is];exact decide_eq_true q4
     clear hl q4
     go_enter Tryz.func63,Tryz.ntmps63
     go_wp2_with fail
     with_reducible refine (one_at 4 0 0 false [] [] [] [] [] _).mono ?_
     rintro e w2 ⟨hb,v,rfl,hc⟩
     have HC:=Lib.hid (And.intro hb hc)
     clear hb hc
     go_wp2_with fail
     go_ret2
     rw [←HR.out]
     exact ⟨HC.out.1,_,rfl,HC.out.2⟩
    ·rw [if_neg q4] at hl
     have e4:(S.toList== [71,55,53])=false:=by rw [str_is];exact decide_eq_false q4
     clear q4
     by_cases q5:S.data.toList= [77,48,50]
     ·rw [if_pos q5] at hl
      have HR:=Lib.hid hl
      have e5:(S.toList== [77,48,50])=true:=by rw [str_is];exact decide_eq_true q5
      clear hl q5
      go_enter Tryz.func63,Tryz.ntmps63
      go_wp2_with fail
      with_reducible refine (one_at 5 0 0 false [] [] [] [] [] _).mono ?_
      rintro e w2 ⟨hb,v,rfl,hc⟩
      have HC:=Lib.hid (And.intro hb hc)
      clear hb hc
      go_wp2_with fail
      go_ret2
      rw [←HR.out]
      exact ⟨HC.out.1,_,rfl,HC.out.2⟩
     ·rw [if_neg q5] at hl
      have e5:(S.toList== [77,48,50])=false:=by rw [str_is];exact decide_eq_false q5
      clear q5
      by_cases q6:S.data.toList.take 3= [71,48,52]
      ·rw [if_pos q6] at hl
       have HR:=Lib.hid hl
       have HP:Hid (S.data.toList=(⟨#[71,48,52]⟩:ByteArray).data.toList++S.data.toList.drop 3):=pre_take (p:= [71,48,52]) q6
       clear hl q6
       go_enter Tryz.func63,Tryz.ntmps63
       go_wp2_with fail
       with_reducible refine (pre_yes_c _ _ _ HP _).mono ?_
       rintro e w2 ⟨rfl,rfl⟩
       go_wp2_with fail
       with_reducible refine (one_at 1 0 0 false (S.data.toList.drop 3) [] [] [] [] _).mono ?_
       rintro e w2 ⟨hb,v,rfl,hc⟩
       have HC:=Lib.hid (And.intro hb hc)
       clear hb hc
       go_wp2_with fail
       go_ret2
       rw [←HR.out]
       exact ⟨HC.out.1,_,rfl,HC.out.2⟩
      ·rw [if_neg q6] at hl
       have HP:Hid (∀r,S.data.toList≠(⟨#[71,48,52]⟩:ByteArray).data.toList++r):=pre_not (p:= [71,48,52]) q6
       clear q6
       have HL:=Lib.hid hl
       clear hl
       go_enter Tryz.func63,Tryz.ntmps63
       go_wp2_with fail
       with_reducible refine (pre_no_c _ _ HP _).mono ?_
       rintro e w2 ⟨rfl,rfl⟩
       have HM:Hid ((w.alloc (.cells #[.string ⟨#[71,48,49]⟩, .string ⟨#[71,48,50]⟩, .string ⟨#[71,48,51]⟩] 9)).heap[w.heap.size]?=some (.cells #[.string ⟨#[71,48,49]⟩, .string ⟨#[71,48,50]⟩, .string ⟨#[71,48,51]⟩] 9)):=heap_alloc_new w _
       have HB:Hid (Below w.heap.size w (w.alloc (.cells #[.string ⟨#[71,48,49]⟩, .string ⟨#[71,48,50]⟩, .string ⟨#[71,48,51]⟩] 9))):=(Below.refl _ _).alloc (Nat.le_refl _) _
       go_wp2_with fail
       generalize w.alloc (.cells #[.string ⟨#[71,48,49]⟩, .string ⟨#[71,48,50]⟩, .string ⟨#[71,48,51]⟩] 9)=W1 at HM HB⊢
       have m0:W1.cell? ⟨w.heap.size,0,none⟩=some (.string ⟨#[71,48,49]⟩):=by have h:=HM.out;simp [World.cell?,h]
       have m1:W1.cell? ⟨w.heap.size,1,none⟩=some (.string ⟨#[71,48,50]⟩):=by have h:=HM.out;simp [World.cell?,h]
       have m2:W1.cell? ⟨w.heap.size,2,none⟩=some (.string ⟨#[71,48,51]⟩):=by have h:=HM.out;simp [World.cell?,h]
       go_loopw [0,6,54] (fun t c i wr=>∃k:Nat,k≤3∧Hid ((0 < k→S.data.toList.take 3≠ [71,48,49])∧(1 < k→S.data.toList.take 3≠ [71,48,50])∧(2 < k→S.data.toList.take 3≠ [71,48,51]))∧t= .string S∧c= .slice none 0 0∧i= .int .i64 (k:Int)∧wr=W1) (fun _ _ i _=>3 -(intOf i).toNat)
       case atStart=>exact ⟨0,by omega,⟨fun h=>absurd h (by decide),fun h=>absurd h (by decide),fun h=>absurd h (by decide)⟩,rfl,rfl,rfl,rfl⟩
       case round=>
       obtain ⟨k,hk,HN,rfl,rfl,rfl,rfl⟩:=hrel
       have hk4:k=0∨k=1∨k=2∨k=3:=by omega
       rcases hk4 with rfl | rfl | rfl | rfl
       ·by_cases p1:S.data.toList.take 3= [71,48,49]
        ·skip
         have hq:=HL.out
         rw [if_pos p1] at hq
         unfold modeV at hq
         obtain ⟨T,hT⟩:=str_ex (S.data.toList.drop 3)
         have HP:Hid (S.data.toList=(⟨#[71,48,49]⟩:ByteArray).data.toList++T.data.toList):=by show _=_;rw [hT];exact pre_take (p:= [71,48,49]) p1
         rw [←hT] at hq
         have HT:Hid (T.size≤1000000000):=by
          show T.size≤_
          have h1:=congrArg List.length hT
          rw [len_list,List.length_drop,len_list] at h1
          have:=HS.out
          omega
         clear p1 hT
         obtain ⟨i0,hi0,hz0,hz1,hz2⟩:=info_parts info_cm
         have HI:=Lib.hid (And.intro hi0 (And.intro hz0 (And.intro hz1 hz2)))
         clear hi0 hz0 hz1 hz2
         by_cases hte:T.data.toList= []
         ·rw [if_pos hte] at hq
          have HQ:=Lib.hid hq
          have et:(T.toList== [])=true:=by rw [str_is];exact decide_eq_true hte
          clear hq hte
          go_wp2_with fail
          with_reducible refine (pre_yes_c _ _ _ HP _).mono ?_
          rintro e w2 ⟨rfl,rfl⟩
          rw [bs_eta]
          go_wp2_with ((at_builtin;refine wpList_append_own _ rfl _ _ _ rfl w.heap.size 104 i0 (.agg #[.int .i64 0, .int .i64 0, .int .i64 0, .int .i64 0, .bool false, .string ⟨#[]⟩, .string ⟨#[]⟩, .string ⟨#[]⟩, .string ⟨#[]⟩, .string ⟨#[]⟩, .slice none 0 0, .slice none 0 0]) 12 168 Tryz.underlying98 HI.out.1 HI.out.2.1 HI.out.2.2.1 HI.out.2.2.2 rfl (by omega) (.slice none 0 0) 0 [] (by rfl) ⟨rfl, .inl ⟨rfl,rfl⟩⟩ ⟨wr.heap.size,0,none⟩ 1 1 [.int .i64 0, .int .i64 2, .int .i64 1, .int .i64 0, .bool false, .string ⟨#[]⟩, .string ⟨#[]⟩, .string ⟨#[]⟩, .string ⟨#[]⟩, .string ⟨#[]⟩, .slice none 0 0, .slice none 0 0] (by rfl) rfl (World.news_of_block (heap_alloc_new wr _)) (by simp [Value.oneCell']) (by unfold maxLen;omega) (by omega) (by have:=HB.out.size;simp;omega) ?_;intro v' w' hown' hgrow' hnn';obtain ⟨g',cap',rfl,_,_⟩:=hown'.form (by omega);have HK:Hid (CmdsAt w.heap.size w' (.slice (some ⟨g',0,none⟩) (0+1) cap') (at0 [{kc 2 with n:=1}])∧Below w.heap.size w w'):=⟨CmdsAt.push (l:= []) (xs:= []) (v:= .slice none 0 0) (x:=(0,{kc 2 with n:=1})) (p:=none) (q:=none) (k:=0) (m:=0) ⟨rfl, .inl ⟨rfl,rfl⟩⟩ .nil (NumsIn.nil _ _ _) (BlksIn.nil _ _ _) ((Below.refl _ _).alloc (Nat.le_refl _) _) hgrow' hown',(HB.out.alloc HB.out.size _).grown hgrow' (by have:=HB.out.size;simp;omega) (fun k hk=>by simp [Value.ownBlock] at hk)⟩;clear hown' hgrow' hnn'))
          go_ret2
          rw [←HQ.out]
          exact ⟨HK.out.2,_,rfl,HK.out.1⟩
         ·rw [if_neg hte,restV_cons] at hq
          have HRES:=Lib.hid hq
          have et:(T.toList== [])=false:=by rw [str_is];exact decide_eq_false hte
          clear hq hte
          obtain ⟨RR,b,hany⟩:=pre_ex T ⟨#[68]⟩
          go_wp2_with fail
          with_reducible refine (pre_yes_c _ _ _ HP _).mono ?_
          rintro e w2 ⟨rfl,rfl⟩
          rw [bs_eta]
          go_wp2_with ((at_builtin;refine wpList_append_own _ rfl _ _ _ rfl w.heap.size 104 i0 (.agg #[.int .i64 0, .int .i64 0, .int .i64 0, .int .i64 0, .bool false, .string ⟨#[]⟩, .string ⟨#[]⟩, .string ⟨#[]⟩, .string ⟨#[]⟩, .string ⟨#[]⟩, .slice none 0 0, .slice none 0 0]) 12 168 Tryz.underlying98 HI.out.1 HI.out.2.1 HI.out.2.2.1 HI.out.2.2.2 rfl (by omega) (.slice none 0 0) 0 [] (by rfl) ⟨rfl, .inl ⟨rfl,rfl⟩⟩ ⟨wr.heap.size,0,none⟩ 1 1 [.int .i64 0, .int .i64 2, .int .i64 1, .int .i64 0, .bool false, .string ⟨#[]⟩, .string ⟨#[]⟩, .string ⟨#[]⟩, .string ⟨#[]⟩, .string ⟨#[]⟩, .slice none 0 0, .slice none 0 0] (by rfl) rfl (World.news_of_block (heap_alloc_new wr _)) (by simp [Value.oneCell']) (by unfold maxLen;omega) (by omega) (by have:=HB.out.size;simp;omega) ?_;intro v' w' hown' hgrow' hnn';obtain ⟨g',cap',rfl,_,_⟩:=hown'.form (by omega);have HK:Hid (CmdsAt w.heap.size w' (.slice (some ⟨g',0,none⟩) (0+1) cap') (at0 [{kc 2 with n:=1}])∧Below w.heap.size w w'):=⟨CmdsAt.push (l:= []) (xs:= []) (v:= .slice none 0 0) (x:=(0,{kc 2 with n:=1})) (p:=none) (q:=none) (k:=0) (m:=0) ⟨rfl, .inl ⟨rfl,rfl⟩⟩ .nil (NumsIn.nil _ _ _) (BlksIn.nil _ _ _) ((Below.refl _ _).alloc (Nat.le_refl _) _) hgrow' hown',(HB.out.alloc HB.out.size _).grown hgrow' (by have:=HB.out.size;simp;omega) (fun k hk=>by simp [Value.ownBlock] at hk)⟩;clear hown' hgrow' hnn'))
          with_reducible refine (hany _).mono ?_
          rintro e w3 ⟨rfl,rfl⟩
          clear hany
          cases b
          all_goals
           go_wp2_with fail
           obtain ⟨oo,hoo⟩:∃oo,opV T.data.toList=oo:=⟨_,rfl⟩
           have HOO:=Lib.hid hoo
           have hq:=HRES.out
           rw [hoo] at hq
           clear hoo
           with_reducible refine (oper_c T HT.out oo HOO _).mono ?_
           rintro e w5 ⟨hb5,c,p,kk,rfl,hn,hbk,hd⟩
           unfold cmVal cmCells
           cases oo with
           | none=>
            have HQ:Hid (Except.error 3=res):=hq
            have HB5:=Lib.hid (HK.out.2.trans (hb5.mono HK.out.2.size))
            clear hq hb5 hn hbk hd
            go_wp2_with fail
            go_ret2
            rw [←HQ.out]
            exact ⟨HB5.out.alloc HB5.out.size _,rfl⟩
           | some d=>
            obtain rfl:=hd d rfl
            have HQ:Hid (Except.ok ([{kc 2 with n:=1}] ++ [d])=res):=hq
            have HB5:=Lib.hid (HK.out.2.trans (hb5.mono HK.out.2.size))
            have HC5:=Lib.hid (HK.out.1.below hb5)
            have HN5:=Lib.hid (And.intro (hn.mono HK.out.2.size) hbk)
            obtain ⟨xs,hx5,hr5⟩:=HC5.out
            have HX5:Hid (World.ownsRow w5 w.heap.size 104 12 (.slice (some ⟨g',0,none⟩) (0+1) cap') 1 xs):=hx5
            have HR5:=Lib.hid hr5
            clear hq hb5 hn hbk hd hx5 hr5
            go_wp2_with ((at_builtin;refine wpList_append_own _ rfl _ _ _ rfl w.heap.size 104 i0 (.agg #[.int .i64 0, .int .i64 0, .int .i64 0, .int .i64 0, .bool false, .string ⟨#[]⟩, .string ⟨#[]⟩, .string ⟨#[]⟩, .string ⟨#[]⟩, .string ⟨#[]⟩, .slice none 0 0, .slice none 0 0]) 12 168 Tryz.underlying98 HI.out.1 HI.out.2.1 HI.out.2.2.1 HI.out.2.2.2 rfl (by omega) (.slice (some ⟨g',0,none⟩) (0+1) cap') 1 xs (by rfl) (row_below HX5.out (((Below.refl _ _).alloc (Nat.le_refl _) _).alloc (by simp) _)) ⟨w5.heap.size+1,0,none⟩ 1 1 [.int .i64 0, .int .i64 d.k, .int .i64 d.n, .int .i64 d.m, .bool d.on, .string ⟨d.t.toArray⟩, .string ⟨d.x.toArray⟩, .string ⟨d.y.toArray⟩, .string ⟨d.i.toArray⟩, .string ⟨d.j.toArray⟩, .slice p d.nums.length kk,nils] (by rfl) rfl (World.news_of_block (two_new w5 _ _)) (by simp [Value.oneCell']) (by unfold maxLen;omega) (by omega) (by have:=HB5.out.size;simp;omega) ?_;intro v' w' hown' hgrow' hnn';obtain ⟨g2,cap2,rfl,_,_⟩:=hown'.form (by omega);have HF:Hid (CmdsAt w.heap.size w' (.slice (some ⟨g2,0,none⟩) (1+1) cap2) (at0 ([{kc 2 with n:=1}] ++ [d]))∧Below w.heap.size w w'):=⟨CmdsAt.push (l:=at0 [{kc 2 with n:=1}]) (xs:=xs) (v:= .slice (some ⟨g',0,none⟩) (0+1) cap') (x:=(0,d)) (p:=p) (q:=none) (k:=kk) (m:=0) HX5.out HR5.out HN5.out.1 (by rw [HN5.out.2];exact BlksIn.nil _ _ _) (((Below.refl _ _).alloc (Nat.le_refl _) _).alloc (by simp) _) hgrow' (by rw [HN5.out.2];exact hown'),((HB5.out.alloc HB5.out.size _).alloc (Nat.le_trans HB5.out.size (by simp)) _).grown hgrow' (by have:=HB5.out.size;simp;omega) (fun k hk=>(HX5.out.lt _ hk).1)⟩;clear hown' hgrow' hnn'))
            go_ret2
            rw [←HQ.out]
            exact ⟨HF.out.2,_,rfl,HF.out.1⟩
        ·skip
         have HP1:Hid (∀r,S.data.toList≠(⟨#[71,48,49]⟩:ByteArray).data.toList++r):=pre_not (p:= [71,48,49]) p1
         have HN2:Hid ((0 < 1→S.data.toList.take 3≠ [71,48,49])∧(1 < 1→S.data.toList.take 3≠ [71,48,50])∧(2 < 1→S.data.toList.take 3≠ [71,48,51])):=⟨fun _=>p1,fun h=>absurd h (by decide),fun h=>absurd h (by decide)⟩
         clear p1
         go_wp2_with fail
         with_reducible refine (pre_no_c _ _ HP1 _).mono ?_
         rintro e w2 ⟨rfl,rfl⟩
         go_wp2_with fail
         go_round <;> first | exact ⟨1,by omega,HN2.out,rfl,rfl,rfl,trivial⟩| decide
       ·by_cases p1:S.data.toList.take 3= [71,48,50]
        ·skip
         have hq:=HL.out
         rw [if_neg (HN.out.1 (by decide)),if_pos p1] at hq
         unfold modeV at hq
         obtain ⟨T,hT⟩:=str_ex (S.data.toList.drop 3)
         have HP:Hid (S.data.toList=(⟨#[71,48,50]⟩:ByteArray).data.toList++T.data.toList):=by show _=_;rw [hT];exact pre_take (p:= [71,48,50]) p1
         rw [←hT] at hq
         have HT:Hid (T.size≤1000000000):=by
          show T.size≤_
          have h1:=congrArg List.length hT
          rw [len_list,List.length_drop,len_list] at h1
          have:=HS.out
          omega
         clear p1 hT
         obtain ⟨i0,hi0,hz0,hz1,hz2⟩:=info_parts info_cm
         have HI:=Lib.hid (And.intro hi0 (And.intro hz0 (And.intro hz1 hz2)))
         clear hi0 hz0 hz1 hz2
         by_cases hte:T.data.toList= []
         ·rw [if_pos hte] at hq
          have HQ:=Lib.hid hq
          have et:(T.toList== [])=true:=by rw [str_is];exact decide_eq_true hte
          clear hq hte
          go_wp2_with fail
          with_reducible refine (pre_yes_c _ _ _ HP _).mono ?_
          rintro e w2 ⟨rfl,rfl⟩
          rw [bs_eta]
          go_wp2_with ((at_builtin;refine wpList_append_own _ rfl _ _ _ rfl w.heap.size 104 i0 (.agg #[.int .i64 0, .int .i64 0, .int .i64 0, .int .i64 0, .bool false, .string ⟨#[]⟩, .string ⟨#[]⟩, .string ⟨#[]⟩, .string ⟨#[]⟩, .string ⟨#[]⟩, .slice none 0 0, .slice none 0 0]) 12 168 Tryz.underlying98 HI.out.1 HI.out.2.1 HI.out.2.2.1 HI.out.2.2.2 rfl (by omega) (.slice none 0 0) 0 [] (by rfl) ⟨rfl, .inl ⟨rfl,rfl⟩⟩ ⟨wr.heap.size,0,none⟩ 1 1 [.int .i64 0, .int .i64 2, .int .i64 2, .int .i64 0, .bool false, .string ⟨#[]⟩, .string ⟨#[]⟩, .string ⟨#[]⟩, .string ⟨#[]⟩, .string ⟨#[]⟩, .slice none 0 0, .slice none 0 0] (by rfl) rfl (World.news_of_block (heap_alloc_new wr _)) (by simp [Value.oneCell']) (by unfold maxLen;omega) (by omega) (by have:=HB.out.size;simp;omega) ?_;intro v' w' hown' hgrow' hnn';obtain ⟨g',cap',rfl,_,_⟩:=hown'.form (by omega);have HK:Hid (CmdsAt w.heap.size w' (.slice (some ⟨g',0,none⟩) (0+1) cap') (at0 [{kc 2 with n:=2}])∧Below w.heap.size w w'):=⟨CmdsAt.push (l:= []) (xs:= []) (v:= .slice none 0 0) (x:=(0,{kc 2 with n:=2})) (p:=none) (q:=none) (k:=0) (m:=0) ⟨rfl, .inl ⟨rfl,rfl⟩⟩ .nil (NumsIn.nil _ _ _) (BlksIn.nil _ _ _) ((Below.refl _ _).alloc (Nat.le_refl _) _) hgrow' hown',(HB.out.alloc HB.out.size _).grown hgrow' (by have:=HB.out.size;simp;omega) (fun k hk=>by simp [Value.ownBlock] at hk)⟩;clear hown' hgrow' hnn'))
          go_ret2
          rw [←HQ.out]
          exact ⟨HK.out.2,_,rfl,HK.out.1⟩
         ·rw [if_neg hte,restV_cons] at hq
          have HRES:=Lib.hid hq
          have et:(T.toList== [])=false:=by rw [str_is];exact decide_eq_false hte
          clear hq hte
          obtain ⟨RR,b,hany⟩:=pre_ex T ⟨#[68]⟩
          go_wp2_with fail
          with_reducible refine (pre_yes_c _ _ _ HP _).mono ?_
          rintro e w2 ⟨rfl,rfl⟩
          rw [bs_eta]
          go_wp2_with ((at_builtin;refine wpList_append_own _ rfl _ _ _ rfl w.heap.size 104 i0 (.agg #[.int .i64 0, .int .i64 0, .int .i64 0, .int .i64 0, .bool false, .string ⟨#[]⟩, .string ⟨#[]⟩, .string ⟨#[]⟩, .string ⟨#[]⟩, .string ⟨#[]⟩, .slice none 0 0, .slice none 0 0]) 12 168 Tryz.underlying98 HI.out.1 HI.out.2.1 HI.out.2.2.1 HI.out.2.2.2 rfl (by omega) (.slice none 0 0) 0 [] (by rfl) ⟨rfl, .inl ⟨rfl,rfl⟩⟩ ⟨wr.heap.size,0,none⟩ 1 1 [.int .i64 0, .int .i64 2, .int .i64 2, .int .i64 0, .bool false, .string ⟨#[]⟩, .string ⟨#[]⟩, .string ⟨#[]⟩, .string ⟨#[]⟩, .string ⟨#[]⟩, .slice none 0 0, .slice none 0 0] (by rfl) rfl (World.news_of_block (heap_alloc_new wr _)) (by simp [Value.oneCell']) (by unfold maxLen;omega) (by omega) (by have:=HB.out.size;simp;omega) ?_;intro v' w' hown' hgrow' hnn';obtain ⟨g',cap',rfl,_,_⟩:=hown'.form (by omega);have HK:Hid (CmdsAt w.heap.size w' (.slice (some ⟨g',0,none⟩) (0+1) cap') (at0 [{kc 2 with n:=2}])∧Below w.heap.size w w'):=⟨CmdsAt.push (l:= []) (xs:= []) (v:= .slice none 0 0) (x:=(0,{kc 2 with n:=2})) (p:=none) (q:=none) (k:=0) (m:=0) ⟨rfl, .inl ⟨rfl,rfl⟩⟩ .nil (NumsIn.nil _ _ _) (BlksIn.nil _ _ _) ((Below.refl _ _).alloc (Nat.le_refl _) _) hgrow' hown',(HB.out.alloc HB.out.size _).grown hgrow' (by have:=HB.out.size;simp;omega) (fun k hk=>by simp [Value.ownBlock] at hk)⟩;clear hown' hgrow' hnn'))
          with_reducible refine (hany _).mono ?_
          rintro e w3 ⟨rfl,rfl⟩
          clear hany
          cases b
          all_goals
           go_wp2_with fail
           obtain ⟨oo,hoo⟩:∃oo,opV T.data.toList=oo:=⟨_,rfl⟩
           have HOO:=Lib.hid hoo
           have hq:=HRES.out
           rw [hoo] at hq
           clear hoo
           with_reducible refine (oper_c T HT.out oo HOO _).mono ?_
           rintro e w5 ⟨hb5,c,p,kk,rfl,hn,hbk,hd⟩
           unfold cmVal cmCells
           cases oo with
           | none=>
            have HQ:Hid (Except.error 3=res):=hq
            have HB5:=Lib.hid (HK.out.2.trans (hb5.mono HK.out.2.size))
            clear hq hb5 hn hbk hd
            go_wp2_with fail
            go_ret2
            rw [←HQ.out]
            exact ⟨HB5.out.alloc HB5.out.size _,rfl⟩
           | some d=>
            obtain rfl:=hd d rfl
            have HQ:Hid (Except.ok ([{kc 2 with n:=2}] ++ [d])=res):=hq
            have HB5:=Lib.hid (HK.out.2.trans (hb5.mono HK.out.2.size))
            have HC5:=Lib.hid (HK.out.1.below hb5)
            have HN5:=Lib.hid (And.intro (hn.mono HK.out.2.size) hbk)
            obtain ⟨xs,hx5,hr5⟩:=HC5.out
            have HX5:Hid (World.ownsRow w5 w.heap.size 104 12 (.slice (some ⟨g',0,none⟩) (0+1) cap') 1 xs):=hx5
            have HR5:=Lib.hid hr5
            clear hq hb5 hn hbk hd hx5 hr5
            go_wp2_with ((at_builtin;refine wpList_append_own _ rfl _ _ _ rfl w.heap.size 104 i0 (.agg #[.int .i64 0, .int .i64 0, .int .i64 0, .int .i64 0, .bool false, .string ⟨#[]⟩, .string ⟨#[]⟩, .string ⟨#[]⟩, .string ⟨#[]⟩, .string ⟨#[]⟩, .slice none 0 0, .slice none 0 0]) 12 168 Tryz.underlying98 HI.out.1 HI.out.2.1 HI.out.2.2.1 HI.out.2.2.2 rfl (by omega) (.slice (some ⟨g',0,none⟩) (0+1) cap') 1 xs (by rfl) (row_below HX5.out (((Below.refl _ _).alloc (Nat.le_refl _) _).alloc (by simp) _)) ⟨w5.heap.size+1,0,none⟩ 1 1 [.int .i64 0, .int .i64 d.k, .int .i64 d.n, .int .i64 d.m, .bool d.on, .string ⟨d.t.toArray⟩, .string ⟨d.x.toArray⟩, .string ⟨d.y.toArray⟩, .string ⟨d.i.toArray⟩, .string ⟨d.j.toArray⟩, .slice p d.nums.length kk,nils] (by rfl) rfl (World.news_of_block (two_new w5 _ _)) (by simp [Value.oneCell']) (by unfold maxLen;omega) (by omega) (by have:=HB5.out.size;simp;omega) ?_;intro v' w' hown' hgrow' hnn';obtain ⟨g2,cap2,rfl,_,_⟩:=hown'.form (by omega);have HF:Hid (CmdsAt w.heap.size w' (.slice (some ⟨g2,0,none⟩) (1+1) cap2) (at0 ([{kc 2 with n:=2}] ++ [d]))∧Below w.heap.size w w'):=⟨CmdsAt.push (l:=at0 [{kc 2 with n:=2}]) (xs:=xs) (v:= .slice (some ⟨g',0,none⟩) (0+1) cap') (x:=(0,d)) (p:=p) (q:=none) (k:=kk) (m:=0) HX5.out HR5.out HN5.out.1 (by rw [HN5.out.2];exact BlksIn.nil _ _ _) (((Below.refl _ _).alloc (Nat.le_refl _) _).alloc (by simp) _) hgrow' (by rw [HN5.out.2];exact hown'),((HB5.out.alloc HB5.out.size _).alloc (Nat.le_trans HB5.out.size (by simp)) _).grown hgrow' (by have:=HB5.out.size;simp;omega) (fun k hk=>(HX5.out.lt _ hk).1)⟩;clear hown' hgrow' hnn'))
            go_ret2
            rw [←HQ.out]
            exact ⟨HF.out.2,_,rfl,HF.out.1⟩
        ·skip
         have HP1:Hid (∀r,S.data.toList≠(⟨#[71,48,50]⟩:ByteArray).data.toList++r):=pre_not (p:= [71,48,50]) p1
         have HN2:Hid ((0 < 2→S.data.toList.take 3≠ [71,48,49])∧(1 < 2→S.data.toList.take 3≠ [71,48,50])∧(2 < 2→S.data.toList.take 3≠ [71,48,51])):=⟨fun _=>HN.out.1 (by decide),fun _=>p1,fun h=>absurd h (by decide)⟩
         clear p1
         go_wp2_with fail
         with_reducible refine (pre_no_c _ _ HP1 _).mono ?_
         rintro e w2 ⟨rfl,rfl⟩
         go_wp2_with fail
         go_round <;> first | exact ⟨2,by omega,HN2.out,rfl,rfl,rfl,trivial⟩| decide
       ·by_cases p1:S.data.toList.take 3= [71,48,51]
        ·skip
         have hq:=HL.out
         rw [if_neg (HN.out.1 (by decide)),if_neg (HN.out.2.1 (by decide)),if_pos p1] at hq
         unfold modeV at hq
         obtain ⟨T,hT⟩:=str_ex (S.data.toList.drop 3)
         have HP:Hid (S.data.toList=(⟨#[71,48,51]⟩:ByteArray).data.toList++T.data.toList):=by show _=_;rw [hT];exact pre_take (p:= [71,48,51]) p1
         rw [←hT] at hq
         have HT:Hid (T.size≤1000000000):=by
          show T.size≤_
          have h1:=congrArg List.length hT
          rw [len_list,List.length_drop,len_list] at h1
          have:=HS.out
          omega
         clear p1 hT
         obtain ⟨i0,hi0,hz0,hz1,hz2⟩:=info_parts info_cm
         have HI:=Lib.hid (And.intro hi0 (And.intro hz0 (And.intro hz1 hz2)))
         clear hi0 hz0 hz1 hz2
         by_cases hte:T.data.toList= []
         ·rw [if_pos hte] at hq
          have HQ:=Lib.hid hq
          have et:(T.toList== [])=true:=by rw [str_is];exact decide_eq_true hte
          clear hq hte
          go_wp2_with fail
          with_reducible refine (pre_yes_c _ _ _ HP _).mono ?_
          rintro e w2 ⟨rfl,rfl⟩
          rw [bs_eta]
          go_wp2_with ((at_builtin;refine wpList_append_own _ rfl _ _ _ rfl w.heap.size 104 i0 (.agg #[.int .i64 0, .int .i64 0, .int .i64 0, .int .i64 0, .bool false, .string ⟨#[]⟩, .string ⟨#[]⟩, .string ⟨#[]⟩, .string ⟨#[]⟩, .string ⟨#[]⟩, .slice none 0 0, .slice none 0 0]) 12 168 Tryz.underlying98 HI.out.1 HI.out.2.1 HI.out.2.2.1 HI.out.2.2.2 rfl (by omega) (.slice none 0 0) 0 [] (by rfl) ⟨rfl, .inl ⟨rfl,rfl⟩⟩ ⟨wr.heap.size,0,none⟩ 1 1 [.int .i64 0, .int .i64 2, .int .i64 3, .int .i64 0, .bool false, .string ⟨#[]⟩, .string ⟨#[]⟩, .string ⟨#[]⟩, .string ⟨#[]⟩, .string ⟨#[]⟩, .slice none 0 0, .slice none 0 0] (by rfl) rfl (World.news_of_block (heap_alloc_new wr _)) (by simp [Value.oneCell']) (by unfold maxLen;omega) (by omega) (by have:=HB.out.size;simp;omega) ?_;intro v' w' hown' hgrow' hnn';obtain ⟨g',cap',rfl,_,_⟩:=hown'.form (by omega);have HK:Hid (CmdsAt w.heap.size w' (.slice (some ⟨g',0,none⟩) (0+1) cap') (at0 [{kc 2 with n:=3}])∧Below w.heap.size w w'):=⟨CmdsAt.push (l:= []) (xs:= []) (v:= .slice none 0 0) (x:=(0,{kc 2 with n:=3})) (p:=none) (q:=none) (k:=0) (m:=0) ⟨rfl, .inl ⟨rfl,rfl⟩⟩ .nil (NumsIn.nil _ _ _) (BlksIn.nil _ _ _) ((Below.refl _ _).alloc (Nat.le_refl _) _) hgrow' hown',(HB.out.alloc HB.out.size _).grown hgrow' (by have:=HB.out.size;simp;omega) (fun k hk=>by simp [Value.ownBlock] at hk)⟩;clear hown' hgrow' hnn'))
          go_ret2
          rw [←HQ.out]
          exact ⟨HK.out.2,_,rfl,HK.out.1⟩
         ·rw [if_neg hte,restV_cons] at hq
          have HRES:=Lib.hid hq
          have et:(T.toList== [])=false:=by rw [str_is];exact decide_eq_false hte
          clear hq hte
          obtain ⟨RR,b,hany⟩:=pre_ex T ⟨#[68]⟩
          go_wp2_with fail
          with_reducible refine (pre_yes_c _ _ _ HP _).mono ?_
          rintro e w2 ⟨rfl,rfl⟩
          rw [bs_eta]
          go_wp2_with ((at_builtin;refine wpList_append_own _ rfl _ _ _ rfl w.heap.size 104 i0 (.agg #[.int .i64 0, .int .i64 0, .int .i64 0, .int .i64 0, .bool false, .string ⟨#[]⟩, .string ⟨#[]⟩, .string ⟨#[]⟩, .string ⟨#[]⟩, .string ⟨#[]⟩, .slice none 0 0, .slice none 0 0]) 12 168 Tryz.underlying98 HI.out.1 HI.out.2.1 HI.out.2.2.1 HI.out.2.2.2 rfl (by omega) (.slice none 0 0) 0 [] (by rfl) ⟨rfl, .inl ⟨rfl,rfl⟩⟩ ⟨wr.heap.size,0,none⟩ 1 1 [.int .i64 0, .int .i64 2, .int .i64 3, .int .i64 0, .bool false, .string ⟨#[]⟩, .string ⟨#[]⟩, .string ⟨#[]⟩, .string ⟨#[]⟩, .string ⟨#[]⟩, .slice none 0 0, .slice none 0 0] (by rfl) rfl (World.news_of_block (heap_alloc_new wr _)) (by simp [Value.oneCell']) (by unfold maxLen;omega) (by omega) (by have:=HB.out.size;simp;omega) ?_;intro v' w' hown' hgrow' hnn';obtain ⟨g',cap',rfl,_,_⟩:=hown'.form (by omega);have HK:Hid (CmdsAt w.heap.size w' (.slice (some ⟨g',0,none⟩) (0+1) cap') (at0 [{kc 2 with n:=3}])∧Below w.heap.size w w'):=⟨CmdsAt.push (l:= []) (xs:= []) (v:= .slice none 0 0) (x:=(0,{kc 2 with n:=3})) (p:=none) (q:=none) (k:=0) (m:=0) ⟨rfl, .inl ⟨rfl,rfl⟩⟩ .nil (NumsIn.nil _ _ _) (BlksIn.nil _ _ _) ((Below.refl _ _).alloc (Nat.le_refl _) _) hgrow' hown',(HB.out.alloc HB.out.size _).grown hgrow' (by have:=HB.out.size;simp;omega) (fun k hk=>by simp [Value.ownBlock] at hk)⟩;clear hown' hgrow' hnn'))
          with_reducible refine (hany _).mono ?_
          rintro e w3 ⟨rfl,rfl⟩
          clear hany
          cases b
          all_goals
           go_wp2_with fail
           obtain ⟨oo,hoo⟩:∃oo,opV T.data.toList=oo:=⟨_,rfl⟩
           have HOO:=Lib.hid hoo
           have hq:=HRES.out
           rw [hoo] at hq
           clear hoo
           with_reducible refine (oper_c T HT.out oo HOO _).mono ?_
           rintro e w5 ⟨hb5,c,p,kk,rfl,hn,hbk,hd⟩
           unfold cmVal cmCells
           cases oo with
           | none=>
            have HQ:Hid (Except.error 3=res):=hq
            have HB5:=Lib.hid (HK.out.2.trans (hb5.mono HK.out.2.size))
            clear hq hb5 hn hbk hd
            go_wp2_with fail
            go_ret2
            rw [←HQ.out]
            exact ⟨HB5.out.alloc HB5.out.size _,rfl⟩
           | some d=>
            obtain rfl:=hd d rfl
            have HQ:Hid (Except.ok ([{kc 2 with n:=3}] ++ [d])=res):=hq
            have HB5:=Lib.hid (HK.out.2.trans (hb5.mono HK.out.2.size))
            have HC5:=Lib.hid (HK.out.1.below hb5)
            have HN5:=Lib.hid (And.intro (hn.mono HK.out.2.size) hbk)
            obtain ⟨xs,hx5,hr5⟩:=HC5.out
            have HX5:Hid (World.ownsRow w5 w.heap.size 104 12 (.slice (some ⟨g',0,none⟩) (0+1) cap') 1 xs):=hx5
            have HR5:=Lib.hid hr5
            clear hq hb5 hn hbk hd hx5 hr5
            go_wp2_with ((at_builtin;refine wpList_append_own _ rfl _ _ _ rfl w.heap.size 104 i0 (.agg #[.int .i64 0, .int .i64 0, .int .i64 0, .int .i64 0, .bool false, .string ⟨#[]⟩, .string ⟨#[]⟩, .string ⟨#[]⟩, .string ⟨#[]⟩, .string ⟨#[]⟩, .slice none 0 0, .slice none 0 0]) 12 168 Tryz.underlying98 HI.out.1 HI.out.2.1 HI.out.2.2.1 HI.out.2.2.2 rfl (by omega) (.slice (some ⟨g',0,none⟩) (0+1) cap') 1 xs (by rfl) (row_below HX5.out (((Below.refl _ _).alloc (Nat.le_refl _) _).alloc (by simp) _)) ⟨w5.heap.size+1,0,none⟩ 1 1 [.int .i64 0, .int .i64 d.k, .int .i64 d.n, .int .i64 d.m, .bool d.on, .string ⟨d.t.toArray⟩, .string ⟨d.x.toArray⟩, .string ⟨d.y.toArray⟩, .string ⟨d.i.toArray⟩, .string ⟨d.j.toArray⟩, .slice p d.nums.length kk,nils] (by rfl) rfl (World.news_of_block (two_new w5 _ _)) (by simp [Value.oneCell']) (by unfold maxLen;omega) (by omega) (by have:=HB5.out.size;simp;omega) ?_;intro v' w' hown' hgrow' hnn';obtain ⟨g2,cap2,rfl,_,_⟩:=hown'.form (by omega);have HF:Hid (CmdsAt w.heap.size w' (.slice (some ⟨g2,0,none⟩) (1+1) cap2) (at0 ([{kc 2 with n:=3}] ++ [d]))∧Below w.heap.size w w'):=⟨CmdsAt.push (l:=at0 [{kc 2 with n:=3}]) (xs:=xs) (v:= .slice (some ⟨g',0,none⟩) (0+1) cap') (x:=(0,d)) (p:=p) (q:=none) (k:=kk) (m:=0) HX5.out HR5.out HN5.out.1 (by rw [HN5.out.2];exact BlksIn.nil _ _ _) (((Below.refl _ _).alloc (Nat.le_refl _) _).alloc (by simp) _) hgrow' (by rw [HN5.out.2];exact hown'),((HB5.out.alloc HB5.out.size _).alloc (Nat.le_trans HB5.out.size (by simp)) _).grown hgrow' (by have:=HB5.out.size;simp;omega) (fun k hk=>(HX5.out.lt _ hk).1)⟩;clear hown' hgrow' hnn'))
            go_ret2
            rw [←HQ.out]
            exact ⟨HF.out.2,_,rfl,HF.out.1⟩
        ·skip
         have HP1:Hid (∀r,S.data.toList≠(⟨#[71,48,51]⟩:ByteArray).data.toList++r):=pre_not (p:= [71,48,51]) p1
         have HN2:Hid ((0 < 3→S.data.toList.take 3≠ [71,48,49])∧(1 < 3→S.data.toList.take 3≠ [71,48,50])∧(2 < 3→S.data.toList.take 3≠ [71,48,51])):=⟨fun _=>HN.out.1 (by decide),fun _=>HN.out.2.1 (by decide),fun _=>p1⟩
         clear p1
         go_wp2_with fail
         with_reducible refine (pre_no_c _ _ HP1 _).mono ?_
         rintro e w2 ⟨rfl,rfl⟩
         go_wp2_with fail
         go_round <;> first | exact ⟨3,by omega,HN2.out,rfl,rfl,rfl,trivial⟩| decide
       ·skip
        have hq:=HL.out
        rw [if_neg (HN.out.1 (by decide)),if_neg (HN.out.2.1 (by decide)),if_neg (HN.out.2.2 (by decide))] at hq
        have HK:Hid (CmdsAt w.heap.size wr (.slice none 0 0) (at0 [])∧Below w.heap.size w wr):=⟨CmdsAt.nil _ _,HB.out⟩
        by_cases hD:S.data.toList≠ []∧S.data.toList.headD 0=68
        ·obtain ⟨r,hr⟩:∃r,S.data.toList=68 :: r:=by
          cases hS:S.data.toList with
          | nil=>exact absurd hS hD.1
          | cons a r=>
           have h2:=hD.2
           rw [hS] at h2
           exact ⟨r,by rw [show a=68 from h2]⟩
         obtain ⟨T,hT⟩:=str_ex r
         rw [←hT] at hr
         rw [hr,restV_yes,←hr] at hq
         have HP:Hid (S.data.toList=(⟨#[68]⟩:ByteArray).data.toList++T.data.toList):=hr
         have HT:Hid (T.size≤maxLen):=by
          show T.size≤_
          have h1:=congrArg List.length hr
          rw [List.length_cons,len_list,len_list] at h1
          have:=HS.out
          unfold maxLen
          omega
         obtain ⟨oc,hoc⟩:∃oc,codeV T.data.toList=oc:=⟨_,rfl⟩
         have HOC:=Lib.hid hoc
         rw [hoc] at hq
         clear hoc hD hr hT
         go_wp2_with fail
         with_reducible refine (pre_yes_c _ _ _ HP _).mono ?_
         rintro e w2 ⟨rfl,rfl⟩
         rw [bs_eta]
         cases oc with
         | some n=>
          have HQ:=Lib.hid hq
          clear hq
          go_wp2_with fail
          with_reducible refine (code_c T HT.out _ HOC _).mono ?_
          rintro e w3 ⟨hc,rfl⟩
          obtain rfl:e= .returned (.tuple #[.int .i64 ((n:Nat):Int), .bool true]):=hc
          go_wp2_with fail
          with_reducible refine (one_at 6 n 0 false [] [] [] [] [] _).mono ?_
          rintro e w4 ⟨hb,v,rfl,hc⟩
          have HC:=Lib.hid (And.intro hb hc)
          clear hb hc
          go_wp2_with fail
          go_ret2
          rw [←HQ.out]
          exact ⟨HK.out.2.trans (HC.out.1.mono HK.out.2.size),_,rfl,cmds_low HC.out.2 HK.out.2.size⟩
         | none=>
          have HRES:=Lib.hid hq
          clear hq
          go_wp2_with fail
          with_reducible refine (code_c T HT.out _ HOC _).mono ?_
          rintro e w3 ⟨hc,rfl⟩
          obtain rfl:e= .returned (.tuple #[.int .i64 ((0:Nat):Int), .bool false]):=hc
          go_wp2_with fail
          obtain ⟨i0,hi0,hz0,hz1,hz2⟩:=info_parts info_cm
          have HI:=Lib.hid (And.intro hi0 (And.intro hz0 (And.intro hz1 hz2)))
          clear hi0 hz0 hz1 hz2
          obtain ⟨oo,hoo⟩:∃oo,opV S.data.toList=oo:=⟨_,rfl⟩
          have HOO:=Lib.hid hoo
          have hq:=HRES.out
          rw [hoo] at hq
          clear hoo
          with_reducible refine (oper_c S HS.out oo HOO _).mono ?_
          rintro e w5 ⟨hb5,c,p,kk,rfl,hn,hbk,hd⟩
          unfold cmVal cmCells
          cases oo with
          | none=>
           have HQ:Hid (Except.error 3=res):=hq
           have HB5:=Lib.hid (HK.out.2.trans (hb5.mono HK.out.2.size))
           clear hq hb5 hn hbk hd
           go_wp2_with fail
           go_ret2
           rw [←HQ.out]
           exact ⟨HB5.out.alloc HB5.out.size _,rfl⟩
          | some d=>
           obtain rfl:=hd d rfl
           have HQ:Hid (Except.ok (([]:List C)++ [d])=res):=hq
           have HB5:=Lib.hid (HK.out.2.trans (hb5.mono HK.out.2.size))
           have HC5:=Lib.hid (HK.out.1.below hb5)
           have HN5:=Lib.hid (And.intro (hn.mono HK.out.2.size) hbk)
           obtain ⟨xs,hx5,hr5⟩:=HC5.out
           have HX5:Hid (World.ownsRow w5 w.heap.size 104 12 (.slice none 0 0) 0 xs):=hx5
           have HR5:=Lib.hid hr5
           clear hq hb5 hn hbk hd hx5 hr5
           go_wp2_with ((at_builtin;refine wpList_append_own _ rfl _ _ _ rfl w.heap.size 104 i0 (.agg #[.int .i64 0, .int .i64 0, .int .i64 0, .int .i64 0, .bool false, .string ⟨#[]⟩, .string ⟨#[]⟩, .string ⟨#[]⟩, .string ⟨#[]⟩, .string ⟨#[]⟩, .slice none 0 0, .slice none 0 0]) 12 168 Tryz.underlying98 HI.out.1 HI.out.2.1 HI.out.2.2.1 HI.out.2.2.2 rfl (by omega) (.slice none 0 0) 0 xs (by rfl) (row_below HX5.out (((Below.refl _ _).alloc (Nat.le_refl _) _).alloc (by simp) _)) ⟨w5.heap.size+1,0,none⟩ 1 1 [.int .i64 0, .int .i64 d.k, .int .i64 d.n, .int .i64 d.m, .bool d.on, .string ⟨d.t.toArray⟩, .string ⟨d.x.toArray⟩, .string ⟨d.y.toArray⟩, .string ⟨d.i.toArray⟩, .string ⟨d.j.toArray⟩, .slice p d.nums.length kk,nils] (by rfl) rfl (World.news_of_block (two_new w5 _ _)) (by simp [Value.oneCell']) (by unfold maxLen;omega) (by omega) (by have:=HB5.out.size;simp;omega) ?_;intro v' w' hown' hgrow' hnn';obtain ⟨g2,cap2,rfl,_,_⟩:=hown'.form (by omega);have HF:Hid (CmdsAt w.heap.size w' (.slice (some ⟨g2,0,none⟩) (0+1) cap2) (at0 (([]:List C)++ [d]))∧Below w.heap.size w w'):=⟨CmdsAt.push (l:=at0 ([]:List C)) (xs:=xs) (v:= .slice none 0 0) (x:=(0,d)) (p:=p) (q:=none) (k:=kk) (m:=0) HX5.out HR5.out HN5.out.1 (by rw [HN5.out.2];exact BlksIn.nil _ _ _) (((Below.refl _ _).alloc (Nat.le_refl _) _).alloc (by simp) _) hgrow' (by rw [HN5.out.2];exact hown'),((HB5.out.alloc HB5.out.size _).alloc (Nat.le_trans HB5.out.size (by simp)) _).grown hgrow' (by have:=HB5.out.size;simp;omega) (fun k hk=>(HX5.out.lt _ hk).1)⟩;clear hown' hgrow' hnn'))
           go_ret2
           rw [←HQ.out]
           exact ⟨HF.out.2,_,rfl,HF.out.1⟩
        ·rw [restV_no hD] at hq
         have HP:Hid (∀r,S.data.toList≠(⟨#[68]⟩:ByteArray).data.toList++r):=fun r hr=>hD (by rw [hr];exact ⟨by simp,rfl⟩)
         have HRES:=Lib.hid hq
         clear hq hD
         go_wp2_with fail
         with_reducible refine (pre_no_c _ _ HP _).mono ?_
         rintro e w2 ⟨rfl,rfl⟩
         go_wp2_with fail
         obtain ⟨i0,hi0,hz0,hz1,hz2⟩:=info_parts info_cm
         have HI:=Lib.hid (And.intro hi0 (And.intro hz0 (And.intro hz1 hz2)))
         clear hi0 hz0 hz1 hz2
         obtain ⟨oo,hoo⟩:∃oo,opV S.data.toList=oo:=⟨_,rfl⟩
         have HOO:=Lib.hid hoo
         have hq:=HRES.out
         rw [hoo] at hq
         clear hoo
         with_reducible refine (oper_c S HS.out oo HOO _).mono ?_
         rintro e w5 ⟨hb5,c,p,kk,rfl,hn,hbk,hd⟩
         unfold cmVal cmCells
         cases oo with
         | none=>
          have HQ:Hid (Except.error 3=res):=hq
          have HB5:=Lib.hid (HK.out.2.trans (hb5.mono HK.out.2.size))
          clear hq hb5 hn hbk hd
          go_wp2_with fail
          go_ret2
          rw [←HQ.out]
          exact ⟨HB5.out.alloc HB5.out.size _,rfl⟩
         | some d=>
          obtain rfl:=hd d rfl
          have HQ:Hid (Except.ok (([]:List C)++ [d])=res):=hq
          have HB5:=Lib.hid (HK.out.2.trans (hb5.mono HK.out.2.size))
          have HC5:=Lib.hid (HK.out.1.below hb5)
          have HN5:=Lib.hid (And.intro (hn.mono HK.out.2.size) hbk)
          obtain ⟨xs,hx5,hr5⟩:=HC5.out
          have HX5:Hid (World.ownsRow w5 w.heap.size 104 12 (.slice none 0 0) 0 xs):=hx5
          have HR5:=Lib.hid hr5
          clear hq hb5 hn hbk hd hx5 hr5
          go_wp2_with ((at_builtin;refine wpList_append_own _ rfl _ _ _ rfl w.heap.size 104 i0 (.agg #[.int .i64 0, .int .i64 0, .int .i64 0, .int .i64 0, .bool false, .string ⟨#[]⟩, .string ⟨#[]⟩, .string ⟨#[]⟩, .string ⟨#[]⟩, .string ⟨#[]⟩, .slice none 0 0, .slice none 0 0]) 12 168 Tryz.underlying98 HI.out.1 HI.out.2.1 HI.out.2.2.1 HI.out.2.2.2 rfl (by omega) (.slice none 0 0) 0 xs (by rfl) (row_below HX5.out (((Below.refl _ _).alloc (Nat.le_refl _) _).alloc (by simp) _)) ⟨w5.heap.size+1,0,none⟩ 1 1 [.int .i64 0, .int .i64 d.k, .int .i64 d.n, .int .i64 d.m, .bool d.on, .string ⟨d.t.toArray⟩, .string ⟨d.x.toArray⟩, .string ⟨d.y.toArray⟩, .string ⟨d.i.toArray⟩, .string ⟨d.j.toArray⟩, .slice p d.nums.length kk,nils] (by rfl) rfl (World.news_of_block (two_new w5 _ _)) (by simp [Value.oneCell']) (by unfold maxLen;omega) (by omega) (by have:=HB5.out.size;simp;omega) ?_;intro v' w' hown' hgrow' hnn';obtain ⟨g2,cap2,rfl,_,_⟩:=hown'.form (by omega);have HF:Hid (CmdsAt w.heap.size w' (.slice (some ⟨g2,0,none⟩) (0+1) cap2) (at0 (([]:List C)++ [d]))∧Below w.heap.size w w'):=⟨CmdsAt.push (l:=at0 ([]:List C)) (xs:=xs) (v:= .slice none 0 0) (x:=(0,d)) (p:=p) (q:=none) (k:=kk) (m:=0) HX5.out HR5.out HN5.out.1 (by rw [HN5.out.2];exact BlksIn.nil _ _ _) (((Below.refl _ _).alloc (Nat.le_refl _) _).alloc (by simp) _) hgrow' (by rw [HN5.out.2];exact hown'),((HB5.out.alloc HB5.out.size _).alloc (Nat.le_trans HB5.out.size (by simp)) _).grown hgrow' (by have:=HB5.out.size;simp;omega) (fun k hk=>(HX5.out.lt _ hk).1)⟩;clear hown' hgrow' hnn'))
          go_ret2
          rw [←HQ.out]
          exact ⟨HF.out.2,_,rfl,HF.out.1⟩
end Go.Proofs.YtfldplmgkeiimaaGreatDoor.GW
