/-
  Several texts of this proof in one: K6.
-/
import Derived.Test.YtfldplmgkeiimaaGreatDoorQ23
import Derived.Test.YtfldplmgkeiimaaGreatDoorShelf
import Derived.BigQuiet
set_option linter.unusedVariables false
set_option linter.unusedSimpArgs false
namespace Go.Proofs.YtfldplmgkeiimaaGreatDoor.GW
open Go.RowKit Go.Proofs.YtfldplmgkeiimaaGreatDoor.Base Go.Proofs.YtfldplmgkeiimaaGreatDoor.Dp Go.Proofs.YtfldplmgkeiimaaGreatDoor.DeciW Go.Proofs.YtfldplmgkeiimaaGreatDoor.Mem Go.Proofs.YtfldplmgkeiimaaGreatDoor.RdW Go.Proofs.YtfldplmgkeiimaaGreatDoor.Gp
set_option maxRecDepth 100000 in
set_option maxHeartbeats 12800000 in
theorem fixed_c (S:ByteArray) (o:Option C) (ho:Hid (fixedG.lookup S.data.toList=o)) (w:World):
  Calls Tryz.prog 131 #[.string S] w (CmdOut o w):=by
 have HZ:Hid (ZAt w (w.alloc (.cells #[.int .i64 0, .int .i64 0, .int .i64 0, .int .i64 0, .bool false, .string ⟨#[]⟩, .string ⟨#[]⟩, .string ⟨#[]⟩, .string ⟨#[]⟩, .string ⟨#[]⟩, .slice none 0 0, .slice none 0 0] 104))):=z_new w
 go_enter Tryz.func131,Tryz.ntmps131
 go_upto_region 1 with fail
 generalize w.alloc (.cells #[.int .i64 0, .int .i64 0, .int .i64 0, .int .i64 0, .bool false, .string ⟨#[]⟩, .string ⟨#[]⟩, .string ⟨#[]⟩, .string ⟨#[]⟩, .string ⟨#[]⟩, .slice none 0 0, .slice none 0 0] 104)=W at HZ⊢
 by_cases q1:S.data.toList= [77,79,77,77]
 ·have e1:(S.toList== [77,79,77,77])=true:=by rw [str_is];exact decide_eq_true q1
  have HQ:Hid (o=some {kc 9 with n:=1}):=by show _=_;rw [←ho.out,q1];rfl
  clear ho q1
  obtain ⟨⟨c0,c1,c2,c3,c4,c5,c6,c7,c8,c9,c10,c11⟩,f0,f1,f2,f3,f4,f5,f6,f7,f8,f9,f10,f11⟩:=cm_at HZ.out.a
  have HF:=Lib.hid (cm_fin HZ.out.b HZ.out.a {kc 9 with n:=1} 0 nils nils)
  go_wp2_with fail
  refine bodyPost_ret (w:=cmSet W w.heap.size {kc 9 with n:=1} 0 nils nils) (v:= .tuple #[cmVal {kc 9 with n:=1} 0 nils nils, .bool true]) ?_ rfl ⟨HF.out.2,{kc 9 with n:=1},none,0,?_,NumsIn.nil _ _ _,rfl,?_⟩
  ·clear c0 c1 c2 c3 c4 c5 c6 c7 c8 c9 c10 c11 f0 f1 f2 f3 f4 f5 f6 f7 f8 f9 f10 f11
   generalize cmSet W w.heap.size {kc 9 with n:=1} 0 nils nils=WE at HF⊢
   obtain ⟨⟨c0,c1,c2,c3,c4,c5,c6,c7,c8,c9,c10,c11⟩,_⟩:=cm_at HF.out.1
   simp [results,Tryz.results131,go_sem,c0,c1,c2,c3,c4,c5,c6,c7,c8,c9,c10,c11] <;> rfl
  ·rw [HQ.out];rfl
  ·rw [HQ.out];intro e he;exact (Option.some.inj he).symm
 ·have e1:(S.toList== [77,79,77,77])=false:=by rw [str_is];exact decide_eq_false q1
  by_cases q2:S.data.toList= [77,79,73,78]
  ·have e2:(S.toList== [77,79,73,78])=true:=by rw [str_is];exact decide_eq_true q2
   have HQ:Hid (o=some {kc 9 with n:=2}):=by show _=_;rw [←ho.out,q2];rfl
   clear ho q1 q2
   obtain ⟨⟨c0,c1,c2,c3,c4,c5,c6,c7,c8,c9,c10,c11⟩,f0,f1,f2,f3,f4,f5,f6,f7,f8,f9,f10,f11⟩:=cm_at HZ.out.a
   have HF:=Lib.hid (cm_fin HZ.out.b HZ.out.a {kc 9 with n:=2} 0 nils nils)
   go_wp2_with fail
   refine bodyPost_ret (w:=cmSet W w.heap.size {kc 9 with n:=2} 0 nils nils) (v:= .tuple #[cmVal {kc 9 with n:=2} 0 nils nils, .bool true]) ?_ rfl ⟨HF.out.2,{kc 9 with n:=2},none,0,?_,NumsIn.nil _ _ _,rfl,?_⟩
   ·clear c0 c1 c2 c3 c4 c5 c6 c7 c8 c9 c10 c11 f0 f1 f2 f3 f4 f5 f6 f7 f8 f9 f10 f11
    generalize cmSet W w.heap.size {kc 9 with n:=2} 0 nils nils=WE at HF⊢
    obtain ⟨⟨c0,c1,c2,c3,c4,c5,c6,c7,c8,c9,c10,c11⟩,_⟩:=cm_at HF.out.1
    simp [results,Tryz.results131,go_sem,c0,c1,c2,c3,c4,c5,c6,c7,c8,c9,c10,c11] <;> rfl
   ·rw [HQ.out];rfl
   ·rw [HQ.out];intro e he;exact (Option.some.inj he).symm
  ·have e2:(S.toList== [77,79,73,78])=false:=by rw [str_is];exact decide_eq_false q2
   by_cases q3:S.data.toList= [65,66]
   ·have e3:(S.toList== [65,66])=true:=by rw [str_is];exact decide_eq_true q3
    have HQ:Hid (o=some (kc 12)):=by show _=_;rw [←ho.out,q3];rfl
    clear ho q1 q2 q3
    obtain ⟨⟨c0,c1,c2,c3,c4,c5,c6,c7,c8,c9,c10,c11⟩,f0,f1,f2,f3,f4,f5,f6,f7,f8,f9,f10,f11⟩:=cm_at HZ.out.a
    have HF:=Lib.hid (cm_fin HZ.out.b HZ.out.a (kc 12) 0 nils nils)
    go_wp2_with fail
    refine bodyPost_ret (w:=cmSet W w.heap.size (kc 12) 0 nils nils) (v:= .tuple #[cmVal (kc 12) 0 nils nils, .bool true]) ?_ rfl ⟨HF.out.2,(kc 12),none,0,?_,NumsIn.nil _ _ _,rfl,?_⟩
    ·clear c0 c1 c2 c3 c4 c5 c6 c7 c8 c9 c10 c11 f0 f1 f2 f3 f4 f5 f6 f7 f8 f9 f10 f11
     generalize cmSet W w.heap.size (kc 12) 0 nils nils=WE at HF⊢
     obtain ⟨⟨c0,c1,c2,c3,c4,c5,c6,c7,c8,c9,c10,c11⟩,_⟩:=cm_at HF.out.1
     simp [results,Tryz.results131,go_sem,c0,c1,c2,c3,c4,c5,c6,c7,c8,c9,c10,c11] <;> rfl
    ·rw [HQ.out];rfl
    ·rw [HQ.out];intro e he;exact (Option.some.inj he).symm
   ·have e3:(S.toList== [65,66])=false:=by rw [str_is];exact decide_eq_false q3
    by_cases q4:S.data.toList= [83,82]
    ·have e4:(S.toList== [83,82])=true:=by rw [str_is];exact decide_eq_true q4
     have HQ:Hid (o=some (kc 14)):=by show _=_;rw [←ho.out,q4];rfl
     clear ho q1 q2 q3 q4
     obtain ⟨⟨c0,c1,c2,c3,c4,c5,c6,c7,c8,c9,c10,c11⟩,f0,f1,f2,f3,f4,f5,f6,f7,f8,f9,f10,f11⟩:=cm_at HZ.out.a
     have HF:=Lib.hid (cm_fin HZ.out.b HZ.out.a (kc 14) 0 nils nils)
     go_wp2_with fail
     refine bodyPost_ret (w:=cmSet W w.heap.size (kc 14) 0 nils nils) (v:= .tuple #[cmVal (kc 14) 0 nils nils, .bool true]) ?_ rfl ⟨HF.out.2,(kc 14),none,0,?_,NumsIn.nil _ _ _,rfl,?_⟩
     ·clear c0 c1 c2 c3 c4 c5 c6 c7 c8 c9 c10 c11 f0 f1 f2 f3 f4 f5 f6 f7 f8 f9 f10 f11
      generalize cmSet W w.heap.size (kc 14) 0 nils nils=WE at HF⊢
      obtain ⟨⟨c0,c1,c2,c3,c4,c5,c6,c7,c8,c9,c10,c11⟩,_⟩:=cm_at HF.out.1
      simp [results,Tryz.results131,go_sem,c0,c1,c2,c3,c4,c5,c6,c7,c8,c9,c10,c11] <;> rfl
     ·rw [HQ.out];rfl
     ·rw [HQ.out];intro e he;exact (Option.some.inj he).symm
    ·have e4:(S.toList== [83,82])=false:=by rw [str_is];exact decide_eq_false q4
     by_cases q5:S.data.toList= [76,80,68]
     ·have e5:(S.toList== [76,80,68])=true:=by rw [str_is];exact decide_eq_true q5
      have HQ:Hid (o=some {kc 15 with on:=true}):=by show _=_;rw [←ho.out,q5];rfl
      clear ho q1 q2 q3 q4 q5
      obtain ⟨⟨c0,c1,c2,c3,c4,c5,c6,c7,c8,c9,c10,c11⟩,f0,f1,f2,f3,f4,f5,f6,f7,f8,f9,f10,f11⟩:=cm_at HZ.out.a
      have HF:=Lib.hid (cm_fin HZ.out.b HZ.out.a {kc 15 with on:=true} 0 nils nils)
      go_wp2_with fail
      refine bodyPost_ret (w:=cmSet W w.heap.size {kc 15 with on:=true} 0 nils nils) (v:= .tuple #[cmVal {kc 15 with on:=true} 0 nils nils, .bool true]) ?_ rfl ⟨HF.out.2,{kc 15 with on:=true},none,0,?_,NumsIn.nil _ _ _,rfl,?_⟩
      ·clear c0 c1 c2 c3 c4 c5 c6 c7 c8 c9 c10 c11 f0 f1 f2 f3 f4 f5 f6 f7 f8 f9 f10 f11
       generalize cmSet W w.heap.size {kc 15 with on:=true} 0 nils nils=WE at HF⊢
       obtain ⟨⟨c0,c1,c2,c3,c4,c5,c6,c7,c8,c9,c10,c11⟩,_⟩:=cm_at HF.out.1
       simp [results,Tryz.results131,go_sem,c0,c1,c2,c3,c4,c5,c6,c7,c8,c9,c10,c11] <;> rfl
      ·rw [HQ.out];rfl
      ·rw [HQ.out];intro e he;exact (Option.some.inj he).symm
     ·have e5:(S.toList== [76,80,68])=false:=by rw [str_is];exact decide_eq_false q5
      by_cases q6:S.data.toList= [76,80,67]
      ·have e6:(S.toList== [76,80,67])=true:=by rw [str_is];exact decide_eq_true q6
       have HQ:Hid (o=some (kc 15)):=by show _=_;rw [←ho.out,q6];rfl
       clear ho q1 q2 q3 q4 q5 q6
       obtain ⟨⟨c0,c1,c2,c3,c4,c5,c6,c7,c8,c9,c10,c11⟩,f0,f1,f2,f3,f4,f5,f6,f7,f8,f9,f10,f11⟩:=cm_at HZ.out.a
       have HF:=Lib.hid (cm_fin HZ.out.b HZ.out.a (kc 15) 0 nils nils)
       go_wp2_with fail
       refine bodyPost_ret (w:=cmSet W w.heap.size (kc 15) 0 nils nils) (v:= .tuple #[cmVal (kc 15) 0 nils nils, .bool true]) ?_ rfl ⟨HF.out.2,(kc 15),none,0,?_,NumsIn.nil _ _ _,rfl,?_⟩
       ·clear c0 c1 c2 c3 c4 c5 c6 c7 c8 c9 c10 c11 f0 f1 f2 f3 f4 f5 f6 f7 f8 f9 f10 f11
        generalize cmSet W w.heap.size (kc 15) 0 nils nils=WE at HF⊢
        obtain ⟨⟨c0,c1,c2,c3,c4,c5,c6,c7,c8,c9,c10,c11⟩,_⟩:=cm_at HF.out.1
        simp [results,Tryz.results131,go_sem,c0,c1,c2,c3,c4,c5,c6,c7,c8,c9,c10,c11] <;> rfl
       ·rw [HQ.out];rfl
       ·rw [HQ.out];intro e he;exact (Option.some.inj he).symm
      ·have e6:(S.toList== [76,80,67])=false:=by rw [str_is];exact decide_eq_false q6
       by_cases q7:S.data.toList= [76,77,78]
       ·have e7:(S.toList== [76,77,78])=true:=by rw [str_is];exact decide_eq_true q7
        have HQ:Hid (o=some (kc 16)):=by show _=_;rw [←ho.out,q7];rfl
        clear ho q1 q2 q3 q4 q5 q6 q7
        obtain ⟨⟨c0,c1,c2,c3,c4,c5,c6,c7,c8,c9,c10,c11⟩,f0,f1,f2,f3,f4,f5,f6,f7,f8,f9,f10,f11⟩:=cm_at HZ.out.a
        have HF:=Lib.hid (cm_fin HZ.out.b HZ.out.a (kc 16) 0 nils nils)
        go_wp2_with fail
        refine bodyPost_ret (w:=cmSet W w.heap.size (kc 16) 0 nils nils) (v:= .tuple #[cmVal (kc 16) 0 nils nils, .bool true]) ?_ rfl ⟨HF.out.2,(kc 16),none,0,?_,NumsIn.nil _ _ _,rfl,?_⟩
        ·clear c0 c1 c2 c3 c4 c5 c6 c7 c8 c9 c10 c11 f0 f1 f2 f3 f4 f5 f6 f7 f8 f9 f10 f11
         generalize cmSet W w.heap.size (kc 16) 0 nils nils=WE at HF⊢
         obtain ⟨⟨c0,c1,c2,c3,c4,c5,c6,c7,c8,c9,c10,c11⟩,_⟩:=cm_at HF.out.1
         simp [results,Tryz.results131,go_sem,c0,c1,c2,c3,c4,c5,c6,c7,c8,c9,c10,c11] <;> rfl
        ·rw [HQ.out];rfl
        ·rw [HQ.out];intro e he;exact (Option.some.inj he).symm
       ·have e7:(S.toList== [76,77,78])=false:=by rw [str_is];exact decide_eq_false q7
        by_cases q8:S.data.toList= [76,77,88]
        ·have e8:(S.toList== [76,77,88])=true:=by rw [str_is];exact decide_eq_true q8
         have HQ:Hid (o=some {kc 16 with n:=1}):=by show _=_;rw [←ho.out,q8];rfl
         clear ho q1 q2 q3 q4 q5 q6 q7 q8
         obtain ⟨⟨c0,c1,c2,c3,c4,c5,c6,c7,c8,c9,c10,c11⟩,f0,f1,f2,f3,f4,f5,f6,f7,f8,f9,f10,f11⟩:=cm_at HZ.out.a
         have HF:=Lib.hid (cm_fin HZ.out.b HZ.out.a {kc 16 with n:=1} 0 nils nils)
         go_wp2_with fail
         refine bodyPost_ret (w:=cmSet W w.heap.size {kc 16 with n:=1} 0 nils nils) (v:= .tuple #[cmVal {kc 16 with n:=1} 0 nils nils, .bool true]) ?_ rfl ⟨HF.out.2,{kc 16 with n:=1},none,0,?_,NumsIn.nil _ _ _,rfl,?_⟩
         ·clear c0 c1 c2 c3 c4 c5 c6 c7 c8 c9 c10 c11 f0 f1 f2 f3 f4 f5 f6 f7 f8 f9 f10 f11
          generalize cmSet W w.heap.size {kc 16 with n:=1} 0 nils nils=WE at HF⊢
          obtain ⟨⟨c0,c1,c2,c3,c4,c5,c6,c7,c8,c9,c10,c11⟩,_⟩:=cm_at HF.out.1
          simp [results,Tryz.results131,go_sem,c0,c1,c2,c3,c4,c5,c6,c7,c8,c9,c10,c11] <;> rfl
         ·rw [HQ.out];rfl
         ·rw [HQ.out];intro e he;exact (Option.some.inj he).symm
        ·have e8:(S.toList== [76,77,88])=false:=by rw [str_is];exact decide_eq_false q8
         by_cases q9:S.data.toList= [76,77,89]
         ·have e9:(S.toList== [76,77,89])=true:=by rw [str_is];exact decide_eq_true q9
          have HQ:Hid (o=some {kc 16 with n:=2}):=by show _=_;rw [←ho.out,q9];rfl
          clear ho q1 q2 q3 q4 q5 q6 q7 q8 q9
          obtain ⟨⟨c0,c1,c2,c3,c4,c5,c6,c7,c8,c9,c10,c11⟩,f0,f1,f2,f3,f4,f5,f6,f7,f8,f9,f10,f11⟩:=cm_at HZ.out.a
          have HF:=Lib.hid (cm_fin HZ.out.b HZ.out.a {kc 16 with n:=2} 0 nils nils)
          go_wp2_with fail
          refine bodyPost_ret (w:=cmSet W w.heap.size {kc 16 with n:=2} 0 nils nils) (v:= .tuple #[cmVal {kc 16 with n:=2} 0 nils nils, .bool true]) ?_ rfl ⟨HF.out.2,{kc 16 with n:=2},none,0,?_,NumsIn.nil _ _ _,rfl,?_⟩
          ·clear c0 c1 c2 c3 c4 c5 c6 c7 c8 c9 c10 c11 f0 f1 f2 f3 f4 f5 f6 f7 f8 f9 f10 f11
           generalize cmSet W w.heap.size {kc 16 with n:=2} 0 nils nils=WE at HF⊢
           obtain ⟨⟨c0,c1,c2,c3,c4,c5,c6,c7,c8,c9,c10,c11⟩,_⟩:=cm_at HF.out.1
           simp [results,Tryz.results131,go_sem,c0,c1,c2,c3,c4,c5,c6,c7,c8,c9,c10,c11] <;> rfl
          ·rw [HQ.out];rfl
          ·rw [HQ.out];intro e he;exact (Option.some.inj he).symm
         ·have e9:(S.toList== [76,77,89])=false:=by rw [str_is];exact decide_eq_false q9
          by_cases q10:S.data.toList= [76,77,88,89]
          ·have e10:(S.toList== [76,77,88,89])=true:=by rw [str_is];exact decide_eq_true q10
           have HQ:Hid (o=some {kc 16 with n:=3}):=by show _=_;rw [←ho.out,q10];rfl
           clear ho q1 q2 q3 q4 q5 q6 q7 q8 q9 q10
           obtain ⟨⟨c0,c1,c2,c3,c4,c5,c6,c7,c8,c9,c10,c11⟩,f0,f1,f2,f3,f4,f5,f6,f7,f8,f9,f10,f11⟩:=cm_at HZ.out.a
           have HF:=Lib.hid (cm_fin HZ.out.b HZ.out.a {kc 16 with n:=3} 0 nils nils)
           go_wp2_with fail
           refine bodyPost_ret (w:=cmSet W w.heap.size {kc 16 with n:=3} 0 nils nils) (v:= .tuple #[cmVal {kc 16 with n:=3} 0 nils nils, .bool true]) ?_ rfl ⟨HF.out.2,{kc 16 with n:=3},none,0,?_,NumsIn.nil _ _ _,rfl,?_⟩
           ·clear c0 c1 c2 c3 c4 c5 c6 c7 c8 c9 c10 c11 f0 f1 f2 f3 f4 f5 f6 f7 f8 f9 f10 f11
            generalize cmSet W w.heap.size {kc 16 with n:=3} 0 nils nils=WE at HF⊢
            obtain ⟨⟨c0,c1,c2,c3,c4,c5,c6,c7,c8,c9,c10,c11⟩,_⟩:=cm_at HF.out.1
            simp [results,Tryz.results131,go_sem,c0,c1,c2,c3,c4,c5,c6,c7,c8,c9,c10,c11] <;> rfl
           ·rw [HQ.out];rfl
           ·rw [HQ.out];intro e he;exact (Option.some.inj he).symm
          ·have e10:(S.toList== [76,77,88,89])=false:=by rw [str_is];exact decide_eq_false q10
           have HQ:Hid (o=none):=by show _=_;rw [←ho.out];simp [fixedG,List.lookup_cons,beq_eq_false_iff_ne.2 q1,beq_eq_false_iff_ne.2 q2,beq_eq_false_iff_ne.2 q3,beq_eq_false_iff_ne.2 q4,beq_eq_false_iff_ne.2 q5,beq_eq_false_iff_ne.2 q6,beq_eq_false_iff_ne.2 q7,beq_eq_false_iff_ne.2 q8,beq_eq_false_iff_ne.2 q9,beq_eq_false_iff_ne.2 q10]
           clear ho q1 q2 q3 q4 q5 q6 q7 q8 q9 q10
           obtain ⟨⟨c0,c1,c2,c3,c4,c5,c6,c7,c8,c9,c10,c11⟩,f0,f1,f2,f3,f4,f5,f6,f7,f8,f9,f10,f11⟩:=cm_at HZ.out.a
           have HF:=Lib.hid (cm_fin HZ.out.b HZ.out.a Gp.c0 0 nils nils)
           go_wp2_with fail
           refine bodyPost_ret (w:=cmSet W w.heap.size Gp.c0 0 nils nils) (v:= .tuple #[cmVal Gp.c0 0 nils nils, .bool false]) ?_ rfl ⟨HF.out.2,Gp.c0,none,0,?_,NumsIn.nil _ _ _,rfl,?_⟩
           ·clear c0 c1 c2 c3 c4 c5 c6 c7 c8 c9 c10 c11 f0 f1 f2 f3 f4 f5 f6 f7 f8 f9 f10 f11
            generalize cmSet W w.heap.size Gp.c0 0 nils nils=WE at HF⊢
            obtain ⟨⟨c0,c1,c2,c3,c4,c5,c6,c7,c8,c9,c10,c11⟩,_⟩:=cm_at HF.out.1
            simp [results,Tryz.results131,go_sem,c0,c1,c2,c3,c4,c5,c6,c7,c8,c9,c10,c11] <;> rfl
           ·rw [HQ.out];rfl
           ·rw [HQ.out];intro e he;cases he
set_option maxRecDepth 100000 in
set_option maxHeartbeats 12800000 in
theorem block_c (S:ByteArray) (hs:S.size≤1000000000) (o:Option C) (ho:Hid (blkV S.data.toList=o)) (w:World):
  Calls Tryz.prog 134 #[.string S] w (CmdOut o w):=by
 have HS:=Lib.hid hs
 have hl:=ho.out
 unfold blkV at hl
 clear ho hs
 have HZ:Hid (ZAt w (w.alloc (.cells #[.int .i64 0, .int .i64 0, .int .i64 0, .int .i64 0, .bool false, .string ⟨#[]⟩, .string ⟨#[]⟩, .string ⟨#[]⟩, .string ⟨#[]⟩, .string ⟨#[]⟩, .slice none 0 0, .slice none 0 0] 104))):=z_new w
 go_enter Tryz.func134,Tryz.ntmps134
 go_upto_region 1 with fail
 generalize w.alloc (.cells #[.int .i64 0, .int .i64 0, .int .i64 0, .int .i64 0, .bool false, .string ⟨#[]⟩, .string ⟨#[]⟩, .string ⟨#[]⟩, .string ⟨#[]⟩, .string ⟨#[]⟩, .slice none 0 0, .slice none 0 0] 104)=W at HZ⊢
 by_cases hD:S.data.toList.headD 0≠68
 ·rw [if_pos hD] at hl
  have HQ:Hid (o=none):=hl.symm
  have HP:Hid (∀r,S.data.toList≠(⟨#[68]⟩:ByteArray).data.toList++r):=fun r hr=>hD (by rw [hr];rfl)
  clear hl hD
  go_wp2_with fail
  with_reducible refine (pre_no_c _ _ HP _).mono ?_
  rintro e w2 ⟨rfl,rfl⟩
  obtain ⟨⟨c0,c1,c2,c3,c4,c5,c6,c7,c8,c9,c10,c11⟩,f0,f1,f2,f3,f4,f5,f6,f7,f8,f9,f10,f11⟩:=cm_at HZ.out.a
  have HF:=Lib.hid (cm_fin HZ.out.b HZ.out.a Gp.c0 0 nils nils)
  go_wp2_with fail
  refine bodyPost_ret (w:=cmSet W w.heap.size Gp.c0 0 nils nils) (v:= .tuple #[cmVal Gp.c0 0 nils nils, .bool false]) ?_ rfl ⟨HF.out.2,Gp.c0,none,0,?_,NumsIn.nil _ _ _,rfl,?_⟩
  ·clear c0 c1 c2 c3 c4 c5 c6 c7 c8 c9 c10 c11 f0 f1 f2 f3 f4 f5 f6 f7 f8 f9 f10 f11
   generalize cmSet W w.heap.size Gp.c0 0 nils nils=WE at HF⊢
   obtain ⟨⟨c0,c1,c2,c3,c4,c5,c6,c7,c8,c9,c10,c11⟩,_⟩:=cm_at HF.out.1
   simp [results,Tryz.results134,go_sem,c0,c1,c2,c3,c4,c5,c6,c7,c8,c9,c10,c11] <;> rfl
  ·rw [HQ.out];rfl
  ·rw [HQ.out];intro e he;cases he
 ·rw [if_neg hD] at hl
  obtain ⟨r,hr⟩:∃r,S.data.toList=68 :: r:=by
   cases hS:S.data.toList with
   | nil=>exact absurd (by rw [hS];decide) hD
   | cons a r=>exact ⟨r,by rw [hS] at hD;rw [show a=68 from Decidable.of_not_not hD]⟩
  obtain ⟨T,hT⟩:=str_ex r
  rw [←hT] at hr
  rw [hr,List.drop_succ_cons,List.drop_zero] at hl
  have HP:Hid (S.data.toList=(⟨#[68]⟩:ByteArray).data.toList++T.data.toList):=hr
  have HT:Hid (T.size≤maxLen):=by
   show T.size≤_
   have h1:=congrArg List.length hr
   rw [List.length_cons,len_list,len_list] at h1
   have:=HS.out
   unfold maxLen
   omega
  obtain ⟨oc,hoc⟩:∃oc,codeV T.data.toList=oc:=⟨_,rfl⟩
  have HOC:=Lib.hid hoc
  rw [hoc] at hl
  clear hoc hD hr hT
  go_wp2_with fail
  with_reducible refine (pre_yes_c _ _ _ HP _).mono ?_
  rintro e w2 ⟨rfl,rfl⟩
  rw [bs_eta]
  go_wp2_with fail
  with_reducible refine (code_c T HT.out _ HOC _).mono ?_
  rintro e w3 ⟨hc,rfl⟩
  cases oc with
  | some n=>
   have HQ:Hid (o=some {kc 11 with n:=n}):=hl.symm
   obtain rfl:e= .returned (.tuple #[.int .i64 ((n:Nat):Int), .bool true]):=hc
   clear hl
   obtain ⟨⟨c0,c1,c2,c3,c4,c5,c6,c7,c8,c9,c10,c11⟩,f0,f1,f2,f3,f4,f5,f6,f7,f8,f9,f10,f11⟩:=cm_at HZ.out.a
   have HF:=Lib.hid (cm_fin HZ.out.b HZ.out.a {kc 11 with n:=(n:Int)} 0 nils nils)
   go_wp2_with fail
   refine bodyPost_ret (w:=cmSet W w.heap.size {kc 11 with n:=(n:Int)} 0 nils nils) (v:= .tuple #[cmVal {kc 11 with n:=(n:Int)} 0 nils nils, .bool true]) ?_ rfl ⟨HF.out.2,{kc 11 with n:=(n:Int)},none,0,?_,NumsIn.nil _ _ _,rfl,?_⟩
   ·clear c0 c1 c2 c3 c4 c5 c6 c7 c8 c9 c10 c11 f0 f1 f2 f3 f4 f5 f6 f7 f8 f9 f10 f11
    generalize cmSet W w.heap.size {kc 11 with n:=(n:Int)} 0 nils nils=WE at HF⊢
    obtain ⟨⟨c0,c1,c2,c3,c4,c5,c6,c7,c8,c9,c10,c11⟩,_⟩:=cm_at HF.out.1
    simp [results,Tryz.results134,go_sem,c0,c1,c2,c3,c4,c5,c6,c7,c8,c9,c10,c11] <;> rfl
   ·rw [HQ.out];rfl
   ·rw [HQ.out];intro e he;exact (Option.some.inj he).symm
  | none=>
   have HQ:Hid (o=none):=hl.symm
   obtain rfl:e= .returned (.tuple #[.int .i64 ((0:Nat):Int), .bool false]):=hc
   clear hl
   obtain ⟨⟨c0,c1,c2,c3,c4,c5,c6,c7,c8,c9,c10,c11⟩,f0,f1,f2,f3,f4,f5,f6,f7,f8,f9,f10,f11⟩:=cm_at HZ.out.a
   have HF:=Lib.hid (cm_fin HZ.out.b HZ.out.a (kc 11) 0 nils nils)
   go_wp2_with fail
   refine bodyPost_ret (w:=cmSet W w.heap.size (kc 11) 0 nils nils) (v:= .tuple #[cmVal (kc 11) 0 nils nils, .bool false]) ?_ rfl ⟨HF.out.2,(kc 11),none,0,?_,NumsIn.nil _ _ _,rfl,?_⟩
   ·clear c0 c1 c2 c3 c4 c5 c6 c7 c8 c9 c10 c11 f0 f1 f2 f3 f4 f5 f6 f7 f8 f9 f10 f11
    generalize cmSet W w.heap.size (kc 11) 0 nils nils=WE at HF⊢
    obtain ⟨⟨c0,c1,c2,c3,c4,c5,c6,c7,c8,c9,c10,c11⟩,_⟩:=cm_at HF.out.1
    simp [results,Tryz.results134,go_sem,c0,c1,c2,c3,c4,c5,c6,c7,c8,c9,c10,c11] <;> rfl
   ·rw [HQ.out];rfl
   ·rw [HQ.out];intro e he;cases he
end Go.Proofs.YtfldplmgkeiimaaGreatDoor.GW
namespace Go.Proofs.YtfldplmgkeiimaaGreatDoor.GW
open Go.RowKit Go.Proofs.YtfldplmgkeiimaaGreatDoor.Base Go.Proofs.YtfldplmgkeiimaaGreatDoor.Dp Go.Proofs.YtfldplmgkeiimaaGreatDoor.DeciW Go.Proofs.YtfldplmgkeiimaaGreatDoor.Mem Go.Proofs.YtfldplmgkeiimaaGreatDoor.RdW Go.Proofs.YtfldplmgkeiimaaGreatDoor.Gp
theorem idx_yes {l:List UInt8} {c:UInt8} (h:(l.takeWhile (· !=c)).length < l.length):Lib.indexByte l c=((l.takeWhile (· !=c)).length:Int):=by
 induction l with
 | nil=>exact absurd h (Nat.lt_irrefl _)
 | cons b l ih=>
  unfold Lib.indexByte
  by_cases hb:b=c
  ·rw [if_pos (by rw [hb];simp),List.takeWhile_cons_of_neg (by simp [hb])];rfl
  ·rw [List.takeWhile_cons_of_pos (by simp [hb])] at h⊢
   have h2:=ih (Nat.lt_of_succ_lt_succ h)
   rw [if_neg (by simp [hb]),h2,if_neg (by simp)]
   simp
theorem idx_no {l:List UInt8} {c:UInt8} (h:¬(l.takeWhile (· !=c)).length < l.length):Lib.indexByte l c= -1:=by
 induction l with
 | nil=>rfl
 | cons b l ih=>
  unfold Lib.indexByte
  by_cases hb:b=c
  ·exfalso;apply h;rw [List.takeWhile_cons_of_neg (by simp [hb])];simp
  ·rw [List.takeWhile_cons_of_pos (by simp [hb])] at h
   have h2:=ih (fun h3=>h (Nat.succ_lt_succ h3))
   rw [if_neg (by simp [hb]),h2];rfl
theorem cut_fst (c:UInt8) (l:List UInt8):(cutB c l).1=l.takeWhile (· !=c):=by
 unfold cutB
 split
 ·rfl
 ·rename_i h
  have h1:=List.takeWhile_append_dropWhile (p:=(· !=c)) (l:=l)
  have h2:=congrArg List.length h1
  rw [List.length_append] at h2
  have h3:l.dropWhile (· !=c)= []:=List.eq_nil_of_length_eq_zero (by omega)
  rw [h3,List.append_nil] at h1
  exact h1.symm
theorem take_tw (c:UInt8) (l:List UInt8):l.take (l.takeWhile (· !=c)).length=l.takeWhile (· !=c):=by
 have h1:=List.takeWhile_append_dropWhile (p:=(· !=c)) (l:=l)
 conv=>lhs;rw [←h1]
 rw [List.takeWhile_append_dropWhile]
 conv=>lhs;arg 2;rw [←h1]
 rw [List.take_left]
set_option maxRecDepth 100000 in
set_option maxHeartbeats 3200000 in
theorem cutl_c (S:ByteArray) (hs:S.size≤1000000000) (c:UInt8) (A R:ByteArray) (b:Bool) (h:Hid (cutB c S.data.toList=(A.data.toList,R.data.toList,b))) (w:World):
  Calls Tryz.prog 218 #[.string S, .string ⟨#[c]⟩] w fun e w'=>e= .returned (.tuple #[.string A, .string R, .bool b])∧Drew w w':=by
 have hh:=h.out
 unfold cutB at hh
 clear h
 by_cases hk:(S.data.toList.takeWhile (· !=c)).length < S.data.toList.length
 ·rw [if_pos hk] at hh
  have hi:=idx_yes hk
  have ht:=take_tw c S.data.toList
  obtain ⟨k,hkk⟩:∃k,(S.data.toList.takeWhile (· !=c)).length=k:=⟨_,rfl⟩
  rw [hkk] at hh hi hk ht
  rw [len_list] at hk
  simp only [Prod.mk.injEq] at hh
  obtain ⟨h1,h2,rfl⟩:=hh
  have HA:Hid (A=S.extract 0 k):=by
   show A=_
   refine str_eq ?_
   rw [tak_list,ht,h1]
  have HR:Hid (R=S.extract (k+1) S.size):=by
   show R=_
   refine str_eq ?_
   rw [ext_list,h2]
  have HI:=Lib.hid hi
  clear h1 h2 hi ht hkk
  go_enter Tryz.func218,Tryz.ntmps218
  go_wp2_with fail
  with_reducible refine (Tryz.stringslite_Index_one S c _).mono ?_
  rintro e w2 ⟨rfl,rfl⟩
  rw [HI.out]
  go_wp2_with fail
  go_region
  all_goals
   go_wp2_with fail
   go_ret3
   rw [HA.out,HR.out]
   exact ⟨by simp,1,rfl⟩
 ·rw [if_neg hk] at hh
  have HI:Hid (Lib.indexByte S.data.toList c= -1):=idx_no hk
  simp only [Prod.mk.injEq] at hh
  obtain ⟨h1,h2,rfl⟩:=hh
  obtain rfl:A=S:=str_eq h1.symm
  obtain rfl:R=⟨#[]⟩:=str_eq h2.symm
  clear h1 h2 hk
  go_enter Tryz.func218,Tryz.ntmps218
  go_wp2_with fail
  with_reducible refine (Tryz.stringslite_Index_one A c _).mono ?_
  rintro e w2 ⟨rfl,rfl⟩
  rw [HI.out]
  go_wp2_with fail
  go_ret3
  exact ⟨rfl,0,rfl⟩
set_option maxRecDepth 100000 in
set_option maxHeartbeats 800000 in
theorem cut_c (S:ByteArray) (hs:S.size≤1000000000) (c:UInt8) (A R:ByteArray) (b:Bool) (h:Hid (cutB c S.data.toList=(A.data.toList,R.data.toList,b))) (w:World):
  Calls Tryz.prog 177 #[.string S, .string ⟨#[c]⟩] w fun e w'=>e= .returned (.tuple #[.string A, .string R, .bool b])∧Drew w w':=by
 have HS:=Lib.hid hs
 clear hs
 go_enter Tryz.func177,Tryz.ntmps177
 go_wp2_with fail
 with_reducible refine (cutl_c S HS.out c A R b h _).mono ?_
 rintro e w2 ⟨rfl,hd⟩
 have HD:=Lib.hid hd
 clear hd
 go_wp2_with fail
 go_ret3
 exact ⟨rfl,HD.out⟩
end Go.Proofs.YtfldplmgkeiimaaGreatDoor.GW
namespace Go.Proofs.YtfldplmgkeiimaaGreatDoor.GW
open Go.RowKit Go.Proofs.YtfldplmgkeiimaaGreatDoor.Base Go.Proofs.YtfldplmgkeiimaaGreatDoor.Dp Go.Proofs.YtfldplmgkeiimaaGreatDoor.DeciW Go.Proofs.YtfldplmgkeiimaaGreatDoor.Mem Go.Proofs.YtfldplmgkeiimaaGreatDoor.RdW Go.Proofs.YtfldplmgkeiimaaGreatDoor.Gp
theorem cutB_len1 (c:UInt8) (l:List UInt8):(cutB c l).1.length≤l.length:=by
 rw [cut_fst]
 exact (List.takeWhile_sublist _).length_le
theorem cutB_len2 (c:UInt8) (l:List UInt8):(cutB c l).2.1.length≤l.length:=by
 unfold cutB
 split
 ·rw [List.length_drop];omega
 ·exact Nat.zero_le _
set_option maxRecDepth 100000 in
set_option maxHeartbeats 12800000 in
theorem step_c (S:ByteArray) (hs:S.size≤1000000000) (o:Option C) (ho:Hid (Gp.stepG S.data.toList=o)) (w:World):
  Calls Tryz.prog 135 #[.string S] w (CmdOut o w):=by
 have HS:=Lib.hid hs
 have hl:=ho.out
 unfold Gp.stepG at hl
 clear ho hs
 have HZ:Hid (ZAt w (w.alloc (.cells #[.int .i64 0, .int .i64 0, .int .i64 0, .int .i64 0, .bool false, .string ⟨#[]⟩, .string ⟨#[]⟩, .string ⟨#[]⟩, .string ⟨#[]⟩, .string ⟨#[]⟩, .slice none 0 0, .slice none 0 0] 104))):=z_new w
 go_enter Tryz.func135,Tryz.ntmps135
 go_upto_region 1 with fail
 generalize w.alloc (.cells #[.int .i64 0, .int .i64 0, .int .i64 0, .int .i64 0, .bool false, .string ⟨#[]⟩, .string ⟨#[]⟩, .string ⟨#[]⟩, .string ⟨#[]⟩, .string ⟨#[]⟩, .slice none 0 0, .slice none 0 0] 104)=W at HZ⊢
 by_cases hD:S.data.toList.headD 0≠88
 ·rw [if_pos hD] at hl
  have HQ:Hid (o=none):=hl.symm
  have HP:Hid (∀r,S.data.toList≠(⟨#[88]⟩:ByteArray).data.toList++r):=fun r hr=>hD (by rw [hr];rfl)
  clear hl hD
  go_wp2_with fail
  with_reducible refine (pre_no_c _ _ HP _).mono ?_
  rintro e w2 ⟨rfl,rfl⟩
  obtain ⟨⟨c0,c1,c2,c3,c4,c5,c6,c7,c8,c9,c10,c11⟩,f0,f1,f2,f3,f4,f5,f6,f7,f8,f9,f10,f11⟩:=cm_at HZ.out.a
  have HF:=Lib.hid (cm_fin HZ.out.b HZ.out.a Gp.c0 0 nils nils)
  go_wp2_with fail
  refine bodyPost_ret (w:=cmSet W w.heap.size Gp.c0 0 nils nils) (v:= .tuple #[cmVal Gp.c0 0 nils nils, .bool false]) ?_ rfl ⟨HF.out.2,Gp.c0,none,0,?_,NumsIn.nil _ _ _,rfl,?_⟩
  ·clear c0 c1 c2 c3 c4 c5 c6 c7 c8 c9 c10 c11 f0 f1 f2 f3 f4 f5 f6 f7 f8 f9 f10 f11
   generalize cmSet W w.heap.size Gp.c0 0 nils nils=WE at HF⊢
   obtain ⟨⟨c0,c1,c2,c3,c4,c5,c6,c7,c8,c9,c10,c11⟩,_⟩:=cm_at HF.out.1
   simp [results,Tryz.results135,go_sem,c0,c1,c2,c3,c4,c5,c6,c7,c8,c9,c10,c11] <;> rfl
  ·rw [HQ.out];rfl
  ·rw [HQ.out];intro e he;cases he
 ·rw [if_neg hD] at hl
  obtain ⟨r,hr⟩:∃r,S.data.toList=88 :: r:=by
   cases hS:S.data.toList with
   | nil=>exact absurd (by rw [hS];decide) hD
   | cons a r=>exact ⟨r,by rw [hS] at hD;rw [show a=88 from Decidable.of_not_not hD]⟩
  obtain ⟨T,hT⟩:=str_ex r
  rw [←hT] at hr
  rw [hr,List.drop_succ_cons,List.drop_zero] at hl
  have HP:Hid (S.data.toList=(⟨#[88]⟩:ByteArray).data.toList++T.data.toList):=hr
  have hTs:T.size≤1000000000:=by
   have h1:=congrArg List.length hr
   rw [List.length_cons,len_list,len_list] at h1
   have:=HS.out
   omega
  obtain ⟨A1,hA1⟩:=str_ex (cutB 89 T.data.toList).1
  obtain ⟨R1,hR1⟩:=str_ex (cutB 89 T.data.toList).2.1
  obtain ⟨b1,hb1⟩:∃b,(cutB 89 T.data.toList).2.2=b:=⟨_,rfl⟩
  have H1:Hid (cutB 89 T.data.toList=(A1.data.toList,R1.data.toList,b1)):=by show _=_;rw [hA1,hR1,←hb1]
  have l1:A1.size≤1000000000∧R1.size≤1000000000:=by
   have h1:=cutB_len1 89 T.data.toList
   have h2:=cutB_len2 89 T.data.toList
   rw [←hA1,len_list,len_list] at h1
   rw [←hR1,len_list,len_list] at h2
   omega
  rw [←hA1,←hR1] at hl
  clear hA1 hR1 hb1
  have HL1:Hid (A1.size≤1000000000∧R1.size≤1000000000):=l1
  obtain ⟨A2,hA2⟩:=str_ex (cutB 73 R1.data.toList).1
  obtain ⟨R2,hR2⟩:=str_ex (cutB 73 R1.data.toList).2.1
  obtain ⟨b2,hb2⟩:∃b,(cutB 73 R1.data.toList).2.2=b:=⟨_,rfl⟩
  have H2:Hid (cutB 73 R1.data.toList=(A2.data.toList,R2.data.toList,b2)):=by show _=_;rw [hA2,hR2,←hb2]
  have l2:A2.size≤1000000000∧R2.size≤1000000000:=by
   have h1:=cutB_len1 73 R1.data.toList
   have h2:=cutB_len2 73 R1.data.toList
   rw [←hA2,len_list,len_list] at h1
   rw [←hR2,len_list,len_list] at h2
   omega
  rw [←hA2,←hR2] at hl
  clear hA2 hR2 hb2
  have HL2:Hid (A2.size≤1000000000∧R2.size≤1000000000):=l2
  obtain ⟨A3,hA3⟩:=str_ex (cutB 74 R2.data.toList).1
  obtain ⟨R3,hR3⟩:=str_ex (cutB 74 R2.data.toList).2.1
  obtain ⟨b3,hb3⟩:∃b,(cutB 74 R2.data.toList).2.2=b:=⟨_,rfl⟩
  have H3:Hid (cutB 74 R2.data.toList=(A3.data.toList,R3.data.toList,b3)):=by show _=_;rw [hA3,hR3,←hb3]
  have l3:A3.size≤1000000000∧R3.size≤1000000000:=by
   have h1:=cutB_len1 74 R2.data.toList
   have h2:=cutB_len2 74 R2.data.toList
   rw [←hA3,len_list,len_list] at h1
   rw [←hR3,len_list,len_list] at h2
   omega
  rw [←hA3,←hR3] at hl
  clear hA3 hR3 hb3
  have HL3:Hid (A3.size≤1000000000∧R3.size≤1000000000):=l3
  obtain ⟨o1,ho1⟩:∃o,countG A1.data.toList=o:=⟨_,rfl⟩
  obtain ⟨o2,ho2⟩:∃o,countG A2.data.toList=o:=⟨_,rfl⟩
  obtain ⟨o3,ho3⟩:∃o,dec A3.data.toList=o:=⟨_,rfl⟩
  obtain ⟨o4,ho4⟩:∃o,dec R3.data.toList=o:=⟨_,rfl⟩
  rw [ho1,ho2,ho3,ho4] at hl
  have HO1:=Lib.hid ho1
  have HO2:=Lib.hid ho2
  have HO3:Hid ((dec A3.data.toList).getD 0=o3.getD 0∧(dec A3.data.toList).isSome=o3.isSome):=by show _∧_;rw [ho3];exact ⟨rfl,rfl⟩
  have HO4:Hid ((dec R3.data.toList).getD 0=o4.getD 0∧(dec R3.data.toList).isSome=o4.isSome):=by show _∧_;rw [ho4];exact ⟨rfl,rfl⟩
  have HQ0:=Lib.hid hl
  have HTS:=Lib.hid hTs
  clear ho1 ho2 ho3 ho4 hl hTs l1 l2 l3 hr hT hD
  go_wp2_with fail
  with_reducible refine (pre_yes_c _ _ _ HP _).mono ?_
  rintro e w2 ⟨rfl,rfl⟩
  rw [bs_eta]
  go_wp2_with fail
  with_reducible refine (cut_c T HTS.out 89 A1 R1 b1 H1 _).mono ?_
  rintro e w3 ⟨rfl,hd⟩
  have HZ1:=Lib.hid (HZ.out.below (drew_below hd))
  clear hd HZ
  have HZ:=HZ1
  clear HZ1
  go_wp2_with fail
  with_reducible refine (cut_c R1 HL1.out.2 73 A2 R2 b2 H2 _).mono ?_
  rintro e w4 ⟨rfl,hd⟩
  have HZ2:=Lib.hid (HZ.out.below (drew_below hd))
  clear hd HZ
  have HZ:=HZ2
  clear HZ2
  go_wp2_with fail
  with_reducible refine (cut_c R2 HL2.out.2 74 A3 R3 b3 H3 _).mono ?_
  rintro e w5 ⟨rfl,hd⟩
  have HZ3:=Lib.hid (HZ.out.below (drew_below hd))
  clear hd HZ
  have HZ:=HZ3
  clear HZ3
  go_wp2_with fail
  with_reducible refine (count_c A1 (Nat.le_trans HL1.out.1 (by decide)) o1 HO1 _).mono ?_
  rintro e w6 ⟨he,rfl⟩
  unfold CntOut at he
  subst he
  go_wp2_with fail
  with_reducible refine (count_c A2 (Nat.le_trans HL2.out.1 (by decide)) o2 HO2 _).mono ?_
  rintro e w6 ⟨he,rfl⟩
  unfold CntOut at he
  subst he
  go_wp2_with fail
  with_reducible refine (parse_at A3 _ _ HO3 (Nat.le_trans HL3.out.1 (by decide)) _).mono ?_
  rintro e w6 ⟨rfl,rfl⟩
  go_wp2_with fail
  with_reducible refine (parse_at R3 _ _ HO4 (Nat.le_trans HL3.out.2 (by decide)) _).mono ?_
  rintro e w6 ⟨rfl,rfl⟩
  cases o1 with
  | none=>
   have HQ:Hid (o=none):=HQ0.out.symm
   clear HQ0
   simp only [Option.isSome_none,Option.getD_none]
   obtain ⟨⟨c0,c1,c2,c3,c4,c5,c6,c7,c8,c9,c10,c11⟩,f0,f1,f2,f3,f4,f5,f6,f7,f8,f9,f10,f11⟩:=cm_at HZ.out.a
   have HF:=Lib.hid (cm_fin HZ.out.b HZ.out.a Gp.c0 0 nils nils)
   go_wp2_with fail
   refine bodyPost_ret (w:=cmSet w5 w.heap.size Gp.c0 0 nils nils) (v:= .tuple #[cmVal Gp.c0 0 nils nils, .bool false]) ?_ rfl ⟨HF.out.2,Gp.c0,none,0,?_,NumsIn.nil _ _ _,rfl,?_⟩
   ·clear c0 c1 c2 c3 c4 c5 c6 c7 c8 c9 c10 c11 f0 f1 f2 f3 f4 f5 f6 f7 f8 f9 f10 f11
    generalize cmSet w5 w.heap.size Gp.c0 0 nils nils=WE at HF⊢
    obtain ⟨⟨c0,c1,c2,c3,c4,c5,c6,c7,c8,c9,c10,c11⟩,_⟩:=cm_at HF.out.1
    simp [results,Tryz.results135,go_sem,c0,c1,c2,c3,c4,c5,c6,c7,c8,c9,c10,c11] <;> rfl
   ·rw [HQ.out];rfl
   ·rw [HQ.out];intro e he;cases he
  | some v1=>
   cases o2 with
   | none=>
    have HQ:Hid (o=none):=HQ0.out.symm
    clear HQ0
    simp only [Option.isSome_none,Option.getD_none,Option.isSome_some,Option.getD_some]
    obtain ⟨⟨c0,c1,c2,c3,c4,c5,c6,c7,c8,c9,c10,c11⟩,f0,f1,f2,f3,f4,f5,f6,f7,f8,f9,f10,f11⟩:=cm_at HZ.out.a
    have HF:=Lib.hid (cm_fin HZ.out.b HZ.out.a Gp.c0 0 nils nils)
    go_wp2_with fail
    refine bodyPost_ret (w:=cmSet w5 w.heap.size Gp.c0 0 nils nils) (v:= .tuple #[cmVal Gp.c0 0 nils nils, .bool false]) ?_ rfl ⟨HF.out.2,Gp.c0,none,0,?_,NumsIn.nil _ _ _,rfl,?_⟩
    ·clear c0 c1 c2 c3 c4 c5 c6 c7 c8 c9 c10 c11 f0 f1 f2 f3 f4 f5 f6 f7 f8 f9 f10 f11
     generalize cmSet w5 w.heap.size Gp.c0 0 nils nils=WE at HF⊢
     obtain ⟨⟨c0,c1,c2,c3,c4,c5,c6,c7,c8,c9,c10,c11⟩,_⟩:=cm_at HF.out.1
     simp [results,Tryz.results135,go_sem,c0,c1,c2,c3,c4,c5,c6,c7,c8,c9,c10,c11] <;> rfl
    ·rw [HQ.out];rfl
    ·rw [HQ.out];intro e he;cases he
   | some v2=>
    cases o3 with
    | none=>
     have HQ:Hid (o=none):=HQ0.out.symm
     clear HQ0
     simp only [Option.isSome_none,Option.getD_none,Option.isSome_some,Option.getD_some]
     obtain ⟨⟨c0,c1,c2,c3,c4,c5,c6,c7,c8,c9,c10,c11⟩,f0,f1,f2,f3,f4,f5,f6,f7,f8,f9,f10,f11⟩:=cm_at HZ.out.a
     have HF:=Lib.hid (cm_fin HZ.out.b HZ.out.a Gp.c0 0 nils nils)
     go_wp2_with fail
     refine bodyPost_ret (w:=cmSet w5 w.heap.size Gp.c0 0 nils nils) (v:= .tuple #[cmVal Gp.c0 0 nils nils, .bool false]) ?_ rfl ⟨HF.out.2,Gp.c0,none,0,?_,NumsIn.nil _ _ _,rfl,?_⟩
     ·clear c0 c1 c2 c3 c4 c5 c6 c7 c8 c9 c10 c11 f0 f1 f2 f3 f4 f5 f6 f7 f8 f9 f10 f11
      generalize cmSet w5 w.heap.size Gp.c0 0 nils nils=WE at HF⊢
      obtain ⟨⟨c0,c1,c2,c3,c4,c5,c6,c7,c8,c9,c10,c11⟩,_⟩:=cm_at HF.out.1
      simp [results,Tryz.results135,go_sem,c0,c1,c2,c3,c4,c5,c6,c7,c8,c9,c10,c11] <;> rfl
     ·rw [HQ.out];rfl
     ·rw [HQ.out];intro e he;cases he
    | some v3=>
     cases o4 with
     | none=>
      have HQ:Hid (o=none):=HQ0.out.symm
      clear HQ0
      simp only [Option.isSome_none,Option.getD_none,Option.isSome_some,Option.getD_some]
      obtain ⟨⟨c0,c1,c2,c3,c4,c5,c6,c7,c8,c9,c10,c11⟩,f0,f1,f2,f3,f4,f5,f6,f7,f8,f9,f10,f11⟩:=cm_at HZ.out.a
      have HF:=Lib.hid (cm_fin HZ.out.b HZ.out.a Gp.c0 0 nils nils)
      go_wp2_with fail
      refine bodyPost_ret (w:=cmSet w5 w.heap.size Gp.c0 0 nils nils) (v:= .tuple #[cmVal Gp.c0 0 nils nils, .bool false]) ?_ rfl ⟨HF.out.2,Gp.c0,none,0,?_,NumsIn.nil _ _ _,rfl,?_⟩
      ·clear c0 c1 c2 c3 c4 c5 c6 c7 c8 c9 c10 c11 f0 f1 f2 f3 f4 f5 f6 f7 f8 f9 f10 f11
       generalize cmSet w5 w.heap.size Gp.c0 0 nils nils=WE at HF⊢
       obtain ⟨⟨c0,c1,c2,c3,c4,c5,c6,c7,c8,c9,c10,c11⟩,_⟩:=cm_at HF.out.1
       simp [results,Tryz.results135,go_sem,c0,c1,c2,c3,c4,c5,c6,c7,c8,c9,c10,c11] <;> rfl
      ·rw [HQ.out];rfl
      ·rw [HQ.out];intro e he;cases he
     | some v4=>
      have HQ:Hid (o=some {kc 13 with n:=(v1:Int),m:=(v2:Int),nums:= [v3,v4]}):=HQ0.out.symm
      clear HQ0
      simp only [Option.isSome_some,Option.getD_some]
      have HN:Hid (NumsIn w5.heap.size (w5.alloc (.cells #[.int .i64 v3, .int .i64 v4] 2)) (some ⟨w5.heap.size,0,none⟩) [v3,v4]):=by
       intro _
       refine ⟨w5.heap.size,0,_,rfl,Nat.le_refl _,heap_alloc_new w5 _,fun i hi=>?_⟩
       have h2:i < 2:=hi
       have h3:i=0∨i=1:=by omega
       rcases h3 with rfl | rfl <;> rfl
      have HZA:Hid (ZAt w (w5.alloc (.cells #[.int .i64 v3, .int .i64 v4] 2))):=HZ.out.below ((Below.refl _ _).alloc (Nat.le_refl _) _)
      have HSZ:Hid (w.heap.size < w5.heap.size):=(Array.getElem?_eq_some_iff.1 HZ.out.a).1
      clear HZ
      obtain ⟨⟨c0,c1,c2,c3,c4,c5,c6,c7,c8,c9,c10,c11⟩,f0,f1,f2,f3,f4,f5,f6,f7,f8,f9,f10,f11⟩:=cm_at HZA.out.a
      have HF:=Lib.hid (cm_fin HZA.out.b HZA.out.a {kc 13 with n:=(v1:Int),m:=(v2:Int),nums:= [v3,v4]} 0 (.slice (some ⟨w5.heap.size,0,none⟩) 2 2) nils)
      have HNN:=Lib.hid ((cmSet_nums HSZ.out HN.out {kc 13 with n:=(v1:Int),m:=(v2:Int),nums:= [v3,v4]} 0 (.slice (some ⟨w5.heap.size,0,none⟩) 2 2) nils).mono (Nat.le_of_lt HSZ.out))
      go_wp2_with fail
      refine bodyPost_ret (w:=cmSet (w5.alloc (.cells #[.int .i64 v3, .int .i64 v4] 2)) w.heap.size {kc 13 with n:=(v1:Int),m:=(v2:Int),nums:= [v3,v4]} 0 (.slice (some ⟨w5.heap.size,0,none⟩) 2 2) nils) (v:= .tuple #[cmVal {kc 13 with n:=(v1:Int),m:=(v2:Int),nums:= [v3,v4]} 0 (.slice (some ⟨w5.heap.size,0,none⟩) 2 2) nils, .bool true]) ?_ rfl ⟨HF.out.2,{kc 13 with n:=(v1:Int),m:=(v2:Int),nums:= [v3,v4]},_,2,?_,HNN.out,rfl,?_⟩
      ·clear c0 c1 c2 c3 c4 c5 c6 c7 c8 c9 c10 c11 f0 f1 f2 f3 f4 f5 f6 f7 f8 f9 f10 f11
       generalize cmSet (w5.alloc (.cells #[.int .i64 v3, .int .i64 v4] 2)) w.heap.size {kc 13 with n:=(v1:Int),m:=(v2:Int),nums:= [v3,v4]} 0 (.slice (some ⟨w5.heap.size,0,none⟩) 2 2) nils=WE at HF⊢
       obtain ⟨⟨c0,c1,c2,c3,c4,c5,c6,c7,c8,c9,c10,c11⟩,_⟩:=cm_at HF.out.1
       simp [results,Tryz.results135,go_sem,c0,c1,c2,c3,c4,c5,c6,c7,c8,c9,c10,c11] <;> rfl
      ·rw [HQ.out];rfl
      ·rw [HQ.out];intro e he;exact (Option.some.inj he).symm
end Go.Proofs.YtfldplmgkeiimaaGreatDoor.GW
namespace Go.Proofs.YtfldplmgkeiimaaGreatDoor.GW
open Go.RowKit Go.Proofs.YtfldplmgkeiimaaGreatDoor.Base Go.Proofs.YtfldplmgkeiimaaGreatDoor.Dp Go.Proofs.YtfldplmgkeiimaaGreatDoor.DeciW Go.Proofs.YtfldplmgkeiimaaGreatDoor.Mem Go.Proofs.YtfldplmgkeiimaaGreatDoor.RdW Go.Proofs.YtfldplmgkeiimaaGreatDoor.Gp
theorem byte_bne {c:UInt8} {k:Nat} (hk:k < 256) (h:c≠UInt8.ofNat k):((c.toNat:Int) !=(k:Int))=true:=by rw [bne,byte_ne hk h];rfl
set_option maxRecDepth 100000 in
set_option maxHeartbeats 12800000 in
theorem format_c (S:ByteArray) (hs:S.size≤1000000000) (o:Option C) (ho:Hid (formatV S.data.toList=o)) (w:World):
  Calls Tryz.prog 132 #[.string S] w (CmdOut o w):=by
 have HS:=Lib.hid hs
 have hl:=ho.out
 unfold formatV at hl
 rw [len_list] at hl
 clear ho hs
 have HZ:Hid (ZAt w (w.alloc (.cells #[.int .i64 0, .int .i64 0, .int .i64 0, .int .i64 0, .bool false, .string ⟨#[]⟩, .string ⟨#[]⟩, .string ⟨#[]⟩, .string ⟨#[]⟩, .string ⟨#[]⟩, .slice none 0 0, .slice none 0 0] 104))):=z_new w
 go_enter Tryz.func132,Tryz.ntmps132
 go_upto_region 1 with fail
 generalize w.alloc (.cells #[.int .i64 0, .int .i64 0, .int .i64 0, .int .i64 0, .bool false, .string ⟨#[]⟩, .string ⟨#[]⟩, .string ⟨#[]⟩, .string ⟨#[]⟩, .string ⟨#[]⟩, .slice none 0 0, .slice none 0 0] 104)=W at HZ⊢
 by_cases h8:S.size≠8
 ·rw [if_pos (.inl h8)] at hl
  have HQ:Hid (o=none):=hl.symm
  have h8n:((S.size:Int) !=8)=true:=by simp;omega
  clear hl h8
  go_quiet (fail)
  generalize hW2:W.drewN _=W2
  have HZ2:=Lib.hid (HZ.out.below (drew_below ⟨_,hW2.symm⟩))
  clear hW2 HZ
  have HZ:=HZ2
  clear HZ2
  obtain ⟨⟨c0,c1,c2,c3,c4,c5,c6,c7,c8,c9,c10,c11⟩,f0,f1,f2,f3,f4,f5,f6,f7,f8,f9,f10,f11⟩:=cm_at HZ.out.a
  have HF:=Lib.hid (cm_fin HZ.out.b HZ.out.a Gp.c0 0 nils nils)
  go_wp2_with fail
  refine bodyPost_ret (w:=cmSet W2 w.heap.size Gp.c0 0 nils nils) (v:= .tuple #[cmVal Gp.c0 0 nils nils, .bool false]) ?_ rfl ⟨HF.out.2,Gp.c0,none,0,?_,NumsIn.nil _ _ _,rfl,?_⟩
  ·clear c0 c1 c2 c3 c4 c5 c6 c7 c8 c9 c10 c11 f0 f1 f2 f3 f4 f5 f6 f7 f8 f9 f10 f11
   generalize cmSet W2 w.heap.size Gp.c0 0 nils nils=WE at HF⊢
   obtain ⟨⟨c0,c1,c2,c3,c4,c5,c6,c7,c8,c9,c10,c11⟩,_⟩:=cm_at HF.out.1
   simp [results,Tryz.results132,go_sem,c0,c1,c2,c3,c4,c5,c6,c7,c8,c9,c10,c11] <;> rfl
  ·rw [HQ.out];rfl
  ·rw [HQ.out];intro e he;cases he
 ·have h8n:S.size=8:=Decidable.of_not_not h8
  have h8i:((S.size:Int) !=8)=false:=by simp;omega
  have l8:S.data.toList.length=8:=by rw [len_list];exact h8n
  obtain ⟨d0,d1,d2,d3,d4,d5,d6,d7,hS⟩:∃d0 d1 d2 d3 d4 d5 d6 d7,S.data.toList= [d0,d1,d2,d3,d4,d5,d6,d7]:=by
   match hq:S.data.toList,l8 with
   | [d0,d1,d2,d3,d4,d5,d6,d7],_=>exact ⟨_,_,_,_,_,_,_,_,rfl⟩
  have g0:S[0]'(by omega)=d0:=by have h:=getl S 0 (by omega);rw [←h];simp [hS]
  have g1:S[1]'(by omega)=d1:=by have h:=getl S 1 (by omega);rw [←h];simp [hS]
  have g2:S[2]'(by omega)=d2:=by have h:=getl S 2 (by omega);rw [←h];simp [hS]
  have g3:S[3]'(by omega)=d3:=by have h:=getl S 3 (by omega);rw [←h];simp [hS]
  have g4:S[4]'(by omega)=d4:=by have h:=getl S 4 (by omega);rw [←h];simp [hS]
  have g5:S[5]'(by omega)=d5:=by have h:=getl S 5 (by omega);rw [←h];simp [hS]
  have g6:S[6]'(by omega)=d6:=by have h:=getl S 6 (by omega);rw [←h];simp [hS]
  have g7:S[7]'(by omega)=d7:=by have h:=getl S 7 (by omega);rw [←h];simp [hS]
  have E13:(S.extract 1 3).data.toList= [d1,d2]:=by rw [sub_list,hS];rfl
  have E35:(S.extract 3 5).data.toList= [d3,d4]:=by rw [sub_list,hS];rfl
  have E6:(S.extract 6 S.size).data.toList= [d6,d7]:=by rw [ext_list,hS];rfl
  have E3:(S.extract 3 S.size).data.toList= [d3,d4,d5,d6,d7]:=by rw [ext_list,hS];rfl
  have HES:Hid ((S.extract 3 S.size).size≤maxLen):=by
   show _≤_
   rw [←len_list,E3]
   show 5≤maxLen
   decide
  obtain ⟨n,hn⟩:∃n,nd (S.extract 3 S.size).data.toList=n:=⟨_,rfl⟩
  have HND:=Lib.hid hn
  rw [E3] at hn
  have hz:(8:Int)≤(S.size:Int):=by omega
  clear h8n l8
  by_cases q0:d0≠76∧d0≠84
  ·have p1:((d0.toNat:Int) !=76)=true:=byte_bne (k:=76) (by decide) q0.1
   have p2:((d0.toNat:Int) !=84)=true:=byte_bne (k:=84) (by decide) q0.2
   rw [if_pos (.inr (.inl (by rw [hS];exact q0)))] at hl
   have HQ:Hid (o=none):=hl.symm
   clear hl
   go_quiet (first |(go_at_call 176;exact Calls.quiet_of_same ((digs_c (S.extract 3 S.size) HES.out n HND _).mono fun _ _ h=>⟨h.1,h.2.symm⟩)))
   generalize hW2:W.drewN _=W2
   have HZ2:=Lib.hid (HZ.out.below (drew_below ⟨_,hW2.symm⟩))
   clear hW2 HZ
   have HZ:=HZ2
   clear HZ2
   obtain ⟨⟨c0,c1,c2,c3,c4,c5,c6,c7,c8,c9,c10,c11⟩,f0,f1,f2,f3,f4,f5,f6,f7,f8,f9,f10,f11⟩:=cm_at HZ.out.a
   have HF:=Lib.hid (cm_fin HZ.out.b HZ.out.a Gp.c0 0 nils nils)
   go_wp2_with fail
   refine bodyPost_ret (w:=cmSet W2 w.heap.size Gp.c0 0 nils nils) (v:= .tuple #[cmVal Gp.c0 0 nils nils, .bool false]) ?_ rfl ⟨HF.out.2,Gp.c0,none,0,?_,NumsIn.nil _ _ _,rfl,?_⟩
   ·clear c0 c1 c2 c3 c4 c5 c6 c7 c8 c9 c10 c11 f0 f1 f2 f3 f4 f5 f6 f7 f8 f9 f10 f11
    generalize cmSet W2 w.heap.size Gp.c0 0 nils nils=WE at HF⊢
    obtain ⟨⟨c0,c1,c2,c3,c4,c5,c6,c7,c8,c9,c10,c11⟩,_⟩:=cm_at HF.out.1
    simp [results,Tryz.results132,go_sem,c0,c1,c2,c3,c4,c5,c6,c7,c8,c9,c10,c11] <;> rfl
   ·rw [HQ.out];rfl
   ·rw [HQ.out];intro e he;cases he
  ·obtain rfl | rfl:d0=76∨d0=84:=by by_cases h:d0=76 <;> by_cases h2:d0=84 <;> simp_all
   ·have p0:((76:UInt8).toNat:Int)=76:=rfl
    by_cases q1: [d1,d2]≠ [65,88]
    ·have p3:((S.extract 1 3).toList== [65,88])=false:=by rw [str_is,E13];exact decide_eq_false q1
     rw [if_pos (.inr (.inr (.inl (by rw [hS];exact q1))))] at hl
     have HQ:Hid (o=none):=hl.symm
     clear hl
     go_quiet (first |(go_at_call 176;exact Calls.quiet_of_same ((digs_c (S.extract 3 S.size) HES.out n HND _).mono fun _ _ h=>⟨h.1,h.2.symm⟩)))
     generalize hW2:W.drewN _=W2
     have HZ2:=Lib.hid (HZ.out.below (drew_below ⟨_,hW2.symm⟩))
     clear hW2 HZ
     have HZ:=HZ2
     clear HZ2
     obtain ⟨⟨c0,c1,c2,c3,c4,c5,c6,c7,c8,c9,c10,c11⟩,f0,f1,f2,f3,f4,f5,f6,f7,f8,f9,f10,f11⟩:=cm_at HZ.out.a
     have HF:=Lib.hid (cm_fin HZ.out.b HZ.out.a Gp.c0 0 nils nils)
     go_wp2_with fail
     refine bodyPost_ret (w:=cmSet W2 w.heap.size Gp.c0 0 nils nils) (v:= .tuple #[cmVal Gp.c0 0 nils nils, .bool false]) ?_ rfl ⟨HF.out.2,Gp.c0,none,0,?_,NumsIn.nil _ _ _,rfl,?_⟩
     ·clear c0 c1 c2 c3 c4 c5 c6 c7 c8 c9 c10 c11 f0 f1 f2 f3 f4 f5 f6 f7 f8 f9 f10 f11
      generalize cmSet W2 w.heap.size Gp.c0 0 nils nils=WE at HF⊢
      obtain ⟨⟨c0,c1,c2,c3,c4,c5,c6,c7,c8,c9,c10,c11⟩,_⟩:=cm_at HF.out.1
      simp [results,Tryz.results132,go_sem,c0,c1,c2,c3,c4,c5,c6,c7,c8,c9,c10,c11] <;> rfl
     ·rw [HQ.out];rfl
     ·rw [HQ.out];intro e he;cases he
    ·have p3:((S.extract 1 3).toList== [65,88])=true:=by rw [str_is,E13];exact decide_eq_true (Decidable.of_not_not q1)
     by_cases q2:n≠2
     ·have p4:((n:Int) !=2)=true:=by simp;omega
      rw [if_pos (.inr (.inr (.inr (.inl (by rw [hS];show nd [d3,d4,d5,d6,d7]≠2;rw [hn];exact q2)))))] at hl
      have HQ:Hid (o=none):=hl.symm
      clear hl
      go_quiet (first |(go_at_call 176;exact Calls.quiet_of_same ((digs_c (S.extract 3 S.size) HES.out n HND _).mono fun _ _ h=>⟨h.1,h.2.symm⟩)))
      generalize hW2:W.drewN _=W2
      have HZ2:=Lib.hid (HZ.out.below (drew_below ⟨_,hW2.symm⟩))
      clear hW2 HZ
      have HZ:=HZ2
      clear HZ2
      obtain ⟨⟨c0,c1,c2,c3,c4,c5,c6,c7,c8,c9,c10,c11⟩,f0,f1,f2,f3,f4,f5,f6,f7,f8,f9,f10,f11⟩:=cm_at HZ.out.a
      have HF:=Lib.hid (cm_fin HZ.out.b HZ.out.a Gp.c0 0 nils nils)
      go_wp2_with fail
      refine bodyPost_ret (w:=cmSet W2 w.heap.size Gp.c0 0 nils nils) (v:= .tuple #[cmVal Gp.c0 0 nils nils, .bool false]) ?_ rfl ⟨HF.out.2,Gp.c0,none,0,?_,NumsIn.nil _ _ _,rfl,?_⟩
      ·clear c0 c1 c2 c3 c4 c5 c6 c7 c8 c9 c10 c11 f0 f1 f2 f3 f4 f5 f6 f7 f8 f9 f10 f11
       generalize cmSet W2 w.heap.size Gp.c0 0 nils nils=WE at HF⊢
       obtain ⟨⟨c0,c1,c2,c3,c4,c5,c6,c7,c8,c9,c10,c11⟩,_⟩:=cm_at HF.out.1
       simp [results,Tryz.results132,go_sem,c0,c1,c2,c3,c4,c5,c6,c7,c8,c9,c10,c11] <;> rfl
      ·rw [HQ.out];rfl
      ·rw [HQ.out];intro e he;cases he
     ·have p4:((n:Int) !=2)=false:=by simp;omega
      by_cases q3:d5≠89
      ·have p5:((d5.toNat:Int) !=89)=true:=byte_bne (k:=89) (by decide) q3
       rw [if_pos (.inr (.inr (.inr (.inr (.inl (by rw [hS];exact q3))))))] at hl
       have HQ:Hid (o=none):=hl.symm
       clear hl
       go_quiet (first |(go_at_call 176;exact Calls.quiet_of_same ((digs_c (S.extract 3 S.size) HES.out n HND _).mono fun _ _ h=>⟨h.1,h.2.symm⟩)))
       generalize hW2:W.drewN _=W2
       have HZ2:=Lib.hid (HZ.out.below (drew_below ⟨_,hW2.symm⟩))
       clear hW2 HZ
       have HZ:=HZ2
       clear HZ2
       obtain ⟨⟨c0,c1,c2,c3,c4,c5,c6,c7,c8,c9,c10,c11⟩,f0,f1,f2,f3,f4,f5,f6,f7,f8,f9,f10,f11⟩:=cm_at HZ.out.a
       have HF:=Lib.hid (cm_fin HZ.out.b HZ.out.a Gp.c0 0 nils nils)
       go_wp2_with fail
       refine bodyPost_ret (w:=cmSet W2 w.heap.size Gp.c0 0 nils nils) (v:= .tuple #[cmVal Gp.c0 0 nils nils, .bool false]) ?_ rfl ⟨HF.out.2,Gp.c0,none,0,?_,NumsIn.nil _ _ _,rfl,?_⟩
       ·clear c0 c1 c2 c3 c4 c5 c6 c7 c8 c9 c10 c11 f0 f1 f2 f3 f4 f5 f6 f7 f8 f9 f10 f11
        generalize cmSet W2 w.heap.size Gp.c0 0 nils nils=WE at HF⊢
        obtain ⟨⟨c0,c1,c2,c3,c4,c5,c6,c7,c8,c9,c10,c11⟩,_⟩:=cm_at HF.out.1
        simp [results,Tryz.results132,go_sem,c0,c1,c2,c3,c4,c5,c6,c7,c8,c9,c10,c11] <;> rfl
       ·rw [HQ.out];rfl
       ·rw [HQ.out];intro e he;cases he
      ·obtain rfl:d5=89:=Decidable.of_not_not q3
       have p5:((89:UInt8).toNat:Int)=89:=rfl
       by_cases q4: [d6,d7]≠ [d3,d4]
       ·have p6:((S.extract 6 S.size).toList==(S.extract 3 5).toList)=false:=by rw [Lib.toList_data,Lib.toList_data,E6,E35,beq_eq_false_iff_ne];exact q4
        rw [if_pos (.inr (.inr (.inr (.inr (.inr (by rw [hS];exact q4))))))] at hl
        have HQ:Hid (o=none):=hl.symm
        clear hl
        go_quiet (first |(go_at_call 176;exact Calls.quiet_of_same ((digs_c (S.extract 3 S.size) HES.out n HND _).mono fun _ _ h=>⟨h.1,h.2.symm⟩)))
        generalize hW2:W.drewN _=W2
        have HZ2:=Lib.hid (HZ.out.below (drew_below ⟨_,hW2.symm⟩))
        clear hW2 HZ
        have HZ:=HZ2
        clear HZ2
        obtain ⟨⟨c0,c1,c2,c3,c4,c5,c6,c7,c8,c9,c10,c11⟩,f0,f1,f2,f3,f4,f5,f6,f7,f8,f9,f10,f11⟩:=cm_at HZ.out.a
        have HF:=Lib.hid (cm_fin HZ.out.b HZ.out.a Gp.c0 0 nils nils)
        go_wp2_with fail
        refine bodyPost_ret (w:=cmSet W2 w.heap.size Gp.c0 0 nils nils) (v:= .tuple #[cmVal Gp.c0 0 nils nils, .bool false]) ?_ rfl ⟨HF.out.2,Gp.c0,none,0,?_,NumsIn.nil _ _ _,rfl,?_⟩
        ·clear c0 c1 c2 c3 c4 c5 c6 c7 c8 c9 c10 c11 f0 f1 f2 f3 f4 f5 f6 f7 f8 f9 f10 f11
         generalize cmSet W2 w.heap.size Gp.c0 0 nils nils=WE at HF⊢
         obtain ⟨⟨c0,c1,c2,c3,c4,c5,c6,c7,c8,c9,c10,c11⟩,_⟩:=cm_at HF.out.1
         simp [results,Tryz.results132,go_sem,c0,c1,c2,c3,c4,c5,c6,c7,c8,c9,c10,c11] <;> rfl
        ·rw [HQ.out];rfl
        ·rw [HQ.out];intro e he;cases he
       ·have p6:((S.extract 6 S.size).toList==(S.extract 3 5).toList)=true:=by rw [Lib.toList_data,Lib.toList_data,E6,E35,beq_iff_eq];exact Decidable.of_not_not q4
        rw [if_neg (by
         rw [hS]
         rintro (h | h | h | h | h | h)
         ·exact h8 h
         ·exact q0 h
         ·exact q1 h
         ·exact absurd (show nd [d3,d4,89,d6,d7]≠2 from h) (by rw [hn];exact q2)
         ·exact h rfl
         ·exact q4 h)] at hl
        have HQ:Hid (o=some {kc 8 with on:=false,n:=(d3.toNat:Int) - 48,m:=(d4.toNat:Int) - 48}):=by show _=_;rw [←hl,hS];rfl
        have hd:=(nd_spec [d3,d4,89,d6,d7]).1
        rw [hn] at hd
        have hd3:=(isD_iff _).1 (hd 0 (by simp) (by omega))
        have hd4:=(isD_iff _).1 (hd 1 (by simp) (by omega))
        simp only [List.getElem_cons_zero,List.getElem_cons_succ] at hd3 hd4
        obtain ⟨hd30,hd31⟩:=hd3
        obtain ⟨hd40,hd41⟩:=hd4
        obtain ⟨x3,hx3⟩:∃x,(d3.toNat:Int)=x:=⟨_,rfl⟩
        obtain ⟨x4,hx4⟩:∃x,(d4.toNat:Int)=x:=⟨_,rfl⟩
        have b30:48≤x3:=by omega
        have b31:x3≤57:=by omega
        have b40:48≤x4:=by omega
        have b41:x4≤57:=by omega
        clear hl hd hd30 hd31 hd40 hd41
        rw [hx3,hx4] at HQ
        go_quiet (first |(go_at_call 176;exact Calls.quiet_of_same ((digs_c (S.extract 3 S.size) HES.out n HND _).mono fun _ _ h=>⟨h.1,h.2.symm⟩)))
        generalize hW2:W.drewN _=W2
        have HZ2:=Lib.hid (HZ.out.below (drew_below ⟨_,hW2.symm⟩))
        clear hW2 HZ
        have HZ:=HZ2
        clear HZ2
        go_upto_region 3 with fail
        obtain ⟨⟨c0,c1,c2,c3,c4,c5,c6,c7,c8,c9,c10,c11⟩,f0,f1,f2,f3,f4,f5,f6,f7,f8,f9,f10,f11⟩:=cm_at HZ.out.a
        have HF:=Lib.hid (cm_fin HZ.out.b HZ.out.a {kc 8 with on:=false,n:=x3 - 48,m:=x4 - 48} 0 nils nils)
        go_region
        all_goals
         clear c0 c1 c2 c3 c4 c5 c6 c7 c8 c9 c10 c11 f0 f1 f2 f3 f4 f5 f6 f7 f8 f9 f10 f11
         go_wp2_with fail
         refine bodyPost_ret (w:=(cmSet W2 w.heap.size {kc 8 with on:=false,n:=x3 - 48,m:=x4 - 48} 0 nils nils).drew) (v:= .tuple #[cmVal {kc 8 with on:=false,n:=x3 - 48,m:=x4 - 48} 0 nils nils, .bool true]) ?_ rfl ⟨HF.out.2.drew,{kc 8 with on:=false,n:=x3 - 48,m:=x4 - 48},none,0,?_,NumsIn.nil _ _ _,rfl,?_⟩
         ·generalize cmSet W2 w.heap.size {kc 8 with on:=false,n:=x3 - 48,m:=x4 - 48} 0 nils nils=WE at HF⊢
          obtain ⟨⟨c0,c1,c2,c3,c4,c5,c6,c7,c8,c9,c10,c11⟩,_⟩:=cm_at HF.out.1
          simp [results,Tryz.results132,go_sem,c0,c1,c2,c3,c4,c5,c6,c7,c8,c9,c10,c11] <;> rfl
         ·rw [HQ.out];rfl
         ·rw [HQ.out];intro e he;exact (Option.some.inj he).symm
   ·have p0:((84:UInt8).toNat:Int)=84:=rfl
    by_cases q1: [d1,d2]≠ [65,88]
    ·have p3:((S.extract 1 3).toList== [65,88])=false:=by rw [str_is,E13];exact decide_eq_false q1
     rw [if_pos (.inr (.inr (.inl (by rw [hS];exact q1))))] at hl
     have HQ:Hid (o=none):=hl.symm
     clear hl
     go_quiet (first |(go_at_call 176;exact Calls.quiet_of_same ((digs_c (S.extract 3 S.size) HES.out n HND _).mono fun _ _ h=>⟨h.1,h.2.symm⟩)))
     generalize hW2:W.drewN _=W2
     have HZ2:=Lib.hid (HZ.out.below (drew_below ⟨_,hW2.symm⟩))
     clear hW2 HZ
     have HZ:=HZ2
     clear HZ2
     obtain ⟨⟨c0,c1,c2,c3,c4,c5,c6,c7,c8,c9,c10,c11⟩,f0,f1,f2,f3,f4,f5,f6,f7,f8,f9,f10,f11⟩:=cm_at HZ.out.a
     have HF:=Lib.hid (cm_fin HZ.out.b HZ.out.a Gp.c0 0 nils nils)
     go_wp2_with fail
     refine bodyPost_ret (w:=cmSet W2 w.heap.size Gp.c0 0 nils nils) (v:= .tuple #[cmVal Gp.c0 0 nils nils, .bool false]) ?_ rfl ⟨HF.out.2,Gp.c0,none,0,?_,NumsIn.nil _ _ _,rfl,?_⟩
     ·clear c0 c1 c2 c3 c4 c5 c6 c7 c8 c9 c10 c11 f0 f1 f2 f3 f4 f5 f6 f7 f8 f9 f10 f11
      generalize cmSet W2 w.heap.size Gp.c0 0 nils nils=WE at HF⊢
      obtain ⟨⟨c0,c1,c2,c3,c4,c5,c6,c7,c8,c9,c10,c11⟩,_⟩:=cm_at HF.out.1
      simp [results,Tryz.results132,go_sem,c0,c1,c2,c3,c4,c5,c6,c7,c8,c9,c10,c11] <;> rfl
     ·rw [HQ.out];rfl
     ·rw [HQ.out];intro e he;cases he
    ·have p3:((S.extract 1 3).toList== [65,88])=true:=by rw [str_is,E13];exact decide_eq_true (Decidable.of_not_not q1)
     by_cases q2:n≠2
     ·have p4:((n:Int) !=2)=true:=by simp;omega
      rw [if_pos (.inr (.inr (.inr (.inl (by rw [hS];show nd [d3,d4,d5,d6,d7]≠2;rw [hn];exact q2)))))] at hl
      have HQ:Hid (o=none):=hl.symm
      clear hl
      go_quiet (first |(go_at_call 176;exact Calls.quiet_of_same ((digs_c (S.extract 3 S.size) HES.out n HND _).mono fun _ _ h=>⟨h.1,h.2.symm⟩)))
      generalize hW2:W.drewN _=W2
      have HZ2:=Lib.hid (HZ.out.below (drew_below ⟨_,hW2.symm⟩))
      clear hW2 HZ
      have HZ:=HZ2
      clear HZ2
      obtain ⟨⟨c0,c1,c2,c3,c4,c5,c6,c7,c8,c9,c10,c11⟩,f0,f1,f2,f3,f4,f5,f6,f7,f8,f9,f10,f11⟩:=cm_at HZ.out.a
      have HF:=Lib.hid (cm_fin HZ.out.b HZ.out.a Gp.c0 0 nils nils)
      go_wp2_with fail
      refine bodyPost_ret (w:=cmSet W2 w.heap.size Gp.c0 0 nils nils) (v:= .tuple #[cmVal Gp.c0 0 nils nils, .bool false]) ?_ rfl ⟨HF.out.2,Gp.c0,none,0,?_,NumsIn.nil _ _ _,rfl,?_⟩
      ·clear c0 c1 c2 c3 c4 c5 c6 c7 c8 c9 c10 c11 f0 f1 f2 f3 f4 f5 f6 f7 f8 f9 f10 f11
       generalize cmSet W2 w.heap.size Gp.c0 0 nils nils=WE at HF⊢
       obtain ⟨⟨c0,c1,c2,c3,c4,c5,c6,c7,c8,c9,c10,c11⟩,_⟩:=cm_at HF.out.1
       simp [results,Tryz.results132,go_sem,c0,c1,c2,c3,c4,c5,c6,c7,c8,c9,c10,c11] <;> rfl
      ·rw [HQ.out];rfl
      ·rw [HQ.out];intro e he;cases he
     ·have p4:((n:Int) !=2)=false:=by simp;omega
      by_cases q3:d5≠89
      ·have p5:((d5.toNat:Int) !=89)=true:=byte_bne (k:=89) (by decide) q3
       rw [if_pos (.inr (.inr (.inr (.inr (.inl (by rw [hS];exact q3))))))] at hl
       have HQ:Hid (o=none):=hl.symm
       clear hl
       go_quiet (first |(go_at_call 176;exact Calls.quiet_of_same ((digs_c (S.extract 3 S.size) HES.out n HND _).mono fun _ _ h=>⟨h.1,h.2.symm⟩)))
       generalize hW2:W.drewN _=W2
       have HZ2:=Lib.hid (HZ.out.below (drew_below ⟨_,hW2.symm⟩))
       clear hW2 HZ
       have HZ:=HZ2
       clear HZ2
       obtain ⟨⟨c0,c1,c2,c3,c4,c5,c6,c7,c8,c9,c10,c11⟩,f0,f1,f2,f3,f4,f5,f6,f7,f8,f9,f10,f11⟩:=cm_at HZ.out.a
       have HF:=Lib.hid (cm_fin HZ.out.b HZ.out.a Gp.c0 0 nils nils)
       go_wp2_with fail
       refine bodyPost_ret (w:=cmSet W2 w.heap.size Gp.c0 0 nils nils) (v:= .tuple #[cmVal Gp.c0 0 nils nils, .bool false]) ?_ rfl ⟨HF.out.2,Gp.c0,none,0,?_,NumsIn.nil _ _ _,rfl,?_⟩
       ·clear c0 c1 c2 c3 c4 c5 c6 c7 c8 c9 c10 c11 f0 f1 f2 f3 f4 f5 f6 f7 f8 f9 f10 f11
        generalize cmSet W2 w.heap.size Gp.c0 0 nils nils=WE at HF⊢
        obtain ⟨⟨c0,c1,c2,c3,c4,c5,c6,c7,c8,c9,c10,c11⟩,_⟩:=cm_at HF.out.1
        simp [results,Tryz.results132,go_sem,c0,c1,c2,c3,c4,c5,c6,c7,c8,c9,c10,c11] <;> rfl
       ·rw [HQ.out];rfl
       ·rw [HQ.out];intro e he;cases he
      ·obtain rfl:d5=89:=Decidable.of_not_not q3
       have p5:((89:UInt8).toNat:Int)=89:=rfl
       by_cases q4: [d6,d7]≠ [d3,d4]
       ·have p6:((S.extract 6 S.size).toList==(S.extract 3 5).toList)=false:=by rw [Lib.toList_data,Lib.toList_data,E6,E35,beq_eq_false_iff_ne];exact q4
        rw [if_pos (.inr (.inr (.inr (.inr (.inr (by rw [hS];exact q4))))))] at hl
        have HQ:Hid (o=none):=hl.symm
        clear hl
        go_quiet (first |(go_at_call 176;exact Calls.quiet_of_same ((digs_c (S.extract 3 S.size) HES.out n HND _).mono fun _ _ h=>⟨h.1,h.2.symm⟩)))
        generalize hW2:W.drewN _=W2
        have HZ2:=Lib.hid (HZ.out.below (drew_below ⟨_,hW2.symm⟩))
        clear hW2 HZ
        have HZ:=HZ2
        clear HZ2
        obtain ⟨⟨c0,c1,c2,c3,c4,c5,c6,c7,c8,c9,c10,c11⟩,f0,f1,f2,f3,f4,f5,f6,f7,f8,f9,f10,f11⟩:=cm_at HZ.out.a
        have HF:=Lib.hid (cm_fin HZ.out.b HZ.out.a Gp.c0 0 nils nils)
        go_wp2_with fail
        refine bodyPost_ret (w:=cmSet W2 w.heap.size Gp.c0 0 nils nils) (v:= .tuple #[cmVal Gp.c0 0 nils nils, .bool false]) ?_ rfl ⟨HF.out.2,Gp.c0,none,0,?_,NumsIn.nil _ _ _,rfl,?_⟩
        ·clear c0 c1 c2 c3 c4 c5 c6 c7 c8 c9 c10 c11 f0 f1 f2 f3 f4 f5 f6 f7 f8 f9 f10 f11
         generalize cmSet W2 w.heap.size Gp.c0 0 nils nils=WE at HF⊢
         obtain ⟨⟨c0,c1,c2,c3,c4,c5,c6,c7,c8,c9,c10,c11⟩,_⟩:=cm_at HF.out.1
         simp [results,Tryz.results132,go_sem,c0,c1,c2,c3,c4,c5,c6,c7,c8,c9,c10,c11] <;> rfl
        ·rw [HQ.out];rfl
        ·rw [HQ.out];intro e he;cases he
       ·have p6:((S.extract 6 S.size).toList==(S.extract 3 5).toList)=true:=by rw [Lib.toList_data,Lib.toList_data,E6,E35,beq_iff_eq];exact Decidable.of_not_not q4
        rw [if_neg (by
         rw [hS]
         rintro (h | h | h | h | h | h)
         ·exact h8 h
         ·exact q0 h
         ·exact q1 h
         ·exact absurd (show nd [d3,d4,89,d6,d7]≠2 from h) (by rw [hn];exact q2)
         ·exact h rfl
         ·exact q4 h)] at hl
        have HQ:Hid (o=some {kc 8 with on:=true,n:=(d3.toNat:Int) - 48,m:=(d4.toNat:Int) - 48}):=by show _=_;rw [←hl,hS];rfl
        have hd:=(nd_spec [d3,d4,89,d6,d7]).1
        rw [hn] at hd
        have hd3:=(isD_iff _).1 (hd 0 (by simp) (by omega))
        have hd4:=(isD_iff _).1 (hd 1 (by simp) (by omega))
        simp only [List.getElem_cons_zero,List.getElem_cons_succ] at hd3 hd4
        obtain ⟨hd30,hd31⟩:=hd3
        obtain ⟨hd40,hd41⟩:=hd4
        obtain ⟨x3,hx3⟩:∃x,(d3.toNat:Int)=x:=⟨_,rfl⟩
        obtain ⟨x4,hx4⟩:∃x,(d4.toNat:Int)=x:=⟨_,rfl⟩
        have b30:48≤x3:=by omega
        have b31:x3≤57:=by omega
        have b40:48≤x4:=by omega
        have b41:x4≤57:=by omega
        clear hl hd hd30 hd31 hd40 hd41
        rw [hx3,hx4] at HQ
        go_quiet (first |(go_at_call 176;exact Calls.quiet_of_same ((digs_c (S.extract 3 S.size) HES.out n HND _).mono fun _ _ h=>⟨h.1,h.2.symm⟩)))
        generalize hW2:W.drewN _=W2
        have HZ2:=Lib.hid (HZ.out.below (drew_below ⟨_,hW2.symm⟩))
        clear hW2 HZ
        have HZ:=HZ2
        clear HZ2
        go_upto_region 3 with fail
        obtain ⟨⟨c0,c1,c2,c3,c4,c5,c6,c7,c8,c9,c10,c11⟩,f0,f1,f2,f3,f4,f5,f6,f7,f8,f9,f10,f11⟩:=cm_at HZ.out.a
        have HF:=Lib.hid (cm_fin HZ.out.b HZ.out.a {kc 8 with on:=true,n:=x3 - 48,m:=x4 - 48} 0 nils nils)
        go_region
        all_goals
         clear c0 c1 c2 c3 c4 c5 c6 c7 c8 c9 c10 c11 f0 f1 f2 f3 f4 f5 f6 f7 f8 f9 f10 f11
         go_wp2_with fail
         refine bodyPost_ret (w:=(cmSet W2 w.heap.size {kc 8 with on:=true,n:=x3 - 48,m:=x4 - 48} 0 nils nils).drew) (v:= .tuple #[cmVal {kc 8 with on:=true,n:=x3 - 48,m:=x4 - 48} 0 nils nils, .bool true]) ?_ rfl ⟨HF.out.2.drew,{kc 8 with on:=true,n:=x3 - 48,m:=x4 - 48},none,0,?_,NumsIn.nil _ _ _,rfl,?_⟩
         ·generalize cmSet W2 w.heap.size {kc 8 with on:=true,n:=x3 - 48,m:=x4 - 48} 0 nils nils=WE at HF⊢
          obtain ⟨⟨c0,c1,c2,c3,c4,c5,c6,c7,c8,c9,c10,c11⟩,_⟩:=cm_at HF.out.1
          simp [results,Tryz.results132,go_sem,c0,c1,c2,c3,c4,c5,c6,c7,c8,c9,c10,c11] <;> rfl
         ·rw [HQ.out];rfl
         ·rw [HQ.out];intro e he;exact (Option.some.inj he).symm
end Go.Proofs.YtfldplmgkeiimaaGreatDoor.GW
