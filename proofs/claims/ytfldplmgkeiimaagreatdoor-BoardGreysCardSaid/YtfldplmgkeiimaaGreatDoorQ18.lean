/-
  Several texts of this proof in one: Zh.
-/
import Derived.Test.YtfldplmgkeiimaaGreatDoorQ16
import Derived.Test.YtfldplmgkeiimaaGreatDoorQ17
set_option linter.unusedVariables false
set_option linter.unusedSimpArgs false
namespace Go.Proofs.YtfldplmgkeiimaaGreatDoor.VW
open Go.RowKit Go.Proofs.YtfldplmgkeiimaaGreatDoor.Vp
open Go.Proofs.YtfldplmgkeiimaaGreatDoor.Up (coordV fmtOk)
set_option maxRecDepth 100000 in
set_option maxHeartbeats 12800000 in
theorem do_ended (w0:World) (P:Nat) (p:Pl) (ca cn cm ck:Int) (con:Bool) (ct sx sy si sj:ByteArray) (nv bv:Value) (w:World) (H:Hid (PlM w0 P p w)) (he:p.ended=true):
  Calls Tryz.prog 64 #[.pointer (some ⟨P,0,none⟩), .agg #[.int .i64 ca, .int .i64 ck, .int .i64 cn, .int .i64 cm, .bool con, .string ct, .string sx, .string sy, .string si, .string sj,nv,bv]] w fun e w'=>PlRes w0 P (.error 4) e w':=by
 obtain ⟨R,m,L,fu,cv,ov,cx,ox,h⟩:=H.out
 have H1:=Lib.hid h
 have HE:=Lib.hid he
 clear h H he
 go_enter Tryz.func64,Tryz.ntmps64
 go_upto_region 1 with fail
 have H2:=Lib.hid (H1.out.below (bel_alloc w (.cells #[.int .i64 ca, .int .i64 ck, .int .i64 cn, .int .i64 cm, .bool con, .string ct, .string sx, .string sy, .string si, .string sj,nv,bv] tCm)))
 have HD:Hid ((w.alloc (.cells #[.int .i64 ca, .int .i64 ck, .int .i64 cn, .int .i64 cm, .bool con, .string ct, .string sx, .string sy, .string si, .string sj,nv,bv] tCm)).heap[w.heap.size]?=some (.cells #[.int .i64 ca, .int .i64 ck, .int .i64 cn, .int .i64 cm, .bool con, .string ct, .string sx, .string sy, .string si, .string sj,nv,bv] tCm)):=alloc_new _ _
 generalize w.alloc (.cells #[.int .i64 ca, .int .i64 ck, .int .i64 cn, .int .i64 cm, .bool con, .string ct, .string sx, .string sy, .string si, .string sj,nv,bv] tCm)=W at H2 HD⊢
 obtain ⟨D,hD⟩:∃D,w.heap.size=D:=⟨_,rfl⟩
 rw [hD] at HD⊢
 clear hD H1
 have HPM:Hid (PlM w0 P p W):=⟨_,_,_,_,_,_,_,_,H2.out⟩
 have c24:W.cell? ⟨P,24,none⟩=some (.bool true):=by rw [←HE.out];exact cell_of (i:=24) H2.out.pl rfl
 have d0:=cell_of (i:=0) HD.out rfl
 have d1:=cell_of (i:=1) HD.out rfl
 have d2:=cell_of (i:=2) HD.out rfl
 have d3:=cell_of (i:=3) HD.out rfl
 have d4:=cell_of (i:=4) HD.out rfl
 have d5:=cell_of (i:=5) HD.out rfl
 have d6:=cell_of (i:=6) HD.out rfl
 have d7:=cell_of (i:=7) HD.out rfl
 have d8:=cell_of (i:=8) HD.out rfl
 have d9:=cell_of (i:=9) HD.out rfl
 have d10:=cell_of (i:=10) HD.out rfl
 have d11:=cell_of (i:=11) HD.out rfl
 go_wp2_with fail
 go_ret
 exact ⟨H2.out.bel,rfl⟩
set_option maxRecDepth 100000 in
set_option maxHeartbeats 12800000 in
theorem do8_c (w0:World) (P:Nat) (p:Pl) (ca cn cm:Int) (con:Bool) (ct sx sy si sj:ByteArray) (nv bv:Value) (w:World) (H:Hid (PlM w0 P p w)) (he:p.ended=false) (hf:p.formed=false) (hok:fmtOk 1 cn cm=true):
  Calls Tryz.prog 64 #[.pointer (some ⟨P,0,none⟩), .agg #[.int .i64 ca, .int .i64 8, .int .i64 cn, .int .i64 cm, .bool con, .string ct, .string sx, .string sy, .string si, .string sj,nv,bv]] w fun e w'=>PlRes w0 P (.ok {p with fi:=cn,fd:=cm,ft:=con,formed:=true}) e w':=by
 obtain ⟨R,m,L,fu,cv,ov,cx,ox,h⟩:=H.out
 have H1:=Lib.hid h
 have HE:=Lib.hid he
 clear h H he
 go_enter Tryz.func64,Tryz.ntmps64
 go_upto_region 1 with fail
 have H2:=Lib.hid (H1.out.below (bel_alloc w (.cells #[.int .i64 ca, .int .i64 8, .int .i64 cn, .int .i64 cm, .bool con, .string ct, .string sx, .string sy, .string si, .string sj,nv,bv] tCm)))
 have HD:Hid ((w.alloc (.cells #[.int .i64 ca, .int .i64 8, .int .i64 cn, .int .i64 cm, .bool con, .string ct, .string sx, .string sy, .string si, .string sj,nv,bv] tCm)).heap[w.heap.size]?=some (.cells #[.int .i64 ca, .int .i64 8, .int .i64 cn, .int .i64 cm, .bool con, .string ct, .string sx, .string sy, .string si, .string sj,nv,bv] tCm)):=alloc_new _ _
 generalize w.alloc (.cells #[.int .i64 ca, .int .i64 8, .int .i64 cn, .int .i64 cm, .bool con, .string ct, .string sx, .string sy, .string si, .string sj,nv,bv] tCm)=W at H2 HD⊢
 obtain ⟨D,hD⟩:∃D,w.heap.size=D:=⟨_,rfl⟩
 rw [hD] at HD⊢
 clear hD H1
 have HPM:Hid (PlM w0 P p W):=⟨_,_,_,_,_,_,_,_,H2.out⟩
 have c24:W.cell? ⟨P,24,none⟩=some (.bool false):=by rw [←HE.out];exact cell_of (i:=24) H2.out.pl rfl
 have d0:=cell_of (i:=0) HD.out rfl
 have d1:=cell_of (i:=1) HD.out rfl
 have d2:=cell_of (i:=2) HD.out rfl
 have d3:=cell_of (i:=3) HD.out rfl
 have d4:=cell_of (i:=4) HD.out rfl
 have d5:=cell_of (i:=5) HD.out rfl
 have d6:=cell_of (i:=6) HD.out rfl
 have d7:=cell_of (i:=7) HD.out rfl
 have d8:=cell_of (i:=8) HD.out rfl
 have d9:=cell_of (i:=9) HD.out rfl
 have d10:=cell_of (i:=10) HD.out rfl
 have d11:=cell_of (i:=11) HD.out rfl
 go_wp2_with fail
 with_reducible refine (define8_c w0 P p ca cn cm con ct sx sy si sj nv bv _ HPM hf hok).mono ?_
 intro e w6 hres
 obtain ⟨v6,rfl⟩:=hres.ret
 clear c24 d0 d1 d2 d3 d4 d5 d6 d7 d8 d9 d10 d11
 go_wp2_with fail
 go_ret
 exact hres
set_option maxRecDepth 100000 in
set_option maxHeartbeats 12800000 in
theorem do9_c (w0:World) (P:Nat) (p:Pl) (ca cn cm:Int) (con:Bool) (ct sx sy si sj:ByteArray) (nv bv:Value) (w:World) (H:Hid (PlM w0 P p w)) (he:p.ended=false) (hf:p.unit=0):
  Calls Tryz.prog 64 #[.pointer (some ⟨P,0,none⟩), .agg #[.int .i64 ca, .int .i64 9, .int .i64 cn, .int .i64 cm, .bool con, .string ct, .string sx, .string sy, .string si, .string sj,nv,bv]] w fun e w'=>PlRes w0 P (.ok {p with unit:=cn}) e w':=by
 obtain ⟨R,m,L,fu,cv,ov,cx,ox,h⟩:=H.out
 have H1:=Lib.hid h
 have HE:=Lib.hid he
 clear h H he
 go_enter Tryz.func64,Tryz.ntmps64
 go_upto_region 1 with fail
 have H2:=Lib.hid (H1.out.below (bel_alloc w (.cells #[.int .i64 ca, .int .i64 9, .int .i64 cn, .int .i64 cm, .bool con, .string ct, .string sx, .string sy, .string si, .string sj,nv,bv] tCm)))
 have HD:Hid ((w.alloc (.cells #[.int .i64 ca, .int .i64 9, .int .i64 cn, .int .i64 cm, .bool con, .string ct, .string sx, .string sy, .string si, .string sj,nv,bv] tCm)).heap[w.heap.size]?=some (.cells #[.int .i64 ca, .int .i64 9, .int .i64 cn, .int .i64 cm, .bool con, .string ct, .string sx, .string sy, .string si, .string sj,nv,bv] tCm)):=alloc_new _ _
 generalize w.alloc (.cells #[.int .i64 ca, .int .i64 9, .int .i64 cn, .int .i64 cm, .bool con, .string ct, .string sx, .string sy, .string si, .string sj,nv,bv] tCm)=W at H2 HD⊢
 obtain ⟨D,hD⟩:∃D,w.heap.size=D:=⟨_,rfl⟩
 rw [hD] at HD⊢
 clear hD H1
 have HPM:Hid (PlM w0 P p W):=⟨_,_,_,_,_,_,_,_,H2.out⟩
 have c24:W.cell? ⟨P,24,none⟩=some (.bool false):=by rw [←HE.out];exact cell_of (i:=24) H2.out.pl rfl
 have d0:=cell_of (i:=0) HD.out rfl
 have d1:=cell_of (i:=1) HD.out rfl
 have d2:=cell_of (i:=2) HD.out rfl
 have d3:=cell_of (i:=3) HD.out rfl
 have d4:=cell_of (i:=4) HD.out rfl
 have d5:=cell_of (i:=5) HD.out rfl
 have d6:=cell_of (i:=6) HD.out rfl
 have d7:=cell_of (i:=7) HD.out rfl
 have d8:=cell_of (i:=8) HD.out rfl
 have d9:=cell_of (i:=9) HD.out rfl
 have d10:=cell_of (i:=10) HD.out rfl
 have d11:=cell_of (i:=11) HD.out rfl
 go_wp2_with fail
 with_reducible refine (define9_c w0 P p ca cn cm con ct sx sy si sj nv bv _ HPM hf).mono ?_
 intro e w6 hres
 obtain ⟨v6,rfl⟩:=hres.ret
 clear c24 d0 d1 d2 d3 d4 d5 d6 d7 d8 d9 d10 d11
 go_wp2_with fail
 go_ret
 exact hres
set_option maxRecDepth 100000 in
set_option maxHeartbeats 12800000 in
theorem do15_c (w0:World) (P:Nat) (p:Pl) (ca cn cm:Int) (con:Bool) (ct sx sy si sj:ByteArray) (nv bv:Value) (w:World) (H:Hid (PlM w0 P p w)) (he:p.ended=false) (hrg:p.region=false):
  Calls Tryz.prog 64 #[.pointer (some ⟨P,0,none⟩), .agg #[.int .i64 ca, .int .i64 15, .int .i64 cn, .int .i64 cm, .bool con, .string ct, .string sx, .string sy, .string si, .string sj,nv,bv]] w fun e w'=>PlRes w0 P (.ok {p with dark:=con}) e w':=by
 obtain ⟨R,m,L,fu,cv,ov,cx,ox,h⟩:=H.out
 have H1:=Lib.hid h
 have HE:=Lib.hid he
 clear h H he
 go_enter Tryz.func64,Tryz.ntmps64
 go_upto_region 1 with fail
 have H2:=Lib.hid (H1.out.below (bel_alloc w (.cells #[.int .i64 ca, .int .i64 15, .int .i64 cn, .int .i64 cm, .bool con, .string ct, .string sx, .string sy, .string si, .string sj,nv,bv] tCm)))
 have HD:Hid ((w.alloc (.cells #[.int .i64 ca, .int .i64 15, .int .i64 cn, .int .i64 cm, .bool con, .string ct, .string sx, .string sy, .string si, .string sj,nv,bv] tCm)).heap[w.heap.size]?=some (.cells #[.int .i64 ca, .int .i64 15, .int .i64 cn, .int .i64 cm, .bool con, .string ct, .string sx, .string sy, .string si, .string sj,nv,bv] tCm)):=alloc_new _ _
 generalize w.alloc (.cells #[.int .i64 ca, .int .i64 15, .int .i64 cn, .int .i64 cm, .bool con, .string ct, .string sx, .string sy, .string si, .string sj,nv,bv] tCm)=W at H2 HD⊢
 obtain ⟨D,hD⟩:∃D,w.heap.size=D:=⟨_,rfl⟩
 rw [hD] at HD⊢
 clear hD H1
 have HPM:Hid (PlM w0 P p W):=⟨_,_,_,_,_,_,_,_,H2.out⟩
 have c24:W.cell? ⟨P,24,none⟩=some (.bool false):=by rw [←HE.out];exact cell_of (i:=24) H2.out.pl rfl
 have d0:=cell_of (i:=0) HD.out rfl
 have d1:=cell_of (i:=1) HD.out rfl
 have d2:=cell_of (i:=2) HD.out rfl
 have d3:=cell_of (i:=3) HD.out rfl
 have d4:=cell_of (i:=4) HD.out rfl
 have d5:=cell_of (i:=5) HD.out rfl
 have d6:=cell_of (i:=6) HD.out rfl
 have d7:=cell_of (i:=7) HD.out rfl
 have d8:=cell_of (i:=8) HD.out rfl
 have d9:=cell_of (i:=9) HD.out rfl
 have d10:=cell_of (i:=10) HD.out rfl
 have d11:=cell_of (i:=11) HD.out rfl
 have c19:W.cell? ⟨P,19,none⟩=some (.bool false):=by rw [←hrg];exact cell_of (i:=19) H2.out.pl rfl
 clear hrg
 go_wp2_with fail
 with_reducible refine (set15_c w0 P p ca cn cm con ct sx sy si sj nv bv _ HPM).mono ?_
 intro e w6 hres
 obtain ⟨v6,rfl⟩:=hres.ret
 clear c24 d0 d1 d2 d3 d4 d5 d6 d7 d8 d9 d10 d11
 go_wp2_with fail
 go_ret
 exact hres
set_option maxRecDepth 100000 in
set_option maxHeartbeats 12800000 in
theorem do6_c (w0:World) (P:Nat) (p:Pl) (ca cn cm:Int) (con:Bool) (ct sx sy si sj:ByteArray) (nv bv:Value) (w:World) (H:Hid (PlM w0 P p w)) (he:p.ended=false) (hrg:p.region=false):
  Calls Tryz.prog 64 #[.pointer (some ⟨P,0,none⟩), .agg #[.int .i64 ca, .int .i64 6, .int .i64 cn, .int .i64 cm, .bool con, .string ct, .string sx, .string sy, .string si, .string sj,nv,bv]] w fun e w'=>PlRes w0 P (.error 4) e w':=by
 obtain ⟨R,m,L,fu,cv,ov,cx,ox,h⟩:=H.out
 have H1:=Lib.hid h
 have HE:=Lib.hid he
 clear h H he
 go_enter Tryz.func64,Tryz.ntmps64
 go_upto_region 1 with fail
 have H2:=Lib.hid (H1.out.below (bel_alloc w (.cells #[.int .i64 ca, .int .i64 6, .int .i64 cn, .int .i64 cm, .bool con, .string ct, .string sx, .string sy, .string si, .string sj,nv,bv] tCm)))
 have HD:Hid ((w.alloc (.cells #[.int .i64 ca, .int .i64 6, .int .i64 cn, .int .i64 cm, .bool con, .string ct, .string sx, .string sy, .string si, .string sj,nv,bv] tCm)).heap[w.heap.size]?=some (.cells #[.int .i64 ca, .int .i64 6, .int .i64 cn, .int .i64 cm, .bool con, .string ct, .string sx, .string sy, .string si, .string sj,nv,bv] tCm)):=alloc_new _ _
 generalize w.alloc (.cells #[.int .i64 ca, .int .i64 6, .int .i64 cn, .int .i64 cm, .bool con, .string ct, .string sx, .string sy, .string si, .string sj,nv,bv] tCm)=W at H2 HD⊢
 obtain ⟨D,hD⟩:∃D,w.heap.size=D:=⟨_,rfl⟩
 rw [hD] at HD⊢
 clear hD H1
 have HPM:Hid (PlM w0 P p W):=⟨_,_,_,_,_,_,_,_,H2.out⟩
 have c24:W.cell? ⟨P,24,none⟩=some (.bool false):=by rw [←HE.out];exact cell_of (i:=24) H2.out.pl rfl
 have d0:=cell_of (i:=0) HD.out rfl
 have d1:=cell_of (i:=1) HD.out rfl
 have d2:=cell_of (i:=2) HD.out rfl
 have d3:=cell_of (i:=3) HD.out rfl
 have d4:=cell_of (i:=4) HD.out rfl
 have d5:=cell_of (i:=5) HD.out rfl
 have d6:=cell_of (i:=6) HD.out rfl
 have d7:=cell_of (i:=7) HD.out rfl
 have d8:=cell_of (i:=8) HD.out rfl
 have d9:=cell_of (i:=9) HD.out rfl
 have d10:=cell_of (i:=10) HD.out rfl
 have d11:=cell_of (i:=11) HD.out rfl
 have c19:W.cell? ⟨P,19,none⟩=some (.bool false):=by rw [←hrg];exact cell_of (i:=19) H2.out.pl rfl
 clear hrg
 go_wp2_with fail
 with_reducible refine (set6_c w0 P p ca cn cm con ct sx sy si sj nv bv _ HPM).mono ?_
 intro e w6 hres
 obtain ⟨v6,rfl⟩:=hres.ret
 clear c24 d0 d1 d2 d3 d4 d5 d6 d7 d8 d9 d10 d11
 go_wp2_with fail
 go_ret
 exact hres
set_option maxRecDepth 100000 in
set_option maxHeartbeats 12800000 in
theorem do7_c (w0:World) (P:Nat) (p:Pl) (ca cn cm:Int) (con:Bool) (ct sx sy:ByteArray) (nv bv:Value) (w:World) (H:Hid (PlM w0 P p w)) (he:p.ended=false) (hs:SzC p) (hu:p.unit≠0) (hfm:p.formed=true) (hn:cn=2∨(cn=1∧p.mode=1∧p.region=true∧p.conts≠ [])) (hsz:sx.size≤1000000∧sy.size≤1000000) (res:Except Nat Pl) (a b:Int) (ha:Hid (coordP p sx.data.toList p.at_.1=some a)) (hb:Hid (coordP p sy.data.toList p.at_.2=some b)) (res1:Except Nat Pl) (hres1:Hid ((if cn=1 then .ok {p with conts:=lastPush p.conts (a,b)} else moveV p (a,b))=res1)) (hres:Hid (atV (a,b) res1=res)):
  Calls Tryz.prog 64 #[.pointer (some ⟨P,0,none⟩), .agg #[.int .i64 ca, .int .i64 7, .int .i64 cn, .int .i64 cm, .bool con, .string ct, .string sx, .string sy, .string ⟨#[]⟩, .string ⟨#[]⟩,nv,bv]] w fun e w'=>PlRes w0 P res e w':=by
 obtain ⟨R,m,L,fu,cv,ov,cx,ox,h⟩:=H.out
 have H1:=Lib.hid h
 have HE:=Lib.hid he
 clear h H he
 go_enter Tryz.func64,Tryz.ntmps64
 go_upto_region 1 with fail
 have H2:=Lib.hid (H1.out.below (bel_alloc w (.cells #[.int .i64 ca, .int .i64 7, .int .i64 cn, .int .i64 cm, .bool con, .string ct, .string sx, .string sy, .string ⟨#[]⟩, .string ⟨#[]⟩,nv,bv] tCm)))
 have HD:Hid ((w.alloc (.cells #[.int .i64 ca, .int .i64 7, .int .i64 cn, .int .i64 cm, .bool con, .string ct, .string sx, .string sy, .string ⟨#[]⟩, .string ⟨#[]⟩,nv,bv] tCm)).heap[w.heap.size]?=some (.cells #[.int .i64 ca, .int .i64 7, .int .i64 cn, .int .i64 cm, .bool con, .string ct, .string sx, .string sy, .string ⟨#[]⟩, .string ⟨#[]⟩,nv,bv] tCm)):=alloc_new _ _
 generalize w.alloc (.cells #[.int .i64 ca, .int .i64 7, .int .i64 cn, .int .i64 cm, .bool con, .string ct, .string sx, .string sy, .string ⟨#[]⟩, .string ⟨#[]⟩,nv,bv] tCm)=W at H2 HD⊢
 obtain ⟨D,hD⟩:∃D,w.heap.size=D:=⟨_,rfl⟩
 rw [hD] at HD⊢
 clear hD H1
 have HPM:Hid (PlM w0 P p W):=⟨_,_,_,_,_,_,_,_,H2.out⟩
 have c24:W.cell? ⟨P,24,none⟩=some (.bool false):=by rw [←HE.out];exact cell_of (i:=24) H2.out.pl rfl
 have d0:=cell_of (i:=0) HD.out rfl
 have d1:=cell_of (i:=1) HD.out rfl
 have d2:=cell_of (i:=2) HD.out rfl
 have d3:=cell_of (i:=3) HD.out rfl
 have d4:=cell_of (i:=4) HD.out rfl
 have d5:=cell_of (i:=5) HD.out rfl
 have d6:=cell_of (i:=6) HD.out rfl
 have d7:=cell_of (i:=7) HD.out rfl
 have d8:=cell_of (i:=8) HD.out rfl
 have d9:=cell_of (i:=9) HD.out rfl
 have d10:=cell_of (i:=10) HD.out rfl
 have d11:=cell_of (i:=11) HD.out rfl
 have HA:=Lib.hid (oper_c w0 P p ca 7 cn cm con ct sx sy nv bv W HPM hs hu hfm hn hsz res a b ha hb res1 hres1 hres)
 clear hs hu hfm hn hsz ha hb hres1 hres
 go_wp2_with fail
 with_reducible refine (HA.out).mono ?_
 intro e w6 hres
 obtain ⟨v6,rfl⟩:=hres.ret
 clear c24 d0 d1 d2 d3 d4 d5 d6 d7 d8 d9 d10 d11
 go_wp2_with fail
 go_ret
 exact hres
set_option maxRecDepth 100000 in
set_option maxHeartbeats 12800000 in
theorem do5_c (w0:World) (P:Nat) (p:Pl) (ca cn cm:Int) (con:Bool) (ct sx sy si sj:ByteArray) (nv bv:Value) (w:World) (H:Hid (PlM w0 P p w)) (he:p.ended=false) (hrg:p.region=false):
  Calls Tryz.prog 64 #[.pointer (some ⟨P,0,none⟩), .agg #[.int .i64 ca, .int .i64 5, .int .i64 cn, .int .i64 cm, .bool con, .string ct, .string sx, .string sy, .string si, .string sj,nv,bv]] w fun e w'=>PlRes w0 P (.ok {p with ended:=true}) e w':=by
 obtain ⟨R,m,L,fu,cv,ov,cx,ox,h⟩:=H.out
 have H1:=Lib.hid h
 have HE:=Lib.hid he
 clear h H he
 go_enter Tryz.func64,Tryz.ntmps64
 go_upto_region 1 with fail
 have H2:=Lib.hid (H1.out.below (bel_alloc w (.cells #[.int .i64 ca, .int .i64 5, .int .i64 cn, .int .i64 cm, .bool con, .string ct, .string sx, .string sy, .string si, .string sj,nv,bv] tCm)))
 have HD:Hid ((w.alloc (.cells #[.int .i64 ca, .int .i64 5, .int .i64 cn, .int .i64 cm, .bool con, .string ct, .string sx, .string sy, .string si, .string sj,nv,bv] tCm)).heap[w.heap.size]?=some (.cells #[.int .i64 ca, .int .i64 5, .int .i64 cn, .int .i64 cm, .bool con, .string ct, .string sx, .string sy, .string si, .string sj,nv,bv] tCm)):=alloc_new _ _
 generalize w.alloc (.cells #[.int .i64 ca, .int .i64 5, .int .i64 cn, .int .i64 cm, .bool con, .string ct, .string sx, .string sy, .string si, .string sj,nv,bv] tCm)=W at H2 HD⊢
 obtain ⟨D,hD⟩:∃D,w.heap.size=D:=⟨_,rfl⟩
 rw [hD] at HD⊢
 clear hD H1
 have HPM:Hid (PlM w0 P p W):=⟨_,_,_,_,_,_,_,_,H2.out⟩
 have c24:W.cell? ⟨P,24,none⟩=some (.bool false):=by rw [←HE.out];exact cell_of (i:=24) H2.out.pl rfl
 have d0:=cell_of (i:=0) HD.out rfl
 have d1:=cell_of (i:=1) HD.out rfl
 have d2:=cell_of (i:=2) HD.out rfl
 have d3:=cell_of (i:=3) HD.out rfl
 have d4:=cell_of (i:=4) HD.out rfl
 have d5:=cell_of (i:=5) HD.out rfl
 have d6:=cell_of (i:=6) HD.out rfl
 have d7:=cell_of (i:=7) HD.out rfl
 have d8:=cell_of (i:=8) HD.out rfl
 have d9:=cell_of (i:=9) HD.out rfl
 have d10:=cell_of (i:=10) HD.out rfl
 have d11:=cell_of (i:=11) HD.out rfl
 have c19:W.cell? ⟨P,19,none⟩=some (.bool false):=by rw [←hrg];exact cell_of (i:=19) H2.out.pl rfl
 clear hrg
 have c21:W.cell? ⟨P,21,none⟩=some (.slice (some ⟨L,0,none⟩) 1 1):=cell_of (i:=21) H2.out.pl rfl
 have g24:=cells_f0 H2.out.pl 24
 go_wp2_with fail
 go_ret
 refine PlRes.ok2 (R:=R) (m:=m) (L:=L) (fu:=fu) (cv:=cv) (ov:=ov) (cx:=cx) (ox:=ox) rfl ?_
 exact H2.out.setP (Keep.set (a:=⟨P,24,none⟩) (fun hk=>hk rfl) _) (by have:=set_at (k:=P) (i:=24) (.bool true) H2.out.pl;exact this) rfl rfl rfl rfl rfl
set_option maxRecDepth 100000 in
set_option maxHeartbeats 12800000 in
theorem do3on_c (w0:World) (P:Nat) (p:Pl) (ca cn cm:Int) (ct sx sy si sj:ByteArray) (nv bv:Value) (w:World) (H:Hid (PlM w0 P p w)) (he:p.ended=false) (hrg:p.region=false):
  Calls Tryz.prog 64 #[.pointer (some ⟨P,0,none⟩), .agg #[.int .i64 ca, .int .i64 3, .int .i64 cn, .int .i64 cm, .bool true, .string ct, .string sx, .string sy, .string si, .string sj,nv,bv]] w fun e w'=>PlRes w0 P (.ok {p with region:=true}) e w':=by
 obtain ⟨R,m,L,fu,cv,ov,cx,ox,h⟩:=H.out
 have H1:=Lib.hid h
 have HE:=Lib.hid he
 clear h H he
 go_enter Tryz.func64,Tryz.ntmps64
 go_upto_region 1 with fail
 have H2:=Lib.hid (H1.out.below (bel_alloc w (.cells #[.int .i64 ca, .int .i64 3, .int .i64 cn, .int .i64 cm, .bool true, .string ct, .string sx, .string sy, .string si, .string sj,nv,bv] tCm)))
 have HD:Hid ((w.alloc (.cells #[.int .i64 ca, .int .i64 3, .int .i64 cn, .int .i64 cm, .bool true, .string ct, .string sx, .string sy, .string si, .string sj,nv,bv] tCm)).heap[w.heap.size]?=some (.cells #[.int .i64 ca, .int .i64 3, .int .i64 cn, .int .i64 cm, .bool true, .string ct, .string sx, .string sy, .string si, .string sj,nv,bv] tCm)):=alloc_new _ _
 generalize w.alloc (.cells #[.int .i64 ca, .int .i64 3, .int .i64 cn, .int .i64 cm, .bool true, .string ct, .string sx, .string sy, .string si, .string sj,nv,bv] tCm)=W at H2 HD⊢
 obtain ⟨D,hD⟩:∃D,w.heap.size=D:=⟨_,rfl⟩
 rw [hD] at HD⊢
 clear hD H1
 have HPM:Hid (PlM w0 P p W):=⟨_,_,_,_,_,_,_,_,H2.out⟩
 have c24:W.cell? ⟨P,24,none⟩=some (.bool false):=by rw [←HE.out];exact cell_of (i:=24) H2.out.pl rfl
 have d0:=cell_of (i:=0) HD.out rfl
 have d1:=cell_of (i:=1) HD.out rfl
 have d2:=cell_of (i:=2) HD.out rfl
 have d3:=cell_of (i:=3) HD.out rfl
 have d4:=cell_of (i:=4) HD.out rfl
 have d5:=cell_of (i:=5) HD.out rfl
 have d6:=cell_of (i:=6) HD.out rfl
 have d7:=cell_of (i:=7) HD.out rfl
 have d8:=cell_of (i:=8) HD.out rfl
 have d9:=cell_of (i:=9) HD.out rfl
 have d10:=cell_of (i:=10) HD.out rfl
 have d11:=cell_of (i:=11) HD.out rfl
 have c19:W.cell? ⟨P,19,none⟩=some (.bool false):=by rw [←hrg];exact cell_of (i:=19) H2.out.pl rfl
 clear hrg
 have g19:=cells_f0 H2.out.pl 19
 have hPD:P≠D:=(ne_of_type H2.out.pl HD.out (by decide))
 have hDP:D≠P:=hPD.symm
 go_upto_region 31 with fail
 go_quiet (fail)
 have H3:=Lib.hid (H2.out.below (bel_drewN (Below.refl _ _) nq))
 have HD3:=Lib.hid (one_below HD.out (bel_drewN (Below.refl _ _) nq))
 clear c24 d0 d1 d2 d3 d4 d5 d6 d7 d8 d9 d10 d11 c19 g19 H2 HD HPM
 generalize W.drewN nq=W1 at H3 HD3⊢
 have c19:W1.cell? ⟨P,19,none⟩=some (.bool p.region):=cell_of (i:=19) H3.out.pl rfl
 have g19:=cells_f0 H3.out.pl 19
 have d4:=cell_of (i:=4) HD3.out rfl
 go_wp2_with fail
 go_ret
 refine PlRes.ok2 (R:=R) (m:=m) (L:=L) (fu:=fu) (cv:=cv) (ov:=ov) (cx:=cx) (ox:=ox) rfl ?_
 exact H3.out.setP (Keep.set (a:=⟨P,19,none⟩) (fun hk=>hk rfl) _) (by have:=set_at (k:=P) (i:=19) (.bool true) H3.out.pl;exact this) rfl rfl rfl rfl rfl
set_option maxRecDepth 100000 in
set_option maxHeartbeats 12800000 in
theorem do3off_c (w0:World) (P:Nat) (p:Pl) (ca cn cm:Int) (ct sx sy si sj:ByteArray) (nv bv:Value) (w:World) (H:Hid (PlM w0 P p w)) (he:p.ended=false) (hrg:p.region=true) (hs:SzC p) (h2:∀c∈p.conts,2≤c.length) (hob:p.top.objs.length≤1000000) (hmd:0≤p.made∧p.made≤1000000) (res:Except Nat Pl) (hres:Hid (fillV {p with region:=false}=res)):
  Calls Tryz.prog 64 #[.pointer (some ⟨P,0,none⟩), .agg #[.int .i64 ca, .int .i64 3, .int .i64 cn, .int .i64 cm, .bool false, .string ct, .string sx, .string sy, .string si, .string sj,nv,bv]] w fun e w'=>PlRes w0 P res e w':=by
 obtain ⟨R,m,L,fu,cv,ov,cx,ox,h⟩:=H.out
 have H1:=Lib.hid h
 have HE:=Lib.hid he
 clear h H he
 go_enter Tryz.func64,Tryz.ntmps64
 go_upto_region 1 with fail
 have H2:=Lib.hid (H1.out.below (bel_alloc w (.cells #[.int .i64 ca, .int .i64 3, .int .i64 cn, .int .i64 cm, .bool false, .string ct, .string sx, .string sy, .string si, .string sj,nv,bv] tCm)))
 have HD:Hid ((w.alloc (.cells #[.int .i64 ca, .int .i64 3, .int .i64 cn, .int .i64 cm, .bool false, .string ct, .string sx, .string sy, .string si, .string sj,nv,bv] tCm)).heap[w.heap.size]?=some (.cells #[.int .i64 ca, .int .i64 3, .int .i64 cn, .int .i64 cm, .bool false, .string ct, .string sx, .string sy, .string si, .string sj,nv,bv] tCm)):=alloc_new _ _
 generalize w.alloc (.cells #[.int .i64 ca, .int .i64 3, .int .i64 cn, .int .i64 cm, .bool false, .string ct, .string sx, .string sy, .string si, .string sj,nv,bv] tCm)=W at H2 HD⊢
 obtain ⟨D,hD⟩:∃D,w.heap.size=D:=⟨_,rfl⟩
 rw [hD] at HD⊢
 clear hD H1
 have HPM:Hid (PlM w0 P p W):=⟨_,_,_,_,_,_,_,_,H2.out⟩
 have c24:W.cell? ⟨P,24,none⟩=some (.bool false):=by rw [←HE.out];exact cell_of (i:=24) H2.out.pl rfl
 have d0:=cell_of (i:=0) HD.out rfl
 have d1:=cell_of (i:=1) HD.out rfl
 have d2:=cell_of (i:=2) HD.out rfl
 have d3:=cell_of (i:=3) HD.out rfl
 have d4:=cell_of (i:=4) HD.out rfl
 have d5:=cell_of (i:=5) HD.out rfl
 have d6:=cell_of (i:=6) HD.out rfl
 have d7:=cell_of (i:=7) HD.out rfl
 have d8:=cell_of (i:=8) HD.out rfl
 have d9:=cell_of (i:=9) HD.out rfl
 have d10:=cell_of (i:=10) HD.out rfl
 have d11:=cell_of (i:=11) HD.out rfl
 have c19:W.cell? ⟨P,19,none⟩=some (.bool true):=by rw [←hrg];exact cell_of (i:=19) H2.out.pl rfl
 clear hrg
 have HS:=Lib.hid (And.intro hs (And.intro h2 (And.intro hob hmd)))
 clear hs h2 hob hmd
 have g19:=cells_f0 H2.out.pl 19
 have hPD:P≠D:=(ne_of_type H2.out.pl HD.out (by decide))
 have hDP:D≠P:=hPD.symm
 go_upto_region 31 with fail
 go_quiet (fail)
 have H3:=Lib.hid (H2.out.below (bel_drewN (Below.refl _ _) nq))
 have HD3:=Lib.hid (one_below HD.out (bel_drewN (Below.refl _ _) nq))
 clear c24 d0 d1 d2 d3 d4 d5 d6 d7 d8 d9 d10 d11 c19 g19 H2 HD HPM
 generalize W.drewN nq=W1 at H3 HD3⊢
 have c19:W1.cell? ⟨P,19,none⟩=some (.bool p.region):=cell_of (i:=19) H3.out.pl rfl
 have g19:=cells_f0 H3.out.pl 19
 have d4:=cell_of (i:=4) HD3.out rfl
 go_upto_region 35 with fail
 have HP9:Hid (PlM w0 P {p with region:=false} (W1.setCell ⟨P,19,none⟩ (.bool false))):=⟨_,_,_,_,_,_,_,_,H3.out.setP (p':={p with region:=false}) (Keep.set (a:=⟨P,19,none⟩) (fun hk=>hk rfl) _) (by have:=set_at (k:=P) (i:=19) (.bool false) H3.out.pl;exact this) rfl rfl rfl rfl rfl⟩
 clear c19 g19 d4
 go_wp2_with fail
 with_reducible refine (fill_c w0 P {p with region:=false} _ HP9 HS.out.1 HS.out.2.1 HS.out.2.2.1 HS.out.2.2.2 res hres).mono ?_
 intro e w6 hr6
 obtain ⟨v6,rfl⟩:=hr6.ret
 go_wp2_with fail
 go_ret
 exact hr6
end Go.Proofs.YtfldplmgkeiimaaGreatDoor.VW
