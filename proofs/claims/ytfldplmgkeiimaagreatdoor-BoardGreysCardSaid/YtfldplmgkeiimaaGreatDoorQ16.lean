/-
  Several texts of this proof in one: Ze, Zf, Zg.
-/
import Derived.Test.YtfldplmgkeiimaaGreatDoorQ13
import Derived.Test.YtfldplmgkeiimaaGreatDoorQ15
import Derived.MapKept
set_option linter.unusedVariables false
set_option linter.unusedSimpArgs false
namespace Go.Proofs.YtfldplmgkeiimaaGreatDoor.VW
open Go.RowKit Go.Proofs.YtfldplmgkeiimaaGreatDoor.Vp
open Go.Proofs.YtfldplmgkeiimaaGreatDoor.Up (coordV)
open Go.Proofs.YtfldplmgkeiimaaGreatDoor.UnitW (coord_at fmtVal)
abbrev tFm:TypeId:=161
abbrev tA4:TypeId:=276
abbrev cmO (ca ck cn cm:Int) (con:Bool) (ct sx sy:ByteArray) (nv bv:Value):Obj:= .cells #[.int .i64 ca, .int .i64 ck, .int .i64 cn, .int .i64 cm, .bool con, .string ct, .string sx, .string sy, .string ⟨#[]⟩, .string ⟨#[]⟩,nv,bv] tCm
theorem moveV_err {p:Pl} {q:P2} {k:Nat} (h:moveV p q= .error k):k=4:=by
 unfold moveV at h
 split at h
 ·cases h
 ·split at h
  ·cases h;rfl
  ·cases h
theorem PlAt.setAt {w0:World} {P:Nat} {R:Nat→Prop} {m L:Nat} {fu:Int} {cv ov:Value} {cx ox:List Value} {p:Pl} {w:World} (h:PlAt w0 P R m L fu cv ov cx ox p w) (a b:Int):
  PlAt w0 P R m L fu cv ov cx ox {p with at_:=(a,b)} ((w.setCell ⟨P,9,none⟩ (.int .i64 a)).setCell ⟨P,10,none⟩ (.int .i64 b)):=by
 refine h.setP ((Keep.set (a:=⟨P,9,none⟩) (fun hk=>hk rfl) _).trans (Keep.set (a:=⟨P,10,none⟩) (fun hk=>hk rfl) _)) ?_ rfl rfl rfl rfl rfl
 have:=set_at (k:=P) (i:=10) (.int .i64 b) (set_at (k:=P) (i:=9) (.int .i64 a) h.pl)
 exact this
theorem ba_nil {s:ByteArray} (h:s.data.toList= []):s=⟨#[]⟩:=by
 obtain ⟨⟨l⟩⟩:=s
 have:l= []:=h
 subst this
 rfl
theorem idx_str0 (sx sy:ByteArray) (w:World):(Instr.index 277 (.agg #[.string sx, .string sy, .string ⟨#[]⟩, .string ⟨#[]⟩]) (.int .i64 0)).run Tryz.prog w= .ok (.string sx) w:=by
 simp [Instr.index,run_underlying Tryz.underlying277,asIntOf,go_sem,part]
theorem idx_str1 (sx sy:ByteArray) (w:World):(Instr.index 277 (.agg #[.string sx, .string sy, .string ⟨#[]⟩, .string ⟨#[]⟩]) (.int .i64 1)).run Tryz.prog w= .ok (.string sy) w:=by
 simp [Instr.index,run_underlying Tryz.underlying277,asIntOf,go_sem,part]
theorem idx_str2 (sx sy:ByteArray) (w:World):(Instr.index 277 (.agg #[.string sx, .string sy, .string ⟨#[]⟩, .string ⟨#[]⟩]) (.int .i64 2)).run Tryz.prog w= .ok (.string ⟨#[]⟩) w:=by
 simp [Instr.index,run_underlying Tryz.underlying277,asIntOf,go_sem,part]
theorem idx_str3 (sx sy:ByteArray) (w:World):(Instr.index 277 (.agg #[.string sx, .string sy, .string ⟨#[]⟩, .string ⟨#[]⟩]) (.int .i64 3)).run Tryz.prog w= .ok (.string ⟨#[]⟩) w:=by
 simp [Instr.index,run_underlying Tryz.underlying277,asIntOf,go_sem,part]
structure OpS (w:World) (D:Nat) (c:Obj) (u fi fd:Int) (ft:Bool) (a b:Int) (x:World):Prop where
 bel:Below w.heap.size w x
 cm:x.heap[D]?=some c
 fm:x.heap[D+1]?=some (.cells #[.int .i64 u, .int .i64 fi, .int .i64 fd, .bool ft] tFm)
 vs:x.heap[D+1+1]?=some (.cells #[.int .i64 a, .int .i64 b, .int .i64 0, .int .i64 0] tA4)
theorem OpS.below {w:World} {D:Nat} {c:Obj} {u fi fd:Int} {ft:Bool} {a b:Int} {x y:World} (h:OpS w D c u fi fd ft a b x) (hb:Below x.heap.size x y):OpS w D c u fi fd ft a b y:=⟨h.bel.trans (hb.mono h.bel.size),one_below h.cm hb,one_below h.fm hb,one_below h.vs hb⟩
def atV (q:P2):Except Nat Pl→Except Nat Pl
 | .error e=> .error e
 | .ok p=> .ok {p with at_:=q}
set_option maxRecDepth 100000 in
set_option maxHeartbeats 12800000 in
theorem oper_c (w0:World) (P:Nat) (p:Pl) (ca ck cn cm:Int) (con:Bool) (ct sx sy:ByteArray) (nv bv:Value) (w:World) (H:Hid (PlM w0 P p w)) (hs:SzC p) (hu:p.unit≠0) (hfm:p.formed=true)
  (hn:cn=2∨(cn=1∧p.mode=1∧p.region=true∧p.conts≠ [])) (hsz:sx.size≤1000000∧sy.size≤1000000) (res:Except Nat Pl) (a b:Int) (ha:Hid (coordP p sx.data.toList p.at_.1=some a)) (hb:Hid (coordP p sy.data.toList p.at_.2=some b)) (res1:Except Nat Pl) (hres1:Hid ((if cn=1 then .ok {p with conts:=lastPush p.conts (a,b)} else moveV p (a,b))=res1)) (hres:Hid (atV (a,b) res1=res)):
  Calls Tryz.prog 99 #[.pointer (some ⟨P,0,none⟩), .agg #[.int .i64 ca, .int .i64 ck, .int .i64 cn, .int .i64 cm, .bool con, .string ct, .string sx, .string sy, .string ⟨#[]⟩, .string ⟨#[]⟩,nv,bv]] w fun e w'=>PlRes w0 P res e w':=by
 have HS:=Lib.hid hs
 have HN:=Lib.hid hn
 have HU:=Lib.hid hu
 have HZ:=Lib.hid hsz
 obtain ⟨u,hu2⟩:∃u,p.unit=u:=⟨_,rfl⟩
 obtain ⟨fi,hfi⟩:∃u,p.fi=u:=⟨_,rfl⟩
 obtain ⟨fd,hfd⟩:∃u,p.fd=u:=⟨_,rfl⟩
 obtain ⟨ft,hft⟩:∃u,p.ft=u:=⟨_,rfl⟩
 obtain ⟨ax,hax⟩:∃u,p.at_.1=u:=⟨_,rfl⟩
 obtain ⟨ay,hay⟩:∃u,p.at_.2=u:=⟨_,rfl⟩
 have HX:Hid ((if sx.data.toList= [] then some ax else coordV sx.data.toList u fi fd ft)=some a):=by rw [←hax,←hu2,←hfi,←hfd,←hft];exact ha
 have HY:Hid ((if sy.data.toList= [] then some ay else coordV sy.data.toList u fi fd ft)=some b):=by rw [←hay,←hu2,←hfi,←hfd,←hft];exact hb
 obtain ⟨R,m,L,fu,cv,ov,cx,ox,h⟩:=H.out
 have H1:=Lib.hid h
 have hu0:((u==0):Bool)=false:=by rw [beq_eq_false_iff_ne,←hu2];exact hu
 have HPc:Hid (∀k c,(plCs p fu m L cv)[k]?=some c→w.cell? ⟨P,k,none⟩=some c):=fun k c hk=>cell_of H1.out.pl hk
 clear ha hb h hn hs hu hsz H
 go_enter Tryz.func99,Tryz.ntmps99
 go_upto_region 1 with fail
 have HB0:Hid (Below w.heap.size w (w.alloc (.cells #[.int .i64 ca, .int .i64 ck, .int .i64 cn, .int .i64 cm, .bool con, .string ct, .string sx, .string sy, .string ⟨#[]⟩, .string ⟨#[]⟩,nv,bv] tCm))):=bel_alloc _ _
 have HD0:Hid ((w.alloc (.cells #[.int .i64 ca, .int .i64 ck, .int .i64 cn, .int .i64 cm, .bool con, .string ct, .string sx, .string sy, .string ⟨#[]⟩, .string ⟨#[]⟩,nv,bv] tCm)).heap[w.heap.size]?=some (.cells #[.int .i64 ca, .int .i64 ck, .int .i64 cn, .int .i64 cm, .bool con, .string ct, .string sx, .string sy, .string ⟨#[]⟩, .string ⟨#[]⟩,nv,bv] tCm)):=alloc_new _ _
 have HWs:Hid ((w.alloc (.cells #[.int .i64 ca, .int .i64 ck, .int .i64 cn, .int .i64 cm, .bool con, .string ct, .string sx, .string sy, .string ⟨#[]⟩, .string ⟨#[]⟩,nv,bv] tCm)).heap.size=w.heap.size+1):=Array.size_push _
 generalize w.alloc (.cells #[.int .i64 ca, .int .i64 ck, .int .i64 cn, .int .i64 cm, .bool con, .string ct, .string sx, .string sy, .string ⟨#[]⟩, .string ⟨#[]⟩,nv,bv] tCm)=W at HB0 HD0 HWs⊢
 obtain ⟨D,hD⟩:∃D,w.heap.size=D:=⟨_,rfl⟩
 have HDD:=Lib.hid hD
 rw [hD] at HD0 HWs⊢
 have c0:W.cell? ⟨P,0,none⟩=some (.int .i64 u):=by rw [←hu2];exact cell_keep HB0.out (HPc.out 0 _ rfl)
 have c1:W.cell? ⟨P,1,none⟩=some (.int .i64 fu):=cell_keep HB0.out (HPc.out 1 _ rfl)
 have c2:W.cell? ⟨P,2,none⟩=some (.int .i64 fi):=by rw [←hfi];exact cell_keep HB0.out (HPc.out 2 _ rfl)
 have c3:W.cell? ⟨P,3,none⟩=some (.int .i64 fd):=by rw [←hfd];exact cell_keep HB0.out (HPc.out 3 _ rfl)
 have c4:W.cell? ⟨P,4,none⟩=some (.bool ft):=by rw [←hft];exact cell_keep HB0.out (HPc.out 4 _ rfl)
 have c5:W.cell? ⟨P,5,none⟩=some (.bool true):=by rw [←hfm];exact cell_keep HB0.out (HPc.out 5 _ rfl)
 have c9:W.cell? ⟨P,9,none⟩=some (.int .i64 ax):=by rw [←hax];exact cell_keep HB0.out (HPc.out 9 _ rfl)
 have c10:W.cell? ⟨P,10,none⟩=some (.int .i64 ay):=by rw [←hay];exact cell_keep HB0.out (HPc.out 10 _ rfl)
 have hPlt:P < W.heap.size:=lt_of_heap (one_below H1.out.pl HB0.out)
 clear hD hu2 hfi hfd hft hfm hax hay HPc
 go_upto_region 5 with fail
 have HB2:Hid (Below W.heap.size W (W.alloc (.cells #[.int .i64 u, .int .i64 fi, .int .i64 fd, .bool ft] tFm))):=bel_alloc _ _
 have HF2:Hid ((W.alloc (.cells #[.int .i64 u, .int .i64 fi, .int .i64 fd, .bool ft] tFm)).heap[D+1]?=some (.cells #[.int .i64 u, .int .i64 fi, .int .i64 fd, .bool ft] tFm)):=by show _=_;rw [←HWs.out];exact alloc_new _ _
 have HS2:Hid ((W.alloc (.cells #[.int .i64 u, .int .i64 fi, .int .i64 fd, .bool ft] tFm)).heap.size=D+1+1):=by show _=_;rw [←HWs.out];exact Array.size_push _
 generalize W.alloc (.cells #[.int .i64 u, .int .i64 fi, .int .i64 fd, .bool ft] tFm)=W2 at HB2 HF2 HS2⊢
 rw [HWs.out]
 have d9:=cell_keep HB2.out c9
 have d10:=cell_keep HB2.out c10
 have hP2:P < W2.heap.size:=by have:=HB2.out.size;omega
 clear c0 c1 c2 c3 c4 c5 c9 c10 hPlt
 go_region
 have HOp:Hid (OpS w D (cmO ca ck cn cm con ct sx sy nv bv) u fi fd ft ax ay (W2.alloc (.cells #[.int .i64 ax, .int .i64 ay, .int .i64 0, .int .i64 0] tA4)).drew):=by
  have hb1:Below W2.heap.size W2 (W2.alloc (.cells #[.int .i64 ax, .int .i64 ay, .int .i64 0, .int .i64 0] tA4)).drew:=(bel_alloc _ _).drew
  refine ⟨(HB0.out.trans (HB2.out.mono HB0.out.size)).trans (hb1.mono (Nat.le_trans HB0.out.size HB2.out.size)),one_below (one_below HD0.out HB2.out) hb1,one_below HF2.out hb1,?_⟩
  have:=alloc_new W2 (.cells #[.int .i64 ax, .int .i64 ay, .int .i64 0, .int .i64 0] tA4)
  rw [HS2.out] at this
  exact this
 rw [HS2.out]
 generalize (W2.alloc (.cells #[.int .i64 ax, .int .i64 ay, .int .i64 0, .int .i64 0] tA4)).drew=W3 at HOp⊢
 clear HB0 HD0 HWs HB2 HF2 HS2 d9 d10 hP2
 have a6:=cell_of (i:=6) HOp.out.cm rfl
 have a7:=cell_of (i:=7) HOp.out.cm rfl
 have a8:=cell_of (i:=8) HOp.out.cm rfl
 have a9:=cell_of (i:=9) HOp.out.cm rfl
 go_wp2_with fail
 clear a6 a7 a8 a9
 go_loopw [54] (fun i wr=>∃(j:Nat) (va vb:Int) (wy:World),wy=wr∧j≤4∧i= .int .i64 j∧Hid (OpS w D (cmO ca ck cn cm con ct sx sy nv bv) u fi fd ft va vb wy)∧Hid (va=if 1≤j then a else ax)∧Hid (vb=if 2≤j then b else ay)) (fun i _=>4 -(intOf i).toNat)
 case atStart=>exact ⟨0,_,_,_,rfl,by omega,rfl,HOp.out,rfl,rfl⟩
 case round=>
 obtain ⟨j,va,vb,wy,rfl,hj,rfl,HO,HA,HB⟩:=hrel
 clear HOp
 have hcm:=HO.out.cm
 have fm:=HO.out.fm
 have f0:=cell_of (i:=0) fm rfl
 have f1:=cell_of (i:=1) fm rfl
 have f2:=cell_of (i:=2) fm rfl
 have f3:=cell_of (i:=3) fm rfl
 clear hcm fm
 obtain ⟨ji,hji⟩:∃ji:Int,(j:Int)=ji:=⟨_,rfl⟩
 rw [hji]
 rcases (show j=0∨j=1∨j=2∨j=3∨j=4 by omega) with rfl | rfl | rfl | rfl | rfl
 ·obtain rfl:ji=0:=by omega
  have hix:∀x,(Instr.index 277 (.agg #[.string sx, .string sy, .string ⟨#[]⟩, .string ⟨#[]⟩]) (.int .i64 0)).run Tryz.prog x= .ok (.string sx) x:=fun x=>idx_str0 sx sy x
  have hva:va=ax:=HA.out
  by_cases hemp:sx.data.toList= []
  ·have hq:a=ax:=by
    have h:=HX.out
    rw [if_pos hemp] at h
    injection h with h
    exact h.symm
   have he0:sx=⟨#[]⟩:=ba_nil hemp
   clear HX HY
   subst he0
   go_wp2_with fail
   go_round <;> first | exact ⟨1,_,_,_,rfl,by omega,by go_num,HO.out,by rw [hva,←hq];rfl,HB.out⟩|(simp [intOf] <;> omega)
  ·have hco:coordV sx.data.toList u fi fd ft=some a:=by
    have h:=HX.out
    rw [if_neg hemp] at h
    exact h
   have he1:sx.toList.isEmpty=false:=by rw [Lib.toList_data];cases hl:sx.data.toList with | nil=>exact absurd hl hemp | cons x0 l0=>rfl
   have HCO:Hid ((coordV sx.data.toList u fi fd ft).getD 0=a∧(coordV sx.data.toList u fi fd ft).isSome=true):=by show _∧_;rw [hco];exact ⟨rfl,rfl⟩
   have hsz9:sx.size≤9223372036854775807:=by have:=HZ.out;omega
   clear hco
   go_wp2_with fail
   with_reducible refine (coord_at sx sx.data.toList (Lib.hid (Eq.refl _)) u fi fd ft a true HCO hsz9 _).mono ?_
   rintro e w5 ⟨rfl,hb5⟩
   have HO5:=Lib.hid (HO.out.below hb5)
   have v0:=cell_of (i:=0) HO5.out.vs rfl
   have vf:=cells_f0 HO5.out.vs 0
   have h0:(0:Int)≤0:=by decide
   clear f0 f1 f2 f3
   go_wp2_with fail
   have HO6:Hid (OpS w D (cmO ca ck cn cm con ct sx sy nv bv) u fi fd ft a vb (w5.setCell ⟨D+1+1,0,none⟩ (.int .i64 a))):=by
    have h:=HO5.out
    refine ⟨h.bel.setCell (p:=⟨D+1+1,0,none⟩) (by show _≤D+1+1;have:=HDD.out;omega) _,(far0 (by omega)).trans h.cm,(far0 (by omega)).trans h.fm,?_⟩
    have:=set_at (i:=0) (.int .i64 a) h.vs
    exact this
   go_round <;> first | exact ⟨1,_,_,_,rfl,by omega,by go_num,HO6.out,rfl,HB.out⟩|(simp [intOf] <;> omega)
 ·obtain rfl:ji=1:=by omega
  have hix:∀x,(Instr.index 277 (.agg #[.string sx, .string sy, .string ⟨#[]⟩, .string ⟨#[]⟩]) (.int .i64 1)).run Tryz.prog x= .ok (.string sy) x:=fun x=>idx_str1 sx sy x
  have hva:vb=ay:=HB.out
  by_cases hemp:sy.data.toList= []
  ·have hq:b=ay:=by
    have h:=HY.out
    rw [if_pos hemp] at h
    injection h with h
    exact h.symm
   have he0:sy=⟨#[]⟩:=ba_nil hemp
   clear HX HY
   subst he0
   go_wp2_with fail
   go_round <;> first | exact ⟨2,_,_,_,rfl,by omega,by go_num,HO.out,HA.out,by rw [hva,←hq];rfl⟩|(simp [intOf] <;> omega)
  ·have hco:coordV sy.data.toList u fi fd ft=some b:=by
    have h:=HY.out
    rw [if_neg hemp] at h
    exact h
   have he1:sy.toList.isEmpty=false:=by rw [Lib.toList_data];cases hl:sy.data.toList with | nil=>exact absurd hl hemp | cons x0 l0=>rfl
   have HCO:Hid ((coordV sy.data.toList u fi fd ft).getD 0=b∧(coordV sy.data.toList u fi fd ft).isSome=true):=by show _∧_;rw [hco];exact ⟨rfl,rfl⟩
   have hsz9:sy.size≤9223372036854775807:=by have:=HZ.out;omega
   clear hco
   go_wp2_with fail
   with_reducible refine (coord_at sy sy.data.toList (Lib.hid (Eq.refl _)) u fi fd ft b true HCO hsz9 _).mono ?_
   rintro e w5 ⟨rfl,hb5⟩
   have HO5:=Lib.hid (HO.out.below hb5)
   have v0:=cell_of (i:=1) HO5.out.vs rfl
   have vf:=cells_f0 HO5.out.vs 1
   have h0:(0:Int)≤1:=by decide
   clear f0 f1 f2 f3
   go_wp2_with fail
   have HO6:Hid (OpS w D (cmO ca ck cn cm con ct sx sy nv bv) u fi fd ft va b (w5.setCell ⟨D+1+1,1,none⟩ (.int .i64 b))):=by
    have h:=HO5.out
    refine ⟨h.bel.setCell (p:=⟨D+1+1,1,none⟩) (by show _≤D+1+1;have:=HDD.out;omega) _,(far0 (by omega)).trans h.cm,(far0 (by omega)).trans h.fm,?_⟩
    have:=set_at (i:=1) (.int .i64 b) h.vs
    exact this
   go_round <;> first | exact ⟨2,_,_,_,rfl,by omega,by go_num,HO6.out,HA.out,rfl⟩|(simp [intOf] <;> omega)
 ·obtain rfl:ji=2:=by omega
  have hix:∀x,(Instr.index 277 (.agg #[.string sx, .string sy, .string ⟨#[]⟩, .string ⟨#[]⟩]) (.int .i64 2)).run Tryz.prog x= .ok (.string ⟨#[]⟩) x:=fun x=>idx_str2 sx sy x
  go_wp2_with fail
  go_round <;> first | exact ⟨3,_,_,_,rfl,by omega,by go_num,HO.out,HA.out,HB.out⟩|(simp [intOf] <;> omega)
 ·obtain rfl:ji=3:=by omega
  have hix:∀x,(Instr.index 277 (.agg #[.string sx, .string sy, .string ⟨#[]⟩, .string ⟨#[]⟩]) (.int .i64 3)).run Tryz.prog x= .ok (.string ⟨#[]⟩) x:=fun x=>idx_str3 sx sy x
  go_wp2_with fail
  go_round <;> first | exact ⟨4,_,_,_,rfl,by omega,by go_num,HO.out,HA.out,HB.out⟩|(simp [intOf] <;> omega)
 ·obtain rfl:ji=4:=by omega
  have ea:va=a:=HA.out
  have eb:vb=b:=HB.out
  subst ea eb
  have HBw:Hid (Below w.heap.size w wy):=HO.out.bel
  have cms:=HO.out.cm
  have m0:=cell_of (i:=0) cms rfl
  have m1:=cell_of (i:=1) cms rfl
  have m2:=cell_of (i:=2) cms rfl
  have m3:=cell_of (i:=3) cms rfl
  have m4:=cell_of (i:=4) cms rfl
  have m5:=cell_of (i:=5) cms rfl
  have m6:=cell_of (i:=6) cms rfl
  have m7:=cell_of (i:=7) cms rfl
  have m8:=cell_of (i:=8) cms rfl
  have m9:=cell_of (i:=9) cms rfl
  have m10:=cell_of (i:=10) cms rfl
  have m11:=cell_of (i:=11) cms rfl
  have v0:=cell_of (i:=0) HO.out.vs rfl
  have v1:=cell_of (i:=1) HO.out.vs rfl
  clear f0 f1 f2 f3 cms hji
  go_upto_region 17 with fail
  have HO6:=Lib.hid (HO.out.below (bel_alloc wy (.cells #[.int .i64 va, .int .i64 vb] tPt)))
  have HT6:Hid ((wy.alloc (.cells #[.int .i64 va, .int .i64 vb] tPt)).heap[wy.heap.size]?=some (.cells #[.int .i64 va, .int .i64 vb] tPt)):=alloc_new _ _
  have hTB:w.heap.size≤wy.heap.size:=HBw.out.size
  clear m0 m1 m2 m3 m4 m5 m6 m7 m8 m9 m10 m11 v0 v1
  generalize wy.alloc (.cells #[.int .i64 va, .int .i64 vb] tPt)=W6 at HO6 HT6⊢
  obtain ⟨T,hT⟩:∃T,wy.heap.size=T:=⟨_,rfl⟩
  rw [hT] at HT6 hTB⊢
  clear hT HO HBw
  have cms:=HO6.out.cm
  have m0:=cell_of (i:=0) cms rfl
  have m1:=cell_of (i:=1) cms rfl
  have m2:=cell_of (i:=2) cms rfl
  have m3:=cell_of (i:=3) cms rfl
  have m4:=cell_of (i:=4) cms rfl
  have m5:=cell_of (i:=5) cms rfl
  have m6:=cell_of (i:=6) cms rfl
  have m7:=cell_of (i:=7) cms rfl
  have m8:=cell_of (i:=8) cms rfl
  have m9:=cell_of (i:=9) cms rfl
  have m10:=cell_of (i:=10) cms rfl
  have m11:=cell_of (i:=11) cms rfl
  have v2:=cell_of (i:=2) HO6.out.vs rfl
  have v3:=cell_of (i:=3) HO6.out.vs rfl
  obtain ⟨t0,t1⟩:=pt_at2 HT6.out
  clear cms
  have HPM:Hid (PlM w0 P p w):=⟨_,_,_,_,_,_,_,_,H1.out⟩
  have HBW:Hid (Below w.heap.size w W6):=HO6.out.bel
  rcases HN.out with rfl |⟨rfl,hmo,hrg,hne⟩
  ·have HR1:Hid (moveV p (va,vb)=res1):=hres1.out
   clear hres1
   go_wp2_with fail
   with_reducible refine (move_c w0 P p va vb w _ HPM HBW HS.out res1 HR1).mono ?_
   rintro e w7 ⟨hr7,hk7⟩
   have HT7:=Lib.hid (hk7.get hTB HT6.out)
   clear m0 m1 m2 m3 m4 m5 m6 m7 m8 m9 m10 m11 v2 v3 t0 t1
   cases res1 with
   | error k=>
    have hk0:((k:Int)==0)=false:=by
     have h4:k=4:=moveV_err HR1.out
     subst h4
     rfl
    obtain rfl:=hr7.err rfl
    have HB7:Hid (Below w0.heap.size w0 w7):=hr7.1
    have HF:Hid (.error k=res):=hres.out
    clear hr7 hk7
    go_wp2_with fail
    go_ret
    rw [←HF.out]
    exact ⟨HB7.out,rfl⟩
   | ok q=>
    obtain ⟨rfl,hpm⟩:=hr7.get rfl
    have HF:Hid (.ok {q with at_:=(va,vb)}=res):=hres.out
    clear hr7 hk7
    obtain ⟨R7,m7,L7,fu7,cv7,ov7,cx7,ox7,h7⟩:=hpm
    have H7:=Lib.hid h7
    clear h7
    obtain ⟨t0,t1⟩:=pt_at2 HT7.out
    have b9:w7.cell? ⟨P,9,none⟩=some (.int .i64 q.at_.1):=cell_of (i:=9) H7.out.pl rfl
    have b10:w7.cell? ⟨P,10,none⟩=some (.int .i64 q.at_.2):=cell_of (i:=10) H7.out.pl rfl
    have g9:=cells_f0 H7.out.pl 9
    have g10:=cells_f0 H7.out.pl 10
    go_wp2_with fail
    go_ret
    rw [←HF.out]
    exact PlRes.ok2 rfl (H7.out.setAt va vb)
  ·have HR1:Hid (.ok {p with conts:=lastPush p.conts (va,vb)}=res1):=hres1.out
   clear hres1
   go_wp2_with fail
   with_reducible refine (draw_c w0 P p ca ck 1 cm con ct sx sy nv bv va vb 0 0 w _ HPM HBW HS.out hmo hrg hne).mono ?_
   rintro e w7 ⟨hr7,hk7⟩
   have HT7:=Lib.hid (hk7.get hTB HT6.out)
   clear m0 m1 m2 m3 m4 m5 m6 m7 m8 m9 m10 m11 v2 v3 t0 t1
   obtain ⟨rfl,hpm⟩:=hr7.get rfl
   obtain ⟨q,hq⟩:∃q,{p with conts:=lastPush p.conts (va,vb)}=q:=⟨_,rfl⟩
   rw [hq] at hpm HR1
   have HF:Hid (.ok {q with at_:=(va,vb)}=res):=by show _=_;rw [←hres.out,←HR1.out];rfl
   clear hr7 hk7 hmo hrg hne
   obtain ⟨R7,m7,L7,fu7,cv7,ov7,cx7,ox7,h7⟩:=hpm
   have H7:=Lib.hid h7
   clear h7
   obtain ⟨t0,t1⟩:=pt_at2 HT7.out
   have b9:w7.cell? ⟨P,9,none⟩=some (.int .i64 q.at_.1):=cell_of (i:=9) H7.out.pl rfl
   have b10:w7.cell? ⟨P,10,none⟩=some (.int .i64 q.at_.2):=cell_of (i:=10) H7.out.pl rfl
   have g9:=cells_f0 H7.out.pl 9
   have g10:=cells_f0 H7.out.pl 10
   go_wp2_with fail
   go_ret
   rw [←HF.out]
   exact PlRes.ok2 rfl (H7.out.setAt va vb)
end Go.Proofs.YtfldplmgkeiimaaGreatDoor.VW
namespace Go.Proofs.YtfldplmgkeiimaaGreatDoor.VW
open Go.RowKit Go.Proofs.YtfldplmgkeiimaaGreatDoor.Vp
open Go.Proofs.YtfldplmgkeiimaaGreatDoor.Up (coordV fmtOk)
open Go.Proofs.YtfldplmgkeiimaaGreatDoor.UnitW (coord_at fmtVal fmtObj uok_at)
set_option maxRecDepth 100000 in
set_option maxHeartbeats 12800000 in
theorem define8_c (w0:World) (P:Nat) (p:Pl) (ca cn cm:Int) (con:Bool) (ct sx sy si sj:ByteArray) (nv bv:Value) (w:World) (H:Hid (PlM w0 P p w)) (hf:p.formed=false) (hok:fmtOk 1 cn cm=true):
  Calls Tryz.prog 96 #[.pointer (some ⟨P,0,none⟩), .agg #[.int .i64 ca, .int .i64 8, .int .i64 cn, .int .i64 cm, .bool con, .string ct, .string sx, .string sy, .string si, .string sj,nv,bv]] w fun e w'=>PlRes w0 P (.ok {p with fi:=cn,fd:=cm,ft:=con,formed:=true}) e w':=by
 obtain ⟨R,m,L,fu,cv,ov,cx,ox,h⟩:=H.out
 have H1:=Lib.hid h
 have HOK:=Lib.hid hok
 have HFF:=Lib.hid hf
 clear h H hok hf
 go_enter Tryz.func96,Tryz.ntmps96
 go_upto_region 4 with fail
 obtain ⟨W,hW⟩:∃W,(w.alloc (.cells #[.int .i64 ca, .int .i64 8, .int .i64 cn, .int .i64 cm, .bool con, .string ct, .string sx, .string sy, .string si, .string sj,nv,bv] tCm)).alloc (.cells #[.int .i64 1, .int .i64 cn, .int .i64 cm, .bool con] tFm)=W:=⟨_,rfl⟩
 have HB:Hid (Below w.heap.size w W):=by show Below _ _ _;rw [←hW];exact (bel_alloc _ _).trans ((bel_alloc _ _).mono (bel_alloc _ _).size)
 have HF:Hid (W.heap[w.heap.size+1]?=some (.cells #[.int .i64 1, .int .i64 cn, .int .i64 cm, .bool con] tFm)):=by
  show _=_
  rw [←hW,show w.heap.size+1=(w.alloc (.cells #[.int .i64 ca, .int .i64 8, .int .i64 cn, .int .i64 cm, .bool con, .string ct, .string sx, .string sy, .string si, .string sj,nv,bv] tCm)).heap.size from (Array.size_push _).symm]
  exact alloc_new _ _
 rw [hW]
 clear hW
 obtain ⟨D,hD⟩:∃D,w.heap.size=D:=⟨_,rfl⟩
 have H2:=Lib.hid (H1.out.below HB.out)
 have hPD:P < D:=by rw [←hD];exact lt_of_heap H1.out.pl
 rw [hD] at HF⊢
 clear hD HB H1
 have f0:=cell_of (i:=0) HF.out rfl
 have f1:=cell_of (i:=1) HF.out rfl
 have f2:=cell_of (i:=2) HF.out rfl
 have f3:=cell_of (i:=3) HF.out rfl
 have c5:W.cell? ⟨P,5,none⟩=some (.bool false):=by rw [←HFF.out];exact cell_of (i:=5) H2.out.pl rfl
 go_wp2_with fail
 with_reducible refine (uok_at 1 cn cm con true HOK _).mono ?_
 rintro e W1 ⟨rfl,hw1⟩
 have hb1:Below W.heap.size W W1:=by rw [←hw1];exact bel_alloc _ _
 have H3:=Lib.hid (H2.out.below hb1)
 have HF3:=Lib.hid (one_below HF.out hb1)
 clear f0 f1 f2 f3 c5 hw1 hb1 H2 HF
 have f0:=cell_of (i:=0) HF3.out rfl
 have f1:=cell_of (i:=1) HF3.out rfl
 have f2:=cell_of (i:=2) HF3.out rfl
 have f3:=cell_of (i:=3) HF3.out rfl
 have b1:W1.cell? ⟨P,1,none⟩=some (.int .i64 fu):=cell_of (i:=1) H3.out.pl rfl
 have b2:W1.cell? ⟨P,2,none⟩=some (.int .i64 p.fi):=cell_of (i:=2) H3.out.pl rfl
 have b3:W1.cell? ⟨P,3,none⟩=some (.int .i64 p.fd):=cell_of (i:=3) H3.out.pl rfl
 have b4:W1.cell? ⟨P,4,none⟩=some (.bool p.ft):=cell_of (i:=4) H3.out.pl rfl
 have b5:W1.cell? ⟨P,5,none⟩=some (.bool p.formed):=cell_of (i:=5) H3.out.pl rfl
 have g1:=cells_f0 H3.out.pl 1
 have g2:=cells_f0 H3.out.pl 2
 have g3:=cells_f0 H3.out.pl 3
 have g4:=cells_f0 H3.out.pl 4
 have g5:=cells_f0 H3.out.pl 5
 have hne:P≠D+1:=by omega
 have hne2:D+1≠P:=by omega
 go_wp2_with fail
 go_ret
 refine PlRes.ok2 (R:=R) (m:=m) (L:=L) (fu:=1) (cv:=cv) (ov:=ov) (cx:=cx) (ox:=ox) rfl ?_
 have hk:=((((Keep.set (a:=⟨P,1,none⟩) (S:=fun k=>k≠P) (w:=W1) (fun hk=>hk rfl) (.int .i64 1)).trans (Keep.set (a:=⟨P,2,none⟩) (fun hk=>hk rfl) (.int .i64 cn))).trans (Keep.set (a:=⟨P,3,none⟩) (fun hk=>hk rfl) (.int .i64 cm))).trans (Keep.set (a:=⟨P,4,none⟩) (fun hk=>hk rfl) (.bool con))).trans (Keep.set (a:=⟨P,5,none⟩) (fun hk=>hk rfl) (.bool true))
 exact H3.out.setP hk (by
  have:=set_at (k:=P) (i:=5) (.bool true) (set_at (k:=P) (i:=4) (.bool con) (set_at (k:=P) (i:=3) (.int .i64 cm) (set_at (k:=P) (i:=2) (.int .i64 cn) (set_at (k:=P) (i:=1) (.int .i64 1) H3.out.pl))))
  exact this) rfl rfl rfl rfl rfl
set_option maxRecDepth 100000 in
theorem define9_c (w0:World) (P:Nat) (p:Pl) (ca cn cm:Int) (con:Bool) (ct sx sy si sj:ByteArray) (nv bv:Value) (w:World) (H:Hid (PlM w0 P p w)) (hf:p.unit=0):
  Calls Tryz.prog 96 #[.pointer (some ⟨P,0,none⟩), .agg #[.int .i64 ca, .int .i64 9, .int .i64 cn, .int .i64 cm, .bool con, .string ct, .string sx, .string sy, .string si, .string sj,nv,bv]] w fun e w'=>PlRes w0 P (.ok {p with unit:=cn}) e w':=by
 obtain ⟨R,m,L,fu,cv,ov,cx,ox,h⟩:=H.out
 have H1:=Lib.hid h
 have HFF:=Lib.hid hf
 clear h H hf
 go_enter Tryz.func96,Tryz.ntmps96
 go_upto_region 8 with fail
 have H2:=Lib.hid (H1.out.below (bel_alloc w (.cells #[.int .i64 ca, .int .i64 9, .int .i64 cn, .int .i64 cm, .bool con, .string ct, .string sx, .string sy, .string si, .string sj,nv,bv] tCm)))
 have HD:Hid ((w.alloc (.cells #[.int .i64 ca, .int .i64 9, .int .i64 cn, .int .i64 cm, .bool con, .string ct, .string sx, .string sy, .string si, .string sj,nv,bv] tCm)).heap[w.heap.size]?=some (.cells #[.int .i64 ca, .int .i64 9, .int .i64 cn, .int .i64 cm, .bool con, .string ct, .string sx, .string sy, .string si, .string sj,nv,bv] tCm)):=alloc_new _ _
 generalize w.alloc (.cells #[.int .i64 ca, .int .i64 9, .int .i64 cn, .int .i64 cm, .bool con, .string ct, .string sx, .string sy, .string si, .string sj,nv,bv] tCm)=W at H2 HD⊢
 have c0:W.cell? ⟨P,0,none⟩=some (.int .i64 0):=by rw [←HFF.out];exact cell_of (i:=0) H2.out.pl rfl
 have g0:=cells_f0 H2.out.pl 0
 have d2:=cell_of (i:=2) HD.out rfl
 go_wp2_with fail
 go_ret
 refine PlRes.ok2 (R:=R) (m:=m) (L:=L) (fu:=fu) (cv:=cv) (ov:=ov) (cx:=cx) (ox:=ox) rfl ?_
 exact H2.out.setP (Keep.set (a:=⟨P,0,none⟩) (fun hk=>hk rfl) _) (by have:=set_at (k:=P) (i:=0) (.int .i64 cn) H2.out.pl;exact this) rfl rfl rfl rfl rfl
set_option maxRecDepth 100000 in
theorem set15_c (w0:World) (P:Nat) (p:Pl) (ca cn cm:Int) (con:Bool) (ct sx sy si sj:ByteArray) (nv bv:Value) (w:World) (H:Hid (PlM w0 P p w)):
  Calls Tryz.prog 97 #[.pointer (some ⟨P,0,none⟩), .agg #[.int .i64 ca, .int .i64 15, .int .i64 cn, .int .i64 cm, .bool con, .string ct, .string sx, .string sy, .string si, .string sj,nv,bv]] w fun e w'=>PlRes w0 P (.ok {p with dark:=con}) e w':=by
 obtain ⟨R,m,L,fu,cv,ov,cx,ox,h⟩:=H.out
 have H1:=Lib.hid h
 clear h H
 go_enter Tryz.func97,Tryz.ntmps97
 go_upto_region 12 with fail
 have H2:=Lib.hid (H1.out.below (bel_alloc w (.cells #[.int .i64 ca, .int .i64 15, .int .i64 cn, .int .i64 cm, .bool con, .string ct, .string sx, .string sy, .string si, .string sj,nv,bv] tCm)))
 have HD:Hid ((w.alloc (.cells #[.int .i64 ca, .int .i64 15, .int .i64 cn, .int .i64 cm, .bool con, .string ct, .string sx, .string sy, .string si, .string sj,nv,bv] tCm)).heap[w.heap.size]?=some (.cells #[.int .i64 ca, .int .i64 15, .int .i64 cn, .int .i64 cm, .bool con, .string ct, .string sx, .string sy, .string si, .string sj,nv,bv] tCm)):=alloc_new _ _
 generalize w.alloc (.cells #[.int .i64 ca, .int .i64 15, .int .i64 cn, .int .i64 cm, .bool con, .string ct, .string sx, .string sy, .string si, .string sj,nv,bv] tCm)=W at H2 HD⊢
 have c13:W.cell? ⟨P,13,none⟩=some (.bool p.dark):=cell_of (i:=13) H2.out.pl rfl
 have g13:=cells_f0 H2.out.pl 13
 have d4:=cell_of (i:=4) HD.out rfl
 go_wp2_with fail
 go_ret
 refine PlRes.ok2 (R:=R) (m:=m) (L:=L) (fu:=fu) (cv:=cv) (ov:=ov) (cx:=cx) (ox:=ox) rfl ?_
 exact H2.out.setP (Keep.set (a:=⟨P,13,none⟩) (fun hk=>hk rfl) _) (by have:=set_at (k:=P) (i:=13) (.bool con) H2.out.pl;exact this) rfl rfl rfl rfl rfl
end Go.Proofs.YtfldplmgkeiimaaGreatDoor.VW
namespace Go.Proofs.YtfldplmgkeiimaaGreatDoor.VW
open Go.RowKit Go.Proofs.YtfldplmgkeiimaaGreatDoor.Vp
theorem look_none {w:World} {m:Nat} (h:w.heap[m]?=some (.map #[] 0)) (n:Int):(Instr.lookup 158 (.map (some m)) (.int .i64 n) true).run Tryz.prog w= .ok (.tuple #[.agg #[.int .i64 0, .int .i64 0, .int .i64 0, .int .i64 0, .int .i64 0, .int .i64 0, .int .i64 0, .int .i64 0, .slice none 0 0, .slice none 0 0, .int .i64 0, .bool false, .bool false, .slice none 0 0], .bool false]) w:=by
 have h1:=Go.MapKept.run_getObj_map (P:=Tryz.prog) h
 have h2:=Go.MapKept.run_checkKey (P:=Tryz.prog) (w:=w) Tryz.underlying3 (k:= .int .i64 n) rfl true 9999
 have h3:=Go.MapKept.run_findKey (P:=Tryz.prog) (w:=w) (k:= .int .i64 n) (l:= []) (a:=none) Tryz.underlying3 rfl
 have hz:(zeroValue 272).run Tryz.prog w= .ok (.agg #[.int .i64 0, .int .i64 0, .int .i64 0, .int .i64 0, .int .i64 0, .int .i64 0, .int .i64 0, .int .i64 0, .slice none 0 0, .slice none 0 0, .int .i64 0, .bool false, .bool false, .slice none 0 0]) w:=by kernel_rfl
 simp [Instr.lookup,run_underlying Tryz.underlying158,go_sem,h1,h2,h3,hz]
set_option maxRecDepth 100000 in
set_option maxHeartbeats 12800000 in
theorem set6_c (w0:World) (P:Nat) (p:Pl) (ca cn cm:Int) (con:Bool) (ct sx sy si sj:ByteArray) (nv bv:Value) (w:World) (H:Hid (PlM w0 P p w)):
  Calls Tryz.prog 97 #[.pointer (some ⟨P,0,none⟩), .agg #[.int .i64 ca, .int .i64 6, .int .i64 cn, .int .i64 cm, .bool con, .string ct, .string sx, .string sy, .string si, .string sj,nv,bv]] w fun e w'=>PlRes w0 P (.error 4) e w':=by
 obtain ⟨R,m,L,fu,cv,ov,cx,ox,h⟩:=H.out
 have H1:=Lib.hid h
 clear h H
 go_enter Tryz.func97,Tryz.ntmps97
 go_upto_region 7 with fail
 have H2:=Lib.hid (H1.out.below (bel_alloc w (.cells #[.int .i64 ca, .int .i64 6, .int .i64 cn, .int .i64 cm, .bool con, .string ct, .string sx, .string sy, .string si, .string sj,nv,bv] tCm)))
 have HD:Hid ((w.alloc (.cells #[.int .i64 ca, .int .i64 6, .int .i64 cn, .int .i64 cm, .bool con, .string ct, .string sx, .string sy, .string si, .string sj,nv,bv] tCm)).heap[w.heap.size]?=some (.cells #[.int .i64 ca, .int .i64 6, .int .i64 cn, .int .i64 cm, .bool con, .string ct, .string sx, .string sy, .string si, .string sj,nv,bv] tCm)):=alloc_new _ _
 generalize w.alloc (.cells #[.int .i64 ca, .int .i64 6, .int .i64 cn, .int .i64 cm, .bool con, .string ct, .string sx, .string sy, .string si, .string sj,nv,bv] tCm)=W at H2 HD⊢
 obtain ⟨D,hD⟩:∃D,w.heap.size=D:=⟨_,rfl⟩
 rw [hD] at HD⊢
 clear hD H1
 have c6:W.cell? ⟨P,6,none⟩=some (.map (some m)):=cell_of (i:=6) H2.out.pl rfl
 have d2:=cell_of (i:=2) HD.out rfl
 have hPlt:=lt_of_heap H2.out.pl
 have hDlt:=lt_of_heap HD.out
 have hl1:=look_none (w:=W.drew) (m:=m) H2.out.mp.2 cn
 have hl2:=look_none (w:=(W.alloc (.cells #[.int .i64 0, .int .i64 0, .int .i64 0, .int .i64 0, .int .i64 0, .int .i64 0, .int .i64 0, .int .i64 0, .slice none 0 0, .slice none 0 0, .int .i64 0, .bool false, .bool false, .slice none 0 0] 272)).drew) (m:=m) (by have h:=one_below H2.out.mp.2 (bel_alloc W (.cells #[.int .i64 0, .int .i64 0, .int .i64 0, .int .i64 0, .int .i64 0, .int .i64 0, .int .i64 0, .int .i64 0, .slice none 0 0, .slice none 0 0, .int .i64 0, .bool false, .bool false, .slice none 0 0] 272));exact h) cn
 have HB:=Lib.hid H2.out.bel
 go_region
 all_goals
  clear hl1 hl2 c6 d2
  go_wp2_with fail
  go_ret
  refine ⟨?_,rfl⟩
  exact HB.out.trans (((bel_alloc W _).drew).mono HB.out.size)
end Go.Proofs.YtfldplmgkeiimaaGreatDoor.VW
