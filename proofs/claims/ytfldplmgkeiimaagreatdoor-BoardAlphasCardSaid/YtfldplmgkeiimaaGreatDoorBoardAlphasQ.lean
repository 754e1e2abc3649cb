/-
  Several texts of this proof in one: Zw, BoardAlphasW, BoardAlphasC.
-/
import Derived.Test.YtfldplmgkeiimaaGreatDoorQ43
import Derived.ProofKit
set_option linter.unusedVariables false
set_option linter.unusedSimpArgs false
namespace Go.Proofs.YtfldplmgkeiimaaGreatDoor.BA
open Go.RowKit Go.Proofs.YtfldplmgkeiimaaGreatDoor.Vp Go.Proofs.YtfldplmgkeiimaaGreatDoor.VW
abbrev tx:List UInt8:= [37,70,83,76,65,88,50,52,89,50,52,42,37,37,77,79,77,77,42,37,71,51,54,42,88,45,49,48,48,89,45,49,48,48,68,48,50,42,88,49,48,48,68,48,49,42,89,49,48,48,68,48,49,42,88,45,49,48,48,68,48,49,42,89,45,49,48,48,68,48,49,42,71,51,55,42,77,48,50,42]
abbrev txB:ByteArray:=⟨#[37,70,83,76,65,88,50,52,89,50,52,42,37,37,77,79,77,77,42,37,71,51,54,42,88,45,49,48,48,89,45,49,48,48,68,48,50,42,88,49,48,48,68,48,49,42,89,49,48,48,68,48,49,42,88,45,49,48,48,68,48,49,42,89,45,49,48,48,68,48,49,42,71,51,55,42,77,48,50,42]⟩
def ob:List Ob:= [(true,⟨⟨2,(0,0),(0,0),(0,0),0, [[(-100000,-100000),(100000,-100000),(100000,100000),(-100000,100000)]]⟩, .nil⟩)]
theorem file:fileV tx 9=(ob,0,0):=by decide+kernel
theorem run:runR ((Go.Proofs.YtfldplmgkeiimaaGreatDoor.Gp.parseG tx).1.map Prod.snd) (pl0 9)=true:=by decide+kernel
theorem len:(Go.Proofs.YtfldplmgkeiimaaGreatDoor.Gp.parseG tx).1.length≤500000:=by decide+kernel
theorem cov1:rastV ob ⟨0,0,8,2,1,1⟩ 9=(some [(4,4),(4,4)],7):=by decide+kernel
theorem cov2:rastV ob ⟨0,0,8,2,1,1⟩ 7=(some [(4,4),(4,4)],5):=by decide+kernel
theorem fine:∀x∈ob,Plain x.2∧Nice x.2:=by
 intro x hx
 unfold ob at hx
 rw [List.mem_singleton.1 hx]
 refine ⟨⟨rfl,fun c hc=>?_⟩,rfl, .inr rfl⟩
 rw [List.mem_singleton.1 hc]
 decide
theorem lysOk (b c p q:Int):LysOk 9 [⟨txB,b,b,b,p,false⟩,⟨txB,c,c,c,q,false⟩]:=by
 intro y hy
 have ht:y.t=txB∧y.cu=false:=by
  simp only [List.mem_cons,List.mem_singleton,List.not_mem_nil,or_false] at hy
  rcases hy with rfl | rfl <;> exact ⟨rfl,rfl⟩
 refine ⟨ht.2,?_,?_⟩
 ·rw [ht.1];exact ⟨by decide,run,len⟩
 ·rw [ht.1]
  show ∀x∈(fileV tx 9).1,_
  rw [file]
  exact fine
theorem job (a b c p q:Int) (ha:0≤a∧a≤255) (hb:0≤b∧b≤255) (hc:0≤c∧c≤255) (hp:0≤p∧p≤255) (hq:0≤q∧q≤255):jobOk ⟨0,0,8,2,1,1⟩ [⟨txB,b,b,b,p,false⟩,⟨txB,c,c,c,q,false⟩] 0 a a a=true:=by
 have hv:viewOk ⟨0,0,8,2,1,1⟩=true:=by decide+kernel
 have key:∀x:Int,0≤x∧x≤255→byV x=true:=fun x h=>by unfold byV;simp only [Bool.and_eq_true,decide_eq_true_eq];exact h
 unfold jobOk
 rw [hv]
 simp only [List.all_cons,List.all_nil,lyOk,key a ha,key b hb,key c hc,key p hp,key q hq,List.length_cons,List.length_nil,Bool.and_true,Bool.true_and,decide_eq_true_eq,Bool.and_eq_true]
 decide
def tone (a b c p q:Int):Tone:=overT (overT (startV a) b p (4,4) 4) c q (4,4) 4
theorem ren (a b c p q:Int):renL ⟨0,0,8,2,1,1⟩ 9 [⟨txB,b,b,b,p,false⟩,⟨txB,c,c,c,q,false⟩] 0 (fill3 a a a ((2:Int).toNat *(1:Int).toNat)) (max 0 (min 9 100000000))= .ok [tone a b c p q,tone a b c p q,tone a b c p q,tone a b c p q,tone a b c p q,tone a b c p q]:=by
 rw [renL_cons]
 show contRL _ _ _ _ _ _ (coverK _ _ 9 (fileV tx 9))=_
 rw [file]
 unfold coverK
 simp only
 rw [if_neg (by decide),cov1]
 unfold contRL
 simp only
 rw [renL_cons]
 show contRL _ _ _ _ _ _ (coverK _ _ 7 (fileV tx 9))=_
 rw [file]
 unfold coverK
 simp only
 rw [if_neg (by decide),cov2]
 rfl
theorem layV4 (t c al:Int):layV t c al 4 4=t *(1020 - 4 *al)+262144 *(c *al):=by
 unfold layV
 grind
theorem over4 {t:Tone} {c al:Int} (ht:t.1≤t.2) (ha:0≤al∧al≤255):overT t c al (4,4) 4=((t.1 *(1020 - 4 *al)+262144 *(c *al))/ 1020,(t.2 *(1020 - 4 *al)+262144 *(c *al)+1019)/ 1020):=by
 have h1:t.1 *(1020 - 4 *al)≤t.2 *(1020 - 4 *al):=Int.mul_le_mul_of_nonneg_right ht (by omega)
 unfold overT leastV mostV
 simp only [layV4]
 generalize t.1 *(1020 - 4 *al)=x at h1⊢
 generalize t.2 *(1020 - 4 *al)=y at h1⊢
 generalize 262144 *(c *al)=z
 have e1:min (min (min (x+z) (y+z)) (x+z)) (y+z)=x+z:=by omega
 have e2:max (max (max (x+z) (y+z)) (x+z)) (y+z)=y+z:=by omega
 rw [e1,e2]
 rw [show (255 *4:Int)=1020 by decide,show y+z+1020 - 1=y+z+1019 by omega]
theorem law (a b c p q:Int) (ha:0≤a∧a≤255) (hb:0≤b∧b≤255) (hc:0≤c∧c≤255) (hp:0≤p∧p≤255) (hq:0≤q∧q≤255):
  0≤byteV (tone a b c p q)∧byteV (tone a b c p q)≤255∧byteV (tone a b c p q) *65025 -((a *(255 - p)+b *p) *(255 - q)+c *q *255)≤32600∧-32600≤byteV (tone a b c p q) *65025 -((a *(255 - p)+b *p) *(255 - q)+c *q *255):=by
 have hs:startV a=(65536 *a,65536 *a):=by unfold startV;rw [show max 0 (min a 255)=a by omega]
 have ok1:okTone (startV a)=true:=start_ok a
 have ok2:okTone (overT (startV a) b p (4,4) 4)=true:=over_ok ok1 hb hp ⟨by decide,by decide,by decide⟩ (by decide)
 have ok3:okTone (tone a b c p q)=true:=over_ok ok2 hc hq ⟨by decide,by decide,by decide⟩ (by decide)
 obtain ⟨E1,hE⟩:∃e,a *(255 - p)+b *p=e:=⟨_,rfl⟩
 rw [hE]
 have h1:overT (startV a) b p (4,4) 4=(262144 *E1 / 1020,(262144 *E1+1019)/ 1020):=by
  rw [over4 (by rw [hs];exact Int.le_refl _) hp,hs]
  have e:65536 *a *(1020 - 4 *p)+262144 *(b *p)=262144 *E1:=by rw [←hE];grind
  simp only
  rw [e]
 obtain ⟨⟨l1,h1'⟩,ht1⟩:∃t,overT (startV a) b p (4,4) 4=t:=⟨_,rfl⟩
 rw [h1] at ht1
 injection ht1 with e1 e2
 rw [okTone_iff,h1] at ok2
 simp only at ok2
 have hle:262144 *E1 / 1020≤(262144 *E1+1019)/ 1020:=ok2.2.1
 have h2:tone a b c p q=((l1 *(1020 - 4 *q)+262144 *(c *q))/ 1020,(h1' *(1020 - 4 *q)+262144 *(c *q)+1019)/ 1020):=by
  unfold tone
  rw [h1,e1,e2]
  rw [over4 (by show l1≤h1';omega) hq]
 have hb1:1020 *l1≤262144 *E1∧262144 *E1 - 1019≤1020 *l1:=by omega
 have hb2:262144 *E1≤1020 *h1'∧1020 *h1'≤262144 *E1+1019:=by omega
 obtain ⟨w,hw⟩:∃w,255 - q=w:=⟨_,rfl⟩
 have hw0:0≤w∧w≤255:=by omega
 have m1:1020 *l1 *w≤262144 *E1 *w:=Int.mul_le_mul_of_nonneg_right hb1.1 hw0.1
 have m2:(262144 *E1 - 1019) *w≤1020 *l1 *w:=Int.mul_le_mul_of_nonneg_right hb1.2 hw0.1
 have m3:262144 *E1 *w≤1020 *h1' *w:=Int.mul_le_mul_of_nonneg_right hb2.1 hw0.1
 have m4:1020 *h1' *w≤(262144 *E1+1019) *w:=Int.mul_le_mul_of_nonneg_right hb2.2 hw0.1
 have n1:l1 *(1020 - 4 *q)=4 *(l1 *w):=by rw [←hw];grind
 have n2:h1' *(1020 - 4 *q)=4 *(h1' *w):=by rw [←hw];grind
 have n3:1020 *l1 *w=1020 *(l1 *w):=Int.mul_assoc ..
 have n4:1020 *h1' *w=1020 *(h1' *w):=Int.mul_assoc ..
 have n5:262144 *E1 *w=262144 *(E1 *w):=Int.mul_assoc ..
 have n6:(262144 *E1 - 1019) *w=262144 *(E1 *w) - 1019 *w:=by rw [Int.sub_mul,n5]
 have n7:(262144 *E1+1019) *w=262144 *(E1 *w)+1019 *w:=by rw [Int.add_mul,n5]
 rw [n3,n5] at m1
 rw [n6,n3] at m2
 rw [n5,n4] at m3
 rw [n4,n7] at m4
 unfold byteV
 rw [if_pos ok3]
 rw [okTone_iff] at ok3
 rw [h2] at ok3⊢
 rw [n1,n2] at ok3⊢
 simp only at ok3⊢
 have n8:c *q *255=255 *(c *q):=Int.mul_comm ..
 rw [hw,n8]
 generalize l1 *w=X at m1 m2 ok3⊢
 generalize h1' *w=Y at m3 m4 ok3⊢
 generalize E1 *w=P at m1 m2 m3 m4⊢
 generalize c *q=Q at ok3⊢
 omega
theorem full (a b c:Int) (ha:0≤a∧a≤255) (hb:0≤b∧b≤255) (hc:0≤c∧c≤255):byteV (tone a b c 255 255)=c:=by
 obtain ⟨h0,h1,h2,h3⟩:=law a b c 255 255 ha hb hc ⟨by decide,by decide⟩ ⟨by decide,by decide⟩
 omega
end Go.Proofs.YtfldplmgkeiimaaGreatDoor.BA
namespace Go.Proofs.YtfldplmgkeiimaaGreatDoor.BoardAlphas
open Go.ChangeShapes Go.WideShapes Go.ChangeAt Go.WideMaps Go.WideElems Go.RowKit
open Go.Proofs.YtfldplmgkeiimaaGreatDoor.Vp Go.Proofs.YtfldplmgkeiimaaGreatDoor.VW Go.Proofs.YtfldplmgkeiimaaGreatDoor.BA
open Go.Proofs.YtfldplmgkeiimaaGreatDoor.Mem (RB)
theorem lys2 {w:World} {k:Nat} {b c p q:Int} (h:w.heap[k]?=some (.cells #[.string ⟨#[37,70,83,76,65,88,50,52,89,50,52,42,37,37,77,79,77,77,42,37,71,51,54,42,88,45,49,48,48,89,45,49,48,48,68,48,50,42,88,49,48,48,68,48,49,42,89,49,48,48,68,48,49,42,88,45,49,48,48,68,48,49,42,89,45,49,48,48,68,48,49,42,71,51,55,42,77,48,50,42]⟩, .int .i64 b, .int .i64 b, .int .i64 b, .int .i64 p, .bool false, .string ⟨#[37,70,83,76,65,88,50,52,89,50,52,42,37,37,77,79,77,77,42,37,71,51,54,42,88,45,49,48,48,89,45,49,48,48,68,48,50,42,88,49,48,48,68,48,49,42,89,49,48,48,68,48,49,42,88,45,49,48,48,68,48,49,42,89,45,49,48,48,68,48,49,42,71,51,55,42,77,48,50,42]⟩, .int .i64 c, .int .i64 c, .int .i64 c, .int .i64 q, .bool false] tLy)):LysIn (fun _=>True) w (some ⟨k,0,none⟩) [⟨txB,b,b,b,p,false⟩,⟨txB,c,c,c,q,false⟩]:=by
 refine ⟨by show 2≤1000000000;decide,fun _=>⟨k,0,_,rfl,trivial,h,fun i hi=>?_⟩⟩
 have hi2:i < 2:=hi
 rcases (show i=0∨i=1 by omega) with rfl | rfl <;> rfl
theorem mulb {x y M N:Int} (hx:0≤x∧x≤M) (hy:0≤y∧y≤N):0≤x *y∧x *y≤M *N:=⟨Int.mul_nonneg hx.1 hy.1,Int.le_trans (Int.mul_le_mul_of_nonneg_right hx.2 hy.1) (Int.mul_le_mul_of_nonneg_left hy.2 (by omega))⟩
theorem and_in (n:Int):0≤bits BinOp.and IntKind.i64 n 255∧bits BinOp.and IntKind.i64 n 255≤255:=by
 rw [Go.Proofs.YtfldplmgkeiimaaGreatDoor.Bits.and255]
 omega
structure BaM (w0:World) (L:Nat) (ls jb:Array Value) (I F:Nat) (q:Option Addr) (cp:Nat) (v:Value) (x:World):Prop where
 bel:Below w0.heap.size w0 x
 ls:x.heap[L]?=some (.cells ls tLy)
 jb:x.heap[L+1]?=some (.cells jb tJb)
 im:x.heap[I]?=some (.cells #[.int .i64 2, .int .i64 1, .bool true, .slice q 6 cp] tIm)
 ft:x.heap[F]?=some (.cells #[.int .i64 0, .int .i64 0, .int .i64 0, .int .i64 0] tFt)
 row:∃B,x.ownsRow B 5 1 (.slice q 6 cp) 6 [v,v,v,v,v,v]
theorem BaM.below {w0:World} {L:Nat} {ls jb:Array Value} {I F:Nat} {q:Option Addr} {cp:Nat} {v:Value} {x y:World} (h:BaM w0 L ls jb I F q cp v x) (hb:Below x.heap.size x y):BaM w0 L ls jb I F q cp v y:=⟨h.bel.trans (hb.mono h.bel.size),one_below h.ls hb,one_below h.jb hb,one_below h.im hb,one_below h.ft hb,by obtain ⟨B,h⟩:=h.row;exact ⟨B,row_below h hb⟩⟩
theorem BaM.set {w0:World} {L:Nat} {ls jb:Array Value} {I F:Nat} {q:Option Addr} {cp:Nat} {v:Value} {x:World} (h:BaM w0 L ls jb I F q cp v x) (hL:w0.heap.size≤L) (i:Nat) (u:Value):BaM w0 L (ls.setIfInBounds i u) jb I F q cp v (x.setCell ⟨L,i,none⟩ u):=by
 refine ⟨h.bel.setCell (p:=⟨L,i,none⟩) hL u,set_at u h.ls,(far0 (ne_of_type h.jb h.ls (by decide))).trans h.jb,(far0 (ne_of_type h.im h.ls (by decide))).trans h.im,(far0 (ne_of_type h.ft h.ls (by decide))).trans h.ft,?_⟩
 obtain ⟨B,hr⟩:=h.row
 exact ⟨B,row_grown hr (grown_set _ L i _) (.inr (own_other hr h.ls (by decide)))⟩
set_option maxRecDepth 100000 in
set_option maxHeartbeats 12800000 in
theorem walk (a0:Int) (_ha0:-9223372036854775808≤a0) (_ha1:a0≤9223372036854775807) (b0:Int) (_hb0:-9223372036854775808≤b0) (_hb1:b0≤9223372036854775807) (c0:Int) (_hc0:-9223372036854775808≤c0) (_hc1:c0≤9223372036854775807) (p0:Int) (_hp0:-9223372036854775808≤p0) (_hp1:p0≤9223372036854775807) (q0:Int) (_hq0:-9223372036854775808≤q0) (_hq1:q0≤9223372036854775807) (w:World):
  Calls Tryz.prog 7 #[.int .i64 a0, .int .i64 b0, .int .i64 c0, .int .i64 p0, .int .i64 q0] w fun e w'=>e= .returned (.bool true)∧Below w.heap.size w w':=by
 clear _ha0 _ha1 _hb0 _hb1 _hc0 _hc1 _hp0 _hp1 _hq0 _hq1
 go_enter Tryz.func7,Tryz.ntmps7
 go_upto_region 4 with fail
 have ha:=and_in a0
 have hb:=and_in b0
 have hc:=and_in c0
 have hp:=and_in p0
 have hq:=and_in q0
 generalize bits BinOp.and IntKind.i64 a0 255=a at ha⊢
 generalize bits BinOp.and IntKind.i64 b0 255=b at hb⊢
 generalize bits BinOp.and IntKind.i64 c0 255=c at hc⊢
 generalize bits BinOp.and IntKind.i64 p0 255=p at hp⊢
 generalize bits BinOp.and IntKind.i64 q0 255=q at hq⊢
 have HLS:Hid (((w.alloc (.cells #[.string ⟨#[37,70,83,76,65,88,50,52,89,50,52,42,37,37,77,79,77,77,42,37,71,51,54,42,88,45,49,48,48,89,45,49,48,48,68,48,50,42,88,49,48,48,68,48,49,42,89,49,48,48,68,48,49,42,88,45,49,48,48,68,48,49,42,89,45,49,48,48,68,48,49,42,71,51,55,42,77,48,50,42]⟩, .int .i64 b, .int .i64 b, .int .i64 b, .int .i64 p, .bool false, .string ⟨#[37,70,83,76,65,88,50,52,89,50,52,42,37,37,77,79,77,77,42,37,71,51,54,42,88,45,49,48,48,89,45,49,48,48,68,48,50,42,88,49,48,48,68,48,49,42,89,49,48,48,68,48,49,42,88,45,49,48,48,68,48,49,42,89,45,49,48,48,68,48,49,42,71,51,55,42,77,48,50,42]⟩, .int .i64 c, .int .i64 c, .int .i64 c, .int .i64 q, .bool false] tLy)).alloc (.cells #[.int .i64 0, .int .i64 0, .int .i64 8, .int .i64 2, .int .i64 1, .int .i64 1, .slice (some ⟨w.heap.size,0,none⟩) 2 2, .slice none 0 0, .int .i64 a, .int .i64 a, .int .i64 a, .int .i64 9, .int .i64 9] tJb)).heap[w.heap.size]?=some (.cells #[.string ⟨#[37,70,83,76,65,88,50,52,89,50,52,42,37,37,77,79,77,77,42,37,71,51,54,42,88,45,49,48,48,89,45,49,48,48,68,48,50,42,88,49,48,48,68,48,49,42,89,49,48,48,68,48,49,42,88,45,49,48,48,68,48,49,42,89,45,49,48,48,68,48,49,42,71,51,55,42,77,48,50,42]⟩, .int .i64 b, .int .i64 b, .int .i64 b, .int .i64 p, .bool false, .string ⟨#[37,70,83,76,65,88,50,52,89,50,52,42,37,37,77,79,77,77,42,37,71,51,54,42,88,45,49,48,48,89,45,49,48,48,68,48,50,42,88,49,48,48,68,48,49,42,89,49,48,48,68,48,49,42,88,45,49,48,48,68,48,49,42,89,45,49,48,48,68,48,49,42,71,51,55,42,77,48,50,42]⟩, .int .i64 c, .int .i64 c, .int .i64 c, .int .i64 q, .bool false] tLy)):=one_below (alloc_new w _) (bel_alloc _ _)
 have HJB:Hid (((w.alloc (.cells #[.string ⟨#[37,70,83,76,65,88,50,52,89,50,52,42,37,37,77,79,77,77,42,37,71,51,54,42,88,45,49,48,48,89,45,49,48,48,68,48,50,42,88,49,48,48,68,48,49,42,89,49,48,48,68,48,49,42,88,45,49,48,48,68,48,49,42,89,45,49,48,48,68,48,49,42,71,51,55,42,77,48,50,42]⟩, .int .i64 b, .int .i64 b, .int .i64 b, .int .i64 p, .bool false, .string ⟨#[37,70,83,76,65,88,50,52,89,50,52,42,37,37,77,79,77,77,42,37,71,51,54,42,88,45,49,48,48,89,45,49,48,48,68,48,50,42,88,49,48,48,68,48,49,42,89,49,48,48,68,48,49,42,88,45,49,48,48,68,48,49,42,89,45,49,48,48,68,48,49,42,71,51,55,42,77,48,50,42]⟩, .int .i64 c, .int .i64 c, .int .i64 c, .int .i64 q, .bool false] tLy)).alloc (.cells #[.int .i64 0, .int .i64 0, .int .i64 8, .int .i64 2, .int .i64 1, .int .i64 1, .slice (some ⟨w.heap.size,0,none⟩) 2 2, .slice none 0 0, .int .i64 a, .int .i64 a, .int .i64 a, .int .i64 9, .int .i64 9] tJb)).heap[w.heap.size+1]?=some (.cells #[.int .i64 0, .int .i64 0, .int .i64 8, .int .i64 2, .int .i64 1, .int .i64 1, .slice (some ⟨w.heap.size,0,none⟩) 2 2, .slice none 0 0, .int .i64 a, .int .i64 a, .int .i64 a, .int .i64 9, .int .i64 9] tJb)):=by
  have h:=alloc_new (w.alloc (.cells #[.string ⟨#[37,70,83,76,65,88,50,52,89,50,52,42,37,37,77,79,77,77,42,37,71,51,54,42,88,45,49,48,48,89,45,49,48,48,68,48,50,42,88,49,48,48,68,48,49,42,89,49,48,48,68,48,49,42,88,45,49,48,48,68,48,49,42,89,45,49,48,48,68,48,49,42,71,51,55,42,77,48,50,42]⟩, .int .i64 b, .int .i64 b, .int .i64 b, .int .i64 p, .bool false, .string ⟨#[37,70,83,76,65,88,50,52,89,50,52,42,37,37,77,79,77,77,42,37,71,51,54,42,88,45,49,48,48,89,45,49,48,48,68,48,50,42,88,49,48,48,68,48,49,42,89,49,48,48,68,48,49,42,88,45,49,48,48,68,48,49,42,89,45,49,48,48,68,48,49,42,71,51,55,42,77,48,50,42]⟩, .int .i64 c, .int .i64 c, .int .i64 c, .int .i64 q, .bool false] tLy)) (.cells #[.int .i64 0, .int .i64 0, .int .i64 8, .int .i64 2, .int .i64 1, .int .i64 1, .slice (some ⟨w.heap.size,0,none⟩) 2 2, .slice none 0 0, .int .i64 a, .int .i64 a, .int .i64 a, .int .i64 9, .int .i64 9] tJb)
  rw [show (w.alloc (.cells #[.string ⟨#[37,70,83,76,65,88,50,52,89,50,52,42,37,37,77,79,77,77,42,37,71,51,54,42,88,45,49,48,48,89,45,49,48,48,68,48,50,42,88,49,48,48,68,48,49,42,89,49,48,48,68,48,49,42,88,45,49,48,48,68,48,49,42,89,45,49,48,48,68,48,49,42,71,51,55,42,77,48,50,42]⟩, .int .i64 b, .int .i64 b, .int .i64 b, .int .i64 p, .bool false, .string ⟨#[37,70,83,76,65,88,50,52,89,50,52,42,37,37,77,79,77,77,42,37,71,51,54,42,88,45,49,48,48,89,45,49,48,48,68,48,50,42,88,49,48,48,68,48,49,42,89,49,48,48,68,48,49,42,88,45,49,48,48,68,48,49,42,89,45,49,48,48,68,48,49,42,71,51,55,42,77,48,50,42]⟩, .int .i64 c, .int .i64 c, .int .i64 c, .int .i64 q, .bool false] tLy)).heap.size=w.heap.size+1 from Array.size_push _] at h
  exact h
 have HB:Hid (Below w.heap.size w ((w.alloc (.cells #[.string ⟨#[37,70,83,76,65,88,50,52,89,50,52,42,37,37,77,79,77,77,42,37,71,51,54,42,88,45,49,48,48,89,45,49,48,48,68,48,50,42,88,49,48,48,68,48,49,42,89,49,48,48,68,48,49,42,88,45,49,48,48,68,48,49,42,89,45,49,48,48,68,48,49,42,71,51,55,42,77,48,50,42]⟩, .int .i64 b, .int .i64 b, .int .i64 b, .int .i64 p, .bool false, .string ⟨#[37,70,83,76,65,88,50,52,89,50,52,42,37,37,77,79,77,77,42,37,71,51,54,42,88,45,49,48,48,89,45,49,48,48,68,48,50,42,88,49,48,48,68,48,49,42,89,49,48,48,68,48,49,42,88,45,49,48,48,68,48,49,42,89,45,49,48,48,68,48,49,42,71,51,55,42,77,48,50,42]⟩, .int .i64 c, .int .i64 c, .int .i64 c, .int .i64 q, .bool false] tLy)).alloc (.cells #[.int .i64 0, .int .i64 0, .int .i64 8, .int .i64 2, .int .i64 1, .int .i64 1, .slice (some ⟨w.heap.size,0,none⟩) 2 2, .slice none 0 0, .int .i64 a, .int .i64 a, .int .i64 a, .int .i64 9, .int .i64 9] tJb))):=(bel_alloc _ _).trans ((bel_alloc _ _).mono (bel_alloc _ _).size)
 generalize (w.alloc (.cells #[.string ⟨#[37,70,83,76,65,88,50,52,89,50,52,42,37,37,77,79,77,77,42,37,71,51,54,42,88,45,49,48,48,89,45,49,48,48,68,48,50,42,88,49,48,48,68,48,49,42,89,49,48,48,68,48,49,42,88,45,49,48,48,68,48,49,42,89,45,49,48,48,68,48,49,42,71,51,55,42,77,48,50,42]⟩, .int .i64 b, .int .i64 b, .int .i64 b, .int .i64 p, .bool false, .string ⟨#[37,70,83,76,65,88,50,52,89,50,52,42,37,37,77,79,77,77,42,37,71,51,54,42,88,45,49,48,48,89,45,49,48,48,68,48,50,42,88,49,48,48,68,48,49,42,89,49,48,48,68,48,49,42,88,45,49,48,48,68,48,49,42,89,45,49,48,48,68,48,49,42,71,51,55,42,77,48,50,42]⟩, .int .i64 c, .int .i64 c, .int .i64 c, .int .i64 q, .bool false] tLy)).alloc (.cells #[.int .i64 0, .int .i64 0, .int .i64 8, .int .i64 2, .int .i64 1, .int .i64 1, .slice (some ⟨w.heap.size,0,none⟩) 2 2, .slice none 0 0, .int .i64 a, .int .i64 a, .int .i64 a, .int .i64 9, .int .i64 9] tJb)=W at HLS HJB HB⊢
 obtain ⟨L,hL⟩:∃L,w.heap.size=L:=⟨_,rfl⟩
 have HLL:=Lib.hid hL
 rw [hL] at HLS HJB⊢
 clear hL
 have hr1:=Render_ok (fun _=>True) 0 0 8 2 1 1 [⟨txB,b,b,b,p,false⟩,⟨txB,c,c,c,q,false⟩] (some ⟨L,0,none⟩) 2 2 rfl none 0 a a a 9 9 (job a b c p q ha hb hc hp hq) (lysOk b c p q) W (Lib.hid (lys2 HLS.out))
 rw [ren] at hr1
 obtain ⟨j0,j1,j2,j3,j4,j5,j6,j7,j8,j9,j10,j11,j12⟩:=jb_at HJB.out
 obtain ⟨T,hT⟩:∃T,byteV (tone a b c p q)=T:=⟨_,rfl⟩
 have hlaw:=law a b c p q ha hb hc hp hq
 rw [hT] at hlaw
 go_upto_region 5 with (first |(go_at_call 20;(with_reducible refine hr1.mono ?_);intro e W2 hr;have hb2:=hr.bel;obtain ⟨qq0,cp,rfl,hrow⟩:=hr.yes)| fail)
 obtain ⟨gq,cq0,hgq,_,_⟩:=hrow.form (Nat.zero_lt_succ _)
 injection hgq with hgq _ _
 subst hgq
 obtain ⟨qq,hqq⟩:∃x:Option Addr,some ⟨gq,0,none⟩=x:=⟨_,rfl⟩
 have HQ:=Lib.hid hqq
 rw [hqq] at hrow⊢
 have hrow2:W2.ownsRow W.heap.size 5 1 (.slice qq 6 cp) 6 [.int .u8 T, .int .u8 T, .int .u8 T, .int .u8 T, .int .u8 T, .int .u8 T]:=by rw [←hT];exact hrow
 clear hqq
 have HA:Hid (BaM w L #[.string ⟨#[37,70,83,76,65,88,50,52,89,50,52,42,37,37,77,79,77,77,42,37,71,51,54,42,88,45,49,48,48,89,45,49,48,48,68,48,50,42,88,49,48,48,68,48,49,42,89,49,48,48,68,48,49,42,88,45,49,48,48,68,48,49,42,89,45,49,48,48,68,48,49,42,71,51,55,42,77,48,50,42]⟩, .int .i64 b, .int .i64 b, .int .i64 b, .int .i64 p, .bool false, .string ⟨#[37,70,83,76,65,88,50,52,89,50,52,42,37,37,77,79,77,77,42,37,71,51,54,42,88,45,49,48,48,89,45,49,48,48,68,48,50,42,88,49,48,48,68,48,49,42,89,49,48,48,68,48,49,42,88,45,49,48,48,68,48,49,42,89,45,49,48,48,68,48,49,42,71,51,55,42,77,48,50,42]⟩, .int .i64 c, .int .i64 c, .int .i64 c, .int .i64 q, .bool false] #[.int .i64 0, .int .i64 0, .int .i64 8, .int .i64 2, .int .i64 1, .int .i64 1, .slice (some ⟨L,0,none⟩) 2 2, .slice none 0 0, .int .i64 a, .int .i64 a, .int .i64 a, .int .i64 9, .int .i64 9] W2.heap.size (W2.heap.size+1) qq cp (.int .u8 T) ((W2.alloc (.cells #[.int .i64 2, .int .i64 1, .bool true, .slice qq 6 cp] tIm)).alloc (.cells #[.int .i64 0, .int .i64 0, .int .i64 0, .int .i64 0] tFt))):=by
  have s1:(W2.alloc (.cells #[.int .i64 2, .int .i64 1, .bool true, .slice qq 6 cp] tIm)).heap.size=W2.heap.size+1:=Array.size_push _
  have a2:=alloc_new (W2.alloc (.cells #[.int .i64 2, .int .i64 1, .bool true, .slice qq 6 cp] tIm)) (.cells #[.int .i64 0, .int .i64 0, .int .i64 0, .int .i64 0] tFt)
  rw [s1] at a2
  exact ⟨((HB.out.trans (hb2.mono HB.out.size)).alloc (Nat.le_trans HB.out.size hb2.size) _).alloc (by rw [s1];have:=HB.out.size;have:=hb2.size;omega) _,one_below (one_below (one_below HLS.out hb2) (bel_alloc _ _)) (bel_alloc _ _),one_below (one_below (one_below HJB.out hb2) (bel_alloc _ _)) (bel_alloc _ _),one_below (alloc_new W2 _) (bel_alloc _ _),a2,_,(hrow2.alloc _).alloc _⟩
 clear hr hb2 hrow hrow2 hr1 j0 j1 j2 j3 j4 j5 j6 j7 j8 j9 j10 j11 j12 HJB HB HLS hT
 generalize (W2.alloc (.cells #[.int .i64 2, .int .i64 1, .bool true, .slice qq 6 cp] tIm)).alloc (.cells #[.int .i64 0, .int .i64 0, .int .i64 0, .int .i64 0] tFt)=W3 at HA⊢
 obtain ⟨I,hI⟩:∃I,W2.heap.size=I:=⟨_,rfl⟩
 rw [hI] at HA⊢
 clear hI
 have hL0:Hid (w.heap.size≤L):=Nat.le_of_eq HLL.out
 have m1:0≤a *(255 - p)∧a *(255 - p)≤255 *255:=mulb ha (by omega)
 have m2:0≤b *p∧b *p≤255 *255:=mulb hb hp
 have m3:0≤(a *(255 - p)+b *p) *(255 - q)∧(a *(255 - p)+b *p) *(255 - q)≤130050 *255:=mulb (by omega) (by omega)
 have m4:0≤c *q∧c *q≤255 *255:=mulb hc hq
 obtain ⟨E,hE⟩:∃E,(a *(255 - p)+b *p) *(255 - q)+c *q *255=E:=⟨_,rfl⟩
 have hE0:0≤E∧E≤60000000:=by rw [←hE];omega
 rw [hE] at hlaw
 have x1:IntKind.i64.wrap (255 - p)=255 - p:=IntWalk.i64_in _ (by omega)
 have x2:IntKind.i64.wrap (a *(255 - p))=a *(255 - p):=IntWalk.i64_in _ (by omega)
 have x3:IntKind.i64.wrap (b *p)=b *p:=IntWalk.i64_in _ (by omega)
 have x4:IntKind.i64.wrap (a *(255 - p)+b *p)=a *(255 - p)+b *p:=IntWalk.i64_in _ (by omega)
 have x5:IntKind.i64.wrap (255 - q)=255 - q:=IntWalk.i64_in _ (by omega)
 have x6:IntKind.i64.wrap ((a *(255 - p)+b *p) *(255 - q))=(a *(255 - p)+b *p) *(255 - q):=IntWalk.i64_in _ (by omega)
 have x7:IntKind.i64.wrap (c *q)=c *q:=IntWalk.i64_in _ (by omega)
 have x8:IntKind.i64.wrap (c *q *255)=c *q *255:=IntWalk.i64_in _ (by omega)
 have x9:IntKind.i64.wrap ((a *(255 - p)+b *p) *(255 - q)+c *q *255)=E:=by rw [hE];exact IntWalk.i64_in _ (by omega)
 obtain ⟨f0,f1,f2,f3⟩:=ft_at HA.out.ft
 have i3:=cell_of (i:=3) HA.out.im rfl
 go_upto_region 8 with fail
 clear m1 m2 m3 m4 x1 x2 x3 x4 x5 x6 x7 x8 x9 f0 f1 f2 f3 i3 hE
 obtain ⟨h1,h2,h3,h4⟩:=hlaw
 have hc1:Hid (0≤c∧c≤255):=hc
 go_wp2_with fail
 go_loopw [16] (fun i wr=>∃n:Nat,wr=W3∧n≤6∧i= .int .i64 n) (fun i _=>6 -(intOf i).toNat)
 case atStart=>exact ⟨0,rfl,by decide,rfl⟩
 case round=>
 obtain ⟨n,rfl,hn6,rfl⟩:=hrel
 by_cases hn:n < 6
 ·have hni:(n:Int)< 6:=by omega
  have i3:=cell_of (i:=3) HA.out.im rfl
  obtain ⟨RB0,hRB⟩:=HA.out.row
  rw [←HQ.out] at hRB i3
  have hcell:wr.cell? ⟨gq,n,none⟩=some (.int .u8 T):=by
   have h:=hRB.cellAt n (by omega)
   rw [h]
   rcases (show n=0∨n=1∨n=2∨n=3∨n=4∨n=5 by omega) with rfl | rfl | rfl | rfl | rfl | rfl <;> rfl
  have y1:IntKind.i64.wrap T=T:=IntWalk.i64_in _ (by omega)
  have y2:IntKind.i64.wrap (T *65025)=T *65025:=IntWalk.i64_in _ (by omega)
  have y3:IntKind.i64.wrap (T *65025 - E)=T *65025 - E:=IntWalk.i64_in _ (by omega)
  have y4:decide (32600 < T *65025 - E)=false:=decide_eq_false (by omega)
  have y5:decide (T *65025 - E < -32600)=false:=decide_eq_false (by omega)
  clear hRB
  go_wp2_with fail
  go_round <;> first | exact ⟨n+1,trivial,by omega,by go_num⟩| exact ⟨n+1,rfl,by omega,by go_num⟩|(simp [intOf] <;> omega)
 ·have hne:n=6:=by omega
  subst hne
  go_upto_region 14 with fail
  have j6:=cell_of (i:=6) HA.out.jb rfl
  have l4:=cell_of (i:=4) HA.out.ls rfl
  have l10:=cell_of (i:=10) HA.out.ls rfl
  have g4:=cells_f0 HA.out.ls 4
  have g10:=cells_f0 HA.out.ls 10
  have hlt:=lt_of_heap HA.out.ls
  have HA4:Hid (BaM w L #[.string ⟨#[37,70,83,76,65,88,50,52,89,50,52,42,37,37,77,79,77,77,42,37,71,51,54,42,88,45,49,48,48,89,45,49,48,48,68,48,50,42,88,49,48,48,68,48,49,42,89,49,48,48,68,48,49,42,88,45,49,48,48,68,48,49,42,89,45,49,48,48,68,48,49,42,71,51,55,42,77,48,50,42]⟩, .int .i64 b, .int .i64 b, .int .i64 b, .int .i64 255, .bool false, .string ⟨#[37,70,83,76,65,88,50,52,89,50,52,42,37,37,77,79,77,77,42,37,71,51,54,42,88,45,49,48,48,89,45,49,48,48,68,48,50,42,88,49,48,48,68,48,49,42,89,49,48,48,68,48,49,42,88,45,49,48,48,68,48,49,42,89,45,49,48,48,68,48,49,42,71,51,55,42,77,48,50,42]⟩, .int .i64 c, .int .i64 c, .int .i64 c, .int .i64 255, .bool false] #[.int .i64 0, .int .i64 0, .int .i64 8, .int .i64 2, .int .i64 1, .int .i64 1, .slice (some ⟨L,0,none⟩) 2 2, .slice none 0 0, .int .i64 a, .int .i64 a, .int .i64 a, .int .i64 9, .int .i64 9] I (I+1) qq cp (.int .u8 T) ((wr.setCell ⟨L,4,none⟩ (.int .i64 255)).setCell ⟨L,10,none⟩ (.int .i64 255)).drew):=((HA.out.set hL0.out 4 (.int .i64 255)).set hL0.out 10 (.int .i64 255)).below (Below.refl _ _).drew
  go_region
  clear j6 l4 l10 g4 g10 hlt HA
  generalize ((wr.setCell ⟨L,4,none⟩ (.int .i64 255)).setCell ⟨L,10,none⟩ (.int .i64 255)).drew=W4 at HA4⊢
  have hr2:=Render_ok (fun _=>True) 0 0 8 2 1 1 [⟨txB,b,b,b,255,false⟩,⟨txB,c,c,c,255,false⟩] (some ⟨L,0,none⟩) 2 2 rfl none 0 a a a 9 9 (job a b c 255 255 ha hb hc ⟨by decide,by decide⟩ ⟨by decide,by decide⟩) (lysOk b c 255 255) W4 (Lib.hid (lys2 HA4.out.ls))
  rw [ren] at hr2
  have hfull:=full a b c ha hb hc
  obtain ⟨j0,j1,j2,j3,j4,j5,j6,j7,j8,j9,j10,j11,j12⟩:=jb_at HA4.out.jb
  go_upto_region 16 with (first |(go_at_call 20;(with_reducible refine hr2.mono ?_);intro e W5 hr;have hb5:=hr.bel;obtain ⟨q5,c5,rfl,hrow5⟩:=hr.yes)| fail)
  have hrow6:W5.ownsRow W4.heap.size 5 1 (.slice q5 6 c5) 6 [.int .u8 c, .int .u8 c, .int .u8 c, .int .u8 c, .int .u8 c, .int .u8 c]:=by rw [←hfull];exact hrow5
  have HA7:Hid (BaM w L #[.string ⟨#[37,70,83,76,65,88,50,52,89,50,52,42,37,37,77,79,77,77,42,37,71,51,54,42,88,45,49,48,48,89,45,49,48,48,68,48,50,42,88,49,48,48,68,48,49,42,89,49,48,48,68,48,49,42,88,45,49,48,48,68,48,49,42,89,45,49,48,48,68,48,49,42,71,51,55,42,77,48,50,42]⟩, .int .i64 b, .int .i64 b, .int .i64 b, .int .i64 255, .bool false, .string ⟨#[37,70,83,76,65,88,50,52,89,50,52,42,37,37,77,79,77,77,42,37,71,51,54,42,88,45,49,48,48,89,45,49,48,48,68,48,50,42,88,49,48,48,68,48,49,42,89,49,48,48,68,48,49,42,88,45,49,48,48,68,48,49,42,89,45,49,48,48,68,48,49,42,71,51,55,42,77,48,50,42]⟩, .int .i64 c, .int .i64 c, .int .i64 c, .int .i64 255, .bool false] #[.int .i64 0, .int .i64 0, .int .i64 8, .int .i64 2, .int .i64 1, .int .i64 1, .slice (some ⟨L,0,none⟩) 2 2, .slice none 0 0, .int .i64 a, .int .i64 a, .int .i64 a, .int .i64 9, .int .i64 9] W5.heap.size (W5.heap.size+1) q5 c5 (.int .u8 c) ((W5.alloc (.cells #[.int .i64 2, .int .i64 1, .bool true, .slice q5 6 c5] tIm)).alloc (.cells #[.int .i64 0, .int .i64 0, .int .i64 0, .int .i64 0] tFt))):=by
   have s1:(W5.alloc (.cells #[.int .i64 2, .int .i64 1, .bool true, .slice q5 6 c5] tIm)).heap.size=W5.heap.size+1:=Array.size_push _
   have a2:=alloc_new (W5.alloc (.cells #[.int .i64 2, .int .i64 1, .bool true, .slice q5 6 c5] tIm)) (.cells #[.int .i64 0, .int .i64 0, .int .i64 0, .int .i64 0] tFt)
   rw [s1] at a2
   exact ⟨((HA4.out.bel.trans (hb5.mono HA4.out.bel.size)).alloc (Nat.le_trans HA4.out.bel.size hb5.size) _).alloc (by rw [s1];have:=HA4.out.bel.size;have:=hb5.size;omega) _,one_below (one_below (one_below HA4.out.ls hb5) (bel_alloc _ _)) (bel_alloc _ _),one_below (one_below (one_below HA4.out.jb hb5) (bel_alloc _ _)) (bel_alloc _ _),one_below (alloc_new W5 _) (bel_alloc _ _),a2,_,(hrow6.alloc _).alloc _⟩
  clear hr hb5 hrow5 hrow6 hr2 j0 j1 j2 j3 j4 j5 j6 j7 j8 j9 j10 j11 j12 HA4 hfull
  generalize (W5.alloc (.cells #[.int .i64 2, .int .i64 1, .bool true, .slice q5 6 c5] tIm)).alloc (.cells #[.int .i64 0, .int .i64 0, .int .i64 0, .int .i64 0] tFt)=W7 at HA7⊢
  obtain ⟨I5,hI5⟩:∃I,W5.heap.size=I:=⟨_,rfl⟩
  rw [hI5] at HA7⊢
  clear hI5
  have hbA:=bel_alloc W7 (.cells #[.int .u8 c, .int .u8 c, .int .u8 c, .int .u8 c, .int .u8 c, .int .u8 c] 5)
  obtain ⟨cb,hcb⟩:∃cb:UInt8,c=(cb.toNat:Int):=⟨UInt8.ofNat c.toNat,by rw [UInt8.toNat_ofNat_of_lt' (by show c.toNat < 256;have:=hc.2;omega)];have:=hc.1;omega⟩
  obtain ⟨B5,hrow⟩:=HA7.out.row
  have hpix:RB (W7.alloc (.cells #[.int .u8 c, .int .u8 c, .int .u8 c, .int .u8 c, .int .u8 c, .int .u8 c] 5)) (some ⟨W7.heap.size,0,none⟩) [cb,cb,cb,cb,cb,cb]:=by
   refine RB.of fun i hi=>?_
   have h:=alloc_new W7 (.cells #[.int .u8 c, .int .u8 c, .int .u8 c, .int .u8 c, .int .u8 c, .int .u8 c] 5)
   have hi6:i < 6:=hi
   rw [hcb] at h⊢
   rcases (show i=0∨i=1∨i=2∨i=3∨i=4∨i=5 by omega) with rfl | rfl | rfl | rfl | rfl | rfl <;> exact cell_of h rfl
  have hsm:=same27_c 2 1 true q5 (some ⟨W7.heap.size,0,none⟩) 6 6 c5 6 [cb,cb,cb,cb,cb,cb] (Lib.hid rfl) (Lib.hid rfl) _ ((rb_own hrow (by rw [hcb];rfl)).below hbA) hpix
  have HBW:Hid (Below w.heap.size w (W7.alloc (.cells #[.int .u8 c, .int .u8 c, .int .u8 c, .int .u8 c, .int .u8 c, .int .u8 c] 5))):=HA7.out.bel.trans (hbA.mono HA7.out.bel.size)
  obtain ⟨f0,f1,f2,f3⟩:=ft_at (one_below HA7.out.ft hbA)
  obtain ⟨i0,i1,i2,i3⟩:=ft_at (one_below HA7.out.im hbA)
  obtain ⟨k0,k1,k2,k3⟩:=ft_at HA7.out.ft
  obtain ⟨l0,l1,l2,l3⟩:=ft_at HA7.out.im
  have hcw:IntKind.u8.wrap c=c:=IntWalk.u8_in _ (by have:=hc.1;have:=hc.2;omega)
  clear hrow hcb hpix
  go_wp2_with (first |(go_at_call 21;(with_reducible refine hsm.mono ?_);rintro e W10 ⟨rfl,hb11⟩)|(go_at_call 31;(with_reducible refine (awake27_c _).mono ?_);rintro e W11 ⟨rfl,hb12⟩)| fail)
  go_ret
  have hX:=HBW.out.trans (hb11.mono HBW.out.size)
  exact ⟨rfl,hX.trans (hb12.mono hX.size)⟩
end Go.Proofs.YtfldplmgkeiimaaGreatDoor.BoardAlphas
namespace Go.Proofs.YtfldplmgkeiimaaGreatDoor.BoardAlphas
open Go.ChangeShapes Go.WideShapes Go.ChangeAt Go.RowKit
set_option maxRecDepth 100000 in
set_option maxHeartbeats 25600000 in
theorem closed:joinedFacts Tryz.pinned.checked.prog 7 Tryz.f7 Rows.boardAlphasSpec Rows.boardAlphasRow=true:=by
 unfold joinedFacts
 simp only [Bool.and_eq_true]
 repeat' (apply And.intro)
 all_goals (as_aux_lemma=>kernel_rfl)
end Go.Proofs.YtfldplmgkeiimaaGreatDoor.BoardAlphas
