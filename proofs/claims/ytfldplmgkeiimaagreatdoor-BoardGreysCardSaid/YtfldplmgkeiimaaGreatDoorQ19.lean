/-
  Several texts of this proof in one: K5.
-/
import Derived.Test.YtfldplmgkeiimaaGreatDoorQ3
import Derived.Test.YtfldplmgkeiimaaGreatDoorQ14
import Derived.Deep.RegionLaw
import Derived.Deep.RegionHeld3
import Derived.StillTailTactics
import Derived.RegionTactic
import Derived.BigRegion
set_option linter.unusedVariables false
set_option linter.unusedSimpArgs false
namespace Go.Proofs.YtfldplmgkeiimaaGreatDoor.GW
open Go.RowKit Go.Proofs.YtfldplmgkeiimaaGreatDoor.Base Go.Proofs.YtfldplmgkeiimaaGreatDoor.Dp Go.Proofs.YtfldplmgkeiimaaGreatDoor.DeciW Go.Proofs.YtfldplmgkeiimaaGreatDoor.Mem Go.Proofs.YtfldplmgkeiimaaGreatDoor.RdW Go.Proofs.YtfldplmgkeiimaaGreatDoor.Gp
theorem ret_b {a b:Bool} (h:a=b):Ending.returned (.bool a)= .returned (.bool b):=by rw [h]
theorem one_below {w v:World} {b:Nat} {o:Obj} (h:w.heap[b]?=some o) (hb:Below w.heap.size w v):v.heap[b]?=some o:=
 (hb.block b (Array.getElem?_eq_some_iff.1 h).1).trans h
theorem row_below {w w':World} {B:Nat} {e:TypeId} {sz n:Nat} {v:Value} {xs:List Value} (h:w.ownsRow B e sz v n xs) (hb:Below w.heap.size w w'):w'.ownsRow B e sz v n xs:=
 h.kept (row:=none) ⟨hb.os,hb.tape,hb.output,hb.size,fun k hk _=>hb.block k hk⟩ (by cases v.ownBlock <;> simp)
theorem own_ne {w:World} {B:Nat} {e t:TypeId} {sz n:Nat} {v:Value} {xs:List Value} (h:w.ownsRow B e sz v n xs) {b:Nat} {cs:Array Value} {fz:Nat × Nat} (hb:w.heap[b]?=some (.cells cs t fz)) (he:e≠t):v.ownBlock≠some b:=by
 rcases h.2 with ⟨rfl,_⟩|⟨g,cap,cur,rfl,_,hh,_⟩
 ·simp [Value.ownBlock]
 ·intro h2
  have:g=b:=by simpa [Value.ownBlock] using h2
  subst this
  rw [hb] at hh
  injection hh with hh
  injection hh with _ ht
  exact he ht.symm
theorem own_ne2 {w:World} {B C:Nat} {e f:TypeId} {s1 s2 n m:Nat} {v u:Value} {xs ys:List Value} (h:w.ownsRow B e s1 v n xs) (g:w.ownsRow C f s2 u m ys) (he:e≠f):u.ownBlock=none∨u.ownBlock≠v.ownBlock:=by
 rcases g.2 with ⟨rfl,_⟩|⟨k,cap,cur,rfl,_,hh,_⟩
 ·exact .inl rfl
 ·exact .inr (Ne.symm (own_ne h hh he))
theorem row_form {w:World} {B:Nat} {e:TypeId} {sz n:Nat} {v:Value} {xs:List Value} (h:w.ownsRow B e sz v n xs):∃p cap,v= .slice p n cap:=by
 rcases h.2 with ⟨rfl,rfl⟩|⟨g,cap,cur,rfl,_⟩
 ·exact ⟨_,_,rfl⟩
 ·exact ⟨_,_,rfl⟩
def wdV (x:Wd):List Value:= [.int .i64 (x.a:Int), .bool x.ext, .bool x.first, .string ⟨x.t.toArray⟩]
def wdsV (l:List Wd):List Value:=l.flatMap wdV
theorem wdsV_snoc (l:List Wd) (x:Wd):wdsV (l++ [x])=wdsV l++wdV x:=by simp [wdsV]
abbrev wrObj (vw vt:Value) (a:Nat) (g:Bool) (i:Nat):Obj:= .cells #[vw,vt, .int .i64 (a:Int), .bool g, .int .i64 (i:Int)] 210
structure Wf (s:Ws):Prop where
 n0:s.words.length≤20000
 n1:s.text≠ []→s.words.length < 20000
 n2:s.text.length≤10000
 n4:s.inner≤s.words.length
structure Rw (B R:Nat) (vw vt:Value) (s:Ws) (w:World):Prop where
 ge:B≤R
 obj:w.heap[R]?=some (wrObj vw vt s.a s.group s.inner)
 ws:w.ownsRow B 153 4 vw s.words.length (wdsV s.words)
 tx:w.ownsRow B 5 1 vt s.text.length (byteVs s.text)
theorem set_grown (w:World) (R o:Nat) (u:Value):w.grownBy (w.setCell ⟨R,o,none⟩ u) (some R):=
 ⟨rfl,rfl,rfl,by simp [World.setCell],fun k hk hne=>Below.heap_setCell _ _ _ _ (fun e=>hne (congrArg some e))⟩
theorem row_set {x:World} {base:Nat} {e t:TypeId} {size n:Nat} {v:Value} {xs:List Value} (h:x.ownsRow base e size v n xs) {R o:Nat} {cs:Array Value} {fz:Nat × Nat} (hR:x.heap[R]?=some (.cells cs t fz)) (he:e≠t) (u:Value):(x.setCell ⟨R,o,none⟩ u).ownsRow base e size v n xs:=
 h.kept (set_grown x R o u) (.inr (own_ne h hR he))
theorem row_clear {x:World} {B:Nat} {e:TypeId} {size n:Nat} {p:Option Addr} {cap:Nat} {xs:List Value} (h:x.ownsRow B e size (.slice p n cap) n xs):x.ownsRow B e size (.slice p 0 cap) 0 []:=by
 rcases h.2 with ⟨h1,h2⟩|⟨g,c,cur,h1,h2,h3,h4,h5,h6,h7⟩
 ·refine ⟨by simp, .inl ⟨?_,rfl⟩⟩
  injection h1 with e1 _ e3
  rw [e1,e3]
 ·injection h1 with e1 _ e3
  subst e1;subst e3
  exact ⟨by simp, .inr ⟨g,cap,cur,rfl,h2,h3,Nat.zero_le _,h5,h6,by simp⟩⟩
section
variable {B R:Nat} {vw vt:Value} {s:Ws} {w w':World}
theorem Rw.below (h:Rw B R vw vt s w) (hb:Below w.heap.size w w'):Rw B R vw vt s w':=
 ⟨h.ge,one_below h.obj hb,row_below h.ws hb,row_below h.tx hb⟩
theorem Rw.cells (h:Rw B R vw vt s w):w.cell? ⟨R,0,none⟩=some vw∧w.cell? ⟨R,1,none⟩=some vt∧w.cell? ⟨R,2,none⟩=some (.int .i64 (s.a:Int))∧w.cell? ⟨R,3,none⟩=some (.bool s.group)∧w.cell? ⟨R,4,none⟩=some (.int .i64 (s.inner:Int)):=by
 have h1:=h.obj
 refine ⟨?_,?_,?_,?_,?_⟩<;> simp [World.cell?,h1]
theorem Rw.fz (h:Rw B R vw vt s w) (o:Nat):w.frozen? ⟨R,o,none⟩=false:=by
 have h1:=h.obj
 simp [World.frozen?,h1]
theorem Rw.lt (h:Rw B R vw vt s w):R < w.heap.size:=(Array.getElem?_eq_some_iff.1 h.obj).1
theorem Rw.at (h:Rw B R vw vt s w) (a:Nat):Rw B R vw vt {s with a:=a} (w.setCell ⟨R,2,none⟩ (.int .i64 (a:Int))):=
 ⟨h.ge,by rw [heap_here h.obj];rfl,row_set h.ws h.obj (by decide) _,row_set h.tx h.obj (by decide) _⟩
theorem Rw.turn (h:Rw B R vw vt s w) (g:Bool):Rw B R vw vt {s with group:=g} (w.setCell ⟨R,3,none⟩ (.bool g)):=
 ⟨h.ge,by rw [heap_here h.obj];rfl,row_set h.ws h.obj (by decide) _,row_set h.tx h.obj (by decide) _⟩
theorem Rw.inn (h:Rw B R vw vt s w) (i:Nat) (x:Int) (hx:(i:Int)=x):Rw B R vw vt {s with inner:=i} (w.setCell ⟨R,4,none⟩ (.int .i64 x)):=by
 subst hx
 exact ⟨h.ge,by rw [heap_here h.obj];rfl,row_set h.ws h.obj (by decide) _,row_set h.tx h.obj (by decide) _⟩
theorem Rw.clear {p:Option Addr} {n cap:Nat} (h:Rw B R vw (.slice p n cap) s w) (hn:n=s.text.length):Rw B R vw (.slice p 0 cap) {s with text:= []} (w.setCell ⟨R,1,none⟩ (.slice p 0 cap)):=by
 subst hn
 exact
 ⟨h.ge,by rw [heap_here h.obj];rfl,row_set h.ws h.obj (by decide) _,row_set (row_clear h.tx) h.obj (by decide) _⟩
theorem Rw.push {X w1:World} {v':Value} {x:Wd} (h:Rw B R vw vt s w) (hX:Below w.heap.size w X) (hg:X.grownBy w1 vw.ownBlock) (ho:w1.ownsRow B 153 4 v' (s.words.length+1) (wdsV s.words++wdV x)) (hB:B≤w.heap.size):
  Rw B R v' vt {s with words:=s.words++ [x]} (w1.setCell ⟨R,0,none⟩ v')∧Below B w (w1.setCell ⟨R,0,none⟩ v')∧w1.heap[R]?=some (wrObj vw vt s.a s.group s.inner):=by
 have h1:=h.below hX
 have hR:w1.heap[R]?=some (wrObj vw vt s.a s.group s.inner):=(hg.block R h1.lt (Ne.symm (own_ne h1.ws h1.obj (by decide)))).trans h1.obj
 have ht:=h1.tx.kept hg (own_ne2 h1.ws h1.tx (by decide))
 refine ⟨⟨h.ge,by rw [heap_here hR];rfl,?_,row_set ht hR (by decide) _⟩,?_,hR⟩
 ·show World.ownsRow _ B _ 4 v' (s.words++ [x]).length (wdsV (s.words++ [x]))
  rw [wdsV_snoc,show (s.words++ [x]).length=s.words.length+1 by simp]
  exact row_set ho hR (by decide) _
 ·exact (((hX.mono hB).grown hg (Nat.le_trans hB hX.size) (fun k hk=>(h1.ws.lt _ hk).1))).setCell h.ge _
theorem Rw.add {X w1:World} {v':Value} {c:UInt8} (h:Rw B R vw vt s w) (hX:Below w.heap.size w X) (hg:X.grownBy w1 vt.ownBlock) (ho:w1.ownsRow B 5 1 v' (s.text.length+1) (byteVs s.text++ [.int .u8 (c.toNat:Int)])) (hB:B≤w.heap.size):
  Rw B R vw v' {s with text:=s.text++ [c]} (w1.setCell ⟨R,1,none⟩ v')∧Below B w (w1.setCell ⟨R,1,none⟩ v')∧w1.heap[R]?=some (wrObj vw vt s.a s.group s.inner):=by
 have h1:=h.below hX
 have hR:w1.heap[R]?=some (wrObj vw vt s.a s.group s.inner):=(hg.block R h1.lt (Ne.symm (own_ne h1.tx h1.obj (by decide)))).trans h1.obj
 have ht:=h1.ws.kept hg (own_ne2 h1.tx h1.ws (by decide))
 refine ⟨⟨h.ge,by rw [heap_here hR];rfl,row_set ht hR (by decide) _,?_⟩,?_,hR⟩
 ·show World.ownsRow _ B _ 1 v' (s.text++ [c]).length (byteVs (s.text++ [c]))
  rw [byteVs_append,show (s.text++ [c]).length=s.text.length+1 by simp]
  exact row_set ho hR (by decide) _
 ·exact (((hX.mono hB).grown hg (Nat.le_trans hB hX.size) (fun k hk=>(h1.tx.lt _ hk).1))).setCell h.ge _
end
def TOut (B R:Nat) (w:World) (res:Except Nat Ws) (e:Ending) (w':World):Prop:=Below B w w'∧match res with
 | .ok s'=>e= .returned (.int .i64 0)∧Wf s'∧∃vw vt,Rw B R vw vt s' w'
 | .error k=>e= .returned (.int .i64 (k:Int))
theorem info_wd:(Tryz.prog.info? 153).map (fun i=>(i.zero,i.size,i.bytes))=some (some (.agg #[.int .i64 0, .bool false, .bool false, .string ⟨#[]⟩]),4,32):=by kernel_rfl
theorem info_u8:(Tryz.prog.info? 5).map (fun i=>(i.zero,i.size,i.bytes))=some (some (.int .u8 0),1,1):=by kernel_rfl
end Go.Proofs.YtfldplmgkeiimaaGreatDoor.GW
namespace Go.Proofs.YtfldplmgkeiimaaGreatDoor.GW
open Go.RowKit Go.Proofs.YtfldplmgkeiimaaGreatDoor.Base Go.Proofs.YtfldplmgkeiimaaGreatDoor.Dp Go.Proofs.YtfldplmgkeiimaaGreatDoor.DeciW Go.Proofs.YtfldplmgkeiimaaGreatDoor.Mem Go.Proofs.YtfldplmgkeiimaaGreatDoor.RdW Go.Proofs.YtfldplmgkeiimaaGreatDoor.Gp
theorem bs_eta (S:ByteArray):(⟨S.data.toList.toArray⟩:ByteArray)=S:=rfl
theorem tak_list (S:ByteArray) (k:Nat):(S.extract 0 k).data.toList=S.data.toList.take k:=by
 rw [Lib.extract_data];simp
theorem sub_list (s:ByteArray) (a k:Nat):(s.extract a k).data.toList=(s.data.toList.take k).drop a:=by
 rw [Lib.extract_data,List.drop_take]
set_option maxRecDepth 100000 in
set_option maxHeartbeats 800000 in
theorem digs_c (S:ByteArray) (hs:S.size≤maxLen) (n:Nat) (hn:Hid (nd S.data.toList=n)) (w:World):
  Calls Tryz.prog 176 #[.string S] w fun e w'=>e= .returned (.int .i64 (n:Int))∧w=w':=by
 have HSM:=Lib.hid hs
 unfold maxLen at hs
 go_enter Tryz.func176,Tryz.ntmps176
 go_wp2_with fail
 go_loop [3] (fun i=>∃k:Nat,Hid (k≤nd S.data.toList)∧i= .int .i64 (k:Int)) (fun i=>S.size -(intOf i).toNat)
 case atStart=>exact ⟨0,Nat.zero_le _,rfl⟩
 case round=>
  obtain ⟨k,HK,rfl⟩:=hrel
  have hkl:k≤S.size:=by have h1:=nd_le S.data.toList;have:=HK.out;rw [len_list] at h1;omega
  by_cases hlt:k < S.size
  ·have hkl':k < S.data.toList.length:=by rw [len_list];exact hlt
   have hlti:(k:Int)<(S.size:Int):=by omega
   by_cases hd:48≤S[k].toNat∧S[k].toNat≤57
   ·have HN:Hid (k+1≤nd S.data.toList):=nd_lt HK.out hkl' (by rw [getl S k hlt];exact (isD_iff _).2 hd)
    obtain ⟨hd1,hd2⟩:=hd
    go_wp2_with fail
    go_round
    case rel=>exact ⟨k+1,HN,by go_num⟩
    case measure=>simp [intOf];omega
   ·have HN:Hid (k=n):=by
     show _=_
     rw [←hn.out]
     exact (nd_stop HK.out hkl' (by rw [getl S k hlt];exact (isD_false _).2 (by omega))).symm
    by_cases h1:48≤S[k].toNat
    ·have h2:¬S[k].toNat≤57:=fun h=>hd ⟨h1,h⟩
     go_wp2_with fail
     go_ret
     exact ⟨ret_int (by rw [HN.out]),rfl⟩
    ·go_wp2_with fail
     go_ret
     exact ⟨ret_int (by rw [HN.out]),rfl⟩
  ·have HN:Hid (k=n):=by
    show _=_
    rw [←hn.out]
    have h1:=nd_le S.data.toList
    have:=HK.out
    rw [len_list] at h1
    omega
   have hlti:¬((k:Int)<(S.size:Int)):=by omega
   go_wp2_with fail
   go_ret
   exact ⟨ret_int (by rw [HN.out]),rfl⟩
def CntOut (o:Option Nat) (e:Ending):Prop:=e= .returned (.tuple #[.int .i64 ((o.getD 0:Nat):Int), .bool o.isSome])
set_option maxRecDepth 100000 in
set_option maxHeartbeats 1600000 in
theorem count_c (S:ByteArray) (hs:S.size≤maxLen) (o:Option Nat) (ho:Hid (countG S.data.toList=o)) (w:World):
  Calls Tryz.prog 138 #[.string S] w fun e w'=>CntOut o e∧w=w':=by
 have HSM:=Lib.hid hs
 unfold maxLen at hs
 have hl:=ho.out
 unfold countG at hl
 rw [len_list] at hl
 clear ho
 obtain ⟨n,hn⟩:∃n,nd S.data.toList=n:=⟨_,rfl⟩
 have HND:=Lib.hid hn
 by_cases h1:S.size < 1
 ·rw [if_pos (.inl h1)] at hl
  have HO:=Lib.hid hl
  have h1i:(S.size:Int)< 1:=by omega
  clear hl
  go_enter Tryz.func138,Tryz.ntmps138
  go_wp2_with fail
  go_ret2
  rw [←HO.out];exact ⟨rfl,rfl⟩
 ·by_cases h4:4 < S.size
  ·rw [if_pos (.inr (.inl h4))] at hl
   have HO:=Lib.hid hl
   have h1i:¬(S.size:Int)< 1:=by omega
   have h4i:4 <(S.size:Int):=by omega
   clear hl
   go_enter Tryz.func138,Tryz.ntmps138
   go_wp2_with fail
   go_ret2
   rw [←HO.out];exact ⟨rfl,rfl⟩
  ·have h1i:¬(S.size:Int)< 1:=by omega
   have h4i:¬4 <(S.size:Int):=by omega
   by_cases hnl:n=S.size
   ·rw [if_neg (by rw [hn];omega)] at hl
    have HO:=Lib.hid hl
    have hni:((n:Int) !=(S.size:Int))=false:=by simp [hnl]
    clear hl
    go_enter Tryz.func138,Tryz.ntmps138
    go_wp2_with fail
    with_reducible refine (digs_c S HSM.out n HND _).mono ?_
    rintro e w2 ⟨rfl,rfl⟩
    go_wp2_with fail
    go_loop [4,23] (fun v i=>∃k:Nat,k≤S.size∧i= .int .i64 (k:Int)∧v= .int .i64 (val (S.data.toList.take k):Nat)) (fun _ i=>S.size -(intOf i).toNat)
    case atStart=>exact ⟨0,Nat.zero_le _,rfl,rfl⟩
    case round=>
     obtain ⟨k,hk,rfl,rfl⟩:=hrel
     by_cases hlt:k < S.size
     ·have hkl:k < S.data.toList.length:=by rw [len_list];exact hlt
      have hd:48≤S[k].toNat∧S[k].toNat≤57:=by
       have:=(nd_spec S.data.toList).1 k hkl (by rw [HND.out];omega)
       rw [getl S k hlt] at this
       exact (isD_iff _).1 this
      have hv:val (S.data.toList.take k)< 10000:=Nat.lt_of_lt_of_le (val_take_lt S.data.toList k (by rw [HND.out];omega)) (by have:=Nat.pow_le_pow_right (n:=10) (by decide) (show k≤4 by omega);simpa using this)
      have HS:Hid (val (S.data.toList.take (k+1))=val (S.data.toList.take k) *10+(S[k].toNat - 48)):=by show _=_;rw [take_snoc S k hlt];exact val_snoc _ _
      have hlti:(k:Int)<(S.size:Int):=by omega
      obtain ⟨hd1,hd2⟩:=hd
      go_wp2_with fail
      go_round
      case rel=>exact ⟨k+1,by omega,by go_num,by rw [HS.out];go_num⟩
      case measure=>simp [intOf];omega
     ·have hlti:¬((k:Int)<(S.size:Int)):=by omega
      have HV:Hid (S.data.toList.take k=S.data.toList):=List.take_of_length_le (by rw [len_list];omega)
      go_wp2_with fail
      go_ret2
      rw [←HO.out,HV.out];exact ⟨rfl,rfl⟩
   ·rw [if_pos (.inr (.inr (by rw [hn];exact hnl)))] at hl
    have HO:=Lib.hid hl
    have hni:((n:Int) !=(S.size:Int))=true:=by simp;omega
    clear hl
    go_enter Tryz.func138,Tryz.ntmps138
    go_wp2_with fail
    with_reducible refine (digs_c S HSM.out n HND _).mono ?_
    rintro e w2 ⟨rfl,rfl⟩
    go_wp2_with fail
    go_ret2
    rw [←HO.out];exact ⟨rfl,rfl⟩
end Go.Proofs.YtfldplmgkeiimaaGreatDoor.GW
namespace Go.Proofs.YtfldplmgkeiimaaGreatDoor.GW
open Go.RowKit Go.Proofs.YtfldplmgkeiimaaGreatDoor.Base Go.Proofs.YtfldplmgkeiimaaGreatDoor.Dp Go.Proofs.YtfldplmgkeiimaaGreatDoor.DeciW Go.Proofs.YtfldplmgkeiimaaGreatDoor.Mem Go.Proofs.YtfldplmgkeiimaaGreatDoor.RdW Go.Proofs.YtfldplmgkeiimaaGreatDoor.Gp
theorem pre_yes_c (S P:ByteArray) (r:List UInt8) (h:Hid (S.data.toList=P.data.toList++r)) (w:World):
  Calls Tryz.prog 89 #[.string S, .string P] w fun e w'=>e= .returned (.tuple #[.string ⟨r.toArray⟩, .bool true])∧w=w':=by
 have h1:Lib.hasPrefix S.data.toList P.data.toList=true:=by
  rw [h.out];unfold Lib.hasPrefix;rw [List.isPrefixOf_iff_prefix];exact List.prefix_append _ _
 have h2:Lib.trimPrefix S.data.toList P.data.toList=r:=by
  unfold Lib.trimPrefix;rw [if_pos h1,h.out,List.drop_left]
 refine (Tryz.strings_CutPrefix S P w).mono fun e w' ⟨he,hw⟩=>⟨?_,hw.symm⟩
 rw [he,h1,h2]
theorem pre_no_c (S P:ByteArray) (h:Hid (∀r,S.data.toList≠P.data.toList++r)) (w:World):
  Calls Tryz.prog 89 #[.string S, .string P] w fun e w'=>e= .returned (.tuple #[.string S, .bool false])∧w=w':=by
 have h1:Lib.hasPrefix S.data.toList P.data.toList=false:=by
  rw [Bool.eq_false_iff];unfold Lib.hasPrefix
  intro hp
  obtain ⟨r,hr⟩:=List.isPrefixOf_iff_prefix.1 hp
  exact h.out r hr.symm
 have h2:Lib.trimPrefix S.data.toList P.data.toList=S.data.toList:=by
  unfold Lib.trimPrefix;rw [h1];rfl
 refine (Tryz.strings_CutPrefix S P w).mono fun e w' ⟨he,hw⟩=>⟨?_,hw.symm⟩
 rw [he,h1,h2,bs_eta]
theorem has_c (S P:ByteArray) (b:Bool) (h:Hid (decide (S.data.toList.take P.data.toList.length=P.data.toList)=b)) (w:World):
  Calls Tryz.prog 130 #[.string S, .string P] w fun e w'=>e= .returned (.bool b)∧w=w':=by
 refine (Tryz.strings_HasPrefix S P w).mono fun e w' ⟨he,hw⟩=>⟨?_,hw.symm⟩
 rw [he,←h.out]
 refine ret_b ?_
 rw [Bool.eq_iff_iff,decide_eq_true_iff]
 unfold Lib.hasPrefix
 rw [List.isPrefixOf_iff_prefix,List.prefix_iff_eq_take]
 exact ⟨Eq.symm,Eq.symm⟩
theorem pre_take {l p:List UInt8} (h:l.take p.length=p):l=p++l.drop p.length:=by
 conv=>lhs;rw [←List.take_append_drop p.length l,h]
theorem pre_not {l p:List UInt8} (h:l.take p.length≠p):∀r,l≠p++r:=fun r hr=>h (by rw [hr];simp)
set_option maxRecDepth 100000 in
set_option maxHeartbeats 800000 in
theorem code_c (S:ByteArray) (hs:S.size≤maxLen) (o:Option Nat) (ho:Hid (codeV S.data.toList=o)) (w:World):
  Calls Tryz.prog 94 #[.string S] w fun e w'=>CntOut o e∧w=w':=by
 have HSM:=Lib.hid hs
 unfold maxLen at hs
 have hl:=ho.out
 unfold codeV at hl
 rw [len_list] at hl
 clear ho
 by_cases h1:S.size < 2
 ·rw [if_pos (.inl h1)] at hl
  have HO:=Lib.hid hl
  have h1i:(S.size:Int)< 2:=by omega
  clear hl
  go_enter Tryz.func94,Tryz.ntmps94
  go_wp2_with fail
  go_ret2
  rw [←HO.out];exact ⟨rfl,rfl⟩
 ·have h1i:¬(S.size:Int)< 2:=by omega
  have hp:0 < S.size:=by omega
  have hh:=head_of S hp
  obtain ⟨c,hc⟩:∃c,S[0]=c:=⟨_,rfl⟩
  have hd:S.data.toList.headD 0=c:=by rw [hh,hc];rfl
  rw [hd] at hl
  obtain ⟨x,hx⟩:∃x,(c.toNat:Int)=x:=⟨_,rfl⟩
  clear hh hd
  by_cases h48:c=48
  ·rw [if_pos (.inr h48)] at hl
   have HO:=Lib.hid hl
   have hx48:x=48:=by rw [←hx,h48];rfl
   clear hl h48
   go_enter Tryz.func94,Tryz.ntmps94
   go_wp2_with fail
   go_ret2
   rw [←HO.out];exact ⟨rfl,rfl⟩
  ·rw [if_neg (by intro h;rcases h with h | h;exact h1 h;exact h48 h)] at hl
   have HO:=Lib.hid hl
   have hx48:(x==48)=false:=by
    rw [Bool.eq_false_iff];intro h;apply h48;apply UInt8.toNat.inj;have:x=48:=by simpa using h
    show c.toNat=48;omega
   clear hl h48
   go_enter Tryz.func94,Tryz.ntmps94
   go_wp2_with fail
   with_reducible refine (count_c S HSM.out o HO _).mono ?_
   rintro e w2 ⟨he,rfl⟩
   unfold CntOut at he
   subst he
   go_wp2_with fail
   go_ret2
   exact ⟨rfl,rfl⟩
def Drew (w w':World):Prop:=∃n,w'=w.drewN n
theorem drew_below {w w':World} (h:Drew w w'):Below w.heap.size w w':=by
 obtain ⟨n,rfl⟩:=h
 exact below_drewN (Below.refl _ _) n
theorem str_nil (S:ByteArray):(S.toList== [])=decide (S.size=0):=by
 rw [Lib.toList_data,Bool.eq_iff_iff,beq_iff_eq,decide_eq_true_iff,←len_list,List.length_eq_zero_iff]
theorem byte_ne {c:UInt8} {k:Nat} (hk:k < 256) (h:c≠UInt8.ofNat k):((c.toNat:Int)==(k:Int))=false:=by
 rw [Bool.eq_false_iff]
 intro he
 apply h
 apply UInt8.toNat.inj
 have:(c.toNat:Int)=(k:Int):=by simpa using he
 have h2:(UInt8.ofNat k).toNat=k:=by simp;omega
 rw [h2]
 omega
set_option maxRecDepth 100000 in
set_option maxHeartbeats 3200000 in
theorem coord_c (S:ByteArray) (hs:S.size≤1000000000) (c:UInt8) (A R:ByteArray) (h:Hid (coordG S.data.toList c=(A.data.toList,R.data.toList))) (w:World):
  Calls Tryz.prog 139 #[.string S, .string ⟨#[c]⟩] w fun e w'=>e= .returned (.tuple #[.string A, .string R])∧Drew w w':=by
 have HSM:=Lib.hid hs
 have hh:=h.out
 unfold coordG at hh
 clear h
 by_cases hc:S.data.toList≠ []∧S.data.toList.headD 0=c
 ·rw [if_pos hc] at hh
  obtain ⟨r,hr⟩:∃r,S.data.toList.drop 1=r:=⟨_,rfl⟩
  rw [hr] at hh
  have hS:S.data.toList= [c] ++r:=by
   cases hq:S.data.toList with
   | nil=>exact absurd hq hc.1
   | cons d q=>
    rw [hq] at hc hr
    rw [←hr,←hc.2]
    rfl
  obtain ⟨T,rfl⟩:=str_ex r
  have HS:Hid (S.data.toList=(⟨#[c]⟩:ByteArray).data.toList++T.data.toList):=hS
  have hrl:T.size+1=S.size:=by
   have h1:=congrArg List.length hS
   rw [len_list,List.length_append,len_list] at h1
   simp at h1;omega
  obtain ⟨g,hg⟩:∃g,signN T.data.toList=g:=⟨_,rfl⟩
  rw [hg] at hh
  obtain ⟨n,hn⟩:∃n,nd (T.data.toList.drop g)=n:=⟨_,rfl⟩
  rw [hn] at hh
  have hg1:g≤1∧g≤T.size:=by
   rw [←hg,←len_list]
   unfold signN
   split
   ·rename_i hq
    exact ⟨Nat.le_refl _,List.length_pos_iff.2 hq.1⟩
   ·exact ⟨Nat.zero_le _,Nat.zero_le _⟩
  have hng:g+n≤T.size:=by
   have h1:=nd_le (T.data.toList.drop g)
   rw [hn,List.length_drop,len_list] at h1
   omega
  have HU:Hid (nd (T.extract g T.size).data.toList=n):=by show _=_;rw [ext_list,hn]
  have hUs:(T.extract g T.size).size≤maxLen:=by
   rw [←len_list,ext_list,List.length_drop,len_list]
   unfold maxLen;omega
  have HUS:=Lib.hid hUs
  have HH:=Lib.hid hh
  have hTS:T.size≤1000000000:=by omega
  obtain ⟨hg1,hg2⟩:=hg1
  clear hh hc hr hS hUs hn hrl
  by_cases h0:T.size=0
  ·have hte:(T.toList== [])=true:=by rw [str_nil];exact decide_eq_true h0
   have hg0:g=0:=by omega
   subst hg0
   have hn0:n=0:=by omega
   subst hn0
   have HU0:Hid (nd T.data.toList=0):=by have h1:=HU.out;rw [ext_list] at h1;exact h1
   have hh:=HH.out
   rw [if_pos (.inl (by omega))] at hh
   simp only [Prod.mk.injEq] at hh
   obtain rfl:A=⟨#[]⟩:=str_eq hh.1.symm
   obtain rfl:R=S:=str_eq hh.2.symm
   clear hh HH hg h0
   go_enter Tryz.func139,Tryz.ntmps139
   go_wp2_with fail
   with_reducible refine (pre_yes_c _ _ _ HS _).mono ?_
   rintro e w2 ⟨rfl,rfl⟩
   rw [bs_eta]
   go_wp2_with fail
   with_reducible refine (digs_c T (by unfold maxLen;omega) 0 (Lib.hid HU0.out) _).mono ?_
   rintro e w2 ⟨rfl,rfl⟩
   go_wp2_with fail
   go_ret2
   exact ⟨rfl,0,rfl⟩
  ·have hte:(T.toList== [])=false:=by rw [str_nil];exact decide_eq_false h0
   have hp:0 < T.size:=by omega
   have hhd:=head_of T hp
   obtain ⟨d,hd⟩:∃d,T[0]=d:=⟨_,rfl⟩
   rw [hd] at hhd
   have hsg:signN T.data.toList=if d=43∨d=45 then 1 else 0:=by
    rw [hhd];unfold signN;simp
   rw [hg] at hsg
   clear hhd hg h0
   by_cases h43:d=43
   ·subst h43
    rw [if_pos (.inl rfl)] at hsg
    subst hsg
    have hdx:((43:UInt8).toNat:Int)=43:=rfl
    by_cases hbad:n < 1∨12 < n
    ·have hh:=HH.out
     rw [if_pos hbad] at hh
     simp only [Prod.mk.injEq] at hh
     obtain rfl:A=⟨#[]⟩:=str_eq hh.1.symm
     obtain rfl:R=S:=str_eq hh.2.symm
     clear hh HH
     by_cases hn1:(n:Int)< 1
     ·clear hbad
      go_enter Tryz.func139,Tryz.ntmps139
      go_wp2_with fail
      with_reducible refine (pre_yes_c _ _ _ HS _).mono ?_
      rintro e w2 ⟨rfl,rfl⟩
      rw [bs_eta]
      go_wp2_with fail
      with_reducible refine (digs_c _ HUS.out n HU _).mono ?_
      rintro e w2 ⟨rfl,rfl⟩
      go_wp2_with fail
      go_ret2
      exact ⟨rfl,0,rfl⟩
     ·have hn12:12 <(n:Int):=by omega
      clear hbad
      go_enter Tryz.func139,Tryz.ntmps139
      go_wp2_with fail
      with_reducible refine (pre_yes_c _ _ _ HS _).mono ?_
      rintro e w2 ⟨rfl,rfl⟩
      rw [bs_eta]
      go_wp2_with fail
      with_reducible refine (digs_c _ HUS.out n HU _).mono ?_
      rintro e w2 ⟨rfl,rfl⟩
      go_wp2_with fail
      go_ret2
      exact ⟨rfl,0,rfl⟩
    ·have hh:=HH.out
     rw [if_neg hbad] at hh
     simp only [Prod.mk.injEq] at hh
     have HA:Hid (T.extract 0 (1+n)=A):=str_eq (by rw [tak_list];exact hh.1)
     have HR:Hid (T.extract (1+n) T.size=R):=str_eq (by rw [ext_list];exact hh.2)
     have hn1:¬(n:Int)< 1:=by omega
     have hn12:¬12 <(n:Int):=by omega
     have hn12b:(n:Int)≤12:=by omega
     clear hh HH hbad
     go_enter Tryz.func139,Tryz.ntmps139
     go_wp2_with fail
     with_reducible refine (pre_yes_c _ _ _ HS _).mono ?_
     rintro e w2 ⟨rfl,rfl⟩
     rw [bs_eta]
     go_wp2_with fail
     with_reducible refine (digs_c _ HUS.out n HU _).mono ?_
     rintro e w2 ⟨rfl,rfl⟩
     go_wp2_with fail
     go_quiet (fail)
     go_wp2_with fail
     go_ret2
     obtain rfl:=HA.out
     obtain rfl:=HR.out
     exact ⟨rfl,_,rfl⟩
   ·by_cases h45:d=45
    ·subst h45
     rw [if_pos (.inr rfl)] at hsg
     subst hsg
     have hdx:((45:UInt8).toNat:Int)=45:=rfl
     by_cases hbad:n < 1∨12 < n
     ·have hh:=HH.out
      rw [if_pos hbad] at hh
      simp only [Prod.mk.injEq] at hh
      obtain rfl:A=⟨#[]⟩:=str_eq hh.1.symm
      obtain rfl:R=S:=str_eq hh.2.symm
      clear hh HH
      by_cases hn1:(n:Int)< 1
      ·clear hbad
       go_enter Tryz.func139,Tryz.ntmps139
       go_wp2_with fail
       with_reducible refine (pre_yes_c _ _ _ HS _).mono ?_
       rintro e w2 ⟨rfl,rfl⟩
       rw [bs_eta]
       go_wp2_with fail
       with_reducible refine (digs_c _ HUS.out n HU _).mono ?_
       rintro e w2 ⟨rfl,rfl⟩
       go_wp2_with fail
       go_ret2
       exact ⟨rfl,0,rfl⟩
      ·have hn12:12 <(n:Int):=by omega
       clear hbad
       go_enter Tryz.func139,Tryz.ntmps139
       go_wp2_with fail
       with_reducible refine (pre_yes_c _ _ _ HS _).mono ?_
       rintro e w2 ⟨rfl,rfl⟩
       rw [bs_eta]
       go_wp2_with fail
       with_reducible refine (digs_c _ HUS.out n HU _).mono ?_
       rintro e w2 ⟨rfl,rfl⟩
       go_wp2_with fail
       go_ret2
       exact ⟨rfl,0,rfl⟩
     ·have hh:=HH.out
      rw [if_neg hbad] at hh
      simp only [Prod.mk.injEq] at hh
      have HA:Hid (T.extract 0 (1+n)=A):=str_eq (by rw [tak_list];exact hh.1)
      have HR:Hid (T.extract (1+n) T.size=R):=str_eq (by rw [ext_list];exact hh.2)
      have hn1:¬(n:Int)< 1:=by omega
      have hn12:¬12 <(n:Int):=by omega
      have hn12b:(n:Int)≤12:=by omega
      clear hh HH hbad
      go_enter Tryz.func139,Tryz.ntmps139
      go_wp2_with fail
      with_reducible refine (pre_yes_c _ _ _ HS _).mono ?_
      rintro e w2 ⟨rfl,rfl⟩
      rw [bs_eta]
      go_wp2_with fail
      with_reducible refine (digs_c _ HUS.out n HU _).mono ?_
      rintro e w2 ⟨rfl,rfl⟩
      go_wp2_with fail
      go_quiet (fail)
      go_wp2_with fail
      go_ret2
      obtain rfl:=HA.out
      obtain rfl:=HR.out
      exact ⟨rfl,_,rfl⟩
    ·rw [if_neg (by intro h;rcases h with h | h;exact h43 h;exact h45 h)] at hsg
     subst hsg
     have HU0:Hid (nd T.data.toList=n):=by have h1:=HU.out;rw [ext_list] at h1;exact h1
     have hd43:((d.toNat:Int)==43)=false:=byte_ne (k:=43) (by decide) h43
     have hd45:((d.toNat:Int)==45)=false:=byte_ne (k:=45) (by decide) h45
     clear h43 h45
     by_cases hbad:n < 1∨12 < n
     ·have hh:=HH.out
      rw [if_pos hbad] at hh
      simp only [Prod.mk.injEq] at hh
      obtain rfl:A=⟨#[]⟩:=str_eq hh.1.symm
      obtain rfl:R=S:=str_eq hh.2.symm
      clear hh HH
      by_cases hn1:(n:Int)< 1
      ·clear hbad
       go_enter Tryz.func139,Tryz.ntmps139
       go_wp2_with fail
       with_reducible refine (pre_yes_c _ _ _ HS _).mono ?_
       rintro e w2 ⟨rfl,rfl⟩
       rw [bs_eta]
       go_wp2_with fail
       with_reducible refine (digs_c T (by unfold maxLen;omega) n HU0 _).mono ?_
       rintro e w2 ⟨rfl,rfl⟩
       go_wp2_with fail
       go_ret2
       exact ⟨rfl,0,rfl⟩
      ·have hn12:12 <(n:Int):=by omega
       clear hbad
       go_enter Tryz.func139,Tryz.ntmps139
       go_wp2_with fail
       with_reducible refine (pre_yes_c _ _ _ HS _).mono ?_
       rintro e w2 ⟨rfl,rfl⟩
       rw [bs_eta]
       go_wp2_with fail
       with_reducible refine (digs_c T (by unfold maxLen;omega) n HU0 _).mono ?_
       rintro e w2 ⟨rfl,rfl⟩
       go_wp2_with fail
       go_ret2
       exact ⟨rfl,0,rfl⟩
     ·have hh:=HH.out
      rw [if_neg hbad] at hh
      simp only [Prod.mk.injEq] at hh
      have HA:Hid (T.extract 0 n=A):=str_eq (by rw [tak_list];have:=hh.1;rwa [Nat.zero_add] at this)
      have HR:Hid (T.extract n T.size=R):=str_eq (by rw [ext_list];have:=hh.2;rwa [Nat.zero_add] at this)
      have hn1:¬(n:Int)< 1:=by omega
      have hn12:¬12 <(n:Int):=by omega
      have hn12b:(n:Int)≤12:=by omega
      clear hh HH hbad
      go_enter Tryz.func139,Tryz.ntmps139
      go_wp2_with fail
      with_reducible refine (pre_yes_c _ _ _ HS _).mono ?_
      rintro e w2 ⟨rfl,rfl⟩
      rw [bs_eta]
      go_wp2_with fail
      with_reducible refine (digs_c T (by unfold maxLen;omega) n HU0 _).mono ?_
      rintro e w2 ⟨rfl,rfl⟩
      go_wp2_with fail
      go_quiet (fail)
      go_wp2_with fail
      go_ret2
      obtain rfl:=HA.out
      obtain rfl:=HR.out
      exact ⟨rfl,_,rfl⟩
 ·rw [if_neg hc] at hh
  simp only [Prod.mk.injEq] at hh
  obtain rfl:A=⟨#[]⟩:=str_eq hh.1.symm
  obtain rfl:R=S:=str_eq hh.2.symm
  have HN:Hid (∀r,R.data.toList≠(⟨#[c]⟩:ByteArray).data.toList++r):=by
   intro r hr
   apply hc
   rw [hr]
   exact ⟨by simp,rfl⟩
  clear hh hc
  go_enter Tryz.func139,Tryz.ntmps139
  go_wp2_with fail
  with_reducible refine (pre_no_c _ _ HN _).mono ?_
  rintro e w2 ⟨rfl,rfl⟩
  go_wp2_with fail
  go_ret2
  exact ⟨rfl,0,rfl⟩
end Go.Proofs.YtfldplmgkeiimaaGreatDoor.GW
namespace Go.Proofs.YtfldplmgkeiimaaGreatDoor.GW
open Go.RowKit Go.Proofs.YtfldplmgkeiimaaGreatDoor.Base Go.Proofs.YtfldplmgkeiimaaGreatDoor.Dp Go.Proofs.YtfldplmgkeiimaaGreatDoor.DeciW Go.Proofs.YtfldplmgkeiimaaGreatDoor.Mem Go.Proofs.YtfldplmgkeiimaaGreatDoor.RdW Go.Proofs.YtfldplmgkeiimaaGreatDoor.Gp
def okNm (j:Nat) (c:UInt8):Bool:=headN c ||(decide (0 < j) && tailN c)
theorem name_iff (l:List UInt8) (h1:1≤l.length) (h2:l.length≤100):nameV l=true↔∀j (h:j < l.length),okNm j l[j]=true:=by
 cases l with
 | nil=>simp at h1
 | cons c r=>
  unfold nameV
  rw [decide_eq_true h1,decide_eq_true h2]
  simp only [Bool.true_and,List.headD_cons,List.drop_succ_cons,List.drop_zero,Bool.and_eq_true,List.all_eq_true]
  constructor
  ·rintro ⟨ha,hb⟩ j hj
   cases j with
   | zero=>unfold okNm;simp [ha]
   | succ j=>
    have:=hb (r[j]'(by simpa using hj)) (List.getElem_mem _)
    unfold okNm
    simpa using this
  ·intro h
   refine ⟨?_,fun x hx=>?_⟩
   ·have:=h 0 (by simp)
    unfold okNm at this
    simpa using this
   ·obtain ⟨j,hj,rfl⟩:=List.getElem_of_mem hx
    have:=h (j+1) (by simpa using hj)
    unfold okNm at this
    simpa using this
theorem okNm_at (j:Nat) (c:UInt8) (x:Int) (hx:(c.toNat:Int)=x):okNm j c=((decide (97≤x) && decide (x≤122))||(decide (65≤x) && decide (x≤90))|| decide (x=95)|| decide (x=46)|| decide (x=36)||(decide (0 < j) && ((decide (48≤x) && decide (x≤57))|| decide (x=45)))):=by
 have h1:∀k:Nat,k < 256→(c==UInt8.ofNat k)=decide (x=(k:Int)):=by
  intro k hk
  rw [Bool.eq_iff_iff,beq_iff_eq,decide_eq_true_iff,←hx]
  constructor
  ·intro h;rw [h];simp;omega
  ·intro h;apply UInt8.toNat.inj;simp;omega
 have h2:∀k:Nat,decide (k≤c.toNat)=decide ((k:Int)≤x):=by intro k;rw [decide_eq_decide,←hx];omega
 have h3:∀k:Nat,decide (c.toNat≤k)=decide (x≤(k:Int)):=by intro k;rw [decide_eq_decide,←hx];omega
 unfold okNm headN tailN isD
 rw [h2,h3,h2,h3,h2,h3,show (c==95)=_ from h1 95 (by decide),show (c==46)=_ from h1 46 (by decide),show (c==36)=_ from h1 36 (by decide),show (c==45)=_ from h1 45 (by decide)]
 rfl
set_option maxRecDepth 100000 in
set_option maxHeartbeats 6400000 in
theorem name_c (S:ByteArray) (hs:S.size≤maxLen) (b:Bool) (hb:Hid (nameV S.data.toList=b)) (w:World):
  Calls Tryz.prog 91 #[.string S] w fun e w'=>e= .returned (.bool b)∧w=w':=by
 unfold maxLen at hs
 by_cases h1:(S.size:Int)< 1
 ·have HB:Hid (false=b):=by
   show _=_
   rw [←hb.out]
   unfold nameV
   rw [len_list,decide_eq_false (show ¬1≤S.size by omega)]
   rfl
  go_enter Tryz.func91,Tryz.ntmps91
  go_wp2_with fail
  go_ret
  exact ⟨ret_b HB.out,rfl⟩
 ·by_cases h2:100 <(S.size:Int)
  ·have HB:Hid (false=b):=by
    show _=_
    rw [←hb.out]
    unfold nameV
    rw [len_list,decide_eq_false (show ¬S.size≤100 by omega)]
    simp
   go_enter Tryz.func91,Tryz.ntmps91
   go_wp2_with fail
   go_ret
   exact ⟨ret_b HB.out,rfl⟩
  ·have HI:Hid (nameV S.data.toList=true↔∀j (h:j < S.data.toList.length),okNm j S.data.toList[j]=true):=name_iff _ (by rw [len_list];omega) (by rw [len_list];omega)
   go_enter Tryz.func91,Tryz.ntmps91
   go_wp2_with fail
   go_loop [15] (fun i=>∃k:Nat,k≤S.size∧Hid (∀j (h:j < S.data.toList.length),j < k→okNm j S.data.toList[j]=true)∧i= .int .i64 (k:Int)) (fun i=>S.size -(intOf i).toNat)
   case atStart=>exact ⟨0,Nat.zero_le _,fun j _ h=>absurd h (Nat.not_lt_zero _),rfl⟩
   case round=>
    obtain ⟨k,hk,HK,rfl⟩:=hrel
    by_cases hlt:k < S.size
    ·have hkl:k < S.data.toList.length:=by rw [len_list];exact hlt
     have hlti:(k:Int)<(S.size:Int):=by omega
     obtain ⟨x,hx⟩:∃x,(S[k].toNat:Int)=x:=⟨_,rfl⟩
     obtain ⟨bo,hbo⟩:∃bo,okNm k S[k]=bo:=⟨_,rfl⟩
     have hbx:=hbo
     rw [okNm_at k S[k] x hx] at hbx
     have HB0:Hid (bo=true→∀j (h:j < S.data.toList.length),j < k+1→okNm j S.data.toList[j]=true):=by
      intro ht j hj hjk
      by_cases hjk2:j=k
      ·subst hjk2;rw [getl S j hlt,hbo,ht]
      ·exact HK.out j hj (by omega)
     have HB1:Hid (bo=false→false=b):=by
      intro hf
      rw [←hb.out]
      refine (Bool.eq_false_iff.2 fun hn=>?_).symm
      have:=HI.out.1 hn k hkl
      rw [getl S k hlt,hbo,hf] at this
      cases this
     clear hbo
     have hcl:(97≤x∧x≤122)∨(123≤x)∨(x=96)∨(x=95)∨(91≤x∧x≤94)∨(65≤x∧x≤90)∨(58≤x∧x≤64)∨(48≤x∧x≤57)∨(x=47)∨(x=46)∨(x=45)∨(37≤x∧x≤44)∨(x=36)∨(x≤35):=by omega
     rcases hcl with hcl | hcl | hcl | hcl | hcl | hcl | hcl | hcl | hcl | hcl | hcl | hcl | hcl | hcl
     ·have p0:97≤x:=by omega
      have p1:x≤122:=by omega
      have p2:65≤x:=by omega
      have p3:¬x≤90:=by omega
      have p4:48≤x:=by omega
      have p5:¬x≤57:=by omega
      have q95:(x==95)=false:=by rw [beq_eq_false_iff_ne];omega
      have q46:(x==46)=false:=by rw [beq_eq_false_iff_ne];omega
      have q36:(x==36)=false:=by rw [beq_eq_false_iff_ne];omega
      have q45:(x==45)=false:=by rw [beq_eq_false_iff_ne];omega
      have hbt:bo=true:=by rw [←hbx];simp only [Bool.or_eq_true,Bool.and_eq_true,decide_eq_true_iff];omega
      have HK2:=Lib.hid (HB0.out hbt)
      clear hbx hcl hbt HB0 HB1
      go_wp2_with fail
      go_round <;> first | exact ⟨k+1,by omega,HK2.out,by go_num⟩|(simp [intOf] <;> omega)
     ·have p0:97≤x:=by omega
      have p1:¬x≤122:=by omega
      have p2:65≤x:=by omega
      have p3:¬x≤90:=by omega
      have p4:48≤x:=by omega
      have p5:¬x≤57:=by omega
      have q95:(x==95)=false:=by rw [beq_eq_false_iff_ne];omega
      have q46:(x==46)=false:=by rw [beq_eq_false_iff_ne];omega
      have q36:(x==36)=false:=by rw [beq_eq_false_iff_ne];omega
      have q45:(x==45)=false:=by rw [beq_eq_false_iff_ne];omega
      by_cases hk0:0 <(k:Int)
      ·have hbt:bo=false:=by rw [←hbx,Bool.eq_false_iff];intro h;simp only [Bool.or_eq_true,Bool.and_eq_true,decide_eq_true_iff] at h;omega
       have HB:=Lib.hid (HB1.out hbt)
       clear hbx hcl hbt HB0 HB1
       go_wp2_with fail
       go_ret
       exact ⟨ret_b HB.out,rfl⟩
      ·have hbt:bo=false:=by rw [←hbx,Bool.eq_false_iff];intro h;simp only [Bool.or_eq_true,Bool.and_eq_true,decide_eq_true_iff] at h;omega
       have HB:=Lib.hid (HB1.out hbt)
       clear hbx hcl hbt HB0 HB1
       go_wp2_with fail
       go_ret
       exact ⟨ret_b HB.out,rfl⟩
     ·have p0:¬97≤x:=by omega
      have p1:x≤122:=by omega
      have p2:65≤x:=by omega
      have p3:¬x≤90:=by omega
      have p4:48≤x:=by omega
      have p5:¬x≤57:=by omega
      have q95:(x==95)=false:=by rw [beq_eq_false_iff_ne];omega
      have q46:(x==46)=false:=by rw [beq_eq_false_iff_ne];omega
      have q36:(x==36)=false:=by rw [beq_eq_false_iff_ne];omega
      have q45:(x==45)=false:=by rw [beq_eq_false_iff_ne];omega
      by_cases hk0:0 <(k:Int)
      ·have hbt:bo=false:=by rw [←hbx,Bool.eq_false_iff];intro h;simp only [Bool.or_eq_true,Bool.and_eq_true,decide_eq_true_iff] at h;omega
       have HB:=Lib.hid (HB1.out hbt)
       clear hbx hcl hbt HB0 HB1
       go_wp2_with fail
       go_ret
       exact ⟨ret_b HB.out,rfl⟩
      ·have hbt:bo=false:=by rw [←hbx,Bool.eq_false_iff];intro h;simp only [Bool.or_eq_true,Bool.and_eq_true,decide_eq_true_iff] at h;omega
       have HB:=Lib.hid (HB1.out hbt)
       clear hbx hcl hbt HB0 HB1
       go_wp2_with fail
       go_ret
       exact ⟨ret_b HB.out,rfl⟩
     ·have p0:¬97≤x:=by omega
      have p1:x≤122:=by omega
      have p2:65≤x:=by omega
      have p3:¬x≤90:=by omega
      have p4:48≤x:=by omega
      have p5:¬x≤57:=by omega
      have q95:(x==95)=true:=by subst hcl;rfl
      have q46:(x==46)=false:=by rw [beq_eq_false_iff_ne];omega
      have q36:(x==36)=false:=by rw [beq_eq_false_iff_ne];omega
      have q45:(x==45)=false:=by rw [beq_eq_false_iff_ne];omega
      have hbt:bo=true:=by rw [←hbx];simp only [Bool.or_eq_true,Bool.and_eq_true,decide_eq_true_iff];omega
      have HK2:=Lib.hid (HB0.out hbt)
      clear hbx hcl hbt HB0 HB1
      go_wp2_with fail
      go_round <;> first | exact ⟨k+1,by omega,HK2.out,by go_num⟩|(simp [intOf] <;> omega)
     ·have p0:¬97≤x:=by omega
      have p1:x≤122:=by omega
      have p2:65≤x:=by omega
      have p3:¬x≤90:=by omega
      have p4:48≤x:=by omega
      have p5:¬x≤57:=by omega
      have q95:(x==95)=false:=by rw [beq_eq_false_iff_ne];omega
      have q46:(x==46)=false:=by rw [beq_eq_false_iff_ne];omega
      have q36:(x==36)=false:=by rw [beq_eq_false_iff_ne];omega
      have q45:(x==45)=false:=by rw [beq_eq_false_iff_ne];omega
      by_cases hk0:0 <(k:Int)
      ·have hbt:bo=false:=by rw [←hbx,Bool.eq_false_iff];intro h;simp only [Bool.or_eq_true,Bool.and_eq_true,decide_eq_true_iff] at h;omega
       have HB:=Lib.hid (HB1.out hbt)
       clear hbx hcl hbt HB0 HB1
       go_wp2_with fail
       go_ret
       exact ⟨ret_b HB.out,rfl⟩
      ·have hbt:bo=false:=by rw [←hbx,Bool.eq_false_iff];intro h;simp only [Bool.or_eq_true,Bool.and_eq_true,decide_eq_true_iff] at h;omega
       have HB:=Lib.hid (HB1.out hbt)
       clear hbx hcl hbt HB0 HB1
       go_wp2_with fail
       go_ret
       exact ⟨ret_b HB.out,rfl⟩
     ·have p0:¬97≤x:=by omega
      have p1:x≤122:=by omega
      have p2:65≤x:=by omega
      have p3:x≤90:=by omega
      have p4:48≤x:=by omega
      have p5:¬x≤57:=by omega
      have q95:(x==95)=false:=by rw [beq_eq_false_iff_ne];omega
      have q46:(x==46)=false:=by rw [beq_eq_false_iff_ne];omega
      have q36:(x==36)=false:=by rw [beq_eq_false_iff_ne];omega
      have q45:(x==45)=false:=by rw [beq_eq_false_iff_ne];omega
      have hbt:bo=true:=by rw [←hbx];simp only [Bool.or_eq_true,Bool.and_eq_true,decide_eq_true_iff];omega
      have HK2:=Lib.hid (HB0.out hbt)
      clear hbx hcl hbt HB0 HB1
      go_wp2_with fail
      go_round <;> first | exact ⟨k+1,by omega,HK2.out,by go_num⟩|(simp [intOf] <;> omega)
     ·have p0:¬97≤x:=by omega
      have p1:x≤122:=by omega
      have p2:¬65≤x:=by omega
      have p3:x≤90:=by omega
      have p4:48≤x:=by omega
      have p5:¬x≤57:=by omega
      have q95:(x==95)=false:=by rw [beq_eq_false_iff_ne];omega
      have q46:(x==46)=false:=by rw [beq_eq_false_iff_ne];omega
      have q36:(x==36)=false:=by rw [beq_eq_false_iff_ne];omega
      have q45:(x==45)=false:=by rw [beq_eq_false_iff_ne];omega
      by_cases hk0:0 <(k:Int)
      ·have hbt:bo=false:=by rw [←hbx,Bool.eq_false_iff];intro h;simp only [Bool.or_eq_true,Bool.and_eq_true,decide_eq_true_iff] at h;omega
       have HB:=Lib.hid (HB1.out hbt)
       clear hbx hcl hbt HB0 HB1
       go_wp2_with fail
       go_ret
       exact ⟨ret_b HB.out,rfl⟩
      ·have hbt:bo=false:=by rw [←hbx,Bool.eq_false_iff];intro h;simp only [Bool.or_eq_true,Bool.and_eq_true,decide_eq_true_iff] at h;omega
       have HB:=Lib.hid (HB1.out hbt)
       clear hbx hcl hbt HB0 HB1
       go_wp2_with fail
       go_ret
       exact ⟨ret_b HB.out,rfl⟩
     ·have p0:¬97≤x:=by omega
      have p1:x≤122:=by omega
      have p2:¬65≤x:=by omega
      have p3:x≤90:=by omega
      have p4:48≤x:=by omega
      have p5:x≤57:=by omega
      have q95:(x==95)=false:=by rw [beq_eq_false_iff_ne];omega
      have q46:(x==46)=false:=by rw [beq_eq_false_iff_ne];omega
      have q36:(x==36)=false:=by rw [beq_eq_false_iff_ne];omega
      have q45:(x==45)=false:=by rw [beq_eq_false_iff_ne];omega
      by_cases hk0:0 <(k:Int)
      ·have hbt:bo=true:=by rw [←hbx];simp only [Bool.or_eq_true,Bool.and_eq_true,decide_eq_true_iff];omega
       have HK2:=Lib.hid (HB0.out hbt)
       clear hbx hcl hbt HB0 HB1
       go_wp2_with fail
       go_round <;> first | exact ⟨k+1,by omega,HK2.out,by go_num⟩|(simp [intOf] <;> omega)
      ·have hbt:bo=false:=by rw [←hbx,Bool.eq_false_iff];intro h;simp only [Bool.or_eq_true,Bool.and_eq_true,decide_eq_true_iff] at h;omega
       have HB:=Lib.hid (HB1.out hbt)
       clear hbx hcl hbt HB0 HB1
       go_wp2_with fail
       go_ret
       exact ⟨ret_b HB.out,rfl⟩
     ·have p0:¬97≤x:=by omega
      have p1:x≤122:=by omega
      have p2:¬65≤x:=by omega
      have p3:x≤90:=by omega
      have p4:¬48≤x:=by omega
      have p5:x≤57:=by omega
      have q95:(x==95)=false:=by rw [beq_eq_false_iff_ne];omega
      have q46:(x==46)=false:=by rw [beq_eq_false_iff_ne];omega
      have q36:(x==36)=false:=by rw [beq_eq_false_iff_ne];omega
      have q45:(x==45)=false:=by rw [beq_eq_false_iff_ne];omega
      by_cases hk0:0 <(k:Int)
      ·have hbt:bo=false:=by rw [←hbx,Bool.eq_false_iff];intro h;simp only [Bool.or_eq_true,Bool.and_eq_true,decide_eq_true_iff] at h;omega
       have HB:=Lib.hid (HB1.out hbt)
       clear hbx hcl hbt HB0 HB1
       go_wp2_with fail
       go_ret
       exact ⟨ret_b HB.out,rfl⟩
      ·have hbt:bo=false:=by rw [←hbx,Bool.eq_false_iff];intro h;simp only [Bool.or_eq_true,Bool.and_eq_true,decide_eq_true_iff] at h;omega
       have HB:=Lib.hid (HB1.out hbt)
       clear hbx hcl hbt HB0 HB1
       go_wp2_with fail
       go_ret
       exact ⟨ret_b HB.out,rfl⟩
     ·have p0:¬97≤x:=by omega
      have p1:x≤122:=by omega
      have p2:¬65≤x:=by omega
      have p3:x≤90:=by omega
      have p4:¬48≤x:=by omega
      have p5:x≤57:=by omega
      have q95:(x==95)=false:=by rw [beq_eq_false_iff_ne];omega
      have q46:(x==46)=true:=by subst hcl;rfl
      have q36:(x==36)=false:=by rw [beq_eq_false_iff_ne];omega
      have q45:(x==45)=false:=by rw [beq_eq_false_iff_ne];omega
      have hbt:bo=true:=by rw [←hbx];simp only [Bool.or_eq_true,Bool.and_eq_true,decide_eq_true_iff];omega
      have HK2:=Lib.hid (HB0.out hbt)
      clear hbx hcl hbt HB0 HB1
      go_wp2_with fail
      go_round <;> first | exact ⟨k+1,by omega,HK2.out,by go_num⟩|(simp [intOf] <;> omega)
     ·have p0:¬97≤x:=by omega
      have p1:x≤122:=by omega
      have p2:¬65≤x:=by omega
      have p3:x≤90:=by omega
      have p4:¬48≤x:=by omega
      have p5:x≤57:=by omega
      have q95:(x==95)=false:=by rw [beq_eq_false_iff_ne];omega
      have q46:(x==46)=false:=by rw [beq_eq_false_iff_ne];omega
      have q36:(x==36)=false:=by rw [beq_eq_false_iff_ne];omega
      have q45:(x==45)=true:=by subst hcl;rfl
      by_cases hk0:0 <(k:Int)
      ·have hbt:bo=true:=by rw [←hbx];simp only [Bool.or_eq_true,Bool.and_eq_true,decide_eq_true_iff];omega
       have HK2:=Lib.hid (HB0.out hbt)
       clear hbx hcl hbt HB0 HB1
       go_wp2_with fail
       go_round <;> first | exact ⟨k+1,by omega,HK2.out,by go_num⟩|(simp [intOf] <;> omega)
      ·have hbt:bo=false:=by rw [←hbx,Bool.eq_false_iff];intro h;simp only [Bool.or_eq_true,Bool.and_eq_true,decide_eq_true_iff] at h;omega
       have HB:=Lib.hid (HB1.out hbt)
       clear hbx hcl hbt HB0 HB1
       go_wp2_with fail
       go_ret
       exact ⟨ret_b HB.out,rfl⟩
     ·have p0:¬97≤x:=by omega
      have p1:x≤122:=by omega
      have p2:¬65≤x:=by omega
      have p3:x≤90:=by omega
      have p4:¬48≤x:=by omega
      have p5:x≤57:=by omega
      have q95:(x==95)=false:=by rw [beq_eq_false_iff_ne];omega
      have q46:(x==46)=false:=by rw [beq_eq_false_iff_ne];omega
      have q36:(x==36)=false:=by rw [beq_eq_false_iff_ne];omega
      have q45:(x==45)=false:=by rw [beq_eq_false_iff_ne];omega
      by_cases hk0:0 <(k:Int)
      ·have hbt:bo=false:=by rw [←hbx,Bool.eq_false_iff];intro h;simp only [Bool.or_eq_true,Bool.and_eq_true,decide_eq_true_iff] at h;omega
       have HB:=Lib.hid (HB1.out hbt)
       clear hbx hcl hbt HB0 HB1
       go_wp2_with fail
       go_ret
       exact ⟨ret_b HB.out,rfl⟩
      ·have hbt:bo=false:=by rw [←hbx,Bool.eq_false_iff];intro h;simp only [Bool.or_eq_true,Bool.and_eq_true,decide_eq_true_iff] at h;omega
       have HB:=Lib.hid (HB1.out hbt)
       clear hbx hcl hbt HB0 HB1
       go_wp2_with fail
       go_ret
       exact ⟨ret_b HB.out,rfl⟩
     ·have p0:¬97≤x:=by omega
      have p1:x≤122:=by omega
      have p2:¬65≤x:=by omega
      have p3:x≤90:=by omega
      have p4:¬48≤x:=by omega
      have p5:x≤57:=by omega
      have q95:(x==95)=false:=by rw [beq_eq_false_iff_ne];omega
      have q46:(x==46)=false:=by rw [beq_eq_false_iff_ne];omega
      have q36:(x==36)=true:=by subst hcl;rfl
      have q45:(x==45)=false:=by rw [beq_eq_false_iff_ne];omega
      have hbt:bo=true:=by rw [←hbx];simp only [Bool.or_eq_true,Bool.and_eq_true,decide_eq_true_iff];omega
      have HK2:=Lib.hid (HB0.out hbt)
      clear hbx hcl hbt HB0 HB1
      go_wp2_with fail
      go_round <;> first | exact ⟨k+1,by omega,HK2.out,by go_num⟩|(simp [intOf] <;> omega)
     ·have p0:¬97≤x:=by omega
      have p1:x≤122:=by omega
      have p2:¬65≤x:=by omega
      have p3:x≤90:=by omega
      have p4:¬48≤x:=by omega
      have p5:x≤57:=by omega
      have q95:(x==95)=false:=by rw [beq_eq_false_iff_ne];omega
      have q46:(x==46)=false:=by rw [beq_eq_false_iff_ne];omega
      have q36:(x==36)=false:=by rw [beq_eq_false_iff_ne];omega
      have q45:(x==45)=false:=by rw [beq_eq_false_iff_ne];omega
      by_cases hk0:0 <(k:Int)
      ·have hbt:bo=false:=by rw [←hbx,Bool.eq_false_iff];intro h;simp only [Bool.or_eq_true,Bool.and_eq_true,decide_eq_true_iff] at h;omega
       have HB:=Lib.hid (HB1.out hbt)
       clear hbx hcl hbt HB0 HB1
       go_wp2_with fail
       go_ret
       exact ⟨ret_b HB.out,rfl⟩
      ·have hbt:bo=false:=by rw [←hbx,Bool.eq_false_iff];intro h;simp only [Bool.or_eq_true,Bool.and_eq_true,decide_eq_true_iff] at h;omega
       have HB:=Lib.hid (HB1.out hbt)
       clear hbx hcl hbt HB0 HB1
       go_wp2_with fail
       go_ret
       exact ⟨ret_b HB.out,rfl⟩
    ·have HB:Hid (true=b):=by
      show _=_
      rw [←hb.out]
      refine (HI.out.2 fun j hj=>HK.out j hj ?_).symm
      rw [len_list] at hj
      omega
     have hlti:¬((k:Int)<(S.size:Int)):=by omega
     go_wp2_with fail
     go_ret
     exact ⟨ret_b HB.out,rfl⟩
end Go.Proofs.YtfldplmgkeiimaaGreatDoor.GW
namespace Go.Proofs.YtfldplmgkeiimaaGreatDoor.GW
open Go.RowKit Go.Proofs.YtfldplmgkeiimaaGreatDoor.Base Go.Proofs.YtfldplmgkeiimaaGreatDoor.Dp Go.Proofs.YtfldplmgkeiimaaGreatDoor.DeciW Go.Proofs.YtfldplmgkeiimaaGreatDoor.Mem Go.Proofs.YtfldplmgkeiimaaGreatDoor.RdW Go.Proofs.YtfldplmgkeiimaaGreatDoor.Gp
def NumsIn (B:Nat) (w:World) (p:Option Addr) (l:List Int):Prop:=0 < l.length→∃(b o:Nat) (cs:Array Value),p=some ⟨b,o,none⟩∧B≤b∧w.heap[b]?=some (.cells cs 2)∧∀i (hi:i < l.length),cs[o+i]?=some (.int .i64 l[i])
theorem NumsIn.nil (B:Nat) (w:World) (p:Option Addr):NumsIn B w p []:=fun h=>absurd h (Nat.lt_irrefl _)
theorem NumsIn.below {B:Nat} {w w':World} {p:Option Addr} {l:List Int} (h:NumsIn B w p l) (hb:Below w.heap.size w w'):NumsIn B w' p l:=by
 intro hl
 obtain ⟨b,o,cs,rfl,hB,hh,hc⟩:=h hl
 exact ⟨b,o,cs,rfl,hB,one_below hh hb,hc⟩
theorem NumsIn.mono {B D:Nat} {w:World} {p:Option Addr} {l:List Int} (h:NumsIn B w p l) (hD:D≤B):NumsIn D w p l:=by
 intro hl
 obtain ⟨b,o,cs,rfl,hB,hh,hc⟩:=h hl
 exact ⟨b,o,cs,rfl,Nat.le_trans hD hB,hh,hc⟩
abbrev nils:Value:= .slice none 0 0
def cmCells (c:C) (a:Int) (nv bv:Value):Array Value:= #[.int .i64 a, .int .i64 c.k, .int .i64 c.n, .int .i64 c.m, .bool c.on, .string ⟨c.t.toArray⟩, .string ⟨c.x.toArray⟩, .string ⟨c.y.toArray⟩, .string ⟨c.i.toArray⟩, .string ⟨c.j.toArray⟩,nv,bv]
abbrev cmVal (c:C) (a:Int) (nv bv:Value):Value:= .agg (cmCells c a nv bv)
abbrev cmObj (c:C) (a:Int) (nv bv:Value):Obj:= .cells (cmCells c a nv bv) 104
def CmdOut (o:Option C) (w:World) (e:Ending) (w':World):Prop:=Below w.heap.size w w'∧∃(c:C) (p:Option Addr) (k:Nat),
 e= .returned (.tuple #[cmVal c 0 (.slice p c.nums.length k) nils, .bool o.isSome])∧NumsIn w.heap.size w' p c.nums∧c.blocks= []∧∀d,o=some d→d=c
theorem cm_at {x:World} {b:Nat} {v0 v1 v2 v3 v4 v5 v6 v7 v8 v9 v10 v11:Value} {t:TypeId} (h:x.heap[b]?=some (.cells #[v0,v1,v2,v3,v4,v5,v6,v7,v8,v9,v10,v11] t)):
  (x.cell? ⟨b,0,none⟩=some v0∧x.cell? ⟨b,1,none⟩=some v1∧x.cell? ⟨b,2,none⟩=some v2∧x.cell? ⟨b,3,none⟩=some v3∧x.cell? ⟨b,4,none⟩=some v4∧x.cell? ⟨b,5,none⟩=some v5∧x.cell? ⟨b,6,none⟩=some v6∧x.cell? ⟨b,7,none⟩=some v7∧x.cell? ⟨b,8,none⟩=some v8∧x.cell? ⟨b,9,none⟩=some v9∧x.cell? ⟨b,10,none⟩=some v10∧x.cell? ⟨b,11,none⟩=some v11)∧
  (x.frozen? ⟨b,0,none⟩=false∧x.frozen? ⟨b,1,none⟩=false∧x.frozen? ⟨b,2,none⟩=false∧x.frozen? ⟨b,3,none⟩=false∧x.frozen? ⟨b,4,none⟩=false∧x.frozen? ⟨b,5,none⟩=false∧x.frozen? ⟨b,6,none⟩=false∧x.frozen? ⟨b,7,none⟩=false∧x.frozen? ⟨b,8,none⟩=false∧x.frozen? ⟨b,9,none⟩=false∧x.frozen? ⟨b,10,none⟩=false∧x.frozen? ⟨b,11,none⟩=false):=by
 refine ⟨⟨?_,?_,?_,?_,?_,?_,?_,?_,?_,?_,?_,?_⟩,?_,?_,?_,?_,?_,?_,?_,?_,?_,?_,?_,?_⟩<;> simp [World.cell?,World.frozen?,h]
def cmSet (w:World) (b:Nat) (c:C) (a:Int) (nv bv:Value):World:=
 (((((((((((w.setCell ⟨b,0,none⟩ (.int .i64 a)).setCell ⟨b,1,none⟩ (.int .i64 c.k)).setCell ⟨b,2,none⟩ (.int .i64 c.n)).setCell ⟨b,3,none⟩ (.int .i64 c.m)).setCell ⟨b,4,none⟩ (.bool c.on)).setCell ⟨b,5,none⟩ (.string ⟨c.t.toArray⟩)).setCell ⟨b,6,none⟩ (.string ⟨c.x.toArray⟩)).setCell ⟨b,7,none⟩ (.string ⟨c.y.toArray⟩)).setCell ⟨b,8,none⟩ (.string ⟨c.i.toArray⟩)).setCell ⟨b,9,none⟩ (.string ⟨c.j.toArray⟩)).setCell ⟨b,10,none⟩ (nv)).setCell ⟨b,11,none⟩ (bv)
theorem st0 {x:World} {b:Nat} {v0 v1 v2 v3 v4 v5 v6 v7 v8 v9 v10 v11:Value} {t:TypeId} (h:x.heap[b]?=some (.cells #[v0,v1,v2,v3,v4,v5,v6,v7,v8,v9,v10,v11] t)) (u:Value):(x.setCell ⟨b,0,none⟩ u).heap[b]?=some (.cells #[u,v1,v2,v3,v4,v5,v6,v7,v8,v9,v10,v11] t):=heap_here h 0 u
theorem st1 {x:World} {b:Nat} {v0 v1 v2 v3 v4 v5 v6 v7 v8 v9 v10 v11:Value} {t:TypeId} (h:x.heap[b]?=some (.cells #[v0,v1,v2,v3,v4,v5,v6,v7,v8,v9,v10,v11] t)) (u:Value):(x.setCell ⟨b,1,none⟩ u).heap[b]?=some (.cells #[v0,u,v2,v3,v4,v5,v6,v7,v8,v9,v10,v11] t):=heap_here h 1 u
theorem st2 {x:World} {b:Nat} {v0 v1 v2 v3 v4 v5 v6 v7 v8 v9 v10 v11:Value} {t:TypeId} (h:x.heap[b]?=some (.cells #[v0,v1,v2,v3,v4,v5,v6,v7,v8,v9,v10,v11] t)) (u:Value):(x.setCell ⟨b,2,none⟩ u).heap[b]?=some (.cells #[v0,v1,u,v3,v4,v5,v6,v7,v8,v9,v10,v11] t):=heap_here h 2 u
theorem st3 {x:World} {b:Nat} {v0 v1 v2 v3 v4 v5 v6 v7 v8 v9 v10 v11:Value} {t:TypeId} (h:x.heap[b]?=some (.cells #[v0,v1,v2,v3,v4,v5,v6,v7,v8,v9,v10,v11] t)) (u:Value):(x.setCell ⟨b,3,none⟩ u).heap[b]?=some (.cells #[v0,v1,v2,u,v4,v5,v6,v7,v8,v9,v10,v11] t):=heap_here h 3 u
theorem st4 {x:World} {b:Nat} {v0 v1 v2 v3 v4 v5 v6 v7 v8 v9 v10 v11:Value} {t:TypeId} (h:x.heap[b]?=some (.cells #[v0,v1,v2,v3,v4,v5,v6,v7,v8,v9,v10,v11] t)) (u:Value):(x.setCell ⟨b,4,none⟩ u).heap[b]?=some (.cells #[v0,v1,v2,v3,u,v5,v6,v7,v8,v9,v10,v11] t):=heap_here h 4 u
theorem st5 {x:World} {b:Nat} {v0 v1 v2 v3 v4 v5 v6 v7 v8 v9 v10 v11:Value} {t:TypeId} (h:x.heap[b]?=some (.cells #[v0,v1,v2,v3,v4,v5,v6,v7,v8,v9,v10,v11] t)) (u:Value):(x.setCell ⟨b,5,none⟩ u).heap[b]?=some (.cells #[v0,v1,v2,v3,v4,u,v6,v7,v8,v9,v10,v11] t):=heap_here h 5 u
theorem st6 {x:World} {b:Nat} {v0 v1 v2 v3 v4 v5 v6 v7 v8 v9 v10 v11:Value} {t:TypeId} (h:x.heap[b]?=some (.cells #[v0,v1,v2,v3,v4,v5,v6,v7,v8,v9,v10,v11] t)) (u:Value):(x.setCell ⟨b,6,none⟩ u).heap[b]?=some (.cells #[v0,v1,v2,v3,v4,v5,u,v7,v8,v9,v10,v11] t):=heap_here h 6 u
theorem st7 {x:World} {b:Nat} {v0 v1 v2 v3 v4 v5 v6 v7 v8 v9 v10 v11:Value} {t:TypeId} (h:x.heap[b]?=some (.cells #[v0,v1,v2,v3,v4,v5,v6,v7,v8,v9,v10,v11] t)) (u:Value):(x.setCell ⟨b,7,none⟩ u).heap[b]?=some (.cells #[v0,v1,v2,v3,v4,v5,v6,u,v8,v9,v10,v11] t):=heap_here h 7 u
theorem st8 {x:World} {b:Nat} {v0 v1 v2 v3 v4 v5 v6 v7 v8 v9 v10 v11:Value} {t:TypeId} (h:x.heap[b]?=some (.cells #[v0,v1,v2,v3,v4,v5,v6,v7,v8,v9,v10,v11] t)) (u:Value):(x.setCell ⟨b,8,none⟩ u).heap[b]?=some (.cells #[v0,v1,v2,v3,v4,v5,v6,v7,u,v9,v10,v11] t):=heap_here h 8 u
theorem st9 {x:World} {b:Nat} {v0 v1 v2 v3 v4 v5 v6 v7 v8 v9 v10 v11:Value} {t:TypeId} (h:x.heap[b]?=some (.cells #[v0,v1,v2,v3,v4,v5,v6,v7,v8,v9,v10,v11] t)) (u:Value):(x.setCell ⟨b,9,none⟩ u).heap[b]?=some (.cells #[v0,v1,v2,v3,v4,v5,v6,v7,v8,u,v10,v11] t):=heap_here h 9 u
theorem st10 {x:World} {b:Nat} {v0 v1 v2 v3 v4 v5 v6 v7 v8 v9 v10 v11:Value} {t:TypeId} (h:x.heap[b]?=some (.cells #[v0,v1,v2,v3,v4,v5,v6,v7,v8,v9,v10,v11] t)) (u:Value):(x.setCell ⟨b,10,none⟩ u).heap[b]?=some (.cells #[v0,v1,v2,v3,v4,v5,v6,v7,v8,v9,u,v11] t):=heap_here h 10 u
theorem st11 {x:World} {b:Nat} {v0 v1 v2 v3 v4 v5 v6 v7 v8 v9 v10 v11:Value} {t:TypeId} (h:x.heap[b]?=some (.cells #[v0,v1,v2,v3,v4,v5,v6,v7,v8,v9,v10,v11] t)) (u:Value):(x.setCell ⟨b,11,none⟩ u).heap[b]?=some (.cells #[v0,v1,v2,v3,v4,v5,v6,v7,v8,v9,v10,u] t):=heap_here h 11 u
theorem cm_fin {w wb:World} (hb:Below w.heap.size w wb) {v0 v1 v2 v3 v4 v5 v6 v7 v8 v9 v10 v11:Value} (hr:wb.heap[w.heap.size]?=some (.cells #[v0,v1,v2,v3,v4,v5,v6,v7,v8,v9,v10,v11] 104)) (c:C) (a:Int) (nv bv:Value):
  (cmSet wb w.heap.size c a nv bv).heap[w.heap.size]?=some (cmObj c a nv bv)∧Below w.heap.size w (cmSet wb w.heap.size c a nv bv):=by
 refine ⟨(st11 (st10 (st9 (st8 (st7 (st6 (st5 (st4 (st3 (st2 (st1 (st0 hr _) _) _) _) _) _) _) _) _) _) _) _),?_⟩
 unfold cmSet
 exact ((((((((((((hb.setCell (Nat.le_refl _) _).setCell (Nat.le_refl _) _).setCell (Nat.le_refl _) _).setCell (Nat.le_refl _) _).setCell (Nat.le_refl _) _).setCell (Nat.le_refl _) _).setCell (Nat.le_refl _) _).setCell (Nat.le_refl _) _).setCell (Nat.le_refl _) _).setCell (Nat.le_refl _) _).setCell (Nat.le_refl _) _).setCell (Nat.le_refl _) _)
theorem cmSet_heap (w:World) {b d:Nat} (h:d≠b) (c:C) (a:Int) (nv bv:Value):(cmSet w b c a nv bv).heap[d]?=w.heap[d]?:=by
 have key:∀(w:World) (i:Nat) (u:Value),(w.setCell ⟨b,i,none⟩ u).heap[d]?=w.heap[d]?:=fun w i u=>Below.heap_setCell _ _ _ _ h
 unfold cmSet
 rw [key,key,key,key,key,key,key,key,key,key,key,key]
theorem cmSet_nums {B:Nat} {w:World} {b:Nat} (hb:b < B) {p:Option Addr} {l:List Int} (h:NumsIn B w p l) (c:C) (a:Int) (nv bv:Value):NumsIn B (cmSet w b c a nv bv) p l:=by
 intro hl
 obtain ⟨d,o,cs,rfl,hB,hh,hc⟩:=h hl
 exact ⟨d,o,cs,rfl,hB,(cmSet_heap w (by omega) c a nv bv).trans hh,hc⟩
abbrev zCm:Obj:= .cells #[.int .i64 0, .int .i64 0, .int .i64 0, .int .i64 0, .bool false, .string ⟨#[]⟩, .string ⟨#[]⟩, .string ⟨#[]⟩, .string ⟨#[]⟩, .string ⟨#[]⟩, .slice none 0 0, .slice none 0 0] 104
structure ZAt (w W:World):Prop where
 a:W.heap[w.heap.size]?=some zCm
 b:Below w.heap.size w W
theorem ZAt.below {w W W':World} (h:ZAt w W) (hb:Below W.heap.size W W'):ZAt w W':=⟨one_below h.a hb,h.b.trans (hb.mono h.b.size)⟩
theorem z_new (w:World):ZAt w (w.alloc zCm):=⟨heap_alloc_new w _,(Below.refl _ _).alloc (Nat.le_refl _) _⟩
theorem str_is (S:ByteArray) (L:List UInt8):(S.toList==L)=decide (S.data.toList=L):=by
 rw [Lib.toList_data,Bool.eq_iff_iff,beq_iff_eq,decide_eq_true_eq]
theorem parse_at (s:ByteArray) (v:Int) (b:Bool) (hv:Hid ((dec s.data.toList).getD 0=v∧(dec s.data.toList).isSome=b)) (hs:s.size≤maxLen) (w:World):
  Calls Tryz.prog 136 #[.string s] w fun e w'=>e= .returned (.tuple #[.int .i64 v, .bool b])∧w=w':=by
 obtain ⟨h1,h2⟩:=hv.out
 subst h1;subst h2
 exact parse_any s w hs
end Go.Proofs.YtfldplmgkeiimaaGreatDoor.GW
namespace Go.Proofs.YtfldplmgkeiimaaGreatDoor.GW
open Go.RowKit Go.Proofs.YtfldplmgkeiimaaGreatDoor.Base Go.Proofs.YtfldplmgkeiimaaGreatDoor.Dp Go.Proofs.YtfldplmgkeiimaaGreatDoor.DeciW Go.Proofs.YtfldplmgkeiimaaGreatDoor.Mem Go.Proofs.YtfldplmgkeiimaaGreatDoor.RdW Go.Proofs.YtfldplmgkeiimaaGreatDoor.Gp
theorem coordG_len (t:List UInt8) (c:UInt8):(coordG t c).2.length≤t.length:=by
 unfold coordG
 split
 ·split
  ·exact Nat.le_refl _
  ·rw [List.length_drop,List.length_drop];omega
 ·exact Nat.le_refl _
structure OW (w0:World) (c:C) (W:World):Prop where
 r:W.heap[w0.heap.size]?=some zCm
 p:W.heap[w0.heap.size+1]?=some (cmObj c 0 nils nils)
 bel:Below w0.heap.size w0 W
theorem OW.below {w0 W W':World} {c:C} (h:OW w0 c W) (hb:Below W.heap.size W W'):OW w0 c W':=⟨one_below h.r hb,one_below h.p hb,h.bel.trans (hb.mono h.bel.size)⟩
theorem OW.put {w0 W:World} {c d:C} {k:Nat} {u:Value} (h:OW w0 c W) (hd:(cmCells c 0 nils nils).setIfInBounds k u=cmCells d 0 nils nils):OW w0 d (W.setCell ⟨w0.heap.size+1,k,none⟩ u):=
 ⟨(Below.heap_setCell _ _ _ _ (by show w0.heap.size≠w0.heap.size+1;omega)).trans h.r,by rw [heap_here h.p,hd],h.bel.setCell (by show w0.heap.size≤w0.heap.size+1;omega) _⟩
theorem ow_new (w:World) (c:C):OW w c ((w.alloc zCm).alloc (cmObj c 0 nils nils)):=by
 have e1:(w.alloc zCm).heap.size=w.heap.size+1:=by simp
 refine ⟨?_,?_,((Below.refl _ _).alloc (Nat.le_refl _) _).alloc (by omega) _⟩
 ·rw [Below.heap_alloc _ _ _ (by omega)]
  exact heap_alloc_new w _
 ·have h:=heap_alloc_new (w.alloc zCm) (cmObj c 0 nils nils)
  rwa [e1] at h
set_option maxRecDepth 100000 in
set_option maxHeartbeats 6400000 in
theorem oper_c (S:ByteArray) (hs:S.size≤1000000000) (o:Option C) (ho:Hid (opV S.data.toList=o)) (w:World):
  Calls Tryz.prog 95 #[.string S] w (CmdOut o w):=by
 have hl:=ho.out
 unfold opV at hl
 obtain ⟨A1,hA1⟩:=str_ex (coordG S.data.toList 88).1
 obtain ⟨R1,hR1⟩:=str_ex (coordG S.data.toList 88).2
 have H1:Hid (coordG S.data.toList 88=(A1.data.toList,R1.data.toList)):=by show _=_;rw [hA1,hR1]
 have l1:R1.size≤1000000000:=by have:=coordG_len S.data.toList 88;rw [←hR1,len_list,len_list] at this;omega
 obtain ⟨A2,hA2⟩:=str_ex (coordG R1.data.toList 89).1
 obtain ⟨R2,hR2⟩:=str_ex (coordG R1.data.toList 89).2
 have H2:Hid (coordG R1.data.toList 89=(A2.data.toList,R2.data.toList)):=by show _=_;rw [hA2,hR2]
 have l2:R2.size≤1000000000:=by have:=coordG_len R1.data.toList 89;rw [←hR2,len_list,len_list] at this;omega
 obtain ⟨A3,hA3⟩:=str_ex (coordG R2.data.toList 73).1
 obtain ⟨R3,hR3⟩:=str_ex (coordG R2.data.toList 73).2
 have H3:Hid (coordG R2.data.toList 73=(A3.data.toList,R3.data.toList)):=by show _=_;rw [hA3,hR3]
 have l3:R3.size≤1000000000:=by have:=coordG_len R2.data.toList 73;rw [←hR3,len_list,len_list] at this;omega
 obtain ⟨A4,hA4⟩:=str_ex (coordG R3.data.toList 74).1
 obtain ⟨R4,hR4⟩:=str_ex (coordG R3.data.toList 74).2
 have H4:Hid (coordG R3.data.toList 74=(A4.data.toList,R4.data.toList)):=by show _=_;rw [hA4,hR4]
 rw [H1.out] at hl
 simp only [] at hl
 rw [H2.out] at hl
 simp only [] at hl
 rw [H3.out] at hl
 simp only [] at hl
 rw [H4.out] at hl
 simp only [] at hl
 have HL:=Lib.hid hl
 have HS:=Lib.hid hs
 have HL1:=Lib.hid l1
 have HL2:=Lib.hid l2
 have HL3:=Lib.hid l3
 clear hl ho hA1 hR1 hA2 hR2 hA3 hR3 hA4 hR4 l1 l2 l3 hs
 have HO:Hid (OW w (kc 7) ((w.alloc (.cells #[.int .i64 0, .int .i64 0, .int .i64 0, .int .i64 0, .bool false, .string ⟨#[]⟩, .string ⟨#[]⟩, .string ⟨#[]⟩, .string ⟨#[]⟩, .string ⟨#[]⟩, .slice none 0 0, .slice none 0 0] 104)).alloc (.cells #[.int .i64 0, .int .i64 7, .int .i64 0, .int .i64 0, .bool false, .string ⟨#[]⟩, .string ⟨#[]⟩, .string ⟨#[]⟩, .string ⟨#[]⟩, .string ⟨#[]⟩, .slice none 0 0, .slice none 0 0] 104))):=ow_new w _
 go_enter Tryz.func95,Tryz.ntmps95
 go_upto_region 2 with fail
 generalize (w.alloc (.cells #[.int .i64 0, .int .i64 0, .int .i64 0, .int .i64 0, .bool false, .string ⟨#[]⟩, .string ⟨#[]⟩, .string ⟨#[]⟩, .string ⟨#[]⟩, .string ⟨#[]⟩, .slice none 0 0, .slice none 0 0] 104)).alloc (.cells #[.int .i64 0, .int .i64 7, .int .i64 0, .int .i64 0, .bool false, .string ⟨#[]⟩, .string ⟨#[]⟩, .string ⟨#[]⟩, .string ⟨#[]⟩, .string ⟨#[]⟩, .slice none 0 0, .slice none 0 0] 104)=W at HO⊢
 go_wp2_with fail
 with_reducible refine (coord_c S HS.out 88 A1 R1 H1 _).mono ?_
 rintro e w2 ⟨rfl,hd⟩
 have HP:=Lib.hid (HO.out.below (drew_below hd))
 clear hd HO
 obtain ⟨⟨c0,c1,c2,c3,c4,c5,c6,c7,c8,c9,c10,c11⟩,f0,f1,f2,f3,f4,f5,f6,f7,f8,f9,f10,f11⟩:=cm_at HP.out.p
 have HO:Hid (OW w {kc 7 with x:=A1.data.toList} (w2.setCell ⟨w.heap.size+1,6,none⟩ (.string A1))):=HP.out.put rfl
 go_upto_region 3 with fail
 generalize w2.setCell ⟨w.heap.size+1,6,none⟩ (.string A1)=W at HO⊢
 clear c0 c1 c2 c3 c4 c5 c6 c7 c8 c9 c10 c11 f0 f1 f2 f3 f4 f5 f6 f7 f8 f9 f10 f11 HP
 go_wp2_with fail
 with_reducible refine (coord_c R1 HL1.out 89 A2 R2 H2 _).mono ?_
 rintro e w2 ⟨rfl,hd⟩
 have HP:=Lib.hid (HO.out.below (drew_below hd))
 clear hd HO
 obtain ⟨⟨c0,c1,c2,c3,c4,c5,c6,c7,c8,c9,c10,c11⟩,f0,f1,f2,f3,f4,f5,f6,f7,f8,f9,f10,f11⟩:=cm_at HP.out.p
 have HO:Hid (OW w {kc 7 with x:=A1.data.toList,y:=A2.data.toList} (w2.setCell ⟨w.heap.size+1,7,none⟩ (.string A2))):=HP.out.put rfl
 go_upto_region 4 with fail
 generalize w2.setCell ⟨w.heap.size+1,7,none⟩ (.string A2)=W at HO⊢
 clear c0 c1 c2 c3 c4 c5 c6 c7 c8 c9 c10 c11 f0 f1 f2 f3 f4 f5 f6 f7 f8 f9 f10 f11 HP
 go_wp2_with fail
 with_reducible refine (coord_c R2 HL2.out 73 A3 R3 H3 _).mono ?_
 rintro e w2 ⟨rfl,hd⟩
 have HP:=Lib.hid (HO.out.below (drew_below hd))
 clear hd HO
 obtain ⟨⟨c0,c1,c2,c3,c4,c5,c6,c7,c8,c9,c10,c11⟩,f0,f1,f2,f3,f4,f5,f6,f7,f8,f9,f10,f11⟩:=cm_at HP.out.p
 have HO:Hid (OW w {kc 7 with x:=A1.data.toList,y:=A2.data.toList,i:=A3.data.toList} (w2.setCell ⟨w.heap.size+1,8,none⟩ (.string A3))):=HP.out.put rfl
 go_upto_region 5 with fail
 generalize w2.setCell ⟨w.heap.size+1,8,none⟩ (.string A3)=W at HO⊢
 clear c0 c1 c2 c3 c4 c5 c6 c7 c8 c9 c10 c11 f0 f1 f2 f3 f4 f5 f6 f7 f8 f9 f10 f11 HP
 go_wp2_with fail
 with_reducible refine (coord_c R3 HL3.out 74 A4 R4 H4 _).mono ?_
 rintro e w2 ⟨rfl,hd⟩
 have HP:=Lib.hid (HO.out.below (drew_below hd))
 clear hd HO
 obtain ⟨⟨c0,c1,c2,c3,c4,c5,c6,c7,c8,c9,c10,c11⟩,f0,f1,f2,f3,f4,f5,f6,f7,f8,f9,f10,f11⟩:=cm_at HP.out.p
 have HO:Hid (OW w {kc 7 with x:=A1.data.toList,y:=A2.data.toList,i:=A3.data.toList,j:=A4.data.toList} (w2.setCell ⟨w.heap.size+1,9,none⟩ (.string A4))):=HP.out.put rfl
 go_upto_region 6 with fail
 generalize w2.setCell ⟨w.heap.size+1,9,none⟩ (.string A4)=W at HO⊢
 clear c0 c1 c2 c3 c4 c5 c6 c7 c8 c9 c10 c11 f0 f1 f2 f3 f4 f5 f6 f7 f8 f9 f10 f11 HP
 by_cases q1:R4.data.toList= [68,48,49]
 ·have e1:(R4.toList== [68,48,49])=true:=by rw [str_is];exact decide_eq_true q1
  have hop:opN R4.data.toList=1:=by unfold opN;rw [q1];rfl
  have hl:=HL.out
  rw [hop] at hl
  have HQ:Hid (o=some {kc 7 with x:=A1.data.toList,y:=A2.data.toList,i:=A3.data.toList,j:=A4.data.toList,n:=1}):=by show _=_;rw [←hl];rfl
  clear hl hop q1
  obtain ⟨⟨c0,c1,c2,c3,c4,c5,c6,c7,c8,c9,c10,c11⟩,f0,f1,f2,f3,f4,f5,f6,f7,f8,f9,f10,f11⟩:=cm_at HO.out.p
  have HP:Hid (OW w {kc 7 with x:=A1.data.toList,y:=A2.data.toList,i:=A3.data.toList,j:=A4.data.toList,n:=1} (W.setCell ⟨w.heap.size+1,2,none⟩ (.int .i64 1))):=HO.out.put rfl
  go_upto_region 13 with fail
  clear c0 c1 c2 c3 c4 c5 c6 c7 c8 c9 c10 c11 f0 f1 f2 f3 f4 f5 f6 f7 f8 f9 f10 f11 HO
  generalize W.setCell ⟨w.heap.size+1,2,none⟩ (.int .i64 1)=W at HP⊢
  have HO:=HP
  clear HP
  obtain ⟨⟨c0,c1,c2,c3,c4,c5,c6,c7,c8,c9,c10,c11⟩,f0,f1,f2,f3,f4,f5,f6,f7,f8,f9,f10,f11⟩:=cm_at HO.out.p
  obtain ⟨⟨d0,d1,d2,d3,d4,d5,d6,d7,d8,d9,d10,d11⟩,g0,g1,g2,g3,g4,g5,g6,g7,g8,g9,g10,g11⟩:=cm_at HO.out.r
  have HF:=Lib.hid (cm_fin HO.out.bel HO.out.r {kc 7 with x:=A1.data.toList,y:=A2.data.toList,i:=A3.data.toList,j:=A4.data.toList,n:=1} 0 nils nils)
  go_region
  all_goals
   clear c0 c1 c2 c3 c4 c5 c6 c7 c8 c9 c10 c11 f0 f1 f2 f3 f4 f5 f6 f7 f8 f9 f10 f11 d0 d1 d2 d3 d4 d5 d6 d7 d8 d9 d10 d11 g0 g1 g2 g3 g4 g5 g6 g7 g8 g9 g10 g11
   go_wp2_with fail
   refine bodyPost_ret (w:=(cmSet W w.heap.size {kc 7 with x:=A1.data.toList,y:=A2.data.toList,i:=A3.data.toList,j:=A4.data.toList,n:=1} 0 nils nils).drew) (v:= .tuple #[cmVal {kc 7 with x:=A1.data.toList,y:=A2.data.toList,i:=A3.data.toList,j:=A4.data.toList,n:=1} 0 nils nils, .bool true]) ?_ rfl ⟨HF.out.2.drew,{kc 7 with x:=A1.data.toList,y:=A2.data.toList,i:=A3.data.toList,j:=A4.data.toList,n:=1},none,0,?_,NumsIn.nil _ _ _,rfl,?_⟩
   ·generalize cmSet W w.heap.size {kc 7 with x:=A1.data.toList,y:=A2.data.toList,i:=A3.data.toList,j:=A4.data.toList,n:=1} 0 nils nils=WE at HF⊢
    obtain ⟨⟨c0,c1,c2,c3,c4,c5,c6,c7,c8,c9,c10,c11⟩,_⟩:=cm_at HF.out.1
    simp [results,Tryz.results95,go_sem,c0,c1,c2,c3,c4,c5,c6,c7,c8,c9,c10,c11] <;> rfl
   ·rw [HQ.out];rfl
   ·rw [HQ.out];intro e he;exact (Option.some.inj he).symm
 ·have e1:(R4.toList== [68,48,49])=false:=by rw [str_is];exact decide_eq_false q1
  by_cases q2:R4.data.toList= [68,48,50]
  ·have e2:(R4.toList== [68,48,50])=true:=by rw [str_is];exact decide_eq_true q2
   have hop:opN R4.data.toList=2:=by unfold opN;rw [q2];rfl
   have hl:=HL.out
   rw [hop] at hl
   have HQ:Hid (o=some {kc 7 with x:=A1.data.toList,y:=A2.data.toList,i:=A3.data.toList,j:=A4.data.toList,n:=2}):=by show _=_;rw [←hl];rfl
   clear hl hop q2
   obtain ⟨⟨c0,c1,c2,c3,c4,c5,c6,c7,c8,c9,c10,c11⟩,f0,f1,f2,f3,f4,f5,f6,f7,f8,f9,f10,f11⟩:=cm_at HO.out.p
   have HP:Hid (OW w {kc 7 with x:=A1.data.toList,y:=A2.data.toList,i:=A3.data.toList,j:=A4.data.toList,n:=2} (W.setCell ⟨w.heap.size+1,2,none⟩ (.int .i64 2))):=HO.out.put rfl
   go_upto_region 13 with fail
   clear c0 c1 c2 c3 c4 c5 c6 c7 c8 c9 c10 c11 f0 f1 f2 f3 f4 f5 f6 f7 f8 f9 f10 f11 HO
   generalize W.setCell ⟨w.heap.size+1,2,none⟩ (.int .i64 2)=W at HP⊢
   have HO:=HP
   clear HP
   obtain ⟨⟨c0,c1,c2,c3,c4,c5,c6,c7,c8,c9,c10,c11⟩,f0,f1,f2,f3,f4,f5,f6,f7,f8,f9,f10,f11⟩:=cm_at HO.out.p
   obtain ⟨⟨d0,d1,d2,d3,d4,d5,d6,d7,d8,d9,d10,d11⟩,g0,g1,g2,g3,g4,g5,g6,g7,g8,g9,g10,g11⟩:=cm_at HO.out.r
   have HF:=Lib.hid (cm_fin HO.out.bel HO.out.r {kc 7 with x:=A1.data.toList,y:=A2.data.toList,i:=A3.data.toList,j:=A4.data.toList,n:=2} 0 nils nils)
   go_region
   all_goals
    clear c0 c1 c2 c3 c4 c5 c6 c7 c8 c9 c10 c11 f0 f1 f2 f3 f4 f5 f6 f7 f8 f9 f10 f11 d0 d1 d2 d3 d4 d5 d6 d7 d8 d9 d10 d11 g0 g1 g2 g3 g4 g5 g6 g7 g8 g9 g10 g11
    go_wp2_with fail
    refine bodyPost_ret (w:=(cmSet W w.heap.size {kc 7 with x:=A1.data.toList,y:=A2.data.toList,i:=A3.data.toList,j:=A4.data.toList,n:=2} 0 nils nils).drew) (v:= .tuple #[cmVal {kc 7 with x:=A1.data.toList,y:=A2.data.toList,i:=A3.data.toList,j:=A4.data.toList,n:=2} 0 nils nils, .bool true]) ?_ rfl ⟨HF.out.2.drew,{kc 7 with x:=A1.data.toList,y:=A2.data.toList,i:=A3.data.toList,j:=A4.data.toList,n:=2},none,0,?_,NumsIn.nil _ _ _,rfl,?_⟩
    ·generalize cmSet W w.heap.size {kc 7 with x:=A1.data.toList,y:=A2.data.toList,i:=A3.data.toList,j:=A4.data.toList,n:=2} 0 nils nils=WE at HF⊢
     obtain ⟨⟨c0,c1,c2,c3,c4,c5,c6,c7,c8,c9,c10,c11⟩,_⟩:=cm_at HF.out.1
     simp [results,Tryz.results95,go_sem,c0,c1,c2,c3,c4,c5,c6,c7,c8,c9,c10,c11] <;> rfl
    ·rw [HQ.out];rfl
    ·rw [HQ.out];intro e he;exact (Option.some.inj he).symm
  ·have e2:(R4.toList== [68,48,50])=false:=by rw [str_is];exact decide_eq_false q2
   by_cases q3:R4.data.toList= [68,48,51]
   ·have e3:(R4.toList== [68,48,51])=true:=by rw [str_is];exact decide_eq_true q3
    have hop:opN R4.data.toList=3:=by unfold opN;rw [q3];rfl
    have hl:=HL.out
    rw [hop] at hl
    have HQ:Hid (o=some {kc 7 with x:=A1.data.toList,y:=A2.data.toList,i:=A3.data.toList,j:=A4.data.toList,n:=3}):=by show _=_;rw [←hl];rfl
    clear hl hop q3
    obtain ⟨⟨c0,c1,c2,c3,c4,c5,c6,c7,c8,c9,c10,c11⟩,f0,f1,f2,f3,f4,f5,f6,f7,f8,f9,f10,f11⟩:=cm_at HO.out.p
    have HP:Hid (OW w {kc 7 with x:=A1.data.toList,y:=A2.data.toList,i:=A3.data.toList,j:=A4.data.toList,n:=3} (W.setCell ⟨w.heap.size+1,2,none⟩ (.int .i64 3))):=HO.out.put rfl
    go_upto_region 13 with fail
    clear c0 c1 c2 c3 c4 c5 c6 c7 c8 c9 c10 c11 f0 f1 f2 f3 f4 f5 f6 f7 f8 f9 f10 f11 HO
    generalize W.setCell ⟨w.heap.size+1,2,none⟩ (.int .i64 3)=W at HP⊢
    have HO:=HP
    clear HP
    obtain ⟨⟨c0,c1,c2,c3,c4,c5,c6,c7,c8,c9,c10,c11⟩,f0,f1,f2,f3,f4,f5,f6,f7,f8,f9,f10,f11⟩:=cm_at HO.out.p
    obtain ⟨⟨d0,d1,d2,d3,d4,d5,d6,d7,d8,d9,d10,d11⟩,g0,g1,g2,g3,g4,g5,g6,g7,g8,g9,g10,g11⟩:=cm_at HO.out.r
    have HF:=Lib.hid (cm_fin HO.out.bel HO.out.r {kc 7 with x:=A1.data.toList,y:=A2.data.toList,i:=A3.data.toList,j:=A4.data.toList,n:=3} 0 nils nils)
    go_region
    all_goals
     clear c0 c1 c2 c3 c4 c5 c6 c7 c8 c9 c10 c11 f0 f1 f2 f3 f4 f5 f6 f7 f8 f9 f10 f11 d0 d1 d2 d3 d4 d5 d6 d7 d8 d9 d10 d11 g0 g1 g2 g3 g4 g5 g6 g7 g8 g9 g10 g11
     go_wp2_with fail
     refine bodyPost_ret (w:=(cmSet W w.heap.size {kc 7 with x:=A1.data.toList,y:=A2.data.toList,i:=A3.data.toList,j:=A4.data.toList,n:=3} 0 nils nils).drew) (v:= .tuple #[cmVal {kc 7 with x:=A1.data.toList,y:=A2.data.toList,i:=A3.data.toList,j:=A4.data.toList,n:=3} 0 nils nils, .bool true]) ?_ rfl ⟨HF.out.2.drew,{kc 7 with x:=A1.data.toList,y:=A2.data.toList,i:=A3.data.toList,j:=A4.data.toList,n:=3},none,0,?_,NumsIn.nil _ _ _,rfl,?_⟩
     ·generalize cmSet W w.heap.size {kc 7 with x:=A1.data.toList,y:=A2.data.toList,i:=A3.data.toList,j:=A4.data.toList,n:=3} 0 nils nils=WE at HF⊢
      obtain ⟨⟨c0,c1,c2,c3,c4,c5,c6,c7,c8,c9,c10,c11⟩,_⟩:=cm_at HF.out.1
      simp [results,Tryz.results95,go_sem,c0,c1,c2,c3,c4,c5,c6,c7,c8,c9,c10,c11] <;> rfl
     ·rw [HQ.out];rfl
     ·rw [HQ.out];intro e he;exact (Option.some.inj he).symm
   ·have e3:(R4.toList== [68,48,51])=false:=by rw [str_is];exact decide_eq_false q3
    have hop:opN R4.data.toList=0:=by unfold opN;rw [if_neg q1,if_neg q2,if_neg q3]
    have hl:=HL.out
    rw [hop] at hl
    have HQ:Hid (o=none):=by show _=_;rw [←hl];rfl
    clear hl hop q1 q2 q3
    go_upto_region 13 with fail
    obtain ⟨⟨c0,c1,c2,c3,c4,c5,c6,c7,c8,c9,c10,c11⟩,f0,f1,f2,f3,f4,f5,f6,f7,f8,f9,f10,f11⟩:=cm_at HO.out.p
    obtain ⟨⟨d0,d1,d2,d3,d4,d5,d6,d7,d8,d9,d10,d11⟩,g0,g1,g2,g3,g4,g5,g6,g7,g8,g9,g10,g11⟩:=cm_at HO.out.r
    have HF:=Lib.hid (cm_fin HO.out.bel HO.out.r {kc 7 with x:=A1.data.toList,y:=A2.data.toList,i:=A3.data.toList,j:=A4.data.toList} 0 nils nils)
    go_region
    all_goals
     clear c0 c1 c2 c3 c4 c5 c6 c7 c8 c9 c10 c11 f0 f1 f2 f3 f4 f5 f6 f7 f8 f9 f10 f11 d0 d1 d2 d3 d4 d5 d6 d7 d8 d9 d10 d11 g0 g1 g2 g3 g4 g5 g6 g7 g8 g9 g10 g11
     go_wp2_with fail
     refine bodyPost_ret (w:=(cmSet W w.heap.size {kc 7 with x:=A1.data.toList,y:=A2.data.toList,i:=A3.data.toList,j:=A4.data.toList} 0 nils nils).drew) (v:= .tuple #[cmVal {kc 7 with x:=A1.data.toList,y:=A2.data.toList,i:=A3.data.toList,j:=A4.data.toList} 0 nils nils, .bool false]) ?_ rfl ⟨HF.out.2.drew,{kc 7 with x:=A1.data.toList,y:=A2.data.toList,i:=A3.data.toList,j:=A4.data.toList},none,0,?_,NumsIn.nil _ _ _,rfl,?_⟩
     ·generalize cmSet W w.heap.size {kc 7 with x:=A1.data.toList,y:=A2.data.toList,i:=A3.data.toList,j:=A4.data.toList} 0 nils nils=WE at HF⊢
      obtain ⟨⟨c0,c1,c2,c3,c4,c5,c6,c7,c8,c9,c10,c11⟩,_⟩:=cm_at HF.out.1
      simp [results,Tryz.results95,go_sem,c0,c1,c2,c3,c4,c5,c6,c7,c8,c9,c10,c11] <;> exact ⟨rfl,Int.le_refl _⟩
     ·rw [HQ.out];rfl
     ·rw [HQ.out];intro e he;cases he
end Go.Proofs.YtfldplmgkeiimaaGreatDoor.GW
