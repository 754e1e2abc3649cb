/-
  Several texts of this proof in one: Zi.
-/
import Derived.Test.YtfldplmgkeiimaaGreatDoorQ18
import Derived.Test.YtfldplmgkeiimaaGreatDoorQ19
set_option linter.unusedVariables false
set_option linter.unusedSimpArgs false
namespace Go.Proofs.YtfldplmgkeiimaaGreatDoor.VW
open Go.RowKit Go.Proofs.YtfldplmgkeiimaaGreatDoor.Vp
open Go.Proofs.YtfldplmgkeiimaaGreatDoor.Up (coordV fmtOk)
open Go.Proofs.YtfldplmgkeiimaaGreatDoor.Gp (C)
open Go.Proofs.YtfldplmgkeiimaaGreatDoor.GW (cmVal cmCells)
def rcB (p:Pl) (c:C):Bool:=
 p.ended
 ||(decide (c.k=8) && !p.formed && fmtOk 1 c.n c.m)
 ||(decide (c.k=9) && decide (p.unit=0))
 ||(decide (c.k=15) && !p.region)
 ||(decide (c.k=6) && !p.region)
 ||(decide (c.k=5) && !p.region)
 ||(decide (c.k=3) && c.on && !p.region)
 ||(decide (c.k=3) && !c.on && p.region && p.conts.all fun l=>decide (2≤l.length))
 ||(decide (c.k=7) && decide (c.i= []) && decide (c.j= []) && decide (p.unit≠0) && p.formed && (coordP p c.x p.at_.1).isSome && (coordP p c.y p.at_.2).isSome && decide (c.x.length≤1000000) && decide (c.y.length≤1000000) && (decide (c.n=2)||(decide (c.n=1) && decide (p.mode=1) && p.region && decide (p.conts≠ []))))
structure SzB (n:Nat) (p:Pl):Prop where
 cs:p.conts.length≤n
 ls:∀c∈p.conts,0 < c.length∧c.length≤n
 ob:p.top.objs.length≤n
 md:0≤p.made∧p.made≤n
theorem SzB.c {n:Nat} {p:Pl} (h:SzB n p) (hn:n≤1000000):SzC p:=⟨Nat.le_trans h.cs hn,fun c hc=>⟨(h.ls c hc).1,Nat.le_trans (h.ls c hc).2 hn⟩⟩
theorem SzB.up {n:Nat} {p:Pl} (h:SzB n p):SzB (n+1) p:=⟨Nat.le_succ_of_le h.cs,fun c hc=>⟨(h.ls c hc).1,Nat.le_succ_of_le (h.ls c hc).2⟩,Nat.le_succ_of_le h.ob,h.md.1,by have:=h.md.2;omega⟩
theorem addO_ok {p q:Pl} {d:Bool} {s:Shp} (h:addO p d s= .ok q):q={p with made:=p.made+1,top:={p.top with objs:=p.top.objs++ [(d,s)]}}:=by
 unfold addO at h
 split at h
 ·cases h
 ·split at h
  ·cases h
  ·injection h with h
   exact h.symm
theorem fillV_sz {n:Nat} {p q:Pl} (h:SzB n p) (hf:fillV p= .ok q):SzB (n+1) q:=by
 have nil:SzB (n+1) {p with conts:= []}:=⟨Nat.zero_le _,fun c hc=>absurd hc (by simp),Nat.le_succ_of_le h.ob,h.md.1,by have:=h.md.2;show p.made≤_;omega⟩
 unfold fillV at hf
 split at hf
 ·cases hf
 ·split at hf
  ·cases hf
  ·split at hf
   ·injection hf with hf
    rw [←hf];exact nil
   ·rw [addO_ok hf]
    refine ⟨Nat.zero_le _,fun c hc=>absurd hc (by simp),?_,?_⟩
    ·show (p.top.objs++_).length≤_
     rw [List.length_append];have:=h.ob;simp;omega
    ·have:=h.md;show 0≤p.made+1∧p.made+1≤_;omega
theorem moveV_sz {n:Nat} {p q:Pl} {t:P2} (h:SzB n p) (hf:moveV p t= .ok q):SzB (n+1) q:=by
 unfold moveV at hf
 split at hf
 ·injection hf with hf
  rw [←hf];exact h.up
 ·split at hf
  ·cases hf
  ·injection hf with hf
   rw [←hf]
   refine ⟨by show (p.conts++ [[t]]).length≤_;rw [List.length_append];have:=h.cs;simp;omega,fun c hc=>?_,Nat.le_succ_of_le h.ob,h.md.1,by have:=h.md.2;show p.made≤_;omega⟩
   rcases List.mem_append.1 hc with hc | hc
   ·exact ⟨(h.ls c hc).1,Nat.le_succ_of_le (h.ls c hc).2⟩
   ·rw [List.mem_singleton.1 hc];exact ⟨Nat.succ_pos _,by simp⟩
theorem push_sz {n:Nat} {p:Pl} {t:P2} (h:SzB n p) (hne:p.conts≠ []):SzB (n+1) {p with conts:=lastPush p.conts t}:=by
 refine ⟨?_,fun c hc=>?_,Nat.le_succ_of_le h.ob,h.md.1,by have:=h.md.2;show p.made≤_;omega⟩
 ·show (lastPush p.conts t).length≤_
  unfold lastPush
  rw [List.length_append,List.length_dropLast]
  have:=h.cs
  simp
  omega
 ·have hc:c∈lastPush p.conts t:=hc
  unfold lastPush at hc
  rcases List.mem_append.1 hc with hc | hc
  ·have:=h.ls c (List.dropLast_subset _ hc)
   exact ⟨this.1,Nat.le_succ_of_le this.2⟩
  ·rw [List.mem_singleton.1 hc,List.length_append]
   have h1:p.conts.getLastD []∈p.conts:=by
    rw [List.getLastD_eq_getLast?,List.getLast?_eq_some_getLast hne]
    exact List.getLast_mem hne
   have h3:=h.ls _ h1
   simp only [List.length_singleton]
   omega
theorem fillV_ne {p:Pl} {k:Nat} (h:fillV p= .error k):k≠0:=by
 unfold fillV addO at h
 repeat' split at h
 all_goals first |(injection h with h;subst h;decide)| nomatch h
theorem atV_ne {t:P2} {r:Except Nat Pl} {k:Nat} (h:atV t r= .error k) (hr:∀k,r= .error k→k≠0):k≠0:=by
 cases r with
 | error j=>injection h with h;exact hr k (by rw [h])
 | ok p=>nomatch h
theorem atV_sz {n:Nat} {t:P2} {r:Except Nat Pl} {q:Pl} (h:atV t r= .ok q) (hr:∀p,r= .ok p→SzB n p):SzB n q:=by
 cases r with
 | error k=>cases h
 | ok p=>
  injection h with h
  rw [←h]
  have:=hr p rfl
  exact ⟨this.cs,this.ls,this.ob,this.md⟩
set_option maxHeartbeats 3200000 in
theorem do_c (w0:World) (P:Nat) (p:Pl) (c:C) (ca:Int) (nv bv:Value) (w:World) (H:Hid (PlM w0 P p w)) (n:Nat) (hn:n≤1000000) (hz:SzB n p) (hr:rcB p c=true) (res:Except Nat Pl) (hres:doP p c=res):
  (∀q,res= .ok q→SzB (n+1) q)∧(∀k,res= .error k→k≠0)∧Calls Tryz.prog 64 #[.pointer (some ⟨P,0,none⟩),cmVal c ca nv bv] w fun e w'=>PlRes w0 P res e w':=by
 obtain ⟨ck,cn,cm,con,ct,cx,cy,ci,cj,nums,bl⟩:=c
 have hlv:p.levels= []:=by obtain ⟨_,_,_,_,_,_,_,_,h⟩:=H.out;exact h.lvs
 have hap:∀k,p.apers k=none:=by obtain ⟨_,_,_,_,_,_,_,_,h⟩:=H.out;exact h.mp.1
 have hsz:=hz.c hn
 show _∧_∧Calls _ _ #[.pointer (some ⟨P,0,none⟩), .agg #[.int .i64 ca, .int .i64 ck, .int .i64 cn, .int .i64 cm, .bool con, .string ⟨ct.toArray⟩, .string ⟨cx.toArray⟩, .string ⟨cy.toArray⟩, .string ⟨ci.toArray⟩, .string ⟨cj.toArray⟩,nv,bv]] w _
 by_cases hend:p.ended=true
 ·have e:res= .error 4:=by rw [←hres];unfold doP;rw [if_pos hend]
  subst e
  exact ⟨(fun q h=>nomatch h),(fun k h=>by injection h with h;subst h;decide),do_ended w0 P p ca cn cm ck con _ _ _ _ _ nv bv w H hend⟩
 have hend':p.ended=false:=by simpa using hend
 unfold rcB at hr
 simp only [Bool.or_eq_true,Bool.and_eq_true,decide_eq_true_eq,Bool.not_eq_true',hend',Bool.false_eq_true,false_or] at hr
 rcases hr with ((((((((⟨⟨rfl,h1⟩,h2⟩|⟨rfl,h1⟩)|⟨rfl,h1⟩)|⟨rfl,h1⟩)|⟨rfl,h1⟩)|⟨⟨rfl,h0⟩,h1⟩)|⟨⟨⟨rfl,h0⟩,h1⟩,h2⟩)| h7))
 ·have e:res= .ok {p with fi:=cn,fd:=cm,ft:=con,formed:=true}:=by
   rw [←hres];simp [doP,hend',defineV,h1,h2]
  subst e
  refine ⟨fun q h=>?_,(fun k h=>nomatch h),do8_c w0 P p ca cn cm con _ _ _ _ _ nv bv w H hend' h1 h2⟩
  injection h with h;rw [←h];exact ⟨hz.up.cs,hz.up.ls,hz.up.ob,hz.up.md⟩
 ·have e:res= .ok {p with unit:=cn}:=by
   rw [←hres];simp [doP,hend',defineV,h1]
  subst e
  refine ⟨fun q h=>?_,(fun k h=>nomatch h),do9_c w0 P p ca cn cm con _ _ _ _ _ nv bv w H hend' h1⟩
  injection h with h;rw [←h];exact ⟨hz.up.cs,hz.up.ls,hz.up.ob,hz.up.md⟩
 ·have e:res= .ok {p with dark:=con}:=by
   rw [←hres];simp [doP,hend',setV,h1]
  subst e
  refine ⟨fun q h=>?_,(fun k h=>nomatch h),do15_c w0 P p ca cn cm con _ _ _ _ _ nv bv w H hend' h1⟩
  injection h with h;rw [←h];exact ⟨hz.up.cs,hz.up.ls,hz.up.ob,hz.up.md⟩
 ·have e:res= .error 4:=by
   rw [←hres];simp [doP,hend',setV,h1,hap]
  subst e
  exact ⟨(fun q h=>nomatch h),(fun k h=>by injection h with h;subst h;decide),do6_c w0 P p ca cn cm con _ _ _ _ _ nv bv w H hend' h1⟩
 ·have e:res= .ok {p with ended:=true}:=by
   rw [←hres];simp [doP,hend',h1,hlv]
  subst e
  refine ⟨fun q h=>?_,(fun k h=>nomatch h),do5_c w0 P p ca cn cm con _ _ _ _ _ nv bv w H hend' h1⟩
  injection h with h;rw [←h];exact ⟨hz.up.cs,hz.up.ls,hz.up.ob,hz.up.md⟩
 ·subst h0
  have e:res= .ok {p with region:=true}:=by
   rw [←hres];simp [doP,hend',h1]
  subst e
  refine ⟨fun q h=>?_,(fun k h=>nomatch h),do3on_c w0 P p ca cn cm _ _ _ _ _ nv bv w H hend' h1⟩
  injection h with h;rw [←h];exact ⟨hz.up.cs,hz.up.ls,hz.up.ob,hz.up.md⟩
 ·subst h0
  have e:fillV {p with region:=false}=res:=by
   rw [←hres];simp [doP,hend',h1]
  have hz2:SzB n {p with region:=false}:=⟨hz.cs,hz.ls,hz.ob,hz.md⟩
  refine ⟨fun q h=>fillV_sz hz2 (e.trans h),fun k h=>fillV_ne (e.trans h),do3off_c w0 P p ca cn cm _ _ _ _ _ nv bv w H hend' h1 hsz (fun c hc=>by have:=List.all_eq_true.1 h2 c hc;simpa using this) (Nat.le_trans hz.ob hn) ⟨hz.md.1,by have:=hz.md.2;omega⟩ res (Lib.hid e)⟩
 ·obtain ⟨⟨⟨⟨⟨⟨⟨⟨⟨rfl,rfl⟩,rfl⟩,hu⟩,hf⟩,hx⟩,hy⟩,hlx⟩,hly⟩,hn12⟩:=h7
  obtain ⟨a,ha⟩:=Option.isSome_iff_exists.1 hx
  obtain ⟨b,hb⟩:=Option.isSome_iff_exists.1 hy
  have hi0:coordP p [] 0=some 0:=by unfold coordP;rw [if_pos rfl]
  have hn':cn=2∨(cn=1∧p.mode=1∧p.region=true∧p.conts≠ []):=by
   rcases hn12 with h |⟨⟨⟨h1,h2⟩,h3⟩,h4⟩
   ·exact .inl h
   ·exact .inr ⟨h1,h2,h3,h4⟩
  have e:atV (a,b) (if cn=1 then .ok {p with conts:=lastPush p.conts (a,b)} else moveV p (a,b))=res:=by
   rw [←hres]
   have e0:doP p ⟨7,cn,cm,con,ct,cx,cy, [], [],nums,bl⟩=operV p ⟨7,cn,cm,con,ct,cx,cy, [], [],nums,bl⟩:=by simp [doP,hend']
   rw [e0]
   unfold operV
   rw [if_neg (c:=p.unit=0∨p.formed=false) (by rintro (h | h);exact hu h;rw [hf] at h;cases h)]
   simp only [ha,hb,hi0]
   rcases hn' with rfl |⟨rfl,h1,h2,h3⟩
   ·simp only [Int.reduceEq,↓reduceIte]
    cases moveV p (a,b)<;> rfl
   ·simp only [↓reduceIte]
    unfold drawV
    rw [if_neg (fun h=>h.1 h1),if_neg (fun h=>h.1 h1),if_neg (by rintro ⟨_,h | h⟩<;> exact h rfl),if_pos h2,if_neg h3]
    rfl
  refine ⟨fun q hq=>?_,fun k hk=>atV_ne (e.trans hk) fun j hj=>?_,do7_c w0 P p ca cn cm con _ _ _ nv bv w H hend' hsz hu hf hn' ⟨by simpa [ByteArray.size] using hlx,by simpa [ByteArray.size] using hly⟩ res a b (Lib.hid ha) (Lib.hid hb) _ (Lib.hid rfl) (Lib.hid e)⟩
  ·refine atV_sz (e.trans hq) fun r hr=>?_
   rcases hn' with rfl |⟨rfl,h1,h2,h3⟩
   ·rw [if_neg (by decide)] at hr
    exact moveV_sz hz hr
   ·rw [if_pos rfl] at hr
    injection hr with hr
    rw [←hr]
    exact push_sz hz h3
  ·rcases hn' with rfl |⟨rfl,h1,h2,h3⟩
   ·rw [if_neg (by decide)] at hj
    rw [moveV_err hj]
    decide
   ·rw [if_pos rfl] at hj
    nomatch hj
end Go.Proofs.YtfldplmgkeiimaaGreatDoor.VW
