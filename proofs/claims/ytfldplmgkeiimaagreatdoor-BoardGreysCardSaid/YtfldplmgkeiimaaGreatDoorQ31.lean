/-
  Several texts of this proof in one: Ib, Zj.
-/
import Derived.Test.YtfldplmgkeiimaaGreatDoorQ30
import Derived.Test.YtfldplmgkeiimaaGreatDoorQ20
import Derived.Lib.MinMax
set_option linter.unusedVariables false
set_option linter.unusedSimpArgs false
namespace Go.Proofs.YtfldplmgkeiimaaGreatDoor.GW
open Go.RowKit Go.Proofs.YtfldplmgkeiimaaGreatDoor.Base Go.Proofs.YtfldplmgkeiimaaGreatDoor.Dp Go.Proofs.YtfldplmgkeiimaaGreatDoor.DeciW Go.Proofs.YtfldplmgkeiimaaGreatDoor.Mem Go.Proofs.YtfldplmgkeiimaaGreatDoor.RdW Go.Proofs.YtfldplmgkeiimaaGreatDoor.Gp
theorem append_where {P:Program} {w v':_} {w':World} {base:Nat} {t ty e:TypeId} {i:TypeInfo} {z:Value} (ht:P.underlying t=some (.slice e)) (hi:P.info? e=some i) (hz:i.zero=some z)
  {v:Value} {n:Nat} {xs:List Value} (hown:World.ownsRow w base e i.size v n xs) {a:Addr} {c:Nat} {news:List Value} (hl:news.length=1 *i.size) (hnews:∀j u,news[j]?=some u→w.cell? (a.add j)=some u) (h1:∀u∈news,u.oneCell'=true)
  (h63:n+1≤maxLen) (hbytes:(n+1) *i.bytes≤140737488355328)
  (hr:(Builtin.append_ #[t,t] ty #[v, .slice (some a) 1 c]).run P w= .ok v' w'):v'.ownBlock=v.ownBlock∨v'.ownBlock=some w.heap.size:=by
 have hs:n+1≤9223372036854775807:=by simp only [maxLen] at h63;omega
 rcases hown.2 with ⟨rfl,rfl⟩|⟨g,cap,cur,rfl,hbg,hg,hnc,hcm,hcs,htake⟩
 ·rw [run_append_nil (P:=P) w t ty e i z ht hi hz a 1 c news hl hnews (by omega) (by omega) (by simp only [Nat.zero_add] at hbytes;omega)] at hr
  injection hr with e1 _
  rw [←e1]
  exact .inr rfl
 ·by_cases hroom:n+1≤cap
  ·rw [run_append_room (P:=P) w t ty e i ht hi g n cap cur hg a 1 c news hl hnews h1 hroom (by rw [hl,hcs,←Nat.add_mul];exact Nat.mul_le_mul_right _ hroom)] at hr
   injection hr with e1 _
   rw [←e1]
   exact .inl rfl
  ·rw [run_append_grow (P:=P) w t ty e i z ht hi hz ⟨g,0,none⟩ n cap xs hown.1 (hown.cells (g:=g) rfl) a 1 c news hl hnews (by omega) (by omega) (growslice_fits (by omega) hbytes)] at hr
   injection hr with e1 _
   rw [←e1]
   exact .inr rfl
theorem wpList_append_where {P:Program} {w:World} {ops:Array Oper} {rest:List Oper} {o:Oper} {a:Act} {Q:Exit→Act→World→Prop} (hgd:o.guard=none) (s x:Operand) (t:TypeId)
  (ho:o.op= .call {callee:= .builtin .append,args:= #[s,x],argTypes:= #[t,t]})
  (base:Nat) (e:TypeId) (i:TypeInfo) (z:Value) (size bytes:Nat) (ht:P.underlying t=some (.slice e)) (hi:P.info? e=some i) (hz:i.zero=some z)
  (hsize:i.size=size) (hby:i.bytes=bytes) (hzs:z.cells.size=size) (hsz:0 < size)
  (v:Value) (n:Nat) (xs:List Value) (hs:a.eval s=v) (hown:w.ownsRow base e size v n xs)
  (ad:Addr) (m c:Nat) (hm:m=1) (news:List Value) (hx:a.eval x= .slice (some ad) m c) (hl:news.length=m *size) (hnews:∀j u,news[j]?=some u→w.cell? (ad.add j)=some u) (h1:∀u∈news,u.oneCell'=true)
  (h63:n+m≤maxLen) (hbytes:(n+m) *bytes≤140737488355328) (hbase:base≤w.heap.size)
  (h:∀v' w',w'.ownsRow base e size v' (n+m) (xs++news)→w.grownBy w' v.ownBlock→(v'.ownBlock=v.ownBlock∨v'.ownBlock=some w.heap.size)→wpList P ops Q rest (a.put o.dst v') w'):wpList P ops Q (o :: rest) a w:=by
 obtain ⟨v',w',hr,h2,h3,_⟩:=run_append_own (P:=P) w base t o.type e i z size bytes ht hi hz hsize hby hzs hsz v n xs hown ad m c news hl hnews h1 h63 hbytes hbase
 subst hsize
 subst hby
 subst hm
 have hw:=append_where (P:=P) ht hi hz hown hl hnews h1 h63 hbytes hr
 refine wpList_plain hgd fun _ hK=>?_
 unfold Oper.wp execOp
 simp only [ho,resolve,invoke,builtin,Sem.run_bind,Sem.run_pure,Result.andThen_ok,List.map_toArray,List.map_cons,List.map_nil,hs,hx,hr]
 exact hK _ _ (h v' w' h2 h3 hw)
def CmAt (w:World) (b o:Nat) (c:C) (a:Int) (nv bv:Value):Prop:=
 w.cell? ⟨b,o,none⟩=some (.int .i64 a)∧w.cell? ⟨b,o+1,none⟩=some (.int .i64 c.k)∧w.cell? ⟨b,o+2,none⟩=some (.int .i64 c.n)∧w.cell? ⟨b,o+3,none⟩=some (.int .i64 c.m)∧w.cell? ⟨b,o+4,none⟩=some (.bool c.on)∧w.cell? ⟨b,o+5,none⟩=some (.string ⟨c.t.toArray⟩)∧w.cell? ⟨b,o+6,none⟩=some (.string ⟨c.x.toArray⟩)∧w.cell? ⟨b,o+7,none⟩=some (.string ⟨c.y.toArray⟩)∧w.cell? ⟨b,o+8,none⟩=some (.string ⟨c.i.toArray⟩)∧w.cell? ⟨b,o+9,none⟩=some (.string ⟨c.j.toArray⟩)∧w.cell? ⟨b,o+10,none⟩=some nv∧w.cell? ⟨b,o+11,none⟩=some bv
theorem RowsAt.get {B:Nat} {w:World} {l:List (Nat × C)} {xs:List Value} (h:RowsAt B w l xs):∀(i:Nat) (hi:i < l.length),∃p q k m,(∀j,j < 12→xs[i *12+j]?=(cmCells l[i].2 (l[i].1:Int) (.slice p l[i].2.nums.length k) (.slice q l[i].2.blocks.length m))[j]?)∧NumsIn B w p l[i].2.nums∧BlksIn B w q l[i].2.blocks:=by
 induction h with
 | nil=>exact fun i hi=>absurd hi (Nat.not_lt_zero _)
 | @cons x l p q k m xs a b _ ih=>
  intro i hi
  cases i with
  | zero=>
   refine ⟨p,q,k,m,fun j hj=>?_,a,b⟩
   rw [List.getElem?_append_left (by show _ < 12;omega),Nat.zero_mul,Nat.zero_add,Array.getElem?_toList]
   rfl
  | succ i=>
   obtain ⟨p,q,k,m,h1,h2,h3⟩:=ih i (Nat.lt_of_succ_lt_succ hi)
   refine ⟨p,q,k,m,fun j hj=>?_,h2,h3⟩
   rw [List.getElem?_append_right (by show 12≤_;omega),show (i+1) *12+j - _=i *12+j from by show (i+1) *12+j - 12=_;omega]
   exact h1 j hj
def ReadC (B:Nat) (w:World) (p:Option Addr) (l:List (Nat × C)):Prop:=0 < l.length→∃b o cur,p=some ⟨b,o,none⟩∧B≤b∧w.heap[b]?=some (.cells cur 104)∧∀(i:Nat) (hi:i < l.length),∃q r k m,(∀j,j < 12→cur[o+i *12+j]?=(cmCells l[i].2 (l[i].1:Int) (.slice q l[i].2.nums.length k) (.slice r l[i].2.blocks.length m))[j]?)∧NumsIn B w q l[i].2.nums∧BlksIn B w r l[i].2.blocks
theorem cmds_read {B:Nat} {w:World} {v:Value} {l:List (Nat × C)} (h:CmdsAt B w v l):∃p c,v= .slice p l.length c∧ReadC B w p l:=by
 obtain ⟨xs,hx,hr⟩:=h
 rcases hx.2 with ⟨h1,h2⟩|⟨g,c,cur,h1,h2,h3,h4,h5,h6,h7⟩
 ·exact ⟨none,0,by rw [h1,h2],fun hl=>absurd hl (by omega)⟩
 ·refine ⟨_,c,h1,fun hl=>⟨g,0,cur,rfl,h2,h3,fun i hi=>?_⟩⟩
  obtain ⟨p,q,k,m,g1,g2,g3⟩:=hr.get i hi
  refine ⟨p,q,k,m,fun j hj=>?_,g2,g3⟩
  rw [Nat.zero_add,←g1 j hj,←h7,List.getElem?_take_of_lt (by omega),Array.getElem?_toList]
theorem cmAt_of {w:World} {b o:Nat} {cur:Array Value} {t:TypeId} {c:C} {a:Int} {nv bv:Value} (h:w.heap[b]?=some (.cells cur t)) (hc:∀j,j < 12→cur[o+j]?=(cmCells c a nv bv)[j]?):CmAt w b o c a nv bv:=by
 have key:∀j,j < 12→w.cell? ⟨b,o+j,none⟩=(cmCells c a nv bv)[j]?:=fun j hj=>by rw [←hc j hj];simp [World.cell?,h]
 exact ⟨key 0 (by decide),key 1 (by decide),key 2 (by decide),key 3 (by decide),key 4 (by decide),key 5 (by decide),key 6 (by decide),key 7 (by decide),key 8 (by decide),key 9 (by decide),key 10 (by decide),key 11 (by decide)⟩
def WdsC (cw:Array Value) (o:Nat) (l:List Wd):Prop:=∀i (hi:i < l.length),cw[o+i *4]?=some (.int .i64 (l[i].a:Int))∧cw[o+i *4+1]?=some (.bool l[i].ext)∧cw[o+i *4+2]?=some (.bool l[i].first)∧cw[o+i *4+3]?=some (.string ⟨l[i].t.toArray⟩)
theorem wdsV_get (l:List Wd) (i:Nat) (hi:i < l.length):(wdsV l)[i *4]?=some (.int .i64 (l[i].a:Int))∧(wdsV l)[i *4+1]?=some (.bool l[i].ext)∧(wdsV l)[i *4+2]?=some (.bool l[i].first)∧(wdsV l)[i *4+3]?=some (.string ⟨l[i].t.toArray⟩):=by
 induction l generalizing i with
 | nil=>exact absurd hi (Nat.not_lt_zero _)
 | cons x l ih=>
  have e:wdsV (x :: l)= [.int .i64 (x.a:Int), .bool x.ext, .bool x.first, .string ⟨x.t.toArray⟩] ++wdsV l:=rfl
  cases i with
  | zero=>rw [e];exact ⟨rfl,rfl,rfl,rfl⟩
  | succ i=>
   obtain ⟨h0,h1,h2,h3⟩:=ih i (Nat.lt_of_succ_lt_succ hi)
   rw [e]
   refine ⟨?_,?_,?_,?_⟩
   ·rw [show (i+1) *4=i *4+1+1+1+1 by omega];exact h0
   ·rw [show (i+1) *4+1=(i *4+1)+1+1+1+1 by omega];exact h1
   ·rw [show (i+1) *4+2=(i *4+2)+1+1+1+1 by omega];exact h2
   ·rw [show (i+1) *4+3=(i *4+3)+1+1+1+1 by omega];exact h3
theorem wds_row {w:World} {B:Nat} {v:Value} {l:List Wd} (h:w.ownsRow B 153 4 v l.length (wdsV l)):∃p c g cw,v= .slice p l.length c∧l.length≤c∧c≤maxLen∧(0 < l.length→p=some ⟨g,0,none⟩∧w.heap[g]?=some (.cells cw 153)∧WdsC cw 0 l):=by
 rcases h.2 with ⟨h1,h2⟩|⟨g,c,cur,h1,h2,h3,h4,h5,h6,h7⟩
 ·exact ⟨none,0,0, #[],by rw [h1,h2],by omega,by decide,fun hl=>absurd hl (by omega)⟩
 ·refine ⟨_,c,g,cur,h1,h4,h5,fun hl=>⟨rfl,h3,fun i hi=>?_⟩⟩
  have key:∀j,j < l.length *4→cur[j]?=(wdsV l)[j]?:=fun j hj=>by
   rw [←h7,List.getElem?_take_of_lt hj,Array.getElem?_toList]
  obtain ⟨g0,g1,g2,g3⟩:=wdsV_get l i hi
  rw [Nat.zero_add,key _ (by omega),key _ (by omega),key _ (by omega),key _ (by omega)]
  exact ⟨g0,g1,g2,g3⟩
theorem WdsC.wdsIn {w:World} {g o:Nat} {cw:Array Value} {l m:List Wd} (h:WdsC cw o l) (hg:w.heap[g]?=some (.cells cw 153)) (hm:m <+:l):WdsIn w (some ⟨g,o,none⟩) m:=by
 intro _
 refine ⟨g,o,rfl,(Array.getElem?_eq_some_iff.1 hg).1,fun i hi=>?_⟩
 obtain ⟨r,rfl⟩:=hm
 obtain ⟨h0,h1,h2,h3⟩:=h i (by rw [List.length_append];omega)
 rw [List.getElem_append_left hi] at h0 h1 h2 h3
 simp only [World.cell?,hg]
 exact ⟨h0,h1,h2,h3⟩
theorem WdsC.drop {cw:Array Value} {o k:Nat} {l:List Wd} (h:WdsC cw o l):WdsC cw (o+k *4) (l.drop k):=by
 intro i hi
 rw [List.length_drop] at hi
 obtain ⟨h0,h1,h2,h3⟩:=h (k+i) (by omega)
 rw [List.getElem_drop,show o+k *4+i *4=o+(k+i) *4 by omega]
 exact ⟨h0,h1,h2,h3⟩
theorem takeW_len {s s':Ws} {c:UInt8} {i:Nat} (h:takeW s c i= .ok s'):s'.words.length≤s.words.length+1∧∀M,(∀x∈s.words,x.t.length≤M)→s.text.length≤M→(∀x∈s'.words,x.t.length≤M+1)∧s'.text.length≤M+1:=by
 have same:∀{u:Ws},(.ok u:Except Nat Ws)= .ok s'→u.words=s.words→u.text.length≤s.text.length+1→s'.words.length≤s.words.length+1∧∀M,(∀x∈s.words,x.t.length≤M)→s.text.length≤M→(∀x∈s'.words,x.t.length≤M+1)∧s'.text.length≤M+1:=by
  intro u hu hw ht
  injection hu with hu
  subst hu
  rw [hw]
  exact ⟨Nat.le_succ _,fun M h1 h2=>⟨fun x hx=>Nat.le_succ_of_le (h1 x hx),by omega⟩⟩
 have add:∀{u:Ws},addW u c= .ok s'→u.words=s.words→u.text=s.text→s'.words.length≤s.words.length+1∧∀M,(∀x∈s.words,x.t.length≤M)→s.text.length≤M→(∀x∈s'.words,x.t.length≤M+1)∧s'.text.length≤M+1:=by
  intro u hu hw ht
  unfold addW at hu
  split at hu
  ·cases hu
  ·exact same hu hw (by show (u.text++ [c]).length≤_;rw [ht];simp)
 unfold takeW at h
 split at h
 ·exact same h rfl (by omega)
 ·split at h
  ·cases h
  ·split at h
   ·unfold endW at h
    split at h
    ·cases h
    ·injection h with h
     subst h
     refine ⟨by simp,fun M h1 h2=>⟨fun x hx=>?_,by simp⟩⟩
     rcases List.mem_append.1 hx with hx | hx
     ·exact Nat.le_succ_of_le (h1 x hx)
     ·rw [List.mem_singleton.1 hx];exact Nat.le_succ_of_le h2
   ·split at h
    ·split at h
     ·cases h
     ·exact same h rfl (by show s.text.length≤_;omega)
    ·split at h
     ·split at h
      ·cases h
      ·exact add h rfl rfl
     ·exact add h rfl rfl
theorem goW_len:∀{l:List UInt8} {k:Nat} {s s':Ws},goW l k s= .ok s'→s'.words.length≤s.words.length+l.length∧∀M,(∀x∈s.words,x.t.length≤M)→s.text.length≤M→(∀x∈s'.words,x.t.length≤M+l.length)
 | [],k,s,s',h=>by
  injection h with h
  subst h
  exact ⟨Nat.le_refl _,fun M h1 h2=>h1⟩
 | c :: l,k,s,s',h=>by
  unfold goW at h
  split at h
  ·cases h
  ·rename_i u hu
   obtain ⟨g1,g2⟩:=takeW_len hu
   obtain ⟨e1,e2⟩:=goW_len h
   refine ⟨by rw [List.length_cons];omega,fun M h1 h2=>?_⟩
   obtain ⟨f1,f2⟩:=g2 M h1 h2
   intro x hx
   have:=e2 (M+1) f1 f2 x hx
   rw [List.length_cons];omega
theorem wordsV_len {s:List UInt8} {ws:List Wd} (h:wordsV s=(ws,0,0)):ws.length≤1000000∧∀x∈ws,x.t.length≤1000000:=by
 unfold wordsV at h
 split at h
 ·simp at h
 ·rename_i hs
  split at h
  ·rename_i i e hg
   simp only [Prod.mk.injEq] at h
   rw [←h.1]
   exact ⟨Nat.zero_le _,fun x hx=>absurd hx (by simp)⟩
  ·rename_i st hg
   split at h
   ·simp at h
   ·simp only [Prod.mk.injEq] at h
    obtain ⟨e1,e2⟩:=goW_len hg
    have e3:=e2 0 (fun x hx=>absurd hx (by simp [ws0])) (Nat.le_refl _)
    rw [←h.1]
    have e4:st.words.length≤0+s.length:=e1
    exact ⟨by omega,fun x hx=>by have:=e3 x hx;omega⟩
theorem plainV_ne {t:List UInt8} {n:Nat} (h:plainV t= .error n):n≠0:=by
 have hrest:∀{t:List UInt8} {cs:List C} {n:Nat},restV t cs= .error n→n≠0:=by
  intro t cs n h
  unfold restV at h
  split at h
  ·cases h
  ·split at h
   ·cases h;decide
   ·cases h
 have hmode:∀{t:List UInt8} {m:Int} {n:Nat},modeV t m= .error n→n≠0:=by
  intro t m n h
  unfold modeV at h
  split at h
  ·cases h
  ·exact hrest h
 unfold plainV at h
 repeat' split at h
 all_goals first | exact hmode h | exact hrest h |(cases h;decide)| cases h
theorem plainV_len {t:List UInt8} {l:List C} (h:plainV t= .ok l):l.length≤2:=by
 have hrest:∀{t:List UInt8} {cs l:List C},restV t cs= .ok l→cs.length≤1→l.length≤2:=by
  intro t cs l h hc
  unfold restV at h
  split at h
  ·cases h;exact Nat.le_succ 1
  ·split at h
   ·cases h
   ·cases h;rw [List.length_append];simp only [List.length_singleton];omega
 have hmode:∀{t:List UInt8} {m:Int} {l:List C},modeV t m= .ok l→l.length≤2:=by
  intro t m l h
  unfold modeV at h
  split at h
  ·cases h;exact Nat.le_succ 1
  ·exact hrest h (Nat.le_refl _)
 unfold plainV at h
 repeat' split at h
 all_goals first | exact hmode h | exact hrest h (by decide)|(cases h;exact Nat.le_succ 1)| cases h
theorem groupV_ne {w:Wd} {ws:List Wd} {i n:Nat} (h:groupV w ws= .error (i,n)):n≠0:=by
 unfold groupV at h
 split at h
 ·split at h
  ·rename_i h2
   cases h
   exact extV_ne h2
  ·split at h
   ·cases h
   ·cases h;decide
 ·split at h
  ·cases h;decide
  ·split at h
   split at h
   ·rename_i h0
    cases h
    exact h0
   ·cases h
theorem groupV_len {w:Wd} {ws:List Wd} {l:List C} (h:groupV w ws= .ok l):l.length≤2:=by
 unfold groupV at h
 split at h
 ·split at h
  ·cases h
  ·split at h
   ·cases h;exact Nat.le_succ 1
   ·cases h
 ·split at h
  ·cases h
  ·split at h
   split at h
   ·cases h
   ·cases h;exact Nat.le_succ 1
theorem cmdsW_ne {w:Wd} {ws:List Wd} {i n:Nat} (h:cmdsW w ws= .error (i,n)):n≠0:=by
 unfold cmdsW at h
 split at h
 ·exact groupV_ne h
 ·split at h
  ·rename_i h2
   cases h
   exact plainV_ne h2
  ·cases h
theorem cmdsW_len {w:Wd} {ws:List Wd} {l:List C} (h:cmdsW w ws= .ok l):l.length≤2:=by
 unfold cmdsW at h
 split at h
 ·exact groupV_len h
 ·split at h
  ·cases h
  ·rename_i h2
   cases h
   exact plainV_len h2
theorem tw_take (l:List Wd):l.takeWhile (fun x=>!x.first)=l.take (l.takeWhile fun x=>!x.first).length:=by
 induction l with
 | nil=>rfl
 | cons a l ih=>
  by_cases h:a.first=true
  ·rw [List.takeWhile_cons_of_neg (by simp [h])];rfl
  ·rw [List.takeWhile_cons_of_pos (by simp [h]),List.length_cons,List.take_succ_cons,←ih]
theorem dw_drop (l:List Wd):l.dropWhile (fun x=>!x.first)=l.drop (l.takeWhile fun x=>!x.first).length:=by
 induction l with
 | nil=>rfl
 | cons a l ih=>
  by_cases h:a.first=true
  ·rw [List.takeWhile_cons_of_neg (by simp [h]),List.dropWhile_cons_of_neg (by simp [h])];rfl
  ·rw [List.takeWhile_cons_of_pos (by simp [h]),List.dropWhile_cons_of_pos (by simp [h]),List.length_cons,List.drop_succ_cons,←ih]
theorem tw_at {l:List Wd} {k:Nat} (hk:k <(l.takeWhile fun x=>!x.first).length):∃h:k < l.length,l[k].first=false:=by
 induction l generalizing k with
 | nil=>exact absurd hk (by simp)
 | cons a l ih=>
  by_cases h:a.first=true
  ·rw [List.takeWhile_cons_of_neg (by simp [h])] at hk;exact absurd hk (by simp)
  ·rw [List.takeWhile_cons_of_pos (by simp [h])] at hk
   cases k with
   | zero=>exact ⟨Nat.succ_pos _,by simpa using h⟩
   | succ k=>
    obtain ⟨h1,h2⟩:=ih (Nat.lt_of_succ_lt_succ hk)
    exact ⟨Nat.succ_lt_succ h1,h2⟩
theorem tw_end {l:List Wd} (h:(l.takeWhile fun x=>!x.first).length < l.length):l[(l.takeWhile fun x=>!x.first).length].first=true:=by
 induction l with
 | nil=>exact absurd h (by simp)
 | cons a l ih=>
  by_cases hf:a.first=true
  ·simp only [List.takeWhile_cons_of_neg (p:=fun x:Wd=>!x.first) (a:=a) (l:=l) (by simp [hf]),List.length_nil,List.getElem_cons_zero]
   exact hf
  ·simp only [List.takeWhile_cons_of_pos (p:=fun x:Wd=>!x.first) (a:=a) (l:=l) (by simp [hf]),List.length_cons] at h⊢
   exact ih (Nat.lt_of_succ_lt_succ h)
theorem tw_le (l:List Wd):(l.takeWhile fun x=>!x.first).length≤l.length:=(List.takeWhile_sublist _).length_le
def goK:Except (Nat × Nat) (List (Nat × C))→List (Nat × C)× Nat × Nat
 | .error (i,e)=>([],i,e)
 | .ok l=>(l,0,0)
theorem goG_succ (f:Nat) (w:Wd) (ws:List Wd) (acc:List (Nat × C)):goG (f+1) (w :: ws) acc=match cmdsW w (ws.takeWhile fun x=>!x.first) with
 | .error e=> .error e
 | .ok l=>goG f (ws.dropWhile fun x=>!x.first) (acc++l.map fun c=>(w.a,c)):=rfl
theorem goG_nil (f:Nat) (acc:List (Nat × C)):goG f [] acc= .ok acc:=by
 cases f <;> rfl
theorem parseG_K {s:List UInt8} {ws:List Wd} (h:wordsV s=(ws,0,0)):parseG s=goK (goG ws.length ws []):=by
 unfold parseG
 rw [h]
 simp only []
 rw [if_neg (fun h=>h rfl)]
 cases goG ws.length ws [] <;> rfl
theorem parseG_E {s:List UInt8} {ws:List Wd} {i e:Nat} (h:wordsV s=(ws,i,e)) (he:e≠0):parseG s=([],i,e):=by
 unfold parseG
 rw [h]
 simp only []
 rw [if_pos he]
end Go.Proofs.YtfldplmgkeiimaaGreatDoor.GW
namespace Go.Proofs.YtfldplmgkeiimaaGreatDoor.VW
open Go.RowKit Go.Proofs.YtfldplmgkeiimaaGreatDoor.Vp
open Go.Proofs.YtfldplmgkeiimaaGreatDoor.Gp (C)
open Go.Proofs.YtfldplmgkeiimaaGreatDoor.GW (cmVal cmCells ReadC CmAt cmAt_of)
def runR:List C→Pl→Bool
 | [],_=>true
 | c :: l,p=>rcB p c && match doP p c with
  | .error _=>true
  | .ok q=>runR l q
abbrev zLv:Value:= .agg #[.bool false, .int .i64 0, .int .i64 0, .int .i64 0, .int .i64 0, .int .i64 0, .slice none 0 0]
theorem info_lv:(Tryz.prog.info? tLv).map (fun i=>(i.zero,i.size,i.bytes))=some (some zLv,7,72):=by kernel_rfl
theorem PlAt.lsm {w0:World} {P:Nat} {R:Nat→Prop} {m L:Nat} {fu:Int} {cv ov:Value} {cx ox:List Value} {p:Pl} {w:World} (h:PlAt w0 P R m L fu cv ov cx ox p w):LsM w0 ov p.top.objs w:=⟨R,ox,h.ob,h.obs,h.rlo,h.rO,h.bel⟩
theorem read_at {B:Nat} {w:World} {p:Option Addr} {l:List (Nat × C)} (h:ReadC B w p l) {j:Nat} (hj:j < l.length) {a:Nat} {c:C} (he:l[j]=(a,c)):∃b o q1 n1 k1 q2 n2 k2,p=some ⟨b,o,none⟩∧b < w.heap.size∧CmAt w b (o+j *12) c (a:Int) (.slice q1 n1 k1) (.slice q2 n2 k2):=by
 obtain ⟨b,o,cur,rfl,_,hh,hc⟩:=h (by omega)
 obtain ⟨q,r,k,m,h1,_,_⟩:=hc j hj
 rw [he] at h1
 exact ⟨b,o,_,_,_,_,_,_,rfl,lt_of_heap hh,cmAt_of hh h1⟩
theorem mk_lv (w:World):(Instr.makeSlice 159 (.int .i64 1) (.int .i64 1)).run Tryz.prog w= .ok (.slice (some ⟨w.heap.size,0,none⟩) 1 1) (w.alloc (.cells #[.bool false, .int .i64 0, .int .i64 0, .int .i64 0, .int .i64 0, .int .i64 0, .slice none 0 0] tLv)):=by
 have h:=make_rows (P:=Tryz.prog) 159 tLv zLv 7 72 Tryz.underlying159 info_lv 1 (by decide) (by decide) w
 have e:madeCells zLv.cells (1 *7)= #[.bool false, .int .i64 0, .int .i64 0, .int .i64 0, .int .i64 0, .int .i64 0, .slice none 0 0]:=by kernel_rfl
 rw [e] at h
 exact h
theorem cell_keep' {w y:World} {b i:Nat} {v:Value} (hb:b < w.heap.size) (h:Below w.heap.size w y) (hc:w.cell? ⟨b,i,none⟩=some v):y.cell? ⟨b,i,none⟩=some v:=(h.cell (p:=⟨b,i,none⟩) hb).trans hc
def PltOut (w:World) (r:List Ob × Nat × Nat) (e:Ending) (w':World):Prop:=Below w.heap.size w w'∧∃q d,e= .returned (.tuple #[.slice q r.1.length d, .int .i64 (r.2.1:Int), .int .i64 (r.2.2:Int)])∧ObsIn (fun k=>w.heap.size≤k) w' q r.1
def contP (l:List C) (j:Nat):Except Nat Pl→Except (Nat × Nat) Pl
 | .error e=> .error (j,e)
 | .ok q=>runP l (j+1) q
def contR (l:List C):Except Nat Pl→Bool
 | .error _=>true
 | .ok q=>runR l q
theorem runP_cons (c:C) (l:List C) (i:Nat) (p:Pl):runP (c :: l) i p=contP l i (doP p c):=by
 unfold runP contP
 split <;> rename_i h <;> rw [h]
theorem runR_cons (c:C) (l:List C) (p:Pl):runR (c :: l) p=(rcB p c && contR l (doP p c)):=by
 unfold runR contR
 congr 1
def outP (n:Nat):Except (Nat × Nat) Pl→List Ob × Nat × Nat
 | .error (i,e)=>([],i,e)
 | .ok p=>if p.ended=false then ([],n,11) else (p.top.objs,0,0)
theorem plotV_out (l:List C) (b:Int):plotV l b=outP l.length (runP l 0 (pl0 b)):=by
 unfold plotV outP
 split <;> rename_i h <;> rw [h]
set_option maxRecDepth 100000 in
set_option maxHeartbeats 25600000 in
theorem plot_c (B:Nat) (l:List (Nat × C)) (pp:Option Addr) (n cap:Nat) (hn:n=l.length) (bu:Int) (w:World) (H:Hid (ReadC B w pp l)) (hlen:l.length≤500000) (hrun:Hid (runR (l.map Prod.snd) (pl0 bu)=true)) (res:List Ob × Nat × Nat) (hres:Hid (plotV (l.map Prod.snd) bu=res)):
  Calls Tryz.prog 40 #[.slice pp n cap, .int .i64 bu] w fun e w'=>PltOut w res e w':=by
 have HN:=Lib.hid hn
 have hnb:n≤500000:=by rw [hn];exact hlen
 obtain ⟨T,hT⟩:∃T,runP (l.map Prod.snd) 0 (pl0 bu)=T:=⟨_,rfl⟩
 have HRES:Hid (outP n T=res):=by rw [←hres.out,←hT,plotV_out,List.length_map,hn];exact rfl
 have HT:Hid (runP ((l.map Prod.snd).drop 0) 0 (pl0 bu)=T):=hT
 have HRN:Hid (runR ((l.map Prod.snd).drop 0) (pl0 bu)=true):=hrun.out
 clear hn hlen hres hT hrun
 have hmm:=@run_makeMap Tryz.prog
 have hmk:=fun x=>mk_lv x
 go_enter Tryz.func40,Tryz.ntmps40
 go_upto_region 2 with fail
 obtain ⟨W,hW⟩:∃W,((w.alloc (.map #[] 0)).alloc (.cells #[.bool false, .int .i64 0, .int .i64 0, .int .i64 0, .int .i64 0, .int .i64 0, .slice none 0 0] tLv)).alloc (.cells #[.int .i64 0, .int .i64 0, .int .i64 0, .int .i64 0, .bool false, .bool false, .map (some w.heap.size), .int .i64 0, .slice none 0 0, .int .i64 0, .int .i64 0, .int .i64 1, .bool false, .bool true, .bool false, .bool false, .int .i64 0, .int .i64 0, .int .i64 0, .bool false, .slice none 0 0, .slice (some ⟨w.heap.size+1,0,none⟩) 1 1, .int .i64 0, .int .i64 (min (max bu 0) 100000), .bool false] tPl)=W:=⟨_,rfl⟩
 have HP0:Hid (PlM w (w.heap.size+1+1) (pl0 bu) W):=by
  have s1:(w.alloc (.map #[] 0)).heap.size=w.heap.size+1:=Array.size_push _
  have s2:((w.alloc (.map #[] 0)).alloc (.cells #[.bool false, .int .i64 0, .int .i64 0, .int .i64 0, .int .i64 0, .int .i64 0, .slice none 0 0] tLv)).heap.size=w.heap.size+1+1:=(Array.size_push _).trans (congrArg (· +1) s1)
  have a1:((w.alloc (.map #[] 0)).alloc (.cells #[.bool false, .int .i64 0, .int .i64 0, .int .i64 0, .int .i64 0, .int .i64 0, .slice none 0 0] tLv)).heap[w.heap.size+1]?=some (.cells #[.bool false, .int .i64 0, .int .i64 0, .int .i64 0, .int .i64 0, .int .i64 0, .slice none 0 0] tLv):=by have:=alloc_new (w.alloc (.map #[] 0)) (.cells #[.bool false, .int .i64 0, .int .i64 0, .int .i64 0, .int .i64 0, .int .i64 0, .slice none 0 0] tLv);rw [s1] at this;exact this
  have a2:W.heap[w.heap.size+1+1]?=some (.cells #[.int .i64 0, .int .i64 0, .int .i64 0, .int .i64 0, .bool false, .bool false, .map (some w.heap.size), .int .i64 0, .slice none 0 0, .int .i64 0, .int .i64 0, .int .i64 1, .bool false, .bool true, .bool false, .bool false, .int .i64 0, .int .i64 0, .int .i64 0, .bool false, .slice none 0 0, .slice (some ⟨w.heap.size+1,0,none⟩) 1 1, .int .i64 0, .int .i64 (min (max bu 0) 100000), .bool false] tPl):=by have:=alloc_new ((w.alloc (.map #[] 0)).alloc (.cells #[.bool false, .int .i64 0, .int .i64 0, .int .i64 0, .int .i64 0, .int .i64 0, .slice none 0 0] tLv)) (.cells #[.int .i64 0, .int .i64 0, .int .i64 0, .int .i64 0, .bool false, .bool false, .map (some w.heap.size), .int .i64 0, .slice none 0 0, .int .i64 0, .int .i64 0, .int .i64 1, .bool false, .bool true, .bool false, .bool false, .int .i64 0, .int .i64 0, .int .i64 0, .bool false, .slice none 0 0, .slice (some ⟨w.heap.size+1,0,none⟩) 1 1, .int .i64 0, .int .i64 (min (max bu 0) 100000), .bool false] tPl);rw [s2,hW] at this;exact this
  have a0:W.heap[w.heap.size]?=some (.map #[] 0):=by rw [←hW];exact one_below (one_below (alloc_new w _) (bel_alloc _ _)) (bel_alloc _ _)
  have a3:W.heap[w.heap.size+1]?=some (.cells #[.bool false, .int .i64 0, .int .i64 0, .int .i64 0, .int .i64 0, .int .i64 0, .slice none 0 0] tLv):=by rw [←hW];exact one_below a1 (bel_alloc _ _)
  have hb:Below w.heap.size w W:=by rw [←hW];exact (bel_alloc _ _).trans (((bel_alloc _ _).trans ((bel_alloc _ _).mono (bel_alloc _ _).size)).mono (bel_alloc _ _).size)
  exact ⟨fun _=>False,w.heap.size,w.heap.size+1,0, .slice none 0 0, .slice none 0 0, [], [],{
   pl:=a2
   mp:=⟨fun _=>rfl,a0⟩
   lv:=a3
   ct:= .nil _ _ _
   ob:=⟨rfl, .inl ⟨rfl,rfl⟩⟩
   obs:=trivial
   rlo:=fun k h=>h.elim
   rP:=id
   rL:=id
   rm:=id
   rK:=fun k e=>by simp [Value.ownBlock] at e
   rO:=fun k e=>by simp [Value.ownBlock] at e
   bP:=by omega
   bL:=by omega
   bm:=Nat.le_refl _
   bel:=hb
   top:=rfl
   lvs:=rfl
   mac:=rfl}⟩
 rw [hW]
 clear hW hmm hmk
 obtain ⟨P,hP⟩:∃P,w.heap.size+1+1=P:=⟨_,rfl⟩
 rw [hP] at HP0⊢
 clear hP
 have HZ0:Hid (SzB 0 (pl0 bu)):=⟨Nat.le_refl _,fun c hc=>absurd hc (by simp [pl0]),Nat.le_refl _,⟨Int.le_refl _,Int.le_refl _⟩⟩
 go_wp2_with fail
 go_loopw [20] (fun i wr=>∃(j:Nat) (p:Pl) (wy:World),wy=wr∧j≤n∧i= .int .i64 j∧Hid (runP ((l.map Prod.snd).drop j) j p=T)∧Hid (runR ((l.map Prod.snd).drop j) p=true)∧Hid (SzB j p)∧Hid (PlM w P p wy)) (fun i _=>n -(intOf i).toNat)
 case atStart=>exact ⟨0,_,_,rfl,Nat.zero_le _,rfl,HT.out,HRN.out,HZ0.out,HP0.out⟩
 case round=>
 obtain ⟨j,p,wy,rfl,hj,rfl,HTj,HRj,HZj,HPj⟩:=hrel
 clear HT HRN HZ0 HP0
 have HBy:Hid (Below w.heap.size w wy):=by obtain ⟨_,_,_,_,_,_,_,_,h⟩:=HPj.out;exact h.bel
 by_cases hlt:j < n
 ·have hlt2:j < l.length:=by rw [←HN.out];exact hlt
  have hlti:(j:Int)<(n:Int):=by omega
  obtain ⟨⟨a,⟨ck,cn,cm,con,ct,cx,cy,ci,cj,nums,bl⟩⟩,hc⟩:∃x,l[j]=x:=⟨_,rfl⟩
  obtain ⟨b,o,nq,nn,nk,bq,bn,bk,rfl,hbl,hat⟩:=read_at H.out hlt2 hc
  have hdr:(l.map Prod.snd).drop j=⟨ck,cn,cm,con,ct,cx,cy,ci,cj,nums,bl⟩::(l.map Prod.snd).drop (j+1):=by
   rw [List.drop_eq_getElem_cons (by rw [List.length_map];exact hlt2),List.getElem_map,hc]
  obtain ⟨r9,hr9⟩:∃r,doP p ⟨ck,cn,cm,con,ct,cx,cy,ci,cj,nums,bl⟩=r:=⟨_,rfl⟩
  have HT2:Hid (contP ((l.map Prod.snd).drop (j+1)) j r9=T):=by show _=_;rw [←HTj.out,hdr,runP_cons,hr9]
  have hR2:rcB p ⟨ck,cn,cm,con,ct,cx,cy,ci,cj,nums,bl⟩=true∧contR ((l.map Prod.snd).drop (j+1)) r9=true:=by
   have h:=HRj.out
   rw [hdr] at h
   rw [runR_cons,hr9,Bool.and_eq_true] at h
   exact h
  have HR2:=Lib.hid hR2.2
  have hdo:=fun x (hx:Hid (PlM w P p x))=>do_c w P p ⟨ck,cn,cm,con,ct,cx,cy,ci,cj,nums,bl⟩ (a:Int) (.slice nq nn nk) (.slice bq bn bk) x hx j (by omega) HZj.out hR2.1 r9 hr9
  have HZ2:=Lib.hid (hdo wy HPj).1
  have HDO:Hid (∀x,Below wy.heap.size wy x→Calls Tryz.prog 64 #[.pointer (some ⟨P,0,none⟩), .agg #[.int .i64 (a:Int), .int .i64 ck, .int .i64 cn, .int .i64 cm, .bool con, .string ⟨ct.toArray⟩, .string ⟨cx.toArray⟩, .string ⟨cy.toArray⟩, .string ⟨ci.toArray⟩, .string ⟨cj.toArray⟩,(.slice nq nn nk),(.slice bq bn bk)]] x fun e w'=>PlRes w P r9 e w'):=fun x hx=>(hdo x (Lib.hid (HPj.out.below hx))).2.2
  have HNE:=Lib.hid (hdo wy HPj).2.1
  obtain ⟨k0,k1,k2,k3,k4,k5,k6,k7,k8,k9,k10,k11⟩:=hat
  have d0:=cell_keep' hbl HBy.out k0
  have d1:=cell_keep' hbl HBy.out k1
  have d2:=cell_keep' hbl HBy.out k2
  have d3:=cell_keep' hbl HBy.out k3
  have d4:=cell_keep' hbl HBy.out k4
  have d5:=cell_keep' hbl HBy.out k5
  have d6:=cell_keep' hbl HBy.out k6
  have d7:=cell_keep' hbl HBy.out k7
  have d8:=cell_keep' hbl HBy.out k8
  have d9:=cell_keep' hbl HBy.out k9
  have d10:=cell_keep' hbl HBy.out k10
  have d11:=cell_keep' hbl HBy.out k11
  clear hdr hr9 hR2 hdo k0 k1 k2 k3 k4 k5 k6 k7 k8 k9 k10 k11 HTj HRj hc
  obtain ⟨ca,hca⟩:∃ca:Int,(a:Int)=ca:=⟨_,rfl⟩
  obtain ⟨sct,hsct⟩:∃s:ByteArray,(⟨ct.toArray⟩:ByteArray)=s:=⟨_,rfl⟩
  obtain ⟨scx,hscx⟩:∃s:ByteArray,(⟨cx.toArray⟩:ByteArray)=s:=⟨_,rfl⟩
  obtain ⟨scy,hscy⟩:∃s:ByteArray,(⟨cy.toArray⟩:ByteArray)=s:=⟨_,rfl⟩
  obtain ⟨sci,hsci⟩:∃s:ByteArray,(⟨ci.toArray⟩:ByteArray)=s:=⟨_,rfl⟩
  obtain ⟨scj,hscj⟩:∃s:ByteArray,(⟨cj.toArray⟩:ByteArray)=s:=⟨_,rfl⟩
  rw [hca] at d0 HDO
  simp only [hsct,hscx,hscy,hsci,hscj] at d5 d6 d7 d8 d9 HDO
  clear hca hsct hscx hscy hsci hscj
  go_upto_region 5 with fail
  have HA:Hid (Below wy.heap.size wy (wy.alloc (.cells #[.int .i64 ca, .int .i64 ck, .int .i64 cn, .int .i64 cm, .bool con, .string sct, .string scx, .string scy, .string sci, .string scj, .slice nq nn nk, .slice bq bn bk] tCm))):=bel_alloc _ _
  have HC:Hid ((wy.alloc (.cells #[.int .i64 ca, .int .i64 ck, .int .i64 cn, .int .i64 cm, .bool con, .string sct, .string scx, .string scy, .string sci, .string scj, .slice nq nn nk, .slice bq bn bk] tCm)).heap[wy.heap.size]?=some (.cells #[.int .i64 ca, .int .i64 ck, .int .i64 cn, .int .i64 cm, .bool con, .string sct, .string scx, .string scy, .string sci, .string scj, .slice nq nn nk, .slice bq bn bk] tCm)):=alloc_new _ _
  generalize wy.alloc (.cells #[.int .i64 ca, .int .i64 ck, .int .i64 cn, .int .i64 cm, .bool con, .string sct, .string scx, .string scy, .string sci, .string scj, .slice nq nn nk, .slice bq bn bk] tCm)=W5 at HA HC⊢
  clear d0 d1 d2 d3 d4 d5 d6 d7 d8 d9 d10 d11
  have d0:=cell_of (i:=0) HC.out rfl
  have d1:=cell_of (i:=1) HC.out rfl
  have d2:=cell_of (i:=2) HC.out rfl
  have d3:=cell_of (i:=3) HC.out rfl
  have d4:=cell_of (i:=4) HC.out rfl
  have d5:=cell_of (i:=5) HC.out rfl
  have d6:=cell_of (i:=6) HC.out rfl
  have d7:=cell_of (i:=7) HC.out rfl
  have d8:=cell_of (i:=8) HC.out rfl
  have d9:=cell_of (i:=9) HC.out rfl
  have d10:=cell_of (i:=10) HC.out rfl
  have d11:=cell_of (i:=11) HC.out rfl
  go_wp2_with fail
  with_reducible refine (HDO.out _ HA.out).mono ?_
  intro e w6 hr6
  clear d0 d1 d2 d3 d4 d5 d6 d7 d8 d9 d10 d11 HC HA HPj
  cases r9 with
  | error k=>
   obtain rfl:=hr6.err rfl
   have HB6:=Lib.hid hr6.1
   have HF:Hid (outP n (.error (j,k))=res):=by rw [←HRES.out,←HT2.out];exact rfl
   clear hr6
   have hk0:k≠0:=HNE.out k rfl
   have hk1:(((k:Int) !=0):Bool)=true:=by rw [bne_iff_ne];omega
   go_wp2_with fail
   go_ret3
   rw [←HF.out]
   exact ⟨HB6.out,none,0,rfl, .nil _ _ _⟩
  | ok q=>
   obtain ⟨rfl,hpm⟩:=hr6.get rfl
   have HP6:=Lib.hid hpm
   have HT6:Hid (runP ((l.map Prod.snd).drop (j+1)) (j+1) q=T):=HT2.out
   have HR6:Hid (runR ((l.map Prod.snd).drop (j+1)) q=true):=HR2.out
   have HZ6:=Lib.hid (HZ2.out q rfl)
   clear hr6 hpm
   go_wp2_with fail
   go_round <;> first | exact ⟨j+1,q,_,rfl,by omega,by go_num,HT6.out,HR6.out,HZ6.out,HP6.out⟩|(simp [intOf] <;> omega)
 ·have hje:j=n:=by omega
  subst hje
  have hTp: .ok p=T:=by
   have h:=HTj.out
   rw [List.drop_eq_nil_of_le (by rw [List.length_map,HN.out];exact Nat.le_refl _)] at h
   exact h
  obtain ⟨R,m,L,fu,cv,ov,cx,ox,h⟩:=HPj.out
  have H1:=Lib.hid h
  obtain ⟨en,hen⟩:∃b,p.ended=b:=⟨_,rfl⟩
  have HF:Hid ((if en=false then ([],j,11) else (p.top.objs,0,0))=res):=by rw [←HRES.out,←hTp,←hen];exact rfl
  have c24:wy.cell? ⟨P,24,none⟩=some (.bool en):=by rw [←hen];exact cell_of (i:=24) h.pl rfl
  have c21:wy.cell? ⟨P,21,none⟩=some (.slice (some ⟨L,0,none⟩) 1 1):=cell_of (i:=21) h.pl rfl
  have l6:wy.cell? ⟨L,6,none⟩=some ov:=cell_of (i:=6) h.lv rfl
  have hob:p.top.objs.length≤500000:=Nat.le_trans HZj.out.ob hnb
  clear h hen hTp HTj HRj HZj HRES
  cases en with
  | false=>
   have HF2:Hid (([],j,11)=res):=HF.out
   go_wp2_with fail
   go_ret3
   rw [←HF2.out]
   exact ⟨HBy.out,none,0,rfl, .nil _ _ _⟩
  | true=>
   have HF2:Hid ((p.top.objs,0,0)=res):=HF.out
   obtain ⟨q,d,hov,hobs⟩:=ObsIn.own (R:=fun k=>w.heap.size≤k) H1.out.lsm (by show _≤1000000000;omega) (fun k h=>h)
   subst hov
   have HOB:=Lib.hid hobs
   clear hobs H1
   go_wp2_with fail
   go_ret3
   rw [←HF2.out]
   exact ⟨HBy.out,q,d,rfl,HOB.out⟩
end Go.Proofs.YtfldplmgkeiimaaGreatDoor.VW
