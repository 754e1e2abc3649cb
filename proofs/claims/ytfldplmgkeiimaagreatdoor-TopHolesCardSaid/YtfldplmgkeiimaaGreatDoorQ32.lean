/- Lemmas. -/
import Derived.Test.YtfldplmgkeiimaaGreatDoorQ31
set_option linter.all false
set_option maxRecDepth 100000
set_option maxHeartbeats 25600000
namespace Go.Proofs.YtfldplmgkeiimaaGreatDoor
abbrev Ja:=@Proofs.Tryz.underlying52
namespace jj
open Go.RowKit pH kG qk Mem rG cf
theorem aqm{P:Program}{w v':_}{w':bTo}{base:Nat}{t ty e:aui}{i:TypeInfo}{z:ada}(bH:P.underlying t=some (.slice e))(hi:P.info? e=some i)(bx:i.zero=some z)
  {v:ada} {n:Nat} {xs:bTv} (cM:World.ownsRow w base e i.size v n xs) {a:Addr} {c:Nat} {news:bTv} (aj:news.length=1 *i.size) (Bj:∀j u,news[j]?=some u→w.cell? (a.add j)=some u) (aa:∀u∈news,u.oneCell'=true)
  (J9:n+1≤maxLen) (Hc:(n+1) *i.bytes≤140737488355328)
  (hr:(Builtin.append_ #[t,t] ty #[v,ad (some a) 1 c]).run P w=.ok v' w'):v'.ownBlock=v.ownBlock∨v'.ownBlock=some w.heap.size:=by
 have hs:n+1≤9223372036854775807:=by simp only[maxLen] at J9;omega
 rcases cM.2 with ⟨rfl,rfl⟩|⟨g,cap,cur,rfl,ad0,aX,Fx,zY,h1,axl⟩
 ·rw[run_append_nil (P:=P) w t ty e i z bH hi bx a 1 c news aj Bj (by omega) (by omega) (by simp only[lk] at Hc;omega)] at hr;injection hr with aN _;rw[←aN];exact .inr rfl
 ·by_cases ad1:n+1≤cap
  ·rw[run_append_room (P:=P) w t ty e i bH hi g n cap cur aX a 1 c news aj Bj aa ad1 (by rw[aj,h1,←Nat.add_mul];exact Nat.mul_le_mul_right _ ad1)] at hr;injection hr with aN _;rw[←aN];exact .inl rfl
  ·rw[run_append_grow (P:=P) w t ty e i z bH hi bx (ag g 0) n cap xs cM.1 (cM.cells (g:=g) rfl) a 1 c news aj Bj (by omega) (by omega) (growslice_fits (by omega) Hc)] at hr;injection hr with aN _;rw[←aN];exact .inr rfl
theorem aqn{P:Program}{w:bTo}{ops:Array Oper}{rest:List Oper}{o:Oper}{a:Act}{Q:Exit→Act→bTo→Prop}(aqo:o.guard=none)(s x:Operand)(t:aui)
  (bl:o.op=.call {callee:=.builtin .append,args:= #[s,x],argTypes:= #[t,t]})
  (base:Nat) (e:aui) (i:TypeInfo) (z:ada) (size bytes:Nat) (bH:P.underlying t=some (.slice e)) (hi:P.info? e=some i) (bx:i.zero=some z)
  (ad2:i.size=size) (gz:i.bytes=bytes) (aqp:z.cells.size=size) (hh:0<size)
  (v:ada) (n:Nat) (xs:bTv) (hs:a.eval s=v) (cM:w.ownsRow base e size v n xs)
  (Wj:Addr) (m c:Nat) (hm:m=1) (news:bTv) (hx:a.eval x=ad (some Wj) m c) (aj:news.length=m *size) (Bj:∀j u,news[j]?=some u→w.cell? (Wj.add j)=some u) (aa:∀u∈news,u.oneCell'=true)
  (J9:n+m≤maxLen) (Hc:(n+m) *bytes≤140737488355328) (Ps:base≤w.heap.size)
  (h:∀v' w',w'.ownsRow base e size v' (n+m) (xs++news)→w.grownBy w' v.ownBlock→(v'.ownBlock=v.ownBlock∨v'.ownBlock=some w.heap.size)→wpList P ops Q rest (a.put o.dst v') w'):wpList P ops Q (o::rest) a w:=by
 obtain⟨v',w',hr,ah,ax,_⟩:=run_append_own (P:=P) w base t o.type e i z size bytes bH hi bx ad2 gz aqp hh v n xs cM Wj m c news aj Bj aa J9 Hc Ps;subst ad2;subst gz;subst hm;have hw:=aqm (P:=P) bH hi bx cM aj Bj aa J9 Hc hr;refine wpList_plain aqo fun _ hK=>?_;unfold Oper.wp execOp;simp only[bl,resolve,invoke,builtin,OO,SI,EC,List.map_toArray,r4,zI,hs,hx,hr];exact hK _ _ (h v' w' ah ax hw)
def QK(w:bTo)(b o:Nat)(c:C)(a:Int)(dd bv:ada):Prop:=
 w.cell? ⟨b,o,none⟩=some (I a)∧aw w b (o+1) (I c.k)∧aw w b (o+2) (I c.n)∧aw w b (o+3) (I c.m)∧aw w b (o+4) (ai c.on)∧aw w b (o+5) (au ⟨c.t.toArray⟩)∧aw w b (o+6) (au ⟨c.x.toArray⟩)∧aw w b (o+7) (au ⟨c.y.toArray⟩)∧aw w b (o+8) (au ⟨c.i.toArray⟩)∧aw w b (o+9) (au ⟨c.j.toArray⟩)∧aw w b (o+10) dd∧aw w b (o+11) bv
variable{i B n:Nat}{w:bTo}
theorem ou.get{l:List (Nat×C)}{xs:bTv}(h:ou B w l xs):∀(i:Nat) (hi:i<l.length),∃p q k m,(∀j,j<12→xs[i *12+j]?=(jk l[i].2 (l[i].1:Int) (.slice p l[i].2.cj.length k) (.slice q l[i].2.blocks.length m))[j]?)∧fa B w p l[i].2.cj∧hB B w q l[i].2.blocks:=by
 induction h with
 |nil=>exact fun i hi=>absurd hi (l7 _)
 |@cons x l p q k m xs a b _ dc=>
  intro i hi;cases i with
  |zero=>
   refine⟨p,q,k,m,fun j cB=>?_,a,b⟩;rw[Iq (by show _<12;omega),Eg,lk,zJ];rfl
  |succ i=>
   obtain⟨p,q,k,m,aa,ah,ax⟩:=dc i (BC hi);refine⟨p,q,k,m,fun j cB=>?_,ah,ax⟩;rw[zO (by show 12≤_;omega),show (i+1) *12+j-_=i *12+j from by show (i+1) *12+j-12=_;omega];exact aa j cB
def MI(B:Nat)(w:bTo)(p:aya)(l:List (Nat×C)):Prop:=0<l.length→∃b o cur,p=some ⟨b,o,none⟩∧B≤b∧bo w b cur 104∧∀(i:Nat) (hi:i<l.length),∃q r k m,(∀j,j<12→cur[o+i *12+j]?=(jk l[i].2 (l[i].1:Int) (.slice q l[i].2.cj.length k) (.slice r l[i].2.blocks.length m))[j]?)∧fa B w q l[i].2.cj∧hB B w r l[i].2.blocks
theorem Wk{v:ada}{l:List (Nat×C)}(h:jX B w v l):∃p c,v=ad p l.length c∧MI B w p l:=by
 obtain⟨xs,hx,hr⟩:=h;rcases hx.2 with ⟨aa,ah⟩|⟨g,c,cur,aa,ah,ax,bg,b7,c0,ea⟩
 ·exact⟨none,0,by rw[aa,ah],fun aj=>absurd aj (by omega)⟩
 ·refine⟨_,c,aa,fun aj=>⟨g,0,cur,rfl,ah,ax,fun i hi=>?_⟩⟩;obtain⟨p,q,k,m,g1,g2,g3⟩:=hr.get i hi;refine⟨p,q,k,m,fun j cB=>?_,g2,g3⟩;rw[lk,←g1 j cB,←ea,I1 (by omega),zJ]
theorem QL{b o:Nat}{cur:agv}{t:aui}{c:C}{a:Int}{dd bv:ada}(h:bo w b cur t)(hc:∀j,j<12→cur[o+j]?=(jk c a dd bv)[j]?):QK w b o c a dd bv:=by
 have key:∀j,j<12→w.cell? ⟨b,o+j,none⟩=(jk c a dd bv)[j]?:=fun j cB=>by rw[←hc j cB];simp[World.cell?,h]
 exact⟨key 0 (by decide),key 1 (by decide),key 2 (by decide),key 3 (by decide),key 4 (by decide),key 5 (by decide),key 6 (by decide),key 7 (by decide),key 8 (by decide),key 9 (by decide),key 10 (by decide),key 11 (by decide)⟩
def BY(o8:agv)(o:Nat)(l:List ew):Prop:=∀i (hi:i<l.length),o8[o+i *4]?=some (I (l[i].a:Int))∧o8[o+i *4+1]?=some (ai l[i].ext)∧o8[o+i *4+2]?=some (ai l[i].first)∧o8[o+i *4+3]?=some (au ⟨l[i].t.toArray⟩)
theorem aqq(l:List ew)(i:Nat)(hi:i<l.length):(rI l)[i *4]?=some (I (l[i].a:Int))∧(rI l)[i *4+1]?=some (ai l[i].ext)∧(rI l)[i *4+2]?=some (ai l[i].first)∧(rI l)[i *4+3]?=some (au ⟨l[i].t.toArray⟩):=by
 induction l generalizing i with
 |nil=>exact absurd hi (l7 _)
 |cons x l dc=>
  have e:rI (x::l)=[I (x.a:Int),ai x.ext,ai x.first,au ⟨x.t.toArray⟩] ++rI l:=rfl;cases i with
  |zero=>rw[e];exact⟨rfl,rfl,rfl,rfl⟩
  |succ i=>
   obtain⟨aQ,aa,ah,ax⟩:=dc i (BC hi);rw[e];refine⟨?_,?_,?_,?_⟩
   ·rw[show (i+1) *4=i *4+1+1+1+1 by omega];exact aQ
   ·rw[show (i+1) *4+1=(i *4+1)+1+1+1+1 by omega];exact aa
   ·rw[show (i+1) *4+2=(i *4+2)+1+1+1+1 by omega];exact ah
   ·rw[show (i+1) *4+3=(i *4+3)+1+1+1+1 by omega];exact ax
variable{l ws:List ew}
theorem aqr{v:ada}(h:w.ownsRow B 153 4 v l.length (rI l)):∃p c g o8,v=ad p l.length c∧l.length≤c∧c≤maxLen∧(0<l.length→p=some ⟨g,0,none⟩∧bo w g o8 153∧BY o8 0 l):=by
 rcases h.2 with ⟨aa,ah⟩|⟨g,c,cur,aa,ah,ax,bg,b7,c0,ea⟩
 ·exact⟨none,0,0, #[],by rw[aa,ah],by omega,by decide,fun aj=>absurd aj (by omega)⟩
 ·refine⟨_,c,g,cur,aa,bg,b7,fun aj=>⟨rfl,ax,fun i hi=>?_⟩⟩;have key:∀j,j<l.length *4→cur[j]?=(rI l)[j]?:=(fun j cB=>by rw[←ea,I1 cB,zJ]);obtain⟨g0,g1,g2,g3⟩:=aqq l i hi;rw[lk,key _ (by omega),key _ (by omega),key _ (by omega),key _ (by omega)];exact⟨g0,g1,g2,g3⟩
theorem BY.aqs{g o:Nat}{o8:agv}{m:List ew}(h:BY o8 o l)(aX:bo w g o8 153)(hm:m <+:l):MF w (some (ag g o)) m:=by intro _;refine⟨g,o,rfl,(Array.getElem?_eq_some_iff.1 aX).1,fun i hi=>?_⟩;obtain⟨r,rfl⟩:=hm;obtain⟨aQ,aa,ah,ax⟩:=h i (by rw[gh];omega);rw[Km hi] at aQ aa ah ax;simp only[World.cell?,aX];exact⟨aQ,aa,ah,ax⟩
theorem BY.drop{o8:agv}{o k:Nat}{l:List ew}(h:BY o8 o l):BY o8 (o+k *4) (l.drop k):=by intro i hi;rw[gZ] at hi;obtain⟨aQ,aa,ah,ax⟩:=h (k+i) (by omega);rw[Oi,show o+k *4+i *4=o+(k+i) *4 by omega];exact⟨aQ,aa,ah,ax⟩
theorem aqt{s s':iB}{c:UInt8}(h:sj s c i=.ok s'):s'.words.length≤s.words.length+1∧∀M,(∀x∈s.words,x.t.length≤M)→s.text.length≤M→(∀x∈s'.words,x.t.length≤M+1)∧s'.text.length≤M+1:=by
 have same:∀{u:iB},(.ok u:Except Nat iB)=.ok s'→u.words=s.words→u.text.length≤s.text.length+1→s'.words.length≤s.words.length+1∧∀M,(∀x∈s.words,x.t.length≤M)→s.text.length≤M→(∀x∈s'.words,x.t.length≤M+1)∧s'.text.length≤M+1:=by intro u hu hw bH;injection hu with hu;subst hu;rw[hw];exact⟨l4 _,fun M aa ah=>⟨fun x hx=>IP (aa x hx),by omega⟩⟩
 have add:∀{u:iB},xM u c=.ok s'→u.words=s.words→u.text=s.text→s'.words.length≤s.words.length+1∧∀M,(∀x∈s.words,x.t.length≤M)→s.text.length≤M→(∀x∈s'.words,x.t.length≤M+1)∧s'.text.length≤M+1:=by
  intro u hu hw bH;unfold xM at hu;split at hu
  ·cases hu
  ·exact same hu hw (by show (u.text++[c]).length≤_;rw[bH];simp)
 unfold sj at h;split at h
 ·exact same h rfl (by omega)
 ·split at h
  ·cases h
  ·split at h
   ·unfold He at h;split at h
    ·cases h
    ·injection h with h;subst h;refine⟨by simp,fun M aa ah=>⟨fun x hx=>?_,by simp⟩⟩;rcases List.mem_append.1 hx with hx|hx
     ·exact IP (aa x hx)
     ·rw[List.mem_singleton.1 hx];exact IP ah
   ·split at h
    ·split at h
     ·cases h
     ·exact same h rfl (by show s.text.length≤_;omega)
    ·split at h
     ·split at h
      ·cases h
      ·exact add h rfl rfl
     ·exact add h rfl rfl
theorem ad3:∀{l:bk} {k:Nat} {s s':iB},jG l k s=.ok s'→s'.words.length≤s.words.length+l.length∧∀M,(∀x∈s.words,x.t.length≤M)→s.text.length≤M→(∀x∈s'.words,x.t.length≤M+l.length)
 |[],k,s,s',h=>by injection h with h;subst h;exact⟨bD _,fun M aa ah=>aa⟩
 |c::l,k,s,s',h=>by
  unfold jG at h;split at h
  ·cases h
  ·rename_i u hu;obtain⟨g1,g2⟩:=aqt hu;obtain⟨aN,aR⟩:=ad3 h;refine⟨by rw[fK];omega,fun M aa ah=>?_⟩;obtain⟨f1,f2⟩:=g2 M aa ah;intro x hx;have:=aR (M+1) f1 f2 x hx;rw[fK];omega
variable{t s:bk}
theorem aqu(h:uI s=(ws,0,0)):ws.length≤1000000∧∀x∈ws,x.t.length≤1000000:=by
 unfold uI at h;split at h
 ·simp at h
 ·rename_i hs;split at h
  ·rename_i i e aX;simp only[gA] at h;rw[←h.1];exact⟨eC _,fun x hx=>absurd hx (by simp)⟩
  ·rename_i st aX;split at h
   ·simp at h
   ·simp only[gA] at h;obtain⟨aN,aR⟩:=ad3 aX;have cA:=aR 0 (fun x hx=>absurd hx (by simp[xL])) (bD _);rw[←h.1];have hN:st.words.length≤0+s.length:=aN;exact⟨by omega,fun x hx=>by have:=cA x hx;omega⟩
theorem aqv(h:wy t=.error n):n≠0:=by
 have MJ:∀{t:bk} {cs:List C} {n:Nat},rp t cs=.error n→n≠0:=by
  intro t cs n h;unfold rp at h;split at h
  ·cases h
  ·split at h
   ·cases h;decide
   ·cases h
 have Iv:∀{t:bk} {m:Int} {n:Nat},uK t m=.error n→n≠0:=by
  intro t m n h;unfold uK at h;split at h
  ·cases h
  ·exact MJ h
 unfold wy at h
 repeat' split at h
 all_goals first|exact Iv h|exact MJ h|(cases h;decide)|cases h
theorem aqw{l:List C}(h:wy t=.ok l):l.length≤2:=by
 have MJ:∀{t:bk} {cs l:List C},rp t cs=.ok l→cs.length≤1→l.length≤2:=by
  intro t cs l h hc;unfold rp at h;split at h
  ·cases h;exact l4 1
  ·split at h
   ·cases h
   ·cases h;rw[gh];simp only[I2];omega
 have Iv:∀{t:bk} {m:Int} {l:List C},uK t m=.ok l→l.length≤2:=by
  intro t m l h;unfold uK at h;split at h
  ·cases h;exact l4 1
  ·exact MJ h (bD _)
 unfold wy at h
 repeat' split at h
 all_goals first|exact Iv h|exact MJ h (by decide)|(cases h;exact l4 1)|cases h
theorem aqx{w:ew}(h:zt w ws=.error (i,n)):n≠0:=by
 unfold zt at h;split at h
 ·split at h
  ·rename_i ah;cases h;exact adV ah
  ·split at h
   ·cases h
   ·cases h;decide
 ·split at h
  ·cases h;decide
  ·split at h;split at h
   ·rename_i aQ;cases h;exact aQ
   ·cases h
theorem aqy{w:ew}{l:List C}(h:zt w ws=.ok l):l.length≤2:=by
 unfold zt at h;split at h
 ·split at h
  ·cases h
  ·split at h
   ·cases h;exact l4 1
   ·cases h
 ·split at h
  ·cases h
  ·split at h;split at h
   ·cases h
   ·cases h;exact l4 1
theorem aqz{w:ew}(h:wz w ws=.error (i,n)):n≠0:=by
 unfold wz at h;split at h
 ·exact aqx h
 ·split at h
  ·rename_i ah;cases h;exact aqv ah
  ·cases h
theorem aqA{w:ew}{l:List C}(h:wz w ws=.ok l):l.length≤2:=by
 unfold wz at h;split at h
 ·exact aqy h
 ·split at h
  ·cases h
  ·rename_i ah;cases h;exact aqw ah
theorem aqB(l:List ew):l.takeWhile (fun x=>!x.first)=l.take (l.takeWhile fun x=>!x.first).length:=by
 induction l with
 |nil=>rfl
 |cons a l dc=>
  by_cases h:a.first=true
  ·rw[ayA (by simp[h])];rfl
  ·rw[IU (by simp[h]),fK,List.take_succ_cons,←dc]
theorem aqC(l:List ew):l.dropWhile (fun x=>!x.first)=l.drop (l.takeWhile fun x=>!x.first).length:=by
 induction l with
 |nil=>rfl
 |cons a l dc=>
  by_cases h:a.first=true
  ·rw[ayA (by simp[h]),List.dropWhile_cons_of_neg (by simp[h])];rfl
  ·rw[IU (by simp[h]),List.dropWhile_cons_of_pos (by simp[h]),fK,Bv,←dc]
theorem aqD{k:Nat}(ab:k<(l.takeWhile fun x=>!x.first).length):∃h:k<l.length,l[k].first=false:=by
 induction l generalizing k with
 |nil=>exact absurd ab (by simp)
 |cons a l dc=>
  by_cases h:a.first=true
  ·rw[ayA (by simp[h])] at ab;exact absurd ab (by simp)
  ·rw[IU (by simp[h])] at ab;cases k with
   |zero=>exact⟨EU _,by simpa using h⟩
   |succ k=>
    obtain⟨aa,ah⟩:=dc (BC ab);exact⟨Nat.succ_lt_succ aa,ah⟩
theorem aqE(h:(l.takeWhile fun x=>!x.first).length<l.length):l[(l.takeWhile fun x=>!x.first).length].first=true:=by
 induction l with
 |nil=>exact absurd h (by simp)
 |cons a l dc=>
  by_cases hf:a.first=true
  ·simp only[ayA (p:=fun x:ew=>!x.first) (a:=a) (l:=l) (by simp[hf]),th,IV];exact hf
  ·simp only[IU (p:=fun x:ew=>!x.first) (a:=a) (l:=l) (by simp[hf]),fK] at h⊢;exact dc (BC h)
theorem aqF(l:List ew):(l.takeWhile fun x=>!x.first).length≤l.length:=(adC _).length_le
def Wl:Except (Nat×Nat) (List (Nat×C))→List (Nat×C)× Nat×Nat
 |.error (i,e)=>([],i,e)
 |.ok l=>(l,0,0)
theorem aqG(f:Nat)(w:ew)(ws:List ew)(acc:List (Nat×C)):tw (f+1) (w::ws) acc=match wz w (ws.takeWhile fun x=>!x.first) with
 |.error e=>.error e
 |.ok l=>tw f (ws.dropWhile fun x=>!x.first) (acc++l.map fun c=>(w.a,c)):=rfl
theorem SD(f:Nat)(acc:List (Nat×C)):tw f [] acc=.ok acc:=by cases f<;>rfl
theorem aqH(h:uI s=(ws,0,0)):ks s=Wl (tw ws.length ws []):=by unfold ks;rw[h];simp only[];rw[aK (fun h=>h rfl)];cases tw ws.length ws []<;>rfl
theorem aqI{e:Nat}(h:uI s=(ws,i,e))(he:e≠0):ks s=([],i,e):=by unfold ks;rw[h];simp only[];rw[aT he]
end jj
namespace dE
open Go.RowKit el
open cf (C eI)
open jj (kd jk MI QK QL fa hB)
theorem ad4{s:Nat}{u:Int}:∀{l:List Int} {i e:Nat},qG s u l i=.error e→e≠0
 |[],i,e,h=>by cases h
 |n::l,i,e,h=>by
  unfold qG at h;split at h
  ·cases h;decide
  ·split at h
   ·cases h;decide
   ·split at h
    ·cases h;decide
    ·split at h
     ·rename_i lE he;injection h with h;exact h ▸ ad4 he
     ·cases h
theorem ad5:∀{l:List Int} {e:Nat},Od l=.error e→e≠0
 |[],e,h=>by cases h
 |n::l,e,h=>by
  unfold Od at h;split at h
  ·rename_i hn;injection h with h;exact h ▸ hn
  ·split at h
   ·rename_i lE he;injection h with h;exact h ▸ ad5 he
   ·cases h
theorem ad6{vars:List (Int×Int)}:∀{l:List (List (Int×Int))} {e:Nat},Oc vars l=.error e→e≠0
 |[],e,h=>by cases h
 |a::l,e,h=>by
  unfold Oc at h;split at h
  ·rename_i hn;injection h with h;exact h ▸ hn
  ·split at h
   ·rename_i lE he;injection h with h;exact h ▸ ad6 he
   ·cases h
theorem QM{u:Int}:∀{l:List eI} {vars:List (Int×Int)} {p:bh} {e:Nat},Hi u l vars p=.error e→e≠0
 |[],vars,p,e,h=>by cases h
 |b::l,vars,p,e,h=>by
  unfold Hi at h;split at h
  ·rename_i lE he;injection h with h;exact h ▸ ad6 he
  ·split at h
   ·exact QM h
   ·split at h
    ·split at h
     ·rename_i hn;injection h with h;exact h ▸ hn
     ·split at h
      ·cases h;decide
      ·exact QM h
    ·exact QM h
theorem aqJ{bj:bk}{c7:List Int}{u:Int}{ms:List ma}{e:Nat}(h:oK bj c7 u ms=.error e):e≠0:=by
 unfold oK at h;split at h
 ·simp only at h
  repeat' split at h
  all_goals first
   |(cases h;done)
   |(cases h;decide)
   |(rename_i he;cases h;exact ad4 he)
 ·unfold YQ at h;split at h
  ·cases h;decide
  ·split at h
   ·rename_i lE he;injection h with h;exact h ▸ ad5 he
   ·split at h
    ·rename_i lE he;injection h with h;subst h;unfold YP at he;split at he
     ·cases he;decide
     ·split at he
      ·rename_i aR pj;injection he with he;exact he ▸ QM pj
      ·cases he
    ·cases h
variable{p:cG}
theorem aqK:vA (zv p):=by
 intro k h;unfold zv at h;split at h
 ·cases h;decide
 ·split at h
  ·cases h;decide
  ·split at h
   ·cases h
   ·exact acP _ h
variable{c:C}
theorem aqL:vA (rr p c):=by
 intro k h;unfold rr at h;split at h
 ·cases h;decide
 split at h
 ·cases h;decide
 split at h
 ·cases h;decide
 split at h
 ·cases h;decide
 split at h
 ·cases h;decide
 split at h
 ·rename_i e he;injection h with h;subst h;split at he
  ·exact acT _ he
  ·split at he
   ·exact acO _ he
   ·split at he
    ·exact acS _ he
    ·cases he;decide
 ·cases h
theorem aqM:vA (EF p c):=by
 intro k h;unfold EF at h;split at h
 ·split at h
  ·cases h;decide
  ·cases h
 split at h
 ·split at h
  ·cases h;decide
  ·cases h
 split at h
 ·split at h
  ·cases h;decide
  ·cases h
 unfold po at h;split at h
 ·cases h;decide
 split at h
 ·rename_i e he;injection h with h;exact h ▸ aqJ he
 ·cases h
theorem aqN:vA (AT p c):=by
 intro k h;unfold AT at h;split at h
 ·cases h
 split at h
 ·cases h
 split at h
 ·split at h
  ·cases h;decide
  ·cases h
 split at h
 ·cases h
 split at h
 ·cases h
 split at h
 ·cases h;decide
 ·cases h
theorem aqO(ab:Ml c.k):vA (lP p c):=by
 intro k h;unfold lP at h;by_cases aI:p.ended=true
 ·rw[aT aI] at h;cases h;decide
 rw[aK aI] at h;by_cases c2:p.region=true∧(c.k=6∨11≤c.k∧c.k≤17)
 ·rw[aT c2] at h;cases h;decide
 rw[aK c2] at h;by_cases c3:c.k=1∨c.k=18
 ·rw[aT c3] at h;cases h
 rw[aK c3] at h;by_cases bF:c.k=8∨c.k=9∨c.k=10∨c.k=19
 ·rw[aT bF] at h;exact aqM _ h
 rw[aK bF] at h;by_cases c5:c.k=2∨c.k=4∨c.k=6∨c.k=15∨c.k=16∨c.k=17
 ·rw[aT c5] at h;exact aqN _ h
 rw[aK c5] at h;by_cases b1:c.k=3
 ·rw[aT b1] at h;by_cases b5:p.region=c.on
  ·rw[aT b5] at h;cases h;decide
  rw[aK b5] at h;by_cases bS:c.on=true
  ·rw[aT bS] at h;cases h
  ·rw[aK bS] at h;exact aqK _ h
 rw[aK b1] at h;by_cases b5:c.k=7
 ·rw[aT b5] at h;exact aqL _ h
 rw[aK b5,aK (by omega),aK (by omega),aK (by omega),aK (by omega),aT (by omega)] at h;by_cases bS:p.region=true∨p.levels≠[]
 ·rw[aT bS] at h;cases h;decide
 ·rw[aK bS] at h;cases h
structure MK(c:C):Prop where
 k:Ml c.k
 nl:c.cj.length≤1000000000
 vC:∀x∈c.cj,-4611686018427387904≤x∧x≤4611686018427387904
 st:∀i,(lH c.x c.y c.i c.j i).length≤1000000000
def ML(c:C):Prop:=c.k=10→∀(w0 Z:bTo) (B:Nat) (nq:aya) (qY:Nat) (u:Int) (ms:List ma),fa B Z nq c.cj→II w0 Z c.t c.cj nq qY u ms
abbrev Wm:Value:=.agg #[ai false,I 0,I 0,I 0,I 0,I 0,ay 0]
theorem aqP:(Tryz.prog.info? nT).map (fun i=>(i.zero,i.size,i.bytes))=some (some Wm,7,72):=by kernel_rfl
variable{w:bTo}
theorem eR.aqQ{w0:bTo}{P:Nat}{R:Jp}{m:Nat}{L:o3}{fu:Int}{cv ov:ada}{cx ox:bTv}(h:eR w0 P R m L fu cv ov cx ox p w):tS w0 ov p.top.fk w:=⟨R,ox,h.an,h.nV,h.jJ,fun k e ab=>(h.jK k ab).LF e,h.aY⟩
theorem ad7{B:Nat}{p:aya}{l:List (Nat×C)}(h:MI B w p l){j:Nat}(cB:j<l.length){a:Nat}(he:l[j]=(a,c)):∃b o bN bP ch a8,p=some ⟨b,o,none⟩∧b<w.heap.size∧QK w b (o+j *12) c (a:Int) (ad bN c.cj.length bP) (ad ch c.blocks.length a8)∧fa B w bN c.cj∧hB B w ch c.blocks:=by obtain⟨b,o,cur,rfl,_,aF,hc⟩:=h (by omega);obtain⟨q,r,k,m,aa,ah,ax⟩:=hc j cB;rw[he] at aa ah ax;exact⟨b,o,_,_,_,_,rfl,lt_of_heap aF,QL aF aa,ah,ax⟩
theorem aqR(w:bTo):(Instr.makeSlice 159 (I 1) (I 1)).run Tryz.prog w=.ok (bG w.heap.size 0 1 1) (w.alloc (aD (#[ai false,I 0,I 0,I 0,I 0,I 0,ay 0]) nT)):=by
 have h:=Ha (P:=Tryz.prog) 159 nT Wm 7 72 Tryz.underlying159 aqP 1 (by decide) (by decide) w;have e:madeCells Wm.cells (1 *7)= #[ai false,I 0,I 0,I 0,I 0,I 0,ay 0]:=by kernel_rfl
 rw[e] at h;exact h
theorem vI{y:bTo}{b i:Nat}{v:ada}(af:b<w.heap.size)(h:av w w y)(hc:aw w b i v):aw y b i v:=(h.cell (p:=⟨b,i,none⟩) af).trans hc
def MM(w:bTo)(r:List ec×Nat×Nat)(e:Ending)(w':bTo):Prop:=Below w.heap.size w w'∧∃q d,e=bb (.tuple #[ad q r.1.length d,I (r.2.1:Int),I (r.2.2:Int)])∧iD (fun k=>w.heap.size≤k) w' q r.1
def Wn(l:List C)(j:Nat):Except Nat cG→Except (Nat×Nat) cG
 |.error e=>.error (j,e)
 |.ok q=>mA l (j+1) q
theorem aqS(c:C)(l:List C)(i:Nat)(p:cG):mA (c::l) i p=Wn l i (lP p c):=by unfold mA Wn;split<;>rename_i h<;>rw[h]
def QN(n:Nat):Except (Nat×Nat) cG→List ec×Nat×Nat
 |.error (i,e)=>([],i,e)
 |.ok p=>if p.ended=false then ([],n,11) else (p.top.fk,0,0)
theorem aqT(l:List C)(b:Int):xR l b=QN l.length (mA l 0 (tz b)):=by unfold xR QN;split<;>rename_i h<;>rw[h]
theorem aqU(dr:Int):Inv 0 (tz dr):=by
 refine⟨⟨fun v aS=>?_,fun k a ha=>?_,rk _,by show (0:Int)≤100000;decide,by show min (max dr 0) 100000≤100000;omega,eC _,?_,eC _⟩,bD _,fun c hc=>absurd hc (by simp[tz]),fun c hc=>absurd hc (by simp[tz]),bD _,rfl⟩
 ·have:v=Kj:=(by simpa[tz] using aS);subst this;exact⟨rk _,rk _,by decide,rk _,by decide,by decide,by decide,by decide,by decide⟩
 ·cases ha
 ·exact⟨by show (-536870912:Int)≤0;decide,by show (0:Int)≤536870912;decide,by show (-536870912:Int)≤0;decide,by show (0:Int)≤536870912;decide⟩
theorem aqV(B:Nat)(l:List (Nat×C))(pp:aya)(n cap:Nat)(hn:n=l.length)(dr:Int)(w:bTo)(H:J (MI B w pp l))(hlen:l.length≤500000)(ff:∀x∈l,MK x.2)(uF:∀x∈l,ML x.2)(res:List ec×Nat×Nat)(dk:J (xR (l.map Prod.snd) dr=res)):
  Calls Tryz.prog 40 #[ad pp n cap,I dr] w fun e w'=>MM w res e w':=by
 have a1:=U hn;have oG:n≤500000:=by rw[hn];exact hlen
 obtain⟨T,fh⟩:=az (mA (l.map Prod.snd) 0 (tz dr));have mN:J (QN n T=res):=by rw[←dk.out,←fh,aqT,hk,hn];exact rfl
 have dF:J (mA ((l.map Prod.snd).drop 0) 0 (tz dr)=T):=fh;have rW:=U ff;have aqW:=U uF;clear hn hlen dk fh ff uF;have kP:=@run_makeMap Tryz.prog;have uF:=fun x=>aqR x;go_enter Tryz.func40,Tryz.ntmps40;go_upto_region 2 with fail;obtain⟨W,a6⟩:=az (((w.alloc (.map #[] 0)).alloc (aD (#[ai false,I 0,I 0,I 0,I 0,I 0,ay 0]) nT)).alloc (aD (#[I 0,I 0,I 0,I 0,ai false,ai false,.map (some w.heap.size),I 0,ay 0,I 0,I 0,I 1,ai false,ai true,ai false,ai false,I 0,I 0,I 0,ai false,ay 0,ad (some (ag (w.heap.size+1) 0)) 1 1,I 0,I (min (max dr 0) 100000),ai false]) rP))
 have BO:J (lF w (w.heap.size+1+1) (tz dr) W):=by
  have s1:(w.alloc (.map #[] 0)).heap.size=w.heap.size+1:=qo _;have s2:((w.alloc (.map #[] 0)).alloc (aD (#[ai false,I 0,I 0,I 0,I 0,I 0,ay 0]) nT)).heap.size=w.heap.size+1+1:=(qo _).trans (gb (· +1) s1);have a':((w.alloc (.map #[] 0)).alloc (aD (#[ai false,I 0,I 0,I 0,I 0,I 0,ay 0]) nT)).heap[w.heap.size+1]?=some (.cells #[ai false,I 0,I 0,I 0,I 0,I 0,ay 0] nT):=(by have:=cw (w.alloc (.map #[] 0)) (aD (#[ai false,I 0,I 0,I 0,I 0,I 0,ay 0]) nT);rw[s1] at this;exact this);have a2:bo W (w.heap.size+1+1) (#[I 0,I 0,I 0,I 0,ai false,ai false,.map (some w.heap.size),I 0,ay 0,I 0,I 0,I 1,ai false,ai true,ai false,ai false,I 0,I 0,I 0,ai false,ay 0,ad (some (ag (w.heap.size+1) 0)) 1 1,I 0,I (min (max dr 0) 100000),ai false]) rP:=(by have:=cw ((w.alloc (.map #[] 0)).alloc (aD (#[ai false,I 0,I 0,I 0,I 0,I 0,ay 0]) nT)) (aD (#[I 0,I 0,I 0,I 0,ai false,ai false,.map (some w.heap.size),I 0,ay 0,I 0,I 0,I 1,ai false,ai true,ai false,ai false,I 0,I 0,I 0,ai false,ay 0,ad (some (ag (w.heap.size+1) 0)) 1 1,I 0,I (min (max dr 0) 100000),ai false]) rP);rw[s2,a6] at this;exact this);have a0:W.heap[w.heap.size]?=some (.map #[] 0):=(by rw[←a6];exact aO (aO (cw w _) (ba _ _)) (ba _ _));have a3:bo W (w.heap.size+1) (#[ai false,I 0,I 0,I 0,I 0,I 0,ay 0]) nT:=(by rw[←a6];exact aO a' (ba _ _));have af:av w w W:=by rw[←a6];exact (ba _ _).trans (((ba _ _).trans ((ba _ _).mono (ba _ _).size)).mono (ba _ _).size)
  exact ⟨fun _=>False,w.heap.size,⟨w.heap.size+1,1,1, [], [], ay 0, []⟩,0, ay 0, ay 0, [], [],{
   pl:=a2
   mp:=⟨#[],0,[],a0,rfl,fun k=>rfl⟩
   nU:=rfl
   e3:=⟨rfl,.inr ⟨w.heap.size+1,1,_,rfl,l4 _,a3,bD _,by decide,rfl,rfl⟩⟩
   jv:=⟨rfl,rfl⟩
   rR:=fun k ab=>by cases ab
   sR:=List.nodup_nil
   bj:=.nil _ _ _
   an:=⟨rfl,.inl ⟨rfl,rfl⟩⟩
   nV:=trivial
   fl:=⟨rfl,.inl ⟨rfl,rfl⟩⟩
   qT:=rfl
   jJ:=fun k h=>h.elim
   jK:=fun k h=>h.elim
   pK:=by omega
   rS:=bD _
   aY:=af}⟩
 rw[a6];clear a6 kP uF;obtain⟨P,h6⟩:=az (w.heap.size+1+1);rw[h6] at BO⊢;clear h6;have uU:J (Inv 0 (tz dr)):=aqU dr;go_wp2_with fail
 go_loopw [20] (fun i wr=>∃(j:Nat) (p:cG) (aG:bTo),aG=wr∧j≤n∧i=I j∧J (mA ((l.map Prod.snd).drop j) j p=T)∧J (Inv j p)∧J (lF w P p aG)) (fun i _=>n -(intOf i).toNat)
 case atStart=>exact⟨0,_,_,rfl,eC _,rfl,dF.out,uU.out,BO.out⟩
 case round=>
 obtain⟨j,p,aG,rfl,cB,rfl,QO,MN,DB⟩:=hrel;clear dF uU BO;have jM:J (av w w aG):=by obtain⟨_,_,_,_,_,_,_,_,h⟩:=DB.out;exact h.aY
 by_cases b0:j<n
 ·have fs:j<l.length:=(by rw[←a1.out];exact b0);have ib:(j:Int)<(n:Int):=(by omega);obtain⟨⟨a,⟨cN,cn,cC,db,bj,cx,aP,ci,qW,cj,hq⟩⟩,hc⟩:=az (l[j]);obtain⟨b,o,nq,qY,mr,Ao,rfl,lG,e0,Al,sU⟩:=ad7 H.out fs hc;have Gl:MK ⟨cN,cn,cC,db,bj,cx,aP,ci,qW,cj,hq⟩:=(by have h:=rW.out _ (j4 fs);rw[hc] at h;exact h);have ad8:ML ⟨cN,cn,cC,db,bj,cx,aP,ci,qW,cj,hq⟩:=(by have h:=aqW.out _ (j4 fs);rw[hc] at h;exact h);obtain⟨dj,eY⟩:=az cj.length;obtain⟨xc,Ar⟩:=az hq.length;have vE:(l.map Prod.snd).drop j=⟨cN,cn,cC,db,bj,cx,aP,ci,qW,cj,hq⟩::(l.map Prod.snd).drop (j+1):=(by rw[l3 (by rw[hk];exact fs),J6,hc]);obtain⟨mz,BZ⟩:=az (lP p ⟨cN,cn,cC,db,bj,cx,aP,ci,qW,cj,hq⟩);have lC:J (Wn ((l.map Prod.snd).drop (j+1)) j mz=T):=(by show _=_;rw[←QO.out,vE,aqS,BZ]);have Jb:∀x,av aG aG x→Calls Tryz.prog 64 #[dv P 0,.agg #[I (a:Int),I cN,I cn,I cC,ai db,au ⟨bj.toArray⟩,au ⟨cx.toArray⟩,au ⟨aP.toArray⟩,au ⟨ci.toArray⟩,au ⟨qW.toArray⟩,ad nq dj qY,ad mr xc Ao]] x fun e w'=>fm w P mz e w':=(by intro x hx;have z6:av w w x:=jM.out.trans (hx.mono jM.out.size);rw[←eY,←Ar];exact aoZ w P p B j ⟨cN,cn,cC,db,bj,cx,aP,ci,qW,cj,hq⟩ (a:Int) nq qY mr Ao x (DB.out.below hx) MN.out (by omega) (Al.below z6) Gl.nl Gl.vC (hB.mono sU (eC _)) Gl.st (fun h=>ad8 h w x B nq qY p.unit p.gd (Al.below z6)) Gl.k mz BZ);have Wo:=U Jb;have k8:J (∀k,mz=.error k→k≠0):=fun k ab=>aqO Gl.k k (BZ.trans ab);have fc:J (∀q,mz=.ok q→Inv (j+1) q):=fun q aC=>MN.out.do (by omega) Gl.k (BZ.trans aC);rw[eY,Ar] at e0;obtain⟨b6,bP,a8,oi,zF,Fs,Ft,Fu,Fv,wT,Fw,MO⟩:=e0;have d0:=vI lG jM.out b6;have d1:=vI lG jM.out bP;have d2:=vI lG jM.out a8;have d3:=vI lG jM.out oi;have d4:=vI lG jM.out zF;have d5:=vI lG jM.out Fs;have d6:=vI lG jM.out Ft;have d7:=vI lG jM.out Fu;have d8:=vI lG jM.out Fv;have d9:=vI lG jM.out wT;have d10:=vI lG jM.out Fw;have d11:=vI lG jM.out MO;clear vE BZ Jb Gl ad8 Al sU eY Ar b6 bP a8 oi zF Fs Ft Fu Fv wT Fw MO QO hc;obtain⟨ca,ad9⟩:∃ca:Int,(a:Int)=ca:=⟨_,rfl⟩;obtain⟨QP,aea⟩:∃s:aia,(⟨bj.toArray⟩:aia)=s:=⟨_,rfl⟩;obtain⟨QQ,aeb⟩:∃s:aia,(⟨cx.toArray⟩:aia)=s:=⟨_,rfl⟩;obtain⟨QR,aec⟩:∃s:aia,(⟨aP.toArray⟩:aia)=s:=⟨_,rfl⟩;obtain⟨QS,aed⟩:∃s:aia,(⟨ci.toArray⟩:aia)=s:=⟨_,rfl⟩;obtain⟨QT,aee⟩:∃s:aia,(⟨qW.toArray⟩:aia)=s:=⟨_,rfl⟩;rw[ad9] at d0 Wo;simp only[aea,aeb,aec,aed,aee] at d5 d6 d7 d8 d9 Wo;clear ad9 aea aeb aec aed aee;go_upto_region 5 with fail;have b8:J (av aG aG (aG.alloc (aD (#[I ca,I cN,I cn,I cC,ai db,au QP,au QQ,au QR,au QS,au QT,ad nq dj qY,ad mr xc Ao]) gP))):=ba _ _;have bq:J ((aG.alloc (aD (#[I ca,I cN,I cn,I cC,ai db,au QP,au QQ,au QR,au QS,au QT,ad nq dj qY,ad mr xc Ao]) gP)).heap[aG.heap.size]?=some (.cells #[I ca,I cN,I cn,I cC,ai db,au QP,au QQ,au QR,au QS,au QT,ad nq dj qY,ad mr xc Ao] gP)):=cw _ _;generalize aG.alloc (.cells #[I ca,I cN,I cn,I cC,ai db,au QP,au QQ,au QR,au QS,au QT,ad nq dj qY,ad mr xc Ao] gP)=gn at b8 bq⊢;clear d0 d1 d2 d3 d4 d5 d6 d7 d8 d9 d10 d11;have d0:=cell_of (i:=0) bq.out rfl;have d1:=cell_of (i:=1) bq.out rfl;have d2:=cell_of (i:=2) bq.out rfl;have d3:=cell_of (i:=3) bq.out rfl;have d4:=cell_of (i:=4) bq.out rfl;have d5:=cell_of (i:=5) bq.out rfl;have d6:=cell_of (i:=6) bq.out rfl;have d7:=cell_of (i:=7) bq.out rfl;have d8:=cell_of (i:=8) bq.out rfl;have d9:=cell_of (i:=9) bq.out rfl;have d10:=cell_of (i:=10) bq.out rfl;have d11:=cell_of (i:=11) bq.out rfl;go_wp2_with fail;go_fit (Wo.out _ b8.out);intro e cX kE;clear d0 d1 d2 d3 d4 d5 d6 d7 d8 d9 d10 d11 bq b8 DB;cases mz with
  |error k=>
   obtain rfl:=kE.err rfl;have im:=U kE.1;have aE:J (QN n (.error (j,k))=res):=(by rw[←mN.out,←lC.out];exact rfl);clear kE;have nR:k≠0:=k8.out k rfl;have eA:(((k:Int) !=0):Bool)=true:=(by rw[tt];omega);go_wp2_with fail;go_ret3;rw[←aE.out];exact⟨im.out,none,0,rfl,.nil _ _ _⟩
  |ok q=>
   obtain⟨rfl,vB⟩:=kE.get rfl;have OG:=U vB;have kD:J (mA ((l.map Prod.snd).drop (j+1)) (j+1) q=T):=lC.out;have Qt:=U (fc.out q rfl);clear kE vB;go_wp2_with fail;go_round<;>first|exact⟨j+1,q,_,rfl,by omega,by go_num,kD.out,Qt.out,OG.out⟩|(simp[intOf]<;>omega)
 ·have iH:j=n:=(by omega);subst iH;have aef: .ok p=T:=(by have h:=QO.out;rw[n7 (by rw[hk,a1.out];exact bD _)] at h;exact h);obtain⟨R,m,L,fu,cv,ov,cx,ox,h⟩:=DB.out;have H1:=U h;obtain⟨lf,IM⟩:=az p.ended;have aE:J ((if lf=false then ([],j,11) else (p.top.fk,0,0))=res):=(by rw[←mN.out,←aef,←IM];exact rfl);have IN:aw aG P 24 (ai lf):=(by rw[←IM];exact cell_of (i:=24) h.pl rfl);have Ac:p.levels.length=0:=(by rw[MN.out.e3];rfl);have FL:aw aG L.b 6 ov:=(by have fG:=(h.UR Ac 6 (by decide)).1;rw[Eg,lk] at fG;exact fG);have mS:L.n=1:=(by rw[h.nU,Ac]);obtain⟨eL,lY,lc,ix,hs,fj,bz⟩:=L;have FL:aw aG eL 6 ov:=FL;have mS:lY=1:=mS;subst mS;have LG:aw aG P 21 (ad (some (ag eL 0)) 1 lc):=cell_of (i:=21) h.pl rfl;have sH:p.top.fk.length≤1000000:=MN.out.bn.an;clear Ac;clear h IM aef QO MN mN;cases lf with
  |false=>
   have e9:J (([],j,11)=res):=aE.out;go_wp2_with fail;go_ret3;rw[←e9.out];exact⟨jM.out,none,0,rfl,.nil _ _ _⟩
  |true=>
   have e9:J ((p.top.fk,0,0)=res):=aE.out;obtain⟨q,d,QU,FV⟩:=iD.own (R:=fun k=>w.heap.size≤k) H1.out.aqQ (by show _≤1000000000;omega) (fun k h=>h);subst QU;have vl:=U FV;clear FV H1;go_wp2_with fail;go_ret3;rw[←e9.out];exact⟨jM.out,q,d,rfl,vl.out⟩
end dE
namespace jj
open Go.RowKit pH kG qk Mem rG cf
theorem Wp{w:bTo}{B:Nat}{e:aui}{v:ada}{n:Nat}{l:bk}(h:w.ownsRow B e 1 v n (sI l)):∃p cap,v=ad p n cap∧kc w p l∧n=l.length:=by
 have aj:n=l.length:=by have:=h.1;rw[alq] at this;omega
 rcases h.2 with ⟨rfl,rfl⟩|⟨g,cap,cur,rfl,_,aX,_,_,_,bH⟩
 ·refine⟨_,_,rfl,?_,aj⟩;obtain rfl:l=[]:=qz aj.symm;exact kc.nil _ _
 ·refine⟨_,_,rfl,kc.of fun i hi=>?_,aj⟩;rw[lk,Ge w g i cur e (0,0) aX];have:=alv l i hi;rw[←bH,ti,aT (by omega)] at this;simpa using this
theorem aeg{w:bTo}{b:Nat}{v0 v1 v2 v3:ada}{t:aui}(h:bo w b (#[v0,v1,v2,v3]) t):(aw w b 0 v0∧aw w b 1 v1∧aw w b 2 v2∧aw w b 3 v3)∧(∀i,w.frozen? ⟨b,i,none⟩=false):=by refine⟨⟨?_,?_,?_,?_⟩,fun i=>?_⟩<;>simp[World.cell?,World.frozen?,h]
theorem aeh{s:iB}(h:wW s)(hn:s.words.length<20000)(x:ew){i:Nat}(hi:i≤s.words.length+1):wW {s with words:=s.words++[x],inner:=i,text:=[]}:=
 ⟨by simp;omega,fun h=>absurd rfl h,by simp,by simp;omega⟩
theorem aqX(B R:Nat)(s:iB)(cz iS:ada)(w:bTo)(bJ:B≤w.heap.size)(H:J (hv B R cz iS s w))(hf:wW s)(res:Except Nat iB)(dk:J (He s=res)):
  Calls Tryz.prog 128 #[dv R 0] w (abb B R w res):=by
 have fp:=U bJ;have aE:=U hf;clear hf;obtain⟨aJ,aI,c2,c3,bF⟩:=H.out.cells;have oc:=H.out.ef;obtain⟨p,cap,rfl,nu,sS⟩:=Wp H.out.tx;have aj:=dk.out;unfold He at aj;by_cases bH:s.text=[]
 ·rw[aT bH] at aj;have br:J (.error 2=res):=aj;have aQ:s.text.length=0:=(by rw[bH];rfl);rw[aQ] at aI;clear aj dk sS nu bH;go_enter Tryz.func128,Tryz.ntmps128;go_wp2_with fail;go_ret;rw[←br.out];exact⟨Below.refl _ _,rfl⟩
 ·rw[aK bH] at aj;have br:=U aj;have Df:0<s.text.length:=List.length_pos_iff.2 bH;have hne:((s.text.length:Int)==0)=false:=(by simp;omega);have E4:=H.out.lt;have d0:(w.alloc (aD (#[I 0,ai false,ai false,au ⟨#[]⟩]) 153)).cell? ⟨R,0,none⟩=_:=(H.out.below ((Below.refl _ _).alloc (bD _) _)).cells.1;have d1:(w.alloc (aD (#[I 0,ai false,ai false,au ⟨#[]⟩]) 153)).cell? ⟨R,1,none⟩=_:=(H.out.below ((Below.refl _ _).alloc (bD _) _)).cells.2.1;have d2:(w.alloc (aD (#[I 0,ai false,ai false,au ⟨#[]⟩]) 153)).cell? ⟨R,2,none⟩=_:=(H.out.below ((Below.refl _ _).alloc (bD _) _)).cells.2.2.1;have d3:(w.alloc (aD (#[I 0,ai false,ai false,au ⟨#[]⟩]) 153)).cell? ⟨R,3,none⟩=_:=(H.out.below ((Below.refl _ _).alloc (bD _) _)).cells.2.2.2.1;have d4:(w.alloc (aD (#[I 0,ai false,ai false,au ⟨#[]⟩]) 153)).cell? ⟨R,4,none⟩=_:=(H.out.below ((Below.refl _ _).alloc (bD _) _)).cells.2.2.2.2;have Va:=kc.str (P:=Tryz.prog) (w:=(w.alloc (aD (#[I 0,ai false,ai false,au ⟨#[]⟩]) 153)).drew) (p:=p) (l:=s.text) (nu.below (((Below.refl _ _).alloc (bD _) _).drew)) 52 5 9 Ja Tryz.underlying5 Tryz.underlying9 s.text.length cap rfl;have pM:=kc.str (P:=Tryz.prog) (w:=w.drew) (p:=p) (l:=s.text) nu 52 5 9 Ja Tryz.underlying5 Tryz.underlying9 s.text.length cap rfl;clear aj dk sS;go_enter Tryz.func128,Tryz.ntmps128;go_upto_region 3 with fail;have pO:((s.inner:Int)==0)=decide (s.inner=0):=(by rw[xO];simp);have bB:J (hv B R cz (ad p s.text.length cap) s ((w.alloc (aD (#[I (s.a:Int),ai s.group,ai (decide (s.inner=0)),au ⟨s.text.toArray⟩]) 153)).drew)):=H.out.below (((Below.refl _ _).alloc (bD _) _).drew);have cF:J (((w.alloc (aD (#[I (s.a:Int),ai s.group,ai (decide (s.inner=0)),au ⟨s.text.toArray⟩]) 153)).drew).heap[w.heap.size]?=some (.cells #[I (s.a:Int),ai s.group,ai (decide (s.inner=0)),au ⟨s.text.toArray⟩] 153)):=gi w _;have cm:J (av w w ((w.alloc (aD (#[I (s.a:Int),ai s.group,ai (decide (s.inner=0)),au ⟨s.text.toArray⟩]) 153)).drew)):=((Below.refl _ _).alloc (bD _) _).drew;have acd:(s.inner:Int)≤20000:=(by have:=aE.out.n0;have:=aE.out.n4;omega);go_region
  all_goals
   clear aJ aI c2 c3 bF d0 d1 d2 d3 d4 pM Va nu oc E4 pO;generalize (w.alloc (aD (#[I (s.a:Int),ai s.group,ai (decide (s.inner=0)),au ⟨s.text.toArray⟩]) 153)).drew=W at bB cF cm⊢;obtain⟨_,_,_,c3,bF⟩:=bB.out.cells;have f4:=bB.out.ef 4;by_cases aX:s.group=true
   ·rw[aX] at c3;have fv:=U aX;clear aX;have jS:J (hv B R cz (ad p s.text.length cap) {s with inner:=s.inner+1} (W.setCell (ag R 4) (I ((s.inner:Int)+1)))):=bB.out.rz (s.inner+1) _ (by omega);have vu:J ((W.setCell (ag R 4) (I ((s.inner:Int)+1))).heap[w.heap.size]?=some (.cells #[I (s.a:Int),ai s.group,ai (decide (s.inner=0)),au ⟨s.text.toArray⟩] 153)):=(jZ _ _ _ _ (by show w.heap.size≠R;have:=H.out.lt;omega)).trans cF.out;have ek:J (Below B w (W.setCell (ag R 4) (I ((s.inner:Int)+1)))):=(cm.out.mono fp.out).setCell (p:=⟨R,4,none⟩) H.out.ge _;go_upto_region 6 with fail;clear bB cF cm c3 bF f4;generalize W.setCell (ag R 4) (I ((s.inner:Int)+1))=gn at jS vu ek⊢;obtain⟨i0,hi,cU,cW,dz⟩:=info_parts abc;have bY:=U (And.intro hi (And.intro cU (And.intro cW dz)));clear hi cU cW dz;obtain⟨⟨g0,g1,g2,g3⟩,_⟩:=aeg vu.out;obtain⟨aJ,aI,c2,c3,bF⟩:=jS.out.cells;have f0:=jS.out.ef 0;have f1:=jS.out.ef 1;have ad0:R<gn.heap.size:=jS.out.lt;have xg:w.heap.size<gn.heap.size:=(Array.getElem?_eq_some_iff.1 vu.out).1;obtain⟨j',ka,rfl⟩:=ik jS.out.ws;have kI:s.words.length<20000:=aE.out.dK bH;have oG:(Value.slice j' s.words.length ka).ownBlock≠some R:=oR jS.out.ws jS.out.obj (by decide)
    go_region_law (first|((refine x5 _ (by rfl) _ _ _ (by rfl) B 153 i0 (.agg #[I 0,ai false,ai false,au ⟨#[]⟩]) 4 32 Tryz.underlying149 bY.out.1 bY.out.2.1 bY.out.2.2.1 bY.out.2.2.2 rfl (by omega) (ad j' s.words.length ka) s.words.length _ (by rfl) ((jS.out.ws.alloc _).drew) (ag gn.heap.size 0) 1 1 [I (s.a:Int),ai s.group,ai (decide (s.inner=0)),au ⟨s.text.toArray⟩] (by rfl) (by rfl) (jW (cs:= #[I (s.a:Int),ai s.group,ai (decide (s.inner=0)),au ⟨s.text.toArray⟩]) (t:=153) (fr:=(0,0)) (gi gn _)) (by simp[Value.oneCell']) (by omega) (by unfold maxLen;omega) (by omega) (by have:=fp.out;have:=ek.out.size;simp;omega) (gn.heap.size+1) (by simp) ?_;intro gg il cb cM dW e0 h5;have e8:=(jS.out.push (x:=⟨s.a,s.group,decide (s.inner=0),s.text⟩) (((Below.refl _ _).alloc (bD _) _).drew) dW cM (dX fp.out ek.out.size)).2.2;have bN:aw cb R 0 _:=Ge cb R 0 _ _ (0,0) e8;have ch:cb.frozen? ⟨R,0,none⟩=false:=by simp[World.frozen?,e8]))|fail)
    all_goals
     obtain⟨hm,lG,_⟩:=jS.out.push (x:=⟨s.a,s.group,decide (s.inner=0),s.text⟩) (((Below.refl _ _).alloc (bD _) _).drew) dW cM (dX fp.out ek.out.size);have a7:=U (And.intro hm (ek.out.trans lG));clear hm lG cM dW e0 h5 e8 bN ch g0 g1 g2 g3 aJ aI c2 c3 bF f0 f1;generalize cb.setCell (ag R 0) (ad (some (ag gg 0)) (s.words.length+1) il)=hQ at a7⊢;obtain⟨aJ,aI,c2,c3,bF⟩:=a7.out.1.cells;have f1:=a7.out.1.ef 1;have hl:=a7.out.1.clear rfl;have bm:J (hv B R (bG gg 0 (s.words.length+1) il) (ad p 0 cap) {s with words:=s.words++[⟨s.a,s.group,decide (s.inner=0),s.text⟩],inner:=s.inner+1,text:=[]} (hQ.setCell (ag R 1) (ad p 0 cap))∧Below B w (hQ.setCell (ag R 1) (ad p 0 cap))):=⟨hl,a7.out.2.setCell H.out.ge _⟩;clear hl;go_wp2_with fail;go_ret;rw[←br.out];simp only[fv.out,uR];have uT:=bm.out.1;have a6:=aeh aE.out kI ⟨s.a,s.group,decide (s.inner=0),s.text⟩ (i:=s.inner+1) (by show s.inner+1≤_;have:=aE.out.n4;omega);rw[fv.out] at uT a6;exact⟨bm.out.2,rfl,a6,_,_,uT⟩
   ·rw[Bool.eq_false_iff.2 aX] at c3;have fv:J (s.group=false):=Bool.eq_false_iff.2 aX;clear aX;have jS:J (hv B R cz (ad p s.text.length cap) {s with inner:=s.inner} W):=bB.out;have vu:=cF;have ek:J (Below B w W):=cm.out.mono fp.out;go_upto_region 6 with fail;clear bB cF cm c3 bF f4;generalize W=gn at jS vu ek⊢;obtain⟨i0,hi,cU,cW,dz⟩:=info_parts abc;have bY:=U (And.intro hi (And.intro cU (And.intro cW dz)));clear hi cU cW dz;obtain⟨⟨g0,g1,g2,g3⟩,_⟩:=aeg vu.out;obtain⟨aJ,aI,c2,c3,bF⟩:=jS.out.cells;have f0:=jS.out.ef 0;have f1:=jS.out.ef 1;have ad0:R<gn.heap.size:=jS.out.lt;have xg:w.heap.size<gn.heap.size:=(Array.getElem?_eq_some_iff.1 vu.out).1;obtain⟨j',ka,rfl⟩:=ik jS.out.ws;have kI:s.words.length<20000:=aE.out.dK bH;have oG:(Value.slice j' s.words.length ka).ownBlock≠some R:=oR jS.out.ws jS.out.obj (by decide)
    go_region_law (first|((refine x5 _ (by rfl) _ _ _ (by rfl) B 153 i0 (.agg #[I 0,ai false,ai false,au ⟨#[]⟩]) 4 32 Tryz.underlying149 bY.out.1 bY.out.2.1 bY.out.2.2.1 bY.out.2.2.2 rfl (by omega) (ad j' s.words.length ka) s.words.length _ (by rfl) ((jS.out.ws.alloc _).drew) (ag gn.heap.size 0) 1 1 [I (s.a:Int),ai s.group,ai (decide (s.inner=0)),au ⟨s.text.toArray⟩] (by rfl) (by rfl) (jW (cs:= #[I (s.a:Int),ai s.group,ai (decide (s.inner=0)),au ⟨s.text.toArray⟩]) (t:=153) (fr:=(0,0)) (gi gn _)) (by simp[Value.oneCell']) (by omega) (by unfold maxLen;omega) (by omega) (by have:=fp.out;have:=ek.out.size;simp;omega) (gn.heap.size+1) (by simp) ?_;intro gg il cb cM dW e0 h5;have e8:=(jS.out.push (x:=⟨s.a,s.group,decide (s.inner=0),s.text⟩) (((Below.refl _ _).alloc (bD _) _).drew) dW cM (dX fp.out ek.out.size)).2.2;have bN:aw cb R 0 _:=Ge cb R 0 _ _ (0,0) e8;have ch:cb.frozen? ⟨R,0,none⟩=false:=by simp[World.frozen?,e8]))|fail)
    all_goals
     obtain⟨hm,lG,_⟩:=jS.out.push (x:=⟨s.a,s.group,decide (s.inner=0),s.text⟩) (((Below.refl _ _).alloc (bD _) _).drew) dW cM (dX fp.out ek.out.size);have a7:=U (And.intro hm (ek.out.trans lG));clear hm lG cM dW e0 h5 e8 bN ch g0 g1 g2 g3 aJ aI c2 c3 bF f0 f1;generalize cb.setCell (ag R 0) (ad (some (ag gg 0)) (s.words.length+1) il)=hQ at a7⊢;obtain⟨aJ,aI,c2,c3,bF⟩:=a7.out.1.cells;have f1:=a7.out.1.ef 1;have hl:=a7.out.1.clear rfl;have bm:J (hv B R (bG gg 0 (s.words.length+1) il) (ad p 0 cap) {s with words:=s.words++[⟨s.a,s.group,decide (s.inner=0),s.text⟩],inner:=s.inner,text:=[]} (hQ.setCell (ag R 1) (ad p 0 cap))∧Below B w (hQ.setCell (ag R 1) (ad p 0 cap))):=⟨hl,a7.out.2.setCell H.out.ge _⟩;clear hl;go_wp2_with fail;go_ret;rw[←br.out];simp only[fv.out,oE,x0];have uT:=bm.out.1;have a6:=aeh aE.out kI ⟨s.a,s.group,decide (s.inner=0),s.text⟩ (i:=s.inner) (by show s.inner≤_;have:=aE.out.n4;omega);rw[fv.out] at uT a6;exact⟨bm.out.2,rfl,a6,_,_,uT⟩
end jj
