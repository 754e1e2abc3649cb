/- Lemmas. -/
import Derived.Test.YtfldplmgkeiimaaGreatDoorR28
set_option linter.all false
set_option maxRecDepth 100000
set_option maxHeartbeats 25600000
namespace Go.Proofs.YtfldplmgkeiimaaGreatDoor
abbrev Cn:=@Proofs.Tryz.underlying52
abbrev O8:=@Proofs.Tryz.underlying5
abbrev O9:=@Proofs.Tryz.underlying9
namespace iS
open Go.RowKit kR ig n1 Mem pN ct
theorem anp{P:Program}{w v':_}{w':aeo}{base:Nat}{t ty e:aai}{i:TypeInfo}{z:ada}(bE:P.underlying t=some (.slice e))(hi:P.info? e=some i)(cz:i.zero=some z)
  {v:ada} {n:Nat} {xs:aev} (c0:World.ownsRow w base e i.size v n xs) {a:Addr} {c:Nat} {news:aev} (aA:news.length=1 *i.size) (zT:∀j u,news[j]?=some u→w.cell? (a.add j)=some u) (av:∀u∈news,u.oneCell'=true)
  (IU:n+1≤maxLen) (F2:(n+1) *i.bytes≤140737488355328)
  (hr:(Builtin.append_ #[t,t] ty #[v,ad (some a) 1 c]).run P w=.ok v' w'):v'.ownBlock=v.ownBlock∨v'.ownBlock=some w.heap.size:=by
 have hs:n+1≤9223372036854775807:=by simp only[maxLen] at IU;omega
 rcases c0.2 with ⟨rfl,rfl⟩|⟨g,cap,cur,rfl,abu,aF,QC,yd,iw,ahp⟩
 ·rw[run_append_nil (P:=P) w t ty e i z bE hi cz a 1 c news aA zT (by omega) (by omega) (by simp only[j7] at F2;omega)] at hr;injection hr with a7 _;rw[←a7];exact .inr rfl
 ·by_cases abv:n+1≤cap
  ·rw[run_append_room (P:=P) w t ty e i bE hi g n cap cur aF a 1 c news aA zT av abv (by rw[aA,iw,←Nat.add_mul];exact Nat.mul_le_mul_right _ abv)] at hr;injection hr with a7 _;rw[←a7];exact .inl rfl
  ·rw[run_append_grow (P:=P) w t ty e i z bE hi cz (aj g 0) n cap xs c0.1 (c0.cells (g:=g) rfl) a 1 c news aA zT (by omega) (by omega) (growslice_fits (by omega) F2)] at hr;injection hr with a7 _;rw[←a7];exact .inr rfl
theorem anq{P:Program}{w:aeo}{ops:Array Oper}{rest:List Oper}{o:Oper}{a:Act}{Q:Exit→Act→aeo→Prop}(Ul:o.guard=none)(s x:Operand)(t:aai)
  (bm:o.op=.call {callee:=.builtin .append,args:= #[s,x],argTypes:= #[t,t]})
  (base:Nat) (e:aai) (i:TypeInfo) (z:ada) (size bytes:Nat) (bE:P.underlying t=some (.slice e)) (hi:P.info? e=some i) (cz:i.zero=some z)
  (abw:i.size=size) (ga:i.bytes=bytes) (anr:z.cells.size=size) (iF:0<size)
  (v:ada) (n:Nat) (xs:aev) (hs:a.eval s=v) (c0:w.ownsRow base e size v n xs)
  (Um:Addr) (m c:Nat) (hm:m=1) (news:aev) (hx:a.eval x=ad (some Um) m c) (aA:news.length=m *size) (zT:∀j u,news[j]?=some u→w.cell? (Um.add j)=some u) (av:∀u∈news,u.oneCell'=true)
  (IU:n+m≤maxLen) (F2:(n+m) *bytes≤140737488355328) (Oa:base≤w.heap.size)
  (h:∀v' w',w'.ownsRow base e size v' (n+m) (xs++news)→w.grownBy w' v.ownBlock→(v'.ownBlock=v.ownBlock∨v'.ownBlock=some w.heap.size)→wpList P ops Q rest (a.put o.dst v') w'):wpList P ops Q (o::rest) a w:=by
 obtain⟨v',w',hr,az,aC,_⟩:=run_append_own (P:=P) w base t o.type e i z size bytes bE hi cz abw ga anr iF v n xs c0 Um m c news aA zT av IU F2 Oa;subst abw;subst ga;subst hm;have hw:=anp (P:=P) bE hi cz c0 aA zT av IU F2 hr;refine wpList_plain Ul fun _ hK=>?_;unfold Oper.wp execOp;simp only[bm,resolve,invoke,builtin,zV,MV,uZ,List.map_toArray,yh,yO,hs,hx,hr];exact hK _ _ (h v' w' az aC hw)
def O'(w:aeo)(b o:Nat)(c:C)(a:Int)(cK bv:ada):Prop:=
 w.cell? ⟨b,o,none⟩=some (I a)∧ak w b (o+1) (I c.k)∧ak w b (o+2) (I c.n)∧ak w b (o+3) (I c.m)∧ak w b (o+4) (U c.on)∧ak w b (o+5) (aa ⟨c.t.toArray⟩)∧ak w b (o+6) (aa ⟨c.x.toArray⟩)∧ak w b (o+7) (aa ⟨c.y.toArray⟩)∧ak w b (o+8) (aa ⟨c.i.toArray⟩)∧ak w b (o+9) (aa ⟨c.j.toArray⟩)∧ak w b (o+10) cK∧ak w b (o+11) bv
variable{i B n:Nat}{w:aeo}
theorem iy.get{l:List (Nat×C)}{xs:aev}(h:iy B w l xs):∀(i:Nat) (hi:i<l.length),∃p q k m,(∀j,j<12→xs[i *12+j]?=(jm l[i].2 (l[i].1:Int) (.slice p l[i].2.bX.length k) (.slice q l[i].2.blocks.length m))[j]?)∧dH B w p l[i].2.bX∧gY B w q l[i].2.blocks:=by
 induction h with
 |nil=>exact fun i hi=>absurd hi (my _)
 |@cons x l p q k m xs a b _ cO=>
  intro i hi;cases i with
  |zero=>
   refine⟨p,q,k,m,fun j cd=>?_,a,b⟩;rw[Mm (by show _<12;omega),Fi,j7,vw];rfl
  |succ i=>
   obtain⟨p,q,k,m,av,az,aC⟩:=cO i (Aj hi);refine⟨p,q,k,m,fun j cd=>?_,az,aC⟩;rw[A8 (by show 12≤_;omega),show (i+1) *12+j-_=i *12+j from by show (i+1) *12+j-12=_;omega];exact av j cd
def KM(B:Nat)(w:aeo)(p:Ja)(l:List (Nat×C)):Prop:=0<l.length→∃b o cur,p=some ⟨b,o,none⟩∧B≤b∧an w b cur 104∧∀(i:Nat) (hi:i<l.length),∃q r k m,(∀j,j<12→cur[o+i *12+j]?=(jm l[i].2 (l[i].1:Int) (.slice q l[i].2.bX.length k) (.slice r l[i].2.blocks.length m))[j]?)∧dH B w q l[i].2.bX∧gY B w r l[i].2.blocks
theorem Un{v:ada}{l:List (Nat×C)}(h:jL B w v l):∃p c,v=ad p l.length c∧KM B w p l:=by
 obtain⟨xs,hx,hr⟩:=h;rcases hx.2 with ⟨av,az⟩|⟨g,c,cur,av,az,aC,bt,cr,c4,ez⟩
 ·exact⟨none,0,by rw[av,az],fun aA=>absurd aA (by omega)⟩
 ·refine⟨_,c,av,fun aA=>⟨g,0,cur,rfl,az,aC,fun i hi=>?_⟩⟩;obtain⟨p,q,k,m,g1,g2,g3⟩:=hr.get i hi;refine⟨p,q,k,m,fun j cd=>?_,g2,g3⟩;rw[j7,←g1 j cd,←ez,Eu (by omega),vw]
theorem Pa{b o:Nat}{cur:ajv}{t:aai}{c:C}{a:Int}{cK bv:ada}(h:an w b cur t)(hc:∀j,j<12→cur[o+j]?=(jm c a cK bv)[j]?):O' w b o c a cK bv:=by
 have key:∀j,j<12→w.cell? ⟨b,o+j,none⟩=(jm c a cK bv)[j]?:=fun j cd=>by rw[←hc j cd];simp[World.cell?,h]
 exact⟨key 0 (by decide),key 1 (by decide),key 2 (by decide),key 3 (by decide),key 4 (by decide),key 5 (by decide),key 6 (by decide),key 7 (by decide),key 8 (by decide),key 9 (by decide),key 10 (by decide),key 11 (by decide)⟩
def Ax(oL:ajv)(o:Nat)(l:List e2):Prop:=∀i (hi:i<l.length),oL[o+i *4]?=some (I (l[i].a:Int))∧oL[o+i *4+1]?=some (U l[i].ext)∧oL[o+i *4+2]?=some (U l[i].first)∧oL[o+i *4+3]?=some (aa ⟨l[i].t.toArray⟩)
theorem ans(l:List e2)(i:Nat)(hi:i<l.length):(qM l)[i *4]?=some (I (l[i].a:Int))∧(qM l)[i *4+1]?=some (U l[i].ext)∧(qM l)[i *4+2]?=some (U l[i].first)∧(qM l)[i *4+3]?=some (aa ⟨l[i].t.toArray⟩):=by
 induction l generalizing i with
 |nil=>exact absurd hi (my _)
 |cons x l cO=>
  have e:qM (x::l)=[I (x.a:Int),U x.ext,U x.first,aa ⟨x.t.toArray⟩] ++qM l:=rfl;cases i with
  |zero=>rw[e];exact⟨rfl,rfl,rfl,rfl⟩
  |succ i=>
   obtain⟨aS,av,az,aC⟩:=cO i (Aj hi);rw[e];refine⟨?_,?_,?_,?_⟩
   ·rw[show (i+1) *4=i *4+1+1+1+1 by omega];exact aS
   ·rw[show (i+1) *4+1=(i *4+1)+1+1+1+1 by omega];exact av
   ·rw[show (i+1) *4+2=(i *4+2)+1+1+1+1 by omega];exact az
   ·rw[show (i+1) *4+3=(i *4+3)+1+1+1+1 by omega];exact aC
variable{l ws:List e2}
theorem ant{v:ada}(h:w.ownsRow B 153 4 v l.length (qM l)):∃p c g oL,v=ad p l.length c∧l.length≤c∧c≤maxLen∧(0<l.length→p=some ⟨g,0,none⟩∧an w g oL 153∧Ax oL 0 l):=by
 rcases h.2 with ⟨av,az⟩|⟨g,c,cur,av,az,aC,bt,cr,c4,ez⟩
 ·exact⟨none,0,0, #[],by rw[av,az],by omega,by decide,fun aA=>absurd aA (by omega)⟩
 ·refine⟨_,c,g,cur,av,bt,cr,fun aA=>⟨rfl,aC,fun i hi=>?_⟩⟩;have key:∀j,j<l.length *4→cur[j]?=(qM l)[j]?:=(fun j cd=>by rw[←ez,Eu cd,vw]);obtain⟨g0,g1,g2,g3⟩:=ans l i hi;rw[j7,key _ (by omega),key _ (by omega),key _ (by omega),key _ (by omega)];exact⟨g0,g1,g2,g3⟩
theorem Ax.anu{g o:Nat}{oL:ajv}{m:List e2}(h:Ax oL o l)(aF:an w g oL 153)(hm:m <+:l):KJ w (some (aj g o)) m:=by intro _;refine⟨g,o,rfl,(Array.getElem?_eq_some_iff.1 aF).1,fun i hi=>?_⟩;obtain⟨r,rfl⟩:=hm;obtain⟨aS,av,az,aC⟩:=h i (by rw[iv];omega);rw[CW hi] at aS av az aC;simp only[World.cell?,aF];exact⟨aS,av,az,aC⟩
theorem Ax.drop{oL:ajv}{o k:Nat}{l:List e2}(h:Ax oL o l):Ax oL (o+k *4) (l.drop k):=by intro i hi;rw[fH] at hi;obtain⟨aS,av,az,aC⟩:=h (k+i) (by omega);rw[MD,show o+k *4+i *4=o+(k+i) *4 by omega];exact⟨aS,av,az,aC⟩
theorem anv{s s':i6}{c:UInt8}(h:wU s c i=.ok s'):s'.words.length≤s.words.length+1∧∀M,(∀x∈s.words,x.t.length≤M)→s.text.length≤M→(∀x∈s'.words,x.t.length≤M+1)∧s'.text.length≤M+1:=by
 have same:∀{u:i6},(.ok u:Except Nat i6)=.ok s'→u.words=s.words→u.text.length≤s.text.length+1→s'.words.length≤s.words.length+1∧∀M,(∀x∈s.words,x.t.length≤M)→s.text.length≤M→(∀x∈s'.words,x.t.length≤M+1)∧s'.text.length≤M+1:=by intro u hu hw bE;injection hu with hu;subst hu;rw[hw];exact⟨mv _,fun M av az=>⟨fun x hx=>OQ (av x hx),by omega⟩⟩
 have add:∀{u:i6},C8 u c=.ok s'→u.words=s.words→u.text=s.text→s'.words.length≤s.words.length+1∧∀M,(∀x∈s.words,x.t.length≤M)→s.text.length≤M→(∀x∈s'.words,x.t.length≤M+1)∧s'.text.length≤M+1:=by
  intro u hu hw bE;unfold C8 at hu;split at hu
  ·cases hu
  ·exact same hu hw (by show (u.text++[c]).length≤_;rw[bE];simp)
 unfold wU at h;split at h
 ·exact same h rfl (by omega)
 ·split at h
  ·cases h
  ·split at h
   ·unfold IG at h;split at h
    ·cases h
    ·injection h with h;subst h;refine⟨by simp,fun M av az=>⟨fun x hx=>?_,by simp⟩⟩;rcases List.mem_append.1 hx with hx|hx
     ·exact OQ (av x hx)
     ·rw[List.mem_singleton.1 hx];exact OQ az
   ·split at h
    ·split at h
     ·cases h
     ·exact same h rfl (by show s.text.length≤_;omega)
    ·split at h
     ·split at h
      ·cases h
      ·exact add h rfl rfl
     ·exact add h rfl rfl
theorem abx:∀{l:au} {k:Nat} {s s':i6},nc l k s=.ok s'→s'.words.length≤s.words.length+l.length∧∀M,(∀x∈s.words,x.t.length≤M)→s.text.length≤M→(∀x∈s'.words,x.t.length≤M+l.length)
 |[],k,s,s',h=>by injection h with h;subst h;exact⟨bx _,fun M av az=>av⟩
 |c::l,k,s,s',h=>by
  unfold nc at h;split at h
  ·cases h
  ·rename_i u hu;obtain⟨g1,g2⟩:=anv hu;obtain⟨a7,bf⟩:=abx h;refine⟨by rw[fY];omega,fun M av az=>?_⟩;obtain⟨f1,f2⟩:=g2 M av az;intro x hx;have:=bf (M+1) f1 f2 x hx;rw[fY];omega
variable{t s:au}
theorem anw(h:yr s=(ws,0,0)):ws.length≤1000000∧∀x∈ws,x.t.length≤1000000:=by
 unfold yr at h;split at h
 ·simp at h
 ·rename_i hs;split at h
  ·rename_i i e aF;simp only[gh] at h;rw[←h.1];exact⟨dO _,fun x hx=>absurd hx (by simp)⟩
  ·rename_i st aF;split at h
   ·simp at h
   ·simp only[gh] at h;obtain⟨a7,bf⟩:=abx aF;have cM:=bf 0 (fun x hx=>absurd hx (by simp[yq])) (bx _);rw[←h.1];have hO:st.words.length≤0+s.length:=a7;exact⟨by omega,fun x hx=>by have:=cM x hx;omega⟩
theorem anx(h:Bh t=.error n):n≠0:=by
 have KN:∀{t:au} {cs:List C} {n:Nat},ri t cs=.error n→n≠0:=by
  intro t cs n h;unfold ri at h;split at h
  ·cases h
  ·split at h
   ·cases h;decide
   ·cases h
 have Uo:∀{t:au} {m:Int} {n:Nat},tL t m=.error n→n≠0:=by
  intro t m n h;unfold tL at h;split at h
  ·cases h
  ·exact KN h
 unfold Bh at h
 repeat' split at h
 all_goals first|exact Uo h|exact KN h|(cases h;decide)|cases h
theorem anz{l:List C}(h:Bh t=.ok l):l.length≤2:=by
 have KN:∀{t:au} {cs l:List C},ri t cs=.ok l→cs.length≤1→l.length≤2:=by
  intro t cs l h hc;unfold ri at h;split at h
  ·cases h;exact mv 1
  ·split at h
   ·cases h
   ·cases h;rw[iv];simp only[Ky];omega
 have Uo:∀{t:au} {m:Int} {l:List C},tL t m=.ok l→l.length≤2:=by
  intro t m l h;unfold tL at h;split at h
  ·cases h;exact mv 1
  ·exact KN h (bx _)
 unfold Bh at h
 repeat' split at h
 all_goals first|exact Uo h|exact KN h (by decide)|(cases h;exact mv 1)|cases h
theorem anA{w:e2}(h:Bj w ws=.error (i,n)):n≠0:=by
 unfold Bj at h;split at h
 ·split at h
  ·rename_i az;cases h;exact abn az
  ·split at h
   ·cases h
   ·cases h;decide
 ·split at h
  ·cases h;decide
  ·split at h;split at h
   ·rename_i aS;cases h;exact aS
   ·cases h
theorem anB{w:e2}{l:List C}(h:Bj w ws=.ok l):l.length≤2:=by
 unfold Bj at h;split at h
 ·split at h
  ·cases h
  ·split at h
   ·cases h;exact mv 1
   ·cases h
 ·split at h
  ·cases h
  ·split at h;split at h
   ·cases h
   ·cases h;exact mv 1
theorem anC{w:e2}(h:zA w ws=.error (i,n)):n≠0:=by
 unfold zA at h;split at h
 ·exact anA h
 ·split at h
  ·rename_i az;cases h;exact anx az
  ·cases h
theorem anD{w:e2}{l:List C}(h:zA w ws=.ok l):l.length≤2:=by
 unfold zA at h;split at h
 ·exact anB h
 ·split at h
  ·cases h
  ·rename_i az;cases h;exact anz az
theorem anE(l:List e2):l.takeWhile (fun x=>!x.first)=l.take (l.takeWhile fun x=>!x.first).length:=by
 induction l with
 |nil=>rfl
 |cons a l cO=>
  by_cases h:a.first=true
  ·rw[G3 (by simp[h])];rfl
  ·rw[CV (by simp[h]),fY,H6,←cO]
theorem anF(l:List e2):l.dropWhile (fun x=>!x.first)=l.drop (l.takeWhile fun x=>!x.first).length:=by
 induction l with
 |nil=>rfl
 |cons a l cO=>
  by_cases h:a.first=true
  ·rw[G3 (by simp[h]),List.dropWhile_cons_of_neg (by simp[h])];rfl
  ·rw[CV (by simp[h]),List.dropWhile_cons_of_pos (by simp[h]),fY,uP,←cO]
theorem anG{k:Nat}(ay:k<(l.takeWhile fun x=>!x.first).length):∃h:k<l.length,l[k].first=false:=by
 induction l generalizing k with
 |nil=>exact absurd ay (by simp)
 |cons a l cO=>
  by_cases h:a.first=true
  ·rw[G3 (by simp[h])] at ay;exact absurd ay (by simp)
  ·rw[CV (by simp[h])] at ay;cases k with
   |zero=>exact⟨Dp _,by simpa using h⟩
   |succ k=>
    obtain⟨av,az⟩:=cO (Aj ay);exact⟨Nat.succ_lt_succ av,az⟩
theorem anH(h:(l.takeWhile fun x=>!x.first).length<l.length):l[(l.takeWhile fun x=>!x.first).length].first=true:=by
 induction l with
 |nil=>exact absurd h (by simp)
 |cons a l cO=>
  by_cases hf:a.first=true
  ·simp only[G3 (p:=fun x:e2=>!x.first) (a:=a) (l:=l) (by simp[hf]),tj,G5];exact hf
  ·simp only[CV (p:=fun x:e2=>!x.first) (a:=a) (l:=l) (by simp[hf]),fY] at h⊢;exact cO (Aj h)
theorem anI(l:List e2):(l.takeWhile fun x=>!x.first).length≤l.length:=(aa4 _).length_le
def Up:Except (Nat×Nat) (List (Nat×C))→List (Nat×C)× Nat×Nat
 |.error (i,e)=>([],i,e)
 |.ok l=>(l,0,0)
theorem anJ(f:Nat)(w:e2)(ws:List e2)(acc:List (Nat×C)):yw (f+1) (w::ws) acc=match zA w (ws.takeWhile fun x=>!x.first) with
 |.error e=>.error e
 |.ok l=>yw f (ws.dropWhile fun x=>!x.first) (acc++l.map fun c=>(w.a,c)):=rfl
theorem Xp(f:Nat)(acc:List (Nat×C)):yw f [] acc=.ok acc:=by cases f<;>rfl
theorem anK(h:yr s=(ws,0,0)):k2 s=Up (yw ws.length ws []):=by unfold k2;rw[h];simp only[];rw[aW (fun h=>h rfl)];cases yw ws.length ws []<;>rfl
theorem anL{e:Nat}(h:yr s=(ws,i,e))(he:e≠0):k2 s=([],i,e):=by unfold k2;rw[h];simp only[];rw[bb he]
end iS
namespace dd
open Go.RowKit ef
open ct (C eC)
open iS (lu jm KM O' Pa dH gY)
theorem aby{s:Nat}{u:Int}:∀{l:List Int} {i e:Nat},pU s u l i=.error e→e≠0
 |[],i,e,h=>by cases h
 |n::l,i,e,h=>by
  unfold pU at h;split at h
  ·cases h;decide
  ·split at h
   ·cases h;decide
   ·split at h
    ·cases h;decide
    ·split at h
     ·rename_i k8 he;injection h with h;exact h ▸ aby he
     ·cases h
theorem abz:∀{l:List Int} {e:Nat},M4 l=.error e→e≠0
 |[],e,h=>by cases h
 |n::l,e,h=>by
  unfold M4 at h;split at h
  ·rename_i hn;injection h with h;exact h ▸ hn
  ·split at h
   ·rename_i k8 he;injection h with h;exact h ▸ abz he
   ·cases h
theorem abA{vars:List (Int×Int)}:∀{l:List (List (Int×Int))} {e:Nat},M3 vars l=.error e→e≠0
 |[],e,h=>by cases h
 |a::l,e,h=>by
  unfold M3 at h;split at h
  ·rename_i hn;injection h with h;exact h ▸ hn
  ·split at h
   ·rename_i k8 he;injection h with h;exact h ▸ abA he
   ·cases h
theorem Pb{u:Int}:∀{l:List eC} {vars:List (Int×Int)} {p:bk} {e:Nat},FN u l vars p=.error e→e≠0
 |[],vars,p,e,h=>by cases h
 |b::l,vars,p,e,h=>by
  unfold FN at h;split at h
  ·rename_i k8 he;injection h with h;exact h ▸ abA he
  ·split at h
   ·exact Pb h
   ·split at h
    ·split at h
     ·rename_i hn;injection h with h;exact h ▸ hn
     ·split at h
      ·cases h;decide
      ·exact Pb h
    ·exact Pb h
theorem anM{bz:au}{da:List Int}{u:Int}{ms:List lI}{e:Nat}(h:oe bz da u ms=.error e):e≠0:=by
 unfold oe at h;split at h
 ·simp only at h
  repeat' split at h
  all_goals first
   |(cases h;done)
   |(cases h;decide)
   |(rename_i he;cases h;exact aby he)
 ·unfold Xs at h;split at h
  ·cases h;decide
  ·split at h
   ·rename_i k8 he;injection h with h;exact h ▸ abz he
   ·split at h
    ·rename_i k8 he;injection h with h;subst h;unfold Xr at he;split at he
     ·cases he;decide
     ·split at he
      ·rename_i bf wE;injection he with he;exact he ▸ Pb wE
      ·cases he
    ·cases h
variable{p:cT}{c:C}
theorem anN(hn:c.n=3):Cd (sr p c):=by
 intro k h;unfold sr at h;split at h
 ·cases h;decide
 split at h
 ·cases h;decide
 split at h
 ·cases h;decide
 split at h
 ·cases h;decide
 split at h
 ·cases h;decide
 split at h
 ·rename_i e he;injection h with h;subst h;rw[aW (by omega),aW (by omega)] at he;exact aaI _ he
 ·cases h
theorem anO:Cd (Db p c):=by
 intro k h;unfold Db at h;split at h
 ·split at h
  ·cases h;decide
  ·cases h
 split at h
 ·split at h
  ·cases h;decide
  ·cases h
 split at h
 ·split at h
  ·cases h;decide
  ·cases h
 unfold oY at h;split at h
 ·cases h;decide
 split at h
 ·rename_i e he;injection h with h;exact h ▸ anM he
 ·cases h
theorem anP(hr:p.region=false)(ay:Es c.k c.n):Cd (rl p c):=by
 intro k h;unfold rl at h;rw[hr] at h;by_cases aN:p.ended=true
 ·rw[bb aN] at h;cases h;decide
 rw[aW aN,aW (by simp),aW (by omega)] at h;rcases ay with ay|ay|ay|ay
 ·rw[bb ay] at h;exact anO _ h
 ·rw[aW (by omega),bb (by omega)] at h;unfold FP at h;rw[aW (by omega),aW (by omega),bb ay] at h;split at h
  ·cases h;decide
  ·cases h
 ·rw[aW (by omega),aW (by omega),aW (by omega),bb ay.1] at h;exact anN ay.2 _ h
 ·rw[aW (by omega),aW (by omega),aW (by omega),aW (by omega),aW (by omega),aW (by omega),aW (by omega),aW (by omega),bb ay] at h;split at h
  ·cases h;decide
  ·cases h
structure KO(c:C):Prop where
 k:Es c.k c.n
 nl:c.bX.length≤1000000000
 uo:∀x∈c.bX,-4611686018427387904≤x∧x≤4611686018427387904
 st:∀i,(nW c.x c.y c.i c.j i).length≤1000000000
def abB(c:C):Prop:=c.k=10→∀(w0 Z:aeo) (B:Nat) (nq:Ja) (et:Nat) (u:Int) (ms:List lI),dH B Z nq c.bX→Eo w0 Z c.t c.bX nq et u ms
def xQ:List C→cT→Prop
 |[],_=>True
 |c::l,p=>(c.k=10→∀(w0 Z:aeo) (B:Nat) (nq:Ja) (et:Nat),dH B Z nq c.bX→Eo w0 Z c.t c.bX nq et p.unit p.fU)∧∀q,rl p c=.ok q→xQ l q
theorem xQ.of:∀{l:List C} (p:cT),(∀c∈l,abB c)→xQ l p
 |[],_,_=>trivial
 |c::l,p,h=>⟨fun ay w0 Z B nq et hn=>h c (by simp) ay w0 Z B nq et _ _ hn,fun q _=>xQ.of q fun d hd=>h d (by simp[hd])⟩
abbrev Uq:Value:=.agg #[U false,I 0,I 0,I 0,I 0,I 0,J 0]
theorem anQ:(Tryz.prog.info? nU).map (fun i=>(i.zero,i.size,i.bytes))=some (some Uq,7,72):=by kernel_rfl
variable{w:aeo}
theorem gp.anR{w0:aeo}{P:Nat}{R:afp}{m:Nat}{L:qR}{fu:Int}{cv ov:ada}{cx ox:aev}(h:gp w0 P R m L fu cv ov cx ox p w):sQ w0 ov p.top.fk w:=⟨R,ox,h.aB,h.sW,h.nr,fun k e ay=>(h.ml k ay).JZ e,h.aX⟩
theorem abC{B:Nat}{p:Ja}{l:List (Nat×C)}(h:KM B w p l){j:Nat}(cd:j<l.length){a:Nat}(he:l[j]=(a,c)):∃b o b1 bO cw ba,p=some ⟨b,o,none⟩∧b<w.heap.size∧O' w b (o+j *12) c (a:Int) (ad b1 c.bX.length bO) (ad cw c.blocks.length ba)∧dH B w b1 c.bX∧gY B w cw c.blocks:=by obtain⟨b,o,cur,rfl,_,aK,hc⟩:=h (by omega);obtain⟨q,r,k,m,av,az,aC⟩:=hc j cd;rw[he] at av az aC;exact⟨b,o,_,_,_,_,rfl,lt_of_heap aK,Pa aK av,az,aC⟩
theorem anS(w:aeo):(Instr.makeSlice 159 (I 1) (I 1)).run Tryz.prog w=.ok (ag w.heap.size 0 1 1) (w.alloc (ai (#[U false,I 0,I 0,I 0,I 0,I 0,J 0]) nU)):=by
 have h:=zJ (P:=Tryz.prog) 159 nU Uq 7 72 Tryz.underlying159 anQ 1 (by decide) (by decide) w;have e:madeCells Uq.cells (1 *7)= #[U false,I 0,I 0,I 0,I 0,I 0,J 0]:=by kernel_rfl
 rw[e] at h;exact h
theorem uw{y:aeo}{b i:Nat}{v:ada}(ax:b<w.heap.size)(h:ao w w y)(hc:ak w b i v):ak y b i v:=(h.cell (p:=⟨b,i,none⟩) ax).trans hc
def KP(w:aeo)(r:List eu×Nat×Nat)(e:Ending)(w':aeo):Prop:=Below w.heap.size w w'∧∃q d,e=ab (.tuple #[ad q r.1.length d,I (r.2.1:Int),I (r.2.2:Int)])∧h8 (fun k=>w.heap.size≤k) w' q r.1
def Ur(l:List C)(j:Nat):Except Nat cT→Except (Nat×Nat) cT
 |.error e=>.error (j,e)
 |.ok q=>yy l (j+1) q
theorem anU(c:C)(l:List C)(i:Nat)(p:cT):yy (c::l) i p=Ur l i (rl p c):=by unfold yy Ur;split<;>rename_i h<;>rw[h]
def Pc(n:Nat):Except (Nat×Nat) cT→List eu×Nat×Nat
 |.error (i,e)=>([],i,e)
 |.ok p=>if p.ended=false then ([],n,11) else (p.top.fk,0,0)
theorem anV(l:List C)(b:Int):FQ l b=Pc l.length (yy l 0 (tN b)):=by unfold FQ Pc;split<;>rename_i h<;>rw[h]
theorem anW(br:Int):Inv 0 (tN br):=by
 refine⟨⟨fun v aY=>?_,fun k a ha=>?_,rv _,by show (0:Int)≤100000;decide,by show min (max br 0) 100000≤100000;omega,dO _,?_,dO _⟩,bx _,rfl,rfl⟩
 ·have:v=M5:=(by simpa[tN] using aY);subst this;exact⟨rv _,rv _,by decide,rv _,by decide,by decide,by decide,by decide,by decide⟩
 ·cases ha
 ·exact⟨by show (-536870912:Int)≤0;decide,by show (0:Int)≤536870912;decide,by show (-536870912:Int)≤0;decide,by show (0:Int)≤536870912;decide⟩
theorem anX(B:Nat)(l:List (Nat×C))(pp:Ja)(n cap:Nat)(hn:n=l.length)(br:Int)(w:aeo)(H:af (KM B w pp l))(hlen:l.length≤500000)(eF:∀x∈l,KO x.2)(tt:xQ (l.map Prod.snd) (tN br))(res:List eu×Nat×Nat)(dA:af (FQ (l.map Prod.snd) br=res)):
  Calls Tryz.prog 40 #[ad pp n cap,I br] w fun e w'=>KP w res e w':=by
 have bd:=aq hn;have rb:n≤500000:=by rw[hn];exact hlen
 obtain⟨T,fC⟩:=ar (yy (l.map Prod.snd) 0 (tN br));have xK:af (Pc n T=res):=by rw[←dA.out,←fC,anV,gO,hn];exact rfl
 have dr:af (yy ((l.map Prod.snd).drop 0) 0 (tN br)=T):=fC;have qT:=aq eF;have abD:af (xQ ((l.map Prod.snd).drop 0) (tN br)):=tt;clear hn hlen dA fC eF tt;have l8:=@run_makeMap Tryz.prog;have tt:=fun x=>anS x;go_enter Tryz.func40,Tryz.ntmps40;go_upto_region 2 with fail;obtain⟨W,bo⟩:=ar (((w.alloc (.map #[] 0)).alloc (ai (#[U false,I 0,I 0,I 0,I 0,I 0,J 0]) nU)).alloc (ai (#[I 0,I 0,I 0,I 0,U false,U false,.map (some w.heap.size),I 0,J 0,I 0,I 0,I 1,U false,U true,U false,U false,I 0,I 0,I 0,U false,J 0,ad (some (aj (w.heap.size+1) 0)) 1 1,I 0,I (min (max br 0) 100000),U false]) yY))
 have Ay:af (oE w (w.heap.size+1+1) (tN br) W):=by
  have s1:(w.alloc (.map #[] 0)).heap.size=w.heap.size+1:=Array.size_push _;have s2:((w.alloc (.map #[] 0)).alloc (ai (#[U false,I 0,I 0,I 0,I 0,I 0,J 0]) nU)).heap.size=w.heap.size+1+1:=(Array.size_push _).trans (fp (· +1) s1);have bA:((w.alloc (.map #[] 0)).alloc (ai (#[U false,I 0,I 0,I 0,I 0,I 0,J 0]) nU)).heap[w.heap.size+1]?=some (.cells #[U false,I 0,I 0,I 0,I 0,I 0,J 0] nU):=(by have:=bY (w.alloc (.map #[] 0)) (ai (#[U false,I 0,I 0,I 0,I 0,I 0,J 0]) nU);rw[s1] at this;exact this);have a2:an W (w.heap.size+1+1) (#[I 0,I 0,I 0,I 0,U false,U false,.map (some w.heap.size),I 0,J 0,I 0,I 0,I 1,U false,U true,U false,U false,I 0,I 0,I 0,U false,J 0,ad (some (aj (w.heap.size+1) 0)) 1 1,I 0,I (min (max br 0) 100000),U false]) yY:=(by have:=bY ((w.alloc (.map #[] 0)).alloc (ai (#[U false,I 0,I 0,I 0,I 0,I 0,J 0]) nU)) (ai (#[I 0,I 0,I 0,I 0,U false,U false,.map (some w.heap.size),I 0,J 0,I 0,I 0,I 1,U false,U true,U false,U false,I 0,I 0,I 0,U false,J 0,ad (some (aj (w.heap.size+1) 0)) 1 1,I 0,I (min (max br 0) 100000),U false]) yY);rw[s2,bo] at this;exact this);have a0:W.heap[w.heap.size]?=some (.map #[] 0):=(by rw[←bo];exact aU (aU (bY w _) (a6 _ _)) (a6 _ _));have a3:an W (w.heap.size+1) (#[U false,I 0,I 0,I 0,I 0,I 0,J 0]) nU:=(by rw[←bo];exact aU bA (a6 _ _));have ax:ao w w W:=by rw[←bo];exact (a6 _ _).trans (((a6 _ _).trans ((a6 _ _).mono (a6 _ _).size)).mono (a6 _ _).size)
  exact ⟨fun _=>False,w.heap.size,⟨w.heap.size+1,1,1, [], [], J 0, []⟩,0, J 0, J 0, [], [],{
   pl:=a2
   mp:=⟨#[],0,[],a0,rfl,fun k=>rfl⟩
   qS:=rfl
   gS:=⟨rfl,.inr ⟨w.heap.size+1,1,_,rfl,mv _,a3,bx _,by decide,rfl,rfl⟩⟩
   mM:=⟨rfl,rfl⟩
   yZ:=fun k ay=>by cases ay
   Al:=List.nodup_nil
   bz:=.nil _ _ _
   aB:=⟨rfl,.inl ⟨rfl,rfl⟩⟩
   sW:=trivial
   hC:=⟨rfl,.inl ⟨rfl,rfl⟩⟩
   xx:=rfl
   nr:=fun k h=>h.elim
   ml:=fun k h=>h.elim
   xy:=by omega
   rq:=bx _
   aX:=ax}⟩
 rw[bo];clear bo l8 tt;obtain⟨P,hB⟩:=ar (w.heap.size+1+1);rw[hB] at Ay⊢;clear hB;have abE:af (Inv 0 (tN br)):=anW br;go_wp2_with fail
 go_loopw [20] (fun i wr=>∃(j:Nat) (p:cT) (aM:aeo),aM=wr∧j≤n∧i=I j∧af (yy ((l.map Prod.snd).drop j) j p=T∧xQ ((l.map Prod.snd).drop j) p)∧af (Inv j p)∧af (oE w P p aM)) (fun i _=>n -(intOf i).toNat)
 case atStart=>exact⟨0,_,_,rfl,dO _,rfl,⟨dr.out,abD.out⟩,abE.out,Ay.out⟩
 case round=>
 obtain⟨j,p,aM,rfl,cd,rfl,Us,Hj,Ca⟩:=hrel;have Pd:=aq Us.out.1;have anY:=aq Us.out.2;clear dr abE Ay abD Us;have jn:af (ao w w aM):=by obtain⟨_,_,_,_,_,_,_,_,h⟩:=Ca.out;exact h.aX
 by_cases bR:j<n
 ·have fE:j<l.length:=(by rw[←bd.out];exact bR);have gU:(j:Int)<(n:Int):=(by omega);obtain⟨⟨a,⟨eZ,cn,cP,dz,bz,cx,bu,ci,Hk,bX,fN⟩⟩,hc⟩:=ar (l[j]);obtain⟨b,o,nq,et,lR,y7,rfl,ks,eX,wZ,rX⟩:=abC H.out fE hc;have EA:KO ⟨eZ,cn,cP,dz,bz,cx,bu,ci,Hk,bX,fN⟩:=(by have h:=qT.out _ (kT fE);rw[hc] at h;exact h);obtain⟨dh,fe⟩:=ar bX.length;obtain⟨vT,vf⟩:=ar fN.length;have r4:(l.map Prod.snd).drop j=⟨eZ,cn,cP,dz,bz,cx,bu,ci,Hk,bX,fN⟩::(l.map Prod.snd).drop (j+1):=(by rw[lD (by rw[gO];exact fE),IS,hc]);have cA:=anY.out;rw[r4] at cA;obtain⟨ma,za⟩:=ar (rl p ⟨eZ,cn,cP,dz,bz,cx,bu,ci,Hk,bX,fN⟩);have o7:af (Ur ((l.map Prod.snd).drop (j+1)) j ma=T):=(by show _=_;rw[←Pd.out,r4,anU,za]);have Az:∀x,ao aM aM x→Calls Tryz.prog 64 #[ah P 0,.agg #[I (a:Int),I eZ,I cn,I cP,U dz,aa ⟨bz.toArray⟩,aa ⟨cx.toArray⟩,aa ⟨bu.toArray⟩,aa ⟨ci.toArray⟩,aa ⟨Hk.toArray⟩,ad nq dh et,ad lR vT y7]] x fun e w'=>jM w P ma e w':=(by intro x hx;have yT:ao w w x:=jn.out.trans (hx.mono jn.out.size);rw[←fe,←vf];exact al1 w P p B j ⟨eZ,cn,cP,dz,bz,cx,bu,ci,Hk,bX,fN⟩ (a:Int) nq et lR y7 x (Ca.out.below hx) Hj.out (by omega) (wZ.below yT) EA.nl EA.uo (gY.mono rX (dO _)) EA.st (fun h=>cA.1 h w x B nq et (wZ.below yT)) EA.k ma za);have Ut:=aq Az;have anZ:af (∀q,ma=.ok q→xQ ((l.map Prod.snd).drop (j+1)) q):=fun q aR=>cA.2 q (za.trans aR);have iM:af (∀k,ma=.error k→k≠0):=fun k ay=>anP Hj.out.rg EA.k k (za.trans ay);have eQ:af (∀q,ma=.ok q→Inv (j+1) q):=fun q aR=>Hj.out.do (by omega) EA.k (za.trans aR);rw[fe,vf] at eX;obtain⟨bJ,bO,ba,p0,BE,DV,DW,DX,DY,xl,DZ,KQ⟩:=eX;have d0:=uw ks jn.out bJ;have d1:=uw ks jn.out bO;have d2:=uw ks jn.out ba;have d3:=uw ks jn.out p0;have d4:=uw ks jn.out BE;have d5:=uw ks jn.out DV;have d6:=uw ks jn.out DW;have d7:=uw ks jn.out DX;have d8:=uw ks jn.out DY;have d9:=uw ks jn.out xl;have d10:=uw ks jn.out DZ;have d11:=uw ks jn.out KQ;clear r4 za Az EA cA wZ rX fe vf bJ bO ba p0 BE DV DW DX DY xl DZ KQ Pd hc;obtain⟨ca,abF⟩:∃ca:Int,(a:Int)=ca:=⟨_,rfl⟩;obtain⟨Pe,abG⟩:∃s:Ua,(⟨bz.toArray⟩:Ua)=s:=⟨_,rfl⟩;obtain⟨Pf,abH⟩:∃s:Ua,(⟨cx.toArray⟩:Ua)=s:=⟨_,rfl⟩;obtain⟨Pg,abI⟩:∃s:Ua,(⟨bu.toArray⟩:Ua)=s:=⟨_,rfl⟩;obtain⟨Ph,abJ⟩:∃s:Ua,(⟨ci.toArray⟩:Ua)=s:=⟨_,rfl⟩;obtain⟨Pj,abK⟩:∃s:Ua,(⟨Hk.toArray⟩:Ua)=s:=⟨_,rfl⟩;rw[abF] at d0 Ut;simp only[abG,abH,abI,abJ,abK] at d5 d6 d7 d8 d9 Ut;clear abF abG abH abI abJ abK;go_upto_region 5 with fail;have cy:af (ao aM aM (aM.alloc (ai (#[I ca,I eZ,I cn,I cP,U dz,aa Pe,aa Pf,aa Pg,aa Ph,aa Pj,ad nq dh et,ad lR vT y7]) ia))):=a6 _ _;have bC:af ((aM.alloc (ai (#[I ca,I eZ,I cn,I cP,U dz,aa Pe,aa Pf,aa Pg,aa Ph,aa Pj,ad nq dh et,ad lR vT y7]) ia)).heap[aM.heap.size]?=some (.cells #[I ca,I eZ,I cn,I cP,U dz,aa Pe,aa Pf,aa Pg,aa Ph,aa Pj,ad nq dh et,ad lR vT y7] ia)):=bY _ _;generalize aM.alloc (.cells #[I ca,I eZ,I cn,I cP,U dz,aa Pe,aa Pf,aa Pg,aa Ph,aa Pj,ad nq dh et,ad lR vT y7] ia)=gB at cy bC⊢;clear d0 d1 d2 d3 d4 d5 d6 d7 d8 d9 d10 d11;have d0:=cell_of (i:=0) bC.out rfl;have d1:=cell_of (i:=1) bC.out rfl;have d2:=cell_of (i:=2) bC.out rfl;have d3:=cell_of (i:=3) bC.out rfl;have d4:=cell_of (i:=4) bC.out rfl;have d5:=cell_of (i:=5) bC.out rfl;have d6:=cell_of (i:=6) bC.out rfl;have d7:=cell_of (i:=7) bC.out rfl;have d8:=cell_of (i:=8) bC.out rfl;have d9:=cell_of (i:=9) bC.out rfl;have d10:=cell_of (i:=10) bC.out rfl;have d11:=cell_of (i:=11) bC.out rfl;go_wp2_with fail;with_reducible refine (Ut.out _ cy.out).mono ?_
  intro e cN mn;clear d0 d1 d2 d3 d4 d5 d6 d7 d8 d9 d10 d11 bC cy Ca;cases ma with
  |error k=>
   obtain rfl:=mn.err rfl;have mb:=aq mn.1;have aO:af (Pc n (.error (j,k))=res):=(by rw[←xK.out,←o7.out];exact rfl);clear mn;have qi:k≠0:=iM.out k rfl;have ej:(((k:Int) !=0):Bool)=true:=(by rw[wK];omega);go_wp2_with fail;go_ret3;rw[←aO.out];exact⟨mb.out,none,0,rfl,.nil _ _ _⟩
  |ok q=>
   obtain⟨rfl,um⟩:=mn.get rfl;have an0:=aq um;have s3:af (yy ((l.map Prod.snd).drop (j+1)) (j+1) q=T):=o7.out;have OS:=aq (eQ.out q rfl);have sB:=aq (anZ.out q rfl);clear mn um;go_wp2_with fail;go_round<;>first|exact⟨j+1,q,_,rfl,by omega,by go_num,⟨s3.out,sB.out⟩,OS.out,an0.out⟩|(simp[intOf]<;>omega)
 ·have iH:j=n:=(by omega);subst iH;have abL: .ok p=T:=(by have h:=Pd.out;rw[mU (by rw[gO,bd.out];exact bx _)] at h;exact h);obtain⟨R,m,L,fu,cv,ov,cx,ox,h⟩:=Ca.out;have H1:=aq h;obtain⟨h3,G0⟩:=ar p.ended;have aO:af ((if h3=false then ([],j,11) else (p.top.fk,0,0))=res):=(by rw[←xK.out,←abL,←G0];exact rfl);have OW:ak aM P 24 (U h3):=(by rw[←G0];exact cell_of (i:=24) h.pl rfl);have D':p.levels.length=0:=(by rw[Hj.out.gS];rfl);have Ea:ak aM L.b 6 ov:=(by have fM:=(h.Tc D' 6 (by decide)).1;rw[Fi,j7] at fM;exact fM);have qk:L.n=1:=(by rw[h.qS,D']);obtain⟨ev,kJ,lc,gE,hs,e4,bB⟩:=L;have Ea:ak aM ev 6 ov:=Ea;have qk:kJ=1:=qk;subst qk;have J2:ak aM P 21 (ad (some (aj ev 0)) 1 lc):=cell_of (i:=21) h.pl rfl;have vE:p.top.fk.length≤1000000:=Hj.out.bD.aB;clear D';clear h G0 abL Pd Hj xK;cases h3 with
  |false=>
   have fT:af (([],j,11)=res):=aO.out;go_wp2_with fail;go_ret3;rw[←fT.out];exact⟨jn.out,none,0,rfl,.nil _ _ _⟩
  |true=>
   have fT:af ((p.top.fk,0,0)=res):=aO.out;obtain⟨q,d,Pk,Kg⟩:=h8.own (R:=fun k=>w.heap.size≤k) H1.out.anR (by show _≤1000000000;omega) (fun k h=>h);subst Pk;have xn:=aq Kg;clear Kg H1;go_wp2_with fail;go_ret3;rw[←fT.out];exact⟨jn.out,q,d,rfl,xn.out⟩
end dd
namespace iS
open Go.RowKit kR ig n1 Mem pN ct
theorem Uu{w:aeo}{B:Nat}{e:aai}{v:ada}{n:Nat}{l:au}(h:w.ownsRow B e 1 v n (q6 l)):∃p cap,v=ad p n cap∧hI w p l∧n=l.length:=by
 have aA:n=l.length:=by have:=h.1;rw[afW] at this;omega
 rcases h.2 with ⟨rfl,rfl⟩|⟨g,cap,cur,rfl,_,aF,_,_,_,bE⟩
 ·refine⟨_,_,rfl,?_,aA⟩;obtain rfl:l=[]:=mT aA.symm;exact hI.nil _ _
 ·refine⟨_,_,rfl,hI.of fun i hi=>?_,aA⟩;rw[j7,A1 w g i cur e (0,0) aF];have:=Wz l i hi;rw[←bE,sg,bb (by omega)] at this;simpa using this
theorem abM{w:aeo}{b:Nat}{v0 v1 v2 v3:ada}{t:aai}(h:an w b (#[v0,v1,v2,v3]) t):(ak w b 0 v0∧ak w b 1 v1∧ak w b 2 v2∧ak w b 3 v3)∧(∀i,w.frozen? ⟨b,i,none⟩=false):=by refine⟨⟨?_,?_,?_,?_⟩,fun i=>?_⟩<;>simp[World.cell?,World.frozen?,h]
theorem abN{s:i6}(h:vF s)(hn:s.words.length<20000)(x:e2){i:Nat}(hi:i≤s.words.length+1):vF {s with words:=s.words++[x],inner:=i,text:=[]}:=
 ⟨by simp;omega,fun h=>absurd rfl h,by simp,by simp;omega⟩
theorem an1(B R:Nat)(s:i6)(bM iu:ada)(w:aeo)(bK:B≤w.heap.size)(H:af (gK B R bM iu s w))(hf:vF s)(res:Except Nat i6)(dA:af (IG s=res)):
  Calls Tryz.prog 128 #[ah R 0] w (Zx B R w res):=by
 have e7:=aq bK;have aO:=aq hf;clear hf;obtain⟨aQ,aN,aJ,c3,bF⟩:=H.out.cells;have nE:=H.out.dT;obtain⟨p,cap,rfl,mQ,pP⟩:=Uu H.out.hG;have aA:=dA.out;unfold IG at aA;by_cases bE:s.text=[]
 ·rw[bb bE] at aA;have bw:af (.error 2=res):=aA;have aS:s.text.length=0:=(by rw[bE];rfl);rw[aS] at aN;clear aA dA pP mQ bE;go_enter Tryz.func128,Tryz.ntmps128;go_wp2_with fail;go_ret;rw[←bw.out];exact⟨Below.refl _ _,rfl⟩
 ·rw[aW bE] at aA;have bw:=aq aA;have A4:0<s.text.length:=List.length_pos_iff.2 bE;have hne:((s.text.length:Int)==0)=false:=(by simp;omega);have DB:=H.out.lt;have d0:(w.alloc (ai (#[I 0,U false,U false,aa ⟨#[]⟩]) 153)).cell? ⟨R,0,none⟩=_:=(H.out.below ((Below.refl _ _).alloc (bx _) _)).cells.1;have d1:(w.alloc (ai (#[I 0,U false,U false,aa ⟨#[]⟩]) 153)).cell? ⟨R,1,none⟩=_:=(H.out.below ((Below.refl _ _).alloc (bx _) _)).cells.2.1;have d2:(w.alloc (ai (#[I 0,U false,U false,aa ⟨#[]⟩]) 153)).cell? ⟨R,2,none⟩=_:=(H.out.below ((Below.refl _ _).alloc (bx _) _)).cells.2.2.1;have d3:(w.alloc (ai (#[I 0,U false,U false,aa ⟨#[]⟩]) 153)).cell? ⟨R,3,none⟩=_:=(H.out.below ((Below.refl _ _).alloc (bx _) _)).cells.2.2.2.1;have d4:(w.alloc (ai (#[I 0,U false,U false,aa ⟨#[]⟩]) 153)).cell? ⟨R,4,none⟩=_:=(H.out.below ((Below.refl _ _).alloc (bx _) _)).cells.2.2.2.2;have an2:=hI.str (P:=Tryz.prog) (w:=(w.alloc (ai (#[I 0,U false,U false,aa ⟨#[]⟩]) 153)).drew) (p:=p) (l:=s.text) (mQ.below (((Below.refl _ _).alloc (bx _) _).drew)) 52 5 9 Cn O8 O9 s.text.length cap rfl;have AA:=hI.str (P:=Tryz.prog) (w:=w.drew) (p:=p) (l:=s.text) mQ 52 5 9 Cn O8 O9 s.text.length cap rfl;clear aA dA pP;go_enter Tryz.func128,Tryz.ntmps128;go_upto_region 3 with fail;have lZ:((s.inner:Int)==0)=decide (s.inner=0):=(by rw[yc];simp);have bH:af (gK B R bM (ad p s.text.length cap) s ((w.alloc (ai (#[I (s.a:Int),U s.group,U (decide (s.inner=0)),aa ⟨s.text.toArray⟩]) 153)).drew)):=H.out.below (((Below.refl _ _).alloc (bx _) _).drew);have db:af (((w.alloc (ai (#[I (s.a:Int),U s.group,U (decide (s.inner=0)),aa ⟨s.text.toArray⟩]) 153)).drew).heap[w.heap.size]?=some (.cells #[I (s.a:Int),U s.group,U (decide (s.inner=0)),aa ⟨s.text.toArray⟩] 153)):=fJ w _;have cC:af (ao w w ((w.alloc (ai (#[I (s.a:Int),U s.group,U (decide (s.inner=0)),aa ⟨s.text.toArray⟩]) 153)).drew)):=((Below.refl _ _).alloc (bx _) _).drew;have abq:(s.inner:Int)≤20000:=(by have:=aO.out.n0;have:=aO.out.n4;omega);go_region
  all_goals
   clear aQ aN aJ c3 bF d0 d1 d2 d3 d4 AA an2 mQ nE DB lZ;generalize (w.alloc (ai (#[I (s.a:Int),U s.group,U (decide (s.inner=0)),aa ⟨s.text.toArray⟩]) 153)).drew=W at bH db cC⊢;obtain⟨_,_,_,c3,bF⟩:=bH.out.cells;have f4:=bH.out.dT 4;by_cases aF:s.group=true
   ·rw[aF] at c3;have e0:=aq aF;clear aF;have jF:af (gK B R bM (ad p s.text.length cap) {s with inner:=s.inner+1} (W.setCell (aj R 4) (I ((s.inner:Int)+1)))):=bH.out.vp (s.inner+1) _ (by omega);have uj:af ((W.setCell (aj R 4) (I ((s.inner:Int)+1))).heap[w.heap.size]?=some (.cells #[I (s.a:Int),U s.group,U (decide (s.inner=0)),aa ⟨s.text.toArray⟩] 153)):=(tn _ _ _ _ (by show w.heap.size≠R;have:=H.out.lt;omega)).trans db.out;have eH:af (Below B w (W.setCell (aj R 4) (I ((s.inner:Int)+1)))):=(cC.out.mono e7.out).setCell (p:=⟨R,4,none⟩) H.out.ge _;go_upto_region 6 with fail;clear bH db cC c3 bF f4;generalize W.setCell (aj R 4) (I ((s.inner:Int)+1))=gB at jF uj eH⊢;obtain⟨i0,hi,dy,dJ,dv⟩:=info_parts Zy;have b8:=aq (And.intro hi (And.intro dy (And.intro dJ dv)));clear hi dy dJ dv;obtain⟨⟨g0,g1,g2,g3⟩,_⟩:=abM uj.out;obtain⟨aQ,aN,aJ,c3,bF⟩:=jF.out.cells;have f0:=jF.out.dT 0;have f1:=jF.out.dT 1;have abu:R<gB.heap.size:=jF.out.lt;have vX:w.heap.size<gB.heap.size:=(Array.getElem?_eq_some_iff.1 uj.out).1;obtain⟨jY,jZ,rfl⟩:=jH jF.out.ws;have k0:s.words.length<20000:=aO.out.en bE;have rb:(Value.slice jY s.words.length jZ).ownBlock≠some R:=m' jF.out.ws jF.out.obj (by decide)
    go_region_law (first|((refine BC _ (by rfl) _ _ _ (by rfl) B 153 i0 (.agg #[I 0,U false,U false,aa ⟨#[]⟩]) 4 32 Tryz.underlying149 b8.out.1 b8.out.2.1 b8.out.2.2.1 b8.out.2.2.2 rfl (by omega) (ad jY s.words.length jZ) s.words.length _ (by rfl) ((jF.out.ws.alloc _).drew) (aj gB.heap.size 0) 1 1 [I (s.a:Int),U s.group,U (decide (s.inner=0)),aa ⟨s.text.toArray⟩] (by rfl) (by rfl) (j8 (cs:= #[I (s.a:Int),U s.group,U (decide (s.inner=0)),aa ⟨s.text.toArray⟩]) (t:=153) (fr:=(0,0)) (fJ gB _)) (by simp[Value.oneCell']) (by omega) (by unfold maxLen;omega) (by omega) (by have:=e7.out;have:=eH.out.size;simp;omega) (gB.heap.size+1) (by simp) ?_;intro ed jc cW c0 ep eX iR;have fS:=(jF.out.push (x:=⟨s.a,s.group,decide (s.inner=0),s.text⟩) (((Below.refl _ _).alloc (bx _) _).drew) ep c0 (dx e7.out eH.out.size)).2.2;have b1:ak cW R 0 _:=A1 cW R 0 _ _ (0,0) fS;have cw:cW.frozen? ⟨R,0,none⟩=false:=by simp[World.frozen?,fS]))|fail)
    all_goals
     obtain⟨hm,ks,_⟩:=jF.out.push (x:=⟨s.a,s.group,decide (s.inner=0),s.text⟩) (((Below.refl _ _).alloc (bx _) _).drew) ep c0 (dx e7.out eH.out.size);have a':=aq (And.intro hm (eH.out.trans ks));clear hm ks c0 ep eX iR fS b1 cw g0 g1 g2 g3 aQ aN aJ c3 bF f0 f1;generalize cW.setCell (aj R 0) (ad (some (aj ed 0)) (s.words.length+1) jc)=fP at a'⊢;obtain⟨aQ,aN,aJ,c3,bF⟩:=a'.out.1.cells;have f1:=a'.out.1.dT 1;have gi:=a'.out.1.clear rfl;have bl:af (gK B R (ag ed 0 (s.words.length+1) jc) (ad p 0 cap) {s with words:=s.words++[⟨s.a,s.group,decide (s.inner=0),s.text⟩],inner:=s.inner+1,text:=[]} (fP.setCell (aj R 1) (ad p 0 cap))∧Below B w (fP.setCell (aj R 1) (ad p 0 cap))):=⟨gi,a'.out.2.setCell H.out.ge _⟩;clear gi;go_wp2_with fail;go_ret;rw[←bw.out];simp only[e0.out,Ga];have Bd:=bl.out.1;have bo:=abN aO.out k0 ⟨s.a,s.group,decide (s.inner=0),s.text⟩ (i:=s.inner+1) (by show s.inner+1≤_;have:=aO.out.n4;omega);rw[e0.out] at Bd bo;exact⟨bl.out.2,rfl,bo,_,_,Bd⟩
   ·rw[Bool.eq_false_iff.2 aF] at c3;have e0:af (s.group=false):=Bool.eq_false_iff.2 aF;clear aF;have jF:af (gK B R bM (ad p s.text.length cap) {s with inner:=s.inner} W):=bH.out;have uj:=db;have eH:af (Below B w W):=cC.out.mono e7.out;go_upto_region 6 with fail;clear bH db cC c3 bF f4;generalize W=gB at jF uj eH⊢;obtain⟨i0,hi,dy,dJ,dv⟩:=info_parts Zy;have b8:=aq (And.intro hi (And.intro dy (And.intro dJ dv)));clear hi dy dJ dv;obtain⟨⟨g0,g1,g2,g3⟩,_⟩:=abM uj.out;obtain⟨aQ,aN,aJ,c3,bF⟩:=jF.out.cells;have f0:=jF.out.dT 0;have f1:=jF.out.dT 1;have abu:R<gB.heap.size:=jF.out.lt;have vX:w.heap.size<gB.heap.size:=(Array.getElem?_eq_some_iff.1 uj.out).1;obtain⟨jY,jZ,rfl⟩:=jH jF.out.ws;have k0:s.words.length<20000:=aO.out.en bE;have rb:(Value.slice jY s.words.length jZ).ownBlock≠some R:=m' jF.out.ws jF.out.obj (by decide)
    go_region_law (first|((refine BC _ (by rfl) _ _ _ (by rfl) B 153 i0 (.agg #[I 0,U false,U false,aa ⟨#[]⟩]) 4 32 Tryz.underlying149 b8.out.1 b8.out.2.1 b8.out.2.2.1 b8.out.2.2.2 rfl (by omega) (ad jY s.words.length jZ) s.words.length _ (by rfl) ((jF.out.ws.alloc _).drew) (aj gB.heap.size 0) 1 1 [I (s.a:Int),U s.group,U (decide (s.inner=0)),aa ⟨s.text.toArray⟩] (by rfl) (by rfl) (j8 (cs:= #[I (s.a:Int),U s.group,U (decide (s.inner=0)),aa ⟨s.text.toArray⟩]) (t:=153) (fr:=(0,0)) (fJ gB _)) (by simp[Value.oneCell']) (by omega) (by unfold maxLen;omega) (by omega) (by have:=e7.out;have:=eH.out.size;simp;omega) (gB.heap.size+1) (by simp) ?_;intro ed jc cW c0 ep eX iR;have fS:=(jF.out.push (x:=⟨s.a,s.group,decide (s.inner=0),s.text⟩) (((Below.refl _ _).alloc (bx _) _).drew) ep c0 (dx e7.out eH.out.size)).2.2;have b1:ak cW R 0 _:=A1 cW R 0 _ _ (0,0) fS;have cw:cW.frozen? ⟨R,0,none⟩=false:=by simp[World.frozen?,fS]))|fail)
    all_goals
     obtain⟨hm,ks,_⟩:=jF.out.push (x:=⟨s.a,s.group,decide (s.inner=0),s.text⟩) (((Below.refl _ _).alloc (bx _) _).drew) ep c0 (dx e7.out eH.out.size);have a':=aq (And.intro hm (eH.out.trans ks));clear hm ks c0 ep eX iR fS b1 cw g0 g1 g2 g3 aQ aN aJ c3 bF f0 f1;generalize cW.setCell (aj R 0) (ad (some (aj ed 0)) (s.words.length+1) jc)=fP at a'⊢;obtain⟨aQ,aN,aJ,c3,bF⟩:=a'.out.1.cells;have f1:=a'.out.1.dT 1;have gi:=a'.out.1.clear rfl;have bl:af (gK B R (ag ed 0 (s.words.length+1) jc) (ad p 0 cap) {s with words:=s.words++[⟨s.a,s.group,decide (s.inner=0),s.text⟩],inner:=s.inner,text:=[]} (fP.setCell (aj R 1) (ad p 0 cap))∧Below B w (fP.setCell (aj R 1) (ad p 0 cap))):=⟨gi,a'.out.2.setCell H.out.ge _⟩;clear gi;go_wp2_with fail;go_ret;rw[←bw.out];simp only[e0.out,wL,if_false];have Bd:=bl.out.1;have bo:=abN aO.out k0 ⟨s.a,s.group,decide (s.inner=0),s.text⟩ (i:=s.inner) (by show s.inner≤_;have:=aO.out.n4;omega);rw[e0.out] at Bd bo;exact⟨bl.out.2,rfl,bo,_,_,Bd⟩
end iS
