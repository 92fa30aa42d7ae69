/-
  An abstract layer over the machine, fourth part: contracts that alter what is handed in; functions that can be computed.
-/
import Derived.Test.YtimbepcdlehjjaaGreatCoreC
namespace Go.Abs
open Go
/-! ### Contracts of functions that alter what is handed to them, or hand out what is their own -/
/-- The key of the i-th block that is handed in; of the j-th that is handed out. -/
def A5o (i:Nat):Key:=(900000+i,0)
def D2n (j:Nat):Key:=(800000+j,0)
def A5g (ko kn:Nat→Key)(q:Key):Key:=cond (Nat.ble 900000 q.1) (ko (q.1 - 900000)) (kn (q.1 - 800000))
def okK (n m:Nat)(q:Key):Bool:=q.2==0&& (Nat.ble 900000 q.1&&Nat.blt (q.1 - 900000) n||Nat.ble 800000 q.1&& !Nat.ble 900000 q.1&&Nat.blt (q.1 - 800000) m)
theorem C56 {n m:Nat}{q:Key}(h:okK n m q=true):(∃i,i<n∧q=A5o i)∨∃j,j<m∧j<100000∧q=D2n j:=by
  obtain ⟨a,b⟩:=q
  simp only [okK,Bool.and_eq_true,Bool.or_eq_true,beq_iff_eq,Nat.ble_eq,Nat.blt_eq,Bool.not_eq_true',Bool.eq_false_iff,ne_eq]at h
  obtain ⟨rfl,h|h⟩:=h
  ·exact .inl ⟨a - 900000,h.2,by simp only [A5o,Prod.mk.injEq,and_true];omega⟩
  ·exact .inr ⟨a - 800000,h.2,by omega,by simp only [D2n,Prod.mk.injEq,and_true];omega⟩
theorem C25 (ko kn:Nat→Key)(i:Nat):A5g ko kn (A5o i)=ko i:=by
  simp only [A5g,A5o]
  rw [show Nat.ble 900000 (900000+i)=true by simp,cond_true,Nat.add_sub_cancel_left]
theorem C7l (ko kn:Nat→Key){j:Nat}(h:j<100000):A5g ko kn (D2n j)=kn j:=by
  simp only [A5g,D2n]
  rw [show Nat.ble 900000 (800000+j)=false by rw [Bool.eq_false_iff,ne_eq,Nat.ble_eq];omega,cond_false,Nat.add_sub_cancel_left]
theorem C26 {i j:Nat}(h:A5o i=A5o j):i=j:=by simp only [A5o,Prod.mk.injEq]at h;omega
def C67 (f:Key→Key):AV→AV
  | .ptr k o=> .ptr (f k) o
  | .sl k=> .sl (f k)
  |x=>x
def C7m (f:Key→Key):AV→AV
  | .agg cs=> .agg (cs.map (C67 f))
  | .fn g fs cs=> .fn g (fs.map (C67 f)) (cs.map (C67 f))
  |x=>C67 f x
def D0y (f:Key→Key):AV→AV
  | .tup cs=> .tup (cs.map (C7m f))
  |x=>C7m f x
def ok0 (p:Key→Bool):AV→Bool
  | .ptr k _=>p k
  | .sl k=>p k
  | .d _=>true
  | .any=>true
  |_=>false
def ok1 (p:Key→Bool):AV→Bool
  | .agg cs=>cs.all (ok0 p)
  | .fn _ fs cs=>fs.all (ok0 p)&&cs.all (ok0 p)
  |x=>ok0 p x
def ok2 (p:Key→Bool):AV→Bool
  | .tup cs=>cs.all (ok1 p)
  |x=>ok1 p x
def B2j (f:Key→Key):Blk→Blk
  | .box ty cs=> .box ty (cs.map (C67 f))
  |b=>b
def okB (p:Key→Bool):Blk→Bool
  | .box _ cs=>cs.all (ok0 p)
  | .arr _ _ _=>true
  | .obj _ _=>false
  | .mp _=>true
section
variable {w:World}{I:Nat→Prop}{ρ ρ':Rho}{p:Key→Bool}{f g:Key→Key}
theorem B4t {α β:Type}{q:α→Bool}{l:List α}{h:α→β}{i:Nat}{c:β}(ha:l.all q=true)(hc:(l.map h)[i]? =some c): ∃x,q x=true∧l[i]? =some x∧h x=c:=by
  obtain ⟨x,hx,e⟩:=B7s hc
  exact ⟨x,List.all_eq_true.1 ha x (List.mem_of_getElem? hx),hx,e⟩
theorem A7q {α β:Type}{h:α→β}{l:List α}{i:Nat}{x:α}(hx:l[i]? =some x):(l.map h)[i]? =some (h x):=by rw [List.getElem?_map,hx];rfl
theorem rr0 {x:AV}{v:Value}(hp:ok0 p x=true)(h:RepV w I ρ (C67 f x) v)(hk: ∀q y,p q=true→ρ (f q)=some y→ρ' (g q)=some y):RepV w I ρ' (C67 g x) v:=by
  cases x with
  |ptr k o=>cases h with|ptr _ _ b h=>exact .ptr _ _ _ (hk k _ hp h)
  |sl k=>cases h with|sl _ _ h=>exact .sl _ _ (hk k _ hp h)
  |d y=>cases h with|d _ _ h=>exact .d _ _ h
  |any=>exact .any _
  |_=>simp [ok0]at hp
theorem rr1 {x:AV}{v:Value}(hp:ok1 p x=true)(h:RepV w I ρ (C7m f x) v)(hk: ∀q y,p q=true→ρ (f q)=some y→ρ' (g q)=some y):RepV w I ρ' (C7m g x) v:=by
  cases x with
  |agg cs=>
   cases h with
   |agg _ vs hl hone hr=>
    refine .agg _ vs (by simpa using hl) (fun i hi=>hone i (by simpa using hi)) (fun i c hc=> ?_)
    obtain ⟨x,h1,h2,rfl⟩:=B4t hp hc
    exact rr0 h1 (hr i _ (A7q h2)) hk
  |fn q fs cs=>
   simp only [ok1,Bool.and_eq_true]at hp
   cases h with
   |fn _ _ _ vfs vcs hl hl' hr hr'=>
    refine .fn _ _ _ vfs vcs (by simpa using hl) (by simpa using hl') (fun i c hc=> ?_) (fun i c hc=> ?_)
    ·obtain ⟨x,h1,h2,rfl⟩:=B4t hp.1 hc
     exact rr0 h1 (hr i _ (A7q h2)) hk
    ·obtain ⟨x,h1,h2,rfl⟩:=B4t hp.2 hc
     exact rr0 h1 (hr' i _ (A7q h2)) hk
  |any=>exact rr0 (p:=p) (f:=f) (x:= .any) hp h hk
  |d y=>exact rr0 (p:=p) (f:=f) (x:= .d y) hp h hk
  |ptr k o=>exact rr0 (p:=p) (f:=f) (x:= .ptr k o) hp h hk
  |sl k=>exact rr0 (p:=p) (f:=f) (x:= .sl k) hp h hk
  |aptr k a b c=>exact rr0 (p:=p) (f:=f) (x:= .aptr k a b c) hp h hk
  |yld k=>exact rr0 (p:=p) (f:=f) (x:= .yld k) hp h hk
  |tup cs=>simp [ok1,ok0]at hp
theorem rr2 {x:AV}{v:Value}(hp:ok2 p x=true)(h:RepV w I ρ (D0y f x) v)(hk: ∀q y,p q=true→ρ (f q)=some y→ρ' (g q)=some y):RepV w I ρ' (D0y g x) v:=by
  cases x with
  |tup cs=>
   cases h with
   |tup _ vs hl hr=>
    refine .tup _ vs (by simpa using hl) (fun i c hc=> ?_)
    obtain ⟨x,h1,h2,rfl⟩:=B4t hp hc
    exact rr1 h1 (hr i _ (A7q h2)) hk
  |any=>exact rr1 (p:=p) (f:=f) (x:= .any) hp h hk
  |d y=>exact rr1 (p:=p) (f:=f) (x:= .d y) hp h hk
  |ptr k o=>exact rr1 (p:=p) (f:=f) (x:= .ptr k o) hp h hk
  |sl k=>exact rr1 (p:=p) (f:=f) (x:= .sl k) hp h hk
  |aptr k a b c=>exact rr1 (p:=p) (f:=f) (x:= .aptr k a b c) hp h hk
  |yld k=>exact rr1 (p:=p) (f:=f) (x:= .yld k) hp h hk
  |agg cs=>exact rr1 (p:=p) (f:=f) (x:= .agg cs) hp h hk
  |fn a b c=>exact rr1 (p:=p) (f:=f) (x:= .fn a b c) hp h hk
theorem rrB {b:Blk}{k k':Key}(hp:okB p b=true)(h:BlkOK w I ρ k (B2j f b))(hkk: ∀y,ρ k=some y→ρ' k'=some y)(hk: ∀q y,p q=true→ρ (f q)=some y→ρ' (g q)=some y):BlkOK w I ρ' k' (B2j g b):=by
  cases b with
  |box ty cs=>
   obtain ⟨b,vs,h1,h2,h3,h4,h5⟩:=h
   refine ⟨b,vs,hkk _ h1,h2,by simpa using h3,h4,fun i c hc=> ?_⟩
   obtain ⟨x,g1,g2,rfl⟩:=B4t hp hc
   exact rr0 g1 (h5 i _ (A7q g2)) hk
  |arr ty sz es=>obtain ⟨x,xs,h1,h2⟩:=h;exact ⟨x,xs,hkk _ h1,h2⟩
  |mp ks=>obtain ⟨g,es,clock,h1,h2⟩:=h;exact ⟨g,es,clock,hkk _ h1,h2⟩
  |obj=>simp [okB]at hp
theorem D04 (x:AV):C67 id x=x:=by cases x<;>rfl
theorem C27:C67 id=id:=funext D04
theorem D05 (x:AV):C7m id x=x:=by
  cases x<;>simp only [C7m,C27,List.map_id]
  all_goals rfl
theorem D06 (b:Blk):B2j id b=b:=by cases b<;>simp only [B2j,C27,List.map_id]
theorem Z0 {k:Key}(b:Blk):N2 ρ k (B2j f b)=N2 ρ k b:=by cases b<;>rfl
theorem A4k {k k':Key}(b:Blk)(h:ρ' k'=ρ k):N2 ρ' k' b=N2 ρ k b:=by cases b<;>simp [N2,h]
end
def C3j:Nat→List Blk→List (Key×Option Blk)
  |_,[]=> []
  |i,b::r=>(A5o i,some b)::C3j (i+1) r
theorem C28: ∀{l:List Blk} {i:Nat} {q:Key} {b:Blk},G (C3j i l) q=some b→∃j,q=A5o (i+j)∧l[j]? =some b
  | [],i,q,b,h=>by cases h
  |x::r,i,q,b,h=>by
   rw [C3j,G]at h
   by_cases e:q=A5o i
   ·rw [if_pos e]at h;cases h;exact ⟨0,e,rfl⟩
   ·rw [if_neg e]at h
    obtain ⟨j,h1,h2⟩:=C28 h
    exact ⟨j+1,by rw [h1];congr 1;omega,by simpa using h2⟩
def okM (avs:List AV)(pre:List Blk)(v:AV)(post:List (Option Blk))(new:List (Option Blk)):Bool:=
  post.length==pre.length&&Nat.ble new.length 6&&avs.all (ok1 (okK pre.length 0))&&pre.all (okB (okK pre.length 0))&&ok2 (okK pre.length new.length) v&&post.all (fun b=>match b with|some b=>okB (okK pre.length new.length) b|none=>true)&&new.all (fun b=>match b with|some b=>okB (okK pre.length new.length) b|none=>true)
def D1y (n:Nat)(v:AV)(post:List (Option Blk))(new:List (Option Blk))(v':AV)(h':F8):Prop:=
  ∃σ:Nat→Key,v'=D0y (A5g A5o σ) v∧(∀i b,post[i]? =some (some b)→h' (A5o i)=some (B2j (A5g A5o σ) b))∧(∀j b,new[j]? =some (some b)→h' (σ j)=some (B2j (A5g A5o σ) b))∧
   (∀j,j<new.length→∀i,i<n→σ j≠A5o i)∧∀j j',j<new.length→j'<new.length→σ j=σ j'→j=j'
/-- Called with these values, where the blocks that are handed in hold this, the function returns the value, and the blocks hold that; the new ones are the caller's. -/
structure MCall (P:Program)(f:FuncId)(avs:List AV)(pre:List Blk)(v:AV)(post:List (Option Blk))(new:List (Option Blk)):Prop where
  ok:okM avs pre v post new=true
  call:ICall P f avs (G (C3j 0 pre)) (D1y pre.length v post new)
def B73 (κ:Nat→Key)(f:Key→Key):Nat→List (Option Blk)→List (Key×Option Blk)
  |_,[]=> []
  |i,b::r=>(κ i,b.map (B2j f))::B73 κ f (i+1) r
def C40 (u S:Nat)(f:Key→Key):Nat→List (Option Blk)→List (Key×Option Blk)
  |_,[]=> []
  |j,b::r=>((S+j,u),b.map (B2j f))::C40 u S f (j+1) r
theorem B81 {κ:Nat→Key}{f:Key→Key}: ∀{l:List (Option Blk)} {i:Nat} {x:Key×Option Blk},x∈B73 κ f i l→∃j b,l[j]? =some b∧x=(κ (i+j),b.map (B2j f))
  | [],i,x,h=>by simp [B73]at h
  |b::r,i,x,h=>by
   rw [B73,List.mem_cons]at h
   rcases h with rfl|h
   ·exact ⟨0,b,rfl,rfl⟩
   ·obtain ⟨j,b',h1,rfl⟩:=B81 h
    exact ⟨j+1,b',by simpa using h1,by rw [show i+ (j+1)=i+1+j by omega]⟩
theorem B82 {u S:Nat}{f:Key→Key}: ∀{l:List (Option Blk)} {i:Nat} {x:Key×Option Blk},x∈C40 u S f i l→∃j b,l[j]? =some b∧x=((S+ (i+j),u),b.map (B2j f))
  | [],i,x,h=>by simp [C40]at h
  |b::r,i,x,h=>by
   rw [C40,List.mem_cons]at h
   rcases h with rfl|h
   ·exact ⟨0,b,rfl,rfl⟩
   ·obtain ⟨j,b',h1,rfl⟩:=B82 h
    exact ⟨j+1,b',by simpa using h1,by rw [show i+ (j+1)=i+1+j by omega]⟩
theorem B1p: ∀(ups:List (Key×Option Blk)) (h:F8) (q:Key) (b:Option Blk),P1 h ups q=b→(q∉ups.map (·.1)∧h q=b)∨(q,b)∈ups
  | [],h,q,b,hb=> .inl ⟨by simp,hb⟩
  |(k,c)::r,h,q,b,hb=>by
   rw [P1]at hb
   rcases B1p r _ q b hb with ⟨h1,h2⟩|h1
   ·by_cases e:q=k
    ·subst e
     rw [C9]at h2
     exact .inr (by rw [h2];simp)
    ·rw [H5 _ _ _ _ e]at h2
     exact .inl ⟨by simp at h1 ⊢;exact ⟨e,h1⟩,h2⟩
   ·exact .inr (by simp [h1])
theorem MCall.frame {P:Program}{f:FuncId}{avs:List AV}{pre:List Blk}{v:AV}{post:List (Option Blk)}{new:List (Option Blk)}{u S:Nat}(hM:MCall P f avs pre v post new)(κ:Nat→Key)
    (hinj: ∀i i',i<pre.length→i'<pre.length→κ i=κ i'→i=i') (preH:F8) (hpre: ∀i b,pre[i]? =some b→preH (κ i)=some (B2j (A5g κ κ) b)):
    FCall P u S f (avs.map (C7m (A5g κ κ))) preH (D0y (A5g κ fun j=>(S+j,u)) v) (B73 κ (A5g κ fun j=>(S+j,u)) 0 post++C40 u S (A5g κ fun j=>(S+j,u)) 0 new):=by
  have hok:=hM.ok
  simp only [okM,Bool.and_eq_true,beq_iff_eq,Nat.ble_eq]at hok
  obtain ⟨⟨⟨⟨⟨⟨hlenP,hlenN⟩,okA⟩,okP⟩,okV⟩,okPo⟩,okN⟩:=hok
  refine ⟨hM.call.1,fun w I ρ h vs H hp hlen hrep hfr=> ?_⟩
  have hh: ∀i b,pre[i]? =some b→h (κ i)=some (B2j (A5g κ κ) b):=fun i b hb=>hp _ _ (hpre i b hb)
  have hρ: ∀i,i<pre.length→∃y,ρ (κ i)=some y:=fun i hi=>(H.blk _ _ (hh i _ (List.getElem?_eq_getElem hi))).rho
  let ρ0:Rho:=fun q=>if okK pre.length 0 q=true then ρ (A5g κ κ q)else none
  have hρ0: ∀i,i<pre.length→ρ0 (A5o i)=ρ (κ i):=by
    intro i hi
    show (if okK pre.length 0 (A5o i)=true then _ else _)=_
    rw [if_pos (by simp [okK,A5o,hi]),C25]
  have hk0: ∀q y,okK pre.length 0 q=true→ρ (A5g κ κ q)=some y→ρ0 (id q)=some y:=by
    intro q y hq hy
    show (if okK pre.length 0 q=true then _ else _)=_
    rw [if_pos hq];exact hy
  have hdom: ∀q b,G (C3j 0 pre) q=some b→∃i,i<pre.length∧q=A5o i∧pre[i]? =some b∧h (κ i)=some (B2j (A5g κ κ) b)∧N2 ρ0 q b=N2 ρ (κ i) (B2j (A5g κ κ) b):=by
    intro q b hq
    obtain ⟨i,rfl,h2⟩:=C28 hq
    rw [Nat.zero_add]
    have hi:i<pre.length:=(List.getElem?_eq_some_iff.1 h2).1
    exact ⟨i,hi,rfl,h2,hh i b h2,by rw [Z0];exact A4k b (hρ0 i hi)⟩
  have H0:HeapOK w I ρ0 (G (C3j 0 pre)):=by
    refine ⟨fun q b hq=> ?_,fun q q' b b' g h1 h2 h3 h4=> ?_,fun q b g h1 h2=> ?_,fun q b g h1 h2=> ?_,H.ilt,⟨1,fun d x hx=> ?_⟩,fun q y hy=> ?_⟩
    ·obtain ⟨i,hi,rfl,h2,h3,_⟩:=hdom q b hq
     have:=rrB (f:=A5g κ κ) (g:=id) (ρ':=ρ0) (k':=A5o i) (List.all_eq_true.1 okP b (List.mem_of_getElem? h2)) (H.blk _ _ h3) (fun y hy=>by rw [hρ0 i hi];exact hy) hk0
     rwa [D06]at this
    ·obtain ⟨i,hi,rfl,_,a3,a4⟩:=hdom q b h1
     obtain ⟨j,hj,rfl,_,b3,b4⟩:=hdom q' b' h2
     rw [a4]at h3;rw [b4]at h4
     rw [hinj i j hi hj (H.sep _ _ _ _ g a3 b3 h3 h4)]
    ·obtain ⟨i,hi,rfl,_,a3,a4⟩:=hdom q b h1
     rw [a4]at h2;exact H.notI _ _ g a3 h2
    ·obtain ⟨i,hi,rfl,_,a3,a4⟩:=hdom q b h1
     rw [a4]at h2;exact H.lt _ _ g a3 h2
    ·show (if okK pre.length 0 (d,x)=true then _ else _)=none
     rw [if_neg]
     intro e
     rcases C56 e with ⟨i,_,e⟩|⟨j,hj,_⟩
     ·simp only [A5o,Prod.mk.injEq]at e;omega
     ·omega
    ·have hy':(if okK pre.length 0 q=true then ρ (A5g κ κ q)else none)=some y:=hy
     split at hy'
     ·exact H.rone _ y hy'
     ·cases hy'
  have hown0: ∀g,own ρ0 (G (C3j 0 pre)) g→own ρ h g:=by
    rintro g ⟨q,b,h1,h2⟩
    obtain ⟨i,hi,rfl,_,a3,a4⟩:=hdom q b h1
    exact ⟨κ i,_,a3,by rw [← a4];exact h2⟩
  have hown1: ∀k b g,h k=some b→(∀i,i<pre.length→k≠κ i)→N2 ρ k b=some g→¬own ρ0 (G (C3j 0 pre)) g:=by
    rintro k b g hk hne hl ⟨q,b',h1,h2⟩
    obtain ⟨i,hi,rfl,_,a3,a4⟩:=hdom q b' h1
    rw [a4]at h2
    exact hne i hi (H.sep _ _ _ _ g hk a3 hl h2)
  have hκS: ∀i j,i<pre.length→j<6→κ i≠(S+j,u):=by
    intro i j hi hj e
    obtain ⟨y,hy⟩:=hρ i hi
    rw [e,hfr j hj]at hy;cases hy
  refine (hM.call.2 w I ρ0 vs H0 (by simpa using hlen) (fun i c hc=> ?_)).mono ?_
  ·have hc':=hrep i _ (A7q hc)
   have:=rr1 (g:=id) (ρ':=ρ0) (List.all_eq_true.1 okA c (List.mem_of_getElem? hc)) hc' hk0
   rwa [D05]at this
  rintro e w' ⟨x,v',I',ρ0',h',rfl,hv',H',T',σ,rfl,hpost,hnew,hσo,hσi⟩
  let ρ1:Rho:=fun q=>if q.2=u∧S≤q.1∧q.1<S+new.length then ρ0' (σ (q.1 - S))else ρ q
  have hle0: ∀i,i<pre.length→ρ0' (A5o i)=ρ (κ i):=by
    intro i hi
    obtain ⟨y,hy⟩:=hρ i hi
    rw [hy];exact T'.rho _ _ (by rw [hρ0 i hi];exact hy)
  have hρ1n: ∀j,j<new.length→ρ1 (S+j,u)=ρ0' (σ j):=by
    intro j hj
    show (if u=u∧S≤S+j∧S+j<S+new.length then _ else _)=_
    rw [if_pos ⟨rfl,by omega,by omega⟩]
    simp
  have hρ1o: ∀q,(∀j,j<new.length→q≠(S+j,u))→ρ1 q=ρ q:=by
    rintro ⟨a,b⟩ hq
    show (if b=u∧S≤a∧a<S+new.length then _ else _)=_
    rw [if_neg]
    rintro ⟨rfl,h1,h2⟩
    exact hq (a - S) (by omega) (by simp only [Prod.mk.injEq,and_true];omega)
  have hρ1κ: ∀i,i<pre.length→ρ1 (κ i)=ρ (κ i):=fun i hi=>hρ1o _ fun j hj=>hκS i j hi (by omega)
  have hle1:ρ.le ρ1:=by
    intro k y hy
    rw [hρ1o]
    ·exact hy
    ·rintro j hj rfl
     rw [hfr j (by omega)]at hy;cases hy
  -- the keys of what is handed out
  have hk1: ∀q y,okK pre.length new.length q=true→ρ0' (A5g A5o σ q)=some y→ρ1 (A5g κ (fun j=>(S+j,u)) q)=some y:=by
    intro q y hq hy
    rcases C56 hq with ⟨i,hi,rfl⟩|⟨j,hj,hj',rfl⟩
    ·rw [C25]at hy ⊢;rw [hρ1κ i hi,← hle0 i hi];exact hy
    ·rw [C7l _ _ hj']at hy ⊢;rw [hρ1n j hj];exact hy
  -- what is touched, as the callee has it
  have htouch: ∀k b,(k,some b)∈B73 κ (A5g κ fun j=>(S+j,u)) 0 post++C40 u S (A5g κ fun j=>(S+j,u)) 0 new→
   ∃q b0,okB (okK pre.length new.length) b0=true∧h' q=some (B2j (A5g A5o σ) b0)∧b=B2j (A5g κ fun j=>(S+j,u)) b0∧ρ1 k=ρ0' q∧((∃i,i<pre.length∧q=A5o i∧k=κ i)∨∃j,j<new.length∧q=σ j∧k=(S+j,u)):=by
    intro k b hm
    rcases List.mem_append.1 hm with hm|hm
    ·obtain ⟨i,b0,h1,h2⟩:=B81 hm
     rw [Nat.zero_add]at h2
     cases b0 with
     |none=>simp at h2
     |some b0=>
      simp only [Option.map_some,Prod.mk.injEq,Option.some.injEq]at h2
      obtain ⟨rfl,rfl⟩:=h2
      have hi:i<pre.length:=by rw [← hlenP];exact (List.getElem?_eq_some_iff.1 h1).1
      exact ⟨A5o i,b0,List.all_eq_true.1 okPo (some b0) (List.mem_of_getElem? h1),hpost i b0 h1,rfl,by rw [hρ1κ i hi,hle0 i hi], .inl ⟨i,hi,rfl,rfl⟩⟩
    ·obtain ⟨j,b0,h1,h2⟩:=B82 hm
     rw [Nat.zero_add]at h2
     cases b0 with
     |none=>simp at h2
     |some b0=>
      simp only [Option.map_some,Prod.mk.injEq,Option.some.injEq]at h2
      obtain ⟨rfl,rfl⟩:=h2
      have hj:j<new.length:=(List.getElem?_eq_some_iff.1 h1).1
      exact ⟨σ j,b0,List.all_eq_true.1 okN (some b0) (List.mem_of_getElem? h1),hnew j b0 h1,rfl,hρ1n j hj, .inr ⟨j,hj,rfl,rfl⟩⟩
  have hinjT: ∀{k k' q q':Key},((∃i,i<pre.length∧q=A5o i∧k=κ i)∨∃j,j<new.length∧q=σ j∧k=(S+j,u))→((∃i,i<pre.length∧q'=A5o i∧k'=κ i)∨∃j,j<new.length∧q'=σ j∧k'=(S+j,u))→q=q'→k=k':=by
    rintro k k' q q' (⟨i,hi,rfl,rfl⟩|⟨j,hj,rfl,rfl⟩) (⟨i',hi',rfl,rfl⟩|⟨j',hj',rfl,rfl⟩) e
    ·rw [C26 e]
    ·exact absurd e.symm (hσo j' hj' i hi)
    ·exact absurd e (hσo j hj i' hi')
    ·rw [hσi j j' hj hj' e]
  -- what is not touched
  have hrest: ∀k b,k∉ (B73 κ (A5g κ fun j=>(S+j,u)) 0 post++C40 u S (A5g κ fun j=>(S+j,u)) 0 new).map (·.1)→h k=some b→(∀i,i<pre.length→k≠κ i)∧ρ1 k=ρ k∧∀g,N2 ρ k b=some g→w'.heap[g]? =w.heap[g]?∧¬own ρ0 (G (C3j 0 pre)) g:=by
    intro k b hn hk
    have hne: ∀i,i<pre.length→k≠κ i:=by
      rintro i hi rfl
      apply hn
      have: ∀(l:List (Option Blk)) (n:Nat),i<l.length→κ (n+i)∈(B73 κ (A5g κ fun j=>(S+j,u)) n l).map (·.1):=by
        intro l
        induction i with
        |zero=>intro n hl;cases l with|nil=>simp at hl|cons=>simp [B73]
        |succ i _=>
         intro n hl
         have key: ∀(i:Nat) (l:List (Option Blk)) (n:Nat),i<l.length→κ (n+i)∈(B73 κ (A5g κ fun j=>(S+j,u)) n l).map (·.1):=by
           intro i
           induction i with
           |zero=>intro l n hl;cases l with|nil=>simp at hl|cons=>simp [B73]
           |succ i ih=>
            intro l n hl
            cases l with
            |nil=>simp at hl
            |cons b r=>
             have:=ih r (n+1) (by simpa using hl)
             rw [show n+1+i=n+ (i+1) by omega]at this
             simp only [B73,List.map_cons,List.mem_cons]
             exact .inr this
         exact key (i+1) l n hl
      rw [List.map_append,List.mem_append]
      exact .inl (by have:=this post 0 (by rw [hlenP];exact hi);rwa [Nat.zero_add]at this)
    refine ⟨hne,?_,fun g hg=>⟨T'.frame g (H.lt k b g hk hg) (hown1 k b g hk hne hg),hown1 k b g hk hne hg⟩⟩
    obtain ⟨y,hy⟩:=(H.blk k b hk).rho
    rw [hle1 k y hy,hy]
  have hfrI: ∀b,I b→w'.heap[b]? =w.heap[b]?:=fun b hb=>T'.frame b (H.ilt b hb) (fun ho=>H0.own_notI ho hb)
  generalize hups:B73 κ (A5g κ fun j=>(S+j,u)) 0 post++C40 u S (A5g κ fun j=>(S+j,u)) 0 new=ups at htouch hrest
  have hcase: ∀k b,P1 h ups k=some b→(h k=some b∧k∉ups.map (·.1))∨(k,some b)∈ups:=fun k b hb=>(B1p ups h k (some b) hb).imp (fun q=>⟨q.2,q.1⟩) id
  have hlocR: ∀k b,h k=some b→k∉ups.map (·.1)→N2 ρ1 k b=N2 ρ k b:=fun k b hb hn=>A4k b (hrest k b hn hb).2.1
  have H1:HeapOK w' I' ρ1 (P1 h ups):=by
    refine ⟨fun k b hb=> ?_,fun k k' b b' g h1 h2 h3 h4=> ?_,fun k b g h1 h2 hi=> ?_,fun k b g h1 h2=> ?_,H'.ilt,?_,fun k y hy=> ?_⟩
    ·rcases hcase k b hb with ⟨a1,a2⟩|hm
     ·exact (H.blk k b a1).keep (fun g hg=>((hrest k b a2 a1).2.2 g hg).1) hfrI T'.imm hle1
     ·obtain ⟨q,b0,c1,c2,rfl,c4,_⟩:=htouch k b hm
      exact rrB c1 (H'.blk _ _ c2) (fun y hy=>by rw [c4];exact hy) hk1
    ·rcases hcase k b h1 with ⟨a1,a2⟩|hm
     ·rw [hlocR k b a1 a2]at h3
      rcases hcase k' b' h2 with ⟨b1,b2⟩|hm'
      ·rw [hlocR k' b' b1 b2]at h4
       exact H.sep k k' b b' g a1 b1 h3 h4
      ·exfalso
       obtain ⟨q,b0,c1,c2,rfl,c4,_⟩:=htouch k' b' hm'
       rw [Z0,A4k b0 c4]at h4
       exact ((hrest k b a2 a1).2.2 g h3).2 (T'.ownBack g ⟨q,_,c2,by rw [Z0];exact h4⟩ (H.lt k b g a1 h3))
     ·obtain ⟨q,b0,c1,c2,rfl,c4,c5⟩:=htouch k b hm
      rw [Z0,A4k b0 c4]at h3
      rcases hcase k' b' h2 with ⟨b1,b2⟩|hm'
      ·exfalso
       rw [hlocR k' b' b1 b2]at h4
       exact ((hrest k' b' b2 b1).2.2 g h4).2 (T'.ownBack g ⟨q,_,c2,by rw [Z0];exact h3⟩ (H.lt k' b' g b1 h4))
      ·obtain ⟨q',b0',d1,d2,rfl,d4,d5⟩:=htouch k' b' hm'
       rw [Z0,A4k b0' d4]at h4
       exact hinjT c5 d5 (H'.sep q q' _ _ g c2 d2 (by rw [Z0];exact h3) (by rw [Z0];exact h4))
    ·rcases hcase k b h1 with ⟨a1,a2⟩|hm
     ·rw [hlocR k b a1 a2]at h2
      rcases T'.immBack g hi (H.lt k b g a1 h2)with q|q
      ·exact H.notI k b g a1 h2 q
      ·exact ((hrest k b a2 a1).2.2 g h2).2 q
     ·obtain ⟨q,b0,c1,c2,rfl,c4,_⟩:=htouch k b hm
      rw [Z0,A4k b0 c4]at h2
      exact H'.notI q _ g c2 (by rw [Z0];exact h2) hi
    ·rcases hcase k b h1 with ⟨a1,a2⟩|hm
     ·rw [hlocR k b a1 a2]at h2
      exact Nat.lt_of_lt_of_le (H.lt k b g a1 h2) T'.size
     ·obtain ⟨q,b0,c1,c2,rfl,c4,_⟩:=htouch k b hm
      rw [Z0,A4k b0 c4]at h2
      exact H'.lt q _ g c2 (by rw [Z0];exact h2)
    ·obtain ⟨u0,hu0⟩:=H.fresh
     refine ⟨max u0 (u+1),fun d x hx=> ?_⟩
     rw [hρ1o _ (fun j _ e=>by simp only [Prod.mk.injEq]at e;omega)]
     exact hu0 d x (by omega)
    ·have hy':(if k.2=u∧S≤k.1∧k.1<S+new.length then ρ0' (σ (k.1 - S))else ρ k)=some y:=hy
     split at hy'
     ·exact H'.rone _ y hy'
     ·exact H.rone _ y hy'
  refine ⟨x,I',ρ1,rfl,rr2 okV hv' hk1,H1,⟨T'.os,T'.tape,T'.output,T'.size,fun b hb hn=>T'.frame b hb (fun ho=>hn (hown0 b ho)),T'.imm,fun b hb hl=>(T'.immBack b hb hl).imp id (hown0 b),?_,hle1⟩,fun k hk=>hρ1o k fun j hj=>hk j (by omega)⟩
  rintro b ⟨k,c,h1,h2⟩ hl
  rcases hcase k c h1 with ⟨a1,a2⟩|hm
  ·exact ⟨k,c,a1,by rw [← hlocR k c a1 a2];exact h2⟩
  ·obtain ⟨q,b0,c1,c2,rfl,c4,_⟩:=htouch k c hm
   rw [Z0,A4k b0 c4]at h2
   exact hown0 b (T'.ownBack b ⟨q,_,c2,by rw [Z0];exact h2⟩ hl)
end Go.Abs
namespace Go.Abs
open Go
theorem C57 {α:Type}{l:List α}(h:l.Nodup){i j:Nat}(hi:i<l.length)(hj:j<l.length)(e:l[i]=l[j]):i=j:=by
  have h':=List.pairwise_iff_getElem.1 h
  rcases Nat.lt_trichotomy i j with q|q|q
  ·exact absurd e (h' i j hi hj q)
  ·exact q
  ·exact absurd e.symm (h' j i hj hi q)
def kap (l:List Key)(i:Nat):Key:=l.getD i (0,0)
section
variable {P:Program}{N:Nat}
/-- Less is known of what is handed in. -/
theorem FCall.le {u S:Nat}{f:FuncId}{avs avs':List AV}{pre pre':F8}{v:AV}{ups:List (Key×Option Blk)}(hF:FCall P u S f avs' pre v ups)(ha:All2 AVle avs avs')(hp: ∀q b,pre q=some b→∃b',pre' q=some b'∧BlkLe b' b)(hu: ∀q b,pre q=some b→q∈ups.map (·.1)):FCall P u S f avs pre' v ups:=by
  refine ⟨hF.1,fun w I ρ h vs H hh hlen hrep hfr=> ?_⟩
  let h1:F8:=fun q=>match pre q with|some b=>some b|none=>h q
  have h1p: ∀q b,pre q=some b→h1 q=some b:=fun q b hb=>by show (match pre q with|some b=>some b|none=>h q)=_;rw [hb]
  have h1n: ∀q,pre q=none→h1 q=h q:=fun q hb=>by show (match pre q with|some b=>some b|none=>h q)=_;rw [hb]
  have S1:Sb ⟨fun _=> .any,h1⟩ ⟨fun _=> .any,h⟩:=by
    refine ⟨fun i=> .any _,fun k b hb=> ?_⟩
    cases hq:pre k with
    |none=>exact ⟨b,by show h k=some b;rw [← h1n k hq];exact hb, .refl b⟩
    |some b0=>
     obtain rfl:b0=b:=by have:=hb;dsimp only at this;rw [h1p k b0 hq]at this;exact Option.some.inj this
     obtain ⟨b',e1,e2⟩:=hp k b0 hq
     exact ⟨b',hh k b' e1,e2⟩
  have hup:P1 h1 ups=P1 h ups:=by
    funext q
    by_cases e:q∈ups.map (·.1)
    ·exact A78 ups _ _ q e
    ·rw [A09 _ _ _ e,A09 _ _ _ e]
     cases hq:pre q with
     |none=>exact h1n q hq
     |some b=>exact absurd (hu q b hq) e
  have hown: ∀g,own ρ h1 g→own ρ h g:=fun g hg=>S1.own hg
  have hown': ∀g,own ρ h g→own ρ h1 g:=by
    rintro g ⟨k,b,e1,e2⟩
    cases hq:pre k with
    |none=>exact ⟨k,b,by rw [h1n k hq];exact e1,e2⟩
    |some b0=>
     obtain ⟨b',g1,g2⟩:=hp k b0 hq
     have:b'=b:=by have:=hh k b' g1;rw [e1]at this;exact (Option.some.inj this).symm
     subst this
     exact ⟨k,b0,h1p k b0 hq,by rw [g2.loc];exact e2⟩
  refine (hF.2 w I ρ h1 vs (S1.heapOK H) h1p (by rw [← ha.length];exact hlen) (fun i c hc=> ?_) hfr).mono ?_
  ·obtain ⟨a,e1,e2⟩:=ha.get hc
   exact e2 _ _ _ _ (hrep i a e1)
  rintro e w' ⟨x,I',ρ',rfl,r1,r2,r3,r4⟩
  rw [hup]at r2 r3
  exact ⟨x,I',ρ',rfl,r1,r2,⟨r3.os,r3.tape,r3.output,r3.size,fun b hb hn=>r3.frame b hb fun ho=>hn (hown b ho),r3.imm,fun b hb hl=>(r3.immBack b hb hl).imp id (hown b),fun b hb hl=>hown b (r3.ownBack b hb hl),r3.rho⟩,r4⟩
/-- What is handed in becomes data. -/
theorem PCall.freezeF {u S:Nat}{f:FuncId}{ds:List D}{r:D}(hp:PCall P f ds r){avs:List AV}{h0:F8}(hd:K2 (K3 h0 6) avs=some ds):
    FCall P u S f avs (L9 h0 (avs.flatMap (P2 h0 6))) (.d r) ((avs.flatMap (P2 h0 6)).map fun k=>(k,none)):=by
  refine ⟨hp.1,fun w I ρ h vs H hh hlen hrep _=> ?_⟩
  have hlive:=A5q avs ds hd
  have heq: ∀q∈avs.flatMap (P2 h0 6),h q=h0 q:=by
    intro q hq
    cases hb:h0 q with
    |none=>exact absurd hb (hlive q hq)
    |some b=>exact hh q b (by unfold L9;rw [if_pos hq,hb])
  have hd':K2 (K3 h 6) avs=some ds:=by rw [← hd];exact A4j avs heq
  rw [← B0t avs heq]
  clear hd hh heq hlive
  generalize hks:avs.flatMap (P2 h 6)=ks at*
  have hks': ∀q∈ks,h q≠none:=by rw [← hks];exact A5q avs ds hd'
  have hU:P1 h (ks.map fun k=>(k,none))=fun q=>if q∈ks then none else h q:=by
    funext q
    by_cases e:q∈ks
    ·rw [if_pos e]
     cases hb:P1 h (ks.map fun k=>(k,none)) q with
     |none=>rfl
     |some b=>
      rcases B1p _ _ _ _ hb with ⟨a,_⟩|a
      ·exact absurd (by simp only [List.map_map,List.mem_map,Function.comp];exact ⟨q,e,rfl⟩) a
      ·simp at a
    ·rw [if_neg e,A09]
     simp only [List.map_map,List.mem_map,Function.comp]
     rintro ⟨x,hx,rfl⟩
     exact e hx
  rw [hU]
  let hk:F8:=L9 h ks
  have hsub: ∀q b,hk q=some b→h q=some b:=by
    intro q b hq
    have:(if q∈ks then h q else none)=some b:=hq
    split at this
    ·exact this
    ·cases this
  let hf:F8:=fun q=>if q∈ks then none else h q
  have hsubf: ∀q b,hf q=some b→h q=some b∧q∉ks:=by
    intro q b hq
    have:(if q∈ks then none else h q)=some b:=hq
    split at this
    ·cases this
    ·exact ⟨this,‹_›⟩
  have H1:=H.sub hsub
  have H2:=H.sub (fun q b hq=>(hsubf q b hq).1)
  have hdk:K2 (K3 hk 6) avs=some ds:=by
    rw [← hd']
    refine A4j avs fun q hq=> ?_
    rw [hks]at hq
    show (if q∈ks then h q else none)=h q
    rw [if_pos hq]
  obtain ⟨l1,l2⟩:=A14 hdk
  have hsep: ∀g,own ρ hf g→¬own ρ hk g:=by
    rintro g ⟨k,b,a1,a2⟩ ⟨k',b',c1,c2⟩
    obtain ⟨e1,e2⟩:=hsubf k b a1
    have:=H.sep k k' b b' g e1 (hsub k' b' c1) a2 c2
    subst this
    apply e2
    have:(if k∈ks then h k else none)=some b':=c1
    split at this
    ·assumption
    ·cases this
  have hI1: ∀b,(I b∨own ρ hk b)→b<w.heap.size:=fun b hb=>by
    rcases hb with h|h
    ·exact H.ilt b h
    ·exact H1.own_lt h
  refine (hp.2 w (fun b=>I b∨own ρ hk b) vs hI1 (by omega) (fun i d hi=>by
    obtain ⟨x,hx,hfx⟩:=l2 i d hi
    exact A3c H1 6 x d _ (hrep i x hx) hfx)).mono ?_
  rintro e w' ⟨x,I',rfl,hr,tr⟩
  have hnI: ∀g,own ρ hf g→¬I' g:=fun g hg hi=>by
    rcases tr.immBack g hi (H2.own_lt hg)with q|q
    ·exact H2.own_notI hg q
    ·exact hsep g hg q
  have H3:HeapOK w' I' ρ hf:=H2.keep (fun g hg=>tr.frame g (H2.own_lt hg)) (fun b hb=>tr.frame b (H.ilt b hb)) (fun b hb=>tr.imm b (.inl hb)) hnI tr.ilt (fun _ _ h=>h) tr.size H.fresh H.rone
  refine ⟨x,I',ρ,rfl, .d _ _ hr,H3,⟨tr.os,tr.tape,tr.output,tr.size,fun b hb _=>tr.frame b hb,fun b hb=>tr.imm b (.inl hb),fun b hb hl=>(tr.immBack b hb hl).imp id fun ⟨k,c,a1,a2⟩=>⟨k,c,hsub k c a1,a2⟩,?_,fun _ _ h=>h⟩,fun _ _=>rfl⟩
  rintro b ⟨k,c,a1,a2⟩ _
  exact ⟨k,c,(hsubf k c a1).1,a2⟩
/-- A pure contract, where what is handed in is untouched and the answer needs no memory of it. -/
theorem ICall.le {f:FuncId}{avs:List AV}{h:F8}{K K':AV→F8→Prop}(hI:ICall P f avs h K)(hk: ∀v h,K v h→K' v h):ICall P f avs h K':=hI.mono hk
/-! ### How such a contract is shown -/
def B74:List AV→Nat→List (Nat×AV)
  | [],_=> []
  |a::r,n=>(n,a)::B74 r (n+1)
theorem B9c: ∀(avs:List AV) (n i:Nat),T (B74 avs n) (n+i)=avs.getD i .any
  | [],n,i=>by simp [B74,D2u]
  |a::r,n,i=>by
   rw [B74,D2t]
   cases i with
   |zero=>rw [if_pos (by simp)];rfl
   |succ i=>rw [if_neg (by omega),show n+ (i+1)=n+1+i by omega,B9c r (n+1) i];rfl
theorem D07 (avs:List AV):C8g avs=T (B74 avs 0):=by
  funext i
  have:=B9c avs 0 i
  rw [Nat.zero_add]at this
  rw [this];rfl
def D31 (h:F8)(f:Key→Key):Nat→List (Option Blk)→Prop
  |_,[]=>True
  |i,b::r=>(match b with|some b=>h (A5o i)=some (B2j f b)|none=>True)∧D31 h f (i+1) r
def newL (h:F8)(f:Key→Key):List Key→List (Option Blk)→Prop
  |_,[]=>True
  | [],_::_=>False
  |k::ks,b::r=>h k=b.map (B2j f)∧newL h f ks r
theorem D1z {d u:Nat}(h:Nat.blt d 900000=true)(i:Nat):(d,u)≠A5o i:=by
  rw [Nat.blt_eq]at h
  intro e
  simp only [A5o,Prod.mk.injEq]at e;omega
end
/-! ### How it is used -/
theorem B4u {h:F8}{n:Nat}{k:Key}{off:Nat}{ty:TypeId}{cs:List AV}{ks:List Key}(hb:h k=some (.box ty cs))(hc:cs.flatMap (P2 h n)=ks):P2 h (n+1) (.ptr k off)=k::ks:=by simp only [P2,hb,hc]
theorem C7n {h:F8}{n:Nat}{k:Key}:P2 h (n+1) (.sl k)= [k]:=rfl
theorem C68 {h:F8}{n:Nat}{x:D}:P2 h n (.d x)= []:=by cases n<;>rfl
theorem D08 {h:F8}{n:Nat}{f:Fn}{fs cs:List AV}{ks ks':List Key}(h1:fs.flatMap (P2 h n)=ks)(h2:cs.flatMap (P2 h n)=ks'):P2 h (n+1) (.fn f fs cs)=ks++ks':=by simp only [P2,h1,h2]
theorem A8v {h:F8}{n:Nat}:([]:List AV).flatMap (P2 h n)= []:=rfl
theorem V1 {h:F8}{n:Nat}{x:AV}{r:List AV}{a b:List Key}(h1:P2 h n x=a)(h2:r.flatMap (P2 h n)=b):(x::r).flatMap (P2 h n)=a++b:=by rw [List.flatMap_cons,h1,h2]
def D20 (h:F8):List Key→List Blk→Prop
  | [],[]=>True
  |k::ks,b::bs=>(∃b',h k=some b'∧BlkLe b' b)∧D20 h ks bs
  |_,_=>False
theorem B83 {h:F8}: ∀{ks:List Key} {bs:List Blk},D20 h ks bs→ks.length=bs.length
  | [],[],_=>rfl
  |_::ks,_::bs,hp=>by simp [B83 hp.2]
  | [],_::_,hp=>hp.elim
  |_::_,[],hp=>hp.elim
theorem C29 {h:F8}: ∀{ks:List Key} {bs:List Blk} {i:Nat} {b:Blk},D20 h ks bs→bs[i]? =some b→kap ks i∈ks∧∃b',h (kap ks i)=some b'∧BlkLe b' b
  | [],[],i,b,_,hb=>by simp at hb
  |k::ks,c::bs,i,b,hp,hb=>by
   cases i with
   |zero=>simp at hb;subst hb;exact ⟨by simp [kap],hp.1⟩
   |succ i=>
    obtain ⟨g1,g2⟩:=C29 (ks:=ks) (bs:=bs) (i:=i) hp.2 (by simpa using hb)
    exact ⟨by simp only [kap,List.getD_cons_succ]at g1 ⊢;exact List.mem_cons_of_mem _ g1,g2⟩
  | [],_::_,_,_,hp,_=>hp.elim
  |_::_,[],_,_,hp,_=>hp.elim
/-- A call of such a function, at the keys of the caller. -/
theorem MCall.at {P:Program}{u S:Nat}{f:FuncId}{avs avs0:List AV}{pre:List Blk}{v:AV}{post:List (Option Blk)}{new:List (Option Blk)}{h:F8}(hM:MCall P f avs0 pre v post new)(κs:List Key)(ks:List Key)
    (hle:All2 AVle avs (avs0.map (C7m (A5g (kap κs) (kap κs))))) (hpre:D20 h κs (pre.map (B2j (A5g (kap κs) (kap κs))))) (hsub: ∀k∈κs,k∈ks) (hnd:κs.Nodup):
    FCall P u S f avs (L9 h ks) (D0y (A5g (kap κs) fun j=>(S+j,u)) v) (B73 (kap κs) (A5g (kap κs) fun j=>(S+j,u)) 0 post++C40 u S (A5g (kap κs) fun j=>(S+j,u)) 0 new):=by
  have hlen:κs.length=pre.length:=by simpa using B83 hpre
  have hok:=hM.ok
  simp only [okM,Bool.and_eq_true,beq_iff_eq,Nat.ble_eq]at hok
  have hinj: ∀i i',i<pre.length→i'<pre.length→kap κs i=kap κs i'→i=i':=by
    intro i i' hi hi' e
    simp only [kap,List.getD,List.getElem?_eq_getElem (show i<κs.length by omega),List.getElem?_eq_getElem (show i'<κs.length by omega),Option.getD_some]at e
    exact C57 hnd (by omega) (by omega) e
  let preH:F8:=fun q=>match (List.range pre.length).find? fun i=>kap κs i==q with
    |some i=>(pre[i]?).map (B2j (A5g (kap κs) (kap κs)))
    |none=>none
  have hat: ∀i b,pre[i]? =some b→preH (kap κs i)=some (B2j (A5g (kap κs) (kap κs)) b):=by
    intro i b hb
    have hi:i<pre.length:=(List.getElem?_eq_some_iff.1 hb).1
    show (match (List.range pre.length).find? fun i'=>kap κs i'==kap κs i with|some i=>(pre[i]?).map (B2j (A5g (kap κs) (kap κs)))|none=>none)=_
    cases hf:(List.range pre.length).find? fun i'=>kap κs i'==kap κs i with
    |none=>
     have:=List.find?_eq_none.1 hf i (by simpa using hi)
     simp at this
    |some j=>
     have h1:=List.find?_some hf
     have h2:=List.mem_of_find?_eq_some hf
     have:=hinj j i (by simpa using h2) hi (by simpa using h1)
     subst this
     simp only [hb,Option.map_some]
  have hinv: ∀q b,preH q=some b→∃i b0,pre[i]? =some b0∧q=kap κs i∧b=B2j (A5g (kap κs) (kap κs)) b0:=by
    intro q b hq
    have hq':(match (List.range pre.length).find? fun i'=>kap κs i'==q with|some i=>(pre[i]?).map (B2j (A5g (kap κs) (kap κs)))|none=>none)=some b:=hq
    split at hq'
    ·rename_i j hf
     have h1:=List.find?_some hf
     simp only [Option.map_eq_some_iff]at hq'
     obtain ⟨b0,e1,rfl⟩:=hq'
     exact ⟨j,b0,e1,(by simpa using h1:kap κs j=q).symm,rfl⟩
    ·cases hq'
  refine FCall.le (hM.frame (kap κs) hinj preH hat) hle (fun q b hq=> ?_) (fun q b hq=> ?_)
  ·obtain ⟨i,b0,e1,rfl,rfl⟩:=hinv q b hq
   obtain ⟨g1,b',g2,g3⟩:=C29 hpre (A7q e1)
   exact ⟨b',by unfold L9;rw [if_pos (hsub _ g1)];exact g2,g3⟩
  ·obtain ⟨i,b0,e1,rfl,rfl⟩:=hinv q b hq
   rw [List.map_append,List.mem_append]
   left
   have hi:i<post.length:=by rw [hok.1.1.1.1.1.1];exact (List.getElem?_eq_some_iff.1 e1).1
   have key: ∀(i:Nat) (l:List (Option Blk)) (n:Nat) (f:Key→Key),i<l.length→kap κs (n+i)∈(B73 (kap κs) f n l).map (·.1):=by
     intro i
     induction i with
     |zero=>intro l n f hl;cases l with|nil=>simp at hl|cons=>simp [B73]
     |succ i ih=>
      intro l n f hl
      cases l with
      |nil=>simp at hl
      |cons b r=>
       have:=ih r (n+1) f (by simpa using hl)
       rw [show n+1+i=n+ (i+1) by omega]at this
       simp only [B73,List.map_cons,List.mem_cons]
       exact .inr this
   have:=key i post 0 (A5g (kap κs) fun j=>(S+j,u)) hi
   rwa [Nat.zero_add]at this
theorem D21 {u S:Nat}{κs ks:List Key}{post:List (Option Blk)}{new:List (Option Blk)}{f g:Key→Key}(hsub: ∀k∈κs,k∈ks)(hl:post.length=κs.length)(hn:new.length≤6):
    ∀q∈(B73 (kap κs) f 0 post++C40 u S g 0 new).map (·.1),q∈ks∨∃j,j<6∧q=(S+j,u):=by
  intro q hq
  simp only [List.mem_map,List.mem_append]at hq
  obtain ⟨x,hx|hx,rfl⟩:=hq
  ·obtain ⟨j,b,h1,rfl⟩:=B81 hx
   have hj:j<κs.length:=by rw [← hl];exact (List.getElem?_eq_some_iff.1 h1).1
   left
   refine hsub _ ?_
   simp only [Nat.zero_add,kap,List.getD,List.getElem?_eq_getElem hj,Option.getD_some]
   exact List.getElem_mem _
  ·obtain ⟨j,b,h1,rfl⟩:=B82 hx
   have hj:j<new.length:=(List.getElem?_eq_some_iff.1 h1).1
   exact .inr ⟨j,by omega,by rw [Nat.zero_add]⟩
section
variable {P:Program}{u:Nat}{r:List AOp}{l:List (Nat×AV)}{g:List (Key×Option Blk)}
/-- What a call of such a function asks for, and gives. -/
structure OC (P:Program)(u:Nat)(l:List (Nat×AV))(g:List (Key×Option Blk))(S:Nat)(f:Opd)(args:List Opd)(v:AV)(ks:List Key)(us:List Key)(g':List (Key×Option Blk)):Prop where
  w: ∀K:AV→List (Key×Option Blk)→Prop,(∀ups,ups.map (·.1)=us→P1 (G g) ups=G g'→K v ups)→B3a P u (T l) (G g) S f args K
  ks:A2v (T l) (G g) (.ocall S f args)=ks
theorem C8o {S:Nat}{f:Opd}{args:List Opd}{fid:FuncId}{avs avs0:List AV}{pre:List Blk}{v v':AV}{post:List (Option Blk)}{new:List (Option Blk)}(hM:MCall P fid avs0 pre v post new)(κs ks us:List Key)(g':List (Key×Option Blk))
    (hc:Q0 (T l) f args=some (fid,avs)) (hle:All2 AVle avs (avs0.map (C7m (A5g (kap κs) (kap κs))))) (hks:avs.flatMap (P2 (G g) 6)=ks) (hlive: ∀q∈ks,G g q≠none)
    (hpre:D20 (G g) κs (pre.map (B2j (A5g (kap κs) (kap κs))))) (hsub: ∀k∈κs,k∈ks) (hnd:κs.Nodup) (hv:D0y (A5g (kap κs) fun j=>(S+j,u)) v=v')
    (hus:(B73 (kap κs) (A5g (kap κs) fun j=>(S+j,u)) 0 post++C40 u S (A5g (kap κs) fun j=>(S+j,u)) 0 new).map (·.1)=us)
    (hg:P1 (G g) (B73 (kap κs) (A5g (kap κs) fun j=>(S+j,u)) 0 post++C40 u S (A5g (kap κs) fun j=>(S+j,u)) 0 new)=G g'):OC P u l g S f args v' ks us g':=by
  have hok:=hM.ok
  simp only [okM,Bool.and_eq_true,beq_iff_eq,Nat.ble_eq]at hok
  have hlen:κs.length=pre.length:=by simpa using B83 hpre
  refine ⟨fun K hK=> ?_,by simp only [A2v,hc,hks]⟩
  simp only [B3a,hc,hks]
  refine ⟨v',_,?_,hlive,by rw [← hv];exact hM.at κs ks hle hpre hsub hnd,hK _ hus hg⟩
  exact D21 hsub (by rw [hok.1.1.1.1.1.1,hlen]) hok.1.1.1.1.1.2
/-- What is handed in becomes data. -/
theorem oc_f {S:Nat}{f:Opd}{args:List Opd}{fid:FuncId}{avs:List AV}{ds ds':List D}{v:D}(ks:List Key)(g':List (Key×Option Blk))(hc:Q0 (T l) f args=some (fid,avs))(hd:K2 (K3 (G g) 6) avs=some ds)(hle:All2 DLe ds ds')
    (hp:PCall P fid ds' v) (hks:avs.flatMap (P2 (G g) 6)=ks) (hg:P1 (G g) (ks.map fun k=>(k,none))=G g'):OC P u l g S f args (.d v) ks ks g':=by
  refine ⟨fun K hK=> ?_,by simp only [A2v,hc,hks]⟩
  simp only [B3a,hc]
  refine ⟨.d v,_,fun q hq=> .inl ?_,A5q avs ds hd,(hp.le hle).freezeF hd,hK _ ?_ (by rw [hks];exact hg)⟩
  ·simpa [List.map_map,Function.comp_def] using hq
  ·rw [hks];simp [List.map_map,Function.comp_def]
theorem C69 {K:(Nat→AV)→F8→Prop}{d S:Nat}{f:Opd}{args:List Opd}{v:AV}{ks us:List Key}{g':List (Key×Option Blk)}(h:OC P u l g S f args v ks us g')(hk:T8 P u r (T ((d,v)::l)) (G g') K):T8 P u (⟨some d, .ocall S f args,none⟩::r) (T l) (G g) K:=by
  refine B4s (by simp [A2u]) ?_
  simp only [gW,opW]
  exact h.w _ fun ups _ e=>by rw [e];exact hk
end
end Go.Abs
namespace Go.Abs
open Go
section
variable {P:Program}{N:Nat}
/-- What is handed back, where the blocks at some keys have become data. -/
def B9d (ks:List Key)(t:Nat→AV)(h:F8)(rs:List RV):Option D:=match C4q t h rs with
  |some vs=>match K2 (K3 (L9 h ks) 6) vs with
   |some [d]=>some d
   |some ds=>some (.tup ds)
   |none=>none
  |none=>none
def B84 (h:F8)(ks:List Key):Nat→List (Option Blk)→Prop
  |_,[]=>True
  |i,none::r=>B84 h ks (i+1) r
  |i,some (.box ty cs)::r=>(∃cs' ds ds',h (A5o i)=some (.box ty cs')∧A5o i∉ks∧K2 (K3 (L9 h ks) 6) cs'=some ds∧All2 DLe ds ds'∧cs=ds'.map .d)∧B84 h ks (i+1) r
  |i,some (.arr ty sz es)::r=>(h (A5o i)=some (.arr ty sz es)∧A5o i∉ks)∧B84 h ks (i+1) r
  |_,some (.obj _ _)::_=>False
  |_,some (.mp _)::_=>False
def B65:Nat→List (Option Blk)→List (Key×Option Blk)
  |_,[]=> []
  |i,b::r=>(A5o i,b)::B65 (i+1) r
theorem B9e: ∀{l:List (Option Blk)} {i:Nat} {q:Key} {b:Blk},G (B65 i l) q=some b→∃j,q=A5o (i+j)∧l[j]? =some (some b)
  | [],i,q,b,h=>by cases h
  |x::r,i,q,b,h=>by
   rw [B65,G]at h
   by_cases e:q=A5o i
   ·rw [if_pos e]at h;subst h;exact ⟨0,e,rfl⟩
   ·rw [if_neg e]at h
    obtain ⟨j,h1,h2⟩:=B9e h
    exact ⟨j+1,by rw [h1];congr 1;omega,by simpa using h2⟩
theorem C2a: ∀{l:List (Option Blk)} {i j:Nat} {b:Option Blk},l[j]? =some b→G (B65 i l) (A5o (i+j))=b
  | [],i,j,b,h=>by simp at h
  |x::r,i,j,b,h=>by
   rw [B65,G]
   cases j with
   |zero=>simp at h;subst h;rw [if_pos (by simp)]
   |succ j=>
    rw [if_neg (fun e=>by have:=C26 e;omega),show i+ (j+1)=i+1+j by omega]
    exact C2a (by simpa using h)
theorem B9f {h:F8}{ks:List Key}: ∀{l:List (Option Blk)} {i j:Nat} {b:Blk},B84 h ks i l→l[j]? =some (some b)→A5o (i+j)∉ks∧
    ((∃ty cs' ds ds',b= .box ty (ds'.map .d)∧h (A5o (i+j))=some (.box ty cs')∧K2 (K3 (L9 h ks) 6) cs'=some ds∧All2 DLe ds ds')∨∃ty sz es,b= .arr ty sz es∧h (A5o (i+j))=some (.arr ty sz es))
  | [],i,j,b,_,hb=>by simp at hb
  |x::r,i,j,b,hp,hb=>by
   cases j with
   |zero=>
    simp at hb;subst hb
    cases b with
    |box ty cs=>obtain ⟨⟨cs',ds,ds',a1,a2,a3,a4,rfl⟩,_⟩:=hp;exact ⟨a2, .inl ⟨ty,cs',ds,ds',rfl,a1,a3,a4⟩⟩
    |arr ty sz es=>exact ⟨hp.1.2, .inr ⟨ty,sz,es,rfl,hp.1.1⟩⟩
    |obj=>exact hp.elim
    |mp=>exact hp.elim
   |succ j=>
    have hr:B84 h ks (i+1) r:=by
      cases x with
      |none=>exact hp
      |some x=>cases x<;>first|exact hp.2|exact hp.elim
    have:=B9f hr (by simpa using hb:r[j]? =some (some b))
    rwa [show i+1+j=i+ (j+1) by omega]at this
theorem C58 (f:Key→Key)(ds:List D):(ds.map AV.d).map (C67 f)=ds.map .d:=by rw [List.map_map];rfl
theorem B10 {f:FuncId}{rs:List RV}{ac:AC}(F:FnOK P f N rs ac){avs:List AV}{pre:List Blk}{v:D}{post:List (Option Blk)}(hok:okM avs pre (.d v) post []=true)(hl:avs.length≤N)
    (h:AWL P N none [.c ac] (fun e s=>(e= .nrm∨e= .ret)∧∃ks d',B9d ks s.t s.h rs=some d'∧DLe d' v∧B84 s.h ks 0 post) .nrm ⟨T (B74 avs 0),G (C3j 0 pre)⟩):MCall P f avs pre (.d v) post []:=by
  refine ⟨hok,F.enters,?_⟩
  obtain ⟨fn,c,hf,hb,hN,hrs,⟨M,hc⟩,hn⟩:=F.ex
  intro w I ρ vs H hlen hrep
  have hsim:=B41 (n:=N) H hlen (by omega) hrep
  rw [← hN,D07]at hsim
  refine A7o (Q:=fun e s=>(e= .nrm∨e= .ret)∧∃ks d',B9d ks s.t s.h rs=some d'∧DLe d' v∧B84 s.h ks 0 post) hf hb rfl hsim (by rw [hN];exact h M c hc) ?_
  rintro e s' a' w' I' ρ' ⟨he,ks,d',hv,hle,hp⟩ hs' tr
  have Hs:=hs'.heap
  let hk:F8:=L9 s'.h ks
  have hsub: ∀q b,hk q=some b→s'.h q=some b∧q∈ks:=by
    intro q b hq
    have:(if q∈ks then s'.h q else none)=some b:=hq
    split at this
    ·exact ⟨this,‹_›⟩
    ·cases this
  have Hk:=Hs.sub fun q b hq=>(hsub q b hq).1
  have hg: ∀q b,G (B65 0 post) q=some b→∃b0,s'.h q=some b0∧q∉ks∧N2 ρ' q b=N2 ρ' q b0∧BlkOK w' (fun b=>I' b∨own ρ' hk b) ρ' q b∧∀f,B2j f b=b:=by
    intro q b hq
    obtain ⟨i,rfl,h2⟩:=B9e hq
    rw [Nat.zero_add]
    obtain ⟨h3,h4⟩:=B9f hp h2
    rw [Nat.zero_add]at h3 h4
    rcases h4 with ⟨ty,cs',ds,ds',rfl,a1,a2,a3⟩|⟨ty,sz,es,rfl,a1⟩
    ·refine ⟨_,a1,h3,rfl,?_,fun f=>by simp only [B2j,C58]⟩
     obtain ⟨g,ws,b1,b2,b3,b4,b5⟩:=Hs.blk _ _ a1
     obtain ⟨l1,l2⟩:=A14 a2
     refine ⟨g,ws,b1,b2,by rw [List.length_map,← a3.length,l1];exact b3,b4,fun i c hc=> ?_⟩
     obtain ⟨d1,hd1,rfl⟩:=B7s hc
     obtain ⟨d0,e1,e2⟩:=a3.get hd1
     obtain ⟨x,e3,e4⟩:=l2 i d0 e1
     exact .d _ _ (e2 _ _ _ (A3c Hk 6 x d0 _ (b5 i x e3) e4))
    ·exact ⟨_,a1,h3,rfl,(Hs.blk _ _ a1).keep (fun _ _=>rfl) (fun _ _=>rfl) (fun _ h=> .inl h) (fun _ _ h=>h),fun f=>rfl⟩
  have hownG: ∀g,own ρ' (G (B65 0 post)) g→own ρ' s'.h g:=by
    rintro g ⟨q,b,a1,a2⟩
    obtain ⟨b0,c1,_,c3,_⟩:=hg q b a1
    exact ⟨q,b0,c1,by rw [← c3];exact a2⟩
  have H2:HeapOK w' (fun b=>I' b∨own ρ' hk b) ρ' (G (B65 0 post)):=by
    refine ⟨fun q b hq=>by obtain ⟨_,_,_,_,c,_⟩:=hg q b hq;exact c,fun q q' b b' g h1 h2 h3 h4=> ?_,fun q b g h1 h2 hi=> ?_,fun q b g h1 h2=> ?_,fun b hb=> ?_,Hs.fresh,Hs.rone⟩
    ·obtain ⟨b0,c1,_,c3,_⟩:=hg q b h1
     obtain ⟨b1,d1,_,d3,_⟩:=hg q' b' h2
     rw [c3]at h3;rw [d3]at h4
     exact Hs.sep q q' b0 b1 g c1 d1 h3 h4
    ·obtain ⟨b0,c1,c2,c3,_⟩:=hg q b h1
     rw [c3]at h2
     rcases hi with hi|⟨k,x,e1,e2⟩
     ·exact Hs.notI q b0 g c1 h2 hi
     ·obtain ⟨e3,e4⟩:=hsub k x e1
      have:=Hs.sep q k b0 x g c1 e3 h2 e2
      subst this
      exact c2 e4
    ·obtain ⟨b0,c1,c2,c3,_⟩:=hg q b h1
     rw [c3]at h2
     exact Hs.lt q b0 g c1 h2
    ·rcases hb with hb|hb
     ·exact Hs.ilt b hb
     ·exact Hk.own_lt hb
  unfold B9d at hv
  split at hv
  ·rename_i avs' hres
   obtain ⟨xs,g1,g2,g3⟩:=B1k hs' hrs hres
   have hds: ∀{ds:List D},K2 (K3 hk 6) avs'=some ds→ds.length=xs.length∧∀(i:Nat) d,ds[i]? =some d→RepD w' (fun b=>I' b∨own ρ' hk b) d (xs.getD i undef):=by
     intro ds hds
     obtain ⟨l1,l2⟩:=A14 hds
     refine ⟨by omega,fun i d hd=> ?_⟩
     obtain ⟨x,e3,e4⟩:=l2 i d hd
     exact A3c Hk 6 x d _ (g3 i x e3) e4
   have hfin: ∀x,(results fn a'.tmps).run P w'= .ok x w'→RepD w' (fun b=>I' b∨own ρ' hk b) d' x→
    ∃x,(results fn a'.tmps).run P w'= .ok x w'∧∃x' v' I'' ρ'' h'',Ending.returned x= .returned x'∧RepV w' I'' ρ'' v' x'∧HeapOK w' I'' ρ'' h''∧Tr w I ρ (G (C3j 0 pre)) w' I'' ρ'' h''∧D1y pre.length (.d v) post [] v' h'':=by
     intro x hx hr
     refine ⟨x,hx,x, .d v,_,ρ',G (B65 0 post),rfl, .d _ _ (hle _ _ _ hr),H2,⟨tr.os,tr.tape,tr.output,tr.size,tr.frame,fun b hb=> .inl (tr.imm b hb),fun b hb hl=> ?_,fun b hb hl=>tr.ownBack b (hownG b hb) hl,tr.rho⟩,fun _=>(0,0),rfl,fun i b hb=> ?_,fun j b hb=>by simp at hb,fun j hj=>by simp at hj,fun j j' hj=>by simp at hj⟩
     ·rcases hb with hb|⟨k,x,e1,e2⟩
      ·exact tr.immBack b hb hl
      ·exact .inr (tr.ownBack b ⟨k,x,(hsub k x e1).1,e2⟩ hl)
     ·have h1:G (B65 0 post) (A5o (0+i))=some b:=C2a hb
      rw [Nat.zero_add]at h1
      obtain ⟨_,_,_,_,_,c⟩:=hg _ b h1
      rw [h1,c]
   have hmain: ∃x,(results fn a'.tmps).run P w'= .ok x w'∧RepD w' (fun b=>I' b∨own ρ' hk b) d' x:=by
     split at hv
     ·rename_i d hd
      cases hv
      obtain ⟨l1,l2⟩:=hds hd
      obtain ⟨x,rfl⟩: ∃x,xs= [x]:=by
        cases xs with
        |nil=>simp at l1
        |cons x r=>cases r with
         |nil=>exact ⟨x,rfl⟩
         |cons=>simp at l1
      exact ⟨x,by rw [A7a fn a' w' _ g1];simp,l2 0 _ rfl⟩
     ·rename_i ds hne hd
      cases hv
      obtain ⟨l1,l2⟩:=hds hd
      have hx1: ¬xs.length=1:=by
        intro h1
        rw [← l1]at h1
        obtain ⟨v,rfl⟩:=List.length_eq_one_iff.1 h1
        exact hne v rfl
      exact ⟨_,by rw [A7a fn a' w' _ g1,dif_neg hx1], .tup ds xs l1 l2⟩
     ·cases hv
   obtain ⟨x,hx,hr⟩:=hmain
   obtain ⟨x1,h1,h2⟩:=hfin x hx hr
   exact ⟨he,x1,h1,h2⟩
  ·cases hv
theorem B3b {t:Nat→AV}{h:F8}{rs:List RV}{d d':D}{e:Ex}{post:List (Option Blk)}(he:e= .nrm∨e= .ret)(ks:List Key)(h1:B9d ks t h rs=some d')(h2:DLe d' d)(h3:B84 h ks 0 post):
    (e= .nrm∨e= .ret)∧∃ks d',B9d ks (⟨t,h⟩:St).t (⟨t,h⟩:St).h rs=some d'∧DLe d' d∧B84 (⟨t,h⟩:St).h ks 0 post:=⟨he,ks,d',h1,h2,h3⟩
theorem C59 {t:Nat→AV}{h:F8}{ks:List Key}:B9d ks t h []=some (.tup []):=rfl
theorem B9g {t:Nat→AV}{h:F8}{ks:List Key}{a:RV}{v:AV}{d:D}(hv:C3z t h a=some v)(hr:K3 (L9 h ks) 6 v=some d):B9d ks t h [a]=some d:=by simp only [B9d,C4q,hv,K2,hr]
theorem D09 {h:F8}{ks:List Key}{k:Key}{b:Option Blk}(hm:k∈ks)(hb:h k=b):L9 h ks k=b:=by unfold L9;rw [if_pos hm];exact hb
theorem A6p {h:F8}: ∀q∈([]:List Key),h q≠none:=by simp
theorem A1f {h:F8}{k:Key}{b:Blk}{ks:List Key}(hb:h k=some b)(hr: ∀q∈ks,h q≠none): ∀q∈k::ks,h q≠none:=by
  intro q hq
  rcases List.mem_cons.1 hq with rfl|hq
  ·rw [hb];simp
  ·exact hr q hq
theorem A8w {l:List AV}:All2 AVle l l:=by
  induction l with
  |nil=>exact .nil
  |cons x r ih=>exact .cons (.refl x) ih
theorem B9h {a b x y:Nat}(h:(a==b)=false):((a,x):Key)≠(b,y):=by rintro ⟨⟩;simp at h
theorem nd1 {k:Key}: [k].Nodup:=by simp
theorem nd2 {k k':Key}(h:k≠k'): [k,k'].Nodup:=by simp [h]
theorem O5 {k:Key}:k∉ ([]:List Key):=by simp
theorem C5a {i d u:Nat}{ks:List Key}(h:Nat.blt d 900000=true)(hr:A5o i∉ks):A5o i∉ (d,u)::ks:=by
  simp only [List.mem_cons,not_or]
  exact ⟨fun e=>D1z h i e.symm,hr⟩
theorem B1q {l:List D}:All2 DLe l l:=by
  induction l with
  |nil=>exact .nil
  |cons x r ih=>exact .cons (.refl x) ih
end
end Go.Abs
namespace Go.Abs
open Go
def C0z {α:Type}(t:Nat→AV)(f:α→List D)(sz:Nat):Nat→List (Nat×Nat×Opd)→List α→Prop
  |_,[],[]=>True
  |i,(off,m,x)::ps,a::as=>off=i*sz∧m=sz∧A6k (ev t x)=some ((f a).map .d)∧C0z t f sz (i+1) ps as
  |_,_,_=>False
theorem C7o {α:Type}(pre post vs:List α)(h:vs.length≤post.length):A9p (pre++post) pre.length vs=pre++ (vs++post.drop vs.length):=by
  apply List.ext_getElem?
  intro i
  rw [A1c _ _ _ _ (by simp;omega)]
  by_cases h1:i<pre.length
  ·rw [if_neg (by omega),List.getElem?_append_left h1,List.getElem?_append_left h1]
  ·rw [List.getElem?_append_right (by omega),List.getElem?_append_right (by omega)]
   by_cases h2:i<pre.length+vs.length
   ·rw [if_pos (by omega),List.getElem?_append_left (by omega)]
   ·rw [if_neg (by omega),List.getElem?_append_right (by omega),List.getElem?_drop]
    congr 1;omega
theorem B75 {α:Type}{t:Nat→AV}{f:α→List D}{sz:Nat}(hf: ∀a,(f a).length=sz): ∀(as:List α) (ps:List (Nat×Nat×Opd)) (i:Nat) (pre post:List AV),pre.length=i*sz→post.length=as.length*sz→C0z t f sz i ps as→
    A9y t (pre++post) ps=some (pre++ (as.flatMap f).map .d)
  | [],[],i,pre,post,_,hl,_=>by
    have:post= []:=List.eq_nil_of_length_eq_zero (by simpa using hl)
    subst this;simp [A9y]
  | [],_::_,_,_,_,_,_,hp=>hp.elim
  |_::_,[],_,_,_,_,_,hp=>hp.elim
  |a::as,(off,m,x)::ps,i,pre,post,h1,h2,hp=>by
   obtain ⟨rfl,rfl,hc,hr⟩:=hp
   have hl:post.length=m+as.length*m:=by rw [h2,List.length_cons,Nat.add_mul];omega
   have hv:((f a).map AV.d).length=m:=by simp [hf]
   simp only [A9y,hc,hv,true_and]
   rw [if_pos (by simp [h1,hl]),← h1,C7o _ _ _ (by rw [hv,hl];omega),hv,← List.append_assoc]
   rw [B75 hf as ps (i+1) _ _ (by rw [List.length_append,hv,h1,Nat.add_mul];omega) (by rw [List.length_drop,hl];omega) hr]
   simp
theorem B76 {α:Type}{f:α→List D}{sz:Nat}(hf: ∀a,(f a).length=sz): ∀as:List α,A74 sz as.length (as.flatMap f)=as.map f
  | []=>rfl
  |a::as=>by
   simp only [List.length_cons,A74,List.flatMap_cons,List.map_cons]
   rw [List.take_left' (hf a),List.drop_left' (hf a),B76 hf as]
theorem B9i {α:Type}(z:List α): ∀n,(B3g z n).length=n*z.length
  |0=>by simp [B3g]
  |n+1=>by simp [B3g,B9i z n,Nat.add_mul];omega
theorem B9j: ∀l:List D,A9o (l.map .d)=some l
  | []=>rfl
  |x::r=>by simp [A9o,B9j r]
theorem C5b {α:Type}{t:Nat→AV}{h:F8}{e sz n:Nat}{z:List D}{ps:List (Nat×Nat×Opd)}(f:α→List D)(xs:List α)(hf: ∀a,(f a).length=sz)(hz:z.length=sz)(hn:xs.length=n)(hp:C0z t f sz 0 ps xs)(hm: ∀a,(f a).map nrm=f a):
    O4 t h (.dslice e sz n z ps)=some (.d (.list (xs.map f))):=by
  have:=B75 hf xs ps 0 [] ((B3g z n).map .d) (by simp) (by rw [List.length_map,B9i,hz,hn]) hp
  simp only [List.nil_append]at this
  simp only [O4,this,Option.bind_some,B9j,Option.map_some]
  rw [← hn,B4g,B76 hf,List.map_map,show ((fun x=>List.map nrm x)∘f)=f from funext hm]
/-- A key put into a set. -/
def insm (ks:List Int)(n:Int):List Int:=if n∈ks then ks else ks++ [n]
theorem DLe.bp {xs ys:List D}{off:Nat}(h:All2 (fun x y=>DLe x y∧y.one=true) xs ys):DLe (.bp xs off) (.bp ys off):=by
  intro w I v hv
  cases hv with
  |bp _ _ g vs ty fz hI hg hl hone hr=>
   refine .bp ys off g vs ty fz hI hg (by rw [← h.length];exact hl) (fun i d hi=> ?_) (fun i d hi=> ?_)
   ·obtain ⟨a,_,h2⟩:=h.get hi;exact h2.2
   ·obtain ⟨a,h1,h2⟩:=h.get hi;exact h2.1 _ _ _ (hr i a h1)
section
variable {P:Program}{u:Nat}{r:List AOp}{l:List (Nat×AV)}{g:List (Key×Option Blk)}{t:Nat→AV}{h:F8}
end
end Go.Abs
namespace Go.Abs
open Go
/-! ### Functions that can be computed, and what they say of the plain ones -/
/-- What the one gives, the other one gives. -/
def Le {α:Type}(x y:Option α):Prop:= ∀r,x=some r→y=some r
section
variable {α β γ σ τ:Type}
theorem Le.refl (x:Option α):Le x x:=fun _ h=>h
theorem Le.bind {x y:Option α}{f g:α→Option β}(h:Le x y)(hf: ∀v,Le (f v) (g v)):Le (x.bind f) (y.bind g):=by
  intro r hr
  cases x with
  |none=>cases hr
  |some v=>rw [h v rfl];exact hf v r hr
theorem Le.cond {b:Bool}{x y x' y':Option α}(h:Le x x')(h':Le y y'):Le (cond b x y) (cond b x' y'):=by cases b<;>assumption
theorem Le.ite {p:Prop}[Decidable p]{x y x' y':Option α}(h:Le x x')(h':Le y y'):Le (if p then x else y) (if p then x' else y'):=by split<;>assumption
theorem Le.thenS {x x':Option (Sum σ β)}{f f':σ→Option γ}{g g':β→Option γ}(h:Le x x')(hf: ∀v,Le (f v) (f' v))(hg: ∀v,Le (g v) (g' v)):Le (thenS x f g) (thenS x' f' g'):=by
  intro r hr
  cases x with
  |none=>cases hr
  |some v=>rw [h v rfl];cases v<;>first|exact hf _ r hr|exact hg _ r hr
def A05 (f:σ→Option (Stp σ τ))(s:σ):Option τ:=loopN f 100000 s
theorem Le.loopN {f f':σ→Option (Stp σ τ)}(h: ∀s,Le (f s) (f' s)): ∀(n:Nat) (s:σ),Le (loopN f n s) (loopN f' n s)
  |0,s,r,hr=>by cases hr
  |n+1,s,r,hr=>by
   rw [Abs.loopN]at hr ⊢
   cases hf:f s with
   |none=>rw [hf]at hr;cases hr
   |some x=>
    rw [hf]at hr
    rw [h s x hf]
    cases x with
    |go s'=>exact Le.loopN h n s' r hr
    |out t=>exact hr
theorem Le.loop {f f':σ→Option (Stp σ τ)}(h: ∀s,Le (f s) (f' s))(s:σ):Le (A05 f s) (loop f' s):=fun r hr=>loop_some.2 ⟨_,Le.loopN h _ s r hr⟩
theorem Le.loopL {f f':σ→α→Option (Stp σ τ)}{e:σ→τ}(h: ∀s a,Le (f s a) (f' s a)): ∀(l:List α) (s:σ),Le (loopL f e l s) (loopL f' e l s)
  | [],s,r,hr=>hr
  |a::l,s,r,hr=>by
   rw [Abs.loopL]at hr ⊢
   cases hf:f s a with
   |none=>rw [hf]at hr;cases hr
   |some x=>
    rw [hf]at hr
    rw [h s a x hf]
    cases x with
    |go s'=>exact Le.loopL h l s' r hr
    |out t=>exact hr
end
end Go.Abs
/-! Short names for what the generated proofs use most. -/
namespace Go.Abs
open Go
abbrev oo (d:Nat)(k:AK):AOp:=⟨some d,k,none⟩
abbrev og (d:Nat)(k:AK)(j:Nat):AOp:=⟨some d,k,some (j,true)⟩
abbrev oh (d:Nat)(k:AK)(j:Nat):AOp:=⟨some d,k,some (j,false)⟩
abbrev oe (k:AK):AOp:=⟨none,k,none⟩
abbrev ci (n:Int):Opd:= .c (.v (.int .i64 n))
abbrev cf (n:Nat):Opd:= .c (.fn (.func n) [] [])
abbrev z0:D:= .v (.int .i64 0)
abbrev zf:D:= .v (.bool false)
abbrev di (n:Int):AV:= .d (.v (.int .i64 n))
abbrev db (b:Bool):AV:= .d (bo b)
abbrev dl {α:Type}(e:α→List D)(xs:List α):AV:= .d (.list (List.map e xs))
/-- What lies at the first key with this number. -/
def gl:List (Key×Option Blk)→Nat→Option (Key×Option Blk)
  | [],_=>none
  |(k,b)::l,d=>cond (Nat.beq k.1 d) (some (k,b)) (gl l d)
theorem D0a {b:Option Blk}{k:Key}: ∀{g:List (Key×Option Blk)},gl g k.1=some (k,b)→G g k=b
  | [],h=>by cases h
  |(q,c)::l,h=>by
   unfold gl at h
   cases e:Nat.beq q.1 k.1
   ·rw [e,cond_false]at h
    have ne:k≠q:=by rintro rfl;simp at e
    rw [G,if_neg ne];exact D0a h
   ·rw [e,cond_true]at h
    simp only [Option.some.injEq,Prod.mk.injEq]at h
    obtain ⟨rfl,rfl⟩:=h
    exact G_hit
theorem gq {d u:Nat}{b:Option Blk}{g:List (Key×Option Blk)}(h:gl g d=some ((d,u),b)):G g (d,u)=b:=D0a h
theorem C2b {l:List (Nat×AV)}: ∀{l0:List (Nat×AV)},l0.map (fun p=>(p.1,T l p.1))=l0→sbT (T l) l0
  | [],_=>trivial
  |(i,v)::r,h=>by
   simp only [List.map_cons,List.cons.injEq,Prod.mk.injEq,true_and]at h
   exact ⟨.of h.1,C2b h.2⟩
theorem C2c {g:List (Key×Option Blk)}: ∀{g0:List (Key×Option Blk)},g0.map (fun p=>gl g p.1.1)=g0.map some→sbG (G g) g0
  | [],_=>trivial
  |(k,b)::r,h=>by
   simp only [List.map_cons,List.cons.injEq]at h
   refine ⟨?_,C2c h.2⟩
   cases b with
   |none=>trivial
   |some b=>exact ⟨b,D0a h.1, .refl b⟩
theorem sbr {l l0:List (Nat×AV)}{g g0:List (Key×Option Blk)}(h1:l0.map (fun p=>(p.1,T l p.1))=l0)(h2:g0.map (fun p=>gl g p.1.1)=g0.map some):Sb ⟨T l0,G g0⟩ ⟨T l,G g⟩:=G9 (C2b h1) (C2c h2)
theorem nl {a b:Nat}(h:Nat.ble a b=true):a≤b:=Nat.le_of_ble_eq_true h
theorem bs {α β:Type}{o:Option α}{f:α→Option β}{r:β}{Q:Prop}(h:o.bind f=some r)(k: ∀v,o=some v→f v=some r→Q):Q:=by
  cases o with
  |none=>cases h
  |some v=>exact k v rfl h
theorem js {σ β γ:Type}{x:Option (Sum σ β)}{f:σ→Option γ}{g:β→Option γ}{r:γ}{Q:Prop}(h:thenS x f g=some r)(k: ∀y,x=some y→Sum.elim f g y=some r→Q):Q:=by
  obtain ⟨y,h1,h2⟩:=C3f h
  exact k y h1 h2
section
variable {P:Program}{N u:Nat}{rk:Option Key}{aops:List AOp}{r:List It}{l:List (Nat×AV)}{g:List (Key×Option Blk)}{K:(Nat→AV)→F8→Prop}{Q:Ex→St→Prop}{s:St}
theorem cc {α:Type}{o:Opd}{a b:AC}{c:Bool}{x y z:α}(hc:ev s.t o= .d (.v (.bool c)))(h:cond c x y=z)(h1:c=true→x=z→AWL P N rk (.c a::r) Q .nrm s)(h2:c=false→y=z→AWL P N rk (.c b::r) Q .nrm s):AWL P N rk (.c (.cond o a b)::r) Q .nrm s:=
  D1o c hc (fun e=>h1 e (C8 e h)) (fun e=>h2 e (D1p e h))
theorem sd {d:Nat}{k:AK}{v:D}(h0:A2u k=0)(hv:O4 (T l) (G g) k=some (.d v))(hk:T8 P u aops (T ((d, .d v)::l)) (G g) K):T8 P u (⟨some d,k,none⟩::aops) (T l) (G g) K:=F6 (.d v) h0 hv hk
theorem sp {d:Nat}{k:AK}{q:Key}{n:Nat}(h0:A2u k=0)(hv:O4 (T l) (G g) k=some (.ptr q n))(hk:T8 P u aops (T ((d, .ptr q n)::l)) (G g) K):T8 P u (⟨some d,k,none⟩::aops) (T l) (G g) K:=F6 (.ptr q n) h0 hv hk
theorem sn {d ty:Nat}{k:AK}{q:Key}{n:Nat}{cs:List AV}(h0:B61 k=true)(hv:B4d u d (T l) k=some (.ptr q n, .box ty cs))(hk:T8 P u aops (T ((d, .ptr q n)::l)) (G (((d,u),some (.box ty cs))::g)) K):T8 P u (⟨some d,k,none⟩::aops) (T l) (G g) K:=D2w _ _ h0 hv hk
theorem gv {d j:Nat}{b w:Bool}{k:AK}{v:D}(h0:A2u k=0)(hg:GWt (T l j) b w)(hv:w=true→O4 (T l) (G g) k=some (.d v))(hk:T8 P u aops (T ((d,gd w true (.d v))::l)) (G g) K):T8 P u (⟨some d,k,some (j,b)⟩::aops) (T l) (G g) K:=A28 w (.d v) h0 hg hv hk
theorem sv {d:Nat}{k:AK}{v:D}(hv:((A2u k,O4 (T l) (G g) k):Nat×Option AV)=(0,some (.d v)))(hk:T8 P u aops (T ((d, .d v)::l)) (G g) K):T8 P u (⟨some d,k,none⟩::aops) (T l) (G g) K:=F6 (.d v) (congrArg Prod.fst hv) (congrArg Prod.snd hv) hk
theorem ss {d:Nat}{k:AK}{q:Key}(hv:((A2u k,O4 (T l) (G g) k):Nat×Option AV)=(0,some (.sl q)))(hk:T8 P u aops (T ((d, .sl q)::l)) (G g) K):T8 P u (⟨some d,k,none⟩::aops) (T l) (G g) K:=F6 (.sl q) (congrArg Prod.fst hv) (congrArg Prod.snd hv) hk
theorem sl {d n off:Nat}{p:Opd}{q:Key}{ty:TypeId}{cs:List AV}{v:D}(hp:ev (T l) p= .ptr q off)(hb:G g q=some (.box ty cs))(hv:(cs.drop off).head? =some (.d v))(hk:T8 P u aops (T ((d, .d v)::l)) (G g) K):T8 P u (⟨some d, .load n false p,none⟩::aops) (T l) (G g) K:=F6 (.d v) rfl (B4r hp hb hv) hk
theorem sst {n:Nat}{p x:Opd}{k:Key}{off:Nat}{ty:TypeId}{bs cs:List AV}(hx:((A6k (ev (T l) x),cs.length,ev (T l) p):Option (List AV)×Nat×AV)=(some cs,n, .ptr k off))(hb:G g k=some (.box ty bs))(bs':List AV)(he:((A9p bs off cs,Nat.ble (off+n) bs.length):List AV×Bool)=(bs',true))
    (hk:T8 P u aops (T l) (G ((k,some (.box ty bs'))::g)) K):T8 P u (⟨none, .store n p x,none⟩::aops) (T l) (G g) K:=by
  simp only [Prod.mk.injEq]at hx he
  exact B4q _ _ _ _ _ hx.1 hx.2.1 hx.2.2 hb (Nat.le_of_ble_eq_true he.2) bs' he.1 hk
theorem gp {d j:Nat}{b w:Bool}{k:AK}{q:Key}{n:Nat}(h0:A2u k=0)(hg:GWt (T l j) b w)(hv:w=true→O4 (T l) (G g) k=some (.ptr q n))(hk:T8 P u aops (T ((d,gd w true (.ptr q n))::l)) (G g) K):T8 P u (⟨some d,k,some (j,b)⟩::aops) (T l) (G g) K:=A28 w (.ptr q n) h0 hg hv hk
theorem gt {d j:Nat}{w:Bool}{k:AK}{v:D}(hg:((A2u k,T l j):Nat×AV)=(0, .d (bo w)))(hv:w=true→O4 (T l) (G g) k=some (.d v))(hk:T8 P u aops (T ((d,gd w true (.d v))::l)) (G g) K):T8 P u (⟨some d,k,some (j,true)⟩::aops) (T l) (G g) K:=A28 w (.d v) (congrArg Prod.fst hg) (A0k (congrArg Prod.snd hg)) hv hk
theorem gf {d j:Nat}{w:Bool}{k:AK}{v:D}(hg:((A2u k,T l j):Nat×AV)=(0, .d (bo w)))(hv:(!w)=true→O4 (T l) (G g) k=some (.d v))(hk:T8 P u aops (T ((d,gd (!w) true (.d v))::l)) (G g) K):T8 P u (⟨some d,k,some (j,false)⟩::aops) (T l) (G g) K:=A28 (!w) (.d v) (congrArg Prod.fst hg) (X8 (congrArg Prod.snd hg)) hv hk
theorem sa {d j x:Nat}{c q:Bool}{yo:Opd}(hj:ev (T l) (.t j)= .d (bo c))(hx:ev (T l) (.t x)=gd c true (.d (bo q)))(hy:ev (T l) yo= .d (bo false))(hk:T8 P u aops (T ((d, .d (bo (c&&q)))::l)) (G g) K):T8 P u (⟨some d, .pick (.t j) (.t x) yo,none⟩::aops) (T l) (G g) K:=F6 _ rfl (D1u hj (fun hc=>by rw [hx,A4 hc]) hy) hk
theorem lr {a:AC}(h: ∀u,(∀k,G g k≠none→k.2≠u)→T8 P u aops (T l) (G g) fun t h=>AWL P N rk (.c a::r) Q .nrm ⟨t,h⟩):AWL P N rk (.c (.seq (.reg aops) a)::r) Q .nrm ⟨T l,G g⟩:=A5 (B8 h)
end
section
variable {t:Nat→AV}{h:F8}
theorem vb {op:BinOp}{x y:Opd}{k:IntKind}{a b:Int}{v:Value}{w:Bool}(hx:ev t x=gd w true (.d (.v (.int k a))))(hy:ev t y= .d (.v (.int k b)))(hr:C65 op k a b=some v)(hw:w=true):O4 t h (.bin op x y)=some (.d (.v v)):=
  A0a (by rw [hx,A4 hw]) hy hr
theorem vl {n:Nat}{p:Opd}{k:Key}{off:Nat}{ty:TypeId}{bs:List AV}{v:AV}{w:Bool}(hp:ev t p=gd w true (.ptr k off))(hb:h k=some (.box ty bs))(hv:(bs.drop off).head? =some v)(hw:w=true):O4 t h (.load n false p)=some v:=B4r (by rw [hp,A4 hw]) hb hv
end
end Go.Abs
/-! Own memory among what a call hands out: slices that may be empty. -/
namespace Go.Abs
open Go
/-- A slice of the run's own, or one of nothing. -/
def oE {α:Type}(xs:List α)(k:Key):AV:=match xs with
  | []=> .d (.list [])
  |_=> .sl k
section
variable {t:Nat→AV}{h:F8}
end
theorem AVle.tup {xs ys:List AV}(h:All2 AVle xs ys):AVle (.tup xs) (.tup ys):=by
  intro w I ρ v hv
  cases hv with
  |tup _ vs hl hr=>
   refine .tup _ vs (h.length▸hl) (fun i c hc=> ?_)
   obtain ⟨a,e1,e2⟩:=h.get hc
   exact e2 _ _ _ _ (hr i a e1)
end Go.Abs
/-! Own memory becomes data, wherever that is wanted. -/
namespace Go.Abs
open Go
/-- A value, where the blocks at some keys have become data (h holds these). -/
def FrV (h:F8)(x y:AV):Prop:=AVle x y∨∃d d',K3 h 6 x=some d∧DLe d d'∧y= .d d'
def FrB (h:F8)(ks:List Key)(k:Key)(b:Blk):Prop:=k∉ks∧∃b0,h k=some b0∧(b0=b∨∃ty cs cs',b0= .box ty cs∧b= .box ty cs'∧All2 (FrV (L9 h ks)) cs cs')
def frI (I:Nat→Prop)(ρ:Rho)(h:F8)(ks:List Key):Nat→Prop:=fun b=>I b∨own ρ (L9 h ks) b
section
variable {w:World}{I:Nat→Prop}{ρ:Rho}{h:F8}{ks:List Key}
theorem A32 {q:Key}{b:Blk}(hq:L9 h ks q=some b):h q=some b∧q∈ks:=by
  have:(if q∈ks then h q else none)=some b:=hq
  split at this
  ·exact ⟨this,‹_›⟩
  ·cases this
theorem C5c (H:HeapOK w I ρ h){x y:AV}{v:Value}(hf:FrV (L9 h ks) x y)(hx:RepV w I ρ x v):RepV w (frI I ρ h ks) ρ y v:=by
  rcases hf with q|⟨d,d',h1,h2,rfl⟩
  ·exact (q _ _ _ _ hx).keep (fun _ _=>rfl) (fun _ h=> .inl h) (fun _ _ h=>h)
  ·have Hk:=H.sub fun q b hq=>(A32 (ks:=ks) hq).1
   exact .d _ _ (h2 _ _ _ (A3c Hk 6 x d v hx h1))
theorem B4v {k:Key}{b b0:Blk}(q:b0=b∨∃ty cs cs',b0= .box ty cs∧b= .box ty cs'∧All2 (FrV (L9 h ks)) cs cs'):N2 ρ k b=N2 ρ k b0:=by
  rcases q with rfl|⟨ty,cs,cs',rfl,rfl,_⟩<;>rfl
theorem C5d (H:HeapOK w I ρ h){h':F8}(hh: ∀k b,h' k=some b→FrB h ks k b):HeapOK w (frI I ρ h ks) ρ h':=by
  have Hk:=H.sub fun q b hq=>(A32 (ks:=ks) hq).1
  refine ⟨fun k b hb=> ?_,fun k k' b b' g h1 h2 h3 h4=> ?_,fun k b g h1 h2 hi=> ?_,fun k b g h1 h2=> ?_,fun b hb=> ?_,H.fresh,H.rone⟩
  ·obtain ⟨_,b0,e1,rfl|⟨ty,cs,cs',rfl,rfl,ha⟩⟩:=hh k b hb
   ·exact (H.blk k b0 e1).keep (fun _ _=>rfl) (fun _ _=>rfl) (fun _ h=> .inl h) (fun _ _ h=>h)
   ·obtain ⟨g,vs,b1,b2,b3,b4,b5⟩:=H.blk k _ e1
    refine ⟨g,vs,b1,b2,by rw [← ha.length];exact b3,b4,fun i c hc=> ?_⟩
    obtain ⟨x,g1,g2⟩:=ha.get hc
    exact C5c H g2 (b5 i x g1)
  ·obtain ⟨_,b0,e1,q⟩:=hh k b h1
   obtain ⟨_,b1,e2,q'⟩:=hh k' b' h2
   rw [B4v q]at h3
   rw [B4v q']at h4
   exact H.sep k k' b0 b1 g e1 e2 h3 h4
  ·obtain ⟨n,b0,e1,q⟩:=hh k b h1
   rw [B4v q]at h2
   rcases hi with hi|⟨k',b',e2,e3⟩
   ·exact H.notI k b0 g e1 h2 hi
   ·obtain ⟨e4,e5⟩:=A32 e2
    have:=H.sep k k' b0 b' g e1 e4 h2 e3
    subst this
    exact n e5
  ·obtain ⟨n,b0,e1,q⟩:=hh k b h1
   rw [B4v q]at h2
   exact H.lt k b0 g e1 h2
  ·rcases hb with hb|hb
   ·exact H.ilt b hb
   ·exact Hk.own_lt hb
theorem C8p {h':F8}(hh: ∀k b,h' k=some b→FrB h ks k b){g:Nat}(ho:own ρ h' g):own ρ h g:=by
  obtain ⟨k,b,h1,h2⟩:=ho
  obtain ⟨_,b0,e1,q⟩:=hh k b h1
  exact ⟨k,b0,e1,by rw [← B4v q];exact h2⟩
theorem D22 {h':F8}(hh: ∀k b,h' k=some b→FrB h ks k b):Tr w I ρ h w (frI I ρ h ks) ρ h':=
  ⟨rfl,rfl,rfl,Nat.le_refl _,fun _ _ _=>rfl,fun _ h=> .inl h,fun _ hb _=>hb.imp id fun ⟨k,c,a1,a2⟩=>⟨k,c,(A32 a1).1,a2⟩,fun _ hb _=>C8p hh hb,fun _ _ h=>h⟩
end
section
variable {P:Program}{N:Nat}{rk:Option Key}{s:St}{Q:Ex→St→Prop}
theorem D23 {c:Code}{s0:St}(ks:List Key)(ht: ∀i,FrV (L9 s.h ks) (s.t i) (s0.t i))(hg: ∀k b,s0.h k=some b→FrB s.h ks k b)(h:AWc P N rk c s0 Q):AWc P N rk c s Q:=by
  intro w I ρ a hs ro hro
  have hs0:Sim w (frI I ρ s.h ks) ρ N s0 a:=⟨hs.size,⟨hs.defers.nd,fun d hd=>by
    obtain ⟨r,e1,e2,e3,e4⟩:=hs.defers.each d hd
    exact ⟨r,e1,e2,fun q=>q.elim e3 fun ⟨k,c,a1,a2⟩=>e4 ⟨k,c,(A32 a1).1,a2⟩,fun q=>e4 (C8p hg q)⟩⟩,fun i=>C5c hs.heap (ht i) (hs.tmp i),C5d hs.heap hg⟩
  refine (h w _ ρ a hs0 ro hro).mono ?_
  rintro e a' w' ⟨s',I',ρ',hq,hs',htr,hnd⟩
  exact ⟨s',I',ρ',hq,hs',(D22 hg).trans htr,hnd⟩
end
def frT (h:F8)(t:Nat→AV):List (Nat×AV)→Prop
  | []=>True
  |(i,v)::r=>FrV h (t i) v∧frT h t r
def frG (h:F8)(ks:List Key):List (Key×Option Blk)→Prop
  | []=>True
  |(k,b)::r=>(match b with|some b=>FrB h ks k b|none=>True)∧frG h ks r
theorem C5e {h:F8}{t:Nat→AV}: ∀{l:List (Nat×AV)},frT h t l→∀i,FrV h (t i) (T l i)
  | [],_,i=> .inl (.any _)
  |(j,v)::r,H,i=>by
   rw [T]
   split
   ·rename_i e;subst e;exact H.1
   ·exact C5e H.2 i
theorem C5f {h:F8}{ks:List Key}: ∀{g:List (Key×Option Blk)},frG h ks g→∀k b,G g k=some b→FrB h ks k b
  | [],_,k,b,hb=>by cases hb
  |(j,v)::r,H,k,b,hb=>by
   rw [G]at hb
   split at hb
   ·rename_i e;subst e;subst hb;exact H.1
   ·exact C5f H.2 k b hb
section
variable {P:Program}{N:Nat}{rk:Option Key}{r:List It}{Q:Ex→St→Prop}{l:List (Nat×AV)}{g:List (Key×Option Blk)}
/-- What is the run's own becomes data. -/
theorem l_fr {a:AC}(ks:List Key)(l0:List (Nat×AV))(g0:List (Key×Option Blk))(h1:frT (L9 (G g) ks) (T l) l0)(h2:frG (G g) ks g0)(h:AWL P N rk (.c a::r) Q .nrm ⟨T l0,G g0⟩):AWL P N rk (.c a::r) Q .nrm ⟨T l,G g⟩:=
  fun M c hc=>D23 (s:=⟨T l,G g⟩) ks (C5e h1) (C5f h2) (h M c hc)
end
theorem A6u {h:F8}{x y:AV}(e:x=y):FrV h x y:= .inl (.of e)
theorem fr_d {h:F8}{x:AV}{d d':D}(h1:K3 h 6 x=some d)(h2:DLe d d'):FrV h x (.d d'):= .inr ⟨d,d',h1,h2,rfl⟩
theorem C8q {h:F8}{ks:List Key}{k:Key}{b:Blk}{l:List (Key×Option Blk)}(h1:h k=some b)(hn:k∉ks)(hl:frG h ks l):frG h ks ((k,some b)::l):=⟨⟨hn,b,h1, .inl rfl⟩,hl⟩
theorem C8r {k:Key}:k∉ ([]:List Key):=by simp
theorem C5g {k q:Key}{ks:List Key}(h:k≠q)(hr:k∉ks):k∉q::ks:=by simp [h,hr]
/-- What is handed in becomes data, and what is handed out is the run's own. -/
theorem FCall.fr {P:Program}{u S:Nat}{f:FuncId}{avs:List AV}{ds ds':List D}{v:AV}{ups:List (Key×Option Blk)}{h0:F8}(hF:FCall P u S f (ds'.map .d) (fun _=>none) v ups)(hd:K2 (K3 h0 6) avs=some ds)(hle:All2 DLe ds ds')(_hu: ∀k∈ups.map (·.1),∃j,j<6∧k=(S+j,u)):
    FCall P u S f avs (L9 h0 (avs.flatMap (P2 h0 6))) v ((avs.flatMap (P2 h0 6)).map (fun k=>(k,none))++ups):=by
  refine ⟨hF.1,fun w I ρ h vs H hh hlen hrep hfr=> ?_⟩
  have hlive:=A5q avs ds hd
  have heq: ∀q∈avs.flatMap (P2 h0 6),h q=h0 q:=by
    intro q hq
    cases hb:h0 q with
    |none=>exact absurd hb (hlive q hq)
    |some b=>exact hh q b (by unfold L9;rw [if_pos hq,hb])
  have hd':K2 (K3 h 6) avs=some ds:=by rw [← hd];exact A4j avs heq
  rw [← B0t avs heq]
  clear hd hh heq hlive
  generalize hks:avs.flatMap (P2 h 6)=ks at*
  let hf:F8:=fun q=>if q∈ks then none else h q
  have hff: ∀k b,hf k=some b→FrB h ks k b:=by
    intro q b hq
    have:(if q∈ks then none else h q)=some b:=hq
    split at this
    ·cases this
    ·exact ⟨‹_›,b,this, .inl rfl⟩
  have hU:P1 h (ks.map fun k=>(k,none))=hf:=by
    funext q
    show _=if q∈ks then none else h q
    by_cases e:q∈ks
    ·rw [if_pos e]
     cases hb:P1 h (ks.map fun k=>(k,none)) q with
     |none=>rfl
     |some b=>
      rcases B1p _ _ _ _ hb with ⟨a,_⟩|a
      ·exact absurd (by simp only [List.map_map,List.mem_map,Function.comp];exact ⟨q,e,rfl⟩) a
      ·simp at a
    ·rw [if_neg e,A09]
     simp only [List.map_map,List.mem_map,Function.comp]
     rintro ⟨x,hx,rfl⟩
     exact e hx
  have hUU: ∀(a b:List (Key×Option Blk)) (h:F8),P1 h (a++b)=P1 (P1 h a) b:=by
    intro a
    induction a with
    |nil=>intro b h;rfl
    |cons x a ih=>intro b h;obtain ⟨k,c⟩:=x;exact ih b _
  have H1:=C5d (ks:=ks) H hff
  have hk:K2 (K3 (L9 h ks) 6) avs=some ds:=by
    rw [← hd']
    refine A4j avs fun q hq=> ?_
    rw [hks]at hq
    show (if q∈ks then h q else none)=h q
    rw [if_pos hq]
  obtain ⟨l1,l2⟩:=A14 hk
  have Hk:=H.sub fun q b hq=>(A32 (ks:=ks) hq).1
  refine (hF.2 w (frI I ρ h ks) ρ hf vs H1 (fun q b hq=>by cases hq) (by rw [List.length_map,← hle.length];omega) (fun i c hc=> ?_) hfr).mono ?_
  ·obtain ⟨d',e1,rfl⟩:=B7s hc
   obtain ⟨d,e2,e3⟩:=hle.get e1
   obtain ⟨x,e4,e5⟩:=l2 i d e2
   exact .d _ _ (e3 _ _ _ (A3c Hk 6 x d _ (hrep i x e4) e5))
  rintro e w' ⟨x,I',ρ',rfl,r1,r2,r3,r4⟩
  rw [hUU,hU]
  exact ⟨x,I',ρ',rfl,r1,r2,(D22 hff).trans r3,r4⟩
section
variable {P:Program}{u:Nat}{l:List (Nat×AV)}{g:List (Key×Option Blk)}
end
end Go.Abs
/-! Functions as data: a list of functions, one of which is chosen. -/
namespace Go.Abs
open Go
/-- A function, or none, as data. -/
def fnD:Option Nat→D
  |some f=> .fn (.func f) [] []
  |none=> .v .nilFunc
def getf (l:List (Option Nat))(n:Int):Option Nat:=if 0≤n then (l[n.toNat]?).join else none
/-- One of two functions. -/
theorem B77 {α:Type}{v a:Nat}{x y:Option α}{r:α}(h:cond (Nat.beq v a) x y=some r):v=a∧x=some r∨Nat.beq v a=false∧y=some r:=by
  cases e:Nat.beq v a
  ·rw [e]at h;exact .inr ⟨rfl,h⟩
  ·rw [e]at h;exact .inl ⟨Nat.eq_of_beq_eq_true e,h⟩
end Go.Abs
namespace Go.Abs
open Go
/-- Elements put into a list at a place. -/
def D32 {α:Type}(xs:List α)(i:Int)(ys:List α):Option (List α):=if xs.length≠0∧ys.length≠0∧0≤i∧i≤xs.length∧xs.length+ys.length≤1000000000 then some (xs.take i.toNat++ys++xs.drop i.toNat)else none
/-- The contract of slices.Insert at a type, as it is used. -/
def InsC (P:Program)(f:FuncId)(e sz:Nat):Prop:= ∀(xs ys:List (List D)) (i:Nat),xs≠ []→ys≠ []→i≤xs.length→xs.length+ys.length≤1000000000→
  MCall P f [.sl (900000,0), .d (.v (.int .i64 i)), .sl (900001,0)] [.arr e sz xs, .arr e sz ys] (.sl (800000,0)) [none,none] [some (.arr e sz (xs.take i++ys++xs.drop i))]
end Go.Abs
/-! Shorter proofs: the resolved code need not be written, chains of equal parts. -/
namespace Go.Abs
open Go
/-- What the conversion finds of a function: where its results lie, and its code. -/
def D24 (P:Program)(fn:Func)(N:Nat)(M:C0q):Option (List RV×AC):=
  match fn.results.toList.mapM (C0w P),fn.body with
  |some rs,some c=>match A0p P N M c,fn.name== "runtime.NumGoroutine" with
   |some ac,false=>some (rs,ac)
   |_,_=>none
  |_,_=>none
theorem fk {P:Program}{f:FuncId}{fn:Func}{N:Nat}{rs:List RV}{ac:AC}(h:P.funcs[f]? =some fn)(hn:fn.ntmps=N)(M:C0q)(hc:D24 P fn N M=some (rs,ac)):FnOK P f N rs ac:=by
  unfold D24 at hc
  split at hc
  ·rename_i rs' c hr hb
   split at hc
   ·rename_i ac' hac hx
    simp only [Option.some.injEq,Prod.mk.injEq]at hc
    obtain ⟨rfl,rfl⟩:=hc
    exact ⟨fn,c,h,hb,hn,hr,⟨M,hac⟩,hx⟩
   ·cases hc
  ·cases hc
def m0:C0q:=fun _=> []
theorem rD {h:F8}{n:Nat}{x:D}{r:List AV}{ds:List D}(h2:K2 (K3 h n) r=some ds):K2 (K3 h n) (.d x::r)=some (x::ds):=R0 F7 h2
theorem ca {x:D}{xs ys:List D}(hx:x.one=true)(h:All2 (fun x y=>DLe x y∧y.one=true) xs ys):All2 (fun x y=>DLe x y∧y.one=true) (x::xs) (x::ys):= .cons ⟨.refl _,hx⟩ h
theorem cz: ∀{xs:List D} (_:xs.all D.one=true),All2 (fun x y=>DLe x y∧y.one=true) xs xs
  | [],_=> .nil
  |_::_,h=>by
   simp only [List.all_cons,Bool.and_eq_true]at h
   exact ca h.1 (cz h.2)
theorem cv {x:AV}{xs ys:List AV}(h:All2 AVle xs ys):All2 AVle (x::xs) (x::ys):= .cons (.of rfl) h
theorem cw: ∀{xs:List AV},All2 AVle xs xs
  | []=> .nil
  |_::_=>cv cw
abbrev zs (n:Nat):List AV:=List.replicate n (di 0)
theorem sg {g g0:List (Key×Option Blk)}{d u:Nat}{b:Blk}(h:gl g d=some ((d,u),some b))(r:sbG (G g) g0):sbG (G g) (((d,u),some b)::g0):=B9 (gq h) (.of rfl) r
end Go.Abs
/-! Arrays of values, indexed by what is only known as the program runs. -/
namespace Go.Abs
open Go
def D0z {α:Type}(xs:List α)(n:Int)(a:α):Option (List α):=if 0≤n∧n.toNat<xs.length then some (xs.set n.toNat a)else none
theorem B9k {α:Type}{xs v:List α}{n:Int}{a:α}(h:D0z xs n a=some v):(0≤n∧n.toNat<xs.length)∧v=xs.set n.toNat a:=by
  unfold D0z at h
  split at h
  ·exact ⟨‹_›,(Option.some.inj h).symm⟩
  ·cases h
theorem C5h {α:Type}{xs:List α}{n:Int}{a:α}(h:F0 xs n=some a):0≤n∧n.toNat<xs.length∧xs[n.toNat]? =some a:=by
  unfold F0 at h
  split at h
  ·exact ⟨‹_›,(List.getElem?_eq_some_iff.1 h).1,h⟩
  ·cases h
theorem C2d {α:Type}{f:α→List D}{sz:Nat}(hs: ∀x,(f x).length=sz): ∀{xs:List α} {i:Nat} {a:α},xs[i]? =some a→(((xs.map f).flatten).drop (i*sz)).take sz=f a∧(i+1)*sz≤((xs.map f).flatten).length
  | [],_,_,h=>by simp at h
  |x::r,0,a,h=>by
   simp only [List.getElem?_cons_zero,Option.some.injEq]at h
   subst h
   simp only [List.map_cons,List.flatten_cons,Nat.zero_mul,List.drop_zero,Nat.zero_add,Nat.one_mul,List.length_append,hs]
   refine ⟨?_,by omega⟩
   rw [← hs x,List.take_left]
  |x::r,i+1,a,h=>by
   simp only [List.getElem?_cons_succ]at h
   obtain ⟨h1,h2⟩:=C2d hs h
   simp only [List.map_cons,List.flatten_cons,List.length_append,hs]
   rw [Nat.succ_mul i sz,Nat.add_comm (i*sz) sz,← hs x,List.drop_append,hs x]
   simp only [Nat.add_sub_cancel_left]
   rw [List.drop_eq_nil_of_le (by rw [hs x];omega),List.nil_append]
   exact ⟨h1,by rw [Nat.succ_mul (i+1) sz];omega⟩
section
variable {t:Nat→AV}{h:F8}
theorem B4w {α:Type}{len sz:Nat}{x i:Opd}{k:Key}{off:Nat}{kd:IntKind}{n:Int}{xs:List α}{a:α}(hx:ev t x= .ptr k off)(hi:ev t i= .d (.v (.int kd n)))(hv:F0 xs n=some a)(hl:xs.length=len):O4 t h (.idxP len sz x i)=some (.ptr k (off+n.toNat*sz)):=by
  obtain ⟨h0,h1,_⟩:=C5h hv
  simp only [O4,hx,hi]
  rw [if_pos ⟨h0,hl▸h1⟩]
theorem C8s {α:Type}{sz off:Nat}{bs:List AV}{n:Int}{xs:List α}{a:α}{f:α→List D}(hs: ∀x,(f x).length=sz)(hv:F0 xs n=some a)(hb:(bs.drop off).take (xs.length*sz)=((xs.map f).flatten).map AV.d):
    sz≤(bs.drop (off+n.toNat*sz)).length∧(bs.drop (off+n.toNat*sz)).take sz=(f a).map .d:=by
  obtain ⟨h0,h1,h2⟩:=C5h hv
  obtain ⟨g1,g2⟩:=C2d hs h2
  have hlen:=congrArg List.length hb
  rw [List.length_map,List.length_take,List.length_drop]at hlen
  rw [Nat.add_mul,Nat.one_mul]at g2
  have hle:((xs.map f).flatten).length≤xs.length*sz:=by omega
  have hge:(n.toNat+1)*sz≤xs.length*sz:=Nat.mul_le_mul_right _ h1
  rw [Nat.add_mul,Nat.one_mul]at hge
  refine ⟨by rw [List.length_drop];omega,?_⟩
  have:(((bs.drop off).take (xs.length*sz)).drop (n.toNat*sz)).take sz=((((xs.map f).flatten).map AV.d).drop (n.toNat*sz)).take sz:=by rw [hb]
  rw [List.drop_take,List.take_take,List.drop_drop,← List.map_drop,← List.map_take,g1,Nat.min_eq_left (by omega)]at this
  exact this
theorem C7p {α:Type}{sz off:Nat}{p:Opd}{k:Key}{ty:TypeId}{bs:List AV}{n:Int}{xs:List α}{a:α}{f:α→List D}{v:AV}(hp:ev t p= .ptr k (off+n.toNat*sz))(hb:h k=some (.box ty bs))(hv:F0 xs n=some a)(hs: ∀x,(f x).length=sz)(hc:(bs.drop off).take (xs.length*sz)=((xs.map f).flatten).map AV.d)(hr:A5p ((f a).map .d)=v):O4 t h (.load sz true p)=some v:=by
  obtain ⟨h1,h2⟩:=C8s hs hv hc
  simp only [O4,hp,R2,hb,if_true,h1,h2,hr]
theorem B85 {α:Type}{off:Nat}{p:Opd}{k:Key}{ty:TypeId}{bs:List AV}{n:Int}{xs:List α}{a:α}{f:α→D}(hp:ev t p= .ptr k (off+n.toNat*1))(hb:h k=some (.box ty bs))(hv:F0 xs n=some a)(hc:(bs.drop off).take (xs.length*1)=((xs.map fun x=> [f x]).flatten).map AV.d):O4 t h (.load 1 false p)=some (.d (f a)):=by
  obtain ⟨h1,h2⟩:=C8s (f:=fun x=> [f x]) (fun _=>rfl) hv hc
  simp only [O4,hp,R2,hb,Bool.false_eq_true,if_false]
  cases hd:bs.drop (off+n.toNat*1)with
  |nil=>rw [hd]at h2;cases h2
  |cons x r=>rw [hd]at h2;simp only [List.take_succ_cons,List.take_zero,List.map_cons,List.map_nil,List.cons.injEq,and_true]at h2;rw [h2];rfl
end
theorem D33 {α:Type}{xs v:List α}{n:Int}{a:α}{bs:List AV}(h:D0z xs n a=some v)(e:bs.length=xs.length):0+n.toNat*1+1≤bs.length:=by
  have:=(B9k h).1
  omega
theorem C7q {α:Type}(v:List α)(z:α):(List.range v.length).map (fun j=>v.getD j z)=v:=by
  apply List.ext_getElem?
  intro i
  rw [List.getElem?_map]
  by_cases h:i<v.length
  ·simp [h]
  ·simp [h]
theorem D25 {α:Type}{xs v:List α}{n:Int}{a:α}(g:α→D)(z:α)(h:D0z xs n a=some v):A9p (xs.map fun x=>AV.d (g x)) (0+n.toNat*1) [AV.d (g a)]=(List.range xs.length).map fun j=>AV.d (g (v.getD j z)):=by
  obtain ⟨⟨h0,h1⟩,rfl⟩:=B9k h
  have e:xs.length=(xs.set n.toNat a).length:=by rw [List.length_set]
  rw [e,show (fun j=>AV.d (g ((xs.set n.toNat a).getD j z)))=(fun x=>AV.d (g x))∘fun j=>(xs.set n.toNat a).getD j z from rfl,← List.map_map,C7q]
  simp only [A9p,Nat.zero_add,Nat.mul_one]
  rw [List.map_set]
def D2o (k:IntKind)(a b:Int):Option Int:=if b<0 then none else some (k.wrap (a*2^ (min b.toNat k.bits)))
def D2p (k:IntKind)(a b:Int):Option Int:=if b<0 then none else some (a.fdiv (2^ (min b.toNat k.bits)))
theorem D34 {t:Nat→AV}{h:F8}{x y:Opd}{k k':IntKind}{a b v:Int}(hx:ev t x= .d (.v (.int k a)))(hy:ev t y= .d (.v (.int k' b)))(hv:D2o k a b=some v):O4 t h (.bin .shl x y)=some (.d (.v (.int k v))):=by
  unfold D2o at hv
  split at hv
  ·cases hv
  ·rename_i h1;cases hv;simp only [O4,hx,hy,B0o,Bool.true_or,if_true,C65,if_neg h1,Option.map_some]
theorem D35 {t:Nat→AV}{h:F8}{x y:Opd}{k k':IntKind}{a b v:Int}(hx:ev t x= .d (.v (.int k a)))(hy:ev t y= .d (.v (.int k' b)))(hv:D2p k a b=some v):O4 t h (.bin .shr x y)=some (.d (.v (.int k v))):=by
  unfold D2p at hv
  split at hv
  ·cases hv
  ·rename_i h1;cases hv;simp only [O4,hx,hy,B0o,Bool.true_or,if_true,C65,if_neg h1,Option.map_some]
end Go.Abs
namespace Go.Abs
open Go
section
variable {P:Program}
end
end Go.Abs
/-! Any number of elements, appended in a region that draws its order. -/
namespace Go.Abs
open Go
section
variable {P:Program}{u:Nat}{r:List AOp}{l:List (Nat×AV)}{g:List (Key×Option Blk)}
end
end Go.Abs
/-! Strings. -/
namespace Go.Abs
open Go
def D2q (s:ByteArray)(i:Int):Option Int:=if 0≤i then (s.data.toList[i.toNat]?).map fun b=>(b.toNat:Int)else none
def strc (a b:ByteArray):Option ByteArray:=if a.size+b.size≤1000000000 then some (a++b)else none
def strs (s:ByteArray)(i j:Int):Option ByteArray:=if 0≤i∧i≤j∧j≤s.size then some (s.extract i.toNat j.toNat)else none
section
variable {t:Nat→AV}{h:F8}{x y z:Opd}{s s' v:ByteArray}{k k':IntKind}{i j:Int}
theorem C8t {n:Int}(hx:ev t x= .d (.v (.string s)))(hy:ev t y= .d (.v (.int k i)))(hv:D2q s i=some n):O4 t h (.str .idx [x,y])=some (.d (.v (.int .u8 n))):=by
  unfold D2q at hv
  split at hv
  ·rename_i h0
   rw [Option.map_eq_some_iff]at hv
   obtain ⟨b,hb,rfl⟩:=hv
   simp only [O4,List.map_cons,List.map_nil,hx,hy,B8l,h0,if_true,hb,Option.map_some]
  ·cases hv
end
end Go.Abs
/-! A list that may be empty: the two cases. -/
namespace Go.Abs
open Go
theorem C5i {α β:Type}{xs:List α}{p q:Option β}{r:β}(h:cond xs.isEmpty p q=some r):(xs= []∧p=some r)∨(xs≠ []∧q=some r):=by
  cases xs with
  |nil=>exact .inl ⟨rfl,h⟩
  |cons x xs=>exact .inr ⟨List.cons_ne_nil _ _,h⟩
theorem D26 {α:Type}{k:Key}{xs:List α}(h:xs= []):oS xs k= .d .nilS:=by subst h;rfl
/-- Runs of equal numbers become one. -/
def A2f:List Int→List Int
  | []=> []
  | [x]=> [x]
  |x::y::r=>cond (x==y) (A2f (y::r)) (x::A2f (y::r))
def B44 (p:List Int):Option (List Int):=match p with
  | []=>none
  |x::r=>some (A2f (x::r))
theorem B9l {p r:List Int}(h:B44 p=some r):p≠ []∧r=A2f p:=by
  cases p with
  |nil=>cases h
  |cons x p=>exact ⟨List.cons_ne_nil _ _,(Option.some.inj h).symm⟩
theorem B4x (a:Int): ∀l:List Int,A2f (l++ [a])=A2f l++ (if l.getLast? =some a then []else [a])
  | []=>rfl
  | [x]=>by
    by_cases e:x=a
    ·subst e;simp [A2f]
    ·have:(x==a)=false:=by simp [e]
     simp [A2f,e,this]
  |x::y::r=>by
   have ih:=B4x a (y::r)
   rw [List.cons_append]at ih
   rw [List.cons_append,List.cons_append,A2f,A2f,ih,List.getLast?_cons_cons]
   cases x==y
   ·rfl
   ·rfl
end Go.Abs
