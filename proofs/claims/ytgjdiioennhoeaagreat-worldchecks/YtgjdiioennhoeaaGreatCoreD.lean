/-
  An abstract layer over the machine, fourth part: contracts that alter what is handed in; functions that can be computed.
-/
import Derived.Test.YtgjdiioennhoeaaGreatCoreC
namespace Go.Abs
open Go
/-! ### Contracts of functions that alter what is handed to them, or hand out what is their own -/
/-- The key of the i-th block that is handed in; of the j-th that is handed out. -/
def A6z (i:Nat):Key:=(900000+i,0)
def D7x (j:Nat):Key:=(800000+j,0)
def A6m (ko kn:Nat→Key)(q:Key):Key:=cond (Nat.ble 900000 q.1) (ko (q.1 - 900000)) (kn (q.1 - 800000))
def okK (n m:Nat)(q:Key):Bool:=q.2==0&& (Nat.ble 900000 q.1&&Nat.blt (q.1 - 900000) n||Nat.ble 800000 q.1&& !Nat.ble 900000 q.1&&Nat.blt (q.1 - 800000) m)
theorem D0n {n m:Nat}{q:Key}(h:okK n m q=true):(∃i,i<n∧q=A6z i)∨∃j,j<m∧j<100000∧q=D7x j:=by
  obtain ⟨a,b⟩:=q
  simp only [okK,Bool.and_eq_true,Bool.or_eq_true,beq_iff_eq,Nat.ble_eq,Nat.blt_eq,Bool.not_eq_true',Bool.eq_false_iff,ne_eq]at h
  obtain ⟨rfl,h|h⟩:=h
  ·exact .inl ⟨a - 900000,h.2,by simp only [A6z,Prod.mk.injEq,and_true];omega⟩
  ·exact .inr ⟨a - 800000,h.2,by omega,by simp only [D7x,Prod.mk.injEq,and_true];omega⟩
theorem C7c (ko kn:Nat→Key)(i:Nat):A6m ko kn (A6z i)=ko i:=by
  simp only [A6m,A6z]
  rw [show Nat.ble 900000 (900000+i)=true by simp,cond_true,Nat.add_sub_cancel_left]
theorem D3d (ko kn:Nat→Key){j:Nat}(h:j<100000):A6m ko kn (D7x j)=kn j:=by
  simp only [A6m,D7x]
  rw [show Nat.ble 900000 (800000+j)=false by rw [Bool.eq_false_iff,ne_eq,Nat.ble_eq];omega,cond_false,Nat.add_sub_cancel_left]
theorem C7d {i j:Nat}(h:A6z i=A6z j):i=j:=by simp only [A6z,Prod.mk.injEq]at h;omega
def D1z (f:Key→Key):AV→AV
  | .ptr k o=> .ptr (f k) o
  | .sl k=> .sl (f k)
  |x=>x
def D20 (f:Key→Key):AV→AV
  | .agg cs=> .agg (cs.map (D1z f))
  | .fn g fs cs=> .fn g (fs.map (D1z f)) (cs.map (D1z f))
  |x=>D1z f x
def D3e (f:Key→Key):AV→AV
  | .tup cs=> .tup (cs.map (D20 f))
  |x=>D20 f x
def ok0 (p:Key→Bool):AV→Bool
  | .ptr k _=>p k
  | .sl k=>p k
  | .d _=>true
  | .any=>true
  |_=>false
def ok1 (p:Key→Bool):AV→Bool
  | .agg cs=>cs.all (ok0 p)
  | .fn _ fs cs=>fs.all (ok0 p)&&cs.all (ok0 p)
  |x=>ok0 p x
def ok2 (p:Key→Bool):AV→Bool
  | .tup cs=>cs.all (ok1 p)
  |x=>ok1 p x
def B55 (f:Key→Key):Blk→Blk
  | .box ty cs=> .box ty (cs.map (D1z f))
  |b=>b
def okB (p:Key→Bool):Blk→Bool
  | .box _ cs=>cs.all (ok0 p)
  | .arr _ _ _=>true
  | .obj _ _=>false
  | .mp _=>true
section
variable {w:World}{I:Nat→Prop}{ρ ρ':Rho}{p:Key→Bool}{f g:Key→Key}
theorem B9y {α β:Type}{q:α→Bool}{l:List α}{h:α→β}{i:Nat}{c:β}(ha:l.all q=true)(hc:(l.map h)[i]? =some c): ∃x,q x=true∧l[i]? =some x∧h x=c:=by
  obtain ⟨x,hx,e⟩:=B9r hc
  exact ⟨x,List.all_eq_true.1 ha x (List.mem_of_getElem? hx),hx,e⟩
theorem B2x {α β:Type}{h:α→β}{l:List α}{i:Nat}{x:α}(hx:l[i]? =some x):(l.map h)[i]? =some (h x):=by rw [List.getElem?_map,hx];rfl
theorem rr0 {x:AV}{v:Value}(hp:ok0 p x=true)(h:RepV w I ρ (D1z f x) v)(hk: ∀q y,p q=true→ρ (f q)=some y→ρ' (g q)=some y):RepV w I ρ' (D1z g x) v:=by
  cases x with
  |ptr k o=>cases h with|ptr _ _ b h=>exact .ptr _ _ _ (hk k _ hp h)
  |sl k=>cases h with|sl _ _ h=>exact .sl _ _ (hk k _ hp h)
  |d y=>cases h with|d _ _ h=>exact .d _ _ h
  |any=>exact .any _
  |_=>simp [ok0]at hp
theorem rr1 {x:AV}{v:Value}(hp:ok1 p x=true)(h:RepV w I ρ (D20 f x) v)(hk: ∀q y,p q=true→ρ (f q)=some y→ρ' (g q)=some y):RepV w I ρ' (D20 g x) v:=by
  cases x with
  |agg cs=>
   cases h with
   |agg _ vs hl hone hr=>
    refine .agg _ vs (by simpa using hl) (fun i hi=>hone i (by simpa using hi)) (fun i c hc=> ?_)
    obtain ⟨x,h1,h2,rfl⟩:=B9y hp hc
    exact rr0 h1 (hr i _ (B2x h2)) hk
  |fn q fs cs=>
   simp only [ok1,Bool.and_eq_true]at hp
   cases h with
   |fn _ _ _ vfs vcs hl hl' hr hr'=>
    refine .fn _ _ _ vfs vcs (by simpa using hl) (by simpa using hl') (fun i c hc=> ?_) (fun i c hc=> ?_)
    ·obtain ⟨x,h1,h2,rfl⟩:=B9y hp.1 hc
     exact rr0 h1 (hr i _ (B2x h2)) hk
    ·obtain ⟨x,h1,h2,rfl⟩:=B9y hp.2 hc
     exact rr0 h1 (hr' i _ (B2x h2)) hk
  |any=>exact rr0 (p:=p) (f:=f) (x:= .any) hp h hk
  |d y=>exact rr0 (p:=p) (f:=f) (x:= .d y) hp h hk
  |ptr k o=>exact rr0 (p:=p) (f:=f) (x:= .ptr k o) hp h hk
  |sl k=>exact rr0 (p:=p) (f:=f) (x:= .sl k) hp h hk
  |aptr k a b c=>exact rr0 (p:=p) (f:=f) (x:= .aptr k a b c) hp h hk
  |yld k=>exact rr0 (p:=p) (f:=f) (x:= .yld k) hp h hk
  |tup cs=>simp [ok1,ok0]at hp
theorem rr2 {x:AV}{v:Value}(hp:ok2 p x=true)(h:RepV w I ρ (D3e f x) v)(hk: ∀q y,p q=true→ρ (f q)=some y→ρ' (g q)=some y):RepV w I ρ' (D3e g x) v:=by
  cases x with
  |tup cs=>
   cases h with
   |tup _ vs hl hr=>
    refine .tup _ vs (by simpa using hl) (fun i c hc=> ?_)
    obtain ⟨x,h1,h2,rfl⟩:=B9y hp hc
    exact rr1 h1 (hr i _ (B2x h2)) hk
  |any=>exact rr1 (p:=p) (f:=f) (x:= .any) hp h hk
  |d y=>exact rr1 (p:=p) (f:=f) (x:= .d y) hp h hk
  |ptr k o=>exact rr1 (p:=p) (f:=f) (x:= .ptr k o) hp h hk
  |sl k=>exact rr1 (p:=p) (f:=f) (x:= .sl k) hp h hk
  |aptr k a b c=>exact rr1 (p:=p) (f:=f) (x:= .aptr k a b c) hp h hk
  |yld k=>exact rr1 (p:=p) (f:=f) (x:= .yld k) hp h hk
  |agg cs=>exact rr1 (p:=p) (f:=f) (x:= .agg cs) hp h hk
  |fn a b c=>exact rr1 (p:=p) (f:=f) (x:= .fn a b c) hp h hk
theorem rrB {b:Blk}{k k':Key}(hp:okB p b=true)(h:BlkOK w I ρ k (B55 f b))(hkk: ∀y,ρ k=some y→ρ' k'=some y)(hk: ∀q y,p q=true→ρ (f q)=some y→ρ' (g q)=some y):BlkOK w I ρ' k' (B55 g b):=by
  cases b with
  |box ty cs=>
   obtain ⟨b,vs,h1,h2,h3,h4,h5⟩:=h
   refine ⟨b,vs,hkk _ h1,h2,by simpa using h3,h4,fun i c hc=> ?_⟩
   obtain ⟨x,g1,g2,rfl⟩:=B9y hp hc
   exact rr0 g1 (h5 i _ (B2x g2)) hk
  |arr ty sz es=>obtain ⟨x,xs,h1,h2⟩:=h;exact ⟨x,xs,hkk _ h1,h2⟩
  |mp ks=>obtain ⟨g,es,clock,h1,h2⟩:=h;exact ⟨g,es,clock,hkk _ h1,h2⟩
  |obj=>simp [okB]at hp
theorem D67 (x:AV):D1z id x=x:=by cases x<;>rfl
theorem C7e:D1z id=id:=funext D67
theorem D68 (x:AV):D20 id x=x:=by
  cases x<;>simp only [D20,C7e,List.map_id]
  all_goals rfl
theorem D69 (b:Blk):B55 id b=b:=by cases b<;>simp only [B55,C7e,List.map_id]
theorem A20 {k:Key}(b:Blk):V0 ρ k (B55 f b)=V0 ρ k b:=by cases b<;>rfl
theorem A8i {k k':Key}(b:Blk)(h:ρ' k'=ρ k):V0 ρ' k' b=V0 ρ k b:=by cases b<;>simp [V0,h]
end
def C3t:Nat→List Blk→List (Key×Option Blk)
  |_,[]=> []
  |i,b::r=>(A6z i,some b)::C3t (i+1) r
theorem C7f: ∀{l:List Blk} {i:Nat} {q:Key} {b:Blk},G (C3t i l) q=some b→∃j,q=A6z (i+j)∧l[j]? =some b
  | [],i,q,b,h=>by cases h
  |x::r,i,q,b,h=>by
   rw [C3t,G]at h
   by_cases e:q=A6z i
   ·rw [if_pos e]at h;cases h;exact ⟨0,e,rfl⟩
   ·rw [if_neg e]at h
    obtain ⟨j,h1,h2⟩:=C7f h
    exact ⟨j+1,by rw [h1];congr 1;omega,by simpa using h2⟩
def okM (avs:List AV)(pre:List Blk)(v:AV)(post:List (Option Blk))(new:List (Option Blk)):Bool:=
  post.length==pre.length&&Nat.ble new.length 6&&avs.all (ok1 (okK pre.length 0))&&pre.all (okB (okK pre.length 0))&&ok2 (okK pre.length new.length) v&&post.all (fun b=>match b with|some b=>okB (okK pre.length new.length) b|none=>true)&&new.all (fun b=>match b with|some b=>okB (okK pre.length new.length) b|none=>true)
def C2u (n:Nat)(v:AV)(post:List (Option Blk))(new:List (Option Blk))(v':AV)(h':J2):Prop:=
  ∃σ:Nat→Key,v'=D3e (A6m A6z σ) v∧(∀i b,post[i]? =some (some b)→h' (A6z i)=some (B55 (A6m A6z σ) b))∧(∀j b,new[j]? =some (some b)→h' (σ j)=some (B55 (A6m A6z σ) b))∧
   (∀j,j<new.length→∀i,i<n→σ j≠A6z i)∧∀j j',j<new.length→j'<new.length→σ j=σ j'→j=j'
/-- Called with these values, where the blocks that are handed in hold this, the function returns the value, and the blocks hold that; the new ones are the caller's. -/
structure MCall (P:Program)(f:FuncId)(avs:List AV)(pre:List Blk)(v:AV)(post:List (Option Blk))(new:List (Option Blk)):Prop where
  ok:okM avs pre v post new=true
  call:ICall P f avs (G (C3t 0 pre)) (C2u pre.length v post new)
def C16 (κ:Nat→Key)(f:Key→Key):Nat→List (Option Blk)→List (Key×Option Blk)
  |_,[]=> []
  |i,b::r=>(κ i,b.map (B55 f))::C16 κ f (i+1) r
def C4l (u S:Nat)(f:Key→Key):Nat→List (Option Blk)→List (Key×Option Blk)
  |_,[]=> []
  |j,b::r=>((S+j,u),b.map (B55 f))::C4l u S f (j+1) r
theorem C2v {κ:Nat→Key}{f:Key→Key}: ∀{l:List (Option Blk)} {i:Nat} {x:Key×Option Blk},x∈C16 κ f i l→∃j b,l[j]? =some b∧x=(κ (i+j),b.map (B55 f))
  | [],i,x,h=>by simp [C16]at h
  |b::r,i,x,h=>by
   rw [C16,List.mem_cons]at h
   rcases h with rfl|h
   ·exact ⟨0,b,rfl,rfl⟩
   ·obtain ⟨j,b',h1,rfl⟩:=C2v h
    exact ⟨j+1,b',by simpa using h1,by rw [show i+ (j+1)=i+1+j by omega]⟩
theorem C2w {u S:Nat}{f:Key→Key}: ∀{l:List (Option Blk)} {i:Nat} {x:Key×Option Blk},x∈C4l u S f i l→∃j b,l[j]? =some b∧x=((S+ (i+j),u),b.map (B55 f))
  | [],i,x,h=>by simp [C4l]at h
  |b::r,i,x,h=>by
   rw [C4l,List.mem_cons]at h
   rcases h with rfl|h
   ·exact ⟨0,b,rfl,rfl⟩
   ·obtain ⟨j,b',h1,rfl⟩:=C2w h
    exact ⟨j+1,b',by simpa using h1,by rw [show i+ (j+1)=i+1+j by omega]⟩
theorem B6m: ∀(ups:List (Key×Option Blk)) (h:J2) (q:Key) (b:Option Blk),T7 h ups q=b→(q∉ups.map (·.1)∧h q=b)∨(q,b)∈ups
  | [],h,q,b,hb=> .inl ⟨by simp,hb⟩
  |(k,c)::r,h,q,b,hb=>by
   rw [T7]at hb
   rcases B6m r _ q b hb with ⟨h1,h2⟩|h1
   ·by_cases e:q=k
    ·subst e
     rw [E3]at h2
     exact .inr (by rw [h2];simp)
    ·rw [M8 _ _ _ _ e]at h2
     exact .inl ⟨by simp at h1 ⊢;exact ⟨e,h1⟩,h2⟩
   ·exact .inr (by simp [h1])
theorem MCall.frame {P:Program}{f:FuncId}{avs:List AV}{pre:List Blk}{v:AV}{post:List (Option Blk)}{new:List (Option Blk)}{u S:Nat}(hM:MCall P f avs pre v post new)(κ:Nat→Key)
    (hinj: ∀i i',i<pre.length→i'<pre.length→κ i=κ i'→i=i') (preH:J2) (hpre: ∀i b,pre[i]? =some b→preH (κ i)=some (B55 (A6m κ κ) b)):
    FCall P u S f (avs.map (D20 (A6m κ κ))) preH (D3e (A6m κ fun j=>(S+j,u)) v) (C16 κ (A6m κ fun j=>(S+j,u)) 0 post++C4l u S (A6m κ fun j=>(S+j,u)) 0 new):=by
  have hok:=hM.ok
  simp only [okM,Bool.and_eq_true,beq_iff_eq,Nat.ble_eq]at hok
  obtain ⟨⟨⟨⟨⟨⟨hlenP,hlenN⟩,okA⟩,okP⟩,okV⟩,okPo⟩,okN⟩:=hok
  refine ⟨hM.call.1,fun w I ρ h vs H hp hlen hrep hfr=> ?_⟩
  have hh: ∀i b,pre[i]? =some b→h (κ i)=some (B55 (A6m κ κ) b):=fun i b hb=>hp _ _ (hpre i b hb)
  have hρ: ∀i,i<pre.length→∃y,ρ (κ i)=some y:=fun i hi=>(H.blk _ _ (hh i _ (List.getElem?_eq_getElem hi))).rho
  let ρ0:Rho:=fun q=>if okK pre.length 0 q=true then ρ (A6m κ κ q)else none
  have hρ0: ∀i,i<pre.length→ρ0 (A6z i)=ρ (κ i):=by
    intro i hi
    show (if okK pre.length 0 (A6z i)=true then _ else _)=_
    rw [if_pos (by simp [okK,A6z,hi]),C7c]
  have hk0: ∀q y,okK pre.length 0 q=true→ρ (A6m κ κ q)=some y→ρ0 (id q)=some y:=by
    intro q y hq hy
    show (if okK pre.length 0 q=true then _ else _)=_
    rw [if_pos hq];exact hy
  have hdom: ∀q b,G (C3t 0 pre) q=some b→∃i,i<pre.length∧q=A6z i∧pre[i]? =some b∧h (κ i)=some (B55 (A6m κ κ) b)∧V0 ρ0 q b=V0 ρ (κ i) (B55 (A6m κ κ) b):=by
    intro q b hq
    obtain ⟨i,rfl,h2⟩:=C7f hq
    rw [Nat.zero_add]
    have hi:i<pre.length:=(List.getElem?_eq_some_iff.1 h2).1
    exact ⟨i,hi,rfl,h2,hh i b h2,by rw [A20];exact A8i b (hρ0 i hi)⟩
  have H0:HeapOK w I ρ0 (G (C3t 0 pre)):=by
    refine ⟨fun q b hq=> ?_,fun q q' b b' g h1 h2 h3 h4=> ?_,fun q b g h1 h2=> ?_,fun q b g h1 h2=> ?_,H.ilt,⟨1,fun d x hx=> ?_⟩,fun q y hy=> ?_⟩
    ·obtain ⟨i,hi,rfl,h2,h3,_⟩:=hdom q b hq
     have:=rrB (f:=A6m κ κ) (g:=id) (ρ':=ρ0) (k':=A6z i) (List.all_eq_true.1 okP b (List.mem_of_getElem? h2)) (H.blk _ _ h3) (fun y hy=>by rw [hρ0 i hi];exact hy) hk0
     rwa [D69]at this
    ·obtain ⟨i,hi,rfl,_,a3,a4⟩:=hdom q b h1
     obtain ⟨j,hj,rfl,_,b3,b4⟩:=hdom q' b' h2
     rw [a4]at h3;rw [b4]at h4
     rw [hinj i j hi hj (H.sep _ _ _ _ g a3 b3 h3 h4)]
    ·obtain ⟨i,hi,rfl,_,a3,a4⟩:=hdom q b h1
     rw [a4]at h2;exact H.notI _ _ g a3 h2
    ·obtain ⟨i,hi,rfl,_,a3,a4⟩:=hdom q b h1
     rw [a4]at h2;exact H.lt _ _ g a3 h2
    ·show (if okK pre.length 0 (d,x)=true then _ else _)=none
     rw [if_neg]
     intro e
     rcases D0n e with ⟨i,_,e⟩|⟨j,hj,_⟩
     ·simp only [A6z,Prod.mk.injEq]at e;omega
     ·omega
    ·have hy':(if okK pre.length 0 q=true then ρ (A6m κ κ q)else none)=some y:=hy
     split at hy'
     ·exact H.rone _ y hy'
     ·cases hy'
  have hown0: ∀g,own ρ0 (G (C3t 0 pre)) g→own ρ h g:=by
    rintro g ⟨q,b,h1,h2⟩
    obtain ⟨i,hi,rfl,_,a3,a4⟩:=hdom q b h1
    exact ⟨κ i,_,a3,by rw [← a4];exact h2⟩
  have hown1: ∀k b g,h k=some b→(∀i,i<pre.length→k≠κ i)→V0 ρ k b=some g→¬own ρ0 (G (C3t 0 pre)) g:=by
    rintro k b g hk hne hl ⟨q,b',h1,h2⟩
    obtain ⟨i,hi,rfl,_,a3,a4⟩:=hdom q b' h1
    rw [a4]at h2
    exact hne i hi (H.sep _ _ _ _ g hk a3 hl h2)
  have hκS: ∀i j,i<pre.length→j<6→κ i≠(S+j,u):=by
    intro i j hi hj e
    obtain ⟨y,hy⟩:=hρ i hi
    rw [e,hfr j hj]at hy;cases hy
  refine (hM.call.2 w I ρ0 vs H0 (by simpa using hlen) (fun i c hc=> ?_)).mono ?_
  ·have hc':=hrep i _ (B2x hc)
   have:=rr1 (g:=id) (ρ':=ρ0) (List.all_eq_true.1 okA c (List.mem_of_getElem? hc)) hc' hk0
   rwa [D68]at this
  rintro e w' ⟨x,v',I',ρ0',h',rfl,hv',H',T',σ,rfl,hpost,hnew,hσo,hσi⟩
  let ρ1:Rho:=fun q=>if q.2=u∧S≤q.1∧q.1<S+new.length then ρ0' (σ (q.1 - S))else ρ q
  have hle0: ∀i,i<pre.length→ρ0' (A6z i)=ρ (κ i):=by
    intro i hi
    obtain ⟨y,hy⟩:=hρ i hi
    rw [hy];exact T'.rho _ _ (by rw [hρ0 i hi];exact hy)
  have hρ1n: ∀j,j<new.length→ρ1 (S+j,u)=ρ0' (σ j):=by
    intro j hj
    show (if u=u∧S≤S+j∧S+j<S+new.length then _ else _)=_
    rw [if_pos ⟨rfl,by omega,by omega⟩]
    simp
  have hρ1o: ∀q,(∀j,j<new.length→q≠(S+j,u))→ρ1 q=ρ q:=by
    rintro ⟨a,b⟩ hq
    show (if b=u∧S≤a∧a<S+new.length then _ else _)=_
    rw [if_neg]
    rintro ⟨rfl,h1,h2⟩
    exact hq (a - S) (by omega) (by simp only [Prod.mk.injEq,and_true];omega)
  have hρ1κ: ∀i,i<pre.length→ρ1 (κ i)=ρ (κ i):=fun i hi=>hρ1o _ fun j hj=>hκS i j hi (by omega)
  have hle1:ρ.le ρ1:=by
    intro k y hy
    rw [hρ1o]
    ·exact hy
    ·rintro j hj rfl
     rw [hfr j (by omega)]at hy;cases hy
  -- the keys of what is handed out
  have hk1: ∀q y,okK pre.length new.length q=true→ρ0' (A6m A6z σ q)=some y→ρ1 (A6m κ (fun j=>(S+j,u)) q)=some y:=by
    intro q y hq hy
    rcases D0n hq with ⟨i,hi,rfl⟩|⟨j,hj,hj',rfl⟩
    ·rw [C7c]at hy ⊢;rw [hρ1κ i hi,← hle0 i hi];exact hy
    ·rw [D3d _ _ hj']at hy ⊢;rw [hρ1n j hj];exact hy
  -- what is touched, as the callee has it
  have htouch: ∀k b,(k,some b)∈C16 κ (A6m κ fun j=>(S+j,u)) 0 post++C4l u S (A6m κ fun j=>(S+j,u)) 0 new→
   ∃q b0,okB (okK pre.length new.length) b0=true∧h' q=some (B55 (A6m A6z σ) b0)∧b=B55 (A6m κ fun j=>(S+j,u)) b0∧ρ1 k=ρ0' q∧((∃i,i<pre.length∧q=A6z i∧k=κ i)∨∃j,j<new.length∧q=σ j∧k=(S+j,u)):=by
    intro k b hm
    rcases List.mem_append.1 hm with hm|hm
    ·obtain ⟨i,b0,h1,h2⟩:=C2v hm
     rw [Nat.zero_add]at h2
     cases b0 with
     |none=>simp at h2
     |some b0=>
      simp only [Option.map_some,Prod.mk.injEq,Option.some.injEq]at h2
      obtain ⟨rfl,rfl⟩:=h2
      have hi:i<pre.length:=by rw [← hlenP];exact (List.getElem?_eq_some_iff.1 h1).1
      exact ⟨A6z i,b0,List.all_eq_true.1 okPo (some b0) (List.mem_of_getElem? h1),hpost i b0 h1,rfl,by rw [hρ1κ i hi,hle0 i hi], .inl ⟨i,hi,rfl,rfl⟩⟩
    ·obtain ⟨j,b0,h1,h2⟩:=C2w hm
     rw [Nat.zero_add]at h2
     cases b0 with
     |none=>simp at h2
     |some b0=>
      simp only [Option.map_some,Prod.mk.injEq,Option.some.injEq]at h2
      obtain ⟨rfl,rfl⟩:=h2
      have hj:j<new.length:=(List.getElem?_eq_some_iff.1 h1).1
      exact ⟨σ j,b0,List.all_eq_true.1 okN (some b0) (List.mem_of_getElem? h1),hnew j b0 h1,rfl,hρ1n j hj, .inr ⟨j,hj,rfl,rfl⟩⟩
  have hinjT: ∀{k k' q q':Key},((∃i,i<pre.length∧q=A6z i∧k=κ i)∨∃j,j<new.length∧q=σ j∧k=(S+j,u))→((∃i,i<pre.length∧q'=A6z i∧k'=κ i)∨∃j,j<new.length∧q'=σ j∧k'=(S+j,u))→q=q'→k=k':=by
    rintro k k' q q' (⟨i,hi,rfl,rfl⟩|⟨j,hj,rfl,rfl⟩) (⟨i',hi',rfl,rfl⟩|⟨j',hj',rfl,rfl⟩) e
    ·rw [C7d e]
    ·exact absurd e.symm (hσo j' hj' i hi)
    ·exact absurd e (hσo j hj i' hi')
    ·rw [hσi j j' hj hj' e]
  -- what is not touched
  have hrest: ∀k b,k∉ (C16 κ (A6m κ fun j=>(S+j,u)) 0 post++C4l u S (A6m κ fun j=>(S+j,u)) 0 new).map (·.1)→h k=some b→(∀i,i<pre.length→k≠κ i)∧ρ1 k=ρ k∧∀g,V0 ρ k b=some g→w'.heap[g]? =w.heap[g]?∧¬own ρ0 (G (C3t 0 pre)) g:=by
    intro k b hn hk
    have hne: ∀i,i<pre.length→k≠κ i:=by
      rintro i hi rfl
      apply hn
      have: ∀(l:List (Option Blk)) (n:Nat),i<l.length→κ (n+i)∈(C16 κ (A6m κ fun j=>(S+j,u)) n l).map (·.1):=by
        intro l
        induction i with
        |zero=>intro n hl;cases l with|nil=>simp at hl|cons=>simp [C16]
        |succ i _=>
         intro n hl
         have key: ∀(i:Nat) (l:List (Option Blk)) (n:Nat),i<l.length→κ (n+i)∈(C16 κ (A6m κ fun j=>(S+j,u)) n l).map (·.1):=by
           intro i
           induction i with
           |zero=>intro l n hl;cases l with|nil=>simp at hl|cons=>simp [C16]
           |succ i ih=>
            intro l n hl
            cases l with
            |nil=>simp at hl
            |cons b r=>
             have:=ih r (n+1) (by simpa using hl)
             rw [show n+1+i=n+ (i+1) by omega]at this
             simp only [C16,List.map_cons,List.mem_cons]
             exact .inr this
         exact key (i+1) l n hl
      rw [List.map_append,List.mem_append]
      exact .inl (by have:=this post 0 (by rw [hlenP];exact hi);rwa [Nat.zero_add]at this)
    refine ⟨hne,?_,fun g hg=>⟨T'.frame g (H.lt k b g hk hg) (hown1 k b g hk hne hg),hown1 k b g hk hne hg⟩⟩
    obtain ⟨y,hy⟩:=(H.blk k b hk).rho
    rw [hle1 k y hy,hy]
  have hfrI: ∀b,I b→w'.heap[b]? =w.heap[b]?:=fun b hb=>T'.frame b (H.ilt b hb) (fun ho=>H0.own_notI ho hb)
  generalize hups:C16 κ (A6m κ fun j=>(S+j,u)) 0 post++C4l u S (A6m κ fun j=>(S+j,u)) 0 new=ups at htouch hrest
  have hcase: ∀k b,T7 h ups k=some b→(h k=some b∧k∉ups.map (·.1))∨(k,some b)∈ups:=fun k b hb=>(B6m ups h k (some b) hb).imp (fun q=>⟨q.2,q.1⟩) id
  have hlocR: ∀k b,h k=some b→k∉ups.map (·.1)→V0 ρ1 k b=V0 ρ k b:=fun k b hb hn=>A8i b (hrest k b hn hb).2.1
  have H1:HeapOK w' I' ρ1 (T7 h ups):=by
    refine ⟨fun k b hb=> ?_,fun k k' b b' g h1 h2 h3 h4=> ?_,fun k b g h1 h2 hi=> ?_,fun k b g h1 h2=> ?_,H'.ilt,?_,fun k y hy=> ?_⟩
    ·rcases hcase k b hb with ⟨a1,a2⟩|hm
     ·exact (H.blk k b a1).keep (fun g hg=>((hrest k b a2 a1).2.2 g hg).1) hfrI T'.imm hle1
     ·obtain ⟨q,b0,c1,c2,rfl,c4,_⟩:=htouch k b hm
      exact rrB c1 (H'.blk _ _ c2) (fun y hy=>by rw [c4];exact hy) hk1
    ·rcases hcase k b h1 with ⟨a1,a2⟩|hm
     ·rw [hlocR k b a1 a2]at h3
      rcases hcase k' b' h2 with ⟨b1,b2⟩|hm'
      ·rw [hlocR k' b' b1 b2]at h4
       exact H.sep k k' b b' g a1 b1 h3 h4
      ·exfalso
       obtain ⟨q,b0,c1,c2,rfl,c4,_⟩:=htouch k' b' hm'
       rw [A20,A8i b0 c4]at h4
       exact ((hrest k b a2 a1).2.2 g h3).2 (T'.ownBack g ⟨q,_,c2,by rw [A20];exact h4⟩ (H.lt k b g a1 h3))
     ·obtain ⟨q,b0,c1,c2,rfl,c4,c5⟩:=htouch k b hm
      rw [A20,A8i b0 c4]at h3
      rcases hcase k' b' h2 with ⟨b1,b2⟩|hm'
      ·exfalso
       rw [hlocR k' b' b1 b2]at h4
       exact ((hrest k' b' b2 b1).2.2 g h4).2 (T'.ownBack g ⟨q,_,c2,by rw [A20];exact h3⟩ (H.lt k' b' g b1 h4))
      ·obtain ⟨q',b0',d1,d2,rfl,d4,d5⟩:=htouch k' b' hm'
       rw [A20,A8i b0' d4]at h4
       exact hinjT c5 d5 (H'.sep q q' _ _ g c2 d2 (by rw [A20];exact h3) (by rw [A20];exact h4))
    ·rcases hcase k b h1 with ⟨a1,a2⟩|hm
     ·rw [hlocR k b a1 a2]at h2
      rcases T'.immBack g hi (H.lt k b g a1 h2)with q|q
      ·exact H.notI k b g a1 h2 q
      ·exact ((hrest k b a2 a1).2.2 g h2).2 q
     ·obtain ⟨q,b0,c1,c2,rfl,c4,_⟩:=htouch k b hm
      rw [A20,A8i b0 c4]at h2
      exact H'.notI q _ g c2 (by rw [A20];exact h2) hi
    ·rcases hcase k b h1 with ⟨a1,a2⟩|hm
     ·rw [hlocR k b a1 a2]at h2
      exact Nat.lt_of_lt_of_le (H.lt k b g a1 h2) T'.size
     ·obtain ⟨q,b0,c1,c2,rfl,c4,_⟩:=htouch k b hm
      rw [A20,A8i b0 c4]at h2
      exact H'.lt q _ g c2 (by rw [A20];exact h2)
    ·obtain ⟨u0,hu0⟩:=H.fresh
     refine ⟨max u0 (u+1),fun d x hx=> ?_⟩
     rw [hρ1o _ (fun j _ e=>by simp only [Prod.mk.injEq]at e;omega)]
     exact hu0 d x (by omega)
    ·have hy':(if k.2=u∧S≤k.1∧k.1<S+new.length then ρ0' (σ (k.1 - S))else ρ k)=some y:=hy
     split at hy'
     ·exact H'.rone _ y hy'
     ·exact H.rone _ y hy'
  refine ⟨x,I',ρ1,rfl,rr2 okV hv' hk1,H1,⟨T'.os,T'.tape,T'.output,T'.size,fun b hb hn=>T'.frame b hb (fun ho=>hn (hown0 b ho)),T'.imm,fun b hb hl=>(T'.immBack b hb hl).imp id (hown0 b),?_,hle1⟩,fun k hk=>hρ1o k fun j hj=>hk j (by omega)⟩
  rintro b ⟨k,c,h1,h2⟩ hl
  rcases hcase k c h1 with ⟨a1,a2⟩|hm
  ·exact ⟨k,c,a1,by rw [← hlocR k c a1 a2];exact h2⟩
  ·obtain ⟨q,b0,c1,c2,rfl,c4,_⟩:=htouch k c hm
   rw [A20,A8i b0 c4]at h2
   exact hown0 b (T'.ownBack b ⟨q,_,c2,by rw [A20];exact h2⟩ hl)
end Go.Abs
namespace Go.Abs
open Go
theorem B9z {α:Type}{l:List α}(h:l.Nodup){i j:Nat}(hi:i<l.length)(hj:j<l.length)(e:l[i]=l[j]):i=j:=by
  have h':=List.pairwise_iff_getElem.1 h
  rcases Nat.lt_trichotomy i j with q|q|q
  ·exact absurd e (h' i j hi hj q)
  ·exact q
  ·exact absurd e.symm (h' j i hj hi q)
def kap (l:List Key)(i:Nat):Key:=l.getD i (0,0)
section
variable {P:Program}{N:Nat}
/-- Less is known of what is handed in. -/
theorem FCall.le {u S:Nat}{f:FuncId}{avs avs':List AV}{pre pre':J2}{v:AV}{ups:List (Key×Option Blk)}(hF:FCall P u S f avs' pre v ups)(ha:All2 AVle avs avs')(hp: ∀q b,pre q=some b→∃b',pre' q=some b'∧BlkLe b' b)(hu: ∀q b,pre q=some b→q∈ups.map (·.1)):FCall P u S f avs pre' v ups:=by
  refine ⟨hF.1,fun w I ρ h vs H hh hlen hrep hfr=> ?_⟩
  let h1:J2:=fun q=>match pre q with|some b=>some b|none=>h q
  have h1p: ∀q b,pre q=some b→h1 q=some b:=fun q b hb=>by show (match pre q with|some b=>some b|none=>h q)=_;rw [hb]
  have h1n: ∀q,pre q=none→h1 q=h q:=fun q hb=>by show (match pre q with|some b=>some b|none=>h q)=_;rw [hb]
  have S1:Sb ⟨fun _=> .any,h1⟩ ⟨fun _=> .any,h⟩:=by
    refine ⟨fun i=> .any _,fun k b hb=> ?_⟩
    cases hq:pre k with
    |none=>exact ⟨b,by show h k=some b;rw [← h1n k hq];exact hb, .refl b⟩
    |some b0=>
     obtain rfl:b0=b:=by have:=hb;dsimp only at this;rw [h1p k b0 hq]at this;exact Option.some.inj this
     obtain ⟨b',e1,e2⟩:=hp k b0 hq
     exact ⟨b',hh k b' e1,e2⟩
  have hup:T7 h1 ups=T7 h ups:=by
    funext q
    by_cases e:q∈ups.map (·.1)
    ·exact B28 ups _ _ q e
    ·rw [A2n _ _ _ e,A2n _ _ _ e]
     cases hq:pre q with
     |none=>exact h1n q hq
     |some b=>exact absurd (hu q b hq) e
  have hown: ∀g,own ρ h1 g→own ρ h g:=fun g hg=>S1.own hg
  have hown': ∀g,own ρ h g→own ρ h1 g:=by
    rintro g ⟨k,b,e1,e2⟩
    cases hq:pre k with
    |none=>exact ⟨k,b,by rw [h1n k hq];exact e1,e2⟩
    |some b0=>
     obtain ⟨b',g1,g2⟩:=hp k b0 hq
     have:b'=b:=by have:=hh k b' g1;rw [e1]at this;exact (Option.some.inj this).symm
     subst this
     exact ⟨k,b0,h1p k b0 hq,by rw [g2.loc];exact e2⟩
  refine (hF.2 w I ρ h1 vs (S1.heapOK H) h1p (by rw [← ha.length];exact hlen) (fun i c hc=> ?_) hfr).mono ?_
  ·obtain ⟨a,e1,e2⟩:=ha.get hc
   exact e2 _ _ _ _ (hrep i a e1)
  rintro e w' ⟨x,I',ρ',rfl,r1,r2,r3,r4⟩
  rw [hup]at r2 r3
  exact ⟨x,I',ρ',rfl,r1,r2,⟨r3.os,r3.tape,r3.output,r3.size,fun b hb hn=>r3.frame b hb fun ho=>hn (hown b ho),r3.imm,fun b hb hl=>(r3.immBack b hb hl).imp id (hown b),fun b hb hl=>hown b (r3.ownBack b hb hl),r3.rho⟩,r4⟩
/-- What is handed in becomes data. -/
theorem PCall.freezeF {u S:Nat}{f:FuncId}{ds:List D}{r:D}(hp:PCall P f ds r){avs:List AV}{h0:J2}(hd:R1 (R7 h0 6) avs=some ds):
    FCall P u S f avs (T6 h0 (avs.flatMap (Y0 h0 6))) (.d r) ((avs.flatMap (Y0 h0 6)).map fun k=>(k,none)):=by
  refine ⟨hp.1,fun w I ρ h vs H hh hlen hrep _=> ?_⟩
  have hlive:=A9w avs ds hd
  have heq: ∀q∈avs.flatMap (Y0 h0 6),h q=h0 q:=by
    intro q hq
    cases hb:h0 q with
    |none=>exact absurd hb (hlive q hq)
    |some b=>exact hh q b (by unfold T6;rw [if_pos hq,hb])
  have hd':R1 (R7 h 6) avs=some ds:=by rw [← hd];exact A8g avs heq
  rw [← B5k avs heq]
  clear hd hh heq hlive
  generalize hks:avs.flatMap (Y0 h 6)=ks at*
  have hks': ∀q∈ks,h q≠none:=by rw [← hks];exact A9w avs ds hd'
  have hU:T7 h (ks.map fun k=>(k,none))=fun q=>if q∈ks then none else h q:=by
    funext q
    by_cases e:q∈ks
    ·rw [if_pos e]
     cases hb:T7 h (ks.map fun k=>(k,none)) q with
     |none=>rfl
     |some b=>
      rcases B6m _ _ _ _ hb with ⟨a,_⟩|a
      ·exact absurd (by simp only [List.map_map,List.mem_map,Function.comp];exact ⟨q,e,rfl⟩) a
      ·simp at a
    ·rw [if_neg e,A2n]
     simp only [List.map_map,List.mem_map,Function.comp]
     rintro ⟨x,hx,rfl⟩
     exact e hx
  rw [hU]
  let hk:J2:=T6 h ks
  have hsub: ∀q b,hk q=some b→h q=some b:=by
    intro q b hq
    have:(if q∈ks then h q else none)=some b:=hq
    split at this
    ·exact this
    ·cases this
  let hf:J2:=fun q=>if q∈ks then none else h q
  have hsubf: ∀q b,hf q=some b→h q=some b∧q∉ks:=by
    intro q b hq
    have:(if q∈ks then none else h q)=some b:=hq
    split at this
    ·cases this
    ·exact ⟨this,‹_›⟩
  have H1:=H.sub hsub
  have H2:=H.sub (fun q b hq=>(hsubf q b hq).1)
  have hdk:R1 (R7 hk 6) avs=some ds:=by
    rw [← hd']
    refine A8g avs fun q hq=> ?_
    rw [hks]at hq
    show (if q∈ks then h q else none)=h q
    rw [if_pos hq]
  obtain ⟨l1,l2⟩:=A3u hdk
  have hsep: ∀g,own ρ hf g→¬own ρ hk g:=by
    rintro g ⟨k,b,a1,a2⟩ ⟨k',b',c1,c2⟩
    obtain ⟨e1,e2⟩:=hsubf k b a1
    have:=H.sep k k' b b' g e1 (hsub k' b' c1) a2 c2
    subst this
    apply e2
    have:(if k∈ks then h k else none)=some b':=c1
    split at this
    ·assumption
    ·cases this
  have hI1: ∀b,(I b∨own ρ hk b)→b<w.heap.size:=fun b hb=>by
    rcases hb with h|h
    ·exact H.ilt b h
    ·exact H1.own_lt h
  refine (hp.2 w (fun b=>I b∨own ρ hk b) vs hI1 (by omega) (fun i d hi=>by
    obtain ⟨x,hx,hfx⟩:=l2 i d hi
    exact A6x H1 6 x d _ (hrep i x hx) hfx)).mono ?_
  rintro e w' ⟨x,I',rfl,hr,tr⟩
  have hnI: ∀g,own ρ hf g→¬I' g:=fun g hg hi=>by
    rcases tr.immBack g hi (H2.own_lt hg)with q|q
    ·exact H2.own_notI hg q
    ·exact hsep g hg q
  have H3:HeapOK w' I' ρ hf:=H2.keep (fun g hg=>tr.frame g (H2.own_lt hg)) (fun b hb=>tr.frame b (H.ilt b hb)) (fun b hb=>tr.imm b (.inl hb)) hnI tr.ilt (fun _ _ h=>h) tr.size H.fresh H.rone
  refine ⟨x,I',ρ,rfl, .d _ _ hr,H3,⟨tr.os,tr.tape,tr.output,tr.size,fun b hb _=>tr.frame b hb,fun b hb=>tr.imm b (.inl hb),fun b hb hl=>(tr.immBack b hb hl).imp id fun ⟨k,c,a1,a2⟩=>⟨k,c,hsub k c a1,a2⟩,?_,fun _ _ h=>h⟩,fun _ _=>rfl⟩
  rintro b ⟨k,c,a1,a2⟩ _
  exact ⟨k,c,(hsubf k c a1).1,a2⟩
/-- A pure contract, where what is handed in is untouched and the answer needs no memory of it. -/
theorem ICall.le {f:FuncId}{avs:List AV}{h:J2}{K K':AV→J2→Prop}(hI:ICall P f avs h K)(hk: ∀v h,K v h→K' v h):ICall P f avs h K':=hI.mono hk
/-! ### How such a contract is shown -/
theorem D7y {f:FuncId}{rs:List RV}{ac:AC}(F:FnOK P f N rs ac){avs:List AV}{pre:List Blk}{v:AV}{post:List (Option Blk)}{new:List (Option Blk)}(hok:okM avs pre v post new=true)(hl:avs.length≤N)
    (h:AWL P N none [.c ac] (fun e s=>(e= .nrm∨e= .ret)∧∃v' v1 g1,C5t s.t s.h rs=some v'∧AVle v' v1∧sbG s.h g1∧C2u pre.length v post new v1 (G g1)) .nrm ⟨D31 avs,G (C3t 0 pre)⟩):MCall P f avs pre v post new:=by
  refine ⟨hok,F.enters,?_⟩
  obtain ⟨fn,c,hf,hb,hN,hrs,⟨M,hc⟩,hn⟩:=F.ex
  intro w I ρ vs H hlen hrep
  have hsim:=B6g (n:=N) H hlen (by omega) hrep
  rw [← hN]at hsim
  refine A9y (Q:=fun e s=>(e= .nrm∨e= .ret)∧∃v' v1 g1,C5t s.t s.h rs=some v'∧AVle v' v1∧sbG s.h g1∧C2u pre.length v post new v1 (G g1)) hf hb rfl hsim (by rw [hN];exact h M c hc) ?_
  rintro e s' a' w' I' ρ' ⟨he,v',v1,g1,hv,hle,hg,hp⟩ hs' tr
  obtain ⟨x,hx,hr⟩:=C2l hs' hrs hv
  have S1:Sb ⟨T [],G g1⟩ s':=by cases s';exact G8 trivial hg
  exact ⟨he,x,hx,x,v1,I',ρ',G g1,rfl,hle _ _ _ _ hr,S1.heapOK hs'.heap,⟨tr.os,tr.tape,tr.output,tr.size,tr.frame,tr.imm,tr.immBack,fun b hb hl=>tr.ownBack b (S1.own hb) hl,tr.rho⟩,hp⟩
def B8e:List AV→Nat→List (Nat×AV)
  | [],_=> []
  |a::r,n=>(n,a)::B8e r (n+1)
theorem C4m: ∀(avs:List AV) (n i:Nat),T (B8e avs n) (n+i)=avs.getD i .any
  | [],n,i=>by simp [B8e,D8m]
  |a::r,n,i=>by
   rw [B8e,D8l]
   cases i with
   |zero=>rw [if_pos (by simp)];rfl
   |succ i=>rw [if_neg (by omega),show n+ (i+1)=n+1+i by omega,C4m r (n+1) i];rfl
theorem C5y (avs:List AV):D31 avs=T (B8e avs 0):=by
  funext i
  have:=C4m avs 0 i
  rw [Nat.zero_add]at this
  rw [this];rfl
def D3f (h:J2)(f:Key→Key):Nat→List (Option Blk)→Prop
  |_,[]=>True
  |i,b::r=>(match b with|some b=>h (A6z i)=some (B55 f b)|none=>True)∧D3f h f (i+1) r
theorem C00 {h:J2}{f:Key→Key}: ∀{l:List (Option Blk)} {n i:Nat} {b:Blk},D3f h f n l→l[i]? =some (some b)→h (A6z (n+i))=some (B55 f b)
  | [],n,i,b,_,hb=>by simp at hb
  |x::r,n,i,b,hp,hb=>by
   cases i with
   |zero=>simp at hb;subst hb;exact hp.1
   |succ i=>rw [show n+ (i+1)=n+1+i by omega];exact C00 hp.2 (by simpa using hb)
def D8i (h:J2)(f:Key→Key):List Key→List (Option Blk)→Prop
  |_,[]=>True
  | [],_::_=>False
  |k::ks,b::r=>h k=b.map (B55 f)∧D8i h f ks r
theorem C2x {h:J2}{f:Key→Key}: ∀{ks:List Key} {l:List (Option Blk)} {i:Nat} {b:Blk},D8i h f ks l→l[i]? =some (some b)→h (kap ks i)=some (B55 f b)
  |ks,[],i,b,_,hb=>by simp at hb
  | [],_::_,i,b,hp,_=>hp.elim
  |k::ks,x::r,i,b,hp,hb=>by
   cases i with
   |zero=>simp at hb;subst hb;exact hp.1
   |succ i=>exact C2x (ks:=ks) hp.2 (by simpa using hb)
theorem D4n {d u:Nat}(h:Nat.blt d 900000=true)(i:Nat):(d,u)≠A6z i:=by
  rw [Nat.blt_eq]at h
  intro e
  simp only [A6z,Prod.mk.injEq]at e;omega
theorem D3g {n:Nat}{v v1:AV}{post:List (Option Blk)}{new:List (Option Blk)}{h:J2}(σs:List Key)(hv:v1=D3e (A6m A6z (kap σs)) v)(hpost:D3f h (A6m A6z (kap σs)) 0 post)(hnew:D8i h (A6m A6z (kap σs)) σs new)
    (hl:σs.length=new.length) (hd: ∀k∈σs,∀i,k≠A6z i) (hnd:σs.Nodup):C2u n v post new v1 h:=by
  have hget: ∀j,j<new.length→kap σs j∈σs:=by
    intro j hj
    simp only [kap,List.getD,List.getElem?_eq_getElem (show j<σs.length by omega),Option.getD_some]
    exact List.getElem_mem _
  refine ⟨kap σs,hv,fun i b hb=> ?_,fun j b hb=>C2x hnew hb,fun j hj i _=>hd _ (hget j hj) i,fun j j' hj hj' e=> ?_⟩
  ·have:=C00 hpost hb
   rwa [Nat.zero_add]at this
  ·simp only [kap,List.getD,List.getElem?_eq_getElem (show j<σs.length by omega),List.getElem?_eq_getElem (show j'<σs.length by omega),Option.getD_some]at e
   exact B9z hnd (by omega) (by omega) e
theorem D7z {t:Nat→AV}{h:J2}{rs:List RV}{e:Ex}{n:Nat}{v v' v1:AV}{post:List (Option Blk)}{new:List (Option Blk)}(he:e= .nrm∨e= .ret)(h1:C5t t h rs=some v')(h2:AVle v' v1)(g1:List (Key×Option Blk))(h3:sbG h g1)(h4:C2u n v post new v1 (G g1)):
    (e= .nrm∨e= .ret)∧∃v' v1 g1,C5t (⟨t,h⟩:St).t (⟨t,h⟩:St).h rs=some v'∧AVle v' v1∧sbG (⟨t,h⟩:St).h g1∧C2u n v post new v1 (G g1):=⟨he,v',v1,g1,h1,h2,h3,h4⟩
theorem D8q {t:Nat→AV}{h:J2}:C5t t h []=some (.tup []):=rfl
theorem D3h {t:Nat→AV}{h:J2}{a:RV}{v:AV}(hv:C71 t h a=some v):C5t t h [a]=some v:=by simp only [C5t,D02,hv]
end
/-! ### How it is used -/
theorem D80 {h:J2}{n:Nat}{k:Key}{off:Nat}{ty:TypeId}{cs:List AV}{ks:List Key}(hb:h k=some (.box ty cs))(hc:cs.flatMap (Y0 h n)=ks):Y0 h (n+1) (.ptr k off)=k::ks:=by simp only [Y0,hb,hc]
theorem C4n {h:J2}{n:Nat}{k:Key}:Y0 h (n+1) (.sl k)= [k]:=rfl
theorem C7g {h:J2}{n:Nat}{x:D}:Y0 h n (.d x)= []:=by cases n<;>rfl
theorem B6n {h:J2}{n:Nat}:([]:List AV).flatMap (Y0 h n)= []:=rfl
theorem A1a {h:J2}{n:Nat}{x:AV}{r:List AV}{a b:List Key}(h1:Y0 h n x=a)(h2:r.flatMap (Y0 h n)=b):(x::r).flatMap (Y0 h n)=a++b:=by rw [List.flatMap_cons,h1,h2]
def D6z (h:J2):List Key→List Blk→Prop
  | [],[]=>True
  |k::ks,b::bs=>(∃b',h k=some b'∧BlkLe b' b)∧D6z h ks bs
  |_,_=>False
theorem C2y {h:J2}: ∀{ks:List Key} {bs:List Blk},D6z h ks bs→ks.length=bs.length
  | [],[],_=>rfl
  |_::ks,_::bs,hp=>by simp [C2y hp.2]
  | [],_::_,hp=>hp.elim
  |_::_,[],hp=>hp.elim
theorem C7h {h:J2}: ∀{ks:List Key} {bs:List Blk} {i:Nat} {b:Blk},D6z h ks bs→bs[i]? =some b→kap ks i∈ks∧∃b',h (kap ks i)=some b'∧BlkLe b' b
  | [],[],i,b,_,hb=>by simp at hb
  |k::ks,c::bs,i,b,hp,hb=>by
   cases i with
   |zero=>simp at hb;subst hb;exact ⟨by simp [kap],hp.1⟩
   |succ i=>
    obtain ⟨g1,g2⟩:=C7h (ks:=ks) (bs:=bs) (i:=i) hp.2 (by simpa using hb)
    exact ⟨by simp only [kap,List.getD_cons_succ]at g1 ⊢;exact List.mem_cons_of_mem _ g1,g2⟩
  | [],_::_,_,_,hp,_=>hp.elim
  |_::_,[],_,_,hp,_=>hp.elim
/-- A call of such a function, at the keys of the caller. -/
theorem MCall.at {P:Program}{u S:Nat}{f:FuncId}{avs avs0:List AV}{pre:List Blk}{v:AV}{post:List (Option Blk)}{new:List (Option Blk)}{h:J2}(hM:MCall P f avs0 pre v post new)(κs:List Key)(ks:List Key)
    (hle:All2 AVle avs (avs0.map (D20 (A6m (kap κs) (kap κs))))) (hpre:D6z h κs (pre.map (B55 (A6m (kap κs) (kap κs))))) (hsub: ∀k∈κs,k∈ks) (hnd:κs.Nodup):
    FCall P u S f avs (T6 h ks) (D3e (A6m (kap κs) fun j=>(S+j,u)) v) (C16 (kap κs) (A6m (kap κs) fun j=>(S+j,u)) 0 post++C4l u S (A6m (kap κs) fun j=>(S+j,u)) 0 new):=by
  have hlen:κs.length=pre.length:=by simpa using C2y hpre
  have hok:=hM.ok
  simp only [okM,Bool.and_eq_true,beq_iff_eq,Nat.ble_eq]at hok
  have hinj: ∀i i',i<pre.length→i'<pre.length→kap κs i=kap κs i'→i=i':=by
    intro i i' hi hi' e
    simp only [kap,List.getD,List.getElem?_eq_getElem (show i<κs.length by omega),List.getElem?_eq_getElem (show i'<κs.length by omega),Option.getD_some]at e
    exact B9z hnd (by omega) (by omega) e
  let preH:J2:=fun q=>match (List.range pre.length).find? fun i=>kap κs i==q with
    |some i=>(pre[i]?).map (B55 (A6m (kap κs) (kap κs)))
    |none=>none
  have hat: ∀i b,pre[i]? =some b→preH (kap κs i)=some (B55 (A6m (kap κs) (kap κs)) b):=by
    intro i b hb
    have hi:i<pre.length:=(List.getElem?_eq_some_iff.1 hb).1
    show (match (List.range pre.length).find? fun i'=>kap κs i'==kap κs i with|some i=>(pre[i]?).map (B55 (A6m (kap κs) (kap κs)))|none=>none)=_
    cases hf:(List.range pre.length).find? fun i'=>kap κs i'==kap κs i with
    |none=>
     have:=List.find?_eq_none.1 hf i (by simpa using hi)
     simp at this
    |some j=>
     have h1:=List.find?_some hf
     have h2:=List.mem_of_find?_eq_some hf
     have:=hinj j i (by simpa using h2) hi (by simpa using h1)
     subst this
     simp only [hb,Option.map_some]
  have hinv: ∀q b,preH q=some b→∃i b0,pre[i]? =some b0∧q=kap κs i∧b=B55 (A6m (kap κs) (kap κs)) b0:=by
    intro q b hq
    have hq':(match (List.range pre.length).find? fun i'=>kap κs i'==q with|some i=>(pre[i]?).map (B55 (A6m (kap κs) (kap κs)))|none=>none)=some b:=hq
    split at hq'
    ·rename_i j hf
     have h1:=List.find?_some hf
     simp only [Option.map_eq_some_iff]at hq'
     obtain ⟨b0,e1,rfl⟩:=hq'
     exact ⟨j,b0,e1,(by simpa using h1:kap κs j=q).symm,rfl⟩
    ·cases hq'
  refine FCall.le (hM.frame (kap κs) hinj preH hat) hle (fun q b hq=> ?_) (fun q b hq=> ?_)
  ·obtain ⟨i,b0,e1,rfl,rfl⟩:=hinv q b hq
   obtain ⟨g1,b',g2,g3⟩:=C7h hpre (B2x e1)
   exact ⟨b',by unfold T6;rw [if_pos (hsub _ g1)];exact g2,g3⟩
  ·obtain ⟨i,b0,e1,rfl,rfl⟩:=hinv q b hq
   rw [List.map_append,List.mem_append]
   left
   have hi:i<post.length:=by rw [hok.1.1.1.1.1.1];exact (List.getElem?_eq_some_iff.1 e1).1
   have key: ∀(i:Nat) (l:List (Option Blk)) (n:Nat) (f:Key→Key),i<l.length→kap κs (n+i)∈(C16 (kap κs) f n l).map (·.1):=by
     intro i
     induction i with
     |zero=>intro l n f hl;cases l with|nil=>simp at hl|cons=>simp [C16]
     |succ i ih=>
      intro l n f hl
      cases l with
      |nil=>simp at hl
      |cons b r=>
       have:=ih r (n+1) f (by simpa using hl)
       rw [show n+1+i=n+ (i+1) by omega]at this
       simp only [C16,List.map_cons,List.mem_cons]
       exact .inr this
   have:=key i post 0 (A6m (kap κs) fun j=>(S+j,u)) hi
   rwa [Nat.zero_add]at this
theorem D81 {u S:Nat}{κs ks:List Key}{post:List (Option Blk)}{new:List (Option Blk)}{f g:Key→Key}(hsub: ∀k∈κs,k∈ks)(hl:post.length=κs.length)(hn:new.length≤6):
    ∀q∈(C16 (kap κs) f 0 post++C4l u S g 0 new).map (·.1),q∈ks∨∃j,j<6∧q=(S+j,u):=by
  intro q hq
  simp only [List.mem_map,List.mem_append]at hq
  obtain ⟨x,hx|hx,rfl⟩:=hq
  ·obtain ⟨j,b,h1,rfl⟩:=C2v hx
   have hj:j<κs.length:=by rw [← hl];exact (List.getElem?_eq_some_iff.1 h1).1
   left
   refine hsub _ ?_
   simp only [Nat.zero_add,kap,List.getD,List.getElem?_eq_getElem hj,Option.getD_some]
   exact List.getElem_mem _
  ·obtain ⟨j,b,h1,rfl⟩:=C2w hx
   have hj:j<new.length:=(List.getElem?_eq_some_iff.1 h1).1
   exact .inr ⟨j,by omega,by rw [Nat.zero_add]⟩
section
variable {P:Program}{u:Nat}{r:List AOp}{l:List (Nat×AV)}{g:List (Key×Option Blk)}
/-- What a call of such a function asks for, and gives. -/
structure OC (P:Program)(u:Nat)(l:List (Nat×AV))(g:List (Key×Option Blk))(S:Nat)(f:Opd)(args:List Opd)(v:AV)(ks:List Key)(us:List Key)(g':List (Key×Option Blk)):Prop where
  w: ∀K:AV→List (Key×Option Blk)→Prop,(∀ups,ups.map (·.1)=us→T7 (G g) ups=G g'→K v ups)→B8b P u (T l) (G g) S f args K
  ks:A59 (T l) (G g) (.ocall S f args)=ks
theorem D21 {S:Nat}{f:Opd}{args:List Opd}{fid:FuncId}{avs avs0:List AV}{pre:List Blk}{v v':AV}{post:List (Option Blk)}{new:List (Option Blk)}(hM:MCall P fid avs0 pre v post new)(κs ks us:List Key)(g':List (Key×Option Blk))
    (hc:V4 (T l) f args=some (fid,avs)) (hle:All2 AVle avs (avs0.map (D20 (A6m (kap κs) (kap κs))))) (hks:avs.flatMap (Y0 (G g) 6)=ks) (hlive: ∀q∈ks,G g q≠none)
    (hpre:D6z (G g) κs (pre.map (B55 (A6m (kap κs) (kap κs))))) (hsub: ∀k∈κs,k∈ks) (hnd:κs.Nodup) (hv:D3e (A6m (kap κs) fun j=>(S+j,u)) v=v')
    (hus:(C16 (kap κs) (A6m (kap κs) fun j=>(S+j,u)) 0 post++C4l u S (A6m (kap κs) fun j=>(S+j,u)) 0 new).map (·.1)=us)
    (hg:T7 (G g) (C16 (kap κs) (A6m (kap κs) fun j=>(S+j,u)) 0 post++C4l u S (A6m (kap κs) fun j=>(S+j,u)) 0 new)=G g'):OC P u l g S f args v' ks us g':=by
  have hok:=hM.ok
  simp only [okM,Bool.and_eq_true,beq_iff_eq,Nat.ble_eq]at hok
  have hlen:κs.length=pre.length:=by simpa using C2y hpre
  refine ⟨fun K hK=> ?_,by simp only [A59,hc,hks]⟩
  simp only [B8b,hc,hks]
  refine ⟨v',_,?_,hlive,by rw [← hv];exact hM.at κs ks hle hpre hsub hnd,hK _ hus hg⟩
  exact D81 hsub (by rw [hok.1.1.1.1.1.1,hlen]) hok.1.1.1.1.1.2
/-- What is handed in becomes data. -/
theorem D8r {S:Nat}{f:Opd}{args:List Opd}{fid:FuncId}{avs:List AV}{ds ds':List D}{v:D}(ks:List Key)(g':List (Key×Option Blk))(hc:V4 (T l) f args=some (fid,avs))(hd:R1 (R7 (G g) 6) avs=some ds)(hle:All2 DLe ds ds')
    (hp:PCall P fid ds' v) (hks:avs.flatMap (Y0 (G g) 6)=ks) (hg:T7 (G g) (ks.map fun k=>(k,none))=G g'):OC P u l g S f args (.d v) ks ks g':=by
  refine ⟨fun K hK=> ?_,by simp only [A59,hc,hks]⟩
  simp only [B8b,hc]
  refine ⟨.d v,_,fun q hq=> .inl ?_,A9w avs ds hd,(hp.le hle).freezeF hd,hK _ ?_ (by rw [hks];exact hg)⟩
  ·simpa [List.map_map,Function.comp_def] using hq
  ·rw [hks];simp [List.map_map,Function.comp_def]
theorem C9f {K:(Nat→AV)→J2→Prop}{d S:Nat}{f:Opd}{args:List Opd}{v:AV}{ks us:List Key}{g':List (Key×Option Blk)}(h:OC P u l g S f args v ks us g')(hk:X8 P u r (T ((d,v)::l)) (G g') K):X8 P u (⟨some d, .ocall S f args,none⟩::r) (T l) (G g) K:=by
  refine B9v (by simp [A6a]) ?_
  simp only [gW,opW]
  exact h.w _ fun ups _ e=>by rw [e];exact hk
theorem t_oc {K:(Nat→AV)→J2→List (List Key×List Key)→Prop}{d S:Nat}{f:Opd}{args:List Opd}{v:AV}{ks us:List Key}{g':List (Key×Option Blk)}(h:OC P u l g S f args v ks us g')(hk:B3m P u r (T ((d,v)::l)) (G g') fun t' h' tr=>K t' h' ((ks,us)::tr)):B3m P u (⟨some d, .ocall S f args,none⟩::r) (T l) (G g) K:=by
  unfold B3m
  simp only [gW,opW]
  refine h.w _ fun ups e1 e=> ?_
  rw [e,e1,h.ks];exact hk
end
end Go.Abs
namespace Go.Abs
open Go
section
variable {P:Program}{N:Nat}
/-- What is handed back, where the blocks at some keys have become data. -/
def C8s (ks:List Key)(t:Nat→AV)(h:J2)(rs:List RV):Option D:=match D02 t h rs with
  |some vs=>match R1 (R7 (T6 h ks) 6) vs with
   |some [d]=>some d
   |some ds=>some (.tup ds)
   |none=>none
  |none=>none
def C2z (h:J2)(ks:List Key):Nat→List (Option Blk)→Prop
  |_,[]=>True
  |i,none::r=>C2z h ks (i+1) r
  |i,some (.box ty cs)::r=>(∃cs' ds ds',h (A6z i)=some (.box ty cs')∧A6z i∉ks∧R1 (R7 (T6 h ks) 6) cs'=some ds∧All2 DLe ds ds'∧cs=ds'.map .d)∧C2z h ks (i+1) r
  |i,some (.arr ty sz es)::r=>(h (A6z i)=some (.arr ty sz es)∧A6z i∉ks)∧C2z h ks (i+1) r
  |_,some (.obj _ _)::_=>False
  |_,some (.mp _)::_=>False
def C1c:Nat→List (Option Blk)→List (Key×Option Blk)
  |_,[]=> []
  |i,b::r=>(A6z i,b)::C1c (i+1) r
theorem C4o: ∀{l:List (Option Blk)} {i:Nat} {q:Key} {b:Blk},G (C1c i l) q=some b→∃j,q=A6z (i+j)∧l[j]? =some (some b)
  | [],i,q,b,h=>by cases h
  |x::r,i,q,b,h=>by
   rw [C1c,G]at h
   by_cases e:q=A6z i
   ·rw [if_pos e]at h;subst h;exact ⟨0,e,rfl⟩
   ·rw [if_neg e]at h
    obtain ⟨j,h1,h2⟩:=C4o h
    exact ⟨j+1,by rw [h1];congr 1;omega,by simpa using h2⟩
theorem C7i: ∀{l:List (Option Blk)} {i j:Nat} {b:Option Blk},l[j]? =some b→G (C1c i l) (A6z (i+j))=b
  | [],i,j,b,h=>by simp at h
  |x::r,i,j,b,h=>by
   rw [C1c,G]
   cases j with
   |zero=>simp at h;subst h;rw [if_pos (by simp)]
   |succ j=>
    rw [if_neg (fun e=>by have:=C7d e;omega),show i+ (j+1)=i+1+j by omega]
    exact C7i (by simpa using h)
theorem C4p {h:J2}{ks:List Key}: ∀{l:List (Option Blk)} {i j:Nat} {b:Blk},C2z h ks i l→l[j]? =some (some b)→A6z (i+j)∉ks∧
    ((∃ty cs' ds ds',b= .box ty (ds'.map .d)∧h (A6z (i+j))=some (.box ty cs')∧R1 (R7 (T6 h ks) 6) cs'=some ds∧All2 DLe ds ds')∨∃ty sz es,b= .arr ty sz es∧h (A6z (i+j))=some (.arr ty sz es))
  | [],i,j,b,_,hb=>by simp at hb
  |x::r,i,j,b,hp,hb=>by
   cases j with
   |zero=>
    simp at hb;subst hb
    cases b with
    |box ty cs=>obtain ⟨⟨cs',ds,ds',a1,a2,a3,a4,rfl⟩,_⟩:=hp;exact ⟨a2, .inl ⟨ty,cs',ds,ds',rfl,a1,a3,a4⟩⟩
    |arr ty sz es=>exact ⟨hp.1.2, .inr ⟨ty,sz,es,rfl,hp.1.1⟩⟩
    |obj=>exact hp.elim
    |mp=>exact hp.elim
   |succ j=>
    have hr:C2z h ks (i+1) r:=by
      cases x with
      |none=>exact hp
      |some x=>cases x<;>first|exact hp.2|exact hp.elim
    have:=C4p hr (by simpa using hb:r[j]? =some (some b))
    rwa [show i+1+j=i+ (j+1) by omega]at this
theorem D0o (f:Key→Key)(ds:List D):(ds.map AV.d).map (D1z f)=ds.map .d:=by rw [List.map_map];rfl
theorem B5q {f:FuncId}{rs:List RV}{ac:AC}(F:FnOK P f N rs ac){avs:List AV}{pre:List Blk}{v:D}{post:List (Option Blk)}(hok:okM avs pre (.d v) post []=true)(hl:avs.length≤N)
    (h:AWL P N none [.c ac] (fun e s=>(e= .nrm∨e= .ret)∧∃ks d',C8s ks s.t s.h rs=some d'∧DLe d' v∧C2z s.h ks 0 post) .nrm ⟨T (B8e avs 0),G (C3t 0 pre)⟩):MCall P f avs pre (.d v) post []:=by
  refine ⟨hok,F.enters,?_⟩
  obtain ⟨fn,c,hf,hb,hN,hrs,⟨M,hc⟩,hn⟩:=F.ex
  intro w I ρ vs H hlen hrep
  have hsim:=B6g (n:=N) H hlen (by omega) hrep
  rw [← hN,C5y]at hsim
  refine A9y (Q:=fun e s=>(e= .nrm∨e= .ret)∧∃ks d',C8s ks s.t s.h rs=some d'∧DLe d' v∧C2z s.h ks 0 post) hf hb rfl hsim (by rw [hN];exact h M c hc) ?_
  rintro e s' a' w' I' ρ' ⟨he,ks,d',hv,hle,hp⟩ hs' tr
  have Hs:=hs'.heap
  let hk:J2:=T6 s'.h ks
  have hsub: ∀q b,hk q=some b→s'.h q=some b∧q∈ks:=by
    intro q b hq
    have:(if q∈ks then s'.h q else none)=some b:=hq
    split at this
    ·exact ⟨this,‹_›⟩
    ·cases this
  have Hk:=Hs.sub fun q b hq=>(hsub q b hq).1
  have hg: ∀q b,G (C1c 0 post) q=some b→∃b0,s'.h q=some b0∧q∉ks∧V0 ρ' q b=V0 ρ' q b0∧BlkOK w' (fun b=>I' b∨own ρ' hk b) ρ' q b∧∀f,B55 f b=b:=by
    intro q b hq
    obtain ⟨i,rfl,h2⟩:=C4o hq
    rw [Nat.zero_add]
    obtain ⟨h3,h4⟩:=C4p hp h2
    rw [Nat.zero_add]at h3 h4
    rcases h4 with ⟨ty,cs',ds,ds',rfl,a1,a2,a3⟩|⟨ty,sz,es,rfl,a1⟩
    ·refine ⟨_,a1,h3,rfl,?_,fun f=>by simp only [B55,D0o]⟩
     obtain ⟨g,ws,b1,b2,b3,b4,b5⟩:=Hs.blk _ _ a1
     obtain ⟨l1,l2⟩:=A3u a2
     refine ⟨g,ws,b1,b2,by rw [List.length_map,← a3.length,l1];exact b3,b4,fun i c hc=> ?_⟩
     obtain ⟨d1,hd1,rfl⟩:=B9r hc
     obtain ⟨d0,e1,e2⟩:=a3.get hd1
     obtain ⟨x,e3,e4⟩:=l2 i d0 e1
     exact .d _ _ (e2 _ _ _ (A6x Hk 6 x d0 _ (b5 i x e3) e4))
    ·exact ⟨_,a1,h3,rfl,(Hs.blk _ _ a1).keep (fun _ _=>rfl) (fun _ _=>rfl) (fun _ h=> .inl h) (fun _ _ h=>h),fun f=>rfl⟩
  have hownG: ∀g,own ρ' (G (C1c 0 post)) g→own ρ' s'.h g:=by
    rintro g ⟨q,b,a1,a2⟩
    obtain ⟨b0,c1,_,c3,_⟩:=hg q b a1
    exact ⟨q,b0,c1,by rw [← c3];exact a2⟩
  have H2:HeapOK w' (fun b=>I' b∨own ρ' hk b) ρ' (G (C1c 0 post)):=by
    refine ⟨fun q b hq=>by obtain ⟨_,_,_,_,c,_⟩:=hg q b hq;exact c,fun q q' b b' g h1 h2 h3 h4=> ?_,fun q b g h1 h2 hi=> ?_,fun q b g h1 h2=> ?_,fun b hb=> ?_,Hs.fresh,Hs.rone⟩
    ·obtain ⟨b0,c1,_,c3,_⟩:=hg q b h1
     obtain ⟨b1,d1,_,d3,_⟩:=hg q' b' h2
     rw [c3]at h3;rw [d3]at h4
     exact Hs.sep q q' b0 b1 g c1 d1 h3 h4
    ·obtain ⟨b0,c1,c2,c3,_⟩:=hg q b h1
     rw [c3]at h2
     rcases hi with hi|⟨k,x,e1,e2⟩
     ·exact Hs.notI q b0 g c1 h2 hi
     ·obtain ⟨e3,e4⟩:=hsub k x e1
      have:=Hs.sep q k b0 x g c1 e3 h2 e2
      subst this
      exact c2 e4
    ·obtain ⟨b0,c1,c2,c3,_⟩:=hg q b h1
     rw [c3]at h2
     exact Hs.lt q b0 g c1 h2
    ·rcases hb with hb|hb
     ·exact Hs.ilt b hb
     ·exact Hk.own_lt hb
  unfold C8s at hv
  split at hv
  ·rename_i avs' hres
   obtain ⟨xs,g1,g2,g3⟩:=B6f hs' hrs hres
   have hds: ∀{ds:List D},R1 (R7 hk 6) avs'=some ds→ds.length=xs.length∧∀(i:Nat) d,ds[i]? =some d→RepD w' (fun b=>I' b∨own ρ' hk b) d (xs.getD i undef):=by
     intro ds hds
     obtain ⟨l1,l2⟩:=A3u hds
     refine ⟨by omega,fun i d hd=> ?_⟩
     obtain ⟨x,e3,e4⟩:=l2 i d hd
     exact A6x Hk 6 x d _ (g3 i x e3) e4
   have hfin: ∀x,(results fn a'.tmps).run P w'= .ok x w'→RepD w' (fun b=>I' b∨own ρ' hk b) d' x→
    ∃x,(results fn a'.tmps).run P w'= .ok x w'∧∃x' v' I'' ρ'' h'',Ending.returned x= .returned x'∧RepV w' I'' ρ'' v' x'∧HeapOK w' I'' ρ'' h''∧Tr w I ρ (G (C3t 0 pre)) w' I'' ρ'' h''∧C2u pre.length (.d v) post [] v' h'':=by
     intro x hx hr
     refine ⟨x,hx,x, .d v,_,ρ',G (C1c 0 post),rfl, .d _ _ (hle _ _ _ hr),H2,⟨tr.os,tr.tape,tr.output,tr.size,tr.frame,fun b hb=> .inl (tr.imm b hb),fun b hb hl=> ?_,fun b hb hl=>tr.ownBack b (hownG b hb) hl,tr.rho⟩,fun _=>(0,0),rfl,fun i b hb=> ?_,fun j b hb=>by simp at hb,fun j hj=>by simp at hj,fun j j' hj=>by simp at hj⟩
     ·rcases hb with hb|⟨k,x,e1,e2⟩
      ·exact tr.immBack b hb hl
      ·exact .inr (tr.ownBack b ⟨k,x,(hsub k x e1).1,e2⟩ hl)
     ·have h1:G (C1c 0 post) (A6z (0+i))=some b:=C7i hb
      rw [Nat.zero_add]at h1
      obtain ⟨_,_,_,_,_,c⟩:=hg _ b h1
      rw [h1,c]
   have hmain: ∃x,(results fn a'.tmps).run P w'= .ok x w'∧RepD w' (fun b=>I' b∨own ρ' hk b) d' x:=by
     split at hv
     ·rename_i d hd
      cases hv
      obtain ⟨l1,l2⟩:=hds hd
      obtain ⟨x,rfl⟩: ∃x,xs= [x]:=by
        cases xs with
        |nil=>simp at l1
        |cons x r=>cases r with
         |nil=>exact ⟨x,rfl⟩
         |cons=>simp at l1
      exact ⟨x,by rw [B2a fn a' w' _ g1];simp,l2 0 _ rfl⟩
     ·rename_i ds hne hd
      cases hv
      obtain ⟨l1,l2⟩:=hds hd
      have hx1: ¬xs.length=1:=by
        intro h1
        rw [← l1]at h1
        obtain ⟨v,rfl⟩:=List.length_eq_one_iff.1 h1
        exact hne v rfl
      exact ⟨_,by rw [B2a fn a' w' _ g1,dif_neg hx1], .tup ds xs l1 l2⟩
     ·cases hv
   obtain ⟨x,hx,hr⟩:=hmain
   obtain ⟨x1,h1,h2⟩:=hfin x hx hr
   exact ⟨he,x1,h1,h2⟩
  ·cases hv
theorem D0p {f:FuncId}{rs:List RV}{ac:AC}(F:FnOK P f N rs ac){avs:List AV}{pre:List Blk}{v:AV}{post:List (Option Blk)}{new:List (Option Blk)}(hok:okM avs pre v post new=true)(hl:avs.length≤N)
    (h:AWL P N none [.c ac] (fun e s=>(e= .nrm∨e= .ret)∧∃v' v1 g1,C5t s.t s.h rs=some v'∧AVle v' v1∧sbG s.h g1∧C2u pre.length v post new v1 (G g1)) .nrm ⟨T (B8e avs 0),G (C3t 0 pre)⟩):MCall P f avs pre v post new:=
  D7y F hok hl (by rw [C5y];exact h)
theorem C01 {t:Nat→AV}{h:J2}{rs:List RV}{d d':D}{e:Ex}{post:List (Option Blk)}(he:e= .nrm∨e= .ret)(ks:List Key)(h1:C8s ks t h rs=some d')(h2:DLe d' d)(h3:C2z h ks 0 post):
    (e= .nrm∨e= .ret)∧∃ks d',C8s ks (⟨t,h⟩:St).t (⟨t,h⟩:St).h rs=some d'∧DLe d' d∧C2z (⟨t,h⟩:St).h ks 0 post:=⟨he,ks,d',h1,h2,h3⟩
theorem C02 {t:Nat→AV}{h:J2}{ks:List Key}:C8s ks t h []=some (.tup []):=rfl
theorem D6a {h:J2}{ks:List Key}{k:Key}{b:Option Blk}(hm:k∈ks)(hb:h k=b):T6 h ks k=b:=by unfold T6;rw [if_pos hm];exact hb
theorem A70 {h:J2}: ∀q∈([]:List Key),h q≠none:=by simp
theorem A71 {h:J2}{k:Key}{b:Blk}{ks:List Key}(hb:h k=some b)(hr: ∀q∈ks,h q≠none): ∀q∈k::ks,h q≠none:=by
  intro q hq
  rcases List.mem_cons.1 hq with rfl|hq
  ·rw [hb];simp
  ·exact hr q hq
theorem A9z {l:List AV}:All2 AVle l l:=by
  induction l with
  |nil=>exact .nil
  |cons x r ih=>exact .cons (.refl x) ih
theorem C03 {a b x y:Nat}(h:(a==b)=false):((a,x):Key)≠(b,y):=by rintro ⟨⟩;simp at h
theorem nd1 {k:Key}: [k].Nodup:=by simp
theorem nd2 {k k':Key}(h:k≠k'): [k,k'].Nodup:=by simp [h]
theorem A3a {k:Key}:k∉ ([]:List Key):=by simp
theorem D0q {i d u:Nat}{ks:List Key}(h:Nat.blt d 900000=true)(hr:A6z i∉ks):A6z i∉ (d,u)::ks:=by
  simp only [List.mem_cons,not_or]
  exact ⟨fun e=>D4n h i e.symm,hr⟩
end
end Go.Abs
namespace Go.Abs
open Go
theorem neL {x d:Nat}{l:List Nat}(h:d∈l)(ha:(l.all fun a=> !(a==x))=true):(d==x)=false:=by
  have:=List.all_eq_true.1 ha d h
  simpa using this
theorem neR {x d:Nat}{l:List Nat}(h:d∈l)(ha:(l.all fun a=> !(x==a))=true):(x==d)=false:=by
  have:=List.all_eq_true.1 ha d h
  simpa using this
theorem D70 {d e:Nat}{l m:List Nat}(h:d∈l)(h':e∈m)(ha:(l.all fun a=>m.all fun b=> !(a==b))=true):(d==e)=false:=by
  have:=List.all_eq_true.1 (List.all_eq_true.1 ha d h) e h'
  simpa using this
theorem D0r {α:Type}(xs:List α)(k:Key):A8e (oS xs k)=some [oS xs k]:=by cases xs<;>rfl
def C30 {α:Type}(t:Nat→AV)(f:α→List D)(sz:Nat):Nat→List (Nat×Nat×Opd)→List α→Prop
  |_,[],[]=>True
  |i,(off,m,x)::ps,a::as=>off=i*sz∧m=sz∧A8e (ev t x)=some ((f a).map .d)∧C30 t f sz (i+1) ps as
  |_,_,_=>False
theorem D3i {α:Type}(pre post vs:List α)(h:vs.length≤post.length):B4k (pre++post) pre.length vs=pre++ (vs++post.drop vs.length):=by
  apply List.ext_getElem?
  intro i
  rw [A48 _ _ _ _ (by simp;omega)]
  by_cases h1:i<pre.length
  ·rw [if_neg (by omega),List.getElem?_append_left h1,List.getElem?_append_left h1]
  ·rw [List.getElem?_append_right (by omega),List.getElem?_append_right (by omega)]
   by_cases h2:i<pre.length+vs.length
   ·rw [if_pos (by omega),List.getElem?_append_left (by omega)]
   ·rw [if_neg (by omega),List.getElem?_append_right (by omega),List.getElem?_drop]
    congr 1;omega
theorem B7n {α:Type}{t:Nat→AV}{f:α→List D}{sz:Nat}(hf: ∀a,(f a).length=sz): ∀(as:List α) (ps:List (Nat×Nat×Opd)) (i:Nat) (pre post:List AV),pre.length=i*sz→post.length=as.length*sz→C30 t f sz i ps as→
    B4s t (pre++post) ps=some (pre++ (as.flatMap f).map .d)
  | [],[],i,pre,post,_,hl,_=>by
    have:post= []:=List.eq_nil_of_length_eq_zero (by simpa using hl)
    subst this;simp [B4s]
  | [],_::_,_,_,_,_,_,hp=>hp.elim
  |_::_,[],_,_,_,_,_,hp=>hp.elim
  |a::as,(off,m,x)::ps,i,pre,post,h1,h2,hp=>by
   obtain ⟨rfl,rfl,hc,hr⟩:=hp
   have hl:post.length=m+as.length*m:=by rw [h2,List.length_cons,Nat.add_mul];omega
   have hv:((f a).map AV.d).length=m:=by simp [hf]
   simp only [B4s,hc,hv,true_and]
   rw [if_pos (by simp [h1,hl]),← h1,D3i _ _ _ (by rw [hv,hl];omega),hv,← List.append_assoc]
   rw [B7n hf as ps (i+1) _ _ (by rw [List.length_append,hv,h1,Nat.add_mul];omega) (by rw [List.length_drop,hl];omega) hr]
   simp
theorem B7o {α:Type}{f:α→List D}{sz:Nat}(hf: ∀a,(f a).length=sz): ∀as:List α,B25 sz as.length (as.flatMap f)=as.map f
  | []=>rfl
  |a::as=>by
   simp only [List.length_cons,B25,List.flatMap_cons,List.map_cons]
   rw [List.take_left' (hf a),List.drop_left' (hf a),B7o hf as]
theorem C04 {α:Type}(z:List α): ∀n,(B89 z n).length=n*z.length
  |0=>by simp [B89]
  |n+1=>by simp [B89,C04 z n,Nat.add_mul];omega
theorem C05: ∀l:List D,B3v (l.map .d)=some l
  | []=>rfl
  |x::r=>by simp [B3v,C05 r]
theorem C06 {α:Type}{t:Nat→AV}{h:J2}{e sz n:Nat}{z:List D}{ps:List (Nat×Nat×Opd)}(f:α→List D)(xs:List α)(hf: ∀a,(f a).length=sz)(hz:z.length=sz)(hn:xs.length=n)(hp:C30 t f sz 0 ps xs)(hm: ∀a,(f a).map nrm=f a):
    W6 t h (.dslice e sz n z ps)=some (.d (.list (xs.map f))):=by
  have:=B7n hf xs ps 0 [] ((B89 z n).map .d) (by simp) (by rw [List.length_map,C04,hz,hn]) hp
  simp only [List.nil_append]at this
  simp only [W6,this,Option.bind_some,C05,Option.map_some]
  rw [← hn,B9j,B7o hf,List.map_map,show ((fun x=>List.map nrm x)∘f)=f from funext hm]
theorem A8j {α:Type}{t:Nat→AV}{u d e sz n:Nat}{z:List D}{ps:List (Nat×Nat×Opd)}(f:α→List D)(xs:List α)(hf: ∀a,(f a).length=sz)(hz:z.length=sz)(hn:xs.length=n)(hp:C30 t f sz 0 ps xs):
    B7g u d t (.bslice e sz n z ps)=some (.sl (d,u), .arr e sz (xs.map f)):=by
  have:=B7n hf xs ps 0 [] ((B89 z n).map .d) (by simp) (by rw [List.length_map,C04,hz,hn]) hp
  simp only [List.nil_append]at this
  simp only [B7g,this,Option.bind_some,C05,Option.map_some]
  rw [← hn,B7o hf]
/-- A key put into a set. -/
def insm (ks:List Int)(n:Int):List Int:=if n∈ks then ks else ks++ [n]
theorem DLe.bp {xs ys:List D}{off:Nat}(h:All2 (fun x y=>DLe x y∧y.one=true) xs ys):DLe (.bp xs off) (.bp ys off):=by
  intro w I v hv
  cases hv with
  |bp _ _ g vs ty fz hI hg hl hone hr=>
   refine .bp ys off g vs ty fz hI hg (by rw [← h.length];exact hl) (fun i d hi=> ?_) (fun i d hi=> ?_)
   ·obtain ⟨a,_,h2⟩:=h.get hi;exact h2.2
   ·obtain ⟨a,h1,h2⟩:=h.get hi;exact h2.1 _ _ _ (hr i a h1)
section
variable {P:Program}{u:Nat}{r:List AOp}{l:List (Nat×AV)}{g:List (Key×Option Blk)}{t:Nat→AV}{h:J2}
/-- Any number of elements behind a slice of the run's own, or behind nil. -/
theorem D0s {K:(Nat→AV)→J2→Prop}{α:Type}{d e sz:Nat}{ty:TypeId}{x y:Opd}(f:α→List D)(k:Key)(xs ys zs:List α)(hy:A2a (G g) sz (ev (T l) y)=some (ys.map f))(hx:ev (T l) x=oS xs k)(hb:G g k=oB e sz f xs)(hl:A8h xs ys=some zs)(hn:G g (d,u)=none)
    (hk:X8 P u r (T ((d,oS zs (d,u))::l)) (G (((d,u),oB e sz f zs)::(k,none)::g)) K):X8 P u (⟨some d, .append ty e sz x y,none⟩::r) (T l) (G g) K:=by
  cases ys with
  |cons v ys=>
   refine X0 f k xs v ys zs hy hx hb hl ?_
   rw [A2r (k:=(d,u)) (A18 hl),D5y (A18 hl)]at hk
   exact hk
  |nil=>
   obtain ⟨h1,rfl⟩:=A6y hl
   cases xs with
   |nil=>
    have hy':A2a (G g) sz (ev (T l) y)=some []:=hy
    have hx':ev (T l) x= .d .nilS:=hx
    unfold X8
    simp only [gW,opW,B7b,hy',hx',T7]
    have e0:G (((d,u),oB e sz f ([]:List α))::(k,none)::g)=G g:=by
      funext q
      rw [G,G]
      by_cases e1:q=(d,u)
      ·subst e1;rw [if_pos rfl,hn];rfl
      ·rw [if_neg e1]
       by_cases e2:q=k
       ·subst e2;rw [if_pos rfl,hb];rfl
       ·rw [if_neg e2]
    rw [← e0]
    exact hk
   |cons x0 xs=>
    refine B6l f k (x0::xs) [] _ hy hx hb hl ?_
    exact hk
end
end Go.Abs
namespace Go.Abs
open Go
/-! ### Functions that can be computed, and what they say of the plain ones -/
/-- What the one gives, the other one gives. -/
class Le {α:Type} (x y:Option α):Prop where
  out: ∀r,x=some r→y=some r
section
variable {α β γ σ τ:Type}
instance {x y:Option α}:CoeFun (Le x y) (fun _=> ∀r,x=some r→y=some r):=⟨fun h=>h.out⟩
instance (priority:=low) Le.refl (x:Option α):Le x x:=⟨fun _ h=>h⟩
instance Le.bind {x y:Option α}{f g:α→Option β}[h:Le x y][hf: ∀v,Le (f v) (g v)]:Le (x.bind f) (y.bind g):=by
  refine ⟨fun r hr=> ?_⟩
  cases x with
  |none=>cases hr
  |some v=>rw [h v rfl];exact hf v r hr
instance Le.cond {b:Bool}{x y x' y':Option α}[h:Le x x'][h':Le y y']:Le (cond b x y) (cond b x' y'):=by cases b<;>assumption
instance Le.ite {p:Prop}[Decidable p]{x y x' y':Option α}[h:Le x x'][h':Le y y']:Le (if p then x else y) (if p then x' else y'):=by split<;>assumption
instance Le.thenS {x x':Option (Sum σ β)}{f f':σ→Option γ}{g g':β→Option γ}[h:Le x x'][hf: ∀v,Le (f v) (f' v)][hg: ∀v,Le (g v) (g' v)]:Le (thenS x f g) (thenS x' f' g'):=by
  refine ⟨fun r hr=> ?_⟩
  cases x with
  |none=>cases hr
  |some v=>rw [h v rfl];cases v<;>first|exact hf _ r hr|exact hg _ r hr
def T9 (f:σ→Option (Stp σ τ))(s:σ):Option τ:=loopN f 100000 s
theorem Le.loopN {f f':σ→Option (Stp σ τ)}(h: ∀s,Le (f s) (f' s)): ∀(n:Nat) (s:σ),Le (loopN f n s) (loopN f' n s)
  |0,s=>⟨fun r hr=>by cases hr⟩
  |n+1,s=>⟨fun r hr=>by
   rw [Abs.loopN]at hr ⊢
   cases hf:f s with
   |none=>rw [hf]at hr;cases hr
   |some x=>
    rw [hf]at hr
    rw [h s x hf]
    cases x with
    |go s'=>exact Le.loopN h n s' r hr
    |out t=>exact hr⟩
instance Le.loop {f f':σ→Option (Stp σ τ)}[h: ∀s,Le (f s) (f' s)](s:σ):Le (T9 f s) (loop f' s):=⟨fun r hr=>loop_some.2 ⟨_,Le.loopN h _ s r hr⟩⟩
theorem Le.loopLh {f f':σ→α→Option (Stp σ τ)}{e:σ→τ}(h: ∀s a,Le (f s a) (f' s a)): ∀(l:List α) (s:σ),Le (loopL f e l s) (loopL f' e l s)
  | [],s=>⟨fun r hr=>hr⟩
  |a::l,s=>⟨fun r hr=>by
   rw [Abs.loopL]at hr ⊢
   cases hf:f s a with
   |none=>rw [hf]at hr;cases hr
   |some x=>
    rw [hf]at hr
    rw [h s a x hf]
    cases x with
    |go s'=>exact Le.loopLh h l s' r hr
    |out t=>exact hr⟩
instance Le.loopL {f f':σ→α→Option (Stp σ τ)}{e:σ→τ}[h: ∀s a,Le (f s a) (f' s a)](l:List α)(s:σ):Le (loopL f e l s) (loopL f' e l s):=Le.loopLh h l s
end
end Go.Abs
/-! Short names for what the generated proofs use most. -/
namespace Go.Abs
open Go
abbrev oo (d:Nat)(k:AK):AOp:=⟨some d,k,none⟩
abbrev og (d:Nat)(k:AK)(j:Nat):AOp:=⟨some d,k,some (j,true)⟩
abbrev oh (d:Nat)(k:AK)(j:Nat):AOp:=⟨some d,k,some (j,false)⟩
abbrev oe (k:AK):AOp:=⟨none,k,none⟩
abbrev ci (n:Int):Opd:= .c (.v (.int .i64 n))
abbrev cf (n:Nat):Opd:= .c (.fn (.func n) [] [])
abbrev z0:D:= .v (.int .i64 0)
abbrev zf:D:= .v (.bool false)
abbrev di (n:Int):AV:= .d (.v (.int .i64 n))
abbrev db (b:Bool):AV:= .d (bo b)
abbrev dl {α:Type}(e:α→List D)(xs:List α):AV:= .d (.list (List.map e xs))
/-- What lies at the first key with this number. -/
def gl:List (Key×Option Blk)→Nat→Option (Key×Option Blk)
  | [],_=>none
  |(k,b)::l,d=>cond (Nat.beq k.1 d) (some (k,b)) (gl l d)
theorem D6b {b:Option Blk}{k:Key}: ∀{g:List (Key×Option Blk)},gl g k.1=some (k,b)→G g k=b
  | [],h=>by cases h
  |(q,c)::l,h=>by
   unfold gl at h
   cases e:Nat.beq q.1 k.1
   ·rw [e,cond_false]at h
    have ne:k≠q:=by rintro rfl;simp at e
    rw [G,if_neg ne];exact D6b h
   ·rw [e,cond_true]at h
    simp only [Option.some.injEq,Prod.mk.injEq]at h
    obtain ⟨rfl,rfl⟩:=h
    exact G_hit
theorem gq {d u:Nat}{b:Option Blk}{g:List (Key×Option Blk)}(h:gl g d=some ((d,u),b)):G g (d,u)=b:=D6b h
theorem C7j {l:List (Nat×AV)}: ∀{l0:List (Nat×AV)},l0.map (fun p=>(p.1,T l p.1))=l0→sbT (T l) l0
  | [],_=>trivial
  |(i,v)::r,h=>by
   simp only [List.map_cons,List.cons.injEq,Prod.mk.injEq,true_and]at h
   exact ⟨.of h.1,C7j h.2⟩
theorem C7k {g:List (Key×Option Blk)}: ∀{g0:List (Key×Option Blk)},g0.map (fun p=>gl g p.1.1)=g0.map some→sbG (G g) g0
  | [],_=>trivial
  |(k,b)::r,h=>by
   simp only [List.map_cons,List.cons.injEq]at h
   refine ⟨?_,C7k h.2⟩
   cases b with
   |none=>trivial
   |some b=>exact ⟨b,D6b h.1, .refl b⟩
theorem sbr {l l0:List (Nat×AV)}{g g0:List (Key×Option Blk)}(h1:l0.map (fun p=>(p.1,T l p.1))=l0)(h2:g0.map (fun p=>gl g p.1.1)=g0.map some):Sb ⟨T l0,G g0⟩ ⟨T l,G g⟩:=G8 (C7j h1) (C7k h2)
theorem nl {a b:Nat}(h:Nat.ble a b=true):a≤b:=Nat.le_of_ble_eq_true h
theorem bs {α β:Type}{o:Option α}{f:α→Option β}{r:β}{Q:Prop}(h:o.bind f=some r)(k: ∀v,o=some v→f v=some r→Q):Q:=by
  cases o with
  |none=>cases h
  |some v=>exact k v rfl h
theorem js {σ β γ:Type}{x:Option (Sum σ β)}{f:σ→Option γ}{g:β→Option γ}{r:γ}{Q:Prop}(h:thenS x f g=some r)(k: ∀y,x=some y→Sum.elim f g y=some r→Q):Q:=by
  obtain ⟨y,h1,h2⟩:=C8q h
  exact k y h1 h2
section
variable {P:Program}{N u:Nat}{rk:Option Key}{aops:List AOp}{r:List It}{l:List (Nat×AV)}{g:List (Key×Option Blk)}{K:(Nat→AV)→J2→Prop}{Q:Ex→St→Prop}{s:St}
theorem cc {α:Type}{o:Opd}{a b:AC}{c:Bool}{x y z:α}(hc:ev s.t o= .d (.v (.bool c)))(h:cond c x y=z)(h1:c=true→x=z→AWL P N rk (.c a::r) Q .nrm s)(h2:c=false→y=z→AWL P N rk (.c b::r) Q .nrm s):AWL P N rk (.c (.cond o a b)::r) Q .nrm s:=
  D0c c hc (fun e=>h1 e (C7 e h)) (fun e=>h2 e (D7r e h))
theorem sd {d:Nat}{k:AK}{v:D}(h0:A6a k=0)(hv:W6 (T l) (G g) k=some (.d v))(hk:X8 P u aops (T ((d, .d v)::l)) (G g) K):X8 P u (⟨some d,k,none⟩::aops) (T l) (G g) K:=B9 (.d v) h0 hv hk
theorem sp {d:Nat}{k:AK}{q:Key}{n:Nat}(h0:A6a k=0)(hv:W6 (T l) (G g) k=some (.ptr q n))(hk:X8 P u aops (T ((d, .ptr q n)::l)) (G g) K):X8 P u (⟨some d,k,none⟩::aops) (T l) (G g) K:=B9 (.ptr q n) h0 hv hk
theorem sn {d ty:Nat}{k:AK}{q:Key}{n:Nat}{cs:List AV}(h0:C19 k=true)(hv:B7g u d (T l) k=some (.ptr q n, .box ty cs))(hk:X8 P u aops (T ((d, .ptr q n)::l)) (G (((d,u),some (.box ty cs))::g)) K):X8 P u (⟨some d,k,none⟩::aops) (T l) (G g) K:=B4t _ _ h0 hv hk
theorem gv {d j:Nat}{b w:Bool}{k:AK}{v:D}(h0:A6a k=0)(hg:GWt (T l j) b w)(hv:w=true→W6 (T l) (G g) k=some (.d v))(hk:X8 P u aops (T ((d,gd w true (.d v))::l)) (G g) K):X8 P u (⟨some d,k,some (j,b)⟩::aops) (T l) (G g) K:=Z7 w (.d v) h0 hg hv hk
theorem sv {d:Nat}{k:AK}{v:D}(hv:((A6a k,W6 (T l) (G g) k):Nat×Option AV)=(0,some (.d v)))(hk:X8 P u aops (T ((d, .d v)::l)) (G g) K):X8 P u (⟨some d,k,none⟩::aops) (T l) (G g) K:=B9 (.d v) (congrArg Prod.fst hv) (congrArg Prod.snd hv) hk
theorem ss {d:Nat}{k:AK}{q:Key}(hv:((A6a k,W6 (T l) (G g) k):Nat×Option AV)=(0,some (.sl q)))(hk:X8 P u aops (T ((d, .sl q)::l)) (G g) K):X8 P u (⟨some d,k,none⟩::aops) (T l) (G g) K:=B9 (.sl q) (congrArg Prod.fst hv) (congrArg Prod.snd hv) hk
theorem sl {d n off:Nat}{p:Opd}{q:Key}{ty:TypeId}{cs:List AV}{v:D}(hp:ev (T l) p= .ptr q off)(hb:G g q=some (.box ty cs))(hv:(cs.drop off).head? =some (.d v))(hk:X8 P u aops (T ((d, .d v)::l)) (G g) K):X8 P u (⟨some d, .load n false p,none⟩::aops) (T l) (G g) K:=B9 (.d v) rfl (X1 hp hb hv) hk
theorem sst {n:Nat}{p x:Opd}{k:Key}{off:Nat}{ty:TypeId}{bs cs:List AV}(hx:((A8e (ev (T l) x),cs.length,ev (T l) p):Option (List AV)×Nat×AV)=(some cs,n, .ptr k off))(hb:G g k=some (.box ty bs))(bs':List AV)(he:((B4k bs off cs,Nat.ble (off+n) bs.length):List AV×Bool)=(bs',true))
    (hk:X8 P u aops (T l) (G ((k,some (.box ty bs'))::g)) K):X8 P u (⟨none, .store n p x,none⟩::aops) (T l) (G g) K:=by
  simp only [Prod.mk.injEq]at hx he
  exact A8z _ _ _ _ _ hx.1 hx.2.1 hx.2.2 hb (Nat.le_of_ble_eq_true he.2) bs' he.1 hk
theorem gp {d j:Nat}{b w:Bool}{k:AK}{q:Key}{n:Nat}(h0:A6a k=0)(hg:GWt (T l j) b w)(hv:w=true→W6 (T l) (G g) k=some (.ptr q n))(hk:X8 P u aops (T ((d,gd w true (.ptr q n))::l)) (G g) K):X8 P u (⟨some d,k,some (j,b)⟩::aops) (T l) (G g) K:=Z7 w (.ptr q n) h0 hg hv hk
theorem gt {d j:Nat}{w:Bool}{k:AK}{v:D}(hg:((A6a k,T l j):Nat×AV)=(0, .d (bo w)))(hv:w=true→W6 (T l) (G g) k=some (.d v))(hk:X8 P u aops (T ((d,gd w true (.d v))::l)) (G g) K):X8 P u (⟨some d,k,some (j,true)⟩::aops) (T l) (G g) K:=Z7 w (.d v) (congrArg Prod.fst hg) (A19 (congrArg Prod.snd hg)) hv hk
theorem gf {d j:Nat}{w:Bool}{k:AK}{v:D}(hg:((A6a k,T l j):Nat×AV)=(0, .d (bo w)))(hv:(!w)=true→W6 (T l) (G g) k=some (.d v))(hk:X8 P u aops (T ((d,gd (!w) true (.d v))::l)) (G g) K):X8 P u (⟨some d,k,some (j,false)⟩::aops) (T l) (G g) K:=Z7 (!w) (.d v) (congrArg Prod.fst hg) (T8 (congrArg Prod.snd hg)) hv hk
theorem sa {d j x:Nat}{c q:Bool}{yo:Opd}(hj:ev (T l) (.t j)= .d (bo c))(hx:ev (T l) (.t x)=gd c true (.d (bo q)))(hy:ev (T l) yo= .d (bo false))(hk:X8 P u aops (T ((d, .d (bo (c&&q)))::l)) (G g) K):X8 P u (⟨some d, .pick (.t j) (.t x) yo,none⟩::aops) (T l) (G g) K:=B9 _ rfl (C5v hj (fun hc=>by rw [hx,A3 hc]) hy) hk
theorem lr {a:AC}(h: ∀u,(∀k,G g k≠none→k.2≠u)→X8 P u aops (T l) (G g) fun t h=>AWL P N rk (.c a::r) Q .nrm ⟨t,h⟩):AWL P N rk (.c (.seq (.reg aops) a)::r) Q .nrm ⟨T l,G g⟩:=A6 (D0 h)
end
section
variable {t:Nat→AV}{h:J2}
theorem vb {op:BinOp}{x y:Opd}{k:IntKind}{a b:Int}{v:Value}{w:Bool}(hx:ev t x=gd w true (.d (.v (.int k a))))(hy:ev t y= .d (.v (.int k b)))(hr:D29 op k a b=some v)(hw:w=true):W6 t h (.bin op x y)=some (.d (.v v)):=
  V8 (by rw [hx,A3 hw]) hy hr
theorem vl {n:Nat}{p:Opd}{k:Key}{off:Nat}{ty:TypeId}{bs:List AV}{v:AV}{w:Bool}(hp:ev t p=gd w true (.ptr k off))(hb:h k=some (.box ty bs))(hv:(bs.drop off).head? =some v)(hw:w=true):W6 t h (.load n false p)=some v:=X1 (by rw [hp,A3 hw]) hb hv
end
end Go.Abs
/-! Own memory among what a call hands out: slices that may be empty. -/
namespace Go.Abs
open Go
/-- A slice of the run's own, or one of nothing. -/
def oE {α:Type}(xs:List α)(k:Key):AV:=match xs with
  | []=> .d (.list [])
  |_=> .sl k
theorem D8s {α:Type}{k:Key}{xs:List α}(h:xs≠ []):oE xs k= .sl k:=by cases xs<;>first|exact absurd rfl h|rfl
theorem oB_ren {α:Type}{ty:TypeId}{sz:Nat}{e:α→List D}{xs:List α}{f:Key→Key}:(oB ty sz e xs).map (B55 f)=oB ty sz e xs:=by cases xs<;>rfl
section
variable {t:Nat→AV}{h:J2}
end
/-- What hands out data hands out no memory. -/
theorem MCall.ofP {P:Program}{f:FuncId}{ds:List D}{r:D}(hp:PCall P f ds r):MCall P f (ds.map .d) [] (.d r) [] [none]:=by
  refine ⟨by simp [okM,ok2,ok1,ok0],hp.1,fun w I ρ vs H hlen hrep=> ?_⟩
  refine (hp.2 w I vs H.ilt (by simpa using hlen) (fun i d hi=> ?_)).mono ?_
  ·have:=hrep i (.d d) (by rw [List.getElem?_map,hi];rfl)
   cases this with|d _ _ h=>exact h
  rintro e w' ⟨x,I',rfl,hr,tr⟩
  have hno: ∀g,¬own ρ (G (C3t 0 [])) g:=by rintro g ⟨k,b,h1,_⟩;cases h1
  have H2:HeapOK w' I' ρ (G (C3t 0 [])):=H.keep (fun g hg=>absurd hg (hno g)) (fun b hb=>tr.frame b (H.ilt b hb)) tr.imm (fun g hg=>absurd hg (hno g)) tr.ilt (fun _ _ h=>h) tr.size H.fresh H.rone
  refine ⟨x, .d r,I',ρ,G (C3t 0 []),rfl, .d _ _ hr,H2,⟨tr.os,tr.tape,tr.output,tr.size,fun b hb _=>tr.frame b hb,tr.imm,fun b hb hl=> .inl (tr.immBack b hb hl),fun b hb _=>hb,fun _ _ h=>h⟩,fun j=>D7x j,rfl,fun i b hb=>by simp at hb,fun j b hb=> ?_,fun j hj i hi=>absurd hi (by simp),fun j j' hj hj' e=> ?_⟩
  ·cases j<;>simp at hb
  ·simp only [List.length_cons,List.length_nil]at hj hj'
   omega
theorem AVle.tup {xs ys:List AV}(h:All2 AVle xs ys):AVle (.tup xs) (.tup ys):=by
  intro w I ρ v hv
  cases hv with
  |tup _ vs hl hr=>
   refine .tup _ vs (h.length▸hl) (fun i c hc=> ?_)
   obtain ⟨a,e1,e2⟩:=h.get hc
   exact e2 _ _ _ _ (hr i a e1)
theorem D0t {α:Type}{u S j:Nat}{f:Key→Key}{ty:TypeId}{sz:Nat}{e:α→List D}{xs:List α}{r:List (Option Blk)}{L:List (Key×Option Blk)}(h:C4l u S f (j+1) r=L):C4l u S f j (oB ty sz e xs::r)=((S+j,u),oB ty sz e xs)::L:=by
  rw [C4l,oB_ren,h]
theorem D82 {P:Program}{u:Nat}{l:List (Nat×AV)}{g:List (Key×Option Blk)}{S:Nat}{f:Opd}{args:List Opd}{fid:FuncId}{avs avs0:List AV}{pre:List Blk}{v v':AV}{post:List (Option Blk)}{new:List (Option Blk)}(hM:MCall P fid avs0 pre v post new)(κs ks us:List Key)(g':List (Key×Option Blk))
    (hc:V4 (T l) f args=some (fid,avs)) (hle:All2 AVle avs (avs0.map (D20 (A6m (kap κs) (kap κs))))) (hks:avs.flatMap (Y0 (G g) 6)=ks) (hlive: ∀q∈ks,G g q≠none)
    (hpre:D6z (G g) κs (pre.map (B55 (A6m (kap κs) (kap κs))))) (hsub: ∀k∈κs,k∈ks) (hnd:κs.Nodup) (hv:D3e (A6m (kap κs) fun j=>(S+j,u)) v=v')
    (hus:(C16 (kap κs) (A6m (kap κs) fun j=>(S+j,u)) 0 post++C4l u S (A6m (kap κs) fun j=>(S+j,u)) 0 new).map (·.1)=us) {L:List (Key×Option Blk)} (hL:C4l u S (A6m (kap κs) fun j=>(S+j,u)) 0 new=L)
    (hg:T7 (G g) (C16 (kap κs) (A6m (kap κs) fun j=>(S+j,u)) 0 post++L)=G g'):OC P u l g S f args v' ks us g':=
  D21 hM κs ks us g' hc hle hks hlive hpre hsub hnd hv hus (by rw [hL];exact hg)
theorem D0u {d u:Nat}(h:(Nat.blt d 900000||Nat.blt 901000 d)=true){i:Nat}(hi:i<1000):(d,u)≠A6z i:=by
  simp only [Bool.or_eq_true,Nat.blt_eq]at h
  intro e
  simp only [A6z,Prod.mk.injEq]at e;omega
theorem D6c {n:Nat}{v v1:AV}{post new:List (Option Blk)}{h:J2}(σs:List Key)(hv:v1=D3e (A6m A6z (kap σs)) v)(hpost:D3f h (A6m A6z (kap σs)) 0 post)(hnew:D8i h (A6m A6z (kap σs)) σs new)
    (hl:(σs.length,Nat.ble n 1000)=(new.length,true)) (hd: ∀k∈σs,∀i,i<1000→k≠A6z i) (hnd:σs.Nodup):C2u n v post new v1 h:=by
  simp only [Prod.mk.injEq,Nat.ble_eq]at hl
  have hget: ∀j,j<new.length→kap σs j∈σs:=by
    intro j hj
    simp only [kap,List.getD,List.getElem?_eq_getElem (show j<σs.length by omega),Option.getD_some]
    exact List.getElem_mem _
  refine ⟨kap σs,hv,fun i b hb=> ?_,fun j b hb=>C2x hnew hb,fun j hj i hi=>hd _ (hget j hj) i (by omega),fun j j' hj hj' e=> ?_⟩
  ·have:=C00 hpost hb
   rwa [Nat.zero_add]at this
  ·simp only [kap,List.getD,List.getElem?_eq_getElem (show j<σs.length by omega),List.getElem?_eq_getElem (show j'<σs.length by omega),Option.getD_some]at e
   exact B9z hnd (by omega) (by omega) e
end Go.Abs
/-! Own memory becomes data, wherever that is wanted. -/
namespace Go.Abs
open Go
/-- A value, where the blocks at some keys have become data (h holds these). -/
def FrV (h:J2)(x y:AV):Prop:=AVle x y∨∃d d',R7 h 6 x=some d∧DLe d d'∧y= .d d'
def FrB (h:J2)(ks:List Key)(k:Key)(b:Blk):Prop:=k∉ks∧∃b0,h k=some b0∧(b0=b∨∃ty cs cs',b0= .box ty cs∧b= .box ty cs'∧All2 (FrV (T6 h ks)) cs cs')
def frI (I:Nat→Prop)(ρ:Rho)(h:J2)(ks:List Key):Nat→Prop:=fun b=>I b∨own ρ (T6 h ks) b
section
variable {w:World}{I:Nat→Prop}{ρ:Rho}{h:J2}{ks:List Key}
theorem A6n {q:Key}{b:Blk}(hq:T6 h ks q=some b):h q=some b∧q∈ks:=by
  have:(if q∈ks then h q else none)=some b:=hq
  split at this
  ·exact ⟨this,‹_›⟩
  ·cases this
theorem D0v (H:HeapOK w I ρ h){x y:AV}{v:Value}(hf:FrV (T6 h ks) x y)(hx:RepV w I ρ x v):RepV w (frI I ρ h ks) ρ y v:=by
  rcases hf with q|⟨d,d',h1,h2,rfl⟩
  ·exact (q _ _ _ _ hx).keep (fun _ _=>rfl) (fun _ h=> .inl h) (fun _ _ h=>h)
  ·have Hk:=H.sub fun q b hq=>(A6n (ks:=ks) hq).1
   exact .d _ _ (h2 _ _ _ (A6x Hk 6 x d v hx h1))
theorem C07 {k:Key}{b b0:Blk}(q:b0=b∨∃ty cs cs',b0= .box ty cs∧b= .box ty cs'∧All2 (FrV (T6 h ks)) cs cs'):V0 ρ k b=V0 ρ k b0:=by
  rcases q with rfl|⟨ty,cs,cs',rfl,rfl,_⟩<;>rfl
theorem D0w (H:HeapOK w I ρ h){h':J2}(hh: ∀k b,h' k=some b→FrB h ks k b):HeapOK w (frI I ρ h ks) ρ h':=by
  have Hk:=H.sub fun q b hq=>(A6n (ks:=ks) hq).1
  refine ⟨fun k b hb=> ?_,fun k k' b b' g h1 h2 h3 h4=> ?_,fun k b g h1 h2 hi=> ?_,fun k b g h1 h2=> ?_,fun b hb=> ?_,H.fresh,H.rone⟩
  ·obtain ⟨_,b0,e1,rfl|⟨ty,cs,cs',rfl,rfl,ha⟩⟩:=hh k b hb
   ·exact (H.blk k b0 e1).keep (fun _ _=>rfl) (fun _ _=>rfl) (fun _ h=> .inl h) (fun _ _ h=>h)
   ·obtain ⟨g,vs,b1,b2,b3,b4,b5⟩:=H.blk k _ e1
    refine ⟨g,vs,b1,b2,by rw [← ha.length];exact b3,b4,fun i c hc=> ?_⟩
    obtain ⟨x,g1,g2⟩:=ha.get hc
    exact D0v H g2 (b5 i x g1)
  ·obtain ⟨_,b0,e1,q⟩:=hh k b h1
   obtain ⟨_,b1,e2,q'⟩:=hh k' b' h2
   rw [C07 q]at h3
   rw [C07 q']at h4
   exact H.sep k k' b0 b1 g e1 e2 h3 h4
  ·obtain ⟨n,b0,e1,q⟩:=hh k b h1
   rw [C07 q]at h2
   rcases hi with hi|⟨k',b',e2,e3⟩
   ·exact H.notI k b0 g e1 h2 hi
   ·obtain ⟨e4,e5⟩:=A6n e2
    have:=H.sep k k' b0 b' g e1 e4 h2 e3
    subst this
    exact n e5
  ·obtain ⟨n,b0,e1,q⟩:=hh k b h1
   rw [C07 q]at h2
   exact H.lt k b0 g e1 h2
  ·rcases hb with hb|hb
   ·exact H.ilt b hb
   ·exact Hk.own_lt hb
theorem D4o {h':J2}(hh: ∀k b,h' k=some b→FrB h ks k b){g:Nat}(ho:own ρ h' g):own ρ h g:=by
  obtain ⟨k,b,h1,h2⟩:=ho
  obtain ⟨_,b0,e1,q⟩:=hh k b h1
  exact ⟨k,b0,e1,by rw [← C07 q];exact h2⟩
theorem D83 {h':J2}(hh: ∀k b,h' k=some b→FrB h ks k b):Tr w I ρ h w (frI I ρ h ks) ρ h':=
  ⟨rfl,rfl,rfl,Nat.le_refl _,fun _ _ _=>rfl,fun _ h=> .inl h,fun _ hb _=>hb.imp id fun ⟨k,c,a1,a2⟩=>⟨k,c,(A6n a1).1,a2⟩,fun _ hb _=>D4o hh hb,fun _ _ h=>h⟩
end
section
variable {P:Program}{N:Nat}{rk:Option Key}{s:St}{Q:Ex→St→Prop}
theorem D84 {c:Code}{s0:St}(ks:List Key)(ht: ∀i,FrV (T6 s.h ks) (s.t i) (s0.t i))(hg: ∀k b,s0.h k=some b→FrB s.h ks k b)(h:AWc P N rk c s0 Q):AWc P N rk c s Q:=by
  intro w I ρ a hs ro hro
  have hs0:Sim w (frI I ρ s.h ks) ρ N s0 a:=⟨hs.size,⟨hs.defers.nd,fun d hd=>by
    obtain ⟨r,e1,e2,e3,e4⟩:=hs.defers.each d hd
    exact ⟨r,e1,e2,fun q=>q.elim e3 fun ⟨k,c,a1,a2⟩=>e4 ⟨k,c,(A6n a1).1,a2⟩,fun q=>e4 (D4o hg q)⟩⟩,fun i=>D0v hs.heap (ht i) (hs.tmp i),D0w hs.heap hg⟩
  refine (h w _ ρ a hs0 ro hro).mono ?_
  rintro e a' w' ⟨s',I',ρ',hq,hs',htr,hnd⟩
  exact ⟨s',I',ρ',hq,hs',(D83 hg).trans htr,hnd⟩
end
def frT (h:J2)(t:Nat→AV):List (Nat×AV)→Prop
  | []=>True
  |(i,v)::r=>FrV h (t i) v∧frT h t r
def frG (h:J2)(ks:List Key):List (Key×Option Blk)→Prop
  | []=>True
  |(k,b)::r=>(match b with|some b=>FrB h ks k b|none=>True)∧frG h ks r
theorem D0x {h:J2}{t:Nat→AV}: ∀{l:List (Nat×AV)},frT h t l→∀i,FrV h (t i) (T l i)
  | [],_,i=> .inl (.any _)
  |(j,v)::r,H,i=>by
   rw [T]
   split
   ·rename_i e;subst e;exact H.1
   ·exact D0x H.2 i
theorem D0y {h:J2}{ks:List Key}: ∀{g:List (Key×Option Blk)},frG h ks g→∀k b,G g k=some b→FrB h ks k b
  | [],_,k,b,hb=>by cases hb
  |(j,v)::r,H,k,b,hb=>by
   rw [G]at hb
   split at hb
   ·rename_i e;subst e;subst hb;exact H.1
   ·exact D0y H.2 k b hb
section
variable {P:Program}{N:Nat}{rk:Option Key}{r:List It}{Q:Ex→St→Prop}{l:List (Nat×AV)}{g:List (Key×Option Blk)}
/-- What is the run's own becomes data. -/
theorem l_fr {a:AC}(ks:List Key)(l0:List (Nat×AV))(g0:List (Key×Option Blk))(h1:frT (T6 (G g) ks) (T l) l0)(h2:frG (G g) ks g0)(h:AWL P N rk (.c a::r) Q .nrm ⟨T l0,G g0⟩):AWL P N rk (.c a::r) Q .nrm ⟨T l,G g⟩:=
  fun M c hc=>D84 (s:=⟨T l,G g⟩) ks (D0x h1) (D0y h2) (h M c hc)
end
theorem A9h {h:J2}{x y:AV}(e:x=y):FrV h x y:= .inl (.of e)
theorem fr_d {h:J2}{x:AV}{d d':D}(h1:R7 h 6 x=some d)(h2:DLe d d'):FrV h x (.d d'):= .inr ⟨d,d',h1,h2,rfl⟩
theorem D0z {h:J2}{ks:List Key}{k:Key}{b:Blk}{l:List (Key×Option Blk)}(h1:h k=some b)(hn:k∉ks)(hl:frG h ks l):frG h ks ((k,some b)::l):=⟨⟨hn,b,h1, .inl rfl⟩,hl⟩
theorem D4p {α:Type}{h:J2}{ks:List Key}{k:Key}{ty:TypeId}{sz:Nat}{f:α→List D}{xs:List α}{l:List (Key×Option Blk)}(h1:h k=oB ty sz f xs)(hn:k∉ks)(hl:frG h ks l):frG h ks ((k,oB ty sz f xs)::l):=by
  cases xs with
  |nil=>exact ⟨trivial,hl⟩
  |cons x xs=>exact ⟨⟨hn,_,h1, .inl rfl⟩,hl⟩
theorem D6d {h:J2}{ks:List Key}{k:Key}{ty:TypeId}{cs cs':List AV}{l:List (Key×Option Blk)}(h1:h k=some (.box ty cs))(hn:k∉ks)(hc:All2 (FrV (T6 h ks)) cs cs')(hl:frG h ks l):frG h ks ((k,some (.box ty cs'))::l):=⟨⟨hn,_,h1, .inr ⟨ty,cs,cs',rfl,rfl,hc⟩⟩,hl⟩
theorem C1y {k:Key}:k∉ ([]:List Key):=by simp
theorem B7p {k q:Key}{ks:List Key}(h:k≠q)(hr:k∉ks):k∉q::ks:=by simp [h,hr]
/-- What is handed in becomes data, and what is handed out is the run's own. -/
theorem FCall.fr {P:Program}{u S:Nat}{f:FuncId}{avs:List AV}{ds ds':List D}{v:AV}{ups:List (Key×Option Blk)}{h0:J2}(hF:FCall P u S f (ds'.map .d) (fun _=>none) v ups)(hd:R1 (R7 h0 6) avs=some ds)(hle:All2 DLe ds ds')(_hu: ∀k∈ups.map (·.1),∃j,j<6∧k=(S+j,u)):
    FCall P u S f avs (T6 h0 (avs.flatMap (Y0 h0 6))) v ((avs.flatMap (Y0 h0 6)).map (fun k=>(k,none))++ups):=by
  refine ⟨hF.1,fun w I ρ h vs H hh hlen hrep hfr=> ?_⟩
  have hlive:=A9w avs ds hd
  have heq: ∀q∈avs.flatMap (Y0 h0 6),h q=h0 q:=by
    intro q hq
    cases hb:h0 q with
    |none=>exact absurd hb (hlive q hq)
    |some b=>exact hh q b (by unfold T6;rw [if_pos hq,hb])
  have hd':R1 (R7 h 6) avs=some ds:=by rw [← hd];exact A8g avs heq
  rw [← B5k avs heq]
  clear hd hh heq hlive
  generalize hks:avs.flatMap (Y0 h 6)=ks at*
  let hf:J2:=fun q=>if q∈ks then none else h q
  have hff: ∀k b,hf k=some b→FrB h ks k b:=by
    intro q b hq
    have:(if q∈ks then none else h q)=some b:=hq
    split at this
    ·cases this
    ·exact ⟨‹_›,b,this, .inl rfl⟩
  have hU:T7 h (ks.map fun k=>(k,none))=hf:=by
    funext q
    show _=if q∈ks then none else h q
    by_cases e:q∈ks
    ·rw [if_pos e]
     cases hb:T7 h (ks.map fun k=>(k,none)) q with
     |none=>rfl
     |some b=>
      rcases B6m _ _ _ _ hb with ⟨a,_⟩|a
      ·exact absurd (by simp only [List.map_map,List.mem_map,Function.comp];exact ⟨q,e,rfl⟩) a
      ·simp at a
    ·rw [if_neg e,A2n]
     simp only [List.map_map,List.mem_map,Function.comp]
     rintro ⟨x,hx,rfl⟩
     exact e hx
  have hUU: ∀(a b:List (Key×Option Blk)) (h:J2),T7 h (a++b)=T7 (T7 h a) b:=by
    intro a
    induction a with
    |nil=>intro b h;rfl
    |cons x a ih=>intro b h;obtain ⟨k,c⟩:=x;exact ih b _
  have H1:=D0w (ks:=ks) H hff
  have hk:R1 (R7 (T6 h ks) 6) avs=some ds:=by
    rw [← hd']
    refine A8g avs fun q hq=> ?_
    rw [hks]at hq
    show (if q∈ks then h q else none)=h q
    rw [if_pos hq]
  obtain ⟨l1,l2⟩:=A3u hk
  have Hk:=H.sub fun q b hq=>(A6n (ks:=ks) hq).1
  refine (hF.2 w (frI I ρ h ks) ρ hf vs H1 (fun q b hq=>by cases hq) (by rw [List.length_map,← hle.length];omega) (fun i c hc=> ?_) hfr).mono ?_
  ·obtain ⟨d',e1,rfl⟩:=B9r hc
   obtain ⟨d,e2,e3⟩:=hle.get e1
   obtain ⟨x,e4,e5⟩:=l2 i d e2
   exact .d _ _ (e3 _ _ _ (A6x Hk 6 x d _ (hrep i x e4) e5))
  rintro e w' ⟨x,I',ρ',rfl,r1,r2,r3,r4⟩
  rw [hUU,hU]
  exact ⟨x,I',ρ',rfl,r1,r2,(D83 hff).trans r3,r4⟩
section
variable {P:Program}{u:Nat}{l:List (Nat×AV)}{g:List (Key×Option Blk)}
end
end Go.Abs
/-! Functions as data: a list of functions, one of which is chosen. -/
namespace Go.Abs
open Go
/-- A function, or none, as data. -/
def fnD:Option Nat→D
  |some f=> .fn (.func f) [] []
  |none=> .v .nilFunc
def getf (l:List (Option Nat))(n:Int):Option Nat:=if 0≤n then (l[n.toNat]?).join else none
/-- One of two functions. -/
theorem C1z {α:Type}{v a:Nat}{x y:Option α}{r:α}(h:cond (Nat.beq v a) x y=some r):v=a∧x=some r∨Nat.beq v a=false∧y=some r:=by
  cases e:Nat.beq v a
  ·rw [e]at h;exact .inr ⟨rfl,h⟩
  ·rw [e]at h;exact .inl ⟨Nat.eq_of_beq_eq_true e,h⟩
end Go.Abs
namespace Go.Abs
open Go
/-- Elements put into a list at a place. -/
def D8t {α:Type}(xs:List α)(i:Int)(ys:List α):Option (List α):=if xs.length≠0∧ys.length≠0∧0≤i∧i≤xs.length∧xs.length+ys.length≤1000000000 then some (xs.take i.toNat++ys++xs.drop i.toNat)else none
/-- The contract of slices.Insert at a type, as it is used. -/
def InsC (P:Program)(f:FuncId)(e sz:Nat):Prop:= ∀(xs ys:List (List D)) (i:Nat),xs≠ []→ys≠ []→i≤xs.length→xs.length+ys.length≤1000000000→
  MCall P f [.sl (900000,0), .d (.v (.int .i64 i)), .sl (900001,0)] [.arr e sz xs, .arr e sz ys] (.sl (800000,0)) [none,none] [some (.arr e sz (xs.take i++ys++xs.drop i))]
end Go.Abs
/-! Shorter proofs: the resolved code need not be written, chains of equal parts. -/
namespace Go.Abs
open Go
/-- What the conversion finds of a function: where its results lie, and its code. -/
def D85 (P:Program)(fn:Func)(N:Nat)(M:C4h):Option (List RV×AC):=
  match fn.results.toList.mapM (C5s P),fn.body with
  |some rs,some c=>match A36 P N M c,fn.name== "runtime.NumGoroutine" with
   |some ac,false=>some (rs,ac)
   |_,_=>none
  |_,_=>none
theorem fk {P:Program}{f:FuncId}{fn:Func}{N:Nat}{rs:List RV}{ac:AC}(h:P.funcs[f]? =some fn)(hn:fn.ntmps=N)(M:C4h)(hc:D85 P fn N M=some (rs,ac)):FnOK P f N rs ac:=by
  unfold D85 at hc
  split at hc
  ·rename_i rs' c hr hb
   split at hc
   ·rename_i ac' hac hx
    simp only [Option.some.injEq,Prod.mk.injEq]at hc
    obtain ⟨rfl,rfl⟩:=hc
    exact ⟨fn,c,h,hb,hn,hr,⟨M,hac⟩,hx⟩
   ·cases hc
  ·cases hc
def m0:C4h:=fun _=> []
theorem rD {h:J2}{n:Nat}{x:D}{r:List AV}{ds:List D}(h2:R1 (R7 h n) r=some ds):R1 (R7 h n) (.d x::r)=some (x::ds):=C9 E1 h2
theorem ca {x:D}{xs ys:List D}(hx:x.one=true)(h:All2 (fun x y=>DLe x y∧y.one=true) xs ys):All2 (fun x y=>DLe x y∧y.one=true) (x::xs) (x::ys):= .cons ⟨.refl _,hx⟩ h
theorem cz: ∀{xs:List D} (_:xs.all D.one=true),All2 (fun x y=>DLe x y∧y.one=true) xs xs
  | [],_=> .nil
  |_::_,h=>by
   simp only [List.all_cons,Bool.and_eq_true]at h
   exact ca h.1 (cz h.2)
theorem cv {x:AV}{xs ys:List AV}(h:All2 AVle xs ys):All2 AVle (x::xs) (x::ys):= .cons (.of rfl) h
theorem cw: ∀{xs:List AV},All2 AVle xs xs
  | []=> .nil
  |_::_=>cv cw
abbrev zs (n:Nat):List AV:=List.replicate n (di 0)
theorem sg {g g0:List (Key×Option Blk)}{d u:Nat}{b:Blk}(h:gl g d=some ((d,u),some b))(r:sbG (G g) g0):sbG (G g) (((d,u),some b)::g0):=B0 (gq h) (.of rfl) r
end Go.Abs
/-! Arrays of values, indexed by what is only known as the program runs. -/
namespace Go.Abs
open Go
def setc {α:Type}(xs:List α)(n:Int)(a:α):Option (List α):=if 0≤n∧n.toNat<xs.length then some (xs.set n.toNat a)else none
theorem D10 {α:Type}{xs:List α}{n:Int}{a:α}(h:D6 xs n=some a):0≤n∧n.toNat<xs.length∧xs[n.toNat]? =some a:=by
  unfold D6 at h
  split at h
  ·exact ⟨‹_›,(List.getElem?_eq_some_iff.1 h).1,h⟩
  ·cases h
theorem C7l {α:Type}{f:α→List D}{sz:Nat}(hs: ∀x,(f x).length=sz): ∀{xs:List α} {i:Nat} {a:α},xs[i]? =some a→(((xs.map f).flatten).drop (i*sz)).take sz=f a∧(i+1)*sz≤((xs.map f).flatten).length
  | [],_,_,h=>by simp at h
  |x::r,0,a,h=>by
   simp only [List.getElem?_cons_zero,Option.some.injEq]at h
   subst h
   simp only [List.map_cons,List.flatten_cons,Nat.zero_mul,List.drop_zero,Nat.zero_add,Nat.one_mul,List.length_append,hs]
   refine ⟨?_,by omega⟩
   rw [← hs x,List.take_left]
  |x::r,i+1,a,h=>by
   simp only [List.getElem?_cons_succ]at h
   obtain ⟨h1,h2⟩:=C7l hs h
   simp only [List.map_cons,List.flatten_cons,List.length_append,hs]
   rw [Nat.succ_mul i sz,Nat.add_comm (i*sz) sz,← hs x,List.drop_append,hs x]
   simp only [Nat.add_sub_cancel_left]
   rw [List.drop_eq_nil_of_le (by rw [hs x];omega),List.nil_append]
   exact ⟨h1,by rw [Nat.succ_mul (i+1) sz];omega⟩
section
variable {t:Nat→AV}{h:J2}
theorem D6e {α:Type}{len sz:Nat}{x i:Opd}{k:Key}{off:Nat}{kd:IntKind}{n:Int}{xs:List α}{a:α}(hx:ev t x= .ptr k off)(hi:ev t i= .d (.v (.int kd n)))(hv:D6 xs n=some a)(hl:xs.length=len):W6 t h (.idxP len sz x i)=some (.ptr k (off+n.toNat*sz)):=by
  obtain ⟨h0,h1,_⟩:=D10 hv
  simp only [W6,hx,hi]
  rw [if_pos ⟨h0,hl▸h1⟩]
theorem D86 {α:Type}{sz off:Nat}{bs:List AV}{n:Int}{xs:List α}{a:α}{f:α→List D}(hs: ∀x,(f x).length=sz)(hv:D6 xs n=some a)(hb:(bs.drop off).take (xs.length*sz)=((xs.map f).flatten).map AV.d):
    sz≤(bs.drop (off+n.toNat*sz)).length∧(bs.drop (off+n.toNat*sz)).take sz=(f a).map .d:=by
  obtain ⟨h0,h1,h2⟩:=D10 hv
  obtain ⟨g1,g2⟩:=C7l hs h2
  have hlen:=congrArg List.length hb
  rw [List.length_map,List.length_take,List.length_drop]at hlen
  rw [Nat.add_mul,Nat.one_mul]at g2
  have hle:((xs.map f).flatten).length≤xs.length*sz:=by omega
  have hge:(n.toNat+1)*sz≤xs.length*sz:=Nat.mul_le_mul_right _ h1
  rw [Nat.add_mul,Nat.one_mul]at hge
  refine ⟨by rw [List.length_drop];omega,?_⟩
  have:(((bs.drop off).take (xs.length*sz)).drop (n.toNat*sz)).take sz=((((xs.map f).flatten).map AV.d).drop (n.toNat*sz)).take sz:=by rw [hb]
  rw [List.drop_take,List.take_take,List.drop_drop,← List.map_drop,← List.map_take,g1,Nat.min_eq_left (by omega)]at this
  exact this
theorem D3j {α:Type}{sz off:Nat}{p:Opd}{k:Key}{ty:TypeId}{bs:List AV}{n:Int}{xs:List α}{a:α}{f:α→List D}{v:AV}(hp:ev t p= .ptr k (off+n.toNat*sz))(hb:h k=some (.box ty bs))(hv:D6 xs n=some a)(hs: ∀x,(f x).length=sz)(hc:(bs.drop off).take (xs.length*sz)=((xs.map f).flatten).map AV.d)(hr:A39 ((f a).map .d)=v):W6 t h (.load sz true p)=some v:=by
  obtain ⟨h1,h2⟩:=D86 hs hv hc
  simp only [W6,hp,Z3,hb,if_true,h1,h2,hr]
end
theorem C7m {P:Program}{u:Nat}{r:List AOp}{l:List (Nat×AV)}{g:List (Key×Option Blk)}{K:(Nat→AV)→J2→List (List Key×List Key)→Prop}{α:Type}{n off sz:Nat}{p x:Opd}(f:α→List D)(q:Key)(ty:TypeId)(xs:List α)(i:Int)(a b:α)(ds:List D)(hx:A8e (ev (T l) x)=some (ds.map .d))(hn:ds.length=n)(hp:ev (T l) p= .aptr q sz i.toNat off)(hb:G g q=some (.arr ty sz (xs.map f)))(ha:D6 xs i=some a)
    (hl:off+n≤(f a).length) (he:B4k (f a) off ds=f b) (hk:B3m P u r (T l) (G ((q,some (.arr ty sz ((B8d xs i b).map f)))::g)) fun t' h' tr=>K t' h' ((A59 (T l) (G g) (.store n p x),[q])::tr)):B3m P u (⟨none, .store n p x,none⟩::r) (T l) (G g) K:=by
  unfold B3m
  have h1:(ds.map AV.d).length=n:=by simpa using hn
  have h2:(xs.map f).set i.toNat (f b)=(B8d xs i b).map f:=by rw [B8d,List.map_set]
  simp only [gW,opW,B7b,hx,h1,if_true,hp,hb,(B17 (f:=f) ha).2.2,B6k ds,hl,and_self,he,h2]
  exact hk
def shlc (k:IntKind)(a b:Int):Option Int:=if b<0 then none else some (k.wrap (a*2^ (min b.toNat k.bits)))
def shrc (k:IntKind)(a b:Int):Option Int:=if b<0 then none else some (a.fdiv (2^ (min b.toNat k.bits)))
end Go.Abs
namespace Go.Abs
open Go
section
variable {P:Program}
end
end Go.Abs
/-! Any number of elements, appended in a region that draws its order. -/
namespace Go.Abs
open Go
section
variable {P:Program}{u:Nat}{r:List AOp}{l:List (Nat×AV)}{g:List (Key×Option Blk)}
theorem B6o: ∀{aops:List AOp} {u:Nat} {t:Nat→AV} {h:J2} {K K':(Nat→AV)→J2→List (List Key×List Key)→Prop},(∀t h tr,K t h tr→K' t h tr)→B3m P u aops t h K→B3m P u aops t h K'
  | [],u,t,h,K,K',hk,hr=>by simp only [B3m]at hr ⊢;exact hk _ _ _ hr
  |⟨dst,k,g⟩::r,u,t,h,K,K',hk,hr=>by
   simp only [B3m]at hr ⊢
   exact D5t (fun v ups=>B6o fun t h tr=>hk _ _ _) (D33 fun v ups=>B6o fun t h tr=>hk _ _ _) hr
/-- Behind nil. -/
theorem D11 {K:(Nat→AV)→J2→List (List Key×List Key)→Prop}{α:Type}{d e sz:Nat}{ty:TypeId}{x y:Opd}(f:α→List D)(ys zs:List α)(hy:A2a (G g) sz (ev (T l) y)=some (ys.map f))(hx:ev (T l) x= .d .nilS)(hl:A8h ([]:List α) ys=some zs)(hn:G g (d,u)=none)
    (hk:B3m P u r (T ((d,oS zs (d,u))::l)) (G (((d,u),oB e sz f zs)::g)) fun t' h' tr=>K t' h' ((A59 (T l) (G g) (.append ty e sz x y),[(d,u)])::tr)∧K t' h' ((A59 (T l) (G g) (.append ty e sz x y),[])::tr)):B3m P u (⟨some d, .append ty e sz x y,none⟩::r) (T l) (G g) K:=by
  obtain ⟨h1,h2⟩:=A6y hl
  have h2:zs=ys:=h2
  rw [h2]at hk
  clear h2 hl
  cases ys with
  |nil=>
   have hy':A2a (G g) sz (ev (T l) y)=some []:=hy
   have e0:G (((d,u),oB e sz f ([]:List α))::g)=G g:=by
     funext q
     rw [G]
     by_cases e1:q=(d,u)
     ·subst e1;rw [if_pos rfl,hn];rfl
     ·rw [if_neg e1]
   rw [e0]at hk
   unfold B3m
   simp only [gW,opW,B7b,hy',hx,T7]
   exact B6o (fun _ _ _ q=>q.2) hk
  |cons y0 ys=>
   unfold B3m
   simp only [List.map_cons]at hy
   simp only [gW,opW,B7b,hy,hx]
   rw [if_pos (by simpa using h1)]
   simp only [Option.getD_some,List.map_cons,List.map_nil,T7]
   have e0:upd (G g) (d,u) (some (.arr e sz (f y0::ys.map f)))=G (((d,u),oB e sz f (y0::ys))::g):=by rw [D0b];rfl
   rw [e0]
   exact B6o (fun _ _ _ q=>q.1) hk
end
theorem D8u {Q R:Prop}(f:Q→R)(q:Q):R:=f q
end Go.Abs
/-! Strings. -/
namespace Go.Abs
open Go
def D71 (s:ByteArray)(i:Int):Option Int:=if 0≤i then (s.data.toList[i.toNat]?).map fun b=>(b.toNat:Int)else none
def strc (a b:ByteArray):Option ByteArray:=if a.size+b.size≤1000000000 then some (a++b)else none
def strs (s:ByteArray)(i j:Int):Option ByteArray:=if 0≤i∧i≤j∧j≤s.size then some (s.extract i.toNat j.toNat)else none
section
variable {t:Nat→AV}{h:J2}{x y z:Opd}{s s' v:ByteArray}{k k':IntKind}{i j:Int}
theorem D4q {n:Int}(hx:ev t x= .d (.v (.string s)))(hy:ev t y= .d (.v (.int k i)))(hv:D71 s i=some n):W6 t h (.str .idx [x,y])=some (.d (.v (.int .u8 n))):=by
  unfold D71 at hv
  split at hv
  ·rename_i h0
   rw [Option.map_eq_some_iff]at hv
   obtain ⟨b,hb,rfl⟩:=hv
   simp only [W6,List.map_cons,List.map_nil,hx,hy,C3r,h0,if_true,hb,Option.map_some]
  ·cases hv
end
end Go.Abs
/-! A list that may be empty: the two cases. -/
namespace Go.Abs
open Go
theorem C4q {α β:Type}{xs:List α}{p q:Option β}{r:β}(h:cond xs.isEmpty p q=some r):(xs= []∧p=some r)∨(xs≠ []∧q=some r):=by
  cases xs with
  |nil=>exact .inl ⟨rfl,h⟩
  |cons x xs=>exact .inr ⟨List.cons_ne_nil _ _,h⟩
theorem D4r {α:Type}{k:Key}{xs:List α}(h:xs= []):oS xs k= .d .nilS:=by subst h;rfl
/-- Runs of equal numbers become one. -/
def B3n:List Int→List Int
  | []=> []
  | [x]=> [x]
  |x::y::r=>cond (x==y) (B3n (y::r)) (x::B3n (y::r))
def B95 (p:List Int):Option (List Int):=match p with
  | []=>none
  |x::r=>some (B3n (x::r))
theorem C4r {p r:List Int}(h:B95 p=some r):p≠ []∧r=B3n p:=by
  cases p with
  |nil=>cases h
  |cons x p=>exact ⟨List.cons_ne_nil _ _,(Option.some.inj h).symm⟩
theorem C08 (a:Int): ∀l:List Int,B3n (l++ [a])=B3n l++ (if l.getLast? =some a then []else [a])
  | []=>rfl
  | [x]=>by
    by_cases e:x=a
    ·subst e;simp [B3n]
    ·have:(x==a)=false:=by simp [e]
     simp [B3n,e,this]
  |x::y::r=>by
   have ih:=C08 a (y::r)
   rw [List.cons_append]at ih
   rw [List.cons_append,List.cons_append,B3n,B3n,ih,List.getLast?_cons_cons]
   cases x==y
   ·rfl
   ·rfl
end Go.Abs
/-! Calls whose code is run in place: what is the run's own is shared with them. -/
namespace Go.Abs
open Go
theorem C8t {u d:Nat}{t:Nat→AV}{ty:TypeId}{x:Opd}{cs:List AV}(h:ev t x=A39 cs):B7g u d t (.box ty true x)=some (.ptr (d,u) 0, .box ty cs):=by
  have:cellsOf true (ev t x)=some cs:=by
    rw [h];unfold A39
    cases ha:B3v cs with
    |none=>rfl
    |some ds=>
     have:=Z1 cs
     unfold A39 at this
     rw [ha]at this
     exact this
  simp only [B7g,this,Option.map_some]
section
variable {P:Program}{u:Nat}{r:List AOp}{l:List (Nat×AV)}{g:List (Key×Option Blk)}{K:(Nat→AV)→J2→Prop}
/-- What the code that is run in place has to leave. -/
def D8v {γ:Type}(rs:List RV)(J:AV→γ→List (Nat×AV)×List (Key×Option Blk)→Prop)(l1:γ→List (Nat×AV))(g1:γ→List (Key×Option Blk))(e:Ex)(s:St):Prop:=
  (e= .nrm∨e= .ret)∧∃v gg,C5t s.t s.h rs=some v∧J v gg (l1 gg,g1 gg)∧sbG s.h (g1 gg)
def D8w {γ:Type}(t:AV→Nat→AV)(v:AV)(_:γ)(x:List (Nat×AV)×List (Key×Option Blk)):Prop:=sbT (t v) x.1
theorem C09 {dst:Option Nat}{f:Opd}{args:List Opd}{fid:FuncId}{avs:List AV}{rs:List RV}{ac:AC}{N:Nat}{γ:Type}(F:FnOK P fid N rs ac)(l1:γ→List (Nat×AV))(g1:γ→List (Key×Option Blk))
    (hc:V4 (T l) f args=some (fid,avs)) (hl:avs.length≤N)
    (hb:AWL P N none [.c ac] (D8v rs (D8w fun v=>B90 (T l) dst v) l1 g1) .nrm ⟨T (B8e avs 0),G g⟩)
    (hk: ∀gg u',(∀q,G (g1 gg) q≠none→q.2≠u')→X8 P u' r (T (l1 gg)) (G (g1 gg)) K):X8 P u (⟨dst, .icall f args,none⟩::r) (T l) (G g) K:=by
  unfold X8
  simp only [gW]
  unfold B9m
  have hI:ICall P fid avs (G g) fun v h'=> ∀u',(∀q,h' q≠none→q.2≠u')→∃s0,Sb s0 ⟨B90 (T l) dst v,h'⟩∧X8 P u' r s0.t s0.h K:=by
    refine C2m F hl ?_
    rw [C5y]
    refine AW.mono hb ?_
    rintro e s ⟨he,v,gg,hv,hj,hs⟩
    refine ⟨he,v,hv,fun u' hu'=> ?_⟩
    have S:Sb ⟨T (l1 gg),G (g1 gg)⟩ ⟨B90 (T l) dst v,s.h⟩:=G8 hj hs
    exact ⟨_,S,hk gg u' (S.fresh hu')⟩
  split
  ·rename_i q hq
   exfalso
   simp [V4,hq]at hc
  ·rw [hc];exact hI
/-- At its end: the result, and what is known of the heap. -/
theorem C5z {γ:Type}{rs:List RV}{l1:γ→List (Nat×AV)}{g1:γ→List (Key×Option Blk)}{dst:Option Nat}{e:Ex}{l0:List (Nat×AV)}{g0:List (Key×Option Blk)}{v:AV}(he:e= .nrm∨e= .ret)(hv:C5t (T l0) (G g0) rs=some v)(gg:γ)(ht:sbT (B90 (T l) dst v) (l1 gg))(hg:sbG (G g0) (g1 gg)):
    D8v rs (D8w fun v=>B90 (T l) dst v) l1 g1 e ⟨T l0,G g0⟩:=⟨he,v,gg,hv,ht,hg⟩
theorem D12 {l0:List (Nat×AV)}{g0:List (Key×Option Blk)}{s:St}(S:Sb ⟨T l0,G g0⟩ s): ∀{g1:List (Key×Option Blk)},sbG (G g0) g1→sbG s.h g1
  | [],_=>trivial
  |(k,none)::_,h=>⟨trivial,D12 S h.2⟩
  |(k,some b0)::_,h=>by
   obtain ⟨b1,e1,e2⟩:=h.1
   obtain ⟨b,e3,e4⟩:=S.h k b1 e1
   exact ⟨⟨b,e3,e4.trans e2⟩,D12 S h.2⟩
/-- The same behind a join. -/
theorem B6p {γ:Type}{l1:γ→List (Nat×AV)}{g1:γ→List (Key×Option Blk)}{dst:Option Nat}{e:Ex}{s:St}{l0:List (Nat×AV)}{g0:List (Key×Option Blk)}(S:Sb ⟨T l0,G g0⟩ s)(he:e= .nrm∨e= .ret)(gg:γ)(ht:sbT (B90 (T l) dst (.tup [])) (l1 gg))(hg:sbG (G g0) (g1 gg)):
    D8v [] (D8w fun v=>B90 (T l) dst v) l1 g1 e s:=⟨he, .tup [],gg,rfl,ht,D12 S hg⟩
end
end Go.Abs
/-! Ranges over a function that looks at what is the run's own. -/
namespace Go.Abs
open Go
section
variable {P:Program}{N:Nat}{rk:Option Key}{s:St}{Q:Ex→St→Prop}{r:List It}
/-- Such a function: as long as the blocks hold what it looks at, it hands on the elements, one after the other. -/
def D87 (P:Program)(c:AV)(Rq:J2→Prop)(L:List (List D)):Prop:= ∃gf fs cs,D6y c=some (gf,fs,cs)∧∀(k:Key) (h0:J2) (Inv:Nat→J2→Prop) (Stop:J2→Prop),Inv 0 h0→(∀i h,Inv i h→∃h1,Sb ⟨T [],h1⟩ ⟨T [],h⟩∧Inv i h1∧Rq h1)→
  (∀i h es,L[i]? =some es→Inv i h→YCall P k (es.map .d) h fun v h'=>(v= .d (.v (.bool true))∧Inv (i+1) h')∨(v= .d (.v (.bool false))∧Stop h'))→
   ICall P gf (fs++ [.yld k]++cs) h0 fun _ h'=>Inv L.length h'∨Stop h'
theorem C7n {σ τ α γ:Type}{f:Opd}{ps:List Nat}{as bd:AC}{tl:List (Nat×AV)}{g0:List (Key×Option Blk)}(c:AV)(Rq:J2→Prop)(enc:α→List D)(L:List α)(F:σ→α→Option (Stp σ τ))(E:σ→τ)(st:σ→γ→List (Key×Option Blk))(x0:σ)(gg0:γ)(y:τ)
    (hf:ev (T tl) f=c) (hI:D87 P c Rq (L.map enc)) (hRq: ∀x gg u b,Rq (G (((1000000,u),b)::st x gg))) (hps: ∀a,(enc a).length=ps.length) (hx:loopL F E L x0=some y) (hs0:Sb ⟨T [],G (st x0 gg0)⟩ ⟨T [],G g0⟩) (hrk: ∀kk,rk=some kk→∃t r,G g0 kk=some (.obj t r))
    (hround: ∀u,(∀q,G g0 q≠none→q.2≠u)→rk≠some (1000000,u)→(∀x gg,G (st x gg) (1000000,u)=none)∧
      ∀r0 x gg a z,r0.state= .ready→F x a=some z→(∀t,z= .out t→t=y)→
       AWL P N (some (1000000,u)) [.c as, .j (fun s1=>s1.h (1000000,u)=some (.obj (T tl) r0)∧
         AWL P N (some (1000000,u)) [.c bd] (D7s P N rk r Q (T tl) (1000000,u) r0 st z) .nrm ⟨s1.t,upd s1.h (1000000,u) (some (.obj (T tl) {r0 with state:= .busy}))⟩)] (fun _ _=>False) .nrm
         ⟨B54 (T tl) ps ((enc a).map .d),G ((((1000000,u),some (.obj (T tl) r0)):Key×Option Blk)::st x gg)⟩)
    (hend: ∀x gg s',y=E x→Sb ⟨T tl,G (st x gg)⟩ s'→AWL P N rk r Q .nrm s'):AWL P N rk (.c (.rangeF f ps as bd)::r) Q .nrm ⟨T tl,G g0⟩:=by
  obtain ⟨gf,fs,cs,hcl,hI⟩:=hI
  refine C4j (gf:=gf) (fs:=fs) (cs:=cs) (by show D6y (ev (T tl) f)=_;rw [hf];exact hcl) hrk ?_
  intro u r0 M hu hkn hrkne hst hpd hpar hsize hpsN has hbd
  obtain ⟨hkst,hr⟩:=hround u hu hrkne
  have hkn:G g0 (1000000,u)=none:=hkn
  refine ICall.mono ?_ (hI (1000000,u) (upd (G g0) (1000000,u) (some (.obj (T tl) r0)))
    (fun i h=> ∃x gg,loopL F E (L.drop i) x=some y∧h (1000000,u)=some (.obj (T tl) r0)∧Sb ⟨T [],G (st x gg)⟩ ⟨T [],h⟩)
    (D5u (1000000,u) (T tl) (AWL P N rk r Q)) ?_ (fun i h ⟨x,gg,h1,h2,h3⟩=>⟨G (((1000000,u),some (.obj (T tl) r0))::st x gg),⟨fun i=> .refl _,fun q b0 hb=>by
      by_cases e:q=(1000000,u)
      ·subst e
       have hb:=G_hit.symm.trans hb
       cases hb
       exact ⟨_,h2, .refl _⟩
      ·have hb:G (((1000000,u),some (.obj (T tl) r0))::st x gg) q=some b0:=hb
       rw [G,if_neg e]at hb
       exact h3.h q b0 hb⟩,⟨x,gg,h1,G_hit,fun i=> .refl _,fun q b0 hb=>by
      refine ⟨b0,?_, .refl _⟩
      have:q≠(1000000,u):=by rintro rfl;exact absurd ((hkst _ _).symm.trans hb) (by simp)
      show G (((1000000,u),some (.obj (T tl) r0))::st x gg) q=some b0
      rw [G,if_neg this];exact hb⟩,hRq x gg u _⟩) ?_)
  ·rintro v h' (⟨x,gg,h1,h2,h3⟩|h)
   ·rw [show (L.map enc).length=L.length from List.length_map ..,List.drop_length,loopL]at h1
    refine ⟨T tl,r0,h2,by rw [hst];simp,?_⟩
    rw [hpd]
    refine hend x gg _ (Option.some.inj h1).symm ⟨fun i=> .refl _,fun q b0 hb=> ?_⟩
    obtain ⟨b,e1,e2⟩:=h3.h q b0 hb
    refine ⟨b,?_,e2⟩
    have:q≠(1000000,u):=by rintro rfl;exact absurd ((hkst _ _).symm.trans hb) (by simp)
    show upd h' _ none q=some b
    rw [M8 _ _ _ _ this];exact e1
   ·exact h
  ·refine ⟨x0,gg0,by rw [List.drop_zero];exact hx,E3 _ _ _,fun i=> .refl _,fun q b0 hb=> ?_⟩
   obtain ⟨b,e1,e2⟩:=hs0.h q b0 hb
   refine ⟨b,?_,e2⟩
   have:q≠(1000000,u):=by rintro rfl;exact absurd ((hkst _ _).symm.trans hb) (by simp)
   show upd (G g0) _ _ q=some b
   rw [M8 _ _ _ _ this];exact e1
  ·rintro i h es hes ⟨x,gg,h1,h2,h3⟩
   obtain ⟨a,ha,rfl⟩:=B9r hes
   obtain ⟨z,hz,hz2⟩:=C1x ha h1
   have hround:=hr r0 x gg a z hst hz (fun t ht=>by subst ht;exact hz2)
   have hsb:Sb ⟨B54 (T tl) ps ((enc a).map .d),G ((((1000000,u),some (.obj (T tl) r0)):Key×Option Blk)::st x gg)⟩ ⟨B54 (T tl) ps ((enc a).map .d),h⟩:=by
     refine ⟨fun i=> .refl _,fun q b0 hb=> ?_⟩
     by_cases e:q=(1000000,u)
     ·subst e
      have hb:=G_hit.symm.trans hb
      cases hb
      exact ⟨_,h2, .refl _⟩
     ·have hb:G (((1000000,u),some (.obj (T tl) r0))::st x gg) q=some b0:=hb
      rw [G,if_neg e]at hb
      exact h3.h q b0 hb
   refine C75 (M:=M) (as:=as) (bd:=bd) h2 (by rw [List.length_map,hps a,← hpar];simp) hsize (by rw [hpar];exact hpsN) has hbd ?_
   rw [hpar]
   have hround:=D38 hsb hround
   refine AW.mono hround ?_
   intro e s1 hs1
   cases e with
   |ext id=>exact absurd hs1 (by simp [AWL])
   |ret=>exact absurd hs1 (by simp [AWL])
   |nrm=>
    obtain ⟨q1,q2⟩:=hs1
    refine ⟨rfl,T tl,r0,q1,hst,?_⟩
    refine AW.mono q2 ?_
    rintro e s2 ⟨w1,w2⟩
    refine ⟨T tl,_,w1,?_⟩
    cases z with
    |go x'=>
     obtain ⟨rfl,g',hg'⟩:=w2
     refine .inl ⟨rfl,x',g',hz2,?_,fun i=> .refl _,fun q b0 hb=> ?_⟩
     ·show upd s2.h _ _ _=_
      rw [E3]
      have:({state:= .ready,pending:=none,fn:=r0.fn,tmps:=r0.tmps,params:=r0.params,assign:=r0.assign,body:=r0.body,defers:=r0.defers}:Loop)=r0:=by
        cases r0
        simp only at hst hpd
        subst hst hpd
        rfl
      exact congrArg (fun r=>some (Blk.obj (T tl) r)) this
     ·obtain ⟨b,e1,e2⟩:=hg'.h q b0 hb
      refine ⟨b,?_,e2⟩
      have:q≠(1000000,u):=by rintro rfl;exact absurd ((hkst _ _).symm.trans hb) (by simp)
      show upd s2.h _ _ q=some b
      rw [M8 _ _ _ _ this];exact e1
    |out t=>
     obtain ⟨hne,hq⟩:=w2
     cases e with
     |nrm=>exact absurd rfl hne
     |ext id=>
      refine .inr ⟨rfl,T tl,_,E3 _ _ _,by simp,?_⟩
      dsimp only
      rw [C2n];exact hq
     |ret=>
      refine .inr ⟨rfl,T tl,_,E3 _ _ _,by simp,?_⟩
      dsimp only
      rw [C2n];exact hq
end
section
variable {P:Program}{u:Nat}{r:List AOp}{t:Nat→AV}{h:J2}{K:(Nat→AV)→J2→Prop}
theorem B8m {dst:Option Nat}{k:AK}{g:Nat}{b:Bool}(hg:t g= .d (.v (.bool b)))(hk:X8 P u (⟨dst,k,none⟩::r) t h K):X8 P u (⟨dst,k,some (g,b)⟩::r) t h K:=by
  cases k<;>(unfold X8 at hk ⊢;simpa only [gW,hg,if_true] using hk)
theorem D13 {dst:Option Nat}{k:AK}{g:Nat}{b c:Bool}(hg:t g= .d (.v (.bool c)))(hne:(c==b)=false)(hk:X8 P u r (B90 t dst (.d (.tup []))) h K):X8 P u (⟨dst,k,some (g,b)⟩::r) t h K:=by
  have hne: ¬c=b:=by simpa using hne
  cases k<;>(unfold X8;simp only [gW,hg,if_neg hne];exact hk)
theorem D14 {d:Nat}{f:Opd}{args:List Opd}(k:Key)(avs:List AV)(hf:ev t f= .yld k)(hav:args.map (ev t)=avs)(hc:YCall P k avs h fun v h'=> ∃h0,Sb ⟨T [],h0⟩ ⟨T [],h'⟩∧∀u',(∀q,h0 q≠none→q.2≠u')→X8 P u' r (upd t d v) h0 K):X8 P u (⟨some d, .icall f args,none⟩::r) t h K:=by
  unfold X8
  simp only [gW]
  unfold B9m
  rw [hf,hav]
  exact hc.mono fun v h' ⟨h0,S,q⟩ u' hu'=>⟨⟨upd t d v,h0⟩,⟨fun i=> .refl _,S.h⟩,q u' (S.fresh hu')⟩
end
section
variable {P:Program}{N:Nat}{rk:Option Key}{s:St}{Q:Ex→St→Prop}{r:List It}
theorem B56 {aops:List AOp}(h: ∀u,(∀k,s.h k≠none→k.2≠u)→X8 P u aops s.t s.h fun t' h'=>AWL P N rk r Q .nrm ⟨t',h'⟩):AWL P N rk (.c (.reg aops)::r) Q .nrm s:=B3x h
theorem D15 {α:Type}{a:AC}(st:α→St)(μ:α→Nat)(Inv:α→Prop)(x0:α)(h0:Inv x0)(hs0:Sub (st x0) s)
    (h: ∀x,Inv x→AWL P N rk [.c a] (fun e s'=>match e with| .nrm=> ∃y,Inv y∧μ y<μ x∧Sub (st y) s'|e=>AWL P N rk r Q e s') .nrm (st x)):AWL P N rk (.c (.loop a)::r) Q .nrm s:=C74 st μ Inv x0 h0 hs0 h
end
end Go.Abs
