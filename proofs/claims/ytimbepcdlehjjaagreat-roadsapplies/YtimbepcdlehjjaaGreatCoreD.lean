/-
  An abstract layer over the machine, fourth part: contracts that alter what is handed in; functions that can be computed.
-/
import Derived.Test.YtimbepcdlehjjaaGreatCoreC
namespace Go.Abs
open Go
/-! ### Contracts of functions that alter what is handed to them, or hand out what is their own -/
/-- The key of the i-th block that is handed in; of the j-th that is handed out. -/
def U3 (i:Nat):D5:=(900000+i,0)
def LC (j:Nat):D5:=(800000+j,0)
def R5 (ko kn:Nat→D5)(q:D5):D5:=cond (Nat.ble 900000 q.1) (ko (q.1 - 900000)) (kn (q.1 - 800000))
def DY (n m:Nat)(q:D5):Bool:=q.2==0&& (Nat.ble 900000 q.1&&Nat.blt (q.1 - 900000) n||Nat.ble 800000 q.1&& !Nat.ble 900000 q.1&&Nat.blt (q.1 - 800000) m)
theorem GY {n m:Nat}{q:D5}(h:DY n m q=true):(∃i,i<n∧q=U3 i)∨∃j,j<m∧j<100000∧q=LC j:=by
  obtain ⟨a,b⟩:=q
  simp only [DY,bB,bC,bG,Nat.ble_eq,Nat.blt_eq,Bool.not_eq_true',bF,ne_eq]at h
  obtain ⟨rfl,h|h⟩:=h
  ·exact .inl ⟨a - 900000,h.2,by simp only [U3,Prod.mk.injEq,and_true];omega⟩
  ·exact .inr ⟨a - 800000,h.2,by omega,by simp only [LC,Prod.mk.injEq,and_true];omega⟩
theorem CS (ko kn:Nat→D5)(i:Nat):R5 ko kn (U3 i)=ko i:=by
  simp only [R5,U3]
  rw [show Nat.ble 900000 (900000+i)=true by simp,l6,Nat.add_sub_cancel_left]
theorem LD (ko kn:Nat→D5){j:Nat}(h:j<100000):R5 ko kn (LC j)=kn j:=by
  simp only [R5,LC]
  rw [show Nat.ble 900000 (800000+j)=false by rw [bF,ne_eq,Nat.ble_eq];omega,l7,Nat.add_sub_cancel_left]
theorem CT {i j:Nat}(h:U3 i=U3 j):i=j:=by simp only [U3,Prod.mk.injEq]at h;omega
def Ye (f:D5→D5):AV→AV
  | .ptr k o=> .ptr (f k) o
  | .sl k=> .sl (f k)
  |x=>x
def Yf (f:D5→D5):AV→AV
  | .agg cs=> .agg (cs.map (Ye f))
  | .fn g fs cs=> .fn g (fs.map (Ye f)) (cs.map (Ye f))
  |x=>Ye f x
def BB (f:D5→D5):AV→AV
  | .tup cs=> .tup (cs.map (Yf f))
  |x=>Yf f x
def OP (p:D5→Bool):AV→Bool
  | .ptr k _=>p k
  | .sl k=>p k
  | .d _=>true
  | .any=>true
  |_=>false
def QS (p:D5→Bool):AV→Bool
  | .agg cs=>cs.all (OP p)
  | .fn _ fs cs=>fs.all (OP p)&&cs.all (OP p)
  |x=>OP p x
def TF (p:D5→Bool):AV→Bool
  | .tup cs=>cs.all (QS p)
  |x=>QS p x
def Ez (f:D5→D5):Blk→Blk
  | .box ty cs=> .box ty (cs.map (Ye f))
  |b=>b
def RL (p:D5→Bool):Blk→Bool
  | .box _ cs=>cs.all (OP p)
  | .arr _ _ _=>true
  | .obj _ _=>false
  | .mp _=>true
section
variable {w:World}{I:Nat→Prop}{ρ ρ':Rho}{p:D5→Bool}{f g:D5→D5}
theorem Rk {α β:Type}{q:α→Bool}{l:List α}{h:α→β}{i:Nat}{c:β}(ha:l.all q=true)(hc:(l.map h)[i]? =some c): ∃x,q x=true∧l[i]? =some x∧h x=c:=by
  obtain ⟨x,hx,e⟩:=Vc hc
  exact ⟨x,lT.1 ha x (lF hx),hx,e⟩
theorem Jm {α β:Type}{h:α→β}{l:List α}{i:Nat}{x:α}(hx:l[i]? =some x):(l.map h)[i]? =some (h x):=by rw [lI,hx];rfl
theorem MY {x:AV}{v:Value}(hp:OP p x=true)(h:RepV w I ρ (Ye f x) v)(hk: ∀q y,p q=true→ρ (f q)=some y→ρ' (g q)=some y):RepV w I ρ' (Ye g x) v:=by
  cases x with
  |ptr k o=>cases h with|ptr _ _ b h=>exact .ptr _ _ _ (hk k _ hp h)
  |sl k=>cases h with|sl _ _ h=>exact .sl _ _ (hk k _ hp h)
  |d y=>cases h with|d _ _ h=>exact .d _ _ h
  |any=>exact .any _
  |_=>simp [OP]at hp
theorem MZ {x:AV}{v:Value}(hp:QS p x=true)(h:RepV w I ρ (Yf f x) v)(hk: ∀q y,p q=true→ρ (f q)=some y→ρ' (g q)=some y):RepV w I ρ' (Yf g x) v:=by
  cases x with
  |agg cs=>
   cases h with
   |agg _ vs hl hone hr=>
    refine .agg _ vs (by simpa using hl) (fun i hi=>hone i (by simpa using hi)) (fun i c hc=> ?_)
    obtain ⟨x,h1,h2,rfl⟩:=Rk hp hc
    exact MY h1 (hr i _ (Jm h2)) hk
  |fn q fs cs=>
   simp only [QS,bB]at hp
   cases h with
   |fn _ _ _ vfs vcs hl hl' hr hr'=>
    refine .fn _ _ _ vfs vcs (by simpa using hl) (by simpa using hl') (fun i c hc=> ?_) (fun i c hc=> ?_)
    ·obtain ⟨x,h1,h2,rfl⟩:=Rk hp.1 hc
     exact MY h1 (hr i _ (Jm h2)) hk
    ·obtain ⟨x,h1,h2,rfl⟩:=Rk hp.2 hc
     exact MY h1 (hr' i _ (Jm h2)) hk
  |any=>exact MY (p:=p) (f:=f) (x:= .any) hp h hk
  |d y=>exact MY (p:=p) (f:=f) (x:= .d y) hp h hk
  |ptr k o=>exact MY (p:=p) (f:=f) (x:= .ptr k o) hp h hk
  |sl k=>exact MY (p:=p) (f:=f) (x:= .sl k) hp h hk
  |aptr k a b c=>exact MY (p:=p) (f:=f) (x:= .aptr k a b c) hp h hk
  |yld k=>exact MY (p:=p) (f:=f) (x:= .yld k) hp h hk
  |tup cs=>simp [QS,OP]at hp
theorem UI {x:AV}{v:Value}(hp:TF p x=true)(h:RepV w I ρ (BB f x) v)(hk: ∀q y,p q=true→ρ (f q)=some y→ρ' (g q)=some y):RepV w I ρ' (BB g x) v:=by
  cases x with
  |tup cs=>
   cases h with
   |tup _ vs hl hr=>
    refine .tup _ vs (by simpa using hl) (fun i c hc=> ?_)
    obtain ⟨x,h1,h2,rfl⟩:=Rk hp hc
    exact MZ h1 (hr i _ (Jm h2)) hk
  |any=>exact MZ (p:=p) (f:=f) (x:= .any) hp h hk
  |d y=>exact MZ (p:=p) (f:=f) (x:= .d y) hp h hk
  |ptr k o=>exact MZ (p:=p) (f:=f) (x:= .ptr k o) hp h hk
  |sl k=>exact MZ (p:=p) (f:=f) (x:= .sl k) hp h hk
  |aptr k a b c=>exact MZ (p:=p) (f:=f) (x:= .aptr k a b c) hp h hk
  |yld k=>exact MZ (p:=p) (f:=f) (x:= .yld k) hp h hk
  |agg cs=>exact MZ (p:=p) (f:=f) (x:= .agg cs) hp h hk
  |fn a b c=>exact MZ (p:=p) (f:=f) (x:= .fn a b c) hp h hk
theorem TX {b:Blk}{k k':D5}(hp:RL p b=true)(h:BlkOK w I ρ k (Ez f b))(hkk: ∀y,ρ k=some y→ρ' k'=some y)(hk: ∀q y,p q=true→ρ (f q)=some y→ρ' (g q)=some y):BlkOK w I ρ' k' (Ez g b):=by
  cases b with
  |box ty cs=>
   obtain ⟨b,vs,h1,h2,h3,h4,h5⟩:=h
   refine ⟨b,vs,hkk _ h1,h2,by simpa using h3,h4,fun i c hc=> ?_⟩
   obtain ⟨x,g1,g2,rfl⟩:=Rk hp hc
   exact MY g1 (h5 i _ (Jm g2)) hk
  |arr ty sz es=>obtain ⟨x,xs,h1,h2⟩:=h;exact ⟨x,xs,hkk _ h1,h2⟩
  |mp ks=>obtain ⟨g,es,clock,h1,h2⟩:=h;exact ⟨g,es,clock,hkk _ h1,h2⟩
  |obj=>simp [RL]at hp
theorem OQ (x:AV):Ye id x=x:=by cases x<;>rfl
theorem CU:Ye id=id:=funext OQ
theorem OR (x:AV):Yf id x=x:=by
  cases x<;>simp only [Yf,CU,List.map_id]
  all_goals rfl
theorem OS (b:Blk):Ez id b=b:=by cases b<;>simp only [Ez,CU,List.map_id]
theorem X1 {k:D5}(b:Blk):J1 ρ k (Ez f b)=J1 ρ k b:=by cases b<;>rfl
theorem Fs {k k':D5}(b:Blk)(h:ρ' k'=ρ k):J1 ρ' k' b=J1 ρ k b:=by cases b<;>simp [J1,h]
end
def Pc:Nat→List Blk→List (D5×Option Blk)
  |_,[]=> []
  |i,b::r=>(U3 i,some b)::Pc (i+1) r
theorem CV: ∀{l:List Blk} {i:Nat} {q:D5} {b:Blk},G (Pc i l) q=some b→∃j,q=U3 (i+j)∧l[j]? =some b
  | [],i,q,b,h=>by cases h
  |x::r,i,q,b,h=>by
   rw [Pc,G]at h
   by_cases e:q=U3 i
   ·rw [l8 e]at h;cases h;exact ⟨0,e,rfl⟩
   ·rw [l9 e]at h
    obtain ⟨j,h1,h2⟩:=CV h
    exact ⟨j+1,by rw [h1];congr 1;omega,by simpa using h2⟩
def PT (avs:List AV)(pre:List Blk)(v:AV)(post:List (Option Blk))(new:List (Option Blk)):Bool:=
  post.length==pre.length&&Nat.ble new.length 6&&avs.all (QS (DY pre.length 0))&&pre.all (RL (DY pre.length 0))&&TF (DY pre.length new.length) v&&post.all (fun b=>match b with|some b=>RL (DY pre.length new.length) b|none=>true)&&new.all (fun b=>match b with|some b=>RL (DY pre.length new.length) b|none=>true)
def Rl (n:Nat)(v:AV)(post:List (Option Blk))(new:List (Option Blk))(v':AV)(h':C8):Prop:=
  ∃σ:Nat→D5,v'=BB (R5 U3 σ) v∧(∀i b,post[i]? =some (some b)→h' (U3 i)=some (Ez (R5 U3 σ) b))∧(∀j b,new[j]? =some (some b)→h' (σ j)=some (Ez (R5 U3 σ) b))∧
   (∀j,j<new.length→∀i,i<n→σ j≠U3 i)∧∀j j',j<new.length→j'<new.length→σ j=σ j'→j=j'
/-- Called with these values, where the blocks that are handed in hold this, the function returns the value, and the blocks hold that; the new ones are the caller's. -/
structure MCall (P:Program)(f:FuncId)(avs:List AV)(pre:List Blk)(v:AV)(post:List (Option Blk))(new:List (Option Blk)):Prop where
  ok:PT avs pre v post new=true
  call:ICall P f avs (G (Pc 0 pre)) (Rl pre.length v post new)
def Ke (κ:Nat→D5)(f:D5→D5):Nat→List (Option Blk)→List (D5×Option Blk)
  |_,[]=> []
  |i,b::r=>(κ i,b.map (Ez f))::Ke κ f (i+1) r
def Nt (u S:Nat)(f:D5→D5):Nat→List (Option Blk)→List (D5×Option Blk)
  |_,[]=> []
  |j,b::r=>((S+j,u),b.map (Ez f))::Nt u S f (j+1) r
theorem Wn {κ:Nat→D5}{f:D5→D5}: ∀{l:List (Option Blk)} {i:Nat} {x:D5×Option Blk},x∈Ke κ f i l→∃j b,l[j]? =some b∧x=(κ (i+j),b.map (Ez f))
  | [],i,x,h=>by simp [Ke]at h
  |b::r,i,x,h=>by
   rw [Ke,lP]at h
   rcases h with rfl|h
   ·exact ⟨0,b,rfl,rfl⟩
   ·obtain ⟨j,b',h1,rfl⟩:=Wn h
    exact ⟨j+1,b',by simpa using h1,by rw [show i+ (j+1)=i+1+j by omega]⟩
theorem Wo {u S:Nat}{f:D5→D5}: ∀{l:List (Option Blk)} {i:Nat} {x:D5×Option Blk},x∈Nt u S f i l→∃j b,l[j]? =some b∧x=((S+ (i+j),u),b.map (Ez f))
  | [],i,x,h=>by simp [Nt]at h
  |b::r,i,x,h=>by
   rw [Nt,lP]at h
   rcases h with rfl|h
   ·exact ⟨0,b,rfl,rfl⟩
   ·obtain ⟨j,b',h1,rfl⟩:=Wo h
    exact ⟨j+1,b',by simpa using h1,by rw [show i+ (j+1)=i+1+j by omega]⟩
theorem Sx: ∀(ups:List (D5×Option Blk)) (h:C8) (q:D5) (b:Option Blk),L0 h ups q=b→(q∉ups.map (·.1)∧h q=b)∨(q,b)∈ups
  | [],h,q,b,hb=> .inl ⟨by simp,hb⟩
  |(k,c)::r,h,q,b,hb=>by
   rw [L0]at hb
   rcases Sx r _ q b hb with ⟨h1,h2⟩|h1
   ·by_cases e:q=k
    ·subst e
     rw [E3]at h2
     exact .inr (by rw [h2];simp)
    ·rw [G9 _ _ _ _ e]at h2
     exact .inl ⟨by simp at h1 ⊢;exact ⟨e,h1⟩,h2⟩
   ·exact .inr (by simp [h1])
theorem MCall.frame {P:Program}{f:FuncId}{avs:List AV}{pre:List Blk}{v:AV}{post:List (Option Blk)}{new:List (Option Blk)}{u S:Nat}(hM:MCall P f avs pre v post new)(κ:Nat→D5)
    (hinj: ∀i i',i<pre.length→i'<pre.length→κ i=κ i'→i=i') (preH:C8) (hpre: ∀i b,pre[i]? =some b→preH (κ i)=some (Ez (R5 κ κ) b)):
    FCall P u S f (avs.map (Yf (R5 κ κ))) preH (BB (R5 κ fun j=>(S+j,u)) v) (Ke κ (R5 κ fun j=>(S+j,u)) 0 post++Nt u S (R5 κ fun j=>(S+j,u)) 0 new):=by
  have hok:=hM.ok
  simp only [PT,bB,bG,Nat.ble_eq]at hok
  obtain ⟨⟨⟨⟨⟨⟨hlenP,hlenN⟩,okA⟩,okP⟩,IP⟩,okPo⟩,JR⟩:=hok
  refine ⟨hM.call.1,fun w I ρ h vs H hp hlen hrep hfr=> ?_⟩
  have hh: ∀i b,pre[i]? =some b→h (κ i)=some (Ez (R5 κ κ) b):=fun i b hb=>hp _ _ (hpre i b hb)
  have hρ: ∀i,i<pre.length→∃y,ρ (κ i)=some y:=fun i hi=>(H.blk _ _ (hh i _ (lG hi))).rho
  let ρ0:Rho:=fun q=>if DY pre.length 0 q=true then ρ (R5 κ κ q)else none
  have hρ0: ∀i,i<pre.length→ρ0 (U3 i)=ρ (κ i):=by
    intro i hi
    show (if DY pre.length 0 (U3 i)=true then _ else _)=_
    rw [l8 (by simp [DY,U3,hi]),CS]
  have hk0: ∀q y,DY pre.length 0 q=true→ρ (R5 κ κ q)=some y→ρ0 (id q)=some y:=by
    intro q y hq hy
    show (if DY pre.length 0 q=true then _ else _)=_
    rw [l8 hq];exact hy
  have hdom: ∀q b,G (Pc 0 pre) q=some b→∃i,i<pre.length∧q=U3 i∧pre[i]? =some b∧h (κ i)=some (Ez (R5 κ κ) b)∧J1 ρ0 q b=J1 ρ (κ i) (Ez (R5 κ κ) b):=by
    intro q b hq
    obtain ⟨i,rfl,h2⟩:=CV hq
    rw [bN]
    have hi:i<pre.length:=(lH.1 h2).1
    exact ⟨i,hi,rfl,h2,hh i b h2,by rw [X1];exact Fs b (hρ0 i hi)⟩
  have H0:HeapOK w I ρ0 (G (Pc 0 pre)):=by
    refine ⟨fun q b hq=> ?_,fun q q' b b' g h1 h2 h3 h4=> ?_,fun q b g h1 h2=> ?_,fun q b g h1 h2=> ?_,H.ilt,⟨1,fun d x hx=> ?_⟩,fun q y hy=> ?_⟩
    ·obtain ⟨i,hi,rfl,h2,h3,_⟩:=hdom q b hq
     have:=TX (f:=R5 κ κ) (g:=id) (ρ':=ρ0) (k':=U3 i) (lT.1 okP b (lF h2)) (H.blk _ _ h3) (fun y hy=>by rw [hρ0 i hi];exact hy) hk0
     rwa [OS]at this
    ·obtain ⟨i,hi,rfl,_,a3,a4⟩:=hdom q b h1
     obtain ⟨j,hj,rfl,_,b3,b4⟩:=hdom q' b' h2
     rw [a4]at h3;rw [b4]at h4
     rw [hinj i j hi hj (H.sep _ _ _ _ g a3 b3 h3 h4)]
    ·obtain ⟨i,hi,rfl,_,a3,a4⟩:=hdom q b h1
     rw [a4]at h2;exact H.notI _ _ g a3 h2
    ·obtain ⟨i,hi,rfl,_,a3,a4⟩:=hdom q b h1
     rw [a4]at h2;exact H.lt _ _ g a3 h2
    ·show (if DY pre.length 0 (d,x)=true then _ else _)=none
     rw [l9]
     intro e
     rcases GY e with ⟨i,_,e⟩|⟨j,hj,_⟩
     ·simp only [U3,Prod.mk.injEq]at e;omega
     ·omega
    ·have hy':(if DY pre.length 0 q=true then ρ (R5 κ κ q)else none)=some y:=hy
     split at hy'
     ·exact H.rone _ y hy'
     ·cases hy'
  have hown0: ∀g,own ρ0 (G (Pc 0 pre)) g→own ρ h g:=by
    rintro g ⟨q,b,h1,h2⟩
    obtain ⟨i,hi,rfl,_,a3,a4⟩:=hdom q b h1
    exact ⟨κ i,_,a3,by rw [← a4];exact h2⟩
  have hown1: ∀k b g,h k=some b→(∀i,i<pre.length→k≠κ i)→J1 ρ k b=some g→¬own ρ0 (G (Pc 0 pre)) g:=by
    rintro k b g hk hne hl ⟨q,b',h1,h2⟩
    obtain ⟨i,hi,rfl,_,a3,a4⟩:=hdom q b' h1
    rw [a4]at h2
    exact hne i hi (H.sep _ _ _ _ g hk a3 hl h2)
  have hκS: ∀i j,i<pre.length→j<6→κ i≠(S+j,u):=by
    intro i j hi hj e
    obtain ⟨y,hy⟩:=hρ i hi
    rw [e,hfr j hj]at hy;cases hy
  refine (hM.call.2 w I ρ0 vs H0 (by simpa using hlen) (fun i c hc=> ?_)).mono ?_
  ·have hc':=hrep i _ (Jm hc)
   have:=MZ (g:=id) (ρ':=ρ0) (lT.1 okA c (lF hc)) hc' hk0
   rwa [OR]at this
  rintro e w' ⟨x,v',I',ρ0',h',rfl,hv',H',T',σ,rfl,hpost,hnew,hσo,hσi⟩
  let ρ1:Rho:=fun q=>if q.2=u∧S≤q.1∧q.1<S+new.length then ρ0' (σ (q.1 - S))else ρ q
  have hle0: ∀i,i<pre.length→ρ0' (U3 i)=ρ (κ i):=by
    intro i hi
    obtain ⟨y,hy⟩:=hρ i hi
    rw [hy];exact T'.rho _ _ (by rw [hρ0 i hi];exact hy)
  have hρ1n: ∀j,j<new.length→ρ1 (S+j,u)=ρ0' (σ j):=by
    intro j hj
    show (if u=u∧S≤S+j∧S+j<S+new.length then _ else _)=_
    rw [l8 ⟨rfl,by omega,by omega⟩]
    simp
  have hρ1o: ∀q,(∀j,j<new.length→q≠(S+j,u))→ρ1 q=ρ q:=by
    rintro ⟨a,b⟩ hq
    show (if b=u∧S≤a∧a<S+new.length then _ else _)=_
    rw [l9]
    rintro ⟨rfl,h1,h2⟩
    exact hq (a - S) (by omega) (by simp only [Prod.mk.injEq,and_true];omega)
  have hρ1κ: ∀i,i<pre.length→ρ1 (κ i)=ρ (κ i):=fun i hi=>hρ1o _ fun j hj=>hκS i j hi (by omega)
  have hle1:ρ.le ρ1:=by
    intro k y hy
    rw [hρ1o]
    ·exact hy
    ·rintro j hj rfl
     rw [hfr j (by omega)]at hy;cases hy
  -- the keys of what is handed out
  have hk1: ∀q y,DY pre.length new.length q=true→ρ0' (R5 U3 σ q)=some y→ρ1 (R5 κ (fun j=>(S+j,u)) q)=some y:=by
    intro q y hq hy
    rcases GY hq with ⟨i,hi,rfl⟩|⟨j,hj,hj',rfl⟩
    ·rw [CS]at hy ⊢;rw [hρ1κ i hi,← hle0 i hi];exact hy
    ·rw [LD _ _ hj']at hy ⊢;rw [hρ1n j hj];exact hy
  -- what is touched, as the callee has it
  have htouch: ∀k b,(k,some b)∈Ke κ (R5 κ fun j=>(S+j,u)) 0 post++Nt u S (R5 κ fun j=>(S+j,u)) 0 new→
   ∃q b0,RL (DY pre.length new.length) b0=true∧h' q=some (Ez (R5 U3 σ) b0)∧b=Ez (R5 κ fun j=>(S+j,u)) b0∧ρ1 k=ρ0' q∧((∃i,i<pre.length∧q=U3 i∧k=κ i)∨∃j,j<new.length∧q=σ j∧k=(S+j,u)):=by
    intro k b hm
    rcases lO.1 hm with hm|hm
    ·obtain ⟨i,b0,h1,h2⟩:=Wn hm
     rw [bN]at h2
     cases b0 with
     |none=>simp at h2
     |some b0=>
      simp only [lE,Prod.mk.injEq,Option.some.injEq]at h2
      obtain ⟨rfl,rfl⟩:=h2
      have hi:i<pre.length:=by rw [← hlenP];exact (lH.1 h1).1
      exact ⟨U3 i,b0,lT.1 okPo (some b0) (lF h1),hpost i b0 h1,rfl,by rw [hρ1κ i hi,hle0 i hi], .inl ⟨i,hi,rfl,rfl⟩⟩
    ·obtain ⟨j,b0,h1,h2⟩:=Wo hm
     rw [bN]at h2
     cases b0 with
     |none=>simp at h2
     |some b0=>
      simp only [lE,Prod.mk.injEq,Option.some.injEq]at h2
      obtain ⟨rfl,rfl⟩:=h2
      have hj:j<new.length:=(lH.1 h1).1
      exact ⟨σ j,b0,lT.1 JR (some b0) (lF h1),hnew j b0 h1,rfl,hρ1n j hj, .inr ⟨j,hj,rfl,rfl⟩⟩
  have hinjT: ∀{k k' q q':D5},((∃i,i<pre.length∧q=U3 i∧k=κ i)∨∃j,j<new.length∧q=σ j∧k=(S+j,u))→((∃i,i<pre.length∧q'=U3 i∧k'=κ i)∨∃j,j<new.length∧q'=σ j∧k'=(S+j,u))→q=q'→k=k':=by
    rintro k k' q q' (⟨i,hi,rfl,rfl⟩|⟨j,hj,rfl,rfl⟩) (⟨i',hi',rfl,rfl⟩|⟨j',hj',rfl,rfl⟩) e
    ·rw [CT e]
    ·exact absurd e.symm (hσo j' hj' i hi)
    ·exact absurd e (hσo j hj i' hi')
    ·rw [hσi j j' hj hj' e]
  -- what is not touched
  have hrest: ∀k b,k∉ (Ke κ (R5 κ fun j=>(S+j,u)) 0 post++Nt u S (R5 κ fun j=>(S+j,u)) 0 new).map (·.1)→h k=some b→(∀i,i<pre.length→k≠κ i)∧ρ1 k=ρ k∧∀g,J1 ρ k b=some g→w'.heap[g]? =w.heap[g]?∧¬own ρ0 (G (Pc 0 pre)) g:=by
    intro k b hn hk
    have hne: ∀i,i<pre.length→k≠κ i:=by
      rintro i hi rfl
      apply hn
      have: ∀(l:List (Option Blk)) (n:Nat),i<l.length→κ (n+i)∈(Ke κ (R5 κ fun j=>(S+j,u)) n l).map (·.1):=by
        intro l
        induction i with
        |zero=>intro n hl;cases l with|nil=>simp at hl|cons=>simp [Ke]
        |succ i _=>
         intro n hl
         have key: ∀(i:Nat) (l:List (Option Blk)) (n:Nat),i<l.length→κ (n+i)∈(Ke κ (R5 κ fun j=>(S+j,u)) n l).map (·.1):=by
           intro i
           induction i with
           |zero=>intro l n hl;cases l with|nil=>simp at hl|cons=>simp [Ke]
           |succ i ih=>
            intro l n hl
            cases l with
            |nil=>simp at hl
            |cons b r=>
             have:=ih r (n+1) (by simpa using hl)
             rw [show n+1+i=n+ (i+1) by omega]at this
             simp only [Ke,lM,lP]
             exact .inr this
         exact key (i+1) l n hl
      rw [List.map_append,lO]
      exact .inl (by have:=this post 0 (by rw [hlenP];exact hi);rwa [bN]at this)
    refine ⟨hne,?_,fun g hg=>⟨T'.frame g (H.lt k b g hk hg) (hown1 k b g hk hne hg),hown1 k b g hk hne hg⟩⟩
    obtain ⟨y,hy⟩:=(H.blk k b hk).rho
    rw [hle1 k y hy,hy]
  have hfrI: ∀b,I b→w'.heap[b]? =w.heap[b]?:=fun b hb=>T'.frame b (H.ilt b hb) (fun ho=>H0.own_notI ho hb)
  generalize hups:Ke κ (R5 κ fun j=>(S+j,u)) 0 post++Nt u S (R5 κ fun j=>(S+j,u)) 0 new=ups at htouch hrest
  have hcase: ∀k b,L0 h ups k=some b→(h k=some b∧k∉ups.map (·.1))∨(k,some b)∈ups:=fun k b hb=>(Sx ups h k (some b) hb).imp (fun q=>⟨q.2,q.1⟩) id
  have hlocR: ∀k b,h k=some b→k∉ups.map (·.1)→J1 ρ1 k b=J1 ρ k b:=fun k b hb hn=>Fs b (hrest k b hn hb).2.1
  have H1:HeapOK w' I' ρ1 (L0 h ups):=by
    refine ⟨fun k b hb=> ?_,fun k k' b b' g h1 h2 h3 h4=> ?_,fun k b g h1 h2 hi=> ?_,fun k b g h1 h2=> ?_,H'.ilt,?_,fun k y hy=> ?_⟩
    ·rcases hcase k b hb with ⟨a1,a2⟩|hm
     ·exact (H.blk k b a1).keep (fun g hg=>((hrest k b a2 a1).2.2 g hg).1) hfrI T'.imm hle1
     ·obtain ⟨q,b0,c1,c2,rfl,c4,_⟩:=htouch k b hm
      exact TX c1 (H'.blk _ _ c2) (fun y hy=>by rw [c4];exact hy) hk1
    ·rcases hcase k b h1 with ⟨a1,a2⟩|hm
     ·rw [hlocR k b a1 a2]at h3
      rcases hcase k' b' h2 with ⟨b1,b2⟩|hm'
      ·rw [hlocR k' b' b1 b2]at h4
       exact H.sep k k' b b' g a1 b1 h3 h4
      ·exfalso
       obtain ⟨q,b0,c1,c2,rfl,c4,_⟩:=htouch k' b' hm'
       rw [X1,Fs b0 c4]at h4
       exact ((hrest k b a2 a1).2.2 g h3).2 (T'.ownBack g ⟨q,_,c2,by rw [X1];exact h4⟩ (H.lt k b g a1 h3))
     ·obtain ⟨q,b0,c1,c2,rfl,c4,c5⟩:=htouch k b hm
      rw [X1,Fs b0 c4]at h3
      rcases hcase k' b' h2 with ⟨b1,b2⟩|hm'
      ·exfalso
       rw [hlocR k' b' b1 b2]at h4
       exact ((hrest k' b' b2 b1).2.2 g h4).2 (T'.ownBack g ⟨q,_,c2,by rw [X1];exact h3⟩ (H.lt k' b' g b1 h4))
      ·obtain ⟨q',b0',d1,d2,rfl,d4,d5⟩:=htouch k' b' hm'
       rw [X1,Fs b0' d4]at h4
       exact hinjT c5 d5 (H'.sep q q' _ _ g c2 d2 (by rw [X1];exact h3) (by rw [X1];exact h4))
    ·rcases hcase k b h1 with ⟨a1,a2⟩|hm
     ·rw [hlocR k b a1 a2]at h2
      rcases T'.immBack g hi (H.lt k b g a1 h2)with q|q
      ·exact H.notI k b g a1 h2 q
      ·exact ((hrest k b a2 a1).2.2 g h2).2 q
     ·obtain ⟨q,b0,c1,c2,rfl,c4,_⟩:=htouch k b hm
      rw [X1,Fs b0 c4]at h2
      exact H'.notI q _ g c2 (by rw [X1];exact h2) hi
    ·rcases hcase k b h1 with ⟨a1,a2⟩|hm
     ·rw [hlocR k b a1 a2]at h2
      exact bO (H.lt k b g a1 h2) T'.size
     ·obtain ⟨q,b0,c1,c2,rfl,c4,_⟩:=htouch k b hm
      rw [X1,Fs b0 c4]at h2
      exact H'.lt q _ g c2 (by rw [X1];exact h2)
    ·obtain ⟨u0,hu0⟩:=H.fresh
     refine ⟨max u0 (u+1),fun d x hx=> ?_⟩
     rw [hρ1o _ (fun j _ e=>by simp only [Prod.mk.injEq]at e;omega)]
     exact hu0 d x (by omega)
    ·have hy':(if k.2=u∧S≤k.1∧k.1<S+new.length then ρ0' (σ (k.1 - S))else ρ k)=some y:=hy
     split at hy'
     ·exact H'.rone _ y hy'
     ·exact H.rone _ y hy'
  refine ⟨x,I',ρ1,rfl,UI IP hv' hk1,H1,⟨T'.os,T'.tape,T'.output,T'.size,fun b hb hn=>T'.frame b hb (fun ho=>hn (hown0 b ho)),T'.imm,fun b hb hl=>(T'.immBack b hb hl).imp id (hown0 b),?_,hle1⟩,fun k hk=>hρ1o k fun j hj=>hk j (by omega)⟩
  rintro b ⟨k,c,h1,h2⟩ hl
  rcases hcase k c h1 with ⟨a1,a2⟩|hm
  ·exact ⟨k,c,a1,by rw [← hlocR k c a1 a2];exact h2⟩
  ·obtain ⟨q,b0,c1,c2,rfl,c4,_⟩:=htouch k c hm
   rw [X1,Fs b0 c4]at h2
   exact hown0 b (T'.ownBack b ⟨q,_,c2,by rw [X1];exact h2⟩ hl)
end Go.Abs
namespace Go.Abs
open Go
theorem Sy {α:Type}{l:List α}(h:l.Nodup){i j:Nat}(hi:i<l.length)(hj:j<l.length)(e:l[i]=l[j]):i=j:=by
  have h':=List.pairwise_iff_getElem.1 h
  rcases Nat.lt_trichotomy i j with q|q|q
  ·exact absurd e (h' i j hi hj q)
  ·exact q
  ·exact absurd e.symm (h' j i hj hi q)
def Cy (l:List D5)(i:Nat):D5:=l.getD i (0,0)
section
variable {P:Program}{N:Nat}
/-- Less is known of what is handed in. -/
theorem FCall.le {u S:Nat}{f:FuncId}{avs avs':List AV}{pre pre':C8}{v:AV}{ups:List (D5×Option Blk)}(hF:FCall P u S f avs' pre v ups)(ha:All2 AVle avs avs')(hp: ∀q b,pre q=some b→∃b',pre' q=some b'∧BlkLe b' b)(hu: ∀q b,pre q=some b→q∈ups.map (·.1)):FCall P u S f avs pre' v ups:=by
  refine ⟨hF.1,fun w I ρ h vs H hh hlen hrep hfr=> ?_⟩
  let h1:C8:=fun q=>match pre q with|some b=>some b|none=>h q
  have h1p: ∀q b,pre q=some b→h1 q=some b:=fun q b hb=>by show (match pre q with|some b=>some b|none=>h q)=_;rw [hb]
  have h1n: ∀q,pre q=none→h1 q=h q:=fun q hb=>by show (match pre q with|some b=>some b|none=>h q)=_;rw [hb]
  have S1:Sb ⟨fun _=> .any,h1⟩ ⟨fun _=> .any,h⟩:=by
    refine ⟨fun i=> .any _,fun k b hb=> ?_⟩
    cases hq:pre k with
    |none=>exact ⟨b,by show h k=some b;rw [← h1n k hq];exact hb, .refl b⟩
    |some b0=>
     obtain rfl:b0=b:=by have:=hb;dsimp only at this;rw [h1p k b0 hq]at this;exact lC this
     obtain ⟨b',e1,e2⟩:=hp k b0 hq
     exact ⟨b',hh k b' e1,e2⟩
  have hup:L0 h1 ups=L0 h ups:=by
    funext q
    by_cases e:q∈ups.map (·.1)
    ·exact Jj ups _ _ q e
    ·rw [Bb _ _ _ e,Bb _ _ _ e]
     cases hq:pre q with
     |none=>exact h1n q hq
     |some b=>exact absurd (hu q b hq) e
  have hown: ∀g,own ρ h1 g→own ρ h g:=fun g hg=>S1.own hg
  have hown': ∀g,own ρ h g→own ρ h1 g:=by
    rintro g ⟨k,b,e1,e2⟩
    cases hq:pre k with
    |none=>exact ⟨k,b,by rw [h1n k hq];exact e1,e2⟩
    |some b0=>
     obtain ⟨b',g1,g2⟩:=hp k b0 hq
     have:b'=b:=by have:=hh k b' g1;rw [e1]at this;exact (lC this).symm
     subst this
     exact ⟨k,b0,h1p k b0 hq,by rw [g2.loc];exact e2⟩
  refine (hF.2 w I ρ h1 vs (S1.heapOK H) h1p (by rw [← ha.length];exact hlen) (fun i c hc=> ?_) hfr).mono ?_
  ·obtain ⟨a,e1,e2⟩:=ha.get hc
   exact e2 _ _ _ _ (hrep i a e1)
  rintro e w' ⟨x,I',ρ',rfl,r1,r2,r3,r4⟩
  rw [hup]at r2 r3
  exact ⟨x,I',ρ',rfl,r1,r2,⟨r3.os,r3.tape,r3.output,r3.size,fun b hb hn=>r3.frame b hb fun ho=>hn (hown b ho),r3.imm,fun b hb hl=>(r3.immBack b hb hl).imp id (hown b),fun b hb hl=>hown b (r3.ownBack b hb hl),r3.rho⟩,r4⟩
/-- A pure contract, where what is handed in is untouched and the answer needs no memory of it. -/
theorem ICall.le {f:FuncId}{avs:List AV}{h:C8}{K K':AV→C8→Prop}(hI:ICall P f avs h K)(hk: ∀v h,K v h→K' v h):ICall P f avs h K':=hI.mono hk
/-! ### How such a contract is shown -/
theorem QT {f:FuncId}{rs:List RV}{ac:AC}(F:FnOK P f N rs ac){avs:List AV}{pre:List Blk}{v:AV}{post:List (Option Blk)}{new:List (Option Blk)}(hok:PT avs pre v post new=true)(hl:avs.length≤N)
    (h:Dj P N none [.c ac] (fun e s=>(e= .nrm∨e= .ret)∧∃v' v1 g1,Qd s.t s.h rs=some v'∧AVle v' v1∧Ve s.h g1∧Rl pre.length v post new v1 (G g1)) .nrm ⟨AX avs,G (Pc 0 pre)⟩):MCall P f avs pre v post new:=by
  refine ⟨hok,F.enters,?_⟩
  obtain ⟨fn,c,hf,hb,hN,hrs,⟨M,hc⟩,hn⟩:=F.ex
  intro w I ρ vs H hlen hrep
  have hsim:=Nn (n:=N) H hlen (by omega) hrep
  rw [← hN]at hsim
  refine Ib (Q:=fun e s=>(e= .nrm∨e= .ret)∧∃v' v1 g1,Qd s.t s.h rs=some v'∧AVle v' v1∧Ve s.h g1∧Rl pre.length v post new v1 (G g1)) hf hb rfl hsim (by rw [hN];exact h M c hc) ?_
  rintro e s' a' w' I' ρ' ⟨he,v',v1,g1,hv,hle,hg,hp⟩ hs' tr
  obtain ⟨x,hx,hr⟩:=Wh hs' hrs hv
  have S1:Sb ⟨T [],G g1⟩ s':=by cases s';exact D3 trivial hg
  exact ⟨he,x,hx,x,v1,I',ρ',G g1,rfl,hle _ _ _ _ hr,S1.heapOK hs'.heap,⟨tr.os,tr.tape,tr.output,tr.size,tr.frame,tr.imm,tr.immBack,fun b hb hl=>tr.ownBack b (S1.own hb) hl,tr.rho⟩,hp⟩
def Qf:List AV→Nat→List (Nat×AV)
  | [],_=> []
  |a::r,n=>(n,a)::Qf r (n+1)
theorem Zi: ∀(avs:List AV) (n i:Nat),T (Qf avs n) (n+i)=avs.getD i .any
  | [],n,i=>by simp [Qf,RR]
  |a::r,n,i=>by
   rw [Qf,QG]
   cases i with
   |zero=>rw [l8 (by simp)];rfl
   |succ i=>rw [l9 (by omega),show n+ (i+1)=n+1+i by omega,Zi r (n+1) i];rfl
theorem GZ (avs:List AV):AX avs=T (Qf avs 0):=by
  funext i
  have:=Zi avs 0 i
  rw [bN]at this
  rw [this];rfl
def HA (h:C8)(f:D5→D5):Nat→List (Option Blk)→Prop
  |_,[]=>True
  |i,b::r=>(match b with|some b=>h (U3 i)=some (Ez f b)|none=>True)∧HA h f (i+1) r
theorem Sz {h:C8}{f:D5→D5}: ∀{l:List (Option Blk)} {n i:Nat} {b:Blk},HA h f n l→l[i]? =some (some b)→h (U3 (n+i))=some (Ez f b)
  | [],n,i,b,_,hb=>by simp at hb
  |x::r,n,i,b,hp,hb=>by
   cases i with
   |zero=>simp at hb;subst hb;exact hp.1
   |succ i=>rw [show n+ (i+1)=n+1+i by omega];exact Sz hp.2 (by simpa using hb)
def OT (h:C8)(f:D5→D5):List D5→List (Option Blk)→Prop
  |_,[]=>True
  | [],_::_=>False
  |k::ks,b::r=>h k=b.map (Ez f)∧OT h f ks r
theorem Wq {h:C8}{f:D5→D5}: ∀{ks:List D5} {l:List (Option Blk)} {i:Nat} {b:Blk},OT h f ks l→l[i]? =some (some b)→h (Cy ks i)=some (Ez f b)
  |ks,[],i,b,_,hb=>by simp at hb
  | [],_::_,i,b,hp,_=>hp.elim
  |k::ks,x::r,i,b,hp,hb=>by
   cases i with
   |zero=>simp at hb;subst hb;exact hp.1
   |succ i=>exact Wq (ks:=ks) hp.2 (by simpa using hb)
theorem LF {d u:Nat}(h:Nat.blt d 900000=true)(i:Nat):(d,u)≠U3 i:=by
  rw [Nat.blt_eq]at h
  intro e
  simp only [U3,Prod.mk.injEq]at e;omega
theorem LG {n:Nat}{v v1:AV}{post:List (Option Blk)}{new:List (Option Blk)}{h:C8}(σs:List D5)(hv:v1=BB (R5 U3 (Cy σs)) v)(hpost:HA h (R5 U3 (Cy σs)) 0 post)(hnew:OT h (R5 U3 (Cy σs)) σs new)
    (hl:σs.length=new.length) (hd: ∀k∈σs,∀i,k≠U3 i) (hnd:σs.Nodup):Rl n v post new v1 h:=by
  have hget: ∀j,j<new.length→Cy σs j∈σs:=by
    intro j hj
    simp only [Cy,List.getD,lG (show j<σs.length by omega),Option.getD_some]
    exact List.getElem_mem _
  refine ⟨Cy σs,hv,fun i b hb=> ?_,fun j b hb=>Wq hnew hb,fun j hj i _=>hd _ (hget j hj) i,fun j j' hj hj' e=> ?_⟩
  ·have:=Sz hpost hb
   rwa [bN]at this
  ·simp only [Cy,List.getD,lG (show j<σs.length by omega),lG (show j'<σs.length by omega),Option.getD_some]at e
   exact Sy hnd (by omega) (by omega) e
theorem Aa {t:Nat→AV}{h:C8}{rs:List RV}{e:Ex}{n:Nat}{v v' v1:AV}{post:List (Option Blk)}{new:List (Option Blk)}(he:e= .nrm∨e= .ret)(h1:Qd t h rs=some v')(h2:AVle v' v1)(g1:List (D5×Option Blk))(h3:Ve h g1)(h4:Rl n v post new v1 (G g1)):
    (e= .nrm∨e= .ret)∧∃v' v1 g1,Qd (⟨t,h⟩:St).t (⟨t,h⟩:St).h rs=some v'∧AVle v' v1∧Ve (⟨t,h⟩:St).h g1∧Rl n v post new v1 (G g1):=⟨he,v',v1,g1,h1,h2,h3,h4⟩
theorem Zj {t:Nat→AV}{h:C8}{a:RV}{v:AV}(hv:Qc t h a=some v):Qd t h [a]=some v:=by simp only [Qd,Ss,hv]
theorem Ds {t:Nat→AV}{h:C8}{a b:RV}{v w:AV}(hv:Qc t h a=some v)(hw:Qc t h b=some w):Qd t h [a,b]=some (.tup [v,w]):=by simp only [Qd,Ss,hv,hw]
end
/-! ### How it is used -/
theorem Qg {h:C8}{n:Nat}{k:D5}{off:Nat}{ty:TypeId}{cs:List AV}{ks:List D5}(hb:h k=some (.box ty cs))(hc:cs.flatMap (M7 h n)=ks):M7 h (n+1) (.ptr k off)=k::ks:=by simp only [M7,hb,hc]
theorem LH {h:C8}{n:Nat}{x:D}:M7 h n (.d x)= []:=by cases n<;>rfl
theorem LI {h:C8}{n:Nat}{f:Fn}{fs cs:List AV}{ks ks':List D5}(h1:fs.flatMap (M7 h n)=ks)(h2:cs.flatMap (M7 h n)=ks'):M7 h (n+1) (.fn f fs cs)=ks++ks':=by simp only [M7,h1,h2]
theorem Qh {h:C8}{n:Nat}:([]:List AV).flatMap (M7 h n)= []:=rfl
theorem Cl {h:C8}{n:Nat}{x:AV}{r:List AV}{a b:List D5}(h1:M7 h n x=a)(h2:r.flatMap (M7 h n)=b):(x::r).flatMap (M7 h n)=a++b:=by rw [lX,h1,h2]
def IA (h:C8):List D5→List Blk→Prop
  | [],[]=>True
  |k::ks,b::bs=>(∃b',h k=some b'∧BlkLe b' b)∧IA h ks bs
  |_,_=>False
theorem Wr {h:C8}: ∀{ks:List D5} {bs:List Blk},IA h ks bs→ks.length=bs.length
  | [],[],_=>rfl
  |_::ks,_::bs,hp=>by simp [Wr hp.2]
  | [],_::_,hp=>hp.elim
  |_::_,[],hp=>hp.elim
theorem CW {h:C8}: ∀{ks:List D5} {bs:List Blk} {i:Nat} {b:Blk},IA h ks bs→bs[i]? =some b→Cy ks i∈ks∧∃b',h (Cy ks i)=some b'∧BlkLe b' b
  | [],[],i,b,_,hb=>by simp at hb
  |k::ks,c::bs,i,b,hp,hb=>by
   cases i with
   |zero=>simp at hb;subst hb;exact ⟨by simp [Cy],hp.1⟩
   |succ i=>
    obtain ⟨g1,g2⟩:=CW (ks:=ks) (bs:=bs) (i:=i) hp.2 (by simpa using hb)
    exact ⟨by simp only [Cy,List.getD_cons_succ]at g1 ⊢;exact List.mem_cons_of_mem _ g1,g2⟩
  | [],_::_,_,_,hp,_=>hp.elim
  |_::_,[],_,_,hp,_=>hp.elim
/-- A call of such a function, at the keys of the caller. -/
theorem MCall.at {P:Program}{u S:Nat}{f:FuncId}{avs avs0:List AV}{pre:List Blk}{v:AV}{post:List (Option Blk)}{new:List (Option Blk)}{h:C8}(hM:MCall P f avs0 pre v post new)(κs:List D5)(ks:List D5)
    (hle:All2 AVle avs (avs0.map (Yf (R5 (Cy κs) (Cy κs))))) (hpre:IA h κs (pre.map (Ez (R5 (Cy κs) (Cy κs))))) (hsub: ∀k∈κs,k∈ks) (hnd:κs.Nodup):
    FCall P u S f avs (P6 h ks) (BB (R5 (Cy κs) fun j=>(S+j,u)) v) (Ke (Cy κs) (R5 (Cy κs) fun j=>(S+j,u)) 0 post++Nt u S (R5 (Cy κs) fun j=>(S+j,u)) 0 new):=by
  have hlen:κs.length=pre.length:=by simpa using Wr hpre
  have hok:=hM.ok
  simp only [PT,bB,bG,Nat.ble_eq]at hok
  have hinj: ∀i i',i<pre.length→i'<pre.length→Cy κs i=Cy κs i'→i=i':=by
    intro i i' hi hi' e
    simp only [Cy,List.getD,lG (show i<κs.length by omega),lG (show i'<κs.length by omega),Option.getD_some]at e
    exact Sy hnd (by omega) (by omega) e
  let preH:C8:=fun q=>match (List.range pre.length).find? fun i=>Cy κs i==q with
    |some i=>(pre[i]?).map (Ez (R5 (Cy κs) (Cy κs)))
    |none=>none
  have hat: ∀i b,pre[i]? =some b→preH (Cy κs i)=some (Ez (R5 (Cy κs) (Cy κs)) b):=by
    intro i b hb
    have hi:i<pre.length:=(lH.1 hb).1
    show (match (List.range pre.length).find? fun i'=>Cy κs i'==Cy κs i with|some i=>(pre[i]?).map (Ez (R5 (Cy κs) (Cy κs)))|none=>none)=_
    cases hf:(List.range pre.length).find? fun i'=>Cy κs i'==Cy κs i with
    |none=>
     have:=List.find?_eq_none.1 hf i (by simpa using hi)
     simp at this
    |some j=>
     have h1:=List.find?_some hf
     have h2:=List.mem_of_find?_eq_some hf
     have:=hinj j i (by simpa using h2) hi (by simpa using h1)
     subst this
     simp only [hb,lE]
  have hinv: ∀q b,preH q=some b→∃i b0,pre[i]? =some b0∧q=Cy κs i∧b=Ez (R5 (Cy κs) (Cy κs)) b0:=by
    intro q b hq
    have hq':(match (List.range pre.length).find? fun i'=>Cy κs i'==q with|some i=>(pre[i]?).map (Ez (R5 (Cy κs) (Cy κs)))|none=>none)=some b:=hq
    split at hq'
    ·rename_i j hf
     have h1:=List.find?_some hf
     simp only [lD]at hq'
     obtain ⟨b0,e1,rfl⟩:=hq'
     exact ⟨j,b0,e1,(by simpa using h1:Cy κs j=q).symm,rfl⟩
    ·cases hq'
  refine FCall.le (hM.frame (Cy κs) hinj preH hat) hle (fun q b hq=> ?_) (fun q b hq=> ?_)
  ·obtain ⟨i,b0,e1,rfl,rfl⟩:=hinv q b hq
   obtain ⟨g1,b',g2,g3⟩:=CW hpre (Jm e1)
   exact ⟨b',by unfold P6;rw [l8 (hsub _ g1)];exact g2,g3⟩
  ·obtain ⟨i,b0,e1,rfl,rfl⟩:=hinv q b hq
   rw [List.map_append,lO]
   left
   have hi:i<post.length:=by rw [hok.1.1.1.1.1.1];exact (lH.1 e1).1
   have key: ∀(i:Nat) (l:List (Option Blk)) (n:Nat) (f:D5→D5),i<l.length→Cy κs (n+i)∈(Ke (Cy κs) f n l).map (·.1):=by
     intro i
     induction i with
     |zero=>intro l n f hl;cases l with|nil=>simp at hl|cons=>simp [Ke]
     |succ i ih=>
      intro l n f hl
      cases l with
      |nil=>simp at hl
      |cons b r=>
       have:=ih r (n+1) f (by simpa using hl)
       rw [show n+1+i=n+ (i+1) by omega]at this
       simp only [Ke,lM,lP]
       exact .inr this
   have:=key i post 0 (R5 (Cy κs) fun j=>(S+j,u)) hi
   rwa [bN]at this
theorem QU {u S:Nat}{κs ks:List D5}{post:List (Option Blk)}{new:List (Option Blk)}{f g:D5→D5}(hsub: ∀k∈κs,k∈ks)(hl:post.length=κs.length)(hn:new.length≤6):
    ∀q∈(Ke (Cy κs) f 0 post++Nt u S g 0 new).map (·.1),q∈ks∨∃j,j<6∧q=(S+j,u):=by
  intro q hq
  simp only [List.mem_map,lO]at hq
  obtain ⟨x,hx|hx,rfl⟩:=hq
  ·obtain ⟨j,b,h1,rfl⟩:=Wn hx
   have hj:j<κs.length:=by rw [← hl];exact (lH.1 h1).1
   left
   refine hsub _ ?_
   simp only [bN,Cy,List.getD,lG hj,Option.getD_some]
   exact List.getElem_mem _
  ·obtain ⟨j,b,h1,rfl⟩:=Wo hx
   have hj:j<new.length:=(lH.1 h1).1
   exact .inr ⟨j,by omega,by rw [bN]⟩
section
variable {P:Program}{u:Nat}{r:List AOp}{l:List (Nat×AV)}{g:List (D5×Option Blk)}
/-- What a call of such a function asks for, and gives. -/
structure OC (P:Program)(u:Nat)(l:List (Nat×AV))(g:List (D5×Option Blk))(S:Nat)(f:Opd)(args:List Opd)(v:AV)(ks:List D5)(us:List D5)(g':List (D5×Option Blk)):Prop where
  w: ∀K:AV→List (D5×Option Blk)→Prop,(∀ups,ups.map (·.1)=us→L0 (G g) ups=G g'→K v ups)→Qa P u (T l) (G g) S f args K
  ks:W1 (T l) (G g) (.ocall S f args)=ks
theorem FO {S:Nat}{f:Opd}{args:List Opd}{fid:FuncId}{avs avs0:List AV}{pre:List Blk}{v v':AV}{post:List (Option Blk)}{new:List (Option Blk)}(hM:MCall P fid avs0 pre v post new)(κs ks us:List D5)(g':List (D5×Option Blk))
    (hc:O5 (T l) f args=some (fid,avs)) (hle:All2 AVle avs (avs0.map (Yf (R5 (Cy κs) (Cy κs))))) (hks:avs.flatMap (M7 (G g) 6)=ks) (hlive: ∀q∈ks,G g q≠none)
    (hpre:IA (G g) κs (pre.map (Ez (R5 (Cy κs) (Cy κs))))) (hsub: ∀k∈κs,k∈ks) (hnd:κs.Nodup) (hv:BB (R5 (Cy κs) fun j=>(S+j,u)) v=v')
    (hus:(Ke (Cy κs) (R5 (Cy κs) fun j=>(S+j,u)) 0 post++Nt u S (R5 (Cy κs) fun j=>(S+j,u)) 0 new).map (·.1)=us)
    (hg:L0 (G g) (Ke (Cy κs) (R5 (Cy κs) fun j=>(S+j,u)) 0 post++Nt u S (R5 (Cy κs) fun j=>(S+j,u)) 0 new)=G g'):OC P u l g S f args v' ks us g':=by
  have hok:=hM.ok
  simp only [PT,bB,bG,Nat.ble_eq]at hok
  have hlen:κs.length=pre.length:=by simpa using Wr hpre
  refine ⟨fun K hK=> ?_,by simp only [W1,hc,hks]⟩
  simp only [Qa,hc,hks]
  refine ⟨v',_,?_,hlive,by rw [← hv];exact hM.at κs ks hle hpre hsub hnd,hK _ hus hg⟩
  exact QU hsub (by rw [hok.1.1.1.1.1.1,hlen]) hok.1.1.1.1.1.2
theorem FP {K:(Nat→AV)→C8→Prop}{d S:Nat}{f:Opd}{args:List Opd}{v:AV}{ks us:List D5}{g':List (D5×Option Blk)}(h:OC P u l g S f args v ks us g')(hk:H9 P u r (T ((d,v)::l)) (G g') K):H9 P u (⟨some d, .ocall S f args,none⟩::r) (T l) (G g) K:=by
  refine On (by simp [Q4]) ?_
  simp only [gW,Pi]
  exact h.w _ fun ups _ e=>by rw [e];exact hk
theorem OU {K:(Nat→AV)→C8→List (List D5×List D5)→Prop}{d S:Nat}{f:Opd}{args:List Opd}{v:AV}{ks us:List D5}{g':List (D5×Option Blk)}(h:OC P u l g S f args v ks us g')(hk:Ca P u r (T ((d,v)::l)) (G g') fun t' h' tr=>K t' h' ((ks,us)::tr)):Ca P u (⟨some d, .ocall S f args,none⟩::r) (T l) (G g) K:=by
  unfold Ca
  simp only [gW,Pi]
  refine h.w _ fun ups e1 e=> ?_
  rw [e,e1,h.ks];exact hk
end
end Go.Abs
namespace Go.Abs
open Go
section
variable {P:Program}{N:Nat}
/-- What is handed back, where the blocks at some keys have become data. -/
def Ws (ks:List D5)(t:Nat→AV)(h:C8)(rs:List RV):Option D:=match Ss t h rs with
  |some vs=>match J9 (I7 (P6 h ks) 6) vs with
   |some [d]=>some d
   |some ds=>some (.tup ds)
   |none=>none
  |none=>none
def Rm (h:C8)(ks:List D5):Nat→List (Option Blk)→Prop
  |_,[]=>True
  |i,none::r=>Rm h ks (i+1) r
  |i,some (.box ty cs)::r=>(∃cs' ds ds',h (U3 i)=some (.box ty cs')∧U3 i∉ks∧J9 (I7 (P6 h ks) 6) cs'=some ds∧All2 DLe ds ds'∧cs=ds'.map .d)∧Rm h ks (i+1) r
  |i,some (.arr ty sz es)::r=>(h (U3 i)=some (.arr ty sz es)∧U3 i∉ks)∧Rm h ks (i+1) r
  |_,some (.obj _ _)::_=>False
  |_,some (.mp _)::_=>False
def Pj:Nat→List (Option Blk)→List (D5×Option Blk)
  |_,[]=> []
  |i,b::r=>(U3 i,b)::Pj (i+1) r
theorem Zk: ∀{l:List (Option Blk)} {i:Nat} {q:D5} {b:Blk},G (Pj i l) q=some b→∃j,q=U3 (i+j)∧l[j]? =some (some b)
  | [],i,q,b,h=>by cases h
  |x::r,i,q,b,h=>by
   rw [Pj,G]at h
   by_cases e:q=U3 i
   ·rw [l8 e]at h;subst h;exact ⟨0,e,rfl⟩
   ·rw [l9 e]at h
    obtain ⟨j,h1,h2⟩:=Zk h
    exact ⟨j+1,by rw [h1];congr 1;omega,by simpa using h2⟩
theorem CX: ∀{l:List (Option Blk)} {i j:Nat} {b:Option Blk},l[j]? =some b→G (Pj i l) (U3 (i+j))=b
  | [],i,j,b,h=>by simp at h
  |x::r,i,j,b,h=>by
   rw [Pj,G]
   cases j with
   |zero=>simp at h;subst h;rw [l8 (by simp)]
   |succ j=>
    rw [l9 (fun e=>by have:=CT e;omega),show i+ (j+1)=i+1+j by omega]
    exact CX (by simpa using h)
theorem Zl {h:C8}{ks:List D5}: ∀{l:List (Option Blk)} {i j:Nat} {b:Blk},Rm h ks i l→l[j]? =some (some b)→U3 (i+j)∉ks∧
    ((∃ty cs' ds ds',b= .box ty (ds'.map .d)∧h (U3 (i+j))=some (.box ty cs')∧J9 (I7 (P6 h ks) 6) cs'=some ds∧All2 DLe ds ds')∨∃ty sz es,b= .arr ty sz es∧h (U3 (i+j))=some (.arr ty sz es))
  | [],i,j,b,_,hb=>by simp at hb
  |x::r,i,j,b,hp,hb=>by
   cases j with
   |zero=>
    simp at hb;subst hb
    cases b with
    |box ty cs=>obtain ⟨⟨cs',ds,ds',a1,a2,a3,a4,rfl⟩,_⟩:=hp;exact ⟨a2, .inl ⟨ty,cs',ds,ds',rfl,a1,a3,a4⟩⟩
    |arr ty sz es=>exact ⟨hp.1.2, .inr ⟨ty,sz,es,rfl,hp.1.1⟩⟩
    |obj=>exact hp.elim
    |mp=>exact hp.elim
   |succ j=>
    have hr:Rm h ks (i+1) r:=by
      cases x with
      |none=>exact hp
      |some x=>cases x<;>first|exact hp.2|exact hp.elim
    have:=Zl hr (by simpa using hb:r[j]? =some (some b))
    rwa [show i+1+j=i+ (j+1) by omega]at this
theorem IB (f:D5→D5)(ds:List D):(ds.map AV.d).map (Ye f)=ds.map .d:=by rw [List.map_map];rfl
theorem Vg {f:FuncId}{rs:List RV}{ac:AC}(F:FnOK P f N rs ac){avs:List AV}{pre:List Blk}{v:D}{post:List (Option Blk)}(hok:PT avs pre (.d v) post []=true)(hl:avs.length≤N)
    (h:Dj P N none [.c ac] (fun e s=>(e= .nrm∨e= .ret)∧∃ks d',Ws ks s.t s.h rs=some d'∧DLe d' v∧Rm s.h ks 0 post) .nrm ⟨T (Qf avs 0),G (Pc 0 pre)⟩):MCall P f avs pre (.d v) post []:=by
  refine ⟨hok,F.enters,?_⟩
  obtain ⟨fn,c,hf,hb,hN,hrs,⟨M,hc⟩,hn⟩:=F.ex
  intro w I ρ vs H hlen hrep
  have hsim:=Nn (n:=N) H hlen (by omega) hrep
  rw [← hN,GZ]at hsim
  refine Ib (Q:=fun e s=>(e= .nrm∨e= .ret)∧∃ks d',Ws ks s.t s.h rs=some d'∧DLe d' v∧Rm s.h ks 0 post) hf hb rfl hsim (by rw [hN];exact h M c hc) ?_
  rintro e s' a' w' I' ρ' ⟨he,ks,d',hv,hle,hp⟩ hs' tr
  have Hs:=hs'.heap
  let hk:C8:=P6 s'.h ks
  have hsub: ∀q b,hk q=some b→s'.h q=some b∧q∈ks:=by
    intro q b hq
    have:(if q∈ks then s'.h q else none)=some b:=hq
    split at this
    ·exact ⟨this,‹_›⟩
    ·cases this
  have Hk:=Hs.sub fun q b hq=>(hsub q b hq).1
  have hg: ∀q b,G (Pj 0 post) q=some b→∃b0,s'.h q=some b0∧q∉ks∧J1 ρ' q b=J1 ρ' q b0∧BlkOK w' (fun b=>I' b∨own ρ' hk b) ρ' q b∧∀f,Ez f b=b:=by
    intro q b hq
    obtain ⟨i,rfl,h2⟩:=Zk hq
    rw [bN]
    obtain ⟨h3,h4⟩:=Zl hp h2
    rw [bN]at h3 h4
    rcases h4 with ⟨ty,cs',ds,ds',rfl,a1,a2,a3⟩|⟨ty,sz,es,rfl,a1⟩
    ·refine ⟨_,a1,h3,rfl,?_,fun f=>by simp only [Ez,IB]⟩
     obtain ⟨g,ws,b1,b2,b3,b4,b5⟩:=Hs.blk _ _ a1
     obtain ⟨l1,l2⟩:=Ck a2
     refine ⟨g,ws,b1,b2,by rw [lN,← a3.length,l1];exact b3,b4,fun i c hc=> ?_⟩
     obtain ⟨d1,hd1,rfl⟩:=Vc hc
     obtain ⟨d0,e1,e2⟩:=a3.get hd1
     obtain ⟨x,e3,e4⟩:=l2 i d0 e1
     exact .d _ _ (e2 _ _ _ (Fr Hk 6 x d0 _ (b5 i x e3) e4))
    ·exact ⟨_,a1,h3,rfl,(Hs.blk _ _ a1).keep (fun _ _=>rfl) (fun _ _=>rfl) (fun _ h=> .inl h) (fun _ _ h=>h),fun f=>rfl⟩
  have hownG: ∀g,own ρ' (G (Pj 0 post)) g→own ρ' s'.h g:=by
    rintro g ⟨q,b,a1,a2⟩
    obtain ⟨b0,c1,_,c3,_⟩:=hg q b a1
    exact ⟨q,b0,c1,by rw [← c3];exact a2⟩
  have H2:HeapOK w' (fun b=>I' b∨own ρ' hk b) ρ' (G (Pj 0 post)):=by
    refine ⟨fun q b hq=>by obtain ⟨_,_,_,_,c,_⟩:=hg q b hq;exact c,fun q q' b b' g h1 h2 h3 h4=> ?_,fun q b g h1 h2 hi=> ?_,fun q b g h1 h2=> ?_,fun b hb=> ?_,Hs.fresh,Hs.rone⟩
    ·obtain ⟨b0,c1,_,c3,_⟩:=hg q b h1
     obtain ⟨b1,d1,_,d3,_⟩:=hg q' b' h2
     rw [c3]at h3;rw [d3]at h4
     exact Hs.sep q q' b0 b1 g c1 d1 h3 h4
    ·obtain ⟨b0,c1,c2,c3,_⟩:=hg q b h1
     rw [c3]at h2
     rcases hi with hi|⟨k,x,e1,e2⟩
     ·exact Hs.notI q b0 g c1 h2 hi
     ·obtain ⟨e3,e4⟩:=hsub k x e1
      have:=Hs.sep q k b0 x g c1 e3 h2 e2
      subst this
      exact c2 e4
    ·obtain ⟨b0,c1,c2,c3,_⟩:=hg q b h1
     rw [c3]at h2
     exact Hs.lt q b0 g c1 h2
    ·rcases hb with hb|hb
     ·exact Hs.ilt b hb
     ·exact Hk.own_lt hb
  unfold Ws at hv
  split at hv
  ·rename_i avs' hres
   obtain ⟨xs,g1,g2,g3⟩:=Nm hs' hrs hres
   have hds: ∀{ds:List D},J9 (I7 hk 6) avs'=some ds→ds.length=xs.length∧∀(i:Nat) d,ds[i]? =some d→RepD w' (fun b=>I' b∨own ρ' hk b) d (xs.getD i undef):=by
     intro ds hds
     obtain ⟨l1,l2⟩:=Ck hds
     refine ⟨by omega,fun i d hd=> ?_⟩
     obtain ⟨x,e3,e4⟩:=l2 i d hd
     exact Fr Hk 6 x d _ (g3 i x e3) e4
   have hfin: ∀x,(results fn a'.tmps).run P w'= .ok x w'→RepD w' (fun b=>I' b∨own ρ' hk b) d' x→
    ∃x,(results fn a'.tmps).run P w'= .ok x w'∧∃x' v' I'' ρ'' h'',Ending.returned x= .returned x'∧RepV w' I'' ρ'' v' x'∧HeapOK w' I'' ρ'' h''∧Tr w I ρ (G (Pc 0 pre)) w' I'' ρ'' h''∧Rl pre.length (.d v) post [] v' h'':=by
     intro x hx hr
     refine ⟨x,hx,x, .d v,_,ρ',G (Pj 0 post),rfl, .d _ _ (hle _ _ _ hr),H2,⟨tr.os,tr.tape,tr.output,tr.size,tr.frame,fun b hb=> .inl (tr.imm b hb),fun b hb hl=> ?_,fun b hb hl=>tr.ownBack b (hownG b hb) hl,tr.rho⟩,fun _=>(0,0),rfl,fun i b hb=> ?_,fun j b hb=>by simp at hb,fun j hj=>by simp at hj,fun j j' hj=>by simp at hj⟩
     ·rcases hb with hb|⟨k,x,e1,e2⟩
      ·exact tr.immBack b hb hl
      ·exact .inr (tr.ownBack b ⟨k,x,(hsub k x e1).1,e2⟩ hl)
     ·have h1:G (Pj 0 post) (U3 (0+i))=some b:=CX hb
      rw [bN]at h1
      obtain ⟨_,_,_,_,_,c⟩:=hg _ b h1
      rw [h1,c]
   have hmain: ∃x,(results fn a'.tmps).run P w'= .ok x w'∧RepD w' (fun b=>I' b∨own ρ' hk b) d' x:=by
     split at hv
     ·rename_i d hd
      cases hv
      obtain ⟨l1,l2⟩:=hds hd
      obtain ⟨x,rfl⟩: ∃x,xs= [x]:=by
        cases xs with
        |nil=>simp at l1
        |cons x r=>cases r with
         |nil=>exact ⟨x,rfl⟩
         |cons=>simp at l1
      exact ⟨x,by rw [Jk fn a' w' _ g1];simp,l2 0 _ rfl⟩
     ·rename_i ds hne hd
      cases hv
      obtain ⟨l1,l2⟩:=hds hd
      have hx1: ¬xs.length=1:=by
        intro h1
        rw [← l1]at h1
        obtain ⟨v,rfl⟩:=List.length_eq_one_iff.1 h1
        exact hne v rfl
      exact ⟨_,by rw [Jk fn a' w' _ g1,dif_neg hx1], .tup ds xs l1 l2⟩
     ·cases hv
   obtain ⟨x,hx,hr⟩:=hmain
   obtain ⟨x1,h1,h2⟩:=hfin x hx hr
   exact ⟨he,x1,h1,h2⟩
  ·cases hv
theorem Dt {f:FuncId}{rs:List RV}{ac:AC}(F:FnOK P f N rs ac){avs:List AV}{pre:List Blk}{v:AV}{post:List (Option Blk)}{new:List (Option Blk)}(hok:PT avs pre v post new=true)(hl:avs.length≤N)
    (h:Dj P N none [.c ac] (fun e s=>(e= .nrm∨e= .ret)∧∃v' v1 g1,Qd s.t s.h rs=some v'∧AVle v' v1∧Ve s.h g1∧Rl pre.length v post new v1 (G g1)) .nrm ⟨T (Qf avs 0),G (Pc 0 pre)⟩):MCall P f avs pre v post new:=
  QT F hok hl (by rw [GZ];exact h)
theorem Wt {t:Nat→AV}{h:C8}{rs:List RV}{d d':D}{e:Ex}{post:List (Option Blk)}(he:e= .nrm∨e= .ret)(ks:List D5)(h1:Ws ks t h rs=some d')(h2:DLe d' d)(h3:Rm h ks 0 post):
    (e= .nrm∨e= .ret)∧∃ks d',Ws ks (⟨t,h⟩:St).t (⟨t,h⟩:St).h rs=some d'∧DLe d' d∧Rm (⟨t,h⟩:St).h ks 0 post:=⟨he,ks,d',h1,h2,h3⟩
theorem Wu {t:Nat→AV}{h:C8}{ks:List D5}{a:RV}{v:AV}{d:D}(hv:Qc t h a=some v)(hr:I7 (P6 h ks) 6 v=some d):Ws ks t h [a]=some d:=by simp only [Ws,Ss,hv,J9,hr]
theorem RY {h:C8}{ks:List D5}{k:D5}{b:Option Blk}(hm:k∈ks)(hb:h k=b):P6 h ks k=b:=by unfold P6;rw [l8 hm];exact hb
theorem Cz {h:C8}: ∀q∈([]:List D5),h q≠none:=by simp
theorem Ft {h:C8}{k:D5}{b:Blk}{ks:List D5}(hb:h k=some b)(hr: ∀q∈ks,h q≠none): ∀q∈k::ks,h q≠none:=by
  intro q hq
  rcases lP.1 hq with rfl|hq
  ·rw [hb];simp
  ·exact hr q hq
theorem Fj {l:List AV}:All2 AVle l l:=by
  induction l with
  |nil=>exact .nil
  |cons x r ih=>exact .cons (.refl x) ih
theorem Lx {a b x y:Nat}(h:(a==b)=false):((a,x):D5)≠(b,y):=by rintro ⟨⟩;simp at h
theorem nd1 {k:D5}: [k].Nodup:=by simp
theorem RZ {k k':D5}(h:k≠k'): [k,k'].Nodup:=by simp [h]
theorem V6 {k:D5}:k∉ ([]:List D5):=by simp
theorem IC {i d u:Nat}{ks:List D5}(h:Nat.blt d 900000=true)(hr:U3 i∉ks):U3 i∉ (d,u)::ks:=by
  simp only [lP,not_or]
  exact ⟨fun e=>LF h i e.symm,hr⟩
theorem Ly {l:List D}:All2 DLe l l:=by
  induction l with
  |nil=>exact .nil
  |cons x r ih=>exact .cons (.refl x) ih
end
end Go.Abs
namespace Go.Abs
open Go
theorem S4 {x d:Nat}{l:List Nat}(h:d∈l)(ha:(l.all fun a=> !(a==x))=true):(d==x)=false:=by
  have:=lT.1 ha d h
  simpa using this
theorem RM {k:D5}{r:Option Blk}: ∀(n:Nat) {l:List (D5×Option Blk)},((l.take n).all fun e=> !(k.1==e.1.1))=true→G (l.drop n) k=r→G l k=r
  |0,_,_,h2=>h2
  |n+1,[],_,h2=>h2
  |n+1,(i,b)::l,h1,h2=>by
   simp only [List.take_succ_cons,List.all_cons,bB]at h1
   exact A5 (by simpa using h1.1) (RM n h1.2 h2)
theorem Z5 {t:Nat→AV}: ∀{l:List (Nat×AV)},(l.map fun p=>t p.1)=l.map (fun p=>p.2)→RW t l
  | [],_=>trivial
  |(i,v)::l,h=>by
   rw [lM,lM,List.cons.injEq]at h
   exact ⟨.of h.1,Z5 h.2⟩
theorem Iz {x d:Nat}{l:List Nat}(h:d∈l)(ha:(l.all fun a=> !(x==a))=true):(x==d)=false:=by
  have:=lT.1 ha d h
  simpa using this
theorem P5 {d e:Nat}{l m:List Nat}(h:d∈l)(h':e∈m)(ha:(l.all fun a=>m.all fun b=> !(a==b))=true):(d==e)=false:=by
  have:=lT.1 (lT.1 ha d h) e h'
  simpa using this
theorem Zm {α:Type}(xs:List α)(k:D5):Dp (oS xs k)=some [oS xs k]:=by cases xs<;>rfl
def BC {α:Type}(t:Nat→AV)(f:α→List D)(sz:Nat):Nat→List (Nat×Nat×Opd)→List α→Prop
  |_,[],[]=>True
  |i,(off,m,x)::ps,a::as=>off=i*sz∧m=sz∧Dp (ev t x)=some ((f a).map .d)∧BC t f sz (i+1) ps as
  |_,_,_=>False
theorem LJ {α:Type}(pre post vs:List α)(h:vs.length≤post.length):Dz (pre++post) pre.length vs=pre++ (vs++post.drop vs.length):=by
  apply List.ext_getElem?
  intro i
  rw [Ao _ _ _ _ (by simp;omega)]
  by_cases h1:i<pre.length
  ·rw [l9 (by omega),lS h1,lS h1]
  ·rw [lR (by omega),lR (by omega)]
   by_cases h2:i<pre.length+vs.length
   ·rw [l8 (by omega),lS (by omega)]
   ·rw [l9 (by omega),lR (by omega),lV]
    congr 1;omega
theorem Wv {α:Type}{t:Nat→AV}{f:α→List D}{sz:Nat}(hf: ∀a,(f a).length=sz): ∀(as:List α) (ps:List (Nat×Nat×Opd)) (i:Nat) (pre post:List AV),pre.length=i*sz→post.length=as.length*sz→BC t f sz i ps as→
    In t (pre++post) ps=some (pre++ (as.flatMap f).map .d)
  | [],[],i,pre,post,_,hl,_=>by
    have:post= []:=lU (by simpa using hl)
    subst this;simp [In]
  | [],_::_,_,_,_,_,_,hp=>hp.elim
  |_::_,[],_,_,_,_,_,hp=>hp.elim
  |a::as,(off,m,x)::ps,i,pre,post,h1,h2,hp=>by
   obtain ⟨rfl,rfl,hc,hr⟩:=hp
   have hl:post.length=m+as.length*m:=by rw [h2,lJ,bM];omega
   have hv:((f a).map AV.d).length=m:=by simp [hf]
   simp only [In,hc,hv,true_and]
   rw [l8 (by simp [h1,hl]),← h1,LJ _ _ _ (by rw [hv,hl];omega),hv,← List.append_assoc]
   rw [Wv hf as ps (i+1) _ _ (by rw [lK,hv,h1,bM];omega) (by rw [List.length_drop,hl];omega) hr]
   simp
theorem Ww {α:Type}{f:α→List D}{sz:Nat}(hf: ∀a,(f a).length=sz): ∀as:List α,Fp sz as.length (as.flatMap f)=as.map f
  | []=>rfl
  |a::as=>by
   simp only [lJ,Fp,lX,lM]
   rw [List.take_left' (hf a),List.drop_left' (hf a),Ww hf as]
theorem Zn {α:Type}(z:List α): ∀n,(Ih z n).length=n*z.length
  |0=>by simp [Ih]
  |n+1=>by simp [Ih,Zn z n,bM];omega
theorem Zo: ∀l:List D,Dy (l.map .d)=some l
  | []=>rfl
  |x::r=>by simp [Dy,Zo r]
theorem ID {α:Type}{t:Nat→AV}{h:C8}{e sz n:Nat}{z:List D}{ps:List (Nat×Nat×Opd)}(f:α→List D)(xs:List α)(hf: ∀a,(f a).length=sz)(hz:z.length=sz)(hn:xs.length=n)(hp:BC t f sz 0 ps xs)(hm: ∀a,(f a).map nrm=f a):
    G6 t h (.dslice e sz n z ps)=some (.d (.list (xs.map f))):=by
  have:=Wv hf xs ps 0 [] ((Ih z n).map .d) (by simp) (by rw [lN,Zn,hz,hn]) hp
  simp only [lL]at this
  simp only [G6,this,lA,Zo,lE]
  rw [← hn,Sp,Ww hf,List.map_map,show ((fun x=>List.map nrm x)∘f)=f from funext hm]
/-- A key put into a set. -/
def UJ (ks:List Int)(n:Int):List Int:=if n∈ks then ks else ks++ [n]
theorem DLe.bp {xs ys:List D}{off:Nat}(h:All2 (fun x y=>DLe x y∧y.one=true) xs ys):DLe (.bp xs off) (.bp ys off):=by
  intro w I v hv
  cases hv with
  |bp _ _ g vs ty fz hI hg hl hone hr=>
   refine .bp ys off g vs ty fz hI hg (by rw [← h.length];exact hl) (fun i d hi=> ?_) (fun i d hi=> ?_)
   ·obtain ⟨a,_,h2⟩:=h.get hi;exact h2.2
   ·obtain ⟨a,h1,h2⟩:=h.get hi;exact h2.1 _ _ _ (hr i a h1)
section
variable {P:Program}{u:Nat}{r:List AOp}{l:List (Nat×AV)}{g:List (D5×Option Blk)}{t:Nat→AV}{h:C8}
/-- Any number of elements behind a slice of the run's own, or behind nil. -/
theorem Zp {K:(Nat→AV)→C8→Prop}{α:Type}{d e sz:Nat}{ty:TypeId}{x y:Opd}(f:α→List D)(k:D5)(xs ys zs:List α)(hy:S3 (G g) sz (ev (T l) y)=some (ys.map f))(hx:ev (T l) x=oS xs k)(hb:G g k=oB e sz f xs)(hl:Q8 xs ys=some zs)(hn:G g (d,u)=none)
    (hk:H9 P u r (T ((d,oS zs (d,u))::l)) (G (((d,u),oB e sz f zs)::(k,none)::g)) K):H9 P u (⟨some d, .append ty e sz x y,none⟩::r) (T l) (G g) K:=by
  cases ys with
  |cons v ys=>
   refine J0 f k xs v ys zs hy hx hb hl ?_
   rw [Z8 (k:=(d,u)) (N1 hl),KV (N1 hl)]at hk
   exact hk
  |nil=>
   obtain ⟨h1,rfl⟩:=Ad hl
   cases xs with
   |nil=>
    have hy':S3 (G g) sz (ev (T l) y)=some []:=hy
    have hx':ev (T l) x= .d .nilS:=hx
    unfold H9
    simp only [gW,Pi,Cj,hy',hx',L0]
    have e0:G (((d,u),oB e sz f ([]:List α))::(k,none)::g)=G g:=by
      funext q
      rw [G,G]
      by_cases e1:q=(d,u)
      ·subst e1;rw [l8 rfl,hn];rfl
      ·rw [l9 e1]
       by_cases e2:q=k
       ·subst e2;rw [l8 rfl,hb];rfl
       ·rw [l9 e2]
    rw [← e0]
    exact hk
   |cons x0 xs=>
    refine Cw f k (x0::xs) [] _ hy hx hb hl ?_
    exact hk
end
end Go.Abs
namespace Go.Abs
open Go
/-! ### Functions that can be computed, and what they say of the plain ones -/
/-- What the one gives, the other one gives. -/
class Le {α:Type} (x y:Option α):Prop where
  out: ∀r,x=some r→y=some r
section
variable {α β γ σ τ:Type}
instance {x y:Option α}:CoeFun (Le x y) (fun _=> ∀r,x=some r→y=some r):=⟨fun h=>h.out⟩
instance (priority:=low) Le.refl (x:Option α):Le x x:=⟨fun _ h=>h⟩
instance Le.bind {x y:Option α}{f g:α→Option β}[h:Le x y][hf: ∀v,Le (f v) (g v)]:Le (x.bind f) (y.bind g):=by
  refine ⟨fun r hr=> ?_⟩
  cases x with
  |none=>cases hr
  |some v=>rw [h v rfl];exact hf v r hr
instance Le.cond {b:Bool}{x y x' y':Option α}[h:Le x x'][h':Le y y']:Le (cond b x y) (cond b x' y'):=by cases b<;>assumption
instance Le.ite {p:Prop}[Decidable p]{x y x' y':Option α}[h:Le x x'][h':Le y y']:Le (if p then x else y) (if p then x' else y'):=by split<;>assumption
instance Le.thenS {x x':Option (Sum σ β)}{f f':σ→Option γ}{g g':β→Option γ}[h:Le x x'][hf: ∀v,Le (f v) (f' v)][hg: ∀v,Le (g v) (g' v)]:Le (thenS x f g) (thenS x' f' g'):=by
  refine ⟨fun r hr=> ?_⟩
  cases x with
  |none=>cases hr
  |some v=>rw [h v rfl];cases v<;>first|exact hf _ r hr|exact hg _ r hr
/-- Loops that the kernel runs. -/
@[reducible] def Bc:Lp:=⟨fun f s=>loopN f 100000 s⟩
theorem Le.loopN {f f':σ→Option (Stp σ τ)}(h: ∀s,Le (f s) (f' s)): ∀(n:Nat) (s:σ),Le (loopN f n s) (loopN f' n s)
  |0,s=>⟨fun r hr=>by cases hr⟩
  |n+1,s=>⟨fun r hr=>by
   rw [Abs.loopN]at hr ⊢
   cases hf:f s with
   |none=>rw [hf]at hr;cases hr
   |some x=>
    rw [hf]at hr
    rw [h s x hf]
    cases x with
    |go s'=>exact Le.loopN h n s' r hr
    |out t=>exact hr⟩
instance Le.loop {f f':σ→Option (Stp σ τ)}[h: ∀s,Le (f s) (f' s)](s:σ):Le (@loop _ _ Bc f s) (loop f' s):=⟨fun r hr=>loop_some.2 ⟨_,Le.loopN h _ s r hr⟩⟩
theorem Le.loopLh {f f':σ→α→Option (Stp σ τ)}{e:σ→τ}(h: ∀s a,Le (f s a) (f' s a)): ∀(l:List α) (s:σ),Le (loopL f e l s) (loopL f' e l s)
  | [],s=>⟨fun r hr=>hr⟩
  |a::l,s=>⟨fun r hr=>by
   rw [Abs.loopL]at hr ⊢
   cases hf:f s a with
   |none=>rw [hf]at hr;cases hr
   |some x=>
    rw [hf]at hr
    rw [h s a x hf]
    cases x with
    |go s'=>exact Le.loopLh h l s' r hr
    |out t=>exact hr⟩
instance Le.loopL {f f':σ→α→Option (Stp σ τ)}{e:σ→τ}[h: ∀s a,Le (f s a) (f' s a)](l:List α)(s:σ):Le (loopL f e l s) (loopL f' e l s):=Le.loopLh h l s
end
end Go.Abs
/-! Short names for what the generated proofs use most. -/
namespace Go.Abs
open Go
abbrev oo (d:Nat)(k:AK):AOp:=⟨some d,k,none⟩
abbrev og (d:Nat)(k:AK)(j:Nat):AOp:=⟨some d,k,some (j,true)⟩
abbrev oh (d:Nat)(k:AK)(j:Nat):AOp:=⟨some d,k,some (j,false)⟩
abbrev oe (k:AK):AOp:=⟨none,k,none⟩
abbrev ci (n:Int):Opd:= .c (.v (.int .i64 n))
abbrev cf (n:Nat):Opd:= .c (.fn (.func n) [] [])
abbrev z0:D:= .v (.int .i64 0)
abbrev zf:D:= .v (.bool false)
abbrev di (n:Int):AV:= .d (.v (.int .i64 n))
abbrev db (b:Bool):AV:= .d (bo b)
abbrev dl {α:Type}(e:α→List D)(xs:List α):AV:= .d (.list (List.map e xs))
/-- What lies at the first key with this number. -/
def gl:List (D5×Option Blk)→Nat→Option (D5×Option Blk)
  | [],_=>none
  |(k,b)::l,d=>cond (Nat.beq k.1 d) (some (k,b)) (gl l d)
theorem LK {b:Option Blk}{k:D5}: ∀{g:List (D5×Option Blk)},gl g k.1=some (k,b)→G g k=b
  | [],h=>by cases h
  |(q,c)::l,h=>by
   unfold gl at h
   cases e:Nat.beq q.1 k.1
   ·rw [e,l7]at h
    have ne:k≠q:=by rintro rfl;simp at e
    rw [G,l9 ne];exact LK h
   ·rw [e,l6]at h
    simp only [Option.some.injEq,Prod.mk.injEq]at h
    obtain ⟨rfl,rfl⟩:=h
    exact G_hit
theorem gq {d u:Nat}{b:Option Blk}{g:List (D5×Option Blk)}(h:gl g d=some ((d,u),b)):G g (d,u)=b:=LK h
theorem CY {l:List (Nat×AV)}: ∀{l0:List (Nat×AV)},l0.map (fun p=>(p.1,T l p.1))=l0→RW (T l) l0
  | [],_=>trivial
  |(i,v)::r,h=>by
   simp only [lM,List.cons.injEq,Prod.mk.injEq,true_and]at h
   exact ⟨.of h.1,CY h.2⟩
theorem CZ {g:List (D5×Option Blk)}: ∀{g0:List (D5×Option Blk)},g0.map (fun p=>gl g p.1.1)=g0.map some→Ve (G g) g0
  | [],_=>trivial
  |(k,b)::r,h=>by
   simp only [lM,List.cons.injEq]at h
   refine ⟨?_,CZ h.2⟩
   cases b with
   |none=>trivial
   |some b=>exact ⟨b,LK h.1, .refl b⟩
theorem D9 {l l0:List (Nat×AV)}{g g0:List (D5×Option Blk)}(h1:l0.map (fun p=>(p.1,T l p.1))=l0)(h2:g0.map (fun p=>gl g p.1.1)=g0.map some):Sb ⟨T l0,G g0⟩ ⟨T l,G g⟩:=D3 (CY h1) (CZ h2)
theorem nl {a b:Nat}(h:Nat.ble a b=true):a≤b:=Nat.le_of_ble_eq_true h
theorem bs {α β:Type}{o:Option α}{f:α→Option β}{r:β}{Q:Prop}(h:o.bind f=some r)(k: ∀v,o=some v→f v=some r→Q):Q:=by
  cases o with
  |none=>cases h
  |some v=>exact k v rfl h
theorem js {σ β γ:Type}{x:Option (Sum σ β)}{f:σ→Option γ}{g:β→Option γ}{r:γ}{Q:Prop}(h:thenS x f g=some r)(k: ∀y,x=some y→Sum.elim f g y=some r→Q):Q:=by
  obtain ⟨y,h1,h2⟩:=FL h
  exact k y h1 h2
section
variable {P:Program}{N u:Nat}{rk:Option D5}{aops:List AOp}{r:List It}{l:List (Nat×AV)}{g:List (D5×Option Blk)}{K:(Nat→AV)→C8→Prop}{Q:Ex→St→Prop}{s:St}
theorem cc {α:Type}{o:Opd}{a b:AC}{c:Bool}{x y z:α}(hc:ev s.t o= .d (.v (.bool c)))(h:cond c x y=z)(h1:c=true→x=z→Dj P N rk (.c a::r) Q .nrm s)(h2:c=false→y=z→Dj P N rk (.c b::r) Q .nrm s):Dj P N rk (.c (.cond o a b)::r) Q .nrm s:=
  QM c hc (fun e=>h1 e (G7 e h)) (fun e=>h2 e (QN e h))
theorem sd {d:Nat}{k:AK}{v:D}(h0:Q4 k=0)(hv:G6 (T l) (G g) k=some (.d v))(hk:H9 P u aops (T ((d, .d v)::l)) (G g) K):H9 P u (⟨some d,k,none⟩::aops) (T l) (G g) K:=B6 (.d v) h0 hv hk
theorem sp {d:Nat}{k:AK}{q:D5}{n:Nat}(h0:Q4 k=0)(hv:G6 (T l) (G g) k=some (.ptr q n))(hk:H9 P u aops (T ((d, .ptr q n)::l)) (G g) K):H9 P u (⟨some d,k,none⟩::aops) (T l) (G g) K:=B6 (.ptr q n) h0 hv hk
theorem sq {d:Nat}{k:AK}{q:D5}{n:Nat}(hv:((Q4 k,G6 (T l) (G g) k):Nat×Option AV)=(0,some (.ptr q n)))(hk:H9 P u aops (T ((d, .ptr q n)::l)) (G g) K):H9 P u (⟨some d,k,none⟩::aops) (T l) (G g) K:=B6 (.ptr q n) (congrArg Prod.fst hv) (congrArg Prod.snd hv) hk
theorem sm {d ty:Nat}{k:AK}{q:D5}{n:Nat}{cs:List AV}(hv:((Ji k,Iq u d (T l) k):Bool×Option (AV×Blk))=(true,some (.ptr q n, .box ty cs)))(hk:H9 P u aops (T ((d, .ptr q n)::l)) (G (((d,u),some (.box ty cs))::g)) K):H9 P u (⟨some d,k,none⟩::aops) (T l) (G g) K:=Tz _ _ (congrArg Prod.fst hv) (congrArg Prod.snd hv) hk
theorem sn {d ty:Nat}{k:AK}{q:D5}{n:Nat}{cs:List AV}(h0:Ji k=true)(hv:Iq u d (T l) k=some (.ptr q n, .box ty cs))(hk:H9 P u aops (T ((d, .ptr q n)::l)) (G (((d,u),some (.box ty cs))::g)) K):H9 P u (⟨some d,k,none⟩::aops) (T l) (G g) K:=Tz _ _ h0 hv hk
theorem gv {d j:Nat}{b w:Bool}{k:AK}{v:D}(h0:Q4 k=0)(hg:ON (T l j) b w)(hv:w=true→G6 (T l) (G g) k=some (.d v))(hk:H9 P u aops (T ((d,gd w true (.d v))::l)) (G g) K):H9 P u (⟨some d,k,some (j,b)⟩::aops) (T l) (G g) K:=S6 w (.d v) h0 hg hv hk
theorem sv {d:Nat}{k:AK}{v:D}(hv:((Q4 k,G6 (T l) (G g) k):Nat×Option AV)=(0,some (.d v)))(hk:H9 P u aops (T ((d, .d v)::l)) (G g) K):H9 P u (⟨some d,k,none⟩::aops) (T l) (G g) K:=B6 (.d v) (congrArg Prod.fst hv) (congrArg Prod.snd hv) hk
theorem ss {d:Nat}{k:AK}{q:D5}(hv:((Q4 k,G6 (T l) (G g) k):Nat×Option AV)=(0,some (.sl q)))(hk:H9 P u aops (T ((d, .sl q)::l)) (G g) K):H9 P u (⟨some d,k,none⟩::aops) (T l) (G g) K:=B6 (.sl q) (congrArg Prod.fst hv) (congrArg Prod.snd hv) hk
theorem sl {d n off:Nat}{p:Opd}{q:D5}{ty:TypeId}{cs:List AV}{v:D}(hp:ev (T l) p= .ptr q off)(hb:G g q=some (.box ty cs))(hv:(cs.drop off).head? =some (.d v))(hk:H9 P u aops (T ((d, .d v)::l)) (G g) K):H9 P u (⟨some d, .load n false p,none⟩::aops) (T l) (G g) K:=B6 (.d v) rfl (M1 hp hb hv) hk
theorem U1 {n:Nat}{p x:Opd}{k:D5}{off:Nat}{ty:TypeId}{bs cs:List AV}(hx:((Dp (ev (T l) x),cs.length,ev (T l) p):Option (List AV)×Nat×AV)=(some cs,n, .ptr k off))(hb:G g k=some (.box ty bs))(bs':List AV)(he:((Dz bs off cs,Nat.ble (off+n) bs.length):List AV×Bool)=(bs',true))
    (hk:H9 P u aops (T l) (G ((k,some (.box ty bs'))::g)) K):H9 P u (⟨none, .store n p x,none⟩::aops) (T l) (G g) K:=by
  simp only [Prod.mk.injEq]at hx he
  exact Z4 _ _ _ _ _ hx.1 hx.2.1 hx.2.2 hb (Nat.le_of_ble_eq_true he.2) bs' he.1 hk
theorem gp {d j:Nat}{b w:Bool}{k:AK}{q:D5}{n:Nat}(h0:Q4 k=0)(hg:ON (T l j) b w)(hv:w=true→G6 (T l) (G g) k=some (.ptr q n))(hk:H9 P u aops (T ((d,gd w true (.ptr q n))::l)) (G g) K):H9 P u (⟨some d,k,some (j,b)⟩::aops) (T l) (G g) K:=S6 w (.ptr q n) h0 hg hv hk
theorem gt {d j:Nat}{w:Bool}{k:AK}{v:D}(hg:((Q4 k,T l j):Nat×AV)=(0, .d (bo w)))(hv:w=true→G6 (T l) (G g) k=some (.d v))(hk:H9 P u aops (T ((d,gd w true (.d v))::l)) (G g) K):H9 P u (⟨some d,k,some (j,true)⟩::aops) (T l) (G g) K:=S6 w (.d v) (congrArg Prod.fst hg) (I9 (congrArg Prod.snd hg)) hv hk
theorem gf {d j:Nat}{w:Bool}{k:AK}{v:D}(hg:((Q4 k,T l j):Nat×AV)=(0, .d (bo w)))(hv:(!w)=true→G6 (T l) (G g) k=some (.d v))(hk:H9 P u aops (T ((d,gd (!w) true (.d v))::l)) (G g) K):H9 P u (⟨some d,k,some (j,false)⟩::aops) (T l) (G g) K:=S6 (!w) (.d v) (congrArg Prod.fst hg) (K1 (congrArg Prod.snd hg)) hv hk
theorem sa {d j x:Nat}{c q:Bool}{yo:Opd}(hj:ev (T l) (.t j)= .d (bo c))(hx:ev (T l) (.t x)=gd c true (.d (bo q)))(hy:ev (T l) yo= .d (bo false))(hk:H9 P u aops (T ((d, .d (bo (c&&q)))::l)) (G g) K):H9 P u (⟨some d, .pick (.t j) (.t x) yo,none⟩::aops) (T l) (G g) K:=B6 _ rfl (GS hj (fun hc=>by rw [hx,A2 hc]) hy) hk
theorem lr {a:AC}(h: ∀u,(∀k,G g k≠none→k.2≠u)→H9 P u aops (T l) (G g) fun t h=>Dj P N rk (.c a::r) Q .nrm ⟨t,h⟩):Dj P N rk (.c (.seq (.reg aops) a)::r) Q .nrm ⟨T l,G g⟩:=A4 (O8 h)
theorem B8 {a:AC}(h: ∀{u:Nat} {_: ∀k,G g k≠none→k.2≠u},H9 P u aops (T l) (G g) fun t h=>Dj P N rk (.c a::r) Q .nrm ⟨t,h⟩):Dj P N rk (.c (.seq (.reg aops) a)::r) Q .nrm ⟨T l,G g⟩:=lr fun u hu=> @h u hu
theorem B5 (h: ∀{u:Nat} {_: ∀k,G g k≠none→k.2≠u},H9 P u aops (T l) (G g) fun t h=>Dj P N rk r Q .nrm ⟨t,h⟩):Dj P N rk (.c (.reg aops)::r) Q .nrm ⟨T l,G g⟩:=O8 fun u hu=> @h u hu
theorem N2 (hn:RQ aops=true)(h: ∀{u:Nat} {_: ∀k,G g k≠none→k.2≠u},H9 P u aops (T l) (G g) fun t h=>Dj P N rk r Q .nrm ⟨t,h⟩):Dj P N rk (.c (.draw aops [])::r) Q .nrm ⟨T l,G g⟩:=Hf hn fun u hu=> @h u hu
end
section
variable {t:Nat→AV}{h:C8}
theorem vb {op:BinOp}{x y:Opd}{k:IntKind}{a b:Int}{v:Value}{w:Bool}(hx:ev t x=gd w true (.d (.v (.int k a))))(hy:ev t y= .d (.v (.int k b)))(hr:AD op k a b=some v)(hw:w=true):G6 t h (.bin op x y)=some (.d (.v v)):=
  H5 (by rw [hx,A2 hw]) hy hr
theorem vl {n:Nat}{p:Opd}{k:D5}{off:Nat}{ty:TypeId}{bs:List AV}{v:AV}{w:Bool}(hp:ev t p=gd w true (.ptr k off))(hb:h k=some (.box ty bs))(hv:(bs.drop off).head? =some v)(hw:w=true):G6 t h (.load n false p)=some v:=M1 (by rw [hp,A2 hw]) hb hv
end
end Go.Abs
/-! Own memory among what a call hands out: slices that may be empty. -/
namespace Go.Abs
open Go
/-- A slice of the run's own, or one of nothing. -/
def oE {α:Type}(xs:List α)(k:D5):AV:=match xs with
  | []=> .d (.list [])
  |_=> .sl k
theorem HB {α:Type}{k:D5}{xs:List α}(h:xs≠ []):oE xs k= .sl k:=by cases xs<;>first|exact absurd rfl h|rfl
theorem oB_ren {α:Type}{ty:TypeId}{sz:Nat}{e:α→List D}{xs:List α}{f:D5→D5}:(oB ty sz e xs).map (Ez f)=oB ty sz e xs:=by cases xs<;>rfl
theorem IE {α:Type}(xs:List α)(k:D5):Dp (oE xs k)=some [oE xs k]:=by cases xs<;>rfl
section
variable {t:Nat→AV}{h:C8}
theorem LL {α:Type}{sz:Nat}{x i:Opd}{f:α→List D}{q:D5}{ty:TypeId}{xs:List α}{k:IntKind}{n:Int}{a:α}(hx:ev t x=oE xs q)(hi:ev t i= .d (.v (.int k n)))(hb:h q=oB ty sz f xs)(hv:E6 xs n=some a):G6 t h (.idxS sz x i)=some (.aptr q sz n.toNat 0):=
  Wl (hx.trans (HB (Ht hv))) hi (AZ hb (Ht hv)) hv
theorem QV {α:Type}{x:Opd}{f:α→List D}{q:D5}{ty:TypeId}{sz:Nat}{xs:List α}(hx:ev t x=oE xs q)(hb:h q=oB ty sz f xs):G6 t h (.len x)=some (.d (i64 xs.length)):=by
  cases xs with
  |nil=>simp only [G6,hx,oE,List.length_nil]
  |cons a xs=>exact Eb (f:=f) hx hb
theorem SA {α:Type}{n:Nat}{k:D5}{ty:TypeId}{sz:Nat}{f:α→List D}{xs:List α}(hb:h k=oB ty sz f xs):I7 h (n+1) (oE xs k)=some (.list (xs.map f)):=by
  cases xs with
  |nil=>rfl
  |cons x xs=>exact Mm hb
end
/-- What hands out data hands out no memory. -/
theorem MCall.ofP {P:Program}{f:FuncId}{ds:List D}{r:D}(hp:PCall P f ds r):MCall P f (ds.map .d) [] (.d r) [] [none]:=by
  refine ⟨by simp [PT,TF,QS,OP],hp.1,fun w I ρ vs H hlen hrep=> ?_⟩
  refine (hp.2 w I vs H.ilt (by simpa using hlen) (fun i d hi=> ?_)).mono ?_
  ·have:=hrep i (.d d) (by rw [lI,hi];rfl)
   cases this with|d _ _ h=>exact h
  rintro e w' ⟨x,I',rfl,hr,tr⟩
  have hno: ∀g,¬own ρ (G (Pc 0 [])) g:=by rintro g ⟨k,b,h1,_⟩;cases h1
  have H2:HeapOK w' I' ρ (G (Pc 0 [])):=H.keep (fun g hg=>absurd hg (hno g)) (fun b hb=>tr.frame b (H.ilt b hb)) tr.imm (fun g hg=>absurd hg (hno g)) tr.ilt (fun _ _ h=>h) tr.size H.fresh H.rone
  refine ⟨x, .d r,I',ρ,G (Pc 0 []),rfl, .d _ _ hr,H2,⟨tr.os,tr.tape,tr.output,tr.size,fun b hb _=>tr.frame b hb,tr.imm,fun b hb hl=> .inl (tr.immBack b hb hl),fun b hb _=>hb,fun _ _ h=>h⟩,fun j=>LC j,rfl,fun i b hb=>by simp at hb,fun j b hb=> ?_,fun j hj i hi=>absurd hi (by simp),fun j j' hj hj' e=> ?_⟩
  ·cases j<;>simp at hb
  ·simp only [lJ,List.length_nil]at hj hj'
   omega
theorem AVle.tup {xs ys:List AV}(h:All2 AVle xs ys):AVle (.tup xs) (.tup ys):=by
  intro w I ρ v hv
  cases hv with
  |tup _ vs hl hr=>
   refine .tup _ vs (h.length▸hl) (fun i c hc=> ?_)
   obtain ⟨a,e1,e2⟩:=h.get hc
   exact e2 _ _ _ _ (hr i a e1)
theorem Lz {α:Type}{u S j:Nat}{f:D5→D5}{ty:TypeId}{sz:Nat}{e:α→List D}{xs:List α}{r:List (Option Blk)}{L:List (D5×Option Blk)}(h:Nt u S f (j+1) r=L):Nt u S f j (oB ty sz e xs::r)=((S+j,u),oB ty sz e xs)::L:=by
  rw [Nt,oB_ren,h]
theorem Zq {P:Program}{u:Nat}{l:List (Nat×AV)}{g:List (D5×Option Blk)}{S:Nat}{f:Opd}{args:List Opd}{fid:FuncId}{avs avs0:List AV}{pre:List Blk}{v v':AV}{post:List (Option Blk)}{new:List (Option Blk)}(hM:MCall P fid avs0 pre v post new)(κs ks us:List D5)(g':List (D5×Option Blk))
    (hc:O5 (T l) f args=some (fid,avs)) (hle:All2 AVle avs (avs0.map (Yf (R5 (Cy κs) (Cy κs))))) (hks:avs.flatMap (M7 (G g) 6)=ks) (hlive: ∀q∈ks,G g q≠none)
    (hpre:IA (G g) κs (pre.map (Ez (R5 (Cy κs) (Cy κs))))) (hsub: ∀k∈κs,k∈ks) (hnd:κs.Nodup) (hv:BB (R5 (Cy κs) fun j=>(S+j,u)) v=v')
    (hus:(Ke (Cy κs) (R5 (Cy κs) fun j=>(S+j,u)) 0 post++Nt u S (R5 (Cy κs) fun j=>(S+j,u)) 0 new).map (·.1)=us) {L:List (D5×Option Blk)} (hL:Nt u S (R5 (Cy κs) fun j=>(S+j,u)) 0 new=L)
    (hg:L0 (G g) (Ke (Cy κs) (R5 (Cy κs) fun j=>(S+j,u)) 0 post++L)=G g'):OC P u l g S f args v' ks us g':=
  FO hM κs ks us g' hc hle hks hlive hpre hsub hnd hv hus (by rw [hL];exact hg)
theorem O0 {d u:Nat}(h:(Nat.blt d 900000||Nat.blt 901000 d)=true){i:Nat}(hi:i<1000):(d,u)≠U3 i:=by
  simp only [bC,Nat.blt_eq]at h
  intro e
  simp only [U3,Prod.mk.injEq]at e;omega
theorem P0 {n:Nat}{v v1:AV}{post new:List (Option Blk)}{h:C8}(σs:List D5)(hv:v1=BB (R5 U3 (Cy σs)) v)(hpost:HA h (R5 U3 (Cy σs)) 0 post)(hnew:OT h (R5 U3 (Cy σs)) σs new)
    (hl:(σs.length,Nat.ble n 1000)=(new.length,true)) (hd: ∀k∈σs,∀i,i<1000→k≠U3 i) (hnd:σs.Nodup):Rl n v post new v1 h:=by
  simp only [Prod.mk.injEq,Nat.ble_eq]at hl
  have hget: ∀j,j<new.length→Cy σs j∈σs:=by
    intro j hj
    simp only [Cy,List.getD,lG (show j<σs.length by omega),Option.getD_some]
    exact List.getElem_mem _
  refine ⟨Cy σs,hv,fun i b hb=> ?_,fun j b hb=>Wq hnew hb,fun j hj i hi=>hd _ (hget j hj) i (by omega),fun j j' hj hj' e=> ?_⟩
  ·have:=Sz hpost hb
   rwa [bN]at this
  ·simp only [Cy,List.getD,lG (show j<σs.length by omega),lG (show j'<σs.length by omega),Option.getD_some]at e
   exact Sy hnd (by omega) (by omega) e
end Go.Abs
/-! Own memory becomes data, wherever that is wanted. -/
namespace Go.Abs
open Go
/-- A value, where the blocks at some keys have become data (h holds these). -/
def SX (h:C8)(x y:AV):Prop:=AVle x y∨∃d d',I7 h 6 x=some d∧DLe d d'∧y= .d d'
def SB (h:C8)(ks:List D5)(k:D5)(b:Blk):Prop:=k∉ks∧∃b0,h k=some b0∧(b0=b∨∃ty cs cs',b0= .box ty cs∧b= .box ty cs'∧All2 (SX (P6 h ks)) cs cs')
def SY (I:Nat→Prop)(ρ:Rho)(h:C8)(ks:List D5):Nat→Prop:=fun b=>I b∨own ρ (P6 h ks) b
section
variable {w:World}{I:Nat→Prop}{ρ:Rho}{h:C8}{ks:List D5}
theorem Gn {q:D5}{b:Blk}(hq:P6 h ks q=some b):h q=some b∧q∈ks:=by
  have:(if q∈ks then h q else none)=some b:=hq
  split at this
  ·exact ⟨this,‹_›⟩
  ·cases this
theorem OV (H:HeapOK w I ρ h){x y:AV}{v:Value}(hf:SX (P6 h ks) x y)(hx:RepV w I ρ x v):RepV w (SY I ρ h ks) ρ y v:=by
  rcases hf with q|⟨d,d',h1,h2,rfl⟩
  ·exact (q _ _ _ _ hx).keep (fun _ _=>rfl) (fun _ h=> .inl h) (fun _ _ h=>h)
  ·have Hk:=H.sub fun q b hq=>(Gn (ks:=ks) hq).1
   exact .d _ _ (h2 _ _ _ (Fr Hk 6 x d v hx h1))
theorem Rn {k:D5}{b b0:Blk}(q:b0=b∨∃ty cs cs',b0= .box ty cs∧b= .box ty cs'∧All2 (SX (P6 h ks)) cs cs'):J1 ρ k b=J1 ρ k b0:=by
  rcases q with rfl|⟨ty,cs,cs',rfl,rfl,_⟩<;>rfl
theorem OW (H:HeapOK w I ρ h){h':C8}(hh: ∀k b,h' k=some b→SB h ks k b):HeapOK w (SY I ρ h ks) ρ h':=by
  have Hk:=H.sub fun q b hq=>(Gn (ks:=ks) hq).1
  refine ⟨fun k b hb=> ?_,fun k k' b b' g h1 h2 h3 h4=> ?_,fun k b g h1 h2 hi=> ?_,fun k b g h1 h2=> ?_,fun b hb=> ?_,H.fresh,H.rone⟩
  ·obtain ⟨_,b0,e1,rfl|⟨ty,cs,cs',rfl,rfl,ha⟩⟩:=hh k b hb
   ·exact (H.blk k b0 e1).keep (fun _ _=>rfl) (fun _ _=>rfl) (fun _ h=> .inl h) (fun _ _ h=>h)
   ·obtain ⟨g,vs,b1,b2,b3,b4,b5⟩:=H.blk k _ e1
    refine ⟨g,vs,b1,b2,by rw [← ha.length];exact b3,b4,fun i c hc=> ?_⟩
    obtain ⟨x,g1,g2⟩:=ha.get hc
    exact OV H g2 (b5 i x g1)
  ·obtain ⟨_,b0,e1,q⟩:=hh k b h1
   obtain ⟨_,b1,e2,q'⟩:=hh k' b' h2
   rw [Rn q]at h3
   rw [Rn q']at h4
   exact H.sep k k' b0 b1 g e1 e2 h3 h4
  ·obtain ⟨n,b0,e1,q⟩:=hh k b h1
   rw [Rn q]at h2
   rcases hi with hi|⟨k',b',e2,e3⟩
   ·exact H.notI k b0 g e1 h2 hi
   ·obtain ⟨e4,e5⟩:=Gn e2
    have:=H.sep k k' b0 b' g e1 e4 h2 e3
    subst this
    exact n e5
  ·obtain ⟨n,b0,e1,q⟩:=hh k b h1
   rw [Rn q]at h2
   exact H.lt k b0 g e1 h2
  ·rcases hb with hb|hb
   ·exact H.ilt b hb
   ·exact Hk.own_lt hb
theorem QW {h':C8}(hh: ∀k b,h' k=some b→SB h ks k b){g:Nat}(ho:own ρ h' g):own ρ h g:=by
  obtain ⟨k,b,h1,h2⟩:=ho
  obtain ⟨_,b0,e1,q⟩:=hh k b h1
  exact ⟨k,b0,e1,by rw [← Rn q];exact h2⟩
theorem SC {h':C8}(hh: ∀k b,h' k=some b→SB h ks k b):Tr w I ρ h w (SY I ρ h ks) ρ h':=
  ⟨rfl,rfl,rfl,bK _,fun _ _ _=>rfl,fun _ h=> .inl h,fun _ hb _=>hb.imp id fun ⟨k,c,a1,a2⟩=>⟨k,c,(Gn a1).1,a2⟩,fun _ hb _=>QW hh hb,fun _ _ h=>h⟩
end
section
variable {P:Program}{N:Nat}{rk:Option D5}{s:St}{Q:Ex→St→Prop}
end
def UK (h:C8)(t:Nat→AV):List (Nat×AV)→Prop
  | []=>True
  |(i,v)::r=>SX h (t i) v∧UK h t r
def UL (h:C8)(ks:List D5):List (D5×Option Blk)→Prop
  | []=>True
  |(k,b)::r=>(match b with|some b=>SB h ks k b|none=>True)∧UL h ks r
section
variable {P:Program}{N:Nat}{rk:Option D5}{r:List It}{Q:Ex→St→Prop}{l:List (Nat×AV)}{g:List (D5×Option Blk)}
end
theorem BD {k:D5}:k∉ ([]:List D5):=by simp
theorem Ot {k q:D5}{ks:List D5}(h:k≠q)(hr:k∉ks):k∉q::ks:=by simp [h,hr]
/-- What is handed in becomes data, and what is handed out is the run's own. -/
theorem FCall.fr {P:Program}{u S:Nat}{f:FuncId}{avs:List AV}{ds ds':List D}{v:AV}{ups:List (D5×Option Blk)}{h0:C8}(hF:FCall P u S f (ds'.map .d) (fun _=>none) v ups)(hd:J9 (I7 h0 6) avs=some ds)(hle:All2 DLe ds ds')(_hu: ∀k∈ups.map (·.1),∃j,j<6∧k=(S+j,u)):
    FCall P u S f avs (P6 h0 (avs.flatMap (M7 h0 6))) v ((avs.flatMap (M7 h0 6)).map (fun k=>(k,none))++ups):=by
  refine ⟨hF.1,fun w I ρ h vs H hh hlen hrep hfr=> ?_⟩
  have hlive:=Tt avs ds hd
  have heq: ∀q∈avs.flatMap (M7 h0 6),h q=h0 q:=by
    intro q hq
    cases hb:h0 q with
    |none=>exact absurd hb (hlive q hq)
    |some b=>exact hh q b (by unfold P6;rw [l8 hq,hb])
  have hd':J9 (I7 h 6) avs=some ds:=by rw [← hd];exact Ls avs heq
  rw [← Ts avs heq]
  clear hd hh heq hlive
  generalize hks:avs.flatMap (M7 h 6)=ks at*
  let hf:C8:=fun q=>if q∈ks then none else h q
  have hff: ∀k b,hf k=some b→SB h ks k b:=by
    intro q b hq
    have:(if q∈ks then none else h q)=some b:=hq
    split at this
    ·cases this
    ·exact ⟨‹_›,b,this, .inl rfl⟩
  have hU:L0 h (ks.map fun k=>(k,none))=hf:=by
    funext q
    show _=if q∈ks then none else h q
    by_cases e:q∈ks
    ·rw [l8 e]
     cases hb:L0 h (ks.map fun k=>(k,none)) q with
     |none=>rfl
     |some b=>
      rcases Sx _ _ _ _ hb with ⟨a,_⟩|a
      ·exact absurd (by simp only [List.map_map,List.mem_map,Function.comp];exact ⟨q,e,rfl⟩) a
      ·simp at a
    ·rw [l9 e,Bb]
     simp only [List.map_map,List.mem_map,Function.comp]
     rintro ⟨x,hx,rfl⟩
     exact e hx
  have hUU: ∀(a b:List (D5×Option Blk)) (h:C8),L0 h (a++b)=L0 (L0 h a) b:=by
    intro a
    induction a with
    |nil=>intro b h;rfl
    |cons x a ih=>intro b h;obtain ⟨k,c⟩:=x;exact ih b _
  have H1:=OW (ks:=ks) H hff
  have hk:J9 (I7 (P6 h ks) 6) avs=some ds:=by
    rw [← hd']
    refine Ls avs fun q hq=> ?_
    rw [hks]at hq
    show (if q∈ks then h q else none)=h q
    rw [l8 hq]
  obtain ⟨l1,l2⟩:=Ck hk
  have Hk:=H.sub fun q b hq=>(Gn (ks:=ks) hq).1
  refine (hF.2 w (SY I ρ h ks) ρ hf vs H1 (fun q b hq=>by cases hq) (by rw [lN,← hle.length];omega) (fun i c hc=> ?_) hfr).mono ?_
  ·obtain ⟨d',e1,rfl⟩:=Vc hc
   obtain ⟨d,e2,e3⟩:=hle.get e1
   obtain ⟨x,e4,e5⟩:=l2 i d e2
   exact .d _ _ (e3 _ _ _ (Fr Hk 6 x d _ (hrep i x e4) e5))
  rintro e w' ⟨x,I',ρ',rfl,r1,r2,r3,r4⟩
  rw [hUU,hU]
  exact ⟨x,I',ρ',rfl,r1,r2,(SC hff).trans r3,r4⟩
section
variable {P:Program}{u:Nat}{l:List (Nat×AV)}{g:List (D5×Option Blk)}
end
end Go.Abs
/-! Functions as data: a list of functions, one of which is chosen. -/
namespace Go.Abs
open Go
/-- A function, or none, as data. -/
def fnD:Option Nat→D
  |some f=> .fn (.func f) [] []
  |none=> .v .nilFunc
def UM (l:List (Option Nat))(n:Int):Option Nat:=if 0≤n then (l[n.toNat]?).join else none
/-- One of two functions. -/
theorem Ta {α:Type}{v a:Nat}{x y:Option α}{r:α}(h:cond (Nat.beq v a) x y=some r):v=a∧x=some r∨Nat.beq v a=false∧y=some r:=by
  cases e:Nat.beq v a
  ·rw [e]at h;exact .inr ⟨rfl,h⟩
  ·rw [e]at h;exact .inl ⟨Nat.eq_of_beq_eq_true e,h⟩
end Go.Abs
namespace Go.Abs
open Go
/-- Elements put into a list at a place. -/
def SZ {α:Type}(xs:List α)(i:Int)(ys:List α):Option (List α):=if xs.length≠0∧ys.length≠0∧0≤i∧i≤xs.length∧xs.length+ys.length≤1000000000 then some (xs.take i.toNat++ys++xs.drop i.toNat)else none
/-- The contract of slices.Insert at a type, as it is used. -/
def UN (P:Program)(f:FuncId)(e sz:Nat):Prop:= ∀(xs ys:List (List D)) (i:Nat),xs≠ []→ys≠ []→i≤xs.length→xs.length+ys.length≤1000000000→
  MCall P f [.sl (900000,0), .d (.v (.int .i64 i)), .sl (900001,0)] [.arr e sz xs, .arr e sz ys] (.sl (800000,0)) [none,none] [some (.arr e sz (xs.take i++ys++xs.drop i))]
theorem SD {g:List (D5×Option Blk)}{k:D5}{b:Option Blk}(h:G g k=b):G g=G ((k,b)::g):=by
  funext q
  rw [G]
  split
  ·rename_i e;rw [e];exact h
  ·rfl
end Go.Abs
/-! Shorter proofs: the resolved code need not be written, chains of equal parts. -/
namespace Go.Abs
open Go
/-- What the conversion finds of a function: where its results lie, and its code. -/
def PU (P:Program)(fn:Func)(N:Nat)(M:We):Option (List RV×AC):=
  match fn.results.toList.mapM (Wg P),fn.body with
  |some rs,some c=>match S8 P N M c,fn.name== "runtime.NumGoroutine" with
   |some ac,false=>some (rs,ac)
   |_,_=>none
  |_,_=>none
theorem fk {P:Program}{f:FuncId}{fn:Func}{N:Nat}{rs:List RV}{ac:AC}(h:P.funcs[f]? =some fn)(hn:fn.ntmps=N)(M:We)(hc:PU P fn N M=some (rs,ac)):FnOK P f N rs ac:=by
  unfold PU at hc
  split at hc
  ·rename_i rs' c hr hb
   split at hc
   ·rename_i ac' hac hx
    simp only [Option.some.injEq,Prod.mk.injEq]at hc
    obtain ⟨rfl,rfl⟩:=hc
    exact ⟨fn,c,h,hb,hn,hr,⟨M,hac⟩,hx⟩
   ·cases hc
  ·cases hc
def m0:We:=fun _=> []
theorem rD {h:C8}{n:Nat}{x:D}{r:List AV}{ds:List D}(h2:J9 (I7 h n) r=some ds):J9 (I7 h n) (.d x::r)=some (x::ds):=H3 C2 h2
theorem ca {x:D}{xs ys:List D}(hx:x.one=true)(h:All2 (fun x y=>DLe x y∧y.one=true) xs ys):All2 (fun x y=>DLe x y∧y.one=true) (x::xs) (x::ys):= .cons ⟨.refl _,hx⟩ h
theorem cz: ∀{xs:List D} (_:xs.all D.one=true),All2 (fun x y=>DLe x y∧y.one=true) xs xs
  | [],_=> .nil
  |_::_,h=>by
   simp only [List.all_cons,bB]at h
   exact ca h.1 (cz h.2)
theorem cv {x:AV}{xs ys:List AV}(h:All2 AVle xs ys):All2 AVle (x::xs) (x::ys):= .cons (.of rfl) h
theorem cw: ∀{xs:List AV},All2 AVle xs xs
  | []=> .nil
  |_::_=>cv cw
abbrev zs (n:Nat):List AV:=List.replicate n (di 0)
theorem sg {g g0:List (D5×Option Blk)}{d u:Nat}{b:Blk}(h:gl g d=some ((d,u),some b))(r:Ve (G g) g0):Ve (G g) (((d,u),some b)::g0):=B7 (gq h) (.of rfl) r
end Go.Abs
/-! Arrays of values, indexed by what is only known as the program runs. -/
namespace Go.Abs
open Go
def LM {α:Type}(xs:List α)(n:Int)(a:α):Option (List α):=if 0≤n∧n.toNat<xs.length then some (xs.set n.toNat a)else none
theorem Zr {α:Type}{xs v:List α}{n:Int}{a:α}(h:LM xs n a=some v):(0≤n∧n.toNat<xs.length)∧v=xs.set n.toNat a:=by
  unfold LM at h
  split at h
  ·exact ⟨‹_›,(lC h).symm⟩
  ·cases h
theorem HC {α:Type}{xs:List α}{n:Int}{a:α}(h:E6 xs n=some a):0≤n∧n.toNat<xs.length∧xs[n.toNat]? =some a:=by
  unfold E6 at h
  split at h
  ·exact ⟨‹_›,(lH.1 h).1,h⟩
  ·cases h
theorem DA {α:Type}{f:α→List D}{sz:Nat}(hs: ∀x,(f x).length=sz): ∀{xs:List α} {i:Nat} {a:α},xs[i]? =some a→(((xs.map f).flatten).drop (i*sz)).take sz=f a∧(i+1)*sz≤((xs.map f).flatten).length
  | [],_,_,h=>by simp at h
  |x::r,0,a,h=>by
   simp only [List.getElem?_cons_zero,Option.some.injEq]at h
   subst h
   simp only [lM,List.flatten_cons,Nat.zero_mul,List.drop_zero,bN,Nat.one_mul,lK,hs]
   refine ⟨?_,by omega⟩
   rw [← hs x,List.take_left]
  |x::r,i+1,a,h=>by
   simp only [List.getElem?_cons_succ]at h
   obtain ⟨h1,h2⟩:=DA hs h
   simp only [lM,List.flatten_cons,lK,hs]
   rw [Nat.succ_mul i sz,Nat.add_comm (i*sz) sz,← hs x,List.drop_append,hs x]
   simp only [Nat.add_sub_cancel_left]
   rw [List.drop_eq_nil_of_le (by rw [hs x];omega),lL]
   exact ⟨h1,by rw [Nat.succ_mul (i+1) sz];omega⟩
section
variable {t:Nat→AV}{h:C8}
theorem Ro {α:Type}{len sz:Nat}{x i:Opd}{k:D5}{off:Nat}{kd:IntKind}{n:Int}{xs:List α}{a:α}(hx:ev t x= .ptr k off)(hi:ev t i= .d (.v (.int kd n)))(hv:E6 xs n=some a)(hl:xs.length=len):G6 t h (.idxP len sz x i)=some (.ptr k (off+n.toNat*sz)):=by
  obtain ⟨h0,h1,_⟩:=HC hv
  simp only [G6,hx,hi]
  rw [l8 ⟨h0,hl▸h1⟩]
theorem LN {α:Type}{sz off:Nat}{bs:List AV}{n:Int}{xs:List α}{a:α}{f:α→List D}(hs: ∀x,(f x).length=sz)(hv:E6 xs n=some a)(hb:(bs.drop off).take (xs.length*sz)=((xs.map f).flatten).map AV.d):
    sz≤(bs.drop (off+n.toNat*sz)).length∧(bs.drop (off+n.toNat*sz)).take sz=(f a).map .d:=by
  obtain ⟨h0,h1,h2⟩:=HC hv
  obtain ⟨g1,g2⟩:=DA hs h2
  have hlen:=congrArg List.length hb
  rw [lN,lQ,List.length_drop]at hlen
  rw [bM,Nat.one_mul]at g2
  have hle:((xs.map f).flatten).length≤xs.length*sz:=by omega
  have hge:(n.toNat+1)*sz≤xs.length*sz:=Nat.mul_le_mul_right _ h1
  rw [bM,Nat.one_mul]at hge
  refine ⟨by rw [List.length_drop];omega,?_⟩
  have:(((bs.drop off).take (xs.length*sz)).drop (n.toNat*sz)).take sz=((((xs.map f).flatten).map AV.d).drop (n.toNat*sz)).take sz:=by rw [hb]
  rw [List.drop_take,List.take_take,List.drop_drop,← List.map_drop,← List.map_take,g1,Nat.min_eq_left (by omega)]at this
  exact this
theorem LO {α:Type}{sz off:Nat}{p:Opd}{k:D5}{ty:TypeId}{bs:List AV}{n:Int}{xs:List α}{a:α}{f:α→List D}{v:AV}(hp:ev t p= .ptr k (off+n.toNat*sz))(hb:h k=some (.box ty bs))(hv:E6 xs n=some a)(hs: ∀x,(f x).length=sz)(hc:(bs.drop off).take (xs.length*sz)=((xs.map f).flatten).map AV.d)(hr:W7 ((f a).map .d)=v):G6 t h (.load sz true p)=some v:=by
  obtain ⟨h1,h2⟩:=LN hs hv hc
  simp only [G6,hp,Q0,hb,if_true,h1,h2,hr]
theorem Wx {α:Type}{off:Nat}{p:Opd}{k:D5}{ty:TypeId}{bs:List AV}{n:Int}{xs:List α}{a:α}{f:α→D}(hp:ev t p= .ptr k (off+n.toNat*1))(hb:h k=some (.box ty bs))(hv:E6 xs n=some a)(hc:(bs.drop off).take (xs.length*1)=((xs.map fun x=> [f x]).flatten).map AV.d):G6 t h (.load 1 false p)=some (.d (f a)):=by
  obtain ⟨h1,h2⟩:=LN (f:=fun x=> [f x]) (fun _=>rfl) hv hc
  simp only [G6,hp,Q0,hb,Bool.false_eq_true,if_false]
  cases hd:bs.drop (off+n.toNat*1)with
  |nil=>rw [hd]at h2;cases h2
  |cons x r=>rw [hd]at h2;simp only [List.take_succ_cons,List.take_zero,lM,List.map_nil,List.cons.injEq,and_true]at h2;rw [h2];rfl
end
theorem SE {α:Type}{xs v:List α}{n:Int}{a:α}{bs:List AV}(h:LM xs n a=some v)(e:bs.length=xs.length):0+n.toNat*1+1≤bs.length:=by
  have:=(Zr h).1
  omega
theorem LP {α:Type}(v:List α)(z:α):(List.range v.length).map (fun j=>v.getD j z)=v:=by
  apply List.ext_getElem?
  intro i
  rw [lI]
  by_cases h:i<v.length
  ·simp [h]
  ·simp [h]
theorem QX {α:Type}{xs v:List α}{n:Int}{a:α}(g:α→D)(z:α)(h:LM xs n a=some v):Dz (xs.map fun x=>AV.d (g x)) (0+n.toNat*1) [AV.d (g a)]=(List.range xs.length).map fun j=>AV.d (g (v.getD j z)):=by
  obtain ⟨⟨h0,h1⟩,rfl⟩:=Zr h
  have e:xs.length=(xs.set n.toNat a).length:=by rw [List.length_set]
  rw [e,show (fun j=>AV.d (g ((xs.set n.toNat a).getD j z)))=(fun x=>AV.d (g x))∘fun j=>(xs.set n.toNat a).getD j z from rfl,← List.map_map,LP]
  simp only [Dz,bN,Nat.mul_one]
  rw [List.map_set]
def QY (k:IntKind)(a b:Int):Option Int:=if b<0 then none else some (k.wrap (a*2^ (min b.toNat k.bits)))
def QZ (k:IntKind)(a b:Int):Option Int:=if b<0 then none else some (a.fdiv (2^ (min b.toNat k.bits)))
theorem SF {t:Nat→AV}{h:C8}{x y:Opd}{k k':IntKind}{a b v:Int}(hx:ev t x= .d (.v (.int k a)))(hy:ev t y= .d (.v (.int k' b)))(hv:QY k a b=some v):G6 t h (.bin .shl x y)=some (.d (.v (.int k v))):=by
  unfold QY at hv
  split at hv
  ·cases hv
  ·rename_i h1;cases hv;simp only [G6,hx,hy,Ln,Bool.true_or,if_true,AD,l9 h1,lE]
theorem SG {t:Nat→AV}{h:C8}{x y:Opd}{k k':IntKind}{a b v:Int}(hx:ev t x= .d (.v (.int k a)))(hy:ev t y= .d (.v (.int k' b)))(hv:QZ k a b=some v):G6 t h (.bin .shr x y)=some (.d (.v (.int k v))):=by
  unfold QZ at hv
  split at hv
  ·cases hv
  ·rename_i h1;cases hv;simp only [G6,hx,hy,Ln,Bool.true_or,if_true,AD,l9 h1,lE]
end Go.Abs
namespace Go.Abs
open Go
section
variable {P:Program}
end
end Go.Abs
/-! Any number of elements, appended in a region that draws its order. -/
namespace Go.Abs
open Go
section
variable {P:Program}{u:Nat}{r:List AOp}{l:List (Nat×AV)}{g:List (D5×Option Blk)}
theorem Ou: ∀{aops:List AOp} {u:Nat} {t:Nat→AV} {h:C8} {K K':(Nat→AV)→C8→List (List D5×List D5)→Prop},(∀t h tr,K t h tr→K' t h tr)→Ca P u aops t h K→Ca P u aops t h K'
  | [],u,t,h,K,K',hk,hr=>by simp only [Ca]at hr ⊢;exact hk _ _ _ hr
  |⟨dst,k,g⟩::r,u,t,h,K,K',hk,hr=>by
   simp only [Ca]at hr ⊢
   exact OK (fun v ups=>Ou fun t h tr=>hk _ _ _) (KI fun v ups=>Ou fun t h tr=>hk _ _ _) hr
/-- Behind nil. -/
theorem IF {K:(Nat→AV)→C8→List (List D5×List D5)→Prop}{α:Type}{d e sz:Nat}{ty:TypeId}{x y:Opd}(f:α→List D)(ys zs:List α)(hy:S3 (G g) sz (ev (T l) y)=some (ys.map f))(hx:ev (T l) x= .d .nilS)(hl:Q8 ([]:List α) ys=some zs)(hn:G g (d,u)=none)
    (hk:Ca P u r (T ((d,oS zs (d,u))::l)) (G (((d,u),oB e sz f zs)::g)) fun t' h' tr=>K t' h' ((W1 (T l) (G g) (.append ty e sz x y),[(d,u)])::tr)∧K t' h' ((W1 (T l) (G g) (.append ty e sz x y),[])::tr)):Ca P u (⟨some d, .append ty e sz x y,none⟩::r) (T l) (G g) K:=by
  obtain ⟨h1,h2⟩:=Ad hl
  have h2:zs=ys:=h2
  rw [h2]at hk
  clear h2 hl
  cases ys with
  |nil=>
   have hy':S3 (G g) sz (ev (T l) y)=some []:=hy
   have e0:G (((d,u),oB e sz f ([]:List α))::g)=G g:=by
     funext q
     rw [G]
     by_cases e1:q=(d,u)
     ·subst e1;rw [l8 rfl,hn];rfl
     ·rw [l9 e1]
   rw [e0]at hk
   unfold Ca
   simp only [gW,Pi,Cj,hy',hx,L0]
   exact Ou (fun _ _ _ q=>q.2) hk
  |cons y0 ys=>
   unfold Ca
   simp only [lM]at hy
   simp only [gW,Pi,Cj,hy,hx]
   rw [l8 (by simpa using h1)]
   simp only [Option.getD_some,lM,List.map_nil,L0]
   have e0:R3 (G g) (d,u) (some (.arr e sz (f y0::ys.map f)))=G (((d,u),oB e sz f (y0::ys))::g):=by rw [Np];rfl
   rw [e0]
   exact Ou (fun _ _ _ q=>q.1) hk
end
theorem SH {Q R:Prop}(f:Q→R)(q:Q):R:=f q
end Go.Abs
/-! Strings. -/
namespace Go.Abs
open Go
def UO (s:ByteArray)(i:Int):Option Int:=if 0≤i then (s.data.toList[i.toNat]?).map fun b=>(b.toNat:Int)else none
def UP (a b:ByteArray):Option ByteArray:=if a.size+b.size≤1000000000 then some (a++b)else none
def UQ (s:ByteArray)(i j:Int):Option ByteArray:=if 0≤i∧i≤j∧j≤s.size then some (s.extract i.toNat j.toNat)else none
section
variable {t:Nat→AV}{h:C8}{x y z:Opd}{s s' v:ByteArray}{k k':IntKind}{i j:Int}
end
end Go.Abs
/-! A list that may be empty: the two cases. -/
namespace Go.Abs
open Go
/-- Runs of equal numbers become one. -/
def FQ:List Int→List Int
  | []=> []
  | [x]=> [x]
  |x::y::r=>cond (x==y) (FQ (y::r)) (x::FQ (y::r))
def SI (p:List Int):Option (List Int):=match p with
  | []=>none
  |x::r=>some (FQ (x::r))
end Go.Abs
/-! Calls whose code is run in place: what is the run's own is shared with them. -/
namespace Go.Abs
open Go
section
variable {P:Program}{u:Nat}{r:List AOp}{l:List (Nat×AV)}{g:List (D5×Option Blk)}{K:(Nat→AV)→C8→Prop}
/-- What the code that is run in place has to leave. -/
def UR {γ:Type}(rs:List RV)(J:AV→γ→List (Nat×AV)×List (D5×Option Blk)→Prop)(l1:γ→List (Nat×AV))(g1:γ→List (D5×Option Blk))(e:Ex)(s:St):Prop:=
  (e= .nrm∨e= .ret)∧∃v gg,Qd s.t s.h rs=some v∧J v gg (l1 gg,g1 gg)∧Ve s.h (g1 gg)
def US {γ:Type}(t:AV→Nat→AV)(v:AV)(_:γ)(x:List (Nat×AV)×List (D5×Option Blk)):Prop:=RW (t v) x.1
end
end Go.Abs
/-! Ranges over a function that looks at what is the run's own. -/
namespace Go.Abs
open Go
section
variable {P:Program}{N:Nat}{rk:Option D5}{s:St}{Q:Ex→St→Prop}{r:List It}
/-- Such a function: as long as the blocks hold what it looks at, it hands on the elements, one after the other. -/
def TY (P:Program)(c:AV)(Rq:C8→Prop)(L:List (List D)):Prop:= ∃gf fs cs,KN c=some (gf,fs,cs)∧∀(k:D5) (h0:C8) (Inv:Nat→C8→Prop) (Stop:C8→Prop),Inv 0 h0→(∀i h,Inv i h→∃h1,Sb ⟨T [],h1⟩ ⟨T [],h⟩∧Inv i h1∧Rq h1)→
  (∀i h es,L[i]? =some es→Inv i h→YCall P k (es.map .d) h fun v h'=>(v= .d (.v (.bool true))∧Inv (i+1) h')∨(v= .d (.v (.bool false))∧Stop h'))→
   ICall P gf (fs++ [.yld k]++cs) h0 fun _ h'=>Inv L.length h'∨Stop h'
end
section
variable {P:Program}{u:Nat}{r:List AOp}{t:Nat→AV}{h:C8}{K:(Nat→AV)→C8→Prop}
end
section
variable {P:Program}{N:Nat}{rk:Option D5}{s:St}{Q:Ex→St→Prop}{r:List It}
end
end Go.Abs
/-! Slices of the run's own that may hold nothing and yet not be nil. -/
namespace Go.Abs
open Go
/-- A slice of the run's own; b: it is not nil, though it may hold nothing. -/
def oW {α:Type}(b:Bool)(xs:List α)(k:D5):AV:=match xs with
  | []=>cond b (.sl k) (.d .nilS)
  |_=> .sl k
def wB {α:Type}(b:Bool)(ty:TypeId)(sz:Nat)(f:α→List D)(xs:List α):Option Blk:=match xs with
  | []=>cond b (some (.arr ty sz [])) none
  |_=>some (.arr ty sz (xs.map f))
section
variable {α:Type}{b:Bool}{xs:List α}{k:D5}{ty:TypeId}{sz:Nat}{f:α→List D}{h:C8}
theorem SJ:oW true xs k= .sl k:=by cases xs<;>rfl
theorem oW_f:oW false xs k=oS xs k:=by cases xs<;>rfl
theorem RA:wB true ty sz f xs=some (.arr ty sz (xs.map f)):=by cases xs<;>rfl
theorem RB:wB false ty sz f xs=oB ty sz f xs:=by cases xs<;>rfl
def wD (b:Bool)(f:α→List D)(xs:List α):D:=cond b (.list (xs.map f)) (oD f xs)
theorem Ua:DLe (wD b f xs) (.list (xs.map f)):=by
  cases b
  ·exact Cc
  ·exact .refl _
theorem Ub {n:Nat}(hb:h k=wB b ty sz f xs):I7 h (n+1) (oW b xs k)=some (wD b f xs):=by
  cases b
  ·rw [oW_f];rw [RB]at hb;exact Cd hb
  ·rw [SJ];rw [RA]at hb;exact Mm hb
theorem Q9 {l:List (D5×Option Blk)}(h1:h k=wB b ty sz f xs)(hl:Ve h l):Ve h ((k,wB b ty sz f xs)::l):=by
  cases b
  ·rw [RB]at h1 ⊢;exact D4 h1 hl
  ·rw [RA]at h1 ⊢;exact B7 h1 (.refl _) hl
theorem BE {l:List (D5×Option Blk)}(h1:h k=oB ty sz f xs)(hl:Ve h l):Ve h ((k,wB false ty sz f xs)::l):=by
  rw [RB];exact D4 h1 hl
theorem Ov (b:Bool)(xs:List α)(k:D5):Dp (oW b xs k)=some [oW b xs k]:=by cases b<;>cases xs<;>rfl
end
section
variable {P:Program}{u:Nat}{r:List AOp}{l:List (Nat×AV)}{g:List (D5×Option Blk)}
end
/-- How much a slice is grown by. -/
def TZ (n:Int):Option Unit:=if 0≤n∧n≤1000000 then some ()else none
end Go.Abs
/-! Slices of one's own slices; a row of a table, added, dropped or changed. -/
namespace Go.Abs
open Go
section
variable {P:Program}{N:Nat}{rk:Option D5}{s:St}{Q:Ex→St→Prop}
/-- Another name for what is the run's own. -/
theorem OX {c:Code}{i:Nat}{k:D5}{ty:TypeId}{sz:Nat}{es:List (List D)}(hi:s.t i= .sl k)(hb:s.h k=some (.arr ty sz es))
    (h: ∀u',(∀q,s.h q≠none→q.2≠u')→AWc P N rk c ⟨R3 s.t i (.sl (700000,u')),R3 (R3 s.h k none) (700000,u') (some (.arr ty sz es))⟩ Q):AWc P N rk c s Q:=by
  intro w I ρ a hs ro hro
  obtain ⟨u',hu,hfk⟩:=hs.fresh_u
  obtain ⟨x,xs,hx,hrow,hes,hat⟩:=hs.heap.blk k _ hb
  obtain ⟨H',T'⟩:=Zb (q:=(700000,u')) (x:=x) (b':= .arr ty sz es) hs.heap hb (hu 700000) (hs.heap.rone k x hx) (fun ρ' hρ'=>by simp only [J1,hρ',hx]) (fun ρ' _ hρ'=>⟨x,xs,hρ',hrow,hes,hat⟩)
  have hs1:=hs.step H' T'
  have hs2:Sim w I (R3 ρ (700000,u') (some x)) N ⟨R3 s.t i (.sl (700000,u')),R3 (R3 s.h k none) (700000,u') (some (.arr ty sz es))⟩ a:=⟨hs1.size,hs1.defers,fun j=>by
    by_cases e:j=i
    ·subst e
     have:=hs.tmp j
     rw [hi]at this
     show RepV _ _ _ (R3 s.t j _ j) _
     rw [E3]
     generalize a.tmps.getD j undef=y at this
     cases this with|sl _ _ hq=>rw [hx]at hq;cases hq;exact .sl _ _ (E3 _ _ _)
    ·show RepV _ _ _ (R3 s.t i _ j) _
     rw [G9 _ _ _ _ e];exact hs1.tmp j,H'⟩
  refine (h u' hfk w _ _ a hs2 ro ?_).mono ?_
  ·exact hro.mono T'.rho
  rintro e a' w' ⟨s',I',ρ',hq,hs',htr,hnd⟩
  exact ⟨s',I',ρ',hq,hs',T'.trans htr,hnd⟩
end
section
variable {P:Program}{N:Nat}{rk:Option D5}{r:List It}{Q:Ex→St→Prop}{l:List (Nat×AV)}{g:List (D5×Option Blk)}
theorem Uc {a:AC}(i:Nat)(k:D5){ty:TypeId}{sz:Nat}{es:List (List D)}(hi:T l i= .sl k)(hb:G g k=some (.arr ty sz es))
    (h: ∀u',Dj P N rk (.c a::r) Q .nrm ⟨T ((i, .sl (700000,u'))::l),G (((700000,u'),some (.arr ty sz es))::(k,none)::g)⟩):Dj P N rk (.c a::r) Q .nrm ⟨T l,G g⟩:=
  fun M c hc=>OX (s:=⟨T l,G g⟩) hi hb fun u' _=>by
    have:=h u' M c hc
    rw [KG,Np,Np]at this
    exact this
end
section
variable {P:Program}{u:Nat}{r:List AOp}{l:List (Nat×AV)}{g:List (D5×Option Blk)}
theorem Rp {K:(Nat→AV)→C8→Prop}{α:Type}{d e sz:Nat}{x y:Opd}(f:α→List D)(k:D5)(xs zs:List α){n:Int}(hx:ev (T l) x= .sl k)(hb:G g k=some (.arr e sz (xs.map f)))(hy:ev (T l) y=di n)(hz:Gi xs 0 n=some zs)
    (hk:H9 P u r (T ((d, .sl (d,u))::l)) (G (((d,u),some (.arr e sz (zs.map f)))::(k,none)::g)) K):H9 P u (⟨some d, .oslice sz x none (some y) none,none⟩::r) (T l) (G g) K:=by
  obtain ⟨_,h1,h2,rfl⟩:=Zg hz
  refine On (by simp [Q4]) ?_
  have hbd:W8 (T l) (xs.map f).length (some y)=some n.toNat:=by simp only [W8,hy,di];rw [l8 h1]
  have hj:n.toNat≤(xs.map f).length:=by rw [lN];omega
  simp only [gW,Pi,Cj,hx,hb,hbd,hj,and_self,if_true]
  rw [Int.toNat_zero,List.drop_zero,List.map_take,KG,Np,Np]at hk
  exact hk
end
/-- What an edit makes of the rows of a table. -/
def Da {α:Type}(kind i:Int)(xs:List α)(v:α):Option (List α×Bool):=
  cond ((kind==1)&& (i==(xs.length:Int))) ((Q8 xs [v]).bind fun l=>some (l,true))
    (cond (((kind==2)&&decide ((xs.length:Int)>0))&& (i==J3 ((xs.length:Int) - 1))) ((Gi xs 0 i).bind fun l=>some (l,true))
      (cond (((kind==3)&&decide (i≥0))&&decide (i< (xs.length:Int))) ((E6 xs i).bind fun _=>some (Sw xs i v,true)) (some (xs,false))))
def wb {α:Type}(b:Bool)(xs:List α):Bool:=b|| !xs.isEmpty
structure EditC (P:Program)(f:FuncId)(e sz:Nat){α β:Type}(E:α→List D)(B:β→List D)(kd at_:β→Int):Prop where
  m: ∀(xs zs:List α) (x:β) (v:α) (ok:Bool),Da (kd x) (at_ x) xs v=some (zs,ok)→MCall P f [.sl (900000,0), .d (.agg (B x)), .d (.agg (E v))] [.arr e sz (xs.map E)] (.tup [.sl (800000,0), .d (bo ok)]) [none] [some (.arr e sz (zs.map E))]
  n: ∀(zs:List α) (x:β) (v:α) (ok:Bool),Da (kd x) (at_ x) [] v=some (zs,ok)→MCall P f [.d .nilS, .d (.agg (B x)), .d (.agg (E v))] [] (.tup [oS zs (800000,0), .d (bo ok)]) [] [oB e sz E zs]
section
variable {P:Program}{u:Nat}{r:List AOp}{l:List (Nat×AV)}{g:List (D5×Option Blk)}
theorem Vh {S e sz:Nat}{fo:Opd}{args:List Opd}{fid:FuncId}{α β:Type}{E:α→List D}{B:β→List D}{kd at_:β→Int}(hE:EditC P fid e sz E B kd at_){b:Bool}{xs zs:List α}{x:β}{v:α}{ok:Bool}{k0:D5}
    (h:Da (kd x) (at_ x) xs v=some (zs,ok)) (hc:O5 (T l) fo args=some (fid,[oW b xs k0, .d (.agg (B x)), .d (.agg (E v))])) (hb:G g k0=wB b e sz E xs):
    ∃ks us,OC P u l g S fo args (.tup [oW (wb b xs) zs (S,u), .d (bo ok)]) ks us (((S,u),wB (wb b xs) e sz E zs)::(k0,none)::g):=by
  have main:oW b xs k0= .sl k0→wb b xs=true→G g k0=some (.arr e sz (xs.map E))→∃ks us,OC P u l g S fo args (.tup [oW (wb b xs) zs (S,u), .d (bo ok)]) ks us (((S,u),wB (wb b xs) e sz E zs)::(k0,none)::g):=by
    intro h1 h2 h3
    rw [h1]at hc
    rw [h2,SJ,RA]
    exact ⟨_,_,FO (hE.m xs zs x v ok h) [k0] [k0] _ _ hc Fj rfl (Ft h3 Cz) ⟨⟨_,h3, .of rfl⟩,trivial⟩ (fun _ h=>h) nd1 rfl rfl rfl⟩
  cases xs with
  |cons a xs=>cases b<;>exact main rfl rfl hb
  |nil=>
   cases b
   ·have hn:=hE.n zs x v ok h
    refine ⟨_,_,FO hn [] [] [(S,u)] _ hc Fj rfl Cz trivial (fun _ h=>h) List.nodup_nil ?_ ?_ ?_⟩
    ·cases zs<;>rfl
    ·rfl
    ·have e0:G ((k0,none)::g)=G g:=(SD (hb.trans rfl)).symm
     cases zs<;>(show R3 (G g) _ _=_;rw [Np,e0];rfl)
   ·exact main rfl rfl hb
theorem Ev {α:Type}{t:Nat→AV}{h:C8}{x:Opd}(hx:ev t x= .d .nilS):G6 t h (.len x)=some (.d (i64 (([]:List α).length:Int))):=by simp only [G6,hx];rfl
theorem TA {k:D5}{ks:List D5}(h:k∉ks)(hl:ks.Nodup):(k::ks).Nodup:=List.nodup_cons.2 ⟨h,hl⟩
theorem HD {K:(Nat→AV)→C8→Prop}{d S:Nat}{f:Opd}{args:List Opd}{v:AV}{g':List (D5×Option Blk)}(h: ∃ks us,OC P u l g S f args v ks us g')(hk:H9 P u r (T ((d,v)::l)) (G g') K):H9 P u (⟨some d, .ocall S f args,none⟩::r) (T l) (G g) K:=by
  obtain ⟨ks,us,h⟩:=h
  exact FP h hk
end
end Go.Abs
