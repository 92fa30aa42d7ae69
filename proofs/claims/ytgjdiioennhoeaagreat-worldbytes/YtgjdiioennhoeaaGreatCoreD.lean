/-
  An abstract layer over the machine, fourth part: contracts that alter what is handed in; functions that can be computed.
-/
import Derived.Test.YtgjdiioennhoeaaGreatCoreC
namespace Go.Abs
open Go
/-! ### Contracts of functions that alter what is handed to them, or hand out what is their own -/
/-- The key of the i-th block that is handed in; of the j-th that is handed out. -/
def W7 (i:Nat):D6:=(900000+i,0)
def SL (j:Nat):D6:=(800000+j,0)
def V2 (ko kn:Nat→D6)(q:D6):D6:=cond (Nat.ble 900000 q.1) (ko (q.1 - 900000)) (kn (q.1 - 800000))
def JB (n m:Nat)(q:D6):Bool:=q.2==0&& (Nat.ble 900000 q.1&&Nat.blt (q.1 - 900000) n||Nat.ble 800000 q.1&& !Nat.ble 900000 q.1&&Nat.blt (q.1 - 800000) m)
theorem MH {n m:Nat}{q:D6}(h:JB n m q=true):(∃i,i<n∧q=W7 i)∨∃j,j<m∧j<100000∧q=SL j:=by
  obtain ⟨a,b⟩:=q
  simp only [JB,bD,bE,bF,Nat.ble_eq,Nat.blt_eq,Bool.not_eq_true',Bool.eq_false_iff,ne_eq]at h
  obtain ⟨rfl,h|h⟩:=h
  ·exact .inl ⟨a - 900000,h.2,by simp only [W7,Prod.mk.injEq,and_true];omega⟩
  ·exact .inr ⟨a - 800000,h.2,by omega,by simp only [SL,Prod.mk.injEq,and_true];omega⟩
theorem HP (ko kn:Nat→D6)(i:Nat):V2 ko kn (W7 i)=ko i:=by
  simp only [V2,W7]
  rw [show Nat.ble 900000 (900000+i)=true by simp,l9,Nat.add_sub_cancel_left]
theorem SM (ko kn:Nat→D6){j:Nat}(h:j<100000):V2 ko kn (SL j)=kn j:=by
  simp only [V2,SL]
  rw [show Nat.ble 900000 (800000+j)=false by rw [Bool.eq_false_iff,ne_eq,Nat.ble_eq];omega,bA,Nat.add_sub_cancel_left]
theorem HQ {i j:Nat}(h:W7 i=W7 j):i=j:=by simp only [W7,Prod.mk.injEq]at h;omega
def CB (f:D6→D6):AV→AV
  | .ptr k o=> .ptr (f k) o
  | .sl k=> .sl (f k)
  |x=>x
def CC (f:D6→D6):AV→AV
  | .agg cs=> .agg (cs.map (CB f))
  | .fn g fs cs=> .fn g (fs.map (CB f)) (cs.map (CB f))
  |x=>CB f x
def FC (f:D6→D6):AV→AV
  | .tup cs=> .tup (cs.map (CC f))
  |x=>CC f x
def VY (p:D6→Bool):AV→Bool
  | .ptr k _=>p k
  | .sl k=>p k
  | .d _=>true
  | .any=>true
  |_=>false
def ZU (p:D6→Bool):AV→Bool
  | .agg cs=>cs.all (VY p)
  | .fn _ fs cs=>fs.all (VY p)&&cs.all (VY p)
  |x=>VY p x
def dH (p:D6→Bool):AV→Bool
  | .tup cs=>cs.all (ZU p)
  |x=>ZU p x
def Gy (f:D6→D6):Blk→Blk
  | .box ty cs=> .box ty (cs.map (CB f))
  |b=>b
def aX (p:D6→Bool):Blk→Bool
  | .box _ cs=>cs.all (VY p)
  | .arr _ _ _=>true
  | .obj _ _=>false
  | .mp _=>true
section
variable {w:World}{I:Nat→Prop}{ρ ρ':Rho}{p:D6→Bool}{f g:D6→D6}
theorem Vx {α β:Type}{q:α→Bool}{l:List α}{h:α→β}{i:Nat}{c:β}(ha:l.all q=true)(hc:(l.map h)[i]? =some c): ∃x,q x=true∧l[i]? =some x∧h x=c:=by
  obtain ⟨x,hx,e⟩:=Vs hc
  exact ⟨x,lX.1 ha x (lF hx),hx,e⟩
theorem Nc {α β:Type}{h:α→β}{l:List α}{i:Nat}{x:α}(hx:l[i]? =some x):(l.map h)[i]? =some (h x):=by rw [lI,hx];rfl
theorem UF {x:AV}{v:Value}(hp:VY p x=true)(h:RepV w I ρ (CB f x) v)(hk: ∀q y,p q=true→ρ (f q)=some y→ρ' (g q)=some y):RepV w I ρ' (CB g x) v:=by
  cases x with
  |ptr k o=>cases h with|ptr _ _ b h=>exact .ptr _ _ _ (hk k _ hp h)
  |sl k=>cases h with|sl _ _ h=>exact .sl _ _ (hk k _ hp h)
  |d y=>cases h with|d _ _ h=>exact .d _ _ h
  |any=>exact .any _
  |_=>simp [VY]at hp
theorem UG {x:AV}{v:Value}(hp:ZU p x=true)(h:RepV w I ρ (CC f x) v)(hk: ∀q y,p q=true→ρ (f q)=some y→ρ' (g q)=some y):RepV w I ρ' (CC g x) v:=by
  cases x with
  |agg cs=>
   cases h with
   |agg _ vs hl hone hr=>
    refine .agg _ vs (by simpa using hl) (fun i hi=>hone i (by simpa using hi)) (fun i c hc=> ?_)
    obtain ⟨x,h1,h2,rfl⟩:=Vx hp hc
    exact UF h1 (hr i _ (Nc h2)) hk
  |fn q fs cs=>
   simp only [ZU,bD]at hp
   cases h with
   |fn _ _ _ vfs vcs hl hl' hr hr'=>
    refine .fn _ _ _ vfs vcs (by simpa using hl) (by simpa using hl') (fun i c hc=> ?_) (fun i c hc=> ?_)
    ·obtain ⟨x,h1,h2,rfl⟩:=Vx hp.1 hc
     exact UF h1 (hr i _ (Nc h2)) hk
    ·obtain ⟨x,h1,h2,rfl⟩:=Vx hp.2 hc
     exact UF h1 (hr' i _ (Nc h2)) hk
  |any=>exact UF (p:=p) (f:=f) (x:= .any) hp h hk
  |d y=>exact UF (p:=p) (f:=f) (x:= .d y) hp h hk
  |ptr k o=>exact UF (p:=p) (f:=f) (x:= .ptr k o) hp h hk
  |sl k=>exact UF (p:=p) (f:=f) (x:= .sl k) hp h hk
  |aptr k a b c=>exact UF (p:=p) (f:=f) (x:= .aptr k a b c) hp h hk
  |yld k=>exact UF (p:=p) (f:=f) (x:= .yld k) hp h hk
  |tup cs=>simp [ZU,VY]at hp
theorem eL {x:AV}{v:Value}(hp:dH p x=true)(h:RepV w I ρ (FC f x) v)(hk: ∀q y,p q=true→ρ (f q)=some y→ρ' (g q)=some y):RepV w I ρ' (FC g x) v:=by
  cases x with
  |tup cs=>
   cases h with
   |tup _ vs hl hr=>
    refine .tup _ vs (by simpa using hl) (fun i c hc=> ?_)
    obtain ⟨x,h1,h2,rfl⟩:=Vx hp hc
    exact UG h1 (hr i _ (Nc h2)) hk
  |any=>exact UG (p:=p) (f:=f) (x:= .any) hp h hk
  |d y=>exact UG (p:=p) (f:=f) (x:= .d y) hp h hk
  |ptr k o=>exact UG (p:=p) (f:=f) (x:= .ptr k o) hp h hk
  |sl k=>exact UG (p:=p) (f:=f) (x:= .sl k) hp h hk
  |aptr k a b c=>exact UG (p:=p) (f:=f) (x:= .aptr k a b c) hp h hk
  |yld k=>exact UG (p:=p) (f:=f) (x:= .yld k) hp h hk
  |agg cs=>exact UG (p:=p) (f:=f) (x:= .agg cs) hp h hk
  |fn a b c=>exact UG (p:=p) (f:=f) (x:= .fn a b c) hp h hk
theorem dZ {b:Blk}{k k':D6}(hp:aX p b=true)(h:BlkOK w I ρ k (Gy f b))(hkk: ∀y,ρ k=some y→ρ' k'=some y)(hk: ∀q y,p q=true→ρ (f q)=some y→ρ' (g q)=some y):BlkOK w I ρ' k' (Gy g b):=by
  cases b with
  |box ty cs=>
   obtain ⟨b,vs,h1,h2,h3,h4,h5⟩:=h
   refine ⟨b,vs,hkk _ h1,h2,by simpa using h3,h4,fun i c hc=> ?_⟩
   obtain ⟨x,g1,g2,rfl⟩:=Vx hp hc
   exact UF g1 (h5 i _ (Nc g2)) hk
  |arr ty sz es=>obtain ⟨x,xs,h1,h2⟩:=h;exact ⟨x,xs,hkk _ h1,h2⟩
  |mp ks=>obtain ⟨g,es,clock,h1,h2⟩:=h;exact ⟨g,es,clock,hkk _ h1,h2⟩
  |obj=>simp [aX]at hp
theorem VZ (x:AV):CB id x=x:=by cases x<;>rfl
theorem HR:CB id=id:=funext VZ
theorem WA (x:AV):CC id x=x:=by
  cases x<;>simp only [CC,HR,List.map_id]
  all_goals rfl
theorem WB (b:Blk):Gy id b=b:=by cases b<;>simp only [Gy,HR,List.map_id]
theorem Z2 {k:D6}(b:Blk):L9 ρ k (Gy f b)=L9 ρ k b:=by cases b<;>rfl
theorem Ie {k k':D6}(b:Blk)(h:ρ' k'=ρ k):L9 ρ' k' b=L9 ρ k b:=by cases b<;>simp [L9,h]
end
def Qz:Nat→List Blk→List (D6×Option Blk)
  |_,[]=> []
  |i,b::r=>(W7 i,some b)::Qz (i+1) r
theorem HS: ∀{l:List Blk} {i:Nat} {q:D6} {b:Blk},G (Qz i l) q=some b→∃j,q=W7 (i+j)∧l[j]? =some b
  | [],i,q,b,h=>by cases h
  |x::r,i,q,b,h=>by
   rw [Qz,G]at h
   by_cases e:q=W7 i
   ·rw [bB e]at h;cases h;exact ⟨0,e,rfl⟩
   ·rw [bC e]at h
    obtain ⟨j,h1,h2⟩:=HS h
    exact ⟨j+1,by rw [h1];congr 1;omega,by simpa using h2⟩
def XV (avs:List AV)(pre:List Blk)(v:AV)(post:List (Option Blk))(new:List (Option Blk)):Bool:=
  post.length==pre.length&&Nat.ble new.length 6&&avs.all (ZU (JB pre.length 0))&&pre.all (aX (JB pre.length 0))&&dH (JB pre.length new.length) v&&post.all (fun b=>match b with|some b=>aX (JB pre.length new.length) b|none=>true)&&new.all (fun b=>match b with|some b=>aX (JB pre.length new.length) b|none=>true)
def Vy (n:Nat)(v:AV)(post:List (Option Blk))(new:List (Option Blk))(v':AV)(h':D2):Prop:=
  ∃σ:Nat→D6,v'=FC (V2 W7 σ) v∧(∀i b,post[i]? =some (some b)→h' (W7 i)=some (Gy (V2 W7 σ) b))∧(∀j b,new[j]? =some (some b)→h' (σ j)=some (Gy (V2 W7 σ) b))∧
   (∀j,j<new.length→∀i,i<n→σ j≠W7 i)∧∀j j',j<new.length→j'<new.length→σ j=σ j'→j=j'
/-- Called with these values, where the blocks that are handed in hold this, the function returns the value, and the blocks hold that; the new ones are the caller's. -/
structure MCall (P:Program)(f:FuncId)(avs:List AV)(pre:List Blk)(v:AV)(post:List (Option Blk))(new:List (Option Blk)):Prop where
  ok:XV avs pre v post new=true
  call:ICall P f avs (G (Qz 0 pre)) (Vy pre.length v post new)
def Oc (κ:Nat→D6)(f:D6→D6):Nat→List (Option Blk)→List (D6×Option Blk)
  |_,[]=> []
  |i,b::r=>(κ i,b.map (Gy f))::Oc κ f (i+1) r
def Sd (u S:Nat)(f:D6→D6):Nat→List (Option Blk)→List (D6×Option Blk)
  |_,[]=> []
  |j,b::r=>((S+j,u),b.map (Gy f))::Sd u S f (j+1) r
theorem AL {κ:Nat→D6}{f:D6→D6}: ∀{l:List (Option Blk)} {i:Nat} {x:D6×Option Blk},x∈Oc κ f i l→∃j b,l[j]? =some b∧x=(κ (i+j),b.map (Gy f))
  | [],i,x,h=>by simp [Oc]at h
  |b::r,i,x,h=>by
   rw [Oc,lS]at h
   rcases h with rfl|h
   ·exact ⟨0,b,rfl,rfl⟩
   ·obtain ⟨j,b',h1,rfl⟩:=AL h
    exact ⟨j+1,b',by simpa using h1,by rw [show i+ (j+1)=i+1+j by omega]⟩
theorem AM {u S:Nat}{f:D6→D6}: ∀{l:List (Option Blk)} {i:Nat} {x:D6×Option Blk},x∈Sd u S f i l→∃j b,l[j]? =some b∧x=((S+ (i+j),u),b.map (Gy f))
  | [],i,x,h=>by simp [Sd]at h
  |b::r,i,x,h=>by
   rw [Sd,lS]at h
   rcases h with rfl|h
   ·exact ⟨0,b,rfl,rfl⟩
   ·obtain ⟨j,b',h1,rfl⟩:=AM h
    exact ⟨j+1,b',by simpa using h1,by rw [show i+ (j+1)=i+1+j by omega]⟩
theorem Tm: ∀(ups:List (D6×Option Blk)) (h:D2) (q:D6) (b:Option Blk),N3 h ups q=b→(q∉ups.map (·.1)∧h q=b)∨(q,b)∈ups
  | [],h,q,b,hb=> .inl ⟨by simp,hb⟩
  |(k,c)::r,h,q,b,hb=>by
   rw [N3]at hb
   rcases Tm r _ q b hb with ⟨h1,h2⟩|h1
   ·by_cases e:q=k
    ·subst e
     rw [D9]at h2
     exact .inr (by rw [h2];simp)
    ·rw [J3 _ _ _ _ e]at h2
     exact .inl ⟨by simp at h1 ⊢;exact ⟨e,h1⟩,h2⟩
   ·exact .inr (by simp [h1])
theorem MCall.frame {P:Program}{f:FuncId}{avs:List AV}{pre:List Blk}{v:AV}{post:List (Option Blk)}{new:List (Option Blk)}{u S:Nat}(hM:MCall P f avs pre v post new)(κ:Nat→D6)
    (hinj: ∀i i',i<pre.length→i'<pre.length→κ i=κ i'→i=i') (preH:D2) (hpre: ∀i b,pre[i]? =some b→preH (κ i)=some (Gy (V2 κ κ) b)):
    FCall P u S f (avs.map (CC (V2 κ κ))) preH (FC (V2 κ fun j=>(S+j,u)) v) (Oc κ (V2 κ fun j=>(S+j,u)) 0 post++Sd u S (V2 κ fun j=>(S+j,u)) 0 new):=by
  have hok:=hM.ok
  simp only [XV,bD,bF,Nat.ble_eq]at hok
  obtain ⟨⟨⟨⟨⟨⟨hlenP,hlenN⟩,okA⟩,okP⟩,okV⟩,okPo⟩,LU⟩:=hok
  refine ⟨hM.call.1,fun w I ρ h vs H hp hlen hrep hfr=> ?_⟩
  have hh: ∀i b,pre[i]? =some b→h (κ i)=some (Gy (V2 κ κ) b):=fun i b hb=>hp _ _ (hpre i b hb)
  have hρ: ∀i,i<pre.length→∃y,ρ (κ i)=some y:=fun i hi=>(H.blk _ _ (hh i _ (lG hi))).rho
  let ρ0:Rho:=fun q=>if JB pre.length 0 q=true then ρ (V2 κ κ q)else none
  have hρ0: ∀i,i<pre.length→ρ0 (W7 i)=ρ (κ i):=by
    intro i hi
    show (if JB pre.length 0 (W7 i)=true then _ else _)=_
    rw [bB (by simp [JB,W7,hi]),HP]
  have hk0: ∀q y,JB pre.length 0 q=true→ρ (V2 κ κ q)=some y→ρ0 (id q)=some y:=by
    intro q y hq hy
    show (if JB pre.length 0 q=true then _ else _)=_
    rw [bB hq];exact hy
  have hdom: ∀q b,G (Qz 0 pre) q=some b→∃i,i<pre.length∧q=W7 i∧pre[i]? =some b∧h (κ i)=some (Gy (V2 κ κ) b)∧L9 ρ0 q b=L9 ρ (κ i) (Gy (V2 κ κ) b):=by
    intro q b hq
    obtain ⟨i,rfl,h2⟩:=HS hq
    rw [bN]
    have hi:i<pre.length:=(lH.1 h2).1
    exact ⟨i,hi,rfl,h2,hh i b h2,by rw [Z2];exact Ie b (hρ0 i hi)⟩
  have H0:HeapOK w I ρ0 (G (Qz 0 pre)):=by
    refine ⟨fun q b hq=> ?_,fun q q' b b' g h1 h2 h3 h4=> ?_,fun q b g h1 h2=> ?_,fun q b g h1 h2=> ?_,H.ilt,⟨1,fun d x hx=> ?_⟩,fun q y hy=> ?_⟩
    ·obtain ⟨i,hi,rfl,h2,h3,_⟩:=hdom q b hq
     have:=dZ (f:=V2 κ κ) (g:=id) (ρ':=ρ0) (k':=W7 i) (lX.1 okP b (lF h2)) (H.blk _ _ h3) (fun y hy=>by rw [hρ0 i hi];exact hy) hk0
     rwa [WB]at this
    ·obtain ⟨i,hi,rfl,_,a3,a4⟩:=hdom q b h1
     obtain ⟨j,hj,rfl,_,b3,b4⟩:=hdom q' b' h2
     rw [a4]at h3;rw [b4]at h4
     rw [hinj i j hi hj (H.sep _ _ _ _ g a3 b3 h3 h4)]
    ·obtain ⟨i,hi,rfl,_,a3,a4⟩:=hdom q b h1
     rw [a4]at h2;exact H.notI _ _ g a3 h2
    ·obtain ⟨i,hi,rfl,_,a3,a4⟩:=hdom q b h1
     rw [a4]at h2;exact H.lt _ _ g a3 h2
    ·show (if JB pre.length 0 (d,x)=true then _ else _)=none
     rw [bC]
     intro e
     rcases MH e with ⟨i,_,e⟩|⟨j,hj,_⟩
     ·simp only [W7,Prod.mk.injEq]at e;omega
     ·omega
    ·have hy':(if JB pre.length 0 q=true then ρ (V2 κ κ q)else none)=some y:=hy
     split at hy'
     ·exact H.rone _ y hy'
     ·cases hy'
  have hown0: ∀g,own ρ0 (G (Qz 0 pre)) g→own ρ h g:=by
    rintro g ⟨q,b,h1,h2⟩
    obtain ⟨i,hi,rfl,_,a3,a4⟩:=hdom q b h1
    exact ⟨κ i,_,a3,by rw [← a4];exact h2⟩
  have hown1: ∀k b g,h k=some b→(∀i,i<pre.length→k≠κ i)→L9 ρ k b=some g→¬own ρ0 (G (Qz 0 pre)) g:=by
    rintro k b g hk hne hl ⟨q,b',h1,h2⟩
    obtain ⟨i,hi,rfl,_,a3,a4⟩:=hdom q b' h1
    rw [a4]at h2
    exact hne i hi (H.sep _ _ _ _ g hk a3 hl h2)
  have hκS: ∀i j,i<pre.length→j<6→κ i≠(S+j,u):=by
    intro i j hi hj e
    obtain ⟨y,hy⟩:=hρ i hi
    rw [e,hfr j hj]at hy;cases hy
  refine (hM.call.2 w I ρ0 vs H0 (by simpa using hlen) (fun i c hc=> ?_)).mono ?_
  ·have hc':=hrep i _ (Nc hc)
   have:=UG (g:=id) (ρ':=ρ0) (lX.1 okA c (lF hc)) hc' hk0
   rwa [WA]at this
  rintro e w' ⟨x,v',I',ρ0',h',rfl,hv',H',T',σ,rfl,hpost,hnew,hσo,hσi⟩
  let ρ1:Rho:=fun q=>if q.2=u∧S≤q.1∧q.1<S+new.length then ρ0' (σ (q.1 - S))else ρ q
  have hle0: ∀i,i<pre.length→ρ0' (W7 i)=ρ (κ i):=by
    intro i hi
    obtain ⟨y,hy⟩:=hρ i hi
    rw [hy];exact T'.rho _ _ (by rw [hρ0 i hi];exact hy)
  have hρ1n: ∀j,j<new.length→ρ1 (S+j,u)=ρ0' (σ j):=by
    intro j hj
    show (if u=u∧S≤S+j∧S+j<S+new.length then _ else _)=_
    rw [bB ⟨rfl,by omega,by omega⟩]
    simp
  have hρ1o: ∀q,(∀j,j<new.length→q≠(S+j,u))→ρ1 q=ρ q:=by
    rintro ⟨a,b⟩ hq
    show (if b=u∧S≤a∧a<S+new.length then _ else _)=_
    rw [bC]
    rintro ⟨rfl,h1,h2⟩
    exact hq (a - S) (by omega) (by simp only [Prod.mk.injEq,and_true];omega)
  have hρ1κ: ∀i,i<pre.length→ρ1 (κ i)=ρ (κ i):=fun i hi=>hρ1o _ fun j hj=>hκS i j hi (by omega)
  have hle1:ρ.le ρ1:=by
    intro k y hy
    rw [hρ1o]
    ·exact hy
    ·rintro j hj rfl
     rw [hfr j (by omega)]at hy;cases hy
  -- the keys of what is handed out
  have hk1: ∀q y,JB pre.length new.length q=true→ρ0' (V2 W7 σ q)=some y→ρ1 (V2 κ (fun j=>(S+j,u)) q)=some y:=by
    intro q y hq hy
    rcases MH hq with ⟨i,hi,rfl⟩|⟨j,hj,hj',rfl⟩
    ·rw [HP]at hy ⊢;rw [hρ1κ i hi,← hle0 i hi];exact hy
    ·rw [SM _ _ hj']at hy ⊢;rw [hρ1n j hj];exact hy
  -- what is touched, as the callee has it
  have htouch: ∀k b,(k,some b)∈Oc κ (V2 κ fun j=>(S+j,u)) 0 post++Sd u S (V2 κ fun j=>(S+j,u)) 0 new→
   ∃q b0,aX (JB pre.length new.length) b0=true∧h' q=some (Gy (V2 W7 σ) b0)∧b=Gy (V2 κ fun j=>(S+j,u)) b0∧ρ1 k=ρ0' q∧((∃i,i<pre.length∧q=W7 i∧k=κ i)∨∃j,j<new.length∧q=σ j∧k=(S+j,u)):=by
    intro k b hm
    rcases lR.1 hm with hm|hm
    ·obtain ⟨i,b0,h1,h2⟩:=AL hm
     rw [bN]at h2
     cases b0 with
     |none=>simp at h2
     |some b0=>
      simp only [lE,Prod.mk.injEq,Option.some.injEq]at h2
      obtain ⟨rfl,rfl⟩:=h2
      have hi:i<pre.length:=by rw [← hlenP];exact (lH.1 h1).1
      exact ⟨W7 i,b0,lX.1 okPo (some b0) (lF h1),hpost i b0 h1,rfl,by rw [hρ1κ i hi,hle0 i hi], .inl ⟨i,hi,rfl,rfl⟩⟩
    ·obtain ⟨j,b0,h1,h2⟩:=AM hm
     rw [bN]at h2
     cases b0 with
     |none=>simp at h2
     |some b0=>
      simp only [lE,Prod.mk.injEq,Option.some.injEq]at h2
      obtain ⟨rfl,rfl⟩:=h2
      have hj:j<new.length:=(lH.1 h1).1
      exact ⟨σ j,b0,lX.1 LU (some b0) (lF h1),hnew j b0 h1,rfl,hρ1n j hj, .inr ⟨j,hj,rfl,rfl⟩⟩
  have hinjT: ∀{k k' q q':D6},((∃i,i<pre.length∧q=W7 i∧k=κ i)∨∃j,j<new.length∧q=σ j∧k=(S+j,u))→((∃i,i<pre.length∧q'=W7 i∧k'=κ i)∨∃j,j<new.length∧q'=σ j∧k'=(S+j,u))→q=q'→k=k':=by
    rintro k k' q q' (⟨i,hi,rfl,rfl⟩|⟨j,hj,rfl,rfl⟩) (⟨i',hi',rfl,rfl⟩|⟨j',hj',rfl,rfl⟩) e
    ·rw [HQ e]
    ·exact absurd e.symm (hσo j' hj' i hi)
    ·exact absurd e (hσo j hj i' hi')
    ·rw [hσi j j' hj hj' e]
  -- what is not touched
  have hrest: ∀k b,k∉ (Oc κ (V2 κ fun j=>(S+j,u)) 0 post++Sd u S (V2 κ fun j=>(S+j,u)) 0 new).map (·.1)→h k=some b→(∀i,i<pre.length→k≠κ i)∧ρ1 k=ρ k∧∀g,L9 ρ k b=some g→w'.heap[g]? =w.heap[g]?∧¬own ρ0 (G (Qz 0 pre)) g:=by
    intro k b hn hk
    have hne: ∀i,i<pre.length→k≠κ i:=by
      rintro i hi rfl
      apply hn
      have: ∀(l:List (Option Blk)) (n:Nat),i<l.length→κ (n+i)∈(Oc κ (V2 κ fun j=>(S+j,u)) n l).map (·.1):=by
        intro l
        induction i with
        |zero=>intro n hl;cases l with|nil=>simp at hl|cons=>simp [Oc]
        |succ i _=>
         intro n hl
         have key: ∀(i:Nat) (l:List (Option Blk)) (n:Nat),i<l.length→κ (n+i)∈(Oc κ (V2 κ fun j=>(S+j,u)) n l).map (·.1):=by
           intro i
           induction i with
           |zero=>intro l n hl;cases l with|nil=>simp at hl|cons=>simp [Oc]
           |succ i ih=>
            intro l n hl
            cases l with
            |nil=>simp at hl
            |cons b r=>
             have:=ih r (n+1) (by simpa using hl)
             rw [show n+1+i=n+ (i+1) by omega]at this
             simp only [Oc,lP,lS]
             exact .inr this
         exact key (i+1) l n hl
      rw [List.map_append,lR]
      exact .inl (by have:=this post 0 (by rw [hlenP];exact hi);rwa [bN]at this)
    refine ⟨hne,?_,fun g hg=>⟨T'.frame g (H.lt k b g hk hg) (hown1 k b g hk hne hg),hown1 k b g hk hne hg⟩⟩
    obtain ⟨y,hy⟩:=(H.blk k b hk).rho
    rw [hle1 k y hy,hy]
  have hfrI: ∀b,I b→w'.heap[b]? =w.heap[b]?:=fun b hb=>T'.frame b (H.ilt b hb) (fun ho=>H0.own_notI ho hb)
  generalize hups:Oc κ (V2 κ fun j=>(S+j,u)) 0 post++Sd u S (V2 κ fun j=>(S+j,u)) 0 new=ups at htouch hrest
  have hcase: ∀k b,N3 h ups k=some b→(h k=some b∧k∉ups.map (·.1))∨(k,some b)∈ups:=fun k b hb=>(Tm ups h k (some b) hb).imp (fun q=>⟨q.2,q.1⟩) id
  have hlocR: ∀k b,h k=some b→k∉ups.map (·.1)→L9 ρ1 k b=L9 ρ k b:=fun k b hb hn=>Ie b (hrest k b hn hb).2.1
  have H1:HeapOK w' I' ρ1 (N3 h ups):=by
    refine ⟨fun k b hb=> ?_,fun k k' b b' g h1 h2 h3 h4=> ?_,fun k b g h1 h2 hi=> ?_,fun k b g h1 h2=> ?_,H'.ilt,?_,fun k y hy=> ?_⟩
    ·rcases hcase k b hb with ⟨a1,a2⟩|hm
     ·exact (H.blk k b a1).keep (fun g hg=>((hrest k b a2 a1).2.2 g hg).1) hfrI T'.imm hle1
     ·obtain ⟨q,b0,c1,c2,rfl,c4,_⟩:=htouch k b hm
      exact dZ c1 (H'.blk _ _ c2) (fun y hy=>by rw [c4];exact hy) hk1
    ·rcases hcase k b h1 with ⟨a1,a2⟩|hm
     ·rw [hlocR k b a1 a2]at h3
      rcases hcase k' b' h2 with ⟨b1,b2⟩|hm'
      ·rw [hlocR k' b' b1 b2]at h4
       exact H.sep k k' b b' g a1 b1 h3 h4
      ·exfalso
       obtain ⟨q,b0,c1,c2,rfl,c4,_⟩:=htouch k' b' hm'
       rw [Z2,Ie b0 c4]at h4
       exact ((hrest k b a2 a1).2.2 g h3).2 (T'.ownBack g ⟨q,_,c2,by rw [Z2];exact h4⟩ (H.lt k b g a1 h3))
     ·obtain ⟨q,b0,c1,c2,rfl,c4,c5⟩:=htouch k b hm
      rw [Z2,Ie b0 c4]at h3
      rcases hcase k' b' h2 with ⟨b1,b2⟩|hm'
      ·exfalso
       rw [hlocR k' b' b1 b2]at h4
       exact ((hrest k' b' b2 b1).2.2 g h4).2 (T'.ownBack g ⟨q,_,c2,by rw [Z2];exact h3⟩ (H.lt k' b' g b1 h4))
      ·obtain ⟨q',b0',d1,d2,rfl,d4,d5⟩:=htouch k' b' hm'
       rw [Z2,Ie b0' d4]at h4
       exact hinjT c5 d5 (H'.sep q q' _ _ g c2 d2 (by rw [Z2];exact h3) (by rw [Z2];exact h4))
    ·rcases hcase k b h1 with ⟨a1,a2⟩|hm
     ·rw [hlocR k b a1 a2]at h2
      rcases T'.immBack g hi (H.lt k b g a1 h2)with q|q
      ·exact H.notI k b g a1 h2 q
      ·exact ((hrest k b a2 a1).2.2 g h2).2 q
     ·obtain ⟨q,b0,c1,c2,rfl,c4,_⟩:=htouch k b hm
      rw [Z2,Ie b0 c4]at h2
      exact H'.notI q _ g c2 (by rw [Z2];exact h2) hi
    ·rcases hcase k b h1 with ⟨a1,a2⟩|hm
     ·rw [hlocR k b a1 a2]at h2
      exact bO (H.lt k b g a1 h2) T'.size
     ·obtain ⟨q,b0,c1,c2,rfl,c4,_⟩:=htouch k b hm
      rw [Z2,Ie b0 c4]at h2
      exact H'.lt q _ g c2 (by rw [Z2];exact h2)
    ·obtain ⟨u0,hu0⟩:=H.fresh
     refine ⟨max u0 (u+1),fun d x hx=> ?_⟩
     rw [hρ1o _ (fun j _ e=>by simp only [Prod.mk.injEq]at e;omega)]
     exact hu0 d x (by omega)
    ·have hy':(if k.2=u∧S≤k.1∧k.1<S+new.length then ρ0' (σ (k.1 - S))else ρ k)=some y:=hy
     split at hy'
     ·exact H'.rone _ y hy'
     ·exact H.rone _ y hy'
  refine ⟨x,I',ρ1,rfl,eL okV hv' hk1,H1,⟨T'.os,T'.tape,T'.output,T'.size,fun b hb hn=>T'.frame b hb (fun ho=>hn (hown0 b ho)),T'.imm,fun b hb hl=>(T'.immBack b hb hl).imp id (hown0 b),?_,hle1⟩,fun k hk=>hρ1o k fun j hj=>hk j (by omega)⟩
  rintro b ⟨k,c,h1,h2⟩ hl
  rcases hcase k c h1 with ⟨a1,a2⟩|hm
  ·exact ⟨k,c,a1,by rw [← hlocR k c a1 a2];exact h2⟩
  ·obtain ⟨q,b0,c1,c2,rfl,c4,_⟩:=htouch k c hm
   rw [Z2,Ie b0 c4]at h2
   exact hown0 b (T'.ownBack b ⟨q,_,c2,by rw [Z2];exact h2⟩ hl)
end Go.Abs
namespace Go.Abs
open Go
theorem Xa {α:Type}{l:List α}(h:l.Nodup){i j:Nat}(hi:i<l.length)(hj:j<l.length)(e:l[i]=l[j]):i=j:=by
  have h':=List.pairwise_iff_getElem.1 h
  rcases Nat.lt_trichotomy i j with q|q|q
  ·exact absurd e (h' i j hi hj q)
  ·exact q
  ·exact absurd e.symm (h' j i hj hi q)
def Ec (l:List D6)(i:Nat):D6:=l.getD i (0,0)
section
variable {P:Program}{N:Nat}
/-- Less is known of what is handed in. -/
theorem FCall.le {u S:Nat}{f:FuncId}{avs avs':List AV}{pre pre':D2}{v:AV}{ups:List (D6×Option Blk)}(hF:FCall P u S f avs' pre v ups)(ha:All2 AVle avs avs')(hp: ∀q b,pre q=some b→∃b',pre' q=some b'∧BlkLe b' b)(hu: ∀q b,pre q=some b→q∈ups.map (·.1)):FCall P u S f avs pre' v ups:=by
  refine ⟨hF.1,fun w I ρ h vs H hh hlen hrep hfr=> ?_⟩
  let h1:D2:=fun q=>match pre q with|some b=>some b|none=>h q
  have h1p: ∀q b,pre q=some b→h1 q=some b:=fun q b hb=>by show (match pre q with|some b=>some b|none=>h q)=_;rw [hb]
  have h1n: ∀q,pre q=none→h1 q=h q:=fun q hb=>by show (match pre q with|some b=>some b|none=>h q)=_;rw [hb]
  have S1:Sb ⟨fun _=> .any,h1⟩ ⟨fun _=> .any,h⟩:=by
    refine ⟨fun i=> .any _,fun k b hb=> ?_⟩
    cases hq:pre k with
    |none=>exact ⟨b,by show h k=some b;rw [← h1n k hq];exact hb, .refl b⟩
    |some b0=>
     obtain rfl:b0=b:=by have:=hb;dsimp only at this;rw [h1p k b0 hq]at this;exact lC this
     obtain ⟨b',e1,e2⟩:=hp k b0 hq
     exact ⟨b',hh k b' e1,e2⟩
  have hup:N3 h1 ups=N3 h ups:=by
    funext q
    by_cases e:q∈ups.map (·.1)
    ·exact Mx ups _ _ q e
    ·rw [Ao _ _ _ e,Ao _ _ _ e]
     cases hq:pre q with
     |none=>exact h1n q hq
     |some b=>exact absurd (hu q b hq) e
  have hown: ∀g,own ρ h1 g→own ρ h g:=fun g hg=>S1.own hg
  have hown': ∀g,own ρ h g→own ρ h1 g:=by
    rintro g ⟨k,b,e1,e2⟩
    cases hq:pre k with
    |none=>exact ⟨k,b,by rw [h1n k hq];exact e1,e2⟩
    |some b0=>
     obtain ⟨b',g1,g2⟩:=hp k b0 hq
     have:b'=b:=by have:=hh k b' g1;rw [e1]at this;exact (lC this).symm
     subst this
     exact ⟨k,b0,h1p k b0 hq,by rw [g2.loc];exact e2⟩
  refine (hF.2 w I ρ h1 vs (S1.heapOK H) h1p (by rw [← ha.length];exact hlen) (fun i c hc=> ?_) hfr).mono ?_
  ·obtain ⟨a,e1,e2⟩:=ha.get hc
   exact e2 _ _ _ _ (hrep i a e1)
  rintro e w' ⟨x,I',ρ',rfl,r1,r2,r3,r4⟩
  rw [hup]at r2 r3
  exact ⟨x,I',ρ',rfl,r1,r2,⟨r3.os,r3.tape,r3.output,r3.size,fun b hb hn=>r3.frame b hb fun ho=>hn (hown b ho),r3.imm,fun b hb hl=>(r3.immBack b hb hl).imp id (hown b),fun b hb hl=>hown b (r3.ownBack b hb hl),r3.rho⟩,r4⟩
/-- What is handed in becomes data. -/
theorem PCall.freezeF {u S:Nat}{f:FuncId}{ds:List D}{r:D}(hp:PCall P f ds r){avs:List AV}{h0:D2}(hd:M7 (L8 h0 6) avs=some ds):
    FCall P u S f avs (O7 h0 (avs.flatMap (O6 h0 6))) (.d r) ((avs.flatMap (O6 h0 6)).map fun k=>(k,none)):=by
  refine ⟨hp.1,fun w I ρ h vs H hh hlen hrep _=> ?_⟩
  have hlive:=Kl avs ds hd
  have heq: ∀q∈avs.flatMap (O6 h0 6),h q=h0 q:=by
    intro q hq
    cases hb:h0 q with
    |none=>exact absurd hb (hlive q hq)
    |some b=>exact hh q b (by unfold O7;rw [bB hq,hb])
  have hd':M7 (L8 h 6) avs=some ds:=by rw [← hd];exact Ir avs heq
  rw [← Rn avs heq]
  clear hd hh heq hlive
  generalize hks:avs.flatMap (O6 h 6)=ks at*
  have hks': ∀q∈ks,h q≠none:=by rw [← hks];exact Kl avs ds hd'
  have hU:N3 h (ks.map fun k=>(k,none))=fun q=>if q∈ks then none else h q:=by
    funext q
    by_cases e:q∈ks
    ·rw [bB e]
     cases hb:N3 h (ks.map fun k=>(k,none)) q with
     |none=>rfl
     |some b=>
      rcases Tm _ _ _ _ hb with ⟨a,_⟩|a
      ·exact absurd (by simp only [List.map_map,List.mem_map,Function.comp];exact ⟨q,e,rfl⟩) a
      ·simp at a
    ·rw [bC e,Ao]
     simp only [List.map_map,List.mem_map,Function.comp]
     rintro ⟨x,hx,rfl⟩
     exact e hx
  rw [hU]
  let hk:D2:=O7 h ks
  have hsub: ∀q b,hk q=some b→h q=some b:=by
    intro q b hq
    have:(if q∈ks then h q else none)=some b:=hq
    split at this
    ·exact this
    ·cases this
  let hf:D2:=fun q=>if q∈ks then none else h q
  have hsubf: ∀q b,hf q=some b→h q=some b∧q∉ks:=by
    intro q b hq
    have:(if q∈ks then none else h q)=some b:=hq
    split at this
    ·cases this
    ·exact ⟨this,‹_›⟩
  have H1:=H.sub hsub
  have H2:=H.sub (fun q b hq=>(hsubf q b hq).1)
  have hdk:M7 (L8 hk 6) avs=some ds:=by
    rw [← hd']
    refine Ir avs fun q hq=> ?_
    rw [hks]at hq
    show (if q∈ks then h q else none)=h q
    rw [bB hq]
  obtain ⟨l1,l2⟩:=Cg hdk
  have hsep: ∀g,own ρ hf g→¬own ρ hk g:=by
    rintro g ⟨k,b,a1,a2⟩ ⟨k',b',c1,c2⟩
    obtain ⟨e1,e2⟩:=hsubf k b a1
    have:=H.sep k k' b b' g e1 (hsub k' b' c1) a2 c2
    subst this
    apply e2
    have:(if k∈ks then h k else none)=some b':=c1
    split at this
    ·assumption
    ·cases this
  have hI1: ∀b,(I b∨own ρ hk b)→b<w.heap.size:=fun b hb=>by
    rcases hb with h|h
    ·exact H.ilt b h
    ·exact H1.own_lt h
  refine (hp.2 w (fun b=>I b∨own ρ hk b) vs hI1 (by omega) (fun i d hi=>by
    obtain ⟨x,hx,hfx⟩:=l2 i d hi
    exact Fs H1 6 x d _ (hrep i x hx) hfx)).mono ?_
  rintro e w' ⟨x,I',rfl,hr,tr⟩
  have hnI: ∀g,own ρ hf g→¬I' g:=fun g hg hi=>by
    rcases tr.immBack g hi (H2.own_lt hg)with q|q
    ·exact H2.own_notI hg q
    ·exact hsep g hg q
  have H3:HeapOK w' I' ρ hf:=H2.keep (fun g hg=>tr.frame g (H2.own_lt hg)) (fun b hb=>tr.frame b (H.ilt b hb)) (fun b hb=>tr.imm b (.inl hb)) hnI tr.ilt (fun _ _ h=>h) tr.size H.fresh H.rone
  refine ⟨x,I',ρ,rfl, .d _ _ hr,H3,⟨tr.os,tr.tape,tr.output,tr.size,fun b hb _=>tr.frame b hb,fun b hb=>tr.imm b (.inl hb),fun b hb hl=>(tr.immBack b hb hl).imp id fun ⟨k,c,a1,a2⟩=>⟨k,c,hsub k c a1,a2⟩,?_,fun _ _ h=>h⟩,fun _ _=>rfl⟩
  rintro b ⟨k,c,a1,a2⟩ _
  exact ⟨k,c,(hsubf k c a1).1,a2⟩
/-- A pure contract, where what is handed in is untouched and the answer needs no memory of it. -/
theorem ICall.le {f:FuncId}{avs:List AV}{h:D2}{K K':AV→D2→Prop}(hI:ICall P f avs h K)(hk: ∀v h,K v h→K' v h):ICall P f avs h K':=hI.mono hk
/-! ### How such a contract is shown -/
theorem ZV {f:FuncId}{rs:List RV}{ac:AC}(F:FnOK P f N rs ac){avs:List AV}{pre:List Blk}{v:AV}{post:List (Option Blk)}{new:List (Option Blk)}(hok:XV avs pre v post new=true)(hl:avs.length≤N)
    (h:Z9 P N none [.c ac] (fun e s=>(e= .nrm∨e= .ret)∧∃v' v1 g1,Uv s.t s.h rs=some v'∧AVle v' v1∧Yj s.h g1∧Vy pre.length v post new v1 (G g1)) .nrm ⟨EW avs,G (Qz 0 pre)⟩):MCall P f avs pre v post new:=by
  refine ⟨hok,F.enters,?_⟩
  obtain ⟨fn,c,hf,hb,hN,hrs,⟨M,hc⟩,hn⟩:=F.ex
  intro w I ρ vs H hlen hrep
  have hsim:=Rw (n:=N) H hlen (by omega) hrep
  rw [← hN]at hsim
  refine Kn (Q:=fun e s=>(e= .nrm∨e= .ret)∧∃v' v1 g1,Uv s.t s.h rs=some v'∧AVle v' v1∧Yj s.h g1∧Vy pre.length v post new v1 (G g1)) hf hb rfl hsim (by rw [hN];exact h M c hc) ?_
  rintro e s' a' w' I' ρ' ⟨he,v',v1,g1,hv,hle,hg,hp⟩ hs' tr
  obtain ⟨x,hx,hr⟩:=AB hs' hrs hv
  have S1:Sb ⟨T [],G g1⟩ s':=by cases s';exact D0 trivial hg
  exact ⟨he,x,hx,x,v1,I',ρ',G g1,rfl,hle _ _ _ _ hr,S1.heapOK hs'.heap,⟨tr.os,tr.tape,tr.output,tr.size,tr.frame,tr.imm,tr.immBack,fun b hb hl=>tr.ownBack b (S1.own hb) hl,tr.rho⟩,hp⟩
def Se:List AV→Nat→List (Nat×AV)
  | [],_=> []
  |a::r,n=>(n,a)::Se r (n+1)
theorem DI: ∀(avs:List AV) (n i:Nat),T (Se avs n) (n+i)=avs.getD i .any
  | [],n,i=>by simp [Se,bR]
  |a::r,n,i=>by
   rw [Se,ZJ]
   cases i with
   |zero=>rw [bB (by simp)];rfl
   |succ i=>rw [bC (by omega),show n+ (i+1)=n+1+i by omega,DI r (n+1) i];rfl
theorem FD (avs:List AV):EW avs=T (Se avs 0):=by
  funext i
  have:=DI avs 0 i
  rw [bN]at this
  rw [this];rfl
def MI (h:D2)(f:D6→D6):Nat→List (Option Blk)→Prop
  |_,[]=>True
  |i,b::r=>(match b with|some b=>h (W7 i)=some (Gy f b)|none=>True)∧MI h f (i+1) r
theorem Xb {h:D2}{f:D6→D6}: ∀{l:List (Option Blk)} {n i:Nat} {b:Blk},MI h f n l→l[i]? =some (some b)→h (W7 (n+i))=some (Gy f b)
  | [],n,i,b,_,hb=>by simp at hb
  |x::r,n,i,b,hp,hb=>by
   cases i with
   |zero=>simp at hb;subst hb;exact hp.1
   |succ i=>rw [show n+ (i+1)=n+1+i by omega];exact Xb hp.2 (by simpa using hb)
def WC (h:D2)(f:D6→D6):List D6→List (Option Blk)→Prop
  |_,[]=>True
  | [],_::_=>False
  |k::ks,b::r=>h k=b.map (Gy f)∧WC h f ks r
theorem AN {h:D2}{f:D6→D6}: ∀{ks:List D6} {l:List (Option Blk)} {i:Nat} {b:Blk},WC h f ks l→l[i]? =some (some b)→h (Ec ks i)=some (Gy f b)
  |ks,[],i,b,_,hb=>by simp at hb
  | [],_::_,i,b,hp,_=>hp.elim
  |k::ks,x::r,i,b,hp,hb=>by
   cases i with
   |zero=>simp at hb;subst hb;exact hp.1
   |succ i=>exact AN (ks:=ks) hp.2 (by simpa using hb)
theorem SN {d u:Nat}(h:Nat.blt d 900000=true)(i:Nat):(d,u)≠W7 i:=by
  rw [Nat.blt_eq]at h
  intro e
  simp only [W7,Prod.mk.injEq]at e;omega
theorem SO {n:Nat}{v v1:AV}{post:List (Option Blk)}{new:List (Option Blk)}{h:D2}(σs:List D6)(hv:v1=FC (V2 W7 (Ec σs)) v)(hpost:MI h (V2 W7 (Ec σs)) 0 post)(hnew:WC h (V2 W7 (Ec σs)) σs new)
    (hl:σs.length=new.length) (hd: ∀k∈σs,∀i,k≠W7 i) (hnd:σs.Nodup):Vy n v post new v1 h:=by
  have hget: ∀j,j<new.length→Ec σs j∈σs:=by
    intro j hj
    simp only [Ec,List.getD,lG (show j<σs.length by omega),Option.getD_some]
    exact List.getElem_mem _
  refine ⟨Ec σs,hv,fun i b hb=> ?_,fun j b hb=>AN hnew hb,fun j hj i _=>hd _ (hget j hj) i,fun j j' hj hj' e=> ?_⟩
  ·have:=Xb hpost hb
   rwa [bN]at this
  ·simp only [Ec,List.getD,lG (show j<σs.length by omega),lG (show j'<σs.length by omega),Option.getD_some]at e
   exact Xa hnd (by omega) (by omega) e
theorem XW {t:Nat→AV}{h:D2}{rs:List RV}{e:Ex}{n:Nat}{v v' v1:AV}{post:List (Option Blk)}{new:List (Option Blk)}(he:e= .nrm∨e= .ret)(h1:Uv t h rs=some v')(h2:AVle v' v1)(g1:List (D6×Option Blk))(h3:Yj h g1)(h4:Vy n v post new v1 (G g1)):
    (e= .nrm∨e= .ret)∧∃v' v1 g1,Uv (⟨t,h⟩:St).t (⟨t,h⟩:St).h rs=some v'∧AVle v' v1∧Yj (⟨t,h⟩:St).h g1∧Vy n v post new v1 (G g1):=⟨he,v',v1,g1,h1,h2,h3,h4⟩
theorem bX {t:Nat→AV}{h:D2}:Uv t h []=some (.tup []):=rfl
theorem Ub {t:Nat→AV}{h:D2}{a:RV}{v:AV}(hv:Uu t h a=some v):Uv t h [a]=some v:=by simp only [Uv,Yi,hv]
end
/-! ### How it is used -/
theorem R7 {h:D2}{n:Nat}{k:D6}{off:Nat}{ty:TypeId}{cs:List AV}{ks:List D6}(hb:h k=some (.box ty cs))(hc:cs.flatMap (O6 h n)=ks):O6 h (n+1) (.ptr k off)=k::ks:=by simp only [O6,hb,hc]
theorem Xv {h:D2}{n:Nat}{k:D6}:O6 h (n+1) (.sl k)= [k]:=rfl
theorem Mj {h:D2}{n:Nat}{x:D}:O6 h n (.d x)= []:=by cases n<;>rfl
theorem P0 {h:D2}{n:Nat}:([]:List AV).flatMap (O6 h n)= []:=rfl
theorem G2 {h:D2}{n:Nat}{x:AV}{r:List AV}{a b:List D6}(h1:O6 h n x=a)(h2:r.flatMap (O6 h n)=b):(x::r).flatMap (O6 h n)=a++b:=by rw [l4,h1,h2]
def OR (h:D2):List D6→List Blk→Prop
  | [],[]=>True
  |k::ks,b::bs=>(∃b',h k=some b'∧BlkLe b' b)∧OR h ks bs
  |_,_=>False
theorem AO {h:D2}: ∀{ks:List D6} {bs:List Blk},OR h ks bs→ks.length=bs.length
  | [],[],_=>rfl
  |_::ks,_::bs,hp=>by simp [AO hp.2]
  | [],_::_,hp=>hp.elim
  |_::_,[],hp=>hp.elim
theorem HT {h:D2}: ∀{ks:List D6} {bs:List Blk} {i:Nat} {b:Blk},OR h ks bs→bs[i]? =some b→Ec ks i∈ks∧∃b',h (Ec ks i)=some b'∧BlkLe b' b
  | [],[],i,b,_,hb=>by simp at hb
  |k::ks,c::bs,i,b,hp,hb=>by
   cases i with
   |zero=>simp at hb;subst hb;exact ⟨by simp [Ec],hp.1⟩
   |succ i=>
    obtain ⟨g1,g2⟩:=HT (ks:=ks) (bs:=bs) (i:=i) hp.2 (by simpa using hb)
    exact ⟨by simp only [Ec,List.getD_cons_succ]at g1 ⊢;exact List.mem_cons_of_mem _ g1,g2⟩
  | [],_::_,_,_,hp,_=>hp.elim
  |_::_,[],_,_,hp,_=>hp.elim
/-- A call of such a function, at the keys of the caller. -/
theorem MCall.at {P:Program}{u S:Nat}{f:FuncId}{avs avs0:List AV}{pre:List Blk}{v:AV}{post:List (Option Blk)}{new:List (Option Blk)}{h:D2}(hM:MCall P f avs0 pre v post new)(κs:List D6)(ks:List D6)
    (hle:All2 AVle avs (avs0.map (CC (V2 (Ec κs) (Ec κs))))) (hpre:OR h κs (pre.map (Gy (V2 (Ec κs) (Ec κs))))) (hsub: ∀k∈κs,k∈ks) (hnd:κs.Nodup):
    FCall P u S f avs (O7 h ks) (FC (V2 (Ec κs) fun j=>(S+j,u)) v) (Oc (Ec κs) (V2 (Ec κs) fun j=>(S+j,u)) 0 post++Sd u S (V2 (Ec κs) fun j=>(S+j,u)) 0 new):=by
  have hlen:κs.length=pre.length:=by simpa using AO hpre
  have hok:=hM.ok
  simp only [XV,bD,bF,Nat.ble_eq]at hok
  have hinj: ∀i i',i<pre.length→i'<pre.length→Ec κs i=Ec κs i'→i=i':=by
    intro i i' hi hi' e
    simp only [Ec,List.getD,lG (show i<κs.length by omega),lG (show i'<κs.length by omega),Option.getD_some]at e
    exact Xa hnd (by omega) (by omega) e
  let preH:D2:=fun q=>match (List.range pre.length).find? fun i=>Ec κs i==q with
    |some i=>(pre[i]?).map (Gy (V2 (Ec κs) (Ec κs)))
    |none=>none
  have hat: ∀i b,pre[i]? =some b→preH (Ec κs i)=some (Gy (V2 (Ec κs) (Ec κs)) b):=by
    intro i b hb
    have hi:i<pre.length:=(lH.1 hb).1
    show (match (List.range pre.length).find? fun i'=>Ec κs i'==Ec κs i with|some i=>(pre[i]?).map (Gy (V2 (Ec κs) (Ec κs)))|none=>none)=_
    cases hf:(List.range pre.length).find? fun i'=>Ec κs i'==Ec κs i with
    |none=>
     have:=List.find?_eq_none.1 hf i (by simpa using hi)
     simp at this
    |some j=>
     have h1:=List.find?_some hf
     have h2:=List.mem_of_find?_eq_some hf
     have:=hinj j i (by simpa using h2) hi (by simpa using h1)
     subst this
     simp only [hb,lE]
  have hinv: ∀q b,preH q=some b→∃i b0,pre[i]? =some b0∧q=Ec κs i∧b=Gy (V2 (Ec κs) (Ec κs)) b0:=by
    intro q b hq
    have hq':(match (List.range pre.length).find? fun i'=>Ec κs i'==q with|some i=>(pre[i]?).map (Gy (V2 (Ec κs) (Ec κs)))|none=>none)=some b:=hq
    split at hq'
    ·rename_i j hf
     have h1:=List.find?_some hf
     simp only [lD]at hq'
     obtain ⟨b0,e1,rfl⟩:=hq'
     exact ⟨j,b0,e1,(by simpa using h1:Ec κs j=q).symm,rfl⟩
    ·cases hq'
  refine FCall.le (hM.frame (Ec κs) hinj preH hat) hle (fun q b hq=> ?_) (fun q b hq=> ?_)
  ·obtain ⟨i,b0,e1,rfl,rfl⟩:=hinv q b hq
   obtain ⟨g1,b',g2,g3⟩:=HT hpre (Nc e1)
   exact ⟨b',by unfold O7;rw [bB (hsub _ g1)];exact g2,g3⟩
  ·obtain ⟨i,b0,e1,rfl,rfl⟩:=hinv q b hq
   rw [List.map_append,lR]
   left
   have hi:i<post.length:=by rw [hok.1.1.1.1.1.1];exact (lH.1 e1).1
   have key: ∀(i:Nat) (l:List (Option Blk)) (n:Nat) (f:D6→D6),i<l.length→Ec κs (n+i)∈(Oc (Ec κs) f n l).map (·.1):=by
     intro i
     induction i with
     |zero=>intro l n f hl;cases l with|nil=>simp at hl|cons=>simp [Oc]
     |succ i ih=>
      intro l n f hl
      cases l with
      |nil=>simp at hl
      |cons b r=>
       have:=ih r (n+1) f (by simpa using hl)
       rw [show n+1+i=n+ (i+1) by omega]at this
       simp only [Oc,lP,lS]
       exact .inr this
   have:=key i post 0 (V2 (Ec κs) fun j=>(S+j,u)) hi
   rwa [bN]at this
theorem ZW {u S:Nat}{κs ks:List D6}{post:List (Option Blk)}{new:List (Option Blk)}{f g:D6→D6}(hsub: ∀k∈κs,k∈ks)(hl:post.length=κs.length)(hn:new.length≤6):
    ∀q∈(Oc (Ec κs) f 0 post++Sd u S g 0 new).map (·.1),q∈ks∨∃j,j<6∧q=(S+j,u):=by
  intro q hq
  simp only [List.mem_map,lR]at hq
  obtain ⟨x,hx|hx,rfl⟩:=hq
  ·obtain ⟨j,b,h1,rfl⟩:=AL hx
   have hj:j<κs.length:=by rw [← hl];exact (lH.1 h1).1
   left
   refine hsub _ ?_
   simp only [bN,Ec,List.getD,lG hj,Option.getD_some]
   exact List.getElem_mem _
  ·obtain ⟨j,b,h1,rfl⟩:=AM hx
   have hj:j<new.length:=(lH.1 h1).1
   exact .inr ⟨j,by omega,by rw [bN]⟩
section
variable {P:Program}{u:Nat}{r:List AOp}{l:List (Nat×AV)}{g:List (D6×Option Blk)}
/-- What a call of such a function asks for, and gives. -/
structure OC (P:Program)(u:Nat)(l:List (Nat×AV))(g:List (D6×Option Blk))(S:Nat)(f:Opd)(args:List Opd)(v:AV)(ks:List D6)(us:List D6)(g':List (D6×Option Blk)):Prop where
  w: ∀K:AV→List (D6×Option Blk)→Prop,(∀ups,ups.map (·.1)=us→N3 (G g) ups=G g'→K v ups)→Rr P u (T l) (G g) S f args K
  ks:W2 (T l) (G g) (.ocall S f args)=ks
theorem Bu {S:Nat}{f:Opd}{args:List Opd}{fid:FuncId}{avs avs0:List AV}{pre:List Blk}{v v':AV}{post:List (Option Blk)}{new:List (Option Blk)}(hM:MCall P fid avs0 pre v post new)(κs ks us:List D6)(g':List (D6×Option Blk))
    (hc:Q5 (T l) f args=some (fid,avs)) (hle:All2 AVle avs (avs0.map (CC (V2 (Ec κs) (Ec κs))))) (hks:avs.flatMap (O6 (G g) 6)=ks) (hlive: ∀q∈ks,G g q≠none)
    (hpre:OR (G g) κs (pre.map (Gy (V2 (Ec κs) (Ec κs))))) (hsub: ∀k∈κs,k∈ks) (hnd:κs.Nodup) (hv:FC (V2 (Ec κs) fun j=>(S+j,u)) v=v')
    (hus:(Oc (Ec κs) (V2 (Ec κs) fun j=>(S+j,u)) 0 post++Sd u S (V2 (Ec κs) fun j=>(S+j,u)) 0 new).map (·.1)=us)
    (hg:N3 (G g) (Oc (Ec κs) (V2 (Ec κs) fun j=>(S+j,u)) 0 post++Sd u S (V2 (Ec κs) fun j=>(S+j,u)) 0 new)=G g'):OC P u l g S f args v' ks us g':=by
  have hok:=hM.ok
  simp only [XV,bD,bF,Nat.ble_eq]at hok
  have hlen:κs.length=pre.length:=by simpa using AO hpre
  refine ⟨fun K hK=> ?_,by simp only [W2,hc,hks]⟩
  simp only [Rr,hc,hks]
  refine ⟨v',_,?_,hlive,by rw [← hv];exact hM.at κs ks hle hpre hsub hnd,hK _ hus hg⟩
  exact ZW hsub (by rw [hok.1.1.1.1.1.1,hlen]) hok.1.1.1.1.1.2
/-- What is handed in becomes data. -/
theorem ZX {S:Nat}{f:Opd}{args:List Opd}{fid:FuncId}{avs:List AV}{ds ds':List D}{v:D}(ks:List D6)(g':List (D6×Option Blk))(hc:Q5 (T l) f args=some (fid,avs))(hd:M7 (L8 (G g) 6) avs=some ds)(hle:All2 DLe ds ds')
    (hp:PCall P fid ds' v) (hks:avs.flatMap (O6 (G g) 6)=ks) (hg:N3 (G g) (ks.map fun k=>(k,none))=G g'):OC P u l g S f args (.d v) ks ks g':=by
  refine ⟨fun K hK=> ?_,by simp only [W2,hc,hks]⟩
  simp only [Rr,hc]
  refine ⟨.d v,_,fun q hq=> .inl ?_,Kl avs ds hd,(hp.le hle).freezeF hd,hK _ ?_ (by rw [hks];exact hg)⟩
  ·simpa [List.map_map,Function.comp_def] using hq
  ·rw [hks];simp [List.map_map,Function.comp_def]
theorem Ed {K:(Nat→AV)→D2→Prop}{d S:Nat}{f:Opd}{args:List Opd}{v:AV}{ks us:List D6}{g':List (D6×Option Blk)}(h:OC P u l g S f args v ks us g')(hk:K1 P u r (T ((d,v)::l)) (G g') K):K1 P u (⟨some d, .ocall S f args,none⟩::r) (T l) (G g) K:=by
  refine Wx (by simp [U1]) ?_
  simp only [gW,Ve]
  exact h.w _ fun ups _ e=>by rw [e];exact hk
theorem CD {K:(Nat→AV)→D2→List (List D6×List D6)→Prop}{d S:Nat}{f:Opd}{args:List Opd}{v:AV}{ks us:List D6}{g':List (D6×Option Blk)}(h:OC P u l g S f args v ks us g')(hk:Di P u r (T ((d,v)::l)) (G g') fun t' h' tr=>K t' h' ((ks,us)::tr)):Di P u (⟨some d, .ocall S f args,none⟩::r) (T l) (G g) K:=by
  unfold Di
  simp only [gW,Ve]
  refine h.w _ fun ups e1 e=> ?_
  rw [e,e1,h.ks];exact hk
end
end Go.Abs
namespace Go.Abs
open Go
section
variable {P:Program}{N:Nat}
/-- What is handed back, where the blocks at some keys have become data. -/
def Xw (ks:List D6)(t:Nat→AV)(h:D2)(rs:List RV):Option D:=match Yi t h rs with
  |some vs=>match M7 (L8 (O7 h ks) 6) vs with
   |some [d]=>some d
   |some ds=>some (.tup ds)
   |none=>none
  |none=>none
def Vz (h:D2)(ks:List D6):Nat→List (Option Blk)→Prop
  |_,[]=>True
  |i,none::r=>Vz h ks (i+1) r
  |i,some (.box ty cs)::r=>(∃cs' ds ds',h (W7 i)=some (.box ty cs')∧W7 i∉ks∧M7 (L8 (O7 h ks) 6) cs'=some ds∧All2 DLe ds ds'∧cs=ds'.map .d)∧Vz h ks (i+1) r
  |i,some (.arr ty sz es)::r=>(h (W7 i)=some (.arr ty sz es)∧W7 i∉ks)∧Vz h ks (i+1) r
  |_,some (.obj _ _)::_=>False
  |_,some (.mp _)::_=>False
def Uc:Nat→List (Option Blk)→List (D6×Option Blk)
  |_,[]=> []
  |i,b::r=>(W7 i,b)::Uc (i+1) r
theorem DJ: ∀{l:List (Option Blk)} {i:Nat} {q:D6} {b:Blk},G (Uc i l) q=some b→∃j,q=W7 (i+j)∧l[j]? =some (some b)
  | [],i,q,b,h=>by cases h
  |x::r,i,q,b,h=>by
   rw [Uc,G]at h
   by_cases e:q=W7 i
   ·rw [bB e]at h;subst h;exact ⟨0,e,rfl⟩
   ·rw [bC e]at h
    obtain ⟨j,h1,h2⟩:=DJ h
    exact ⟨j+1,by rw [h1];congr 1;omega,by simpa using h2⟩
theorem HU: ∀{l:List (Option Blk)} {i j:Nat} {b:Option Blk},l[j]? =some b→G (Uc i l) (W7 (i+j))=b
  | [],i,j,b,h=>by simp at h
  |x::r,i,j,b,h=>by
   rw [Uc,G]
   cases j with
   |zero=>simp at h;subst h;rw [bB (by simp)]
   |succ j=>
    rw [bC (fun e=>by have:=HQ e;omega),show i+ (j+1)=i+1+j by omega]
    exact HU (by simpa using h)
theorem DK {h:D2}{ks:List D6}: ∀{l:List (Option Blk)} {i j:Nat} {b:Blk},Vz h ks i l→l[j]? =some (some b)→W7 (i+j)∉ks∧
    ((∃ty cs' ds ds',b= .box ty (ds'.map .d)∧h (W7 (i+j))=some (.box ty cs')∧M7 (L8 (O7 h ks) 6) cs'=some ds∧All2 DLe ds ds')∨∃ty sz es,b= .arr ty sz es∧h (W7 (i+j))=some (.arr ty sz es))
  | [],i,j,b,_,hb=>by simp at hb
  |x::r,i,j,b,hp,hb=>by
   cases j with
   |zero=>
    simp at hb;subst hb
    cases b with
    |box ty cs=>obtain ⟨⟨cs',ds,ds',a1,a2,a3,a4,rfl⟩,_⟩:=hp;exact ⟨a2, .inl ⟨ty,cs',ds,ds',rfl,a1,a3,a4⟩⟩
    |arr ty sz es=>exact ⟨hp.1.2, .inr ⟨ty,sz,es,rfl,hp.1.1⟩⟩
    |obj=>exact hp.elim
    |mp=>exact hp.elim
   |succ j=>
    have hr:Vz h ks (i+1) r:=by
      cases x with
      |none=>exact hp
      |some x=>cases x<;>first|exact hp.2|exact hp.elim
    have:=DK hr (by simpa using hb:r[j]? =some (some b))
    rwa [show i+1+j=i+ (j+1) by omega]at this
theorem OS (f:D6→D6)(ds:List D):(ds.map AV.d).map (CB f)=ds.map .d:=by rw [List.map_map];rfl
theorem Fv {f:FuncId}{rs:List RV}{ac:AC}(F:FnOK P f N rs ac){avs:List AV}{pre:List Blk}{v:D}{post:List (Option Blk)}(hok:XV avs pre (.d v) post []=true)(hl:avs.length≤N)
    (h:Z9 P N none [.c ac] (fun e s=>(e= .nrm∨e= .ret)∧∃ks d',Xw ks s.t s.h rs=some d'∧DLe d' v∧Vz s.h ks 0 post) .nrm ⟨T (Se avs 0),G (Qz 0 pre)⟩):MCall P f avs pre (.d v) post []:=by
  refine ⟨hok,F.enters,?_⟩
  obtain ⟨fn,c,hf,hb,hN,hrs,⟨M,hc⟩,hn⟩:=F.ex
  intro w I ρ vs H hlen hrep
  have hsim:=Rw (n:=N) H hlen (by omega) hrep
  rw [← hN,FD]at hsim
  refine Kn (Q:=fun e s=>(e= .nrm∨e= .ret)∧∃ks d',Xw ks s.t s.h rs=some d'∧DLe d' v∧Vz s.h ks 0 post) hf hb rfl hsim (by rw [hN];exact h M c hc) ?_
  rintro e s' a' w' I' ρ' ⟨he,ks,d',hv,hle,hp⟩ hs' tr
  have Hs:=hs'.heap
  let hk:D2:=O7 s'.h ks
  have hsub: ∀q b,hk q=some b→s'.h q=some b∧q∈ks:=by
    intro q b hq
    have:(if q∈ks then s'.h q else none)=some b:=hq
    split at this
    ·exact ⟨this,‹_›⟩
    ·cases this
  have Hk:=Hs.sub fun q b hq=>(hsub q b hq).1
  have hg: ∀q b,G (Uc 0 post) q=some b→∃b0,s'.h q=some b0∧q∉ks∧L9 ρ' q b=L9 ρ' q b0∧BlkOK w' (fun b=>I' b∨own ρ' hk b) ρ' q b∧∀f,Gy f b=b:=by
    intro q b hq
    obtain ⟨i,rfl,h2⟩:=DJ hq
    rw [bN]
    obtain ⟨h3,h4⟩:=DK hp h2
    rw [bN]at h3 h4
    rcases h4 with ⟨ty,cs',ds,ds',rfl,a1,a2,a3⟩|⟨ty,sz,es,rfl,a1⟩
    ·refine ⟨_,a1,h3,rfl,?_,fun f=>by simp only [Gy,OS]⟩
     obtain ⟨g,ws,b1,b2,b3,b4,b5⟩:=Hs.blk _ _ a1
     obtain ⟨l1,l2⟩:=Cg a2
     refine ⟨g,ws,b1,b2,by rw [lQ,← a3.length,l1];exact b3,b4,fun i c hc=> ?_⟩
     obtain ⟨d1,hd1,rfl⟩:=Vs hc
     obtain ⟨d0,e1,e2⟩:=a3.get hd1
     obtain ⟨x,e3,e4⟩:=l2 i d0 e1
     exact .d _ _ (e2 _ _ _ (Fs Hk 6 x d0 _ (b5 i x e3) e4))
    ·exact ⟨_,a1,h3,rfl,(Hs.blk _ _ a1).keep (fun _ _=>rfl) (fun _ _=>rfl) (fun _ h=> .inl h) (fun _ _ h=>h),fun f=>rfl⟩
  have hownG: ∀g,own ρ' (G (Uc 0 post)) g→own ρ' s'.h g:=by
    rintro g ⟨q,b,a1,a2⟩
    obtain ⟨b0,c1,_,c3,_⟩:=hg q b a1
    exact ⟨q,b0,c1,by rw [← c3];exact a2⟩
  have H2:HeapOK w' (fun b=>I' b∨own ρ' hk b) ρ' (G (Uc 0 post)):=by
    refine ⟨fun q b hq=>by obtain ⟨_,_,_,_,c,_⟩:=hg q b hq;exact c,fun q q' b b' g h1 h2 h3 h4=> ?_,fun q b g h1 h2 hi=> ?_,fun q b g h1 h2=> ?_,fun b hb=> ?_,Hs.fresh,Hs.rone⟩
    ·obtain ⟨b0,c1,_,c3,_⟩:=hg q b h1
     obtain ⟨b1,d1,_,d3,_⟩:=hg q' b' h2
     rw [c3]at h3;rw [d3]at h4
     exact Hs.sep q q' b0 b1 g c1 d1 h3 h4
    ·obtain ⟨b0,c1,c2,c3,_⟩:=hg q b h1
     rw [c3]at h2
     rcases hi with hi|⟨k,x,e1,e2⟩
     ·exact Hs.notI q b0 g c1 h2 hi
     ·obtain ⟨e3,e4⟩:=hsub k x e1
      have:=Hs.sep q k b0 x g c1 e3 h2 e2
      subst this
      exact c2 e4
    ·obtain ⟨b0,c1,c2,c3,_⟩:=hg q b h1
     rw [c3]at h2
     exact Hs.lt q b0 g c1 h2
    ·rcases hb with hb|hb
     ·exact Hs.ilt b hb
     ·exact Hk.own_lt hb
  unfold Xw at hv
  split at hv
  ·rename_i avs' hres
   obtain ⟨xs,g1,g2,g3⟩:=Rv hs' hrs hres
   have hds: ∀{ds:List D},M7 (L8 hk 6) avs'=some ds→ds.length=xs.length∧∀(i:Nat) d,ds[i]? =some d→RepD w' (fun b=>I' b∨own ρ' hk b) d (xs.getD i undef):=by
     intro ds hds
     obtain ⟨l1,l2⟩:=Cg hds
     refine ⟨by omega,fun i d hd=> ?_⟩
     obtain ⟨x,e3,e4⟩:=l2 i d hd
     exact Fs Hk 6 x d _ (g3 i x e3) e4
   have hfin: ∀x,(results fn a'.tmps).run P w'= .ok x w'→RepD w' (fun b=>I' b∨own ρ' hk b) d' x→
    ∃x,(results fn a'.tmps).run P w'= .ok x w'∧∃x' v' I'' ρ'' h'',Ending.returned x= .returned x'∧RepV w' I'' ρ'' v' x'∧HeapOK w' I'' ρ'' h''∧Tr w I ρ (G (Qz 0 pre)) w' I'' ρ'' h''∧Vy pre.length (.d v) post [] v' h'':=by
     intro x hx hr
     refine ⟨x,hx,x, .d v,_,ρ',G (Uc 0 post),rfl, .d _ _ (hle _ _ _ hr),H2,⟨tr.os,tr.tape,tr.output,tr.size,tr.frame,fun b hb=> .inl (tr.imm b hb),fun b hb hl=> ?_,fun b hb hl=>tr.ownBack b (hownG b hb) hl,tr.rho⟩,fun _=>(0,0),rfl,fun i b hb=> ?_,fun j b hb=>by simp at hb,fun j hj=>by simp at hj,fun j j' hj=>by simp at hj⟩
     ·rcases hb with hb|⟨k,x,e1,e2⟩
      ·exact tr.immBack b hb hl
      ·exact .inr (tr.ownBack b ⟨k,x,(hsub k x e1).1,e2⟩ hl)
     ·have h1:G (Uc 0 post) (W7 (0+i))=some b:=HU hb
      rw [bN]at h1
      obtain ⟨_,_,_,_,_,c⟩:=hg _ b h1
      rw [h1,c]
   have hmain: ∃x,(results fn a'.tmps).run P w'= .ok x w'∧RepD w' (fun b=>I' b∨own ρ' hk b) d' x:=by
     split at hv
     ·rename_i d hd
      cases hv
      obtain ⟨l1,l2⟩:=hds hd
      obtain ⟨x,rfl⟩: ∃x,xs= [x]:=by
        cases xs with
        |nil=>simp at l1
        |cons x r=>cases r with
         |nil=>exact ⟨x,rfl⟩
         |cons=>simp at l1
      exact ⟨x,by rw [Mz fn a' w' _ g1];simp,l2 0 _ rfl⟩
     ·rename_i ds hne hd
      cases hv
      obtain ⟨l1,l2⟩:=hds hd
      have hx1: ¬xs.length=1:=by
        intro h1
        rw [← l1]at h1
        obtain ⟨v,rfl⟩:=List.length_eq_one_iff.1 h1
        exact hne v rfl
      exact ⟨_,by rw [Mz fn a' w' _ g1,dif_neg hx1], .tup ds xs l1 l2⟩
     ·cases hv
   obtain ⟨x,hx,hr⟩:=hmain
   obtain ⟨x1,h1,h2⟩:=hfin x hx hr
   exact ⟨he,x1,h1,h2⟩
  ·cases hv
theorem MJ {f:FuncId}{rs:List RV}{ac:AC}(F:FnOK P f N rs ac){avs:List AV}{pre:List Blk}{v:AV}{post:List (Option Blk)}{new:List (Option Blk)}(hok:XV avs pre v post new=true)(hl:avs.length≤N)
    (h:Z9 P N none [.c ac] (fun e s=>(e= .nrm∨e= .ret)∧∃v' v1 g1,Uv s.t s.h rs=some v'∧AVle v' v1∧Yj s.h g1∧Vy pre.length v post new v1 (G g1)) .nrm ⟨T (Se avs 0),G (Qz 0 pre)⟩):MCall P f avs pre v post new:=
  ZV F hok hl (by rw [FD];exact h)
theorem Fd {t:Nat→AV}{h:D2}{rs:List RV}{d d':D}{e:Ex}{post:List (Option Blk)}(he:e= .nrm∨e= .ret)(ks:List D6)(h1:Xw ks t h rs=some d')(h2:DLe d' d)(h3:Vz h ks 0 post):
    (e= .nrm∨e= .ret)∧∃ks d',Xw ks (⟨t,h⟩:St).t (⟨t,h⟩:St).h rs=some d'∧DLe d' d∧Vz (⟨t,h⟩:St).h ks 0 post:=⟨he,ks,d',h1,h2,h3⟩
theorem Ux {t:Nat→AV}{h:D2}{ks:List D6}:Xw ks t h []=some (.tup []):=rfl
theorem Ou {t:Nat→AV}{h:D2}{ks:List D6}{a:RV}{v:AV}{d:D}(hv:Uu t h a=some v)(hr:L8 (O7 h ks) 6 v=some d):Xw ks t h [a]=some d:=by simp only [Xw,Yi,hv,M7,hr]
theorem AP {h:D2}{ks:List D6}{k:D6}{b:Option Blk}(hm:k∈ks)(hb:h k=b):O7 h ks k=b:=by unfold O7;rw [bB hm];exact hb
theorem J7 {h:D2}: ∀q∈([]:List D6),h q≠none:=by simp
theorem H9 {h:D2}{k:D6}{b:Blk}{ks:List D6}(hb:h k=some b)(hr: ∀q∈ks,h q≠none): ∀q∈k::ks,h q≠none:=by
  intro q hq
  rcases lS.1 hq with rfl|hq
  ·rw [hb];simp
  ·exact hr q hq
theorem M2 {l:List AV}:All2 AVle l l:=by
  induction l with
  |nil=>exact .nil
  |cons x r ih=>exact .cons (.refl x) ih
theorem Ky {a b x y:Nat}(h:(a==b)=false):((a,x):D6)≠(b,y):=by rintro ⟨⟩;simp at h
theorem nd1 {k:D6}: [k].Nodup:=by simp
theorem bY {k k':D6}(h:k≠k'): [k,k'].Nodup:=by simp [h]
theorem N6 {k:D6}:k∉ ([]:List D6):=by simp
theorem DL {i d u:Nat}{ks:List D6}(h:Nat.blt d 900000=true)(hr:W7 i∉ks):W7 i∉ (d,u)::ks:=by
  simp only [lS,not_or]
  exact ⟨fun e=>SN h i e.symm,hr⟩
theorem Ov {l:List D}:All2 DLe l l:=by
  induction l with
  |nil=>exact .nil
  |cons x r ih=>exact .cons (.refl x) ih
end
end Go.Abs
namespace Go.Abs
open Go
theorem Mn {x d:Nat}{l:List Nat}(h:d∈l)(ha:(l.all fun a=> !(a==x))=true):(d==x)=false:=by
  have:=lX.1 ha d h
  simpa using this
theorem Oi {ds:List Nat}{d u:Nat}{r:Option Blk}(h:d∈ds): ∀(n:Nat) {l:List (D6×Option Blk)},((l.take n).all fun e=>ds.all fun a=> !(a==e.1.1))=true→G (l.drop n) (d,u)=r→G l (d,u)=r
  |0,_,_,h2=>h2
  |n+1,[],_,h2=>h2
  |n+1,(i,b)::l,h1,h2=>by
   simp only [List.take_succ_cons,List.all_cons,bD]at h1
   exact B5 (Mn h h1.1) (Oi h n h1.2 h2)
theorem Sf {k:D6}{r:Option Blk}: ∀(n:Nat) {l:List (D6×Option Blk)},((l.take n).all fun e=> !(k.1==e.1.1))=true→G (l.drop n) k=r→G l k=r
  |0,_,_,h2=>h2
  |n+1,[],_,h2=>h2
  |n+1,(i,b)::l,h1,h2=>by
   simp only [List.take_succ_cons,List.all_cons,bD]at h1
   exact B5 (by simpa using h1.1) (Sf n h1.2 h2)
theorem S5 {t:Nat→AV}: ∀{l:List (Nat×AV)},(l.map fun p=>t p.1)=l.map (fun p=>p.2)→ZQ t l
  | [],_=>trivial
  |(i,v)::l,h=>by
   rw [lP,lP,List.cons.injEq]at h
   exact ⟨.of h.1,S5 h.2⟩
theorem Rc {x d:Nat}{l:List Nat}(h:d∈l)(ha:(l.all fun a=> !(x==a))=true):(x==d)=false:=by
  have:=lX.1 ha d h
  simpa using this
theorem Mo {α:Type}(xs:List α)(k:D6):Gm (oS xs k)=some [oS xs k]:=by cases xs<;>rfl
def FE {α:Type}(t:Nat→AV)(f:α→List D)(sz:Nat):Nat→List (Nat×Nat×Opd)→List α→Prop
  |_,[],[]=>True
  |i,(off,m,x)::ps,a::as=>off=i*sz∧m=sz∧Gm (ev t x)=some ((f a).map .d)∧FE t f sz (i+1) ps as
  |_,_,_=>False
theorem SP {α:Type}(pre post vs:List α)(h:vs.length≤post.length):Gn (pre++post) pre.length vs=pre++ (vs++post.drop vs.length):=by
  apply List.ext_getElem?
  intro i
  rw [Bs _ _ _ _ (by simp;omega)]
  by_cases h1:i<pre.length
  ·rw [bC (by omega),lW h1,lW h1]
  ·rw [lV (by omega),lV (by omega)]
   by_cases h2:i<pre.length+vs.length
   ·rw [bB (by omega),lW (by omega)]
   ·rw [bC (by omega),lV (by omega),lZ]
    congr 1;omega
theorem AQ {α:Type}{t:Nat→AV}{f:α→List D}{sz:Nat}(hf: ∀a,(f a).length=sz): ∀(as:List α) (ps:List (Nat×Nat×Opd)) (i:Nat) (pre post:List AV),pre.length=i*sz→post.length=as.length*sz→FE t f sz i ps as→
    Ma t (pre++post) ps=some (pre++ (as.flatMap f).map .d)
  | [],[],i,pre,post,_,hl,_=>by
    have:post= []:=lY (by simpa using hl)
    subst this;simp [Ma]
  | [],_::_,_,_,_,_,_,hp=>hp.elim
  |_::_,[],_,_,_,_,_,hp=>hp.elim
  |a::as,(off,m,x)::ps,i,pre,post,h1,h2,hp=>by
   obtain ⟨rfl,rfl,hc,hr⟩:=hp
   have hl:post.length=m+as.length*m:=by rw [h2,lJ,bM];omega
   have hv:((f a).map AV.d).length=m:=by simp [hf]
   simp only [Ma,hc,hv,true_and]
   rw [bB (by simp [h1,hl]),← h1,SP _ _ _ (by rw [hv,hl];omega),hv,← lM]
   rw [AQ hf as ps (i+1) _ _ (by rw [lK,hv,h1,bM];omega) (by rw [lU,hl];omega) hr]
   simp
theorem AR {α:Type}{f:α→List D}{sz:Nat}(hf: ∀a,(f a).length=sz): ∀as:List α,Ia sz as.length (as.flatMap f)=as.map f
  | []=>rfl
  |a::as=>by
   simp only [lJ,Ia,l4,lP]
   rw [List.take_left' (hf a),List.drop_left' (hf a),AR hf as]
theorem DM {α:Type}(z:List α): ∀n,(Kx z n).length=n*z.length
  |0=>by simp [Kx]
  |n+1=>by simp [Kx,DM z n,bM];omega
theorem DN: ∀l:List D,Fa (l.map .d)=some l
  | []=>rfl
  |x::r=>by simp [Fa,DN r]
theorem DO {α:Type}{t:Nat→AV}{h:D2}{e sz n:Nat}{z:List D}{ps:List (Nat×Nat×Opd)}(f:α→List D)(xs:List α)(hf: ∀a,(f a).length=sz)(hz:z.length=sz)(hn:xs.length=n)(hp:FE t f sz 0 ps xs)(hm: ∀a,(f a).map nrm=f a):
    G7 t h (.dslice e sz n z ps)=some (.d (.list (xs.map f))):=by
  have:=AQ hf xs ps 0 [] ((Kx z n).map .d) (by simp) (by rw [lQ,DM,hz,hn]) hp
  simp only [lO]at this
  simp only [G7,this,lA,DN,lE]
  rw [← hn,Ws,AR hf,List.map_map,show ((fun x=>List.map nrm x)∘f)=f from funext hm]
/-- A key put into a set. -/
def eM (ks:List Int)(n:Int):List Int:=if n∈ks then ks else ks++ [n]
theorem DLe.bp {xs ys:List D}{off:Nat}(h:All2 (fun x y=>DLe x y∧y.one=true) xs ys):DLe (.bp xs off) (.bp ys off):=by
  intro w I v hv
  cases hv with
  |bp _ _ g vs ty fz hI hg hl hone hr=>
   refine .bp ys off g vs ty fz hI hg (by rw [← h.length];exact hl) (fun i d hi=> ?_) (fun i d hi=> ?_)
   ·obtain ⟨a,_,h2⟩:=h.get hi;exact h2.2
   ·obtain ⟨a,h1,h2⟩:=h.get hi;exact h2.1 _ _ _ (hr i a h1)
section
variable {P:Program}{u:Nat}{r:List AOp}{l:List (Nat×AV)}{g:List (D6×Option Blk)}{t:Nat→AV}{h:D2}
/-- Any number of elements behind a slice of the run's own, or behind nil. -/
theorem OT {K:(Nat→AV)→D2→Prop}{α:Type}{d e sz:Nat}{ty:TypeId}{x y:Opd}(f:α→List D)(k:D6)(xs ys zs:List α)(hy:W4 (G g) sz (ev (T l) y)=some (ys.map f))(hx:ev (T l) x=oS xs k)(hb:G g k=oB e sz f xs)(hl:Y4 xs ys=some zs)(hn:G g (d,u)=none)
    (hk:K1 P u r (T ((d,oS zs (d,u))::l)) (G (((d,u),oB e sz f zs)::(k,none)::g)) K):K1 P u (⟨some d, .append ty e sz x y,none⟩::r) (T l) (G g) K:=by
  cases ys with
  |cons v ys=>
   refine P1 f k xs v ys zs hy hx hb hl ?_
   rw [Ap (k:=(d,u)) (S7 hl),MD (S7 hl)]at hk
   exact hk
  |nil=>
   obtain ⟨h1,rfl⟩:=Cu hl
   cases xs with
   |nil=>
    have hy':W4 (G g) sz (ev (T l) y)=some []:=hy
    have hx':ev (T l) x= .d .nilS:=hx
    unfold K1
    simp only [gW,Ve,Dz,hy',hx',N3]
    have e0:G (((d,u),oB e sz f ([]:List α))::(k,none)::g)=G g:=by
      funext q
      rw [G,G]
      by_cases e1:q=(d,u)
      ·subst e1;rw [bB rfl,hn];rfl
      ·rw [bC e1]
       by_cases e2:q=k
       ·subst e2;rw [bB rfl,hb];rfl
       ·rw [bC e2]
    rw [← e0]
    exact hk
   |cons x0 xs=>
    refine Sc f k (x0::xs) [] _ hy hx hb hl ?_
    exact hk
end
end Go.Abs
namespace Go.Abs
open Go
/-! ### Functions that can be computed, and what they say of the plain ones -/
/-- What the one gives, the other one gives. -/
class Le {α:Type} (x y:Option α):Prop where
  out: ∀r,x=some r→y=some r
section
variable {α β γ σ τ:Type}
instance {x y:Option α}:CoeFun (Le x y) (fun _=> ∀r,x=some r→y=some r):=⟨fun h=>h.out⟩
instance (priority:=low) Le.refl (x:Option α):Le x x:=⟨fun _ h=>h⟩
instance Le.bind {x y:Option α}{f g:α→Option β}[h:Le x y][hf: ∀v,Le (f v) (g v)]:Le (x.bind f) (y.bind g):=by
  refine ⟨fun r hr=> ?_⟩
  cases x with
  |none=>cases hr
  |some v=>rw [h v rfl];exact hf v r hr
instance Le.cond {b:Bool}{x y x' y':Option α}[h:Le x x'][h':Le y y']:Le (cond b x y) (cond b x' y'):=by cases b<;>assumption
instance Le.ite {p:Prop}[Decidable p]{x y x' y':Option α}[h:Le x x'][h':Le y y']:Le (if p then x else y) (if p then x' else y'):=by split<;>assumption
instance Le.thenS {x x':Option (Sum σ β)}{f f':σ→Option γ}{g g':β→Option γ}[h:Le x x'][hf: ∀v,Le (f v) (f' v)][hg: ∀v,Le (g v) (g' v)]:Le (thenS x f g) (thenS x' f' g'):=by
  refine ⟨fun r hr=> ?_⟩
  cases x with
  |none=>cases hr
  |some v=>rw [h v rfl];cases v<;>first|exact hf _ r hr|exact hg _ r hr
/-- Loops that the kernel runs. -/
@[reducible] def R5:Lp:=⟨fun f s=>loopN f 100000 s⟩
theorem Le.loopN {f f':σ→Option (Stp σ τ)}(h: ∀s,Le (f s) (f' s)): ∀(n:Nat) (s:σ),Le (loopN f n s) (loopN f' n s)
  |0,s=>⟨fun r hr=>by cases hr⟩
  |n+1,s=>⟨fun r hr=>by
   rw [Abs.loopN]at hr ⊢
   cases hf:f s with
   |none=>rw [hf]at hr;cases hr
   |some x=>
    rw [hf]at hr
    rw [h s x hf]
    cases x with
    |go s'=>exact Le.loopN h n s' r hr
    |out t=>exact hr⟩
instance Le.loop {f f':σ→Option (Stp σ τ)}[h: ∀s,Le (f s) (f' s)](s:σ):Le (@loop _ _ R5 f s) (loop f' s):=⟨fun r hr=>loop_some.2 ⟨_,Le.loopN h _ s r hr⟩⟩
theorem Le.loopLh {f f':σ→α→Option (Stp σ τ)}{e:σ→τ}(h: ∀s a,Le (f s a) (f' s a)): ∀(l:List α) (s:σ),Le (loopL f e l s) (loopL f' e l s)
  | [],s=>⟨fun r hr=>hr⟩
  |a::l,s=>⟨fun r hr=>by
   rw [Abs.loopL]at hr ⊢
   cases hf:f s a with
   |none=>rw [hf]at hr;cases hr
   |some x=>
    rw [hf]at hr
    rw [h s a x hf]
    cases x with
    |go s'=>exact Le.loopLh h l s' r hr
    |out t=>exact hr⟩
instance Le.loopL {f f':σ→α→Option (Stp σ τ)}{e:σ→τ}[h: ∀s a,Le (f s a) (f' s a)](l:List α)(s:σ):Le (loopL f e l s) (loopL f' e l s):=Le.loopLh h l s
end
end Go.Abs
/-! Short names for what the generated proofs use most. -/
namespace Go.Abs
open Go
abbrev oo (d:Nat)(k:AK):AOp:=⟨some d,k,none⟩
abbrev og (d:Nat)(k:AK)(j:Nat):AOp:=⟨some d,k,some (j,true)⟩
abbrev oh (d:Nat)(k:AK)(j:Nat):AOp:=⟨some d,k,some (j,false)⟩
abbrev oe (k:AK):AOp:=⟨none,k,none⟩
abbrev ci (n:Int):Opd:= .c (.v (.int .i64 n))
abbrev cf (n:Nat):Opd:= .c (.fn (.func n) [] [])
abbrev z0:D:= .v (.int .i64 0)
abbrev zf:D:= .v (.bool false)
abbrev di (n:Int):AV:= .d (.v (.int .i64 n))
abbrev db (b:Bool):AV:= .d (bo b)
abbrev dl {α:Type}(e:α→List D)(xs:List α):AV:= .d (.list (List.map e xs))
/-- What lies at the first key with this number. -/
def gl:List (D6×Option Blk)→Nat→Option (D6×Option Blk)
  | [],_=>none
  |(k,b)::l,d=>cond (Nat.beq k.1 d) (some (k,b)) (gl l d)
theorem SQ {b:Option Blk}{k:D6}: ∀{g:List (D6×Option Blk)},gl g k.1=some (k,b)→G g k=b
  | [],h=>by cases h
  |(q,c)::l,h=>by
   unfold gl at h
   cases e:Nat.beq q.1 k.1
   ·rw [e,bA]at h
    have ne:k≠q:=by rintro rfl;simp at e
    rw [G,bC ne];exact SQ h
   ·rw [e,l9]at h
    simp only [Option.some.injEq,Prod.mk.injEq]at h
    obtain ⟨rfl,rfl⟩:=h
    exact A2
theorem gq {d u:Nat}{b:Option Blk}{g:List (D6×Option Blk)}(h:gl g d=some ((d,u),b)):G g (d,u)=b:=SQ h
theorem HV {l:List (Nat×AV)}: ∀{l0:List (Nat×AV)},l0.map (fun p=>(p.1,T l p.1))=l0→ZQ (T l) l0
  | [],_=>trivial
  |(i,v)::r,h=>by
   simp only [lP,List.cons.injEq,Prod.mk.injEq,true_and]at h
   exact ⟨.of h.1,HV h.2⟩
theorem HW {g:List (D6×Option Blk)}: ∀{g0:List (D6×Option Blk)},g0.map (fun p=>gl g p.1.1)=g0.map some→Yj (G g) g0
  | [],_=>trivial
  |(k,b)::r,h=>by
   simp only [lP,List.cons.injEq]at h
   refine ⟨?_,HW h.2⟩
   cases b with
   |none=>trivial
   |some b=>exact ⟨b,SQ h.1, .refl b⟩
theorem G0 {l l0:List (Nat×AV)}{g g0:List (D6×Option Blk)}(h1:l0.map (fun p=>(p.1,T l p.1))=l0)(h2:g0.map (fun p=>gl g p.1.1)=g0.map some):Sb ⟨T l0,G g0⟩ ⟨T l,G g⟩:=D0 (HV h1) (HW h2)
theorem nl {a b:Nat}(h:Nat.ble a b=true):a≤b:=Nat.le_of_ble_eq_true h
theorem bs {α β:Type}{o:Option α}{f:α→Option β}{r:β}{Q:Prop}(h:o.bind f=some r)(k: ∀v,o=some v→f v=some r→Q):Q:=by
  cases o with
  |none=>cases h
  |some v=>exact k v rfl h
theorem js {σ β γ:Type}{x:Option (Sum σ β)}{f:σ→Option γ}{g:β→Option γ}{r:γ}{Q:Prop}(h:thenS x f g=some r)(k: ∀y,x=some y→Sum.elim f g y=some r→Q):Q:=by
  obtain ⟨y,h1,h2⟩:=KP h
  exact k y h1 h2
section
variable {P:Program}{N u:Nat}{rk:Option D6}{aops:List AOp}{r:List It}{l:List (Nat×AV)}{g:List (D6×Option Blk)}{K:(Nat→AV)→D2→Prop}{Q:Ex→St→Prop}{s:St}
theorem cc {α:Type}{o:Opd}{a b:AC}{c:Bool}{x y z:α}(hc:ev s.t o= .d (.v (.bool c)))(h:cond c x y=z)(h1:c=true→x=z→Z9 P N rk (.c a::r) Q .nrm s)(h2:c=false→y=z→Z9 P N rk (.c b::r) Q .nrm s):Z9 P N rk (.c (.cond o a b)::r) Q .nrm s:=
  KN c hc (fun e=>h1 e (D8 e h)) (fun e=>h2 e (ZR e h))
theorem sd {d:Nat}{k:AK}{v:D}(h0:U1 k=0)(hv:G7 (T l) (G g) k=some (.d v))(hk:K1 P u aops (T ((d, .d v)::l)) (G g) K):K1 P u (⟨some d,k,none⟩::aops) (T l) (G g) K:=C2 (.d v) h0 hv hk
theorem sp {d:Nat}{k:AK}{q:D6}{n:Nat}(h0:U1 k=0)(hv:G7 (T l) (G g) k=some (.ptr q n))(hk:K1 P u aops (T ((d, .ptr q n)::l)) (G g) K):K1 P u (⟨some d,k,none⟩::aops) (T l) (G g) K:=C2 (.ptr q n) h0 hv hk
theorem sq {d:Nat}{k:AK}{q:D6}{n:Nat}(hv:((U1 k,G7 (T l) (G g) k):Nat×Option AV)=(0,some (.ptr q n)))(hk:K1 P u aops (T ((d, .ptr q n)::l)) (G g) K):K1 P u (⟨some d,k,none⟩::aops) (T l) (G g) K:=C2 (.ptr q n) (congrArg Prod.fst hv) (congrArg Prod.snd hv) hk
theorem sm {d ty:Nat}{k:AK}{q:D6}{n:Nat}{cs:List AV}(hv:((Mw k,Kj u d (T l) k):Bool×Option (AV×Blk))=(true,some (.ptr q n, .box ty cs)))(hk:K1 P u aops (T ((d, .ptr q n)::l)) (G (((d,u),some (.box ty cs))::g)) K):K1 P u (⟨some d,k,none⟩::aops) (T l) (G g) K:=DF _ _ (congrArg Prod.fst hv) (congrArg Prod.snd hv) hk
theorem sn {d ty:Nat}{k:AK}{q:D6}{n:Nat}{cs:List AV}(h0:Mw k=true)(hv:Kj u d (T l) k=some (.ptr q n, .box ty cs))(hk:K1 P u aops (T ((d, .ptr q n)::l)) (G (((d,u),some (.box ty cs))::g)) K):K1 P u (⟨some d,k,none⟩::aops) (T l) (G g) K:=DF _ _ h0 hv hk
theorem gv {d j:Nat}{b w:Bool}{k:AK}{v:D}(h0:U1 k=0)(hg:XR (T l j) b w)(hv:w=true→G7 (T l) (G g) k=some (.d v))(hk:K1 P u aops (T ((d,gd w true (.d v))::l)) (G g) K):K1 P u (⟨some d,k,some (j,b)⟩::aops) (T l) (G g) K:=P5 w (.d v) h0 hg hv hk
theorem sv {d:Nat}{k:AK}{v:D}(hv:((U1 k,G7 (T l) (G g) k):Nat×Option AV)=(0,some (.d v)))(hk:K1 P u aops (T ((d, .d v)::l)) (G g) K):K1 P u (⟨some d,k,none⟩::aops) (T l) (G g) K:=C2 (.d v) (congrArg Prod.fst hv) (congrArg Prod.snd hv) hk
theorem ss {d:Nat}{k:AK}{q:D6}(hv:((U1 k,G7 (T l) (G g) k):Nat×Option AV)=(0,some (.sl q)))(hk:K1 P u aops (T ((d, .sl q)::l)) (G g) K):K1 P u (⟨some d,k,none⟩::aops) (T l) (G g) K:=C2 (.sl q) (congrArg Prod.fst hv) (congrArg Prod.snd hv) hk
theorem sl {d n off:Nat}{p:Opd}{q:D6}{ty:TypeId}{cs:List AV}{v:D}(hp:ev (T l) p= .ptr q off)(hb:G g q=some (.box ty cs))(hv:(cs.drop off).head? =some (.d v))(hk:K1 P u aops (T ((d, .d v)::l)) (G g) K):K1 P u (⟨some d, .load n false p,none⟩::aops) (T l) (G g) K:=C2 (.d v) rfl (O8 hp hb hv) hk
theorem T6 {n:Nat}{p x:Opd}{k:D6}{off:Nat}{ty:TypeId}{bs cs:List AV}(hx:((Gm (ev (T l) x),cs.length,ev (T l) p):Option (List AV)×Nat×AV)=(some cs,n, .ptr k off))(hb:G g k=some (.box ty bs))(bs':List AV)(he:((Gn bs off cs,Nat.ble (off+n) bs.length):List AV×Bool)=(bs',true))
    (hk:K1 P u aops (T l) (G ((k,some (.box ty bs'))::g)) K):K1 P u (⟨none, .store n p x,none⟩::aops) (T l) (G g) K:=by
  simp only [Prod.mk.injEq]at hx he
  exact Fu _ _ _ _ _ hx.1 hx.2.1 hx.2.2 hb (Nat.le_of_ble_eq_true he.2) bs' he.1 hk
theorem gp {d j:Nat}{b w:Bool}{k:AK}{q:D6}{n:Nat}(h0:U1 k=0)(hg:XR (T l j) b w)(hv:w=true→G7 (T l) (G g) k=some (.ptr q n))(hk:K1 P u aops (T ((d,gd w true (.ptr q n))::l)) (G g) K):K1 P u (⟨some d,k,some (j,b)⟩::aops) (T l) (G g) K:=P5 w (.ptr q n) h0 hg hv hk
theorem gt {d j:Nat}{w:Bool}{k:AK}{v:D}(hg:((U1 k,T l j):Nat×AV)=(0, .d (bo w)))(hv:w=true→G7 (T l) (G g) k=some (.d v))(hk:K1 P u aops (T ((d,gd w true (.d v))::l)) (G g) K):K1 P u (⟨some d,k,some (j,true)⟩::aops) (T l) (G g) K:=P5 w (.d v) (congrArg Prod.fst hg) (M4 (congrArg Prod.snd hg)) hv hk
theorem gf {d j:Nat}{w:Bool}{k:AK}{v:D}(hg:((U1 k,T l j):Nat×AV)=(0, .d (bo w)))(hv:(!w)=true→G7 (T l) (G g) k=some (.d v))(hk:K1 P u aops (T ((d,gd (!w) true (.d v))::l)) (G g) K):K1 P u (⟨some d,k,some (j,false)⟩::aops) (T l) (G g) K:=P5 (!w) (.d v) (congrArg Prod.fst hg) (N7 (congrArg Prod.snd hg)) hv hk
theorem sa {d j x:Nat}{c q:Bool}{yo:Opd}(hj:ev (T l) (.t j)= .d (bo c))(hx:ev (T l) (.t x)=gd c true (.d (bo q)))(hy:ev (T l) yo= .d (bo false))(hk:K1 P u aops (T ((d, .d (bo (c&&q)))::l)) (G g) K):K1 P u (⟨some d, .pick (.t j) (.t x) yo,none⟩::aops) (T l) (G g) K:=C2 _ rfl (SG hj (fun hc=>by rw [hx,A5 hc]) hy) hk
theorem lr {a:AC}(h: ∀u,(∀k,G g k≠none→k.2≠u)→K1 P u aops (T l) (G g) fun t h=>Z9 P N rk (.c a::r) Q .nrm ⟨t,h⟩):Z9 P N rk (.c (.seq (.reg aops) a)::r) Q .nrm ⟨T l,G g⟩:=A6 (Ag h)
theorem B3 {a:AC}(h: ∀{u:Nat} {_: ∀k,G g k≠none→k.2≠u},K1 P u aops (T l) (G g) fun t h=>Z9 P N rk (.c a::r) Q .nrm ⟨t,h⟩):Z9 P N rk (.c (.seq (.reg aops) a)::r) Q .nrm ⟨T l,G g⟩:=lr fun u hu=> @h u hu
theorem C3 (h: ∀{u:Nat} {_: ∀k,G g k≠none→k.2≠u},K1 P u aops (T l) (G g) fun t h=>Z9 P N rk r Q .nrm ⟨t,h⟩):Z9 P N rk (.c (.reg aops)::r) Q .nrm ⟨T l,G g⟩:=Ag fun u hu=> @h u hu
theorem K6 (hn:aW aops=true)(h: ∀{u:Nat} {_: ∀k,G g k≠none→k.2≠u},K1 P u aops (T l) (G g) fun t h=>Z9 P N rk r Q .nrm ⟨t,h⟩):Z9 P N rk (.c (.draw aops [])::r) Q .nrm ⟨T l,G g⟩:=Na hn fun u hu=> @h u hu
end
section
variable {t:Nat→AV}{h:D2}
theorem vb {op:BinOp}{x y:Opd}{k:IntKind}{a b:Int}{v:Value}{w:Bool}(hx:ev t x=gd w true (.d (.v (.int k a))))(hy:ev t y= .d (.v (.int k b)))(hr:BY op k a b=some v)(hw:w=true):G7 t h (.bin op x y)=some (.d (.v v)):=
  R1 (by rw [hx,A5 hw]) hy hr
theorem vl {n:Nat}{p:Opd}{k:D6}{off:Nat}{ty:TypeId}{bs:List AV}{v:AV}{w:Bool}(hp:ev t p=gd w true (.ptr k off))(hb:h k=some (.box ty bs))(hv:(bs.drop off).head? =some v)(hw:w=true):G7 t h (.load n false p)=some v:=O8 (by rw [hp,A5 hw]) hb hv
end
end Go.Abs
/-! Own memory among what a call hands out: slices that may be empty. -/
namespace Go.Abs
open Go
/-- A slice of the run's own, or one of nothing. -/
def oE {α:Type}(xs:List α)(k:D6):AV:=match xs with
  | []=> .d (.list [])
  |_=> .sl k
theorem bZ {α:Type}{k:D6}{xs:List α}(h:xs≠ []):oE xs k= .sl k:=by cases xs<;>first|exact absurd rfl h|rfl
theorem oB_ren {α:Type}{ty:TypeId}{sz:Nat}{e:α→List D}{xs:List α}{f:D6→D6}:(oB ty sz e xs).map (Gy f)=oB ty sz e xs:=by cases xs<;>rfl
section
variable {t:Nat→AV}{h:D2}
end
/-- What hands out data hands out no memory. -/
theorem MCall.ofP {P:Program}{f:FuncId}{ds:List D}{r:D}(hp:PCall P f ds r):MCall P f (ds.map .d) [] (.d r) [] [none]:=by
  refine ⟨by simp [XV,dH,ZU,VY],hp.1,fun w I ρ vs H hlen hrep=> ?_⟩
  refine (hp.2 w I vs H.ilt (by simpa using hlen) (fun i d hi=> ?_)).mono ?_
  ·have:=hrep i (.d d) (by rw [lI,hi];rfl)
   cases this with|d _ _ h=>exact h
  rintro e w' ⟨x,I',rfl,hr,tr⟩
  have hno: ∀g,¬own ρ (G (Qz 0 [])) g:=by rintro g ⟨k,b,h1,_⟩;cases h1
  have H2:HeapOK w' I' ρ (G (Qz 0 [])):=H.keep (fun g hg=>absurd hg (hno g)) (fun b hb=>tr.frame b (H.ilt b hb)) tr.imm (fun g hg=>absurd hg (hno g)) tr.ilt (fun _ _ h=>h) tr.size H.fresh H.rone
  refine ⟨x, .d r,I',ρ,G (Qz 0 []),rfl, .d _ _ hr,H2,⟨tr.os,tr.tape,tr.output,tr.size,fun b hb _=>tr.frame b hb,tr.imm,fun b hb hl=> .inl (tr.immBack b hb hl),fun b hb _=>hb,fun _ _ h=>h⟩,fun j=>SL j,rfl,fun i b hb=>by simp at hb,fun j b hb=> ?_,fun j hj i hi=>absurd hi (by simp),fun j j' hj hj' e=> ?_⟩
  ·cases j<;>simp at hb
  ·simp only [lJ,lL]at hj hj'
   omega
theorem AVle.tup {xs ys:List AV}(h:All2 AVle xs ys):AVle (.tup xs) (.tup ys):=by
  intro w I ρ v hv
  cases hv with
  |tup _ vs hl hr=>
   refine .tup _ vs (h.length▸hl) (fun i c hc=> ?_)
   obtain ⟨a,e1,e2⟩:=h.get hc
   exact e2 _ _ _ _ (hr i a e1)
theorem KS {α:Type}{u S j:Nat}{f:D6→D6}{ty:TypeId}{sz:Nat}{e:α→List D}{xs:List α}{r:List (Option Blk)}{L:List (D6×Option Blk)}(h:Sd u S f (j+1) r=L):Sd u S f j (oB ty sz e xs::r)=((S+j,u),oB ty sz e xs)::L:=by
  rw [Sd,oB_ren,h]
theorem XX {P:Program}{u:Nat}{l:List (Nat×AV)}{g:List (D6×Option Blk)}{S:Nat}{f:Opd}{args:List Opd}{fid:FuncId}{avs avs0:List AV}{pre:List Blk}{v v':AV}{post:List (Option Blk)}{new:List (Option Blk)}(hM:MCall P fid avs0 pre v post new)(κs ks us:List D6)(g':List (D6×Option Blk))
    (hc:Q5 (T l) f args=some (fid,avs)) (hle:All2 AVle avs (avs0.map (CC (V2 (Ec κs) (Ec κs))))) (hks:avs.flatMap (O6 (G g) 6)=ks) (hlive: ∀q∈ks,G g q≠none)
    (hpre:OR (G g) κs (pre.map (Gy (V2 (Ec κs) (Ec κs))))) (hsub: ∀k∈κs,k∈ks) (hnd:κs.Nodup) (hv:FC (V2 (Ec κs) fun j=>(S+j,u)) v=v')
    (hus:(Oc (Ec κs) (V2 (Ec κs) fun j=>(S+j,u)) 0 post++Sd u S (V2 (Ec κs) fun j=>(S+j,u)) 0 new).map (·.1)=us) {L:List (D6×Option Blk)} (hL:Sd u S (V2 (Ec κs) fun j=>(S+j,u)) 0 new=L)
    (hg:N3 (G g) (Oc (Ec κs) (V2 (Ec κs) fun j=>(S+j,u)) 0 post++L)=G g'):OC P u l g S f args v' ks us g':=
  Bu hM κs ks us g' hc hle hks hlive hpre hsub hnd hv hus (by rw [hL];exact hg)
theorem MK {d u:Nat}(h:(Nat.blt d 900000||Nat.blt 901000 d)=true){i:Nat}(hi:i<1000):(d,u)≠W7 i:=by
  simp only [bE,Nat.blt_eq]at h
  intro e
  simp only [W7,Prod.mk.injEq]at e;omega
theorem WD {n:Nat}{v v1:AV}{post new:List (Option Blk)}{h:D2}(σs:List D6)(hv:v1=FC (V2 W7 (Ec σs)) v)(hpost:MI h (V2 W7 (Ec σs)) 0 post)(hnew:WC h (V2 W7 (Ec σs)) σs new)
    (hl:(σs.length,Nat.ble n 1000)=(new.length,true)) (hd: ∀k∈σs,∀i,i<1000→k≠W7 i) (hnd:σs.Nodup):Vy n v post new v1 h:=by
  simp only [Prod.mk.injEq,Nat.ble_eq]at hl
  have hget: ∀j,j<new.length→Ec σs j∈σs:=by
    intro j hj
    simp only [Ec,List.getD,lG (show j<σs.length by omega),Option.getD_some]
    exact List.getElem_mem _
  refine ⟨Ec σs,hv,fun i b hb=> ?_,fun j b hb=>AN hnew hb,fun j hj i hi=>hd _ (hget j hj) i (by omega),fun j j' hj hj' e=> ?_⟩
  ·have:=Xb hpost hb
   rwa [bN]at this
  ·simp only [Ec,List.getD,lG (show j<σs.length by omega),lG (show j'<σs.length by omega),Option.getD_some]at e
   exact Xa hnd (by omega) (by omega) e
end Go.Abs
/-! Own memory becomes data, wherever that is wanted. -/
namespace Go.Abs
open Go
/-- A value, where the blocks at some keys have become data (h holds these). -/
def WE (h:D2)(x y:AV):Prop:=AVle x y∨∃d d',L8 h 6 x=some d∧DLe d d'∧y= .d d'
def ZY (h:D2)(ks:List D6)(k:D6)(b:Blk):Prop:=k∉ks∧∃b0,h k=some b0∧(b0=b∨∃ty cs cs',b0= .box ty cs∧b= .box ty cs'∧All2 (WE (O7 h ks)) cs cs')
def cA (I:Nat→Prop)(ρ:Rho)(h:D2)(ks:List D6):Nat→Prop:=fun b=>I b∨own ρ (O7 h ks) b
section
variable {w:World}{I:Nat→Prop}{ρ:Rho}{h:D2}{ks:List D6}
theorem Fw {q:D6}{b:Blk}(hq:O7 h ks q=some b):h q=some b∧q∈ks:=by
  have:(if q∈ks then h q else none)=some b:=hq
  split at this
  ·exact ⟨this,‹_›⟩
  ·cases this
theorem ML (H:HeapOK w I ρ h){x y:AV}{v:Value}(hf:WE (O7 h ks) x y)(hx:RepV w I ρ x v):RepV w (cA I ρ h ks) ρ y v:=by
  rcases hf with q|⟨d,d',h1,h2,rfl⟩
  ·exact (q _ _ _ _ hx).keep (fun _ _=>rfl) (fun _ h=> .inl h) (fun _ _ h=>h)
  ·have Hk:=H.sub fun q b hq=>(Fw (ks:=ks) hq).1
   exact .d _ _ (h2 _ _ _ (Fs Hk 6 x d v hx h1))
theorem Wa {k:D6}{b b0:Blk}(q:b0=b∨∃ty cs cs',b0= .box ty cs∧b= .box ty cs'∧All2 (WE (O7 h ks)) cs cs'):L9 ρ k b=L9 ρ k b0:=by
  rcases q with rfl|⟨ty,cs,cs',rfl,rfl,_⟩<;>rfl
theorem MM (H:HeapOK w I ρ h){h':D2}(hh: ∀k b,h' k=some b→ZY h ks k b):HeapOK w (cA I ρ h ks) ρ h':=by
  have Hk:=H.sub fun q b hq=>(Fw (ks:=ks) hq).1
  refine ⟨fun k b hb=> ?_,fun k k' b b' g h1 h2 h3 h4=> ?_,fun k b g h1 h2 hi=> ?_,fun k b g h1 h2=> ?_,fun b hb=> ?_,H.fresh,H.rone⟩
  ·obtain ⟨_,b0,e1,rfl|⟨ty,cs,cs',rfl,rfl,ha⟩⟩:=hh k b hb
   ·exact (H.blk k b0 e1).keep (fun _ _=>rfl) (fun _ _=>rfl) (fun _ h=> .inl h) (fun _ _ h=>h)
   ·obtain ⟨g,vs,b1,b2,b3,b4,b5⟩:=H.blk k _ e1
    refine ⟨g,vs,b1,b2,by rw [← ha.length];exact b3,b4,fun i c hc=> ?_⟩
    obtain ⟨x,g1,g2⟩:=ha.get hc
    exact ML H g2 (b5 i x g1)
  ·obtain ⟨_,b0,e1,q⟩:=hh k b h1
   obtain ⟨_,b1,e2,q'⟩:=hh k' b' h2
   rw [Wa q]at h3
   rw [Wa q']at h4
   exact H.sep k k' b0 b1 g e1 e2 h3 h4
  ·obtain ⟨n,b0,e1,q⟩:=hh k b h1
   rw [Wa q]at h2
   rcases hi with hi|⟨k',b',e2,e3⟩
   ·exact H.notI k b0 g e1 h2 hi
   ·obtain ⟨e4,e5⟩:=Fw e2
    have:=H.sep k k' b0 b' g e1 e4 h2 e3
    subst this
    exact n e5
  ·obtain ⟨n,b0,e1,q⟩:=hh k b h1
   rw [Wa q]at h2
   exact H.lt k b0 g e1 h2
  ·rcases hb with hb|hb
   ·exact H.ilt b hb
   ·exact Hk.own_lt hb
theorem SR {h':D2}(hh: ∀k b,h' k=some b→ZY h ks k b){g:Nat}(ho:own ρ h' g):own ρ h g:=by
  obtain ⟨k,b,h1,h2⟩:=ho
  obtain ⟨_,b0,e1,q⟩:=hh k b h1
  exact ⟨k,b0,e1,by rw [← Wa q];exact h2⟩
theorem XY {h':D2}(hh: ∀k b,h' k=some b→ZY h ks k b):Tr w I ρ h w (cA I ρ h ks) ρ h':=
  ⟨rfl,rfl,rfl,bK _,fun _ _ _=>rfl,fun _ h=> .inl h,fun _ hb _=>hb.imp id fun ⟨k,c,a1,a2⟩=>⟨k,c,(Fw a1).1,a2⟩,fun _ hb _=>SR hh hb,fun _ _ h=>h⟩
end
section
variable {P:Program}{N:Nat}{rk:Option D6}{s:St}{Q:Ex→St→Prop}
theorem ZZ {c:Code}{s0:St}(ks:List D6)(ht: ∀i,WE (O7 s.h ks) (s.t i) (s0.t i))(hg: ∀k b,s0.h k=some b→ZY s.h ks k b)(h:AWc P N rk c s0 Q):AWc P N rk c s Q:=by
  intro w I ρ a hs ro hro
  have hs0:Sim w (cA I ρ s.h ks) ρ N s0 a:=⟨hs.size,⟨hs.defers.nd,fun d hd=>by
    obtain ⟨r,e1,e2,e3,e4⟩:=hs.defers.each d hd
    exact ⟨r,e1,e2,fun q=>q.elim e3 fun ⟨k,c,a1,a2⟩=>e4 ⟨k,c,(Fw a1).1,a2⟩,fun q=>e4 (SR hg q)⟩⟩,fun i=>ML hs.heap (ht i) (hs.tmp i),MM hs.heap hg⟩
  refine (h w _ ρ a hs0 ro hro).mono ?_
  rintro e a' w' ⟨s',I',ρ',hq,hs',htr,hnd⟩
  exact ⟨s',I',ρ',hq,hs',(XY hg).trans htr,hnd⟩
end
def dI (h:D2)(t:Nat→AV):List (Nat×AV)→Prop
  | []=>True
  |(i,v)::r=>WE h (t i) v∧dI h t r
def WF (h:D2)(ks:List D6):List (D6×Option Blk)→Prop
  | []=>True
  |(k,b)::r=>(match b with|some b=>ZY h ks k b|none=>True)∧WF h ks r
theorem MN {h:D2}{t:Nat→AV}: ∀{l:List (Nat×AV)},dI h t l→∀i,WE h (t i) (T l i)
  | [],_,i=> .inl (.any _)
  |(j,v)::r,H,i=>by
   rw [T]
   split
   ·rename_i e;subst e;exact H.1
   ·exact MN H.2 i
theorem MO {h:D2}{ks:List D6}: ∀{g:List (D6×Option Blk)},WF h ks g→∀k b,G g k=some b→ZY h ks k b
  | [],_,k,b,hb=>by cases hb
  |(j,v)::r,H,k,b,hb=>by
   rw [G]at hb
   split at hb
   ·rename_i e;subst e;subst hb;exact H.1
   ·exact MO H.2 k b hb
section
variable {P:Program}{N:Nat}{rk:Option D6}{r:List It}{Q:Ex→St→Prop}{l:List (Nat×AV)}{g:List (D6×Option Blk)}
/-- What is the run's own becomes data. -/
theorem WG {a:AC}(ks:List D6)(l0:List (Nat×AV))(g0:List (D6×Option Blk))(h1:dI (O7 (G g) ks) (T l) l0)(h2:WF (G g) ks g0)(h:Z9 P N rk (.c a::r) Q .nrm ⟨T l0,G g0⟩):Z9 P N rk (.c a::r) Q .nrm ⟨T l,G g⟩:=
  fun M c hc=>ZZ (s:=⟨T l,G g⟩) ks (MN h1) (MO h2) (h M c hc)
end
theorem P6 {h:D2}{x y:AV}(e:x=y):WE h x y:= .inl (.of e)
theorem SS {h:D2}{x:AV}{d d':D}(h1:L8 h 6 x=some d)(h2:DLe d d'):WE h x (.d d'):= .inr ⟨d,d',h1,h2,rfl⟩
theorem Xc {h:D2}{ks:List D6}{k:D6}{b:Blk}{l:List (D6×Option Blk)}(h1:h k=some b)(hn:k∉ks)(hl:WF h ks l):WF h ks ((k,some b)::l):=⟨⟨hn,b,h1, .inl rfl⟩,hl⟩
theorem KT {α:Type}{h:D2}{ks:List D6}{k:D6}{ty:TypeId}{sz:Nat}{f:α→List D}{xs:List α}{l:List (D6×Option Blk)}(h1:h k=oB ty sz f xs)(hn:k∉ks)(hl:WF h ks l):WF h ks ((k,oB ty sz f xs)::l):=by
  cases xs with
  |nil=>exact ⟨trivial,hl⟩
  |cons x xs=>exact ⟨⟨hn,_,h1, .inl rfl⟩,hl⟩
theorem MP {h:D2}{ks:List D6}{k:D6}{ty:TypeId}{cs cs':List AV}{l:List (D6×Option Blk)}(h1:h k=some (.box ty cs))(hn:k∉ks)(hc:All2 (WE (O7 h ks)) cs cs')(hl:WF h ks l):WF h ks ((k,some (.box ty cs'))::l):=⟨⟨hn,_,h1, .inr ⟨ty,cs,cs',rfl,rfl,hc⟩⟩,hl⟩
theorem Nd {k:D6}:k∉ ([]:List D6):=by simp
theorem Iv {k q:D6}{ks:List D6}(h:k≠q)(hr:k∉ks):k∉q::ks:=by simp [h,hr]
/-- What is handed in becomes data, and what is handed out is the run's own. -/
theorem FCall.fr {P:Program}{u S:Nat}{f:FuncId}{avs:List AV}{ds ds':List D}{v:AV}{ups:List (D6×Option Blk)}{h0:D2}(hF:FCall P u S f (ds'.map .d) (fun _=>none) v ups)(hd:M7 (L8 h0 6) avs=some ds)(hle:All2 DLe ds ds')(_hu: ∀k∈ups.map (·.1),∃j,j<6∧k=(S+j,u)):
    FCall P u S f avs (O7 h0 (avs.flatMap (O6 h0 6))) v ((avs.flatMap (O6 h0 6)).map (fun k=>(k,none))++ups):=by
  refine ⟨hF.1,fun w I ρ h vs H hh hlen hrep hfr=> ?_⟩
  have hlive:=Kl avs ds hd
  have heq: ∀q∈avs.flatMap (O6 h0 6),h q=h0 q:=by
    intro q hq
    cases hb:h0 q with
    |none=>exact absurd hb (hlive q hq)
    |some b=>exact hh q b (by unfold O7;rw [bB hq,hb])
  have hd':M7 (L8 h 6) avs=some ds:=by rw [← hd];exact Ir avs heq
  rw [← Rn avs heq]
  clear hd hh heq hlive
  generalize hks:avs.flatMap (O6 h 6)=ks at*
  let hf:D2:=fun q=>if q∈ks then none else h q
  have hff: ∀k b,hf k=some b→ZY h ks k b:=by
    intro q b hq
    have:(if q∈ks then none else h q)=some b:=hq
    split at this
    ·cases this
    ·exact ⟨‹_›,b,this, .inl rfl⟩
  have hU:N3 h (ks.map fun k=>(k,none))=hf:=by
    funext q
    show _=if q∈ks then none else h q
    by_cases e:q∈ks
    ·rw [bB e]
     cases hb:N3 h (ks.map fun k=>(k,none)) q with
     |none=>rfl
     |some b=>
      rcases Tm _ _ _ _ hb with ⟨a,_⟩|a
      ·exact absurd (by simp only [List.map_map,List.mem_map,Function.comp];exact ⟨q,e,rfl⟩) a
      ·simp at a
    ·rw [bC e,Ao]
     simp only [List.map_map,List.mem_map,Function.comp]
     rintro ⟨x,hx,rfl⟩
     exact e hx
  have hUU: ∀(a b:List (D6×Option Blk)) (h:D2),N3 h (a++b)=N3 (N3 h a) b:=by
    intro a
    induction a with
    |nil=>intro b h;rfl
    |cons x a ih=>intro b h;obtain ⟨k,c⟩:=x;exact ih b _
  have H1:=MM (ks:=ks) H hff
  have hk:M7 (L8 (O7 h ks) 6) avs=some ds:=by
    rw [← hd']
    refine Ir avs fun q hq=> ?_
    rw [hks]at hq
    show (if q∈ks then h q else none)=h q
    rw [bB hq]
  obtain ⟨l1,l2⟩:=Cg hk
  have Hk:=H.sub fun q b hq=>(Fw (ks:=ks) hq).1
  refine (hF.2 w (cA I ρ h ks) ρ hf vs H1 (fun q b hq=>by cases hq) (by rw [lQ,← hle.length];omega) (fun i c hc=> ?_) hfr).mono ?_
  ·obtain ⟨d',e1,rfl⟩:=Vs hc
   obtain ⟨d,e2,e3⟩:=hle.get e1
   obtain ⟨x,e4,e5⟩:=l2 i d e2
   exact .d _ _ (e3 _ _ _ (Fs Hk 6 x d _ (hrep i x e4) e5))
  rintro e w' ⟨x,I',ρ',rfl,r1,r2,r3,r4⟩
  rw [hUU,hU]
  exact ⟨x,I',ρ',rfl,r1,r2,(XY hff).trans r3,r4⟩
section
variable {P:Program}{u:Nat}{l:List (Nat×AV)}{g:List (D6×Option Blk)}
end
end Go.Abs
/-! Functions as data: a list of functions, one of which is chosen. -/
namespace Go.Abs
open Go
/-- A function, or none, as data. -/
def fnD:Option Nat→D
  |some f=> .fn (.func f) [] []
  |none=> .v .nilFunc
def eN (l:List (Option Nat))(n:Int):Option Nat:=if 0≤n then (l[n.toNat]?).join else none
/-- One of two functions. -/
theorem Xd {α:Type}{v a:Nat}{x y:Option α}{r:α}(h:cond (Nat.beq v a) x y=some r):v=a∧x=some r∨Nat.beq v a=false∧y=some r:=by
  cases e:Nat.beq v a
  ·rw [e]at h;exact .inr ⟨rfl,h⟩
  ·rw [e]at h;exact .inl ⟨Nat.eq_of_beq_eq_true e,h⟩
end Go.Abs
namespace Go.Abs
open Go
/-- Elements put into a list at a place. -/
def cX {α:Type}(xs:List α)(i:Int)(ys:List α):Option (List α):=if xs.length≠0∧ys.length≠0∧0≤i∧i≤xs.length∧xs.length+ys.length≤1000000000 then some (xs.take i.toNat++ys++xs.drop i.toNat)else none
/-- The contract of slices.Insert at a type, as it is used. -/
def eO (P:Program)(f:FuncId)(e sz:Nat):Prop:= ∀(xs ys:List (List D)) (i:Nat),xs≠ []→ys≠ []→i≤xs.length→xs.length+ys.length≤1000000000→
  MCall P f [.sl (900000,0), .d (.v (.int .i64 i)), .sl (900001,0)] [.arr e sz xs, .arr e sz ys] (.sl (800000,0)) [none,none] [some (.arr e sz (xs.take i++ys++xs.drop i))]
end Go.Abs
/-! Shorter proofs: the resolved code need not be written, chains of equal parts. -/
namespace Go.Abs
open Go
/-- What the conversion finds of a function: where its results lie, and its code. -/
def XZ (P:Program)(fn:Func)(N:Nat)(M:Zy):Option (List RV×AC):=
  match fn.results.toList.mapM (AA P),fn.body with
  |some rs,some c=>match W3 P N M c,fn.name== "runtime.NumGoroutine" with
   |some ac,false=>some (rs,ac)
   |_,_=>none
  |_,_=>none
theorem fk {P:Program}{f:FuncId}{fn:Func}{N:Nat}{rs:List RV}{ac:AC}(h:P.funcs[f]? =some fn)(hn:fn.ntmps=N)(M:Zy)(hc:XZ P fn N M=some (rs,ac)):FnOK P f N rs ac:=by
  unfold XZ at hc
  split at hc
  ·rename_i rs' c hr hb
   split at hc
   ·rename_i ac' hac hx
    simp only [Option.some.injEq,Prod.mk.injEq]at hc
    obtain ⟨rfl,rfl⟩:=hc
    exact ⟨fn,c,h,hb,hn,hr,⟨M,hac⟩,hx⟩
   ·cases hc
  ·cases hc
def m0:Zy:=fun _=> []
theorem rD {h:D2}{n:Nat}{x:D}{r:List AV}{ds:List D}(h2:M7 (L8 h n) r=some ds):M7 (L8 h n) (.d x::r)=some (x::ds):=D4 C6 h2
theorem ca {x:D}{xs ys:List D}(hx:x.one=true)(h:All2 (fun x y=>DLe x y∧y.one=true) xs ys):All2 (fun x y=>DLe x y∧y.one=true) (x::xs) (x::ys):= .cons ⟨.refl _,hx⟩ h
theorem cz: ∀{xs:List D} (_:xs.all D.one=true),All2 (fun x y=>DLe x y∧y.one=true) xs xs
  | [],_=> .nil
  |_::_,h=>by
   simp only [List.all_cons,bD]at h
   exact ca h.1 (cz h.2)
theorem cv {x:AV}{xs ys:List AV}(h:All2 AVle xs ys):All2 AVle (x::xs) (x::ys):= .cons (.of rfl) h
theorem cw: ∀{xs:List AV},All2 AVle xs xs
  | []=> .nil
  |_::_=>cv cw
abbrev zs (n:Nat):List AV:=List.replicate n (di 0)
theorem sg {g g0:List (D6×Option Blk)}{d u:Nat}{b:Blk}(h:gl g d=some ((d,u),some b))(r:Yj (G g) g0):Yj (G g) (((d,u),some b)::g0):=A8 (gq h) (.of rfl) r
end Go.Abs
/-! Arrays of values, indexed by what is only known as the program runs. -/
namespace Go.Abs
open Go
def eP {α:Type}(xs:List α)(n:Int)(a:α):Option (List α):=if 0≤n∧n.toNat<xs.length then some (xs.set n.toNat a)else none
theorem MQ {α:Type}{xs:List α}{n:Int}{a:α}(h:F2 xs n=some a):0≤n∧n.toNat<xs.length∧xs[n.toNat]? =some a:=by
  unfold F2 at h
  split at h
  ·exact ⟨‹_›,(lH.1 h).1,h⟩
  ·cases h
theorem HX {α:Type}{f:α→List D}{sz:Nat}(hs: ∀x,(f x).length=sz): ∀{xs:List α} {i:Nat} {a:α},xs[i]? =some a→(((xs.map f).flatten).drop (i*sz)).take sz=f a∧(i+1)*sz≤((xs.map f).flatten).length
  | [],_,_,h=>by simp at h
  |x::r,0,a,h=>by
   simp only [List.getElem?_cons_zero,Option.some.injEq]at h
   subst h
   simp only [lP,List.flatten_cons,Nat.zero_mul,List.drop_zero,bN,Nat.one_mul,lK,hs]
   refine ⟨?_,by omega⟩
   rw [← hs x,List.take_left]
  |x::r,i+1,a,h=>by
   simp only [List.getElem?_cons_succ]at h
   obtain ⟨h1,h2⟩:=HX hs h
   simp only [lP,List.flatten_cons,lK,hs]
   rw [Nat.succ_mul i sz,Nat.add_comm (i*sz) sz,← hs x,List.drop_append,hs x]
   simp only [Nat.add_sub_cancel_left]
   rw [List.drop_eq_nil_of_le (by rw [hs x];omega),lO]
   exact ⟨h1,by rw [Nat.succ_mul (i+1) sz];omega⟩
section
variable {t:Nat→AV}{h:D2}
theorem WH {α:Type}{len sz:Nat}{x i:Opd}{k:D6}{off:Nat}{kd:IntKind}{n:Int}{xs:List α}{a:α}(hx:ev t x= .ptr k off)(hi:ev t i= .d (.v (.int kd n)))(hv:F2 xs n=some a)(hl:xs.length=len):G7 t h (.idxP len sz x i)=some (.ptr k (off+n.toNat*sz)):=by
  obtain ⟨h0,h1,_⟩:=MQ hv
  simp only [G7,hx,hi]
  rw [bB ⟨h0,hl▸h1⟩]
theorem aA {α:Type}{sz off:Nat}{bs:List AV}{n:Int}{xs:List α}{a:α}{f:α→List D}(hs: ∀x,(f x).length=sz)(hv:F2 xs n=some a)(hb:(bs.drop off).take (xs.length*sz)=((xs.map f).flatten).map AV.d):
    sz≤(bs.drop (off+n.toNat*sz)).length∧(bs.drop (off+n.toNat*sz)).take sz=(f a).map .d:=by
  obtain ⟨h0,h1,h2⟩:=MQ hv
  obtain ⟨g1,g2⟩:=HX hs h2
  have hlen:=congrArg List.length hb
  rw [lQ,lT,lU]at hlen
  rw [bM,Nat.one_mul]at g2
  have hle:((xs.map f).flatten).length≤xs.length*sz:=by omega
  have hge:(n.toNat+1)*sz≤xs.length*sz:=Nat.mul_le_mul_right _ h1
  rw [bM,Nat.one_mul]at hge
  refine ⟨by rw [lU];omega,?_⟩
  have:(((bs.drop off).take (xs.length*sz)).drop (n.toNat*sz)).take sz=((((xs.map f).flatten).map AV.d).drop (n.toNat*sz)).take sz:=by rw [hb]
  rw [List.drop_take,List.take_take,List.drop_drop,← List.map_drop,← List.map_take,g1,Nat.min_eq_left (by omega)]at this
  exact this
theorem ST {α:Type}{sz off:Nat}{p:Opd}{k:D6}{ty:TypeId}{bs:List AV}{n:Int}{xs:List α}{a:α}{f:α→List D}{v:AV}(hp:ev t p= .ptr k (off+n.toNat*sz))(hb:h k=some (.box ty bs))(hv:F2 xs n=some a)(hs: ∀x,(f x).length=sz)(hc:(bs.drop off).take (xs.length*sz)=((xs.map f).flatten).map AV.d)(hr:W1 ((f a).map .d)=v):G7 t h (.load sz true p)=some v:=by
  obtain ⟨h1,h2⟩:=aA hs hv hc
  simp only [G7,hp,R6,hb,if_true,h1,h2,hr]
end
def eQ (k:IntKind)(a b:Int):Option Int:=if b<0 then none else some (k.wrap (a*2^ (min b.toNat k.bits)))
def Yk (k:IntKind)(a b:Int):Option Int:=if b<0 then none else some (a.fdiv (2^ (min b.toNat k.bits)))
theorem AS {t:Nat→AV}{h:D2}{x y:Opd}{k k':IntKind}{a b v:Int}(hx:ev t x= .d (.v (.int k a)))(hy:ev t y= .d (.v (.int k' b)))(hv:Yk k a b=some v):G7 t h (.bin .shr x y)=some (.d (.v (.int k v))):=by
  unfold Yk at hv
  split at hv
  ·cases hv
  ·rename_i h1;cases hv;simp only [G7,hx,hy,Tb,Bool.true_or,if_true,BY,bC h1,lE]
end Go.Abs
namespace Go.Abs
open Go
section
variable {P:Program}
end
end Go.Abs
/-! Any number of elements, appended in a region that draws its order. -/
namespace Go.Abs
open Go
section
variable {P:Program}{u:Nat}{r:List AOp}{l:List (Nat×AV)}{g:List (D6×Option Blk)}
theorem Mp: ∀{aops:List AOp} {u:Nat} {t:Nat→AV} {h:D2} {K K':(Nat→AV)→D2→List (List D6×List D6)→Prop},(∀t h tr,K t h tr→K' t h tr)→Di P u aops t h K→Di P u aops t h K'
  | [],u,t,h,K,K',hk,hr=>by simp only [Di]at hr ⊢;exact hk _ _ _ hr
  |⟨dst,k,g⟩::r,u,t,h,K,K',hk,hr=>by
   simp only [Di]at hr ⊢
   exact VQ (fun v ups=>Mp fun t h tr=>hk _ _ _) (RO fun v ups=>Mp fun t h tr=>hk _ _ _) hr
/-- Behind nil. -/
theorem DP {K:(Nat→AV)→D2→List (List D6×List D6)→Prop}{α:Type}{d e sz:Nat}{ty:TypeId}{x y:Opd}(f:α→List D)(ys zs:List α)(hy:W4 (G g) sz (ev (T l) y)=some (ys.map f))(hx:ev (T l) x= .d .nilS)(hl:Y4 ([]:List α) ys=some zs)(hn:G g (d,u)=none)
    (hk:Di P u r (T ((d,oS zs (d,u))::l)) (G (((d,u),oB e sz f zs)::g)) fun t' h' tr=>K t' h' ((W2 (T l) (G g) (.append ty e sz x y),[(d,u)])::tr)∧K t' h' ((W2 (T l) (G g) (.append ty e sz x y),[])::tr)):Di P u (⟨some d, .append ty e sz x y,none⟩::r) (T l) (G g) K:=by
  obtain ⟨h1,h2⟩:=Cu hl
  have h2:zs=ys:=h2
  rw [h2]at hk
  clear h2 hl
  cases ys with
  |nil=>
   have hy':W4 (G g) sz (ev (T l) y)=some []:=hy
   have e0:G (((d,u),oB e sz f ([]:List α))::g)=G g:=by
     funext q
     rw [G]
     by_cases e1:q=(d,u)
     ·subst e1;rw [bB rfl,hn];rfl
     ·rw [bC e1]
   rw [e0]at hk
   unfold Di
   simp only [gW,Ve,Dz,hy',hx,N3]
   exact Mp (fun _ _ _ q=>q.2) hk
  |cons y0 ys=>
   unfold Di
   simp only [lP]at hy
   simp only [gW,Ve,Dz,hy,hx]
   rw [bB (by simpa using h1)]
   simp only [Option.getD_some,lP,List.map_nil,N3]
   have e0:V1 (G g) (d,u) (some (.arr e sz (f y0::ys.map f)))=G (((d,u),oB e sz f (y0::ys))::g):=by rw [KM];rfl
   rw [e0]
   exact Mp (fun _ _ _ q=>q.1) hk
theorem HY {α:Type}{x:α}{xs ys zs:List α}(h:Y4 (x::xs) ys=some zs):zs≠ []:=by
  obtain ⟨_,rfl⟩:=Cu h;simp
/-- Behind a slice of the run's own, or behind nil. -/
theorem Pr {K:(Nat→AV)→D2→List (List D6×List D6)→Prop}{α:Type}{d e sz:Nat}{ty:TypeId}{x y:Opd}(f:α→List D)(k:D6)(xs ys zs:List α)(hy:W4 (G g) sz (ev (T l) y)=some (ys.map f))(hx:ev (T l) x=oS xs k)(hb:G g k=oB e sz f xs)(hl:Y4 xs ys=some zs)(hn:G g (d,u)=none)
    (hk:Di P u r (T ((d,oS zs (d,u))::l)) (G (((d,u),oB e sz f zs)::(k,none)::g)) fun t' h' tr=>K t' h' ((W2 (T l) (G g) (.append ty e sz x y),[k,(d,u)])::tr)∧K t' h' ((W2 (T l) (G g) (.append ty e sz x y),[(d,u)])::tr)∧K t' h' ((W2 (T l) (G g) (.append ty e sz x y),[])::tr)):Di P u (⟨some d, .append ty e sz x y,none⟩::r) (T l) (G g) K:=by
  cases xs with
  |nil=>
   have e1:G (((d,u),oB e sz f zs)::(k,none)::g)=G (((d,u),oB e sz f zs)::g):=by
     funext q
     rw [G,G,G]
     by_cases e2:q=(d,u)
     ·rw [bB e2,bB e2]
     ·rw [bC e2,bC e2]
      by_cases e3:q=k
      ·subst e3;rw [bB rfl,hb];rfl
      ·rw [bC e3]
   rw [e1]at hk
   exact DP f ys zs hy hx hl hn (Mp (fun _ _ _ q=>q.2) hk)
  |cons x0 xs=>
   rw [Ap (k:=(d,u)) (HY hl),MD (HY hl)]at hk
   exact SH f k (x0::xs) ys zs hy hx hb hl (Mp (fun _ _ _ q=>q.1) hk)
end
theorem DQ {Q R:Prop}(f:Q→R)(q:Q):R:=f q
end Go.Abs
/-! Strings. -/
namespace Go.Abs
open Go
def HZ (s:ByteArray)(i:Int):Option Int:=if 0≤i then (s.data.toList[i.toNat]?).map fun b=>(b.toNat:Int)else none
def CE (a b:ByteArray):Option ByteArray:=if a.size+b.size≤1000000000 then some (a++b)else none
def Yl (s:ByteArray)(i j:Int):Option ByteArray:=if 0≤i∧i≤j∧j≤s.size then some (s.extract i.toNat j.toNat)else none
section
variable {t:Nat→AV}{h:D2}{x y z:Opd}{s s' v:ByteArray}{k k':IntKind}{i j:Int}
theorem Sg (hx:ev t x= .d (.v (.string s))):G7 t h (.str .len [x])=some (.d (.v (.int .i64 s.size))):=by
  simp only [G7,lP,List.map_nil,hx,Jf]
theorem FF {n:Int}(hx:ev t x= .d (.v (.string s)))(hy:ev t y= .d (.v (.int k i)))(hv:HZ s i=some n):G7 t h (.str .idx [x,y])=some (.d (.v (.int .u8 n))):=by
  unfold HZ at hv
  split at hv
  ·rename_i h0
   rw [lD]at hv
   obtain ⟨b,hb,rfl⟩:=hv
   simp only [G7,lP,List.map_nil,hx,hy,Jf,h0,if_true,hb,lE]
  ·cases hv
theorem Xe (hx:ev t x= .d (.v (.string s)))(hy:ev t y= .d (.v (.string s')))(hv:CE s s'=some v):G7 t h (.str .cat [x,y])=some (.d (.v (.string v))):=by
  unfold CE at hv
  split at hv
  ·rename_i h0
   cases hv
   simp only [G7,lP,List.map_nil,hx,hy,Jf,h0,if_true]
  ·cases hv
theorem MR {neg:Bool}(hx:ev t x= .d (.v (.string s)))(hy:ev t y= .d (.v (.string s'))):G7 t h (.str (.eq neg) [x,y])=some (.d (.v (.bool (if neg then !(s.toList==s'.toList)else s.toList==s'.toList)))):=by
  simp only [G7,lP,List.map_nil,hx,hy,Jf]
theorem Yu (hx:ev t x= .d (.v (.string s)))(hy:ev t y= .d (.v (.int k i)))(hv:Yl s i s.size=some v):G7 t h (.str (.sl true false) [x,y])=some (.d (.v (.string v))):=by
  unfold Yl at hv
  split at hv
  ·rename_i h0
   cases hv
   simp only [G7,lP,List.map_nil,hx,hy,Jf]
   rw [bB ⟨h0.1,h0.2.1⟩];rfl
  ·cases hv
theorem MS (hx:ev t x= .d (.v (.string s)))(hy:ev t y= .d (.v (.int k j)))(hv:Yl s 0 j=some v):G7 t h (.str (.sl false true) [x,y])=some (.d (.v (.string v))):=by
  unfold Yl at hv
  split at hv
  ·rename_i h0
   cases hv
   simp only [G7,lP,List.map_nil,hx,hy,Jf]
   rw [bB ⟨h0.2.1,h0.2.2⟩];rfl
  ·cases hv
end
end Go.Abs
/-! A list that may be empty: the two cases. -/
namespace Go.Abs
open Go
theorem DR {α β:Type}{xs:List α}{p q:Option β}{r:β}(h:cond xs.isEmpty p q=some r):(xs= []∧p=some r)∨(xs≠ []∧q=some r):=by
  cases xs with
  |nil=>exact .inl ⟨rfl,h⟩
  |cons x xs=>exact .inr ⟨List.cons_ne_nil _ _,h⟩
theorem SU {α:Type}{k:D6}{xs:List α}(h:xs= []):oS xs k= .d .nilS:=by subst h;rfl
/-- Runs of equal numbers become one. -/
def Kz:List Int→List Int
  | []=> []
  | [x]=> [x]
  |x::y::r=>cond (x==y) (Kz (y::r)) (x::Kz (y::r))
def AT (p:List Int):Option (List Int):=match p with
  | []=>none
  |x::r=>some (Kz (x::r))
theorem FG {p r:List Int}(h:AT p=some r):p≠ []∧r=Kz p:=by
  cases p with
  |nil=>cases h
  |cons x p=>exact ⟨List.cons_ne_nil _ _,(lC h).symm⟩
theorem Xx (a:Int): ∀l:List Int,Kz (l++ [a])=Kz l++ (if l.getLast? =some a then []else [a])
  | []=>rfl
  | [x]=>by
    by_cases e:x=a
    ·subst e;simp [Kz]
    ·have:(x==a)=false:=by simp [e]
     simp [Kz,e,this]
  |x::y::r=>by
   have ih:=Xx a (y::r)
   rw [List.cons_append]at ih
   rw [List.cons_append,List.cons_append,Kz,Kz,ih,List.getLast?_cons_cons]
   cases x==y
   ·rfl
   ·rfl
end Go.Abs
/-! Calls whose code is run in place: what is the run's own is shared with them. -/
namespace Go.Abs
open Go
theorem KU {u d:Nat}{t:Nat→AV}{ty:TypeId}{x:Opd}{cs:List AV}(h:ev t x=W1 cs):Kj u d t (.box ty true x)=some (.ptr (d,u) 0, .box ty cs):=by
  have:cellsOf true (ev t x)=some cs:=by
    rw [h];unfold W1
    cases ha:Fa cs with
    |none=>rfl
    |some ds=>
     have:=S8 cs
     unfold W1 at this
     rw [ha]at this
     exact this
  simp only [Kj,this,lE]
section
variable {P:Program}{u:Nat}{r:List AOp}{l:List (Nat×AV)}{g:List (D6×Option Blk)}{K:(Nat→AV)→D2→Prop}
/-- What the code that is run in place has to leave. -/
def aB {γ:Type}(rs:List RV)(J:AV→γ→List (Nat×AV)×List (D6×Option Blk)→Prop)(l1:γ→List (Nat×AV))(g1:γ→List (D6×Option Blk))(e:Ex)(s:St):Prop:=
  (e= .nrm∨e= .ret)∧∃v gg,Uv s.t s.h rs=some v∧J v gg (l1 gg,g1 gg)∧Yj s.h (g1 gg)
def aC {γ:Type}(t:AV→Nat→AV)(v:AV)(_:γ)(x:List (Nat×AV)×List (D6×Option Blk)):Prop:=ZQ (t v) x.1
theorem Jo {dst:Option Nat}{f:Opd}{args:List Opd}{fid:FuncId}{avs:List AV}{rs:List RV}{ac:AC}{N:Nat}{γ:Type}(F:FnOK P fid N rs ac)(l1:γ→List (Nat×AV))(g1:γ→List (D6×Option Blk))
    (hc:Q5 (T l) f args=some (fid,avs)) (hl:avs.length≤N)
    (hb:Z9 P N none [.c ac] (aB rs (aC fun v=>Mg (T l) dst v) l1 g1) .nrm ⟨T (Se avs 0),G g⟩)
    (hk: ∀gg u',(∀q,G (g1 gg) q≠none→q.2≠u')→K1 P u' r (T (l1 gg)) (G (g1 gg)) K):K1 P u (⟨dst, .icall f args,none⟩::r) (T l) (G g) K:=by
  unfold K1
  simp only [gW]
  unfold Us
  have hI:ICall P fid avs (G g) fun v h'=> ∀u',(∀q,h' q≠none→q.2≠u')→∃s0,Sb s0 ⟨Mg (T l) dst v,h'⟩∧K1 P u' r s0.t s0.h K:=by
    refine AD F hl ?_
    rw [FD]
    refine AW.mono hb ?_
    rintro e s ⟨he,v,gg,hv,hj,hs⟩
    refine ⟨he,v,hv,fun u' hu'=> ?_⟩
    have S:Sb ⟨T (l1 gg),G (g1 gg)⟩ ⟨Mg (T l) dst v,s.h⟩:=D0 hj hs
    exact ⟨_,S,hk gg u' (S.fresh hu')⟩
  split
  ·rename_i q hq
   exfalso
   simp [Q5,hq]at hc
  ·rw [hc];exact hI
/-- At its end: the result, and what is known of the heap. -/
theorem Mk {γ:Type}{rs:List RV}{l1:γ→List (Nat×AV)}{g1:γ→List (D6×Option Blk)}{dst:Option Nat}{e:Ex}{l0:List (Nat×AV)}{g0:List (D6×Option Blk)}{v:AV}(he:e= .nrm∨e= .ret)(hv:Uv (T l0) (G g0) rs=some v)(gg:γ)(ht:ZQ (Mg (T l) dst v) (l1 gg))(hg:Yj (G g0) (g1 gg)):
    aB rs (aC fun v=>Mg (T l) dst v) l1 g1 e ⟨T l0,G g0⟩:=⟨he,v,gg,hv,ht,hg⟩
/-- A region in no fixed order, up to such a call. -/
theorem WI {N:Nat}{rk:Option D6}{Q:Ex→St→Prop}{rr:List It}{aops:List AOp}{b:Nat}(hn:aW (aops.take b)=true)
    (h: ∀u,(∀k,G g k≠none→k.2≠u)→K1 P u (aops.take b) (T l) (G g) fun t' h'=> ∀u',(∀k,h' k≠none→k.2≠u')→K1 P u' (aops.drop b) t' h' fun t h=>Z9 P N rk rr Q .nrm ⟨t,h⟩):Z9 P N rk (.c (.drawB aops b [])::rr) Q .nrm ⟨T l,G g⟩:=
  HE hn h
theorem KV {l0:List (Nat×AV)}{g0:List (D6×Option Blk)}{s:St}(S:Sb ⟨T l0,G g0⟩ s): ∀{g1:List (D6×Option Blk)},Yj (G g0) g1→Yj s.h g1
  | [],_=>trivial
  |(k,none)::_,h=>⟨trivial,KV S h.2⟩
  |(k,some b0)::_,h=>by
   obtain ⟨b1,e1,e2⟩:=h.1
   obtain ⟨b,e3,e4⟩:=S.h k b1 e1
   exact ⟨⟨b,e3,e4.trans e2⟩,KV S h.2⟩
/-- The same behind a join. -/
theorem Sh {γ:Type}{l1:γ→List (Nat×AV)}{g1:γ→List (D6×Option Blk)}{dst:Option Nat}{e:Ex}{s:St}{l0:List (Nat×AV)}{g0:List (D6×Option Blk)}(S:Sb ⟨T l0,G g0⟩ s)(he:e= .nrm∨e= .ret)(gg:γ)(ht:ZQ (Mg (T l) dst (.tup [])) (l1 gg))(hg:Yj (G g0) (g1 gg)):
    aB [] (aC fun v=>Mg (T l) dst v) l1 g1 e s:=⟨he, .tup [],gg,rfl,ht,KV S hg⟩
end
end Go.Abs
/-! Ranges over a function that looks at what is the run's own. -/
namespace Go.Abs
open Go
section
variable {P:Program}{N:Nat}{rk:Option D6}{s:St}{Q:Ex→St→Prop}{r:List It}
/-- Such a function: as long as the blocks hold what it looks at, it hands on the elements, one after the other. -/
def YA (P:Program)(c:AV)(Rq:D2→Prop)(L:List (List D)):Prop:= ∃gf fs cs,OI c=some (gf,fs,cs)∧∀(k:D6) (h0:D2) (Inv:Nat→D2→Prop) (Stop:D2→Prop),Inv 0 h0→(∀i h,Inv i h→∃h1,Sb ⟨T [],h1⟩ ⟨T [],h⟩∧Inv i h1∧Rq h1)→
  (∀i h es,L[i]? =some es→Inv i h→YCall P k (es.map .d) h fun v h'=>(v= .d (.v (.bool true))∧Inv (i+1) h')∨(v= .d (.v (.bool false))∧Stop h'))→
   ICall P gf (fs++ [.yld k]++cs) h0 fun _ h'=>Inv L.length h'∨Stop h'
theorem IA {σ τ α γ:Type}{f:Opd}{ps:List Nat}{as bd:AC}{tl:List (Nat×AV)}{g0:List (D6×Option Blk)}(c:AV)(Rq:D2→Prop)(enc:α→List D)(L:List α)(F:σ→α→Option (Stp σ τ))(E:σ→τ)(st:σ→γ→List (D6×Option Blk))(x0:σ)(gg0:γ)(y:τ)
    (hf:ev (T tl) f=c) (hI:YA P c Rq (L.map enc)) (hRq: ∀x gg u b,Rq (G (((1000000,u),b)::st x gg))) (hps: ∀a,(enc a).length=ps.length) (hx:loopL F E L x0=some y) (hs0:Sb ⟨T [],G (st x0 gg0)⟩ ⟨T [],G g0⟩) (hrk: ∀kk,rk=some kk→∃t r,G g0 kk=some (.obj t r))
    (hround: ∀u,(∀q,G g0 q≠none→q.2≠u)→rk≠some (1000000,u)→(∀x gg,G (st x gg) (1000000,u)=none)∧
      ∀r0 x gg a z,r0.state= .ready→F x a=some z→(∀t,z= .out t→t=y)→
       Z9 P N (some (1000000,u)) [.c as, .j (fun s1=>s1.h (1000000,u)=some (.obj (T tl) r0)∧
        Z9 P N (some (1000000,u)) [.c bd] (SB P N rk r Q (T tl) (1000000,u) r0 st z) .nrm ⟨s1.t,V1 s1.h (1000000,u) (some (.obj (T tl) {r0 with state:= .busy}))⟩)] (fun _ _=>False) .nrm
        ⟨Ot (T tl) ps ((enc a).map .d),G ((((1000000,u),some (.obj (T tl) r0)):D6×Option Blk)::st x gg)⟩)
    (hend: ∀x gg s',y=E x→Sb ⟨T tl,G (st x gg)⟩ s'→Z9 P N rk r Q .nrm s'):Z9 P N rk (.c (.rangeF f ps as bd)::r) Q .nrm ⟨T tl,G g0⟩:=by
  obtain ⟨gf,fs,cs,hcl,hI⟩:=hI
  refine DE (gf:=gf) (fs:=fs) (cs:=cs) (by show OI (ev (T tl) f)=_;rw [hf];exact hcl) hrk ?_
  intro u r0 M hu hkn hrkne hst hpd hpar hsize hpsN has hbd
  obtain ⟨hkst,hr⟩:=hround u hu hrkne
  have hkn:G g0 (1000000,u)=none:=hkn
  refine ICall.mono ?_ (hI (1000000,u) (V1 (G g0) (1000000,u) (some (.obj (T tl) r0)))
    (fun i h=> ∃x gg,loopL F E (L.drop i) x=some y∧h (1000000,u)=some (.obj (T tl) r0)∧Sb ⟨T [],G (st x gg)⟩ ⟨T [],h⟩)
    (RR (1000000,u) (T tl) (Z9 P N rk r Q)) ?_ (fun i h ⟨x,gg,h1,h2,h3⟩=>⟨G (((1000000,u),some (.obj (T tl) r0))::st x gg),⟨fun i=> .refl _,fun q b0 hb=>by
      by_cases e:q=(1000000,u)
      ·subst e
       have hb:=Eq.trans (Eq.symm A2) hb
       cases hb
       exact ⟨_,h2, .refl _⟩
      ·have hb:G (((1000000,u),some (.obj (T tl) r0))::st x gg) q=some b0:=hb
       rw [G,bC e]at hb
       exact h3.h q b0 hb⟩,⟨x,gg,h1,A2,fun i=> .refl _,fun q b0 hb=>by
      refine ⟨b0,?_, .refl _⟩
      have:q≠(1000000,u):=by rintro rfl;exact absurd ((hkst _ _).symm.trans hb) (by simp)
      show G (((1000000,u),some (.obj (T tl) r0))::st x gg) q=some b0
      rw [G,bC this];exact hb⟩,hRq x gg u _⟩) ?_)
  ·rintro v h' (⟨x,gg,h1,h2,h3⟩|h)
   ·rw [show (L.map enc).length=L.length from lQ ..,List.drop_length,loopL]at h1
    refine ⟨T tl,r0,h2,by rw [hst];simp,?_⟩
    rw [hpd]
    refine hend x gg _ (lC h1).symm ⟨fun i=> .refl _,fun q b0 hb=> ?_⟩
    obtain ⟨b,e1,e2⟩:=h3.h q b0 hb
    refine ⟨b,?_,e2⟩
    have:q≠(1000000,u):=by rintro rfl;exact absurd ((hkst _ _).symm.trans hb) (by simp)
    show V1 h' _ none q=some b
    rw [J3 _ _ _ _ this];exact e1
   ·exact h
  ·refine ⟨x0,gg0,by rw [List.drop_zero];exact hx,D9 _ _ _,fun i=> .refl _,fun q b0 hb=> ?_⟩
   obtain ⟨b,e1,e2⟩:=hs0.h q b0 hb
   refine ⟨b,?_,e2⟩
   have:q≠(1000000,u):=by rintro rfl;exact absurd ((hkst _ _).symm.trans hb) (by simp)
   show V1 (G g0) _ _ q=some b
   rw [J3 _ _ _ _ this];exact e1
  ·rintro i h es hes ⟨x,gg,h1,h2,h3⟩
   obtain ⟨a,ha,rfl⟩:=Vs hes
   obtain ⟨z,hz,hz2⟩:=AG ha h1
   have hround:=hr r0 x gg a z hst hz (fun t ht=>by subst ht;exact hz2)
   have hsb:Sb ⟨Ot (T tl) ps ((enc a).map .d),G ((((1000000,u),some (.obj (T tl) r0)):D6×Option Blk)::st x gg)⟩ ⟨Ot (T tl) ps ((enc a).map .d),h⟩:=by
     refine ⟨fun i=> .refl _,fun q b0 hb=> ?_⟩
     by_cases e:q=(1000000,u)
     ·subst e
      have hb:=Eq.trans (Eq.symm A2) hb
      cases hb
      exact ⟨_,h2, .refl _⟩
     ·have hb:G (((1000000,u),some (.obj (T tl) r0))::st x gg) q=some b0:=hb
      rw [G,bC e]at hb
      exact h3.h q b0 hb
   refine HH (M:=M) (as:=as) (bd:=bd) h2 (by rw [lQ,hps a,← hpar];simp) hsize (by rw [hpar];exact hpsN) has hbd ?_
   rw [hpar]
   have hround:=MC hsb hround
   refine AW.mono hround ?_
   intro e s1 hs1
   cases e with
   |ext id=>exact absurd hs1 (by simp [Z9])
   |ret=>exact absurd hs1 (by simp [Z9])
   |nrm=>
    obtain ⟨q1,q2⟩:=hs1
    refine ⟨rfl,T tl,r0,q1,hst,?_⟩
    refine AW.mono q2 ?_
    rintro e s2 ⟨w1,w2⟩
    refine ⟨T tl,_,w1,?_⟩
    cases z with
    |go x'=>
     obtain ⟨rfl,g',hg'⟩:=w2
     refine .inl ⟨rfl,x',g',hz2,?_,fun i=> .refl _,fun q b0 hb=> ?_⟩
     ·show V1 s2.h _ _ _=_
      rw [D9]
      have:({state:= .ready,pending:=none,fn:=r0.fn,tmps:=r0.tmps,params:=r0.params,assign:=r0.assign,body:=r0.body,defers:=r0.defers}:Loop)=r0:=by
        cases r0
        simp only at hst hpd
        subst hst hpd
        rfl
      exact congrArg (fun r=>some (Blk.obj (T tl) r)) this
     ·obtain ⟨b,e1,e2⟩:=hg'.h q b0 hb
      refine ⟨b,?_,e2⟩
      have:q≠(1000000,u):=by rintro rfl;exact absurd ((hkst _ _).symm.trans hb) (by simp)
      show V1 s2.h _ _ q=some b
      rw [J3 _ _ _ _ this];exact e1
    |out t=>
     obtain ⟨hne,hq⟩:=w2
     cases e with
     |nrm=>exact absurd rfl hne
     |ext id=>
      refine .inr ⟨rfl,T tl,_,D9 _ _ _,by simp,?_⟩
      dsimp only
      rw [Ys];exact hq
     |ret=>
      refine .inr ⟨rfl,T tl,_,D9 _ _ _,by simp,?_⟩
      dsimp only
      rw [Ys];exact hq
end
section
variable {P:Program}{u:Nat}{r:List AOp}{t:Nat→AV}{h:D2}{K:(Nat→AV)→D2→Prop}
theorem Qx {dst:Option Nat}{k:AK}{g:Nat}{b:Bool}(hg:t g= .d (.v (.bool b)))(hk:K1 P u (⟨dst,k,none⟩::r) t h K):K1 P u (⟨dst,k,some (g,b)⟩::r) t h K:=by
  cases k<;>(unfold K1 at hk ⊢;simpa only [gW,hg,if_true] using hk)
theorem KW {dst:Option Nat}{k:AK}{g:Nat}{b c:Bool}(hg:t g= .d (.v (.bool c)))(hne:(c==b)=false)(hk:K1 P u r (Mg t dst (.d (.tup []))) h K):K1 P u (⟨dst,k,some (g,b)⟩::r) t h K:=by
  have hne: ¬c=b:=by simpa using hne
  cases k<;>(unfold K1;simp only [gW,hg,bC hne];exact hk)
theorem OU {d:Nat}{f:Opd}{args:List Opd}(k:D6)(avs:List AV)(hf:ev t f= .yld k)(hav:args.map (ev t)=avs)(hc:YCall P k avs h fun v h'=> ∃h0,Sb ⟨T [],h0⟩ ⟨T [],h'⟩∧∀u',(∀q,h0 q≠none→q.2≠u')→K1 P u' r (V1 t d v) h0 K):K1 P u (⟨some d, .icall f args,none⟩::r) t h K:=by
  unfold K1
  simp only [gW]
  unfold Us
  rw [hf,hav]
  exact hc.mono fun v h' ⟨h0,S,q⟩ u' hu'=>⟨⟨V1 t d v,h0⟩,⟨fun i=> .refl _,S.h⟩,q u' (S.fresh hu')⟩
end
section
variable {P:Program}{N:Nat}{rk:Option D6}{s:St}{Q:Ex→St→Prop}{r:List It}
theorem Ow {aops:List AOp}(h: ∀u,(∀k,s.h k≠none→k.2≠u)→K1 P u aops s.t s.h fun t' h'=>Z9 P N rk r Q .nrm ⟨t',h'⟩):Z9 P N rk (.c (.reg aops)::r) Q .nrm s:=My h
theorem MT {α:Type}{a:AC}(st:α→St)(μ:α→Nat)(Inv:α→Prop)(x0:α)(h0:Inv x0)(hs0:Sub (st x0) s)
    (h: ∀x,Inv x→Z9 P N rk [.c a] (fun e s'=>match e with| .nrm=> ∃y,Inv y∧μ y<μ x∧Sub (st y) s'|e=>Z9 P N rk r Q e s') .nrm (st x)):Z9 P N rk (.c (.loop a)::r) Q .nrm s:=HG st μ Inv x0 h0 hs0 h
end
end Go.Abs
/-! Slices of the run's own that may hold nothing and yet not be nil. -/
namespace Go.Abs
open Go
/-- A slice of the run's own; b: it is not nil, though it may hold nothing. -/
def oW {α:Type}(b:Bool)(xs:List α)(k:D6):AV:=match xs with
  | []=>cond b (.sl k) (.d .nilS)
  |_=> .sl k
def wB {α:Type}(b:Bool)(ty:TypeId)(sz:Nat)(f:α→List D)(xs:List α):Option Blk:=match xs with
  | []=>cond b (some (.arr ty sz [])) none
  |_=>some (.arr ty sz (xs.map f))
section
variable {α:Type}{b:Bool}{xs:List α}{k:D6}{ty:TypeId}{sz:Nat}{f:α→List D}{h:D2}
def wD (b:Bool)(f:α→List D)(xs:List α):D:=cond b (.list (xs.map f)) (oD f xs)
end
section
variable {P:Program}{u:Nat}{r:List AOp}{l:List (Nat×AV)}{g:List (D6×Option Blk)}
end
/-- How much a slice is grown by. -/
def eA (n:Int):Option Unit:=if 0≤n∧n≤1000000 then some ()else none
end Go.Abs
/-! Slices of one's own slices; a row of a table, added, dropped or changed. -/
namespace Go.Abs
open Go
section
variable {P:Program}{N:Nat}{rk:Option D6}{s:St}{Q:Ex→St→Prop}
end
section
variable {P:Program}{N:Nat}{rk:Option D6}{r:List It}{Q:Ex→St→Prop}{l:List (Nat×AV)}{g:List (D6×Option Blk)}
end
section
variable {P:Program}{u:Nat}{r:List AOp}{l:List (Nat×AV)}{g:List (D6×Option Blk)}
end
/-- What an edit makes of the rows of a table. -/
def YB {α:Type}(kind i:Int)(xs:List α)(v:α):Option (List α×Bool):=
  cond ((kind==1)&& (i==(xs.length:Int))) ((Y4 xs [v]).bind fun l=>some (l,true))
    (cond (((kind==2)&&decide ((xs.length:Int)>0))&& (i==J6 ((xs.length:Int) - 1))) ((RW xs 0 i).bind fun l=>some (l,true))
      (cond (((kind==3)&&decide (i≥0))&&decide (i< (xs.length:Int))) ((F2 xs i).bind fun _=>some (Ww xs i v,true)) (some (xs,false))))
def wb {α:Type}(b:Bool)(xs:List α):Bool:=b|| !xs.isEmpty
structure EditC (P:Program)(f:FuncId)(e sz:Nat){α β:Type}(E:α→List D)(B:β→List D)(kd at_:β→Int):Prop where
  m: ∀(xs zs:List α) (x:β) (v:α) (ok:Bool),YB (kd x) (at_ x) xs v=some (zs,ok)→MCall P f [.sl (900000,0), .d (.agg (B x)), .d (.agg (E v))] [.arr e sz (xs.map E)] (.tup [.sl (800000,0), .d (bo ok)]) [none] [some (.arr e sz (zs.map E))]
  n: ∀(zs:List α) (x:β) (v:α) (ok:Bool),YB (kd x) (at_ x) [] v=some (zs,ok)→MCall P f [.d .nilS, .d (.agg (B x)), .d (.agg (E v))] [] (.tup [oS zs (800000,0), .d (bo ok)]) [] [oB e sz E zs]
section
variable {P:Program}{u:Nat}{r:List AOp}{l:List (Nat×AV)}{g:List (D6×Option Blk)}
end
end Go.Abs
/-! Strings of bytes. -/
namespace Go.Abs
open Go
theorem AU: ∀(xs:List Int),Qb (xs.map fun x=> [D.v (Value.int .u8 x)])=some xs
  | []=>rfl
  |x::r=>by rw [lP,Qb,AU r];rfl
section
variable {t:Nat→AV}{h:D2}{x:Opd}
theorem SV {xs:List Int}(hx:ev t x= .d (.list (xs.map fun x=> [D.v (Value.int .u8 x)]))):G7 t h (.str .ofb [x])=some (.d (.v (.string (K9 xs)))):=by
  simp only [G7,lP,List.map_nil,hx,Jf,AU,lE]
theorem WJ {α:Type}{f:α→List D}{k:D6}{sz:Nat}{xs:List α}(hx:ev t x= .sl k)(hk:h k=some (.arr 5 sz (xs.map f)))(he:xs≠ []):G7 t h (.bmark x)=some (.sl k):=by
  cases xs with
  |nil=>exact absurd rfl he
  |cons e r=>simp only [G7,hx,hk,lP,bB]
theorem SW {y:Opd}{s s':ByteArray}(hx:ev t x= .d (.v (.string s)))(hy:ev t y= .d (.v (.string s'))):G7 t h (.str (.eq false) [x,y])=some (.d (.v (.bool (s.toList==s'.toList)))):=MR (neg:=false) hx hy
theorem KX {y:Opd}{s s':ByteArray}(hx:ev t x= .d (.v (.string s)))(hy:ev t y= .d (.v (.string s'))):G7 t h (.str (.eq true) [x,y])=some (.d (.v (.bool (!(s.toList==s'.toList))))):=MR (neg:=true) hx hy
end
end Go.Abs
