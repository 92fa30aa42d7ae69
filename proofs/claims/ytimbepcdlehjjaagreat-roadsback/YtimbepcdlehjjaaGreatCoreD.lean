/-
  An abstract layer over the machine, fourth part: contracts that alter what is handed in; functions that can be computed.
-/
import Derived.Test.YtimbepcdlehjjaaGreatCoreC
namespace Go.Abs
open Go
/-! ### Contracts of functions that alter what is handed to them, or hand out what is their own -/
/-- The key of the i-th block that is handed in; of the j-th that is handed out. -/
def Bl (i:Nat):E6:=(900000+i,0)
def QZ (j:Nat):E6:=(800000+j,0)
def Ah (ko kn:Nat→E6)(q:E6):E6:=cond (Nat.ble 900000 q.1) (ko (q.1 - 900000)) (kn (q.1 - 800000))
def EL (n m:Nat)(q:E6):Bool:=q.2==0&& (Nat.ble 900000 q.1&&Nat.blt (q.1 - 900000) n||Nat.ble 800000 q.1&& !Nat.ble 900000 q.1&&Nat.blt (q.1 - 800000) m)
theorem HM {n m:Nat}{q:E6}(h:EL n m q=true):(∃i,i<n∧q=Bl i)∨∃j,j<m∧j<100000∧q=QZ j:=by
  obtain ⟨a,b⟩:=q
  simp only [EL,bG,bH,bM,Nat.ble_eq,Nat.blt_eq,Bool.not_eq_true',bK,ne_eq]at h
  obtain ⟨rfl,h|h⟩:=h
  ·exact .inl ⟨a - 900000,h.2,by simp only [Bl,Prod.mk.injEq,and_true];omega⟩
  ·exact .inr ⟨a - 800000,h.2,by omega,by simp only [QZ,Prod.mk.injEq,and_true];omega⟩
theorem CZ (ko kn:Nat→E6)(i:Nat):Ah ko kn (Bl i)=ko i:=by
  simp only [Ah,Bl]
  rw [show Nat.ble 900000 (900000+i)=true by simp,bC,Nat.add_sub_cancel_left]
theorem ND (ko kn:Nat→E6){j:Nat}(h:j<100000):Ah ko kn (QZ j)=kn j:=by
  simp only [Ah,QZ]
  rw [show Nat.ble 900000 (800000+j)=false by rw [bK,ne_eq,Nat.ble_eq];omega,bD,Nat.add_sub_cancel_left]
theorem DA {i j:Nat}(h:Bl i=Bl j):i=j:=by simp only [Bl,Prod.mk.injEq]at h;omega
def Yf (f:E6→E6):AV→AV
  | .ptr k o=> .ptr (f k) o
  | .sl k=> .sl (f k)
  |x=>x
def AS (f:E6→E6):AV→AV
  | .agg cs=> .agg (cs.map (Yf f))
  | .fn g fs cs=> .fn g (fs.map (Yf f)) (cs.map (Yf f))
  |x=>Yf f x
def JJ (f:E6→E6):AV→AV
  | .tup cs=> .tup (cs.map (AS f))
  |x=>AS f x
def SY (p:E6→Bool):AV→Bool
  | .ptr k _=>p k
  | .sl k=>p k
  | .d _=>true
  | .any=>true
  |_=>false
def VW (p:E6→Bool):AV→Bool
  | .agg cs=>cs.all (SY p)
  | .fn _ fs cs=>fs.all (SY p)&&cs.all (SY p)
  |x=>SY p x
def XR (p:E6→Bool):AV→Bool
  | .tup cs=>cs.all (VW p)
  |x=>VW p x
def Gr (f:E6→E6):Blk→Blk
  | .box ty cs=> .box ty (cs.map (Yf f))
  |b=>b
def VX (p:E6→Bool):Blk→Bool
  | .box _ cs=>cs.all (SY p)
  | .arr _ _ _=>true
  | .obj _ _=>false
  | .mp _=>true
section
variable {w:World}{I:Nat→Prop}{ρ ρ':Rho}{p:E6→Bool}{f g:E6→E6}
theorem Sh {α β:Type}{q:α→Bool}{l:List α}{h:α→β}{i:Nat}{c:β}(ha:l.all q=true)(hc:(l.map h)[i]? =some c): ∃x,q x=true∧l[i]? =some x∧h x=c:=by
  obtain ⟨x,hx,e⟩:=Vf hc
  exact ⟨x,lX.1 ha x (lF hx),hx,e⟩
theorem Kg {α β:Type}{h:α→β}{l:List α}{i:Nat}{x:α}(hx:l[i]? =some x):(l.map h)[i]? =some (h x):=by rw [lI,hx];rfl
theorem PI {x:AV}{v:Value}(hp:SY p x=true)(h:RepV w I ρ (Yf f x) v)(hk: ∀q y,p q=true→ρ (f q)=some y→ρ' (g q)=some y):RepV w I ρ' (Yf g x) v:=by
  cases x with
  |ptr k o=>cases h with|ptr _ _ b h=>exact .ptr _ _ _ (hk k _ hp h)
  |sl k=>cases h with|sl _ _ h=>exact .sl _ _ (hk k _ hp h)
  |d y=>cases h with|d _ _ h=>exact .d _ _ h
  |any=>exact .any _
  |_=>simp [SY]at hp
theorem PJ {x:AV}{v:Value}(hp:VW p x=true)(h:RepV w I ρ (AS f x) v)(hk: ∀q y,p q=true→ρ (f q)=some y→ρ' (g q)=some y):RepV w I ρ' (AS g x) v:=by
  cases x with
  |agg cs=>
   cases h with
   |agg _ vs hl hone hr=>
    refine .agg _ vs (by simpa using hl) (fun i hi=>hone i (by simpa using hi)) (fun i c hc=> ?_)
    obtain ⟨x,h1,h2,rfl⟩:=Sh hp hc
    exact PI h1 (hr i _ (Kg h2)) hk
  |fn q fs cs=>
   simp only [VW,bG]at hp
   cases h with
   |fn _ _ _ vfs vcs hl hl' hr hr'=>
    refine .fn _ _ _ vfs vcs (by simpa using hl) (by simpa using hl') (fun i c hc=> ?_) (fun i c hc=> ?_)
    ·obtain ⟨x,h1,h2,rfl⟩:=Sh hp.1 hc
     exact PI h1 (hr i _ (Kg h2)) hk
    ·obtain ⟨x,h1,h2,rfl⟩:=Sh hp.2 hc
     exact PI h1 (hr' i _ (Kg h2)) hk
  |any=>exact PI (p:=p) (f:=f) (x:= .any) hp h hk
  |d y=>exact PI (p:=p) (f:=f) (x:= .d y) hp h hk
  |ptr k o=>exact PI (p:=p) (f:=f) (x:= .ptr k o) hp h hk
  |sl k=>exact PI (p:=p) (f:=f) (x:= .sl k) hp h hk
  |aptr k a b c=>exact PI (p:=p) (f:=f) (x:= .aptr k a b c) hp h hk
  |yld k=>exact PI (p:=p) (f:=f) (x:= .yld k) hp h hk
  |tup cs=>simp [VW,SY]at hp
theorem YD {x:AV}{v:Value}(hp:XR p x=true)(h:RepV w I ρ (JJ f x) v)(hk: ∀q y,p q=true→ρ (f q)=some y→ρ' (g q)=some y):RepV w I ρ' (JJ g x) v:=by
  cases x with
  |tup cs=>
   cases h with
   |tup _ vs hl hr=>
    refine .tup _ vs (by simpa using hl) (fun i c hc=> ?_)
    obtain ⟨x,h1,h2,rfl⟩:=Sh hp hc
    exact PJ h1 (hr i _ (Kg h2)) hk
  |any=>exact PJ (p:=p) (f:=f) (x:= .any) hp h hk
  |d y=>exact PJ (p:=p) (f:=f) (x:= .d y) hp h hk
  |ptr k o=>exact PJ (p:=p) (f:=f) (x:= .ptr k o) hp h hk
  |sl k=>exact PJ (p:=p) (f:=f) (x:= .sl k) hp h hk
  |aptr k a b c=>exact PJ (p:=p) (f:=f) (x:= .aptr k a b c) hp h hk
  |yld k=>exact PJ (p:=p) (f:=f) (x:= .yld k) hp h hk
  |agg cs=>exact PJ (p:=p) (f:=f) (x:= .agg cs) hp h hk
  |fn a b c=>exact PJ (p:=p) (f:=f) (x:= .fn a b c) hp h hk
theorem XS {b:Blk}{k k':E6}(hp:VX p b=true)(h:BlkOK w I ρ k (Gr f b))(hkk: ∀y,ρ k=some y→ρ' k'=some y)(hk: ∀q y,p q=true→ρ (f q)=some y→ρ' (g q)=some y):BlkOK w I ρ' k' (Gr g b):=by
  cases b with
  |box ty cs=>
   obtain ⟨b,vs,h1,h2,h3,h4,h5⟩:=h
   refine ⟨b,vs,hkk _ h1,h2,by simpa using h3,h4,fun i c hc=> ?_⟩
   obtain ⟨x,g1,g2,rfl⟩:=Sh hp hc
   exact PI g1 (h5 i _ (Kg g2)) hk
  |arr ty sz es=>obtain ⟨x,xs,h1,h2⟩:=h;exact ⟨x,xs,hkk _ h1,h2⟩
  |mp ks=>obtain ⟨g,es,clock,h1,h2⟩:=h;exact ⟨g,es,clock,hkk _ h1,h2⟩
  |obj=>simp [VX]at hp
theorem RA (x:AV):Yf id x=x:=by cases x<;>rfl
theorem DB:Yf id=id:=funext RA
theorem RB (x:AV):AS id x=x:=by
  cases x<;>simp only [AS,DB,List.map_id]
  all_goals rfl
theorem RC (b:Blk):Gr id b=b:=by cases b<;>simp only [Gr,DB,List.map_id]
theorem Y7 {k:E6}(b:Blk):K3 ρ k (Gr f b)=K3 ρ k b:=by cases b<;>rfl
theorem Fw {k k':E6}(b:Blk)(h:ρ' k'=ρ k):K3 ρ' k' b=K3 ρ k b:=by cases b<;>simp [K3,h]
end
def Wq:Nat→List Blk→List (E6×Option Blk)
  |_,[]=> []
  |i,b::r=>(Bl i,some b)::Wq (i+1) r
theorem DC: ∀{l:List Blk} {i:Nat} {q:E6} {b:Blk},G (Wq i l) q=some b→∃j,q=Bl (i+j)∧l[j]? =some b
  | [],i,q,b,h=>by cases h
  |x::r,i,q,b,h=>by
   rw [Wq,G]at h
   by_cases e:q=Bl i
   ·rw [bE e]at h;cases h;exact ⟨0,e,rfl⟩
   ·rw [bF e]at h
    obtain ⟨j,h1,h2⟩:=DC h
    exact ⟨j+1,by rw [h1];congr 1;omega,by simpa using h2⟩
def WL (avs:List AV)(pre:List Blk)(v:AV)(post:List (Option Blk))(new:List (Option Blk)):Bool:=
  post.length==pre.length&&Nat.ble new.length 6&&avs.all (VW (EL pre.length 0))&&pre.all (VX (EL pre.length 0))&&XR (EL pre.length new.length) v&&post.all (fun b=>match b with|some b=>VX (EL pre.length new.length) b|none=>true)&&new.all (fun b=>match b with|some b=>VX (EL pre.length new.length) b|none=>true)
def SZ (n:Nat)(v:AV)(post:List (Option Blk))(new:List (Option Blk))(v':AV)(h':D4):Prop:=
  ∃σ:Nat→E6,v'=JJ (Ah Bl σ) v∧(∀i b,post[i]? =some (some b)→h' (Bl i)=some (Gr (Ah Bl σ) b))∧(∀j b,new[j]? =some (some b)→h' (σ j)=some (Gr (Ah Bl σ) b))∧
   (∀j,j<new.length→∀i,i<n→σ j≠Bl i)∧∀j j',j<new.length→j'<new.length→σ j=σ j'→j=j'
/-- Called with these values, where the blocks that are handed in hold this, the function returns the value, and the blocks hold that; the new ones are the caller's. -/
structure MCall (P:Program)(f:FuncId)(avs:List AV)(pre:List Blk)(v:AV)(post:List (Option Blk))(new:List (Option Blk)):Prop where
  ok:WL avs pre v post new=true
  call:ICall P f avs (G (Wq 0 pre)) (SZ pre.length v post new)
def Mq (κ:Nat→E6)(f:E6→E6):Nat→List (Option Blk)→List (E6×Option Blk)
  |_,[]=> []
  |i,b::r=>(κ i,b.map (Gr f))::Mq κ f (i+1) r
def Uu (u S:Nat)(f:E6→E6):Nat→List (Option Blk)→List (E6×Option Blk)
  |_,[]=> []
  |j,b::r=>((S+j,u),b.map (Gr f))::Uu u S f (j+1) r
theorem Wr {κ:Nat→E6}{f:E6→E6}: ∀{l:List (Option Blk)} {i:Nat} {x:E6×Option Blk},x∈Mq κ f i l→∃j b,l[j]? =some b∧x=(κ (i+j),b.map (Gr f))
  | [],i,x,h=>by simp [Mq]at h
  |b::r,i,x,h=>by
   rw [Mq,lS]at h
   rcases h with rfl|h
   ·exact ⟨0,b,rfl,rfl⟩
   ·obtain ⟨j,b',h1,rfl⟩:=Wr h
    exact ⟨j+1,b',by simpa using h1,by rw [show i+ (j+1)=i+1+j by omega]⟩
theorem Ws {u S:Nat}{f:E6→E6}: ∀{l:List (Option Blk)} {i:Nat} {x:E6×Option Blk},x∈Uu u S f i l→∃j b,l[j]? =some b∧x=((S+ (i+j),u),b.map (Gr f))
  | [],i,x,h=>by simp [Uu]at h
  |b::r,i,x,h=>by
   rw [Uu,lS]at h
   rcases h with rfl|h
   ·exact ⟨0,b,rfl,rfl⟩
   ·obtain ⟨j,b',h1,rfl⟩:=Ws h
    exact ⟨j+1,b',by simpa using h1,by rw [show i+ (j+1)=i+1+j by omega]⟩
theorem Tl: ∀(ups:List (E6×Option Blk)) (h:D4) (q:E6) (b:Option Blk),O3 h ups q=b→(q∉ups.map (·.1)∧h q=b)∨(q,b)∈ups
  | [],h,q,b,hb=> .inl ⟨by simp,hb⟩
  |(k,c)::r,h,q,b,hb=>by
   rw [O3]at hb
   rcases Tl r _ q b hb with ⟨h1,h2⟩|h1
   ·by_cases e:q=k
    ·subst e
     rw [F0]at h2
     exact .inr (by rw [h2];simp)
    ·rw [I6 _ _ _ _ e]at h2
     exact .inl ⟨by simp at h1 ⊢;exact ⟨e,h1⟩,h2⟩
   ·exact .inr (by simp [h1])
theorem MCall.frame {P:Program}{f:FuncId}{avs:List AV}{pre:List Blk}{v:AV}{post:List (Option Blk)}{new:List (Option Blk)}{u S:Nat}(hM:MCall P f avs pre v post new)(κ:Nat→E6)
    (hinj: ∀i i',i<pre.length→i'<pre.length→κ i=κ i'→i=i') (preH:D4) (hpre: ∀i b,pre[i]? =some b→preH (κ i)=some (Gr (Ah κ κ) b)):
    FCall P u S f (avs.map (AS (Ah κ κ))) preH (JJ (Ah κ fun j=>(S+j,u)) v) (Mq κ (Ah κ fun j=>(S+j,u)) 0 post++Uu u S (Ah κ fun j=>(S+j,u)) 0 new):=by
  have hok:=hM.ok
  simp only [WL,bG,bM,Nat.ble_eq]at hok
  obtain ⟨⟨⟨⟨⟨⟨hlenP,hlenN⟩,okA⟩,okP⟩,RH⟩,okPo⟩,GZ⟩:=hok
  refine ⟨hM.call.1,fun w I ρ h vs H hp hlen hrep hfr=> ?_⟩
  have hh: ∀i b,pre[i]? =some b→h (κ i)=some (Gr (Ah κ κ) b):=fun i b hb=>hp _ _ (hpre i b hb)
  have hρ: ∀i,i<pre.length→∃y,ρ (κ i)=some y:=fun i hi=>(H.blk _ _ (hh i _ (lG hi))).rho
  let ρ0:Rho:=fun q=>if EL pre.length 0 q=true then ρ (Ah κ κ q)else none
  have hρ0: ∀i,i<pre.length→ρ0 (Bl i)=ρ (κ i):=by
    intro i hi
    show (if EL pre.length 0 (Bl i)=true then _ else _)=_
    rw [bE (by simp [EL,Bl,hi]),CZ]
  have hk0: ∀q y,EL pre.length 0 q=true→ρ (Ah κ κ q)=some y→ρ0 (id q)=some y:=by
    intro q y hq hy
    show (if EL pre.length 0 q=true then _ else _)=_
    rw [bE hq];exact hy
  have hdom: ∀q b,G (Wq 0 pre) q=some b→∃i,i<pre.length∧q=Bl i∧pre[i]? =some b∧h (κ i)=some (Gr (Ah κ κ) b)∧K3 ρ0 q b=K3 ρ (κ i) (Gr (Ah κ κ) b):=by
    intro q b hq
    obtain ⟨i,rfl,h2⟩:=DC hq
    rw [bU]
    have hi:i<pre.length:=(lH.1 h2).1
    exact ⟨i,hi,rfl,h2,hh i b h2,by rw [Y7];exact Fw b (hρ0 i hi)⟩
  have H0:HeapOK w I ρ0 (G (Wq 0 pre)):=by
    refine ⟨fun q b hq=> ?_,fun q q' b b' g h1 h2 h3 h4=> ?_,fun q b g h1 h2=> ?_,fun q b g h1 h2=> ?_,H.ilt,⟨1,fun d x hx=> ?_⟩,fun q y hy=> ?_⟩
    ·obtain ⟨i,hi,rfl,h2,h3,_⟩:=hdom q b hq
     have:=XS (f:=Ah κ κ) (g:=id) (ρ':=ρ0) (k':=Bl i) (lX.1 okP b (lF h2)) (H.blk _ _ h3) (fun y hy=>by rw [hρ0 i hi];exact hy) hk0
     rwa [RC]at this
    ·obtain ⟨i,hi,rfl,_,a3,a4⟩:=hdom q b h1
     obtain ⟨j,hj,rfl,_,b3,b4⟩:=hdom q' b' h2
     rw [a4]at h3;rw [b4]at h4
     rw [hinj i j hi hj (H.sep _ _ _ _ g a3 b3 h3 h4)]
    ·obtain ⟨i,hi,rfl,_,a3,a4⟩:=hdom q b h1
     rw [a4]at h2;exact H.notI _ _ g a3 h2
    ·obtain ⟨i,hi,rfl,_,a3,a4⟩:=hdom q b h1
     rw [a4]at h2;exact H.lt _ _ g a3 h2
    ·show (if EL pre.length 0 (d,x)=true then _ else _)=none
     rw [bF]
     intro e
     rcases HM e with ⟨i,_,e⟩|⟨j,hj,_⟩
     ·simp only [Bl,Prod.mk.injEq]at e;omega
     ·omega
    ·have hy':(if EL pre.length 0 q=true then ρ (Ah κ κ q)else none)=some y:=hy
     split at hy'
     ·exact H.rone _ y hy'
     ·cases hy'
  have hown0: ∀g,own ρ0 (G (Wq 0 pre)) g→own ρ h g:=by
    rintro g ⟨q,b,h1,h2⟩
    obtain ⟨i,hi,rfl,_,a3,a4⟩:=hdom q b h1
    exact ⟨κ i,_,a3,by rw [← a4];exact h2⟩
  have hown1: ∀k b g,h k=some b→(∀i,i<pre.length→k≠κ i)→K3 ρ k b=some g→¬own ρ0 (G (Wq 0 pre)) g:=by
    rintro k b g hk hne hl ⟨q,b',h1,h2⟩
    obtain ⟨i,hi,rfl,_,a3,a4⟩:=hdom q b' h1
    rw [a4]at h2
    exact hne i hi (H.sep _ _ _ _ g hk a3 hl h2)
  have hκS: ∀i j,i<pre.length→j<6→κ i≠(S+j,u):=by
    intro i j hi hj e
    obtain ⟨y,hy⟩:=hρ i hi
    rw [e,hfr j hj]at hy;cases hy
  refine (hM.call.2 w I ρ0 vs H0 (by simpa using hlen) (fun i c hc=> ?_)).mono ?_
  ·have hc':=hrep i _ (Kg hc)
   have:=PJ (g:=id) (ρ':=ρ0) (lX.1 okA c (lF hc)) hc' hk0
   rwa [RB]at this
  rintro e w' ⟨x,v',I',ρ0',h',rfl,hv',H',T',σ,rfl,hpost,hnew,hσo,hσi⟩
  let ρ1:Rho:=fun q=>if q.2=u∧S≤q.1∧q.1<S+new.length then ρ0' (σ (q.1 - S))else ρ q
  have hle0: ∀i,i<pre.length→ρ0' (Bl i)=ρ (κ i):=by
    intro i hi
    obtain ⟨y,hy⟩:=hρ i hi
    rw [hy];exact T'.rho _ _ (by rw [hρ0 i hi];exact hy)
  have hρ1n: ∀j,j<new.length→ρ1 (S+j,u)=ρ0' (σ j):=by
    intro j hj
    show (if u=u∧S≤S+j∧S+j<S+new.length then _ else _)=_
    rw [bE ⟨rfl,by omega,by omega⟩]
    simp
  have hρ1o: ∀q,(∀j,j<new.length→q≠(S+j,u))→ρ1 q=ρ q:=by
    rintro ⟨a,b⟩ hq
    show (if b=u∧S≤a∧a<S+new.length then _ else _)=_
    rw [bF]
    rintro ⟨rfl,h1,h2⟩
    exact hq (a - S) (by omega) (by simp only [Prod.mk.injEq,and_true];omega)
  have hρ1κ: ∀i,i<pre.length→ρ1 (κ i)=ρ (κ i):=fun i hi=>hρ1o _ fun j hj=>hκS i j hi (by omega)
  have hle1:ρ.le ρ1:=by
    intro k y hy
    rw [hρ1o]
    ·exact hy
    ·rintro j hj rfl
     rw [hfr j (by omega)]at hy;cases hy
  -- the keys of what is handed out
  have hk1: ∀q y,EL pre.length new.length q=true→ρ0' (Ah Bl σ q)=some y→ρ1 (Ah κ (fun j=>(S+j,u)) q)=some y:=by
    intro q y hq hy
    rcases HM hq with ⟨i,hi,rfl⟩|⟨j,hj,hj',rfl⟩
    ·rw [CZ]at hy ⊢;rw [hρ1κ i hi,← hle0 i hi];exact hy
    ·rw [ND _ _ hj']at hy ⊢;rw [hρ1n j hj];exact hy
  -- what is touched, as the callee has it
  have htouch: ∀k b,(k,some b)∈Mq κ (Ah κ fun j=>(S+j,u)) 0 post++Uu u S (Ah κ fun j=>(S+j,u)) 0 new→
   ∃q b0,VX (EL pre.length new.length) b0=true∧h' q=some (Gr (Ah Bl σ) b0)∧b=Gr (Ah κ fun j=>(S+j,u)) b0∧ρ1 k=ρ0' q∧((∃i,i<pre.length∧q=Bl i∧k=κ i)∨∃j,j<new.length∧q=σ j∧k=(S+j,u)):=by
    intro k b hm
    rcases lR.1 hm with hm|hm
    ·obtain ⟨i,b0,h1,h2⟩:=Wr hm
     rw [bU]at h2
     cases b0 with
     |none=>simp at h2
     |some b0=>
      simp only [lE,Prod.mk.injEq,Option.some.injEq]at h2
      obtain ⟨rfl,rfl⟩:=h2
      have hi:i<pre.length:=by rw [← hlenP];exact (lH.1 h1).1
      exact ⟨Bl i,b0,lX.1 okPo (some b0) (lF h1),hpost i b0 h1,rfl,by rw [hρ1κ i hi,hle0 i hi], .inl ⟨i,hi,rfl,rfl⟩⟩
    ·obtain ⟨j,b0,h1,h2⟩:=Ws hm
     rw [bU]at h2
     cases b0 with
     |none=>simp at h2
     |some b0=>
      simp only [lE,Prod.mk.injEq,Option.some.injEq]at h2
      obtain ⟨rfl,rfl⟩:=h2
      have hj:j<new.length:=(lH.1 h1).1
      exact ⟨σ j,b0,lX.1 GZ (some b0) (lF h1),hnew j b0 h1,rfl,hρ1n j hj, .inr ⟨j,hj,rfl,rfl⟩⟩
  have hinjT: ∀{k k' q q':E6},((∃i,i<pre.length∧q=Bl i∧k=κ i)∨∃j,j<new.length∧q=σ j∧k=(S+j,u))→((∃i,i<pre.length∧q'=Bl i∧k'=κ i)∨∃j,j<new.length∧q'=σ j∧k'=(S+j,u))→q=q'→k=k':=by
    rintro k k' q q' (⟨i,hi,rfl,rfl⟩|⟨j,hj,rfl,rfl⟩) (⟨i',hi',rfl,rfl⟩|⟨j',hj',rfl,rfl⟩) e
    ·rw [DA e]
    ·exact absurd e.symm (hσo j' hj' i hi)
    ·exact absurd e (hσo j hj i' hi')
    ·rw [hσi j j' hj hj' e]
  -- what is not touched
  have hrest: ∀k b,k∉ (Mq κ (Ah κ fun j=>(S+j,u)) 0 post++Uu u S (Ah κ fun j=>(S+j,u)) 0 new).map (·.1)→h k=some b→(∀i,i<pre.length→k≠κ i)∧ρ1 k=ρ k∧∀g,K3 ρ k b=some g→w'.heap[g]? =w.heap[g]?∧¬own ρ0 (G (Wq 0 pre)) g:=by
    intro k b hn hk
    have hne: ∀i,i<pre.length→k≠κ i:=by
      rintro i hi rfl
      apply hn
      have: ∀(l:List (Option Blk)) (n:Nat),i<l.length→κ (n+i)∈(Mq κ (Ah κ fun j=>(S+j,u)) n l).map (·.1):=by
        intro l
        induction i with
        |zero=>intro n hl;cases l with|nil=>simp at hl|cons=>simp [Mq]
        |succ i _=>
         intro n hl
         have key: ∀(i:Nat) (l:List (Option Blk)) (n:Nat),i<l.length→κ (n+i)∈(Mq κ (Ah κ fun j=>(S+j,u)) n l).map (·.1):=by
           intro i
           induction i with
           |zero=>intro l n hl;cases l with|nil=>simp at hl|cons=>simp [Mq]
           |succ i ih=>
            intro l n hl
            cases l with
            |nil=>simp at hl
            |cons b r=>
             have:=ih r (n+1) (by simpa using hl)
             rw [show n+1+i=n+ (i+1) by omega]at this
             simp only [Mq,lP,lS]
             exact .inr this
         exact key (i+1) l n hl
      rw [List.map_append,lR]
      exact .inl (by have:=this post 0 (by rw [hlenP];exact hi);rwa [bU]at this)
    refine ⟨hne,?_,fun g hg=>⟨T'.frame g (H.lt k b g hk hg) (hown1 k b g hk hne hg),hown1 k b g hk hne hg⟩⟩
    obtain ⟨y,hy⟩:=(H.blk k b hk).rho
    rw [hle1 k y hy,hy]
  have hfrI: ∀b,I b→w'.heap[b]? =w.heap[b]?:=fun b hb=>T'.frame b (H.ilt b hb) (fun ho=>H0.own_notI ho hb)
  generalize hups:Mq κ (Ah κ fun j=>(S+j,u)) 0 post++Uu u S (Ah κ fun j=>(S+j,u)) 0 new=ups at htouch hrest
  have hcase: ∀k b,O3 h ups k=some b→(h k=some b∧k∉ups.map (·.1))∨(k,some b)∈ups:=fun k b hb=>(Tl ups h k (some b) hb).imp (fun q=>⟨q.2,q.1⟩) id
  have hlocR: ∀k b,h k=some b→k∉ups.map (·.1)→K3 ρ1 k b=K3 ρ k b:=fun k b hb hn=>Fw b (hrest k b hn hb).2.1
  have H1:HeapOK w' I' ρ1 (O3 h ups):=by
    refine ⟨fun k b hb=> ?_,fun k k' b b' g h1 h2 h3 h4=> ?_,fun k b g h1 h2 hi=> ?_,fun k b g h1 h2=> ?_,H'.ilt,?_,fun k y hy=> ?_⟩
    ·rcases hcase k b hb with ⟨a1,a2⟩|hm
     ·exact (H.blk k b a1).keep (fun g hg=>((hrest k b a2 a1).2.2 g hg).1) hfrI T'.imm hle1
     ·obtain ⟨q,b0,c1,c2,rfl,c4,_⟩:=htouch k b hm
      exact XS c1 (H'.blk _ _ c2) (fun y hy=>by rw [c4];exact hy) hk1
    ·rcases hcase k b h1 with ⟨a1,a2⟩|hm
     ·rw [hlocR k b a1 a2]at h3
      rcases hcase k' b' h2 with ⟨b1,b2⟩|hm'
      ·rw [hlocR k' b' b1 b2]at h4
       exact H.sep k k' b b' g a1 b1 h3 h4
      ·exfalso
       obtain ⟨q,b0,c1,c2,rfl,c4,_⟩:=htouch k' b' hm'
       rw [Y7,Fw b0 c4]at h4
       exact ((hrest k b a2 a1).2.2 g h3).2 (T'.ownBack g ⟨q,_,c2,by rw [Y7];exact h4⟩ (H.lt k b g a1 h3))
     ·obtain ⟨q,b0,c1,c2,rfl,c4,c5⟩:=htouch k b hm
      rw [Y7,Fw b0 c4]at h3
      rcases hcase k' b' h2 with ⟨b1,b2⟩|hm'
      ·exfalso
       rw [hlocR k' b' b1 b2]at h4
       exact ((hrest k' b' b2 b1).2.2 g h4).2 (T'.ownBack g ⟨q,_,c2,by rw [Y7];exact h3⟩ (H.lt k' b' g b1 h4))
      ·obtain ⟨q',b0',d1,d2,rfl,d4,d5⟩:=htouch k' b' hm'
       rw [Y7,Fw b0' d4]at h4
       exact hinjT c5 d5 (H'.sep q q' _ _ g c2 d2 (by rw [Y7];exact h3) (by rw [Y7];exact h4))
    ·rcases hcase k b h1 with ⟨a1,a2⟩|hm
     ·rw [hlocR k b a1 a2]at h2
      rcases T'.immBack g hi (H.lt k b g a1 h2)with q|q
      ·exact H.notI k b g a1 h2 q
      ·exact ((hrest k b a2 a1).2.2 g h2).2 q
     ·obtain ⟨q,b0,c1,c2,rfl,c4,_⟩:=htouch k b hm
      rw [Y7,Fw b0 c4]at h2
      exact H'.notI q _ g c2 (by rw [Y7];exact h2) hi
    ·rcases hcase k b h1 with ⟨a1,a2⟩|hm
     ·rw [hlocR k b a1 a2]at h2
      exact bV (H.lt k b g a1 h2) T'.size
     ·obtain ⟨q,b0,c1,c2,rfl,c4,_⟩:=htouch k b hm
      rw [Y7,Fw b0 c4]at h2
      exact H'.lt q _ g c2 (by rw [Y7];exact h2)
    ·obtain ⟨u0,hu0⟩:=H.fresh
     refine ⟨max u0 (u+1),fun d x hx=> ?_⟩
     rw [hρ1o _ (fun j _ e=>by simp only [Prod.mk.injEq]at e;omega)]
     exact hu0 d x (by omega)
    ·have hy':(if k.2=u∧S≤k.1∧k.1<S+new.length then ρ0' (σ (k.1 - S))else ρ k)=some y:=hy
     split at hy'
     ·exact H'.rone _ y hy'
     ·exact H.rone _ y hy'
  refine ⟨x,I',ρ1,rfl,YD RH hv' hk1,H1,⟨T'.os,T'.tape,T'.output,T'.size,fun b hb hn=>T'.frame b hb (fun ho=>hn (hown0 b ho)),T'.imm,fun b hb hl=>(T'.immBack b hb hl).imp id (hown0 b),?_,hle1⟩,fun k hk=>hρ1o k fun j hj=>hk j (by omega)⟩
  rintro b ⟨k,c,h1,h2⟩ hl
  rcases hcase k c h1 with ⟨a1,a2⟩|hm
  ·exact ⟨k,c,a1,by rw [← hlocR k c a1 a2];exact h2⟩
  ·obtain ⟨q,b0,c1,c2,rfl,c4,_⟩:=htouch k c hm
   rw [Y7,Fw b0 c4]at h2
   exact hown0 b (T'.ownBack b ⟨q,_,c2,by rw [Y7];exact h2⟩ hl)
end Go.Abs
namespace Go.Abs
open Go
theorem JK {α:Type}{l:List α}(h:l.Nodup){i j:Nat}(hi:i<l.length)(hj:j<l.length)(e:l[i]=l[j]):i=j:=by
  have h':=List.pairwise_iff_getElem.1 h
  rcases Nat.lt_trichotomy i j with q|q|q
  ·exact absurd e (h' i j hi hj q)
  ·exact q
  ·exact absurd e.symm (h' j i hj hi q)
def Hq (l:List E6)(i:Nat):E6:=l.getD i (0,0)
section
variable {P:Program}{N:Nat}
/-- Less is known of what is handed in. -/
theorem FCall.le {u S:Nat}{f:FuncId}{avs avs':List AV}{pre pre':D4}{v:AV}{ups:List (E6×Option Blk)}(hF:FCall P u S f avs' pre v ups)(ha:All2 AVle avs avs')(hp: ∀q b,pre q=some b→∃b',pre' q=some b'∧BlkLe b' b)(hu: ∀q b,pre q=some b→q∈ups.map (·.1)):FCall P u S f avs pre' v ups:=by
  refine ⟨hF.1,fun w I ρ h vs H hh hlen hrep hfr=> ?_⟩
  let h1:D4:=fun q=>match pre q with|some b=>some b|none=>h q
  have h1p: ∀q b,pre q=some b→h1 q=some b:=fun q b hb=>by show (match pre q with|some b=>some b|none=>h q)=_;rw [hb]
  have h1n: ∀q,pre q=none→h1 q=h q:=fun q hb=>by show (match pre q with|some b=>some b|none=>h q)=_;rw [hb]
  have S1:Sb ⟨fun _=> .any,h1⟩ ⟨fun _=> .any,h⟩:=by
    refine ⟨fun i=> .any _,fun k b hb=> ?_⟩
    cases hq:pre k with
    |none=>exact ⟨b,by show h k=some b;rw [← h1n k hq];exact hb, .refl b⟩
    |some b0=>
     obtain rfl:b0=b:=by have:=hb;dsimp only at this;rw [h1p k b0 hq]at this;exact lC this
     obtain ⟨b',e1,e2⟩:=hp k b0 hq
     exact ⟨b',hh k b' e1,e2⟩
  have hup:O3 h1 ups=O3 h ups:=by
    funext q
    by_cases e:q∈ups.map (·.1)
    ·exact Kc ups _ _ q e
    ·rw [Cj _ _ _ e,Cj _ _ _ e]
     cases hq:pre q with
     |none=>exact h1n q hq
     |some b=>exact absurd (hu q b hq) e
  have hown: ∀g,own ρ h1 g→own ρ h g:=fun g hg=>S1.own hg
  have hown': ∀g,own ρ h g→own ρ h1 g:=by
    rintro g ⟨k,b,e1,e2⟩
    cases hq:pre k with
    |none=>exact ⟨k,b,by rw [h1n k hq];exact e1,e2⟩
    |some b0=>
     obtain ⟨b',g1,g2⟩:=hp k b0 hq
     have:b'=b:=by have:=hh k b' g1;rw [e1]at this;exact (lC this).symm
     subst this
     exact ⟨k,b0,h1p k b0 hq,by rw [g2.loc];exact e2⟩
  refine (hF.2 w I ρ h1 vs (S1.heapOK H) h1p (by rw [← ha.length];exact hlen) (fun i c hc=> ?_) hfr).mono ?_
  ·obtain ⟨a,e1,e2⟩:=ha.get hc
   exact e2 _ _ _ _ (hrep i a e1)
  rintro e w' ⟨x,I',ρ',rfl,r1,r2,r3,r4⟩
  rw [hup]at r2 r3
  exact ⟨x,I',ρ',rfl,r1,r2,⟨r3.os,r3.tape,r3.output,r3.size,fun b hb hn=>r3.frame b hb fun ho=>hn (hown b ho),r3.imm,fun b hb hl=>(r3.immBack b hb hl).imp id (hown b),fun b hb hl=>hown b (r3.ownBack b hb hl),r3.rho⟩,r4⟩
/-- A pure contract, where what is handed in is untouched and the answer needs no memory of it. -/
theorem ICall.le {f:FuncId}{avs:List AV}{h:D4}{K K':AV→D4→Prop}(hI:ICall P f avs h K)(hk: ∀v h,K v h→K' v h):ICall P f avs h K':=hI.mono hk
/-! ### How such a contract is shown -/
def Rf:List AV→Nat→List (Nat×AV)
  | [],_=> []
  |a::r,n=>(n,a)::Rf r (n+1)
theorem Zg: ∀(avs:List AV) (n i:Nat),T (Rf avs n) (n+i)=avs.getD i .any
  | [],n,i=>by simp [Rf,WD]
  |a::r,n,i=>by
   rw [Rf,UG]
   cases i with
   |zero=>rw [bE (by simp)];rfl
   |succ i=>rw [bF (by omega),show n+ (i+1)=n+1+i by omega,Zg r (n+1) i];rfl
theorem HN (avs:List AV):CS avs=T (Rf avs 0):=by
  funext i
  have:=Zg avs 0 i
  rw [bU]at this
  rw [this];rfl
def WM (h:D4)(f:E6→E6):Nat→List (Option Blk)→Prop
  |_,[]=>True
  |i,b::r=>(match b with|some b=>h (Bl i)=some (Gr f b)|none=>True)∧WM h f (i+1) r
def XI (h:D4)(f:E6→E6):List E6→List (Option Blk)→Prop
  |_,[]=>True
  | [],_::_=>False
  |k::ks,b::r=>h k=b.map (Gr f)∧XI h f ks r
theorem UT {d u:Nat}(h:Nat.blt d 900000=true)(i:Nat):(d,u)≠Bl i:=by
  rw [Nat.blt_eq]at h
  intro e
  simp only [Bl,Prod.mk.injEq]at e;omega
end
/-! ### How it is used -/
theorem J1 {h:D4}{n:Nat}{k:E6}{off:Nat}{ty:TypeId}{cs:List AV}{ks:List E6}(hb:h k=some (.box ty cs))(hc:cs.flatMap (N9 h n)=ks):N9 h (n+1) (.ptr k off)=k::ks:=by simp only [N9,hb,hc]
theorem NE {h:D4}{n:Nat}{x:D}:N9 h n (.d x)= []:=by cases n<;>rfl
theorem Nx {h:D4}{n:Nat}{f:Fn}{fs cs:List AV}{ks ks':List E6}(h1:fs.flatMap (N9 h n)=ks)(h2:cs.flatMap (N9 h n)=ks'):N9 h (n+1) (.fn f fs cs)=ks++ks':=by simp only [N9,h1,h2]
theorem J2 {h:D4}{n:Nat}:([]:List AV).flatMap (N9 h n)= []:=rfl
theorem E0 {h:D4}{n:Nat}{x:AV}{r:List AV}{a b:List E6}(h1:N9 h n x=a)(h2:r.flatMap (N9 h n)=b):(x::r).flatMap (N9 h n)=a++b:=by rw [l7,h1,h2]
def NF (h:D4):List E6→List Blk→Prop
  | [],[]=>True
  |k::ks,b::bs=>(∃b',h k=some b'∧BlkLe b' b)∧NF h ks bs
  |_,_=>False
theorem Wt {h:D4}: ∀{ks:List E6} {bs:List Blk},NF h ks bs→ks.length=bs.length
  | [],[],_=>rfl
  |_::ks,_::bs,hp=>by simp [Wt hp.2]
  | [],_::_,hp=>hp.elim
  |_::_,[],hp=>hp.elim
theorem DD {h:D4}: ∀{ks:List E6} {bs:List Blk} {i:Nat} {b:Blk},NF h ks bs→bs[i]? =some b→Hq ks i∈ks∧∃b',h (Hq ks i)=some b'∧BlkLe b' b
  | [],[],i,b,_,hb=>by simp at hb
  |k::ks,c::bs,i,b,hp,hb=>by
   cases i with
   |zero=>simp at hb;subst hb;exact ⟨by simp [Hq],hp.1⟩
   |succ i=>
    obtain ⟨g1,g2⟩:=DD (ks:=ks) (bs:=bs) (i:=i) hp.2 (by simpa using hb)
    exact ⟨by simp only [Hq,List.getD_cons_succ]at g1 ⊢;exact List.mem_cons_of_mem _ g1,g2⟩
  | [],_::_,_,_,hp,_=>hp.elim
  |_::_,[],_,_,hp,_=>hp.elim
/-- A call of such a function, at the keys of the caller. -/
theorem MCall.at {P:Program}{u S:Nat}{f:FuncId}{avs avs0:List AV}{pre:List Blk}{v:AV}{post:List (Option Blk)}{new:List (Option Blk)}{h:D4}(hM:MCall P f avs0 pre v post new)(κs:List E6)(ks:List E6)
    (hle:All2 AVle avs (avs0.map (AS (Ah (Hq κs) (Hq κs))))) (hpre:NF h κs (pre.map (Gr (Ah (Hq κs) (Hq κs))))) (hsub: ∀k∈κs,k∈ks) (hnd:κs.Nodup):
    FCall P u S f avs (P6 h ks) (JJ (Ah (Hq κs) fun j=>(S+j,u)) v) (Mq (Hq κs) (Ah (Hq κs) fun j=>(S+j,u)) 0 post++Uu u S (Ah (Hq κs) fun j=>(S+j,u)) 0 new):=by
  have hlen:κs.length=pre.length:=by simpa using Wt hpre
  have hok:=hM.ok
  simp only [WL,bG,bM,Nat.ble_eq]at hok
  have hinj: ∀i i',i<pre.length→i'<pre.length→Hq κs i=Hq κs i'→i=i':=by
    intro i i' hi hi' e
    simp only [Hq,List.getD,lG (show i<κs.length by omega),lG (show i'<κs.length by omega),Option.getD_some]at e
    exact JK hnd (by omega) (by omega) e
  let preH:D4:=fun q=>match (List.range pre.length).find? fun i=>Hq κs i==q with
    |some i=>(pre[i]?).map (Gr (Ah (Hq κs) (Hq κs)))
    |none=>none
  have hat: ∀i b,pre[i]? =some b→preH (Hq κs i)=some (Gr (Ah (Hq κs) (Hq κs)) b):=by
    intro i b hb
    have hi:i<pre.length:=(lH.1 hb).1
    show (match (List.range pre.length).find? fun i'=>Hq κs i'==Hq κs i with|some i=>(pre[i]?).map (Gr (Ah (Hq κs) (Hq κs)))|none=>none)=_
    cases hf:(List.range pre.length).find? fun i'=>Hq κs i'==Hq κs i with
    |none=>
     have:=List.find?_eq_none.1 hf i (by simpa using hi)
     simp at this
    |some j=>
     have h1:=List.find?_some hf
     have h2:=List.mem_of_find?_eq_some hf
     have:=hinj j i (by simpa using h2) hi (by simpa using h1)
     subst this
     simp only [hb,lE]
  have hinv: ∀q b,preH q=some b→∃i b0,pre[i]? =some b0∧q=Hq κs i∧b=Gr (Ah (Hq κs) (Hq κs)) b0:=by
    intro q b hq
    have hq':(match (List.range pre.length).find? fun i'=>Hq κs i'==q with|some i=>(pre[i]?).map (Gr (Ah (Hq κs) (Hq κs)))|none=>none)=some b:=hq
    split at hq'
    ·rename_i j hf
     have h1:=List.find?_some hf
     simp only [lD]at hq'
     obtain ⟨b0,e1,rfl⟩:=hq'
     exact ⟨j,b0,e1,(by simpa using h1:Hq κs j=q).symm,rfl⟩
    ·cases hq'
  refine FCall.le (hM.frame (Hq κs) hinj preH hat) hle (fun q b hq=> ?_) (fun q b hq=> ?_)
  ·obtain ⟨i,b0,e1,rfl,rfl⟩:=hinv q b hq
   obtain ⟨g1,b',g2,g3⟩:=DD hpre (Kg e1)
   exact ⟨b',by unfold P6;rw [bE (hsub _ g1)];exact g2,g3⟩
  ·obtain ⟨i,b0,e1,rfl,rfl⟩:=hinv q b hq
   rw [List.map_append,lR]
   left
   have hi:i<post.length:=by rw [hok.1.1.1.1.1.1];exact (lH.1 e1).1
   have key: ∀(i:Nat) (l:List (Option Blk)) (n:Nat) (f:E6→E6),i<l.length→Hq κs (n+i)∈(Mq (Hq κs) f n l).map (·.1):=by
     intro i
     induction i with
     |zero=>intro l n f hl;cases l with|nil=>simp at hl|cons=>simp [Mq]
     |succ i ih=>
      intro l n f hl
      cases l with
      |nil=>simp at hl
      |cons b r=>
       have:=ih r (n+1) f (by simpa using hl)
       rw [show n+1+i=n+ (i+1) by omega]at this
       simp only [Mq,lP,lS]
       exact .inr this
   have:=key i post 0 (Ah (Hq κs) fun j=>(S+j,u)) hi
   rwa [bU]at this
theorem UU {u S:Nat}{κs ks:List E6}{post:List (Option Blk)}{new:List (Option Blk)}{f g:E6→E6}(hsub: ∀k∈κs,k∈ks)(hl:post.length=κs.length)(hn:new.length≤6):
    ∀q∈(Mq (Hq κs) f 0 post++Uu u S g 0 new).map (·.1),q∈ks∨∃j,j<6∧q=(S+j,u):=by
  intro q hq
  simp only [List.mem_map,lR]at hq
  obtain ⟨x,hx|hx,rfl⟩:=hq
  ·obtain ⟨j,b,h1,rfl⟩:=Wr hx
   have hj:j<κs.length:=by rw [← hl];exact (lH.1 h1).1
   left
   refine hsub _ ?_
   simp only [bU,Hq,List.getD,lG hj,Option.getD_some]
   exact List.getElem_mem _
  ·obtain ⟨j,b,h1,rfl⟩:=Ws hx
   have hj:j<new.length:=(lH.1 h1).1
   exact .inr ⟨j,by omega,by rw [bU]⟩
section
variable {P:Program}{u:Nat}{r:List AOp}{l:List (Nat×AV)}{g:List (E6×Option Blk)}
/-- What a call of such a function asks for, and gives. -/
structure OC (P:Program)(u:Nat)(l:List (Nat×AV))(g:List (E6×Option Blk))(S:Nat)(f:Opd)(args:List Opd)(v:AV)(ks:List E6)(us:List E6)(g':List (E6×Option Blk)):Prop where
  w: ∀K:AV→List (E6×Option Blk)→Prop,(∀ups,ups.map (·.1)=us→O3 (G g) ups=G g'→K v ups)→Rb P u (T l) (G g) S f args K
  ks:Ao (T l) (G g) (.ocall S f args)=ks
theorem Ai {S:Nat}{f:Opd}{args:List Opd}{fid:FuncId}{avs avs0:List AV}{pre:List Blk}{v v':AV}{post:List (Option Blk)}{new:List (Option Blk)}(hM:MCall P fid avs0 pre v post new)(κs ks us:List E6)(g':List (E6×Option Blk))
    (hc:R2 (T l) f args=some (fid,avs)) (hle:All2 AVle avs (avs0.map (AS (Ah (Hq κs) (Hq κs))))) (hks:avs.flatMap (N9 (G g) 6)=ks) (hlive: ∀q∈ks,G g q≠none)
    (hpre:NF (G g) κs (pre.map (Gr (Ah (Hq κs) (Hq κs))))) (hsub: ∀k∈κs,k∈ks) (hnd:κs.Nodup) (hv:JJ (Ah (Hq κs) fun j=>(S+j,u)) v=v')
    (hus:(Mq (Hq κs) (Ah (Hq κs) fun j=>(S+j,u)) 0 post++Uu u S (Ah (Hq κs) fun j=>(S+j,u)) 0 new).map (·.1)=us)
    (hg:O3 (G g) (Mq (Hq κs) (Ah (Hq κs) fun j=>(S+j,u)) 0 post++Uu u S (Ah (Hq κs) fun j=>(S+j,u)) 0 new)=G g'):OC P u l g S f args v' ks us g':=by
  have hok:=hM.ok
  simp only [WL,bG,bM,Nat.ble_eq]at hok
  have hlen:κs.length=pre.length:=by simpa using Wt hpre
  refine ⟨fun K hK=> ?_,by simp only [Ao,hc,hks]⟩
  simp only [Rb,hc,hks]
  refine ⟨v',_,?_,hlive,by rw [← hv];exact hM.at κs ks hle hpre hsub hnd,hK _ hus hg⟩
  exact UU hsub (by rw [hok.1.1.1.1.1.1,hlen]) hok.1.1.1.1.1.2
theorem Aj {K:(Nat→AV)→D4→Prop}{d S:Nat}{f:Opd}{args:List Opd}{v:AV}{ks us:List E6}{g':List (E6×Option Blk)}(h:OC P u l g S f args v ks us g')(hk:J6 P u r (T ((d,v)::l)) (G g') K):J6 P u (⟨some d, .ocall S f args,none⟩::r) (T l) (G g) K:=by
  refine Tk (by simp [T6]) ?_
  simp only [gW,Ye]
  exact h.w _ fun ups _ e=>by rw [e];exact hk
end
end Go.Abs
namespace Go.Abs
open Go
section
variable {P:Program}{N:Nat}
/-- What is handed back, where the blocks at some keys have become data. -/
def Wu (ks:List E6)(t:Nat→AV)(h:D4)(rs:List RV):Option D:=match Wm t h rs with
  |some vs=>match L7 (K1 (P6 h ks) 6) vs with
   |some [d]=>some d
   |some ds=>some (.tup ds)
   |none=>none
  |none=>none
def Si (h:D4)(ks:List E6):Nat→List (Option Blk)→Prop
  |_,[]=>True
  |i,none::r=>Si h ks (i+1) r
  |i,some (.box ty cs)::r=>(∃cs' ds ds',h (Bl i)=some (.box ty cs')∧Bl i∉ks∧L7 (K1 (P6 h ks) 6) cs'=some ds∧All2 DLe ds ds'∧cs=ds'.map .d)∧Si h ks (i+1) r
  |i,some (.arr ty sz es)::r=>(h (Bl i)=some (.arr ty sz es)∧Bl i∉ks)∧Si h ks (i+1) r
  |_,some (.obj _ _)::_=>False
  |_,some (.mp _)::_=>False
def Qk:Nat→List (Option Blk)→List (E6×Option Blk)
  |_,[]=> []
  |i,b::r=>(Bl i,b)::Qk (i+1) r
theorem Zh: ∀{l:List (Option Blk)} {i:Nat} {q:E6} {b:Blk},G (Qk i l) q=some b→∃j,q=Bl (i+j)∧l[j]? =some (some b)
  | [],i,q,b,h=>by cases h
  |x::r,i,q,b,h=>by
   rw [Qk,G]at h
   by_cases e:q=Bl i
   ·rw [bE e]at h;subst h;exact ⟨0,e,rfl⟩
   ·rw [bF e]at h
    obtain ⟨j,h1,h2⟩:=Zh h
    exact ⟨j+1,by rw [h1];congr 1;omega,by simpa using h2⟩
theorem DE: ∀{l:List (Option Blk)} {i j:Nat} {b:Option Blk},l[j]? =some b→G (Qk i l) (Bl (i+j))=b
  | [],i,j,b,h=>by simp at h
  |x::r,i,j,b,h=>by
   rw [Qk,G]
   cases j with
   |zero=>simp at h;subst h;rw [bE (by simp)]
   |succ j=>
    rw [bF (fun e=>by have:=DA e;omega),show i+ (j+1)=i+1+j by omega]
    exact DE (by simpa using h)
theorem Zi {h:D4}{ks:List E6}: ∀{l:List (Option Blk)} {i j:Nat} {b:Blk},Si h ks i l→l[j]? =some (some b)→Bl (i+j)∉ks∧
    ((∃ty cs' ds ds',b= .box ty (ds'.map .d)∧h (Bl (i+j))=some (.box ty cs')∧L7 (K1 (P6 h ks) 6) cs'=some ds∧All2 DLe ds ds')∨∃ty sz es,b= .arr ty sz es∧h (Bl (i+j))=some (.arr ty sz es))
  | [],i,j,b,_,hb=>by simp at hb
  |x::r,i,j,b,hp,hb=>by
   cases j with
   |zero=>
    simp at hb;subst hb
    cases b with
    |box ty cs=>obtain ⟨⟨cs',ds,ds',a1,a2,a3,a4,rfl⟩,_⟩:=hp;exact ⟨a2, .inl ⟨ty,cs',ds,ds',rfl,a1,a3,a4⟩⟩
    |arr ty sz es=>exact ⟨hp.1.2, .inr ⟨ty,sz,es,rfl,hp.1.1⟩⟩
    |obj=>exact hp.elim
    |mp=>exact hp.elim
   |succ j=>
    have hr:Si h ks (i+1) r:=by
      cases x with
      |none=>exact hp
      |some x=>cases x<;>first|exact hp.2|exact hp.elim
    have:=Zi hr (by simpa using hb:r[j]? =some (some b))
    rwa [show i+1+j=i+ (j+1) by omega]at this
theorem JL (f:E6→E6)(ds:List D):(ds.map AV.d).map (Yf f)=ds.map .d:=by rw [List.map_map];rfl
theorem X8 {f:FuncId}{rs:List RV}{ac:AC}(F:FnOK P f N rs ac){avs:List AV}{pre:List Blk}{v:D}{post:List (Option Blk)}(hok:WL avs pre (.d v) post []=true)(hl:avs.length≤N)
    (h:Ea P N none [.c ac] (fun e s=>(e= .nrm∨e= .ret)∧∃ks d',Wu ks s.t s.h rs=some d'∧DLe d' v∧Si s.h ks 0 post) .nrm ⟨T (Rf avs 0),G (Wq 0 pre)⟩):MCall P f avs pre (.d v) post []:=by
  refine ⟨hok,F.enters,?_⟩
  obtain ⟨fn,c,hf,hb,hN,hrs,⟨M,hc⟩,hn⟩:=F.ex
  intro w I ρ vs H hlen hrep
  have hsim:=Sd (n:=N) H hlen (by omega) hrep
  rw [← hN,HN]at hsim
  refine Ll (Q:=fun e s=>(e= .nrm∨e= .ret)∧∃ks d',Wu ks s.t s.h rs=some d'∧DLe d' v∧Si s.h ks 0 post) hf hb rfl hsim (by rw [hN];exact h M c hc) ?_
  rintro e s' a' w' I' ρ' ⟨he,ks,d',hv,hle,hp⟩ hs' tr
  have Hs:=hs'.heap
  let hk:D4:=P6 s'.h ks
  have hsub: ∀q b,hk q=some b→s'.h q=some b∧q∈ks:=by
    intro q b hq
    have:(if q∈ks then s'.h q else none)=some b:=hq
    split at this
    ·exact ⟨this,‹_›⟩
    ·cases this
  have Hk:=Hs.sub fun q b hq=>(hsub q b hq).1
  have hg: ∀q b,G (Qk 0 post) q=some b→∃b0,s'.h q=some b0∧q∉ks∧K3 ρ' q b=K3 ρ' q b0∧BlkOK w' (fun b=>I' b∨own ρ' hk b) ρ' q b∧∀f,Gr f b=b:=by
    intro q b hq
    obtain ⟨i,rfl,h2⟩:=Zh hq
    rw [bU]
    obtain ⟨h3,h4⟩:=Zi hp h2
    rw [bU]at h3 h4
    rcases h4 with ⟨ty,cs',ds,ds',rfl,a1,a2,a3⟩|⟨ty,sz,es,rfl,a1⟩
    ·refine ⟨_,a1,h3,rfl,?_,fun f=>by simp only [Gr,JL]⟩
     obtain ⟨g,ws,b1,b2,b3,b4,b5⟩:=Hs.blk _ _ a1
     obtain ⟨l1,l2⟩:=Df a2
     refine ⟨g,ws,b1,b2,by rw [lQ,← a3.length,l1];exact b3,b4,fun i c hc=> ?_⟩
     obtain ⟨d1,hd1,rfl⟩:=Vf hc
     obtain ⟨d0,e1,e2⟩:=a3.get hd1
     obtain ⟨x,e3,e4⟩:=l2 i d0 e1
     exact .d _ _ (e2 _ _ _ (Fv Hk 6 x d0 _ (b5 i x e3) e4))
    ·exact ⟨_,a1,h3,rfl,(Hs.blk _ _ a1).keep (fun _ _=>rfl) (fun _ _=>rfl) (fun _ h=> .inl h) (fun _ _ h=>h),fun f=>rfl⟩
  have hownG: ∀g,own ρ' (G (Qk 0 post)) g→own ρ' s'.h g:=by
    rintro g ⟨q,b,a1,a2⟩
    obtain ⟨b0,c1,_,c3,_⟩:=hg q b a1
    exact ⟨q,b0,c1,by rw [← c3];exact a2⟩
  have H2:HeapOK w' (fun b=>I' b∨own ρ' hk b) ρ' (G (Qk 0 post)):=by
    refine ⟨fun q b hq=>by obtain ⟨_,_,_,_,c,_⟩:=hg q b hq;exact c,fun q q' b b' g h1 h2 h3 h4=> ?_,fun q b g h1 h2 hi=> ?_,fun q b g h1 h2=> ?_,fun b hb=> ?_,Hs.fresh,Hs.rone⟩
    ·obtain ⟨b0,c1,_,c3,_⟩:=hg q b h1
     obtain ⟨b1,d1,_,d3,_⟩:=hg q' b' h2
     rw [c3]at h3;rw [d3]at h4
     exact Hs.sep q q' b0 b1 g c1 d1 h3 h4
    ·obtain ⟨b0,c1,c2,c3,_⟩:=hg q b h1
     rw [c3]at h2
     rcases hi with hi|⟨k,x,e1,e2⟩
     ·exact Hs.notI q b0 g c1 h2 hi
     ·obtain ⟨e3,e4⟩:=hsub k x e1
      have:=Hs.sep q k b0 x g c1 e3 h2 e2
      subst this
      exact c2 e4
    ·obtain ⟨b0,c1,c2,c3,_⟩:=hg q b h1
     rw [c3]at h2
     exact Hs.lt q b0 g c1 h2
    ·rcases hb with hb|hb
     ·exact Hs.ilt b hb
     ·exact Hk.own_lt hb
  unfold Wu at hv
  split at hv
  ·rename_i avs' hres
   obtain ⟨xs,g1,g2,g3⟩:=Oy hs' hrs hres
   have hds: ∀{ds:List D},L7 (K1 hk 6) avs'=some ds→ds.length=xs.length∧∀(i:Nat) d,ds[i]? =some d→RepD w' (fun b=>I' b∨own ρ' hk b) d (xs.getD i undef):=by
     intro ds hds
     obtain ⟨l1,l2⟩:=Df hds
     refine ⟨by omega,fun i d hd=> ?_⟩
     obtain ⟨x,e3,e4⟩:=l2 i d hd
     exact Fv Hk 6 x d _ (g3 i x e3) e4
   have hfin: ∀x,(results fn a'.tmps).run P w'= .ok x w'→RepD w' (fun b=>I' b∨own ρ' hk b) d' x→
    ∃x,(results fn a'.tmps).run P w'= .ok x w'∧∃x' v' I'' ρ'' h'',Ending.returned x= .returned x'∧RepV w' I'' ρ'' v' x'∧HeapOK w' I'' ρ'' h''∧Tr w I ρ (G (Wq 0 pre)) w' I'' ρ'' h''∧SZ pre.length (.d v) post [] v' h'':=by
     intro x hx hr
     refine ⟨x,hx,x, .d v,_,ρ',G (Qk 0 post),rfl, .d _ _ (hle _ _ _ hr),H2,⟨tr.os,tr.tape,tr.output,tr.size,tr.frame,fun b hb=> .inl (tr.imm b hb),fun b hb hl=> ?_,fun b hb hl=>tr.ownBack b (hownG b hb) hl,tr.rho⟩,fun _=>(0,0),rfl,fun i b hb=> ?_,fun j b hb=>by simp at hb,fun j hj=>by simp at hj,fun j j' hj=>by simp at hj⟩
     ·rcases hb with hb|⟨k,x,e1,e2⟩
      ·exact tr.immBack b hb hl
      ·exact .inr (tr.ownBack b ⟨k,x,(hsub k x e1).1,e2⟩ hl)
     ·have h1:G (Qk 0 post) (Bl (0+i))=some b:=DE hb
      rw [bU]at h1
      obtain ⟨_,_,_,_,_,c⟩:=hg _ b h1
      rw [h1,c]
   have hmain: ∃x,(results fn a'.tmps).run P w'= .ok x w'∧RepD w' (fun b=>I' b∨own ρ' hk b) d' x:=by
     split at hv
     ·rename_i d hd
      cases hv
      obtain ⟨l1,l2⟩:=hds hd
      obtain ⟨x,rfl⟩: ∃x,xs= [x]:=by
        cases xs with
        |nil=>simp at l1
        |cons x r=>cases r with
         |nil=>exact ⟨x,rfl⟩
         |cons=>simp at l1
      exact ⟨x,by rw [Kd fn a' w' _ g1];simp,l2 0 _ rfl⟩
     ·rename_i ds hne hd
      cases hv
      obtain ⟨l1,l2⟩:=hds hd
      have hx1: ¬xs.length=1:=by
        intro h1
        rw [← l1]at h1
        obtain ⟨v,rfl⟩:=List.length_eq_one_iff.1 h1
        exact hne v rfl
      exact ⟨_,by rw [Kd fn a' w' _ g1,dif_neg hx1], .tup ds xs l1 l2⟩
     ·cases hv
   obtain ⟨x,hx,hr⟩:=hmain
   obtain ⟨x1,h1,h2⟩:=hfin x hx hr
   exact ⟨he,x1,h1,h2⟩
  ·cases hv
theorem Av {t:Nat→AV}{h:D4}{rs:List RV}{d d':D}{e:Ex}{post:List (Option Blk)}(he:e= .nrm∨e= .ret)(ks:List E6)(h1:Wu ks t h rs=some d')(h2:DLe d' d)(h3:Si h ks 0 post):
    (e= .nrm∨e= .ret)∧∃ks d',Wu ks (⟨t,h⟩:St).t (⟨t,h⟩:St).h rs=some d'∧DLe d' d∧Si (⟨t,h⟩:St).h ks 0 post:=⟨he,ks,d',h1,h2,h3⟩
theorem Aw {t:Nat→AV}{h:D4}{ks:List E6}{a:RV}{v:AV}{d:D}(hv:Ut t h a=some v)(hr:K1 (P6 h ks) 6 v=some d):Wu ks t h [a]=some d:=by simp only [Wu,Wm,hv,L7,hr]
theorem Ql {h:D4}{ks:List E6}{k:E6}{b:Option Blk}(hm:k∈ks)(hb:h k=b):P6 h ks k=b:=by unfold P6;rw [bE hm];exact hb
theorem G9 {h:D4}: ∀q∈([]:List E6),h q≠none:=by simp
theorem D5 {h:D4}{k:E6}{b:Blk}{ks:List E6}(hb:h k=some b)(hr: ∀q∈ks,h q≠none): ∀q∈k::ks,h q≠none:=by
  intro q hq
  rcases lS.1 hq with rfl|hq
  ·rw [hb];simp
  ·exact hr q hq
theorem J0 {l:List AV}:All2 AVle l l:=by
  induction l with
  |nil=>exact .nil
  |cons x r ih=>exact .cons (.refl x) ih
theorem AT {a b x y:Nat}(h:(a==b)=false):((a,x):E6)≠(b,y):=by rintro ⟨⟩;simp at h
theorem nd1 {k:E6}: [k].Nodup:=by simp
theorem WN {k k':E6}(h:k≠k'): [k,k'].Nodup:=by simp [h]
theorem G2 {k:E6}:k∉ ([]:List E6):=by simp
theorem Es {i d u:Nat}{ks:List E6}(h:Nat.blt d 900000=true)(hr:Bl i∉ks):Bl i∉ (d,u)::ks:=by
  simp only [lS,not_or]
  exact ⟨fun e=>UT h i e.symm,hr⟩
theorem X0 {l:List D}:All2 DLe l l:=by
  induction l with
  |nil=>exact .nil
  |cons x r ih=>exact .cons (.refl x) ih
end
end Go.Abs
namespace Go.Abs
open Go
theorem Gl {x d:Nat}{l:List Nat}(h:d∈l)(ha:(l.all fun a=> !(a==x))=true):(d==x)=false:=by
  have:=lX.1 ha d h
  simpa using this
theorem U9 {ds:List Nat}{d u:Nat}{r:Option Blk}(h:d∈ds): ∀(n:Nat) {l:List (E6×Option Blk)},((l.take n).all fun e=>ds.all fun a=> !(a==e.1.1))=true→G (l.drop n) (d,u)=r→G l (d,u)=r
  |0,_,_,h2=>h2
  |n+1,[],_,h2=>h2
  |n+1,(i,b)::l,h1,h2=>by
   simp only [List.take_succ_cons,List.all_cons,bG]at h1
   exact A7 (Gl h h1.1) (U9 h n h1.2 h2)
theorem Zj {k:E6}{r:Option Blk}: ∀(n:Nat) {l:List (E6×Option Blk)},((l.take n).all fun e=> !(k.1==e.1.1))=true→G (l.drop n) k=r→G l k=r
  |0,_,_,h2=>h2
  |n+1,[],_,h2=>h2
  |n+1,(i,b)::l,h1,h2=>by
   simp only [List.take_succ_cons,List.all_cons,bG]at h1
   exact A7 (by simpa using h1.1) (Zj n h1.2 h2)
theorem K6 {t:Nat→AV}: ∀{l:List (Nat×AV)},(l.map fun p=>t p.1)=l.map (fun p=>p.2)→VU t l
  | [],_=>trivial
  |(i,v)::l,h=>by
   rw [lP,lP,List.cons.injEq]at h
   exact ⟨.of h.1,K6 h.2⟩
theorem Gz {x d:Nat}{l:List Nat}(h:d∈l)(ha:(l.all fun a=> !(x==a))=true):(x==d)=false:=by
  have:=lX.1 ha d h
  simpa using this
theorem AU {d e:Nat}{l m:List Nat}(h:d∈l)(h':e∈m)(ha:(l.all fun a=>m.all fun b=> !(a==b))=true):(d==e)=false:=by
  have:=lX.1 (lX.1 ha d h) e h'
  simpa using this
def Vh {α:Type}(t:Nat→AV)(f:α→List D)(sz:Nat):Nat→List (Nat×Nat×Opd)→List α→Prop
  |_,[],[]=>True
  |i,(off,m,x)::ps,a::as=>off=i*sz∧m=sz∧Fo (ev t x)=some ((f a).map .d)∧Vh t f sz (i+1) ps as
  |_,_,_=>False
theorem NG {α:Type}(pre post vs:List α)(h:vs.length≤post.length):Eb (pre++post) pre.length vs=pre++ (vs++post.drop vs.length):=by
  apply List.ext_getElem?
  intro i
  rw [Bw _ _ _ _ (by simp;omega)]
  by_cases h1:i<pre.length
  ·rw [bF (by omega),lW h1,lW h1]
  ·rw [lV (by omega),lV (by omega)]
   by_cases h2:i<pre.length+vs.length
   ·rw [bE (by omega),lW (by omega)]
   ·rw [bF (by omega),lV (by omega),lZ]
    congr 1;omega
theorem Rg {α:Type}{t:Nat→AV}{f:α→List D}{sz:Nat}(hf: ∀a,(f a).length=sz): ∀(as:List α) (ps:List (Nat×Nat×Opd)) (i:Nat) (pre post:List AV),pre.length=i*sz→post.length=as.length*sz→Vh t f sz i ps as→
    Jn t (pre++post) ps=some (pre++ (as.flatMap f).map .d)
  | [],[],i,pre,post,_,hl,_=>by
    have:post= []:=lY (by simpa using hl)
    subst this;simp [Jn]
  | [],_::_,_,_,_,_,_,hp=>hp.elim
  |_::_,[],_,_,_,_,_,hp=>hp.elim
  |a::as,(off,m,x)::ps,i,pre,post,h1,h2,hp=>by
   obtain ⟨rfl,rfl,hc,hr⟩:=hp
   have hl:post.length=m+as.length*m:=by rw [h2,lJ,bT];omega
   have hv:((f a).map AV.d).length=m:=by simp [hf]
   simp only [Jn,hc,hv,true_and]
   rw [bE (by simp [h1,hl]),← h1,NG _ _ _ (by rw [hv,hl];omega),hv,← lM]
   rw [Rg hf as ps (i+1) _ _ (by rw [lK,hv,h1,bT];omega) (by rw [lU,hl];omega) hr]
   simp
theorem Rh {α:Type}{f:α→List D}{sz:Nat}(hf: ∀a,(f a).length=sz): ∀as:List α,Ft sz as.length (as.flatMap f)=as.map f
  | []=>rfl
  |a::as=>by
   simp only [lJ,Ft,l7,lP]
   rw [List.take_left' (hf a),List.drop_left' (hf a),Rh hf as]
theorem Tm {α:Type}(z:List α): ∀n,(Hh z n).length=n*z.length
  |0=>by simp [Hh]
  |n+1=>by simp [Hh,Tm z n,bT];omega
theorem Tn: ∀l:List D,En (l.map .d)=some l
  | []=>rfl
  |x::r=>by simp [En,Tn r]
theorem Zk {α:Type}{t:Nat→AV}{h:D4}{e sz n:Nat}{z:List D}{ps:List (Nat×Nat×Opd)}(f:α→List D)(xs:List α)(hf: ∀a,(f a).length=sz)(hz:z.length=sz)(hn:xs.length=n)(hp:Vh t f sz 0 ps xs)(hm: ∀a,(f a).map nrm=f a):
    G5 t h (.dslice e sz n z ps)=some (.d (.list (xs.map f))):=by
  have:=Rg hf xs ps 0 [] ((Hh z n).map .d) (by simp) (by rw [lQ,Tm,hz,hn]) hp
  simp only [lO]at this
  simp only [G5,this,lA,Tn,lE]
  rw [← hn,Td,Rh hf,List.map_map,show ((fun x=>List.map nrm x)∘f)=f from funext hm]
theorem Gm {α:Type}{t:Nat→AV}{u d e sz n:Nat}{z:List D}{ps:List (Nat×Nat×Opd)}(f:α→List D)(xs:List α)(hf: ∀a,(f a).length=sz)(hz:z.length=sz)(hn:xs.length=n)(hp:Vh t f sz 0 ps xs):
    Hp u d t (.bslice e sz n z ps)=some (.sl (d,u), .arr e sz (xs.map f)):=by
  have:=Rg hf xs ps 0 [] ((Hh z n).map .d) (by simp) (by rw [lQ,Tm,hz,hn]) hp
  simp only [lO]at this
  simp only [Hp,this,lA,Tn,lE]
  rw [← hn,Rh hf]
/-- A key put into a set. -/
def YE (ks:List Int)(n:Int):List Int:=if n∈ks then ks else ks++ [n]
theorem DLe.bp {xs ys:List D}{off:Nat}(h:All2 (fun x y=>DLe x y∧y.one=true) xs ys):DLe (.bp xs off) (.bp ys off):=by
  intro w I v hv
  cases hv with
  |bp _ _ g vs ty fz hI hg hl hone hr=>
   refine .bp ys off g vs ty fz hI hg (by rw [← h.length];exact hl) (fun i d hi=> ?_) (fun i d hi=> ?_)
   ·obtain ⟨a,_,h2⟩:=h.get hi;exact h2.2
   ·obtain ⟨a,h1,h2⟩:=h.get hi;exact h2.1 _ _ _ (hr i a h1)
section
variable {P:Program}{u:Nat}{r:List AOp}{l:List (Nat×AV)}{g:List (E6×Option Blk)}{t:Nat→AV}{h:D4}
end
end Go.Abs
namespace Go.Abs
open Go
/-! ### Functions that can be computed, and what they say of the plain ones -/
/-- What the one gives, the other one gives. -/
class Le {α:Type} (x y:Option α):Prop where
  out: ∀r,x=some r→y=some r
section
variable {α β γ σ τ:Type}
instance {x y:Option α}:CoeFun (Le x y) (fun _=> ∀r,x=some r→y=some r):=⟨fun h=>h.out⟩
instance (priority:=low) Le.refl (x:Option α):Le x x:=⟨fun _ h=>h⟩
instance Le.bind {x y:Option α}{f g:α→Option β}[h:Le x y][hf: ∀v,Le (f v) (g v)]:Le (x.bind f) (y.bind g):=by
  refine ⟨fun r hr=> ?_⟩
  cases x with
  |none=>cases hr
  |some v=>rw [h v rfl];exact hf v r hr
instance Le.cond {b:Bool}{x y x' y':Option α}[h:Le x x'][h':Le y y']:Le (cond b x y) (cond b x' y'):=by cases b<;>assumption
instance Le.ite {p:Prop}[Decidable p]{x y x' y':Option α}[h:Le x x'][h':Le y y']:Le (if p then x else y) (if p then x' else y'):=by split<;>assumption
instance Le.thenS {x x':Option (Sum σ β)}{f f':σ→Option γ}{g g':β→Option γ}[h:Le x x'][hf: ∀v,Le (f v) (f' v)][hg: ∀v,Le (g v) (g' v)]:Le (thenS x f g) (thenS x' f' g'):=by
  refine ⟨fun r hr=> ?_⟩
  cases x with
  |none=>cases hr
  |some v=>rw [h v rfl];cases v<;>first|exact hf _ r hr|exact hg _ r hr
/-- Loops that the kernel runs. -/
@[reducible] def By:Lp:=⟨fun f s=>loopN f 100000 s⟩
theorem Le.loopN {f f':σ→Option (Stp σ τ)}(h: ∀s,Le (f s) (f' s)): ∀(n:Nat) (s:σ),Le (loopN f n s) (loopN f' n s)
  |0,s=>⟨fun r hr=>by cases hr⟩
  |n+1,s=>⟨fun r hr=>by
   rw [Abs.loopN]at hr ⊢
   cases hf:f s with
   |none=>rw [hf]at hr;cases hr
   |some x=>
    rw [hf]at hr
    rw [h s x hf]
    cases x with
    |go s'=>exact Le.loopN h n s' r hr
    |out t=>exact hr⟩
instance Le.loop {f f':σ→Option (Stp σ τ)}[h: ∀s,Le (f s) (f' s)](s:σ):Le (@loop _ _ By f s) (loop f' s):=⟨fun r hr=>loop_some.2 ⟨_,Le.loopN h _ s r hr⟩⟩
theorem Le.loopLh {f f':σ→α→Option (Stp σ τ)}{e:σ→τ}(h: ∀s a,Le (f s a) (f' s a)): ∀(l:List α) (s:σ),Le (loopL f e l s) (loopL f' e l s)
  | [],s=>⟨fun r hr=>hr⟩
  |a::l,s=>⟨fun r hr=>by
   rw [Abs.loopL]at hr ⊢
   cases hf:f s a with
   |none=>rw [hf]at hr;cases hr
   |some x=>
    rw [hf]at hr
    rw [h s a x hf]
    cases x with
    |go s'=>exact Le.loopLh h l s' r hr
    |out t=>exact hr⟩
instance Le.loopL {f f':σ→α→Option (Stp σ τ)}{e:σ→τ}[h: ∀s a,Le (f s a) (f' s a)](l:List α)(s:σ):Le (loopL f e l s) (loopL f' e l s):=Le.loopLh h l s
end
end Go.Abs
/-! Short names for what the generated proofs use most. -/
namespace Go.Abs
open Go
abbrev oo (d:Nat)(k:AK):AOp:=⟨some d,k,none⟩
abbrev og (d:Nat)(k:AK)(j:Nat):AOp:=⟨some d,k,some (j,true)⟩
abbrev oh (d:Nat)(k:AK)(j:Nat):AOp:=⟨some d,k,some (j,false)⟩
abbrev oe (k:AK):AOp:=⟨none,k,none⟩
abbrev ci (n:Int):Opd:= .c (.v (.int .i64 n))
abbrev cf (n:Nat):Opd:= .c (.fn (.func n) [] [])
abbrev z0:D:= .v (.int .i64 0)
abbrev zf:D:= .v (.bool false)
abbrev di (n:Int):AV:= .d (.v (.int .i64 n))
abbrev db (b:Bool):AV:= .d (bo b)
abbrev dl {α:Type}(e:α→List D)(xs:List α):AV:= .d (.list (List.map e xs))
/-- What lies at the first key with this number. -/
def gl:List (E6×Option Blk)→Nat→Option (E6×Option Blk)
  | [],_=>none
  |(k,b)::l,d=>cond (Nat.beq k.1 d) (some (k,b)) (gl l d)
theorem NH {b:Option Blk}{k:E6}: ∀{g:List (E6×Option Blk)},gl g k.1=some (k,b)→G g k=b
  | [],h=>by cases h
  |(q,c)::l,h=>by
   unfold gl at h
   cases e:Nat.beq q.1 k.1
   ·rw [e,bD]at h
    have ne:k≠q:=by rintro rfl;simp at e
    rw [G,bF ne];exact NH h
   ·rw [e,bC]at h
    simp only [Option.some.injEq,Prod.mk.injEq]at h
    obtain ⟨rfl,rfl⟩:=h
    exact G_hit
theorem gq {d u:Nat}{b:Option Blk}{g:List (E6×Option Blk)}(h:gl g d=some ((d,u),b)):G g (d,u)=b:=NH h
theorem DF {l:List (Nat×AV)}: ∀{l0:List (Nat×AV)},l0.map (fun p=>(p.1,T l p.1))=l0→VU (T l) l0
  | [],_=>trivial
  |(i,v)::r,h=>by
   simp only [lP,List.cons.injEq,Prod.mk.injEq,true_and]at h
   exact ⟨.of h.1,DF h.2⟩
theorem DG {g:List (E6×Option Blk)}: ∀{g0:List (E6×Option Blk)},g0.map (fun p=>gl g p.1.1)=g0.map some→BL (G g) g0
  | [],_=>trivial
  |(k,b)::r,h=>by
   simp only [lP,List.cons.injEq]at h
   refine ⟨?_,DG h.2⟩
   cases b with
   |none=>trivial
   |some b=>exact ⟨b,NH h.1, .refl b⟩
theorem F5 {l l0:List (Nat×AV)}{g g0:List (E6×Option Blk)}(h1:l0.map (fun p=>(p.1,T l p.1))=l0)(h2:g0.map (fun p=>gl g p.1.1)=g0.map some):Sb ⟨T l0,G g0⟩ ⟨T l,G g⟩:=B8 (DF h1) (DG h2)
theorem nl {a b:Nat}(h:Nat.ble a b=true):a≤b:=Nat.le_of_ble_eq_true h
theorem bs {α β:Type}{o:Option α}{f:α→Option β}{r:β}{Q:Prop}(h:o.bind f=some r)(k: ∀v,o=some v→f v=some r→Q):Q:=by
  cases o with
  |none=>cases h
  |some v=>exact k v rfl h
theorem js {σ β γ:Type}{x:Option (Sum σ β)}{f:σ→Option γ}{g:β→Option γ}{r:γ}{Q:Prop}(h:thenS x f g=some r)(k: ∀y,x=some y→Sum.elim f g y=some r→Q):Q:=by
  obtain ⟨y,h1,h2⟩:=FX h
  exact k y h1 h2
section
variable {P:Program}{N u:Nat}{rk:Option E6}{aops:List AOp}{r:List It}{l:List (Nat×AV)}{g:List (E6×Option Blk)}{K:(Nat→AV)→D4→Prop}{Q:Ex→St→Prop}{s:St}
theorem cc {α:Type}{o:Opd}{a b:AC}{c:Bool}{x y z:α}(hc:ev s.t o= .d (.v (.bool c)))(h:cond c x y=z)(h1:c=true→x=z→Ea P N rk (.c a::r) Q .nrm s)(h2:c=false→y=z→Ea P N rk (.c b::r) Q .nrm s):Ea P N rk (.c (.cond o a b)::r) Q .nrm s:=
  UN c hc (fun e=>h1 e (K2 e h)) (fun e=>h2 e (UO e h))
theorem sd {d:Nat}{k:AK}{v:D}(h0:T6 k=0)(hv:G5 (T l) (G g) k=some (.d v))(hk:J6 P u aops (T ((d, .d v)::l)) (G g) K):J6 P u (⟨some d,k,none⟩::aops) (T l) (G g) K:=B6 (.d v) h0 hv hk
theorem sp {d:Nat}{k:AK}{q:E6}{n:Nat}(h0:T6 k=0)(hv:G5 (T l) (G g) k=some (.ptr q n))(hk:J6 P u aops (T ((d, .ptr q n)::l)) (G g) K):J6 P u (⟨some d,k,none⟩::aops) (T l) (G g) K:=B6 (.ptr q n) h0 hv hk
theorem sq {d:Nat}{k:AK}{q:E6}{n:Nat}(hv:((T6 k,G5 (T l) (G g) k):Nat×Option AV)=(0,some (.ptr q n)))(hk:J6 P u aops (T ((d, .ptr q n)::l)) (G g) K):J6 P u (⟨some d,k,none⟩::aops) (T l) (G g) K:=B6 (.ptr q n) (congrArg Prod.fst hv) (congrArg Prod.snd hv) hk
theorem sm {d ty:Nat}{k:AK}{q:E6}{n:Nat}{cs:List AV}(hv:((Lw k,Hp u d (T l) k):Bool×Option (AV×Blk))=(true,some (.ptr q n, .box ty cs)))(hk:J6 P u aops (T ((d, .ptr q n)::l)) (G (((d,u),some (.box ty cs))::g)) K):J6 P u (⟨some d,k,none⟩::aops) (T l) (G g) K:=Ke _ _ (congrArg Prod.fst hv) (congrArg Prod.snd hv) hk
theorem sn {d ty:Nat}{k:AK}{q:E6}{n:Nat}{cs:List AV}(h0:Lw k=true)(hv:Hp u d (T l) k=some (.ptr q n, .box ty cs))(hk:J6 P u aops (T ((d, .ptr q n)::l)) (G (((d,u),some (.box ty cs))::g)) K):J6 P u (⟨some d,k,none⟩::aops) (T l) (G g) K:=Ke _ _ h0 hv hk
theorem sv {d:Nat}{k:AK}{v:D}(hv:((T6 k,G5 (T l) (G g) k):Nat×Option AV)=(0,some (.d v)))(hk:J6 P u aops (T ((d, .d v)::l)) (G g) K):J6 P u (⟨some d,k,none⟩::aops) (T l) (G g) K:=B6 (.d v) (congrArg Prod.fst hv) (congrArg Prod.snd hv) hk
theorem ss {d:Nat}{k:AK}{q:E6}(hv:((T6 k,G5 (T l) (G g) k):Nat×Option AV)=(0,some (.sl q)))(hk:J6 P u aops (T ((d, .sl q)::l)) (G g) K):J6 P u (⟨some d,k,none⟩::aops) (T l) (G g) K:=B6 (.sl q) (congrArg Prod.fst hv) (congrArg Prod.snd hv) hk
theorem sl {d n off:Nat}{p:Opd}{q:E6}{ty:TypeId}{cs:List AV}{v:D}(hp:ev (T l) p= .ptr q off)(hb:G g q=some (.box ty cs))(hv:(cs.drop off).head? =some (.d v))(hk:J6 P u aops (T ((d, .d v)::l)) (G g) K):J6 P u (⟨some d, .load n false p,none⟩::aops) (T l) (G g) K:=B6 (.d v) rfl (Ag hp hb hv) hk
theorem X7 {n:Nat}{p x:Opd}{k:E6}{off:Nat}{ty:TypeId}{bs cs:List AV}(hx:((Fo (ev (T l) x),cs.length,ev (T l) p):Option (List AV)×Nat×AV)=(some cs,n, .ptr k off))(hb:G g k=some (.box ty bs))(bs':List AV)(he:((Eb bs off cs,Nat.ble (off+n) bs.length):List AV×Bool)=(bs',true))
    (hk:J6 P u aops (T l) (G ((k,some (.box ty bs'))::g)) K):J6 P u (⟨none, .store n p x,none⟩::aops) (T l) (G g) K:=by
  simp only [Prod.mk.injEq]at hx he
  exact W8 _ _ _ _ _ hx.1 hx.2.1 hx.2.2 hb (Nat.le_of_ble_eq_true he.2) bs' he.1 hk
theorem gp {d j:Nat}{b w:Bool}{k:AK}{q:E6}{n:Nat}(h0:T6 k=0)(hg:VV (T l j) b w)(hv:w=true→G5 (T l) (G g) k=some (.ptr q n))(hk:J6 P u aops (T ((d,gd w true (.ptr q n))::l)) (G g) K):J6 P u (⟨some d,k,some (j,b)⟩::aops) (T l) (G g) K:=R8 w (.ptr q n) h0 hg hv hk
theorem gt {d j:Nat}{w:Bool}{k:AK}{v:D}(hg:((T6 k,T l j):Nat×AV)=(0, .d (bo w)))(hv:w=true→G5 (T l) (G g) k=some (.d v))(hk:J6 P u aops (T ((d,gd w true (.d v))::l)) (G g) K):J6 P u (⟨some d,k,some (j,true)⟩::aops) (T l) (G g) K:=R8 w (.d v) (congrArg Prod.fst hg) (K0 (congrArg Prod.snd hg)) hv hk
theorem gf {d j:Nat}{w:Bool}{k:AK}{v:D}(hg:((T6 k,T l j):Nat×AV)=(0, .d (bo w)))(hv:(!w)=true→G5 (T l) (G g) k=some (.d v))(hk:J6 P u aops (T ((d,gd (!w) true (.d v))::l)) (G g) K):J6 P u (⟨some d,k,some (j,false)⟩::aops) (T l) (G g) K:=R8 (!w) (.d v) (congrArg Prod.fst hg) (T9 (congrArg Prod.snd hg)) hv hk
theorem sa {d j x:Nat}{c q:Bool}{yo:Opd}(hj:ev (T l) (.t j)= .d (bo c))(hx:ev (T l) (.t x)=gd c true (.d (bo q)))(hy:ev (T l) yo= .d (bo false))(hk:J6 P u aops (T ((d, .d (bo (c&&q)))::l)) (G g) K):J6 P u (⟨some d, .pick (.t j) (.t x) yo,none⟩::aops) (T l) (G g) K:=B6 _ rfl (WJ hj (fun hc=>by rw [hx,A9 hc]) hy) hk
theorem lr {a:AC}(h: ∀u,(∀k,G g k≠none→k.2≠u)→J6 P u aops (T l) (G g) fun t h=>Ea P N rk (.c a::r) Q .nrm ⟨t,h⟩):Ea P N rk (.c (.seq (.reg aops) a)::r) Q .nrm ⟨T l,G g⟩:=A4 (T8 h)
theorem C0 {a:AC}(h: ∀{u:Nat} {_: ∀k,G g k≠none→k.2≠u},J6 P u aops (T l) (G g) fun t h=>Ea P N rk (.c a::r) Q .nrm ⟨t,h⟩):Ea P N rk (.c (.seq (.reg aops) a)::r) Q .nrm ⟨T l,G g⟩:=lr fun u hu=> @h u hu
theorem B5 (h: ∀{u:Nat} {_: ∀k,G g k≠none→k.2≠u},J6 P u aops (T l) (G g) fun t h=>Ea P N rk r Q .nrm ⟨t,h⟩):Ea P N rk (.c (.reg aops)::r) Q .nrm ⟨T l,G g⟩:=T8 fun u hu=> @h u hu
theorem T7 (hn:WC aops=true)(h: ∀{u:Nat} {_: ∀k,G g k≠none→k.2≠u},J6 P u aops (T l) (G g) fun t h=>Ea P N rk r Q .nrm ⟨t,h⟩):Ea P N rk (.c (.draw aops [])::r) Q .nrm ⟨T l,G g⟩:=FV hn fun u hu=> @h u hu
end
section
variable {t:Nat→AV}{h:D4}
theorem vb {op:BinOp}{x y:Opd}{k:IntKind}{a b:Int}{v:Value}{w:Bool}(hx:ev t x=gd w true (.d (.v (.int k a))))(hy:ev t y= .d (.v (.int k b)))(hr:Yb op k a b=some v)(hw:w=true):G5 t h (.bin op x y)=some (.d (.v v)):=
  Cu (by rw [hx,A9 hw]) hy hr
theorem vl {n:Nat}{p:Opd}{k:E6}{off:Nat}{ty:TypeId}{bs:List AV}{v:AV}{w:Bool}(hp:ev t p=gd w true (.ptr k off))(hb:h k=some (.box ty bs))(hv:(bs.drop off).head? =some v)(hw:w=true):G5 t h (.load n false p)=some v:=Ag (by rw [hp,A9 hw]) hb hv
end
end Go.Abs
/-! Own memory among what a call hands out: slices that may be empty. -/
namespace Go.Abs
open Go
/-- A slice of the run's own, or one of nothing. -/
def oE {α:Type}(xs:List α)(k:E6):AV:=match xs with
  | []=> .d (.list [])
  |_=> .sl k
section
variable {t:Nat→AV}{h:D4}
end
theorem AVle.tup {xs ys:List AV}(h:All2 AVle xs ys):AVle (.tup xs) (.tup ys):=by
  intro w I ρ v hv
  cases hv with
  |tup _ vs hl hr=>
   refine .tup _ vs (h.length▸hl) (fun i c hc=> ?_)
   obtain ⟨a,e1,e2⟩:=h.get hc
   exact e2 _ _ _ _ (hr i a e1)
end Go.Abs
/-! Own memory becomes data, wherever that is wanted. -/
namespace Go.Abs
open Go
/-- A value, where the blocks at some keys have become data (h holds these). -/
def RD (h:D4)(x y:AV):Prop:=AVle x y∨∃d d',K1 h 6 x=some d∧DLe d d'∧y= .d d'
def UV (h:D4)(ks:List E6)(k:E6)(b:Blk):Prop:=k∉ks∧∃b0,h k=some b0∧(b0=b∨∃ty cs cs',b0= .box ty cs∧b= .box ty cs'∧All2 (RD (P6 h ks)) cs cs')
def WO (I:Nat→Prop)(ρ:Rho)(h:D4)(ks:List E6):Nat→Prop:=fun b=>I b∨own ρ (P6 h ks) b
section
variable {w:World}{I:Nat→Prop}{ρ:Rho}{h:D4}{ks:List E6}
theorem Et {q:E6}{b:Blk}(hq:P6 h ks q=some b):h q=some b∧q∈ks:=by
  have:(if q∈ks then h q else none)=some b:=hq
  split at this
  ·exact ⟨this,‹_›⟩
  ·cases this
theorem HO (H:HeapOK w I ρ h){x y:AV}{v:Value}(hf:RD (P6 h ks) x y)(hx:RepV w I ρ x v):RepV w (WO I ρ h ks) ρ y v:=by
  rcases hf with q|⟨d,d',h1,h2,rfl⟩
  ·exact (q _ _ _ _ hx).keep (fun _ _=>rfl) (fun _ h=> .inl h) (fun _ _ h=>h)
  ·have Hk:=H.sub fun q b hq=>(Et (ks:=ks) hq).1
   exact .d _ _ (h2 _ _ _ (Fv Hk 6 x d v hx h1))
theorem Sj {k:E6}{b b0:Blk}(q:b0=b∨∃ty cs cs',b0= .box ty cs∧b= .box ty cs'∧All2 (RD (P6 h ks)) cs cs'):K3 ρ k b=K3 ρ k b0:=by
  rcases q with rfl|⟨ty,cs,cs',rfl,rfl,_⟩<;>rfl
theorem HP (H:HeapOK w I ρ h){h':D4}(hh: ∀k b,h' k=some b→UV h ks k b):HeapOK w (WO I ρ h ks) ρ h':=by
  have Hk:=H.sub fun q b hq=>(Et (ks:=ks) hq).1
  refine ⟨fun k b hb=> ?_,fun k k' b b' g h1 h2 h3 h4=> ?_,fun k b g h1 h2 hi=> ?_,fun k b g h1 h2=> ?_,fun b hb=> ?_,H.fresh,H.rone⟩
  ·obtain ⟨_,b0,e1,rfl|⟨ty,cs,cs',rfl,rfl,ha⟩⟩:=hh k b hb
   ·exact (H.blk k b0 e1).keep (fun _ _=>rfl) (fun _ _=>rfl) (fun _ h=> .inl h) (fun _ _ h=>h)
   ·obtain ⟨g,vs,b1,b2,b3,b4,b5⟩:=H.blk k _ e1
    refine ⟨g,vs,b1,b2,by rw [← ha.length];exact b3,b4,fun i c hc=> ?_⟩
    obtain ⟨x,g1,g2⟩:=ha.get hc
    exact HO H g2 (b5 i x g1)
  ·obtain ⟨_,b0,e1,q⟩:=hh k b h1
   obtain ⟨_,b1,e2,q'⟩:=hh k' b' h2
   rw [Sj q]at h3
   rw [Sj q']at h4
   exact H.sep k k' b0 b1 g e1 e2 h3 h4
  ·obtain ⟨n,b0,e1,q⟩:=hh k b h1
   rw [Sj q]at h2
   rcases hi with hi|⟨k',b',e2,e3⟩
   ·exact H.notI k b0 g e1 h2 hi
   ·obtain ⟨e4,e5⟩:=Et e2
    have:=H.sep k k' b0 b' g e1 e4 h2 e3
    subst this
    exact n e5
  ·obtain ⟨n,b0,e1,q⟩:=hh k b h1
   rw [Sj q]at h2
   exact H.lt k b0 g e1 h2
  ·rcases hb with hb|hb
   ·exact H.ilt b hb
   ·exact Hk.own_lt hb
theorem NI {h':D4}(hh: ∀k b,h' k=some b→UV h ks k b){g:Nat}(ho:own ρ h' g):own ρ h g:=by
  obtain ⟨k,b,h1,h2⟩:=ho
  obtain ⟨_,b0,e1,q⟩:=hh k b h1
  exact ⟨k,b0,e1,by rw [← Sj q];exact h2⟩
theorem TA {h':D4}(hh: ∀k b,h' k=some b→UV h ks k b):Tr w I ρ h w (WO I ρ h ks) ρ h':=
  ⟨rfl,rfl,rfl,bR _,fun _ _ _=>rfl,fun _ h=> .inl h,fun _ hb _=>hb.imp id fun ⟨k,c,a1,a2⟩=>⟨k,c,(Et a1).1,a2⟩,fun _ hb _=>NI hh hb,fun _ _ h=>h⟩
end
section
variable {P:Program}{N:Nat}{rk:Option E6}{s:St}{Q:Ex→St→Prop}
theorem UW {c:Code}{s0:St}(ks:List E6)(ht: ∀i,RD (P6 s.h ks) (s.t i) (s0.t i))(hg: ∀k b,s0.h k=some b→UV s.h ks k b)(h:AWc P N rk c s0 Q):AWc P N rk c s Q:=by
  intro w I ρ a hs ro hro
  have hs0:Sim w (WO I ρ s.h ks) ρ N s0 a:=⟨hs.size,⟨hs.defers.nd,fun d hd=>by
    obtain ⟨r,e1,e2,e3,e4⟩:=hs.defers.each d hd
    exact ⟨r,e1,e2,fun q=>q.elim e3 fun ⟨k,c,a1,a2⟩=>e4 ⟨k,c,(Et a1).1,a2⟩,fun q=>e4 (NI hg q)⟩⟩,fun i=>HO hs.heap (ht i) (hs.tmp i),HP hs.heap hg⟩
  refine (h w _ ρ a hs0 ro hro).mono ?_
  rintro e a' w' ⟨s',I',ρ',hq,hs',htr,hnd⟩
  exact ⟨s',I',ρ',hq,hs',(TA hg).trans htr,hnd⟩
end
def XJ (h:D4)(t:Nat→AV):List (Nat×AV)→Prop
  | []=>True
  |(i,v)::r=>RD h (t i) v∧XJ h t r
def WP (h:D4)(ks:List E6):List (E6×Option Blk)→Prop
  | []=>True
  |(k,b)::r=>(match b with|some b=>UV h ks k b|none=>True)∧WP h ks r
theorem HQ {h:D4}{t:Nat→AV}: ∀{l:List (Nat×AV)},XJ h t l→∀i,RD h (t i) (T l i)
  | [],_,i=> .inl (.any _)
  |(j,v)::r,H,i=>by
   rw [T]
   split
   ·rename_i e;subst e;exact H.1
   ·exact HQ H.2 i
theorem HR {h:D4}{ks:List E6}: ∀{g:List (E6×Option Blk)},WP h ks g→∀k b,G g k=some b→UV h ks k b
  | [],_,k,b,hb=>by cases hb
  |(j,v)::r,H,k,b,hb=>by
   rw [G]at hb
   split at hb
   ·rename_i e;subst e;subst hb;exact H.1
   ·exact HR H.2 k b hb
section
variable {P:Program}{N:Nat}{rk:Option E6}{r:List It}{Q:Ex→St→Prop}{l:List (Nat×AV)}{g:List (E6×Option Blk)}
/-- What is the run's own becomes data. -/
theorem XK {a:AC}(ks:List E6)(l0:List (Nat×AV))(g0:List (E6×Option Blk))(h1:XJ (P6 (G g) ks) (T l) l0)(h2:WP (G g) ks g0)(h:Ea P N rk (.c a::r) Q .nrm ⟨T l0,G g0⟩):Ea P N rk (.c a::r) Q .nrm ⟨T l,G g⟩:=
  fun M c hc=>UW (s:=⟨T l,G g⟩) ks (HQ h1) (HR h2) (h M c hc)
end
theorem WQ {h:D4}{x y:AV}(e:x=y):RD h x y:= .inl (.of e)
theorem XL {h:D4}{x:AV}{d d':D}(h1:K1 h 6 x=some d)(h2:DLe d d'):RD h x (.d d'):= .inr ⟨d,d',h1,h2,rfl⟩
theorem RE {h:D4}{ks:List E6}{k:E6}{ty:TypeId}{cs cs':List AV}{l:List (E6×Option Blk)}(h1:h k=some (.box ty cs))(hn:k∉ks)(hc:All2 (RD (P6 h ks)) cs cs')(hl:WP h ks l):WP h ks ((k,some (.box ty cs'))::l):=⟨⟨hn,_,h1, .inr ⟨ty,cs,cs',rfl,rfl,hc⟩⟩,hl⟩
theorem UX {k:E6}:k∉ ([]:List E6):=by simp
theorem RF {k q:E6}{ks:List E6}(h:k≠q)(hr:k∉ks):k∉q::ks:=by simp [h,hr]
/-- What is handed in becomes data, and what is handed out is the run's own. -/
theorem FCall.fr {P:Program}{u S:Nat}{f:FuncId}{avs:List AV}{ds ds':List D}{v:AV}{ups:List (E6×Option Blk)}{h0:D4}(hF:FCall P u S f (ds'.map .d) (fun _=>none) v ups)(hd:L7 (K1 h0 6) avs=some ds)(hle:All2 DLe ds ds')(_hu: ∀k∈ups.map (·.1),∃j,j<6∧k=(S+j,u)):
    FCall P u S f avs (P6 h0 (avs.flatMap (N9 h0 6))) v ((avs.flatMap (N9 h0 6)).map (fun k=>(k,none))++ups):=by
  refine ⟨hF.1,fun w I ρ h vs H hh hlen hrep hfr=> ?_⟩
  have hlive:=Ue avs ds hd
  have heq: ∀q∈avs.flatMap (N9 h0 6),h q=h0 q:=by
    intro q hq
    cases hb:h0 q with
    |none=>exact absurd hb (hlive q hq)
    |some b=>exact hh q b (by unfold P6;rw [bE hq,hb])
  have hd':L7 (K1 h 6) avs=some ds:=by rw [← hd];exact Nd avs heq
  rw [← Ud avs heq]
  clear hd hh heq hlive
  generalize hks:avs.flatMap (N9 h 6)=ks at*
  let hf:D4:=fun q=>if q∈ks then none else h q
  have hff: ∀k b,hf k=some b→UV h ks k b:=by
    intro q b hq
    have:(if q∈ks then none else h q)=some b:=hq
    split at this
    ·cases this
    ·exact ⟨‹_›,b,this, .inl rfl⟩
  have hU:O3 h (ks.map fun k=>(k,none))=hf:=by
    funext q
    show _=if q∈ks then none else h q
    by_cases e:q∈ks
    ·rw [bE e]
     cases hb:O3 h (ks.map fun k=>(k,none)) q with
     |none=>rfl
     |some b=>
      rcases Tl _ _ _ _ hb with ⟨a,_⟩|a
      ·exact absurd (by simp only [List.map_map,List.mem_map,Function.comp];exact ⟨q,e,rfl⟩) a
      ·simp at a
    ·rw [bF e,Cj]
     simp only [List.map_map,List.mem_map,Function.comp]
     rintro ⟨x,hx,rfl⟩
     exact e hx
  have hUU: ∀(a b:List (E6×Option Blk)) (h:D4),O3 h (a++b)=O3 (O3 h a) b:=by
    intro a
    induction a with
    |nil=>intro b h;rfl
    |cons x a ih=>intro b h;obtain ⟨k,c⟩:=x;exact ih b _
  have H1:=HP (ks:=ks) H hff
  have hk:L7 (K1 (P6 h ks) 6) avs=some ds:=by
    rw [← hd']
    refine Nd avs fun q hq=> ?_
    rw [hks]at hq
    show (if q∈ks then h q else none)=h q
    rw [bE hq]
  obtain ⟨l1,l2⟩:=Df hk
  have Hk:=H.sub fun q b hq=>(Et (ks:=ks) hq).1
  refine (hF.2 w (WO I ρ h ks) ρ hf vs H1 (fun q b hq=>by cases hq) (by rw [lQ,← hle.length];omega) (fun i c hc=> ?_) hfr).mono ?_
  ·obtain ⟨d',e1,rfl⟩:=Vf hc
   obtain ⟨d,e2,e3⟩:=hle.get e1
   obtain ⟨x,e4,e5⟩:=l2 i d e2
   exact .d _ _ (e3 _ _ _ (Fv Hk 6 x d _ (hrep i x e4) e5))
  rintro e w' ⟨x,I',ρ',rfl,r1,r2,r3,r4⟩
  rw [hUU,hU]
  exact ⟨x,I',ρ',rfl,r1,r2,(TA hff).trans r3,r4⟩
section
variable {P:Program}{u:Nat}{l:List (Nat×AV)}{g:List (E6×Option Blk)}
end
end Go.Abs
/-! Functions as data: a list of functions, one of which is chosen. -/
namespace Go.Abs
open Go
/-- A function, or none, as data. -/
def fnD:Option Nat→D
  |some f=> .fn (.func f) [] []
  |none=> .v .nilFunc
def YF (l:List (Option Nat))(n:Int):Option Nat:=if 0≤n then (l[n.toNat]?).join else none
/-- One of two functions. -/
theorem Tp {α:Type}{v a:Nat}{x y:Option α}{r:α}(h:cond (Nat.beq v a) x y=some r):v=a∧x=some r∨Nat.beq v a=false∧y=some r:=by
  cases e:Nat.beq v a
  ·rw [e]at h;exact .inr ⟨rfl,h⟩
  ·rw [e]at h;exact .inl ⟨Nat.eq_of_beq_eq_true e,h⟩
end Go.Abs
namespace Go.Abs
open Go
/-- Elements put into a list at a place. -/
def XD {α:Type}(xs:List α)(i:Int)(ys:List α):Option (List α):=if xs.length≠0∧ys.length≠0∧0≤i∧i≤xs.length∧xs.length+ys.length≤1000000000 then some (xs.take i.toNat++ys++xs.drop i.toNat)else none
/-- The contract of slices.Insert at a type, as it is used. -/
def YG (P:Program)(f:FuncId)(e sz:Nat):Prop:= ∀(xs ys:List (List D)) (i:Nat),xs≠ []→ys≠ []→i≤xs.length→xs.length+ys.length≤1000000000→
  MCall P f [.sl (900000,0), .d (.v (.int .i64 i)), .sl (900001,0)] [.arr e sz xs, .arr e sz ys] (.sl (800000,0)) [none,none] [some (.arr e sz (xs.take i++ys++xs.drop i))]
end Go.Abs
/-! Shorter proofs: the resolved code need not be written, chains of equal parts. -/
namespace Go.Abs
open Go
/-- What the conversion finds of a function: where its results lie, and its code. -/
def TB (P:Program)(fn:Func)(N:Nat)(M:Wj):Option (List RV×AC):=
  match fn.results.toList.mapM (Wl P),fn.body with
  |some rs,some c=>match V1 P N M c,fn.name== "runtime.NumGoroutine" with
   |some ac,false=>some (rs,ac)
   |_,_=>none
  |_,_=>none
theorem fk {P:Program}{f:FuncId}{fn:Func}{N:Nat}{rs:List RV}{ac:AC}(h:P.funcs[f]? =some fn)(hn:fn.ntmps=N)(M:Wj)(hc:TB P fn N M=some (rs,ac)):FnOK P f N rs ac:=by
  unfold TB at hc
  split at hc
  ·rename_i rs' c hr hb
   split at hc
   ·rename_i ac' hac hx
    simp only [Option.some.injEq,Prod.mk.injEq]at hc
    obtain ⟨rfl,rfl⟩:=hc
    exact ⟨fn,c,h,hb,hn,hr,⟨M,hac⟩,hx⟩
   ·cases hc
  ·cases hc
def m0:Wj:=fun _=> []
theorem rD {h:D4}{n:Nat}{x:D}{r:List AV}{ds:List D}(h2:L7 (K1 h n) r=some ds):L7 (K1 h n) (.d x::r)=some (x::ds):=O7 D7 h2
theorem ca {x:D}{xs ys:List D}(hx:x.one=true)(h:All2 (fun x y=>DLe x y∧y.one=true) xs ys):All2 (fun x y=>DLe x y∧y.one=true) (x::xs) (x::ys):= .cons ⟨.refl _,hx⟩ h
theorem cz: ∀{xs:List D} (_:xs.all D.one=true),All2 (fun x y=>DLe x y∧y.one=true) xs xs
  | [],_=> .nil
  |_::_,h=>by
   simp only [List.all_cons,bG]at h
   exact ca h.1 (cz h.2)
theorem cv {x:AV}{xs ys:List AV}(h:All2 AVle xs ys):All2 AVle (x::xs) (x::ys):= .cons (.of rfl) h
theorem cw: ∀{xs:List AV},All2 AVle xs xs
  | []=> .nil
  |_::_=>cv cw
abbrev zs (n:Nat):List AV:=List.replicate n (di 0)
theorem sg {g g0:List (E6×Option Blk)}{d u:Nat}{b:Blk}(h:gl g d=some ((d,u),some b))(r:BL (G g) g0):BL (G g) (((d,u),some b)::g0):=A2 (gq h) (.of rfl) r
end Go.Abs
/-! Arrays of values, indexed by what is only known as the program runs. -/
namespace Go.Abs
open Go
def NJ {α:Type}(xs:List α)(n:Int)(a:α):Option (List α):=if 0≤n∧n.toNat<xs.length then some (xs.set n.toNat a)else none
theorem Zl {α:Type}{xs v:List α}{n:Int}{a:α}(h:NJ xs n a=some v):(0≤n∧n.toNat<xs.length)∧v=xs.set n.toNat a:=by
  unfold NJ at h
  split at h
  ·exact ⟨‹_›,(lC h).symm⟩
  ·cases h
theorem HS {α:Type}{xs:List α}{n:Int}{a:α}(h:F6 xs n=some a):0≤n∧n.toNat<xs.length∧xs[n.toNat]? =some a:=by
  unfold F6 at h
  split at h
  ·exact ⟨‹_›,(lH.1 h).1,h⟩
  ·cases h
theorem DH {α:Type}{f:α→List D}{sz:Nat}(hs: ∀x,(f x).length=sz): ∀{xs:List α} {i:Nat} {a:α},xs[i]? =some a→(((xs.map f).flatten).drop (i*sz)).take sz=f a∧(i+1)*sz≤((xs.map f).flatten).length
  | [],_,_,h=>by simp at h
  |x::r,0,a,h=>by
   simp only [List.getElem?_cons_zero,Option.some.injEq]at h
   subst h
   simp only [lP,List.flatten_cons,Nat.zero_mul,List.drop_zero,bU,Nat.one_mul,lK,hs]
   refine ⟨?_,by omega⟩
   rw [← hs x,List.take_left]
  |x::r,i+1,a,h=>by
   simp only [List.getElem?_cons_succ]at h
   obtain ⟨h1,h2⟩:=DH hs h
   simp only [lP,List.flatten_cons,lK,hs]
   rw [Nat.succ_mul i sz,Nat.add_comm (i*sz) sz,← hs x,List.drop_append,hs x]
   simp only [Nat.add_sub_cancel_left]
   rw [List.drop_eq_nil_of_le (by rw [hs x];omega),lO]
   exact ⟨h1,by rw [Nat.succ_mul (i+1) sz];omega⟩
section
variable {t:Nat→AV}{h:D4}
theorem Sk {α:Type}{len sz:Nat}{x i:Opd}{k:E6}{off:Nat}{kd:IntKind}{n:Int}{xs:List α}{a:α}(hx:ev t x= .ptr k off)(hi:ev t i= .d (.v (.int kd n)))(hv:F6 xs n=some a)(hl:xs.length=len):G5 t h (.idxP len sz x i)=some (.ptr k (off+n.toNat*sz)):=by
  obtain ⟨h0,h1,_⟩:=HS hv
  simp only [G5,hx,hi]
  rw [bE ⟨h0,hl▸h1⟩]
theorem NK {α:Type}{sz off:Nat}{bs:List AV}{n:Int}{xs:List α}{a:α}{f:α→List D}(hs: ∀x,(f x).length=sz)(hv:F6 xs n=some a)(hb:(bs.drop off).take (xs.length*sz)=((xs.map f).flatten).map AV.d):
    sz≤(bs.drop (off+n.toNat*sz)).length∧(bs.drop (off+n.toNat*sz)).take sz=(f a).map .d:=by
  obtain ⟨h0,h1,h2⟩:=HS hv
  obtain ⟨g1,g2⟩:=DH hs h2
  have hlen:=congrArg List.length hb
  rw [lQ,lT,lU]at hlen
  rw [bT,Nat.one_mul]at g2
  have hle:((xs.map f).flatten).length≤xs.length*sz:=by omega
  have hge:(n.toNat+1)*sz≤xs.length*sz:=Nat.mul_le_mul_right _ h1
  rw [bT,Nat.one_mul]at hge
  refine ⟨by rw [lU];omega,?_⟩
  have:(((bs.drop off).take (xs.length*sz)).drop (n.toNat*sz)).take sz=((((xs.map f).flatten).map AV.d).drop (n.toNat*sz)).take sz:=by rw [hb]
  rw [List.drop_take,List.take_take,List.drop_drop,← List.map_drop,← List.map_take,g1,Nat.min_eq_left (by omega)]at this
  exact this
theorem NL {α:Type}{sz off:Nat}{p:Opd}{k:E6}{ty:TypeId}{bs:List AV}{n:Int}{xs:List α}{a:α}{f:α→List D}{v:AV}(hp:ev t p= .ptr k (off+n.toNat*sz))(hb:h k=some (.box ty bs))(hv:F6 xs n=some a)(hs: ∀x,(f x).length=sz)(hc:(bs.drop off).take (xs.length*sz)=((xs.map f).flatten).map AV.d)(hr:Dm ((f a).map .d)=v):G5 t h (.load sz true p)=some v:=by
  obtain ⟨h1,h2⟩:=NK hs hv hc
  simp only [G5,hp,T0,hb,if_true,h1,h2,hr]
theorem Wv {α:Type}{off:Nat}{p:Opd}{k:E6}{ty:TypeId}{bs:List AV}{n:Int}{xs:List α}{a:α}{f:α→D}(hp:ev t p= .ptr k (off+n.toNat*1))(hb:h k=some (.box ty bs))(hv:F6 xs n=some a)(hc:(bs.drop off).take (xs.length*1)=((xs.map fun x=> [f x]).flatten).map AV.d):G5 t h (.load 1 false p)=some (.d (f a)):=by
  obtain ⟨h1,h2⟩:=NK (f:=fun x=> [f x]) (fun _=>rfl) hv hc
  simp only [G5,hp,T0,hb,Bool.false_eq_true,if_false]
  cases hd:bs.drop (off+n.toNat*1)with
  |nil=>rw [hd]at h2;cases h2
  |cons x r=>rw [hd]at h2;simp only [List.take_succ_cons,List.take_zero,lP,List.map_nil,List.cons.injEq,and_true]at h2;rw [h2];rfl
end
theorem WR {α:Type}{xs v:List α}{n:Int}{a:α}{bs:List AV}(h:NJ xs n a=some v)(e:bs.length=xs.length):0+n.toNat*1+1≤bs.length:=by
  have:=(Zl h).1
  omega
theorem NM {α:Type}(v:List α)(z:α):(List.range v.length).map (fun j=>v.getD j z)=v:=by
  apply List.ext_getElem?
  intro i
  rw [lI]
  by_cases h:i<v.length
  ·simp [h]
  ·simp [h]
theorem UY {α:Type}{xs v:List α}{n:Int}{a:α}(g:α→D)(z:α)(h:NJ xs n a=some v):Eb (xs.map fun x=>AV.d (g x)) (0+n.toNat*1) [AV.d (g a)]=(List.range xs.length).map fun j=>AV.d (g (v.getD j z)):=by
  obtain ⟨⟨h0,h1⟩,rfl⟩:=Zl h
  have e:xs.length=(xs.set n.toNat a).length:=by rw [List.length_set]
  rw [e,show (fun j=>AV.d (g ((xs.set n.toNat a).getD j z)))=(fun x=>AV.d (g x))∘fun j=>(xs.set n.toNat a).getD j z from rfl,← List.map_map,NM]
  simp only [Eb,bU,Nat.mul_one]
  rw [List.map_set]
theorem DI {P:Program}{u:Nat}{r:List AOp}{l:List (Nat×AV)}{g:List (E6×Option Blk)}{K:(Nat→AV)→D4→List (List E6×List E6)→Prop}{α:Type}{n off sz:Nat}{p x:Opd}(f:α→List D)(q:E6)(ty:TypeId)(xs:List α)(i:Int)(a b:α)(ds:List D)(hx:Fo (ev (T l) x)=some (ds.map .d))(hn:ds.length=n)(hp:ev (T l) p= .aptr q sz i.toNat off)(hb:G g q=some (.arr ty sz (xs.map f)))(ha:F6 xs i=some a)
    (hl:off+n≤(f a).length) (he:Eb (f a) off ds=f b) (hk:Lx P u r (T l) (G ((q,some (.arr ty sz ((Ti xs i b).map f)))::g)) fun t' h' tr=>K t' h' ((Ao (T l) (G g) (.store n p x),[q])::tr)):Lx P u (⟨none, .store n p x,none⟩::r) (T l) (G g) K:=by
  unfold Lx
  have h1:(ds.map AV.d).length=n:=by simpa using hn
  have h2:(xs.map f).set i.toNat (f b)=(Ti xs i b).map f:=by rw [Ti,List.map_set]
  simp only [gW,Ye,Eo,hx,h1,if_true,hp,hb,(Mo (f:=f) ha).2.2,Sg ds,hl,and_self,he,h2]
  exact hk
def UZ (k:IntKind)(a b:Int):Option Int:=if b<0 then none else some (k.wrap (a*2^ (min b.toNat k.bits)))
def Ma (k:IntKind)(a b:Int):Option Int:=if b<0 then none else some (a.fdiv (2^ (min b.toNat k.bits)))
theorem WS {t:Nat→AV}{h:D4}{x y:Opd}{k k':IntKind}{a b v:Int}(hx:ev t x= .d (.v (.int k a)))(hy:ev t y= .d (.v (.int k' b)))(hv:UZ k a b=some v):G5 t h (.bin .shl x y)=some (.d (.v (.int k v))):=by
  unfold UZ at hv
  split at hv
  ·cases hv
  ·rename_i h1;cases hv;simp only [G5,hx,hy,My,Bool.true_or,if_true,Yb,bF h1,lE]
theorem Jo {t:Nat→AV}{h:D4}{x y:Opd}{k k':IntKind}{a b v:Int}(hx:ev t x= .d (.v (.int k a)))(hy:ev t y= .d (.v (.int k' b)))(hv:Ma k a b=some v):G5 t h (.bin .shr x y)=some (.d (.v (.int k v))):=by
  unfold Ma at hv
  split at hv
  ·cases hv
  ·rename_i h1;cases hv;simp only [G5,hx,hy,My,Bool.true_or,if_true,Yb,bF h1,lE]
end Go.Abs
namespace Go.Abs
open Go
section
variable {P:Program}
end
end Go.Abs
/-! Any number of elements, appended in a region that draws its order. -/
namespace Go.Abs
open Go
section
variable {P:Program}{u:Nat}{r:List AOp}{l:List (Nat×AV)}{g:List (E6×Option Blk)}
end
end Go.Abs
/-! Strings. -/
namespace Go.Abs
open Go
def YH (s:ByteArray)(i:Int):Option Int:=if 0≤i then (s.data.toList[i.toNat]?).map fun b=>(b.toNat:Int)else none
def NN (a b:ByteArray):Option ByteArray:=if a.size+b.size≤1000000000 then some (a++b)else none
def Ww (s:ByteArray)(i j:Int):Option ByteArray:=if 0≤i∧i≤j∧j≤s.size then some (s.extract i.toNat j.toNat)else none
section
variable {t:Nat→AV}{h:D4}{x y z:Opd}{s s' v:ByteArray}{k k':IntKind}{i j:Int}
theorem Ri (hx:ev t x= .d (.v (.string s))):G5 t h (.str .len [x])=some (.d (.v (.int .i64 s.size))):=by
  simp only [G5,lP,List.map_nil,hx,Gs]
theorem VA (hx:ev t x= .d (.v (.string s)))(hy:ev t y= .d (.v (.string s')))(hv:NN s s'=some v):G5 t h (.str .cat [x,y])=some (.d (.v (.string v))):=by
  unfold NN at hv
  split at hv
  ·rename_i h0
   cases hv
   simp only [G5,lP,List.map_nil,hx,hy,Gs,h0,if_true]
  ·cases hv
theorem HT {neg:Bool}(hx:ev t x= .d (.v (.string s)))(hy:ev t y= .d (.v (.string s'))):G5 t h (.str (.eq neg) [x,y])=some (.d (.v (.bool (if neg then !(s.toList==s'.toList)else s.toList==s'.toList)))):=by
  simp only [G5,lP,List.map_nil,hx,hy,Gs]
theorem HU (hx:ev t x= .d (.v (.string s)))(hy:ev t y= .d (.v (.int k i)))(hv:Ww s i s.size=some v):G5 t h (.str (.sl true false) [x,y])=some (.d (.v (.string v))):=by
  unfold Ww at hv
  split at hv
  ·rename_i h0
   cases hv
   simp only [G5,lP,List.map_nil,hx,hy,Gs]
   rw [bE ⟨h0.1,h0.2.1⟩];rfl
  ·cases hv
theorem AX (hx:ev t x= .d (.v (.string s)))(hy:ev t y= .d (.v (.int k j)))(hv:Ww s 0 j=some v):G5 t h (.str (.sl false true) [x,y])=some (.d (.v (.string v))):=by
  unfold Ww at hv
  split at hv
  ·rename_i h0
   cases hv
   simp only [G5,lP,List.map_nil,hx,hy,Gs]
   rw [bE ⟨h0.2.1,h0.2.2⟩];rfl
  ·cases hv
end
end Go.Abs
/-! A list that may be empty: the two cases. -/
namespace Go.Abs
open Go
/-- Runs of equal numbers become one. -/
def GA:List Int→List Int
  | []=> []
  | [x]=> [x]
  |x::y::r=>cond (x==y) (GA (y::r)) (x::GA (y::r))
def WT (p:List Int):Option (List Int):=match p with
  | []=>none
  |x::r=>some (GA (x::r))
end Go.Abs
/-! Calls whose code is run in place: what is the run's own is shared with them. -/
namespace Go.Abs
open Go
section
variable {P:Program}{u:Nat}{r:List AOp}{l:List (Nat×AV)}{g:List (E6×Option Blk)}{K:(Nat→AV)→D4→Prop}
/-- What the code that is run in place has to leave. -/
def WU {γ:Type}(rs:List RV)(J:AV→γ→List (Nat×AV)×List (E6×Option Blk)→Prop)(l1:γ→List (Nat×AV))(g1:γ→List (E6×Option Blk))(e:Ex)(s:St):Prop:=
  (e= .nrm∨e= .ret)∧∃v gg,JA s.t s.h rs=some v∧J v gg (l1 gg,g1 gg)∧BL s.h (g1 gg)
def WV {γ:Type}(t:AV→Nat→AV)(v:AV)(_:γ)(x:List (Nat×AV)×List (E6×Option Blk)):Prop:=VU (t v) x.1
theorem Ee {dst:Option Nat}{f:Opd}{args:List Opd}{fid:FuncId}{avs:List AV}{rs:List RV}{ac:AC}{N:Nat}{γ:Type}(F:FnOK P fid N rs ac)(l1:γ→List (Nat×AV))(g1:γ→List (E6×Option Blk))
    (hc:R2 (T l) f args=some (fid,avs)) (hl:avs.length≤N)
    (hb:Ea P N none [.c ac] (WU rs (WV fun v=>Lv (T l) dst v) l1 g1) .nrm ⟨T (Rf avs 0),G g⟩)
    (hk: ∀gg u',(∀q,G (g1 gg) q≠none→q.2≠u')→J6 P u' r (T (l1 gg)) (G (g1 gg)) K):J6 P u (⟨dst, .icall f args,none⟩::r) (T l) (G g) K:=by
  unfold J6
  simp only [gW]
  unfold Tf
  have hI:ICall P fid avs (G g) fun v h'=> ∀u',(∀q,h' q≠none→q.2≠u')→∃s0,Sb s0 ⟨Lv (T l) dst v,h'⟩∧J6 P u' r s0.t s0.h K:=by
    refine CT F hl ?_
    rw [HN]
    refine AW.mono hb ?_
    rintro e s ⟨he,v,gg,hv,hj,hs⟩
    refine ⟨he,v,hv,fun u' hu'=> ?_⟩
    have S:Sb ⟨T (l1 gg),G (g1 gg)⟩ ⟨Lv (T l) dst v,s.h⟩:=B8 hj hs
    exact ⟨_,S,hk gg u' (S.fresh hu')⟩
  split
  ·rename_i q hq
   exfalso
   simp [R2,hq]at hc
  ·rw [hc];exact hI
theorem GB {l0:List (Nat×AV)}{g0:List (E6×Option Blk)}{s:St}(S:Sb ⟨T l0,G g0⟩ s): ∀{g1:List (E6×Option Blk)},BL (G g0) g1→BL s.h g1
  | [],_=>trivial
  |(k,none)::_,h=>⟨trivial,GB S h.2⟩
  |(k,some b0)::_,h=>by
   obtain ⟨b1,e1,e2⟩:=h.1
   obtain ⟨b,e3,e4⟩:=S.h k b1 e1
   exact ⟨⟨b,e3,e4.trans e2⟩,GB S h.2⟩
/-- The same behind a join. -/
theorem Y2 {γ:Type}{l1:γ→List (Nat×AV)}{g1:γ→List (E6×Option Blk)}{dst:Option Nat}{e:Ex}{s:St}{l0:List (Nat×AV)}{g0:List (E6×Option Blk)}(S:Sb ⟨T l0,G g0⟩ s)(he:e= .nrm∨e= .ret)(gg:γ)(ht:VU (Lv (T l) dst (.tup [])) (l1 gg))(hg:BL (G g0) (g1 gg)):
    WU [] (WV fun v=>Lv (T l) dst v) l1 g1 e s:=⟨he, .tup [],gg,rfl,ht,GB S hg⟩
end
end Go.Abs
/-! Ranges over a function that looks at what is the run's own. -/
namespace Go.Abs
open Go
section
variable {P:Program}{N:Nat}{rk:Option E6}{s:St}{Q:Ex→St→Prop}{r:List It}
/-- Such a function: as long as the blocks hold what it looks at, it hands on the elements, one after the other. -/
def XT (P:Program)(c:AV)(Rq:D4→Prop)(L:List (List D)):Prop:= ∃gf fs cs,MK c=some (gf,fs,cs)∧∀(k:E6) (h0:D4) (Inv:Nat→D4→Prop) (Stop:D4→Prop),Inv 0 h0→(∀i h,Inv i h→∃h1,Sb ⟨T [],h1⟩ ⟨T [],h⟩∧Inv i h1∧Rq h1)→
  (∀i h es,L[i]? =some es→Inv i h→YCall P k (es.map .d) h fun v h'=>(v= .d (.v (.bool true))∧Inv (i+1) h')∨(v= .d (.v (.bool false))∧Stop h'))→
   ICall P gf (fs++ [.yld k]++cs) h0 fun _ h'=>Inv L.length h'∨Stop h'
end
section
variable {P:Program}{u:Nat}{r:List AOp}{t:Nat→AV}{h:D4}{K:(Nat→AV)→D4→Prop}
end
section
variable {P:Program}{N:Nat}{rk:Option E6}{s:St}{Q:Ex→St→Prop}{r:List It}
end
end Go.Abs
/-! Slices of the run's own that may hold nothing and yet not be nil. -/
namespace Go.Abs
open Go
/-- A slice of the run's own; b: it is not nil, though it may hold nothing. -/
def oW {α:Type}(b:Bool)(xs:List α)(k:E6):AV:=match xs with
  | []=>cond b (.sl k) (.d .nilS)
  |_=> .sl k
def wB {α:Type}(b:Bool)(ty:TypeId)(sz:Nat)(f:α→List D)(xs:List α):Option Blk:=match xs with
  | []=>cond b (some (.arr ty sz [])) none
  |_=>some (.arr ty sz (xs.map f))
section
variable {α:Type}{b:Bool}{xs:List α}{k:E6}{ty:TypeId}{sz:Nat}{f:α→List D}{h:D4}
def wD (b:Bool)(f:α→List D)(xs:List α):D:=cond b (.list (xs.map f)) (oD f xs)
end
section
variable {P:Program}{u:Nat}{r:List AOp}{l:List (Nat×AV)}{g:List (E6×Option Blk)}
end
/-- How much a slice is grown by. -/
def XU (n:Int):Option Unit:=if 0≤n∧n≤1000000 then some ()else none
end Go.Abs
/-! Slices of one's own slices; a row of a table, added, dropped or changed. -/
namespace Go.Abs
open Go
section
variable {P:Program}{N:Nat}{rk:Option E6}{s:St}{Q:Ex→St→Prop}
end
section
variable {P:Program}{N:Nat}{rk:Option E6}{r:List It}{Q:Ex→St→Prop}{l:List (Nat×AV)}{g:List (E6×Option Blk)}
end
section
variable {P:Program}{u:Nat}{r:List AOp}{l:List (Nat×AV)}{g:List (E6×Option Blk)}
end
/-- What an edit makes of the rows of a table. -/
def TC {α:Type}(kind i:Int)(xs:List α)(v:α):Option (List α×Bool):=
  cond ((kind==1)&& (i==(xs.length:Int))) ((Bx xs [v]).bind fun l=>some (l,true))
    (cond (((kind==2)&&decide ((xs.length:Int)>0))&& (i==I4 ((xs.length:Int) - 1))) ((CX xs 0 i).bind fun l=>some (l,true))
      (cond (((kind==3)&&decide (i≥0))&&decide (i< (xs.length:Int))) ((F6 xs i).bind fun _=>some (Ti xs i v,true)) (some (xs,false))))
def wb {α:Type}(b:Bool)(xs:List α):Bool:=b|| !xs.isEmpty
structure EditC (P:Program)(f:FuncId)(e sz:Nat){α β:Type}(E:α→List D)(B:β→List D)(kd at_:β→Int):Prop where
  m: ∀(xs zs:List α) (x:β) (v:α) (ok:Bool),TC (kd x) (at_ x) xs v=some (zs,ok)→MCall P f [.sl (900000,0), .d (.agg (B x)), .d (.agg (E v))] [.arr e sz (xs.map E)] (.tup [.sl (800000,0), .d (bo ok)]) [none] [some (.arr e sz (zs.map E))]
  n: ∀(zs:List α) (x:β) (v:α) (ok:Bool),TC (kd x) (at_ x) [] v=some (zs,ok)→MCall P f [.d .nilS, .d (.agg (B x)), .d (.agg (E v))] [] (.tup [oS zs (800000,0), .d (bo ok)]) [] [oB e sz E zs]
section
variable {P:Program}{u:Nat}{r:List AOp}{l:List (Nat×AV)}{g:List (E6×Option Blk)}
end
end Go.Abs
/-! Strings of bytes. -/
namespace Go.Abs
open Go
theorem Wx: ∀(xs:List Int),Mz (xs.map fun x=> [D.v (Value.int .u8 x)])=some xs
  | []=>rfl
  |x::r=>by rw [lP,Mz,Wx r];rfl
section
variable {t:Nat→AV}{h:D4}{x:Opd}
theorem NO {xs:List Int}(hx:ev t x= .d (.list (xs.map fun x=> [D.v (Value.int .u8 x)]))):G5 t h (.str .ofb [x])=some (.d (.v (.string (K5 xs)))):=by
  simp only [G5,lP,List.map_nil,hx,Gs,Wx,lE]
theorem NP {s:ByteArray}(hx:ev t x= .d (.v (.string s))):G5 t h (.dbytes x)=some (.d (.list ((Z0 s).map fun x=> [D.v (Value.int .u8 x)]))):=by
  simp only [G5,hx]
theorem RG {α:Type}{f:α→List D}{k:E6}{sz:Nat}{xs:List α}(hx:ev t x= .sl k)(hk:h k=some (.arr 5 sz (xs.map f)))(he:xs≠ []):G5 t h (.bmark x)=some (.sl k):=by
  cases xs with
  |nil=>exact absurd rfl he
  |cons e r=>simp only [G5,hx,hk,lP,bE]
theorem VB {y:Opd}{s s':ByteArray}(hx:ev t x= .d (.v (.string s)))(hy:ev t y= .d (.v (.string s'))):G5 t h (.str (.eq false) [x,y])=some (.d (.v (.bool (s.toList==s'.toList)))):=HT (neg:=false) hx hy
theorem NQ {y:Opd}{s s':ByteArray}(hx:ev t x= .d (.v (.string s)))(hy:ev t y= .d (.v (.string s'))):G5 t h (.str (.eq true) [x,y])=some (.d (.v (.bool (!(s.toList==s'.toList))))):=HT (neg:=true) hx hy
end
end Go.Abs
