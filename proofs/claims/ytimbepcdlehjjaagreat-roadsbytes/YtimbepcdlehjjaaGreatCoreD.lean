/-
  An abstract layer over the machine, fourth part: contracts that alter what is handed in; functions that can be computed.
-/
import Derived.Test.YtimbepcdlehjjaaGreatCoreC
namespace Go.Abs
open Go
/-! ### Contracts of functions that alter what is handed to them, or hand out what is their own -/
/-- The key of the i-th block that is handed in; of the j-th that is handed out. -/
def Co (i:Nat):F4:=(900000+i,0)
def XD (j:Nat):F4:=(800000+j,0)
def Z5 (ko kn:Nat→F4)(q:F4):F4:=cond (Nat.ble 900000 q.1) (ko (q.1 - 900000)) (kn (q.1 - 800000))
def NV (n m:Nat)(q:F4):Bool:=q.2==0&& (Nat.ble 900000 q.1&&Nat.blt (q.1 - 900000) n||Nat.ble 800000 q.1&& !Nat.ble 900000 q.1&&Nat.blt (q.1 - 800000) m)
theorem RI {n m:Nat}{q:F4}(h:NV n m q=true):(∃i,i<n∧q=Co i)∨∃j,j<m∧j<100000∧q=XD j:=by
  obtain ⟨a,b⟩:=q
  simp only [NV,bE,bF,bK,Nat.ble_eq,Nat.blt_eq,Bool.not_eq_true',bJ,ne_eq]at h
  obtain ⟨rfl,h|h⟩:=h
  ·exact .inl ⟨a - 900000,h.2,by simp only [Co,Prod.mk.injEq,and_true];omega⟩
  ·exact .inr ⟨a - 800000,h.2,by omega,by simp only [XD,Prod.mk.injEq,and_true];omega⟩
theorem MB (ko kn:Nat→F4)(i:Nat):Z5 ko kn (Co i)=ko i:=by
  simp only [Z5,Co]
  rw [show Nat.ble 900000 (900000+i)=true by simp,l9,Nat.add_sub_cancel_left]
theorem XE (ko kn:Nat→F4){j:Nat}(h:j<100000):Z5 ko kn (XD j)=kn j:=by
  simp only [Z5,XD]
  rw [show Nat.ble 900000 (800000+j)=false by rw [bJ,ne_eq,Nat.ble_eq];omega,bA,Nat.add_sub_cancel_left]
theorem MC {i j:Nat}(h:Co i=Co j):i=j:=by simp only [Co,Prod.mk.injEq]at h;omega
def GO (f:F4→F4):AV→AV
  | .ptr k o=> .ptr (f k) o
  | .sl k=> .sl (f k)
  |x=>x
def GP (f:F4→F4):AV→AV
  | .agg cs=> .agg (cs.map (GO f))
  | .fn g fs cs=> .fn g (fs.map (GO f)) (cs.map (GO f))
  |x=>GO f x
def MD (f:F4→F4):AV→AV
  | .tup cs=> .tup (cs.map (GP f))
  |x=>GP f x
def cH (p:F4→Bool):AV→Bool
  | .ptr k _=>p k
  | .sl k=>p k
  | .d _=>true
  | .any=>true
  |_=>false
def gD (p:F4→Bool):AV→Bool
  | .agg cs=>cs.all (cH p)
  | .fn _ fs cs=>fs.all (cH p)&&cs.all (cH p)
  |x=>cH p x
def jW (p:F4→Bool):AV→Bool
  | .tup cs=>cs.all (gD p)
  |x=>gD p x
def Jq (f:F4→F4):Blk→Blk
  | .box ty cs=> .box ty (cs.map (GO f))
  |b=>b
def iH (p:F4→Bool):Blk→Bool
  | .box _ cs=>cs.all (cH p)
  | .arr _ _ _=>true
  | .obj _ _=>false
  | .mp _=>true
section
variable {w:World}{I:Nat→Prop}{ρ ρ':Rho}{p:F4→Bool}{f g:F4→F4}
theorem Zj {α β:Type}{q:α→Bool}{l:List α}{h:α→β}{i:Nat}{c:β}(ha:l.all q=true)(hc:(l.map h)[i]? =some c): ∃x,q x=true∧l[i]? =some x∧h x=c:=by
  obtain ⟨x,hx,e⟩:=DF hc
  exact ⟨x,lX.1 ha x (lF hx),hx,e⟩
theorem Qc {α β:Type}{h:α→β}{l:List α}{i:Nat}{x:α}(hx:l[i]? =some x):(l.map h)[i]? =some (h x):=by rw [lI,hx];rfl
theorem ZU {x:AV}{v:Value}(hp:cH p x=true)(h:RepV w I ρ (GO f x) v)(hk: ∀q y,p q=true→ρ (f q)=some y→ρ' (g q)=some y):RepV w I ρ' (GO g x) v:=by
  cases x with
  |ptr k o=>cases h with|ptr _ _ b h=>exact .ptr _ _ _ (hk k _ hp h)
  |sl k=>cases h with|sl _ _ h=>exact .sl _ _ (hk k _ hp h)
  |d y=>cases h with|d _ _ h=>exact .d _ _ h
  |any=>exact .any _
  |_=>simp [cH]at hp
theorem ZV {x:AV}{v:Value}(hp:gD p x=true)(h:RepV w I ρ (GP f x) v)(hk: ∀q y,p q=true→ρ (f q)=some y→ρ' (g q)=some y):RepV w I ρ' (GP g x) v:=by
  cases x with
  |agg cs=>
   cases h with
   |agg _ vs hl hone hr=>
    refine .agg _ vs (by simpa using hl) (fun i hi=>hone i (by simpa using hi)) (fun i c hc=> ?_)
    obtain ⟨x,h1,h2,rfl⟩:=Zj hp hc
    exact ZU h1 (hr i _ (Qc h2)) hk
  |fn q fs cs=>
   simp only [gD,bE]at hp
   cases h with
   |fn _ _ _ vfs vcs hl hl' hr hr'=>
    refine .fn _ _ _ vfs vcs (by simpa using hl) (by simpa using hl') (fun i c hc=> ?_) (fun i c hc=> ?_)
    ·obtain ⟨x,h1,h2,rfl⟩:=Zj hp.1 hc
     exact ZU h1 (hr i _ (Qc h2)) hk
    ·obtain ⟨x,h1,h2,rfl⟩:=Zj hp.2 hc
     exact ZU h1 (hr' i _ (Qc h2)) hk
  |any=>exact ZU (p:=p) (f:=f) (x:= .any) hp h hk
  |d y=>exact ZU (p:=p) (f:=f) (x:= .d y) hp h hk
  |ptr k o=>exact ZU (p:=p) (f:=f) (x:= .ptr k o) hp h hk
  |sl k=>exact ZU (p:=p) (f:=f) (x:= .sl k) hp h hk
  |aptr k a b c=>exact ZU (p:=p) (f:=f) (x:= .aptr k a b c) hp h hk
  |yld k=>exact ZU (p:=p) (f:=f) (x:= .yld k) hp h hk
  |tup cs=>simp [gD,cH]at hp
theorem mB {x:AV}{v:Value}(hp:jW p x=true)(h:RepV w I ρ (MD f x) v)(hk: ∀q y,p q=true→ρ (f q)=some y→ρ' (g q)=some y):RepV w I ρ' (MD g x) v:=by
  cases x with
  |tup cs=>
   cases h with
   |tup _ vs hl hr=>
    refine .tup _ vs (by simpa using hl) (fun i c hc=> ?_)
    obtain ⟨x,h1,h2,rfl⟩:=Zj hp hc
    exact ZV h1 (hr i _ (Qc h2)) hk
  |any=>exact ZV (p:=p) (f:=f) (x:= .any) hp h hk
  |d y=>exact ZV (p:=p) (f:=f) (x:= .d y) hp h hk
  |ptr k o=>exact ZV (p:=p) (f:=f) (x:= .ptr k o) hp h hk
  |sl k=>exact ZV (p:=p) (f:=f) (x:= .sl k) hp h hk
  |aptr k a b c=>exact ZV (p:=p) (f:=f) (x:= .aptr k a b c) hp h hk
  |yld k=>exact ZV (p:=p) (f:=f) (x:= .yld k) hp h hk
  |agg cs=>exact ZV (p:=p) (f:=f) (x:= .agg cs) hp h hk
  |fn a b c=>exact ZV (p:=p) (f:=f) (x:= .fn a b c) hp h hk
theorem kQ {b:Blk}{k k':F4}(hp:iH p b=true)(h:BlkOK w I ρ k (Jq f b))(hkk: ∀y,ρ k=some y→ρ' k'=some y)(hk: ∀q y,p q=true→ρ (f q)=some y→ρ' (g q)=some y):BlkOK w I ρ' k' (Jq g b):=by
  cases b with
  |box ty cs=>
   obtain ⟨b,vs,h1,h2,h3,h4,h5⟩:=h
   refine ⟨b,vs,hkk _ h1,h2,by simpa using h3,h4,fun i c hc=> ?_⟩
   obtain ⟨x,g1,g2,rfl⟩:=Zj hp hc
   exact ZU g1 (h5 i _ (Qc g2)) hk
  |arr ty sz es=>obtain ⟨x,xs,h1,h2⟩:=h;exact ⟨x,xs,hkk _ h1,h2⟩
  |mp ks=>obtain ⟨g,es,clock,h1,h2⟩:=h;exact ⟨g,es,clock,hkk _ h1,h2⟩
  |obj=>simp [iH]at hp
theorem cI (x:AV):GO id x=x:=by cases x<;>rfl
theorem ME:GO id=id:=funext cI
theorem cJ (x:AV):GP id x=x:=by
  cases x<;>simp only [GP,ME,List.map_id]
  all_goals rfl
theorem cK (b:Blk):Jq id b=b:=by cases b<;>simp only [Jq,ME,List.map_id]
theorem Bw {k:F4}(b:Blk):M7 ρ k (Jq f b)=M7 ρ k b:=by cases b<;>rfl
theorem Ko {k k':F4}(b:Blk)(h:ρ' k'=ρ k):M7 ρ' k' b=M7 ρ k b:=by cases b<;>simp [M7,h]
end
def Wz:Nat→List Blk→List (F4×Option Blk)
  |_,[]=> []
  |i,b::r=>(Co i,some b)::Wz (i+1) r
theorem MF: ∀{l:List Blk} {i:Nat} {q:F4} {b:Blk},G (Wz i l) q=some b→∃j,q=Co (i+j)∧l[j]? =some b
  | [],i,q,b,h=>by cases h
  |x::r,i,q,b,h=>by
   rw [Wz,G]at h
   by_cases e:q=Co i
   ·rw [bB e]at h;cases h;exact ⟨0,e,rfl⟩
   ·rw [bC e]at h
    obtain ⟨j,h1,h2⟩:=MF h
    exact ⟨j+1,by rw [h1];congr 1;omega,by simpa using h2⟩
def eJ (avs:List AV)(pre:List Blk)(v:AV)(post:List (Option Blk))(new:List (Option Blk)):Bool:=
  post.length==pre.length&&Nat.ble new.length 6&&avs.all (gD (NV pre.length 0))&&pre.all (iH (NV pre.length 0))&&jW (NV pre.length new.length) v&&post.all (fun b=>match b with|some b=>iH (NV pre.length new.length) b|none=>true)&&new.all (fun b=>match b with|some b=>iH (NV pre.length new.length) b|none=>true)
def CC (n:Nat)(v:AV)(post:List (Option Blk))(new:List (Option Blk))(v':AV)(h':E8):Prop:=
  ∃σ:Nat→F4,v'=MD (Z5 Co σ) v∧(∀i b,post[i]? =some (some b)→h' (Co i)=some (Jq (Z5 Co σ) b))∧(∀j b,new[j]? =some (some b)→h' (σ j)=some (Jq (Z5 Co σ) b))∧
   (∀j,j<new.length→∀i,i<n→σ j≠Co i)∧∀j j',j<new.length→j'<new.length→σ j=σ j'→j=j'
/-- Called with these values, where the blocks that are handed in hold this, the function returns the value, and the blocks hold that; the new ones are the caller's. -/
structure MCall (P:Program)(f:FuncId)(avs:List AV)(pre:List Blk)(v:AV)(post:List (Option Blk))(new:List (Option Blk)):Prop where
  ok:eJ avs pre v post new=true
  call:ICall P f avs (G (Wz 0 pre)) (CC pre.length v post new)
def Rg (κ:Nat→F4)(f:F4→F4):Nat→List (Option Blk)→List (F4×Option Blk)
  |_,[]=> []
  |i,b::r=>(κ i,b.map (Jq f))::Rg κ f (i+1) r
def Vq (u S:Nat)(f:F4→F4):Nat→List (Option Blk)→List (F4×Option Blk)
  |_,[]=> []
  |j,b::r=>((S+j,u),b.map (Jq f))::Vq u S f (j+1) r
theorem EV {κ:Nat→F4}{f:F4→F4}: ∀{l:List (Option Blk)} {i:Nat} {x:F4×Option Blk},x∈Rg κ f i l→∃j b,l[j]? =some b∧x=(κ (i+j),b.map (Jq f))
  | [],i,x,h=>by simp [Rg]at h
  |b::r,i,x,h=>by
   rw [Rg,lS]at h
   rcases h with rfl|h
   ·exact ⟨0,b,rfl,rfl⟩
   ·obtain ⟨j,b',h1,rfl⟩:=EV h
    exact ⟨j+1,b',by simpa using h1,by rw [show i+ (j+1)=i+1+j by omega]⟩
theorem EW {u S:Nat}{f:F4→F4}: ∀{l:List (Option Blk)} {i:Nat} {x:F4×Option Blk},x∈Vq u S f i l→∃j b,l[j]? =some b∧x=((S+ (i+j),u),b.map (Jq f))
  | [],i,x,h=>by simp [Vq]at h
  |b::r,i,x,h=>by
   rw [Vq,lS]at h
   rcases h with rfl|h
   ·exact ⟨0,b,rfl,rfl⟩
   ·obtain ⟨j,b',h1,rfl⟩:=EW h
    exact ⟨j+1,b',by simpa using h1,by rw [show i+ (j+1)=i+1+j by omega]⟩
theorem AZ: ∀(ups:List (F4×Option Blk)) (h:E8) (q:F4) (b:Option Blk),O9 h ups q=b→(q∉ups.map (·.1)∧h q=b)∨(q,b)∈ups
  | [],h,q,b,hb=> .inl ⟨by simp,hb⟩
  |(k,c)::r,h,q,b,hb=>by
   rw [O9]at hb
   rcases AZ r _ q b hb with ⟨h1,h2⟩|h1
   ·by_cases e:q=k
    ·subst e
     rw [G9]at h2
     exact .inr (by rw [h2];simp)
    ·rw [K7 _ _ _ _ e]at h2
     exact .inl ⟨by simp at h1 ⊢;exact ⟨e,h1⟩,h2⟩
   ·exact .inr (by simp [h1])
theorem MCall.frame {P:Program}{f:FuncId}{avs:List AV}{pre:List Blk}{v:AV}{post:List (Option Blk)}{new:List (Option Blk)}{u S:Nat}(hM:MCall P f avs pre v post new)(κ:Nat→F4)
    (hinj: ∀i i',i<pre.length→i'<pre.length→κ i=κ i'→i=i') (preH:E8) (hpre: ∀i b,pre[i]? =some b→preH (κ i)=some (Jq (Z5 κ κ) b)):
    FCall P u S f (avs.map (GP (Z5 κ κ))) preH (MD (Z5 κ fun j=>(S+j,u)) v) (Rg κ (Z5 κ fun j=>(S+j,u)) 0 post++Vq u S (Z5 κ fun j=>(S+j,u)) 0 new):=by
  have hok:=hM.ok
  simp only [eJ,bE,bK,Nat.ble_eq]at hok
  obtain ⟨⟨⟨⟨⟨⟨hlenP,hlenN⟩,okA⟩,okP⟩,UO⟩,okPo⟩,QT⟩:=hok
  refine ⟨hM.call.1,fun w I ρ h vs H hp hlen hrep hfr=> ?_⟩
  have hh: ∀i b,pre[i]? =some b→h (κ i)=some (Jq (Z5 κ κ) b):=fun i b hb=>hp _ _ (hpre i b hb)
  have hρ: ∀i,i<pre.length→∃y,ρ (κ i)=some y:=fun i hi=>(H.blk _ _ (hh i _ (lG hi))).rho
  let ρ0:Rho:=fun q=>if NV pre.length 0 q=true then ρ (Z5 κ κ q)else none
  have hρ0: ∀i,i<pre.length→ρ0 (Co i)=ρ (κ i):=by
    intro i hi
    show (if NV pre.length 0 (Co i)=true then _ else _)=_
    rw [bB (by simp [NV,Co,hi]),MB]
  have hk0: ∀q y,NV pre.length 0 q=true→ρ (Z5 κ κ q)=some y→ρ0 (id q)=some y:=by
    intro q y hq hy
    show (if NV pre.length 0 q=true then _ else _)=_
    rw [bB hq];exact hy
  have hdom: ∀q b,G (Wz 0 pre) q=some b→∃i,i<pre.length∧q=Co i∧pre[i]? =some b∧h (κ i)=some (Jq (Z5 κ κ) b)∧M7 ρ0 q b=M7 ρ (κ i) (Jq (Z5 κ κ) b):=by
    intro q b hq
    obtain ⟨i,rfl,h2⟩:=MF hq
    rw [bS]
    have hi:i<pre.length:=(lH.1 h2).1
    exact ⟨i,hi,rfl,h2,hh i b h2,by rw [Bw];exact Ko b (hρ0 i hi)⟩
  have H0:HeapOK w I ρ0 (G (Wz 0 pre)):=by
    refine ⟨fun q b hq=> ?_,fun q q' b b' g h1 h2 h3 h4=> ?_,fun q b g h1 h2=> ?_,fun q b g h1 h2=> ?_,H.ilt,⟨1,fun d x hx=> ?_⟩,fun q y hy=> ?_⟩
    ·obtain ⟨i,hi,rfl,h2,h3,_⟩:=hdom q b hq
     have:=kQ (f:=Z5 κ κ) (g:=id) (ρ':=ρ0) (k':=Co i) (lX.1 okP b (lF h2)) (H.blk _ _ h3) (fun y hy=>by rw [hρ0 i hi];exact hy) hk0
     rwa [cK]at this
    ·obtain ⟨i,hi,rfl,_,a3,a4⟩:=hdom q b h1
     obtain ⟨j,hj,rfl,_,b3,b4⟩:=hdom q' b' h2
     rw [a4]at h3;rw [b4]at h4
     rw [hinj i j hi hj (H.sep _ _ _ _ g a3 b3 h3 h4)]
    ·obtain ⟨i,hi,rfl,_,a3,a4⟩:=hdom q b h1
     rw [a4]at h2;exact H.notI _ _ g a3 h2
    ·obtain ⟨i,hi,rfl,_,a3,a4⟩:=hdom q b h1
     rw [a4]at h2;exact H.lt _ _ g a3 h2
    ·show (if NV pre.length 0 (d,x)=true then _ else _)=none
     rw [bC]
     intro e
     rcases RI e with ⟨i,_,e⟩|⟨j,hj,_⟩
     ·simp only [Co,Prod.mk.injEq]at e;omega
     ·omega
    ·have hy':(if NV pre.length 0 q=true then ρ (Z5 κ κ q)else none)=some y:=hy
     split at hy'
     ·exact H.rone _ y hy'
     ·cases hy'
  have hown0: ∀g,own ρ0 (G (Wz 0 pre)) g→own ρ h g:=by
    rintro g ⟨q,b,h1,h2⟩
    obtain ⟨i,hi,rfl,_,a3,a4⟩:=hdom q b h1
    exact ⟨κ i,_,a3,by rw [← a4];exact h2⟩
  have hown1: ∀k b g,h k=some b→(∀i,i<pre.length→k≠κ i)→M7 ρ k b=some g→¬own ρ0 (G (Wz 0 pre)) g:=by
    rintro k b g hk hne hl ⟨q,b',h1,h2⟩
    obtain ⟨i,hi,rfl,_,a3,a4⟩:=hdom q b' h1
    rw [a4]at h2
    exact hne i hi (H.sep _ _ _ _ g hk a3 hl h2)
  have hκS: ∀i j,i<pre.length→j<6→κ i≠(S+j,u):=by
    intro i j hi hj e
    obtain ⟨y,hy⟩:=hρ i hi
    rw [e,hfr j hj]at hy;cases hy
  refine (hM.call.2 w I ρ0 vs H0 (by simpa using hlen) (fun i c hc=> ?_)).mono ?_
  ·have hc':=hrep i _ (Qc hc)
   have:=ZV (g:=id) (ρ':=ρ0) (lX.1 okA c (lF hc)) hc' hk0
   rwa [cJ]at this
  rintro e w' ⟨x,v',I',ρ0',h',rfl,hv',H',T',σ,rfl,hpost,hnew,hσo,hσi⟩
  let ρ1:Rho:=fun q=>if q.2=u∧S≤q.1∧q.1<S+new.length then ρ0' (σ (q.1 - S))else ρ q
  have hle0: ∀i,i<pre.length→ρ0' (Co i)=ρ (κ i):=by
    intro i hi
    obtain ⟨y,hy⟩:=hρ i hi
    rw [hy];exact T'.rho _ _ (by rw [hρ0 i hi];exact hy)
  have hρ1n: ∀j,j<new.length→ρ1 (S+j,u)=ρ0' (σ j):=by
    intro j hj
    show (if u=u∧S≤S+j∧S+j<S+new.length then _ else _)=_
    rw [bB ⟨rfl,by omega,by omega⟩]
    simp
  have hρ1o: ∀q,(∀j,j<new.length→q≠(S+j,u))→ρ1 q=ρ q:=by
    rintro ⟨a,b⟩ hq
    show (if b=u∧S≤a∧a<S+new.length then _ else _)=_
    rw [bC]
    rintro ⟨rfl,h1,h2⟩
    exact hq (a - S) (by omega) (by simp only [Prod.mk.injEq,and_true];omega)
  have hρ1κ: ∀i,i<pre.length→ρ1 (κ i)=ρ (κ i):=fun i hi=>hρ1o _ fun j hj=>hκS i j hi (by omega)
  have hle1:ρ.le ρ1:=by
    intro k y hy
    rw [hρ1o]
    ·exact hy
    ·rintro j hj rfl
     rw [hfr j (by omega)]at hy;cases hy
  -- the keys of what is handed out
  have hk1: ∀q y,NV pre.length new.length q=true→ρ0' (Z5 Co σ q)=some y→ρ1 (Z5 κ (fun j=>(S+j,u)) q)=some y:=by
    intro q y hq hy
    rcases RI hq with ⟨i,hi,rfl⟩|⟨j,hj,hj',rfl⟩
    ·rw [MB]at hy ⊢;rw [hρ1κ i hi,← hle0 i hi];exact hy
    ·rw [XE _ _ hj']at hy ⊢;rw [hρ1n j hj];exact hy
  -- what is touched, as the callee has it
  have htouch: ∀k b,(k,some b)∈Rg κ (Z5 κ fun j=>(S+j,u)) 0 post++Vq u S (Z5 κ fun j=>(S+j,u)) 0 new→
   ∃q b0,iH (NV pre.length new.length) b0=true∧h' q=some (Jq (Z5 Co σ) b0)∧b=Jq (Z5 κ fun j=>(S+j,u)) b0∧ρ1 k=ρ0' q∧((∃i,i<pre.length∧q=Co i∧k=κ i)∨∃j,j<new.length∧q=σ j∧k=(S+j,u)):=by
    intro k b hm
    rcases lR.1 hm with hm|hm
    ·obtain ⟨i,b0,h1,h2⟩:=EV hm
     rw [bS]at h2
     cases b0 with
     |none=>simp at h2
     |some b0=>
      simp only [lE,Prod.mk.injEq,Option.some.injEq]at h2
      obtain ⟨rfl,rfl⟩:=h2
      have hi:i<pre.length:=by rw [← hlenP];exact (lH.1 h1).1
      exact ⟨Co i,b0,lX.1 okPo (some b0) (lF h1),hpost i b0 h1,rfl,by rw [hρ1κ i hi,hle0 i hi], .inl ⟨i,hi,rfl,rfl⟩⟩
    ·obtain ⟨j,b0,h1,h2⟩:=EW hm
     rw [bS]at h2
     cases b0 with
     |none=>simp at h2
     |some b0=>
      simp only [lE,Prod.mk.injEq,Option.some.injEq]at h2
      obtain ⟨rfl,rfl⟩:=h2
      have hj:j<new.length:=(lH.1 h1).1
      exact ⟨σ j,b0,lX.1 QT (some b0) (lF h1),hnew j b0 h1,rfl,hρ1n j hj, .inr ⟨j,hj,rfl,rfl⟩⟩
  have hinjT: ∀{k k' q q':F4},((∃i,i<pre.length∧q=Co i∧k=κ i)∨∃j,j<new.length∧q=σ j∧k=(S+j,u))→((∃i,i<pre.length∧q'=Co i∧k'=κ i)∨∃j,j<new.length∧q'=σ j∧k'=(S+j,u))→q=q'→k=k':=by
    rintro k k' q q' (⟨i,hi,rfl,rfl⟩|⟨j,hj,rfl,rfl⟩) (⟨i',hi',rfl,rfl⟩|⟨j',hj',rfl,rfl⟩) e
    ·rw [MC e]
    ·exact absurd e.symm (hσo j' hj' i hi)
    ·exact absurd e (hσo j hj i' hi')
    ·rw [hσi j j' hj hj' e]
  -- what is not touched
  have hrest: ∀k b,k∉ (Rg κ (Z5 κ fun j=>(S+j,u)) 0 post++Vq u S (Z5 κ fun j=>(S+j,u)) 0 new).map (·.1)→h k=some b→(∀i,i<pre.length→k≠κ i)∧ρ1 k=ρ k∧∀g,M7 ρ k b=some g→w'.heap[g]? =w.heap[g]?∧¬own ρ0 (G (Wz 0 pre)) g:=by
    intro k b hn hk
    have hne: ∀i,i<pre.length→k≠κ i:=by
      rintro i hi rfl
      apply hn
      have: ∀(l:List (Option Blk)) (n:Nat),i<l.length→κ (n+i)∈(Rg κ (Z5 κ fun j=>(S+j,u)) n l).map (·.1):=by
        intro l
        induction i with
        |zero=>intro n hl;cases l with|nil=>simp at hl|cons=>simp [Rg]
        |succ i _=>
         intro n hl
         have key: ∀(i:Nat) (l:List (Option Blk)) (n:Nat),i<l.length→κ (n+i)∈(Rg κ (Z5 κ fun j=>(S+j,u)) n l).map (·.1):=by
           intro i
           induction i with
           |zero=>intro l n hl;cases l with|nil=>simp at hl|cons=>simp [Rg]
           |succ i ih=>
            intro l n hl
            cases l with
            |nil=>simp at hl
            |cons b r=>
             have:=ih r (n+1) (by simpa using hl)
             rw [show n+1+i=n+ (i+1) by omega]at this
             simp only [Rg,lP,lS]
             exact .inr this
         exact key (i+1) l n hl
      rw [List.map_append,lR]
      exact .inl (by have:=this post 0 (by rw [hlenP];exact hi);rwa [bS]at this)
    refine ⟨hne,?_,fun g hg=>⟨T'.frame g (H.lt k b g hk hg) (hown1 k b g hk hne hg),hown1 k b g hk hne hg⟩⟩
    obtain ⟨y,hy⟩:=(H.blk k b hk).rho
    rw [hle1 k y hy,hy]
  have hfrI: ∀b,I b→w'.heap[b]? =w.heap[b]?:=fun b hb=>T'.frame b (H.ilt b hb) (fun ho=>H0.own_notI ho hb)
  generalize hups:Rg κ (Z5 κ fun j=>(S+j,u)) 0 post++Vq u S (Z5 κ fun j=>(S+j,u)) 0 new=ups at htouch hrest
  have hcase: ∀k b,O9 h ups k=some b→(h k=some b∧k∉ups.map (·.1))∨(k,some b)∈ups:=fun k b hb=>(AZ ups h k (some b) hb).imp (fun q=>⟨q.2,q.1⟩) id
  have hlocR: ∀k b,h k=some b→k∉ups.map (·.1)→M7 ρ1 k b=M7 ρ k b:=fun k b hb hn=>Ko b (hrest k b hn hb).2.1
  have H1:HeapOK w' I' ρ1 (O9 h ups):=by
    refine ⟨fun k b hb=> ?_,fun k k' b b' g h1 h2 h3 h4=> ?_,fun k b g h1 h2 hi=> ?_,fun k b g h1 h2=> ?_,H'.ilt,?_,fun k y hy=> ?_⟩
    ·rcases hcase k b hb with ⟨a1,a2⟩|hm
     ·exact (H.blk k b a1).keep (fun g hg=>((hrest k b a2 a1).2.2 g hg).1) hfrI T'.imm hle1
     ·obtain ⟨q,b0,c1,c2,rfl,c4,_⟩:=htouch k b hm
      exact kQ c1 (H'.blk _ _ c2) (fun y hy=>by rw [c4];exact hy) hk1
    ·rcases hcase k b h1 with ⟨a1,a2⟩|hm
     ·rw [hlocR k b a1 a2]at h3
      rcases hcase k' b' h2 with ⟨b1,b2⟩|hm'
      ·rw [hlocR k' b' b1 b2]at h4
       exact H.sep k k' b b' g a1 b1 h3 h4
      ·exfalso
       obtain ⟨q,b0,c1,c2,rfl,c4,_⟩:=htouch k' b' hm'
       rw [Bw,Ko b0 c4]at h4
       exact ((hrest k b a2 a1).2.2 g h3).2 (T'.ownBack g ⟨q,_,c2,by rw [Bw];exact h4⟩ (H.lt k b g a1 h3))
     ·obtain ⟨q,b0,c1,c2,rfl,c4,c5⟩:=htouch k b hm
      rw [Bw,Ko b0 c4]at h3
      rcases hcase k' b' h2 with ⟨b1,b2⟩|hm'
      ·exfalso
       rw [hlocR k' b' b1 b2]at h4
       exact ((hrest k' b' b2 b1).2.2 g h4).2 (T'.ownBack g ⟨q,_,c2,by rw [Bw];exact h3⟩ (H.lt k' b' g b1 h4))
      ·obtain ⟨q',b0',d1,d2,rfl,d4,d5⟩:=htouch k' b' hm'
       rw [Bw,Ko b0' d4]at h4
       exact hinjT c5 d5 (H'.sep q q' _ _ g c2 d2 (by rw [Bw];exact h3) (by rw [Bw];exact h4))
    ·rcases hcase k b h1 with ⟨a1,a2⟩|hm
     ·rw [hlocR k b a1 a2]at h2
      rcases T'.immBack g hi (H.lt k b g a1 h2)with q|q
      ·exact H.notI k b g a1 h2 q
      ·exact ((hrest k b a2 a1).2.2 g h2).2 q
     ·obtain ⟨q,b0,c1,c2,rfl,c4,_⟩:=htouch k b hm
      rw [Bw,Ko b0 c4]at h2
      exact H'.notI q _ g c2 (by rw [Bw];exact h2) hi
    ·rcases hcase k b h1 with ⟨a1,a2⟩|hm
     ·rw [hlocR k b a1 a2]at h2
      exact bT (H.lt k b g a1 h2) T'.size
     ·obtain ⟨q,b0,c1,c2,rfl,c4,_⟩:=htouch k b hm
      rw [Bw,Ko b0 c4]at h2
      exact H'.lt q _ g c2 (by rw [Bw];exact h2)
    ·obtain ⟨u0,hu0⟩:=H.fresh
     refine ⟨max u0 (u+1),fun d x hx=> ?_⟩
     rw [hρ1o _ (fun j _ e=>by simp only [Prod.mk.injEq]at e;omega)]
     exact hu0 d x (by omega)
    ·have hy':(if k.2=u∧S≤k.1∧k.1<S+new.length then ρ0' (σ (k.1 - S))else ρ k)=some y:=hy
     split at hy'
     ·exact H'.rone _ y hy'
     ·exact H.rone _ y hy'
  refine ⟨x,I',ρ1,rfl,mB UO hv' hk1,H1,⟨T'.os,T'.tape,T'.output,T'.size,fun b hb hn=>T'.frame b hb (fun ho=>hn (hown0 b ho)),T'.imm,fun b hb hl=>(T'.immBack b hb hl).imp id (hown0 b),?_,hle1⟩,fun k hk=>hρ1o k fun j hj=>hk j (by omega)⟩
  rintro b ⟨k,c,h1,h2⟩ hl
  rcases hcase k c h1 with ⟨a1,a2⟩|hm
  ·exact ⟨k,c,a1,by rw [← hlocR k c a1 a2];exact h2⟩
  ·obtain ⟨q,b0,c1,c2,rfl,c4,_⟩:=htouch k c hm
   rw [Bw,Ko b0 c4]at h2
   exact hown0 b (T'.ownBack b ⟨q,_,c2,by rw [Bw];exact h2⟩ hl)
end Go.Abs
namespace Go.Abs
open Go
theorem HX {α:Type}{l:List α}(h:l.Nodup){i j:Nat}(hi:i<l.length)(hj:j<l.length)(e:l[i]=l[j]):i=j:=by
  have h':=List.pairwise_iff_getElem.1 h
  rcases Nat.lt_trichotomy i j with q|q|q
  ·exact absurd e (h' i j hi hj q)
  ·exact q
  ·exact absurd e.symm (h' j i hj hi q)
def Iw (l:List F4)(i:Nat):F4:=l.getD i (0,0)
section
variable {P:Program}{N:Nat}
/-- Less is known of what is handed in. -/
theorem FCall.le {u S:Nat}{f:FuncId}{avs avs':List AV}{pre pre':E8}{v:AV}{ups:List (F4×Option Blk)}(hF:FCall P u S f avs' pre v ups)(ha:All2 AVle avs avs')(hp: ∀q b,pre q=some b→∃b',pre' q=some b'∧BlkLe b' b)(hu: ∀q b,pre q=some b→q∈ups.map (·.1)):FCall P u S f avs pre' v ups:=by
  refine ⟨hF.1,fun w I ρ h vs H hh hlen hrep hfr=> ?_⟩
  let h1:E8:=fun q=>match pre q with|some b=>some b|none=>h q
  have h1p: ∀q b,pre q=some b→h1 q=some b:=fun q b hb=>by show (match pre q with|some b=>some b|none=>h q)=_;rw [hb]
  have h1n: ∀q,pre q=none→h1 q=h q:=fun q hb=>by show (match pre q with|some b=>some b|none=>h q)=_;rw [hb]
  have S1:Sb ⟨fun _=> .any,h1⟩ ⟨fun _=> .any,h⟩:=by
    refine ⟨fun i=> .any _,fun k b hb=> ?_⟩
    cases hq:pre k with
    |none=>exact ⟨b,by show h k=some b;rw [← h1n k hq];exact hb, .refl b⟩
    |some b0=>
     obtain rfl:b0=b:=by have:=hb;dsimp only at this;rw [h1p k b0 hq]at this;exact lC this
     obtain ⟨b',e1,e2⟩:=hp k b0 hq
     exact ⟨b',hh k b' e1,e2⟩
  have hup:O9 h1 ups=O9 h ups:=by
    funext q
    by_cases e:q∈ups.map (·.1)
    ·exact Qa ups _ _ q e
    ·rw [Fe _ _ _ e,Fe _ _ _ e]
     cases hq:pre q with
     |none=>exact h1n q hq
     |some b=>exact absurd (hu q b hq) e
  have hown: ∀g,own ρ h1 g→own ρ h g:=fun g hg=>S1.own hg
  have hown': ∀g,own ρ h g→own ρ h1 g:=by
    rintro g ⟨k,b,e1,e2⟩
    cases hq:pre k with
    |none=>exact ⟨k,b,by rw [h1n k hq];exact e1,e2⟩
    |some b0=>
     obtain ⟨b',g1,g2⟩:=hp k b0 hq
     have:b'=b:=by have:=hh k b' g1;rw [e1]at this;exact (lC this).symm
     subst this
     exact ⟨k,b0,h1p k b0 hq,by rw [g2.loc];exact e2⟩
  refine (hF.2 w I ρ h1 vs (S1.heapOK H) h1p (by rw [← ha.length];exact hlen) (fun i c hc=> ?_) hfr).mono ?_
  ·obtain ⟨a,e1,e2⟩:=ha.get hc
   exact e2 _ _ _ _ (hrep i a e1)
  rintro e w' ⟨x,I',ρ',rfl,r1,r2,r3,r4⟩
  rw [hup]at r2 r3
  exact ⟨x,I',ρ',rfl,r1,r2,⟨r3.os,r3.tape,r3.output,r3.size,fun b hb hn=>r3.frame b hb fun ho=>hn (hown b ho),r3.imm,fun b hb hl=>(r3.immBack b hb hl).imp id (hown b),fun b hb hl=>hown b (r3.ownBack b hb hl),r3.rho⟩,r4⟩
/-- A pure contract, where what is handed in is untouched and the answer needs no memory of it. -/
theorem ICall.le {f:FuncId}{avs:List AV}{h:E8}{K K':AV→E8→Prop}(hI:ICall P f avs h K)(hk: ∀v h,K v h→K' v h):ICall P f avs h K':=hI.mono hk
/-! ### How such a contract is shown -/
theorem gE {f:FuncId}{rs:List RV}{ac:AC}(F:FnOK P f N rs ac){avs:List AV}{pre:List Blk}{v:AV}{post:List (Option Blk)}{new:List (Option Blk)}(hok:eJ avs pre v post new=true)(hl:avs.length≤N)
    (h:Gl P N none [.c ac] (fun e s=>(e= .nrm∨e= .ret)∧∃v' v1 g1,AU s.t s.h rs=some v'∧AVle v' v1∧ES s.h g1∧CC pre.length v post new v1 (G g1)) .nrm ⟨JM avs,G (Wz 0 pre)⟩):MCall P f avs pre v post new:=by
  refine ⟨hok,F.enters,?_⟩
  obtain ⟨fn,c,hf,hb,hN,hrs,⟨M,hc⟩,hn⟩:=F.ex
  intro w I ρ vs H hlen hrep
  have hsim:=Vo (n:=N) H hlen (by omega) hrep
  rw [← hN]at hsim
  refine Mx (Q:=fun e s=>(e= .nrm∨e= .ret)∧∃v' v1 g1,AU s.t s.h rs=some v'∧AVle v' v1∧ES s.h g1∧CC pre.length v post new v1 (G g1)) hf hb rfl hsim (by rw [hN];exact h M c hc) ?_
  rintro e s' a' w' I' ρ' ⟨he,v',v1,g1,hv,hle,hg,hp⟩ hs' tr
  obtain ⟨x,hx,hr⟩:=EO hs' hrs hv
  have S1:Sb ⟨T [],G g1⟩ s':=by cases s';exact B7 trivial hg
  exact ⟨he,x,hx,x,v1,I',ρ',G g1,rfl,hle _ _ _ _ hr,S1.heapOK hs'.heap,⟨tr.os,tr.tape,tr.output,tr.size,tr.frame,tr.imm,tr.immBack,fun b hb hl=>tr.ownBack b (S1.own hb) hl,tr.rho⟩,hp⟩
def Vr:List AV→Nat→List (Nat×AV)
  | [],_=> []
  |a::r,n=>(n,a)::Vr r (n+1)
theorem HY: ∀(avs:List AV) (n i:Nat),T (Vr avs n) (n+i)=avs.getD i .any
  | [],n,i=>by simp [Vr,iN]
  |a::r,n,i=>by
   rw [Vr,fQ]
   cases i with
   |zero=>rw [bB (by simp)];rfl
   |succ i=>rw [bC (by omega),show n+ (i+1)=n+1+i by omega,HY r (n+1) i];rfl
theorem JS (avs:List AV):JM avs=T (Vr avs 0):=by
  funext i
  have:=HY avs 0 i
  rw [bS]at this
  rw [this];rfl
def XF (h:E8)(f:F4→F4):Nat→List (Option Blk)→Prop
  |_,[]=>True
  |i,b::r=>(match b with|some b=>h (Co i)=some (Jq f b)|none=>True)∧XF h f (i+1) r
theorem HZ {h:E8}{f:F4→F4}: ∀{l:List (Option Blk)} {n i:Nat} {b:Blk},XF h f n l→l[i]? =some (some b)→h (Co (n+i))=some (Jq f b)
  | [],n,i,b,_,hb=>by simp at hb
  |x::r,n,i,b,hp,hb=>by
   cases i with
   |zero=>simp at hb;subst hb;exact hp.1
   |succ i=>rw [show n+ (i+1)=n+1+i by omega];exact HZ hp.2 (by simpa using hb)
def gF (h:E8)(f:F4→F4):List F4→List (Option Blk)→Prop
  |_,[]=>True
  | [],_::_=>False
  |k::ks,b::r=>h k=b.map (Jq f)∧gF h f ks r
theorem MG {h:E8}{f:F4→F4}: ∀{ks:List F4} {l:List (Option Blk)} {i:Nat} {b:Blk},gF h f ks l→l[i]? =some (some b)→h (Iw ks i)=some (Jq f b)
  |ks,[],i,b,_,hb=>by simp at hb
  | [],_::_,i,b,hp,_=>hp.elim
  |k::ks,x::r,i,b,hp,hb=>by
   cases i with
   |zero=>simp at hb;subst hb;exact hp.1
   |succ i=>exact MG (ks:=ks) hp.2 (by simpa using hb)
theorem XG {d u:Nat}(h:Nat.blt d 900000=true)(i:Nat):(d,u)≠Co i:=by
  rw [Nat.blt_eq]at h
  intro e
  simp only [Co,Prod.mk.injEq]at e;omega
theorem XH {n:Nat}{v v1:AV}{post:List (Option Blk)}{new:List (Option Blk)}{h:E8}(σs:List F4)(hv:v1=MD (Z5 Co (Iw σs)) v)(hpost:XF h (Z5 Co (Iw σs)) 0 post)(hnew:gF h (Z5 Co (Iw σs)) σs new)
    (hl:σs.length=new.length) (hd: ∀k∈σs,∀i,k≠Co i) (hnd:σs.Nodup):CC n v post new v1 h:=by
  have hget: ∀j,j<new.length→Iw σs j∈σs:=by
    intro j hj
    simp only [Iw,List.getD,lG (show j<σs.length by omega),Option.getD_some]
    exact List.getElem_mem _
  refine ⟨Iw σs,hv,fun i b hb=> ?_,fun j b hb=>MG hnew hb,fun j hj i _=>hd _ (hget j hj) i,fun j j' hj hj' e=> ?_⟩
  ·have:=HZ hpost hb
   rwa [bS]at this
  ·simp only [Iw,List.getD,lG (show j<σs.length by omega),lG (show j'<σs.length by omega),Option.getD_some]at e
   exact HX hnd (by omega) (by omega) e
theorem iT {t:Nat→AV}{h:E8}{rs:List RV}{e:Ex}{n:Nat}{v v' v1:AV}{post:List (Option Blk)}{new:List (Option Blk)}(he:e= .nrm∨e= .ret)(h1:AU t h rs=some v')(h2:AVle v' v1)(g1:List (F4×Option Blk))(h3:ES h g1)(h4:CC n v post new v1 (G g1)):
    (e= .nrm∨e= .ret)∧∃v' v1 g1,AU (⟨t,h⟩:St).t (⟨t,h⟩:St).h rs=some v'∧AVle v' v1∧ES (⟨t,h⟩:St).h g1∧CC n v post new v1 (G g1):=⟨he,v',v1,g1,h1,h2,h3,h4⟩
theorem iU {t:Nat→AV}{h:E8}{a:RV}{v:AV}(hv:AT t h a=some v):AU t h [a]=some v:=by simp only [AU,CM,hv]
end
/-! ### How it is used -/
theorem F9 {h:E8}{n:Nat}{k:F4}{off:Nat}{ty:TypeId}{cs:List AV}{ks:List F4}(hb:h k=some (.box ty cs))(hc:cs.flatMap (Q5 h n)=ks):Q5 h (n+1) (.ptr k off)=k::ks:=by simp only [Q5,hb,hc]
theorem Ts {h:E8}{n:Nat}{x:D}:Q5 h n (.d x)= []:=by cases n<;>rfl
theorem Up {h:E8}{n:Nat}{f:Fn}{fs cs:List AV}{ks ks':List F4}(h1:fs.flatMap (Q5 h n)=ks)(h2:cs.flatMap (Q5 h n)=ks'):Q5 h (n+1) (.fn f fs cs)=ks++ks':=by simp only [Q5,h1,h2]
theorem G0 {h:E8}{n:Nat}:([]:List AV).flatMap (Q5 h n)= []:=rfl
theorem D3 {h:E8}{n:Nat}{x:AV}{r:List AV}{a b:List F4}(h1:Q5 h n x=a)(h2:r.flatMap (Q5 h n)=b):(x::r).flatMap (Q5 h n)=a++b:=by rw [l4,h1,h2]
def TI (h:E8):List F4→List Blk→Prop
  | [],[]=>True
  |k::ks,b::bs=>(∃b',h k=some b'∧BlkLe b' b)∧TI h ks bs
  |_,_=>False
theorem EX {h:E8}: ∀{ks:List F4} {bs:List Blk},TI h ks bs→ks.length=bs.length
  | [],[],_=>rfl
  |_::ks,_::bs,hp=>by simp [EX hp.2]
  | [],_::_,hp=>hp.elim
  |_::_,[],hp=>hp.elim
theorem MH {h:E8}: ∀{ks:List F4} {bs:List Blk} {i:Nat} {b:Blk},TI h ks bs→bs[i]? =some b→Iw ks i∈ks∧∃b',h (Iw ks i)=some b'∧BlkLe b' b
  | [],[],i,b,_,hb=>by simp at hb
  |k::ks,c::bs,i,b,hp,hb=>by
   cases i with
   |zero=>simp at hb;subst hb;exact ⟨by simp [Iw],hp.1⟩
   |succ i=>
    obtain ⟨g1,g2⟩:=MH (ks:=ks) (bs:=bs) (i:=i) hp.2 (by simpa using hb)
    exact ⟨by simp only [Iw,List.getD_cons_succ]at g1 ⊢;exact List.mem_cons_of_mem _ g1,g2⟩
  | [],_::_,_,_,hp,_=>hp.elim
  |_::_,[],_,_,hp,_=>hp.elim
/-- A call of such a function, at the keys of the caller. -/
theorem MCall.at {P:Program}{u S:Nat}{f:FuncId}{avs avs0:List AV}{pre:List Blk}{v:AV}{post:List (Option Blk)}{new:List (Option Blk)}{h:E8}(hM:MCall P f avs0 pre v post new)(κs:List F4)(ks:List F4)
    (hle:All2 AVle avs (avs0.map (GP (Z5 (Iw κs) (Iw κs))))) (hpre:TI h κs (pre.map (Jq (Z5 (Iw κs) (Iw κs))))) (hsub: ∀k∈κs,k∈ks) (hnd:κs.Nodup):
    FCall P u S f avs (S4 h ks) (MD (Z5 (Iw κs) fun j=>(S+j,u)) v) (Rg (Iw κs) (Z5 (Iw κs) fun j=>(S+j,u)) 0 post++Vq u S (Z5 (Iw κs) fun j=>(S+j,u)) 0 new):=by
  have hlen:κs.length=pre.length:=by simpa using EX hpre
  have hok:=hM.ok
  simp only [eJ,bE,bK,Nat.ble_eq]at hok
  have hinj: ∀i i',i<pre.length→i'<pre.length→Iw κs i=Iw κs i'→i=i':=by
    intro i i' hi hi' e
    simp only [Iw,List.getD,lG (show i<κs.length by omega),lG (show i'<κs.length by omega),Option.getD_some]at e
    exact HX hnd (by omega) (by omega) e
  let preH:E8:=fun q=>match (List.range pre.length).find? fun i=>Iw κs i==q with
    |some i=>(pre[i]?).map (Jq (Z5 (Iw κs) (Iw κs)))
    |none=>none
  have hat: ∀i b,pre[i]? =some b→preH (Iw κs i)=some (Jq (Z5 (Iw κs) (Iw κs)) b):=by
    intro i b hb
    have hi:i<pre.length:=(lH.1 hb).1
    show (match (List.range pre.length).find? fun i'=>Iw κs i'==Iw κs i with|some i=>(pre[i]?).map (Jq (Z5 (Iw κs) (Iw κs)))|none=>none)=_
    cases hf:(List.range pre.length).find? fun i'=>Iw κs i'==Iw κs i with
    |none=>
     have:=List.find?_eq_none.1 hf i (by simpa using hi)
     simp at this
    |some j=>
     have h1:=List.find?_some hf
     have h2:=List.mem_of_find?_eq_some hf
     have:=hinj j i (by simpa using h2) hi (by simpa using h1)
     subst this
     simp only [hb,lE]
  have hinv: ∀q b,preH q=some b→∃i b0,pre[i]? =some b0∧q=Iw κs i∧b=Jq (Z5 (Iw κs) (Iw κs)) b0:=by
    intro q b hq
    have hq':(match (List.range pre.length).find? fun i'=>Iw κs i'==q with|some i=>(pre[i]?).map (Jq (Z5 (Iw κs) (Iw κs)))|none=>none)=some b:=hq
    split at hq'
    ·rename_i j hf
     have h1:=List.find?_some hf
     simp only [lD]at hq'
     obtain ⟨b0,e1,rfl⟩:=hq'
     exact ⟨j,b0,e1,(by simpa using h1:Iw κs j=q).symm,rfl⟩
    ·cases hq'
  refine FCall.le (hM.frame (Iw κs) hinj preH hat) hle (fun q b hq=> ?_) (fun q b hq=> ?_)
  ·obtain ⟨i,b0,e1,rfl,rfl⟩:=hinv q b hq
   obtain ⟨g1,b',g2,g3⟩:=MH hpre (Qc e1)
   exact ⟨b',by unfold S4;rw [bB (hsub _ g1)];exact g2,g3⟩
  ·obtain ⟨i,b0,e1,rfl,rfl⟩:=hinv q b hq
   rw [List.map_append,lR]
   left
   have hi:i<post.length:=by rw [hok.1.1.1.1.1.1];exact (lH.1 e1).1
   have key: ∀(i:Nat) (l:List (Option Blk)) (n:Nat) (f:F4→F4),i<l.length→Iw κs (n+i)∈(Rg (Iw κs) f n l).map (·.1):=by
     intro i
     induction i with
     |zero=>intro l n f hl;cases l with|nil=>simp at hl|cons=>simp [Rg]
     |succ i ih=>
      intro l n f hl
      cases l with
      |nil=>simp at hl
      |cons b r=>
       have:=ih r (n+1) f (by simpa using hl)
       rw [show n+1+i=n+ (i+1) by omega]at this
       simp only [Rg,lP,lS]
       exact .inr this
   have:=key i post 0 (Z5 (Iw κs) fun j=>(S+j,u)) hi
   rwa [bS]at this
theorem gG {u S:Nat}{κs ks:List F4}{post:List (Option Blk)}{new:List (Option Blk)}{f g:F4→F4}(hsub: ∀k∈κs,k∈ks)(hl:post.length=κs.length)(hn:new.length≤6):
    ∀q∈(Rg (Iw κs) f 0 post++Vq u S g 0 new).map (·.1),q∈ks∨∃j,j<6∧q=(S+j,u):=by
  intro q hq
  simp only [List.mem_map,lR]at hq
  obtain ⟨x,hx|hx,rfl⟩:=hq
  ·obtain ⟨j,b,h1,rfl⟩:=EV hx
   have hj:j<κs.length:=by rw [← hl];exact (lH.1 h1).1
   left
   refine hsub _ ?_
   simp only [bS,Iw,List.getD,lG hj,Option.getD_some]
   exact List.getElem_mem _
  ·obtain ⟨j,b,h1,rfl⟩:=EW hx
   have hj:j<new.length:=(lH.1 h1).1
   exact .inr ⟨j,by omega,by rw [bS]⟩
section
variable {P:Program}{u:Nat}{r:List AOp}{l:List (Nat×AV)}{g:List (F4×Option Blk)}
/-- What a call of such a function asks for, and gives. -/
structure OC (P:Program)(u:Nat)(l:List (Nat×AV))(g:List (F4×Option Blk))(S:Nat)(f:Opd)(args:List Opd)(v:AV)(ks:List F4)(us:List F4)(g':List (F4×Option Blk)):Prop where
  w: ∀K:AV→List (F4×Option Blk)→Prop,(∀ups,ups.map (·.1)=us→O9 (G g) ups=G g'→K v ups)→Ya P u (T l) (G g) S f args K
  ks:Z2 (T l) (G g) (.ocall S f args)=ks
theorem R9 {S:Nat}{f:Opd}{args:List Opd}{fid:FuncId}{avs avs0:List AV}{pre:List Blk}{v v':AV}{post:List (Option Blk)}{new:List (Option Blk)}(hM:MCall P fid avs0 pre v post new)(κs ks us:List F4)(g':List (F4×Option Blk))
    (hc:T5 (T l) f args=some (fid,avs)) (hle:All2 AVle avs (avs0.map (GP (Z5 (Iw κs) (Iw κs))))) (hks:avs.flatMap (Q5 (G g) 6)=ks) (hlive: ∀q∈ks,G g q≠none)
    (hpre:TI (G g) κs (pre.map (Jq (Z5 (Iw κs) (Iw κs))))) (hsub: ∀k∈κs,k∈ks) (hnd:κs.Nodup) (hv:MD (Z5 (Iw κs) fun j=>(S+j,u)) v=v')
    (hus:(Rg (Iw κs) (Z5 (Iw κs) fun j=>(S+j,u)) 0 post++Vq u S (Z5 (Iw κs) fun j=>(S+j,u)) 0 new).map (·.1)=us)
    (hg:O9 (G g) (Rg (Iw κs) (Z5 (Iw κs) fun j=>(S+j,u)) 0 post++Vq u S (Z5 (Iw κs) fun j=>(S+j,u)) 0 new)=G g'):OC P u l g S f args v' ks us g':=by
  have hok:=hM.ok
  simp only [eJ,bE,bK,Nat.ble_eq]at hok
  have hlen:κs.length=pre.length:=by simpa using EX hpre
  refine ⟨fun K hK=> ?_,by simp only [Z2,hc,hks]⟩
  simp only [Ya,hc,hks]
  refine ⟨v',_,?_,hlive,by rw [← hv];exact hM.at κs ks hle hpre hsub hnd,hK _ hus hg⟩
  exact gG hsub (by rw [hok.1.1.1.1.1.1,hlen]) hok.1.1.1.1.1.2
theorem V5 {K:(Nat→AV)→E8→Prop}{d S:Nat}{f:Opd}{args:List Opd}{v:AV}{ks us:List F4}{g':List (F4×Option Blk)}(h:OC P u l g S f args v ks us g')(hk:L6 P u r (T ((d,v)::l)) (G g') K):L6 P u (⟨some d, .ocall S f args,none⟩::r) (T l) (G g) K:=by
  refine AY (by simp [W8]) ?_
  simp only [gW,Yp]
  exact h.w _ fun ups _ e=>by rw [e];exact hk
theorem CN {K:(Nat→AV)→E8→List (List F4×List F4)→Prop}{d S:Nat}{f:Opd}{args:List Opd}{v:AV}{ks us:List F4}{g':List (F4×Option Blk)}(h:OC P u l g S f args v ks us g')(hk:Fs P u r (T ((d,v)::l)) (G g') fun t' h' tr=>K t' h' ((ks,us)::tr)):Fs P u (⟨some d, .ocall S f args,none⟩::r) (T l) (G g) K:=by
  unfold Fs
  simp only [gW,Yp]
  refine h.w _ fun ups e1 e=> ?_
  rw [e,e1,h.ks];exact hk
end
end Go.Abs
namespace Go.Abs
open Go
section
variable {P:Program}{N:Nat}
/-- What is handed back, where the blocks at some keys have become data. -/
def EY (ks:List F4)(t:Nat→AV)(h:E8)(rs:List RV):Option D:=match CM t h rs with
  |some vs=>match O2 (M5 (S4 h ks) 6) vs with
   |some [d]=>some d
   |some ds=>some (.tup ds)
   |none=>none
  |none=>none
def Zk (h:E8)(ks:List F4):Nat→List (Option Blk)→Prop
  |_,[]=>True
  |i,none::r=>Zk h ks (i+1) r
  |i,some (.box ty cs)::r=>(∃cs' ds ds',h (Co i)=some (.box ty cs')∧Co i∉ks∧O2 (M5 (S4 h ks) 6) cs'=some ds∧All2 DLe ds ds'∧cs=ds'.map .d)∧Zk h ks (i+1) r
  |i,some (.arr ty sz es)::r=>(h (Co i)=some (.arr ty sz es)∧Co i∉ks)∧Zk h ks (i+1) r
  |_,some (.obj _ _)::_=>False
  |_,some (.mp _)::_=>False
def Xi:Nat→List (Option Blk)→List (F4×Option Blk)
  |_,[]=> []
  |i,b::r=>(Co i,b)::Xi (i+1) r
theorem IA: ∀{l:List (Option Blk)} {i:Nat} {q:F4} {b:Blk},G (Xi i l) q=some b→∃j,q=Co (i+j)∧l[j]? =some (some b)
  | [],i,q,b,h=>by cases h
  |x::r,i,q,b,h=>by
   rw [Xi,G]at h
   by_cases e:q=Co i
   ·rw [bB e]at h;subst h;exact ⟨0,e,rfl⟩
   ·rw [bC e]at h
    obtain ⟨j,h1,h2⟩:=IA h
    exact ⟨j+1,by rw [h1];congr 1;omega,by simpa using h2⟩
theorem MI: ∀{l:List (Option Blk)} {i j:Nat} {b:Option Blk},l[j]? =some b→G (Xi i l) (Co (i+j))=b
  | [],i,j,b,h=>by simp at h
  |x::r,i,j,b,h=>by
   rw [Xi,G]
   cases j with
   |zero=>simp at h;subst h;rw [bB (by simp)]
   |succ j=>
    rw [bC (fun e=>by have:=MC e;omega),show i+ (j+1)=i+1+j by omega]
    exact MI (by simpa using h)
theorem IB {h:E8}{ks:List F4}: ∀{l:List (Option Blk)} {i j:Nat} {b:Blk},Zk h ks i l→l[j]? =some (some b)→Co (i+j)∉ks∧
    ((∃ty cs' ds ds',b= .box ty (ds'.map .d)∧h (Co (i+j))=some (.box ty cs')∧O2 (M5 (S4 h ks) 6) cs'=some ds∧All2 DLe ds ds')∨∃ty sz es,b= .arr ty sz es∧h (Co (i+j))=some (.arr ty sz es))
  | [],i,j,b,_,hb=>by simp at hb
  |x::r,i,j,b,hp,hb=>by
   cases j with
   |zero=>
    simp at hb;subst hb
    cases b with
    |box ty cs=>obtain ⟨⟨cs',ds,ds',a1,a2,a3,a4,rfl⟩,_⟩:=hp;exact ⟨a2, .inl ⟨ty,cs',ds,ds',rfl,a1,a3,a4⟩⟩
    |arr ty sz es=>exact ⟨hp.1.2, .inr ⟨ty,sz,es,rfl,hp.1.1⟩⟩
    |obj=>exact hp.elim
    |mp=>exact hp.elim
   |succ j=>
    have hr:Zk h ks (i+1) r:=by
      cases x with
      |none=>exact hp
      |some x=>cases x<;>first|exact hp.2|exact hp.elim
    have:=IB hr (by simpa using hb:r[j]? =some (some b))
    rwa [show i+1+j=i+ (j+1) by omega]at this
theorem TJ (f:F4→F4)(ds:List D):(ds.map AV.d).map (GO f)=ds.map .d:=by rw [List.map_map];rfl
theorem Y6 {f:FuncId}{rs:List RV}{ac:AC}(F:FnOK P f N rs ac){avs:List AV}{pre:List Blk}{v:D}{post:List (Option Blk)}(hok:eJ avs pre (.d v) post []=true)(hl:avs.length≤N)
    (h:Gl P N none [.c ac] (fun e s=>(e= .nrm∨e= .ret)∧∃ks d',EY ks s.t s.h rs=some d'∧DLe d' v∧Zk s.h ks 0 post) .nrm ⟨T (Vr avs 0),G (Wz 0 pre)⟩):MCall P f avs pre (.d v) post []:=by
  refine ⟨hok,F.enters,?_⟩
  obtain ⟨fn,c,hf,hb,hN,hrs,⟨M,hc⟩,hn⟩:=F.ex
  intro w I ρ vs H hlen hrep
  have hsim:=Vo (n:=N) H hlen (by omega) hrep
  rw [← hN,JS]at hsim
  refine Mx (Q:=fun e s=>(e= .nrm∨e= .ret)∧∃ks d',EY ks s.t s.h rs=some d'∧DLe d' v∧Zk s.h ks 0 post) hf hb rfl hsim (by rw [hN];exact h M c hc) ?_
  rintro e s' a' w' I' ρ' ⟨he,ks,d',hv,hle,hp⟩ hs' tr
  have Hs:=hs'.heap
  let hk:E8:=S4 s'.h ks
  have hsub: ∀q b,hk q=some b→s'.h q=some b∧q∈ks:=by
    intro q b hq
    have:(if q∈ks then s'.h q else none)=some b:=hq
    split at this
    ·exact ⟨this,‹_›⟩
    ·cases this
  have Hk:=Hs.sub fun q b hq=>(hsub q b hq).1
  have hg: ∀q b,G (Xi 0 post) q=some b→∃b0,s'.h q=some b0∧q∉ks∧M7 ρ' q b=M7 ρ' q b0∧BlkOK w' (fun b=>I' b∨own ρ' hk b) ρ' q b∧∀f,Jq f b=b:=by
    intro q b hq
    obtain ⟨i,rfl,h2⟩:=IA hq
    rw [bS]
    obtain ⟨h3,h4⟩:=IB hp h2
    rw [bS]at h3 h4
    rcases h4 with ⟨ty,cs',ds,ds',rfl,a1,a2,a3⟩|⟨ty,sz,es,rfl,a1⟩
    ·refine ⟨_,a1,h3,rfl,?_,fun f=>by simp only [Jq,TJ]⟩
     obtain ⟨g,ws,b1,b2,b3,b4,b5⟩:=Hs.blk _ _ a1
     obtain ⟨l1,l2⟩:=Gk a2
     refine ⟨g,ws,b1,b2,by rw [lQ,← a3.length,l1];exact b3,b4,fun i c hc=> ?_⟩
     obtain ⟨d1,hd1,rfl⟩:=DF hc
     obtain ⟨d0,e1,e2⟩:=a3.get hd1
     obtain ⟨x,e3,e4⟩:=l2 i d0 e1
     exact .d _ _ (e2 _ _ _ (Kn Hk 6 x d0 _ (b5 i x e3) e4))
    ·exact ⟨_,a1,h3,rfl,(Hs.blk _ _ a1).keep (fun _ _=>rfl) (fun _ _=>rfl) (fun _ h=> .inl h) (fun _ _ h=>h),fun f=>rfl⟩
  have hownG: ∀g,own ρ' (G (Xi 0 post)) g→own ρ' s'.h g:=by
    rintro g ⟨q,b,a1,a2⟩
    obtain ⟨b0,c1,_,c3,_⟩:=hg q b a1
    exact ⟨q,b0,c1,by rw [← c3];exact a2⟩
  have H2:HeapOK w' (fun b=>I' b∨own ρ' hk b) ρ' (G (Xi 0 post)):=by
    refine ⟨fun q b hq=>by obtain ⟨_,_,_,_,c,_⟩:=hg q b hq;exact c,fun q q' b b' g h1 h2 h3 h4=> ?_,fun q b g h1 h2 hi=> ?_,fun q b g h1 h2=> ?_,fun b hb=> ?_,Hs.fresh,Hs.rone⟩
    ·obtain ⟨b0,c1,_,c3,_⟩:=hg q b h1
     obtain ⟨b1,d1,_,d3,_⟩:=hg q' b' h2
     rw [c3]at h3;rw [d3]at h4
     exact Hs.sep q q' b0 b1 g c1 d1 h3 h4
    ·obtain ⟨b0,c1,c2,c3,_⟩:=hg q b h1
     rw [c3]at h2
     rcases hi with hi|⟨k,x,e1,e2⟩
     ·exact Hs.notI q b0 g c1 h2 hi
     ·obtain ⟨e3,e4⟩:=hsub k x e1
      have:=Hs.sep q k b0 x g c1 e3 h2 e2
      subst this
      exact c2 e4
    ·obtain ⟨b0,c1,c2,c3,_⟩:=hg q b h1
     rw [c3]at h2
     exact Hs.lt q b0 g c1 h2
    ·rcases hb with hb|hb
     ·exact Hs.ilt b hb
     ·exact Hk.own_lt hb
  unfold EY at hv
  split at hv
  ·rename_i avs' hres
   obtain ⟨xs,g1,g2,g3⟩:=Vn hs' hrs hres
   have hds: ∀{ds:List D},O2 (M5 hk 6) avs'=some ds→ds.length=xs.length∧∀(i:Nat) d,ds[i]? =some d→RepD w' (fun b=>I' b∨own ρ' hk b) d (xs.getD i undef):=by
     intro ds hds
     obtain ⟨l1,l2⟩:=Gk hds
     refine ⟨by omega,fun i d hd=> ?_⟩
     obtain ⟨x,e3,e4⟩:=l2 i d hd
     exact Kn Hk 6 x d _ (g3 i x e3) e4
   have hfin: ∀x,(results fn a'.tmps).run P w'= .ok x w'→RepD w' (fun b=>I' b∨own ρ' hk b) d' x→
    ∃x,(results fn a'.tmps).run P w'= .ok x w'∧∃x' v' I'' ρ'' h'',Ending.returned x= .returned x'∧RepV w' I'' ρ'' v' x'∧HeapOK w' I'' ρ'' h''∧Tr w I ρ (G (Wz 0 pre)) w' I'' ρ'' h''∧CC pre.length (.d v) post [] v' h'':=by
     intro x hx hr
     refine ⟨x,hx,x, .d v,_,ρ',G (Xi 0 post),rfl, .d _ _ (hle _ _ _ hr),H2,⟨tr.os,tr.tape,tr.output,tr.size,tr.frame,fun b hb=> .inl (tr.imm b hb),fun b hb hl=> ?_,fun b hb hl=>tr.ownBack b (hownG b hb) hl,tr.rho⟩,fun _=>(0,0),rfl,fun i b hb=> ?_,fun j b hb=>by simp at hb,fun j hj=>by simp at hj,fun j j' hj=>by simp at hj⟩
     ·rcases hb with hb|⟨k,x,e1,e2⟩
      ·exact tr.immBack b hb hl
      ·exact .inr (tr.ownBack b ⟨k,x,(hsub k x e1).1,e2⟩ hl)
     ·have h1:G (Xi 0 post) (Co (0+i))=some b:=MI hb
      rw [bS]at h1
      obtain ⟨_,_,_,_,_,c⟩:=hg _ b h1
      rw [h1,c]
   have hmain: ∃x,(results fn a'.tmps).run P w'= .ok x w'∧RepD w' (fun b=>I' b∨own ρ' hk b) d' x:=by
     split at hv
     ·rename_i d hd
      cases hv
      obtain ⟨l1,l2⟩:=hds hd
      obtain ⟨x,rfl⟩: ∃x,xs= [x]:=by
        cases xs with
        |nil=>simp at l1
        |cons x r=>cases r with
         |nil=>exact ⟨x,rfl⟩
         |cons=>simp at l1
      exact ⟨x,by rw [Qb fn a' w' _ g1];simp,l2 0 _ rfl⟩
     ·rename_i ds hne hd
      cases hv
      obtain ⟨l1,l2⟩:=hds hd
      have hx1: ¬xs.length=1:=by
        intro h1
        rw [← l1]at h1
        obtain ⟨v,rfl⟩:=List.length_eq_one_iff.1 h1
        exact hne v rfl
      exact ⟨_,by rw [Qb fn a' w' _ g1,dif_neg hx1], .tup ds xs l1 l2⟩
     ·cases hv
   obtain ⟨x,hx,hr⟩:=hmain
   obtain ⟨x1,h1,h2⟩:=hfin x hx hr
   exact ⟨he,x1,h1,h2⟩
  ·cases hv
theorem cL {f:FuncId}{rs:List RV}{ac:AC}(F:FnOK P f N rs ac){avs:List AV}{pre:List Blk}{v:AV}{post:List (Option Blk)}{new:List (Option Blk)}(hok:eJ avs pre v post new=true)(hl:avs.length≤N)
    (h:Gl P N none [.c ac] (fun e s=>(e= .nrm∨e= .ret)∧∃v' v1 g1,AU s.t s.h rs=some v'∧AVle v' v1∧ES s.h g1∧CC pre.length v post new v1 (G g1)) .nrm ⟨T (Vr avs 0),G (Wz 0 pre)⟩):MCall P f avs pre v post new:=
  gE F hok hl (by rw [JS];exact h)
theorem Ar {t:Nat→AV}{h:E8}{rs:List RV}{d d':D}{e:Ex}{post:List (Option Blk)}(he:e= .nrm∨e= .ret)(ks:List F4)(h1:EY ks t h rs=some d')(h2:DLe d' d)(h3:Zk h ks 0 post):
    (e= .nrm∨e= .ret)∧∃ks d',EY ks (⟨t,h⟩:St).t (⟨t,h⟩:St).h rs=some d'∧DLe d' d∧Zk (⟨t,h⟩:St).h ks 0 post:=⟨he,ks,d',h1,h2,h3⟩
theorem As {t:Nat→AV}{h:E8}{ks:List F4}{a:RV}{v:AV}{d:D}(hv:AT t h a=some v)(hr:M5 (S4 h ks) 6 v=some d):EY ks t h [a]=some d:=by simp only [EY,CM,hv,O2,hr]
theorem Qd {h:E8}{ks:List F4}{k:F4}{b:Option Blk}(hm:k∈ks)(hb:h k=b):S4 h ks k=b:=by unfold S4;rw [bB hm];exact hb
theorem E2 {h:E8}: ∀q∈([]:List F4),h q≠none:=by simp
theorem C9 {h:E8}{k:F4}{b:Blk}{ks:List F4}(hb:h k=some b)(hr: ∀q∈ks,h q≠none): ∀q∈k::ks,h q≠none:=by
  intro q hq
  rcases lS.1 hq with rfl|hq
  ·rw [hb];simp
  ·exact hr q hq
theorem F3 {l:List AV}:All2 AVle l l:=by
  induction l with
  |nil=>exact .nil
  |cons x r ih=>exact .cons (.refl x) ih
theorem Ec {a b x y:Nat}(h:(a==b)=false):((a,x):F4)≠(b,y):=by rintro ⟨⟩;simp at h
theorem nd1 {k:F4}: [k].Nodup:=by simp
theorem iV {k k':F4}(h:k≠k'): [k,k'].Nodup:=by simp [h]
theorem G3 {k:F4}:k∉ ([]:List F4):=by simp
theorem Hl {i d u:Nat}{ks:List F4}(h:Nat.blt d 900000=true)(hr:Co i∉ks):Co i∉ (d,u)::ks:=by
  simp only [lS,not_or]
  exact ⟨fun e=>XG h i e.symm,hr⟩
theorem X3 {l:List D}:All2 DLe l l:=by
  induction l with
  |nil=>exact .nil
  |cons x r ih=>exact .cons (.refl x) ih
end
end Go.Abs
namespace Go.Abs
open Go
theorem Li {x d:Nat}{l:List Nat}(h:d∈l)(ha:(l.all fun a=> !(a==x))=true):(d==x)=false:=by
  have:=lX.1 ha d h
  simpa using this
theorem Au {ds:List Nat}{d u:Nat}{r:Option Blk}(h:d∈ds): ∀(n:Nat) {l:List (F4×Option Blk)},((l.take n).all fun e=>ds.all fun a=> !(a==e.1.1))=true→G (l.drop n) (d,u)=r→G l (d,u)=r
  |0,_,_,h2=>h2
  |n+1,[],_,h2=>h2
  |n+1,(i,b)::l,h1,h2=>by
   simp only [List.take_succ_cons,List.all_cons,bE]at h1
   exact A9 (Li h h1.1) (Au h n h1.2 h2)
theorem IC {k:F4}{r:Option Blk}: ∀(n:Nat) {l:List (F4×Option Blk)},((l.take n).all fun e=> !(k.1==e.1.1))=true→G (l.drop n) k=r→G l k=r
  |0,_,_,h2=>h2
  |n+1,[],_,h2=>h2
  |n+1,(i,b)::l,h1,h2=>by
   simp only [List.take_succ_cons,List.all_cons,bE]at h1
   exact A9 (by simpa using h1.1) (IC n h1.2 h2)
theorem K8 {t:Nat→AV}: ∀{l:List (Nat×AV)},(l.map fun p=>t p.1)=l.map (fun p=>p.2)→iG t l
  | [],_=>trivial
  |(i,v)::l,h=>by
   rw [lP,lP,List.cons.injEq]at h
   exact ⟨.of h.1,K8 h.2⟩
theorem Mh {x d:Nat}{l:List Nat}(h:d∈l)(ha:(l.all fun a=> !(x==a))=true):(x==d)=false:=by
  have:=lX.1 ha d h
  simpa using this
theorem Ps {α:Type}(xs:List α)(k:F4):Ij (oS xs k)=some [oS xs k]:=by cases xs<;>rfl
def JT {α:Type}(t:Nat→AV)(f:α→List D)(sz:Nat):Nat→List (Nat×Nat×Opd)→List α→Prop
  |_,[],[]=>True
  |i,(off,m,x)::ps,a::as=>off=i*sz∧m=sz∧Ij (ev t x)=some ((f a).map .d)∧JT t f sz (i+1) ps as
  |_,_,_=>False
theorem XI {α:Type}(pre post vs:List α)(h:vs.length≤post.length):Ik (pre++post) pre.length vs=pre++ (vs++post.drop vs.length):=by
  apply List.ext_getElem?
  intro i
  rw [Er _ _ _ _ (by simp;omega)]
  by_cases h1:i<pre.length
  ·rw [bC (by omega),lW h1,lW h1]
  ·rw [lV (by omega),lV (by omega)]
   by_cases h2:i<pre.length+vs.length
   ·rw [bB (by omega),lW (by omega)]
   ·rw [bC (by omega),lV (by omega),lZ]
    congr 1;omega
theorem EZ {α:Type}{t:Nat→AV}{f:α→List D}{sz:Nat}(hf: ∀a,(f a).length=sz): ∀(as:List α) (ps:List (Nat×Nat×Opd)) (i:Nat) (pre post:List AV),pre.length=i*sz→post.length=as.length*sz→JT t f sz i ps as→
    Pe t (pre++post) ps=some (pre++ (as.flatMap f).map .d)
  | [],[],i,pre,post,_,hl,_=>by
    have:post= []:=lY (by simpa using hl)
    subst this;simp [Pe]
  | [],_::_,_,_,_,_,_,hp=>hp.elim
  |_::_,[],_,_,_,_,_,hp=>hp.elim
  |a::as,(off,m,x)::ps,i,pre,post,h1,h2,hp=>by
   obtain ⟨rfl,rfl,hc,hr⟩:=hp
   have hl:post.length=m+as.length*m:=by rw [h2,lJ,bR];omega
   have hv:((f a).map AV.d).length=m:=by simp [hf]
   simp only [Pe,hc,hv,true_and]
   rw [bB (by simp [h1,hl]),← h1,XI _ _ _ (by rw [hv,hl];omega),hv,← lM]
   rw [EZ hf as ps (i+1) _ _ (by rw [lK,hv,h1,bR];omega) (by rw [lU,hl];omega) hr]
   simp
theorem FA {α:Type}{f:α→List D}{sz:Nat}(hf: ∀a,(f a).length=sz): ∀as:List α,Kl sz as.length (as.flatMap f)=as.map f
  | []=>rfl
  |a::as=>by
   simp only [lJ,Kl,l4,lP]
   rw [List.take_left' (hf a),List.drop_left' (hf a),FA hf as]
theorem ID {α:Type}(z:List α): ∀n,(Nh z n).length=n*z.length
  |0=>by simp [Nh]
  |n+1=>by simp [Nh,ID z n,bR];omega
theorem IE: ∀l:List D,Ix (l.map .d)=some l
  | []=>rfl
  |x::r=>by simp [Ix,IE r]
theorem TK {α:Type}{t:Nat→AV}{h:E8}{e sz n:Nat}{z:List D}{ps:List (Nat×Nat×Opd)}(f:α→List D)(xs:List α)(hf: ∀a,(f a).length=sz)(hz:z.length=sz)(hn:xs.length=n)(hp:JT t f sz 0 ps xs)(hm: ∀a,(f a).map nrm=f a):
    H8 t h (.dslice e sz n z ps)=some (.d (.list (xs.map f))):=by
  have:=EZ hf xs ps 0 [] ((Nh z n).map .d) (by simp) (by rw [lQ,ID,hz,hn]) hp
  simp only [lO]at this
  simp only [H8,this,lA,IE,lE]
  rw [← hn,AP,FA hf,List.map_map,show ((fun x=>List.map nrm x)∘f)=f from funext hm]
/-- A key put into a set. -/
def mC (ks:List Int)(n:Int):List Int:=if n∈ks then ks else ks++ [n]
theorem DLe.bp {xs ys:List D}{off:Nat}(h:All2 (fun x y=>DLe x y∧y.one=true) xs ys):DLe (.bp xs off) (.bp ys off):=by
  intro w I v hv
  cases hv with
  |bp _ _ g vs ty fz hI hg hl hone hr=>
   refine .bp ys off g vs ty fz hI hg (by rw [← h.length];exact hl) (fun i d hi=> ?_) (fun i d hi=> ?_)
   ·obtain ⟨a,_,h2⟩:=h.get hi;exact h2.2
   ·obtain ⟨a,h1,h2⟩:=h.get hi;exact h2.1 _ _ _ (hr i a h1)
section
variable {P:Program}{u:Nat}{r:List AOp}{l:List (Nat×AV)}{g:List (F4×Option Blk)}{t:Nat→AV}{h:E8}
/-- Any number of elements behind a slice of the run's own, or behind nil. -/
theorem IF {K:(Nat→AV)→E8→Prop}{α:Type}{d e sz:Nat}{ty:TypeId}{x y:Opd}(f:α→List D)(k:F4)(xs ys zs:List α)(hy:X5 (G g) sz (ev (T l) y)=some (ys.map f))(hx:ev (T l) x=oS xs k)(hb:G g k=oB e sz f xs)(hl:Q4 xs ys=some zs)(hn:G g (d,u)=none)
    (hk:L6 P u r (T ((d,oS zs (d,u))::l)) (G (((d,u),oB e sz f zs)::(k,none)::g)) K):L6 P u (⟨some d, .append ty e sz x y,none⟩::r) (T l) (G g) K:=by
  cases ys with
  |cons v ys=>
   refine G7 f k xs v ys zs hy hx hb hl ?_
   rw [T1 (k:=(d,u)) (K5 hl),RD (K5 hl)]at hk
   exact hk
  |nil=>
   obtain ⟨h1,rfl⟩:=Db hl
   cases xs with
   |nil=>
    have hy':X5 (G g) sz (ev (T l) y)=some []:=hy
    have hx':ev (T l) x= .d .nilS:=hx
    unfold L6
    simp only [gW,Yp,Gz,hy',hx',O9]
    have e0:G (((d,u),oB e sz f ([]:List α))::(k,none)::g)=G g:=by
      funext q
      rw [G,G]
      by_cases e1:q=(d,u)
      ·subst e1;rw [bB rfl,hn];rfl
      ·rw [bC e1]
       by_cases e2:q=k
       ·subst e2;rw [bB rfl,hb];rfl
       ·rw [bC e2]
    rw [← e0]
    exact hk
   |cons x0 xs=>
    refine Mz f k (x0::xs) [] _ hy hx hb hl ?_
    exact hk
end
end Go.Abs
namespace Go.Abs
open Go
/-! ### Functions that can be computed, and what they say of the plain ones -/
/-- What the one gives, the other one gives. -/
class Le {α:Type} (x y:Option α):Prop where
  out: ∀r,x=some r→y=some r
section
variable {α β γ σ τ:Type}
instance {x y:Option α}:CoeFun (Le x y) (fun _=> ∀r,x=some r→y=some r):=⟨fun h=>h.out⟩
instance (priority:=low) Le.refl (x:Option α):Le x x:=⟨fun _ h=>h⟩
instance Le.bind {x y:Option α}{f g:α→Option β}[h:Le x y][hf: ∀v,Le (f v) (g v)]:Le (x.bind f) (y.bind g):=by
  refine ⟨fun r hr=> ?_⟩
  cases x with
  |none=>cases hr
  |some v=>rw [h v rfl];exact hf v r hr
instance Le.cond {b:Bool}{x y x' y':Option α}[h:Le x x'][h':Le y y']:Le (cond b x y) (cond b x' y'):=by cases b<;>assumption
instance Le.ite {p:Prop}[Decidable p]{x y x' y':Option α}[h:Le x x'][h':Le y y']:Le (if p then x else y) (if p then x' else y'):=by split<;>assumption
instance Le.thenS {x x':Option (Sum σ β)}{f f':σ→Option γ}{g g':β→Option γ}[h:Le x x'][hf: ∀v,Le (f v) (f' v)][hg: ∀v,Le (g v) (g' v)]:Le (thenS x f g) (thenS x' f' g'):=by
  refine ⟨fun r hr=> ?_⟩
  cases x with
  |none=>cases hr
  |some v=>rw [h v rfl];cases v<;>first|exact hf _ r hr|exact hg _ r hr
/-- Loops that the kernel runs. -/
@[reducible] def Ff:Lp:=⟨fun f s=>loopN f 100000 s⟩
theorem Le.loopN {f f':σ→Option (Stp σ τ)}(h: ∀s,Le (f s) (f' s)): ∀(n:Nat) (s:σ),Le (loopN f n s) (loopN f' n s)
  |0,s=>⟨fun r hr=>by cases hr⟩
  |n+1,s=>⟨fun r hr=>by
   rw [Abs.loopN]at hr ⊢
   cases hf:f s with
   |none=>rw [hf]at hr;cases hr
   |some x=>
    rw [hf]at hr
    rw [h s x hf]
    cases x with
    |go s'=>exact Le.loopN h n s' r hr
    |out t=>exact hr⟩
instance Le.loop {f f':σ→Option (Stp σ τ)}[h: ∀s,Le (f s) (f' s)](s:σ):Le (@loop _ _ Ff f s) (loop f' s):=⟨fun r hr=>loop_some.2 ⟨_,Le.loopN h _ s r hr⟩⟩
theorem Le.loopLh {f f':σ→α→Option (Stp σ τ)}{e:σ→τ}(h: ∀s a,Le (f s a) (f' s a)): ∀(l:List α) (s:σ),Le (loopL f e l s) (loopL f' e l s)
  | [],s=>⟨fun r hr=>hr⟩
  |a::l,s=>⟨fun r hr=>by
   rw [Abs.loopL]at hr ⊢
   cases hf:f s a with
   |none=>rw [hf]at hr;cases hr
   |some x=>
    rw [hf]at hr
    rw [h s a x hf]
    cases x with
    |go s'=>exact Le.loopLh h l s' r hr
    |out t=>exact hr⟩
instance Le.loopL {f f':σ→α→Option (Stp σ τ)}{e:σ→τ}[h: ∀s a,Le (f s a) (f' s a)](l:List α)(s:σ):Le (loopL f e l s) (loopL f' e l s):=Le.loopLh h l s
end
end Go.Abs
/-! Short names for what the generated proofs use most. -/
namespace Go.Abs
open Go
abbrev oo (d:Nat)(k:AK):AOp:=⟨some d,k,none⟩
abbrev og (d:Nat)(k:AK)(j:Nat):AOp:=⟨some d,k,some (j,true)⟩
abbrev oh (d:Nat)(k:AK)(j:Nat):AOp:=⟨some d,k,some (j,false)⟩
abbrev oe (k:AK):AOp:=⟨none,k,none⟩
abbrev ci (n:Int):Opd:= .c (.v (.int .i64 n))
abbrev cf (n:Nat):Opd:= .c (.fn (.func n) [] [])
abbrev z0:D:= .v (.int .i64 0)
abbrev zf:D:= .v (.bool false)
abbrev di (n:Int):AV:= .d (.v (.int .i64 n))
abbrev db (b:Bool):AV:= .d (bo b)
abbrev dl {α:Type}(e:α→List D)(xs:List α):AV:= .d (.list (List.map e xs))
/-- What lies at the first key with this number. -/
def gl:List (F4×Option Blk)→Nat→Option (F4×Option Blk)
  | [],_=>none
  |(k,b)::l,d=>cond (Nat.beq k.1 d) (some (k,b)) (gl l d)
theorem XJ {b:Option Blk}{k:F4}: ∀{g:List (F4×Option Blk)},gl g k.1=some (k,b)→G g k=b
  | [],h=>by cases h
  |(q,c)::l,h=>by
   unfold gl at h
   cases e:Nat.beq q.1 k.1
   ·rw [e,bA]at h
    have ne:k≠q:=by rintro rfl;simp at e
    rw [G,bC ne];exact XJ h
   ·rw [e,l9]at h
    simp only [Option.some.injEq,Prod.mk.injEq]at h
    obtain ⟨rfl,rfl⟩:=h
    exact G_hit
theorem gq {d u:Nat}{b:Option Blk}{g:List (F4×Option Blk)}(h:gl g d=some ((d,u),b)):G g (d,u)=b:=XJ h
theorem MJ {l:List (Nat×AV)}: ∀{l0:List (Nat×AV)},l0.map (fun p=>(p.1,T l p.1))=l0→iG (T l) l0
  | [],_=>trivial
  |(i,v)::r,h=>by
   simp only [lP,List.cons.injEq,Prod.mk.injEq,true_and]at h
   exact ⟨.of h.1,MJ h.2⟩
theorem MK {g:List (F4×Option Blk)}: ∀{g0:List (F4×Option Blk)},g0.map (fun p=>gl g p.1.1)=g0.map some→ES (G g) g0
  | [],_=>trivial
  |(k,b)::r,h=>by
   simp only [lP,List.cons.injEq]at h
   refine ⟨?_,MK h.2⟩
   cases b with
   |none=>trivial
   |some b=>exact ⟨b,XJ h.1, .refl b⟩
theorem E3 {l l0:List (Nat×AV)}{g g0:List (F4×Option Blk)}(h1:l0.map (fun p=>(p.1,T l p.1))=l0)(h2:g0.map (fun p=>gl g p.1.1)=g0.map some):Sb ⟨T l0,G g0⟩ ⟨T l,G g⟩:=B7 (MJ h1) (MK h2)
theorem nl {a b:Nat}(h:Nat.ble a b=true):a≤b:=Nat.le_of_ble_eq_true h
theorem bs {α β:Type}{o:Option α}{f:α→Option β}{r:β}{Q:Prop}(h:o.bind f=some r)(k: ∀v,o=some v→f v=some r→Q):Q:=by
  cases o with
  |none=>cases h
  |some v=>exact k v rfl h
theorem js {σ β γ:Type}{x:Option (Sum σ β)}{f:σ→Option γ}{g:β→Option γ}{r:γ}{Q:Prop}(h:thenS x f g=some r)(k: ∀y,x=some y→Sum.elim f g y=some r→Q):Q:=by
  obtain ⟨y,h1,h2⟩:=PI h
  exact k y h1 h2
section
variable {P:Program}{N u:Nat}{rk:Option F4}{aops:List AOp}{r:List It}{l:List (Nat×AV)}{g:List (F4×Option Blk)}{K:(Nat→AV)→E8→Prop}{Q:Ex→St→Prop}{s:St}
theorem cc {α:Type}{o:Opd}{a b:AC}{c:Bool}{x y z:α}(hc:ev s.t o= .d (.v (.bool c)))(h:cond c x y=z)(h1:c=true→x=z→Gl P N rk (.c a::r) Q .nrm s)(h2:c=false→y=z→Gl P N rk (.c b::r) Q .nrm s):Gl P N rk (.c (.cond o a b)::r) Q .nrm s:=
  fW c hc (fun e=>h1 e (H4 e h)) (fun e=>h2 e (fX e h))
theorem sd {d:Nat}{k:AK}{v:D}(h0:W8 k=0)(hv:H8 (T l) (G g) k=some (.d v))(hk:L6 P u aops (T ((d, .d v)::l)) (G g) K):L6 P u (⟨some d,k,none⟩::aops) (T l) (G g) K:=B6 (.d v) h0 hv hk
theorem sp {d:Nat}{k:AK}{q:F4}{n:Nat}(h0:W8 k=0)(hv:H8 (T l) (G g) k=some (.ptr q n))(hk:L6 P u aops (T ((d, .ptr q n)::l)) (G g) K):L6 P u (⟨some d,k,none⟩::aops) (T l) (G g) K:=B6 (.ptr q n) h0 hv hk
theorem sq {d:Nat}{k:AK}{q:F4}{n:Nat}(hv:((W8 k,H8 (T l) (G g) k):Nat×Option AV)=(0,some (.ptr q n)))(hk:L6 P u aops (T ((d, .ptr q n)::l)) (G g) K):L6 P u (⟨some d,k,none⟩::aops) (T l) (G g) K:=B6 (.ptr q n) (congrArg Prod.fst hv) (congrArg Prod.snd hv) hk
theorem sm {d ty:Nat}{k:AK}{q:F4}{n:Nat}{cs:List AV}(hv:((Pz k,Ph u d (T l) k):Bool×Option (AV×Blk))=(true,some (.ptr q n, .box ty cs)))(hk:L6 P u aops (T ((d, .ptr q n)::l)) (G (((d,u),some (.box ty cs))::g)) K):L6 P u (⟨some d,k,none⟩::aops) (T l) (G g) K:=Zg _ _ (congrArg Prod.fst hv) (congrArg Prod.snd hv) hk
theorem sn {d ty:Nat}{k:AK}{q:F4}{n:Nat}{cs:List AV}(h0:Pz k=true)(hv:Ph u d (T l) k=some (.ptr q n, .box ty cs))(hk:L6 P u aops (T ((d, .ptr q n)::l)) (G (((d,u),some (.box ty cs))::g)) K):L6 P u (⟨some d,k,none⟩::aops) (T l) (G g) K:=Zg _ _ h0 hv hk
theorem gv {d j:Nat}{b w:Bool}{k:AK}{v:D}(h0:W8 k=0)(hg:eH (T l j) b w)(hv:w=true→H8 (T l) (G g) k=some (.d v))(hk:L6 P u aops (T ((d,gd w true (.d v))::l)) (G g) K):L6 P u (⟨some d,k,some (j,b)⟩::aops) (T l) (G g) K:=T3 w (.d v) h0 hg hv hk
theorem sv {d:Nat}{k:AK}{v:D}(hv:((W8 k,H8 (T l) (G g) k):Nat×Option AV)=(0,some (.d v)))(hk:L6 P u aops (T ((d, .d v)::l)) (G g) K):L6 P u (⟨some d,k,none⟩::aops) (T l) (G g) K:=B6 (.d v) (congrArg Prod.fst hv) (congrArg Prod.snd hv) hk
theorem ss {d:Nat}{k:AK}{q:F4}(hv:((W8 k,H8 (T l) (G g) k):Nat×Option AV)=(0,some (.sl q)))(hk:L6 P u aops (T ((d, .sl q)::l)) (G g) K):L6 P u (⟨some d,k,none⟩::aops) (T l) (G g) K:=B6 (.sl q) (congrArg Prod.fst hv) (congrArg Prod.snd hv) hk
theorem sl {d n off:Nat}{p:Opd}{q:F4}{ty:TypeId}{cs:List AV}{v:D}(hp:ev (T l) p= .ptr q off)(hb:G g q=some (.box ty cs))(hv:(cs.drop off).head? =some (.d v))(hk:L6 P u aops (T ((d, .d v)::l)) (G g) K):L6 P u (⟨some d, .load n false p,none⟩::aops) (T l) (G g) K:=B6 (.d v) rfl (U6 hp hb hv) hk
theorem V6 {n:Nat}{p x:Opd}{k:F4}{off:Nat}{ty:TypeId}{bs cs:List AV}(hx:((Ij (ev (T l) x),cs.length,ev (T l) p):Option (List AV)×Nat×AV)=(some cs,n, .ptr k off))(hb:G g k=some (.box ty bs))(bs':List AV)(he:((Ik bs off cs,Nat.ble (off+n) bs.length):List AV×Bool)=(bs',true))
    (hk:L6 P u aops (T l) (G ((k,some (.box ty bs'))::g)) K):L6 P u (⟨none, .store n p x,none⟩::aops) (T l) (G g) K:=by
  simp only [Prod.mk.injEq]at hx he
  exact U7 _ _ _ _ _ hx.1 hx.2.1 hx.2.2 hb (Nat.le_of_ble_eq_true he.2) bs' he.1 hk
theorem gp {d j:Nat}{b w:Bool}{k:AK}{q:F4}{n:Nat}(h0:W8 k=0)(hg:eH (T l j) b w)(hv:w=true→H8 (T l) (G g) k=some (.ptr q n))(hk:L6 P u aops (T ((d,gd w true (.ptr q n))::l)) (G g) K):L6 P u (⟨some d,k,some (j,b)⟩::aops) (T l) (G g) K:=T3 w (.ptr q n) h0 hg hv hk
theorem gt {d j:Nat}{w:Bool}{k:AK}{v:D}(hg:((W8 k,T l j):Nat×AV)=(0, .d (bo w)))(hv:w=true→H8 (T l) (G g) k=some (.d v))(hk:L6 P u aops (T ((d,gd w true (.d v))::l)) (G g) K):L6 P u (⟨some d,k,some (j,true)⟩::aops) (T l) (G g) K:=T3 w (.d v) (congrArg Prod.fst hg) (L5 (congrArg Prod.snd hg)) hv hk
theorem gf {d j:Nat}{w:Bool}{k:AK}{v:D}(hg:((W8 k,T l j):Nat×AV)=(0, .d (bo w)))(hv:(!w)=true→H8 (T l) (G g) k=some (.d v))(hk:L6 P u aops (T ((d,gd (!w) true (.d v))::l)) (G g) K):L6 P u (⟨some d,k,some (j,false)⟩::aops) (T l) (G g) K:=T3 (!w) (.d v) (congrArg Prod.fst hg) (N7 (congrArg Prod.snd hg)) hv hk
theorem sa {d j x:Nat}{c q:Bool}{yo:Opd}(hj:ev (T l) (.t j)= .d (bo c))(hx:ev (T l) (.t x)=gd c true (.d (bo q)))(hy:ev (T l) yo= .d (bo false))(hk:L6 P u aops (T ((d, .d (bo (c&&q)))::l)) (G g) K):L6 P u (⟨some d, .pick (.t j) (.t x) yo,none⟩::aops) (T l) (G g) K:=B6 _ rfl (eG hj (fun hc=>by rw [hx,A8 hc]) hy) hk
theorem lr {a:AC}(h: ∀u,(∀k,G g k≠none→k.2≠u)→L6 P u aops (T l) (G g) fun t h=>Gl P N rk (.c a::r) Q .nrm ⟨t,h⟩):Gl P N rk (.c (.seq (.reg aops) a)::r) Q .nrm ⟨T l,G g⟩:=A3 (M6 h)
theorem B8 {a:AC}(h: ∀{u:Nat} {_: ∀k,G g k≠none→k.2≠u},L6 P u aops (T l) (G g) fun t h=>Gl P N rk (.c a::r) Q .nrm ⟨t,h⟩):Gl P N rk (.c (.seq (.reg aops) a)::r) Q .nrm ⟨T l,G g⟩:=lr fun u hu=> @h u hu
theorem B5 (h: ∀{u:Nat} {_: ∀k,G g k≠none→k.2≠u},L6 P u aops (T l) (G g) fun t h=>Gl P N rk r Q .nrm ⟨t,h⟩):Gl P N rk (.c (.reg aops)::r) Q .nrm ⟨T l,G g⟩:=M6 fun u hu=> @h u hu
theorem M8 (hn:iM aops=true)(h: ∀{u:Nat} {_: ∀k,G g k≠none→k.2≠u},L6 P u aops (T l) (G g) fun t h=>Gl P N rk r Q .nrm ⟨t,h⟩):Gl P N rk (.c (.draw aops [])::r) Q .nrm ⟨T l,G g⟩:=Si hn fun u hu=> @h u hu
end
section
variable {t:Nat→AV}{h:E8}
theorem vb {op:BinOp}{x y:Opd}{k:IntKind}{a b:Int}{v:Value}{w:Bool}(hx:ev t x=gd w true (.d (.v (.int k a))))(hy:ev t y= .d (.v (.int k b)))(hr:IT op k a b=some v)(hw:w=true):H8 t h (.bin op x y)=some (.d (.v v)):=
  An (by rw [hx,A8 hw]) hy hr
theorem vl {n:Nat}{p:Opd}{k:F4}{off:Nat}{ty:TypeId}{bs:List AV}{v:AV}{w:Bool}(hp:ev t p=gd w true (.ptr k off))(hb:h k=some (.box ty bs))(hv:(bs.drop off).head? =some v)(hw:w=true):H8 t h (.load n false p)=some v:=U6 (by rw [hp,A8 hw]) hb hv
end
end Go.Abs
/-! Own memory among what a call hands out: slices that may be empty. -/
namespace Go.Abs
open Go
/-- A slice of the run's own, or one of nothing. -/
def oE {α:Type}(xs:List α)(k:F4):AV:=match xs with
  | []=> .d (.list [])
  |_=> .sl k
theorem RJ {α:Type}{k:F4}{xs:List α}(h:xs≠ []):oE xs k= .sl k:=by cases xs<;>first|exact absurd rfl h|rfl
theorem gH {α:Type}{ty:TypeId}{sz:Nat}{e:α→List D}{xs:List α}{f:F4→F4}:(oB ty sz e xs).map (Jq f)=oB ty sz e xs:=by cases xs<;>rfl
theorem TL {α:Type}(xs:List α)(k:F4):Ij (oE xs k)=some [oE xs k]:=by cases xs<;>rfl
section
variable {t:Nat→AV}{h:E8}
theorem XK {α:Type}{sz:Nat}{x i:Opd}{f:α→List D}{q:F4}{ty:TypeId}{xs:List α}{k:IntKind}{n:Int}{a:α}(hx:ev t x=oE xs q)(hi:ev t i= .d (.v (.int k n)))(hb:h q=oB ty sz f xs)(hv:F0 xs n=some a):H8 t h (.idxS sz x i)=some (.aptr q sz n.toNat 0):=
  gA (hx.trans (RJ (Wt hv))) hi (JP hb (Wt hv)) hv
theorem gI {α:Type}{x:Opd}{f:α→List D}{q:F4}{ty:TypeId}{sz:Nat}{xs:List α}(hx:ev t x=oE xs q)(hb:h q=oB ty sz f xs):H8 t h (.len x)=some (.d (i64 xs.length)):=by
  cases xs with
  |nil=>simp only [H8,hx,oE,lL]
  |cons a xs=>exact gB (f:=f) hx hb
theorem iW {α:Type}{n:Nat}{k:F4}{ty:TypeId}{sz:Nat}{f:α→List D}{xs:List α}(hb:h k=oB ty sz f xs):M5 h (n+1) (oE xs k)=some (.list (xs.map f)):=by
  cases xs with
  |nil=>rfl
  |cons x xs=>exact ER hb
end
/-- What hands out data hands out no memory. -/
theorem MCall.ofP {P:Program}{f:FuncId}{ds:List D}{r:D}(hp:PCall P f ds r):MCall P f (ds.map .d) [] (.d r) [] [none]:=by
  refine ⟨by simp [eJ,jW,gD,cH],hp.1,fun w I ρ vs H hlen hrep=> ?_⟩
  refine (hp.2 w I vs H.ilt (by simpa using hlen) (fun i d hi=> ?_)).mono ?_
  ·have:=hrep i (.d d) (by rw [lI,hi];rfl)
   cases this with|d _ _ h=>exact h
  rintro e w' ⟨x,I',rfl,hr,tr⟩
  have hno: ∀g,¬own ρ (G (Wz 0 [])) g:=by rintro g ⟨k,b,h1,_⟩;cases h1
  have H2:HeapOK w' I' ρ (G (Wz 0 [])):=H.keep (fun g hg=>absurd hg (hno g)) (fun b hb=>tr.frame b (H.ilt b hb)) tr.imm (fun g hg=>absurd hg (hno g)) tr.ilt (fun _ _ h=>h) tr.size H.fresh H.rone
  refine ⟨x, .d r,I',ρ,G (Wz 0 []),rfl, .d _ _ hr,H2,⟨tr.os,tr.tape,tr.output,tr.size,fun b hb _=>tr.frame b hb,tr.imm,fun b hb hl=> .inl (tr.immBack b hb hl),fun b hb _=>hb,fun _ _ h=>h⟩,fun j=>XD j,rfl,fun i b hb=>by simp at hb,fun j b hb=> ?_,fun j hj i hi=>absurd hi (by simp),fun j j' hj hj' e=> ?_⟩
  ·cases j<;>simp at hb
  ·simp only [lJ,lL]at hj hj'
   omega
theorem AVle.tup {xs ys:List AV}(h:All2 AVle xs ys):AVle (.tup xs) (.tup ys):=by
  intro w I ρ v hv
  cases hv with
  |tup _ vs hl hr=>
   refine .tup _ vs (h.length▸hl) (fun i c hc=> ?_)
   obtain ⟨a,e1,e2⟩:=h.get hc
   exact e2 _ _ _ _ (hr i a e1)
theorem gJ {α:Type}{u S j:Nat}{f:F4→F4}{ty:TypeId}{sz:Nat}{e:α→List D}{xs:List α}{r:List (Option Blk)}{L:List (F4×Option Blk)}(h:Vq u S f (j+1) r=L):Vq u S f j (oB ty sz e xs::r)=((S+j,u),oB ty sz e xs)::L:=by
  rw [Vq,gH,h]
theorem iX {P:Program}{u:Nat}{l:List (Nat×AV)}{g:List (F4×Option Blk)}{S:Nat}{f:Opd}{args:List Opd}{fid:FuncId}{avs avs0:List AV}{pre:List Blk}{v v':AV}{post:List (Option Blk)}{new:List (Option Blk)}(hM:MCall P fid avs0 pre v post new)(κs ks us:List F4)(g':List (F4×Option Blk))
    (hc:T5 (T l) f args=some (fid,avs)) (hle:All2 AVle avs (avs0.map (GP (Z5 (Iw κs) (Iw κs))))) (hks:avs.flatMap (Q5 (G g) 6)=ks) (hlive: ∀q∈ks,G g q≠none)
    (hpre:TI (G g) κs (pre.map (Jq (Z5 (Iw κs) (Iw κs))))) (hsub: ∀k∈κs,k∈ks) (hnd:κs.Nodup) (hv:MD (Z5 (Iw κs) fun j=>(S+j,u)) v=v')
    (hus:(Rg (Iw κs) (Z5 (Iw κs) fun j=>(S+j,u)) 0 post++Vq u S (Z5 (Iw κs) fun j=>(S+j,u)) 0 new).map (·.1)=us) {L:List (F4×Option Blk)} (hL:Vq u S (Z5 (Iw κs) fun j=>(S+j,u)) 0 new=L)
    (hg:O9 (G g) (Rg (Iw κs) (Z5 (Iw κs) fun j=>(S+j,u)) 0 post++L)=G g'):OC P u l g S f args v' ks us g':=
  R9 hM κs ks us g' hc hle hks hlive hpre hsub hnd hv hus (by rw [hL];exact hg)
end Go.Abs
/-! Own memory becomes data, wherever that is wanted. -/
namespace Go.Abs
open Go
/-- A value, where the blocks at some keys have become data (h holds these). -/
def cM (h:E8)(x y:AV):Prop:=AVle x y∨∃d d',M5 h 6 x=some d∧DLe d d'∧y= .d d'
def gK (h:E8)(ks:List F4)(k:F4)(b:Blk):Prop:=k∉ks∧∃b0,h k=some b0∧(b0=b∨∃ty cs cs',b0= .box ty cs∧b= .box ty cs'∧All2 (cM (S4 h ks)) cs cs')
def iY (I:Nat→Prop)(ρ:Rho)(h:E8)(ks:List F4):Nat→Prop:=fun b=>I b∨own ρ (S4 h ks) b
section
variable {w:World}{I:Nat→Prop}{ρ:Rho}{h:E8}{ks:List F4}
theorem Ja {q:F4}{b:Blk}(hq:S4 h ks q=some b):h q=some b∧q∈ks:=by
  have:(if q∈ks then h q else none)=some b:=hq
  split at this
  ·exact ⟨this,‹_›⟩
  ·cases this
theorem RK (H:HeapOK w I ρ h){x y:AV}{v:Value}(hf:cM (S4 h ks) x y)(hx:RepV w I ρ x v):RepV w (iY I ρ h ks) ρ y v:=by
  rcases hf with q|⟨d,d',h1,h2,rfl⟩
  ·exact (q _ _ _ _ hx).keep (fun _ _=>rfl) (fun _ h=> .inl h) (fun _ _ h=>h)
  ·have Hk:=H.sub fun q b hq=>(Ja (ks:=ks) hq).1
   exact .d _ _ (h2 _ _ _ (Kn Hk 6 x d v hx h1))
theorem Zl {k:F4}{b b0:Blk}(q:b0=b∨∃ty cs cs',b0= .box ty cs∧b= .box ty cs'∧All2 (cM (S4 h ks)) cs cs'):M7 ρ k b=M7 ρ k b0:=by
  rcases q with rfl|⟨ty,cs,cs',rfl,rfl,_⟩<;>rfl
theorem RL (H:HeapOK w I ρ h){h':E8}(hh: ∀k b,h' k=some b→gK h ks k b):HeapOK w (iY I ρ h ks) ρ h':=by
  have Hk:=H.sub fun q b hq=>(Ja (ks:=ks) hq).1
  refine ⟨fun k b hb=> ?_,fun k k' b b' g h1 h2 h3 h4=> ?_,fun k b g h1 h2 hi=> ?_,fun k b g h1 h2=> ?_,fun b hb=> ?_,H.fresh,H.rone⟩
  ·obtain ⟨_,b0,e1,rfl|⟨ty,cs,cs',rfl,rfl,ha⟩⟩:=hh k b hb
   ·exact (H.blk k b0 e1).keep (fun _ _=>rfl) (fun _ _=>rfl) (fun _ h=> .inl h) (fun _ _ h=>h)
   ·obtain ⟨g,vs,b1,b2,b3,b4,b5⟩:=H.blk k _ e1
    refine ⟨g,vs,b1,b2,by rw [← ha.length];exact b3,b4,fun i c hc=> ?_⟩
    obtain ⟨x,g1,g2⟩:=ha.get hc
    exact RK H g2 (b5 i x g1)
  ·obtain ⟨_,b0,e1,q⟩:=hh k b h1
   obtain ⟨_,b1,e2,q'⟩:=hh k' b' h2
   rw [Zl q]at h3
   rw [Zl q']at h4
   exact H.sep k k' b0 b1 g e1 e2 h3 h4
  ·obtain ⟨n,b0,e1,q⟩:=hh k b h1
   rw [Zl q]at h2
   rcases hi with hi|⟨k',b',e2,e3⟩
   ·exact H.notI k b0 g e1 h2 hi
   ·obtain ⟨e4,e5⟩:=Ja e2
    have:=H.sep k k' b0 b' g e1 e4 h2 e3
    subst this
    exact n e5
  ·obtain ⟨n,b0,e1,q⟩:=hh k b h1
   rw [Zl q]at h2
   exact H.lt k b0 g e1 h2
  ·rcases hb with hb|hb
   ·exact H.ilt b hb
   ·exact Hk.own_lt hb
theorem XL {h':E8}(hh: ∀k b,h' k=some b→gK h ks k b){g:Nat}(ho:own ρ h' g):own ρ h g:=by
  obtain ⟨k,b,h1,h2⟩:=ho
  obtain ⟨_,b0,e1,q⟩:=hh k b h1
  exact ⟨k,b0,e1,by rw [← Zl q];exact h2⟩
theorem eK {h':E8}(hh: ∀k b,h' k=some b→gK h ks k b):Tr w I ρ h w (iY I ρ h ks) ρ h':=
  ⟨rfl,rfl,rfl,bP _,fun _ _ _=>rfl,fun _ h=> .inl h,fun _ hb _=>hb.imp id fun ⟨k,c,a1,a2⟩=>⟨k,c,(Ja a1).1,a2⟩,fun _ hb _=>XL hh hb,fun _ _ h=>h⟩
end
section
variable {P:Program}{N:Nat}{rk:Option F4}{s:St}{Q:Ex→St→Prop}
theorem gL {c:Code}{s0:St}(ks:List F4)(ht: ∀i,cM (S4 s.h ks) (s.t i) (s0.t i))(hg: ∀k b,s0.h k=some b→gK s.h ks k b)(h:AWc P N rk c s0 Q):AWc P N rk c s Q:=by
  intro w I ρ a hs ro hro
  have hs0:Sim w (iY I ρ s.h ks) ρ N s0 a:=⟨hs.size,⟨hs.defers.nd,fun d hd=>by
    obtain ⟨r,e1,e2,e3,e4⟩:=hs.defers.each d hd
    exact ⟨r,e1,e2,fun q=>q.elim e3 fun ⟨k,c,a1,a2⟩=>e4 ⟨k,c,(Ja a1).1,a2⟩,fun q=>e4 (XL hg q)⟩⟩,fun i=>RK hs.heap (ht i) (hs.tmp i),RL hs.heap hg⟩
  refine (h w _ ρ a hs0 ro hro).mono ?_
  rintro e a' w' ⟨s',I',ρ',hq,hs',htr,hnd⟩
  exact ⟨s',I',ρ',hq,hs',(eK hg).trans htr,hnd⟩
end
def jX (h:E8)(t:Nat→AV):List (Nat×AV)→Prop
  | []=>True
  |(i,v)::r=>cM h (t i) v∧jX h t r
def cN (h:E8)(ks:List F4):List (F4×Option Blk)→Prop
  | []=>True
  |(k,b)::r=>(match b with|some b=>gK h ks k b|none=>True)∧cN h ks r
theorem RM {h:E8}{t:Nat→AV}: ∀{l:List (Nat×AV)},jX h t l→∀i,cM h (t i) (T l i)
  | [],_,i=> .inl (.any _)
  |(j,v)::r,H,i=>by
   rw [T]
   split
   ·rename_i e;subst e;exact H.1
   ·exact RM H.2 i
theorem RN {h:E8}{ks:List F4}: ∀{g:List (F4×Option Blk)},cN h ks g→∀k b,G g k=some b→gK h ks k b
  | [],_,k,b,hb=>by cases hb
  |(j,v)::r,H,k,b,hb=>by
   rw [G]at hb
   split at hb
   ·rename_i e;subst e;subst hb;exact H.1
   ·exact RN H.2 k b hb
section
variable {P:Program}{N:Nat}{rk:Option F4}{r:List It}{Q:Ex→St→Prop}{l:List (Nat×AV)}{g:List (F4×Option Blk)}
/-- What is the run's own becomes data. -/
theorem XM {a:AC}(ks:List F4)(l0:List (Nat×AV))(g0:List (F4×Option Blk))(h1:jX (S4 (G g) ks) (T l) l0)(h2:cN (G g) ks g0)(h:Gl P N rk (.c a::r) Q .nrm ⟨T l0,G g0⟩):Gl P N rk (.c a::r) Q .nrm ⟨T l,G g⟩:=
  fun M c hc=>gL (s:=⟨T l,G g⟩) ks (RM h1) (RN h2) (h M c hc)
end
theorem Hc {h:E8}{x y:AV}(e:x=y):cM h x y:= .inl (.of e)
theorem XN {h:E8}{x:AV}{d d':D}(h1:M5 h 6 x=some d)(h2:DLe d d'):cM h x (.d d'):= .inr ⟨d,d',h1,h2,rfl⟩
theorem Tt {h:E8}{ks:List F4}{k:F4}{b:Blk}{l:List (F4×Option Blk)}(h1:h k=some b)(hn:k∉ks)(hl:cN h ks l):cN h ks ((k,some b)::l):=⟨⟨hn,b,h1, .inl rfl⟩,hl⟩
theorem BA {α:Type}{h:E8}{ks:List F4}{k:F4}{ty:TypeId}{sz:Nat}{f:α→List D}{xs:List α}{l:List (F4×Option Blk)}(h1:h k=oB ty sz f xs)(hn:k∉ks)(hl:cN h ks l):cN h ks ((k,oB ty sz f xs)::l):=by
  cases xs with
  |nil=>exact ⟨trivial,hl⟩
  |cons x xs=>exact ⟨⟨hn,_,h1, .inl rfl⟩,hl⟩
theorem DI {h:E8}{ks:List F4}{k:F4}{ty:TypeId}{cs cs':List AV}{l:List (F4×Option Blk)}(h1:h k=some (.box ty cs))(hn:k∉ks)(hc:All2 (cM (S4 h ks)) cs cs')(hl:cN h ks l):cN h ks ((k,some (.box ty cs'))::l):=⟨⟨hn,_,h1, .inr ⟨ty,cs,cs',rfl,rfl,hc⟩⟩,hl⟩
theorem Gn {k:F4}:k∉ ([]:List F4):=by simp
theorem Ct {k q:F4}{ks:List F4}(h:k≠q)(hr:k∉ks):k∉q::ks:=by simp [h,hr]
/-- What is handed in becomes data, and what is handed out is the run's own. -/
theorem FCall.fr {P:Program}{u S:Nat}{f:FuncId}{avs:List AV}{ds ds':List D}{v:AV}{ups:List (F4×Option Blk)}{h0:E8}(hF:FCall P u S f (ds'.map .d) (fun _=>none) v ups)(hd:O2 (M5 h0 6) avs=some ds)(hle:All2 DLe ds ds')(_hu: ∀k∈ups.map (·.1),∃j,j<6∧k=(S+j,u)):
    FCall P u S f avs (S4 h0 (avs.flatMap (Q5 h0 6))) v ((avs.flatMap (Q5 h0 6)).map (fun k=>(k,none))++ups):=by
  refine ⟨hF.1,fun w I ρ h vs H hh hlen hrep hfr=> ?_⟩
  have hlive:=BW avs ds hd
  have heq: ∀q∈avs.flatMap (Q5 h0 6),h q=h0 q:=by
    intro q hq
    cases hb:h0 q with
    |none=>exact absurd hb (hlive q hq)
    |some b=>exact hh q b (by unfold S4;rw [bB hq,hb])
  have hd':O2 (M5 h 6) avs=some ds:=by rw [← hd];exact Tm avs heq
  rw [← BV avs heq]
  clear hd hh heq hlive
  generalize hks:avs.flatMap (Q5 h 6)=ks at*
  let hf:E8:=fun q=>if q∈ks then none else h q
  have hff: ∀k b,hf k=some b→gK h ks k b:=by
    intro q b hq
    have:(if q∈ks then none else h q)=some b:=hq
    split at this
    ·cases this
    ·exact ⟨‹_›,b,this, .inl rfl⟩
  have hU:O9 h (ks.map fun k=>(k,none))=hf:=by
    funext q
    show _=if q∈ks then none else h q
    by_cases e:q∈ks
    ·rw [bB e]
     cases hb:O9 h (ks.map fun k=>(k,none)) q with
     |none=>rfl
     |some b=>
      rcases AZ _ _ _ _ hb with ⟨a,_⟩|a
      ·exact absurd (by simp only [List.map_map,List.mem_map,Function.comp];exact ⟨q,e,rfl⟩) a
      ·simp at a
    ·rw [bC e,Fe]
     simp only [List.map_map,List.mem_map,Function.comp]
     rintro ⟨x,hx,rfl⟩
     exact e hx
  have hUU: ∀(a b:List (F4×Option Blk)) (h:E8),O9 h (a++b)=O9 (O9 h a) b:=by
    intro a
    induction a with
    |nil=>intro b h;rfl
    |cons x a ih=>intro b h;obtain ⟨k,c⟩:=x;exact ih b _
  have H1:=RL (ks:=ks) H hff
  have hk:O2 (M5 (S4 h ks) 6) avs=some ds:=by
    rw [← hd']
    refine Tm avs fun q hq=> ?_
    rw [hks]at hq
    show (if q∈ks then h q else none)=h q
    rw [bB hq]
  obtain ⟨l1,l2⟩:=Gk hk
  have Hk:=H.sub fun q b hq=>(Ja (ks:=ks) hq).1
  refine (hF.2 w (iY I ρ h ks) ρ hf vs H1 (fun q b hq=>by cases hq) (by rw [lQ,← hle.length];omega) (fun i c hc=> ?_) hfr).mono ?_
  ·obtain ⟨d',e1,rfl⟩:=DF hc
   obtain ⟨d,e2,e3⟩:=hle.get e1
   obtain ⟨x,e4,e5⟩:=l2 i d e2
   exact .d _ _ (e3 _ _ _ (Kn Hk 6 x d _ (hrep i x e4) e5))
  rintro e w' ⟨x,I',ρ',rfl,r1,r2,r3,r4⟩
  rw [hUU,hU]
  exact ⟨x,I',ρ',rfl,r1,r2,(eK hff).trans r3,r4⟩
section
variable {P:Program}{u:Nat}{l:List (Nat×AV)}{g:List (F4×Option Blk)}
end
end Go.Abs
/-! Functions as data: a list of functions, one of which is chosen. -/
namespace Go.Abs
open Go
/-- A function, or none, as data. -/
def fnD:Option Nat→D
  |some f=> .fn (.func f) [] []
  |none=> .v .nilFunc
def mD (l:List (Option Nat))(n:Int):Option Nat:=if 0≤n then (l[n.toNat]?).join else none
/-- One of two functions. -/
theorem BB {α:Type}{v a:Nat}{x y:Option α}{r:α}(h:cond (Nat.beq v a) x y=some r):v=a∧x=some r∨Nat.beq v a=false∧y=some r:=by
  cases e:Nat.beq v a
  ·rw [e]at h;exact .inr ⟨rfl,h⟩
  ·rw [e]at h;exact .inl ⟨Nat.eq_of_beq_eq_true e,h⟩
end Go.Abs
namespace Go.Abs
open Go
/-- Elements put into a list at a place. -/
def jQ {α:Type}(xs:List α)(i:Int)(ys:List α):Option (List α):=if xs.length≠0∧ys.length≠0∧0≤i∧i≤xs.length∧xs.length+ys.length≤1000000000 then some (xs.take i.toNat++ys++xs.drop i.toNat)else none
/-- The contract of slices.Insert at a type, as it is used. -/
def mE (P:Program)(f:FuncId)(e sz:Nat):Prop:= ∀(xs ys:List (List D)) (i:Nat),xs≠ []→ys≠ []→i≤xs.length→xs.length+ys.length≤1000000000→
  MCall P f [.sl (900000,0), .d (.v (.int .i64 i)), .sl (900001,0)] [.arr e sz xs, .arr e sz ys] (.sl (800000,0)) [none,none] [some (.arr e sz (xs.take i++ys++xs.drop i))]
end Go.Abs
/-! Shorter proofs: the resolved code need not be written, chains of equal parts. -/
namespace Go.Abs
open Go
/-- What the conversion finds of a function: where its results lie, and its code. -/
def eM (P:Program)(fn:Func)(N:Nat)(M:EL):Option (List RV×AC):=
  match fn.results.toList.mapM (EN P),fn.body with
  |some rs,some c=>match Z4 P N M c,fn.name== "runtime.NumGoroutine" with
   |some ac,false=>some (rs,ac)
   |_,_=>none
  |_,_=>none
theorem fk {P:Program}{f:FuncId}{fn:Func}{N:Nat}{rs:List RV}{ac:AC}(h:P.funcs[f]? =some fn)(hn:fn.ntmps=N)(M:EL)(hc:eM P fn N M=some (rs,ac)):FnOK P f N rs ac:=by
  unfold eM at hc
  split at hc
  ·rename_i rs' c hr hb
   split at hc
   ·rename_i ac' hac hx
    simp only [Option.some.injEq,Prod.mk.injEq]at hc
    obtain ⟨rfl,rfl⟩:=hc
    exact ⟨fn,c,h,hb,hn,hr,⟨M,hac⟩,hx⟩
   ·cases hc
  ·cases hc
def m0:EL:=fun _=> []
theorem rD {h:E8}{n:Nat}{x:D}{r:List AV}{ds:List D}(h2:O2 (M5 h n) r=some ds):O2 (M5 h n) (.d x::r)=some (x::ds):=L9 D4 h2
theorem ca {x:D}{xs ys:List D}(hx:x.one=true)(h:All2 (fun x y=>DLe x y∧y.one=true) xs ys):All2 (fun x y=>DLe x y∧y.one=true) (x::xs) (x::ys):= .cons ⟨.refl _,hx⟩ h
theorem cz: ∀{xs:List D} (_:xs.all D.one=true),All2 (fun x y=>DLe x y∧y.one=true) xs xs
  | [],_=> .nil
  |_::_,h=>by
   simp only [List.all_cons,bE]at h
   exact ca h.1 (cz h.2)
theorem cv {x:AV}{xs ys:List AV}(h:All2 AVle xs ys):All2 AVle (x::xs) (x::ys):= .cons (.of rfl) h
theorem cw: ∀{xs:List AV},All2 AVle xs xs
  | []=> .nil
  |_::_=>cv cw
abbrev zs (n:Nat):List AV:=List.replicate n (di 0)
theorem sg {g g0:List (F4×Option Blk)}{d u:Nat}{b:Blk}(h:gl g d=some ((d,u),some b))(r:ES (G g) g0):ES (G g) (((d,u),some b)::g0):=A2 (gq h) (.of rfl) r
end Go.Abs
/-! Arrays of values, indexed by what is only known as the program runs. -/
namespace Go.Abs
open Go
def XO {α:Type}(xs:List α)(n:Int)(a:α):Option (List α):=if 0≤n∧n.toNat<xs.length then some (xs.set n.toNat a)else none
theorem IG {α:Type}{xs v:List α}{n:Int}{a:α}(h:XO xs n a=some v):(0≤n∧n.toNat<xs.length)∧v=xs.set n.toNat a:=by
  unfold XO at h
  split at h
  ·exact ⟨‹_›,(lC h).symm⟩
  ·cases h
theorem RO {α:Type}{xs:List α}{n:Int}{a:α}(h:F0 xs n=some a):0≤n∧n.toNat<xs.length∧xs[n.toNat]? =some a:=by
  unfold F0 at h
  split at h
  ·exact ⟨‹_›,(lH.1 h).1,h⟩
  ·cases h
theorem ML {α:Type}{f:α→List D}{sz:Nat}(hs: ∀x,(f x).length=sz): ∀{xs:List α} {i:Nat} {a:α},xs[i]? =some a→(((xs.map f).flatten).drop (i*sz)).take sz=f a∧(i+1)*sz≤((xs.map f).flatten).length
  | [],_,_,h=>by simp at h
  |x::r,0,a,h=>by
   simp only [List.getElem?_cons_zero,Option.some.injEq]at h
   subst h
   simp only [lP,List.flatten_cons,Nat.zero_mul,List.drop_zero,bS,Nat.one_mul,lK,hs]
   refine ⟨?_,by omega⟩
   rw [← hs x,List.take_left]
  |x::r,i+1,a,h=>by
   simp only [List.getElem?_cons_succ]at h
   obtain ⟨h1,h2⟩:=ML hs h
   simp only [lP,List.flatten_cons,lK,hs]
   rw [Nat.succ_mul i sz,Nat.add_comm (i*sz) sz,← hs x,List.drop_append,hs x]
   simp only [Nat.add_sub_cancel_left]
   rw [List.drop_eq_nil_of_le (by rw [hs x];omega),lO]
   exact ⟨h1,by rw [Nat.succ_mul (i+1) sz];omega⟩
section
variable {t:Nat→AV}{h:E8}
theorem Zm {α:Type}{len sz:Nat}{x i:Opd}{k:F4}{off:Nat}{kd:IntKind}{n:Int}{xs:List α}{a:α}(hx:ev t x= .ptr k off)(hi:ev t i= .d (.v (.int kd n)))(hv:F0 xs n=some a)(hl:xs.length=len):H8 t h (.idxP len sz x i)=some (.ptr k (off+n.toNat*sz)):=by
  obtain ⟨h0,h1,_⟩:=RO hv
  simp only [H8,hx,hi]
  rw [bB ⟨h0,hl▸h1⟩]
theorem XP {α:Type}{sz off:Nat}{bs:List AV}{n:Int}{xs:List α}{a:α}{f:α→List D}(hs: ∀x,(f x).length=sz)(hv:F0 xs n=some a)(hb:(bs.drop off).take (xs.length*sz)=((xs.map f).flatten).map AV.d):
    sz≤(bs.drop (off+n.toNat*sz)).length∧(bs.drop (off+n.toNat*sz)).take sz=(f a).map .d:=by
  obtain ⟨h0,h1,h2⟩:=RO hv
  obtain ⟨g1,g2⟩:=ML hs h2
  have hlen:=congrArg List.length hb
  rw [lQ,lT,lU]at hlen
  rw [bR,Nat.one_mul]at g2
  have hle:((xs.map f).flatten).length≤xs.length*sz:=by omega
  have hge:(n.toNat+1)*sz≤xs.length*sz:=Nat.mul_le_mul_right _ h1
  rw [bR,Nat.one_mul]at hge
  refine ⟨by rw [lU];omega,?_⟩
  have:(((bs.drop off).take (xs.length*sz)).drop (n.toNat*sz)).take sz=((((xs.map f).flatten).map AV.d).drop (n.toNat*sz)).take sz:=by rw [hb]
  rw [List.drop_take,List.take_take,List.drop_drop,← List.map_drop,← List.map_take,g1,Nat.min_eq_left (by omega)]at this
  exact this
theorem XQ {α:Type}{sz off:Nat}{p:Opd}{k:F4}{ty:TypeId}{bs:List AV}{n:Int}{xs:List α}{a:α}{f:α→List D}{v:AV}(hp:ev t p= .ptr k (off+n.toNat*sz))(hb:h k=some (.box ty bs))(hv:F0 xs n=some a)(hs: ∀x,(f x).length=sz)(hc:(bs.drop off).take (xs.length*sz)=((xs.map f).flatten).map AV.d)(hr:Df ((f a).map .d)=v):H8 t h (.load sz true p)=some v:=by
  obtain ⟨h1,h2⟩:=XP hs hv hc
  simp only [H8,hp,V4,hb,if_true,h1,h2,hr]
theorem FB {α:Type}{off:Nat}{p:Opd}{k:F4}{ty:TypeId}{bs:List AV}{n:Int}{xs:List α}{a:α}{f:α→D}(hp:ev t p= .ptr k (off+n.toNat*1))(hb:h k=some (.box ty bs))(hv:F0 xs n=some a)(hc:(bs.drop off).take (xs.length*1)=((xs.map fun x=> [f x]).flatten).map AV.d):H8 t h (.load 1 false p)=some (.d (f a)):=by
  obtain ⟨h1,h2⟩:=XP (f:=fun x=> [f x]) (fun _=>rfl) hv hc
  simp only [H8,hp,V4,hb,Bool.false_eq_true,if_false]
  cases hd:bs.drop (off+n.toNat*1)with
  |nil=>rw [hd]at h2;cases h2
  |cons x r=>rw [hd]at h2;simp only [List.take_succ_cons,List.take_zero,lP,List.map_nil,List.cons.injEq,and_true]at h2;rw [h2];rfl
end
theorem iZ {α:Type}{xs v:List α}{n:Int}{a:α}{bs:List AV}(h:XO xs n a=some v)(e:bs.length=xs.length):0+n.toNat*1+1≤bs.length:=by
  have:=(IG h).1
  omega
theorem XR {α:Type}(v:List α)(z:α):(List.range v.length).map (fun j=>v.getD j z)=v:=by
  apply List.ext_getElem?
  intro i
  rw [lI]
  by_cases h:i<v.length
  ·simp [h]
  ·simp [h]
theorem gM {α:Type}{xs v:List α}{n:Int}{a:α}(g:α→D)(z:α)(h:XO xs n a=some v):Ik (xs.map fun x=>AV.d (g x)) (0+n.toNat*1) [AV.d (g a)]=(List.range xs.length).map fun j=>AV.d (g (v.getD j z)):=by
  obtain ⟨⟨h0,h1⟩,rfl⟩:=IG h
  have e:xs.length=(xs.set n.toNat a).length:=by rw [List.length_set]
  rw [e,show (fun j=>AV.d (g ((xs.set n.toNat a).getD j z)))=(fun x=>AV.d (g x))∘fun j=>(xs.set n.toNat a).getD j z from rfl,← List.map_map,XR]
  simp only [Ik,bS,Nat.mul_one]
  rw [List.map_set]
def gN (k:IntKind)(a b:Int):Option Int:=if b<0 then none else some (k.wrap (a*2^ (min b.toNat k.bits)))
def Rh (k:IntKind)(a b:Int):Option Int:=if b<0 then none else some (a.fdiv (2^ (min b.toNat k.bits)))
theorem jA {t:Nat→AV}{h:E8}{x y:Opd}{k k':IntKind}{a b v:Int}(hx:ev t x= .d (.v (.int k a)))(hy:ev t y= .d (.v (.int k' b)))(hv:gN k a b=some v):H8 t h (.bin .shl x y)=some (.d (.v (.int k v))):=by
  unfold gN at hv
  split at hv
  ·cases hv
  ·rename_i h1;cases hv;simp only [H8,hx,hy,Th,Bool.true_or,if_true,IT,bC h1,lE]
theorem Nb {t:Nat→AV}{h:E8}{x y:Opd}{k k':IntKind}{a b v:Int}(hx:ev t x= .d (.v (.int k a)))(hy:ev t y= .d (.v (.int k' b)))(hv:Rh k a b=some v):H8 t h (.bin .shr x y)=some (.d (.v (.int k v))):=by
  unfold Rh at hv
  split at hv
  ·cases hv
  ·rename_i h1;cases hv;simp only [H8,hx,hy,Th,Bool.true_or,if_true,IT,bC h1,lE]
end Go.Abs
namespace Go.Abs
open Go
section
variable {P:Program}
end
end Go.Abs
/-! Any number of elements, appended in a region that draws its order. -/
namespace Go.Abs
open Go
section
variable {P:Program}{u:Nat}{r:List AOp}{l:List (Nat×AV)}{g:List (F4×Option Blk)}
theorem Pt: ∀{aops:List AOp} {u:Nat} {t:Nat→AV} {h:E8} {K K':(Nat→AV)→E8→List (List F4×List F4)→Prop},(∀t h tr,K t h tr→K' t h tr)→Fs P u aops t h K→Fs P u aops t h K'
  | [],u,t,h,K,K',hk,hr=>by simp only [Fs]at hr ⊢;exact hk _ _ _ hr
  |⟨dst,k,g⟩::r,u,t,h,K,K',hk,hr=>by
   simp only [Fs]at hr ⊢
   exact cA (fun v ups=>Pt fun t h tr=>hk _ _ _) (WI fun v ups=>Pt fun t h tr=>hk _ _ _) hr
/-- Behind nil. -/
theorem IH {K:(Nat→AV)→E8→List (List F4×List F4)→Prop}{α:Type}{d e sz:Nat}{ty:TypeId}{x y:Opd}(f:α→List D)(ys zs:List α)(hy:X5 (G g) sz (ev (T l) y)=some (ys.map f))(hx:ev (T l) x= .d .nilS)(hl:Q4 ([]:List α) ys=some zs)(hn:G g (d,u)=none)
    (hk:Fs P u r (T ((d,oS zs (d,u))::l)) (G (((d,u),oB e sz f zs)::g)) fun t' h' tr=>K t' h' ((Z2 (T l) (G g) (.append ty e sz x y),[(d,u)])::tr)∧K t' h' ((Z2 (T l) (G g) (.append ty e sz x y),[])::tr)):Fs P u (⟨some d, .append ty e sz x y,none⟩::r) (T l) (G g) K:=by
  obtain ⟨h1,h2⟩:=Db hl
  have h2:zs=ys:=h2
  rw [h2]at hk
  clear h2 hl
  cases ys with
  |nil=>
   have hy':X5 (G g) sz (ev (T l) y)=some []:=hy
   have e0:G (((d,u),oB e sz f ([]:List α))::g)=G g:=by
     funext q
     rw [G]
     by_cases e1:q=(d,u)
     ·subst e1;rw [bB rfl,hn];rfl
     ·rw [bC e1]
   rw [e0]at hk
   unfold Fs
   simp only [gW,Yp,Gz,hy',hx,O9]
   exact Pt (fun _ _ _ q=>q.2) hk
  |cons y0 ys=>
   unfold Fs
   simp only [lP]at hy
   simp only [gW,Yp,Gz,hy,hx]
   rw [bB (by simpa using h1)]
   simp only [Option.getD_some,lP,List.map_nil,O9]
   have e0:Al (G g) (d,u) (some (.arr e sz (f y0::ys.map f)))=G (((d,u),oB e sz f (y0::ys))::g):=by rw [PG];rfl
   rw [e0]
   exact Pt (fun _ _ _ q=>q.1) hk
theorem MM {α:Type}{x:α}{xs ys zs:List α}(h:Q4 (x::xs) ys=some zs):zs≠ []:=by
  obtain ⟨_,rfl⟩:=Db h;simp
/-- Behind a slice of the run's own, or behind nil. -/
theorem Wu {K:(Nat→AV)→E8→List (List F4×List F4)→Prop}{α:Type}{d e sz:Nat}{ty:TypeId}{x y:Opd}(f:α→List D)(k:F4)(xs ys zs:List α)(hy:X5 (G g) sz (ev (T l) y)=some (ys.map f))(hx:ev (T l) x=oS xs k)(hb:G g k=oB e sz f xs)(hl:Q4 xs ys=some zs)(hn:G g (d,u)=none)
    (hk:Fs P u r (T ((d,oS zs (d,u))::l)) (G (((d,u),oB e sz f zs)::(k,none)::g)) fun t' h' tr=>K t' h' ((Z2 (T l) (G g) (.append ty e sz x y),[k,(d,u)])::tr)∧K t' h' ((Z2 (T l) (G g) (.append ty e sz x y),[(d,u)])::tr)∧K t' h' ((Z2 (T l) (G g) (.append ty e sz x y),[])::tr)):Fs P u (⟨some d, .append ty e sz x y,none⟩::r) (T l) (G g) K:=by
  cases xs with
  |nil=>
   have e1:G (((d,u),oB e sz f zs)::(k,none)::g)=G (((d,u),oB e sz f zs)::g):=by
     funext q
     rw [G,G,G]
     by_cases e2:q=(d,u)
     ·rw [bB e2,bB e2]
     ·rw [bC e2,bC e2]
      by_cases e3:q=k
      ·subst e3;rw [bB rfl,hb];rfl
      ·rw [bC e3]
   rw [e1]at hk
   exact IH f ys zs hy hx hl hn (Pt (fun _ _ _ q=>q.2) hk)
  |cons x0 xs=>
   rw [T1 (k:=(d,u)) (MM hl),RD (MM hl)]at hk
   exact WY f k (x0::xs) ys zs hy hx hb hl (Pt (fun _ _ _ q=>q.1) hk)
end
theorem MN {Q R:Prop}(f:Q→R)(q:Q):R:=f q
end Go.Abs
/-! Strings. -/
namespace Go.Abs
open Go
def XS (s:ByteArray)(i:Int):Option Int:=if 0≤i then (s.data.toList[i.toNat]?).map fun b=>(b.toNat:Int)else none
def Uw (a b:ByteArray):Option ByteArray:=if a.size+b.size≤1000000000 then some (a++b)else none
def BC (s:ByteArray)(i j:Int):Option ByteArray:=if 0≤i∧i≤j∧j≤s.size then some (s.extract i.toNat j.toNat)else none
section
variable {t:Nat→AV}{h:E8}{x y z:Opd}{s s' v:ByteArray}{k k':IntKind}{i j:Int}
theorem Vs (hx:ev t x= .d (.v (.string s))):H8 t h (.str .len [x])=some (.d (.v (.int .i64 s.size))):=by
  simp only [H8,lP,List.map_nil,hx,Ma]
theorem gO {n:Int}(hx:ev t x= .d (.v (.string s)))(hy:ev t y= .d (.v (.int k i)))(hv:XS s i=some n):H8 t h (.str .idx [x,y])=some (.d (.v (.int .u8 n))):=by
  unfold XS at hv
  split at hv
  ·rename_i h0
   rw [lD]at hv
   obtain ⟨b,hb,rfl⟩:=hv
   simp only [H8,lP,List.map_nil,hx,hy,Ma,h0,if_true,hb,lE]
  ·cases hv
theorem Lj (hx:ev t x= .d (.v (.string s)))(hy:ev t y= .d (.v (.string s')))(hv:Uw s s'=some v):H8 t h (.str .cat [x,y])=some (.d (.v (.string v))):=by
  unfold Uw at hv
  split at hv
  ·rename_i h0
   cases hv
   simp only [H8,lP,List.map_nil,hx,hy,Ma,h0,if_true]
  ·cases hv
theorem RP {neg:Bool}(hx:ev t x= .d (.v (.string s)))(hy:ev t y= .d (.v (.string s'))):H8 t h (.str (.eq neg) [x,y])=some (.d (.v (.bool (if neg then !(s.toList==s'.toList)else s.toList==s'.toList)))):=by
  simp only [H8,lP,List.map_nil,hx,hy,Ma]
theorem DJ (hx:ev t x= .d (.v (.string s)))(hy:ev t y= .d (.v (.int k i)))(hv:BC s i s.size=some v):H8 t h (.str (.sl true false) [x,y])=some (.d (.v (.string v))):=by
  unfold BC at hv
  split at hv
  ·rename_i h0
   cases hv
   simp only [H8,lP,List.map_nil,hx,hy,Ma]
   rw [bB ⟨h0.1,h0.2.1⟩];rfl
  ·cases hv
theorem JU (hx:ev t x= .d (.v (.string s)))(hy:ev t y= .d (.v (.int k j)))(hv:BC s 0 j=some v):H8 t h (.str (.sl false true) [x,y])=some (.d (.v (.string v))):=by
  unfold BC at hv
  split at hv
  ·rename_i h0
   cases hv
   simp only [H8,lP,List.map_nil,hx,hy,Ma]
   rw [bB ⟨h0.2.1,h0.2.2⟩];rfl
  ·cases hv
end
end Go.Abs
/-! A list that may be empty: the two cases. -/
namespace Go.Abs
open Go
/-- Runs of equal numbers become one. -/
def PK:List Int→List Int
  | []=> []
  | [x]=> [x]
  |x::y::r=>cond (x==y) (PK (y::r)) (x::PK (y::r))
def jB (p:List Int):Option (List Int):=match p with
  | []=>none
  |x::r=>some (PK (x::r))
end Go.Abs
/-! Calls whose code is run in place: what is the run's own is shared with them. -/
namespace Go.Abs
open Go
section
variable {P:Program}{u:Nat}{r:List AOp}{l:List (Nat×AV)}{g:List (F4×Option Blk)}{K:(Nat→AV)→E8→Prop}
/-- What the code that is run in place has to leave. -/
def jC {γ:Type}(rs:List RV)(J:AV→γ→List (Nat×AV)×List (F4×Option Blk)→Prop)(l1:γ→List (Nat×AV))(g1:γ→List (F4×Option Blk))(e:Ex)(s:St):Prop:=
  (e= .nrm∨e= .ret)∧∃v gg,AU s.t s.h rs=some v∧J v gg (l1 gg,g1 gg)∧ES s.h (g1 gg)
def jD {γ:Type}(t:AV→Nat→AV)(v:AV)(_:γ)(x:List (Nat×AV)×List (F4×Option Blk)):Prop:=iG (t v) x.1
theorem Im {dst:Option Nat}{f:Opd}{args:List Opd}{fid:FuncId}{avs:List AV}{rs:List RV}{ac:AC}{N:Nat}{γ:Type}(F:FnOK P fid N rs ac)(l1:γ→List (Nat×AV))(g1:γ→List (F4×Option Blk))
    (hc:T5 (T l) f args=some (fid,avs)) (hl:avs.length≤N)
    (hb:Gl P N none [.c ac] (jC rs (jD fun v=>Sf (T l) dst v) l1 g1) .nrm ⟨T (Vr avs 0),G g⟩)
    (hk: ∀gg u',(∀q,G (g1 gg) q≠none→q.2≠u')→L6 P u' r (T (l1 gg)) (G (g1 gg)) K):L6 P u (⟨dst, .icall f args,none⟩::r) (T l) (G g) K:=by
  unfold L6
  simp only [gW]
  unfold AR
  have hI:ICall P fid avs (G g) fun v h'=> ∀u',(∀q,h' q≠none→q.2≠u')→∃s0,Sb s0 ⟨Sf (T l) dst v,h'⟩∧L6 P u' r s0.t s0.h K:=by
    refine LS F hl ?_
    rw [JS]
    refine AW.mono hb ?_
    rintro e s ⟨he,v,gg,hv,hj,hs⟩
    refine ⟨he,v,hv,fun u' hu'=> ?_⟩
    have S:Sb ⟨T (l1 gg),G (g1 gg)⟩ ⟨Sf (T l) dst v,s.h⟩:=B7 hj hs
    exact ⟨_,S,hk gg u' (S.fresh hu')⟩
  split
  ·rename_i q hq
   exfalso
   simp [T5,hq]at hc
  ·rw [hc];exact hI
theorem PL {l0:List (Nat×AV)}{g0:List (F4×Option Blk)}{s:St}(S:Sb ⟨T l0,G g0⟩ s): ∀{g1:List (F4×Option Blk)},ES (G g0) g1→ES s.h g1
  | [],_=>trivial
  |(k,none)::_,h=>⟨trivial,PL S h.2⟩
  |(k,some b0)::_,h=>by
   obtain ⟨b1,e1,e2⟩:=h.1
   obtain ⟨b,e3,e4⟩:=S.h k b1 e1
   exact ⟨⟨b,e3,e4.trans e2⟩,PL S h.2⟩
/-- The same behind a join. -/
theorem Bn {γ:Type}{l1:γ→List (Nat×AV)}{g1:γ→List (F4×Option Blk)}{dst:Option Nat}{e:Ex}{s:St}{l0:List (Nat×AV)}{g0:List (F4×Option Blk)}(S:Sb ⟨T l0,G g0⟩ s)(he:e= .nrm∨e= .ret)(gg:γ)(ht:iG (Sf (T l) dst (.tup [])) (l1 gg))(hg:ES (G g0) (g1 gg)):
    jC [] (jD fun v=>Sf (T l) dst v) l1 g1 e s:=⟨he, .tup [],gg,rfl,ht,PL S hg⟩
end
end Go.Abs
/-! Ranges over a function that looks at what is the run's own. -/
namespace Go.Abs
open Go
section
variable {P:Program}{N:Nat}{rk:Option F4}{s:St}{Q:Ex→St→Prop}{r:List It}
/-- Such a function: as long as the blocks hold what it looks at, it hands on the elements, one after the other. -/
def kR (P:Program)(c:AV)(Rq:E8→Prop)(L:List (List D)):Prop:= ∃gf fs cs,WM c=some (gf,fs,cs)∧∀(k:F4) (h0:E8) (Inv:Nat→E8→Prop) (Stop:E8→Prop),Inv 0 h0→(∀i h,Inv i h→∃h1,Sb ⟨T [],h1⟩ ⟨T [],h⟩∧Inv i h1∧Rq h1)→
  (∀i h es,L[i]? =some es→Inv i h→YCall P k (es.map .d) h fun v h'=>(v= .d (.v (.bool true))∧Inv (i+1) h')∨(v= .d (.v (.bool false))∧Stop h'))→
   ICall P gf (fs++ [.yld k]++cs) h0 fun _ h'=>Inv L.length h'∨Stop h'
end
section
variable {P:Program}{u:Nat}{r:List AOp}{t:Nat→AV}{h:E8}{K:(Nat→AV)→E8→Prop}
end
section
variable {P:Program}{N:Nat}{rk:Option F4}{s:St}{Q:Ex→St→Prop}{r:List It}
end
end Go.Abs
/-! Slices of the run's own that may hold nothing and yet not be nil. -/
namespace Go.Abs
open Go
/-- A slice of the run's own; b: it is not nil, though it may hold nothing. -/
def oW {α:Type}(b:Bool)(xs:List α)(k:F4):AV:=match xs with
  | []=>cond b (.sl k) (.d .nilS)
  |_=> .sl k
def wB {α:Type}(b:Bool)(ty:TypeId)(sz:Nat)(f:α→List D)(xs:List α):Option Blk:=match xs with
  | []=>cond b (some (.arr ty sz [])) none
  |_=>some (.arr ty sz (xs.map f))
section
variable {α:Type}{b:Bool}{xs:List α}{k:F4}{ty:TypeId}{sz:Nat}{f:α→List D}{h:E8}
def wD (b:Bool)(f:α→List D)(xs:List α):D:=cond b (.list (xs.map f)) (oD f xs)
end
section
variable {P:Program}{u:Nat}{r:List AOp}{l:List (Nat×AV)}{g:List (F4×Option Blk)}
end
/-- How much a slice is grown by. -/
def kS (n:Int):Option Unit:=if 0≤n∧n≤1000000 then some ()else none
end Go.Abs
/-! Slices of one's own slices; a row of a table, added, dropped or changed. -/
namespace Go.Abs
open Go
section
variable {P:Program}{N:Nat}{rk:Option F4}{s:St}{Q:Ex→St→Prop}
end
section
variable {P:Program}{N:Nat}{rk:Option F4}{r:List It}{Q:Ex→St→Prop}{l:List (Nat×AV)}{g:List (F4×Option Blk)}
end
section
variable {P:Program}{u:Nat}{r:List AOp}{l:List (Nat×AV)}{g:List (F4×Option Blk)}
end
/-- What an edit makes of the rows of a table. -/
def eN {α:Type}(kind i:Int)(xs:List α)(v:α):Option (List α×Bool):=
  cond ((kind==1)&& (i==(xs.length:Int))) ((Q4 xs [v]).bind fun l=>some (l,true))
    (cond (((kind==2)&&decide ((xs.length:Int)>0))&& (i==K2 ((xs.length:Int) - 1))) ((LX xs 0 i).bind fun l=>some (l,true))
      (cond (((kind==3)&&decide (i≥0))&&decide (i< (xs.length:Int))) ((F0 xs i).bind fun _=>some (JO xs i v,true)) (some (xs,false))))
def wb {α:Type}(b:Bool)(xs:List α):Bool:=b|| !xs.isEmpty
structure EditC (P:Program)(f:FuncId)(e sz:Nat){α β:Type}(E:α→List D)(B:β→List D)(kd at_:β→Int):Prop where
  m: ∀(xs zs:List α) (x:β) (v:α) (ok:Bool),eN (kd x) (at_ x) xs v=some (zs,ok)→MCall P f [.sl (900000,0), .d (.agg (B x)), .d (.agg (E v))] [.arr e sz (xs.map E)] (.tup [.sl (800000,0), .d (bo ok)]) [none] [some (.arr e sz (zs.map E))]
  n: ∀(zs:List α) (x:β) (v:α) (ok:Bool),eN (kd x) (at_ x) [] v=some (zs,ok)→MCall P f [.d .nilS, .d (.agg (B x)), .d (.agg (E v))] [] (.tup [oS zs (800000,0), .d (bo ok)]) [] [oB e sz E zs]
section
variable {P:Program}{u:Nat}{r:List AOp}{l:List (Nat×AV)}{g:List (F4×Option Blk)}
end
end Go.Abs
/-! Strings of bytes. -/
namespace Go.Abs
open Go
theorem FC: ∀(xs:List Int),Ti (xs.map fun x=> [D.v (Value.int .u8 x)])=some xs
  | []=>rfl
  |x::r=>by rw [lP,Ti,FC r];rfl
section
variable {t:Nat→AV}{h:E8}{x:Opd}
theorem XT {xs:List Int}(hx:ev t x= .d (.list (xs.map fun x=> [D.v (Value.int .u8 x)]))):H8 t h (.str .ofb [x])=some (.d (.v (.string (H3 xs)))):=by
  simp only [H8,lP,List.map_nil,hx,Ma,FC,lE]
theorem XU {s:ByteArray}(hx:ev t x= .d (.v (.string s))):H8 t h (.dbytes x)=some (.d (.list ((Av s).map fun x=> [D.v (Value.int .u8 x)]))):=by
  simp only [H8,hx]
theorem cO {α:Type}{f:α→List D}{k:F4}{sz:Nat}{xs:List α}(hx:ev t x= .sl k)(hk:h k=some (.arr 5 sz (xs.map f)))(he:xs≠ []):H8 t h (.bmark x)=some (.sl k):=by
  cases xs with
  |nil=>exact absurd rfl he
  |cons e r=>simp only [H8,hx,hk,lP,bB]
theorem gP {y:Opd}{s s':ByteArray}(hx:ev t x= .d (.v (.string s)))(hy:ev t y= .d (.v (.string s'))):H8 t h (.str (.eq false) [x,y])=some (.d (.v (.bool (s.toList==s'.toList)))):=RP (neg:=false) hx hy
theorem FD {y:Opd}{s s':ByteArray}(hx:ev t x= .d (.v (.string s)))(hy:ev t y= .d (.v (.string s'))):H8 t h (.str (.eq true) [x,y])=some (.d (.v (.bool (!(s.toList==s'.toList))))):=RP (neg:=true) hx hy
end
end Go.Abs
