/-
  An abstract layer over the machine, fourth part: contracts that alter what is handed in; functions that can be computed.
-/
import Derived.Test.YtgjdiioennhoeaaGreatCoreC
namespace Go.Abs
open Go
/-! ### Contracts of functions that alter what is handed to them, or hand out what is their own -/
/-- The key of the i-th block that is handed in; of the j-th that is handed out. -/
def Ad (i:Nat):F7:=(900000+i,0)
def fK (j:Nat):F7:=(800000+j,0)
def Z1 (ko kn:Nat→F7)(q:F7):F7:=cond (Nat.ble 900000 q.1) (ko (q.1 - 900000)) (kn (q.1 - 800000))
def UE (n m:Nat)(q:F7):Bool:=q.2==0&& (Nat.ble 900000 q.1&&Nat.blt (q.1 - 900000) n||Nat.ble 800000 q.1&& !Nat.ble 900000 q.1&&Nat.blt (q.1 - 800000) m)
theorem XW {n m:Nat}{q:F7}(h:UE n m q=true):(∃i,i<n∧q=Ad i)∨∃j,j<m∧j<100000∧q=fK j:=by
  obtain ⟨a,b⟩:=q
  simp only [UE,bU,bV,wB,Nat.ble_eq,Nat.blt_eq,Bool.not_eq_true',bZ,ne_eq]at h
  obtain ⟨rfl,h|h⟩:=h
  ·exact .inl ⟨a - 900000,h.2,by simp only [Ad,Prod.mk.injEq,and_true];omega⟩
  ·exact .inr ⟨a - 800000,h.2,by omega,by simp only [fK,Prod.mk.injEq,and_true];omega⟩
theorem SB (ko kn:Nat→F7)(i:Nat):Z1 ko kn (Ad i)=ko i:=by
  simp only [Z1,Ad]
  rw [show Nat.ble 900000 (900000+i)=true by simp,bO,Nat.add_sub_cancel_left]
theorem fL (ko kn:Nat→F7){j:Nat}(h:j<100000):Z1 ko kn (fK j)=kn j:=by
  simp only [Z1,fK]
  rw [show Nat.ble 900000 (800000+j)=false by rw [bZ,ne_eq,Nat.ble_eq];omega,bP,Nat.add_sub_cancel_left]
theorem SC {i j:Nat}(h:Ad i=Ad j):i=j:=by simp only [Ad,Prod.mk.injEq]at h;omega
def MG (f:F7→F7):AV→AV
  | .ptr k o=> .ptr (f k) o
  | .sl k=> .sl (f k)
  |x=>x
def MH (f:F7→F7):AV→AV
  | .agg cs=> .agg (cs.map (MG f))
  | .fn g fs cs=> .fn g (fs.map (MG f)) (cs.map (MG f))
  |x=>MG f x
def PS (f:F7→F7):AV→AV
  | .tup cs=> .tup (cs.map (MH f))
  |x=>MH f x
def kA (p:F7→Bool):AV→Bool
  | .ptr k _=>p k
  | .sl k=>p k
  | .d _=>true
  | .any=>true
  |_=>false
def oH (p:F7→Bool):AV→Bool
  | .agg cs=>cs.all (kA p)
  | .fn _ fs cs=>fs.all (kA p)&&cs.all (kA p)
  |x=>kA p x
def rA (p:F7→Bool):AV→Bool
  | .tup cs=>cs.all (oH p)
  |x=>oH p x
def Ly (f:F7→F7):Blk→Blk
  | .box ty cs=> .box ty (cs.map (MG f))
  |b=>b
def pI (p:F7→Bool):Blk→Bool
  | .box _ cs=>cs.all (kA p)
  | .arr _ _ _=>true
  | .obj _ _=>false
  | .mp _=>true
section
variable {w:World}{I:Nat→Prop}{ρ ρ':Rho}{p:F7→Bool}{f g:F7→F7}
theorem EA {α β:Type}{q:α→Bool}{l:List α}{h:α→β}{i:Nat}{c:β}(ha:l.all q=true)(hc:(l.map h)[i]? =some c): ∃x,q x=true∧l[i]? =some x∧h x=c:=by
  obtain ⟨x,hx,e⟩:=DT hc
  exact ⟨x,lY.1 ha x (lG hx),hx,e⟩
theorem Sg {α β:Type}{h:α→β}{l:List α}{i:Nat}{x:α}(hx:l[i]? =some x):(l.map h)[i]? =some (h x):=by rw [lK,hx];rfl
theorem iN {x:AV}{v:Value}(hp:kA p x=true)(h:RepV w I ρ (MG f x) v)(hk: ∀q y,p q=true→ρ (f q)=some y→ρ' (g q)=some y):RepV w I ρ' (MG g x) v:=by
  cases x with
  |ptr k o=>cases h with|ptr _ _ b h=>exact .ptr _ _ _ (hk k _ hp h)
  |sl k=>cases h with|sl _ _ h=>exact .sl _ _ (hk k _ hp h)
  |d y=>cases h with|d _ _ h=>exact .d _ _ h
  |any=>exact .any _
  |_=>simp [kA]at hp
theorem iO {x:AV}{v:Value}(hp:oH p x=true)(h:RepV w I ρ (MH f x) v)(hk: ∀q y,p q=true→ρ (f q)=some y→ρ' (g q)=some y):RepV w I ρ' (MH g x) v:=by
  cases x with
  |agg cs=>
   cases h with
   |agg _ vs hl hone hr=>
    refine .agg _ vs (by simpa using hl) (fun i hi=>hone i (by simpa using hi)) (fun i c hc=> ?_)
    obtain ⟨x,h1,h2,rfl⟩:=EA hp hc
    exact iN h1 (hr i _ (Sg h2)) hk
  |fn q fs cs=>
   simp only [oH,bU]at hp
   cases h with
   |fn _ _ _ vfs vcs hl hl' hr hr'=>
    refine .fn _ _ _ vfs vcs (by simpa using hl) (by simpa using hl') (fun i c hc=> ?_) (fun i c hc=> ?_)
    ·obtain ⟨x,h1,h2,rfl⟩:=EA hp.1 hc
     exact iN h1 (hr i _ (Sg h2)) hk
    ·obtain ⟨x,h1,h2,rfl⟩:=EA hp.2 hc
     exact iN h1 (hr' i _ (Sg h2)) hk
  |any=>exact iN (p:=p) (f:=f) (x:= .any) hp h hk
  |d y=>exact iN (p:=p) (f:=f) (x:= .d y) hp h hk
  |ptr k o=>exact iN (p:=p) (f:=f) (x:= .ptr k o) hp h hk
  |sl k=>exact iN (p:=p) (f:=f) (x:= .sl k) hp h hk
  |aptr k a b c=>exact iN (p:=p) (f:=f) (x:= .aptr k a b c) hp h hk
  |yld k=>exact iN (p:=p) (f:=f) (x:= .yld k) hp h hk
  |tup cs=>simp [oH,kA]at hp
theorem rU {x:AV}{v:Value}(hp:rA p x=true)(h:RepV w I ρ (PS f x) v)(hk: ∀q y,p q=true→ρ (f q)=some y→ρ' (g q)=some y):RepV w I ρ' (PS g x) v:=by
  cases x with
  |tup cs=>
   cases h with
   |tup _ vs hl hr=>
    refine .tup _ vs (by simpa using hl) (fun i c hc=> ?_)
    obtain ⟨x,h1,h2,rfl⟩:=EA hp hc
    exact iO h1 (hr i _ (Sg h2)) hk
  |any=>exact iO (p:=p) (f:=f) (x:= .any) hp h hk
  |d y=>exact iO (p:=p) (f:=f) (x:= .d y) hp h hk
  |ptr k o=>exact iO (p:=p) (f:=f) (x:= .ptr k o) hp h hk
  |sl k=>exact iO (p:=p) (f:=f) (x:= .sl k) hp h hk
  |aptr k a b c=>exact iO (p:=p) (f:=f) (x:= .aptr k a b c) hp h hk
  |yld k=>exact iO (p:=p) (f:=f) (x:= .yld k) hp h hk
  |agg cs=>exact iO (p:=p) (f:=f) (x:= .agg cs) hp h hk
  |fn a b c=>exact iO (p:=p) (f:=f) (x:= .fn a b c) hp h hk
theorem rN {b:Blk}{k k':F7}(hp:pI p b=true)(h:BlkOK w I ρ k (Ly f b))(hkk: ∀y,ρ k=some y→ρ' k'=some y)(hk: ∀q y,p q=true→ρ (f q)=some y→ρ' (g q)=some y):BlkOK w I ρ' k' (Ly g b):=by
  cases b with
  |box ty cs=>
   obtain ⟨b,vs,h1,h2,h3,h4,h5⟩:=h
   refine ⟨b,vs,hkk _ h1,h2,by simpa using h3,h4,fun i c hc=> ?_⟩
   obtain ⟨x,g1,g2,rfl⟩:=EA hp hc
   exact iN g1 (h5 i _ (Sg g2)) hk
  |arr ty sz es=>obtain ⟨x,xs,h1,h2⟩:=h;exact ⟨x,xs,hkk _ h1,h2⟩
  |mp ks=>obtain ⟨g,es,clock,h1,h2⟩:=h;exact ⟨g,es,clock,hkk _ h1,h2⟩
  |obj=>simp [pI]at hp
theorem kB (x:AV):MG id x=x:=by cases x<;>rfl
theorem SD:MG id=id:=funext kB
theorem kC (x:AV):MH id x=x:=by
  cases x<;>simp only [MH,SD,List.map_id]
  all_goals rfl
theorem kD (b:Blk):Ly id b=b:=by cases b<;>simp only [Ly,SD,List.map_id]
theorem Co {k:F7}(b:Blk):O9 ρ k (Ly f b)=O9 ρ k b:=by cases b<;>rfl
theorem Nb {k k':F7}(b:Blk)(h:ρ' k'=ρ k):O9 ρ' k' b=O9 ρ k b:=by cases b<;>simp [O9,h]
end
def Xl:Nat→List Blk→List (F7×Option Blk)
  |_,[]=> []
  |i,b::r=>(Ad i,some b)::Xl (i+1) r
theorem SE: ∀{l:List Blk} {i:Nat} {q:F7} {b:Blk},G (Xl i l) q=some b→∃j,q=Ad (i+j)∧l[j]? =some b
  | [],i,q,b,h=>by cases h
  |x::r,i,q,b,h=>by
   rw [Xl,G]at h
   by_cases e:q=Ad i
   ·rw [bQ e]at h;cases h;exact ⟨0,e,rfl⟩
   ·rw [bR e]at h
    obtain ⟨j,h1,h2⟩:=SE h
    exact ⟨j+1,by rw [h1];congr 1;omega,by simpa using h2⟩
def nC (avs:List AV)(pre:List Blk)(v:AV)(post:List (Option Blk))(new:List (Option Blk)):Bool:=
  post.length==pre.length&&Nat.ble new.length 6&&avs.all (oH (UE pre.length 0))&&pre.all (pI (UE pre.length 0))&&rA (UE pre.length new.length) v&&post.all (fun b=>match b with|some b=>pI (UE pre.length new.length) b|none=>true)&&new.all (fun b=>match b with|some b=>pI (UE pre.length new.length) b|none=>true)
def EB (n:Nat)(v:AV)(post:List (Option Blk))(new:List (Option Blk))(v':AV)(h':E5):Prop:=
  ∃σ:Nat→F7,v'=PS (Z1 Ad σ) v∧(∀i b,post[i]? =some (some b)→h' (Ad i)=some (Ly (Z1 Ad σ) b))∧(∀j b,new[j]? =some (some b)→h' (σ j)=some (Ly (Z1 Ad σ) b))∧
   (∀j,j<new.length→∀i,i<n→σ j≠Ad i)∧∀j j',j<new.length→j'<new.length→σ j=σ j'→j=j'
/-- Called with these values, where the blocks that are handed in hold this, the function returns the value, and the blocks hold that; the new ones are the caller's. -/
structure MCall (P:Program)(f:FuncId)(avs:List AV)(pre:List Blk)(v:AV)(post:List (Option Blk))(new:List (Option Blk)):Prop where
  ok:nC avs pre v post new=true
  call:ICall P f avs (G (Xl 0 pre)) (EB pre.length v post new)
def Ti (κ:Nat→F7)(f:F7→F7):Nat→List (Option Blk)→List (F7×Option Blk)
  |_,[]=> []
  |i,b::r=>(κ i,b.map (Ly f))::Ti κ f (i+1) r
def Yn (u S:Nat)(f:F7→F7):Nat→List (Option Blk)→List (F7×Option Blk)
  |_,[]=> []
  |j,b::r=>((S+j,u),b.map (Ly f))::Yn u S f (j+1) r
theorem JZ {κ:Nat→F7}{f:F7→F7}: ∀{l:List (Option Blk)} {i:Nat} {x:F7×Option Blk},x∈Ti κ f i l→∃j b,l[j]? =some b∧x=(κ (i+j),b.map (Ly f))
  | [],i,x,h=>by simp [Ti]at h
  |b::r,i,x,h=>by
   rw [Ti,lU]at h
   rcases h with rfl|h
   ·exact ⟨0,b,rfl,rfl⟩
   ·obtain ⟨j,b',h1,rfl⟩:=JZ h
    exact ⟨j+1,b',by simpa using h1,by rw [show i+ (j+1)=i+1+j by omega]⟩
theorem KA {u S:Nat}{f:F7→F7}: ∀{l:List (Option Blk)} {i:Nat} {x:F7×Option Blk},x∈Yn u S f i l→∃j b,l[j]? =some b∧x=((S+ (i+j),u),b.map (Ly f))
  | [],i,x,h=>by simp [Yn]at h
  |b::r,i,x,h=>by
   rw [Yn,lU]at h
   rcases h with rfl|h
   ·exact ⟨0,b,rfl,rfl⟩
   ·obtain ⟨j,b',h1,rfl⟩:=KA h
    exact ⟨j+1,b',by simpa using h1,by rw [show i+ (j+1)=i+1+j by omega]⟩
theorem Zx: ∀(ups:List (F7×Option Blk)) (h:E5) (q:F7) (b:Option Blk),P8 h ups q=b→(q∉ups.map (·.1)∧h q=b)∨(q,b)∈ups
  | [],h,q,b,hb=> .inl ⟨by simp,hb⟩
  |(k,c)::r,h,q,b,hb=>by
   rw [P8]at hb
   rcases Zx r _ q b hb with ⟨h1,h2⟩|h1
   ·by_cases e:q=k
    ·subst e
     rw [H7]at h2
     exact .inr (by rw [h2];simp)
    ·rw [M0 _ _ _ _ e]at h2
     exact .inl ⟨by simp at h1 ⊢;exact ⟨e,h1⟩,h2⟩
   ·exact .inr (by simp [h1])
theorem MCall.frame {P:Program}{f:FuncId}{avs:List AV}{pre:List Blk}{v:AV}{post:List (Option Blk)}{new:List (Option Blk)}{u S:Nat}(hM:MCall P f avs pre v post new)(κ:Nat→F7)
    (hinj: ∀i i',i<pre.length→i'<pre.length→κ i=κ i'→i=i') (preH:E5) (hpre: ∀i b,pre[i]? =some b→preH (κ i)=some (Ly (Z1 κ κ) b)):
    FCall P u S f (avs.map (MH (Z1 κ κ))) preH (PS (Z1 κ fun j=>(S+j,u)) v) (Ti κ (Z1 κ fun j=>(S+j,u)) 0 post++Yn u S (Z1 κ fun j=>(S+j,u)) 0 new):=by
  have hok:=hM.ok
  simp only [nC,bU,wB,Nat.ble_eq]at hok
  obtain ⟨⟨⟨⟨⟨⟨hlenP,hlenN⟩,okA⟩,okP⟩,cN⟩,okPo⟩,okN⟩:=hok
  refine ⟨hM.call.1,fun w I ρ h vs H hp hlen hrep hfr=> ?_⟩
  have hh: ∀i b,pre[i]? =some b→h (κ i)=some (Ly (Z1 κ κ) b):=fun i b hb=>hp _ _ (hpre i b hb)
  have hρ: ∀i,i<pre.length→∃y,ρ (κ i)=some y:=fun i hi=>(H.blk _ _ (hh i _ (lH hi))).rho
  let ρ0:Rho:=fun q=>if UE pre.length 0 q=true then ρ (Z1 κ κ q)else none
  have hρ0: ∀i,i<pre.length→ρ0 (Ad i)=ρ (κ i):=by
    intro i hi
    show (if UE pre.length 0 (Ad i)=true then _ else _)=_
    rw [bQ (by simp [UE,Ad,hi]),SB]
  have hk0: ∀q y,UE pre.length 0 q=true→ρ (Z1 κ κ q)=some y→ρ0 (id q)=some y:=by
    intro q y hq hy
    show (if UE pre.length 0 q=true then _ else _)=_
    rw [bQ hq];exact hy
  have hdom: ∀q b,G (Xl 0 pre) q=some b→∃i,i<pre.length∧q=Ad i∧pre[i]? =some b∧h (κ i)=some (Ly (Z1 κ κ) b)∧O9 ρ0 q b=O9 ρ (κ i) (Ly (Z1 κ κ) b):=by
    intro q b hq
    obtain ⟨i,rfl,h2⟩:=SE hq
    rw [wK]
    have hi:i<pre.length:=(lI.1 h2).1
    exact ⟨i,hi,rfl,h2,hh i b h2,by rw [Co];exact Nb b (hρ0 i hi)⟩
  have H0:HeapOK w I ρ0 (G (Xl 0 pre)):=by
    refine ⟨fun q b hq=> ?_,fun q q' b b' g h1 h2 h3 h4=> ?_,fun q b g h1 h2=> ?_,fun q b g h1 h2=> ?_,H.ilt,⟨1,fun d x hx=> ?_⟩,fun q y hy=> ?_⟩
    ·obtain ⟨i,hi,rfl,h2,h3,_⟩:=hdom q b hq
     have:=rN (f:=Z1 κ κ) (g:=id) (ρ':=ρ0) (k':=Ad i) (lY.1 okP b (lG h2)) (H.blk _ _ h3) (fun y hy=>by rw [hρ0 i hi];exact hy) hk0
     rwa [kD]at this
    ·obtain ⟨i,hi,rfl,_,a3,a4⟩:=hdom q b h1
     obtain ⟨j,hj,rfl,_,b3,b4⟩:=hdom q' b' h2
     rw [a4]at h3;rw [b4]at h4
     rw [hinj i j hi hj (H.sep _ _ _ _ g a3 b3 h3 h4)]
    ·obtain ⟨i,hi,rfl,_,a3,a4⟩:=hdom q b h1
     rw [a4]at h2;exact H.notI _ _ g a3 h2
    ·obtain ⟨i,hi,rfl,_,a3,a4⟩:=hdom q b h1
     rw [a4]at h2;exact H.lt _ _ g a3 h2
    ·show (if UE pre.length 0 (d,x)=true then _ else _)=none
     rw [bR]
     intro e
     rcases XW e with ⟨i,_,e⟩|⟨j,hj,_⟩
     ·simp only [Ad,Prod.mk.injEq]at e;omega
     ·omega
    ·have hy':(if UE pre.length 0 q=true then ρ (Z1 κ κ q)else none)=some y:=hy
     split at hy'
     ·exact H.rone _ y hy'
     ·cases hy'
  have hown0: ∀g,own ρ0 (G (Xl 0 pre)) g→own ρ h g:=by
    rintro g ⟨q,b,h1,h2⟩
    obtain ⟨i,hi,rfl,_,a3,a4⟩:=hdom q b h1
    exact ⟨κ i,_,a3,by rw [← a4];exact h2⟩
  have hown1: ∀k b g,h k=some b→(∀i,i<pre.length→k≠κ i)→O9 ρ k b=some g→¬own ρ0 (G (Xl 0 pre)) g:=by
    rintro k b g hk hne hl ⟨q,b',h1,h2⟩
    obtain ⟨i,hi,rfl,_,a3,a4⟩:=hdom q b' h1
    rw [a4]at h2
    exact hne i hi (H.sep _ _ _ _ g hk a3 hl h2)
  have hκS: ∀i j,i<pre.length→j<6→κ i≠(S+j,u):=by
    intro i j hi hj e
    obtain ⟨y,hy⟩:=hρ i hi
    rw [e,hfr j hj]at hy;cases hy
  refine (hM.call.2 w I ρ0 vs H0 (by simpa using hlen) (fun i c hc=> ?_)).mono ?_
  ·have hc':=hrep i _ (Sg hc)
   have:=iO (g:=id) (ρ':=ρ0) (lY.1 okA c (lG hc)) hc' hk0
   rwa [kC]at this
  rintro e w' ⟨x,v',I',ρ0',h',rfl,hv',H',T',σ,rfl,hpost,hnew,hσo,hσi⟩
  let ρ1:Rho:=fun q=>if q.2=u∧S≤q.1∧q.1<S+new.length then ρ0' (σ (q.1 - S))else ρ q
  have hle0: ∀i,i<pre.length→ρ0' (Ad i)=ρ (κ i):=by
    intro i hi
    obtain ⟨y,hy⟩:=hρ i hi
    rw [hy];exact T'.rho _ _ (by rw [hρ0 i hi];exact hy)
  have hρ1n: ∀j,j<new.length→ρ1 (S+j,u)=ρ0' (σ j):=by
    intro j hj
    show (if u=u∧S≤S+j∧S+j<S+new.length then _ else _)=_
    rw [bQ ⟨rfl,by omega,by omega⟩]
    simp
  have hρ1o: ∀q,(∀j,j<new.length→q≠(S+j,u))→ρ1 q=ρ q:=by
    rintro ⟨a,b⟩ hq
    show (if b=u∧S≤a∧a<S+new.length then _ else _)=_
    rw [bR]
    rintro ⟨rfl,h1,h2⟩
    exact hq (a - S) (by omega) (by simp only [Prod.mk.injEq,and_true];omega)
  have hρ1κ: ∀i,i<pre.length→ρ1 (κ i)=ρ (κ i):=fun i hi=>hρ1o _ fun j hj=>hκS i j hi (by omega)
  have hle1:ρ.le ρ1:=by
    intro k y hy
    rw [hρ1o]
    ·exact hy
    ·rintro j hj rfl
     rw [hfr j (by omega)]at hy;cases hy
  -- the keys of what is handed out
  have hk1: ∀q y,UE pre.length new.length q=true→ρ0' (Z1 Ad σ q)=some y→ρ1 (Z1 κ (fun j=>(S+j,u)) q)=some y:=by
    intro q y hq hy
    rcases XW hq with ⟨i,hi,rfl⟩|⟨j,hj,hj',rfl⟩
    ·rw [SB]at hy ⊢;rw [hρ1κ i hi,← hle0 i hi];exact hy
    ·rw [fL _ _ hj']at hy ⊢;rw [hρ1n j hj];exact hy
  -- what is touched, as the callee has it
  have htouch: ∀k b,(k,some b)∈Ti κ (Z1 κ fun j=>(S+j,u)) 0 post++Yn u S (Z1 κ fun j=>(S+j,u)) 0 new→
   ∃q b0,pI (UE pre.length new.length) b0=true∧h' q=some (Ly (Z1 Ad σ) b0)∧b=Ly (Z1 κ fun j=>(S+j,u)) b0∧ρ1 k=ρ0' q∧((∃i,i<pre.length∧q=Ad i∧k=κ i)∨∃j,j<new.length∧q=σ j∧k=(S+j,u)):=by
    intro k b hm
    rcases lT.1 hm with hm|hm
    ·obtain ⟨i,b0,h1,h2⟩:=JZ hm
     rw [wK]at h2
     cases b0 with
     |none=>simp at h2
     |some b0=>
      simp only [lF,Prod.mk.injEq,Option.some.injEq]at h2
      obtain ⟨rfl,rfl⟩:=h2
      have hi:i<pre.length:=by rw [← hlenP];exact (lI.1 h1).1
      exact ⟨Ad i,b0,lY.1 okPo (some b0) (lG h1),hpost i b0 h1,rfl,by rw [hρ1κ i hi,hle0 i hi], .inl ⟨i,hi,rfl,rfl⟩⟩
    ·obtain ⟨j,b0,h1,h2⟩:=KA hm
     rw [wK]at h2
     cases b0 with
     |none=>simp at h2
     |some b0=>
      simp only [lF,Prod.mk.injEq,Option.some.injEq]at h2
      obtain ⟨rfl,rfl⟩:=h2
      have hj:j<new.length:=(lI.1 h1).1
      exact ⟨σ j,b0,lY.1 okN (some b0) (lG h1),hnew j b0 h1,rfl,hρ1n j hj, .inr ⟨j,hj,rfl,rfl⟩⟩
  have hinjT: ∀{k k' q q':F7},((∃i,i<pre.length∧q=Ad i∧k=κ i)∨∃j,j<new.length∧q=σ j∧k=(S+j,u))→((∃i,i<pre.length∧q'=Ad i∧k'=κ i)∨∃j,j<new.length∧q'=σ j∧k'=(S+j,u))→q=q'→k=k':=by
    rintro k k' q q' (⟨i,hi,rfl,rfl⟩|⟨j,hj,rfl,rfl⟩) (⟨i',hi',rfl,rfl⟩|⟨j',hj',rfl,rfl⟩) e
    ·rw [SC e]
    ·exact absurd e.symm (hσo j' hj' i hi)
    ·exact absurd e (hσo j hj i' hi')
    ·rw [hσi j j' hj hj' e]
  -- what is not touched
  have hrest: ∀k b,k∉ (Ti κ (Z1 κ fun j=>(S+j,u)) 0 post++Yn u S (Z1 κ fun j=>(S+j,u)) 0 new).map (·.1)→h k=some b→(∀i,i<pre.length→k≠κ i)∧ρ1 k=ρ k∧∀g,O9 ρ k b=some g→w'.heap[g]? =w.heap[g]?∧¬own ρ0 (G (Xl 0 pre)) g:=by
    intro k b hn hk
    have hne: ∀i,i<pre.length→k≠κ i:=by
      rintro i hi rfl
      apply hn
      have: ∀(l:List (Option Blk)) (n:Nat),i<l.length→κ (n+i)∈(Ti κ (Z1 κ fun j=>(S+j,u)) n l).map (·.1):=by
        intro l
        induction i with
        |zero=>intro n hl;cases l with|nil=>simp at hl|cons=>simp [Ti]
        |succ i _=>
         intro n hl
         have key: ∀(i:Nat) (l:List (Option Blk)) (n:Nat),i<l.length→κ (n+i)∈(Ti κ (Z1 κ fun j=>(S+j,u)) n l).map (·.1):=by
           intro i
           induction i with
           |zero=>intro l n hl;cases l with|nil=>simp at hl|cons=>simp [Ti]
           |succ i ih=>
            intro l n hl
            cases l with
            |nil=>simp at hl
            |cons b r=>
             have:=ih r (n+1) (by simpa using hl)
             rw [show n+1+i=n+ (i+1) by omega]at this
             simp only [Ti,lR,lU]
             exact .inr this
         exact key (i+1) l n hl
      rw [List.map_append,lT]
      exact .inl (by have:=this post 0 (by rw [hlenP];exact hi);rwa [wK]at this)
    refine ⟨hne,?_,fun g hg=>⟨T'.frame g (H.lt k b g hk hg) (hown1 k b g hk hne hg),hown1 k b g hk hne hg⟩⟩
    obtain ⟨y,hy⟩:=(H.blk k b hk).rho
    rw [hle1 k y hy,hy]
  have hfrI: ∀b,I b→w'.heap[b]? =w.heap[b]?:=fun b hb=>T'.frame b (H.ilt b hb) (fun ho=>H0.own_notI ho hb)
  generalize hups:Ti κ (Z1 κ fun j=>(S+j,u)) 0 post++Yn u S (Z1 κ fun j=>(S+j,u)) 0 new=ups at htouch hrest
  have hcase: ∀k b,P8 h ups k=some b→(h k=some b∧k∉ups.map (·.1))∨(k,some b)∈ups:=fun k b hb=>(Zx ups h k (some b) hb).imp (fun q=>⟨q.2,q.1⟩) id
  have hlocR: ∀k b,h k=some b→k∉ups.map (·.1)→O9 ρ1 k b=O9 ρ k b:=fun k b hb hn=>Nb b (hrest k b hn hb).2.1
  have H1:HeapOK w' I' ρ1 (P8 h ups):=by
    refine ⟨fun k b hb=> ?_,fun k k' b b' g h1 h2 h3 h4=> ?_,fun k b g h1 h2 hi=> ?_,fun k b g h1 h2=> ?_,H'.ilt,?_,fun k y hy=> ?_⟩
    ·rcases hcase k b hb with ⟨a1,a2⟩|hm
     ·exact (H.blk k b a1).keep (fun g hg=>((hrest k b a2 a1).2.2 g hg).1) hfrI T'.imm hle1
     ·obtain ⟨q,b0,c1,c2,rfl,c4,_⟩:=htouch k b hm
      exact rN c1 (H'.blk _ _ c2) (fun y hy=>by rw [c4];exact hy) hk1
    ·rcases hcase k b h1 with ⟨a1,a2⟩|hm
     ·rw [hlocR k b a1 a2]at h3
      rcases hcase k' b' h2 with ⟨b1,b2⟩|hm'
      ·rw [hlocR k' b' b1 b2]at h4
       exact H.sep k k' b b' g a1 b1 h3 h4
      ·exfalso
       obtain ⟨q,b0,c1,c2,rfl,c4,_⟩:=htouch k' b' hm'
       rw [Co,Nb b0 c4]at h4
       exact ((hrest k b a2 a1).2.2 g h3).2 (T'.ownBack g ⟨q,_,c2,by rw [Co];exact h4⟩ (H.lt k b g a1 h3))
     ·obtain ⟨q,b0,c1,c2,rfl,c4,c5⟩:=htouch k b hm
      rw [Co,Nb b0 c4]at h3
      rcases hcase k' b' h2 with ⟨b1,b2⟩|hm'
      ·exfalso
       rw [hlocR k' b' b1 b2]at h4
       exact ((hrest k' b' b2 b1).2.2 g h4).2 (T'.ownBack g ⟨q,_,c2,by rw [Co];exact h3⟩ (H.lt k' b' g b1 h4))
      ·obtain ⟨q',b0',d1,d2,rfl,d4,d5⟩:=htouch k' b' hm'
       rw [Co,Nb b0' d4]at h4
       exact hinjT c5 d5 (H'.sep q q' _ _ g c2 d2 (by rw [Co];exact h3) (by rw [Co];exact h4))
    ·rcases hcase k b h1 with ⟨a1,a2⟩|hm
     ·rw [hlocR k b a1 a2]at h2
      rcases T'.immBack g hi (H.lt k b g a1 h2)with q|q
      ·exact H.notI k b g a1 h2 q
      ·exact ((hrest k b a2 a1).2.2 g h2).2 q
     ·obtain ⟨q,b0,c1,c2,rfl,c4,_⟩:=htouch k b hm
      rw [Co,Nb b0 c4]at h2
      exact H'.notI q _ g c2 (by rw [Co];exact h2) hi
    ·rcases hcase k b h1 with ⟨a1,a2⟩|hm
     ·rw [hlocR k b a1 a2]at h2
      exact wN (H.lt k b g a1 h2) T'.size
     ·obtain ⟨q,b0,c1,c2,rfl,c4,_⟩:=htouch k b hm
      rw [Co,Nb b0 c4]at h2
      exact H'.lt q _ g c2 (by rw [Co];exact h2)
    ·obtain ⟨u0,hu0⟩:=H.fresh
     refine ⟨max u0 (u+1),fun d x hx=> ?_⟩
     rw [hρ1o _ (fun j _ e=>by simp only [Prod.mk.injEq]at e;omega)]
     exact hu0 d x (by omega)
    ·have hy':(if k.2=u∧S≤k.1∧k.1<S+new.length then ρ0' (σ (k.1 - S))else ρ k)=some y:=hy
     split at hy'
     ·exact H'.rone _ y hy'
     ·exact H.rone _ y hy'
  refine ⟨x,I',ρ1,rfl,rU cN hv' hk1,H1,⟨T'.os,T'.tape,T'.output,T'.size,fun b hb hn=>T'.frame b hb (fun ho=>hn (hown0 b ho)),T'.imm,fun b hb hl=>(T'.immBack b hb hl).imp id (hown0 b),?_,hle1⟩,fun k hk=>hρ1o k fun j hj=>hk j (by omega)⟩
  rintro b ⟨k,c,h1,h2⟩ hl
  rcases hcase k c h1 with ⟨a1,a2⟩|hm
  ·exact ⟨k,c,a1,by rw [← hlocR k c a1 a2];exact h2⟩
  ·obtain ⟨q,b0,c1,c2,rfl,c4,_⟩:=htouch k c hm
   rw [Co,Nb b0 c4]at h2
   exact hown0 b (T'.ownBack b ⟨q,_,c2,by rw [Co];exact h2⟩ hl)
end Go.Abs
namespace Go.Abs
open Go
theorem FQ {α:Type}{l:List α}(h:l.Nodup){i j:Nat}(hi:i<l.length)(hj:j<l.length)(e:l[i]=l[j]):i=j:=by
  have h':=bD.1 h
  rcases Nat.lt_trichotomy i j with q|q|q
  ·exact absurd e (h' i j hi hj q)
  ·exact q
  ·exact absurd e.symm (h' j i hj hi q)
def Jb (l:List F7)(i:Nat):F7:=l.getD i (0,0)
section
variable {P:Program}{N:Nat}
/-- Less is known of what is handed in. -/
theorem FCall.le {u S:Nat}{f:FuncId}{avs avs':List AV}{pre pre':E5}{v:AV}{ups:List (F7×Option Blk)}(hF:FCall P u S f avs' pre v ups)(ha:All2 AVle avs avs')(hp: ∀q b,pre q=some b→∃b',pre' q=some b'∧BlkLe b' b)(hu: ∀q b,pre q=some b→q∈ups.map (·.1)):FCall P u S f avs pre' v ups:=by
  refine ⟨hF.1,fun w I ρ h vs H hh hlen hrep hfr=> ?_⟩
  let h1:E5:=fun q=>match pre q with|some b=>some b|none=>h q
  have h1p: ∀q b,pre q=some b→h1 q=some b:=fun q b hb=>by show (match pre q with|some b=>some b|none=>h q)=_;rw [hb]
  have h1n: ∀q,pre q=none→h1 q=h q:=fun q hb=>by show (match pre q with|some b=>some b|none=>h q)=_;rw [hb]
  have S1:Sb ⟨fun _=> .any,h1⟩ ⟨fun _=> .any,h⟩:=by
    refine ⟨fun i=> .any _,fun k b hb=> ?_⟩
    cases hq:pre k with
    |none=>exact ⟨b,by show h k=some b;rw [← h1n k hq];exact hb, .refl b⟩
    |some b0=>
     obtain rfl:b0=b:=by have:=hb;dsimp only at this;rw [h1p k b0 hq]at this;exact lD this
     obtain ⟨b',e1,e2⟩:=hp k b0 hq
     exact ⟨b',hh k b' e1,e2⟩
  have hup:P8 h1 ups=P8 h ups:=by
    funext q
    by_cases e:q∈ups.map (·.1)
    ·exact Sd ups _ _ q e
    ·rw [Dz _ _ _ e,Dz _ _ _ e]
     cases hq:pre q with
     |none=>exact h1n q hq
     |some b=>exact absurd (hu q b hq) e
  have hown: ∀g,own ρ h1 g→own ρ h g:=fun g hg=>S1.own hg
  have hown': ∀g,own ρ h g→own ρ h1 g:=by
    rintro g ⟨k,b,e1,e2⟩
    cases hq:pre k with
    |none=>exact ⟨k,b,by rw [h1n k hq];exact e1,e2⟩
    |some b0=>
     obtain ⟨b',g1,g2⟩:=hp k b0 hq
     have:b'=b:=by have:=hh k b' g1;rw [e1]at this;exact (lD this).symm
     subst this
     exact ⟨k,b0,h1p k b0 hq,by rw [g2.loc];exact e2⟩
  refine (hF.2 w I ρ h1 vs (S1.heapOK H) h1p (by rw [← ha.length];exact hlen) (fun i c hc=> ?_) hfr).mono ?_
  ·obtain ⟨a,e1,e2⟩:=ha.get hc
   exact e2 _ _ _ _ (hrep i a e1)
  rintro e w' ⟨x,I',ρ',rfl,r1,r2,r3,r4⟩
  rw [hup]at r2 r3
  exact ⟨x,I',ρ',rfl,r1,r2,⟨r3.os,r3.tape,r3.output,r3.size,fun b hb hn=>r3.frame b hb fun ho=>hn (hown b ho),r3.imm,fun b hb hl=>(r3.immBack b hb hl).imp id (hown b),fun b hb hl=>hown b (r3.ownBack b hb hl),r3.rho⟩,r4⟩
/-- What is handed in becomes data. -/
theorem PCall.freezeF {u S:Nat}{f:FuncId}{ds:List D}{r:D}(hp:PCall P f ds r){avs:List AV}{h0:E5}(hd:O5 (N2 h0 6) avs=some ds):
    FCall P u S f avs (R7 h0 (avs.flatMap (Q5 h0 6))) (.d r) ((avs.flatMap (Q5 h0 6)).map fun k=>(k,none)):=by
  refine ⟨hp.1,fun w I ρ h vs H hh hlen hrep _=> ?_⟩
  have hlive:=Pz avs ds hd
  have heq: ∀q∈avs.flatMap (Q5 h0 6),h q=h0 q:=by
    intro q hq
    cases hb:h0 q with
    |none=>exact absurd hb (hlive q hq)
    |some b=>exact hh q b (by unfold R7;rw [bQ hq,hb])
  have hd':O5 (N2 h 6) avs=some ds:=by rw [← hd];exact Np avs heq
  rw [← Xx avs heq]
  clear hd hh heq hlive
  generalize hks:avs.flatMap (Q5 h 6)=ks at*
  have hks': ∀q∈ks,h q≠none:=by rw [← hks];exact Pz avs ds hd'
  have hU:P8 h (ks.map fun k=>(k,none))=fun q=>if q∈ks then none else h q:=by
    funext q
    by_cases e:q∈ks
    ·rw [bQ e]
     cases hb:P8 h (ks.map fun k=>(k,none)) q with
     |none=>rfl
     |some b=>
      rcases Zx _ _ _ _ hb with ⟨a,_⟩|a
      ·exact absurd (by simp only [List.map_map,List.mem_map,Function.comp];exact ⟨q,e,rfl⟩) a
      ·simp at a
    ·rw [bR e,Dz]
     simp only [List.map_map,List.mem_map,Function.comp]
     rintro ⟨x,hx,rfl⟩
     exact e hx
  rw [hU]
  let hk:E5:=R7 h ks
  have hsub: ∀q b,hk q=some b→h q=some b:=by
    intro q b hq
    have:(if q∈ks then h q else none)=some b:=hq
    split at this
    ·exact this
    ·cases this
  let hf:E5:=fun q=>if q∈ks then none else h q
  have hsubf: ∀q b,hf q=some b→h q=some b∧q∉ks:=by
    intro q b hq
    have:(if q∈ks then none else h q)=some b:=hq
    split at this
    ·cases this
    ·exact ⟨this,‹_›⟩
  have H1:=H.sub hsub
  have H2:=H.sub (fun q b hq=>(hsubf q b hq).1)
  have hdk:O5 (N2 hk 6) avs=some ds:=by
    rw [← hd']
    refine Np avs fun q hq=> ?_
    rw [hks]at hq
    show (if q∈ks then h q else none)=h q
    rw [bQ hq]
  obtain ⟨l1,l2⟩:=Fw hdk
  have hsep: ∀g,own ρ hf g→¬own ρ hk g:=by
    rintro g ⟨k,b,a1,a2⟩ ⟨k',b',c1,c2⟩
    obtain ⟨e1,e2⟩:=hsubf k b a1
    have:=H.sep k k' b b' g e1 (hsub k' b' c1) a2 c2
    subst this
    apply e2
    have:(if k∈ks then h k else none)=some b':=c1
    split at this
    ·assumption
    ·cases this
  have hI1: ∀b,(I b∨own ρ hk b)→b<w.heap.size:=fun b hb=>by
    rcases hb with h|h
    ·exact H.ilt b h
    ·exact H1.own_lt h
  refine (hp.2 w (fun b=>I b∨own ρ hk b) vs hI1 (by omega) (fun i d hi=>by
    obtain ⟨x,hx,hfx⟩:=l2 i d hi
    exact Kx H1 6 x d _ (hrep i x hx) hfx)).mono ?_
  rintro e w' ⟨x,I',rfl,hr,tr⟩
  have hnI: ∀g,own ρ hf g→¬I' g:=fun g hg hi=>by
    rcases tr.immBack g hi (H2.own_lt hg)with q|q
    ·exact H2.own_notI hg q
    ·exact hsep g hg q
  have H3:HeapOK w' I' ρ hf:=H2.keep (fun g hg=>tr.frame g (H2.own_lt hg)) (fun b hb=>tr.frame b (H.ilt b hb)) (fun b hb=>tr.imm b (.inl hb)) hnI tr.ilt (fun _ _ h=>h) tr.size H.fresh H.rone
  refine ⟨x,I',ρ,rfl, .d _ _ hr,H3,⟨tr.os,tr.tape,tr.output,tr.size,fun b hb _=>tr.frame b hb,fun b hb=>tr.imm b (.inl hb),fun b hb hl=>(tr.immBack b hb hl).imp id fun ⟨k,c,a1,a2⟩=>⟨k,c,hsub k c a1,a2⟩,?_,fun _ _ h=>h⟩,fun _ _=>rfl⟩
  rintro b ⟨k,c,a1,a2⟩ _
  exact ⟨k,c,(hsubf k c a1).1,a2⟩
/-- A pure contract, where what is handed in is untouched and the answer needs no memory of it. -/
theorem ICall.le {f:FuncId}{avs:List AV}{h:E5}{K K':AV→E5→Prop}(hI:ICall P f avs h K)(hk: ∀v h,K v h→K' v h):ICall P f avs h K':=hI.mono hk
/-! ### How such a contract is shown -/
theorem oI {f:FuncId}{rs:List RV}{ac:AC}(F:FnOK P f N rs ac){avs:List AV}{pre:List Blk}{v:AV}{post:List (Option Blk)}{new:List (Option Blk)}(hok:nC avs pre v post new=true)(hl:avs.length≤N)
    (h:De P N none [.c ac] (fun e s=>(e= .nrm∨e= .ret)∧∃v' v1 g1,CB s.t s.h rs=some v'∧AVle v' v1∧HV s.h g1∧EB pre.length v post new v1 (G g1)) .nrm ⟨PN avs,G (Xl 0 pre)⟩):MCall P f avs pre v post new:=by
  refine ⟨hok,F.enters,?_⟩
  obtain ⟨fn,c,hf,hb,hN,hrs,⟨M,hc⟩,hn⟩:=F.ex
  intro w I ρ vs H hlen hrep
  have hsim:=Yf (n:=N) H hlen (by omega) hrep
  rw [← hN]at hsim
  refine Qb (Q:=fun e s=>(e= .nrm∨e= .ret)∧∃v' v1 g1,CB s.t s.h rs=some v'∧AVle v' v1∧HV s.h g1∧EB pre.length v post new v1 (G g1)) hf hb rfl hsim (by rw [hN];exact h M c hc) ?_
  rintro e s' a' w' I' ρ' ⟨he,v',v1,g1,hv,hle,hg,hp⟩ hs' tr
  obtain ⟨x,hx,hr⟩:=JT hs' hrs hv
  have S1:Sb ⟨T [],G g1⟩ s':=by cases s';exact E0 trivial hg
  exact ⟨he,x,hx,x,v1,I',ρ',G g1,rfl,hle _ _ _ _ hr,S1.heapOK hs'.heap,⟨tr.os,tr.tape,tr.output,tr.size,tr.frame,tr.imm,tr.immBack,fun b hb hl=>tr.ownBack b (S1.own hb) hl,tr.rho⟩,hp⟩
def Yo:List AV→Nat→List (Nat×AV)
  | [],_=> []
  |a::r,n=>(n,a)::Yo r (n+1)
theorem NK: ∀(avs:List AV) (n i:Nat),T (Yo avs n) (n+i)=avs.getD i .any
  | [],n,i=>by simp [Yo,pS]
  |a::r,n,i=>by
   rw [Yo,nQ]
   cases i with
   |zero=>rw [bQ (by simp)];rfl
   |succ i=>rw [bR (by omega),show n+ (i+1)=n+1+i by omega,NK r (n+1) i];rfl
theorem PT (avs:List AV):PN avs=T (Yo avs 0):=by
  funext i
  have:=NK avs 0 i
  rw [wK]at this
  rw [this];rfl
def XX (h:E5)(f:F7→F7):Nat→List (Option Blk)→Prop
  |_,[]=>True
  |i,b::r=>(match b with|some b=>h (Ad i)=some (Ly f b)|none=>True)∧XX h f (i+1) r
theorem FR {h:E5}{f:F7→F7}: ∀{l:List (Option Blk)} {n i:Nat} {b:Blk},XX h f n l→l[i]? =some (some b)→h (Ad (n+i))=some (Ly f b)
  | [],n,i,b,_,hb=>by simp at hb
  |x::r,n,i,b,hp,hb=>by
   cases i with
   |zero=>simp at hb;subst hb;exact hp.1
   |succ i=>rw [show n+ (i+1)=n+1+i by omega];exact FR hp.2 (by simpa using hb)
def kE (h:E5)(f:F7→F7):List F7→List (Option Blk)→Prop
  |_,[]=>True
  | [],_::_=>False
  |k::ks,b::r=>h k=b.map (Ly f)∧kE h f ks r
theorem KB {h:E5}{f:F7→F7}: ∀{ks:List F7} {l:List (Option Blk)} {i:Nat} {b:Blk},kE h f ks l→l[i]? =some (some b)→h (Jb ks i)=some (Ly f b)
  |ks,[],i,b,_,hb=>by simp at hb
  | [],_::_,i,b,hp,_=>hp.elim
  |k::ks,x::r,i,b,hp,hb=>by
   cases i with
   |zero=>simp at hb;subst hb;exact hp.1
   |succ i=>exact KB (ks:=ks) hp.2 (by simpa using hb)
theorem fM {d u:Nat}(h:Nat.blt d 900000=true)(i:Nat):(d,u)≠Ad i:=by
  rw [Nat.blt_eq]at h
  intro e
  simp only [Ad,Prod.mk.injEq]at e;omega
theorem fN {n:Nat}{v v1:AV}{post:List (Option Blk)}{new:List (Option Blk)}{h:E5}(σs:List F7)(hv:v1=PS (Z1 Ad (Jb σs)) v)(hpost:XX h (Z1 Ad (Jb σs)) 0 post)(hnew:kE h (Z1 Ad (Jb σs)) σs new)
    (hl:σs.length=new.length) (hd: ∀k∈σs,∀i,k≠Ad i) (hnd:σs.Nodup):EB n v post new v1 h:=by
  have hget: ∀j,j<new.length→Jb σs j∈σs:=by
    intro j hj
    simp only [Jb,List.getD,lH (show j<σs.length by omega),Option.getD_some]
    exact List.getElem_mem _
  refine ⟨Jb σs,hv,fun i b hb=> ?_,fun j b hb=>KB hnew hb,fun j hj i _=>hd _ (hget j hj) i,fun j j' hj hj' e=> ?_⟩
  ·have:=FR hpost hb
   rwa [wK]at this
  ·simp only [Jb,List.getD,lH (show j<σs.length by omega),lH (show j'<σs.length by omega),Option.getD_some]at e
   exact FQ hnd (by omega) (by omega) e
theorem fO {t:Nat→AV}{h:E5}{rs:List RV}{e:Ex}{n:Nat}{v v' v1:AV}{post:List (Option Blk)}{new:List (Option Blk)}(he:e= .nrm∨e= .ret)(h1:CB t h rs=some v')(h2:AVle v' v1)(g1:List (F7×Option Blk))(h3:HV h g1)(h4:EB n v post new v1 (G g1)):
    (e= .nrm∨e= .ret)∧∃v' v1 g1,CB (⟨t,h⟩:St).t (⟨t,h⟩:St).h rs=some v'∧AVle v' v1∧HV (⟨t,h⟩:St).h g1∧EB n v post new v1 (G g1):=⟨he,v',v1,g1,h1,h2,h3,h4⟩
theorem pV {t:Nat→AV}{h:E5}:CB t h []=some (.tup []):=rfl
theorem SF {t:Nat→AV}{h:E5}{a:RV}{v:AV}(hv:DQ t h a=some v):CB t h [a]=some v:=by simp only [CB,JS,hv]
end
/-! ### How it is used -/
theorem oJ {h:E5}{n:Nat}{k:F7}{off:Nat}{ty:TypeId}{cs:List AV}{ks:List F7}(hb:h k=some (.box ty cs))(hc:cs.flatMap (Q5 h n)=ks):Q5 h (n+1) (.ptr k off)=k::ks:=by simp only [Q5,hb,hc]
theorem EC {h:E5}{n:Nat}{k:F7}:Q5 h (n+1) (.sl k)= [k]:=rfl
theorem CD {h:E5}{n:Nat}{x:D}:Q5 h n (.d x)= []:=by cases n<;>rfl
theorem Ub {h:E5}{n:Nat}:([]:List AV).flatMap (Q5 h n)= []:=rfl
theorem Y6 {h:E5}{n:Nat}{x:AV}{r:List AV}{a b:List F7}(h1:Q5 h n x=a)(h2:r.flatMap (Q5 h n)=b):(x::r).flatMap (Q5 h n)=a++b:=by rw [bF,h1,h2]
def ZQ (h:E5):List F7→List Blk→Prop
  | [],[]=>True
  |k::ks,b::bs=>(∃b',h k=some b'∧BlkLe b' b)∧ZQ h ks bs
  |_,_=>False
theorem KC {h:E5}: ∀{ks:List F7} {bs:List Blk},ZQ h ks bs→ks.length=bs.length
  | [],[],_=>rfl
  |_::ks,_::bs,hp=>by simp [KC hp.2]
  | [],_::_,hp=>hp.elim
  |_::_,[],hp=>hp.elim
theorem SG {h:E5}: ∀{ks:List F7} {bs:List Blk} {i:Nat} {b:Blk},ZQ h ks bs→bs[i]? =some b→Jb ks i∈ks∧∃b',h (Jb ks i)=some b'∧BlkLe b' b
  | [],[],i,b,_,hb=>by simp at hb
  |k::ks,c::bs,i,b,hp,hb=>by
   cases i with
   |zero=>simp at hb;subst hb;exact ⟨by simp [Jb],hp.1⟩
   |succ i=>
    obtain ⟨g1,g2⟩:=SG (ks:=ks) (bs:=bs) (i:=i) hp.2 (by simpa using hb)
    exact ⟨by simp only [Jb,List.getD_cons_succ]at g1 ⊢;exact List.mem_cons_of_mem _ g1,g2⟩
  | [],_::_,_,_,hp,_=>hp.elim
  |_::_,[],_,_,hp,_=>hp.elim
/-- A call of such a function, at the keys of the caller. -/
theorem MCall.at {P:Program}{u S:Nat}{f:FuncId}{avs avs0:List AV}{pre:List Blk}{v:AV}{post:List (Option Blk)}{new:List (Option Blk)}{h:E5}(hM:MCall P f avs0 pre v post new)(κs:List F7)(ks:List F7)
    (hle:All2 AVle avs (avs0.map (MH (Z1 (Jb κs) (Jb κs))))) (hpre:ZQ h κs (pre.map (Ly (Z1 (Jb κs) (Jb κs))))) (hsub: ∀k∈κs,k∈ks) (hnd:κs.Nodup):
    FCall P u S f avs (R7 h ks) (PS (Z1 (Jb κs) fun j=>(S+j,u)) v) (Ti (Jb κs) (Z1 (Jb κs) fun j=>(S+j,u)) 0 post++Yn u S (Z1 (Jb κs) fun j=>(S+j,u)) 0 new):=by
  have hlen:κs.length=pre.length:=by simpa using KC hpre
  have hok:=hM.ok
  simp only [nC,bU,wB,Nat.ble_eq]at hok
  have hinj: ∀i i',i<pre.length→i'<pre.length→Jb κs i=Jb κs i'→i=i':=by
    intro i i' hi hi' e
    simp only [Jb,List.getD,lH (show i<κs.length by omega),lH (show i'<κs.length by omega),Option.getD_some]at e
    exact FQ hnd (by omega) (by omega) e
  let preH:E5:=fun q=>match (List.range pre.length).find? fun i=>Jb κs i==q with
    |some i=>(pre[i]?).map (Ly (Z1 (Jb κs) (Jb κs)))
    |none=>none
  have hat: ∀i b,pre[i]? =some b→preH (Jb κs i)=some (Ly (Z1 (Jb κs) (Jb κs)) b):=by
    intro i b hb
    have hi:i<pre.length:=(lI.1 hb).1
    show (match (List.range pre.length).find? fun i'=>Jb κs i'==Jb κs i with|some i=>(pre[i]?).map (Ly (Z1 (Jb κs) (Jb κs)))|none=>none)=_
    cases hf:(List.range pre.length).find? fun i'=>Jb κs i'==Jb κs i with
    |none=>
     have:=List.find?_eq_none.1 hf i (by simpa using hi)
     simp at this
    |some j=>
     have h1:=l6 hf
     have h2:=l7 hf
     have:=hinj j i (by simpa using h2) hi (by simpa using h1)
     subst this
     simp only [hb,lF]
  have hinv: ∀q b,preH q=some b→∃i b0,pre[i]? =some b0∧q=Jb κs i∧b=Ly (Z1 (Jb κs) (Jb κs)) b0:=by
    intro q b hq
    have hq':(match (List.range pre.length).find? fun i'=>Jb κs i'==q with|some i=>(pre[i]?).map (Ly (Z1 (Jb κs) (Jb κs)))|none=>none)=some b:=hq
    split at hq'
    ·rename_i j hf
     have h1:=l6 hf
     simp only [lE]at hq'
     obtain ⟨b0,e1,rfl⟩:=hq'
     exact ⟨j,b0,e1,(by simpa using h1:Jb κs j=q).symm,rfl⟩
    ·cases hq'
  refine FCall.le (hM.frame (Jb κs) hinj preH hat) hle (fun q b hq=> ?_) (fun q b hq=> ?_)
  ·obtain ⟨i,b0,e1,rfl,rfl⟩:=hinv q b hq
   obtain ⟨g1,b',g2,g3⟩:=SG hpre (Sg e1)
   exact ⟨b',by unfold R7;rw [bQ (hsub _ g1)];exact g2,g3⟩
  ·obtain ⟨i,b0,e1,rfl,rfl⟩:=hinv q b hq
   rw [List.map_append,lT]
   left
   have hi:i<post.length:=by rw [hok.1.1.1.1.1.1];exact (lI.1 e1).1
   have key: ∀(i:Nat) (l:List (Option Blk)) (n:Nat) (f:F7→F7),i<l.length→Jb κs (n+i)∈(Ti (Jb κs) f n l).map (·.1):=by
     intro i
     induction i with
     |zero=>intro l n f hl;cases l with|nil=>simp at hl|cons=>simp [Ti]
     |succ i ih=>
      intro l n f hl
      cases l with
      |nil=>simp at hl
      |cons b r=>
       have:=ih r (n+1) f (by simpa using hl)
       rw [show n+1+i=n+ (i+1) by omega]at this
       simp only [Ti,lR,lU]
       exact .inr this
   have:=key i post 0 (Z1 (Jb κs) fun j=>(S+j,u)) hi
   rwa [wK]at this
theorem oK {u S:Nat}{κs ks:List F7}{post:List (Option Blk)}{new:List (Option Blk)}{f g:F7→F7}(hsub: ∀k∈κs,k∈ks)(hl:post.length=κs.length)(hn:new.length≤6):
    ∀q∈(Ti (Jb κs) f 0 post++Yn u S g 0 new).map (·.1),q∈ks∨∃j,j<6∧q=(S+j,u):=by
  intro q hq
  simp only [List.mem_map,lT]at hq
  obtain ⟨x,hx|hx,rfl⟩:=hq
  ·obtain ⟨j,b,h1,rfl⟩:=JZ hx
   have hj:j<κs.length:=by rw [← hl];exact (lI.1 h1).1
   left
   refine hsub _ ?_
   simp only [wK,Jb,List.getD,lH hj,Option.getD_some]
   exact List.getElem_mem _
  ·obtain ⟨j,b,h1,rfl⟩:=KA hx
   have hj:j<new.length:=(lI.1 h1).1
   exact .inr ⟨j,by omega,by rw [wK]⟩
section
variable {P:Program}{u:Nat}{r:List AOp}{l:List (Nat×AV)}{g:List (F7×Option Blk)}
/-- What a call of such a function asks for, and gives. -/
structure OC (P:Program)(u:Nat)(l:List (Nat×AV))(g:List (F7×Option Blk))(S:Nat)(f:Opd)(args:List Opd)(v:AV)(ks:List F7)(us:List F7)(g':List (F7×Option Blk)):Prop where
  w: ∀K:AV→List (F7×Option Blk)→Prop,(∀ups,ups.map (·.1)=us→P8 (G g) ups=G g'→K v ups)→Ya P u (T l) (G g) S f args K
  ks:Bq (T l) (G g) (.ocall S f args)=ks
theorem MI {S:Nat}{f:Opd}{args:List Opd}{fid:FuncId}{avs avs0:List AV}{pre:List Blk}{v v':AV}{post:List (Option Blk)}{new:List (Option Blk)}(hM:MCall P fid avs0 pre v post new)(κs ks us:List F7)(g':List (F7×Option Blk))
    (hc:S9 (T l) f args=some (fid,avs)) (hle:All2 AVle avs (avs0.map (MH (Z1 (Jb κs) (Jb κs))))) (hks:avs.flatMap (Q5 (G g) 6)=ks) (hlive: ∀q∈ks,G g q≠none)
    (hpre:ZQ (G g) κs (pre.map (Ly (Z1 (Jb κs) (Jb κs))))) (hsub: ∀k∈κs,k∈ks) (hnd:κs.Nodup) (hv:PS (Z1 (Jb κs) fun j=>(S+j,u)) v=v')
    (hus:(Ti (Jb κs) (Z1 (Jb κs) fun j=>(S+j,u)) 0 post++Yn u S (Z1 (Jb κs) fun j=>(S+j,u)) 0 new).map (·.1)=us)
    (hg:P8 (G g) (Ti (Jb κs) (Z1 (Jb κs) fun j=>(S+j,u)) 0 post++Yn u S (Z1 (Jb κs) fun j=>(S+j,u)) 0 new)=G g'):OC P u l g S f args v' ks us g':=by
  have hok:=hM.ok
  simp only [nC,bU,wB,Nat.ble_eq]at hok
  have hlen:κs.length=pre.length:=by simpa using KC hpre
  refine ⟨fun K hK=> ?_,by simp only [Bq,hc,hks]⟩
  simp only [Ya,hc,hks]
  refine ⟨v',_,?_,hlive,by rw [← hv];exact hM.at κs ks hle hpre hsub hnd,hK _ hus hg⟩
  exact oK hsub (by rw [hok.1.1.1.1.1.1,hlen]) hok.1.1.1.1.1.2
/-- What is handed in becomes data. -/
theorem kF {S:Nat}{f:Opd}{args:List Opd}{fid:FuncId}{avs:List AV}{ds ds':List D}{v:D}(ks:List F7)(g':List (F7×Option Blk))(hc:S9 (T l) f args=some (fid,avs))(hd:O5 (N2 (G g) 6) avs=some ds)(hle:All2 DLe ds ds')
    (hp:PCall P fid ds' v) (hks:avs.flatMap (Q5 (G g) 6)=ks) (hg:P8 (G g) (ks.map fun k=>(k,none))=G g'):OC P u l g S f args (.d v) ks ks g':=by
  refine ⟨fun K hK=> ?_,by simp only [Bq,hc,hks]⟩
  simp only [Ya,hc]
  refine ⟨.d v,_,fun q hq=> .inl ?_,Pz avs ds hd,(hp.le hle).freezeF hd,hK _ ?_ (by rw [hks];exact hg)⟩
  ·simpa [List.map_map,Function.comp_def] using hq
  ·rw [hks];simp [List.map_map,Function.comp_def]
theorem FS {K:(Nat→AV)→E5→Prop}{d S:Nat}{f:Opd}{args:List Opd}{v:AV}{ks us:List F7}{g':List (F7×Option Blk)}(h:OC P u l g S f args v ks us g')(hk:L8 P u r (T ((d,v)::l)) (G g') K):L8 P u (⟨some d, .ocall S f args,none⟩::r) (T l) (G g) K:=by
  refine FP (by simp [Y5]) ?_
  simp only [gW,AR]
  exact h.w _ fun ups _ e=>by rw [e];exact hk
theorem oL {K:(Nat→AV)→E5→List (List F7×List F7)→Prop}{d S:Nat}{f:Opd}{args:List Opd}{v:AV}{ks us:List F7}{g':List (F7×Option Blk)}(h:OC P u l g S f args v ks us g')(hk:Fb P u r (T ((d,v)::l)) (G g') fun t' h' tr=>K t' h' ((ks,us)::tr)):Fb P u (⟨some d, .ocall S f args,none⟩::r) (T l) (G g) K:=by
  unfold Fb
  simp only [gW,AR]
  refine h.w _ fun ups e1 e=> ?_
  rw [e,e1,h.ks];exact hk
end
end Go.Abs
namespace Go.Abs
open Go
section
variable {P:Program}{N:Nat}
/-- What is handed back, where the blocks at some keys have become data. -/
def NL (ks:List F7)(t:Nat→AV)(h:E5)(rs:List RV):Option D:=match JS t h rs with
  |some vs=>match O5 (N2 (R7 h ks) 6) vs with
   |some [d]=>some d
   |some ds=>some (.tup ds)
   |none=>none
  |none=>none
def ED (h:E5)(ks:List F7):Nat→List (Option Blk)→Prop
  |_,[]=>True
  |i,none::r=>ED h ks (i+1) r
  |i,some (.box ty cs)::r=>(∃cs' ds ds',h (Ad i)=some (.box ty cs')∧Ad i∉ks∧O5 (N2 (R7 h ks) 6) cs'=some ds∧All2 DLe ds ds'∧cs=ds'.map .d)∧ED h ks (i+1) r
  |i,some (.arr ty sz es)::r=>(h (Ad i)=some (.arr ty sz es)∧Ad i∉ks)∧ED h ks (i+1) r
  |_,some (.obj _ _)::_=>False
  |_,some (.mp _)::_=>False
def AU:Nat→List (Option Blk)→List (F7×Option Blk)
  |_,[]=> []
  |i,b::r=>(Ad i,b)::AU (i+1) r
theorem NM: ∀{l:List (Option Blk)} {i:Nat} {q:F7} {b:Blk},G (AU i l) q=some b→∃j,q=Ad (i+j)∧l[j]? =some (some b)
  | [],i,q,b,h=>by cases h
  |x::r,i,q,b,h=>by
   rw [AU,G]at h
   by_cases e:q=Ad i
   ·rw [bQ e]at h;subst h;exact ⟨0,e,rfl⟩
   ·rw [bR e]at h
    obtain ⟨j,h1,h2⟩:=NM h
    exact ⟨j+1,by rw [h1];congr 1;omega,by simpa using h2⟩
theorem SH: ∀{l:List (Option Blk)} {i j:Nat} {b:Option Blk},l[j]? =some b→G (AU i l) (Ad (i+j))=b
  | [],i,j,b,h=>by simp at h
  |x::r,i,j,b,h=>by
   rw [AU,G]
   cases j with
   |zero=>simp at h;subst h;rw [bQ (by simp)]
   |succ j=>
    rw [bR (fun e=>by have:=SC e;omega),show i+ (j+1)=i+1+j by omega]
    exact SH (by simpa using h)
theorem NN {h:E5}{ks:List F7}: ∀{l:List (Option Blk)} {i j:Nat} {b:Blk},ED h ks i l→l[j]? =some (some b)→Ad (i+j)∉ks∧
    ((∃ty cs' ds ds',b= .box ty (ds'.map .d)∧h (Ad (i+j))=some (.box ty cs')∧O5 (N2 (R7 h ks) 6) cs'=some ds∧All2 DLe ds ds')∨∃ty sz es,b= .arr ty sz es∧h (Ad (i+j))=some (.arr ty sz es))
  | [],i,j,b,_,hb=>by simp at hb
  |x::r,i,j,b,hp,hb=>by
   cases j with
   |zero=>
    simp at hb;subst hb
    cases b with
    |box ty cs=>obtain ⟨⟨cs',ds,ds',a1,a2,a3,a4,rfl⟩,_⟩:=hp;exact ⟨a2, .inl ⟨ty,cs',ds,ds',rfl,a1,a3,a4⟩⟩
    |arr ty sz es=>exact ⟨hp.1.2, .inr ⟨ty,sz,es,rfl,hp.1.1⟩⟩
    |obj=>exact hp.elim
    |mp=>exact hp.elim
   |succ j=>
    have hr:ED h ks (i+1) r:=by
      cases x with
      |none=>exact hp
      |some x=>cases x<;>first|exact hp.2|exact hp.elim
    have:=NN hr (by simpa using hb:r[j]? =some (some b))
    rwa [show i+1+j=i+ (j+1) by omega]at this
theorem ZR (f:F7→F7)(ds:List D):(ds.map AV.d).map (MG f)=ds.map .d:=by rw [List.map_map];rfl
theorem Vt {f:FuncId}{rs:List RV}{ac:AC}(F:FnOK P f N rs ac){avs:List AV}{pre:List Blk}{v:D}{post:List (Option Blk)}(hok:nC avs pre (.d v) post []=true)(hl:avs.length≤N)
    (h:De P N none [.c ac] (fun e s=>(e= .nrm∨e= .ret)∧∃ks d',NL ks s.t s.h rs=some d'∧DLe d' v∧ED s.h ks 0 post) .nrm ⟨T (Yo avs 0),G (Xl 0 pre)⟩):MCall P f avs pre (.d v) post []:=by
  refine ⟨hok,F.enters,?_⟩
  obtain ⟨fn,c,hf,hb,hN,hrs,⟨M,hc⟩,hn⟩:=F.ex
  intro w I ρ vs H hlen hrep
  have hsim:=Yf (n:=N) H hlen (by omega) hrep
  rw [← hN,PT]at hsim
  refine Qb (Q:=fun e s=>(e= .nrm∨e= .ret)∧∃ks d',NL ks s.t s.h rs=some d'∧DLe d' v∧ED s.h ks 0 post) hf hb rfl hsim (by rw [hN];exact h M c hc) ?_
  rintro e s' a' w' I' ρ' ⟨he,ks,d',hv,hle,hp⟩ hs' tr
  have Hs:=hs'.heap
  let hk:E5:=R7 s'.h ks
  have hsub: ∀q b,hk q=some b→s'.h q=some b∧q∈ks:=by
    intro q b hq
    have:(if q∈ks then s'.h q else none)=some b:=hq
    split at this
    ·exact ⟨this,‹_›⟩
    ·cases this
  have Hk:=Hs.sub fun q b hq=>(hsub q b hq).1
  have hg: ∀q b,G (AU 0 post) q=some b→∃b0,s'.h q=some b0∧q∉ks∧O9 ρ' q b=O9 ρ' q b0∧BlkOK w' (fun b=>I' b∨own ρ' hk b) ρ' q b∧∀f,Ly f b=b:=by
    intro q b hq
    obtain ⟨i,rfl,h2⟩:=NM hq
    rw [wK]
    obtain ⟨h3,h4⟩:=NN hp h2
    rw [wK]at h3 h4
    rcases h4 with ⟨ty,cs',ds,ds',rfl,a1,a2,a3⟩|⟨ty,sz,es,rfl,a1⟩
    ·refine ⟨_,a1,h3,rfl,?_,fun f=>by simp only [Ly,ZR]⟩
     obtain ⟨g,ws,b1,b2,b3,b4,b5⟩:=Hs.blk _ _ a1
     obtain ⟨l1,l2⟩:=Fw a2
     refine ⟨g,ws,b1,b2,by rw [lS,← a3.length,l1];exact b3,b4,fun i c hc=> ?_⟩
     obtain ⟨d1,hd1,rfl⟩:=DT hc
     obtain ⟨d0,e1,e2⟩:=a3.get hd1
     obtain ⟨x,e3,e4⟩:=l2 i d0 e1
     exact .d _ _ (e2 _ _ _ (Kx Hk 6 x d0 _ (b5 i x e3) e4))
    ·exact ⟨_,a1,h3,rfl,(Hs.blk _ _ a1).keep (fun _ _=>rfl) (fun _ _=>rfl) (fun _ h=> .inl h) (fun _ _ h=>h),fun f=>rfl⟩
  have hownG: ∀g,own ρ' (G (AU 0 post)) g→own ρ' s'.h g:=by
    rintro g ⟨q,b,a1,a2⟩
    obtain ⟨b0,c1,_,c3,_⟩:=hg q b a1
    exact ⟨q,b0,c1,by rw [← c3];exact a2⟩
  have H2:HeapOK w' (fun b=>I' b∨own ρ' hk b) ρ' (G (AU 0 post)):=by
    refine ⟨fun q b hq=>by obtain ⟨_,_,_,_,c,_⟩:=hg q b hq;exact c,fun q q' b b' g h1 h2 h3 h4=> ?_,fun q b g h1 h2 hi=> ?_,fun q b g h1 h2=> ?_,fun b hb=> ?_,Hs.fresh,Hs.rone⟩
    ·obtain ⟨b0,c1,_,c3,_⟩:=hg q b h1
     obtain ⟨b1,d1,_,d3,_⟩:=hg q' b' h2
     rw [c3]at h3;rw [d3]at h4
     exact Hs.sep q q' b0 b1 g c1 d1 h3 h4
    ·obtain ⟨b0,c1,c2,c3,_⟩:=hg q b h1
     rw [c3]at h2
     rcases hi with hi|⟨k,x,e1,e2⟩
     ·exact Hs.notI q b0 g c1 h2 hi
     ·obtain ⟨e3,e4⟩:=hsub k x e1
      have:=Hs.sep q k b0 x g c1 e3 h2 e2
      subst this
      exact c2 e4
    ·obtain ⟨b0,c1,c2,c3,_⟩:=hg q b h1
     rw [c3]at h2
     exact Hs.lt q b0 g c1 h2
    ·rcases hb with hb|hb
     ·exact Hs.ilt b hb
     ·exact Hk.own_lt hb
  unfold NL at hv
  split at hv
  ·rename_i avs' hres
   obtain ⟨xs,g1,g2,g3⟩:=Ye hs' hrs hres
   have hds: ∀{ds:List D},O5 (N2 hk 6) avs'=some ds→ds.length=xs.length∧∀(i:Nat) d,ds[i]? =some d→RepD w' (fun b=>I' b∨own ρ' hk b) d (xs.getD i undef):=by
     intro ds hds
     obtain ⟨l1,l2⟩:=Fw hds
     refine ⟨by omega,fun i d hd=> ?_⟩
     obtain ⟨x,e3,e4⟩:=l2 i d hd
     exact Kx Hk 6 x d _ (g3 i x e3) e4
   have hfin: ∀x,(results fn a'.tmps).run P w'= .ok x w'→RepD w' (fun b=>I' b∨own ρ' hk b) d' x→
    ∃x,(results fn a'.tmps).run P w'= .ok x w'∧∃x' v' I'' ρ'' h'',Ending.returned x= .returned x'∧RepV w' I'' ρ'' v' x'∧HeapOK w' I'' ρ'' h''∧Tr w I ρ (G (Xl 0 pre)) w' I'' ρ'' h''∧EB pre.length (.d v) post [] v' h'':=by
     intro x hx hr
     refine ⟨x,hx,x, .d v,_,ρ',G (AU 0 post),rfl, .d _ _ (hle _ _ _ hr),H2,⟨tr.os,tr.tape,tr.output,tr.size,tr.frame,fun b hb=> .inl (tr.imm b hb),fun b hb hl=> ?_,fun b hb hl=>tr.ownBack b (hownG b hb) hl,tr.rho⟩,fun _=>(0,0),rfl,fun i b hb=> ?_,fun j b hb=>by simp at hb,fun j hj=>by simp at hj,fun j j' hj=>by simp at hj⟩
     ·rcases hb with hb|⟨k,x,e1,e2⟩
      ·exact tr.immBack b hb hl
      ·exact .inr (tr.ownBack b ⟨k,x,(hsub k x e1).1,e2⟩ hl)
     ·have h1:G (AU 0 post) (Ad (0+i))=some b:=SH hb
      rw [wK]at h1
      obtain ⟨_,_,_,_,_,c⟩:=hg _ b h1
      rw [h1,c]
   have hmain: ∃x,(results fn a'.tmps).run P w'= .ok x w'∧RepD w' (fun b=>I' b∨own ρ' hk b) d' x:=by
     split at hv
     ·rename_i d hd
      cases hv
      obtain ⟨l1,l2⟩:=hds hd
      obtain ⟨x,rfl⟩: ∃x,xs= [x]:=by
        cases xs with
        |nil=>simp at l1
        |cons x r=>cases r with
         |nil=>exact ⟨x,rfl⟩
         |cons=>simp at l1
      exact ⟨x,by rw [Sf fn a' w' _ g1];simp,l2 0 _ rfl⟩
     ·rename_i ds hne hd
      cases hv
      obtain ⟨l1,l2⟩:=hds hd
      have hx1: ¬xs.length=1:=by
        intro h1
        rw [← l1]at h1
        obtain ⟨v,rfl⟩:=List.length_eq_one_iff.1 h1
        exact hne v rfl
      exact ⟨_,by rw [Sf fn a' w' _ g1,dif_neg hx1], .tup ds xs l1 l2⟩
     ·cases hv
   obtain ⟨x,hx,hr⟩:=hmain
   obtain ⟨x1,h1,h2⟩:=hfin x hx hr
   exact ⟨he,x1,h1,h2⟩
  ·cases hv
theorem PU {f:FuncId}{rs:List RV}{ac:AC}(F:FnOK P f N rs ac){avs:List AV}{pre:List Blk}{v:AV}{post:List (Option Blk)}{new:List (Option Blk)}(hok:nC avs pre v post new=true)(hl:avs.length≤N)
    (h:De P N none [.c ac] (fun e s=>(e= .nrm∨e= .ret)∧∃v' v1 g1,CB s.t s.h rs=some v'∧AVle v' v1∧HV s.h g1∧EB pre.length v post new v1 (G g1)) .nrm ⟨T (Yo avs 0),G (Xl 0 pre)⟩):MCall P f avs pre v post new:=
  oI F hok hl (by rw [PT];exact h)
theorem CE {t:Nat→AV}{h:E5}{rs:List RV}{d d':D}{e:Ex}{post:List (Option Blk)}(he:e= .nrm∨e= .ret)(ks:List F7)(h1:NL ks t h rs=some d')(h2:DLe d' d)(h3:ED h ks 0 post):
    (e= .nrm∨e= .ret)∧∃ks d',NL ks (⟨t,h⟩:St).t (⟨t,h⟩:St).h rs=some d'∧DLe d' d∧ED (⟨t,h⟩:St).h ks 0 post:=⟨he,ks,d',h1,h2,h3⟩
theorem CF {t:Nat→AV}{h:E5}{ks:List F7}:NL ks t h []=some (.tup []):=rfl
theorem KD {h:E5}{ks:List F7}{k:F7}{b:Option Blk}(hm:k∈ks)(hb:h k=b):R7 h ks k=b:=by unfold R7;rw [bQ hm];exact hb
theorem Jc {h:E5}: ∀q∈([]:List F7),h q≠none:=by simp
theorem Kz {h:E5}{k:F7}{b:Blk}{ks:List F7}(hb:h k=some b)(hr: ∀q∈ks,h q≠none): ∀q∈k::ks,h q≠none:=by
  intro q hq
  rcases lU.1 hq with rfl|hq
  ·rw [hb];simp
  ·exact hr q hq
theorem Nt {l:List AV}:All2 AVle l l:=by
  induction l with
  |nil=>exact .nil
  |cons x r ih=>exact .cons (.refl x) ih
theorem Ls {a b x y:Nat}(h:(a==b)=false):((a,x):F7)≠(b,y):=by rintro ⟨⟩;simp at h
theorem nd1 {k:F7}: [k].Nodup:=by simp
theorem pJ {k k':F7}(h:k≠k'): [k,k'].Nodup:=by simp [h]
theorem Fx {k:F7}:k∉ ([]:List F7):=by simp
theorem ZS {i d u:Nat}{ks:List F7}(h:Nat.blt d 900000=true)(hr:Ad i∉ks):Ad i∉ (d,u)::ks:=by
  simp only [lU,not_or]
  exact ⟨fun e=>fM h i e.symm,hr⟩
end
end Go.Abs
namespace Go.Abs
open Go
theorem AX {x d:Nat}{l:List Nat}(h:d∈l)(ha:(l.all fun a=> !(a==x))=true):(d==x)=false:=by
  have:=lY.1 ha d h
  simpa using this
theorem Vu {ds:List Nat}{d u:Nat}{r:Option Blk}(h:d∈ds): ∀(n:Nat) {l:List (F7×Option Blk)},((l.take n).all fun e=>ds.all fun a=> !(a==e.1.1))=true→G (l.drop n) (d,u)=r→G l (d,u)=r
  |0,_,_,h2=>h2
  |n+1,[],_,h2=>h2
  |n+1,(i,b)::l,h1,h2=>by
   simp only [List.take_succ_cons,List.all_cons,bU]at h1
   exact F5 (AX h h1.1) (Vu h n h1.2 h2)
theorem Wv {k:F7}{r:Option Blk}: ∀(n:Nat) {l:List (F7×Option Blk)},((l.take n).all fun e=> !(k.1==e.1.1))=true→G (l.drop n) k=r→G l k=r
  |0,_,_,h2=>h2
  |n+1,[],_,h2=>h2
  |n+1,(i,b)::l,h1,h2=>by
   simp only [List.take_succ_cons,List.all_cons,bU]at h1
   exact F5 (by simpa using h1.1) (Wv n h1.2 h2)
theorem Z7 {t:Nat→AV}: ∀{l:List (Nat×AV)},(l.map fun p=>t p.1)=l.map (fun p=>p.2)→nX t l
  | [],_=>trivial
  |(i,v)::l,h=>by
   rw [lR,lR,List.cons.injEq]at h
   exact ⟨.of h.1,Z7 h.2⟩
theorem CG {x d:Nat}{l:List Nat}(h:d∈l)(ha:(l.all fun a=> !(x==a))=true):(x==d)=false:=by
  have:=lY.1 ha d h
  simpa using this
theorem ZT {d e:Nat}{l m:List Nat}(h:d∈l)(h':e∈m)(ha:(l.all fun a=>m.all fun b=> !(a==b))=true):(d==e)=false:=by
  have:=lY.1 (lY.1 ha d h) e h'
  simpa using this
theorem ZU {α:Type}(xs:List α)(k:F7):Ke (oS xs k)=some [oS xs k]:=by cases xs<;>rfl
def IO {α:Type}(t:Nat→AV)(f:α→List D)(sz:Nat):Nat→List (Nat×Nat×Opd)→List α→Prop
  |_,[],[]=>True
  |i,(off,m,x)::ps,a::as=>off=i*sz∧m=sz∧Ke (ev t x)=some ((f a).map .d)∧IO t f sz (i+1) ps as
  |_,_,_=>False
theorem fP {α:Type}(pre post vs:List α)(h:vs.length≤post.length):Kw (pre++post) pre.length vs=pre++ (vs++post.drop vs.length):=by
  apply List.ext_getElem?
  intro i
  rw [Fa _ _ _ _ (by simp;omega)]
  by_cases h1:i<pre.length
  ·rw [bR (by omega),lX h1,lX h1]
  ·rw [lW (by omega),lW (by omega)]
   by_cases h2:i<pre.length+vs.length
   ·rw [bQ (by omega),lX (by omega)]
   ·rw [bR (by omega),lW (by omega),l9]
    congr 1;omega
theorem CH {α:Type}{t:Nat→AV}{f:α→List D}{sz:Nat}(hf: ∀a,(f a).length=sz): ∀(as:List α) (ps:List (Nat×Nat×Opd)) (i:Nat) (pre post:List AV),pre.length=i*sz→post.length=as.length*sz→IO t f sz i ps as→
    Rb t (pre++post) ps=some (pre++ (as.flatMap f).map .d)
  | [],[],i,pre,post,_,hl,_=>by
    have:post= []:=l8 (by simpa using hl)
    subst this;simp [Rb]
  | [],_::_,_,_,_,_,_,hp=>hp.elim
  |_::_,[],_,_,_,_,_,hp=>hp.elim
  |a::as,(off,m,x)::ps,i,pre,post,h1,h2,hp=>by
   obtain ⟨rfl,rfl,hc,hr⟩:=hp
   have hl:post.length=m+as.length*m:=by rw [h2,lL,wJ];omega
   have hv:((f a).map AV.d).length=m:=by simp [hf]
   simp only [Rb,hc,hv,true_and]
   rw [bQ (by simp [h1,hl]),← h1,fP _ _ _ (by rw [hv,hl];omega),hv,← lO]
   rw [CH hf as ps (i+1) _ _ (by rw [lM,hv,h1,wJ];omega) (by rw [List.length_drop,hl];omega) hr]
   simp
theorem CI {α:Type}{f:α→List D}{sz:Nat}(hf: ∀a,(f a).length=sz): ∀as:List α,My sz as.length (as.flatMap f)=as.map f
  | []=>rfl
  |a::as=>by
   simp only [lL,My,bF,lR]
   rw [List.take_left' (hf a),List.drop_left' (hf a),CI hf as]
theorem FT {α:Type}(z:List α): ∀n,(Py z n).length=n*z.length
  |0=>by simp [Py]
  |n+1=>by simp [Py,FT z n,wJ];omega
theorem FU: ∀l:List D,Kd (l.map .d)=some l
  | []=>rfl
  |x::r=>by simp [Kd,FU r]
theorem FV {α:Type}{t:Nat→AV}{h:E5}{e sz n:Nat}{z:List D}{ps:List (Nat×Nat×Opd)}(f:α→List D)(xs:List α)(hf: ∀a,(f a).length=sz)(hz:z.length=sz)(hn:xs.length=n)(hp:IO t f sz 0 ps xs)(hm: ∀a,(f a).map nrm=f a):
    L6 t h (.dslice e sz n z ps)=some (.d (.list (xs.map f))):=by
  have:=CH hf xs ps 0 [] ((Py z n).map .d) (by simp) (by rw [lS,FT,hz,hn]) hp
  simp only [lQ]at this
  simp only [L6,this,lB,FU,lF]
  rw [← hn,FL,CI hf,List.map_map,show ((fun x=>List.map nrm x)∘f)=f from funext hm]
theorem Nu {α:Type}{t:Nat→AV}{u d e sz n:Nat}{z:List D}{ps:List (Nat×Nat×Opd)}(f:α→List D)(xs:List α)(hf: ∀a,(f a).length=sz)(hz:z.length=sz)(hn:xs.length=n)(hp:IO t f sz 0 ps xs):
    Oo u d t (.bslice e sz n z ps)=some (.sl (d,u), .arr e sz (xs.map f)):=by
  have:=CH hf xs ps 0 [] ((Py z n).map .d) (by simp) (by rw [lS,FT,hz,hn]) hp
  simp only [lQ]at this
  simp only [Oo,this,lB,FU,lF]
  rw [← hn,CI hf]
/-- A key put into a set. -/
def rV (ks:List Int)(n:Int):List Int:=if n∈ks then ks else ks++ [n]
theorem DLe.bp {xs ys:List D}{off:Nat}(h:All2 (fun x y=>DLe x y∧y.one=true) xs ys):DLe (.bp xs off) (.bp ys off):=by
  intro w I v hv
  cases hv with
  |bp _ _ g vs ty fz hI hg hl hone hr=>
   refine .bp ys off g vs ty fz hI hg (by rw [← h.length];exact hl) (fun i d hi=> ?_) (fun i d hi=> ?_)
   ·obtain ⟨a,_,h2⟩:=h.get hi;exact h2.2
   ·obtain ⟨a,h1,h2⟩:=h.get hi;exact h2.1 _ _ _ (hr i a h1)
section
variable {P:Program}{u:Nat}{r:List AOp}{l:List (Nat×AV)}{g:List (F7×Option Blk)}{t:Nat→AV}{h:E5}
/-- Any number of elements behind a slice of the run's own, or behind nil. -/
theorem ZV {K:(Nat→AV)→E5→Prop}{α:Type}{d e sz:Nat}{ty:TypeId}{x y:Opd}(f:α→List D)(k:F7)(xs ys zs:List α)(hy:Bd (G g) sz (ev (T l) y)=some (ys.map f))(hx:ev (T l) x=oS xs k)(hb:G g k=oB e sz f xs)(hl:X6 xs ys=some zs)(hn:G g (d,u)=none)
    (hk:L8 P u r (T ((d,oS zs (d,u))::l)) (G (((d,u),oB e sz f zs)::(k,none)::g)) K):L8 P u (⟨some d, .append ty e sz x y,none⟩::r) (T l) (G g) K:=by
  cases ys with
  |cons v ys=>
   refine Q3 f k xs v ys zs hy hx hb hl ?_
   rw [V1 (k:=(d,u)) (V4 hl),eW (V4 hl)]at hk
   exact hk
  |nil=>
   obtain ⟨h1,rfl⟩:=Jn hl
   cases xs with
   |nil=>
    have hy':Bd (G g) sz (ev (T l) y)=some []:=hy
    have hx':ev (T l) x= .d .nilS:=hx
    unfold L8
    simp only [gW,AR,No,hy',hx',P8]
    have e0:G (((d,u),oB e sz f ([]:List α))::(k,none)::g)=G g:=by
      funext q
      rw [G,G]
      by_cases e1:q=(d,u)
      ·subst e1;rw [bQ rfl,hn];rfl
      ·rw [bR e1]
       by_cases e2:q=k
       ·subst e2;rw [bQ rfl,hb];rfl
       ·rw [bR e2]
    rw [← e0]
    exact hk
   |cons x0 xs=>
    refine Yl f k (x0::xs) [] _ hy hx hb hl ?_
    exact hk
end
end Go.Abs
namespace Go.Abs
open Go
/-! ### Functions that can be computed, and what they say of the plain ones -/
/-- What the one gives, the other one gives. -/
class Le {α:Type} (x y:Option α):Prop where
  out: ∀r,x=some r→y=some r
section
variable {α β γ σ τ:Type}
instance {x y:Option α}:CoeFun (Le x y) (fun _=> ∀r,x=some r→y=some r):=⟨fun h=>h.out⟩
instance (priority:=low) Le.refl (x:Option α):Le x x:=⟨fun _ h=>h⟩
instance Le.bind {x y:Option α}{f g:α→Option β}[h:Le x y][hf: ∀v,Le (f v) (g v)]:Le (x.bind f) (y.bind g):=by
  refine ⟨fun r hr=> ?_⟩
  cases x with
  |none=>cases hr
  |some v=>rw [h v rfl];exact hf v r hr
instance Le.cond {b:Bool}{x y x' y':Option α}[h:Le x x'][h':Le y y']:Le (cond b x y) (cond b x' y'):=by cases b<;>assumption
instance Le.ite {p:Prop}[Decidable p]{x y x' y':Option α}[h:Le x x'][h':Le y y']:Le (if p then x else y) (if p then x' else y'):=by split<;>assumption
instance Le.thenS {x x':Option (Sum σ β)}{f f':σ→Option γ}{g g':β→Option γ}[h:Le x x'][hf: ∀v,Le (f v) (f' v)][hg: ∀v,Le (g v) (g' v)]:Le (thenS x f g) (thenS x' f' g'):=by
  refine ⟨fun r hr=> ?_⟩
  cases x with
  |none=>cases hr
  |some v=>rw [h v rfl];cases v<;>first|exact hf _ r hr|exact hg _ r hr
/-- Loops that the kernel runs. -/
@[reducible] def W2:Lp:=⟨fun f s=>loopN f 100000 s⟩
theorem Le.loopN {f f':σ→Option (Stp σ τ)}(h: ∀s,Le (f s) (f' s)): ∀(n:Nat) (s:σ),Le (loopN f n s) (loopN f' n s)
  |0,s=>⟨fun r hr=>by cases hr⟩
  |n+1,s=>⟨fun r hr=>by
   rw [Abs.loopN]at hr ⊢
   cases hf:f s with
   |none=>rw [hf]at hr;cases hr
   |some x=>
    rw [hf]at hr
    rw [h s x hf]
    cases x with
    |go s'=>exact Le.loopN h n s' r hr
    |out t=>exact hr⟩
instance Le.loop {f f':σ→Option (Stp σ τ)}[h: ∀s,Le (f s) (f' s)](s:σ):Le (@loop _ _ W2 f s) (loop f' s):=⟨fun r hr=>loop_some.2 ⟨_,Le.loopN h _ s r hr⟩⟩
theorem Le.loopLh {f f':σ→α→Option (Stp σ τ)}{e:σ→τ}(h: ∀s a,Le (f s a) (f' s a)): ∀(l:List α) (s:σ),Le (loopL f e l s) (loopL f' e l s)
  | [],s=>⟨fun r hr=>hr⟩
  |a::l,s=>⟨fun r hr=>by
   rw [Abs.loopL]at hr ⊢
   cases hf:f s a with
   |none=>rw [hf]at hr;cases hr
   |some x=>
    rw [hf]at hr
    rw [h s a x hf]
    cases x with
    |go s'=>exact Le.loopLh h l s' r hr
    |out t=>exact hr⟩
instance Le.loopL {f f':σ→α→Option (Stp σ τ)}{e:σ→τ}[h: ∀s a,Le (f s a) (f' s a)](l:List α)(s:σ):Le (loopL f e l s) (loopL f' e l s):=Le.loopLh h l s
end
end Go.Abs
/-! Short names for what the generated proofs use most. -/
namespace Go.Abs
open Go
abbrev oo (d:Nat)(k:AK):AOp:=⟨some d,k,none⟩
abbrev og (d:Nat)(k:AK)(j:Nat):AOp:=⟨some d,k,some (j,true)⟩
abbrev oh (d:Nat)(k:AK)(j:Nat):AOp:=⟨some d,k,some (j,false)⟩
abbrev oe (k:AK):AOp:=⟨none,k,none⟩
abbrev ci (n:Int):Opd:= .c (.v (.int .i64 n))
abbrev cf (n:Nat):Opd:= .c (.fn (.func n) [] [])
abbrev z0:D:= .v (.int .i64 0)
abbrev zf:D:= .v (.bool false)
abbrev di (n:Int):AV:= .d (.v (.int .i64 n))
abbrev db (b:Bool):AV:= .d (bo b)
abbrev dl {α:Type}(e:α→List D)(xs:List α):AV:= .d (.list (List.map e xs))
/-- What lies at the first key with this number. -/
def gl:List (F7×Option Blk)→Nat→Option (F7×Option Blk)
  | [],_=>none
  |(k,b)::l,d=>cond (Nat.beq k.1 d) (some (k,b)) (gl l d)
theorem fQ {b:Option Blk}{k:F7}: ∀{g:List (F7×Option Blk)},gl g k.1=some (k,b)→G g k=b
  | [],h=>by cases h
  |(q,c)::l,h=>by
   unfold gl at h
   cases e:Nat.beq q.1 k.1
   ·rw [e,bP]at h
    have ne:k≠q:=by rintro rfl;simp at e
    rw [G,bR ne];exact fQ h
   ·rw [e,bO]at h
    simp only [Option.some.injEq,Prod.mk.injEq]at h
    obtain ⟨rfl,rfl⟩:=h
    exact G_hit
theorem gq {d u:Nat}{b:Option Blk}{g:List (F7×Option Blk)}(h:gl g d=some ((d,u),b)):G g (d,u)=b:=fQ h
theorem SI {l:List (Nat×AV)}: ∀{l0:List (Nat×AV)},l0.map (fun p=>(p.1,T l p.1))=l0→nX (T l) l0
  | [],_=>trivial
  |(i,v)::r,h=>by
   simp only [lR,List.cons.injEq,Prod.mk.injEq,true_and]at h
   exact ⟨.of h.1,SI h.2⟩
theorem SJ {g:List (F7×Option Blk)}: ∀{g0:List (F7×Option Blk)},g0.map (fun p=>gl g p.1.1)=g0.map some→HV (G g) g0
  | [],_=>trivial
  |(k,b)::r,h=>by
   simp only [lR,List.cons.injEq]at h
   refine ⟨?_,SJ h.2⟩
   cases b with
   |none=>trivial
   |some b=>exact ⟨b,fQ h.1, .refl b⟩
theorem F2 {l l0:List (Nat×AV)}{g g0:List (F7×Option Blk)}(h1:l0.map (fun p=>(p.1,T l p.1))=l0)(h2:g0.map (fun p=>gl g p.1.1)=g0.map some):Sb ⟨T l0,G g0⟩ ⟨T l,G g⟩:=E0 (SI h1) (SJ h2)
theorem nl {a b:Nat}(h:Nat.ble a b=true):a≤b:=Nat.le_of_ble_eq_true h
theorem bs {α β:Type}{o:Option α}{f:α→Option β}{r:β}{Q:Prop}(h:o.bind f=some r)(k: ∀v,o=some v→f v=some r→Q):Q:=by
  cases o with
  |none=>cases h
  |some v=>exact k v rfl h
theorem js {σ β γ:Type}{x:Option (Sum σ β)}{f:σ→Option γ}{g:β→Option γ}{r:γ}{Q:Prop}(h:thenS x f g=some r)(k: ∀y,x=some y→Sum.elim f g y=some r→Q):Q:=by
  obtain ⟨y,h1,h2⟩:=VQ h
  exact k y h1 h2
section
variable {P:Program}{N u:Nat}{rk:Option F7}{aops:List AOp}{r:List It}{l:List (Nat×AV)}{g:List (F7×Option Blk)}{K:(Nat→AV)→E5→Prop}{Q:Ex→St→Prop}{s:St}
theorem cc {α:Type}{o:Opd}{a b:AC}{c:Bool}{x y z:α}(hc:ev s.t o= .d (.v (.bool c)))(h:cond c x y=z)(h1:c=true→x=z→De P N rk (.c a::r) Q .nrm s)(h2:c=false→y=z→De P N rk (.c b::r) Q .nrm s):De P N rk (.c (.cond o a b)::r) Q .nrm s:=
  VO c hc (fun e=>h1 e (B9 e h)) (fun e=>h2 e (nY e h))
theorem sd {d:Nat}{k:AK}{v:D}(h0:Y5 k=0)(hv:L6 (T l) (G g) k=some (.d v))(hk:L8 P u aops (T ((d, .d v)::l)) (G g) K):L8 P u (⟨some d,k,none⟩::aops) (T l) (G g) K:=C0 (.d v) h0 hv hk
theorem sp {d:Nat}{k:AK}{q:F7}{n:Nat}(h0:Y5 k=0)(hv:L6 (T l) (G g) k=some (.ptr q n))(hk:L8 P u aops (T ((d, .ptr q n)::l)) (G g) K):L8 P u (⟨some d,k,none⟩::aops) (T l) (G g) K:=C0 (.ptr q n) h0 hv hk
theorem sq {d:Nat}{k:AK}{q:F7}{n:Nat}(hv:((Y5 k,L6 (T l) (G g) k):Nat×Option AV)=(0,some (.ptr q n)))(hk:L8 P u aops (T ((d, .ptr q n)::l)) (G g) K):L8 P u (⟨some d,k,none⟩::aops) (T l) (G g) K:=C0 (.ptr q n) (congrArg Prod.fst hv) (congrArg Prod.snd hv) hk
theorem sm {d ty:Nat}{k:AK}{q:F7}{n:Nat}{cs:List AV}(hv:((Th k,Oo u d (T l) k):Bool×Option (AV×Blk))=(true,some (.ptr q n, .box ty cs)))(hk:L8 P u aops (T ((d, .ptr q n)::l)) (G (((d,u),some (.box ty cs))::g)) K):L8 P u (⟨some d,k,none⟩::aops) (T l) (G g) K:=Ot _ _ (congrArg Prod.fst hv) (congrArg Prod.snd hv) hk
theorem sn {d ty:Nat}{k:AK}{q:F7}{n:Nat}{cs:List AV}(h0:Th k=true)(hv:Oo u d (T l) k=some (.ptr q n, .box ty cs))(hk:L8 P u aops (T ((d, .ptr q n)::l)) (G (((d,u),some (.box ty cs))::g)) K):L8 P u (⟨some d,k,none⟩::aops) (T l) (G g) K:=Ot _ _ h0 hv hk
theorem gv {d j:Nat}{b w:Bool}{k:AK}{v:D}(h0:Y5 k=0)(hg:jX (T l j) b w)(hv:w=true→L6 (T l) (G g) k=some (.d v))(hk:L8 P u aops (T ((d,gd w true (.d v))::l)) (G g) K):L8 P u (⟨some d,k,some (j,b)⟩::aops) (T l) (G g) K:=M8 w (.d v) h0 hg hv hk
theorem sv {d:Nat}{k:AK}{v:D}(hv:((Y5 k,L6 (T l) (G g) k):Nat×Option AV)=(0,some (.d v)))(hk:L8 P u aops (T ((d, .d v)::l)) (G g) K):L8 P u (⟨some d,k,none⟩::aops) (T l) (G g) K:=C0 (.d v) (congrArg Prod.fst hv) (congrArg Prod.snd hv) hk
theorem ss {d:Nat}{k:AK}{q:F7}(hv:((Y5 k,L6 (T l) (G g) k):Nat×Option AV)=(0,some (.sl q)))(hk:L8 P u aops (T ((d, .sl q)::l)) (G g) K):L8 P u (⟨some d,k,none⟩::aops) (T l) (G g) K:=C0 (.sl q) (congrArg Prod.fst hv) (congrArg Prod.snd hv) hk
theorem sl {d n off:Nat}{p:Opd}{q:F7}{ty:TypeId}{cs:List AV}{v:D}(hp:ev (T l) p= .ptr q off)(hb:G g q=some (.box ty cs))(hv:(cs.drop off).head? =some (.d v))(hk:L8 P u aops (T ((d, .d v)::l)) (G g) K):L8 P u (⟨some d, .load n false p,none⟩::aops) (T l) (G g) K:=C0 (.d v) rfl (Q8 hp hb hv) hk
theorem U0 {n:Nat}{p x:Opd}{k:F7}{off:Nat}{ty:TypeId}{bs cs:List AV}(hx:((Ke (ev (T l) x),cs.length,ev (T l) p):Option (List AV)×Nat×AV)=(some cs,n, .ptr k off))(hb:G g k=some (.box ty bs))(bs':List AV)(he:((Kw bs off cs,Nat.ble (off+n) bs.length):List AV×Bool)=(bs',true))
    (hk:L8 P u aops (T l) (G ((k,some (.box ty bs'))::g)) K):L8 P u (⟨none, .store n p x,none⟩::aops) (T l) (G g) K:=by
  simp only [Prod.mk.injEq]at hx he
  exact Jz _ _ _ _ _ hx.1 hx.2.1 hx.2.2 hb (Nat.le_of_ble_eq_true he.2) bs' he.1 hk
theorem gp {d j:Nat}{b w:Bool}{k:AK}{q:F7}{n:Nat}(h0:Y5 k=0)(hg:jX (T l j) b w)(hv:w=true→L6 (T l) (G g) k=some (.ptr q n))(hk:L8 P u aops (T ((d,gd w true (.ptr q n))::l)) (G g) K):L8 P u (⟨some d,k,some (j,b)⟩::aops) (T l) (G g) K:=M8 w (.ptr q n) h0 hg hv hk
theorem gt {d j:Nat}{w:Bool}{k:AK}{v:D}(hg:((Y5 k,T l j):Nat×AV)=(0, .d (bo w)))(hv:w=true→L6 (T l) (G g) k=some (.d v))(hk:L8 P u aops (T ((d,gd w true (.d v))::l)) (G g) K):L8 P u (⟨some d,k,some (j,true)⟩::aops) (T l) (G g) K:=M8 w (.d v) (congrArg Prod.fst hg) (M3 (congrArg Prod.snd hg)) hv hk
theorem gf {d j:Nat}{w:Bool}{k:AK}{v:D}(hg:((Y5 k,T l j):Nat×AV)=(0, .d (bo w)))(hv:(!w)=true→L6 (T l) (G g) k=some (.d v))(hk:L8 P u aops (T ((d,gd (!w) true (.d v))::l)) (G g) K):L8 P u (⟨some d,k,some (j,false)⟩::aops) (T l) (G g) K:=M8 (!w) (.d v) (congrArg Prod.fst hg) (K6 (congrArg Prod.snd hg)) hv hk
theorem sa {d j x:Nat}{c q:Bool}{yo:Opd}(hj:ev (T l) (.t j)= .d (bo c))(hx:ev (T l) (.t x)=gd c true (.d (bo q)))(hy:ev (T l) yo= .d (bo false))(hk:L8 P u aops (T ((d, .d (bo (c&&q)))::l)) (G g) K):L8 P u (⟨some d, .pick (.t j) (.t x) yo,none⟩::aops) (T l) (G g) K:=C0 _ rfl (HF hj (fun hc=>by rw [hx,A2 hc]) hy) hk
theorem lr {a:AC}(h: ∀u,(∀k,G g k≠none→k.2≠u)→L8 P u aops (T l) (G g) fun t h=>De P N rk (.c a::r) Q .nrm ⟨t,h⟩):De P N rk (.c (.seq (.reg aops) a)::r) Q .nrm ⟨T l,G g⟩:=A5 (Br h)
theorem B0 {a:AC}(h: ∀{u:Nat} {_: ∀k,G g k≠none→k.2≠u},L8 P u aops (T l) (G g) fun t h=>De P N rk (.c a::r) Q .nrm ⟨t,h⟩):De P N rk (.c (.seq (.reg aops) a)::r) Q .nrm ⟨T l,G g⟩:=lr fun u hu=> @h u hu
theorem B7 (h: ∀{u:Nat} {_: ∀k,G g k≠none→k.2≠u},L8 P u aops (T l) (G g) fun t h=>De P N rk r Q .nrm ⟨t,h⟩):De P N rk (.c (.reg aops)::r) Q .nrm ⟨T l,G g⟩:=Br fun u hu=> @h u hu
theorem E7 (hn:pR aops=true)(h: ∀{u:Nat} {_: ∀k,G g k≠none→k.2≠u},L8 P u aops (T l) (G g) fun t h=>De P N rk r Q .nrm ⟨t,h⟩):De P N rk (.c (.draw aops [])::r) Q .nrm ⟨T l,G g⟩:=Nr hn fun u hu=> @h u hu
end
section
variable {t:Nat→AV}{h:E5}
theorem vb {op:BinOp}{x y:Opd}{k:IntKind}{a b:Int}{v:Value}{w:Bool}(hx:ev t x=gd w true (.d (.v (.int k a))))(hy:ev t y= .d (.v (.int k b)))(hr:OV op k a b=some v)(hw:w=true):L6 t h (.bin op x y)=some (.d (.v v)):=
  M7 (by rw [hx,A2 hw]) hy hr
theorem vl {n:Nat}{p:Opd}{k:F7}{off:Nat}{ty:TypeId}{bs:List AV}{v:AV}{w:Bool}(hp:ev t p=gd w true (.ptr k off))(hb:h k=some (.box ty bs))(hv:(bs.drop off).head? =some v)(hw:w=true):L6 t h (.load n false p)=some v:=Q8 (by rw [hp,A2 hw]) hb hv
end
end Go.Abs
/-! Own memory among what a call hands out: slices that may be empty. -/
namespace Go.Abs
open Go
/-- A slice of the run's own, or one of nothing. -/
def oE {α:Type}(xs:List α)(k:F7):AV:=match xs with
  | []=> .d (.list [])
  |_=> .sl k
theorem pW {α:Type}{k:F7}{xs:List α}(h:xs≠ []):oE xs k= .sl k:=by cases xs<;>first|exact absurd rfl h|rfl
theorem oB_ren {α:Type}{ty:TypeId}{sz:Nat}{e:α→List D}{xs:List α}{f:F7→F7}:(oB ty sz e xs).map (Ly f)=oB ty sz e xs:=by cases xs<;>rfl
section
variable {t:Nat→AV}{h:E5}
end
/-- What hands out data hands out no memory. -/
theorem MCall.ofP {P:Program}{f:FuncId}{ds:List D}{r:D}(hp:PCall P f ds r):MCall P f (ds.map .d) [] (.d r) [] [none]:=by
  refine ⟨by simp [nC,rA,oH,kA],hp.1,fun w I ρ vs H hlen hrep=> ?_⟩
  refine (hp.2 w I vs H.ilt (by simpa using hlen) (fun i d hi=> ?_)).mono ?_
  ·have:=hrep i (.d d) (by rw [lK,hi];rfl)
   cases this with|d _ _ h=>exact h
  rintro e w' ⟨x,I',rfl,hr,tr⟩
  have hno: ∀g,¬own ρ (G (Xl 0 [])) g:=by rintro g ⟨k,b,h1,_⟩;cases h1
  have H2:HeapOK w' I' ρ (G (Xl 0 [])):=H.keep (fun g hg=>absurd hg (hno g)) (fun b hb=>tr.frame b (H.ilt b hb)) tr.imm (fun g hg=>absurd hg (hno g)) tr.ilt (fun _ _ h=>h) tr.size H.fresh H.rone
  refine ⟨x, .d r,I',ρ,G (Xl 0 []),rfl, .d _ _ hr,H2,⟨tr.os,tr.tape,tr.output,tr.size,fun b hb _=>tr.frame b hb,tr.imm,fun b hb hl=> .inl (tr.immBack b hb hl),fun b hb _=>hb,fun _ _ h=>h⟩,fun j=>fK j,rfl,fun i b hb=>by simp at hb,fun j b hb=> ?_,fun j hj i hi=>absurd hi (by simp),fun j j' hj hj' e=> ?_⟩
  ·cases j<;>simp at hb
  ·simp only [lL,lN]at hj hj'
   omega
theorem AVle.tup {xs ys:List AV}(h:All2 AVle xs ys):AVle (.tup xs) (.tup ys):=by
  intro w I ρ v hv
  cases hv with
  |tup _ vs hl hr=>
   refine .tup _ vs (h.length▸hl) (fun i c hc=> ?_)
   obtain ⟨a,e1,e2⟩:=h.get hc
   exact e2 _ _ _ _ (hr i a e1)
theorem KE {α:Type}{u S j:Nat}{f:F7→F7}{ty:TypeId}{sz:Nat}{e:α→List D}{xs:List α}{r:List (Option Blk)}{L:List (F7×Option Blk)}(h:Yn u S f (j+1) r=L):Yn u S f j (oB ty sz e xs::r)=((S+j,u),oB ty sz e xs)::L:=by
  rw [Yn,oB_ren,h]
theorem fR {P:Program}{u:Nat}{l:List (Nat×AV)}{g:List (F7×Option Blk)}{S:Nat}{f:Opd}{args:List Opd}{fid:FuncId}{avs avs0:List AV}{pre:List Blk}{v v':AV}{post:List (Option Blk)}{new:List (Option Blk)}(hM:MCall P fid avs0 pre v post new)(κs ks us:List F7)(g':List (F7×Option Blk))
    (hc:S9 (T l) f args=some (fid,avs)) (hle:All2 AVle avs (avs0.map (MH (Z1 (Jb κs) (Jb κs))))) (hks:avs.flatMap (Q5 (G g) 6)=ks) (hlive: ∀q∈ks,G g q≠none)
    (hpre:ZQ (G g) κs (pre.map (Ly (Z1 (Jb κs) (Jb κs))))) (hsub: ∀k∈κs,k∈ks) (hnd:κs.Nodup) (hv:PS (Z1 (Jb κs) fun j=>(S+j,u)) v=v')
    (hus:(Ti (Jb κs) (Z1 (Jb κs) fun j=>(S+j,u)) 0 post++Yn u S (Z1 (Jb κs) fun j=>(S+j,u)) 0 new).map (·.1)=us) {L:List (F7×Option Blk)} (hL:Yn u S (Z1 (Jb κs) fun j=>(S+j,u)) 0 new=L)
    (hg:P8 (G g) (Ti (Jb κs) (Z1 (Jb κs) fun j=>(S+j,u)) 0 post++L)=G g'):OC P u l g S f args v' ks us g':=
  MI hM κs ks us g' hc hle hks hlive hpre hsub hnd hv hus (by rw [hL];exact hg)
theorem IP {d u:Nat}(h:(Nat.blt d 900000||Nat.blt 901000 d)=true){i:Nat}(hi:i<1000):(d,u)≠Ad i:=by
  simp only [bV,Nat.blt_eq]at h
  intro e
  simp only [Ad,Prod.mk.injEq]at e;omega
theorem XY {n:Nat}{v v1:AV}{post new:List (Option Blk)}{h:E5}(σs:List F7)(hv:v1=PS (Z1 Ad (Jb σs)) v)(hpost:XX h (Z1 Ad (Jb σs)) 0 post)(hnew:kE h (Z1 Ad (Jb σs)) σs new)
    (hl:(σs.length,Nat.ble n 1000)=(new.length,true)) (hd: ∀k∈σs,∀i,i<1000→k≠Ad i) (hnd:σs.Nodup):EB n v post new v1 h:=by
  simp only [Prod.mk.injEq,Nat.ble_eq]at hl
  have hget: ∀j,j<new.length→Jb σs j∈σs:=by
    intro j hj
    simp only [Jb,List.getD,lH (show j<σs.length by omega),Option.getD_some]
    exact List.getElem_mem _
  refine ⟨Jb σs,hv,fun i b hb=> ?_,fun j b hb=>KB hnew hb,fun j hj i hi=>hd _ (hget j hj) i (by omega),fun j j' hj hj' e=> ?_⟩
  ·have:=FR hpost hb
   rwa [wK]at this
  ·simp only [Jb,List.getD,lH (show j<σs.length by omega),lH (show j'<σs.length by omega),Option.getD_some]at e
   exact FQ hnd (by omega) (by omega) e
end Go.Abs
/-! Own memory becomes data, wherever that is wanted. -/
namespace Go.Abs
open Go
/-- A value, where the blocks at some keys have become data (h holds these). -/
def kG (h:E5)(x y:AV):Prop:=AVle x y∨∃d d',N2 h 6 x=some d∧DLe d d'∧y= .d d'
def oM (h:E5)(ks:List F7)(k:F7)(b:Blk):Prop:=k∉ks∧∃b0,h k=some b0∧(b0=b∨∃ty cs cs',b0= .box ty cs∧b= .box ty cs'∧All2 (kG (R7 h ks)) cs cs')
def pX (I:Nat→Prop)(ρ:Rho)(h:E5)(ks:List F7):Nat→Prop:=fun b=>I b∨own ρ (R7 h ks) b
section
variable {w:World}{I:Nat→Prop}{ρ:Rho}{h:E5}{ks:List F7}
theorem La {q:F7}{b:Blk}(hq:R7 h ks q=some b):h q=some b∧q∈ks:=by
  have:(if q∈ks then h q else none)=some b:=hq
  split at this
  ·exact ⟨this,‹_›⟩
  ·cases this
theorem XZ (H:HeapOK w I ρ h){x y:AV}{v:Value}(hf:kG (R7 h ks) x y)(hx:RepV w I ρ x v):RepV w (pX I ρ h ks) ρ y v:=by
  rcases hf with q|⟨d,d',h1,h2,rfl⟩
  ·exact (q _ _ _ _ hx).keep (fun _ _=>rfl) (fun _ h=> .inl h) (fun _ _ h=>h)
  ·have Hk:=H.sub fun q b hq=>(La (ks:=ks) hq).1
   exact .d _ _ (h2 _ _ _ (Kx Hk 6 x d v hx h1))
theorem EE {k:F7}{b b0:Blk}(q:b0=b∨∃ty cs cs',b0= .box ty cs∧b= .box ty cs'∧All2 (kG (R7 h ks)) cs cs'):O9 ρ k b=O9 ρ k b0:=by
  rcases q with rfl|⟨ty,cs,cs',rfl,rfl,_⟩<;>rfl
theorem YA (H:HeapOK w I ρ h){h':E5}(hh: ∀k b,h' k=some b→oM h ks k b):HeapOK w (pX I ρ h ks) ρ h':=by
  have Hk:=H.sub fun q b hq=>(La (ks:=ks) hq).1
  refine ⟨fun k b hb=> ?_,fun k k' b b' g h1 h2 h3 h4=> ?_,fun k b g h1 h2 hi=> ?_,fun k b g h1 h2=> ?_,fun b hb=> ?_,H.fresh,H.rone⟩
  ·obtain ⟨_,b0,e1,rfl|⟨ty,cs,cs',rfl,rfl,ha⟩⟩:=hh k b hb
   ·exact (H.blk k b0 e1).keep (fun _ _=>rfl) (fun _ _=>rfl) (fun _ h=> .inl h) (fun _ _ h=>h)
   ·obtain ⟨g,vs,b1,b2,b3,b4,b5⟩:=H.blk k _ e1
    refine ⟨g,vs,b1,b2,by rw [← ha.length];exact b3,b4,fun i c hc=> ?_⟩
    obtain ⟨x,g1,g2⟩:=ha.get hc
    exact XZ H g2 (b5 i x g1)
  ·obtain ⟨_,b0,e1,q⟩:=hh k b h1
   obtain ⟨_,b1,e2,q'⟩:=hh k' b' h2
   rw [EE q]at h3
   rw [EE q']at h4
   exact H.sep k k' b0 b1 g e1 e2 h3 h4
  ·obtain ⟨n,b0,e1,q⟩:=hh k b h1
   rw [EE q]at h2
   rcases hi with hi|⟨k',b',e2,e3⟩
   ·exact H.notI k b0 g e1 h2 hi
   ·obtain ⟨e4,e5⟩:=La e2
    have:=H.sep k k' b0 b' g e1 e4 h2 e3
    subst this
    exact n e5
  ·obtain ⟨n,b0,e1,q⟩:=hh k b h1
   rw [EE q]at h2
   exact H.lt k b0 g e1 h2
  ·rcases hb with hb|hb
   ·exact H.ilt b hb
   ·exact Hk.own_lt hb
theorem fS {h':E5}(hh: ∀k b,h' k=some b→oM h ks k b){g:Nat}(ho:own ρ h' g):own ρ h g:=by
  obtain ⟨k,b,h1,h2⟩:=ho
  obtain ⟨_,b0,e1,q⟩:=hh k b h1
  exact ⟨k,b0,e1,by rw [← EE q];exact h2⟩
theorem nD {h':E5}(hh: ∀k b,h' k=some b→oM h ks k b):Tr w I ρ h w (pX I ρ h ks) ρ h':=
  ⟨rfl,rfl,rfl,wH _,fun _ _ _=>rfl,fun _ h=> .inl h,fun _ hb _=>hb.imp id fun ⟨k,c,a1,a2⟩=>⟨k,c,(La a1).1,a2⟩,fun _ hb _=>fS hh hb,fun _ _ h=>h⟩
end
section
variable {P:Program}{N:Nat}{rk:Option F7}{s:St}{Q:Ex→St→Prop}
theorem oN {c:Code}{s0:St}(ks:List F7)(ht: ∀i,kG (R7 s.h ks) (s.t i) (s0.t i))(hg: ∀k b,s0.h k=some b→oM s.h ks k b)(h:AWc P N rk c s0 Q):AWc P N rk c s Q:=by
  intro w I ρ a hs ro hro
  have hs0:Sim w (pX I ρ s.h ks) ρ N s0 a:=⟨hs.size,⟨hs.defers.nd,fun d hd=>by
    obtain ⟨r,e1,e2,e3,e4⟩:=hs.defers.each d hd
    exact ⟨r,e1,e2,fun q=>q.elim e3 fun ⟨k,c,a1,a2⟩=>e4 ⟨k,c,(La a1).1,a2⟩,fun q=>e4 (fS hg q)⟩⟩,fun i=>XZ hs.heap (ht i) (hs.tmp i),YA hs.heap hg⟩
  refine (h w _ ρ a hs0 ro hro).mono ?_
  rintro e a' w' ⟨s',I',ρ',hq,hs',htr,hnd⟩
  exact ⟨s',I',ρ',hq,hs',(nD hg).trans htr,hnd⟩
end
def rB (h:E5)(t:Nat→AV):List (Nat×AV)→Prop
  | []=>True
  |(i,v)::r=>kG h (t i) v∧rB h t r
def kH (h:E5)(ks:List F7):List (F7×Option Blk)→Prop
  | []=>True
  |(k,b)::r=>(match b with|some b=>oM h ks k b|none=>True)∧kH h ks r
theorem YB {h:E5}{t:Nat→AV}: ∀{l:List (Nat×AV)},rB h t l→∀i,kG h (t i) (T l i)
  | [],_,i=> .inl (.any _)
  |(j,v)::r,H,i=>by
   rw [T]
   split
   ·rename_i e;subst e;exact H.1
   ·exact YB H.2 i
theorem YC {h:E5}{ks:List F7}: ∀{g:List (F7×Option Blk)},kH h ks g→∀k b,G g k=some b→oM h ks k b
  | [],_,k,b,hb=>by cases hb
  |(j,v)::r,H,k,b,hb=>by
   rw [G]at hb
   split at hb
   ·rename_i e;subst e;subst hb;exact H.1
   ·exact YC H.2 k b hb
section
variable {P:Program}{N:Nat}{rk:Option F7}{r:List It}{Q:Ex→St→Prop}{l:List (Nat×AV)}{g:List (F7×Option Blk)}
/-- What is the run's own becomes data. -/
theorem oO {a:AC}(ks:List F7)(l0:List (Nat×AV))(g0:List (F7×Option Blk))(h1:rB (R7 (G g) ks) (T l) l0)(h2:kH (G g) ks g0)(h:De P N rk (.c a::r) Q .nrm ⟨T l0,G g0⟩):De P N rk (.c a::r) Q .nrm ⟨T l,G g⟩:=
  fun M c hc=>oN (s:=⟨T l,G g⟩) ks (YB h1) (YC h2) (h M c hc)
end
theorem U5 {h:E5}{x y:AV}(e:x=y):kG h x y:= .inl (.of e)
theorem ZW {h:E5}{x:AV}{d d':D}(h1:N2 h 6 x=some d)(h2:DLe d d'):kG h x (.d d'):= .inr ⟨d,d',h1,h2,rfl⟩
theorem CJ {h:E5}{ks:List F7}{k:F7}{b:Blk}{l:List (F7×Option Blk)}(h1:h k=some b)(hn:k∉ks)(hl:kH h ks l):kH h ks ((k,some b)::l):=⟨⟨hn,b,h1, .inl rfl⟩,hl⟩
theorem fT {α:Type}{h:E5}{ks:List F7}{k:F7}{ty:TypeId}{sz:Nat}{f:α→List D}{xs:List α}{l:List (F7×Option Blk)}(h1:h k=oB ty sz f xs)(hn:k∉ks)(hl:kH h ks l):kH h ks ((k,oB ty sz f xs)::l):=by
  cases xs with
  |nil=>exact ⟨trivial,hl⟩
  |cons x xs=>exact ⟨⟨hn,_,h1, .inl rfl⟩,hl⟩
theorem YD {h:E5}{ks:List F7}{k:F7}{ty:TypeId}{cs cs':List AV}{l:List (F7×Option Blk)}(h1:h k=some (.box ty cs))(hn:k∉ks)(hc:All2 (kG (R7 h ks)) cs cs')(hl:kH h ks l):kH h ks ((k,some (.box ty cs'))::l):=⟨⟨hn,_,h1, .inr ⟨ty,cs,cs',rfl,rfl,hc⟩⟩,hl⟩
theorem Sh {k:F7}:k∉ ([]:List F7):=by simp
theorem Ka {k q:F7}{ks:List F7}(h:k≠q)(hr:k∉ks):k∉q::ks:=by simp [h,hr]
/-- What is handed in becomes data, and what is handed out is the run's own. -/
theorem FCall.fr {P:Program}{u S:Nat}{f:FuncId}{avs:List AV}{ds ds':List D}{v:AV}{ups:List (F7×Option Blk)}{h0:E5}(hF:FCall P u S f (ds'.map .d) (fun _=>none) v ups)(hd:O5 (N2 h0 6) avs=some ds)(hle:All2 DLe ds ds')(_hu: ∀k∈ups.map (·.1),∃j,j<6∧k=(S+j,u)):
    FCall P u S f avs (R7 h0 (avs.flatMap (Q5 h0 6))) v ((avs.flatMap (Q5 h0 6)).map (fun k=>(k,none))++ups):=by
  refine ⟨hF.1,fun w I ρ h vs H hh hlen hrep hfr=> ?_⟩
  have hlive:=Pz avs ds hd
  have heq: ∀q∈avs.flatMap (Q5 h0 6),h q=h0 q:=by
    intro q hq
    cases hb:h0 q with
    |none=>exact absurd hb (hlive q hq)
    |some b=>exact hh q b (by unfold R7;rw [bQ hq,hb])
  have hd':O5 (N2 h 6) avs=some ds:=by rw [← hd];exact Np avs heq
  rw [← Xx avs heq]
  clear hd hh heq hlive
  generalize hks:avs.flatMap (Q5 h 6)=ks at*
  let hf:E5:=fun q=>if q∈ks then none else h q
  have hff: ∀k b,hf k=some b→oM h ks k b:=by
    intro q b hq
    have:(if q∈ks then none else h q)=some b:=hq
    split at this
    ·cases this
    ·exact ⟨‹_›,b,this, .inl rfl⟩
  have hU:P8 h (ks.map fun k=>(k,none))=hf:=by
    funext q
    show _=if q∈ks then none else h q
    by_cases e:q∈ks
    ·rw [bQ e]
     cases hb:P8 h (ks.map fun k=>(k,none)) q with
     |none=>rfl
     |some b=>
      rcases Zx _ _ _ _ hb with ⟨a,_⟩|a
      ·exact absurd (by simp only [List.map_map,List.mem_map,Function.comp];exact ⟨q,e,rfl⟩) a
      ·simp at a
    ·rw [bR e,Dz]
     simp only [List.map_map,List.mem_map,Function.comp]
     rintro ⟨x,hx,rfl⟩
     exact e hx
  have hUU: ∀(a b:List (F7×Option Blk)) (h:E5),P8 h (a++b)=P8 (P8 h a) b:=by
    intro a
    induction a with
    |nil=>intro b h;rfl
    |cons x a ih=>intro b h;obtain ⟨k,c⟩:=x;exact ih b _
  have H1:=YA (ks:=ks) H hff
  have hk:O5 (N2 (R7 h ks) 6) avs=some ds:=by
    rw [← hd']
    refine Np avs fun q hq=> ?_
    rw [hks]at hq
    show (if q∈ks then h q else none)=h q
    rw [bQ hq]
  obtain ⟨l1,l2⟩:=Fw hk
  have Hk:=H.sub fun q b hq=>(La (ks:=ks) hq).1
  refine (hF.2 w (pX I ρ h ks) ρ hf vs H1 (fun q b hq=>by cases hq) (by rw [lS,← hle.length];omega) (fun i c hc=> ?_) hfr).mono ?_
  ·obtain ⟨d',e1,rfl⟩:=DT hc
   obtain ⟨d,e2,e3⟩:=hle.get e1
   obtain ⟨x,e4,e5⟩:=l2 i d e2
   exact .d _ _ (e3 _ _ _ (Kx Hk 6 x d _ (hrep i x e4) e5))
  rintro e w' ⟨x,I',ρ',rfl,r1,r2,r3,r4⟩
  rw [hUU,hU]
  exact ⟨x,I',ρ',rfl,r1,r2,(nD hff).trans r3,r4⟩
section
variable {P:Program}{u:Nat}{l:List (Nat×AV)}{g:List (F7×Option Blk)}
end
end Go.Abs
/-! Functions as data: a list of functions, one of which is chosen. -/
namespace Go.Abs
open Go
/-- A function, or none, as data. -/
def fnD:Option Nat→D
  |some f=> .fn (.func f) [] []
  |none=> .v .nilFunc
def rW (l:List (Option Nat))(n:Int):Option Nat:=if 0≤n then (l[n.toNat]?).join else none
/-- One of two functions. -/
theorem FW {α:Type}{v a:Nat}{x y:Option α}{r:α}(h:cond (Nat.beq v a) x y=some r):v=a∧x=some r∨Nat.beq v a=false∧y=some r:=by
  cases e:Nat.beq v a
  ·rw [e]at h;exact .inr ⟨rfl,h⟩
  ·rw [e]at h;exact .inl ⟨Nat.eq_of_beq_eq_true e,h⟩
end Go.Abs
namespace Go.Abs
open Go
/-- Elements put into a list at a place. -/
def qS {α:Type}(xs:List α)(i:Int)(ys:List α):Option (List α):=if xs.length≠0∧ys.length≠0∧0≤i∧i≤xs.length∧xs.length+ys.length≤1000000000 then some (xs.take i.toNat++ys++xs.drop i.toNat)else none
/-- The contract of slices.Insert at a type, as it is used. -/
def rX (P:Program)(f:FuncId)(e sz:Nat):Prop:= ∀(xs ys:List (List D)) (i:Nat),xs≠ []→ys≠ []→i≤xs.length→xs.length+ys.length≤1000000000→
  MCall P f [.sl (900000,0), .d (.v (.int .i64 i)), .sl (900001,0)] [.arr e sz xs, .arr e sz ys] (.sl (800000,0)) [none,none] [some (.arr e sz (xs.take i++ys++xs.drop i))]
end Go.Abs
/-! Shorter proofs: the resolved code need not be written, chains of equal parts. -/
namespace Go.Abs
open Go
/-- What the conversion finds of a function: where its results lie, and its code. -/
def nE (P:Program)(fn:Func)(N:Nat)(M:JP):Option (List RV×AC):=
  match fn.results.toList.mapM (JR P),fn.body with
  |some rs,some c=>match Z9 P N M c,fn.name== "runtime.NumGoroutine" with
   |some ac,false=>some (rs,ac)
   |_,_=>none
  |_,_=>none
theorem fk {P:Program}{f:FuncId}{fn:Func}{N:Nat}{rs:List RV}{ac:AC}(h:P.funcs[f]? =some fn)(hn:fn.ntmps=N)(M:JP)(hc:nE P fn N M=some (rs,ac)):FnOK P f N rs ac:=by
  unfold nE at hc
  split at hc
  ·rename_i rs' c hr hb
   split at hc
   ·rename_i ac' hac hx
    simp only [Option.some.injEq,Prod.mk.injEq]at hc
    obtain ⟨rfl,rfl⟩:=hc
    exact ⟨fn,c,h,hb,hn,hr,⟨M,hac⟩,hx⟩
   ·cases hc
  ·cases hc
def m0:JP:=fun _=> []
theorem rD {h:E5}{n:Nat}{x:D}{r:List AV}{ds:List D}(h2:O5 (N2 h n) r=some ds):O5 (N2 h n) (.d x::r)=some (x::ds):=E6 C2 h2
theorem ca {x:D}{xs ys:List D}(hx:x.one=true)(h:All2 (fun x y=>DLe x y∧y.one=true) xs ys):All2 (fun x y=>DLe x y∧y.one=true) (x::xs) (x::ys):= .cons ⟨.refl _,hx⟩ h
theorem cz: ∀{xs:List D} (_:xs.all D.one=true),All2 (fun x y=>DLe x y∧y.one=true) xs xs
  | [],_=> .nil
  |_::_,h=>by
   simp only [List.all_cons,bU]at h
   exact ca h.1 (cz h.2)
theorem cv {x:AV}{xs ys:List AV}(h:All2 AVle xs ys):All2 AVle (x::xs) (x::ys):= .cons (.of rfl) h
theorem cw: ∀{xs:List AV},All2 AVle xs xs
  | []=> .nil
  |_::_=>cv cw
abbrev zs (n:Nat):List AV:=List.replicate n (di 0)
theorem sg {g g0:List (F7×Option Blk)}{d u:Nat}{b:Blk}(h:gl g d=some ((d,u),some b))(r:HV (G g) g0):HV (G g) (((d,u),some b)::g0):=B5 (gq h) (.of rfl) r
end Go.Abs
/-! Arrays of values, indexed by what is only known as the program runs. -/
namespace Go.Abs
open Go
def rY {α:Type}(xs:List α)(n:Int)(a:α):Option (List α):=if 0≤n∧n.toNat<xs.length then some (xs.set n.toNat a)else none
theorem YE {α:Type}{xs:List α}{n:Int}{a:α}(h:C1 xs n=some a):0≤n∧n.toNat<xs.length∧xs[n.toNat]? =some a:=by
  unfold C1 at h
  split at h
  ·exact ⟨‹_›,(lI.1 h).1,h⟩
  ·cases h
theorem SK {α:Type}{f:α→List D}{sz:Nat}(hs: ∀x,(f x).length=sz): ∀{xs:List α} {i:Nat} {a:α},xs[i]? =some a→(((xs.map f).flatten).drop (i*sz)).take sz=f a∧(i+1)*sz≤((xs.map f).flatten).length
  | [],_,_,h=>by simp at h
  |x::r,0,a,h=>by
   simp only [List.getElem?_cons_zero,Option.some.injEq]at h
   subst h
   simp only [lR,List.flatten_cons,Nat.zero_mul,List.drop_zero,wK,Nat.one_mul,lM,hs]
   refine ⟨?_,by omega⟩
   rw [← hs x,List.take_left]
  |x::r,i+1,a,h=>by
   simp only [List.getElem?_cons_succ]at h
   obtain ⟨h1,h2⟩:=SK hs h
   simp only [lR,List.flatten_cons,lM,hs]
   rw [Nat.succ_mul i sz,Nat.add_comm (i*sz) sz,← hs x,List.drop_append,hs x]
   simp only [Nat.add_sub_cancel_left]
   rw [List.drop_eq_nil_of_le (by rw [hs x];omega),lQ]
   exact ⟨h1,by rw [Nat.succ_mul (i+1) sz];omega⟩
section
variable {t:Nat→AV}{h:E5}
theorem kI {α:Type}{len sz:Nat}{x i:Opd}{k:F7}{off:Nat}{kd:IntKind}{n:Int}{xs:List α}{a:α}(hx:ev t x= .ptr k off)(hi:ev t i= .d (.v (.int kd n)))(hv:C1 xs n=some a)(hl:xs.length=len):L6 t h (.idxP len sz x i)=some (.ptr k (off+n.toNat*sz)):=by
  obtain ⟨h0,h1,_⟩:=YE hv
  simp only [L6,hx,hi]
  rw [bQ ⟨h0,hl▸h1⟩]
theorem oP {α:Type}{sz off:Nat}{bs:List AV}{n:Int}{xs:List α}{a:α}{f:α→List D}(hs: ∀x,(f x).length=sz)(hv:C1 xs n=some a)(hb:(bs.drop off).take (xs.length*sz)=((xs.map f).flatten).map AV.d):
    sz≤(bs.drop (off+n.toNat*sz)).length∧(bs.drop (off+n.toNat*sz)).take sz=(f a).map .d:=by
  obtain ⟨h0,h1,h2⟩:=YE hv
  obtain ⟨g1,g2⟩:=SK hs h2
  have hlen:=congrArg List.length hb
  rw [lS,lV,List.length_drop]at hlen
  rw [wJ,Nat.one_mul]at g2
  have hle:((xs.map f).flatten).length≤xs.length*sz:=by omega
  have hge:(n.toNat+1)*sz≤xs.length*sz:=Nat.mul_le_mul_right _ h1
  rw [wJ,Nat.one_mul]at hge
  refine ⟨by rw [List.length_drop];omega,?_⟩
  have:(((bs.drop off).take (xs.length*sz)).drop (n.toNat*sz)).take sz=((((xs.map f).flatten).map AV.d).drop (n.toNat*sz)).take sz:=by rw [hb]
  rw [List.drop_take,List.take_take,List.drop_drop,← List.map_drop,← List.map_take,g1,Nat.min_eq_left (by omega)]at this
  exact this
theorem fU {α:Type}{sz off:Nat}{p:Opd}{k:F7}{ty:TypeId}{bs:List AV}{n:Int}{xs:List α}{a:α}{f:α→List D}{v:AV}(hp:ev t p= .ptr k (off+n.toNat*sz))(hb:h k=some (.box ty bs))(hv:C1 xs n=some a)(hs: ∀x,(f x).length=sz)(hc:(bs.drop off).take (xs.length*sz)=((xs.map f).flatten).map AV.d)(hr:X5 ((f a).map .d)=v):L6 t h (.load sz true p)=some v:=by
  obtain ⟨h1,h2⟩:=oP hs hv hc
  simp only [L6,hp,W3,hb,if_true,h1,h2,hr]
end
theorem SL {P:Program}{u:Nat}{r:List AOp}{l:List (Nat×AV)}{g:List (F7×Option Blk)}{K:(Nat→AV)→E5→List (List F7×List F7)→Prop}{α:Type}{n off sz:Nat}{p x:Opd}(f:α→List D)(q:F7)(ty:TypeId)(xs:List α)(i:Int)(a b:α)(ds:List D)(hx:Ke (ev (T l) x)=some (ds.map .d))(hn:ds.length=n)(hp:ev (T l) p= .aptr q sz i.toNat off)(hb:G g q=some (.arr ty sz (xs.map f)))(ha:C1 xs i=some a)
    (hl:off+n≤(f a).length) (he:Kw (f a) off ds=f b) (hk:Fb P u r (T l) (G ((q,some (.arr ty sz ((Lx xs i b).map f)))::g)) fun t' h' tr=>K t' h' ((Bq (T l) (G g) (.store n p x),[q])::tr)):Fb P u (⟨none, .store n p x,none⟩::r) (T l) (G g) K:=by
  unfold Fb
  have h1:(ds.map AV.d).length=n:=by simpa using hn
  have h2:(xs.map f).set i.toNat (f b)=(Lx xs i b).map f:=by rw [Lx,List.map_set]
  simp only [gW,AR,No,hx,h1,if_true,hp,hb,(Qc (f:=f) ha).2.2,Yk ds,hl,and_self,he,h2]
  exact hk
def rZ (k:IntKind)(a b:Int):Option Int:=if b<0 then none else some (k.wrap (a*2^ (min b.toNat k.bits)))
def sA (k:IntKind)(a b:Int):Option Int:=if b<0 then none else some (a.fdiv (2^ (min b.toNat k.bits)))
end Go.Abs
namespace Go.Abs
open Go
section
variable {P:Program}
end
end Go.Abs
/-! Any number of elements, appended in a region that draws its order. -/
namespace Go.Abs
open Go
section
variable {P:Program}{u:Nat}{r:List AOp}{l:List (Nat×AV)}{g:List (F7×Option Blk)}
theorem Zy: ∀{aops:List AOp} {u:Nat} {t:Nat→AV} {h:E5} {K K':(Nat→AV)→E5→List (List F7×List F7)→Prop},(∀t h tr,K t h tr→K' t h tr)→Fb P u aops t h K→Fb P u aops t h K'
  | [],u,t,h,K,K',hk,hr=>by simp only [Fb]at hr ⊢;exact hk _ _ _ hr
  |⟨dst,k,g⟩::r,u,t,h,K,K',hk,hr=>by
   simp only [Fb]at hr ⊢
   exact jT (fun v ups=>Zy fun t h tr=>hk _ _ _) (eK fun v ups=>Zy fun t h tr=>hk _ _ _) hr
/-- Behind nil. -/
theorem ZX {K:(Nat→AV)→E5→List (List F7×List F7)→Prop}{α:Type}{d e sz:Nat}{ty:TypeId}{x y:Opd}(f:α→List D)(ys zs:List α)(hy:Bd (G g) sz (ev (T l) y)=some (ys.map f))(hx:ev (T l) x= .d .nilS)(hl:X6 ([]:List α) ys=some zs)(hn:G g (d,u)=none)
    (hk:Fb P u r (T ((d,oS zs (d,u))::l)) (G (((d,u),oB e sz f zs)::g)) fun t' h' tr=>K t' h' ((Bq (T l) (G g) (.append ty e sz x y),[(d,u)])::tr)∧K t' h' ((Bq (T l) (G g) (.append ty e sz x y),[])::tr)):Fb P u (⟨some d, .append ty e sz x y,none⟩::r) (T l) (G g) K:=by
  obtain ⟨h1,h2⟩:=Jn hl
  have h2:zs=ys:=h2
  rw [h2]at hk
  clear h2 hl
  cases ys with
  |nil=>
   have hy':Bd (G g) sz (ev (T l) y)=some []:=hy
   have e0:G (((d,u),oB e sz f ([]:List α))::g)=G g:=by
     funext q
     rw [G]
     by_cases e1:q=(d,u)
     ·subst e1;rw [bQ rfl,hn];rfl
     ·rw [bR e1]
   rw [e0]at hk
   unfold Fb
   simp only [gW,AR,No,hy',hx,P8]
   exact Zy (fun _ _ _ q=>q.2) hk
  |cons y0 ys=>
   unfold Fb
   simp only [lR]at hy
   simp only [gW,AR,No,hy,hx]
   rw [bQ (by simpa using h1)]
   simp only [Option.getD_some,lR,List.map_nil,P8]
   have e0:Bg (G g) (d,u) (some (.arr e sz (f y0::ys.map f)))=G (((d,u),oB e sz f (y0::ys))::g):=by rw [VN];rfl
   rw [e0]
   exact Zy (fun _ _ _ q=>q.1) hk
end
theorem pY {Q R:Prop}(f:Q→R)(q:Q):R:=f q
end Go.Abs
/-! Strings. -/
namespace Go.Abs
open Go
def kJ (s:ByteArray)(i:Int):Option Int:=if 0≤i then (s.data.toList[i.toNat]?).map fun b=>(b.toNat:Int)else none
def sB (a b:ByteArray):Option ByteArray:=if a.size+b.size≤1000000000 then some (a++b)else none
def sC (s:ByteArray)(i j:Int):Option ByteArray:=if 0≤i∧i≤j∧j≤s.size then some (s.extract i.toNat j.toNat)else none
section
variable {t:Nat→AV}{h:E5}{x y z:Opd}{s s' v:ByteArray}{k k':IntKind}{i j:Int}
theorem fV {n:Int}(hx:ev t x= .d (.v (.string s)))(hy:ev t y= .d (.v (.int k i)))(hv:kJ s i=some n):L6 t h (.str .idx [x,y])=some (.d (.v (.int .u8 n))):=by
  unfold kJ at hv
  split at hv
  ·rename_i h0
   rw [lE]at hv
   obtain ⟨b,hb,rfl⟩:=hv
   simp only [L6,lR,List.map_nil,hx,hy,Xj,h0,if_true,hb,lF]
  ·cases hv
end
end Go.Abs
/-! A list that may be empty: the two cases. -/
namespace Go.Abs
open Go
theorem NO {α β:Type}{xs:List α}{p q:Option β}{r:β}(h:cond xs.isEmpty p q=some r):(xs= []∧p=some r)∨(xs≠ []∧q=some r):=by
  cases xs with
  |nil=>exact .inl ⟨rfl,h⟩
  |cons x xs=>exact .inr ⟨List.cons_ne_nil _ _,h⟩
theorem fW {α:Type}{k:F7}{xs:List α}(h:xs= []):oS xs k= .d .nilS:=by subst h;rfl
/-- Runs of equal numbers become one. -/
def Er:List Int→List Int
  | []=> []
  | [x]=> [x]
  |x::y::r=>cond (x==y) (Er (y::r)) (x::Er (y::r))
def EF (p:List Int):Option (List Int):=match p with
  | []=>none
  |x::r=>some (Er (x::r))
theorem PV {p r:List Int}(h:EF p=some r):p≠ []∧r=Er p:=by
  cases p with
  |nil=>cases h
  |cons x p=>exact ⟨List.cons_ne_nil _ _,(lD h).symm⟩
theorem HH (a:Int): ∀l:List Int,Er (l++ [a])=Er l++ (if l.getLast? =some a then []else [a])
  | []=>rfl
  | [x]=>by
    by_cases e:x=a
    ·subst e;simp [Er]
    ·have:(x==a)=false:=by simp [e]
     simp [Er,e,this]
  |x::y::r=>by
   have ih:=HH a (y::r)
   rw [List.cons_append]at ih
   rw [List.cons_append,List.cons_append,Er,Er,ih,List.getLast?_cons_cons]
   cases x==y
   ·rfl
   ·rfl
end Go.Abs
/-! Calls whose code is run in place: what is the run's own is shared with them. -/
namespace Go.Abs
open Go
theorem VT {u d:Nat}{t:Nat→AV}{ty:TypeId}{x:Opd}{cs:List AV}(h:ev t x=X5 cs):Oo u d t (.box ty true x)=some (.ptr (d,u) 0, .box ty cs):=by
  have:cellsOf true (ev t x)=some cs:=by
    rw [h];unfold X5
    cases ha:Kd cs with
    |none=>rfl
    |some ds=>
     have:=X1 cs
     unfold X5 at this
     rw [ha]at this
     exact this
  simp only [Oo,this,lF]
section
variable {P:Program}{u:Nat}{r:List AOp}{l:List (Nat×AV)}{g:List (F7×Option Blk)}{K:(Nat→AV)→E5→Prop}
/-- What the code that is run in place has to leave. -/
def oQ {γ:Type}(rs:List RV)(J:AV→γ→List (Nat×AV)×List (F7×Option Blk)→Prop)(l1:γ→List (Nat×AV))(g1:γ→List (F7×Option Blk))(e:Ex)(s:St):Prop:=
  (e= .nrm∨e= .ret)∧∃v gg,CB s.t s.h rs=some v∧J v gg (l1 gg,g1 gg)∧HV s.h (g1 gg)
def oR {γ:Type}(t:AV→Nat→AV)(v:AV)(_:γ)(x:List (Nat×AV)×List (F7×Option Blk)):Prop:=nX (t v) x.1
theorem CK {dst:Option Nat}{f:Opd}{args:List Opd}{fid:FuncId}{avs:List AV}{rs:List RV}{ac:AC}{N:Nat}{γ:Type}(F:FnOK P fid N rs ac)(l1:γ→List (Nat×AV))(g1:γ→List (F7×Option Blk))
    (hc:S9 (T l) f args=some (fid,avs)) (hl:avs.length≤N)
    (hb:De P N none [.c ac] (oQ rs (oR fun v=>Rh (T l) dst v) l1 g1) .nrm ⟨T (Yo avs 0),G g⟩)
    (hk: ∀gg u',(∀q,G (g1 gg) q≠none→q.2≠u')→L8 P u' r (T (l1 gg)) (G (g1 gg)) K):L8 P u (⟨dst, .icall f args,none⟩::r) (T l) (G g) K:=by
  unfold L8
  simp only [gW]
  unfold BZ
  have hI:ICall P fid avs (G g) fun v h'=> ∀u',(∀q,h' q≠none→q.2≠u')→∃s0,Sb s0 ⟨Rh (T l) dst v,h'⟩∧L8 P u' r s0.t s0.h K:=by
    refine JU F hl ?_
    rw [PT]
    refine AW.mono hb ?_
    rintro e s ⟨he,v,gg,hv,hj,hs⟩
    refine ⟨he,v,hv,fun u' hu'=> ?_⟩
    have S:Sb ⟨T (l1 gg),G (g1 gg)⟩ ⟨Rh (T l) dst v,s.h⟩:=E0 hj hs
    exact ⟨_,S,hk gg u' (S.fresh hu')⟩
  split
  ·rename_i q hq
   exfalso
   simp [S9,hq]at hc
  ·rw [hc];exact hI
/-- At its end: the result, and what is known of the heap. -/
theorem PW {γ:Type}{rs:List RV}{l1:γ→List (Nat×AV)}{g1:γ→List (F7×Option Blk)}{dst:Option Nat}{e:Ex}{l0:List (Nat×AV)}{g0:List (F7×Option Blk)}{v:AV}(he:e= .nrm∨e= .ret)(hv:CB (T l0) (G g0) rs=some v)(gg:γ)(ht:nX (Rh (T l) dst v) (l1 gg))(hg:HV (G g0) (g1 gg)):
    oQ rs (oR fun v=>Rh (T l) dst v) l1 g1 e ⟨T l0,G g0⟩:=⟨he,v,gg,hv,ht,hg⟩
theorem VU {l0:List (Nat×AV)}{g0:List (F7×Option Blk)}{s:St}(S:Sb ⟨T l0,G g0⟩ s): ∀{g1:List (F7×Option Blk)},HV (G g0) g1→HV s.h g1
  | [],_=>trivial
  |(k,none)::_,h=>⟨trivial,VU S h.2⟩
  |(k,some b0)::_,h=>by
   obtain ⟨b1,e1,e2⟩:=h.1
   obtain ⟨b,e3,e4⟩:=S.h k b1 e1
   exact ⟨⟨b,e3,e4.trans e2⟩,VU S h.2⟩
/-- The same behind a join. -/
theorem Yp {γ:Type}{l1:γ→List (Nat×AV)}{g1:γ→List (F7×Option Blk)}{dst:Option Nat}{e:Ex}{s:St}{l0:List (Nat×AV)}{g0:List (F7×Option Blk)}(S:Sb ⟨T l0,G g0⟩ s)(he:e= .nrm∨e= .ret)(gg:γ)(ht:nX (Rh (T l) dst (.tup [])) (l1 gg))(hg:HV (G g0) (g1 gg)):
    oQ [] (oR fun v=>Rh (T l) dst v) l1 g1 e s:=⟨he, .tup [],gg,rfl,ht,VU S hg⟩
end
end Go.Abs
/-! Ranges over a function that looks at what is the run's own. -/
namespace Go.Abs
open Go
section
variable {P:Program}{N:Nat}{rk:Option F7}{s:St}{Q:Ex→St→Prop}{r:List It}
/-- Such a function: as long as the blocks hold what it looks at, it hands on the elements, one after the other. -/
def nF (P:Program)(c:AV)(Rq:E5→Prop)(L:List (List D)):Prop:= ∃gf fs cs,ZI c=some (gf,fs,cs)∧∀(k:F7) (h0:E5) (Inv:Nat→E5→Prop) (Stop:E5→Prop),Inv 0 h0→(∀i h,Inv i h→∃h1,Sb ⟨T [],h1⟩ ⟨T [],h⟩∧Inv i h1∧Rq h1)→
  (∀i h es,L[i]? =some es→Inv i h→YCall P k (es.map .d) h fun v h'=>(v= .d (.v (.bool true))∧Inv (i+1) h')∨(v= .d (.v (.bool false))∧Stop h'))→
   ICall P gf (fs++ [.yld k]++cs) h0 fun _ h'=>Inv L.length h'∨Stop h'
theorem SM {σ τ α γ:Type}{f:Opd}{ps:List Nat}{as bd:AC}{tl:List (Nat×AV)}{g0:List (F7×Option Blk)}(c:AV)(Rq:E5→Prop)(enc:α→List D)(L:List α)(F:σ→α→Option (Stp σ τ))(E:σ→τ)(st:σ→γ→List (F7×Option Blk))(x0:σ)(gg0:γ)(y:τ)
    (hf:ev (T tl) f=c) (hI:nF P c Rq (L.map enc)) (hRq: ∀x gg u b,Rq (G (((1000000,u),b)::st x gg))) (hps: ∀a,(enc a).length=ps.length) (hx:loopL F E L x0=some y) (hs0:Sb ⟨T [],G (st x0 gg0)⟩ ⟨T [],G g0⟩) (hrk: ∀kk,rk=some kk→∃t r,G g0 kk=some (.obj t r))
    (hround: ∀u,(∀q,G g0 q≠none→q.2≠u)→rk≠some (1000000,u)→(∀x gg,G (st x gg) (1000000,u)=none)∧
      ∀r0 x gg a z,r0.state= .ready→F x a=some z→(∀t,z= .out t→t=y)→
       De P N (some (1000000,u)) [.c as, .j (fun s1=>s1.h (1000000,u)=some (.obj (T tl) r0)∧
        De P N (some (1000000,u)) [.c bd] (eY P N rk r Q (T tl) (1000000,u) r0 st z) .nrm ⟨s1.t,Bg s1.h (1000000,u) (some (.obj (T tl) {r0 with state:= .busy}))⟩)] (fun _ _=>False) .nrm
        ⟨Ua (T tl) ps ((enc a).map .d),G ((((1000000,u),some (.obj (T tl) r0)):F7×Option Blk)::st x gg)⟩)
    (hend: ∀x gg s',y=E x→Sb ⟨T tl,G (st x gg)⟩ s'→De P N rk r Q .nrm s'):De P N rk (.c (.rangeF f ps as bd)::r) Q .nrm ⟨T tl,G g0⟩:=by
  obtain ⟨gf,fs,cs,hcl,hI⟩:=hI
  refine NJ (gf:=gf) (fs:=fs) (cs:=cs) (by show ZI (ev (T tl) f)=_;rw [hf];exact hcl) hrk ?_
  intro u r0 M hu hkn hrkne hst hpd hpar hsize hpsN has hbd
  obtain ⟨hkst,hr⟩:=hround u hu hrkne
  have hkn:G g0 (1000000,u)=none:=hkn
  refine ICall.mono ?_ (hI (1000000,u) (Bg (G g0) (1000000,u) (some (.obj (T tl) r0)))
    (fun i h=> ∃x gg,loopL F E (L.drop i) x=some y∧h (1000000,u)=some (.obj (T tl) r0)∧Sb ⟨T [],G (st x gg)⟩ ⟨T [],h⟩)
    (eO (1000000,u) (T tl) (De P N rk r Q)) ?_ (fun i h ⟨x,gg,h1,h2,h3⟩=>⟨G (((1000000,u),some (.obj (T tl) r0))::st x gg),⟨fun i=> .refl _,fun q b0 hb=>by
      by_cases e:q=(1000000,u)
      ·subst e
       have hb:=G_hit.symm.trans hb
       cases hb
       exact ⟨_,h2, .refl _⟩
      ·have hb:G (((1000000,u),some (.obj (T tl) r0))::st x gg) q=some b0:=hb
       rw [G,bR e]at hb
       exact h3.h q b0 hb⟩,⟨x,gg,h1,G_hit,fun i=> .refl _,fun q b0 hb=>by
      refine ⟨b0,?_, .refl _⟩
      have:q≠(1000000,u):=by rintro rfl;exact absurd ((hkst _ _).symm.trans hb) (by simp)
      show G (((1000000,u),some (.obj (T tl) r0))::st x gg) q=some b0
      rw [G,bR this];exact hb⟩,hRq x gg u _⟩) ?_)
  ·rintro v h' (⟨x,gg,h1,h2,h3⟩|h)
   ·rw [show (L.map enc).length=L.length from lS ..,List.drop_length,loopL]at h1
    refine ⟨T tl,r0,h2,by rw [hst];simp,?_⟩
    rw [hpd]
    refine hend x gg _ (lD h1).symm ⟨fun i=> .refl _,fun q b0 hb=> ?_⟩
    obtain ⟨b,e1,e2⟩:=h3.h q b0 hb
    refine ⟨b,?_,e2⟩
    have:q≠(1000000,u):=by rintro rfl;exact absurd ((hkst _ _).symm.trans hb) (by simp)
    show Bg h' _ none q=some b
    rw [M0 _ _ _ _ this];exact e1
   ·exact h
  ·refine ⟨x0,gg0,by rw [List.drop_zero];exact hx,H7 _ _ _,fun i=> .refl _,fun q b0 hb=> ?_⟩
   obtain ⟨b,e1,e2⟩:=hs0.h q b0 hb
   refine ⟨b,?_,e2⟩
   have:q≠(1000000,u):=by rintro rfl;exact absurd ((hkst _ _).symm.trans hb) (by simp)
   show Bg (G g0) _ _ q=some b
   rw [M0 _ _ _ _ this];exact e1
  ·rintro i h es hes ⟨x,gg,h1,h2,h3⟩
   obtain ⟨a,ha,rfl⟩:=DT hes
   obtain ⟨z,hz,hz2⟩:=JX ha h1
   have hround:=hr r0 x gg a z hst hz (fun t ht=>by subst ht;exact hz2)
   have hsb:Sb ⟨Ua (T tl) ps ((enc a).map .d),G ((((1000000,u),some (.obj (T tl) r0)):F7×Option Blk)::st x gg)⟩ ⟨Ua (T tl) ps ((enc a).map .d),h⟩:=by
     refine ⟨fun i=> .refl _,fun q b0 hb=> ?_⟩
     by_cases e:q=(1000000,u)
     ·subst e
      have hb:=G_hit.symm.trans hb
      cases hb
      exact ⟨_,h2, .refl _⟩
     ·have hb:G (((1000000,u),some (.obj (T tl) r0))::st x gg) q=some b0:=hb
      rw [G,bR e]at hb
      exact h3.h q b0 hb
   refine RS (M:=M) (as:=as) (bd:=bd) h2 (by rw [lS,hps a,← hpar];simp) hsize (by rw [hpar];exact hpsN) has hbd ?_
   rw [hpar]
   have hround:=XR hsb hround
   refine AW.mono hround ?_
   intro e s1 hs1
   cases e with
   |ext id=>exact absurd hs1 (by simp [De])
   |ret=>exact absurd hs1 (by simp [De])
   |nrm=>
    obtain ⟨q1,q2⟩:=hs1
    refine ⟨rfl,T tl,r0,q1,hst,?_⟩
    refine AW.mono q2 ?_
    rintro e s2 ⟨w1,w2⟩
    refine ⟨T tl,_,w1,?_⟩
    cases z with
    |go x'=>
     obtain ⟨rfl,g',hg'⟩:=w2
     refine .inl ⟨rfl,x',g',hz2,?_,fun i=> .refl _,fun q b0 hb=> ?_⟩
     ·show Bg s2.h _ _ _=_
      rw [H7]
      have:({state:= .ready,pending:=none,fn:=r0.fn,tmps:=r0.tmps,params:=r0.params,assign:=r0.assign,body:=r0.body,defers:=r0.defers}:Loop)=r0:=by
        cases r0
        simp only at hst hpd
        subst hst hpd
        rfl
      exact congrArg (fun r=>some (Blk.obj (T tl) r)) this
     ·obtain ⟨b,e1,e2⟩:=hg'.h q b0 hb
      refine ⟨b,?_,e2⟩
      have:q≠(1000000,u):=by rintro rfl;exact absurd ((hkst _ _).symm.trans hb) (by simp)
      show Bg s2.h _ _ q=some b
      rw [M0 _ _ _ _ this];exact e1
    |out t=>
     obtain ⟨hne,hq⟩:=w2
     cases e with
     |nrm=>exact absurd rfl hne
     |ext id=>
      refine .inr ⟨rfl,T tl,_,H7 _ _ _,by simp,?_⟩
      dsimp only
      rw [IM];exact hq
     |ret=>
      refine .inr ⟨rfl,T tl,_,H7 _ _ _,by simp,?_⟩
      dsimp only
      rw [IM];exact hq
end
section
variable {P:Program}{u:Nat}{r:List AOp}{t:Nat→AV}{h:E5}{K:(Nat→AV)→E5→Prop}
theorem Ww {dst:Option Nat}{k:AK}{g:Nat}{b:Bool}(hg:t g= .d (.v (.bool b)))(hk:L8 P u (⟨dst,k,none⟩::r) t h K):L8 P u (⟨dst,k,some (g,b)⟩::r) t h K:=by
  cases k<;>(unfold L8 at hk ⊢;simpa only [gW,hg,if_true] using hk)
theorem VV {dst:Option Nat}{k:AK}{g:Nat}{b c:Bool}(hg:t g= .d (.v (.bool c)))(hne:(c==b)=false)(hk:L8 P u r (Rh t dst (.d (.tup []))) h K):L8 P u (⟨dst,k,some (g,b)⟩::r) t h K:=by
  have hne: ¬c=b:=by simpa using hne
  cases k<;>(unfold L8;simp only [gW,hg,bR hne];exact hk)
theorem ZY {d:Nat}{f:Opd}{args:List Opd}(k:F7)(avs:List AV)(hf:ev t f= .yld k)(hav:args.map (ev t)=avs)(hc:YCall P k avs h fun v h'=> ∃h0,Sb ⟨T [],h0⟩ ⟨T [],h'⟩∧∀u',(∀q,h0 q≠none→q.2≠u')→L8 P u' r (Bg t d v) h0 K):L8 P u (⟨some d, .icall f args,none⟩::r) t h K:=by
  unfold L8
  simp only [gW]
  unfold BZ
  rw [hf,hav]
  exact hc.mono fun v h' ⟨h0,S,q⟩ u' hu'=>⟨⟨Bg t d v,h0⟩,⟨fun i=> .refl _,S.h⟩,q u' (S.fresh hu')⟩
end
section
variable {P:Program}{N:Nat}{rk:Option F7}{s:St}{Q:Ex→St→Prop}{r:List It}
theorem Uc {aops:List AOp}(h: ∀u,(∀k,s.h k≠none→k.2≠u)→L8 P u aops s.t s.h fun t' h'=>De P N rk r Q .nrm ⟨t',h'⟩):De P N rk (.c (.reg aops)::r) Q .nrm s:=Se h
theorem YF {α:Type}{a:AC}(st:α→St)(μ:α→Nat)(Inv:α→Prop)(x0:α)(h0:Inv x0)(hs0:Sub (st x0) s)
    (h: ∀x,Inv x→De P N rk [.c a] (fun e s'=>match e with| .nrm=> ∃y,Inv y∧μ y<μ x∧Sub (st y) s'|e=>De P N rk r Q e s') .nrm (st x)):De P N rk (.c (.loop a)::r) Q .nrm s:=RR st μ Inv x0 h0 hs0 h
end
end Go.Abs
