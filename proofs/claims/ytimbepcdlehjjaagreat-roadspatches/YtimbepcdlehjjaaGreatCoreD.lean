/-
  An abstract layer over the machine, fourth part: contracts that alter what is handed in; functions that can be computed.
-/
import Derived.Test.YtimbepcdlehjjaaGreatCoreC
namespace Go.Abs
open Go
/-! ### Contracts of functions that alter what is handed to them, or hand out what is their own -/
/-- The key of the i-th block that is handed in; of the j-th that is handed out. -/
def X7 (i:Nat):D5:=(900000+i,0)
def NB (j:Nat):D5:=(800000+j,0)
def U5 (ko kn:Nat→D5)(q:D5):D5:=cond (Nat.ble 900000 q.1) (ko (q.1 - 900000)) (kn (q.1 - 800000))
def ET (n m:Nat)(q:D5):Bool:=q.2==0&& (Nat.ble 900000 q.1&&Nat.blt (q.1 - 900000) n||Nat.ble 800000 q.1&& !Nat.ble 900000 q.1&&Nat.blt (q.1 - 800000) m)
theorem HU {n m:Nat}{q:D5}(h:ET n m q=true):(∃i,i<n∧q=X7 i)∨∃j,j<m∧j<100000∧q=NB j:=by
  obtain ⟨a,b⟩:=q
  simp only [ET,bG,bH,bK,Nat.ble_eq,Nat.blt_eq,Bool.not_eq_true',bJ,ne_eq]at h
  obtain ⟨rfl,h|h⟩:=h
  ·exact .inl ⟨a - 900000,h.2,by simp only [X7,Prod.mk.injEq,and_true];omega⟩
  ·exact .inr ⟨a - 800000,h.2,by omega,by simp only [NB,Prod.mk.injEq,and_true];omega⟩
theorem DG (ko kn:Nat→D5)(i:Nat):U5 ko kn (X7 i)=ko i:=by
  simp only [U5,X7]
  rw [show Nat.ble 900000 (900000+i)=true by simp,bC,Nat.add_sub_cancel_left]
theorem NC (ko kn:Nat→D5){j:Nat}(h:j<100000):U5 ko kn (NB j)=kn j:=by
  simp only [U5,NB]
  rw [show Nat.ble 900000 (800000+j)=false by rw [bJ,ne_eq,Nat.ble_eq];omega,bD,Nat.add_sub_cancel_left]
theorem DH {i j:Nat}(h:X7 i=X7 j):i=j:=by simp only [X7,Prod.mk.injEq]at h;omega
def Ye (f:D5→D5):AV→AV
  | .ptr k o=> .ptr (f k) o
  | .sl k=> .sl (f k)
  |x=>x
def Yf (f:D5→D5):AV→AV
  | .agg cs=> .agg (cs.map (Ye f))
  | .fn g fs cs=> .fn g (fs.map (Ye f)) (cs.map (Ye f))
  |x=>Ye f x
def BG (f:D5→D5):AV→AV
  | .tup cs=> .tup (cs.map (Yf f))
  |x=>Yf f x
def QW (p:D5→Bool):AV→Bool
  | .ptr k _=>p k
  | .sl k=>p k
  | .d _=>true
  | .any=>true
  |_=>false
def TX (p:D5→Bool):AV→Bool
  | .agg cs=>cs.all (QW p)
  | .fn _ fs cs=>fs.all (QW p)&&cs.all (QW p)
  |x=>QW p x
def WT (p:D5→Bool):AV→Bool
  | .tup cs=>cs.all (TX p)
  |x=>TX p x
def Gb (f:D5→D5):Blk→Blk
  | .box ty cs=> .box ty (cs.map (Ye f))
  |b=>b
def UZ (p:D5→Bool):Blk→Bool
  | .box _ cs=>cs.all (QW p)
  | .arr _ _ _=>true
  | .obj _ _=>false
  | .mp _=>true
section
variable {w:World}{I:Nat→Prop}{ρ ρ':Rho}{p:D5→Bool}{f g:D5→D5}
theorem Rr {α β:Type}{q:α→Bool}{l:List α}{h:α→β}{i:Nat}{c:β}(ha:l.all q=true)(hc:(l.map h)[i]? =some c): ∃x,q x=true∧l[i]? =some x∧h x=c:=by
  obtain ⟨x,hx,e⟩:=Vg hc
  exact ⟨x,lW.1 ha x (lF hx),hx,e⟩
theorem Jr {α β:Type}{h:α→β}{l:List α}{i:Nat}{x:α}(hx:l[i]? =some x):(l.map h)[i]? =some (h x):=by rw [lI,hx];rfl
theorem PG {x:AV}{v:Value}(hp:QW p x=true)(h:RepV w I ρ (Ye f x) v)(hk: ∀q y,p q=true→ρ (f q)=some y→ρ' (g q)=some y):RepV w I ρ' (Ye g x) v:=by
  cases x with
  |ptr k o=>cases h with|ptr _ _ b h=>exact .ptr _ _ _ (hk k _ hp h)
  |sl k=>cases h with|sl _ _ h=>exact .sl _ _ (hk k _ hp h)
  |d y=>cases h with|d _ _ h=>exact .d _ _ h
  |any=>exact .any _
  |_=>simp [QW]at hp
theorem PH {x:AV}{v:Value}(hp:TX p x=true)(h:RepV w I ρ (Yf f x) v)(hk: ∀q y,p q=true→ρ (f q)=some y→ρ' (g q)=some y):RepV w I ρ' (Yf g x) v:=by
  cases x with
  |agg cs=>
   cases h with
   |agg _ vs hl hone hr=>
    refine .agg _ vs (by simpa using hl) (fun i hi=>hone i (by simpa using hi)) (fun i c hc=> ?_)
    obtain ⟨x,h1,h2,rfl⟩:=Rr hp hc
    exact PG h1 (hr i _ (Jr h2)) hk
  |fn q fs cs=>
   simp only [TX,bG]at hp
   cases h with
   |fn _ _ _ vfs vcs hl hl' hr hr'=>
    refine .fn _ _ _ vfs vcs (by simpa using hl) (by simpa using hl') (fun i c hc=> ?_) (fun i c hc=> ?_)
    ·obtain ⟨x,h1,h2,rfl⟩:=Rr hp.1 hc
     exact PG h1 (hr i _ (Jr h2)) hk
    ·obtain ⟨x,h1,h2,rfl⟩:=Rr hp.2 hc
     exact PG h1 (hr' i _ (Jr h2)) hk
  |any=>exact PG (p:=p) (f:=f) (x:= .any) hp h hk
  |d y=>exact PG (p:=p) (f:=f) (x:= .d y) hp h hk
  |ptr k o=>exact PG (p:=p) (f:=f) (x:= .ptr k o) hp h hk
  |sl k=>exact PG (p:=p) (f:=f) (x:= .sl k) hp h hk
  |aptr k a b c=>exact PG (p:=p) (f:=f) (x:= .aptr k a b c) hp h hk
  |yld k=>exact PG (p:=p) (f:=f) (x:= .yld k) hp h hk
  |tup cs=>simp [TX,QW]at hp
theorem XP {x:AV}{v:Value}(hp:WT p x=true)(h:RepV w I ρ (BG f x) v)(hk: ∀q y,p q=true→ρ (f q)=some y→ρ' (g q)=some y):RepV w I ρ' (BG g x) v:=by
  cases x with
  |tup cs=>
   cases h with
   |tup _ vs hl hr=>
    refine .tup _ vs (by simpa using hl) (fun i c hc=> ?_)
    obtain ⟨x,h1,h2,rfl⟩:=Rr hp hc
    exact PH h1 (hr i _ (Jr h2)) hk
  |any=>exact PH (p:=p) (f:=f) (x:= .any) hp h hk
  |d y=>exact PH (p:=p) (f:=f) (x:= .d y) hp h hk
  |ptr k o=>exact PH (p:=p) (f:=f) (x:= .ptr k o) hp h hk
  |sl k=>exact PH (p:=p) (f:=f) (x:= .sl k) hp h hk
  |aptr k a b c=>exact PH (p:=p) (f:=f) (x:= .aptr k a b c) hp h hk
  |yld k=>exact PH (p:=p) (f:=f) (x:= .yld k) hp h hk
  |agg cs=>exact PH (p:=p) (f:=f) (x:= .agg cs) hp h hk
  |fn a b c=>exact PH (p:=p) (f:=f) (x:= .fn a b c) hp h hk
theorem XF {b:Blk}{k k':D5}(hp:UZ p b=true)(h:BlkOK w I ρ k (Gb f b))(hkk: ∀y,ρ k=some y→ρ' k'=some y)(hk: ∀q y,p q=true→ρ (f q)=some y→ρ' (g q)=some y):BlkOK w I ρ' k' (Gb g b):=by
  cases b with
  |box ty cs=>
   obtain ⟨b,vs,h1,h2,h3,h4,h5⟩:=h
   refine ⟨b,vs,hkk _ h1,h2,by simpa using h3,h4,fun i c hc=> ?_⟩
   obtain ⟨x,g1,g2,rfl⟩:=Rr hp hc
   exact PG g1 (h5 i _ (Jr g2)) hk
  |arr ty sz es=>obtain ⟨x,xs,h1,h2⟩:=h;exact ⟨x,xs,hkk _ h1,h2⟩
  |mp ks=>obtain ⟨g,es,clock,h1,h2⟩:=h;exact ⟨g,es,clock,hkk _ h1,h2⟩
  |obj=>simp [UZ]at hp
theorem QX (x:AV):Ye id x=x:=by cases x<;>rfl
theorem DI:Ye id=id:=funext QX
theorem QY (x:AV):Yf id x=x:=by
  cases x<;>simp only [Yf,DI,List.map_id]
  all_goals rfl
theorem QZ (b:Blk):Gb id b=b:=by cases b<;>simp only [Gb,DI,List.map_id]
theorem Ac {k:D5}(b:Blk):K1 ρ k (Gb f b)=K1 ρ k b:=by cases b<;>rfl
theorem Gq {k k':D5}(b:Blk)(h:ρ' k'=ρ k):K1 ρ' k' b=K1 ρ k b:=by cases b<;>simp [K1,h]
end
def Pk:Nat→List Blk→List (D5×Option Blk)
  |_,[]=> []
  |i,b::r=>(X7 i,some b)::Pk (i+1) r
theorem DJ: ∀{l:List Blk} {i:Nat} {q:D5} {b:Blk},G (Pk i l) q=some b→∃j,q=X7 (i+j)∧l[j]? =some b
  | [],i,q,b,h=>by cases h
  |x::r,i,q,b,h=>by
   rw [Pk,G]at h
   by_cases e:q=X7 i
   ·rw [bE e]at h;cases h;exact ⟨0,e,rfl⟩
   ·rw [bF e]at h
    obtain ⟨j,h1,h2⟩:=DJ h
    exact ⟨j+1,by rw [h1];congr 1;omega,by simpa using h2⟩
def SR (avs:List AV)(pre:List Blk)(v:AV)(post:List (Option Blk))(new:List (Option Blk)):Bool:=
  post.length==pre.length&&Nat.ble new.length 6&&avs.all (TX (ET pre.length 0))&&pre.all (UZ (ET pre.length 0))&&WT (ET pre.length new.length) v&&post.all (fun b=>match b with|some b=>UZ (ET pre.length new.length) b|none=>true)&&new.all (fun b=>match b with|some b=>UZ (ET pre.length new.length) b|none=>true)
def Rs (n:Nat)(v:AV)(post:List (Option Blk))(new:List (Option Blk))(v':AV)(h':C6):Prop:=
  ∃σ:Nat→D5,v'=BG (U5 X7 σ) v∧(∀i b,post[i]? =some (some b)→h' (X7 i)=some (Gb (U5 X7 σ) b))∧(∀j b,new[j]? =some (some b)→h' (σ j)=some (Gb (U5 X7 σ) b))∧
   (∀j,j<new.length→∀i,i<n→σ j≠X7 i)∧∀j j',j<new.length→j'<new.length→σ j=σ j'→j=j'
/-- Called with these values, where the blocks that are handed in hold this, the function returns the value, and the blocks hold that; the new ones are the caller's. -/
structure MCall (P:Program)(f:FuncId)(avs:List AV)(pre:List Blk)(v:AV)(post:List (Option Blk))(new:List (Option Blk)):Prop where
  ok:SR avs pre v post new=true
  call:ICall P f avs (G (Pk 0 pre)) (Rs pre.length v post new)
def Kf (κ:Nat→D5)(f:D5→D5):Nat→List (Option Blk)→List (D5×Option Blk)
  |_,[]=> []
  |i,b::r=>(κ i,b.map (Gb f))::Kf κ f (i+1) r
def Oc (u S:Nat)(f:D5→D5):Nat→List (Option Blk)→List (D5×Option Blk)
  |_,[]=> []
  |j,b::r=>((S+j,u),b.map (Gb f))::Oc u S f (j+1) r
theorem Wt {κ:Nat→D5}{f:D5→D5}: ∀{l:List (Option Blk)} {i:Nat} {x:D5×Option Blk},x∈Kf κ f i l→∃j b,l[j]? =some b∧x=(κ (i+j),b.map (Gb f))
  | [],i,x,h=>by simp [Kf]at h
  |b::r,i,x,h=>by
   rw [Kf,lR]at h
   rcases h with rfl|h
   ·exact ⟨0,b,rfl,rfl⟩
   ·obtain ⟨j,b',h1,rfl⟩:=Wt h
    exact ⟨j+1,b',by simpa using h1,by rw [show i+ (j+1)=i+1+j by omega]⟩
theorem Wu {u S:Nat}{f:D5→D5}: ∀{l:List (Option Blk)} {i:Nat} {x:D5×Option Blk},x∈Oc u S f i l→∃j b,l[j]? =some b∧x=((S+ (i+j),u),b.map (Gb f))
  | [],i,x,h=>by simp [Oc]at h
  |b::r,i,x,h=>by
   rw [Oc,lR]at h
   rcases h with rfl|h
   ·exact ⟨0,b,rfl,rfl⟩
   ·obtain ⟨j,b',h1,rfl⟩:=Wu h
    exact ⟨j+1,b',by simpa using h1,by rw [show i+ (j+1)=i+1+j by omega]⟩
theorem Td: ∀(ups:List (D5×Option Blk)) (h:C6) (q:D5) (b:Option Blk),N2 h ups q=b→(q∉ups.map (·.1)∧h q=b)∨(q,b)∈ups
  | [],h,q,b,hb=> .inl ⟨by simp,hb⟩
  |(k,c)::r,h,q,b,hb=>by
   rw [N2]at hb
   rcases Td r _ q b hb with ⟨h1,h2⟩|h1
   ·by_cases e:q=k
    ·subst e
     rw [E0]at h2
     exact .inr (by rw [h2];simp)
    ·rw [H5 _ _ _ _ e]at h2
     exact .inl ⟨by simp at h1 ⊢;exact ⟨e,h1⟩,h2⟩
   ·exact .inr (by simp [h1])
theorem MCall.frame {P:Program}{f:FuncId}{avs:List AV}{pre:List Blk}{v:AV}{post:List (Option Blk)}{new:List (Option Blk)}{u S:Nat}(hM:MCall P f avs pre v post new)(κ:Nat→D5)
    (hinj: ∀i i',i<pre.length→i'<pre.length→κ i=κ i'→i=i') (preH:C6) (hpre: ∀i b,pre[i]? =some b→preH (κ i)=some (Gb (U5 κ κ) b)):
    FCall P u S f (avs.map (Yf (U5 κ κ))) preH (BG (U5 κ fun j=>(S+j,u)) v) (Kf κ (U5 κ fun j=>(S+j,u)) 0 post++Oc u S (U5 κ fun j=>(S+j,u)) 0 new):=by
  have hok:=hM.ok
  simp only [SR,bG,bK,Nat.ble_eq]at hok
  obtain ⟨⟨⟨⟨⟨⟨hlenP,hlenN⟩,okA⟩,okP⟩,RK⟩,okPo⟩,LQ⟩:=hok
  refine ⟨hM.call.1,fun w I ρ h vs H hp hlen hrep hfr=> ?_⟩
  have hh: ∀i b,pre[i]? =some b→h (κ i)=some (Gb (U5 κ κ) b):=fun i b hb=>hp _ _ (hpre i b hb)
  have hρ: ∀i,i<pre.length→∃y,ρ (κ i)=some y:=fun i hi=>(H.blk _ _ (hh i _ (lG hi))).rho
  let ρ0:Rho:=fun q=>if ET pre.length 0 q=true then ρ (U5 κ κ q)else none
  have hρ0: ∀i,i<pre.length→ρ0 (X7 i)=ρ (κ i):=by
    intro i hi
    show (if ET pre.length 0 (X7 i)=true then _ else _)=_
    rw [bE (by simp [ET,X7,hi]),DG]
  have hk0: ∀q y,ET pre.length 0 q=true→ρ (U5 κ κ q)=some y→ρ0 (id q)=some y:=by
    intro q y hq hy
    show (if ET pre.length 0 q=true then _ else _)=_
    rw [bE hq];exact hy
  have hdom: ∀q b,G (Pk 0 pre) q=some b→∃i,i<pre.length∧q=X7 i∧pre[i]? =some b∧h (κ i)=some (Gb (U5 κ κ) b)∧K1 ρ0 q b=K1 ρ (κ i) (Gb (U5 κ κ) b):=by
    intro q b hq
    obtain ⟨i,rfl,h2⟩:=DJ hq
    rw [bR]
    have hi:i<pre.length:=(lH.1 h2).1
    exact ⟨i,hi,rfl,h2,hh i b h2,by rw [Ac];exact Gq b (hρ0 i hi)⟩
  have H0:HeapOK w I ρ0 (G (Pk 0 pre)):=by
    refine ⟨fun q b hq=> ?_,fun q q' b b' g h1 h2 h3 h4=> ?_,fun q b g h1 h2=> ?_,fun q b g h1 h2=> ?_,H.ilt,⟨1,fun d x hx=> ?_⟩,fun q y hy=> ?_⟩
    ·obtain ⟨i,hi,rfl,h2,h3,_⟩:=hdom q b hq
     have:=XF (f:=U5 κ κ) (g:=id) (ρ':=ρ0) (k':=X7 i) (lW.1 okP b (lF h2)) (H.blk _ _ h3) (fun y hy=>by rw [hρ0 i hi];exact hy) hk0
     rwa [QZ]at this
    ·obtain ⟨i,hi,rfl,_,a3,a4⟩:=hdom q b h1
     obtain ⟨j,hj,rfl,_,b3,b4⟩:=hdom q' b' h2
     rw [a4]at h3;rw [b4]at h4
     rw [hinj i j hi hj (H.sep _ _ _ _ g a3 b3 h3 h4)]
    ·obtain ⟨i,hi,rfl,_,a3,a4⟩:=hdom q b h1
     rw [a4]at h2;exact H.notI _ _ g a3 h2
    ·obtain ⟨i,hi,rfl,_,a3,a4⟩:=hdom q b h1
     rw [a4]at h2;exact H.lt _ _ g a3 h2
    ·show (if ET pre.length 0 (d,x)=true then _ else _)=none
     rw [bF]
     intro e
     rcases HU e with ⟨i,_,e⟩|⟨j,hj,_⟩
     ·simp only [X7,Prod.mk.injEq]at e;omega
     ·omega
    ·have hy':(if ET pre.length 0 q=true then ρ (U5 κ κ q)else none)=some y:=hy
     split at hy'
     ·exact H.rone _ y hy'
     ·cases hy'
  have hown0: ∀g,own ρ0 (G (Pk 0 pre)) g→own ρ h g:=by
    rintro g ⟨q,b,h1,h2⟩
    obtain ⟨i,hi,rfl,_,a3,a4⟩:=hdom q b h1
    exact ⟨κ i,_,a3,by rw [← a4];exact h2⟩
  have hown1: ∀k b g,h k=some b→(∀i,i<pre.length→k≠κ i)→K1 ρ k b=some g→¬own ρ0 (G (Pk 0 pre)) g:=by
    rintro k b g hk hne hl ⟨q,b',h1,h2⟩
    obtain ⟨i,hi,rfl,_,a3,a4⟩:=hdom q b' h1
    rw [a4]at h2
    exact hne i hi (H.sep _ _ _ _ g hk a3 hl h2)
  have hκS: ∀i j,i<pre.length→j<6→κ i≠(S+j,u):=by
    intro i j hi hj e
    obtain ⟨y,hy⟩:=hρ i hi
    rw [e,hfr j hj]at hy;cases hy
  refine (hM.call.2 w I ρ0 vs H0 (by simpa using hlen) (fun i c hc=> ?_)).mono ?_
  ·have hc':=hrep i _ (Jr hc)
   have:=PH (g:=id) (ρ':=ρ0) (lW.1 okA c (lF hc)) hc' hk0
   rwa [QY]at this
  rintro e w' ⟨x,v',I',ρ0',h',rfl,hv',H',T',σ,rfl,hpost,hnew,hσo,hσi⟩
  let ρ1:Rho:=fun q=>if q.2=u∧S≤q.1∧q.1<S+new.length then ρ0' (σ (q.1 - S))else ρ q
  have hle0: ∀i,i<pre.length→ρ0' (X7 i)=ρ (κ i):=by
    intro i hi
    obtain ⟨y,hy⟩:=hρ i hi
    rw [hy];exact T'.rho _ _ (by rw [hρ0 i hi];exact hy)
  have hρ1n: ∀j,j<new.length→ρ1 (S+j,u)=ρ0' (σ j):=by
    intro j hj
    show (if u=u∧S≤S+j∧S+j<S+new.length then _ else _)=_
    rw [bE ⟨rfl,by omega,by omega⟩]
    simp
  have hρ1o: ∀q,(∀j,j<new.length→q≠(S+j,u))→ρ1 q=ρ q:=by
    rintro ⟨a,b⟩ hq
    show (if b=u∧S≤a∧a<S+new.length then _ else _)=_
    rw [bF]
    rintro ⟨rfl,h1,h2⟩
    exact hq (a - S) (by omega) (by simp only [Prod.mk.injEq,and_true];omega)
  have hρ1κ: ∀i,i<pre.length→ρ1 (κ i)=ρ (κ i):=fun i hi=>hρ1o _ fun j hj=>hκS i j hi (by omega)
  have hle1:ρ.le ρ1:=by
    intro k y hy
    rw [hρ1o]
    ·exact hy
    ·rintro j hj rfl
     rw [hfr j (by omega)]at hy;cases hy
  -- the keys of what is handed out
  have hk1: ∀q y,ET pre.length new.length q=true→ρ0' (U5 X7 σ q)=some y→ρ1 (U5 κ (fun j=>(S+j,u)) q)=some y:=by
    intro q y hq hy
    rcases HU hq with ⟨i,hi,rfl⟩|⟨j,hj,hj',rfl⟩
    ·rw [DG]at hy ⊢;rw [hρ1κ i hi,← hle0 i hi];exact hy
    ·rw [NC _ _ hj']at hy ⊢;rw [hρ1n j hj];exact hy
  -- what is touched, as the callee has it
  have htouch: ∀k b,(k,some b)∈Kf κ (U5 κ fun j=>(S+j,u)) 0 post++Oc u S (U5 κ fun j=>(S+j,u)) 0 new→
   ∃q b0,UZ (ET pre.length new.length) b0=true∧h' q=some (Gb (U5 X7 σ) b0)∧b=Gb (U5 κ fun j=>(S+j,u)) b0∧ρ1 k=ρ0' q∧((∃i,i<pre.length∧q=X7 i∧k=κ i)∨∃j,j<new.length∧q=σ j∧k=(S+j,u)):=by
    intro k b hm
    rcases lQ.1 hm with hm|hm
    ·obtain ⟨i,b0,h1,h2⟩:=Wt hm
     rw [bR]at h2
     cases b0 with
     |none=>simp at h2
     |some b0=>
      simp only [lE,Prod.mk.injEq,Option.some.injEq]at h2
      obtain ⟨rfl,rfl⟩:=h2
      have hi:i<pre.length:=by rw [← hlenP];exact (lH.1 h1).1
      exact ⟨X7 i,b0,lW.1 okPo (some b0) (lF h1),hpost i b0 h1,rfl,by rw [hρ1κ i hi,hle0 i hi], .inl ⟨i,hi,rfl,rfl⟩⟩
    ·obtain ⟨j,b0,h1,h2⟩:=Wu hm
     rw [bR]at h2
     cases b0 with
     |none=>simp at h2
     |some b0=>
      simp only [lE,Prod.mk.injEq,Option.some.injEq]at h2
      obtain ⟨rfl,rfl⟩:=h2
      have hj:j<new.length:=(lH.1 h1).1
      exact ⟨σ j,b0,lW.1 LQ (some b0) (lF h1),hnew j b0 h1,rfl,hρ1n j hj, .inr ⟨j,hj,rfl,rfl⟩⟩
  have hinjT: ∀{k k' q q':D5},((∃i,i<pre.length∧q=X7 i∧k=κ i)∨∃j,j<new.length∧q=σ j∧k=(S+j,u))→((∃i,i<pre.length∧q'=X7 i∧k'=κ i)∨∃j,j<new.length∧q'=σ j∧k'=(S+j,u))→q=q'→k=k':=by
    rintro k k' q q' (⟨i,hi,rfl,rfl⟩|⟨j,hj,rfl,rfl⟩) (⟨i',hi',rfl,rfl⟩|⟨j',hj',rfl,rfl⟩) e
    ·rw [DH e]
    ·exact absurd e.symm (hσo j' hj' i hi)
    ·exact absurd e (hσo j hj i' hi')
    ·rw [hσi j j' hj hj' e]
  -- what is not touched
  have hrest: ∀k b,k∉ (Kf κ (U5 κ fun j=>(S+j,u)) 0 post++Oc u S (U5 κ fun j=>(S+j,u)) 0 new).map (·.1)→h k=some b→(∀i,i<pre.length→k≠κ i)∧ρ1 k=ρ k∧∀g,K1 ρ k b=some g→w'.heap[g]? =w.heap[g]?∧¬own ρ0 (G (Pk 0 pre)) g:=by
    intro k b hn hk
    have hne: ∀i,i<pre.length→k≠κ i:=by
      rintro i hi rfl
      apply hn
      have: ∀(l:List (Option Blk)) (n:Nat),i<l.length→κ (n+i)∈(Kf κ (U5 κ fun j=>(S+j,u)) n l).map (·.1):=by
        intro l
        induction i with
        |zero=>intro n hl;cases l with|nil=>simp at hl|cons=>simp [Kf]
        |succ i _=>
         intro n hl
         have key: ∀(i:Nat) (l:List (Option Blk)) (n:Nat),i<l.length→κ (n+i)∈(Kf κ (U5 κ fun j=>(S+j,u)) n l).map (·.1):=by
           intro i
           induction i with
           |zero=>intro l n hl;cases l with|nil=>simp at hl|cons=>simp [Kf]
           |succ i ih=>
            intro l n hl
            cases l with
            |nil=>simp at hl
            |cons b r=>
             have:=ih r (n+1) (by simpa using hl)
             rw [show n+1+i=n+ (i+1) by omega]at this
             simp only [Kf,lO,lR]
             exact .inr this
         exact key (i+1) l n hl
      rw [List.map_append,lQ]
      exact .inl (by have:=this post 0 (by rw [hlenP];exact hi);rwa [bR]at this)
    refine ⟨hne,?_,fun g hg=>⟨T'.frame g (H.lt k b g hk hg) (hown1 k b g hk hne hg),hown1 k b g hk hne hg⟩⟩
    obtain ⟨y,hy⟩:=(H.blk k b hk).rho
    rw [hle1 k y hy,hy]
  have hfrI: ∀b,I b→w'.heap[b]? =w.heap[b]?:=fun b hb=>T'.frame b (H.ilt b hb) (fun ho=>H0.own_notI ho hb)
  generalize hups:Kf κ (U5 κ fun j=>(S+j,u)) 0 post++Oc u S (U5 κ fun j=>(S+j,u)) 0 new=ups at htouch hrest
  have hcase: ∀k b,N2 h ups k=some b→(h k=some b∧k∉ups.map (·.1))∨(k,some b)∈ups:=fun k b hb=>(Td ups h k (some b) hb).imp (fun q=>⟨q.2,q.1⟩) id
  have hlocR: ∀k b,h k=some b→k∉ups.map (·.1)→K1 ρ1 k b=K1 ρ k b:=fun k b hb hn=>Gq b (hrest k b hn hb).2.1
  have H1:HeapOK w' I' ρ1 (N2 h ups):=by
    refine ⟨fun k b hb=> ?_,fun k k' b b' g h1 h2 h3 h4=> ?_,fun k b g h1 h2 hi=> ?_,fun k b g h1 h2=> ?_,H'.ilt,?_,fun k y hy=> ?_⟩
    ·rcases hcase k b hb with ⟨a1,a2⟩|hm
     ·exact (H.blk k b a1).keep (fun g hg=>((hrest k b a2 a1).2.2 g hg).1) hfrI T'.imm hle1
     ·obtain ⟨q,b0,c1,c2,rfl,c4,_⟩:=htouch k b hm
      exact XF c1 (H'.blk _ _ c2) (fun y hy=>by rw [c4];exact hy) hk1
    ·rcases hcase k b h1 with ⟨a1,a2⟩|hm
     ·rw [hlocR k b a1 a2]at h3
      rcases hcase k' b' h2 with ⟨b1,b2⟩|hm'
      ·rw [hlocR k' b' b1 b2]at h4
       exact H.sep k k' b b' g a1 b1 h3 h4
      ·exfalso
       obtain ⟨q,b0,c1,c2,rfl,c4,_⟩:=htouch k' b' hm'
       rw [Ac,Gq b0 c4]at h4
       exact ((hrest k b a2 a1).2.2 g h3).2 (T'.ownBack g ⟨q,_,c2,by rw [Ac];exact h4⟩ (H.lt k b g a1 h3))
     ·obtain ⟨q,b0,c1,c2,rfl,c4,c5⟩:=htouch k b hm
      rw [Ac,Gq b0 c4]at h3
      rcases hcase k' b' h2 with ⟨b1,b2⟩|hm'
      ·exfalso
       rw [hlocR k' b' b1 b2]at h4
       exact ((hrest k' b' b2 b1).2.2 g h4).2 (T'.ownBack g ⟨q,_,c2,by rw [Ac];exact h3⟩ (H.lt k' b' g b1 h4))
      ·obtain ⟨q',b0',d1,d2,rfl,d4,d5⟩:=htouch k' b' hm'
       rw [Ac,Gq b0' d4]at h4
       exact hinjT c5 d5 (H'.sep q q' _ _ g c2 d2 (by rw [Ac];exact h3) (by rw [Ac];exact h4))
    ·rcases hcase k b h1 with ⟨a1,a2⟩|hm
     ·rw [hlocR k b a1 a2]at h2
      rcases T'.immBack g hi (H.lt k b g a1 h2)with q|q
      ·exact H.notI k b g a1 h2 q
      ·exact ((hrest k b a2 a1).2.2 g h2).2 q
     ·obtain ⟨q,b0,c1,c2,rfl,c4,_⟩:=htouch k b hm
      rw [Ac,Gq b0 c4]at h2
      exact H'.notI q _ g c2 (by rw [Ac];exact h2) hi
    ·rcases hcase k b h1 with ⟨a1,a2⟩|hm
     ·rw [hlocR k b a1 a2]at h2
      exact bT (H.lt k b g a1 h2) T'.size
     ·obtain ⟨q,b0,c1,c2,rfl,c4,_⟩:=htouch k b hm
      rw [Ac,Gq b0 c4]at h2
      exact H'.lt q _ g c2 (by rw [Ac];exact h2)
    ·obtain ⟨u0,hu0⟩:=H.fresh
     refine ⟨max u0 (u+1),fun d x hx=> ?_⟩
     rw [hρ1o _ (fun j _ e=>by simp only [Prod.mk.injEq]at e;omega)]
     exact hu0 d x (by omega)
    ·have hy':(if k.2=u∧S≤k.1∧k.1<S+new.length then ρ0' (σ (k.1 - S))else ρ k)=some y:=hy
     split at hy'
     ·exact H'.rone _ y hy'
     ·exact H.rone _ y hy'
  refine ⟨x,I',ρ1,rfl,XP RK hv' hk1,H1,⟨T'.os,T'.tape,T'.output,T'.size,fun b hb hn=>T'.frame b hb (fun ho=>hn (hown0 b ho)),T'.imm,fun b hb hl=>(T'.immBack b hb hl).imp id (hown0 b),?_,hle1⟩,fun k hk=>hρ1o k fun j hj=>hk j (by omega)⟩
  rintro b ⟨k,c,h1,h2⟩ hl
  rcases hcase k c h1 with ⟨a1,a2⟩|hm
  ·exact ⟨k,c,a1,by rw [← hlocR k c a1 a2];exact h2⟩
  ·obtain ⟨q,b0,c1,c2,rfl,c4,_⟩:=htouch k c hm
   rw [Ac,Gq b0 c4]at h2
   exact hown0 b (T'.ownBack b ⟨q,_,c2,by rw [Ac];exact h2⟩ hl)
end Go.Abs
namespace Go.Abs
open Go
theorem Te {α:Type}{l:List α}(h:l.Nodup){i j:Nat}(hi:i<l.length)(hj:j<l.length)(e:l[i]=l[j]):i=j:=by
  have h':=List.pairwise_iff_getElem.1 h
  rcases Nat.lt_trichotomy i j with q|q|q
  ·exact absurd e (h' i j hi hj q)
  ·exact q
  ·exact absurd e.symm (h' j i hj hi q)
def Ea (l:List D5)(i:Nat):D5:=l.getD i (0,0)
section
variable {P:Program}{N:Nat}
/-- Less is known of what is handed in. -/
theorem FCall.le {u S:Nat}{f:FuncId}{avs avs':List AV}{pre pre':C6}{v:AV}{ups:List (D5×Option Blk)}(hF:FCall P u S f avs' pre v ups)(ha:All2 AVle avs avs')(hp: ∀q b,pre q=some b→∃b',pre' q=some b'∧BlkLe b' b)(hu: ∀q b,pre q=some b→q∈ups.map (·.1)):FCall P u S f avs pre' v ups:=by
  refine ⟨hF.1,fun w I ρ h vs H hh hlen hrep hfr=> ?_⟩
  let h1:C6:=fun q=>match pre q with|some b=>some b|none=>h q
  have h1p: ∀q b,pre q=some b→h1 q=some b:=fun q b hb=>by show (match pre q with|some b=>some b|none=>h q)=_;rw [hb]
  have h1n: ∀q,pre q=none→h1 q=h q:=fun q hb=>by show (match pre q with|some b=>some b|none=>h q)=_;rw [hb]
  have S1:Sb ⟨fun _=> .any,h1⟩ ⟨fun _=> .any,h⟩:=by
    refine ⟨fun i=> .any _,fun k b hb=> ?_⟩
    cases hq:pre k with
    |none=>exact ⟨b,by show h k=some b;rw [← h1n k hq];exact hb, .refl b⟩
    |some b0=>
     obtain rfl:b0=b:=by have:=hb;dsimp only at this;rw [h1p k b0 hq]at this;exact lC this
     obtain ⟨b',e1,e2⟩:=hp k b0 hq
     exact ⟨b',hh k b' e1,e2⟩
  have hup:N2 h1 ups=N2 h ups:=by
    funext q
    by_cases e:q∈ups.map (·.1)
    ·exact Jo ups _ _ q e
    ·rw [Cn _ _ _ e,Cn _ _ _ e]
     cases hq:pre q with
     |none=>exact h1n q hq
     |some b=>exact absurd (hu q b hq) e
  have hown: ∀g,own ρ h1 g→own ρ h g:=fun g hg=>S1.own hg
  have hown': ∀g,own ρ h g→own ρ h1 g:=by
    rintro g ⟨k,b,e1,e2⟩
    cases hq:pre k with
    |none=>exact ⟨k,b,by rw [h1n k hq];exact e1,e2⟩
    |some b0=>
     obtain ⟨b',g1,g2⟩:=hp k b0 hq
     have:b'=b:=by have:=hh k b' g1;rw [e1]at this;exact (lC this).symm
     subst this
     exact ⟨k,b0,h1p k b0 hq,by rw [g2.loc];exact e2⟩
  refine (hF.2 w I ρ h1 vs (S1.heapOK H) h1p (by rw [← ha.length];exact hlen) (fun i c hc=> ?_) hfr).mono ?_
  ·obtain ⟨a,e1,e2⟩:=ha.get hc
   exact e2 _ _ _ _ (hrep i a e1)
  rintro e w' ⟨x,I',ρ',rfl,r1,r2,r3,r4⟩
  rw [hup]at r2 r3
  exact ⟨x,I',ρ',rfl,r1,r2,⟨r3.os,r3.tape,r3.output,r3.size,fun b hb hn=>r3.frame b hb fun ho=>hn (hown b ho),r3.imm,fun b hb hl=>(r3.immBack b hb hl).imp id (hown b),fun b hb hl=>hown b (r3.ownBack b hb hl),r3.rho⟩,r4⟩
/-- A pure contract, where what is handed in is untouched and the answer needs no memory of it. -/
theorem ICall.le {f:FuncId}{avs:List AV}{h:C6}{K K':AV→C6→Prop}(hI:ICall P f avs h K)(hk: ∀v h,K v h→K' v h):ICall P f avs h K':=hI.mono hk
/-! ### How such a contract is shown -/
theorem TY {f:FuncId}{rs:List RV}{ac:AC}(F:FnOK P f N rs ac){avs:List AV}{pre:List Blk}{v:AV}{post:List (Option Blk)}{new:List (Option Blk)}(hok:SR avs pre v post new=true)(hl:avs.length≤N)
    (h:Di P N none [.c ac] (fun e s=>(e= .nrm∨e= .ret)∧∃v' v1 g1,Qh s.t s.h rs=some v'∧AVle v' v1∧Vi s.h g1∧Rs pre.length v post new v1 (G g1)) .nrm ⟨BB avs,G (Pk 0 pre)⟩):MCall P f avs pre v post new:=by
  refine ⟨hok,F.enters,?_⟩
  obtain ⟨fn,c,hf,hb,hN,hrs,⟨M,hc⟩,hn⟩:=F.ex
  intro w I ρ vs H hlen hrep
  have hsim:=Nz (n:=N) H hlen (by omega) hrep
  rw [← hN]at hsim
  refine Il (Q:=fun e s=>(e= .nrm∨e= .ret)∧∃v' v1 g1,Qh s.t s.h rs=some v'∧AVle v' v1∧Vi s.h g1∧Rs pre.length v post new v1 (G g1)) hf hb rfl hsim (by rw [hN];exact h M c hc) ?_
  rintro e s' a' w' I' ρ' ⟨he,v',v1,g1,hv,hle,hg,hp⟩ hs' tr
  obtain ⟨x,hx,hr⟩:=Wn hs' hrs hv
  have S1:Sb ⟨T [],G g1⟩ s':=by cases s';exact C0 trivial hg
  exact ⟨he,x,hx,x,v1,I',ρ',G g1,rfl,hle _ _ _ _ hr,S1.heapOK hs'.heap,⟨tr.os,tr.tape,tr.output,tr.size,tr.frame,tr.imm,tr.immBack,fun b hb hl=>tr.ownBack b (S1.own hb) hl,tr.rho⟩,hp⟩
def Qk:List AV→Nat→List (Nat×AV)
  | [],_=> []
  |a::r,n=>(n,a)::Qk r (n+1)
theorem Zk: ∀(avs:List AV) (n i:Nat),T (Qk avs n) (n+i)=avs.getD i .any
  | [],n,i=>by simp [Qk,VH]
  |a::r,n,i=>by
   rw [Qk,TH]
   cases i with
   |zero=>rw [bE (by simp)];rfl
   |succ i=>rw [bF (by omega),show n+ (i+1)=n+1+i by omega,Zk r (n+1) i];rfl
theorem HV (avs:List AV):BB avs=T (Qk avs 0):=by
  funext i
  have:=Zk avs 0 i
  rw [bR]at this
  rw [this];rfl
def HW (h:C6)(f:D5→D5):Nat→List (Option Blk)→Prop
  |_,[]=>True
  |i,b::r=>(match b with|some b=>h (X7 i)=some (Gb f b)|none=>True)∧HW h f (i+1) r
theorem Tf {h:C6}{f:D5→D5}: ∀{l:List (Option Blk)} {n i:Nat} {b:Blk},HW h f n l→l[i]? =some (some b)→h (X7 (n+i))=some (Gb f b)
  | [],n,i,b,_,hb=>by simp at hb
  |x::r,n,i,b,hp,hb=>by
   cases i with
   |zero=>simp at hb;subst hb;exact hp.1
   |succ i=>rw [show n+ (i+1)=n+1+i by omega];exact Tf hp.2 (by simpa using hb)
def RA (h:C6)(f:D5→D5):List D5→List (Option Blk)→Prop
  |_,[]=>True
  | [],_::_=>False
  |k::ks,b::r=>h k=b.map (Gb f)∧RA h f ks r
theorem Wv {h:C6}{f:D5→D5}: ∀{ks:List D5} {l:List (Option Blk)} {i:Nat} {b:Blk},RA h f ks l→l[i]? =some (some b)→h (Ea ks i)=some (Gb f b)
  |ks,[],i,b,_,hb=>by simp at hb
  | [],_::_,i,b,hp,_=>hp.elim
  |k::ks,x::r,i,b,hp,hb=>by
   cases i with
   |zero=>simp at hb;subst hb;exact hp.1
   |succ i=>exact Wv (ks:=ks) hp.2 (by simpa using hb)
theorem ND {d u:Nat}(h:Nat.blt d 900000=true)(i:Nat):(d,u)≠X7 i:=by
  rw [Nat.blt_eq]at h
  intro e
  simp only [X7,Prod.mk.injEq]at e;omega
theorem NE {n:Nat}{v v1:AV}{post:List (Option Blk)}{new:List (Option Blk)}{h:C6}(σs:List D5)(hv:v1=BG (U5 X7 (Ea σs)) v)(hpost:HW h (U5 X7 (Ea σs)) 0 post)(hnew:RA h (U5 X7 (Ea σs)) σs new)
    (hl:σs.length=new.length) (hd: ∀k∈σs,∀i,k≠X7 i) (hnd:σs.Nodup):Rs n v post new v1 h:=by
  have hget: ∀j,j<new.length→Ea σs j∈σs:=by
    intro j hj
    simp only [Ea,List.getD,lG (show j<σs.length by omega),Option.getD_some]
    exact List.getElem_mem _
  refine ⟨Ea σs,hv,fun i b hb=> ?_,fun j b hb=>Wv hnew hb,fun j hj i _=>hd _ (hget j hj) i,fun j j' hj hj' e=> ?_⟩
  ·have:=Tf hpost hb
   rwa [bR]at this
  ·simp only [Ea,List.getD,lG (show j<σs.length by omega),lG (show j'<σs.length by omega),Option.getD_some]at e
   exact Te hnd (by omega) (by omega) e
theorem Bn {t:Nat→AV}{h:C6}{rs:List RV}{e:Ex}{n:Nat}{v v' v1:AV}{post:List (Option Blk)}{new:List (Option Blk)}(he:e= .nrm∨e= .ret)(h1:Qh t h rs=some v')(h2:AVle v' v1)(g1:List (D5×Option Blk))(h3:Vi h g1)(h4:Rs n v post new v1 (G g1)):
    (e= .nrm∨e= .ret)∧∃v' v1 g1,Qh (⟨t,h⟩:St).t (⟨t,h⟩:St).h rs=some v'∧AVle v' v1∧Vi (⟨t,h⟩:St).h g1∧Rs n v post new v1 (G g1):=⟨he,v',v1,g1,h1,h2,h3,h4⟩
theorem Zl {t:Nat→AV}{h:C6}{a:RV}{v:AV}(hv:Qg t h a=some v):Qh t h [a]=some v:=by simp only [Qh,Ta,hv]
theorem Ep {t:Nat→AV}{h:C6}{a b:RV}{v w:AV}(hv:Qg t h a=some v)(hw:Qg t h b=some w):Qh t h [a,b]=some (.tup [v,w]):=by simp only [Qh,Ta,hv,hw]
end
/-! ### How it is used -/
theorem Ql {h:C6}{n:Nat}{k:D5}{off:Nat}{ty:TypeId}{cs:List AV}{ks:List D5}(hb:h k=some (.box ty cs))(hc:cs.flatMap (O9 h n)=ks):O9 h (n+1) (.ptr k off)=k::ks:=by simp only [O9,hb,hc]
theorem NF {h:C6}{n:Nat}{x:D}:O9 h n (.d x)= []:=by cases n<;>rfl
theorem NG {h:C6}{n:Nat}{f:Fn}{fs cs:List AV}{ks ks':List D5}(h1:fs.flatMap (O9 h n)=ks)(h2:cs.flatMap (O9 h n)=ks'):O9 h (n+1) (.fn f fs cs)=ks++ks':=by simp only [O9,h1,h2]
theorem Qm {h:C6}{n:Nat}:([]:List AV).flatMap (O9 h n)= []:=rfl
theorem Dq {h:C6}{n:Nat}{x:AV}{r:List AV}{a b:List D5}(h1:O9 h n x=a)(h2:r.flatMap (O9 h n)=b):(x::r).flatMap (O9 h n)=a++b:=by rw [l6,h1,h2]
def JE (h:C6):List D5→List Blk→Prop
  | [],[]=>True
  |k::ks,b::bs=>(∃b',h k=some b'∧BlkLe b' b)∧JE h ks bs
  |_,_=>False
theorem Ww {h:C6}: ∀{ks:List D5} {bs:List Blk},JE h ks bs→ks.length=bs.length
  | [],[],_=>rfl
  |_::ks,_::bs,hp=>by simp [Ww hp.2]
  | [],_::_,hp=>hp.elim
  |_::_,[],hp=>hp.elim
theorem DK {h:C6}: ∀{ks:List D5} {bs:List Blk} {i:Nat} {b:Blk},JE h ks bs→bs[i]? =some b→Ea ks i∈ks∧∃b',h (Ea ks i)=some b'∧BlkLe b' b
  | [],[],i,b,_,hb=>by simp at hb
  |k::ks,c::bs,i,b,hp,hb=>by
   cases i with
   |zero=>simp at hb;subst hb;exact ⟨by simp [Ea],hp.1⟩
   |succ i=>
    obtain ⟨g1,g2⟩:=DK (ks:=ks) (bs:=bs) (i:=i) hp.2 (by simpa using hb)
    exact ⟨by simp only [Ea,List.getD_cons_succ]at g1 ⊢;exact List.mem_cons_of_mem _ g1,g2⟩
  | [],_::_,_,_,hp,_=>hp.elim
  |_::_,[],_,_,hp,_=>hp.elim
/-- A call of such a function, at the keys of the caller. -/
theorem MCall.at {P:Program}{u S:Nat}{f:FuncId}{avs avs0:List AV}{pre:List Blk}{v:AV}{post:List (Option Blk)}{new:List (Option Blk)}{h:C6}(hM:MCall P f avs0 pre v post new)(κs:List D5)(ks:List D5)
    (hle:All2 AVle avs (avs0.map (Yf (U5 (Ea κs) (Ea κs))))) (hpre:JE h κs (pre.map (Gb (U5 (Ea κs) (Ea κs))))) (hsub: ∀k∈κs,k∈ks) (hnd:κs.Nodup):
    FCall P u S f avs (S3 h ks) (BG (U5 (Ea κs) fun j=>(S+j,u)) v) (Kf (Ea κs) (U5 (Ea κs) fun j=>(S+j,u)) 0 post++Oc u S (U5 (Ea κs) fun j=>(S+j,u)) 0 new):=by
  have hlen:κs.length=pre.length:=by simpa using Ww hpre
  have hok:=hM.ok
  simp only [SR,bG,bK,Nat.ble_eq]at hok
  have hinj: ∀i i',i<pre.length→i'<pre.length→Ea κs i=Ea κs i'→i=i':=by
    intro i i' hi hi' e
    simp only [Ea,List.getD,lG (show i<κs.length by omega),lG (show i'<κs.length by omega),Option.getD_some]at e
    exact Te hnd (by omega) (by omega) e
  let preH:C6:=fun q=>match (List.range pre.length).find? fun i=>Ea κs i==q with
    |some i=>(pre[i]?).map (Gb (U5 (Ea κs) (Ea κs)))
    |none=>none
  have hat: ∀i b,pre[i]? =some b→preH (Ea κs i)=some (Gb (U5 (Ea κs) (Ea κs)) b):=by
    intro i b hb
    have hi:i<pre.length:=(lH.1 hb).1
    show (match (List.range pre.length).find? fun i'=>Ea κs i'==Ea κs i with|some i=>(pre[i]?).map (Gb (U5 (Ea κs) (Ea κs)))|none=>none)=_
    cases hf:(List.range pre.length).find? fun i'=>Ea κs i'==Ea κs i with
    |none=>
     have:=List.find?_eq_none.1 hf i (by simpa using hi)
     simp at this
    |some j=>
     have h1:=List.find?_some hf
     have h2:=List.mem_of_find?_eq_some hf
     have:=hinj j i (by simpa using h2) hi (by simpa using h1)
     subst this
     simp only [hb,lE]
  have hinv: ∀q b,preH q=some b→∃i b0,pre[i]? =some b0∧q=Ea κs i∧b=Gb (U5 (Ea κs) (Ea κs)) b0:=by
    intro q b hq
    have hq':(match (List.range pre.length).find? fun i'=>Ea κs i'==q with|some i=>(pre[i]?).map (Gb (U5 (Ea κs) (Ea κs)))|none=>none)=some b:=hq
    split at hq'
    ·rename_i j hf
     have h1:=List.find?_some hf
     simp only [lD]at hq'
     obtain ⟨b0,e1,rfl⟩:=hq'
     exact ⟨j,b0,e1,(by simpa using h1:Ea κs j=q).symm,rfl⟩
    ·cases hq'
  refine FCall.le (hM.frame (Ea κs) hinj preH hat) hle (fun q b hq=> ?_) (fun q b hq=> ?_)
  ·obtain ⟨i,b0,e1,rfl,rfl⟩:=hinv q b hq
   obtain ⟨g1,b',g2,g3⟩:=DK hpre (Jr e1)
   exact ⟨b',by unfold S3;rw [bE (hsub _ g1)];exact g2,g3⟩
  ·obtain ⟨i,b0,e1,rfl,rfl⟩:=hinv q b hq
   rw [List.map_append,lQ]
   left
   have hi:i<post.length:=by rw [hok.1.1.1.1.1.1];exact (lH.1 e1).1
   have key: ∀(i:Nat) (l:List (Option Blk)) (n:Nat) (f:D5→D5),i<l.length→Ea κs (n+i)∈(Kf (Ea κs) f n l).map (·.1):=by
     intro i
     induction i with
     |zero=>intro l n f hl;cases l with|nil=>simp at hl|cons=>simp [Kf]
     |succ i ih=>
      intro l n f hl
      cases l with
      |nil=>simp at hl
      |cons b r=>
       have:=ih r (n+1) f (by simpa using hl)
       rw [show n+1+i=n+ (i+1) by omega]at this
       simp only [Kf,lO,lR]
       exact .inr this
   have:=key i post 0 (U5 (Ea κs) fun j=>(S+j,u)) hi
   rwa [bR]at this
theorem TZ {u S:Nat}{κs ks:List D5}{post:List (Option Blk)}{new:List (Option Blk)}{f g:D5→D5}(hsub: ∀k∈κs,k∈ks)(hl:post.length=κs.length)(hn:new.length≤6):
    ∀q∈(Kf (Ea κs) f 0 post++Oc u S g 0 new).map (·.1),q∈ks∨∃j,j<6∧q=(S+j,u):=by
  intro q hq
  simp only [List.mem_map,lQ]at hq
  obtain ⟨x,hx|hx,rfl⟩:=hq
  ·obtain ⟨j,b,h1,rfl⟩:=Wt hx
   have hj:j<κs.length:=by rw [← hl];exact (lH.1 h1).1
   left
   refine hsub _ ?_
   simp only [bR,Ea,List.getD,lG hj,Option.getD_some]
   exact List.getElem_mem _
  ·obtain ⟨j,b,h1,rfl⟩:=Wu hx
   have hj:j<new.length:=(lH.1 h1).1
   exact .inr ⟨j,by omega,by rw [bR]⟩
section
variable {P:Program}{u:Nat}{r:List AOp}{l:List (Nat×AV)}{g:List (D5×Option Blk)}
/-- What a call of such a function asks for, and gives. -/
structure OC (P:Program)(u:Nat)(l:List (Nat×AV))(g:List (D5×Option Blk))(S:Nat)(f:Opd)(args:List Opd)(v:AV)(ks:List D5)(us:List D5)(g':List (D5×Option Blk)):Prop where
  w: ∀K:AV→List (D5×Option Blk)→Prop,(∀ups,ups.map (·.1)=us→N2 (G g) ups=G g'→K v ups)→Qe P u (T l) (G g) S f args K
  ks:Bc (T l) (G g) (.ocall S f args)=ks
theorem BH {S:Nat}{f:Opd}{args:List Opd}{fid:FuncId}{avs avs0:List AV}{pre:List Blk}{v v':AV}{post:List (Option Blk)}{new:List (Option Blk)}(hM:MCall P fid avs0 pre v post new)(κs ks us:List D5)(g':List (D5×Option Blk))
    (hc:Q9 (T l) f args=some (fid,avs)) (hle:All2 AVle avs (avs0.map (Yf (U5 (Ea κs) (Ea κs))))) (hks:avs.flatMap (O9 (G g) 6)=ks) (hlive: ∀q∈ks,G g q≠none)
    (hpre:JE (G g) κs (pre.map (Gb (U5 (Ea κs) (Ea κs))))) (hsub: ∀k∈κs,k∈ks) (hnd:κs.Nodup) (hv:BG (U5 (Ea κs) fun j=>(S+j,u)) v=v')
    (hus:(Kf (Ea κs) (U5 (Ea κs) fun j=>(S+j,u)) 0 post++Oc u S (U5 (Ea κs) fun j=>(S+j,u)) 0 new).map (·.1)=us)
    (hg:N2 (G g) (Kf (Ea κs) (U5 (Ea κs) fun j=>(S+j,u)) 0 post++Oc u S (U5 (Ea κs) fun j=>(S+j,u)) 0 new)=G g'):OC P u l g S f args v' ks us g':=by
  have hok:=hM.ok
  simp only [SR,bG,bK,Nat.ble_eq]at hok
  have hlen:κs.length=pre.length:=by simpa using Ww hpre
  refine ⟨fun K hK=> ?_,by simp only [Bc,hc,hks]⟩
  simp only [Qe,hc,hks]
  refine ⟨v',_,?_,hlive,by rw [← hv];exact hM.at κs ks hle hpre hsub hnd,hK _ hus hg⟩
  exact TZ hsub (by rw [hok.1.1.1.1.1.1,hlen]) hok.1.1.1.1.1.2
theorem DL {K:(Nat→AV)→C6→Prop}{d S:Nat}{f:Opd}{args:List Opd}{v:AV}{ks us:List D5}{g':List (D5×Option Blk)}(h:OC P u l g S f args v ks us g')(hk:J0 P u r (T ((d,v)::l)) (G g') K):J0 P u (⟨some d, .ocall S f args,none⟩::r) (T l) (G g) K:=by
  refine Oy (by simp [U3]) ?_
  simp only [gW,Uo]
  exact h.w _ fun ups _ e=>by rw [e];exact hk
theorem RB {K:(Nat→AV)→C6→List (List D5×List D5)→Prop}{d S:Nat}{f:Opd}{args:List Opd}{v:AV}{ks us:List D5}{g':List (D5×Option Blk)}(h:OC P u l g S f args v ks us g')(hk:Ij P u r (T ((d,v)::l)) (G g') fun t' h' tr=>K t' h' ((ks,us)::tr)):Ij P u (⟨some d, .ocall S f args,none⟩::r) (T l) (G g) K:=by
  unfold Ij
  simp only [gW,Uo]
  refine h.w _ fun ups e1 e=> ?_
  rw [e,e1,h.ks];exact hk
end
end Go.Abs
namespace Go.Abs
open Go
section
variable {P:Program}{N:Nat}
/-- What is handed back, where the blocks at some keys have become data. -/
def Wx (ks:List D5)(t:Nat→AV)(h:C6)(rs:List RV):Option D:=match Ta t h rs with
  |some vs=>match L7 (J7 (S3 h ks) 6) vs with
   |some [d]=>some d
   |some ds=>some (.tup ds)
   |none=>none
  |none=>none
def Rt (h:C6)(ks:List D5):Nat→List (Option Blk)→Prop
  |_,[]=>True
  |i,none::r=>Rt h ks (i+1) r
  |i,some (.box ty cs)::r=>(∃cs' ds ds',h (X7 i)=some (.box ty cs')∧X7 i∉ks∧L7 (J7 (S3 h ks) 6) cs'=some ds∧All2 DLe ds ds'∧cs=ds'.map .d)∧Rt h ks (i+1) r
  |i,some (.arr ty sz es)::r=>(h (X7 i)=some (.arr ty sz es)∧X7 i∉ks)∧Rt h ks (i+1) r
  |_,some (.obj _ _)::_=>False
  |_,some (.mp _)::_=>False
def Pq:Nat→List (Option Blk)→List (D5×Option Blk)
  |_,[]=> []
  |i,b::r=>(X7 i,b)::Pq (i+1) r
theorem Zm: ∀{l:List (Option Blk)} {i:Nat} {q:D5} {b:Blk},G (Pq i l) q=some b→∃j,q=X7 (i+j)∧l[j]? =some (some b)
  | [],i,q,b,h=>by cases h
  |x::r,i,q,b,h=>by
   rw [Pq,G]at h
   by_cases e:q=X7 i
   ·rw [bE e]at h;subst h;exact ⟨0,e,rfl⟩
   ·rw [bF e]at h
    obtain ⟨j,h1,h2⟩:=Zm h
    exact ⟨j+1,by rw [h1];congr 1;omega,by simpa using h2⟩
theorem DM: ∀{l:List (Option Blk)} {i j:Nat} {b:Option Blk},l[j]? =some b→G (Pq i l) (X7 (i+j))=b
  | [],i,j,b,h=>by simp at h
  |x::r,i,j,b,h=>by
   rw [Pq,G]
   cases j with
   |zero=>simp at h;subst h;rw [bE (by simp)]
   |succ j=>
    rw [bF (fun e=>by have:=DH e;omega),show i+ (j+1)=i+1+j by omega]
    exact DM (by simpa using h)
theorem Zn {h:C6}{ks:List D5}: ∀{l:List (Option Blk)} {i j:Nat} {b:Blk},Rt h ks i l→l[j]? =some (some b)→X7 (i+j)∉ks∧
    ((∃ty cs' ds ds',b= .box ty (ds'.map .d)∧h (X7 (i+j))=some (.box ty cs')∧L7 (J7 (S3 h ks) 6) cs'=some ds∧All2 DLe ds ds')∨∃ty sz es,b= .arr ty sz es∧h (X7 (i+j))=some (.arr ty sz es))
  | [],i,j,b,_,hb=>by simp at hb
  |x::r,i,j,b,hp,hb=>by
   cases j with
   |zero=>
    simp at hb;subst hb
    cases b with
    |box ty cs=>obtain ⟨⟨cs',ds,ds',a1,a2,a3,a4,rfl⟩,_⟩:=hp;exact ⟨a2, .inl ⟨ty,cs',ds,ds',rfl,a1,a3,a4⟩⟩
    |arr ty sz es=>exact ⟨hp.1.2, .inr ⟨ty,sz,es,rfl,hp.1.1⟩⟩
    |obj=>exact hp.elim
    |mp=>exact hp.elim
   |succ j=>
    have hr:Rt h ks (i+1) r:=by
      cases x with
      |none=>exact hp
      |some x=>cases x<;>first|exact hp.2|exact hp.elim
    have:=Zn hr (by simpa using hb:r[j]? =some (some b))
    rwa [show i+1+j=i+ (j+1) by omega]at this
theorem JF (f:D5→D5)(ds:List D):(ds.map AV.d).map (Ye f)=ds.map .d:=by rw [List.map_map];rfl
theorem Vk {f:FuncId}{rs:List RV}{ac:AC}(F:FnOK P f N rs ac){avs:List AV}{pre:List Blk}{v:D}{post:List (Option Blk)}(hok:SR avs pre (.d v) post []=true)(hl:avs.length≤N)
    (h:Di P N none [.c ac] (fun e s=>(e= .nrm∨e= .ret)∧∃ks d',Wx ks s.t s.h rs=some d'∧DLe d' v∧Rt s.h ks 0 post) .nrm ⟨T (Qk avs 0),G (Pk 0 pre)⟩):MCall P f avs pre (.d v) post []:=by
  refine ⟨hok,F.enters,?_⟩
  obtain ⟨fn,c,hf,hb,hN,hrs,⟨M,hc⟩,hn⟩:=F.ex
  intro w I ρ vs H hlen hrep
  have hsim:=Nz (n:=N) H hlen (by omega) hrep
  rw [← hN,HV]at hsim
  refine Il (Q:=fun e s=>(e= .nrm∨e= .ret)∧∃ks d',Wx ks s.t s.h rs=some d'∧DLe d' v∧Rt s.h ks 0 post) hf hb rfl hsim (by rw [hN];exact h M c hc) ?_
  rintro e s' a' w' I' ρ' ⟨he,ks,d',hv,hle,hp⟩ hs' tr
  have Hs:=hs'.heap
  let hk:C6:=S3 s'.h ks
  have hsub: ∀q b,hk q=some b→s'.h q=some b∧q∈ks:=by
    intro q b hq
    have:(if q∈ks then s'.h q else none)=some b:=hq
    split at this
    ·exact ⟨this,‹_›⟩
    ·cases this
  have Hk:=Hs.sub fun q b hq=>(hsub q b hq).1
  have hg: ∀q b,G (Pq 0 post) q=some b→∃b0,s'.h q=some b0∧q∉ks∧K1 ρ' q b=K1 ρ' q b0∧BlkOK w' (fun b=>I' b∨own ρ' hk b) ρ' q b∧∀f,Gb f b=b:=by
    intro q b hq
    obtain ⟨i,rfl,h2⟩:=Zm hq
    rw [bR]
    obtain ⟨h3,h4⟩:=Zn hp h2
    rw [bR]at h3 h4
    rcases h4 with ⟨ty,cs',ds,ds',rfl,a1,a2,a3⟩|⟨ty,sz,es,rfl,a1⟩
    ·refine ⟨_,a1,h3,rfl,?_,fun f=>by simp only [Gb,JF]⟩
     obtain ⟨g,ws,b1,b2,b3,b4,b5⟩:=Hs.blk _ _ a1
     obtain ⟨l1,l2⟩:=Do a2
     refine ⟨g,ws,b1,b2,by rw [lP,← a3.length,l1];exact b3,b4,fun i c hc=> ?_⟩
     obtain ⟨d1,hd1,rfl⟩:=Vg hc
     obtain ⟨d0,e1,e2⟩:=a3.get hd1
     obtain ⟨x,e3,e4⟩:=l2 i d0 e1
     exact .d _ _ (e2 _ _ _ (Gp Hk 6 x d0 _ (b5 i x e3) e4))
    ·exact ⟨_,a1,h3,rfl,(Hs.blk _ _ a1).keep (fun _ _=>rfl) (fun _ _=>rfl) (fun _ h=> .inl h) (fun _ _ h=>h),fun f=>rfl⟩
  have hownG: ∀g,own ρ' (G (Pq 0 post)) g→own ρ' s'.h g:=by
    rintro g ⟨q,b,a1,a2⟩
    obtain ⟨b0,c1,_,c3,_⟩:=hg q b a1
    exact ⟨q,b0,c1,by rw [← c3];exact a2⟩
  have H2:HeapOK w' (fun b=>I' b∨own ρ' hk b) ρ' (G (Pq 0 post)):=by
    refine ⟨fun q b hq=>by obtain ⟨_,_,_,_,c,_⟩:=hg q b hq;exact c,fun q q' b b' g h1 h2 h3 h4=> ?_,fun q b g h1 h2 hi=> ?_,fun q b g h1 h2=> ?_,fun b hb=> ?_,Hs.fresh,Hs.rone⟩
    ·obtain ⟨b0,c1,_,c3,_⟩:=hg q b h1
     obtain ⟨b1,d1,_,d3,_⟩:=hg q' b' h2
     rw [c3]at h3;rw [d3]at h4
     exact Hs.sep q q' b0 b1 g c1 d1 h3 h4
    ·obtain ⟨b0,c1,c2,c3,_⟩:=hg q b h1
     rw [c3]at h2
     rcases hi with hi|⟨k,x,e1,e2⟩
     ·exact Hs.notI q b0 g c1 h2 hi
     ·obtain ⟨e3,e4⟩:=hsub k x e1
      have:=Hs.sep q k b0 x g c1 e3 h2 e2
      subst this
      exact c2 e4
    ·obtain ⟨b0,c1,c2,c3,_⟩:=hg q b h1
     rw [c3]at h2
     exact Hs.lt q b0 g c1 h2
    ·rcases hb with hb|hb
     ·exact Hs.ilt b hb
     ·exact Hk.own_lt hb
  unfold Wx at hv
  split at hv
  ·rename_i avs' hres
   obtain ⟨xs,g1,g2,g3⟩:=Ny hs' hrs hres
   have hds: ∀{ds:List D},L7 (J7 hk 6) avs'=some ds→ds.length=xs.length∧∀(i:Nat) d,ds[i]? =some d→RepD w' (fun b=>I' b∨own ρ' hk b) d (xs.getD i undef):=by
     intro ds hds
     obtain ⟨l1,l2⟩:=Do hds
     refine ⟨by omega,fun i d hd=> ?_⟩
     obtain ⟨x,e3,e4⟩:=l2 i d hd
     exact Gp Hk 6 x d _ (g3 i x e3) e4
   have hfin: ∀x,(results fn a'.tmps).run P w'= .ok x w'→RepD w' (fun b=>I' b∨own ρ' hk b) d' x→
    ∃x,(results fn a'.tmps).run P w'= .ok x w'∧∃x' v' I'' ρ'' h'',Ending.returned x= .returned x'∧RepV w' I'' ρ'' v' x'∧HeapOK w' I'' ρ'' h''∧Tr w I ρ (G (Pk 0 pre)) w' I'' ρ'' h''∧Rs pre.length (.d v) post [] v' h'':=by
     intro x hx hr
     refine ⟨x,hx,x, .d v,_,ρ',G (Pq 0 post),rfl, .d _ _ (hle _ _ _ hr),H2,⟨tr.os,tr.tape,tr.output,tr.size,tr.frame,fun b hb=> .inl (tr.imm b hb),fun b hb hl=> ?_,fun b hb hl=>tr.ownBack b (hownG b hb) hl,tr.rho⟩,fun _=>(0,0),rfl,fun i b hb=> ?_,fun j b hb=>by simp at hb,fun j hj=>by simp at hj,fun j j' hj=>by simp at hj⟩
     ·rcases hb with hb|⟨k,x,e1,e2⟩
      ·exact tr.immBack b hb hl
      ·exact .inr (tr.ownBack b ⟨k,x,(hsub k x e1).1,e2⟩ hl)
     ·have h1:G (Pq 0 post) (X7 (0+i))=some b:=DM hb
      rw [bR]at h1
      obtain ⟨_,_,_,_,_,c⟩:=hg _ b h1
      rw [h1,c]
   have hmain: ∃x,(results fn a'.tmps).run P w'= .ok x w'∧RepD w' (fun b=>I' b∨own ρ' hk b) d' x:=by
     split at hv
     ·rename_i d hd
      cases hv
      obtain ⟨l1,l2⟩:=hds hd
      obtain ⟨x,rfl⟩: ∃x,xs= [x]:=by
        cases xs with
        |nil=>simp at l1
        |cons x r=>cases r with
         |nil=>exact ⟨x,rfl⟩
         |cons=>simp at l1
      exact ⟨x,by rw [Jp fn a' w' _ g1];simp,l2 0 _ rfl⟩
     ·rename_i ds hne hd
      cases hv
      obtain ⟨l1,l2⟩:=hds hd
      have hx1: ¬xs.length=1:=by
        intro h1
        rw [← l1]at h1
        obtain ⟨v,rfl⟩:=List.length_eq_one_iff.1 h1
        exact hne v rfl
      exact ⟨_,by rw [Jp fn a' w' _ g1,dif_neg hx1], .tup ds xs l1 l2⟩
     ·cases hv
   obtain ⟨x,hx,hr⟩:=hmain
   obtain ⟨x1,h1,h2⟩:=hfin x hx hr
   exact ⟨he,x1,h1,h2⟩
  ·cases hv
theorem Er {f:FuncId}{rs:List RV}{ac:AC}(F:FnOK P f N rs ac){avs:List AV}{pre:List Blk}{v:AV}{post:List (Option Blk)}{new:List (Option Blk)}(hok:SR avs pre v post new=true)(hl:avs.length≤N)
    (h:Di P N none [.c ac] (fun e s=>(e= .nrm∨e= .ret)∧∃v' v1 g1,Qh s.t s.h rs=some v'∧AVle v' v1∧Vi s.h g1∧Rs pre.length v post new v1 (G g1)) .nrm ⟨T (Qk avs 0),G (Pk 0 pre)⟩):MCall P f avs pre v post new:=
  TY F hok hl (by rw [HV];exact h)
theorem Wy {t:Nat→AV}{h:C6}{rs:List RV}{d d':D}{e:Ex}{post:List (Option Blk)}(he:e= .nrm∨e= .ret)(ks:List D5)(h1:Wx ks t h rs=some d')(h2:DLe d' d)(h3:Rt h ks 0 post):
    (e= .nrm∨e= .ret)∧∃ks d',Wx ks (⟨t,h⟩:St).t (⟨t,h⟩:St).h rs=some d'∧DLe d' d∧Rt (⟨t,h⟩:St).h ks 0 post:=⟨he,ks,d',h1,h2,h3⟩
theorem Wz {t:Nat→AV}{h:C6}{ks:List D5}{a:RV}{v:AV}{d:D}(hv:Qg t h a=some v)(hr:J7 (S3 h ks) 6 v=some d):Wx ks t h [a]=some d:=by simp only [Wx,Ta,hv,L7,hr]
theorem VP {h:C6}{ks:List D5}{k:D5}{b:Option Blk}(hm:k∈ks)(hb:h k=b):S3 h ks k=b:=by unfold S3;rw [bE hm];exact hb
theorem Bz {h:C6}: ∀q∈([]:List D5),h q≠none:=by simp
theorem Gr {h:C6}{k:D5}{b:Blk}{ks:List D5}(hb:h k=some b)(hr: ∀q∈ks,h q≠none): ∀q∈k::ks,h q≠none:=by
  intro q hq
  rcases lR.1 hq with rfl|hq
  ·rw [hb];simp
  ·exact hr q hq
theorem Es {l:List AV}:All2 AVle l l:=by
  induction l with
  |nil=>exact .nil
  |cons x r ih=>exact .cons (.refl x) ih
theorem Me {a b x y:Nat}(h:(a==b)=false):((a,x):D5)≠(b,y):=by rintro ⟨⟩;simp at h
theorem nd1 {k:D5}: [k].Nodup:=by simp
theorem UA {k k':D5}(h:k≠k'): [k,k'].Nodup:=by simp [h]
theorem Y4 {k:D5}:k∉ ([]:List D5):=by simp
theorem JG {i d u:Nat}{ks:List D5}(h:Nat.blt d 900000=true)(hr:X7 i∉ks):X7 i∉ (d,u)::ks:=by
  simp only [lR,not_or]
  exact ⟨fun e=>ND h i e.symm,hr⟩
theorem Mf {l:List D}:All2 DLe l l:=by
  induction l with
  |nil=>exact .nil
  |cons x r ih=>exact .cons (.refl x) ih
end
end Go.Abs
namespace Go.Abs
open Go
theorem U6 {x d:Nat}{l:List Nat}(h:d∈l)(ha:(l.all fun a=> !(a==x))=true):(d==x)=false:=by
  have:=lW.1 ha d h
  simpa using this
theorem PI {ds:List Nat}{d u:Nat}{r:Option Blk}(h:d∈ds): ∀(n:Nat) {l:List (D5×Option Blk)},((l.take n).all fun e=>ds.all fun a=> !(a==e.1.1))=true→G (l.drop n) (d,u)=r→G l (d,u)=r
  |0,_,_,h2=>h2
  |n+1,[],_,h2=>h2
  |n+1,(i,b)::l,h1,h2=>by
   simp only [List.take_succ_cons,List.all_cons,bG]at h1
   exact A4 (U6 h h1.1) (PI h n h1.2 h2)
theorem VA {k:D5}{r:Option Blk}: ∀(n:Nat) {l:List (D5×Option Blk)},((l.take n).all fun e=> !(k.1==e.1.1))=true→G (l.drop n) k=r→G l k=r
  |0,_,_,h2=>h2
  |n+1,[],_,h2=>h2
  |n+1,(i,b)::l,h1,h2=>by
   simp only [List.take_succ_cons,List.all_cons,bG]at h1
   exact A4 (by simpa using h1.1) (VA n h1.2 h2)
theorem V4 {t:Nat→AV}: ∀{l:List (Nat×AV)},(l.map fun p=>t p.1)=l.map (fun p=>p.2)→VK t l
  | [],_=>trivial
  |(i,v)::l,h=>by
   rw [lO,lO,List.cons.injEq]at h
   exact ⟨.of h.1,V4 h.2⟩
theorem Ji {x d:Nat}{l:List Nat}(h:d∈l)(ha:(l.all fun a=> !(x==a))=true):(x==d)=false:=by
  have:=lW.1 ha d h
  simpa using this
theorem Q3 {d e:Nat}{l m:List Nat}(h:d∈l)(h':e∈m)(ha:(l.all fun a=>m.all fun b=> !(a==b))=true):(d==e)=false:=by
  have:=lW.1 (lW.1 ha d h) e h'
  simpa using this
theorem RC {d:Nat}{l m:List Nat}(h:d∈l)(ha:(l.all fun a=>m.contains a)=true):d∈m:=by
  have:=lW.1 ha d h
  simpa using this
def Vl {α:Type}(t:Nat→AV)(f:α→List D)(sz:Nat):Nat→List (Nat×Nat×Opd)→List α→Prop
  |_,[],[]=>True
  |i,(off,m,x)::ps,a::as=>off=i*sz∧m=sz∧Ek (ev t x)=some ((f a).map .d)∧Vl t f sz (i+1) ps as
  |_,_,_=>False
theorem NH {α:Type}(pre post vs:List α)(h:vs.length≤post.length):Ey (pre++post) pre.length vs=pre++ (vs++post.drop vs.length):=by
  apply List.ext_getElem?
  intro i
  rw [By _ _ _ _ (by simp;omega)]
  by_cases h1:i<pre.length
  ·rw [bF (by omega),lV h1,lV h1]
  ·rw [lU (by omega),lU (by omega)]
   by_cases h2:i<pre.length+vs.length
   ·rw [bE (by omega),lV (by omega)]
   ·rw [bF (by omega),lU (by omega),lY]
    congr 1;omega
theorem Qn {α:Type}{t:Nat→AV}{f:α→List D}{sz:Nat}(hf: ∀a,(f a).length=sz): ∀(as:List α) (ps:List (Nat×Nat×Opd)) (i:Nat) (pre post:List AV),pre.length=i*sz→post.length=as.length*sz→Vl t f sz i ps as→
    Iz t (pre++post) ps=some (pre++ (as.flatMap f).map .d)
  | [],[],i,pre,post,_,hl,_=>by
    have:post= []:=lX (by simpa using hl)
    subst this;simp [Iz]
  | [],_::_,_,_,_,_,_,hp=>hp.elim
  |_::_,[],_,_,_,_,_,hp=>hp.elim
  |a::as,(off,m,x)::ps,i,pre,post,h1,h2,hp=>by
   obtain ⟨rfl,rfl,hc,hr⟩:=hp
   have hl:post.length=m+as.length*m:=by rw [h2,lJ,bQ];omega
   have hv:((f a).map AV.d).length=m:=by simp [hf]
   simp only [Iz,hc,hv,true_and]
   rw [bE (by simp [h1,hl]),← h1,NH _ _ _ (by rw [hv,hl];omega),hv,← lM]
   rw [Qn hf as ps (i+1) _ _ (by rw [lK,hv,h1,bQ];omega) (by rw [lT,hl];omega) hr]
   simp
theorem Qo {α:Type}{f:α→List D}{sz:Nat}(hf: ∀a,(f a).length=sz): ∀as:List α,Gm sz as.length (as.flatMap f)=as.map f
  | []=>rfl
  |a::as=>by
   simp only [lJ,Gm,l6,lO]
   rw [List.take_left' (hf a),List.drop_left' (hf a),Qo hf as]
theorem Tg {α:Type}(z:List α): ∀n,(Ih z n).length=n*z.length
  |0=>by simp [Ih]
  |n+1=>by simp [Ih,Tg z n,bQ];omega
theorem Th: ∀l:List D,Fh (l.map .d)=some l
  | []=>rfl
  |x::r=>by simp [Fh,Th r]
theorem Ef {α:Type}{t:Nat→AV}{h:C6}{e sz n:Nat}{z:List D}{ps:List (Nat×Nat×Opd)}(f:α→List D)(xs:List α)(hf: ∀a,(f a).length=sz)(hz:z.length=sz)(hn:xs.length=n)(hp:Vl t f sz 0 ps xs)(hm: ∀a,(f a).map nrm=f a):
    H4 t h (.dslice e sz n z ps)=some (.d (.list (xs.map f))):=by
  have:=Qn hf xs ps 0 [] ((Ih z n).map .d) (by simp) (by rw [lP,Tg,hz,hn]) hp
  simp only [lN]at this
  simp only [H4,this,lA,Th,lE]
  rw [← hn,Sx,Qo hf,List.map_map,show ((fun x=>List.map nrm x)∘f)=f from funext hm]
theorem Hh {α:Type}{t:Nat→AV}{u d e sz n:Nat}{z:List D}{ps:List (Nat×Nat×Opd)}(f:α→List D)(xs:List α)(hf: ∀a,(f a).length=sz)(hz:z.length=sz)(hn:xs.length=n)(hp:Vl t f sz 0 ps xs):
    Is u d t (.bslice e sz n z ps)=some (.sl (d,u), .arr e sz (xs.map f)):=by
  have:=Qn hf xs ps 0 [] ((Ih z n).map .d) (by simp) (by rw [lP,Tg,hz,hn]) hp
  simp only [lN]at this
  simp only [Is,this,lA,Th,lE]
  rw [← hn,Qo hf]
/-- A key put into a set. -/
def XQ (ks:List Int)(n:Int):List Int:=if n∈ks then ks else ks++ [n]
theorem DLe.bp {xs ys:List D}{off:Nat}(h:All2 (fun x y=>DLe x y∧y.one=true) xs ys):DLe (.bp xs off) (.bp ys off):=by
  intro w I v hv
  cases hv with
  |bp _ _ g vs ty fz hI hg hl hone hr=>
   refine .bp ys off g vs ty fz hI hg (by rw [← h.length];exact hl) (fun i d hi=> ?_) (fun i d hi=> ?_)
   ·obtain ⟨a,_,h2⟩:=h.get hi;exact h2.2
   ·obtain ⟨a,h1,h2⟩:=h.get hi;exact h2.1 _ _ _ (hr i a h1)
section
variable {P:Program}{u:Nat}{r:List AOp}{l:List (Nat×AV)}{g:List (D5×Option Blk)}{t:Nat→AV}{h:C6}
/-- Any number of elements behind a slice of the run's own, or behind nil. -/
theorem JH {K:(Nat→AV)→C6→Prop}{α:Type}{d e sz:Nat}{ty:TypeId}{x y:Opd}(f:α→List D)(k:D5)(xs ys zs:List α)(hy:X4 (G g) sz (ev (T l) y)=some (ys.map f))(hx:ev (T l) x=oS xs k)(hb:G g k=oB e sz f xs)(hl:X6 xs ys=some zs)(hn:G g (d,u)=none)
    (hk:J0 P u r (T ((d,oS zs (d,u))::l)) (G (((d,u),oB e sz f zs)::(k,none)::g)) K):J0 P u (⟨some d, .append ty e sz x y,none⟩::r) (T l) (G g) K:=by
  cases ys with
  |cons v ys=>
   refine H9 f k xs v ys zs hy hx hb hl ?_
   rw [Q7 (k:=(d,u)) (L4 hl),MV (L4 hl)]at hk
   exact hk
  |nil=>
   obtain ⟨h1,rfl⟩:=Ee hl
   cases xs with
   |nil=>
    have hy':X4 (G g) sz (ev (T l) y)=some []:=hy
    have hx':ev (T l) x= .d .nilS:=hx
    unfold J0
    simp only [gW,Uo,El,hy',hx',N2]
    have e0:G (((d,u),oB e sz f ([]:List α))::(k,none)::g)=G g:=by
      funext q
      rw [G,G]
      by_cases e1:q=(d,u)
      ·subst e1;rw [bE rfl,hn];rfl
      ·rw [bF e1]
       by_cases e2:q=k
       ·subst e2;rw [bE rfl,hb];rfl
       ·rw [bF e2]
    rw [← e0]
    exact hk
   |cons x0 xs=>
    refine Dz f k (x0::xs) [] _ hy hx hb hl ?_
    exact hk
end
end Go.Abs
namespace Go.Abs
open Go
/-! ### Functions that can be computed, and what they say of the plain ones -/
/-- What the one gives, the other one gives. -/
class Le {α:Type} (x y:Option α):Prop where
  out: ∀r,x=some r→y=some r
section
variable {α β γ σ τ:Type}
instance {x y:Option α}:CoeFun (Le x y) (fun _=> ∀r,x=some r→y=some r):=⟨fun h=>h.out⟩
instance (priority:=low) Le.refl (x:Option α):Le x x:=⟨fun _ h=>h⟩
instance Le.bind {x y:Option α}{f g:α→Option β}[h:Le x y][hf: ∀v,Le (f v) (g v)]:Le (x.bind f) (y.bind g):=by
  refine ⟨fun r hr=> ?_⟩
  cases x with
  |none=>cases hr
  |some v=>rw [h v rfl];exact hf v r hr
instance Le.cond {b:Bool}{x y x' y':Option α}[h:Le x x'][h':Le y y']:Le (cond b x y) (cond b x' y'):=by cases b<;>assumption
instance Le.ite {p:Prop}[Decidable p]{x y x' y':Option α}[h:Le x x'][h':Le y y']:Le (if p then x else y) (if p then x' else y'):=by split<;>assumption
instance Le.thenS {x x':Option (Sum σ β)}{f f':σ→Option γ}{g g':β→Option γ}[h:Le x x'][hf: ∀v,Le (f v) (f' v)][hg: ∀v,Le (g v) (g' v)]:Le (thenS x f g) (thenS x' f' g'):=by
  refine ⟨fun r hr=> ?_⟩
  cases x with
  |none=>cases hr
  |some v=>rw [h v rfl];cases v<;>first|exact hf _ r hr|exact hg _ r hr
/-- Loops that the kernel runs. -/
@[reducible] def Bs:Lp:=⟨fun f s=>loopN f 100000 s⟩
theorem Le.loopN {f f':σ→Option (Stp σ τ)}(h: ∀s,Le (f s) (f' s)): ∀(n:Nat) (s:σ),Le (loopN f n s) (loopN f' n s)
  |0,s=>⟨fun r hr=>by cases hr⟩
  |n+1,s=>⟨fun r hr=>by
   rw [Abs.loopN]at hr ⊢
   cases hf:f s with
   |none=>rw [hf]at hr;cases hr
   |some x=>
    rw [hf]at hr
    rw [h s x hf]
    cases x with
    |go s'=>exact Le.loopN h n s' r hr
    |out t=>exact hr⟩
instance Le.loop {f f':σ→Option (Stp σ τ)}[h: ∀s,Le (f s) (f' s)](s:σ):Le (@loop _ _ Bs f s) (loop f' s):=⟨fun r hr=>loop_some.2 ⟨_,Le.loopN h _ s r hr⟩⟩
theorem Le.loopLh {f f':σ→α→Option (Stp σ τ)}{e:σ→τ}(h: ∀s a,Le (f s a) (f' s a)): ∀(l:List α) (s:σ),Le (loopL f e l s) (loopL f' e l s)
  | [],s=>⟨fun r hr=>hr⟩
  |a::l,s=>⟨fun r hr=>by
   rw [Abs.loopL]at hr ⊢
   cases hf:f s a with
   |none=>rw [hf]at hr;cases hr
   |some x=>
    rw [hf]at hr
    rw [h s a x hf]
    cases x with
    |go s'=>exact Le.loopLh h l s' r hr
    |out t=>exact hr⟩
instance Le.loopL {f f':σ→α→Option (Stp σ τ)}{e:σ→τ}[h: ∀s a,Le (f s a) (f' s a)](l:List α)(s:σ):Le (loopL f e l s) (loopL f' e l s):=Le.loopLh h l s
end
end Go.Abs
/-! Short names for what the generated proofs use most. -/
namespace Go.Abs
open Go
abbrev oo (d:Nat)(k:AK):AOp:=⟨some d,k,none⟩
abbrev og (d:Nat)(k:AK)(j:Nat):AOp:=⟨some d,k,some (j,true)⟩
abbrev oh (d:Nat)(k:AK)(j:Nat):AOp:=⟨some d,k,some (j,false)⟩
abbrev oe (k:AK):AOp:=⟨none,k,none⟩
abbrev ci (n:Int):Opd:= .c (.v (.int .i64 n))
abbrev cf (n:Nat):Opd:= .c (.fn (.func n) [] [])
abbrev z0:D:= .v (.int .i64 0)
abbrev zf:D:= .v (.bool false)
abbrev di (n:Int):AV:= .d (.v (.int .i64 n))
abbrev db (b:Bool):AV:= .d (bo b)
abbrev dl {α:Type}(e:α→List D)(xs:List α):AV:= .d (.list (List.map e xs))
/-- What lies at the first key with this number. -/
def gl:List (D5×Option Blk)→Nat→Option (D5×Option Blk)
  | [],_=>none
  |(k,b)::l,d=>cond (Nat.beq k.1 d) (some (k,b)) (gl l d)
theorem NI {b:Option Blk}{k:D5}: ∀{g:List (D5×Option Blk)},gl g k.1=some (k,b)→G g k=b
  | [],h=>by cases h
  |(q,c)::l,h=>by
   unfold gl at h
   cases e:Nat.beq q.1 k.1
   ·rw [e,bD]at h
    have ne:k≠q:=by rintro rfl;simp at e
    rw [G,bF ne];exact NI h
   ·rw [e,bC]at h
    simp only [Option.some.injEq,Prod.mk.injEq]at h
    obtain ⟨rfl,rfl⟩:=h
    exact G_hit
theorem gq {d u:Nat}{b:Option Blk}{g:List (D5×Option Blk)}(h:gl g d=some ((d,u),b)):G g (d,u)=b:=NI h
theorem DN {l:List (Nat×AV)}: ∀{l0:List (Nat×AV)},l0.map (fun p=>(p.1,T l p.1))=l0→VK (T l) l0
  | [],_=>trivial
  |(i,v)::r,h=>by
   simp only [lO,List.cons.injEq,Prod.mk.injEq,true_and]at h
   exact ⟨.of h.1,DN h.2⟩
theorem DO {g:List (D5×Option Blk)}: ∀{g0:List (D5×Option Blk)},g0.map (fun p=>gl g p.1.1)=g0.map some→Vi (G g) g0
  | [],_=>trivial
  |(k,b)::r,h=>by
   simp only [lO,List.cons.injEq]at h
   refine ⟨?_,DO h.2⟩
   cases b with
   |none=>trivial
   |some b=>exact ⟨b,NI h.1, .refl b⟩
theorem G1 {l l0:List (Nat×AV)}{g g0:List (D5×Option Blk)}(h1:l0.map (fun p=>(p.1,T l p.1))=l0)(h2:g0.map (fun p=>gl g p.1.1)=g0.map some):Sb ⟨T l0,G g0⟩ ⟨T l,G g⟩:=C0 (DN h1) (DO h2)
theorem nl {a b:Nat}(h:Nat.ble a b=true):a≤b:=Nat.le_of_ble_eq_true h
theorem bs {α β:Type}{o:Option α}{f:α→Option β}{r:β}{Q:Prop}(h:o.bind f=some r)(k: ∀v,o=some v→f v=some r→Q):Q:=by
  cases o with
  |none=>cases h
  |some v=>exact k v rfl h
theorem js {σ β γ:Type}{x:Option (Sum σ β)}{f:σ→Option γ}{g:β→Option γ}{r:γ}{Q:Prop}(h:thenS x f g=some r)(k: ∀y,x=some y→Sum.elim f g y=some r→Q):Q:=by
  obtain ⟨y,h1,h2⟩:=GG h
  exact k y h1 h2
section
variable {P:Program}{N u:Nat}{rk:Option D5}{aops:List AOp}{r:List It}{l:List (Nat×AV)}{g:List (D5×Option Blk)}{K:(Nat→AV)→C6→Prop}{Q:Ex→St→Prop}{s:St}
theorem cc {α:Type}{o:Opd}{a b:AC}{c:Bool}{x y z:α}(hc:ev s.t o= .d (.v (.bool c)))(h:cond c x y=z)(h1:c=true→x=z→Di P N rk (.c a::r) Q .nrm s)(h2:c=false→y=z→Di P N rk (.c b::r) Q .nrm s):Di P N rk (.c (.cond o a b)::r) Q .nrm s:=
  TP c hc (fun e=>h1 e (L8 e h)) (fun e=>h2 e (TQ e h))
theorem sd {d:Nat}{k:AK}{v:D}(h0:U3 k=0)(hv:H4 (T l) (G g) k=some (.d v))(hk:J0 P u aops (T ((d, .d v)::l)) (G g) K):J0 P u (⟨some d,k,none⟩::aops) (T l) (G g) K:=A9 (.d v) h0 hv hk
theorem sp {d:Nat}{k:AK}{q:D5}{n:Nat}(h0:U3 k=0)(hv:H4 (T l) (G g) k=some (.ptr q n))(hk:J0 P u aops (T ((d, .ptr q n)::l)) (G g) K):J0 P u (⟨some d,k,none⟩::aops) (T l) (G g) K:=A9 (.ptr q n) h0 hv hk
theorem sq {d:Nat}{k:AK}{q:D5}{n:Nat}(hv:((U3 k,H4 (T l) (G g) k):Nat×Option AV)=(0,some (.ptr q n)))(hk:J0 P u aops (T ((d, .ptr q n)::l)) (G g) K):J0 P u (⟨some d,k,none⟩::aops) (T l) (G g) K:=A9 (.ptr q n) (congrArg Prod.fst hv) (congrArg Prod.snd hv) hk
theorem sm {d ty:Nat}{k:AK}{q:D5}{n:Nat}{cs:List AV}(hv:((Kv k,Is u d (T l) k):Bool×Option (AV×Blk))=(true,some (.ptr q n, .box ty cs)))(hk:J0 P u aops (T ((d, .ptr q n)::l)) (G (((d,u),some (.box ty cs))::g)) K):J0 P u (⟨some d,k,none⟩::aops) (T l) (G g) K:=Hf _ _ (congrArg Prod.fst hv) (congrArg Prod.snd hv) hk
theorem sn {d ty:Nat}{k:AK}{q:D5}{n:Nat}{cs:List AV}(h0:Kv k=true)(hv:Is u d (T l) k=some (.ptr q n, .box ty cs))(hk:J0 P u aops (T ((d, .ptr q n)::l)) (G (((d,u),some (.box ty cs))::g)) K):J0 P u (⟨some d,k,none⟩::aops) (T l) (G g) K:=Hf _ _ h0 hv hk
theorem sv {d:Nat}{k:AK}{v:D}(hv:((U3 k,H4 (T l) (G g) k):Nat×Option AV)=(0,some (.d v)))(hk:J0 P u aops (T ((d, .d v)::l)) (G g) K):J0 P u (⟨some d,k,none⟩::aops) (T l) (G g) K:=A9 (.d v) (congrArg Prod.fst hv) (congrArg Prod.snd hv) hk
theorem ss {d:Nat}{k:AK}{q:D5}(hv:((U3 k,H4 (T l) (G g) k):Nat×Option AV)=(0,some (.sl q)))(hk:J0 P u aops (T ((d, .sl q)::l)) (G g) K):J0 P u (⟨some d,k,none⟩::aops) (T l) (G g) K:=A9 (.sl q) (congrArg Prod.fst hv) (congrArg Prod.snd hv) hk
theorem sl {d n off:Nat}{p:Opd}{q:D5}{ty:TypeId}{cs:List AV}{v:D}(hp:ev (T l) p= .ptr q off)(hb:G g q=some (.box ty cs))(hv:(cs.drop off).head? =some (.d v))(hk:J0 P u aops (T ((d, .d v)::l)) (G g) K):J0 P u (⟨some d, .load n false p,none⟩::aops) (T l) (G g) K:=A9 (.d v) rfl (Bp hp hb hv) hk
theorem Aa {n:Nat}{p x:Opd}{k:D5}{off:Nat}{ty:TypeId}{bs cs:List AV}(hx:((Ek (ev (T l) x),cs.length,ev (T l) p):Option (List AV)×Nat×AV)=(some cs,n, .ptr k off))(hb:G g k=some (.box ty bs))(bs':List AV)(he:((Ey bs off cs,Nat.ble (off+n) bs.length):List AV×Bool)=(bs',true))
    (hk:J0 P u aops (T l) (G ((k,some (.box ty bs'))::g)) K):J0 P u (⟨none, .store n p x,none⟩::aops) (T l) (G g) K:=by
  simp only [Prod.mk.injEq]at hx he
  exact Dp _ _ _ _ _ hx.1 hx.2.1 hx.2.2 hb (Nat.le_of_ble_eq_true he.2) bs' he.1 hk
theorem gp {d j:Nat}{b w:Bool}{k:AK}{q:D5}{n:Nat}(h0:U3 k=0)(hg:UY (T l j) b w)(hv:w=true→H4 (T l) (G g) k=some (.ptr q n))(hk:J0 P u aops (T ((d,gd w true (.ptr q n))::l)) (G g) K):J0 P u (⟨some d,k,some (j,b)⟩::aops) (T l) (G g) K:=Ab w (.ptr q n) h0 hg hv hk
theorem gt {d j:Nat}{w:Bool}{k:AK}{v:D}(hg:((U3 k,T l j):Nat×AV)=(0, .d (bo w)))(hv:w=true→H4 (T l) (G g) k=some (.d v))(hk:J0 P u aops (T ((d,gd w true (.d v))::l)) (G g) K):J0 P u (⟨some d,k,some (j,true)⟩::aops) (T l) (G g) K:=Ab w (.d v) (congrArg Prod.fst hg) (J1 (congrArg Prod.snd hg)) hv hk
theorem gf {d j:Nat}{w:Bool}{k:AK}{v:D}(hg:((U3 k,T l j):Nat×AV)=(0, .d (bo w)))(hv:(!w)=true→H4 (T l) (G g) k=some (.d v))(hk:J0 P u aops (T ((d,gd (!w) true (.d v))::l)) (G g) K):J0 P u (⟨some d,k,some (j,false)⟩::aops) (T l) (G g) K:=Ab (!w) (.d v) (congrArg Prod.fst hg) (X3 (congrArg Prod.snd hg)) hv hk
theorem sa {d j x:Nat}{c q:Bool}{yo:Opd}(hj:ev (T l) (.t j)= .d (bo c))(hx:ev (T l) (.t x)=gd c true (.d (bo q)))(hy:ev (T l) yo= .d (bo false))(hk:J0 P u aops (T ((d, .d (bo (c&&q)))::l)) (G g) K):J0 P u (⟨some d, .pick (.t j) (.t x) yo,none⟩::aops) (T l) (G g) K:=A9 _ rfl (VN hj (fun hc=>by rw [hx,A5 hc]) hy) hk
theorem lr {a:AC}(h: ∀u,(∀k,G g k≠none→k.2≠u)→J0 P u aops (T l) (G g) fun t h=>Di P N rk (.c a::r) Q .nrm ⟨t,h⟩):Di P N rk (.c (.seq (.reg aops) a)::r) Q .nrm ⟨T l,G g⟩:=A3 (K8 h)
theorem B6 {a:AC}(h: ∀{u:Nat} {_: ∀k,G g k≠none→k.2≠u},J0 P u aops (T l) (G g) fun t h=>Di P N rk (.c a::r) Q .nrm ⟨t,h⟩):Di P N rk (.c (.seq (.reg aops) a)::r) Q .nrm ⟨T l,G g⟩:=lr fun u hu=> @h u hu
theorem B9 (h: ∀{u:Nat} {_: ∀k,G g k≠none→k.2≠u},J0 P u aops (T l) (G g) fun t h=>Di P N rk r Q .nrm ⟨t,h⟩):Di P N rk (.c (.reg aops)::r) Q .nrm ⟨T l,G g⟩:=K8 fun u hu=> @h u hu
theorem Q1 (hn:VG aops=true)(h: ∀{u:Nat} {_: ∀k,G g k≠none→k.2≠u},J0 P u aops (T l) (G g) fun t h=>Di P N rk r Q .nrm ⟨t,h⟩):Di P N rk (.c (.draw aops [])::r) Q .nrm ⟨T l,G g⟩:=Tc hn fun u hu=> @h u hu
end
section
variable {t:Nat→AV}{h:C6}
theorem vb {op:BinOp}{x y:Opd}{k:IntKind}{a b:Int}{v:Value}{w:Bool}(hx:ev t x=gd w true (.d (.v (.int k a))))(hy:ev t y= .d (.v (.int k b)))(hr:Yb op k a b=some v)(hw:w=true):H4 t h (.bin op x y)=some (.d (.v v)):=
  J3 (by rw [hx,A5 hw]) hy hr
theorem vl {n:Nat}{p:Opd}{k:D5}{off:Nat}{ty:TypeId}{bs:List AV}{v:AV}{w:Bool}(hp:ev t p=gd w true (.ptr k off))(hb:h k=some (.box ty bs))(hv:(bs.drop off).head? =some v)(hw:w=true):H4 t h (.load n false p)=some v:=Bp (by rw [hp,A5 hw]) hb hv
end
end Go.Abs
/-! Own memory among what a call hands out: slices that may be empty. -/
namespace Go.Abs
open Go
/-- A slice of the run's own, or one of nothing. -/
def oE {α:Type}(xs:List α)(k:D5):AV:=match xs with
  | []=> .d (.list [])
  |_=> .sl k
theorem HX {α:Type}{k:D5}{xs:List α}(h:xs≠ []):oE xs k= .sl k:=by cases xs<;>first|exact absurd rfl h|rfl
theorem oB_ren {α:Type}{ty:TypeId}{sz:Nat}{e:α→List D}{xs:List α}{f:D5→D5}:(oB ty sz e xs).map (Gb f)=oB ty sz e xs:=by cases xs<;>rfl
theorem JI {α:Type}(xs:List α)(k:D5):Ek (oE xs k)=some [oE xs k]:=by cases xs<;>rfl
section
variable {t:Nat→AV}{h:C6}
theorem NJ {α:Type}{sz:Nat}{x i:Opd}{f:α→List D}{q:D5}{ty:TypeId}{xs:List α}{k:IntKind}{n:Int}{a:α}(hx:ev t x=oE xs q)(hi:ev t i= .d (.v (.int k n)))(hb:h q=oB ty sz f xs)(hv:E8 xs n=some a):H4 t h (.idxS sz x i)=some (.aptr q sz n.toNat 0):=
  Ob (hx.trans (HX (Ie hv))) hi (BD hb (Ie hv)) hv
theorem UB {α:Type}{x:Opd}{f:α→List D}{q:D5}{ty:TypeId}{sz:Nat}{xs:List α}(hx:ev t x=oE xs q)(hb:h q=oB ty sz f xs):H4 t h (.len x)=some (.d (i64 xs.length)):=by
  cases xs with
  |nil=>simp only [H4,hx,oE,lL]
  |cons a xs=>exact Fa (f:=f) hx hb
theorem VQ {α:Type}{n:Nat}{k:D5}{ty:TypeId}{sz:Nat}{f:α→List D}{xs:List α}(hb:h k=oB ty sz f xs):J7 h (n+1) (oE xs k)=some (.list (xs.map f)):=by
  cases xs with
  |nil=>rfl
  |cons x xs=>exact Wr hb
end
/-- What hands out data hands out no memory. -/
theorem MCall.ofP {P:Program}{f:FuncId}{ds:List D}{r:D}(hp:PCall P f ds r):MCall P f (ds.map .d) [] (.d r) [] [none]:=by
  refine ⟨by simp [SR,WT,TX,QW],hp.1,fun w I ρ vs H hlen hrep=> ?_⟩
  refine (hp.2 w I vs H.ilt (by simpa using hlen) (fun i d hi=> ?_)).mono ?_
  ·have:=hrep i (.d d) (by rw [lI,hi];rfl)
   cases this with|d _ _ h=>exact h
  rintro e w' ⟨x,I',rfl,hr,tr⟩
  have hno: ∀g,¬own ρ (G (Pk 0 [])) g:=by rintro g ⟨k,b,h1,_⟩;cases h1
  have H2:HeapOK w' I' ρ (G (Pk 0 [])):=H.keep (fun g hg=>absurd hg (hno g)) (fun b hb=>tr.frame b (H.ilt b hb)) tr.imm (fun g hg=>absurd hg (hno g)) tr.ilt (fun _ _ h=>h) tr.size H.fresh H.rone
  refine ⟨x, .d r,I',ρ,G (Pk 0 []),rfl, .d _ _ hr,H2,⟨tr.os,tr.tape,tr.output,tr.size,fun b hb _=>tr.frame b hb,tr.imm,fun b hb hl=> .inl (tr.immBack b hb hl),fun b hb _=>hb,fun _ _ h=>h⟩,fun j=>NB j,rfl,fun i b hb=>by simp at hb,fun j b hb=> ?_,fun j hj i hi=>absurd hi (by simp),fun j j' hj hj' e=> ?_⟩
  ·cases j<;>simp at hb
  ·simp only [lJ,lL]at hj hj'
   omega
theorem AVle.tup {xs ys:List AV}(h:All2 AVle xs ys):AVle (.tup xs) (.tup ys):=by
  intro w I ρ v hv
  cases hv with
  |tup _ vs hl hr=>
   refine .tup _ vs (h.length▸hl) (fun i c hc=> ?_)
   obtain ⟨a,e1,e2⟩:=h.get hc
   exact e2 _ _ _ _ (hr i a e1)
theorem Mg {α:Type}{u S j:Nat}{f:D5→D5}{ty:TypeId}{sz:Nat}{e:α→List D}{xs:List α}{r:List (Option Blk)}{L:List (D5×Option Blk)}(h:Oc u S f (j+1) r=L):Oc u S f j (oB ty sz e xs::r)=((S+j,u),oB ty sz e xs)::L:=by
  rw [Oc,oB_ren,h]
theorem Zo {P:Program}{u:Nat}{l:List (Nat×AV)}{g:List (D5×Option Blk)}{S:Nat}{f:Opd}{args:List Opd}{fid:FuncId}{avs avs0:List AV}{pre:List Blk}{v v':AV}{post:List (Option Blk)}{new:List (Option Blk)}(hM:MCall P fid avs0 pre v post new)(κs ks us:List D5)(g':List (D5×Option Blk))
    (hc:Q9 (T l) f args=some (fid,avs)) (hle:All2 AVle avs (avs0.map (Yf (U5 (Ea κs) (Ea κs))))) (hks:avs.flatMap (O9 (G g) 6)=ks) (hlive: ∀q∈ks,G g q≠none)
    (hpre:JE (G g) κs (pre.map (Gb (U5 (Ea κs) (Ea κs))))) (hsub: ∀k∈κs,k∈ks) (hnd:κs.Nodup) (hv:BG (U5 (Ea κs) fun j=>(S+j,u)) v=v')
    (hus:(Kf (Ea κs) (U5 (Ea κs) fun j=>(S+j,u)) 0 post++Oc u S (U5 (Ea κs) fun j=>(S+j,u)) 0 new).map (·.1)=us) {L:List (D5×Option Blk)} (hL:Oc u S (U5 (Ea κs) fun j=>(S+j,u)) 0 new=L)
    (hg:N2 (G g) (Kf (Ea κs) (U5 (Ea κs) fun j=>(S+j,u)) 0 post++L)=G g'):OC P u l g S f args v' ks us g':=
  BH hM κs ks us g' hc hle hks hlive hpre hsub hnd hv hus (by rw [hL];exact hg)
theorem Q2 {d u:Nat}(h:(Nat.blt d 900000||Nat.blt 901000 d)=true){i:Nat}(hi:i<1000):(d,u)≠X7 i:=by
  simp only [bH,Nat.blt_eq]at h
  intro e
  simp only [X7,Prod.mk.injEq]at e;omega
theorem R6 {n:Nat}{v v1:AV}{post new:List (Option Blk)}{h:C6}(σs:List D5)(hv:v1=BG (U5 X7 (Ea σs)) v)(hpost:HW h (U5 X7 (Ea σs)) 0 post)(hnew:RA h (U5 X7 (Ea σs)) σs new)
    (hl:(σs.length,Nat.ble n 1000)=(new.length,true)) (hd: ∀k∈σs,∀i,i<1000→k≠X7 i) (hnd:σs.Nodup):Rs n v post new v1 h:=by
  simp only [Prod.mk.injEq,Nat.ble_eq]at hl
  have hget: ∀j,j<new.length→Ea σs j∈σs:=by
    intro j hj
    simp only [Ea,List.getD,lG (show j<σs.length by omega),Option.getD_some]
    exact List.getElem_mem _
  refine ⟨Ea σs,hv,fun i b hb=> ?_,fun j b hb=>Wv hnew hb,fun j hj i hi=>hd _ (hget j hj) i (by omega),fun j j' hj hj' e=> ?_⟩
  ·have:=Tf hpost hb
   rwa [bR]at this
  ·simp only [Ea,List.getD,lG (show j<σs.length by omega),lG (show j'<σs.length by omega),Option.getD_some]at e
   exact Te hnd (by omega) (by omega) e
end Go.Abs
/-! Own memory becomes data, wherever that is wanted. -/
namespace Go.Abs
open Go
/-- A value, where the blocks at some keys have become data (h holds these). -/
def WK (h:C6)(x y:AV):Prop:=AVle x y∨∃d d',J7 h 6 x=some d∧DLe d d'∧y= .d d'
def VR (h:C6)(ks:List D5)(k:D5)(b:Blk):Prop:=k∉ks∧∃b0,h k=some b0∧(b0=b∨∃ty cs cs',b0= .box ty cs∧b= .box ty cs'∧All2 (WK (S3 h ks)) cs cs')
def WL (I:Nat→Prop)(ρ:Rho)(h:C6)(ks:List D5):Nat→Prop:=fun b=>I b∨own ρ (S3 h ks) b
section
variable {w:World}{I:Nat→Prop}{ρ:Rho}{h:C6}{ks:List D5}
theorem Hi {q:D5}{b:Blk}(hq:S3 h ks q=some b):h q=some b∧q∈ks:=by
  have:(if q∈ks then h q else none)=some b:=hq
  split at this
  ·exact ⟨this,‹_›⟩
  ·cases this
theorem RD (H:HeapOK w I ρ h){x y:AV}{v:Value}(hf:WK (S3 h ks) x y)(hx:RepV w I ρ x v):RepV w (WL I ρ h ks) ρ y v:=by
  rcases hf with q|⟨d,d',h1,h2,rfl⟩
  ·exact (q _ _ _ _ hx).keep (fun _ _=>rfl) (fun _ h=> .inl h) (fun _ _ h=>h)
  ·have Hk:=H.sub fun q b hq=>(Hi (ks:=ks) hq).1
   exact .d _ _ (h2 _ _ _ (Gp Hk 6 x d v hx h1))
theorem Ru {k:D5}{b b0:Blk}(q:b0=b∨∃ty cs cs',b0= .box ty cs∧b= .box ty cs'∧All2 (WK (S3 h ks)) cs cs'):K1 ρ k b=K1 ρ k b0:=by
  rcases q with rfl|⟨ty,cs,cs',rfl,rfl,_⟩<;>rfl
theorem RE (H:HeapOK w I ρ h){h':C6}(hh: ∀k b,h' k=some b→VR h ks k b):HeapOK w (WL I ρ h ks) ρ h':=by
  have Hk:=H.sub fun q b hq=>(Hi (ks:=ks) hq).1
  refine ⟨fun k b hb=> ?_,fun k k' b b' g h1 h2 h3 h4=> ?_,fun k b g h1 h2 hi=> ?_,fun k b g h1 h2=> ?_,fun b hb=> ?_,H.fresh,H.rone⟩
  ·obtain ⟨_,b0,e1,rfl|⟨ty,cs,cs',rfl,rfl,ha⟩⟩:=hh k b hb
   ·exact (H.blk k b0 e1).keep (fun _ _=>rfl) (fun _ _=>rfl) (fun _ h=> .inl h) (fun _ _ h=>h)
   ·obtain ⟨g,vs,b1,b2,b3,b4,b5⟩:=H.blk k _ e1
    refine ⟨g,vs,b1,b2,by rw [← ha.length];exact b3,b4,fun i c hc=> ?_⟩
    obtain ⟨x,g1,g2⟩:=ha.get hc
    exact RD H g2 (b5 i x g1)
  ·obtain ⟨_,b0,e1,q⟩:=hh k b h1
   obtain ⟨_,b1,e2,q'⟩:=hh k' b' h2
   rw [Ru q]at h3
   rw [Ru q']at h4
   exact H.sep k k' b0 b1 g e1 e2 h3 h4
  ·obtain ⟨n,b0,e1,q⟩:=hh k b h1
   rw [Ru q]at h2
   rcases hi with hi|⟨k',b',e2,e3⟩
   ·exact H.notI k b0 g e1 h2 hi
   ·obtain ⟨e4,e5⟩:=Hi e2
    have:=H.sep k k' b0 b' g e1 e4 h2 e3
    subst this
    exact n e5
  ·obtain ⟨n,b0,e1,q⟩:=hh k b h1
   rw [Ru q]at h2
   exact H.lt k b0 g e1 h2
  ·rcases hb with hb|hb
   ·exact H.ilt b hb
   ·exact Hk.own_lt hb
theorem UC {h':C6}(hh: ∀k b,h' k=some b→VR h ks k b){g:Nat}(ho:own ρ h' g):own ρ h g:=by
  obtain ⟨k,b,h1,h2⟩:=ho
  obtain ⟨_,b0,e1,q⟩:=hh k b h1
  exact ⟨k,b0,e1,by rw [← Ru q];exact h2⟩
theorem VS {h':C6}(hh: ∀k b,h' k=some b→VR h ks k b):Tr w I ρ h w (WL I ρ h ks) ρ h':=
  ⟨rfl,rfl,rfl,bO _,fun _ _ _=>rfl,fun _ h=> .inl h,fun _ hb _=>hb.imp id fun ⟨k,c,a1,a2⟩=>⟨k,c,(Hi a1).1,a2⟩,fun _ hb _=>UC hh hb,fun _ _ h=>h⟩
end
section
variable {P:Program}{N:Nat}{rk:Option D5}{s:St}{Q:Ex→St→Prop}
end
def XR (h:C6)(t:Nat→AV):List (Nat×AV)→Prop
  | []=>True
  |(i,v)::r=>WK h (t i) v∧XR h t r
def XS (h:C6)(ks:List D5):List (D5×Option Blk)→Prop
  | []=>True
  |(k,b)::r=>(match b with|some b=>VR h ks k b|none=>True)∧XS h ks r
section
variable {P:Program}{N:Nat}{rk:Option D5}{r:List It}{Q:Ex→St→Prop}{l:List (Nat×AV)}{g:List (D5×Option Blk)}
end
theorem BI {k:D5}:k∉ ([]:List D5):=by simp
theorem Oz {k q:D5}{ks:List D5}(h:k≠q)(hr:k∉ks):k∉q::ks:=by simp [h,hr]
/-- What is handed in becomes data, and what is handed out is the run's own. -/
theorem FCall.fr {P:Program}{u S:Nat}{f:FuncId}{avs:List AV}{ds ds':List D}{v:AV}{ups:List (D5×Option Blk)}{h0:C6}(hF:FCall P u S f (ds'.map .d) (fun _=>none) v ups)(hd:L7 (J7 h0 6) avs=some ds)(hle:All2 DLe ds ds')(_hu: ∀k∈ups.map (·.1),∃j,j<6∧k=(S+j,u)):
    FCall P u S f avs (S3 h0 (avs.flatMap (O9 h0 6))) v ((avs.flatMap (O9 h0 6)).map (fun k=>(k,none))++ups):=by
  refine ⟨hF.1,fun w I ρ h vs H hh hlen hrep hfr=> ?_⟩
  have hlive:=Ud avs ds hd
  have heq: ∀q∈avs.flatMap (O9 h0 6),h q=h0 q:=by
    intro q hq
    cases hb:h0 q with
    |none=>exact absurd hb (hlive q hq)
    |some b=>exact hh q b (by unfold S3;rw [bE hq,hb])
  have hd':L7 (J7 h 6) avs=some ds:=by rw [← hd];exact Ma avs heq
  rw [← Uc avs heq]
  clear hd hh heq hlive
  generalize hks:avs.flatMap (O9 h 6)=ks at*
  let hf:C6:=fun q=>if q∈ks then none else h q
  have hff: ∀k b,hf k=some b→VR h ks k b:=by
    intro q b hq
    have:(if q∈ks then none else h q)=some b:=hq
    split at this
    ·cases this
    ·exact ⟨‹_›,b,this, .inl rfl⟩
  have hU:N2 h (ks.map fun k=>(k,none))=hf:=by
    funext q
    show _=if q∈ks then none else h q
    by_cases e:q∈ks
    ·rw [bE e]
     cases hb:N2 h (ks.map fun k=>(k,none)) q with
     |none=>rfl
     |some b=>
      rcases Td _ _ _ _ hb with ⟨a,_⟩|a
      ·exact absurd (by simp only [List.map_map,List.mem_map,Function.comp];exact ⟨q,e,rfl⟩) a
      ·simp at a
    ·rw [bF e,Cn]
     simp only [List.map_map,List.mem_map,Function.comp]
     rintro ⟨x,hx,rfl⟩
     exact e hx
  have hUU: ∀(a b:List (D5×Option Blk)) (h:C6),N2 h (a++b)=N2 (N2 h a) b:=by
    intro a
    induction a with
    |nil=>intro b h;rfl
    |cons x a ih=>intro b h;obtain ⟨k,c⟩:=x;exact ih b _
  have H1:=RE (ks:=ks) H hff
  have hk:L7 (J7 (S3 h ks) 6) avs=some ds:=by
    rw [← hd']
    refine Ma avs fun q hq=> ?_
    rw [hks]at hq
    show (if q∈ks then h q else none)=h q
    rw [bE hq]
  obtain ⟨l1,l2⟩:=Do hk
  have Hk:=H.sub fun q b hq=>(Hi (ks:=ks) hq).1
  refine (hF.2 w (WL I ρ h ks) ρ hf vs H1 (fun q b hq=>by cases hq) (by rw [lP,← hle.length];omega) (fun i c hc=> ?_) hfr).mono ?_
  ·obtain ⟨d',e1,rfl⟩:=Vg hc
   obtain ⟨d,e2,e3⟩:=hle.get e1
   obtain ⟨x,e4,e5⟩:=l2 i d e2
   exact .d _ _ (e3 _ _ _ (Gp Hk 6 x d _ (hrep i x e4) e5))
  rintro e w' ⟨x,I',ρ',rfl,r1,r2,r3,r4⟩
  rw [hUU,hU]
  exact ⟨x,I',ρ',rfl,r1,r2,(VS hff).trans r3,r4⟩
section
variable {P:Program}{u:Nat}{l:List (Nat×AV)}{g:List (D5×Option Blk)}
end
end Go.Abs
/-! Functions as data: a list of functions, one of which is chosen. -/
namespace Go.Abs
open Go
/-- A function, or none, as data. -/
def fnD:Option Nat→D
  |some f=> .fn (.func f) [] []
  |none=> .v .nilFunc
def XT (l:List (Option Nat))(n:Int):Option Nat:=if 0≤n then (l[n.toNat]?).join else none
/-- One of two functions. -/
theorem Ti {α:Type}{v a:Nat}{x y:Option α}{r:α}(h:cond (Nat.beq v a) x y=some r):v=a∧x=some r∨Nat.beq v a=false∧y=some r:=by
  cases e:Nat.beq v a
  ·rw [e]at h;exact .inr ⟨rfl,h⟩
  ·rw [e]at h;exact .inl ⟨Nat.eq_of_beq_eq_true e,h⟩
end Go.Abs
namespace Go.Abs
open Go
/-- Elements put into a list at a place. -/
def WM {α:Type}(xs:List α)(i:Int)(ys:List α):Option (List α):=if xs.length≠0∧ys.length≠0∧0≤i∧i≤xs.length∧xs.length+ys.length≤1000000000 then some (xs.take i.toNat++ys++xs.drop i.toNat)else none
/-- The contract of slices.Insert at a type, as it is used. -/
def XU (P:Program)(f:FuncId)(e sz:Nat):Prop:= ∀(xs ys:List (List D)) (i:Nat),xs≠ []→ys≠ []→i≤xs.length→xs.length+ys.length≤1000000000→
  MCall P f [.sl (900000,0), .d (.v (.int .i64 i)), .sl (900001,0)] [.arr e sz xs, .arr e sz ys] (.sl (800000,0)) [none,none] [some (.arr e sz (xs.take i++ys++xs.drop i))]
theorem VT {g:List (D5×Option Blk)}{k:D5}{b:Option Blk}(h:G g k=b):G g=G ((k,b)::g):=by
  funext q
  rw [G]
  split
  ·rename_i e;rw [e];exact h
  ·rfl
end Go.Abs
/-! Shorter proofs: the resolved code need not be written, chains of equal parts. -/
namespace Go.Abs
open Go
/-- What the conversion finds of a function: where its results lie, and its code. -/
def SS (P:Program)(fn:Func)(N:Nat)(M:Wk):Option (List RV×AC):=
  match fn.results.toList.mapM (Wm P),fn.body with
  |some rs,some c=>match V3 P N M c,fn.name== "runtime.NumGoroutine" with
   |some ac,false=>some (rs,ac)
   |_,_=>none
  |_,_=>none
theorem fk {P:Program}{f:FuncId}{fn:Func}{N:Nat}{rs:List RV}{ac:AC}(h:P.funcs[f]? =some fn)(hn:fn.ntmps=N)(M:Wk)(hc:SS P fn N M=some (rs,ac)):FnOK P f N rs ac:=by
  unfold SS at hc
  split at hc
  ·rename_i rs' c hr hb
   split at hc
   ·rename_i ac' hac hx
    simp only [Option.some.injEq,Prod.mk.injEq]at hc
    obtain ⟨rfl,rfl⟩:=hc
    exact ⟨fn,c,h,hb,hn,hr,⟨M,hac⟩,hx⟩
   ·cases hc
  ·cases hc
def m0:Wk:=fun _=> []
theorem rD {h:C6}{n:Nat}{x:D}{r:List AV}{ds:List D}(h2:L7 (J7 h n) r=some ds):L7 (J7 h n) (.d x::r)=some (x::ds):=J5 D4 h2
theorem ca {x:D}{xs ys:List D}(hx:x.one=true)(h:All2 (fun x y=>DLe x y∧y.one=true) xs ys):All2 (fun x y=>DLe x y∧y.one=true) (x::xs) (x::ys):= .cons ⟨.refl _,hx⟩ h
theorem cz: ∀{xs:List D} (_:xs.all D.one=true),All2 (fun x y=>DLe x y∧y.one=true) xs xs
  | [],_=> .nil
  |_::_,h=>by
   simp only [List.all_cons,bG]at h
   exact ca h.1 (cz h.2)
theorem cv {x:AV}{xs ys:List AV}(h:All2 AVle xs ys):All2 AVle (x::xs) (x::ys):= .cons (.of rfl) h
theorem cw: ∀{xs:List AV},All2 AVle xs xs
  | []=> .nil
  |_::_=>cv cw
abbrev zs (n:Nat):List AV:=List.replicate n (di 0)
theorem sg {g g0:List (D5×Option Blk)}{d u:Nat}{b:Blk}(h:gl g d=some ((d,u),some b))(r:Vi (G g) g0):Vi (G g) (((d,u),some b)::g0):=B7 (gq h) (.of rfl) r
end Go.Abs
/-! Arrays of values, indexed by what is only known as the program runs. -/
namespace Go.Abs
open Go
def JJ {α:Type}(xs:List α)(n:Int)(a:α):Option (List α):=if 0≤n∧n.toNat<xs.length then some (xs.set n.toNat a)else none
theorem Zp {α:Type}{xs v:List α}{n:Int}{a:α}(h:JJ xs n a=some v):(0≤n∧n.toNat<xs.length)∧v=xs.set n.toNat a:=by
  unfold JJ at h
  split at h
  ·exact ⟨‹_›,(lC h).symm⟩
  ·cases h
theorem HY {α:Type}{xs:List α}{n:Int}{a:α}(h:E8 xs n=some a):0≤n∧n.toNat<xs.length∧xs[n.toNat]? =some a:=by
  unfold E8 at h
  split at h
  ·exact ⟨‹_›,(lH.1 h).1,h⟩
  ·cases h
theorem DP {α:Type}{f:α→List D}{sz:Nat}(hs: ∀x,(f x).length=sz): ∀{xs:List α} {i:Nat} {a:α},xs[i]? =some a→(((xs.map f).flatten).drop (i*sz)).take sz=f a∧(i+1)*sz≤((xs.map f).flatten).length
  | [],_,_,h=>by simp at h
  |x::r,0,a,h=>by
   simp only [List.getElem?_cons_zero,Option.some.injEq]at h
   subst h
   simp only [lO,List.flatten_cons,Nat.zero_mul,List.drop_zero,bR,Nat.one_mul,lK,hs]
   refine ⟨?_,by omega⟩
   rw [← hs x,List.take_left]
  |x::r,i+1,a,h=>by
   simp only [List.getElem?_cons_succ]at h
   obtain ⟨h1,h2⟩:=DP hs h
   simp only [lO,List.flatten_cons,lK,hs]
   rw [Nat.succ_mul i sz,Nat.add_comm (i*sz) sz,← hs x,List.drop_append,hs x]
   simp only [Nat.add_sub_cancel_left]
   rw [List.drop_eq_nil_of_le (by rw [hs x];omega),lN]
   exact ⟨h1,by rw [Nat.succ_mul (i+1) sz];omega⟩
section
variable {t:Nat→AV}{h:C6}
theorem Rv {α:Type}{len sz:Nat}{x i:Opd}{k:D5}{off:Nat}{kd:IntKind}{n:Int}{xs:List α}{a:α}(hx:ev t x= .ptr k off)(hi:ev t i= .d (.v (.int kd n)))(hv:E8 xs n=some a)(hl:xs.length=len):H4 t h (.idxP len sz x i)=some (.ptr k (off+n.toNat*sz)):=by
  obtain ⟨h0,h1,_⟩:=HY hv
  simp only [H4,hx,hi]
  rw [bE ⟨h0,hl▸h1⟩]
theorem NK {α:Type}{sz off:Nat}{bs:List AV}{n:Int}{xs:List α}{a:α}{f:α→List D}(hs: ∀x,(f x).length=sz)(hv:E8 xs n=some a)(hb:(bs.drop off).take (xs.length*sz)=((xs.map f).flatten).map AV.d):
    sz≤(bs.drop (off+n.toNat*sz)).length∧(bs.drop (off+n.toNat*sz)).take sz=(f a).map .d:=by
  obtain ⟨h0,h1,h2⟩:=HY hv
  obtain ⟨g1,g2⟩:=DP hs h2
  have hlen:=congrArg List.length hb
  rw [lP,lS,lT]at hlen
  rw [bQ,Nat.one_mul]at g2
  have hle:((xs.map f).flatten).length≤xs.length*sz:=by omega
  have hge:(n.toNat+1)*sz≤xs.length*sz:=Nat.mul_le_mul_right _ h1
  rw [bQ,Nat.one_mul]at hge
  refine ⟨by rw [lT];omega,?_⟩
  have:(((bs.drop off).take (xs.length*sz)).drop (n.toNat*sz)).take sz=((((xs.map f).flatten).map AV.d).drop (n.toNat*sz)).take sz:=by rw [hb]
  rw [List.drop_take,List.take_take,List.drop_drop,← List.map_drop,← List.map_take,g1,Nat.min_eq_left (by omega)]at this
  exact this
theorem NL {α:Type}{sz off:Nat}{p:Opd}{k:D5}{ty:TypeId}{bs:List AV}{n:Int}{xs:List α}{a:α}{f:α→List D}{v:AV}(hp:ev t p= .ptr k (off+n.toNat*sz))(hb:h k=some (.box ty bs))(hv:E8 xs n=some a)(hs: ∀x,(f x).length=sz)(hc:(bs.drop off).take (xs.length*sz)=((xs.map f).flatten).map AV.d)(hr:Ao ((f a).map .d)=v):H4 t h (.load sz true p)=some v:=by
  obtain ⟨h1,h2⟩:=NK hs hv hc
  simp only [H4,hp,T1,hb,if_true,h1,h2,hr]
theorem Xa {α:Type}{off:Nat}{p:Opd}{k:D5}{ty:TypeId}{bs:List AV}{n:Int}{xs:List α}{a:α}{f:α→D}(hp:ev t p= .ptr k (off+n.toNat*1))(hb:h k=some (.box ty bs))(hv:E8 xs n=some a)(hc:(bs.drop off).take (xs.length*1)=((xs.map fun x=> [f x]).flatten).map AV.d):H4 t h (.load 1 false p)=some (.d (f a)):=by
  obtain ⟨h1,h2⟩:=NK (f:=fun x=> [f x]) (fun _=>rfl) hv hc
  simp only [H4,hp,T1,hb,Bool.false_eq_true,if_false]
  cases hd:bs.drop (off+n.toNat*1)with
  |nil=>rw [hd]at h2;cases h2
  |cons x r=>rw [hd]at h2;simp only [List.take_succ_cons,List.take_zero,lO,List.map_nil,List.cons.injEq,and_true]at h2;rw [h2];rfl
end
theorem VU {α:Type}{xs v:List α}{n:Int}{a:α}{bs:List AV}(h:JJ xs n a=some v)(e:bs.length=xs.length):0+n.toNat*1+1≤bs.length:=by
  have:=(Zp h).1
  omega
theorem NM {α:Type}(v:List α)(z:α):(List.range v.length).map (fun j=>v.getD j z)=v:=by
  apply List.ext_getElem?
  intro i
  rw [lI]
  by_cases h:i<v.length
  ·simp [h]
  ·simp [h]
theorem UD {α:Type}{xs v:List α}{n:Int}{a:α}(g:α→D)(z:α)(h:JJ xs n a=some v):Ey (xs.map fun x=>AV.d (g x)) (0+n.toNat*1) [AV.d (g a)]=(List.range xs.length).map fun j=>AV.d (g (v.getD j z)):=by
  obtain ⟨⟨h0,h1⟩,rfl⟩:=Zp h
  have e:xs.length=(xs.set n.toNat a).length:=by rw [List.length_set]
  rw [e,show (fun j=>AV.d (g ((xs.set n.toNat a).getD j z)))=(fun x=>AV.d (g x))∘fun j=>(xs.set n.toNat a).getD j z from rfl,← List.map_map,NM]
  simp only [Ey,bR,Nat.mul_one]
  rw [List.map_set]
theorem DQ {P:Program}{u:Nat}{r:List AOp}{l:List (Nat×AV)}{g:List (D5×Option Blk)}{K:(Nat→AV)→C6→List (List D5×List D5)→Prop}{α:Type}{n off sz:Nat}{p x:Opd}(f:α→List D)(q:D5)(ty:TypeId)(xs:List α)(i:Int)(a b:α)(ds:List D)(hx:Ek (ev (T l) x)=some (ds.map .d))(hn:ds.length=n)(hp:ev (T l) p= .aptr q sz i.toNat off)(hb:G g q=some (.arr ty sz (xs.map f)))(ha:E8 xs i=some a)
    (hl:off+n≤(f a).length) (he:Ey (f a) off ds=f b) (hk:Ij P u r (T l) (G ((q,some (.arr ty sz ((Lj xs i b).map f)))::g)) fun t' h' tr=>K t' h' ((Bc (T l) (G g) (.store n p x),[q])::tr)):Ij P u (⟨none, .store n p x,none⟩::r) (T l) (G g) K:=by
  unfold Ij
  have h1:(ds.map AV.d).length=n:=by simpa using hn
  have h2:(xs.map f).set i.toNat (f b)=(Lj xs i b).map f:=by rw [Lj,List.map_set]
  simp only [gW,Uo,El,hx,h1,if_true,hp,hb,(Jq (f:=f) ha).2.2,Rp ds,hl,and_self,he,h2]
  exact hk
def NN (k:IntKind)(a b:Int):Option Int:=if b<0 then none else some (k.wrap (a*2^ (min b.toNat k.bits)))
def RF (k:IntKind)(a b:Int):Option Int:=if b<0 then none else some (a.fdiv (2^ (min b.toNat k.bits)))
theorem VV {t:Nat→AV}{h:C6}{x y:Opd}{k k':IntKind}{a b v:Int}(hx:ev t x= .d (.v (.int k a)))(hy:ev t y= .d (.v (.int k' b)))(hv:NN k a b=some v):H4 t h (.bin .shl x y)=some (.d (.v (.int k v))):=by
  unfold NN at hv
  split at hv
  ·cases hv
  ·rename_i h1;cases hv;simp only [H4,hx,hy,Lw,Bool.true_or,if_true,Yb,bF h1,lE]
theorem VW {t:Nat→AV}{h:C6}{x y:Opd}{k k':IntKind}{a b v:Int}(hx:ev t x= .d (.v (.int k a)))(hy:ev t y= .d (.v (.int k' b)))(hv:RF k a b=some v):H4 t h (.bin .shr x y)=some (.d (.v (.int k v))):=by
  unfold RF at hv
  split at hv
  ·cases hv
  ·rename_i h1;cases hv;simp only [H4,hx,hy,Lw,Bool.true_or,if_true,Yb,bF h1,lE]
end Go.Abs
namespace Go.Abs
open Go
section
variable {P:Program}
end
end Go.Abs
/-! Any number of elements, appended in a region that draws its order. -/
namespace Go.Abs
open Go
section
variable {P:Program}{u:Nat}{r:List AOp}{l:List (Nat×AV)}{g:List (D5×Option Blk)}
end
end Go.Abs
/-! Strings. -/
namespace Go.Abs
open Go
def XV (s:ByteArray)(i:Int):Option Int:=if 0≤i then (s.data.toList[i.toNat]?).map fun b=>(b.toNat:Int)else none
def XW (a b:ByteArray):Option ByteArray:=if a.size+b.size≤1000000000 then some (a++b)else none
def XX (s:ByteArray)(i j:Int):Option ByteArray:=if 0≤i∧i≤j∧j≤s.size then some (s.extract i.toNat j.toNat)else none
section
variable {t:Nat→AV}{h:C6}{x y z:Opd}{s s' v:ByteArray}{k k':IntKind}{i j:Int}
end
end Go.Abs
/-! A list that may be empty: the two cases. -/
namespace Go.Abs
open Go
/-- Runs of equal numbers become one. -/
def GJ:List Int→List Int
  | []=> []
  | [x]=> [x]
  |x::y::r=>cond (x==y) (GJ (y::r)) (x::GJ (y::r))
def VX (p:List Int):Option (List Int):=match p with
  | []=>none
  |x::r=>some (GJ (x::r))
end Go.Abs
/-! Calls whose code is run in place: what is the run's own is shared with them. -/
namespace Go.Abs
open Go
section
variable {P:Program}{u:Nat}{r:List AOp}{l:List (Nat×AV)}{g:List (D5×Option Blk)}{K:(Nat→AV)→C6→Prop}
/-- What the code that is run in place has to leave. -/
def XY {γ:Type}(rs:List RV)(J:AV→γ→List (Nat×AV)×List (D5×Option Blk)→Prop)(l1:γ→List (Nat×AV))(g1:γ→List (D5×Option Blk))(e:Ex)(s:St):Prop:=
  (e= .nrm∨e= .ret)∧∃v gg,Qh s.t s.h rs=some v∧J v gg (l1 gg,g1 gg)∧Vi s.h (g1 gg)
def XZ {γ:Type}(t:AV→Nat→AV)(v:AV)(_:γ)(x:List (Nat×AV)×List (D5×Option Blk)):Prop:=VK (t v) x.1
end
end Go.Abs
/-! Ranges over a function that looks at what is the run's own. -/
namespace Go.Abs
open Go
section
variable {P:Program}{N:Nat}{rk:Option D5}{s:St}{Q:Ex→St→Prop}{r:List It}
/-- Such a function: as long as the blocks hold what it looks at, it hands on the elements, one after the other. -/
def XG (P:Program)(c:AV)(Rq:C6→Prop)(L:List (List D)):Prop:= ∃gf fs cs,ML c=some (gf,fs,cs)∧∀(k:D5) (h0:C6) (Inv:Nat→C6→Prop) (Stop:C6→Prop),Inv 0 h0→(∀i h,Inv i h→∃h1,Sb ⟨T [],h1⟩ ⟨T [],h⟩∧Inv i h1∧Rq h1)→
  (∀i h es,L[i]? =some es→Inv i h→YCall P k (es.map .d) h fun v h'=>(v= .d (.v (.bool true))∧Inv (i+1) h')∨(v= .d (.v (.bool false))∧Stop h'))→
   ICall P gf (fs++ [.yld k]++cs) h0 fun _ h'=>Inv L.length h'∨Stop h'
end
section
variable {P:Program}{u:Nat}{r:List AOp}{t:Nat→AV}{h:C6}{K:(Nat→AV)→C6→Prop}
end
section
variable {P:Program}{N:Nat}{rk:Option D5}{s:St}{Q:Ex→St→Prop}{r:List It}
end
end Go.Abs
/-! Slices of the run's own that may hold nothing and yet not be nil. -/
namespace Go.Abs
open Go
/-- A slice of the run's own; b: it is not nil, though it may hold nothing. -/
def oW {α:Type}(b:Bool)(xs:List α)(k:D5):AV:=match xs with
  | []=>cond b (.sl k) (.d .nilS)
  |_=> .sl k
def wB {α:Type}(b:Bool)(ty:TypeId)(sz:Nat)(f:α→List D)(xs:List α):Option Blk:=match xs with
  | []=>cond b (some (.arr ty sz [])) none
  |_=>some (.arr ty sz (xs.map f))
section
variable {α:Type}{b:Bool}{xs:List α}{k:D5}{ty:TypeId}{sz:Nat}{f:α→List D}{h:C6}
theorem UE:oW true xs k= .sl k:=by cases xs<;>rfl
theorem oW_f:oW false xs k=oS xs k:=by cases xs<;>rfl
theorem RG:wB true ty sz f xs=some (.arr ty sz (xs.map f)):=by cases xs<;>rfl
theorem RH:wB false ty sz f xs=oB ty sz f xs:=by cases xs<;>rfl
def wD (b:Bool)(f:α→List D)(xs:List α):D:=cond b (.list (xs.map f)) (oD f xs)
theorem Rw:DLe (wD b f xs) (.list (xs.map f)):=by
  cases b
  ·exact Cw
  ·exact .refl _
theorem Rx {n:Nat}(hb:h k=wB b ty sz f xs):J7 h (n+1) (oW b xs k)=some (wD b f xs):=by
  cases b
  ·rw [oW_f];rw [RH]at hb;exact Cx hb
  ·rw [UE];rw [RG]at hb;exact Wr hb
theorem S5 {l:List (D5×Option Blk)}(h1:h k=wB b ty sz f xs)(hl:Vi h l):Vi h ((k,wB b ty sz f xs)::l):=by
  cases b
  ·rw [RH]at h1 ⊢;exact C7 h1 hl
  ·rw [RG]at h1 ⊢;exact B7 h1 (.refl _) hl
theorem BJ {l:List (D5×Option Blk)}(h1:h k=oB ty sz f xs)(hl:Vi h l):Vi h ((k,wB false ty sz f xs)::l):=by
  rw [RH];exact C7 h1 hl
theorem Pa (b:Bool)(xs:List α)(k:D5):Ek (oW b xs k)=some [oW b xs k]:=by cases b<;>cases xs<;>rfl
end
section
variable {P:Program}{u:Nat}{r:List AOp}{l:List (Nat×AV)}{g:List (D5×Option Blk)}
theorem JK {K:(Nat→AV)→C6→Prop}{α:Type}{d e sz:Nat}{ty:TypeId}{x y:Opd}(f:α→List D)(b:Bool)(k:D5)(xs ys zs:List α)(hy:X4 (G g) sz (ev (T l) y)=some (ys.map f))(hx:ev (T l) x=oW b xs k)(hb:G g k=wB b e sz f xs)(hl:X6 xs ys=some zs)(hn:G g (d,u)=none)
    (hk:J0 P u r (T ((d,oW b zs (d,u))::l)) (G (((d,u),wB b e sz f zs)::(k,none)::g)) K):J0 P u (⟨some d, .append ty e sz x y,none⟩::r) (T l) (G g) K:=by
  cases b
  ·rw [oW_f]at hx hk;rw [RH]at hb hk;exact JH f k xs ys zs hy hx hb hl hn hk
  ·rw [UE]at hx hk;rw [RG]at hb hk;exact Dz f k xs ys zs hy hx hb hl hk
/-- A call that grows nil. -/
theorem RI {S:Nat}{fo:Opd}{args:List Opd}{fid:FuncId}{n:Int}{α:Type}{b:Bool}{ty:TypeId}{sz:Nat}{e:α→List D}(hM:MCall P fid [.d .nilS, .d (i64 n)] [] (oW b ([]:List α) (800000,0)) [] [wB b ty sz e ([]:List α)])
    (hc:Q9 (T l) fo args=some (fid,[.d .nilS, .d (i64 n)])):OC P u l g S fo args (oW b ([]:List α) (S,u)) [] [(S,u)] (((S,u),wB b ty sz e ([]:List α))::g):=by
  cases b
  ·exact BH hM [] [] [(S,u)] _ hc Es rfl Bz trivial (fun _ h=>h) List.nodup_nil rfl rfl rfl
  ·exact BH hM [] [] [(S,u)] _ hc Es rfl Bz trivial (fun _ h=>h) List.nodup_nil rfl rfl rfl
end
/-- How much a slice is grown by. -/
def DR (n:Int):Option Unit:=if 0≤n∧n≤1000000 then some ()else none
theorem NO {n:Int}{v:Unit}(h:DR n=some v):0≤n∧n≤1000000:=by
  unfold DR at h
  split at h
  ·assumption
  ·cases h
end Go.Abs
/-! Slices of one's own slices; a row of a table, added, dropped or changed. -/
namespace Go.Abs
open Go
section
variable {P:Program}{N:Nat}{rk:Option D5}{s:St}{Q:Ex→St→Prop}
/-- Another name for what is the run's own. -/
theorem RJ {c:Code}{i:Nat}{k:D5}{ty:TypeId}{sz:Nat}{es:List (List D)}(hi:s.t i= .sl k)(hb:s.h k=some (.arr ty sz es))
    (h: ∀u',(∀q,s.h q≠none→q.2≠u')→AWc P N rk c ⟨U4 s.t i (.sl (700000,u')),U4 (U4 s.h k none) (700000,u') (some (.arr ty sz es))⟩ Q):AWc P N rk c s Q:=by
  intro w I ρ a hs ro hro
  obtain ⟨u',hu,hfk⟩:=hs.fresh_u
  obtain ⟨x,xs,hx,hrow,hes,hat⟩:=hs.heap.blk k _ hb
  obtain ⟨H',T'⟩:=Zd (q:=(700000,u')) (x:=x) (b':= .arr ty sz es) hs.heap hb (hu 700000) (hs.heap.rone k x hx) (fun ρ' hρ'=>by simp only [K1,hρ',hx]) (fun ρ' _ hρ'=>⟨x,xs,hρ',hrow,hes,hat⟩)
  have hs1:=hs.step H' T'
  have hs2:Sim w I (U4 ρ (700000,u') (some x)) N ⟨U4 s.t i (.sl (700000,u')),U4 (U4 s.h k none) (700000,u') (some (.arr ty sz es))⟩ a:=⟨hs1.size,hs1.defers,fun j=>by
    by_cases e:j=i
    ·subst e
     have:=hs.tmp j
     rw [hi]at this
     show RepV _ _ _ (U4 s.t j _ j) _
     rw [E0]
     generalize a.tmps.getD j undef=y at this
     cases this with|sl _ _ hq=>rw [hx]at hq;cases hq;exact .sl _ _ (E0 _ _ _)
    ·show RepV _ _ _ (U4 s.t i _ j) _
     rw [H5 _ _ _ _ e];exact hs1.tmp j,H'⟩
  refine (h u' hfk w _ _ a hs2 ro ?_).mono ?_
  ·exact hro.mono T'.rho
  rintro e a' w' ⟨s',I',ρ',hq,hs',htr,hnd⟩
  exact ⟨s',I',ρ',hq,hs',T'.trans htr,hnd⟩
end
section
variable {P:Program}{N:Nat}{rk:Option D5}{r:List It}{Q:Ex→St→Prop}{l:List (Nat×AV)}{g:List (D5×Option Blk)}
theorem Ug {a:AC}(i:Nat)(k:D5){ty:TypeId}{sz:Nat}{es:List (List D)}(hi:T l i= .sl k)(hb:G g k=some (.arr ty sz es))
    (h: ∀u',Di P N rk (.c a::r) Q .nrm ⟨T ((i, .sl (700000,u'))::l),G (((700000,u'),some (.arr ty sz es))::(k,none)::g)⟩):Di P N rk (.c a::r) Q .nrm ⟨T l,G g⟩:=
  fun M c hc=>RJ (s:=⟨T l,G g⟩) hi hb fun u' _=>by
    have:=h u' M c hc
    rw [MG,Qj,Qj]at this
    exact this
end
section
variable {P:Program}{u:Nat}{r:List AOp}{l:List (Nat×AV)}{g:List (D5×Option Blk)}
theorem Ry {K:(Nat→AV)→C6→Prop}{α:Type}{d e sz:Nat}{x y:Opd}(f:α→List D)(k:D5)(xs zs:List α){n:Int}(hx:ev (T l) x= .sl k)(hb:G g k=some (.arr e sz (xs.map f)))(hy:ev (T l) y=di n)(hz:Rn xs 0 n=some zs)
    (hk:J0 P u r (T ((d, .sl (d,u))::l)) (G (((d,u),some (.arr e sz (zs.map f)))::(k,none)::g)) K):J0 P u (⟨some d, .oslice sz x none (some y) none,none⟩::r) (T l) (G g) K:=by
  obtain ⟨_,h1,h2,rfl⟩:=Zi hz
  refine Oy (by simp [U3]) ?_
  have hbd:Af (T l) (xs.map f).length (some y)=some n.toNat:=by simp only [Af,hy,di];rw [bE h1]
  have hj:n.toNat≤(xs.map f).length:=by rw [lP];omega
  simp only [gW,Uo,El,hx,hb,hbd,hj,and_self,if_true]
  rw [Int.toNat_zero,List.drop_zero,List.map_take,MG,Qj,Qj]at hk
  exact hk
end
/-- What an edit makes of the rows of a table. -/
def Eb {α:Type}(kind i:Int)(xs:List α)(v:α):Option (List α×Bool):=
  cond ((kind==1)&& (i==(xs.length:Int))) ((X6 xs [v]).bind fun l=>some (l,true))
    (cond (((kind==2)&&decide ((xs.length:Int)>0))&& (i==H6 ((xs.length:Int) - 1))) ((Rn xs 0 i).bind fun l=>some (l,true))
      (cond (((kind==3)&&decide (i≥0))&&decide (i< (xs.length:Int))) ((E8 xs i).bind fun _=>some (Lj xs i v,true)) (some (xs,false))))
def wb {α:Type}(b:Bool)(xs:List α):Bool:=b|| !xs.isEmpty
structure EditC (P:Program)(f:FuncId)(e sz:Nat){α β:Type}(E:α→List D)(B:β→List D)(kd at_:β→Int):Prop where
  m: ∀(xs zs:List α) (x:β) (v:α) (ok:Bool),Eb (kd x) (at_ x) xs v=some (zs,ok)→MCall P f [.sl (900000,0), .d (.agg (B x)), .d (.agg (E v))] [.arr e sz (xs.map E)] (.tup [.sl (800000,0), .d (bo ok)]) [none] [some (.arr e sz (zs.map E))]
  n: ∀(zs:List α) (x:β) (v:α) (ok:Bool),Eb (kd x) (at_ x) [] v=some (zs,ok)→MCall P f [.d .nilS, .d (.agg (B x)), .d (.agg (E v))] [] (.tup [oS zs (800000,0), .d (bo ok)]) [] [oB e sz E zs]
section
variable {P:Program}{u:Nat}{r:List AOp}{l:List (Nat×AV)}{g:List (D5×Option Blk)}
theorem Vm {S e sz:Nat}{fo:Opd}{args:List Opd}{fid:FuncId}{α β:Type}{E:α→List D}{B:β→List D}{kd at_:β→Int}(hE:EditC P fid e sz E B kd at_){b:Bool}{xs zs:List α}{x:β}{v:α}{ok:Bool}{k0:D5}
    (h:Eb (kd x) (at_ x) xs v=some (zs,ok)) (hc:Q9 (T l) fo args=some (fid,[oW b xs k0, .d (.agg (B x)), .d (.agg (E v))])) (hb:G g k0=wB b e sz E xs):
    ∃ks us,OC P u l g S fo args (.tup [oW (wb b xs) zs (S,u), .d (bo ok)]) ks us (((S,u),wB (wb b xs) e sz E zs)::(k0,none)::g):=by
  have main:oW b xs k0= .sl k0→wb b xs=true→G g k0=some (.arr e sz (xs.map E))→∃ks us,OC P u l g S fo args (.tup [oW (wb b xs) zs (S,u), .d (bo ok)]) ks us (((S,u),wB (wb b xs) e sz E zs)::(k0,none)::g):=by
    intro h1 h2 h3
    rw [h1]at hc
    rw [h2,UE,RG]
    exact ⟨_,_,BH (hE.m xs zs x v ok h) [k0] [k0] _ _ hc Es rfl (Gr h3 Bz) ⟨⟨_,h3, .of rfl⟩,trivial⟩ (fun _ h=>h) nd1 rfl rfl rfl⟩
  cases xs with
  |cons a xs=>cases b<;>exact main rfl rfl hb
  |nil=>
   cases b
   ·have hn:=hE.n zs x v ok h
    refine ⟨_,_,BH hn [] [] [(S,u)] _ hc Es rfl Bz trivial (fun _ h=>h) List.nodup_nil ?_ ?_ ?_⟩
    ·cases zs<;>rfl
    ·rfl
    ·have e0:G ((k0,none)::g)=G g:=(VT (hb.trans rfl)).symm
     cases zs<;>(show U4 (G g) _ _=_;rw [Qj,e0];rfl)
   ·exact main rfl rfl hb
theorem Fy {α:Type}{t:Nat→AV}{h:C6}{x:Opd}(hx:ev t x= .d .nilS):H4 t h (.len x)=some (.d (i64 (([]:List α).length:Int))):=by simp only [H4,hx];rfl
theorem WN {k:D5}{ks:List D5}(h:k∉ks)(hl:ks.Nodup):(k::ks).Nodup:=List.nodup_cons.2 ⟨h,hl⟩
theorem HZ {K:(Nat→AV)→C6→Prop}{d S:Nat}{f:Opd}{args:List Opd}{v:AV}{g':List (D5×Option Blk)}(h: ∃ks us,OC P u l g S f args v ks us g')(hk:J0 P u r (T ((d,v)::l)) (G g') K):J0 P u (⟨some d, .ocall S f args,none⟩::r) (T l) (G g) K:=by
  obtain ⟨ks,us,h⟩:=h
  exact DL h hk
end
end Go.Abs
