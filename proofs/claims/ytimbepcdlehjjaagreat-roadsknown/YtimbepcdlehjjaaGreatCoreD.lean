/-
  An abstract layer over the machine, fourth part: contracts that alter what is handed in; functions that can be computed.
-/
import Derived.Test.YtimbepcdlehjjaaGreatCoreC
namespace Go.Abs
open Go
def Z3 (i:Nat):D7:=(900000+i,0)
def KR (j:Nat):D7:=(800000+j,0)
def X5 (ko kn:Nat→D7)(q:D7):D7:=cond (Nat.ble 900000 q.1) (ko (q.1 - 900000)) (kn (q.1 - 800000))
def EA (n m:Nat)(q:D7):Bool:=q.2==0&& (Nat.ble 900000 q.1&&Nat.blt (q.1 - 900000) n||Nat.ble 800000 q.1&& !Nat.ble 900000 q.1&&Nat.blt (q.1 - 800000) m)
theorem GI {n m:Nat}{q:D7}(h:EA n m q=true):(∃i,i<n∧q=Z3 i)∨∃j,j<m∧j<100000∧q=KR j:=by
  obtain ⟨a,b⟩:=q;simp only [EA,l6,l7,l8,Nat.ble_eq,Nat.blt_eq,Bool.not_eq_true',Bool.eq_false_iff,ne_eq]at h;obtain ⟨rfl,h|h⟩:=h
  ·exact .inl ⟨a - 900000,h.2,by simp only [Z3,Prod.mk.injEq,and_true];omega⟩
  ·exact .inr ⟨a - 800000,h.2,by omega,by simp only [KR,Prod.mk.injEq,and_true];omega⟩
theorem DP (ko kn:Nat→D7)(i:Nat):X5 ko kn (Z3 i)=ko i:=by
  simp only [X5,Z3];rw [show Nat.ble 900000 (900000+i)=true by simp,cond_true,Nat.add_sub_cancel_left]
theorem KS (ko kn:Nat→D7){j:Nat}(h:j<100000):X5 ko kn (KR j)=kn j:=by
  simp only [X5,KR];rw [show Nat.ble 900000 (800000+j)=false by rw [Bool.eq_false_iff,ne_eq,Nat.ble_eq];omega,cond_false,Nat.add_sub_cancel_left]
theorem DQ {i j:Nat}(h:Z3 i=Z3 j):i=j:=by simp only [Z3,Prod.mk.injEq]at h;omega
def Zn (f:D7→D7):AV→AV
  | .ptr k o=> .ptr (f k) o
  | .sl k=> .sl (f k)
  | .bsl k n=> .bsl (f k) n
  |x=>x
def Zo (f:D7→D7):AV→AV
  | .agg cs=> .agg (cs.map (Zn f))
  | .fn g fs cs=> .fn g (fs.map (Zn f)) (cs.map (Zn f))
  |x=>Zn f x
def BZ (f:D7→D7):AV→AV
  | .tup cs=> .tup (cs.map (Zo f))
  |x=>Zo f x
def NR (p:D7→Bool):AV→Bool
  | .ptr k _=>p k
  | .sl k=>p k
  | .bsl k _=>p k
  | .d _=>true
  | .any=>true
  |_=>false
def QD (p:D7→Bool):AV→Bool
  | .agg cs=>cs.all (NR p)
  | .fn _ fs cs=>fs.all (NR p)&&cs.all (NR p)
  |x=>NR p x
def RR (p:D7→Bool):AV→Bool
  | .tup cs=>cs.all (QD p)
  |x=>QD p x
def Ik (f:D7→D7):Blk→Blk
  | .box ty cs=> .box ty (cs.map (Zn f))
  |b=>b
def QS (p:D7→Bool):Blk→Bool
  | .box _ cs=>cs.all (NR p)
  | .arr _ _ _=>true
  | .obj _ _=>false
  | .mp _=>true
section
variable {w:World}{I:Nat→Prop}{ρ ρ':Rho}{p:D7→Bool}{f g:D7→D7}
theorem Us {α β:Type}{q:α→Bool}{l:List α}{h:α→β}{i:Nat}{c:β}(ha:l.all q=true)(hc:(l.map h)[i]? =some c): ∃x,q x=true∧l[i]? =some x∧h x=c:=by
  obtain ⟨x,hx,e⟩:=Xg hc;exact ⟨x,lU.1 ha x (lF hx),hx,e⟩
theorem Mz {α β:Type}{h:α→β}{l:List α}{i:Nat}{x:α}(hx:l[i]? =some x):(l.map h)[i]? =some (h x):=by rw [lI,hx];rfl
theorem KT {x:AV}{v:Value}(hp:NR p x=true)(h:RepV w I ρ (Zn f x) v)(hk: ∀q y,p q=true→ρ (f q)=some y→ρ' (g q)=some y):RepV w I ρ' (Zn g x) v:=by
  cases x with
  |ptr k o=>cases h with|ptr _ _ b h=>exact .ptr _ _ _ (hk k _ hp h)
  |sl k=>cases h with|sl _ _ h=>exact .sl _ _ (hk k _ hp h)
  |bsl k n=>cases h with|bsl _ _ b h=>exact .bsl _ _ _ (hk k _ hp h)
  |d y=>cases h with|d _ _ h=>exact .d _ _ h
  |any=>exact .any _
  |_=>simp [NR]at hp
theorem KU {x:AV}{v:Value}(hp:QD p x=true)(h:RepV w I ρ (Zo f x) v)(hk: ∀q y,p q=true→ρ (f q)=some y→ρ' (g q)=some y):RepV w I ρ' (Zo g x) v:=by
  cases x with
  |agg cs=>
   cases h with
   |agg _ vs hl hone hr=>
    refine .agg _ vs (by simpa using hl) (fun i hi=>hone i (by simpa using hi)) (fun i c hc=> ?_);obtain ⟨x,h1,h2,rfl⟩:=Us hp hc;exact KT h1 (hr i _ (Mz h2)) hk
  |fn q fs cs=>
   simp only [QD,l6]at hp;cases h with
   |fn _ _ _ vfs vcs hl hl' hr hr'=>
    refine .fn _ _ _ vfs vcs (by simpa using hl) (by simpa using hl') (fun i c hc=> ?_) (fun i c hc=> ?_)
    ·obtain ⟨x,h1,h2,rfl⟩:=Us hp.1 hc;exact KT h1 (hr i _ (Mz h2)) hk
    ·obtain ⟨x,h1,h2,rfl⟩:=Us hp.2 hc;exact KT h1 (hr' i _ (Mz h2)) hk
  |any=>exact KT (p:=p) (f:=f) (x:= .any) hp h hk
  |d y=>exact KT (p:=p) (f:=f) (x:= .d y) hp h hk
  |ptr k o=>exact KT (p:=p) (f:=f) (x:= .ptr k o) hp h hk
  |sl k=>exact KT (p:=p) (f:=f) (x:= .sl k) hp h hk
  |bsl k n=>exact KT (p:=p) (f:=f) (x:= .bsl k n) hp h hk
  |aptr k a b c=>exact KT (p:=p) (f:=f) (x:= .aptr k a b c) hp h hk
  |yld k=>exact KT (p:=p) (f:=f) (x:= .yld k) hp h hk
  |tup cs=>simp [QD,NR]at hp
theorem SL {x:AV}{v:Value}(hp:RR p x=true)(h:RepV w I ρ (BZ f x) v)(hk: ∀q y,p q=true→ρ (f q)=some y→ρ' (g q)=some y):RepV w I ρ' (BZ g x) v:=by
  cases x with
  |tup cs=>
   cases h with
   |tup _ vs hl hr=>
    refine .tup _ vs (by simpa using hl) (fun i c hc=> ?_);obtain ⟨x,h1,h2,rfl⟩:=Us hp hc;exact KU h1 (hr i _ (Mz h2)) hk
  |any=>exact KU (p:=p) (f:=f) (x:= .any) hp h hk
  |d y=>exact KU (p:=p) (f:=f) (x:= .d y) hp h hk
  |ptr k o=>exact KU (p:=p) (f:=f) (x:= .ptr k o) hp h hk
  |sl k=>exact KU (p:=p) (f:=f) (x:= .sl k) hp h hk
  |bsl k n=>exact KU (p:=p) (f:=f) (x:= .bsl k n) hp h hk
  |aptr k a b c=>exact KU (p:=p) (f:=f) (x:= .aptr k a b c) hp h hk
  |yld k=>exact KU (p:=p) (f:=f) (x:= .yld k) hp h hk
  |agg cs=>exact KU (p:=p) (f:=f) (x:= .agg cs) hp h hk
  |fn a b c=>exact KU (p:=p) (f:=f) (x:= .fn a b c) hp h hk
theorem SC {b:Blk}{k k':D7}(hp:QS p b=true)(h:BlkOK w I ρ k (Ik f b))(hkk: ∀y,ρ k=some y→ρ' k'=some y)(hk: ∀q y,p q=true→ρ (f q)=some y→ρ' (g q)=some y):BlkOK w I ρ' k' (Ik g b):=by
  cases b with
  |box ty cs=>
   obtain ⟨b,vs,h1,h2,h3,h4,h5⟩:=h;refine ⟨b,vs,hkk _ h1,h2,by simpa using h3,h4,fun i c hc=> ?_⟩;obtain ⟨x,g1,g2,rfl⟩:=Us hp hc;exact KT g1 (h5 i _ (Mz g2)) hk
  |arr ty sz es=>obtain ⟨x,xs,h1,h2⟩:=h;exact ⟨x,xs,hkk _ h1,h2⟩
  |mp ks=>obtain ⟨g,es,clock,h1,h2⟩:=h;exact ⟨g,es,clock,hkk _ h1,h2⟩
  |obj=>simp [QS]at hp
theorem NS (x:AV):Zn id x=x:=by cases x<;>rfl
theorem DR:Zn id=id:=funext NS
theorem NT (x:AV):Zo id x=x:=by
  cases x<;>simp only [Zo,DR,List.map_id]
  all_goals rfl
theorem NU (b:Blk):Ik id b=b:=by cases b<;>simp only [Ik,DR,List.map_id]
theorem Ax {k:D7}(b:Blk):M2 ρ k (Ik f b)=M2 ρ k b:=by cases b<;>rfl
theorem Iu {k k':D7}(b:Blk)(h:ρ' k'=ρ k):M2 ρ' k' b=M2 ρ k b:=by cases b<;>simp [M2,h]
end
def Qm:Nat→List Blk→List (D7×Option Blk)
  |_,[]=> []
  |i,b::r=>(Z3 i,some b)::Qm (i+1) r
theorem DS: ∀{l:List Blk} {i:Nat} {q:D7} {b:Blk},G (Qm i l) q=some b→∃j,q=Z3 (i+j)∧l[j]? =some b
  | [],i,q,b,h=>by cases h
  |x::r,i,q,b,h=>by
   rw [Qm,G]at h;by_cases e:q=Z3 i
   ·rw [l4 e]at h;cases h;exact ⟨0,e,rfl⟩
   ·rw [l5 e]at h;obtain ⟨j,h1,h2⟩:=DS h;exact ⟨j+1,by rw [h1];congr 1;omega,by simpa using h2⟩
def OT (avs:List AV)(pre:List Blk)(v:AV)(post:List (Option Blk))(new:List (Option Blk)):Bool:=
  post.length==pre.length&&Nat.ble new.length 6&&avs.all (QD (EA pre.length 0))&&pre.all (QS (EA pre.length 0))&&RR (EA pre.length new.length) v&&post.all (fun b=>match b with|some b=>QS (EA pre.length new.length) b|none=>true)&&new.all (fun b=>match b with|some b=>QS (EA pre.length new.length) b|none=>true)
def Ut (n:Nat)(v:AV)(post:List (Option Blk))(new:List (Option Blk))(v':AV)(h':C7):Prop:=
  ∃σ:Nat→D7,v'=BZ (X5 Z3 σ) v∧(∀i b,post[i]? =some (some b)→h' (Z3 i)=some (Ik (X5 Z3 σ) b))∧(∀j b,new[j]? =some (some b)→h' (σ j)=some (Ik (X5 Z3 σ) b))∧
   (∀j,j<new.length→∀i,i<n→σ j≠Z3 i)∧∀j j',j<new.length→j'<new.length→σ j=σ j'→j=j'
structure MCall (P:Program)(f:FuncId)(avs:List AV)(pre:List Blk)(v:AV)(post:List (Option Blk))(new:List (Option Blk)):Prop where
  ok:OT avs pre v post new=true
  call:ICall P f avs (G (Qm 0 pre)) (Ut pre.length v post new)
def Nr (κ:Nat→D7)(f:D7→D7):Nat→List (Option Blk)→List (D7×Option Blk)
  |_,[]=> []
  |i,b::r=>(κ i,b.map (Ik f))::Nr κ f (i+1) r
def Rm (u S:Nat)(f:D7→D7):Nat→List (Option Blk)→List (D7×Option Blk)
  |_,[]=> []
  |j,b::r=>((S+j,u),b.map (Ik f))::Rm u S f (j+1) r
theorem Yt {κ:Nat→D7}{f:D7→D7}: ∀{l:List (Option Blk)} {i:Nat} {x:D7×Option Blk},x∈Nr κ f i l→∃j b,l[j]? =some b∧x=(κ (i+j),b.map (Ik f))
  | [],i,x,h=>by simp [Nr]at h
  |b::r,i,x,h=>by
   rw [Nr,lQ]at h;rcases h with rfl|h
   ·exact ⟨0,b,rfl,rfl⟩
   ·obtain ⟨j,b',h1,rfl⟩:=Yt h;exact ⟨j+1,b',by simpa using h1,by rw [show i+ (j+1)=i+1+j by omega]⟩
theorem Yu {u S:Nat}{f:D7→D7}: ∀{l:List (Option Blk)} {i:Nat} {x:D7×Option Blk},x∈Rm u S f i l→∃j b,l[j]? =some b∧x=((S+ (i+j),u),b.map (Ik f))
  | [],i,x,h=>by simp [Rm]at h
  |b::r,i,x,h=>by
   rw [Rm,lQ]at h;rcases h with rfl|h
   ·exact ⟨0,b,rfl,rfl⟩
   ·obtain ⟨j,b',h1,rfl⟩:=Yu h;exact ⟨j+1,b',by simpa using h1,by rw [show i+ (j+1)=i+1+j by omega]⟩
theorem Sl: ∀(ups:List (D7×Option Blk)) (h:C7) (q:D7) (b:Option Blk),Q0 h ups q=b→(q∉ups.map (·.1)∧h q=b)∨(q,b)∈ups
  | [],h,q,b,hb=> .inl ⟨by simp,hb⟩
  |(k,c)::r,h,q,b,hb=>by
   rw [Q0]at hb;rcases Sl r _ q b hb with ⟨h1,h2⟩|h1
   ·by_cases e:q=k
    ·subst e;rw [C8]at h2;exact .inr (by rw [h2];simp)
    ·rw [K5 _ _ _ _ e]at h2;exact .inl ⟨by simp at h1 ⊢;exact ⟨e,h1⟩,h2⟩
   ·exact .inr (by simp [h1])
theorem MCall.frame {P:Program}{f:FuncId}{avs:List AV}{pre:List Blk}{v:AV}{post:List (Option Blk)}{new:List (Option Blk)}{u S:Nat}(hM:MCall P f avs pre v post new)(κ:Nat→D7)
    (hinj: ∀i i',i<pre.length→i'<pre.length→κ i=κ i'→i=i') (preH:C7) (hpre: ∀i b,pre[i]? =some b→preH (κ i)=some (Ik (X5 κ κ) b)):
    FCall P u S f (avs.map (Zo (X5 κ κ))) preH (BZ (X5 κ fun j=>(S+j,u)) v) (Nr κ (X5 κ fun j=>(S+j,u)) 0 post++Rm u S (X5 κ fun j=>(S+j,u)) 0 new):=by
  have hok:=hM.ok;simp only [OT,l6,l8,Nat.ble_eq]at hok;obtain ⟨⟨⟨⟨⟨⟨hlenP,hlenN⟩,okA⟩,okP⟩,okV⟩,okPo⟩,FT⟩:=hok;refine ⟨hM.call.1,fun w I ρ h vs H hp hlen hrep hfr=> ?_⟩;have hh: ∀i b,pre[i]? =some b→h (κ i)=some (Ik (X5 κ κ) b):=fun i b hb=>hp _ _ (hpre i b hb);have hρ: ∀i,i<pre.length→∃y,ρ (κ i)=some y:=fun i hi=>(H.blk _ _ (hh i _ (lG hi))).rho
  let ρ0:Rho:=fun q=>if EA pre.length 0 q=true then ρ (X5 κ κ q)else none
  have hρ0: ∀i,i<pre.length→ρ0 (Z3 i)=ρ (κ i):=by
    intro i hi;show (if EA pre.length 0 (Z3 i)=true then _ else _)=_;rw [l4 (by simp [EA,Z3,hi]),DP]
  have hk0: ∀q y,EA pre.length 0 q=true→ρ (X5 κ κ q)=some y→ρ0 (id q)=some y:=by
    intro q y hq hy;show (if EA pre.length 0 q=true then _ else _)=_;rw [l4 hq];exact hy
  have hdom: ∀q b,G (Qm 0 pre) q=some b→∃i,i<pre.length∧q=Z3 i∧pre[i]? =some b∧h (κ i)=some (Ik (X5 κ κ) b)∧M2 ρ0 q b=M2 ρ (κ i) (Ik (X5 κ κ) b):=by
    intro q b hq;obtain ⟨i,rfl,h2⟩:=DS hq;rw [bE];have hi:i<pre.length:=(lH.1 h2).1;exact ⟨i,hi,rfl,h2,hh i b h2,by rw [Ax];exact Iu b (hρ0 i hi)⟩
  have H0:HeapOK w I ρ0 (G (Qm 0 pre)):=by
    refine ⟨fun q b hq=> ?_,fun q q' b b' g h1 h2 h3 h4=> ?_,fun q b g h1 h2=> ?_,fun q b g h1 h2=> ?_,H.ilt,⟨1,fun d x hx=> ?_⟩,fun q y hy=> ?_⟩
    ·obtain ⟨i,hi,rfl,h2,h3,_⟩:=hdom q b hq;have:=SC (f:=X5 κ κ) (g:=id) (ρ':=ρ0) (k':=Z3 i) (lU.1 okP b (lF h2)) (H.blk _ _ h3) (fun y hy=>by rw [hρ0 i hi];exact hy) hk0
     rwa [NU]at this
    ·obtain ⟨i,hi,rfl,_,a3,a4⟩:=hdom q b h1;obtain ⟨j,hj,rfl,_,b3,b4⟩:=hdom q' b' h2;rw [a4]at h3;rw [b4]at h4;rw [hinj i j hi hj (H.sep _ _ _ _ g a3 b3 h3 h4)]
    ·obtain ⟨i,hi,rfl,_,a3,a4⟩:=hdom q b h1;rw [a4]at h2;exact H.notI _ _ g a3 h2
    ·obtain ⟨i,hi,rfl,_,a3,a4⟩:=hdom q b h1;rw [a4]at h2;exact H.lt _ _ g a3 h2
    ·show (if EA pre.length 0 (d,x)=true then _ else _)=none;rw [l5];intro e;rcases GI e with ⟨i,_,e⟩|⟨j,hj,_⟩
     ·simp only [Z3,Prod.mk.injEq]at e;omega
     ·omega
    ·have hy':(if EA pre.length 0 q=true then ρ (X5 κ κ q)else none)=some y:=hy;split at hy'
     ·exact H.rone _ y hy'
     ·cases hy'
  have hown0: ∀g,own ρ0 (G (Qm 0 pre)) g→own ρ h g:=by
    rintro g ⟨q,b,h1,h2⟩;obtain ⟨i,hi,rfl,_,a3,a4⟩:=hdom q b h1;exact ⟨κ i,_,a3,by rw [← a4];exact h2⟩
  have hown1: ∀k b g,h k=some b→(∀i,i<pre.length→k≠κ i)→M2 ρ k b=some g→¬own ρ0 (G (Qm 0 pre)) g:=by
    rintro k b g hk hne hl ⟨q,b',h1,h2⟩;obtain ⟨i,hi,rfl,_,a3,a4⟩:=hdom q b' h1;rw [a4]at h2;exact hne i hi (H.sep _ _ _ _ g hk a3 hl h2)
  have hκS: ∀i j,i<pre.length→j<6→κ i≠(S+j,u):=by
    intro i j hi hj e;obtain ⟨y,hy⟩:=hρ i hi;rw [e,hfr j hj]at hy;cases hy
  refine (hM.call.2 w I ρ0 vs H0 (by simpa using hlen) (fun i c hc=> ?_)).mono ?_
  ·have hc':=hrep i _ (Mz hc);have:=KU (g:=id) (ρ':=ρ0) (lU.1 okA c (lF hc)) hc' hk0
   rwa [NT]at this
  rintro e w' ⟨x,v',I',ρ0',h',rfl,hv',H',T',σ,rfl,hpost,hnew,hσo,hσi⟩
  let ρ1:Rho:=fun q=>if q.2=u∧S≤q.1∧q.1<S+new.length then ρ0' (σ (q.1 - S))else ρ q
  have hle0: ∀i,i<pre.length→ρ0' (Z3 i)=ρ (κ i):=by
    intro i hi;obtain ⟨y,hy⟩:=hρ i hi;rw [hy];exact T'.rho _ _ (by rw [hρ0 i hi];exact hy)
  have hρ1n: ∀j,j<new.length→ρ1 (S+j,u)=ρ0' (σ j):=by
    intro j hj;show (if u=u∧S≤S+j∧S+j<S+new.length then _ else _)=_;rw [l4 ⟨rfl,by omega,by omega⟩];simp
  have hρ1o: ∀q,(∀j,j<new.length→q≠(S+j,u))→ρ1 q=ρ q:=by
    rintro ⟨a,b⟩ hq;show (if b=u∧S≤a∧a<S+new.length then _ else _)=_;rw [l5];rintro ⟨rfl,h1,h2⟩;exact hq (a - S) (by omega) (by simp only [Prod.mk.injEq,and_true];omega)
  have hρ1κ: ∀i,i<pre.length→ρ1 (κ i)=ρ (κ i):=fun i hi=>hρ1o _ fun j hj=>hκS i j hi (by omega)
  have hle1:ρ.le ρ1:=by
    intro k y hy;rw [hρ1o]
    ·exact hy
    ·rintro j hj rfl;rw [hfr j (by omega)]at hy;cases hy
  have hk1: ∀q y,EA pre.length new.length q=true→ρ0' (X5 Z3 σ q)=some y→ρ1 (X5 κ (fun j=>(S+j,u)) q)=some y:=by
    intro q y hq hy;rcases GI hq with ⟨i,hi,rfl⟩|⟨j,hj,hj',rfl⟩
    ·rw [DP]at hy ⊢;rw [hρ1κ i hi,← hle0 i hi];exact hy
    ·rw [KS _ _ hj']at hy ⊢;rw [hρ1n j hj];exact hy
  have htouch: ∀k b,(k,some b)∈Nr κ (X5 κ fun j=>(S+j,u)) 0 post++Rm u S (X5 κ fun j=>(S+j,u)) 0 new→
   ∃q b0,QS (EA pre.length new.length) b0=true∧h' q=some (Ik (X5 Z3 σ) b0)∧b=Ik (X5 κ fun j=>(S+j,u)) b0∧ρ1 k=ρ0' q∧((∃i,i<pre.length∧q=Z3 i∧k=κ i)∨∃j,j<new.length∧q=σ j∧k=(S+j,u)):=by
    intro k b hm;rcases lP.1 hm with hm|hm
    ·obtain ⟨i,b0,h1,h2⟩:=Yt hm;rw [bE]at h2;cases b0 with
     |none=>simp at h2
     |some b0=>
      simp only [lE,Prod.mk.injEq,Option.some.injEq]at h2;obtain ⟨rfl,rfl⟩:=h2;have hi:i<pre.length:=by rw [← hlenP];exact (lH.1 h1).1
      exact ⟨Z3 i,b0,lU.1 okPo (some b0) (lF h1),hpost i b0 h1,rfl,by rw [hρ1κ i hi,hle0 i hi], .inl ⟨i,hi,rfl,rfl⟩⟩
    ·obtain ⟨j,b0,h1,h2⟩:=Yu hm;rw [bE]at h2;cases b0 with
     |none=>simp at h2
     |some b0=>
      simp only [lE,Prod.mk.injEq,Option.some.injEq]at h2;obtain ⟨rfl,rfl⟩:=h2;have hj:j<new.length:=(lH.1 h1).1;exact ⟨σ j,b0,lU.1 FT (some b0) (lF h1),hnew j b0 h1,rfl,hρ1n j hj, .inr ⟨j,hj,rfl,rfl⟩⟩
  have hinjT: ∀{k k' q q':D7},((∃i,i<pre.length∧q=Z3 i∧k=κ i)∨∃j,j<new.length∧q=σ j∧k=(S+j,u))→((∃i,i<pre.length∧q'=Z3 i∧k'=κ i)∨∃j,j<new.length∧q'=σ j∧k'=(S+j,u))→q=q'→k=k':=by
    rintro k k' q q' (⟨i,hi,rfl,rfl⟩|⟨j,hj,rfl,rfl⟩) (⟨i',hi',rfl,rfl⟩|⟨j',hj',rfl,rfl⟩) e
    ·rw [DQ e]
    ·exact absurd e.symm (hσo j' hj' i hi)
    ·exact absurd e (hσo j hj i' hi')
    ·rw [hσi j j' hj hj' e]
  have hrest: ∀k b,k∉ (Nr κ (X5 κ fun j=>(S+j,u)) 0 post++Rm u S (X5 κ fun j=>(S+j,u)) 0 new).map (·.1)→h k=some b→(∀i,i<pre.length→k≠κ i)∧ρ1 k=ρ k∧∀g,M2 ρ k b=some g→w'.heap[g]? =w.heap[g]?∧¬own ρ0 (G (Qm 0 pre)) g:=by
    intro k b hn hk
    have hne: ∀i,i<pre.length→k≠κ i:=by
      rintro i hi rfl;apply hn
      have: ∀(l:List (Option Blk)) (n:Nat),i<l.length→κ (n+i)∈(Nr κ (X5 κ fun j=>(S+j,u)) n l).map (·.1):=by
        intro l
        induction i with
        |zero=>intro n hl;cases l with|nil=>simp at hl|cons=>simp [Nr]
        |succ i _=>
         intro n hl
         have key: ∀(i:Nat) (l:List (Option Blk)) (n:Nat),i<l.length→κ (n+i)∈(Nr κ (X5 κ fun j=>(S+j,u)) n l).map (·.1):=by
           intro i
           induction i with
           |zero=>intro l n hl;cases l with|nil=>simp at hl|cons=>simp [Nr]
           |succ i ih=>
            intro l n hl;cases l with
            |nil=>simp at hl
            |cons b r=>
             have:=ih r (n+1) (by simpa using hl);rw [show n+1+i=n+ (i+1) by omega]at this;simp only [Nr,lN,lQ];exact .inr this
         exact key (i+1) l n hl
      rw [List.map_append,lP];exact .inl (by have:=this post 0 (by rw [hlenP];exact hi);rwa [bE]at this)
    refine ⟨hne,?_,fun g hg=>⟨T'.frame g (H.lt k b g hk hg) (hown1 k b g hk hne hg),hown1 k b g hk hne hg⟩⟩;obtain ⟨y,hy⟩:=(H.blk k b hk).rho;rw [hle1 k y hy,hy]
  have hfrI: ∀b,I b→w'.heap[b]? =w.heap[b]?:=fun b hb=>T'.frame b (H.ilt b hb) (fun ho=>H0.own_notI ho hb);generalize hups:Nr κ (X5 κ fun j=>(S+j,u)) 0 post++Rm u S (X5 κ fun j=>(S+j,u)) 0 new=ups at htouch hrest;have hcase: ∀k b,Q0 h ups k=some b→(h k=some b∧k∉ups.map (·.1))∨(k,some b)∈ups:=fun k b hb=>(Sl ups h k (some b) hb).imp (fun q=>⟨q.2,q.1⟩) id;have hlocR: ∀k b,h k=some b→k∉ups.map (·.1)→M2 ρ1 k b=M2 ρ k b:=fun k b hb hn=>Iu b (hrest k b hn hb).2.1
  have H1:HeapOK w' I' ρ1 (Q0 h ups):=by
    refine ⟨fun k b hb=> ?_,fun k k' b b' g h1 h2 h3 h4=> ?_,fun k b g h1 h2 hi=> ?_,fun k b g h1 h2=> ?_,H'.ilt,?_,fun k y hy=> ?_⟩
    ·rcases hcase k b hb with ⟨a1,a2⟩|hm
     ·exact (H.blk k b a1).keep (fun g hg=>((hrest k b a2 a1).2.2 g hg).1) hfrI T'.imm hle1
     ·obtain ⟨q,b0,c1,c2,rfl,c4,_⟩:=htouch k b hm;exact SC c1 (H'.blk _ _ c2) (fun y hy=>by rw [c4];exact hy) hk1
    ·rcases hcase k b h1 with ⟨a1,a2⟩|hm
     ·rw [hlocR k b a1 a2]at h3;rcases hcase k' b' h2 with ⟨b1,b2⟩|hm'
      ·rw [hlocR k' b' b1 b2]at h4;exact H.sep k k' b b' g a1 b1 h3 h4
      ·exfalso;obtain ⟨q,b0,c1,c2,rfl,c4,_⟩:=htouch k' b' hm';rw [Ax,Iu b0 c4]at h4;exact ((hrest k b a2 a1).2.2 g h3).2 (T'.ownBack g ⟨q,_,c2,by rw [Ax];exact h4⟩ (H.lt k b g a1 h3))
     ·obtain ⟨q,b0,c1,c2,rfl,c4,c5⟩:=htouch k b hm;rw [Ax,Iu b0 c4]at h3;rcases hcase k' b' h2 with ⟨b1,b2⟩|hm'
      ·exfalso;rw [hlocR k' b' b1 b2]at h4;exact ((hrest k' b' b2 b1).2.2 g h4).2 (T'.ownBack g ⟨q,_,c2,by rw [Ax];exact h3⟩ (H.lt k' b' g b1 h4))
      ·obtain ⟨q',b0',d1,d2,rfl,d4,d5⟩:=htouch k' b' hm';rw [Ax,Iu b0' d4]at h4;exact hinjT c5 d5 (H'.sep q q' _ _ g c2 d2 (by rw [Ax];exact h3) (by rw [Ax];exact h4))
    ·rcases hcase k b h1 with ⟨a1,a2⟩|hm
     ·rw [hlocR k b a1 a2]at h2;rcases T'.immBack g hi (H.lt k b g a1 h2)with q|q
      ·exact H.notI k b g a1 h2 q
      ·exact ((hrest k b a2 a1).2.2 g h2).2 q
     ·obtain ⟨q,b0,c1,c2,rfl,c4,_⟩:=htouch k b hm;rw [Ax,Iu b0 c4]at h2;exact H'.notI q _ g c2 (by rw [Ax];exact h2) hi
    ·rcases hcase k b h1 with ⟨a1,a2⟩|hm
     ·rw [hlocR k b a1 a2]at h2;exact bF (H.lt k b g a1 h2) T'.size
     ·obtain ⟨q,b0,c1,c2,rfl,c4,_⟩:=htouch k b hm;rw [Ax,Iu b0 c4]at h2;exact H'.lt q _ g c2 (by rw [Ax];exact h2)
    ·obtain ⟨u0,hu0⟩:=H.fresh;refine ⟨max u0 (u+1),fun d x hx=> ?_⟩;rw [hρ1o _ (fun j _ e=>by simp only [Prod.mk.injEq]at e;omega)];exact hu0 d x (by omega)
    ·have hy':(if k.2=u∧S≤k.1∧k.1<S+new.length then ρ0' (σ (k.1 - S))else ρ k)=some y:=hy;split at hy'
     ·exact H'.rone _ y hy'
     ·exact H.rone _ y hy'
  refine ⟨x,I',ρ1,rfl,SL okV hv' hk1,H1,⟨T'.os,T'.tape,T'.output,T'.size,fun b hb hn=>T'.frame b hb (fun ho=>hn (hown0 b ho)),T'.imm,fun b hb hl=>(T'.immBack b hb hl).imp id (hown0 b),?_,hle1⟩,fun k hk=>hρ1o k fun j hj=>hk j (by omega)⟩;rintro b ⟨k,c,h1,h2⟩ hl;rcases hcase k c h1 with ⟨a1,a2⟩|hm
  ·exact ⟨k,c,a1,by rw [← hlocR k c a1 a2];exact h2⟩
  ·obtain ⟨q,b0,c1,c2,rfl,c4,_⟩:=htouch k c hm;rw [Ax,Iu b0 c4]at h2;exact hown0 b (T'.ownBack b ⟨q,_,c2,by rw [Ax];exact h2⟩ hl)
end Go.Abs
namespace Go.Abs
open Go
theorem Vw {α:Type}{l:List α}(h:l.Nodup){i j:Nat}(hi:i<l.length)(hj:j<l.length)(e:l[i]=l[j]):i=j:=by
  have h':=List.pairwise_iff_getElem.1 h;rcases Nat.lt_trichotomy i j with q|q|q
  ·exact absurd e (h' i j hi hj q)
  ·exact q
  ·exact absurd e.symm (h' j i hj hi q)
def Fp (l:List D7)(i:Nat):D7:=l.getD i (0,0)
section
variable {P:Program}{N:Nat}
theorem FCall.le {u S:Nat}{f:FuncId}{avs avs':List AV}{pre pre':C7}{v:AV}{ups:List (D7×Option Blk)}(hF:FCall P u S f avs' pre v ups)(ha:All2 AVle avs avs')(hp: ∀q b,pre q=some b→∃b',pre' q=some b'∧BlkLe b' b)(hu: ∀q b,pre q=some b→q∈ups.map (·.1)):FCall P u S f avs pre' v ups:=by
  refine ⟨hF.1,fun w I ρ h vs H hh hlen hrep hfr=> ?_⟩
  let h1:C7:=fun q=>match pre q with|some b=>some b|none=>h q
  have h1p: ∀q b,pre q=some b→h1 q=some b:=fun q b hb=>by show (match pre q with|some b=>some b|none=>h q)=_;rw [hb]
  have h1n: ∀q,pre q=none→h1 q=h q:=fun q hb=>by show (match pre q with|some b=>some b|none=>h q)=_;rw [hb]
  have S1:Sb ⟨fun _=> .any,h1⟩ ⟨fun _=> .any,h⟩:=by
    refine ⟨fun i=> .any _,fun k b hb=> ?_⟩;cases hq:pre k with
    |none=>exact ⟨b,by show h k=some b;rw [← h1n k hq];exact hb, .refl b⟩
    |some b0=>
     obtain rfl:b0=b:=by have:=hb;dsimp only at this;rw [h1p k b0 hq]at this;exact lC this
     obtain ⟨b',e1,e2⟩:=hp k b0 hq;exact ⟨b',hh k b' e1,e2⟩
  have hup:Q0 h1 ups=Q0 h ups:=by
    funext q;by_cases e:q∈ups.map (·.1)
    ·exact Mt ups _ _ q e
    ·rw [Ch _ _ _ e,Ch _ _ _ e];cases hq:pre q with
     |none=>exact h1n q hq
     |some b=>exact absurd (hu q b hq) e
  have hown: ∀g,own ρ h1 g→own ρ h g:=fun g hg=>S1.own hg
  have hown': ∀g,own ρ h g→own ρ h1 g:=by
    rintro g ⟨k,b,e1,e2⟩;cases hq:pre k with
    |none=>exact ⟨k,b,by rw [h1n k hq];exact e1,e2⟩
    |some b0=>
     obtain ⟨b',g1,g2⟩:=hp k b0 hq;have:b'=b:=by have:=hh k b' g1;rw [e1]at this;exact (lC this).symm
     subst this;exact ⟨k,b0,h1p k b0 hq,by rw [g2.loc];exact e2⟩
  refine (hF.2 w I ρ h1 vs (S1.heapOK H) h1p (by rw [← ha.length];exact hlen) (fun i c hc=> ?_) hfr).mono ?_
  ·obtain ⟨a,e1,e2⟩:=ha.get hc;exact e2 _ _ _ _ (hrep i a e1)
  rintro e w' ⟨x,I',ρ',rfl,r1,r2,r3,r4⟩;rw [hup]at r2 r3;exact ⟨x,I',ρ',rfl,r1,r2,⟨r3.os,r3.tape,r3.output,r3.size,fun b hb hn=>r3.frame b hb fun ho=>hn (hown b ho),r3.imm,fun b hb hl=>(r3.immBack b hb hl).imp id (hown b),fun b hb hl=>hown b (r3.ownBack b hb hl),r3.rho⟩,r4⟩
theorem PCall.freezeF {u S:Nat}{f:FuncId}{ds:List D}{r:D}(hp:PCall P f ds r){avs:List AV}{h0:C7}(hd:N9 (L8 h0 6) avs=some ds):
    FCall P u S f avs (R0 h0 (avs.flatMap (O3 h0 6))) (.d r) ((avs.flatMap (O3 h0 6)).map fun k=>(k,none)):=by
  refine ⟨hp.1,fun w I ρ h vs H hh hlen hrep _=> ?_⟩;have hlive:=Kz avs ds hd
  have heq: ∀q∈avs.flatMap (O3 h0 6),h q=h0 q:=by
    intro q hq;cases hb:h0 q with
    |none=>exact absurd hb (hlive q hq)
    |some b=>exact hh q b (by unfold R0;rw [l4 hq,hb])
  have hd':N9 (L8 h 6) avs=some ds:=by rw [← hd];exact Jh avs heq
  rw [← Ra avs heq];clear hd hh heq hlive;generalize hks:avs.flatMap (O3 h 6)=ks at*;have hks': ∀q∈ks,h q≠none:=by rw [← hks];exact Kz avs ds hd'
  have hU:Q0 h (ks.map fun k=>(k,none))=fun q=>if q∈ks then none else h q:=by
    funext q;by_cases e:q∈ks
    ·rw [l4 e];cases hb:Q0 h (ks.map fun k=>(k,none)) q with
     |none=>rfl
     |some b=>
      rcases Sl _ _ _ _ hb with ⟨a,_⟩|a
      ·exact absurd (by simp only [List.map_map,List.mem_map,Function.comp];exact ⟨q,e,rfl⟩) a
      ·simp at a
    ·rw [l5 e,Ch];simp only [List.map_map,List.mem_map,Function.comp];rintro ⟨x,hx,rfl⟩;exact e hx
  rw [hU]
  let hk:C7:=R0 h ks
  have hsub: ∀q b,hk q=some b→h q=some b:=by
    intro q b hq;have:(if q∈ks then h q else none)=some b:=hq;split at this
    ·exact this
    ·cases this
  let hf:C7:=fun q=>if q∈ks then none else h q
  have hsubf: ∀q b,hf q=some b→h q=some b∧q∉ks:=by
    intro q b hq;have:(if q∈ks then none else h q)=some b:=hq;split at this
    ·cases this
    ·exact ⟨this,‹_›⟩
  have H1:=H.sub hsub;have H2:=H.sub (fun q b hq=>(hsubf q b hq).1)
  have hdk:N9 (L8 hk 6) avs=some ds:=by
    rw [← hd'];refine Jh avs fun q hq=> ?_;rw [hks]at hq;show (if q∈ks then h q else none)=h q;rw [l4 hq]
  obtain ⟨l1,l2⟩:=Cg hdk
  have hsep: ∀g,own ρ hf g→¬own ρ hk g:=by
    rintro g ⟨k,b,a1,a2⟩ ⟨k',b',c1,c2⟩;obtain ⟨e1,e2⟩:=hsubf k b a1;have:=H.sep k k' b b' g e1 (hsub k' b' c1) a2 c2;subst this;apply e2;have:(if k∈ks then h k else none)=some b':=c1;split at this
    ·assumption
    ·cases this
  have hI1: ∀b,(I b∨own ρ hk b)→b<w.heap.size:=fun b hb=>by
    rcases hb with h|h
    ·exact H.ilt b h
    ·exact H1.own_lt h
  refine (hp.2 w (fun b=>I b∨own ρ hk b) vs hI1 (by omega) (fun i d hi=>by
    obtain ⟨x,hx,hfx⟩:=l2 i d hi
    exact Hf H1 6 x d _ (hrep i x hx) hfx)).mono ?_
  rintro e w' ⟨x,I',rfl,hr,tr⟩
  have hnI: ∀g,own ρ hf g→¬I' g:=fun g hg hi=>by
    rcases tr.immBack g hi (H2.own_lt hg)with q|q
    ·exact H2.own_notI hg q
    ·exact hsep g hg q
  have H3:HeapOK w' I' ρ hf:=H2.keep (fun g hg=>tr.frame g (H2.own_lt hg)) (fun b hb=>tr.frame b (H.ilt b hb)) (fun b hb=>tr.imm b (.inl hb)) hnI tr.ilt (fun _ _ h=>h) tr.size H.fresh H.rone;refine ⟨x,I',ρ,rfl, .d _ _ hr,H3,⟨tr.os,tr.tape,tr.output,tr.size,fun b hb _=>tr.frame b hb,fun b hb=>tr.imm b (.inl hb),fun b hb hl=>(tr.immBack b hb hl).imp id fun ⟨k,c,a1,a2⟩=>⟨k,c,hsub k c a1,a2⟩,?_,fun _ _ h=>h⟩,fun _ _=>rfl⟩;rintro b ⟨k,c,a1,a2⟩ _;exact ⟨k,c,(hsubf k c a1).1,a2⟩
theorem ICall.le {f:FuncId}{avs:List AV}{h:C7}{K K':AV→C7→Prop}(hI:ICall P f avs h K)(hk: ∀v h,K v h→K' v h):ICall P f avs h K':=hI.mono hk
theorem QE {f:FuncId}{rs:List RV}{ac:AC}(F:FnOK P f N rs ac){avs:List AV}{pre:List Blk}{v:AV}{post:List (Option Blk)}{new:List (Option Blk)}(hok:OT avs pre v post new=true)(hl:avs.length≤N)
    (h:Dq P N none [.c ac] (fun e s=>(e= .nrm∨e= .ret)∧∃v' v1 g1,Tl s.t s.h rs=some v'∧AVle v' v1∧Wy s.h g1∧Ut pre.length v post new v1 (G g1)) .nrm ⟨BT avs,G (Qm 0 pre)⟩):MCall P f avs pre v post new:=by
  refine ⟨hok,F.enters,?_⟩;obtain ⟨fn,c,hf,hb,hN,hrs,⟨M,hc⟩,hn⟩:=F.ex;intro w I ρ vs H hlen hrep;have hsim:=Rj (n:=N) H hlen (by omega) hrep;rw [← hN]at hsim;refine Lb (Q:=fun e s=>(e= .nrm∨e= .ret)∧∃v' v1 g1,Tl s.t s.h rs=some v'∧AVle v' v1∧Wy s.h g1∧Ut pre.length v post new v1 (G g1)) hf hb rfl hsim (by rw [hN];exact h M c hc) ?_;rintro e s' a' w' I' ρ' ⟨he,v',v1,g1,hv,hle,hg,hp⟩ hs' tr;obtain ⟨x,hx,hr⟩:=Yo hs' hrs hv;have S1:Sb ⟨T [],G g1⟩ s':=by cases s';exact C1 trivial hg
  exact ⟨he,x,hx,x,v1,I',ρ',G g1,rfl,hle _ _ _ _ hr,S1.heapOK hs'.heap,⟨tr.os,tr.tape,tr.output,tr.size,tr.frame,tr.imm,tr.immBack,fun b hb hl=>tr.ownBack b (S1.own hb) hl,tr.rho⟩,hp⟩
def Tp:List AV→Nat→List (Nat×AV)
  | [],_=> []
  |a::r,n=>(n,a)::Tp r (n+1)
theorem AM: ∀(avs:List AV) (n i:Nat),T (Tp avs n) (n+i)=avs.getD i .any
  | [],n,i=>by simp [Tp,QX]
  |a::r,n,i=>by
   rw [Tp,PU];cases i with
   |zero=>rw [l4 (by simp)];rfl
   |succ i=>rw [l5 (by omega),show n+ (i+1)=n+1+i by omega,AM r (n+1) i];rfl
theorem GJ (avs:List AV):BT avs=T (Tp avs 0):=by
  funext i;have:=AM avs 0 i;rw [bE]at this;rw [this];rfl
def GK (h:C7)(f:D7→D7):Nat→List (Option Blk)→Prop
  |_,[]=>True
  |i,b::r=>(match b with|some b=>h (Z3 i)=some (Ik f b)|none=>True)∧GK h f (i+1) r
theorem Vx {h:C7}{f:D7→D7}: ∀{l:List (Option Blk)} {n i:Nat} {b:Blk},GK h f n l→l[i]? =some (some b)→h (Z3 (n+i))=some (Ik f b)
  | [],n,i,b,_,hb=>by simp at hb
  |x::r,n,i,b,hp,hb=>by
   cases i with
   |zero=>simp at hb;subst hb;exact hp.1
   |succ i=>rw [show n+ (i+1)=n+1+i by omega];exact Vx hp.2 (by simpa using hb)
def NV (h:C7)(f:D7→D7):List D7→List (Option Blk)→Prop
  |_,[]=>True
  | [],_::_=>False
  |k::ks,b::r=>h k=b.map (Ik f)∧NV h f ks r
theorem Yv {h:C7}{f:D7→D7}: ∀{ks:List D7} {l:List (Option Blk)} {i:Nat} {b:Blk},NV h f ks l→l[i]? =some (some b)→h (Fp ks i)=some (Ik f b)
  |ks,[],i,b,_,hb=>by simp at hb
  | [],_::_,i,b,hp,_=>hp.elim
  |k::ks,x::r,i,b,hp,hb=>by
   cases i with
   |zero=>simp at hb;subst hb;exact hp.1
   |succ i=>exact Yv (ks:=ks) hp.2 (by simpa using hb)
theorem KV {d u:Nat}(h:Nat.blt d 900000=true)(i:Nat):(d,u)≠Z3 i:=by
  rw [Nat.blt_eq]at h;intro e;simp only [Z3,Prod.mk.injEq]at e;omega
theorem KW {n:Nat}{v v1:AV}{post:List (Option Blk)}{new:List (Option Blk)}{h:C7}(σs:List D7)(hv:v1=BZ (X5 Z3 (Fp σs)) v)(hpost:GK h (X5 Z3 (Fp σs)) 0 post)(hnew:NV h (X5 Z3 (Fp σs)) σs new)
    (hl:σs.length=new.length) (hd: ∀k∈σs,∀i,k≠Z3 i) (hnd:σs.Nodup):Ut n v post new v1 h:=by
  have hget: ∀j,j<new.length→Fp σs j∈σs:=by
    intro j hj;simp only [Fp,List.getD,lG (show j<σs.length by omega),Option.getD_some];exact List.getElem_mem _
  refine ⟨Fp σs,hv,fun i b hb=> ?_,fun j b hb=>Yv hnew hb,fun j hj i _=>hd _ (hget j hj) i,fun j j' hj hj' e=> ?_⟩
  ·have:=Vx hpost hb
   rwa [bE]at this
  ·simp only [Fp,List.getD,lG (show j<σs.length by omega),lG (show j'<σs.length by omega),Option.getD_some]at e;exact Vw hnd (by omega) (by omega) e
theorem Ci {t:Nat→AV}{h:C7}{rs:List RV}{e:Ex}{n:Nat}{v v' v1:AV}{post:List (Option Blk)}{new:List (Option Blk)}(he:e= .nrm∨e= .ret)(h1:Tl t h rs=some v')(h2:AVle v' v1)(g1:List (D7×Option Blk))(h3:Wy h g1)(h4:Ut n v post new v1 (G g1)):
    (e= .nrm∨e= .ret)∧∃v' v1 g1,Tl (⟨t,h⟩:St).t (⟨t,h⟩:St).h rs=some v'∧AVle v' v1∧Wy (⟨t,h⟩:St).h g1∧Ut n v post new v1 (G g1):=⟨he,v',v1,g1,h1,h2,h3,h4⟩
theorem Yw {t:Nat→AV}{h:C7}{a:RV}{v:AV}(hv:Tk t h a=some v):Tl t h [a]=some v:=by simp only [Tl,Vt,hv]
theorem Gh {t:Nat→AV}{h:C7}{a b:RV}{v w:AV}(hv:Tk t h a=some v)(hw:Tk t h b=some w):Tl t h [a,b]=some (.tup [v,w]):=by simp only [Tl,Vt,hv,hw]
end
theorem Tq {h:C7}{n:Nat}{k:D7}{off:Nat}{ty:TypeId}{cs:List AV}{ks:List D7}(hb:h k=some (.box ty cs))(hc:cs.flatMap (O3 h n)=ks):O3 h (n+1) (.ptr k off)=k::ks:=by simp only [O3,hb,hc]
theorem Wo {h:C7}{n:Nat}{k:D7}:O3 h (n+1) (.sl k)= [k]:=rfl
theorem Pt {h:C7}{n:Nat}{x:D}:O3 h n (.d x)= []:=by cases n<;>rfl
theorem KX {h:C7}{n:Nat}{f:Fn}{fs cs:List AV}{ks ks':List D7}(h1:fs.flatMap (O3 h n)=ks)(h2:cs.flatMap (O3 h n)=ks'):O3 h (n+1) (.fn f fs cs)=ks++ks':=by simp only [O3,h1,h2]
theorem Gr {h:C7}{n:Nat}:([]:List AV).flatMap (O3 h n)= []:=rfl
theorem Q2 {h:C7}{n:Nat}{x:AV}{r:List AV}{a b:List D7}(h1:O3 h n x=a)(h2:r.flatMap (O3 h n)=b):(x::r).flatMap (O3 h n)=a++b:=by rw [lY,h1,h2]
def HQ (h:C7):List D7→List Blk→Prop
  | [],[]=>True
  |k::ks,b::bs=>(∃b',h k=some b'∧BlkLe b' b)∧HQ h ks bs
  |_,_=>False
theorem Yx {h:C7}: ∀{ks:List D7} {bs:List Blk},HQ h ks bs→ks.length=bs.length
  | [],[],_=>rfl
  |_::ks,_::bs,hp=>by simp [Yx hp.2]
  | [],_::_,hp=>hp.elim
  |_::_,[],hp=>hp.elim
theorem DT {h:C7}: ∀{ks:List D7} {bs:List Blk} {i:Nat} {b:Blk},HQ h ks bs→bs[i]? =some b→Fp ks i∈ks∧∃b',h (Fp ks i)=some b'∧BlkLe b' b
  | [],[],i,b,_,hb=>by simp at hb
  |k::ks,c::bs,i,b,hp,hb=>by
   cases i with
   |zero=>simp at hb;subst hb;exact ⟨by simp [Fp],hp.1⟩
   |succ i=>
    obtain ⟨g1,g2⟩:=DT (ks:=ks) (bs:=bs) (i:=i) hp.2 (by simpa using hb);exact ⟨by simp only [Fp,List.getD_cons_succ]at g1 ⊢;exact List.mem_cons_of_mem _ g1,g2⟩
  | [],_::_,_,_,hp,_=>hp.elim
  |_::_,[],_,_,hp,_=>hp.elim
theorem MCall.at {P:Program}{u S:Nat}{f:FuncId}{avs avs0:List AV}{pre:List Blk}{v:AV}{post:List (Option Blk)}{new:List (Option Blk)}{h:C7}(hM:MCall P f avs0 pre v post new)(κs:List D7)(ks:List D7)
    (hle:All2 AVle avs (avs0.map (Zo (X5 (Fp κs) (Fp κs))))) (hpre:HQ h κs (pre.map (Ik (X5 (Fp κs) (Fp κs))))) (hsub: ∀k∈κs,k∈ks) (hnd:κs.Nodup):
    FCall P u S f avs (R0 h ks) (BZ (X5 (Fp κs) fun j=>(S+j,u)) v) (Nr (Fp κs) (X5 (Fp κs) fun j=>(S+j,u)) 0 post++Rm u S (X5 (Fp κs) fun j=>(S+j,u)) 0 new):=by
  have hlen:κs.length=pre.length:=by simpa using Yx hpre
  have hok:=hM.ok;simp only [OT,l6,l8,Nat.ble_eq]at hok
  have hinj: ∀i i',i<pre.length→i'<pre.length→Fp κs i=Fp κs i'→i=i':=by
    intro i i' hi hi' e;simp only [Fp,List.getD,lG (show i<κs.length by omega),lG (show i'<κs.length by omega),Option.getD_some]at e;exact Vw hnd (by omega) (by omega) e
  let preH:C7:=fun q=>match (List.range pre.length).find? fun i=>Fp κs i==q with
    |some i=>(pre[i]?).map (Ik (X5 (Fp κs) (Fp κs)))
    |none=>none
  have hat: ∀i b,pre[i]? =some b→preH (Fp κs i)=some (Ik (X5 (Fp κs) (Fp κs)) b):=by
    intro i b hb;have hi:i<pre.length:=(lH.1 hb).1;show (match (List.range pre.length).find? fun i'=>Fp κs i'==Fp κs i with|some i=>(pre[i]?).map (Ik (X5 (Fp κs) (Fp κs)))|none=>none)=_;cases hf:(List.range pre.length).find? fun i'=>Fp κs i'==Fp κs i with
    |none=>
     have:=List.find?_eq_none.1 hf i (by simpa using hi);simp at this
    |some j=>
     have h1:=List.find?_some hf;have h2:=List.mem_of_find?_eq_some hf;have:=hinj j i (by simpa using h2) hi (by simpa using h1);subst this;simp only [hb,lE]
  have hinv: ∀q b,preH q=some b→∃i b0,pre[i]? =some b0∧q=Fp κs i∧b=Ik (X5 (Fp κs) (Fp κs)) b0:=by
    intro q b hq;have hq':(match (List.range pre.length).find? fun i'=>Fp κs i'==q with|some i=>(pre[i]?).map (Ik (X5 (Fp κs) (Fp κs)))|none=>none)=some b:=hq;split at hq'
    ·rename_i j hf;have h1:=List.find?_some hf;simp only [lD]at hq';obtain ⟨b0,e1,rfl⟩:=hq';exact ⟨j,b0,e1,(by simpa using h1:Fp κs j=q).symm,rfl⟩
    ·cases hq'
  refine FCall.le (hM.frame (Fp κs) hinj preH hat) hle (fun q b hq=> ?_) (fun q b hq=> ?_)
  ·obtain ⟨i,b0,e1,rfl,rfl⟩:=hinv q b hq;obtain ⟨g1,b',g2,g3⟩:=DT hpre (Mz e1);exact ⟨b',by unfold R0;rw [l4 (hsub _ g1)];exact g2,g3⟩
  ·obtain ⟨i,b0,e1,rfl,rfl⟩:=hinv q b hq;rw [List.map_append,lP];left;have hi:i<post.length:=by rw [hok.1.1.1.1.1.1];exact (lH.1 e1).1
   have key: ∀(i:Nat) (l:List (Option Blk)) (n:Nat) (f:D7→D7),i<l.length→Fp κs (n+i)∈(Nr (Fp κs) f n l).map (·.1):=by
     intro i
     induction i with
     |zero=>intro l n f hl;cases l with|nil=>simp at hl|cons=>simp [Nr]
     |succ i ih=>
      intro l n f hl;cases l with
      |nil=>simp at hl
      |cons b r=>
       have:=ih r (n+1) f (by simpa using hl);rw [show n+1+i=n+ (i+1) by omega]at this;simp only [Nr,lN,lQ];exact .inr this
   have:=key i post 0 (X5 (Fp κs) fun j=>(S+j,u)) hi
   rwa [bE]at this
theorem QF {u S:Nat}{κs ks:List D7}{post:List (Option Blk)}{new:List (Option Blk)}{f g:D7→D7}(hsub: ∀k∈κs,k∈ks)(hl:post.length=κs.length)(hn:new.length≤6):
    ∀q∈(Nr (Fp κs) f 0 post++Rm u S g 0 new).map (·.1),q∈ks∨∃j,j<6∧q=(S+j,u):=by
  intro q hq;simp only [List.mem_map,lP]at hq;obtain ⟨x,hx|hx,rfl⟩:=hq
  ·obtain ⟨j,b,h1,rfl⟩:=Yt hx;have hj:j<κs.length:=by rw [← hl];exact (lH.1 h1).1
   left;refine hsub _ ?_;simp only [bE,Fp,List.getD,lG hj,Option.getD_some];exact List.getElem_mem _
  ·obtain ⟨j,b,h1,rfl⟩:=Yu hx;have hj:j<new.length:=(lH.1 h1).1;exact .inr ⟨j,by omega,by rw [bE]⟩
section
variable {P:Program}{u:Nat}{r:List AOp}{l:List (Nat×AV)}{g:List (D7×Option Blk)}
structure OC (P:Program)(u:Nat)(l:List (Nat×AV))(g:List (D7×Option Blk))(S:Nat)(f:Opd)(args:List Opd)(v:AV)(ks:List D7)(us:List D7)(g':List (D7×Option Blk)):Prop where
  w: ∀K:AV→List (D7×Option Blk)→Prop,(∀ups,ups.map (·.1)=us→Q0 (G g) ups=G g'→K v ups)→Re P u (T l) (G g) S f args K
  ks:Aw (T l) (G g) (.ocall S f args)=ks
theorem Pu {S:Nat}{f:Opd}{args:List Opd}{fid:FuncId}{avs avs0:List AV}{pre:List Blk}{v v':AV}{post:List (Option Blk)}{new:List (Option Blk)}(hM:MCall P fid avs0 pre v post new)(κs ks us:List D7)(g':List (D7×Option Blk))
    (hc:T3 (T l) f args=some (fid,avs)) (hle:All2 AVle avs (avs0.map (Zo (X5 (Fp κs) (Fp κs))))) (hks:avs.flatMap (O3 (G g) 6)=ks) (hlive: ∀q∈ks,G g q≠none)
    (hpre:HQ (G g) κs (pre.map (Ik (X5 (Fp κs) (Fp κs))))) (hsub: ∀k∈κs,k∈ks) (hnd:κs.Nodup) (hv:BZ (X5 (Fp κs) fun j=>(S+j,u)) v=v')
    (hus:(Nr (Fp κs) (X5 (Fp κs) fun j=>(S+j,u)) 0 post++Rm u S (X5 (Fp κs) fun j=>(S+j,u)) 0 new).map (·.1)=us)
    (hg:Q0 (G g) (Nr (Fp κs) (X5 (Fp κs) fun j=>(S+j,u)) 0 post++Rm u S (X5 (Fp κs) fun j=>(S+j,u)) 0 new)=G g'):OC P u l g S f args v' ks us g':=by
  have hok:=hM.ok;simp only [OT,l6,l8,Nat.ble_eq]at hok;have hlen:κs.length=pre.length:=by simpa using Yx hpre
  refine ⟨fun K hK=> ?_,by simp only [Aw,hc,hks]⟩;simp only [Re,hc,hks];refine ⟨v',_,?_,hlive,by rw [← hv];exact hM.at κs ks hle hpre hsub hnd,hK _ hus hg⟩;exact QF hsub (by rw [hok.1.1.1.1.1.1,hlen]) hok.1.1.1.1.1.2
theorem QG {S:Nat}{f:Opd}{args:List Opd}{fid:FuncId}{avs:List AV}{ds ds':List D}{v:D}(ks:List D7)(g':List (D7×Option Blk))(hc:T3 (T l) f args=some (fid,avs))(hd:N9 (L8 (G g) 6) avs=some ds)(hle:All2 DLe ds ds')
    (hp:PCall P fid ds' v) (hks:avs.flatMap (O3 (G g) 6)=ks) (hg:Q0 (G g) (ks.map fun k=>(k,none))=G g'):OC P u l g S f args (.d v) ks ks g':=by
  refine ⟨fun K hK=> ?_,by simp only [Aw,hc,hks]⟩;simp only [Re,hc];refine ⟨.d v,_,fun q hq=> .inl ?_,Kz avs ds hd,(hp.le hle).freezeF hd,hK _ ?_ (by rw [hks];exact hg)⟩
  ·simpa [List.map_map,Function.comp_def] using hq
  ·rw [hks];simp [List.map_map,Function.comp_def]
theorem Ns {K:(Nat→AV)→C7→Prop}{d S:Nat}{f:Opd}{args:List Opd}{v:AV}{ks us:List D7}{g':List (D7×Option Blk)}(h:OC P u l g S f args v ks us g')(hk:M9 P u r (T ((d,v)::l)) (G g') K):M9 P u (⟨some d, .ocall S f args,none⟩::r) (T l) (G g) K:=by
  refine Sk (by simp [W5]) ?_;simp only [gW,Wx];exact h.w _ fun ups _ e=>by rw [e];exact hk
theorem NW {K:(Nat→AV)→C7→List (List D7×List D7)→Prop}{d S:Nat}{f:Opd}{args:List Opd}{v:AV}{ks us:List D7}{g':List (D7×Option Blk)}(h:OC P u l g S f args v ks us g')(hk:Kf P u r (T ((d,v)::l)) (G g') fun t' h' tr=>K t' h' ((ks,us)::tr)):Kf P u (⟨some d, .ocall S f args,none⟩::r) (T l) (G g) K:=by
  unfold Kf;simp only [gW,Wx];refine h.w _ fun ups e1 e=> ?_;rw [e,e1,h.ks];exact hk
end
end Go.Abs
namespace Go.Abs
open Go
section
variable {P:Program}{N:Nat}
def Wq (ks:List D7)(t:Nat→AV)(h:C7)(rs:List RV):Option D:=match Vt t h rs with
  |some vs=>match N9 (L8 (R0 h ks) 6) vs with
   |some [d]=>some d
   |some ds=>some (.tup ds)
   |none=>none
  |none=>none
def Uu (h:C7)(ks:List D7):Nat→List (Option Blk)→Prop
  |_,[]=>True
  |i,none::r=>Uu h ks (i+1) r
  |i,some (.box ty cs)::r=>(∃cs' ds ds',h (Z3 i)=some (.box ty cs')∧Z3 i∉ks∧N9 (L8 (R0 h ks) 6) cs'=some ds∧All2 DLe ds ds'∧cs=ds'.map .d)∧Uu h ks (i+1) r
  |i,some (.arr ty sz es)::r=>(h (Z3 i)=some (.arr ty sz es)∧Z3 i∉ks)∧Uu h ks (i+1) r
  |_,some (.obj _ _)::_=>False
  |_,some (.mp _)::_=>False
def Sx:Nat→List (Option Blk)→List (D7×Option Blk)
  |_,[]=> []
  |i,b::r=>(Z3 i,b)::Sx (i+1) r
theorem AN: ∀{l:List (Option Blk)} {i:Nat} {q:D7} {b:Blk},G (Sx i l) q=some b→∃j,q=Z3 (i+j)∧l[j]? =some (some b)
  | [],i,q,b,h=>by cases h
  |x::r,i,q,b,h=>by
   rw [Sx,G]at h;by_cases e:q=Z3 i
   ·rw [l4 e]at h;subst h;exact ⟨0,e,rfl⟩
   ·rw [l5 e]at h;obtain ⟨j,h1,h2⟩:=AN h;exact ⟨j+1,by rw [h1];congr 1;omega,by simpa using h2⟩
theorem DU: ∀{l:List (Option Blk)} {i j:Nat} {b:Option Blk},l[j]? =some b→G (Sx i l) (Z3 (i+j))=b
  | [],i,j,b,h=>by simp at h
  |x::r,i,j,b,h=>by
   rw [Sx,G];cases j with
   |zero=>simp at h;subst h;rw [l4 (by simp)]
   |succ j=>
    rw [l5 (fun e=>by have:=DQ e;omega),show i+ (j+1)=i+1+j by omega];exact DU (by simpa using h)
theorem AO {h:C7}{ks:List D7}: ∀{l:List (Option Blk)} {i j:Nat} {b:Blk},Uu h ks i l→l[j]? =some (some b)→Z3 (i+j)∉ks∧
    ((∃ty cs' ds ds',b= .box ty (ds'.map .d)∧h (Z3 (i+j))=some (.box ty cs')∧N9 (L8 (R0 h ks) 6) cs'=some ds∧All2 DLe ds ds')∨∃ty sz es,b= .arr ty sz es∧h (Z3 (i+j))=some (.arr ty sz es))
  | [],i,j,b,_,hb=>by simp at hb
  |x::r,i,j,b,hp,hb=>by
   cases j with
   |zero=>
    simp at hb;subst hb;cases b with
    |box ty cs=>obtain ⟨⟨cs',ds,ds',a1,a2,a3,a4,rfl⟩,_⟩:=hp;exact ⟨a2, .inl ⟨ty,cs',ds,ds',rfl,a1,a3,a4⟩⟩
    |arr ty sz es=>exact ⟨hp.1.2, .inr ⟨ty,sz,es,rfl,hp.1.1⟩⟩
    |obj=>exact hp.elim
    |mp=>exact hp.elim
   |succ j=>
    have hr:Uu h ks (i+1) r:=by
      cases x with
      |none=>exact hp
      |some x=>cases x<;>first|exact hp.2|exact hp.elim
    have:=AO hr (by simpa using hb:r[j]? =some (some b))
    rwa [show i+1+j=i+ (j+1) by omega]at this
theorem HR (f:D7→D7)(ds:List D):(ds.map AV.d).map (Zn f)=ds.map .d:=by rw [List.map_map];rfl
theorem Kt {f:FuncId}{rs:List RV}{ac:AC}(F:FnOK P f N rs ac){avs:List AV}{pre:List Blk}{v:D}{post:List (Option Blk)}(hok:OT avs pre (.d v) post []=true)(hl:avs.length≤N)
    (h:Dq P N none [.c ac] (fun e s=>(e= .nrm∨e= .ret)∧∃ks d',Wq ks s.t s.h rs=some d'∧DLe d' v∧Uu s.h ks 0 post) .nrm ⟨T (Tp avs 0),G (Qm 0 pre)⟩):MCall P f avs pre (.d v) post []:=by
  refine ⟨hok,F.enters,?_⟩;obtain ⟨fn,c,hf,hb,hN,hrs,⟨M,hc⟩,hn⟩:=F.ex;intro w I ρ vs H hlen hrep;have hsim:=Rj (n:=N) H hlen (by omega) hrep;rw [← hN,GJ]at hsim;refine Lb (Q:=fun e s=>(e= .nrm∨e= .ret)∧∃ks d',Wq ks s.t s.h rs=some d'∧DLe d' v∧Uu s.h ks 0 post) hf hb rfl hsim (by rw [hN];exact h M c hc) ?_;rintro e s' a' w' I' ρ' ⟨he,ks,d',hv,hle,hp⟩ hs' tr;have Hs:=hs'.heap
  let hk:C7:=R0 s'.h ks
  have hsub: ∀q b,hk q=some b→s'.h q=some b∧q∈ks:=by
    intro q b hq;have:(if q∈ks then s'.h q else none)=some b:=hq;split at this
    ·exact ⟨this,‹_›⟩
    ·cases this
  have Hk:=Hs.sub fun q b hq=>(hsub q b hq).1
  have hg: ∀q b,G (Sx 0 post) q=some b→∃b0,s'.h q=some b0∧q∉ks∧M2 ρ' q b=M2 ρ' q b0∧BlkOK w' (fun b=>I' b∨own ρ' hk b) ρ' q b∧∀f,Ik f b=b:=by
    intro q b hq;obtain ⟨i,rfl,h2⟩:=AN hq;rw [bE];obtain ⟨h3,h4⟩:=AO hp h2;rw [bE]at h3 h4;rcases h4 with ⟨ty,cs',ds,ds',rfl,a1,a2,a3⟩|⟨ty,sz,es,rfl,a1⟩
    ·refine ⟨_,a1,h3,rfl,?_,fun f=>by simp only [Ik,HR]⟩;obtain ⟨g,ws,b1,b2,b3,b4,b5⟩:=Hs.blk _ _ a1;obtain ⟨l1,l2⟩:=Cg a2;refine ⟨g,ws,b1,b2,by rw [lO,← a3.length,l1];exact b3,b4,fun i c hc=> ?_⟩;obtain ⟨d1,hd1,rfl⟩:=Xg hc;obtain ⟨d0,e1,e2⟩:=a3.get hd1;obtain ⟨x,e3,e4⟩:=l2 i d0 e1;exact .d _ _ (e2 _ _ _ (Hf Hk 6 x d0 _ (b5 i x e3) e4))
    ·exact ⟨_,a1,h3,rfl,(Hs.blk _ _ a1).keep (fun _ _=>rfl) (fun _ _=>rfl) (fun _ h=> .inl h) (fun _ _ h=>h),fun f=>rfl⟩
  have hownG: ∀g,own ρ' (G (Sx 0 post)) g→own ρ' s'.h g:=by
    rintro g ⟨q,b,a1,a2⟩;obtain ⟨b0,c1,_,c3,_⟩:=hg q b a1;exact ⟨q,b0,c1,by rw [← c3];exact a2⟩
  have H2:HeapOK w' (fun b=>I' b∨own ρ' hk b) ρ' (G (Sx 0 post)):=by
    refine ⟨fun q b hq=>by obtain ⟨_,_,_,_,c,_⟩:=hg q b hq;exact c,fun q q' b b' g h1 h2 h3 h4=> ?_,fun q b g h1 h2 hi=> ?_,fun q b g h1 h2=> ?_,fun b hb=> ?_,Hs.fresh,Hs.rone⟩
    ·obtain ⟨b0,c1,_,c3,_⟩:=hg q b h1;obtain ⟨b1,d1,_,d3,_⟩:=hg q' b' h2;rw [c3]at h3;rw [d3]at h4;exact Hs.sep q q' b0 b1 g c1 d1 h3 h4
    ·obtain ⟨b0,c1,c2,c3,_⟩:=hg q b h1;rw [c3]at h2;rcases hi with hi|⟨k,x,e1,e2⟩
     ·exact Hs.notI q b0 g c1 h2 hi
     ·obtain ⟨e3,e4⟩:=hsub k x e1;have:=Hs.sep q k b0 x g c1 e3 h2 e2;subst this;exact c2 e4
    ·obtain ⟨b0,c1,c2,c3,_⟩:=hg q b h1;rw [c3]at h2;exact Hs.lt q b0 g c1 h2
    ·rcases hb with hb|hb
     ·exact Hs.ilt b hb
     ·exact Hk.own_lt hb
  unfold Wq at hv;split at hv
  ·rename_i avs' hres;obtain ⟨xs,g1,g2,g3⟩:=Ri hs' hrs hres
   have hds: ∀{ds:List D},N9 (L8 hk 6) avs'=some ds→ds.length=xs.length∧∀(i:Nat) d,ds[i]? =some d→RepD w' (fun b=>I' b∨own ρ' hk b) d (xs.getD i undef):=by
     intro ds hds;obtain ⟨l1,l2⟩:=Cg hds;refine ⟨by omega,fun i d hd=> ?_⟩;obtain ⟨x,e3,e4⟩:=l2 i d hd;exact Hf Hk 6 x d _ (g3 i x e3) e4
   have hfin: ∀x,(results fn a'.tmps).run P w'= .ok x w'→RepD w' (fun b=>I' b∨own ρ' hk b) d' x→
    ∃x,(results fn a'.tmps).run P w'= .ok x w'∧∃x' v' I'' ρ'' h'',Ending.returned x= .returned x'∧RepV w' I'' ρ'' v' x'∧HeapOK w' I'' ρ'' h''∧Tr w I ρ (G (Qm 0 pre)) w' I'' ρ'' h''∧Ut pre.length (.d v) post [] v' h'':=by
     intro x hx hr;refine ⟨x,hx,x, .d v,_,ρ',G (Sx 0 post),rfl, .d _ _ (hle _ _ _ hr),H2,⟨tr.os,tr.tape,tr.output,tr.size,tr.frame,fun b hb=> .inl (tr.imm b hb),fun b hb hl=> ?_,fun b hb hl=>tr.ownBack b (hownG b hb) hl,tr.rho⟩,fun _=>(0,0),rfl,fun i b hb=> ?_,fun j b hb=>by simp at hb,fun j hj=>by simp at hj,fun j j' hj=>by simp at hj⟩
     ·rcases hb with hb|⟨k,x,e1,e2⟩
      ·exact tr.immBack b hb hl
      ·exact .inr (tr.ownBack b ⟨k,x,(hsub k x e1).1,e2⟩ hl)
     ·have h1:G (Sx 0 post) (Z3 (0+i))=some b:=DU hb;rw [bE]at h1;obtain ⟨_,_,_,_,_,c⟩:=hg _ b h1;rw [h1,c]
   have hmain: ∃x,(results fn a'.tmps).run P w'= .ok x w'∧RepD w' (fun b=>I' b∨own ρ' hk b) d' x:=by
     split at hv
     ·rename_i d hd;cases hv;obtain ⟨l1,l2⟩:=hds hd
      obtain ⟨x,rfl⟩: ∃x,xs= [x]:=by
        cases xs with
        |nil=>simp at l1
        |cons x r=>cases r with
         |nil=>exact ⟨x,rfl⟩
         |cons=>simp at l1
      exact ⟨x,by rw [Mu fn a' w' _ g1];simp,l2 0 _ rfl⟩
     ·rename_i ds hne hd;cases hv;obtain ⟨l1,l2⟩:=hds hd
      have hx1: ¬xs.length=1:=by
        intro h1;rw [← l1]at h1;obtain ⟨v,rfl⟩:=List.length_eq_one_iff.1 h1;exact hne v rfl
      exact ⟨_,by rw [Mu fn a' w' _ g1,dif_neg hx1], .tup ds xs l1 l2⟩
     ·cases hv
   obtain ⟨x,hx,hr⟩:=hmain;obtain ⟨x1,h1,h2⟩:=hfin x hx hr;exact ⟨he,x1,h1,h2⟩
  ·cases hv
theorem Ey {f:FuncId}{rs:List RV}{ac:AC}(F:FnOK P f N rs ac){avs:List AV}{pre:List Blk}{v:AV}{post:List (Option Blk)}{new:List (Option Blk)}(hok:OT avs pre v post new=true)(hl:avs.length≤N)
    (h:Dq P N none [.c ac] (fun e s=>(e= .nrm∨e= .ret)∧∃v' v1 g1,Tl s.t s.h rs=some v'∧AVle v' v1∧Wy s.h g1∧Ut pre.length v post new v1 (G g1)) .nrm ⟨T (Tp avs 0),G (Qm 0 pre)⟩):MCall P f avs pre v post new:=
  QE F hok hl (by rw [GJ];exact h)
theorem Na {t:Nat→AV}{h:C7}{rs:List RV}{d d':D}{e:Ex}{post:List (Option Blk)}(he:e= .nrm∨e= .ret)(ks:List D7)(h1:Wq ks t h rs=some d')(h2:DLe d' d)(h3:Uu h ks 0 post):
    (e= .nrm∨e= .ret)∧∃ks d',Wq ks (⟨t,h⟩:St).t (⟨t,h⟩:St).h rs=some d'∧DLe d' d∧Uu (⟨t,h⟩:St).h ks 0 post:=⟨he,ks,d',h1,h2,h3⟩
theorem Vy {t:Nat→AV}{h:C7}{ks:List D7}:Wq ks t h []=some (.tup []):=rfl
theorem Yy {t:Nat→AV}{h:C7}{ks:List D7}{a:RV}{v:AV}{d:D}(hv:Tk t h a=some v)(hr:L8 (R0 h ks) 6 v=some d):Wq ks t h [a]=some d:=by simp only [Wq,Vt,hv,N9,hr]
theorem KY {h:C7}{ks:List D7}{k:D7}{b:Option Blk}(hm:k∈ks)(hb:h k=b):R0 h ks k=b:=by unfold R0;rw [l4 hm];exact hb
theorem U2 {h:C7}: ∀q∈([]:List D7),h q≠none:=by simp
theorem Z8 {h:C7}{k:D7}{b:Blk}{ks:List D7}(hb:h k=some b)(hr: ∀q∈ks,h q≠none): ∀q∈k::ks,h q≠none:=by
  intro q hq;rcases lQ.1 hq with rfl|hq
  ·rw [hb];simp
  ·exact hr q hq
theorem Y5 {l:List AV}:All2 AVle l l:=by
  induction l with
  |nil=>exact .nil
  |cons x r ih=>exact .cons (.refl x) ih
theorem Ib {a b x y:Nat}(h:(a==b)=false):((a,x):D7)≠(b,y):=by rintro ⟨⟩;simp at h
theorem nd1 {k:D7}: [k].Nodup:=by simp
theorem OU {k k':D7}(h:k≠k'): [k,k'].Nodup:=by simp [h]
theorem S0 {k:D7}:k∉ ([]:List D7):=by simp
theorem HS {i d u:Nat}{ks:List D7}(h:Nat.blt d 900000=true)(hr:Z3 i∉ks):Z3 i∉ (d,u)::ks:=by
  simp only [lQ,not_or];exact ⟨fun e=>KV h i e.symm,hr⟩
theorem Pv {l:List D}:All2 DLe l l:=by
  induction l with
  |nil=>exact .nil
  |cons x r ih=>exact .cons (.refl x) ih
end
end Go.Abs
namespace Go.Abs
open Go
theorem Y6 {x d:Nat}{l:List Nat}(h:d∈l)(ha:(l.all fun a=> !(a==x))=true):(d==x)=false:=by
  have:=lU.1 ha d h;simpa using this
theorem NX {k:D7}{r:Option Blk}: ∀(n:Nat) {l:List (D7×Option Blk)},((l.take n).all fun e=> !(k.1==e.1.1))=true→G (l.drop n) k=r→G l k=r
  |0,_,_,h2=>h2
  |n+1,[],_,h2=>h2
  |n+1,(i,b)::l,h1,h2=>by
   simp only [List.take_succ_cons,List.all_cons,l6]at h1;exact A9 (by simpa using h1.1) (NX n h1.2 h2)
theorem U8 {t:Nat→AV}: ∀{l:List (Nat×AV)},(l.map fun p=>t p.1)=l.map (fun p=>p.2)→RA t l
  | [],_=>trivial
  |(i,v)::l,h=>by
   rw [lN,lN,List.cons.injEq]at h;exact ⟨.of h.1,U8 h.2⟩
theorem Mn {x d:Nat}{l:List Nat}(h:d∈l)(ha:(l.all fun a=> !(x==a))=true):(x==d)=false:=by
  have:=lU.1 ha d h;simpa using this
theorem U9 {d e:Nat}{l m:List Nat}(h:d∈l)(h':e∈m)(ha:(l.all fun a=>m.all fun b=> !(a==b))=true):(d==e)=false:=by
  have:=lU.1 (lU.1 ha d h) e h';simpa using this
theorem NY {d:Nat}{l m:List Nat}(h:d∈l)(ha:(l.all fun a=>m.contains a)=true):d∈m:=by
  have:=lU.1 ha d h;simpa using this
def CA {α:Type}(t:Nat→AV)(f:α→List D)(sz:Nat):Nat→List (Nat×Nat×Opd)→List α→Prop
  |_,[],[]=>True
  |i,(off,m,x)::ps,a::as=>off=i*sz∧m=sz∧Gn (ev t x)=some ((f a).map .d)∧CA t f sz (i+1) ps as
  |_,_,_=>False
theorem KZ {α:Type}(pre post vs:List α)(h:vs.length≤post.length):Gp (pre++post) pre.length vs=pre++ (vs++post.drop vs.length):=by
  apply List.ext_getElem?;intro i;rw [Dg _ _ _ _ (by simp;omega)];by_cases h1:i<pre.length
  ·rw [l5 (by omega),lT h1,lT h1]
  ·rw [lS (by omega),lS (by omega)];by_cases h2:i<pre.length+vs.length
   ·rw [l4 (by omega),lT (by omega)]
   ·rw [l5 (by omega),lS (by omega),lW];congr 1;omega
theorem Yz {α:Type}{t:Nat→AV}{f:α→List D}{sz:Nat}(hf: ∀a,(f a).length=sz): ∀(as:List α) (ps:List (Nat×Nat×Opd)) (i:Nat) (pre post:List AV),pre.length=i*sz→post.length=as.length*sz→CA t f sz i ps as→
    Ly t (pre++post) ps=some (pre++ (as.flatMap f).map .d)
  | [],[],i,pre,post,_,hl,_=>by
    have:post= []:=lV (by simpa using hl);subst this;simp [Ly]
  | [],_::_,_,_,_,_,_,hp=>hp.elim
  |_::_,[],_,_,_,_,_,hp=>hp.elim
  |a::as,(off,m,x)::ps,i,pre,post,h1,h2,hp=>by
   obtain ⟨rfl,rfl,hc,hr⟩:=hp;have hl:post.length=m+as.length*m:=by rw [h2,lJ,bD];omega
   have hv:((f a).map AV.d).length=m:=by simp [hf]
   simp only [Ly,hc,hv,true_and];rw [l4 (by simp [h1,hl]),← h1,KZ _ _ _ (by rw [hv,hl];omega),hv,← lM];rw [Yz hf as ps (i+1) _ _ (by rw [lK,hv,h1,bD];omega) (by rw [List.length_drop,hl];omega) hr];simp
theorem Za {α:Type}{f:α→List D}{sz:Nat}(hf: ∀a,(f a).length=sz): ∀as:List α,Fj sz as.length (as.flatMap f)=as.map f
  | []=>rfl
  |a::as=>by
   simp only [lJ,Fj,lY,lN];rw [List.take_left' (hf a),List.drop_left' (hf a),Za hf as]
theorem AP {α:Type}(z:List α): ∀n,(Lg z n).length=n*z.length
  |0=>by simp [Lg]
  |n+1=>by simp [Lg,AP z n,bD];omega
theorem AQ: ∀l:List D,He (l.map .d)=some l
  | []=>rfl
  |x::r=>by simp [He,AQ r]
theorem Fs {α:Type}{t:Nat→AV}{h:C7}{e sz n:Nat}{z:List D}{ps:List (Nat×Nat×Opd)}(f:α→List D)(xs:List α)(hf: ∀a,(f a).length=sz)(hz:z.length=sz)(hn:xs.length=n)(hp:CA t f sz 0 ps xs)(hm: ∀a,(f a).map nrm=f a):
    J1 t h (.dslice e sz n z ps)=some (.d (.list (xs.map f))):=by
  have:=Yz hf xs ps 0 [] ((Lg z n).map .d) (by simp) (by rw [lO,AP,hz,hn]) hp;simp only [List.nil_append]at this;simp only [J1,this,lA,AQ,lE];rw [← hn,Vq,Za hf,List.map_map,show ((fun x=>List.map nrm x)∘f)=f from funext hm]
def SM (ks:List Int)(n:Int):List Int:=if n∈ks then ks else ks++ [n]
theorem DLe.bp {xs ys:List D}{off:Nat}(h:All2 (fun x y=>DLe x y∧y.one=true) xs ys):DLe (.bp xs off) (.bp ys off):=by
  intro w I v hv;cases hv with
  |bp _ _ g vs ty fz hI hg hl hone hr=>
   refine .bp ys off g vs ty fz hI hg (by rw [← h.length];exact hl) (fun i d hi=> ?_) (fun i d hi=> ?_)
   ·obtain ⟨a,_,h2⟩:=h.get hi;exact h2.2
   ·obtain ⟨a,h1,h2⟩:=h.get hi;exact h2.1 _ _ _ (hr i a h1)
section
variable {P:Program}{u:Nat}{r:List AOp}{l:List (Nat×AV)}{g:List (D7×Option Blk)}{t:Nat→AV}{h:C7}
theorem HT {K:(Nat→AV)→C7→Prop}{α:Type}{d e sz:Nat}{ty:TypeId}{x y:Opd}(f:α→List D)(k:D7)(xs ys zs:List α)(hy:Ad (G g) sz (ev (T l) y)=some (ys.map f))(hx:ev (T l) x=oS xs k)(hb:G g k=oB e sz f xs)(hl:Ae xs ys=some zs)(hn:G g (d,u)=none)
    (hk:M9 P u r (T ((d,oS zs (d,u))::l)) (G (((d,u),oB e sz f zs)::(k,none)::g)) K):M9 P u (⟨some d, .append ty e sz x y,none⟩::r) (T l) (G g) K:=by
  cases ys with
  |cons v ys=>
   refine J9 f k xs v ys zs hy hx hb hl ?_;rw [X0 (k:=(d,u)) (N7 hl),KN (N7 hl)]at hk;exact hk
  |nil=>
   obtain ⟨h1,rfl⟩:=Fr hl;cases xs with
   |nil=>
    have hy':Ad (G g) sz (ev (T l) y)=some []:=hy;have hx':ev (T l) x= .d .nilS:=hx;unfold M9;simp only [gW,Wx,Gm,hy',hx',Q0]
    have e0:G (((d,u),oB e sz f ([]:List α))::(k,none)::g)=G g:=by
      funext q;rw [G,G];by_cases e1:q=(d,u)
      ·subst e1;rw [l4 rfl,hn];rfl
      ·rw [l5 e1];by_cases e2:q=k
       ·subst e2;rw [l4 rfl,hb];rfl
       ·rw [l5 e2]
    rw [← e0];exact hk
   |cons x0 xs=>
    refine Fm f k (x0::xs) [] _ hy hx hb hl ?_;exact hk
end
end Go.Abs
namespace Go.Abs
open Go
class Le {α:Type} (x y:Option α):Prop where
  out: ∀r,x=some r→y=some r
section
variable {α β γ σ τ:Type}
instance {x y:Option α}:CoeFun (Le x y) (fun _=> ∀r,x=some r→y=some r):=⟨fun h=>h.out⟩
instance (priority:=low) Le.refl (x:Option α):Le x x:=⟨fun _ h=>h⟩
instance Le.bind {x y:Option α}{f g:α→Option β}[h:Le x y][hf: ∀v,Le (f v) (g v)]:Le (x.bind f) (y.bind g):=by
  refine ⟨fun r hr=> ?_⟩;cases x with
  |none=>cases hr
  |some v=>rw [h v rfl];exact hf v r hr
instance Le.cond {b:Bool}{x y x' y':Option α}[h:Le x x'][h':Le y y']:Le (cond b x y) (cond b x' y'):=by cases b<;>assumption
instance Le.ite {p:Prop}[Decidable p]{x y x' y':Option α}[h:Le x x'][h':Le y y']:Le (if p then x else y) (if p then x' else y'):=by split<;>assumption
instance Le.thenS {x x':Option (Sum σ β)}{f f':σ→Option γ}{g g':β→Option γ}[h:Le x x'][hf: ∀v,Le (f v) (f' v)][hg: ∀v,Le (g v) (g' v)]:Le (thenS x f g) (thenS x' f' g'):=by
  refine ⟨fun r hr=> ?_⟩;cases x with
  |none=>cases hr
  |some v=>rw [h v rfl];cases v<;>first|exact hf _ r hr|exact hg _ r hr
@[reducible] def P9:Lp:=⟨fun f s=>loopN f 100000 s⟩
theorem Le.loopN {f f':σ→Option (Stp σ τ)}(h: ∀s,Le (f s) (f' s)): ∀(n:Nat) (s:σ),Le (loopN f n s) (loopN f' n s)
  |0,s=>⟨fun r hr=>by cases hr⟩
  |n+1,s=>⟨fun r hr=>by
   rw [Abs.loopN]at hr ⊢;cases hf:f s with
   |none=>rw [hf]at hr;cases hr
   |some x=>
    rw [hf]at hr;rw [h s x hf];cases x with
    |go s'=>exact Le.loopN h n s' r hr
    |out t=>exact hr⟩
instance Le.loop {f f':σ→Option (Stp σ τ)}[h: ∀s,Le (f s) (f' s)](s:σ):Le (@loop _ _ P9 f s) (loop f' s):=⟨fun r hr=>loop_some.2 ⟨_,Le.loopN h _ s r hr⟩⟩
theorem Le.loopLh {f f':σ→α→Option (Stp σ τ)}{e:σ→τ}(h: ∀s a,Le (f s a) (f' s a)): ∀(l:List α) (s:σ),Le (loopL f e l s) (loopL f' e l s)
  | [],s=>⟨fun r hr=>hr⟩
  |a::l,s=>⟨fun r hr=>by
   rw [Abs.loopL]at hr ⊢;cases hf:f s a with
   |none=>rw [hf]at hr;cases hr
   |some x=>
    rw [hf]at hr;rw [h s a x hf];cases x with
    |go s'=>exact Le.loopLh h l s' r hr
    |out t=>exact hr⟩
instance Le.loopL {f f':σ→α→Option (Stp σ τ)}{e:σ→τ}[h: ∀s a,Le (f s a) (f' s a)](l:List α)(s:σ):Le (loopL f e l s) (loopL f' e l s):=Le.loopLh h l s
end
end Go.Abs
namespace Go.Abs
open Go
abbrev oo (d:Nat)(k:AK):AOp:=⟨some d,k,none⟩
abbrev og (d:Nat)(k:AK)(j:Nat):AOp:=⟨some d,k,some (j,true)⟩
abbrev oh (d:Nat)(k:AK)(j:Nat):AOp:=⟨some d,k,some (j,false)⟩
abbrev oe (k:AK):AOp:=⟨none,k,none⟩
abbrev ci (n:Int):Opd:= .c (.v (.int .i64 n))
abbrev cf (n:Nat):Opd:= .c (.fn (.func n) [] [])
abbrev z0:D:= .v (.int .i64 0)
abbrev zf:D:= .v (.bool false)
abbrev di (n:Int):AV:= .d (.v (.int .i64 n))
abbrev db (b:Bool):AV:= .d (bo b)
abbrev dl {α:Type}(e:α→List D)(xs:List α):AV:= .d (.list (List.map e xs))
def gl:List (D7×Option Blk)→Nat→Option (D7×Option Blk)
  | [],_=>none
  |(k,b)::l,d=>cond (Nat.beq k.1 d) (some (k,b)) (gl l d)
theorem LA {b:Option Blk}{k:D7}: ∀{g:List (D7×Option Blk)},gl g k.1=some (k,b)→G g k=b
  | [],h=>by cases h
  |(q,c)::l,h=>by
   unfold gl at h;cases e:Nat.beq q.1 k.1
   ·rw [e,cond_false]at h;have ne:k≠q:=by rintro rfl;simp at e
    rw [G,l5 ne];exact LA h
   ·rw [e,cond_true]at h;simp only [Option.some.injEq,Prod.mk.injEq]at h;obtain ⟨rfl,rfl⟩:=h;exact A2
theorem gq {d u:Nat}{b:Option Blk}{g:List (D7×Option Blk)}(h:gl g d=some ((d,u),b)):G g (d,u)=b:=LA h
theorem DV {l:List (Nat×AV)}: ∀{l0:List (Nat×AV)},l0.map (fun p=>(p.1,T l p.1))=l0→RA (T l) l0
  | [],_=>trivial
  |(i,v)::r,h=>by
   simp only [lN,List.cons.injEq,Prod.mk.injEq,true_and]at h;exact ⟨.of h.1,DV h.2⟩
theorem DW {g:List (D7×Option Blk)}: ∀{g0:List (D7×Option Blk)},g0.map (fun p=>gl g p.1.1)=g0.map some→Wy (G g) g0
  | [],_=>trivial
  |(k,b)::r,h=>by
   simp only [lN,List.cons.injEq]at h;refine ⟨?_,DW h.2⟩;cases b with
   |none=>trivial
   |some b=>exact ⟨b,LA h.1, .refl b⟩
theorem D1 {l l0:List (Nat×AV)}{g g0:List (D7×Option Blk)}(h1:l0.map (fun p=>(p.1,T l p.1))=l0)(h2:g0.map (fun p=>gl g p.1.1)=g0.map some):Sb ⟨T l0,G g0⟩ ⟨T l,G g⟩:=C1 (DV h1) (DW h2)
theorem nl {a b:Nat}(h:Nat.ble a b=true):a≤b:=Nat.le_of_ble_eq_true h
theorem bs {α β:Type}{o:Option α}{f:α→Option β}{r:β}{Q:Prop}(h:o.bind f=some r)(k: ∀v,o=some v→f v=some r→Q):Q:=by
  cases o with
  |none=>cases h
  |some v=>exact k v rfl h
theorem js {σ β γ:Type}{x:Option (Sum σ β)}{f:σ→Option γ}{g:β→Option γ}{r:γ}{Q:Prop}(h:thenS x f g=some r)(k: ∀y,x=some y→Sum.elim f g y=some r→Q):Q:=by
  obtain ⟨y,h1,h2⟩:=FM h;exact k y h1 h2
section
variable {P:Program}{N u:Nat}{rk:Option D7}{aops:List AOp}{r:List It}{l:List (Nat×AV)}{g:List (D7×Option Blk)}{K:(Nat→AV)→C7→Prop}{Q:Ex→St→Prop}{s:St}
theorem cc {α:Type}{o:Opd}{a b:AC}{c:Bool}{x y z:α}(hc:ev s.t o= .d (.v (.bool c)))(h:cond c x y=z)(h1:c=true→x=z→Dq P N rk (.c a::r) Q .nrm s)(h2:c=false→y=z→Dq P N rk (.c b::r) Q .nrm s):Dq P N rk (.c (.cond o a b)::r) Q .nrm s:=
  QA c hc (fun e=>h1 e (E2 e h)) (fun e=>h2 e (QB e h))
theorem sd {d:Nat}{k:AK}{v:D}(h0:W5 k=0)(hv:J1 (T l) (G g) k=some (.d v))(hk:M9 P u aops (T ((d, .d v)::l)) (G g) K):M9 P u (⟨some d,k,none⟩::aops) (T l) (G g) K:=B3 (.d v) h0 hv hk
theorem sp {d:Nat}{k:AK}{q:D7}{n:Nat}(h0:W5 k=0)(hv:J1 (T l) (G g) k=some (.ptr q n))(hk:M9 P u aops (T ((d, .ptr q n)::l)) (G g) K):M9 P u (⟨some d,k,none⟩::aops) (T l) (G g) K:=B3 (.ptr q n) h0 hv hk
theorem sq {d:Nat}{k:AK}{q:D7}{n:Nat}(hv:((W5 k,J1 (T l) (G g) k):Nat×Option AV)=(0,some (.ptr q n)))(hk:M9 P u aops (T ((d, .ptr q n)::l)) (G g) K):M9 P u (⟨some d,k,none⟩::aops) (T l) (G g) K:=B3 (.ptr q n) (congrArg Prod.fst hv) (congrArg Prod.snd hv) hk
theorem sm {d ty:Nat}{k:AK}{q:D7}{n:Nat}{cs:List AV}(hv:((Ms k,Mb u d (T l) k):Bool×Option (AV×Blk))=(true,some (.ptr q n, .box ty cs)))(hk:M9 P u aops (T ((d, .ptr q n)::l)) (G (((d,u),some (.box ty cs))::g)) K):M9 P u (⟨some d,k,none⟩::aops) (T l) (G g) K:=Um _ _ (congrArg Prod.fst hv) (congrArg Prod.snd hv) hk
theorem sn {d ty:Nat}{k:AK}{q:D7}{n:Nat}{cs:List AV}(h0:Ms k=true)(hv:Mb u d (T l) k=some (.ptr q n, .box ty cs))(hk:M9 P u aops (T ((d, .ptr q n)::l)) (G (((d,u),some (.box ty cs))::g)) K):M9 P u (⟨some d,k,none⟩::aops) (T l) (G g) K:=Um _ _ h0 hv hk
theorem sv {d:Nat}{k:AK}{v:D}(hv:((W5 k,J1 (T l) (G g) k):Nat×Option AV)=(0,some (.d v)))(hk:M9 P u aops (T ((d, .d v)::l)) (G g) K):M9 P u (⟨some d,k,none⟩::aops) (T l) (G g) K:=B3 (.d v) (congrArg Prod.fst hv) (congrArg Prod.snd hv) hk
theorem ss {d:Nat}{k:AK}{q:D7}(hv:((W5 k,J1 (T l) (G g) k):Nat×Option AV)=(0,some (.sl q)))(hk:M9 P u aops (T ((d, .sl q)::l)) (G g) K):M9 P u (⟨some d,k,none⟩::aops) (T l) (G g) K:=B3 (.sl q) (congrArg Prod.fst hv) (congrArg Prod.snd hv) hk
theorem sl {d n off:Nat}{p:Opd}{q:D7}{ty:TypeId}{cs:List AV}{v:D}(hp:ev (T l) p= .ptr q off)(hb:G g q=some (.box ty cs))(hv:(cs.drop off).head? =some (.d v))(hk:M9 P u aops (T ((d, .d v)::l)) (G g) K):M9 P u (⟨some d, .load n false p,none⟩::aops) (T l) (G g) K:=B3 (.d v) rfl (V1 hp hb hv) hk
theorem W2 {n:Nat}{p x:Opd}{k:D7}{off:Nat}{ty:TypeId}{bs cs:List AV}(hx:((Gn (ev (T l) x),cs.length,ev (T l) p):Option (List AV)×Nat×AV)=(some cs,n, .ptr k off))(hb:G g k=some (.box ty bs))(bs':List AV)(he:((Gp bs off cs,Nat.ble (off+n) bs.length):List AV×Bool)=(bs',true))
    (hk:M9 P u aops (T l) (G ((k,some (.box ty bs'))::g)) K):M9 P u (⟨none, .store n p x,none⟩::aops) (T l) (G g) K:=by
  simp only [Prod.mk.injEq]at hx he;exact Hh _ _ _ _ _ hx.1 hx.2.1 hx.2.2 hb (Nat.le_of_ble_eq_true he.2) bs' he.1 hk
theorem gp {d j:Nat}{b w:Bool}{k:AK}{q:D7}{n:Nat}(h0:W5 k=0)(hg:QR (T l j) b w)(hv:w=true→J1 (T l) (G g) k=some (.ptr q n))(hk:M9 P u aops (T ((d,gd w true (.ptr q n))::l)) (G g) K):M9 P u (⟨some d,k,some (j,b)⟩::aops) (T l) (G g) K:=N2 w (.ptr q n) h0 hg hv hk
theorem gt {d j:Nat}{w:Bool}{k:AK}{v:D}(hg:((W5 k,T l j):Nat×AV)=(0, .d (bo w)))(hv:w=true→J1 (T l) (G g) k=some (.d v))(hk:M9 P u aops (T ((d,gd w true (.d v))::l)) (G g) K):M9 P u (⟨some d,k,some (j,true)⟩::aops) (T l) (G g) K:=N2 w (.d v) (congrArg Prod.fst hg) (K0 (congrArg Prod.snd hg)) hv hk
theorem gf {d j:Nat}{w:Bool}{k:AK}{v:D}(hg:((W5 k,T l j):Nat×AV)=(0, .d (bo w)))(hv:(!w)=true→J1 (T l) (G g) k=some (.d v))(hk:M9 P u aops (T ((d,gd (!w) true (.d v))::l)) (G g) K):M9 P u (⟨some d,k,some (j,false)⟩::aops) (T l) (G g) K:=N2 (!w) (.d v) (congrArg Prod.fst hg) (R9 (congrArg Prod.snd hg)) hv hk
theorem sa {d j x:Nat}{c q:Bool}{yo:Opd}(hj:ev (T l) (.t j)= .d (bo c))(hx:ev (T l) (.t x)=gd c true (.d (bo q)))(hy:ev (T l) yo= .d (bo false))(hk:M9 P u aops (T ((d, .d (bo (c&&q)))::l)) (G g) K):M9 P u (⟨some d, .pick (.t j) (.t x) yo,none⟩::aops) (T l) (G g) K:=B3 _ rfl (RC hj (fun hc=>by rw [hx,A5 hc]) hy) hk
theorem lr {a:AC}(h: ∀u,(∀k,G g k≠none→k.2≠u)→M9 P u aops (T l) (G g) fun t h=>Dq P N rk (.c a::r) Q .nrm ⟨t,h⟩):Dq P N rk (.c (.seq (.reg aops) a)::r) Q .nrm ⟨T l,G g⟩:=A4 (O1 h)
theorem B5 {a:AC}(h: ∀{u:Nat} {_: ∀k,G g k≠none→k.2≠u},M9 P u aops (T l) (G g) fun t h=>Dq P N rk (.c a::r) Q .nrm ⟨t,h⟩):Dq P N rk (.c (.seq (.reg aops) a)::r) Q .nrm ⟨T l,G g⟩:=lr fun u hu=> @h u hu
theorem B7 (h: ∀{u:Nat} {_: ∀k,G g k≠none→k.2≠u},M9 P u aops (T l) (G g) fun t h=>Dq P N rk r Q .nrm ⟨t,h⟩):Dq P N rk (.c (.reg aops)::r) Q .nrm ⟨T l,G g⟩:=O1 fun u hu=> @h u hu
theorem O0 (hn:QW aops=true)(h: ∀{u:Nat} {_: ∀k,G g k≠none→k.2≠u},M9 P u aops (T l) (G g) fun t h=>Dq P N rk r Q .nrm ⟨t,h⟩):Dq P N rk (.c (.draw aops [])::r) Q .nrm ⟨T l,G g⟩:=Mx hn fun u hu=> @h u hu
end
section
variable {t:Nat→AV}{h:C7}
theorem vb {op:BinOp}{x y:Opd}{k:IntKind}{a b:Int}{v:Value}{w:Bool}(hx:ev t x=gd w true (.d (.v (.int k a))))(hy:ev t y= .d (.v (.int k b)))(hr:Xs op k a b=some v)(hw:w=true):J1 t h (.bin op x y)=some (.d (.v v)):=
  M0 (by rw [hx,A5 hw]) hy hr
theorem vl {n:Nat}{p:Opd}{k:D7}{off:Nat}{ty:TypeId}{bs:List AV}{v:AV}{w:Bool}(hp:ev t p=gd w true (.ptr k off))(hb:h k=some (.box ty bs))(hv:(bs.drop off).head? =some v)(hw:w=true):J1 t h (.load n false p)=some v:=V1 (by rw [hp,A5 hw]) hb hv
end
end Go.Abs
namespace Go.Abs
open Go
def oE {α:Type}(xs:List α)(k:D7):AV:=match xs with
  | []=> .d (.list [])
  |_=> .sl k
theorem GL {α:Type}{k:D7}{xs:List α}(h:xs≠ []):oE xs k= .sl k:=by cases xs<;>first|exact absurd rfl h|rfl
theorem oB_ren {α:Type}{ty:TypeId}{sz:Nat}{e:α→List D}{xs:List α}{f:D7→D7}:(oB ty sz e xs).map (Ik f)=oB ty sz e xs:=by cases xs<;>rfl
theorem HU {α:Type}(xs:List α)(k:D7):Gn (oE xs k)=some [oE xs k]:=by cases xs<;>rfl
section
variable {t:Nat→AV}{h:C7}
theorem LB {α:Type}{sz:Nat}{x i:Opd}{f:α→List D}{q:D7}{ty:TypeId}{xs:List α}{k:IntKind}{n:Int}{a:α}(hx:ev t x=oE xs q)(hi:ev t i= .d (.v (.int k n)))(hb:h q=oB ty sz f xs)(hv:G8 xs n=some a):J1 t h (.idxS sz x i)=some (.aptr q sz n.toNat 0):=
  Ga (hx.trans (GL (Ks hv))) hi (Uo hb (Ks hv)) hv
theorem QH {α:Type}{x:Opd}{f:α→List D}{q:D7}{ty:TypeId}{sz:Nat}{xs:List α}(hx:ev t x=oE xs q)(hb:h q=oB ty sz f xs):J1 t h (.len x)=some (.d (i64 xs.length)):=by
  cases xs with
  |nil=>simp only [J1,hx,oE,lL]
  |cons a xs=>exact Ew (f:=f) hx hb
theorem RD {α:Type}{n:Nat}{k:D7}{ty:TypeId}{sz:Nat}{f:α→List D}{xs:List α}(hb:h k=oB ty sz f xs):L8 h (n+1) (oE xs k)=some (.list (xs.map f)):=by
  cases xs with
  |nil=>rfl
  |cons x xs=>exact Rl hb
end
theorem MCall.ofP {P:Program}{f:FuncId}{ds:List D}{r:D}(hp:PCall P f ds r):MCall P f (ds.map .d) [] (.d r) [] [none]:=by
  refine ⟨by simp [OT,RR,QD,NR],hp.1,fun w I ρ vs H hlen hrep=> ?_⟩;refine (hp.2 w I vs H.ilt (by simpa using hlen) (fun i d hi=> ?_)).mono ?_
  ·have:=hrep i (.d d) (by rw [lI,hi];rfl);cases this with|d _ _ h=>exact h
  rintro e w' ⟨x,I',rfl,hr,tr⟩;have hno: ∀g,¬own ρ (G (Qm 0 [])) g:=by rintro g ⟨k,b,h1,_⟩;cases h1
  have H2:HeapOK w' I' ρ (G (Qm 0 [])):=H.keep (fun g hg=>absurd hg (hno g)) (fun b hb=>tr.frame b (H.ilt b hb)) tr.imm (fun g hg=>absurd hg (hno g)) tr.ilt (fun _ _ h=>h) tr.size H.fresh H.rone;refine ⟨x, .d r,I',ρ,G (Qm 0 []),rfl, .d _ _ hr,H2,⟨tr.os,tr.tape,tr.output,tr.size,fun b hb _=>tr.frame b hb,tr.imm,fun b hb hl=> .inl (tr.immBack b hb hl),fun b hb _=>hb,fun _ _ h=>h⟩,fun j=>KR j,rfl,fun i b hb=>by simp at hb,fun j b hb=> ?_,fun j hj i hi=>absurd hi (by simp),fun j j' hj hj' e=> ?_⟩
  ·cases j<;>simp at hb
  ·simp only [lJ,lL]at hj hj';omega
theorem AVle.tup {xs ys:List AV}(h:All2 AVle xs ys):AVle (.tup xs) (.tup ys):=by
  intro w I ρ v hv;cases hv with
  |tup _ vs hl hr=>
   refine .tup _ vs (h.length▸hl) (fun i c hc=> ?_);obtain ⟨a,e1,e2⟩:=h.get hc;exact e2 _ _ _ _ (hr i a e1)
theorem Pw {α:Type}{u S j:Nat}{f:D7→D7}{ty:TypeId}{sz:Nat}{e:α→List D}{xs:List α}{r:List (Option Blk)}{L:List (D7×Option Blk)}(h:Rm u S f (j+1) r=L):Rm u S f j (oB ty sz e xs::r)=((S+j,u),oB ty sz e xs)::L:=by
  rw [Rm,oB_ren,h]
theorem AR {P:Program}{u:Nat}{l:List (Nat×AV)}{g:List (D7×Option Blk)}{S:Nat}{f:Opd}{args:List Opd}{fid:FuncId}{avs avs0:List AV}{pre:List Blk}{v v':AV}{post:List (Option Blk)}{new:List (Option Blk)}(hM:MCall P fid avs0 pre v post new)(κs ks us:List D7)(g':List (D7×Option Blk))
    (hc:T3 (T l) f args=some (fid,avs)) (hle:All2 AVle avs (avs0.map (Zo (X5 (Fp κs) (Fp κs))))) (hks:avs.flatMap (O3 (G g) 6)=ks) (hlive: ∀q∈ks,G g q≠none)
    (hpre:HQ (G g) κs (pre.map (Ik (X5 (Fp κs) (Fp κs))))) (hsub: ∀k∈κs,k∈ks) (hnd:κs.Nodup) (hv:BZ (X5 (Fp κs) fun j=>(S+j,u)) v=v')
    (hus:(Nr (Fp κs) (X5 (Fp κs) fun j=>(S+j,u)) 0 post++Rm u S (X5 (Fp κs) fun j=>(S+j,u)) 0 new).map (·.1)=us) {L:List (D7×Option Blk)} (hL:Rm u S (X5 (Fp κs) fun j=>(S+j,u)) 0 new=L)
    (hg:Q0 (G g) (Nr (Fp κs) (X5 (Fp κs) fun j=>(S+j,u)) 0 post++L)=G g'):OC P u l g S f args v' ks us g':=
  Pu hM κs ks us g' hc hle hks hlive hpre hsub hnd hv hus (by rw [hL];exact hg)
theorem S3 {d u:Nat}(h:(Nat.blt d 900000||Nat.blt 901000 d)=true){i:Nat}(hi:i<1000):(d,u)≠Z3 i:=by
  simp only [l7,Nat.blt_eq]at h;intro e;simp only [Z3,Prod.mk.injEq]at e;omega
theorem T9 {n:Nat}{v v1:AV}{post new:List (Option Blk)}{h:C7}(σs:List D7)(hv:v1=BZ (X5 Z3 (Fp σs)) v)(hpost:GK h (X5 Z3 (Fp σs)) 0 post)(hnew:NV h (X5 Z3 (Fp σs)) σs new)
    (hl:(σs.length,Nat.ble n 1000)=(new.length,true)) (hd: ∀k∈σs,∀i,i<1000→k≠Z3 i) (hnd:σs.Nodup):Ut n v post new v1 h:=by
  simp only [Prod.mk.injEq,Nat.ble_eq]at hl
  have hget: ∀j,j<new.length→Fp σs j∈σs:=by
    intro j hj;simp only [Fp,List.getD,lG (show j<σs.length by omega),Option.getD_some];exact List.getElem_mem _
  refine ⟨Fp σs,hv,fun i b hb=> ?_,fun j b hb=>Yv hnew hb,fun j hj i hi=>hd _ (hget j hj) i (by omega),fun j j' hj hj' e=> ?_⟩
  ·have:=Vx hpost hb
   rwa [bE]at this
  ·simp only [Fp,List.getD,lG (show j<σs.length by omega),lG (show j'<σs.length by omega),Option.getD_some]at e;exact Vw hnd (by omega) (by omega) e
end Go.Abs
namespace Go.Abs
open Go
def NZ (h:C7)(x y:AV):Prop:=AVle x y∨∃d d',L8 h 6 x=some d∧DLe d d'∧y= .d d'
def QI (h:C7)(ks:List D7)(k:D7)(b:Blk):Prop:=k∉ks∧∃b0,h k=some b0∧(b0=b∨∃ty cs cs',b0= .box ty cs∧b= .box ty cs'∧All2 (NZ (R0 h ks)) cs cs')
def RE (I:Nat→Prop)(ρ:Rho)(h:C7)(ks:List D7):Nat→Prop:=fun b=>I b∨own ρ (R0 h ks) b
section
variable {w:World}{I:Nat→Prop}{ρ:Rho}{h:C7}{ks:List D7}
theorem Hi {q:D7}{b:Blk}(hq:R0 h ks q=some b):h q=some b∧q∈ks:=by
  have:(if q∈ks then h q else none)=some b:=hq;split at this
  ·exact ⟨this,‹_›⟩
  ·cases this
theorem GM (H:HeapOK w I ρ h){x y:AV}{v:Value}(hf:NZ (R0 h ks) x y)(hx:RepV w I ρ x v):RepV w (RE I ρ h ks) ρ y v:=by
  rcases hf with q|⟨d,d',h1,h2,rfl⟩
  ·exact (q _ _ _ _ hx).keep (fun _ _=>rfl) (fun _ h=> .inl h) (fun _ _ h=>h)
  ·have Hk:=H.sub fun q b hq=>(Hi (ks:=ks) hq).1;exact .d _ _ (h2 _ _ _ (Hf Hk 6 x d v hx h1))
theorem Uv {k:D7}{b b0:Blk}(q:b0=b∨∃ty cs cs',b0= .box ty cs∧b= .box ty cs'∧All2 (NZ (R0 h ks)) cs cs'):M2 ρ k b=M2 ρ k b0:=by
  rcases q with rfl|⟨ty,cs,cs',rfl,rfl,_⟩<;>rfl
theorem GN (H:HeapOK w I ρ h){h':C7}(hh: ∀k b,h' k=some b→QI h ks k b):HeapOK w (RE I ρ h ks) ρ h':=by
  have Hk:=H.sub fun q b hq=>(Hi (ks:=ks) hq).1;refine ⟨fun k b hb=> ?_,fun k k' b b' g h1 h2 h3 h4=> ?_,fun k b g h1 h2 hi=> ?_,fun k b g h1 h2=> ?_,fun b hb=> ?_,H.fresh,H.rone⟩
  ·obtain ⟨_,b0,e1,rfl|⟨ty,cs,cs',rfl,rfl,ha⟩⟩:=hh k b hb
   ·exact (H.blk k b0 e1).keep (fun _ _=>rfl) (fun _ _=>rfl) (fun _ h=> .inl h) (fun _ _ h=>h)
   ·obtain ⟨g,vs,b1,b2,b3,b4,b5⟩:=H.blk k _ e1;refine ⟨g,vs,b1,b2,by rw [← ha.length];exact b3,b4,fun i c hc=> ?_⟩;obtain ⟨x,g1,g2⟩:=ha.get hc;exact GM H g2 (b5 i x g1)
  ·obtain ⟨_,b0,e1,q⟩:=hh k b h1;obtain ⟨_,b1,e2,q'⟩:=hh k' b' h2;rw [Uv q]at h3;rw [Uv q']at h4;exact H.sep k k' b0 b1 g e1 e2 h3 h4
  ·obtain ⟨n,b0,e1,q⟩:=hh k b h1;rw [Uv q]at h2;rcases hi with hi|⟨k',b',e2,e3⟩
   ·exact H.notI k b0 g e1 h2 hi
   ·obtain ⟨e4,e5⟩:=Hi e2;have:=H.sep k k' b0 b' g e1 e4 h2 e3;subst this;exact n e5
  ·obtain ⟨n,b0,e1,q⟩:=hh k b h1;rw [Uv q]at h2;exact H.lt k b0 g e1 h2
  ·rcases hb with hb|hb
   ·exact H.ilt b hb
   ·exact Hk.own_lt hb
theorem LC {h':C7}(hh: ∀k b,h' k=some b→QI h ks k b){g:Nat}(ho:own ρ h' g):own ρ h g:=by
  obtain ⟨k,b,h1,h2⟩:=ho;obtain ⟨_,b0,e1,q⟩:=hh k b h1;exact ⟨k,b0,e1,by rw [← Uv q];exact h2⟩
theorem OV {h':C7}(hh: ∀k b,h' k=some b→QI h ks k b):Tr w I ρ h w (RE I ρ h ks) ρ h':=
  ⟨rfl,rfl,rfl,bB _,fun _ _ _=>rfl,fun _ h=> .inl h,fun _ hb _=>hb.imp id fun ⟨k,c,a1,a2⟩=>⟨k,c,(Hi a1).1,a2⟩,fun _ hb _=>LC hh hb,fun _ _ h=>h⟩
end
section
variable {P:Program}{N:Nat}{rk:Option D7}{s:St}{Q:Ex→St→Prop}
theorem QJ {c:Code}{s0:St}(ks:List D7)(ht: ∀i,NZ (R0 s.h ks) (s.t i) (s0.t i))(hg: ∀k b,s0.h k=some b→QI s.h ks k b)(h:AWc P N rk c s0 Q):AWc P N rk c s Q:=by
  intro w I ρ a hs ro hro
  have hs0:Sim w (RE I ρ s.h ks) ρ N s0 a:=⟨hs.size,⟨hs.defers.nd,fun d hd=>by
    obtain ⟨r,e1,e2,e3,e4⟩:=hs.defers.each d hd
    exact ⟨r,e1,e2,fun q=>q.elim e3 fun ⟨k,c,a1,a2⟩=>e4 ⟨k,c,(Hi a1).1,a2⟩,fun q=>e4 (LC hg q)⟩⟩,fun i=>GM hs.heap (ht i) (hs.tmp i),GN hs.heap hg⟩
  refine (h w _ ρ a hs0 ro hro).mono ?_;rintro e a' w' ⟨s',I',ρ',hq,hs',htr,hnd⟩;exact ⟨s',I',ρ',hq,hs',(OV hg).trans htr,hnd⟩
end
def RS (h:C7)(t:Nat→AV):List (Nat×AV)→Prop
  | []=>True
  |(i,v)::r=>NZ h (t i) v∧RS h t r
def QK (h:C7)(ks:List D7):List (D7×Option Blk)→Prop
  | []=>True
  |(k,b)::r=>(match b with|some b=>QI h ks k b|none=>True)∧QK h ks r
theorem GO {h:C7}{t:Nat→AV}: ∀{l:List (Nat×AV)},RS h t l→∀i,NZ h (t i) (T l i)
  | [],_,i=> .inl (.any _)
  |(j,v)::r,H,i=>by
   rw [T];split
   ·rename_i e;subst e;exact H.1
   ·exact GO H.2 i
theorem GP {h:C7}{ks:List D7}: ∀{g:List (D7×Option Blk)},QK h ks g→∀k b,G g k=some b→QI h ks k b
  | [],_,k,b,hb=>by cases hb
  |(j,v)::r,H,k,b,hb=>by
   rw [G]at hb;split at hb
   ·rename_i e;subst e;subst hb;exact H.1
   ·exact GP H.2 k b hb
section
variable {P:Program}{N:Nat}{rk:Option D7}{r:List It}{Q:Ex→St→Prop}{l:List (Nat×AV)}{g:List (D7×Option Blk)}
theorem RU {a:AC}(ks:List D7)(l0:List (Nat×AV))(g0:List (D7×Option Blk))(h1:RS (R0 (G g) ks) (T l) l0)(h2:QK (G g) ks g0)(h:Dq P N rk (.c a::r) Q .nrm ⟨T l0,G g0⟩):Dq P N rk (.c a::r) Q .nrm ⟨T l,G g⟩:=
  fun M c hc=>QJ (s:=⟨T l,G g⟩) ks (GO h1) (GP h2) (h M c hc)
end
theorem Uw {h:C7}{x y:AV}(e:x=y):NZ h x y:= .inl (.of e)
theorem RW {h:C7}{x:AV}{d d':D}(h1:L8 h 6 x=some d)(h2:DLe d d'):NZ h x (.d d'):= .inr ⟨d,d',h1,h2,rfl⟩
theorem LD {h:C7}{ks:List D7}{k:D7}{b:Blk}{l:List (D7×Option Blk)}(h1:h k=some b)(hn:k∉ks)(hl:QK h ks l):QK h ks ((k,some b)::l):=⟨⟨hn,b,h1, .inl rfl⟩,hl⟩
theorem OA {h:C7}{ks:List D7}{k:D7}{ty:TypeId}{cs cs':List AV}{l:List (D7×Option Blk)}(h1:h k=some (.box ty cs))(hn:k∉ks)(hc:All2 (NZ (R0 h ks)) cs cs')(hl:QK h ks l):QK h ks ((k,some (.box ty cs'))::l):=⟨⟨hn,_,h1, .inr ⟨ty,cs,cs',rfl,rfl,hc⟩⟩,hl⟩
theorem Ts {k:D7}:k∉ ([]:List D7):=by simp
theorem Im {k q:D7}{ks:List D7}(h:k≠q)(hr:k∉ks):k∉q::ks:=by simp [h,hr]
theorem FCall.fr {P:Program}{u S:Nat}{f:FuncId}{avs:List AV}{ds ds':List D}{v:AV}{ups:List (D7×Option Blk)}{h0:C7}(hF:FCall P u S f (ds'.map .d) (fun _=>none) v ups)(hd:N9 (L8 h0 6) avs=some ds)(hle:All2 DLe ds ds')(_hu: ∀k∈ups.map (·.1),∃j,j<6∧k=(S+j,u)):
    FCall P u S f avs (R0 h0 (avs.flatMap (O3 h0 6))) v ((avs.flatMap (O3 h0 6)).map (fun k=>(k,none))++ups):=by
  refine ⟨hF.1,fun w I ρ h vs H hh hlen hrep hfr=> ?_⟩;have hlive:=Kz avs ds hd
  have heq: ∀q∈avs.flatMap (O3 h0 6),h q=h0 q:=by
    intro q hq;cases hb:h0 q with
    |none=>exact absurd hb (hlive q hq)
    |some b=>exact hh q b (by unfold R0;rw [l4 hq,hb])
  have hd':N9 (L8 h 6) avs=some ds:=by rw [← hd];exact Jh avs heq
  rw [← Ra avs heq];clear hd hh heq hlive;generalize hks:avs.flatMap (O3 h 6)=ks at*
  let hf:C7:=fun q=>if q∈ks then none else h q
  have hff: ∀k b,hf k=some b→QI h ks k b:=by
    intro q b hq;have:(if q∈ks then none else h q)=some b:=hq;split at this
    ·cases this
    ·exact ⟨‹_›,b,this, .inl rfl⟩
  have hU:Q0 h (ks.map fun k=>(k,none))=hf:=by
    funext q;show _=if q∈ks then none else h q
    by_cases e:q∈ks
    ·rw [l4 e];cases hb:Q0 h (ks.map fun k=>(k,none)) q with
     |none=>rfl
     |some b=>
      rcases Sl _ _ _ _ hb with ⟨a,_⟩|a
      ·exact absurd (by simp only [List.map_map,List.mem_map,Function.comp];exact ⟨q,e,rfl⟩) a
      ·simp at a
    ·rw [l5 e,Ch];simp only [List.map_map,List.mem_map,Function.comp];rintro ⟨x,hx,rfl⟩;exact e hx
  have hUU: ∀(a b:List (D7×Option Blk)) (h:C7),Q0 h (a++b)=Q0 (Q0 h a) b:=by
    intro a
    induction a with
    |nil=>intro b h;rfl
    |cons x a ih=>intro b h;obtain ⟨k,c⟩:=x;exact ih b _
  have H1:=GN (ks:=ks) H hff
  have hk:N9 (L8 (R0 h ks) 6) avs=some ds:=by
    rw [← hd'];refine Jh avs fun q hq=> ?_;rw [hks]at hq;show (if q∈ks then h q else none)=h q;rw [l4 hq]
  obtain ⟨l1,l2⟩:=Cg hk;have Hk:=H.sub fun q b hq=>(Hi (ks:=ks) hq).1;refine (hF.2 w (RE I ρ h ks) ρ hf vs H1 (fun q b hq=>by cases hq) (by rw [lO,← hle.length];omega) (fun i c hc=> ?_) hfr).mono ?_
  ·obtain ⟨d',e1,rfl⟩:=Xg hc;obtain ⟨d,e2,e3⟩:=hle.get e1;obtain ⟨x,e4,e5⟩:=l2 i d e2;exact .d _ _ (e3 _ _ _ (Hf Hk 6 x d _ (hrep i x e4) e5))
  rintro e w' ⟨x,I',ρ',rfl,r1,r2,r3,r4⟩;rw [hUU,hU];exact ⟨x,I',ρ',rfl,r1,r2,(OV hff).trans r3,r4⟩
section
variable {P:Program}{u:Nat}{l:List (Nat×AV)}{g:List (D7×Option Blk)}
end
end Go.Abs
namespace Go.Abs
open Go
def fnD:Option Nat→D
  |some f=> .fn (.func f) [] []
  |none=> .v .nilFunc
def SN (l:List (Option Nat))(n:Int):Option Nat:=if 0≤n then (l[n.toNat]?).join else none
theorem Vz {α:Type}{v a:Nat}{x y:Option α}{r:α}(h:cond (Nat.beq v a) x y=some r):v=a∧x=some r∨Nat.beq v a=false∧y=some r:=by
  cases e:Nat.beq v a
  ·rw [e]at h;exact .inr ⟨rfl,h⟩
  ·rw [e]at h;exact .inl ⟨Nat.eq_of_beq_eq_true e,h⟩
end Go.Abs
namespace Go.Abs
open Go
def RL {α:Type}(xs:List α)(i:Int)(ys:List α):Option (List α):=if xs.length≠0∧ys.length≠0∧0≤i∧i≤xs.length∧xs.length+ys.length≤1000000000 then some (xs.take i.toNat++ys++xs.drop i.toNat)else none
def SO (P:Program)(f:FuncId)(e sz:Nat):Prop:= ∀(xs ys:List (List D)) (i:Nat),xs≠ []→ys≠ []→i≤xs.length→xs.length+ys.length≤1000000000→
  MCall P f [.sl (900000,0), .d (.v (.int .i64 i)), .sl (900001,0)] [.arr e sz xs, .arr e sz ys] (.sl (800000,0)) [none,none] [some (.arr e sz (xs.take i++ys++xs.drop i))]
theorem RF {g:List (D7×Option Blk)}{k:D7}{b:Option Blk}(h:G g k=b):G g=G ((k,b)::g):=by
  funext q;rw [G];split
  ·rename_i e;rw [e];exact h
  ·rfl
end Go.Abs
namespace Go.Abs
open Go
def OW (P:Program)(fn:Func)(N:Nat)(M:Yl):Option (List RV×AC):=
  match fn.results.toList.mapM (Yn P),fn.body with
  |some rs,some c=>match Z1 P N M c,fn.name== "runtime.NumGoroutine" with
   |some ac,false=>some (rs,ac)
   |_,_=>none
  |_,_=>none
theorem fk {P:Program}{f:FuncId}{fn:Func}{N:Nat}{rs:List RV}{ac:AC}(h:P.funcs[f]? =some fn)(hn:fn.ntmps=N)(M:Yl)(hc:OW P fn N M=some (rs,ac)):FnOK P f N rs ac:=by
  unfold OW at hc;split at hc
  ·rename_i rs' c hr hb;split at hc
   ·rename_i ac' hac hx;simp only [Option.some.injEq,Prod.mk.injEq]at hc;obtain ⟨rfl,rfl⟩:=hc;exact ⟨fn,c,h,hb,hn,hr,⟨M,hac⟩,hx⟩
   ·cases hc
  ·cases hc
def m0:Yl:=fun _=> []
theorem rD {h:C7}{n:Nat}{x:D}{r:List AV}{ds:List D}(h2:N9 (L8 h n) r=some ds):N9 (L8 h n) (.d x::r)=some (x::ds):=J2 C6 h2
theorem ca {x:D}{xs ys:List D}(hx:x.one=true)(h:All2 (fun x y=>DLe x y∧y.one=true) xs ys):All2 (fun x y=>DLe x y∧y.one=true) (x::xs) (x::ys):= .cons ⟨.refl _,hx⟩ h
theorem cz: ∀{xs:List D} (_:xs.all D.one=true),All2 (fun x y=>DLe x y∧y.one=true) xs xs
  | [],_=> .nil
  |_::_,h=>by
   simp only [List.all_cons,l6]at h;exact ca h.1 (cz h.2)
theorem cv {x:AV}{xs ys:List AV}(h:All2 AVle xs ys):All2 AVle (x::xs) (x::ys):= .cons (.of rfl) h
theorem cw: ∀{xs:List AV},All2 AVle xs xs
  | []=> .nil
  |_::_=>cv cw
abbrev zs (n:Nat):List AV:=List.replicate n (di 0)
theorem sg {g g0:List (D7×Option Blk)}{d u:Nat}{b:Blk}(h:gl g d=some ((d,u),some b))(r:Wy (G g) g0):Wy (G g) (((d,u),some b)::g0):=B9 (gq h) (.of rfl) r
end Go.Abs
namespace Go.Abs
open Go
def LF {α:Type}(xs:List α)(n:Int)(a:α):Option (List α):=if 0≤n∧n.toNat<xs.length then some (xs.set n.toNat a)else none
theorem AS {α:Type}{xs v:List α}{n:Int}{a:α}(h:LF xs n a=some v):(0≤n∧n.toNat<xs.length)∧v=xs.set n.toNat a:=by
  unfold LF at h;split at h
  ·exact ⟨‹_›,(lC h).symm⟩
  ·cases h
theorem GQ {α:Type}{xs:List α}{n:Int}{a:α}(h:G8 xs n=some a):0≤n∧n.toNat<xs.length∧xs[n.toNat]? =some a:=by
  unfold G8 at h;split at h
  ·exact ⟨‹_›,(lH.1 h).1,h⟩
  ·cases h
theorem DX {α:Type}{f:α→List D}{sz:Nat}(hs: ∀x,(f x).length=sz): ∀{xs:List α} {i:Nat} {a:α},xs[i]? =some a→(((xs.map f).flatten).drop (i*sz)).take sz=f a∧(i+1)*sz≤((xs.map f).flatten).length
  | [],_,_,h=>by simp at h
  |x::r,0,a,h=>by
   simp only [List.getElem?_cons_zero,Option.some.injEq]at h;subst h;simp only [lN,List.flatten_cons,Nat.zero_mul,List.drop_zero,bE,Nat.one_mul,lK,hs];refine ⟨?_,by omega⟩;rw [← hs x,List.take_left]
  |x::r,i+1,a,h=>by
   simp only [List.getElem?_cons_succ]at h;obtain ⟨h1,h2⟩:=DX hs h;simp only [lN,List.flatten_cons,lK,hs];rw [Nat.succ_mul i sz,Nat.add_comm (i*sz) sz,← hs x,List.drop_append,hs x];simp only [Nat.add_sub_cancel_left];rw [List.drop_eq_nil_of_le (by rw [hs x];omega),List.nil_append];exact ⟨h1,by rw [Nat.succ_mul (i+1) sz];omega⟩
section
variable {t:Nat→AV}{h:C7}
theorem Ux {α:Type}{len sz:Nat}{x i:Opd}{k:D7}{off:Nat}{kd:IntKind}{n:Int}{xs:List α}{a:α}(hx:ev t x= .ptr k off)(hi:ev t i= .d (.v (.int kd n)))(hv:G8 xs n=some a)(hl:xs.length=len):J1 t h (.idxP len sz x i)=some (.ptr k (off+n.toNat*sz)):=by
  obtain ⟨h0,h1,_⟩:=GQ hv;simp only [J1,hx,hi];rw [l4 ⟨h0,hl▸h1⟩]
theorem LG {α:Type}{sz off:Nat}{bs:List AV}{n:Int}{xs:List α}{a:α}{f:α→List D}(hs: ∀x,(f x).length=sz)(hv:G8 xs n=some a)(hb:(bs.drop off).take (xs.length*sz)=((xs.map f).flatten).map AV.d):
    sz≤(bs.drop (off+n.toNat*sz)).length∧(bs.drop (off+n.toNat*sz)).take sz=(f a).map .d:=by
  obtain ⟨h0,h1,h2⟩:=GQ hv;obtain ⟨g1,g2⟩:=DX hs h2;have hlen:=congrArg List.length hb;rw [lO,lR,List.length_drop]at hlen;rw [bD,Nat.one_mul]at g2;have hle:((xs.map f).flatten).length≤xs.length*sz:=by omega
  have hge:(n.toNat+1)*sz≤xs.length*sz:=Nat.mul_le_mul_right _ h1;rw [bD,Nat.one_mul]at hge;refine ⟨by rw [List.length_drop];omega,?_⟩;have:(((bs.drop off).take (xs.length*sz)).drop (n.toNat*sz)).take sz=((((xs.map f).flatten).map AV.d).drop (n.toNat*sz)).take sz:=by rw [hb]
  rw [List.drop_take,List.take_take,List.drop_drop,← List.map_drop,← List.map_take,g1,Nat.min_eq_left (by omega)]at this;exact this
theorem LH {α:Type}{sz off:Nat}{p:Opd}{k:D7}{ty:TypeId}{bs:List AV}{n:Int}{xs:List α}{a:α}{f:α→List D}{v:AV}(hp:ev t p= .ptr k (off+n.toNat*sz))(hb:h k=some (.box ty bs))(hv:G8 xs n=some a)(hs: ∀x,(f x).length=sz)(hc:(bs.drop off).take (xs.length*sz)=((xs.map f).flatten).map AV.d)(hr:Ce ((f a).map .d)=v):J1 t h (.load sz true p)=some v:=by
  obtain ⟨h1,h2⟩:=LG hs hv hc;simp only [J1,hp,V0,hb,if_true,h1,h2,hr]
theorem Zb {α:Type}{off:Nat}{p:Opd}{k:D7}{ty:TypeId}{bs:List AV}{n:Int}{xs:List α}{a:α}{f:α→D}(hp:ev t p= .ptr k (off+n.toNat*1))(hb:h k=some (.box ty bs))(hv:G8 xs n=some a)(hc:(bs.drop off).take (xs.length*1)=((xs.map fun x=> [f x]).flatten).map AV.d):J1 t h (.load 1 false p)=some (.d (f a)):=by
  obtain ⟨h1,h2⟩:=LG (f:=fun x=> [f x]) (fun _=>rfl) hv hc;simp only [J1,hp,V0,hb,Bool.false_eq_true,if_false];cases hd:bs.drop (off+n.toNat*1)with
  |nil=>rw [hd]at h2;cases h2
  |cons x r=>rw [hd]at h2;simp only [List.take_succ_cons,List.take_zero,lN,List.map_nil,List.cons.injEq,and_true]at h2;rw [h2];rfl
end
theorem RG {α:Type}{xs v:List α}{n:Int}{a:α}{bs:List AV}(h:LF xs n a=some v)(e:bs.length=xs.length):0+n.toNat*1+1≤bs.length:=by
  have:=(AS h).1;omega
theorem LI {α:Type}(v:List α)(z:α):(List.range v.length).map (fun j=>v.getD j z)=v:=by
  apply List.ext_getElem?;intro i;rw [lI];by_cases h:i<v.length
  ·simp [h]
  ·simp [h]
theorem QL {α:Type}{xs v:List α}{n:Int}{a:α}(g:α→D)(z:α)(h:LF xs n a=some v):Gp (xs.map fun x=>AV.d (g x)) (0+n.toNat*1) [AV.d (g a)]=(List.range xs.length).map fun j=>AV.d (g (v.getD j z)):=by
  obtain ⟨⟨h0,h1⟩,rfl⟩:=AS h;have e:xs.length=(xs.set n.toNat a).length:=by rw [List.length_set]
  rw [e,show (fun j=>AV.d (g ((xs.set n.toNat a).getD j z)))=(fun x=>AV.d (g x))∘fun j=>(xs.set n.toNat a).getD j z from rfl,← List.map_map,LI];simp only [Gp,bE,Nat.mul_one];rw [List.map_set]
def QM (k:IntKind)(a b:Int):Option Int:=if b<0 then none else some (k.wrap (a*2^ (min b.toNat k.bits)))
def QN (k:IntKind)(a b:Int):Option Int:=if b<0 then none else some (a.fdiv (2^ (min b.toNat k.bits)))
theorem RH {t:Nat→AV}{h:C7}{x y:Opd}{k k':IntKind}{a b v:Int}(hx:ev t x= .d (.v (.int k a)))(hy:ev t y= .d (.v (.int k' b)))(hv:QM k a b=some v):J1 t h (.bin .shl x y)=some (.d (.v (.int k v))):=by
  unfold QM at hv;split at hv
  ·cases hv
  ·rename_i h1;cases hv;simp only [J1,hx,hy,Pk,Bool.true_or,if_true,Xs,l5 h1,lE]
theorem RI {t:Nat→AV}{h:C7}{x y:Opd}{k k':IntKind}{a b v:Int}(hx:ev t x= .d (.v (.int k a)))(hy:ev t y= .d (.v (.int k' b)))(hv:QN k a b=some v):J1 t h (.bin .shr x y)=some (.d (.v (.int k v))):=by
  unfold QN at hv;split at hv
  ·cases hv
  ·rename_i h1;cases hv;simp only [J1,hx,hy,Pk,Bool.true_or,if_true,Xs,l5 h1,lE]
end Go.Abs
namespace Go.Abs
open Go
section
variable {P:Program}
end
end Go.Abs
namespace Go.Abs
open Go
section
variable {P:Program}{u:Nat}{r:List AOp}{l:List (Nat×AV)}{g:List (D7×Option Blk)}
end
end Go.Abs
namespace Go.Abs
open Go
def OB (s:ByteArray)(i:Int):Option Int:=if 0≤i then (s.data.toList[i.toNat]?).map fun b=>(b.toNat:Int)else none
def SP (a b:ByteArray):Option ByteArray:=if a.size+b.size≤1000000000 then some (a++b)else none
def SQ (s:ByteArray)(i j:Int):Option ByteArray:=if 0≤i∧i≤j∧j≤s.size then some (s.extract i.toNat j.toNat)else none
section
variable {t:Nat→AV}{h:C7}{x y z:Opd}{s s' v:ByteArray}{k k':IntKind}{i j:Int}
theorem LJ {n:Int}(hx:ev t x= .d (.v (.string s)))(hy:ev t y= .d (.v (.int k i)))(hv:OB s i=some n):J1 t h (.str .idx [x,y])=some (.d (.v (.int .u8 n))):=by
  unfold OB at hv;split at hv
  ·rename_i h0;rw [lD]at hv;obtain ⟨b,hb,rfl⟩:=hv;simp only [J1,lN,List.map_nil,hx,hy,Np,h0,if_true,hb,lE]
  ·cases hv
end
end Go.Abs
namespace Go.Abs
open Go
theorem AT {α β:Type}{xs:List α}{p q:Option β}{r:β}(h:cond xs.isEmpty p q=some r):(xs= []∧p=some r)∨(xs≠ []∧q=some r):=by
  cases xs with
  |nil=>exact .inl ⟨rfl,h⟩
  |cons x xs=>exact .inr ⟨List.cons_ne_nil _ _,h⟩
theorem LK {α:Type}{k:D7}{xs:List α}(h:xs= []):oS xs k= .d .nilS:=by subst h;rfl
def Lh:List Int→List Int
  | []=> []
  | [x]=> [x]
  |x::y::r=>cond (x==y) (Lh (y::r)) (x::Lh (y::r))
def Zc (p:List Int):Option (List Int):=match p with
  | []=>none
  |x::r=>some (Lh (x::r))
theorem CB {p r:List Int}(h:Zc p=some r):p≠ []∧r=Lh p:=by
  cases p with
  |nil=>cases h
  |cons x p=>exact ⟨List.cons_ne_nil _ _,(lC h).symm⟩
theorem Wr (a:Int): ∀l:List Int,Lh (l++ [a])=Lh l++ (if l.getLast? =some a then []else [a])
  | []=>rfl
  | [x]=>by
    by_cases e:x=a
    ·subst e;simp [Lh]
    ·have:(x==a)=false:=by simp [e]
     simp [Lh,e,this]
  |x::y::r=>by
   have ih:=Wr a (y::r);rw [List.cons_append]at ih;rw [List.cons_append,List.cons_append,Lh,Lh,ih,List.getLast?_cons_cons];cases x==y
   ·rfl
   ·rfl
end Go.Abs
namespace Go.Abs
open Go
section
variable {P:Program}{u:Nat}{r:List AOp}{l:List (Nat×AV)}{g:List (D7×Option Blk)}{K:(Nat→AV)→C7→Prop}
def SR {γ:Type}(rs:List RV)(J:AV→γ→List (Nat×AV)×List (D7×Option Blk)→Prop)(l1:γ→List (Nat×AV))(g1:γ→List (D7×Option Blk))(e:Ex)(s:St):Prop:=
  (e= .nrm∨e= .ret)∧∃v gg,Tl s.t s.h rs=some v∧J v gg (l1 gg,g1 gg)∧Wy s.h (g1 gg)
def SS {γ:Type}(t:AV→Nat→AV)(v:AV)(_:γ)(x:List (Nat×AV)×List (D7×Option Blk)):Prop:=RA (t v) x.1
end
end Go.Abs
namespace Go.Abs
open Go
section
variable {P:Program}{N:Nat}{rk:Option D7}{s:St}{Q:Ex→St→Prop}{r:List It}
def SD (P:Program)(c:AV)(Rq:C7→Prop)(L:List (List D)):Prop:= ∃gf fs cs,KD c=some (gf,fs,cs)∧∀(k:D7) (h0:C7) (Inv:Nat→C7→Prop) (Stop:C7→Prop),Inv 0 h0→(∀i h,Inv i h→∃h1,Sb ⟨T [],h1⟩ ⟨T [],h⟩∧Inv i h1∧Rq h1)→
  (∀i h es,L[i]? =some es→Inv i h→YCall P k (es.map .d) h fun v h'=>(v= .d (.v (.bool true))∧Inv (i+1) h')∨(v= .d (.v (.bool false))∧Stop h'))→
   ICall P gf (fs++ [.yld k]++cs) h0 fun _ h'=>Inv L.length h'∨Stop h'
end
section
variable {P:Program}{u:Nat}{r:List AOp}{t:Nat→AV}{h:C7}{K:(Nat→AV)→C7→Prop}
end
section
variable {P:Program}{N:Nat}{rk:Option D7}{s:St}{Q:Ex→St→Prop}{r:List It}
end
end Go.Abs
namespace Go.Abs
open Go
def oW {α:Type}(b:Bool)(xs:List α)(k:D7):AV:=match xs with
  | []=>cond b (.sl k) (.d .nilS)
  |_=> .sl k
def wB {α:Type}(b:Bool)(ty:TypeId)(sz:Nat)(f:α→List D)(xs:List α):Option Blk:=match xs with
  | []=>cond b (some (.arr ty sz [])) none
  |_=>some (.arr ty sz (xs.map f))
section
variable {α:Type}{b:Bool}{xs:List α}{k:D7}{ty:TypeId}{sz:Nat}{f:α→List D}{h:C7}
theorem QO:oW true xs k= .sl k:=by cases xs<;>rfl
theorem oW_f:oW false xs k=oS xs k:=by cases xs<;>rfl
theorem OD:wB true ty sz f xs=some (.arr ty sz (xs.map f)):=by cases xs<;>rfl
theorem OE:wB false ty sz f xs=oB ty sz f xs:=by cases xs<;>rfl
def wD (b:Bool)(f:α→List D)(xs:List α):D:=cond b (.list (xs.map f)) (oD f xs)
theorem Sy:DLe (wD b f xs) (.list (xs.map f)):=by
  cases b
  ·exact Gf
  ·exact .refl _
theorem Sz {n:Nat}(hb:h k=wB b ty sz f xs):L8 h (n+1) (oW b xs k)=some (wD b f xs):=by
  cases b
  ·rw [oW_f];rw [OE]at hb;exact Gg hb
  ·rw [QO];rw [OD]at hb;exact Rl hb
theorem T8 {l:List (D7×Option Blk)}(h1:h k=wB b ty sz f xs)(hl:Wy h l):Wy h ((k,wB b ty sz f xs)::l):=by
  cases b
  ·rw [OE]at h1 ⊢;exact C3 h1 hl
  ·rw [OD]at h1 ⊢;exact B9 h1 (.refl _) hl
theorem CC {l:List (D7×Option Blk)}(h1:h k=oB ty sz f xs)(hl:Wy h l):Wy h ((k,wB false ty sz f xs)::l):=by
  rw [OE];exact C3 h1 hl
theorem Sm (b:Bool)(xs:List α)(k:D7):Gn (oW b xs k)=some [oW b xs k]:=by cases b<;>cases xs<;>rfl
end
section
variable {P:Program}{u:Nat}{r:List AOp}{l:List (Nat×AV)}{g:List (D7×Option Blk)}
theorem AU {K:(Nat→AV)→C7→Prop}{α:Type}{d e sz:Nat}{ty:TypeId}{x y:Opd}(f:α→List D)(b:Bool)(k:D7)(xs ys zs:List α)(hy:Ad (G g) sz (ev (T l) y)=some (ys.map f))(hx:ev (T l) x=oW b xs k)(hb:G g k=wB b e sz f xs)(hl:Ae xs ys=some zs)(hn:G g (d,u)=none)
    (hk:M9 P u r (T ((d,oW b zs (d,u))::l)) (G (((d,u),wB b e sz f zs)::(k,none)::g)) K):M9 P u (⟨some d, .append ty e sz x y,none⟩::r) (T l) (G g) K:=by
  cases b
  ·rw [oW_f]at hx hk;rw [OE]at hb hk;exact HT f k xs ys zs hy hx hb hl hn hk
  ·rw [QO]at hx hk;rw [OD]at hb hk;exact Fm f k xs ys zs hy hx hb hl hk
theorem GR {S:Nat}{fo:Opd}{args:List Opd}{fid:FuncId}{n:Int}{α:Type}{b:Bool}{ty:TypeId}{sz:Nat}{e:α→List D}(hM:MCall P fid [.d .nilS, .d (i64 n)] [] (oW b ([]:List α) (800000,0)) [] [wB b ty sz e ([]:List α)])
    (hc:T3 (T l) fo args=some (fid,[.d .nilS, .d (i64 n)])):OC P u l g S fo args (oW b ([]:List α) (S,u)) [] [(S,u)] (((S,u),wB b ty sz e ([]:List α))::g):=by
  cases b
  ·exact Pu hM [] [] [(S,u)] _ hc Y5 rfl U2 trivial (fun _ h=>h) List.nodup_nil rfl rfl rfl
  ·exact Pu hM [] [] [(S,u)] _ hc Y5 rfl U2 trivial (fun _ h=>h) List.nodup_nil rfl rfl rfl
end
def AX (n:Int):Option Unit:=if 0≤n∧n≤1000000 then some ()else none
theorem DY {n:Int}{v:Unit}(h:AX n=some v):0≤n∧n≤1000000:=by
  unfold AX at h;split at h
  ·assumption
  ·cases h
end Go.Abs
namespace Go.Abs
open Go
section
variable {P:Program}{N:Nat}{rk:Option D7}{s:St}{Q:Ex→St→Prop}
theorem OF {c:Code}{i:Nat}{k:D7}{ty:TypeId}{sz:Nat}{es:List (List D)}(hi:s.t i= .sl k)(hb:s.h k=some (.arr ty sz es))
    (h: ∀u',(∀q,s.h q≠none→q.2≠u')→AWc P N rk c ⟨W8 s.t i (.sl (700000,u')),W8 (W8 s.h k none) (700000,u') (some (.arr ty sz es))⟩ Q):AWc P N rk c s Q:=by
  intro w I ρ a hs ro hro;obtain ⟨u',hu,hfk⟩:=hs.fresh_u;obtain ⟨x,xs,hx,hrow,hes,hat⟩:=hs.heap.blk k _ hb;obtain ⟨H',T'⟩:=AG (q:=(700000,u')) (x:=x) (b':= .arr ty sz es) hs.heap hb (hu 700000) (hs.heap.rone k x hx) (fun ρ' hρ'=>by simp only [M2,hρ',hx]) (fun ρ' _ hρ'=>⟨x,xs,hρ',hrow,hes,hat⟩);have hs1:=hs.step H' T'
  have hs2:Sim w I (W8 ρ (700000,u') (some x)) N ⟨W8 s.t i (.sl (700000,u')),W8 (W8 s.h k none) (700000,u') (some (.arr ty sz es))⟩ a:=⟨hs1.size,hs1.defers,fun j=>by
    by_cases e:j=i
    ·subst e;have:=hs.tmp j;rw [hi]at this;show RepV _ _ _ (W8 s.t j _ j) _;rw [C8];generalize a.tmps.getD j undef=y at this;cases this with|sl _ _ hq=>rw [hx]at hq;cases hq;exact .sl _ _ (C8 _ _ _)
    ·show RepV _ _ _ (W8 s.t i _ j) _
     rw [K5 _ _ _ _ e];exact hs1.tmp j,H'⟩
  refine (h u' hfk w _ _ a hs2 ro ?_).mono ?_
  ·exact hro.mono T'.rho
  rintro e a' w' ⟨s',I',ρ',hq,hs',htr,hnd⟩;exact ⟨s',I',ρ',hq,hs',T'.trans htr,hnd⟩
end
section
variable {P:Program}{N:Nat}{rk:Option D7}{r:List It}{Q:Ex→St→Prop}{l:List (Nat×AV)}{g:List (D7×Option Blk)}
theorem Ws {a:AC}(i:Nat)(k:D7){ty:TypeId}{sz:Nat}{es:List (List D)}(hi:T l i= .sl k)(hb:G g k=some (.arr ty sz es))
    (h: ∀u',Dq P N rk (.c a::r) Q .nrm ⟨T ((i, .sl (700000,u'))::l),G (((700000,u'),some (.arr ty sz es))::(k,none)::g)⟩):Dq P N rk (.c a::r) Q .nrm ⟨T l,G g⟩:=
  fun M c hc=>OF (s:=⟨T l,G g⟩) hi hb fun u' _=>by
    have:=h u' M c hc;rw [JY,Tn,Tn]at this;exact this
end
section
variable {P:Program}{u:Nat}{r:List AOp}{l:List (Nat×AV)}{g:List (D7×Option Blk)}
theorem Uy {K:(Nat→AV)→C7→Prop}{α:Type}{d e sz:Nat}{x y:Opd}(f:α→List D)(k:D7)(xs zs:List α){n:Int}(hx:ev (T l) x= .sl k)(hb:G g k=some (.arr e sz (xs.map f)))(hy:ev (T l) y=di n)(hz:BV xs 0 n=some zs)
    (hk:M9 P u r (T ((d, .sl (d,u))::l)) (G (((d,u),some (.arr e sz (zs.map f)))::(k,none)::g)) K):M9 P u (⟨some d, .oslice sz x none (some y) none,none⟩::r) (T l) (G g) K:=by
  obtain ⟨_,h1,h2,rfl⟩:=AL hz;refine Sk (by simp [W5]) ?_;have hbd:Bl (T l) (xs.map f).length (some y)=some n.toNat:=by simp only [Bl,hy,di];rw [l4 h1]
  have hj:n.toNat≤(xs.map f).length:=by rw [lO];omega
  simp only [gW,Wx,Gm,hx,hb,hbd,hj,and_self,if_true];rw [Int.toNat_zero,List.drop_zero,List.map_take,JY,Tn,Tn]at hk;exact hk
end
def Gs {α:Type}(kind i:Int)(xs:List α)(v:α):Option (List α×Bool):=
  cond ((kind==1)&& (i==(xs.length:Int))) ((Ae xs [v]).bind fun l=>some (l,true))
    (cond (((kind==2)&&decide ((xs.length:Int)>0))&& (i==H9 ((xs.length:Int) - 1))) ((BV xs 0 i).bind fun l=>some (l,true))
      (cond (((kind==3)&&decide (i≥0))&&decide (i< (xs.length:Int))) ((G8 xs i).bind fun _=>some (Ps xs i v,true)) (some (xs,false))))
def wb {α:Type}(b:Bool)(xs:List α):Bool:=b|| !xs.isEmpty
structure EditC (P:Program)(f:FuncId)(e sz:Nat){α β:Type}(E:α→List D)(B:β→List D)(kd at_:β→Int):Prop where
  m: ∀(xs zs:List α) (x:β) (v:α) (ok:Bool),Gs (kd x) (at_ x) xs v=some (zs,ok)→MCall P f [.sl (900000,0), .d (.agg (B x)), .d (.agg (E v))] [.arr e sz (xs.map E)] (.tup [.sl (800000,0), .d (bo ok)]) [none] [some (.arr e sz (zs.map E))]
  n: ∀(zs:List α) (x:β) (v:α) (ok:Bool),Gs (kd x) (at_ x) [] v=some (zs,ok)→MCall P f [.d .nilS, .d (.agg (B x)), .d (.agg (E v))] [] (.tup [oS zs (800000,0), .d (bo ok)]) [] [oB e sz E zs]
section
variable {P:Program}{u:Nat}{r:List AOp}{l:List (Nat×AV)}{g:List (D7×Option Blk)}
theorem Xi {S e sz:Nat}{fo:Opd}{args:List Opd}{fid:FuncId}{α β:Type}{E:α→List D}{B:β→List D}{kd at_:β→Int}(hE:EditC P fid e sz E B kd at_){b:Bool}{xs zs:List α}{x:β}{v:α}{ok:Bool}{k0:D7}
    (h:Gs (kd x) (at_ x) xs v=some (zs,ok)) (hc:T3 (T l) fo args=some (fid,[oW b xs k0, .d (.agg (B x)), .d (.agg (E v))])) (hb:G g k0=wB b e sz E xs):
    ∃ks us,OC P u l g S fo args (.tup [oW (wb b xs) zs (S,u), .d (bo ok)]) ks us (((S,u),wB (wb b xs) e sz E zs)::(k0,none)::g):=by
  have main:oW b xs k0= .sl k0→wb b xs=true→G g k0=some (.arr e sz (xs.map E))→∃ks us,OC P u l g S fo args (.tup [oW (wb b xs) zs (S,u), .d (bo ok)]) ks us (((S,u),wB (wb b xs) e sz E zs)::(k0,none)::g):=by
    intro h1 h2 h3;rw [h1]at hc;rw [h2,QO,OD];exact ⟨_,_,Pu (hE.m xs zs x v ok h) [k0] [k0] _ _ hc Y5 rfl (Z8 h3 U2) ⟨⟨_,h3, .of rfl⟩,trivial⟩ (fun _ h=>h) nd1 rfl rfl rfl⟩
  cases xs with
  |cons a xs=>cases b<;>exact main rfl rfl hb
  |nil=>
   cases b
   ·have hn:=hE.n zs x v ok h;refine ⟨_,_,Pu hn [] [] [(S,u)] _ hc Y5 rfl U2 trivial (fun _ h=>h) List.nodup_nil ?_ ?_ ?_⟩
    ·cases zs<;>rfl
    ·rfl
    ·have e0:G ((k0,none)::g)=G g:=(RF (hb.trans rfl)).symm;cases zs<;>(show W8 (G g) _ _=_;rw [Tn,e0];rfl)
   ·exact main rfl rfl hb
theorem Ic {α:Type}{t:Nat→AV}{h:C7}{x:Opd}(hx:ev t x= .d .nilS):J1 t h (.len x)=some (.d (i64 (([]:List α).length:Int))):=by simp only [J1,hx];rfl
theorem GS {K:(Nat→AV)→C7→Prop}{d S:Nat}{f:Opd}{args:List Opd}{v:AV}{g':List (D7×Option Blk)}(h: ∃ks us,OC P u l g S f args v ks us g')(hk:M9 P u r (T ((d,v)::l)) (G g') K):M9 P u (⟨some d, .ocall S f args,none⟩::r) (T l) (G g) K:=by
  obtain ⟨ks,us,h⟩:=h;exact Ns h hk
end
end Go.Abs
namespace Go.Abs
open Go
section
variable {t:Nat→AV}{h:C7}{x:Opd}
end
theorem LL {h:C7}{n:Nat}{k:D7}{m:Nat}{ty:TypeId}{cs:List AV}{ds:List D}(sz:Nat)(hb:h k=some (.box ty cs))(hc:N9 (L8 h n) cs=some ds)(hm:(Nat.beq m 0|| !Nat.beq (m*sz) cs.length)=false):L8 h (n+1) (.bsl k m)=some (.list (Fj sz m ds)):=by
  rw [Bool.or_eq_false_iff,Bool.not_eq_false']at hm;have h0:m≠0:=by rintro rfl;exact Bool.noConfusion hm.1
  have h1:=Nat.eq_of_beq_eq_true hm.2;have h2:cs.length / m=sz:=by rw [← h1];exact Nat.mul_div_cancel_left sz (Nat.pos_of_ne_zero h0)
  simp only [L8,hb];rw [h2,l4 ⟨h0,h1⟩,hc];rfl
theorem RM {k:D7}{l:List D7}(h:k∉l)(hr:l.Nodup):(k::l).Nodup:=List.nodup_cons.2 ⟨h,hr⟩
end Go.Abs
