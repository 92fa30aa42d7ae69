/-
  An abstract layer over the machine, fourth part: contracts that alter what is handed in; functions that can be computed.
-/
import Derived.Test.YtgjdiioennhoeaaGreatCoreC
namespace Go.Abs
open Go
def At (i:Nat):F7:=(900000+i,0)
def mN (j:Nat):F7:=(800000+j,0)
def Ah (ko kn:Nat→F7)(q:F7):F7:=cond (Nat.ble 900000 q.1) (ko (q.1 - 900000)) (kn (q.1 - 800000))
def YS (n m:Nat)(q:F7):Bool:=q.2==0&& (Nat.ble 900000 q.1&&Nat.blt (q.1 - 900000) n||Nat.ble 800000 q.1&& !Nat.ble 900000 q.1&&Nat.blt (q.1 - 800000) m)
theorem dQ {n m:Nat}{q:F7}(h:YS n m q=true):(∃i,i<n∧q=At i)∨∃j,j<m∧j<100000∧q=mN j:=by
  obtain ⟨a,b⟩:=q;simp only [YS,bS,bT,bZ,Nat.ble_eq,Nat.blt_eq,Bool.not_eq_true',bX,ne_eq]at h;obtain ⟨rfl,h|h⟩:=h
  ·exact .inl ⟨a - 900000,h.2,by simp only [At,Prod.mk.injEq,and_true];omega⟩
  ·exact .inr ⟨a - 800000,h.2,by omega,by simp only [mN,Prod.mk.injEq,and_true];omega⟩
theorem WO (ko kn:Nat→F7)(i:Nat):Ah ko kn (At i)=ko i:=by
  simp only [Ah,At];rw [show Nat.ble 900000 (900000+i)=true by simp,bM,Nat.add_sub_cancel_left]
theorem mO (ko kn:Nat→F7){j:Nat}(h:j<100000):Ah ko kn (mN j)=kn j:=by
  simp only [Ah,mN];rw [show Nat.ble 900000 (800000+j)=false by rw [bX,ne_eq,Nat.ble_eq];omega,bN,Nat.add_sub_cancel_left]
theorem WP {i j:Nat}(h:At i=At j):i=j:=by simp only [At,Prod.mk.injEq]at h;omega
def QD (f:F7→F7):AV→AV
  | .ptr k o=> .ptr (f k) o
  | .sl k=> .sl (f k)
  |x=>x
def QE (f:F7→F7):AV→AV
  | .agg cs=> .agg (cs.map (QD f))
  | .fn g fs cs=> .fn g (fs.map (QD f)) (cs.map (QD f))
  |x=>QD f x
def UA (f:F7→F7):AV→AV
  | .tup cs=> .tup (cs.map (QE f))
  |x=>QE f x
def rG (p:F7→Bool):AV→Bool
  | .ptr k _=>p k
  | .sl k=>p k
  | .d _=>true
  | .any=>true
  |_=>false
def vI (p:F7→Bool):AV→Bool
  | .agg cs=>cs.all (rG p)
  | .fn _ fs cs=>fs.all (rG p)&&cs.all (rG p)
  |x=>rG p x
def zA (p:F7→Bool):AV→Bool
  | .tup cs=>cs.all (vI p)
  |x=>vI p x
def Ms (f:F7→F7):Blk→Blk
  | .box ty cs=> .box ty (cs.map (QD f))
  |b=>b
def xE (p:F7→Bool):Blk→Bool
  | .box _ cs=>cs.all (rG p)
  | .arr _ _ _=>true
  | .obj _ _=>false
  | .mp _=>true
section
variable {w:World}{I:Nat→Prop}{ρ ρ':Rho}{p:F7→Bool}{f g:F7→F7}
theorem HB {α β:Type}{q:α→Bool}{l:List α}{h:α→β}{i:Nat}{c:β}(ha:l.all q=true)(hc:(l.map h)[i]? =some c): ∃x,q x=true∧l[i]? =some x∧h x=c:=by
  obtain ⟨x,hx,e⟩:=GV hc;exact ⟨x,lY.1 ha x (lG hx),hx,e⟩
theorem Ug {α β:Type}{h:α→β}{l:List α}{i:Nat}{x:α}(hx:l[i]? =some x):(l.map h)[i]? =some (h x):=by rw [lK,hx];rfl
theorem pO {x:AV}{v:Value}(hp:rG p x=true)(h:RepV w I ρ (QD f x) v)(hk: ∀q y,p q=true→ρ (f q)=some y→ρ' (g q)=some y):RepV w I ρ' (QD g x) v:=by
  cases x with
  |ptr k o=>cases h with|ptr _ _ b h=>exact .ptr _ _ _ (hk k _ hp h)
  |sl k=>cases h with|sl _ _ h=>exact .sl _ _ (hk k _ hp h)
  |d y=>cases h with|d _ _ h=>exact .d _ _ h
  |any=>exact .any _
  |_=>simp [rG]at hp
theorem pP {x:AV}{v:Value}(hp:vI p x=true)(h:RepV w I ρ (QE f x) v)(hk: ∀q y,p q=true→ρ (f q)=some y→ρ' (g q)=some y):RepV w I ρ' (QE g x) v:=by
  cases x with
  |agg cs=>
   cases h with
   |agg _ vs hl hone hr=>
    refine .agg _ vs (by simpa using hl) (fun i hi=>hone i (by simpa using hi)) (fun i c hc=> ?_);obtain ⟨x,h1,h2,rfl⟩:=HB hp hc;exact pO h1 (hr i _ (Ug h2)) hk
  |fn q fs cs=>
   simp only [vI,bS]at hp;cases h with
   |fn _ _ _ vfs vcs hl hl' hr hr'=>
    refine .fn _ _ _ vfs vcs (by simpa using hl) (by simpa using hl') (fun i c hc=> ?_) (fun i c hc=> ?_)
    ·obtain ⟨x,h1,h2,rfl⟩:=HB hp.1 hc;exact pO h1 (hr i _ (Ug h2)) hk
    ·obtain ⟨x,h1,h2,rfl⟩:=HB hp.2 hc;exact pO h1 (hr' i _ (Ug h2)) hk
  |any=>exact pO (p:=p) (f:=f) (x:= .any) hp h hk
  |d y=>exact pO (p:=p) (f:=f) (x:= .d y) hp h hk
  |ptr k o=>exact pO (p:=p) (f:=f) (x:= .ptr k o) hp h hk
  |sl k=>exact pO (p:=p) (f:=f) (x:= .sl k) hp h hk
  |aptr k a b c=>exact pO (p:=p) (f:=f) (x:= .aptr k a b c) hp h hk
  |yld k=>exact pO (p:=p) (f:=f) (x:= .yld k) hp h hk
  |tup cs=>simp [vI,rG]at hp
theorem zY {x:AV}{v:Value}(hp:zA p x=true)(h:RepV w I ρ (UA f x) v)(hk: ∀q y,p q=true→ρ (f q)=some y→ρ' (g q)=some y):RepV w I ρ' (UA g x) v:=by
  cases x with
  |tup cs=>
   cases h with
   |tup _ vs hl hr=>
    refine .tup _ vs (by simpa using hl) (fun i c hc=> ?_);obtain ⟨x,h1,h2,rfl⟩:=HB hp hc;exact pP h1 (hr i _ (Ug h2)) hk
  |any=>exact pP (p:=p) (f:=f) (x:= .any) hp h hk
  |d y=>exact pP (p:=p) (f:=f) (x:= .d y) hp h hk
  |ptr k o=>exact pP (p:=p) (f:=f) (x:= .ptr k o) hp h hk
  |sl k=>exact pP (p:=p) (f:=f) (x:= .sl k) hp h hk
  |aptr k a b c=>exact pP (p:=p) (f:=f) (x:= .aptr k a b c) hp h hk
  |yld k=>exact pP (p:=p) (f:=f) (x:= .yld k) hp h hk
  |agg cs=>exact pP (p:=p) (f:=f) (x:= .agg cs) hp h hk
  |fn a b c=>exact pP (p:=p) (f:=f) (x:= .fn a b c) hp h hk
theorem zQ {b:Blk}{k k':F7}(hp:xE p b=true)(h:BlkOK w I ρ k (Ms f b))(hkk: ∀y,ρ k=some y→ρ' k'=some y)(hk: ∀q y,p q=true→ρ (f q)=some y→ρ' (g q)=some y):BlkOK w I ρ' k' (Ms g b):=by
  cases b with
  |box ty cs=>
   obtain ⟨b,vs,h1,h2,h3,h4,h5⟩:=h;refine ⟨b,vs,hkk _ h1,h2,by simpa using h3,h4,fun i c hc=> ?_⟩;obtain ⟨x,g1,g2,rfl⟩:=HB hp hc;exact pO g1 (h5 i _ (Ug g2)) hk
  |arr ty sz es=>obtain ⟨x,xs,h1,h2⟩:=h;exact ⟨x,xs,hkk _ h1,h2⟩
  |mp ks=>obtain ⟨g,es,clock,h1,h2⟩:=h;exact ⟨g,es,clock,hkk _ h1,h2⟩
  |obj=>simp [xE]at hp
theorem rH (x:AV):QD id x=x:=by cases x<;>rfl
theorem WQ:QD id=id:=funext rH
theorem rI (x:AV):QE id x=x:=by
  cases x<;>simp only [QE,WQ,List.map_id]
  all_goals rfl
theorem rJ (b:Blk):Ms id b=b:=by cases b<;>simp only [Ms,WQ,List.map_id]
theorem Dc {k:F7}(b:Blk):O5 ρ k (Ms f b)=O5 ρ k b:=by cases b<;>rfl
theorem Nq {k k':F7}(b:Blk)(h:ρ' k'=ρ k):O5 ρ' k' b=O5 ρ k b:=by cases b<;>simp [O5,h]
end
def AH:Nat→List Blk→List (F7×Option Blk)
  |_,[]=> []
  |i,b::r=>(At i,some b)::AH (i+1) r
theorem WR: ∀{l:List Blk} {i:Nat} {q:F7} {b:Blk},G (AH i l) q=some b→∃j,q=At (i+j)∧l[j]? =some b
  | [],i,q,b,h=>by cases h
  |x::r,i,q,b,h=>by
   rw [AH,G]at h;by_cases e:q=At i
   ·rw [bO e]at h;cases h;exact ⟨0,e,rfl⟩
   ·rw [bP e]at h;obtain ⟨j,h1,h2⟩:=WR h;exact ⟨j+1,by rw [h1];congr 1;omega,by simpa using h2⟩
def tP (avs:List AV)(pre:List Blk)(v:AV)(post:List (Option Blk))(new:List (Option Blk)):Bool:=
  post.length==pre.length&&Nat.ble new.length 6&&avs.all (vI (YS pre.length 0))&&pre.all (xE (YS pre.length 0))&&zA (YS pre.length new.length) v&&post.all (fun b=>match b with|some b=>xE (YS pre.length new.length) b|none=>true)&&new.all (fun b=>match b with|some b=>xE (YS pre.length new.length) b|none=>true)
def HC (n:Nat)(v:AV)(post:List (Option Blk))(new:List (Option Blk))(v':AV)(h':E7):Prop:=
  ∃σ:Nat→F7,v'=UA (Ah At σ) v∧(∀i b,post[i]? =some (some b)→h' (At i)=some (Ms (Ah At σ) b))∧(∀j b,new[j]? =some (some b)→h' (σ j)=some (Ms (Ah At σ) b))∧
   (∀j,j<new.length→∀i,i<n→σ j≠At i)∧∀j j',j<new.length→j'<new.length→σ j=σ j'→j=j'
structure MCall (P:Program)(f:FuncId)(avs:List AV)(pre:List Blk)(v:AV)(post:List (Option Blk))(new:List (Option Blk)):Prop where
  ok:tP avs pre v post new=true
  call:ICall P f avs (G (AH 0 pre)) (HC pre.length v post new)
def Vu (κ:Nat→F7)(f:F7→F7):Nat→List (Option Blk)→List (F7×Option Blk)
  |_,[]=> []
  |i,b::r=>(κ i,b.map (Ms f))::Vu κ f (i+1) r
def BM (u S:Nat)(f:F7→F7):Nat→List (Option Blk)→List (F7×Option Blk)
  |_,[]=> []
  |j,b::r=>((S+j,u),b.map (Ms f))::BM u S f (j+1) r
theorem NR {κ:Nat→F7}{f:F7→F7}: ∀{l:List (Option Blk)} {i:Nat} {x:F7×Option Blk},x∈Vu κ f i l→∃j b,l[j]? =some b∧x=(κ (i+j),b.map (Ms f))
  | [],i,x,h=>by simp [Vu]at h
  |b::r,i,x,h=>by
   rw [Vu,lU]at h;rcases h with rfl|h
   ·exact ⟨0,b,rfl,rfl⟩
   ·obtain ⟨j,b',h1,rfl⟩:=NR h;exact ⟨j+1,b',by simpa using h1,by rw [show i+ (j+1)=i+1+j by omega]⟩
theorem NS {u S:Nat}{f:F7→F7}: ∀{l:List (Option Blk)} {i:Nat} {x:F7×Option Blk},x∈BM u S f i l→∃j b,l[j]? =some b∧x=((S+ (i+j),u),b.map (Ms f))
  | [],i,x,h=>by simp [BM]at h
  |b::r,i,x,h=>by
   rw [BM,lU]at h;rcases h with rfl|h
   ·exact ⟨0,b,rfl,rfl⟩
   ·obtain ⟨j,b',h1,rfl⟩:=NS h;exact ⟨j+1,b',by simpa using h1,by rw [show i+ (j+1)=i+1+j by omega]⟩
theorem DF: ∀(ups:List (F7×Option Blk)) (h:E7) (q:F7) (b:Option Blk),Q4 h ups q=b→(q∉ups.map (·.1)∧h q=b)∨(q,b)∈ups
  | [],h,q,b,hb=> .inl ⟨by simp,hb⟩
  |(k,c)::r,h,q,b,hb=>by
   rw [Q4]at hb;rcases DF r _ q b hb with ⟨h1,h2⟩|h1
   ·by_cases e:q=k
    ·subst e;rw [G5]at h2;exact .inr (by rw [h2];simp)
    ·rw [L8 _ _ _ _ e]at h2;exact .inl ⟨by simp at h1 ⊢;exact ⟨e,h1⟩,h2⟩
   ·exact .inr (by simp [h1])
theorem MCall.frame {P:Program}{f:FuncId}{avs:List AV}{pre:List Blk}{v:AV}{post:List (Option Blk)}{new:List (Option Blk)}{u S:Nat}(hM:MCall P f avs pre v post new)(κ:Nat→F7)
    (hinj: ∀i i',i<pre.length→i'<pre.length→κ i=κ i'→i=i') (preH:E7) (hpre: ∀i b,pre[i]? =some b→preH (κ i)=some (Ms (Ah κ κ) b)):
    FCall P u S f (avs.map (QE (Ah κ κ))) preH (UA (Ah κ fun j=>(S+j,u)) v) (Vu κ (Ah κ fun j=>(S+j,u)) 0 post++BM u S (Ah κ fun j=>(S+j,u)) 0 new):=by
  have hok:=hM.ok;simp only [tP,bS,bZ,Nat.ble_eq]at hok;obtain ⟨⟨⟨⟨⟨⟨hlenP,hlenN⟩,okA⟩,okP⟩,iY⟩,okPo⟩,dC⟩:=hok;refine ⟨hM.call.1,fun w I ρ h vs H hp hlen hrep hfr=> ?_⟩;have hh: ∀i b,pre[i]? =some b→h (κ i)=some (Ms (Ah κ κ) b):=fun i b hb=>hp _ _ (hpre i b hb);have hρ: ∀i,i<pre.length→∃y,ρ (κ i)=some y:=fun i hi=>(H.blk _ _ (hh i _ (lH hi))).rho
  let ρ0:Rho:=fun q=>if YS pre.length 0 q=true then ρ (Ah κ κ q)else none
  have hρ0: ∀i,i<pre.length→ρ0 (At i)=ρ (κ i):=by
    intro i hi;show (if YS pre.length 0 (At i)=true then _ else _)=_;rw [bO (by simp [YS,At,hi]),WO]
  have hk0: ∀q y,YS pre.length 0 q=true→ρ (Ah κ κ q)=some y→ρ0 (id q)=some y:=by
    intro q y hq hy;show (if YS pre.length 0 q=true then _ else _)=_;rw [bO hq];exact hy
  have hdom: ∀q b,G (AH 0 pre) q=some b→∃i,i<pre.length∧q=At i∧pre[i]? =some b∧h (κ i)=some (Ms (Ah κ κ) b)∧O5 ρ0 q b=O5 ρ (κ i) (Ms (Ah κ κ) b):=by
    intro q b hq;obtain ⟨i,rfl,h2⟩:=WR hq;rw [wK];have hi:i<pre.length:=(lI.1 h2).1;exact ⟨i,hi,rfl,h2,hh i b h2,by rw [Dc];exact Nq b (hρ0 i hi)⟩
  have H0:HeapOK w I ρ0 (G (AH 0 pre)):=by
    refine ⟨fun q b hq=> ?_,fun q q' b b' g h1 h2 h3 h4=> ?_,fun q b g h1 h2=> ?_,fun q b g h1 h2=> ?_,H.ilt,⟨1,fun d x hx=> ?_⟩,fun q y hy=> ?_⟩
    ·obtain ⟨i,hi,rfl,h2,h3,_⟩:=hdom q b hq;have:=zQ (f:=Ah κ κ) (g:=id) (ρ':=ρ0) (k':=At i) (lY.1 okP b (lG h2)) (H.blk _ _ h3) (fun y hy=>by rw [hρ0 i hi];exact hy) hk0
     rwa [rJ]at this
    ·obtain ⟨i,hi,rfl,_,a3,a4⟩:=hdom q b h1;obtain ⟨j,hj,rfl,_,b3,b4⟩:=hdom q' b' h2;rw [a4]at h3;rw [b4]at h4;rw [hinj i j hi hj (H.sep _ _ _ _ g a3 b3 h3 h4)]
    ·obtain ⟨i,hi,rfl,_,a3,a4⟩:=hdom q b h1;rw [a4]at h2;exact H.notI _ _ g a3 h2
    ·obtain ⟨i,hi,rfl,_,a3,a4⟩:=hdom q b h1;rw [a4]at h2;exact H.lt _ _ g a3 h2
    ·show (if YS pre.length 0 (d,x)=true then _ else _)=none;rw [bP];intro e;rcases dQ e with ⟨i,_,e⟩|⟨j,hj,_⟩
     ·simp only [At,Prod.mk.injEq]at e;omega
     ·omega
    ·have hy':(if YS pre.length 0 q=true then ρ (Ah κ κ q)else none)=some y:=hy;split at hy'
     ·exact H.rone _ y hy'
     ·cases hy'
  have hown0: ∀g,own ρ0 (G (AH 0 pre)) g→own ρ h g:=by
    rintro g ⟨q,b,h1,h2⟩;obtain ⟨i,hi,rfl,_,a3,a4⟩:=hdom q b h1;exact ⟨κ i,_,a3,by rw [← a4];exact h2⟩
  have hown1: ∀k b g,h k=some b→(∀i,i<pre.length→k≠κ i)→O5 ρ k b=some g→¬own ρ0 (G (AH 0 pre)) g:=by
    rintro k b g hk hne hl ⟨q,b',h1,h2⟩;obtain ⟨i,hi,rfl,_,a3,a4⟩:=hdom q b' h1;rw [a4]at h2;exact hne i hi (H.sep _ _ _ _ g hk a3 hl h2)
  have hκS: ∀i j,i<pre.length→j<6→κ i≠(S+j,u):=by
    intro i j hi hj e;obtain ⟨y,hy⟩:=hρ i hi;rw [e,hfr j hj]at hy;cases hy
  refine (hM.call.2 w I ρ0 vs H0 (by simpa using hlen) (fun i c hc=> ?_)).mono ?_
  ·have hc':=hrep i _ (Ug hc);have:=pP (g:=id) (ρ':=ρ0) (lY.1 okA c (lG hc)) hc' hk0
   rwa [rI]at this
  rintro e w' ⟨x,v',I',ρ0',h',rfl,hv',H',T',σ,rfl,hpost,hnew,hσo,hσi⟩
  let ρ1:Rho:=fun q=>if q.2=u∧S≤q.1∧q.1<S+new.length then ρ0' (σ (q.1 - S))else ρ q
  have hle0: ∀i,i<pre.length→ρ0' (At i)=ρ (κ i):=by
    intro i hi;obtain ⟨y,hy⟩:=hρ i hi;rw [hy];exact T'.rho _ _ (by rw [hρ0 i hi];exact hy)
  have hρ1n: ∀j,j<new.length→ρ1 (S+j,u)=ρ0' (σ j):=by
    intro j hj;show (if u=u∧S≤S+j∧S+j<S+new.length then _ else _)=_;rw [bO ⟨rfl,by omega,by omega⟩];simp
  have hρ1o: ∀q,(∀j,j<new.length→q≠(S+j,u))→ρ1 q=ρ q:=by
    rintro ⟨a,b⟩ hq;show (if b=u∧S≤a∧a<S+new.length then _ else _)=_;rw [bP];rintro ⟨rfl,h1,h2⟩;exact hq (a - S) (by omega) (by simp only [Prod.mk.injEq,and_true];omega)
  have hρ1κ: ∀i,i<pre.length→ρ1 (κ i)=ρ (κ i):=fun i hi=>hρ1o _ fun j hj=>hκS i j hi (by omega)
  have hle1:ρ.le ρ1:=by
    intro k y hy;rw [hρ1o]
    ·exact hy
    ·rintro j hj rfl;rw [hfr j (by omega)]at hy;cases hy
  have hk1: ∀q y,YS pre.length new.length q=true→ρ0' (Ah At σ q)=some y→ρ1 (Ah κ (fun j=>(S+j,u)) q)=some y:=by
    intro q y hq hy;rcases dQ hq with ⟨i,hi,rfl⟩|⟨j,hj,hj',rfl⟩
    ·rw [WO]at hy ⊢;rw [hρ1κ i hi,← hle0 i hi];exact hy
    ·rw [mO _ _ hj']at hy ⊢;rw [hρ1n j hj];exact hy
  have htouch: ∀k b,(k,some b)∈Vu κ (Ah κ fun j=>(S+j,u)) 0 post++BM u S (Ah κ fun j=>(S+j,u)) 0 new→
   ∃q b0,xE (YS pre.length new.length) b0=true∧h' q=some (Ms (Ah At σ) b0)∧b=Ms (Ah κ fun j=>(S+j,u)) b0∧ρ1 k=ρ0' q∧((∃i,i<pre.length∧q=At i∧k=κ i)∨∃j,j<new.length∧q=σ j∧k=(S+j,u)):=by
    intro k b hm;rcases lT.1 hm with hm|hm
    ·obtain ⟨i,b0,h1,h2⟩:=NR hm;rw [wK]at h2;cases b0 with
     |none=>simp at h2
     |some b0=>
      simp only [lF,Prod.mk.injEq,Option.some.injEq]at h2;obtain ⟨rfl,rfl⟩:=h2;have hi:i<pre.length:=by rw [← hlenP];exact (lI.1 h1).1
      exact ⟨At i,b0,lY.1 okPo (some b0) (lG h1),hpost i b0 h1,rfl,by rw [hρ1κ i hi,hle0 i hi], .inl ⟨i,hi,rfl,rfl⟩⟩
    ·obtain ⟨j,b0,h1,h2⟩:=NS hm;rw [wK]at h2;cases b0 with
     |none=>simp at h2
     |some b0=>
      simp only [lF,Prod.mk.injEq,Option.some.injEq]at h2;obtain ⟨rfl,rfl⟩:=h2;have hj:j<new.length:=(lI.1 h1).1;exact ⟨σ j,b0,lY.1 dC (some b0) (lG h1),hnew j b0 h1,rfl,hρ1n j hj, .inr ⟨j,hj,rfl,rfl⟩⟩
  have hinjT: ∀{k k' q q':F7},((∃i,i<pre.length∧q=At i∧k=κ i)∨∃j,j<new.length∧q=σ j∧k=(S+j,u))→((∃i,i<pre.length∧q'=At i∧k'=κ i)∨∃j,j<new.length∧q'=σ j∧k'=(S+j,u))→q=q'→k=k':=by
    rintro k k' q q' (⟨i,hi,rfl,rfl⟩|⟨j,hj,rfl,rfl⟩) (⟨i',hi',rfl,rfl⟩|⟨j',hj',rfl,rfl⟩) e
    ·rw [WP e]
    ·exact absurd e.symm (hσo j' hj' i hi)
    ·exact absurd e (hσo j hj i' hi')
    ·rw [hσi j j' hj hj' e]
  have hrest: ∀k b,k∉ (Vu κ (Ah κ fun j=>(S+j,u)) 0 post++BM u S (Ah κ fun j=>(S+j,u)) 0 new).map (·.1)→h k=some b→(∀i,i<pre.length→k≠κ i)∧ρ1 k=ρ k∧∀g,O5 ρ k b=some g→w'.heap[g]? =w.heap[g]?∧¬own ρ0 (G (AH 0 pre)) g:=by
    intro k b hn hk
    have hne: ∀i,i<pre.length→k≠κ i:=by
      rintro i hi rfl;apply hn
      have: ∀(l:List (Option Blk)) (n:Nat),i<l.length→κ (n+i)∈(Vu κ (Ah κ fun j=>(S+j,u)) n l).map (·.1):=by
        intro l
        induction i with
        |zero=>intro n hl;cases l with|nil=>simp at hl|cons=>simp [Vu]
        |succ i _=>
         intro n hl
         have key: ∀(i:Nat) (l:List (Option Blk)) (n:Nat),i<l.length→κ (n+i)∈(Vu κ (Ah κ fun j=>(S+j,u)) n l).map (·.1):=by
           intro i
           induction i with
           |zero=>intro l n hl;cases l with|nil=>simp at hl|cons=>simp [Vu]
           |succ i ih=>
            intro l n hl;cases l with
            |nil=>simp at hl
            |cons b r=>
             have:=ih r (n+1) (by simpa using hl);rw [show n+1+i=n+ (i+1) by omega]at this;simp only [Vu,lR,lU];exact .inr this
         exact key (i+1) l n hl
      rw [List.map_append,lT];exact .inl (by have:=this post 0 (by rw [hlenP];exact hi);rwa [wK]at this)
    refine ⟨hne,?_,fun g hg=>⟨T'.frame g (H.lt k b g hk hg) (hown1 k b g hk hne hg),hown1 k b g hk hne hg⟩⟩;obtain ⟨y,hy⟩:=(H.blk k b hk).rho;rw [hle1 k y hy,hy]
  have hfrI: ∀b,I b→w'.heap[b]? =w.heap[b]?:=fun b hb=>T'.frame b (H.ilt b hb) (fun ho=>H0.own_notI ho hb);generalize hups:Vu κ (Ah κ fun j=>(S+j,u)) 0 post++BM u S (Ah κ fun j=>(S+j,u)) 0 new=ups at htouch hrest;have hcase: ∀k b,Q4 h ups k=some b→(h k=some b∧k∉ups.map (·.1))∨(k,some b)∈ups:=fun k b hb=>(DF ups h k (some b) hb).imp (fun q=>⟨q.2,q.1⟩) id;have hlocR: ∀k b,h k=some b→k∉ups.map (·.1)→O5 ρ1 k b=O5 ρ k b:=fun k b hb hn=>Nq b (hrest k b hn hb).2.1
  have H1:HeapOK w' I' ρ1 (Q4 h ups):=by
    refine ⟨fun k b hb=> ?_,fun k k' b b' g h1 h2 h3 h4=> ?_,fun k b g h1 h2 hi=> ?_,fun k b g h1 h2=> ?_,H'.ilt,?_,fun k y hy=> ?_⟩
    ·rcases hcase k b hb with ⟨a1,a2⟩|hm
     ·exact (H.blk k b a1).keep (fun g hg=>((hrest k b a2 a1).2.2 g hg).1) hfrI T'.imm hle1
     ·obtain ⟨q,b0,c1,c2,rfl,c4,_⟩:=htouch k b hm;exact zQ c1 (H'.blk _ _ c2) (fun y hy=>by rw [c4];exact hy) hk1
    ·rcases hcase k b h1 with ⟨a1,a2⟩|hm
     ·rw [hlocR k b a1 a2]at h3;rcases hcase k' b' h2 with ⟨b1,b2⟩|hm'
      ·rw [hlocR k' b' b1 b2]at h4;exact H.sep k k' b b' g a1 b1 h3 h4
      ·exfalso;obtain ⟨q,b0,c1,c2,rfl,c4,_⟩:=htouch k' b' hm';rw [Dc,Nq b0 c4]at h4;exact ((hrest k b a2 a1).2.2 g h3).2 (T'.ownBack g ⟨q,_,c2,by rw [Dc];exact h4⟩ (H.lt k b g a1 h3))
     ·obtain ⟨q,b0,c1,c2,rfl,c4,c5⟩:=htouch k b hm;rw [Dc,Nq b0 c4]at h3;rcases hcase k' b' h2 with ⟨b1,b2⟩|hm'
      ·exfalso;rw [hlocR k' b' b1 b2]at h4;exact ((hrest k' b' b2 b1).2.2 g h4).2 (T'.ownBack g ⟨q,_,c2,by rw [Dc];exact h3⟩ (H.lt k' b' g b1 h4))
      ·obtain ⟨q',b0',d1,d2,rfl,d4,d5⟩:=htouch k' b' hm';rw [Dc,Nq b0' d4]at h4;exact hinjT c5 d5 (H'.sep q q' _ _ g c2 d2 (by rw [Dc];exact h3) (by rw [Dc];exact h4))
    ·rcases hcase k b h1 with ⟨a1,a2⟩|hm
     ·rw [hlocR k b a1 a2]at h2;rcases T'.immBack g hi (H.lt k b g a1 h2)with q|q
      ·exact H.notI k b g a1 h2 q
      ·exact ((hrest k b a2 a1).2.2 g h2).2 q
     ·obtain ⟨q,b0,c1,c2,rfl,c4,_⟩:=htouch k b hm;rw [Dc,Nq b0 c4]at h2;exact H'.notI q _ g c2 (by rw [Dc];exact h2) hi
    ·rcases hcase k b h1 with ⟨a1,a2⟩|hm
     ·rw [hlocR k b a1 a2]at h2;exact wN (H.lt k b g a1 h2) T'.size
     ·obtain ⟨q,b0,c1,c2,rfl,c4,_⟩:=htouch k b hm;rw [Dc,Nq b0 c4]at h2;exact H'.lt q _ g c2 (by rw [Dc];exact h2)
    ·obtain ⟨u0,hu0⟩:=H.fresh;refine ⟨max u0 (u+1),fun d x hx=> ?_⟩;rw [hρ1o _ (fun j _ e=>by simp only [Prod.mk.injEq]at e;omega)];exact hu0 d x (by omega)
    ·have hy':(if k.2=u∧S≤k.1∧k.1<S+new.length then ρ0' (σ (k.1 - S))else ρ k)=some y:=hy;split at hy'
     ·exact H'.rone _ y hy'
     ·exact H.rone _ y hy'
  refine ⟨x,I',ρ1,rfl,zY iY hv' hk1,H1,⟨T'.os,T'.tape,T'.output,T'.size,fun b hb hn=>T'.frame b hb (fun ho=>hn (hown0 b ho)),T'.imm,fun b hb hl=>(T'.immBack b hb hl).imp id (hown0 b),?_,hle1⟩,fun k hk=>hρ1o k fun j hj=>hk j (by omega)⟩;rintro b ⟨k,c,h1,h2⟩ hl;rcases hcase k c h1 with ⟨a1,a2⟩|hm
  ·exact ⟨k,c,a1,by rw [← hlocR k c a1 a2];exact h2⟩
  ·obtain ⟨q,b0,c1,c2,rfl,c4,_⟩:=htouch k c hm;rw [Dc,Nq b0 c4]at h2;exact hown0 b (T'.ownBack b ⟨q,_,c2,by rw [Dc];exact h2⟩ hl)
end Go.Abs
namespace Go.Abs
open Go
theorem IS {α:Type}{l:List α}(h:l.Nodup){i j:Nat}(hi:i<l.length)(hj:j<l.length)(e:l[i]=l[j]):i=j:=by
  have h':=bC.1 h;rcases Nat.lt_trichotomy i j with q|q|q
  ·exact absurd e (h' i j hi hj q)
  ·exact q
  ·exact absurd e.symm (h' j i hj hi q)
def Jz (l:List F7)(i:Nat):F7:=l.getD i (0,0)
section
variable {P:Program}{N:Nat}
theorem FCall.le {u S:Nat}{f:FuncId}{avs avs':List AV}{pre pre':E7}{v:AV}{ups:List (F7×Option Blk)}(hF:FCall P u S f avs' pre v ups)(ha:All2 AVle avs avs')(hp: ∀q b,pre q=some b→∃b',pre' q=some b'∧BlkLe b' b)(hu: ∀q b,pre q=some b→q∈ups.map (·.1)):FCall P u S f avs pre' v ups:=by
  refine ⟨hF.1,fun w I ρ h vs H hh hlen hrep hfr=> ?_⟩
  let h1:E7:=fun q=>match pre q with|some b=>some b|none=>h q
  have h1p: ∀q b,pre q=some b→h1 q=some b:=fun q b hb=>by show (match pre q with|some b=>some b|none=>h q)=_;rw [hb]
  have h1n: ∀q,pre q=none→h1 q=h q:=fun q hb=>by show (match pre q with|some b=>some b|none=>h q)=_;rw [hb]
  have S1:Sb ⟨fun _=> .any,h1⟩ ⟨fun _=> .any,h⟩:=by
    refine ⟨fun i=> .any _,fun k b hb=> ?_⟩;cases hq:pre k with
    |none=>exact ⟨b,by show h k=some b;rw [← h1n k hq];exact hb, .refl b⟩
    |some b0=>
     obtain rfl:b0=b:=by have:=hb;dsimp only at this;rw [h1p k b0 hq]at this;exact lD this
     obtain ⟨b',e1,e2⟩:=hp k b0 hq;exact ⟨b',hh k b' e1,e2⟩
  have hup:Q4 h1 ups=Q4 h ups:=by
    funext q;by_cases e:q∈ups.map (·.1)
    ·exact Ud ups _ _ q e
    ·rw [Eo _ _ _ e,Eo _ _ _ e];cases hq:pre q with
     |none=>exact h1n q hq
     |some b=>exact absurd (hu q b hq) e
  have hown: ∀g,own ρ h1 g→own ρ h g:=fun g hg=>S1.own hg
  have hown': ∀g,own ρ h g→own ρ h1 g:=by
    rintro g ⟨k,b,e1,e2⟩;cases hq:pre k with
    |none=>exact ⟨k,b,by rw [h1n k hq];exact e1,e2⟩
    |some b0=>
     obtain ⟨b',g1,g2⟩:=hp k b0 hq;have:b'=b:=by have:=hh k b' g1;rw [e1]at this;exact (lD this).symm
     subst this;exact ⟨k,b0,h1p k b0 hq,by rw [g2.loc];exact e2⟩
  refine (hF.2 w I ρ h1 vs (S1.heapOK H) h1p (by rw [← ha.length];exact hlen) (fun i c hc=> ?_) hfr).mono ?_
  ·obtain ⟨a,e1,e2⟩:=ha.get hc;exact e2 _ _ _ _ (hrep i a e1)
  rintro e w' ⟨x,I',ρ',rfl,r1,r2,r3,r4⟩;rw [hup]at r2 r3;exact ⟨x,I',ρ',rfl,r1,r2,⟨r3.os,r3.tape,r3.output,r3.size,fun b hb hn=>r3.frame b hb fun ho=>hn (hown b ho),r3.imm,fun b hb hl=>(r3.immBack b hb hl).imp id (hown b),fun b hb hl=>hown b (r3.ownBack b hb hl),r3.rho⟩,r4⟩
theorem PCall.freezeF {u S:Nat}{f:FuncId}{ds:List D}{r:D}(hp:PCall P f ds r){avs:List AV}{h0:E7}(hd:P2 (O2 h0 6) avs=some ds):
    FCall P u S f avs (S4 h0 (avs.flatMap (R9 h0 6))) (.d r) ((avs.flatMap (R9 h0 6)).map fun k=>(k,none)):=by
  refine ⟨hp.1,fun w I ρ h vs H hh hlen hrep _=> ?_⟩;have hlive:=Rl avs ds hd
  have heq: ∀q∈avs.flatMap (R9 h0 6),h q=h0 q:=by
    intro q hq;cases hb:h0 q with
    |none=>exact absurd hb (hlive q hq)
    |some b=>exact hh q b (by unfold S4;rw [bO hq,hb])
  have hd':P2 (O2 h 6) avs=some ds:=by rw [← hd];exact Oh avs heq
  rw [← AY avs heq];clear hd hh heq hlive;generalize hks:avs.flatMap (R9 h 6)=ks at*;have hks': ∀q∈ks,h q≠none:=by rw [← hks];exact Rl avs ds hd'
  have hU:Q4 h (ks.map fun k=>(k,none))=fun q=>if q∈ks then none else h q:=by
    funext q;by_cases e:q∈ks
    ·rw [bO e];cases hb:Q4 h (ks.map fun k=>(k,none)) q with
     |none=>rfl
     |some b=>
      rcases DF _ _ _ _ hb with ⟨a,_⟩|a
      ·exact absurd (by simp only [List.map_map,List.mem_map,Function.comp];exact ⟨q,e,rfl⟩) a
      ·simp at a
    ·rw [bP e,Eo];simp only [List.map_map,List.mem_map,Function.comp];rintro ⟨x,hx,rfl⟩;exact e hx
  rw [hU]
  let hk:E7:=S4 h ks
  have hsub: ∀q b,hk q=some b→h q=some b:=by
    intro q b hq;have:(if q∈ks then h q else none)=some b:=hq;split at this
    ·exact this
    ·cases this
  let hf:E7:=fun q=>if q∈ks then none else h q
  have hsubf: ∀q b,hf q=some b→h q=some b∧q∉ks:=by
    intro q b hq;have:(if q∈ks then none else h q)=some b:=hq;split at this
    ·cases this
    ·exact ⟨this,‹_›⟩
  have H1:=H.sub hsub;have H2:=H.sub (fun q b hq=>(hsubf q b hq).1)
  have hdk:P2 (O2 hk 6) avs=some ds:=by
    rw [← hd'];refine Oh avs fun q hq=> ?_;rw [hks]at hq;show (if q∈ks then h q else none)=h q;rw [bO hq]
  obtain ⟨l1,l2⟩:=Gu hdk
  have hsep: ∀g,own ρ hf g→¬own ρ hk g:=by
    rintro g ⟨k,b,a1,a2⟩ ⟨k',b',c1,c2⟩;obtain ⟨e1,e2⟩:=hsubf k b a1;have:=H.sep k k' b b' g e1 (hsub k' b' c1) a2 c2;subst this;apply e2;have:(if k∈ks then h k else none)=some b':=c1;split at this
    ·assumption
    ·cases this
  have hI1: ∀b,(I b∨own ρ hk b)→b<w.heap.size:=fun b hb=>by
    rcases hb with h|h
    ·exact H.ilt b h
    ·exact H1.own_lt h
  refine (hp.2 w (fun b=>I b∨own ρ hk b) vs hI1 (by omega) (fun i d hi=>by
    obtain ⟨x,hx,hfx⟩:=l2 i d hi
    exact Lx H1 6 x d _ (hrep i x hx) hfx)).mono ?_
  rintro e w' ⟨x,I',rfl,hr,tr⟩
  have hnI: ∀g,own ρ hf g→¬I' g:=fun g hg hi=>by
    rcases tr.immBack g hi (H2.own_lt hg)with q|q
    ·exact H2.own_notI hg q
    ·exact hsep g hg q
  have H3:HeapOK w' I' ρ hf:=H2.keep (fun g hg=>tr.frame g (H2.own_lt hg)) (fun b hb=>tr.frame b (H.ilt b hb)) (fun b hb=>tr.imm b (.inl hb)) hnI tr.ilt (fun _ _ h=>h) tr.size H.fresh H.rone;refine ⟨x,I',ρ,rfl, .d _ _ hr,H3,⟨tr.os,tr.tape,tr.output,tr.size,fun b hb _=>tr.frame b hb,fun b hb=>tr.imm b (.inl hb),fun b hb hl=>(tr.immBack b hb hl).imp id fun ⟨k,c,a1,a2⟩=>⟨k,c,hsub k c a1,a2⟩,?_,fun _ _ h=>h⟩,fun _ _=>rfl⟩;rintro b ⟨k,c,a1,a2⟩ _;exact ⟨k,c,(hsubf k c a1).1,a2⟩
theorem ICall.le {f:FuncId}{avs:List AV}{h:E7}{K K':AV→E7→Prop}(hI:ICall P f avs h K)(hk: ∀v h,K v h→K' v h):ICall P f avs h K':=hI.mono hk
theorem vJ {f:FuncId}{rs:List RV}{ac:AC}(F:FnOK P f N rs ac){avs:List AV}{pre:List Blk}{v:AV}{post:List (Option Blk)}{new:List (Option Blk)}(hok:tP avs pre v post new=true)(hl:avs.length≤N)
    (h:Dj P N none [.c ac] (fun e s=>(e= .nrm∨e= .ret)∧∃v' v1 g1,FH s.t s.h rs=some v'∧AVle v' v1∧LB s.h g1∧HC pre.length v post new v1 (G g1)) .nrm ⟨TU avs,G (AH 0 pre)⟩):MCall P f avs pre v post new:=by
  refine ⟨hok,F.enters,?_⟩;obtain ⟨fn,c,hf,hb,hN,hrs,⟨M,hc⟩,hn⟩:=F.ex;intro w I ρ vs H hlen hrep;have hsim:=BG (n:=N) H hlen (by omega) hrep;rw [← hN]at hsim;refine Rn (Q:=fun e s=>(e= .nrm∨e= .ret)∧∃v' v1 g1,FH s.t s.h rs=some v'∧AVle v' v1∧LB s.h g1∧HC pre.length v post new v1 (G g1)) hf hb rfl hsim (by rw [hN];exact h M c hc) ?_;rintro e s' a' w' I' ρ' ⟨he,v',v1,g1,hv,hle,hg,hp⟩ hs' tr;obtain ⟨x,hx,hr⟩:=NI hs' hrs hv;have S1:Sb ⟨T [],G g1⟩ s':=by cases s';exact D0 trivial hg
  exact ⟨he,x,hx,x,v1,I',ρ',G g1,rfl,hle _ _ _ _ hr,S1.heapOK hs'.heap,⟨tr.os,tr.tape,tr.output,tr.size,tr.frame,tr.imm,tr.immBack,fun b hb hl=>tr.ownBack b (S1.own hb) hl,tr.rho⟩,hp⟩
def BN:List AV→Nat→List (Nat×AV)
  | [],_=> []
  |a::r,n=>(n,a)::BN r (n+1)
theorem RJ: ∀(avs:List AV) (n i:Nat),T (BN avs n) (n+i)=avs.getD i .any
  | [],n,i=>by simp [BN,xM]
  |a::r,n,i=>by
   rw [BN,uW];cases i with
   |zero=>rw [bO (by simp)];rfl
   |succ i=>rw [bP (by omega),show n+ (i+1)=n+1+i by omega,RJ r (n+1) i];rfl
theorem UB (avs:List AV):TU avs=T (BN avs 0):=by
  funext i;have:=RJ avs 0 i;rw [wK]at this;rw [this];rfl
def dR (h:E7)(f:F7→F7):Nat→List (Option Blk)→Prop
  |_,[]=>True
  |i,b::r=>(match b with|some b=>h (At i)=some (Ms f b)|none=>True)∧dR h f (i+1) r
theorem IT {h:E7}{f:F7→F7}: ∀{l:List (Option Blk)} {n i:Nat} {b:Blk},dR h f n l→l[i]? =some (some b)→h (At (n+i))=some (Ms f b)
  | [],n,i,b,_,hb=>by simp at hb
  |x::r,n,i,b,hp,hb=>by
   cases i with
   |zero=>simp at hb;subst hb;exact hp.1
   |succ i=>rw [show n+ (i+1)=n+1+i by omega];exact IT hp.2 (by simpa using hb)
def rK (h:E7)(f:F7→F7):List F7→List (Option Blk)→Prop
  |_,[]=>True
  | [],_::_=>False
  |k::ks,b::r=>h k=b.map (Ms f)∧rK h f ks r
theorem NT {h:E7}{f:F7→F7}: ∀{ks:List F7} {l:List (Option Blk)} {i:Nat} {b:Blk},rK h f ks l→l[i]? =some (some b)→h (Jz ks i)=some (Ms f b)
  |ks,[],i,b,_,hb=>by simp at hb
  | [],_::_,i,b,hp,_=>hp.elim
  |k::ks,x::r,i,b,hp,hb=>by
   cases i with
   |zero=>simp at hb;subst hb;exact hp.1
   |succ i=>exact NT (ks:=ks) hp.2 (by simpa using hb)
theorem mP {d u:Nat}(h:Nat.blt d 900000=true)(i:Nat):(d,u)≠At i:=by
  rw [Nat.blt_eq]at h;intro e;simp only [At,Prod.mk.injEq]at e;omega
theorem mQ {n:Nat}{v v1:AV}{post:List (Option Blk)}{new:List (Option Blk)}{h:E7}(σs:List F7)(hv:v1=UA (Ah At (Jz σs)) v)(hpost:dR h (Ah At (Jz σs)) 0 post)(hnew:rK h (Ah At (Jz σs)) σs new)
    (hl:σs.length=new.length) (hd: ∀k∈σs,∀i,k≠At i) (hnd:σs.Nodup):HC n v post new v1 h:=by
  have hget: ∀j,j<new.length→Jz σs j∈σs:=by
    intro j hj;simp only [Jz,List.getD,lH (show j<σs.length by omega),Option.getD_some];exact List.getElem_mem _
  refine ⟨Jz σs,hv,fun i b hb=> ?_,fun j b hb=>NT hnew hb,fun j hj i _=>hd _ (hget j hj) i,fun j j' hj hj' e=> ?_⟩
  ·have:=IT hpost hb
   rwa [wK]at this
  ·simp only [Jz,List.getD,lH (show j<σs.length by omega),lH (show j'<σs.length by omega),Option.getD_some]at e;exact IS hnd (by omega) (by omega) e
theorem mR {t:Nat→AV}{h:E7}{rs:List RV}{e:Ex}{n:Nat}{v v' v1:AV}{post:List (Option Blk)}{new:List (Option Blk)}(he:e= .nrm∨e= .ret)(h1:FH t h rs=some v')(h2:AVle v' v1)(g1:List (F7×Option Blk))(h3:LB h g1)(h4:HC n v post new v1 (G g1)):
    (e= .nrm∨e= .ret)∧∃v' v1 g1,FH (⟨t,h⟩:St).t (⟨t,h⟩:St).h rs=some v'∧AVle v' v1∧LB (⟨t,h⟩:St).h g1∧HC n v post new v1 (G g1):=⟨he,v',v1,g1,h1,h2,h3,h4⟩
theorem xQ {t:Nat→AV}{h:E7}:FH t h []=some (.tup []):=rfl
theorem BO {t:Nat→AV}{h:E7}{a:RV}{v:AV}(hv:FG t h a=some v):FH t h [a]=some v:=by simp only [FH,LA,hv]
end
theorem Ji {h:E7}{n:Nat}{k:F7}{off:Nat}{ty:TypeId}{cs:List AV}{ks:List F7}(hb:h k=some (.box ty cs))(hc:cs.flatMap (R9 h n)=ks):R9 h (n+1) (.ptr k off)=k::ks:=by simp only [R9,hb,hc]
theorem HD {h:E7}{n:Nat}{k:F7}:R9 h (n+1) (.sl k)= [k]:=rfl
theorem Xk {h:E7}{n:Nat}{x:D}:R9 h n (.d x)= []:=by cases n<;>rfl
theorem Bu {h:E7}{n:Nat}:([]:List AV).flatMap (R9 h n)= []:=rfl
theorem N5 {h:E7}{n:Nat}{x:AV}{r:List AV}{a b:List F7}(h1:R9 h n x=a)(h2:r.flatMap (R9 h n)=b):(x::r).flatMap (R9 h n)=a++b:=by rw [bE,h1,h2]
def gA (h:E7):List F7→List Blk→Prop
  | [],[]=>True
  |k::ks,b::bs=>(∃b',h k=some b'∧BlkLe b' b)∧gA h ks bs
  |_,_=>False
theorem NU {h:E7}: ∀{ks:List F7} {bs:List Blk},gA h ks bs→ks.length=bs.length
  | [],[],_=>rfl
  |_::ks,_::bs,hp=>by simp [NU hp.2]
  | [],_::_,hp=>hp.elim
  |_::_,[],hp=>hp.elim
theorem WS {h:E7}: ∀{ks:List F7} {bs:List Blk} {i:Nat} {b:Blk},gA h ks bs→bs[i]? =some b→Jz ks i∈ks∧∃b',h (Jz ks i)=some b'∧BlkLe b' b
  | [],[],i,b,_,hb=>by simp at hb
  |k::ks,c::bs,i,b,hp,hb=>by
   cases i with
   |zero=>simp at hb;subst hb;exact ⟨by simp [Jz],hp.1⟩
   |succ i=>
    obtain ⟨g1,g2⟩:=WS (ks:=ks) (bs:=bs) (i:=i) hp.2 (by simpa using hb);exact ⟨by simp only [Jz,List.getD_cons_succ]at g1 ⊢;exact List.mem_cons_of_mem _ g1,g2⟩
  | [],_::_,_,_,hp,_=>hp.elim
  |_::_,[],_,_,hp,_=>hp.elim
theorem MCall.at {P:Program}{u S:Nat}{f:FuncId}{avs avs0:List AV}{pre:List Blk}{v:AV}{post:List (Option Blk)}{new:List (Option Blk)}{h:E7}(hM:MCall P f avs0 pre v post new)(κs:List F7)(ks:List F7)
    (hle:All2 AVle avs (avs0.map (QE (Ah (Jz κs) (Jz κs))))) (hpre:gA h κs (pre.map (Ms (Ah (Jz κs) (Jz κs))))) (hsub: ∀k∈κs,k∈ks) (hnd:κs.Nodup):
    FCall P u S f avs (S4 h ks) (UA (Ah (Jz κs) fun j=>(S+j,u)) v) (Vu (Jz κs) (Ah (Jz κs) fun j=>(S+j,u)) 0 post++BM u S (Ah (Jz κs) fun j=>(S+j,u)) 0 new):=by
  have hlen:κs.length=pre.length:=by simpa using NU hpre
  have hok:=hM.ok;simp only [tP,bS,bZ,Nat.ble_eq]at hok
  have hinj: ∀i i',i<pre.length→i'<pre.length→Jz κs i=Jz κs i'→i=i':=by
    intro i i' hi hi' e;simp only [Jz,List.getD,lH (show i<κs.length by omega),lH (show i'<κs.length by omega),Option.getD_some]at e;exact IS hnd (by omega) (by omega) e
  let preH:E7:=fun q=>match (List.range pre.length).find? fun i=>Jz κs i==q with
    |some i=>(pre[i]?).map (Ms (Ah (Jz κs) (Jz κs)))
    |none=>none
  have hat: ∀i b,pre[i]? =some b→preH (Jz κs i)=some (Ms (Ah (Jz κs) (Jz κs)) b):=by
    intro i b hb;have hi:i<pre.length:=(lI.1 hb).1;show (match (List.range pre.length).find? fun i'=>Jz κs i'==Jz κs i with|some i=>(pre[i]?).map (Ms (Ah (Jz κs) (Jz κs)))|none=>none)=_;cases hf:(List.range pre.length).find? fun i'=>Jz κs i'==Jz κs i with
    |none=>
     have:=List.find?_eq_none.1 hf i (by simpa using hi);simp at this
    |some j=>
     have h1:=l6 hf;have h2:=l7 hf;have:=hinj j i (by simpa using h2) hi (by simpa using h1);subst this;simp only [hb,lF]
  have hinv: ∀q b,preH q=some b→∃i b0,pre[i]? =some b0∧q=Jz κs i∧b=Ms (Ah (Jz κs) (Jz κs)) b0:=by
    intro q b hq;have hq':(match (List.range pre.length).find? fun i'=>Jz κs i'==q with|some i=>(pre[i]?).map (Ms (Ah (Jz κs) (Jz κs)))|none=>none)=some b:=hq;split at hq'
    ·rename_i j hf;have h1:=l6 hf;simp only [lE]at hq';obtain ⟨b0,e1,rfl⟩:=hq';exact ⟨j,b0,e1,(by simpa using h1:Jz κs j=q).symm,rfl⟩
    ·cases hq'
  refine FCall.le (hM.frame (Jz κs) hinj preH hat) hle (fun q b hq=> ?_) (fun q b hq=> ?_)
  ·obtain ⟨i,b0,e1,rfl,rfl⟩:=hinv q b hq;obtain ⟨g1,b',g2,g3⟩:=WS hpre (Ug e1);exact ⟨b',by unfold S4;rw [bO (hsub _ g1)];exact g2,g3⟩
  ·obtain ⟨i,b0,e1,rfl,rfl⟩:=hinv q b hq;rw [List.map_append,lT];left;have hi:i<post.length:=by rw [hok.1.1.1.1.1.1];exact (lI.1 e1).1
   have key: ∀(i:Nat) (l:List (Option Blk)) (n:Nat) (f:F7→F7),i<l.length→Jz κs (n+i)∈(Vu (Jz κs) f n l).map (·.1):=by
     intro i
     induction i with
     |zero=>intro l n f hl;cases l with|nil=>simp at hl|cons=>simp [Vu]
     |succ i ih=>
      intro l n f hl;cases l with
      |nil=>simp at hl
      |cons b r=>
       have:=ih r (n+1) f (by simpa using hl);rw [show n+1+i=n+ (i+1) by omega]at this;simp only [Vu,lR,lU];exact .inr this
   have:=key i post 0 (Ah (Jz κs) fun j=>(S+j,u)) hi
   rwa [wK]at this
theorem vK {u S:Nat}{κs ks:List F7}{post:List (Option Blk)}{new:List (Option Blk)}{f g:F7→F7}(hsub: ∀k∈κs,k∈ks)(hl:post.length=κs.length)(hn:new.length≤6):
    ∀q∈(Vu (Jz κs) f 0 post++BM u S g 0 new).map (·.1),q∈ks∨∃j,j<6∧q=(S+j,u):=by
  intro q hq;simp only [List.mem_map,lT]at hq;obtain ⟨x,hx|hx,rfl⟩:=hq
  ·obtain ⟨j,b,h1,rfl⟩:=NR hx;have hj:j<κs.length:=by rw [← hl];exact (lI.1 h1).1
   left;refine hsub _ ?_;simp only [wK,Jz,List.getD,lH hj,Option.getD_some];exact List.getElem_mem _
  ·obtain ⟨j,b,h1,rfl⟩:=NS hx;have hj:j<new.length:=(lI.1 h1).1;exact .inr ⟨j,by omega,by rw [wK]⟩
section
variable {P:Program}{u:Nat}{r:List AOp}{l:List (Nat×AV)}{g:List (F7×Option Blk)}
structure OC (P:Program)(u:Nat)(l:List (Nat×AV))(g:List (F7×Option Blk))(S:Nat)(f:Opd)(args:List Opd)(v:AV)(ks:List F7)(us:List F7)(g':List (F7×Option Blk)):Prop where
  w: ∀K:AV→List (F7×Option Blk)→Prop,(∀ups,ups.map (·.1)=us→Q4 (G g) ups=G g'→K v ups)→BB P u (T l) (G g) S f args K
  ks:Ad (T l) (G g) (.ocall S f args)=ks
theorem Pn {S:Nat}{f:Opd}{args:List Opd}{fid:FuncId}{avs avs0:List AV}{pre:List Blk}{v v':AV}{post:List (Option Blk)}{new:List (Option Blk)}(hM:MCall P fid avs0 pre v post new)(κs ks us:List F7)(g':List (F7×Option Blk))
    (hc:U6 (T l) f args=some (fid,avs)) (hle:All2 AVle avs (avs0.map (QE (Ah (Jz κs) (Jz κs))))) (hks:avs.flatMap (R9 (G g) 6)=ks) (hlive: ∀q∈ks,G g q≠none)
    (hpre:gA (G g) κs (pre.map (Ms (Ah (Jz κs) (Jz κs))))) (hsub: ∀k∈κs,k∈ks) (hnd:κs.Nodup) (hv:UA (Ah (Jz κs) fun j=>(S+j,u)) v=v')
    (hus:(Vu (Jz κs) (Ah (Jz κs) fun j=>(S+j,u)) 0 post++BM u S (Ah (Jz κs) fun j=>(S+j,u)) 0 new).map (·.1)=us)
    (hg:Q4 (G g) (Vu (Jz κs) (Ah (Jz κs) fun j=>(S+j,u)) 0 post++BM u S (Ah (Jz κs) fun j=>(S+j,u)) 0 new)=G g'):OC P u l g S f args v' ks us g':=by
  have hok:=hM.ok;simp only [tP,bS,bZ,Nat.ble_eq]at hok;have hlen:κs.length=pre.length:=by simpa using NU hpre
  refine ⟨fun K hK=> ?_,by simp only [Ad,hc,hks]⟩;simp only [BB,hc,hks];refine ⟨v',_,?_,hlive,by rw [← hv];exact hM.at κs ks hle hpre hsub hnd,hK _ hus hg⟩;exact vK hsub (by rw [hok.1.1.1.1.1.1,hlen]) hok.1.1.1.1.1.2
theorem rL {S:Nat}{f:Opd}{args:List Opd}{fid:FuncId}{avs:List AV}{ds ds':List D}{v:D}(ks:List F7)(g':List (F7×Option Blk))(hc:U6 (T l) f args=some (fid,avs))(hd:P2 (O2 (G g) 6) avs=some ds)(hle:All2 DLe ds ds')
    (hp:PCall P fid ds' v) (hks:avs.flatMap (R9 (G g) 6)=ks) (hg:Q4 (G g) (ks.map fun k=>(k,none))=G g'):OC P u l g S f args (.d v) ks ks g':=by
  refine ⟨fun K hK=> ?_,by simp only [Ad,hc,hks]⟩;simp only [BB,hc];refine ⟨.d v,_,fun q hq=> .inl ?_,Rl avs ds hd,(hp.le hle).freezeF hd,hK _ ?_ (by rw [hks];exact hg)⟩
  ·simpa [List.map_map,Function.comp_def] using hq
  ·rw [hks];simp [List.map_map,Function.comp_def]
theorem Po {K:(Nat→AV)→E7→Prop}{d S:Nat}{f:Opd}{args:List Opd}{v:AV}{ks us:List F7}{g':List (F7×Option Blk)}(h:OC P u l g S f args v ks us g')(hk:M1 P u r (T ((d,v)::l)) (G g') K):M1 P u (⟨some d, .ocall S f args,none⟩::r) (T l) (G g) K:=by
  refine IR (by simp [Z5]) ?_;simp only [gW,DV];exact h.w _ fun ups _ e=>by rw [e];exact hk
theorem gB {K:(Nat→AV)→E7→List (List F7×List F7)→Prop}{d S:Nat}{f:Opd}{args:List Opd}{v:AV}{ks us:List F7}{g':List (F7×Option Blk)}(h:OC P u l g S f args v ks us g')(hk:Ep P u r (T ((d,v)::l)) (G g') fun t' h' tr=>K t' h' ((ks,us)::tr)):Ep P u (⟨some d, .ocall S f args,none⟩::r) (T l) (G g) K:=by
  unfold Ep;simp only [gW,DV];refine h.w _ fun ups e1 e=> ?_;rw [e,e1,h.ks];exact hk
end
end Go.Abs
namespace Go.Abs
open Go
section
variable {P:Program}{N:Nat}
def KI (ks:List F7)(t:Nat→AV)(h:E7)(rs:List RV):Option D:=match LA t h rs with
  |some vs=>match P2 (O2 (S4 h ks) 6) vs with
   |some [d]=>some d
   |some ds=>some (.tup ds)
   |none=>none
  |none=>none
def HE (h:E7)(ks:List F7):Nat→List (Option Blk)→Prop
  |_,[]=>True
  |i,none::r=>HE h ks (i+1) r
  |i,some (.box ty cs)::r=>(∃cs' ds ds',h (At i)=some (.box ty cs')∧At i∉ks∧P2 (O2 (S4 h ks) 6) cs'=some ds∧All2 DLe ds ds'∧cs=ds'.map .d)∧HE h ks (i+1) r
  |i,some (.arr ty sz es)::r=>(h (At i)=some (.arr ty sz es)∧At i∉ks)∧HE h ks (i+1) r
  |_,some (.obj _ _)::_=>False
  |_,some (.mp _)::_=>False
def DY:Nat→List (Option Blk)→List (F7×Option Blk)
  |_,[]=> []
  |i,b::r=>(At i,b)::DY (i+1) r
theorem RK: ∀{l:List (Option Blk)} {i:Nat} {q:F7} {b:Blk},G (DY i l) q=some b→∃j,q=At (i+j)∧l[j]? =some (some b)
  | [],i,q,b,h=>by cases h
  |x::r,i,q,b,h=>by
   rw [DY,G]at h;by_cases e:q=At i
   ·rw [bO e]at h;subst h;exact ⟨0,e,rfl⟩
   ·rw [bP e]at h;obtain ⟨j,h1,h2⟩:=RK h;exact ⟨j+1,by rw [h1];congr 1;omega,by simpa using h2⟩
theorem WT: ∀{l:List (Option Blk)} {i j:Nat} {b:Option Blk},l[j]? =some b→G (DY i l) (At (i+j))=b
  | [],i,j,b,h=>by simp at h
  |x::r,i,j,b,h=>by
   rw [DY,G];cases j with
   |zero=>simp at h;subst h;rw [bO (by simp)]
   |succ j=>
    rw [bP (fun e=>by have:=WP e;omega),show i+ (j+1)=i+1+j by omega];exact WT (by simpa using h)
theorem RL {h:E7}{ks:List F7}: ∀{l:List (Option Blk)} {i j:Nat} {b:Blk},HE h ks i l→l[j]? =some (some b)→At (i+j)∉ks∧
    ((∃ty cs' ds ds',b= .box ty (ds'.map .d)∧h (At (i+j))=some (.box ty cs')∧P2 (O2 (S4 h ks) 6) cs'=some ds∧All2 DLe ds ds')∨∃ty sz es,b= .arr ty sz es∧h (At (i+j))=some (.arr ty sz es))
  | [],i,j,b,_,hb=>by simp at hb
  |x::r,i,j,b,hp,hb=>by
   cases j with
   |zero=>
    simp at hb;subst hb;cases b with
    |box ty cs=>obtain ⟨⟨cs',ds,ds',a1,a2,a3,a4,rfl⟩,_⟩:=hp;exact ⟨a2, .inl ⟨ty,cs',ds,ds',rfl,a1,a3,a4⟩⟩
    |arr ty sz es=>exact ⟨hp.1.2, .inr ⟨ty,sz,es,rfl,hp.1.1⟩⟩
    |obj=>exact hp.elim
    |mp=>exact hp.elim
   |succ j=>
    have hr:HE h ks (i+1) r:=by
      cases x with
      |none=>exact hp
      |some x=>cases x<;>first|exact hp.2|exact hp.elim
    have:=RL hr (by simpa using hb:r[j]? =some (some b))
    rwa [show i+1+j=i+ (j+1) by omega]at this
theorem gC (f:F7→F7)(ds:List D):(ds.map AV.d).map (QD f)=ds.map .d:=by rw [List.map_map];rfl
theorem Ol {f:FuncId}{rs:List RV}{ac:AC}(F:FnOK P f N rs ac){avs:List AV}{pre:List Blk}{v:D}{post:List (Option Blk)}(hok:tP avs pre (.d v) post []=true)(hl:avs.length≤N)
    (h:Dj P N none [.c ac] (fun e s=>(e= .nrm∨e= .ret)∧∃ks d',KI ks s.t s.h rs=some d'∧DLe d' v∧HE s.h ks 0 post) .nrm ⟨T (BN avs 0),G (AH 0 pre)⟩):MCall P f avs pre (.d v) post []:=by
  refine ⟨hok,F.enters,?_⟩;obtain ⟨fn,c,hf,hb,hN,hrs,⟨M,hc⟩,hn⟩:=F.ex;intro w I ρ vs H hlen hrep;have hsim:=BG (n:=N) H hlen (by omega) hrep;rw [← hN,UB]at hsim;refine Rn (Q:=fun e s=>(e= .nrm∨e= .ret)∧∃ks d',KI ks s.t s.h rs=some d'∧DLe d' v∧HE s.h ks 0 post) hf hb rfl hsim (by rw [hN];exact h M c hc) ?_;rintro e s' a' w' I' ρ' ⟨he,ks,d',hv,hle,hp⟩ hs' tr;have Hs:=hs'.heap
  let hk:E7:=S4 s'.h ks
  have hsub: ∀q b,hk q=some b→s'.h q=some b∧q∈ks:=by
    intro q b hq;have:(if q∈ks then s'.h q else none)=some b:=hq;split at this
    ·exact ⟨this,‹_›⟩
    ·cases this
  have Hk:=Hs.sub fun q b hq=>(hsub q b hq).1
  have hg: ∀q b,G (DY 0 post) q=some b→∃b0,s'.h q=some b0∧q∉ks∧O5 ρ' q b=O5 ρ' q b0∧BlkOK w' (fun b=>I' b∨own ρ' hk b) ρ' q b∧∀f,Ms f b=b:=by
    intro q b hq;obtain ⟨i,rfl,h2⟩:=RK hq;rw [wK];obtain ⟨h3,h4⟩:=RL hp h2;rw [wK]at h3 h4;rcases h4 with ⟨ty,cs',ds,ds',rfl,a1,a2,a3⟩|⟨ty,sz,es,rfl,a1⟩
    ·refine ⟨_,a1,h3,rfl,?_,fun f=>by simp only [Ms,gC]⟩;obtain ⟨g,ws,b1,b2,b3,b4,b5⟩:=Hs.blk _ _ a1;obtain ⟨l1,l2⟩:=Gu a2;refine ⟨g,ws,b1,b2,by rw [lS,← a3.length,l1];exact b3,b4,fun i c hc=> ?_⟩;obtain ⟨d1,hd1,rfl⟩:=GV hc;obtain ⟨d0,e1,e2⟩:=a3.get hd1;obtain ⟨x,e3,e4⟩:=l2 i d0 e1;exact .d _ _ (e2 _ _ _ (Lx Hk 6 x d0 _ (b5 i x e3) e4))
    ·exact ⟨_,a1,h3,rfl,(Hs.blk _ _ a1).keep (fun _ _=>rfl) (fun _ _=>rfl) (fun _ h=> .inl h) (fun _ _ h=>h),fun f=>rfl⟩
  have hownG: ∀g,own ρ' (G (DY 0 post)) g→own ρ' s'.h g:=by
    rintro g ⟨q,b,a1,a2⟩;obtain ⟨b0,c1,_,c3,_⟩:=hg q b a1;exact ⟨q,b0,c1,by rw [← c3];exact a2⟩
  have H2:HeapOK w' (fun b=>I' b∨own ρ' hk b) ρ' (G (DY 0 post)):=by
    refine ⟨fun q b hq=>by obtain ⟨_,_,_,_,c,_⟩:=hg q b hq;exact c,fun q q' b b' g h1 h2 h3 h4=> ?_,fun q b g h1 h2 hi=> ?_,fun q b g h1 h2=> ?_,fun b hb=> ?_,Hs.fresh,Hs.rone⟩
    ·obtain ⟨b0,c1,_,c3,_⟩:=hg q b h1;obtain ⟨b1,d1,_,d3,_⟩:=hg q' b' h2;rw [c3]at h3;rw [d3]at h4;exact Hs.sep q q' b0 b1 g c1 d1 h3 h4
    ·obtain ⟨b0,c1,c2,c3,_⟩:=hg q b h1;rw [c3]at h2;rcases hi with hi|⟨k,x,e1,e2⟩
     ·exact Hs.notI q b0 g c1 h2 hi
     ·obtain ⟨e3,e4⟩:=hsub k x e1;have:=Hs.sep q k b0 x g c1 e3 h2 e2;subst this;exact c2 e4
    ·obtain ⟨b0,c1,c2,c3,_⟩:=hg q b h1;rw [c3]at h2;exact Hs.lt q b0 g c1 h2
    ·rcases hb with hb|hb
     ·exact Hs.ilt b hb
     ·exact Hk.own_lt hb
  unfold KI at hv;split at hv
  ·rename_i avs' hres;obtain ⟨xs,g1,g2,g3⟩:=BF hs' hrs hres
   have hds: ∀{ds:List D},P2 (O2 hk 6) avs'=some ds→ds.length=xs.length∧∀(i:Nat) d,ds[i]? =some d→RepD w' (fun b=>I' b∨own ρ' hk b) d (xs.getD i undef):=by
     intro ds hds;obtain ⟨l1,l2⟩:=Gu hds;refine ⟨by omega,fun i d hd=> ?_⟩;obtain ⟨x,e3,e4⟩:=l2 i d hd;exact Lx Hk 6 x d _ (g3 i x e3) e4
   have hfin: ∀x,(results fn a'.tmps).run P w'= .ok x w'→RepD w' (fun b=>I' b∨own ρ' hk b) d' x→
    ∃x,(results fn a'.tmps).run P w'= .ok x w'∧∃x' v' I'' ρ'' h'',Ending.returned x= .returned x'∧RepV w' I'' ρ'' v' x'∧HeapOK w' I'' ρ'' h''∧Tr w I ρ (G (AH 0 pre)) w' I'' ρ'' h''∧HC pre.length (.d v) post [] v' h'':=by
     intro x hx hr;refine ⟨x,hx,x, .d v,_,ρ',G (DY 0 post),rfl, .d _ _ (hle _ _ _ hr),H2,⟨tr.os,tr.tape,tr.output,tr.size,tr.frame,fun b hb=> .inl (tr.imm b hb),fun b hb hl=> ?_,fun b hb hl=>tr.ownBack b (hownG b hb) hl,tr.rho⟩,fun _=>(0,0),rfl,fun i b hb=> ?_,fun j b hb=>by simp at hb,fun j hj=>by simp at hj,fun j j' hj=>by simp at hj⟩
     ·rcases hb with hb|⟨k,x,e1,e2⟩
      ·exact tr.immBack b hb hl
      ·exact .inr (tr.ownBack b ⟨k,x,(hsub k x e1).1,e2⟩ hl)
     ·have h1:G (DY 0 post) (At (0+i))=some b:=WT hb;rw [wK]at h1;obtain ⟨_,_,_,_,_,c⟩:=hg _ b h1;rw [h1,c]
   have hmain: ∃x,(results fn a'.tmps).run P w'= .ok x w'∧RepD w' (fun b=>I' b∨own ρ' hk b) d' x:=by
     split at hv
     ·rename_i d hd;cases hv;obtain ⟨l1,l2⟩:=hds hd
      obtain ⟨x,rfl⟩: ∃x,xs= [x]:=by
        cases xs with
        |nil=>simp at l1
        |cons x r=>cases r with
         |nil=>exact ⟨x,rfl⟩
         |cons=>simp at l1
      exact ⟨x,by rw [Uf fn a' w' _ g1];simp,l2 0 _ rfl⟩
     ·rename_i ds hne hd;cases hv;obtain ⟨l1,l2⟩:=hds hd
      have hx1: ¬xs.length=1:=by
        intro h1;rw [← l1]at h1;obtain ⟨v,rfl⟩:=List.length_eq_one_iff.1 h1;exact hne v rfl
      exact ⟨_,by rw [Uf fn a' w' _ g1,dif_neg hx1], .tup ds xs l1 l2⟩
     ·cases hv
   obtain ⟨x,hx,hr⟩:=hmain;obtain ⟨x1,h1,h2⟩:=hfin x hx hr;exact ⟨he,x1,h1,h2⟩
  ·cases hv
theorem UC {f:FuncId}{rs:List RV}{ac:AC}(F:FnOK P f N rs ac){avs:List AV}{pre:List Blk}{v:AV}{post:List (Option Blk)}{new:List (Option Blk)}(hok:tP avs pre v post new=true)(hl:avs.length≤N)
    (h:Dj P N none [.c ac] (fun e s=>(e= .nrm∨e= .ret)∧∃v' v1 g1,FH s.t s.h rs=some v'∧AVle v' v1∧LB s.h g1∧HC pre.length v post new v1 (G g1)) .nrm ⟨T (BN avs 0),G (AH 0 pre)⟩):MCall P f avs pre v post new:=
  vJ F hok hl (by rw [UB];exact h)
theorem Qc {t:Nat→AV}{h:E7}{rs:List RV}{d d':D}{e:Ex}{post:List (Option Blk)}(he:e= .nrm∨e= .ret)(ks:List F7)(h1:KI ks t h rs=some d')(h2:DLe d' d)(h3:HE h ks 0 post):
    (e= .nrm∨e= .ret)∧∃ks d',KI ks (⟨t,h⟩:St).t (⟨t,h⟩:St).h rs=some d'∧DLe d' d∧HE (⟨t,h⟩:St).h ks 0 post:=⟨he,ks,d',h1,h2,h3⟩
theorem FI {t:Nat→AV}{h:E7}{ks:List F7}:KI ks t h []=some (.tup []):=rfl
theorem IU {t:Nat→AV}{h:E7}{ks:List F7}{a:RV}{v:AV}{d:D}(hv:FG t h a=some v)(hr:O2 (S4 h ks) 6 v=some d):KI ks t h [a]=some d:=by simp only [KI,LA,hv,P2,hr]
theorem NV {h:E7}{ks:List F7}{k:F7}{b:Option Blk}(hm:k∈ks)(hb:h k=b):S4 h ks k=b:=by unfold S4;rw [bO hm];exact hb
theorem R5 {h:E7}: ∀q∈([]:List F7),h q≠none:=by simp
theorem Q7 {h:E7}{k:F7}{b:Blk}{ks:List F7}(hb:h k=some b)(hr: ∀q∈ks,h q≠none): ∀q∈k::ks,h q≠none:=by
  intro q hq;rcases lU.1 hq with rfl|hq
  ·rw [hb];simp
  ·exact hr q hq
theorem W4 {l:List AV}:All2 AVle l l:=by
  induction l with
  |nil=>exact .nil
  |cons x r ih=>exact .cons (.refl x) ih
theorem Om {a b x y:Nat}(h:(a==b)=false):((a,x):F7)≠(b,y):=by rintro ⟨⟩;simp at h
theorem nd1 {k:F7}: [k].Nodup:=by simp
theorem xF {k k':F7}(h:k≠k'): [k,k'].Nodup:=by simp [h]
theorem W0 {k:F7}:k∉ ([]:List F7):=by simp
theorem RM {i d u:Nat}{ks:List F7}(h:Nat.blt d 900000=true)(hr:At i∉ks):At i∉ (d,u)::ks:=by
  simp only [lU,not_or];exact ⟨fun e=>mP h i e.symm,hr⟩
theorem IV {l:List D}:All2 DLe l l:=by
  induction l with
  |nil=>exact .nil
  |cons x r ih=>exact .cons (.refl x) ih
end
end Go.Abs
namespace Go.Abs
open Go
theorem On {x d:Nat}{l:List Nat}(h:d∈l)(ha:(l.all fun a=> !(a==x))=true):(d==x)=false:=by
  have:=lY.1 ha d h;simpa using this
theorem Pr {ds:List Nat}{d u:Nat}{r:Option Blk}(h:d∈ds): ∀(n:Nat) {l:List (F7×Option Blk)},((l.take n).all fun e=>ds.all fun a=> !(a==e.1.1))=true→G (l.drop n) (d,u)=r→G l (d,u)=r
  |0,_,_,h2=>h2
  |n+1,[],_,h2=>h2
  |n+1,(i,b)::l,h1,h2=>by
   simp only [List.take_succ_cons,List.all_cons,bS]at h1;exact C3 (On h h1.1) (Pr h n h1.2 h2)
theorem Zu {k:F7}{r:Option Blk}: ∀(n:Nat) {l:List (F7×Option Blk)},((l.take n).all fun e=> !(k.1==e.1.1))=true→G (l.drop n) k=r→G l k=r
  |0,_,_,h2=>h2
  |n+1,[],_,h2=>h2
  |n+1,(i,b)::l,h1,h2=>by
   simp only [List.take_succ_cons,List.all_cons,bS]at h1;exact C3 (by simpa using h1.1) (Zu n h1.2 h2)
theorem T6 {t:Nat→AV}: ∀{l:List (Nat×AV)},(l.map fun p=>t p.1)=l.map (fun p=>p.2)→vD t l
  | [],_=>trivial
  |(i,v)::l,h=>by
   rw [lR,lR,List.cons.injEq]at h;exact ⟨.of h.1,T6 h.2⟩
theorem Wb {x d:Nat}{l:List Nat}(h:d∈l)(ha:(l.all fun a=> !(x==a))=true):(x==d)=false:=by
  have:=lY.1 ha d h;simpa using this
theorem gD {d e:Nat}{l m:List Nat}(h:d∈l)(h':e∈m)(ha:(l.all fun a=>m.all fun b=> !(a==b))=true):(d==e)=false:=by
  have:=lY.1 (lY.1 ha d h) e h';simpa using this
theorem DG {α:Type}(xs:List α)(k:F7):Kx (oS xs k)=some [oS xs k]:=by cases xs<;>rfl
def LY {α:Type}(t:Nat→AV)(f:α→List D)(sz:Nat):Nat→List (Nat×Nat×Opd)→List α→Prop
  |_,[],[]=>True
  |i,(off,m,x)::ps,a::as=>off=i*sz∧m=sz∧Kx (ev t x)=some ((f a).map .d)∧LY t f sz (i+1) ps as
  |_,_,_=>False
theorem mS {α:Type}(pre post vs:List α)(h:vs.length≤post.length):Lw (pre++post) pre.length vs=pre++ (vs++post.drop vs.length):=by
  apply List.ext_getElem?;intro i;rw [Fy _ _ _ _ (by simp;omega)];by_cases h1:i<pre.length
  ·rw [bP (by omega),lX h1,lX h1]
  ·rw [lW (by omega),lW (by omega)];by_cases h2:i<pre.length+vs.length
   ·rw [bO (by omega),lX (by omega)]
   ·rw [bP (by omega),lW (by omega),l9];congr 1;omega
theorem FJ {α:Type}{t:Nat→AV}{f:α→List D}{sz:Nat}(hf: ∀a,(f a).length=sz): ∀(as:List α) (ps:List (Nat×Nat×Opd)) (i:Nat) (pre post:List AV),pre.length=i*sz→post.length=as.length*sz→LY t f sz i ps as→
    Ta t (pre++post) ps=some (pre++ (as.flatMap f).map .d)
  | [],[],i,pre,post,_,hl,_=>by
    have:post= []:=l8 (by simpa using hl);subst this;simp [Ta]
  | [],_::_,_,_,_,_,_,hp=>hp.elim
  |_::_,[],_,_,_,_,_,hp=>hp.elim
  |a::as,(off,m,x)::ps,i,pre,post,h1,h2,hp=>by
   obtain ⟨rfl,rfl,hc,hr⟩:=hp;have hl:post.length=m+as.length*m:=by rw [h2,lL,wJ];omega
   have hv:((f a).map AV.d).length=m:=by simp [hf]
   simp only [Ta,hc,hv,true_and];rw [bO (by simp [h1,hl]),← h1,mS _ _ _ (by rw [hv,hl];omega),hv,← lO];rw [FJ hf as ps (i+1) _ _ (by rw [lM,hv,h1,wJ];omega) (by rw [List.length_drop,hl];omega) hr];simp
theorem FK {α:Type}{f:α→List D}{sz:Nat}(hf: ∀a,(f a).length=sz): ∀as:List α,No sz as.length (as.flatMap f)=as.map f
  | []=>rfl
  |a::as=>by
   simp only [lL,No,bE,lR];rw [List.take_left' (hf a),List.drop_left' (hf a),FK hf as]
theorem IW {α:Type}(z:List α): ∀n,(Rg z n).length=n*z.length
  |0=>by simp [Rg]
  |n+1=>by simp [Rg,IW z n,wJ];omega
theorem IX: ∀l:List D,Kw (l.map .d)=some l
  | []=>rfl
  |x::r=>by simp [Kw,IX r]
theorem IY {α:Type}{t:Nat→AV}{h:E7}{e sz n:Nat}{z:List D}{ps:List (Nat×Nat×Opd)}(f:α→List D)(xs:List α)(hf: ∀a,(f a).length=sz)(hz:z.length=sz)(hn:xs.length=n)(hp:LY t f sz 0 ps xs)(hm: ∀a,(f a).map nrm=f a):
    K3 t h (.dslice e sz n z ps)=some (.d (.list (xs.map f))):=by
  have:=FJ hf xs ps 0 [] ((Rg z n).map .d) (by simp) (by rw [lS,IW,hz,hn]) hp;simp only [lQ]at this;simp only [K3,this,lB,IX,lF];rw [← hn,IN,FK hf,List.map_map,show ((fun x=>List.map nrm x)∘f)=f from funext hm]
theorem Oo {α:Type}{t:Nat→AV}{u d e sz n:Nat}{z:List D}{ps:List (Nat×Nat×Opd)}(f:α→List D)(xs:List α)(hf: ∀a,(f a).length=sz)(hz:z.length=sz)(hn:xs.length=n)(hp:LY t f sz 0 ps xs):
    Pm u d t (.bslice e sz n z ps)=some (.sl (d,u), .arr e sz (xs.map f)):=by
  have:=FJ hf xs ps 0 [] ((Rg z n).map .d) (by simp) (by rw [lS,IW,hz,hn]) hp;simp only [lQ]at this;simp only [Pm,this,lB,IX,lF];rw [← hn,FK hf]
def zZ (ks:List Int)(n:Int):List Int:=if n∈ks then ks else ks++ [n]
theorem DLe.bp {xs ys:List D}{off:Nat}(h:All2 (fun x y=>DLe x y∧y.one=true) xs ys):DLe (.bp xs off) (.bp ys off):=by
  intro w I v hv;cases hv with
  |bp _ _ g vs ty fz hI hg hl hone hr=>
   refine .bp ys off g vs ty fz hI hg (by rw [← h.length];exact hl) (fun i d hi=> ?_) (fun i d hi=> ?_)
   ·obtain ⟨a,_,h2⟩:=h.get hi;exact h2.2
   ·obtain ⟨a,h1,h2⟩:=h.get hi;exact h2.1 _ _ _ (hr i a h1)
section
variable {P:Program}{u:Nat}{r:List AOp}{l:List (Nat×AV)}{g:List (F7×Option Blk)}{t:Nat→AV}{h:E7}
theorem gE {K:(Nat→AV)→E7→Prop}{α:Type}{d e sz:Nat}{ty:TypeId}{x y:Opd}(f:α→List D)(k:F7)(xs ys zs:List α)(hy:Aq (G g) sz (ev (T l) y)=some (ys.map f))(hx:ev (T l) x=oS xs k)(hb:G g k=oB e sz f xs)(hl:X3 xs ys=some zs)(hn:G g (d,u)=none)
    (hk:M1 P u r (T ((d,oS zs (d,u))::l)) (G (((d,u),oB e sz f zs)::(k,none)::g)) K):M1 P u (⟨some d, .append ty e sz x y,none⟩::r) (T l) (G g) K:=by
  cases ys with
  |cons v ys=>
   refine O6 f k xs v ys zs hy hx hb hl ?_;rw [T3 (k:=(d,u)) (S5 hl),dL (S5 hl)]at hk;exact hk
  |nil=>
   obtain ⟨h1,rfl⟩:=If hl;cases xs with
   |nil=>
    have hy':Aq (G g) sz (ev (T l) y)=some []:=hy;have hx':ev (T l) x= .d .nilS:=hx;unfold M1;simp only [gW,DV,Jg,hy',hx',Q4]
    have e0:G (((d,u),oB e sz f ([]:List α))::(k,none)::g)=G g:=by
      funext q;rw [G,G];by_cases e1:q=(d,u)
      ·subst e1;rw [bO rfl,hn];rfl
      ·rw [bP e1];by_cases e2:q=k
       ·subst e2;rw [bO rfl,hb];rfl
       ·rw [bP e2]
    rw [← e0];exact hk
   |cons x0 xs=>
    refine BL f k (x0::xs) [] _ hy hx hb hl ?_;exact hk
end
end Go.Abs
namespace Go.Abs
open Go
class Le {α:Type} (x y:Option α):Prop where
  out: ∀r,x=some r→y=some r
section
variable {α β γ σ τ:Type}
instance {x y:Option α}:CoeFun (Le x y) (fun _=> ∀r,x=some r→y=some r):=⟨fun h=>h.out⟩
instance (priority:=low) Le.refl (x:Option α):Le x x:=⟨fun _ h=>h⟩
instance Le.bind {x y:Option α}{f g:α→Option β}[h:Le x y][hf: ∀v,Le (f v) (g v)]:Le (x.bind f) (y.bind g):=by
  refine ⟨fun r hr=> ?_⟩;cases x with
  |none=>cases hr
  |some v=>rw [h v rfl];exact hf v r hr
instance Le.cond {b:Bool}{x y x' y':Option α}[h:Le x x'][h':Le y y']:Le (cond b x y) (cond b x' y'):=by cases b<;>assumption
instance Le.ite {p:Prop}[Decidable p]{x y x' y':Option α}[h:Le x x'][h':Le y y']:Le (if p then x else y) (if p then x' else y'):=by split<;>assumption
instance Le.thenS {x x':Option (Sum σ β)}{f f':σ→Option γ}{g g':β→Option γ}[h:Le x x'][hf: ∀v,Le (f v) (f' v)][hg: ∀v,Le (g v) (g' v)]:Le (thenS x f g) (thenS x' f' g'):=by
  refine ⟨fun r hr=> ?_⟩;cases x with
  |none=>cases hr
  |some v=>rw [h v rfl];cases v<;>first|exact hf _ r hr|exact hg _ r hr
@[reducible] def X4:Lp:=⟨fun f s=>loopN f 100000 s⟩
theorem Le.loopN {f f':σ→Option (Stp σ τ)}(h: ∀s,Le (f s) (f' s)): ∀(n:Nat) (s:σ),Le (loopN f n s) (loopN f' n s)
  |0,s=>⟨fun r hr=>by cases hr⟩
  |n+1,s=>⟨fun r hr=>by
   rw [Abs.loopN]at hr ⊢;cases hf:f s with
   |none=>rw [hf]at hr;cases hr
   |some x=>
    rw [hf]at hr;rw [h s x hf];cases x with
    |go s'=>exact Le.loopN h n s' r hr
    |out t=>exact hr⟩
instance Le.loop {f f':σ→Option (Stp σ τ)}[h: ∀s,Le (f s) (f' s)](s:σ):Le (@loop _ _ X4 f s) (loop f' s):=⟨fun r hr=>loop_some.2 ⟨_,Le.loopN h _ s r hr⟩⟩
theorem Le.loopLh {f f':σ→α→Option (Stp σ τ)}{e:σ→τ}(h: ∀s a,Le (f s a) (f' s a)): ∀(l:List α) (s:σ),Le (loopL f e l s) (loopL f' e l s)
  | [],s=>⟨fun r hr=>hr⟩
  |a::l,s=>⟨fun r hr=>by
   rw [Abs.loopL]at hr ⊢;cases hf:f s a with
   |none=>rw [hf]at hr;cases hr
   |some x=>
    rw [hf]at hr;rw [h s a x hf];cases x with
    |go s'=>exact Le.loopLh h l s' r hr
    |out t=>exact hr⟩
instance Le.loopL {f f':σ→α→Option (Stp σ τ)}{e:σ→τ}[h: ∀s a,Le (f s a) (f' s a)](l:List α)(s:σ):Le (loopL f e l s) (loopL f' e l s):=Le.loopLh h l s
end
end Go.Abs
namespace Go.Abs
open Go
abbrev oo (d:Nat)(k:AK):AOp:=⟨some d,k,none⟩
abbrev og (d:Nat)(k:AK)(j:Nat):AOp:=⟨some d,k,some (j,true)⟩
abbrev oh (d:Nat)(k:AK)(j:Nat):AOp:=⟨some d,k,some (j,false)⟩
abbrev oe (k:AK):AOp:=⟨none,k,none⟩
abbrev ci (n:Int):Opd:= .c (.v (.int .i64 n))
abbrev cf (n:Nat):Opd:= .c (.fn (.func n) [] [])
abbrev z0:D:= .v (.int .i64 0)
abbrev zf:D:= .v (.bool false)
abbrev di (n:Int):AV:= .d (.v (.int .i64 n))
abbrev db (b:Bool):AV:= .d (bo b)
abbrev dl {α:Type}(e:α→List D)(xs:List α):AV:= .d (.list (List.map e xs))
def gl:List (F7×Option Blk)→Nat→Option (F7×Option Blk)
  | [],_=>none
  |(k,b)::l,d=>cond (Nat.beq k.1 d) (some (k,b)) (gl l d)
theorem mT {b:Option Blk}{k:F7}: ∀{g:List (F7×Option Blk)},gl g k.1=some (k,b)→G g k=b
  | [],h=>by cases h
  |(q,c)::l,h=>by
   unfold gl at h;cases e:Nat.beq q.1 k.1
   ·rw [e,bN]at h;have ne:k≠q:=by rintro rfl;simp at e
    rw [G,bP ne];exact mT h
   ·rw [e,bM]at h;simp only [Option.some.injEq,Prod.mk.injEq]at h;obtain ⟨rfl,rfl⟩:=h;exact A2
theorem gq {d u:Nat}{b:Option Blk}{g:List (F7×Option Blk)}(h:gl g d=some ((d,u),b)):G g (d,u)=b:=mT h
theorem WU {l:List (Nat×AV)}: ∀{l0:List (Nat×AV)},l0.map (fun p=>(p.1,T l p.1))=l0→vD (T l) l0
  | [],_=>trivial
  |(i,v)::r,h=>by
   simp only [lR,List.cons.injEq,Prod.mk.injEq,true_and]at h;exact ⟨.of h.1,WU h.2⟩
theorem WV {g:List (F7×Option Blk)}: ∀{g0:List (F7×Option Blk)},g0.map (fun p=>gl g p.1.1)=g0.map some→LB (G g) g0
  | [],_=>trivial
  |(k,b)::r,h=>by
   simp only [lR,List.cons.injEq]at h;refine ⟨?_,WV h.2⟩;cases b with
   |none=>trivial
   |some b=>exact ⟨b,mT h.1, .refl b⟩
theorem F0 {l l0:List (Nat×AV)}{g g0:List (F7×Option Blk)}(h1:l0.map (fun p=>(p.1,T l p.1))=l0)(h2:g0.map (fun p=>gl g p.1.1)=g0.map some):Sb ⟨T l0,G g0⟩ ⟨T l,G g⟩:=D0 (WU h1) (WV h2)
theorem nl {a b:Nat}(h:Nat.ble a b=true):a≤b:=Nat.le_of_ble_eq_true h
theorem bs {α β:Type}{o:Option α}{f:α→Option β}{r:β}{Q:Prop}(h:o.bind f=some r)(k: ∀v,o=some v→f v=some r→Q):Q:=by
  cases o with
  |none=>cases h
  |some v=>exact k v rfl h
theorem js {σ β γ:Type}{x:Option (Sum σ β)}{f:σ→Option γ}{g:β→Option γ}{r:γ}{Q:Prop}(h:thenS x f g=some r)(k: ∀y,x=some y→Sum.elim f g y=some r→Q):Q:=by
  obtain ⟨y,h1,h2⟩:=aG h;exact k y h1 h2
section
variable {P:Program}{N u:Nat}{rk:Option F7}{aops:List AOp}{r:List It}{l:List (Nat×AV)}{g:List (F7×Option Blk)}{K:(Nat→AV)→E7→Prop}{Q:Ex→St→Prop}{s:St}
theorem cc {α:Type}{o:Opd}{a b:AC}{c:Bool}{x y z:α}(hc:ev s.t o= .d (.v (.bool c)))(h:cond c x y=z)(h1:c=true→x=z→Dj P N rk (.c a::r) Q .nrm s)(h2:c=false→y=z→Dj P N rk (.c b::r) Q .nrm s):Dj P N rk (.c (.cond o a b)::r) Q .nrm s:=
  aD c hc (fun e=>h1 e (C1 e h)) (fun e=>h2 e (vE e h))
theorem sd {d:Nat}{k:AK}{v:D}(h0:Z5 k=0)(hv:K3 (T l) (G g) k=some (.d v))(hk:M1 P u aops (T ((d, .d v)::l)) (G g) K):M1 P u (⟨some d,k,none⟩::aops) (T l) (G g) K:=B9 (.d v) h0 hv hk
theorem sp {d:Nat}{k:AK}{q:F7}{n:Nat}(h0:Z5 k=0)(hv:K3 (T l) (G g) k=some (.ptr q n))(hk:M1 P u aops (T ((d, .ptr q n)::l)) (G g) K):M1 P u (⟨some d,k,none⟩::aops) (T l) (G g) K:=B9 (.ptr q n) h0 hv hk
theorem sq {d:Nat}{k:AK}{q:F7}{n:Nat}(hv:((Z5 k,K3 (T l) (G g) k):Nat×Option AV)=(0,some (.ptr q n)))(hk:M1 P u aops (T ((d, .ptr q n)::l)) (G g) K):M1 P u (⟨some d,k,none⟩::aops) (T l) (G g) K:=B9 (.ptr q n) (congrArg Prod.fst hv) (congrArg Prod.snd hv) hk
theorem sm {d ty:Nat}{k:AK}{q:F7}{n:Nat}{cs:List AV}(hv:((Uc k,Pm u d (T l) k):Bool×Option (AV×Blk))=(true,some (.ptr q n, .box ty cs)))(hk:M1 P u aops (T ((d, .ptr q n)::l)) (G (((d,u),some (.box ty cs))::g)) K):M1 P u (⟨some d,k,none⟩::aops) (T l) (G g) K:=Ok _ _ (congrArg Prod.fst hv) (congrArg Prod.snd hv) hk
theorem sn {d ty:Nat}{k:AK}{q:F7}{n:Nat}{cs:List AV}(h0:Uc k=true)(hv:Pm u d (T l) k=some (.ptr q n, .box ty cs))(hk:M1 P u aops (T ((d, .ptr q n)::l)) (G (((d,u),some (.box ty cs))::g)) K):M1 P u (⟨some d,k,none⟩::aops) (T l) (G g) K:=Ok _ _ h0 hv hk
theorem gv {d j:Nat}{b w:Bool}{k:AK}{v:D}(h0:Z5 k=0)(hg:rC (T l j) b w)(hv:w=true→K3 (T l) (G g) k=some (.d v))(hk:M1 P u aops (T ((d,gd w true (.d v))::l)) (G g) K):M1 P u (⟨some d,k,some (j,b)⟩::aops) (T l) (G g) K:=M9 w (.d v) h0 hg hv hk
theorem sv {d:Nat}{k:AK}{v:D}(hv:((Z5 k,K3 (T l) (G g) k):Nat×Option AV)=(0,some (.d v)))(hk:M1 P u aops (T ((d, .d v)::l)) (G g) K):M1 P u (⟨some d,k,none⟩::aops) (T l) (G g) K:=B9 (.d v) (congrArg Prod.fst hv) (congrArg Prod.snd hv) hk
theorem ss {d:Nat}{k:AK}{q:F7}(hv:((Z5 k,K3 (T l) (G g) k):Nat×Option AV)=(0,some (.sl q)))(hk:M1 P u aops (T ((d, .sl q)::l)) (G g) K):M1 P u (⟨some d,k,none⟩::aops) (T l) (G g) K:=B9 (.sl q) (congrArg Prod.fst hv) (congrArg Prod.snd hv) hk
theorem sl {d n off:Nat}{p:Opd}{q:F7}{ty:TypeId}{cs:List AV}{v:D}(hp:ev (T l) p= .ptr q off)(hb:G g q=some (.box ty cs))(hv:(cs.drop off).head? =some (.d v))(hk:M1 P u aops (T ((d, .d v)::l)) (G g) K):M1 P u (⟨some d, .load n false p,none⟩::aops) (T l) (G g) K:=B9 (.d v) rfl (R3 hp hb hv) hk
theorem T1 {n:Nat}{p x:Opd}{k:F7}{off:Nat}{ty:TypeId}{bs cs:List AV}(hx:((Kx (ev (T l) x),cs.length,ev (T l) p):Option (List AV)×Nat×AV)=(some cs,n, .ptr k off))(hb:G g k=some (.box ty bs))(bs':List AV)(he:((Lw bs off cs,Nat.ble (off+n) bs.length):List AV×Bool)=(bs',true))
    (hk:M1 P u aops (T l) (G ((k,some (.box ty bs'))::g)) K):M1 P u (⟨none, .store n p x,none⟩::aops) (T l) (G g) K:=by
  simp only [Prod.mk.injEq]at hx he;exact Hz _ _ _ _ _ hx.1 hx.2.1 hx.2.2 hb (Nat.le_of_ble_eq_true he.2) bs' he.1 hk
theorem gp {d j:Nat}{b w:Bool}{k:AK}{q:F7}{n:Nat}(h0:Z5 k=0)(hg:rC (T l j) b w)(hv:w=true→K3 (T l) (G g) k=some (.ptr q n))(hk:M1 P u aops (T ((d,gd w true (.ptr q n))::l)) (G g) K):M1 P u (⟨some d,k,some (j,b)⟩::aops) (T l) (G g) K:=M9 w (.ptr q n) h0 hg hv hk
theorem gt {d j:Nat}{w:Bool}{k:AK}{v:D}(hg:((Z5 k,T l j):Nat×AV)=(0, .d (bo w)))(hv:w=true→K3 (T l) (G g) k=some (.d v))(hk:M1 P u aops (T ((d,gd w true (.d v))::l)) (G g) K):M1 P u (⟨some d,k,some (j,true)⟩::aops) (T l) (G g) K:=M9 w (.d v) (congrArg Prod.fst hg) (L9 (congrArg Prod.snd hg)) hv hk
theorem gf {d j:Nat}{w:Bool}{k:AK}{v:D}(hg:((Z5 k,T l j):Nat×AV)=(0, .d (bo w)))(hv:(!w)=true→K3 (T l) (G g) k=some (.d v))(hk:M1 P u aops (T ((d,gd (!w) true (.d v))::l)) (G g) K):M1 P u (⟨some d,k,some (j,false)⟩::aops) (T l) (G g) K:=M9 (!w) (.d v) (congrArg Prod.fst hg) (L3 (congrArg Prod.snd hg)) hv hk
theorem sa {d j x:Nat}{c q:Bool}{yo:Opd}(hj:ev (T l) (.t j)= .d (bo c))(hx:ev (T l) (.t x)=gd c true (.d (bo q)))(hy:ev (T l) yo= .d (bo false))(hk:M1 P u aops (T ((d, .d (bo (c&&q)))::l)) (G g) K):M1 P u (⟨some d, .pick (.t j) (.t x) yo,none⟩::aops) (T l) (G g) K:=B9 _ rfl (KH hj (fun hc=>by rw [hx,A3 hc]) hy) hk
theorem lr {a:AC}(h: ∀u,(∀k,G g k≠none→k.2≠u)→M1 P u aops (T l) (G g) fun t h=>Dj P N rk (.c a::r) Q .nrm ⟨t,h⟩):Dj P N rk (.c (.seq (.reg aops) a)::r) Q .nrm ⟨T l,G g⟩:=A6 (Ae h)
theorem B1 {a:AC}(h: ∀{u:Nat} {_: ∀k,G g k≠none→k.2≠u},M1 P u aops (T l) (G g) fun t h=>Dj P N rk (.c a::r) Q .nrm ⟨t,h⟩):Dj P N rk (.c (.seq (.reg aops) a)::r) Q .nrm ⟨T l,G g⟩:=lr fun u hu=> @h u hu
theorem C0 (h: ∀{u:Nat} {_: ∀k,G g k≠none→k.2≠u},M1 P u aops (T l) (G g) fun t h=>Dj P N rk r Q .nrm ⟨t,h⟩):Dj P N rk (.c (.reg aops)::r) Q .nrm ⟨T l,G g⟩:=Ae fun u hu=> @h u hu
theorem E9 (hn:xD aops=true)(h: ∀{u:Nat} {_: ∀k,G g k≠none→k.2≠u},M1 P u aops (T l) (G g) fun t h=>Dj P N rk r Q .nrm ⟨t,h⟩):Dj P N rk (.c (.draw aops [])::r) Q .nrm ⟨T l,G g⟩:=Oj hn fun u hu=> @h u hu
end
section
variable {t:Nat→AV}{h:E7}
theorem vb {op:BinOp}{x y:Opd}{k:IntKind}{a b:Int}{v:Value}{w:Bool}(hx:ev t x=gd w true (.d (.v (.int k a))))(hy:ev t y= .d (.v (.int k b)))(hr:QA op k a b=some v)(hw:w=true):K3 t h (.bin op x y)=some (.d (.v v)):=
  N2 (by rw [hx,A3 hw]) hy hr
theorem vl {n:Nat}{p:Opd}{k:F7}{off:Nat}{ty:TypeId}{bs:List AV}{v:AV}{w:Bool}(hp:ev t p=gd w true (.ptr k off))(hb:h k=some (.box ty bs))(hv:(bs.drop off).head? =some v)(hw:w=true):K3 t h (.load n false p)=some v:=R3 (by rw [hp,A3 hw]) hb hv
end
end Go.Abs
namespace Go.Abs
open Go
def oE {α:Type}(xs:List α)(k:F7):AV:=match xs with
  | []=> .d (.list [])
  |_=> .sl k
theorem xR {α:Type}{k:F7}{xs:List α}(h:xs≠ []):oE xs k= .sl k:=by cases xs<;>first|exact absurd rfl h|rfl
theorem oB_ren {α:Type}{ty:TypeId}{sz:Nat}{e:α→List D}{xs:List α}{f:F7→F7}:(oB ty sz e xs).map (Ms f)=oB ty sz e xs:=by cases xs<;>rfl
section
variable {t:Nat→AV}{h:E7}
end
theorem MCall.ofP {P:Program}{f:FuncId}{ds:List D}{r:D}(hp:PCall P f ds r):MCall P f (ds.map .d) [] (.d r) [] [none]:=by
  refine ⟨by simp [tP,zA,vI,rG],hp.1,fun w I ρ vs H hlen hrep=> ?_⟩;refine (hp.2 w I vs H.ilt (by simpa using hlen) (fun i d hi=> ?_)).mono ?_
  ·have:=hrep i (.d d) (by rw [lK,hi];rfl);cases this with|d _ _ h=>exact h
  rintro e w' ⟨x,I',rfl,hr,tr⟩;have hno: ∀g,¬own ρ (G (AH 0 [])) g:=by rintro g ⟨k,b,h1,_⟩;cases h1
  have H2:HeapOK w' I' ρ (G (AH 0 [])):=H.keep (fun g hg=>absurd hg (hno g)) (fun b hb=>tr.frame b (H.ilt b hb)) tr.imm (fun g hg=>absurd hg (hno g)) tr.ilt (fun _ _ h=>h) tr.size H.fresh H.rone;refine ⟨x, .d r,I',ρ,G (AH 0 []),rfl, .d _ _ hr,H2,⟨tr.os,tr.tape,tr.output,tr.size,fun b hb _=>tr.frame b hb,tr.imm,fun b hb hl=> .inl (tr.immBack b hb hl),fun b hb _=>hb,fun _ _ h=>h⟩,fun j=>mN j,rfl,fun i b hb=>by simp at hb,fun j b hb=> ?_,fun j hj i hi=>absurd hi (by simp),fun j j' hj hj' e=> ?_⟩
  ·cases j<;>simp at hb
  ·simp only [lL,lN]at hj hj';omega
theorem AVle.tup {xs ys:List AV}(h:All2 AVle xs ys):AVle (.tup xs) (.tup ys):=by
  intro w I ρ v hv;cases hv with
  |tup _ vs hl hr=>
   refine .tup _ vs (h.length▸hl) (fun i c hc=> ?_);obtain ⟨a,e1,e2⟩:=h.get hc;exact e2 _ _ _ _ (hr i a e1)
theorem NW {α:Type}{u S j:Nat}{f:F7→F7}{ty:TypeId}{sz:Nat}{e:α→List D}{xs:List α}{r:List (Option Blk)}{L:List (F7×Option Blk)}(h:BM u S f (j+1) r=L):BM u S f j (oB ty sz e xs::r)=((S+j,u),oB ty sz e xs)::L:=by
  rw [BM,oB_ren,h]
theorem mU {P:Program}{u:Nat}{l:List (Nat×AV)}{g:List (F7×Option Blk)}{S:Nat}{f:Opd}{args:List Opd}{fid:FuncId}{avs avs0:List AV}{pre:List Blk}{v v':AV}{post:List (Option Blk)}{new:List (Option Blk)}(hM:MCall P fid avs0 pre v post new)(κs ks us:List F7)(g':List (F7×Option Blk))
    (hc:U6 (T l) f args=some (fid,avs)) (hle:All2 AVle avs (avs0.map (QE (Ah (Jz κs) (Jz κs))))) (hks:avs.flatMap (R9 (G g) 6)=ks) (hlive: ∀q∈ks,G g q≠none)
    (hpre:gA (G g) κs (pre.map (Ms (Ah (Jz κs) (Jz κs))))) (hsub: ∀k∈κs,k∈ks) (hnd:κs.Nodup) (hv:UA (Ah (Jz κs) fun j=>(S+j,u)) v=v')
    (hus:(Vu (Jz κs) (Ah (Jz κs) fun j=>(S+j,u)) 0 post++BM u S (Ah (Jz κs) fun j=>(S+j,u)) 0 new).map (·.1)=us) {L:List (F7×Option Blk)} (hL:BM u S (Ah (Jz κs) fun j=>(S+j,u)) 0 new=L)
    (hg:Q4 (G g) (Vu (Jz κs) (Ah (Jz κs) fun j=>(S+j,u)) 0 post++L)=G g'):OC P u l g S f args v' ks us g':=
  Pn hM κs ks us g' hc hle hks hlive hpre hsub hnd hv hus (by rw [hL];exact hg)
theorem LZ {d u:Nat}(h:(Nat.blt d 900000||Nat.blt 901000 d)=true){i:Nat}(hi:i<1000):(d,u)≠At i:=by
  simp only [bT,Nat.blt_eq]at h;intro e;simp only [At,Prod.mk.injEq]at e;omega
theorem dS {n:Nat}{v v1:AV}{post new:List (Option Blk)}{h:E7}(σs:List F7)(hv:v1=UA (Ah At (Jz σs)) v)(hpost:dR h (Ah At (Jz σs)) 0 post)(hnew:rK h (Ah At (Jz σs)) σs new)
    (hl:(σs.length,Nat.ble n 1000)=(new.length,true)) (hd: ∀k∈σs,∀i,i<1000→k≠At i) (hnd:σs.Nodup):HC n v post new v1 h:=by
  simp only [Prod.mk.injEq,Nat.ble_eq]at hl
  have hget: ∀j,j<new.length→Jz σs j∈σs:=by
    intro j hj;simp only [Jz,List.getD,lH (show j<σs.length by omega),Option.getD_some];exact List.getElem_mem _
  refine ⟨Jz σs,hv,fun i b hb=> ?_,fun j b hb=>NT hnew hb,fun j hj i hi=>hd _ (hget j hj) i (by omega),fun j j' hj hj' e=> ?_⟩
  ·have:=IT hpost hb
   rwa [wK]at this
  ·simp only [Jz,List.getD,lH (show j<σs.length by omega),lH (show j'<σs.length by omega),Option.getD_some]at e;exact IS hnd (by omega) (by omega) e
end Go.Abs
namespace Go.Abs
open Go
def rM (h:E7)(x y:AV):Prop:=AVle x y∨∃d d',O2 h 6 x=some d∧DLe d d'∧y= .d d'
def vL (h:E7)(ks:List F7)(k:F7)(b:Blk):Prop:=k∉ks∧∃b0,h k=some b0∧(b0=b∨∃ty cs cs',b0= .box ty cs∧b= .box ty cs'∧All2 (rM (S4 h ks)) cs cs')
def xS (I:Nat→Prop)(ρ:Rho)(h:E7)(ks:List F7):Nat→Prop:=fun b=>I b∨own ρ (S4 h ks) b
section
variable {w:World}{I:Nat→Prop}{ρ:Rho}{h:E7}{ks:List F7}
theorem Lz {q:F7}{b:Blk}(hq:S4 h ks q=some b):h q=some b∧q∈ks:=by
  have:(if q∈ks then h q else none)=some b:=hq;split at this
  ·exact ⟨this,‹_›⟩
  ·cases this
theorem dU (H:HeapOK w I ρ h){x y:AV}{v:Value}(hf:rM (S4 h ks) x y)(hx:RepV w I ρ x v):RepV w (xS I ρ h ks) ρ y v:=by
  rcases hf with q|⟨d,d',h1,h2,rfl⟩
  ·exact (q _ _ _ _ hx).keep (fun _ _=>rfl) (fun _ h=> .inl h) (fun _ _ h=>h)
  ·have Hk:=H.sub fun q b hq=>(Lz (ks:=ks) hq).1;exact .d _ _ (h2 _ _ _ (Lx Hk 6 x d v hx h1))
theorem HF {k:F7}{b b0:Blk}(q:b0=b∨∃ty cs cs',b0= .box ty cs∧b= .box ty cs'∧All2 (rM (S4 h ks)) cs cs'):O5 ρ k b=O5 ρ k b0:=by
  rcases q with rfl|⟨ty,cs,cs',rfl,rfl,_⟩<;>rfl
theorem dV (H:HeapOK w I ρ h){h':E7}(hh: ∀k b,h' k=some b→vL h ks k b):HeapOK w (xS I ρ h ks) ρ h':=by
  have Hk:=H.sub fun q b hq=>(Lz (ks:=ks) hq).1;refine ⟨fun k b hb=> ?_,fun k k' b b' g h1 h2 h3 h4=> ?_,fun k b g h1 h2 hi=> ?_,fun k b g h1 h2=> ?_,fun b hb=> ?_,H.fresh,H.rone⟩
  ·obtain ⟨_,b0,e1,rfl|⟨ty,cs,cs',rfl,rfl,ha⟩⟩:=hh k b hb
   ·exact (H.blk k b0 e1).keep (fun _ _=>rfl) (fun _ _=>rfl) (fun _ h=> .inl h) (fun _ _ h=>h)
   ·obtain ⟨g,vs,b1,b2,b3,b4,b5⟩:=H.blk k _ e1;refine ⟨g,vs,b1,b2,by rw [← ha.length];exact b3,b4,fun i c hc=> ?_⟩;obtain ⟨x,g1,g2⟩:=ha.get hc;exact dU H g2 (b5 i x g1)
  ·obtain ⟨_,b0,e1,q⟩:=hh k b h1;obtain ⟨_,b1,e2,q'⟩:=hh k' b' h2;rw [HF q]at h3;rw [HF q']at h4;exact H.sep k k' b0 b1 g e1 e2 h3 h4
  ·obtain ⟨n,b0,e1,q⟩:=hh k b h1;rw [HF q]at h2;rcases hi with hi|⟨k',b',e2,e3⟩
   ·exact H.notI k b0 g e1 h2 hi
   ·obtain ⟨e4,e5⟩:=Lz e2;have:=H.sep k k' b0 b' g e1 e4 h2 e3;subst this;exact n e5
  ·obtain ⟨n,b0,e1,q⟩:=hh k b h1;rw [HF q]at h2;exact H.lt k b0 g e1 h2
  ·rcases hb with hb|hb
   ·exact H.ilt b hb
   ·exact Hk.own_lt hb
theorem mV {h':E7}(hh: ∀k b,h' k=some b→vL h ks k b){g:Nat}(ho:own ρ h' g):own ρ h g:=by
  obtain ⟨k,b,h1,h2⟩:=ho;obtain ⟨_,b0,e1,q⟩:=hh k b h1;exact ⟨k,b0,e1,by rw [← HF q];exact h2⟩
theorem tQ {h':E7}(hh: ∀k b,h' k=some b→vL h ks k b):Tr w I ρ h w (xS I ρ h ks) ρ h':=
  ⟨rfl,rfl,rfl,wH _,fun _ _ _=>rfl,fun _ h=> .inl h,fun _ hb _=>hb.imp id fun ⟨k,c,a1,a2⟩=>⟨k,c,(Lz a1).1,a2⟩,fun _ hb _=>mV hh hb,fun _ _ h=>h⟩
end
section
variable {P:Program}{N:Nat}{rk:Option F7}{s:St}{Q:Ex→St→Prop}
theorem vM {c:Code}{s0:St}(ks:List F7)(ht: ∀i,rM (S4 s.h ks) (s.t i) (s0.t i))(hg: ∀k b,s0.h k=some b→vL s.h ks k b)(h:AWc P N rk c s0 Q):AWc P N rk c s Q:=by
  intro w I ρ a hs ro hro
  have hs0:Sim w (xS I ρ s.h ks) ρ N s0 a:=⟨hs.size,⟨hs.defers.nd,fun d hd=>by
    obtain ⟨r,e1,e2,e3,e4⟩:=hs.defers.each d hd
    exact ⟨r,e1,e2,fun q=>q.elim e3 fun ⟨k,c,a1,a2⟩=>e4 ⟨k,c,(Lz a1).1,a2⟩,fun q=>e4 (mV hg q)⟩⟩,fun i=>dU hs.heap (ht i) (hs.tmp i),dV hs.heap hg⟩
  refine (h w _ ρ a hs0 ro hro).mono ?_;rintro e a' w' ⟨s',I',ρ',hq,hs',htr,hnd⟩;exact ⟨s',I',ρ',hq,hs',(tQ hg).trans htr,hnd⟩
end
def zB (h:E7)(t:Nat→AV):List (Nat×AV)→Prop
  | []=>True
  |(i,v)::r=>rM h (t i) v∧zB h t r
def rN (h:E7)(ks:List F7):List (F7×Option Blk)→Prop
  | []=>True
  |(k,b)::r=>(match b with|some b=>vL h ks k b|none=>True)∧rN h ks r
theorem dW {h:E7}{t:Nat→AV}: ∀{l:List (Nat×AV)},zB h t l→∀i,rM h (t i) (T l i)
  | [],_,i=> .inl (.any _)
  |(j,v)::r,H,i=>by
   rw [T];split
   ·rename_i e;subst e;exact H.1
   ·exact dW H.2 i
theorem dX {h:E7}{ks:List F7}: ∀{g:List (F7×Option Blk)},rN h ks g→∀k b,G g k=some b→vL h ks k b
  | [],_,k,b,hb=>by cases hb
  |(j,v)::r,H,k,b,hb=>by
   rw [G]at hb;split at hb
   ·rename_i e;subst e;subst hb;exact H.1
   ·exact dX H.2 k b hb
section
variable {P:Program}{N:Nat}{rk:Option F7}{r:List It}{Q:Ex→St→Prop}{l:List (Nat×AV)}{g:List (F7×Option Blk)}
theorem vN {a:AC}(ks:List F7)(l0:List (Nat×AV))(g0:List (F7×Option Blk))(h1:zB (S4 (G g) ks) (T l) l0)(h2:rN (G g) ks g0)(h:Dj P N rk (.c a::r) Q .nrm ⟨T l0,G g0⟩):Dj P N rk (.c a::r) Q .nrm ⟨T l,G g⟩:=
  fun M c hc=>vM (s:=⟨T l,G g⟩) ks (dW h1) (dX h2) (h M c hc)
end
theorem Fl {h:E7}{x y:AV}(e:x=y):rM h x y:= .inl (.of e)
theorem mW {h:E7}{x:AV}{d d':D}(h1:O2 h 6 x=some d)(h2:DLe d d'):rM h x (.d d'):= .inr ⟨d,d',h1,h2,rfl⟩
theorem NX {h:E7}{ks:List F7}{k:F7}{b:Blk}{l:List (F7×Option Blk)}(h1:h k=some b)(hn:k∉ks)(hl:rN h ks l):rN h ks ((k,some b)::l):=⟨⟨hn,b,h1, .inl rfl⟩,hl⟩
theorem mX {α:Type}{h:E7}{ks:List F7}{k:F7}{ty:TypeId}{sz:Nat}{f:α→List D}{xs:List α}{l:List (F7×Option Blk)}(h1:h k=oB ty sz f xs)(hn:k∉ks)(hl:rN h ks l):rN h ks ((k,oB ty sz f xs)::l):=by
  cases xs with
  |nil=>exact ⟨trivial,hl⟩
  |cons x xs=>exact ⟨⟨hn,_,h1, .inl rfl⟩,hl⟩
theorem dY {h:E7}{ks:List F7}{k:F7}{ty:TypeId}{cs cs':List AV}{l:List (F7×Option Blk)}(h1:h k=some (.box ty cs))(hn:k∉ks)(hc:All2 (rM (S4 h ks)) cs cs')(hl:rN h ks l):rN h ks ((k,some (.box ty cs'))::l):=⟨⟨hn,_,h1, .inr ⟨ty,cs,cs',rfl,rfl,hc⟩⟩,hl⟩
theorem Yp {k:F7}:k∉ ([]:List F7):=by simp
theorem Na {k q:F7}{ks:List F7}(h:k≠q)(hr:k∉ks):k∉q::ks:=by simp [h,hr]
theorem FCall.fr {P:Program}{u S:Nat}{f:FuncId}{avs:List AV}{ds ds':List D}{v:AV}{ups:List (F7×Option Blk)}{h0:E7}(hF:FCall P u S f (ds'.map .d) (fun _=>none) v ups)(hd:P2 (O2 h0 6) avs=some ds)(hle:All2 DLe ds ds')(_hu: ∀k∈ups.map (·.1),∃j,j<6∧k=(S+j,u)):
    FCall P u S f avs (S4 h0 (avs.flatMap (R9 h0 6))) v ((avs.flatMap (R9 h0 6)).map (fun k=>(k,none))++ups):=by
  refine ⟨hF.1,fun w I ρ h vs H hh hlen hrep hfr=> ?_⟩;have hlive:=Rl avs ds hd
  have heq: ∀q∈avs.flatMap (R9 h0 6),h q=h0 q:=by
    intro q hq;cases hb:h0 q with
    |none=>exact absurd hb (hlive q hq)
    |some b=>exact hh q b (by unfold S4;rw [bO hq,hb])
  have hd':P2 (O2 h 6) avs=some ds:=by rw [← hd];exact Oh avs heq
  rw [← AY avs heq];clear hd hh heq hlive;generalize hks:avs.flatMap (R9 h 6)=ks at*
  let hf:E7:=fun q=>if q∈ks then none else h q
  have hff: ∀k b,hf k=some b→vL h ks k b:=by
    intro q b hq;have:(if q∈ks then none else h q)=some b:=hq;split at this
    ·cases this
    ·exact ⟨‹_›,b,this, .inl rfl⟩
  have hU:Q4 h (ks.map fun k=>(k,none))=hf:=by
    funext q;show _=if q∈ks then none else h q
    by_cases e:q∈ks
    ·rw [bO e];cases hb:Q4 h (ks.map fun k=>(k,none)) q with
     |none=>rfl
     |some b=>
      rcases DF _ _ _ _ hb with ⟨a,_⟩|a
      ·exact absurd (by simp only [List.map_map,List.mem_map,Function.comp];exact ⟨q,e,rfl⟩) a
      ·simp at a
    ·rw [bP e,Eo];simp only [List.map_map,List.mem_map,Function.comp];rintro ⟨x,hx,rfl⟩;exact e hx
  have hUU: ∀(a b:List (F7×Option Blk)) (h:E7),Q4 h (a++b)=Q4 (Q4 h a) b:=by
    intro a
    induction a with
    |nil=>intro b h;rfl
    |cons x a ih=>intro b h;obtain ⟨k,c⟩:=x;exact ih b _
  have H1:=dV (ks:=ks) H hff
  have hk:P2 (O2 (S4 h ks) 6) avs=some ds:=by
    rw [← hd'];refine Oh avs fun q hq=> ?_;rw [hks]at hq;show (if q∈ks then h q else none)=h q;rw [bO hq]
  obtain ⟨l1,l2⟩:=Gu hk;have Hk:=H.sub fun q b hq=>(Lz (ks:=ks) hq).1;refine (hF.2 w (xS I ρ h ks) ρ hf vs H1 (fun q b hq=>by cases hq) (by rw [lS,← hle.length];omega) (fun i c hc=> ?_) hfr).mono ?_
  ·obtain ⟨d',e1,rfl⟩:=GV hc;obtain ⟨d,e2,e3⟩:=hle.get e1;obtain ⟨x,e4,e5⟩:=l2 i d e2;exact .d _ _ (e3 _ _ _ (Lx Hk 6 x d _ (hrep i x e4) e5))
  rintro e w' ⟨x,I',ρ',rfl,r1,r2,r3,r4⟩;rw [hUU,hU];exact ⟨x,I',ρ',rfl,r1,r2,(tQ hff).trans r3,r4⟩
section
variable {P:Program}{u:Nat}{l:List (Nat×AV)}{g:List (F7×Option Blk)}
end
end Go.Abs
namespace Go.Abs
open Go
def fnD:Option Nat→D
  |some f=> .fn (.func f) [] []
  |none=> .v .nilFunc
def getf (l:List (Option Nat))(n:Int):Option Nat:=if 0≤n then (l[n.toNat]?).join else none
theorem IZ {α:Type}{v a:Nat}{x y:Option α}{r:α}(h:cond (Nat.beq v a) x y=some r):v=a∧x=some r∨Nat.beq v a=false∧y=some r:=by
  cases e:Nat.beq v a
  ·rw [e]at h;exact .inr ⟨rfl,h⟩
  ·rw [e]at h;exact .inl ⟨Nat.eq_of_beq_eq_true e,h⟩
end Go.Abs
namespace Go.Abs
open Go
def yQ {α:Type}(xs:List α)(i:Int)(ys:List α):Option (List α):=if xs.length≠0∧ys.length≠0∧0≤i∧i≤xs.length∧xs.length+ys.length≤1000000000 then some (xs.take i.toNat++ys++xs.drop i.toNat)else none
def InsC (P:Program)(f:FuncId)(e sz:Nat):Prop:= ∀(xs ys:List (List D)) (i:Nat),xs≠ []→ys≠ []→i≤xs.length→xs.length+ys.length≤1000000000→
  MCall P f [.sl (900000,0), .d (.v (.int .i64 i)), .sl (900001,0)] [.arr e sz xs, .arr e sz ys] (.sl (800000,0)) [none,none] [some (.arr e sz (xs.take i++ys++xs.drop i))]
end Go.Abs
namespace Go.Abs
open Go
def tR (P:Program)(fn:Func)(N:Nat)(M:NF):Option (List RV×AC):=
  match fn.results.toList.mapM (NH P),fn.body with
  |some rs,some c=>match Ao P N M c,fn.name== "runtime.NumGoroutine" with
   |some ac,false=>some (rs,ac)
   |_,_=>none
  |_,_=>none
theorem fk {P:Program}{f:FuncId}{fn:Func}{N:Nat}{rs:List RV}{ac:AC}(h:P.funcs[f]? =some fn)(hn:fn.ntmps=N)(M:NF)(hc:tR P fn N M=some (rs,ac)):FnOK P f N rs ac:=by
  unfold tR at hc;split at hc
  ·rename_i rs' c hr hb;split at hc
   ·rename_i ac' hac hx;simp only [Option.some.injEq,Prod.mk.injEq]at hc;obtain ⟨rfl,rfl⟩:=hc;exact ⟨fn,c,h,hb,hn,hr,⟨M,hac⟩,hx⟩
   ·cases hc
  ·cases hc
def m0:NF:=fun _=> []
theorem rD {h:E7}{n:Nat}{x:D}{r:List AV}{ds:List D}(h2:P2 (O2 h n) r=some ds):P2 (O2 h n) (.d x::r)=some (x::ds):=E8 C2 h2
theorem ca {x:D}{xs ys:List D}(hx:x.one=true)(h:All2 (fun x y=>DLe x y∧y.one=true) xs ys):All2 (fun x y=>DLe x y∧y.one=true) (x::xs) (x::ys):= .cons ⟨.refl _,hx⟩ h
theorem cz: ∀{xs:List D} (_:xs.all D.one=true),All2 (fun x y=>DLe x y∧y.one=true) xs xs
  | [],_=> .nil
  |_::_,h=>by
   simp only [List.all_cons,bS]at h;exact ca h.1 (cz h.2)
theorem cv {x:AV}{xs ys:List AV}(h:All2 AVle xs ys):All2 AVle (x::xs) (x::ys):= .cons (.of rfl) h
theorem cw: ∀{xs:List AV},All2 AVle xs xs
  | []=> .nil
  |_::_=>cv cw
abbrev zs (n:Nat):List AV:=List.replicate n (di 0)
theorem sg {g g0:List (F7×Option Blk)}{d u:Nat}{b:Blk}(h:gl g d=some ((d,u),some b))(r:LB (G g) g0):LB (G g) (((d,u),some b)::g0):=B0 (gq h) (.of rfl) r
end Go.Abs
namespace Go.Abs
open Go
def setc {α:Type}(xs:List α)(n:Int)(a:α):Option (List α):=if 0≤n∧n.toNat<xs.length then some (xs.set n.toNat a)else none
theorem dZ {α:Type}{xs:List α}{n:Int}{a:α}(h:C4 xs n=some a):0≤n∧n.toNat<xs.length∧xs[n.toNat]? =some a:=by
  unfold C4 at h;split at h
  ·exact ⟨‹_›,(lI.1 h).1,h⟩
  ·cases h
theorem WW {α:Type}{f:α→List D}{sz:Nat}(hs: ∀x,(f x).length=sz): ∀{xs:List α} {i:Nat} {a:α},xs[i]? =some a→(((xs.map f).flatten).drop (i*sz)).take sz=f a∧(i+1)*sz≤((xs.map f).flatten).length
  | [],_,_,h=>by simp at h
  |x::r,0,a,h=>by
   simp only [List.getElem?_cons_zero,Option.some.injEq]at h;subst h;simp only [lR,List.flatten_cons,Nat.zero_mul,List.drop_zero,wK,Nat.one_mul,lM,hs];refine ⟨?_,by omega⟩;rw [← hs x,List.take_left]
  |x::r,i+1,a,h=>by
   simp only [List.getElem?_cons_succ]at h;obtain ⟨h1,h2⟩:=WW hs h;simp only [lR,List.flatten_cons,lM,hs];rw [Nat.succ_mul i sz,Nat.add_comm (i*sz) sz,← hs x,List.drop_append,hs x];simp only [Nat.add_sub_cancel_left];rw [List.drop_eq_nil_of_le (by rw [hs x];omega),lQ];exact ⟨h1,by rw [Nat.succ_mul (i+1) sz];omega⟩
section
variable {t:Nat→AV}{h:E7}
theorem rO {α:Type}{len sz:Nat}{x i:Opd}{k:F7}{off:Nat}{kd:IntKind}{n:Int}{xs:List α}{a:α}(hx:ev t x= .ptr k off)(hi:ev t i= .d (.v (.int kd n)))(hv:C4 xs n=some a)(hl:xs.length=len):K3 t h (.idxP len sz x i)=some (.ptr k (off+n.toNat*sz)):=by
  obtain ⟨h0,h1,_⟩:=dZ hv;simp only [K3,hx,hi];rw [bO ⟨h0,hl▸h1⟩]
theorem vO {α:Type}{sz off:Nat}{bs:List AV}{n:Int}{xs:List α}{a:α}{f:α→List D}(hs: ∀x,(f x).length=sz)(hv:C4 xs n=some a)(hb:(bs.drop off).take (xs.length*sz)=((xs.map f).flatten).map AV.d):
    sz≤(bs.drop (off+n.toNat*sz)).length∧(bs.drop (off+n.toNat*sz)).take sz=(f a).map .d:=by
  obtain ⟨h0,h1,h2⟩:=dZ hv;obtain ⟨g1,g2⟩:=WW hs h2;have hlen:=congrArg List.length hb;rw [lS,lV,List.length_drop]at hlen;rw [wJ,Nat.one_mul]at g2;have hle:((xs.map f).flatten).length≤xs.length*sz:=by omega
  have hge:(n.toNat+1)*sz≤xs.length*sz:=Nat.mul_le_mul_right _ h1;rw [wJ,Nat.one_mul]at hge;refine ⟨by rw [List.length_drop];omega,?_⟩;have:(((bs.drop off).take (xs.length*sz)).drop (n.toNat*sz)).take sz=((((xs.map f).flatten).map AV.d).drop (n.toNat*sz)).take sz:=by rw [hb]
  rw [List.drop_take,List.take_take,List.drop_drop,← List.map_drop,← List.map_take,g1,Nat.min_eq_left (by omega)]at this;exact this
theorem mY {α:Type}{sz off:Nat}{p:Opd}{k:F7}{ty:TypeId}{bs:List AV}{n:Int}{xs:List α}{a:α}{f:α→List D}{v:AV}(hp:ev t p= .ptr k (off+n.toNat*sz))(hb:h k=some (.box ty bs))(hv:C4 xs n=some a)(hs: ∀x,(f x).length=sz)(hc:(bs.drop off).take (xs.length*sz)=((xs.map f).flatten).map AV.d)(hr:X6 ((f a).map .d)=v):K3 t h (.load sz true p)=some v:=by
  obtain ⟨h1,h2⟩:=vO hs hv hc;simp only [K3,hp,X5,hb,if_true,h1,h2,hr]
end
theorem WX {P:Program}{u:Nat}{r:List AOp}{l:List (Nat×AV)}{g:List (F7×Option Blk)}{K:(Nat→AV)→E7→List (List F7×List F7)→Prop}{α:Type}{n off sz:Nat}{p x:Opd}(f:α→List D)(q:F7)(ty:TypeId)(xs:List α)(i:Int)(a b:α)(ds:List D)(hx:Kx (ev (T l) x)=some (ds.map .d))(hn:ds.length=n)(hp:ev (T l) p= .aptr q sz i.toNat off)(hb:G g q=some (.arr ty sz (xs.map f)))(ha:C4 xs i=some a)
    (hl:off+n≤(f a).length) (he:Lw (f a) off ds=f b) (hk:Ep P u r (T l) (G ((q,some (.arr ty sz ((Mm xs i b).map f)))::g)) fun t' h' tr=>K t' h' ((Ad (T l) (G g) (.store n p x),[q])::tr)):Ep P u (⟨none, .store n p x,none⟩::r) (T l) (G g) K:=by
  unfold Ep;have h1:(ds.map AV.d).length=n:=by simpa using hn
  have h2:(xs.map f).set i.toNat (f b)=(Mm xs i b).map f:=by rw [Mm,List.map_set]
  simp only [gW,DV,Jg,hx,h1,if_true,hp,hb,(Ro (f:=f) ha).2.2,BK ds,hl,and_self,he,h2];exact hk
def shlc (k:IntKind)(a b:Int):Option Int:=if b<0 then none else some (k.wrap (a*2^ (min b.toNat k.bits)))
def NY (k:IntKind)(a b:Int):Option Int:=if b<0 then none else some (a.fdiv (2^ (min b.toNat k.bits)))
theorem RN {t:Nat→AV}{h:E7}{x y:Opd}{k k':IntKind}{a b v:Int}(hx:ev t x= .d (.v (.int k a)))(hy:ev t y= .d (.v (.int k' b)))(hv:NY k a b=some v):K3 t h (.bin .shr x y)=some (.d (.v (.int k v))):=by
  unfold NY at hv;split at hv
  ·cases hv
  ·rename_i h1;cases hv;simp only [K3,hx,hy,CV,Bool.true_or,if_true,QA,bP h1,lF]
end Go.Abs
namespace Go.Abs
open Go
section
variable {P:Program}
end
end Go.Abs
namespace Go.Abs
open Go
section
variable {P:Program}{u:Nat}{r:List AOp}{l:List (Nat×AV)}{g:List (F7×Option Blk)}
theorem Tt: ∀{aops:List AOp} {u:Nat} {t:Nat→AV} {h:E7} {K K':(Nat→AV)→E7→List (List F7×List F7)→Prop},(∀t h tr,K t h tr→K' t h tr)→Ep P u aops t h K→Ep P u aops t h K'
  | [],u,t,h,K,K',hk,hr=>by simp only [Ep]at hr ⊢;exact hk _ _ _ hr
  |⟨dst,k,g⟩::r,u,t,h,K,K',hk,hr=>by
   simp only [Ep]at hr ⊢;exact qY (fun v ups=>Tt fun t h tr=>hk _ _ _) (kT fun v ups=>Tt fun t h tr=>hk _ _ _) hr
theorem RO {K:(Nat→AV)→E7→List (List F7×List F7)→Prop}{α:Type}{d e sz:Nat}{ty:TypeId}{x y:Opd}(f:α→List D)(ys zs:List α)(hy:Aq (G g) sz (ev (T l) y)=some (ys.map f))(hx:ev (T l) x= .d .nilS)(hl:X3 ([]:List α) ys=some zs)(hn:G g (d,u)=none)
    (hk:Ep P u r (T ((d,oS zs (d,u))::l)) (G (((d,u),oB e sz f zs)::g)) fun t' h' tr=>K t' h' ((Ad (T l) (G g) (.append ty e sz x y),[(d,u)])::tr)∧K t' h' ((Ad (T l) (G g) (.append ty e sz x y),[])::tr)):Ep P u (⟨some d, .append ty e sz x y,none⟩::r) (T l) (G g) K:=by
  obtain ⟨h1,h2⟩:=If hl;have h2:zs=ys:=h2;rw [h2]at hk;clear h2 hl;cases ys with
  |nil=>
   have hy':Aq (G g) sz (ev (T l) y)=some []:=hy
   have e0:G (((d,u),oB e sz f ([]:List α))::g)=G g:=by
     funext q;rw [G];by_cases e1:q=(d,u)
     ·subst e1;rw [bO rfl,hn];rfl
     ·rw [bP e1]
   rw [e0]at hk;unfold Ep;simp only [gW,DV,Jg,hy',hx,Q4];exact Tt (fun _ _ _ q=>q.2) hk
  |cons y0 ys=>
   unfold Ep;simp only [lR]at hy;simp only [gW,DV,Jg,hy,hx];rw [bO (by simpa using h1)];simp only [Option.getD_some,lR,List.map_nil,Q4];have e0:Ag (G g) (d,u) (some (.arr e sz (f y0::ys.map f)))=G (((d,u),oB e sz f (y0::ys))::g):=by rw [aC];rfl
   rw [e0];exact Tt (fun _ _ _ q=>q.1) hk
theorem WY {α:Type}{x:α}{xs ys zs:List α}(h:X3 (x::xs) ys=some zs):zs≠ []:=by
  obtain ⟨_,rfl⟩:=If h;simp
theorem JA {K:(Nat→AV)→E7→List (List F7×List F7)→Prop}{α:Type}{d e sz:Nat}{ty:TypeId}{x y:Opd}(f:α→List D)(k:F7)(xs ys zs:List α)(hy:Aq (G g) sz (ev (T l) y)=some (ys.map f))(hx:ev (T l) x=oS xs k)(hb:G g k=oB e sz f xs)(hl:X3 xs ys=some zs)(hn:G g (d,u)=none)
    (hk:Ep P u r (T ((d,oS zs (d,u))::l)) (G (((d,u),oB e sz f zs)::(k,none)::g)) fun t' h' tr=>K t' h' ((Ad (T l) (G g) (.append ty e sz x y),[k,(d,u)])::tr)∧K t' h' ((Ad (T l) (G g) (.append ty e sz x y),[(d,u)])::tr)∧K t' h' ((Ad (T l) (G g) (.append ty e sz x y),[])::tr)):Ep P u (⟨some d, .append ty e sz x y,none⟩::r) (T l) (G g) K:=by
  cases xs with
  |nil=>
   have e1:G (((d,u),oB e sz f zs)::(k,none)::g)=G (((d,u),oB e sz f zs)::g):=by
     funext q;rw [G,G,G];by_cases e2:q=(d,u)
     ·rw [bO e2,bO e2]
     ·rw [bP e2,bP e2];by_cases e3:q=k
      ·subst e3;rw [bO rfl,hb];rfl
      ·rw [bP e3]
   rw [e1]at hk;exact RO f ys zs hy hx hl hn (Tt (fun _ _ _ q=>q.2) hk)
  |cons x0 xs=>
   rw [T3 (k:=(d,u)) (WY hl),dL (WY hl)]at hk;exact NO f k (x0::xs) ys zs hy hx hb hl (Tt (fun _ _ _ q=>q.1) hk)
end
theorem eA {Q R:Prop}(f:Q→R)(q:Q):R:=f q
end Go.Abs
namespace Go.Abs
open Go
def aJ (s:ByteArray)(i:Int):Option Int:=if 0≤i then (s.data.toList[i.toNat]?).map fun b=>(b.toNat:Int)else none
def strc (a b:ByteArray):Option ByteArray:=if a.size+b.size≤1000000000 then some (a++b)else none
def UD (s:ByteArray)(i j:Int):Option ByteArray:=if 0≤i∧i≤j∧j≤s.size then some (s.extract i.toNat j.toNat)else none
section
variable {t:Nat→AV}{h:E7}{x y z:Opd}{s s' v:ByteArray}{k k':IntKind}{i j:Int}
theorem NZ (hx:ev t x= .d (.v (.string s))):K3 t h (.str .len [x])=some (.d (.v (.int .i64 s.size))):=by
  simp only [K3,lR,List.map_nil,hx,Pv]
theorem aK {n:Int}(hx:ev t x= .d (.v (.string s)))(hy:ev t y= .d (.v (.int k i)))(hv:aJ s i=some n):K3 t h (.str .idx [x,y])=some (.d (.v (.int .u8 n))):=by
  unfold aJ at hv;split at hv
  ·rename_i h0;rw [lE]at hv;obtain ⟨b,hb,rfl⟩:=hv;simp only [K3,lR,List.map_nil,hx,hy,Pv,h0,if_true,hb,lF]
  ·cases hv
theorem eB {neg:Bool}(hx:ev t x= .d (.v (.string s)))(hy:ev t y= .d (.v (.string s'))):K3 t h (.str (.eq neg) [x,y])=some (.d (.v (.bool (if neg then !(s.toList==s'.toList)else s.toList==s'.toList)))):=by
  simp only [K3,lR,List.map_nil,hx,hy,Pv]
theorem eC (hx:ev t x= .d (.v (.string s)))(hy:ev t y= .d (.v (.int k i)))(hv:UD s i s.size=some v):K3 t h (.str (.sl true false) [x,y])=some (.d (.v (.string v))):=by
  unfold UD at hv;split at hv
  ·rename_i h0;cases hv;simp only [K3,lR,List.map_nil,hx,hy,Pv];rw [bO ⟨h0.1,h0.2.1⟩];rfl
  ·cases hv
theorem rP (hx:ev t x= .d (.v (.string s)))(hy:ev t y= .d (.v (.int k j)))(hv:UD s 0 j=some v):K3 t h (.str (.sl false true) [x,y])=some (.d (.v (.string v))):=by
  unfold UD at hv;split at hv
  ·rename_i h0;cases hv;simp only [K3,lR,List.map_nil,hx,hy,Pv];rw [bO ⟨h0.2.1,h0.2.2⟩];rfl
  ·cases hv
end
end Go.Abs
namespace Go.Abs
open Go
theorem RP {α β:Type}{xs:List α}{p q:Option β}{r:β}(h:cond xs.isEmpty p q=some r):(xs= []∧p=some r)∨(xs≠ []∧q=some r):=by
  cases xs with
  |nil=>exact .inl ⟨rfl,h⟩
  |cons x xs=>exact .inr ⟨List.cons_ne_nil _ _,h⟩
theorem mZ {α:Type}{k:F7}{xs:List α}(h:xs= []):oS xs k= .d .nilS:=by subst h;rfl
def Fs:List Int→List Int
  | []=> []
  | [x]=> [x]
  |x::y::r=>cond (x==y) (Fs (y::r)) (x::Fs (y::r))
def HG (p:List Int):Option (List Int):=match p with
  | []=>none
  |x::r=>some (Fs (x::r))
theorem UE {p r:List Int}(h:HG p=some r):p≠ []∧r=Fs p:=by
  cases p with
  |nil=>cases h
  |cons x p=>exact ⟨List.cons_ne_nil _ _,(lD h).symm⟩
theorem KJ (a:Int): ∀l:List Int,Fs (l++ [a])=Fs l++ (if l.getLast? =some a then []else [a])
  | []=>rfl
  | [x]=>by
    by_cases e:x=a
    ·subst e;simp [Fs]
    ·have:(x==a)=false:=by simp [e]
     simp [Fs,e,this]
  |x::y::r=>by
   have ih:=KJ a (y::r);rw [List.cons_append]at ih;rw [List.cons_append,List.cons_append,Fs,Fs,ih,List.getLast?_cons_cons];cases x==y
   ·rfl
   ·rfl
end Go.Abs
namespace Go.Abs
open Go
theorem aL {u d:Nat}{t:Nat→AV}{ty:TypeId}{x:Opd}{cs:List AV}(h:ev t x=X6 cs):Pm u d t (.box ty true x)=some (.ptr (d,u) 0, .box ty cs):=by
  have:cellsOf true (ev t x)=some cs:=by
    rw [h];unfold X6;cases ha:Kw cs with
    |none=>rfl
    |some ds=>
     have:=V3 cs;unfold X6 at this;rw [ha]at this;exact this
  simp only [Pm,this,lF]
section
variable {P:Program}{u:Nat}{r:List AOp}{l:List (Nat×AV)}{g:List (F7×Option Blk)}{K:(Nat→AV)→E7→Prop}
def vP {γ:Type}(rs:List RV)(J:AV→γ→List (Nat×AV)×List (F7×Option Blk)→Prop)(l1:γ→List (Nat×AV))(g1:γ→List (F7×Option Blk))(e:Ex)(s:St):Prop:=
  (e= .nrm∨e= .ret)∧∃v gg,FH s.t s.h rs=some v∧J v gg (l1 gg,g1 gg)∧LB s.h (g1 gg)
def vQ {γ:Type}(t:AV→Nat→AV)(v:AV)(_:γ)(x:List (Nat×AV)×List (F7×Option Blk)):Prop:=vD (t v) x.1
theorem Qd {dst:Option Nat}{f:Opd}{args:List Opd}{fid:FuncId}{avs:List AV}{rs:List RV}{ac:AC}{N:Nat}{γ:Type}(F:FnOK P fid N rs ac)(l1:γ→List (Nat×AV))(g1:γ→List (F7×Option Blk))
    (hc:U6 (T l) f args=some (fid,avs)) (hl:avs.length≤N)
    (hb:Dj P N none [.c ac] (vP rs (vQ fun v=>Tg (T l) dst v) l1 g1) .nrm ⟨T (BN avs 0),G g⟩)
    (hk: ∀gg u',(∀q,G (g1 gg) q≠none→q.2≠u')→M1 P u' r (T (l1 gg)) (G (g1 gg)) K):M1 P u (⟨dst, .icall f args,none⟩::r) (T l) (G g) K:=by
  unfold M1;simp only [gW];unfold FE
  have hI:ICall P fid avs (G g) fun v h'=> ∀u',(∀q,h' q≠none→q.2≠u')→∃s0,Sb s0 ⟨Tg (T l) dst v,h'⟩∧M1 P u' r s0.t s0.h K:=by
    refine NJ F hl ?_;rw [UB];refine AW.mono hb ?_;rintro e s ⟨he,v,gg,hv,hj,hs⟩;refine ⟨he,v,hv,fun u' hu'=> ?_⟩;have S:Sb ⟨T (l1 gg),G (g1 gg)⟩ ⟨Tg (T l) dst v,s.h⟩:=D0 hj hs;exact ⟨_,S,hk gg u' (S.fresh hu')⟩
  split
  ·rename_i q hq;exfalso;simp [U6,hq]at hc
  ·rw [hc];exact hI
theorem Tk {γ:Type}{rs:List RV}{l1:γ→List (Nat×AV)}{g1:γ→List (F7×Option Blk)}{dst:Option Nat}{e:Ex}{l0:List (Nat×AV)}{g0:List (F7×Option Blk)}{v:AV}(he:e= .nrm∨e= .ret)(hv:FH (T l0) (G g0) rs=some v)(gg:γ)(ht:vD (Tg (T l) dst v) (l1 gg))(hg:LB (G g0) (g1 gg)):
    vP rs (vQ fun v=>Tg (T l) dst v) l1 g1 e ⟨T l0,G g0⟩:=⟨he,v,gg,hv,ht,hg⟩
theorem rQ {N:Nat}{rk:Option F7}{Q:Ex→St→Prop}{rr:List It}{aops:List AOp}{b:Nat}(hn:xD (aops.take b)=true)
    (h: ∀u,(∀k,G g k≠none→k.2≠u)→M1 P u (aops.take b) (T l) (G g) fun t' h'=> ∀u',(∀k,h' k≠none→k.2≠u')→M1 P u' (aops.drop b) t' h' fun t h=>Dj P N rk rr Q .nrm ⟨t,h⟩):Dj P N rk (.c (.drawB aops b [])::rr) Q .nrm ⟨T l,G g⟩:=
  WF hn h
theorem aM {l0:List (Nat×AV)}{g0:List (F7×Option Blk)}{s:St}(S:Sb ⟨T l0,G g0⟩ s): ∀{g1:List (F7×Option Blk)},LB (G g0) g1→LB s.h g1
  | [],_=>trivial
  |(k,none)::_,h=>⟨trivial,aM S h.2⟩
  |(k,some b0)::_,h=>by
   obtain ⟨b1,e1,e2⟩:=h.1;obtain ⟨b,e3,e4⟩:=S.h k b1 e1;exact ⟨⟨b,e3,e4.trans e2⟩,aM S h.2⟩
theorem BP {γ:Type}{l1:γ→List (Nat×AV)}{g1:γ→List (F7×Option Blk)}{dst:Option Nat}{e:Ex}{s:St}{l0:List (Nat×AV)}{g0:List (F7×Option Blk)}(S:Sb ⟨T l0,G g0⟩ s)(he:e= .nrm∨e= .ret)(gg:γ)(ht:vD (Tg (T l) dst (.tup [])) (l1 gg))(hg:LB (G g0) (g1 gg)):
    vP [] (vQ fun v=>Tg (T l) dst v) l1 g1 e s:=⟨he, .tup [],gg,rfl,ht,aM S hg⟩
end
end Go.Abs
namespace Go.Abs
open Go
section
variable {P:Program}{N:Nat}{rk:Option F7}{s:St}{Q:Ex→St→Prop}{r:List It}
def tS (P:Program)(c:AV)(Rq:E7→Prop)(L:List (List D)):Prop:= ∃gf fs cs,fR c=some (gf,fs,cs)∧∀(k:F7) (h0:E7) (Inv:Nat→E7→Prop) (Stop:E7→Prop),Inv 0 h0→(∀i h,Inv i h→∃h1,Sb ⟨T [],h1⟩ ⟨T [],h⟩∧Inv i h1∧Rq h1)→
  (∀i h es,L[i]? =some es→Inv i h→YCall P k (es.map .d) h fun v h'=>(v= .d (.v (.bool true))∧Inv (i+1) h')∨(v= .d (.v (.bool false))∧Stop h'))→
   ICall P gf (fs++ [.yld k]++cs) h0 fun _ h'=>Inv L.length h'∨Stop h'
theorem WZ {σ τ α γ:Type}{f:Opd}{ps:List Nat}{as bd:AC}{tl:List (Nat×AV)}{g0:List (F7×Option Blk)}(c:AV)(Rq:E7→Prop)(enc:α→List D)(L:List α)(F:σ→α→Option (Stp σ τ))(E:σ→τ)(st:σ→γ→List (F7×Option Blk))(x0:σ)(gg0:γ)(y:τ)
    (hf:ev (T tl) f=c) (hI:tS P c Rq (L.map enc)) (hRq: ∀x gg u b,Rq (G (((1000000,u),b)::st x gg))) (hps: ∀a,(enc a).length=ps.length) (hx:loopL F E L x0=some y) (hs0:Sb ⟨T [],G (st x0 gg0)⟩ ⟨T [],G g0⟩) (hrk: ∀kk,rk=some kk→∃t r,G g0 kk=some (.obj t r))
    (hround: ∀u,(∀q,G g0 q≠none→q.2≠u)→rk≠some (1000000,u)→(∀x gg,G (st x gg) (1000000,u)=none)∧
      ∀r0 x gg a z,r0.state= .ready→F x a=some z→(∀t,z= .out t→t=y)→
       Dj P N (some (1000000,u)) [.c as, .j (fun s1=>s1.h (1000000,u)=some (.obj (T tl) r0)∧
        Dj P N (some (1000000,u)) [.c bd] (mC P N rk r Q (T tl) (1000000,u) r0 st z) .nrm ⟨s1.t,Ag s1.h (1000000,u) (some (.obj (T tl) {r0 with state:= .busy}))⟩)] (fun _ _=>False) .nrm
        ⟨Wm (T tl) ps ((enc a).map .d),G ((((1000000,u),some (.obj (T tl) r0)):F7×Option Blk)::st x gg)⟩)
    (hend: ∀x gg s',y=E x→Sb ⟨T tl,G (st x gg)⟩ s'→Dj P N rk r Q .nrm s'):Dj P N rk (.c (.rangeF f ps as bd)::r) Q .nrm ⟨T tl,G g0⟩:=by
  obtain ⟨gf,fs,cs,hcl,hI⟩:=hI;refine RH (gf:=gf) (fs:=fs) (cs:=cs) (by show fR (ev (T tl) f)=_;rw [hf];exact hcl) hrk ?_;intro u r0 M hu hkn hrkne hst hpd hpar hsize hpsN has hbd;obtain ⟨hkst,hr⟩:=hround u hu hrkne;have hkn:G g0 (1000000,u)=none:=hkn
  refine ICall.mono ?_ (hI (1000000,u) (Ag (G g0) (1000000,u) (some (.obj (T tl) r0)))
    (fun i h=> ∃x gg,loopL F E (L.drop i) x=some y∧h (1000000,u)=some (.obj (T tl) r0)∧Sb ⟨T [],G (st x gg)⟩ ⟨T [],h⟩)
    (kW (1000000,u) (T tl) (Dj P N rk r Q)) ?_ (fun i h ⟨x,gg,h1,h2,h3⟩=>⟨G (((1000000,u),some (.obj (T tl) r0))::st x gg),⟨fun i=> .refl _,fun q b0 hb=>by
      by_cases e:q=(1000000,u)
      ·subst e;have hb:=Eq.trans (Eq.symm A2) hb;cases hb;exact ⟨_,h2, .refl _⟩
      ·have hb:G (((1000000,u),some (.obj (T tl) r0))::st x gg) q=some b0:=hb;rw [G,bP e]at hb
       exact h3.h q b0 hb⟩,⟨x,gg,h1,A2,fun i=> .refl _,fun q b0 hb=>by
      refine ⟨b0,?_, .refl _⟩;have:q≠(1000000,u):=by rintro rfl;exact absurd ((hkst _ _).symm.trans hb) (by simp)
      show G (((1000000,u),some (.obj (T tl) r0))::st x gg) q=some b0
      rw [G,bP this];exact hb⟩,hRq x gg u _⟩) ?_)
  ·rintro v h' (⟨x,gg,h1,h2,h3⟩|h)
   ·rw [show (L.map enc).length=L.length from lS ..,List.drop_length,loopL]at h1;refine ⟨T tl,r0,h2,by rw [hst];simp,?_⟩;rw [hpd];refine hend x gg _ (lD h1).symm ⟨fun i=> .refl _,fun q b0 hb=> ?_⟩;obtain ⟨b,e1,e2⟩:=h3.h q b0 hb;refine ⟨b,?_,e2⟩;have:q≠(1000000,u):=by rintro rfl;exact absurd ((hkst _ _).symm.trans hb) (by simp)
    show Ag h' _ none q=some b;rw [L8 _ _ _ _ this];exact e1
   ·exact h
  ·refine ⟨x0,gg0,by rw [List.drop_zero];exact hx,G5 _ _ _,fun i=> .refl _,fun q b0 hb=> ?_⟩;obtain ⟨b,e1,e2⟩:=hs0.h q b0 hb;refine ⟨b,?_,e2⟩;have:q≠(1000000,u):=by rintro rfl;exact absurd ((hkst _ _).symm.trans hb) (by simp)
   show Ag (G g0) _ _ q=some b;rw [L8 _ _ _ _ this];exact e1
  ·rintro i h es hes ⟨x,gg,h1,h2,h3⟩;obtain ⟨a,ha,rfl⟩:=GV hes;obtain ⟨z,hz,hz2⟩:=NM ha h1;have hround:=hr r0 x gg a z hst hz (fun t ht=>by subst ht;exact hz2)
   have hsb:Sb ⟨Wm (T tl) ps ((enc a).map .d),G ((((1000000,u),some (.obj (T tl) r0)):F7×Option Blk)::st x gg)⟩ ⟨Wm (T tl) ps ((enc a).map .d),h⟩:=by
     refine ⟨fun i=> .refl _,fun q b0 hb=> ?_⟩;by_cases e:q=(1000000,u)
     ·subst e;have hb:=Eq.trans (Eq.symm A2) hb;cases hb;exact ⟨_,h2, .refl _⟩
     ·have hb:G (((1000000,u),some (.obj (T tl) r0))::st x gg) q=some b0:=hb;rw [G,bP e]at hb;exact h3.h q b0 hb
   refine WI (M:=M) (as:=as) (bd:=bd) h2 (by rw [lS,hps a,← hpar];simp) hsize (by rw [hpar];exact hpsN) has hbd ?_;rw [hpar];have hround:=dK hsb hround;refine AW.mono hround ?_;intro e s1 hs1;cases e with
   |ext id=>exact absurd hs1 (by simp [Dj])
   |ret=>exact absurd hs1 (by simp [Dj])
   |nrm=>
    obtain ⟨q1,q2⟩:=hs1;refine ⟨rfl,T tl,r0,q1,hst,?_⟩;refine AW.mono q2 ?_;rintro e s2 ⟨w1,w2⟩;refine ⟨T tl,_,w1,?_⟩;cases z with
    |go x'=>
     obtain ⟨rfl,g',hg'⟩:=w2;refine .inl ⟨rfl,x',g',hz2,?_,fun i=> .refl _,fun q b0 hb=> ?_⟩
     ·show Ag s2.h _ _ _=_;rw [G5]
      have:({state:= .ready,pending:=none,fn:=r0.fn,tmps:=r0.tmps,params:=r0.params,assign:=r0.assign,body:=r0.body,defers:=r0.defers}:Loop)=r0:=by
        cases r0;simp only at hst hpd;subst hst hpd;rfl
      exact congrArg (fun r=>some (Blk.obj (T tl) r)) this
     ·obtain ⟨b,e1,e2⟩:=hg'.h q b0 hb;refine ⟨b,?_,e2⟩;have:q≠(1000000,u):=by rintro rfl;exact absurd ((hkst _ _).symm.trans hb) (by simp)
      show Ag s2.h _ _ q=some b;rw [L8 _ _ _ _ this];exact e1
    |out t=>
     obtain ⟨hne,hq⟩:=w2;cases e with
     |nrm=>exact absurd rfl hne
     |ext id=>
      refine .inr ⟨rfl,T tl,_,G5 _ _ _,by simp,?_⟩;dsimp only;rw [LX];exact hq
     |ret=>
      refine .inr ⟨rfl,T tl,_,G5 _ _ _,by simp,?_⟩;dsimp only;rw [LX];exact hq
end
section
variable {P:Program}{u:Nat}{r:List AOp}{t:Nat→AV}{h:E7}{K:(Nat→AV)→E7→Prop}
theorem Zv {dst:Option Nat}{k:AK}{g:Nat}{b:Bool}(hg:t g= .d (.v (.bool b)))(hk:M1 P u (⟨dst,k,none⟩::r) t h K):M1 P u (⟨dst,k,some (g,b)⟩::r) t h K:=by
  cases k<;>(unfold M1 at hk ⊢;simpa only [gW,hg,if_true] using hk)
theorem aN {dst:Option Nat}{k:AK}{g:Nat}{b c:Bool}(hg:t g= .d (.v (.bool c)))(hne:(c==b)=false)(hk:M1 P u r (Tg t dst (.d (.tup []))) h K):M1 P u (⟨dst,k,some (g,b)⟩::r) t h K:=by
  have hne: ¬c=b:=by simpa using hne
  cases k<;>(unfold M1;simp only [gW,hg,bP hne];exact hk)
theorem gF {d:Nat}{f:Opd}{args:List Opd}(k:F7)(avs:List AV)(hf:ev t f= .yld k)(hav:args.map (ev t)=avs)(hc:YCall P k avs h fun v h'=> ∃h0,Sb ⟨T [],h0⟩ ⟨T [],h'⟩∧∀u',(∀q,h0 q≠none→q.2≠u')→M1 P u' r (Ag t d v) h0 K):M1 P u (⟨some d, .icall f args,none⟩::r) t h K:=by
  unfold M1;simp only [gW];unfold FE;rw [hf,hav];exact hc.mono fun v h' ⟨h0,S,q⟩ u' hu'=>⟨⟨Ag t d v,h0⟩,⟨fun i=> .refl _,S.h⟩,q u' (S.fresh hu')⟩
end
section
variable {P:Program}{N:Nat}{rk:Option F7}{s:St}{Q:Ex→St→Prop}{r:List It}
theorem Wn {aops:List AOp}(h: ∀u,(∀k,s.h k≠none→k.2≠u)→M1 P u aops s.t s.h fun t' h'=>Dj P N rk r Q .nrm ⟨t',h'⟩):Dj P N rk (.c (.reg aops)::r) Q .nrm s:=Ue h
theorem eD {α:Type}{a:AC}(st:α→St)(μ:α→Nat)(Inv:α→Prop)(x0:α)(h0:Inv x0)(hs0:Sub (st x0) s)
    (h: ∀x,Inv x→Dj P N rk [.c a] (fun e s'=>match e with| .nrm=> ∃y,Inv y∧μ y<μ x∧Sub (st y) s'|e=>Dj P N rk r Q e s') .nrm (st x)):Dj P N rk (.c (.loop a)::r) Q .nrm s:=WH st μ Inv x0 h0 hs0 h
end
end Go.Abs
namespace Go.Abs
open Go
def oW {α:Type}(b:Bool)(xs:List α)(k:F7):AV:=match xs with
  | []=>cond b (.sl k) (.d .nilS)
  |_=> .sl k
def wB {α:Type}(b:Bool)(ty:TypeId)(sz:Nat)(f:α→List D)(xs:List α):Option Blk:=match xs with
  | []=>cond b (some (.arr ty sz [])) none
  |_=>some (.arr ty sz (xs.map f))
section
variable {α:Type}{b:Bool}{xs:List α}{k:F7}{ty:TypeId}{sz:Nat}{f:α→List D}{h:E7}
def wD (b:Bool)(f:α→List D)(xs:List α):D:=cond b (.list (xs.map f)) (oD f xs)
end
section
variable {P:Program}{u:Nat}{r:List AOp}{l:List (Nat×AV)}{g:List (F7×Option Blk)}
end
def zR (n:Int):Option Unit:=if 0≤n∧n≤1000000 then some ()else none
end Go.Abs
namespace Go.Abs
open Go
section
variable {P:Program}{N:Nat}{rk:Option F7}{s:St}{Q:Ex→St→Prop}
end
section
variable {P:Program}{N:Nat}{rk:Option F7}{r:List It}{Q:Ex→St→Prop}{l:List (Nat×AV)}{g:List (F7×Option Blk)}
end
section
variable {P:Program}{u:Nat}{r:List AOp}{l:List (Nat×AV)}{g:List (F7×Option Blk)}
end
def tT {α:Type}(kind i:Int)(xs:List α)(v:α):Option (List α×Bool):=
  cond ((kind==1)&& (i==(xs.length:Int))) ((X3 xs [v]).bind fun l=>some (l,true))
    (cond (((kind==2)&&decide ((xs.length:Int)>0))&& (i==E5 ((xs.length:Int) - 1))) ((aE xs 0 i).bind fun l=>some (l,true))
      (cond (((kind==3)&&decide (i≥0))&&decide (i< (xs.length:Int))) ((C4 xs i).bind fun _=>some (Mm xs i v,true)) (some (xs,false))))
def wb {α:Type}(b:Bool)(xs:List α):Bool:=b|| !xs.isEmpty
structure EditC (P:Program)(f:FuncId)(e sz:Nat){α β:Type}(E:α→List D)(B:β→List D)(kd at_:β→Int):Prop where
  m: ∀(xs zs:List α) (x:β) (v:α) (ok:Bool),tT (kd x) (at_ x) xs v=some (zs,ok)→MCall P f [.sl (900000,0), .d (.agg (B x)), .d (.agg (E v))] [.arr e sz (xs.map E)] (.tup [.sl (800000,0), .d (bo ok)]) [none] [some (.arr e sz (zs.map E))]
  n: ∀(zs:List α) (x:β) (v:α) (ok:Bool),tT (kd x) (at_ x) [] v=some (zs,ok)→MCall P f [.d .nilS, .d (.agg (B x)), .d (.agg (E v))] [] (.tup [oS zs (800000,0), .d (bo ok)]) [] [oB e sz E zs]
section
variable {P:Program}{u:Nat}{r:List AOp}{l:List (Nat×AV)}{g:List (F7×Option Blk)}
end
end Go.Abs
namespace Go.Abs
open Go
theorem OA: ∀(xs:List Int),Yg (xs.map fun x=> [D.v (Value.int .u8 x)])=some xs
  | []=>rfl
  |x::r=>by rw [lR,Yg,OA r];rfl
section
variable {t:Nat→AV}{h:E7}{x:Opd}
theorem vR {xs:List Int}(hx:ev t x= .d (.list (xs.map fun x=> [D.v (Value.int .u8 x)]))):K3 t h (.str .ofb [x])=some (.d (.v (.string (X2 xs)))):=by
  simp only [K3,lR,List.map_nil,hx,Pv,OA,lF]
theorem rR {α:Type}{f:α→List D}{k:F7}{sz:Nat}{xs:List α}(hx:ev t x= .sl k)(hk:h k=some (.arr 5 sz (xs.map f)))(he:xs≠ []):K3 t h (.bmark x)=some (.sl k):=by
  cases xs with
  |nil=>exact absurd rfl he
  |cons e r=>simp only [K3,hx,hk,lR,bO]
theorem vS {y:Opd}{s s':ByteArray}(hx:ev t x= .d (.v (.string s)))(hy:ev t y= .d (.v (.string s'))):K3 t h (.str (.eq false) [x,y])=some (.d (.v (.bool (s.toList==s'.toList)))):=eB (neg:=false) hx hy
theorem nA {y:Opd}{s s':ByteArray}(hx:ev t x= .d (.v (.string s)))(hy:ev t y= .d (.v (.string s'))):K3 t h (.str (.eq true) [x,y])=some (.d (.v (.bool (!(s.toList==s'.toList))))):=eB (neg:=true) hx hy
end
end Go.Abs
