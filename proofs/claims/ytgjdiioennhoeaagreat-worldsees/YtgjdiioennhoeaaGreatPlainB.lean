/-
  Plain facts, second part: the law itself.
-/
import Derived.Test.YtgjdiioennhoeaaGreatPlain
set_option linter.all false
/-! RoadsSignals. -/
namespace Go.Abs.World
noncomputable section
open Go Go.Abs
theorem qA (s:Signal)(S:SigOK s): ∀(r:List Phase) (i:Nat) (a:Int),s.Phases.drop i=r→i≤s.Phases.length→0≤a→a+10000*r.length≤1000000→loop (Ca s) (a,(i:Int))=some (a+Ox r):=by
  intro r
  induction r with
  |nil=>
   intro i a hi hil h0 h1
   have:=O5 hi
   obtain rfl:i=s.Phases.length:=by omega
   refine D2 ?_
   unfold Ca
   rw [J3];simp [Ox]
  |cons p r ih=>
   intro i a hi hil h0 h1
   have hlt:=M9 hi
   have hp:=W7 hi
   have hb:=S.ticks p (lG hp)
   simp only [lL]at h1
   have hs:Ca s (a,(i:Int))=some (.go (a+p.Ticks,((i+1:Nat):Int))):=by
     unfold Ca
     dsimp only
     rw [K7 hlt,D0 hp,bJ,lB,F8 (by omega),H8 hlt (by have:=S.many;omega)]
   rw [J9 hs,ih (i+1) _ (K0 hi) (by omega) (by omega) (by omega),Ox]
   congr 1;omega
theorem qB (s:Signal)(S:SigOK s)(lane:Int): ∀(r:List Phase) (i:Nat) (a:Int),s.Phases.drop i=r→i≤s.Phases.length→0≤a→a≤1000000→thenS (loop (Aj s lane) (a,(i:Int))) (fun _=>some false) (fun r=>some r)=some (HZ lane a r):=by
  intro r
  induction r with
  |nil=>
   intro i a hi hil h0 h1
   have:=O5 hi
   obtain rfl:i=s.Phases.length:=by omega
   rw [D2 (t:= .inl ())]
   ·rfl
   ·unfold Aj
    rw [J3];rfl
  |cons p r ih=>
   intro i a hi hil h0 h1
   have hlt:=M9 hi
   have hp:=W7 hi
   have hb:=S.ticks p (lG hp)
   by_cases hc:p.Ticks≤a
   ·have hs:Aj s lane (a,(i:Int))=some (.go (a - p.Ticks,((i+1:Nat):Int))):=by
      unfold Aj
      dsimp only
      rw [K7 hlt,D0 hp,bJ,lB,show decide (a<p.Ticks)=false from bG (by omega),bK,lB,F8 (by omega),H8 hlt (by have:=S.many;omega)]
    rw [J9 hs,ih (i+1) _ (K0 hi) (by omega) (by omega) (by omega),HZ,bM hc]
   ·have hs:Aj s lane (a,(i:Int))=some (.out (.inr (p.Green.contains lane))):=by
      unfold Aj
      dsimp only
      rw [K7 hlt,D0 hp,bJ,lB,show decide (a<p.Ticks)=true from bF (by omega),bJ,lB,WV _ (S.green p (lG hp)),lB]
    rw [D2 hs,HZ,bN hc];rfl
theorem aV {s:Signal}(S:SigOK s)(lane:Int){tick:Int}(h:0≤tick):Qs s lane tick=some (XC s lane tick):=by
  obtain ⟨h1,h2⟩:=S.sum
  unfold Qs
  have e1:loop (Ca s) (0,0)=some (Ox s.Phases):=by
    have:=qA s S s.Phases 0 0 rfl (by omega) (by omega) (by have:=S.many;omega)
    rw [Int.zero_add]at this;exact this
  have hne:Ox s.Phases≠0:=by omega
  rw [e1,lB]
  unfold Su
  rw [bN hne,lB,bN hne,lB,bN hne,lB,nC S h]
  refine qB s S lane s.Phases 0 _ rfl (by omega) (wN _ hne) ?_
  have:=wO (s.Offset+tick) (b:=Ox s.Phases) (by omega)
  omega
theorem aW {m:Map}(B:BearM m)(g lane tick:Int):Qt m g lane tick=some (GX m g lane tick):=by
  unfold Qt GX
  rw [CJ B,lB]
  have e:(((WU m lane&& (decide (g≥0)))&& (decide (g< (m.Signals.length:Int))))&& (decide (tick≥0)))=((((decide (tick≥0))&& (decide (g≥0)))&& (decide (g< (m.Signals.length:Int))))&&WU m lane):=by
    cases WU m lane<;>cases decide (g≥0)<;>cases decide (g< (m.Signals.length:Int))<;>cases decide (tick≥0)<;>rfl
  rw [e]
  cases hc:((((decide (tick≥0))&& (decide (g≥0)))&& (decide (g< (m.Signals.length:Int))))&&WU m lane)
  ·rfl
  ·simp only [bR,bH]at hc
   obtain ⟨⟨⟨c1,c2⟩,c3⟩,c4⟩:=hc
   have hl:g.toNat<m.Signals.length:=by omega
   have hget:m.Signals[g.toNat]? =some (m.Signals.getD g.toNat default):=by rw [List.getD,lH hl];rfl
   have hg:C3 m.Signals g=some (m.Signals.getD g.toNat default):=by unfold C3;rw [bM c2,hget]
   have S:=((isM_true.1 c4).2.2).sig B hget
   simp only [bJ,lB,bO,hg,aV S lane c1]
def IX (x y:Int):Int:=if x<y then -1 else if x>y then 1 else 0
def kU (a b:Pass):Int:=if IX a.From b.From≠0 then IX a.From b.From else IX a.Zone_ b.Zone_
def Xw (a b:Pass):Bool:=decide (a.From<b.From∨a.From=b.From∧a.Zone_<b.Zone_)
theorem ltP_ok:LtOK Xw:=⟨fun a b h=>by simp only [Xw,bH,bY]at h ⊢;omega,fun a b c h1 h2=>by simp only [Xw,bY]at h1 h2 ⊢;omega⟩
theorem kV (a b:Pass):decide (kU a b<0)=Xw a b:=by
  unfold kU Xw IX
  rw [decide_eq_decide]
  split<;>(repeat' split)<;>omega
theorem qC (x y:Int):Cr [x,y]=some (if x≠0 then x else y):=by
  have f0:Ac [x,y] 0=some (if x≠0 then .out (.inr x)else .go 1):=by
    by_cases h:x=0
    ·subst h;rfl
    ·have hb:(x !=0)=true:=by simp [h]
     unfold Ac
     simp [C3,h,hb]
  have f1:Ac [x,y] 1=some (if y≠0 then .out (.inr y)else .go 2):=by
    by_cases h:y=0
    ·subst h;rfl
    ·have hb:(y !=0)=true:=by simp [h]
     unfold Ac
     simp [C3,h,hb]
  have f2:Ac [x,y] 2=some (.out (.inl ())):=rfl
  unfold Cr
  by_cases hx:x=0
  ·by_cases hy:y=0
   ·rw [J9 (by rw [f0,bN (by simp [hx])]),J9 (by rw [f1,bN (by simp [hy])]),D2 f2]
    subst hx hy;rfl
   ·rw [J9 (by rw [f0,bN (by simp [hx])]),D2 (by rw [f1,bM hy]),bN (by simp [hx])];rfl
  ·rw [D2 (by rw [f0,bM hx]),bM hx];rfl
theorem RD (a b:Int):Cd a b=some (IX a b):=by
  have h: ∀x:Int,Aq x=some false:=fun x=>by unfold Aq;simp
  unfold Cd IX
  rw [h,h]
  simp only [lB,bK,JC]
  split<;>(repeat' split)<;>rfl
theorem DM (a b:Int):Ap a b=some (IX a b):=by
  have h: ∀x:Int,Ja x=some false:=fun x=>by unfold Ja;simp
  unfold Ap IX
  rw [h,h]
  simp only [lB,bK,JC]
  split<;>(repeat' split)<;>rfl
theorem kW (a b:Pass):Bw a b=some (kU a b):=by
  unfold Bw kU
  rw [RD,lB,DM,lB,qC];rfl
theorem XD (P T:List Pass)(x:Pass)(Q:List Pass)(hs:Srt Xw Q)(hN:(P++Q++x::T).length≤1000000):
    ∃Q',loop (C9 (P.length:Int)) (((P.length+Q.length:Nat):Int),P++Q++x::T)=some (P++Q'++T)∧Q'.Perm (x::Q)∧Srt Xw Q':=by
  have hstop: ∀xs,C9 (P.length:Int) ((P.length:Int),xs)=some (.out xs):=fun xs=>by
    unfold C9
    simp only [show decide ((P.length:Int)>(P.length:Int))=false from bG (by omega),bK,bQ,lB]
  have hF: ∀(U V:List Pass) (q y:Pass),P.length≤U.length→(U++q::y::V).length=(P++Q++x::T).length→C9 (P.length:Int) (((U.length:Int)+1),U++q::y::V)=some (if Xw y q then .go ((U.length:Int),U++y::q::V)else .out (U++q::y::V)):=fun U V q y hP hl=>by
    unfold C9
    have hb:U.length+2≤1000000:=by rw [← hl]at hN;simp at hN;omega
    have e1:D8 ((U.length:Int)+1 - 1)=(U.length:Int):=by rw [F8 (by omega)];omega
    have g1:C3 (U++q::y::V) ((U.length:Int)+1)=some y:=by rw [kT];exact Vx _ _ _ _ (by simp)
    have g2:C3 (U++q::y::V) (U.length:Int)=some q:=Vx _ _ _ _ rfl
    have s1:Nk (U++q::y::V) ((U.length:Int)+1) q=U++q::q::V:=by rw [kT,AJ _ _ _ _ _ (by simp)];simp
    have g3:C3 (U++q::q::V) (U.length:Int)=some q:=Vx _ _ _ _ rfl
    have s2:Nk (U++q::q::V) (U.length:Int) y=U++y::q::V:=AJ _ _ _ _ _ rfl
    simp only [show decide (((U.length:Int)+1)>(P.length:Int))=true from bF (by omega),bJ,bO,e1,g1,g2,s1,g3,s2,lB,kW,kV]
    cases Xw y q<;>rfl
  obtain ⟨Q',h1,h2,h3⟩:=PD ltP_ok (P:=P) (T:=T) (P++Q++x::T).length hstop hF x Q.length Q [] rfl (by simpa using hs) (by simp) (by simp)
  refine ⟨Q',?_,by simpa using h2,h3⟩
  rw [← h1];congr 1;simp
theorem RE (P A S:List Pass)(hN:(P++A++S).length≤1000000):
    ∃A',D3 (P++A++S) (P.length:Int) ((P.length+A.length:Nat):Int)=some (P++A'++S)∧A'.Perm A∧Srt Xw A':=by
  unfold D3
  have hend: ∀(xs:List Pass) (i:Nat),P.length+A.length≤i→D7 (P.length:Int) ((P.length+A.length:Nat):Int) ((i:Int),xs)=some (.out xs):=fun xs i hi=>by
    unfold D7
    rw [show decide ((i:Int)< ((P.length+A.length:Nat):Int))=false from bG (by omega)];rfl
  simp only [lM]at hN
  have hw:D8 ((P.length:Int)+1)=((P.length+1:Nat):Int):=by rw [F8 (by omega)];omega
  cases A with
  |nil=>
   refine ⟨[],?_,by simp,List.Pairwise.nil⟩
   rw [hw,D2 (hend _ _ (by simp))]
  |cons a A=>
   have hF: ∀(Q R:List Pass) (x:Pass),(P++Q++x::R++S).length=(P++a::A++S).length→P.length+Q.length<P.length+ (a::A).length→Srt Xw Q→∃Q',D7 (P.length:Int) ((P.length+ (a::A).length:Nat):Int) (((P.length+Q.length:Nat):Int),P++Q++x::R++S)=some (.go (((P.length+Q.length+1:Nat):Int),P++Q'++R++S))∧Q'.Perm (x::Q)∧Srt Xw Q':=fun Q R x hl hb hs=>by
     obtain ⟨Q',k1,k2,k3⟩:=XD P (R++S) x Q hs (by simp only [lM,lL]at hl hN ⊢;omega)
     refine ⟨Q',?_,k2,k3⟩
     unfold D7
     have e1:P++Q++x::R++S=P++Q++x::(R++S):=by simp
     rw [show decide (((P.length+Q.length:Nat):Int)< ((P.length+ (a::A).length:Nat):Int))=true from bF (by omega),bJ]
     simp only [e1,k1,lB]
     rw [F8 (by simp only [lL]at hN hb;omega)]
     simp
   obtain ⟨A',h1,h2,h3⟩:=aT (lt:=Xw) (P:=P) (S:=S) (P++a::A++S).length (P.length+ (a::A).length) hend hF A [a] (by simp) (by simp;omega) (List.pairwise_singleton _ _)
   refine ⟨A',?_,h2,h3⟩
   rw [hw,← h1];congr 1;simp
def BlkS (w:Nat)(l:List Pass):Prop:= ∀i,Srt Xw ((l.drop (i*w)).take w)
theorem BlkS.cons {w:Nat}{M R:List Pass}(hM:M.length=w)(h1:Srt Xw M)(h2:BlkS w R):BlkS w (M++R):=by
  intro i
  cases i with
  |zero=>rw [Nat.zero_mul,List.drop_zero,List.take_append_of_le_length (by omega),List.take_of_length_le (by omega)];exact h1
  |succ i=>
   have:=h2 i
   rw [wF,Nat.one_mul,List.drop_append,List.drop_eq_nil_of_le (by omega),lQ,show i*w+w - M.length=i*w by omega]
   exact this
theorem BlkS.last {w:Nat}{M:List Pass}(hM:M.length≤w)(h1:Srt Xw M):BlkS w M:=by
  intro i
  exact h1.sublist ((List.take_sublist _ _).trans (List.drop_sublist _ _))
theorem BlkS.drop {w:Nat}{R:List Pass}(h:BlkS w R):BlkS w (R.drop w):=by
  intro i
  have:=h (i+1)
  rwa [wF,Nat.one_mul,Nat.add_comm,← List.drop_drop]at this
theorem BlkS.head {w:Nat}{R:List Pass}(h:BlkS w R):Srt Xw (R.take w):=by
  have:=h 0
  rwa [Nat.zero_mul,List.drop_zero]at this
theorem qD (n:Nat)(hn:n≤100): ∀(k:Nat) (R D:List Pass),R.length≤k→D.length+R.length=n→
    ∃y R',loop (E3 (n:Int)) ((D.length:Int),((D.length+20:Nat):Int),D++R)=some y∧D3 y.2 y.1 (n:Int)=some (D++R')∧BlkS 20 R'∧R'.Perm R:=by
  intro k
  induction k with
  |zero=>
   intro R D hk hl
   obtain rfl:=List.length_eq_zero_iff.1 (show R.length=0 by omega)
   obtain ⟨A',g1,g2,g3⟩:=RE D [] [] (by simp;omega)
   simp only [lP,lN,Nat.add_zero]at g1 hl ⊢
   refine ⟨_,A',D2 (t:=((D.length:Int),D)) ?_,by rw [← hl];exact g1, .last (by rw [g2.length_eq];simp) g3,g2⟩
   unfold E3
   rw [show decide (((D.length+20:Nat):Int)≤(n:Int))=false from bG (by omega)];rfl
  |succ k ih=>
   intro R D hk hl
   by_cases h20:20≤R.length
   ·have eR:=List.take_append_drop 20 R
    have l1:(R.take 20).length=20:=by rw [lW];omega
    obtain ⟨A',g1,g2,g3⟩:=RE D (R.take 20) (R.drop 20) (by rw [lO,eR];simp;omega)
    have lA:A'.length=20:=by rw [g2.length_eq];exact l1
    rw [l1,lO,eR]at g1
    obtain ⟨y,R',k1,k2,k3,k4⟩:=ih (R.drop 20) (D++A') (by rw [lX];omega) (by rw [lM,lX];omega)
    refine ⟨y,A'++R',?_,by rw [k2,lO], .cons lA g3 k3,?_⟩
    ·rw [← k1,show (D++A').length=D.length+20 by rw [lM,lA]]
     refine J9 ?_
     unfold E3
     simp only [show decide (((D.length+20:Nat):Int)≤(n:Int))=true from bF (by omega),bJ,g1,lB]
     rw [F8 (n:=((D.length+20:Nat):Int)+20) (by omega)]
     simp
    ·exact (g2.append k4).trans (by rw [eR])
   ·obtain ⟨A',g1,g2,g3⟩:=RE D R [] (by simp;omega)
    simp only [lP]at g1
    rw [hl]at g1
    refine ⟨_,A',D2 (t:=((D.length:Int),D++R)) ?_,g1, .last (by rw [g2.length_eq];omega) g3,g2⟩
    unfold E3
    rw [show decide (((D.length+20:Nat):Int)≤(n:Int))=false from bG (by omega)];rfl
theorem aX (xs:List Pass)(h:xs.length≤19): ∃ys,F9 xs=some ys∧ys.Perm xs∧Srt Xw ys:=by
  obtain ⟨y,R,k1,k2,k3,k4⟩:=qD xs.length (by omega) xs.length xs [] (wD _) (by simp)
  refine ⟨R,?_,k4,?_⟩
  ·unfold F9 J0
   have k1':loop (E3 (xs.length:Int)) (0,20,xs)=some y:=k1
   have k2':D3 y.2 y.1 (xs.length:Int)=some R:=k2
   have g1':loop (G6 (xs.length:Int) R) 20=some R:=by
     refine D2 ?_
     unfold G6
     rw [show decide ((20:Int)< (xs.length:Int))=false from bG (by omega)];rfl
   simp only [k1',lB,k2',g1']
  ·have:=k3.head
   rwa [List.take_of_length_le (by rw [k4.length_eq];omega)]at this
theorem DN:G0=some ():=by
  have i0:E7 0 0=some ():=by
    unfold E7
    exact D2 rfl
  have h1:loop (I0 0) (0,20)=some 0:=D2 rfl
  have h2:loop (H9 0) 20=some ():=D2 rfl
  unfold G0 J1
  simp only [h1,lB,i0,h2]
theorem Xe (m:Map): ∀(r:List Int) (s:Int),Ec m s r=s+Ec m 0 r
  | [],s=>by simp [Ec]
  |a::r,s=>by rw [Ec,Ec,Xe m r (s+Q3 m a),Xe m r (0+Q3 m a)];omega
theorem Ni (m:Map): ∀(r:List Int) (s:Int) (i:Nat),i<r.length→(N5 m s r)[i]? =some (s+Ec m 0 (r.take i))
  | [],_,_,h=>absurd h (by simp)
  |a::r,s,0,_=>by simp [N5,Ec]
  |a::r,s,i+1,h=>by
   rw [N5,List.getElem?_cons_succ,Ni m r _ i (by simpa using h),List.take_succ_cons,Ec,Xe m _ (0+Q3 m a)]
   congr 1;omega
def Kk (m:Map)(r:List Int)(i:Nat):Int:=Ec m 0 (r.take i)
theorem Tz (m:Map)(r:List Int):Kk m r 0=0:=rfl
theorem IA (m:Map)(x:Int): ∀(l:List Int) (s:Int),Ec m s (l++ [x])=Ec m s l+Q3 m x
  | [],s=>rfl
  |a::l,s=>by rw [lV,Ec,Ec,IA m x l]
theorem Ua {m:Map}{r:List Int}{i:Nat}{a:Int}(h:r[i]? =some a):Kk m r (i+1)=Kk m r i+Q3 m a:=by
  unfold Kk
  rw [List.take_add_one,h]
  exact IA m a _ _
theorem kX (m:Map)(r:List Int):Kk m r r.length=Ec m 0 r:=by rw [Kk,List.take_length]
theorem RouteOK.len {m:Map}{a:Int}{t:List Int}(R:RouteOK m a t){i:Nat}{x:Int}(h:(a::t)[i]? =some x):1000≤Q3 m x∧Q3 m x≤16777216:=by
  have:=R.mem (lG h)
  exact R.val.long this.1 this.2
theorem RouteOK.mono {m:Map}{a:Int}{t:List Int}(R:RouteOK m a t): ∀(j i:Nat),i+j≤(a::t).length→Kk m (a::t) i+1000*j≤Kk m (a::t) (i+j)∧Kk m (a::t) (i+j)≤Kk m (a::t) i+16777216*j
  |0,i,_=>by simp
  |j+1,i,h=>by
   have:=R.mono j i (by omega)
   have e:(a::t)[i+j]? =some (a::t)[i+j]:=lH (by omega)
   have hl:=R.len e
   rw [← Nat.add_assoc,Ua e]
   omega
theorem RouteOK.lt {m:Map}{a:Int}{t:List Int}(R:RouteOK m a t){i j:Nat}(hij:i<j)(hj:j≤(a::t).length):Kk m (a::t) i+1000≤Kk m (a::t) j:=by
  have:=(R.mono (j - i) i (by omega)).1
  rw [show i+ (j - i)=j by omega]at this
  omega
theorem RouteOK.bd {m:Map}{a:Int}{t:List Int}(R:RouteOK m a t){i:Nat}(hi:i≤(a::t).length):0≤Kk m (a::t) i∧Kk m (a::t) i≤134217728:=by
  have:=R.mono i 0 (by omega)
  have h7:=R.most
  simp only [lL]at hi
  rw [wG,Tz]at this
  omega
theorem RouteOK.follow {m:Map}{a:Int}{t:List Int}(R:RouteOK m a t):X2 m (a::t)=⟨m,a::t,N5 m 0 (a::t),Kk m (a::t) (a::t).length⟩:=by
  unfold X2
  rw [bM (chkRoute_zero.2 ⟨a,t,rfl,R⟩),kX]
theorem RouteOK.starts {m:Map}{a:Int}{t:List Int}{i:Nat}(hi:i< (a::t).length):C3 (N5 m 0 (a::t)) (i:Int)=some (Kk m (a::t) i):=by
  rw [D0 (Ni m _ 0 i hi),Int.zero_add];rfl
/-- The place of a coordinate. -/
theorem gX {m:Map}(B:BearM m){a:Int}{t:List Int}(R:RouteOK m a t){s:Int}(h0:0≤s)(h1:s≤Kk m (a::t) (a::t).length):
    ∃(k:Nat) (x:Int),(a::t)[k]? =some x∧Nd m (a::t) s=some (x,s - Kk m (a::t) k,true)∧Kk m (a::t) k≤s∧∀j,k<j→j< (a::t).length→s<Kk m (a::t) j:=by
  have hm7:=R.most
  have hbd:=R.bd (wD _)
  have key: ∀(k:Nat),k< (a::t).length→(∀j,k<j→j< (a::t).length→s<Kk m (a::t) j)→
   ∃k',k'< (a::t).length∧loop (Dz s (X2 m (a::t))) (k:Int)=some (k':Int)∧Kk m (a::t) k'≤s∧∀j,k'<j→j< (a::t).length→s<Kk m (a::t) j:=by
    intro k
    induction k with
    |zero=>
     intro hk hj
     refine ⟨0,hk,D2 ?_,by rw [Tz];exact h0,hj⟩
     unfold Dz
     rw [R.follow]
     dsimp only
     rw [RouteOK.starts hk,lB,Tz,show decide ((0:Int)>s)=false from bG (by omega)];rfl
    |succ k ih=>
     intro hk hj
     by_cases hc:s<Kk m (a::t) (k+1)
     ·obtain ⟨k',g1,g2,g3,g4⟩:=ih (by omega) (fun j h1 h2=>by
        rcases Nat.lt_or_ge (k+1) j with h|h
        ·exact hj j h h2
        ·obtain rfl:j=k+1:=by omega
         exact hc)
      refine ⟨k',g1,?_,g3,g4⟩
      rw [← g2]
      refine J9 ?_
      unfold Dz
      rw [R.follow]
      dsimp only
      rw [RouteOK.starts hk,lB,show decide (Kk m (a::t) (k+1)>s)=true from bF (by omega),bJ,F8 (by simp only [lL]at hk;omega)]
      congr 2;omega
     ·refine ⟨k+1,hk,D2 ?_,by omega,hj⟩
      unfold Dz
      rw [R.follow]
      dsimp only
      rw [RouteOK.starts hk,lB,show decide (Kk m (a::t) (k+1)>s)=false from bG (by omega)];rfl
  obtain ⟨k,g1,g2,g3,g4⟩:=key ((a::t).length - 1) (by simp) (fun j h1 h2=>by omega)
  have hx:(a::t)[k]? =some (a::t)[k]:=lH g1
  refine ⟨k,(a::t)[k],hx,?_,g3,g4⟩
  unfold Nd
  rw [Pt B _ (by simp;omega),lB]
  have hl:(X2 m (a::t)).lanes=a::t:=by rw [R.follow]
  have hst:(X2 m (a::t)).starts=N5 m 0 (a::t):=by rw [R.follow]
  have htl:(X2 m (a::t)).length=Kk m (a::t) (a::t).length:=by rw [R.follow]
  rw [hl,hst,htl,show (((a::t).length:Int)==0)=false by simp;omega]
  simp only [bU,bJ,Ps,lB,bV]
  rw [show Vg s 0 (Kk m (a::t) (a::t).length)=true by unfold Vg;rw [bF h0,bF h1];rfl,show D8 (((a::t).length:Int) - 1)=(((a::t).length - 1:Nat):Int) by rw [F8 (by simp only [lL];omega)];simp only [lL];omega,g2]
  simp only [bT,bK,lB]
  rw [D0 hx,RouteOK.starts g1,lB,lB,F8 (by have:=R.bd (Nat.le_of_lt g1);omega)]
/-! ### Passes -/
def Pa (lane s:Int)(zi:Nat):Nat→List Part→List Pass
  |_,[]=> []
  |k,p::r=>(if p.Lane_==lane then [⟨(zi:Int),(k:Int),s+p.From,s+p.To⟩]else [])++Pa lane s zi (k+1) r
def Rm (lane s:Int):Nat→List Zone→List Pass
  |_,[]=> []
  |zi,z::r=>Pa lane s zi 0 z.Parts++Rm lane s (zi+1) r
def Lk (m:Map):Int→List Int→List Pass
  |_,[]=> []
  |s,a::r=>Rm a s 0 m.Zones++Lk m (s+Q3 m a) r
theorem BC (lane s:Int)(zi:Nat): ∀(l:List Part) (k:Nat),(l.map (·.Lane_)).Pairwise (· < ·)→(Pa lane s zi k l).length≤1
  | [],_,_=>by simp [Pa]
  |p::r,k,h=>by
   obtain ⟨h1,h2⟩:=bB.1 h
   have nil: ∀(r:List Part) (k:Nat),(∀q∈r,q.Lane_≠lane)→Pa lane s zi k r= []:=by
     intro r
     induction r with
     |nil=>intro k _;rfl
     |cons q r ih=>
      intro k hq
      rw [Pa,ih (k+1) (fun y hy=>hq y (List.mem_cons_of_mem _ hy)),show (q.Lane_==lane)=false by simp [hq q (by simp)]]
      rfl
   rw [Pa]
   by_cases e:p.Lane_=lane
   ·rw [nil r (k+1) (fun q hq=>by
    have:p.Lane_<q.Lane_:=h1 q.Lane_ (List.mem_map_of_mem hq)
    omega)]
    simp [e]
   ·rw [show (p.Lane_==lane)=false by simp [e]]
    exact BC lane s zi r (k+1) h2
theorem BD {m:Map}(lane s:Int): ∀(l:List Zone) (zi:Nat),(∀z∈l,ZoneOK m z)→(Rm lane s zi l).length≤l.length
  | [],_,_=>by simp [Rm]
  |z::r,zi,h=>by
   have:=BC lane s zi z.Parts 0 (Ty (h z (by simp)).rise)
   have:=BD lane s r (zi+1) fun y hy=>h y (List.mem_cons_of_mem _ hy)
   rw [Rm,lM,lL]
   omega
theorem PE (lane s:Int)(zi:Nat): ∀(l:List Part) (k:Nat) (x:Pass),x∈Pa lane s zi k l→∃(j:Nat) (p:Part),l[j]? =some p∧p.Lane_=lane∧x=⟨(zi:Int),((k+j:Nat):Int),s+p.From,s+p.To⟩
  | [],_,x,h=>by simp [Pa]at h
  |p::r,k,x,h=>by
   rw [Pa,lT]at h
   rcases h with h|h
   ·by_cases e:p.Lane_=lane
    ·rw [bM (by simp [e]),bE]at h
     exact ⟨0,p,rfl,e,h⟩
    ·rw [bN (by simp [e])]at h;simp at h
   ·obtain ⟨j,q,h1,h2,h3⟩:=PE lane s zi r (k+1) x h
    exact ⟨j+1,q,by simpa using h1,h2,by rw [h3];congr 1;omega⟩
theorem PF (lane s:Int): ∀(l:List Zone) (zi:Nat) (x:Pass),x∈Rm lane s zi l→∃(j:Nat) (z:Zone) (k:Nat) (p:Part),l[j]? =some z∧z.Parts[k]? =some p∧p.Lane_=lane∧x=⟨((zi+j:Nat):Int),(k:Int),s+p.From,s+p.To⟩
  | [],_,x,h=>by simp [Rm]at h
  |z::r,zi,x,h=>by
   rw [Rm,lT]at h
   rcases h with h|h
   ·obtain ⟨k,p,h1,h2,h3⟩:=PE lane s zi z.Parts 0 x h
    exact ⟨0,z,k,p,rfl,h1,h2,by rw [h3,wG];rfl⟩
   ·obtain ⟨j,y,k,p,h0,h1,h2,h3⟩:=PF lane s r (zi+1) x h
    exact ⟨j+1,y,k,p,by simpa using h0,h1,h2,by rw [h3];congr 1;omega⟩
theorem BE (m:Map): ∀(r:List Int) (s:Int) (x:Pass),x∈Lk m s r→∃(i:Nat) (lane:Int) (j:Nat) (z:Zone) (k:Nat) (p:Part),r[i]? =some lane∧m.Zones[j]? =some z∧z.Parts[k]? =some p∧p.Lane_=lane∧x=⟨(j:Int),(k:Int),s+Ec m 0 (r.take i)+p.From,s+Ec m 0 (r.take i)+p.To⟩
  | [],_,x,h=>by simp [Lk]at h
  |a::r,s,x,h=>by
   rw [Lk,lT]at h
   rcases h with h|h
   ·obtain ⟨j,z,k,p,h1,h2,h3,h4⟩:=PF a s m.Zones 0 x h
    exact ⟨0,a,j,z,k,p,rfl,h1,h2,h3,by rw [h4];simp [Ec]⟩
   ·obtain ⟨i,lane,j,z,k,p,h0,h1,h2,h3,h4⟩:=BE m r _ x h
    refine ⟨i+1,lane,j,z,k,p,by simpa using h0,h1,h2,h3,?_⟩
    rw [h4,List.take_succ_cons,Ec,Xe m _ (0+Q3 m a)]
    congr 1<;>omega
section
variable {m:Map}{a:Int}{t:List Int}
theorem kY (B:BearM m)(R:RouteOK m a t){i:Nat}{lane:Int}(hi:i< (a::t).length)(zi:Nat){z:Zone}(hz:m.Zones[zi]? =some z)(o1 o2:List Pass):
    ∀(r:List Part) (k:Nat) (out:List Pass),z.Parts.drop k=r→k≤z.Parts.length→out.length+r.length≤1000→
     loop (Ar (X2 m (a::t)) (o1,(i:Int)) lane (o2,(zi:Int)) z) (out,(k:Int))=some (out++Pa lane (Kk m (a::t) i) zi k r):=by
  have Z:=R.val.zoneOK (lG hz)
  have h6:=Z.six
  intro r
  induction r with
  |nil=>
   intro k out hk hkl hl
   have:=O5 hk
   obtain rfl:k=z.Parts.length:=by omega
   refine D2 ?_
   unfold Ar
   rw [J3];simp [Pa]
  |cons p r ih=>
   intro k out hk hkl hl
   have hlt:=M9 hk
   have hp:=W7 hk
   have hpm:=lG hp
   have hpt:=Z.part p hpm
   have hln:=Lf Z.rise p.Lane_ (List.mem_map_of_mem hpm)
   have hll:=R.val.long hln.1 hln.2
   have hb:=R.bd (Nat.le_of_lt hi)
   simp only [lL]at hl
   have hs:Ar (X2 m (a::t)) (o1,(i:Int)) lane (o2,(zi:Int)) z (out,(k:Int))=some (.go (out++ (if p.Lane_==lane then [⟨(zi:Int),(k:Int),Kk m (a::t) i+p.From,Kk m (a::t) i+p.To⟩]else []),((k+1:Nat):Int))):=by
     unfold Ar
     dsimp only
     rw [K7 hlt,D0 hp,bJ,lB,H8 hlt (by omega)]
     cases p.Lane_==lane
     ·simp
     ·rw [R.follow]
      dsimp only
      rw [bJ,RouteOK.starts hi,lB,lB,F8 (by omega),F8 (by omega),Ee (by simp;omega)]
      rfl
   rw [J9 hs,ih (k+1) _ (K0 hk) (by omega) (by rw [lM];split<;>simp<;>omega),Pa,lO]
theorem kZ (B:BearM m)(R:RouteOK m a t){i:Nat}{lane:Int}(hi:i< (a::t).length)(o1:List Pass):
    ∀(r:List Zone) (zi:Nat) (out:List Pass),m.Zones.drop zi=r→zi≤m.Zones.length→out.length+r.length≤500→
     loop (U2 m (X2 m (a::t)) (o1,(i:Int)) lane) (out,(zi:Int))=some (out++Rm lane (Kk m (a::t) i) zi r):=by
  intro r
  induction r with
  |nil=>
   intro zi out hk hkl hl
   have:=O5 hk
   obtain rfl:zi=m.Zones.length:=by omega
   refine D2 ?_
   unfold U2
   rw [J3];simp [Rm]
  |cons z r ih=>
   intro zi out hk hkl hl
   have hlt:=M9 hk
   have hz:=W7 hk
   have Z:=R.val.zoneOK (lG hz)
   have h6:=Z.six
   have hnz:=R.val.zones
   simp only [lL]at hl
   have h1:=BC lane (Kk m (a::t) i) zi z.Parts 0 (Ty Z.rise)
   have h3:loop (Ar (X2 m (a::t)) (o1,(i:Int)) lane (out,(zi:Int)) z) (out,0)=_:=kY B R hi zi hz o1 out z.Parts 0 out rfl (by omega) (by omega)
   have hs:U2 m (X2 m (a::t)) (o1,(i:Int)) lane (out,(zi:Int))=some (.go (out++Pa lane (Kk m (a::t) i) zi 0 z.Parts,((zi+1:Nat):Int))):=by
     unfold U2
     dsimp only
     rw [K7 hlt,D0 hz,bJ,lB,h3,lB,H8 hlt (by omega)]
   rw [J9 hs,ih (zi+1) _ (K0 hk) (by omega) (by rw [lM];omega),Rm,lO]
theorem mA (B:BearM m)(R:RouteOK m a t):
    ∀(r:List Int) (i:Nat) (out:List Pass),(a::t).drop i=r→i≤(a::t).length→out.length+12*r.length≤200→
     loop (O2 m (X2 m (a::t))) (out,(i:Int))=some (out++Lk m (Kk m (a::t) i) r):=by
  have hl:(X2 m (a::t)).lanes=a::t:=by rw [R.follow]
  intro r
  induction r with
  |nil=>
   intro i out hk hkl hle
   have:=O5 hk
   obtain rfl:i=(a::t).length:=by omega
   refine D2 ?_
   unfold O2
   dsimp only
   rw [hl,J3];simp [Lk]
  |cons x r ih=>
   intro i out hk hkl hle
   have hlt:=M9 hk
   have hx:=W7 hk
   have hm7:=R.most
   have hnz:=R.val.zones
   simp only [lL]at hle hlt
   have h2:loop (U2 m (X2 m (a::t)) (out,(i:Int)) x) (out,0)=_:=kZ B R (lane:=x) (M9 hk) out m.Zones 0 out rfl (by omega) (by omega)
   have hs:O2 m (X2 m (a::t)) (out,(i:Int))=some (.go (out++Rm x (Kk m (a::t) i) 0 m.Zones,((i+1:Nat):Int))):=by
     unfold O2
     dsimp only
     rw [hl,K7 (M9 hk),D0 hx,bJ,lB,h2,lB,H8 (M9 hk) (by simp only [lL];omega)]
   have:=BD (m:=m) x (Kk m (a::t) i) m.Zones 0 fun z hz=>R.val.zoneOK hz
   rw [J9 hs,ih (i+1) _ (K0 hk) (by simp only [lL];omega) (by rw [lM];omega),Ua hx,Lk,lO]
/-- A map with so few zones as the kit's. -/
structure BearK (m:Map):Prop extends BearM m where
  zones2:m.Zones.length≤2
theorem MI {m:Map}(V:ValR m): ∀(r:List Int) (s:Int),(Lk m s r).length≤m.Zones.length*r.length
  | [],s=>by simp [Lk]
  |a::r,s=>by
   have h1:=BD (m:=m) a s m.Zones 0 fun z hz=>V.zoneOK hz
   have h2:=MI V r (s+Q3 m a)
   rw [Lk,lM,lL,Nat.mul_add,Nat.mul_one];omega
/-- The passes: sorted, and those that there are. -/
theorem PG (B:BearK m)(R:RouteOK m a t): ∃ps,V0 m (a::t)=some ps∧ps.Perm (Lk m 0 (a::t))∧Srt Xw ps∧ps.length≤16:=by
  have hm7:=R.most
  have hlen:(Lk m 0 (a::t)).length≤16:=by
    have:=MI R.val (a::t) 0
    have h2:m.Zones.length* (a::t).length≤2*8:=Nat.mul_le_mul B.zones2 (by simp only [lL];omega)
    omega
  have h1:loop (O2 m (X2 m (a::t))) ([],0)=some (Lk m 0 (a::t)):=by
    have:=mA B.toBearM R (a::t) 0 [] rfl (by omega) (by simp;omega)
    rw [lQ,Tz]at this
    exact this
  unfold V0
  rw [Pt B.toBearM _ (by simp;omega),lB,h1,lB]
  cases q:Lk m 0 (a::t)with
  |nil=>exact ⟨[],by rw [DN];rfl, .refl _,List.Pairwise.nil,by simp⟩
  |cons x l=>
   rw [q]at hlen
   obtain ⟨ys,g1,g2,g3⟩:=aX (x::l) (by omega)
   exact ⟨ys,by rw [show List.isEmpty (x::l)=false from rfl,bK,g1];rfl,g2,g3,by rw [g2.length_eq];exact hlen⟩
end
theorem UC {m:Map}(B:BearM m)(V:ValR m)(l:List Int)(hl:l.length≤1000000): ∀(r:List Int) (i:Nat) (a:Int),l.drop (i+1)=r→l[i]? =some a→0≤a→a<m.Lanes.length→thenS (loop (X0 m l) ((i+1:Nat):Int)) (fun _=>some 0) (fun r=>some r)=some (if Lm m a r=true then 0 else 13):=by
  intro r
  induction r with
  |nil=>
   intro i a hi ha h0 h1
   have h2:=O5 hi
   have h3:=(lI.1 ha).1
   have h4:i+1=l.length:=by omega
   rw [D2 (t:= .inl ())]
   ·rfl
   ·unfold X0
    rw [show decide (((i+1:Nat):Int)< (l.length:Int))=false from bG (by omega)];rfl
  |cons b r ih=>
   intro i a hi ha h0 h1
   have hlt:=M9 hi
   have hb:=W7 hi
   obtain ⟨ln,e1,e2⟩:=Up h0 h1
   have hw:D8 (((i+1:Nat):Int) - 1)=(i:Int):=by rw [F8 (by omega)];omega
   have hs:X0 m l ((i+1:Nat):Int)=some (if ln.Next.contains b=true then .go (((i+1+1:Nat):Int))else .out (.inr 13)):=by
     unfold X0
     rw [K7 hlt,bJ,hw,D0 ha,lB,e2,lB,D0 hb,lB,WV _ (B.toBear.pts _ (lG e1)).2,lB,H8 hlt (by omega)]
     cases ln.Next.contains b<;>rfl
   have hn:nextOf m a.toNat=ln.Next:=by unfold nextOf;rw [e1];rfl
   rw [Lm,hn]
   cases q:ln.Next.contains b
   ·rw [q]at hs;rw [D2 hs];rfl
   ·rw [q]at hs
    have hbm:=V.next e1 (List.contains_iff_mem.1 q)
    rw [J9 hs,ih (i+1) b (K0 hi) hb (by omega) (by omega),bO]
theorem Ot {m:Map}(B:BearM m)(r:List Int)(hr:r.length≤1000000):Z7 m r=some (P2 m r):=by
  unfold Z7 P2
  rw [Tu B,lB]
  by_cases q:Vv m=0
  ·have V:=chkR_zero.1 q
   rw [bN (by simpa using q),show (Vv m !=0)=false by simpa using q,bK]
   cases r with
   |nil=>rfl
   |cons a t=>
    dsimp only
    simp only [lL]at hr ⊢
    by_cases h8:7<t.length
    ·rw [bM (.inl h8),show ((((t.length+1:Nat):Int)==0)||(decide (((t.length+1:Nat):Int)>8)))=true by simp;omega];rfl
    ·rw [show ((((t.length+1:Nat):Int)==0)||(decide (((t.length+1:Nat):Int)>8)))=false by simp;omega]
     rw [show C3 (a::t) 0=some a from rfl]
     simp only [bU,bJ,lB,bV]
     by_cases h0:a<0
     ·rw [bM (.inr (.inl h0)),bF h0];rfl
     ·rw [bG h0]
      simp only [bU,bJ,lB,bV]
      by_cases h1:(m.Lanes.length:Int)≤a
      ·rw [bM (.inr (.inr (.inl h1))),show decide (a≥(m.Lanes.length:Int))=true from bF h1];rfl
      ·rw [show decide (a≥(m.Lanes.length:Int))=false from bG (by omega)]
       simp only [bU,bJ,bV]
       rw [lB,MG B,lB]
       by_cases hb:Cj m a= []
       ·rw [hb,show decide ((([]:List Int).length:Int)>0)=false from rfl,bK]
        have:=UC B V (a::t) (by simpa using hr) t 0 a rfl rfl (by omega) (by omega)
        rw [show ((0+1:Nat):Int)=1 from rfl]at this
        rw [this]
        by_cases hc:Lm m a t=true
        ·rw [bM hc,bN (by rw [hc];simp;omega)]
        ·rw [bN hc,bM (.inr (.inr (.inr (.inr (by simpa using hc)))))]
       ·rw [bM (.inr (.inr (.inr (.inl hb)))),show decide (((Cj m a).length:Int)>0)=true from bF (by have:=List.length_pos_iff.2 hb;omega)];rfl
  ·rw [bM q,show (Vv m !=0)=true by simpa using q];rfl
theorem PH {m:Map}(B:BearM m){a:Int}{t:List Int}(R:RouteOK m a t):Ky m (a::t)=some (N5 m 0 (a::t),Kk m (a::t) (a::t).length):=by
  have hm7:=R.most
  have key: ∀(l:List Int) (i:Nat) (st:List Int),(a::t).drop i=l→i≤(a::t).length→st.length=i→loop (Cu m (a::t)) (st,Kk m (a::t) i,(i:Int))=some (st++N5 m (Kk m (a::t) i) l,Kk m (a::t) (a::t).length):=by
    intro l
    induction l with
    |nil=>
     intro i st hi hil _
     have:=O5 hi
     obtain rfl:i=(a::t).length:=by omega
     refine D2 ?_
     unfold Cu
     dsimp only
     rw [J3,N5,lP];rfl
    |cons x l ih=>
     intro i st hi hil h2
     have hlt:=M9 hi
     have hx:=W7 hi
     have hm:=R.mem (lG hx)
     have hl:=R.len hx
     have hb:=R.bd (Nat.le_of_lt hlt)
     simp only [lL]at hlt
     rw [J9 (s':=(st++ [Kk m (a::t) i],Kk m (a::t) (i+1),((i+1:Nat):Int)))]
     ·rw [ih (i+1) _ (K0 hi) (by simp;omega) (by simp [h2]),N5,Ua hx,lO];rfl
     ·unfold Cu
      dsimp only
      rw [K7 (by simpa using hlt),Ee (by simp;omega),bJ,lB,D0 hx,lB,Xu B hm.1 hm.2,lB,H8 hlt (by omega),F8 (by omega),Ua hx]
  have:=key (a::t) 0 [] rfl (by omega) rfl
  rw [Tz]at this
  have this':loop (Cu m (a::t)) ([],0,0)=_:=this
  unfold Ky
  rw [this',lB,lQ]
def StartsM (m:Map)(r:List Int):List Int:=(X2 m r).starts
def LongM (m:Map)(r:List Int):Int:=(X2 m r).length
theorem PI {m:Map}(B:BearM m)(r:List Int)(hr:r.length≤1000000):Bp m r=some (StartsM m r):=by
  unfold Bp StartsM
  rw [Pt B r hr];rfl
theorem RF {m:Map}(B:BearM m)(r:List Int)(hr:r.length≤1000000):T1 m r=some (LongM m r):=by
  unfold T1 LongM
  rw [Pt B r hr];rfl
theorem Ub {m:Map}{r:List Int}(q:P2 m r≠0):X2 m r=⟨⟨0,[],[],[],[]⟩,[],[],0⟩:=by unfold X2;rw [bN q]
theorem Uc {m:Map}(B:BearM m)(r:List Int)(hr:r.length≤1000000):Fi m r=some (StartsM m r):=by
  unfold Fi
  rw [Ot B r hr,lB]
  by_cases q:P2 m r=0
  ·obtain ⟨a,t,rfl,R⟩:=chkRoute_zero.1 q
   rw [q,show ((0:Int) !=0)=false from rfl,bK,PH B R,lB,StartsM,R.follow]
  ·rw [show (P2 m r !=0)=true by simpa using q,bJ,StartsM,Ub q]
theorem AL {m:Map}(B:BearM m)(r:List Int)(hr:r.length≤1000000):V1 m r=some (LongM m r):=by
  unfold V1
  rw [Ot B r hr,lB]
  by_cases q:P2 m r=0
  ·obtain ⟨a,t,rfl,R⟩:=chkRoute_zero.1 q
   rw [q,show ((0:Int) !=0)=false from rfl,bK,PH B R,lB,LongM,R.follow]
  ·rw [show (P2 m r !=0)=true by simpa using q,bJ,LongM,Ub q]
theorem GZ {m:Map}(B:BearM m)(r:List Int)(hr:r.length≤1000000)(k:Int):Kf m r k=some (Eo m r k):=by
  unfold Kf Eo
  rw [Ot B r hr,lB]
  by_cases h:k<0∨(m.Zones.length:Int)≤k
  ·have e:(((P2 m r !=0)||(decide (k<0)))||(decide (k≥(m.Zones.length:Int))))=true:=by
     rcases h with h|h
     ·rw [bF h];simp
     ·rw [show decide (k≥(m.Zones.length:Int))=true from bF h];simp
   rw [e,bJ]
   cases hz:m.Zones[k.toNat]? with
   |none=>rfl
   |some z=>
    have:=I7 hz
    dsimp only
    rw [bN (fun x=>by have:=x.1;omega)]
  ·obtain ⟨z,z1,z2⟩:=YP (m:=m) (k:=k) (by omega) (by omega)
   rw [show decide (k<0)=false from bG (by omega),show decide (k≥(m.Zones.length:Int))=false from bG (by omega),Bool.or_false,Bool.or_false,z1]
   dsimp only
   have hp:=B.toBearZ.parts z (lG z1)
   by_cases q:P2 m r=0
   ·rw [bM ⟨by omega,q⟩,q,show ((0:Int) !=0)=false from rfl,bK]
    exact Tt r (fun l=>(Ng z l).2) (by omega) (fun i a h=>by
      have hi:=I7 h
      unfold Ke
      rw [K7 hi,z2,bJ,lB,D0 h,lB,gV hp,lB]
      cases (Ng z a).2<;>rfl) (by unfold Ke;rw [J3];rfl)
   ·rw [bN (fun x=>q x.2),show (P2 m r !=0)=true by simpa using q];rfl
def pD {α τ:Type}:Stp (List α×Int) τ→Stp (Int×List α) τ
  | .go x=> .go (x.2,x.1)
  | .out t=> .out t
theorem aY {α τ:Type}(F:List α×Int→Option (Stp (List α×Int) τ))(l:List α)(i:Int)(t:τ)(h:loop (fun s:Int×List α=>(F (s.2,s.1)).map pD) (i,l)=some t):loop F (l,i)=some t:=by
  obtain ⟨n,hn⟩:=loop_some.1 h
  refine loop_some.2 ⟨n,?_⟩
  clear h
  induction n generalizing l i with
  |zero=>cases hn
  |succ n ih=>
   rw [loopN]at hn ⊢
   dsimp only at hn
   cases hf:F (l,i)with
   |none=>rw [hf]at hn;cases hn
   |some x=>
    rw [hf]at hn
    cases x with
    |go s=>exact ih s.1 s.2 hn
    |out t'=>exact hn
theorem UD: ∀{l l':List Pass},Srt Xw l→Srt Xw l'→l.Perm l'→(∀x∈l,∀y∈l,Xw x y=false→Xw y x=false→x=y)→l=l'
  | [],l',_,_,h,_=>(List.Perm.nil_eq h)
  |a::l,[],_,_,h,_=>absurd h.length_eq (by simp)
  |a::l,b::l',h1,h2,h,hk=>by
   obtain ⟨a1,a2⟩:=bB.1 h1
   obtain ⟨b1,b2⟩:=bB.1 h2
   have hbl:b∈a::l:=h.mem_iff.2 (by simp)
   have hal:a∈b::l':=h.mem_iff.1 (by simp)
   have e1:Xw b a=false:=by
     rcases lU.1 hbl with e|e
     ·rw [e];exact ltP_ok.irr a
     ·exact a1 b e
   have e2:Xw a b=false:=by
     rcases lU.1 hal with e|e
     ·rw [e];exact ltP_ok.irr b
     ·exact b1 a e
   have hab:=hk a (by simp) b hbl e2 e1
   subst hab
   congr 1
   exact UD a2 b2 (List.Perm.cons_inv h) fun x hx y hy=>hk x (List.mem_cons_of_mem _ hx) y (List.mem_cons_of_mem _ hy)
section
variable {m:Map}{a:Int}{t:List Int}
theorem aZ (R:RouteOK m a t): ∀x∈Lk m 0 (a::t),∀y∈Lk m 0 (a::t),Xw x y=false→Xw y x=false→x=y:=by
  intro x hx y hy h1 h2
  obtain ⟨i,l,j,z,k,p,e1,e2,e3,e4,e5⟩:=BE m _ 0 x hx
  obtain ⟨i',l',j',z',k',p',f1,f2,f3,f4,f5⟩:=BE m _ 0 y hy
  subst e4 f4
  have hx1:x.From=Kk m (a::t) i+p.From:=by rw [e5];show 0+Kk m (a::t) i+p.From=_;omega
  have hy1:y.From=Kk m (a::t) i'+p'.From:=by rw [f5];show 0+Kk m (a::t) i'+p'.From=_;omega
  have hx2:x.Zone_=(j:Int):=by rw [e5]
  have hy2:y.Zone_=(j':Int):=by rw [f5]
  simp only [Xw,bY]at h1 h2
  have hj:j=j':=by omega
  subst hj
  rw [e2]at f2
  obtain rfl:=lD f2
  have Z:=R.val.zoneOK (lG e2)
  have g1:=Z.part p (lG e3)
  have g2:=Z.part p' (lG f3)
  have n1:=Ua (m:=m) e1
  have n2:=Ua (m:=m) f1
  have hil:=(lI.1 e1).1
  have hil':=(lI.1 f1).1
  have hii:i=i':=by
    rcases Nat.lt_trichotomy i i' with h|h|h
    ·exfalso
     have:Kk m (a::t) (i+1)≤Kk m (a::t) i':=by
       rcases Nat.lt_or_ge (i+1) i' with h'|h'
       ·have:=R.lt h' (Nat.le_of_lt hil');omega
       ·rw [show i'=i+1 by omega];omega
     omega
    ·exact h
    ·exfalso
     have:Kk m (a::t) (i'+1)≤Kk m (a::t) i:=by
       rcases Nat.lt_or_ge (i'+1) i with h'|h'
       ·have:=R.lt h' (Nat.le_of_lt hil);omega
       ·rw [show i=i'+1 by omega];omega
     omega
  subst hii
  rw [e1]at f1
  have hlane:=lD f1
  have hkk:k=k':=by
    have hp:=Ty Z.rise
    have hk1:=(lI.1 e3).1
    have hk2:=(lI.1 f3).1
    have q1:z.Parts[k]=p:=(lI.1 e3).2
    have q2:z.Parts[k']=p':=(lI.1 f3).2
    have hpi:=List.pairwise_iff_getElem.1 hp
    rcases Nat.lt_trichotomy k k' with h|h|h
    ·have:=hpi k k' (by simpa using hk1) (by simpa using hk2) h
     simp only [List.getElem_map,q1,q2]at this;omega
    ·exact h
    ·have:=hpi k' k (by simpa using hk2) (by simpa using hk1) h
     simp only [List.getElem_map,q1,q2]at this;omega
  subst hkk
  rw [e3]at f3
  obtain rfl:=lD f3
  rw [e5,f5]
theorem qE (B:BearM m)(R:RouteOK m a t){i:Nat}{lane:Int}(hx:(a::t)[i]? =some lane)(zi:Nat){z:Zone}(hz:m.Zones[zi]? =some z)(o1 o2:List Pass):
    ∀(r:List Part) (k:Nat) (out:List Pass),z.Parts.drop k=r→k≤z.Parts.length→out.length+r.length≤1000→
     loop (Av m (a::t) (N5 m 0 (a::t)) (o1,(i:Int)) (o2,(zi:Int))) (out,(k:Int))=some (out++Pa lane (Kk m (a::t) i) zi k r):=by
  have Z:=R.val.zoneOK (lG hz)
  have h6:=Z.six
  have hi:i< (a::t).length:=(lI.1 hx).1
  intro r
  induction r with
  |nil=>
   intro k out hk hkl hl
   have:=O5 hk
   obtain rfl:k=z.Parts.length:=by omega
   refine D2 ?_
   unfold Av
   dsimp only
   rw [D0 hz,lB,J3];simp [Pa]
  |cons p r ih=>
   intro k out hk hkl hl
   have hlt:=M9 hk
   have hp:=W7 hk
   have hpm:=lG hp
   have hpt:=Z.part p hpm
   have hln:=Lf Z.rise p.Lane_ (List.mem_map_of_mem hpm)
   have hll:=R.val.long hln.1 hln.2
   have hb:=R.bd (Nat.le_of_lt hi)
   simp only [lL]at hl
   have hs:Av m (a::t) (N5 m 0 (a::t)) (o1,(i:Int)) (o2,(zi:Int)) (out,(k:Int))=some (.go (out++ (if p.Lane_==lane then [⟨(zi:Int),(k:Int),Kk m (a::t) i+p.From,Kk m (a::t) i+p.To⟩]else []),((k+1:Nat):Int))):=by
     unfold Av
     dsimp only
     rw [D0 hz,lB,K7 hlt,bJ,lB,D0 hp,lB,D0 hx,lB,H8 hlt (by omega)]
     cases p.Lane_==lane
     ·simp
     ·rw [bJ,RouteOK.starts hi,lB,lB,F8 (by omega),F8 (by omega),Ee (by simp;omega)]
      rfl
   rw [J9 hs,ih (k+1) _ (K0 hk) (by omega) (by rw [lM];split<;>simp<;>omega),Pa,lO]
theorem qF (B:BearM m)(R:RouteOK m a t){i:Nat}{lane:Int}(hx:(a::t)[i]? =some lane)(o1:List Pass):
    ∀(r:List Zone) (zi:Nat) (out:List Pass),m.Zones.drop zi=r→zi≤m.Zones.length→out.length+r.length≤500→
     loop (Aw m (a::t) (N5 m 0 (a::t)) (o1,(i:Int))) (out,(zi:Int))=some (out++Rm lane (Kk m (a::t) i) zi r):=by
  intro r
  induction r with
  |nil=>
   intro zi out hk hkl hl
   have:=O5 hk
   obtain rfl:zi=m.Zones.length:=by omega
   refine D2 ?_
   unfold Aw
   rw [J3];simp [Rm]
  |cons z r ih=>
   intro zi out hk hkl hl
   have hlt:=M9 hk
   have hz:=W7 hk
   have Z:=R.val.zoneOK (lG hz)
   have h6:=Z.six
   have hnz:=R.val.zones
   simp only [lL]at hl
   have h1:=BC lane (Kk m (a::t) i) zi z.Parts 0 (Ty Z.rise)
   have h3:loop (Av m (a::t) (N5 m 0 (a::t)) (o1,(i:Int)) (out,(zi:Int))) (out,0)=_:=qE B R hx zi hz o1 out z.Parts 0 out rfl (by omega) (by omega)
   have hs:Aw m (a::t) (N5 m 0 (a::t)) (o1,(i:Int)) (out,(zi:Int))=some (.go (out++Pa lane (Kk m (a::t) i) zi 0 z.Parts,((zi+1:Nat):Int))):=by
     unfold Aw
     dsimp only
     rw [K7 hlt,bJ,h3,lB,H8 hlt (by omega)]
   rw [J9 hs,ih (zi+1) _ (K0 hk) (by omega) (by rw [lM];omega),Rm,lO]
theorem qG (B:BearM m)(R:RouteOK m a t):
    ∀(r:List Int) (i:Nat) (out:List Pass),(a::t).drop i=r→i≤(a::t).length→out.length+12*r.length≤200→
     loop (Y7 m (a::t) (N5 m 0 (a::t))) (out,(i:Int))=some (out++Lk m (Kk m (a::t) i) r):=by
  have hlen:(N5 m 0 (a::t)).length=(a::t).length:=Nh _ _ _
  intro r
  induction r with
  |nil=>
   intro i out hk hkl hle
   have:=O5 hk
   have hii:i=(a::t).length:=by omega
   refine D2 ?_
   unfold Y7
   dsimp only
   rw [hlen,hii,J3];simp [Lk]
  |cons x r ih=>
   intro i out hk hkl hle
   have hlt:=M9 hk
   have hx:=W7 hk
   have hm7:=R.most
   have hnz:=R.val.zones
   simp only [lL]at hle hlt
   have h2:loop (Aw m (a::t) (N5 m 0 (a::t)) (out,(i:Int))) (out,0)=_:=qF B R hx out m.Zones 0 out rfl (by omega) (by omega)
   have hs:Y7 m (a::t) (N5 m 0 (a::t)) (out,(i:Int))=some (.go (out++Rm x (Kk m (a::t) i) 0 m.Zones,((i+1:Nat):Int))):=by
     unfold Y7
     dsimp only
     rw [hlen,K7 (M9 hk),bJ,h2,lB,H8 (M9 hk) (by simp only [lL];omega)]
   have:=BD (m:=m) x (Kk m (a::t) i) m.Zones 0 fun z hz=>R.val.zoneOK hz
   rw [J9 hs,ih (i+1) _ (K0 hk) (by simp only [lL];omega) (by rw [lM];omega),Ua hx,Lk,lO]
end
/-- The document's insertion sort. -/
theorem gY (T:List Pass)(x:Pass)(Q:List Pass)(hs:Srt Xw Q)(hN:(Q++x::T).length≤1000000):
    ∃Q',loop U4 (Q++x::T,(Q.length:Int))=some (Q'++T)∧Q'.Perm (x::Q)∧Srt Xw Q':=by
  have hstop: ∀xs:List Pass,(fun s:Int×List Pass=>(U4 (s.2,s.1)).map pD) ((([]:List Pass).length:Int),xs)=some (.out xs):=fun xs=>by
    show (U4 (xs,0)).map pD=_
    unfold U4
    rfl
  have hF: ∀(U V:List Pass) (q y:Pass),([]:List Pass).length≤U.length→(U++q::y::V).length=(Q++x::T).length→(fun s:Int×List Pass=>(U4 (s.2,s.1)).map pD) (((U.length:Int)+1),U++q::y::V)=some (if Xw y q then .go ((U.length:Int),U++y::q::V)else .out (U++q::y::V)):=fun U V q y _ hl=>by
    show (U4 (U++q::y::V,(U.length:Int)+1)).map pD=_
    unfold U4
    have hb:U.length+2≤1000000:=by rw [← hl]at hN;simp at hN;omega
    have e1:D8 ((U.length:Int)+1 - 1)=(U.length:Int):=by rw [F8 (by omega)];omega
    have g1:C3 (U++q::y::V) ((U.length:Int)+1)=some y:=by rw [kT];exact Vx _ _ _ _ (by simp)
    have g2:C3 (U++q::y::V) (U.length:Int)=some q:=Vx _ _ _ _ rfl
    have s1:Nk (U++q::y::V) ((U.length:Int)+1) q=U++q::q::V:=by rw [kT,AJ _ _ _ _ _ (by simp)];simp
    have g3:C3 (U++q::q::V) (U.length:Int)=some q:=Vx _ _ _ _ rfl
    have s2:Nk (U++q::q::V) (U.length:Int) y=U++y::q::V:=AJ _ _ _ _ _ rfl
    simp only [show decide (((U.length:Int)+1)>0)=true from bF (by omega),bJ,bO,e1,g1,g2,s1,g3,s2,lB]
    by_cases h1:y.From<q.From
    ·rw [bF h1,show Xw y q=true from bF (.inl h1)];rfl
    ·rw [bG h1]
     simp only [bU,bJ,lB,bO,bV]
     by_cases h2:y.From=q.From
     ·rw [show (y.From==q.From)=true by simp [h2]]
      simp only [bJ,lB,bO]
      by_cases h3:y.Zone_<q.Zone_
      ·rw [bF h3,show Xw y q=true from bF (.inr ⟨h2,h3⟩)];rfl
      ·rw [bG h3,show Xw y q=false from bG (by omega)];rfl
     ·rw [show (y.From==q.From)=false by simp [h2],show Xw y q=false from bG (by omega)];rfl
  obtain ⟨Q',h1,h2,h3⟩:=PD ltP_ok (F:=fun s:Int×List Pass=>(U4 (s.2,s.1)).map pD) (P:= []) (T:=T) (Q++x::T).length hstop hF x Q.length Q [] rfl (by simpa using hs) (by simp) (by simp)
  refine ⟨Q',aY _ _ _ _ ?_,by simpa using h2,h3⟩
  have e:(((([]:List Pass).length+Q.length:Nat):Int),[]++Q++ [x]++T)=((Q.length:Int),Q++x::T):=by simp
  rw [e]at h1
  rw [h1];rfl
theorem nD (A:List Pass)(hN:A.length≤1000000): ∃A',loop Au (A,1)=some A'∧A'.Perm A∧Srt Xw A':=by
  have hend: ∀(xs:List Pass) (i:Nat),xs.length≤i→Au (xs,(i:Int))=some (.out xs):=fun xs i hi=>by
    unfold Au
    rw [show decide ((i:Int)< (xs.length:Int))=false from bG (by omega)];rfl
  have key: ∀(R Q:List Pass),(Q++R).length≤1000000→Srt Xw Q→∃A',loop Au (Q++R,(Q.length:Int))=some A'∧A'.Perm (Q++R)∧Srt Xw A':=by
    intro R
    induction R with
    |nil=>
     intro Q hl hs
     exact ⟨Q,by rw [lP];exact D2 (hend _ _ (wD _)),by simp,hs⟩
    |cons x R ih=>
     intro Q hl hs
     obtain ⟨Q',k1,k2,k3⟩:=gY R x Q hs hl
     have hlq:Q'.length=Q.length+1:=by rw [k2.length_eq];simp
     simp only [lM,lL]at hl
     obtain ⟨A',g1,g2,g3⟩:=ih Q' (by rw [lM];omega) k3
     refine ⟨A',?_,g2.trans ((k2.append_right R).trans (List.perm_middle (a:=x) (l₁:=Q) (l₂:=R)).symm),g3⟩
     rw [← g1,hlq]
     refine J9 ?_
     unfold Au
     dsimp only
     rw [show decide ((Q.length:Int)< ((Q++x::R).length:Int))=true from bF (by simp;omega),bJ,k1,lB,F8 (by omega)]
     congr 2
  cases A with
  |nil=>exact ⟨[],D2 (hend [] 1 (by simp)), .refl _,List.Pairwise.nil⟩
  |cons a A=>
   obtain ⟨A',g1,g2,g3⟩:=key A [a] (by simpa using hN) (List.pairwise_singleton _ _)
   exact ⟨A',g1,g2,g3⟩
theorem XE {m:Map}(B:BearK m)(r:List Int)(hr:r.length≤1000000): ∃ps,V0 m r=some ps∧Fj m r=some ps∧ps.length≤16:=by
  by_cases q:P2 m r=0
  ·obtain ⟨a,t,rfl,R⟩:=chkRoute_zero.1 q
   obtain ⟨ps,p1,p2,p3,p4⟩:=PG B R
   refine ⟨ps,p1,?_,p4⟩
   have hm7:=R.most
   have hlen:(Lk m 0 (a::t)).length≤16:=by rw [← p2.length_eq];exact p4
   have h1:loop (Y7 m (a::t) (N5 m 0 (a::t))) ([],0)=some (Lk m 0 (a::t)):=by
     have:=qG B.toBearM R (a::t) 0 [] rfl (by omega) (by simp;omega)
     rw [lQ,Tz]at this
     exact this
   obtain ⟨A',g1,g2,g3⟩:=nD (Lk m 0 (a::t)) (by omega)
   have:ps=A':=UD p3 g3 (p2.trans g2.symm) fun x hx y hy=>aZ R x (p2.mem_iff.1 hx) y (p2.mem_iff.1 hy)
   unfold Fj
   rw [Uc B.toBearM _ hr,lB,show StartsM m (a::t)=N5 m 0 (a::t) by unfold StartsM;rw [R.follow],h1,lB,g1,this];rfl
  ·refine ⟨[],?_,?_,by simp⟩
   ·have h1:loop (O2 m (X2 m r)) ([],0)=some []:=by
      refine D2 ?_
      unfold O2
      rw [Ub q];rfl
    unfold V0
    rw [Pt B.toBearM r hr,lB,h1,lB,DN];rfl
   ·have h1:loop (Y7 m r []) ([],0)=some []:=D2 rfl
    obtain ⟨A',g1,g2,_⟩:=nD [] (by simp)
    obtain rfl:A'= []:=List.length_eq_zero_iff.1 g2.length_eq
    unfold Fj
    rw [Uc B.toBearM r hr,lB,StartsM,Ub q]
    dsimp only
    rw [h1,lB,g1];rfl
structure SmallS (s:State):Prop where
  agents:s.Agents.length≤10
  ins:s.In.length≤20
  routes: ∀a∈s.Agents,a.Route.length≤10
/-! ### Copies -/
theorem MJ {α:Type}{l:List α}(h:l.length≤1000000):Am ([]:List α) l=some l:=by
  rw [Ee (by simp;omega),lQ]
structure SizeS (s:State):Prop where
  agents:s.Agents.length≤1000
  ins:s.In.length≤1000000
  routes: ∀a∈s.Agents,a.Route.length≤1000
theorem SmallS.size {s:State}(h:SmallS s):SizeS s:=⟨by have:=h.agents;omega,by have:=h.ins;omega,fun a ha=>by have:=h.routes a ha;omega⟩
theorem cA (F:Int×State→Option (Stp (Int×State) State))(s:State)(h:SizeS s)(l0:List Stay)
    (hF: ∀(i:Nat) (a:Agent) (t:State),s.Agents[i]? =some a→F ((i:Int),t)=(Am t.Agents [a]).bind fun v=>some (.go (D8 ((i:Int)+1),⟨t.Tick,v,t.In⟩))) (h0: ∀t:State,F ((s.Agents.length:Int),t)=some (.out t)):
    loop F (0,⟨s.Tick,[],l0⟩)=some ⟨s.Tick,s.Agents,l0⟩:=by
  have key: ∀(r:List Agent) (i:Nat),s.Agents.drop i=r→i≤s.Agents.length→loop F ((i:Int),⟨s.Tick,s.Agents.take i,l0⟩)=some ⟨s.Tick,s.Agents,l0⟩:=by
    intro r
    induction r with
    |nil=>
     intro i hi hil
     have:=O5 hi
     obtain rfl:i=s.Agents.length:=by omega
     rw [D2 (h0 _),List.take_length]
    |cons a r ih=>
     intro i hi hil
     have hlt:=M9 hi
     have ha:=W7 hi
     have hh:=h.agents
     rw [J9 (s':=(((i+1:Nat):Int),⟨s.Tick,s.Agents.take (i+1),l0⟩)),ih (i+1) (K0 hi) hlt]
     rw [hF i a _ ha,Ee (by rw [lW];simp;omega),lB,H8 hlt (by omega),List.take_add_one,ha];rfl
  exact key s.Agents 0 rfl (by omega)
theorem gZ {s:State}(h:SizeS s):LM s=some s:=by
  unfold LM
  rw [MJ h.ins,lB,cA (Qd s) s h s.In (fun i a t ha=> ?_) (fun t=>by unfold Qd;dsimp only;rw [J3];rfl)]
  ·rfl
  ·unfold Qd
   dsimp only
   rw [K7 (I7 ha),D0 ha,bJ,lB,MJ (by have:=h.routes a (lG ha);omega),lB]
/-- The last place up to a number. -/
def Ri (S:Int):Nat→Nat→List Int→Nat
  |_,b,[]=>b
  |i,b,x::r=>Ri S (i+1) (if x≤S then i else b) r
theorem UE (st:List Int)(S:Int): ∀(r:List Int) (i b:Nat),st.drop i=r→i≤st.length→(i=0→b=0)→(0<i→b<i∧(∃y,st[b]? =some y∧y≤S)∧∀(j:Nat) y,b<j→j<i→st[j]? =some y→S<y)→(∃y,st[0]? =some y∧y≤S)→
    (∃y,st[Ri S i b r]? =some y∧y≤S)∧∀(j:Nat) y,Ri S i b r<j→st[j]? =some y→S<y:=by
  intro r
  induction r with
  |nil=>
   intro i b hi hil h0 h1 hne
   have:=O5 hi
   obtain ⟨y0,g0,_⟩:=hne
   have:=I7 g0
   obtain ⟨q1,q2,q3⟩:=h1 (by omega)
   exact ⟨q2,fun j y hj hy=>q3 j y hj (by have:=I7 hy;omega) hy⟩
  |cons x r ih=>
   intro i b hi hil h0 h1 hne
   have hx:=W7 hi
   have hlt:=M9 hi
   unfold Ri
   refine ih (i+1) _ (K0 hi) hlt (by omega) (fun _=> ?_) hne
   by_cases q:x≤S
   ·rw [bM q]
    exact ⟨by omega,⟨x,hx,q⟩,fun j y h2 h3=>by omega⟩
   ·rw [bN q]
    by_cases z:i=0
    ·subst z
     obtain ⟨y0,g0,g1⟩:=hne
     rw [hx]at g0;cases g0;exact absurd g1 q
    ·obtain ⟨q1,q2,q3⟩:=h1 (by omega)
     refine ⟨by omega,q2,fun j y h2 h3 hy=> ?_⟩
     by_cases e:j=i
     ·subst e;rw [hx]at hy;cases hy;omega
     ·exact q3 j y h2 (by omega) hy
theorem cB {st:List Int}{S:Int}(hne: ∃y,st[0]? =some y∧y≤S):(∃y,st[Ri S 0 0 st]? =some y∧y≤S)∧∀(j:Nat) y,Ri S 0 0 st<j→st[j]? =some y→S<y:=
  UE st S st 0 0 rfl (by omega) (fun _=>rfl) (fun h=>by omega) hne
theorem YS (g:Agent)(st:List Int)(hl:st.length≤1000000): ∀(r:List Int) (i b:Nat),st.drop i=r→i≤st.length→loop (Fv g st) ((b:Int),(i:Int))=some ((Ri g.S i b r:Nat):Int):=by
  intro r
  induction r with
  |nil=>
   intro i b hi hil
   have:=O5 hi
   obtain rfl:i=st.length:=by omega
   exact D2 (by unfold Fv;dsimp only;rw [J3];rfl)
  |cons x r ih=>
   intro i b hi hil
   have hx:=W7 hi
   have hlt:=M9 hi
   unfold Ri
   by_cases q:x≤g.S
   ·rw [bM q,J9 (s':=((i:Int),((i+1:Nat):Int))),ih (i+1) i (K0 hi) hlt]
    unfold Fv;dsimp only
    rw [K7 hlt,D0 hx,bJ,lB,bF q,bJ,H8 hlt (by omega)]
   ·rw [bN q,J9 (s':=((b:Int),((i+1:Nat):Int))),ih (i+1) b (K0 hi) hlt]
    unfold Fv;dsimp only
    rw [K7 hlt,D0 hx,bJ,lB,bG q,bK,H8 hlt (by omega)]
theorem cC (g:Agent)(st:List Int)(hl:st.length≤1000000)(k:Nat)(hk: ∃y,st[k]? =some y∧y≤g.S)(hj: ∀(j:Nat) y,k<j→st[j]? =some y→g.S<y): ∀(n i:Nat),i=k+n→i<st.length→loop (Iy g st) (i:Int)=some (k:Int):=by
  intro n
  induction n with
  |zero=>
   intro i hi hil
   obtain ⟨y,h1,h2⟩:=hk
   obtain rfl:i=k:=by omega
   exact D2 (by unfold Iy;rw [D0 h1,lB,bG (show ¬y>g.S by omega)];rfl)
  |succ n ih=>
   intro i hi hil
   have h1:st[i]? =some st[i]:=lH hil
   have h2:=hj i _ (by omega) h1
   rw [J9 (s':=((i - 1:Nat):Int)) (by unfold Iy;rw [D0 h1,lB,bF (show st[i]>g.S by omega),bJ,F8 (by omega)];congr 2;omega)]
   exact ih (i - 1) (by omega) (by omega)
def DO (m:Map)(g:Agent):Nat:=Ri g.S 0 0 (StartsM m g.Route)
/-- The lane of an agent, and its offset. -/
def Vy (m:Map)(g:Agent):Int×Int:=(g.Route.getD (DO m g) 0,g.S - (StartsM m g.Route).getD (DO m g) 0)
theorem RouteOK.StartsM {m:Map}{a:Int}{t:List Int}(R:RouteOK m a t):StartsM m (a::t)=N5 m 0 (a::t):=by unfold World.StartsM;rw [R.follow]
theorem RouteOK.LongM {m:Map}{a:Int}{t:List Int}(R:RouteOK m a t):LongM m (a::t)=Kk m (a::t) (a::t).length:=by unfold World.LongM;rw [R.follow]
theorem Vz {m:Map}{a:Int}{t:List Int}(R:RouteOK m a t){g:Agent}(hg:g.Route=a::t)(h0:0≤g.S):
    ∃x,DO m g< (a::t).length∧(a::t)[DO m g]? =some x∧Vy m g=(x,g.S - Kk m (a::t) (DO m g))∧Kk m (a::t) (DO m g)≤g.S∧(∀j,DO m g<j→j< (a::t).length→g.S<Kk m (a::t) j):=by
  have hl:=Nh m (a::t) 0
  have h00:(N5 m 0 (a::t))[0]? =some 0:=by rw [N5];rfl
  obtain ⟨⟨y,y1,y2⟩,y3⟩:=cB (st:=N5 m 0 (a::t)) (S:=g.S) ⟨0,h00,h0⟩
  have e:DO m g=Ri g.S 0 0 (N5 m 0 (a::t)):=by unfold DO;rw [hg,R.StartsM]
  rw [← e]at y1 y3
  have hlt:=I7 y1
  rw [hl]at hlt
  have hy:y=Kk m (a::t) (DO m g):=by
    have:=Ni m (a::t) 0 (DO m g) hlt
    rw [y1,Int.zero_add]at this
    exact lD this
  refine ⟨(a::t)[DO m g],hlt,lH hlt,?_,by omega,fun j hj hjl=> ?_⟩
  ·unfold Vy
   rw [hg,R.StartsM,List.getD,List.getD,lH hlt,y1,hy];rfl
  ·have:=Ni m (a::t) 0 j hjl
   rw [Int.zero_add]at this
   exact y3 j _ hj this
theorem hJ {m:Map}(B:BearM m){a:Int}{t:List Int}(R:RouteOK m a t){g:Agent}(hg:g.Route=a::t)(h0:0≤g.S)(h1:g.S≤9223372036854775807):Hr m g=some (Vy m g)∧Tj m g=some (Vy m g):=by
  obtain ⟨x,q1,q2,q3,q4,q5⟩:=Vz R hg h0
  have hm7:=R.most
  have hr:g.Route.length≤1000000:=by rw [hg];simp;omega
  have hl:=Nh m (a::t) 0
  have hbd:=R.bd (i:=DO m g) (by omega)
  have hs:C3 (N5 m 0 (a::t)) ((DO m g:Nat):Int)=some (Kk m (a::t) (DO m g)):=RouteOK.starts q1
  have hk:(N5 m 0 (a::t))[DO m g]? =some (Kk m (a::t) (DO m g)):=by rw [Ni m _ 0 _ q1,Int.zero_add];rfl
  constructor
  ·unfold Hr
   rw [PI B _ hr,lB,hg,R.StartsM]
   have hn:D8 (((N5 m 0 (a::t)).length:Int) - 1)=((t.length:Nat):Int):=by rw [hl,F8 (by simp;omega)];simp
   rw [hn,cC g _ (by rw [hl];simp;omega) (DO m g) ⟨_,hk,q4⟩ (fun j y hj hy=>by
    have hjl:=I7 hy
    rw [hl]at hjl
    have:=Ni m (a::t) 0 j hjl
    rw [hy,Int.zero_add]at this
    cases this
    exact q5 j hj hjl) (t.length - DO m g) t.length (by simp only [lL]at q1;omega) (by rw [hl];simp),lB,D0 q2,lB,hs,lB,q3,F8 (by omega)]
  ·unfold Tj
   rw [Uc B _ hr,lB,hg,R.StartsM]
   have:=YS g (N5 m 0 (a::t)) (by rw [hl];simp;omega) (N5 m 0 (a::t)) 0 0 rfl (by omega)
   have e:DO m g=Ri g.S 0 0 (N5 m 0 (a::t)):=by unfold DO;rw [hg,R.StartsM]
   rw [← e]at this
   rw [show ((0:Int),(0:Int))=(((0:Nat):Int),((0:Nat):Int)) from rfl,this,lB,D0 q2,lB,hs,lB,q3,F8 (by omega)]
def Ga (m:Map)(x:Int):Int:=((m.Lanes[x.toNat]?).map (·.Kind)).getD 0
/-- The greatest speed, acceleration and braking where an agent is. -/
def UF (m:Map)(g:Agent):Int×Int×Int:=Gz (Ga m (Vy m g).1)
def FO (m:Map)(g:Agent):Bool:=decide (D8 (g.S - g.Len)>LongM m g.Route)
def RG (g:Agent):Bool:=(((decide (g.Len<300)||decide (g.Len>20000))||decide (g.Begin<0))||decide (g.Begin>1099511627776))||decide (g.S<0)
/-- The error of an agent of a state. -/
def Ed (m:Map)(s:State)(i:Int)(g:Agent):Int:=
  if P2 m g.Route=0 then
   if RG g=true∨g.S>LongM m g.Route+g.Len+2000 then 2
   else if g.V<0∨g.V>(UF m g).1 then 2
   else if g.Gone≠FO m g∨(g.Begin>s.Tick∧g.S≠0)∨(i=0∧g.Begin≠0)then 10 else 0
  else 13
theorem Qx {m:Map}{a:Int}{t:List Int}(R:RouteOK m a t):1000≤LongM m (a::t)∧LongM m (a::t)≤134217728:=by
  have h1:=R.bd (wD _)
  have h2:=R.lt (i:=0) (j:=(a::t).length) (by simp) (wD _)
  rw [Tz]at h2
  rw [R.LongM];omega
theorem YT {m:Map}(B:BearM m){g:Agent}(hr:g.Route.length≤1000000):Ht m g=some (FO m g)∧Tk m g=some (FO m g):=by
  constructor
  ·unfold Ht Cq
   rw [lB,RF B _ hr];rfl
  ·unfold Tk
   rw [AL B _ hr];rfl
theorem cD {m:Map}{a:Int}{t:List Int}(R:RouteOK m a t){g:Agent}(hg:g.Route=a::t)(h0:0≤g.S): ∃l,C3 m.Lanes (Vy m g).1=some l∧Ga m (Vy m g).1=l.Kind∧m.Lanes[(Vy m g).1.toNat]? =some l:=by
  obtain ⟨x,q1,q2,q3,_⟩:=Vz R hg h0
  have hx:=R.mem (lG q2)
  have hl:m.Lanes[x.toNat]? =some m.Lanes[x.toNat]:=lH (by omega)
  have hg:=D0 hl
  rw [wC hx.1]at hg
  refine ⟨_,by rw [q3];exact hg,?_,by rw [q3];exact hl⟩
  rw [q3];unfold Ga
  dsimp only
  rw [hl];rfl
theorem MK {g:Agent}(h:RG g=false):300≤g.Len∧g.Len≤20000∧0≤g.Begin∧g.Begin≤1099511627776∧0≤g.S:=by
  unfold RG at h
  simp only [Bool.or_eq_false_iff,bY]at h
  omega
theorem UG {m:Map}(B:BearM m)(s:State){i:Int}{g:Agent}(hi:C3 s.Agents i=some g)(hr:g.Route.length≤1000)(hS:g.S≤9223372036854775807):
    Z5 m s i=some (Ed m s i g)∧Gr m s i=some (Ed m s i g):=by
  have hr':g.Route.length≤1000000:=by omega
  unfold Z5 Gr Ed
  rw [hi,lB,lB,CK B _ hr',Ot B _ hr',lB,lB]
  by_cases q:P2 m g.Route=0
  case neg=>
    rw [bN q,show (P2 m g.Route !=0)=true by simpa using q]
    exact ⟨rfl,rfl⟩
  rw [bM q,q,show ((0:Int) !=0)=false from rfl,bK,bK]
  obtain ⟨a,t,ht,R⟩:=chkRoute_zero.1 q
  have hL:=Qx R
  rw [← ht]at hL
  rw [RF B _ hr',AL B _ hr']
  have e:((((decide (g.Len<300)||decide (g.Len>20000))||decide (g.Begin<0))||decide (g.Begin>1099511627776))||decide (g.S<0))=RG g:=rfl
  rw [e]
  by_cases o:RG g=true
  ·rw [bM (.inl o),o];exact ⟨rfl,rfl⟩
  have o':RG g=false:=by simpa using o
  obtain ⟨o1,o2,o3,o4,o5⟩:=MK o'
  rw [o',bU,bJ,lB,lB,bV,F8 (n:=LongM m g.Route+g.Len) (by omega),F8 (n:=LongM m g.Route+g.Len+2000) (by omega)]
  by_cases l:g.S>LongM m g.Route+g.Len+2000
  ·rw [bM (.inr l),bF l];exact ⟨rfl,rfl⟩
  rw [bN (fun h=>h.elim (fun h=>by cases h) l),bG l,bK,bK]
  obtain ⟨l1,l2⟩:=hJ B R ht o5 hS
  obtain ⟨ln,k1,k2,_⟩:=cD R ht o5
  rw [l1,l2,lB,lB,k1,lB,lB,GR,Xc,lB,lB]
  have ev:(UF m g).1=(Gz ln.Kind).1:=by unfold UF;rw [k2]
  rw [ev]
  by_cases v:g.V<0∨g.V>(Gz ln.Kind).1
  ·rw [bM v,show (decide (g.V<0)||decide (g.V>(Gz ln.Kind).1))=true by simpa using v];exact ⟨rfl,rfl⟩
  rw [bN v,show (decide (g.V<0)||decide (g.V>(Gz ln.Kind).1))=false by rw [bW];simpa using v,bK,bK,(YT B hr').1,(YT B hr').2,lB,lB]
  have hb: ∀b:Bool,(b=true↔g.Gone≠FO m g∨(g.Begin>s.Tick∧g.S≠0)∨(i=0∧g.Begin≠0))→cond b (some (10:Int)) (some 0)=some (if g.Gone≠FO m g∨(g.Begin>s.Tick∧g.S≠0)∨(i=0∧g.Begin≠0)then 10 else 0):=by
    intro b hb
    by_cases h:g.Gone≠FO m g∨(g.Begin>s.Tick∧g.S≠0)∨(i=0∧g.Begin≠0)
    ·rw [bM h,hb.2 h];rfl
    ·rw [bN h]
     cases b
     ·rfl
     ·exact absurd (hb.1 rfl) h
  exact ⟨hb _ (by simp),hb _ (by simp [or_assoc])⟩
/-! ### The whole check -/
def Rn (a b:Stay):Bool:=decide (a.Agent_<b.Agent_)||(a.Agent_==b.Agent_&&decide (a.Zone_<b.Zone_))
theorem oO (a b:Int):Cr [a,b]=some (if a≠0 then a else b):=by
  unfold Cr
  by_cases h:a=0
  ·subst h
   rw [J9 (s':=1) rfl,bN (by simp)]
   by_cases h:b=0
   ·subst h;rw [J9 (s':=2) rfl,D2 (t:= .inl ()) rfl];rfl
   ·rw [D2 (t:= .inr b) (by unfold Ac;rw [show C3 [(0:Int),b] 1=some b from rfl,lB,show (b !=0)=true by simpa using h];rfl)];rfl
  ·rw [D2 (t:= .inr a) (by unfold Ac;rw [show C3 [a,b] 0=some a from rfl,lB,show (a !=0)=true by simpa using h];rfl),bM h];rfl
/-- What the order of two stays is. -/
def mB (a b:Stay):Int:=if IX a.Agent_ b.Agent_≠0 then IX a.Agent_ b.Agent_ else IX a.Zone_ b.Zone_
theorem hO (a b:Stay):Dg a b=some (mB a b):=by
  unfold Dg mB
  rw [DM,lB,DM,lB,oO,lB]
theorem hQ (a b:Stay):decide (mB a b≥0)= !Rn a b:=by
  unfold mB Rn IX
  by_cases h1:a.Agent_<b.Agent_
  ·simp [h1]
  ·by_cases h2:a.Agent_>b.Agent_
   ·have:a.Agent_≠b.Agent_:=by omega
    simp [h1,h2,this]
   ·have:a.Agent_=b.Agent_:=by omega
    by_cases h3:a.Zone_<b.Zone_
    ·simp [this,h3]
    ·by_cases h4:a.Zone_>b.Zone_
     ·simp [this,h3,h4]
     ·simp [this,h3,h4]
def Xx (m:Map)(s:State)(x:Stay):Bool:=((decide (x.Agent_<0)||decide (x.Agent_≥(s.Agents.length:Int)))||decide (x.Zone_<0))||decide (x.Zone_≥(m.Zones.length:Int))
def cQ (m:Map)(s:State)(i:Nat)(x:Stay):Option Int:=if Xx m s x=true∨(0<i∧∃y,s.In[i - 1]? =some y∧Rn y x=false)then some 11 else none
def Uh (s:State)(x:Stay):Bool:=((decide (x.Since<0)||decide (x.Since>s.Tick))||decide (x.Rank<0))||decide (x.Rank>100)
def HA (m:Map)(s:State):Int:=
  if Vv m=0 then
   if s.Tick<0∨s.Tick>1099511627776 then 2 else if s.Agents.length=0 then 6 else if 8<s.Agents.length then 8
   else match J6 (fun i g=>if Ed m s (i:Int) g=0 then none else some (Ed m s (i:Int) g)) 0 s.Agents with
     |some e=>e
     |none=>match J6 (cQ m s) 0 s.In with
      |some e=>e
      |none=>if s.In.any (Uh s)=true then 2 else 0
  else Vv m
theorem UH {m:Map}(B:BearM m){s:State}(h:SizeS s)(hw: ∀g∈s.Agents,g.S≤9223372036854775807):
    loop (Ag m s) 0=some (LY (J6 (fun i g=>if Ed m s (i:Int) g=0 then none else some (Ed m s (i:Int) g)) 0 s.Agents))∧
    loop (Gv m s) 0=some (LY (J6 (fun i g=>if Ed m s (i:Int) g=0 then none else some (Ed m s (i:Int) g)) 0 s.Agents)):=by
  have hh:=h.agents
  constructor
  ·refine Aa s.Agents _ _ (fun i g hg=> ?_) (by unfold Ag;rw [J3];rfl)
   have hm:=lG hg
   unfold Ag
   rw [K7 (I7 hg),bJ,(UG B s (D0 hg) (h.routes g hm) (hw g hm)).1,lB]
   by_cases q:Ed m s (i:Int) g=0
   ·rw [bM q,q,show ((0:Int) !=0)=false from rfl,bK,H8 (I7 hg) (by omega)]
   ·rw [bN q,show (Ed m s (i:Int) g !=0)=true by simpa using q];rfl
  ·refine Aa s.Agents _ _ (fun i g hg=> ?_) (by unfold Gv;rw [J3];rfl)
   have hm:=lG hg
   unfold Gv
   rw [K7 (I7 hg),bJ,(UG B s (D0 hg) (h.routes g hm) (hw g hm)).2,lB]
   by_cases q:Ed m s (i:Int) g=0
   ·rw [bM q,q,show ((0:Int) !=0)=false from rfl,bK,H8 (I7 hg) (by omega)]
   ·rw [bN q,show (Ed m s (i:Int) g !=0)=true by simpa using q];rfl
theorem UI {α:Type}{l:List α}{i:Nat}{a:α}(h:l[i]? =some a)(h0:0<i): ∃y,l[i - 1]? =some y∧C3 l (D8 ((i:Int) - 1))=some y∨1000000000000<i:=by
  by_cases hb:1000000000000<i
  ·exact ⟨a, .inr hb⟩
  ·have:=I7 h
   have e:l[i - 1]? =some l[i - 1]:=lH (by omega)
   refine ⟨_, .inl ⟨e,?_⟩⟩
   rw [F8 (by omega),show (i:Int) - 1=((i - 1:Nat):Int) by omega]
   exact D0 e
theorem iA (m:Map){s:State}(h:SizeS s):
    loop (Af m s) 0=some (LY (J6 (cQ m s) 0 s.In))∧loop (Gu m s) 0=some (LY (J6 (cQ m s) 0 s.In)):=by
  have hh:=h.ins
  constructor
  ·refine Aa s.In _ _ (fun i x hx=> ?_) (by unfold Af;rw [J3];rfl)
   have hi:=I7 hx
   unfold Af
   rw [K7 hi,bJ,D0 hx,lB]
   have e:(((decide (x.Agent_<0)||decide (x.Agent_≥(s.Agents.length:Int)))||decide (x.Zone_<0))||decide (x.Zone_≥(m.Zones.length:Int)))=Xx m s x:=rfl
   rw [e]
   unfold cQ
   by_cases hb:Xx m s x=true
   ·rw [hb,bM (.inl rfl)];rfl
   have hb':Xx m s x=false:=by simpa using hb
   rw [hb',bU,bO]
   by_cases h0:0<i
   ·obtain ⟨y,hy⟩:=UI hx h0
    rcases hy with ⟨y1,y2⟩|hy
    ·rw [bF (show (i:Int)>0 by omega),bJ,y2,lB,bJ,hO,lB,bV,bO,hQ]
     by_cases q:Rn y x=true
     ·rw [q,bN (by rintro (h|⟨_,z,z1,z2⟩);exact (by cases h);rw [y1]at z1;cases z1;rw [q]at z2;cases z2),bT,bK,H8 hi (by omega)]
     ·have q':Rn y x=false:=by simpa using q
      rw [q',bM (.inr ⟨h0,y,y1,q'⟩)];rfl
    ·omega
   ·rw [bG (show ¬(i:Int)>0 by omega),bK,lB,bK,lB,bV,bQ,bK,bN (by rintro (h|⟨h,_⟩);exact (by cases h);exact h0 h),H8 hi (by omega)]
  ·refine Aa s.In _ _ (fun i x hx=> ?_) (by unfold Gu;rw [J3];rfl)
   have hi:=I7 hx
   unfold Gu
   rw [K7 hi,bJ,D0 hx,lB]
   have e:(((decide (x.Agent_<0)||decide (x.Agent_≥(s.Agents.length:Int)))||decide (x.Zone_<0))||decide (x.Zone_≥(m.Zones.length:Int)))=Xx m s x:=rfl
   rw [e]
   unfold cQ
   by_cases hb:Xx m s x=true
   ·rw [hb,bM (.inl rfl)];rfl
   have hb':Xx m s x=false:=by simpa using hb
   rw [hb',bK]
   by_cases h0:0<i
   ·obtain ⟨y,hy⟩:=UI hx h0
    rcases hy with ⟨y1,y2⟩|hy
    ·rw [bF (show (i:Int)>0 by omega),bJ,y2,lB,bO]
     have hc: ∀b:Bool,(cond b (some y) (some default)).bind (fun v=>some v)=some (cond b y default):=by intro b;cases b<;>rfl
     by_cases q1:x.Agent_<y.Agent_
     ·rw [bF q1,bM (.inr ⟨h0,y,y1,by unfold Rn;simp;omega⟩)];rfl
     ·rw [bG q1,bU,bJ,lB,bO]
      by_cases q2:x.Agent_=y.Agent_
      ·rw [show (x.Agent_==y.Agent_)=true by simpa using q2,bJ,lB,bV,bO,bO]
       by_cases q3:x.Zone_≤y.Zone_
       ·rw [bF q3,bM (.inr ⟨h0,y,y1,by unfold Rn;simp;omega⟩)];rfl
       ·rw [bG q3,bN (by rintro (h|⟨_,z,z1,z2⟩);exact (by cases h);rw [y1]at z1;cases z1;unfold Rn at z2;simp at z2;omega),bK,H8 hi (by omega)]
      ·rw [show (x.Agent_==y.Agent_)=false by simpa using q2,bK,lB,bV,bO,bQ,bK,bN (by rintro (h|⟨_,z,z1,z2⟩);exact (by cases h);rw [y1]at z1;cases z1;unfold Rn at z2;simp at z2;omega),H8 hi (by omega)]
    ·omega
   ·rw [bG (show ¬(i:Int)>0 by omega),bK,lB]
    simp only [bQ,bK,lB]
    rw [bN (by rintro (h|⟨h,_⟩);exact (by cases h);exact h0 h),H8 hi (by omega)]
theorem Ry {α:Type}(l:List α)(P:α→Bool)(F:Int→Option (Stp Int (Sum Unit Int)))(hl:l.length≤1000000000)(hF: ∀(i:Nat) a,l[i]? =some a→F (i:Int)=some (if P a then .out (.inr (i:Int))else .go (D8 ((i:Int)+1))))(h0:F (l.length:Int)=some (.out (.inl ()))):
    (thenS (loop F 0) (fun _=>some (-1)) (fun r=>some r)).bind (fun v=>some (decide (v≥0)))=some (l.any P):=by
  rw [MB l P hl hF h0]
  have:=Vt P l
  unfold GV at this
  cases hq:l.findIdx? P with
  |some i=>rw [hq]at this;show some _=_;rw [← this]
  |none=>rw [hq]at this;show some _=_;rw [← this]
theorem mC {s:State}(h:SizeS s):F7 s.In s=some (s.In.any (Uh s)):=by
  have hh:=h.ins
  unfold F7 J4
  refine Ry s.In (Uh s) _ (by omega) (fun i x hx=> ?_) (by unfold L9;rw [J3];rfl)
  unfold L9 Mk
  rw [K7 (I7 hx),D0 hx,bJ,lB,lB]
  have e:(((decide (x.Since<0)||decide (x.Since>s.Tick))||decide (x.Rank<0))||decide (x.Rank>100))=Uh s x:=rfl
  rw [e]
  cases Uh s x<;>rfl
theorem iB {s:State}(h:SizeS s):thenS (loop (Gs s) 0) (fun _=>some 0) (fun r=>some r)=some (if s.In.any (Uh s)=true then 2 else 0):=by
  have hh:=h.ins
  rw [Aa s.In _ (fun _ x=>if Uh s x=true then some 2 else none) (fun i x hx=> ?_) (by unfold Gs;rw [J3];rfl)]
  ·by_cases q:s.In.any (Uh s)=true
   ·rw [bM q]
    cases hf:J6 (fun _ x=>if Uh s x=true then some (2:Int)else none) 0 s.In with
    |some e=>
     have: ∀(l:List Stay) (i:Nat),J6 (fun _ x=>if Uh s x=true then some (2:Int)else none) i l=some e→e=2:=by
       intro l
       induction l with
       |nil=>intro i h;cases h
       |cons a l ih=>
        intro i h
        unfold J6 at h
        by_cases z:Uh s a=true
        ·rw [bM z]at h;cases h;rfl
        ·rw [bN z]at h;exact ih _ h
     rw [this _ _ hf];rfl
    |none=>
     obtain ⟨x,x1,x2⟩:=l7.1 q
     obtain ⟨j,hj⟩:=bD x1
     have:=firstE_none.1 hf j x hj
     rw [bM x2]at this;cases this
   ·rw [bN q,firstE_none.2 fun j x hj=> ?_]
    ·rfl
    ·by_cases z:Uh s x=true
     ·exact absurd (l7.2 ⟨x,lG hj,z⟩) q
     ·rw [bN z]
  ·unfold Gs
   rw [K7 (I7 hx),D0 hx,bJ,lB]
   have e:(((decide (x.Since<0)||decide (x.Since>s.Tick))||decide (x.Rank<0))||decide (x.Rank>100))=Uh s x:=rfl
   rw [e]
   by_cases z:Uh s x=true
   ·rw [bM z,z];rfl
   ·rw [bN z,show Uh s x=false by simpa using z,bK,H8 (I7 hx) (by omega)]
theorem UJ {m:Map}(B:BearM m){s:State}(h:SizeS s)(hw: ∀g∈s.Agents,g.S≤9223372036854775807):Bv m s=some (HA m s)∧Qr m s=some (HA m s):=by
  obtain ⟨a1,a2⟩:=UH B h hw
  obtain ⟨i1,i2⟩:=iA m h
  unfold Bv Qr HA
  rw [On B,Tu B,lB,lB]
  by_cases q:Vv m=0
  case neg=>rw [bN q,show (Vv m !=0)=true by simpa using q];exact ⟨rfl,rfl⟩
  rw [bM q,q,show ((0:Int) !=0)=false from rfl,bK,bK]
  by_cases t:s.Tick<0∨s.Tick>1099511627776
  ·rw [bM t,show (decide (s.Tick<0)||decide (s.Tick>1099511627776))=true by simpa using t];exact ⟨rfl,rfl⟩
  rw [bN t,show (decide (s.Tick<0)||decide (s.Tick>1099511627776))=false by rw [bW];simpa using t,bK,bK]
  by_cases n0:s.Agents.length=0
  ·rw [bM n0,show (((s.Agents.length:Nat):Int)==0)=true by rw [n0];rfl];exact ⟨rfl,rfl⟩
  rw [bN n0,show (((s.Agents.length:Nat):Int)==0)=false by simpa using (show ((s.Agents.length:Nat):Int)≠0 by omega),bK,bK]
  by_cases n8:8<s.Agents.length
  ·rw [bM n8,bF (show (s.Agents.length:Int)>8 by omega)];exact ⟨rfl,rfl⟩
  rw [bN n8,bG (show ¬(s.Agents.length:Int)>8 by omega),bK,bK,a1,a2]
  cases J6 (fun i g=>if Ed m s (i:Int) g=0 then none else some (Ed m s (i:Int) g)) 0 s.Agents with
  |some e=>exact ⟨rfl,rfl⟩
  |none=>
   show thenS _ _ _=_∧thenS _ _ _=_
   rw [i1,i2]
   cases J6 (cQ m s) 0 s.In with
   |some e=>exact ⟨rfl,rfl⟩
   |none=>
    refine ⟨?_,iB h⟩
    show (F7 s.In s).bind _=_
    rw [mC h,lB]
    cases s.In.any (Uh s)<;>rfl
/-- A map of the kit. -/
structure KitM (m:Map):Prop extends BearK m where
  val:ValR m
theorem mD (n:Int): ∃m,AZ n=some m∧KitM m∧∃k p,k<8∧ParOK p∧m=FN k p:=by
  obtain ⟨k,p,hk,hp,hm⟩:=WX n
  exact ⟨_,hm,⟨⟨gN hp,(HW k p.r).1⟩,kR hk hp⟩,k,p,hk,hp,rfl⟩
theorem KitM.chk {m:Map}(K:KitM m):Vv m=0:=chkR_zero.2 K.val
/-- Who is there. -/
def Y1 (s:State)(i:Int):Bool:=match C3 s.Agents i with
  |some g=> !g.Gone&&decide (g.Begin≤s.Tick)
  |none=>false
theorem PJ {α:Type}{l:List α}{i:Int}(h: ¬(0≤i∧i<l.length)):C3 l i=none:=by
  unfold C3
  by_cases h0:0≤i
  ·rw [bM h0]
   exact lJ (by omega)
  ·rw [bN h0]
theorem BF {α:Type}{l:List α}{i:Int}(h0:0≤i)(h1:i<l.length): ∃a,C3 l i=some a∧l[i.toNat]? =some a:=by
  have:l[i.toNat]? =some l[i.toNat]:=lH (by omega)
  exact ⟨_,by unfold C3;rw [bM h0];exact this,this⟩
theorem AM (s:State)(i:Int):Fb s i=some (Y1 s i)∧Kd s i=some (Y1 s i):=by
  unfold Fb Kd Y1
  by_cases h:0≤i∧i<s.Agents.length
  ·obtain ⟨g,hg,_⟩:=BF h.1 h.2
   rw [show (decide (i≥0)&&decide (i< (s.Agents.length:Int)))=true by simp only [bR,bH];exact h,bJ,hg,lB,lB]
   simp only [bJ,lB,bO]
   constructor
   ·cases g.Gone<;>simp
   ·by_cases q:g.Begin≤s.Tick<;>simp [q]
  ·rw [show (decide (i≥0)&&decide (i< (s.Agents.length:Int)))=false by rw [bW];simp only [ne_eq,bR,bH];exact h,PJ h]
   exact ⟨rfl,rfl⟩
theorem RH (k:Int):0≤(Gz k).1∧(Gz k).1≤2000∧0≤(Gz k).2.1∧(Gz k).2.1≤100∧0≤(Gz k).2.2∧(Gz k).2.2≤300:=by
  unfold Gz
  repeat' split
  all_goals simp
/-- What is known of an agent of a valid state. -/
structure AgentOK (m:Map)(s:State)(i:Int)(g:Agent):Prop where
  route: ∃a t,g.Route=a::t∧RouteOK m a t
  len:300≤g.Len∧g.Len≤20000
  begin:0≤g.Begin∧g.Begin≤1099511627776
  S:0≤g.S∧g.S≤LongM m g.Route+g.Len+2000
  V:0≤g.V∧g.V≤(UF m g).1
  gone:g.Gone=FO m g
  late: ¬(g.Begin>s.Tick∧g.S≠0)
  first:i=0→g.Begin=0
theorem agentM_zero {m:Map}{s:State}{i:Int}{g:Agent}:Ed m s i g=0↔AgentOK m s i g:=by
  unfold Ed
  constructor
  ·intro h
   by_cases q:P2 m g.Route=0
   ·rw [bM q]at h
    by_cases o:RG g=true∨g.S>LongM m g.Route+g.Len+2000
    ·rw [bM o]at h;cases h
    ·rw [bN o]at h
     by_cases v:g.V<0∨g.V>(UF m g).1
     ·rw [bM v]at h;cases h
     ·rw [bN v]at h
      by_cases z:g.Gone≠FO m g∨(g.Begin>s.Tick∧g.S≠0)∨(i=0∧g.Begin≠0)
      ·rw [bM z]at h;cases h
      ·obtain ⟨o1,o2,o3,o4,o5⟩:=MK (g:=g) (by cases hq:RG g<;>simp_all)
       refine ⟨chkRoute_zero.1 q,⟨o1,o2⟩,⟨o3,o4⟩,⟨o5,?_⟩,?_,?_,fun h=>z (.inr (.inl h)),fun h=> ?_⟩
       ·exact Int.not_lt.1 fun h=>o (.inr h)
       ·omega
       ·exact Classical.byContradiction fun h=>z (.inl h)
       ·exact Classical.byContradiction fun h'=>z (.inr (.inr ⟨h,h'⟩))
   ·rw [bN q]at h;cases h
  ·intro A
   have l:=A.len;have b:=A.begin;have S:=A.S;have V:=A.V
   rw [bM (chkRoute_zero.2 A.route),bN,bN,bN]
   ·rintro (h|h|h)
    ·exact h A.gone
    ·exact A.late h
    ·exact h.2 (A.first h.1)
   ·omega
   ·rintro (h|h)
    ·unfold RG at h
     simp only [bS,bH]at h
     omega
    ·omega
structure StateOK (m:Map)(s:State):Prop where
  tick:0≤s.Tick∧s.Tick≤1099511627776
  num:0<s.Agents.length∧s.Agents.length≤8
  agent: ∀(i:Nat) g,s.Agents[i]? =some g→AgentOK m s (i:Int) g
  ins: ∀(i:Nat) x,s.In[i]? =some x→Xx m s x=false
  sorted: ∀(i:Nat) x y,s.In[i]? =some x→s.In[i+1]? =some y→Rn x y=true
  rank: ∀x∈s.In,Uh s x=false
theorem BG {m:Map}(K:KitM m){s:State}:HA m s=0↔StateOK m s:=by
  unfold HA
  rw [bM K.chk]
  constructor
  ·intro h
   by_cases t:s.Tick<0∨s.Tick>1099511627776
   ·rw [bM t]at h;cases h
   rw [bN t]at h
   by_cases n0:s.Agents.length=0
   ·rw [bM n0]at h;cases h
   rw [bN n0]at h
   by_cases n8:8<s.Agents.length
   ·rw [bM n8]at h;cases h
   rw [bN n8]at h
   cases ha:J6 (fun i g=>if Ed m s (i:Int) g=0 then none else some (Ed m s (i:Int) g)) 0 s.Agents with
   |some e=>
    rw [ha]at h
    have: ∀(l:List Agent) (i:Nat),J6 (fun i g=>if Ed m s (i:Int) g=0 then none else some (Ed m s (i:Int) g)) i l=some e→e≠0:=by
      intro l
      induction l with
      |nil=>intro i h;cases h
      |cons a l ih=>
       intro i h
       unfold J6 at h
       by_cases z:Ed m s (i:Int) a=0
       ·rw [bM z]at h;exact ih _ h
       ·rw [bN z]at h;cases h;exact z
    exact absurd h (this _ _ ha)
   |none=>
    rw [ha]at h
    cases hi:J6 (cQ m s) 0 s.In with
    |some e=>
     rw [hi]at h
     have: ∀(l:List Stay) (i:Nat),J6 (cQ m s) i l=some e→e≠0:=by
       intro l
       induction l with
       |nil=>intro i h;cases h
       |cons a l ih=>
        intro i h
        unfold J6 at h
        cases z:cQ m s i a with
        |none=>rw [z]at h;exact ih _ h
        |some e'=>
         rw [z]at h;cases h
         unfold cQ at z
         split at z
         ·cases z;decide
         ·cases z
     exact absurd h (this _ _ hi)
    |none=>
     rw [hi]at h
     have ha':=firstE_none.1 ha
     have hi':=firstE_none.1 hi
     simp only [wG]at ha' hi'
     have hin: ∀(i:Nat) x,s.In[i]? =some x→¬(Xx m s x=true∨(0<i∧∃y,s.In[i - 1]? =some y∧Rn y x=false)):=by
       intro i x hx q
       have:=hi' i x hx
       unfold cQ at this
       rw [bM q]at this;cases this
     have hr:s.In.any (Uh s)=false:=by
       cases q:s.In.any (Uh s)with
       |false=>rfl
       |true=>rw [q]at h;cases h
     refine ⟨by omega,by omega,fun i g hg=>agentM_zero.1 ?_,fun i x hx=> ?_,fun i x y hx hy=> ?_,fun x hx=> ?_⟩
     ·have:=ha' i g hg
      by_cases z:Ed m s (i:Int) g=0
      ·exact z
      ·rw [bN z]at this;cases this
     ·have:=hin i x hx
      cases q:Xx m s x with
      |false=>rfl
      |true=>exact absurd (.inl q) this
     ·have:=hin (i+1) y hy
      cases q:Rn x y with
      |true=>rfl
      |false=>exact absurd (.inr ⟨by omega,x,hx,q⟩) this
     ·have:=List.any_eq_false.1 hr x hx
      simpa using this
  ·intro O
   have t:=O.tick;have n:=O.num
   rw [bN (by omega),bN (by omega),bN (by omega)]
   rw [firstE_none.2 fun i g hg=>by rw [wG,bM (agentM_zero.2 (O.agent i g hg))]]
   rw [firstE_none.2 fun i x hx=> ?_]
   ·dsimp only
    rw [bN]
    intro h
    obtain ⟨x,x1,x2⟩:=l7.1 h
    rw [O.rank x x1]at x2;cases x2
   ·rw [wG]
    unfold cQ
    rw [bN]
    rintro (h|⟨h0,y,y1,y2⟩)
    ·rw [O.ins i x hx]at h;cases h
    ·have:=O.sorted (i - 1) y x y1 (by rw [show i - 1+1=i by omega];exact hx)
     rw [this]at y2;cases y2
theorem AgentOK.bd {m:Map}{s:State}{i:Int}{g:Agent}(A:AgentOK m s i g):1000≤LongM m g.Route∧LongM m g.Route≤134217728:=by
  obtain ⟨a,t,h,R⟩:=A.route
  rw [h];exact Qx R
def CL (g:Agent):Bool:=(((decide (g.S≥0))&& (decide (g.S≤1099511627776)))&& (decide (g.Len≥0)))&& (decide (g.Len≤1099511627776))
def Lg (m:Map)(r:List Int):List Pass:=(V0 m r).getD []
theorem cE {m:Map}(B:BearK m)(r:List Int)(hr:r.length≤1000000):V0 m r=some (Lg m r)∧Fj m r=some (Lg m r)∧(Lg m r).length≤16:=by
  obtain ⟨ps,h1,h2,h3⟩:=XE B r hr
  unfold Lg
  rw [h1,h2]
  exact ⟨rfl,rfl,h3⟩
def Ve (g g':Agent)(z:Int)(p:Pass):Bool:=((p.Zone_==z)&&decide (p.From≤g'.S))&&decide (D8 (g.S - g.Len)≤p.To)
/-- Whether an agent is present in a zone during a tick. -/
def Iv (m:Map)(g g':Agent)(z:Int):Bool:=(CL g&&CL g')&& (Lg m g.Route).any (Ve g g' z)
theorem DP {m:Map}(B:BearK m){g g':Agent}(hr:g.Route.length≤1000)(z:Int):Dh m g g' z=some (Iv m g g' z)∧Fw m g g' z=some (Iv m g g' z):=by
  obtain ⟨p1,p2,p3⟩:=cE B g.Route (by omega)
  have s1: ∀g,Ms g=some (CL g):=fun _=>rfl
  have s2: ∀g,Mt g=some (CL g):=fun _=>rfl
  have hc:G1 (Lg m g.Route) z ⟨D8 (g.S - g.Len),g'.S⟩=some ((Lg m g.Route).any (Ve g g' z)):=by
    unfold G1 I5
    refine Ry _ (Ve g g' z) _ (by omega) (fun i x hx=> ?_) (by unfold K9;rw [J3];rfl)
    unfold K9 Gg
    rw [K7 (I7 hx),D0 hx,bJ,lB,lB]
    show cond (Ve g g' z x) _ _=_
    cases Ve g g' z x<;>rfl
  have hd:thenS (loop (Dp g g' z (Lg m g.Route)) 0) (fun _=>some false) (fun r=>some r)=some ((Lg m g.Route).any (Ve g g' z)):=by
    rw [HT (Lg m g.Route) (Ve g g' z) true (fun i x hx=> ?_) (by unfold Dp;rw [J3];rfl)]
    ·cases (Lg m g.Route).any (Ve g g' z)<;>rfl
    ·unfold Dp Ve
     rw [K7 (I7 hx),D0 hx,bJ,lB,H8 (I7 hx) (by omega)]
     by_cases q1:x.Zone_=z
     ·rw [show (x.Zone_==z)=true by simpa using q1,bJ,lB,bO]
      by_cases q2:D8 (g.S - g.Len)≤x.To
      ·rw [bF q2,bJ,lB,bO,bP]
       by_cases q3:x.From≤g'.S
       ·rw [bF (show g'.S≥x.From from q3)];rfl
       ·rw [bG (show ¬g'.S≥x.From from q3)];rfl
      ·rw [bG q2,Bool.and_false];rfl
     ·rw [show (x.Zone_==z)=false by simpa using q1];rfl
  unfold Dh Fw Iv
  rw [s1,s2,lB,lB]
  cases hs:CL g
  ·exact ⟨rfl,rfl⟩
  ·rw [bT,bU,bJ,bJ,s1,s2,lB,lB]
   cases hs':CL g'
   ·exact ⟨rfl,rfl⟩
   ·simp only [bT,Bool.or_self,bK,bO]
    constructor
    ·show (Cq g).bind _=_
     unfold Cq
     rw [lB,p1,lB,hc];rfl
    ·show (Fj m g.Route).bind _=_
     rw [p2,lB,hd]
/-! ### The entry, and the rank -/
theorem YU {α:Type}{P:α→Bool}{l:List α}(h:0≤GV P l): ∃x,l[(GV P l).toNat]? =some x∧P x=true∧l.find? P=some x:=by
  unfold GV at h ⊢
  cases hq:l.findIdx? P with
  |none=>rw [hq]at h;exact absurd h (by simp)
  |some i=>
   obtain ⟨h1,h2,h3⟩:=List.findIdx?_eq_some_iff_getElem.1 hq
   refine ⟨l[i],by rw [wB];exact lH h1,h2,?_⟩
   exact List.find?_eq_some_iff_getElem.2 ⟨h2,i,h1,rfl,fun j hj=>by simpa using h3 j hj⟩
theorem cF {m:Map}{r:List Int}{z:Int}(h:0≤Eo m r z): ∃zn l,0≤z∧m.Zones[z.toNat]? =some zn∧P2 m r=0∧r[(Eo m r z).toNat]? =some l∧(Ng zn l).2=true:=by
  unfold Eo at h ⊢
  cases hz:m.Zones[z.toNat]? with
  |none=>rw [hz]at h;exact absurd h (by simp)
  |some zn=>
   rw [hz]at h
   dsimp only at h ⊢
   by_cases q:0≤z∧P2 m r=0
   ·rw [bM q]at h ⊢
    obtain ⟨l,h1,h2,_⟩:=YU h
    exact ⟨zn,l,q.1,rfl,q.2,h1,h2⟩
   ·rw [bN q]at h;exact absurd h (by simp)
/-- The lane on which a route enters a zone; -1 if it does not. -/
def Mg (m:Map)(r:List Int)(z:Int):Int:=if 0≤Eo m r z then r.getD (Eo m r z).toNat 0 else -1
theorem FP {m:Map}{r:List Int}{z:Int}(h:0≤Eo m r z): ∃zn,0≤z∧m.Zones[z.toNat]? =some zn∧r[(Eo m r z).toNat]? =some (Mg m r z)∧(Ng zn (Mg m r z)).2=true∧0≤Mg m r z:=by
  obtain ⟨zn,l,h0,h1,h2,h3,h4⟩:=cF h
  have e:Mg m r z=l:=by unfold Mg;rw [bM h,List.getD,h3];rfl
  obtain ⟨a,t,rfl,R⟩:=chkRoute_zero.1 h2
  have:=R.mem (lG h3)
  rw [e]
  exact ⟨zn,h0,h1,h3,h4,this.1⟩
theorem cG {m:Map}(B:BearM m){r:List Int}(hr:r.length≤1000000)(z:Int):Di m r z=some (Mg m r z):=by
  unfold Di
  rw [gS B r hr,lB]
  by_cases q:0≤Eo m r z
  ·obtain ⟨zn,_,_,h3,_⟩:=FP q
   have hg:=D0 h3
   rw [wC q]at hg
   rw [bF (show Eo m r z≥0 from q),bJ,hg];rfl
  ·rw [bG (show ¬Eo m r z≥0 from q)]
   unfold Mg;rw [bN q];rfl
/-- The rank of an agent in a zone. -/
def IB (m:Map)(r:List Int)(z tick:Int):Int:=
  if 0≤Eo m r z then
   match m.Zones[z.toNat]? with
   |some zn=>if zn.Signal_>0 then (if GX m (zn.Signal_ - 1) (Mg m r z) tick=true then 2 else 0)else (Ng zn (Mg m r z)).1.Rank
   |none=>0
  else 0
theorem mE {m:Map}(K:KitM m){g:Agent}(hr:g.Route.length≤1000)(z tick:Int):Hy m g z tick=some (IB m g.Route z tick)∧Tn m g z tick=some (IB m g.Route z tick):=by
  have B:=K.toBearM
  have hr':g.Route.length≤1000000:=by omega
  unfold Hy Tn IB
  rw [cG B hr',GZ B _ hr',lB,lB]
  by_cases q:0≤Eo m g.Route z
  case neg=>
    rw [bN q,bF (show Eo m g.Route z<0 by omega)]
    have:Mg m g.Route z= -1:=by unfold Mg;rw [bN q]
    rw [this]
    exact ⟨rfl,rfl⟩
  obtain ⟨zn,h0,h1,h3,h4,h5⟩:=FP q
  have hz:=D0 h1
  rw [wC h0]at hz
  have hg:=D0 h3
  rw [wC q]at hg
  have Z:=K.val.zoneOK (lG h1)
  have hS:=Z.sig
  have hsl:=K.val.signals
  have hp:=B.toBearZ.parts zn (lG h1)
  rw [bM q,h1,bG (show ¬Mg m g.Route z<0 by omega),bG (show ¬Eo m g.Route z<0 by omega),bK,bK,hz,lB,lB]
  dsimp only
  by_cases s:zn.Signal_>0
  ·rw [bM s,bF s,F8 (by omega),gU B,hg]
   simp only [lB,bJ,aW B,bO]
   cases GX m (zn.Signal_ - 1) (Mg m g.Route z) tick<;>exact ⟨rfl,rfl⟩
  ·rw [bN s,bG s,bK,bK,lB,bQ,bK]
   have hany:zn.Parts.any (fun p=>p.Lane_==Mg m g.Route z)=true:=by
     unfold Ng at h4
     cases hf:zn.Parts.find? (fun p=>p.Lane_==Mg m g.Route z)with
     |none=>rw [hf]at h4;cases h4
     |some p=>
      exact l7.2 ⟨p,List.mem_of_find?_eq_some hf,List.find?_some (p:=fun p:Part=>p.Lane_==Mg m g.Route z) hf⟩
   have hidx:0≤GV (fun p:Part=>p.Lane_==Mg m g.Route z) zn.Parts:=by
     have:=Vt (fun p:Part=>p.Lane_==Mg m g.Route z) zn.Parts
     rw [hany]at this
     simpa using this
   obtain ⟨p,p1,p2,p3⟩:=YU hidx
   have hpr:(Ng zn (Mg m g.Route z)).1.Rank=p.Rank:=by unfold Ng;rw [p3]
   constructor
   ·have e:I4 zn.Parts (Mg m g.Route z)=some (GV (fun p:Part=>p.Lane_==Mg m g.Route z) zn.Parts):=by
      unfold I4
      refine Tt zn.Parts (fun p:Part=>p.Lane_==Mg m g.Route z) (by omega) (fun i a h=> ?_) (by unfold M5;rw [J3];rfl)
      unfold M5 Oc
      rw [K7 (I7 h),D0 h,bJ,lB,lB]
      cases a.Lane_==Mg m g.Route z<;>rfl
    have hgp:=D0 p1
    rw [wC hidx]at hgp
    rw [e,lB,hgp,lB,hpr]
   ·have key: ∀(l:List Part) (i:Nat),zn.Parts.drop i=l→i≤zn.Parts.length→thenS (loop (Fy g (Eo m g.Route z) zn) (i:Int)) (fun _=>some 0) (fun r=>some r)=some (match l.find? (fun p=>p.Lane_==Mg m g.Route z)with|some p=>p.Rank|none=>0):=by
      intro l
      induction l with
      |nil=>
       intro i hi hil
       have:=O5 hi
       obtain rfl:i=zn.Parts.length:=by omega
       rw [D2 (t:= .inl ()) (by unfold Fy;rw [J3];rfl)];rfl
      |cons x l ih=>
       intro i hi hil
       have hx:=W7 hi
       have hlt:=M9 hi
       rw [List.find?_cons]
       cases hq:x.Lane_==Mg m g.Route z with
       |true=>
        rw [D2 (t:= .inr x.Rank) (by unfold Fy;rw [K7 hlt,D0 hx,bJ,lB,hg,lB,hq,bJ,lB])];rfl
       |false=>
        rw [J9 (s':=((i+1:Nat):Int)) (by unfold Fy;rw [K7 hlt,D0 hx,bJ,lB,hg,lB,hq,bK,H8 hlt (by omega)])]
        exact ih (i+1) (K0 hi) hlt
    have:=key zn.Parts 0 rfl (wE _)
    rw [p3]at this
    rw [show ((0:Nat):Int)=0 from rfl]at this
    rw [bK,this,hpr]
/-! ### Stays -/
def mF (i z:Int)(x:Stay):Bool:=x.Agent_==i&&x.Zone_==z
def qH (l:List Stay):Prop:=l.Pairwise fun a b=>Rn a b=true
theorem oP {S α β τ:Type}{F:S→Option (Stp S τ)}(pk:Nat→List β→S)(l:List α)(g:Nat→α→Option β)(fin:List β→τ)(s0:List β)(B:Nat){S0:S}(hS:pk 0 s0=S0)(hB:s0.length+l.length≤B)
    (hF: ∀(i:Nat) a (s:List β),l[i]? =some a→s.length+1≤B→F (pk i s)=some (.go (pk (i+1) (match g i a with|some b=>s++ [b]|none=>s))))
    (h0: ∀s,F (pk l.length s)=some (.out (fin s))):loop F S0=some (fin (s0++Ci g 0 l)):=by
  have:=YO (F:=F) pk l (fun i s=>s.length≤s0.length+i) (fun i s a=>match g i a with|some b=>s++ [b]|none=>s) fin (s0:=s0) (S0:=S0) hS (by simp) (fun i a s h hs=>hF i a s h (by have:=(lI.1 h).1;omega)) (fun i a s _ hs=>by
    cases g i a<;>simp<;>omega) (fun s _=>h0 s)
  exact this.trans (congrArg (fun x=>some (fin x)) (DK g l 0 s0))
theorem oQ {S α β τ:Type}{F:S→Option (Stp S τ)}(pk:Nat→List β→S)(l:List α)(g:Nat→α→List β)(fin:List β→τ)(s0:List β)(C B:Nat){S0:S}(hS:pk 0 s0=S0)(hB:s0.length+l.length*C≤B)(hC: ∀(i:Nat) a,l[i]? =some a→(g i a).length≤C)
    (hF: ∀(i:Nat) a (s:List β),l[i]? =some a→s.length+C≤B→F (pk i s)=some (.go (pk (i+1) (s++g i a))))
    (h0: ∀s,F (pk l.length s)=some (.out (fin s))):loop F S0=some (fin (s0++Oq g 0 l)):=by
  have key: ∀(r:List α) (i:Nat) (s:List β),Xt (fun i s a=>s++g i a) i s r=s++Oq g i r:=by
    intro r
    induction r with
    |nil=>intro i s;simp [Xt,Oq]
    |cons a r ih=>intro i s;simp [Xt,Oq,ih]
  have:=YO (F:=F) pk l (fun i s=>s.length≤s0.length+i*C) (fun i s a=>s++g i a) fin (s0:=s0) (S0:=S0) hS (by simp) (fun i a s h hs=>hF i a s h (by
    have h1:=(lI.1 h).1
    have h2:(i+1)*C≤l.length*C:=Nat.mul_le_mul_right C h1
    rw [wF,Nat.one_mul]at h2;omega)) (fun i a s h hs=>by
    have h3:=hC i a h
    rw [lM,wF,Nat.one_mul];omega) (fun s _=>h0 s)
  exact this.trans (congrArg (fun x=>some (fin x)) (key l 0 s0))
/-- Present at both ends of a tick. -/
def IC (m:Map)(s:State)(A:List Agent)(i z:Int):Bool:=Y1 s i&& (match C3 s.Agents i,C3 A i with
  |some g,some g'=>Iv m g g' z
  |_,_=>false)
theorem ML {s:State}{i:Int}(h:Y1 s i=true): ∃g,C3 s.Agents i=some g∧s.Agents[i.toNat]? =some g∧0≤i∧i<s.Agents.length∧g.Gone=false∧g.Begin≤s.Tick:=by
  unfold Y1 at h
  by_cases q:0≤i∧i<s.Agents.length
  ·obtain ⟨g,h1,h2⟩:=BF q.1 q.2
   rw [h1]at h
   dsimp only at h
   rw [bR,bH]at h
   exact ⟨g,h1,h2,q.1,q.2,by simpa using h.1,h.2⟩
  ·rw [PJ q]at h;cases h
/-- The stay of who is present. -/
def cR (m:Map)(s:State)(i z:Int):Stay:=match s.In.find? (mF i z)with
  |some x=>x
  |none=>⟨i,z,s.Tick,match C3 s.Agents i with|some g=>IB m g.Route z s.Tick|none=>0⟩
theorem YV (m:Map)(s:State)(i z:Int):(cR m s i z).Agent_=i∧(cR m s i z).Zone_=z:=by
  unfold cR
  cases h:s.In.find? (mF i z)with
  |none=>exact ⟨rfl,rfl⟩
  |some x=>
   have:=List.find?_some h
   unfold mF at this
   simpa using this
def ID (m:Map)(s:State)(A:List Agent)(i:Nat)(z:Nat)(_:Zone):Option Stay:=if IC m s A i z=true then some (cR m s i z)else none
def Xf (m:Map)(s:State)(A:List Agent)(i:Nat)(_:Agent):List Stay:=Ci (ID m s A i) 0 m.Zones
/-- The stays after a tick. -/
def Pu (m:Map)(s:State)(A:List Agent):List Stay:=Oq (Xf m s A) 0 s.Agents
theorem MM (m:Map)(s:State)(A:List Agent)(i:Nat)(a:Agent):(Xf m s A i a).length≤m.Zones.length:=Vu _ _ _
theorem Dq {α β:Type}{g:Nat→α→Option β}{b:β}: ∀(l:List α) (k:Nat),b∈Ci g k l↔∃(i:Nat) (a:α),l[i]? =some a∧g (k+i) a=some b
  | [],k=>by simp [Ci]
  |a::r,k=>by
   have ih:=Dq (g:=g) (b:=b) r (k+1)
   have e:(∃(i:Nat) (a':α),(a::r)[i]? =some a'∧g (k+i) a'=some b)↔g k a=some b∨∃(i:Nat) (a':α),r[i]? =some a'∧g (k+1+i) a'=some b:=by
     constructor
     ·rintro ⟨i,a',h1,h2⟩
      cases i with
      |zero=>simp at h1;subst h1;exact .inl h2
      |succ i=>exact .inr ⟨i,a',by simpa using h1,by rw [show k+1+i=k+ (i+1) by omega];exact h2⟩
     ·rintro (h|⟨i,a',h1,h2⟩)
      ·exact ⟨0,a,rfl,h⟩
      ·exact ⟨i+1,a',by simpa using h1,by rw [show k+ (i+1)=k+1+i by omega];exact h2⟩
   rw [e,Ci]
   cases hg:g k a with
   |none=>simp [ih]
   |some c=>simp [ih,eq_comm]
theorem Sk {α β:Type}{g:Nat→α→List β}{b:β}: ∀(l:List α) (k:Nat),b∈Oq g k l↔∃(i:Nat) (a:α),l[i]? =some a∧b∈g (k+i) a
  | [],k=>by simp [Oq]
  |a::r,k=>by
   have ih:=Sk (g:=g) (b:=b) r (k+1)
   rw [Oq,lT,ih]
   constructor
   ·rintro (h|⟨i,a',h1,h2⟩)
    ·exact ⟨0,a,rfl,h⟩
    ·exact ⟨i+1,a',by simpa using h1,by rw [show k+ (i+1)=k+1+i by omega];exact h2⟩
   ·rintro ⟨i,a',h1,h2⟩
    cases i with
    |zero=>simp at h1;subst h1;exact .inl h2
    |succ i=>exact .inr ⟨i,a',by simpa using h1,by rw [show k+1+i=k+ (i+1) by omega];exact h2⟩
theorem stays_mem {m:Map}{s:State}{A:List Agent}{x:Stay}:x∈Pu m s A↔∃i z:Nat,i<s.Agents.length∧z<m.Zones.length∧IC m s A i z=true∧x=cR m s i z:=by
  unfold Pu
  rw [Sk]
  constructor
  ·rintro ⟨i,a,h1,h2⟩
   unfold Xf at h2
   rw [Dq]at h2
   obtain ⟨z,zn,h3,h4⟩:=h2
   unfold ID at h4
   rw [wG,wG]at h4
   split at h4
   ·rename_i h5
    cases h4
    exact ⟨i,z,I7 h1,I7 h3,h5,rfl⟩
   ·cases h4
  ·rintro ⟨i,z,h1,h2,h3,rfl⟩
   refine ⟨i,s.Agents[i],lH h1,?_⟩
   unfold Xf
   rw [Dq]
   refine ⟨z,m.Zones[z],lH h2,?_⟩
   unfold ID
   rw [wG,wG,bM h3]
theorem MN {α β:Type}{g:Nat→α→Option β}{R:β→β→Prop}(h: ∀i j a a' b b',i<j→g i a=some b→g j a'=some b'→R b b'): ∀(l:List α) (k:Nat),(Ci g k l).Pairwise R
  | [],k=>List.Pairwise.nil
  |a::r,k=>by
   have ih:=MN h r (k+1)
   rw [Ci]
   cases hg:g k a with
   |none=>exact ih
   |some b=>
    refine bB.2 ⟨fun b' hb'=> ?_,ih⟩
    obtain ⟨i,a',_,h2⟩:=(Dq r (k+1)).1 hb'
    exact h k (k+1+i) a a' b b' (by omega) hg h2
theorem MO {α β:Type}{g:Nat→α→List β}{R:β→β→Prop}(h0: ∀i a,(g i a).Pairwise R)(h: ∀i j a a' b b',i<j→b∈g i a→b'∈g j a'→R b b'): ∀(l:List α) (k:Nat),(Oq g k l).Pairwise R
  | [],k=>List.Pairwise.nil
  |a::r,k=>by
   rw [Oq]
   refine List.pairwise_append.2 ⟨h0 k a,MO h0 h r (k+1),fun b hb b' hb'=> ?_⟩
   obtain ⟨i,a',_,h2⟩:=(Sk r (k+1)).1 hb'
   exact h k (k+1+i) a a' b b' (by omega) hb h2
theorem XF (m:Map)(s:State)(A:List Agent):qH (Pu m s A):=by
  have key: ∀(i z:Nat) zn b,ID m s A i z zn=some b→b.Agent_=(i:Int)∧b.Zone_=(z:Int):=by
    intro i z zn b h
    unfold ID at h
    split at h
    ·cases h;exact YV m s i z
    ·cases h
  refine MO (fun i a=>MN (fun z z' _ _ b b' hz h1 h2=> ?_) _ _) (fun i j a a' b b' hij h1 h2=> ?_) _ _
  ·have k1:=key i z _ b h1
   have k2:=key i z' _ b' h2
   unfold Rn
   rw [k1.1,k1.2,k2.1,k2.2]
   simp [hz]
  ·unfold Xf at h1 h2
   obtain ⟨z,zn,_,h1⟩:=(Dq _ _).1 h1
   obtain ⟨z',zn',_,h2⟩:=(Dq _ _).1 h2
   have k1:=key i _ zn b h1
   have k2:=key j _ zn' b' h2
   unfold Rn
   rw [k1.1,k2.1]
   simp only [bS,bH,bR,bX]
   omega
theorem PK (m:Map)(s:State)(A:List Agent):(Pu m s A).length≤s.Agents.length*m.Zones.length:=GY _ _ _ _ fun _ _ _=>MM _ _ _ _ _
theorem XG {m:Map}{s:State}{A:List Agent}{i:Nat}(h:Y1 s i=false)(a:Agent):Xf m s A i a= []:=by
  apply List.eq_nil_iff_forall_not_mem.2
  intro x hx
  unfold Xf at hx
  obtain ⟨z,zn,_,h2⟩:=(Dq _ _).1 hx
  unfold ID IC at h2
  rw [h,bQ,bN (by simp)]at h2
  cases h2
theorem XH {m:Map}(B:BearK m){r:List Int}(hr:r.length≤1000000){p:Pass}(hp:p∈Lg m r):0≤Eo m r p.Zone_:=by
  unfold Lg at hp
  by_cases q:P2 m r=0
  ·obtain ⟨a,t,rfl,R⟩:=chkRoute_zero.1 q
   obtain ⟨ps,p1,p2,_⟩:=PG B R
   rw [p1]at hp
   obtain ⟨i,lane,j,z,k,pt,h1,h2,h3,h4,rfl⟩:=BE m (a::t) 0 p (p2.mem_iff.1 hp)
   unfold Eo
   dsimp only
   rw [wB,h2]
   dsimp only
   rw [bM ⟨by omega,q⟩]
   have hz:(Ng z lane).2=true:=by
     unfold Ng
     cases hf:z.Parts.find? (fun p=>p.Lane_==lane)with
     |some _=>rfl
     |none=>
      have:=List.find?_eq_none.1 hf pt (lG h3)
      exact absurd (by simpa using h4) this
   have h5:=Vt (fun l=>(Ng z l).2) (a::t)
   rw [show ((a::t).any fun l=>(Ng z l).2)=true from l7.2 ⟨lane,lG h1,hz⟩]at h5
   exact bI h5
  ·have h1:loop (O2 m (X2 m r)) ([],0)=some []:=by
     refine D2 ?_
     unfold O2
     rw [Ub q];rfl
   have:V0 m r=some []:=by
     unfold V0
     rw [Pt B.toBearM r hr,lB,h1,lB,DN];rfl
   rw [this]at hp
   cases hp
theorem CM {m:Map}(B:BearK m){g g':Agent}(hr:g.Route.length≤1000){z:Int}(h:Iv m g g' z=true):0≤Eo m g.Route z:=by
  unfold Iv at h
  rw [bR]at h
  obtain ⟨p,h1,h2⟩:=l7.1 h.2
  unfold Ve at h2
  simp only [bR,bX]at h2
  rw [← h2.1.1]
  exact XH B (by omega) h1
/-! ### Along a lane -/
/-- Two agents in a tick: what is known of them. -/
structure Two (m:Map)(s:State)(A:List Agent)(i j:Int)(gi gj gi' gj':Agent):Prop where
  hi:C3 s.Agents i=some gi
  hj:C3 s.Agents j=some gj
  hi':C3 A i=some gi'
  hj':C3 A j=some gj'
  ti:Y1 s i=true
  tj:Y1 s j=true
  ri:gi.Route.length≤1000
  rj:gj.Route.length≤1000
  oi: ∃a t,gi.Route=a::t∧RouteOK m a t
  oj: ∃a t,gj.Route=a::t∧RouteOK m a t
def DQ (m:Map)(s:State)(A:List Agent)(i j:Int)(gi gj:Agent)(z:Int):Bool:=(IC m s A i z&&IC m s A j z)&& (Mg m gi.Route z !=Mg m gj.Route z)
def DR (m:Map)(s:State)(A:List Agent)(i j:Int)(gi gj:Agent):List Int:=Ci (fun z (_:Zone)=>if DQ m s A i j gi gj z=true then some (z:Int)else none) 0 m.Zones
theorem cH {m:Map}(B:BearK m){s s':State}{A:List Agent}(hA:s'.Agents=A){i j:Int}{gi gj gi' gj':Agent}(T:Two m s A i j gi gj gi' gj'):Qu m s s' i j=some (DR m s A i j gi gj):=by
  have h2:=B.zones2
  have e:loop (Gw m s s' i j) ([],0)=some (DR m s A i j gi gj):=by
    refine GW m.Zones (fun z (_:Zone)=>if DQ m s A i j gi gj z=true then some (z:Int)else none) id (fun z zn l hz hb=> ?_) (fun l=> ?_)
    ·have ec:DQ m s A i j gi gj (z:Int)=((Iv m gi gi' (z:Int)&&Iv m gj gj' (z:Int))&& (Mg m gi.Route (z:Int) !=Mg m gj.Route (z:Int))):=by
       unfold DQ IC
       rw [T.hi,T.hj,T.hi',T.hj',T.ti,T.tj,bO,bO]
     have hno:DQ m s A i j gi gj (z:Int)=false→(if DQ m s A i j gi gj (z:Int)=true then some (z:Int)else none)=none:=fun h=>bN (by rw [h];simp)
     unfold Gw
     dsimp only
     rw [K7 (I7 hz),bJ,hA,T.hi,lB,T.hj,lB,T.hi',lB,(DP B T.ri z).2,lB,H8 (I7 hz) (by omega),T.hj']
     cases h1:Iv m gi gi' (z:Int)
     ·rw [hno (by rw [ec,h1];rfl)];rfl
     ·simp only [bT,bU,bJ,bK,lB,bV,bO]
      rw [(DP B T.rj z).2,lB]
      cases h3:Iv m gj gj' (z:Int)
      ·rw [hno (by rw [ec,h1,h3];rfl)];rfl
      ·have q1:=CM B T.ri h1
       have q2:=CM B T.rj h3
       obtain ⟨_,_,_,g1,_⟩:=FP q1
       obtain ⟨_,_,_,g2,_⟩:=FP q2
       have g1:=D0 g1
       have g2:=D0 g2
       rw [wC q1]at g1
       rw [wC q2]at g2
       rw [bT,bK,GZ B.toBearM _ (by have:=T.ri;omega),lB,g1,lB,GZ B.toBearM _ (by have:=T.rj;omega),lB,g2,lB]
       cases e:(Mg m gi.Route (z:Int) !=Mg m gj.Route (z:Int))
       ·rw [hno (by rw [ec,h1,h3,e];rfl)];rfl
       ·rw [bM (show DQ m s A i j gi gj (z:Int)=true by rw [ec,h1,h3,e];rfl),bJ,Am,bM (by have:=I7 hz;simp;omega)];rfl
    ·unfold Gw
     dsimp only
     rw [J3];rfl
  unfold Qu
  rw [e];rfl
theorem oR {m:Map}{s:State}(O: ∀g∈s.Agents,∃a t,g.Route=a::t∧RouteOK m a t)(S:SizeS s){A:List Agent}(hA:A.length=s.Agents.length){i j:Int}(hi:Y1 s i=true)(hj:Y1 s j=true): ∃gi gj gi' gj',Two m s A i j gi gj gi' gj':=by
  obtain ⟨gi,a1,a2,a3,a4,_⟩:=ML hi
  obtain ⟨gj,b1,b2,b3,b4,_⟩:=ML hj
  obtain ⟨gi',c1,_⟩:=BF (l:=A) a3 (by omega)
  obtain ⟨gj',d1,_⟩:=BF (l:=A) b3 (by omega)
  have mi:=lG a2
  have mj:=lG b2
  exact ⟨gi,gj,gi',gj',a1,b1,c1,d1,hi,hj,S.routes gi mi,S.routes gj mj,O gi mi,O gj mj⟩
def IY (s:State)(i:Nat):Nat→Nat→List (Int×Int)
  |0,_=> []
  |k+1,j=>cond (Y1 s i&&Y1 s j) (((i:Int),(j:Int))::IY s i k (j+1)) (IY s i k (j+1))
def CN (s:State)(n:Nat):Nat→Nat→List (Int×Int)
  |0,_=> []
  |k+1,i=>IY s i (n - (i+1)) (i+1)++CN s n k (i+1)
def AN (m:Map)(g:Agent)(i:Nat)(st:Int):Option Span:=
  if max 0 (D8 (D8 (g.S - g.Len) - st))≤min (D8 (g.S - st)) (If m (g.Route.getD i 0))then some ⟨g.Route.getD i 0,max 0 (D8 (D8 (g.S - g.Len) - st)),min (D8 (g.S - st)) (If m (g.Route.getD i 0))⟩else none
/-- The spans of lanes that an agent covers. -/
def Y2 (m:Map)(g:Agent):List Span:=if CL g=true then Ci (AN m g) 0 (StartsM m g.Route)else []
theorem MP {m:Map}(r:List Int):(StartsM m r).length≤r.length:=by
  unfold StartsM X2
  split
  ·dsimp only;rw [Nh];exact wD _
  ·simp
theorem RI {m:Map}(B:BearM m){g:Agent}(hr:g.Route.length≤1000):Ft m g=some (Y2 m g)∧Pn m g=some (Y2 m g):=by
  have s1:Ms g=some (CL g):=rfl
  have s2:Mt g=some (CL g):=rfl
  have hsl:=MP (m:=m) g.Route
  have hrt: ∀(i:Nat) st,(StartsM m g.Route)[i]? =some st→C3 g.Route (i:Int)=some (g.Route.getD i 0):=fun i st h=>by
    have:=I7 h
    apply D0
    rw [List.getD,lH (by omega)];rfl
  have e1:loop (Br m g (StartsM m g.Route)) ([],0)=some (Ci (AN m g) 0 (StartsM m g.Route)):=by
    refine GW (StartsM m g.Route) (AN m g) id (fun i st l h hl=> ?_) (fun l=> ?_)
    ·have hi:=I7 h
     unfold Br AN
     dsimp only
     rw [K7 hi,bJ,D0 h,lB,hrt i st h,H8 hi (by omega)]
     simp only [lB,Cq,Cs,By,Z6,Xv B,Nu,Nv]
     rw [Int.max_comm 0]
     by_cases q:max (D8 (D8 (g.S - g.Len) - st)) 0≤min (D8 (g.S - st)) (If m (g.Route.getD i 0))
     ·rw [bM q,bG (by omega),bU,bJ,Am,bM (by simp;omega)];rfl
     ·rw [bN q,bF (by omega)];rfl
    ·unfold Br
     dsimp only
     rw [J3];rfl
  have e2:loop (Jh m g (StartsM m g.Route)) ([],0)=some (Ci (AN m g) 0 (StartsM m g.Route)):=by
    refine GW (StartsM m g.Route) (AN m g) id (fun i st l h hl=> ?_) (fun l=> ?_)
    ·have hi:=I7 h
     unfold Jh AN
     dsimp only
     rw [K7 hi,bJ,D0 h,lB,lB,hrt i st h,H8 hi (by omega)]
     simp only [lB,IW B,Nu,Nv]
     by_cases q:max 0 (D8 (D8 (g.S - g.Len) - st))≤min (D8 (g.S - st)) (If m (g.Route.getD i 0))
     ·rw [bM q,bF q,bJ,Am,bM (by simp;omega)];rfl
     ·rw [bN q,bG q];rfl
    ·unfold Jh
     dsimp only
     rw [J3];rfl
  unfold Ft Pn Y2
  rw [s1,s2,lB,lB]
  cases hs:CL g
  ·exact ⟨rfl,rfl⟩
  ·simp only [bT,bK,if_true]
   rw [PI B _ (by omega),Uc B _ (by omega),lB,lB,e1,e2]
   exact ⟨rfl,rfl⟩
theorem MQ (m:Map)(g:Agent):(Y2 m g).length≤g.Route.length:=by
  unfold Y2
  split
  ·exact wH (Vu _ _ _) (MP _)
  ·simp
theorem YW {m:Map}{g:Agent}{x:Span}(h:x∈Y2 m g):x.From≤x.To:=by
  unfold Y2 at h
  split at h
  ·obtain ⟨i,st,_,h⟩:=(Dq _ _).1 h
   unfold AN at h
   split at h
   ·cases h;assumption
   ·cases h
  ·cases h
def Wa (x y:Span):Bool:=((x.Lane_==y.Lane_)&&decide (x.From≤y.To))&&decide (y.From≤x.To)
def AO (m:Map)(g g':Agent):Bool:=(Y2 m g).any fun x=>(Y2 m g').any fun y=>Wa x y
theorem UK {m:Map}(B:BearM m){g g':Agent}(hr:g.Route.length≤1000)(hr':g'.Route.length≤1000):Bz m g g'=some (AO m g g')∧Kg m g g'=some (AO m g g'):=by
  obtain ⟨b1,b2⟩:=RI B hr
  obtain ⟨c1,c2⟩:=RI B hr'
  have l1:=MQ m g
  have l2:=MQ m g'
  constructor
  ·have inner: ∀x∈Y2 m g,F4 (Y2 m g') x=some ((Y2 m g').any fun y=>Wa x y):=by
     intro x hx
     unfold F4 H5
     refine Ry _ (fun y=>Wa x y) _ (by omega) (fun i y hy=> ?_) (by unfold K5;rw [J3];rfl)
     have o1:=YW hx
     have o2:=YW (lG hy)
     unfold K5 Fe
     rw [K7 (I7 hy),bJ,D0 hy,lB]
     simp only [By,Z6,Nu,Nv]
     unfold Wa
     by_cases e:x.Lane_=y.Lane_
     ·rw [e]
      simp only [beq_self_eq_true,bJ,lB,bO]
      by_cases q:x.From≤y.To∧y.From≤x.To
      ·rw [bF q.1,bF q.2,bG (by omega)];rfl
      ·rw [show (decide (x.From≤y.To)&&decide (y.From≤x.To))=false by rw [bW];simpa using q,bF (by omega)];rfl
     ·rw [show (x.Lane_==y.Lane_)=false by simpa using e];rfl
   have outer:G3 (Y2 m g) (Y2 m g')=some (AO m g g'):=by
     unfold G3 I6 AO
     refine Ry _ (fun x=>(Y2 m g').any fun y=>Wa x y) _ (by omega) (fun i x hx=> ?_) (by unfold G2;rw [J3];rfl)
     unfold G2 Y9
     rw [K7 (I7 hx),bJ,D0 hx,lB,inner x (lG hx)]
     simp only [lB]
     cases (Y2 m g').any fun y=>Wa x y<;>rfl
   unfold Bz
   rw [c1,lB,b1,lB,outer];rfl
  ·have inner: ∀(i:Nat) x,(Y2 m g)[i]? =some x→loop (Ce (Y2 m g) (Y2 m g') (i:Int)) 0=some (if (Y2 m g').any (fun y=>Wa x y)then .inr true else .inl ()):=by
     intro i x hx
     refine HT (Y2 m g') (fun y=>Wa x y) true (fun j y hy=> ?_) (by unfold Ce;rw [J3];rfl)
     unfold Ce Wa
     rw [K7 (I7 hy),bJ,D0 hx,lB,D0 hy,lB,H8 (I7 hy) (by omega)]
     cases e:(x.Lane_==y.Lane_)
     ·rfl
     ·simp only [bJ,lB,bO]
      cases e2:decide (x.From≤y.To)
      ·rfl
      ·simp only [bJ,lB,bO]
       cases decide (y.From≤x.To)<;>rfl
   have outer:loop (Cf (Y2 m g) (Y2 m g')) 0=some (if (Y2 m g).any (fun x=>(Y2 m g').any fun y=>Wa x y)then .inr true else .inl ()):=by
     refine HT (Y2 m g) (fun x=>(Y2 m g').any fun y=>Wa x y) true (fun i x hx=> ?_) (by unfold Cf;rw [J3];rfl)
     unfold Cf
     rw [K7 (I7 hx),bJ,inner i x hx,H8 (I7 hx) (by omega)]
     cases (Y2 m g').any fun y=>Wa x y<;>rfl
   unfold Kg AO
   rw [b2,lB,c2,lB,outer]
   cases (Y2 m g).any fun x=>(Y2 m g').any fun y=>Wa x y<;>rfl
/-- Two agents that may not begin together. -/
def FQ (m:Map)(s:State)(A:List Agent)(i j:Int):Bool:=match C3 s.Agents i,C3 s.Agents j with
  |some gi,some gj=>AO m gi gj||decide (0< (DR m s A i j gi gj).length)
  |_,_=>false
abbrev Mp:State:=⟨0,[],[]⟩
theorem XI {m:Map}(K:KitM m){A:List Agent}(S:SizeS ⟨0,A,[]⟩):loop (Ie m A) (0,(⟨0,A,[]⟩:State))=some ⟨0,A,Pu m ⟨0,A,[]⟩ A⟩:=by
  have hl:A.length≤1000:=S.agents
  have hz:=K.zones2
  refine oQ (fun i l=>((i:Int),(⟨0,A,l⟩:State))) A (Xf m ⟨0,A,[]⟩ A) (fun l=>(⟨0,A,l⟩:State)) [] 2 1000000 rfl (by simp;omega) (fun i a _=>wH (MM _ _ _ _ _) hz) (fun i g l h hb=> ?_) (fun l=> ?_)
  ·have hg:C3 A (i:Int)=some g:=D0 h
   have hr:g.Route.length≤1000:=S.routes g (lG h)
   have e:loop (Ic m A ((i:Int),(⟨0,A,l⟩:State))) (0,(⟨0,A,l⟩:State))=some ⟨0,A,l++Xf m ⟨0,A,[]⟩ A i g⟩:=by
     have th: ∀l',Y1 ⟨0,A,l'⟩ (i:Int)=Y1 ⟨0,A,[]⟩ (i:Int):=fun _=>rfl
     cases ht:Y1 ⟨0,A,[]⟩ (i:Int)
     ·rw [D2 (t:=(⟨0,A,l⟩:State)),XG ht,lP]
      unfold Ic
      dsimp only
      rw [(AM _ _).2,th,ht]
      cases decide ((0:Int)< (m.Zones.length:Int))<;>rfl
     ·refine oP (fun z l=>((z:Int),(⟨0,A,l⟩:State))) m.Zones (ID m ⟨0,A,[]⟩ A i) (fun l=>(⟨0,A,l⟩:State)) l 1000000 rfl (by omega) (fun z zn l' hz' hb'=> ?_) (fun l'=> ?_)
      ·unfold Ic ID
       dsimp only
       rw [K7 (I7 hz'),bJ,(AM _ _).2,lB,th,ht,bO,bJ,hg,lB,lB,(DP K.toBearK hr z).2,lB,H8 (I7 hz') (by omega)]
       have e:IC m ⟨0,A,[]⟩ A i z=Iv m g g z:=by
         unfold IC;rw [ht,bO];dsimp only;rw [hg]
       rw [e]
       cases hh:Iv m g g z
       ·rfl
       ·have es:cR m ⟨0,A,[]⟩ (i:Int) (z:Int)=⟨(i:Int),(z:Int),0,IB m g.Route z 0⟩:=by
          unfold cR
          simp only [List.find?_nil,hg]
        rw [bJ,lB,(mE K hr z 0).2,lB,Am,bM (by simp;omega),bM rfl,es];rfl
      ·unfold Ic
       dsimp only
       rw [J3];rfl
   unfold Ie
   dsimp only
   rw [K7 (I7 h),bJ,e,lB,H8 (I7 h) (by omega)]
  ·unfold Ie
   dsimp only
   rw [J3];rfl
theorem XJ {m:Map}(B:BearK m){s:State}(S:SizeS s)(O: ∀g∈s.Agents,∃a t,g.Route=a::t∧RouteOK m a t)(i:Nat): ∀(k j:Nat),j+k=s.Agents.length→
    loop (Ib m s.Agents ((i:Int),s)) (j:Int)=some (if (IY s i k j).any (fun p=>FQ m s s.Agents p.1 p.2)=true then .inr (Mp,12)else .inl ())
  |0,j,hj=>by
   obtain rfl:j=s.Agents.length:=by omega
   rw [D2 (t:= .inl ()) (by unfold Ib;rw [J3];rfl)];rfl
  |k+1,j,hj=>by
   have hjl:j<s.Agents.length:=by omega
   have hn:=S.agents
   have key:Ib m s.Agents ((i:Int),s) (j:Int)=some (if (Y1 s i&&Y1 s j)&&FQ m s s.Agents i j=true then .out (.inr (Mp,12))else .go ((j+1:Nat):Int)):=by
     unfold Ib
     dsimp only
     rw [K7 hjl,bJ,(AM s i).2,lB,H8 hjl (by omega)]
     cases h1:Y1 s i
     ·rfl
     ·simp only [bT,bU,bJ,bV,bO]
      rw [(AM s j).2,lB]
      cases h2:Y1 s j
      ·rfl
      ·obtain ⟨gi,gj,gi',gj',T⟩:=oR O S rfl h1 h2
       have hbad:FQ m s s.Agents i j=(AO m gi gj||decide (0< (DR m s s.Agents i j gi gj).length)):=by unfold FQ;rw [T.hi,T.hj]
       rw [bT,bK,T.hi,T.hj,lB,lB,(UK B.toBearM T.ri T.rj).2,lB,hbad]
       cases AO m gi gj
       ·rw [bU,bJ,cH B rfl T,lB]
        by_cases q:0< (DR m s s.Agents i j gi gj).length
        ·rw [bF (show ((DR m s s.Agents i j gi gj).length:Int)>0 by omega),bF q];rfl
        ·rw [bG (show ¬((DR m s s.Agents i j gi gj).length:Int)>0 by omega),bG q];rfl
       ·rfl
   rw [IY]
   cases h1:(Y1 s i&&Y1 s j)
   ·rw [h1]at key
    rw [J9 (s':=((j+1:Nat):Int)) (by rw [key];rfl),bK]
    exact XJ B S O i k (j+1) (by omega)
   ·rw [h1]at key
    rw [bJ,List.any_cons]
    cases h2:FQ m s s.Agents i j
    ·rw [h2]at key
     rw [J9 (s':=((j+1:Nat):Int)) (by rw [key];rfl),bV]
     exact XJ B S O i k (j+1) (by omega)
    ·rw [h2]at key
     rw [D2 (t:= .inr (Mp,12)) (by rw [key];rfl)];rfl
theorem iC {m:Map}(B:BearK m){s:State}(S:SizeS s)(O: ∀g∈s.Agents,∃a t,g.Route=a::t∧RouteOK m a t): ∀(k i:Nat),i+k=s.Agents.length→
    loop (Fk m s.Agents) ((i:Int),s)=some (if (CN s s.Agents.length k i).any (fun p=>FQ m s s.Agents p.1 p.2)=true then .inr (Mp,12)else .inl s)
  |0,i,hi=>by
   obtain rfl:i=s.Agents.length:=by omega
   rw [D2 (t:= .inl s) (by unfold Fk;dsimp only;rw [J3];rfl)];rfl
  |k+1,i,hi=>by
   have hil:i<s.Agents.length:=by omega
   have hn:=S.agents
   have key:Fk m s.Agents ((i:Int),s)=some (if (IY s i (s.Agents.length - (i+1)) (i+1)).any (fun p=>FQ m s s.Agents p.1 p.2)=true then .out (.inr (Mp,12))else .go (((i+1:Nat):Int),s)):=by
     unfold Fk
     dsimp only
     rw [K7 hil,bJ,H8 hil (by omega),XJ B S O i (s.Agents.length - (i+1)) (i+1) (by omega)]
     cases (IY s i (s.Agents.length - (i+1)) (i+1)).any (fun p=>FQ m s s.Agents p.1 p.2)<;>rfl
   rw [CN,List.any_append]
   cases h:(IY s i (s.Agents.length - (i+1)) (i+1)).any (fun p=>FQ m s s.Agents p.1 p.2)
   ·rw [h]at key
    rw [J9 (s':=(((i+1:Nat):Int),s)) (by rw [key];rfl),bV]
    exact iC B S O k (i+1) (by omega)
   ·rw [h]at key
    rw [D2 (t:= .inr (Mp,12)) (by rw [key];rfl)];rfl
theorem YX (A:List Agent)(l:List Stay)(i:Nat): ∀k j,IY ⟨0,A,l⟩ i k j=IY ⟨0,A,[]⟩ i k j
  |0,_=>rfl
  |k+1,j=>by rw [IY,IY,YX A l i k (j+1)];rfl
theorem UL (A:List Agent)(l:List Stay)(n:Nat): ∀k i,CN ⟨0,A,l⟩ n k i=CN ⟨0,A,[]⟩ n k i
  |0,_=>rfl
  |k+1,i=>by rw [CN,CN,YX,UL A l n k (i+1)]
/-- The first state. -/
def Nl (m:Map)(A:List Agent):State×Int:=
  if HA m ⟨0,A,[]⟩≠0 then (Mp,HA m ⟨0,A,[]⟩)
  else if A.any (fun g=>g.Gone)=true then (Mp,10)
  else if (CN ⟨0,A,[]⟩ A.length A.length 0).any (fun p=>FQ m ⟨0,A,[]⟩ A p.1 p.2)=true then (Mp,12)
  else (⟨0,A,Pu m ⟨0,A,[]⟩ A⟩,0)
theorem RJ {m:Map}(K:KitM m){A:List Agent}(S:SizeS ⟨0,A,[]⟩)(w: ∀g∈A,g.S≤9223372036854775807):Po m A=some (Nl m A):=by
  have c2:=(UJ K.toBearM S w).2
  have hl:A.length≤1000:=S.agents
  have e2:Qb ⟨0,A,[]⟩=some ⟨0,A,[]⟩:=gZ S
  unfold Po Nl
  rw [e2,lB,c2,lB]
  by_cases q:HA m ⟨0,A,[]⟩=0
  case neg=>
    rw [bM q,show (HA m ⟨0,A,[]⟩ !=0)=true by simpa using q];rfl
  rw [bN (by simp [q]),show (HA m ⟨0,A,[]⟩ !=0)=false by simp [q],bK]
  have O:=(BG K).1 q
  have OR: ∀g∈A,∃a t,g.Route=a::t∧RouteOK m a t:=fun g hg=>by
    obtain ⟨i,hi⟩:=bD hg
    exact (O.agent i g hi).route
  have g2:loop (Kz A) 0=some (if A.any (fun g=>g.Gone)then .inr (Mp,10)else .inl ()):=by
    refine HT A (fun g=>g.Gone) (Mp,10) (fun i x hx=> ?_) (by unfold Kz;rw [J3];rfl)
    unfold Kz
    rw [K7 (I7 hx),bJ,D0 hx,lB,H8 (I7 hx) (by omega)]
    cases x.Gone<;>rfl
  rw [g2]
  cases hG:A.any (fun g=>g.Gone)
  case true=>rfl
  have S':SizeS ⟨0,A,Pu m ⟨0,A,[]⟩ A⟩:=by
    have h1:=PK m ⟨0,A,[]⟩ A
    have h2:A.length*m.Zones.length≤1000*2:=Nat.mul_le_mul hl K.zones2
    exact ⟨hl,by dsimp only at h1 ⊢;omega,S.routes⟩
  have h4:loop (Fk m A) (0,⟨0,A,Pu m ⟨0,A,[]⟩ A⟩)=_:=iC (s:=⟨0,A,Pu m ⟨0,A,[]⟩ A⟩) K.toBearK S' OR A.length 0 (by dsimp only;omega)
  dsimp only at h4
  rw [UL]at h4
  have e5:(fun p:Int×Int=>FQ m ⟨0,A,Pu m ⟨0,A,[]⟩ A⟩ A p.1 p.2)=fun p=>FQ m ⟨0,A,[]⟩ A p.1 p.2:=rfl
  rw [e5]at h4
  rw [bN (by simp)]
  show (loop (Ie m A) (0,⟨0,A,[]⟩)).bind _=_
  rw [XI K S,lB,h4]
  cases (CN ⟨0,A,[]⟩ A.length A.length 0).any (fun p=>FQ m ⟨0,A,[]⟩ A p.1 p.2)<;>rfl
theorem iD {m:Map}(K:KitM m){A:List Agent}(S:SizeS ⟨0,A,[]⟩):SizeS (Nl m A).1:=by
  have h0:SizeS Mp:=⟨by simp,by simp,by simp⟩
  unfold Nl
  split
  ·exact h0
  split
  ·exact h0
  split
  ·exact h0
  have hl:A.length≤1000:=S.agents
  have h1:=PK m ⟨0,A,[]⟩ A
  have h2:A.length*m.Zones.length≤1000*2:=Nat.mul_le_mul hl K.zones2
  exact ⟨hl,by dsimp only at h1 ⊢;omega,S.routes⟩
theorem cI {m:Map}(V:ValR m){a b:Int}(ha:0≤a)(hb:b∈nextOf m a.toNat):Ga m b=Ga m a:=by
  unfold nextOf at hb
  cases h:m.Lanes[a.toNat]? with
  |none=>rw [h]at hb;cases hb
  |some l=>
   rw [h]at hb
   have hb:b∈l.Next:=hb
   have h1:=(firstE_none.1 V.nextE) a.toNat l h
   rw [wG]at h1
   unfold nextE at h1
   obtain ⟨j,hj⟩:=bD hb
   have h2:=(firstE_none.1 h1) j b hj
   have hk:=V.next h hb
   have hn:m.Lanes[b.toNat]? =some m.Lanes[b.toNat]:=lH (by omega)
   unfold AH at h2
   rw [hn]at h2
   dsimp only at h2
   split at h2
   ·cases h2
   ·rename_i q
    unfold Ga
    rw [hn,h]
    exact Decidable.not_not.1 q
theorem MR {m:Map}(V:ValR m): ∀(t:List Int) (a:Int),0≤a→Lm m a t=true→∀x∈a::t,Ga m x=Ga m a
  | [],a,_,_,x,hx=>by simp at hx;rw [hx]
  |b::t,a,ha,h,x,hx=>by
   rw [Lm,bR]at h
   have hb:b∈nextOf m a.toNat:=by simpa using h.1
   have hk:=V.nextOf hb
   rcases lU.1 hx with rfl|hx
   ·rfl
   ·rw [MR V t b (by omega) h.2 x hx,cI V ha hb]
/-- Where an agent is does not matter to how fast it may go. -/
theorem cJ {m:Map}{a:Int}{t:List Int}(R:RouteOK m a t){g:Agent}(hg:g.Route=a::t)(h0:0≤g.S):UF m g=Gz (Ga m a):=by
  obtain ⟨x,h1,h2,h3,_⟩:=Vz R hg h0
  unfold UF
  rw [h3]
  dsimp only
  rw [MR R.val t a R.first.1 R.chain x (lG h2)]
theorem mG {m:Map}(V:ValR m)(r:List Int)(z tick:Int):0≤IB m r z tick∧IB m r z tick≤100:=by
  unfold IB
  split
  ·cases hz:m.Zones[z.toNat]? with
   |none=>simp
   |some zn=>
    dsimp only
    split
    ·split<;>simp
    ·have Z:=V.zoneOK (lG hz)
     unfold Ng
     cases hf:zn.Parts.find? (fun p=>p.Lane_==Mg m r z)with
     |none=>simp
     |some p=>have:=Z.part p (List.mem_of_find?_eq_some hf);dsimp only;omega
  ·simp
theorem oT {m:Map}(K:KitM m){s:State}(O:StateOK m s)(i z:Int):0≤(cR m s i z).Since∧(cR m s i z).Since≤s.Tick∧0≤(cR m s i z).Rank∧(cR m s i z).Rank≤100:=by
  unfold cR
  cases hf:s.In.find? (mF i z)with
  |some x=>
   have:=O.rank x (List.mem_of_find?_eq_some hf)
   unfold Uh at this
   simp only [Bool.or_eq_false_iff,bY]at this
   dsimp only
   omega
  |none=>
   have:=O.tick
   dsimp only
   cases C3 s.Agents i with
   |none=>dsimp only;omega
   |some g=>have:=mG K.val g.Route z s.Tick;dsimp only;omega
theorem oU {m:Map}(K:KitM m){s s':State}(O:StateOK m s)(A:List Agent)(hn:s'.Agents.length=s.Agents.length)(ht:s.Tick≤s'.Tick)(hI:s'.In=Pu m s A):
    (∀(i:Nat) x,s'.In[i]? =some x→Xx m s' x=false)∧(∀(i:Nat) x y,s'.In[i]? =some x→s'.In[i+1]? =some y→Rn x y=true)∧(∀x∈s'.In,Uh s' x=false):=by
  rw [hI]
  refine ⟨fun i x hx=> ?_,fun i x y hx hy=> ?_,fun x hx=> ?_⟩
  ·obtain ⟨a,z,h1,h2,_,rfl⟩:=stays_mem.1 (lG hx)
   have k:=YV m s a z
   unfold Xx
   rw [k.1,k.2]
   simp only [Bool.or_eq_false_iff,bY]
   omega
  ·have hs:=XF m s A
   have h1:=I7 hy
   have:=List.pairwise_iff_getElem.1 hs i (i+1) (by omega) h1 (by omega)
   rw [lH (by omega)]at hx hy
   rw [lD hx,lD hy]at this
   exact this
  ·obtain ⟨a,z,h1,h2,_,rfl⟩:=stays_mem.1 hx
   have:=oT K O a z
   unfold Uh
   simp only [Bool.or_eq_false_iff,bY]
   omega
theorem HB {m:Map}{a:Int}{t:List Int}(R:RouteOK m a t):(a::t).length≤8:=by
  have:=R.most
  rw [lL];omega
theorem HC {m:Map}(K:KitM m)(n:Int): ∃a t,Ji m n=some (a::t)∧RouteOK m a t:=by
  obtain ⟨a,t,h1,h2,h3⟩:=RC K.toBearM K.val n
  exact ⟨a,t,h1,gT K.val h2 h3⟩
theorem RK {m:Map}(K:KitM m)(n:Int): ∃a t,Dj m n=some (a::t)∧RouteOK m a t:=by
  have step: ∀x:Int,0≤x→x<4→∃a t,RouteOK m a t∧(Z8 m n x=some (.out (.inr (a::t)))∨Z8 m n x=some (.go (x+1))):=by
    intro x h0 h1
    obtain ⟨a,t,e,R⟩:=HC K (D8 (n % 1048576+x))
    obtain ⟨l,hl⟩: ∃l,m.Lanes[a.toNat]? =some l:=⟨_,lH (by have:=R.first;omega)⟩
    have hg:=D0 hl
    rw [wC R.first.1]at hg
    refine ⟨a,t,R,?_⟩
    unfold Z8
    rw [bF h1,bJ,Tx (by omega) (by omega),lB,e,lB,bF (show (((a::t).length:Nat):Int)>0 by rw [lL];omega),bJ,show C3 (a::t) 0=some a from rfl,lB,bJ,hg,lB,F8 (by omega)]
    cases l.Kind==1
    ·exact .inr rfl
    ·exact .inl rfl
  have key: ∀(k:Nat) (x:Int),0≤x→x+k=4→∃a t,RouteOK m a t∧thenS (loop (Z8 m n) x) (fun _=>(Ji m 0).bind fun v5=>some v5) (fun r=>some r)=some (a::t):=by
    intro k
    induction k with
    |zero=>
     intro x h0 hx
     obtain ⟨a,t,e,R⟩:=HC K 0
     refine ⟨a,t,R,?_⟩
     rw [D2 (t:= .inl ()) (by unfold Z8;rw [bG (by omega)];rfl)]
     show (Ji m 0).bind _=_
     rw [e];rfl
    |succ k ih=>
     intro x h0 hx
     obtain ⟨a,t,R,h|h⟩:=step x h0 (by omega)
     ·refine ⟨a,t,R,?_⟩
      rw [D2 h];rfl
     ·obtain ⟨a,t,R,e⟩:=ih (x+1) (by omega) (by omega)
      refine ⟨a,t,R,?_⟩
      rw [J9 h];exact e
  obtain ⟨a,t,R,e⟩:=key 4 0 (by omega) (by omega)
  exact ⟨a,t,e,R⟩
/-- What the kit makes of an actor. -/
structure KAgent (m:Map)(first:Bool)(g:Agent):Prop where
  route: ∃a t,g.Route=a::t∧RouteOK m a t
  len:300≤g.Len∧g.Len≤5000
  begin:0≤g.Begin∧g.Begin≤40
  S:0≤g.S∧g.S≤LongM m g.Route
  V:0≤g.V∧g.V≤(UF m g).1
  gone:g.Gone=false
  late:g.Begin>0→g.S=0
  first:first=true→g.Begin=0∧g.Obey=false
theorem PL {m:Map}(K:KitM m)(p:KitActor)(first:Bool): ∃g,Sh m p first=some g∧KAgent m first g∧(p.Len=0→g.Len=300)∧(first=true→Dj m p.R=some g.Route):=by
  obtain ⟨a1,t1,e1,R1⟩:=HC K p.R
  obtain ⟨a2,t2,e2,R2⟩:=RK K p.R
  have hy: ∃a t o,(cond first ((Dj m p.R).bind fun v3=>some (v3,false)) (some (a1::t1,(!p.Disobeys))))=some (a::t,o)∧RouteOK m a t∧(first=true→o=false)∧(first=true→Dj m p.R=some (a::t)):=by
    cases first
    ·exact ⟨a1,t1,_,rfl,R1,nofun,nofun⟩
    ·rw [e2];exact ⟨a2,t2,_,rfl,R2,fun _=>rfl,fun _=>rfl⟩
  obtain ⟨a,t,o,e3,R,ho,hrr⟩:=hy
  obtain ⟨l,hl⟩: ∃l,m.Lanes[a.toNat]? =some l:=⟨_,lH (by have:=R.first;omega)⟩
  have hg:=D0 hl
  rw [wC R.first.1]at hg
  have hk:Ga m a=l.Kind:=by unfold Ga;rw [hl];rfl
  have hT:=RH (Ga m a)
  have hL:=Qx R
  have hr:=HB R
  have m1: ∀n:Int,0≤n % ((Gz (Ga m a)).1+1)∧n % ((Gz (Ga m a)).1+1)≤(Gz (Ga m a)).1:=fun n=>by
    have h1:=wN n (show (Gz (Ga m a)).1+1≠0 by omega)
    have h2:=wO n (show 0< (Gz (Ga m a)).1+1 by omega)
    omega
  have m2: ∀n:Int,0≤n % (LongM m (a::t)+1)∧n % (LongM m (a::t)+1)≤LongM m (a::t):=fun n=>by
    have h1:=wN n (show LongM m (a::t)+1≠0 by omega)
    have h2:=wO n (show 0<LongM m (a::t)+1 by omega)
    omega
  have len: ∃L,(cond (decide ((Gz (Ga m a)).1<1000)) (some 300) (some (D8 (300+p.Len % 4700))))=some L∧(300≤L∧L≤5000)∧(p.Len=0→L=300):=by
    cases decide ((Gz (Ga m a)).1<1000)
    ·exact ⟨_,rfl,by rw [F8 (by omega)];omega,fun h=>by rw [h];rfl⟩
    ·exact ⟨_,rfl,by omega,fun _=>rfl⟩
  obtain ⟨L,eL,bL,bL0⟩:=len
  have hv:=m1 p.V
  have hs:=m2 p.S
  have fin: ∀S B:Int,0≤S→S≤LongM m (a::t)→0≤B→B≤40→(B>0→S=0)→(first=true→B=0)→KAgent m first ⟨a::t,S,p.V % ((Gz (Ga m a)).1+1),L,B,o,false⟩∧(p.Len=0→L=300)∧(first=true→Dj m p.R=some (a::t)):=by
    intro S B h1 h2 h3 h4 h5 h6
    refine ⟨?_,bL0,hrr⟩
    refine ⟨⟨a,t,rfl,R⟩,bL,⟨h3,h4⟩,⟨h1,h2⟩,?_,rfl,h5,fun h=>⟨h6 h,ho h⟩⟩
    rw [cJ R rfl h1]
    exact hv
  unfold Sh
  rw [e1,lB,Oo (by omega) (by omega),lB,e3,lB]
  dsimp only
  rw [show C3 (a::t) 0=some a from rfl,lB,hg,lB,Xc,lB,← hk,F8 (by omega),Oo (by omega) (by omega),lB,eL,lB,AL K.toBearM _ (by omega),lB,F8 (by omega),Oo (by omega) (by omega),lB]
  cases hf:first
  ·rw [bU,bJ,Tx (by omega) (by omega),lB,bO]
   by_cases q:p.Begin % 4=3
   ·rw [show (p.Begin % 4==3)=true by simpa using q,bJ,Tx (by omega) (by omega),lB]
    rw [hf]at fin
    exact ⟨_,rfl,fin 0 (p.Begin % 40) (by omega) (by omega) (by omega) (by omega) (fun _=>rfl) nofun⟩
   ·rw [show (p.Begin % 4==3)=false by simpa using q,bK]
    rw [hf]at fin
    exact ⟨_,rfl,fin _ 0 hs.1 hs.2 (by omega) (by omega) (fun h=>absurd h (by omega)) nofun⟩
  ·rw [hf]at fin
   exact ⟨_,rfl,fin _ 0 hs.1 hs.2 (by omega) (by omega) (fun h=>absurd h (by omega)) fun _=>rfl⟩
structure KList (m:Map)(A:List Agent):Prop where
  few:A.length≤8
  ok: ∀(i:Nat) g,A[i]? =some g→KAgent m (decide (i=0)) g
theorem KList.size {m:Map}{A:List Agent}(h:KList m A):SizeS ⟨0,A,[]⟩:=by
  refine ⟨by have:=h.few;dsimp only;omega,by simp,fun g hg=> ?_⟩
  obtain ⟨i,hi⟩:=bD hg
  obtain ⟨a,t,hR,R⟩:=(h.ok i g hi).route
  have:=HB R
  rw [hR];omega
theorem KList.wf {m:Map}{A:List Agent}(h:KList m A): ∀g∈A,g.S≤9223372036854775807:=fun g hg=>by
  obtain ⟨i,hi⟩:=bD hg
  have k:=h.ok i g hi
  obtain ⟨a,t,hR,R⟩:=k.route
  have h1:=Qx R
  have h2:=k.S
  rw [hR]at h2
  omega
theorem KList.chk {m:Map}(K:KitM m){A:List Agent}(h:KList m A)(hn:A≠ []):StateOK m ⟨0,A,[]⟩:=by
  refine ⟨by dsimp only;omega,⟨List.length_pos_iff.2 hn,h.few⟩,fun i g hg=> ?_,fun i x hx=>by simp at hx,fun i x y hx=>by simp at hx,fun x hx=>by simp at hx⟩
  have k:=h.ok i g hg
  obtain ⟨a,t,hR,R⟩:=k.route
  have hL:=Qx R
  rw [← hR]at hL
  have hS:=k.S
  have hl:=k.len
  have hb:=k.begin
  refine ⟨k.route,by omega,by omega,by omega,k.V,?_,?_,fun h0=>(k.first (by simpa using h0)).1⟩
  ·rw [k.gone];unfold FO;rw [F8 (by omega),bG (by omega)]
  ·rintro ⟨q,q2⟩
   exact q2 (k.late q)
theorem iE {m:Map}(K:KitM m){A:List Agent}(h:(Nl m A).2=0):(Nl m A).1=⟨0,A,Pu m ⟨0,A,[]⟩ A⟩∧StateOK m (Nl m A).1:=by
  unfold Nl at h ⊢
  by_cases q:HA m ⟨0,A,[]⟩=0
  case neg=>rw [bM q]at h;exact absurd h q
  rw [bN (by simp [q])]at h ⊢
  by_cases g:A.any (fun g=>g.Gone)=true
  ·rw [bM g]at h;cases h
  rw [bN g]at h ⊢
  by_cases b:(CN ⟨0,A,[]⟩ A.length A.length 0).any (fun p=>FQ m ⟨0,A,[]⟩ A p.1 p.2)=true
  ·rw [bM b]at h;cases h
  rw [bN b]
  have O:=(BG K).1 q
  refine ⟨rfl,?_⟩
  obtain ⟨i1,i2,i3⟩:=oU K (s':=⟨0,A,Pu m ⟨0,A,[]⟩ A⟩) O A rfl (Int.le_refl _) rfl
  exact ⟨O.tick,O.num,fun i g hg=>by have x:=O.agent i g hg;exact ⟨x.route,x.len,x.begin,x.S,x.V,x.gone,x.late,x.first⟩,i1,i2,i3⟩
theorem mH {m:Map}(K:KitM m){g:Agent}(h:KAgent m true g):(Nl m [g]).2=0:=by
  have L:KList m [g]:=⟨by simp,fun i g' hg=>by
    cases i with
    |zero=>cases hg;exact h
    |succ i=>simp at hg⟩
  have q:=(BG K).2 (L.chk K (by simp))
  unfold Nl
  rw [bN (by simp [q]),bN (by simp [h.gone])]
  rfl
theorem StateOK.size {m:Map}(K:KitM m){s:State}(O:StateOK m s)(h:s.In.length≤1000000):SizeS s:=by
  refine ⟨by have:=O.num;omega,h,fun g hg=> ?_⟩
  obtain ⟨i,hi⟩:=bD hg
  obtain ⟨a,t,hR,R⟩:=(O.agent i g hi).route
  have:=HB R
  rw [hR];omega
def qI (m:Map)(l:List Agent)(s:State):Prop:=KList m l∧(l≠ []→s=(Nl m l).1∧(Nl m l).2=0)
theorem DS {m:Map}(K:KitM m)(ps:List KitActor)(hp:ps.length≤7): ∀(k idx:Nat) (l:List Agent) (s:State),idx+k=ps.length→l.length≤idx→qI m l s→∃l' s',loop (Fl m ps) (l,(idx:Int),s)=some (l',s')∧qI m l' s'∧l'.length≤ps.length
  |0,idx,l,s,hi,hl,I=>by
   obtain rfl:idx=ps.length:=by omega
   exact ⟨l,s,D2 (by unfold Fl;dsimp only;rw [J3];rfl),I,hl⟩
  |k+1,idx,l,s,hi,hl,I=>by
   have hidx:idx<ps.length:=by omega
   have hlen:l.length≤7:=by omega
   obtain ⟨p,hpx⟩: ∃p,ps[idx]? =some p:=⟨_,lH hidx⟩
   obtain ⟨g,hg,kg,_⟩:=PL K p ((l.length:Int)==0)
   have L':KList m (l++ [g]):=by
     refine ⟨by simp;omega,fun i g' hg'=> ?_⟩
     by_cases q:i<l.length
     ·rw [lZ q]at hg';exact I.1.ok i g' hg'
     ·have hlt:=I7 hg'
      rw [lM,List.length_singleton]at hlt
      obtain rfl:i=l.length:=by omega
      rw [lY (wD _),Nat.sub_self]at hg'
      cases hg'
      have:decide (l.length=0)=((l.length:Int)==0):=by
        by_cases h0:l.length=0
        ·simp [h0]
        ·simp [h0]
      rw [this];exact kg
   have e:=RJ K L'.size L'.wf
   have key:Fl m ps (l,(idx:Int),s)=some (if (Nl m (l++ [g])).2=0 then .go ((Nl m (l++ [g])).1.Agents,((idx+1:Nat):Int),(Nl m (l++ [g])).1)else .go (l,((idx+1:Nat):Int),s)):=by
     unfold Fl
     dsimp only
     rw [K7 hidx,bF (show (l.length:Int)<8 by omega),Bool.and_self,bJ,MJ (by omega),lB,D0 hpx,lB,hg,lB,Am,bM (by simp;omega),lB,e,lB,H8 hidx (by omega)]
     by_cases q:(Nl m (l++ [g])).2=0
     ·rw [bM q,q];rfl
     ·rw [bN q,show ((Nl m (l++ [g])).2==0)=false by simpa using q];rfl
   by_cases q:(Nl m (l++ [g])).2=0
   ·rw [bM q]at key
    have n:=iE K q
    have ea:(Nl m (l++ [g])).1.Agents=l++ [g]:=by rw [n.1]
    rw [ea]at key
    rw [J9 key]
    exact DS K ps hp k (idx+1) _ _ (by omega) (by simp;omega) ⟨L',fun _=>⟨rfl,q⟩⟩
   ·rw [bN q]at key
    rw [J9 key]
    exact DS K ps hp k (idx+1) _ _ (by omega) (by omega) I
theorem cK {m:Map}(K:KitM m)(ps:List KitActor)(hp:ps.length≤7): ∃A,Si m ps=some (Nl m A).1∧(Nl m A).2=0∧KList m A∧0<A.length∧(A.length≤1∨A.length≤ps.length):=by
  have L0:KList m []:=⟨by simp,fun i g h=>by simp at h⟩
  have e0:=RJ K L0.size L0.wf
  obtain ⟨l,s,e,I,hll⟩:=DS K ps hp ps.length 0 [] (Nl m []).1 (by omega) (by simp) ⟨L0,fun h=>absurd rfl h⟩
  have e:loop (Fl m ps) ([],0,(Nl m []).1)=some (l,s):=e
  unfold Si
  rw [e0,lB,e,lB]
  dsimp only
  by_cases h:l= []
  ·subst h
   obtain ⟨g,hg,kg,h300⟩:=PL K ⟨0,1048576,0,0,0,false⟩ true
   have hlen:=h300.1 rfl
   have kg':KAgent m true ⟨g.Route,D8 (g.Len+1),0,g.Len,g.Begin,g.Obey,g.Gone⟩:=by
     obtain ⟨a,t,hR,R⟩:=kg.route
     have hL:=Qx R
     rw [← hR]at hL
     have hT:=RH
     refine ⟨kg.route,kg.len,kg.begin,?_,?_,kg.gone,fun h=> ?_,kg.first⟩
     ·show 0≤D8 (g.Len+1)∧D8 (g.Len+1)≤LongM m g.Route
      rw [hlen,F8 (by omega)];omega
     ·have:=RH (Ga m (Vy m ⟨g.Route,D8 (g.Len+1),0,g.Len,g.Begin,g.Obey,g.Gone⟩).1)
      exact ⟨Int.le_refl _,this.1⟩
     ·have:=(kg.first rfl).1
      dsimp only at h
      omega
   have L:KList m [⟨g.Route,D8 (g.Len+1),0,g.Len,g.Begin,g.Obey,g.Gone⟩]:=⟨by simp,fun i g' hg=>by
     cases i with
     |zero=>cases hg;exact kg'
     |succ i=>simp at hg⟩
   refine ⟨_,?_,mH K kg',L,by simp, .inl (by simp)⟩
   rw [show (((([]:List Agent).length:Nat):Int)==0)=true from rfl,bJ,hg,lB,RJ K L.size L.wf];rfl
  ·have:=I.2 h
   have hl:=List.length_pos_iff.2 h
   refine ⟨l,?_,this.2,I.1,hl, .inr hll⟩
   rw [show ((l.length:Int)==0)=false by simp;exact h,bK,this.1]
theorem iF {m:Map}(K:KitM m)(ps:List KitActor)(hp:ps.length≤7): ∃A,Si m ps=some (Nl m A).1∧(Nl m A).2=0∧KList m A:=by
  obtain ⟨A,h1,h2,h3,_⟩:=cK K ps hp
  exact ⟨A,h1,h2,h3⟩
theorem mI {m:Map}{s:State}(O:StateOK m s): ∀g∈s.Agents,g.S≤9223372036854775807:=fun g hg=>by
  obtain ⟨i,hi⟩:=bD hg
  have k:=O.agent i g hi
  obtain ⟨a,t,hR,R⟩:=k.route
  have h1:=Qx R
  have h2:=k.S
  have h3:=k.len
  rw [hR]at h2
  omega
theorem cL {m:Map}(B:BearM m){a:Int}{t:List Int}(R:RouteOK m a t){g:Agent}(hg:g.Route=a::t)(h0:0≤g.S)(h1:g.S≤9223372036854775807):Zz m g.Route g.S=some (if g.S≤LongM m g.Route then ((Vy m g).1,(Vy m g).2,true)else (0,0,false)):=by
  obtain ⟨x,q1,q2,q3,q4,q5⟩:=Vz R hg h0
  have hm7:=R.most
  have hr:g.Route.length≤1000000:=by rw [hg];simp;omega
  have hl:=Nh m (a::t) 0
  have hbd:=R.bd (i:=DO m g) (by omega)
  have hs:C3 (N5 m 0 (a::t)) ((DO m g:Nat):Int)=some (Kk m (a::t) (DO m g)):=RouteOK.starts q1
  unfold Zz
  rw [Uc B _ hr,lB,AL B _ hr,bG (show ¬g.S<0 by omega)]
  have e0:((StartsM m g.Route).length:Int)=((a::t).length:Nat):=by rw [hg,R.StartsM,hl]
  rw [e0,show ((((a::t).length:Nat):Int)==0)=false by simp;omega]
  simp only [Bool.or_self,bU,bJ,lB,bV]
  by_cases q:g.S≤LongM m g.Route
  ·rw [bM q,bG (show ¬g.S>LongM m g.Route by omega),bK,hg,R.StartsM]
   have:=YS g (N5 m 0 (a::t)) (by rw [hl];simp;omega) (N5 m 0 (a::t)) 0 0 rfl (by omega)
   have e:DO m g=Ri g.S 0 0 (N5 m 0 (a::t)):=by unfold DO;rw [hg,R.StartsM]
   rw [← e]at this
   have this:loop (Zy g.S (N5 m 0 (a::t))) (0,0)=some ((DO m g:Nat):Int):=this
   rw [this,lB,D0 q2,lB,hs,lB,q3,F8 (by omega)]
  ·rw [bN q,bF (show g.S>LongM m g.Route by omega)];rfl
/-- The spot of an offset of a lane. -/
def Ro (m:Map)(x s:Int):Spot:=((C3 m.Lanes x).bind fun l=>Kh l.Curve_ s).getD ⟨0,0⟩
theorem RL {m:Map}(V:ValR m){x:Int}(h0:0≤x)(h1:x<m.Lanes.length){s:Int}(hs:Nt s): ∃l,C3 m.Lanes x=some l∧Kh l.Curve_ s=some (Ro m x s)∧FF l.Curve_ s=some (Ro m x s)∧Kj (Ro m x s)=true:=by
  have hl:m.Lanes[x.toNat]? =some m.Lanes[x.toNat]:=lH (by omega)
  have hg:=D0 hl
  rw [wC h0]at hg
  have hV:Valid m.Lanes[x.toNat].Curve_.Pts:=checkM_zero.1 (V.laneOK hl).curve
  have hm:=hV.most
  obtain ⟨A,e⟩:=TS hV (by omega) hs
  obtain ⟨p,e1,e2⟩:=kN m.Lanes[x.toNat].Curve_ (by omega) s hs
  have h:Ro m x s=p:=by unfold Ro;rw [hg,lB,e1];rfl
  refine ⟨_,hg,by rw [h,e1],by rw [h,e2],?_⟩
  rw [h]
  obtain rfl:=lD (e1.symm.trans e)
  obtain ⟨o1,o2⟩:=fX A hV
  have:=A.l1
  have:=A.hs
  exact gA o1 o2 (by omega) (by omega)
/-- The spot of a coordinate of a route. -/
def RM (m:Map)(r:List Int)(s:Int):Spot:=Ro m (Vy m ⟨r,max 0 (min s (LongM m r)),0,0,0,false,false⟩).1 (Vy m ⟨r,max 0 (min s (LongM m r)),0,0,0,false,false⟩).2
theorem XK {m:Map}(B:BearM m){a:Int}{t:List Int}(R:RouteOK m a t)(s:Int):Qv m (a::t) s=some (RM m (a::t) s)∧LN m (a::t) s=some (RM m (a::t) s)∧Kj (RM m (a::t) s)=true:=by
  have hL:=Qx R
  have hm7:=R.most
  have hr:(a::t).length≤1000000:=by simp;omega
  unfold RM
  generalize hg:(⟨a::t,max 0 (min s (LongM m (a::t))),0,0,0,false,false⟩:Agent)=g
  have hR:g.Route=a::t:=by rw [← hg]
  have hS:g.S=max 0 (min s (LongM m (a::t))):=by rw [← hg]
  obtain ⟨x,q1,q2,q3,q4,q5⟩:=Vz R hR (by omega)
  have hx:=R.mem (lG q2)
  have hb:=R.bd (Nat.le_of_lt q1)
  obtain ⟨l,k1,k2,k3,k4⟩:=RL R.val hx.1 hx.2 (s:=g.S - Kk m (a::t) (DO m g)) (by unfold Nt;omega)
  have h1:Nd m (a::t) g.S=some (x,g.S - Kk m (a::t) (DO m g),true):=by
    obtain ⟨k,y,p1,p2,p3,p4⟩:=gX B R (s:=g.S) (by omega) (by rw [← R.LongM];omega)
    have hk:k=DO m g:=by
      have:=I7 p1
      rcases Nat.lt_trichotomy k (DO m g)with h|h|h
      ·have:=p4 _ h q1;omega
      ·exact h
      ·have:=q5 _ h this;omega
    subst hk
    rw [q2]at p1
    obtain rfl:=lD p1
    exact p2
  have h2:=cL B R hR (by omega) (by omega)
  rw [hR,bM (show g.S≤LongM m (a::t) by omega),q3]at h2
  refine ⟨?_,?_,by rw [q3];exact k4⟩
  ·unfold Qv
   rw [RF B _ hr,lB,Nu,Nv,← hS,h1,lB,k1,lB,k2,q3];rfl
  ·unfold LN
   rw [AL B _ hr,lB,Nu,Nv,← hS,h2,lB,k1,lB,k3,q3];rfl
/-! ### The part of a body on a span -/
/-- Two spans of a lane together. -/
def oV (x p:Span):Option Span:=if max p.From x.From≤min p.To x.To then some ⟨x.Lane_,max p.From x.From,min p.To x.To⟩else none
def qJ (m:Map)(g:Agent)(x:Span):Option Span:=((Y2 m g).find? fun p=>p.Lane_==x.Lane_).bind (oV x)
theorem IE {α β:Type}(P:α→Bool)(f:α→β): ∀(l:List α) (k:Nat),J6 (fun _ a=>if P a=true then some (f a)else none) k l=(l.find? P).map f
  | [],_=>rfl
  |a::r,k=>by
   rw [J6,List.find?_cons]
   cases P a
   ·exact IE P f r (k+1)
   ·rfl
theorem oW (m:Map)(g:Agent)(hl:(Y2 m g).length≤1000)(x:Span): ∃y,Tq (Y2 m g) x=some (y,(qJ m g x).isSome)∧∀z,qJ m g x=some z→y=⟨z.From,z.To⟩:=by
  unfold Tq
  rw [Aa (Y2 m g) (Nf (Y2 m g) x) (fun _ p=>if (p.Lane_==x.Lane_)=true then some (⟨max p.From x.From,min p.To x.To⟩,!decide (max p.From x.From>min p.To x.To))else none) (fun i p hp=>by
   unfold Nf
   rw [K7 (I7 hp),bJ,D0 hp,lB]
   cases p.Lane_==x.Lane_
   ·rw [bK,H8 (I7 hp) (by omega)];rfl
   ·simp only [bJ,By,Z6,Nu,Nv,lB];rfl) (by unfold Nf;rw [J3];rfl),IE]
  unfold qJ
  cases (Y2 m g).find? fun p=>p.Lane_==x.Lane_ with
  |none=>exact ⟨_,rfl,nofun⟩
  |some p=>
   refine ⟨⟨max p.From x.From,min p.To x.To⟩,?_,fun z hz=> ?_⟩
   ·show some (_,!decide _)=_
    rw [lB]
    unfold oV
    by_cases q:max p.From x.From≤min p.To x.To
    ·rw [bM q,bG (by omega)];rfl
    ·rw [bN q,bF (by omega)];rfl
   ·rw [lB]at hz
    unfold oV at hz
    split at hz
    ·cases hz;rfl
    ·cases hz
/-- The others that are there. -/
def Ck (s:State):List Agent:=Ci (fun i g=>if Y1 s (i:Int)=true then some g else none) 1 (s.Agents.drop 1)
theorem XL (s:State):Ck s=Ci (fun i g=>if 0<i∧Y1 s (i:Int)=true then some g else none) 0 s.Agents:=by
  have key: ∀(l:List Agent) (k:Nat),0<k→Ci (fun i g=>if Y1 s (i:Int)=true then some g else none) k l=Ci (fun i g=>if 0<i∧Y1 s (i:Int)=true then some g else none) k l:=by
    intro l
    induction l with
    |nil=>intro k _;rfl
    |cons a r ih=>
     intro k hk
     rw [Ci,Ci,ih (k+1) (by omega)]
     by_cases h:Y1 s (k:Int)=true
     ·rw [bM h,bM ⟨hk,h⟩]
     ·rw [bN h,bN (fun q=>h q.2)]
  unfold Ck
  cases s.Agents with
  |nil=>rfl
  |cons a r=>
   rw [List.drop_one,List.tail_cons,key r 1 (by omega)]
   symm
   rw [Ci,bN (by omega)]
theorem XM {s:State}{g:Agent}(h:g∈Ck s): ∃i:Nat,0<i∧s.Agents[i]? =some g∧Y1 s (i:Int)=true:=by
  obtain ⟨j,a,h1,h2⟩:=(Dq _ _).1 h
  split at h2
  ·cases h2
   rename_i q
   refine ⟨1+j,by omega,?_,q⟩
   rw [l9]at h1
   exact h1
  ·cases h2
/-- Does a body hide a spot of a cell from the eye? -/
def PM (m:Map)(eye p:Spot)(x:Span)(g:Agent):Bool:=(!(qJ m g x).isSome)&&FL eye p (RM m g.Route g.S) (RM m g.Route (D8 (g.S - g.Len)))
def YY (m:Map)(s:State)(eye:Spot)(view:Int)(p:Spot)(x:Span):Bool:=CG eye p view&& !((Ck s).any (PM m eye p x))
/-- The eye. -/
def HD (m:Map)(s:State):Spot:=RM m (s.Agents.getD 0 default).Route (s.Agents.getD 0 default).S
def Xy (m:Map)(s:State)(view:Int)(x:Span):Bool:=YY m s (HD m s) view (Ro m x.Lane_ x.From) x&&YY m s (HD m s) view (Ro m x.Lane_ x.To) x
/-- What a vehicle looks with. -/
def Ou (m:Map)(s:State)(view:Int):WorldLooks:=⟨m,HD m s,view,(Ck s).map (Y2 m),(Ck s).map fun g=>⟨RM m g.Route g.S,RM m g.Route (D8 (g.S - g.Len))⟩⟩
section
variable {m:Map}{s:State}
theorem StateOK.eye (O:StateOK m s): ∃g,C3 s.Agents 0=some g∧s.Agents[0]? =some g∧s.Agents.getD 0 default=g:=by
  have:=O.num
  have h:s.Agents[0]? =some s.Agents[0]:=lH (by omega)
  exact ⟨_,D0 h,h,by rw [List.getD,h];rfl⟩
theorem mJ (B:BearM m)(O:StateOK m s)(view:Int):Md m s view=some (Ou m s view):=by
  obtain ⟨g0,e1,e2,e3⟩:=O.eye
  have hn:=O.num
  unfold Md
  obtain ⟨a,t,hR,R⟩:=(O.agent 0 g0 e2).route
  have he:Qv m g0.Route g0.S=some (HD m s):=by
    unfold HD
    rw [e3,hR];exact (XK B R _).1
  rw [e1,lB,lB,he,lB]
  rw [gE (F:=Jj m s) (S0:=(0,([],[]))) (fun i l=>((i:Int),(l.map (Y2 m),l.map fun g=>(⟨RM m g.Route g.S,RM m g.Route (D8 (g.S - g.Len))⟩:WorldBar)))) s.Agents (fun i g=>if 0<i∧Y1 s (i:Int)=true then some g else none) (fun l=>(l.map (Y2 m),l.map fun g=>(⟨RM m g.Route g.S,RM m g.Route (D8 (g.S - g.Len))⟩:WorldBar))) rfl (fun i g l hg hl=>by
   have hi:=I7 hg
   obtain ⟨a,t,hR,R⟩:=(O.agent i g hg).route
   have hm7:=R.most
   have hw:D8 ((i:Int)+1)=((i+1:Nat):Int):=H8 hi (by omega)
   unfold Jj
   dsimp only
   rw [K7 hi,bJ,D0 hg,lB,(AM s i).1]
   by_cases h0:0<i
   ·rw [bF (show (i:Int)>0 by omega),bJ,lB,bO]
    by_cases th:Y1 s (i:Int)=true
    ·rw [bM ⟨h0,th⟩,th,bJ,(RI B (show g.Route.length≤1000 by rw [hR];simp;omega)).1,lB,Ee (by simp;omega),lB,hR,(XK B R _).1,(XK B R _).1,lB,lB,Ee (by simp;omega),lB,hw]
     simp [hR]
    ·rw [bN fun h=>th h.2,show Y1 s (i:Int)=false by simpa using th,bK,hw]
   ·rw [bG (show ¬(i:Int)>0 by omega),bK,lB,bQ,bK,bN fun h=>h0 h.1,hw]) (fun l=>by unfold Jj;dsimp only;rw [J3];rfl),← XL]
  rfl
theorem PN {x:Span}{eye p:Spot}(hl: ∀g∈Ck s,(Y2 m g).length≤1000)(hn:(Ck s).length≤1000)(F:Int→Option (Stp Int (Sum Unit Bool)))
    (hF: ∀(i:Nat) g y b,(Ck s)[i]? =some g→Tq (Y2 m g) x=some (y,b)→F (i:Int)=cond ((!b)&&FL eye p (RM m g.Route g.S) (RM m g.Route (D8 (g.S - g.Len)))) (some (.out (.inr false))) (some (.go (D8 ((i:Int)+1)))))
    (h0:F ((Ck s).length:Int)=some (.out (.inl ()))):loop F 0=some (if (Ck s).any (PM m eye p x)=true then .inr false else .inl ()):=by
  refine HT (Ck s) (PM m eye p x) false (fun i g hg=> ?_) h0
  obtain ⟨y,h1,_⟩:=oW m g (hl g (lG hg)) x
  rw [hF i g y _ hg h1,H8 (I7 hg) (by omega)]
  unfold PM
  cases (!(qJ m g x).isSome)&&FL eye p (RM m g.Route g.S) (RM m g.Route (D8 (g.S - g.Len)))<;>rfl
theorem XN (O:StateOK m s):(Ck s).length≤8:=by
  have:=O.num
  unfold Ck
  have:=Vu (fun (i:Nat) g=>if Y1 s (i:Int)=true then some g else none) (s.Agents.drop 1) 1
  rw [lX]at this
  omega
theorem UM (O:StateOK m s): ∀g∈Ck s,(Y2 m g).length≤1000:=fun g hg=>by
  obtain ⟨i,_,h2,_⟩:=XM hg
  obtain ⟨a,t,hR,R⟩:=(O.agent i g h2).route
  have:=R.most
  have:=MQ m g
  rw [hR]at this
  simp at this
  omega
theorem mK (V:ValR m)(O:StateOK m s)(view:Int){x:Span}(h0:0≤x.Lane_)(h1:x.Lane_<m.Lanes.length)(hf:Nt x.From)(ht:Nt x.To):Eb (Ou m s view) x=some (Xy m s view x):=by
  have hn:=XN O
  have hb:=UM O
  obtain ⟨l,k1,k2,_,_⟩:=RL V h0 h1 hf
  obtain ⟨l',k1',k3,_,_⟩:=RL V h0 h1 ht
  rw [k1]at k1'
  obtain rfl:=lD k1'
  have g1: ∀(i:Nat) g,(Ck s)[i]? =some g→C3 (Ou m s view).bars (i:Int)=some ⟨RM m g.Route g.S,RM m g.Route (D8 (g.S - g.Len))⟩:=fun i g h=>D0 (by simp [Ou,h])
  have g2: ∀(i:Nat) g,(Ck s)[i]? =some g→C3 (Ou m s view).bodies (i:Int)=some (Y2 m g):=fun i g h=>D0 (by simp [Ou,h])
  have g3:(Ou m s view).bars.length=(Ck s).length:=by simp [Ou]
  have step: ∀(b c:Bool) (i:Int),((cond (!b) (some c) (some default)).bind fun v13=>cond ((!b)&&v13) (some (Stp.out (Sum.inr false:Sum Unit Bool))) (some (.go (D8 (i+1)))))=cond ((!b)&&c) (some (.out (.inr false))) (some (.go (D8 (i+1)))):=by
    intro b c i;cases b<;>cases c<;>rfl
  have e1:loop (X7 (Ou m s view) x (Ro m x.Lane_ x.From)) 0=_:=PN (x:=x) (eye:=HD m s) (p:=Ro m x.Lane_ x.From) hb (by omega) _ (fun i g y b hg hy=>by
    unfold X7
    rw [g3,K7 (I7 hg),bJ,g1 i g hg,lB,g2 i g hg,lB,hy,lB,Xr]
    exact step _ _ _) (by unfold X7;rw [g3,J3];rfl)
  have e2:loop (X6 (Ou m s view) x (Ro m x.Lane_ x.To)) 0=_:=PN (x:=x) (eye:=HD m s) (p:=Ro m x.Lane_ x.To) hb (by omega) _ (fun i g y b hg hy=>by
    unfold X6
    rw [g3,K7 (I7 hg),bJ,g1 i g hg,lB,g2 i g hg,lB,hy,lB,Xr]
    exact step _ _ _) (by unfold X6;rw [g3,J3];rfl)
  unfold Eb Xy YY
  rw [show (Ou m s view).m=m from rfl,k1,lB,k2,lB,k3,lB,CH,CH,e1,e2,lB,lB]
  show thenS (cond (!CG (HD m s) _ view) _ _) _ _=_
  cases CG (HD m s) (Ro m x.Lane_ x.From) view
  ·rfl
  cases (Ck s).any (PM m (HD m s) (Ro m x.Lane_ x.From) x)
  ·show thenS (cond (!CG (HD m s) _ view) _ _) _ _=_
   cases CG (HD m s) (Ro m x.Lane_ x.To) view
   ·rfl
   cases (Ck s).any (PM m (HD m s) (Ro m x.Lane_ x.To) x)<;>rfl
  ·rfl
end
theorem Sl {α:Type}(l:List α):l= []∨∃(i:List α) (y:α),l=i++ [y]:=by
  rcases List.eq_nil_or_concat l with h|⟨i,y,h⟩
  ·exact .inl h
  ·exact .inr ⟨i,y,by rw [h,List.concat_eq_append]⟩
/-- A cell more. -/
def HE (l:Int)(out:List Span)(frm to:Int):List Span:=
  match out.getLast? with
  |some y=>if y.To=frm then out.dropLast++ [⟨y.Lane_,y.From,to⟩]else out++ [⟨l,frm,to⟩]
  |none=>out++ [⟨l,frm,to⟩]
def Vf (P:Span→Bool)(l n:Int):Nat→Int→List Span→List Span
  |0,_,out=>out
  |k+1,frm,out=>if frm<n then Vf P l n k (frm+1000) (if P ⟨l,frm,min (frm+1000) n⟩=true then HE l out frm (min (frm+1000) n)else out)else out
theorem MS (l frm to:Int):HE l [] frm to= [⟨l,frm,to⟩]:=rfl
theorem Ud (l:Int)(i:List Span)(y:Span)(frm to:Int):HE l (i++ [y]) frm to=if y.To=frm then i++ [⟨y.Lane_,y.From,to⟩]else i++ [y]++ [⟨l,frm,to⟩]:=by
  unfold HE
  rw [List.getLast?_concat]
  dsimp only
  rw [List.dropLast_concat]
theorem UN (l:Int)(out:List Span)(frm to:Int):(HE l out frm to).length≤out.length+1:=by
  rcases Sl out with rfl|⟨i,y,rfl⟩
  ·simp [MS]
  ·rw [Ud]
   split<;>simp
theorem iG {α:Type}(l:List α)(a:α)(h:l.length≤1000000000000):C3 (l++ [a]) (D8 (((l++ [a]).length:Int) - 1))=some a:=by
  rw [lM,F8 (by simp;omega),show ((l.length+ [a].length:Nat):Int) - 1=((l.length:Nat):Int) by simp]
  exact D0 List.getElem?_concat_length
theorem iH {α:Type}(l:List α)(a b:α)(h:l.length≤1000000000000):Nk (l++ [a]) (D8 (((l++ [a]).length:Int) - 1)) b=l++ [b]:=by
  rw [lM,F8 (by simp;omega)]
  exact AJ l [] a b _ (by simp)
section
variable {m:Map}{s:State}
theorem cM (V:ValR m)(O:StateOK m s)(view:Int){l:Int}(h0:0≤l)(h1:l<m.Lanes.length){n:Int}(hn:n≤16777216)(o:List Span)(out:List Span){frm:Int}(hf:0≤frm)(hfn:frm<n)(hl:(out.length:Int)≤frm):
    Dl (Ou m s view) (o,l) n (out,frm)=some (.go (if Xy m s view ⟨l,frm,min (frm+1000) n⟩=true then HE l out frm (min (frm+1000) n)else out,frm+1000)):=by
  unfold Dl
  dsimp only
  rw [bF hfn,bJ,Nv,F8 (n:=frm+1000) (by omega),mK V O view h0 h1 (by unfold Nt;dsimp only;omega) (by unfold Nt;dsimp only;omega),lB]
  cases Xy m s view ⟨l,frm,min (frm+1000) n⟩
  ·rfl
  ·simp only [bT,bK,if_true]
   rcases Sl out with rfl|⟨i,y,rfl⟩
   ·rw [MS,Ee (by simp)];rfl
   ·have hil:i.length≤1000000000 - 10:=by simp at hl;omega
    rw [iG i y (by omega),bF (show ((i++ [y]).length:Int)>0 by simp),bJ,lB,bO,lB,iH i y _ (by omega),Ee (by simp;omega),lB,Ud]
    by_cases q:y.To=frm
    ·rw [bM q,show (y.To==frm)=true by simpa using q,bJ]
    ·rw [bN q,show (y.To==frm)=false by simpa using q,bK]
theorem MT (V:ValR m)(O:StateOK m s)(view:Int){l:Int}(h0:0≤l)(h1:l<m.Lanes.length){n:Int}(hn:n≤16777216)(o:List Span): ∀(k:Nat) (frm:Int) (out:List Span),0≤frm→(out.length:Int)≤frm→n≤frm+1000*k→
    loop (Dl (Ou m s view) (o,l) n) (out,frm)=some (Vf (Xy m s view) l n k frm out)
  |0,frm,out,hf,hl,hk=>D2 (by unfold Dl;dsimp only;rw [bG (by omega)];rfl)
  |k+1,frm,out,hf,hl,hk=>by
   rw [Vf]
   by_cases q:frm<n
   ·rw [bM q,J9 (cM V O view h0 h1 hn o out hf q hl)]
    refine MT V O view h0 h1 hn o k _ _ (by omega) ?_ (by omega)
    have:=UN l out frm (min (frm+1000) n)
    split<;>omega
   ·rw [bN q]
    exact D2 (by unfold Dl;dsimp only;rw [bG q];rfl)
theorem BH (P:Span→Bool)(l n:Int): ∀(k:Nat) (frm:Int) (out:List Span),(Vf P l n k frm out).length≤out.length+k
  |0,_,_=>wD _
  |k+1,frm,out=>by
   rw [Vf]
   split
   ·refine wH (BH P l n k _ _) ?_
    have:=UN l out frm (min (frm+1000) n)
    split<;>omega
   ·omega
/-- What is seen of a lane. -/
def AP (m:Map)(s:State)(view:Int)(l:Int):List Span:=Vf (Xy m s view) l (If m l) 16778 0 []
def IF (m:Map)(s:State)(view:Int):List Span:=Oq (fun i (_:Lane)=>AP m s view (i:Int)) 0 m.Lanes
theorem cN (V:ValR m){l:Int}(h0:0≤l)(h1:l<m.Lanes.length):1000≤If m l∧If m l≤16777216:=by
  have:=V.long h0 h1
  unfold If
  rw [bM (isM_true.2 ⟨h0,h1,V⟩)]
  exact this
theorem mL (B:BearM m)(Z:SizeS s)(hw: ∀g∈s.Agents,g.S≤9223372036854775807)(view:Int):Tp m s view=some ((decide (view≥0)&&decide (view≤16777216))&& (HA m s==0)):=by
  unfold Tp
  rw [(UJ B Z hw).1]
  cases (decide (view≥0)&&decide (view≤16777216))<;>rfl
theorem UO (B:BearM m)(V:ValR m)(O:StateOK m s)(Z:SizeS s)(hw: ∀g∈s.Agents,g.S≤9223372036854775807)(hc:HA m s=0){view:Int}(hv:0≤view∧view≤16777216):Pr m s view=some (IF m s view):=by
  have hm:=V.lanes
  unfold Pr
  rw [mL B Z hw,hc,bF (show view≥0 by omega),bF hv.2,lB]
  show (Md m s view).bind _=_
  rw [mJ B O view,lB,pZ m.Lanes (fun i (_:Lane)=>AP m s view (i:Int)) id [] 16778 1000000 (by simp;omega) (fun i a _=>by have:=BH (Xy m s view) (i:Int) (If m i) 16778 0 [];rw [lN,wG]at this;exact this) (fun i a o hi hl=>by
   have h1:=I7 hi
   have hlen:=cN V (l:=(i:Int)) (by omega) (by omega)
   unfold Mc Vc
   dsimp only
   rw [K7 h1,bJ,show (Ou m s view).m=m from rfl,Xv B,lB,MT V O view (l:=(i:Int)) (by omega) (by omega) hlen.2 o 16778 0 [] (by omega) (by simp) (by omega)]
   rw [lB,lB,Ee,lB,H8 h1 (by omega)]
   ·rfl
   ·have:=BH (Xy m s view) (i:Int) (If m i) 16778 0 []
    simp at this;omega) (fun o=>by unfold Mc;dsimp only;rw [J3];rfl)]
  rfl
end
theorem PO {eye p:Spot}{v v':Int}(h:CG eye p v=true)(hv:v≤v')(hb:v'≤33554432):CG eye p v'=true:=by
  unfold CG at h ⊢
  simp only [bR,bH]at h ⊢
  obtain ⟨h1,⟨h2,h3⟩,h4⟩:=h
  refine ⟨h1,⟨by omega,hb⟩,?_⟩
  have:=Int.mul_le_mul hv hv (by omega) (by omega)
  omega
theorem cO {m:Map}{s:State}{v v':Int}(hv:v≤v')(hb:v'≤33554432){x:Span}(h:Xy m s v x=true):Xy m s v' x=true:=by
  unfold Xy YY at h ⊢
  simp only [bR]at h ⊢
  exact ⟨⟨PO h.1.1 hv hb,h.1.2⟩,⟨PO h.2.1 hv hb,h.2.2⟩⟩
/-- A span lies in another one. -/
def qO (x y:Span):Prop:=x.Lane_=y.Lane_∧y.From≤x.From∧x.To≤y.To
structure Cov (l:Int)(out out':List Span)(frm:Int):Prop where
  cov: ∀x∈out,∃y∈out',qO x y
  ok: ∀x∈out,x.Lane_=l∧x.From≤x.To∧x.To≤frm
  ok': ∀x∈out',x.Lane_=l∧x.From≤x.To∧x.To≤frm
  last: ∀i x,out=i++ [x]→x.To=frm→∃i' y,out'=i'++ [y]∧y.To=frm∧y.From≤x.From
theorem iI {l:Int}{out:List Span}{frm to:Int}(ht:frm≤to){x:Span}(hx:x∈out): ∃y∈HE l out frm to,qO x y:=by
  rcases Sl out with rfl|⟨i,z,rfl⟩
  ·simp at hx
  ·rw [Ud]
   split
   ·rename_i e
    rcases lT.1 hx with q|q
    ·exact ⟨x,by simp [q],rfl,Int.le_refl _,Int.le_refl _⟩
    ·simp at q;subst q
     exact ⟨⟨x.Lane_,x.From,to⟩,by simp,rfl,Int.le_refl _,by dsimp only;omega⟩
   ·exact ⟨x,by simp only [lT]at hx ⊢;exact .inl hx,rfl,Int.le_refl _,Int.le_refl _⟩
theorem mM {l:Int}{out:List Span}{frm to:Int}(h: ∀x∈out,x.Lane_=l∧x.From≤x.To∧x.To≤frm): ∃i y,HE l out frm to=i++ [y]∧y.Lane_=l∧y.From≤frm∧y.To=to:=by
  rcases Sl out with rfl|⟨i,z,rfl⟩
  ·exact ⟨[],_,rfl,rfl,Int.le_refl _,rfl⟩
  ·have hz:=h z (by simp)
   rw [Ud]
   split
   ·exact ⟨i,_,rfl,hz.1,by dsimp only;omega,rfl⟩
   ·exact ⟨i++ [z],_,rfl,rfl,Int.le_refl _,rfl⟩
theorem XO {l:Int}{out:List Span}{frm to:Int}(ht:frm≤to)(h: ∀x∈out,x.Lane_=l∧x.From≤x.To∧x.To≤frm): ∀x∈HE l out frm to,x.Lane_=l∧x.From≤x.To∧x.To≤to:=by
  intro x hx
  rcases Sl out with rfl|⟨i,z,rfl⟩
  ·rw [MS]at hx;simp at hx;subst hx;exact ⟨rfl,ht,Int.le_refl _⟩
  ·rw [Ud]at hx
   have hz:=h z (by simp)
   split at hx
   ·rcases lT.1 hx with q|q
    ·have:=h x (by simp [q]);omega
    ·simp at q;subst q;dsimp only;omega
   ·rcases lT.1 hx with q|q
    ·have:=h x q;omega
    ·simp at q;subst q;dsimp only;omega
theorem iJ {l:Int}{out out':List Span}{frm to:Int}(C:Cov l out out' frm)(ht:frm<to)(b b':Bool)(hb:b=true→b'=true):Cov l (if b=true then HE l out frm to else out) (if b'=true then HE l out' frm to else out') to:=by
  cases b'
  ·cases b
   ·refine ⟨C.cov,fun x hx=>by have:=C.ok x hx;omega,fun x hx=>by have:=C.ok' x hx;omega,fun i x e q=> ?_⟩
    have:=C.ok x (by simp at e;rw [e];simp);omega
   ·cases hb rfl
  ·cases b
   ·refine ⟨fun x hx=> ?_,fun x hx=>by have:=C.ok x hx;omega,XO (by omega) C.ok',fun i x e q=> ?_⟩
    ·obtain ⟨y,hy,h1⟩:=C.cov x hx
     obtain ⟨z,hz,h2⟩:=iI (l:=l) (frm:=frm) (to:=to) (by omega) hy
     exact ⟨z,hz,h1.1.trans h2.1,Int.le_trans h2.2.1 h1.2.1,Int.le_trans h1.2.2 h2.2.2⟩
    ·have:=C.ok x (by simp at e;rw [e];simp);omega
   ·simp only [if_true]
    obtain ⟨i',y,e',h1,h2,h3⟩:=mM (to:=to) C.ok'
    have hold: ∀x∈out,∃z∈HE l out' frm to,qO x z:=fun x hx=>by
      obtain ⟨y,hy,h1⟩:=C.cov x hx
      obtain ⟨z,hz,h2⟩:=iI (l:=l) (frm:=frm) (to:=to) (by omega) hy
      exact ⟨z,hz,h1.1.trans h2.1,Int.le_trans h2.2.1 h1.2.1,Int.le_trans h1.2.2 h2.2.2⟩
    have hnew: ∃i x,HE l out frm to=i++ [x]∧(∀z∈i,z∈out)∧x.Lane_=l∧y.From≤x.From∧x.To=to:=by
      rcases Sl out with rfl|⟨i,z,rfl⟩
      ·exact ⟨[],_,rfl,by simp,rfl,h2,rfl⟩
      ·have hz:=C.ok z (by simp)
       rw [Ud]
       split
       ·rename_i q
        obtain ⟨j,w,g1,g2,g3⟩:=C.last i z rfl q
        subst g1
        rw [Ud,bM g2]at e'
        have:=(List.append_inj' e' rfl).2
        simp at this
        refine ⟨i,_,rfl,fun z hz=>by simp [hz],hz.1,?_,rfl⟩
        rw [← this];exact g3
       ·exact ⟨i++ [z],_,rfl,fun z hz=>hz,rfl,h2,rfl⟩
    obtain ⟨i,x,e,g1,g2,g3,g4⟩:=hnew
    refine ⟨fun w hw=> ?_,XO (by omega) C.ok,XO (by omega) C.ok',fun j w ej q=> ?_⟩
    ·rw [e]at hw
     rcases lT.1 hw with q|q
     ·exact hold w (g1 w q)
     ·simp at q;subst q
      exact ⟨y,by rw [e'];simp,by rw [g2,h1],g3,by omega⟩
    ·rw [e]at ej
     have:=(List.append_inj' ej rfl).2
     simp at this;subst this
     exact ⟨i',y,e',h3,g3⟩
theorem mN {l:Int}{out out':List Span}{frm to:Int}(C:Cov l out out' frm)(ht:frm<to):Cov l out out' to:=
  ⟨C.cov,fun x hx=>by have:=C.ok x hx;omega,fun x hx=>by have:=C.ok' x hx;omega,fun i x e q=>by have:=C.ok x (by rw [e];simp);omega⟩
theorem PP (P P':Span→Bool)(hP: ∀x,P x=true→P' x=true)(l n:Int): ∀(k:Nat) (frm:Int) (out out':List Span),Cov l out out' frm→∃f,Cov l (Vf P l n k frm out) (Vf P' l n k frm out') f
  |0,frm,out,out',C=>⟨frm,C⟩
  |k+1,frm,out,out',C=>by
   rw [Vf,Vf]
   split
   ·rename_i q
    refine PP P P' hP l n k _ _ _ ?_
    have h:=iJ C (to:=min (frm+1000) n) (by omega) _ _ (hP ⟨l,frm,min (frm+1000) n⟩)
    by_cases e:frm+1000≤n
    ·rw [show min (frm+1000) n=frm+1000 by omega]at h ⊢;exact h
    ·exact mN h (by omega)
   ·exact ⟨frm,C⟩
theorem cP {m:Map}{s:State}{v v':Int}(hv:v≤v')(hb:v'≤33554432):(∀x∈IF m s v,∃y∈IF m s v',qO x y)∧∀x∈IF m s v,x.From≤x.To:=by
  have key: ∀i:Nat,∃f,Cov (i:Int) (AP m s v i) (AP m s v' i) f:=fun i=>
    PP _ _ (fun x h=>cO hv hb h) _ _ _ 0 [] [] ⟨by simp,by simp,by simp,fun i x h=>by simp at h⟩
  constructor
  ·intro x hx
   obtain ⟨i,a,h1,h2⟩:=(Sk _ _).1 hx
   obtain ⟨f,C⟩:=key (0+i)
   obtain ⟨y,h3,h4⟩:=C.cov x h2
   exact ⟨y,(Sk _ _).2 ⟨i,a,h1,h3⟩,h4⟩
  ·intro x hx
   obtain ⟨i,a,h1,h2⟩:=(Sk _ _).1 hx
   obtain ⟨f,C⟩:=key (0+i)
   exact (C.ok x h2).2.1
theorem UP (m:Map)(s:State)(v:Int)(hm:m.Lanes.length≤12):(IF m s v).length≤1000000:=by
  have:=GY (fun i (_:Lane)=>AP m s v (i:Int)) 16778 m.Lanes 0 (fun j a _=>wH (BH (Xy m s v) ((0+j:Nat):Int) (If m ((0+j:Nat):Int)) 16778 0 []) (by simp))
  have:(IF m s v).length≤m.Lanes.length*16778:=this
  omega
theorem mO (a b:List Span)(hb:b.length≤1000000){i:Nat}{x:Span}(hx:a[i]? =some x): ∀(r:List Span) (k:Nat) (is:Bool),b.drop k=r→k≤b.length→
    loop (Z1 a b (i:Int)) (is,(k:Int))=some (is||r.any fun y=>((x.Lane_==y.Lane_)&&decide (y.From≤x.From))&&decide (x.To≤y.To)):=by
  intro r
  induction r with
  |nil=>
   intro k is hk hkl
   have:=O5 hk
   obtain rfl:k=b.length:=by omega
   rw [D2 (t:=is) (by unfold Z1;dsimp only;rw [J3];rfl)]
   simp
  |cons y r ih=>
   intro k is hk hkl
   have hlt:=M9 hk
   have hy:=W7 hk
   rw [J9 (s':=(is||(((x.Lane_==y.Lane_)&&decide (y.From≤x.From))&&decide (x.To≤y.To)),((k+1:Nat):Int))),ih (k+1) _ (K0 hk) hlt,List.any_cons,Bool.or_assoc]
   unfold Z1
   dsimp only
   rw [K7 hlt,bJ,D0 hx,D0 hy,H8 hlt (by omega)]
   cases is
   ·simp only [bU,bJ,lB,bO,bV]
    cases x.Lane_==y.Lane_
    ·rfl
    ·simp only [bJ,lB,bO]
     cases decide (y.From≤x.From)<;>rfl
   ·rfl
theorem Yg (n:Int)(ps:List KitActor)(v w:Int):Mn n ps v w=some true:=by
  obtain ⟨m,hm,K,_⟩:=mD n
  unfold Mn
  rw [gM]
  by_cases q:7<ps.length
  ·rw [bF (show (ps.length:Int)>7 by omega)];rfl
  ·rw [bG (show ¬(ps.length:Int)>7 by omega),bK,hm,lB]
   obtain ⟨A,e,h0,L⟩:=iF K ps (by omega)
   obtain ⟨n1,O⟩:=iE K h0
   have Z:=iD K L.size
   have hw:=mI O
   have hc:=(BG K).2 O
   have hv:=wN v (show (80001:Int)≠0 by decide)
   have hv2:=wO v (show (0:Int)<80001 by decide)
   have hw1:=wN w (show (40000:Int)≠0 by decide)
   have hw2:=wO w (show (0:Int)<40000 by decide)
   rw [e,lB,Oo (by omega) (by omega),lB,UO K.toBearM K.val O Z hw hc (view:=v % 80001) (by omega),lB,Oo (by omega) (by omega),lB,F8 (by omega),UO K.toBearM K.val O Z hw hc (view:=v % 80001+w % 40000) (by omega),lB]
   have hmono:=cP (m:=m) (s:=(Nl m A).1) (v:=v % 80001) (v':=v % 80001+w % 40000) (by omega) (by omega)
   have l1:=UP m (Nl m A).1 (v % 80001) K.val.lanes
   have l2:=UP m (Nl m A).1 (v % 80001+w % 40000) K.val.lanes
   generalize IF m (Nl m A).1 (v % 80001)=a at*
   generalize IF m (Nl m A).1 (v % 80001+w % 40000)=b at*
   have:=Aa a (Bi a b) (fun _ _=>(none:Option Bool)) (fun i x hx=>by
     have hxm:=lG hx
     obtain ⟨y,h1,h2⟩:=hmono.1 x hxm
     have h3:=hmono.2 x hxm
     have e2:=mO a b l2 hx b 0 false rfl (by omega)
     rw [show (b.any fun y=>((x.Lane_==y.Lane_)&&decide (y.From≤x.From))&&decide (x.To≤y.To))=true from l7.2 ⟨y,h1,by simp [h2.1,h2.2.1,h2.2.2]⟩]at e2
     have e2:loop (Z1 a b (i:Int)) (false,0)=some true:=e2
     unfold Bi
     rw [K7 (I7 hx),bJ,e2,lB,D0 hx]
     simp only [bT,bU,bJ,lB,bV]
     rw [bG (by omega),bK,H8 (I7 hx) (by omega)]) (by unfold Bi;rw [J3];rfl)
   rw [this,firstE_none.2 fun _ _ _=>rfl];rfl
end
end Go.Abs.World
