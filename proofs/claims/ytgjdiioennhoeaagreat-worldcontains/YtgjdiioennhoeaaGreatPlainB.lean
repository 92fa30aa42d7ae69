/-
  Plain facts, second part: the law itself.
-/
import Derived.Test.YtgjdiioennhoeaaGreatPlain
set_option linter.all false
namespace Go.Abs
open Go
section
variable {α β σ τ:Type}
/-- What rounds put one behind the other. -/
def Rv (g:Nat→α→List β):Nat→List α→List β
  |_,[]=> []
  |i,a::r=>g i a++Rv g (i+1) r
theorem KY (g:Nat→α→List β)(C:Nat): ∀(l:List α) (i:Nat),(∀(j:Nat) a,l[j]? =some a→(g (i+j) a).length≤C)→(Rv g i l).length≤l.length*C
  | [],_,_=>by simp [Rv]
  |a::r,i,h=>by
   have h1:=h 0 a rfl
   have h2:=KY g C r (i+1) (fun j b hb=>by have:=h (j+1) b (by simpa using hb);rwa [show i+1+j=i+ (j+1) by omega])
   rw [Rv,lM,lL,Nat.succ_mul]
   rw [Nat.add_zero]at h1
   omega
end
end Go.Abs
namespace Go.Abs.World
open Go Go.Abs
theorem aP {z:Zone}(hl:z.Parts.length≤1000000)(k:Int):Tp z k=some (Lc z k):=by
  have key: ∀(r:List Part) (i:Nat),z.Parts.drop i=r→i≤z.Parts.length→thenS (loop (Ep z k) (i:Int)) (fun _=>some ((⟨0,0,0,0⟩:Part),false)) (fun r=>some r)=some (match r.find? (fun p=>p.Lane_==k)with|some p=>(p,true)|none=>(⟨0,0,0,0⟩,false)):=by
    intro r
    induction r with
    |nil=>
     intro i hi hil
     have:=O3 hi
     obtain rfl:i=z.Parts.length:=by omega
     rw [D4 (t:= .inl ()) (by unfold Ep;rw [K2];rfl)];rfl
    |cons p r ih=>
     intro i hi hil
     have hlt:=N2 hi
     have hp:=X0 hi
     rw [List.find?_cons]
     cases q:p.Lane_==k
     ·rw [K0 (s':=((i+1:Nat):Int)) (by unfold Ep;rw [L9 hlt,D5 hp,bH,lB,q,J1 hlt (by omega)];rfl)]
      exact ih (i+1) (K7 hi) (by omega)
     ·rw [D4 (t:= .inr (p,true)) (by unfold Ep;rw [L9 hlt,D5 hp,bH,lB,q,bH,lB])];rfl
  exact key z.Parts 0 rfl (by omega)
theorem jD (s:Signal)(S:SigOK s): ∀(r:List Phase) (i:Nat) (a:Int),s.Phases.drop i=r→i≤s.Phases.length→0≤a→a+10000*r.length≤1000000→loop (Bc s) (a,(i:Int))=some (a+Mi r):=by
  intro r
  induction r with
  |nil=>
   intro i a hi hil h0 h1
   have:=O3 hi
   obtain rfl:i=s.Phases.length:=by omega
   refine D4 ?_
   unfold Bc
   rw [K2];simp [Mi]
  |cons p r ih=>
   intro i a hi hil h0 h1
   have hlt:=N2 hi
   have hp:=X0 hi
   have hb:=S.ticks p (lG hp)
   simp only [lL]at h1
   have hs:Bc s (a,(i:Int))=some (.go (a+p.Ticks,((i+1:Nat):Int))):=by
     unfold Bc
     dsimp only
     rw [L9 hlt,D5 hp,bH,lB,I3 (by omega),J1 hlt (by have:=S.many;omega)]
   rw [K0 hs,ih (i+1) _ (K7 hi) (by omega) (by omega) (by omega),Mi]
   congr 1;omega
theorem jE (s:Signal)(S:SigOK s)(lane:Int): ∀(r:List Phase) (i:Nat) (a:Int),s.Phases.drop i=r→i≤s.Phases.length→0≤a→a≤1000000→thenS (loop (Y8 s lane) (a,(i:Int))) (fun _=>some false) (fun r=>some r)=some (EK lane a r):=by
  intro r
  induction r with
  |nil=>
   intro i a hi hil h0 h1
   have:=O3 hi
   obtain rfl:i=s.Phases.length:=by omega
   rw [D4 (t:= .inl ())]
   ·rfl
   ·unfold Y8
    rw [K2];rfl
  |cons p r ih=>
   intro i a hi hil h0 h1
   have hlt:=N2 hi
   have hp:=X0 hi
   have hb:=S.ticks p (lG hp)
   by_cases hc:p.Ticks≤a
   ·have hs:Y8 s lane (a,(i:Int))=some (.go (a - p.Ticks,((i+1:Nat):Int))):=by
      unfold Y8
      dsimp only
      rw [L9 hlt,D5 hp,bH,lB,show decide (a<p.Ticks)=false from bE (by omega),bI,lB,I3 (by omega),J1 hlt (by have:=S.many;omega)]
    rw [K0 hs,ih (i+1) _ (K7 hi) (by omega) (by omega) (by omega),EK,bJ hc]
   ·have hs:Y8 s lane (a,(i:Int))=some (.out (.inr (p.Green.contains lane))):=by
      unfold Y8
      dsimp only
      rw [L9 hlt,D5 hp,bH,lB,show decide (a<p.Ticks)=true from bD (by omega),bH,lB,SI _ (S.green p (lG hp)),lB]
    rw [D4 hs,EK,bK hc];rfl
theorem VW {s:Signal}(S:SigOK s)(lane:Int){tick:Int}(h:0≤tick):Nx s lane tick=some (SP s lane tick):=by
  obtain ⟨h1,h2⟩:=S.sum
  unfold Nx
  have e1:loop (Bc s) (0,0)=some (Mi s.Phases):=by
    have:=jD s S s.Phases 0 0 rfl (by omega) (by omega) (by have:=S.many;omega)
    rw [Int.zero_add]at this;exact this
  have hne:Mi s.Phases≠0:=by omega
  rw [e1,lB]
  unfold Re
  rw [bK hne,lB,bK hne,lB,bK hne,lB,fQ S h]
  refine jE s S lane s.Phases 0 _ rfl (by omega) (wI _ hne) ?_
  have:=wJ (s.Offset+tick) (b:=Mi s.Phases) (by omega)
  omega
theorem VX {m:Map}(B:BearM m)(g lane tick:Int):Ny m g lane tick=some (DO m g lane tick):=by
  unfold Ny DO
  rw [Yp B,lB]
  have e:(((SH m lane&& (decide (g≥0)))&& (decide (g< (m.Signals.length:Int))))&& (decide (tick≥0)))=((((decide (tick≥0))&& (decide (g≥0)))&& (decide (g< (m.Signals.length:Int))))&&SH m lane):=by
    cases SH m lane<;>cases decide (g≥0)<;>cases decide (g< (m.Signals.length:Int))<;>cases decide (tick≥0)<;>rfl
  rw [e]
  cases hc:((((decide (tick≥0))&& (decide (g≥0)))&& (decide (g< (m.Signals.length:Int))))&&SH m lane)
  ·rfl
  ·simp only [bO,bF]at hc
   obtain ⟨⟨⟨c1,c2⟩,c3⟩,c4⟩:=hc
   have hl:g.toNat<m.Signals.length:=by omega
   have hget:m.Signals[g.toNat]? =some (m.Signals.getD g.toNat default):=by rw [List.getD,lH hl];rfl
   have hg:C3 m.Signals g=some (m.Signals.getD g.toNat default):=by unfold C3;rw [bJ c2,hget]
   have S:=((isM_true.1 c4).2.2).sig B hget
   simp only [bH,lB,bM,hg,VW S lane c1]
def FI (x y:Int):Int:=if x<y then -1 else if x>y then 1 else 0
def eK (a b:Pass):Int:=if FI a.From b.From≠0 then FI a.From b.From else FI a.Zone_ b.Zone_
def Uw (a b:Pass):Bool:=decide (a.From<b.From∨a.From=b.From∧a.Zone_<b.Zone_)
theorem ltP_ok:LtOK Uw:=⟨fun a b h=>by simp only [Uw,bF,bV]at h ⊢;omega,fun a b c h1 h2=>by simp only [Uw,bV]at h1 h2 ⊢;omega⟩
theorem eM (a b:Pass):decide (eK a b<0)=Uw a b:=by
  unfold eK Uw FI
  rw [decide_eq_decide]
  split<;>(repeat' split)<;>omega
theorem jF (x y:Int):Bw [x,y]=some (if x≠0 then x else y):=by
  have f0:Y3 [x,y] 0=some (if x≠0 then .out (.inr x)else .go 1):=by
    by_cases h:x=0
    ·subst h;rfl
    ·have hb:(x !=0)=true:=by simp [h]
     unfold Y3
     simp [C3,h,hb]
  have f1:Y3 [x,y] 1=some (if y≠0 then .out (.inr y)else .go 2):=by
    by_cases h:y=0
    ·subst h;rfl
    ·have hb:(y !=0)=true:=by simp [h]
     unfold Y3
     simp [C3,h,hb]
  have f2:Y3 [x,y] 2=some (.out (.inl ())):=rfl
  unfold Bw
  by_cases hx:x=0
  ·by_cases hy:y=0
   ·rw [K0 (by rw [f0,bK (by simp [hx])]),K0 (by rw [f1,bK (by simp [hy])]),D4 f2]
    subst hx hy;rfl
   ·rw [K0 (by rw [f0,bK (by simp [hx])]),D4 (by rw [f1,bJ hy]),bK (by simp [hx])];rfl
  ·rw [D4 (by rw [f0,bJ hx]),bJ hx];rfl
theorem MZ (a b:Int):Bn a b=some (FI a b):=by
  have h: ∀x:Int,Ac x=some false:=fun x=>by unfold Ac;simp
  unfold Bn FI
  rw [h,h]
  simp only [lB,bI,TJ]
  split<;>(repeat' split)<;>rfl
theorem Zu (a b:Int):Ab a b=some (FI a b):=by
  have h: ∀x:Int,Hr x=some false:=fun x=>by unfold Hr;simp
  unfold Ab FI
  rw [h,h]
  simp only [lB,bI,TJ]
  split<;>(repeat' split)<;>rfl
theorem eN (a b:Pass):Bf a b=some (eK a b):=by
  unfold Bf eK
  rw [MZ,lB,Zu,lB,jF];rfl
theorem SQ (P T:List Pass)(x:Pass)(Q:List Pass)(hs:Srt Uw Q)(hN:(P++Q++x::T).length≤1000000):
    ∃Q',loop (C8 (P.length:Int)) (((P.length+Q.length:Nat):Int),P++Q++x::T)=some (P++Q'++T)∧Q'.Perm (x::Q)∧Srt Uw Q':=by
  have hstop: ∀xs,C8 (P.length:Int) ((P.length:Int),xs)=some (.out xs):=fun xs=>by
    unfold C8
    simp only [show decide ((P.length:Int)>(P.length:Int))=false from bE (by omega),bI,bN,lB]
  have hF: ∀(U V:List Pass) (q y:Pass),P.length≤U.length→(U++q::y::V).length=(P++Q++x::T).length→C8 (P.length:Int) (((U.length:Int)+1),U++q::y::V)=some (if Uw y q then .go ((U.length:Int),U++y::q::V)else .out (U++q::y::V)):=fun U V q y hP hl=>by
    unfold C8
    have hb:U.length+2≤1000000:=by rw [← hl]at hN;simp at hN;omega
    have e1:D9 ((U.length:Int)+1 - 1)=(U.length:Int):=by rw [I3 (by omega)];omega
    have g1:C3 (U++q::y::V) ((U.length:Int)+1)=some y:=by rw [eJ];exact Tc _ _ _ _ (by simp)
    have g2:C3 (U++q::y::V) (U.length:Int)=some q:=Tc _ _ _ _ rfl
    have s1:Mh (U++q::y::V) ((U.length:Int)+1) q=U++q::q::V:=by rw [eJ,CF _ _ _ _ _ (by simp)];simp
    have g3:C3 (U++q::q::V) (U.length:Int)=some q:=Tc _ _ _ _ rfl
    have s2:Mh (U++q::q::V) (U.length:Int) y=U++y::q::V:=CF _ _ _ _ _ rfl
    simp only [show decide (((U.length:Int)+1)>(P.length:Int))=true from bD (by omega),bH,bM,e1,g1,g2,s1,g3,s2,lB,eN,eM]
    cases Uw y q<;>rfl
  obtain ⟨Q',h1,h2,h3⟩:=KX ltP_ok (P:=P) (T:=T) (P++Q++x::T).length hstop hF x Q.length Q [] rfl (by simpa using hs) (by simp) (by simp)
  refine ⟨Q',?_,by simpa using h2,h3⟩
  rw [← h1];congr 1;simp
theorem NA (P A S:List Pass)(hN:(P++A++S).length≤1000000):
    ∃A',D0 (P++A++S) (P.length:Int) ((P.length+A.length:Nat):Int)=some (P++A'++S)∧A'.Perm A∧Srt Uw A':=by
  unfold D0
  have hend: ∀(xs:List Pass) (i:Nat),P.length+A.length≤i→D2 (P.length:Int) ((P.length+A.length:Nat):Int) ((i:Int),xs)=some (.out xs):=fun xs i hi=>by
    unfold D2
    rw [show decide ((i:Int)< ((P.length+A.length:Nat):Int))=false from bE (by omega)];rfl
  simp only [lM]at hN
  have hw:D9 ((P.length:Int)+1)=((P.length+1:Nat):Int):=by rw [I3 (by omega)];omega
  cases A with
  |nil=>
   refine ⟨[],?_,by simp,List.Pairwise.nil⟩
   rw [hw,D4 (hend _ _ (by simp))]
  |cons a A=>
   have hF: ∀(Q R:List Pass) (x:Pass),(P++Q++x::R++S).length=(P++a::A++S).length→P.length+Q.length<P.length+ (a::A).length→Srt Uw Q→∃Q',D2 (P.length:Int) ((P.length+ (a::A).length:Nat):Int) (((P.length+Q.length:Nat):Int),P++Q++x::R++S)=some (.go (((P.length+Q.length+1:Nat):Int),P++Q'++R++S))∧Q'.Perm (x::Q)∧Srt Uw Q':=fun Q R x hl hb hs=>by
     obtain ⟨Q',k1,k2,k3⟩:=SQ P (R++S) x Q hs (by simp only [lM,lL]at hl hN ⊢;omega)
     refine ⟨Q',?_,k2,k3⟩
     unfold D2
     have e1:P++Q++x::R++S=P++Q++x::(R++S):=by simp
     rw [show decide (((P.length+Q.length:Nat):Int)< ((P.length+ (a::A).length:Nat):Int))=true from bD (by omega),bH]
     simp only [e1,k1,lB]
     rw [I3 (by simp only [lL]at hN hb;omega)]
     simp
   obtain ⟨A',h1,h2,h3⟩:=VU (lt:=Uw) (P:=P) (S:=S) (P++a::A++S).length (P.length+ (a::A).length) hend hF A [a] (by simp) (by simp;omega) (List.pairwise_singleton _ _)
   refine ⟨A',?_,h2,h3⟩
   rw [hw,← h1];congr 1;simp
def BlkS (w:Nat)(l:List Pass):Prop:= ∀i,Srt Uw ((l.drop (i*w)).take w)
theorem BlkS.cons {w:Nat}{M R:List Pass}(hM:M.length=w)(h1:Srt Uw M)(h2:BlkS w R):BlkS w (M++R):=by
  intro i
  cases i with
  |zero=>rw [Nat.zero_mul,List.drop_zero,List.take_append_of_le_length (by omega),List.take_of_length_le (by omega)];exact h1
  |succ i=>
   have:=h2 i
   rw [wC,Nat.one_mul,List.drop_append,List.drop_eq_nil_of_le (by omega),lQ,show i*w+w - M.length=i*w by omega]
   exact this
theorem BlkS.last {w:Nat}{M:List Pass}(hM:M.length≤w)(h1:Srt Uw M):BlkS w M:=by
  intro i
  exact h1.sublist ((List.take_sublist _ _).trans (List.drop_sublist _ _))
theorem BlkS.drop {w:Nat}{R:List Pass}(h:BlkS w R):BlkS w (R.drop w):=by
  intro i
  have:=h (i+1)
  rwa [wC,Nat.one_mul,Nat.add_comm,← List.drop_drop]at this
theorem BlkS.head {w:Nat}{R:List Pass}(h:BlkS w R):Srt Uw (R.take w):=by
  have:=h 0
  rwa [Nat.zero_mul,List.drop_zero]at this
theorem jG (n:Nat)(hn:n≤100): ∀(k:Nat) (R D:List Pass),R.length≤k→D.length+R.length=n→
    ∃y R',loop (D7 (n:Int)) ((D.length:Int),((D.length+20:Nat):Int),D++R)=some y∧D0 y.2 y.1 (n:Int)=some (D++R')∧BlkS 20 R'∧R'.Perm R:=by
  intro k
  induction k with
  |zero=>
   intro R D hk hl
   obtain rfl:=List.length_eq_zero_iff.1 (show R.length=0 by omega)
   obtain ⟨A',g1,g2,g3⟩:=NA D [] [] (by simp;omega)
   simp only [lP,lN,Nat.add_zero]at g1 hl ⊢
   refine ⟨_,A',D4 (t:=((D.length:Int),D)) ?_,by rw [← hl];exact g1, .last (by rw [g2.length_eq];simp) g3,g2⟩
   unfold D7
   rw [show decide (((D.length+20:Nat):Int)≤(n:Int))=false from bE (by omega)];rfl
  |succ k ih=>
   intro R D hk hl
   by_cases h20:20≤R.length
   ·have eR:=List.take_append_drop 20 R
    have l1:(R.take 20).length=20:=by rw [lV];omega
    obtain ⟨A',g1,g2,g3⟩:=NA D (R.take 20) (R.drop 20) (by rw [lO,eR];simp;omega)
    have lA:A'.length=20:=by rw [g2.length_eq];exact l1
    rw [l1,lO,eR]at g1
    obtain ⟨y,R',k1,k2,k3,k4⟩:=ih (R.drop 20) (D++A') (by rw [List.length_drop];omega) (by rw [lM,List.length_drop];omega)
    refine ⟨y,A'++R',?_,by rw [k2,lO], .cons lA g3 k3,?_⟩
    ·rw [← k1,show (D++A').length=D.length+20 by rw [lM,lA]]
     refine K0 ?_
     unfold D7
     simp only [show decide (((D.length+20:Nat):Int)≤(n:Int))=true from bD (by omega),bH,g1,lB]
     rw [I3 (n:=((D.length+20:Nat):Int)+20) (by omega)]
     simp
    ·exact (g2.append k4).trans (by rw [eR])
   ·obtain ⟨A',g1,g2,g3⟩:=NA D R [] (by simp;omega)
    simp only [lP]at g1
    rw [hl]at g1
    refine ⟨_,A',D4 (t:=((D.length:Int),D++R)) ?_,g1, .last (by rw [g2.length_eq];omega) g3,g2⟩
    unfold D7
    rw [show decide (((D.length+20:Nat):Int)≤(n:Int))=false from bE (by omega)];rfl
theorem VY (xs:List Pass)(h:xs.length≤19): ∃ys,F7 xs=some ys∧ys.Perm xs∧Srt Uw ys:=by
  obtain ⟨y,R,k1,k2,k3,k4⟩:=jG xs.length (by omega) xs.length xs [] (wA _) (by simp)
  refine ⟨R,?_,k4,?_⟩
  ·unfold F7 I8
   have k1':loop (D7 (xs.length:Int)) (0,20,xs)=some y:=k1
   have k2':D0 y.2 y.1 (xs.length:Int)=some R:=k2
   have g1':loop (G5 (xs.length:Int) R) 20=some R:=by
     refine D4 ?_
     unfold G5
     rw [show decide ((20:Int)< (xs.length:Int))=false from bE (by omega)];rfl
   simp only [k1',lB,k2',g1']
  ·have:=k3.head
   rwa [List.take_of_length_le (by rw [k4.length_eq];omega)]at this
theorem Zv:F8=some ():=by
  have i0:E5 0 0=some ():=by
    unfold E5
    exact D4 rfl
  have h1:loop (H8 0) (0,20)=some 0:=D4 rfl
  have h2:loop (H7 0) 20=some ():=D4 rfl
  unfold F8 I9
  simp only [h1,lB,i0,h2]
theorem Uh (m:Map): ∀(r:List Int) (s:Int),Dc m s r=s+Dc m 0 r
  | [],s=>by simp [Dc]
  |a::r,s=>by rw [Dc,Dc,Uh m r (s+P7 m a),Uh m r (0+P7 m a)];omega
theorem Ld (m:Map): ∀(r:List Int) (s:Int) (i:Nat),i<r.length→(O7 m s r)[i]? =some (s+Dc m 0 (r.take i))
  | [],_,_,h=>absurd h (by simp)
  |a::r,s,0,_=>by simp [O7,Dc]
  |a::r,s,i+1,h=>by
   rw [O7,List.getElem?_cons_succ,Ld m r _ i (by simpa using h),List.take_succ_cons,Dc,Uh m _ (0+P7 m a)]
   congr 1;omega
noncomputable def Nd (m:Map)(r:List Int)(i:Nat):Int:=Dc m 0 (r.take i)
theorem Wv (m:Map)(r:List Int):Nd m r 0=0:=rfl
theorem EL (m:Map)(x:Int): ∀(l:List Int) (s:Int),Dc m s (l++ [x])=Dc m s l+P7 m x
  | [],s=>rfl
  |a::l,s=>by rw [List.cons_append,Dc,Dc,EL m x l]
theorem Qx {m:Map}{r:List Int}{i:Nat}{a:Int}(h:r[i]? =some a):Nd m r (i+1)=Nd m r i+P7 m a:=by
  unfold Nd
  rw [List.take_add_one,h]
  exact EL m a _ _
theorem eO (m:Map)(r:List Int):Nd m r r.length=Dc m 0 r:=by rw [Nd,List.take_length]
theorem RouteOK.len {m:Map}{a:Int}{t:List Int}(R:RouteOK m a t){i:Nat}{x:Int}(h:(a::t)[i]? =some x):1000≤P7 m x∧P7 m x≤16777216:=by
  have:=R.mem (lG h)
  exact R.val.long this.1 this.2
theorem RouteOK.mono {m:Map}{a:Int}{t:List Int}(R:RouteOK m a t): ∀(j i:Nat),i+j≤(a::t).length→Nd m (a::t) i+1000*j≤Nd m (a::t) (i+j)∧Nd m (a::t) (i+j)≤Nd m (a::t) i+16777216*j
  |0,i,_=>by simp
  |j+1,i,h=>by
   have:=R.mono j i (by omega)
   have e:(a::t)[i+j]? =some (a::t)[i+j]:=lH (by omega)
   have hl:=R.len e
   rw [← Nat.add_assoc,Qx e]
   omega
theorem RouteOK.lt {m:Map}{a:Int}{t:List Int}(R:RouteOK m a t){i j:Nat}(hij:i<j)(hj:j≤(a::t).length):Nd m (a::t) i+1000≤Nd m (a::t) j:=by
  have:=(R.mono (j - i) i (by omega)).1
  rw [show i+ (j - i)=j by omega]at this
  omega
theorem RouteOK.bd {m:Map}{a:Int}{t:List Int}(R:RouteOK m a t){i:Nat}(hi:i≤(a::t).length):0≤Nd m (a::t) i∧Nd m (a::t) i≤134217728:=by
  have:=R.mono i 0 (by omega)
  have h7:=R.most
  simp only [lL]at hi
  rw [wD,Wv]at this
  omega
theorem RouteOK.follow {m:Map}{a:Int}{t:List Int}(R:RouteOK m a t):Af m (a::t)=⟨m,a::t,O7 m 0 (a::t),Nd m (a::t) (a::t).length⟩:=by
  unfold Af
  rw [bJ (chkRoute_zero.2 ⟨a,t,rfl,R⟩),eO]
theorem RouteOK.starts {m:Map}{a:Int}{t:List Int}{i:Nat}(hi:i< (a::t).length):C3 (O7 m 0 (a::t)) (i:Int)=some (Nd m (a::t) i):=by
  rw [D5 (Ld m _ 0 i hi),Int.zero_add];rfl
def Ml (lane s:Int)(zi:Nat):Nat→List Part→List Pass
  |_,[]=> []
  |k,p::r=>(if p.Lane_==lane then [⟨(zi:Int),(k:Int),s+p.From,s+p.To⟩]else [])++Ml lane s zi (k+1) r
def Ox (lane s:Int):Nat→List Zone→List Pass
  |_,[]=> []
  |zi,z::r=>Ml lane s zi 0 z.Parts++Ox lane s (zi+1) r
noncomputable def Jw (m:Map):Int→List Int→List Pass
  |_,[]=> []
  |s,a::r=>Ox a s 0 m.Zones++Jw m (s+P7 m a) r
theorem Xm (lane s:Int)(zi:Nat): ∀(l:List Part) (k:Nat),(l.map (·.Lane_)).Pairwise (· < ·)→(Ml lane s zi k l).length≤1
  | [],_,_=>by simp [Ml]
  |p::r,k,h=>by
   obtain ⟨h1,h2⟩:=l9.1 h
   have nil: ∀(r:List Part) (k:Nat),(∀q∈r,q.Lane_≠lane)→Ml lane s zi k r= []:=by
     intro r
     induction r with
     |nil=>intro k _;rfl
     |cons q r ih=>
      intro k hq
      rw [Ml,ih (k+1) (fun y hy=>hq y (List.mem_cons_of_mem _ hy)),show (q.Lane_==lane)=false by simp [hq q (by simp)]]
      rfl
   rw [Ml]
   by_cases e:p.Lane_=lane
   ·rw [nil r (k+1) (fun q hq=>by
    have:p.Lane_<q.Lane_:=h1 q.Lane_ (List.mem_map_of_mem hq)
    omega)]
    simp [e]
   ·rw [show (p.Lane_==lane)=false by simp [e]]
    exact Xm lane s zi r (k+1) h2
theorem Xn {m:Map}(lane s:Int): ∀(l:List Zone) (zi:Nat),(∀z∈l,ZoneOK m z)→(Ox lane s zi l).length≤l.length
  | [],_,_=>by simp [Ox]
  |z::r,zi,h=>by
   have:=Xm lane s zi z.Parts 0 (Qw (h z (by simp)).rise)
   have:=Xn lane s r (zi+1) fun y hy=>h y (List.mem_cons_of_mem _ hy)
   rw [Ox,lM,lL]
   omega
theorem KZ (lane s:Int)(zi:Nat): ∀(l:List Part) (k:Nat) (x:Pass),x∈Ml lane s zi k l→∃(j:Nat) (p:Part),l[j]? =some p∧p.Lane_=lane∧x=⟨(zi:Int),((k+j:Nat):Int),s+p.From,s+p.To⟩
  | [],_,x,h=>by simp [Ml]at h
  |p::r,k,x,h=>by
   rw [Ml,lT]at h
   rcases h with h|h
   ·by_cases e:p.Lane_=lane
    ·rw [bJ (by simp [e]),bC]at h
     exact ⟨0,p,rfl,e,h⟩
    ·rw [bK (by simp [e])]at h;simp at h
   ·obtain ⟨j,q,h1,h2,h3⟩:=KZ lane s zi r (k+1) x h
    exact ⟨j+1,q,by simpa using h1,h2,by rw [h3];congr 1;omega⟩
theorem LA (lane s:Int): ∀(l:List Zone) (zi:Nat) (x:Pass),x∈Ox lane s zi l→∃(j:Nat) (z:Zone) (k:Nat) (p:Part),l[j]? =some z∧z.Parts[k]? =some p∧p.Lane_=lane∧x=⟨((zi+j:Nat):Int),(k:Int),s+p.From,s+p.To⟩
  | [],_,x,h=>by simp [Ox]at h
  |z::r,zi,x,h=>by
   rw [Ox,lT]at h
   rcases h with h|h
   ·obtain ⟨k,p,h1,h2,h3⟩:=KZ lane s zi z.Parts 0 x h
    exact ⟨0,z,k,p,rfl,h1,h2,by rw [h3,wD];rfl⟩
   ·obtain ⟨j,y,k,p,h0,h1,h2,h3⟩:=LA lane s r (zi+1) x h
    exact ⟨j+1,y,k,p,by simpa using h0,h1,h2,by rw [h3];congr 1;omega⟩
theorem Xo (m:Map): ∀(r:List Int) (s:Int) (x:Pass),x∈Jw m s r→∃(i:Nat) (lane:Int) (j:Nat) (z:Zone) (k:Nat) (p:Part),r[i]? =some lane∧m.Zones[j]? =some z∧z.Parts[k]? =some p∧p.Lane_=lane∧x=⟨(j:Int),(k:Int),s+Dc m 0 (r.take i)+p.From,s+Dc m 0 (r.take i)+p.To⟩
  | [],_,x,h=>by simp [Jw]at h
  |a::r,s,x,h=>by
   rw [Jw,lT]at h
   rcases h with h|h
   ·obtain ⟨j,z,k,p,h1,h2,h3,h4⟩:=LA a s m.Zones 0 x h
    exact ⟨0,a,j,z,k,p,rfl,h1,h2,h3,by rw [h4];simp [Dc]⟩
   ·obtain ⟨i,lane,j,z,k,p,h0,h1,h2,h3,h4⟩:=Xo m r _ x h
    refine ⟨i+1,lane,j,z,k,p,by simpa using h0,h1,h2,h3,?_⟩
    rw [h4,List.take_succ_cons,Dc,Uh m _ (0+P7 m a)]
    congr 1<;>omega
section
variable {m:Map}{a:Int}{t:List Int}
theorem eP (B:BearM m)(R:RouteOK m a t){i:Nat}{lane:Int}(hi:i< (a::t).length)(zi:Nat){z:Zone}(hz:m.Zones[zi]? =some z)(o1 o2:List Pass):
    ∀(r:List Part) (k:Nat) (out:List Pass),z.Parts.drop k=r→k≤z.Parts.length→out.length+r.length≤1000→
     loop (Ad (Af m (a::t)) (o1,(i:Int)) lane (o2,(zi:Int)) z) (out,(k:Int))=some (out++Ml lane (Nd m (a::t) i) zi k r):=by
  have Z:=R.val.zoneOK (lG hz)
  have h6:=Z.six
  intro r
  induction r with
  |nil=>
   intro k out hk hkl hl
   have:=O3 hk
   obtain rfl:k=z.Parts.length:=by omega
   refine D4 ?_
   unfold Ad
   rw [K2];simp [Ml]
  |cons p r ih=>
   intro k out hk hkl hl
   have hlt:=N2 hk
   have hp:=X0 hk
   have hpm:=lG hp
   have hpt:=Z.part p hpm
   have hln:=Jr Z.rise p.Lane_ (List.mem_map_of_mem hpm)
   have hll:=R.val.long hln.1 hln.2
   have hb:=R.bd (Nat.le_of_lt hi)
   simp only [lL]at hl
   have hs:Ad (Af m (a::t)) (o1,(i:Int)) lane (o2,(zi:Int)) z (out,(k:Int))=some (.go (out++ (if p.Lane_==lane then [⟨(zi:Int),(k:Int),Nd m (a::t) i+p.From,Nd m (a::t) i+p.To⟩]else []),((k+1:Nat):Int))):=by
     unfold Ad
     dsimp only
     rw [L9 hlt,D5 hp,bH,lB,J1 hlt (by omega)]
     cases p.Lane_==lane
     ·simp
     ·rw [R.follow]
      dsimp only
      rw [bH,RouteOK.starts hi,lB,lB,I3 (by omega),I3 (by omega),Je (by simp;omega)]
      rfl
   rw [K0 hs,ih (k+1) _ (K7 hk) (by omega) (by rw [lM];split<;>simp<;>omega),Ml,lO]
theorem eQ (B:BearM m)(R:RouteOK m a t){i:Nat}{lane:Int}(hi:i< (a::t).length)(o1:List Pass):
    ∀(r:List Zone) (zi:Nat) (out:List Pass),m.Zones.drop zi=r→zi≤m.Zones.length→out.length+r.length≤500→
     loop (T7 m (Af m (a::t)) (o1,(i:Int)) lane) (out,(zi:Int))=some (out++Ox lane (Nd m (a::t) i) zi r):=by
  intro r
  induction r with
  |nil=>
   intro zi out hk hkl hl
   have:=O3 hk
   obtain rfl:zi=m.Zones.length:=by omega
   refine D4 ?_
   unfold T7
   rw [K2];simp [Ox]
  |cons z r ih=>
   intro zi out hk hkl hl
   have hlt:=N2 hk
   have hz:=X0 hk
   have Z:=R.val.zoneOK (lG hz)
   have h6:=Z.six
   have hnz:=R.val.zones
   simp only [lL]at hl
   have h1:=Xm lane (Nd m (a::t) i) zi z.Parts 0 (Qw Z.rise)
   have h3:loop (Ad (Af m (a::t)) (o1,(i:Int)) lane (out,(zi:Int)) z) (out,0)=_:=eP B R hi zi hz o1 out z.Parts 0 out rfl (by omega) (by omega)
   have hs:T7 m (Af m (a::t)) (o1,(i:Int)) lane (out,(zi:Int))=some (.go (out++Ml lane (Nd m (a::t) i) zi 0 z.Parts,((zi+1:Nat):Int))):=by
     unfold T7
     dsimp only
     rw [L9 hlt,D5 hz,bH,lB,h3,lB,J1 hlt (by omega)]
   rw [K0 hs,ih (zi+1) _ (K7 hk) (by omega) (by rw [lM];omega),Ox,lO]
theorem eS (B:BearM m)(R:RouteOK m a t):
    ∀(r:List Int) (i:Nat) (out:List Pass),(a::t).drop i=r→i≤(a::t).length→out.length+12*r.length≤200→
     loop (N7 m (Af m (a::t))) (out,(i:Int))=some (out++Jw m (Nd m (a::t) i) r):=by
  have hl:(Af m (a::t)).lanes=a::t:=by rw [R.follow]
  intro r
  induction r with
  |nil=>
   intro i out hk hkl hle
   have:=O3 hk
   obtain rfl:i=(a::t).length:=by omega
   refine D4 ?_
   unfold N7
   dsimp only
   rw [hl,K2];simp [Jw]
  |cons x r ih=>
   intro i out hk hkl hle
   have hlt:=N2 hk
   have hx:=X0 hk
   have hm7:=R.most
   have hnz:=R.val.zones
   simp only [lL]at hle hlt
   have h2:loop (T7 m (Af m (a::t)) (out,(i:Int)) x) (out,0)=_:=eQ B R (lane:=x) (N2 hk) out m.Zones 0 out rfl (by omega) (by omega)
   have hs:N7 m (Af m (a::t)) (out,(i:Int))=some (.go (out++Ox x (Nd m (a::t) i) 0 m.Zones,((i+1:Nat):Int))):=by
     unfold N7
     dsimp only
     rw [hl,L9 (N2 hk),D5 hx,bH,lB,h2,lB,J1 (N2 hk) (by simp only [lL];omega)]
   have:=Xn (m:=m) x (Nd m (a::t) i) m.Zones 0 fun z hz=>R.val.zoneOK hz
   rw [K0 hs,ih (i+1) _ (K7 hk) (by simp only [lL];omega) (by rw [lM];omega),Qx hx,Jw,lO]
/-- A map with so few zones as the kit's. -/
structure BearK (m:Map):Prop extends BearM m where
  zones2:m.Zones.length≤2
theorem IK {m:Map}(V:ValR m): ∀(r:List Int) (s:Int),(Jw m s r).length≤m.Zones.length*r.length
  | [],s=>by simp [Jw]
  |a::r,s=>by
   have h1:=Xn (m:=m) a s m.Zones 0 fun z hz=>V.zoneOK hz
   have h2:=IK V r (s+P7 m a)
   rw [Jw,lM,lL,Nat.mul_add,Nat.mul_one];omega
/-- The passes: sorted, and those that there are. -/
theorem LB (B:BearK m)(R:RouteOK m a t): ∃ps,U9 m (a::t)=some ps∧ps.Perm (Jw m 0 (a::t))∧Srt Uw ps∧ps.length≤16:=by
  have hm7:=R.most
  have hlen:(Jw m 0 (a::t)).length≤16:=by
    have:=IK R.val (a::t) 0
    have h2:m.Zones.length* (a::t).length≤2*8:=Nat.mul_le_mul B.zones2 (by simp only [lL];omega)
    omega
  have h1:loop (N7 m (Af m (a::t))) ([],0)=some (Jw m 0 (a::t)):=by
    have:=eS B.toBearM R (a::t) 0 [] rfl (by omega) (by simp;omega)
    rw [lQ,Wv]at this
    exact this
  unfold U9
  rw [Pr B.toBearM _ (by simp;omega),lB,h1,lB]
  cases q:Jw m 0 (a::t)with
  |nil=>exact ⟨[],by rw [Zv];rfl, .refl _,List.Pairwise.nil,by simp⟩
  |cons x l=>
   rw [q]at hlen
   obtain ⟨ys,g1,g2,g3⟩:=VY (x::l) (by omega)
   exact ⟨ys,by rw [show List.isEmpty (x::l)=false from rfl,bI,g1];rfl,g2,g3,by rw [g2.length_eq];exact hlen⟩
end
theorem PT {m:Map}(B:BearM m)(V:ValR m)(l:List Int)(hl:l.length≤1000000): ∀(r:List Int) (i:Nat) (a:Int),l.drop (i+1)=r→l[i]? =some a→0≤a→a<m.Lanes.length→thenS (loop (W3 m l) ((i+1:Nat):Int)) (fun _=>some 0) (fun r=>some r)=some (if Jy m a r=true then 0 else 13):=by
  intro r
  induction r with
  |nil=>
   intro i a hi ha h0 h1
   have h2:=O3 hi
   have h3:=(lI.1 ha).1
   have h4:i+1=l.length:=by omega
   rw [D4 (t:= .inl ())]
   ·rfl
   ·unfold W3
    rw [show decide (((i+1:Nat):Int)< (l.length:Int))=false from bE (by omega)];rfl
  |cons b r ih=>
   intro i a hi ha h0 h1
   have hlt:=N2 hi
   have hb:=X0 hi
   obtain ⟨ln,e1,e2⟩:=Rt h0 h1
   have hw:D9 (((i+1:Nat):Int) - 1)=(i:Int):=by rw [I3 (by omega)];omega
   have hs:W3 m l ((i+1:Nat):Int)=some (if ln.Next.contains b=true then .go (((i+1+1:Nat):Int))else .out (.inr 13)):=by
     unfold W3
     rw [L9 hlt,bH,hw,D5 ha,lB,e2,lB,D5 hb,lB,SI _ (B.toBear.pts _ (lG e1)).2,lB,J1 hlt (by omega)]
     cases ln.Next.contains b<;>rfl
   have hn:nextOf m a.toNat=ln.Next:=by unfold nextOf;rw [e1];rfl
   rw [Jy,hn]
   cases q:ln.Next.contains b
   ·rw [q]at hs;rw [D4 hs];rfl
   ·rw [q]at hs
    have hbm:=V.next e1 (List.contains_iff_mem.1 q)
    rw [K0 hs,ih (i+1) b (K7 hi) hb (by omega) (by omega),bM]
theorem Me {m:Map}(B:BearM m)(r:List Int)(hr:r.length≤1000000):X6 m r=some (O6 m r):=by
  unfold X6 O6
  rw [Qs B,lB]
  by_cases q:Ta m=0
  ·have V:=chkR_zero.1 q
   rw [bK (by simpa using q),show (Ta m !=0)=false by simpa using q,bI]
   cases r with
   |nil=>rfl
   |cons a t=>
    dsimp only
    simp only [lL]at hr ⊢
    by_cases h8:7<t.length
    ·rw [bJ (.inl h8),show ((((t.length+1:Nat):Int)==0)||(decide (((t.length+1:Nat):Int)>8)))=true by simp;omega];rfl
    ·rw [show ((((t.length+1:Nat):Int)==0)||(decide (((t.length+1:Nat):Int)>8)))=false by simp;omega]
     rw [show C3 (a::t) 0=some a from rfl]
     simp only [bR,bH,lB,bS]
     by_cases h0:a<0
     ·rw [bJ (.inr (.inl h0)),bD h0];rfl
     ·rw [bE h0]
      simp only [bR,bH,lB,bS]
      by_cases h1:(m.Lanes.length:Int)≤a
      ·rw [bJ (.inr (.inr (.inl h1))),show decide (a≥(m.Lanes.length:Int))=true from bD h1];rfl
      ·rw [show decide (a≥(m.Lanes.length:Int))=false from bE (by omega)]
       simp only [bR,bH,bS]
       rw [lB,II B,lB]
       by_cases hb:Bp m a= []
       ·rw [hb,show decide ((([]:List Int).length:Int)>0)=false from rfl,bI]
        have:=PT B V (a::t) (by simpa using hr) t 0 a rfl rfl (by omega) (by omega)
        rw [show ((0+1:Nat):Int)=1 from rfl]at this
        rw [this]
        by_cases hc:Jy m a t=true
        ·rw [bJ hc,bK (by rw [hc];simp;omega)]
        ·rw [bK hc,bJ (.inr (.inr (.inr (.inr (by simpa using hc)))))]
       ·rw [bJ (.inr (.inr (.inr (.inl hb)))),show decide (((Bp m a).length:Int)>0)=true from bD (by have:=List.length_pos_iff.2 hb;omega)];rfl
  ·rw [bJ q,show (Ta m !=0)=true by simpa using q];rfl
theorem LC {m:Map}(B:BearM m){a:Int}{t:List Int}(R:RouteOK m a t):Jj m (a::t)=some (O7 m 0 (a::t),Nd m (a::t) (a::t).length):=by
  have hm7:=R.most
  have key: ∀(l:List Int) (i:Nat) (st:List Int),(a::t).drop i=l→i≤(a::t).length→st.length=i→loop (Br m (a::t)) (st,Nd m (a::t) i,(i:Int))=some (st++O7 m (Nd m (a::t) i) l,Nd m (a::t) (a::t).length):=by
    intro l
    induction l with
    |nil=>
     intro i st hi hil _
     have:=O3 hi
     obtain rfl:i=(a::t).length:=by omega
     refine D4 ?_
     unfold Br
     dsimp only
     rw [K2,O7,lP];rfl
    |cons x l ih=>
     intro i st hi hil h2
     have hlt:=N2 hi
     have hx:=X0 hi
     have hm:=R.mem (lG hx)
     have hl:=R.len hx
     have hb:=R.bd (Nat.le_of_lt hlt)
     simp only [lL]at hlt
     rw [K0 (s':=(st++ [Nd m (a::t) i],Nd m (a::t) (i+1),((i+1:Nat):Int)))]
     ·rw [ih (i+1) _ (K7 hi) (by simp;omega) (by simp [h2]),O7,Qx hx,lO];rfl
     ·unfold Br
      dsimp only
      rw [L9 (by simpa using hlt),Je (by simp;omega),bH,lB,D5 hx,lB,Uv B hm.1 hm.2,lB,J1 hlt (by omega),I3 (by omega),Qx hx]
  have:=key (a::t) 0 [] rfl (by omega) rfl
  rw [Wv]at this
  have this':loop (Br m (a::t)) ([],0,0)=_:=this
  unfold Jj
  rw [this',lB,lQ]
noncomputable def StartsM (m:Map)(r:List Int):List Int:=(Af m r).starts
noncomputable def LongM (m:Map)(r:List Int):Int:=(Af m r).length
theorem LD {m:Map}(B:BearM m)(r:List Int)(hr:r.length≤1000000):Ax m r=some (StartsM m r):=by
  unfold Ax StartsM
  rw [Pr B r hr];rfl
theorem TX {m:Map}(B:BearM m)(r:List Int)(hr:r.length≤1000000):U6 m r=some (LongM m r):=by
  unfold U6 LongM
  rw [Pr B r hr];rfl
theorem Qy {m:Map}{r:List Int}(q:O6 m r≠0):Af m r=⟨⟨0,[],[],[],[]⟩,[],[],0⟩:=by unfold Af;rw [bK q]
theorem Ui {m:Map}(B:BearM m)(r:List Int)(hr:r.length≤1000000):Gj m r=some (StartsM m r):=by
  unfold Gj
  rw [Me B r hr,lB]
  by_cases q:O6 m r=0
  ·obtain ⟨a,t,rfl,R⟩:=chkRoute_zero.1 q
   rw [q,show ((0:Int) !=0)=false from rfl,bI,LC B R,lB,StartsM,R.follow]
  ·rw [show (O6 m r !=0)=true by simpa using q,bH,StartsM,Qy q]
theorem IL {m:Map}(B:BearM m)(r:List Int)(hr:r.length≤1000000):Y7 m r=some (LongM m r):=by
  unfold Y7
  rw [Me B r hr,lB]
  by_cases q:O6 m r=0
  ·obtain ⟨a,t,rfl,R⟩:=chkRoute_zero.1 q
   rw [q,show ((0:Int) !=0)=false from rfl,bI,LC B R,lB,LongM,R.follow]
  ·rw [show (O6 m r !=0)=true by simpa using q,bH,LongM,Qy q]
theorem DP {m:Map}(B:BearM m)(r:List Int)(hr:r.length≤1000000)(k:Int):Ir m r k=some (Dl m r k):=by
  unfold Ir Dl
  rw [Me B r hr,lB]
  by_cases h:k<0∨(m.Zones.length:Int)≤k
  ·have e:(((O6 m r !=0)||(decide (k<0)))||(decide (k≥(m.Zones.length:Int))))=true:=by
     rcases h with h|h
     ·rw [bD h];simp
     ·rw [show decide (k≥(m.Zones.length:Int))=true from bD h];simp
   rw [e,bH]
   cases hz:m.Zones[k.toNat]? with
   |none=>rfl
   |some z=>
    have:=J7 hz
    dsimp only
    rw [bK (fun x=>by have:=x.1;omega)]
  ·obtain ⟨z,z1,z2⟩:=TU (m:=m) (k:=k) (by omega) (by omega)
   rw [show decide (k<0)=false from bE (by omega),show decide (k≥(m.Zones.length:Int))=false from bE (by omega),Bool.or_false,Bool.or_false,z1]
   dsimp only
   have hp:=B.toBearZ.parts z (lG z1)
   by_cases q:O6 m r=0
   ·rw [bJ ⟨by omega,q⟩,q,show ((0:Int) !=0)=false from rfl,bI]
    exact Qr r (fun l=>(Lc z l).2) (by omega) (fun i a h=>by
      have hi:=J7 h
      unfold Iq
      rw [L9 hi,z2,bH,lB,D5 h,lB,aP hp,lB]
      cases (Lc z a).2<;>rfl) (by unfold Iq;rw [K2];rfl)
   ·rw [bK (fun x=>q x.2),show (O6 m r !=0)=true by simpa using q];rfl
def iH {α τ:Type}:Stp (List α×Int) τ→Stp (Int×List α) τ
  | .go x=> .go (x.2,x.1)
  | .out t=> .out t
theorem VZ {α τ:Type}(F:List α×Int→Option (Stp (List α×Int) τ))(l:List α)(i:Int)(t:τ)(h:loop (fun s:Int×List α=>(F (s.2,s.1)).map iH) (i,l)=some t):loop F (l,i)=some t:=by
  obtain ⟨n,hn⟩:=loop_some.1 h
  refine loop_some.2 ⟨n,?_⟩
  clear h
  induction n generalizing l i with
  |zero=>cases hn
  |succ n ih=>
   rw [loopN]at hn ⊢
   dsimp only at hn
   cases hf:F (l,i)with
   |none=>rw [hf]at hn;cases hn
   |some x=>
    rw [hf]at hn
    cases x with
    |go s=>exact ih s.1 s.2 hn
    |out t'=>exact hn
theorem PU: ∀{l l':List Pass},Srt Uw l→Srt Uw l'→l.Perm l'→(∀x∈l,∀y∈l,Uw x y=false→Uw y x=false→x=y)→l=l'
  | [],l',_,_,h,_=>(List.Perm.nil_eq h)
  |a::l,[],_,_,h,_=>absurd h.length_eq (by simp)
  |a::l,b::l',h1,h2,h,hk=>by
   obtain ⟨a1,a2⟩:=l9.1 h1
   obtain ⟨b1,b2⟩:=l9.1 h2
   have hbl:b∈a::l:=h.mem_iff.2 (by simp)
   have hal:a∈b::l':=h.mem_iff.1 (by simp)
   have e1:Uw b a=false:=by
     rcases lU.1 hbl with e|e
     ·rw [e];exact ltP_ok.irr a
     ·exact a1 b e
   have e2:Uw a b=false:=by
     rcases lU.1 hal with e|e
     ·rw [e];exact ltP_ok.irr b
     ·exact b1 a e
   have hab:=hk a (by simp) b hbl e2 e1
   subst hab
   congr 1
   exact PU a2 b2 (List.Perm.cons_inv h) fun x hx y hy=>hk x (List.mem_cons_of_mem _ hx) y (List.mem_cons_of_mem _ hy)
section
variable {m:Map}{a:Int}{t:List Int}
theorem WA (R:RouteOK m a t): ∀x∈Jw m 0 (a::t),∀y∈Jw m 0 (a::t),Uw x y=false→Uw y x=false→x=y:=by
  intro x hx y hy h1 h2
  obtain ⟨i,l,j,z,k,p,e1,e2,e3,e4,e5⟩:=Xo m _ 0 x hx
  obtain ⟨i',l',j',z',k',p',f1,f2,f3,f4,f5⟩:=Xo m _ 0 y hy
  subst e4 f4
  have hx1:x.From=Nd m (a::t) i+p.From:=by rw [e5];show 0+Nd m (a::t) i+p.From=_;omega
  have hy1:y.From=Nd m (a::t) i'+p'.From:=by rw [f5];show 0+Nd m (a::t) i'+p'.From=_;omega
  have hx2:x.Zone_=(j:Int):=by rw [e5]
  have hy2:y.Zone_=(j':Int):=by rw [f5]
  simp only [Uw,bV]at h1 h2
  have hj:j=j':=by omega
  subst hj
  rw [e2]at f2
  obtain rfl:=lD f2
  have Z:=R.val.zoneOK (lG e2)
  have g1:=Z.part p (lG e3)
  have g2:=Z.part p' (lG f3)
  have n1:=Qx (m:=m) e1
  have n2:=Qx (m:=m) f1
  have hil:=(lI.1 e1).1
  have hil':=(lI.1 f1).1
  have hii:i=i':=by
    rcases Nat.lt_trichotomy i i' with h|h|h
    ·exfalso
     have:Nd m (a::t) (i+1)≤Nd m (a::t) i':=by
       rcases Nat.lt_or_ge (i+1) i' with h'|h'
       ·have:=R.lt h' (Nat.le_of_lt hil');omega
       ·rw [show i'=i+1 by omega];omega
     omega
    ·exact h
    ·exfalso
     have:Nd m (a::t) (i'+1)≤Nd m (a::t) i:=by
       rcases Nat.lt_or_ge (i'+1) i with h'|h'
       ·have:=R.lt h' (Nat.le_of_lt hil);omega
       ·rw [show i=i'+1 by omega];omega
     omega
  subst hii
  rw [e1]at f1
  have hlane:=lD f1
  have hkk:k=k':=by
    have hp:=Qw Z.rise
    have hk1:=(lI.1 e3).1
    have hk2:=(lI.1 f3).1
    have q1:z.Parts[k]=p:=(lI.1 e3).2
    have q2:z.Parts[k']=p':=(lI.1 f3).2
    have hpi:=List.pairwise_iff_getElem.1 hp
    rcases Nat.lt_trichotomy k k' with h|h|h
    ·have:=hpi k k' (by simpa using hk1) (by simpa using hk2) h
     simp only [List.getElem_map,q1,q2]at this;omega
    ·exact h
    ·have:=hpi k' k (by simpa using hk2) (by simpa using hk1) h
     simp only [List.getElem_map,q1,q2]at this;omega
  subst hkk
  rw [e3]at f3
  obtain rfl:=lD f3
  rw [e5,f5]
theorem jH (B:BearM m)(R:RouteOK m a t){i:Nat}{lane:Int}(hx:(a::t)[i]? =some lane)(zi:Nat){z:Zone}(hz:m.Zones[zi]? =some z)(o1 o2:List Pass):
    ∀(r:List Part) (k:Nat) (out:List Pass),z.Parts.drop k=r→k≤z.Parts.length→out.length+r.length≤1000→
     loop (Z7 m (a::t) (O7 m 0 (a::t)) (o1,(i:Int)) (o2,(zi:Int))) (out,(k:Int))=some (out++Ml lane (Nd m (a::t) i) zi k r):=by
  have Z:=R.val.zoneOK (lG hz)
  have h6:=Z.six
  have hi:i< (a::t).length:=(lI.1 hx).1
  intro r
  induction r with
  |nil=>
   intro k out hk hkl hl
   have:=O3 hk
   obtain rfl:k=z.Parts.length:=by omega
   refine D4 ?_
   unfold Z7
   dsimp only
   rw [D5 hz,lB,K2];simp [Ml]
  |cons p r ih=>
   intro k out hk hkl hl
   have hlt:=N2 hk
   have hp:=X0 hk
   have hpm:=lG hp
   have hpt:=Z.part p hpm
   have hln:=Jr Z.rise p.Lane_ (List.mem_map_of_mem hpm)
   have hll:=R.val.long hln.1 hln.2
   have hb:=R.bd (Nat.le_of_lt hi)
   simp only [lL]at hl
   have hs:Z7 m (a::t) (O7 m 0 (a::t)) (o1,(i:Int)) (o2,(zi:Int)) (out,(k:Int))=some (.go (out++ (if p.Lane_==lane then [⟨(zi:Int),(k:Int),Nd m (a::t) i+p.From,Nd m (a::t) i+p.To⟩]else []),((k+1:Nat):Int))):=by
     unfold Z7
     dsimp only
     rw [D5 hz,lB,L9 hlt,bH,lB,D5 hp,lB,D5 hx,lB,J1 hlt (by omega)]
     cases p.Lane_==lane
     ·simp
     ·rw [bH,RouteOK.starts hi,lB,lB,I3 (by omega),I3 (by omega),Je (by simp;omega)]
      rfl
   rw [K0 hs,ih (k+1) _ (K7 hk) (by omega) (by rw [lM];split<;>simp<;>omega),Ml,lO]
theorem jI (B:BearM m)(R:RouteOK m a t){i:Nat}{lane:Int}(hx:(a::t)[i]? =some lane)(o1:List Pass):
    ∀(r:List Zone) (zi:Nat) (out:List Pass),m.Zones.drop zi=r→zi≤m.Zones.length→out.length+r.length≤500→
     loop (Z8 m (a::t) (O7 m 0 (a::t)) (o1,(i:Int))) (out,(zi:Int))=some (out++Ox lane (Nd m (a::t) i) zi r):=by
  intro r
  induction r with
  |nil=>
   intro zi out hk hkl hl
   have:=O3 hk
   obtain rfl:zi=m.Zones.length:=by omega
   refine D4 ?_
   unfold Z8
   rw [K2];simp [Ox]
  |cons z r ih=>
   intro zi out hk hkl hl
   have hlt:=N2 hk
   have hz:=X0 hk
   have Z:=R.val.zoneOK (lG hz)
   have h6:=Z.six
   have hnz:=R.val.zones
   simp only [lL]at hl
   have h1:=Xm lane (Nd m (a::t) i) zi z.Parts 0 (Qw Z.rise)
   have h3:loop (Z7 m (a::t) (O7 m 0 (a::t)) (o1,(i:Int)) (out,(zi:Int))) (out,0)=_:=jH B R hx zi hz o1 out z.Parts 0 out rfl (by omega) (by omega)
   have hs:Z8 m (a::t) (O7 m 0 (a::t)) (o1,(i:Int)) (out,(zi:Int))=some (.go (out++Ml lane (Nd m (a::t) i) zi 0 z.Parts,((zi+1:Nat):Int))):=by
     unfold Z8
     dsimp only
     rw [L9 hlt,bH,h3,lB,J1 hlt (by omega)]
   rw [K0 hs,ih (zi+1) _ (K7 hk) (by omega) (by rw [lM];omega),Ox,lO]
theorem jJ (B:BearM m)(R:RouteOK m a t):
    ∀(r:List Int) (i:Nat) (out:List Pass),(a::t).drop i=r→i≤(a::t).length→out.length+12*r.length≤200→
     loop (X2 m (a::t) (O7 m 0 (a::t))) (out,(i:Int))=some (out++Jw m (Nd m (a::t) i) r):=by
  have hlen:(O7 m 0 (a::t)).length=(a::t).length:=Of _ _ _
  intro r
  induction r with
  |nil=>
   intro i out hk hkl hle
   have:=O3 hk
   have hii:i=(a::t).length:=by omega
   refine D4 ?_
   unfold X2
   dsimp only
   rw [hlen,hii,K2];simp [Jw]
  |cons x r ih=>
   intro i out hk hkl hle
   have hlt:=N2 hk
   have hx:=X0 hk
   have hm7:=R.most
   have hnz:=R.val.zones
   simp only [lL]at hle hlt
   have h2:loop (Z8 m (a::t) (O7 m 0 (a::t)) (out,(i:Int))) (out,0)=_:=jI B R hx out m.Zones 0 out rfl (by omega) (by omega)
   have hs:X2 m (a::t) (O7 m 0 (a::t)) (out,(i:Int))=some (.go (out++Ox x (Nd m (a::t) i) 0 m.Zones,((i+1:Nat):Int))):=by
     unfold X2
     dsimp only
     rw [hlen,L9 (N2 hk),bH,h2,lB,J1 (N2 hk) (by simp only [lL];omega)]
   have:=Xn (m:=m) x (Nd m (a::t) i) m.Zones 0 fun z hz=>R.val.zoneOK hz
   rw [K0 hs,ih (i+1) _ (K7 hk) (by simp only [lL];omega) (by rw [lM];omega),Qx hx,Jw,lO]
end
/-- The document's insertion sort. -/
theorem aQ (T:List Pass)(x:Pass)(Q:List Pass)(hs:Srt Uw Q)(hN:(Q++x::T).length≤1000000):
    ∃Q',loop T6 (Q++x::T,(Q.length:Int))=some (Q'++T)∧Q'.Perm (x::Q)∧Srt Uw Q':=by
  have hstop: ∀xs:List Pass,(fun s:Int×List Pass=>(T6 (s.2,s.1)).map iH) ((([]:List Pass).length:Int),xs)=some (.out xs):=fun xs=>by
    show (T6 (xs,0)).map iH=_
    unfold T6
    rfl
  have hF: ∀(U V:List Pass) (q y:Pass),([]:List Pass).length≤U.length→(U++q::y::V).length=(Q++x::T).length→(fun s:Int×List Pass=>(T6 (s.2,s.1)).map iH) (((U.length:Int)+1),U++q::y::V)=some (if Uw y q then .go ((U.length:Int),U++y::q::V)else .out (U++q::y::V)):=fun U V q y _ hl=>by
    show (T6 (U++q::y::V,(U.length:Int)+1)).map iH=_
    unfold T6
    have hb:U.length+2≤1000000:=by rw [← hl]at hN;simp at hN;omega
    have e1:D9 ((U.length:Int)+1 - 1)=(U.length:Int):=by rw [I3 (by omega)];omega
    have g1:C3 (U++q::y::V) ((U.length:Int)+1)=some y:=by rw [eJ];exact Tc _ _ _ _ (by simp)
    have g2:C3 (U++q::y::V) (U.length:Int)=some q:=Tc _ _ _ _ rfl
    have s1:Mh (U++q::y::V) ((U.length:Int)+1) q=U++q::q::V:=by rw [eJ,CF _ _ _ _ _ (by simp)];simp
    have g3:C3 (U++q::q::V) (U.length:Int)=some q:=Tc _ _ _ _ rfl
    have s2:Mh (U++q::q::V) (U.length:Int) y=U++y::q::V:=CF _ _ _ _ _ rfl
    simp only [show decide (((U.length:Int)+1)>0)=true from bD (by omega),bH,bM,e1,g1,g2,s1,g3,s2,lB]
    by_cases h1:y.From<q.From
    ·rw [bD h1,show Uw y q=true from bD (.inl h1)];rfl
    ·rw [bE h1]
     simp only [bR,bH,lB,bM,bS]
     by_cases h2:y.From=q.From
     ·rw [show (y.From==q.From)=true by simp [h2]]
      simp only [bH,lB,bM]
      by_cases h3:y.Zone_<q.Zone_
      ·rw [bD h3,show Uw y q=true from bD (.inr ⟨h2,h3⟩)];rfl
      ·rw [bE h3,show Uw y q=false from bE (by omega)];rfl
     ·rw [show (y.From==q.From)=false by simp [h2],show Uw y q=false from bE (by omega)];rfl
  obtain ⟨Q',h1,h2,h3⟩:=KX ltP_ok (F:=fun s:Int×List Pass=>(T6 (s.2,s.1)).map iH) (P:= []) (T:=T) (Q++x::T).length hstop hF x Q.length Q [] rfl (by simpa using hs) (by simp) (by simp)
  refine ⟨Q',VZ _ _ _ _ ?_,by simpa using h2,h3⟩
  have e:(((([]:List Pass).length+Q.length:Nat):Int),[]++Q++ [x]++T)=((Q.length:Int),Q++x::T):=by simp
  rw [e]at h1
  rw [h1];rfl
theorem fR (A:List Pass)(hN:A.length≤1000000): ∃A',loop Z6 (A,1)=some A'∧A'.Perm A∧Srt Uw A':=by
  have hend: ∀(xs:List Pass) (i:Nat),xs.length≤i→Z6 (xs,(i:Int))=some (.out xs):=fun xs i hi=>by
    unfold Z6
    rw [show decide ((i:Int)< (xs.length:Int))=false from bE (by omega)];rfl
  have key: ∀(R Q:List Pass),(Q++R).length≤1000000→Srt Uw Q→∃A',loop Z6 (Q++R,(Q.length:Int))=some A'∧A'.Perm (Q++R)∧Srt Uw A':=by
    intro R
    induction R with
    |nil=>
     intro Q hl hs
     exact ⟨Q,by rw [lP];exact D4 (hend _ _ (wA _)),by simp,hs⟩
    |cons x R ih=>
     intro Q hl hs
     obtain ⟨Q',k1,k2,k3⟩:=aQ R x Q hs hl
     have hlq:Q'.length=Q.length+1:=by rw [k2.length_eq];simp
     simp only [lM,lL]at hl
     obtain ⟨A',g1,g2,g3⟩:=ih Q' (by rw [lM];omega) k3
     refine ⟨A',?_,g2.trans ((k2.append_right R).trans (List.perm_middle (a:=x) (l₁:=Q) (l₂:=R)).symm),g3⟩
     rw [← g1,hlq]
     refine K0 ?_
     unfold Z6
     dsimp only
     rw [show decide ((Q.length:Int)< ((Q++x::R).length:Int))=true from bD (by simp;omega),bH,k1,lB,I3 (by omega)]
     congr 2
  cases A with
  |nil=>exact ⟨[],D4 (hend [] 1 (by simp)), .refl _,List.Pairwise.nil⟩
  |cons a A=>
   obtain ⟨A',g1,g2,g3⟩:=key A [a] (by simpa using hN) (List.pairwise_singleton _ _)
   exact ⟨A',g1,g2,g3⟩
theorem SR {m:Map}(B:BearK m)(r:List Int)(hr:r.length≤1000000): ∃ps,U9 m r=some ps∧Dx m r=some ps∧ps.length≤16:=by
  by_cases q:O6 m r=0
  ·obtain ⟨a,t,rfl,R⟩:=chkRoute_zero.1 q
   obtain ⟨ps,p1,p2,p3,p4⟩:=LB B R
   refine ⟨ps,p1,?_,p4⟩
   have hm7:=R.most
   have hlen:(Jw m 0 (a::t)).length≤16:=by rw [← p2.length_eq];exact p4
   have h1:loop (X2 m (a::t) (O7 m 0 (a::t))) ([],0)=some (Jw m 0 (a::t)):=by
     have:=jJ B.toBearM R (a::t) 0 [] rfl (by omega) (by simp;omega)
     rw [lQ,Wv]at this
     exact this
   obtain ⟨A',g1,g2,g3⟩:=fR (Jw m 0 (a::t)) (by omega)
   have:ps=A':=PU p3 g3 (p2.trans g2.symm) fun x hx y hy=>WA R x (p2.mem_iff.1 hx) y (p2.mem_iff.1 hy)
   unfold Dx
   rw [Ui B.toBearM _ hr,lB,show StartsM m (a::t)=O7 m 0 (a::t) by unfold StartsM;rw [R.follow],h1,lB,g1,this];rfl
  ·refine ⟨[],?_,?_,by simp⟩
   ·have h1:loop (N7 m (Af m r)) ([],0)=some []:=by
      refine D4 ?_
      unfold N7
      rw [Qy q];rfl
    unfold U9
    rw [Pr B.toBearM r hr,lB,h1,lB,Zv];rfl
   ·have h1:loop (X2 m r []) ([],0)=some []:=D4 rfl
    obtain ⟨A',g1,g2,_⟩:=fR [] (by simp)
    obtain rfl:A'= []:=List.length_eq_zero_iff.1 g2.length_eq
    unfold Dx
    rw [Ui B.toBearM r hr,lB,StartsM,Qy q]
    dsimp only
    rw [h1,lB,g1];rfl
structure SmallS (s:State):Prop where
  agents:s.Agents.length≤10
  ins:s.In.length≤20
  routes: ∀a∈s.Agents,a.Route.length≤10
theorem aR {n k:Int}(hk:0<k)(hk2:k≤1000000):Pl n k=some (n % k):=by
  have h1:=DN (n:=n) hk
  have a:=Fe n hk
  have b: -k≤n.tmod k∧n.tmod k<k:=by
    have:=Int.tmod_lt_of_pos n hk
    split at h1<;>omega
  unfold Pl Re
  rw [bK (by omega),lB,I3 (by omega),bK (by omega),lB]
  congr 1
  rw [h1]
  by_cases q:n.tmod k<0
  ·rw [bJ q,Int.tmod_eq_of_lt (by omega) (by omega)]
  ·rw [bK q,wH (by omega),Int.add_emod_right]
   exact Int.emod_eq_of_lt (by omega) (by omega)
/-! ### Copies -/
theorem IM {α:Type}{l:List α}(h:l.length≤1000000):Au ([]:List α) l=some l:=by
  rw [Je (by simp;omega),lQ]
structure SizeS (s:State):Prop where
  agents:s.Agents.length≤1000
  ins:s.In.length≤1000000
  routes: ∀a∈s.Agents,a.Route.length≤1000
theorem SmallS.size {s:State}(h:SmallS s):SizeS s:=⟨by have:=h.agents;omega,by have:=h.ins;omega,fun a ha=>by have:=h.routes a ha;omega⟩
theorem WB (F:Int×State→Option (Stp (Int×State) State))(s:State)(h:SizeS s)(l0:List Stay)
    (hF: ∀(i:Nat) (a:Agent) (t:State),s.Agents[i]? =some a→F ((i:Int),t)=(Au t.Agents [a]).bind fun v=>some (.go (D9 ((i:Int)+1),⟨t.Tick,v,t.In⟩))) (h0: ∀t:State,F ((s.Agents.length:Int),t)=some (.out t)):
    loop F (0,⟨s.Tick,[],l0⟩)=some ⟨s.Tick,s.Agents,l0⟩:=by
  have key: ∀(r:List Agent) (i:Nat),s.Agents.drop i=r→i≤s.Agents.length→loop F ((i:Int),⟨s.Tick,s.Agents.take i,l0⟩)=some ⟨s.Tick,s.Agents,l0⟩:=by
    intro r
    induction r with
    |nil=>
     intro i hi hil
     have:=O3 hi
     obtain rfl:i=s.Agents.length:=by omega
     rw [D4 (h0 _),List.take_length]
    |cons a r ih=>
     intro i hi hil
     have hlt:=N2 hi
     have ha:=X0 hi
     have hh:=h.agents
     rw [K0 (s':=(((i+1:Nat):Int),⟨s.Tick,s.Agents.take (i+1),l0⟩)),ih (i+1) (K7 hi) hlt]
     rw [hF i a _ ha,Je (by rw [lV];simp;omega),lB,J1 hlt (by omega),List.take_add_one,ha];rfl
  exact key s.Agents 0 rfl (by omega)
theorem aS {s:State}(h:SizeS s):HU s=some s:=by
  unfold HU
  rw [IM h.ins,lB,WB (Nm s) s h s.In (fun i a t ha=> ?_) (fun t=>by unfold Nm;dsimp only;rw [K2];rfl)]
  ·rfl
  ·unfold Nm
   dsimp only
   rw [L9 (J7 ha),D5 ha,bH,lB,IM (by have:=h.routes a (lG ha);omega),lB]
/-- The last place up to a number. -/
def Qz (S:Int):Nat→Nat→List Int→Nat
  |_,b,[]=>b
  |i,b,x::r=>Qz S (i+1) (if x≤S then i else b) r
theorem PV (st:List Int)(S:Int): ∀(r:List Int) (i b:Nat),st.drop i=r→i≤st.length→(i=0→b=0)→(0<i→b<i∧(∃y,st[b]? =some y∧y≤S)∧∀(j:Nat) y,b<j→j<i→st[j]? =some y→S<y)→(∃y,st[0]? =some y∧y≤S)→
    (∃y,st[Qz S i b r]? =some y∧y≤S)∧∀(j:Nat) y,Qz S i b r<j→st[j]? =some y→S<y:=by
  intro r
  induction r with
  |nil=>
   intro i b hi hil h0 h1 hne
   have:=O3 hi
   obtain ⟨y0,g0,_⟩:=hne
   have:=J7 g0
   obtain ⟨q1,q2,q3⟩:=h1 (by omega)
   exact ⟨q2,fun j y hj hy=>q3 j y hj (by have:=J7 hy;omega) hy⟩
  |cons x r ih=>
   intro i b hi hil h0 h1 hne
   have hx:=X0 hi
   have hlt:=N2 hi
   unfold Qz
   refine ih (i+1) _ (K7 hi) hlt (by omega) (fun _=> ?_) hne
   by_cases q:x≤S
   ·rw [bJ q]
    exact ⟨by omega,⟨x,hx,q⟩,fun j y h2 h3=>by omega⟩
   ·rw [bK q]
    by_cases z:i=0
    ·subst z
     obtain ⟨y0,g0,g1⟩:=hne
     rw [hx]at g0;cases g0;exact absurd g1 q
    ·obtain ⟨q1,q2,q3⟩:=h1 (by omega)
     refine ⟨by omega,q2,fun j y h2 h3 hy=> ?_⟩
     by_cases e:j=i
     ·subst e;rw [hx]at hy;cases hy;omega
     ·exact q3 j y h2 (by omega) hy
theorem WC {st:List Int}{S:Int}(hne: ∃y,st[0]? =some y∧y≤S):(∃y,st[Qz S 0 0 st]? =some y∧y≤S)∧∀(j:Nat) y,Qz S 0 0 st<j→st[j]? =some y→S<y:=
  PV st S st 0 0 rfl (by omega) (fun _=>rfl) (fun h=>by omega) hne
theorem eT (g:Agent)(st:List Int)(hl:st.length≤1000000): ∀(r:List Int) (i b:Nat),st.drop i=r→i≤st.length→loop (En g st) ((b:Int),(i:Int))=some ((Qz g.S i b r:Nat):Int):=by
  intro r
  induction r with
  |nil=>
   intro i b hi hil
   have:=O3 hi
   obtain rfl:i=st.length:=by omega
   exact D4 (by unfold En;dsimp only;rw [K2];rfl)
  |cons x r ih=>
   intro i b hi hil
   have hx:=X0 hi
   have hlt:=N2 hi
   unfold Qz
   by_cases q:x≤g.S
   ·rw [bJ q,K0 (s':=((i:Int),((i+1:Nat):Int))),ih (i+1) i (K7 hi) hlt]
    unfold En;dsimp only
    rw [L9 hlt,D5 hx,bH,lB,bD q,bH,J1 hlt (by omega)]
   ·rw [bK q,K0 (s':=((b:Int),((i+1:Nat):Int))),ih (i+1) b (K7 hi) hlt]
    unfold En;dsimp only
    rw [L9 hlt,D5 hx,bH,lB,bE q,bI,J1 hlt (by omega)]
theorem WD (g:Agent)(st:List Int)(hl:st.length≤1000000)(k:Nat)(hk: ∃y,st[k]? =some y∧y≤g.S)(hj: ∀(j:Nat) y,k<j→st[j]? =some y→g.S<y): ∀(n i:Nat),i=k+n→i<st.length→loop (Hp g st) (i:Int)=some (k:Int):=by
  intro n
  induction n with
  |zero=>
   intro i hi hil
   obtain ⟨y,h1,h2⟩:=hk
   obtain rfl:i=k:=by omega
   exact D4 (by unfold Hp;rw [D5 h1,lB,bE (show ¬y>g.S by omega)];rfl)
  |succ n ih=>
   intro i hi hil
   have h1:st[i]? =some st[i]:=lH hil
   have h2:=hj i _ (by omega) h1
   rw [K0 (s':=((i - 1:Nat):Int)) (by unfold Hp;rw [D5 h1,lB,bD (show st[i]>g.S by omega),bH,I3 (by omega)];congr 2;omega)]
   exact ih (i - 1) (by omega) (by omega)
noncomputable def JQ (m:Map)(g:Agent):Nat:=Qz g.S 0 0 (StartsM m g.Route)
/-- The lane of an agent, and its offset. -/
noncomputable def Yr (m:Map)(g:Agent):Int×Int:=(g.Route.getD (JQ m g) 0,g.S - (StartsM m g.Route).getD (JQ m g) 0)
theorem RouteOK.StartsM {m:Map}{a:Int}{t:List Int}(R:RouteOK m a t):StartsM m (a::t)=O7 m 0 (a::t):=by unfold World.StartsM;rw [R.follow]
theorem RouteOK.LongM {m:Map}{a:Int}{t:List Int}(R:RouteOK m a t):LongM m (a::t)=Nd m (a::t) (a::t).length:=by unfold World.LongM;rw [R.follow]
theorem DQ {m:Map}{a:Int}{t:List Int}(R:RouteOK m a t){g:Agent}(hg:g.Route=a::t)(h0:0≤g.S):
    ∃x,JQ m g< (a::t).length∧(a::t)[JQ m g]? =some x∧Yr m g=(x,g.S - Nd m (a::t) (JQ m g))∧Nd m (a::t) (JQ m g)≤g.S∧(∀j,JQ m g<j→j< (a::t).length→g.S<Nd m (a::t) j):=by
  have hl:=Of m (a::t) 0
  have h00:(O7 m 0 (a::t))[0]? =some 0:=by rw [O7];rfl
  obtain ⟨⟨y,y1,y2⟩,y3⟩:=WC (st:=O7 m 0 (a::t)) (S:=g.S) ⟨0,h00,h0⟩
  have e:JQ m g=Qz g.S 0 0 (O7 m 0 (a::t)):=by unfold JQ;rw [hg,R.StartsM]
  rw [← e]at y1 y3
  have hlt:=J7 y1
  rw [hl]at hlt
  have hy:y=Nd m (a::t) (JQ m g):=by
    have:=Ld m (a::t) 0 (JQ m g) hlt
    rw [y1,Int.zero_add]at this
    exact lD this
  refine ⟨(a::t)[JQ m g],hlt,lH hlt,?_,by omega,fun j hj hjl=> ?_⟩
  ·unfold Yr
   rw [hg,R.StartsM,List.getD,List.getD,lH hlt,y1,hy];rfl
  ·have:=Ld m (a::t) 0 j hjl
   rw [Int.zero_add]at this
   exact y3 j _ hj this
theorem aT {m:Map}(B:BearM m){a:Int}{t:List Int}(R:RouteOK m a t){g:Agent}(hg:g.Route=a::t)(h0:0≤g.S)(h1:g.S≤9223372036854775807):Gn m g=some (Yr m g)∧Qc m g=some (Yr m g):=by
  obtain ⟨x,q1,q2,q3,q4,q5⟩:=DQ R hg h0
  have hm7:=R.most
  have hr:g.Route.length≤1000000:=by rw [hg];simp;omega
  have hl:=Of m (a::t) 0
  have hbd:=R.bd (i:=JQ m g) (by omega)
  have hs:C3 (O7 m 0 (a::t)) ((JQ m g:Nat):Int)=some (Nd m (a::t) (JQ m g)):=RouteOK.starts q1
  have hk:(O7 m 0 (a::t))[JQ m g]? =some (Nd m (a::t) (JQ m g)):=by rw [Ld m _ 0 _ q1,Int.zero_add];rfl
  constructor
  ·unfold Gn
   rw [LD B _ hr,lB,hg,R.StartsM]
   have hn:D9 (((O7 m 0 (a::t)).length:Int) - 1)=((t.length:Nat):Int):=by rw [hl,I3 (by simp;omega)];simp
   rw [hn,WD g _ (by rw [hl];simp;omega) (JQ m g) ⟨_,hk,q4⟩ (fun j y hj hy=>by
    have hjl:=J7 hy
    rw [hl]at hjl
    have:=Ld m (a::t) 0 j hjl
    rw [hy,Int.zero_add]at this
    cases this
    exact q5 j hj hjl) (t.length - JQ m g) t.length (by simp only [lL]at q1;omega) (by rw [hl];simp),lB,D5 q2,lB,hs,lB,q3,I3 (by omega)]
  ·unfold Qc
   rw [Ui B _ hr,lB,hg,R.StartsM]
   have:=eT g (O7 m 0 (a::t)) (by rw [hl];simp;omega) (O7 m 0 (a::t)) 0 0 rfl (by omega)
   have e:JQ m g=Qz g.S 0 0 (O7 m 0 (a::t)):=by unfold JQ;rw [hg,R.StartsM]
   rw [← e]at this
   rw [show ((0:Int),(0:Int))=(((0:Nat):Int),((0:Nat):Int)) from rfl,this,lB,D5 q2,lB,hs,lB,q3,I3 (by omega)]
noncomputable def Dm (m:Map)(x:Int):Int:=((m.Lanes[x.toNat]?).map (·.Kind)).getD 0
/-- The greatest speed, acceleration and braking where an agent is. -/
noncomputable def PW (m:Map)(g:Agent):Int×Int×Int:=Fv (Dm m (Yr m g).1)
noncomputable def CG (m:Map)(g:Agent):Bool:=decide (D9 (g.S - g.Len)>LongM m g.Route)
def NB (g:Agent):Bool:=(((decide (g.Len<300)||decide (g.Len>20000))||decide (g.Begin<0))||decide (g.Begin>1099511627776))||decide (g.S<0)
/-- The error of an agent of a state. -/
noncomputable def Dd (m:Map)(s:State)(i:Int)(g:Agent):Int:=
  if O6 m g.Route=0 then
   if NB g=true∨g.S>LongM m g.Route+g.Len+2000 then 2
   else if g.V<0∨g.V>(PW m g).1 then 2
   else if g.Gone≠CG m g∨(g.Begin>s.Tick∧g.S≠0)∨(i=0∧g.Begin≠0)then 10 else 0
  else 13
theorem Ra {m:Map}{a:Int}{t:List Int}(R:RouteOK m a t):1000≤LongM m (a::t)∧LongM m (a::t)≤134217728:=by
  have h1:=R.bd (wA _)
  have h2:=R.lt (i:=0) (j:=(a::t).length) (by simp) (wA _)
  rw [Wv]at h2
  rw [R.LongM];omega
theorem TY {m:Map}(B:BearM m){g:Agent}(hr:g.Route.length≤1000000):Gp m g=some (CG m g)∧Qd m g=some (CG m g):=by
  constructor
  ·unfold Gp Bv
   rw [lB,TX B _ hr];rfl
  ·unfold Qd
   rw [IL B _ hr];rfl
theorem WE {m:Map}{a:Int}{t:List Int}(R:RouteOK m a t){g:Agent}(hg:g.Route=a::t)(h0:0≤g.S): ∃l,C3 m.Lanes (Yr m g).1=some l∧Dm m (Yr m g).1=l.Kind∧m.Lanes[(Yr m g).1.toNat]? =some l:=by
  obtain ⟨x,q1,q2,q3,_⟩:=DQ R hg h0
  have hx:=R.mem (lG q2)
  have hl:m.Lanes[x.toNat]? =some m.Lanes[x.toNat]:=lH (by omega)
  have hg:=D5 hl
  rw [bZ hx.1]at hg
  refine ⟨_,by rw [q3];exact hg,?_,by rw [q3];exact hl⟩
  rw [q3];unfold Dm
  dsimp only
  rw [hl];rfl
theorem IN {g:Agent}(h:NB g=false):300≤g.Len∧g.Len≤20000∧0≤g.Begin∧g.Begin≤1099511627776∧0≤g.S:=by
  unfold NB at h
  simp only [Bool.or_eq_false_iff,bV]at h
  omega
theorem PX {m:Map}(B:BearM m)(s:State){i:Int}{g:Agent}(hi:C3 s.Agents i=some g)(hr:g.Route.length≤1000)(hS:g.S≤9223372036854775807):
    X9 m s i=some (Dd m s i g)∧Fk m s i=some (Dd m s i g):=by
  have hr':g.Route.length≤1000000:=by omega
  unfold X9 Fk Dd
  rw [hi,lB,lB,Yq B _ hr',Me B _ hr',lB,lB]
  by_cases q:O6 m g.Route=0
  case neg=>
    rw [bK q,show (O6 m g.Route !=0)=true by simpa using q]
    exact ⟨rfl,rfl⟩
  rw [bJ q,q,show ((0:Int) !=0)=false from rfl,bI,bI]
  obtain ⟨a,t,ht,R⟩:=chkRoute_zero.1 q
  have hL:=Ra R
  rw [← ht]at hL
  rw [TX B _ hr',IL B _ hr']
  have e:((((decide (g.Len<300)||decide (g.Len>20000))||decide (g.Begin<0))||decide (g.Begin>1099511627776))||decide (g.S<0))=NB g:=rfl
  rw [e]
  by_cases o:NB g=true
  ·rw [bJ (.inl o),o];exact ⟨rfl,rfl⟩
  have o':NB g=false:=by simpa using o
  obtain ⟨o1,o2,o3,o4,o5⟩:=IN o'
  rw [o',bR,bH,lB,lB,bS,I3 (n:=LongM m g.Route+g.Len) (by omega),I3 (n:=LongM m g.Route+g.Len+2000) (by omega)]
  by_cases l:g.S>LongM m g.Route+g.Len+2000
  ·rw [bJ (.inr l),bD l];exact ⟨rfl,rfl⟩
  rw [bK (fun h=>h.elim (fun h=>by cases h) l),bE l,bI,bI]
  obtain ⟨l1,l2⟩:=aT B R ht o5 hS
  obtain ⟨ln,k1,k2,_⟩:=WE R ht o5
  rw [l1,l2,lB,lB,k1,lB,lB,DI,Ue,lB,lB]
  have ev:(PW m g).1=(Fv ln.Kind).1:=by unfold PW;rw [k2]
  rw [ev]
  by_cases v:g.V<0∨g.V>(Fv ln.Kind).1
  ·rw [bJ v,show (decide (g.V<0)||decide (g.V>(Fv ln.Kind).1))=true by simpa using v];exact ⟨rfl,rfl⟩
  rw [bK v,show (decide (g.V<0)||decide (g.V>(Fv ln.Kind).1))=false by rw [bT];simpa using v,bI,bI,(TY B hr').1,(TY B hr').2,lB,lB]
  have hb: ∀b:Bool,(b=true↔g.Gone≠CG m g∨(g.Begin>s.Tick∧g.S≠0)∨(i=0∧g.Begin≠0))→cond b (some (10:Int)) (some 0)=some (if g.Gone≠CG m g∨(g.Begin>s.Tick∧g.S≠0)∨(i=0∧g.Begin≠0)then 10 else 0):=by
    intro b hb
    by_cases h:g.Gone≠CG m g∨(g.Begin>s.Tick∧g.S≠0)∨(i=0∧g.Begin≠0)
    ·rw [bJ h,hb.2 h];rfl
    ·rw [bK h]
     cases b
     ·rfl
     ·exact absurd (hb.1 rfl) h
  exact ⟨hb _ (by simp),hb _ (by simp [or_assoc])⟩
/-! ### The whole check -/
def Oy (a b:Stay):Bool:=decide (a.Agent_<b.Agent_)||(a.Agent_==b.Agent_&&decide (a.Zone_<b.Zone_))
theorem gZ (a b:Int):Bw [a,b]=some (if a≠0 then a else b):=by
  unfold Bw
  by_cases h:a=0
  ·subst h
   rw [K0 (s':=1) rfl,bK (by simp)]
   by_cases h:b=0
   ·subst h;rw [K0 (s':=2) rfl,D4 (t:= .inl ()) rfl];rfl
   ·rw [D4 (t:= .inr b) (by unfold Y3;rw [show C3 [(0:Int),b] 1=some b from rfl,lB,show (b !=0)=true by simpa using h];rfl)];rfl
  ·rw [D4 (t:= .inr a) (by unfold Y3;rw [show C3 [a,b] 0=some a from rfl,lB,show (a !=0)=true by simpa using h];rfl),bJ h];rfl
/-- What the order of two stays is. -/
def eU (a b:Stay):Int:=if FI a.Agent_ b.Agent_≠0 then FI a.Agent_ b.Agent_ else FI a.Zone_ b.Zone_
theorem aU (a b:Stay):Ck a b=some (eU a b):=by
  unfold Ck eU
  rw [Zu,lB,Zu,lB,gZ,lB]
theorem aV (a b:Stay):decide (eU a b≥0)= !Oy a b:=by
  unfold eU Oy FI
  by_cases h1:a.Agent_<b.Agent_
  ·simp [h1]
  ·by_cases h2:a.Agent_>b.Agent_
   ·have:a.Agent_≠b.Agent_:=by omega
    simp [h1,h2,this]
   ·have:a.Agent_=b.Agent_:=by omega
    by_cases h3:a.Zone_<b.Zone_
    ·simp [this,h3]
    ·by_cases h4:a.Zone_>b.Zone_
     ·simp [this,h3,h4]
     ·simp [this,h3,h4]
def Ux (m:Map)(s:State)(x:Stay):Bool:=((decide (x.Agent_<0)||decide (x.Agent_≥(s.Agents.length:Int)))||decide (x.Zone_<0))||decide (x.Zone_≥(m.Zones.length:Int))
def WO (m:Map)(s:State)(i:Nat)(x:Stay):Option Int:=if Ux m s x=true∨(0<i∧∃y,s.In[i - 1]? =some y∧Oy y x=false)then some 11 else none
def Rg (s:State)(x:Stay):Bool:=((decide (x.Since<0)||decide (x.Since>s.Tick))||decide (x.Rank<0))||decide (x.Rank>100)
noncomputable def IO (m:Map)(s:State):Int:=
  if Ta m=0 then
   if s.Tick<0∨s.Tick>1099511627776 then 2 else if s.Agents.length=0 then 6 else if 8<s.Agents.length then 8
   else match J5 (fun i g=>if Dd m s (i:Int) g=0 then none else some (Dd m s (i:Int) g)) 0 s.Agents with
     |some e=>e
     |none=>match J5 (WO m s) 0 s.In with
      |some e=>e
      |none=>if s.In.any (Rg s)=true then 2 else 0
  else Ta m
theorem PY {m:Map}(B:BearM m){s:State}(h:SizeS s)(hw: ∀g∈s.Agents,g.S≤9223372036854775807):
    loop (Z1 m s) 0=some (HZ (J5 (fun i g=>if Dd m s (i:Int) g=0 then none else some (Dd m s (i:Int) g)) 0 s.Agents))∧
    loop (Fo m s) 0=some (HZ (J5 (fun i g=>if Dd m s (i:Int) g=0 then none else some (Dd m s (i:Int) g)) 0 s.Agents)):=by
  have hh:=h.agents
  constructor
  ·refine Aq s.Agents _ _ (fun i g hg=> ?_) (by unfold Z1;rw [K2];rfl)
   have hm:=lG hg
   unfold Z1
   rw [L9 (J7 hg),bH,(PX B s (D5 hg) (h.routes g hm) (hw g hm)).1,lB]
   by_cases q:Dd m s (i:Int) g=0
   ·rw [bJ q,q,show ((0:Int) !=0)=false from rfl,bI,J1 (J7 hg) (by omega)]
   ·rw [bK q,show (Dd m s (i:Int) g !=0)=true by simpa using q];rfl
  ·refine Aq s.Agents _ _ (fun i g hg=> ?_) (by unfold Fo;rw [K2];rfl)
   have hm:=lG hg
   unfold Fo
   rw [L9 (J7 hg),bH,(PX B s (D5 hg) (h.routes g hm) (hw g hm)).2,lB]
   by_cases q:Dd m s (i:Int) g=0
   ·rw [bJ q,q,show ((0:Int) !=0)=false from rfl,bI,J1 (J7 hg) (by omega)]
   ·rw [bK q,show (Dd m s (i:Int) g !=0)=true by simpa using q];rfl
theorem PZ {α:Type}{l:List α}{i:Nat}{a:α}(h:l[i]? =some a)(h0:0<i): ∃y,l[i - 1]? =some y∧C3 l (D9 ((i:Int) - 1))=some y∨1000000000000<i:=by
  by_cases hb:1000000000000<i
  ·exact ⟨a, .inr hb⟩
  ·have:=J7 h
   have e:l[i - 1]? =some l[i - 1]:=lH (by omega)
   refine ⟨_, .inl ⟨e,?_⟩⟩
   rw [I3 (by omega),show (i:Int) - 1=((i - 1:Nat):Int) by omega]
   exact D5 e
theorem aW (m:Map){s:State}(h:SizeS s):
    loop (Z0 m s) 0=some (HZ (J5 (WO m s) 0 s.In))∧loop (Fm m s) 0=some (HZ (J5 (WO m s) 0 s.In)):=by
  have hh:=h.ins
  constructor
  ·refine Aq s.In _ _ (fun i x hx=> ?_) (by unfold Z0;rw [K2];rfl)
   have hi:=J7 hx
   unfold Z0
   rw [L9 hi,bH,D5 hx,lB]
   have e:(((decide (x.Agent_<0)||decide (x.Agent_≥(s.Agents.length:Int)))||decide (x.Zone_<0))||decide (x.Zone_≥(m.Zones.length:Int)))=Ux m s x:=rfl
   rw [e]
   unfold WO
   by_cases hb:Ux m s x=true
   ·rw [hb,bJ (.inl rfl)];rfl
   have hb':Ux m s x=false:=by simpa using hb
   rw [hb',bR,bM]
   by_cases h0:0<i
   ·obtain ⟨y,hy⟩:=PZ hx h0
    rcases hy with ⟨y1,y2⟩|hy
    ·rw [bD (show (i:Int)>0 by omega),bH,y2,lB,bH,aU,lB,bS,bM,aV]
     by_cases q:Oy y x=true
     ·rw [q,bK (by rintro (h|⟨_,z,z1,z2⟩);exact (by cases h);rw [y1]at z1;cases z1;rw [q]at z2;cases z2),bQ,bI,J1 hi (by omega)]
     ·have q':Oy y x=false:=by simpa using q
      rw [q',bJ (.inr ⟨h0,y,y1,q'⟩)];rfl
    ·omega
   ·rw [bE (show ¬(i:Int)>0 by omega),bI,lB,bI,lB,bS,bN,bI,bK (by rintro (h|⟨h,_⟩);exact (by cases h);exact h0 h),J1 hi (by omega)]
  ·refine Aq s.In _ _ (fun i x hx=> ?_) (by unfold Fm;rw [K2];rfl)
   have hi:=J7 hx
   unfold Fm
   rw [L9 hi,bH,D5 hx,lB]
   have e:(((decide (x.Agent_<0)||decide (x.Agent_≥(s.Agents.length:Int)))||decide (x.Zone_<0))||decide (x.Zone_≥(m.Zones.length:Int)))=Ux m s x:=rfl
   rw [e]
   unfold WO
   by_cases hb:Ux m s x=true
   ·rw [hb,bJ (.inl rfl)];rfl
   have hb':Ux m s x=false:=by simpa using hb
   rw [hb',bI]
   by_cases h0:0<i
   ·obtain ⟨y,hy⟩:=PZ hx h0
    rcases hy with ⟨y1,y2⟩|hy
    ·rw [bD (show (i:Int)>0 by omega),bH,y2,lB,bM]
     have hc: ∀b:Bool,(cond b (some y) (some default)).bind (fun v=>some v)=some (cond b y default):=by intro b;cases b<;>rfl
     by_cases q1:x.Agent_<y.Agent_
     ·rw [bD q1,bJ (.inr ⟨h0,y,y1,by unfold Oy;simp;omega⟩)];rfl
     ·rw [bE q1,bR,bH,lB,bM]
      by_cases q2:x.Agent_=y.Agent_
      ·rw [show (x.Agent_==y.Agent_)=true by simpa using q2,bH,lB,bS,bM,bM]
       by_cases q3:x.Zone_≤y.Zone_
       ·rw [bD q3,bJ (.inr ⟨h0,y,y1,by unfold Oy;simp;omega⟩)];rfl
       ·rw [bE q3,bK (by rintro (h|⟨_,z,z1,z2⟩);exact (by cases h);rw [y1]at z1;cases z1;unfold Oy at z2;simp at z2;omega),bI,J1 hi (by omega)]
      ·rw [show (x.Agent_==y.Agent_)=false by simpa using q2,bI,lB,bS,bM,bN,bI,bK (by rintro (h|⟨_,z,z1,z2⟩);exact (by cases h);rw [y1]at z1;cases z1;unfold Oy at z2;simp at z2;omega),J1 hi (by omega)]
    ·omega
   ·rw [bE (show ¬(i:Int)>0 by omega),bI,lB]
    simp only [bN,bI,lB]
    rw [bK (by rintro (h|⟨h,_⟩);exact (by cases h);exact h0 h),J1 hi (by omega)]
theorem Pg {α:Type}(l:List α)(P:α→Bool)(F:Int→Option (Stp Int (Sum Unit Int)))(hl:l.length≤1000000000)(hF: ∀(i:Nat) a,l[i]? =some a→F (i:Int)=some (if P a then .out (.inr (i:Int))else .go (D9 ((i:Int)+1))))(h0:F (l.length:Int)=some (.out (.inl ()))):
    (thenS (loop F 0) (fun _=>some (-1)) (fun r=>some r)).bind (fun v=>some (decide (v≥0)))=some (l.any P):=by
  rw [IC l P hl hF h0]
  have:=Sz P l
  unfold DL at this
  cases hq:l.findIdx? P with
  |some i=>rw [hq]at this;show some _=_;rw [← this]
  |none=>rw [hq]at this;show some _=_;rw [← this]
theorem eV {s:State}(h:SizeS s):F6 s.In s=some (s.In.any (Rg s)):=by
  have hh:=h.ins
  unfold F6 J0
  refine Pg s.In (Rg s) _ (by omega) (fun i x hx=> ?_) (by unfold L6;rw [K2];rfl)
  unfold L6 Ko
  rw [L9 (J7 hx),D5 hx,bH,lB,lB]
  have e:(((decide (x.Since<0)||decide (x.Since>s.Tick))||decide (x.Rank<0))||decide (x.Rank>100))=Rg s x:=rfl
  rw [e]
  cases Rg s x<;>rfl
theorem aX {s:State}(h:SizeS s):thenS (loop (Fl s) 0) (fun _=>some 0) (fun r=>some r)=some (if s.In.any (Rg s)=true then 2 else 0):=by
  have hh:=h.ins
  rw [Aq s.In _ (fun _ x=>if Rg s x=true then some 2 else none) (fun i x hx=> ?_) (by unfold Fl;rw [K2];rfl)]
  ·by_cases q:s.In.any (Rg s)=true
   ·rw [bJ q]
    cases hf:J5 (fun _ x=>if Rg s x=true then some (2:Int)else none) 0 s.In with
    |some e=>
     have: ∀(l:List Stay) (i:Nat),J5 (fun _ x=>if Rg s x=true then some (2:Int)else none) i l=some e→e=2:=by
       intro l
       induction l with
       |nil=>intro i h;cases h
       |cons a l ih=>
        intro i h
        unfold J5 at h
        by_cases z:Rg s a=true
        ·rw [bJ z]at h;cases h;rfl
        ·rw [bK z]at h;exact ih _ h
     rw [this _ _ hf];rfl
    |none=>
     obtain ⟨x,x1,x2⟩:=lZ.1 q
     obtain ⟨j,hj⟩:=bB x1
     have:=firstE_none.1 hf j x hj
     rw [bJ x2]at this;cases this
   ·rw [bK q,firstE_none.2 fun j x hj=> ?_]
    ·rfl
    ·by_cases z:Rg s x=true
     ·exact absurd (lZ.2 ⟨x,lG hj,z⟩) q
     ·rw [bK z]
  ·unfold Fl
   rw [L9 (J7 hx),D5 hx,bH,lB]
   have e:(((decide (x.Since<0)||decide (x.Since>s.Tick))||decide (x.Rank<0))||decide (x.Rank>100))=Rg s x:=rfl
   rw [e]
   by_cases z:Rg s x=true
   ·rw [bJ z,z];rfl
   ·rw [bK z,show Rg s x=false by simpa using z,bI,J1 (J7 hx) (by omega)]
theorem aY {m:Map}(B:BearM m){s:State}(h:SizeS s)(hw: ∀g∈s.Agents,g.S≤9223372036854775807):Cl m s=some (IO m s)∧Nw m s=some (IO m s):=by
  obtain ⟨a1,a2⟩:=PY B h hw
  obtain ⟨i1,i2⟩:=aW m h
  unfold Cl Nw IO
  rw [Md B,Qs B,lB,lB]
  by_cases q:Ta m=0
  case neg=>rw [bK q,show (Ta m !=0)=true by simpa using q];exact ⟨rfl,rfl⟩
  rw [bJ q,q,show ((0:Int) !=0)=false from rfl,bI,bI]
  by_cases t:s.Tick<0∨s.Tick>1099511627776
  ·rw [bJ t,show (decide (s.Tick<0)||decide (s.Tick>1099511627776))=true by simpa using t];exact ⟨rfl,rfl⟩
  rw [bK t,show (decide (s.Tick<0)||decide (s.Tick>1099511627776))=false by rw [bT];simpa using t,bI,bI]
  by_cases n0:s.Agents.length=0
  ·rw [bJ n0,show (((s.Agents.length:Nat):Int)==0)=true by rw [n0];rfl];exact ⟨rfl,rfl⟩
  rw [bK n0,show (((s.Agents.length:Nat):Int)==0)=false by simpa using (show ((s.Agents.length:Nat):Int)≠0 by omega),bI,bI]
  by_cases n8:8<s.Agents.length
  ·rw [bJ n8,bD (show (s.Agents.length:Int)>8 by omega)];exact ⟨rfl,rfl⟩
  rw [bK n8,bE (show ¬(s.Agents.length:Int)>8 by omega),bI,bI,a1,a2]
  cases J5 (fun i g=>if Dd m s (i:Int) g=0 then none else some (Dd m s (i:Int) g)) 0 s.Agents with
  |some e=>exact ⟨rfl,rfl⟩
  |none=>
   show thenS _ _ _=_∧thenS _ _ _=_
   rw [i1,i2]
   cases J5 (WO m s) 0 s.In with
   |some e=>exact ⟨rfl,rfl⟩
   |none=>
    refine ⟨?_,aX h⟩
    show (F6 s.In s).bind _=_
    rw [eV h,lB]
    cases s.In.any (Rg s)<;>rfl
/-- A map of the kit. -/
structure KitM (m:Map):Prop extends BearK m where
  val:ValR m
theorem eW (n:Int): ∃m,Xi n=some m∧KitM m∧∃k p,k<8∧ParOK p∧m=CE k p:=by
  obtain ⟨k,p,hk,hp,hm⟩:=SK n
  exact ⟨_,hm,⟨⟨aH hp,(EH k p.r).1⟩,eH hk hp⟩,k,p,hk,hp,rfl⟩
theorem KitM.chk {m:Map}(K:KitM m):Ta m=0:=chkR_zero.2 K.val
/-- Who is there. -/
def Dn (s:State)(i:Int):Bool:=match C3 s.Agents i with
  |some g=> !g.Gone&&decide (g.Begin≤s.Tick)
  |none=>false
theorem LF {α:Type}{l:List α}{i:Int}(h: ¬(0≤i∧i<l.length)):C3 l i=none:=by
  unfold C3
  by_cases h0:0≤i
  ·rw [bJ h0]
   exact lJ (by omega)
  ·rw [bK h0]
theorem Xp {α:Type}{l:List α}{i:Int}(h0:0≤i)(h1:i<l.length): ∃a,C3 l i=some a∧l[i.toNat]? =some a:=by
  have:l[i.toNat]? =some l[i.toNat]:=lH (by omega)
  exact ⟨_,by unfold C3;rw [bJ h0];exact this,this⟩
theorem CH (s:State)(i:Int):Gc s i=some (Dn s i)∧Ip s i=some (Dn s i):=by
  unfold Gc Ip Dn
  by_cases h:0≤i∧i<s.Agents.length
  ·obtain ⟨g,hg,_⟩:=Xp h.1 h.2
   rw [show (decide (i≥0)&&decide (i< (s.Agents.length:Int)))=true by simp only [bO,bF];exact h,bH,hg,lB,lB]
   simp only [bH,lB,bM]
   constructor
   ·cases g.Gone<;>simp
   ·by_cases q:g.Begin≤s.Tick<;>simp [q]
  ·rw [show (decide (i≥0)&&decide (i< (s.Agents.length:Int)))=false by rw [bT];simp only [ne_eq,bO,bF];exact h,LF h]
   exact ⟨rfl,rfl⟩
theorem FQ (k:Int):0≤(Fv k).1∧(Fv k).1≤2000∧0≤(Fv k).2.1∧(Fv k).2.1≤100∧0≤(Fv k).2.2∧(Fv k).2.2≤300:=by
  unfold Fv
  repeat' split
  all_goals simp
/-- What is known of an agent of a valid state. -/
structure AgentOK (m:Map)(s:State)(i:Int)(g:Agent):Prop where
  route: ∃a t,g.Route=a::t∧RouteOK m a t
  len:300≤g.Len∧g.Len≤20000
  begin:0≤g.Begin∧g.Begin≤1099511627776
  S:0≤g.S∧g.S≤LongM m g.Route+g.Len+2000
  V:0≤g.V∧g.V≤(PW m g).1
  gone:g.Gone=CG m g
  late: ¬(g.Begin>s.Tick∧g.S≠0)
  first:i=0→g.Begin=0
theorem agentM_zero {m:Map}{s:State}{i:Int}{g:Agent}:Dd m s i g=0↔AgentOK m s i g:=by
  unfold Dd
  constructor
  ·intro h
   by_cases q:O6 m g.Route=0
   ·rw [bJ q]at h
    by_cases o:NB g=true∨g.S>LongM m g.Route+g.Len+2000
    ·rw [bJ o]at h;cases h
    ·rw [bK o]at h
     by_cases v:g.V<0∨g.V>(PW m g).1
     ·rw [bJ v]at h;cases h
     ·rw [bK v]at h
      by_cases z:g.Gone≠CG m g∨(g.Begin>s.Tick∧g.S≠0)∨(i=0∧g.Begin≠0)
      ·rw [bJ z]at h;cases h
      ·obtain ⟨o1,o2,o3,o4,o5⟩:=IN (g:=g) (by cases hq:NB g<;>simp_all)
       refine ⟨chkRoute_zero.1 q,⟨o1,o2⟩,⟨o3,o4⟩,⟨o5,?_⟩,?_,?_,fun h=>z (.inr (.inl h)),fun h=> ?_⟩
       ·exact Int.not_lt.1 fun h=>o (.inr h)
       ·omega
       ·exact Classical.byContradiction fun h=>z (.inl h)
       ·exact Classical.byContradiction fun h'=>z (.inr (.inr ⟨h,h'⟩))
   ·rw [bK q]at h;cases h
  ·intro A
   have l:=A.len;have b:=A.begin;have S:=A.S;have V:=A.V
   rw [bJ (chkRoute_zero.2 A.route),bK,bK,bK]
   ·rintro (h|h|h)
    ·exact h A.gone
    ·exact A.late h
    ·exact h.2 (A.first h.1)
   ·omega
   ·rintro (h|h)
    ·unfold NB at h
     simp only [bP,bF]at h
     omega
    ·omega
structure StateOK (m:Map)(s:State):Prop where
  tick:0≤s.Tick∧s.Tick≤1099511627776
  num:0<s.Agents.length∧s.Agents.length≤8
  agent: ∀(i:Nat) g,s.Agents[i]? =some g→AgentOK m s (i:Int) g
  ins: ∀(i:Nat) x,s.In[i]? =some x→Ux m s x=false
  sorted: ∀(i:Nat) x y,s.In[i]? =some x→s.In[i+1]? =some y→Oy x y=true
  rank: ∀x∈s.In,Rg s x=false
theorem DR {m:Map}(K:KitM m){s:State}:IO m s=0↔StateOK m s:=by
  unfold IO
  rw [bJ K.chk]
  constructor
  ·intro h
   by_cases t:s.Tick<0∨s.Tick>1099511627776
   ·rw [bJ t]at h;cases h
   rw [bK t]at h
   by_cases n0:s.Agents.length=0
   ·rw [bJ n0]at h;cases h
   rw [bK n0]at h
   by_cases n8:8<s.Agents.length
   ·rw [bJ n8]at h;cases h
   rw [bK n8]at h
   cases ha:J5 (fun i g=>if Dd m s (i:Int) g=0 then none else some (Dd m s (i:Int) g)) 0 s.Agents with
   |some e=>
    rw [ha]at h
    have: ∀(l:List Agent) (i:Nat),J5 (fun i g=>if Dd m s (i:Int) g=0 then none else some (Dd m s (i:Int) g)) i l=some e→e≠0:=by
      intro l
      induction l with
      |nil=>intro i h;cases h
      |cons a l ih=>
       intro i h
       unfold J5 at h
       by_cases z:Dd m s (i:Int) a=0
       ·rw [bJ z]at h;exact ih _ h
       ·rw [bK z]at h;cases h;exact z
    exact absurd h (this _ _ ha)
   |none=>
    rw [ha]at h
    cases hi:J5 (WO m s) 0 s.In with
    |some e=>
     rw [hi]at h
     have: ∀(l:List Stay) (i:Nat),J5 (WO m s) i l=some e→e≠0:=by
       intro l
       induction l with
       |nil=>intro i h;cases h
       |cons a l ih=>
        intro i h
        unfold J5 at h
        cases z:WO m s i a with
        |none=>rw [z]at h;exact ih _ h
        |some e'=>
         rw [z]at h;cases h
         unfold WO at z
         split at z
         ·cases z;decide
         ·cases z
     exact absurd h (this _ _ hi)
    |none=>
     rw [hi]at h
     have ha':=firstE_none.1 ha
     have hi':=firstE_none.1 hi
     simp only [wD]at ha' hi'
     have hin: ∀(i:Nat) x,s.In[i]? =some x→¬(Ux m s x=true∨(0<i∧∃y,s.In[i - 1]? =some y∧Oy y x=false)):=by
       intro i x hx q
       have:=hi' i x hx
       unfold WO at this
       rw [bJ q]at this;cases this
     have hr:s.In.any (Rg s)=false:=by
       cases q:s.In.any (Rg s)with
       |false=>rfl
       |true=>rw [q]at h;cases h
     refine ⟨by omega,by omega,fun i g hg=>agentM_zero.1 ?_,fun i x hx=> ?_,fun i x y hx hy=> ?_,fun x hx=> ?_⟩
     ·have:=ha' i g hg
      by_cases z:Dd m s (i:Int) g=0
      ·exact z
      ·rw [bK z]at this;cases this
     ·have:=hin i x hx
      cases q:Ux m s x with
      |false=>rfl
      |true=>exact absurd (.inl q) this
     ·have:=hin (i+1) y hy
      cases q:Oy x y with
      |true=>rfl
      |false=>exact absurd (.inr ⟨by omega,x,hx,q⟩) this
     ·have:=List.any_eq_false.1 hr x hx
      simpa using this
  ·intro O
   have t:=O.tick;have n:=O.num
   rw [bK (by omega),bK (by omega),bK (by omega)]
   rw [firstE_none.2 fun i g hg=>by rw [wD,bJ (agentM_zero.2 (O.agent i g hg))]]
   rw [firstE_none.2 fun i x hx=> ?_]
   ·dsimp only
    rw [bK]
    intro h
    obtain ⟨x,x1,x2⟩:=lZ.1 h
    rw [O.rank x x1]at x2;cases x2
   ·rw [wD]
    unfold WO
    rw [bK]
    rintro (h|⟨h0,y,y1,y2⟩)
    ·rw [O.ins i x hx]at h;cases h
    ·have:=O.sorted (i - 1) y x y1 (by rw [show i - 1+1=i by omega];exact hx)
     rw [this]at y2;cases y2
theorem AgentOK.bd {m:Map}{s:State}{i:Int}{g:Agent}(A:AgentOK m s i g):1000≤LongM m g.Route∧LongM m g.Route≤134217728:=by
  obtain ⟨a,t,h,R⟩:=A.route
  rw [h];exact Ra R
def Ys (g:Agent):Bool:=(((decide (g.S≥0))&& (decide (g.S≤1099511627776)))&& (decide (g.Len≥0)))&& (decide (g.Len≤1099511627776))
noncomputable def Js (m:Map)(r:List Int):List Pass:=(U9 m r).getD []
theorem WF {m:Map}(B:BearK m)(r:List Int)(hr:r.length≤1000000):U9 m r=some (Js m r)∧Dx m r=some (Js m r)∧(Js m r).length≤16:=by
  obtain ⟨ps,h1,h2,h3⟩:=SR B r hr
  unfold Js
  rw [h1,h2]
  exact ⟨rfl,rfl,h3⟩
def Sj (g g':Agent)(z:Int)(p:Pass):Bool:=((p.Zone_==z)&&decide (p.From≤g'.S))&&decide (D9 (g.S - g.Len)≤p.To)
/-- Whether an agent is present in a zone during a tick. -/
noncomputable def Hh (m:Map)(g g':Agent)(z:Int):Bool:=(Ys g&&Ys g')&& (Js m g.Route).any (Sj g g' z)
theorem Zw {m:Map}(B:BearK m){g g':Agent}(hr:g.Route.length≤1000)(z:Int):Cm m g g' z=some (Hh m g g' z)∧Eo m g g' z=some (Hh m g g' z):=by
  obtain ⟨p1,p2,p3⟩:=WF B g.Route (by omega)
  have s1: ∀g,Kt g=some (Ys g):=fun _=>rfl
  have s2: ∀g,Kr g=some (Ys g):=fun _=>rfl
  have hc:G0 (Js m g.Route) z ⟨D9 (g.S - g.Len),g'.S⟩=some ((Js m g.Route).any (Sj g g' z)):=by
    unfold G0 I4
    refine Pg _ (Sj g g' z) _ (by omega) (fun i x hx=> ?_) (by unfold K5;rw [K2];rfl)
    unfold K5 Fc
    rw [L9 (J7 hx),D5 hx,bH,lB,lB]
    show cond (Sj g g' z x) _ _=_
    cases Sj g g' z x<;>rfl
  have hd:thenS (loop (Cp g g' z (Js m g.Route)) 0) (fun _=>some false) (fun r=>some r)=some ((Js m g.Route).any (Sj g g' z)):=by
    rw [IE (Js m g.Route) (Sj g g' z) true (fun i x hx=> ?_) (by unfold Cp;rw [K2];rfl)]
    ·cases (Js m g.Route).any (Sj g g' z)<;>rfl
    ·unfold Cp Sj
     rw [L9 (J7 hx),D5 hx,bH,lB,J1 (J7 hx) (by omega)]
     by_cases q1:x.Zone_=z
     ·rw [show (x.Zone_==z)=true by simpa using q1,bH,lB,bM]
      by_cases q2:D9 (g.S - g.Len)≤x.To
      ·rw [bD q2,bH,lB,bM,Bool.and_true]
       by_cases q3:x.From≤g'.S
       ·rw [bD (show g'.S≥x.From from q3)];rfl
       ·rw [bE (show ¬g'.S≥x.From from q3)];rfl
      ·rw [bE q2,Bool.and_false];rfl
     ·rw [show (x.Zone_==z)=false by simpa using q1];rfl
  unfold Cm Eo Hh
  rw [s1,s2,lB,lB]
  cases hs:Ys g
  ·exact ⟨rfl,rfl⟩
  ·rw [bQ,bR,bH,bH,s1,s2,lB,lB]
   cases hs':Ys g'
   ·exact ⟨rfl,rfl⟩
   ·simp only [bQ,Bool.or_self,bI,bM]
    constructor
    ·show (Bv g).bind _=_
     unfold Bv
     rw [lB,p1,lB,hc];rfl
    ·show (Dx m g.Route).bind _=_
     rw [p2,lB,hd]
/-! ### The entry, and the rank -/
theorem TZ {α:Type}{P:α→Bool}{l:List α}(h:0≤DL P l): ∃x,l[(DL P l).toNat]? =some x∧P x=true∧l.find? P=some x:=by
  unfold DL at h ⊢
  cases hq:l.findIdx? P with
  |none=>rw [hq]at h;exact absurd h (by simp)
  |some i=>
   obtain ⟨h1,h2,h3⟩:=List.findIdx?_eq_some_iff_getElem.1 hq
   refine ⟨l[i],by rw [bY];exact lH h1,h2,?_⟩
   exact List.find?_eq_some_iff_getElem.2 ⟨h2,i,h1,rfl,fun j hj=>by simpa using h3 j hj⟩
theorem WG {m:Map}{r:List Int}{z:Int}(h:0≤Dl m r z): ∃zn l,0≤z∧m.Zones[z.toNat]? =some zn∧O6 m r=0∧r[(Dl m r z).toNat]? =some l∧(Lc zn l).2=true:=by
  unfold Dl at h ⊢
  cases hz:m.Zones[z.toNat]? with
  |none=>rw [hz]at h;exact absurd h (by simp)
  |some zn=>
   rw [hz]at h
   dsimp only at h ⊢
   by_cases q:0≤z∧O6 m r=0
   ·rw [bJ q]at h ⊢
    obtain ⟨l,h1,h2,_⟩:=TZ h
    exact ⟨zn,l,q.1,rfl,q.2,h1,h2⟩
   ·rw [bK q]at h;exact absurd h (by simp)
/-- The lane on which a route enters a zone; -1 if it does not. -/
noncomputable def Kj (m:Map)(r:List Int)(z:Int):Int:=if 0≤Dl m r z then r.getD (Dl m r z).toNat 0 else -1
theorem CI {m:Map}{r:List Int}{z:Int}(h:0≤Dl m r z): ∃zn,0≤z∧m.Zones[z.toNat]? =some zn∧r[(Dl m r z).toNat]? =some (Kj m r z)∧(Lc zn (Kj m r z)).2=true∧0≤Kj m r z:=by
  obtain ⟨zn,l,h0,h1,h2,h3,h4⟩:=WG h
  have e:Kj m r z=l:=by unfold Kj;rw [bJ h,List.getD,h3];rfl
  obtain ⟨a,t,rfl,R⟩:=chkRoute_zero.1 h2
  have:=R.mem (lG h3)
  rw [e]
  exact ⟨zn,h0,h1,h3,h4,this.1⟩
theorem WH {m:Map}(B:BearM m){r:List Int}(hr:r.length≤1000000)(z:Int):Cn m r z=some (Kj m r z):=by
  unfold Cn
  rw [aM B r hr,lB]
  by_cases q:0≤Dl m r z
  ·obtain ⟨zn,_,_,h3,_⟩:=CI q
   have hg:=D5 h3
   rw [bZ q]at hg
   rw [bD (show Dl m r z≥0 from q),bH,hg];rfl
  ·rw [bE (show ¬Dl m r z≥0 from q)]
   unfold Kj;rw [bK q];rfl
/-- The rank of an agent in a zone. -/
noncomputable def EM (m:Map)(r:List Int)(z tick:Int):Int:=
  if 0≤Dl m r z then
   match m.Zones[z.toNat]? with
   |some zn=>if zn.Signal_>0 then (if DO m (zn.Signal_ - 1) (Kj m r z) tick=true then 2 else 0)else (Lc zn (Kj m r z)).1.Rank
   |none=>0
  else 0
theorem eX {m:Map}(K:KitM m){g:Agent}(hr:g.Route.length≤1000)(z tick:Int):Gs m g z tick=some (EM m g.Route z tick)∧Qg m g z tick=some (EM m g.Route z tick):=by
  have B:=K.toBearM
  have hr':g.Route.length≤1000000:=by omega
  unfold Gs Qg EM
  rw [WH B hr',DP B _ hr',lB,lB]
  by_cases q:0≤Dl m g.Route z
  case neg=>
    rw [bK q,bD (show Dl m g.Route z<0 by omega)]
    have:Kj m g.Route z= -1:=by unfold Kj;rw [bK q]
    rw [this]
    exact ⟨rfl,rfl⟩
  obtain ⟨zn,h0,h1,h3,h4,h5⟩:=CI q
  have hz:=D5 h1
  rw [bZ h0]at hz
  have hg:=D5 h3
  rw [bZ q]at hg
  have Z:=K.val.zoneOK (lG h1)
  have hS:=Z.sig
  have hsl:=K.val.signals
  have hp:=B.toBearZ.parts zn (lG h1)
  rw [bJ q,h1,bE (show ¬Kj m g.Route z<0 by omega),bE (show ¬Dl m g.Route z<0 by omega),bI,bI,hz,lB,lB]
  dsimp only
  by_cases s:zn.Signal_>0
  ·rw [bJ s,bD s,I3 (by omega),aO B,hg]
   simp only [lB,bH,VX B,bM]
   cases DO m (zn.Signal_ - 1) (Kj m g.Route z) tick<;>exact ⟨rfl,rfl⟩
  ·rw [bK s,bE s,bI,bI,lB,bN,bI]
   have hany:zn.Parts.any (fun p=>p.Lane_==Kj m g.Route z)=true:=by
     unfold Lc at h4
     cases hf:zn.Parts.find? (fun p=>p.Lane_==Kj m g.Route z)with
     |none=>rw [hf]at h4;cases h4
     |some p=>
      exact lZ.2 ⟨p,List.mem_of_find?_eq_some hf,List.find?_some (p:=fun p:Part=>p.Lane_==Kj m g.Route z) hf⟩
   have hidx:0≤DL (fun p:Part=>p.Lane_==Kj m g.Route z) zn.Parts:=by
     have:=Sz (fun p:Part=>p.Lane_==Kj m g.Route z) zn.Parts
     rw [hany]at this
     simpa using this
   obtain ⟨p,p1,p2,p3⟩:=TZ hidx
   have hpr:(Lc zn (Kj m g.Route z)).1.Rank=p.Rank:=by unfold Lc;rw [p3]
   constructor
   ·have e:I0 zn.Parts (Kj m g.Route z)=some (DL (fun p:Part=>p.Lane_==Kj m g.Route z) zn.Parts):=by
      unfold I0
      refine Qr zn.Parts (fun p:Part=>p.Lane_==Kj m g.Route z) (by omega) (fun i a h=> ?_) (by unfold M1;rw [K2];rfl)
      unfold M1 Ly
      rw [L9 (J7 h),D5 h,bH,lB,lB]
      cases a.Lane_==Kj m g.Route z<;>rfl
    have hgp:=D5 p1
    rw [bZ hidx]at hgp
    rw [e,lB,hgp,lB,hpr]
   ·have key: ∀(l:List Part) (i:Nat),zn.Parts.drop i=l→i≤zn.Parts.length→thenS (loop (Er g (Dl m g.Route z) zn) (i:Int)) (fun _=>some 0) (fun r=>some r)=some (match l.find? (fun p=>p.Lane_==Kj m g.Route z)with|some p=>p.Rank|none=>0):=by
      intro l
      induction l with
      |nil=>
       intro i hi hil
       have:=O3 hi
       obtain rfl:i=zn.Parts.length:=by omega
       rw [D4 (t:= .inl ()) (by unfold Er;rw [K2];rfl)];rfl
      |cons x l ih=>
       intro i hi hil
       have hx:=X0 hi
       have hlt:=N2 hi
       rw [List.find?_cons]
       cases hq:x.Lane_==Kj m g.Route z with
       |true=>
        rw [D4 (t:= .inr x.Rank) (by unfold Er;rw [L9 hlt,D5 hx,bH,lB,hg,lB,hq,bH,lB])];rfl
       |false=>
        rw [K0 (s':=((i+1:Nat):Int)) (by unfold Er;rw [L9 hlt,D5 hx,bH,lB,hg,lB,hq,bI,J1 hlt (by omega)])]
        exact ih (i+1) (K7 hi) hlt
    have:=key zn.Parts 0 rfl (wB _)
    rw [p3]at this
    rw [show ((0:Nat):Int)=0 from rfl]at this
    rw [bI,this,hpr]
/-! ### Stays -/
def eY (i z:Int)(x:Stay):Bool:=x.Agent_==i&&x.Zone_==z
def jK (l:List Stay):Prop:=l.Pairwise fun a b=>Oy a b=true
theorem hJ {S α β τ:Type}{F:S→Option (Stp S τ)}(pk:Nat→List β→S)(l:List α)(g:Nat→α→Option β)(fin:List β→τ)(s0:List β)(B:Nat){S0:S}(hS:pk 0 s0=S0)(hB:s0.length+l.length≤B)
    (hF: ∀(i:Nat) a (s:List β),l[i]? =some a→s.length+1≤B→F (pk i s)=some (.go (pk (i+1) (match g i a with|some b=>s++ [b]|none=>s))))
    (h0: ∀s,F (pk l.length s)=some (.out (fin s))):loop F S0=some (fin (s0++Fw g 0 l)):=by
  have:=ZY (F:=F) pk l (fun i s=>s.length≤s0.length+i) (fun i s a=>match g i a with|some b=>s++ [b]|none=>s) fin (s0:=s0) (S0:=S0) hS (by simp) (fun i a s h hs=>hF i a s h (by have:=(lI.1 h).1;omega)) (fun i a s _ hs=>by
    cases g i a<;>simp<;>omega) (fun s _=>h0 s)
  exact this.trans (congrArg (fun x=>some (fin x)) (Zs g l 0 s0))
theorem hO {S α β τ:Type}{F:S→Option (Stp S τ)}(pk:Nat→List β→S)(l:List α)(g:Nat→α→List β)(fin:List β→τ)(s0:List β)(C B:Nat){S0:S}(hS:pk 0 s0=S0)(hB:s0.length+l.length*C≤B)(hC: ∀(i:Nat) a,l[i]? =some a→(g i a).length≤C)
    (hF: ∀(i:Nat) a (s:List β),l[i]? =some a→s.length+C≤B→F (pk i s)=some (.go (pk (i+1) (s++g i a))))
    (h0: ∀s,F (pk l.length s)=some (.out (fin s))):loop F S0=some (fin (s0++Rv g 0 l)):=by
  have key: ∀(r:List α) (i:Nat) (s:List β),CC (fun i s a=>s++g i a) i s r=s++Rv g i r:=by
    intro r
    induction r with
    |nil=>intro i s;simp [CC,Rv]
    |cons a r ih=>intro i s;simp [CC,Rv,ih]
  have:=ZY (F:=F) pk l (fun i s=>s.length≤s0.length+i*C) (fun i s a=>s++g i a) fin (s0:=s0) (S0:=S0) hS (by simp) (fun i a s h hs=>hF i a s h (by
    have h1:=(lI.1 h).1
    have h2:(i+1)*C≤l.length*C:=Nat.mul_le_mul_right C h1
    rw [wC,Nat.one_mul]at h2;omega)) (fun i a s h hs=>by
    have h3:=hC i a h
    rw [lM,wC,Nat.one_mul];omega) (fun s _=>h0 s)
  exact this.trans (congrArg (fun x=>some (fin x)) (key l 0 s0))
/-- Present at both ends of a tick. -/
noncomputable def EN (m:Map)(s:State)(A:List Agent)(i z:Int):Bool:=Dn s i&& (match C3 s.Agents i,C3 A i with
  |some g,some g'=>Hh m g g' z
  |_,_=>false)
theorem IP {s:State}{i:Int}(h:Dn s i=true): ∃g,C3 s.Agents i=some g∧s.Agents[i.toNat]? =some g∧0≤i∧i<s.Agents.length∧g.Gone=false∧g.Begin≤s.Tick:=by
  unfold Dn at h
  by_cases q:0≤i∧i<s.Agents.length
  ·obtain ⟨g,h1,h2⟩:=Xp q.1 q.2
   rw [h1]at h
   dsimp only at h
   rw [bO,bF]at h
   exact ⟨g,h1,h2,q.1,q.2,by simpa using h.1,h.2⟩
  ·rw [LF q]at h;cases h
/-- The stay of who is present. -/
noncomputable def WP (m:Map)(s:State)(i z:Int):Stay:=match s.In.find? (eY i z)with
  |some x=>x
  |none=>⟨i,z,s.Tick,match C3 s.Agents i with|some g=>EM m g.Route z s.Tick|none=>0⟩
theorem UA (m:Map)(s:State)(i z:Int):(WP m s i z).Agent_=i∧(WP m s i z).Zone_=z:=by
  unfold WP
  cases h:s.In.find? (eY i z)with
  |none=>exact ⟨rfl,rfl⟩
  |some x=>
   have:=List.find?_some h
   unfold eY at this
   simpa using this
noncomputable def EO (m:Map)(s:State)(A:List Agent)(i:Nat)(z:Nat)(_:Zone):Option Stay:=if EN m s A i z=true then some (WP m s i z)else none
noncomputable def Uj (m:Map)(s:State)(A:List Agent)(i:Nat)(_:Agent):List Stay:=Fw (EO m s A i) 0 m.Zones
/-- The stays after a tick. -/
noncomputable def Nf (m:Map)(s:State)(A:List Agent):List Stay:=Rv (Uj m s A) 0 s.Agents
theorem IQ (m:Map)(s:State)(A:List Agent)(i:Nat)(a:Agent):(Uj m s A i a).length≤m.Zones.length:=Xj _ _ _
theorem Dr {α β:Type}{g:Nat→α→Option β}{b:β}: ∀(l:List α) (k:Nat),b∈Fw g k l↔∃(i:Nat) (a:α),l[i]? =some a∧g (k+i) a=some b
  | [],k=>by simp [Fw]
  |a::r,k=>by
   have ih:=Dr (g:=g) (b:=b) r (k+1)
   have e:(∃(i:Nat) (a':α),(a::r)[i]? =some a'∧g (k+i) a'=some b)↔g k a=some b∨∃(i:Nat) (a':α),r[i]? =some a'∧g (k+1+i) a'=some b:=by
     constructor
     ·rintro ⟨i,a',h1,h2⟩
      cases i with
      |zero=>simp at h1;subst h1;exact .inl h2
      |succ i=>exact .inr ⟨i,a',by simpa using h1,by rw [show k+1+i=k+ (i+1) by omega];exact h2⟩
     ·rintro (h|⟨i,a',h1,h2⟩)
      ·exact ⟨0,a,rfl,h⟩
      ·exact ⟨i+1,a',by simpa using h1,by rw [show k+ (i+1)=k+1+i by omega];exact h2⟩
   rw [e,Fw]
   cases hg:g k a with
   |none=>simp [ih]
   |some c=>simp [ih,eq_comm]
theorem DS {α β:Type}{g:Nat→α→List β}{b:β}: ∀(l:List α) (k:Nat),b∈Rv g k l↔∃(i:Nat) (a:α),l[i]? =some a∧b∈g (k+i) a
  | [],k=>by simp [Rv]
  |a::r,k=>by
   have ih:=DS (g:=g) (b:=b) r (k+1)
   rw [Rv,lT,ih]
   constructor
   ·rintro (h|⟨i,a',h1,h2⟩)
    ·exact ⟨0,a,rfl,h⟩
    ·exact ⟨i+1,a',by simpa using h1,by rw [show k+ (i+1)=k+1+i by omega];exact h2⟩
   ·rintro ⟨i,a',h1,h2⟩
    cases i with
    |zero=>simp at h1;subst h1;exact .inl h2
    |succ i=>exact .inr ⟨i,a',by simpa using h1,by rw [show k+1+i=k+ (i+1) by omega];exact h2⟩
theorem stays_mem {m:Map}{s:State}{A:List Agent}{x:Stay}:x∈Nf m s A↔∃i z:Nat,i<s.Agents.length∧z<m.Zones.length∧EN m s A i z=true∧x=WP m s i z:=by
  unfold Nf
  rw [DS]
  constructor
  ·rintro ⟨i,a,h1,h2⟩
   unfold Uj at h2
   rw [Dr]at h2
   obtain ⟨z,zn,h3,h4⟩:=h2
   unfold EO at h4
   rw [wD,wD]at h4
   split at h4
   ·rename_i h5
    cases h4
    exact ⟨i,z,J7 h1,J7 h3,h5,rfl⟩
   ·cases h4
  ·rintro ⟨i,z,h1,h2,h3,rfl⟩
   refine ⟨i,s.Agents[i],lH h1,?_⟩
   unfold Uj
   rw [Dr]
   refine ⟨z,m.Zones[z],lH h2,?_⟩
   unfold EO
   rw [wD,wD,bJ h3]
theorem IR {α β:Type}{g:Nat→α→Option β}{R:β→β→Prop}(h: ∀i j a a' b b',i<j→g i a=some b→g j a'=some b'→R b b'): ∀(l:List α) (k:Nat),(Fw g k l).Pairwise R
  | [],k=>List.Pairwise.nil
  |a::r,k=>by
   have ih:=IR h r (k+1)
   rw [Fw]
   cases hg:g k a with
   |none=>exact ih
   |some b=>
    refine l9.2 ⟨fun b' hb'=> ?_,ih⟩
    obtain ⟨i,a',_,h2⟩:=(Dr r (k+1)).1 hb'
    exact h k (k+1+i) a a' b b' (by omega) hg h2
theorem IS {α β:Type}{g:Nat→α→List β}{R:β→β→Prop}(h0: ∀i a,(g i a).Pairwise R)(h: ∀i j a a' b b',i<j→b∈g i a→b'∈g j a'→R b b'): ∀(l:List α) (k:Nat),(Rv g k l).Pairwise R
  | [],k=>List.Pairwise.nil
  |a::r,k=>by
   rw [Rv]
   refine List.pairwise_append.2 ⟨h0 k a,IS h0 h r (k+1),fun b hb b' hb'=> ?_⟩
   obtain ⟨i,a',_,h2⟩:=(DS r (k+1)).1 hb'
   exact h k (k+1+i) a a' b b' (by omega) hb h2
theorem SS (m:Map)(s:State)(A:List Agent):jK (Nf m s A):=by
  have key: ∀(i z:Nat) zn b,EO m s A i z zn=some b→b.Agent_=(i:Int)∧b.Zone_=(z:Int):=by
    intro i z zn b h
    unfold EO at h
    split at h
    ·cases h;exact UA m s i z
    ·cases h
  refine IS (fun i a=>IR (fun z z' _ _ b b' hz h1 h2=> ?_) _ _) (fun i j a a' b b' hij h1 h2=> ?_) _ _
  ·have k1:=key i z _ b h1
   have k2:=key i z' _ b' h2
   unfold Oy
   rw [k1.1,k1.2,k2.1,k2.2]
   simp [hz]
  ·unfold Uj at h1 h2
   obtain ⟨z,zn,_,h1⟩:=(Dr _ _).1 h1
   obtain ⟨z',zn',_,h2⟩:=(Dr _ _).1 h2
   have k1:=key i _ zn b h1
   have k2:=key j _ zn' b' h2
   unfold Oy
   rw [k1.1,k2.1]
   simp only [bP,bF,bO,bU]
   omega
theorem WI (m:Map)(s:State)(A:List Agent):(Nf m s A).length≤s.Agents.length*m.Zones.length:=KY _ _ _ _ fun _ _ _=>IQ _ _ _ _ _
theorem ST {m:Map}{s:State}{A:List Agent}{i:Nat}(h:Dn s i=false)(a:Agent):Uj m s A i a= []:=by
  apply List.eq_nil_iff_forall_not_mem.2
  intro x hx
  unfold Uj at hx
  obtain ⟨z,zn,_,h2⟩:=(Dr _ _).1 hx
  unfold EO EN at h2
  rw [h,bN,bK (by simp)]at h2
  cases h2
theorem SU {m:Map}(B:BearK m){r:List Int}(hr:r.length≤1000000){p:Pass}(hp:p∈Js m r):0≤Dl m r p.Zone_:=by
  unfold Js at hp
  by_cases q:O6 m r=0
  ·obtain ⟨a,t,rfl,R⟩:=chkRoute_zero.1 q
   obtain ⟨ps,p1,p2,_⟩:=LB B R
   rw [p1]at hp
   obtain ⟨i,lane,j,z,k,pt,h1,h2,h3,h4,rfl⟩:=Xo m (a::t) 0 p (p2.mem_iff.1 hp)
   unfold Dl
   dsimp only
   rw [bY,h2]
   dsimp only
   rw [bJ ⟨by omega,q⟩]
   have hz:(Lc z lane).2=true:=by
     unfold Lc
     cases hf:z.Parts.find? (fun p=>p.Lane_==lane)with
     |some _=>rfl
     |none=>
      have:=List.find?_eq_none.1 hf pt (lG h3)
      exact absurd (by simpa using h4) this
   have h5:=Sz (fun l=>(Lc z l).2) (a::t)
   rw [show ((a::t).any fun l=>(Lc z l).2)=true from lZ.2 ⟨lane,lG h1,hz⟩]at h5
   exact bG h5
  ·have h1:loop (N7 m (Af m r)) ([],0)=some []:=by
     refine D4 ?_
     unfold N7
     rw [Qy q];rfl
   have:U9 m r=some []:=by
     unfold U9
     rw [Pr B.toBearM r hr,lB,h1,lB,Zv];rfl
   rw [this]at hp
   cases hp
theorem Yt {m:Map}(B:BearK m){g g':Agent}(hr:g.Route.length≤1000){z:Int}(h:Hh m g g' z=true):0≤Dl m g.Route z:=by
  unfold Hh at h
  rw [bO]at h
  obtain ⟨p,h1,h2⟩:=lZ.1 h.2
  unfold Sj at h2
  simp only [bO,bU]at h2
  rw [← h2.1.1]
  exact SU B (by omega) h1
/-! ### Along a lane -/
/-- Two agents in a tick: what is known of them. -/
structure Two (m:Map)(s:State)(A:List Agent)(i j:Int)(gi gj gi' gj':Agent):Prop where
  hi:C3 s.Agents i=some gi
  hj:C3 s.Agents j=some gj
  hi':C3 A i=some gi'
  hj':C3 A j=some gj'
  ti:Dn s i=true
  tj:Dn s j=true
  ri:gi.Route.length≤1000
  rj:gj.Route.length≤1000
  oi: ∃a t,gi.Route=a::t∧RouteOK m a t
  oj: ∃a t,gj.Route=a::t∧RouteOK m a t
noncomputable def Zx (m:Map)(s:State)(A:List Agent)(i j:Int)(gi gj:Agent)(z:Int):Bool:=(EN m s A i z&&EN m s A j z)&& (Kj m gi.Route z !=Kj m gj.Route z)
noncomputable def Zy (m:Map)(s:State)(A:List Agent)(i j:Int)(gi gj:Agent):List Int:=Fw (fun z (_:Zone)=>if Zx m s A i j gi gj z=true then some (z:Int)else none) 0 m.Zones
theorem WJ {m:Map}(B:BearK m){s s':State}{A:List Agent}(hA:s'.Agents=A){i j:Int}{gi gj gi' gj':Agent}(T:Two m s A i j gi gj gi' gj'):Nz m s s' i j=some (Zy m s A i j gi gj):=by
  have h2:=B.zones2
  have e:loop (Fp m s s' i j) ([],0)=some (Zy m s A i j gi gj):=by
    refine DM m.Zones (fun z (_:Zone)=>if Zx m s A i j gi gj z=true then some (z:Int)else none) id (fun z zn l hz hb=> ?_) (fun l=> ?_)
    ·have ec:Zx m s A i j gi gj (z:Int)=((Hh m gi gi' (z:Int)&&Hh m gj gj' (z:Int))&& (Kj m gi.Route (z:Int) !=Kj m gj.Route (z:Int))):=by
       unfold Zx EN
       rw [T.hi,T.hj,T.hi',T.hj',T.ti,T.tj,bM,bM]
     have hno:Zx m s A i j gi gj (z:Int)=false→(if Zx m s A i j gi gj (z:Int)=true then some (z:Int)else none)=none:=fun h=>bK (by rw [h];simp)
     unfold Fp
     dsimp only
     rw [L9 (J7 hz),bH,hA,T.hi,lB,T.hj,lB,T.hi',lB,(Zw B T.ri z).2,lB,J1 (J7 hz) (by omega),T.hj']
     cases h1:Hh m gi gi' (z:Int)
     ·rw [hno (by rw [ec,h1];rfl)];rfl
     ·simp only [bQ,bR,bH,bI,lB,bS,bM]
      rw [(Zw B T.rj z).2,lB]
      cases h3:Hh m gj gj' (z:Int)
      ·rw [hno (by rw [ec,h1,h3];rfl)];rfl
      ·have q1:=Yt B T.ri h1
       have q2:=Yt B T.rj h3
       obtain ⟨_,_,_,g1,_⟩:=CI q1
       obtain ⟨_,_,_,g2,_⟩:=CI q2
       have g1:=D5 g1
       have g2:=D5 g2
       rw [bZ q1]at g1
       rw [bZ q2]at g2
       rw [bQ,bI,DP B.toBearM _ (by have:=T.ri;omega),lB,g1,lB,DP B.toBearM _ (by have:=T.rj;omega),lB,g2,lB]
       cases e:(Kj m gi.Route (z:Int) !=Kj m gj.Route (z:Int))
       ·rw [hno (by rw [ec,h1,h3,e];rfl)];rfl
       ·rw [bJ (show Zx m s A i j gi gj (z:Int)=true by rw [ec,h1,h3,e];rfl),bH,Au,bJ (by have:=J7 hz;simp;omega)];rfl
    ·unfold Fp
     dsimp only
     rw [K2];rfl
  unfold Nz
  rw [e];rfl
theorem hQ {m:Map}{s:State}(O: ∀g∈s.Agents,∃a t,g.Route=a::t∧RouteOK m a t)(S:SizeS s){A:List Agent}(hA:A.length=s.Agents.length){i j:Int}(hi:Dn s i=true)(hj:Dn s j=true): ∃gi gj gi' gj',Two m s A i j gi gj gi' gj':=by
  obtain ⟨gi,a1,a2,a3,a4,_⟩:=IP hi
  obtain ⟨gj,b1,b2,b3,b4,_⟩:=IP hj
  obtain ⟨gi',c1,_⟩:=Xp (l:=A) a3 (by omega)
  obtain ⟨gj',d1,_⟩:=Xp (l:=A) b3 (by omega)
  have mi:=lG a2
  have mj:=lG b2
  exact ⟨gi,gj,gi',gj',a1,b1,c1,d1,hi,hj,S.routes gi mi,S.routes gj mj,O gi mi,O gj mj⟩
def FJ (s:State)(i:Nat):Nat→Nat→List (Int×Int)
  |0,_=> []
  |k+1,j=>cond (Dn s i&&Dn s j) (((i:Int),(j:Int))::FJ s i k (j+1)) (FJ s i k (j+1))
def Yu (s:State)(n:Nat):Nat→Nat→List (Int×Int)
  |0,_=> []
  |k+1,i=>FJ s i (n - (i+1)) (i+1)++Yu s n k (i+1)
noncomputable def Ww (m:Map)(g:Agent)(i:Nat)(st:Int):Option Span:=
  if max 0 (D9 (D9 (g.S - g.Len) - st))≤min (D9 (g.S - st)) (Ru m (g.Route.getD i 0))then some ⟨g.Route.getD i 0,max 0 (D9 (D9 (g.S - g.Len) - st)),min (D9 (g.S - st)) (Ru m (g.Route.getD i 0))⟩else none
/-- The spans of lanes that an agent covers. -/
noncomputable def Dj (m:Map)(g:Agent):List Span:=if Ys g=true then Fw (Ww m g) 0 (StartsM m g.Route)else []
theorem IT {m:Map}(r:List Int):(StartsM m r).length≤r.length:=by
  unfold StartsM Af
  split
  ·dsimp only;rw [Of];exact wA _
  ·simp
theorem UB {m:Map}(B:BearM m){g:Agent}(hr:g.Route.length≤1000):Gv m g=some (Dj m g)∧Mv m g=some (Dj m g):=by
  have s1:Kt g=some (Ys g):=rfl
  have s2:Kr g=some (Ys g):=rfl
  have hsl:=IT (m:=m) g.Route
  have hrt: ∀(i:Nat) st,(StartsM m g.Route)[i]? =some st→C3 g.Route (i:Int)=some (g.Route.getD i 0):=fun i st h=>by
    have:=J7 h
    apply D5
    rw [List.getD,lH (by omega)];rfl
  have e1:loop (Ba m g (StartsM m g.Route)) ([],0)=some (Fw (Ww m g) 0 (StartsM m g.Route)):=by
    refine DM (StartsM m g.Route) (Ww m g) id (fun i st l h hl=> ?_) (fun l=> ?_)
    ·have hi:=J7 h
     unfold Ba Ww
     dsimp only
     rw [L9 hi,bH,D5 h,lB,hrt i st h,J1 hi (by omega)]
     simp only [lB,Bv,Bx,Fs,Cs,FG B,Xf,BE]
     rw [Int.max_comm 0]
     by_cases q:max (D9 (D9 (g.S - g.Len) - st)) 0≤min (D9 (g.S - st)) (Ru m (g.Route.getD i 0))
     ·rw [bJ q,bE (by omega),bR,bH,Au,bJ (by simp;omega)];rfl
     ·rw [bK q,bD (by omega)];rfl
    ·unfold Ba
     dsimp only
     rw [K2];rfl
  have e2:loop (Hl m g (StartsM m g.Route)) ([],0)=some (Fw (Ww m g) 0 (StartsM m g.Route)):=by
    refine DM (StartsM m g.Route) (Ww m g) id (fun i st l h hl=> ?_) (fun l=> ?_)
    ·have hi:=J7 h
     unfold Hl Ww
     dsimp only
     rw [L9 hi,bH,D5 h,lB,lB,hrt i st h,J1 hi (by omega)]
     simp only [lB,FH B,Xf,BE]
     by_cases q:max 0 (D9 (D9 (g.S - g.Len) - st))≤min (D9 (g.S - st)) (Ru m (g.Route.getD i 0))
     ·rw [bJ q,bD q,bH,Au,bJ (by simp;omega)];rfl
     ·rw [bK q,bE q];rfl
    ·unfold Hl
     dsimp only
     rw [K2];rfl
  unfold Gv Mv Dj
  rw [s1,s2,lB,lB]
  cases hs:Ys g
  ·exact ⟨rfl,rfl⟩
  ·simp only [bQ,bI,if_true]
   rw [LD B _ (by omega),Ui B _ (by omega),lB,lB,e1,e2]
   exact ⟨rfl,rfl⟩
theorem QA (m:Map)(g:Agent):(Dj m g).length≤g.Route.length:=by
  unfold Dj
  split
  ·exact Nat.le_trans (Xj _ _ _) (IT _)
  ·simp
theorem UC {m:Map}{g:Agent}{x:Span}(h:x∈Dj m g):x.From≤x.To:=by
  unfold Dj at h
  split at h
  ·obtain ⟨i,st,_,h⟩:=(Dr _ _).1 h
   unfold Ww at h
   split at h
   ·cases h;assumption
   ·cases h
  ·cases h
def Td (x y:Span):Bool:=((x.Lane_==y.Lane_)&&decide (x.From≤y.To))&&decide (y.From≤x.To)
noncomputable def Wx (m:Map)(g g':Agent):Bool:=(Dj m g).any fun x=>(Dj m g').any fun y=>Td x y
theorem QB {m:Map}(B:BearM m){g g':Agent}(hr:g.Route.length≤1000)(hr':g'.Route.length≤1000):Bh m g g'=some (Wx m g g')∧Is m g g'=some (Wx m g g'):=by
  obtain ⟨b1,b2⟩:=UB B hr
  obtain ⟨c1,c2⟩:=UB B hr'
  have l1:=QA m g
  have l2:=QA m g'
  constructor
  ·have inner: ∀x∈Dj m g,F4 (Dj m g') x=some ((Dj m g').any fun y=>Td x y):=by
     intro x hx
     unfold F4 H4
     refine Pg _ (fun y=>Td x y) _ (by omega) (fun i y hy=> ?_) (by unfold J9;rw [K2];rfl)
     have o1:=UC hx
     have o2:=UC (lG hy)
     unfold J9 Ei
     rw [L9 (J7 hy),bH,D5 hy,lB]
     simp only [Fs,Cs,Xf,BE]
     unfold Td
     by_cases e:x.Lane_=y.Lane_
     ·rw [e]
      simp only [beq_self_eq_true,bH,lB,bM]
      by_cases q:x.From≤y.To∧y.From≤x.To
      ·rw [bD q.1,bD q.2,bE (by omega)];rfl
      ·rw [show (decide (x.From≤y.To)&&decide (y.From≤x.To))=false by rw [bT];simpa using q,bD (by omega)];rfl
     ·rw [show (x.Lane_==y.Lane_)=false by simpa using e];rfl
   have outer:G2 (Dj m g) (Dj m g')=some (Wx m g g'):=by
     unfold G2 I5 Wx
     refine Pg _ (fun x=>(Dj m g').any fun y=>Td x y) _ (by omega) (fun i x hx=> ?_) (by unfold G1;rw [K2];rfl)
     unfold G1 X3
     rw [L9 (J7 hx),bH,D5 hx,lB,inner x (lG hx)]
     simp only [lB]
     cases (Dj m g').any fun y=>Td x y<;>rfl
   unfold Bh
   rw [c1,lB,b1,lB,outer];rfl
  ·have inner: ∀(i:Nat) x,(Dj m g)[i]? =some x→loop (Bl (Dj m g) (Dj m g') (i:Int)) 0=some (if (Dj m g').any (fun y=>Td x y)then .inr true else .inl ()):=by
     intro i x hx
     refine IE (Dj m g') (fun y=>Td x y) true (fun j y hy=> ?_) (by unfold Bl;rw [K2];rfl)
     unfold Bl Td
     rw [L9 (J7 hy),bH,D5 hx,lB,D5 hy,lB,J1 (J7 hy) (by omega)]
     cases e:(x.Lane_==y.Lane_)
     ·rfl
     ·simp only [bH,lB,bM]
      cases e2:decide (x.From≤y.To)
      ·rfl
      ·simp only [bH,lB,bM]
       cases decide (y.From≤x.To)<;>rfl
   have outer:loop (Bm (Dj m g) (Dj m g')) 0=some (if (Dj m g).any (fun x=>(Dj m g').any fun y=>Td x y)then .inr true else .inl ()):=by
     refine IE (Dj m g) (fun x=>(Dj m g').any fun y=>Td x y) true (fun i x hx=> ?_) (by unfold Bm;rw [K2];rfl)
     unfold Bm
     rw [L9 (J7 hx),bH,inner i x hx,J1 (J7 hx) (by omega)]
     cases (Dj m g').any fun y=>Td x y<;>rfl
   unfold Is Wx
   rw [b2,lB,c2,lB,outer]
   cases (Dj m g).any fun x=>(Dj m g').any fun y=>Td x y<;>rfl
/-- Two agents that may not begin together. -/
noncomputable def CJ (m:Map)(s:State)(A:List Agent)(i j:Int):Bool:=match C3 s.Agents i,C3 s.Agents j with
  |some gi,some gj=>Wx m gi gj||decide (0< (Zy m s A i j gi gj).length)
  |_,_=>false
abbrev Mf:State:=⟨0,[],[]⟩
theorem SV {m:Map}(K:KitM m){A:List Agent}(S:SizeS ⟨0,A,[]⟩):loop (Gm m A) (0,(⟨0,A,[]⟩:State))=some ⟨0,A,Nf m ⟨0,A,[]⟩ A⟩:=by
  have hl:A.length≤1000:=S.agents
  have hz:=K.zones2
  refine hO (fun i l=>((i:Int),(⟨0,A,l⟩:State))) A (Uj m ⟨0,A,[]⟩ A) (fun l=>(⟨0,A,l⟩:State)) [] 2 1000000 rfl (by simp;omega) (fun i a _=>Nat.le_trans (IQ _ _ _ _ _) hz) (fun i g l h hb=> ?_) (fun l=> ?_)
  ·have hg:C3 A (i:Int)=some g:=D5 h
   have hr:g.Route.length≤1000:=S.routes g (lG h)
   have e:loop (Gl m A ((i:Int),(⟨0,A,l⟩:State))) (0,(⟨0,A,l⟩:State))=some ⟨0,A,l++Uj m ⟨0,A,[]⟩ A i g⟩:=by
     have th: ∀l',Dn ⟨0,A,l'⟩ (i:Int)=Dn ⟨0,A,[]⟩ (i:Int):=fun _=>rfl
     cases ht:Dn ⟨0,A,[]⟩ (i:Int)
     ·rw [D4 (t:=(⟨0,A,l⟩:State)),ST ht,lP]
      unfold Gl
      dsimp only
      rw [(CH _ _).2,th,ht]
      cases decide ((0:Int)< (m.Zones.length:Int))<;>rfl
     ·refine hJ (fun z l=>((z:Int),(⟨0,A,l⟩:State))) m.Zones (EO m ⟨0,A,[]⟩ A i) (fun l=>(⟨0,A,l⟩:State)) l 1000000 rfl (by omega) (fun z zn l' hz' hb'=> ?_) (fun l'=> ?_)
      ·unfold Gl EO
       dsimp only
       rw [L9 (J7 hz'),bH,(CH _ _).2,lB,th,ht,bM,bH,hg,lB,lB,(Zw K.toBearK hr z).2,lB,J1 (J7 hz') (by omega)]
       have e:EN m ⟨0,A,[]⟩ A i z=Hh m g g z:=by
         unfold EN;rw [ht,bM];dsimp only;rw [hg]
       rw [e]
       cases hh:Hh m g g z
       ·rfl
       ·have es:WP m ⟨0,A,[]⟩ (i:Int) (z:Int)=⟨(i:Int),(z:Int),0,EM m g.Route z 0⟩:=by
          unfold WP
          simp only [List.find?_nil,hg]
        rw [bH,lB,(eX K hr z 0).2,lB,Au,bJ (by simp;omega),bJ rfl,es];rfl
      ·unfold Gl
       dsimp only
       rw [K2];rfl
   unfold Gm
   dsimp only
   rw [L9 (J7 h),bH,e,lB,J1 (J7 h) (by omega)]
  ·unfold Gm
   dsimp only
   rw [K2];rfl
theorem SW {m:Map}(B:BearK m){s:State}(S:SizeS s)(O: ∀g∈s.Agents,∃a t,g.Route=a::t∧RouteOK m a t)(i:Nat): ∀(k j:Nat),j+k=s.Agents.length→
    loop (Gk m s.Agents ((i:Int),s)) (j:Int)=some (if (FJ s i k j).any (fun p=>CJ m s s.Agents p.1 p.2)=true then .inr (Mf,12)else .inl ())
  |0,j,hj=>by
   obtain rfl:j=s.Agents.length:=by omega
   rw [D4 (t:= .inl ()) (by unfold Gk;rw [K2];rfl)];rfl
  |k+1,j,hj=>by
   have hjl:j<s.Agents.length:=by omega
   have hn:=S.agents
   have key:Gk m s.Agents ((i:Int),s) (j:Int)=some (if (Dn s i&&Dn s j)&&CJ m s s.Agents i j=true then .out (.inr (Mf,12))else .go ((j+1:Nat):Int)):=by
     unfold Gk
     dsimp only
     rw [L9 hjl,bH,(CH s i).2,lB,J1 hjl (by omega)]
     cases h1:Dn s i
     ·rfl
     ·simp only [bQ,bR,bH,bS,bM]
      rw [(CH s j).2,lB]
      cases h2:Dn s j
      ·rfl
      ·obtain ⟨gi,gj,gi',gj',T⟩:=hQ O S rfl h1 h2
       have hbad:CJ m s s.Agents i j=(Wx m gi gj||decide (0< (Zy m s s.Agents i j gi gj).length)):=by unfold CJ;rw [T.hi,T.hj]
       rw [bQ,bI,T.hi,T.hj,lB,lB,(QB B.toBearM T.ri T.rj).2,lB,hbad]
       cases Wx m gi gj
       ·rw [bR,bH,WJ B rfl T,lB]
        by_cases q:0< (Zy m s s.Agents i j gi gj).length
        ·rw [bD (show ((Zy m s s.Agents i j gi gj).length:Int)>0 by omega),bD q];rfl
        ·rw [bE (show ¬((Zy m s s.Agents i j gi gj).length:Int)>0 by omega),bE q];rfl
       ·rfl
   rw [FJ]
   cases h1:(Dn s i&&Dn s j)
   ·rw [h1]at key
    rw [K0 (s':=((j+1:Nat):Int)) (by rw [key];rfl),bI]
    exact SW B S O i k (j+1) (by omega)
   ·rw [h1]at key
    rw [bH,List.any_cons]
    cases h2:CJ m s s.Agents i j
    ·rw [h2]at key
     rw [K0 (s':=((j+1:Nat):Int)) (by rw [key];rfl),bS]
     exact SW B S O i k (j+1) (by omega)
    ·rw [h2]at key
     rw [D4 (t:= .inr (Mf,12)) (by rw [key];rfl)];rfl
theorem aZ {m:Map}(B:BearK m){s:State}(S:SizeS s)(O: ∀g∈s.Agents,∃a t,g.Route=a::t∧RouteOK m a t): ∀(k i:Nat),i+k=s.Agents.length→
    loop (Dy m s.Agents) ((i:Int),s)=some (if (Yu s s.Agents.length k i).any (fun p=>CJ m s s.Agents p.1 p.2)=true then .inr (Mf,12)else .inl s)
  |0,i,hi=>by
   obtain rfl:i=s.Agents.length:=by omega
   rw [D4 (t:= .inl s) (by unfold Dy;dsimp only;rw [K2];rfl)];rfl
  |k+1,i,hi=>by
   have hil:i<s.Agents.length:=by omega
   have hn:=S.agents
   have key:Dy m s.Agents ((i:Int),s)=some (if (FJ s i (s.Agents.length - (i+1)) (i+1)).any (fun p=>CJ m s s.Agents p.1 p.2)=true then .out (.inr (Mf,12))else .go (((i+1:Nat):Int),s)):=by
     unfold Dy
     dsimp only
     rw [L9 hil,bH,J1 hil (by omega),SW B S O i (s.Agents.length - (i+1)) (i+1) (by omega)]
     cases (FJ s i (s.Agents.length - (i+1)) (i+1)).any (fun p=>CJ m s s.Agents p.1 p.2)<;>rfl
   rw [Yu,List.any_append]
   cases h:(FJ s i (s.Agents.length - (i+1)) (i+1)).any (fun p=>CJ m s s.Agents p.1 p.2)
   ·rw [h]at key
    rw [K0 (s':=(((i+1:Nat):Int),s)) (by rw [key];rfl),bS]
    exact aZ B S O k (i+1) (by omega)
   ·rw [h]at key
    rw [D4 (t:= .inr (Mf,12)) (by rw [key];rfl)];rfl
theorem UD (A:List Agent)(l:List Stay)(i:Nat): ∀k j,FJ ⟨0,A,l⟩ i k j=FJ ⟨0,A,[]⟩ i k j
  |0,_=>rfl
  |k+1,j=>by rw [FJ,FJ,UD A l i k (j+1)];rfl
theorem QC (A:List Agent)(l:List Stay)(n:Nat): ∀k i,Yu ⟨0,A,l⟩ n k i=Yu ⟨0,A,[]⟩ n k i
  |0,_=>rfl
  |k+1,i=>by rw [Yu,Yu,UD,QC A l n k (i+1)]
/-- The first state. -/
noncomputable def Ng (m:Map)(A:List Agent):State×Int:=
  if IO m ⟨0,A,[]⟩≠0 then (Mf,IO m ⟨0,A,[]⟩)
  else if A.any (fun g=>g.Gone)=true then (Mf,10)
  else if (Yu ⟨0,A,[]⟩ A.length A.length 0).any (fun p=>CJ m ⟨0,A,[]⟩ A p.1 p.2)=true then (Mf,12)
  else (⟨0,A,Nf m ⟨0,A,[]⟩ A⟩,0)
theorem NC {m:Map}(K:KitM m){A:List Agent}(S:SizeS ⟨0,A,[]⟩)(w: ∀g∈A,g.S≤9223372036854775807):Mw m A=some (Ng m A):=by
  have c2:=(aY K.toBearM S w).2
  have hl:A.length≤1000:=S.agents
  have e2:Nj ⟨0,A,[]⟩=some ⟨0,A,[]⟩:=aS S
  unfold Mw Ng
  rw [e2,lB,c2,lB]
  by_cases q:IO m ⟨0,A,[]⟩=0
  case neg=>
    rw [bJ q,show (IO m ⟨0,A,[]⟩ !=0)=true by simpa using q];rfl
  rw [bK (by simp [q]),show (IO m ⟨0,A,[]⟩ !=0)=false by simp [q],bI]
  have O:=(DR K).1 q
  have OR: ∀g∈A,∃a t,g.Route=a::t∧RouteOK m a t:=fun g hg=>by
    obtain ⟨i,hi⟩:=bB hg
    exact (O.agent i g hi).route
  have g2:loop (Jk A) 0=some (if A.any (fun g=>g.Gone)then .inr (Mf,10)else .inl ()):=by
    refine IE A (fun g=>g.Gone) (Mf,10) (fun i x hx=> ?_) (by unfold Jk;rw [K2];rfl)
    unfold Jk
    rw [L9 (J7 hx),bH,D5 hx,lB,J1 (J7 hx) (by omega)]
    cases x.Gone<;>rfl
  rw [g2]
  cases hG:A.any (fun g=>g.Gone)
  case true=>rfl
  have S':SizeS ⟨0,A,Nf m ⟨0,A,[]⟩ A⟩:=by
    have h1:=WI m ⟨0,A,[]⟩ A
    have h2:A.length*m.Zones.length≤1000*2:=Nat.mul_le_mul hl K.zones2
    exact ⟨hl,by dsimp only at h1 ⊢;omega,S.routes⟩
  have h4:loop (Dy m A) (0,⟨0,A,Nf m ⟨0,A,[]⟩ A⟩)=_:=aZ (s:=⟨0,A,Nf m ⟨0,A,[]⟩ A⟩) K.toBearK S' OR A.length 0 (by dsimp only;omega)
  dsimp only at h4
  rw [QC]at h4
  have e5:(fun p:Int×Int=>CJ m ⟨0,A,Nf m ⟨0,A,[]⟩ A⟩ A p.1 p.2)=fun p=>CJ m ⟨0,A,[]⟩ A p.1 p.2:=rfl
  rw [e5]at h4
  rw [bK (by simp)]
  show (loop (Gm m A) (0,⟨0,A,[]⟩)).bind _=_
  rw [SV K S,lB,h4]
  cases (Yu ⟨0,A,[]⟩ A.length A.length 0).any (fun p=>CJ m ⟨0,A,[]⟩ A p.1 p.2)<;>rfl
theorem WK {m:Map}(V:ValR m){a b:Int}(ha:0≤a)(hb:b∈nextOf m a.toNat):Dm m b=Dm m a:=by
  unfold nextOf at hb
  cases h:m.Lanes[a.toNat]? with
  |none=>rw [h]at hb;cases hb
  |some l=>
   rw [h]at hb
   have hb:b∈l.Next:=hb
   have h1:=(firstE_none.1 V.nextE) a.toNat l h
   rw [wD]at h1
   unfold nextE at h1
   obtain ⟨j,hj⟩:=bB hb
   have h2:=(firstE_none.1 h1) j b hj
   have hk:=V.next h hb
   have hn:m.Lanes[b.toNat]? =some m.Lanes[b.toNat]:=lH (by omega)
   unfold Wt at h2
   rw [hn]at h2
   dsimp only at h2
   split at h2
   ·cases h2
   ·rename_i q
    unfold Dm
    rw [hn,h]
    exact Decidable.not_not.1 q
theorem IU {m:Map}(V:ValR m): ∀(t:List Int) (a:Int),0≤a→Jy m a t=true→∀x∈a::t,Dm m x=Dm m a
  | [],a,_,_,x,hx=>by simp at hx;rw [hx]
  |b::t,a,ha,h,x,hx=>by
   rw [Jy,bO]at h
   have hb:b∈nextOf m a.toNat:=by simpa using h.1
   have hk:=V.nextOf hb
   rcases lU.1 hx with rfl|hx
   ·rfl
   ·rw [IU V t b (by omega) h.2 x hx,WK V ha hb]
/-- Where an agent is does not matter to how fast it may go. -/
theorem WL {m:Map}{a:Int}{t:List Int}(R:RouteOK m a t){g:Agent}(hg:g.Route=a::t)(h0:0≤g.S):PW m g=Fv (Dm m a):=by
  obtain ⟨x,h1,h2,h3,_⟩:=DQ R hg h0
  unfold PW
  rw [h3]
  dsimp only
  rw [IU R.val t a R.first.1 R.chain x (lG h2)]
theorem eZ {m:Map}(V:ValR m)(r:List Int)(z tick:Int):0≤EM m r z tick∧EM m r z tick≤100:=by
  unfold EM
  split
  ·cases hz:m.Zones[z.toNat]? with
   |none=>simp
   |some zn=>
    dsimp only
    split
    ·split<;>simp
    ·have Z:=V.zoneOK (lG hz)
     unfold Lc
     cases hf:zn.Parts.find? (fun p=>p.Lane_==Kj m r z)with
     |none=>simp
     |some p=>have:=Z.part p (List.mem_of_find?_eq_some hf);dsimp only;omega
  ·simp
theorem iA {m:Map}(K:KitM m){s:State}(O:StateOK m s)(i z:Int):0≤(WP m s i z).Since∧(WP m s i z).Since≤s.Tick∧0≤(WP m s i z).Rank∧(WP m s i z).Rank≤100:=by
  unfold WP
  cases hf:s.In.find? (eY i z)with
  |some x=>
   have:=O.rank x (List.mem_of_find?_eq_some hf)
   unfold Rg at this
   simp only [Bool.or_eq_false_iff,bV]at this
   dsimp only
   omega
  |none=>
   have:=O.tick
   dsimp only
   cases C3 s.Agents i with
   |none=>dsimp only;omega
   |some g=>have:=eZ K.val g.Route z s.Tick;dsimp only;omega
theorem iB {m:Map}(K:KitM m){s s':State}(O:StateOK m s)(A:List Agent)(hn:s'.Agents.length=s.Agents.length)(ht:s.Tick≤s'.Tick)(hI:s'.In=Nf m s A):
    (∀(i:Nat) x,s'.In[i]? =some x→Ux m s' x=false)∧(∀(i:Nat) x y,s'.In[i]? =some x→s'.In[i+1]? =some y→Oy x y=true)∧(∀x∈s'.In,Rg s' x=false):=by
  rw [hI]
  refine ⟨fun i x hx=> ?_,fun i x y hx hy=> ?_,fun x hx=> ?_⟩
  ·obtain ⟨a,z,h1,h2,_,rfl⟩:=stays_mem.1 (lG hx)
   have k:=UA m s a z
   unfold Ux
   rw [k.1,k.2]
   simp only [Bool.or_eq_false_iff,bV]
   omega
  ·have hs:=SS m s A
   have h1:=J7 hy
   have:=List.pairwise_iff_getElem.1 hs i (i+1) (by omega) h1 (by omega)
   rw [lH (by omega)]at hx hy
   rw [lD hx,lD hy]at this
   exact this
  ·obtain ⟨a,z,h1,h2,_,rfl⟩:=stays_mem.1 hx
   have:=iA K O a z
   unfold Rg
   simp only [Bool.or_eq_false_iff,bV]
   omega
theorem DT {m:Map}{a:Int}{t:List Int}(R:RouteOK m a t):(a::t).length≤8:=by
  have:=R.most
  rw [lL];omega
theorem DU {m:Map}(K:KitM m)(n:Int): ∃a t,Hm m n=some (a::t)∧RouteOK m a t:=by
  obtain ⟨a,t,h1,h2,h3⟩:=MY K.toBearM K.val n
  exact ⟨a,t,h1,aN K.val h2 h3⟩
theorem ND {m:Map}(K:KitM m)(n:Int): ∃a t,Cj m n=some (a::t)∧RouteOK m a t:=by
  have step: ∀x:Int,0≤x→x<4→∃a t,RouteOK m a t∧(X7 m n x=some (.out (.inr (a::t)))∨X7 m n x=some (.go (x+1))):=by
    intro x h0 h1
    obtain ⟨a,t,e,R⟩:=DU K (D9 (n % 1048576+x))
    obtain ⟨l,hl⟩: ∃l,m.Lanes[a.toNat]? =some l:=⟨_,lH (by have:=R.first;omega)⟩
    have hg:=D5 hl
    rw [bZ R.first.1]at hg
    refine ⟨a,t,R,?_⟩
    unfold X7
    rw [bD h1,bH,Qv (by omega) (by omega),lB,e,lB,bD (show (((a::t).length:Nat):Int)>0 by rw [lL];omega),bH,show C3 (a::t) 0=some a from rfl,lB,bH,hg,lB,I3 (by omega)]
    cases l.Kind==1
    ·exact .inr rfl
    ·exact .inl rfl
  have key: ∀(k:Nat) (x:Int),0≤x→x+k=4→∃a t,RouteOK m a t∧thenS (loop (X7 m n) x) (fun _=>(Hm m 0).bind fun v5=>some v5) (fun r=>some r)=some (a::t):=by
    intro k
    induction k with
    |zero=>
     intro x h0 hx
     obtain ⟨a,t,e,R⟩:=DU K 0
     refine ⟨a,t,R,?_⟩
     rw [D4 (t:= .inl ()) (by unfold X7;rw [bE (by omega)];rfl)]
     show (Hm m 0).bind _=_
     rw [e];rfl
    |succ k ih=>
     intro x h0 hx
     obtain ⟨a,t,R,h|h⟩:=step x h0 (by omega)
     ·refine ⟨a,t,R,?_⟩
      rw [D4 h];rfl
     ·obtain ⟨a,t,R,e⟩:=ih (x+1) (by omega) (by omega)
      refine ⟨a,t,R,?_⟩
      rw [K0 h];exact e
  obtain ⟨a,t,R,e⟩:=key 4 0 (by omega) (by omega)
  exact ⟨a,t,e,R⟩
/-- What the kit makes of an actor. -/
structure KAgent (m:Map)(first:Bool)(g:Agent):Prop where
  route: ∃a t,g.Route=a::t∧RouteOK m a t
  len:300≤g.Len∧g.Len≤5000
  begin:0≤g.Begin∧g.Begin≤40
  S:0≤g.S∧g.S≤LongM m g.Route
  V:0≤g.V∧g.V≤(PW m g).1
  gone:g.Gone=false
  late:g.Begin>0→g.S=0
  first:first=true→g.Begin=0∧g.Obey=false
theorem LG {m:Map}(K:KitM m)(p:KitActor)(first:Bool): ∃g,Pk m p first=some g∧KAgent m first g∧(p.Len=0→g.Len=300)∧(first=true→Cj m p.R=some g.Route):=by
  obtain ⟨a1,t1,e1,R1⟩:=DU K p.R
  obtain ⟨a2,t2,e2,R2⟩:=ND K p.R
  have hy: ∃a t o,(cond first ((Cj m p.R).bind fun v3=>some (v3,false)) (some (a1::t1,(!p.Disobeys))))=some (a::t,o)∧RouteOK m a t∧(first=true→o=false)∧(first=true→Cj m p.R=some (a::t)):=by
    cases first
    ·exact ⟨a1,t1,_,rfl,R1,nofun,nofun⟩
    ·rw [e2];exact ⟨a2,t2,_,rfl,R2,fun _=>rfl,fun _=>rfl⟩
  obtain ⟨a,t,o,e3,R,ho,hrr⟩:=hy
  obtain ⟨l,hl⟩: ∃l,m.Lanes[a.toNat]? =some l:=⟨_,lH (by have:=R.first;omega)⟩
  have hg:=D5 hl
  rw [bZ R.first.1]at hg
  have hk:Dm m a=l.Kind:=by unfold Dm;rw [hl];rfl
  have hT:=FQ (Dm m a)
  have hL:=Ra R
  have hr:=DT R
  have m1: ∀n:Int,0≤n % ((Fv (Dm m a)).1+1)∧n % ((Fv (Dm m a)).1+1)≤(Fv (Dm m a)).1:=fun n=>by
    have h1:=wI n (show (Fv (Dm m a)).1+1≠0 by omega)
    have h2:=wJ n (show 0< (Fv (Dm m a)).1+1 by omega)
    omega
  have m2: ∀n:Int,0≤n % (LongM m (a::t)+1)∧n % (LongM m (a::t)+1)≤LongM m (a::t):=fun n=>by
    have h1:=wI n (show LongM m (a::t)+1≠0 by omega)
    have h2:=wJ n (show 0<LongM m (a::t)+1 by omega)
    omega
  have len: ∃L,(cond (decide ((Fv (Dm m a)).1<1000)) (some 300) (some (D9 (300+p.Len % 4700))))=some L∧(300≤L∧L≤5000)∧(p.Len=0→L=300):=by
    cases decide ((Fv (Dm m a)).1<1000)
    ·exact ⟨_,rfl,by rw [I3 (by omega)];omega,fun h=>by rw [h];rfl⟩
    ·exact ⟨_,rfl,by omega,fun _=>rfl⟩
  obtain ⟨L,eL,bL,bL0⟩:=len
  have hv:=m1 p.V
  have hs:=m2 p.S
  have fin: ∀S B:Int,0≤S→S≤LongM m (a::t)→0≤B→B≤40→(B>0→S=0)→(first=true→B=0)→KAgent m first ⟨a::t,S,p.V % ((Fv (Dm m a)).1+1),L,B,o,false⟩∧(p.Len=0→L=300)∧(first=true→Cj m p.R=some (a::t)):=by
    intro S B h1 h2 h3 h4 h5 h6
    refine ⟨?_,bL0,hrr⟩
    refine ⟨⟨a,t,rfl,R⟩,bL,⟨h3,h4⟩,⟨h1,h2⟩,?_,rfl,h5,fun h=>⟨h6 h,ho h⟩⟩
    rw [WL R rfl h1]
    exact hv
  unfold Pk
  rw [e1,lB,Ug (by omega) (by omega),lB,e3,lB]
  dsimp only
  rw [show C3 (a::t) 0=some a from rfl,lB,hg,lB,Ue,lB,← hk,I3 (by omega),Ug (by omega) (by omega),lB,eL,lB,IL K.toBearM _ (by omega),lB,I3 (by omega),Ug (by omega) (by omega),lB]
  cases hf:first
  ·rw [bR,bH,Qv (by omega) (by omega),lB,bM]
   by_cases q:p.Begin % 4=3
   ·rw [show (p.Begin % 4==3)=true by simpa using q,bH,Qv (by omega) (by omega),lB]
    rw [hf]at fin
    exact ⟨_,rfl,fin 0 (p.Begin % 40) (by omega) (by omega) (by omega) (by omega) (fun _=>rfl) nofun⟩
   ·rw [show (p.Begin % 4==3)=false by simpa using q,bI]
    rw [hf]at fin
    exact ⟨_,rfl,fin _ 0 hs.1 hs.2 (by omega) (by omega) (fun h=>absurd h (by omega)) nofun⟩
  ·rw [hf]at fin
   exact ⟨_,rfl,fin _ 0 hs.1 hs.2 (by omega) (by omega) (fun h=>absurd h (by omega)) fun _=>rfl⟩
structure KList (m:Map)(A:List Agent):Prop where
  few:A.length≤8
  ok: ∀(i:Nat) g,A[i]? =some g→KAgent m (decide (i=0)) g
theorem KList.size {m:Map}{A:List Agent}(h:KList m A):SizeS ⟨0,A,[]⟩:=by
  refine ⟨by have:=h.few;dsimp only;omega,by simp,fun g hg=> ?_⟩
  obtain ⟨i,hi⟩:=bB hg
  obtain ⟨a,t,hR,R⟩:=(h.ok i g hi).route
  have:=DT R
  rw [hR];omega
theorem KList.wf {m:Map}{A:List Agent}(h:KList m A): ∀g∈A,g.S≤9223372036854775807:=fun g hg=>by
  obtain ⟨i,hi⟩:=bB hg
  have k:=h.ok i g hi
  obtain ⟨a,t,hR,R⟩:=k.route
  have h1:=Ra R
  have h2:=k.S
  rw [hR]at h2
  omega
theorem KList.chk {m:Map}(K:KitM m){A:List Agent}(h:KList m A)(hn:A≠ []):StateOK m ⟨0,A,[]⟩:=by
  refine ⟨by dsimp only;omega,⟨List.length_pos_iff.2 hn,h.few⟩,fun i g hg=> ?_,fun i x hx=>by simp at hx,fun i x y hx=>by simp at hx,fun x hx=>by simp at hx⟩
  have k:=h.ok i g hg
  obtain ⟨a,t,hR,R⟩:=k.route
  have hL:=Ra R
  rw [← hR]at hL
  have hS:=k.S
  have hl:=k.len
  have hb:=k.begin
  refine ⟨k.route,by omega,by omega,by omega,k.V,?_,?_,fun h0=>(k.first (by simpa using h0)).1⟩
  ·rw [k.gone];unfold CG;rw [I3 (by omega),bE (by omega)]
  ·rintro ⟨q,q2⟩
   exact q2 (k.late q)
theorem cA {m:Map}(K:KitM m){A:List Agent}(h:(Ng m A).2=0):(Ng m A).1=⟨0,A,Nf m ⟨0,A,[]⟩ A⟩∧StateOK m (Ng m A).1:=by
  unfold Ng at h ⊢
  by_cases q:IO m ⟨0,A,[]⟩=0
  case neg=>rw [bJ q]at h;exact absurd h q
  rw [bK (by simp [q])]at h ⊢
  by_cases g:A.any (fun g=>g.Gone)=true
  ·rw [bJ g]at h;cases h
  rw [bK g]at h ⊢
  by_cases b:(Yu ⟨0,A,[]⟩ A.length A.length 0).any (fun p=>CJ m ⟨0,A,[]⟩ A p.1 p.2)=true
  ·rw [bJ b]at h;cases h
  rw [bK b]
  have O:=(DR K).1 q
  refine ⟨rfl,?_⟩
  obtain ⟨i1,i2,i3⟩:=iB K (s':=⟨0,A,Nf m ⟨0,A,[]⟩ A⟩) O A rfl (Int.le_refl _) rfl
  exact ⟨O.tick,O.num,fun i g hg=>by have x:=O.agent i g hg;exact ⟨x.route,x.len,x.begin,x.S,x.V,x.gone,x.late,x.first⟩,i1,i2,i3⟩
theorem fA {m:Map}(K:KitM m){g:Agent}(h:KAgent m true g):(Ng m [g]).2=0:=by
  have L:KList m [g]:=⟨by simp,fun i g' hg=>by
    cases i with
    |zero=>cases hg;exact h
    |succ i=>simp at hg⟩
  have q:=(DR K).2 (L.chk K (by simp))
  unfold Ng
  rw [bK (by simp [q]),bK (by simp [h.gone])]
  rfl
theorem StateOK.size {m:Map}(K:KitM m){s:State}(O:StateOK m s)(h:s.In.length≤1000000):SizeS s:=by
  refine ⟨by have:=O.num;omega,h,fun g hg=> ?_⟩
  obtain ⟨i,hi⟩:=bB hg
  obtain ⟨a,t,hR,R⟩:=(O.agent i g hi).route
  have:=DT R
  rw [hR];omega
def jL (m:Map)(l:List Agent)(s:State):Prop:=KList m l∧(l≠ []→s=(Ng m l).1∧(Ng m l).2=0)
theorem Zz {m:Map}(K:KitM m)(ps:List KitActor)(hp:ps.length≤7): ∀(k idx:Nat) (l:List Agent) (s:State),idx+k=ps.length→l.length≤idx→jL m l s→∃l' s',loop (Dz m ps) (l,(idx:Int),s)=some (l',s')∧jL m l' s'∧l'.length≤ps.length
  |0,idx,l,s,hi,hl,I=>by
   obtain rfl:idx=ps.length:=by omega
   exact ⟨l,s,D4 (by unfold Dz;dsimp only;rw [K2];rfl),I,hl⟩
  |k+1,idx,l,s,hi,hl,I=>by
   have hidx:idx<ps.length:=by omega
   have hlen:l.length≤7:=by omega
   obtain ⟨p,hpx⟩: ∃p,ps[idx]? =some p:=⟨_,lH hidx⟩
   obtain ⟨g,hg,kg,_⟩:=LG K p ((l.length:Int)==0)
   have L':KList m (l++ [g]):=by
     refine ⟨by simp;omega,fun i g' hg'=> ?_⟩
     by_cases q:i<l.length
     ·rw [lX q]at hg';exact I.1.ok i g' hg'
     ·have hlt:=J7 hg'
      rw [lM,List.length_singleton]at hlt
      obtain rfl:i=l.length:=by omega
      rw [lW (wA _),Nat.sub_self]at hg'
      cases hg'
      have:decide (l.length=0)=((l.length:Int)==0):=by
        by_cases h0:l.length=0
        ·simp [h0]
        ·simp [h0]
      rw [this];exact kg
   have e:=NC K L'.size L'.wf
   have key:Dz m ps (l,(idx:Int),s)=some (if (Ng m (l++ [g])).2=0 then .go ((Ng m (l++ [g])).1.Agents,((idx+1:Nat):Int),(Ng m (l++ [g])).1)else .go (l,((idx+1:Nat):Int),s)):=by
     unfold Dz
     dsimp only
     rw [L9 hidx,bD (show (l.length:Int)<8 by omega),Bool.and_self,bH,IM (by omega),lB,D5 hpx,lB,hg,lB,Au,bJ (by simp;omega),lB,e,lB,J1 hidx (by omega)]
     by_cases q:(Ng m (l++ [g])).2=0
     ·rw [bJ q,q];rfl
     ·rw [bK q,show ((Ng m (l++ [g])).2==0)=false by simpa using q];rfl
   by_cases q:(Ng m (l++ [g])).2=0
   ·rw [bJ q]at key
    have n:=cA K q
    have ea:(Ng m (l++ [g])).1.Agents=l++ [g]:=by rw [n.1]
    rw [ea]at key
    rw [K0 key]
    exact Zz K ps hp k (idx+1) _ _ (by omega) (by simp;omega) ⟨L',fun _=>⟨rfl,q⟩⟩
   ·rw [bK q]at key
    rw [K0 key]
    exact Zz K ps hp k (idx+1) _ _ (by omega) (by omega) I
theorem WM {m:Map}(K:KitM m)(ps:List KitActor)(hp:ps.length≤7): ∃A,Sq m ps=some (Ng m A).1∧(Ng m A).2=0∧KList m A∧0<A.length∧(A.length≤1∨A.length≤ps.length):=by
  have L0:KList m []:=⟨by simp,fun i g h=>by simp at h⟩
  have e0:=NC K L0.size L0.wf
  obtain ⟨l,s,e,I,hll⟩:=Zz K ps hp ps.length 0 [] (Ng m []).1 (by omega) (by simp) ⟨L0,fun h=>absurd rfl h⟩
  have e:loop (Dz m ps) ([],0,(Ng m []).1)=some (l,s):=e
  unfold Sq
  rw [e0,lB,e,lB]
  dsimp only
  by_cases h:l= []
  ·subst h
   obtain ⟨g,hg,kg,h300⟩:=LG K ⟨0,1048576,0,0,0,false⟩ true
   have hlen:=h300.1 rfl
   have kg':KAgent m true ⟨g.Route,D9 (g.Len+1),0,g.Len,g.Begin,g.Obey,g.Gone⟩:=by
     obtain ⟨a,t,hR,R⟩:=kg.route
     have hL:=Ra R
     rw [← hR]at hL
     have hT:=FQ
     refine ⟨kg.route,kg.len,kg.begin,?_,?_,kg.gone,fun h=> ?_,kg.first⟩
     ·show 0≤D9 (g.Len+1)∧D9 (g.Len+1)≤LongM m g.Route
      rw [hlen,I3 (by omega)];omega
     ·have:=FQ (Dm m (Yr m ⟨g.Route,D9 (g.Len+1),0,g.Len,g.Begin,g.Obey,g.Gone⟩).1)
      exact ⟨Int.le_refl _,this.1⟩
     ·have:=(kg.first rfl).1
      dsimp only at h
      omega
   have L:KList m [⟨g.Route,D9 (g.Len+1),0,g.Len,g.Begin,g.Obey,g.Gone⟩]:=⟨by simp,fun i g' hg=>by
     cases i with
     |zero=>cases hg;exact kg'
     |succ i=>simp at hg⟩
   refine ⟨_,?_,fA K kg',L,by simp, .inl (by simp)⟩
   rw [show (((([]:List Agent).length:Nat):Int)==0)=true from rfl,bH,hg,lB,NC K L.size L.wf];rfl
  ·have:=I.2 h
   have hl:=List.length_pos_iff.2 h
   refine ⟨l,?_,this.2,I.1,hl, .inr hll⟩
   rw [show ((l.length:Int)==0)=false by simp;exact h,bI,this.1]
theorem Rh (n:Int)(p:KitActor)(x y:Int):Fd n p x y=some true:=by
  obtain ⟨m,hm,K,_⟩:=eW n
  obtain ⟨A,e,h0,L,l1,l2⟩:=WM K [p] (by simp)
  have hlen:A.length=1:=by
    rw [List.length_singleton]at l2;omega
  obtain ⟨g,rfl⟩:=List.length_eq_one_iff.1 hlen
  obtain ⟨n1,O⟩:=cA K h0
  have k:=L.ok 0 g rfl
  obtain ⟨a,t,hR,R⟩:=k.route
  have hL:=Ra R
  have hS:=k.S
  have hV:=k.V
  have hT:=FQ (Dm m (Yr m g).1)
  have hV2:g.V≤2000:=Int.le_trans hV.2 hT.2.1
  rw [hR]at hS
  have hag:(Ng m [g]).1.Agents= [g]:=by rw [n1]
  have hveh:Ho (Ng m [g]).1=some (g,true):=by
    unfold Ho
    rw [hag,show ((([g]:List Agent).length:Int)==0)=false from rfl,bI,show C3 [g] 0=some g from rfl,lB,Xf,BE,bD (by omega),bD (by omega)];rfl
  have m1:=wI x (show (7:Int)≠0 by omega)
  have m2:=wJ x (show (0:Int)<7 by omega)
  have m3:=wI y (show (401:Int)≠0 by omega)
  have m4:=wJ y (show (0:Int)<401 by omega)
  have hsp: ∃lo hi,Oa (Ng m [g]).1 x=some ⟨(Ng m [g]).1.Tick,lo,hi⟩∧lo≤g.V∧g.V≤hi∧hi - lo≤6∧0≤lo∧hi≤10000:=by
    unfold Oa
    rw [hveh,lB,bQ,bI,aR (by omega) (by omega),lB,Xf]
    refine ⟨_,_,rfl,?_⟩
    dsimp only
    rw [I3 (n:=g.V+x % 7) (by omega),I3 (n:=g.V+x % 7 - 3) (by omega),I3 (by omega),I3 (by omega)]
    omega
  have hfx: ∃lo hi,Ss (Ng m [g]).1 y=some ⟨(Ng m [g]).1.Tick,lo,hi⟩∧lo≤g.S∧g.S≤hi∧hi - lo=400∧ -1000≤lo∧hi≤1000000000:=by
    unfold Ss
    rw [hveh,lB,bQ,bI,aR (by omega) (by omega),lB]
    refine ⟨_,_,rfl,?_⟩
    dsimp only
    rw [I3 (n:=g.S+y % 401) (by omega),I3 (n:=g.S+y % 401 - 200) (by omega),I3 (by omega),I3 (by omega)]
    omega
  obtain ⟨lo,hi,e1,a1,a2,a3,a4,a5⟩:=hsp
  obtain ⟨lo',hi',e2,b1,b2,b3,b4,b5⟩:=hfx
  unfold Fd
  rw [hm,lB,e,lB,hag,show ((([g]:List Agent).length:Int) !=1)=false from rfl,bI,e1,lB,e2,lB,show C3 [g] 0=some g from rfl,aG,lB]
  dsimp only
  rw [bD a1,bH,lB,bD a2,I3 (by omega),bD a3,Bool.and_self,Bool.and_self,bH,lB,bD b1,Bool.and_self,bH,lB,bD b2,I3 (by omega),b3]
  rfl
end Go.Abs.World
