/-
  Plain facts, second part: the law itself.
-/
import Derived.Test.YtgjdiioennhoeaaGreatPlain
set_option linter.all false
/-! The red lines. -/
namespace Go.Abs.World
open Go Go.Abs
theorem Qz {high:Int}: ∀{l:List Int} {low:Int},Fk high low l=true→l.Pairwise (· < ·)
  | [],_,_=>List.Pairwise.nil
  |n::r,low,h=>by
   simp only [Fk,bP]at h
   refine l9.2 ⟨fun x hx=> ?_,Qz h.2⟩
   have:=(Pn h.2 x hx).1
   omega
def DW (m:Map)(z:Zone):Signal:=m.Signals.getD (z.Signal_ - 1).toNat default
def Pa (m:Map)(lane tick:Int)(z:Zone)(p:Part):Option Int:=if p.Lane_==lane&& !DE (DW m z) lane tick then some p.From else none
def Fl (m:Map)(lane tick:Int)(z:Zone):List Int:=if z.Signal_==0 then []else z.Parts.filterMap (Pa m lane tick z)
def SH (m:Map)(lane tick:Int):List Int:=m.Zones.flatMap (Fl m lane tick)
theorem aB (m:Map)(lane tick:Int)(z:Zone): ∀l:List Part,(l.map (·.Lane_)).Pairwise (· < ·)→(l.filterMap (Pa m lane tick z)).length≤1
  | [],_=>by simp
  |p::r,h=>by
   obtain ⟨h1,h2⟩:=l9.1 h
   rw [List.filterMap_cons]
   by_cases e:p.Lane_=lane
   ·have:r.filterMap (Pa m lane tick z)= []:=by
      rw [List.filterMap_eq_nil_iff]
      intro q hq
      have:p.Lane_<q.Lane_:=h1 q.Lane_ (List.mem_map_of_mem hq)
      unfold Pa
      rw [show (q.Lane_==lane)=false by simp;omega];rfl
    rw [this]
    cases Pa m lane tick z p<;>simp
   ·have:Pa m lane tick z p=none:=by unfold Pa;rw [show (p.Lane_==lane)=false by simp [e]];rfl
    rw [this]
    exact aB m lane tick z r h2
theorem IP {m:Map}{z:Zone}(Z:ZoneOK m z)(lane tick:Int):(Fl m lane tick z).length≤1:=by
  unfold Fl
  split
  ·simp
  ·exact aB m lane tick z _ (Qz Z.rise)
theorem aC {m:Map}(lane tick:Int): ∀l:List Zone,(∀z∈l,ZoneOK m z)→(l.flatMap (Fl m lane tick)).length≤l.length
  | [],_=>by simp
  |z::r,h=>by
   rw [bD,lL,lK]
   have:=IP (h z (by simp)) lane tick
   have:=aC lane tick r fun y hy=>h y (List.mem_cons_of_mem _ hy)
   omega
theorem uY {m:Map}(B:BearM m)(V:ValR m)(lane:Int){tick:Int}(ht:0≤tick)(z:Zone)(Z:ZoneOK m z)(hz:z.Signal_≠0): ∀(r:List Part) (i:Nat) (out:List Int),z.Parts.drop i=r→i≤z.Parts.length→out.length+r.length≤1000→
    loop (Db m lane tick z) (out,(i:Int))=some (out++r.filterMap (Pa m lane tick z)):=by
  intro r
  induction r with
  |nil=>
   intro i out hi hil hl
   have:=O6 hi
   obtain rfl:i=z.Parts.length:=by omega
   refine D0 ?_
   unfold Db
   rw [J2];simp
  |cons p r ih=>
   intro i out hi hil hl
   have hlt:=N5 hi
   have hp:=Z3 hi
   have hsz:=Z.six
   simp only [lK]at hl
   have hw:C3 (z.Signal_ - 1)=z.Signal_ - 1:=G9 (by have:=Z.sig;have:=V.signals;omega)
   have hk:(z.Signal_ - 1).toNat<m.Signals.length:=by have:=Z.sig;omega
   have hget:m.Signals[(z.Signal_ - 1).toNat]? =some (DW m z):=by rw [DW,List.getD,lH hk];rfl
   have hg:B7 m.Signals (z.Signal_ - 1)=some (DW m z):=by unfold B7;rw [bL (by have:=Z.sig;omega),hget]
   have hs:Db m lane tick z (out,(i:Int))=some (.go ((match Pa m lane tick z p with|some b=>out++ [b]|none=>out),((i+1:Nat):Int))):=by
     unfold Db Pa
     dsimp only
     rw [K6 hlt,C8 hp,bJ,lB,hw,hg,G6 hlt (by omega)]
     cases p.Lane_==lane
     ·rfl
     ·simp only [bJ,lB,bN]
      rw [VB (V.sig B hget) lane ht,lB]
      cases DE (DW m z) lane tick
      ·simp only [bS,bJ,if_true]
       rw [Lu (by simp;omega),lB]
      ·rfl
   rw [L4 hs,List.filterMap_cons]
   cases Pa m lane tick z p with
   |none=>exact ih (i+1) out (L0 hi) (by omega) (by omega)
   |some b=>
    dsimp only
    rw [ih (i+1) (out++ [b]) (L0 hi) (by omega) (by simp;omega)]
    simp
theorem uZ {m:Map}(B:BearM m)(V:ValR m)(lane:Int){tick:Int}(ht:0≤tick): ∀(r:List Zone) (i:Nat) (out:List Int),m.Zones.drop i=r→i≤m.Zones.length→out.length+r.length≤100→
    loop (Dc m lane tick) (out,(i:Int))=some (out++r.flatMap (Fl m lane tick)):=by
  intro r
  induction r with
  |nil=>
   intro i out hi hil hl
   have:=O6 hi
   obtain rfl:i=m.Zones.length:=by omega
   refine D0 ?_
   unfold Dc
   rw [J2];simp
  |cons z r ih=>
   intro i out hi hil hl
   have hlt:=N5 hi
   have hz:=Z3 hi
   have Z:=V.zoneOK (lG hz)
   simp only [lK]at hl
   have hn:=V.zones
   have hs:Dc m lane tick (out,(i:Int))=some (.go (out++Fl m lane tick z,((i+1:Nat):Int))):=by
     unfold Dc Fl
     dsimp only
     rw [K6 hlt,C8 hz,bJ,lB,G6 hlt (by omega)]
     by_cases e:z.Signal_=0
     ·rw [show (z.Signal_==0)=true by simp [e],bJ,bL rfl];simp
     ·rw [show (z.Signal_==0)=false by simp [e],bK,bM (by simp)]
      have:=uY B V lane ht z Z e z.Parts 0 out rfl (by omega) (by have:=Z.six;omega)
      have this':loop (Db m lane tick z) (out,0)=_:=this
      rw [this',lB]
   have:=IP Z lane tick
   rw [L4 hs,ih (i+1) _ (L0 hi) (by omega) (by rw [lL];omega),bD,lN]
/-- The red lines: strictly ascending, and those that there are. -/
theorem sB {m:Map}(B:BearM m)(V:ValR m)(lane:Int){tick:Int}(ht:0≤tick): ∃R,Rm m lane tick=some R∧R.Pairwise (· < ·)∧(∀x,x∈R↔x∈SH m lane tick)∧R.length≤1000:=by
  have hlen:(SH m lane tick).length≤12:=wG (aC lane tick m.Zones fun z hz=>V.zoneOK hz) V.zones
  have h1:loop (Dc m lane tick) ([],0)=some (SH m lane tick):=by
    have:=uZ B V lane ht m.Zones 0 [] rfl (by omega) (by simp;have:=V.zones;omega)
    rw [lP]at this
    exact this
  unfold Rm
  rw [h1,lB]
  cases q:SH m lane tick with
  |nil=>exact ⟨[],by rw [oZ];rfl,List.Pairwise.nil,fun x=> .rfl,by simp⟩
  |cons a l=>
   rw [q]at hlen
   obtain ⟨ys,g1,g2,g3⟩:=sA (a::l) hlen
   have hys:ys≠ []:=by rintro rfl;exact absurd g2.length_eq (by simp)
   have hc:FG ys=some (Hv ys):=by cases ys with|nil=>exact absurd rfl hys|cons=>rfl
   refine ⟨Hv ys,by rw [show List.isEmpty (a::l)=false from rfl,bK,g1,lB,hc];rfl,IO _ (g3.imp fun {a b} h=> ?_),fun x=>(JW _ _).trans g2.mem_iff,?_⟩
   ·simp only [gF,bW]at h;omega
   ·have: ∀l:List Int,(Hv l).length≤l.length:=by
      intro l
      induction l with
      |nil=>simp [Hv]
      |cons a l ih=>
       cases l with
       |nil=>simp [Hv]
       |cons b r=>
        rw [Hv]
        cases a==b
        ·simp only [bK,lK]at ih ⊢;omega
        ·simp only [bJ,lK]at ih ⊢;omega
    have h2:=this ys
    rw [g2.length_eq]at h2
    omega
theorem vA {m:Map}(B:BearM m)(lane tick:Int): ∃R,Ib m lane tick=some R∧R.Pairwise (· < ·)∧(∀x,x∈R↔ (0≤tick∧XR m lane=true∧x∈SH m lane tick))∧R.length≤1000:=by
  unfold Ib
  rw [GF B]
  by_cases ht:tick<0
  ·exact ⟨[],by rw [show decide (tick<0)=true from bF ht];rfl,List.Pairwise.nil,fun x=>⟨fun h=>absurd h (by simp),fun h=>by omega⟩,by simp⟩
  ·rw [show decide (tick<0)=false from bG ht]
   cases hi:XR m lane
   ·exact ⟨[],rfl,List.Pairwise.nil,fun x=>⟨fun h=>absurd h (by simp),fun h=>by cases h.2.1⟩,by simp⟩
   ·obtain ⟨R,g1,g2,g3,g4⟩:=sB B (isM_true.1 hi).2.2 lane (tick:=tick) (by omega)
    exact ⟨R,by simp only [bS,bJ,lB,bR,Bool.or_false,bK,g1],g2,fun x=>(g3 x).trans ⟨fun h=>⟨by omega,rfl,h⟩,fun h=>h.2.2⟩,g4⟩
end Go.Abs.World
namespace Go.Abs
open Go
section
variable {α β σ τ:Type}
/-- Gathering goes on behind what is there. -/
theorem vB {F:List β×Int→Option (Stp (List β×Int) τ)}(l:List α)(g:Nat→α→Option β)(fin:List β→τ)(s0:List β)(B:Nat)(hB:s0.length+l.length≤B)
    (hF: ∀(i:Nat) a (s:List β),l[i]? =some a→s.length+1≤B→F (s,(i:Int))=some (.go ((match g i a with|some b=>s++ [b]|none=>s),((i+1:Nat):Int))))
    (h0: ∀s,F (s,(l.length:Int))=some (.out (fin s))):loop F (s0,0)=some (fin (s0++Hm g 0 l)):=by
  have:=ZX (F:=F) (fun i s=>(s,(i:Int))) l (fun i s=>s.length≤s0.length+i) (fun i s a=>match g i a with|some b=>s++ [b]|none=>s) fin (s0:=s0) (S0:=(s0,0)) rfl (by simp) (fun i a s h hs=>hF i a s h (by have:=(lI.1 h).1;omega)) (fun i a s _ hs=>by
    cases g i a<;>simp<;>omega) (fun s _=>h0 s)
  exact this.trans (congrArg (fun x=>some (fin x)) (DB g l 0 s0))
/-- What rounds put one behind the other. -/
def AI (g:Nat→α→List β):Nat→List α→List β
  |_,[]=> []
  |i,a::r=>g i a++AI g (i+1) r
theorem VC (g:Nat→α→List β)(C:Nat): ∀(l:List α) (i:Nat),(∀(j:Nat) a,l[j]? =some a→(g (i+j) a).length≤C)→(AI g i l).length≤l.length*C
  | [],_,_=>by simp [AI]
  |a::r,i,h=>by
   have h1:=h 0 a rfl
   have h2:=VC g C r (i+1) (fun j b hb=>by have:=h (j+1) b (by simpa using hb);rwa [show i+1+j=i+ (j+1) by omega])
   rw [AI,lL,lK,Nat.succ_mul]
   rw [Nat.add_zero]at h1
   omega
end
end Go.Abs
namespace Go.Abs.World
open Go Go.Abs
theorem aD {z:Zone}(hl:z.Parts.length≤1000000)(k:Int):Yf z k=some (Oz z k):=by
  have key: ∀(r:List Part) (i:Nat),z.Parts.drop i=r→i≤z.Parts.length→thenS (loop (Jp z k) (i:Int)) (fun _=>some ((⟨0,0,0,0⟩:Part),false)) (fun r=>some r)=some (match r.find? (fun p=>p.Lane_==k)with|some p=>(p,true)|none=>(⟨0,0,0,0⟩,false)):=by
    intro r
    induction r with
    |nil=>
     intro i hi hil
     have:=O6 hi
     obtain rfl:i=z.Parts.length:=by omega
     rw [D0 (t:= .inl ()) (by unfold Jp;rw [J2];rfl)];rfl
    |cons p r ih=>
     intro i hi hil
     have hlt:=N5 hi
     have hp:=Z3 hi
     rw [List.find?_cons]
     cases q:p.Lane_==k
     ·rw [L4 (s':=((i+1:Nat):Int)) (by unfold Jp;rw [K6 hlt,C8 hp,bJ,lB,q,G6 hlt (by omega)];rfl)]
      exact ih (i+1) (L0 hi) (by omega)
     ·rw [D0 (t:= .inr (p,true)) (by unfold Jp;rw [K6 hlt,C8 hp,bJ,lB,q,bJ,lB])];rfl
  exact key z.Parts 0 rfl (by omega)
theorem wV (s:Signal)(S:SigOK s): ∀(r:List Phase) (i:Nat) (a:Int),s.Phases.drop i=r→i≤s.Phases.length→0≤a→a+10000*r.length≤1000000→loop (Fc s) (a,(i:Int))=some (a+Tg r):=by
  intro r
  induction r with
  |nil=>
   intro i a hi hil h0 h1
   have:=O6 hi
   obtain rfl:i=s.Phases.length:=by omega
   refine D0 ?_
   unfold Fc
   rw [J2];simp [Tg]
  |cons p r ih=>
   intro i a hi hil h0 h1
   have hlt:=N5 hi
   have hp:=Z3 hi
   have hb:=S.ticks p (lG hp)
   simp only [lK]at h1
   have hs:Fc s (a,(i:Int))=some (.go (a+p.Ticks,((i+1:Nat):Int))):=by
     unfold Fc
     dsimp only
     rw [K6 hlt,C8 hp,bJ,lB,G9 (by omega),G6 hlt (by have:=S.many;omega)]
   rw [L4 hs,ih (i+1) _ (L0 hi) (by omega) (by omega) (by omega),Tg]
   congr 1;omega
theorem wW (s:Signal)(S:SigOK s)(lane:Int): ∀(r:List Phase) (i:Nat) (a:Int),s.Phases.drop i=r→i≤s.Phases.length→0≤a→a≤1000000→thenS (loop (Df s lane) (a,(i:Int))) (fun _=>some false) (fun r=>some r)=some (OK lane a r):=by
  intro r
  induction r with
  |nil=>
   intro i a hi hil h0 h1
   have:=O6 hi
   obtain rfl:i=s.Phases.length:=by omega
   rw [D0 (t:= .inl ())]
   ·rfl
   ·unfold Df
    rw [J2];rfl
  |cons p r ih=>
   intro i a hi hil h0 h1
   have hlt:=N5 hi
   have hp:=Z3 hi
   have hb:=S.ticks p (lG hp)
   by_cases hc:p.Ticks≤a
   ·have hs:Df s lane (a,(i:Int))=some (.go (a - p.Ticks,((i+1:Nat):Int))):=by
      unfold Df
      dsimp only
      rw [K6 hlt,C8 hp,bJ,lB,show decide (a<p.Ticks)=false from bG (by omega),bK,lB,G9 (by omega),G6 hlt (by have:=S.many;omega)]
    rw [L4 hs,ih (i+1) _ (L0 hi) (by omega) (by omega) (by omega),OK,bL hc]
   ·have hs:Df s lane (a,(i:Int))=some (.out (.inr (p.Green.contains lane))):=by
      unfold Df
      dsimp only
      rw [K6 hlt,C8 hp,bJ,lB,show decide (a<p.Ticks)=true from bF (by omega),bJ,lB,eE _ (S.green p (lG hp)),lB]
    rw [D0 hs,OK,bM hc];rfl
theorem VD {s:Signal}(S:SigOK s)(lane:Int){tick:Int}(h:0≤tick):Rr s lane tick=some (DE s lane tick):=by
  obtain ⟨h1,h2⟩:=S.sum
  unfold Rr
  have e1:loop (Fc s) (0,0)=some (Tg s.Phases):=by
    have:=wV s S s.Phases 0 0 rfl (by omega) (by omega) (by have:=S.many;omega)
    rw [Int.zero_add]at this;exact this
  have hne:Tg s.Phases≠0:=by omega
  rw [e1,lB]
  unfold HK
  rw [bM hne,lB,bM hne,lB,bM hne,lB,tN S h]
  refine wW s S lane s.Phases 0 _ rfl (by omega) (Int.emod_nonneg _ hne) ?_
  have:=wL (s.Offset+tick) (b:=Tg s.Phases) (by omega)
  omega
theorem jB {m:Map}(B:BearM m)(g lane tick:Int):Vh m g lane tick=some (NL m g lane tick):=by
  unfold Vh NL
  rw [BG B,lB]
  have e:(((XR m lane&& (decide (g≥0)))&& (decide (g< (m.Signals.length:Int))))&& (decide (tick≥0)))=((((decide (tick≥0))&& (decide (g≥0)))&& (decide (g< (m.Signals.length:Int))))&&XR m lane):=by
    cases XR m lane<;>cases decide (g≥0)<;>cases decide (g< (m.Signals.length:Int))<;>cases decide (tick≥0)<;>rfl
  rw [e]
  cases hc:((((decide (tick≥0))&& (decide (g≥0)))&& (decide (g< (m.Signals.length:Int))))&&XR m lane)
  ·rfl
  ·simp only [bP,bH]at hc
   obtain ⟨⟨⟨c1,c2⟩,c3⟩,c4⟩:=hc
   have hl:g.toNat<m.Signals.length:=by omega
   have hget:m.Signals[g.toNat]? =some (m.Signals.getD g.toNat default):=by rw [List.getD,lH hl];rfl
   have hg:B7 m.Signals g=some (m.Signals.getD g.toNat default):=by unfold B7;rw [bL c2,hget]
   have S:=((isM_true.1 c4).2.2).sig B hget
   simp only [bJ,lB,bN,hg,VD S lane c1]
theorem VE (m:Map)(lane tick:Int)(z:Zone): ∀l:List Part,(l.map (·.Lane_)).Pairwise (· < ·)→l.filterMap (Pa m lane tick z)=match l.find? (fun p=>p.Lane_==lane)with|some p=>if DE (DW m z) lane tick=true then []else [p.From]|none=> []
  | [],_=>rfl
  |p::r,h=>by
   obtain ⟨h1,h2⟩:=l9.1 h
   rw [List.filterMap_cons,List.find?_cons]
   by_cases e:p.Lane_=lane
   ·have:r.filterMap (Pa m lane tick z)= []:=by
      rw [List.filterMap_eq_nil_iff]
      intro q hq
      have:p.Lane_<q.Lane_:=h1 q.Lane_ (List.mem_map_of_mem hq)
      unfold Pa
      rw [show (q.Lane_==lane)=false by simp;omega];rfl
    rw [this,show (p.Lane_==lane)=true by simp [e]]
    unfold Pa
    rw [show (p.Lane_==lane)=true by simp [e]]
    cases DE (DW m z) lane tick<;>rfl
   ·have:Pa m lane tick z p=none:=by unfold Pa;rw [show (p.Lane_==lane)=false by simp [e]];rfl
    rw [this,show (p.Lane_==lane)=false by simp [e]]
    exact VE m lane tick z r h2
theorem sC (out:List Int)(q:Part×Bool)(i0:Int)(hl:out.length≤1000): ∀(r:List Int) (i:Nat),out.drop i=r→i≤out.length→loop (Fd (out,i0) q) (i:Int)=some ((i+ (r.takeWhile fun y=>decide (y<q.1.From)).length:Nat):Int):=by
  intro r
  induction r with
  |nil=>
   intro i hi hil
   have:=O6 hi
   obtain rfl:i=out.length:=by omega
   refine D0 ?_
   unfold Fd
   dsimp only
   rw [J2];rfl
  |cons y r ih=>
   intro i hi hil
   have hlt:=N5 hi
   have hy:=Z3 hi
   rw [List.takeWhile_cons]
   by_cases hc:y<q.1.From
   ·rw [bL (by simpa using hc),lK,L4 (s':=((i+1:Nat):Int)),ih (i+1) (L0 hi) (by omega)]
    ·congr 2;omega
    ·unfold Fd
     dsimp only
     rw [K6 hlt,C8 hy,bJ,lB,show decide (y<q.1.From)=true from bF hc,Bool.and_true,bJ,G6 hlt (by omega)]
   ·rw [bM (by simpa using hc)]
    refine D0 ?_
    unfold Fd
    dsimp only
    rw [K6 hlt,C8 hy,bJ,lB,show decide (y<q.1.From)=false from bG hc];rfl
theorem jC {α:Type}(L R:List α):EZ (L++R) 0 (L.length:Int)=some L:=by
  unfold EZ
  rw [bL ⟨by omega,by omega,by simp;omega⟩]
  simp
theorem eO {α:Type}(L R:List α):EZ (L++R) (L.length:Int) ((L++R).length:Int)=some R:=by
  unfold EZ
  rw [bL ⟨by omega,by simp;omega,by omega⟩,show (((L++R).length:Int)).toNat=(L++R).length from bZ _,List.take_length,show ((L.length:Int)).toNat=L.length from bZ _,List.drop_left]
theorem pB {α:Type}{p:α→Bool}: ∀{l:List α} {x:α},x∈l.takeWhile p→p x=true
  | [],_,h=>by simp at h
  |a::r,x,h=>by
   rw [List.takeWhile_cons]at h
   split at h
   ·rename_i ha
    rcases lT.1 h with rfl|h
    ·exact ha
    ·exact pB h
   ·simp at h
/-- A number is put into a list that is strictly ascending. -/
theorem pC (out:List Int)(x:Int)(hs:out.Pairwise (· < ·))(hl:out.length≤500): ∃out':List Int,∀(i':Int),((cond (decide (((out.takeWhile fun y=>decide (y<x)).length:Int)< (out.length:Int))) (B7 out ((out.takeWhile fun y=>decide (y<x)).length:Int)) (some default)).bind fun v6=>cond ((decide (((out.takeWhile fun y=>decide (y<x)).length:Int)< (out.length:Int)))&& (v6==x)) (some (.go (out,i'):Stp (List Int×Int) (List Int))) ((EZ out 0 ((out.takeWhile fun y=>decide (y<x)).length:Int)).bind fun v7=>(Z2 ([]:List Int) v7).bind fun v8=>(Z2 v8 [x]).bind fun v9=>(EZ out ((out.takeWhile fun y=>decide (y<x)).length:Int) (out.length:Int)).bind fun v10=>(Z2 v9 v10).bind fun v11=>some (.go (v11,i'))))=some (.go (out',i'))∧
    out'.Pairwise (· < ·)∧(∀y,y∈out'↔y=x∨y∈out)∧out'.length≤out.length+1:=by
  have e:=List.takeWhile_append_dropWhile (p:=fun y=>decide (y<x)) (l:=out)
  have hL: ∀y∈out.takeWhile (fun y=>decide (y<x)),y<x:=fun y hy=>by
    have:=pB hy
    simpa using this
  have hR0: ∀y R',out.dropWhile (fun y=>decide (y<x))=y::R'→x≤y:=fun y R' h=>by
    have:=List.head?_dropWhile_not (fun y=>decide (y<x)) out
    rw [h]at this
    simp at this;exact this
  generalize out.takeWhile (fun y=>decide (y<x))=L at*
  generalize out.dropWhile (fun y=>decide (y<x))=R at*
  subst e
  have hll:L.length+R.length≤500:=by simpa using hl
  have hgo: ∀i':Int,((EZ (L++R) 0 (L.length:Int)).bind fun v7=>(Z2 ([]:List Int) v7).bind fun v8=>(Z2 v8 [x]).bind fun v9=>(EZ (L++R) (L.length:Int) ((L++R).length:Int)).bind fun v10=>(Z2 v9 v10).bind fun v11=>some (.go (v11,i'):Stp (List Int×Int) (List Int)))=some (.go (L++x::R,i')):=fun i'=>by
    rw [jC,lB,Lu (by simp;omega),lB,lP,Lu (by simp;omega),lB,eO,lB,Lu (by simp;omega),lB]
    simp
  obtain ⟨p1,p2,p3⟩:=bA.1 hs
  cases R with
  |nil=>
   refine ⟨L++ [x],fun i'=> ?_⟩
   have:=hgo i'
   refine ⟨?_,bA.2 ⟨p1,List.pairwise_singleton _ _,fun y hy z hz=>by rw [bE.1 hz];exact hL y hy⟩,fun y=>by simp [or_comm],by simp⟩
   rw [show decide ((L.length:Int)< ((L++ ([]:List Int)).length:Int))=false from bG (by simp)]
   simp only [bK,lB,bO]
   exact this
  |cons y R=>
   have hy:=hR0 y R rfl
   have hg:B7 (L++y::R) (L.length:Int)=some y:=Qg _ _ _ _ rfl
   by_cases hxy:y=x
   ·subst hxy
    refine ⟨L++y::R,fun i'=>⟨?_,hs,fun z=>⟨.inr,fun h=>h.elim (fun h=>by rw [h];simp) id⟩,by simp⟩⟩
    rw [show decide ((L.length:Int)< ((L++y::R).length:Int))=true from bF (by simp;omega)]
    simp only [bJ,hg,lB,bN]
    rw [show (y==y)=true by simp];rfl
   ·refine ⟨L++x::y::R,fun i'=> ?_⟩
    have:=hgo i'
    obtain ⟨q1,q2⟩:=l9.1 p2
    refine ⟨?_,bA.2 ⟨p1,l9.2 ⟨fun z hz=> ?_,p2⟩,fun a ha b hb=> ?_⟩,fun z=>by simp only [lS,lT];constructor<;>(intro h;rcases h with h|h|h|h<;>simp [h]),by simp;omega⟩
    ·rw [show decide ((L.length:Int)< ((L++y::R).length:Int))=true from bF (by simp;omega)]
     simp only [bJ,hg,lB,bN]
     rw [show (y==x)=false by simp [hxy],bK]
     exact this
    ·rcases lT.1 hz with rfl|hz
     ·omega
     ·have:=q1 z hz;omega
    ·rcases lT.1 hb with rfl|hb
     ·exact hL a ha
     ·exact p3 a ha b hb
theorem vC {m:Map}(B:BearM m)(V:ValR m)(lane:Int){tick:Int}(ht:0≤tick): ∀(r:List Zone) (i:Nat) (out:List Int),m.Zones.drop i=r→i≤m.Zones.length→out.Pairwise (· < ·)→out.length+r.length≤100→
    ∃R,loop (Fe m lane tick) (out,(i:Int))=some R∧R.Pairwise (· < ·)∧(∀y,y∈R↔y∈out∨y∈r.flatMap (Fl m lane tick))∧R.length≤100:=by
  intro r
  induction r with
  |nil=>
   intro i out hi hil hs hl
   have:=O6 hi
   obtain rfl:i=m.Zones.length:=by omega
   refine ⟨out,D0 ?_,hs,fun y=>by simp,by simpa using hl⟩
   unfold Fe
   rw [J2];rfl
  |cons z r ih=>
   intro i out hi hil hs hl
   have hlt:=N5 hi
   have hz:=Z3 hi
   have hzm:=lG hz
   have Z:=V.zoneOK hzm
   have hsg:=Z.sig
   have hns:=V.signals
   have hnz:=V.zones
   simp only [lK]at hl
   have hpl:z.Parts.length≤1000000:=by have:=Z.six;omega
   suffices h: ∃out',Fe m lane tick (out,(i:Int))=some (.go (out',((i+1:Nat):Int)))∧out'.Pairwise (· < ·)∧(∀y,y∈out'↔y∈out∨y∈Fl m lane tick z)∧out'.length≤out.length+1 by
     obtain ⟨out',g1,g2,g3,g4⟩:=h
     obtain ⟨R,k1,k2,k3,k4⟩:=ih (i+1) out' (L0 hi) (by omega) g2 (by omega)
     refine ⟨R,by rw [L4 g1];exact k1,k2,fun y=> ?_,k4⟩
     rw [k3,g3,bD,lS,or_assoc]
   unfold Fe
   dsimp only
   rw [K6 hlt,C8 hz,bJ,lB,aD hpl,lB,G6 hlt (by omega),G9 (n:=z.Signal_ - 1) (by omega)]
   have hzl:Fl m lane tick z=if z.Signal_==0 then []else match z.Parts.find? (fun p=>p.Lane_==lane)with|some p=>if DE (DW m z) lane tick=true then []else [p.From]|none=> []:=by
     unfold Fl
     rw [VE m lane tick z z.Parts (Qz Z.rise)]
   have hskip:Fl m lane tick z= []→∃out',some (.go (out,((i+1:Nat):Int)):Stp (List Int×Int) (List Int))=some (.go (out',((i+1:Nat):Int)))∧out'.Pairwise (· < ·)∧(∀y,y∈out'↔y∈out∨y∈Fl m lane tick z)∧out'.length≤out.length+1:=fun h=>⟨out,rfl,hs,fun y=>by rw [h];simp,by omega⟩
   cases hp:z.Parts.find? (fun p=>p.Lane_==lane)with
   |none=>
    have hpm:Oz z lane=(⟨0,0,0,0⟩,false):=by unfold Oz;rw [hp]
    rw [hpm]
    simp only [bS,Bool.true_or,bR,bK,lB,bJ]
    refine hskip ?_
    rw [hzl,hp]
    split<;>rfl
   |some p=>
    have hpm:Oz z lane=(p,true):=by unfold Oz;rw [hp]
    rw [hpm]
    by_cases h0:z.Signal_=0
    ·rw [show (z.Signal_==0)=true by simp [h0]]
     simp only [bR,bT,bK,lB,Bool.true_or,bJ]
     refine hskip ?_
     rw [hzl,bL (by simp [h0])]
    ·have hk:(z.Signal_ - 1).toNat<m.Signals.length:=by omega
     have hget:m.Signals[(z.Signal_ - 1).toNat]? =some (DW m z):=by rw [DW,List.getD,lH hk];rfl
     have hg:B7 m.Signals (z.Signal_ - 1)=some (DW m z):=by unfold B7;rw [bL (by omega),hget]
     rw [show (z.Signal_==0)=false by simp [h0]]
     simp only [bR,bT,bS,bJ,lB,hg,VD (V.sig B hget) lane ht]
     rw [bM (by simp [h0]),hp]at hzl
     cases hgr:DE (DW m z) lane tick with
     |true=>
      rw [bJ]
      refine hskip ?_
      rw [hzl,hgr];rfl
     |false=>
      rw [hgr]at hzl
      have hzl':Fl m lane tick z= [p.From]:=hzl
      have h2:loop (Fd (out,(i:Int)) (p,true)) 0=some (((out.takeWhile fun y=>decide (y<p.From)).length:Nat):Int):=by
        have:=sC out (p,true) (i:Int) (by omega) out 0 rfl (by omega)
        rw [wF]at this
        exact this
      obtain ⟨out',hk1⟩:=pC out p.From hs (by omega)
      obtain ⟨k1,k2,k3,k4⟩:=hk1 ((i+1:Nat):Int)
      rw [bK,h2,lB]
      exact ⟨out',k1,k2,fun y=>by rw [k3,hzl',bE,or_comm],k4⟩
theorem sD {m:Map}(B:BearM m)(lane tick:Int): ∃R,Ib m lane tick=some R∧Tu m lane tick=some R∧R.length≤1000:=by
  obtain ⟨R,r1,r2,r3,r4⟩:=vA B lane tick
  refine ⟨R,r1,?_,r4⟩
  unfold Tu
  rw [BG B,lB]
  by_cases ht:tick<0
  ·have:R= []:=List.eq_nil_iff_forall_not_mem.2 fun x hx=>by have:=(r3 x).1 hx;omega
   rw [this,show decide (tick<0)=true from bF ht,Bool.or_true];rfl
  ·rw [show decide (tick<0)=false from bG ht,Bool.or_false]
   cases hi:XR m lane
   ·have:R= []:=List.eq_nil_iff_forall_not_mem.2 fun x hx=>by have:=(r3 x).1 hx;rw [hi]at this;cases this.2.1
    rw [this];rfl
   ·have V:=(isM_true.1 hi).2.2
    obtain ⟨R',k1,k2,k3,_⟩:=vC B V lane (tick:=tick) (by omega) m.Zones 0 [] rfl (by omega) List.Pairwise.nil (by simp;have:=V.zones;omega)
    have k1':loop (Fe m lane tick) ([],0)=some R':=k1
    have:R=R':=SG r2 k2 fun x=>by
      rw [r3,k3]
      exact ⟨fun h=> .inr h.2.2,fun h=>⟨by omega,hi,h.elim (fun h=>absurd h (by simp)) id⟩⟩
    unfold Zx
    rw [this,k1'];rfl
def MG (x y:Int):Int:=if x<y then -1 else if x>y then 1 else 0
def sE (a b:Pass):Int:=if MG a.From b.From≠0 then MG a.From b.From else MG a.Zone_ b.Zone_
def DX (a b:Pass):Bool:=decide (a.From<b.From∨a.From=b.From∧a.Zone_<b.Zone_)
theorem ltP_ok:LtOK DX:=⟨fun a b h=>by simp only [DX,bH,bW]at h ⊢;omega,fun a b c h1 h2=>by simp only [DX,bW]at h1 h2 ⊢;omega⟩
theorem sF (a b:Pass):decide (sE a b<0)=DX a b:=by
  unfold sE DX MG
  rw [decide_eq_decide]
  split<;>(repeat' split)<;>omega
theorem wX (x y:Int):Du [x,y]=some (if x≠0 then x else y):=by
  have f0:Al [x,y] 0=some (if x≠0 then .out (.inr x)else .go 1):=by
    by_cases h:x=0
    ·subst h;rfl
    ·have hb:(x !=0)=true:=by simp [h]
     unfold Al
     simp [B7,h,hb]
  have f1:Al [x,y] 1=some (if y≠0 then .out (.inr y)else .go 2):=by
    by_cases h:y=0
    ·subst h;rfl
    ·have hb:(y !=0)=true:=by simp [h]
     unfold Al
     simp [B7,h,hb]
  have f2:Al [x,y] 2=some (.out (.inl ())):=rfl
  unfold Du
  by_cases hx:x=0
  ·by_cases hy:y=0
   ·rw [L4 (by rw [f0,bM (by simp [hx])]),L4 (by rw [f1,bM (by simp [hy])]),D0 f2]
    subst hx hy;rfl
   ·rw [L4 (by rw [f0,bM (by simp [hx])]),D0 (by rw [f1,bL hy]),bM (by simp [hx])];rfl
  ·rw [D0 (by rw [f0,bL hx]),bL hx];rfl
theorem DF (a b:Int):Y6 a b=some (MG a b):=by
  have h: ∀x:Int,U2 x=some false:=fun x=>by unfold U2;simp
  unfold Y6 MG
  rw [h,h]
  simp only [lB,bK,fT]
  split<;>(repeat' split)<;>rfl
theorem Zg (a b:Int):X3 a b=some (MG a b):=by
  have h: ∀x:Int,Ek x=some false:=fun x=>by unfold Ek;simp
  unfold X3 MG
  rw [h,h]
  simp only [lB,bK,fT]
  split<;>(repeat' split)<;>rfl
theorem sG (a b:Pass):Fa a b=some (sE a b):=by
  unfold Fa sE
  rw [DF,lB,Zg,lB,wX];rfl
theorem eP (P T:List Pass)(x:Pass)(Q:List Pass)(hs:Srt DX Q)(hN:(P++Q++x::T).length≤1000000):
    ∃Q',loop (D1 (P.length:Int)) (((P.length+Q.length:Nat):Int),P++Q++x::T)=some (P++Q'++T)∧Q'.Perm (x::Q)∧Srt DX Q':=by
  have hstop: ∀xs,D1 (P.length:Int) ((P.length:Int),xs)=some (.out xs):=fun xs=>by
    unfold D1
    simp only [show decide ((P.length:Int)>(P.length:Int))=false from bG (by omega),bK,bO,lB]
  have hF: ∀(U V:List Pass) (q y:Pass),P.length≤U.length→(U++q::y::V).length=(P++Q++x::T).length→D1 (P.length:Int) (((U.length:Int)+1),U++q::y::V)=some (if DX y q then .go ((U.length:Int),U++y::q::V)else .out (U++q::y::V)):=fun U V q y hP hl=>by
    unfold D1
    have hb:U.length+2≤1000000:=by rw [← hl]at hN;simp at hN;omega
    have e1:C3 ((U.length:Int)+1 - 1)=(U.length:Int):=by rw [G9 (by omega)];omega
    have g1:B7 (U++q::y::V) ((U.length:Int)+1)=some y:=by rw [jA];exact Qg _ _ _ _ (by simp)
    have g2:B7 (U++q::y::V) (U.length:Int)=some q:=Qg _ _ _ _ rfl
    have s1:Kj (U++q::y::V) ((U.length:Int)+1) q=U++q::q::V:=by rw [jA,BZ _ _ _ _ _ (by simp)];simp
    have g3:B7 (U++q::q::V) (U.length:Int)=some q:=Qg _ _ _ _ rfl
    have s2:Kj (U++q::q::V) (U.length:Int) y=U++y::q::V:=BZ _ _ _ _ _ rfl
    simp only [show decide (((U.length:Int)+1)>(P.length:Int))=true from bF (by omega),bJ,bN,e1,g1,g2,s1,g3,s2,lB,sG,sF]
    cases DX y q<;>rfl
  obtain ⟨Q',h1,h2,h3⟩:=NK ltP_ok (P:=P) (T:=T) (P++Q++x::T).length hstop hF x Q.length Q [] rfl (by simpa using hs) (by simp) (by simp)
  refine ⟨Q',?_,by simpa using h2,h3⟩
  rw [← h1];congr 1;simp
theorem XM (P A S:List Pass)(hN:(P++A++S).length≤1000000):
    ∃A',D6 (P++A++S) (P.length:Int) ((P.length+A.length:Nat):Int)=some (P++A'++S)∧A'.Perm A∧Srt DX A':=by
  unfold D6
  have hend: ∀(xs:List Pass) (i:Nat),P.length+A.length≤i→D9 (P.length:Int) ((P.length+A.length:Nat):Int) ((i:Int),xs)=some (.out xs):=fun xs i hi=>by
    unfold D9
    rw [show decide ((i:Int)< ((P.length+A.length:Nat):Int))=false from bG (by omega)];rfl
  simp only [lL]at hN
  have hw:C3 ((P.length:Int)+1)=((P.length+1:Nat):Int):=by rw [G9 (by omega)];omega
  cases A with
  |nil=>
   refine ⟨[],?_,by simp,List.Pairwise.nil⟩
   rw [hw,D0 (hend _ _ (by simp))]
  |cons a A=>
   have hF: ∀(Q R:List Pass) (x:Pass),(P++Q++x::R++S).length=(P++a::A++S).length→P.length+Q.length<P.length+ (a::A).length→Srt DX Q→∃Q',D9 (P.length:Int) ((P.length+ (a::A).length:Nat):Int) (((P.length+Q.length:Nat):Int),P++Q++x::R++S)=some (.go (((P.length+Q.length+1:Nat):Int),P++Q'++R++S))∧Q'.Perm (x::Q)∧Srt DX Q':=fun Q R x hl hb hs=>by
     obtain ⟨Q',k1,k2,k3⟩:=eP P (R++S) x Q hs (by simp only [lL,lK]at hl hN ⊢;omega)
     refine ⟨Q',?_,k2,k3⟩
     unfold D9
     have e1:P++Q++x::R++S=P++Q++x::(R++S):=by simp
     rw [show decide (((P.length+Q.length:Nat):Int)< ((P.length+ (a::A).length:Nat):Int))=true from bF (by omega),bJ]
     simp only [e1,k1,lB]
     rw [G9 (by simp only [lK]at hN hb;omega)]
     simp
   obtain ⟨A',h1,h2,h3⟩:=VA (lt:=DX) (P:=P) (S:=S) (P++a::A++S).length (P.length+ (a::A).length) hend hF A [a] (by simp) (by simp;omega) (List.pairwise_singleton _ _)
   refine ⟨A',?_,h2,h3⟩
   rw [hw,← h1];congr 1;simp
theorem sH (x y:Nat)(h:x+y≤4000000):C3 ((IntKind.wrap .u64 (C3 ((x:Int)+ (y:Int)))).fdiv (2^ (min (1:Int).toNat (IntKind.bits .u64))))=(((x+y) / 2:Nat):Int):=by
  rw [G9 (n:=(x:Int)+ (y:Int)) (by omega)]
  have e:IntKind.wrap .u64 ((x:Int)+ (y:Int))=(x:Int)+ (y:Int):=by
    unfold IntKind.wrap
    simp only [IntKind.signed,IntKind.bits,bO,Bool.false_eq_true,if_false]
    omega
  rw [e,show (2:Int)^ (min (1:Int).toNat (IntKind.bits .u64))=2 from rfl,Int.fdiv_eq_ediv_of_nonneg _ (by omega),G9 (by omega)]
  omega
def BlkS (w:Nat)(l:List Pass):Prop:= ∀i,Srt DX ((l.drop (i*w)).take w)
theorem BlkS.cons {w:Nat}{M R:List Pass}(hM:M.length=w)(h1:Srt DX M)(h2:BlkS w R):BlkS w (M++R):=by
  intro i
  cases i with
  |zero=>rw [Nat.zero_mul,List.drop_zero,List.take_append_of_le_length (by omega),List.take_of_length_le (by omega)];exact h1
  |succ i=>
   have:=h2 i
   rw [wD,wE,List.drop_append,List.drop_eq_nil_of_le (by omega),lP,show i*w+w - M.length=i*w by omega]
   exact this
theorem BlkS.last {w:Nat}{M:List Pass}(hM:M.length≤w)(h1:Srt DX M):BlkS w M:=by
  intro i
  exact h1.sublist ((List.take_sublist _ _).trans (List.drop_sublist _ _))
theorem BlkS.drop {w:Nat}{R:List Pass}(h:BlkS w R):BlkS w (R.drop w):=by
  intro i
  have:=h (i+1)
  rwa [wD,wE,Nat.add_comm,← List.drop_drop]at this
theorem BlkS.head {w:Nat}{R:List Pass}(h:BlkS w R):Srt DX (R.take w):=by
  have:=h 0
  rwa [Nat.zero_mul,List.drop_zero]at this
theorem wY (n:Nat)(hn:n≤100): ∀(k:Nat) (R D:List Pass),R.length≤k→D.length+R.length=n→
    ∃y R',loop (E1 (n:Int)) ((D.length:Int),((D.length+20:Nat):Int),D++R)=some y∧D6 y.2 y.1 (n:Int)=some (D++R')∧BlkS 20 R'∧R'.Perm R:=by
  intro k
  induction k with
  |zero=>
   intro R D hk hl
   obtain rfl:=List.length_eq_zero_iff.1 (show R.length=0 by omega)
   obtain ⟨A',g1,g2,g3⟩:=XM D [] [] (by simp;omega)
   simp only [lO,lM,Nat.add_zero]at g1 hl ⊢
   refine ⟨_,A',D0 (t:=((D.length:Int),D)) ?_,by rw [← hl];exact g1, .last (by rw [g2.length_eq];simp) g3,g2⟩
   unfold E1
   rw [show decide (((D.length+20:Nat):Int)≤(n:Int))=false from bG (by omega)];rfl
  |succ k ih=>
   intro R D hk hl
   by_cases h20:20≤R.length
   ·have eR:=List.take_append_drop 20 R
    have l1:(R.take 20).length=20:=by rw [lU];omega
    obtain ⟨A',g1,g2,g3⟩:=XM D (R.take 20) (R.drop 20) (by rw [lN,eR];simp;omega)
    have lA:A'.length=20:=by rw [g2.length_eq];exact l1
    rw [l1,lN,eR]at g1
    obtain ⟨y,R',k1,k2,k3,k4⟩:=ih (R.drop 20) (D++A') (by rw [List.length_drop];omega) (by rw [lL,List.length_drop];omega)
    refine ⟨y,A'++R',?_,by rw [k2,lN], .cons lA g3 k3,?_⟩
    ·rw [← k1,show (D++A').length=D.length+20 by rw [lL,lA]]
     refine L4 ?_
     unfold E1
     simp only [show decide (((D.length+20:Nat):Int)≤(n:Int))=true from bF (by omega),bJ,g1,lB]
     rw [G9 (n:=((D.length+20:Nat):Int)+20) (by omega)]
     simp
    ·exact (g2.append k4).trans (by rw [eR])
   ·obtain ⟨A',g1,g2,g3⟩:=XM D R [] (by simp;omega)
    simp only [lO]at g1
    rw [hl]at g1
    refine ⟨_,A',D0 (t:=((D.length:Int),D++R)) ?_,g1, .last (by rw [g2.length_eq];omega) g3,g2⟩
    unfold E1
    rw [show decide (((D.length+20:Nat):Int)≤(n:Int))=false from bG (by omega)];rfl
theorem jD (xs:List Pass)(h:xs.length≤19): ∃ys,G0 xs=some ys∧ys.Perm xs∧Srt DX ys:=by
  obtain ⟨y,R,k1,k2,k3,k4⟩:=wY xs.length (by omega) xs.length xs [] (wB _) (by simp)
  refine ⟨R,?_,k4,?_⟩
  ·unfold G0 K4
   have k1':loop (E1 (xs.length:Int)) (0,20,xs)=some y:=k1
   have k2':D6 y.2 y.1 (xs.length:Int)=some R:=k2
   have g1':loop (H4 (xs.length:Int) R) 20=some R:=by
     refine D0 ?_
     unfold H4
     rw [show decide ((20:Int)< (xs.length:Int))=false from bG (by omega)];rfl
   simp only [k1',lB,k2',g1']
  ·have:=k3.head
   rwa [List.take_of_length_le (by rw [k4.length_eq];omega)]at this
theorem JX:G1=some ():=by
  have i0:E7 0 0=some ():=by
    unfold E7
    exact D0 rfl
  have h1:loop (J4 0) (0,20)=some 0:=D0 rfl
  have h2:loop (J3 0) 20=some ():=D0 rfl
  unfold G1 K5
  simp only [h1,lB,i0,h2]
theorem DG (m:Map): ∀(r:List Int) (s:Int),Ho m s r=s+Ho m 0 r
  | [],s=>by simp [Ho]
  |a::r,s=>by rw [Ho,Ho,DG m r (s+T4 m a),DG m r (0+T4 m a)];omega
theorem Ru (m:Map): ∀(r:List Int) (s:Int) (i:Nat),i<r.length→(R8 m s r)[i]? =some (s+Ho m 0 (r.take i))
  | [],_,_,h=>absurd h (by simp)
  |a::r,s,0,_=>by simp [R8,Ho]
  |a::r,s,i+1,h=>by
   rw [R8,List.getElem?_cons_succ,Ru m r _ i (by simpa using h),List.take_succ_cons,Ho,DG m _ (0+T4 m a)]
   congr 1;omega
noncomputable def Ul (m:Map)(r:List Int)(i:Nat):Int:=Ho m 0 (r.take i)
theorem GH (m:Map)(r:List Int):Ul m r 0=0:=rfl
theorem OL (m:Map)(x:Int): ∀(l:List Int) (s:Int),Ho m s (l++ [x])=Ho m s l+T4 m x
  | [],s=>rfl
  |a::l,s=>by rw [List.cons_append,Ho,Ho,OL m x l]
theorem Zh {m:Map}{r:List Int}{i:Nat}{a:Int}(h:r[i]? =some a):Ul m r (i+1)=Ul m r i+T4 m a:=by
  unfold Ul
  rw [List.take_add_one,h]
  exact OL m a _ _
theorem sI (m:Map)(r:List Int):Ul m r r.length=Ho m 0 r:=by rw [Ul,List.take_length]
theorem RouteOK.len {m:Map}{a:Int}{t:List Int}(R:RouteOK m a t){i:Nat}{x:Int}(h:(a::t)[i]? =some x):1000≤T4 m x∧T4 m x≤16777216:=by
  have:=R.mem (lG h)
  exact R.val.long this.1 this.2
theorem RouteOK.mono {m:Map}{a:Int}{t:List Int}(R:RouteOK m a t): ∀(j i:Nat),i+j≤(a::t).length→Ul m (a::t) i+1000*j≤Ul m (a::t) (i+j)∧Ul m (a::t) (i+j)≤Ul m (a::t) i+16777216*j
  |0,i,_=>by simp
  |j+1,i,h=>by
   have:=R.mono j i (by omega)
   have e:(a::t)[i+j]? =some (a::t)[i+j]:=lH (by omega)
   have hl:=R.len e
   rw [← Nat.add_assoc,Zh e]
   omega
theorem RouteOK.lt {m:Map}{a:Int}{t:List Int}(R:RouteOK m a t){i j:Nat}(hij:i<j)(hj:j≤(a::t).length):Ul m (a::t) i+1000≤Ul m (a::t) j:=by
  have:=(R.mono (j - i) i (by omega)).1
  rw [show i+ (j - i)=j by omega]at this
  omega
theorem RouteOK.bd {m:Map}{a:Int}{t:List Int}(R:RouteOK m a t){i:Nat}(hi:i≤(a::t).length):0≤Ul m (a::t) i∧Ul m (a::t) i≤134217728:=by
  have:=R.mono i 0 (by omega)
  have h7:=R.most
  simp only [lK]at hi
  rw [wF,GH]at this
  omega
theorem RouteOK.follow {m:Map}{a:Int}{t:List Int}(R:RouteOK m a t):Et m (a::t)=⟨m,a::t,R8 m 0 (a::t),Ul m (a::t) (a::t).length⟩:=by
  unfold Et
  rw [bL (chkRoute_zero.2 ⟨a,t,rfl,R⟩),sI]
theorem RouteOK.starts {m:Map}{a:Int}{t:List Int}{i:Nat}(hi:i< (a::t).length):B7 (R8 m 0 (a::t)) (i:Int)=some (Ul m (a::t) i):=by
  rw [C8 (Ru m _ 0 i hi),Int.zero_add];rfl
def Ti (lane s:Int)(zi:Nat):Nat→List Part→List Pass
  |_,[]=> []
  |k,p::r=>(if p.Lane_==lane then [⟨(zi:Int),(k:Int),s+p.From,s+p.To⟩]else [])++Ti lane s zi (k+1) r
def Wu (lane s:Int):Nat→List Zone→List Pass
  |_,[]=> []
  |zi,z::r=>Ti lane s zi 0 z.Parts++Wu lane s (zi+1) r
noncomputable def Pu (m:Map):Int→List Int→List Pass
  |_,[]=> []
  |s,a::r=>Wu a s 0 m.Zones++Pu m (s+T4 m a) r
theorem HE (lane s:Int)(zi:Nat): ∀(l:List Part) (k:Nat),(l.map (·.Lane_)).Pairwise (· < ·)→(Ti lane s zi k l).length≤1
  | [],_,_=>by simp [Ti]
  |p::r,k,h=>by
   obtain ⟨h1,h2⟩:=l9.1 h
   have nil: ∀(r:List Part) (k:Nat),(∀q∈r,q.Lane_≠lane)→Ti lane s zi k r= []:=by
     intro r
     induction r with
     |nil=>intro k _;rfl
     |cons q r ih=>
      intro k hq
      rw [Ti,ih (k+1) (fun y hy=>hq y (List.mem_cons_of_mem _ hy)),show (q.Lane_==lane)=false by simp [hq q (by simp)]]
      rfl
   rw [Ti]
   by_cases e:p.Lane_=lane
   ·rw [nil r (k+1) (fun q hq=>by
    have:p.Lane_<q.Lane_:=h1 q.Lane_ (List.mem_map_of_mem hq)
    omega)]
    simp [e]
   ·rw [show (p.Lane_==lane)=false by simp [e]]
    exact HE lane s zi r (k+1) h2
theorem HF {m:Map}(lane s:Int): ∀(l:List Zone) (zi:Nat),(∀z∈l,ZoneOK m z)→(Wu lane s zi l).length≤l.length
  | [],_,_=>by simp [Wu]
  |z::r,zi,h=>by
   have:=HE lane s zi z.Parts 0 (Qz (h z (by simp)).rise)
   have:=HF lane s r (zi+1) fun y hy=>h y (List.mem_cons_of_mem _ hy)
   rw [Wu,lL,lK]
   omega
theorem VF (lane s:Int)(zi:Nat): ∀(l:List Part) (k:Nat) (x:Pass),x∈Ti lane s zi k l→∃(j:Nat) (p:Part),l[j]? =some p∧p.Lane_=lane∧x=⟨(zi:Int),((k+j:Nat):Int),s+p.From,s+p.To⟩
  | [],_,x,h=>by simp [Ti]at h
  |p::r,k,x,h=>by
   rw [Ti,lS]at h
   rcases h with h|h
   ·by_cases e:p.Lane_=lane
    ·rw [bL (by simp [e]),bE]at h
     exact ⟨0,p,rfl,e,h⟩
    ·rw [bM (by simp [e])]at h;simp at h
   ·obtain ⟨j,q,h1,h2,h3⟩:=VF lane s zi r (k+1) x h
    exact ⟨j+1,q,by simpa using h1,h2,by rw [h3];congr 1;omega⟩
theorem VG (lane s:Int): ∀(l:List Zone) (zi:Nat) (x:Pass),x∈Wu lane s zi l→∃(j:Nat) (z:Zone) (k:Nat) (p:Part),l[j]? =some z∧z.Parts[k]? =some p∧p.Lane_=lane∧x=⟨((zi+j:Nat):Int),(k:Int),s+p.From,s+p.To⟩
  | [],_,x,h=>by simp [Wu]at h
  |z::r,zi,x,h=>by
   rw [Wu,lS]at h
   rcases h with h|h
   ·obtain ⟨k,p,h1,h2,h3⟩:=VF lane s zi z.Parts 0 x h
    exact ⟨0,z,k,p,rfl,h1,h2,by rw [h3,wF];rfl⟩
   ·obtain ⟨j,y,k,p,h0,h1,h2,h3⟩:=VG lane s r (zi+1) x h
    exact ⟨j+1,y,k,p,by simpa using h0,h1,h2,by rw [h3];congr 1;omega⟩
theorem HG (m:Map): ∀(r:List Int) (s:Int) (x:Pass),x∈Pu m s r→∃(i:Nat) (lane:Int) (j:Nat) (z:Zone) (k:Nat) (p:Part),r[i]? =some lane∧m.Zones[j]? =some z∧z.Parts[k]? =some p∧p.Lane_=lane∧x=⟨(j:Int),(k:Int),s+Ho m 0 (r.take i)+p.From,s+Ho m 0 (r.take i)+p.To⟩
  | [],_,x,h=>by simp [Pu]at h
  |a::r,s,x,h=>by
   rw [Pu,lS]at h
   rcases h with h|h
   ·obtain ⟨j,z,k,p,h1,h2,h3,h4⟩:=VG a s m.Zones 0 x h
    exact ⟨0,a,j,z,k,p,rfl,h1,h2,h3,by rw [h4];simp [Ho]⟩
   ·obtain ⟨i,lane,j,z,k,p,h0,h1,h2,h3,h4⟩:=HG m r _ x h
    refine ⟨i+1,lane,j,z,k,p,by simpa using h0,h1,h2,h3,?_⟩
    rw [h4,List.take_succ_cons,Ho,DG m _ (0+T4 m a)]
    congr 1<;>omega
section
variable {m:Map}{a:Int}{t:List Int}
theorem sJ (B:BearM m)(R:RouteOK m a t){i:Nat}{lane:Int}(hi:i< (a::t).length)(zi:Nat){z:Zone}(hz:m.Zones[zi]? =some z)(o1 o2:List Pass):
    ∀(r:List Part) (k:Nat) (out:List Pass),z.Parts.drop k=r→k≤z.Parts.length→out.length+r.length≤1000→
     loop (Aa (Et m (a::t)) (o1,(i:Int)) lane (o2,(zi:Int)) z) (out,(k:Int))=some (out++Ti lane (Ul m (a::t) i) zi k r):=by
  have Z:=R.val.zoneOK (lG hz)
  have h6:=Z.six
  intro r
  induction r with
  |nil=>
   intro k out hk hkl hl
   have:=O6 hk
   obtain rfl:k=z.Parts.length:=by omega
   refine D0 ?_
   unfold Aa
   rw [J2];simp [Ti]
  |cons p r ih=>
   intro k out hk hkl hl
   have hlt:=N5 hk
   have hp:=Z3 hk
   have hpm:=lG hp
   have hpt:=Z.part p hpm
   have hln:=Pn Z.rise p.Lane_ (List.mem_map_of_mem hpm)
   have hll:=R.val.long hln.1 hln.2
   have hb:=R.bd (Nat.le_of_lt hi)
   simp only [lK]at hl
   have hs:Aa (Et m (a::t)) (o1,(i:Int)) lane (o2,(zi:Int)) z (out,(k:Int))=some (.go (out++ (if p.Lane_==lane then [⟨(zi:Int),(k:Int),Ul m (a::t) i+p.From,Ul m (a::t) i+p.To⟩]else []),((k+1:Nat):Int))):=by
     unfold Aa
     dsimp only
     rw [K6 hlt,C8 hp,bJ,lB,G6 hlt (by omega)]
     cases p.Lane_==lane
     ·simp
     ·rw [R.follow]
      dsimp only
      rw [bJ,RouteOK.starts hi,lB,lB,G9 (by omega),G9 (by omega),Lu (by simp;omega)]
      rfl
   rw [L4 hs,ih (k+1) _ (L0 hk) (by omega) (by rw [lL];split<;>simp<;>omega),Ti,lN]
theorem sK (B:BearM m)(R:RouteOK m a t){i:Nat}{lane:Int}(hi:i< (a::t).length)(o1:List Pass):
    ∀(r:List Zone) (zi:Nat) (out:List Pass),m.Zones.drop zi=r→zi≤m.Zones.length→out.length+r.length≤500→
     loop (Ab m (Et m (a::t)) (o1,(i:Int)) lane) (out,(zi:Int))=some (out++Wu lane (Ul m (a::t) i) zi r):=by
  intro r
  induction r with
  |nil=>
   intro zi out hk hkl hl
   have:=O6 hk
   obtain rfl:zi=m.Zones.length:=by omega
   refine D0 ?_
   unfold Ab
   rw [J2];simp [Wu]
  |cons z r ih=>
   intro zi out hk hkl hl
   have hlt:=N5 hk
   have hz:=Z3 hk
   have Z:=R.val.zoneOK (lG hz)
   have h6:=Z.six
   have hnz:=R.val.zones
   simp only [lK]at hl
   have h1:=HE lane (Ul m (a::t) i) zi z.Parts 0 (Qz Z.rise)
   have h3:loop (Aa (Et m (a::t)) (o1,(i:Int)) lane (out,(zi:Int)) z) (out,0)=_:=sJ B R hi zi hz o1 out z.Parts 0 out rfl (by omega) (by omega)
   have hs:Ab m (Et m (a::t)) (o1,(i:Int)) lane (out,(zi:Int))=some (.go (out++Ti lane (Ul m (a::t) i) zi 0 z.Parts,((zi+1:Nat):Int))):=by
     unfold Ab
     dsimp only
     rw [K6 hlt,C8 hz,bJ,lB,h3,lB,G6 hlt (by omega)]
   rw [L4 hs,ih (zi+1) _ (L0 hk) (by omega) (by rw [lL];omega),Wu,lN]
theorem sL (B:BearM m)(R:RouteOK m a t):
    ∀(r:List Int) (i:Nat) (out:List Pass),(a::t).drop i=r→i≤(a::t).length→out.length+12*r.length≤200→
     loop (P7 m (Et m (a::t))) (out,(i:Int))=some (out++Pu m (Ul m (a::t) i) r):=by
  have hl:(Et m (a::t)).lanes=a::t:=by rw [R.follow]
  intro r
  induction r with
  |nil=>
   intro i out hk hkl hle
   have:=O6 hk
   obtain rfl:i=(a::t).length:=by omega
   refine D0 ?_
   unfold P7
   dsimp only
   rw [hl,J2];simp [Pu]
  |cons x r ih=>
   intro i out hk hkl hle
   have hlt:=N5 hk
   have hx:=Z3 hk
   have hm7:=R.most
   have hnz:=R.val.zones
   simp only [lK]at hle hlt
   have h2:loop (Ab m (Et m (a::t)) (out,(i:Int)) x) (out,0)=_:=sK B R (lane:=x) (N5 hk) out m.Zones 0 out rfl (by omega) (by omega)
   have hs:P7 m (Et m (a::t)) (out,(i:Int))=some (.go (out++Wu x (Ul m (a::t) i) 0 m.Zones,((i+1:Nat):Int))):=by
     unfold P7
     dsimp only
     rw [hl,K6 (N5 hk),C8 hx,bJ,lB,h2,lB,G6 (N5 hk) (by simp only [lK];omega)]
   have:=HF (m:=m) x (Ul m (a::t) i) m.Zones 0 fun z hz=>R.val.zoneOK hz
   rw [L4 hs,ih (i+1) _ (L0 hk) (by simp only [lK];omega) (by rw [lL];omega),Zh hx,Pu,lN]
/-- A map with so few zones as the kit's. -/
structure BearK (m:Map):Prop extends BearM m where
  zones2:m.Zones.length≤2
theorem SI {m:Map}(V:ValR m): ∀(r:List Int) (s:Int),(Pu m s r).length≤m.Zones.length*r.length
  | [],s=>by simp [Pu]
  |a::r,s=>by
   have h1:=HF (m:=m) a s m.Zones 0 fun z hz=>V.zoneOK hz
   have h2:=SI V r (s+T4 m a)
   rw [Pu,lL,lK,Nat.mul_add,Nat.mul_one];omega
/-- The passes: sorted, and those that there are. -/
theorem VH (B:BearK m)(R:RouteOK m a t): ∃ps,Av m (a::t)=some ps∧ps.Perm (Pu m 0 (a::t))∧Srt DX ps∧ps.length≤16:=by
  have hm7:=R.most
  have hlen:(Pu m 0 (a::t)).length≤16:=by
    have:=SI R.val (a::t) 0
    have h2:m.Zones.length* (a::t).length≤2*8:=wH B.zones2 (by simp only [lK];omega)
    omega
  have h1:loop (P7 m (Et m (a::t))) ([],0)=some (Pu m 0 (a::t)):=by
    have:=sL B.toBearM R (a::t) 0 [] rfl (by omega) (by simp;omega)
    rw [lP,GH]at this
    exact this
  unfold Av
  rw [Xn B.toBearM _ (by simp;omega),lB,h1,lB]
  cases q:Pu m 0 (a::t)with
  |nil=>exact ⟨[],by rw [JX];rfl, .refl _,List.Pairwise.nil,by simp⟩
  |cons x l=>
   rw [q]at hlen
   obtain ⟨ys,g1,g2,g3⟩:=jD (x::l) (by omega)
   exact ⟨ys,by rw [show List.isEmpty (x::l)=false from rfl,bK,g1];rfl,g2,g3,by rw [g2.length_eq];exact hlen⟩
end
theorem aE {m:Map}(B:BearM m)(V:ValR m)(l:List Int)(hl:l.length≤1000000): ∀(r:List Int) (i:Nat) (a:Int),l.drop (i+1)=r→l[i]? =some a→0≤a→a<m.Lanes.length→thenS (loop (Br m l) ((i+1:Nat):Int)) (fun _=>some 0) (fun r=>some r)=some (if Wo m a r=true then 0 else 13):=by
  intro r
  induction r with
  |nil=>
   intro i a hi ha h0 h1
   have h2:=O6 hi
   have h3:=(lI.1 ha).1
   have h4:i+1=l.length:=by omega
   rw [D0 (t:= .inl ())]
   ·rfl
   ·unfold Br
    rw [show decide (((i+1:Nat):Int)< (l.length:Int))=false from bG (by omega)];rfl
  |cons b r ih=>
   intro i a hi ha h0 h1
   have hlt:=N5 hi
   have hb:=Z3 hi
   obtain ⟨ln,e1,e2⟩:=DC h0 h1
   have hw:C3 (((i+1:Nat):Int) - 1)=(i:Int):=by rw [G9 (by omega)];omega
   have hs:Br m l ((i+1:Nat):Int)=some (if ln.Next.contains b=true then .go (((i+1+1:Nat):Int))else .out (.inr 13)):=by
     unfold Br
     rw [K6 hlt,bJ,hw,C8 ha,lB,e2,lB,C8 hb,lB,eE _ (B.toBear.pts _ (lG e1)).2,lB,G6 hlt (by omega)]
     cases ln.Next.contains b<;>rfl
   have hn:nextOf m a.toNat=ln.Next:=by unfold nextOf;rw [e1];rfl
   rw [Wo,hn]
   cases q:ln.Next.contains b
   ·rw [q]at hs;rw [D0 hs];rfl
   ·rw [q]at hs
    have hbm:=V.next e1 (List.contains_iff_mem.1 q)
    rw [L4 hs,ih (i+1) b (L0 hi) hb (by omega) (by omega),bN]
theorem Td {m:Map}(B:BearM m)(r:List Int)(hr:r.length≤1000000):Cm m r=some (R7 m r):=by
  unfold Cm R7
  rw [Zf B,lB]
  by_cases q:BX m=0
  ·have V:=chkR_zero.1 q
   rw [bM (by simpa using q),show (BX m !=0)=false by simpa using q,bK]
   cases r with
   |nil=>rfl
   |cons a t=>
    dsimp only
    simp only [lK]at hr ⊢
    by_cases h8:7<t.length
    ·rw [bL (.inl h8),show ((((t.length+1:Nat):Int)==0)||(decide (((t.length+1:Nat):Int)>8)))=true by simp;omega];rfl
    ·rw [show ((((t.length+1:Nat):Int)==0)||(decide (((t.length+1:Nat):Int)>8)))=false by simp;omega]
     rw [show B7 (a::t) 0=some a from rfl]
     simp only [bS,bJ,lB,bT]
     by_cases h0:a<0
     ·rw [bL (.inr (.inl h0)),bF h0];rfl
     ·rw [bG h0]
      simp only [bS,bJ,lB,bT]
      by_cases h1:(m.Lanes.length:Int)≤a
      ·rw [bL (.inr (.inr (.inl h1))),show decide (a≥(m.Lanes.length:Int))=true from bF h1];rfl
      ·rw [show decide (a≥(m.Lanes.length:Int))=false from bG (by omega)]
       simp only [bS,bJ,bT]
       rw [lB,eF B,lB]
       by_cases hb:Ur m a= []
       ·rw [hb,show decide ((([]:List Int).length:Int)>0)=false from rfl,bK]
        have:=aE B V (a::t) (by simpa using hr) t 0 a rfl rfl (by omega) (by omega)
        rw [show ((0+1:Nat):Int)=1 from rfl]at this
        rw [this]
        by_cases hc:Wo m a t=true
        ·rw [bL hc,bM (by rw [hc];simp;omega)]
        ·rw [bM hc,bL (.inr (.inr (.inr (.inr (by simpa using hc)))))]
       ·rw [bL (.inr (.inr (.inr (.inl hb)))),show decide (((Ur m a).length:Int)>0)=true from bF (by have:=List.length_pos_iff.2 hb;omega)];rfl
  ·rw [bL q,show (BX m !=0)=true by simpa using q];rfl
theorem VI {m:Map}(B:BearM m){a:Int}{t:List Int}(R:RouteOK m a t):Pj m (a::t)=some (R8 m 0 (a::t),Ul m (a::t) (a::t).length):=by
  have hm7:=R.most
  have key: ∀(l:List Int) (i:Nat) (st:List Int),(a::t).drop i=l→i≤(a::t).length→st.length=i→loop (Fr m (a::t)) (st,Ul m (a::t) i,(i:Int))=some (st++R8 m (Ul m (a::t) i) l,Ul m (a::t) (a::t).length):=by
    intro l
    induction l with
    |nil=>
     intro i st hi hil _
     have:=O6 hi
     obtain rfl:i=(a::t).length:=by omega
     refine D0 ?_
     unfold Fr
     dsimp only
     rw [J2,R8,lO];rfl
    |cons x l ih=>
     intro i st hi hil h2
     have hlt:=N5 hi
     have hx:=Z3 hi
     have hm:=R.mem (lG hx)
     have hl:=R.len hx
     have hb:=R.bd (Nat.le_of_lt hlt)
     simp only [lK]at hlt
     rw [L4 (s':=(st++ [Ul m (a::t) i],Ul m (a::t) (i+1),((i+1:Nat):Int)))]
     ·rw [ih (i+1) _ (L0 hi) (by simp;omega) (by simp [h2]),R8,Zh hx,lN];rfl
     ·unfold Fr
      dsimp only
      rw [K6 (by simpa using hlt),Lu (by simp;omega),bJ,lB,C8 hx,lB,DV B hm.1 hm.2,lB,G6 hlt (by omega),G9 (by omega),Zh hx]
  have:=key (a::t) 0 [] rfl (by omega) rfl
  rw [GH]at this
  have this':loop (Fr m (a::t)) ([],0,0)=_:=this
  unfold Pj
  rw [this',lB,lP]
noncomputable def StartsM (m:Map)(r:List Int):List Int:=(Et m r).starts
noncomputable def LongM (m:Map)(r:List Int):Int:=(Et m r).length
theorem VJ {m:Map}(B:BearM m)(r:List Int)(hr:r.length≤1000000):Ei m r=some (StartsM m r):=by
  unfold Ei StartsM
  rw [Xn B r hr];rfl
theorem gI {m:Map}(B:BearM m)(r:List Int)(hr:r.length≤1000000):As m r=some (LongM m r):=by
  unfold As LongM
  rw [Xn B r hr];rfl
theorem Zi {m:Map}{r:List Int}(q:R7 m r≠0):Et m r=⟨⟨0,[],[],[],[]⟩,[],[],0⟩:=by unfold Et;rw [bM q]
theorem DH {m:Map}(B:BearM m)(r:List Int)(hr:r.length≤1000000):Me m r=some (StartsM m r):=by
  unfold Me
  rw [Td B r hr,lB]
  by_cases q:R7 m r=0
  ·obtain ⟨a,t,rfl,R⟩:=chkRoute_zero.1 q
   rw [q,show ((0:Int) !=0)=false from rfl,bK,VI B R,lB,StartsM,R.follow]
  ·rw [show (R7 m r !=0)=true by simpa using q,bJ,StartsM,Zi q]
theorem aF {m:Map}(B:BearM m)(r:List Int)(hr:r.length≤1000000):Fi m r=some (LongM m r):=by
  unfold Fi
  rw [Td B r hr,lB]
  by_cases q:R7 m r=0
  ·obtain ⟨a,t,rfl,R⟩:=chkRoute_zero.1 q
   rw [q,show ((0:Int) !=0)=false from rfl,bK,VI B R,lB,LongM,R.follow]
  ·rw [show (R7 m r !=0)=true by simpa using q,bJ,LongM,Zi q]
theorem NM {m:Map}(B:BearM m)(r:List Int)(hr:r.length≤1000000)(k:Int):Oq m r k=some (Hy m r k):=by
  unfold Oq Hy
  rw [Td B r hr,lB]
  by_cases h:k<0∨(m.Zones.length:Int)≤k
  ·have e:(((R7 m r !=0)||(decide (k<0)))||(decide (k≥(m.Zones.length:Int))))=true:=by
     rcases h with h|h
     ·rw [bF h];simp
     ·rw [show decide (k≥(m.Zones.length:Int))=true from bF h];simp
   rw [e,bJ]
   cases hz:m.Zones[k.toNat]? with
   |none=>rfl
   |some z=>
    have:=H6 hz
    dsimp only
    rw [bM (fun x=>by have:=x.1;omega)]
  ·obtain ⟨z,z1,z2⟩:=gD (m:=m) (k:=k) (by omega) (by omega)
   rw [show decide (k<0)=false from bG (by omega),show decide (k≥(m.Zones.length:Int))=false from bG (by omega),Bool.or_false,Bool.or_false,z1]
   dsimp only
   have hp:=B.toBearZ.parts z (lG z1)
   by_cases q:R7 m r=0
   ·rw [bL ⟨by omega,q⟩,q,show ((0:Int) !=0)=false from rfl,bK]
    exact Vn r (fun l=>(Oz z l).2) (by omega) (fun i a h=>by
      have hi:=H6 h
      unfold Oo
      rw [K6 hi,z2,bJ,lB,C8 h,lB,aD hp,lB]
      cases (Oz z a).2<;>rfl) (by unfold Oo;rw [J2];rfl)
   ·rw [bM (fun x=>q x.2),show (R7 m r !=0)=true by simpa using q];rfl
def vP {α τ:Type}:Stp (List α×Int) τ→Stp (Int×List α) τ
  | .go x=> .go (x.2,x.1)
  | .out t=> .out t
theorem jE {α τ:Type}(F:List α×Int→Option (Stp (List α×Int) τ))(l:List α)(i:Int)(t:τ)(h:loop (fun s:Int×List α=>(F (s.2,s.1)).map vP) (i,l)=some t):loop F (l,i)=some t:=by
  obtain ⟨n,hn⟩:=loop_some.1 h
  refine loop_some.2 ⟨n,?_⟩
  clear h
  induction n generalizing l i with
  |zero=>cases hn
  |succ n ih=>
   rw [loopN]at hn ⊢
   dsimp only at hn
   cases hf:F (l,i)with
   |none=>rw [hf]at hn;cases hn
   |some x=>
    rw [hf]at hn
    cases x with
    |go s=>exact ih s.1 s.2 hn
    |out t'=>exact hn
theorem aG: ∀{l l':List Pass},Srt DX l→Srt DX l'→l.Perm l'→(∀x∈l,∀y∈l,DX x y=false→DX y x=false→x=y)→l=l'
  | [],l',_,_,h,_=>(List.Perm.nil_eq h)
  |a::l,[],_,_,h,_=>absurd h.length_eq (by simp)
  |a::l,b::l',h1,h2,h,hk=>by
   obtain ⟨a1,a2⟩:=l9.1 h1
   obtain ⟨b1,b2⟩:=l9.1 h2
   have hbl:b∈a::l:=h.mem_iff.2 (by simp)
   have hal:a∈b::l':=h.mem_iff.1 (by simp)
   have e1:DX b a=false:=by
     rcases lT.1 hbl with e|e
     ·rw [e];exact ltP_ok.irr a
     ·exact a1 b e
   have e2:DX a b=false:=by
     rcases lT.1 hal with e|e
     ·rw [e];exact ltP_ok.irr b
     ·exact b1 a e
   have hab:=hk a (by simp) b hbl e2 e1
   subst hab
   congr 1
   exact aG a2 b2 (List.Perm.cons_inv h) fun x hx y hy=>hk x (List.mem_cons_of_mem _ hx) y (List.mem_cons_of_mem _ hy)
section
variable {m:Map}{a:Int}{t:List Int}
theorem jF (R:RouteOK m a t): ∀x∈Pu m 0 (a::t),∀y∈Pu m 0 (a::t),DX x y=false→DX y x=false→x=y:=by
  intro x hx y hy h1 h2
  obtain ⟨i,l,j,z,k,p,e1,e2,e3,e4,e5⟩:=HG m _ 0 x hx
  obtain ⟨i',l',j',z',k',p',f1,f2,f3,f4,f5⟩:=HG m _ 0 y hy
  subst e4 f4
  have hx1:x.From=Ul m (a::t) i+p.From:=by rw [e5];show 0+Ul m (a::t) i+p.From=_;omega
  have hy1:y.From=Ul m (a::t) i'+p'.From:=by rw [f5];show 0+Ul m (a::t) i'+p'.From=_;omega
  have hx2:x.Zone_=(j:Int):=by rw [e5]
  have hy2:y.Zone_=(j':Int):=by rw [f5]
  simp only [DX,bW]at h1 h2
  have hj:j=j':=by omega
  subst hj
  rw [e2]at f2
  obtain rfl:=lD f2
  have Z:=R.val.zoneOK (lG e2)
  have g1:=Z.part p (lG e3)
  have g2:=Z.part p' (lG f3)
  have n1:=Zh (m:=m) e1
  have n2:=Zh (m:=m) f1
  have hil:=(lI.1 e1).1
  have hil':=(lI.1 f1).1
  have hii:i=i':=by
    rcases Nat.lt_trichotomy i i' with h|h|h
    ·exfalso
     have:Ul m (a::t) (i+1)≤Ul m (a::t) i':=by
       rcases Nat.lt_or_ge (i+1) i' with h'|h'
       ·have:=R.lt h' (Nat.le_of_lt hil');omega
       ·rw [show i'=i+1 by omega];omega
     omega
    ·exact h
    ·exfalso
     have:Ul m (a::t) (i'+1)≤Ul m (a::t) i:=by
       rcases Nat.lt_or_ge (i'+1) i with h'|h'
       ·have:=R.lt h' (Nat.le_of_lt hil);omega
       ·rw [show i=i'+1 by omega];omega
     omega
  subst hii
  rw [e1]at f1
  have hlane:=lD f1
  have hkk:k=k':=by
    have hp:=Qz Z.rise
    have hk1:=(lI.1 e3).1
    have hk2:=(lI.1 f3).1
    have q1:z.Parts[k]=p:=(lI.1 e3).2
    have q2:z.Parts[k']=p':=(lI.1 f3).2
    have hpi:=bB.1 hp
    rcases Nat.lt_trichotomy k k' with h|h|h
    ·have:=hpi k k' (by simpa using hk1) (by simpa using hk2) h
     simp only [List.getElem_map,q1,q2]at this;omega
    ·exact h
    ·have:=hpi k' k (by simpa using hk2) (by simpa using hk1) h
     simp only [List.getElem_map,q1,q2]at this;omega
  subst hkk
  rw [e3]at f3
  obtain rfl:=lD f3
  rw [e5,f5]
theorem wZ (B:BearM m)(R:RouteOK m a t){i:Nat}{lane:Int}(hx:(a::t)[i]? =some lane)(zi:Nat){z:Zone}(hz:m.Zones[zi]? =some z)(o1 o2:List Pass):
    ∀(r:List Part) (k:Nat) (out:List Pass),z.Parts.drop k=r→k≤z.Parts.length→out.length+r.length≤1000→
     loop (Dk m (a::t) (R8 m 0 (a::t)) (o1,(i:Int)) (o2,(zi:Int))) (out,(k:Int))=some (out++Ti lane (Ul m (a::t) i) zi k r):=by
  have Z:=R.val.zoneOK (lG hz)
  have h6:=Z.six
  have hi:i< (a::t).length:=(lI.1 hx).1
  intro r
  induction r with
  |nil=>
   intro k out hk hkl hl
   have:=O6 hk
   obtain rfl:k=z.Parts.length:=by omega
   refine D0 ?_
   unfold Dk
   dsimp only
   rw [C8 hz,lB,J2];simp [Ti]
  |cons p r ih=>
   intro k out hk hkl hl
   have hlt:=N5 hk
   have hp:=Z3 hk
   have hpm:=lG hp
   have hpt:=Z.part p hpm
   have hln:=Pn Z.rise p.Lane_ (List.mem_map_of_mem hpm)
   have hll:=R.val.long hln.1 hln.2
   have hb:=R.bd (Nat.le_of_lt hi)
   simp only [lK]at hl
   have hs:Dk m (a::t) (R8 m 0 (a::t)) (o1,(i:Int)) (o2,(zi:Int)) (out,(k:Int))=some (.go (out++ (if p.Lane_==lane then [⟨(zi:Int),(k:Int),Ul m (a::t) i+p.From,Ul m (a::t) i+p.To⟩]else []),((k+1:Nat):Int))):=by
     unfold Dk
     dsimp only
     rw [C8 hz,lB,K6 hlt,bJ,lB,C8 hp,lB,C8 hx,lB,G6 hlt (by omega)]
     cases p.Lane_==lane
     ·simp
     ·rw [bJ,RouteOK.starts hi,lB,lB,G9 (by omega),G9 (by omega),Lu (by simp;omega)]
      rfl
   rw [L4 hs,ih (k+1) _ (L0 hk) (by omega) (by rw [lL];split<;>simp<;>omega),Ti,lN]
theorem xA (B:BearM m)(R:RouteOK m a t){i:Nat}{lane:Int}(hx:(a::t)[i]? =some lane)(o1:List Pass):
    ∀(r:List Zone) (zi:Nat) (out:List Pass),m.Zones.drop zi=r→zi≤m.Zones.length→out.length+r.length≤500→
     loop (Dl m (a::t) (R8 m 0 (a::t)) (o1,(i:Int))) (out,(zi:Int))=some (out++Wu lane (Ul m (a::t) i) zi r):=by
  intro r
  induction r with
  |nil=>
   intro zi out hk hkl hl
   have:=O6 hk
   obtain rfl:zi=m.Zones.length:=by omega
   refine D0 ?_
   unfold Dl
   rw [J2];simp [Wu]
  |cons z r ih=>
   intro zi out hk hkl hl
   have hlt:=N5 hk
   have hz:=Z3 hk
   have Z:=R.val.zoneOK (lG hz)
   have h6:=Z.six
   have hnz:=R.val.zones
   simp only [lK]at hl
   have h1:=HE lane (Ul m (a::t) i) zi z.Parts 0 (Qz Z.rise)
   have h3:loop (Dk m (a::t) (R8 m 0 (a::t)) (o1,(i:Int)) (out,(zi:Int))) (out,0)=_:=wZ B R hx zi hz o1 out z.Parts 0 out rfl (by omega) (by omega)
   have hs:Dl m (a::t) (R8 m 0 (a::t)) (o1,(i:Int)) (out,(zi:Int))=some (.go (out++Ti lane (Ul m (a::t) i) zi 0 z.Parts,((zi+1:Nat):Int))):=by
     unfold Dl
     dsimp only
     rw [K6 hlt,bJ,h3,lB,G6 hlt (by omega)]
   rw [L4 hs,ih (zi+1) _ (L0 hk) (by omega) (by rw [lL];omega),Wu,lN]
theorem xB (B:BearM m)(R:RouteOK m a t):
    ∀(r:List Int) (i:Nat) (out:List Pass),(a::t).drop i=r→i≤(a::t).length→out.length+12*r.length≤200→
     loop (Cf m (a::t) (R8 m 0 (a::t))) (out,(i:Int))=some (out++Pu m (Ul m (a::t) i) r):=by
  have hlen:(R8 m 0 (a::t)).length=(a::t).length:=Vo _ _ _
  intro r
  induction r with
  |nil=>
   intro i out hk hkl hle
   have:=O6 hk
   have hii:i=(a::t).length:=by omega
   refine D0 ?_
   unfold Cf
   dsimp only
   rw [hlen,hii,J2];simp [Pu]
  |cons x r ih=>
   intro i out hk hkl hle
   have hlt:=N5 hk
   have hx:=Z3 hk
   have hm7:=R.most
   have hnz:=R.val.zones
   simp only [lK]at hle hlt
   have h2:loop (Dl m (a::t) (R8 m 0 (a::t)) (out,(i:Int))) (out,0)=_:=xA B R hx out m.Zones 0 out rfl (by omega) (by omega)
   have hs:Cf m (a::t) (R8 m 0 (a::t)) (out,(i:Int))=some (.go (out++Wu x (Ul m (a::t) i) 0 m.Zones,((i+1:Nat):Int))):=by
     unfold Cf
     dsimp only
     rw [hlen,K6 (N5 hk),bJ,h2,lB,G6 (N5 hk) (by simp only [lK];omega)]
   have:=HF (m:=m) x (Ul m (a::t) i) m.Zones 0 fun z hz=>R.val.zoneOK hz
   rw [L4 hs,ih (i+1) _ (L0 hk) (by simp only [lK];omega) (by rw [lL];omega),Zh hx,Pu,lN]
end
/-- The document's insertion sort. -/
theorem pD (T:List Pass)(x:Pass)(Q:List Pass)(hs:Srt DX Q)(hN:(Q++x::T).length≤1000000):
    ∃Q',loop Ae (Q++x::T,(Q.length:Int))=some (Q'++T)∧Q'.Perm (x::Q)∧Srt DX Q':=by
  have hstop: ∀xs:List Pass,(fun s:Int×List Pass=>(Ae (s.2,s.1)).map vP) ((([]:List Pass).length:Int),xs)=some (.out xs):=fun xs=>by
    show (Ae (xs,0)).map vP=_
    unfold Ae
    rfl
  have hF: ∀(U V:List Pass) (q y:Pass),([]:List Pass).length≤U.length→(U++q::y::V).length=(Q++x::T).length→(fun s:Int×List Pass=>(Ae (s.2,s.1)).map vP) (((U.length:Int)+1),U++q::y::V)=some (if DX y q then .go ((U.length:Int),U++y::q::V)else .out (U++q::y::V)):=fun U V q y _ hl=>by
    show (Ae (U++q::y::V,(U.length:Int)+1)).map vP=_
    unfold Ae
    have hb:U.length+2≤1000000:=by rw [← hl]at hN;simp at hN;omega
    have e1:C3 ((U.length:Int)+1 - 1)=(U.length:Int):=by rw [G9 (by omega)];omega
    have g1:B7 (U++q::y::V) ((U.length:Int)+1)=some y:=by rw [jA];exact Qg _ _ _ _ (by simp)
    have g2:B7 (U++q::y::V) (U.length:Int)=some q:=Qg _ _ _ _ rfl
    have s1:Kj (U++q::y::V) ((U.length:Int)+1) q=U++q::q::V:=by rw [jA,BZ _ _ _ _ _ (by simp)];simp
    have g3:B7 (U++q::q::V) (U.length:Int)=some q:=Qg _ _ _ _ rfl
    have s2:Kj (U++q::q::V) (U.length:Int) y=U++y::q::V:=BZ _ _ _ _ _ rfl
    simp only [show decide (((U.length:Int)+1)>0)=true from bF (by omega),bJ,bN,e1,g1,g2,s1,g3,s2,lB]
    by_cases h1:y.From<q.From
    ·rw [bF h1,show DX y q=true from bF (.inl h1)];rfl
    ·rw [bG h1]
     simp only [bS,bJ,lB,bN,bT]
     by_cases h2:y.From=q.From
     ·rw [show (y.From==q.From)=true by simp [h2]]
      simp only [bJ,lB,bN]
      by_cases h3:y.Zone_<q.Zone_
      ·rw [bF h3,show DX y q=true from bF (.inr ⟨h2,h3⟩)];rfl
      ·rw [bG h3,show DX y q=false from bG (by omega)];rfl
     ·rw [show (y.From==q.From)=false by simp [h2],show DX y q=false from bG (by omega)];rfl
  obtain ⟨Q',h1,h2,h3⟩:=NK ltP_ok (F:=fun s:Int×List Pass=>(Ae (s.2,s.1)).map vP) (P:= []) (T:=T) (Q++x::T).length hstop hF x Q.length Q [] rfl (by simpa using hs) (by simp) (by simp)
  refine ⟨Q',jE _ _ _ _ ?_,by simpa using h2,h3⟩
  have e:(((([]:List Pass).length+Q.length:Nat):Int),[]++Q++ [x]++T)=((Q.length:Int),Q++x::T):=by simp
  rw [e]at h1
  rw [h1];rfl
theorem tO (A:List Pass)(hN:A.length≤1000000): ∃A',loop Dj (A,1)=some A'∧A'.Perm A∧Srt DX A':=by
  have hend: ∀(xs:List Pass) (i:Nat),xs.length≤i→Dj (xs,(i:Int))=some (.out xs):=fun xs i hi=>by
    unfold Dj
    rw [show decide ((i:Int)< (xs.length:Int))=false from bG (by omega)];rfl
  have key: ∀(R Q:List Pass),(Q++R).length≤1000000→Srt DX Q→∃A',loop Dj (Q++R,(Q.length:Int))=some A'∧A'.Perm (Q++R)∧Srt DX A':=by
    intro R
    induction R with
    |nil=>
     intro Q hl hs
     exact ⟨Q,by rw [lO];exact D0 (hend _ _ (wB _)),by simp,hs⟩
    |cons x R ih=>
     intro Q hl hs
     obtain ⟨Q',k1,k2,k3⟩:=pD R x Q hs hl
     have hlq:Q'.length=Q.length+1:=by rw [k2.length_eq];simp
     simp only [lL,lK]at hl
     obtain ⟨A',g1,g2,g3⟩:=ih Q' (by rw [lL];omega) k3
     refine ⟨A',?_,g2.trans ((k2.append_right R).trans (List.perm_middle (a:=x) (l₁:=Q) (l₂:=R)).symm),g3⟩
     rw [← g1,hlq]
     refine L4 ?_
     unfold Dj
     dsimp only
     rw [show decide ((Q.length:Int)< ((Q++x::R).length:Int))=true from bF (by simp;omega),bJ,k1,lB,G9 (by omega)]
     congr 2
  cases A with
  |nil=>exact ⟨[],D0 (hend [] 1 (by simp)), .refl _,List.Pairwise.nil⟩
  |cons a A=>
   obtain ⟨A',g1,g2,g3⟩:=key A [a] (by simpa using hN) (List.pairwise_singleton _ _)
   exact ⟨A',g1,g2,g3⟩
theorem eQ {m:Map}(B:BearK m)(r:List Int)(hr:r.length≤1000000): ∃ps,Av m r=some ps∧Iw m r=some ps∧ps.length≤16:=by
  by_cases q:R7 m r=0
  ·obtain ⟨a,t,rfl,R⟩:=chkRoute_zero.1 q
   obtain ⟨ps,p1,p2,p3,p4⟩:=VH B R
   refine ⟨ps,p1,?_,p4⟩
   have hm7:=R.most
   have hlen:(Pu m 0 (a::t)).length≤16:=by rw [← p2.length_eq];exact p4
   have h1:loop (Cf m (a::t) (R8 m 0 (a::t))) ([],0)=some (Pu m 0 (a::t)):=by
     have:=xB B.toBearM R (a::t) 0 [] rfl (by omega) (by simp;omega)
     rw [lP,GH]at this
     exact this
   obtain ⟨A',g1,g2,g3⟩:=tO (Pu m 0 (a::t)) (by omega)
   have:ps=A':=aG p3 g3 (p2.trans g2.symm) fun x hx y hy=>jF R x (p2.mem_iff.1 hx) y (p2.mem_iff.1 hy)
   unfold Iw
   rw [DH B.toBearM _ hr,lB,show StartsM m (a::t)=R8 m 0 (a::t) by unfold StartsM;rw [R.follow],h1,lB,g1,this];rfl
  ·refine ⟨[],?_,?_,by simp⟩
   ·have h1:loop (P7 m (Et m r)) ([],0)=some []:=by
      refine D0 ?_
      unfold P7
      rw [Zi q];rfl
    unfold Av
    rw [Xn B.toBearM r hr,lB,h1,lB,JX];rfl
   ·have h1:loop (Cf m r []) ([],0)=some []:=D0 rfl
    obtain ⟨A',g1,g2,_⟩:=tO [] (by simp)
    obtain rfl:A'= []:=List.length_eq_zero_iff.1 g2.length_eq
    unfold Iw
    rw [DH B.toBearM r hr,lB,StartsM,Zi q]
    dsimp only
    rw [h1,lB,g1];rfl
/-- How far it is to stop, by its sum. -/
def DY (b:Int):Nat→Int→Int
  |0,_=>0
  |n+1,v=>if v≤b then 0 else (v - b)+DY b n (v - b)
def Tj (v b:Int):Int:=DY b v.toNat v
theorem SJ {b:Int}(hb:0<b): ∀(n m:Nat) (v:Int),v≤n→v≤m→DY b n v=DY b m v
  |0,0,_,_,_=>rfl
  |0,m+1,v,h,_=>by rw [DY,DY,bL (by omega)]
  |n+1,0,v,_,h=>by rw [DY,DY,bL (by omega)]
  |n+1,m+1,v,h1,h2=>by
   rw [DY,DY]
   by_cases h:v≤b
   ·rw [bL h,bL h]
   ·rw [bM h,bM h,SJ hb n m _ (by omega) (by omega)]
theorem Vp {v b:Int}(h:v≤b):Tj v b=0:=by
  unfold Tj
  cases v.toNat with
  |zero=>rfl
  |succ n=>rw [DY,bL h]
theorem HH {v b:Int}(hb:0<b)(h:b<v):Tj v b=(v - b)+Tj (v - b) b:=by
  unfold Tj
  obtain ⟨n,hn⟩: ∃n,v.toNat=n+1:=⟨v.toNat - 1,by omega⟩
  rw [hn,DY,bM (by omega),SJ hb n (v - b).toNat _ (by omega) (by omega)]
theorem MH {P:Int→Prop}{b:Int}(hb:0<b)(h0: ∀v,v≤b→P v)(h1: ∀v,b<v→P (v - b)→P v)(v:Int):P v:=by
  have key: ∀(n:Nat) (v:Int),v≤n→P v:=by
    intro n
    induction n with
    |zero=>intro v hv;exact h0 v (by omega)
    |succ n ih=>
     intro v hv
     by_cases h:v≤b
     ·exact h0 v h
     ·exact h1 v (by omega) (ih _ (by omega))
  exact key v.toNat v (by omega)
theorem MI {b:Int}(hb:0<b)(v:Int):0≤Tj v b:=by
  refine MH (P:=fun v=>0≤Tj v b) hb (fun v h=>by rw [Vp h];exact Int.le_refl _) (fun v h ih=> ?_) v
  rw [HH hb h];omega
/-- The closed form. -/
theorem pE (n:Int):(n* (n+1)) % 2=0:=by
  rcases (show n % 2=0∨n % 2=1 by omega)with h|h
  ·rw [Int.mul_emod,h];simp
  ·rw [Int.mul_emod,Int.add_emod,h];simp
theorem eS {b:Int}(hb:0<b)(v:Int)(hv:1≤v):2*Tj v b=2* ((v - 1) / b*v) - b* ((v - 1) / b* ((v - 1) / b+1)):=by
  revert hv
  refine MH (P:=fun v=>1≤v→2*Tj v b=2* ((v - 1) / b*v) - b* ((v - 1) / b* ((v - 1) / b+1))) hb (fun v h hv=> ?_) (fun v h ih hv=> ?_) v
  ·have:(v - 1) / b=0:=Int.ediv_eq_zero_of_lt (by omega) (by omega)
   rw [Vp h,this];simp
  ·have ih:=ih (by omega)
   have e:(v - 1) / b=(v - b - 1) / b+1:=by
     rw [show v - 1=(v - b - 1)+b*1 by omega,Int.add_mul_ediv_left _ _ (by omega)]
   rw [HH hb h,e]
   generalize (v - b - 1) / b=n at ih ⊢
   rw [Int.mul_add,ih]
   have a1:(n+1)*v=n*v+v:=by rw [Int.add_mul,Int.one_mul]
   have a2:n* (v - b)=n*v - n*b:=Int.mul_sub ..
   have a3:b* ((n+1)* (n+1+1))=b* (n* (n+1))+2* (n*b)+2*b:=by
     rw [show (n+1)* (n+1+1)=n* (n+1)+2*n+2 by
      rw [Int.add_mul,Int.mul_add n,Int.one_mul];omega,Int.mul_add,Int.mul_add,Int.mul_left_comm b 2 n,Int.mul_comm b n,Int.mul_comm b 2]
   rw [a1,a2,a3];omega
def CA (v b:Int):Int:=if v<1∨b<1 then 0 else Tj (min v 1000000) (min b 1000000)
theorem pF {b:Int}(hb:0<b){v:Int}(h1:v≤1000000):0≤Tj v b∧Tj v b≤1000000000000:=by
  refine ⟨MI hb v,?_⟩
  have key: ∀v:Int,0≤v→Tj v b≤v*v:=by
    intro v
    refine MH (P:=fun v=>0≤v→Tj v b≤v*v) hb (fun v h hv=>by rw [Vp h];exact wJ hv hv) (fun v h ih hv=> ?_) v
    have ih:=ih (by omega)
    rw [HH hb h]
    have h1:(v - b)* (v - b)≤(v - 1)* (v - b):=Int.mul_le_mul_of_nonneg_right (by omega) (by omega)
    have h2:(v - 1)* (v - b)≤(v - 1)*v:=Int.mul_le_mul_of_nonneg_left (by omega) (by omega)
    have h3:(v - 1)*v=v*v - v:=by rw [Int.sub_mul,Int.one_mul]
    omega
  by_cases h0:0≤v
  ·have:=key v h0
   have:v*v≤1000000*1000000:=Int.mul_le_mul h1 h1 h0 (by omega)
   omega
  ·rw [Vp (by omega)];omega
theorem gJ (v b:Int):Jg v b=some (CA v b):=by
  unfold Jg CA
  rw [Kf,Kf]
  by_cases h:v<1∨b<1
  ·rw [bL h,show (decide (v<1)||decide (b<1))=true by simpa using h];rfl
  ·rw [bM h,show (decide (v<1)||decide (b<1))=false by simpa using h,bK]
   have hV:1≤min v 1000000∧min v 1000000≤1000000:=by omega
   have hB:1≤min b 1000000∧min b 1000000≤1000000:=by omega
   generalize min v 1000000=V at hV ⊢
   generalize min b 1000000=B at hB ⊢
   have hq0:0≤(V - 1) / B:=Int.ediv_nonneg (by omega) (by omega)
   have hq1:(V - 1) / B≤V - 1:=Int.ediv_le_self _ (by omega)
   have hq2:B* ((V - 1) / B)≤V - 1:=Int.mul_ediv_self_le (by omega)
   have hf:=eS (b:=B) (by omega) V hV.1
   unfold iC
   rw [G9 (by omega),bM (by omega),lB,wK (by omega)]
   generalize (V - 1) / B=n at hq0 hq1 hq2 hf ⊢
   have e0:IntKind.i64.wrap n=n:=G9 (by omega)
   rw [e0]
   have b1:0≤n*V∧n*V≤1000000*1000000:=⟨wJ hq0 (by omega),Int.mul_le_mul (by omega) hV.2 (by omega) (by omega)⟩
   have b2:0≤n* (n+1)∧n* (n+1)≤1000000*1000000:=⟨wJ hq0 (by omega),Int.mul_le_mul (by omega) (by omega) (by omega) (by omega)⟩
   have b3:0≤B* (n* (n+1))∧B* (n* (n+1))≤1000000*1000000:=by
     refine ⟨wJ (by omega) b2.1,?_⟩
     rw [← Int.mul_assoc]
     exact Int.mul_le_mul (by omega) (by omega) (by omega) (by omega)
   have he:=pE n
   have b4:B* (n* (n+1))=2* (B* (n* (n+1) / 2)):=by
     rw [Int.mul_left_comm 2 B,Int.mul_ediv_cancel' (Int.dvd_of_emod_eq_zero he)]
   rw [G9 (n:=n+1) (by omega),G9 (n:=n* (n+1)) (by omega),G9 (n:=n*V) (by omega),wK b2.1,G9 (n:=n* (n+1) / 2) (by omega),G9 (n:=B* (n* (n+1) / 2)) (by omega)]
   congr 1
   rw [G9 (by omega)]
   omega
theorem jG {b:Int}(hb:1≤b)(hb2:Mn false b 1000000=b)(v:Int): ∀a:Int,v≤1000000→0≤a→a+Tj v b≤4000000000000→loop (Cr b) (v,a)=some (a+Tj v b):=by
  refine MH (P:=fun v=> ∀a:Int,v≤1000000→0≤a→a+Tj v b≤4000000000000→loop (Cr b) (v,a)=some (a+Tj v b)) (b:=b) (by omega) (fun v h a _ _ _=> ?_) (fun v h ih a h1 h2 h3=> ?_) v
  ·rw [D0 (t:=a) (by unfold Cr;rw [hb2];simp [show ¬v>b by omega]),Vp h,Int.add_zero]
  ·have hr:=HH (by omega) h
   have hn:=MI (b:=b) (by omega) (v - b)
   rw [L4 (s':=(v - b,a+ (v - b))) (by
    unfold Cr;rw [hb2]
    dsimp only
    rw [G9 (n:=v - b) (by omega),G9 (n:=a+ (v - b)) (by omega),bF (show v>b by omega)];rfl),ih _ (by omega) (by omega) (by omega)]
   congr 1;omega
theorem aH (v b:Int):Tv v b=some (CA v b):=by
  unfold Tv CA
  rw [Kf,Kf]
  by_cases h:v<1∨b<1
  ·rw [bL h,show (decide (min v 1000000<1)||decide (min b 1000000<1))=true by simp only [bQ,bH];omega];rfl
  ·rw [bM h,show (decide (min v 1000000<1)||decide (min b 1000000<1))=false by simp only [Bool.or_eq_false_iff,bW];omega,bK]
   have hB:1≤min b 1000000∧min b 1000000≤1000000:=by omega
   have hbd:=pF (b:=min b 1000000) (by omega) (v:=min v 1000000) (by omega)
   have e:Cr b=Cr (min b 1000000):=by
     funext x;unfold Cr;rw [Kf,Kf,show min (min b 1000000) 1000000=min b 1000000 by omega]
   rw [e,jG hB.1 (by rw [Kf];omega) _ 0 (by omega) (by omega) (by omega)]
   show some (0+_)=_
   rw [Int.zero_add]
structure SmallS (s:State):Prop where
  agents:s.Agents.length≤10
  ins:s.In.length≤20
  routes: ∀a∈s.Agents,a.Route.length≤10
theorem pG (s:State): ∃b,Va s=some b∧(b=true→SmallS s):=by
  unfold Va
  by_cases h:10<s.Agents.length∨20<s.In.length
  ·rw [show (decide ((s.Agents.length:Int)>10)||decide ((s.In.length:Int)>20))=true by simp only [bQ,bH];omega]
   exact ⟨false,rfl,nofun⟩
  ·rw [show (decide ((s.Agents.length:Int)>10)||decide ((s.In.length:Int)>20))=false by simp only [Bool.or_eq_false_iff,bW];omega,bK]
   have hk:=W1 s.Agents (Kk s) (fun _ a=>if 10<a.Route.length then some false else none) (fun i a ha=>by
     have hi:=H6 ha
     unfold Kk
     rw [K6 hi,C8 ha,bJ,lB]
     by_cases q:10<a.Route.length
     ·rw [bL q,bF (show (a.Route.length:Int)>10 by omega)];rfl
     ·rw [bM q,bG (show ¬(a.Route.length:Int)>10 by omega),bK,G6 hi (by omega)]) (by unfold Kk;rw [J2];rfl)
   rw [hk]
   cases hf:I0 (fun _ (a:Agent)=>if 10<a.Route.length then some false else none) 0 s.Agents with
   |some b=>
    refine ⟨b,rfl,fun hb=> ?_⟩
    subst hb
    exfalso
    have: ∀(l:List Agent) (i:Nat),I0 (fun _ (a:Agent)=>if 10<a.Route.length then some false else none) i l≠some true:=by
      intro l
      induction l with
      |nil=>intro i h;cases h
      |cons a l ih=>
       intro i h
       unfold I0 at h
       by_cases q:10<a.Route.length
       ·rw [bL q]at h;cases h
       ·rw [bM q]at h;exact ih _ h
    exact this _ _ hf
   |none=>
    refine ⟨true,rfl,fun _=>⟨by omega,by omega,fun a ha=> ?_⟩⟩
    obtain ⟨j,hj⟩:=List.getElem?_of_mem ha
    have:=firstE_none.1 hf j a hj
    by_cases q:10<a.Route.length
    ·rw [bL q]at this;cases this
    ·omega
/-! ### Copies -/
theorem GI {α:Type}{l:List α}(h:l.length≤1000000):Z2 ([]:List α) l=some l:=by
  rw [Lu (by simp;omega),lP]
structure SizeS (s:State):Prop where
  agents:s.Agents.length≤1000
  ins:s.In.length≤1000000
  routes: ∀a∈s.Agents,a.Route.length≤1000
theorem SmallS.size {s:State}(h:SmallS s):SizeS s:=⟨by have:=h.agents;omega,by have:=h.ins;omega,fun a ha=>by have:=h.routes a ha;omega⟩
theorem VK (F:Int×State→Option (Stp (Int×State) State))(s:State)(h:SizeS s)(l0:List Stay)
    (hF: ∀(i:Nat) (a:Agent) (t:State),s.Agents[i]? =some a→F ((i:Int),t)=(Z2 t.Agents [a]).bind fun v=>some (.go (C3 ((i:Int)+1),⟨t.Tick,v,t.In⟩))) (h0: ∀t:State,F ((s.Agents.length:Int),t)=some (.out t)):
    loop F (0,⟨s.Tick,[],l0⟩)=some ⟨s.Tick,s.Agents,l0⟩:=by
  have key: ∀(r:List Agent) (i:Nat),s.Agents.drop i=r→i≤s.Agents.length→loop F ((i:Int),⟨s.Tick,s.Agents.take i,l0⟩)=some ⟨s.Tick,s.Agents,l0⟩:=by
    intro r
    induction r with
    |nil=>
     intro i hi hil
     have:=O6 hi
     obtain rfl:i=s.Agents.length:=by omega
     rw [D0 (h0 _),List.take_length]
    |cons a r ih=>
     intro i hi hil
     have hlt:=N5 hi
     have ha:=Z3 hi
     have hh:=h.agents
     rw [L4 (s':=(((i+1:Nat):Int),⟨s.Tick,s.Agents.take (i+1),l0⟩)),ih (i+1) (L0 hi) hlt]
     rw [hF i a _ ha,Lu (by rw [lU];simp;omega),lB,G6 hlt (by omega),List.take_add_one,ha];rfl
  exact key s.Agents 0 rfl (by omega)
theorem aI {s:State}(h:SizeS s):Yc s=some s:=by
  unfold Yc
  rw [GI h.ins,lB,VK (Nf s) s h s.In (fun i a t ha=> ?_) (fun t=>by unfold Nf;dsimp only;rw [J2];rfl)]
  ·rfl
  ·unfold Nf
   dsimp only
   rw [K6 (H6 ha),C8 ha,bJ,lB,GI (by have:=h.routes a (lG ha);omega),lB]
theorem jH {l:List Int}(h:l.length≤1000000):Cj l=some l:=GI h
theorem OM {a:Agent}(h:a.Route.length≤1000):Bx a=some a:=by
  unfold Bx
  rw [jH (by omega),lB]
theorem sM {s:State}(h:SizeS s):Lv s=some s:=by
  unfold Lv
  rw [show U5 s.In=some s.In from GI h.ins,lB,VK (Ef s) s h s.In (fun i a t ha=> ?_) (fun t=>by unfold Ef;dsimp only;rw [J2];rfl)]
  ·rfl
  ·unfold Ef
   dsimp only
   rw [K6 (H6 ha),C8 ha,bJ,lB,OM (h.routes a (lG ha)),lB]
/-! ### Equal states -/
theorem eT (a:Agent)(h:a.Route.length≤1000000):loop (Jv a a) 0=some (.inl ()):=by
  rw [W1 a.Route (Jv a a) (fun _ _=>(none:Option Bool)) (fun i x hx=> ?_) (by unfold Jv;rw [J2];rfl)]
  ·rw [firstE_none.2 fun _ _ _=>rfl];rfl
  ·unfold Jv
   rw [K6 (H6 hx),C8 hx,bJ,lB,lB,show (x !=x)=false by simp,bK,G6 (H6 hx) (by omega)]
theorem VL {s:State}(h:SizeS s):Ua s s=some true:=by
  unfold Ua
  rw [show (((s.Tick !=s.Tick)||((s.Agents.length:Int) !=(s.Agents.length:Int)))||((s.In.length:Int) !=(s.In.length:Int)))=false by simp,bK]
  have h1:=W1 s.Agents (Nj s s) (fun _ _=>(none:Option Bool)) (fun i x hx=>by
    unfold Nj
    have hr:=h.routes x (lG hx)
    have:=h.agents
    rw [K6 (H6 hx),C8 hx,bJ,lB,lB]
    rw [show ((((((((x.Route.length:Int) !=(x.Route.length:Int))||(x.S !=x.S))||(x.V !=x.V))||(x.Len !=x.Len))||(x.Begin !=x.Begin))||(!(x.Obey==x.Obey)))||(!(x.Gone==x.Gone)))=false by simp,bK,eT x (by omega),G6 (H6 hx) (by omega)];rfl) (by unfold Nj;rw [J2];rfl)
  have h2:=W1 s.In (Ni s s) (fun _ _=>(none:Option Bool)) (fun i x hx=>by
    unfold Ni
    have:=h.ins
    rw [K6 (H6 hx),C8 hx,bJ,lB,lB]
    rw [show (!(x.Agent_==x.Agent_&& (x.Zone_==x.Zone_&& (x.Since==x.Since&& (x.Rank==x.Rank&&true)))))=false by simp,bK,G6 (H6 hx) (by omega)]) (by unfold Ni;rw [J2];rfl)
  rw [h1,h2,firstE_none.2 fun _ _ _=>rfl,firstE_none.2 fun _ _ _=>rfl];rfl
/-! ### The lane of an agent -/
/-- The last place up to a number. -/
def Zj (S:Int):Nat→Nat→List Int→Nat
  |_,b,[]=>b
  |i,b,x::r=>Zj S (i+1) (if x≤S then i else b) r
theorem aJ (st:List Int)(S:Int): ∀(r:List Int) (i b:Nat),st.drop i=r→i≤st.length→(i=0→b=0)→(0<i→b<i∧(∃y,st[b]? =some y∧y≤S)∧∀(j:Nat) y,b<j→j<i→st[j]? =some y→S<y)→(∃y,st[0]? =some y∧y≤S)→
    (∃y,st[Zj S i b r]? =some y∧y≤S)∧∀(j:Nat) y,Zj S i b r<j→st[j]? =some y→S<y:=by
  intro r
  induction r with
  |nil=>
   intro i b hi hil h0 h1 hne
   have:=O6 hi
   obtain ⟨y0,g0,_⟩:=hne
   have:=H6 g0
   obtain ⟨q1,q2,q3⟩:=h1 (by omega)
   exact ⟨q2,fun j y hj hy=>q3 j y hj (by have:=H6 hy;omega) hy⟩
  |cons x r ih=>
   intro i b hi hil h0 h1 hne
   have hx:=Z3 hi
   have hlt:=N5 hi
   unfold Zj
   refine ih (i+1) _ (L0 hi) hlt (by omega) (fun _=> ?_) hne
   by_cases q:x≤S
   ·rw [bL q]
    exact ⟨by omega,⟨x,hx,q⟩,fun j y h2 h3=>by omega⟩
   ·rw [bM q]
    by_cases z:i=0
    ·subst z
     obtain ⟨y0,g0,g1⟩:=hne
     rw [hx]at g0;cases g0;exact absurd g1 q
    ·obtain ⟨q1,q2,q3⟩:=h1 (by omega)
     refine ⟨by omega,q2,fun j y h2 h3 hy=> ?_⟩
     by_cases e:j=i
     ·subst e;rw [hx]at hy;cases hy;omega
     ·exact q3 j y h2 (by omega) hy
theorem jI {st:List Int}{S:Int}(hne: ∃y,st[0]? =some y∧y≤S):(∃y,st[Zj S 0 0 st]? =some y∧y≤S)∧∀(j:Nat) y,Zj S 0 0 st<j→st[j]? =some y→S<y:=
  aJ st S st 0 0 rfl (by omega) (fun _=>rfl) (fun h=>by omega) hne
theorem sN (g:Agent)(st:List Int)(hl:st.length≤1000000): ∀(r:List Int) (i b:Nat),st.drop i=r→i≤st.length→loop (Jo g st) ((b:Int),(i:Int))=some ((Zj g.S i b r:Nat):Int):=by
  intro r
  induction r with
  |nil=>
   intro i b hi hil
   have:=O6 hi
   obtain rfl:i=st.length:=by omega
   exact D0 (by unfold Jo;dsimp only;rw [J2];rfl)
  |cons x r ih=>
   intro i b hi hil
   have hx:=Z3 hi
   have hlt:=N5 hi
   unfold Zj
   by_cases q:x≤g.S
   ·rw [bL q,L4 (s':=((i:Int),((i+1:Nat):Int))),ih (i+1) i (L0 hi) hlt]
    unfold Jo;dsimp only
    rw [K6 hlt,C8 hx,bJ,lB,bF q,bJ,G6 hlt (by omega)]
   ·rw [bM q,L4 (s':=((b:Int),((i+1:Nat):Int))),ih (i+1) b (L0 hi) hlt]
    unfold Jo;dsimp only
    rw [K6 hlt,C8 hx,bJ,lB,bG q,bK,G6 hlt (by omega)]
theorem jJ (g:Agent)(st:List Int)(hl:st.length≤1000000)(k:Nat)(hk: ∃y,st[k]? =some y∧y≤g.S)(hj: ∀(j:Nat) y,k<j→st[j]? =some y→g.S<y): ∀(n i:Nat),i=k+n→i<st.length→loop (Ej g st) (i:Int)=some (k:Int):=by
  intro n
  induction n with
  |zero=>
   intro i hi hil
   obtain ⟨y,h1,h2⟩:=hk
   obtain rfl:i=k:=by omega
   exact D0 (by unfold Ej;rw [C8 h1,lB,bG (show ¬y>g.S by omega)];rfl)
  |succ n ih=>
   intro i hi hil
   have h1:st[i]? =some st[i]:=lH hil
   have h2:=hj i _ (by omega) h1
   rw [L4 (s':=((i - 1:Nat):Int)) (by unfold Ej;rw [C8 h1,lB,bF (show st[i]>g.S by omega),bJ,G9 (by omega)];congr 2;omega)]
   exact ih (i - 1) (by omega) (by omega)
noncomputable def TV (m:Map)(g:Agent):Nat:=Zj g.S 0 0 (StartsM m g.Route)
/-- The lane of an agent, and its offset. -/
noncomputable def La (m:Map)(g:Agent):Int×Int:=(g.Route.getD (TV m g) 0,g.S - (StartsM m g.Route).getD (TV m g) 0)
theorem RouteOK.StartsM {m:Map}{a:Int}{t:List Int}(R:RouteOK m a t):StartsM m (a::t)=R8 m 0 (a::t):=by unfold World.StartsM;rw [R.follow]
theorem RouteOK.LongM {m:Map}{a:Int}{t:List Int}(R:RouteOK m a t):LongM m (a::t)=Ul m (a::t) (a::t).length:=by unfold World.LongM;rw [R.follow]
theorem VM {m:Map}{a:Int}{t:List Int}(R:RouteOK m a t){g:Agent}(hg:g.Route=a::t)(h0:0≤g.S):
    ∃x,TV m g< (a::t).length∧(a::t)[TV m g]? =some x∧La m g=(x,g.S - Ul m (a::t) (TV m g))∧Ul m (a::t) (TV m g)≤g.S∧(∀j,TV m g<j→j< (a::t).length→g.S<Ul m (a::t) j):=by
  have hl:=Vo m (a::t) 0
  have h00:(R8 m 0 (a::t))[0]? =some 0:=by rw [R8];rfl
  obtain ⟨⟨y,y1,y2⟩,y3⟩:=jI (st:=R8 m 0 (a::t)) (S:=g.S) ⟨0,h00,h0⟩
  have e:TV m g=Zj g.S 0 0 (R8 m 0 (a::t)):=by unfold TV;rw [hg,R.StartsM]
  rw [← e]at y1 y3
  have hlt:=H6 y1
  rw [hl]at hlt
  have hy:y=Ul m (a::t) (TV m g):=by
    have:=Ru m (a::t) 0 (TV m g) hlt
    rw [y1,Int.zero_add]at this
    exact lD this
  refine ⟨(a::t)[TV m g],hlt,lH hlt,?_,by omega,fun j hj hjl=> ?_⟩
  ·unfold La
   rw [hg,R.StartsM,List.getD,List.getD,lH hlt,y1,hy];rfl
  ·have:=Ru m (a::t) 0 j hjl
   rw [Int.zero_add]at this
   exact y3 j _ hj this
theorem aK {m:Map}(B:BearM m){a:Int}{t:List Int}(R:RouteOK m a t){g:Agent}(hg:g.Route=a::t)(h0:0≤g.S)(h1:g.S≤9223372036854775807):Lx m g=some (La m g)∧Tt m g=some (La m g):=by
  obtain ⟨x,q1,q2,q3,q4,q5⟩:=VM R hg h0
  have hm7:=R.most
  have hr:g.Route.length≤1000000:=by rw [hg];simp;omega
  have hl:=Vo m (a::t) 0
  have hbd:=R.bd (i:=TV m g) (by omega)
  have hs:B7 (R8 m 0 (a::t)) ((TV m g:Nat):Int)=some (Ul m (a::t) (TV m g)):=RouteOK.starts q1
  have hk:(R8 m 0 (a::t))[TV m g]? =some (Ul m (a::t) (TV m g)):=by rw [Ru m _ 0 _ q1,Int.zero_add];rfl
  constructor
  ·unfold Lx
   rw [VJ B _ hr,lB,hg,R.StartsM]
   have hn:C3 (((R8 m 0 (a::t)).length:Int) - 1)=((t.length:Nat):Int):=by rw [hl,G9 (by simp;omega)];simp
   rw [hn,jJ g _ (by rw [hl];simp;omega) (TV m g) ⟨_,hk,q4⟩ (fun j y hj hy=>by
    have hjl:=H6 hy
    rw [hl]at hjl
    have:=Ru m (a::t) 0 j hjl
    rw [hy,Int.zero_add]at this
    cases this
    exact q5 j hj hjl) (t.length - TV m g) t.length (by simp only [lK]at q1;omega) (by rw [hl];simp),lB,C8 q2,lB,hs,lB,q3,G9 (by omega)]
  ·unfold Tt
   rw [DH B _ hr,lB,hg,R.StartsM]
   have:=sN g (R8 m 0 (a::t)) (by rw [hl];simp;omega) (R8 m 0 (a::t)) 0 0 rfl (by omega)
   have e:TV m g=Zj g.S 0 0 (R8 m 0 (a::t)):=by unfold TV;rw [hg,R.StartsM]
   rw [← e]at this
   rw [show ((0:Int),(0:Int))=(((0:Nat):Int),((0:Nat):Int)) from rfl,this,lB,C8 q2,lB,hs,lB,q3,G9 (by omega)]
noncomputable def eU (m:Map)(x:Int):Int:=((m.Lanes[x.toNat]?).map (·.Kind)).getD 0
/-- The greatest speed, acceleration and braking where an agent is. -/
noncomputable def aL (m:Map)(g:Agent):Int×Int×Int:=Cg (eU m (La m g).1)
noncomputable def GJ (m:Map)(g:Agent):Bool:=decide (C3 (g.S - g.Len)>LongM m g.Route)
def XN (g:Agent):Bool:=(((decide (g.Len<300)||decide (g.Len>20000))||decide (g.Begin<0))||decide (g.Begin>1099511627776))||decide (g.S<0)
/-- The error of an agent of a state. -/
noncomputable def Hp (m:Map)(s:State)(i:Int)(g:Agent):Int:=
  if R7 m g.Route=0 then
   if XN g=true∨g.S>LongM m g.Route+g.Len+2000 then 2
   else if g.V<0∨g.V>(aL m g).1 then 2
   else if g.Gone≠GJ m g∨(g.Begin>s.Tick∧g.S≠0)∨(i=0∧g.Begin≠0)then 10 else 0
  else 13
theorem aM {m:Map}{a:Int}{t:List Int}(R:RouteOK m a t):1000≤LongM m (a::t)∧LongM m (a::t)≤134217728:=by
  have h1:=R.bd (wB _)
  have h2:=R.lt (i:=0) (j:=(a::t).length) (by simp) (wB _)
  rw [GH]at h2
  rw [R.LongM];omega
theorem XO {m:Map}(B:BearM m){g:Agent}(hr:g.Route.length≤1000000):Jd m g=some (GJ m g)∧Qs m g=some (GJ m g):=by
  constructor
  ·unfold Jd Bp
   rw [lB,gI B _ hr];rfl
  ·unfold Qs
   rw [aF B _ hr];rfl
theorem VN {m:Map}{a:Int}{t:List Int}(R:RouteOK m a t){g:Agent}(hg:g.Route=a::t)(h0:0≤g.S): ∃l,B7 m.Lanes (La m g).1=some l∧eU m (La m g).1=l.Kind∧m.Lanes[(La m g).1.toNat]? =some l:=by
  obtain ⟨x,q1,q2,q3,_⟩:=VM R hg h0
  have hx:=R.mem (lG q2)
  have hl:m.Lanes[x.toNat]? =some m.Lanes[x.toNat]:=lH (by omega)
  have hg:=C8 hl
  rw [wA hx.1]at hg
  refine ⟨_,by rw [q3];exact hg,?_,by rw [q3];exact hl⟩
  rw [q3];unfold eU
  dsimp only
  rw [hl];rfl
theorem SK {g:Agent}(h:XN g=false):300≤g.Len∧g.Len≤20000∧0≤g.Begin∧g.Begin≤1099511627776∧0≤g.S:=by
  unfold XN at h
  simp only [Bool.or_eq_false_iff,bW]at h
  omega
theorem aN {m:Map}(B:BearM m)(s:State){i:Int}{g:Agent}(hi:B7 s.Agents i=some g)(hr:g.Route.length≤1000)(hS:g.S≤9223372036854775807):
    Ck m s i=some (Hp m s i g)∧Kq m s i=some (Hp m s i g):=by
  have hr':g.Route.length≤1000000:=by omega
  unfold Ck Kq Hp
  rw [hi,lB,lB,IN B _ hr',Td B _ hr',lB,lB]
  by_cases q:R7 m g.Route=0
  case neg=>
    rw [bM q,show (R7 m g.Route !=0)=true by simpa using q]
    exact ⟨rfl,rfl⟩
  rw [bL q,q,show ((0:Int) !=0)=false from rfl,bK,bK]
  obtain ⟨a,t,ht,R⟩:=chkRoute_zero.1 q
  have hL:=aM R
  rw [← ht]at hL
  rw [gI B _ hr',aF B _ hr']
  have e:((((decide (g.Len<300)||decide (g.Len>20000))||decide (g.Begin<0))||decide (g.Begin>1099511627776))||decide (g.S<0))=XN g:=rfl
  rw [e]
  by_cases o:XN g=true
  ·rw [bL (.inl o),o];exact ⟨rfl,rfl⟩
  have o':XN g=false:=by simpa using o
  obtain ⟨o1,o2,o3,o4,o5⟩:=SK o'
  rw [o',bS,bJ,lB,lB,bT,G9 (n:=LongM m g.Route+g.Len) (by omega),G9 (n:=LongM m g.Route+g.Len+2000) (by omega)]
  by_cases l:g.S>LongM m g.Route+g.Len+2000
  ·rw [bL (.inr l),bF l];exact ⟨rfl,rfl⟩
  rw [bM (fun h=>h.elim (fun h=>by cases h) l),bG l,bK,bK]
  obtain ⟨l1,l2⟩:=aK B R ht o5 hS
  obtain ⟨ln,k1,k2,_⟩:=VN R ht o5
  rw [l1,l2,lB,lB,k1,lB,lB,BV,Ze,lB,lB]
  have ev:(aL m g).1=(Cg ln.Kind).1:=by unfold aL;rw [k2]
  rw [ev]
  by_cases v:g.V<0∨g.V>(Cg ln.Kind).1
  ·rw [bL v,show (decide (g.V<0)||decide (g.V>(Cg ln.Kind).1))=true by simpa using v];exact ⟨rfl,rfl⟩
  rw [bM v,show (decide (g.V<0)||decide (g.V>(Cg ln.Kind).1))=false by rw [bU];simpa using v,bK,bK,(XO B hr').1,(XO B hr').2,lB,lB]
  have hb: ∀b:Bool,(b=true↔g.Gone≠GJ m g∨(g.Begin>s.Tick∧g.S≠0)∨(i=0∧g.Begin≠0))→cond b (some (10:Int)) (some 0)=some (if g.Gone≠GJ m g∨(g.Begin>s.Tick∧g.S≠0)∨(i=0∧g.Begin≠0)then 10 else 0):=by
    intro b hb
    by_cases h:g.Gone≠GJ m g∨(g.Begin>s.Tick∧g.S≠0)∨(i=0∧g.Begin≠0)
    ·rw [bL h,hb.2 h];rfl
    ·rw [bM h]
     cases b
     ·rfl
     ·exact absurd (hb.1 rfl) h
  exact ⟨hb _ (by simp),hb _ (by simp [or_assoc])⟩
/-! ### The whole check -/
def Lb (a b:Stay):Bool:=decide (a.Agent_<b.Agent_)||(a.Agent_==b.Agent_&&decide (a.Zone_<b.Zone_))
theorem eV (a b:Int):Du [a,b]=some (if a≠0 then a else b):=by
  unfold Du
  by_cases h:a=0
  ·subst h
   rw [L4 (s':=1) rfl,bM (by simp)]
   by_cases h:b=0
   ·subst h;rw [L4 (s':=2) rfl,D0 (t:= .inl ()) rfl];rfl
   ·rw [D0 (t:= .inr b) (by unfold Al;rw [show B7 [(0:Int),b] 1=some b from rfl,lB,show (b !=0)=true by simpa using h];rfl)];rfl
  ·rw [D0 (t:= .inr a) (by unfold Al;rw [show B7 [a,b] 0=some a from rfl,lB,show (a !=0)=true by simpa using h];rfl),bL h];rfl
/-- What the order of two stays is. -/
def TW (a b:Stay):Int:=if MG a.Agent_ b.Agent_≠0 then MG a.Agent_ b.Agent_ else MG a.Zone_ b.Zone_
theorem SL (a b:Stay):Gd a b=some (TW a b):=by
  unfold Gd TW
  rw [Zg,lB,Zg,lB,eV,lB]
theorem aO (a b:Stay):decide (TW a b≥0)= !Lb a b:=by
  unfold TW Lb MG
  by_cases h1:a.Agent_<b.Agent_
  ·simp [h1]
  ·by_cases h2:a.Agent_>b.Agent_
   ·have:a.Agent_≠b.Agent_:=by omega
    simp [h1,h2,this]
   ·have:a.Agent_=b.Agent_:=by omega
    by_cases h3:a.Zone_<b.Zone_
    ·simp [this,h3]
    ·by_cases h4:a.Zone_>b.Zone_
     ·simp [this,h3,h4]
     ·simp [this,h3,h4]
def IQ (m:Map)(s:State)(x:Stay):Bool:=((decide (x.Agent_<0)||decide (x.Agent_≥(s.Agents.length:Int)))||decide (x.Zone_<0))||decide (x.Zone_≥(m.Zones.length:Int))
def jZ (m:Map)(s:State)(i:Nat)(x:Stay):Option Int:=if IQ m s x=true∨(0<i∧∃y,s.In[i - 1]? =some y∧Lb y x=false)then some 11 else none
def DI (s:State)(x:Stay):Bool:=((decide (x.Since<0)||decide (x.Since>s.Tick))||decide (x.Rank<0))||decide (x.Rank>100)
noncomputable def GK (m:Map)(s:State):Int:=
  if BX m=0 then
   if s.Tick<0∨s.Tick>1099511627776 then 2 else if s.Agents.length=0 then 6 else if 8<s.Agents.length then 8
   else match I0 (fun i g=>if Hp m s (i:Int) g=0 then none else some (Hp m s (i:Int) g)) 0 s.Agents with
     |some e=>e
     |none=>match I0 (jZ m s) 0 s.In with
      |some e=>e
      |none=>if s.In.any (DI s)=true then 2 else 0
  else BX m
theorem aP {m:Map}(B:BearM m){s:State}(h:SizeS s)(hw: ∀g∈s.Agents,g.S≤9223372036854775807):
    loop (Cz m s) 0=some (MA (I0 (fun i g=>if Hp m s (i:Int) g=0 then none else some (Hp m s (i:Int) g)) 0 s.Agents))∧
    loop (Kt m s) 0=some (MA (I0 (fun i g=>if Hp m s (i:Int) g=0 then none else some (Hp m s (i:Int) g)) 0 s.Agents)):=by
  have hh:=h.agents
  constructor
  ·refine W1 s.Agents _ _ (fun i g hg=> ?_) (by unfold Cz;rw [J2];rfl)
   have hm:=lG hg
   unfold Cz
   rw [K6 (H6 hg),bJ,(aN B s (C8 hg) (h.routes g hm) (hw g hm)).1,lB]
   by_cases q:Hp m s (i:Int) g=0
   ·rw [bL q,q,show ((0:Int) !=0)=false from rfl,bK,G6 (H6 hg) (by omega)]
   ·rw [bM q,show (Hp m s (i:Int) g !=0)=true by simpa using q];rfl
  ·refine W1 s.Agents _ _ (fun i g hg=> ?_) (by unfold Kt;rw [J2];rfl)
   have hm:=lG hg
   unfold Kt
   rw [K6 (H6 hg),bJ,(aN B s (C8 hg) (h.routes g hm) (hw g hm)).2,lB]
   by_cases q:Hp m s (i:Int) g=0
   ·rw [bL q,q,show ((0:Int) !=0)=false from rfl,bK,G6 (H6 hg) (by omega)]
   ·rw [bM q,show (Hp m s (i:Int) g !=0)=true by simpa using q];rfl
theorem aQ {α:Type}{l:List α}{i:Nat}{a:α}(h:l[i]? =some a)(h0:0<i): ∃y,l[i - 1]? =some y∧B7 l (C3 ((i:Int) - 1))=some y∨1000000000000<i:=by
  by_cases hb:1000000000000<i
  ·exact ⟨a, .inr hb⟩
  ·have:=H6 h
   have e:l[i - 1]? =some l[i - 1]:=lH (by omega)
   refine ⟨_, .inl ⟨e,?_⟩⟩
   rw [G9 (by omega),show (i:Int) - 1=((i - 1:Nat):Int) by omega]
   exact C8 e
theorem pH (m:Map){s:State}(h:SizeS s):
    loop (Cy m s) 0=some (MA (I0 (jZ m s) 0 s.In))∧loop (Ks m s) 0=some (MA (I0 (jZ m s) 0 s.In)):=by
  have hh:=h.ins
  constructor
  ·refine W1 s.In _ _ (fun i x hx=> ?_) (by unfold Cy;rw [J2];rfl)
   have hi:=H6 hx
   unfold Cy
   rw [K6 hi,bJ,C8 hx,lB]
   have e:(((decide (x.Agent_<0)||decide (x.Agent_≥(s.Agents.length:Int)))||decide (x.Zone_<0))||decide (x.Zone_≥(m.Zones.length:Int)))=IQ m s x:=rfl
   rw [e]
   unfold jZ
   by_cases hb:IQ m s x=true
   ·rw [hb,bL (.inl rfl)];rfl
   have hb':IQ m s x=false:=by simpa using hb
   rw [hb',bS,bN]
   by_cases h0:0<i
   ·obtain ⟨y,hy⟩:=aQ hx h0
    rcases hy with ⟨y1,y2⟩|hy
    ·rw [bF (show (i:Int)>0 by omega),bJ,y2,lB,bJ,SL,lB,bT,bN,aO]
     by_cases q:Lb y x=true
     ·rw [q,bM (by rintro (h|⟨_,z,z1,z2⟩);exact (by cases h);rw [y1]at z1;cases z1;rw [q]at z2;cases z2),bR,bK,G6 hi (by omega)]
     ·have q':Lb y x=false:=by simpa using q
      rw [q',bL (.inr ⟨h0,y,y1,q'⟩)];rfl
    ·omega
   ·rw [bG (show ¬(i:Int)>0 by omega),bK,lB,bK,lB,bT,bO,bK,bM (by rintro (h|⟨h,_⟩);exact (by cases h);exact h0 h),G6 hi (by omega)]
  ·refine W1 s.In _ _ (fun i x hx=> ?_) (by unfold Ks;rw [J2];rfl)
   have hi:=H6 hx
   unfold Ks
   rw [K6 hi,bJ,C8 hx,lB]
   have e:(((decide (x.Agent_<0)||decide (x.Agent_≥(s.Agents.length:Int)))||decide (x.Zone_<0))||decide (x.Zone_≥(m.Zones.length:Int)))=IQ m s x:=rfl
   rw [e]
   unfold jZ
   by_cases hb:IQ m s x=true
   ·rw [hb,bL (.inl rfl)];rfl
   have hb':IQ m s x=false:=by simpa using hb
   rw [hb',bK]
   by_cases h0:0<i
   ·obtain ⟨y,hy⟩:=aQ hx h0
    rcases hy with ⟨y1,y2⟩|hy
    ·rw [bF (show (i:Int)>0 by omega),bJ,y2,lB,bN]
     have hc: ∀b:Bool,(cond b (some y) (some default)).bind (fun v=>some v)=some (cond b y default):=by intro b;cases b<;>rfl
     by_cases q1:x.Agent_<y.Agent_
     ·rw [bF q1,bL (.inr ⟨h0,y,y1,by unfold Lb;simp;omega⟩)];rfl
     ·rw [bG q1,bS,bJ,lB,bN]
      by_cases q2:x.Agent_=y.Agent_
      ·rw [show (x.Agent_==y.Agent_)=true by simpa using q2,bJ,lB,bT,bN,bN]
       by_cases q3:x.Zone_≤y.Zone_
       ·rw [bF q3,bL (.inr ⟨h0,y,y1,by unfold Lb;simp;omega⟩)];rfl
       ·rw [bG q3,bM (by rintro (h|⟨_,z,z1,z2⟩);exact (by cases h);rw [y1]at z1;cases z1;unfold Lb at z2;simp at z2;omega),bK,G6 hi (by omega)]
      ·rw [show (x.Agent_==y.Agent_)=false by simpa using q2,bK,lB,bT,bN,bO,bK,bM (by rintro (h|⟨_,z,z1,z2⟩);exact (by cases h);rw [y1]at z1;cases z1;unfold Lb at z2;simp at z2;omega),G6 hi (by omega)]
    ·omega
   ·rw [bG (show ¬(i:Int)>0 by omega),bK,lB]
    simp only [bO,bK,lB]
    rw [bM (by rintro (h|⟨h,_⟩);exact (by cases h);exact h0 h),G6 hi (by omega)]
theorem DJ {α:Type}(l:List α)(P:α→Bool)(F:Int→Option (Stp Int (Sum Unit Int)))(hl:l.length≤1000000000)(hF: ∀(i:Nat) a,l[i]? =some a→F (i:Int)=some (if P a then .out (.inr (i:Int))else .go (C3 ((i:Int)+1))))(h0:F (l.length:Int)=some (.out (.inl ()))):
    (thenS (loop F 0) (fun _=>some (-1)) (fun r=>some r)).bind (fun v=>some (decide (v≥0)))=some (l.any P):=by
  rw [SB l P hl hF h0]
  have:=BW P l
  unfold MB at this
  cases hq:l.findIdx? P with
  |some i=>rw [hq]at this;show some _=_;rw [← this]
  |none=>rw [hq]at this;show some _=_;rw [← this]
theorem sO {s:State}(h:SizeS s):F9 s.In s=some (s.In.any (DI s)):=by
  have hh:=h.ins
  unfold F9 K9
  refine DJ s.In (DI s) _ (by omega) (fun i x hx=> ?_) (by unfold H8;rw [J2];rfl)
  unfold H8 Fp
  rw [K6 (H6 hx),C8 hx,bJ,lB,lB]
  have e:(((decide (x.Since<0)||decide (x.Since>s.Tick))||decide (x.Rank<0))||decide (x.Rank>100))=DI s x:=rfl
  rw [e]
  cases DI s x<;>rfl
theorem pI {s:State}(h:SizeS s):thenS (loop (Kr s) 0) (fun _=>some 0) (fun r=>some r)=some (if s.In.any (DI s)=true then 2 else 0):=by
  have hh:=h.ins
  rw [W1 s.In _ (fun _ x=>if DI s x=true then some 2 else none) (fun i x hx=> ?_) (by unfold Kr;rw [J2];rfl)]
  ·by_cases q:s.In.any (DI s)=true
   ·rw [bL q]
    cases hf:I0 (fun _ x=>if DI s x=true then some (2:Int)else none) 0 s.In with
    |some e=>
     have: ∀(l:List Stay) (i:Nat),I0 (fun _ x=>if DI s x=true then some (2:Int)else none) i l=some e→e=2:=by
       intro l
       induction l with
       |nil=>intro i h;cases h
       |cons a l ih=>
        intro i h
        unfold I0 at h
        by_cases z:DI s a=true
        ·rw [bL z]at h;cases h;rfl
        ·rw [bM z]at h;exact ih _ h
     rw [this _ _ hf];rfl
    |none=>
     obtain ⟨x,x1,x2⟩:=lY.1 q
     obtain ⟨j,hj⟩:=List.getElem?_of_mem x1
     have:=firstE_none.1 hf j x hj
     rw [bL x2]at this;cases this
   ·rw [bM q,firstE_none.2 fun j x hj=> ?_]
    ·rfl
    ·by_cases z:DI s x=true
     ·exact absurd (lY.2 ⟨x,lG hj,z⟩) q
     ·rw [bM z]
  ·unfold Kr
   rw [K6 (H6 hx),C8 hx,bJ,lB]
   have e:(((decide (x.Since<0)||decide (x.Since>s.Tick))||decide (x.Rank<0))||decide (x.Rank>100))=DI s x:=rfl
   rw [e]
   by_cases z:DI s x=true
   ·rw [bL z,z];rfl
   ·rw [bM z,show DI s x=false by simpa using z,bK,G6 (H6 hx) (by omega)]
theorem aR {m:Map}(B:BearM m){s:State}(h:SizeS s)(hw: ∀g∈s.Agents,g.S≤9223372036854775807):Gf m s=some (GK m s)∧Rp m s=some (GK m s):=by
  obtain ⟨a1,a2⟩:=aP B h hw
  obtain ⟨i1,i2⟩:=pH m h
  unfold Gf Rp GK
  rw [Tb B,Zf B,lB,lB]
  by_cases q:BX m=0
  case neg=>rw [bM q,show (BX m !=0)=true by simpa using q];exact ⟨rfl,rfl⟩
  rw [bL q,q,show ((0:Int) !=0)=false from rfl,bK,bK]
  by_cases t:s.Tick<0∨s.Tick>1099511627776
  ·rw [bL t,show (decide (s.Tick<0)||decide (s.Tick>1099511627776))=true by simpa using t];exact ⟨rfl,rfl⟩
  rw [bM t,show (decide (s.Tick<0)||decide (s.Tick>1099511627776))=false by rw [bU];simpa using t,bK,bK]
  by_cases n0:s.Agents.length=0
  ·rw [bL n0,show (((s.Agents.length:Nat):Int)==0)=true by rw [n0];rfl];exact ⟨rfl,rfl⟩
  rw [bM n0,show (((s.Agents.length:Nat):Int)==0)=false by simpa using (show ((s.Agents.length:Nat):Int)≠0 by omega),bK,bK]
  by_cases n8:8<s.Agents.length
  ·rw [bL n8,bF (show (s.Agents.length:Int)>8 by omega)];exact ⟨rfl,rfl⟩
  rw [bM n8,bG (show ¬(s.Agents.length:Int)>8 by omega),bK,bK,a1,a2]
  cases I0 (fun i g=>if Hp m s (i:Int) g=0 then none else some (Hp m s (i:Int) g)) 0 s.Agents with
  |some e=>exact ⟨rfl,rfl⟩
  |none=>
   show thenS _ _ _=_∧thenS _ _ _=_
   rw [i1,i2]
   cases I0 (jZ m s) 0 s.In with
   |some e=>exact ⟨rfl,rfl⟩
   |none=>
    refine ⟨?_,pI h⟩
    show (F9 s.In s).bind _=_
    rw [sO h,lB]
    cases s.In.any (DI s)<;>rfl
abbrev sP (g:Agent):Prop:=(∀x∈g.Route,Cc x)∧Cc g.S∧Cc g.V∧Cc g.Len∧Cc g.Begin∧True∧True
abbrev vD (x:Stay):Prop:=Cc x.Agent_∧Cc x.Zone_∧Cc x.Since∧Cc x.Rank
abbrev gK (s:State):Prop:=Cc s.Tick∧(∀g∈s.Agents,sP g)∧∀x∈s.In,vD x
/-- A map of the kit. -/
structure KitM (m:Map):Prop extends BearK m where
  val:ValR m
theorem sQ (n:Int): ∃m,GZ n=some m∧KitM m∧∃k p,k<8∧ParOK p∧m=MF k p:=by
  obtain ⟨k,p,hk,hp,hm⟩:=eI n
  exact ⟨_,hm,⟨⟨oT hp,(OI k p.r).1⟩,rV hk hp⟩,k,p,hk,hp,rfl⟩
theorem KitM.chk {m:Map}(K:KitM m):BX m=0:=chkR_zero.2 K.val
/-- Who is there. -/
def Aj (s:State)(i:Int):Bool:=match B7 s.Agents i with
  |some g=> !g.Gone&&decide (g.Begin≤s.Tick)
  |none=>false
theorem NN {α:Type}{l:List α}{i:Int}(h: ¬(0≤i∧i<l.length)):B7 l i=none:=by
  unfold B7
  by_cases h0:0≤i
  ·rw [bL h0]
   exact List.getElem?_eq_none (by omega)
  ·rw [bM h0]
theorem Xo {α:Type}{l:List α}{i:Int}(h0:0≤i)(h1:i<l.length): ∃a,B7 l i=some a∧l[i.toNat]? =some a:=by
  have:l[i.toNat]? =some l[i.toNat]:=lH (by omega)
  exact ⟨_,by unfold B7;rw [bL h0];exact this,this⟩
theorem Vq (s:State)(i:Int):Ez s i=some (Aj s i)∧Lp s i=some (Aj s i):=by
  unfold Ez Lp Aj
  by_cases h:0≤i∧i<s.Agents.length
  ·obtain ⟨g,hg,_⟩:=Xo h.1 h.2
   rw [show (decide (i≥0)&&decide (i< (s.Agents.length:Int)))=true by simp only [bP,bH];exact h,bJ,hg,lB,lB]
   simp only [bJ,lB,bN]
   constructor
   ·cases g.Gone<;>simp
   ·by_cases q:g.Begin≤s.Tick<;>simp [q]
  ·rw [show (decide (i≥0)&&decide (i< (s.Agents.length:Int)))=false by rw [bU];simp only [ne_eq,bP,bH];exact h,NN h]
   exact ⟨rfl,rfl⟩
/-- A red line before which an agent could stop, and then cannot. -/
def Po (f v nxt b line:Int):Bool:=(decide (line>f)&&decide (C3 (f+CA v b)<line))&&decide (C3 (C3 (f+nxt)+CA nxt b)≥line)
def Zk (R:List Int)(f v nxt b:Int):Bool:= !R.any (Po f v nxt b)
theorem aS (R:List Int)(hR:R.length≤1000)(f v nxt b:Int):Lm R f v nxt b=some (Zk R f v nxt b):=by
  unfold Lm H9 I8
  rw [DJ R (Po f v nxt b) _ (by omega) (fun i x hx=> ?_) (by unfold F7;rw [J2];rfl)]
  ·rfl
  ·unfold F7 Ao
   rw [K6 (H6 hx),C8 hx,bJ,lB,gJ,gJ]
   have e:((cond (decide (x>f)) (some (CA v b)) (some default)).bind fun v1=>(cond (decide (x>f)&&decide (C3 (f+v1)<x)) (some (CA nxt b)) (some default)).bind fun v2=>some ((decide (x>f)&&decide (C3 (f+v1)<x))&&decide (C3 (C3 (f+nxt)+v2)≥x)))=some (Po f v nxt b x):=by
     unfold Po
     cases decide (x>f)
     ·rfl
     ·simp only [bJ,lB,bN]
      cases decide (C3 (f+CA v b)<x)<;>rfl
   rw [e,lB]
   cases Po f v nxt b x<;>rfl
theorem aT (R:List Int)(hR:R.length≤1000)(f v nxt b:Int):Vg R f v nxt b=some (Zk R f v nxt b):=by
  unfold Vg Zk
  rw [W1 R _ (fun _ x=>if Po f v nxt b x=true then some false else none) (fun i x hx=> ?_) (by unfold Om;rw [J2];rfl)]
  ·have key: ∀(l:List Int) (i:Nat),thenS (some (MA (I0 (fun _ x=>if Po f v nxt b x=true then some false else none) i l))) (fun _=>some true) (fun r=>some r)=some (!l.any (Po f v nxt b)):=by
     intro l
     induction l with
     |nil=>intro i;rfl
     |cons x l ih=>
      intro i
      unfold I0
      by_cases z:Po f v nxt b x=true
      ·rw [bL z,List.any_cons,z];rfl
      ·rw [bM z,List.any_cons,show Po f v nxt b x=false by simpa using z,bT]
       exact ih _
   exact key R 0
  ·unfold Om
   rw [K6 (H6 hx),C8 hx,bJ,lB,aH,aH]
   have e:((cond (decide (x>f)) (some (CA v b)) (some default)).bind fun v2=>(cond (decide (x>f)) (some x) (some default)).bind fun v3=>(cond (decide (x>f)&&decide (C3 (f+v2)<v3)) (some (CA nxt b)) (some default)).bind fun v4=>(cond (decide (x>f)&&decide (C3 (f+v2)<v3)) (some x) (some default)).bind fun v5=>cond ((decide (x>f)&&decide (C3 (f+v2)<v3))&&decide (C3 (C3 (f+nxt)+v4)≥v5)) (some (Stp.out (Sum.inr false))) (some (Stp.go (C3 ((i:Int)+1)))))=(some (if Po f v nxt b x=true then Stp.out (Sum.inr false)else Stp.go (C3 ((i:Int)+1))):Option (Stp Int (Sum Unit Bool))):=by
     unfold Po
     cases decide (x>f)
     ·rfl
     ·simp only [bJ,lB,bN]
      cases decide (C3 (f+CA v b)<x)
      ·rfl
      ·simp only [bJ,lB,bN]
       cases decide (C3 (C3 (f+nxt)+CA nxt b)≥x)<;>rfl
   rw [e]
   by_cases z:Po f v nxt b x=true
   ·rw [bL z,bL z]
   ·rw [bM z,bM z,G6 (H6 hx) (by omega)]
/-- The red lines of a lane. -/
noncomputable def jK (m:Map)(lane tick:Int):List Int:=(Ib m lane tick).getD []
theorem vE {m:Map}(B:BearM m)(lane tick:Int):Ib m lane tick=some (jK m lane tick)∧Tu m lane tick=some (jK m lane tick)∧(jK m lane tick).length≤1000:=by
  obtain ⟨R,h1,h2,h3⟩:=sD B lane tick
  unfold jK
  rw [h1,h2]
  exact ⟨rfl,rfl,h3⟩
def Lc (g:Agent)(most act:Int):Int:=max 0 (min (C3 (g.V+act)) most)
/-- The acceleration, made less as long as it has to be. -/
def MJ (K:Int→Bool)(low:Int):Nat→Int→Int
  |0,act=>act
  |n+1,act=>if act>low∧K act=false then MJ K low n (act - 1)else act
/-- An agent that is there, after a tick. -/
noncomputable def Wv (m:Map)(g:Agent)(tick act:Int):Int:=
  let L:=La m g;let t:=aL m g;let act0:=max (-t.2.2) (min act t.2.1)
  if g.Obey=true∧L.2≤Ga m L.1 then Lc g t.1 (MJ (fun x=>Zk (jK m L.1 tick) L.2 g.V (Lc g t.1 x) t.2.2) (-t.2.2) (act0+t.2.2).toNat act0)else Lc g t.1 act0
noncomputable def SM (m:Map)(g:Agent)(tick act:Int):Agent:=
  {g with V:=Wv m g tick act,S:=C3 (g.S+Wv m g tick act),Gone:=GJ m {g with V:=Wv m g tick act,S:=C3 (g.S+Wv m g tick act)}}
theorem sR (k:Int):0≤(Cg k).1∧(Cg k).1≤2000∧0≤(Cg k).2.1∧(Cg k).2.1≤100∧0≤(Cg k).2.2∧(Cg k).2.2≤300:=by
  unfold Cg
  repeat' split
  all_goals simp
theorem jL {g:Agent}{L:Int×Int}{t:Int×Int×Int}{R:List Int}(hR:R.length≤1000)(ht:0≤t.2.2∧t.2.2≤300): ∀(n:Nat) (act:Int), -t.2.2≤act→act≤100→(act+t.2.2).toNat≤n→
    loop (Bj g L t R) act=some (MJ (fun x=>Zk R L.2 g.V (Lc g t.1 x) t.2.2) (-t.2.2) n act):=by
  intro n
  induction n with
  |zero=>
   intro act h1 h2 h3
   rw [MJ]
   refine D0 ?_
   unfold Bj
   rw [G9 (n:=0 - t.2.2) (by omega),bG (show ¬act>0 - t.2.2 by omega)];rfl
  |succ n ih=>
   intro act h1 h2 h3
   rw [MJ]
   by_cases q:act> -t.2.2
   ·have hs:X8 act g t.1=some (Lc g t.1 act):=by unfold X8 Lc;rw [Xa,Kf]
    by_cases k:Zk R L.2 g.V (Lc g t.1 act) t.2.2=false
    ·rw [bL ⟨q,k⟩,← ih (act - 1) (by omega) (by omega) (by omega)]
     refine L4 ?_
     unfold Bj
     rw [G9 (n:=0 - t.2.2) (by omega),bF (show act>0 - t.2.2 by omega),bJ,hs,lB,bJ,aS R hR,lB,k,G9 (by omega)];rfl
    ·rw [bM (fun x=>k x.2)]
     refine D0 ?_
     unfold Bj
     rw [G9 (n:=0 - t.2.2) (by omega),bF (show act>0 - t.2.2 by omega),bJ,hs,lB,bJ,aS R hR,lB,show Zk R L.2 g.V (Lc g t.1 act) t.2.2=true by simpa using k];rfl
   ·rw [bM (fun x=>q x.1)]
    refine D0 ?_
    unfold Bj
    rw [G9 (n:=0 - t.2.2) (by omega),bG (show ¬act>0 - t.2.2 by omega)];rfl
theorem eW {g:Agent}{L:Int×Int}{t:Int×Int×Int}{R:List Int}(hR:R.length≤1000)(ht:0≤t.2.2∧t.2.2≤300): ∀(n:Nat) (act:Int), -t.2.2≤act→act≤100→(act+t.2.2).toNat≤n→
    loop (Gi g L t R) (act,Lc g t.1 act)=some (Lc g t.1 (MJ (fun x=>Zk R L.2 g.V (Lc g t.1 x) t.2.2) (-t.2.2) n act)):=by
  intro n
  induction n with
  |zero=>
   intro act h1 h2 h3
   rw [MJ]
   refine D0 ?_
   unfold Gi
   dsimp only
   rw [G9 (n:=0 - t.2.2) (by omega),bG (show ¬act>0 - t.2.2 by omega)];rfl
  |succ n ih=>
   intro act h1 h2 h3
   rw [MJ]
   by_cases q:act> -t.2.2
   ·by_cases k:Zk R L.2 g.V (Lc g t.1 act) t.2.2=false
    ·rw [bL ⟨q,k⟩,← ih (act - 1) (by omega) (by omega) (by omega)]
     refine L4 ?_
     unfold Gi
     dsimp only
     rw [G9 (n:=0 - t.2.2) (by omega),bF (show act>0 - t.2.2 by omega),bJ,aT R hR,lB,k,G9 (n:=act - 1) (by omega),Xa,Kf];rfl
    ·rw [bM (fun x=>k x.2)]
     refine D0 ?_
     unfold Gi
     dsimp only
     rw [G9 (n:=0 - t.2.2) (by omega),bF (show act>0 - t.2.2 by omega),bJ,aT R hR,lB,show Zk R L.2 g.V (Lc g t.1 act) t.2.2=true by simpa using k];rfl
   ·rw [bM (fun x=>q x.1)]
    refine D0 ?_
    unfold Gi
    dsimp only
    rw [G9 (n:=0 - t.2.2) (by omega),bG (show ¬act>0 - t.2.2 by omega)];rfl
/-- What is known of an agent of a valid state. -/
structure AgentOK (m:Map)(s:State)(i:Int)(g:Agent):Prop where
  route: ∃a t,g.Route=a::t∧RouteOK m a t
  len:300≤g.Len∧g.Len≤20000
  begin:0≤g.Begin∧g.Begin≤1099511627776
  S:0≤g.S∧g.S≤LongM m g.Route+g.Len+2000
  V:0≤g.V∧g.V≤(aL m g).1
  gone:g.Gone=GJ m g
  late: ¬(g.Begin>s.Tick∧g.S≠0)
  first:i=0→g.Begin=0
theorem agentM_zero {m:Map}{s:State}{i:Int}{g:Agent}:Hp m s i g=0↔AgentOK m s i g:=by
  unfold Hp
  constructor
  ·intro h
   by_cases q:R7 m g.Route=0
   ·rw [bL q]at h
    by_cases o:XN g=true∨g.S>LongM m g.Route+g.Len+2000
    ·rw [bL o]at h;cases h
    ·rw [bM o]at h
     by_cases v:g.V<0∨g.V>(aL m g).1
     ·rw [bL v]at h;cases h
     ·rw [bM v]at h
      by_cases z:g.Gone≠GJ m g∨(g.Begin>s.Tick∧g.S≠0)∨(i=0∧g.Begin≠0)
      ·rw [bL z]at h;cases h
      ·obtain ⟨o1,o2,o3,o4,o5⟩:=SK (g:=g) (by cases hq:XN g<;>simp_all)
       refine ⟨chkRoute_zero.1 q,⟨o1,o2⟩,⟨o3,o4⟩,⟨o5,?_⟩,?_,?_,fun h=>z (.inr (.inl h)),fun h=> ?_⟩
       ·exact Int.not_lt.1 fun h=>o (.inr h)
       ·omega
       ·exact Classical.byContradiction fun h=>z (.inl h)
       ·exact Classical.byContradiction fun h'=>z (.inr (.inr ⟨h,h'⟩))
   ·rw [bM q]at h;cases h
  ·intro A
   have l:=A.len;have b:=A.begin;have S:=A.S;have V:=A.V
   rw [bL (chkRoute_zero.2 A.route),bM,bM,bM]
   ·rintro (h|h|h)
    ·exact h A.gone
    ·exact A.late h
    ·exact h.2 (A.first h.1)
   ·omega
   ·rintro (h|h)
    ·unfold XN at h
     simp only [bQ,bH]at h
     omega
    ·omega
structure StateOK (m:Map)(s:State):Prop where
  tick:0≤s.Tick∧s.Tick≤1099511627776
  num:0<s.Agents.length∧s.Agents.length≤8
  agent: ∀(i:Nat) g,s.Agents[i]? =some g→AgentOK m s (i:Int) g
  ins: ∀(i:Nat) x,s.In[i]? =some x→IQ m s x=false
  sorted: ∀(i:Nat) x y,s.In[i]? =some x→s.In[i+1]? =some y→Lb x y=true
  rank: ∀x∈s.In,DI s x=false
theorem NO {m:Map}(K:KitM m){s:State}:GK m s=0↔StateOK m s:=by
  unfold GK
  rw [bL K.chk]
  constructor
  ·intro h
   by_cases t:s.Tick<0∨s.Tick>1099511627776
   ·rw [bL t]at h;cases h
   rw [bM t]at h
   by_cases n0:s.Agents.length=0
   ·rw [bL n0]at h;cases h
   rw [bM n0]at h
   by_cases n8:8<s.Agents.length
   ·rw [bL n8]at h;cases h
   rw [bM n8]at h
   cases ha:I0 (fun i g=>if Hp m s (i:Int) g=0 then none else some (Hp m s (i:Int) g)) 0 s.Agents with
   |some e=>
    rw [ha]at h
    have: ∀(l:List Agent) (i:Nat),I0 (fun i g=>if Hp m s (i:Int) g=0 then none else some (Hp m s (i:Int) g)) i l=some e→e≠0:=by
      intro l
      induction l with
      |nil=>intro i h;cases h
      |cons a l ih=>
       intro i h
       unfold I0 at h
       by_cases z:Hp m s (i:Int) a=0
       ·rw [bL z]at h;exact ih _ h
       ·rw [bM z]at h;cases h;exact z
    exact absurd h (this _ _ ha)
   |none=>
    rw [ha]at h
    cases hi:I0 (jZ m s) 0 s.In with
    |some e=>
     rw [hi]at h
     have: ∀(l:List Stay) (i:Nat),I0 (jZ m s) i l=some e→e≠0:=by
       intro l
       induction l with
       |nil=>intro i h;cases h
       |cons a l ih=>
        intro i h
        unfold I0 at h
        cases z:jZ m s i a with
        |none=>rw [z]at h;exact ih _ h
        |some e'=>
         rw [z]at h;cases h
         unfold jZ at z
         split at z
         ·cases z;decide
         ·cases z
     exact absurd h (this _ _ hi)
    |none=>
     rw [hi]at h
     have ha':=firstE_none.1 ha
     have hi':=firstE_none.1 hi
     simp only [wF]at ha' hi'
     have hin: ∀(i:Nat) x,s.In[i]? =some x→¬(IQ m s x=true∨(0<i∧∃y,s.In[i - 1]? =some y∧Lb y x=false)):=by
       intro i x hx q
       have:=hi' i x hx
       unfold jZ at this
       rw [bL q]at this;cases this
     have hr:s.In.any (DI s)=false:=by
       cases q:s.In.any (DI s)with
       |false=>rfl
       |true=>rw [q]at h;cases h
     refine ⟨by omega,by omega,fun i g hg=>agentM_zero.1 ?_,fun i x hx=> ?_,fun i x y hx hy=> ?_,fun x hx=> ?_⟩
     ·have:=ha' i g hg
      by_cases z:Hp m s (i:Int) g=0
      ·exact z
      ·rw [bM z]at this;cases this
     ·have:=hin i x hx
      cases q:IQ m s x with
      |false=>rfl
      |true=>exact absurd (.inl q) this
     ·have:=hin (i+1) y hy
      cases q:Lb x y with
      |true=>rfl
      |false=>exact absurd (.inr ⟨by omega,x,hx,q⟩) this
     ·have:=List.any_eq_false.1 hr x hx
      simpa using this
  ·intro O
   have t:=O.tick;have n:=O.num
   rw [bM (by omega),bM (by omega),bM (by omega)]
   rw [firstE_none.2 fun i g hg=>by rw [wF,bL (agentM_zero.2 (O.agent i g hg))]]
   rw [firstE_none.2 fun i x hx=> ?_]
   ·dsimp only
    rw [bM]
    intro h
    obtain ⟨x,x1,x2⟩:=lY.1 h
    rw [O.rank x x1]at x2;cases x2
   ·rw [wF]
    unfold jZ
    rw [bM]
    rintro (h|⟨h0,y,y1,y2⟩)
    ·rw [O.ins i x hx]at h;cases h
    ·have:=O.sorted (i - 1) y x y1 (by rw [show i - 1+1=i by omega];exact hx)
     rw [this]at y2;cases y2
theorem AgentOK.bd {m:Map}{s:State}{i:Int}{g:Agent}(A:AgentOK m s i g):1000≤LongM m g.Route∧LongM m g.Route≤134217728:=by
  obtain ⟨a,t,h,R⟩:=A.route
  rw [h];exact aM R
theorem sS {m:Map}(B:BearM m){s:State}{i:Int}{g:Agent}(A:AgentOK m s i g)(hr:g.Route.length≤1000)(tick act:Int):Jh m g tick act=some (SM m g tick act)∧Tw m g tick act=some (SM m g tick act):=by
  obtain ⟨a,t,ht,R⟩:=A.route
  have hL:=A.bd;have hS:=A.S;have hl:=A.len;have hV:=A.V
  obtain ⟨l1,l2⟩:=aK B R ht hS.1 (by omega)
  obtain ⟨ln,k1,k2,_⟩:=VN R ht hS.1
  have ev:aL m g=Cg ln.Kind:=by unfold aL;rw [k2]
  have htb:=sR ln.Kind
  obtain ⟨r1,r2,r3⟩:=vE B (La m g).1 tick
  have hlow:C3 (0 - (Cg ln.Kind).2.2)= -(Cg ln.Kind).2.2:=by rw [G9 (by omega)];omega
  have hact: -(Cg ln.Kind).2.2≤max (-(Cg ln.Kind).2.2) (min act (Cg ln.Kind).2.1)∧max (-(Cg ln.Kind).2.2) (min act (Cg ln.Kind).2.1)≤100:=by omega
  have hg: ∀g':Agent,g'.Route=g.Route→Jd m g'=some (GJ m g')∧Qs m g'=some (GJ m g'):=fun g' h=>XO B (by rw [h];omega)
  have hmv: ∀x,X8 x g (Cg ln.Kind).1=some (Lc g (Cg ln.Kind).1 x):=by intro x;unfold X8 Lc;rw [Xa,Kf]
  have hlow': ∀X,(Mn true 0 (Mn false (C3 (g.V+X)) (Cg ln.Kind).1))=Lc g (Cg ln.Kind).1 X:=by intro X;unfold Lc;rw [Xa,Kf]
  by_cases q:g.Obey=true∧(La m g).2≤Ga m (La m g).1
  ·have hN:Wv m g tick act=Lc g (Cg ln.Kind).1 (MJ (fun x=>Zk (jK m (La m g).1 tick) (La m g).2 g.V (Lc g (Cg ln.Kind).1 x) (Cg ln.Kind).2.2) (-(Cg ln.Kind).2.2) (max (-(Cg ln.Kind).2.2) (min act (Cg ln.Kind).2.1)+ (Cg ln.Kind).2.2).toNat (max (-(Cg ln.Kind).2.2) (min act (Cg ln.Kind).2.1))):=by
     unfold Wv;rw [ev];exact bL q
   constructor
   ·unfold Jh SM
    rw [l1,lB,k1,lB,BV,lB,q.1,bJ,Qo B,lB,bN,bF q.2,bJ,r1,lB,Xa,Kf,hlow,jL r3 ⟨htb.2.2.2.2.1,htb.2.2.2.2.2⟩ _ _ hact.1 hact.2 (wB _)]
    simp only [lB]
    rw [hmv,lB,← hN,(hg ⟨g.Route,C3 (g.S+Wv m g tick act),Wv m g tick act,g.Len,g.Begin,true,g.Gone⟩ rfl).1]
    simp only [lB,q.1]
   ·unfold Tw SM
    rw [l2,lB,k1,lB,Ze,lB,q.1,bJ,Qp B,lB,bN,bF q.2,bJ,r2,lB,hlow',Xa,Kf,hlow,eW r3 ⟨htb.2.2.2.2.1,htb.2.2.2.2.2⟩ _ _ hact.1 hact.2 (wB _)]
    simp only [lB]
    rw [← hN,(hg ⟨g.Route,C3 (g.S+Wv m g tick act),Wv m g tick act,g.Len,g.Begin,true,g.Gone⟩ rfl).2]
    simp only [lB,q.1]
  ·have hN:Wv m g tick act=Lc g (Cg ln.Kind).1 (max (-(Cg ln.Kind).2.2) (min act (Cg ln.Kind).2.1)):=by
     unfold Wv;rw [ev];exact bM q
   have hc: ∀{α:Type} (o:Bool) (x y:α),(cond o (some (Ga m (La m g).1)) (some default)).bind (fun v4=>some (cond (o&&decide ((La m g).2≤v4)) x y))=some (cond (o&&decide ((La m g).2≤Ga m (La m g).1)) x y):=by intro α o x y;cases o<;>rfl
   have hf:(g.Obey&&decide ((La m g).2≤Ga m (La m g).1))=false:=by
     rw [bU];simpa using q
   constructor
   ·unfold Jh SM
    rw [l1,lB,k1,lB,BV,lB,Qo B]
    have e: ∀F:Int→Option Agent,((cond g.Obey (some (Ga m (La m g).1)) (some default)).bind fun v4=>(cond (g.Obey&&decide ((La m g).2≤v4)) ((Ib m (La m g).1 tick).bind fun v5=>(loop (Bj g (La m g) (Cg ln.Kind) v5) (Mn true (C3 (0 - (Cg ln.Kind).2.2)) (Mn false act (Cg ln.Kind).2.1))).bind fun y2=>some y2) (some (Mn true (C3 (0 - (Cg ln.Kind).2.2)) (Mn false act (Cg ln.Kind).2.1)))).bind F)=F (Mn true (C3 (0 - (Cg ln.Kind).2.2)) (Mn false act (Cg ln.Kind).2.1)):=by
      intro F
      cases ho:g.Obey
      ·rfl
      ·rw [ho]at hf
       rw [bJ,lB,hf];rfl
    rw [e,hmv,Xa,Kf,hlow,← hN,lB,(hg ⟨g.Route,C3 (g.S+Wv m g tick act),Wv m g tick act,g.Len,g.Begin,g.Obey,g.Gone⟩ rfl).1]
    rfl
   ·unfold Tw SM
    rw [l2,lB,k1,lB,Ze,lB,Qp B]
    have e: ∀(F:Int→Option Agent) (Y:List Int→Option Int) (X:Int),((cond g.Obey (some (Ga m (La m g).1)) (some default)).bind fun v4=>(cond (g.Obey&&decide ((La m g).2≤v4)) ((Tu m (La m g).1 tick).bind Y) (some X)).bind F)=F X:=by
      intro F Y X
      cases ho:g.Obey
      ·rfl
      ·rw [ho]at hf
       rw [bJ,lB,hf];rfl
    rw [e,hlow',Xa,Kf,hlow,← hN,(hg ⟨g.Route,C3 (g.S+Wv m g tick act),Wv m g tick act,g.Len,g.Begin,g.Obey,g.Gone⟩ rfl).2]
    rfl
def sU:Agent:=⟨[],0,0,0,0,false,false⟩
noncomputable def GL (m:Map)(s:State)(i act:Int):Agent:=match B7 s.Agents i with
  |none=>sU
  |some g=>if Aj s i=true∧GK m s=0 then SM m g s.Tick act else g
theorem xU {s:State}(w:gK s): ∀g∈s.Agents,g.S≤9223372036854775807:=fun g hg=>(w.2.1 g hg).2.1.2
theorem gL {m:Map}(K:KitM m){s:State}(S:SizeS s)(w: ∀g∈s.Agents,g.S≤9223372036854775807)(i act:Int):Oi m s i act=some (GL m s i act)∧Yg m s i act=some (GL m s i act):=by
  obtain ⟨c1,c2⟩:=aR K.toBearM S w
  obtain ⟨t1,t2⟩:=Vq s i
  unfold Oi Yg GL
  by_cases h:0≤i∧i<s.Agents.length
  case neg=>
    rw [show (decide (i<0)||decide (i≥(s.Agents.length:Int)))=true by simp only [bQ,bH];omega,NN h]
    exact ⟨rfl,rfl⟩
  obtain ⟨g,hg,hg'⟩:=Xo h.1 h.2
  have hr:=S.routes g (lG hg')
  rw [show (decide (i<0)||decide (i≥(s.Agents.length:Int)))=false by rw [bU];simp only [ne_eq,bQ,bH];omega,bK,bK,hg,lB,lB,OM hr,lB,t1,lB,GI (by omega),lB,c1,c2,lB,t2]
  dsimp only
  have eg:(⟨g.Route,g.S,g.V,g.Len,g.Begin,g.Obey,g.Gone⟩:Agent)=g:=rfl
  by_cases q:Aj s i=true∧GK m s=0
  ·rw [bL q,q.1,q.2]
   have O:=(NO K).1 q.2
   have A:=O.agent i.toNat g hg'
   obtain ⟨m1,m2⟩:=sS K.toBearM A hr s.Tick act
   rw [eg,m2]
   refine ⟨?_,rfl⟩
   show (Jh m g s.Tick act).bind _=_
   rw [m1];rfl
  ·rw [bM q]
   constructor
   ·cases ht:Aj s i
    ·rfl
    ·have:GK m s≠0:=fun h=>q ⟨ht,h⟩
     show cond (!true||(GK m s !=0)) _ _=_
     rw [show (!true||(GK m s !=0))=true by simpa using this];rfl
   ·cases hz:(GK m s !=0)
    ·have hz':GK m s=0:=by simpa using hz
     have:Aj s i=false:=by
       cases ht:Aj s i
       ·rfl
       ·exact absurd ⟨ht,hz'⟩ q
     rw [this];rfl
    ·rfl
def VO (g:Agent):Bool:=(((decide (g.S≥0))&& (decide (g.S≤1099511627776)))&& (decide (g.Len≥0)))&& (decide (g.Len≤1099511627776))
noncomputable def Pp (m:Map)(r:List Int):List Pass:=(Av m r).getD []
theorem jM {m:Map}(B:BearK m)(r:List Int)(hr:r.length≤1000000):Av m r=some (Pp m r)∧Iw m r=some (Pp m r)∧(Pp m r).length≤16:=by
  obtain ⟨ps,h1,h2,h3⟩:=eQ B r hr
  unfold Pp
  rw [h1,h2]
  exact ⟨rfl,rfl,h3⟩
def BH (g g':Agent)(z:Int)(p:Pass):Bool:=((p.Zone_==z)&&decide (p.From≤g'.S))&&decide (C3 (g.S - g.Len)≤p.To)
/-- Whether an agent is present in a zone during a tick. -/
noncomputable def Ld (m:Map)(g g':Agent)(z:Int):Bool:=(VO g&&VO g')&& (Pp m g.Route).any (BH g g' z)
theorem DK {m:Map}(B:BearK m){g g':Agent}(hr:g.Route.length≤1000)(z:Int):Gg m g g' z=some (Ld m g g' z)∧Jq m g g' z=some (Ld m g g' z):=by
  obtain ⟨p1,p2,p3⟩:=jM B g.Route (by omega)
  have s1: ∀g,Lz g=some (VO g):=fun _=>rfl
  have s2: ∀g,Yh g=some (VO g):=fun _=>rfl
  have hc:G3 (Pp m g.Route) z ⟨C3 (g.S - g.Len),g'.S⟩=some ((Pp m g.Route).any (BH g g' z)):=by
    unfold G3 J8
    refine DJ _ (BH g g' z) _ (by omega) (fun i x hx=> ?_) (by unfold G2;rw [J2];rfl)
    unfold G2 Bq
    rw [K6 (H6 hx),C8 hx,bJ,lB,lB]
    show cond (BH g g' z x) _ _=_
    cases BH g g' z x<;>rfl
  have hd:thenS (loop (Gq g g' z (Pp m g.Route)) 0) (fun _=>some false) (fun r=>some r)=some ((Pp m g.Route).any (BH g g' z)):=by
    rw [ZY (Pp m g.Route) (BH g g' z) true (fun i x hx=> ?_) (by unfold Gq;rw [J2];rfl)]
    ·cases (Pp m g.Route).any (BH g g' z)<;>rfl
    ·unfold Gq BH
     rw [K6 (H6 hx),C8 hx,bJ,lB,G6 (H6 hx) (by omega)]
     by_cases q1:x.Zone_=z
     ·rw [show (x.Zone_==z)=true by simpa using q1,bJ,lB,bN]
      by_cases q2:C3 (g.S - g.Len)≤x.To
      ·rw [bF q2,bJ,lB,bN,Bool.and_true]
       by_cases q3:x.From≤g'.S
       ·rw [bF (show g'.S≥x.From from q3)];rfl
       ·rw [bG (show ¬g'.S≥x.From from q3)];rfl
      ·rw [bG q2,Bool.and_false];rfl
     ·rw [show (x.Zone_==z)=false by simpa using q1];rfl
  unfold Gg Jq Ld
  rw [s1,s2,lB,lB]
  cases hs:VO g
  ·exact ⟨rfl,rfl⟩
  ·rw [bR,bS,bJ,bJ,s1,s2,lB,lB]
   cases hs':VO g'
   ·exact ⟨rfl,rfl⟩
   ·simp only [bR,Bool.or_self,bK,bN]
    constructor
    ·show (Bp g).bind _=_
     unfold Bp
     rw [lB,p1,lB,hc];rfl
    ·show (Iw m g.Route).bind _=_
     rw [p2,lB,hd]
/-! ### The entry, and the rank -/
theorem gM {α:Type}{P:α→Bool}{l:List α}(h:0≤MB P l): ∃x,l[(MB P l).toNat]? =some x∧P x=true∧l.find? P=some x:=by
  unfold MB at h ⊢
  cases hq:l.findIdx? P with
  |none=>rw [hq]at h;exact absurd h (by simp)
  |some i=>
   obtain ⟨h1,h2,h3⟩:=List.findIdx?_eq_some_iff_getElem.1 hq
   refine ⟨l[i],by rw [bZ];exact lH h1,h2,?_⟩
   exact List.find?_eq_some_iff_getElem.2 ⟨h2,i,h1,rfl,fun j hj=>by simpa using h3 j hj⟩
theorem jN {m:Map}{r:List Int}{z:Int}(h:0≤Hy m r z): ∃zn l,0≤z∧m.Zones[z.toNat]? =some zn∧R7 m r=0∧r[(Hy m r z).toNat]? =some l∧(Oz zn l).2=true:=by
  unfold Hy at h ⊢
  cases hz:m.Zones[z.toNat]? with
  |none=>rw [hz]at h;exact absurd h (by simp)
  |some zn=>
   rw [hz]at h
   dsimp only at h ⊢
   by_cases q:0≤z∧R7 m r=0
   ·rw [bL q]at h ⊢
    obtain ⟨l,h1,h2,_⟩:=gM h
    exact ⟨zn,l,q.1,rfl,q.2,h1,h2⟩
   ·rw [bM q]at h;exact absurd h (by simp)
/-- The lane on which a route enters a zone; -1 if it does not. -/
noncomputable def Ra (m:Map)(r:List Int)(z:Int):Int:=if 0≤Hy m r z then r.getD (Hy m r z).toNat 0 else -1
theorem MK {m:Map}{r:List Int}{z:Int}(h:0≤Hy m r z): ∃zn,0≤z∧m.Zones[z.toNat]? =some zn∧r[(Hy m r z).toNat]? =some (Ra m r z)∧(Oz zn (Ra m r z)).2=true∧0≤Ra m r z:=by
  obtain ⟨zn,l,h0,h1,h2,h3,h4⟩:=jN h
  have e:Ra m r z=l:=by unfold Ra;rw [bL h,List.getD,h3];rfl
  obtain ⟨a,t,rfl,R⟩:=chkRoute_zero.1 h2
  have:=R.mem (lG h3)
  rw [e]
  exact ⟨zn,h0,h1,h3,h4,this.1⟩
theorem NP {m:Map}(B:BearM m){r:List Int}(hr:r.length≤1000000)(z:Int):Gh m r z=some (Ra m r z):=by
  unfold Gh
  rw [oY B r hr,lB]
  by_cases q:0≤Hy m r z
  ·obtain ⟨zn,_,_,h3,_⟩:=MK q
   have hg:=C8 h3
   rw [wA q]at hg
   rw [bF (show Hy m r z≥0 from q),bJ,hg];rfl
  ·rw [bG (show ¬Hy m r z≥0 from q)]
   unfold Ra;rw [bM q];rfl
/-- The rank of an agent in a zone. -/
noncomputable def gN (m:Map)(r:List Int)(z tick:Int):Int:=
  if 0≤Hy m r z then
   match m.Zones[z.toNat]? with
   |some zn=>if zn.Signal_>0 then (if NL m (zn.Signal_ - 1) (Ra m r z) tick=true then 2 else 0)else (Oz zn (Ra m r z)).1.Rank
   |none=>0
  else 0
theorem gO {m:Map}(K:KitM m){g:Agent}(hr:g.Route.length≤1000)(z tick:Int):Jf m g z tick=some (gN m g.Route z tick)∧Tz m g z tick=some (gN m g.Route z tick):=by
  have B:=K.toBearM
  have hr':g.Route.length≤1000000:=by omega
  unfold Jf Tz gN
  rw [NP B hr',NM B _ hr',lB,lB]
  by_cases q:0≤Hy m g.Route z
  case neg=>
    rw [bM q,bF (show Hy m g.Route z<0 by omega)]
    have:Ra m g.Route z= -1:=by unfold Ra;rw [bM q]
    rw [this]
    exact ⟨rfl,rfl⟩
  obtain ⟨zn,h0,h1,h3,h4,h5⟩:=MK q
  have hz:=C8 h1
  rw [wA h0]at hz
  have hg:=C8 h3
  rw [wA q]at hg
  have Z:=K.val.zoneOK (lG h1)
  have hS:=Z.sig
  have hsl:=K.val.signals
  have hp:=B.toBearZ.parts zn (lG h1)
  rw [bL q,h1,bG (show ¬Ra m g.Route z<0 by omega),bG (show ¬Hy m g.Route z<0 by omega),bK,bK,hz,lB,lB]
  dsimp only
  by_cases s:zn.Signal_>0
  ·rw [bL s,bF s,G9 (by omega),pA B,hg]
   simp only [lB,bJ,jB B,bN]
   cases NL m (zn.Signal_ - 1) (Ra m g.Route z) tick<;>exact ⟨rfl,rfl⟩
  ·rw [bM s,bG s,bK,bK,lB,bO,bK]
   have hany:zn.Parts.any (fun p=>p.Lane_==Ra m g.Route z)=true:=by
     unfold Oz at h4
     cases hf:zn.Parts.find? (fun p=>p.Lane_==Ra m g.Route z)with
     |none=>rw [hf]at h4;cases h4
     |some p=>
      exact lY.2 ⟨p,List.mem_of_find?_eq_some hf,lZ (p:=fun p:Part=>p.Lane_==Ra m g.Route z) hf⟩
   have hidx:0≤MB (fun p:Part=>p.Lane_==Ra m g.Route z) zn.Parts:=by
     have:=BW (fun p:Part=>p.Lane_==Ra m g.Route z) zn.Parts
     rw [hany]at this
     simpa using this
   obtain ⟨p,p1,p2,p3⟩:=gM hidx
   have hpr:(Oz zn (Ra m g.Route z)).1.Rank=p.Rank:=by unfold Oz;rw [p3]
   constructor
   ·have e:J6 zn.Parts (Ra m g.Route z)=some (MB (fun p:Part=>p.Lane_==Ra m g.Route z) zn.Parts):=by
      unfold J6
      refine Vn zn.Parts (fun p:Part=>p.Lane_==Ra m g.Route z) (by omega) (fun i a h=> ?_) (by unfold I6;rw [J2];rfl)
      unfold I6 Ha
      rw [K6 (H6 h),C8 h,bJ,lB,lB]
      cases a.Lane_==Ra m g.Route z<;>rfl
    have hgp:=C8 p1
    rw [wA hidx]at hgp
    rw [e,lB,hgp,lB,hpr]
   ·have key: ∀(l:List Part) (i:Nat),zn.Parts.drop i=l→i≤zn.Parts.length→thenS (loop (Js g (Hy m g.Route z) zn) (i:Int)) (fun _=>some 0) (fun r=>some r)=some (match l.find? (fun p=>p.Lane_==Ra m g.Route z)with|some p=>p.Rank|none=>0):=by
      intro l
      induction l with
      |nil=>
       intro i hi hil
       have:=O6 hi
       obtain rfl:i=zn.Parts.length:=by omega
       rw [D0 (t:= .inl ()) (by unfold Js;rw [J2];rfl)];rfl
      |cons x l ih=>
       intro i hi hil
       have hx:=Z3 hi
       have hlt:=N5 hi
       rw [List.find?_cons]
       cases hq:x.Lane_==Ra m g.Route z with
       |true=>
        rw [D0 (t:= .inr x.Rank) (by unfold Js;rw [K6 hlt,C8 hx,bJ,lB,hg,lB,hq,bJ,lB])];rfl
       |false=>
        rw [L4 (s':=((i+1:Nat):Int)) (by unfold Js;rw [K6 hlt,C8 hx,bJ,lB,hg,lB,hq,bK,G6 hlt (by omega)])]
        exact ih (i+1) (L0 hi) hlt
    have:=key zn.Parts 0 rfl (wC _)
    rw [p3]at this
    rw [show ((0:Nat):Int)=0 from rfl]at this
    rw [bK,this,hpr]
/-! ### Stays -/
def Xg (i z:Int)(x:Stay):Bool:=x.Agent_==i&&x.Zone_==z
def VP (l:List Stay):Prop:=l.Pairwise fun a b=>Lb a b=true
theorem ON {a b c:Stay}(h1:Lb a b=true)(h2:Lb b c=true):Lb a c=true:=by
  unfold Lb at*
  simp only [bQ,bH,bP,bV]at*
  omega
theorem jO {l:List Stay}(h: ∀(i:Nat) x y,l[i]? =some x→l[i+1]? =some y→Lb x y=true):VP l:=by
  unfold VP
  induction l with
  |nil=>exact List.Pairwise.nil
  |cons a l ih=>
   have ih:=ih fun i x y hx hy=>h (i+1) x y (by simpa using hx) (by simpa using hy)
   refine l9.2 ⟨fun b hb=> ?_,ih⟩
   cases l with
   |nil=>cases hb
   |cons c l=>
    have h0:=h 0 a c rfl rfl
    rcases lT.1 hb with rfl|hb
    ·exact h0
    ·exact ON h0 ((l9.1 ih).1 b hb)
theorem sV (a b:Stay):decide (TW a b<0)=Lb a b:=by
  have:=aO a b
  have e:decide (TW a b<0)= !decide (TW a b≥0):=by
    by_cases h:TW a b<0
    ·rw [bF h,bG (by omega)];rfl
    ·rw [bG h,bF (by omega)];rfl
  rw [e,this,Bool.not_not]
theorem pJ (a b:Stay):(TW a b==0)=Xg b.Agent_ b.Zone_ a:=by
  unfold TW Xg MG
  by_cases h1:a.Agent_<b.Agent_
  ·have:a.Agent_≠b.Agent_:=by omega
   simp [h1,this]
  ·by_cases h2:a.Agent_>b.Agent_
   ·have:a.Agent_≠b.Agent_:=by omega
    simp [h1,h2,this]
   ·have:a.Agent_=b.Agent_:=by omega
    by_cases h3:a.Zone_<b.Zone_
    ·have:a.Zone_≠b.Zone_:=by omega
     simp [h3,this, *]
    ·by_cases h4:a.Zone_>b.Zone_
     ·have:a.Zone_≠b.Zone_:=by omega
      simp [h3,h4,this, *]
     ·have:a.Zone_=b.Zone_:=by omega
      simp [this, *]
theorem gP {l:List Stay}(hl:l.length≤1000000)(hs:VP l)(y:Stay): ∃s:Nat,D4 l y=some ((s:Int),(l.find? (Xg y.Agent_ y.Zone_)).isSome)∧∀x,l.find? (Xg y.Agent_ y.Zone_)=some x→l[s]? =some x:=by
  have hget: ∀c,c<l.length→l[c]? =some (l.getD c default):=by
    intro c hc
    rw [List.getD,lH hc];rfl
  obtain ⟨s,h1,_,h3,h4,h5⟩:=rX (F:=D7 l y) (fun c=>Lb (l.getD c default) y) 0 l.length (wC _) (fun a b _ hab hb=>by
    unfold D7
    dsimp only
    have hm:(a+b) / 2<l.length:=by omega
    rw [bF (show (a:Int)< (b:Int) by omega),bJ,sH a b (by omega),C8 (hget _ hm),lB,SL,lB,sV]
    by_cases q:Lb (l.getD ((a+b) / 2) default) y=true
    ·rw [bL q,q,bJ,G6 hm (by omega)]
    ·rw [bM q,show Lb (l.getD ((a+b) / 2) default) y=false by simpa using q];rfl) (fun a b hab=>by
    unfold D7
    dsimp only
    rw [bG (show ¬(a:Int)< (b:Int) by omega)];rfl) (fun c c' _ hcc hc' q=>by
    rcases Nat.lt_or_eq_of_le hcc with h|h
    ·have h1:=bB.1 hs c c' (by omega) hc' h
     have e1:=hget c (by omega);have e2:=hget c' hc'
     rw [lH (by omega)]at e1 e2
     rw [lD e1,lD e2]at h1
     exact ON h1 q
    ·subst h;exact q)
  have hmem: ∀x,l.find? (Xg y.Agent_ y.Zone_)=some x→l[s]? =some x:=by
    intro x hx
    have k1:=lZ hx
    have k2:=List.mem_of_find?_eq_some hx
    obtain ⟨j,hj⟩:=List.getElem?_of_mem k2
    have hjl:=H6 hj
    have e1:=hget j hjl
    rw [hj]at e1
    have ex:x=l.getD j default:=lD e1
    have nl:Lb x y=false:=by
      unfold Xg at k1;unfold Lb
      simp only [bP,bV]at k1
      rw [bU]
      simp only [ne_eq,bQ,bH,bP,bV]
      omega
    have hsj:s≤j:=by
      refine Nat.not_lt.1 fun h=> ?_
      have:=h4 j (wC _) h
      rw [← ex,nl]at this;cases this
    rcases Nat.lt_or_eq_of_le hsj with h|h
    ·exfalso
     have h6:=h5 s (wB _) (by omega)
     have h7:=bB.1 hs s j (by omega) hjl h
     have e2:=hget s (by omega)
     rw [lH (by omega)]at e2
     have e3:=hj
     rw [lH hjl]at e3
     rw [lD e2,lD e3]at h7
     unfold Xg at k1;unfold Lb at h6 h7
     simp only [bP,bV]at k1
     rw [bU]at h6
     simp only [ne_eq,bQ,bH,bP,bV]at h6 h7
     omega
    ·subst h;exact hj
  refine ⟨s,?_,hmem⟩
  have h1':loop (D7 l y) (0,(l.length:Int))=some (s:Int):=h1
  unfold D4
  rw [h1',lB]
  by_cases hlt:s<l.length
  ·have e:=hget s hlt
   rw [K6 hlt,bJ,C8 e,lB,bJ,SL,lB,pJ,bN]
   congr 2
   cases hf:l.find? (Xg y.Agent_ y.Zone_)with
   |some x=>
    have:=hmem x hf
    rw [e]at this
    rw [lD this,lZ hf];rfl
   |none=>
    have:=List.find?_eq_none.1 hf (l.getD s default) (lG e)
    simpa using this
  ·rw [show decide ((s:Int)< (l.length:Int))=false from bG (by omega),bK,lB,bK,lB,bO]
   congr 2
   cases hf:l.find? (Xg y.Agent_ y.Zone_)with
   |some x=>have:=H6 (hmem x hf);omega
   |none=>rfl
/-- The document's search. -/
theorem SN {l:List Stay}(hl:l.length≤1000000)(i z:Int):On l i z=some (match l.find? (Xg i z)with|some x=>(x,true)|none=>(⟨0,0,0,0⟩,false)):=by
  unfold On
  have key: ∀(r:List Stay) (k:Nat),l.drop k=r→k≤l.length→thenS (loop (Jr l i z) (k:Int)) (fun _=>some ((⟨0,0,0,0⟩:Stay),false)) (fun r=>some r)=some (match r.find? (Xg i z)with|some x=>(x,true)|none=>(⟨0,0,0,0⟩,false)):=by
    intro r
    induction r with
    |nil=>
     intro k hk hkl
     have:=O6 hk
     obtain rfl:k=l.length:=by omega
     rw [D0 (t:= .inl ()) (by unfold Jr;rw [J2];rfl)];rfl
    |cons x r ih=>
     intro k hk hkl
     have hx:=Z3 hk
     have hlt:=N5 hk
     have hc:((cond (x.Agent_==i) (some x) (some default)).bind fun v2=>cond (x.Agent_==i&&v2.Zone_==z) ((some x).bind fun v3=>some (Stp.out (Sum.inr (v3,true)))) (some (Stp.go (C3 ((k:Int)+1)))))=(some (if Xg i z x=true then Stp.out (Sum.inr (x,true))else Stp.go ((k+1:Nat):Int)):Option (Stp Int (Sum Unit (Stay×Bool)))):=by
       unfold Xg
       rw [G6 hlt (by omega)]
       cases x.Agent_==i
       ·rfl
       ·simp only [bJ,lB,bN]
        cases x.Zone_==z<;>rfl
     rw [List.find?_cons]
     cases hq:Xg i z x with
     |true=>
      rw [D0 (t:= .inr (x,true)) (by unfold Jr;rw [K6 hlt,C8 hx,bJ,lB,hc,bL hq])];rfl
     |false=>
      rw [L4 (s':=((k+1:Nat):Int)) (by unfold Jr;rw [K6 hlt,C8 hx,bJ,lB,hc,bM (by rw [hq];simp)])]
      exact ih (k+1) (L0 hk) hlt
  exact key l 0 rfl (wC _)
theorem eX {S α β τ:Type}{F:S→Option (Stp S τ)}(pk:Nat→List β→S)(l:List α)(g:Nat→α→Option β)(fin:List β→τ)(s0:List β)(B:Nat){S0:S}(hS:pk 0 s0=S0)(hB:s0.length+l.length≤B)
    (hF: ∀(i:Nat) a (s:List β),l[i]? =some a→s.length+1≤B→F (pk i s)=some (.go (pk (i+1) (match g i a with|some b=>s++ [b]|none=>s))))
    (h0: ∀s,F (pk l.length s)=some (.out (fin s))):loop F S0=some (fin (s0++Hm g 0 l)):=by
  have:=ZX (F:=F) pk l (fun i s=>s.length≤s0.length+i) (fun i s a=>match g i a with|some b=>s++ [b]|none=>s) fin (s0:=s0) (S0:=S0) hS (by simp) (fun i a s h hs=>hF i a s h (by have:=(lI.1 h).1;omega)) (fun i a s _ hs=>by
    cases g i a<;>simp<;>omega) (fun s _=>h0 s)
  exact this.trans (congrArg (fun x=>some (fin x)) (DB g l 0 s0))
theorem pK {S α β τ:Type}{F:S→Option (Stp S τ)}(pk:Nat→List β→S)(l:List α)(g:Nat→α→List β)(fin:List β→τ)(s0:List β)(C B:Nat){S0:S}(hS:pk 0 s0=S0)(hB:s0.length+l.length*C≤B)(hC: ∀(i:Nat) a,l[i]? =some a→(g i a).length≤C)
    (hF: ∀(i:Nat) a (s:List β),l[i]? =some a→s.length+C≤B→F (pk i s)=some (.go (pk (i+1) (s++g i a))))
    (h0: ∀s,F (pk l.length s)=some (.out (fin s))):loop F S0=some (fin (s0++AI g 0 l)):=by
  have key: ∀(r:List α) (i:Nat) (s:List β),MC (fun i s a=>s++g i a) i s r=s++AI g i r:=by
    intro r
    induction r with
    |nil=>intro i s;simp [MC,AI]
    |cons a r ih=>intro i s;simp [MC,AI,ih]
  have:=ZX (F:=F) pk l (fun i s=>s.length≤s0.length+i*C) (fun i s a=>s++g i a) fin (s0:=s0) (S0:=S0) hS (by simp) (fun i a s h hs=>hF i a s h (by
    have h1:=(lI.1 h).1
    have h2:(i+1)*C≤l.length*C:=Nat.mul_le_mul_right C h1
    rw [wD,wE]at h2;omega)) (fun i a s h hs=>by
    have h3:=hC i a h
    rw [lL,wD,wE];omega) (fun s _=>h0 s)
  exact this.trans (congrArg (fun x=>some (fin x)) (key l 0 s0))
/-- Present at both ends of a tick. -/
noncomputable def Qh (m:Map)(s:State)(A:List Agent)(i z:Int):Bool:=Aj s i&& (match B7 s.Agents i,B7 A i with
  |some g,some g'=>Ld m g g' z
  |_,_=>false)
theorem DL {s:State}{i:Int}(h:Aj s i=true): ∃g,B7 s.Agents i=some g∧s.Agents[i.toNat]? =some g∧0≤i∧i<s.Agents.length∧g.Gone=false∧g.Begin≤s.Tick:=by
  unfold Aj at h
  by_cases q:0≤i∧i<s.Agents.length
  ·obtain ⟨g,h1,h2⟩:=Xo q.1 q.2
   rw [h1]at h
   dsimp only at h
   rw [bP,bH]at h
   exact ⟨g,h1,h2,q.1,q.2,by simpa using h.1,h.2⟩
  ·rw [NN q]at h;cases h
theorem jP {m:Map}{s:State}{A:List Agent}{i z:Int}(h:Qh m s A i z=true): ∃g g',B7 s.Agents i=some g∧s.Agents[i.toNat]? =some g∧0≤i∧i<s.Agents.length∧B7 A i=some g'∧Ld m g g' z=true:=by
  unfold Qh at h
  rw [bP]at h
  obtain ⟨g,h1,h2,h3,h4,_⟩:=DL h.1
  rw [h1]at h
  cases hA:B7 A i with
  |none=>rw [hA]at h;exact absurd h.2 (by simp)
  |some g'=>rw [hA]at h;exact ⟨g,g',h1,h2,h3,h4,rfl,h.2⟩
theorem GM {m:Map}(B:BearK m){s:State}(S:SizeS s){sc:WorldScene}{A:List Agent}(hm:sc.m=m)(hb:sc.before=s)(ha:sc.after.Agents=A)(hl:A.length=s.Agents.length)(i z:Int):O7 sc i z=some (Qh m s A i z):=by
  unfold O7 Qh
  rw [hm,hb,ha,(Vq s i).1,lB]
  cases h:Aj s i
  ·rfl
  ·obtain ⟨g,h1,h2,h3,h4,_⟩:=DL h
   obtain ⟨g',h5,_⟩:=Xo (l:=A) h3 (by omega)
   rw [h1,h5]
   simp only [bJ,lB,bN]
   rw [(DK B (S.routes g (lG h2)) z).1];rfl
/-- The stay of who is present. -/
noncomputable def Pq (m:Map)(s:State)(i z:Int):Stay:=match s.In.find? (Xg i z)with
  |some x=>x
  |none=>⟨i,z,s.Tick,match B7 s.Agents i with|some g=>gN m g.Route z s.Tick|none=>0⟩
theorem XP (m:Map)(s:State)(i z:Int):(Pq m s i z).Agent_=i∧(Pq m s i z).Zone_=z:=by
  unfold Pq
  cases h:s.In.find? (Xg i z)with
  |none=>exact ⟨rfl,rfl⟩
  |some x=>
   have:=lZ h
   unfold Xg at this
   simpa using this
noncomputable def IR (m:Map)(s:State)(A:List Agent)(i:Nat)(z:Nat)(_:Zone):Option Stay:=if Qh m s A i z=true then some (Pq m s i z)else none
noncomputable def Zl (m:Map)(s:State)(A:List Agent)(i:Nat)(_:Agent):List Stay:=Hm (IR m s A i) 0 m.Zones
/-- The stays after a tick. -/
noncomputable def Ft (m:Map)(s:State)(A:List Agent):List Stay:=AI (Zl m s A) 0 s.Agents
theorem JY (m:Map)(s:State)(A:List Agent)(i:Nat)(a:Agent):(Zl m s A i a).length≤m.Zones.length:=HC _ _ _
theorem Kz {α β:Type}{g:Nat→α→Option β}{b:β}: ∀(l:List α) (k:Nat),b∈Hm g k l↔∃(i:Nat) (a:α),l[i]? =some a∧g (k+i) a=some b
  | [],k=>by simp [Hm]
  |a::r,k=>by
   have ih:=Kz (g:=g) (b:=b) r (k+1)
   have e:(∃(i:Nat) (a':α),(a::r)[i]? =some a'∧g (k+i) a'=some b)↔g k a=some b∨∃(i:Nat) (a':α),r[i]? =some a'∧g (k+1+i) a'=some b:=by
     constructor
     ·rintro ⟨i,a',h1,h2⟩
      cases i with
      |zero=>simp at h1;subst h1;exact .inl h2
      |succ i=>exact .inr ⟨i,a',by simpa using h1,by rw [show k+1+i=k+ (i+1) by omega];exact h2⟩
     ·rintro (h|⟨i,a',h1,h2⟩)
      ·exact ⟨0,a,rfl,h⟩
      ·exact ⟨i+1,a',by simpa using h1,by rw [show k+ (i+1)=k+1+i by omega];exact h2⟩
   rw [e,Hm]
   cases hg:g k a with
   |none=>simp [ih]
   |some c=>simp [ih,eq_comm]
theorem NQ {α β:Type}{g:Nat→α→List β}{b:β}: ∀(l:List α) (k:Nat),b∈AI g k l↔∃(i:Nat) (a:α),l[i]? =some a∧b∈g (k+i) a
  | [],k=>by simp [AI]
  |a::r,k=>by
   have ih:=NQ (g:=g) (b:=b) r (k+1)
   rw [AI,lS,ih]
   constructor
   ·rintro (h|⟨i,a',h1,h2⟩)
    ·exact ⟨0,a,rfl,h⟩
    ·exact ⟨i+1,a',by simpa using h1,by rw [show k+ (i+1)=k+1+i by omega];exact h2⟩
   ·rintro ⟨i,a',h1,h2⟩
    cases i with
    |zero=>simp at h1;subst h1;exact .inl h2
    |succ i=>exact .inr ⟨i,a',by simpa using h1,by rw [show k+1+i=k+ (i+1) by omega];exact h2⟩
theorem stays_mem {m:Map}{s:State}{A:List Agent}{x:Stay}:x∈Ft m s A↔∃i z:Nat,i<s.Agents.length∧z<m.Zones.length∧Qh m s A i z=true∧x=Pq m s i z:=by
  unfold Ft
  rw [NQ]
  constructor
  ·rintro ⟨i,a,h1,h2⟩
   unfold Zl at h2
   rw [Kz]at h2
   obtain ⟨z,zn,h3,h4⟩:=h2
   unfold IR at h4
   rw [wF,wF]at h4
   split at h4
   ·rename_i h5
    cases h4
    exact ⟨i,z,H6 h1,H6 h3,h5,rfl⟩
   ·cases h4
  ·rintro ⟨i,z,h1,h2,h3,rfl⟩
   refine ⟨i,s.Agents[i],lH h1,?_⟩
   unfold Zl
   rw [Kz]
   refine ⟨z,m.Zones[z],lH h2,?_⟩
   unfold IR
   rw [wF,wF,bL h3]
theorem SO {α β:Type}{g:Nat→α→Option β}{R:β→β→Prop}(h: ∀i j a a' b b',i<j→g i a=some b→g j a'=some b'→R b b'): ∀(l:List α) (k:Nat),(Hm g k l).Pairwise R
  | [],k=>List.Pairwise.nil
  |a::r,k=>by
   have ih:=SO h r (k+1)
   rw [Hm]
   cases hg:g k a with
   |none=>exact ih
   |some b=>
    refine l9.2 ⟨fun b' hb'=> ?_,ih⟩
    obtain ⟨i,a',_,h2⟩:=(Kz r (k+1)).1 hb'
    exact h k (k+1+i) a a' b b' (by omega) hg h2
theorem SP {α β:Type}{g:Nat→α→List β}{R:β→β→Prop}(h0: ∀i a,(g i a).Pairwise R)(h: ∀i j a a' b b',i<j→b∈g i a→b'∈g j a'→R b b'): ∀(l:List α) (k:Nat),(AI g k l).Pairwise R
  | [],k=>List.Pairwise.nil
  |a::r,k=>by
   rw [AI]
   refine bA.2 ⟨h0 k a,SP h0 h r (k+1),fun b hb b' hb'=> ?_⟩
   obtain ⟨i,a',_,h2⟩:=(NQ r (k+1)).1 hb'
   exact h k (k+1+i) a a' b b' (by omega) hb h2
theorem eY (m:Map)(s:State)(A:List Agent):VP (Ft m s A):=by
  have key: ∀(i z:Nat) zn b,IR m s A i z zn=some b→b.Agent_=(i:Int)∧b.Zone_=(z:Int):=by
    intro i z zn b h
    unfold IR at h
    split at h
    ·cases h;exact XP m s i z
    ·cases h
  refine SP (fun i a=>SO (fun z z' _ _ b b' hz h1 h2=> ?_) _ _) (fun i j a a' b b' hij h1 h2=> ?_) _ _
  ·have k1:=key i z _ b h1
   have k2:=key i z' _ b' h2
   unfold Lb
   rw [k1.1,k1.2,k2.1,k2.2]
   simp [hz]
  ·unfold Zl at h1 h2
   obtain ⟨z,zn,_,h1⟩:=(Kz _ _).1 h1
   obtain ⟨z',zn',_,h2⟩:=(Kz _ _).1 h2
   have k1:=key i _ zn b h1
   have k2:=key j _ zn' b' h2
   unfold Lb
   rw [k1.1,k2.1]
   simp only [bQ,bH,bP,bV]
   omega
theorem JZ {m:Map}{s:State}{A:List Agent}{i z:Int}(hz:0≤z∧z<m.Zones.length)(h:Qh m s A i z=true):(Ft m s A).find? (Xg i z)=some (Pq m s i z):=by
  obtain ⟨g,g',h1,h2,h3,h4,_⟩:=jP h
  have hm:Pq m s i z∈Ft m s A:=stays_mem.2 ⟨i.toNat,z.toNat,by omega,by omega,by rw [wA h3,wA hz.1];exact h,by rw [wA h3,wA hz.1]⟩
  have hk:Xg i z (Pq m s i z)=true:=by
    have:=XP m s i z
    unfold Xg;rw [this.1,this.2];simp
  cases hf:(Ft m s A).find? (Xg i z)with
  |none=>exact absurd hk (by simpa using List.find?_eq_none.1 hf _ hm)
  |some x=>
   obtain ⟨i',z',_,_,_,rfl⟩:=stays_mem.1 (List.mem_of_find?_eq_some hf)
   have:=lZ hf
   unfold Xg at this
   have k:=XP m s i' z'
   rw [k.1,k.2]at this
   simp only [bP,bV]at this
   rw [this.1,this.2]
theorem NR (m:Map)(s:State)(A:List Agent):(Ft m s A).length≤s.Agents.length*m.Zones.length:=VC _ _ _ _ fun _ _ _=>JY _ _ _ _ _
/-- The program's choice of a stay. -/
theorem jQ {m:Map}(K:KitM m){s:State}(S:SizeS s)(hs:VP s.In){i z:Int}{g:Agent}(hg:B7 s.Agents i=some g)(hr:g.Route.length≤1000):
    ∃v8,D4 s.In (Stay.mk i z s.Tick 0)=some v8∧cond v8.2 ((B7 s.In v8.1).bind fun v9=>some v9) ((Jf m g z s.Tick).bind fun v10=>some (Stay.mk i z s.Tick v10))=some (Pq m s i z):=by
  obtain ⟨k,h1,h2⟩:=gP S.ins hs (Stay.mk i z s.Tick 0)
  refine ⟨_,h1,?_⟩
  unfold Pq
  dsimp only at h2 ⊢
  cases hf:s.In.find? (Xg i z)with
  |some x=>rw [C8 (h2 x hf)];rfl
  |none=>rw [(gO K hr z s.Tick).1,hg];rfl
theorem eZ {m:Map}(K:KitM m){s:State}(S:SizeS s){i z:Int}{g:Agent}(hg:B7 s.Agents i=some g)(hr:g.Route.length≤1000):
    ∃v10,On s.In i z=some v10∧cond (!v10.2) ((B7 s.Agents i).bind fun v11=>(Tz m v11 z s.Tick).bind fun v12=>some (Stay.mk i z s.Tick v12)) (some v10.1)=some (Pq m s i z):=by
  refine ⟨_,SN S.ins i z,?_⟩
  unfold Pq
  cases hf:s.In.find? (Xg i z)with
  |some x=>rfl
  |none=>rw [hg];simp only [bS,bJ,lB];rw [(gO K hr z s.Tick).2];rfl
/-- The agents after a tick. -/
noncomputable def Ee (m:Map)(s:State)(acts:List Int):List Agent:=s.Agents.mapIdx fun i _=>GL m s i (acts.getD i 0)
noncomputable def Te (m:Map)(s:State)(acts:List Int)(k:Nat):List Agent:=s.Agents.mapIdx fun i g=>if i<k then GL m s i (acts.getD i 0)else g
theorem SQ (m:Map)(s:State)(acts:List Int):Te m s acts 0=s.Agents:=by
  apply List.ext_getElem?
  intro i
  unfold Te
  rw [bC]
  cases s.Agents[i]? <;>simp
theorem VQ (m:Map)(s:State)(acts:List Int):Te m s acts s.Agents.length=Ee m s acts:=by
  apply List.ext_getElem?
  intro i
  unfold Te Ee
  rw [bC,bC]
  cases h:s.Agents[i]? with
  |none=>rfl
  |some g=>simp [H6 h]
theorem CB (m:Map)(s:State)(acts:List Int):(Ee m s acts).length=s.Agents.length:=by unfold Ee;simp
theorem VR {m:Map}{s:State}{acts:List Int}{k:Nat}{g:Agent}(h:s.Agents[k]? =some g):B7 (Te m s acts k) (k:Int)=some g:=by
  apply C8
  unfold Te
  rw [bC,h];simp
theorem fA {m:Map}{s:State}{acts:List Int}{k:Nat}{g:Agent}(h:s.Agents[k]? =some g):B7 (Te m s acts (k+1)) (k:Int)=some (GL m s k (acts.getD k 0)):=by
  apply C8
  unfold Te
  rw [bC,h];simp
theorem VS {m:Map}{s:State}{acts:List Int}{k:Nat}{g:Agent}(h:s.Agents[k]? =some g):B7 (Ee m s acts) (k:Int)=some (GL m s k (acts.getD k 0)):=by
  apply C8
  unfold Ee
  rw [bC,h];simp
theorem VT {m:Map}{s:State}{acts:List Int}{k:Nat}:Kj (Te m s acts k) (k:Int) (GL m s k (acts.getD k 0))=Te m s acts (k+1):=by
  apply List.ext_getElem?
  intro i
  unfold Kj Te
  rw [bZ,List.getElem?_set,bC,bC,List.length_mapIdx]
  by_cases q:k=i
  ·subst q
   by_cases h:k<s.Agents.length
   ·rw [bL rfl,bL h,lH h];simp
   ·rw [bL rfl,bM h,List.getElem?_eq_none (by omega)];rfl
  ·rw [bM q]
   have:i<k↔i<k+1:=by omega
   simp [this]
theorem pL (acts:List Int)(i:Nat):(cond (decide ((i:Int)< (acts.length:Int))) ((B7 acts (i:Int)).bind fun v3=>some v3) (some 0))=some (acts.getD i 0):=by
  by_cases h:i<acts.length
  ·rw [K6 h,C8 (lH h),List.getD,lH h];rfl
  ·rw [bG (by omega),List.getD,List.getElem?_eq_none (by omega)];rfl
theorem fB {m:Map}(K:KitM m){s:State}(S:SizeS s)(w: ∀g∈s.Agents,g.S≤9223372036854775807)(acts:List Int){v2:State}(hv:v2.Agents=s.Agents):Jm m s acts v2=some (Ee m s acts):=by
  have hl:=S.agents
  have e:loop (Es m s acts) (0,s.Agents)=some (Ee m s acts):=by
    refine ZX (fun i (_:Unit)=>((i:Int),Te m s acts i)) s.Agents (fun _ _=>True) (fun _ _ _=>()) (fun _=>Ee m s acts) (s0:=()) (by rw [SQ];rfl) trivial (fun i a _ h _=> ?_) (fun _ _ _ _ _=>trivial) (fun _ _=> ?_)
    ·unfold Es
     dsimp only
     rw [K6 (H6 h),bJ,pL,lB,(gL K S w i _).1,lB,VR h,lB,VT,G6 (H6 h) (by omega)]
    ·unfold Es
     dsimp only
     rw [J2,VQ];rfl
  unfold Jm
  rw [hv,e];rfl
theorem fC {m:Map}(K:KitM m){s:State}(S:SizeS s)(hs:VP s.In)(acts:List Int){A:List Agent}(hA:A.length=s.Agents.length)(v2:State):Jl m s acts v2 A=some (Ft m s A):=by
  have hl:=S.agents
  have hz:=K.zones2
  have e:loop (Er m s acts v2 A) (0,[])=some (Ft m s A):=by
    refine pK (fun i l=>((i:Int),l)) s.Agents (Zl m s A) id [] 2 1000000 rfl (by simp;omega) (fun i a _=>wG (JY _ _ _ _ _) hz) (fun i a l h hb=> ?_) (fun l=> ?_)
    ·have hg:=C8 h
     have hr:=S.routes a (lG h)
     have e:loop (Ep m s acts v2 A ((i:Int),l) a) (0,l)=some (l++Zl m s A i a):=by
       refine eX (fun z l=>((z:Int),l)) m.Zones (IR m s A i) id l 1000000 rfl (by omega) (fun z zn l' hz' hb'=> ?_) (fun l'=> ?_)
       ·unfold Ep IR
        dsimp only
        rw [K6 (H6 hz'),bJ,GM K.toBearK S rfl rfl rfl hA,lB,G6 (H6 hz') (by omega)]
        cases hh:Qh m s A i z
        ·rfl
        ·obtain ⟨v8,p1,p2⟩:=jQ K S hs (z:=(z:Int)) hg hr
         rw [bR,bK,p1,lB,p2,lB,Z2,bL (by simp;omega)];rfl
       ·unfold Ep
        dsimp only
        rw [J2];rfl
     unfold Er
     dsimp only
     rw [K6 (H6 h),bJ,hg,lB,e,lB,G6 (H6 h) (by omega)]
    ·unfold Er
     dsimp only
     rw [J2];rfl
  unfold Jl
  rw [e];rfl
theorem fD {m:Map}{s:State}{A:List Agent}{i:Nat}(h:Aj s i=false)(a:Agent):Zl m s A i a= []:=by
  apply List.eq_nil_iff_forall_not_mem.2
  intro x hx
  unfold Zl at hx
  obtain ⟨z,zn,_,h2⟩:=(Kz _ _).1 hx
  unfold IR Qh at h2
  rw [h,bO,bM (by simp)]at h2
  cases h2
theorem aU {m:Map}(K:KitM m){s:State}(S:SizeS s)(w: ∀g∈s.Agents,g.S≤9223372036854775807)(acts:List Int)(t:Int):loop (Nh m s acts) (0,(⟨t,s.Agents,[]⟩:State))=some ⟨t,Ee m s acts,Ft m s (Ee m s acts)⟩:=by
  have hl:=S.agents
  have hz:=K.zones2
  refine pK (fun i l=>((i:Int),(⟨t,Te m s acts i,l⟩:State))) s.Agents (Zl m s (Ee m s acts)) (fun l=>(⟨t,Ee m s acts,l⟩:State)) [] 2 1000000 (by rw [SQ];rfl) (by simp;omega) (fun i a _=>wG (JY _ _ _ _ _) hz) (fun i a l h hb=> ?_) (fun l=> ?_)
  ·have hg:=C8 h
   have hr:=S.routes a (lG h)
   have e:loop (Ju m s ((i:Int),(⟨t,Te m s acts i,l⟩:State))) (0,(⟨t,Te m s acts (i+1),l⟩:State))=some ⟨t,Te m s acts (i+1),l++Zl m s (Ee m s acts) i a⟩:=by
     cases ht:Aj s i
     ·rw [D0 (t:=(⟨t,Te m s acts (i+1),l⟩:State)),fD ht,lO]
      unfold Ju
      dsimp only
      rw [(Vq s i).2,ht]
      cases decide ((0:Int)< (m.Zones.length:Int))<;>rfl
     ·refine eX (fun z l=>((z:Int),(⟨t,Te m s acts (i+1),l⟩:State))) m.Zones (IR m s (Ee m s acts) i) (fun l=>(⟨t,Te m s acts (i+1),l⟩:State)) l 1000000 rfl (by omega) (fun z zn l' hz' hb'=> ?_) (fun l'=> ?_)
      ·unfold Ju IR
       dsimp only
       rw [K6 (H6 hz'),bJ,(Vq s i).2,lB,ht,bN,bJ,hg,lB,fA h,lB,(DK K.toBearK hr z).2,lB,G6 (H6 hz') (by omega)]
       have e:Qh m s (Ee m s acts) i z=Ld m a (GL m s i (acts.getD i 0)) z:=by
         unfold Qh;rw [ht,hg,VS h,bN]
       rw [e]
       cases hh:Ld m a (GL m s i (acts.getD i 0)) z
       ·rfl
       ·obtain ⟨v10,p1,p2⟩:=eZ K S (z:=(z:Int)) hg hr
        rw [hg]at p2
        rw [bR,bK,p1,lB,p2,lB,Z2,bL (by simp;omega)];rfl
      ·unfold Ju
       dsimp only
       rw [J2];rfl
   unfold Nh
   dsimp only
   rw [K6 (H6 h),bJ,pL,lB,(gL K S w i _).2,lB,VR h,lB,VT,e,lB,G6 (H6 h) (by omega)]
  ·unfold Nh
   dsimp only
   rw [J2,VQ];rfl
theorem fE {m:Map}(B:BearK m){r:List Int}(hr:r.length≤1000000){p:Pass}(hp:p∈Pp m r):0≤Hy m r p.Zone_:=by
  unfold Pp at hp
  by_cases q:R7 m r=0
  ·obtain ⟨a,t,rfl,R⟩:=chkRoute_zero.1 q
   obtain ⟨ps,p1,p2,_⟩:=VH B R
   rw [p1]at hp
   obtain ⟨i,lane,j,z,k,pt,h1,h2,h3,h4,rfl⟩:=HG m (a::t) 0 p (p2.mem_iff.1 hp)
   unfold Hy
   dsimp only
   rw [bZ,h2]
   dsimp only
   rw [bL ⟨by omega,q⟩]
   have hz:(Oz z lane).2=true:=by
     unfold Oz
     cases hf:z.Parts.find? (fun p=>p.Lane_==lane)with
     |some _=>rfl
     |none=>
      have:=List.find?_eq_none.1 hf pt (lG h3)
      exact absurd (by simpa using h4) this
   have h5:=BW (fun l=>(Oz z l).2) (a::t)
   rw [show ((a::t).any fun l=>(Oz z l).2)=true from lY.2 ⟨lane,lG h1,hz⟩]at h5
   exact bI h5
  ·have h1:loop (P7 m (Et m r)) ([],0)=some []:=by
     refine D0 ?_
     unfold P7
     rw [Zi q];rfl
   have:Av m r=some []:=by
     unfold Av
     rw [Xn B.toBearM r hr,lB,h1,lB,JX];rfl
   rw [this]at hp
   cases hp
theorem IS {m:Map}(B:BearK m){g g':Agent}(hr:g.Route.length≤1000){z:Int}(h:Ld m g g' z=true):0≤Hy m g.Route z:=by
  unfold Ld at h
  rw [bP]at h
  obtain ⟨p,h1,h2⟩:=lY.1 h.2
  unfold BH at h2
  simp only [bP,bV]at h2
  rw [← h2.1.1]
  exact fE B (by omega) h1
/-! ### Along a lane -/
noncomputable def Ca (m:Map)(r:List Int)(x:Int):Int×Bool:=match r.findIdx? (fun y=>x==y)with
  |some i=>((StartsM m r).getD i 0,true)
  |none=>(0,false)
theorem SR {α β:Type}(P:α→Bool)(f:Nat→β): ∀(l:List α) (k:Nat),I0 (fun i a=>if P a=true then some (f i)else none) k l=match l.findIdx? P with|some i=>some (f (k+i))|none=>none
  | [],_=>rfl
  |a::r,k=>by
   rw [I0,List.findIdx?_cons]
   cases h:P a
   ·rw [bM (by simp)]
    have:=SR P f r (k+1)
    dsimp only
    rw [this]
    cases r.findIdx? P with
    |none=>rfl
    |some i=>simp only [lF];rw [show k+1+i=k+ (i+1) by omega];rfl
   ·rfl
theorem SS {m:Map}{a:Int}{t:List Int}(R:RouteOK m a t){i:Nat}(hi:i< (a::t).length):(StartsM m (a::t))[i]? =some ((StartsM m (a::t)).getD i 0):=by
  rw [List.getD,lH (by rw [R.StartsM,Vo];exact hi)];rfl
theorem aV {m:Map}(B:BearM m){s:State}{sc:WorldScene}{i:Int}{g:Agent}(hm:sc.m=m)(hb:sc.before=s)(hg:B7 s.Agents i=some g)(hr:g.Route.length≤1000){a:Int}{t:List Int}(hR:g.Route=a::t)(R:RouteOK m a t)(x:Int):X2 sc i x=some (Ca m g.Route x):=by
  unfold X2 V0 Ca
  rw [hm,hb,hg,lB,Vn g.Route (fun y=>x==y) (by omega) (fun i y h=>by
   unfold O4
   rw [K6 (H6 h),bJ,C8 h,lB]
   cases x==y<;>rfl) (by unfold O4;rw [J2];rfl),lB]
  unfold MB
  cases hf:g.Route.findIdx? (fun y=>x==y)with
  |none=>rfl
  |some k=>
   have hk:=(List.findIdx?_eq_some_iff_getElem.1 hf).1
   dsimp only
   rw [hR]at hk ⊢
   rw [bG (by omega),bK,VJ B _ (by rw [← hR];omega),lB,C8 (SS R hk)];rfl
theorem VU {m:Map}(B:BearM m){r:List Int}(hr:r.length≤1000){a:Int}{t:List Int}(hR:r=a::t)(R:RouteOK m a t)(x:Int):Rs m r x=some (Ca m r x):=by
  unfold Rs Ca
  rw [DH B _ (by omega),lB,W1 r _ (fun i y=>if (x==y)=true then some ((StartsM m r).getD i 0,true)else none) (fun i y h=>by
   unfold Ot
   rw [K6 (H6 h),bJ,C8 h,lB,BEq.comm (a:=y)]
   cases x==y
   ·rw [bK,G6 (H6 h) (by omega)];rfl
   ·subst hR
    rw [bJ,C8 (SS R (H6 h))];rfl) (by unfold Ot;rw [J2];rfl),SR (fun y=>x==y) (fun i=>((StartsM m r).getD i 0,true))]
  cases r.findIdx? (fun y=>x==y)with
  |none=>rfl
  |some i=>dsimp only [MA,thenS];rw [wF]
/-- Whether the back's front reaches the front's rear on a lane. -/
def pT (L:Int)(f' b' b:Agent)(fs bs:Int):Bool:=((((decide (C3 (f'.S - fs)≥0))&& (decide (C3 (b'.S - bs)≥0)))&& (decide (C3 (C3 (b.S - b.Len) - bs)≤L)))&& (decide (C3 (C3 (f'.S - f'.Len) - fs)≤L)))&& (decide (C3 (b'.S - bs)≥C3 (C3 (f'.S - f'.Len) - fs)))
noncomputable def Py (m:Map)(tick i j:Int)(gi gj gi' gj':Agent)(x:Int):Option Crash:=
  if (Ca m gi.Route x).2=true∧(Ca m gj.Route x).2=true then
   if C3 (gi.S - (Ca m gi.Route x).1)<C3 (gj.S - (Ca m gj.Route x).1)then
    (if pT (Ga m x) gj' gi' gi (Ca m gj.Route x).1 (Ca m gi.Route x).1=true then some ⟨tick,i,j,x, -1,[i]⟩else none)
   else (if pT (Ga m x) gi' gj' gj (Ca m gi.Route x).1 (Ca m gj.Route x).1=true then some ⟨tick,i,j,x, -1,[j]⟩else none)
  else none
theorem aW (a b c:Int):C3 (C3 (a - b) - c)=C3 (C3 (a - c) - b):=by
  unfold C3 IntKind.wrap
  simp only [IntKind.bits,IntKind.signed,bN,bH]
  repeat' first|omega|split
theorem vF {m:Map}(B:BearM m){s v2:State}{acts:List Int}{A:List Agent}{St:List Stay}{x4:List Crash}(hx4:x4.length≤1000000){i j:Int}{gi gj gi' gj':Agent}(hi:B7 s.Agents i=some gi)(hj:B7 s.Agents j=some gj)(hi':B7 A i=some gi')(hj':B7 A j=some gj')(hri:gi.Route.length≤1000)(hrj:gj.Route.length≤1000)
    {a b:Int} {t u:List Int} (hRi:gi.Route=a::t) (hRj:gj.Route=b::u) (Ri:RouteOK m a t) (Rj:RouteOK m b u) {k:Nat} {l:Lane} (h:m.Lanes[k]? =some l):
    De m s acts v2 A St x4 (i,j) (k:Int)=some (match (Py m s.Tick i j gi gj gi' gj' (k:Int)).map fun c=>x4++ [c]with|some e=> .out (.inr e)|none=> .go ((k+1:Nat):Int)):=by
  have hL:=B.lanes
  unfold De Py
  dsimp only
  rw [K6 (H6 h),bJ,aV B rfl rfl hi hri hRi Ri,lB,aV B rfl rfl hj hrj hRj Rj,lB,G6 (H6 h) (by omega),hi,hj]
  cases h1:(Ca m gi.Route (k:Int)).2
  ·rw [bM (by simp)];rfl
  cases h2:(Ca m gj.Route (k:Int)).2
  ·rw [bM (by simp)];rfl
  rw [bL ⟨rfl,rfl⟩]
  simp only [bR,Bool.or_self,bK,lB]
  by_cases q:C3 (gi.S - (Ca m gi.Route (k:Int)).1)<C3 (gj.S - (Ca m gj.Route (k:Int)).1)
  ·rw [bL q,bF q]
   simp only [bJ,lB,hi,hj,hi',hj',Bp,Ad,Qo B]
   show cond (pT _ _ _ _ _ _) _ _=_
   cases pT (Ga m (k:Int)) gj' gi' gi (Ca m gj.Route (k:Int)).1 (Ca m gi.Route (k:Int)).1
   ·rfl
   ·rw [bJ,Z2,bL (by simp;omega)];rfl
  ·rw [bM q,bG q]
   simp only [bK,lB,hi,hj,hi',hj',Bp,Ad,Qo B]
   show cond (pT _ _ _ _ _ _) _ _=_
   cases pT (Ga m (k:Int)) gi' gj' gj (Ca m gi.Route (k:Int)).1 (Ca m gj.Route (k:Int)).1
   ·rfl
   ·rw [bJ,Z2,bL (by simp;omega)];rfl
/-- Two agents in a tick: what is known of them. -/
structure Two (m:Map)(s:State)(A:List Agent)(i j:Int)(gi gj gi' gj':Agent):Prop where
  hi:B7 s.Agents i=some gi
  hj:B7 s.Agents j=some gj
  hi':B7 A i=some gi'
  hj':B7 A j=some gj'
  ti:Aj s i=true
  tj:Aj s j=true
  ri:gi.Route.length≤1000
  rj:gj.Route.length≤1000
  oi: ∃a t,gi.Route=a::t∧RouteOK m a t
  oj: ∃a t,gj.Route=a::t∧RouteOK m a t
theorem KA {α β γ:Type}(g:Nat→α→Option β)(f:β→γ): ∀(l:List α) (k:Nat),I0 (fun i a=>(g i a).map f) k l=(I0 g k l).map f
  | [],_=>rfl
  |a::r,k=>by
   rw [I0,I0]
   cases g k a with
   |none=>exact KA g f r (k+1)
   |some b=>rfl
noncomputable def ML (m:Map)(tick i j:Int)(gi gj gi' gj':Agent):List Crash:=(I0 (fun k (_:Lane)=>Py m tick i j gi gj gi' gj' (k:Int)) 0 m.Lanes).toList
theorem NS (m:Map)(tick i j:Int)(gi gj gi' gj':Agent):(ML m tick i j gi gj gi' gj').length≤1:=by
  unfold ML
  cases I0 (fun k (_:Lane)=>Py m tick i j gi gj gi' gj' (k:Int)) 0 m.Lanes<;>simp
theorem xC {m:Map}(B:BearM m){s v2:State}{acts:List Int}{A:List Agent}{St:List Stay}{x4:List Crash}(hx4:x4.length≤1000000){i j:Int}{gi gj gi' gj':Agent}(T:Two m s A i j gi gj gi' gj'):
    Jj m s acts v2 A St x4 (i,j)=some (x4++ML m s.Tick i j gi gj gi' gj'):=by
  obtain ⟨a,t,hRi,Ri⟩:=T.oi
  obtain ⟨b,u,hRj,Rj⟩:=T.oj
  unfold Jj ML
  rw [W1 m.Lanes _ (fun k (_:Lane)=>(Py m s.Tick i j gi gj gi' gj' (k:Int)).map fun c=>x4++ [c]) (fun k l h=>by rw [vF B hx4 T.hi T.hj T.hi' T.hj' T.ri T.rj hRi hRj Ri Rj h];cases Py m s.Tick i j gi gj gi' gj' (k:Int)<;>rfl) (by unfold De;rw [J2];rfl),KA (fun k (_:Lane)=>Py m s.Tick i j gi gj gi' gj' (k:Int))]
  cases I0 (fun k (_:Lane)=>Py m s.Tick i j gi gj gi' gj' (k:Int)) 0 m.Lanes with
  |none=>simp [MA,thenS]
  |some c=>rfl
theorem aX {β:Type}(L:Int)(a:Bool)(c d:Int→Bool)(e:Bool)(f:Bool→Option β):
    ((cond a (some L) (some default)).bind fun v12=>(cond (a&&c v12) (some L) (some default)).bind fun v13=>f (((a&&c v12)&&d v13)&&e))=f (((a&&c L)&&d L)&&e):=by
  cases a
  ·rfl
  ·simp only [bJ,lB,bN]
   cases c L<;>rfl
theorem pM (L:Int)(f' b' b:Agent)(fs bs:Int):(((((decide (C3 (b'.S - bs)≥0))&& (decide (C3 (f'.S - fs)≥0)))&& (decide (C3 (C3 (b.S - bs) - b.Len)≤L)))&& (decide (C3 (C3 (f'.S - fs) - f'.Len)≤L)))&& (decide (C3 (b'.S - bs)≥C3 (C3 (f'.S - fs) - f'.Len))))=pT L f' b' b fs bs:=by
  unfold pT
  rw [aW b.S bs,aW f'.S fs,Bool.and_comm (decide (C3 (b'.S - bs)≥0))]
theorem vG {m:Map}(B:BearM m){s s':State}{A:List Agent}(hA:s'.Agents=A){i j:Int}{gi gj gi' gj':Agent}(T:Two m s A i j gi gj gi' gj'){k:Nat}{l:Lane}(h:m.Lanes[k]? =some l):
    Ku m s s' i j (k:Int)=some (match (Py m s.Tick i j gi gj gi' gj' (k:Int)).map fun c=> [c]with|some e=> .out (.inr e)|none=> .go ((k+1:Nat):Int)):=by
  have hL:=B.lanes
  obtain ⟨a,t,hRi,Ri⟩:=T.oi
  obtain ⟨b,u,hRj,Rj⟩:=T.oj
  unfold Ku Py
  rw [K6 (H6 h),bJ,T.hi,lB,VU B T.ri hRi Ri,lB,T.hj,lB,VU B T.rj hRj Rj,lB,G6 (H6 h) (by omega),hA]
  cases h1:(Ca m gi.Route (k:Int)).2
  ·rw [bM (by simp)];rfl
  cases h2:(Ca m gj.Route (k:Int)).2
  ·rw [bM (by simp)];rfl
  rw [bL ⟨rfl,rfl⟩]
  simp only [bR,Bool.or_self,bK,lB]
  by_cases q:C3 (gi.S - (Ca m gi.Route (k:Int)).1)<C3 (gj.S - (Ca m gj.Route (k:Int)).1)
  ·rw [bL q,bF q]
   simp only [bJ,lB,T.hi,T.hi',T.hj',Qp B]
   refine (aX (Ga m (k:Int)) _ (fun v=>decide (C3 (C3 (gi.S - (Ca m gi.Route (k:Int)).1) - gi.Len)≤v)) (fun v=>decide (C3 (C3 (gj'.S - (Ca m gj.Route (k:Int)).1) - gj'.Len)≤v)) _ fun b=>(cond b (some (.out (.inr [⟨s.Tick,i,j,(k:Int), -1,[i]⟩]))) (some (.go ((k+1:Nat):Int))):Option (Stp Int (Sum Unit (List Crash))))).trans ?_
   rw [pM]
   cases pT (Ga m (k:Int)) gj' gi' gi (Ca m gj.Route (k:Int)).1 (Ca m gi.Route (k:Int)).1<;>rfl
  ·rw [bM q,bG q]
   simp only [bK,lB,T.hj,T.hi',T.hj',Qp B]
   refine (aX (Ga m (k:Int)) _ (fun v=>decide (C3 (C3 (gj.S - (Ca m gj.Route (k:Int)).1) - gj.Len)≤v)) (fun v=>decide (C3 (C3 (gi'.S - (Ca m gi.Route (k:Int)).1) - gi'.Len)≤v)) _ fun b=>(cond b (some (.out (.inr [⟨s.Tick,i,j,(k:Int), -1,[j]⟩]))) (some (.go ((k+1:Nat):Int))):Option (Stp Int (Sum Unit (List Crash))))).trans ?_
   rw [pM]
   cases pT (Ga m (k:Int)) gi' gj' gj (Ca m gi.Route (k:Int)).1 (Ca m gj.Route (k:Int)).1<;>rfl
theorem jR {m:Map}(B:BearM m){s s':State}{A:List Agent}(hA:s'.Agents=A){i j:Int}{gi gj gi' gj':Agent}(T:Two m s A i j gi gj gi' gj'):Vi m s s' i j=some (ML m s.Tick i j gi gj gi' gj'):=by
  unfold Vi ML
  rw [W1 m.Lanes _ (fun k (_:Lane)=>(Py m s.Tick i j gi gj gi' gj' (k:Int)).map fun c=> [c]) (fun k l h=>by rw [vG B hA T h];cases Py m s.Tick i j gi gj gi' gj' (k:Int)<;>rfl) (by unfold Ku;rw [J2];rfl),KA (fun k (_:Lane)=>Py m s.Tick i j gi gj gi' gj' (k:Int))]
  cases I0 (fun k (_:Lane)=>Py m s.Tick i j gi gj gi' gj' (k:Int)) 0 m.Lanes<;>rfl
/-! ### Across a zone -/
noncomputable def Rb (m:Map)(s:State)(A:List Agent)(i j:Int)(gi gj:Agent)(z:Int):Bool:=(Qh m s A i z&&Qh m s A j z)&& (Ra m gi.Route z !=Ra m gj.Route z)
theorem jS {m:Map}(B:BearK m){s:State}(S:SizeS s){sc:WorldScene}{A:List Agent}(hm:sc.m=m)(hb:sc.before=s)(ha:sc.after.Agents=A)(hl:A.length=s.Agents.length){i j:Int}{gi gj:Agent}(hi:B7 s.Agents i=some gi)(hj:B7 s.Agents j=some gj)(hri:gi.Route.length≤1000)(hrj:gj.Route.length≤1000)(z:Int):
    X1 sc i j z=some (Rb m s A i j gi gj z):=by
  unfold X1 Rb
  rw [GM B S hm hb ha hl,GM B S hm hb ha hl,hm,hb,lB,hi,hj]
  cases Qh m s A i z
  ·rfl
  ·simp only [bJ,lB,bN]
   cases Qh m s A j z
   ·rfl
   ·simp only [bJ,lB,NP B.toBearM (show gi.Route.length≤1000000 by omega),NP B.toBearM (show gj.Route.length≤1000000 by omega)]
/-- Who is to blame. -/
noncomputable def XQ (m:Map)(s:State)(i j z:Int):List Int:=
  if (Pq m s i z).Rank< (Pq m s j z).Rank∨(Pq m s i z).Rank=(Pq m s j z).Rank∧(Pq m s i z).Since>(Pq m s j z).Since then [i]
  else if (Pq m s j z).Rank< (Pq m s i z).Rank∨(Pq m s j z).Since>(Pq m s i z).Since then [j]else [i,j]
noncomputable def ST (m:Map)(s:State)(A:List Agent)(i j:Int)(gi gj:Agent)(z:Nat)(_:Zone):Option Crash:=if Rb m s A i j gi gj z=true then some ⟨s.Tick,i,j, -1,(z:Int),XQ m s i j z⟩else none
noncomputable def MM (m:Map)(s:State)(A:List Agent)(i j:Int)(gi gj:Agent):List Crash:=Hm (ST m s A i j gi gj) 0 m.Zones
theorem SU {m:Map}{s:State}{A:List Agent}{i j:Int}{gi gj:Agent}{z:Int}(h:Rb m s A i j gi gj z=true):Qh m s A i z=true∧Qh m s A j z=true:=by
  unfold Rb at h
  simp only [bP]at h
  exact h.1
theorem aY {m:Map}(B:BearK m){s:State}(S:SizeS s){A:List Agent}{sc:WorldScene}(ha:sc.after.In=Ft m s A){i z:Int}(hz:0≤z∧z<m.Zones.length)(h:Qh m s A i z=true):Z6 sc i z=some (Pq m s i z):=by
  have h2:=B.zones2
  have hl:=NR m s A
  have hlen:(Ft m s A).length≤1000000:=by
    have:=wH S.agents h2
    omega
  obtain ⟨k,h1,h2⟩:=gP hlen (eY m s A) (Stay.mk i z 0 0)
  have hf:=JZ hz h
  unfold Z6
  rw [ha,h1,lB,C8 (h2 _ hf)];rfl
theorem sW {m:Map}(B:BearK m){s s':State}(S:SizeS s){A:List Agent}(hI:s'.In=Ft m s A){i j z:Int}(hz:0≤z∧z<m.Zones.length)(h:Qh m s A i z=true)(h':Qh m s A j z=true):BS s' i j z=some (XQ m s i j z):=by
  have h2:=B.zones2
  have hl:=NR m s A
  have hlen:(Ft m s A).length≤1000000:=by
    have:=wH S.agents h2
    omega
  unfold BS XQ
  rw [hI,SN hlen,SN hlen,JZ hz h,JZ hz h']
  simp only [lB]
  by_cases q:(Pq m s i z).Rank< (Pq m s j z).Rank∨(Pq m s i z).Rank=(Pq m s j z).Rank∧(Pq m s i z).Since>(Pq m s j z).Since
  ·rw [bL q,show (decide ((Pq m s i z).Rank< (Pq m s j z).Rank)||((Pq m s i z).Rank==(Pq m s j z).Rank&&decide ((Pq m s i z).Since>(Pq m s j z).Since)))=true by simpa using q];rfl
  ·rw [bM q,show (decide ((Pq m s i z).Rank< (Pq m s j z).Rank)||((Pq m s i z).Rank==(Pq m s j z).Rank&&decide ((Pq m s i z).Since>(Pq m s j z).Since)))=false by rw [bU];simpa using q,bK]
   by_cases q':(Pq m s j z).Rank< (Pq m s i z).Rank∨(Pq m s j z).Since>(Pq m s i z).Since
   ·rw [bL q',show (decide ((Pq m s j z).Rank< (Pq m s i z).Rank)||decide ((Pq m s j z).Since>(Pq m s i z).Since))=true by simpa using q'];rfl
   ·rw [bM q',show (decide ((Pq m s j z).Rank< (Pq m s i z).Rank)||decide ((Pq m s j z).Since>(Pq m s i z).Since))=false by rw [bU];simpa using q'];rfl
theorem vH (m:Map)(s:State)(i j z:Int):((X3 (Pq m s i z).Rank (Pq m s j z).Rank).bind fun v31=>(Y6 (Pq m s j z).Since (Pq m s i z).Since).bind fun v32=>(Du [v31,v32]).bind fun v33=>(cond (v33==(-1)) (some [i]) (cond (v33==1) (some [j]) (some [i,j]))))=some (XQ m s i j z):=by
  rw [Zg,lB,DF,lB,eV,lB]
  unfold XQ MG
  by_cases a:(Pq m s i z).Rank< (Pq m s j z).Rank
  ·simp [a]
  ·by_cases b:(Pq m s i z).Rank>(Pq m s j z).Rank
   ·have:(Pq m s i z).Rank≠(Pq m s j z).Rank:=by omega
    simp [a,b,this]
   ·have e:(Pq m s i z).Rank=(Pq m s j z).Rank:=by omega
    by_cases c:(Pq m s j z).Since< (Pq m s i z).Since
    ·simp [e,c]
    ·by_cases d:(Pq m s j z).Since>(Pq m s i z).Since
     ·simp [e,c,d]
     ·simp [e,c,d]
theorem jT (m:Map)(s:State)(A:List Agent)(i j:Int)(gi gj:Agent):(MM m s A i j gi gj).length≤m.Zones.length:=HC _ _ _
theorem vI {m:Map}(B:BearK m){s v2:State}(S:SizeS s){acts:List Int}{A:List Agent}(hl:A.length=s.Agents.length){y:List Crash}(hy:y.length≤1000001){i j:Int}{gi gj gi' gj':Agent}(T:Two m s A i j gi gj gi' gj'):
    Hd m s acts v2 A (Ft m s A) (i,j) y=some (y++MM m s A i j gi gj):=by
  have h2:=B.zones2
  have e:loop (Dd m s acts v2 A (Ft m s A) (i,j)) (0,y)=some (y++MM m s A i j gi gj):=by
    refine eX (fun z l=>((z:Int),l)) m.Zones (ST m s A i j gi gj) id y 1000003 rfl (by omega) (fun z zn l hz hb=> ?_) (fun l=> ?_)
    ·unfold Dd ST
     dsimp only
     rw [K6 (H6 hz),bJ,jS B S rfl rfl rfl hl T.hi T.hj T.ri T.rj,lB,G6 (H6 hz) (by omega)]
     cases hc:Rb m s A i j gi gj z
     ·rfl
     ·have hh:=SU hc
      have hzr:(0:Int)≤(z:Int)∧(z:Int)<m.Zones.length:=⟨by omega,by have:=H6 hz;omega⟩
      rw [bR,bK,aY B S rfl hzr hh.1,lB,aY B S rfl hzr hh.2,lB]
      have hw:=vH m s i j z
      rw [Zg,lB,DF,lB,eV,lB]at hw ⊢
      rw [hw,lB,Z2,bL (by simp;omega)];rfl
    ·unfold Dd
     dsimp only
     rw [J2];rfl
  unfold Hd
  rw [e];rfl
noncomputable def GN (m:Map)(s:State)(A:List Agent)(i j:Int)(gi gj:Agent):List Int:=Hm (fun z (_:Zone)=>if Rb m s A i j gi gj z=true then some (z:Int)else none) 0 m.Zones
theorem jU {m:Map}(B:BearK m){s s':State}{A:List Agent}(hA:s'.Agents=A){i j:Int}{gi gj gi' gj':Agent}(T:Two m s A i j gi gj gi' gj'):Vj m s s' i j=some (GN m s A i j gi gj):=by
  have h2:=B.zones2
  have e:loop (Kv m s s' i j) ([],0)=some (GN m s A i j gi gj):=by
    refine eC m.Zones (fun z (_:Zone)=>if Rb m s A i j gi gj z=true then some (z:Int)else none) id (fun z zn l hz hb=> ?_) (fun l=> ?_)
    ·have ec:Rb m s A i j gi gj (z:Int)=((Ld m gi gi' (z:Int)&&Ld m gj gj' (z:Int))&& (Ra m gi.Route (z:Int) !=Ra m gj.Route (z:Int))):=by
       unfold Rb Qh
       rw [T.hi,T.hj,T.hi',T.hj',T.ti,T.tj,bN,bN]
     have hno:Rb m s A i j gi gj (z:Int)=false→(if Rb m s A i j gi gj (z:Int)=true then some (z:Int)else none)=none:=fun h=>bM (by rw [h];simp)
     unfold Kv
     dsimp only
     rw [K6 (H6 hz),bJ,hA,T.hi,lB,T.hj,lB,T.hi',lB,(DK B T.ri z).2,lB,G6 (H6 hz) (by omega),T.hj']
     cases h1:Ld m gi gi' (z:Int)
     ·rw [hno (by rw [ec,h1];rfl)];rfl
     ·simp only [bR,bS,bJ,bK,lB,bT,bN]
      rw [(DK B T.rj z).2,lB]
      cases h3:Ld m gj gj' (z:Int)
      ·rw [hno (by rw [ec,h1,h3];rfl)];rfl
      ·have q1:=IS B T.ri h1
       have q2:=IS B T.rj h3
       obtain ⟨_,_,_,g1,_⟩:=MK q1
       obtain ⟨_,_,_,g2,_⟩:=MK q2
       have g1:=C8 g1
       have g2:=C8 g2
       rw [wA q1]at g1
       rw [wA q2]at g2
       rw [bR,bK,NM B.toBearM _ (by have:=T.ri;omega),lB,g1,lB,NM B.toBearM _ (by have:=T.rj;omega),lB,g2,lB]
       cases e:(Ra m gi.Route (z:Int) !=Ra m gj.Route (z:Int))
       ·rw [hno (by rw [ec,h1,h3,e];rfl)];rfl
       ·rw [bL (show Rb m s A i j gi gj (z:Int)=true by rw [ec,h1,h3,e];rfl),bJ,Z2,bL (by have:=H6 hz;simp;omega)];rfl
    ·unfold Kv
     dsimp only
     rw [J2];rfl
  unfold Vj
  rw [e];rfl
theorem NT {α β γ:Type}(g:Nat→α→Option β)(f:β→γ): ∀(l:List α) (k:Nat),Hm (fun i a=>(g i a).map f) k l=(Hm g k l).map f
  | [],_=>rfl
  |a::r,k=>by
   rw [Hm,Hm]
   cases g k a with
   |none=>exact NT g f r (k+1)
   |some b=>simp only [lF,lQ];rw [NT g f r (k+1)]
theorem VV {α β:Type}(f:α→β): ∀(l:List α) (k:Nat),Hm (fun _ a=>some (f a)) k l=l.map f
  | [],_=>rfl
  |a::r,k=>by rw [Hm,lQ,VV f r (k+1)]
theorem jV (m:Map)(s:State)(A:List Agent)(i j:Int)(gi gj:Agent):MM m s A i j gi gj=(GN m s A i j gi gj).map fun z=>⟨s.Tick,i,j, -1,z,XQ m s i j z⟩:=by
  unfold MM GN
  rw [← NT]
  congr 1
  funext z zn
  unfold ST
  cases Rb m s A i j gi gj z<;>rfl
theorem xD {m:Map}(B:BearK m){s s':State}(S:SizeS s){A:List Agent}(hI:s'.In=Ft m s A){i j:Int}{gi gj:Agent}{x3:List Crash×Int×State}{x4:List Crash×Int}(h3:x3.2=(i,s'))(h4:x4.2=j){y:List Crash}(hy:y.length≤1000001):
    loop (Ng s x3 x4 (GN m s A i j gi gj)) (y,0)=some (y++MM m s A i j gi gj):=by
  have h2:=B.zones2
  have hz2:(GN m s A i j gi gj).length≤2:=wG (HC _ _ _) h2
  rw [jV,← VV (fun z=>(⟨s.Tick,i,j, -1,z,XQ m s i j z⟩:Crash)) (GN m s A i j gi gj) 0]
  refine vB (GN m s A i j gi gj) (fun _ z=>some ⟨s.Tick,i,j, -1,z,XQ m s i j z⟩) id y 1000003 (by omega) (fun k z l h hb=> ?_) (fun l=> ?_)
  ·obtain ⟨zi,zn,hz,hc⟩:=(Kz _ _).1 (lG h)
   rw [wF]at hc
   have hcl:Rb m s A i j gi gj (zi:Int)=true∧(zi:Int)=z:=by
     split at hc
     ·rename_i q;exact ⟨q,lD hc⟩
     ·cases hc
   obtain ⟨hcl,rfl⟩:=hcl
   have hh:=SU hcl
   have hzr:(0:Int)≤(zi:Int)∧(zi:Int)<m.Zones.length:=⟨by omega,by have:=H6 hz;omega⟩
   unfold Ng
   dsimp only
   rw [K6 (H6 h),bJ,C8 h,lB,lB,h3,h4]
   dsimp only
   rw [sW B S hI hzr hh.1 hh.2,lB,Z2,bL (by simp;omega),lB,G6 (H6 h) (by omega)]
  ·unfold Ng
   dsimp only
   rw [J2];rfl
/-- The crashes of two agents. -/
noncomputable def Vr (m:Map)(s:State)(A:List Agent)(i j:Int):List Crash:=match B7 s.Agents i,B7 s.Agents j,B7 A i,B7 A j with
  |some gi,some gj,some gi',some gj'=>ML m s.Tick i j gi gj gi' gj'++MM m s A i j gi gj
  |_,_,_,_=> []
theorem Two.pair {m:Map}{s:State}{A:List Agent}{i j:Int}{gi gj gi' gj':Agent}(T:Two m s A i j gi gj gi' gj'):Vr m s A i j=ML m s.Tick i j gi gj gi' gj'++MM m s A i j gi gj:=by
  unfold Vr
  rw [T.hi,T.hj,T.hi',T.hj']
theorem pN {m:Map}{s:State}(O: ∀g∈s.Agents,∃a t,g.Route=a::t∧RouteOK m a t)(S:SizeS s){A:List Agent}(hA:A.length=s.Agents.length){i j:Int}(hi:Aj s i=true)(hj:Aj s j=true): ∃gi gj gi' gj',Two m s A i j gi gj gi' gj':=by
  obtain ⟨gi,a1,a2,a3,a4,_⟩:=DL hi
  obtain ⟨gj,b1,b2,b3,b4,_⟩:=DL hj
  obtain ⟨gi',c1,_⟩:=Xo (l:=A) a3 (by omega)
  obtain ⟨gj',d1,_⟩:=Xo (l:=A) b3 (by omega)
  have mi:=lG a2
  have mj:=lG b2
  exact ⟨gi,gj,gi',gj',a1,b1,c1,d1,hi,hj,S.routes gi mi,S.routes gj mj,O gi mi,O gj mj⟩
theorem HI {m:Map}(B:BearK m)(s:State)(A:List Agent)(i j:Int):(Vr m s A i j).length≤3:=by
  have h2:=B.zones2
  unfold Vr
  split
  ·rename_i gi gj gi' gj' _ _ _ _
   have h1:=NS m s.Tick i j gi gj gi' gj'
   have h3:=jT m s A i j gi gj
   rw [lL];omega
  ·simp
/-! ### All pairs -/
def HP (s:State)(i:Nat):Nat→Nat→List (Int×Int)
  |0,_=> []
  |k+1,j=>cond (Aj s i&&Aj s j) (((i:Int),(j:Int))::HP s i k (j+1)) (HP s i k (j+1))
def AJ (s:State)(n:Nat):Nat→Nat→List (Int×Int)
  |0,_=> []
  |k+1,i=>HP s i (n - (i+1)) (i+1)++AJ s n k (i+1)
theorem VW (s:State)(i:Nat): ∀k j,AQ s i k j=some (HP s i k j)
  |0,_=>rfl
  |k+1,j=>by rw [AQ,(Vq s i).1,lB,(Vq s j).1,lB,VW s i k (j+1)];rfl
theorem VX (s:State)(n:Nat): ∀k i,CO s n k i=some (AJ s n k i)
  |0,_=>rfl
  |k+1,i=>by rw [CO,VW,lB,VX s n k (i+1)];rfl
theorem jW {s:State}(S:SizeS s):CP s=some (AJ s s.Agents.length s.Agents.length 0):=by
  have:=S.agents
  unfold CP
  rw [bL (by omega),VX]
theorem SV {s:State}{i:Nat}{p:Int×Int}: ∀{k j},p∈HP s i k j→p.1=i∧Aj s i=true∧Aj s p.2=true∧∃j':Nat,p.2=j'∧j≤j'∧j'<j+k
  |0,_,h=>by simp [HP]at h
  |k+1,j,h=>by
   rw [HP]at h
   cases hc:(Aj s i&&Aj s j)
   ·rw [hc,bK]at h
    obtain ⟨h1,h2,h3,j',h4,h5,h6⟩:=SV h
    exact ⟨h1,h2,h3,j',h4,by omega,by omega⟩
   ·rw [hc,bJ]at h
    rw [bP]at hc
    rcases lT.1 h with rfl|h
    ·exact ⟨rfl,hc.1,hc.2,j,rfl,by omega,by omega⟩
    ·obtain ⟨h1,h2,h3,j',h4,h5,h6⟩:=SV h
     exact ⟨h1,h2,h3,j',h4,by omega,by omega⟩
theorem VY {s:State}{n:Nat}{p:Int×Int}: ∀{k i},p∈AJ s n k i→∃a b:Nat,p=((a:Int),(b:Int))∧i≤a∧a<b∧b<n∧Aj s a=true∧Aj s b=true
  |0,_,h=>by simp [AJ]at h
  |k+1,i,h=>by
   rw [AJ]at h
   rcases lS.1 h with h|h
   ·obtain ⟨h1,h2,h3,j',h4,h5,h6⟩:=SV h
    obtain ⟨x,y⟩:=p
    dsimp only at h1 h3 h4
    subst h1 h4
    exact ⟨i,j',rfl,by omega,by omega,by omega,h2,h3⟩
   ·obtain ⟨a,b,h1,h2,h3⟩:=VY h
    exact ⟨a,b,h1,by omega,h3⟩
theorem SW (s:State)(i:Nat): ∀k j,(HP s i k j).length≤k
  |0,_=>by simp [HP]
  |k+1,j=>by
   have:=SW s i k (j+1)
   rw [HP]
   cases Aj s i&&Aj s j
   ·rw [bK];omega
   ·rw [bJ,lK];omega
theorem NU (s:State)(n:Nat): ∀k i,(AJ s n k i).length≤k*n
  |0,_=>by simp [AJ]
  |k+1,i=>by
   have h1:=SW s i (n - (i+1)) (i+1)
   have h2:=NU s n k (i+1)
   rw [AJ,lL,wD,wE];omega
/-- All crashes of a tick. -/
noncomputable def MN (m:Map)(s:State)(A:List Agent):List Crash:=(AJ s s.Agents.length s.Agents.length 0).flatMap fun p=>Vr m s A p.1 p.2
theorem xE {m:Map}(B:BearK m){s v2:State}(S:SizeS s){acts:List Int}{A:List Agent}(hl:A.length=s.Agents.length){x4:List Crash}(hx:x4.length≤1000000){i j:Int}{gi gj gi' gj':Agent}(T:Two m s A i j gi gj gi' gj'):
    Eo m s acts v2 A (Ft m s A) x4 (i,j)=some (.go (x4++Vr m s A i j)):=by
  have h1:=NS m s.Tick i j gi gj gi' gj'
  unfold Eo
  rw [xC B.toBearM hx T,lB,vI B S hl (by rw [lL];omega) T,lB,T.pair,lN]
theorem IT {m:Map}(B:BearK m){s v2:State}(S:SizeS s)(O: ∀g∈s.Agents,∃a t,g.Route=a::t∧RouteOK m a t){acts:List Int}{A:List Agent}(hl:A.length=s.Agents.length): ∀(L:List (Int×Int)) (x:List Crash),(∀p∈L,Aj s p.1=true∧Aj s p.2=true)→x.length+3*L.length≤1000003→
    loopL (Eo m s acts v2 A (Ft m s A)) (fun x4=>x4) L x=some (x++L.flatMap fun p=>Vr m s A p.1 p.2)
  | [],x,_,_=>by simp [loopL]
  |p::L,x,h,hx=>by
   obtain ⟨i,j⟩:=p
   have hp:=h (i,j) (by simp)
   obtain ⟨gi,gj,gi',gj',T⟩:=pN O S hl hp.1 hp.2
   rw [lK]at hx
   have h3:=HI B s A i j
   rw [loopL,xE B S hl (by omega) T]
   dsimp only
   rw [IT B S O hl L _ (fun q hq=>h q (by simp [hq])) (by rw [lL];omega),bD,lN]
theorem xF {m:Map}(B:BearK m){s v2:State}(S:SizeS s)(hn:s.Agents.length≤500)(O: ∀g∈s.Agents,∃a t,g.Route=a::t∧RouteOK m a t){acts:List Int}{A:List Agent}(hl:A.length=s.Agents.length):Jk m s acts v2 A (Ft m s A)=some (MN m s A):=by
  have h1:=NU s s.Agents.length s.Agents.length 0
  have h2:s.Agents.length*s.Agents.length≤500*500:=wH hn hn
  unfold Jk Nd
  rw [lB,jW S,lB,IT B S O hl _ _ (fun p hp=>by
   obtain ⟨a,b,rfl,_,_,_,h3,h4⟩:=VY hp
   exact ⟨h3,h4⟩) (by rw [lM];omega),lB,lP];rfl
/-- The document's rows. -/
theorem pO {m:Map}(B:BearK m){s s':State}(S:SizeS s)(O: ∀g∈s.Agents,∃a t,g.Route=a::t∧RouteOK m a t){A:List Agent}(hA:s'.Agents=A)(hI:s'.In=Ft m s A)(hl:A.length=s.Agents.length)(x0:List Crash)(i:Nat): ∀(k j:Nat) (x:List Crash),j+k=s.Agents.length→x.length+3*k≤1000003→
    loop (Jt m s (x0,(i:Int),s')) (x,(j:Int))=some (x++ (HP s i k j).flatMap fun p=>Vr m s A p.1 p.2)
  |0,j,x,hj,_=>by
   obtain rfl:j=s.Agents.length:=by omega
   rw [D0 (t:=x) (by unfold Jt;dsimp only;rw [J2];rfl)]
   simp [HP]
  |k+1,j,x,hj,hx=>by
   have hjl:j<s.Agents.length:=by omega
   have hn:=S.agents
   have key:Jt m s (x0,(i:Int),s') (x,(j:Int))=some (.go (x++ (if Aj s i=true∧Aj s j=true then Vr m s A i j else []),((j+1:Nat):Int))):=by
     unfold Jt
     dsimp only
     rw [K6 hjl,bJ,(Vq s i).2,lB,G6 hjl (by omega)]
     cases h1:Aj s i
     ·rw [bM (by simp)];simp
     ·simp only [bR,bS,bJ,bT]
      rw [(Vq s j).2,lB]
      cases h2:Aj s j
      ·rw [bM (by simp)];simp
      ·obtain ⟨gi,gj,gi',gj',T⟩:=pN O S hl h1 h2
       have h3:=NS m s.Tick i j gi gj gi' gj'
       rw [bL (by simp),bR,bK,jR B.toBearM hA T,lB,Z2,bL (by omega),lB,jU B hA T,lB,xD B S hI rfl rfl (by rw [lL];omega),lB,T.pair,lN]
   have h3:(if Aj s i=true∧Aj s j=true then Vr m s A i j else []).length≤3:=by
     split
     ·exact HI B s A (i:Int) (j:Int)
     ·simp
   rw [L4 key,pO B S O hA hI hl x0 i k (j+1) _ (by omega) (by rw [lL];omega),HP]
   cases h1:Aj s i
   ·rw [bM (by simp)];simp
   ·cases h2:Aj s j
    ·rw [bM (by simp)];simp
    ·rw [bL ⟨rfl,rfl⟩,Bool.and_self,bJ,bD,lN]
theorem pP {m:Map}(B:BearK m){s s':State}(S:SizeS s)(hn:s.Agents.length≤500)(O: ∀g∈s.Agents,∃a t,g.Route=a::t∧RouteOK m a t){A:List Agent}(hA:s'.Agents=A)(hI:s'.In=Ft m s A)(hl:A.length=s.Agents.length): ∀(k i:Nat) (x:List Crash),i+k=s.Agents.length→x.length+3* (k*s.Agents.length)≤1000000→
    loop (Gj m s) (x,(i:Int),s')=some (x++ (AJ s s.Agents.length k i).flatMap fun p=>Vr m s A p.1 p.2,s')
  |0,i,x,hi,_=>by
   obtain rfl:i=s.Agents.length:=by omega
   rw [D0 (t:=(x,s')) (by unfold Gj;dsimp only;rw [J2];rfl)]
   simp [AJ]
  |k+1,i,x,hi,hx=>by
   have hil:i<s.Agents.length:=by omega
   rw [wD,wE]at hx
   have h1:=SW s i (s.Agents.length - (i+1)) (i+1)
   have h3:((HP s i (s.Agents.length - (i+1)) (i+1)).flatMap fun p=>Vr m s A p.1 p.2).length≤3*s.Agents.length:=by
     have: ∀l:List (Int×Int),(l.flatMap fun p=>Vr m s A p.1 p.2).length≤3*l.length:=by
       intro l
       induction l with
       |nil=>simp
       |cons p l ih=>have:=HI B s A p.1 p.2;rw [bD,lL,lK];omega
     have:=this (HP s i (s.Agents.length - (i+1)) (i+1))
     omega
   have key:Gj m s (x,(i:Int),s')=some (.go (x++ (HP s i (s.Agents.length - (i+1)) (i+1)).flatMap (fun p=>Vr m s A p.1 p.2),((i+1:Nat):Int),s')):=by
     unfold Gj
     dsimp only
     rw [K6 hil,bJ,G6 hil (by omega),pO B S O hA hI hl x i (s.Agents.length - (i+1)) (i+1) x (by omega) (by omega)];rfl
   rw [L4 key,pP B S hn O hA hI hl k (i+1) _ (by omega) (by rw [lL];omega),AJ,List.flatMap_append,lN]
/-- A tick. -/
noncomputable def SX (m:Map)(s:State)(acts:List Int):State×List Crash×Int:=
  if GK m s≠0 then (⟨0,[],[]⟩,[],GK m s)
  else if s.Tick=1099511627776 then (⟨0,[],[]⟩,[],2)
  else (⟨s.Tick+1,Ee m s acts,Ft m s (Ee m s acts)⟩,MN m s (Ee m s acts),0)
theorem sX {m:Map}(K:KitM m){s:State}(S:SizeS s)(w: ∀g∈s.Agents,g.S≤9223372036854775807)(acts:List Int):Mc m s acts=some (SX m s acts)∧Yj m s acts=some (SX m s acts):=by
  obtain ⟨c1,c2⟩:=aR K.toBearM S w
  unfold Mc Yj SX
  rw [c1,c2,lB,lB]
  by_cases q:GK m s=0
  case neg=>
    rw [bL q,show (GK m s !=0)=true by simpa using q];exact ⟨rfl,rfl⟩
  rw [bM (by simp [q]),show (GK m s !=0)=false by simp [q],bK,bK]
  have O:=(NO K).1 q
  have t1:=O.tick
  by_cases t:s.Tick=1099511627776
  ·rw [bL t,bF (by omega),show (s.Tick==1099511627776)=true by simpa using t];exact ⟨rfl,rfl⟩
  rw [bM t,bG (by omega),show (s.Tick==1099511627776)=false by simpa using t,bK,bK]
  have hn:s.Agents.length≤500:=by have:=O.num;omega
  have OR: ∀g∈s.Agents,∃a t,g.Route=a::t∧RouteOK m a t:=fun g hg=>by
    obtain ⟨i,hi⟩:=List.getElem?_of_mem hg
    exact (O.agent i g hi).route
  have hs:=jO O.sorted
  have e1:Ji s=some s:=sM S
  have e2:Up s=some s:=aI S
  have tk:C3 (s.Tick+1)=s.Tick+1:=G9 (by omega)
  have h2:s.Agents.length*s.Agents.length≤500*500:=wH hn hn
  constructor
  ·rw [e1,lB,fB K S w acts rfl,lB,fC K S hs acts (CB m s acts),lB,xF K.toBearK S hn OR (CB m s acts),tk];rfl
  ·have:loop (Gj m s) ([],0,(⟨s.Tick+1,Ee m s acts,Ft m s (Ee m s acts)⟩:State))=_:=pP K.toBearK (s':=⟨s.Tick+1,Ee m s acts,Ft m s (Ee m s acts)⟩) S hn OR rfl rfl (CB m s acts) s.Agents.length 0 [] (by omega) (by rw [lM];omega)
   rw [e2,lB,aU K S w acts,lB]
   dsimp only
   rw [tk,this];rfl
theorem NV (l:List Crash)(hl:l.length≤1000000)(hw: ∀c∈l,c.Who.length≤1000000):Mx l l=some true:=by
  unfold Mx
  rw [show ((l.length:Int) !=(l.length:Int))=false by simp,bK,W1 l _ (fun _ _=>(none:Option Bool)) (fun i a h=>by
   have e:=ME a.Who (hw a (lG h))
   unfold Hh
   rw [K6 (H6 h),C8 h,G6 (H6 h) (by omega)]
   simp [e]) (by unfold Hh;rw [J2];rfl)]
  have: ∀(l:List Crash) (k:Nat),I0 (fun _ _=>(none:Option Bool)) k l=none:=by
    intro l
    induction l with
    |nil=>intro k;rfl
    |cons a r ih=>intro k;rw [I0];exact ih (k+1)
  rw [this];rfl
theorem pQ (m:Map)(s:State)(A:List Agent)(i j:Int): ∀c∈Vr m s A i j,c.Who.length≤2:=by
  intro c hc
  unfold Vr at hc
  split at hc
  ·rename_i gi gj gi' gj' _ _ _ _
   rcases lS.1 hc with h|h
   ·unfold ML at h
    rw [Option.mem_toList]at h
    have: ∀(l:List Lane) (k:Nat),∀c,I0 (fun k (_:Lane)=>Py m s.Tick i j gi gj gi' gj' (k:Int)) k l=some c→c.Who.length≤2:=by
      intro l
      induction l with
      |nil=>intro k c h;cases h
      |cons a r ih=>
       intro k c h
       rw [I0]at h
       split at h
       ·rename_i e he
        cases h
        unfold Py at he
        split at he
        ·split at he
         ·split at he
          ·cases he;simp
          ·cases he
         ·split at he
          ·cases he;simp
          ·cases he
        ·cases he
       ·exact ih (k+1) c h
    exact this _ _ _ h
   ·unfold MM at h
    obtain ⟨z,zn,_,h⟩:=(Kz _ _).1 h
    unfold ST at h
    split at h
    ·cases h
     unfold XQ
     dsimp only
     split
     ·simp
     ·split<;>simp
    ·cases h
  ·cases hc
theorem jX {m:Map}(K:KitM m){s:State}(S:SizeS s)(acts:List Int):SizeS (SX m s acts).1∧(SX m s acts).2.1.length≤1000000∧∀c∈(SX m s acts).2.1,c.Who.length≤1000000:=by
  have h0:SizeS ⟨0,[],[]⟩:=⟨by simp,by simp,by simp⟩
  unfold SX
  split
  ·exact ⟨h0,by simp,by simp⟩
  rename_i q
  split
  ·exact ⟨h0,by simp,by simp⟩
  have O:=(NO K).1 (Decidable.byContradiction q)
  have hn:=O.num
  have hz:=K.zones2
  have h1:=NR m s (Ee m s acts)
  have h2:s.Agents.length*m.Zones.length≤8*2:=wH hn.2 hz
  have h3:=NU s s.Agents.length s.Agents.length 0
  have h4:s.Agents.length*s.Agents.length≤8*8:=wH hn.2 hn.2
  refine ⟨⟨by rw [CB];omega,by dsimp only;omega,fun a ha=> ?_⟩,?_,fun c hc=> ?_⟩
  ·dsimp only at ha
   obtain ⟨i,hi⟩:=List.getElem?_of_mem ha
   have hil:i<s.Agents.length:=by have:=H6 hi;rw [CB]at this;exact this
   have hg:s.Agents[i]? =some s.Agents[i]:=lH hil
   have:=VS (m:=m) (acts:=acts) hg
   rw [C8 hi]at this
   rw [lD this]
   unfold GL
   rw [C8 hg]
   have:=S.routes _ (lG hg)
   dsimp only
   split
   ·exact this
   ·exact this
  ·have: ∀l:List (Int×Int),(l.flatMap fun p=>Vr m s (Ee m s acts) p.1 p.2).length≤3*l.length:=by
     intro l
     induction l with
     |nil=>simp
     |cons p l ih=>have:=HI K.toBearK s (Ee m s acts) p.1 p.2;rw [bD,lL,lK];omega
   have:=this (AJ s s.Agents.length s.Agents.length 0)
   show (MN m s (Ee m s acts)).length≤_
   unfold MN
   omega
  ·obtain ⟨p,_,h⟩:=List.mem_flatMap.1 hc
   have:=pQ m s _ _ _ c h
   omega
theorem DM (n:Int)(s:State)(acts:List Int)(_w0:Cc n)(w1:gK s)(_w2: ∀x∈acts,Cc x):Pk n s acts=some true:=by
  obtain ⟨b,h1,h2⟩:=pG s
  obtain ⟨m,hm,K,_⟩:=sQ n
  unfold Pk
  rw [h1,lB,oR]
  cases b
  ·rfl
  ·have S:=(h2 rfl).size
   cases decide ((acts.length:Int)>12)
   ·obtain ⟨c1,c2⟩:=sX K S (xU w1) acts
    obtain ⟨s1,s2,s3⟩:=jX K S acts
    rw [hm]
    simp only [bR,Bool.or_self,bK,lB,aI S,c1,c2]
    rw [VL s1,NV _ s2 s3,VL S]
    simp
   ·rfl
end Go.Abs.World
