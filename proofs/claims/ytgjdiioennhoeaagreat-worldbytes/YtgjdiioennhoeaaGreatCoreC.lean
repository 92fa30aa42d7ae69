/-
  An abstract layer over the machine, third part: plain functions, typed steps, loops, how arguments are read.
-/
import Derived.Test.YtgjdiioennhoeaaGreatCoreB
import Derived.ProofKit
import Derived.OpenShut
import Derived.ChangeOld
import Derived.Carry
import Derived.Below
import Derived.IntWalk
namespace Go.Abs
open Go
/-! ### Heaps as lists, with what is gone -/
def G:List (D6×Option Blk)→D2
  | [],_=>none
  |(i,v)::l,j=>if j=i then v else G l j
theorem KM (i:D6)(v:Option Blk)(l:List (D6×Option Blk)):G ((i,v)::l)=V1 (G l) i v:=rfl
theorem A2 {k:D6}{b:Option Blk}{l:List (D6×Option Blk)}:G ((k,b)::l) k=b:=bB rfl
theorem B5 {k i:D6}{b r:Option Blk}{l:List (D6×Option Blk)}(h:(k.1==i.1)=false)(hl:G l k=r):G ((i,b)::l) k=r:=by
  have:k≠i:=by rintro rfl;simp at h
  rw [G,bC this];exact hl
theorem W6 {k i:D6}{b r:Option Blk}{l:List (D6×Option Blk)}(h:k.2≠i.2)(hl:G l k=r):G ((i,b)::l) k=r:=by
  have:k≠i:=by rintro rfl;exact h rfl
  rw [G,bC this];exact hl
theorem HM {h:D2}{u:Nat}(hu: ∀k,h k≠none→k.2≠u){k:D6}{b:Blk}(hk:h k=some b):k.2≠u:=hu k (by rw [hk];simp)
section
variable {P:Program}{N:Nat}{rk:Option D6}{s:St}{Q:Ex→St→Prop}
theorem ZP {c:Code}{s0:St}(S:Sb s0 s)(h:AWc P N rk c s0 Q):AWc P N rk c s Q:=by
  intro w I ρ a hs ro hro
  refine (h w I ρ a (S.sim hs) ro hro).mono ?_
  rintro e a' w' ⟨s',I',ρ',hq,hs',htr,hnd⟩
  exact ⟨s',I',ρ',hq,hs',⟨htr.os,htr.tape,htr.output,htr.size,fun b hb hn=>htr.frame b hb (fun ho=>hn (S.own ho)),htr.imm,fun b hb hl=>(htr.immBack b hb hl).imp id S.own,fun b hb hl=>S.own (htr.ownBack b hb hl),htr.rho⟩,hnd⟩
theorem MC {ac:AC}{s0:St}(S:Sb s0 s)(h:AW P N rk ac s0 Q):AW P N rk ac s Q:=fun M c hc=>ZP S (h M c hc)
def ZQ (t:Nat→AV):List (Nat×AV)→Prop
  | []=>True
  |(i,v)::r=>AVle (t i) v∧ZQ t r
def Yj (h:D2):List (D6×Option Blk)→Prop
  | []=>True
  |(k,b)::r=>(match b with|some b0=> ∃b1,h k=some b1∧BlkLe b1 b0|none=>True)∧Yj h r
theorem D0 {l:List (Nat×AV)}{g:List (D6×Option Blk)}{t:Nat→AV}{h:D2}(h1:ZQ t l)(h2:Yj h g):Sb ⟨T l,G g⟩ ⟨t,h⟩:=by
  constructor
  ·intro i
   show AVle (t i) (T l i)
   induction l with
   |nil=>exact .any _
   |cons p r ih=>
    obtain ⟨j,v⟩:=p
    rw [ZJ]
    by_cases e:i=j
    ·subst e;rw [bB rfl];exact h1.1
    ·rw [bC e];exact ih h1.2
  ·intro k b
   show G g k=some b→∃b',h k=some b'∧BlkLe b' b
   induction g with
   |nil=>intro h;cases h
   |cons p r ih=>
    obtain ⟨j,v⟩:=p
    rw [G]
    by_cases e:k=j
    ·subst e;rw [bB rfl];intro hv;subst hv;exact h2.1
    ·rw [bC e];exact ih h2.2
end
/-! ### What is to be done, as a list -/
inductive It where
  |c (a:AC)
  |b (id:Nat)
  |j (M:St→Prop)
def Z9 (P:Program)(N:Nat)(rk:Option D6):List It→(Ex→St→Prop)→Ex→St→Prop
  | [],Q,e,s=>Q e s
  | .c a::r,Q, .nrm,s=>AW P N rk a s (Z9 P N rk r Q)
  | .c _::r,Q,e,s=>Z9 P N rk r Q e s
  | .b id::r,Q, .ext i,s=>if i=id then Z9 P N rk r Q .nrm s else Z9 P N rk r Q (.ext i) s
  | .b _::r,Q,e,s=>Z9 P N rk r Q e s
  | .j M::_,_, .nrm,s=>M s
  | .j _::r,Q,e,s=>Z9 P N rk r Q e s
def Vt (id:Nat):List It→Option (List It)
  | []=>none
  | .b i::r=>if id=i then some r else Vt id r
  |_::r=>Vt id r
section
variable {P:Program}{N:Nat}{rk:Option D6}{s:St}{Q:Ex→St→Prop}{r:List It}
theorem G4: ∀{r:List It},Q .ret s→Z9 P N rk r Q .ret s
  | [],h=>h
  | .c _::r,h=>G4 (r:=r) h
  | .b _::r,h=>G4 (r:=r) h
  | .j _::r,h=>G4 (r:=r) h
theorem C5 {id:Nat}{r':List It}: ∀{r:List It},Vt id r=some r'→Z9 P N rk r' Q .nrm s→Z9 P N rk r Q (.ext id) s
  | [],h,_=>by simp [Vt]at h
  | .c _::r,h,q=>C5 (r:=r) h q
  | .j _::r,h,q=>C5 (r:=r) h q
  | .b i::r,h,q=>by
    simp only [Vt]at h
    simp only [Z9]
    by_cases e:id=i
    ·rw [bB e]at h ⊢;cases h;exact q
    ·rw [bC e]at h ⊢;exact C5 h q
theorem Vu {id:Nat}: ∀{r:List It},Vt id r=none→Q (.ext id) s→Z9 P N rk r Q (.ext id) s
  | [],_,q=>q
  | .c _::r,h,q=>Vu (r:=r) h q
  | .j _::r,h,q=>Vu (r:=r) h q
  | .b i::r,h,q=>by
    simp only [Vt]at h
    simp only [Z9]
    by_cases e:id=i
    ·rw [bB e]at h;cases h
    ·rw [bC e]at h ⊢;exact Vu h q
theorem VR {a:AC}(h:Z9 P N rk [.c a] Q .nrm s):AW P N rk a s Q:=h
theorem B0 (h:Z9 P N rk r Q .nrm s):Z9 P N rk (.c .skip::r) Q .nrm s:=ES h
theorem E5 {id:Nat}(h:Z9 P N rk r Q .nrm s):Z9 P N rk (.b id::r) Q .nrm s:=h
theorem A6 {a b:AC}(h:Z9 P N rk (.c a:: .c b::r) Q .nrm s):Z9 P N rk (.c (.seq a b)::r) Q .nrm s:=by
  refine Jl (AW.mono h ?_)
  intro e s' hs
  cases e<;>exact hs
theorem A7 {a:AC}{id:Nat}(h:Z9 P N rk (.c a:: .b id::r) Q .nrm s):Z9 P N rk (.c (.block id a)::r) Q .nrm s:=by
  refine Zz (AW.mono h ?_)
  intro e s' hs
  cases e<;>exact hs
theorem VS {a:AC}(h:Z9 P N rk (.c a::r) Q .nrm s):Z9 P N rk (.c (.scope a)::r) Q .nrm s:=RK h
theorem B7 (h:Q .ret s):Z9 P N rk (.c .ret::r) Q .nrm s:=KE (G4 h)
theorem Uw {id:Nat}{r':List It}(hp:Vt id r=some r')(h:Z9 P N rk r' Q .nrm s):Z9 P N rk (.c (.exit id)::r) Q .nrm s:=ET (C5 hp h)
theorem D1 {id:Nat}(hp:Vt id r=none)(h:Q (.ext id) s):Z9 P N rk (.c (.exit id)::r) Q .nrm s:=ET (Vu hp h)
theorem KN {o:Opd}{a b:AC}(c:Bool)(hc:ev s.t o= .d (.v (.bool c)))(h1:c=true→Z9 P N rk (.c a::r) Q .nrm s)(h2:c=false→Z9 P N rk (.c b::r) Q .nrm s):Z9 P N rk (.c (.cond o a b)::r) Q .nrm s:=
  Vr hc h1 h2
theorem Ti {o:Opd}{a b:AC}(hc:ev s.t o= .d (.v (.bool true)))(h1:Z9 P N rk (.c a::r) Q .nrm s):Z9 P N rk (.c (.cond o a b)::r) Q .nrm s:=
  EU hc h1
theorem Oh {o:Opd}{a b:AC}(hc:ev s.t o= .d (.v (.bool false)))(h1:Z9 P N rk (.c b::r) Q .nrm s):Z9 P N rk (.c (.cond o a b)::r) Q .nrm s:=
  EU hc h1
theorem B6 {a:AC}{s0:St}(S:Sb s0 s)(h:Z9 P N rk (.c a::r) Q .nrm s0):Z9 P N rk (.c a::r) Q .nrm s:=MC S h
theorem Ag {aops:List AOp}{l:List (Nat×AV)}{g:List (D6×Option Blk)}(h: ∀u,(∀k,G g k≠none→k.2≠u)→K1 P u aops (T l) (G g) fun t h=>Z9 P N rk r Q .nrm ⟨t,h⟩):Z9 P N rk (.c (.reg aops)::r) Q .nrm ⟨T l,G g⟩:=
  My h
theorem Na {aops:List AOp}{l:List (Nat×AV)}{g:List (D6×Option Blk)}(hn:aW aops=true)(h: ∀u,(∀k,G g k≠none→k.2≠u)→K1 P u aops (T l) (G g) fun t h=>Z9 P N rk r Q .nrm ⟨t,h⟩):Z9 P N rk (.c (.draw aops [])::r) Q .nrm ⟨T l,G g⟩:=
  MA hn h
theorem Vv {a:AC}(h:Z9 P N rk (.c a:: .c (.loop a)::r) Q .nrm s):Z9 P N rk (.c (.loop a)::r) Q .nrm s:=fun M c hc=>by
  obtain ⟨x,rfl,h1⟩:=Ah hc
  intro w I ρ act hs ro hro b k cs hb
  obtain ⟨e,a',w',⟨s',I',ρ',hq,hs',htr,hnd⟩,harr⟩:=h M x h1 w I ρ act hs ro hro b (.inLoop x::k) cs hb
  cases e with
  |nrm=>
   obtain ⟨e2,a2,w2,⟨s2,I2,ρ2,q2,hs2,tr2,bY⟩,harr2⟩:=hq M (.loop x) (by simp only [W3,h1,lE]) w' I' ρ' a' hs' ro (hro.mono htr.rho) b k cs hb
   refine ⟨e2,a2,w2,⟨s2,I2,ρ2,q2,hs2,htr.trans tr2,hnd.trans htr.size bY⟩,?_⟩
   -- the loop's head comes again
   have e1:step P (lone (Am b a' (.inLoop x::k)) cs w')= .next (lone (Am b a' (.code x:: .inLoop x::k)) cs w'):=CP
   have e2':step P (lone (Am b a' (.code (.loop x)::k)) cs w')= .next (lone (Am b a' (.code x:: .inLoop x::k)) cs w'):=Vg
   have hst:Steps P (lone (Am b act (.code (.loop x)::k)) cs w) (lone (Am b a' (.code x:: .inLoop x::k)) cs w'):= .head Vg (Steps.trans harr (.one e1))
   have key: ∀{m m1 m2:Machine},step P m= .next m1→m≠m2→Steps P m m2→Steps P m1 m2:=by
     rintro m m1 m2 hm hne ⟨n,hn⟩
     cases n with
     |zero=>simp [runN]at hn;exact absurd hn hne
     |succ n=>rw [runN,hm]at hn;exact ⟨n,hn⟩
   have hne: ∀{a2:Act} {w2:World} {k':List Item},k'≠ .code (.loop x)::k→lone (Am b a' (.code (.loop x)::k)) cs w'≠lone (Am b a2 k') cs w2:=by
     intro a2 w2 k' hk e
     have:(Am b a' (.code (.loop x)::k)).todo=(Am b a2 k').todo:=by
       simp only [lone,Machine.mk.injEq]at e
       simp at e
       rw [e.2]
     exact hk this.symm
   cases e2 with
   |nrm=>exact Steps.trans hst (key e2' (hne (fun e=>by have:=congrArg List.length e;simp at this)) harr2)
   |ext id=>
    obtain ⟨k',h1,h2⟩:=harr2
    exact ⟨k',Steps.trans hst (key e2' (hne (fun e=>by simp at e)) h1),h2⟩
   |ret=>
    obtain ⟨k',h1⟩:=harr2
    exact ⟨k',Steps.trans hst (key e2' (hne (fun e=>by simp at e)) h1)⟩
  |ext id=>
   obtain ⟨k',hs1,he⟩:=harr
   exact ⟨.ext id,a',w',⟨s',I',ρ',hq,hs',htr,hnd⟩,k', .head Vg hs1,by rw [he];rfl⟩
  |ret=>
   obtain ⟨k',hs1⟩:=harr
   exact ⟨.ret,a',w',⟨s',I',ρ',hq,hs',htr,hnd⟩,k', .head Vg hs1⟩
theorem D3 {x:AC}(M:St→Prop)(h1:Z9 P N rk (.c x:: .j M::r) Q .nrm s)(h2: ∀s',M s'→Z9 P N rk r Q .nrm s'):Z9 P N rk (.c x::r) Q .nrm s:=by
  refine AW.mono h1 ?_
  intro e s' hs
  cases e with
  |nrm=>exact h2 s' hs
  |ext id=>exact hs
  |ret=>exact hs
end
end Go.Abs
namespace Go.Abs
open Go
/-! ### Plain functions that the programs are turned into -/
section plain
variable {α σ τ:Type}
/-- An element of a list, by a number of Go. -/
def F2 (xs:List α)(n:Int):Option α:=if 0≤n then xs[n.toNat]? else none
/-- Two lists together, of a bearable length. -/
def Y4 (xs ys:List α):Option (List α):=if xs.length+ys.length≤1000000000 then some (xs++ys)else none
/-- A part of a list. -/
def RW (xs:List α)(i j:Int):Option (List α):=if 0≤i∧i≤j∧j≤xs.length then some ((xs.take j.toNat).drop i.toNat)else none
/-- A list with another element at a place. -/
def Ww (xs:List α)(n:Int)(v:α):List α:=xs.set n.toNat v
def VT (k:IntKind)(a b:Int):Option Int:=if b=0 then none else some (k.wrap (a.tdiv b))
def OL (a b:Int):Option Int:=if b=0 then none else some (a.tmod b)
/-- What comes of a loop's round: the next one, or the loop's end. -/
inductive Stp (σ τ:Type) where
  |go (s:σ)
  |out (t:τ)
def loopN (f:σ→Option (Stp σ τ)):Nat→σ→Option τ
  |0,_=>none
  |n+1,s=>match f s with
   |none=>none
   |some (.go s')=>loopN f n s'
   |some (.out t)=>some t
theorem KO (f:σ→Option (Stp σ τ)): ∀(n:Nat) (s:σ) (t:τ),loopN f n s=some t→loopN f (n+1) s=some t:=by
  intro n
  induction n with
  |zero=>intro s t h;cases h
  |succ n ih=>
   intro s t h
   rw [loopN]at h ⊢
   cases hf:f s with
   |none=>rw [hf]at h;cases h
   |some x=>
    rw [hf]at h
    cases x with
    |go s'=>exact ih s' t h
    |out t'=>exact h
theorem HN (f:σ→Option (Stp σ τ)){n m:Nat}(hn:n≤m){s:σ}{t:τ}(h:loopN f n s=some t):loopN f m s=some t:=by
  induction hn with
  |refl=>exact h
  |step _ ih=>exact KO f _ _ _ ih
/-- How loops are run. -/
class Lp where
  run: ∀{σ τ:Type},(σ→Option (Stp σ τ))→σ→Option τ
open Classical in
/-- The loop: its end, if there is one. -/
noncomputable def RX (f:σ→Option (Stp σ τ))(s:σ):Option τ:=if h: ∃n t,loopN f n s=some t then some h.choose_spec.choose else none
noncomputable instance lpS:Lp:=⟨RX⟩
def loop [Lp](f:σ→Option (Stp σ τ))(s:σ):Option τ:=Lp.run f s
theorem loop_some {f:σ→Option (Stp σ τ)}{s:σ}{t:τ}:loop f s=some t↔∃n,loopN f n s=some t:=by
  show RX f s=_↔_
  unfold RX
  constructor
  ·intro h
   split at h
   ·rename_i hx
    cases h
    exact ⟨hx.choose,hx.choose_spec.choose_spec⟩
   ·cases h
  ·rintro ⟨n,hn⟩
   have hx: ∃n t,loopN f n s=some t:=⟨n,t,hn⟩
   rw [dif_pos hx]
   have h1:=hx.choose_spec.choose_spec
   have h2:=HN f (Nat.le_max_left n hx.choose) hn
   have h3:=HN f (Nat.le_max_right n hx.choose) h1
   rw [h2]at h3
   exact h3.symm
theorem Qk (f:σ→Option (Stp σ τ))(s:σ):loop f s=match f s with
    |none=>none
    |some (.go s')=>loop f s'
    |some (.out t)=>some t:=by
  apply Option.ext
  intro t
  rw [loop_some]
  constructor
  ·rintro ⟨n,hn⟩
   cases n with
   |zero=>cases hn
   |succ n=>
    rw [loopN]at hn
    cases hf:f s with
    |none=>rw [hf]at hn;cases hn
    |some x=>
     rw [hf]at hn
     cases x with
     |go s'=>exact loop_some.2 ⟨n,hn⟩
     |out t'=>exact hn
  ·intro h
   cases hf:f s with
   |none=>rw [hf]at h;cases h
   |some x=>
    rw [hf]at h
    cases x with
    |go s'=>
     obtain ⟨n,hn⟩:=loop_some.1 h
     exact ⟨n+1,by rw [loopN,hf];exact hn⟩
    |out t'=>exact ⟨1,by rw [loopN,hf];exact h⟩
/-- A loop ends, and well: an invariant, a measure, and what holds at the end. -/
theorem RY {f:σ→Option (Stp σ τ)}(I:σ→Prop)(μ:σ→Nat)(Q:τ→Prop)
    (h: ∀s,I s→∃x,f s=some x∧match x with| .go s'=>I s'∧μ s'<μ s| .out t=>Q t): ∀(s:σ),I s→∃t,loop f s=some t∧Q t:=by
  have key: ∀n s,μ s≤n→I s→∃t,loop f s=some t∧Q t:=by
    intro n
    induction n with
    |zero=>
     intro s hn hi
     obtain ⟨x,hx,hq⟩:=h s hi
     cases x with
     |go s'=>exact absurd hq.2 (by omega)
     |out t=>exact ⟨t,by rw [Qk,hx],hq⟩
    |succ n ih=>
     intro s hn hi
     obtain ⟨x,hx,hq⟩:=h s hi
     cases x with
     |go s'=>
      obtain ⟨t,h1,h2⟩:=ih s' (by have:=hq.2;omega) hq.1
      exact ⟨t,by rw [Qk,hx];exact h1,h2⟩
     |out t=>exact ⟨t,by rw [Qk,hx],hq⟩
  exact fun s hi=>key (μ s) s (bK _) hi
/-- A loop over a list's elements. -/
def loopL (f:σ→α→Option (Stp σ τ))(e:σ→τ):List α→σ→Option τ
  | [],s=>some (e s)
  |a::l,s=>match f s a with
   |none=>none
   |some (.go s')=>loopL f e l s'
   |some (.out t)=>some t
/-- What comes behind an end: the rest, or a return. -/
def thenS {β γ:Type}(x:Option (Sum σ β))(f:σ→Option γ)(g:β→Option γ):Option γ:=match x with
  |some (.inl s)=>f s
  |some (.inr b)=>g b
  |none=>none
theorem KP {β γ:Type}{x:Option (Sum σ β)}{f:σ→Option γ}{g:β→Option γ}{r:γ}(h:thenS x f g=some r): ∃y,x=some y∧Sum.elim f g y=some r:=by
  cases x with
  |none=>cases h
  |some y=>cases y<;>exact ⟨_,rfl,h⟩
theorem D8 {b:Bool}{x y z:α}(hb:b=true)(h:cond b x y=z):x=z:=by subst hb;exact h
theorem ZR {b:Bool}{x y z:α}(hb:b=false)(h:cond b x y=z):y=z:=by subst hb;exact h
theorem Nb {β:Type}{f:α→β}{xs:List α}{n:Int}{v:α}(h:F2 xs n=some v):0≤n∧n.toNat<xs.length∧(xs.map f)[n.toNat]? =some (f v):=by
  unfold F2 at h
  split at h
  ·rename_i hn
   refine ⟨hn,(lH.1 h).1,by rw [lI,h];rfl⟩
  ·cases h
theorem Cu {xs ys zs:List α}(h:Y4 xs ys=some zs):xs.length+ys.length≤1000000000∧zs=xs++ys:=by
  unfold Y4 at h
  split at h
  ·cases h;exact ⟨‹_›,rfl⟩
  ·cases h
theorem OM {xs zs:List α}{i j:Int}(h:RW xs i j=some zs):0≤i∧i≤j∧j≤xs.length∧zs=(xs.take j.toNat).drop i.toNat:=by
  unfold RW at h
  split at h
  ·cases h;rename_i hc;exact ⟨hc.1,hc.2.1,hc.2.2,rfl⟩
  ·cases h
theorem ON {k:IntKind}{a b c:Int}(h:VT k a b=some c):b≠0∧c=k.wrap (a.tdiv b):=by
  unfold VT at h
  split at h
  ·cases h
  ·cases h;exact ⟨‹_›,rfl⟩
theorem OO {a b c:Int}(h:OL a b=some c):b≠0∧c=a.tmod b:=by
  unfold OL at h
  split at h
  ·cases h
  ·cases h;exact ⟨‹_›,rfl⟩
end plain
/-- A slice of the run's own, or nil: by what it holds. -/
def oS {α:Type}(xs:List α)(k:D6):AV:=match xs with
  | []=> .d .nilS
  |_=> .sl k
def oB {α:Type}(ty:TypeId)(sz:Nat)(f:α→List D)(xs:List α):Option Blk:=match xs with
  | []=>none
  |_=>some (.arr ty sz (xs.map f))
/-- The value of a guarded operation. -/
def gd (c b:Bool)(v:AV):AV:=if c=b then v else .d (.tup [])
theorem RZ {c b:Bool}{v:AV}(h: ¬c=b):gd c b v= .d (.tup []):=bC h
theorem A5 {c b:Bool}{v:AV}(h:c=b):gd c b v=v:=bB h
section
variable {P:Program}{u:Nat}{r:List AOp}{l:List (Nat×AV)}{g:List (D6×Option Blk)}{K:(Nat→AV)→D2→Prop}
theorem A1 (hk:K (T l) (G g)):K1 P u [] (T l) (G g) K:=X9 hk
theorem C2 {d:Nat}{k:AK}(v:AV)(h0:U1 k=0)(hv:G7 (T l) (G g) k=some v)(hk:K1 P u r (T ((d,v)::l)) (G g) K):K1 P u (⟨some d,k,none⟩::r) (T l) (G g) K:=E2 v h0 hv hk
theorem DF {d:Nat}{k:AK}(v:AV)(b:Blk)(h0:Mw k=true)(hv:Kj u d (T l) k=some (v,b))(hk:K1 P u r (T ((d,v)::l)) (G (((d,u),some b)::g)) K):K1 P u (⟨some d,k,none⟩::r) (T l) (G g) K:=KI v b h0 hv hk
theorem Fu {n:Nat}{p x:Opd}(k:D6)(off:Nat)(ty:TypeId)(bs cs:List AV)(hx:Gm (ev (T l) x)=some cs)(hn:cs.length=n)(hp:ev (T l) p= .ptr k off)(hb:G g k=some (.box ty bs))(hl:off+n≤bs.length)(bs':List AV)(he:Gn bs off cs=bs')
    (hk:K1 P u r (T l) (G ((k,some (.box ty bs'))::g)) K):K1 P u (⟨none, .store n p x,none⟩::r) (T l) (G g) K:=
  HJ k off ty bs cs hx hn hp hb hl (by rw [he];exact hk)
theorem Vw: ∀xs:List D,Fa (xs.map .d)=some xs
  | []=>rfl
  |x::r=>by simp [Fa,Vw r]
/-- A store into an element. -/
theorem Sa {α:Type}{n off sz:Nat}{p x:Opd}(f:α→List D)(q:D6)(ty:TypeId)(xs:List α)(i:Int)(a b:α)(ds:List D)(hx:Gm (ev (T l) x)=some (ds.map .d))(hn:ds.length=n)(hp:ev (T l) p= .aptr q sz i.toNat off)(hb:G g q=some (.arr ty sz (xs.map f)))(ha:F2 xs i=some a)
    (hl:off+n≤(f a).length) (he:Gn (f a) off ds=f b) (hk:K1 P u r (T l) (G ((q,some (.arr ty sz ((Ww xs i b).map f)))::g)) K):K1 P u (⟨none, .store n p x,none⟩::r) (T l) (G g) K:=by
  refine OJ q sz i.toNat off ty (xs.map f) (f a) (ds.map .d) ds hx (by simpa using hn) hp hb (Nb ha).2.2 (Vw ds) hl ?_
  rw [he]
  have:(xs.map f).set i.toNat (f b)=(Ww xs i b).map f:=by rw [Ww,List.map_set]
  rw [this]
  exact hk
theorem Sc {α:Type}{d e sz:Nat}{ty:TypeId}{x y:Opd}(f:α→List D)(k:D6)(xs ys zs:List α)(hy:W4 (G g) sz (ev (T l) y)=some (ys.map f))(hx:ev (T l) x= .sl k)(hb:G g k=some (.arr e sz (xs.map f)))(hl:Y4 xs ys=some zs)
    (hk:K1 P u r (T ((d, .sl (d,u))::l)) (G (((d,u),some (.arr e sz (zs.map f)))::(k,none)::g)) K):K1 P u (⟨some d, .append ty e sz x y,none⟩::r) (T l) (G g) K:=by
  obtain ⟨h1,rfl⟩:=Cu hl
  refine OK k (xs.map f) (ys.map f) hy hx hb (by simpa using h1) ?_
  rw [← List.map_append]
  exact hk
theorem MD {α:Type}{ty:TypeId}{sz:Nat}{f:α→List D}{xs:List α}(h:xs≠ []):oB ty sz f xs=some (.arr ty sz (xs.map f)):=by cases xs<;>first|exact absurd rfl h|rfl
theorem Ap {α:Type}{k:D6}{xs:List α}(h:xs≠ []):oS xs k= .sl k:=by cases xs<;>first|exact absurd rfl h|rfl
theorem S7 {α:Type}{xs zs:List α}{y:α}{ys:List α}(h:Y4 xs (y::ys)=some zs):zs≠ []:=by
  obtain ⟨_,rfl⟩:=Cu h;simp
/-- One or more elements behind a slice of the run's own, or behind nil. -/
theorem P1 {α:Type}{d e sz:Nat}{ty:TypeId}{x y:Opd}(f:α→List D)(k:D6)(xs:List α)(v:α)(ys zs:List α)(hy:W4 (G g) sz (ev (T l) y)=some ((v::ys).map f))(hx:ev (T l) x=oS xs k)(hb:G g k=oB e sz f xs)(hl:Y4 xs (v::ys)=some zs)
    (hk:K1 P u r (T ((d, .sl (d,u))::l)) (G (((d,u),some (.arr e sz (zs.map f)))::(k,none)::g)) K):K1 P u (⟨some d, .append ty e sz x y,none⟩::r) (T l) (G g) K:=by
  cases xs with
  |nil=>
   obtain ⟨h1,rfl⟩:=Cu hl
   refine KL (f v) (ys.map f) hy hx (by simpa using h1) ?_
   have:V1 (G g) (d,u) (some (.arr e sz (f v::ys.map f)))=G (((d,u),some (.arr e sz (([]++v::ys).map f)))::(k,none)::g):=by
     rw [KM,KM,lO,lP]
     have:V1 (G g) k none=G g:=by
       funext q
       simp only [V1]
       split
       ·rename_i e;subst e;rw [hb];rfl
       ·rfl
     rw [this]
   rw [this]
   exact hk
  |cons x0 xs=>exact Sc f k (x0::xs) (v::ys) zs hy hx hb hl hk
end
end Go.Abs
namespace Go.Abs
open Go
section
variable {P:Program}{N:Nat}{rk:Option D6}{s:St}{Q:Ex→St→Prop}{r:List It}
theorem D7 {σ τ γ:Type}{a:AC}(f:σ→Option (Stp σ τ))(st:σ→γ→St)(x0:σ)(g0:γ)(y:τ)(hx:loop f x0=some y)(hs0:Sb (st x0 g0) s)
    (h: ∀x g z,f x=some z→(∀t,z= .out t→t=y)→Z9 P N rk [.c a] (fun e s'=>match z with| .go x'=>e= .nrm∧∃g',Sb (st x' g') s'| .out _=>e≠ .nrm∧Z9 P N rk r Q e s') .nrm (st x g)):
    Z9 P N rk (.c (.loop a)::r) Q .nrm s:=by
  obtain ⟨n,hn⟩:=loop_some.1 hx
  refine LZ (fun n s=> ∃x g,loopN f n x=some y∧Sb (st x g) s) n ⟨x0,g0,hn,hs0⟩ ?_
  rintro n s1 ⟨x,g,hl,hsb⟩
  refine MC hsb ?_
  cases n with
  |zero=>cases hl
  |succ n=>
   rw [loopN]at hl
   cases hf:f x with
   |none=>rw [hf]at hl;cases hl
   |some z=>
    rw [hf]at hl
    refine AW.mono (h x g z hf (fun t ht=>by subst ht;cases hl;rfl)) ?_
    intro e s2 hq
    cases z with
    |go x'=>
     obtain ⟨rfl,g',hs'⟩:=hq
     exact ⟨n,by omega,x',g',hl,hs'⟩
    |out t=>
     obtain ⟨hne,hq⟩:=hq
     cases e with
     |nrm=>exact absurd rfl hne
     |ext id=>exact hq
     |ret=>exact hq
/-- A function over which a loop ranges: it hands on the elements, one after the other. -/
def SA (P:Program)(c:D)(L:List (List D)):Prop:= ∃gf fs cs,c= .fn (.func gf) fs cs∧∀(k:D6) (h0:D2) (Inv:Nat→D2→Prop) (Stop:D2→Prop),Inv 0 h0→
  (∀i h es,L[i]? =some es→Inv i h→YCall P k (es.map .d) h fun v h'=>(v= .d (.v (.bool true))∧Inv (i+1) h')∨(v= .d (.v (.bool false))∧Stop h'))→
   ICall P gf (fs.map .d++ [.yld k]++cs.map .d) h0 fun _ h'=>Inv L.length h'∨Stop h'
theorem AG {σ τ α:Type}{f:σ→α→Option (Stp σ τ)}{e:σ→τ}{L:List α}{i:Nat}{x:σ}{y:τ}{a:α}(hi:L[i]? =some a)(h:loopL f e (L.drop i) x=some y):
    ∃z,f x a=some z∧match z with| .go x'=>loopL f e (L.drop (i+1)) x'=some y| .out t=>t=y:=by
  have hlt:=(lH.1 hi).1
  rw [List.drop_eq_getElem_cons hlt,loopL]at h
  have ha:L[i]=a:=by rw [lG hlt]at hi;exact lC hi
  rw [ha]at h
  cases hf:f x a with
  |none=>rw [hf]at h;cases h
  |some z=>
   rw [hf]at h
   refine ⟨z,rfl,?_⟩
   cases z with
   |go x'=>exact h
   |out t=>exact lC h
/-- What a round of a loop over a function leaves. -/
def SB (P:Program)(N:Nat)(rk:Option D6)(r:List It)(Q:Ex→St→Prop)(tl:Nat→AV)(k:D6)(r0:Loop){σ τ γ:Type}(st:σ→γ→List (D6×Option Blk))(z:Stp σ τ)(e:Ex)(s:St):Prop:=
  s.h k=some (.obj tl {r0 with state:= .busy})∧match z with
    | .go x'=>e= .nrm∧∃g',Sb ⟨T [],G (st x' g')⟩ ⟨T [],s.h⟩
    | .out _=>e≠ .nrm∧Z9 P N rk r Q e ⟨tl,V1 s.h k none⟩
theorem SC {σ τ α γ:Type}{f:Opd}{ps:List Nat}{as bd:AC}{tl:List (Nat×AV)}{g0:List (D6×Option Blk)}(c:D)(enc:α→List D)(L:List α)(F:σ→α→Option (Stp σ τ))(E:σ→τ)(st:σ→γ→List (D6×Option Blk))(x0:σ)(gg0:γ)(y:τ)
    (hf:ev (T tl) f= .d c) (hI:SA P c (L.map enc)) (hps: ∀a,(enc a).length=ps.length) (hx:loopL F E L x0=some y) (hs0:Sb ⟨T [],G (st x0 gg0)⟩ ⟨T [],G g0⟩) (hrk: ∀kk,rk=some kk→∃t r,G g0 kk=some (.obj t r))
    (hround: ∀u,(∀q,G g0 q≠none→q.2≠u)→rk≠some (1000000,u)→(∀x gg,G (st x gg) (1000000,u)=none)∧
      ∀r0 x gg a z,r0.state= .ready→F x a=some z→(∀t,z= .out t→t=y)→
       Z9 P N (some (1000000,u)) [.c as, .j (fun s1=>s1.h (1000000,u)=some (.obj (T tl) r0)∧
        Z9 P N (some (1000000,u)) [.c bd] (SB P N rk r Q (T tl) (1000000,u) r0 st z) .nrm ⟨s1.t,V1 s1.h (1000000,u) (some (.obj (T tl) {r0 with state:= .busy}))⟩)] (fun _ _=>False) .nrm
        ⟨Ot (T tl) ps ((enc a).map .d),G ((((1000000,u),some (.obj (T tl) r0)):D6×Option Blk)::st x gg)⟩)
    (hend: ∀x gg s',y=E x→Sb ⟨T tl,G (st x gg)⟩ s'→Z9 P N rk r Q .nrm s'):Z9 P N rk (.c (.rangeF f ps as bd)::r) Q .nrm ⟨T tl,G g0⟩:=by
  obtain ⟨gf,fs,cs,rfl,hI⟩:=hI
  refine DE (gf:=gf) (fs:=fs.map .d) (cs:=cs.map .d) (by show OI (ev (T tl) f)=_;rw [hf];rfl) hrk ?_
  intro u r0 M hu hkn hrkne hst hpd hpar hsize hpsN has hbd
  obtain ⟨hkst,hr⟩:=hround u hu hrkne
  have hkn:G g0 (1000000,u)=none:=hkn
  refine ICall.mono ?_ (hI (1000000,u) (V1 (G g0) (1000000,u) (some (.obj (T tl) r0)))
    (fun i h=> ∃x gg,loopL F E (L.drop i) x=some y∧h (1000000,u)=some (.obj (T tl) r0)∧Sb ⟨T [],G (st x gg)⟩ ⟨T [],h⟩)
    (RR (1000000,u) (T tl) (Z9 P N rk r Q)) ?_ ?_)
  ·rintro v h' (⟨x,gg,h1,h2,h3⟩|h)
   ·rw [show (L.map enc).length=L.length from lQ ..,List.drop_length,loopL]at h1
    refine ⟨T tl,r0,h2,by rw [hst];simp,?_⟩
    rw [hpd]
    refine hend x gg _ (lC h1).symm ⟨fun i=> .refl _,fun q b0 hb=> ?_⟩
    obtain ⟨b,e1,e2⟩:=h3.h q b0 hb
    refine ⟨b,?_,e2⟩
    have:q≠(1000000,u):=by rintro rfl;exact absurd ((hkst _ _).symm.trans hb) (by simp)
    show V1 h' _ none q=some b
    rw [J3 _ _ _ _ this];exact e1
   ·exact h
  ·refine ⟨x0,gg0,by rw [List.drop_zero];exact hx,D9 _ _ _,fun i=> .refl _,fun q b0 hb=> ?_⟩
   obtain ⟨b,e1,e2⟩:=hs0.h q b0 hb
   refine ⟨b,?_,e2⟩
   have:q≠(1000000,u):=by rintro rfl;exact absurd ((hkst _ _).symm.trans hb) (by simp)
   show V1 (G g0) _ _ q=some b
   rw [J3 _ _ _ _ this];exact e1
  ·rintro i h es hes ⟨x,gg,h1,h2,h3⟩
   obtain ⟨a,ha,rfl⟩:=Vs hes
   obtain ⟨z,hz,hz2⟩:=AG ha h1
   have hround:=hr r0 x gg a z hst hz (fun t ht=>by subst ht;exact hz2)
   have hsb:Sb ⟨Ot (T tl) ps ((enc a).map .d),G ((((1000000,u),some (.obj (T tl) r0)):D6×Option Blk)::st x gg)⟩ ⟨Ot (T tl) ps ((enc a).map .d),h⟩:=by
     refine ⟨fun i=> .refl _,fun q b0 hb=> ?_⟩
     by_cases e:q=(1000000,u)
     ·subst e
      have hb:=Eq.trans (Eq.symm A2) hb
      cases hb
      exact ⟨_,h2, .refl _⟩
     ·have hb:G (((1000000,u),some (.obj (T tl) r0))::st x gg) q=some b0:=hb
      rw [G,bC e]at hb
      exact h3.h q b0 hb
   refine HH (M:=M) (as:=as) (bd:=bd) h2 (by rw [lQ,hps a,← hpar];simp) hsize (by rw [hpar];exact hpsN) has hbd ?_
   rw [hpar]
   have hround:=MC hsb hround
   refine AW.mono hround ?_
   intro e s1 hs1
   cases e with
   |ext id=>exact absurd hs1 (by simp [Z9])
   |ret=>exact absurd hs1 (by simp [Z9])
   |nrm=>
    obtain ⟨q1,q2⟩:=hs1
    refine ⟨rfl,T tl,r0,q1,hst,?_⟩
    refine AW.mono q2 ?_
    rintro e s2 ⟨w1,w2⟩
    refine ⟨T tl,_,w1,?_⟩
    cases z with
    |go x'=>
     obtain ⟨rfl,g',hg'⟩:=w2
     refine .inl ⟨rfl,x',g',hz2,?_,fun i=> .refl _,fun q b0 hb=> ?_⟩
     ·show V1 s2.h _ _ _=_
      rw [D9]
      have:({state:= .ready,pending:=none,fn:=r0.fn,tmps:=r0.tmps,params:=r0.params,assign:=r0.assign,body:=r0.body,defers:=r0.defers}:Loop)=r0:=by
        cases r0
        simp only at hst hpd
        subst hst hpd
        rfl
      exact congrArg (fun r=>some (Blk.obj (T tl) r)) this
     ·obtain ⟨b,e1,e2⟩:=hg'.h q b0 hb
      refine ⟨b,?_,e2⟩
      have:q≠(1000000,u):=by rintro rfl;exact absurd ((hkst _ _).symm.trans hb) (by simp)
      show V1 s2.h _ _ q=some b
      rw [J3 _ _ _ _ this];exact e1
    |out t=>
     obtain ⟨hne,hq⟩:=w2
     cases e with
     |nrm=>exact absurd rfl hne
     |ext id=>
      refine .inr ⟨rfl,T tl,_,D9 _ _ _,by simp,?_⟩
      dsimp only
      rw [Ys];exact hq
     |ret=>
      refine .inr ⟨rfl,T tl,_,D9 _ _ _,by simp,?_⟩
      dsimp only
      rw [Ys];exact hq
end
end Go.Abs
namespace Go.Abs
open Go
abbrev i64 (n:Int):D:= .v (.int .i64 n)
abbrev J6 (n:Int):Int:=IntKind.i64.wrap n
abbrev bo (b:Bool):D:= .v (.bool b)
abbrev Al (s:ByteArray):D:= .v (.string s)
/-- A value with a name of its own. -/
def eK {α β:Type}(a:α)(f:α→β):β:=f a
theorem PCall.le {P:Program}{f:FuncId}{ds ds':List D}{r:D}(h:PCall P f ds' r)(hd:All2 DLe ds ds'):PCall P f ds r:=
  ⟨h.1,fun w I vs hI hl hr=>h.2 w I vs hI (by rw [← hd.length];exact hl) fun i d hi=>by obtain ⟨a,e1,e2⟩:=hd.get hi;exact e2 _ _ _ (hr i a e1)⟩
/-- An empty slice, whatever it is. -/
theorem PCall.nil {P:Program}{f:FuncId}{r:D}(h: ∀A cap,PCall P f [.v (.slice A 0 cap)] r):PCall P f [.list []] r:=
  ⟨(h none 0).1,fun w I vs hI hl hr=>by
    match vs,hl with
    | [v],_=>
      have h0:RepD w I (.list []) v:=hr 0 _ rfl
      cases h0 with
      |lnil A cap=>exact (h A cap).2 w I [_] hI rfl (fun i d hi=>by
         cases i with
         |zero=>cases hi;exact .v _
         |succ i=>simp at hi)
      |list _ _ _ _ _ hne=>exact absurd rfl hne⟩
section
variable {P:Program}{N:Nat}{rk:Option D6}{s:St}{Q:Ex→St→Prop}{r:List It}
theorem U6 {M:St→Prop}(h:M s):Z9 P N rk (.j M::r) Q .nrm s:=h
theorem E0 (h:Q .nrm s):Z9 P N rk [] Q .nrm s:=h
theorem C7 {f:FuncId}{rs:List RV}{ac:AC}(F:FnOK P f N rs ac){args:List D}{d:D}(hl:args.length≤N)
    (h:Z9 P N none [.c ac] (fun e s=>(e= .nrm∨e= .ret)∧∃d',Vq s.t s.h rs=some d'∧DLe d' d) .nrm ⟨T (KH 0 args),G []⟩):PCall P f args d:=by
  refine ⟨F.enters,?_⟩
  obtain ⟨fn,c,hf,hb,hN,hrs,⟨M,hc⟩,hn⟩:=F.ex
  intro w I vs hI hlen hrep
  have H0:HeapOK w I (fun _=>none) (fun _=>none):=⟨fun k b hb=>(by cases hb),fun k k' b b' g h1=>(by cases h1),fun k b g h1=>(by cases h1),fun k b g h1=>(by cases h1),hI,⟨0,fun _ _ _=>rfl⟩,fun k y hy=>(by cases hy)⟩
  have hsim:=Rw (n:=N) (args:=args.map .d) (h:=fun _=>none) H0 (by simpa using hlen) (by omega) (fun i c hc=>by
    rw [lI]at hc
    cases hq:args[i]? with
    |none=>rw [hq]at hc;cases hc
    |some q=>rw [hq]at hc;cases hc;exact .d _ _ (hrep i q hq))
  have e:EW (args.map .d)=OF args:=by
    funext i
    simp only [EW,OF,List.getD,lI]
    cases args[i]? <;>rfl
  rw [e,VP,← hN]at hsim
  have e0:(fun _=>none:D2)=G []:=by funext q;rfl
  rw [e0]at hsim
  refine Kn (Q:=fun e s=>(e= .nrm∨e= .ret)∧∃d',Vq s.t s.h rs=some d'∧DLe d' d) hf hb rfl hsim (by rw [hN];exact h M c hc) ?_
  rintro e s' a' w' I' ρ' ⟨he,d',hres,hle⟩ hs' tr
  have hownI: ∀b,own ρ' s'.h b→¬b<w.heap.size:=fun b hb hlt=>by
    obtain ⟨k,x,h1,_⟩:=tr.ownBack b hb hlt
    cases h1
  have hptr:PTr w I w' (fun b=>I' b∨own ρ' s'.h b):=by
    refine ⟨tr.os,tr.tape,tr.output,tr.size,fun b hb=>tr.frame b hb (fun ⟨k,x,h1,_⟩=>by cases h1),fun b hb=> .inl (tr.imm b hb),fun b hb hlt=> ?_,fun b hb=> ?_⟩
    ·rcases hb with hb|hb
     ·rcases tr.immBack b hb hlt with h|⟨k,x,h1,_⟩
      ·exact h
      ·cases h1
     ·exact absurd hlt (hownI b hb)
    ·rcases hb with hb|hb
     ·exact hs'.heap.ilt b hb
     ·exact hs'.heap.own_lt hb
  obtain ⟨x,hx,hr⟩:=HF hs' hrs hres
  exact ⟨he,x,hx,x,_,rfl,hle _ _ _ hr,hptr⟩
theorem A9 {t:Nat→AV}{h:D2}{rs:List RV}{d d':D}{e:Ex}(he:e= .nrm∨e= .ret)(h1:Vq t h rs=some d')(h2:DLe d' d):(e= .nrm∨e= .ret)∧∃d',Vq (⟨t,h⟩:St).t (⟨t,h⟩:St).h rs=some d'∧DLe d' d:=⟨he,d',h1,h2⟩
theorem KQ {tl:Nat→AV}{k:D6}{r0:Loop}{bd:AC}{l:List (Nat×AV)}{g:List (D6×Option Blk)}{Q':Ex→St→Prop}(h1:G g k=some (.obj tl r0))(h2:Z9 P N (some k) [.c bd] Q' .nrm ⟨T l,G ((k,some (.obj tl {r0 with state:= .busy}))::g)⟩):
    (⟨T l,G g⟩:St).h k=some (.obj tl r0)∧Z9 P N (some k) [.c bd] Q' .nrm ⟨(⟨T l,G g⟩:St).t,V1 (⟨T l,G g⟩:St).h k (some (.obj tl {r0 with state:= .busy}))⟩:=⟨h1,h2⟩
theorem SD {σ τ γ:Type}{tl:Nat→AV}{k:D6}{r0:Loop}{st:σ→γ→List (D6×Option Blk)}{x:σ}{g:List (D6×Option Blk)}{t:Nat→AV}(h1:G g k=some (.obj tl {r0 with state:= .busy}))(g':γ)(h2:Yj (G g) (st x g')):SB P N rk r Q tl k r0 st (.go x:Stp σ τ) .nrm ⟨t,G g⟩:=
  ⟨h1,rfl,g',D0 trivial h2⟩
theorem VU {σ τ γ:Type}{tl:Nat→AV}{k:D6}{r0:Loop}{st:σ→γ→List (D6×Option Blk)}{x:σ}{g:List (D6×Option Blk)}{t:Nat→AV}{s':St}(hv:Sb ⟨t,G g⟩ s')(h1:G g k=some (.obj tl {r0 with state:= .busy}))(g':γ)(h2:Yj (G g) (st x g')):SB P N rk r Q tl k r0 st (.go x:Stp σ τ) .nrm s':=by
  obtain ⟨b,e1,e2⟩:=hv.h k _ h1
  rw [e2.obj]at e1
  refine ⟨e1,rfl,g',⟨fun _=> .refl _,fun q b0 hb=> ?_⟩⟩
  obtain ⟨b1,f1,f2⟩:=(D0 (t:=T []) (l:= []) trivial h2).h q b0 hb
  obtain ⟨b2,g1,g2⟩:=hv.h q b1 f1
  exact ⟨b2,g1,g2.trans f2⟩
theorem ME {σ τ γ:Type}{tl:Nat→AV}{k:D6}{r0:Loop}{st:σ→γ→List (D6×Option Blk)}{y:τ}{g:List (D6×Option Blk)}{t:Nat→AV}{e:Ex}(h1:G g k=some (.obj tl {r0 with state:= .busy}))(he:e≠ .nrm)(h2:Z9 P N rk r Q e ⟨tl,G ((k,none)::g)⟩):SB P N rk r Q tl k r0 st (.out y:Stp σ τ) e ⟨t,G g⟩:=
  ⟨h1,he,h2⟩
end
theorem A8 {h:D2}{k:D6}{b b1:Blk}{l:List (D6×Option Blk)}(h1:h k=some b1)(h2:BlkLe b1 b)(hl:Yj h l):Yj h ((k,some b)::l):=⟨⟨b1,h1,h2⟩,hl⟩
theorem B4 {α:Type}{h:D2}{k:D6}{ty:TypeId}{sz:Nat}{f:α→List D}{xs:List α}{l:List (D6×Option Blk)}(h1:h k=oB ty sz f xs)(hl:Yj h l):Yj h ((k,oB ty sz f xs)::l):=by
  refine ⟨?_,hl⟩
  cases xs with
  |nil=>trivial
  |cons x xs=>exact ⟨_,h1, .refl _⟩
theorem U5 {α:Type}{h:D2}{k:D6}{ty:TypeId}{sz:Nat}{f:α→List D}{xs:List α}{l:List (D6×Option Blk)}(h1:h k=some (.arr ty sz (xs.map f)))(hl:Yj h l):Yj h ((k,oB ty sz f xs)::l):=by
  refine ⟨?_,hl⟩
  cases xs with
  |nil=>trivial
  |cons x xs=>exact ⟨_,h1, .refl _⟩
theorem Y5 {α:Type}{h:D2}{k:D6}{ty:TypeId}{sz:Nat}{f:α→List D}{l:List (D6×Option Blk)}(hl:Yj h l):Yj h ((k,oB ty sz f [])::l):=⟨trivial,hl⟩
section
variable {P:Program}{u:Nat}{r:List AOp}{l:List (Nat×AV)}{g:List (D6×Option Blk)}{K:(Nat→AV)→D2→Prop}
/-- A slice that may be nil is seen to be the run's own. -/
theorem Tj {α:Type}{q:D6}{ty:TypeId}{sz:Nat}{f:α→List D}{xs:List α}{h:D2}(hb:h q=oB ty sz f xs)(hn:xs≠ []):h q=some (.arr ty sz (xs.map f)):=by rw [hb,MD hn]
theorem Ql {α:Type}{xs:List α}{n:Int}{a:α}(h:F2 xs n=some a):xs≠ []:=by rintro rfl;simp [F2]at h
theorem VV {α:Type}{xs:List α}{n:Int}{a:α}(h:xs≠ []):Ww xs n a≠ []:=by
  intro e
  have:=congrArg List.length e
  rw [Ww,List.length_set]at this
  exact h (lY this)
theorem J9 {α:Type}{h:D2}{sz:Nat}{f:α→List D}{xs:List α}(hz: ∀a,(f a).length=sz):W4 h sz (.d (.list (xs.map f)))=some (xs.map f):=by
  have:((xs.map f).all fun e=>e.length==sz)=true:=by simp [hz]
  simp only [W4,this,if_true]
theorem B9 {d:Nat}{f:Opd}{args:List Opd}{fid:FuncId}{avs:List AV}{ds ds':List D}{v:D}(hc:Q5 (T l) f args=some (fid,avs))(hd:M7 (L8 (G g) 6) avs=some ds)(hle:All2 DLe ds ds')
    (hp:PCall P fid ds' v) (ha:Fa avs=some ds∨GO v=true) (hk:K1 P u r (T ((d, .d v)::l)) (G g) K):K1 P u (⟨some d, .call f args,none⟩::r) (T l) (G g) K:=
  Th hc hd (hp.le hle) ha hk
end
section
variable {h:D2}
/-- What a slice that may be nil reads as. -/
def oD {α:Type}(f:α→List D)(xs:List α):D:=match xs with
  | []=> .nilS
  |_=> .list (xs.map f)
theorem U7 {α:Type}{f:α→List D}{xs:List α}:DLe (oD f xs) (.list (xs.map f)):=by
  cases xs with
  |nil=>exact .nil
  |cons x xs=>exact .refl _
theorem U8 {α:Type}{n:Nat}{k:D6}{ty:TypeId}{sz:Nat}{f:α→List D}{xs:List α}(hb:h k=oB ty sz f xs):L8 h (n+1) (oS xs k)=some (oD f xs):=by
  cases xs with
  |nil=>rfl
  |cons x xs=>exact HK hb
theorem Iu {n:Nat}{cs:List AV}{ds:List D}(hc:M7 (L8 h n) cs=some ds):L8 h (n+1) (W1 cs)=some (.agg ds):=by
  unfold W1
  cases ha:Fa cs with
  |none=>exact ZO hc
  |some ds'=>
   rw [GP ha]at hc
   cases hc
   exact C6
theorem S8 (cs:List AV):Gm (W1 cs)=some cs:=by
  unfold W1
  cases ha:Fa cs with
  |none=>rfl
  |some ds=>
   have: ∀{cs:List AV} {ds:List D},Fa cs=some ds→cs=ds.map .d:=by
     intro cs
     induction cs with
     |nil=>intro ds h;simp [Fa]at h;subst h;rfl
     |cons x r ih=>
      intro ds h
      cases x<;>simp only [Fa]at h<;>try cases h
      simp only [lD]at h
      obtain ⟨q,hq,rfl⟩:=h
      rw [ih hq];rfl
   rw [this ha];rfl
theorem A3: ∀{ds:List D},All2 DLe ds ds
  | []=> .nil
  |_::_=> .cons (.refl _) A3
theorem Fc {u d:Nat}(hu: ∀k,h k≠none→k.2≠u):h (d,u)=none:=by
  cases hq:h (d,u)with
  |none=>rfl
  |some b=>exact absurd rfl (hu (d,u) (by rw [hq];simp))
theorem Sb.after {a b c:St}(h':Sb b c)(h:Sb a b):Sb a c:=h.trans h'
end
end Go.Abs
namespace Go.Abs
open Go
/-- All literal slices are data. -/
def dY:List Nat:=(List.range 400).map (· +1000)
/-! ### What operations yield -/
section
variable {t:Nat→AV}{h:D2}
theorem bU {x:Opd}{v:AV}(hx:ev t x=v):G7 t h (.mv x)=some v:=by rw [← hx];rfl
theorem R1 {op:BinOp}{x y:Opd}{k:IntKind}{a b:Int}{v:Value}(hx:ev t x= .d (.v (.int k a)))(hy:ev t y= .d (.v (.int k b)))(hr:BY op k a b=some v):G7 t h (.bin op x y)=some (.d (.v v)):=by
  simp only [G7,hx,hy,hr,beq_self_eq_true,Bool.or_true,if_true,lE]
theorem O8 {n:Nat}{p:Opd}{k:D6}{off:Nat}{ty:TypeId}{bs:List AV}{v:AV}(hp:ev t p= .ptr k off)(hb:h k=some (.box ty bs))(hv:(bs.drop off).head? =some v):G7 t h (.load n false p)=some v:=by
  simp only [G7,hp,R6,hb,Bool.false_eq_true,if_false];exact hv
theorem C1 {n:Nat}{p:Opd}{k:D6}{off:Nat}{ty:TypeId}{bs:List AV}{v:AV}(hp:ev t p= .ptr k off)(hb:h k=some (.box ty bs))(hn:Nat.ble n (bs.drop off).length=true)(hv:W1 ((bs.drop off).take n)=v):G7 t h (.load n true p)=some v:=by
  have hn:=Nat.le_of_ble_eq_true hn
  simp only [G7,hp,R6,hb,if_true,hn];rw [hv]
theorem E7 {α:Type}{sz:Nat}{x i:Opd}{f:α→List D}{xs:List α}{k:IntKind}{n:Int}{a:α}(hx:ev t x= .d (.list (xs.map f)))(hi:ev t i= .d (.v (.int k n)))(hv:F2 xs n=some a)(hz:(f a).length=sz):G7 t h (.idxS sz x i)=some (.d (.lp (xs.map f) n.toNat 0)):=by
  have q:=Nb (f:=f) hv
  simp only [G7,hx,hi,q.2.2,q.1,hz,and_self,if_true]
theorem Jm {α:Type}{sz:Nat}{x i:Opd}{f:α→List D}{q:D6}{ty:TypeId}{xs:List α}{k:IntKind}{n:Int}{a:α}(hx:ev t x= .sl q)(hi:ev t i= .d (.v (.int k n)))(hb:h q=some (.arr ty sz (xs.map f)))(hv:F2 xs n=some a):G7 t h (.idxS sz x i)=some (.aptr q sz n.toNat 0):=by
  have q:=Nb (f:=f) hv
  simp only [G7,hx,hi,hb,q.1,lQ,q.2.1,and_self,if_true]
theorem KR {α:Type}{sz:Nat}{x i:Opd}{f:α→List D}{q:D6}{ty:TypeId}{xs:List α}{k:IntKind}{n:Int}{a:α}(hx:ev t x=oS xs q)(hi:ev t i= .d (.v (.int k n)))(hb:h q=oB ty sz f xs)(hv:F2 xs n=some a):G7 t h (.idxS sz x i)=some (.aptr q sz n.toNat 0):=
  Jm (hx.trans (Ap (Ql hv))) hi (Tj hb (Ql hv)) hv
theorem H8 {α:Type}{n off:Nat}{p:Opd}{f:α→List D}{xs:List α}{i:Int}{a:α}{v:D}(hp:ev t p= .d (.lp (xs.map f) i.toNat off))(ha:F2 xs i=some a)(hv:((f a).drop off).head? =some v):G7 t h (.load n false p)=some (.d v):=by
  simp only [G7,hp,R6,(Nb (f:=f) ha).2.2,lE,Bool.false_eq_true,if_false]
  rw [List.head?_map,hv];rfl
theorem E6 {α:Type}{n off:Nat}{p:Opd}{f:α→List D}{xs:List α}{i:Int}{a:α}{ds:List D}(hp:ev t p= .d (.lp (xs.map f) i.toNat off))(ha:F2 xs i=some a)(hn:Nat.ble n ((f a).drop off).length=true)(hv:((f a).drop off).take n=ds):G7 t h (.load n true p)=some (.d (.agg ds)):=by
  have hn:=Nat.le_of_ble_eq_true hn
  simp only [G7,hp,R6,(Nb (f:=f) ha).2.2,lE,if_true,lQ,hn]
  rw [← List.map_take,W1,Vw,hv]
theorem Yt {α:Type}{n off sz:Nat}{p:Opd}{f:α→List D}{q:D6}{ty:TypeId}{xs:List α}{i:Int}{a:α}{v:D}(hp:ev t p= .aptr q sz i.toNat off)(hb:h q=some (.arr ty sz (xs.map f)))(ha:F2 xs i=some a)(hv:((f a).drop off).head? =some v):G7 t h (.load n false p)=some (.d v):=by
  simp only [G7,hp,R6,hb,if_true,(Nb (f:=f) ha).2.2,lE,Bool.false_eq_true,if_false,List.head?_map,hv]
theorem Pq {α:Type}{n off sz:Nat}{p:Opd}{f:α→List D}{q:D6}{ty:TypeId}{xs:List α}{i:Int}{a:α}{ds:List D}(hp:ev t p= .aptr q sz i.toNat off)(hb:h q=some (.arr ty sz (xs.map f)))(ha:F2 xs i=some a)(hn:Nat.ble n ((f a).drop off).length=true)(hv:((f a).drop off).take n=ds):G7 t h (.load n true p)=some (.d (.agg ds)):=by
  have hn:=Nat.le_of_ble_eq_true hn
  simp only [G7,hp,R6,hb,if_true,(Nb (f:=f) ha).2.2,lE,lQ,hn]
  rw [← List.map_take,W1,Vw,hv]
theorem bV {x y:Opd}{k:IntKind}{a b v:Int}(hx:ev t x= .d (.v (.int k a)))(hy:ev t y= .d (.v (.int k b)))(hv:VT k a b=some v):G7 t h (.bin .quo x y)=some (.d (.v (.int k v))):=by
  obtain ⟨h1,rfl⟩:=ON hv
  exact R1 hx hy (by simp only [BY,bC h1])
theorem SE {x y:Opd}{k:IntKind}{a b v:Int}(hx:ev t x= .d (.v (.int k a)))(hy:ev t y= .d (.v (.int k b)))(hv:OL a b=some v):G7 t h (.bin .rem x y)=some (.d (.v (.int k v))):=by
  obtain ⟨h1,rfl⟩:=OO hv
  exact R1 hx hy (by simp only [BY,bC h1])
theorem E3 {α:Type}{x:Opd}{f:α→List D}{xs:List α}(hx:ev t x= .d (.list (xs.map f))):G7 t h (.len x)=some (.d (i64 xs.length)):=by simp only [G7,hx,lQ]
theorem SF {α:Type}{x:Opd}{f:α→List D}{q:D6}{ty:TypeId}{sz:Nat}{xs:List α}(hx:ev t x= .sl q)(hb:h q=some (.arr ty sz (xs.map f))):G7 t h (.len x)=some (.d (i64 xs.length)):=by simp only [G7,hx,hb,lQ]
theorem bW {α:Type}{sz:Nat}{x:Opd}{lo hi:Option Opd}{f:α→List D}{xs zs:List α}{i j:Int}(hx:ev t x= .d (.list (xs.map f)))(hz: ∀a,(f a).length=sz)
    (hlo:An t 0 lo=if 0≤i then some i.toNat else none) (hhi:An t xs.length hi=if 0≤j then some j.toNat else none) (hv:RW xs i j=some zs):G7 t h (.slice sz x lo hi none)=some (.d (.list (zs.map f))):=by
  obtain ⟨h1,h2,h3,rfl⟩:=OM hv
  rw [bB h1]at hlo
  rw [bB (by omega)]at hhi
  have hall:((xs.map f).all fun e=>e.length==sz)=true:=by simp [hz]
  simp only [G7,hx,lQ,hlo,hhi,hall,and_true]
  rw [bB (by omega),List.map_drop,List.map_take]
theorem ZS {n:Nat}:An t n none=if 0≤(n:Int)then some (n:Int).toNat else none:=by rw [bB (by omega)];rfl
theorem dG {x:Opd}{n:Nat}{k:IntKind}{i:Int}(hx:ev t x= .d (.v (.int k i))):An t n (some x)=if 0≤i then some i.toNat else none:=by simp only [An,hx]
theorem SG {j x y:Opd}{c q:Bool}(hj:ev t j= .d (bo c))(hx:c=true→ev t x= .d (bo q))(hy:ev t y= .d (bo false)):G7 t h (.pick j x y)=some (.d (bo (c&&q))):=by
  simp only [G7,hj]
  cases c
  ·rw [hy];rfl
  ·rw [hx rfl];rfl
theorem U2 {j x y:Opd}{c q:Bool}(hj:ev t j= .d (bo c))(hx:ev t x= .d (bo true))(hy:c=false→ev t y= .d (bo q)):G7 t h (.pick j x y)=some (.d (bo (c||q))):=by
  simp only [G7,hj]
  cases c
  ·rw [hy rfl];rfl
  ·rw [hx];rfl
/-- A guard: whether the operation is wanted. -/
def XR (x:AV)(b w:Bool):Prop:=(w=true→x= .d (bo b))∧(w=false→x= .d (bo !b)∨x= .d (.tup []))
theorem M4 {x:AV}{c:Bool}(hx:x= .d (bo c)):XR x true c:=by subst hx;cases c<;>exact ⟨fun h=>(by first|rfl|cases h),fun h=>(by first|exact .inl rfl|cases h)⟩
theorem N7 {x:AV}{c:Bool}(hx:x= .d (bo c)):XR x false (!c):=by subst hx;cases c<;>exact ⟨fun h=>(by first|rfl|cases h),fun h=>(by first|exact .inl rfl|cases h)⟩
theorem Qw {x:AV}{w q:Bool}(hx:x=gd w true (.d (bo q))):XR x true (w&&q):=by
  subst hx
  cases w
  ·exact ⟨fun h=>(by cases h),fun _=> .inr rfl⟩
  ·exact M4 rfl
theorem N2 {a:Bool}(h:a=false):(!a)=true:=by subst h;rfl
theorem XS {a b:Bool}(h:a=true)(h':b=true):(a&&b)=true:=by subst h h';rfl
theorem XT {j:Nat}{b w:Bool}{K:AV→List (D6×Option Blk)→Prop}{body:Prop}(hg:XR (t j) b w)(h1:w=true→body)(h2:w=false→K (.d (.tup [])) []):gW (some (j,b)) t K body:=by
  cases w with
  |true=>
   have:=hg.1 rfl
   simp only [gW,this,if_true]
   exact h1 rfl
  |false=>
   rcases hg.2 rfl with e|e
   ·simp only [gW,e]
    rw [bC (by cases b<;>simp)]
    exact h2 rfl
   ·simp only [gW,e]
    exact h2 rfl
end
section
variable {P:Program}{u:Nat}{r:List AOp}{l:List (Nat×AV)}{g:List (D6×Option Blk)}{K:(Nat→AV)→D2→Prop}
theorem MF {dst:Option Nat}{t:Nat→AV}{h:D2}{k:AK}{v:AV}{K':AV→List (D6×Option Blk)→Prop}(h0:U1 k=0)(hv:G7 t h k=some v)(hk:K' v []):Ve P u dst t h k K':=by
  unfold Ve
  split<;>first|(simp [U1]at h0;done)|(rw [hv];exact hk)
theorem Wx {dst:Option Nat}{k:AK}{gg:Option (Nat×Bool)}{t:Nat→AV}{h:D2}(h0:U1 k≠7)(hk:gW gg t (fun v ups=>K1 P u r (Mg t dst v) (N3 h ups) K) (Ve P u dst t h k fun v ups=>K1 P u r (Mg t dst v) (N3 h ups) K)):K1 P u (⟨dst,k,gg⟩::r) t h K:=by
  unfold K1
  split
  ·exact absurd rfl h0
  ·exact hk
theorem P5 {d j:Nat}{b:Bool}{k:AK}(w:Bool)(v:AV)(h0:U1 k=0)(hg:XR (T l j) b w)(hv:w=true→G7 (T l) (G g) k=some v)(hk:K1 P u r (T ((d,gd w true v)::l)) (G g) K):K1 P u (⟨some d,k,some (j,b)⟩::r) (T l) (G g) K:=by
  refine Wx (by rw [h0];simp) (XT hg (fun hw=>MF h0 (hv hw) ?_) fun hw=> ?_)
  ·rw [A5 hw]at hk;exact hk
  ·rw [RZ (by simp [hw])]at hk;exact hk
theorem N8 {d j:Nat}{b:Bool}{f:Opd}{args:List Opd}(w:Bool)(v:D)(hg:XR (T l j) b w)
    (hv:w=true→∃fid avs ds ds',Q5 (T l) f args=some (fid,avs)∧M7 (L8 (G g) 6) avs=some ds∧All2 DLe ds ds'∧PCall P fid ds' v∧(Fa avs=some ds∨GO v=true)) (hk:K1 P u r (T ((d,gd w true (.d v))::l)) (G g) K):K1 P u (⟨some d, .call f args,some (j,b)⟩::r) (T l) (G g) K:=by
  refine Wx (by simp [U1]) (XT hg (fun hw=> ?_) fun hw=> ?_)
  ·rw [A5 hw]at hk
   obtain ⟨fid,avs,ds,ds',h1,h2,h3,h4,h5⟩:=hv hw
   simp only [Ve,DC,h1,h2]
   exact ⟨v,h4.le h3,h5,hk⟩
  ·rw [RZ (by simp [hw])]at hk;exact hk
end
/-! ### The same, with what is looked at and altered -/
section
variable {P:Program}{N:Nat}{rk:Option D6}{Q:Ex→St→Prop}{rr:List It}{u:Nat}{r:List AOp}{l:List (Nat×AV)}{g:List (D6×Option Blk)}{K:(Nat→AV)→D2→List (List D6×List D6)→Prop}
theorem Kd {aops:List AOp}{pairs:List (Nat×Nat)}(h: ∀u,(∀k,G g k≠none→k.2≠u)→Di P u aops (T l) (G g) fun t h tr=>EP tr pairs=true∧Z9 P N rk rr Q .nrm ⟨t,h⟩):Z9 P N rk (.c (.draw aops pairs)::rr) Q .nrm ⟨T l,G g⟩:=
  HD h
theorem Ua (hk:K (T l) (G g) []):Di P u [] (T l) (G g) K:=by simpa only [Di] using hk
theorem N5 {d:Nat}{k:AK}(v:AV)(h0:U1 k=0)(hv:G7 (T l) (G g) k=some v)(hk:Di P u r (T ((d,v)::l)) (G g) fun t' h' tr=>K t' h' ((W2 (T l) (G g) k,[])::tr)):Di P u (⟨some d,k,none⟩::r) (T l) (G g) K:=by
  unfold Di
  simp only [gW]
  refine MF (v:=v) h0 hv ?_
  exact hk
theorem HO {d:Nat}{k:AK}(v:AV)(b:Blk)(h0:Mw k=true)(hv:Kj u d (T l) k=some (v,b))(hk:Di P u r (T ((d,v)::l)) (G (((d,u),some b)::g)) fun t' h' tr=>K t' h' ((W2 (T l) (G g) k,[(d,u)])::tr)):Di P u (⟨some d,k,none⟩::r) (T l) (G g) K:=by
  unfold Di
  simp only [gW]
  unfold Ve
  split<;>first|(simp [Mw,U1]at h0;done)|(dsimp only;rw [hv];exact hk)
theorem Ke {n:Nat}{p x:Opd}(k:D6)(off:Nat)(ty:TypeId)(bs cs:List AV)(hx:Gm (ev (T l) x)=some cs)(hn:cs.length=n)(hp:ev (T l) p= .ptr k off)(hb:G g k=some (.box ty bs))(hl:off+n≤bs.length)(bs':List AV)(he:Gn bs off cs=bs')
    (hk:Di P u r (T l) (G ((k,some (.box ty bs'))::g)) fun t' h' tr=>K t' h' ((W2 (T l) (G g) (.store n p x),[k])::tr)):Di P u (⟨none, .store n p x,none⟩::r) (T l) (G g) K:=by
  unfold Di
  subst he
  simp only [gW,Ve,Dz,hx,hn,if_true,hp,hb,hl]
  exact hk
theorem SH {α:Type}{d e sz:Nat}{ty:TypeId}{x y:Opd}(f:α→List D)(k:D6)(xs ys zs:List α)(hy:W4 (G g) sz (ev (T l) y)=some (ys.map f))(hx:ev (T l) x= .sl k)(hb:G g k=some (.arr e sz (xs.map f)))(hl:Y4 xs ys=some zs)
    (hk:Di P u r (T ((d, .sl (d,u))::l)) (G (((d,u),some (.arr e sz (zs.map f)))::(k,none)::g)) fun t' h' tr=>K t' h' ((W2 (T l) (G g) (.append ty e sz x y),[k,(d,u)])::tr)):Di P u (⟨some d, .append ty e sz x y,none⟩::r) (T l) (G g) K:=by
  obtain ⟨h1,rfl⟩:=Cu hl
  unfold Di
  simp only [gW,Ve,Dz,hy,hx,hb,lQ,h1,and_self,if_true,Option.getD_some]
  rw [← List.map_append]
  exact hk
end
end Go.Abs
namespace Go.Abs
open Go
theorem AH {a b:List D}{i:Nat}{d:D}(h:(a++b)[i]? =some d):(i<a.length∧a[i]? =some d)∨(a.length≤i∧b[i - a.length]? =some d):=by
  rw [List.getElem?_append]at h
  split at h
  ·exact .inl ⟨‹_›,h⟩
  ·exact .inr ⟨by omega,h⟩
section
variable (P:Program)
/-- A value of a type can be read as typed data. -/
def Rd (t:TypeId){α:Type}(e:α→List D)(wf:α→Prop):Prop:=
  ∀(H:Type) (enc:TypeId×Value→H) (w:World) (fuel:Nat) (cs:List Value) (d:DataW H) (ps:List MemPlace),DataW.trod enc P w 0 (fun _=>true) true fuel t cs=some (d,ps)→
   ∃x:α,wf x∧cs.length=(e x).length∧∀(i:Nat) di,(e x)[i]? =some di→di.one=true∧RepD w (fun b=>b<w.heap.size) di (cs.getD i undef)
def cW (fs:List Field)(off:Nat){β:Type}(e:β→List D)(wf:β→Prop):Prop:=
  ∀(H:Type) (enc:TypeId×Value→H) (w:World) (fuel:Nat) (cs:List Value) (xs:List (DataW H×List MemPlace)),(fs.mapM fun f=>DataW.trod enc P w 0 (fun _=>true) true fuel f.type ((cs.drop f.offset).take (P.cellsOf f.type)))=some xs→
   ∃y:β,wf y∧∀(i:Nat) di,(e y)[i]? =some di→di.one=true∧RepD w (fun b=>b<w.heap.size) di (cs.getD (off+i) undef)
end
section
variable {P:Program}
theorem ZT {t:TypeId}{k:IntKind}(ht:P.underlying t=some (.int k)):Rd P t (fun n:Int=> [.v (.int k n)]) (fun n=>(Lit.int k n).wf=true):=by
  intro H enc w fuel cs d ps h
  obtain ⟨n,rfl,_,hw⟩:=DataW.trod_int ht h
  exact ⟨n,hw,rfl,fun i di hi=>by
    cases i with
    |zero=>cases hi;exact ⟨rfl, .v _⟩
    |succ i=>simp at hi⟩
theorem VW {t:TypeId}(ht:P.underlying t=some .bool):Rd P t (fun n:Bool=> [bo n]) (fun _=>True):=by
  intro H enc w fuel cs d ps h
  obtain ⟨b,rfl,_⟩:=DataW.trod_bool ht h
  exact ⟨b,trivial,rfl,fun i di hi=>by
    cases i with
    |zero=>cases hi;exact ⟨rfl, .v _⟩
    |succ i=>simp at hi⟩
theorem OP {t:TypeId}(ht:P.underlying t=some .string):Rd P t (fun n:ByteArray=> [Al n]) (fun n=>n.size≤maxLen):=by
  intro H enc w fuel cs d ps h
  obtain ⟨b,rfl,_,hb⟩:=DataW.trod_string ht h
  exact ⟨b,hb,rfl,fun i di hi=>by
    cases i with
    |zero=>cases hi;exact ⟨rfl, .v _⟩
    |succ i=>simp at hi⟩
theorem EY {t:TypeId}{α β:Type}{e:β→List D}{wf:β→Prop}(h:Rd P t e wf)(e':α→List D)(wf':α→Prop)(g:β→α)(he: ∀y,e' (g y)=e y)(hw: ∀y,wf y→wf' (g y)):Rd P t e' wf':=by
  intro H enc w fuel cs d ps hh
  obtain ⟨y,h1,h2,h3⟩:=h H enc w fuel cs d ps hh
  exact ⟨g y,hw y h1,by rw [he];exact h2,by rw [he];exact h3⟩
theorem EZ {off:Nat}:cW P [] off (fun _:Unit=> []) (fun _=>True):=by
  intro H enc w fuel cs xs _
  exact ⟨(),trivial,fun i di hi=>by simp at hi⟩
theorem Bt {f:Field}{fs:List Field}{off n:Nat}{α β:Type}{e1:α→List D}{e2:β→List D}{wf1:α→Prop}{wf2:β→Prop}(h1:Rd P f.type e1 wf1)(ho:f.offset=off)(hn: ∀a,(e1 a).length=n)(h2:cW P fs (off+n) e2 wf2):
    cW P (f::fs) off (fun p:α×β=>e1 p.1++e2 p.2) (fun p=>wf1 p.1∧wf2 p.2):=by
  intro H enc w fuel cs xs h
  simp only [List.mapM_cons,Option.pure_def,lB,Option.bind_eq_some_iff,Option.some.injEq]at h
  obtain ⟨x,hx,l,hl,rfl⟩:=h
  obtain ⟨a,a1,a2,a3⟩:=h1 H enc w fuel _ _ _ hx
  obtain ⟨b,b1,b3⟩:=h2 H enc w fuel cs l hl
  refine ⟨(a,b),⟨a1,b1⟩,fun i di hi=> ?_⟩
  rcases AH hi with ⟨q1,q2⟩|⟨q1,q2⟩
  ·obtain ⟨r1,r2⟩:=a3 i di q2
   refine ⟨r1,?_⟩
   have hlt:i<P.cellsOf f.type:=by
     have:i< ((cs.drop f.offset).take (P.cellsOf f.type)).length:=by rw [a2];exact q1
     rw [lT]at this;omega
   simp only [List.getD,l3,bB hlt,lZ,ho]at r2
   exact r2
  ·obtain ⟨r1,r2⟩:=b3 _ di q2
   refine ⟨r1,?_⟩
   have:off+n+ (i - (e1 a).length)=off+i:=by rw [hn a]at q1 ⊢;omega
   rw [this]at r2
   exact r2
theorem Wy {t:TypeId}{fs:Array Field}{β:Type}{e:β→List D}{wf:β→Prop}(ht:P.underlying t=some (.struct fs))(hf:cW P fs.toList 0 e wf)(hl: ∀y,(e y).length=P.cellsOf t):Rd P t e wf:=by
  intro H enc w fuel cs d ps h
  cases fuel with
  |zero=>cases h
  |succ f=>
   simp only [DataW.trod,ht]at h
   split at h
   ·rename_i hlen
    simp only [lD]at h
    obtain ⟨xs,hxs,_⟩:=h
    obtain ⟨y,h1,h2⟩:=hf H enc w f cs xs hxs
    exact ⟨y,h1,by rw [hlen,hl],fun i di hi=>by have:=h2 i di hi;rwa [bN]at this⟩
   ·cases h
theorem AI {t el:TypeId}{α:Type}{e:α→List D}{wf:α→Prop}{sz:Nat}(ht:P.underlying t=some (.slice el))(he:Rd P el e wf)(hz: ∀a,(e a).length=sz)(hs:0<sz)(hc:P.cellsOf el=sz):
    Rd P t (fun xs:List α=> [.list (xs.map e)]) (fun xs=> ∀a∈xs,wf a):=by
  intro H enc w fuel cs d ps h
  rcases DataW.trod_slice ht h with ⟨rfl,_⟩|⟨A,len,cap,elems,rest,f,_,rfl,_,_,hlc,hcm,hlen,hel,_⟩
  ·exact ⟨[],by simp,rfl,fun i di hi=>by
     cases i with
     |zero=>cases hi;exact ⟨rfl, .lnil none 0⟩
     |succ i=>simp at hi⟩
  ·have hget: ∀i,i<len→∃x:α,wf x∧∀j dj,(e x)[j]? =some dj→dj.one=true∧∃y,w.cell? (A.add (i*sz+j))=some y∧RepD w (fun b=>b<w.heap.size) dj y:=by
     intro i hi
     have hy:=hel i hi
     rw [lG (by omega),Option.bind_eq_some_iff]at hy
     obtain ⟨row,hrow,hy⟩:=hy
     rw [hc]at hrow
     obtain ⟨_,hlen,hcell⟩:=World.cells?_some hrow
     obtain ⟨x,x1,x2,x3⟩:=he H enc w f row _ _ hy
     refine ⟨x,x1,fun j dj hj=> ?_⟩
     obtain ⟨r1,r2⟩:=x3 j dj hj
     have hjl:j<sz:=by have:=(lH.1 hj).1;rw [hz]at this;exact this
     have hcj:=hcell j hjl
     rw [Addr.add_add]at hcj
     rw [lG (by omega)]at hcj
     refine ⟨r1,_,hcj,?_⟩
     rw [List.getD,lG (by omega)]at r2
     exact r2
   cases len with
   |zero=>
    exact ⟨[],by simp,rfl,fun i di hi=>by
      cases i with
      |zero=>cases hi;exact ⟨rfl, .lnil _ _⟩
      |succ i=>simp at hi⟩
   |succ len=>
    have hch: ∃X:Nat→α,∀i,i<len+1→wf (X i)∧∀j dj,(e (X i))[j]? =some dj→dj.one=true∧∃y,w.cell? (A.add (i*sz+j))=some y∧RepD w (fun b=>b<w.heap.size) dj y:=by
      obtain ⟨x0,_⟩:=hget 0 (by omega)
      refine ⟨fun i=>if hi:i<len+1 then (hget i hi).choose else x0,fun i hi=> ?_⟩
      simp only [dif_pos hi]
      exact (hget i hi).choose_spec
    obtain ⟨X,hX⟩:=hch
    let xs:List α:=(List.range (len+1)).map X
    have hxl:xs.length=len+1:=by simp [xs]
    have hat: ∀i j dj,Kw (xs.map e) i j=some dj→i<len+1∧(e (X i))[j]? =some dj:=by
      intro i j dj hd
      unfold Kw at hd
      by_cases hi:i<len+1
      ·refine ⟨hi,?_⟩
       have:(xs.map e)[i]? =some (e (X i)):=by simp [xs,hi]
       rw [this]at hd
       exact hd
      ·have:(xs.map e)[i]? =none:=by simp [xs];omega
       rw [this]at hd;cases hd
    have hblk:A.block<w.heap.size:=by
      have h0:=hX 0 (by omega)
      have hj:0< (e (X 0)).length:=by rw [hz];exact hs
      obtain ⟨_,y,hy,_⟩:=h0.2 0 (e (X 0))[0] (lG hj)
      rw [Nat.zero_mul,bN,show A.add 0=A by simp [Addr.add]]at hy
      unfold World.cell? at hy
      cases hq:w.heap[A.block]? with
      |none=>rw [hq]at hy;simp at hy
      |some q=>exact (Array.getElem?_eq_some_iff.1 hq).1
    refine ⟨xs,fun a ha=> ?_,rfl,fun i di hi=> ?_⟩
    ·simp only [xs,List.mem_map,List.mem_range]at ha
     obtain ⟨i,hi,rfl⟩:=ha
     exact (hX i hi).1
    ·cases i with
     |succ i=>simp at hi
     |zero=>
      cases hi
      refine ⟨rfl,?_⟩
      have hr:RepD w (fun b=>b<w.heap.size) (.list (xs.map e)) (.slice (some A) (xs.map e).length cap):=by
        have hY: ∀i j,∃y,∀dj,Kw (xs.map e) i j=some dj→w.cell? (A.add (i*sz+j))=some y∧RepD w (fun b=>b<w.heap.size) dj y:=by
          intro i j
          cases hq:Kw (xs.map e) i j with
          |none=>exact ⟨undef,fun dj h=>by cases h⟩
          |some dj=>
           obtain ⟨hi,hj⟩:=hat i j dj hq
           obtain ⟨_,y,h1,h2⟩:=(hX i hi).2 j dj hj
           exact ⟨y,fun dj' h=>by cases h;exact ⟨h1,h2⟩⟩
        exact .list _ A cap sz (fun i j=>(hY i j).choose) (by simp [xs]) (by simp only [lQ,hxl];exact hlc) (fun l hl=>by
          simp only [List.mem_map]at hl
          obtain ⟨a,_,rfl⟩:=hl
          exact hz a) hblk (fun i j dj hd=>by obtain ⟨hi,hj⟩:=hat i j dj hd;exact ((hX i hi).2 j dj hj).1)
          (fun i j dj hd=>((hY i j).choose_spec dj hd).1) (fun i j dj hd=>((hY i j).choose_spec dj hd).2)
      rw [lQ,hxl]at hr
      exact hr
/-- An argument, read. -/
theorem MG {H:Type}{enc:TypeId×Value→H}{w:World}{r:Reach}{b0:Nat}{t:TypeId}{fs:Array Field}{α:Type}{e:α→List D}{wf:α→Prop}{v:Value}{d:DataW H}{ps:List MemPlace}(R:Rd P t e wf)(ht:P.underlying t=some (.struct fs))(hv:Value.okWide P w r b0 t v)
    (hd:DataW.Trod enc P w 0 (fun _=>true) true t v d ps): ∃x:α,wf x∧RepD w (fun b=>b<w.heap.size) (.agg (e x)) v:=by
  obtain ⟨cs,rfl,_⟩:=WideShapes.okWide_struct ht hv
  obtain ⟨fuel,hf⟩:=hd
  obtain ⟨x,h1,h2,h3⟩:=R H enc w fuel _ d ps hf
  have e1:(Value.agg cs).cells.toList=cs.toList:=rfl
  rw [e1]at h2 h3
  refine ⟨x,h1,?_⟩
  have:cs=cs.toList.toArray:=rfl
  rw [this]
  exact .agg _ _ h2.symm (fun i di hi=>(h3 i di hi).1) (fun i di hi=>(h3 i di hi).2)
theorem VX {H:Type}{enc:TypeId×Value→H}{w:World}{t:TypeId}{α:Type}{e:α→D}{wf:α→Prop}{v:Value}{d:DataW H}{ps:List MemPlace}(R:Rd P t (fun x=> [e x]) wf)(hv:v.cells.toList= [v])
    (hd:DataW.Trod enc P w 0 (fun _=>true) true t v d ps): ∃x:α,wf x∧RepD w (fun b=>b<w.heap.size) (e x) v:=by
  obtain ⟨fuel,hf⟩:=hd
  rw [hv]at hf
  obtain ⟨x,h1,h2,h3⟩:=R H enc w fuel _ d ps hf
  exact ⟨x,h1,(h3 0 (e x) rfl).2⟩
theorem FA {w w':World}{I I':Nat→Prop}(h:PTr w I w' I'):Go.RowKit.Below w.heap.size w w':=⟨h.os,h.tape,h.output,h.size,h.frame⟩
theorem OQ {w:World}{I:Nat→Prop}{b:Bool}{v:Value}(h:RepD w I (bo b) v):v= .bool b:=by cases h;rfl
/-- A law's walk, from its contract. -/
theorem SI {f:FuncId}{args:List D}{vs:List Value}{w:World}(hp:PCall P f args (bo true))(hl:args.length=vs.length)(hr: ∀(i:Nat) d,args[i]? =some d→RepD w (fun b=>b<w.heap.size) d (vs.getD i undef)):
    Calls P f vs.toArray w fun e w'=>e= .returned (.bool true)∧Go.RowKit.Below w.heap.size w w':=
  (hp.2 w (fun b=>b<w.heap.size) vs (fun _ h=>h) hl hr).mono fun _ _ ⟨_,_,h1,h2,h3⟩=>⟨by rw [h1,OQ h2],FA h3⟩
end
end Go.Abs
namespace Go.Abs
open Go
theorem Jn {n:Int}(h: -9223372036854775808≤n∧n≤9223372036854775807):J6 n=n:=Go.IntWalk.i64_in n h
theorem SJ {n:Int}(h:(Lit.int .i64 n).wf=true): -9223372036854775808≤n∧n≤9223372036854775807:=Go.bounds_i64 h
theorem DG (n:Int): -9223372036854775808≤J6 n∧J6 n≤9223372036854775807:=SJ (Go.wf_wrap .i64 n)
def R0 (n:Int):Prop:= -9223372036854775808≤n∧n≤9223372036854775807
theorem SK {P:Program}{t:TypeId}(ht:P.underlying t=some (.int .i64)):Rd P t (fun n:Int=> [.v (.int .i64 n)]) R0:=EY (ZT ht) _ _ id (fun _=>rfl) fun _ h=>SJ h
theorem FB {α:Type}{xs:List α}{i:Nat}{a:α}{r:List α}(h:xs.drop i=a::r):i<xs.length:=by
  have:=congrArg List.length h
  simp at this;omega
theorem AJ {α:Type}{xs:List α}{i:Nat}(h:xs.drop i= []):xs.length≤i:=List.drop_eq_nil_iff.1 h
theorem Wz {α:Type}{xs:List α}{i:Nat}{a:α}{r:List α}(h:xs.drop i=a::r):xs.drop (i+1)=r:=by
  have:=congrArg (fun z=>z.drop 1) h
  simpa using this
theorem XU {x B:Int}(h1: -B≤x)(h2:x≤B):x*x≤B*B:=by
  have:=Int.mul_nonneg (show 0≤B - x by omega) (show 0≤B+x by omega)
  grind
theorem DH (x:Int):0≤x*x:=by
  rcases Int.le_total 0 x with h|h
  ·exact Int.mul_nonneg h h
  ·have:=Int.mul_nonneg (show 0≤ -x by omega) (show 0≤ -x by omega);grind
theorem Tk {α:Type}{xs ys:List α}(h:xs.length+ys.length≤1000000000):Y4 xs ys=some (xs++ys):=bB h
/-- A loop whose rounds are counted. -/
theorem Tl {σ τ:Type}{f:σ→Option (Stp σ τ)}{s s':σ}(h:f s=some (.go s')):loop f s=loop f s':=by rw [Qk,h]
theorem Gx {σ τ:Type}{f:σ→Option (Stp σ τ)}{s:σ}{t:τ}(h:f s=some (.out t)):loop f s=some t:=by rw [Qk,h]
end Go.Abs
