/-
  An abstract layer over the machine, third part: plain functions, typed steps, loops, how arguments are read.
-/
import Derived.Test.YtimbepcdlehjjaaGreatCoreB
import Derived.ProofKit
import Derived.OpenShut
import Derived.ChangeOld
import Derived.Carry
import Derived.Below
import Derived.IntWalk
namespace Go.Abs
open Go
/-! ### Heaps as lists, with what is gone -/
def G:List (E6×Option Blk)→D4
  | [],_=>none
  |(i,v)::l,j=>if j=i then v else G l j
theorem MP (i:E6)(v:Option Blk)(l:List (E6×Option Blk)):G ((i,v)::l)=W5 (G l) i v:=rfl
theorem G_hit {k:E6}{b:Option Blk}{l:List (E6×Option Blk)}:G ((k,b)::l) k=b:=bE rfl
theorem A7 {k i:E6}{b r:Option Blk}{l:List (E6×Option Blk)}(h:(k.1==i.1)=false)(hl:G l k=r):G ((i,b)::l) k=r:=by
  have:k≠i:=by rintro rfl;simp at h
  rw [G,bF this];exact hl
section
variable {P:Program}{N:Nat}{rk:Option E6}{s:St}{Q:Ex→St→Prop}
theorem UM {c:Code}{s0:St}(S:Sb s0 s)(h:AWc P N rk c s0 Q):AWc P N rk c s Q:=by
  intro w I ρ a hs ro hro
  refine (h w I ρ a (S.sim hs) ro hro).mono ?_
  rintro e a' w' ⟨s',I',ρ',hq,hs',htr,hnd⟩
  exact ⟨s',I',ρ',hq,hs',⟨htr.os,htr.tape,htr.output,htr.size,fun b hb hn=>htr.frame b hb (fun ho=>hn (S.own ho)),htr.imm,fun b hb hl=>(htr.immBack b hb hl).imp id S.own,fun b hb hl=>S.own (htr.ownBack b hb hl),htr.rho⟩,hnd⟩
theorem MQ {ac:AC}{s0:St}(S:Sb s0 s)(h:AW P N rk ac s0 Q):AW P N rk ac s Q:=fun M c hc=>UM S (h M c hc)
def VU (t:Nat→AV):List (Nat×AV)→Prop
  | []=>True
  |(i,v)::r=>AVle (t i) v∧VU t r
def BL (h:D4):List (E6×Option Blk)→Prop
  | []=>True
  |(k,b)::r=>(match b with|some b0=> ∃b1,h k=some b1∧BlkLe b1 b0|none=>True)∧BL h r
theorem B8 {l:List (Nat×AV)}{g:List (E6×Option Blk)}{t:Nat→AV}{h:D4}(h1:VU t l)(h2:BL h g):Sb ⟨T l,G g⟩ ⟨t,h⟩:=by
  constructor
  ·intro i
   show AVle (t i) (T l i)
   induction l with
   |nil=>exact .any _
   |cons p r ih=>
    obtain ⟨j,v⟩:=p
    rw [UG]
    by_cases e:i=j
    ·subst e;rw [bE rfl];exact h1.1
    ·rw [bF e];exact ih h1.2
  ·intro k b
   show G g k=some b→∃b',h k=some b'∧BlkLe b' b
   induction g with
   |nil=>intro h;cases h
   |cons p r ih=>
    obtain ⟨j,v⟩:=p
    rw [G]
    by_cases e:k=j
    ·subst e;rw [bE rfl];intro hv;subst hv;exact h2.1
    ·rw [bF e];exact ih h2.2
end
/-! ### What is to be done, as a list -/
inductive It where
  |c (a:AC)
  |b (id:Nat)
  |j (M:St→Prop)
def Ea (P:Program)(N:Nat)(rk:Option E6):List It→(Ex→St→Prop)→Ex→St→Prop
  | [],Q,e,s=>Q e s
  | .c a::r,Q, .nrm,s=>AW P N rk a s (Ea P N rk r Q)
  | .c _::r,Q,e,s=>Ea P N rk r Q e s
  | .b id::r,Q, .ext i,s=>if i=id then Ea P N rk r Q .nrm s else Ea P N rk r Q (.ext i) s
  | .b _::r,Q,e,s=>Ea P N rk r Q e s
  | .j M::_,_, .nrm,s=>M s
  | .j _::r,Q,e,s=>Ea P N rk r Q e s
def Uh (id:Nat):List It→Option (List It)
  | []=>none
  | .b i::r=>if id=i then some r else Uh id r
  |_::r=>Uh id r
section
variable {P:Program}{N:Nat}{rk:Option E6}{s:St}{Q:Ex→St→Prop}{r:List It}
theorem H7: ∀{r:List It},Q .ret s→Ea P N rk r Q .ret s
  | [],h=>h
  | .c _::r,h=>H7 (r:=r) h
  | .b _::r,h=>H7 (r:=r) h
  | .j _::r,h=>H7 (r:=r) h
theorem C3 {id:Nat}{r':List It}: ∀{r:List It},Uh id r=some r'→Ea P N rk r' Q .nrm s→Ea P N rk r Q (.ext id) s
  | [],h,_=>by simp [Uh]at h
  | .c _::r,h,q=>C3 (r:=r) h q
  | .j _::r,h,q=>C3 (r:=r) h q
  | .b i::r,h,q=>by
    simp only [Uh]at h
    simp only [Ea]
    by_cases e:id=i
    ·rw [bE e]at h ⊢;cases h;exact q
    ·rw [bF e]at h ⊢;exact C3 h q
theorem Sf {id:Nat}: ∀{r:List It},Uh id r=none→Q (.ext id) s→Ea P N rk r Q (.ext id) s
  | [],_,q=>q
  | .c _::r,h,q=>Sf (r:=r) h q
  | .j _::r,h,q=>Sf (r:=r) h q
  | .b i::r,h,q=>by
    simp only [Uh]at h
    simp only [Ea]
    by_cases e:id=i
    ·rw [bE e]at h;cases h
    ·rw [bF e]at h ⊢;exact Sf h q
theorem B4 (h:Ea P N rk r Q .nrm s):Ea P N rk (.c .skip::r) Q .nrm s:=AL h
theorem D8 {id:Nat}(h:Ea P N rk r Q .nrm s):Ea P N rk (.b id::r) Q .nrm s:=h
theorem A4 {a b:AC}(h:Ea P N rk (.c a:: .c b::r) Q .nrm s):Ea P N rk (.c (.seq a b)::r) Q .nrm s:=by
  refine Gy (AW.mono h ?_)
  intro e s' hs
  cases e<;>exact hs
theorem A5 {a:AC}{id:Nat}(h:Ea P N rk (.c a:: .b id::r) Q .nrm s):Ea P N rk (.c (.block id a)::r) Q .nrm s:=by
  refine Wk (AW.mono h ?_)
  intro e s' hs
  cases e<;>exact hs
theorem C1 (h:Q .ret s):Ea P N rk (.c .ret::r) Q .nrm s:=FO (H7 h)
theorem C4 {id:Nat}(hp:Uh id r=none)(h:Q (.ext id) s):Ea P N rk (.c (.exit id)::r) Q .nrm s:=HE (Sf hp h)
theorem UN {o:Opd}{a b:AC}(c:Bool)(hc:ev s.t o= .d (.v (.bool c)))(h1:c=true→Ea P N rk (.c a::r) Q .nrm s)(h2:c=false→Ea P N rk (.c b::r) Q .nrm s):Ea P N rk (.c (.cond o a b)::r) Q .nrm s:=
  Se hc h1 h2
theorem A8 {a:AC}{s0:St}(S:Sb s0 s)(h:Ea P N rk (.c a::r) Q .nrm s0):Ea P N rk (.c a::r) Q .nrm s:=MQ S h
theorem T8 {aops:List AOp}{l:List (Nat×AV)}{g:List (E6×Option Blk)}(h: ∀u,(∀k,G g k≠none→k.2≠u)→J6 P u aops (T l) (G g) fun t h=>Ea P N rk r Q .nrm ⟨t,h⟩):Ea P N rk (.c (.reg aops)::r) Q .nrm ⟨T l,G g⟩:=
  Ly h
theorem FV {aops:List AOp}{l:List (Nat×AV)}{g:List (E6×Option Blk)}(hn:WC aops=true)(h: ∀u,(∀k,G g k≠none→k.2≠u)→J6 P u aops (T l) (G g) fun t h=>Ea P N rk r Q .nrm ⟨t,h⟩):Ea P N rk (.c (.draw aops [])::r) Q .nrm ⟨T l,G g⟩:=
  HG hn h
theorem D3 {x:AC}(M:St→Prop)(h1:Ea P N rk (.c x:: .j M::r) Q .nrm s)(h2: ∀s',M s'→Ea P N rk r Q .nrm s'):Ea P N rk (.c x::r) Q .nrm s:=by
  refine AW.mono h1 ?_
  intro e s' hs
  cases e with
  |nrm=>exact h2 s' hs
  |ext id=>exact hs
  |ret=>exact hs
end
end Go.Abs
namespace Go.Abs
open Go
/-! ### Plain functions that the programs are turned into -/
section plain
variable {α σ τ:Type}
/-- An element of a list, by a number of Go. -/
def F6 (xs:List α)(n:Int):Option α:=if 0≤n then xs[n.toNat]? else none
/-- Two lists together, of a bearable length. -/
def Bx (xs ys:List α):Option (List α):=if xs.length+ys.length≤1000000000 then some (xs++ys)else none
/-- A part of a list. -/
def CX (xs:List α)(i j:Int):Option (List α):=if 0≤i∧i≤j∧j≤xs.length then some ((xs.take j.toNat).drop i.toNat)else none
/-- A list with another element at a place. -/
def Ti (xs:List α)(n:Int)(v:α):List α:=xs.set n.toNat v
def YB (k:IntKind)(a b:Int):Option Int:=if b=0 then none else some (k.wrap (a.tdiv b))
def MR (a b:Int):Option Int:=if b=0 then none else some (a.tmod b)
/-- What comes of a loop's round: the next one, or the loop's end. -/
inductive Stp (σ τ:Type) where
  |go (s:σ)
  |out (t:τ)
def loopN (f:σ→Option (Stp σ τ)):Nat→σ→Option τ
  |0,_=>none
  |n+1,s=>match f s with
   |none=>none
   |some (.go s')=>loopN f n s'
   |some (.out t)=>some t
theorem FW (f:σ→Option (Stp σ τ)): ∀(n:Nat) (s:σ) (t:τ),loopN f n s=some t→loopN f (n+1) s=some t:=by
  intro n
  induction n with
  |zero=>intro s t h;cases h
  |succ n ih=>
   intro s t h
   rw [loopN]at h ⊢
   cases hf:f s with
   |none=>rw [hf]at h;cases h
   |some x=>
    rw [hf]at h
    cases x with
    |go s'=>exact ih s' t h
    |out t'=>exact h
theorem CY (f:σ→Option (Stp σ τ)){n m:Nat}(hn:n≤m){s:σ}{t:τ}(h:loopN f n s=some t):loopN f m s=some t:=by
  induction hn with
  |refl=>exact h
  |step _ ih=>exact FW f _ _ _ ih
/-- How loops are run. -/
class Lp where
  run: ∀{σ τ:Type},(σ→Option (Stp σ τ))→σ→Option τ
open Classical in
/-- The loop: its end, if there is one. -/
noncomputable def MS (f:σ→Option (Stp σ τ))(s:σ):Option τ:=if h: ∃n t,loopN f n s=some t then some h.choose_spec.choose else none
noncomputable instance lpS:Lp:=⟨MS⟩
def loop [Lp](f:σ→Option (Stp σ τ))(s:σ):Option τ:=Lp.run f s
theorem loop_some {f:σ→Option (Stp σ τ)}{s:σ}{t:τ}:loop f s=some t↔∃n,loopN f n s=some t:=by
  show MS f s=_↔_
  unfold MS
  constructor
  ·intro h
   split at h
   ·rename_i hx
    cases h
    exact ⟨hx.choose,hx.choose_spec.choose_spec⟩
   ·cases h
  ·rintro ⟨n,hn⟩
   have hx: ∃n t,loopN f n s=some t:=⟨n,t,hn⟩
   rw [dif_pos hx]
   have h1:=hx.choose_spec.choose_spec
   have h2:=CY f (Nat.le_max_left n hx.choose) hn
   have h3:=CY f (Nat.le_max_right n hx.choose) h1
   rw [h2]at h3
   exact h3.symm
theorem Lm (f:σ→Option (Stp σ τ))(s:σ):loop f s=match f s with
    |none=>none
    |some (.go s')=>loop f s'
    |some (.out t)=>some t:=by
  apply Option.ext
  intro t
  rw [loop_some]
  constructor
  ·rintro ⟨n,hn⟩
   cases n with
   |zero=>cases hn
   |succ n=>
    rw [loopN]at hn
    cases hf:f s with
    |none=>rw [hf]at hn;cases hn
    |some x=>
     rw [hf]at hn
     cases x with
     |go s'=>exact loop_some.2 ⟨n,hn⟩
     |out t'=>exact hn
  ·intro h
   cases hf:f s with
   |none=>rw [hf]at h;cases h
   |some x=>
    rw [hf]at h
    cases x with
    |go s'=>
     obtain ⟨n,hn⟩:=loop_some.1 h
     exact ⟨n+1,by rw [loopN,hf];exact hn⟩
    |out t'=>exact ⟨1,by rw [loopN,hf];exact h⟩
/-- A loop ends, and well: an invariant, a measure, and what holds at the end. -/
theorem MT {f:σ→Option (Stp σ τ)}(I:σ→Prop)(μ:σ→Nat)(Q:τ→Prop)
    (h: ∀s,I s→∃x,f s=some x∧match x with| .go s'=>I s'∧μ s'<μ s| .out t=>Q t): ∀(s:σ),I s→∃t,loop f s=some t∧Q t:=by
  have key: ∀n s,μ s≤n→I s→∃t,loop f s=some t∧Q t:=by
    intro n
    induction n with
    |zero=>
     intro s hn hi
     obtain ⟨x,hx,hq⟩:=h s hi
     cases x with
     |go s'=>exact absurd hq.2 (by omega)
     |out t=>exact ⟨t,by rw [Lm,hx],hq⟩
    |succ n ih=>
     intro s hn hi
     obtain ⟨x,hx,hq⟩:=h s hi
     cases x with
     |go s'=>
      obtain ⟨t,h1,h2⟩:=ih s' (by have:=hq.2;omega) hq.1
      exact ⟨t,by rw [Lm,hx];exact h1,h2⟩
     |out t=>exact ⟨t,by rw [Lm,hx],hq⟩
  exact fun s hi=>key (μ s) s (bR _) hi
/-- A loop over a list's elements. -/
def loopL (f:σ→α→Option (Stp σ τ))(e:σ→τ):List α→σ→Option τ
  | [],s=>some (e s)
  |a::l,s=>match f s a with
   |none=>none
   |some (.go s')=>loopL f e l s'
   |some (.out t)=>some t
/-- What comes behind an end: the rest, or a return. -/
def thenS {β γ:Type}(x:Option (Sum σ β))(f:σ→Option γ)(g:β→Option γ):Option γ:=match x with
  |some (.inl s)=>f s
  |some (.inr b)=>g b
  |none=>none
theorem FX {β γ:Type}{x:Option (Sum σ β)}{f:σ→Option γ}{g:β→Option γ}{r:γ}(h:thenS x f g=some r): ∃y,x=some y∧Sum.elim f g y=some r:=by
  cases x with
  |none=>cases h
  |some y=>cases y<;>exact ⟨_,rfl,h⟩
theorem K2 {b:Bool}{x y z:α}(hb:b=true)(h:cond b x y=z):x=z:=by subst hb;exact h
theorem UO {b:Bool}{x y z:α}(hb:b=false)(h:cond b x y=z):y=z:=by subst hb;exact h
theorem Mo {β:Type}{f:α→β}{xs:List α}{n:Int}{v:α}(h:F6 xs n=some v):0≤n∧n.toNat<xs.length∧(xs.map f)[n.toNat]? =some (f v):=by
  unfold F6 at h
  split at h
  ·rename_i hn
   refine ⟨hn,(lH.1 h).1,by rw [lI,h];rfl⟩
  ·cases h
theorem Tj {xs ys zs:List α}(h:Bx xs ys=some zs):xs.length+ys.length≤1000000000∧zs=xs++ys:=by
  unfold Bx at h
  split at h
  ·cases h;exact ⟨‹_›,rfl⟩
  ·cases h
theorem JG {xs zs:List α}{i j:Int}(h:CX xs i j=some zs):0≤i∧i≤j∧j≤xs.length∧zs=(xs.take j.toNat).drop i.toNat:=by
  unfold CX at h
  split at h
  ·cases h;rename_i hc;exact ⟨hc.1,hc.2.1,hc.2.2,rfl⟩
  ·cases h
theorem JH {a b c:Int}(h:MR a b=some c):b≠0∧c=a.tmod b:=by
  unfold MR at h
  split at h
  ·cases h
  ·cases h;exact ⟨‹_›,rfl⟩
end plain
/-- A slice of the run's own, or nil: by what it holds. -/
def oS {α:Type}(xs:List α)(k:E6):AV:=match xs with
  | []=> .d .nilS
  |_=> .sl k
def oB {α:Type}(ty:TypeId)(sz:Nat)(f:α→List D)(xs:List α):Option Blk:=match xs with
  | []=>none
  |_=>some (.arr ty sz (xs.map f))
/-- The value of a guarded operation. -/
def gd (c b:Bool)(v:AV):AV:=if c=b then v else .d (.tup [])
theorem MU {c b:Bool}{v:AV}(h: ¬c=b):gd c b v= .d (.tup []):=bF h
theorem A9 {c b:Bool}{v:AV}(h:c=b):gd c b v=v:=bE h
section
variable {P:Program}{u:Nat}{r:List AOp}{l:List (Nat×AV)}{g:List (E6×Option Blk)}{K:(Nat→AV)→D4→Prop}
theorem A1 (hk:K (T l) (G g)):J6 P u [] (T l) (G g) K:=Gj hk
theorem B6 {d:Nat}{k:AK}(v:AV)(h0:T6 k=0)(hv:G5 (T l) (G g) k=some v)(hk:J6 P u r (T ((d,v)::l)) (G g) K):J6 P u (⟨some d,k,none⟩::r) (T l) (G g) K:=M7 v h0 hv hk
theorem Ke {d:Nat}{k:AK}(v:AV)(b:Blk)(h0:Lw k=true)(hv:Hp u d (T l) k=some (v,b))(hk:J6 P u r (T ((d,v)::l)) (G (((d,u),some b)::g)) K):J6 P u (⟨some d,k,none⟩::r) (T l) (G g) K:=FS v b h0 hv hk
theorem W8 {n:Nat}{p x:Opd}(k:E6)(off:Nat)(ty:TypeId)(bs cs:List AV)(hx:Fo (ev (T l) x)=some cs)(hn:cs.length=n)(hp:ev (T l) p= .ptr k off)(hb:G g k=some (.box ty bs))(hl:off+n≤bs.length)(bs':List AV)(he:Eb bs off cs=bs')
    (hk:J6 P u r (T l) (G ((k,some (.box ty bs'))::g)) K):J6 P u (⟨none, .store n p x,none⟩::r) (T l) (G g) K:=
  CW k off ty bs cs hx hn hp hb hl (by rw [he];exact hk)
theorem Sg: ∀xs:List D,En (xs.map .d)=some xs
  | []=>rfl
  |x::r=>by simp [En,Sg r]
/-- A store into an element. -/
theorem MV {α:Type}{n off sz:Nat}{p x:Opd}(f:α→List D)(q:E6)(ty:TypeId)(xs:List α)(i:Int)(a b:α)(ds:List D)(hx:Fo (ev (T l) x)=some (ds.map .d))(hn:ds.length=n)(hp:ev (T l) p= .aptr q sz i.toNat off)(hb:G g q=some (.arr ty sz (xs.map f)))(ha:F6 xs i=some a)
    (hl:off+n≤(f a).length) (he:Eb (f a) off ds=f b) (hk:J6 P u r (T l) (G ((q,some (.arr ty sz ((Ti xs i b).map f)))::g)) K):J6 P u (⟨none, .store n p x,none⟩::r) (T l) (G g) K:=by
  refine JE q sz i.toNat off ty (xs.map f) (f a) (ds.map .d) ds hx (by simpa using hn) hp hb (Mo ha).2.2 (Sg ds) hl ?_
  rw [he]
  have:(xs.map f).set i.toNat (f b)=(Ti xs i b).map f:=by rw [Ti,List.map_set]
  rw [this]
  exact hk
theorem MW {α:Type}{d e sz:Nat}{ty:TypeId}{x y:Opd}(f:α→List D)(k:E6)(xs ys zs:List α)(hy:De (G g) sz (ev (T l) y)=some (ys.map f))(hx:ev (T l) x= .sl k)(hb:G g k=some (.arr e sz (xs.map f)))(hl:Bx xs ys=some zs)
    (hk:J6 P u r (T ((d, .sl (d,u))::l)) (G (((d,u),some (.arr e sz (zs.map f)))::(k,none)::g)) K):J6 P u (⟨some d, .append ty e sz x y,none⟩::r) (T l) (G g) K:=by
  obtain ⟨h1,rfl⟩:=Tj hl
  refine JF k (xs.map f) (ys.map f) hy hx hb (by simpa using h1) ?_
  rw [← List.map_append]
  exact hk
theorem Q3 {α:Type}{k:E6}{xs:List α}(h:xs≠ []):oS xs k= .sl k:=by cases xs<;>first|exact absurd rfl h|rfl
theorem N5 {α:Type}{xs zs:List α}{y:α}{ys:List α}(h:Bx xs (y::ys)=some zs):zs≠ []:=by
  obtain ⟨_,rfl⟩:=Tj h;simp
/-- One or more elements behind a slice of the run's own, or behind nil. -/
theorem J3 {α:Type}{d e sz:Nat}{ty:TypeId}{x y:Opd}(f:α→List D)(k:E6)(xs:List α)(v:α)(ys zs:List α)(hy:De (G g) sz (ev (T l) y)=some ((v::ys).map f))(hx:ev (T l) x=oS xs k)(hb:G g k=oB e sz f xs)(hl:Bx xs (v::ys)=some zs)
    (hk:J6 P u r (T ((d, .sl (d,u))::l)) (G (((d,u),some (.arr e sz (zs.map f)))::(k,none)::g)) K):J6 P u (⟨some d, .append ty e sz x y,none⟩::r) (T l) (G g) K:=by
  cases xs with
  |nil=>
   obtain ⟨h1,rfl⟩:=Tj hl
   refine FU (f v) (ys.map f) hy hx (by simpa using h1) ?_
   have:W5 (G g) (d,u) (some (.arr e sz (f v::ys.map f)))=G (((d,u),some (.arr e sz (([]++v::ys).map f)))::(k,none)::g):=by
     rw [MP,MP,lO,lP]
     have:W5 (G g) k none=G g:=by
       funext q
       simp only [W5]
       split
       ·rename_i e;subst e;rw [hb];rfl
       ·rfl
     rw [this]
   rw [this]
   exact hk
  |cons x0 xs=>exact MW f k (x0::xs) (v::ys) zs hy hx hb hl hk
end
end Go.Abs
namespace Go.Abs
open Go
section
variable {P:Program}{N:Nat}{rk:Option E6}{s:St}{Q:Ex→St→Prop}{r:List It}
theorem D6 {σ τ γ:Type}{a:AC}(f:σ→Option (Stp σ τ))(st:σ→γ→St)(x0:σ)(g0:γ)(y:τ)(hx:loop f x0=some y)(hs0:Sb (st x0 g0) s)
    (h: ∀x g z,f x=some z→(∀t,z= .out t→t=y)→Ea P N rk [.c a] (fun e s'=>match z with| .go x'=>e= .nrm∧∃g',Sb (st x' g') s'| .out _=>e≠ .nrm∧Ea P N rk r Q e s') .nrm (st x g)):
    Ea P N rk (.c (.loop a)::r) Q .nrm s:=by
  obtain ⟨n,hn⟩:=loop_some.1 hx
  refine HF (fun n s=> ∃x g,loopN f n x=some y∧Sb (st x g) s) n ⟨x0,g0,hn,hs0⟩ ?_
  rintro n s1 ⟨x,g,hl,hsb⟩
  refine MQ hsb ?_
  cases n with
  |zero=>cases hl
  |succ n=>
   rw [loopN]at hl
   cases hf:f x with
   |none=>rw [hf]at hl;cases hl
   |some z=>
    rw [hf]at hl
    refine AW.mono (h x g z hf (fun t ht=>by subst ht;cases hl;rfl)) ?_
    intro e s2 hq
    cases z with
    |go x'=>
     obtain ⟨rfl,g',hs'⟩:=hq
     exact ⟨n,by omega,x',g',hl,hs'⟩
    |out t=>
     obtain ⟨hne,hq⟩:=hq
     cases e with
     |nrm=>exact absurd rfl hne
     |ext id=>exact hq
     |ret=>exact hq
/-- A function over which a loop ranges: it hands on the elements, one after the other. -/
def MX (P:Program)(c:D)(L:List (List D)):Prop:= ∃gf fs cs,c= .fn (.func gf) fs cs∧∀(k:E6) (h0:D4) (Inv:Nat→D4→Prop) (Stop:D4→Prop),Inv 0 h0→
  (∀i h es,L[i]? =some es→Inv i h→YCall P k (es.map .d) h fun v h'=>(v= .d (.v (.bool true))∧Inv (i+1) h')∨(v= .d (.v (.bool false))∧Stop h'))→
   ICall P gf (fs.map .d++ [.yld k]++cs.map .d) h0 fun _ h'=>Inv L.length h'∨Stop h'
theorem FY {σ τ α:Type}{f:σ→α→Option (Stp σ τ)}{e:σ→τ}{L:List α}{i:Nat}{x:σ}{y:τ}{a:α}(hi:L[i]? =some a)(h:loopL f e (L.drop i) x=some y):
    ∃z,f x a=some z∧match z with| .go x'=>loopL f e (L.drop (i+1)) x'=some y| .out t=>t=y:=by
  have hlt:=(lH.1 hi).1
  rw [List.drop_eq_getElem_cons hlt,loopL]at h
  have ha:L[i]=a:=by rw [lG hlt]at hi;exact lC hi
  rw [ha]at h
  cases hf:f x a with
  |none=>rw [hf]at h;cases h
  |some z=>
   rw [hf]at h
   refine ⟨z,rfl,?_⟩
   cases z with
   |go x'=>exact h
   |out t=>exact lC h
/-- What a round of a loop over a function leaves. -/
def WH (P:Program)(N:Nat)(rk:Option E6)(r:List It)(Q:Ex→St→Prop)(tl:Nat→AV)(k:E6)(r0:Loop){σ τ γ:Type}(st:σ→γ→List (E6×Option Blk))(z:Stp σ τ)(e:Ex)(s:St):Prop:=
  s.h k=some (.obj tl {r0 with state:= .busy})∧match z with
    | .go x'=>e= .nrm∧∃g',Sb ⟨T [],G (st x' g')⟩ ⟨T [],s.h⟩
    | .out _=>e≠ .nrm∧Ea P N rk r Q e ⟨tl,W5 s.h k none⟩
theorem MY {σ τ α γ:Type}{f:Opd}{ps:List Nat}{as bd:AC}{tl:List (Nat×AV)}{g0:List (E6×Option Blk)}(c:D)(enc:α→List D)(L:List α)(F:σ→α→Option (Stp σ τ))(E:σ→τ)(st:σ→γ→List (E6×Option Blk))(x0:σ)(gg0:γ)(y:τ)
    (hf:ev (T tl) f= .d c) (hI:MX P c (L.map enc)) (hps: ∀a,(enc a).length=ps.length) (hx:loopL F E L x0=some y) (hs0:Sb ⟨T [],G (st x0 gg0)⟩ ⟨T [],G g0⟩) (hrk: ∀kk,rk=some kk→∃t r,G g0 kk=some (.obj t r))
    (hround: ∀u,(∀q,G g0 q≠none→q.2≠u)→rk≠some (1000000,u)→(∀x gg,G (st x gg) (1000000,u)=none)∧
      ∀r0 x gg a z,r0.state= .ready→F x a=some z→(∀t,z= .out t→t=y)→
       Ea P N (some (1000000,u)) [.c as, .j (fun s1=>s1.h (1000000,u)=some (.obj (T tl) r0)∧
        Ea P N (some (1000000,u)) [.c bd] (WH P N rk r Q (T tl) (1000000,u) r0 st z) .nrm ⟨s1.t,W5 s1.h (1000000,u) (some (.obj (T tl) {r0 with state:= .busy}))⟩)] (fun _ _=>False) .nrm
        ⟨Re (T tl) ps ((enc a).map .d),G ((((1000000,u),some (.obj (T tl) r0)):E6×Option Blk)::st x gg)⟩)
    (hend: ∀x gg s',y=E x→Sb ⟨T tl,G (st x gg)⟩ s'→Ea P N rk r Q .nrm s'):Ea P N rk (.c (.rangeF f ps as bd)::r) Q .nrm ⟨T tl,G g0⟩:=by
  obtain ⟨gf,fs,cs,rfl,hI⟩:=hI
  refine JD (gf:=gf) (fs:=fs.map .d) (cs:=cs.map .d) (by show MK (ev (T tl) f)=_;rw [hf];rfl) hrk ?_
  intro u r0 M hu hkn hrkne hst hpd hpar hsize hpsN has hbd
  obtain ⟨hkst,hr⟩:=hround u hu hrkne
  have hkn:G g0 (1000000,u)=none:=hkn
  refine ICall.mono ?_ (hI (1000000,u) (W5 (G g0) (1000000,u) (some (.obj (T tl) r0)))
    (fun i h=> ∃x gg,loopL F E (L.drop i) x=some y∧h (1000000,u)=some (.obj (T tl) r0)∧Sb ⟨T [],G (st x gg)⟩ ⟨T [],h⟩)
    (SV (1000000,u) (T tl) (Ea P N rk r Q)) ?_ ?_)
  ·rintro v h' (⟨x,gg,h1,h2,h3⟩|h)
   ·rw [show (L.map enc).length=L.length from lQ ..,List.drop_length,loopL]at h1
    refine ⟨T tl,r0,h2,by rw [hst];simp,?_⟩
    rw [hpd]
    refine hend x gg _ (lC h1).symm ⟨fun i=> .refl _,fun q b0 hb=> ?_⟩
    obtain ⟨b,e1,e2⟩:=h3.h q b0 hb
    refine ⟨b,?_,e2⟩
    have:q≠(1000000,u):=by rintro rfl;exact absurd ((hkst _ _).symm.trans hb) (by simp)
    show W5 h' _ none q=some b
    rw [I6 _ _ _ _ this];exact e1
   ·exact h
  ·refine ⟨x0,gg0,by rw [List.drop_zero];exact hx,F0 _ _ _,fun i=> .refl _,fun q b0 hb=> ?_⟩
   obtain ⟨b,e1,e2⟩:=hs0.h q b0 hb
   refine ⟨b,?_,e2⟩
   have:q≠(1000000,u):=by rintro rfl;exact absurd ((hkst _ _).symm.trans hb) (by simp)
   show W5 (G g0) _ _ q=some b
   rw [I6 _ _ _ _ this];exact e1
  ·rintro i h es hes ⟨x,gg,h1,h2,h3⟩
   obtain ⟨a,ha,rfl⟩:=Vf hes
   obtain ⟨z,hz,hz2⟩:=FY ha h1
   have hround:=hr r0 x gg a z hst hz (fun t ht=>by subst ht;exact hz2)
   have hsb:Sb ⟨Re (T tl) ps ((enc a).map .d),G ((((1000000,u),some (.obj (T tl) r0)):E6×Option Blk)::st x gg)⟩ ⟨Re (T tl) ps ((enc a).map .d),h⟩:=by
     refine ⟨fun i=> .refl _,fun q b0 hb=> ?_⟩
     by_cases e:q=(1000000,u)
     ·subst e
      have hb:=G_hit.symm.trans hb
      cases hb
      exact ⟨_,h2, .refl _⟩
     ·have hb:G (((1000000,u),some (.obj (T tl) r0))::st x gg) q=some b0:=hb
      rw [G,bF e]at hb
      exact h3.h q b0 hb
   refine MJ (M:=M) (as:=as) (bd:=bd) h2 (by rw [lQ,hps a,← hpar];simp) hsize (by rw [hpar];exact hpsN) has hbd ?_
   rw [hpar]
   have hround:=MQ hsb hround
   refine AW.mono hround ?_
   intro e s1 hs1
   cases e with
   |ext id=>exact absurd hs1 (by simp [Ea])
   |ret=>exact absurd hs1 (by simp [Ea])
   |nrm=>
    obtain ⟨q1,q2⟩:=hs1
    refine ⟨rfl,T tl,r0,q1,hst,?_⟩
    refine AW.mono q2 ?_
    rintro e s2 ⟨w1,w2⟩
    refine ⟨T tl,_,w1,?_⟩
    cases z with
    |go x'=>
     obtain ⟨rfl,g',hg'⟩:=w2
     refine .inl ⟨rfl,x',g',hz2,?_,fun i=> .refl _,fun q b0 hb=> ?_⟩
     ·show W5 s2.h _ _ _=_
      rw [F0]
      have:({state:= .ready,pending:=none,fn:=r0.fn,tmps:=r0.tmps,params:=r0.params,assign:=r0.assign,body:=r0.body,defers:=r0.defers}:Loop)=r0:=by
        cases r0
        simp only at hst hpd
        subst hst hpd
        rfl
      exact congrArg (fun r=>some (Blk.obj (T tl) r)) this
     ·obtain ⟨b,e1,e2⟩:=hg'.h q b0 hb
      refine ⟨b,?_,e2⟩
      have:q≠(1000000,u):=by rintro rfl;exact absurd ((hkst _ _).symm.trans hb) (by simp)
      show W5 s2.h _ _ q=some b
      rw [I6 _ _ _ _ this];exact e1
    |out t=>
     obtain ⟨hne,hq⟩:=w2
     cases e with
     |nrm=>exact absurd rfl hne
     |ext id=>
      refine .inr ⟨rfl,T tl,_,F0 _ _ _,by simp,?_⟩
      dsimp only
      rw [HH];exact hq
     |ret=>
      refine .inr ⟨rfl,T tl,_,F0 _ _ _,by simp,?_⟩
      dsimp only
      rw [HH];exact hq
end
end Go.Abs
namespace Go.Abs
open Go
abbrev i64 (n:Int):D:= .v (.int .i64 n)
abbrev I4 (n:Int):Int:=IntKind.i64.wrap n
abbrev bo (b:Bool):D:= .v (.bool b)
abbrev X6 (s:ByteArray):D:= .v (.string s)
/-- A value with a name of its own. -/
def YC {α β:Type}(a:α)(f:α→β):β:=f a
theorem PCall.le {P:Program}{f:FuncId}{ds ds':List D}{r:D}(h:PCall P f ds' r)(hd:All2 DLe ds ds'):PCall P f ds r:=
  ⟨h.1,fun w I vs hI hl hr=>h.2 w I vs hI (by rw [← hd.length];exact hl) fun i d hi=>by obtain ⟨a,e1,e2⟩:=hd.get hi;exact e2 _ _ _ (hr i a e1)⟩
/-- An empty slice, whatever it is. -/
theorem PCall.nil {P:Program}{f:FuncId}{r:D}(h: ∀A cap,PCall P f [.v (.slice A 0 cap)] r):PCall P f [.list []] r:=
  ⟨(h none 0).1,fun w I vs hI hl hr=>by
    match vs,hl with
    | [v],_=>
      have h0:RepD w I (.list []) v:=hr 0 _ rfl
      cases h0 with
      |lnil A cap=>exact (h A cap).2 w I [_] hI rfl (fun i d hi=>by
         cases i with
         |zero=>cases hi;exact .v _
         |succ i=>simp at hi)
      |list _ _ _ _ _ hne=>exact absurd rfl hne⟩
section
variable {P:Program}{N:Nat}{rk:Option E6}{s:St}{Q:Ex→St→Prop}{r:List It}
theorem V2 {M:St→Prop}(h:M s):Ea P N rk (.j M::r) Q .nrm s:=h
theorem D9 (h:Q .nrm s):Ea P N rk [] Q .nrm s:=h
theorem E3 {f:FuncId}{rs:List RV}{ac:AC}(F:FnOK P f N rs ac){args:List D}{d:D}(hl:args.length≤N)
    (h:Ea P N none [.c ac] (fun e s=>(e= .nrm∨e= .ret)∧∃d',Sc s.t s.h rs=some d'∧DLe d' d) .nrm ⟨T (FR 0 args),G []⟩):PCall P f args d:=by
  refine ⟨F.enters,?_⟩
  obtain ⟨fn,c,hf,hb,hN,hrs,⟨M,hc⟩,hn⟩:=F.ex
  intro w I vs hI hlen hrep
  have H0:HeapOK w I (fun _=>none) (fun _=>none):=⟨fun k b hb=>(by cases hb),fun k k' b b' g h1=>(by cases h1),fun k b g h1=>(by cases h1),fun k b g h1=>(by cases h1),hI,⟨0,fun _ _ _=>rfl⟩,fun k y hy=>(by cases hy)⟩
  have hsim:=Sd (n:=N) (args:=args.map .d) (h:=fun _=>none) H0 (by simpa using hlen) (by omega) (fun i c hc=>by
    rw [lI]at hc
    cases hq:args[i]? with
    |none=>rw [hq]at hc;cases hc
    |some q=>rw [hq]at hc;cases hc;exact .d _ _ (hrep i q hq))
  have e:CS (args.map .d)=IZ args:=by
    funext i
    simp only [CS,IZ,List.getD,lI]
    cases args[i]? <;>rfl
  rw [e,QU,← hN]at hsim
  have e0:(fun _=>none:D4)=G []:=by funext q;rfl
  rw [e0]at hsim
  refine Ll (Q:=fun e s=>(e= .nrm∨e= .ret)∧∃d',Sc s.t s.h rs=some d'∧DLe d' d) hf hb rfl hsim (by rw [hN];exact h M c hc) ?_
  rintro e s' a' w' I' ρ' ⟨he,d',hres,hle⟩ hs' tr
  have hownI: ∀b,own ρ' s'.h b→¬b<w.heap.size:=fun b hb hlt=>by
    obtain ⟨k,x,h1,_⟩:=tr.ownBack b hb hlt
    cases h1
  have hptr:PTr w I w' (fun b=>I' b∨own ρ' s'.h b):=by
    refine ⟨tr.os,tr.tape,tr.output,tr.size,fun b hb=>tr.frame b hb (fun ⟨k,x,h1,_⟩=>by cases h1),fun b hb=> .inl (tr.imm b hb),fun b hb hlt=> ?_,fun b hb=> ?_⟩
    ·rcases hb with hb|hb
     ·rcases tr.immBack b hb hlt with h|⟨k,x,h1,_⟩
      ·exact h
      ·cases h1
     ·exact absurd hlt (hownI b hb)
    ·rcases hb with hb|hb
     ·exact hs'.heap.ilt b hb
     ·exact hs'.heap.own_lt hb
  obtain ⟨x,hx,hr⟩:=CU hs' hrs hres
  exact ⟨he,x,hx,x,_,rfl,hle _ _ _ hr,hptr⟩
theorem B9 {t:Nat→AV}{h:D4}{rs:List RV}{d d':D}{e:Ex}(he:e= .nrm∨e= .ret)(h1:Sc t h rs=some d')(h2:DLe d' d):(e= .nrm∨e= .ret)∧∃d',Sc (⟨t,h⟩:St).t (⟨t,h⟩:St).h rs=some d'∧DLe d' d:=⟨he,d',h1,h2⟩
theorem UP {tl:Nat→AV}{k:E6}{r0:Loop}{bd:AC}{l:List (Nat×AV)}{g:List (E6×Option Blk)}{Q':Ex→St→Prop}(h1:G g k=some (.obj tl r0))(h2:Ea P N (some k) [.c bd] Q' .nrm ⟨T l,G ((k,some (.obj tl {r0 with state:= .busy}))::g)⟩):
    (⟨T l,G g⟩:St).h k=some (.obj tl r0)∧Ea P N (some k) [.c bd] Q' .nrm ⟨(⟨T l,G g⟩:St).t,W5 (⟨T l,G g⟩:St).h k (some (.obj tl {r0 with state:= .busy}))⟩:=⟨h1,h2⟩
theorem UQ {σ τ γ:Type}{tl:Nat→AV}{k:E6}{r0:Loop}{st:σ→γ→List (E6×Option Blk)}{x:σ}{g:List (E6×Option Blk)}{t:Nat→AV}(h1:G g k=some (.obj tl {r0 with state:= .busy}))(g':γ)(h2:BL (G g) (st x g')):WH P N rk r Q tl k r0 st (.go x:Stp σ τ) .nrm ⟨t,G g⟩:=
  ⟨h1,rfl,g',B8 trivial h2⟩
end
theorem A2 {h:D4}{k:E6}{b b1:Blk}{l:List (E6×Option Blk)}(h1:h k=some b1)(h2:BlkLe b1 b)(hl:BL h l):BL h ((k,some b)::l):=⟨⟨b1,h1,h2⟩,hl⟩
theorem B3 {α:Type}{h:D4}{k:E6}{ty:TypeId}{sz:Nat}{f:α→List D}{xs:List α}{l:List (E6×Option Blk)}(h1:h k=oB ty sz f xs)(hl:BL h l):BL h ((k,oB ty sz f xs)::l):=by
  refine ⟨?_,hl⟩
  cases xs with
  |nil=>trivial
  |cons x xs=>exact ⟨_,h1, .refl _⟩
theorem I7 {α:Type}{h:D4}{k:E6}{ty:TypeId}{sz:Nat}{f:α→List D}{xs:List α}{l:List (E6×Option Blk)}(h1:h k=some (.arr ty sz (xs.map f)))(hl:BL h l):BL h ((k,oB ty sz f xs)::l):=by
  refine ⟨?_,hl⟩
  cases xs with
  |nil=>trivial
  |cons x xs=>exact ⟨_,h1, .refl _⟩
theorem Q5 {α:Type}{h:D4}{k:E6}{ty:TypeId}{sz:Nat}{f:α→List D}{l:List (E6×Option Blk)}(hl:BL h l):BL h ((k,oB ty sz f [])::l):=⟨trivial,hl⟩
section
variable {P:Program}{u:Nat}{r:List AOp}{l:List (Nat×AV)}{g:List (E6×Option Blk)}{K:(Nat→AV)→D4→Prop}
theorem AO {α:Type}{xs:List α}{n:Int}{a:α}(h:xs≠ []):Ti xs n a≠ []:=by
  intro e
  have:=congrArg List.length e
  rw [Ti,List.length_set]at this
  exact h (lY this)
theorem I0 {α:Type}{h:D4}{sz:Nat}{f:α→List D}{xs:List α}(hz: ∀a,(f a).length=sz):De h sz (.d (.list (xs.map f)))=some (xs.map f):=by
  have:((xs.map f).all fun e=>e.length==sz)=true:=by simp [hz]
  simp only [De,this,if_true]
theorem D1 {d:Nat}{f:Opd}{args:List Opd}{fid:FuncId}{avs:List AV}{ds ds':List D}{v:D}(hc:R2 (T l) f args=some (fid,avs))(hd:L7 (K1 (G g) 6) avs=some ds)(hle:All2 DLe ds ds')
    (hp:PCall P fid ds' v) (ha:En avs=some ds∨CA v=true) (hk:J6 P u r (T ((d, .d v)::l)) (G g) K):J6 P u (⟨some d, .call f args,none⟩::r) (T l) (G g) K:=
  Vg hc hd (hp.le hle) ha hk
end
section
variable {h:D4}
/-- What a slice that may be nil reads as. -/
def oD {α:Type}(f:α→List D)(xs:List α):D:=match xs with
  | []=> .nilS
  |_=> .list (xs.map f)
theorem Cs {α:Type}{f:α→List D}{xs:List α}:DLe (oD f xs) (.list (xs.map f)):=by
  cases xs with
  |nil=>exact .nil
  |cons x xs=>exact .refl _
theorem Ct {α:Type}{n:Nat}{k:E6}{ty:TypeId}{sz:Nat}{f:α→List D}{xs:List α}(hb:h k=oB ty sz f xs):K1 h (n+1) (oS xs k)=some (oD f xs):=by
  cases xs with
  |nil=>rfl
  |cons x xs=>exact WG hb
theorem Pa {n:Nat}{cs:List AV}{ds:List D}(hc:L7 (K1 h n) cs=some ds):K1 h (n+1) (Dm cs)=some (.agg ds):=by
  unfold Dm
  cases ha:En cs with
  |none=>exact UL hc
  |some ds'=>
   rw [CB ha]at hc
   cases hc
   exact D7
theorem Gk (cs:List AV):Fo (Dm cs)=some cs:=by
  unfold Dm
  cases ha:En cs with
  |none=>rfl
  |some ds=>
   have: ∀{cs:List AV} {ds:List D},En cs=some ds→cs=ds.map .d:=by
     intro cs
     induction cs with
     |nil=>intro ds h;simp [En]at h;subst h;rfl
     |cons x r ih=>
      intro ds h
      cases x<;>simp only [En]at h<;>try cases h
      simp only [lD]at h
      obtain ⟨q,hq,rfl⟩:=h
      rw [ih hq];rfl
   rw [this ha];rfl
theorem A6: ∀{ds:List D},All2 DLe ds ds
  | []=> .nil
  |_::_=> .cons (.refl _) A6
theorem Sb.after {a b c:St}(h':Sb b c)(h:Sb a b):Sb a c:=h.trans h'
end
end Go.Abs
namespace Go.Abs
open Go
/-- All literal slices are data. -/
def XQ:List Nat:=(List.range 400).map (· +1000)
/-! ### What operations yield -/
section
variable {t:Nat→AV}{h:D4}
theorem Cu {op:BinOp}{x y:Opd}{k:IntKind}{a b:Int}{v:Value}(hx:ev t x= .d (.v (.int k a)))(hy:ev t y= .d (.v (.int k b)))(hr:Yb op k a b=some v):G5 t h (.bin op x y)=some (.d (.v v)):=by
  simp only [G5,hx,hy,hr,beq_self_eq_true,Bool.or_true,if_true,lE]
theorem Ag {n:Nat}{p:Opd}{k:E6}{off:Nat}{ty:TypeId}{bs:List AV}{v:AV}(hp:ev t p= .ptr k off)(hb:h k=some (.box ty bs))(hv:(bs.drop off).head? =some v):G5 t h (.load n false p)=some v:=by
  simp only [G5,hp,T0,hb,Bool.false_eq_true,if_false];exact hv
theorem C6 {n:Nat}{p:Opd}{k:E6}{off:Nat}{ty:TypeId}{bs:List AV}{v:AV}(hp:ev t p= .ptr k off)(hb:h k=some (.box ty bs))(hn:Nat.ble n (bs.drop off).length=true)(hv:Dm ((bs.drop off).take n)=v):G5 t h (.load n true p)=some v:=by
  have hn:=Nat.le_of_ble_eq_true hn
  simp only [G5,hp,T0,hb,if_true,hn];rw [hv]
theorem E7 {α:Type}{sz:Nat}{x i:Opd}{f:α→List D}{xs:List α}{k:IntKind}{n:Int}{a:α}(hx:ev t x= .d (.list (xs.map f)))(hi:ev t i= .d (.v (.int k n)))(hv:F6 xs n=some a)(hz:(f a).length=sz):G5 t h (.idxS sz x i)=some (.d (.lp (xs.map f) n.toNat 0)):=by
  have q:=Mo (f:=f) hv
  simp only [G5,hx,hi,q.2.2,q.1,hz,and_self,if_true]
theorem FZ {α:Type}{sz:Nat}{x i:Opd}{f:α→List D}{q:E6}{ty:TypeId}{xs:List α}{k:IntKind}{n:Int}{a:α}(hx:ev t x= .sl q)(hi:ev t i= .d (.v (.int k n)))(hb:h q=some (.arr ty sz (xs.map f)))(hv:F6 xs n=some a):G5 t h (.idxS sz x i)=some (.aptr q sz n.toNat 0):=by
  have q:=Mo (f:=f) hv
  simp only [G5,hx,hi,hb,q.1,lQ,q.2.1,and_self,if_true]
theorem G7 {α:Type}{n off:Nat}{p:Opd}{f:α→List D}{xs:List α}{i:Int}{a:α}{v:D}(hp:ev t p= .d (.lp (xs.map f) i.toNat off))(ha:F6 xs i=some a)(hv:((f a).drop off).head? =some v):G5 t h (.load n false p)=some (.d v):=by
  simp only [G5,hp,T0,(Mo (f:=f) ha).2.2,lE,Bool.false_eq_true,if_false]
  rw [List.head?_map,hv];rfl
theorem E4 {α:Type}{n off:Nat}{p:Opd}{f:α→List D}{xs:List α}{i:Int}{a:α}{ds:List D}(hp:ev t p= .d (.lp (xs.map f) i.toNat off))(ha:F6 xs i=some a)(hn:Nat.ble n ((f a).drop off).length=true)(hv:((f a).drop off).take n=ds):G5 t h (.load n true p)=some (.d (.agg ds)):=by
  have hn:=Nat.le_of_ble_eq_true hn
  simp only [G5,hp,T0,(Mo (f:=f) ha).2.2,lE,if_true,lQ,hn]
  rw [← List.map_take,Dm,Sg,hv]
theorem WI {x y:Opd}{k:IntKind}{a b v:Int}(hx:ev t x= .d (.v (.int k a)))(hy:ev t y= .d (.v (.int k b)))(hv:MR a b=some v):G5 t h (.bin .rem x y)=some (.d (.v (.int k v))):=by
  obtain ⟨h1,rfl⟩:=JH hv
  exact Cu hx hy (by simp only [Yb,bF h1])
theorem D2 {α:Type}{x:Opd}{f:α→List D}{xs:List α}(hx:ev t x= .d (.list (xs.map f))):G5 t h (.len x)=some (.d (i64 xs.length)):=by simp only [G5,hx,lQ]
theorem HK {α:Type}{sz:Nat}{x:Opd}{lo hi:Option Opd}{f:α→List D}{xs zs:List α}{i j:Int}(hx:ev t x= .d (.list (xs.map f)))(hz: ∀a,(f a).length=sz)
    (hlo:Au t 0 lo=if 0≤i then some i.toNat else none) (hhi:Au t xs.length hi=if 0≤j then some j.toNat else none) (hv:CX xs i j=some zs):G5 t h (.slice sz x lo hi none)=some (.d (.list (zs.map f))):=by
  obtain ⟨h1,h2,h3,rfl⟩:=JG hv
  rw [bE h1]at hlo
  rw [bE (by omega)]at hhi
  have hall:((xs.map f).all fun e=>e.length==sz)=true:=by simp [hz]
  simp only [G5,hx,lQ,hlo,hhi,hall,and_true]
  rw [bE (by omega),List.map_drop,List.map_take]
theorem AP {n:Nat}:Au t n none=if 0≤(n:Int)then some (n:Int).toNat else none:=by rw [bE (by omega)];rfl
theorem QV {x:Opd}{n:Nat}{k:IntKind}{i:Int}(hx:ev t x= .d (.v (.int k i))):Au t n (some x)=if 0≤i then some i.toNat else none:=by simp only [Au,hx]
theorem WJ {j x y:Opd}{c q:Bool}(hj:ev t j= .d (bo c))(hx:c=true→ev t x= .d (bo q))(hy:ev t y= .d (bo false)):G5 t h (.pick j x y)=some (.d (bo (c&&q))):=by
  simp only [G5,hj]
  cases c
  ·rw [hy];rfl
  ·rw [hx rfl];rfl
theorem Ed {j x y:Opd}{c q:Bool}(hj:ev t j= .d (bo c))(hx:ev t x= .d (bo true))(hy:c=false→ev t y= .d (bo q)):G5 t h (.pick j x y)=some (.d (bo (c||q))):=by
  simp only [G5,hj]
  cases c
  ·rw [hy rfl];rfl
  ·rw [hx];rfl
/-- A guard: whether the operation is wanted. -/
def VV (x:AV)(b w:Bool):Prop:=(w=true→x= .d (bo b))∧(w=false→x= .d (bo !b)∨x= .d (.tup []))
theorem K0 {x:AV}{c:Bool}(hx:x= .d (bo c)):VV x true c:=by subst hx;cases c<;>exact ⟨fun h=>(by first|rfl|cases h),fun h=>(by first|exact .inl rfl|cases h)⟩
theorem T9 {x:AV}{c:Bool}(hx:x= .d (bo c)):VV x false (!c):=by subst hx;cases c<;>exact ⟨fun h=>(by first|rfl|cases h),fun h=>(by first|exact .inl rfl|cases h)⟩
theorem Y1 {a:Bool}(h:a=false):(!a)=true:=by subst h;rfl
theorem SW {j:Nat}{b w:Bool}{K:AV→List (E6×Option Blk)→Prop}{body:Prop}(hg:VV (t j) b w)(h1:w=true→body)(h2:w=false→K (.d (.tup [])) []):gW (some (j,b)) t K body:=by
  cases w with
  |true=>
   have:=hg.1 rfl
   simp only [gW,this,if_true]
   exact h1 rfl
  |false=>
   rcases hg.2 rfl with e|e
   ·simp only [gW,e]
    rw [bF (by cases b<;>simp)]
    exact h2 rfl
   ·simp only [gW,e]
    exact h2 rfl
end
section
variable {P:Program}{u:Nat}{r:List AOp}{l:List (Nat×AV)}{g:List (E6×Option Blk)}{K:(Nat→AV)→D4→Prop}
theorem HL {dst:Option Nat}{t:Nat→AV}{h:D4}{k:AK}{v:AV}{K':AV→List (E6×Option Blk)→Prop}(h0:T6 k=0)(hv:G5 t h k=some v)(hk:K' v []):Ye P u dst t h k K':=by
  unfold Ye
  split<;>first|(simp [T6]at h0;done)|(rw [hv];exact hk)
theorem Tk {dst:Option Nat}{k:AK}{gg:Option (Nat×Bool)}{t:Nat→AV}{h:D4}(h0:T6 k≠7)(hk:gW gg t (fun v ups=>J6 P u r (Lv t dst v) (O3 h ups) K) (Ye P u dst t h k fun v ups=>J6 P u r (Lv t dst v) (O3 h ups) K)):J6 P u (⟨dst,k,gg⟩::r) t h K:=by
  unfold J6
  split
  ·exact absurd rfl h0
  ·exact hk
theorem R8 {d j:Nat}{b:Bool}{k:AK}(w:Bool)(v:AV)(h0:T6 k=0)(hg:VV (T l j) b w)(hv:w=true→G5 (T l) (G g) k=some v)(hk:J6 P u r (T ((d,gd w true v)::l)) (G g) K):J6 P u (⟨some d,k,some (j,b)⟩::r) (T l) (G g) K:=by
  refine Tk (by rw [h0];simp) (SW hg (fun hw=>HL h0 (hv hw) ?_) fun hw=> ?_)
  ·rw [A9 hw]at hk;exact hk
  ·rw [MU (by simp [hw])]at hk;exact hk
theorem P4 {d j:Nat}{b:Bool}{f:Opd}{args:List Opd}(w:Bool)(v:D)(hg:VV (T l j) b w)
    (hv:w=true→∃fid avs ds ds',R2 (T l) f args=some (fid,avs)∧L7 (K1 (G g) 6) avs=some ds∧All2 DLe ds ds'∧PCall P fid ds' v∧(En avs=some ds∨CA v=true)) (hk:J6 P u r (T ((d,gd w true (.d v))::l)) (G g) K):J6 P u (⟨some d, .call f args,some (j,b)⟩::r) (T l) (G g) K:=by
  refine Tk (by simp [T6]) (SW hg (fun hw=> ?_) fun hw=> ?_)
  ·rw [A9 hw]at hk
   obtain ⟨fid,avs,ds,ds',h1,h2,h3,h4,h5⟩:=hv hw
   simp only [Ye,CL,h1,h2]
   exact ⟨v,h4.le h3,h5,hk⟩
  ·rw [MU (by simp [hw])]at hk;exact hk
end
/-! ### The same, with what is looked at and altered -/
section
variable {P:Program}{N:Nat}{rk:Option E6}{Q:Ex→St→Prop}{rr:List It}{u:Nat}{r:List AOp}{l:List (Nat×AV)}{g:List (E6×Option Blk)}{K:(Nat→AV)→D4→List (List E6×List E6)→Prop}
theorem QW {aops:List AOp}{pairs:List (Nat×Nat)}(h: ∀u,(∀k,G g k≠none→k.2≠u)→Lx P u aops (T l) (G g) fun t h tr=>AH tr pairs=true∧Ea P N rk rr Q .nrm ⟨t,h⟩):Ea P N rk (.c (.draw aops pairs)::rr) Q .nrm ⟨T l,G g⟩:=
  CQ h
theorem WK (hk:K (T l) (G g) []):Lx P u [] (T l) (G g) K:=by simpa only [Lx] using hk
theorem Ui {d:Nat}{k:AK}(v:AV)(h0:T6 k=0)(hv:G5 (T l) (G g) k=some v)(hk:Lx P u r (T ((d,v)::l)) (G g) fun t' h' tr=>K t' h' ((Ao (T l) (G g) k,[])::tr)):Lx P u (⟨some d,k,none⟩::r) (T l) (G g) K:=by
  unfold Lx
  simp only [gW]
  refine HL (v:=v) h0 hv ?_
  exact hk
end
end Go.Abs
namespace Go.Abs
open Go
section
variable (P:Program)
/-- A value of a type can be read as typed data. -/
def Rd (t:TypeId){α:Type}(e:α→List D)(wf:α→Prop):Prop:=
  ∀(H:Type) (enc:TypeId×Value→H) (w:World) (fuel:Nat) (cs:List Value) (d:DataW H) (ps:List MemPlace),DataW.trod enc P w 0 (fun _=>true) true fuel t cs=some (d,ps)→
   ∃x:α,wf x∧cs.length=(e x).length∧∀(i:Nat) di,(e x)[i]? =some di→di.one=true∧RepD w (fun b=>b<w.heap.size) di (cs.getD i undef)
def RdF (fs:List Field)(off:Nat){β:Type}(e:β→List D)(wf:β→Prop):Prop:=
  ∀(H:Type) (enc:TypeId×Value→H) (w:World) (fuel:Nat) (cs:List Value) (xs:List (DataW H×List MemPlace)),(fs.mapM fun f=>DataW.trod enc P w 0 (fun _=>true) true fuel f.type ((cs.drop f.offset).take (P.cellsOf f.type)))=some xs→
   ∃y:β,wf y∧∀(i:Nat) di,(e y)[i]? =some di→di.one=true∧RepD w (fun b=>b<w.heap.size) di (cs.getD (off+i) undef)
end
section
variable {P:Program}
theorem MZ {t:TypeId}{k:IntKind}(ht:P.underlying t=some (.int k)):Rd P t (fun n:Int=> [.v (.int k n)]) (fun n=>(Lit.int k n).wf=true):=by
  intro H enc w fuel cs d ps h
  obtain ⟨n,rfl,_,hw⟩:=DataW.trod_int ht h
  exact ⟨n,hw,rfl,fun i di hi=>by
    cases i with
    |zero=>cases hi;exact ⟨rfl, .v _⟩
    |succ i=>simp at hi⟩
theorem UR {t:TypeId}{α β:Type}{e:β→List D}{wf:β→Prop}(h:Rd P t e wf)(e':α→List D)(wf':α→Prop)(g:β→α)(he: ∀y,e' (g y)=e y)(hw: ∀y,wf y→wf' (g y)):Rd P t e' wf':=by
  intro H enc w fuel cs d ps hh
  obtain ⟨y,h1,h2,h3⟩:=h H enc w fuel cs d ps hh
  exact ⟨g y,hw y h1,by rw [he];exact h2,by rw [he];exact h3⟩
theorem AQ {H:Type}{enc:TypeId×Value→H}{w:World}{t:TypeId}{α:Type}{e:α→D}{wf:α→Prop}{v:Value}{d:DataW H}{ps:List MemPlace}(R:Rd P t (fun x=> [e x]) wf)(hv:v.cells.toList= [v])
    (hd:DataW.Trod enc P w 0 (fun _=>true) true t v d ps): ∃x:α,wf x∧RepD w (fun b=>b<w.heap.size) (e x) v:=by
  obtain ⟨fuel,hf⟩:=hd
  rw [hv]at hf
  obtain ⟨x,h1,h2,h3⟩:=R H enc w fuel _ d ps hf
  exact ⟨x,h1,(h3 0 (e x) rfl).2⟩
theorem AR {w w':World}{I I':Nat→Prop}(h:PTr w I w' I'):Go.RowKit.Below w.heap.size w w':=⟨h.os,h.tape,h.output,h.size,h.frame⟩
theorem JI {w:World}{I:Nat→Prop}{b:Bool}{v:Value}(h:RepD w I (bo b) v):v= .bool b:=by cases h;rfl
/-- A law's walk, from its contract. -/
theorem NA {f:FuncId}{args:List D}{vs:List Value}{w:World}(hp:PCall P f args (bo true))(hl:args.length=vs.length)(hr: ∀(i:Nat) d,args[i]? =some d→RepD w (fun b=>b<w.heap.size) d (vs.getD i undef)):
    Calls P f vs.toArray w fun e w'=>e= .returned (.bool true)∧Go.RowKit.Below w.heap.size w w':=
  (hp.2 w (fun b=>b<w.heap.size) vs (fun _ h=>h) hl hr).mono fun _ _ ⟨_,_,h1,h2,h3⟩=>⟨by rw [h1,JI h2],AR h3⟩
end
end Go.Abs
namespace Go.Abs
open Go
theorem W9 {n:Int}(h: -9223372036854775808≤n∧n≤9223372036854775807):I4 n=n:=Go.IntWalk.i64_in n h
theorem NB {n:Int}(h:(Lit.int .i64 n).wf=true): -9223372036854775808≤n∧n≤9223372036854775807:=Go.bounds_i64 h
theorem Ze (n:Int): -9223372036854775808≤I4 n∧I4 n≤9223372036854775807:=NB (Go.wf_wrap .i64 n)
def Ck (n:Int):Prop:= -9223372036854775808≤n∧n≤9223372036854775807
theorem US {P:Program}{t:TypeId}(ht:P.underlying t=some (.int .i64)):Rd P t (fun n:Int=> [.v (.int .i64 n)]) Ck:=UR (MZ ht) _ _ id (fun _=>rfl) fun _ h=>NB h
theorem Mp {α:Type}{xs:List α}{i:Nat}{a:α}{r:List α}(h:xs.drop i=a::r):F6 xs (i:Int)=some a:=by
  unfold F6
  rw [bE (by omega),bQ]
  have:=congrArg (fun z=>z[0]?) h
  simpa using this
theorem Jt {α:Type}{xs:List α}{i:Nat}{a:α}{r:List α}(h:xs.drop i=a::r):i<xs.length:=by
  have:=congrArg List.length h
  simp at this;omega
theorem Kf {α:Type}{xs:List α}{i:Nat}(h:xs.drop i= []):xs.length≤i:=List.drop_eq_nil_iff.1 h
theorem Er {α:Type}{xs:List α}{i:Nat}{a:α}{r:List α}(h:xs.drop i=a::r):xs.drop (i+1)=r:=by
  have:=congrArg (fun z=>z.drop 1) h
  simpa using this
theorem SX {x B:Int}(h1: -B≤x)(h2:x≤B):x*x≤B*B:=by
  have:=bW (show 0≤B - x by omega) (show 0≤B+x by omega)
  grind
theorem Zf (x:Int):0≤x*x:=by
  rcases Int.le_total 0 x with h|h
  ·exact bW h h
  ·have:=bW (show 0≤ -x by omega) (show 0≤ -x by omega);grind
theorem NC {x y A B:Int}(h1: -A≤x∧x≤A)(h2: -B≤y∧y≤B): -(A*B)≤x*y∧x*y≤A*B:=by
  have a:=bW (show 0≤A - x by omega) (show 0≤B+y by omega)
  have b:=bW (show 0≤A+x by omega) (show 0≤B - y by omega)
  have c:=bW (show 0≤A - x by omega) (show 0≤B - y by omega)
  have d:=bW (show 0≤A+x by omega) (show 0≤B+y by omega)
  constructor<;>grind
theorem Pu {α:Type}{xs ys:List α}(h:xs.length+ys.length≤1000000000):Bx xs ys=some (xs++ys):=bE h
/-- A loop whose rounds are counted. -/
theorem Bf {σ τ:Type}{f:σ→Option (Stp σ τ)}{s s':σ}(h:f s=some (.go s')):loop f s=loop f s':=by rw [Lm,h]
theorem M1 {σ τ:Type}{f:σ→Option (Stp σ τ)}{s:σ}{t:τ}(h:f s=some (.out t)):loop f s=some t:=by rw [Lm,h]
theorem QX (a b:Int):IP true a b=max a b:=by simp only [IP,if_true];omega
theorem QY (a b:Int):IP false a b=min a b:=by simp only [IP,Bool.false_eq_true,if_false];omega
end Go.Abs
