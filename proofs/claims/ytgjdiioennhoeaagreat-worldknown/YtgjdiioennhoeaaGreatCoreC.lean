/-
  An abstract layer over the machine, third part: plain functions, typed steps, loops, how arguments are read.
-/
import Derived.Test.YtgjdiioennhoeaaGreatCoreB
import Derived.ProofKit
import Derived.OpenShut
import Derived.ChangeOld
import Derived.Carry
import Derived.Below
import Derived.IntWalk
namespace Go.Abs
open Go
/-! ### Heaps as lists, with what is gone -/
def G:List (Key×Option Blk)→J4
  | [],_=>none
  |(i,v)::l,j=>if j=i then v else G l j
theorem C8i (i:Key)(v:Option Blk)(l:List (Key×Option Blk)):G ((i,v)::l)=upd (G l) i v:=rfl
theorem G_hit {k:Key}{b:Option Blk}{l:List (Key×Option Blk)}:G ((k,b)::l) k=b:=if_pos rfl
theorem A3 {k i:Key}{b r:Option Blk}{l:List (Key×Option Blk)}(h:(k.1==i.1)=false)(hl:G l k=r):G ((i,b)::l) k=r:=by
  have:k≠i:=by rintro rfl;simp at h
  rw [G,if_neg this];exact hl
theorem U5 {k i:Key}{b r:Option Blk}{l:List (Key×Option Blk)}(h:k.2≠i.2)(hl:G l k=r):G ((i,b)::l) k=r:=by
  have:k≠i:=by rintro rfl;exact h rfl
  rw [G,if_neg this];exact hl
theorem B4e {h:J4}{u:Nat}(hu: ∀k,h k≠none→k.2≠u){k:Key}{b:Blk}(hk:h k=some b):k.2≠u:=hu k (by rw [hk];simp)
section
variable {P:Program}{N:Nat}{rk:Option Key}{s:St}{Q:Ex→St→Prop}
theorem D0r {c:Code}{s0:St}(S:Sb s0 s)(h:AWc P N rk c s0 Q):AWc P N rk c s Q:=by
  intro w I ρ a hs ro hro
  refine (h w I ρ a (S.sim hs) ro hro).mono ?_
  rintro e a' w' ⟨s',I',ρ',hq,hs',htr,hnd⟩
  exact ⟨s',I',ρ',hq,hs',⟨htr.os,htr.tape,htr.output,htr.size,fun b hb hn=>htr.frame b hb (fun ho=>hn (S.own ho)),htr.imm,fun b hb hl=>(htr.immBack b hb hl).imp id S.own,fun b hb hl=>S.own (htr.ownBack b hb hl),htr.rho⟩,hnd⟩
theorem C7v {ac:AC}{s0:St}(S:Sb s0 s)(h:AW P N rk ac s0 Q):AW P N rk ac s Q:=fun M c hc=>D0r S (h M c hc)
def sbT (t:Nat→AV):List (Nat×AV)→Prop
  | []=>True
  |(i,v)::r=>AVle (t i) v∧sbT t r
def sbG (h:J4):List (Key×Option Blk)→Prop
  | []=>True
  |(k,b)::r=>(match b with|some b0=> ∃b1,h k=some b1∧BlkLe b1 b0|none=>True)∧sbG h r
theorem G2 {l:List (Nat×AV)}{g:List (Key×Option Blk)}{t:Nat→AV}{h:J4}(h1:sbT t l)(h2:sbG h g):Sb ⟨T l,G g⟩ ⟨t,h⟩:=by
  constructor
  ·intro i
   show AVle (t i) (T l i)
   induction l with
   |nil=>exact .any _
   |cons p r ih=>
    obtain ⟨j,v⟩:=p
    rw [D1f]
    by_cases e:i=j
    ·subst e;rw [if_pos rfl];exact h1.1
    ·rw [if_neg e];exact ih h1.2
  ·intro k b
   show G g k=some b→∃b',h k=some b'∧BlkLe b' b
   induction g with
   |nil=>intro h;cases h
   |cons p r ih=>
    obtain ⟨j,v⟩:=p
    rw [G]
    by_cases e:k=j
    ·subst e;rw [if_pos rfl];intro hv;subst hv;exact h2.1
    ·rw [if_neg e];exact ih h2.2
end
/-! ### What is to be done, as a list -/
inductive It where
  |c (a:AC)
  |b (id:Nat)
  |j (M:St→Prop)
def AWL (P:Program)(N:Nat)(rk:Option Key):List It→(Ex→St→Prop)→Ex→St→Prop
  | [],Q,e,s=>Q e s
  | .c a::r,Q, .nrm,s=>AW P N rk a s (AWL P N rk r Q)
  | .c _::r,Q,e,s=>AWL P N rk r Q e s
  | .b id::r,Q, .ext i,s=>if i=id then AWL P N rk r Q .nrm s else AWL P N rk r Q (.ext i) s
  | .b _::r,Q,e,s=>AWL P N rk r Q e s
  | .j M::_,_, .nrm,s=>M s
  | .j _::r,Q,e,s=>AWL P N rk r Q e s
def C0b (id:Nat):List It→Option (List It)
  | []=>none
  | .b i::r=>if id=i then some r else C0b id r
  |_::r=>C0b id r
section
variable {P:Program}{N:Nat}{rk:Option Key}{s:St}{Q:Ex→St→Prop}{r:List It}
theorem G0: ∀{r:List It},Q .ret s→AWL P N rk r Q .ret s
  | [],h=>h
  | .c _::r,h=>G0 (r:=r) h
  | .b _::r,h=>G0 (r:=r) h
  | .j _::r,h=>G0 (r:=r) h
theorem C2 {id:Nat}{r':List It}: ∀{r:List It},C0b id r=some r'→AWL P N rk r' Q .nrm s→AWL P N rk r Q (.ext id) s
  | [],h,_=>by simp [C0b]at h
  | .c _::r,h,q=>C2 (r:=r) h q
  | .j _::r,h,q=>C2 (r:=r) h q
  | .b i::r,h,q=>by
    simp only [C0b]at h
    simp only [AWL]
    by_cases e:id=i
    ·rw [if_pos e]at h ⊢;cases h;exact q
    ·rw [if_neg e]at h ⊢;exact C2 h q
theorem B7p {id:Nat}: ∀{r:List It},C0b id r=none→Q (.ext id) s→AWL P N rk r Q (.ext id) s
  | [],_,q=>q
  | .c _::r,h,q=>B7p (r:=r) h q
  | .j _::r,h,q=>B7p (r:=r) h q
  | .b i::r,h,q=>by
    simp only [C0b]at h
    simp only [AWL]
    by_cases e:id=i
    ·rw [if_pos e]at h;cases h
    ·rw [if_neg e]at h ⊢;exact B7p h q
theorem C9k {a:AC}(h:AWL P N rk [.c a] Q .nrm s):AW P N rk a s Q:=h
theorem B1 (h:AWL P N rk r Q .nrm s):AWL P N rk (.c .skip::r) Q .nrm s:=C2k h
theorem J3 {id:Nat}(h:AWL P N rk r Q .nrm s):AWL P N rk (.b id::r) Q .nrm s:=h
theorem A7 {a b:AC}(h:AWL P N rk (.c a:: .c b::r) Q .nrm s):AWL P N rk (.c (.seq a b)::r) Q .nrm s:=by
  refine B1m (AW.mono h ?_)
  intro e s' hs
  cases e<;>exact hs
theorem A9 {a:AC}{id:Nat}(h:AWL P N rk (.c a:: .b id::r) Q .nrm s):AWL P N rk (.c (.block id a)::r) Q .nrm s:=by
  refine C06 (AW.mono h ?_)
  intro e s' hs
  cases e<;>exact hs
theorem C9l {a:AC}(h:AWL P N rk (.c a::r) Q .nrm s):AWL P N rk (.c (.scope a)::r) Q .nrm s:=C7n h
theorem B4 (h:Q .ret s):AWL P N rk (.c .ret::r) Q .nrm s:=C5l (G0 h)
theorem B4w {id:Nat}{r':List It}(hp:C0b id r=some r')(h:AWL P N rk r' Q .nrm s):AWL P N rk (.c (.exit id)::r) Q .nrm s:=C2l (C2 hp h)
theorem C5 {id:Nat}(hp:C0b id r=none)(h:Q (.ext id) s):AWL P N rk (.c (.exit id)::r) Q .nrm s:=C2l (B7p hp h)
theorem C5x {o:Opd}{a b:AC}(c:Bool)(hc:ev s.t o= .d (.v (.bool c)))(h1:c=true→AWL P N rk (.c a::r) Q .nrm s)(h2:c=false→AWL P N rk (.c b::r) Q .nrm s):AWL P N rk (.c (.cond o a b)::r) Q .nrm s:=
  B7o hc h1 h2
theorem B3i {o:Opd}{a b:AC}(hc:ev s.t o= .d (.v (.bool true)))(h1:AWL P N rk (.c a::r) Q .nrm s):AWL P N rk (.c (.cond o a b)::r) Q .nrm s:=
  C2m hc h1
theorem B27 {o:Opd}{a b:AC}(hc:ev s.t o= .d (.v (.bool false)))(h1:AWL P N rk (.c b::r) Q .nrm s):AWL P N rk (.c (.cond o a b)::r) Q .nrm s:=
  C2m hc h1
theorem B5 {a:AC}{s0:St}(S:Sb s0 s)(h:AWL P N rk (.c a::r) Q .nrm s0):AWL P N rk (.c a::r) Q .nrm s:=C7v S h
theorem C7 {aops:List AOp}{l:List (Nat×AV)}{g:List (Key×Option Blk)}(h: ∀u,(∀k,G g k≠none→k.2≠u)→T9 P u aops (T l) (G g) fun t h=>AWL P N rk r Q .nrm ⟨t,h⟩):AWL P N rk (.c (.reg aops)::r) Q .nrm ⟨T l,G g⟩:=
  B3h h
theorem I0 {aops:List AOp}{l:List (Nat×AV)}{g:List (Key×Option Blk)}(hn:noI aops=true)(h: ∀u,(∀k,G g k≠none→k.2≠u)→T9 P u aops (T l) (G g) fun t h=>AWL P N rk r Q .nrm ⟨t,h⟩):AWL P N rk (.c (.draw aops [])::r) Q .nrm ⟨T l,G g⟩:=
  C5o hn h
theorem B28 {a:AC}(h:AWL P N rk (.c a:: .c (.loop a)::r) Q .nrm s):AWL P N rk (.c (.loop a)::r) Q .nrm s:=fun M c hc=>by
  obtain ⟨x,rfl,h1⟩:=A1k hc
  intro w I ρ act hs ro hro b k cs hb
  obtain ⟨e,a',w',⟨s',I',ρ',hq,hs',htr,hnd⟩,harr⟩:=h M x h1 w I ρ act hs ro hro b (.inLoop x::k) cs hb
  cases e with
  |nrm=>
   obtain ⟨e2,a2,w2,⟨s2,I2,ρ2,q2,hs2,tr2,nd2⟩,harr2⟩:=hq M (.loop x) (by simp only [A1x,h1,Option.map_some]) w' I' ρ' a' hs' ro (hro.mono htr.rho) b k cs hb
   refine ⟨e2,a2,w2,⟨s2,I2,ρ2,q2,hs2,htr.trans tr2,hnd.trans htr.size nd2⟩,?_⟩
   -- the loop's head comes again
   have e1:step P (lone (atR b a' (.inLoop x::k)) cs w')= .next (lone (atR b a' (.code x:: .inLoop x::k)) cs w'):=C0v
   have e2':step P (lone (atR b a' (.code (.loop x)::k)) cs w')= .next (lone (atR b a' (.code x:: .inLoop x::k)) cs w'):=B7t
   have hst:Steps P (lone (atR b act (.code (.loop x)::k)) cs w) (lone (atR b a' (.code x:: .inLoop x::k)) cs w'):= .head B7t (Steps.trans harr (.one e1))
   have key: ∀{m m1 m2:Machine},step P m= .next m1→m≠m2→Steps P m m2→Steps P m1 m2:=by
     rintro m m1 m2 hm hne ⟨n,hn⟩
     cases n with
     |zero=>simp [runN]at hn;exact absurd hn hne
     |succ n=>rw [runN,hm]at hn;exact ⟨n,hn⟩
   have hne: ∀{a2:Act} {w2:World} {k':List Item},k'≠ .code (.loop x)::k→lone (atR b a' (.code (.loop x)::k)) cs w'≠lone (atR b a2 k') cs w2:=by
     intro a2 w2 k' hk e
     have:(atR b a' (.code (.loop x)::k)).todo=(atR b a2 k').todo:=by
       simp only [lone,Machine.mk.injEq]at e
       simp at e
       rw [e.2]
     exact hk this.symm
   cases e2 with
   |nrm=>exact Steps.trans hst (key e2' (hne (fun e=>by have:=congrArg List.length e;simp at this)) harr2)
   |ext id=>
    obtain ⟨k',h1,h2⟩:=harr2
    exact ⟨k',Steps.trans hst (key e2' (hne (fun e=>by simp at e)) h1),h2⟩
   |ret=>
    obtain ⟨k',h1⟩:=harr2
    exact ⟨k',Steps.trans hst (key e2' (hne (fun e=>by simp at e)) h1)⟩
  |ext id=>
   obtain ⟨k',hs1,he⟩:=harr
   exact ⟨.ext id,a',w',⟨s',I',ρ',hq,hs',htr,hnd⟩,k', .head B7t hs1,by rw [he];rfl⟩
  |ret=>
   obtain ⟨k',hs1⟩:=harr
   exact ⟨.ret,a',w',⟨s',I',ρ',hq,hs',htr,hnd⟩,k', .head B7t hs1⟩
theorem E7 {x:AC}(M:St→Prop)(h1:AWL P N rk (.c x:: .j M::r) Q .nrm s)(h2: ∀s',M s'→AWL P N rk r Q .nrm s'):AWL P N rk (.c x::r) Q .nrm s:=by
  refine AW.mono h1 ?_
  intro e s' hs
  cases e with
  |nrm=>exact h2 s' hs
  |ext id=>exact hs
  |ret=>exact hs
end
end Go.Abs
namespace Go.Abs
open Go
/-! ### Plain functions that the programs are turned into -/
section plain
variable {α σ τ:Type}
/-- An element of a list, by a number of Go. -/
def D0 (xs:List α)(n:Int):Option α:=if 0≤n then xs[n.toNat]? else none
/-- Two lists together, of a bearable length. -/
def A83 (xs ys:List α):Option (List α):=if xs.length+ys.length≤1000000000 then some (xs++ys)else none
/-- A part of a list. -/
def D0s (xs:List α)(i j:Int):Option (List α):=if 0≤i∧i≤j∧j≤xs.length then some ((xs.take j.toNat).drop i.toNat)else none
/-- A list with another element at a place. -/
def B92 (xs:List α)(n:Int)(v:α):List α:=xs.set n.toNat v
def C9m (k:IntKind)(a b:Int):Option Int:=if b=0 then none else some (k.wrap (a.tdiv b))
def C2r (a b:Int):Option Int:=if b=0 then none else some (a.tmod b)
/-- What comes of a loop's round: the next one, or the loop's end. -/
inductive Stp (σ τ:Type) where
  |go (s:σ)
  |out (t:τ)
def loopN (f:σ→Option (Stp σ τ)):Nat→σ→Option τ
  |0,_=>none
  |n+1,s=>match f s with
   |none=>none
   |some (.go s')=>loopN f n s'
   |some (.out t)=>some t
theorem C4r (f:σ→Option (Stp σ τ)): ∀(n:Nat) (s:σ) (t:τ),loopN f n s=some t→loopN f (n+1) s=some t:=by
  intro n
  induction n with
  |zero=>intro s t h;cases h
  |succ n ih=>
   intro s t h
   rw [loopN]at h ⊢
   cases hf:f s with
   |none=>rw [hf]at h;cases h
   |some x=>
    rw [hf]at h
    cases x with
    |go s'=>exact ih s' t h
    |out t'=>exact h
theorem C3i (f:σ→Option (Stp σ τ)){n m:Nat}(hn:n≤m){s:σ}{t:τ}(h:loopN f n s=some t):loopN f m s=some t:=by
  induction hn with
  |refl=>exact h
  |step _ ih=>exact C4r f _ _ _ ih
open Classical in
/-- The loop: its end, if there is one. -/
noncomputable def loop (f:σ→Option (Stp σ τ))(s:σ):Option τ:=if h: ∃n t,loopN f n s=some t then some h.choose_spec.choose else none
theorem loop_some {f:σ→Option (Stp σ τ)}{s:σ}{t:τ}:loop f s=some t↔∃n,loopN f n s=some t:=by
  unfold loop
  constructor
  ·intro h
   split at h
   ·rename_i hx
    cases h
    exact ⟨hx.choose,hx.choose_spec.choose_spec⟩
   ·cases h
  ·rintro ⟨n,hn⟩
   have hx: ∃n t,loopN f n s=some t:=⟨n,t,hn⟩
   rw [dif_pos hx]
   have h1:=hx.choose_spec.choose_spec
   have h2:=C3i f (Nat.le_max_left n hx.choose) hn
   have h3:=C3i f (Nat.le_max_right n hx.choose) h1
   rw [h2]at h3
   exact h3.symm
/-- A loop over a list's elements. -/
def loopL (f:σ→α→Option (Stp σ τ))(e:σ→τ):List α→σ→Option τ
  | [],s=>some (e s)
  |a::l,s=>match f s a with
   |none=>none
   |some (.go s')=>loopL f e l s'
   |some (.out t)=>some t
/-- What comes behind an end: the rest, or a return. -/
def thenS {β γ:Type}(x:Option (Sum σ β))(f:σ→Option γ)(g:β→Option γ):Option γ:=match x with
  |some (.inl s)=>f s
  |some (.inr b)=>g b
  |none=>none
theorem C4s {β γ:Type}{x:Option (Sum σ β)}{f:σ→Option γ}{g:β→Option γ}{r:γ}(h:thenS x f g=some r): ∃y,x=some y∧Sum.elim f g y=some r:=by
  cases x with
  |none=>cases h
  |some y=>cases y<;>exact ⟨_,rfl,h⟩
theorem B9 {b:Bool}{x y z:α}(hb:b=true)(h:cond b x y=z):x=z:=by subst hb;exact h
theorem D0t {b:Bool}{x y z:α}(hb:b=false)(h:cond b x y=z):y=z:=by subst hb;exact h
theorem B29 {β:Type}{f:α→β}{xs:List α}{n:Int}{v:α}(h:D0 xs n=some v):0≤n∧n.toNat<xs.length∧(xs.map f)[n.toNat]? =some (f v):=by
  unfold D0 at h
  split at h
  ·rename_i hn
   refine ⟨hn,(List.getElem?_eq_some_iff.1 h).1,by rw [List.getElem?_map,h];rfl⟩
  ·cases h
theorem A7m {xs ys zs:List α}(h:A83 xs ys=some zs):xs.length+ys.length≤1000000000∧zs=xs++ys:=by
  unfold A83 at h
  split at h
  ·cases h;exact ⟨‹_›,rfl⟩
  ·cases h
theorem C5y {xs zs:List α}{i j:Int}(h:D0s xs i j=some zs):0≤i∧i≤j∧j≤xs.length∧zs=(xs.take j.toNat).drop i.toNat:=by
  unfold D0s at h
  split at h
  ·cases h;rename_i hc;exact ⟨hc.1,hc.2.1,hc.2.2,rfl⟩
  ·cases h
theorem C5z {k:IntKind}{a b c:Int}(h:C9m k a b=some c):b≠0∧c=k.wrap (a.tdiv b):=by
  unfold C9m at h
  split at h
  ·cases h
  ·cases h;exact ⟨‹_›,rfl⟩
theorem C60 {a b c:Int}(h:C2r a b=some c):b≠0∧c=a.tmod b:=by
  unfold C2r at h
  split at h
  ·cases h
  ·cases h;exact ⟨‹_›,rfl⟩
end plain
/-- A slice of the run's own, or nil: by what it holds. -/
def oS {α:Type}(xs:List α)(k:Key):AV:=match xs with
  | []=> .d .nilS
  |_=> .sl k
def oB {α:Type}(ty:TypeId)(sz:Nat)(f:α→List D)(xs:List α):Option Blk:=match xs with
  | []=>none
  |_=>some (.arr ty sz (xs.map f))
/-- The value of a guarded operation. -/
def gd (c b:Bool)(v:AV):AV:=if c=b then v else .d (.tup [])
theorem C61 {c b:Bool}{v:AV}(h: ¬c=b):gd c b v= .d (.tup []):=if_neg h
theorem A4 {c b:Bool}{v:AV}(h:c=b):gd c b v=v:=if_pos h
section
variable {P:Program}{u:Nat}{r:List AOp}{l:List (Nat×AV)}{g:List (Key×Option Blk)}{K:(Nat→AV)→J4→Prop}
theorem A1 (hk:K (T l) (G g)):T9 P u [] (T l) (G g) K:=A1l hk
theorem C0 {d:Nat}{k:AK}(v:AV)(h0:A54 k=0)(hv:S8 (T l) (G g) k=some v)(hk:T9 P u r (T ((d,v)::l)) (G g) K):T9 P u (⟨some d,k,none⟩::r) (T l) (G g) K:=D5 v h0 hv hk
theorem C7w {d:Nat}{k:AK}(v:AV)(b:Blk)(h0:B90 k=true)(hv:B77 u d (T l) k=some (v,b))(hk:T9 P u r (T ((d,v)::l)) (G (((d,u),some b)::g)) K):T9 P u (⟨some d,k,none⟩::r) (T l) (G g) K:=C5r v b h0 hv hk
theorem B2a {n:Nat}{p x:Opd}(k:Key)(off:Nat)(ty:TypeId)(bs cs:List AV)(hx:A93 (ev (T l) x)=some cs)(hn:cs.length=n)(hp:ev (T l) p= .ptr k off)(hb:G g k=some (.box ty bs))(hl:off+n≤bs.length)(bs':List AV)(he:B4k bs off cs=bs')
    (hk:T9 P u r (T l) (G ((k,some (.box ty bs'))::g)) K):T9 P u (⟨none, .store n p x,none⟩::r) (T l) (G g) K:=
  C3h k off ty bs cs hx hn hp hb hl (by rw [he];exact hk)
theorem B7q: ∀xs:List D,B3f (xs.map .d)=some xs
  | []=>rfl
  |x::r=>by simp [B3f,B7q r]
/-- A store into an element. -/
theorem B4f {α:Type}{n off sz:Nat}{p x:Opd}(f:α→List D)(q:Key)(ty:TypeId)(xs:List α)(i:Int)(a b:α)(ds:List D)(hx:A93 (ev (T l) x)=some (ds.map .d))(hn:ds.length=n)(hp:ev (T l) p= .aptr q sz i.toNat off)(hb:G g q=some (.arr ty sz (xs.map f)))(ha:D0 xs i=some a)
    (hl:off+n≤(f a).length) (he:B4k (f a) off ds=f b) (hk:T9 P u r (T l) (G ((q,some (.arr ty sz ((B92 xs i b).map f)))::g)) K):T9 P u (⟨none, .store n p x,none⟩::r) (T l) (G g) K:=by
  refine C5s q sz i.toNat off ty (xs.map f) (f a) (ds.map .d) ds hx (by simpa using hn) hp hb (B29 ha).2.2 (B7q ds) hl ?_
  rw [he]
  have:(xs.map f).set i.toNat (f b)=(B92 xs i b).map f:=by rw [B92,List.map_set]
  rw [this]
  exact hk
theorem B64 {α:Type}{d e sz:Nat}{ty:TypeId}{x y:Opd}(f:α→List D)(k:Key)(xs ys zs:List α)(hy:A0g (G g) sz (ev (T l) y)=some (ys.map f))(hx:ev (T l) x= .sl k)(hb:G g k=some (.arr e sz (xs.map f)))(hl:A83 xs ys=some zs)
    (hk:T9 P u r (T ((d, .sl (d,u))::l)) (G (((d,u),some (.arr e sz (zs.map f)))::(k,none)::g)) K):T9 P u (⟨some d, .append ty e sz x y,none⟩::r) (T l) (G g) K:=by
  obtain ⟨h1,rfl⟩:=A7m hl
  refine C5u k (xs.map f) (ys.map f) hy hx hb (by simpa using h1) ?_
  rw [← List.map_append]
  exact hk
theorem C9n {α:Type}{ty:TypeId}{sz:Nat}{f:α→List D}{xs:List α}(h:xs≠ []):oB ty sz f xs=some (.arr ty sz (xs.map f)):=by cases xs<;>first|exact absurd rfl h|rfl
theorem A6z {α:Type}{k:Key}{xs:List α}(h:xs≠ []):oS xs k= .sl k:=by cases xs<;>first|exact absurd rfl h|rfl
theorem A00 {α:Type}{xs zs:List α}{y:α}{ys:List α}(h:A83 xs (y::ys)=some zs):zs≠ []:=by
  obtain ⟨_,rfl⟩:=A7m h;simp
/-- One or more elements behind a slice of the run's own, or behind nil. -/
theorem U6 {α:Type}{d e sz:Nat}{ty:TypeId}{x y:Opd}(f:α→List D)(k:Key)(xs:List α)(v:α)(ys zs:List α)(hy:A0g (G g) sz (ev (T l) y)=some ((v::ys).map f))(hx:ev (T l) x=oS xs k)(hb:G g k=oB e sz f xs)(hl:A83 xs (v::ys)=some zs)
    (hk:T9 P u r (T ((d, .sl (d,u))::l)) (G (((d,u),some (.arr e sz (zs.map f)))::(k,none)::g)) K):T9 P u (⟨some d, .append ty e sz x y,none⟩::r) (T l) (G g) K:=by
  cases xs with
  |nil=>
   obtain ⟨h1,rfl⟩:=A7m hl
   refine C4q (f v) (ys.map f) hy hx (by simpa using h1) ?_
   have:upd (G g) (d,u) (some (.arr e sz (f v::ys.map f)))=G (((d,u),some (.arr e sz (([]++v::ys).map f)))::(k,none)::g):=by
     rw [C8i,C8i,List.nil_append,List.map_cons]
     have:upd (G g) k none=G g:=by
       funext q
       simp only [upd]
       split
       ·rename_i e;subst e;rw [hb];rfl
       ·rfl
     rw [this]
   rw [this]
   exact hk
  |cons x0 xs=>exact B64 f k (x0::xs) (v::ys) zs hy hx hb hl hk
end
end Go.Abs
namespace Go.Abs
open Go
section
variable {P:Program}{N:Nat}{rk:Option Key}{s:St}{Q:Ex→St→Prop}{r:List It}
theorem G5 {σ τ γ:Type}{a:AC}(f:σ→Option (Stp σ τ))(st:σ→γ→St)(x0:σ)(g0:γ)(y:τ)(hx:loop f x0=some y)(hs0:Sb (st x0 g0) s)
    (h: ∀x g z,f x=some z→(∀t,z= .out t→t=y)→AWL P N rk [.c a] (fun e s'=>match z with| .go x'=>e= .nrm∧∃g',Sb (st x' g') s'| .out _=>e≠ .nrm∧AWL P N rk r Q e s') .nrm (st x g)):
    AWL P N rk (.c (.loop a)::r) Q .nrm s:=by
  obtain ⟨n,hn⟩:=loop_some.1 hx
  refine C5m (fun n s=> ∃x g,loopN f n x=some y∧Sb (st x g) s) n ⟨x0,g0,hn,hs0⟩ ?_
  rintro n s1 ⟨x,g,hl,hsb⟩
  refine C7v hsb ?_
  cases n with
  |zero=>cases hl
  |succ n=>
   rw [loopN]at hl
   cases hf:f x with
   |none=>rw [hf]at hl;cases hl
   |some z=>
    rw [hf]at hl
    refine AW.mono (h x g z hf (fun t ht=>by subst ht;cases hl;rfl)) ?_
    intro e s2 hq
    cases z with
    |go x'=>
     obtain ⟨rfl,g',hs'⟩:=hq
     exact ⟨n,by omega,x',g',hl,hs'⟩
    |out t=>
     obtain ⟨hne,hq⟩:=hq
     cases e with
     |nrm=>exact absurd rfl hne
     |ext id=>exact hq
     |ret=>exact hq
/-- A function over which a loop ranges: it hands on the elements, one after the other. -/
def C8j (P:Program)(c:D)(L:List (List D)):Prop:= ∃gf fs cs,c= .fn (.func gf) fs cs∧∀(k:Key) (h0:J4) (Inv:Nat→J4→Prop) (Stop:J4→Prop),Inv 0 h0→
  (∀i h es,L[i]? =some es→Inv i h→YCall P k (es.map .d) h fun v h'=>(v= .d (.v (.bool true))∧Inv (i+1) h')∨(v= .d (.v (.bool false))∧Stop h'))→
   ICall P gf (fs.map .d++ [.yld k]++cs.map .d) h0 fun _ h'=>Inv L.length h'∨Stop h'
theorem B9o {σ τ α:Type}{f:σ→α→Option (Stp σ τ)}{e:σ→τ}{L:List α}{i:Nat}{x:σ}{y:τ}{a:α}(hi:L[i]? =some a)(h:loopL f e (L.drop i) x=some y):
    ∃z,f x a=some z∧match z with| .go x'=>loopL f e (L.drop (i+1)) x'=some y| .out t=>t=y:=by
  have hlt:=(List.getElem?_eq_some_iff.1 hi).1
  rw [List.drop_eq_getElem_cons hlt,loopL]at h
  have ha:L[i]=a:=by rw [List.getElem?_eq_getElem hlt]at hi;exact Option.some.inj hi
  rw [ha]at h
  cases hf:f x a with
  |none=>rw [hf]at h;cases h
  |some z=>
   rw [hf]at h
   refine ⟨z,rfl,?_⟩
   cases z with
   |go x'=>exact h
   |out t=>exact Option.some.inj h
/-- What a round of a loop over a function leaves. -/
def D0u (P:Program)(N:Nat)(rk:Option Key)(r:List It)(Q:Ex→St→Prop)(tl:Nat→AV)(k:Key)(r0:Loop){σ τ γ:Type}(st:σ→γ→List (Key×Option Blk))(z:Stp σ τ)(e:Ex)(s:St):Prop:=
  s.h k=some (.obj tl {r0 with state:= .busy})∧match z with
    | .go x'=>e= .nrm∧∃g',Sb ⟨T [],G (st x' g')⟩ ⟨T [],s.h⟩
    | .out _=>e≠ .nrm∧AWL P N rk r Q e ⟨tl,upd s.h k none⟩
theorem C3j {σ τ α γ:Type}{f:Opd}{ps:List Nat}{as bd:AC}{tl:List (Nat×AV)}{g0:List (Key×Option Blk)}(c:D)(enc:α→List D)(L:List α)(F:σ→α→Option (Stp σ τ))(E:σ→τ)(st:σ→γ→List (Key×Option Blk))(x0:σ)(gg0:γ)(y:τ)
    (hf:ev (T tl) f= .d c) (hI:C8j P c (L.map enc)) (hps: ∀a,(enc a).length=ps.length) (hx:loopL F E L x0=some y) (hs0:Sb ⟨T [],G (st x0 gg0)⟩ ⟨T [],G g0⟩) (hrk: ∀kk,rk=some kk→∃t r,G g0 kk=some (.obj t r))
    (hround: ∀u,(∀q,G g0 q≠none→q.2≠u)→rk≠some (1000000,u)→(∀x gg,G (st x gg) (1000000,u)=none)∧
      ∀r0 x gg a z,r0.state= .ready→F x a=some z→(∀t,z= .out t→t=y)→
       AWL P N (some (1000000,u)) [.c as, .j (fun s1=>s1.h (1000000,u)=some (.obj (T tl) r0)∧
         AWL P N (some (1000000,u)) [.c bd] (D0u P N rk r Q (T tl) (1000000,u) r0 st z) .nrm ⟨s1.t,upd s1.h (1000000,u) (some (.obj (T tl) {r0 with state:= .busy}))⟩)] (fun _ _=>False) .nrm
         ⟨B4v (T tl) ps ((enc a).map .d),G ((((1000000,u),some (.obj (T tl) r0)):Key×Option Blk)::st x gg)⟩)
    (hend: ∀x gg s',y=E x→Sb ⟨T tl,G (st x gg)⟩ s'→AWL P N rk r Q .nrm s'):AWL P N rk (.c (.rangeF f ps as bd)::r) Q .nrm ⟨T tl,G g0⟩:=by
  obtain ⟨gf,fs,cs,rfl,hI⟩:=hI
  refine C1i (gf:=gf) (fs:=fs.map .d) (cs:=cs.map .d) (by show D04 (ev (T tl) f)=_;rw [hf];rfl) hrk ?_
  intro u r0 M hu hkn hrkne hst hpd hpar hsize hpsN has hbd
  obtain ⟨hkst,hr⟩:=hround u hu hrkne
  have hkn:G g0 (1000000,u)=none:=hkn
  refine ICall.mono ?_ (hI (1000000,u) (upd (G g0) (1000000,u) (some (.obj (T tl) r0)))
    (fun i h=> ∃x gg,loopL F E (L.drop i) x=some y∧h (1000000,u)=some (.obj (T tl) r0)∧Sb ⟨T [],G (st x gg)⟩ ⟨T [],h⟩)
    (C9j (1000000,u) (T tl) (AWL P N rk r Q)) ?_ ?_)
  ·rintro v h' (⟨x,gg,h1,h2,h3⟩|h)
   ·rw [show (L.map enc).length=L.length from List.length_map ..,List.drop_length,loopL]at h1
    refine ⟨T tl,r0,h2,by rw [hst];simp,?_⟩
    rw [hpd]
    refine hend x gg _ (Option.some.inj h1).symm ⟨fun i=> .refl _,fun q b0 hb=> ?_⟩
    obtain ⟨b,e1,e2⟩:=h3.h q b0 hb
    refine ⟨b,?_,e2⟩
    have:q≠(1000000,u):=by rintro rfl;exact absurd ((hkst _ _).symm.trans hb) (by simp)
    show upd h' _ none q=some b
    rw [M1 _ _ _ _ this];exact e1
   ·exact h
  ·refine ⟨x0,gg0,by rw [List.drop_zero];exact hx,D1 _ _ _,fun i=> .refl _,fun q b0 hb=> ?_⟩
   obtain ⟨b,e1,e2⟩:=hs0.h q b0 hb
   refine ⟨b,?_,e2⟩
   have:q≠(1000000,u):=by rintro rfl;exact absurd ((hkst _ _).symm.trans hb) (by simp)
   show upd (G g0) _ _ q=some b
   rw [M1 _ _ _ _ this];exact e1
  ·rintro i h es hes ⟨x,gg,h1,h2,h3⟩
   obtain ⟨a,ha,rfl⟩:=B89 hes
   obtain ⟨z,hz,hz2⟩:=B9o ha h1
   have hround:=hr r0 x gg a z hst hz (fun t ht=>by subst ht;exact hz2)
   have hsb:Sb ⟨B4v (T tl) ps ((enc a).map .d),G ((((1000000,u),some (.obj (T tl) r0)):Key×Option Blk)::st x gg)⟩ ⟨B4v (T tl) ps ((enc a).map .d),h⟩:=by
     refine ⟨fun i=> .refl _,fun q b0 hb=> ?_⟩
     by_cases e:q=(1000000,u)
     ·subst e
      have hb:=G_hit.symm.trans hb
      cases hb
      exact ⟨_,h2, .refl _⟩
     ·have hb:G (((1000000,u),some (.obj (T tl) r0))::st x gg) q=some b0:=hb
      rw [G,if_neg e]at hb
      exact h3.h q b0 hb
   refine C3f (M:=M) (as:=as) (bd:=bd) h2 (by rw [List.length_map,hps a,← hpar];simp) hsize (by rw [hpar];exact hpsN) has hbd ?_
   rw [hpar]
   have hround:=C7v hsb hround
   refine AW.mono hround ?_
   intro e s1 hs1
   cases e with
   |ext id=>exact absurd hs1 (by simp [AWL])
   |ret=>exact absurd hs1 (by simp [AWL])
   |nrm=>
    obtain ⟨q1,q2⟩:=hs1
    refine ⟨rfl,T tl,r0,q1,hst,?_⟩
    refine AW.mono q2 ?_
    rintro e s2 ⟨w1,w2⟩
    refine ⟨T tl,_,w1,?_⟩
    cases z with
    |go x'=>
     obtain ⟨rfl,g',hg'⟩:=w2
     refine .inl ⟨rfl,x',g',hz2,?_,fun i=> .refl _,fun q b0 hb=> ?_⟩
     ·show upd s2.h _ _ _=_
      rw [D1]
      have:({state:= .ready,pending:=none,fn:=r0.fn,tmps:=r0.tmps,params:=r0.params,assign:=r0.assign,body:=r0.body,defers:=r0.defers}:Loop)=r0:=by
        cases r0
        simp only at hst hpd
        subst hst hpd
        rfl
      exact congrArg (fun r=>some (Blk.obj (T tl) r)) this
     ·obtain ⟨b,e1,e2⟩:=hg'.h q b0 hb
      refine ⟨b,?_,e2⟩
      have:q≠(1000000,u):=by rintro rfl;exact absurd ((hkst _ _).symm.trans hb) (by simp)
      show upd s2.h _ _ q=some b
      rw [M1 _ _ _ _ this];exact e1
    |out t=>
     obtain ⟨hne,hq⟩:=w2
     cases e with
     |nrm=>exact absurd rfl hne
     |ext id=>
      refine .inr ⟨rfl,T tl,_,D1 _ _ _,by simp,?_⟩
      dsimp only
      rw [C09];exact hq
     |ret=>
      refine .inr ⟨rfl,T tl,_,D1 _ _ _,by simp,?_⟩
      dsimp only
      rw [C09];exact hq
end
end Go.Abs
namespace Go.Abs
open Go
abbrev i64 (n:Int):D:= .v (.int .i64 n)
abbrev w64 (n:Int):Int:=IntKind.i64.wrap n
abbrev bo (b:Bool):D:= .v (.bool b)
abbrev st8 (s:ByteArray):D:= .v (.string s)
/-- A value with a name of its own. -/
def letv {α β:Type}(a:α)(f:α→β):β:=f a
theorem PCall.le {P:Program}{f:FuncId}{ds ds':List D}{r:D}(h:PCall P f ds' r)(hd:All2 DLe ds ds'):PCall P f ds r:=
  ⟨h.1,fun w I vs hI hl hr=>h.2 w I vs hI (by rw [← hd.length];exact hl) fun i d hi=>by obtain ⟨a,e1,e2⟩:=hd.get hi;exact e2 _ _ _ (hr i a e1)⟩
/-- An empty slice, whatever it is. -/
theorem PCall.nil {P:Program}{f:FuncId}{r:D}(h: ∀A cap,PCall P f [.v (.slice A 0 cap)] r):PCall P f [.list []] r:=
  ⟨(h none 0).1,fun w I vs hI hl hr=>by
    match vs,hl with
    | [v],_=>
      have h0:RepD w I (.list []) v:=hr 0 _ rfl
      cases h0 with
      |lnil A cap=>exact (h A cap).2 w I [_] hI rfl (fun i d hi=>by
         cases i with
         |zero=>cases hi;exact .v _
         |succ i=>simp at hi)
      |list _ _ _ _ _ hne=>exact absurd rfl hne⟩
section
variable {P:Program}{N:Nat}{rk:Option Key}{s:St}{Q:Ex→St→Prop}{r:List It}
theorem l_j {M:St→Prop}(h:M s):AWL P N rk (.j M::r) Q .nrm s:=h
theorem I3 (h:Q .nrm s):AWL P N rk [] Q .nrm s:=h
theorem B8 {f:FuncId}{rs:List RV}{ac:AC}(F:FnOK P f N rs ac){args:List D}{d:D}(hl:args.length≤N)
    (h:AWL P N none [.c ac] (fun e s=>(e= .nrm∨e= .ret)∧∃d',C3c s.t s.h rs=some d'∧DLe d' d) .nrm ⟨T (C9h 0 args),G []⟩):PCall P f args d:=by
  refine ⟨F.enters,?_⟩
  obtain ⟨fn,c,hf,hb,hN,hrs,⟨M,hc⟩,hn⟩:=F.ex
  intro w I vs hI hlen hrep
  have H0:HeapOK w I (fun _=>none) (fun _=>none):=⟨fun k b hb=>(by cases hb),fun k k' b b' g h1=>(by cases h1),fun k b g h1=>(by cases h1),fun k b g h1=>(by cases h1),hI,⟨0,fun _ _ _=>rfl⟩,fun k y hy=>(by cases hy)⟩
  have hsim:=B61 (n:=N) (args:=args.map .d) (h:=fun _=>none) H0 (by simpa using hlen) (by omega) (fun i c hc=>by
    rw [List.getElem?_map]at hc
    cases hq:args[i]? with
    |none=>rw [hq]at hc;cases hc
    |some q=>rw [hq]at hc;cases hc;exact .d _ _ (hrep i q hq))
  have e:C7p (args.map .d)=D03 args:=by
    funext i
    simp only [C7p,D03,List.getD,List.getElem?_map]
    cases args[i]? <;>rfl
  rw [e,C9i,← hN]at hsim
  have e0:(fun _=>none:J4)=G []:=by funext q;rfl
  rw [e0]at hsim
  refine A97 (Q:=fun e s=>(e= .nrm∨e= .ret)∧∃d',C3c s.t s.h rs=some d'∧DLe d' d) hf hb rfl hsim (by rw [hN];exact h M c hc) ?_
  rintro e s' a' w' I' ρ' ⟨he,d',hres,hle⟩ hs' tr
  have hownI: ∀b,own ρ' s'.h b→¬b<w.heap.size:=fun b hb hlt=>by
    obtain ⟨k,x,h1,_⟩:=tr.ownBack b hb hlt
    cases h1
  have hptr:PTr w I w' (fun b=>I' b∨own ρ' s'.h b):=by
    refine ⟨tr.os,tr.tape,tr.output,tr.size,fun b hb=>tr.frame b hb (fun ⟨k,x,h1,_⟩=>by cases h1),fun b hb=> .inl (tr.imm b hb),fun b hb hlt=> ?_,fun b hb=> ?_⟩
    ·rcases hb with hb|hb
     ·rcases tr.immBack b hb hlt with h|⟨k,x,h1,_⟩
      ·exact h
      ·cases h1
     ·exact absurd hlt (hownI b hb)
    ·rcases hb with hb|hb
     ·exact hs'.heap.ilt b hb
     ·exact hs'.heap.own_lt hb
  obtain ⟨x,hx,hr⟩:=C3d hs' hrs hres
  exact ⟨he,x,hx,x,_,rfl,hle _ _ _ hr,hptr⟩
theorem A8 {t:Nat→AV}{h:J4}{rs:List RV}{d d':D}{e:Ex}(he:e= .nrm∨e= .ret)(h1:C3c t h rs=some d')(h2:DLe d' d):(e= .nrm∨e= .ret)∧∃d',C3c (⟨t,h⟩:St).t (⟨t,h⟩:St).h rs=some d'∧DLe d' d:=⟨he,d',h1,h2⟩
theorem C3k {tl:Nat→AV}{k:Key}{r0:Loop}{bd:AC}{l:List (Nat×AV)}{g:List (Key×Option Blk)}{Q':Ex→St→Prop}(h1:G g k=some (.obj tl r0))(h2:AWL P N (some k) [.c bd] Q' .nrm ⟨T l,G ((k,some (.obj tl {r0 with state:= .busy}))::g)⟩):
    (⟨T l,G g⟩:St).h k=some (.obj tl r0)∧AWL P N (some k) [.c bd] Q' .nrm ⟨(⟨T l,G g⟩:St).t,upd (⟨T l,G g⟩:St).h k (some (.obj tl {r0 with state:= .busy}))⟩:=⟨h1,h2⟩
theorem C3l {σ τ γ:Type}{tl:Nat→AV}{k:Key}{r0:Loop}{st:σ→γ→List (Key×Option Blk)}{x:σ}{g:List (Key×Option Blk)}{t:Nat→AV}(h1:G g k=some (.obj tl {r0 with state:= .busy}))(g':γ)(h2:sbG (G g) (st x g')):D0u P N rk r Q tl k r0 st (.go x:Stp σ τ) .nrm ⟨t,G g⟩:=
  ⟨h1,rfl,g',G2 trivial h2⟩
theorem C9o {σ τ γ:Type}{tl:Nat→AV}{k:Key}{r0:Loop}{st:σ→γ→List (Key×Option Blk)}{x:σ}{g:List (Key×Option Blk)}{t:Nat→AV}{s':St}(hv:Sb ⟨t,G g⟩ s')(h1:G g k=some (.obj tl {r0 with state:= .busy}))(g':γ)(h2:sbG (G g) (st x g')):D0u P N rk r Q tl k r0 st (.go x:Stp σ τ) .nrm s':=by
  obtain ⟨b,e1,e2⟩:=hv.h k _ h1
  rw [e2.obj]at e1
  refine ⟨e1,rfl,g',⟨fun _=> .refl _,fun q b0 hb=> ?_⟩⟩
  obtain ⟨b1,f1,f2⟩:=(G2 (t:=T []) (l:= []) trivial h2).h q b0 hb
  obtain ⟨b2,g1,g2⟩:=hv.h q b1 f1
  exact ⟨b2,g1,g2.trans f2⟩
theorem C62 {σ τ γ:Type}{tl:Nat→AV}{k:Key}{r0:Loop}{st:σ→γ→List (Key×Option Blk)}{y:τ}{g:List (Key×Option Blk)}{t:Nat→AV}{e:Ex}(h1:G g k=some (.obj tl {r0 with state:= .busy}))(he:e≠ .nrm)(h2:AWL P N rk r Q e ⟨tl,G ((k,none)::g)⟩):D0u P N rk r Q tl k r0 st (.out y:Stp σ τ) e ⟨t,G g⟩:=
  ⟨h1,he,h2⟩
end
theorem B0 {h:J4}{k:Key}{b b1:Blk}{l:List (Key×Option Blk)}(h1:h k=some b1)(h2:BlkLe b1 b)(hl:sbG h l):sbG h ((k,some b)::l):=⟨⟨b1,h1,h2⟩,hl⟩
theorem B3 {α:Type}{h:J4}{k:Key}{ty:TypeId}{sz:Nat}{f:α→List D}{xs:List α}{l:List (Key×Option Blk)}(h1:h k=oB ty sz f xs)(hl:sbG h l):sbG h ((k,oB ty sz f xs)::l):=by
  refine ⟨?_,hl⟩
  cases xs with
  |nil=>trivial
  |cons x xs=>exact ⟨_,h1, .refl _⟩
theorem A16 {α:Type}{h:J4}{k:Key}{ty:TypeId}{sz:Nat}{f:α→List D}{xs:List α}{l:List (Key×Option Blk)}(h1:h k=some (.arr ty sz (xs.map f)))(hl:sbG h l):sbG h ((k,oB ty sz f xs)::l):=by
  refine ⟨?_,hl⟩
  cases xs with
  |nil=>trivial
  |cons x xs=>exact ⟨_,h1, .refl _⟩
theorem A2n {α:Type}{h:J4}{k:Key}{ty:TypeId}{sz:Nat}{f:α→List D}{l:List (Key×Option Blk)}(hl:sbG h l):sbG h ((k,oB ty sz f [])::l):=⟨trivial,hl⟩
section
variable {P:Program}{u:Nat}{r:List AOp}{l:List (Nat×AV)}{g:List (Key×Option Blk)}{K:(Nat→AV)→J4→Prop}
/-- A slice that may be nil is seen to be the run's own. -/
theorem B3j {α:Type}{q:Key}{ty:TypeId}{sz:Nat}{f:α→List D}{xs:List α}{h:J4}(hb:h q=oB ty sz f xs)(hn:xs≠ []):h q=some (.arr ty sz (xs.map f)):=by rw [hb,C9n hn]
theorem A98 {α:Type}{xs:List α}{n:Int}{a:α}(h:D0 xs n=some a):xs≠ []:=by rintro rfl;simp [D0]at h
theorem C63 {α:Type}{xs:List α}{n:Int}{a:α}(h:xs≠ []):B92 xs n a≠ []:=by
  intro e
  have:=congrArg List.length e
  rw [B92,List.length_set]at this
  exact h (List.eq_nil_of_length_eq_zero this)
theorem Q5 {α:Type}{h:J4}{sz:Nat}{f:α→List D}{xs:List α}(hz: ∀a,(f a).length=sz):A0g h sz (.d (.list (xs.map f)))=some (xs.map f):=by
  have:((xs.map f).all fun e=>e.length==sz)=true:=by simp [hz]
  simp only [A0g,this,if_true]
theorem C7x {h:J4}{sz:Nat}{k:Key}{ty:TypeId}{es:List (List D)}(hb:h k=some (.arr ty sz es)):A0g h sz (.sl k)=some es:=by simp only [A0g,hb,if_true]
theorem C9p {α:Type}{h:J4}{sz:Nat}{k:Key}{ty:TypeId}{f:α→List D}{xs:List α}(hb:h k=oB ty sz f xs):A0g h sz (oS xs k)=some (xs.map f):=by
  cases xs with
  |nil=>rfl
  |cons x xs=>exact C7x hb
theorem B2 {d:Nat}{f:Opd}{args:List Opd}{fid:FuncId}{avs:List AV}{ds ds':List D}{v:D}(hc:S6 (T l) f args=some (fid,avs))(hd:Q0 (Q4 (G g) 6) avs=some ds)(hle:All2 DLe ds ds')
    (hp:PCall P fid ds' v) (ha:B3f avs=some ds∨C8d v=true) (hk:T9 P u r (T ((d, .d v)::l)) (G g) K):T9 P u (⟨some d, .call f args,none⟩::r) (T l) (G g) K:=
  B6q hc hd (hp.le hle) ha hk
end
section
variable {h:J4}
/-- What a slice that may be nil reads as. -/
def oD {α:Type}(f:α→List D)(xs:List α):D:=match xs with
  | []=> .nilS
  |_=> .list (xs.map f)
theorem A3t {α:Type}{f:α→List D}{xs:List α}:DLe (oD f xs) (.list (xs.map f)):=by
  cases xs with
  |nil=>exact .nil
  |cons x xs=>exact .refl _
theorem A3u {α:Type}{n:Nat}{k:Key}{ty:TypeId}{sz:Nat}{f:α→List D}{xs:List α}(hb:h k=oB ty sz f xs):Q4 h (n+1) (oS xs k)=some (oD f xs):=by
  cases xs with
  |nil=>rfl
  |cons x xs=>exact C5w hb
theorem B4g {n:Nat}{cs:List AV}{ds:List D}(hc:Q0 (Q4 h n) cs=some ds):Q4 h (n+1) (A31 cs)=some (.agg ds):=by
  unfold A31
  cases ha:B3f cs with
  |none=>exact D0q hc
  |some ds'=>
   rw [C27 ha]at hc
   cases hc
   exact E5
theorem A0s (cs:List AV):A93 (A31 cs)=some cs:=by
  unfold A31
  cases ha:B3f cs with
  |none=>rfl
  |some ds=>
   have: ∀{cs:List AV} {ds:List D},B3f cs=some ds→cs=ds.map .d:=by
     intro cs
     induction cs with
     |nil=>intro ds h;simp [B3f]at h;subst h;rfl
     |cons x r ih=>
      intro ds h
      cases x<;>simp only [B3f]at h<;>try cases h
      simp only [Option.map_eq_some_iff]at h
      obtain ⟨q,hq,rfl⟩:=h
      rw [ih hq];rfl
   rw [this ha];rfl
theorem A2: ∀{ds:List D},All2 DLe ds ds
  | []=> .nil
  |_::_=> .cons (.refl _) A2
theorem C4t {u d:Nat}(hu: ∀k,h k≠none→k.2≠u):h (d,u)=none:=by
  cases hq:h (d,u)with
  |none=>rfl
  |some b=>exact absurd rfl (hu (d,u) (by rw [hq];simp))
theorem Sb.after {a b c:St}(h':Sb b c)(h:Sb a b):Sb a c:=h.trans h'
end
end Go.Abs
namespace Go.Abs
open Go
/-- All literal slices are data. -/
def allD':List Nat:=(List.range 400).map (· +1000)
/-! ### What operations yield -/
section
variable {t:Nat→AV}{h:J4}
theorem D0v {x:Opd}{v:AV}(hx:ev t x=v):S8 t h (.mv x)=some v:=by rw [← hx];rfl
theorem X7 {op:BinOp}{x y:Opd}{k:IntKind}{a b:Int}{v:Value}(hx:ev t x= .d (.v (.int k a)))(hy:ev t y= .d (.v (.int k b)))(hr:C6x op k a b=some v):S8 t h (.bin op x y)=some (.d (.v v)):=by
  simp only [S8,hx,hy,hr,beq_self_eq_true,Bool.or_true,if_true,Option.map_some]
theorem R7 {n:Nat}{p:Opd}{k:Key}{off:Nat}{ty:TypeId}{bs:List AV}{v:AV}(hp:ev t p= .ptr k off)(hb:h k=some (.box ty bs))(hv:(bs.drop off).head? =some v):S8 t h (.load n false p)=some v:=by
  simp only [S8,hp,V4,hb,Bool.false_eq_true,if_false];exact hv
theorem A6 {n:Nat}{p:Opd}{k:Key}{off:Nat}{ty:TypeId}{bs:List AV}{v:AV}(hp:ev t p= .ptr k off)(hb:h k=some (.box ty bs))(hn:Nat.ble n (bs.drop off).length=true)(hv:A31 ((bs.drop off).take n)=v):S8 t h (.load n true p)=some v:=by
  have hn:=Nat.le_of_ble_eq_true hn
  simp only [S8,hp,V4,hb,if_true,hn];rw [hv]
theorem F9 {α:Type}{sz:Nat}{x i:Opd}{f:α→List D}{xs:List α}{k:IntKind}{n:Int}{a:α}(hx:ev t x= .d (.list (xs.map f)))(hi:ev t i= .d (.v (.int k n)))(hv:D0 xs n=some a)(hz:(f a).length=sz):S8 t h (.idxS sz x i)=some (.d (.lp (xs.map f) n.toNat 0)):=by
  have q:=B29 (f:=f) hv
  simp only [S8,hx,hi,q.2.2,q.1,hz,and_self,if_true]
theorem B1o {α:Type}{sz:Nat}{x i:Opd}{f:α→List D}{q:Key}{ty:TypeId}{xs:List α}{k:IntKind}{n:Int}{a:α}(hx:ev t x= .sl q)(hi:ev t i= .d (.v (.int k n)))(hb:h q=some (.arr ty sz (xs.map f)))(hv:D0 xs n=some a):S8 t h (.idxS sz x i)=some (.aptr q sz n.toNat 0):=by
  have q:=B29 (f:=f) hv
  simp only [S8,hx,hi,hb,q.1,List.length_map,q.2.1,and_self,if_true]
theorem C1k {α:Type}{sz:Nat}{x i:Opd}{f:α→List D}{q:Key}{ty:TypeId}{xs:List α}{k:IntKind}{n:Int}{a:α}(hx:ev t x=oS xs q)(hi:ev t i= .d (.v (.int k n)))(hb:h q=oB ty sz f xs)(hv:D0 xs n=some a):S8 t h (.idxS sz x i)=some (.aptr q sz n.toNat 0):=
  B1o (hx.trans (A6z (A98 hv))) hi (B3j hb (A98 hv)) hv
theorem F4 {α:Type}{n off:Nat}{p:Opd}{f:α→List D}{xs:List α}{i:Int}{a:α}{v:D}(hp:ev t p= .d (.lp (xs.map f) i.toNat off))(ha:D0 xs i=some a)(hv:((f a).drop off).head? =some v):S8 t h (.load n false p)=some (.d v):=by
  simp only [S8,hp,V4,(B29 (f:=f) ha).2.2,Option.map_some,Bool.false_eq_true,if_false]
  rw [List.head?_map,hv];rfl
theorem C6 {α:Type}{n off:Nat}{p:Opd}{f:α→List D}{xs:List α}{i:Int}{a:α}{ds:List D}(hp:ev t p= .d (.lp (xs.map f) i.toNat off))(ha:D0 xs i=some a)(hn:Nat.ble n ((f a).drop off).length=true)(hv:((f a).drop off).take n=ds):S8 t h (.load n true p)=some (.d (.agg ds)):=by
  have hn:=Nat.le_of_ble_eq_true hn
  simp only [S8,hp,V4,(B29 (f:=f) ha).2.2,Option.map_some,if_true,List.length_map,hn]
  rw [← List.map_take,A31,B7q,hv]
theorem B8b {α:Type}{n off sz:Nat}{p:Opd}{f:α→List D}{q:Key}{ty:TypeId}{xs:List α}{i:Int}{a:α}{v:D}(hp:ev t p= .aptr q sz i.toNat off)(hb:h q=some (.arr ty sz (xs.map f)))(ha:D0 xs i=some a)(hv:((f a).drop off).head? =some v):S8 t h (.load n false p)=some (.d v):=by
  simp only [S8,hp,V4,hb,if_true,(B29 (f:=f) ha).2.2,Option.map_some,Bool.false_eq_true,if_false,List.head?_map,hv]
theorem B4h {α:Type}{n off sz:Nat}{p:Opd}{f:α→List D}{q:Key}{ty:TypeId}{xs:List α}{i:Int}{a:α}{ds:List D}(hp:ev t p= .aptr q sz i.toNat off)(hb:h q=some (.arr ty sz (xs.map f)))(ha:D0 xs i=some a)(hn:Nat.ble n ((f a).drop off).length=true)(hv:((f a).drop off).take n=ds):S8 t h (.load n true p)=some (.d (.agg ds)):=by
  have hn:=Nat.le_of_ble_eq_true hn
  simp only [S8,hp,V4,hb,if_true,(B29 (f:=f) ha).2.2,Option.map_some,List.length_map,hn]
  rw [← List.map_take,A31,B7q,hv]
theorem D0w {x y:Opd}{k:IntKind}{a b v:Int}(hx:ev t x= .d (.v (.int k a)))(hy:ev t y= .d (.v (.int k b)))(hv:C9m k a b=some v):S8 t h (.bin .quo x y)=some (.d (.v (.int k v))):=by
  obtain ⟨h1,rfl⟩:=C5z hv
  exact X7 hx hy (by simp only [C6x,if_neg h1])
theorem C4u {x y:Opd}{k:IntKind}{a b v:Int}(hx:ev t x= .d (.v (.int k a)))(hy:ev t y= .d (.v (.int k b)))(hv:C2r a b=some v):S8 t h (.bin .rem x y)=some (.d (.v (.int k v))):=by
  obtain ⟨h1,rfl⟩:=C60 hv
  exact X7 hx hy (by simp only [C6x,if_neg h1])
theorem J6 {α:Type}{x:Opd}{f:α→List D}{xs:List α}(hx:ev t x= .d (.list (xs.map f))):S8 t h (.len x)=some (.d (i64 xs.length)):=by simp only [S8,hx,List.length_map]
theorem C64 {α:Type}{x:Opd}{f:α→List D}{q:Key}{ty:TypeId}{sz:Nat}{xs:List α}(hx:ev t x= .sl q)(hb:h q=some (.arr ty sz (xs.map f))):S8 t h (.len x)=some (.d (i64 xs.length)):=by simp only [S8,hx,hb,List.length_map]
theorem D0x {α:Type}{x:Opd}{f:α→List D}{q:Key}{ty:TypeId}{sz:Nat}{xs:List α}(hx:ev t x=oS xs q)(hb:h q=oB ty sz f xs):S8 t h (.len x)=some (.d (i64 xs.length)):=by
  cases xs with
  |nil=>simp only [S8,hx,oS,List.length_nil];rfl
  |cons a xs=>exact C64 (f:=f) hx hb
theorem D1i {α:Type}{sz:Nat}{x:Opd}{lo hi:Option Opd}{f:α→List D}{xs zs:List α}{i j:Int}(hx:ev t x= .d (.list (xs.map f)))(hz: ∀a,(f a).length=sz)
    (hlo:A6u t 0 lo=if 0≤i then some i.toNat else none) (hhi:A6u t xs.length hi=if 0≤j then some j.toNat else none) (hv:D0s xs i j=some zs):S8 t h (.slice sz x lo hi none)=some (.d (.list (zs.map f))):=by
  obtain ⟨h1,h2,h3,rfl⟩:=C5y hv
  rw [if_pos h1]at hlo
  rw [if_pos (by omega)]at hhi
  have hall:((xs.map f).all fun e=>e.length==sz)=true:=by simp [hz]
  simp only [S8,hx,List.length_map,hlo,hhi,hall,and_true]
  rw [if_pos (by omega),List.map_drop,List.map_take]
theorem D0y {n:Nat}:A6u t n none=if 0≤(n:Int)then some (n:Int).toNat else none:=by rw [if_pos (by omega)];rfl
theorem bd_x {x:Opd}{n:Nat}{k:IntKind}{i:Int}(hx:ev t x= .d (.v (.int k i))):A6u t n (some x)=if 0≤i then some i.toNat else none:=by simp only [A6u,hx]
theorem C2s {j x y:Opd}{c q:Bool}(hj:ev t j= .d (bo c))(hx:c=true→ev t x= .d (bo q))(hy:ev t y= .d (bo false)):S8 t h (.pick j x y)=some (.d (bo (c&&q))):=by
  simp only [S8,hj]
  cases c
  ·rw [hy];rfl
  ·rw [hx rfl];rfl
theorem A49 {j x y:Opd}{c q:Bool}(hj:ev t j= .d (bo c))(hx:ev t x= .d (bo true))(hy:c=false→ev t y= .d (bo q)):S8 t h (.pick j x y)=some (.d (bo (c||q))):=by
  simp only [S8,hj]
  cases c
  ·rw [hy rfl];rfl
  ·rw [hx];rfl
/-- A guard: whether the operation is wanted. -/
def GWt (x:AV)(b w:Bool):Prop:=(w=true→x= .d (bo b))∧(w=false→x= .d (bo !b)∨x= .d (.tup []))
theorem V5 {x:AV}{c:Bool}(hx:x= .d (bo c)):GWt x true c:=by subst hx;cases c<;>exact ⟨fun h=>(by first|rfl|cases h),fun h=>(by first|exact .inl rfl|cases h)⟩
theorem A0h {x:AV}{c:Bool}(hx:x= .d (bo c)):GWt x false (!c):=by subst hx;cases c<;>exact ⟨fun h=>(by first|rfl|cases h),fun h=>(by first|exact .inl rfl|cases h)⟩
theorem A8i {x:AV}{w q:Bool}(hx:x=gd w true (.d (bo q))):GWt x true (w&&q):=by
  subst hx
  cases w
  ·exact ⟨fun h=>(by cases h),fun _=> .inr rfl⟩
  ·exact V5 rfl
theorem S3 {a:Bool}(h:a=false):(!a)=true:=by subst h;rfl
theorem C65 {a b:Bool}(h:a=true)(h':b=true):(a&&b)=true:=by subst h h';rfl
theorem C9q {j:Nat}{b w:Bool}{K:AV→List (Key×Option Blk)→Prop}{body:Prop}(hg:GWt (t j) b w)(h1:w=true→body)(h2:w=false→K (.d (.tup [])) []):gW (some (j,b)) t K body:=by
  cases w with
  |true=>
   have:=hg.1 rfl
   simp only [gW,this,if_true]
   exact h1 rfl
  |false=>
   rcases hg.2 rfl with e|e
   ·simp only [gW,e]
    rw [if_neg (by cases b<;>simp)]
    exact h2 rfl
   ·simp only [gW,e]
    exact h2 rfl
end
section
variable {P:Program}{u:Nat}{r:List AOp}{l:List (Nat×AV)}{g:List (Key×Option Blk)}{K:(Nat→AV)→J4→Prop}
theorem C2t {dst:Option Nat}{t:Nat→AV}{h:J4}{k:AK}{v:AV}{K':AV→List (Key×Option Blk)→Prop}(h0:A54 k=0)(hv:S8 t h k=some v)(hk:K' v []):opW P u dst t h k K':=by
  unfold opW
  split<;>first|(simp [A54]at h0;done)|(rw [hv];exact hk)
theorem B8c {dst:Option Nat}{k:AK}{gg:Option (Nat×Bool)}{t:Nat→AV}{h:J4}(h0:A54 k≠7)(hk:gW gg t (fun v ups=>T9 P u r (B7m t dst v) (R9 h ups) K) (opW P u dst t h k fun v ups=>T9 P u r (B7m t dst v) (R9 h ups) K)):T9 P u (⟨dst,k,gg⟩::r) t h K:=by
  unfold T9
  split
  ·exact absurd rfl h0
  ·exact hk
theorem U0 {d j:Nat}{b:Bool}{k:AK}(w:Bool)(v:AV)(h0:A54 k=0)(hg:GWt (T l j) b w)(hv:w=true→S8 (T l) (G g) k=some v)(hk:T9 P u r (T ((d,gd w true v)::l)) (G g) K):T9 P u (⟨some d,k,some (j,b)⟩::r) (T l) (G g) K:=by
  refine B8c (by rw [h0];simp) (C9q hg (fun hw=>C2t h0 (hv hw) ?_) fun hw=> ?_)
  ·rw [A4 hw]at hk;exact hk
  ·rw [C61 (by simp [hw])]at hk;exact hk
theorem O5 {d j:Nat}{b:Bool}{f:Opd}{args:List Opd}(w:Bool)(v:D)(hg:GWt (T l j) b w)
    (hv:w=true→∃fid avs ds ds',S6 (T l) f args=some (fid,avs)∧Q0 (Q4 (G g) 6) avs=some ds∧All2 DLe ds ds'∧PCall P fid ds' v∧(B3f avs=some ds∨C8d v=true)) (hk:T9 P u r (T ((d,gd w true (.d v))::l)) (G g) K):T9 P u (⟨some d, .call f args,some (j,b)⟩::r) (T l) (G g) K:=by
  refine B8c (by simp [A54]) (C9q hg (fun hw=> ?_) fun hw=> ?_)
  ·rw [A4 hw]at hk
   obtain ⟨fid,avs,ds,ds',h1,h2,h3,h4,h5⟩:=hv hw
   simp only [opW,C5g,h1,h2]
   exact ⟨v,h4.le h3,h5,hk⟩
  ·rw [C61 (by simp [hw])]at hk;exact hk
end
/-! ### The same, with what is looked at and altered -/
section
variable {P:Program}{N:Nat}{rk:Option Key}{Q:Ex→St→Prop}{rr:List It}{u:Nat}{r:List AOp}{l:List (Nat×AV)}{g:List (Key×Option Blk)}{K:(Nat→AV)→J4→List (List Key×List Key)→Prop}
theorem B2b {aops:List AOp}{pairs:List (Nat×Nat)}(h: ∀u,(∀k,G g k≠none→k.2≠u)→B5q P u aops (T l) (G g) fun t h tr=>C39 tr pairs=true∧AWL P N rk rr Q .nrm ⟨t,h⟩):AWL P N rk (.c (.draw aops pairs)::rr) Q .nrm ⟨T l,G g⟩:=
  C3b h
theorem C0c (hk:K (T l) (G g) []):B5q P u [] (T l) (G g) K:=by simpa only [B5q] using hk
theorem U2 {d:Nat}{k:AK}(v:AV)(h0:A54 k=0)(hv:S8 (T l) (G g) k=some v)(hk:B5q P u r (T ((d,v)::l)) (G g) fun t' h' tr=>K t' h' ((A4j (T l) (G g) k,[])::tr)):B5q P u (⟨some d,k,none⟩::r) (T l) (G g) K:=by
  unfold B5q
  simp only [gW]
  refine C2t (v:=v) h0 hv ?_
  exact hk
theorem B9p {d j:Nat}{b:Bool}{k:AK}(w:Bool)(v:AV)(h0:A54 k=0)(hg:GWt (T l j) b w)(hv:w=true→S8 (T l) (G g) k=some v)(hk:B5q P u r (T ((d,gd w true v)::l)) (G g) fun t' h' tr=>K t' h' ((A4j (T l) (G g) k,[])::tr)):B5q P u (⟨some d,k,some (j,b)⟩::r) (T l) (G g) K:=by
  unfold B5q
  refine C9q hg (fun hw=>C2t h0 (hv hw) ?_) fun hw=> ?_
  ·rw [A4 hw]at hk;exact hk
  ·rw [C61 (by simp [hw])]at hk;exact hk
theorem C9r {d:Nat}{k:AK}(v:AV)(b:Blk)(h0:B90 k=true)(hv:B77 u d (T l) k=some (v,b))(hk:B5q P u r (T ((d,v)::l)) (G (((d,u),some b)::g)) fun t' h' tr=>K t' h' ((A4j (T l) (G g) k,[(d,u)])::tr)):B5q P u (⟨some d,k,none⟩::r) (T l) (G g) K:=by
  unfold B5q
  simp only [gW]
  unfold opW
  split<;>first|(simp [B90,A54]at h0;done)|(dsimp only;rw [hv];exact hk)
theorem B2c {n:Nat}{p x:Opd}(k:Key)(off:Nat)(ty:TypeId)(bs cs:List AV)(hx:A93 (ev (T l) x)=some cs)(hn:cs.length=n)(hp:ev (T l) p= .ptr k off)(hb:G g k=some (.box ty bs))(hl:off+n≤bs.length)(bs':List AV)(he:B4k bs off cs=bs')
    (hk:B5q P u r (T l) (G ((k,some (.box ty bs'))::g)) fun t' h' tr=>K t' h' ((A4j (T l) (G g) (.store n p x),[k])::tr)):B5q P u (⟨none, .store n p x,none⟩::r) (T l) (G g) K:=by
  unfold B5q
  subst he
  simp only [gW,opW,B78,hx,hn,if_true,hp,hb,hl]
  exact hk
end
end Go.Abs
namespace Go.Abs
open Go
section
variable (P:Program)
/-- A value of a type can be read as typed data. -/
def Rd (t:TypeId){α:Type}(e:α→List D)(wf:α→Prop):Prop:=
  ∀(H:Type) (enc:TypeId×Value→H) (w:World) (fuel:Nat) (cs:List Value) (d:DataW H) (ps:List MemPlace),DataW.trod enc P w 0 (fun _=>true) true fuel t cs=some (d,ps)→
   ∃x:α,wf x∧cs.length=(e x).length∧∀(i:Nat) di,(e x)[i]? =some di→di.one=true∧RepD w (fun b=>b<w.heap.size) di (cs.getD i undef)
def RdF (fs:List Field)(off:Nat){β:Type}(e:β→List D)(wf:β→Prop):Prop:=
  ∀(H:Type) (enc:TypeId×Value→H) (w:World) (fuel:Nat) (cs:List Value) (xs:List (DataW H×List MemPlace)),(fs.mapM fun f=>DataW.trod enc P w 0 (fun _=>true) true fuel f.type ((cs.drop f.offset).take (P.cellsOf f.type)))=some xs→
   ∃y:β,wf y∧∀(i:Nat) di,(e y)[i]? =some di→di.one=true∧RepD w (fun b=>b<w.heap.size) di (cs.getD (off+i) undef)
end
section
variable {P:Program}
theorem C1l {w w':World}{I I':Nat→Prop}(h:PTr w I w' I'):Go.RowKit.Below w.heap.size w w':=⟨h.os,h.tape,h.output,h.size,h.frame⟩
theorem C66 {w:World}{I:Nat→Prop}{b:Bool}{v:Value}(h:RepD w I (bo b) v):v= .bool b:=by cases h;rfl
/-- A law's walk, from its contract. -/
theorem C7y {f:FuncId}{args:List D}{vs:List Value}{w:World}(hp:PCall P f args (bo true))(hl:args.length=vs.length)(hr: ∀(i:Nat) d,args[i]? =some d→RepD w (fun b=>b<w.heap.size) d (vs.getD i undef)):
    Calls P f vs.toArray w fun e w'=>e= .returned (.bool true)∧Go.RowKit.Below w.heap.size w w':=
  (hp.2 w (fun b=>b<w.heap.size) vs (fun _ h=>h) hl hr).mono fun _ _ ⟨_,_,h1,h2,h3⟩=>⟨by rw [h1,C66 h2],C1l h3⟩
end
end Go.Abs
namespace Go.Abs
open Go
def wI64 (n:Int):Prop:= -9223372036854775808≤n∧n≤9223372036854775807
end Go.Abs
