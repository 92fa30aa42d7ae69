/-
  Plain facts, second part: the law itself.
-/
import Derived.Test.YtgjdiioennhoeaaGreatPlain
namespace Go.Abs.World
open Go Go.Abs
theorem wid {n:Int}(h: -9223372036854775808≤n∧n≤9223372036854775807):w64 n=n:=Go.IntWalk.i64_in n h
theorem H5 {α:Type}{l:List α}{i:Nat}{a:α}(h:l[i]? =some a):D6 l (i:Int)=some a:=by
  unfold D6;rw [if_pos (by omega),Int.toNat_natCast];exact h
theorem U6 {α:Type}{l:List α}{i:Nat}{a:α}(h:l[i]? =some a):i<l.length:=(List.getElem?_eq_some_iff.1 h).1
theorem C3i {α:Type}(c:Bool)(a b:α):cond c (some a) (some b)=some (cond c a b):=by cases c<;>rfl
def A68 (high:Int):Int→List Int→Bool
  |_,[]=>true
  |low,n::r=>decide (low≤n)&&decide (n<high)&&A68 high (n+1) r
theorem C0v (l:List Int)(low high:Int)(hl:l.length≤1000000)(hh:high≤1000000000)(h0:0≤low):A21 l low high=some (A68 high low l):=by
  have key: ∀(r:List Int) (i:Nat) (lo:Int),0≤lo→l.drop i=r→i≤l.length→loop (Y5 l high) (lo,(i:Int))=some (if A68 high lo r then .inl ()else .inr false):=by
    intro r
    induction r with
    |nil=>
     intro i lo _ hi hil
     have:=A0g hi
     refine J7 ?_
     unfold Y5
     dsimp only
     rw [show decide ((i:Int)< (l.length:Int))=false from decide_eq_false (by omega)];rfl
    |cons n r ih=>
     intro i lo hlo hi hil
     have hlt:=A04 hi
     have hs:Y5 l high (lo,(i:Int))=some (if decide (lo≤n)&&decide (n<high)then .go (n+1,((i+1:Nat):Int))else .out (.inr false)):=by
       unfold Y5
       dsimp only
       rw [show decide ((i:Int)< (l.length:Int))=true from decide_eq_true (by omega),A1z hi,cond_true,Option.bind_some,wid (n:=(i:Int)+1) (by omega)]
       by_cases q:lo≤n∧n<high
       ·rw [show ((decide (n<lo))||(decide (n≥high)))=false by rw [Bool.eq_false_iff];simp;omega,cond_false,wid (n:=n+1) (by omega),if_pos (by simpa using q)];rfl
       ·rw [show ((decide (n<lo))||(decide (n≥high)))=true by simp;omega,cond_true,if_neg (by simpa using q)]
     unfold A68
     cases q:(decide (lo≤n)&&decide (n<high))
     ·rw [q]at hs;rw [J7 hs];rfl
     ·rw [q]at hs
      simp only [Bool.and_eq_true,decide_eq_true_eq]at q
      rw [Y4 hs,ih (i+1) (n+1) (by omega) (R2 hi) (by omega)];rfl
  unfold A21
  have:=key l 0 low h0 rfl (by omega)
  rw [show ((0:Nat):Int)=0 from rfl]at this
  rw [this]
  cases A68 high low l<;>rfl
theorem B86 (l:List Int)(low high:Int)(hl:l.length≤1000000):A3j l low high=some (A68 high low l):=by
  have key: ∀(r:List Int) (i:Nat) (lo:Int),low≤lo→(i=0→lo=low)→(0<i→l[i - 1]? =some (lo - 1))→l.drop i=r→i≤l.length→loop (A0q l low high) (i:Int)=some (if A68 high lo r then .inl ()else .inr false):=by
    intro r
    induction r with
    |nil=>
     intro i lo _ _ _ hi hil
     have:=A0g hi
     refine J7 ?_
     unfold A0q
     rw [show decide ((i:Int)< (l.length:Int))=false from decide_eq_false (by omega)];rfl
    |cons n r ih=>
     intro i lo hlo h0 h1 hi hil
     have hlt:=A04 hi
     have hn:l[i]? =some n:=by have:=congrArg (fun z=>z[0]?) hi;simpa using this
     have hs:A0q l low high (i:Int)=some (if decide (lo≤n)&&decide (n<high)then .go ((i+1:Nat):Int)else .out (.inr false)):=by
       unfold A0q
       rw [show decide ((i:Int)< (l.length:Int))=true from decide_eq_true (by omega),A1z hi,cond_true,Option.bind_some,C3i,Option.bind_some,C3i,Option.bind_some,wid (n:=(i:Int)+1) (by omega)]
       by_cases q1:n<low
       ·rw [decide_eq_true q1,if_neg (by simp;omega)];rfl
       ·rw [decide_eq_false q1]
        simp only [Bool.not_false,cond_true,Bool.false_or]
        by_cases q2:n≥high
        ·rw [decide_eq_true q2,if_neg (by simp;omega)];rfl
        ·rw [decide_eq_false q2]
         simp only [Bool.not_false,Bool.true_and,Bool.false_or]
         by_cases q3:(i:Int)>0
         ·have e:D6 l (w64 ((i:Int) - 1))=some (lo - 1):=by
            rw [wid (n:=(i:Int) - 1) (by omega),show (i:Int) - 1=((i - 1:Nat):Int) by omega]
            exact H5 (h1 (by omega))
          rw [decide_eq_true q3,cond_true,cond_true,e,Option.bind_some,Bool.true_and]
          by_cases q4:n≤lo - 1
          ·rw [decide_eq_true q4,if_neg (by simp;omega)];rfl
          ·rw [decide_eq_false q4,if_pos (by simp;omega)];rfl
         ·have:lo=low:=h0 (by omega)
          rw [decide_eq_false q3,cond_false,Option.bind_some,Bool.false_and,if_pos (by simp;omega)];rfl
     unfold A68
     cases q:(decide (lo≤n)&&decide (n<high))
     ·rw [q]at hs;rw [J7 hs];rfl
     ·rw [q]at hs
      simp only [Bool.and_eq_true,decide_eq_true_eq]at q
      rw [Y4 hs,ih (i+1) (n+1) (by omega) (fun z=>by omega) (fun _=>by rw [Nat.add_sub_cancel,hn];congr 1;omega) (R2 hi) (by omega)];rfl
  unfold A3j
  have:=key l 0 low (Int.le_refl _) (fun _=>rfl) (fun z=>by omega) rfl (by omega)
  rw [show ((0:Nat):Int)=0 from rfl]at this
  rw [this]
  cases A68 high low l<;>rfl
end Go.Abs.World
namespace Go.Abs.World
open Go Go.Abs
noncomputable def B97 (c:Curve):Int:=C6a 0 (A9c c)
theorem D6k {m:Map}{i:Nat}{l:Lane}(h:m.Lanes[i]? =some l)(hl:l.Curve_.Pts.length≤1000000):A2v m (i:Int)=some (B97 l.Curve_):=by
  unfold A2v
  rw [H5 h,Option.bind_some,B4g _ hl];rfl
/-- The lists of a map are of bearable lengths. -/
structure Bear (m:Map):Prop where
  lanes:m.Lanes.length≤1000000
  pts: ∀l∈m.Lanes,l.Curve_.Pts.length≤1000000∧l.Next.length≤1000000
noncomputable def laneE (n:Nat)(i:Nat)(l:Lane):Option Int:=
  if (B8q l.Kind).1=0 then some 4
  else if A3t l.Curve_.Pts≠0 then some (A3t l.Curve_.Pts)
  else if (inR l.Half 200 4000&&inR l.Limit 1 (B8q l.Kind).1)=false then some 2
  else if 3<l.Next.length then some 8
  else if A68 n (i+1) l.Next=false then some 11 else none
theorem D3n {m:Map}(B:Bear m):X2 ⟨m⟩=some ((K2 (laneE m.Lanes.length) 0 m.Lanes).getD 0):=by
  have h:=Y9 m.Lanes (R9 ⟨m⟩) (laneE m.Lanes.length) (fun i l hl=>by
    have hi:=U6 hl
    have hb:=B.lanes
    obtain ⟨p1,p2⟩:=B.pts l (List.mem_of_getElem? hl)
    unfold R9 laneE
    dsimp only
    rw [show decide ((i:Int)< (m.Lanes.length:Int))=true from decide_eq_true (by omega),H5 hl,cond_true,Option.bind_some,C0u,Option.bind_some,B5d _ p1,Option.bind_some,B2q,B2q,Option.bind_some,C3i,Option.bind_some,wid (n:=(i:Int)+1) (by omega),C0v _ _ _ p2 (by omega) (by omega),Option.bind_some]
    by_cases h1:(B8q l.Kind).1=0
    ·rw [if_pos h1,show ((B8q l.Kind).1==0)=true by simpa using h1];rfl
    ·rw [if_neg h1,show ((B8q l.Kind).1==0)=false by simpa using h1,cond_false]
     by_cases h2:A3t l.Curve_.Pts≠0
     ·rw [if_pos h2,show (A3t l.Curve_.Pts !=0)=true by simpa using h2];rfl
     ·rw [if_neg h2,show (A3t l.Curve_.Pts !=0)=false by simpa using h2,cond_false]
      cases inR l.Half 200 4000
      ·rfl
      ·cases inR l.Limit 1 (B8q l.Kind).1
       ·rfl
       ·simp only [Bool.not_true,Bool.not_false,cond_true,cond_false,Bool.false_or,Bool.and_self]
        rw [if_neg (by decide)]
        by_cases h3:3<l.Next.length
        ·rw [if_pos h3,show decide ((l.Next.length:Int)>3)=true from decide_eq_true (by omega)];rfl
        ·rw [if_neg h3,show decide ((l.Next.length:Int)>3)=false from decide_eq_false (by omega),cond_false]
         cases A68 (m.Lanes.length:Int) ((i:Int)+1) l.Next<;>rfl) (by
    unfold R9
    dsimp only
    rw [show decide ((m.Lanes.length:Int)< (m.Lanes.length:Int))=false from decide_eq_false (by omega)];rfl)
  unfold X2
  rw [h]
  cases K2 (laneE m.Lanes.length) 0 m.Lanes<;>rfl
end Go.Abs.World
namespace Go.Abs.World
open Go Go.Abs
theorem D3o (k:Int):((decide (k<1))||(decide (k>3)))=decide ((B8q k).1=0):=by
  unfold B8q
  by_cases h1:k=1
  ·subst h1;rfl
  ·by_cases h2:k=2
   ·subst h2;rfl
   ·by_cases h3:k=3
    ·subst h3;rfl
    ·rw [if_neg h1,if_neg h2,if_neg h3]
     simp only [decide_true,Bool.or_eq_true,decide_eq_true_eq]
     omega
theorem D3p {m:Map}(B:Bear m){i:Nat}{l:Lane}(hl:m.Lanes[i]? =some l):A4u m (i:Int)=some ((laneE m.Lanes.length i l).getD 0):=by
  have hi:=U6 hl
  have hb:=B.lanes
  obtain ⟨p1,p2⟩:=B.pts l (List.mem_of_getElem? hl)
  unfold A4u laneE
  rw [H5 hl,Option.bind_some,D3o,B5e _ p1,Option.bind_some,B85,Option.bind_some,B2r,B2r,Option.bind_some,C3i,Option.bind_some,wid (n:=(i:Int)+1) (by omega),B86 _ _ _ p2,Option.bind_some]
  by_cases h1:(B8q l.Kind).1=0
  ·rw [if_pos h1,decide_eq_true h1];rfl
  ·rw [if_neg h1,decide_eq_false h1,cond_false]
   by_cases h2:A3t l.Curve_.Pts≠0
   ·rw [if_pos h2,show (A3t l.Curve_.Pts !=0)=true by simpa using h2];rfl
   ·rw [if_neg h2,show (A3t l.Curve_.Pts !=0)=false by simpa using h2,cond_false]
    cases inR l.Half 200 4000
    ·rfl
    ·cases inR l.Limit 1 (B8q l.Kind).1
     ·rfl
     ·simp only [Bool.not_true,Bool.not_false,cond_true,cond_false,Bool.false_or,Bool.and_self]
      rw [if_neg (by decide)]
      by_cases h3:3<l.Next.length
      ·rw [if_pos h3,show decide ((l.Next.length:Int)>3)=true from decide_eq_true (by omega)];rfl
      ·rw [if_neg h3,show decide ((l.Next.length:Int)>3)=false from decide_eq_false (by omega),cond_false]
       cases A68 (m.Lanes.length:Int) ((i:Int)+1) l.Next<;>rfl
theorem C3j {n i:Nat}{l:Lane}{e:Int}(h:laneE n i l=some e):e≠0:=by
  unfold laneE at h
  split at h
  ·cases h;decide
  ·split at h
   ·rename_i h2;cases h;exact h2
   ·split at h
    ·cases h;decide
    ·split at h
     ·cases h;decide
     ·split at h
      ·cases h;decide
      ·cases h
theorem C6c {m:Map}(B:Bear m):loop (A2i m) 0=some (D1c (K2 (laneE m.Lanes.length) 0 m.Lanes)):=
  Y9 m.Lanes (A2i m) (laneE m.Lanes.length) (fun i l hl=>by
   have hi:=U6 hl
   have hb:=B.lanes
   unfold A2i
   rw [show decide ((i:Int)< (m.Lanes.length:Int))=true from decide_eq_true (by omega),D3p B hl,cond_true,Option.bind_some,wid (n:=(i:Int)+1) (by omega)]
   cases h:laneE m.Lanes.length i l with
   |none=>rfl
   |some e=>
    rw [Option.getD_some,show (e !=0)=true by simpa using C3j h];rfl) (by
   unfold A2i
   rw [show decide ((m.Lanes.length:Int)< (m.Lanes.length:Int))=false from decide_eq_false (by omega)];rfl)
end Go.Abs.World
namespace Go.Abs.World
open Go Go.Abs
theorem B2s {high:Int}: ∀{l:List Int} {low:Int},A68 high low l=true→∀k∈l,low≤k∧k<high
  | [],_,_,k,hk=>by cases hk
  |n::r,low,h,k,hk=>by
   unfold A68 at h
   simp only [Bool.and_eq_true,decide_eq_true_eq]at h
   rcases List.mem_cons.1 hk with rfl|hk
   ·exact h.1
   ·have:=B2s h.2 k hk
    omega
/-- What a lane is that has no error of its own. -/
structure LaneOK (n i:Nat)(l:Lane):Prop where
  kind:(B8q l.Kind).1≠0
  curve:A3t l.Curve_.Pts=0
  half:inR l.Half 200 4000=true
  limit:inR l.Limit 1 (B8q l.Kind).1=true
  few:l.Next.length≤3
  next:A68 n (i+1) l.Next=true
theorem C8z {n i:Nat}{l:Lane}(h:laneE n i l=none):LaneOK n i l:=by
  unfold laneE at h
  split at h
  ·cases h
  ·rename_i h1
   split at h
   ·cases h
   ·rename_i h2
    split at h
    ·cases h
    ·rename_i h3
     split at h
     ·cases h
     ·rename_i h4
      split at h
      ·cases h
      ·rename_i h5
       simp only [Bool.not_eq_false,Bool.and_eq_true]at h3
       exact ⟨h1,Decidable.not_not.1 h2,h3.1,h3.2,by omega,by simpa using h5⟩
theorem B78 {m:Map}(h:K2 (laneE m.Lanes.length) 0 m.Lanes=none){i:Nat}{l:Lane}(hl:m.Lanes[i]? =some l):LaneOK m.Lanes.length i l:=by
  have:=firstE_none.1 h i l hl
  rw [Nat.zero_add]at this
  exact C8z this
end Go.Abs.World
namespace Go.Abs.World
open Go Go.Abs
theorem C0w {l:List Spot}(h:A3t l=0):2≤l.length:=by
  unfold A3t at h
  split at h
  ·cases h
  ·omega
def C1m (l:List Spot):Spot:=l.headD ⟨0,0⟩
def B8r (l:List Spot):Spot:=l.getLastD ⟨0,0⟩
theorem C4x {l:List Spot}(h:2≤l.length):D6 l 0=some (C1m l):=by
  cases l with
  |nil=>simp at h
  |cons a r=>rfl
theorem C4y {l:List Spot}(h:2≤l.length)(hl:l.length≤1000000):D6 l (w64 ((l.length:Int) - 1))=some (B8r l):=by
  rw [wid (by omega),show (l.length:Int) - 1=((l.length - 1:Nat):Int) by omega]
  refine H5 ?_
  unfold B8r
  rw [List.getLastD_eq_getLast?,List.getLast?_eq_getElem?]
  rw [List.getElem?_eq_getElem (by omega)];rfl
def D1d (a b:Spot):Bool:=a.X==b.X&& (a.Y==b.Y&&true)
def C0x (m:Map)(l:Lane)(_:Nat)(k:Int):Option Int:=
  match m.Lanes[k.toNat]? with
  |some n=>if n.Kind≠l.Kind then some 4 else if D1d (C1m n.Curve_.Pts) (B8r l.Curve_.Pts)=false then some 3 else none
  |none=>none
def nextE (m:Map)(_:Nat)(l:Lane):Option Int:=K2 (C0x m l) 0 l.Next
theorem C24 {m:Map}(B:Bear m)(H:K2 (laneE m.Lanes.length) 0 m.Lanes=none){i:Nat}{l:Lane}(hl:m.Lanes[i]? =some l){j:Nat}{k:Int}(hk:l.Next[j]? =some k):
    ∃n,D6 m.Lanes k=some n∧m.Lanes[k.toNat]? =some n∧2≤n.Curve_.Pts.length∧n.Curve_.Pts.length≤1000000:=by
  have L:=B78 H hl
  have hb:=B2s L.next k (List.mem_of_getElem? hk)
  have hlt:k.toNat<m.Lanes.length:=by omega
  refine ⟨m.Lanes[k.toNat],?_,List.getElem?_eq_getElem hlt,C0w (B78 H (List.getElem?_eq_getElem hlt)).curve,(B.pts _ (List.getElem_mem hlt)).1⟩
  unfold D6
  rw [if_pos (by omega),List.getElem?_eq_getElem hlt]
end Go.Abs.World
namespace Go.Abs.World
open Go Go.Abs
theorem D1e {m:Map}{l:Lane}{j:Nat}{k e:Int}(h:C0x m l j k=some e):e≠0:=by
  unfold C0x at h
  split at h
  ·split at h
   ·cases h;decide
   ·split at h
    ·cases h;decide
    ·cases h
  ·cases h
theorem C4z {m:Map}(B:Bear m)(H:K2 (laneE m.Lanes.length) 0 m.Lanes=none){i:Nat}{l:Lane}(hl:m.Lanes[i]? =some l):
    loop (Q4 ⟨m⟩ l (B8r l.Curve_.Pts)) 0=some (D1c (nextE m i l))∧loop (A0l m l) 0=some (D1c (nextE m i l)):=by
  have L:=B78 H hl
  obtain ⟨p1,p2⟩:=B.pts l (List.mem_of_getElem? hl)
  constructor
  ·refine Y9 l.Next _ (C0x m l) (fun j k hk=> ?_) ?_
   ·have hj:=U6 hk
    obtain ⟨n,g1,g2,g3,g4⟩:=C24 B H hl hk
    unfold Q4 C0x
    dsimp only
    rw [show decide ((j:Int)< (l.Next.length:Int))=true from decide_eq_true (by omega),H5 hk,cond_true,Option.bind_some,g1,Option.bind_some,Option.bind_some,C4x g3,Option.bind_some,wid (n:=(j:Int)+1) (by omega),g2]
    dsimp only
    rw [show ((C1m n.Curve_.Pts).X==(B8r l.Curve_.Pts).X&& ((C1m n.Curve_.Pts).Y==(B8r l.Curve_.Pts).Y&&true))=D1d (C1m n.Curve_.Pts) (B8r l.Curve_.Pts) from rfl]
    by_cases h1:n.Kind≠l.Kind
    ·rw [if_pos h1,show (n.Kind !=l.Kind)=true by simpa using h1];rfl
    ·rw [if_neg h1,show (n.Kind !=l.Kind)=false by simpa using h1]
     cases D1d (C1m n.Curve_.Pts) (B8r l.Curve_.Pts)<;>rfl
   ·unfold Q4
    rw [show decide ((l.Next.length:Int)< (l.Next.length:Int))=false from decide_eq_false (by omega)];rfl
  ·refine Y9 l.Next _ (C0x m l) (fun j k hk=> ?_) ?_
   ·have hj:=U6 hk
    obtain ⟨n,g1,g2,g3,g4⟩:=C24 B H hl hk
    unfold A0l C0x
    rw [show decide ((j:Int)< (l.Next.length:Int))=true from decide_eq_true (by omega),H5 hk,cond_true,Option.bind_some,g1,Option.bind_some,C4x g3,Option.bind_some,C4y (C0w L.curve) p1,Option.bind_some,wid (n:=(j:Int)+1) (by omega),g2]
    dsimp only
    rw [show ((C1m n.Curve_.Pts).X==(B8r l.Curve_.Pts).X&& ((C1m n.Curve_.Pts).Y==(B8r l.Curve_.Pts).Y&&true))=D1d (C1m n.Curve_.Pts) (B8r l.Curve_.Pts) from rfl]
    by_cases h1:n.Kind≠l.Kind
    ·rw [if_pos h1,show (n.Kind !=l.Kind)=true by simpa using h1];rfl
    ·rw [if_neg h1,show (n.Kind !=l.Kind)=false by simpa using h1]
     cases D1d (C1m n.Curve_.Pts) (B8r l.Curve_.Pts)<;>rfl
   ·unfold A0l
    rw [show decide ((l.Next.length:Int)< (l.Next.length:Int))=false from decide_eq_false (by omega)];rfl
end Go.Abs.World
namespace Go.Abs.World
open Go Go.Abs
theorem C50 {m:Map}(B:Bear m)(H:K2 (laneE m.Lanes.length) 0 m.Lanes=none):
    V5 ⟨m⟩=some ((K2 (nextE m) 0 m.Lanes).getD 0)∧A4v m=some ((K2 (nextE m) 0 m.Lanes).getD 0):=by
  have hb:=B.lanes
  constructor
  ·have h:=Y9 m.Lanes (Q5 ⟨m⟩) (nextE m) (fun i l hl=>by
     have hi:=U6 hl
     have L:=B78 H hl
     obtain ⟨p1,p2⟩:=B.pts l (List.mem_of_getElem? hl)
     unfold Q5
     dsimp only
     rw [show decide ((i:Int)< (m.Lanes.length:Int))=true from decide_eq_true (by omega),H5 hl,cond_true,Option.bind_some,C4y (C0w L.curve) p1,Option.bind_some,(C4z B H hl).1,wid (n:=(i:Int)+1) (by omega)]
     cases nextE m i l<;>rfl) (by
     unfold Q5
     dsimp only
     rw [show decide ((m.Lanes.length:Int)< (m.Lanes.length:Int))=false from decide_eq_false (by omega)];rfl)
   unfold V5
   rw [h]
   cases K2 (nextE m) 0 m.Lanes<;>rfl
  ·have h:=Y9 m.Lanes (A0m m) (nextE m) (fun i l hl=>by
     have hi:=U6 hl
     unfold A0m
     rw [show decide ((i:Int)< (m.Lanes.length:Int))=true from decide_eq_true (by omega),H5 hl,cond_true,Option.bind_some,(C4z B H hl).2,wid (n:=(i:Int)+1) (by omega)]
     cases nextE m i l<;>rfl) (by
     unfold A0m
     rw [show decide ((m.Lanes.length:Int)< (m.Lanes.length:Int))=false from decide_eq_false (by omega)];rfl)
   unfold A4v
   rw [h]
   cases K2 (nextE m) 0 m.Lanes<;>rfl
end Go.Abs.World
namespace Go.Abs.World
open Go Go.Abs
/-- The place of the first element with a property. -/
theorem C25 {α:Type}{f:Int→Option (Stp Int (Sum Unit Int))}(l:List α)(P:α→Bool)(hl:l.length≤1000000000)(hf: ∀(i:Nat) a,l[i]? =some a→f (i:Int)=some (if P a then .out (.inr (i:Int))else .go (w64 ((i:Int)+1))))(he:f (l.length:Int)=some (.out (.inl ()))):
    loop f 0=some (match l.findIdx? P with|some i=> .inr (i:Int)|none=> .inl ()):=by
  have key: ∀(r:List α) (i:Nat),l.drop i=r→i≤l.length→loop f (i:Int)=some (match r.findIdx? P with|some j=> .inr ((i+j:Nat):Int)|none=> .inl ()):=by
    intro r
    induction r with
    |nil=>
     intro i hi hil
     have:=A0g hi
     obtain rfl:i=l.length:=by omega
     rw [J7 he];rfl
    |cons a r ih=>
     intro i hi _
     have hlt:=A04 hi
     have h0:l[i]? =some a:=by have:=congrArg (fun z=>z[0]?) hi;simpa using this
     have hs:=hf i a h0
     rw [List.findIdx?_cons]
     by_cases hp:P a=true
     ·rw [if_pos hp]at hs
      rw [J7 hs,if_pos hp];simp
     ·rw [if_neg hp]at hs
      rw [R8 (by omega)]at hs
      rw [Y4 hs,show ((i:Int)+1)=((i+1:Nat):Int) by omega,ih (i+1) (R2 hi) (by omega),if_neg hp]
      cases r.findIdx? P with
      |none=>rfl
      |some j=>simp only [Option.map_some];congr 3;omega
  have:=key l 0 rfl (by omega)
  rw [show ((0:Nat):Int)=0 from rfl]at this
  rw [this]
  cases l.findIdx? P<;>simp
/-- -1, or the place. -/
def D8a {α:Type}(P:α→Bool)(l:List α):Int:=match l.findIdx? P with|some i=>(i:Int)|none=> -1
theorem B98 {α:Type}(P:α→Bool)(l:List α):decide (D8a P l≥0)=l.any P:=by
  unfold D8a
  cases h:l.findIdx? P with
  |none=>
   have:=List.findIdx?_eq_none_iff.1 h
   rw [show l.any P=false by rw [List.any_eq_false];intro x hx;simpa using this x hx]
   decide
  |some i=>
   have:=List.findIdx?_isSome (xs:=l) (p:=P)
   rw [h]at this
   rw [← this]
   simp
/-- What both twins compute of a list. -/
theorem C3k {α:Type}{f:Int→Option (Stp Int (Sum Unit Int))}(l:List α)(P:α→Bool)(hl:l.length≤1000000000)(hf: ∀(i:Nat) a,l[i]? =some a→f (i:Int)=some (if P a then .out (.inr (i:Int))else .go (w64 ((i:Int)+1))))(he:f (l.length:Int)=some (.out (.inl ()))):
    thenS (loop f 0) (fun _=>some (-1)) (fun r=>some r)=some (D8a P l):=by
  rw [C25 l P hl hf he]
  unfold D8a
  cases l.findIdx? P<;>rfl
end Go.Abs.World
namespace Go.Abs.World
open Go Go.Abs
theorem D1f (l:List Phase)(hl:l.length≤1000000):C6 l=some (l.any fun p=> !inR p.Ticks 1 10000):=by
  unfold C6 D4
  rw [C3k l (fun p=> !inR p.Ticks 1 10000) (by omega) (fun i a h=>by
   have:=U6 h
   unfold C5 X3
   rw [show decide ((i:Int)< (l.length:Int))=true from decide_eq_true (by omega),H5 h,cond_true,Option.bind_some,B2q,Option.bind_some,Option.bind_some]
   cases inR a.Ticks 1 10000<;>rfl) (by
   unfold C5
   simp)]
  rw [Option.bind_some,B98]
theorem C90 (m:Map)(l:List Phase)(hl:l.length≤1000000)(hm:m.Lanes.length≤1000000)(hg: ∀p∈l,p.Green.length≤1000000):C2 l ⟨m⟩=some (l.any fun p=> !A68 m.Lanes.length 0 p.Green):=by
  unfold C2 D3
  rw [C3k l (fun p=> !A68 m.Lanes.length 0 p.Green) (by omega) (fun i a h=>by
   have:=U6 h
   unfold C1 U7
   dsimp only
   rw [show decide ((i:Int)< (l.length:Int))=true from decide_eq_true (by omega),H5 h,cond_true,Option.bind_some,C0v _ _ _ (hg a (List.mem_of_getElem? h)) (by omega) (by omega),Option.bind_some,Option.bind_some]
   cases A68 (m.Lanes.length:Int) 0 a.Green<;>rfl) (by
   unfold C1
   simp)]
  rw [Option.bind_some,B98]
end Go.Abs.World
namespace Go.Abs.World
open Go Go.Abs
structure BearS (m:Map):Prop where
  many:m.Signals.length≤1000000
  phases: ∀s∈m.Signals,s.Phases.length≤1000000∧∀p∈s.Phases,p.Green.length≤1000000
def signalE (m:Map)(_:Nat)(s:Signal):Option Int:=
  if s.Phases.length=0 then some 6
  else if 6<s.Phases.length then some 8
  else if inR s.Offset 0 1099511627776=false then some 2
  else if (s.Phases.any fun p=> !inR p.Ticks 1 10000)=true then some 2
  else if (s.Phases.any fun p=> !A68 m.Lanes.length 0 p.Green)=true then some 11 else none
theorem C91 {m:Map}(B:Bear m)(S:BearS m):U1 ⟨m⟩=some ((K2 (signalE m) 0 m.Signals).getD 0):=by
  have h:=Y9 m.Signals (P1 ⟨m⟩) (signalE m) (fun i s hs=>by
    have hi:=U6 hs
    have hb:=S.many
    obtain ⟨p1,p2⟩:=S.phases s (List.mem_of_getElem? hs)
    unfold P1 signalE
    dsimp only
    rw [show decide ((i:Int)< (m.Signals.length:Int))=true from decide_eq_true (by omega),H5 hs,cond_true,Option.bind_some,B2q,Option.bind_some,D1f _ p1,Option.bind_some,C90 m _ p1 B.lanes p2,Option.bind_some,wid (n:=(i:Int)+1) (by omega)]
    by_cases h1:s.Phases.length=0
    ·rw [if_pos h1,h1];rfl
    ·rw [if_neg h1,show ((s.Phases.length:Int)==0)=false by simp only [beq_eq_false_iff_ne];omega,cond_false]
     by_cases h2:6<s.Phases.length
     ·rw [if_pos h2,show decide ((s.Phases.length:Int)>6)=true from decide_eq_true (by omega)];rfl
     ·rw [if_neg h2,show decide ((s.Phases.length:Int)>6)=false from decide_eq_false (by omega),cond_false]
      cases inR s.Offset 0 1099511627776
      ·rfl
      ·cases (s.Phases.any fun p=> !inR p.Ticks 1 10000)
       ·cases (s.Phases.any fun p=> !A68 m.Lanes.length 0 p.Green)<;>rfl
       ·rfl) (by
    unfold P1
    dsimp only
    rw [show decide ((m.Signals.length:Int)< (m.Signals.length:Int))=false from decide_eq_false (by omega)];rfl)
  unfold U1
  rw [h]
  cases K2 (signalE m) 0 m.Signals<;>rfl
end Go.Abs.World
namespace Go.Abs.World
open Go Go.Abs
theorem C6d (s:Signal)(hl:s.Phases.length≤1000000): ∀(r:List Phase) (i:Nat) (b:Bool),s.Phases.drop i=r→i≤s.Phases.length→loop (V3 s) (b,(i:Int))=some (b&& !(r.any fun p=> !inR p.Ticks 1 10000)):=by
  intro r
  induction r with
  |nil=>
   intro i b hi hil
   have:=A0g hi
   refine J7 ?_
   unfold V3
   dsimp only
   rw [show decide ((i:Int)< (s.Phases.length:Int))=false from decide_eq_false (by omega)]
   simp
  |cons p r ih=>
   intro i b hi hil
   have hlt:=A04 hi
   have hs:V3 s (b,(i:Int))=some (.go (b&&inR p.Ticks 1 10000,((i+1:Nat):Int))):=by
     unfold V3
     dsimp only
     rw [show decide ((i:Int)< (s.Phases.length:Int))=true from decide_eq_true (by omega),A1z hi,wid (n:=(i:Int)+1) (by omega)]
     cases b<;>rfl
   rw [Y4 hs,ih (i+1) _ (R2 hi) (by omega),List.any_cons]
   cases b<;>cases inR p.Ticks 1 10000<;>simp
end Go.Abs.World
namespace Go.Abs.World
open Go Go.Abs
theorem C51 (m:Map)(s:Signal)(hl:s.Phases.length≤1000000)(hg: ∀p∈s.Phases,p.Green.length≤1000000):loop (V2 m s) 0=some (if (s.Phases.any fun p=> !A68 m.Lanes.length 0 p.Green)=true then .inr 11 else .inl ()):=by
  have h:=Y9 s.Phases (V2 m s) (fun _ p=>if A68 m.Lanes.length 0 p.Green then none else some 11) (fun i p hp=>by
    have:=U6 hp
    unfold V2
    rw [show decide ((i:Int)< (s.Phases.length:Int))=true from decide_eq_true (by omega),H5 hp,cond_true,Option.bind_some,B86 _ _ _ (hg p (List.mem_of_getElem? hp)),Option.bind_some,wid (n:=(i:Int)+1) (by omega)]
    cases A68 (m.Lanes.length:Int) 0 p.Green<;>rfl) (by
    unfold V2
    rw [show decide ((s.Phases.length:Int)< (s.Phases.length:Int))=false from decide_eq_false (by omega)];rfl)
  rw [h]
  have key: ∀(l:List Phase) (i:Nat),D1c (K2 (fun (_:Nat) (p:Phase)=>if A68 (m.Lanes.length:Int) 0 p.Green=true then none else some (11:Int)) i l)=if (l.any fun p=> !A68 m.Lanes.length 0 p.Green)=true then .inr 11 else .inl ():=by
    intro l
    induction l with
    |nil=>intro i;rfl
    |cons p r ih=>
     intro i
     unfold K2
     rw [List.any_cons]
     cases hq:A68 (m.Lanes.length:Int) 0 p.Green
     ·rfl
     ·exact ih (i+1)
  rw [key]
end Go.Abs.World
/-! Loops over lists, as functions on lists. -/
namespace Go.Abs
open Go
section
variable {α β σ S τ:Type}
/-- What a loop over a list makes, with a state, and with a way out. -/
def C6e (step:Nat→σ→α→Sum σ τ)(fin:σ→τ):Nat→σ→List α→τ
  |_,s,[]=>fin s
  |i,s,a::r=>match step i s a with
   | .inl s'=>C6e step fin (i+1) s' r
   | .inr t=>t
theorem A9r {l:List α}{i:Nat}{a:α}{r:List α}(h:l.drop i=a::r):l[i]? =some a:=by
  have:=congrArg (fun z=>z[0]?) h
  simpa using this
theorem D8b {F:S→Option (Stp S τ)}(pk:Nat→σ→S)(l:List α)(inv:Nat→σ→Prop)(step:Nat→σ→α→Sum σ τ)(fin:σ→τ){s0:σ}{S0:S}(hS:pk 0 s0=S0)(hi:inv 0 s0)
    (hF: ∀i a s,l[i]? =some a→inv i s→F (pk i s)=some (match step i s a with| .inl s'=> .go (pk (i+1) s')| .inr t=> .out t))
    (hI: ∀i a s s',l[i]? =some a→inv i s→step i s a= .inl s'→inv (i+1) s')
    (h0: ∀s,inv l.length s→F (pk l.length s)=some (.out (fin s))):loop F S0=some (C6e step fin 0 s0 l):=by
  have key: ∀(r:List α) (i:Nat) (s:σ),l.drop i=r→i≤l.length→inv i s→loop F (pk i s)=some (C6e step fin i s r):=by
    intro r
    induction r with
    |nil=>
     intro i s hi hil hv
     have:=A0g hi
     obtain rfl:i=l.length:=by omega
     exact J7 (h0 s hv)
    |cons a r ih=>
     intro i s hi hil hv
     have hlt:=A04 hi
     have ha:=A9r hi
     have hs:=hF i a s ha hv
     unfold C6e
     cases h:step i s a with
     |inl s'=>rw [h]at hs;rw [Y4 hs];exact ih (i+1) s' (R2 hi) (by omega) (hI i a s s' ha hv h)
     |inr t=>rw [h]at hs;exact J7 hs
  rw [← hS]
  exact key l 0 s0 rfl (by omega) hi
/-- The same without a way out. -/
def C92 (step:Nat→σ→α→σ):Nat→σ→List α→σ
  |_,s,[]=>s
  |i,s,a::r=>C92 step (i+1) (step i s a) r
theorem C0y (step:Nat→σ→α→σ)(fin:σ→τ): ∀(l:List α) (i:Nat) (s:σ),C6e (fun i s a=> .inl (step i s a)) fin i s l=fin (C92 step i s l)
  | [],_,_=>rfl
  |_::r,i,_=>C0y step fin r (i+1) _
theorem D92 {F:S→Option (Stp S τ)}(pk:Nat→σ→S)(l:List α)(inv:Nat→σ→Prop)(step:Nat→σ→α→σ)(fin:σ→τ){s0:σ}{S0:S}(hS:pk 0 s0=S0)(hi:inv 0 s0)
    (hF: ∀i a s,l[i]? =some a→inv i s→F (pk i s)=some (.go (pk (i+1) (step i s a))))
    (hI: ∀i a s,l[i]? =some a→inv i s→inv (i+1) (step i s a))
    (h0: ∀s,inv l.length s→F (pk l.length s)=some (.out (fin s))):loop F S0=some (fin (C92 step 0 s0 l)):=by
  rw [← C0y step fin]
  exact D8b pk l inv _ fin hS hi hF (fun i a s s' h1 h2 h3=>by cases h3;exact hI i a s h1 h2) h0
/-- The elements that a loop gathers. -/
def C1n (g:Nat→α→Option β):Nat→List α→List β
  |_,[]=> []
  |i,a::r=>match g i a with
   |some b=>b::C1n g (i+1) r
   |none=>C1n g (i+1) r
theorem C26 (g:Nat→α→Option β): ∀(l:List α) (i:Nat) (s:List β),C92 (fun i s a=>match g i a with|some b=>s++ [b]|none=>s) i s l=s++C1n g i l
  | [],_,s=>by simp [C92,C1n]
  |a::r,i,s=>by
   unfold C92 C1n
   rw [C26 g r (i+1)]
   cases g i a<;>simp
theorem D8c {F:S→Option (Stp S τ)}(pk:Nat→List β→S)(l:List α)(g:Nat→α→Option β)(fin:List β→τ){S0:S}(hS:pk 0 []=S0)
    (hF: ∀i a (s:List β),l[i]? =some a→s.length≤i→F (pk i s)=some (.go (pk (i+1) (match g i a with|some b=>s++ [b]|none=>s))))
    (h0: ∀s,F (pk l.length s)=some (.out (fin s))):loop F S0=some (fin (C1n g 0 l)):=by
  have:=D92 pk l (fun i s=>s.length≤i) (fun i s a=>match g i a with|some b=>s++ [b]|none=>s) fin hS (by simp) hF (fun i a s _ hs=>by
    cases g i a<;>simp<;>omega) (fun s _=>h0 s)
  rw [this,C26,List.nil_append]
theorem D4t {F:List β×Int→Option (Stp (List β×Int) τ)}(l:List α)(g:Nat→α→Option β)(fin:List β→τ)
    (hF: ∀(i:Nat) a (s:List β),l[i]? =some a→s.length≤i→F (s,(i:Int))=some (.go ((match g i a with|some b=>s++ [b]|none=>s),((i+1:Nat):Int))))
    (h0: ∀s,F (s,(l.length:Int))=some (.out (fin s))):loop F ([],0)=some (fin (C1n g 0 l)):=D8c (fun i s=>(s,(i:Int))) l g fin rfl hF h0
/-- Is there one? -/
theorem D6l {F:Int→Option (Stp Int (Sum Unit β))}(l:List α)(p:α→Bool)(v:β)(hF: ∀(i:Nat) a,l[i]? =some a→F (i:Int)=some (if p a then .out (.inr v)else .go ((i+1:Nat):Int)))(h0:F (l.length:Int)=some (.out (.inl ()))):
    loop F 0=some (if l.any p then .inr v else .inl ()):=by
  have key: ∀(l:List α) (i:Nat),C6e (fun _ _ a=>if p a then Sum.inr (Sum.inr v)else Sum.inl ()) (fun _=>(Sum.inl ():Sum Unit β)) i () l=if l.any p then .inr v else .inl ():=by
    intro l
    induction l with
    |nil=>intro i;rfl
    |cons a r ih=>
     intro i
     unfold C6e
     rw [List.any_cons]
     cases h:p a
     ·exact ih (i+1)
     ·rfl
  rw [← key l 0]
  exact D8b (F:=F) (σ:=Unit) (fun i _=>(i:Int)) l (fun _ _=>True) _ _ (s0:=()) rfl trivial (fun i a _ h _=>by rw [hF i a h];cases p a<;>rfl) (fun _ _ _ _ _ _ _=>trivial) (fun _ _=>h0)
end
theorem A29 {i:Nat}{n:Nat}(h:i<n):decide ((i:Int)< (n:Int))=true:=decide_eq_true (by omega)
theorem A00 (n:Nat):decide ((n:Int)< (n:Int))=false:=decide_eq_false (by omega)
theorem R6 {i:Nat}{n:Nat}(h:i<n)(hn:n≤1000000000000):w64 ((i:Int)+1)=((i+1:Nat):Int):=by rw [R8 (by omega)];omega
end Go.Abs
namespace Go.Abs.World
open Go Go.Abs
structure BearZ (m:Map):Prop where
  many:m.Zones.length≤1000000
  parts: ∀z∈m.Zones,z.Parts.length≤1000000
noncomputable def W5 (m:Map)(k:Int):Int:=((m.Lanes[k.toNat]?).map fun l=>B97 l.Curve_).getD 0
noncomputable def B62 (m:Map)(p:Part):Bool:=decide (p.From<0)||decide (p.From≥p.To)||decide (p.To>W5 m p.Lane_)||decide (p.Rank<0)||decide (p.Rank>100)
noncomputable def zoneE (m:Map)(_:Nat)(z:Zone):Option Int:=
  if z.Parts.length<2 then some 6
  else if 6<z.Parts.length then some 8
  else if z.Signal_<0∨(m.Signals.length:Int)<z.Signal_ then some 2
  else if A68 m.Lanes.length 0 (z.Parts.map (·.Lane_))=false then some 11
  else if z.Parts.any (B62 m)=true then some 2 else none
theorem B63 {m:Map}{k:Int}(h0:0≤k)(h1:k<m.Lanes.length): ∃l,m.Lanes[k.toNat]? =some l∧D6 m.Lanes k=some l:=by
  have hlt:k.toNat<m.Lanes.length:=by omega
  refine ⟨m.Lanes[k.toNat],List.getElem?_eq_getElem hlt,?_⟩
  unfold D6
  rw [if_pos h0,List.getElem?_eq_getElem hlt]
theorem C6f {m:Map}(B:Bear m){k:Int}(h0:0≤k)(h1:k<m.Lanes.length):A2v m k=some (W5 m k):=by
  obtain ⟨l,e1,e2⟩:=B63 h0 h1
  have:=D6k (m:=m) e1 (B.pts l (List.mem_of_getElem? e1)).1
  rw [show ((k.toNat:Nat):Int)=k by omega]at this
  rw [this,W5,e1];rfl
theorem C3l {m:Map}(B:Bear m){k:Int}(h0:0≤k)(h1:k<m.Lanes.length): ∃l,D6 m.Lanes k=some l∧A38 l.Curve_=some (W5 m k):=by
  obtain ⟨l,e1,e2⟩:=B63 h0 h1
  refine ⟨l,e2,?_⟩
  rw [C0t _ (B.pts l (List.mem_of_getElem? e1)).1,W5,e1];rfl
theorem C7p {α β:Type}(f:α→β): ∀(l:List α) (i:Nat),C1n (fun _ a=>some (f a)) i l=l.map f
  | [],_=>rfl
  |a::r,i=>by rw [C1n,C7p f r];rfl
theorem D4u {z:Zone}{F:List Int×Int→Option (Stp (List Int×Int) (List Int))}(hl:z.Parts.length≤1000000)
    (hF: ∀x,F x=cond (decide (x.2< (z.Parts.length:Int))) ((D6 z.Parts x.2).bind fun v=>(A8h x.1 [v.Lane_]).bind fun w=>some (.go (w,w64 (x.2+1)))) (some (.out x.1))):
    loop F ([],0)=some (z.Parts.map (·.Lane_)):=by
  rw [← C7p (fun p:Part=>p.Lane_) z.Parts 0]
  refine D8c (fun i s=>(s,(i:Int))) z.Parts (fun _ p=>some p.Lane_) id rfl (fun i a s ha hs=> ?_) (fun s=> ?_)
  ·have hi:=U6 ha
   rw [hF,A29 hi,H5 ha,cond_true,Option.bind_some,B2w (by simp;omega),Option.bind_some,R6 hi (by omega)]
  ·rw [hF,A00];rfl
theorem D3q {m:Map}(B:Bear m)(Z:BearZ m):X4 ⟨m⟩=some ((K2 (zoneE m) 0 m.Zones).getD 0):=by
  have hb:=B.lanes
  have h:=Y9 m.Zones (S4 ⟨m⟩) (zoneE m) (fun i z hz=>by
    have hi:=U6 hz
    have hm:=Z.many
    have p1:=Z.parts z (List.mem_of_getElem? hz)
    unfold S4 zoneE
    dsimp only
    rw [A29 hi,H5 hz,cond_true,Option.bind_some,D4u p1 (F:=Z0 z) (fun x=>rfl),Option.bind_some,C0v _ _ _ (by simpa using p1) (by omega) (by omega),Option.bind_some,R6 hi (by omega)]
    by_cases h1:z.Parts.length<2
    ·rw [if_pos h1,show decide ((z.Parts.length:Int)<2)=true from decide_eq_true (by omega)];rfl
    ·rw [if_neg h1,show decide ((z.Parts.length:Int)<2)=false from decide_eq_false (by omega),cond_false]
     by_cases h2:6<z.Parts.length
     ·rw [if_pos h2,show decide ((z.Parts.length:Int)>6)=true from decide_eq_true (by omega)];rfl
     ·rw [if_neg h2,show decide ((z.Parts.length:Int)>6)=false from decide_eq_false (by omega),cond_false]
      by_cases h3:z.Signal_<0∨(m.Signals.length:Int)<z.Signal_
      ·rw [if_pos h3,show ((decide (z.Signal_<0))||(decide (z.Signal_>(m.Signals.length:Int))))=true by simpa using h3];rfl
      ·rw [if_neg h3,show ((decide (z.Signal_<0))||(decide (z.Signal_>(m.Signals.length:Int))))=false by rw [Bool.eq_false_iff];simpa using h3,cond_false]
       cases h4:A68 (m.Lanes.length:Int) 0 (z.Parts.map (·.Lane_))
       ·rfl
       ·rw [if_neg (by decide)]
        have:=D6l (F:=S3 ⟨m⟩ z) z.Parts (B62 m) (2:Int) (fun j p hp=>by
          have hj:=U6 hp
          have hk:=B2s h4 p.Lane_ (List.mem_map.2 ⟨p,List.mem_of_getElem? hp,rfl⟩)
          unfold S3 B62
          dsimp only
          rw [A29 hj,H5 hp,cond_true,Option.bind_some,C6f B hk.1 hk.2,R6 hj (by omega)]
          cases h5:(decide (p.From<0)||decide (p.From≥p.To))
          ·simp only [Bool.not_false,cond_true,Option.bind_some]
           cases (false||decide (p.To>W5 m p.Lane_)||decide (p.Rank<0)||decide (p.Rank>100))<;>rfl
          ·rfl) (by unfold S3;rw [A00];rfl)
        rw [this]
        cases z.Parts.any (B62 m)<;>rfl) (by
    unfold S4
    dsimp only
    rw [A00];rfl)
  unfold X4
  rw [h]
  cases K2 (zoneE m) 0 m.Zones<;>rfl
theorem D3r {m:Map}(B:Bear m)(Z:BearZ m){i:Nat}{z:Zone}(hz:m.Zones[i]? =some z):A4w m z=some ((zoneE m i z).getD 0):=by
  have hb:=B.lanes
  have p1:=Z.parts z (List.mem_of_getElem? hz)
  unfold A4w zoneE
  rw [D4u p1 (F:=A4e z) (fun x=>rfl),Option.bind_some,B86 _ _ _ (by simpa using p1),Option.bind_some]
  by_cases h1:z.Parts.length<2
  ·rw [if_pos h1,show decide ((z.Parts.length:Int)<2)=true from decide_eq_true (by omega)];rfl
  ·rw [if_neg h1,show decide ((z.Parts.length:Int)<2)=false from decide_eq_false (by omega),cond_false]
   by_cases h2:6<z.Parts.length
   ·rw [if_pos h2,show decide ((z.Parts.length:Int)>6)=true from decide_eq_true (by omega)];rfl
   ·rw [if_neg h2,show decide ((z.Parts.length:Int)>6)=false from decide_eq_false (by omega),cond_false]
    by_cases h3:z.Signal_<0∨(m.Signals.length:Int)<z.Signal_
    ·rw [if_pos h3,show ((decide (z.Signal_<0))||(decide (z.Signal_>(m.Signals.length:Int))))=true by simpa using h3];rfl
    ·rw [if_neg h3,show ((decide (z.Signal_<0))||(decide (z.Signal_>(m.Signals.length:Int))))=false by rw [Bool.eq_false_iff];simpa using h3,cond_false]
     cases h4:A68 (m.Lanes.length:Int) 0 (z.Parts.map (·.Lane_))
     ·rfl
     ·rw [if_neg (by decide)]
      have:=D6l (F:=A0n m z) z.Parts (B62 m) (2:Int) (fun j p hp=>by
        have hj:=U6 hp
        have hk:=B2s h4 p.Lane_ (List.mem_map.2 ⟨p,List.mem_of_getElem? hp,rfl⟩)
        obtain ⟨l,e1,e2⟩:=C3l B hk.1 hk.2
        unfold A0n B62
        rw [A29 hj,H5 hp,cond_true,Option.bind_some,e1,R6 hj (by omega)]
        cases h5:(decide (p.From<0)||decide (p.From≥p.To))
        ·simp only [Bool.not_false,cond_true,Option.bind_some,e2]
         cases (false||decide (p.To>W5 m p.Lane_)||decide (p.Rank<0)||decide (p.Rank>100))<;>rfl
        ·rfl) (by unfold A0n;rw [A00];rfl)
      rw [this]
      cases z.Parts.any (B62 m)<;>rfl
end Go.Abs.World
namespace Go.Abs.World
open Go Go.Abs
structure BearW (m:Map):Prop where
  many:m.Works.length≤1000000
noncomputable def workE (m:Map)(_:Nat)(w:Work):Option Int:=
  if w.Lane_<0∨(m.Lanes.length:Int)≤w.Lane_ then some 7
  else if (decide (w.From<0)||decide (w.From>w.To)||decide (w.To>W5 m w.Lane_)||decide (w.Begin<0)||decide (w.Begin≥w.End)||decide (w.End>1099511627776)|| !inR w.Limit 0 ((m.Lanes[w.Lane_.toNat]?).map fun l=>(B8q l.Kind).1).get!)=true then some 2 else none
theorem D3s {m:Map}(B:Bear m)(W:BearW m):X5 ⟨m⟩=some ((K2 (workE m) 0 m.Works).getD 0):=by
  have hb:=B.lanes
  have h:=Y9 m.Works (S5 ⟨m⟩) (workE m) (fun i w hw=>by
    have hi:=U6 hw
    have hm:=W.many
    unfold S5 workE
    dsimp only
    rw [A29 hi,H5 hw,cond_true,Option.bind_some,R6 hi (by omega)]
    by_cases h1:w.Lane_<0∨(m.Lanes.length:Int)≤w.Lane_
    ·rw [if_pos h1,show ((decide (w.Lane_<0))||(decide (w.Lane_≥(m.Lanes.length:Int))))=true by simpa using h1];rfl
    ·rw [if_neg h1,show ((decide (w.Lane_<0))||(decide (w.Lane_≥(m.Lanes.length:Int))))=false by rw [Bool.eq_false_iff];simpa using h1,cond_false]
     obtain ⟨l,e1,e2⟩:=B63 (m:=m) (k:=w.Lane_) (by omega) (by omega)
     rw [e2,Option.bind_some,C0u,Option.bind_some,C6f B (by omega) (by omega),B2q,e1]
     simp only [Option.map_some,Option.get!_some]
     cases (decide (w.From<0)||decide (w.From>w.To))
     ·simp only [Bool.not_false,cond_true,Option.bind_some]
      cases (false||decide (w.To>W5 m w.Lane_)||decide (w.Begin<0)||decide (w.Begin≥w.End)||decide (w.End>1099511627776))
      ·simp only [Bool.not_false,cond_true,Option.bind_some]
       by_cases hq:inR w.Limit 0 (B8q l.Kind).1=true<;>simp [hq]
      ·rfl
     ·rfl) (by
    unfold S5
    dsimp only
    rw [A00];rfl)
  unfold X5
  rw [h]
  cases K2 (workE m) 0 m.Works<;>rfl
theorem D3t {m:Map}(B:Bear m){i:Nat}(w:Work):A4x m w=some ((workE m i w).getD 0):=by
  have hb:=B.lanes
  unfold A4x workE
  by_cases h1:w.Lane_<0∨(m.Lanes.length:Int)≤w.Lane_
  ·rw [if_pos h1,show ((decide (w.Lane_<0))||(decide (w.Lane_≥(m.Lanes.length:Int))))=true by simpa using h1];rfl
  ·rw [if_neg h1,show ((decide (w.Lane_<0))||(decide (w.Lane_≥(m.Lanes.length:Int))))=false by rw [Bool.eq_false_iff];simpa using h1,cond_false]
   obtain ⟨l,e1,e2⟩:=B63 (m:=m) (k:=w.Lane_) (by omega) (by omega)
   obtain ⟨l',e3,e4⟩:=C3l B (k:=w.Lane_) (by omega) (by omega)
   rw [e2]at e3
   cases e3
   rw [e2,Option.bind_some,B85,Option.bind_some,e4,B2r,e1]
   simp only [Option.map_some,Option.get!_some]
   cases (decide (w.From<0)||decide (w.From>w.To))
   ·simp only [Bool.not_false,cond_true,Option.bind_some]
    cases (false||decide (w.To>W5 m w.Lane_)||decide (w.Begin<0)||decide (w.Begin≥w.End)||decide (w.End>1099511627776))
    ·simp only [Bool.not_false,cond_true,Option.bind_some]
     by_cases hq:inR w.Limit 0 (B8q l.Kind).1=true<;>simp [hq]
    ·rfl
   ·rfl
theorem C93 {m:Map}(S:BearS m)(i:Nat){s:Signal}(hs:s∈m.Signals):A32 m s=some ((signalE m i s).getD 0):=by
  obtain ⟨p1,p2⟩:=S.phases s hs
  unfold A32 signalE
  rw [B2r,Option.bind_some,show (0:Int)=((0:Nat):Int) from rfl,C6d s p1 s.Phases 0 _ rfl (by omega),Option.bind_some]
  rw [show ((0:Nat):Int)=0 from rfl,C51 m s p1 p2]
  by_cases h1:s.Phases.length=0
  ·rw [if_pos h1,h1];rfl
  ·rw [if_neg h1,show ((s.Phases.length:Int)==0)=false by simp only [beq_eq_false_iff_ne];omega,cond_false]
   by_cases h2:6<s.Phases.length
   ·rw [if_pos h2,show decide ((s.Phases.length:Int)>6)=true from decide_eq_true (by omega)];rfl
   ·rw [if_neg h2,show decide ((s.Phases.length:Int)>6)=false from decide_eq_false (by omega),cond_false]
    cases inR s.Offset 0 1099511627776
    ·rfl
    ·cases (s.Phases.any fun p=> !inR p.Ticks 1 10000)
     ·cases (s.Phases.any fun p=> !A68 m.Lanes.length 0 p.Green)<;>rfl
     ·rfl
end Go.Abs.World
namespace Go.Abs.World
open Go Go.Abs
/-- All lists of a map are of bearable lengths. -/
structure BearM (m:Map):Prop where
  toBear:Bear m
  toBearS:BearS m
  toBearZ:BearZ m
  toBearW:BearW m
theorem BearM.lanes {m:Map}(B:BearM m):m.Lanes.length≤1000000:=B.toBear.lanes
noncomputable def C3u (m:Map):Int:=
  if inR m.Version 0 1099511627776=false then 2
  else if m.Lanes.length=0 then 6
  else if 12<m.Lanes.length∨12<m.Zones.length∨4<m.Signals.length∨8<m.Works.length then 8
  else ((K2 (laneE m.Lanes.length) 0 m.Lanes).or ((K2 (nextE m) 0 m.Lanes).or ((K2 (signalE m) 0 m.Signals).or ((K2 (zoneE m) 0 m.Zones).or (K2 (workE m) 0 m.Works))))).getD 0
theorem A1j {α:Type}{g:Nat→α→Option Int}(h: ∀i a e,g i a=some e→e≠0): ∀{l:List α} {i:Nat} {e:Int},K2 g i l=some e→e≠0
  | [],_,_,q=>by cases q
  |a::r,i,e,q=>by
   unfold K2 at q
   cases hg:g i a with
   |some e'=>rw [hg]at q;cases q;exact h i a e hg
   |none=>rw [hg]at q;exact A1j h q
theorem B99 {m:Map}{i:Nat}{z:Zone}{e:Int}(h:zoneE m i z=some e):e≠0:=by
  unfold zoneE at h
  repeat' split at h
  all_goals first|(cases h;decide)|cases h
theorem B4r {m:Map}{i:Nat}{z:Signal}{e:Int}(h:signalE m i z=some e):e≠0:=by
  unfold signalE at h
  repeat' split at h
  all_goals first|(cases h;decide)|cases h
theorem C3m {m:Map}{i:Nat}{z:Work}{e:Int}(h:workE m i z=some e):e≠0:=by
  unfold workE at h
  repeat' split at h
  all_goals first|(cases h;decide)|cases h
theorem C3n {m:Map}{i:Nat}{z:Lane}{e:Int}(h:nextE m i z=some e):e≠0:=A1j (fun _ _ _=>D1e) h
/-- A loop that goes on as long as there is no error. -/
theorem D6m {α:Type}{F:Int×Int→Option (Stp (Int×Int) Int)}(l:List α)(g:Nat→α→Option Int)(hg: ∀i a e,g i a=some e→e≠0)(hl:l.length≤1000000)
    (hF: ∀(i:Nat) a,l[i]? =some a→F (0,(i:Int))=some (.go ((g i a).getD 0,((i+1:Nat):Int)))) (h0: ∀(i:Nat) (e:Int),e≠0→F (e,(i:Int))=some (.out e)) (h1:F (0,(l.length:Int))=some (.out 0)) (e0:Option Int) (he: ∀e,e0=some e→e≠0):
    loop F (e0.getD 0,0)=some ((e0.or (K2 g 0 l)).getD 0):=by
  have key: ∀(r:List α) (i:Nat),l.drop i=r→i≤l.length→loop F (0,(i:Int))=some ((K2 g i r).getD 0):=by
    intro r
    induction r with
    |nil=>
     intro i hi hil
     have:=A0g hi
     obtain rfl:i=l.length:=by omega
     exact J7 h1
    |cons a r ih=>
     intro i hi hil
     have hlt:=A04 hi
     have hs:=hF i a (A9r hi)
     rw [Y4 hs]
     unfold K2
     cases h:g i a with
     |some e=>exact J7 (h0 (i+1) e (hg i a e h))
     |none=>exact ih (i+1) (R2 hi) (by omega)
  cases e0 with
  |some e=>exact J7 (h0 0 e (he e rfl))
  |none=>exact key l 0 rfl (by omega)
theorem B5f {m:Map}(B:BearM m):A83 m=some (C3u m):=by
  have hb:=B.lanes
  unfold A83 C3u
  rw [B2r,Option.bind_some]
  cases inR m.Version 0 1099511627776
  ·rfl
  ·simp only [Bool.not_true,cond_false,Bool.true_eq_false,if_false]
   by_cases h1:m.Lanes.length=0
   ·rw [if_pos h1,h1];rfl
   ·rw [if_neg h1,show ((m.Lanes.length:Int)==0)=false by simp only [beq_eq_false_iff_ne];omega,cond_false]
    by_cases h2:12<m.Lanes.length∨12<m.Zones.length∨4<m.Signals.length∨8<m.Works.length
    ·rw [if_pos h2,show ((((decide ((m.Lanes.length:Int)>12))||(decide ((m.Zones.length:Int)>12)))||(decide ((m.Signals.length:Int)>4)))||(decide ((m.Works.length:Int)>8)))=true by simp;omega];rfl
    ·rw [if_neg h2,show ((((decide ((m.Lanes.length:Int)>12))||(decide ((m.Zones.length:Int)>12)))||(decide ((m.Signals.length:Int)>4)))||(decide ((m.Works.length:Int)>8)))=false by simp;omega,cond_false]
     rw [C6c B.toBear]
     cases H:K2 (laneE m.Lanes.length) 0 m.Lanes with
     |some e=>rfl
     |none=>
      have n1: ∀e,K2 (nextE m) 0 m.Lanes=some e→e≠0:=fun e h=>A1j (fun _ _ _=>C3n) h
      have n2: ∀e,(K2 (nextE m) 0 m.Lanes).or (K2 (signalE m) 0 m.Signals)=some e→e≠0:=fun e h=>by
        rcases Option.or_eq_some_iff.1 h with h|⟨_,h⟩
        ·exact n1 e h
        ·exact A1j (fun _ _ _=>B4r) h
      have n3: ∀e,((K2 (nextE m) 0 m.Lanes).or (K2 (signalE m) 0 m.Signals)).or (K2 (zoneE m) 0 m.Zones)=some e→e≠0:=fun e h=>by
        rcases Option.or_eq_some_iff.1 h with h|⟨_,h⟩
        ·exact n2 e h
        ·exact A1j (fun _ _ _=>B99) h
      simp only [D1c,thenS,Option.none_or]
      rw [(C50 B.toBear H).2,Option.bind_some]
      rw [D6m m.Signals (signalE m) (fun _ _ _=>B4r) B.toBearS.many (fun i a ha=>by
       have hi:=U6 ha
       have hm:=B.toBearS.many
       unfold A3z
       dsimp only
       rw [A29 hi,H5 ha,Bool.true_and,show ((0:Int)==0)=true from rfl,cond_true,Option.bind_some,C93 B.toBearS i (List.mem_of_getElem? ha),R6 hi (by omega)];rfl) (fun i e he=>by
       unfold A3z
       dsimp only
       rw [show (e==0)=false by simpa using he,Bool.and_false];rfl) (by unfold A3z;dsimp only;rw [A00];rfl) _ n1,Option.bind_some]
      rw [D6m m.Zones (zoneE m) (fun _ _ _=>B99) B.toBearZ.many (fun i a ha=>by
       have hi:=U6 ha
       have hm:=B.toBearZ.many
       unfold A3y
       dsimp only
       rw [A29 hi,H5 ha,Bool.true_and,show ((0:Int)==0)=true from rfl,cond_true,Option.bind_some,D3r B.toBear B.toBearZ ha,R6 hi (by omega)];rfl) (fun i e he=>by
       unfold A3y
       dsimp only
       rw [show (e==0)=false by simpa using he,Bool.and_false];rfl) (by unfold A3y;dsimp only;rw [A00];rfl) _ n2,Option.bind_some]
      rw [D6m m.Works (workE m) (fun _ _ _=>C3m) B.toBearW.many (fun i a ha=>by
       have hi:=U6 ha
       have hm:=B.toBearW.many
       unfold A3x
       dsimp only
       rw [A29 hi,H5 ha,Bool.true_and,show ((0:Int)==0)=true from rfl,cond_true,Option.bind_some,D3t B.toBear (i:=i) a,R6 hi (by omega)];rfl) (fun i e he=>by
       unfold A3x
       dsimp only
       rw [show (e==0)=false by simpa using he,Bool.and_false];rfl) (by unfold A3x;dsimp only;rw [A00];rfl) _ n3,Option.bind_some]
      rw [Option.or_assoc,Option.or_assoc]
theorem B22 {m:Map}(B:BearM m):A3c m=some (C3u m):=by
  have hb:=B.lanes
  have s0:N9 m 0=(U0 ⟨m⟩).bind fun v2=>cond (v2 !=0) (some (.out (.inr v2))) (some (.go 1)):=rfl
  have s1:N9 m 1=(X2 ⟨m⟩).bind fun v2=>cond (v2 !=0) (some (.out (.inr v2))) (some (.go 2)):=rfl
  have s2:N9 m 2=(V5 ⟨m⟩).bind fun v2=>cond (v2 !=0) (some (.out (.inr v2))) (some (.go 3)):=rfl
  have s3:N9 m 3=(U1 ⟨m⟩).bind fun v2=>cond (v2 !=0) (some (.out (.inr v2))) (some (.go 4)):=rfl
  have s4:N9 m 4=(X4 ⟨m⟩).bind fun v2=>cond (v2 !=0) (some (.out (.inr v2))) (some (.go 5)):=rfl
  have s5:N9 m 5=(X5 ⟨m⟩).bind fun v2=>cond (v2 !=0) (some (.out (.inr v2))) (some (.go 6)):=rfl
  have s6:N9 m 6=some (.out (.inl ())):=rfl
  have stp: ∀(i j:Int) (e:Option Int) (X:Option Int),(∀e',e=some e'→e'≠0)→X=some (e.getD 0)→N9 m i=X.bind (fun v2=>cond (v2 !=0) (some (.out (.inr v2))) (some (.go j)))→loop (N9 m) i=match e with|some e'=>some (.inr e')|none=>loop (N9 m) j:=by
    intro i j e X he hX hs
    subst hX
    rw [Option.bind_some]at hs
    cases e with
    |none=>exact Y4 hs
    |some e'=>
     rw [Option.getD_some,show (e' !=0)=true by simpa using he e' rfl]at hs
     exact J7 hs
  unfold A3c C3u
  have hnum:U0 ⟨m⟩=some ((if inR m.Version 0 1099511627776=false then some 2 else if m.Lanes.length=0 then some 6 else if 12<m.Lanes.length∨12<m.Zones.length∨4<m.Signals.length∨8<m.Works.length then some 8 else none:Option Int).getD 0):=by
    unfold U0
    dsimp only
    rw [B2q,Option.bind_some]
    cases inR m.Version 0 1099511627776
    ·rfl
    ·simp only [Bool.not_true,cond_false,Bool.true_eq_false,if_false]
     by_cases h1:m.Lanes.length=0
     ·rw [if_pos h1,h1];rfl
     ·rw [if_neg h1,show ((m.Lanes.length:Int)==0)=false by simp only [beq_eq_false_iff_ne];omega,cond_false]
      by_cases h2:12<m.Lanes.length∨12<m.Zones.length∨4<m.Signals.length∨8<m.Works.length
      ·rw [if_pos h2,show ((((decide ((m.Lanes.length:Int)>12))||(decide ((m.Zones.length:Int)>12)))||(decide ((m.Signals.length:Int)>4)))||(decide ((m.Works.length:Int)>8)))=true by simp;omega];rfl
      ·rw [if_neg h2,show ((((decide ((m.Lanes.length:Int)>12))||(decide ((m.Zones.length:Int)>12)))||(decide ((m.Signals.length:Int)>4)))||(decide ((m.Works.length:Int)>8)))=false by simp;omega];rfl
  rw [stp 0 1 _ _ (by repeat' split
                      all_goals (intro e' h;first|(cases h;decide)|cases h)) hnum s0]
  by_cases q1:inR m.Version 0 1099511627776=false
  ·rw [if_pos q1,if_pos q1];rfl
  ·rw [if_neg q1,if_neg q1]
   by_cases q2:m.Lanes.length=0
   ·rw [if_pos q2,if_pos q2];rfl
   ·rw [if_neg q2,if_neg q2]
    by_cases q3:12<m.Lanes.length∨12<m.Zones.length∨4<m.Signals.length∨8<m.Works.length
    ·rw [if_pos q3,if_pos q3];rfl
    ·rw [if_neg q3,if_neg q3]
     dsimp only
     rw [stp 1 2 _ _ (fun e' h=>A1j (fun _ _ _=>C3j) h) (D3n B.toBear) s1]
     cases H:K2 (laneE m.Lanes.length) 0 m.Lanes with
     |some e=>rfl
     |none=>
      dsimp only
      rw [stp 2 3 _ _ (fun e' h=>A1j (fun _ _ _=>C3n) h) (C50 B.toBear H).1 s2]
      cases K2 (nextE m) 0 m.Lanes with
      |some e=>rfl
      |none=>
       dsimp only
       rw [stp 3 4 _ _ (fun e' h=>A1j (fun _ _ _=>B4r) h) (C91 B.toBear B.toBearS) s3]
       cases K2 (signalE m) 0 m.Signals with
       |some e=>rfl
       |none=>
        dsimp only
        rw [stp 4 5 _ _ (fun e' h=>A1j (fun _ _ _=>B99) h) (D3q B.toBear B.toBearZ) s4]
        cases K2 (zoneE m) 0 m.Zones with
        |some e=>rfl
        |none=>
         dsimp only
         rw [stp 5 6 _ _ (fun e' h=>A1j (fun _ _ _=>C3m) h) (D3s B.toBear B.toBearW) s5]
         cases K2 (workE m) 0 m.Works with
         |some e=>rfl
         |none=>dsimp only;rw [J7 s6];rfl
end Go.Abs.World
namespace Go.Abs.World
open Go Go.Abs
/-- What a valid map is. -/
structure ValR (m:Map):Prop where
  ver:0≤m.Version∧m.Version≤1099511627776
  pos:0<m.Lanes.length
  lanes:m.Lanes.length≤12
  zones:m.Zones.length≤12
  signals:m.Signals.length≤4
  works:m.Works.length≤8
  laneE:K2 (laneE m.Lanes.length) 0 m.Lanes=none
  nextE:K2 (nextE m) 0 m.Lanes=none
  signalE:K2 (signalE m) 0 m.Signals=none
  zoneE:K2 (zoneE m) 0 m.Zones=none
  workE:K2 (workE m) 0 m.Works=none
theorem D1g {α:Type}{g:Nat→α→Option Int}{l:List α}(h: ∀i a e,g i a=some e→e≠0)(h0:(K2 g 0 l).getD 0=0):K2 g 0 l=none:=by
  cases q:K2 g 0 l with
  |none=>rfl
  |some e=>rw [q]at h0;exact absurd h0 (A1j h q)
theorem chkR_zero {m:Map}:C3u m=0↔ValR m:=by
  unfold C3u
  constructor
  ·intro h
   split at h
   ·cases h
   ·rename_i h1
    split at h
    ·cases h
    ·rename_i h2
     split at h
     ·cases h
     ·rename_i h3
      simp only [inR,Bool.not_eq_false,Bool.and_eq_true,decide_eq_true_eq]at h1
      have key: ∀{o r:Option Int},(∀e,o=some e→e≠0)→(o.or r).getD 0=0→o=none∧r.getD 0=0:=by
        intro o r ho hr
        cases o with
        |none=>exact ⟨rfl,hr⟩
        |some e=>exact absurd hr (ho e rfl)
      obtain ⟨a1,h⟩:=key (fun e h=>A1j (fun _ _ _=>C3j) h) h
      obtain ⟨a2,h⟩:=key (fun e h=>A1j (fun _ _ _=>C3n) h) h
      obtain ⟨a3,h⟩:=key (fun e h=>A1j (fun _ _ _=>B4r) h) h
      obtain ⟨a4,h⟩:=key (fun e h=>A1j (fun _ _ _=>B99) h) h
      exact ⟨h1,by omega,by omega,by omega,by omega,by omega,a1,a2,a3,a4,D1g (fun _ _ _=>C3m) h⟩
  ·rintro ⟨h1,h2,h3,h4,h5,h6,a1,a2,a3,a4,a5⟩
   rw [if_neg (by simp only [inR,Bool.not_eq_false,Bool.and_eq_true,decide_eq_true_eq];exact h1),if_neg (by omega),if_neg (by omega),a1,a2,a3,a4,a5];rfl
section
variable {m:Map}
theorem ValR.laneOK (V:ValR m){i:Nat}{l:Lane}(h:m.Lanes[i]? =some l):LaneOK m.Lanes.length i l:=B78 V.laneE h
theorem ValR.next (V:ValR m){i:Nat}{l:Lane}(h:m.Lanes[i]? =some l){k:Int}(hk:k∈l.Next):(i:Int)<k∧k<m.Lanes.length:=by
  have:=B2s (V.laneOK h).next k hk
  omega
end
/-- The lanes in which a lane goes on. -/
def nextOf (m:Map)(a:Nat):List Int:=((m.Lanes[a]?).map (·.Next)).getD []
theorem ValR.nextOf {m:Map}(V:ValR m){a:Nat}{k:Int}(hk:k∈World.nextOf m a):(a:Int)<k∧k<m.Lanes.length:=by
  unfold World.nextOf at hk
  cases h:m.Lanes[a]? with
  |none=>rw [h]at hk;cases hk
  |some l=>rw [h]at hk;exact V.next h hk
def D4v (m:Map)(b:Int):Nat→Nat→Bool
  |0,_=>false
  |n+1,a=>(nextOf m a).any fun k=>k==b||D4v m b n k.toNat
/-- Does a lane lead to another one? -/
def D8d (m:Map)(a:Nat)(b:Int):Bool:=D4v m b m.Lanes.length a
end Go.Abs.World
namespace Go.Abs.World
open Go Go.Abs
/-- What is known of the sets of the lanes from a number on. -/
structure Reach (m:Map)(i:Nat)(l:List Nat):Prop where
  len:l.length=12
  small: ∀(a x:Nat),l[a]? =some x→x<2^32
  zero: ∀(a:Nat),a<i→l[a]? =some 0
  bits: ∀(a x:Nat),i≤a→a<m.Lanes.length→l[a]? =some x→∀b:Nat,x.testBit b=D8d m a (b:Int)
theorem Reach.get {m:Map}{i:Nat}{l:List Nat}(R:Reach m i l){a:Nat}(h:a<12): ∃x,l[a]? =some x∧x<2^32:=by
  have:=R.len
  exact ⟨l[a],List.getElem?_eq_getElem (by omega),R.small a _ (List.getElem?_eq_getElem (by omega))⟩
end Go.Abs.World
namespace Go.Abs.World
open Go Go.Abs
theorem C0z {m:Map}(B:BearM m){k:Int}(h0:0≤k)(h1:k<m.Lanes.length):A8u m k=some (W5 m k):=by
  obtain ⟨l,e1,e2⟩:=C3l B.toBear h0 h1
  unfold A8u
  rw [e1,Option.bind_some,e2];rfl
theorem C10 (l:List Int)(hl:l.length≤1000000)(k:Int):L8 l k=some (l.contains k):=by
  unfold L8 V1
  rw [C3k l (fun x=>k==x) (by omega) (fun i a h=>by
   have hi:=U6 h
   unfold Q7
   rw [A29 hi,H5 h,cond_true,Option.bind_some]
   cases k==a<;>rfl) (by unfold Q7;rw [A00];rfl)]
  rw [Option.bind_some,B98,List.contains_eq_any_beq]
theorem D4w (l:List Int)(hl:l.length≤1000000)(k:Int):B2m l k=some (l.contains k):=by
  unfold B2m
  rw [D6l l (fun x=>x==k) true (fun i a h=>by
   have hi:=U6 h
   unfold A8s
   rw [A29 hi,H5 h,cond_true,Option.bind_some,R6 hi (by omega)]
   cases a==k<;>rfl) (by unfold A8s;rw [A00];rfl)]
  rw [List.contains_eq_any_beq,show (fun x=>x==k)=(fun x=>k==x) from funext fun x=>by rw [Bool.beq_comm]]
  cases l.any fun x=>k==x<;>rfl
/-- What comes before a lane. -/
def B23 (m:Map)(k:Int):List Int:=C1n (fun i (l:Lane)=>if l.Next.contains k then some (i:Int)else none) 0 m.Lanes
theorem D1h {m:Map}(B:BearM m)(k:Int):A4m m k=some (B23 m k):=by
  unfold A4m B23
  have hb:=B.lanes
  rw [D4t m.Lanes (fun i (l:Lane)=>if l.Next.contains k then some (i:Int)else none) id (fun i l s h hs=>by
   have hi:=U6 h
   unfold A1b
   dsimp only
   rw [A29 hi,H5 h,cond_true,Option.bind_some,C10 _ (B.toBear.pts l (List.mem_of_getElem? h)).2,Option.bind_some,B2w (by simp;omega),R6 hi (by omega)]
   cases l.Next.contains k<;>rfl) (fun s=>by unfold A1b;rw [A00];rfl)]
  rfl
theorem C94 {m:Map}(B:BearM m)(k:Int):A8t m k=some (B23 m k):=by
  unfold A8t B23
  have hb:=B.lanes
  rw [D4t m.Lanes (fun i (l:Lane)=>if l.Next.contains k then some (i:Int)else none) id (fun i l s h hs=>by
   have hi:=U6 h
   unfold A4y
   dsimp only
   rw [A29 hi,H5 h,cond_true,Option.bind_some,D4w _ (B.toBear.pts l (List.mem_of_getElem? h)).2,Option.bind_some,B2w (by simp;omega),R6 hi (by omega)]
   cases l.Next.contains k<;>rfl) (fun s=>by unfold A4y;rw [A00];rfl)]
  rfl
end Go.Abs.World
namespace Go.Abs.World
open Go Go.Abs
structure ZoneOK (m:Map)(z:Zone):Prop where
  two:2≤z.Parts.length
  six:z.Parts.length≤6
  sig:0≤z.Signal_∧z.Signal_≤m.Signals.length
  rise:A68 m.Lanes.length 0 (z.Parts.map (·.Lane_))=true
  part: ∀p∈z.Parts,0≤p.From∧p.From<p.To∧p.To≤W5 m p.Lane_∧0≤p.Rank∧p.Rank≤100
theorem ZoneOK.lane {m:Map}{z:Zone}(O:ZoneOK m z){p:Part}(hp:p∈z.Parts):0≤p.Lane_∧p.Lane_<m.Lanes.length:=B2s O.rise p.Lane_ (List.mem_map.2 ⟨p,hp,rfl⟩)
end Go.Abs.World
namespace Go.Abs.World
open Go Go.Abs
end Go.Abs.World
namespace Go.Abs.World
open Go Go.Abs
theorem D3u:A6e=some true:=law04_awake_le _ (by decide+kernel)
end Go.Abs.World
namespace Go.Abs.World
open Go Go.Abs
end Go.Abs.World
namespace Go.Abs.World
open Go Go.Abs
theorem B10 (n:Int){m:Int}(hm:0<m):0≤n % m∧n % m<m:=⟨Int.emod_nonneg n (by omega),Int.emod_lt_of_pos n hm⟩
theorem D1i {n m:Int}(hm:0<m):n % m=if n.tmod m<0 then n.tmod m+m else n.tmod m:=by
  have a:=Int.emod_nonneg n (show m≠0 by omega)
  have b:=Int.emod_lt_of_pos n hm
  rw [Int.tmod_eq_emod]
  by_cases q:0≤n∨m ∣ n
  ·rw [if_pos q,if_neg (by omega)];omega
  ·rw [if_neg q]
   have:n % m≠0:=fun e=>q (.inr (Int.dvd_of_emod_eq_zero e))
   rw [if_pos (by omega)];omega
theorem C95 {n m:Int}(hm:0<m)(hm2:m≤9223372036854775807):C0h n m=some (n % m):=by
  have h1:=D1i (n:=n) hm
  have a:=B10 n hm
  unfold C0h D0d
  rw [if_neg (by omega),Option.bind_some]
  by_cases q:n.tmod m<0
  ·rw [if_pos q]at h1
   rw [decide_eq_true q,cond_true,R8 (by omega),← h1]
  ·rw [if_neg q]at h1
   rw [decide_eq_false q,cond_false,← h1]
def lnK (kind lim:Int)(next:List Int)(a b c d:Int):Lane:=⟨kind,⟨[⟨a,b⟩,⟨c,d⟩]⟩,if kind=3 then 500 else 1500,lim,next⟩
theorem D6n (kind lim:Int)(next:List Int)(a b c d:Int):X9 kind lim next [a,b,c,d]=some (lnK kind lim next a b c d):=by
  unfold X9 lnK
  rw [Y4 (s':=(2,[⟨a,b⟩])) rfl,Y4 (s':=(4,[⟨a,b⟩,⟨c,d⟩])) rfl,J7 (t:= [⟨a,b⟩,⟨c,d⟩]) rfl,Option.bind_some]
  by_cases h:kind=3
  ·rw [if_pos h,h];rfl
  ·rw [if_neg h,show (kind==3)=false by simpa using h];rfl
def sgK (off a b:Int):Signal:=⟨off,[⟨12,[a]⟩,⟨5,[]⟩,⟨9,[b]⟩,⟨4,[]⟩]⟩
/-- The numbers of which a map of the kit is made. -/
structure Par where
  lim:Int
  r:Int
  o:Int
  o':Int
  ver:Int
  wk:List Work
structure ParOK (p:Par):Prop where
  lim:p.lim=1500∨p.lim=600∨p.lim=1000∨p.lim=300
  r:p.r=0∨p.r=1
  o:0≤p.o∧p.o<31
  o':0≤p.o'∧p.o'<31
  ver:0≤p.ver∧p.ver<5
  wk:p.wk= []∨∃b l,0≤b∧b<40∧0≤l∧l≤400∧p.wk= [⟨0,10000,15000,b,b+20,l⟩]
def B11 (k:Nat)(lim:Int):List Lane:=match k with
  |0=> [lnK 1 lim [] 0 0 60000 0]
  |1|2=> [lnK 1 lim [] 0 0 50000 0,lnK 1 1500 [] 30000 (-20000) 30000 20000]
  |3=> [lnK 1 lim [1,2] 0 0 30000 0,lnK 1 1500 [] 30000 0 60000 0,lnK 1 800 [] 30000 0 54000 10000]
  |4=> [lnK 1 lim [2] 0 0 30000 0,lnK 1 1500 [2] 6000 (-10000) 30000 0,lnK 1 1500 [] 30000 0 60000 0]
  |5=> [lnK 1 lim [1] 0 0 20000 0,lnK 1 lim [] 20000 0 50000 0,lnK 3 200 [] 35000 (-8000) 35000 8000]
  |_=> [lnK 1 lim [1,2] 0 0 20000 0,lnK 1 1500 [] 20000 0 50000 0,lnK 1 1000 [] 20000 0 44000 10000,lnK 2 700 [] 36000 (-12000) 36000 18000]
def C11 (k:Nat)(r:Int):List Zone:=match k with
  |1=> [⟨[⟨0,28000,32000,r⟩,⟨1,18000,22000,2 - 2*r⟩],0⟩]
  |2=> [⟨[⟨0,28000,32000,r⟩,⟨1,18000,22000,2 - 2*r⟩],1⟩]
  |4=> [⟨[⟨0,25000,30000,1⟩,⟨1,20000,26000,0⟩,⟨2,0,5000,0⟩],0⟩]
  |5=> [⟨[⟨1,14000,16000,0⟩,⟨2,6000,10000,3⟩],0⟩]
  |6=> [⟨[⟨1,14000,18000,1⟩,⟨3,10000,14000,0⟩],0⟩,⟨[⟨2,14000,21000,1⟩,⟨3,14500,23000,0⟩],0⟩]
  |7=> [⟨[⟨1,14000,18000,1⟩,⟨3,10000,14000,0⟩],1⟩,⟨[⟨2,14000,21000,1⟩,⟨3,14500,23000,0⟩],2⟩]
  |_=> []
def B87 (k:Nat)(o o':Int):List Signal:=match k with
  |2=> [sgK o 0 1]
  |7=> [sgK o 1 3,sgK o' 2 3]
  |_=> []
def C7q (k:Nat)(p:Par):Map:=⟨p.ver,B11 k p.lim,C11 k p.r,B87 k p.o p.o',p.wk⟩
theorem C96 (n:Int): ∃k p,k<8∧ParOK p∧B7x n=some (C7q k p):=by
  obtain ⟨h0,h1⟩:=B10 n (show (0:Int)<16777216 by decide)
  unfold B7x
  rw [C95 (by decide) (by decide),Option.bind_some]
  generalize n % 16777216=v at h0 h1
  have t: ∀m:Int,0<m→v.tdiv m=v / m:=fun m hm=>by rw [Int.tdiv_eq_ediv_of_nonneg h0]
  have u: ∀x m:Int,0≤x→x.tmod m=x % m:=fun x m hx=>by rw [Int.tmod_eq_emod_of_nonneg hx]
  have d: ∀m:Int,0<m→0≤v / m∧v / m<16777216:=fun m hm=>⟨Int.ediv_nonneg h0 (by omega),Int.lt_of_le_of_lt (Int.ediv_le_self m h0) h1⟩
  have W: ∀m:Int,0<m→w64 (v / m)=v / m:=fun m hm=>R8 (by have:=d m hm;omega)
  rw [t 7 (by decide),t 28 (by decide),t 56 (by decide),t 1736 (by decide),t 5208 (by decide),t 208320 (by decide)]
  rw [W 7 (by decide),W 28 (by decide),W 56 (by decide),W 1736 (by decide),W 5208 (by decide),W 208320 (by decide)]
  rw [u (v / 7) _ (d 7 (by decide)).1,u (v / 28) 2 (d 28 (by decide)).1,u (v / 28) 31 (d 28 (by decide)).1,u (v / 56) 31 (d 56 (by decide)).1,u (v / 56) 17 (d 56 (by decide)).1,u (v / 1736) _ (d 1736 (by decide)).1,u (v / 5208) _ (d 5208 (by decide)).1,u (v / 208320) _ (d 208320 (by decide)).1,u v _ h0,u (v / 28) 5 (d 28 (by decide)).1]
  have b1:=B10 (v / 7) (show (0:Int)<4 by decide)
  have b2:=B10 (v / 28) (show (0:Int)<2 by decide)
  have b3:=B10 (v / 28) (show (0:Int)<31 by decide)
  have b4:=B10 (v / 56) (show (0:Int)<31 by decide)
  have b5:=B10 (v / 56) (show (0:Int)<17 by decide)
  have b6:=B10 (v / 5208) (show (0:Int)<40 by decide)
  have b7:=B10 (v / 208320) (show (0:Int)<3 by decide)
  have b8:=B10 v (show (0:Int)<7 by decide)
  have b9:=B10 (v / 28) (show (0:Int)<5 by decide)
  generalize v / 7 % 4=q1 at b1
  generalize v / 28 % 2=q2 at b2
  generalize v / 28 % 31=q3 at b3
  generalize v / 56 % 31=q4 at b4
  generalize v / 56 % 17=q5 at b5
  generalize v / 5208 % 40=q6 at b6
  generalize v / 208320 % 3=q7 at b7
  generalize v % 7=q8 at b8
  generalize v / 28 % 5=q9 at b9
  have e1: ∃lim:Int,D6 ([1500,600,1000,300]:List Int) q1=some lim∧(lim=1500∨lim=600∨lim=1000∨lim=300):=by
    rcases (show q1=0∨q1=1∨q1=2∨q1=3 by omega)with rfl|rfl|rfl|rfl
    ·exact ⟨1500,rfl,by decide⟩
    ·exact ⟨600,rfl,by decide⟩
    ·exact ⟨1000,rfl,by decide⟩
    ·exact ⟨300,rfl,by decide⟩
  obtain ⟨lim,e1,hlim⟩:=e1
  rw [e1,Option.bind_some]
  have ew: ∀(L:List Lane) (Z:List Zone) (S:List Signal),∃wk,(wk= []∨∃b l,0≤b∧b<40∧0≤l∧l≤400∧wk= [⟨0,10000,15000,b,b+20,l⟩])∧
   (cond (v / 1736 % 3==1) (some (Map.mk q9 L Z S [(Work.mk 0 10000 15000 q6 (w64 (q6+20)) (w64 (q7*200)))])) (some (Map.mk q9 L Z S [])))=some ⟨q9,L,Z,S,wk⟩:=by
    intro L Z S
    cases v / 1736 % 3==1
    ·exact ⟨[], .inl rfl,rfl⟩
    ·exact ⟨[⟨0,10000,15000,q6,q6+20,q7*200⟩], .inr ⟨q6,q7*200,by omega,by omega,by omega,by omega,rfl⟩,by rw [R8 (by omega),R8 (by omega)];rfl⟩
  have er:w64 (2 - w64 (2*q2))=2 - 2*q2:=by rw [R8 (n:=2*q2) (by omega),R8 (by omega)]
  rw [er]
  simp only [D6n,Option.bind_some]
  have fin: ∀(k:Nat) (o o':Int) (L:List Lane) (Z:List Zone) (S:List Signal),k<8→0≤o∧o<31→0≤o'∧o'<31→L=B11 k lim→Z=C11 k q2→S=B87 k o o'→∃k p,k<8∧ParOK p∧(cond (v / 1736 % 3==1) (some (Map.mk q9 L Z S [(Work.mk 0 10000 15000 q6 (w64 (q6+20)) (w64 (q7*200)))])) (some (Map.mk q9 L Z S [])))=some (C7q k p):=by
    intro k o o' L Z S hk h1 h2 e1 e2 e3
    obtain ⟨wk,w1,w2⟩:=ew L Z S
    subst e1 e2 e3
    exact ⟨k,⟨lim,q2,o,o',q9,wk⟩,hk,⟨hlim,by dsimp only;omega,h1,h2,b9,w1⟩,w2⟩
  rcases (show q8=0∨q8=1∨q8=2∨q8=3∨q8=4∨q8=5∨q8=6 by omega)with rfl|rfl|rfl|rfl|rfl|rfl|rfl
  ·exact fin 0 0 0 _ _ _ (by decide) (by decide) (by decide) rfl rfl rfl
  ·exact fin 1 0 0 _ _ _ (by decide) (by decide) (by decide) rfl rfl rfl
  ·exact fin 2 q3 0 _ _ _ (by decide) b3 (by decide) rfl rfl rfl
  ·exact fin 3 0 0 _ _ _ (by decide) (by decide) (by decide) rfl rfl rfl
  ·exact fin 4 0 0 _ _ _ (by decide) (by decide) (by decide) rfl rfl rfl
  ·exact fin 5 0 0 _ _ _ (by decide) (by decide) (by decide) rfl rfl rfl
  ·rcases (show q2=0∨q2=1 by omega)with rfl|rfl
   ·exact fin 6 0 0 _ _ _ (by decide) (by decide) (by decide) rfl rfl rfl
   ·exact fin 7 q4 q5 _ _ _ (by decide) b4 (by omega) rfl rfl rfl
end Go.Abs.World
namespace Go.Abs.World
open Go Go.Abs
theorem D1j:((List.range 8).all fun k=>([1500,600,1000,300]:List Int).all fun lim=>([0,1]:List Int).all fun r=>A6t (C7q k ⟨lim,r,0,0,0,[]⟩)==some 0)=true:=by decide+kernel
theorem C6g (k:Nat)(lim:Int):(B11 k lim).length≤4∧∀l∈B11 k lim,l.Curve_.Pts.length=2∧l.Next.length≤2:=by
  unfold B11
  split<;>simp [lnK]
theorem C12 (k:Nat)(r:Int):(C11 k r).length≤2∧∀z∈C11 k r,z.Parts.length≤3:=by
  unfold C11
  split<;>simp
theorem C97 (k:Nat)(o o':Int):(B87 k o o').length≤2∧∀s∈B87 k o o',s.Phases.length=4∧∀p∈s.Phases,p.Green.length≤1:=by
  unfold B87
  split<;>simp [sgK]
theorem D1k {m:Map}{k:Nat}{lim r o o':Int}(h1:m.Lanes=B11 k lim)(h2:m.Zones=C11 k r)(h3:m.Signals=B87 k o o')(h4:m.Works.length≤1):BearM m:=by
  obtain ⟨a1,a2⟩:=C6g k lim
  obtain ⟨b1,b2⟩:=C12 k r
  obtain ⟨c1,c2⟩:=C97 k o o'
  refine ⟨⟨by rw [h1];omega,fun l hl=> ?_⟩,⟨by rw [h3];omega,fun s hs=>⟨?_,fun p hp=> ?_⟩⟩,⟨by rw [h2];omega,fun z hz=> ?_⟩,⟨by omega⟩⟩
  ·rw [h1]at hl;have:=a2 l hl;omega
  ·rw [h3]at hs;have:=(c2 s hs).1;omega
  ·rw [h3]at hs;have:=(c2 s hs).2 p hp;omega
  ·rw [h2]at hz;have:=b2 z hz;omega
theorem ParOK.wk1 {p:Par}(h:ParOK p):p.wk.length≤1:=by
  rcases h.wk with e|⟨b,l,_,_,_,_,e⟩<;>rw [e]<;>simp
theorem D3v {k:Nat}{p:Par}(h:ParOK p):BearM (C7q k p):=D1k rfl rfl rfl h.wk1
theorem D93 {k:Nat}{p:Par}(hk:k<8)(h:ParOK p):ValR (C7q k ⟨p.lim,p.r,0,0,0,[]⟩):=by
  have h1:=List.all_eq_true.1 D1j k (List.mem_range.2 hk)
  have h2:=List.all_eq_true.1 h1 p.lim (by have:=h.lim;simp;omega)
  have h3:=List.all_eq_true.1 h2 p.r (by have:=h.r;simp;omega)
  have h4:=roads_Check_le _ _ (eq_of_beq h3)
  have h5:=B22 (m:=C7q k ⟨p.lim,p.r,0,0,0,[]⟩) (D1k rfl rfl rfl (Nat.zero_le 1))
  rw [h4]at h5
  exact chkR_zero.1 (Option.some.inj h5).symm
/-- Another version, other offsets, other works. -/
theorem ValR.change {L:List Lane}{Z:List Zone}{S S':List Signal}{W W':List Work}{v v':Int}(V:ValR ⟨v,L,Z,S,W⟩)(hv:0≤v'∧v'≤1099511627776)(hl:S'.length=S.length)(hs: ∀s∈S',World.signalE ⟨v,L,Z,S,W⟩ 0 s=none)(hw:W'.length≤8)(hw': ∀w∈W',World.workE ⟨v,L,Z,S,W⟩ 0 w=none):ValR ⟨v',L,Z,S',W'⟩:=by
  refine ⟨hv,V.pos,V.lanes,V.zones,by show S'.length≤4;rw [hl];exact V.signals,hw,V.laneE,V.nextE,?_,?_,?_⟩
  ·rw [firstE_none]
   intro j a ha
   exact hs a (List.mem_of_getElem? ha)
  ·have:=V.zoneE
   rw [firstE_none]at this ⊢
   intro j a ha
   have:=this j a ha
   unfold World.zoneE at this ⊢
   dsimp only at this ⊢
   rw [hl]
   exact this
  ·rw [firstE_none]
   intro j a ha
   exact hw' a (List.mem_of_getElem? ha)
theorem D1l (k:Nat)(o o' a a':Int):(B87 k o o').length=(B87 k a a').length:=by unfold B87;split<;>rfl
theorem D3w {k:Nat}{o o':Int}(h:0≤o∧o<31)(h':0≤o'∧o'<31){m:Map}(hm:m.Lanes.length=(B11 k 0).length): ∀s∈B87 k o o',signalE m 0 s=none:=by
  have key: ∀(off a b:Int),0≤off∧off<31→0≤a∧a<m.Lanes.length→0≤b∧b<m.Lanes.length→signalE m 0 (sgK off a b)=none:=by
    intro off a b h1 h2 h3
    unfold signalE sgK
    simp only [List.length_cons,List.length_nil]
    rw [if_neg (by decide),if_neg (by decide),if_neg (by simp [inR];omega),if_neg (by simp [inR]),if_neg]
    simp only [List.any_cons,List.any_nil,A68,Bool.and_true,Bool.or_false,Bool.not_true,Bool.false_or,Bool.or_eq_true,Bool.not_eq_true',not_or,Bool.not_eq_false,Bool.and_eq_true,decide_eq_true_eq]
    omega
  intro s hs
  unfold B87 at hs
  split at hs
  ·rw [show (B11 2 0).length=2 from rfl]at hm
   simp only [List.mem_singleton]at hs
   subst hs
   exact key _ _ _ h (by omega) (by omega)
  ·rw [show (B11 7 0).length=4 from rfl]at hm
   simp only [List.mem_cons,List.not_mem_nil,or_false]at hs
   rcases hs with rfl|rfl
   ·exact key _ _ _ h (by omega) (by omega)
   ·exact key _ _ _ h' (by omega) (by omega)
  ·cases hs
theorem C98 (k:Nat)(lim:Int):(B11 k lim).length=(B11 k 0).length:=by unfold B11;split<;>rfl
end Go.Abs.World
namespace Go.Abs.World
open Go Go.Abs
theorem B79 (c:Int)(h:A9q ⟨[⟨0,0⟩,⟨c,0⟩]⟩=some c):B97 ⟨[⟨0,0⟩,⟨c,0⟩]⟩=c:=by
  have h1:=curve_Length_le _ _ h
  rw [B4g _ (by simp)]at h1
  exact Option.some.inj h1
/-- The first lane of a map of the kit: a road, long enough. -/
theorem C13 (k:Nat)(lim:Int): ∃l,(B11 k lim)[0]? =some l∧l.Kind=1∧l.Limit=lim∧20000≤B97 l.Curve_∧B97 l.Curve_≤60000:=by
  have e6:=B79 60000 (by decide+kernel)
  have e5:=B79 50000 (by decide+kernel)
  have e3:=B79 30000 (by decide+kernel)
  have e2:=B79 20000 (by decide+kernel)
  unfold B11
  split
  ·exact ⟨_,rfl,rfl,rfl,by show 20000≤B97 ⟨[⟨0,0⟩,⟨60000,0⟩]⟩∧B97 ⟨[⟨0,0⟩,⟨60000,0⟩]⟩≤60000;rw [e6];decide⟩
  ·exact ⟨_,rfl,rfl,rfl,by show 20000≤B97 ⟨[⟨0,0⟩,⟨50000,0⟩]⟩∧B97 ⟨[⟨0,0⟩,⟨50000,0⟩]⟩≤60000;rw [e5];decide⟩
  ·exact ⟨_,rfl,rfl,rfl,by show 20000≤B97 ⟨[⟨0,0⟩,⟨50000,0⟩]⟩∧B97 ⟨[⟨0,0⟩,⟨50000,0⟩]⟩≤60000;rw [e5];decide⟩
  ·exact ⟨_,rfl,rfl,rfl,by show 20000≤B97 ⟨[⟨0,0⟩,⟨30000,0⟩]⟩∧B97 ⟨[⟨0,0⟩,⟨30000,0⟩]⟩≤60000;rw [e3];decide⟩
  ·exact ⟨_,rfl,rfl,rfl,by show 20000≤B97 ⟨[⟨0,0⟩,⟨30000,0⟩]⟩∧B97 ⟨[⟨0,0⟩,⟨30000,0⟩]⟩≤60000;rw [e3];decide⟩
  ·exact ⟨_,rfl,rfl,rfl,by show 20000≤B97 ⟨[⟨0,0⟩,⟨20000,0⟩]⟩∧B97 ⟨[⟨0,0⟩,⟨20000,0⟩]⟩≤60000;rw [e2];decide⟩
  ·exact ⟨_,rfl,rfl,rfl,by show 20000≤B97 ⟨[⟨0,0⟩,⟨20000,0⟩]⟩∧B97 ⟨[⟨0,0⟩,⟨20000,0⟩]⟩≤60000;rw [e2];decide⟩
theorem D94 {m:Map}{l:Lane}(hl:m.Lanes[0]? =some l)(hk:l.Kind=1){w:Work}(h:w.Lane_=0∧0≤w.From∧w.From≤w.To∧w.To≤B97 l.Curve_∧0≤w.Begin∧w.Begin<w.End∧w.End≤1099511627776∧0≤w.Limit∧w.Limit≤2000):workE m 0 w=none:=by
  obtain ⟨h1,h2,h3,h4,h5,h6,h7,h8,h9⟩:=h
  have hlen:=U6 hl
  unfold workE W5
  rw [h1,show ((0:Int).toNat)=0 from rfl,hl,if_neg (by omega),if_neg]
  simp only [Option.map_some,Option.getD_some,Option.get!_some,hk,inR,B8q,if_true,Bool.or_eq_true,decide_eq_true_eq,Bool.not_eq_true',not_or,Bool.not_eq_false,Bool.and_eq_true]
  omega
/-- A map of the kit is valid, with such works. -/
theorem D3x {k:Nat}{p:Par}(hk:k<8)(h:ParOK p){W:List Work}(hw:W.length≤8)(hW: ∀w∈W,w.Lane_=0∧0≤w.From∧w.From≤w.To∧w.To≤W5 (C7q k p) 0∧0≤w.Begin∧w.Begin<w.End∧w.End≤1099511627776∧0≤w.Limit∧w.Limit≤2000):ValR ⟨p.ver,B11 k p.lim,C11 k p.r,B87 k p.o p.o',W⟩:=by
  have V:=D93 hk h
  obtain ⟨l,l1,l2,l3,l4,l5⟩:=C13 k p.lim
  have hv:=h.ver
  refine ValR.change (v:=0) (S:=B87 k 0 0) (W:= []) V (by omega) (D1l k _ _ _ _) (fun s hs=>D3w h.o h.o' (by exact C98 k p.lim) s hs) hw (fun w hwm=> ?_)
  obtain ⟨a1,a2,a3,a4,a5,a6,a7,a8,a9⟩:=hW w hwm
  refine D94 (l:=l) l1 l2 ⟨a1,a2,a3,?_,a5,a6,a7,a8,a9⟩
  have:W5 (C7q k p) 0=B97 l.Curve_:=by
    unfold W5 C7q
    dsimp only
    rw [show ((0:Int).toNat)=0 from rfl,l1];rfl
  omega
theorem D1m (k:Nat)(p:Par):20000≤W5 (C7q k p) 0∧W5 (C7q k p) 0≤60000:=by
  obtain ⟨l,l1,l2,l3,l4,l5⟩:=C13 k p.lim
  unfold W5 C7q
  dsimp only
  rw [show ((0:Int).toNat)=0 from rfl,l1]
  exact ⟨l4,l5⟩
theorem D6o {k:Nat}{p:Par}(hk:k<8)(h:ParOK p):ValR (C7q k p):=by
  have hl:=D1m k p
  refine D3x hk h (Nat.le_trans h.wk1 (by decide)) (fun w hw=> ?_)
  rcases h.wk with e|⟨b,l,h1,h2,h3,h4,e⟩
  ·rw [e]at hw;cases hw
  ·rw [e]at hw
   simp only [List.mem_singleton]at hw
   subst hw
   dsimp only
   omega
/-! ### Limits -/
end Go.Abs.World
namespace Go.Abs
end Go.Abs
namespace Go.Abs.World
open Go Go.Abs
end Go.Abs.World
namespace Go.Abs.World
open Go Go.Abs
/-! ### How long lanes are -/
theorem D4x: ∀(l:List Int) (s:Int),(∀x∈l,0≤x∧x≤1048576)→0≤s→s+1048576*l.length≤9000000000000000000→s≤C6a s l∧C6a s l≤s+1048576*l.length
  | [],s,_,_,_=>by simp [C6a]
  |a::r,s,h,h0,h1=>by
   have ha:=h a (by simp)
   simp only [List.length_cons]at h1 ⊢
   rw [C6a,R8 (by omega)]
   have:=D4x r (s+a) (fun x hx=>h x (by simp [hx])) (by omega) (by omega)
   omega
theorem D3y: ∀{l:List Spot} {last:Option CurveVector},Good last l→∀x∈C59 l,1000≤x∧x≤1048576:=by
  intro l last h
  induction h with
  |one last p=>intro x hx;simp [C59]at hx
  |cons last p q r h1 h2 h3 h4 h ih=>
   intro x hx
   rw [B4f,List.mem_cons]at hx
   rcases hx with rfl|hx
   ·exact ⟨h2,h3⟩
   ·exact ih x hx
theorem D6p {c:Curve}(h:A3t c.Pts=0):1000≤B97 c∧B97 c≤16777216:=by
  have V:=checkM_zero.1 h
  unfold B97 A9c
  rw [if_pos h]
  have h16:=V.most
  have h2:=V.two
  have hm:=D3y V.good
  cases hp:c.Pts with
  |nil=>rw [hp]at h2;simp at h2
  |cons p r=>
   rw [hp]at hm h16 h2
   cases r with
   |nil=>simp at h2
   |cons q r=>
    simp only [List.length_cons]at h16
    rw [B4f]at hm ⊢
    have ha:=hm _ (List.mem_cons_self)
    have hl:=B3k r q
    rw [C6a,R8 (by omega),Int.zero_add]
    have:=D4x (C59 (q::r)) (rt (Z4 (vec p q) (vec p q))) (fun x hx=>by have:=hm x (List.mem_cons_of_mem _ hx);omega) (by omega) (by rw [hl];omega)
    rw [hl]at this
    omega
theorem ValR.long {m:Map}(V:ValR m){k:Int}(h0:0≤k)(h1:k<m.Lanes.length):1000≤W5 m k∧W5 m k≤16777216:=by
  obtain ⟨l,e1,e2⟩:=B63 h0 h1
  unfold W5
  rw [e1]
  exact D6p (V.laneOK e1).curve
/-! ### Routes -/
def B3q (m:Map):Int→List Int→Bool
  |_,[]=>true
  |a,b::r=>(nextOf m a.toNat).contains b&&B3q m b r
noncomputable def A0e (m:Map)(r:List Int):Int:=
  if C3u m≠0 then C3u m
  else match r with
    | []=>13
    |a::t=>if 7<t.length∨a<0∨(m.Lanes.length:Int)≤a∨B23 m a≠ []∨B3q m a t=false then 13 else 0
/-- What a route is. -/
structure RouteOK (m:Map)(a:Int)(t:List Int):Prop where
  val:ValR m
  most:t.length≤7
  first:0≤a∧a<m.Lanes.length
  source:B23 m a= []
  chain:B3q m a t=true
theorem chkRoute_zero {m:Map}{r:List Int}:A0e m r=0↔∃a t,r=a::t∧RouteOK m a t:=by
  unfold A0e
  constructor
  ·intro h
   split at h
   ·exact absurd h (by assumption)
   ·rename_i h1
    have V:=chkR_zero.1 (Decidable.not_not.1 h1)
    split at h
    ·cases h
    ·rename_i a t
     split at h
     ·cases h
     ·rename_i h2
      exact ⟨a,t,rfl,V,by omega,by omega,Decidable.not_not.1 fun q=>h2 (.inr (.inr (.inr (.inl q)))),by
        cases q:B3q m a t with
        |true=>rfl
        |false=>exact absurd (.inr (.inr (.inr (.inr q)))) h2⟩
  ·rintro ⟨a,t,rfl,V,h1,h2,h3,h4⟩
   rw [if_neg (by rw [chkR_zero.2 V];simp)]
   dsimp only
   rw [if_neg]
   rintro (q|q|q|q|q)
   ·omega
   ·omega
   ·omega
   ·exact q h3
   ·rw [h4]at q;cases q
theorem C52 {m:Map}(V:ValR m): ∀{t:List Int} {a:Int},B3q m a t=true→0≤a→∀x∈t,a<x∧x<m.Lanes.length
  | [],_,_,_,x,hx=>by cases hx
  |b::r,a,h,h0,x,hx=>by
   rw [B3q,Bool.and_eq_true,List.contains_iff_mem]at h
   have hb:=V.nextOf h.1
   rcases List.mem_cons.1 hx with rfl|hx
   ·omega
   ·have:=C52 V h.2 (by omega) x hx;omega
theorem RouteOK.mem {m:Map}{a:Int}{t:List Int}(R:RouteOK m a t){x:Int}(hx:x∈a::t):0≤x∧x<m.Lanes.length:=by
  have:=R.first
  rcases List.mem_cons.1 hx with rfl|hx
  ·exact this
  ·have:=C52 R.val R.chain (by omega) x hx;omega
theorem C99 {m:Map}(B:BearM m)(V:ValR m)(l:List Int)(hl:l.length≤1000000): ∀(r:List Int) (i:Nat) (a:Int),l.drop i=r→i≤l.length→0≤a→a<m.Lanes.length→loop (Q8 m l) (a,(i:Int))=some (if B3q m a r=true then .inl ()else .inr 13):=by
  intro r
  induction r with
  |nil=>
   intro i a hi hil h0 h1
   have:=A0g hi
   obtain rfl:i=l.length:=by omega
   refine J7 ?_
   unfold Q8
   rw [A00];rfl
  |cons b r ih=>
   intro i a hi hil h0 h1
   have hlt:=A04 hi
   have hb:=A9r hi
   obtain ⟨ln,e1,e2⟩:=B63 h0 h1
   have hs:Q8 m l (a,(i:Int))=some (if ln.Next.contains b=true then .go (b,((i+1:Nat):Int))else .out (.inr 13)):=by
     unfold Q8
     dsimp only
     rw [A29 hlt,H5 hb,cond_true,Option.bind_some,e2,Option.bind_some,C10 _ (B.toBear.pts _ (List.mem_of_getElem? e1)).2,Option.bind_some,R6 hlt (by omega)]
     cases ln.Next.contains b<;>rfl
   have hn:nextOf m a.toNat=ln.Next:=by unfold nextOf;rw [e1];rfl
   rw [B3q,hn]
   cases q:ln.Next.contains b
   ·rw [q]at hs;rw [J7 hs];rfl
   ·rw [q]at hs
    have hbm:=V.next e1 (List.contains_iff_mem.1 q)
    rw [Y4 hs,ih (i+1) b (R2 hi) (by omega) (by omega) (by omega),Bool.true_and]
theorem B7a {m:Map}(B:BearM m)(r:List Int)(hr:r.length≤1000000):Z2 m r=some (A0e m r):=by
  unfold Z2 A0e
  rw [B22 B,Option.bind_some]
  by_cases q:C3u m=0
  ·have V:=chkR_zero.1 q
   rw [if_neg (by simpa using q),show (C3u m !=0)=false by simpa using q,cond_false]
   cases r with
   |nil=>rfl
   |cons a t=>
    dsimp only
    simp only [List.length_cons]at hr ⊢
    by_cases h8:7<t.length
    ·rw [if_pos (.inl h8),show ((((t.length+1:Nat):Int)==0)||(decide (((t.length+1:Nat):Int)>8)))=true by simp;omega];rfl
    ·rw [show ((((t.length+1:Nat):Int)==0)||(decide (((t.length+1:Nat):Int)>8)))=false by simp;omega]
     rw [show D6 (a::t) 0=some a from rfl]
     simp only [Bool.not_false,cond_true,Option.bind_some,Bool.false_or]
     by_cases h0:a<0
     ·rw [if_pos (.inr (.inl h0)),decide_eq_true h0];rfl
     ·rw [decide_eq_false h0]
      simp only [Bool.not_false,cond_true,Option.bind_some,Bool.false_or]
      by_cases h1:(m.Lanes.length:Int)≤a
      ·rw [if_pos (.inr (.inr (.inl h1))),show decide (a≥(m.Lanes.length:Int))=true from decide_eq_true h1];rfl
      ·rw [show decide (a≥(m.Lanes.length:Int))=false from decide_eq_false (by omega)]
       simp only [Bool.not_false,cond_true,Bool.false_or]
       rw [Option.bind_some,D1h B,Option.bind_some]
       by_cases hb:B23 m a= []
       ·rw [hb]
        have e1:D5x (a::t) 1 ((t.length+1:Nat):Int)=some t:=by
          unfold D5x
          rw [if_pos (by simp;omega)]
          simp
        rw [e1,show decide ((([]:List Int).length:Int)>0)=false from rfl,cond_false,Option.bind_some]
        have:=C99 B V t (by omega) t 0 a rfl (by omega) (by omega) (by omega)
        rw [show ((0:Nat):Int)=0 from rfl]at this
        rw [this]
        by_cases hc:B3q m a t=true
        ·rw [if_pos hc,if_neg (by rw [hc];simp;omega)];rfl
        ·rw [if_neg hc,if_pos (.inr (.inr (.inr (.inr (by simpa using hc)))))];rfl
       ·rw [if_pos (.inr (.inr (.inr (.inl hb)))),show decide (((B23 m a).length:Int)>0)=true from decide_eq_true (by have:=List.length_pos_iff.2 hb;omega)];rfl
  ·rw [if_pos q,show (C3u m !=0)=true by simpa using q];rfl
/-- Where the lanes of a route begin. -/
noncomputable def A01 (m:Map):Int→List Int→List Int
  |_,[]=> []
  |s,a::r=>s::A01 m (s+W5 m a) r
noncomputable def A7o (m:Map):Int→List Int→Int
  |s,[]=>s
  |s,a::r=>A7o m (s+W5 m a) r
theorem B64 (m:Map): ∀(r:List Int) (s:Int),(A01 m s r).length=r.length
  | [],_=>rfl
  |_::r,_=>by rw [A01,List.length_cons,B64 m r,List.length_cons]
noncomputable def B4h (m:Map)(r:List Int):RoadsWay:=if A0e m r=0 then ⟨m,r,A01 m 0 r,A7o m 0 r⟩else ⟨⟨0,[],[],[],[]⟩,[],[],0⟩
theorem C53 {m:Map}(B:BearM m)(r:List Int)(hr:r.length≤1000000):A0z m r=some (B4h m r):=by
  unfold A0z B4h
  rw [B7a B r hr,Option.bind_some]
  by_cases q:A0e m r=0
  ·rw [if_pos q,q]
   obtain ⟨a,t,rfl,R⟩:=chkRoute_zero.1 q
   have key: ∀(l:List Int) (i:Nat) (s:Int) (st:List Int),(a::t).drop i=l→i≤(a::t).length→0≤s→s≤16777216*i→st.length=i→loop (Y6 m (a::t)) ((i:Int),(st,s))=some (st++A01 m s l,A7o m s l):=by
     intro l
     induction l with
     |nil=>
      intro i s st hi hil _ _ _
      have:=A0g hi
      obtain rfl:i=(a::t).length:=by omega
      refine J7 ?_
      unfold Y6
      rw [A00,A01,A7o,List.append_nil];rfl
     |cons x l ih=>
      intro i s st hi hil h0 h1 h2
      have hlt:=A04 hi
      have hx:=A9r hi
      have hm:=R.mem (List.mem_of_getElem? hx)
      have hl:=R.val.long hm.1 hm.2
      have hm7:=R.most
      simp only [List.length_cons]at hlt
      rw [Y4 (s':=(((i+1:Nat):Int),(st++ [s],s+W5 m x)))]
      ·rw [ih (i+1) _ _ (R2 hi) (by simp;omega) (by omega) (by omega) (by simp [h2]),A01,A7o,List.append_assoc];rfl
      ·unfold Y6
       dsimp only
       rw [A29 (by simpa using hlt),H5 hx,cond_true,Option.bind_some,B2w (by simp;omega),Option.bind_some,C6f B.toBear hm.1 hm.2,Option.bind_some,R6 hlt (by omega),wid (by omega)]
   have:=key (a::t) 0 0 [] rfl (by omega) (by decide) (by decide) rfl
   rw [show ((0:Nat):Int)=0 from rfl]at this
   show (loop (Y6 m (a::t)) (0,([],0))).bind _=_
   rw [this];rfl
  ·rw [if_neg q,show (A0e m r !=0)=true by simpa using q];rfl
end Go.Abs.World
namespace Go.Abs.World
open Go Go.Abs
end Go.Abs.World
/-! Lists that are sorted, and how an insertion sort makes them. -/
namespace Go.Abs
open Go
/-- What a comparison must satisfy. -/
structure LtOK {α:Type}(lt:α→α→Bool):Prop where
  asym: ∀a b,lt a b=true→lt b a=false
  trans: ∀a b c,lt b a=false→lt c b=false→lt c a=false
def Srt {α:Type}(lt:α→α→Bool)(l:List α):Prop:=l.Pairwise fun a b=>lt b a=false
section
variable {α:Type}
variable {lt:α→α→Bool}
theorem Srt.ins (L:LtOK lt){Q1 Q2:List α}{x:α}(h:Srt lt (Q1++Q2))(h1: ∀q∈Q1,lt x q=false)(h2: ∀q∈Q2,lt x q=true):Srt lt (Q1++x::Q2):=by
  unfold Srt at h ⊢
  rw [List.pairwise_append]at h ⊢
  refine ⟨h.1,List.pairwise_cons.2 ⟨fun b hb=>L.asym _ _ (h2 b hb),h.2.1⟩,fun a ha b hb=> ?_⟩
  rcases List.mem_cons.1 hb with rfl|hb
  ·exact h1 a ha
  ·exact h.2.2 a ha b hb
theorem LtOK.irr (L:LtOK lt)(a:α):lt a a=false:=by
  cases h:lt a a with
  |false=>rfl
  |true=>rw [L.asym a a h]at h;cases h
theorem Srt.get (L:LtOK lt){l:List α}(h:Srt lt l){i j:Nat}(hij:i≤j)(hj:j<l.length):lt l[j] l[i]=false:=by
  rcases Nat.lt_or_eq_of_le hij with h1|h1
  ·exact List.pairwise_iff_getElem.1 h i j (by omega) hj h1
  ·subst h1;exact L.irr _
end
end Go.Abs
/-! How the lists are sorted. -/
namespace Go.Abs.World
open Go Go.Abs
end Go.Abs.World
/-! Signals, and the red lines. -/
namespace Go.Abs.World
open Go Go.Abs
structure SigOK (s:Signal):Prop where
  pos:0<s.Phases.length
  many:s.Phases.length≤6
  off:0≤s.Offset∧s.Offset≤1099511627776
  ticks: ∀p∈s.Phases,1≤p.Ticks∧p.Ticks≤10000
  green: ∀p∈s.Phases,p.Green.length≤1000000
theorem ValR.sig {m:Map}(B:BearM m)(V:ValR m){i:Nat}{s:Signal}(h:m.Signals[i]? =some s):SigOK s:=by
  have:=firstE_none.1 V.signalE i s h
  unfold World.signalE at this
  split at this
  ·cases this
  split at this
  ·cases this
  split at this
  ·cases this
  split at this
  ·cases this
  rename_i h1 h2 h3 h4
  refine ⟨by omega,by omega,?_,fun p hp=> ?_,(B.toBearS.phases s (List.mem_of_getElem? h)).2⟩
  ·have:inR s.Offset 0 1099511627776=true:=by simpa using h3
   simpa [inR] using this
  ·have:inR p.Ticks 1 10000=true:=by
     cases q:inR p.Ticks 1 10000 with
     |true=>rfl
     |false=>exact absurd (List.any_eq_true.2 ⟨p,hp,by rw [q];rfl⟩) h4
   simpa [inR] using this
def D6q:List Phase→Int
  | []=>0
  |p::r=>p.Ticks+D6q r
theorem D1n: ∀{l:List Phase},(∀p∈l,1≤p.Ticks∧p.Ticks≤10000)→(l.length:Int)≤D6q l∧D6q l≤10000*l.length
  | [],_=>by simp [D6q]
  |p::r,h=>by
   have:=D1n (l:=r) fun q hq=>h q (List.mem_cons_of_mem _ hq)
   have:=h p (by simp)
   simp only [D6q,List.length_cons]
   omega
theorem SigOK.sum {s:Signal}(S:SigOK s):1≤D6q s.Phases∧D6q s.Phases≤60000:=by
  have:=D1n S.ticks
  have:=S.pos
  have:=S.many
  omega
end Go.Abs.World
/-! The red lines. -/
namespace Go.Abs.World
open Go Go.Abs
end Go.Abs.World
namespace Go.Abs
open Go
section
variable {α β σ τ:Type}
end
end Go.Abs
namespace Go.Abs.World
open Go Go.Abs
end Go.Abs.World
/-! RoadsSignals. -/
namespace Go.Abs.World
open Go Go.Abs
end Go.Abs.World
/-! How the passes are sorted. -/
namespace Go.Abs.World
open Go Go.Abs
def D73 (x y:Int):Int:=if x<y then -1 else if x>y then 1 else 0
def ltP (a b:Pass):Bool:=decide (a.From<b.From∨a.From=b.From∧a.Zone_<b.Zone_)
theorem C27 (a b:Int):W0 a b=some (D73 a b):=by
  have h: ∀x:Int,A24 x=some false:=fun x=>by unfold A24;simp
  unfold W0 D73
  rw [h,h]
  simp only [Option.bind_some,cond_false,D64]
  split<;>(repeat' split)<;>rfl
end Go.Abs.World
/-! The merge in place. -/
namespace Go.Abs.World
open Go Go.Abs
end Go.Abs.World
/-! The merge in place: the general case, and the whole sort. -/
namespace Go.Abs.World
open Go Go.Abs
end Go.Abs.World
/-! The stable sort. -/
namespace Go.Abs.World
open Go Go.Abs
def BlkS (w:Nat)(l:List Pass):Prop:= ∀i,Srt ltP ((l.drop (i*w)).take w)
theorem BlkS.cons {w:Nat}{M R:List Pass}(hM:M.length=w)(h1:Srt ltP M)(h2:BlkS w R):BlkS w (M++R):=by
  intro i
  cases i with
  |zero=>rw [Nat.zero_mul,List.drop_zero,List.take_append_of_le_length (by omega),List.take_of_length_le (by omega)];exact h1
  |succ i=>
   have:=h2 i
   rw [Nat.add_mul,Nat.one_mul,List.drop_append,List.drop_eq_nil_of_le (by omega),List.nil_append,show i*w+w - M.length=i*w by omega]
   exact this
theorem BlkS.last {w:Nat}{M:List Pass}(hM:M.length≤w)(h1:Srt ltP M):BlkS w M:=by
  intro i
  exact h1.sublist ((List.take_sublist _ _).trans (List.drop_sublist _ _))
theorem BlkS.drop {w:Nat}{R:List Pass}(h:BlkS w R):BlkS w (R.drop w):=by
  intro i
  have:=h (i+1)
  rwa [Nat.add_mul,Nat.one_mul,Nat.add_comm,← List.drop_drop]at this
end Go.Abs.World
/-! Places and passes. -/
namespace Go.Abs.World
open Go Go.Abs
theorem B88 (m:Map): ∀(r:List Int) (s:Int),A7o m s r=s+A7o m 0 r
  | [],s=>by simp [A7o]
  |a::r,s=>by rw [A7o,A7o,B88 m r (s+W5 m a),B88 m r (0+W5 m a)];omega
theorem A87 (m:Map): ∀(r:List Int) (s:Int) (i:Nat),i<r.length→(A01 m s r)[i]? =some (s+A7o m 0 (r.take i))
  | [],_,_,h=>absurd h (by simp)
  |a::r,s,0,_=>by simp [A01,A7o]
  |a::r,s,i+1,h=>by
   rw [A01,List.getElem?_cons_succ,A87 m r _ i (by simpa using h),List.take_succ_cons,A7o,B88 m _ (0+W5 m a)]
   congr 1;omega
noncomputable def atM (m:Map)(r:List Int)(i:Nat):Int:=A7o m 0 (r.take i)
theorem C3o (m:Map)(r:List Int):atM m r 0=0:=rfl
theorem C14 (m:Map)(x:Int): ∀(l:List Int) (s:Int),A7o m s (l++ [x])=A7o m s l+W5 m x
  | [],s=>rfl
  |a::l,s=>by rw [List.cons_append,A7o,A7o,C14 m x l]
theorem C3p {m:Map}{r:List Int}{i:Nat}{a:Int}(h:r[i]? =some a):atM m r (i+1)=atM m r i+W5 m a:=by
  unfold atM
  rw [List.take_add_one,h]
  exact C14 m a _ _
theorem D6r (m:Map)(r:List Int):atM m r r.length=A7o m 0 r:=by rw [atM,List.take_length]
theorem RouteOK.len {m:Map}{a:Int}{t:List Int}(R:RouteOK m a t){i:Nat}{x:Int}(h:(a::t)[i]? =some x):1000≤W5 m x∧W5 m x≤16777216:=by
  have:=R.mem (List.mem_of_getElem? h)
  exact R.val.long this.1 this.2
theorem RouteOK.mono {m:Map}{a:Int}{t:List Int}(R:RouteOK m a t): ∀(j i:Nat),i+j≤(a::t).length→atM m (a::t) i+1000*j≤atM m (a::t) (i+j)∧atM m (a::t) (i+j)≤atM m (a::t) i+16777216*j
  |0,i,_=>by simp
  |j+1,i,h=>by
   have:=R.mono j i (by omega)
   have e:(a::t)[i+j]? =some (a::t)[i+j]:=List.getElem?_eq_getElem (by omega)
   have hl:=R.len e
   rw [← Nat.add_assoc,C3p e]
   omega
theorem RouteOK.lt {m:Map}{a:Int}{t:List Int}(R:RouteOK m a t){i j:Nat}(hij:i<j)(hj:j≤(a::t).length):atM m (a::t) i+1000≤atM m (a::t) j:=by
  have:=(R.mono (j - i) i (by omega)).1
  rw [show i+ (j - i)=j by omega]at this
  omega
theorem RouteOK.bd {m:Map}{a:Int}{t:List Int}(R:RouteOK m a t){i:Nat}(hi:i≤(a::t).length):0≤atM m (a::t) i∧atM m (a::t) i≤134217728:=by
  have:=R.mono i 0 (by omega)
  have h7:=R.most
  simp only [List.length_cons]at hi
  rw [Nat.zero_add,C3o]at this
  omega
theorem RouteOK.follow {m:Map}{a:Int}{t:List Int}(R:RouteOK m a t):B4h m (a::t)=⟨m,a::t,A01 m 0 (a::t),atM m (a::t) (a::t).length⟩:=by
  unfold B4h
  rw [if_pos (chkRoute_zero.2 ⟨a,t,rfl,R⟩),D6r]
theorem RouteOK.starts {m:Map}{a:Int}{t:List Int}{i:Nat}(hi:i< (a::t).length):D6 (A01 m 0 (a::t)) (i:Int)=some (atM m (a::t) i):=by
  rw [H5 (A87 m _ 0 i hi),Int.zero_add];rfl
section
variable {m:Map}{a:Int}{t:List Int}
/-- A map with so few zones as the kit's. -/
structure BearK (m:Map):Prop extends BearM m where
  zones2:m.Zones.length≤2
end
end Go.Abs.World
/-! The document's routes: checks, starts, places, entries. -/
namespace Go.Abs.World
open Go Go.Abs
theorem C6h {m:Map}(B:BearM m)(V:ValR m)(l:List Int)(hl:l.length≤1000000): ∀(r:List Int) (i:Nat) (a:Int),l.drop (i+1)=r→l[i]? =some a→0≤a→a<m.Lanes.length→thenS (loop (W9 m l) ((i+1:Nat):Int)) (fun _=>some 0) (fun r=>some r)=some (if B3q m a r=true then 0 else 13):=by
  intro r
  induction r with
  |nil=>
   intro i a hi ha h0 h1
   have h2:=A0g hi
   have h3:=(List.getElem?_eq_some_iff.1 ha).1
   have h4:i+1=l.length:=by omega
   rw [J7 (t:= .inl ())]
   ·rfl
   ·unfold W9
    rw [show decide (((i+1:Nat):Int)< (l.length:Int))=false from decide_eq_false (by omega)];rfl
  |cons b r ih=>
   intro i a hi ha h0 h1
   have hlt:=A04 hi
   have hb:=A9r hi
   obtain ⟨ln,e1,e2⟩:=B63 h0 h1
   have hw:w64 (((i+1:Nat):Int) - 1)=(i:Int):=by rw [R8 (by omega)];omega
   have hs:W9 m l ((i+1:Nat):Int)=some (if ln.Next.contains b=true then .go (((i+1+1:Nat):Int))else .out (.inr 13)):=by
     unfold W9
     rw [A29 hlt,cond_true,hw,H5 ha,Option.bind_some,e2,Option.bind_some,H5 hb,Option.bind_some,D4w _ (B.toBear.pts _ (List.mem_of_getElem? e1)).2,Option.bind_some,R6 hlt (by omega)]
     cases ln.Next.contains b<;>rfl
   have hn:nextOf m a.toNat=ln.Next:=by unfold nextOf;rw [e1];rfl
   rw [B3q,hn]
   cases q:ln.Next.contains b
   ·rw [q]at hs;rw [J7 hs];rfl
   ·rw [q]at hs
    have hbm:=V.next e1 (List.contains_iff_mem.1 q)
    rw [Y4 hs,ih (i+1) b (R2 hi) hb (by omega) (by omega),Bool.true_and]
theorem B24 {m:Map}(B:BearM m)(r:List Int)(hr:r.length≤1000000):A0r m r=some (A0e m r):=by
  unfold A0r A0e
  rw [B5f B,Option.bind_some]
  by_cases q:C3u m=0
  ·have V:=chkR_zero.1 q
   rw [if_neg (by simpa using q),show (C3u m !=0)=false by simpa using q,cond_false]
   cases r with
   |nil=>rfl
   |cons a t=>
    dsimp only
    simp only [List.length_cons]at hr ⊢
    by_cases h8:7<t.length
    ·rw [if_pos (.inl h8),show ((((t.length+1:Nat):Int)==0)||(decide (((t.length+1:Nat):Int)>8)))=true by simp;omega];rfl
    ·rw [show ((((t.length+1:Nat):Int)==0)||(decide (((t.length+1:Nat):Int)>8)))=false by simp;omega]
     rw [show D6 (a::t) 0=some a from rfl]
     simp only [Bool.not_false,cond_true,Option.bind_some,Bool.false_or]
     by_cases h0:a<0
     ·rw [if_pos (.inr (.inl h0)),decide_eq_true h0];rfl
     ·rw [decide_eq_false h0]
      simp only [Bool.not_false,cond_true,Option.bind_some,Bool.false_or]
      by_cases h1:(m.Lanes.length:Int)≤a
      ·rw [if_pos (.inr (.inr (.inl h1))),show decide (a≥(m.Lanes.length:Int))=true from decide_eq_true h1];rfl
      ·rw [show decide (a≥(m.Lanes.length:Int))=false from decide_eq_false (by omega)]
       simp only [Bool.not_false,cond_true,Bool.false_or]
       rw [Option.bind_some,C94 B,Option.bind_some]
       by_cases hb:B23 m a= []
       ·rw [hb,show decide ((([]:List Int).length:Int)>0)=false from rfl,cond_false]
        have:=C6h B V (a::t) (by simpa using hr) t 0 a rfl rfl (by omega) (by omega)
        rw [show ((0+1:Nat):Int)=1 from rfl]at this
        rw [this]
        by_cases hc:B3q m a t=true
        ·rw [if_pos hc,if_neg (by rw [hc];simp;omega)]
        ·rw [if_neg hc,if_pos (.inr (.inr (.inr (.inr (by simpa using hc)))))]
       ·rw [if_pos (.inr (.inr (.inr (.inl hb)))),show decide (((B23 m a).length:Int)>0)=true from decide_eq_true (by have:=List.length_pos_iff.2 hb;omega)];rfl
  ·rw [if_pos q,show (C3u m !=0)=true by simpa using q];rfl
theorem C54 {m:Map}(B:BearM m){a:Int}{t:List Int}(R:RouteOK m a t):A6s m (a::t)=some (A01 m 0 (a::t),atM m (a::t) (a::t).length):=by
  have hm7:=R.most
  have key: ∀(l:List Int) (i:Nat) (st:List Int),(a::t).drop i=l→i≤(a::t).length→st.length=i→loop (A1h m (a::t)) (st,atM m (a::t) i,(i:Int))=some (st++A01 m (atM m (a::t) i) l,atM m (a::t) (a::t).length):=by
    intro l
    induction l with
    |nil=>
     intro i st hi hil _
     have:=A0g hi
     obtain rfl:i=(a::t).length:=by omega
     refine J7 ?_
     unfold A1h
     dsimp only
     rw [A00,A01,List.append_nil];rfl
    |cons x l ih=>
     intro i st hi hil h2
     have hlt:=A04 hi
     have hx:=A9r hi
     have hm:=R.mem (List.mem_of_getElem? hx)
     have hl:=R.len hx
     have hb:=R.bd (Nat.le_of_lt hlt)
     simp only [List.length_cons]at hlt
     rw [Y4 (s':=(st++ [atM m (a::t) i],atM m (a::t) (i+1),((i+1:Nat):Int)))]
     ·rw [ih (i+1) _ (R2 hi) (by simp;omega) (by simp [h2]),A01,C3p hx,List.append_assoc];rfl
     ·unfold A1h
      dsimp only
      rw [A29 (by simpa using hlt),B2w (by simp;omega),cond_true,Option.bind_some,H5 hx,Option.bind_some,C0z B hm.1 hm.2,Option.bind_some,R6 hlt (by omega),R8 (by omega),C3p hx]
  have:=key (a::t) 0 [] rfl (by omega) rfl
  rw [C3o]at this
  have this':loop (A1h m (a::t)) ([],0,0)=_:=this
  unfold A6s
  rw [this',Option.bind_some,List.nil_append]
noncomputable def StartsM (m:Map)(r:List Int):List Int:=(B4h m r).starts
noncomputable def LongM (m:Map)(r:List Int):Int:=(B4h m r).length
theorem D1o {m:Map}(B:BearM m)(r:List Int)(hr:r.length≤1000000):A22 m r=some (StartsM m r):=by
  unfold A22 StartsM
  rw [C53 B r hr];rfl
theorem D1p {m:Map}(B:BearM m)(r:List Int)(hr:r.length≤1000000):X6 m r=some (LongM m r):=by
  unfold X6 LongM
  rw [C53 B r hr];rfl
theorem C28 {m:Map}{r:List Int}(q:A0e m r≠0):B4h m r=⟨⟨0,[],[],[],[]⟩,[],[],0⟩:=by unfold B4h;rw [if_neg q]
theorem C9a {m:Map}(B:BearM m)(r:List Int)(hr:r.length≤1000000):A8v m r=some (StartsM m r):=by
  unfold A8v
  rw [B24 B r hr,Option.bind_some]
  by_cases q:A0e m r=0
  ·obtain ⟨a,t,rfl,R⟩:=chkRoute_zero.1 q
   rw [q,show ((0:Int) !=0)=false from rfl,cond_false,C54 B R,Option.bind_some,StartsM,R.follow]
  ·rw [show (A0e m r !=0)=true by simpa using q,cond_true,StartsM,C28 q]
theorem C7r {m:Map}(B:BearM m)(r:List Int)(hr:r.length≤1000000):A15 m r=some (LongM m r):=by
  unfold A15
  rw [B24 B r hr,Option.bind_some]
  by_cases q:A0e m r=0
  ·obtain ⟨a,t,rfl,R⟩:=chkRoute_zero.1 q
   rw [q,show ((0:Int) !=0)=false from rfl,cond_false,C54 B R,Option.bind_some,LongM,R.follow]
  ·rw [show (A0e m r !=0)=true by simpa using q,cond_true,LongM,C28 q]
end Go.Abs.World
/-! RoadsRoutes. -/
namespace Go.Abs.World
open Go Go.Abs
section
variable {m:Map}{a:Int}{t:List Int}
end
end Go.Abs.World
/-! The way to stop. -/
namespace Go.Abs.World
open Go Go.Abs
end Go.Abs.World
/-! Marks of speed and place; which states are small. -/
namespace Go.Abs.World
open Go Go.Abs
structure SmallS (s:State):Prop where
  agents:s.Agents.length≤10
  ins:s.In.length≤20
  routes: ∀a∈s.Agents,a.Route.length≤10
theorem D3z (s:State): ∃b,B03 s=some b∧(b=true→SmallS s):=by
  unfold B03
  by_cases h:10<s.Agents.length∨20<s.In.length
  ·rw [show (decide ((s.Agents.length:Int)>10)||decide ((s.In.length:Int)>20))=true by simp only [Bool.or_eq_true,decide_eq_true_eq];omega]
   exact ⟨false,rfl,nofun⟩
  ·rw [show (decide ((s.Agents.length:Int)>10)||decide ((s.In.length:Int)>20))=false by simp only [Bool.or_eq_false_iff,decide_eq_false_iff_not];omega,cond_false]
   have hk:=Y9 s.Agents (A3v s) (fun _ a=>if 10<a.Route.length then some false else none) (fun i a ha=>by
     have hi:=U6 ha
     unfold A3v
     rw [A29 hi,H5 ha,cond_true,Option.bind_some]
     by_cases q:10<a.Route.length
     ·rw [if_pos q,decide_eq_true (show (a.Route.length:Int)>10 by omega)];rfl
     ·rw [if_neg q,decide_eq_false (show ¬(a.Route.length:Int)>10 by omega),cond_false,R6 hi (by omega)]) (by unfold A3v;rw [A00];rfl)
   rw [hk]
   cases hf:K2 (fun _ (a:Agent)=>if 10<a.Route.length then some false else none) 0 s.Agents with
   |some b=>
    refine ⟨b,rfl,fun hb=> ?_⟩
    subst hb
    exfalso
    have: ∀(l:List Agent) (i:Nat),K2 (fun _ (a:Agent)=>if 10<a.Route.length then some false else none) i l≠some true:=by
      intro l
      induction l with
      |nil=>intro i h;cases h
      |cons a l ih=>
       intro i h
       unfold K2 at h
       by_cases q:10<a.Route.length
       ·rw [if_pos q]at h;cases h
       ·rw [if_neg q]at h;exact ih _ h
    exact this _ _ hf
   |none=>
    refine ⟨true,rfl,fun _=>⟨by omega,by omega,fun a ha=> ?_⟩⟩
    obtain ⟨j,hj⟩:=List.getElem?_of_mem ha
    have:=firstE_none.1 hf j a hj
    by_cases q:10<a.Route.length
    ·rw [if_pos q]at this;cases this
    ·omega
end Go.Abs.World
/-! Which states are valid: the program and the document have one answer. -/
namespace Go.Abs.World
open Go Go.Abs
/-! ### Copies -/
theorem C7s {α:Type}{l:List α}(h:l.length≤1000000):A8h ([]:List α) l=some l:=by
  rw [B2w (by simp;omega),List.nil_append]
structure SizeS (s:State):Prop where
  agents:s.Agents.length≤1000
  ins:s.In.length≤1000000
  routes: ∀a∈s.Agents,a.Route.length≤1000
theorem SmallS.size {s:State}(h:SmallS s):SizeS s:=⟨by have:=h.agents;omega,by have:=h.ins;omega,fun a ha=>by have:=h.routes a ha;omega⟩
theorem D1q (F:Int×State→Option (Stp (Int×State) State))(s:State)(h:SizeS s)(l0:List Stay)
    (hF: ∀(i:Nat) (a:Agent) (t:State),s.Agents[i]? =some a→F ((i:Int),t)=(A8h t.Agents [a]).bind fun v=>some (.go (w64 ((i:Int)+1),⟨t.Tick,v,t.In⟩))) (h0: ∀t:State,F ((s.Agents.length:Int),t)=some (.out t)):
    loop F (0,⟨s.Tick,[],l0⟩)=some ⟨s.Tick,s.Agents,l0⟩:=by
  have key: ∀(r:List Agent) (i:Nat),s.Agents.drop i=r→i≤s.Agents.length→loop F ((i:Int),⟨s.Tick,s.Agents.take i,l0⟩)=some ⟨s.Tick,s.Agents,l0⟩:=by
    intro r
    induction r with
    |nil=>
     intro i hi hil
     have:=A0g hi
     obtain rfl:i=s.Agents.length:=by omega
     rw [J7 (h0 _),List.take_length]
    |cons a r ih=>
     intro i hi hil
     have hlt:=A04 hi
     have ha:=A9r hi
     have hh:=h.agents
     rw [Y4 (s':=(((i+1:Nat):Int),⟨s.Tick,s.Agents.take (i+1),l0⟩)),ih (i+1) (R2 hi) hlt]
     rw [hF i a _ ha,B2w (by rw [List.length_take];simp;omega),Option.bind_some,R6 hlt (by omega),List.take_add_one,ha];rfl
  exact key s.Agents 0 rfl (by omega)
theorem D40 {s:State}(h:SizeS s):B2l s=some s:=by
  unfold B2l
  rw [C7s h.ins,Option.bind_some,D1q (A5h s) s h s.In (fun i a t ha=> ?_) (fun t=>by unfold A5h;dsimp only;rw [A00];rfl)]
  ·rfl
  ·unfold A5h
   dsimp only
   rw [A29 (U6 ha),H5 ha,cond_true,Option.bind_some,C7s (by have:=h.routes a (List.mem_of_getElem? ha);omega),Option.bind_some]
theorem C9b (a:Agent)(h:a.Route.length≤1000000):loop (A3l a a) 0=some (.inl ()):=by
  rw [Y9 a.Route (A3l a a) (fun _ _=>(none:Option Bool)) (fun i x hx=> ?_) (by unfold A3l;rw [A00];rfl)]
  ·rw [firstE_none.2 fun _ _ _=>rfl];rfl
  ·unfold A3l
   rw [A29 (U6 hx),H5 hx,cond_true,Option.bind_some,Option.bind_some,show (x !=x)=false by simp,cond_false,R6 (U6 hx) (by omega)]
theorem D1r {s:State}(h:SizeS s):B2p s s=some true:=by
  unfold B2p
  rw [show (((s.Tick !=s.Tick)||((s.Agents.length:Int) !=(s.Agents.length:Int)))||((s.In.length:Int) !=(s.In.length:Int)))=false by simp,cond_false]
  have h1:=Y9 s.Agents (A5j s s) (fun _ _=>(none:Option Bool)) (fun i x hx=>by
    unfold A5j
    have hr:=h.routes x (List.mem_of_getElem? hx)
    have:=h.agents
    rw [A29 (U6 hx),H5 hx,cond_true,Option.bind_some,Option.bind_some]
    rw [show ((((((((x.Route.length:Int) !=(x.Route.length:Int))||(x.S !=x.S))||(x.V !=x.V))||(x.Len !=x.Len))||(x.Begin !=x.Begin))||(!(x.Obey==x.Obey)))||(!(x.Gone==x.Gone)))=false by simp,cond_false,C9b x (by omega),R6 (U6 hx) (by omega)];rfl) (by unfold A5j;rw [A00];rfl)
  have h2:=Y9 s.In (A5i s s) (fun _ _=>(none:Option Bool)) (fun i x hx=>by
    unfold A5i
    have:=h.ins
    rw [A29 (U6 hx),H5 hx,cond_true,Option.bind_some,Option.bind_some]
    rw [show (!(x.Agent_==x.Agent_&& (x.Zone_==x.Zone_&& (x.Since==x.Since&& (x.Rank==x.Rank&&true)))))=false by simp,cond_false,R6 (U6 hx) (by omega)]) (by unfold A5i;rw [A00];rfl)
  rw [h1,h2,firstE_none.2 fun _ _ _=>rfl,firstE_none.2 fun _ _ _=>rfl];rfl
/-! ### The lane of an agent -/
/-- The last place up to a number. -/
def B4i (S:Int):Nat→Nat→List Int→Nat
  |_,b,[]=>b
  |i,b,x::r=>B4i S (i+1) (if x≤S then i else b) r
theorem C6i (st:List Int)(S:Int): ∀(r:List Int) (i b:Nat),st.drop i=r→i≤st.length→(i=0→b=0)→(0<i→b<i∧(∃y,st[b]? =some y∧y≤S)∧∀(j:Nat) y,b<j→j<i→st[j]? =some y→S<y)→(∃y,st[0]? =some y∧y≤S)→
    (∃y,st[B4i S i b r]? =some y∧y≤S)∧∀(j:Nat) y,B4i S i b r<j→st[j]? =some y→S<y:=by
  intro r
  induction r with
  |nil=>
   intro i b hi hil h0 h1 hne
   have:=A0g hi
   obtain ⟨y0,g0,_⟩:=hne
   have:=U6 g0
   obtain ⟨q1,q2,q3⟩:=h1 (by omega)
   exact ⟨q2,fun j y hj hy=>q3 j y hj (by have:=U6 hy;omega) hy⟩
  |cons x r ih=>
   intro i b hi hil h0 h1 hne
   have hx:=A9r hi
   have hlt:=A04 hi
   unfold B4i
   refine ih (i+1) _ (R2 hi) hlt (by omega) (fun _=> ?_) hne
   by_cases q:x≤S
   ·rw [if_pos q]
    exact ⟨by omega,⟨x,hx,q⟩,fun j y h2 h3=>by omega⟩
   ·rw [if_neg q]
    by_cases z:i=0
    ·subst z
     obtain ⟨y0,g0,g1⟩:=hne
     rw [hx]at g0;cases g0;exact absurd g1 q
    ·obtain ⟨q1,q2,q3⟩:=h1 (by omega)
     refine ⟨by omega,q2,fun j y h2 h3 hy=> ?_⟩
     by_cases e:j=i
     ·subst e;rw [hx]at hy;cases hy;omega
     ·exact q3 j y h2 (by omega) hy
theorem D1s {st:List Int}{S:Int}(hne: ∃y,st[0]? =some y∧y≤S):(∃y,st[B4i S 0 0 st]? =some y∧y≤S)∧∀(j:Nat) y,B4i S 0 0 st<j→st[j]? =some y→S<y:=
  C6i st S st 0 0 rfl (by omega) (fun _=>rfl) (fun h=>by omega) hne
theorem D6s (g:Agent)(st:List Int)(hl:st.length≤1000000): ∀(r:List Int) (i b:Nat),st.drop i=r→i≤st.length→loop (A3k g st) ((b:Int),(i:Int))=some ((B4i g.S i b r:Nat):Int):=by
  intro r
  induction r with
  |nil=>
   intro i b hi hil
   have:=A0g hi
   obtain rfl:i=st.length:=by omega
   exact J7 (by unfold A3k;dsimp only;rw [A00];rfl)
  |cons x r ih=>
   intro i b hi hil
   have hx:=A9r hi
   have hlt:=A04 hi
   unfold B4i
   by_cases q:x≤g.S
   ·rw [if_pos q,Y4 (s':=((i:Int),((i+1:Nat):Int))),ih (i+1) i (R2 hi) hlt]
    unfold A3k;dsimp only
    rw [A29 hlt,H5 hx,cond_true,Option.bind_some,decide_eq_true q,cond_true,R6 hlt (by omega)]
   ·rw [if_neg q,Y4 (s':=((b:Int),((i+1:Nat):Int))),ih (i+1) b (R2 hi) hlt]
    unfold A3k;dsimp only
    rw [A29 hlt,H5 hx,cond_true,Option.bind_some,decide_eq_false q,cond_false,R6 hlt (by omega)]
theorem D1t (g:Agent)(st:List Int)(hl:st.length≤1000000)(k:Nat)(hk: ∃y,st[k]? =some y∧y≤g.S)(hj: ∀(j:Nat) y,k<j→st[j]? =some y→g.S<y): ∀(n i:Nat),i=k+n→i<st.length→loop (A23 g st) (i:Int)=some (k:Int):=by
  intro n
  induction n with
  |zero=>
   intro i hi hil
   obtain ⟨y,h1,h2⟩:=hk
   obtain rfl:i=k:=by omega
   exact J7 (by unfold A23;rw [H5 h1,Option.bind_some,decide_eq_false (show ¬y>g.S by omega)];rfl)
  |succ n ih=>
   intro i hi hil
   have h1:st[i]? =some st[i]:=List.getElem?_eq_getElem hil
   have h2:=hj i _ (by omega) h1
   rw [Y4 (s':=((i - 1:Nat):Int)) (by unfold A23;rw [H5 h1,Option.bind_some,decide_eq_true (show st[i]>g.S by omega),cond_true,R8 (by omega)];congr 2;omega)]
   exact ih (i - 1) (by omega) (by omega)
noncomputable def atK (m:Map)(g:Agent):Nat:=B4i g.S 0 0 (StartsM m g.Route)
/-- The lane of an agent, and its offset. -/
noncomputable def C55 (m:Map)(g:Agent):Int×Int:=(g.Route.getD (atK m g) 0,g.S - (StartsM m g.Route).getD (atK m g) 0)
theorem RouteOK.StartsM {m:Map}{a:Int}{t:List Int}(R:RouteOK m a t):StartsM m (a::t)=A01 m 0 (a::t):=by unfold World.StartsM;rw [R.follow]
theorem RouteOK.LongM {m:Map}{a:Int}{t:List Int}(R:RouteOK m a t):LongM m (a::t)=atM m (a::t) (a::t).length:=by unfold World.LongM;rw [R.follow]
theorem C56 {m:Map}{a:Int}{t:List Int}(R:RouteOK m a t){g:Agent}(hg:g.Route=a::t)(h0:0≤g.S):
    ∃x,atK m g< (a::t).length∧(a::t)[atK m g]? =some x∧C55 m g=(x,g.S - atM m (a::t) (atK m g))∧atM m (a::t) (atK m g)≤g.S∧(∀j,atK m g<j→j< (a::t).length→g.S<atM m (a::t) j):=by
  have hl:=B64 m (a::t) 0
  have h00:(A01 m 0 (a::t))[0]? =some 0:=by rw [A01];rfl
  obtain ⟨⟨y,y1,y2⟩,y3⟩:=D1s (st:=A01 m 0 (a::t)) (S:=g.S) ⟨0,h00,h0⟩
  have e:atK m g=B4i g.S 0 0 (A01 m 0 (a::t)):=by unfold atK;rw [hg,R.StartsM]
  rw [← e]at y1 y3
  have hlt:=U6 y1
  rw [hl]at hlt
  have hy:y=atM m (a::t) (atK m g):=by
    have:=A87 m (a::t) 0 (atK m g) hlt
    rw [y1,Int.zero_add]at this
    exact Option.some.inj this
  refine ⟨(a::t)[atK m g],hlt,List.getElem?_eq_getElem hlt,?_,by omega,fun j hj hjl=> ?_⟩
  ·unfold C55
   rw [hg,R.StartsM,List.getD,List.getD,List.getElem?_eq_getElem hlt,y1,hy];rfl
  ·have:=A87 m (a::t) 0 j hjl
   rw [Int.zero_add]at this
   exact y3 j _ hj this
theorem D41 {m:Map}(B:BearM m){a:Int}{t:List Int}(R:RouteOK m a t){g:Agent}(hg:g.Route=a::t)(h0:0≤g.S)(h1:g.S≤9223372036854775807):A6p m g=some (C55 m g)∧B2n m g=some (C55 m g):=by
  obtain ⟨x,q1,q2,q3,q4,q5⟩:=C56 R hg h0
  have hm7:=R.most
  have hr:g.Route.length≤1000000:=by rw [hg];simp;omega
  have hl:=B64 m (a::t) 0
  have hbd:=R.bd (i:=atK m g) (by omega)
  have hs:D6 (A01 m 0 (a::t)) ((atK m g:Nat):Int)=some (atM m (a::t) (atK m g)):=RouteOK.starts q1
  have hk:(A01 m 0 (a::t))[atK m g]? =some (atM m (a::t) (atK m g)):=by rw [A87 m _ 0 _ q1,Int.zero_add];rfl
  constructor
  ·unfold A6p
   rw [D1o B _ hr,Option.bind_some,hg,R.StartsM]
   have hn:w64 (((A01 m 0 (a::t)).length:Int) - 1)=((t.length:Nat):Int):=by rw [hl,R8 (by simp;omega)];simp
   rw [hn,D1t g _ (by rw [hl];simp;omega) (atK m g) ⟨_,hk,q4⟩ (fun j y hj hy=>by
    have hjl:=U6 hy
    rw [hl]at hjl
    have:=A87 m (a::t) 0 j hjl
    rw [hy,Int.zero_add]at this
    cases this
    exact q5 j hj hjl) (t.length - atK m g) t.length (by simp only [List.length_cons]at q1;omega) (by rw [hl];simp),Option.bind_some,H5 q2,Option.bind_some,hs,Option.bind_some,q3,R8 (by omega)]
  ·unfold B2n
   rw [C9a B _ hr,Option.bind_some,hg,R.StartsM]
   have:=D6s g (A01 m 0 (a::t)) (by rw [hl];simp;omega) (A01 m 0 (a::t)) 0 0 rfl (by omega)
   have e:atK m g=B4i g.S 0 0 (A01 m 0 (a::t)):=by unfold atK;rw [hg,R.StartsM]
   rw [← e]at this
   rw [show ((0:Int),(0:Int))=(((0:Nat):Int),((0:Nat):Int)) from rfl,this,Option.bind_some,H5 q2,Option.bind_some,hs,Option.bind_some,q3,R8 (by omega)]
end Go.Abs.World
/-! Which states are valid, second part. -/
namespace Go.Abs.World
open Go Go.Abs
noncomputable def D1u (m:Map)(x:Int):Int:=((m.Lanes[x.toNat]?).map (·.Kind)).getD 0
/-- The greatest speed, acceleration and braking where an agent is. -/
noncomputable def D95 (m:Map)(g:Agent):Int×Int×Int:=B8q (D1u m (C55 m g).1)
noncomputable def C9c (m:Map)(g:Agent):Bool:=decide (w64 (g.S - g.Len)>LongM m g.Route)
def D74 (g:Agent):Bool:=(((decide (g.Len<300)||decide (g.Len>20000))||decide (g.Begin<0))||decide (g.Begin>1099511627776))||decide (g.S<0)
/-- The error of an agent of a state. -/
noncomputable def B12 (m:Map)(s:State)(i:Int)(g:Agent):Int:=
  if A0e m g.Route=0 then
   if D74 g=true∨g.S>LongM m g.Route+g.Len+2000 then 2
   else if g.V<0∨g.V>(D95 m g).1 then 2
   else if g.Gone≠C9c m g∨(g.Begin>s.Tick∧g.S≠0)∨(i=0∧g.Begin≠0)then 10 else 0
  else 13
theorem D42 {m:Map}{a:Int}{t:List Int}(R:RouteOK m a t):1000≤LongM m (a::t)∧LongM m (a::t)≤134217728:=by
  have h1:=R.bd (Nat.le_refl _)
  have h2:=R.lt (i:=0) (j:=(a::t).length) (by simp) (Nat.le_refl _)
  rw [C3o]at h2
  rw [R.LongM];omega
theorem D1v {m:Map}(B:BearM m){g:Agent}(hr:g.Route.length≤1000000):A6q m g=some (C9c m g)∧B2o m g=some (C9c m g):=by
  constructor
  ·unfold A6q A2w
   rw [Option.bind_some,D1p B _ hr];rfl
  ·unfold B2o
   rw [C7r B _ hr];rfl
theorem D1w {m:Map}{a:Int}{t:List Int}(R:RouteOK m a t){g:Agent}(hg:g.Route=a::t)(h0:0≤g.S): ∃l,D6 m.Lanes (C55 m g).1=some l∧D1u m (C55 m g).1=l.Kind∧m.Lanes[(C55 m g).1.toNat]? =some l:=by
  obtain ⟨x,q1,q2,q3,_⟩:=C56 R hg h0
  have hx:=R.mem (List.mem_of_getElem? q2)
  have hl:m.Lanes[x.toNat]? =some m.Lanes[x.toNat]:=List.getElem?_eq_getElem (by omega)
  have hg:=H5 hl
  rw [Int.toNat_of_nonneg hx.1]at hg
  refine ⟨_,by rw [q3];exact hg,?_,by rw [q3];exact hl⟩
  rw [q3];unfold D1u
  dsimp only
  rw [hl];rfl
theorem C9d {g:Agent}(h:D74 g=false):300≤g.Len∧g.Len≤20000∧0≤g.Begin∧g.Begin≤1099511627776∧0≤g.S:=by
  unfold D74 at h
  simp only [Bool.or_eq_false_iff,decide_eq_false_iff_not]at h
  omega
theorem C7t {m:Map}(B:BearM m)(s:State){i:Int}{g:Agent}(hi:D6 s.Agents i=some g)(hr:g.Route.length≤1000)(hS:g.S≤9223372036854775807):
    A0p m s i=some (B12 m s i g)∧A3s m s i=some (B12 m s i g):=by
  have hr':g.Route.length≤1000000:=by omega
  unfold A0p A3s B12
  rw [hi,Option.bind_some,Option.bind_some,B7a B _ hr',B24 B _ hr',Option.bind_some,Option.bind_some]
  by_cases q:A0e m g.Route=0
  case neg=>
    rw [if_neg q,show (A0e m g.Route !=0)=true by simpa using q]
    exact ⟨rfl,rfl⟩
  rw [if_pos q,q,show ((0:Int) !=0)=false from rfl,cond_false,cond_false]
  obtain ⟨a,t,ht,R⟩:=chkRoute_zero.1 q
  have hL:=D42 R
  rw [← ht]at hL
  rw [D1p B _ hr',C7r B _ hr']
  have e:((((decide (g.Len<300)||decide (g.Len>20000))||decide (g.Begin<0))||decide (g.Begin>1099511627776))||decide (g.S<0))=D74 g:=rfl
  rw [e]
  by_cases o:D74 g=true
  ·rw [if_pos (.inl o),o];exact ⟨rfl,rfl⟩
  have o':D74 g=false:=by simpa using o
  obtain ⟨o1,o2,o3,o4,o5⟩:=C9d o'
  rw [o',Bool.not_false,cond_true,Option.bind_some,Option.bind_some,Bool.false_or,R8 (n:=LongM m g.Route+g.Len) (by omega),R8 (n:=LongM m g.Route+g.Len+2000) (by omega)]
  by_cases l:g.S>LongM m g.Route+g.Len+2000
  ·rw [if_pos (.inr l),decide_eq_true l];exact ⟨rfl,rfl⟩
  rw [if_neg (fun h=>h.elim (fun h=>by cases h) l),decide_eq_false l,cond_false,cond_false]
  obtain ⟨l1,l2⟩:=D41 B R ht o5 hS
  obtain ⟨ln,k1,k2,_⟩:=D1w R ht o5
  rw [l1,l2,Option.bind_some,Option.bind_some,k1,Option.bind_some,Option.bind_some,C0u,B85,Option.bind_some,Option.bind_some]
  have ev:(D95 m g).1=(B8q ln.Kind).1:=by unfold D95;rw [k2]
  rw [ev]
  by_cases v:g.V<0∨g.V>(B8q ln.Kind).1
  ·rw [if_pos v,show (decide (g.V<0)||decide (g.V>(B8q ln.Kind).1))=true by simpa using v];exact ⟨rfl,rfl⟩
  rw [if_neg v,show (decide (g.V<0)||decide (g.V>(B8q ln.Kind).1))=false by rw [Bool.eq_false_iff];simpa using v,cond_false,cond_false,(D1v B hr').1,(D1v B hr').2,Option.bind_some,Option.bind_some]
  have hb: ∀b:Bool,(b=true↔g.Gone≠C9c m g∨(g.Begin>s.Tick∧g.S≠0)∨(i=0∧g.Begin≠0))→cond b (some (10:Int)) (some 0)=some (if g.Gone≠C9c m g∨(g.Begin>s.Tick∧g.S≠0)∨(i=0∧g.Begin≠0)then 10 else 0):=by
    intro b hb
    by_cases h:g.Gone≠C9c m g∨(g.Begin>s.Tick∧g.S≠0)∨(i=0∧g.Begin≠0)
    ·rw [if_pos h,hb.2 h];rfl
    ·rw [if_neg h]
     cases b
     ·rfl
     ·exact absurd (hb.1 rfl) h
  exact ⟨hb _ (by simp),hb _ (by simp [or_assoc])⟩
/-! ### The whole check -/
def C3q (a b:Stay):Bool:=decide (a.Agent_<b.Agent_)||(a.Agent_==b.Agent_&&decide (a.Zone_<b.Zone_))
theorem D8e (a b:Int):A5d [a,b]=some (if a≠0 then a else b):=by
  unfold A5d
  by_cases h:a=0
  ·subst h
   rw [Y4 (s':=1) rfl,if_neg (by simp)]
   by_cases h:b=0
   ·subst h;rw [Y4 (s':=2) rfl,J7 (t:= .inl ()) rfl];rfl
   ·rw [J7 (t:= .inr b) (by unfold A3d;rw [show D6 [(0:Int),b] 1=some b from rfl,Option.bind_some,show (b !=0)=true by simpa using h];rfl)];rfl
  ·rw [J7 (t:= .inr a) (by unfold A3d;rw [show D6 [a,b] 0=some a from rfl,Option.bind_some,show (a !=0)=true by simpa using h];rfl),if_pos h];rfl
/-- What the order of two stays is. -/
def D8j (a b:Stay):Int:=if D73 a.Agent_ b.Agent_≠0 then D73 a.Agent_ b.Agent_ else D73 a.Zone_ b.Zone_
theorem D43 (a b:Stay):A3e a b=some (D8j a b):=by
  unfold A3e D8j
  rw [C27,Option.bind_some,C27,Option.bind_some,D8e,Option.bind_some]
theorem D44 (a b:Stay):decide (D8j a b≥0)= !C3q a b:=by
  unfold D8j C3q D73
  by_cases h1:a.Agent_<b.Agent_
  ·simp [h1]
  ·by_cases h2:a.Agent_>b.Agent_
   ·have:a.Agent_≠b.Agent_:=by omega
    simp [h1,h2,this]
   ·have:a.Agent_=b.Agent_:=by omega
    by_cases h3:a.Zone_<b.Zone_
    ·simp [this,h3]
    ·by_cases h4:a.Zone_>b.Zone_
     ·simp [this,h3,h4]
     ·simp [this,h3,h4]
def C6j (m:Map)(s:State)(x:Stay):Bool:=((decide (x.Agent_<0)||decide (x.Agent_≥(s.Agents.length:Int)))||decide (x.Zone_<0))||decide (x.Zone_≥(m.Zones.length:Int))
def inE (m:Map)(s:State)(i:Nat)(x:Stay):Option Int:=if C6j m s x=true∨(0<i∧∃y,s.In[i - 1]? =some y∧C3q y x=false)then some 11 else none
def C5a (s:State)(x:Stay):Bool:=((decide (x.Since<0)||decide (x.Since>s.Tick))||decide (x.Rank<0))||decide (x.Rank>100)
noncomputable def D96 (m:Map)(s:State):Int:=
  if C3u m=0 then
   if s.Tick<0∨s.Tick>1099511627776 then 2 else if s.Agents.length=0 then 6 else if 8<s.Agents.length then 8
   else match K2 (fun i g=>if B12 m s (i:Int) g=0 then none else some (B12 m s (i:Int) g)) 0 s.Agents with
     |some e=>e
     |none=>match K2 (inE m s) 0 s.In with
      |some e=>e
      |none=>if s.In.any (C5a s)=true then 2 else 0
  else C3u m
theorem C6k {m:Map}(B:BearM m){s:State}(h:SizeS s)(hw: ∀g∈s.Agents,g.S≤9223372036854775807):
    loop (A11 m s) 0=some (D1c (K2 (fun i g=>if B12 m s (i:Int) g=0 then none else some (B12 m s (i:Int) g)) 0 s.Agents))∧
    loop (A42 m s) 0=some (D1c (K2 (fun i g=>if B12 m s (i:Int) g=0 then none else some (B12 m s (i:Int) g)) 0 s.Agents)):=by
  have hh:=h.agents
  constructor
  ·refine Y9 s.Agents _ _ (fun i g hg=> ?_) (by unfold A11;rw [A00];rfl)
   have hm:=List.mem_of_getElem? hg
   unfold A11
   rw [A29 (U6 hg),cond_true,(C7t B s (H5 hg) (h.routes g hm) (hw g hm)).1,Option.bind_some]
   by_cases q:B12 m s (i:Int) g=0
   ·rw [if_pos q,q,show ((0:Int) !=0)=false from rfl,cond_false,R6 (U6 hg) (by omega)]
   ·rw [if_neg q,show (B12 m s (i:Int) g !=0)=true by simpa using q];rfl
  ·refine Y9 s.Agents _ _ (fun i g hg=> ?_) (by unfold A42;rw [A00];rfl)
   have hm:=List.mem_of_getElem? hg
   unfold A42
   rw [A29 (U6 hg),cond_true,(C7t B s (H5 hg) (h.routes g hm) (hw g hm)).2,Option.bind_some]
   by_cases q:B12 m s (i:Int) g=0
   ·rw [if_pos q,q,show ((0:Int) !=0)=false from rfl,cond_false,R6 (U6 hg) (by omega)]
   ·rw [if_neg q,show (B12 m s (i:Int) g !=0)=true by simpa using q];rfl
theorem C7u {α:Type}{l:List α}{i:Nat}{a:α}(h:l[i]? =some a)(h0:0<i): ∃y,l[i - 1]? =some y∧D6 l (w64 ((i:Int) - 1))=some y∨1000000000000<i:=by
  by_cases hb:1000000000000<i
  ·exact ⟨a, .inr hb⟩
  ·have:=U6 h
   have e:l[i - 1]? =some l[i - 1]:=List.getElem?_eq_getElem (by omega)
   refine ⟨_, .inl ⟨e,?_⟩⟩
   rw [R8 (by omega),show (i:Int) - 1=((i - 1:Nat):Int) by omega]
   exact H5 e
theorem D45 (m:Map){s:State}(h:SizeS s):
    loop (A10 m s) 0=some (D1c (K2 (inE m s) 0 s.In))∧loop (A41 m s) 0=some (D1c (K2 (inE m s) 0 s.In)):=by
  have hh:=h.ins
  constructor
  ·refine Y9 s.In _ _ (fun i x hx=> ?_) (by unfold A10;rw [A00];rfl)
   have hi:=U6 hx
   unfold A10
   rw [A29 hi,cond_true,H5 hx,Option.bind_some]
   have e:(((decide (x.Agent_<0)||decide (x.Agent_≥(s.Agents.length:Int)))||decide (x.Zone_<0))||decide (x.Zone_≥(m.Zones.length:Int)))=C6j m s x:=rfl
   rw [e]
   unfold inE
   by_cases hb:C6j m s x=true
   ·rw [hb,if_pos (.inl rfl)];rfl
   have hb':C6j m s x=false:=by simpa using hb
   rw [hb',Bool.not_false,Bool.true_and]
   by_cases h0:0<i
   ·obtain ⟨y,hy⟩:=C7u hx h0
    rcases hy with ⟨y1,y2⟩|hy
    ·rw [decide_eq_true (show (i:Int)>0 by omega),cond_true,y2,Option.bind_some,cond_true,D43,Option.bind_some,Bool.false_or,Bool.true_and,D44]
     by_cases q:C3q y x=true
     ·rw [q,if_neg (by rintro (h|⟨_,z,z1,z2⟩);exact (by cases h);rw [y1]at z1;cases z1;rw [q]at z2;cases z2),Bool.not_true,cond_false,R6 hi (by omega)]
     ·have q':C3q y x=false:=by simpa using q
      rw [q',if_pos (.inr ⟨h0,y,y1,q'⟩)];rfl
    ·omega
   ·rw [decide_eq_false (show ¬(i:Int)>0 by omega),cond_false,Option.bind_some,cond_false,Option.bind_some,Bool.false_or,Bool.false_and,cond_false,if_neg (by rintro (h|⟨h,_⟩);exact (by cases h);exact h0 h),R6 hi (by omega)]
  ·refine Y9 s.In _ _ (fun i x hx=> ?_) (by unfold A41;rw [A00];rfl)
   have hi:=U6 hx
   unfold A41
   rw [A29 hi,cond_true,H5 hx,Option.bind_some]
   have e:(((decide (x.Agent_<0)||decide (x.Agent_≥(s.Agents.length:Int)))||decide (x.Zone_<0))||decide (x.Zone_≥(m.Zones.length:Int)))=C6j m s x:=rfl
   rw [e]
   unfold inE
   by_cases hb:C6j m s x=true
   ·rw [hb,if_pos (.inl rfl)];rfl
   have hb':C6j m s x=false:=by simpa using hb
   rw [hb',cond_false]
   by_cases h0:0<i
   ·obtain ⟨y,hy⟩:=C7u hx h0
    rcases hy with ⟨y1,y2⟩|hy
    ·rw [decide_eq_true (show (i:Int)>0 by omega),cond_true,y2,Option.bind_some,Bool.true_and]
     have hc: ∀b:Bool,(cond b (some y) (some default)).bind (fun v=>some v)=some (cond b y default):=by intro b;cases b<;>rfl
     by_cases q1:x.Agent_<y.Agent_
     ·rw [decide_eq_true q1,if_pos (.inr ⟨h0,y,y1,by unfold C3q;simp;omega⟩)];rfl
     ·rw [decide_eq_false q1,Bool.not_false,cond_true,Option.bind_some,Bool.true_and]
      by_cases q2:x.Agent_=y.Agent_
      ·rw [show (x.Agent_==y.Agent_)=true by simpa using q2,cond_true,Option.bind_some,Bool.false_or,Bool.true_and,Bool.true_and]
       by_cases q3:x.Zone_≤y.Zone_
       ·rw [decide_eq_true q3,if_pos (.inr ⟨h0,y,y1,by unfold C3q;simp;omega⟩)];rfl
       ·rw [decide_eq_false q3,if_neg (by rintro (h|⟨_,z,z1,z2⟩);exact (by cases h);rw [y1]at z1;cases z1;unfold C3q at z2;simp at z2;omega),cond_false,R6 hi (by omega)]
      ·rw [show (x.Agent_==y.Agent_)=false by simpa using q2,cond_false,Option.bind_some,Bool.false_or,Bool.true_and,Bool.false_and,cond_false,if_neg (by rintro (h|⟨_,z,z1,z2⟩);exact (by cases h);rw [y1]at z1;cases z1;unfold C3q at z2;simp at z2;omega),R6 hi (by omega)]
    ·omega
   ·rw [decide_eq_false (show ¬(i:Int)>0 by omega),cond_false,Option.bind_some]
    simp only [Bool.false_and,cond_false,Option.bind_some]
    rw [if_neg (by rintro (h|⟨h,_⟩);exact (by cases h);exact h0 h),R6 hi (by omega)]
theorem C57 {α:Type}(l:List α)(P:α→Bool)(F:Int→Option (Stp Int (Sum Unit Int)))(hl:l.length≤1000000000)(hF: ∀(i:Nat) a,l[i]? =some a→F (i:Int)=some (if P a then .out (.inr (i:Int))else .go (w64 ((i:Int)+1))))(h0:F (l.length:Int)=some (.out (.inl ()))):
    (thenS (loop F 0) (fun _=>some (-1)) (fun r=>some r)).bind (fun v=>some (decide (v≥0)))=some (l.any P):=by
  rw [C25 l P hl hF h0]
  have:=B98 P l
  unfold D8a at this
  cases hq:l.findIdx? P with
  |some i=>rw [hq]at this;show some _=_;rw [← this]
  |none=>rw [hq]at this;show some _=_;rw [← this]
theorem D6t {s:State}(h:SizeS s):D1 s.In s=some (s.In.any (C5a s)):=by
  have hh:=h.ins
  unfold D1 G2
  refine C57 s.In (C5a s) _ (by omega) (fun i x hx=> ?_) (by unfold D5;rw [A00];rfl)
  unfold D5 A2x
  rw [A29 (U6 hx),H5 hx,cond_true,Option.bind_some,Option.bind_some]
  have e:(((decide (x.Since<0)||decide (x.Since>s.Tick))||decide (x.Rank<0))||decide (x.Rank>100))=C5a s x:=rfl
  rw [e]
  cases C5a s x<;>rfl
theorem D46 {s:State}(h:SizeS s):thenS (loop (A40 s) 0) (fun _=>some 0) (fun r=>some r)=some (if s.In.any (C5a s)=true then 2 else 0):=by
  have hh:=h.ins
  rw [Y9 s.In _ (fun _ x=>if C5a s x=true then some 2 else none) (fun i x hx=> ?_) (by unfold A40;rw [A00];rfl)]
  ·by_cases q:s.In.any (C5a s)=true
   ·rw [if_pos q]
    cases hf:K2 (fun _ x=>if C5a s x=true then some (2:Int)else none) 0 s.In with
    |some e=>
     have: ∀(l:List Stay) (i:Nat),K2 (fun _ x=>if C5a s x=true then some (2:Int)else none) i l=some e→e=2:=by
       intro l
       induction l with
       |nil=>intro i h;cases h
       |cons a l ih=>
        intro i h
        unfold K2 at h
        by_cases z:C5a s a=true
        ·rw [if_pos z]at h;cases h;rfl
        ·rw [if_neg z]at h;exact ih _ h
     rw [this _ _ hf];rfl
    |none=>
     obtain ⟨x,x1,x2⟩:=List.any_eq_true.1 q
     obtain ⟨j,hj⟩:=List.getElem?_of_mem x1
     have:=firstE_none.1 hf j x hj
     rw [if_pos x2]at this;cases this
   ·rw [if_neg q,firstE_none.2 fun j x hj=> ?_]
    ·rfl
    ·by_cases z:C5a s x=true
     ·exact absurd (List.any_eq_true.2 ⟨x,List.mem_of_getElem? hj,z⟩) q
     ·rw [if_neg z]
  ·unfold A40
   rw [A29 (U6 hx),H5 hx,cond_true,Option.bind_some]
   have e:(((decide (x.Since<0)||decide (x.Since>s.Tick))||decide (x.Rank<0))||decide (x.Rank>100))=C5a s x:=rfl
   rw [e]
   by_cases z:C5a s x=true
   ·rw [if_pos z,z];rfl
   ·rw [if_neg z,show C5a s x=false by simpa using z,cond_false,R6 (U6 hx) (by omega)]
theorem D47 {m:Map}(B:BearM m){s:State}(h:SizeS s)(hw: ∀g∈s.Agents,g.S≤9223372036854775807):A2d m s=some (D96 m s)∧B0i m s=some (D96 m s):=by
  obtain ⟨a1,a2⟩:=C6k B h hw
  obtain ⟨i1,i2⟩:=D45 m h
  unfold A2d B0i D96
  rw [B22 B,B5f B,Option.bind_some,Option.bind_some]
  by_cases q:C3u m=0
  case neg=>rw [if_neg q,show (C3u m !=0)=true by simpa using q];exact ⟨rfl,rfl⟩
  rw [if_pos q,q,show ((0:Int) !=0)=false from rfl,cond_false,cond_false]
  by_cases t:s.Tick<0∨s.Tick>1099511627776
  ·rw [if_pos t,show (decide (s.Tick<0)||decide (s.Tick>1099511627776))=true by simpa using t];exact ⟨rfl,rfl⟩
  rw [if_neg t,show (decide (s.Tick<0)||decide (s.Tick>1099511627776))=false by rw [Bool.eq_false_iff];simpa using t,cond_false,cond_false]
  by_cases n0:s.Agents.length=0
  ·rw [if_pos n0,show (((s.Agents.length:Nat):Int)==0)=true by rw [n0];rfl];exact ⟨rfl,rfl⟩
  rw [if_neg n0,show (((s.Agents.length:Nat):Int)==0)=false by simpa using (show ((s.Agents.length:Nat):Int)≠0 by omega),cond_false,cond_false]
  by_cases n8:8<s.Agents.length
  ·rw [if_pos n8,decide_eq_true (show (s.Agents.length:Int)>8 by omega)];exact ⟨rfl,rfl⟩
  rw [if_neg n8,decide_eq_false (show ¬(s.Agents.length:Int)>8 by omega),cond_false,cond_false,a1,a2]
  cases K2 (fun i g=>if B12 m s (i:Int) g=0 then none else some (B12 m s (i:Int) g)) 0 s.Agents with
  |some e=>exact ⟨rfl,rfl⟩
  |none=>
   show thenS _ _ _=_∧thenS _ _ _=_
   rw [i1,i2]
   cases K2 (inE m s) 0 s.In with
   |some e=>exact ⟨rfl,rfl⟩
   |none=>
    refine ⟨?_,D46 h⟩
    show (D1 s.In s).bind _=_
    rw [D6t h,Option.bind_some]
    cases s.In.any (C5a s)<;>rfl
end Go.Abs.World
/-! WorldChecks. -/
namespace Go.Abs.World
open Go Go.Abs
abbrev D6u (g:Agent):Prop:=(∀x∈g.Route,A6l x)∧A6l g.S∧A6l g.V∧A6l g.Len∧A6l g.Begin∧True∧True
abbrev D8f (x:Stay):Prop:=A6l x.Agent_∧A6l x.Zone_∧A6l x.Since∧A6l x.Rank
abbrev D6v (s:State):Prop:=A6l s.Tick∧(∀g∈s.Agents,D6u g)∧∀x∈s.In,D8f x
/-- A map of the kit. -/
structure KitM (m:Map):Prop extends BearK m where
  val:ValR m
theorem D6w (n:Int): ∃m,B7x n=some m∧KitM m∧∃k p,k<8∧ParOK p∧m=C7q k p:=by
  obtain ⟨k,p,hk,hp,hm⟩:=C96 n
  exact ⟨_,hm,⟨⟨D3v hp,(C12 k p.r).1⟩,D6o hk hp⟩,k,p,hk,hp,rfl⟩
theorem B3l (n:Int)(s:State)(_w0:A6l n)(w1:D6v s):A5k n s=some true:=by
  obtain ⟨b,h1,h2⟩:=D3z s
  obtain ⟨m,hm,K,_⟩:=D6w n
  unfold A5k
  rw [h1,Option.bind_some,D3u]
  cases b
  ·rfl
  ·have S:=(h2 rfl).size
   obtain ⟨c1,c2⟩:=D47 K.toBearM S fun g hg=>(w1.2.1 g hg).2.1.2
   rw [hm,D40 S]
   simp only [Bool.not_true,cond_false,Option.bind_some,c1,c2,D1r S,beq_self_eq_true,cond_true,Bool.and_self]
end Go.Abs.World
