/-
  Plain facts, second part: the law itself.
-/
import Derived.Test.YtimbepcdlehjjaaGreatPlain
namespace Go.Abs.Roadsz
open Go Go.Abs
theorem wid {n:Int}(h: -9223372036854775808≤n∧n≤9223372036854775807):w64 n=n:=Go.IntWalk.i64_in n h
theorem F3 {α:Type}{l:List α}{i:Nat}{a:α}(h:l[i]? =some a):F0 l (i:Int)=some a:=by
  unfold F0;rw [if_pos (by omega),Int.toNat_natCast];exact h
theorem A04 {α:Type}{l:List α}{i:Nat}{a:α}(h:l[i]? =some a):i<l.length:=(List.getElem?_eq_some_iff.1 h).1
theorem B8e {α:Type}(c:Bool)(a b:α):cond c (some a) (some b)=some (cond c a b):=by cases c<;>rfl
def A2l (high:Int):Int→List Int→Bool
  |_,[]=>true
  |low,n::r=>decide (low≤n)&&decide (n<high)&&A2l high (n+1) r
theorem B5t (l:List Int)(low high:Int)(hl:l.length≤1000000)(hh:high≤1000000000)(h0:0≤low):Z1 l low high=some (A2l high low l):=by
  have key: ∀(r:List Int) (i:Nat) (lo:Int),0≤lo→l.drop i=r→i≤l.length→loop (Q4 l high) (lo,(i:Int))=some (if A2l high lo r then .inl ()else .inr false):=by
    intro r
    induction r with
    |nil=>
     intro i lo _ hi hil
     have:=R1 hi
     refine D8 ?_
     unfold Q4
     dsimp only
     rw [show decide ((i:Int)< (l.length:Int))=false from decide_eq_false (by omega)];rfl
    |cons n r ih=>
     intro i lo hlo hi hil
     have hlt:=Q7 hi
     have hs:Q4 l high (lo,(i:Int))=some (if decide (lo≤n)&&decide (n<high)then .go (n+1,((i+1:Nat):Int))else .out (.inr false)):=by
       unfold Q4
       dsimp only
       rw [show decide ((i:Int)< (l.length:Int))=true from decide_eq_true (by omega),Y9 hi,cond_true,Option.bind_some,wid (n:=(i:Int)+1) (by omega)]
       by_cases q:lo≤n∧n<high
       ·rw [show ((decide (n<lo))||(decide (n≥high)))=false by rw [Bool.eq_false_iff];simp;omega,cond_false,wid (n:=n+1) (by omega),if_pos (by simpa using q)];rfl
       ·rw [show ((decide (n<lo))||(decide (n≥high)))=true by simp;omega,cond_true,if_neg (by simpa using q)]
     unfold A2l
     cases q:(decide (lo≤n)&&decide (n<high))
     ·rw [q]at hs;rw [D8 hs];rfl
     ·rw [q]at hs
      simp only [Bool.and_eq_true,decide_eq_true_eq]at q
      rw [Q8 hs,ih (i+1) (n+1) (by omega) (I9 hi) (by omega)];rfl
  unfold Z1
  have:=key l 0 low h0 rfl (by omega)
  rw [show ((0:Nat):Int)=0 from rfl]at this
  rw [this]
  cases A2l high low l<;>rfl
theorem B35 (l:List Int)(low high:Int)(hl:l.length≤1000000):A0t l low high=some (A2l high low l):=by
  have key: ∀(r:List Int) (i:Nat) (lo:Int),low≤lo→(i=0→lo=low)→(0<i→l[i - 1]? =some (lo - 1))→l.drop i=r→i≤l.length→loop (U2 l low high) (i:Int)=some (if A2l high lo r then .inl ()else .inr false):=by
    intro r
    induction r with
    |nil=>
     intro i lo _ _ _ hi hil
     have:=R1 hi
     refine D8 ?_
     unfold U2
     rw [show decide ((i:Int)< (l.length:Int))=false from decide_eq_false (by omega)];rfl
    |cons n r ih=>
     intro i lo hlo h0 h1 hi hil
     have hlt:=Q7 hi
     have hn:l[i]? =some n:=by have:=congrArg (fun z=>z[0]?) hi;simpa using this
     have hs:U2 l low high (i:Int)=some (if decide (lo≤n)&&decide (n<high)then .go ((i+1:Nat):Int)else .out (.inr false)):=by
       unfold U2
       rw [show decide ((i:Int)< (l.length:Int))=true from decide_eq_true (by omega),Y9 hi,cond_true,Option.bind_some,B8e,Option.bind_some,B8e,Option.bind_some,wid (n:=(i:Int)+1) (by omega)]
       by_cases q1:n<low
       ·rw [decide_eq_true q1,if_neg (by simp;omega)];rfl
       ·rw [decide_eq_false q1]
        simp only [Bool.not_false,cond_true,Bool.false_or]
        by_cases q2:n≥high
        ·rw [decide_eq_true q2,if_neg (by simp;omega)];rfl
        ·rw [decide_eq_false q2]
         simp only [Bool.not_false,Bool.true_and,Bool.false_or]
         by_cases q3:(i:Int)>0
         ·have e:F0 l (w64 ((i:Int) - 1))=some (lo - 1):=by
            rw [wid (n:=(i:Int) - 1) (by omega),show (i:Int) - 1=((i - 1:Nat):Int) by omega]
            exact F3 (h1 (by omega))
          rw [decide_eq_true q3,cond_true,cond_true,e,Option.bind_some,Bool.true_and]
          by_cases q4:n≤lo - 1
          ·rw [decide_eq_true q4,if_neg (by simp;omega)];rfl
          ·rw [decide_eq_false q4,if_pos (by simp;omega)];rfl
         ·have:lo=low:=h0 (by omega)
          rw [decide_eq_false q3,cond_false,Option.bind_some,Bool.false_and,if_pos (by simp;omega)];rfl
     unfold A2l
     cases q:(decide (lo≤n)&&decide (n<high))
     ·rw [q]at hs;rw [D8 hs];rfl
     ·rw [q]at hs
      simp only [Bool.and_eq_true,decide_eq_true_eq]at q
      rw [Q8 hs,ih (i+1) (n+1) (by omega) (fun z=>by omega) (fun _=>by rw [Nat.add_sub_cancel,hn];congr 1;omega) (I9 hi) (by omega)];rfl
  unfold A0t
  have:=key l 0 low (Int.le_refl _) (fun _=>rfl) (fun z=>by omega) rfl (by omega)
  rw [show ((0:Nat):Int)=0 from rfl]at this
  rw [this]
  cases A2l high low l<;>rfl
end Go.Abs.Roadsz
namespace Go.Abs.Roadsz
open Go Go.Abs
noncomputable def D29 (c:Curve):Int:=C19 0 (A5f c)
theorem D0m {m:Map}{i:Nat}{l:Lane}(h:m.Lanes[i]? =some l)(hl:l.Curve_.Pts.length≤1000000):W5 m (i:Int)=some (D29 l.Curve_):=by
  unfold W5
  rw [F3 h,Option.bind_some,B5r _ hl];rfl
/-- The lists of a map are of bearable lengths. -/
structure Bear (m:Map):Prop where
  lanes:m.Lanes.length≤1000000
  pts: ∀l∈m.Lanes,l.Curve_.Pts.length≤1000000∧l.Next.length≤1000000
noncomputable def laneE (n:Nat)(i:Nat)(l:Lane):Option Int:=
  if (B8d l.Kind).1=0 then some 4
  else if A13 l.Curve_.Pts≠0 then some (A13 l.Curve_.Pts)
  else if (inR l.Half 200 4000&&inR l.Limit 1 (B8d l.Kind).1)=false then some 2
  else if 3<l.Next.length then some 8
  else if A2l n (i+1) l.Next=false then some 11 else none
theorem C7u {m:Map}(B:Bear m):P4 ⟨m⟩=some ((I4 (laneE m.Lanes.length) 0 m.Lanes).getD 0):=by
  have h:=A2s m.Lanes (K4 ⟨m⟩) (laneE m.Lanes.length) (fun i l hl=>by
    have hi:=A04 hl
    have hb:=B.lanes
    obtain ⟨p1,p2⟩:=B.pts l (List.mem_of_getElem? hl)
    unfold K4 laneE
    dsimp only
    rw [show decide ((i:Int)< (m.Lanes.length:Int))=true from decide_eq_true (by omega),F3 hl,cond_true,Option.bind_some,B9w,Option.bind_some,B0m _ p1,Option.bind_some,A3x,A3x,Option.bind_some,B8e,Option.bind_some,wid (n:=(i:Int)+1) (by omega),B5t _ _ _ p2 (by omega) (by omega),Option.bind_some]
    by_cases h1:(B8d l.Kind).1=0
    ·rw [if_pos h1,show ((B8d l.Kind).1==0)=true by simpa using h1];rfl
    ·rw [if_neg h1,show ((B8d l.Kind).1==0)=false by simpa using h1,cond_false]
     by_cases h2:A13 l.Curve_.Pts≠0
     ·rw [if_pos h2,show (A13 l.Curve_.Pts !=0)=true by simpa using h2];rfl
     ·rw [if_neg h2,show (A13 l.Curve_.Pts !=0)=false by simpa using h2,cond_false]
      cases inR l.Half 200 4000
      ·rfl
      ·cases inR l.Limit 1 (B8d l.Kind).1
       ·rfl
       ·simp only [Bool.not_true,Bool.not_false,cond_true,cond_false,Bool.false_or,Bool.and_self]
        rw [if_neg (by decide)]
        by_cases h3:3<l.Next.length
        ·rw [if_pos h3,show decide ((l.Next.length:Int)>3)=true from decide_eq_true (by omega)];rfl
        ·rw [if_neg h3,show decide ((l.Next.length:Int)>3)=false from decide_eq_false (by omega),cond_false]
         cases A2l (m.Lanes.length:Int) ((i:Int)+1) l.Next<;>rfl) (by
    unfold K4
    dsimp only
    rw [show decide ((m.Lanes.length:Int)< (m.Lanes.length:Int))=false from decide_eq_false (by omega)];rfl)
  unfold P4
  rw [h]
  cases I4 (laneE m.Lanes.length) 0 m.Lanes<;>rfl
end Go.Abs.Roadsz
namespace Go.Abs.Roadsz
open Go Go.Abs
theorem C7v (k:Int):((decide (k<1))||(decide (k>3)))=decide ((B8d k).1=0):=by
  unfold B8d
  by_cases h1:k=1
  ·subst h1;rfl
  ·by_cases h2:k=2
   ·subst h2;rfl
   ·by_cases h3:k=3
    ·subst h3;rfl
    ·rw [if_neg h1,if_neg h2,if_neg h3]
     simp only [decide_true,Bool.or_eq_true,decide_eq_true_eq]
     omega
theorem C7w {m:Map}(B:Bear m){i:Nat}{l:Lane}(hl:m.Lanes[i]? =some l):A1t m (i:Int)=some ((laneE m.Lanes.length i l).getD 0):=by
  have hi:=A04 hl
  have hb:=B.lanes
  obtain ⟨p1,p2⟩:=B.pts l (List.mem_of_getElem? hl)
  unfold A1t laneE
  rw [F3 hl,Option.bind_some,C7v,B0n _ p1,Option.bind_some,B7a,Option.bind_some,A7j,A7j,Option.bind_some,B8e,Option.bind_some,wid (n:=(i:Int)+1) (by omega),B35 _ _ _ p2,Option.bind_some]
  by_cases h1:(B8d l.Kind).1=0
  ·rw [if_pos h1,decide_eq_true h1];rfl
  ·rw [if_neg h1,decide_eq_false h1,cond_false]
   by_cases h2:A13 l.Curve_.Pts≠0
   ·rw [if_pos h2,show (A13 l.Curve_.Pts !=0)=true by simpa using h2];rfl
   ·rw [if_neg h2,show (A13 l.Curve_.Pts !=0)=false by simpa using h2,cond_false]
    cases inR l.Half 200 4000
    ·rfl
    ·cases inR l.Limit 1 (B8d l.Kind).1
     ·rfl
     ·simp only [Bool.not_true,Bool.not_false,cond_true,cond_false,Bool.false_or,Bool.and_self]
      rw [if_neg (by decide)]
      by_cases h3:3<l.Next.length
      ·rw [if_pos h3,show decide ((l.Next.length:Int)>3)=true from decide_eq_true (by omega)];rfl
      ·rw [if_neg h3,show decide ((l.Next.length:Int)>3)=false from decide_eq_false (by omega),cond_false]
       cases A2l (m.Lanes.length:Int) ((i:Int)+1) l.Next<;>rfl
theorem B8f {n i:Nat}{l:Lane}{e:Int}(h:laneE n i l=some e):e≠0:=by
  unfold laneE at h
  split at h
  ·cases h;decide
  ·split at h
   ·rename_i h2;cases h;exact h2
   ·split at h
    ·cases h;decide
    ·split at h
     ·cases h;decide
     ·split at h
      ·cases h;decide
      ·cases h
theorem C1b {m:Map}(B:Bear m):loop (A02 m) 0=some (D0l (I4 (laneE m.Lanes.length) 0 m.Lanes)):=
  A2s m.Lanes (A02 m) (laneE m.Lanes.length) (fun i l hl=>by
    have hi:=A04 hl
    have hb:=B.lanes
    unfold A02
    rw [show decide ((i:Int)< (m.Lanes.length:Int))=true from decide_eq_true (by omega),C7w B hl,cond_true,Option.bind_some,wid (n:=(i:Int)+1) (by omega)]
    cases h:laneE m.Lanes.length i l with
    |none=>rfl
    |some e=>
     rw [Option.getD_some,show (e !=0)=true by simpa using B8f h];rfl) (by
    unfold A02
    rw [show decide ((m.Lanes.length:Int)< (m.Lanes.length:Int))=false from decide_eq_false (by omega)];rfl)
end Go.Abs.Roadsz
namespace Go.Abs.Roadsz
open Go Go.Abs
theorem A6g {high:Int}: ∀{l:List Int} {low:Int},A2l high low l=true→∀k∈l,low≤k∧k<high
  | [],_,_,k,hk=>by cases hk
  |n::r,low,h,k,hk=>by
   unfold A2l at h
   simp only [Bool.and_eq_true,decide_eq_true_eq]at h
   rcases List.mem_cons.1 hk with rfl|hk
   ·exact h.1
   ·have:=A6g h.2 k hk
    omega
/-- What a lane is that has no error of its own. -/
structure LaneOK (n i:Nat)(l:Lane):Prop where
  kind:(B8d l.Kind).1≠0
  curve:A13 l.Curve_.Pts=0
  half:inR l.Half 200 4000=true
  limit:inR l.Limit 1 (B8d l.Kind).1=true
  few:l.Next.length≤3
  next:A2l n (i+1) l.Next=true
theorem C3o {n i:Nat}{l:Lane}(h:laneE n i l=none):LaneOK n i l:=by
  unfold laneE at h
  split at h
  ·cases h
  ·rename_i h1
   split at h
   ·cases h
   ·rename_i h2
    split at h
    ·cases h
    ·rename_i h3
     split at h
     ·cases h
     ·rename_i h4
      split at h
      ·cases h
      ·rename_i h5
       simp only [Bool.not_eq_false,Bool.and_eq_true]at h3
       exact ⟨h1,Decidable.not_not.1 h2,h3.1,h3.2,by omega,by simpa using h5⟩
theorem B2f {m:Map}(h:I4 (laneE m.Lanes.length) 0 m.Lanes=none){i:Nat}{l:Lane}(hl:m.Lanes[i]? =some l):LaneOK m.Lanes.length i l:=by
  have:=firstE_none.1 h i l hl
  rw [Nat.zero_add]at this
  exact C3o this
end Go.Abs.Roadsz
namespace Go.Abs.Roadsz
open Go Go.Abs
theorem B5u {l:List Spot}(h:A13 l=0):2≤l.length:=by
  unfold A13 at h
  split at h
  ·cases h
  ·omega
def B6n (l:List Spot):Spot:=l.headD ⟨0,0⟩
def B3p (l:List Spot):Spot:=l.getLastD ⟨0,0⟩
theorem B9x {l:List Spot}(h:2≤l.length):F0 l 0=some (B6n l):=by
  cases l with
  |nil=>simp at h
  |cons a r=>rfl
theorem B9y {l:List Spot}(h:2≤l.length)(hl:l.length≤1000000):F0 l (w64 ((l.length:Int) - 1))=some (B3p l):=by
  rw [wid (by omega),show (l.length:Int) - 1=((l.length - 1:Nat):Int) by omega]
  refine F3 ?_
  unfold B3p
  rw [List.getLastD_eq_getLast?,List.getLast?_eq_getElem?]
  rw [List.getElem?_eq_getElem (by omega)];rfl
def C5q (a b:Spot):Bool:=a.X==b.X&& (a.Y==b.Y&&true)
def B5v (m:Map)(l:Lane)(_:Nat)(k:Int):Option Int:=
  match m.Lanes[k.toNat]? with
  |some n=>if n.Kind≠l.Kind then some 4 else if C5q (B6n n.Curve_.Pts) (B3p l.Curve_.Pts)=false then some 3 else none
  |none=>none
def A8s (m:Map)(_:Nat)(l:Lane):Option Int:=I4 (B5v m l) 0 l.Next
theorem B7b {m:Map}(B:Bear m)(H:I4 (laneE m.Lanes.length) 0 m.Lanes=none){i:Nat}{l:Lane}(hl:m.Lanes[i]? =some l){j:Nat}{k:Int}(hk:l.Next[j]? =some k):
    ∃n,F0 m.Lanes k=some n∧m.Lanes[k.toNat]? =some n∧2≤n.Curve_.Pts.length∧n.Curve_.Pts.length≤1000000:=by
  have L:=B2f H hl
  have hb:=A6g L.next k (List.mem_of_getElem? hk)
  have hlt:k.toNat<m.Lanes.length:=by omega
  refine ⟨m.Lanes[k.toNat],?_,List.getElem?_eq_getElem hlt,B5u (B2f H (List.getElem?_eq_getElem hlt)).curve,(B.pts _ (List.getElem_mem hlt)).1⟩
  unfold F0
  rw [if_pos (by omega),List.getElem?_eq_getElem hlt]
end Go.Abs.Roadsz
namespace Go.Abs.Roadsz
open Go Go.Abs
theorem C5r {m:Map}{l:Lane}{j:Nat}{k e:Int}(h:B5v m l j k=some e):e≠0:=by
  unfold B5v at h
  split at h
  ·split at h
   ·cases h;decide
   ·split at h
    ·cases h;decide
    ·cases h
  ·cases h
theorem B9z {m:Map}(B:Bear m)(H:I4 (laneE m.Lanes.length) 0 m.Lanes=none){i:Nat}{l:Lane}(hl:m.Lanes[i]? =some l):
    loop (J4 ⟨m⟩ l (B3p l.Curve_.Pts)) 0=some (D0l (A8s m i l))∧loop (T9 m l) 0=some (D0l (A8s m i l)):=by
  have L:=B2f H hl
  obtain ⟨p1,p2⟩:=B.pts l (List.mem_of_getElem? hl)
  constructor
  ·refine A2s l.Next _ (B5v m l) (fun j k hk=> ?_) ?_
   ·have hj:=A04 hk
    obtain ⟨n,g1,g2,g3,g4⟩:=B7b B H hl hk
    unfold J4 B5v
    dsimp only
    rw [show decide ((j:Int)< (l.Next.length:Int))=true from decide_eq_true (by omega),F3 hk,cond_true,Option.bind_some,g1,Option.bind_some,Option.bind_some,B9x g3,Option.bind_some,wid (n:=(j:Int)+1) (by omega),g2]
    dsimp only
    rw [show ((B6n n.Curve_.Pts).X==(B3p l.Curve_.Pts).X&& ((B6n n.Curve_.Pts).Y==(B3p l.Curve_.Pts).Y&&true))=C5q (B6n n.Curve_.Pts) (B3p l.Curve_.Pts) from rfl]
    by_cases h1:n.Kind≠l.Kind
    ·rw [if_pos h1,show (n.Kind !=l.Kind)=true by simpa using h1];rfl
    ·rw [if_neg h1,show (n.Kind !=l.Kind)=false by simpa using h1]
     cases C5q (B6n n.Curve_.Pts) (B3p l.Curve_.Pts)<;>rfl
   ·unfold J4
    rw [show decide ((l.Next.length:Int)< (l.Next.length:Int))=false from decide_eq_false (by omega)];rfl
  ·refine A2s l.Next _ (B5v m l) (fun j k hk=> ?_) ?_
   ·have hj:=A04 hk
    obtain ⟨n,g1,g2,g3,g4⟩:=B7b B H hl hk
    unfold T9 B5v
    rw [show decide ((j:Int)< (l.Next.length:Int))=true from decide_eq_true (by omega),F3 hk,cond_true,Option.bind_some,g1,Option.bind_some,B9x g3,Option.bind_some,B9y (B5u L.curve) p1,Option.bind_some,wid (n:=(j:Int)+1) (by omega),g2]
    dsimp only
    rw [show ((B6n n.Curve_.Pts).X==(B3p l.Curve_.Pts).X&& ((B6n n.Curve_.Pts).Y==(B3p l.Curve_.Pts).Y&&true))=C5q (B6n n.Curve_.Pts) (B3p l.Curve_.Pts) from rfl]
    by_cases h1:n.Kind≠l.Kind
    ·rw [if_pos h1,show (n.Kind !=l.Kind)=true by simpa using h1];rfl
    ·rw [if_neg h1,show (n.Kind !=l.Kind)=false by simpa using h1]
     cases C5q (B6n n.Curve_.Pts) (B3p l.Curve_.Pts)<;>rfl
   ·unfold T9
    rw [show decide ((l.Next.length:Int)< (l.Next.length:Int))=false from decide_eq_false (by omega)];rfl
end Go.Abs.Roadsz
namespace Go.Abs.Roadsz
open Go Go.Abs
theorem C00 {m:Map}(B:Bear m)(H:I4 (laneE m.Lanes.length) 0 m.Lanes=none):
    N8 ⟨m⟩=some ((I4 (A8s m) 0 m.Lanes).getD 0)∧A1u m=some ((I4 (A8s m) 0 m.Lanes).getD 0):=by
  have hb:=B.lanes
  constructor
  ·have h:=A2s m.Lanes (J5 ⟨m⟩) (A8s m) (fun i l hl=>by
     have hi:=A04 hl
     have L:=B2f H hl
     obtain ⟨p1,p2⟩:=B.pts l (List.mem_of_getElem? hl)
     unfold J5
     dsimp only
     rw [show decide ((i:Int)< (m.Lanes.length:Int))=true from decide_eq_true (by omega),F3 hl,cond_true,Option.bind_some,B9y (B5u L.curve) p1,Option.bind_some,(B9z B H hl).1,wid (n:=(i:Int)+1) (by omega)]
     cases A8s m i l<;>rfl) (by
     unfold J5
     dsimp only
     rw [show decide ((m.Lanes.length:Int)< (m.Lanes.length:Int))=false from decide_eq_false (by omega)];rfl)
   unfold N8
   rw [h]
   cases I4 (A8s m) 0 m.Lanes<;>rfl
  ·have h:=A2s m.Lanes (U0 m) (A8s m) (fun i l hl=>by
     have hi:=A04 hl
     unfold U0
     rw [show decide ((i:Int)< (m.Lanes.length:Int))=true from decide_eq_true (by omega),F3 hl,cond_true,Option.bind_some,(B9z B H hl).2,wid (n:=(i:Int)+1) (by omega)]
     cases A8s m i l<;>rfl) (by
     unfold U0
     rw [show decide ((m.Lanes.length:Int)< (m.Lanes.length:Int))=false from decide_eq_false (by omega)];rfl)
   unfold A1u
   rw [h]
   cases I4 (A8s m) 0 m.Lanes<;>rfl
end Go.Abs.Roadsz
namespace Go.Abs.Roadsz
open Go Go.Abs
/-- The place of the first element with a property. -/
theorem C3p {α:Type}{f:Int→Option (Stp Int (Sum Unit Int))}(l:List α)(P:α→Bool)(hl:l.length≤1000000000)(hf: ∀(i:Nat) a,l[i]? =some a→f (i:Int)=some (if P a then .out (.inr (i:Int))else .go (w64 ((i:Int)+1))))(he:f (l.length:Int)=some (.out (.inl ()))):
    loop f 0=some (match l.findIdx? P with|some i=> .inr (i:Int)|none=> .inl ()):=by
  have key: ∀(r:List α) (i:Nat),l.drop i=r→i≤l.length→loop f (i:Int)=some (match r.findIdx? P with|some j=> .inr ((i+j:Nat):Int)|none=> .inl ()):=by
    intro r
    induction r with
    |nil=>
     intro i hi hil
     have:=R1 hi
     obtain rfl:i=l.length:=by omega
     rw [D8 he];rfl
    |cons a r ih=>
     intro i hi _
     have hlt:=Q7 hi
     have h0:l[i]? =some a:=by have:=congrArg (fun z=>z[0]?) hi;simpa using this
     have hs:=hf i a h0
     rw [List.findIdx?_cons]
     by_cases hp:P a=true
     ·rw [if_pos hp]at hs
      rw [D8 hs,if_pos hp];simp
     ·rw [if_neg hp]at hs
      rw [M6 (by omega)]at hs
      rw [Q8 hs,show ((i:Int)+1)=((i+1:Nat):Int) by omega,ih (i+1) (I9 hi) (by omega),if_neg hp]
      cases r.findIdx? P with
      |none=>rfl
      |some j=>simp only [Option.map_some];congr 3;omega
  have:=key l 0 rfl (by omega)
  rw [show ((0:Nat):Int)=0 from rfl]at this
  rw [this]
  cases l.findIdx? P<;>simp
/-- -1, or the place. -/
def D2r {α:Type}(P:α→Bool)(l:List α):Int:=match l.findIdx? P with|some i=>(i:Int)|none=> -1
theorem B8g {α:Type}(P:α→Bool)(l:List α):decide (D2r P l≥0)=l.any P:=by
  unfold D2r
  cases h:l.findIdx? P with
  |none=>
   have:=List.findIdx?_eq_none_iff.1 h
   rw [show l.any P=false by rw [List.any_eq_false];intro x hx;simpa using this x hx]
   decide
  |some i=>
   have:=List.findIdx?_isSome (xs:=l) (p:=P)
   rw [h]at this
   rw [← this]
   simp
/-- What both twins compute of a list. -/
theorem B8h {α:Type}{f:Int→Option (Stp Int (Sum Unit Int))}(l:List α)(P:α→Bool)(hl:l.length≤1000000000)(hf: ∀(i:Nat) a,l[i]? =some a→f (i:Int)=some (if P a then .out (.inr (i:Int))else .go (w64 ((i:Int)+1))))(he:f (l.length:Int)=some (.out (.inl ()))):
    thenS (loop f 0) (fun _=>some (-1)) (fun r=>some r)=some (D2r P l):=by
  rw [C3p l P hl hf he]
  unfold D2r
  cases l.findIdx? P<;>rfl
end Go.Abs.Roadsz
namespace Go.Abs.Roadsz
open Go Go.Abs
theorem C5s (l:List Phase)(hl:l.length≤1000000):B5 l=some (l.any fun p=> !inR p.Ticks 1 10000):=by
  unfold B5 C3
  rw [B8h l (fun p=> !inR p.Ticks 1 10000) (by omega) (fun i a h=>by
   have:=A04 h
   unfold B4 P5
   rw [show decide ((i:Int)< (l.length:Int))=true from decide_eq_true (by omega),F3 h,cond_true,Option.bind_some,A3x,Option.bind_some,Option.bind_some]
   cases inR a.Ticks 1 10000<;>rfl) (by
   unfold B4
   simp)]
  rw [Option.bind_some,B8g]
theorem C3q (m:Map)(l:List Phase)(hl:l.length≤1000000)(hm:m.Lanes.length≤1000000)(hg: ∀p∈l,p.Green.length≤1000000):B3 l ⟨m⟩=some (l.any fun p=> !A2l m.Lanes.length 0 p.Green):=by
  unfold B3 C2
  rw [B8h l (fun p=> !A2l m.Lanes.length 0 p.Green) (by omega) (fun i a h=>by
   have:=A04 h
   unfold B2 M7
   dsimp only
   rw [show decide ((i:Int)< (l.length:Int))=true from decide_eq_true (by omega),F3 h,cond_true,Option.bind_some,B5t _ _ _ (hg a (List.mem_of_getElem? h)) (by omega) (by omega),Option.bind_some,Option.bind_some]
   cases A2l (m.Lanes.length:Int) 0 a.Green<;>rfl) (by
   unfold B2
   simp)]
  rw [Option.bind_some,B8g]
end Go.Abs.Roadsz
namespace Go.Abs.Roadsz
open Go Go.Abs
structure BearS (m:Map):Prop where
  many:m.Signals.length≤1000000
  phases: ∀s∈m.Signals,s.Phases.length≤1000000∧∀p∈s.Phases,p.Green.length≤1000000
def signalE (m:Map)(_:Nat)(s:Signal):Option Int:=
  if s.Phases.length=0 then some 6
  else if 6<s.Phases.length then some 8
  else if inR s.Offset 0 1099511627776=false then some 2
  else if (s.Phases.any fun p=> !inR p.Ticks 1 10000)=true then some 2
  else if (s.Phases.any fun p=> !A2l m.Lanes.length 0 p.Green)=true then some 11 else none
theorem C3r {m:Map}(B:Bear m)(S:BearS m):M4 ⟨m⟩=some ((I4 (signalE m) 0 m.Signals).getD 0):=by
  have h:=A2s m.Signals (I8 ⟨m⟩) (signalE m) (fun i s hs=>by
    have hi:=A04 hs
    have hb:=S.many
    obtain ⟨p1,p2⟩:=S.phases s (List.mem_of_getElem? hs)
    unfold I8 signalE
    dsimp only
    rw [show decide ((i:Int)< (m.Signals.length:Int))=true from decide_eq_true (by omega),F3 hs,cond_true,Option.bind_some,A3x,Option.bind_some,C5s _ p1,Option.bind_some,C3q m _ p1 B.lanes p2,Option.bind_some,wid (n:=(i:Int)+1) (by omega)]
    by_cases h1:s.Phases.length=0
    ·rw [if_pos h1,h1];rfl
    ·rw [if_neg h1,show ((s.Phases.length:Int)==0)=false by simp only [beq_eq_false_iff_ne];omega,cond_false]
     by_cases h2:6<s.Phases.length
     ·rw [if_pos h2,show decide ((s.Phases.length:Int)>6)=true from decide_eq_true (by omega)];rfl
     ·rw [if_neg h2,show decide ((s.Phases.length:Int)>6)=false from decide_eq_false (by omega),cond_false]
      cases inR s.Offset 0 1099511627776
      ·rfl
      ·cases (s.Phases.any fun p=> !inR p.Ticks 1 10000)
       ·cases (s.Phases.any fun p=> !A2l m.Lanes.length 0 p.Green)<;>rfl
       ·rfl) (by
    unfold I8
    dsimp only
    rw [show decide ((m.Signals.length:Int)< (m.Signals.length:Int))=false from decide_eq_false (by omega)];rfl)
  unfold M4
  rw [h]
  cases I4 (signalE m) 0 m.Signals<;>rfl
end Go.Abs.Roadsz
namespace Go.Abs.Roadsz
open Go Go.Abs
theorem C1c (s:Signal)(hl:s.Phases.length≤1000000): ∀(r:List Phase) (i:Nat) (b:Bool),s.Phases.drop i=r→i≤s.Phases.length→loop (N5 s) (b,(i:Int))=some (b&& !(r.any fun p=> !inR p.Ticks 1 10000)):=by
  intro r
  induction r with
  |nil=>
   intro i b hi hil
   have:=R1 hi
   refine D8 ?_
   unfold N5
   dsimp only
   rw [show decide ((i:Int)< (s.Phases.length:Int))=false from decide_eq_false (by omega)]
   simp
  |cons p r ih=>
   intro i b hi hil
   have hlt:=Q7 hi
   have hs:N5 s (b,(i:Int))=some (.go (b&&inR p.Ticks 1 10000,((i+1:Nat):Int))):=by
     unfold N5
     dsimp only
     rw [show decide ((i:Int)< (s.Phases.length:Int))=true from decide_eq_true (by omega),Y9 hi,wid (n:=(i:Int)+1) (by omega)]
     cases b<;>rfl
   rw [Q8 hs,ih (i+1) _ (I9 hi) (by omega),List.any_cons]
   cases b<;>cases inR p.Ticks 1 10000<;>simp
end Go.Abs.Roadsz
namespace Go.Abs.Roadsz
open Go Go.Abs
theorem C01 (m:Map)(s:Signal)(hl:s.Phases.length≤1000000)(hg: ∀p∈s.Phases,p.Green.length≤1000000):loop (N4 m s) 0=some (if (s.Phases.any fun p=> !A2l m.Lanes.length 0 p.Green)=true then .inr 11 else .inl ()):=by
  have h:=A2s s.Phases (N4 m s) (fun _ p=>if A2l m.Lanes.length 0 p.Green then none else some 11) (fun i p hp=>by
    have:=A04 hp
    unfold N4
    rw [show decide ((i:Int)< (s.Phases.length:Int))=true from decide_eq_true (by omega),F3 hp,cond_true,Option.bind_some,B35 _ _ _ (hg p (List.mem_of_getElem? hp)),Option.bind_some,wid (n:=(i:Int)+1) (by omega)]
    cases A2l (m.Lanes.length:Int) 0 p.Green<;>rfl) (by
    unfold N4
    rw [show decide ((s.Phases.length:Int)< (s.Phases.length:Int))=false from decide_eq_false (by omega)];rfl)
  rw [h]
  have key: ∀(l:List Phase) (i:Nat),D0l (I4 (fun (_:Nat) (p:Phase)=>if A2l (m.Lanes.length:Int) 0 p.Green=true then none else some (11:Int)) i l)=if (l.any fun p=> !A2l m.Lanes.length 0 p.Green)=true then .inr 11 else .inl ():=by
    intro l
    induction l with
    |nil=>intro i;rfl
    |cons p r ih=>
     intro i
     unfold I4
     rw [List.any_cons]
     cases hq:A2l (m.Lanes.length:Int) 0 p.Green
     ·rfl
     ·exact ih (i+1)
  rw [key]
end Go.Abs.Roadsz
/-! Loops over lists, as functions on lists. -/
namespace Go.Abs
open Go
section
variable {α β σ S τ:Type}
/-- What a loop over a list makes, with a state, and with a way out. -/
def C1d (step:Nat→σ→α→Sum σ τ)(fin:σ→τ):Nat→σ→List α→τ
  |_,s,[]=>fin s
  |i,s,a::r=>match step i s a with
   | .inl s'=>C1d step fin (i+1) s' r
   | .inr t=>t
theorem A3y {l:List α}{i:Nat}{a:α}{r:List α}(h:l.drop i=a::r):l[i]? =some a:=by
  have:=congrArg (fun z=>z[0]?) h
  simpa using this
theorem D2a {F:S→Option (Stp S τ)}(pk:Nat→σ→S)(l:List α)(inv:Nat→σ→Prop)(step:Nat→σ→α→Sum σ τ)(fin:σ→τ){s0:σ}{S0:S}(hS:pk 0 s0=S0)(hi:inv 0 s0)
    (hF: ∀i a s,l[i]? =some a→inv i s→F (pk i s)=some (match step i s a with| .inl s'=> .go (pk (i+1) s')| .inr t=> .out t))
    (hI: ∀i a s s',l[i]? =some a→inv i s→step i s a= .inl s'→inv (i+1) s')
    (h0: ∀s,inv l.length s→F (pk l.length s)=some (.out (fin s))):loop F S0=some (C1d step fin 0 s0 l):=by
  have key: ∀(r:List α) (i:Nat) (s:σ),l.drop i=r→i≤l.length→inv i s→loop F (pk i s)=some (C1d step fin i s r):=by
    intro r
    induction r with
    |nil=>
     intro i s hi hil hv
     have:=R1 hi
     obtain rfl:i=l.length:=by omega
     exact D8 (h0 s hv)
    |cons a r ih=>
     intro i s hi hil hv
     have hlt:=Q7 hi
     have ha:=A3y hi
     have hs:=hF i a s ha hv
     unfold C1d
     cases h:step i s a with
     |inl s'=>rw [h]at hs;rw [Q8 hs];exact ih (i+1) s' (I9 hi) (by omega) (hI i a s s' ha hv h)
     |inr t=>rw [h]at hs;exact D8 hs
  rw [← hS]
  exact key l 0 s0 rfl (by omega) hi
/-- The same without a way out. -/
def C02 (step:Nat→σ→α→σ):Nat→σ→List α→σ
  |_,s,[]=>s
  |i,s,a::r=>C02 step (i+1) (step i s a) r
theorem B5w (step:Nat→σ→α→σ)(fin:σ→τ): ∀(l:List α) (i:Nat) (s:σ),C1d (fun i s a=> .inl (step i s a)) fin i s l=fin (C02 step i s l)
  | [],_,_=>rfl
  |_::r,i,_=>B5w step fin r (i+1) _
theorem D2b {F:S→Option (Stp S τ)}(pk:Nat→σ→S)(l:List α)(inv:Nat→σ→Prop)(step:Nat→σ→α→σ)(fin:σ→τ){s0:σ}{S0:S}(hS:pk 0 s0=S0)(hi:inv 0 s0)
    (hF: ∀i a s,l[i]? =some a→inv i s→F (pk i s)=some (.go (pk (i+1) (step i s a))))
    (hI: ∀i a s,l[i]? =some a→inv i s→inv (i+1) (step i s a))
    (h0: ∀s,inv l.length s→F (pk l.length s)=some (.out (fin s))):loop F S0=some (fin (C02 step 0 s0 l)):=by
  rw [← B5w step fin]
  exact D2a pk l inv _ fin hS hi hF (fun i a s s' h1 h2 h3=>by cases h3;exact hI i a s h1 h2) h0
/-- The elements that a loop gathers. -/
def C03 (g:Nat→α→Option β):Nat→List α→List β
  |_,[]=> []
  |i,a::r=>match g i a with
   |some b=>b::C03 g (i+1) r
   |none=>C03 g (i+1) r
theorem B7c (g:Nat→α→Option β): ∀(l:List α) (i:Nat) (s:List β),C02 (fun i s a=>match g i a with|some b=>s++ [b]|none=>s) i s l=s++C03 g i l
  | [],_,s=>by simp [C02,C03]
  |a::r,i,s=>by
   unfold C02 C03
   rw [B7c g r (i+1)]
   cases g i a<;>simp
theorem D39 {F:S→Option (Stp S τ)}(pk:Nat→List β→S)(l:List α)(g:Nat→α→Option β)(fin:List β→τ){S0:S}(hS:pk 0 []=S0)
    (hF: ∀i a (s:List β),l[i]? =some a→s.length≤i→F (pk i s)=some (.go (pk (i+1) (match g i a with|some b=>s++ [b]|none=>s))))
    (h0: ∀s,F (pk l.length s)=some (.out (fin s))):loop F S0=some (fin (C03 g 0 l)):=by
  have:=D2b pk l (fun i s=>s.length≤i) (fun i s a=>match g i a with|some b=>s++ [b]|none=>s) fin hS (by simp) hF (fun i a s _ hs=>by
    cases g i a<;>simp<;>omega) (fun s _=>h0 s)
  rw [this,B7c,List.nil_append]
theorem C8w {F:σ×Int→Option (Stp (σ×Int) τ)}(l:List α)(step:Nat→σ→α→σ)(fin:σ→τ)(s0:σ)
    (hF: ∀(i:Nat) a s,l[i]? =some a→F (s,(i:Int))=some (.go (step i s a,((i+1:Nat):Int))))
    (h0: ∀s,F (s,(l.length:Int))=some (.out (fin s))):loop F (s0,0)=some (fin (C02 step 0 s0 l)):=
  D2b (fun i s=>(s,(i:Int))) l (fun _ _=>True) step fin rfl trivial (fun i a s h _=>hF i a s h) (fun _ _ _ _ _=>trivial) (fun s _=>h0 s)
/-- Is there one? -/
theorem C04 {F:Int→Option (Stp Int (Sum Unit β))}(l:List α)(p:α→Bool)(v:β)(hF: ∀(i:Nat) a,l[i]? =some a→F (i:Int)=some (if p a then .out (.inr v)else .go ((i+1:Nat):Int)))(h0:F (l.length:Int)=some (.out (.inl ()))):
    loop F 0=some (if l.any p then .inr v else .inl ()):=by
  have key: ∀(l:List α) (i:Nat),C1d (fun _ _ a=>if p a then Sum.inr (Sum.inr v)else Sum.inl ()) (fun _=>(Sum.inl ():Sum Unit β)) i () l=if l.any p then .inr v else .inl ():=by
    intro l
    induction l with
    |nil=>intro i;rfl
    |cons a r ih=>
     intro i
     unfold C1d
     rw [List.any_cons]
     cases h:p a
     ·exact ih (i+1)
     ·rfl
  rw [← key l 0]
  exact D2a (F:=F) (σ:=Unit) (fun i _=>(i:Int)) l (fun _ _=>True) _ _ (s0:=()) rfl trivial (fun i a _ h _=>by rw [hF i a h];cases p a<;>rfl) (fun _ _ _ _ _ _ _=>trivial) (fun _ _=>h0)
end
theorem X9 {i:Nat}{n:Nat}(h:i<n):decide ((i:Int)< (n:Int))=true:=decide_eq_true (by omega)
theorem T4 (n:Nat):decide ((n:Int)< (n:Int))=false:=decide_eq_false (by omega)
theorem P0 {i:Nat}{n:Nat}(h:i<n)(hn:n≤1000000000000):w64 ((i:Int)+1)=((i+1:Nat):Int):=by rw [M6 (by omega)];omega
end Go.Abs
namespace Go.Abs.Roadsz
open Go Go.Abs
structure BearZ (m:Map):Prop where
  many:m.Zones.length≤1000000
  parts: ∀z∈m.Zones,z.Parts.length≤1000000
noncomputable def Y6 (m:Map)(k:Int):Int:=((m.Lanes[k.toNat]?).map fun l=>D29 l.Curve_).getD 0
noncomputable def A9m (m:Map)(p:Part):Bool:=decide (p.From<0)||decide (p.From≥p.To)||decide (p.To>Y6 m p.Lane_)||decide (p.Rank<0)||decide (p.Rank>100)
noncomputable def zoneE (m:Map)(_:Nat)(z:Zone):Option Int:=
  if z.Parts.length<2 then some 6
  else if 6<z.Parts.length then some 8
  else if z.Signal_<0∨(m.Signals.length:Int)<z.Signal_ then some 2
  else if A2l m.Lanes.length 0 (z.Parts.map (·.Lane_))=false then some 11
  else if z.Parts.any (A9m m)=true then some 2 else none
theorem B18 {m:Map}{k:Int}(h0:0≤k)(h1:k<m.Lanes.length): ∃l,m.Lanes[k.toNat]? =some l∧F0 m.Lanes k=some l:=by
  have hlt:k.toNat<m.Lanes.length:=by omega
  refine ⟨m.Lanes[k.toNat],List.getElem?_eq_getElem hlt,?_⟩
  unfold F0
  rw [if_pos h0,List.getElem?_eq_getElem hlt]
theorem C1e {m:Map}(B:Bear m){k:Int}(h0:0≤k)(h1:k<m.Lanes.length):W5 m k=some (Y6 m k):=by
  obtain ⟨l,e1,e2⟩:=B18 h0 h1
  have:=D0m (m:=m) e1 (B.pts l (List.mem_of_getElem? e1)).1
  rw [show ((k.toNat:Nat):Int)=k by omega]at this
  rw [this,Y6,e1];rfl
theorem B8i {m:Map}(B:Bear m){k:Int}(h0:0≤k)(h1:k<m.Lanes.length): ∃l,F0 m.Lanes k=some l∧A0m l.Curve_=some (Y6 m k):=by
  obtain ⟨l,e1,e2⟩:=B18 h0 h1
  refine ⟨l,e2,?_⟩
  rw [B5s _ (B.pts l (List.mem_of_getElem? e1)).1,Y6,e1];rfl
theorem C2f {α β:Type}(f:α→β): ∀(l:List α) (i:Nat),C03 (fun _ a=>some (f a)) i l=l.map f
  | [],_=>rfl
  |a::r,i=>by rw [C03,C2f f r];rfl
theorem C8x {z:Zone}{F:List Int×Int→Option (Stp (List Int×Int) (List Int))}(hl:z.Parts.length≤1000000)
    (hF: ∀x,F x=cond (decide (x.2< (z.Parts.length:Int))) ((F0 z.Parts x.2).bind fun v=>(A7b x.1 [v.Lane_]).bind fun w=>some (.go (w,w64 (x.2+1)))) (some (.out x.1))):
    loop F ([],0)=some (z.Parts.map (·.Lane_)):=by
  rw [← C2f (fun p:Part=>p.Lane_) z.Parts 0]
  refine D39 (fun i s=>(s,(i:Int))) z.Parts (fun _ p=>some p.Lane_) id rfl (fun i a s ha hs=> ?_) (fun s=> ?_)
  ·have hi:=A04 ha
   rw [hF,X9 hi,F3 ha,cond_true,Option.bind_some,B0z (by simp;omega),Option.bind_some,P0 hi (by omega)]
  ·rw [hF,T4];rfl
theorem C7x {m:Map}(B:Bear m)(Z:BearZ m):P6 ⟨m⟩=some ((I4 (zoneE m) 0 m.Zones).getD 0):=by
  have hb:=B.lanes
  have h:=A2s m.Zones (K6 ⟨m⟩) (zoneE m) (fun i z hz=>by
    have hi:=A04 hz
    have hm:=Z.many
    have p1:=Z.parts z (List.mem_of_getElem? hz)
    unfold K6 zoneE
    dsimp only
    rw [X9 hi,F3 hz,cond_true,Option.bind_some,C8x p1 (F:=Q5 z) (fun x=>rfl),Option.bind_some,B5t _ _ _ (by simpa using p1) (by omega) (by omega),Option.bind_some,P0 hi (by omega)]
    by_cases h1:z.Parts.length<2
    ·rw [if_pos h1,show decide ((z.Parts.length:Int)<2)=true from decide_eq_true (by omega)];rfl
    ·rw [if_neg h1,show decide ((z.Parts.length:Int)<2)=false from decide_eq_false (by omega),cond_false]
     by_cases h2:6<z.Parts.length
     ·rw [if_pos h2,show decide ((z.Parts.length:Int)>6)=true from decide_eq_true (by omega)];rfl
     ·rw [if_neg h2,show decide ((z.Parts.length:Int)>6)=false from decide_eq_false (by omega),cond_false]
      by_cases h3:z.Signal_<0∨(m.Signals.length:Int)<z.Signal_
      ·rw [if_pos h3,show ((decide (z.Signal_<0))||(decide (z.Signal_>(m.Signals.length:Int))))=true by simpa using h3];rfl
      ·rw [if_neg h3,show ((decide (z.Signal_<0))||(decide (z.Signal_>(m.Signals.length:Int))))=false by rw [Bool.eq_false_iff];simpa using h3,cond_false]
       cases h4:A2l (m.Lanes.length:Int) 0 (z.Parts.map (·.Lane_))
       ·rfl
       ·rw [if_neg (by decide)]
        have:=C04 (F:=K5 ⟨m⟩ z) z.Parts (A9m m) (2:Int) (fun j p hp=>by
          have hj:=A04 hp
          have hk:=A6g h4 p.Lane_ (List.mem_map.2 ⟨p,List.mem_of_getElem? hp,rfl⟩)
          unfold K5 A9m
          dsimp only
          rw [X9 hj,F3 hp,cond_true,Option.bind_some,C1e B hk.1 hk.2,P0 hj (by omega)]
          cases h5:(decide (p.From<0)||decide (p.From≥p.To))
          ·simp only [Bool.not_false,cond_true,Option.bind_some]
           cases (false||decide (p.To>Y6 m p.Lane_)||decide (p.Rank<0)||decide (p.Rank>100))<;>rfl
          ·rfl) (by unfold K5;rw [T4];rfl)
        rw [this]
        cases z.Parts.any (A9m m)<;>rfl) (by
    unfold K6
    dsimp only
    rw [T4];rfl)
  unfold P6
  rw [h]
  cases I4 (zoneE m) 0 m.Zones<;>rfl
theorem C7y {m:Map}(B:Bear m)(Z:BearZ m){i:Nat}{z:Zone}(hz:m.Zones[i]? =some z):A1v m z=some ((zoneE m i z).getD 0):=by
  have hb:=B.lanes
  have p1:=Z.parts z (List.mem_of_getElem? hz)
  unfold A1v zoneE
  rw [C8x p1 (F:=A1d z) (fun x=>rfl),Option.bind_some,B35 _ _ _ (by simpa using p1),Option.bind_some]
  by_cases h1:z.Parts.length<2
  ·rw [if_pos h1,show decide ((z.Parts.length:Int)<2)=true from decide_eq_true (by omega)];rfl
  ·rw [if_neg h1,show decide ((z.Parts.length:Int)<2)=false from decide_eq_false (by omega),cond_false]
   by_cases h2:6<z.Parts.length
   ·rw [if_pos h2,show decide ((z.Parts.length:Int)>6)=true from decide_eq_true (by omega)];rfl
   ·rw [if_neg h2,show decide ((z.Parts.length:Int)>6)=false from decide_eq_false (by omega),cond_false]
    by_cases h3:z.Signal_<0∨(m.Signals.length:Int)<z.Signal_
    ·rw [if_pos h3,show ((decide (z.Signal_<0))||(decide (z.Signal_>(m.Signals.length:Int))))=true by simpa using h3];rfl
    ·rw [if_neg h3,show ((decide (z.Signal_<0))||(decide (z.Signal_>(m.Signals.length:Int))))=false by rw [Bool.eq_false_iff];simpa using h3,cond_false]
     cases h4:A2l (m.Lanes.length:Int) 0 (z.Parts.map (·.Lane_))
     ·rfl
     ·rw [if_neg (by decide)]
      have:=C04 (F:=U1 m z) z.Parts (A9m m) (2:Int) (fun j p hp=>by
        have hj:=A04 hp
        have hk:=A6g h4 p.Lane_ (List.mem_map.2 ⟨p,List.mem_of_getElem? hp,rfl⟩)
        obtain ⟨l,e1,e2⟩:=B8i B hk.1 hk.2
        unfold U1 A9m
        rw [X9 hj,F3 hp,cond_true,Option.bind_some,e1,P0 hj (by omega)]
        cases h5:(decide (p.From<0)||decide (p.From≥p.To))
        ·simp only [Bool.not_false,cond_true,Option.bind_some,e2]
         cases (false||decide (p.To>Y6 m p.Lane_)||decide (p.Rank<0)||decide (p.Rank>100))<;>rfl
        ·rfl) (by unfold U1;rw [T4];rfl)
      rw [this]
      cases z.Parts.any (A9m m)<;>rfl
end Go.Abs.Roadsz
namespace Go.Abs.Roadsz
open Go Go.Abs
structure BearW (m:Map):Prop where
  many:m.Works.length≤1000000
noncomputable def workE (m:Map)(_:Nat)(w:Work):Option Int:=
  if w.Lane_<0∨(m.Lanes.length:Int)≤w.Lane_ then some 7
  else if (decide (w.From<0)||decide (w.From>w.To)||decide (w.To>Y6 m w.Lane_)||decide (w.Begin<0)||decide (w.Begin≥w.End)||decide (w.End>1099511627776)|| !inR w.Limit 0 ((m.Lanes[w.Lane_.toNat]?).map fun l=>(B8d l.Kind).1).get!)=true then some 2 else none
theorem C7z {m:Map}(B:Bear m)(W:BearW m):P7 ⟨m⟩=some ((I4 (workE m) 0 m.Works).getD 0):=by
  have hb:=B.lanes
  have h:=A2s m.Works (K7 ⟨m⟩) (workE m) (fun i w hw=>by
    have hi:=A04 hw
    have hm:=W.many
    unfold K7 workE
    dsimp only
    rw [X9 hi,F3 hw,cond_true,Option.bind_some,P0 hi (by omega)]
    by_cases h1:w.Lane_<0∨(m.Lanes.length:Int)≤w.Lane_
    ·rw [if_pos h1,show ((decide (w.Lane_<0))||(decide (w.Lane_≥(m.Lanes.length:Int))))=true by simpa using h1];rfl
    ·rw [if_neg h1,show ((decide (w.Lane_<0))||(decide (w.Lane_≥(m.Lanes.length:Int))))=false by rw [Bool.eq_false_iff];simpa using h1,cond_false]
     obtain ⟨l,e1,e2⟩:=B18 (m:=m) (k:=w.Lane_) (by omega) (by omega)
     rw [e2,Option.bind_some,B9w,Option.bind_some,C1e B (by omega) (by omega),A3x,e1]
     simp only [Option.map_some,Option.get!_some]
     cases (decide (w.From<0)||decide (w.From>w.To))
     ·simp only [Bool.not_false,cond_true,Option.bind_some]
      cases (false||decide (w.To>Y6 m w.Lane_)||decide (w.Begin<0)||decide (w.Begin≥w.End)||decide (w.End>1099511627776))
      ·simp only [Bool.not_false,cond_true,Option.bind_some]
       by_cases hq:inR w.Limit 0 (B8d l.Kind).1=true<;>simp [hq]
      ·rfl
     ·rfl) (by
    unfold K7
    dsimp only
    rw [T4];rfl)
  unfold P7
  rw [h]
  cases I4 (workE m) 0 m.Works<;>rfl
theorem C80 {m:Map}(B:Bear m){i:Nat}(w:Work):A1w m w=some ((workE m i w).getD 0):=by
  have hb:=B.lanes
  unfold A1w workE
  by_cases h1:w.Lane_<0∨(m.Lanes.length:Int)≤w.Lane_
  ·rw [if_pos h1,show ((decide (w.Lane_<0))||(decide (w.Lane_≥(m.Lanes.length:Int))))=true by simpa using h1];rfl
  ·rw [if_neg h1,show ((decide (w.Lane_<0))||(decide (w.Lane_≥(m.Lanes.length:Int))))=false by rw [Bool.eq_false_iff];simpa using h1,cond_false]
   obtain ⟨l,e1,e2⟩:=B18 (m:=m) (k:=w.Lane_) (by omega) (by omega)
   obtain ⟨l',e3,e4⟩:=B8i B (k:=w.Lane_) (by omega) (by omega)
   rw [e2]at e3
   cases e3
   rw [e2,Option.bind_some,B7a,Option.bind_some,e4,A7j,e1]
   simp only [Option.map_some,Option.get!_some]
   cases (decide (w.From<0)||decide (w.From>w.To))
   ·simp only [Bool.not_false,cond_true,Option.bind_some]
    cases (false||decide (w.To>Y6 m w.Lane_)||decide (w.Begin<0)||decide (w.Begin≥w.End)||decide (w.End>1099511627776))
    ·simp only [Bool.not_false,cond_true,Option.bind_some]
     by_cases hq:inR w.Limit 0 (B8d l.Kind).1=true<;>simp [hq]
    ·rfl
   ·rfl
theorem C3s {m:Map}(S:BearS m)(i:Nat){s:Signal}(hs:s∈m.Signals):A0e m s=some ((signalE m i s).getD 0):=by
  obtain ⟨p1,p2⟩:=S.phases s hs
  unfold A0e signalE
  rw [A7j,Option.bind_some,show (0:Int)=((0:Nat):Int) from rfl,C1c s p1 s.Phases 0 _ rfl (by omega),Option.bind_some]
  rw [show ((0:Nat):Int)=0 from rfl,C01 m s p1 p2]
  by_cases h1:s.Phases.length=0
  ·rw [if_pos h1,h1];rfl
  ·rw [if_neg h1,show ((s.Phases.length:Int)==0)=false by simp only [beq_eq_false_iff_ne];omega,cond_false]
   by_cases h2:6<s.Phases.length
   ·rw [if_pos h2,show decide ((s.Phases.length:Int)>6)=true from decide_eq_true (by omega)];rfl
   ·rw [if_neg h2,show decide ((s.Phases.length:Int)>6)=false from decide_eq_false (by omega),cond_false]
    cases inR s.Offset 0 1099511627776
    ·rfl
    ·cases (s.Phases.any fun p=> !inR p.Ticks 1 10000)
     ·cases (s.Phases.any fun p=> !A2l m.Lanes.length 0 p.Green)<;>rfl
     ·rfl
end Go.Abs.Roadsz
namespace Go.Abs.Roadsz
open Go Go.Abs
/-- All lists of a map are of bearable lengths. -/
structure BearM (m:Map):Prop where
  toBear:Bear m
  toBearS:BearS m
  toBearZ:BearZ m
  toBearW:BearW m
theorem BearM.lanes {m:Map}(B:BearM m):m.Lanes.length≤1000000:=B.toBear.lanes
noncomputable def D0n (m:Map):Int:=
  if inR m.Version 0 1099511627776=false then 2
  else if m.Lanes.length=0 then 6
  else if 12<m.Lanes.length∨12<m.Zones.length∨4<m.Signals.length∨8<m.Works.length then 8
  else ((I4 (laneE m.Lanes.length) 0 m.Lanes).or ((I4 (A8s m) 0 m.Lanes).or ((I4 (signalE m) 0 m.Signals).or ((I4 (zoneE m) 0 m.Zones).or (I4 (workE m) 0 m.Works))))).getD 0
theorem X1 {α:Type}{g:Nat→α→Option Int}(h: ∀i a e,g i a=some e→e≠0): ∀{l:List α} {i:Nat} {e:Int},I4 g i l=some e→e≠0
  | [],_,_,q=>by cases q
  |a::r,i,e,q=>by
   unfold I4 at q
   cases hg:g i a with
   |some e'=>rw [hg]at q;cases q;exact h i a e hg
   |none=>rw [hg]at q;exact X1 h q
theorem B46 {m:Map}{i:Nat}{z:Zone}{e:Int}(h:zoneE m i z=some e):e≠0:=by
  unfold zoneE at h
  repeat' split at h
  all_goals first|(cases h;decide)|cases h
theorem A9x {m:Map}{i:Nat}{z:Signal}{e:Int}(h:signalE m i z=some e):e≠0:=by
  unfold signalE at h
  repeat' split at h
  all_goals first|(cases h;decide)|cases h
theorem B8j {m:Map}{i:Nat}{z:Work}{e:Int}(h:workE m i z=some e):e≠0:=by
  unfold workE at h
  repeat' split at h
  all_goals first|(cases h;decide)|cases h
theorem B8k {m:Map}{i:Nat}{z:Lane}{e:Int}(h:A8s m i z=some e):e≠0:=X1 (fun _ _ _=>C5r) h
/-- A loop that goes on as long as there is no error. -/
theorem D0o {α:Type}{F:Int×Int→Option (Stp (Int×Int) Int)}(l:List α)(g:Nat→α→Option Int)(hg: ∀i a e,g i a=some e→e≠0)(hl:l.length≤1000000)
    (hF: ∀(i:Nat) a,l[i]? =some a→F (0,(i:Int))=some (.go ((g i a).getD 0,((i+1:Nat):Int)))) (h0: ∀(i:Nat) (e:Int),e≠0→F (e,(i:Int))=some (.out e)) (h1:F (0,(l.length:Int))=some (.out 0)) (e0:Option Int) (he: ∀e,e0=some e→e≠0):
    loop F (e0.getD 0,0)=some ((e0.or (I4 g 0 l)).getD 0):=by
  have key: ∀(r:List α) (i:Nat),l.drop i=r→i≤l.length→loop F (0,(i:Int))=some ((I4 g i r).getD 0):=by
    intro r
    induction r with
    |nil=>
     intro i hi hil
     have:=R1 hi
     obtain rfl:i=l.length:=by omega
     exact D8 h1
    |cons a r ih=>
     intro i hi hil
     have hlt:=Q7 hi
     have hs:=hF i a (A3y hi)
     rw [Q8 hs]
     unfold I4
     cases h:g i a with
     |some e=>exact D8 (h0 (i+1) e (hg i a e h))
     |none=>exact ih (i+1) (I9 hi) (by omega)
  cases e0 with
  |some e=>exact D8 (h0 0 e (he e rfl))
  |none=>exact key l 0 rfl (by omega)
theorem B6o {m:Map}(B:BearM m):A62 m=some (D0n m):=by
  have hb:=B.lanes
  unfold A62 D0n
  rw [A7j,Option.bind_some]
  cases inR m.Version 0 1099511627776
  ·rfl
  ·simp only [Bool.not_true,cond_false,Bool.true_eq_false,if_false]
   by_cases h1:m.Lanes.length=0
   ·rw [if_pos h1,h1];rfl
   ·rw [if_neg h1,show ((m.Lanes.length:Int)==0)=false by simp only [beq_eq_false_iff_ne];omega,cond_false]
    by_cases h2:12<m.Lanes.length∨12<m.Zones.length∨4<m.Signals.length∨8<m.Works.length
    ·rw [if_pos h2,show ((((decide ((m.Lanes.length:Int)>12))||(decide ((m.Zones.length:Int)>12)))||(decide ((m.Signals.length:Int)>4)))||(decide ((m.Works.length:Int)>8)))=true by simp;omega];rfl
    ·rw [if_neg h2,show ((((decide ((m.Lanes.length:Int)>12))||(decide ((m.Zones.length:Int)>12)))||(decide ((m.Signals.length:Int)>4)))||(decide ((m.Works.length:Int)>8)))=false by simp;omega,cond_false]
     rw [C1b B.toBear]
     cases H:I4 (laneE m.Lanes.length) 0 m.Lanes with
     |some e=>rfl
     |none=>
      have n1: ∀e,I4 (A8s m) 0 m.Lanes=some e→e≠0:=fun e h=>X1 (fun _ _ _=>B8k) h
      have n2: ∀e,(I4 (A8s m) 0 m.Lanes).or (I4 (signalE m) 0 m.Signals)=some e→e≠0:=fun e h=>by
        rcases Option.or_eq_some_iff.1 h with h|⟨_,h⟩
        ·exact n1 e h
        ·exact X1 (fun _ _ _=>A9x) h
      have n3: ∀e,((I4 (A8s m) 0 m.Lanes).or (I4 (signalE m) 0 m.Signals)).or (I4 (zoneE m) 0 m.Zones)=some e→e≠0:=fun e h=>by
        rcases Option.or_eq_some_iff.1 h with h|⟨_,h⟩
        ·exact n2 e h
        ·exact X1 (fun _ _ _=>B46) h
      simp only [D0l,thenS,Option.none_or]
      rw [(C00 B.toBear H).2,Option.bind_some]
      rw [D0o m.Signals (signalE m) (fun _ _ _=>A9x) B.toBearS.many (fun i a ha=>by
       have hi:=A04 ha
       have hm:=B.toBearS.many
       unfold A17
       dsimp only
       rw [X9 hi,F3 ha,Bool.true_and,show ((0:Int)==0)=true from rfl,cond_true,Option.bind_some,C3s B.toBearS i (List.mem_of_getElem? ha),P0 hi (by omega)];rfl) (fun i e he=>by
       unfold A17
       dsimp only
       rw [show (e==0)=false by simpa using he,Bool.and_false];rfl) (by unfold A17;dsimp only;rw [T4];rfl) _ n1,Option.bind_some]
      rw [D0o m.Zones (zoneE m) (fun _ _ _=>B46) B.toBearZ.many (fun i a ha=>by
       have hi:=A04 ha
       have hm:=B.toBearZ.many
       unfold A16
       dsimp only
       rw [X9 hi,F3 ha,Bool.true_and,show ((0:Int)==0)=true from rfl,cond_true,Option.bind_some,C7y B.toBear B.toBearZ ha,P0 hi (by omega)];rfl) (fun i e he=>by
       unfold A16
       dsimp only
       rw [show (e==0)=false by simpa using he,Bool.and_false];rfl) (by unfold A16;dsimp only;rw [T4];rfl) _ n2,Option.bind_some]
      rw [D0o m.Works (workE m) (fun _ _ _=>B8j) B.toBearW.many (fun i a ha=>by
       have hi:=A04 ha
       have hm:=B.toBearW.many
       unfold A15
       dsimp only
       rw [X9 hi,F3 ha,Bool.true_and,show ((0:Int)==0)=true from rfl,cond_true,Option.bind_some,C80 B.toBear (i:=i) a,P0 hi (by omega)];rfl) (fun i e he=>by
       unfold A15
       dsimp only
       rw [show (e==0)=false by simpa using he,Bool.and_false];rfl) (by unfold A15;dsimp only;rw [T4];rfl) _ n3,Option.bind_some]
      rw [Option.or_assoc,Option.or_assoc]
theorem B6p {m:Map}(B:BearM m):Z7 m=some (D0n m):=by
  have hb:=B.lanes
  have s0:H9 m 0=(M3 ⟨m⟩).bind fun v2=>cond (v2 !=0) (some (.out (.inr v2))) (some (.go 1)):=rfl
  have s1:H9 m 1=(P4 ⟨m⟩).bind fun v2=>cond (v2 !=0) (some (.out (.inr v2))) (some (.go 2)):=rfl
  have s2:H9 m 2=(N8 ⟨m⟩).bind fun v2=>cond (v2 !=0) (some (.out (.inr v2))) (some (.go 3)):=rfl
  have s3:H9 m 3=(M4 ⟨m⟩).bind fun v2=>cond (v2 !=0) (some (.out (.inr v2))) (some (.go 4)):=rfl
  have s4:H9 m 4=(P6 ⟨m⟩).bind fun v2=>cond (v2 !=0) (some (.out (.inr v2))) (some (.go 5)):=rfl
  have s5:H9 m 5=(P7 ⟨m⟩).bind fun v2=>cond (v2 !=0) (some (.out (.inr v2))) (some (.go 6)):=rfl
  have s6:H9 m 6=some (.out (.inl ())):=rfl
  have stp: ∀(i j:Int) (e:Option Int) (X:Option Int),(∀e',e=some e'→e'≠0)→X=some (e.getD 0)→H9 m i=X.bind (fun v2=>cond (v2 !=0) (some (.out (.inr v2))) (some (.go j)))→loop (H9 m) i=match e with|some e'=>some (.inr e')|none=>loop (H9 m) j:=by
    intro i j e X he hX hs
    subst hX
    rw [Option.bind_some]at hs
    cases e with
    |none=>exact Q8 hs
    |some e'=>
     rw [Option.getD_some,show (e' !=0)=true by simpa using he e' rfl]at hs
     exact D8 hs
  unfold Z7 D0n
  have hnum:M3 ⟨m⟩=some ((if inR m.Version 0 1099511627776=false then some 2 else if m.Lanes.length=0 then some 6 else if 12<m.Lanes.length∨12<m.Zones.length∨4<m.Signals.length∨8<m.Works.length then some 8 else none:Option Int).getD 0):=by
    unfold M3
    dsimp only
    rw [A3x,Option.bind_some]
    cases inR m.Version 0 1099511627776
    ·rfl
    ·simp only [Bool.not_true,cond_false,Bool.true_eq_false,if_false]
     by_cases h1:m.Lanes.length=0
     ·rw [if_pos h1,h1];rfl
     ·rw [if_neg h1,show ((m.Lanes.length:Int)==0)=false by simp only [beq_eq_false_iff_ne];omega,cond_false]
      by_cases h2:12<m.Lanes.length∨12<m.Zones.length∨4<m.Signals.length∨8<m.Works.length
      ·rw [if_pos h2,show ((((decide ((m.Lanes.length:Int)>12))||(decide ((m.Zones.length:Int)>12)))||(decide ((m.Signals.length:Int)>4)))||(decide ((m.Works.length:Int)>8)))=true by simp;omega];rfl
      ·rw [if_neg h2,show ((((decide ((m.Lanes.length:Int)>12))||(decide ((m.Zones.length:Int)>12)))||(decide ((m.Signals.length:Int)>4)))||(decide ((m.Works.length:Int)>8)))=false by simp;omega];rfl
  rw [stp 0 1 _ _ (by repeat' split
                      all_goals (intro e' h;first|(cases h;decide)|cases h)) hnum s0]
  by_cases q1:inR m.Version 0 1099511627776=false
  ·rw [if_pos q1,if_pos q1];rfl
  ·rw [if_neg q1,if_neg q1]
   by_cases q2:m.Lanes.length=0
   ·rw [if_pos q2,if_pos q2];rfl
   ·rw [if_neg q2,if_neg q2]
    by_cases q3:12<m.Lanes.length∨12<m.Zones.length∨4<m.Signals.length∨8<m.Works.length
    ·rw [if_pos q3,if_pos q3];rfl
    ·rw [if_neg q3,if_neg q3]
     dsimp only
     rw [stp 1 2 _ _ (fun e' h=>X1 (fun _ _ _=>B8f) h) (C7u B.toBear) s1]
     cases H:I4 (laneE m.Lanes.length) 0 m.Lanes with
     |some e=>rfl
     |none=>
      dsimp only
      rw [stp 2 3 _ _ (fun e' h=>X1 (fun _ _ _=>B8k) h) (C00 B.toBear H).1 s2]
      cases I4 (A8s m) 0 m.Lanes with
      |some e=>rfl
      |none=>
       dsimp only
       rw [stp 3 4 _ _ (fun e' h=>X1 (fun _ _ _=>A9x) h) (C3r B.toBear B.toBearS) s3]
       cases I4 (signalE m) 0 m.Signals with
       |some e=>rfl
       |none=>
        dsimp only
        rw [stp 4 5 _ _ (fun e' h=>X1 (fun _ _ _=>B46) h) (C7x B.toBear B.toBearZ) s4]
        cases I4 (zoneE m) 0 m.Zones with
        |some e=>rfl
        |none=>
         dsimp only
         rw [stp 5 6 _ _ (fun e' h=>X1 (fun _ _ _=>B8j) h) (C7z B.toBear B.toBearW) s5]
         cases I4 (workE m) 0 m.Works with
         |some e=>rfl
         |none=>dsimp only;rw [D8 s6];rfl
end Go.Abs.Roadsz
namespace Go.Abs.Roadsz
open Go Go.Abs
/-- What a valid map is. -/
structure ValR (m:Map):Prop where
  ver:0≤m.Version∧m.Version≤1099511627776
  pos:0<m.Lanes.length
  lanes:m.Lanes.length≤12
  zones:m.Zones.length≤12
  signals:m.Signals.length≤4
  works:m.Works.length≤8
  laneE:I4 (laneE m.Lanes.length) 0 m.Lanes=none
  A8s:I4 (A8s m) 0 m.Lanes=none
  signalE:I4 (signalE m) 0 m.Signals=none
  zoneE:I4 (zoneE m) 0 m.Zones=none
  workE:I4 (workE m) 0 m.Works=none
theorem C5t {α:Type}{g:Nat→α→Option Int}{l:List α}(h: ∀i a e,g i a=some e→e≠0)(h0:(I4 g 0 l).getD 0=0):I4 g 0 l=none:=by
  cases q:I4 g 0 l with
  |none=>rfl
  |some e=>rw [q]at h0;exact absurd h0 (X1 h q)
theorem C5u {m:Map}:D0n m=0↔ValR m:=by
  unfold D0n
  constructor
  ·intro h
   split at h
   ·cases h
   ·rename_i h1
    split at h
    ·cases h
    ·rename_i h2
     split at h
     ·cases h
     ·rename_i h3
      simp only [inR,Bool.not_eq_false,Bool.and_eq_true,decide_eq_true_eq]at h1
      have key: ∀{o r:Option Int},(∀e,o=some e→e≠0)→(o.or r).getD 0=0→o=none∧r.getD 0=0:=by
        intro o r ho hr
        cases o with
        |none=>exact ⟨rfl,hr⟩
        |some e=>exact absurd hr (ho e rfl)
      obtain ⟨a1,h⟩:=key (fun e h=>X1 (fun _ _ _=>B8f) h) h
      obtain ⟨a2,h⟩:=key (fun e h=>X1 (fun _ _ _=>B8k) h) h
      obtain ⟨a3,h⟩:=key (fun e h=>X1 (fun _ _ _=>A9x) h) h
      obtain ⟨a4,h⟩:=key (fun e h=>X1 (fun _ _ _=>B46) h) h
      exact ⟨h1,by omega,by omega,by omega,by omega,by omega,a1,a2,a3,a4,C5t (fun _ _ _=>B8j) h⟩
  ·rintro ⟨h1,h2,h3,h4,h5,h6,a1,a2,a3,a4,a5⟩
   rw [if_neg (by simp only [inR,Bool.not_eq_false,Bool.and_eq_true,decide_eq_true_eq];exact h1),if_neg (by omega),if_neg (by omega),a1,a2,a3,a4,a5];rfl
section
variable {m:Map}
theorem ValR.laneOK (V:ValR m){i:Nat}{l:Lane}(h:m.Lanes[i]? =some l):LaneOK m.Lanes.length i l:=B2f V.laneE h
theorem ValR.next (V:ValR m){i:Nat}{l:Lane}(h:m.Lanes[i]? =some l){k:Int}(hk:k∈l.Next):(i:Int)<k∧k<m.Lanes.length:=by
  have:=A6g (V.laneOK h).next k hk
  omega
end
/-- The lanes in which a lane goes on. -/
def nextOf (m:Map)(a:Nat):List Int:=((m.Lanes[a]?).map (·.Next)).getD []
theorem ValR.nextOf {m:Map}(V:ValR m){a:Nat}{k:Int}(hk:k∈Roadsz.nextOf m a):(a:Int)<k∧k<m.Lanes.length:=by
  unfold Roadsz.nextOf at hk
  cases h:m.Lanes[a]? with
  |none=>rw [h]at hk;cases hk
  |some l=>rw [h]at hk;exact V.next h hk
def C8y (m:Map)(b:Int):Nat→Nat→Bool
  |0,_=>false
  |n+1,a=>(nextOf m a).any fun k=>k==b||C8y m b n k.toNat
/-- Does a lane lead to another one? -/
def D2c (m:Map)(a:Nat)(b:Int):Bool:=C8y m b m.Lanes.length a
end Go.Abs.Roadsz
namespace Go.Abs.Roadsz
open Go Go.Abs
/-- What is known of the sets of the lanes from a number on. -/
structure Reach (m:Map)(i:Nat)(l:List Nat):Prop where
  len:l.length=12
  small: ∀(a x:Nat),l[a]? =some x→x<2^32
  zero: ∀(a:Nat),a<i→l[a]? =some 0
  bits: ∀(a x:Nat),i≤a→a<m.Lanes.length→l[a]? =some x→∀b:Nat,x.testBit b=D2c m a (b:Int)
theorem Reach.get {m:Map}{i:Nat}{l:List Nat}(R:Reach m i l){a:Nat}(h:a<12): ∃x,l[a]? =some x∧x<2^32:=by
  have:=R.len
  exact ⟨l[a],List.getElem?_eq_getElem (by omega),R.small a _ (List.getElem?_eq_getElem (by omega))⟩
end Go.Abs.Roadsz
namespace Go.Abs.Roadsz
open Go Go.Abs
noncomputable def isM (m:Map)(k:Int):Bool:=(decide (k≥0)&&decide (k<m.Lanes.length))&& (D0n m==0)
theorem isM_true {m:Map}{k:Int}:isM m k=true↔0≤k∧k<m.Lanes.length∧ValR m:=by
  unfold isM
  rw [Bool.and_eq_true,Bool.and_eq_true,beq_iff_eq,C5u]
  simp only [decide_eq_true_eq,and_assoc,ge_iff_le]
theorem B19 {m:Map}(B:BearM m)(k:Int):A4f m k=some (isM m k):=by
  unfold A4f isM
  rw [B6p B]
  cases (decide (k≥0)&&decide (k< (m.Lanes.length:Int)))<;>rfl
theorem A8j {m:Map}(B:BearM m)(k:Int):A44 m k=some (isM m k):=by
  unfold A44 isM
  rw [B6o B]
  cases (decide (k≥0)&&decide (k< (m.Lanes.length:Int)))<;>rfl
theorem B5x {m:Map}(B:BearM m){k:Int}(h0:0≤k)(h1:k<m.Lanes.length):A4y m k=some (Y6 m k):=by
  obtain ⟨l,e1,e2⟩:=B8i B.toBear h0 h1
  unfold A4y
  rw [e1,Option.bind_some,e2];rfl
theorem C1f (l:List Int)(hl:l.length≤1000000)(k:Int):E7 l k=some (l.contains k):=by
  unfold E7 Q6
  rw [B8h l (fun x=>k==x) (by omega) (fun i a h=>by
   have hi:=A04 h
   unfold J9
   rw [X9 hi,F3 h,cond_true,Option.bind_some]
   cases k==a<;>rfl) (by unfold J9;rw [T4];rfl)]
  rw [Option.bind_some,B8g,List.contains_eq_any_beq]
theorem D2d (l:List Int)(hl:l.length≤1000000)(k:Int):A97 l k=some (l.contains k):=by
  unfold A97
  rw [C04 l (fun x=>x==k) true (fun i a h=>by
   have hi:=A04 h
   unfold A4x
   rw [X9 hi,F3 h,cond_true,Option.bind_some,P0 hi (by omega)]
   cases a==k<;>rfl) (by unfold A4x;rw [T4];rfl)]
  rw [List.contains_eq_any_beq,show (fun x=>x==k)=(fun x=>k==x) from funext fun x=>by rw [Bool.beq_comm]]
  cases l.any fun x=>k==x<;>rfl
end Go.Abs.Roadsz
namespace Go.Abs.Roadsz
open Go Go.Abs
def C5v (z:Zone)(k:Int):Part×Bool:=match z.Parts.find? (fun p=>p.Lane_==k)with|some p=>(p,true)|none=>(⟨0,0,0,0⟩,false)
structure ZoneOK (m:Map)(z:Zone):Prop where
  two:2≤z.Parts.length
  six:z.Parts.length≤6
  sig:0≤z.Signal_∧z.Signal_≤m.Signals.length
  rise:A2l m.Lanes.length 0 (z.Parts.map (·.Lane_))=true
  part: ∀p∈z.Parts,0≤p.From∧p.From<p.To∧p.To≤Y6 m p.Lane_∧0≤p.Rank∧p.Rank≤100
theorem C3t {m:Map}{i:Nat}{z:Zone}(h:zoneE m i z=none):ZoneOK m z:=by
  unfold zoneE at h
  split at h
  ·cases h
  ·rename_i h1
   split at h
   ·cases h
   ·rename_i h2
    split at h
    ·cases h
    ·rename_i h3
     split at h
     ·cases h
     ·rename_i h4
      split at h
      ·cases h
      ·rename_i h5
       refine ⟨by omega,by omega,by omega,by simpa using h4,fun p hp=> ?_⟩
       have:=List.any_eq_false.1 (Bool.eq_false_iff.2 h5) p hp
       simp only [A9m,Bool.or_eq_true,decide_eq_true_eq,not_or,Int.not_lt,Int.not_le,ge_iff_le,gt_iff_lt]at this
       omega
theorem ValR.zoneOK {m:Map}(V:ValR m){z:Zone}(hz:z∈m.Zones):ZoneOK m z:=by
  obtain ⟨i,hi,rfl⟩:=List.mem_iff_getElem.1 hz
  have:=firstE_none.1 V.zoneE i _ (List.getElem?_eq_getElem hi)
  exact C3t this
theorem ZoneOK.lane {m:Map}{z:Zone}(O:ZoneOK m z){p:Part}(hp:p∈z.Parts):0≤p.Lane_∧p.Lane_<m.Lanes.length:=A6g O.rise p.Lane_ (List.mem_map.2 ⟨p,hp,rfl⟩)
end Go.Abs.Roadsz
namespace Go.Abs.Roadsz
open Go Go.Abs
def C05 (m:Map):Bool:= !(decide (m.Lanes.length>14)||decide (m.Zones.length>14)||decide (m.Signals.length>6)||decide (m.Works.length>10))&& !(m.Lanes.any fun l=>decide (l.Curve_.Pts.length>18)||decide (l.Next.length>5))&& !(m.Zones.any fun z=>decide (z.Parts.length>8))&& !(m.Signals.any fun s=>decide (s.Phases.length>8)||s.Phases.any fun p=>decide (p.Green.length>14))
theorem C81 (m:Map):A8z m=some (C05 m):=by
  unfold A8z C05
  by_cases h:m.Lanes.length>14∨m.Zones.length>14∨m.Signals.length>6∨m.Works.length>10
  ·rw [show (((decide ((m.Lanes.length:Int)>14))||(decide ((m.Zones.length:Int)>14))||(decide ((m.Signals.length:Int)>6)))||(decide ((m.Works.length:Int)>10)))=true by simp;omega,show ((((decide (m.Lanes.length>14))||(decide (m.Zones.length>14)))||(decide (m.Signals.length>6)))||(decide (m.Works.length>10)))=true by simp;omega]
   rfl
  ·rw [show (((decide ((m.Lanes.length:Int)>14))||(decide ((m.Zones.length:Int)>14))||(decide ((m.Signals.length:Int)>6)))||(decide ((m.Works.length:Int)>10)))=false by simp;omega,show ((((decide (m.Lanes.length>14))||(decide (m.Zones.length>14)))||(decide (m.Signals.length>6)))||(decide (m.Works.length>10)))=false by simp;omega,cond_false]
   rw [C04 m.Lanes (fun l=>decide (l.Curve_.Pts.length>18)||decide (l.Next.length>5)) false (fun i l hl=>by
    have hi:=A04 hl
    unfold A4o
    rw [X9 hi,F3 hl,cond_true,Option.bind_some,P0 hi (by omega)]
    by_cases h1:l.Curve_.Pts.length>18
    ·rw [show decide ((l.Curve_.Pts.length:Int)>18)=true from decide_eq_true (by omega),show decide (l.Curve_.Pts.length>18)=true from decide_eq_true h1];rfl
    ·rw [show decide ((l.Curve_.Pts.length:Int)>18)=false from decide_eq_false (by omega),show decide (l.Curve_.Pts.length>18)=false from decide_eq_false h1]
     simp only [Bool.not_false,cond_true,Option.bind_some,Bool.false_or]
     by_cases h2:l.Next.length>5
     ·rw [show decide ((l.Next.length:Int)>5)=true from decide_eq_true (by omega),show decide (l.Next.length>5)=true from decide_eq_true h2];rfl
     ·rw [show decide ((l.Next.length:Int)>5)=false from decide_eq_false (by omega),show decide (l.Next.length>5)=false from decide_eq_false h2];rfl) (by unfold A4o;rw [T4];rfl)]
   cases m.Lanes.any fun l=>decide (l.Curve_.Pts.length>18)||decide (l.Next.length>5)
   ·simp only [Bool.false_eq_true,if_false,thenS,Bool.not_false,Bool.true_and]
    rw [C04 m.Zones (fun z=>decide (z.Parts.length>8)) false (fun i z hz=>by
     have hi:=A04 hz
     unfold A4n
     rw [X9 hi,F3 hz,cond_true,Option.bind_some,P0 hi (by omega)]
     by_cases h1:z.Parts.length>8
     ·rw [show decide ((z.Parts.length:Int)>8)=true from decide_eq_true (by omega),show decide (z.Parts.length>8)=true from decide_eq_true h1];rfl
     ·rw [show decide ((z.Parts.length:Int)>8)=false from decide_eq_false (by omega),show decide (z.Parts.length>8)=false from decide_eq_false h1];rfl) (by unfold A4n;rw [T4];rfl)]
    cases m.Zones.any fun z=>decide (z.Parts.length>8)
    ·simp only [Bool.false_eq_true,if_false,Bool.not_false,Bool.true_and]
     rw [C04 m.Signals (fun s=>decide (s.Phases.length>8)||s.Phases.any fun p=>decide (p.Green.length>14)) false (fun i s hs=>by
      have hi:=A04 hs
      unfold A4m
      rw [X9 hi,F3 hs,cond_true,Option.bind_some,P0 hi (by omega)]
      by_cases h1:s.Phases.length>8
      ·rw [show decide ((s.Phases.length:Int)>8)=true from decide_eq_true (by omega),show decide (s.Phases.length>8)=true from decide_eq_true h1];rfl
      ·rw [show decide ((s.Phases.length:Int)>8)=false from decide_eq_false (by omega),show decide (s.Phases.length>8)=false from decide_eq_false h1,cond_false,Bool.false_or]
       rw [C04 s.Phases (fun p=>decide (p.Green.length>14)) false (fun j p hp=>by
        have hj:=A04 hp
        unfold A4l
        rw [F3 hs,Option.bind_some,X9 hj,cond_true,Option.bind_some,F3 hp,Option.bind_some,P0 hj (by omega)]
        by_cases h1:p.Green.length>14
        ·rw [show decide ((p.Green.length:Int)>14)=true from decide_eq_true (by omega),show decide (p.Green.length>14)=true from decide_eq_true h1];rfl
        ·rw [show decide ((p.Green.length:Int)>14)=false from decide_eq_false (by omega),show decide (p.Green.length>14)=false from decide_eq_false h1];rfl) (by unfold A4l;rw [F3 hs,Option.bind_some,T4];rfl)]
       cases s.Phases.any fun p=>decide (p.Green.length>14)<;>rfl) (by unfold A4m;rw [T4];rfl)]
     cases m.Signals.any fun s=>decide (s.Phases.length>8)||s.Phases.any fun p=>decide (p.Green.length>14)<;>rfl
    ·rfl
   ·rfl
theorem C3u {m:Map}(h:C05 m=true):BearM m:=by
  unfold C05 at h
  simp only [Bool.and_eq_true,Bool.not_eq_true',Bool.or_eq_false_iff,decide_eq_false_iff_not,List.any_eq_false,Bool.or_eq_true,decide_eq_true_eq,not_or,Nat.not_lt,gt_iff_lt,List.any_eq_true,not_exists,not_and]at h
  obtain ⟨⟨⟨⟨⟨⟨h1,h2⟩,h3⟩,h4⟩,h5⟩,h6⟩,h7⟩:=h
  refine ⟨⟨by omega,fun l hl=> ?_⟩,⟨by omega,fun s hs=>⟨?_,fun p hp=> ?_⟩⟩,⟨by omega,fun z hz=> ?_⟩,⟨by omega⟩⟩
  ·have:=h5 l hl;omega
  ·have:=(h7 s hs).1;omega
  ·have:=(h7 s hs).2 p hp;omega
  ·have:=h6 z hz;omega
end Go.Abs.Roadsz
namespace Go.Abs.Roadsz
open Go Go.Abs
theorem C2g:A1s=some true:=B6k _ (by decide+kernel)
end Go.Abs.Roadsz
namespace Go.Abs.Roadsz
open Go Go.Abs
end Go.Abs.Roadsz
namespace Go.Abs.Roadsz
open Go Go.Abs
end Go.Abs.Roadsz
namespace Go.Abs.Roadsz
open Go Go.Abs
end Go.Abs.Roadsz
namespace Go.Abs.Roadsz
open Go Go.Abs
def B5y (k off tick:Int)(_:Nat)(o:Int)(w:Work):Int:=if w.Lane_==k&&inR off w.From w.To&&inR tick w.Begin (w.End - 1)then min o w.Limit else o
noncomputable def B7d (m:Map)(k off tick:Int):Int:=if (isM m k&&inR off 0 (Y6 m k))=true then C02 (B5y k off tick) 0 (((m.Lanes[k.toNat]?).map (·.Limit)).getD 0) m.Works else 0
theorem ValR.work {m:Map}(V:ValR m){w:Work}(hw:w∈m.Works):0≤w.Lane_∧w.Lane_<m.Lanes.length∧0≤w.From∧w.From≤w.To∧w.To≤Y6 m w.Lane_∧0≤w.Begin∧w.Begin<w.End∧w.End≤1099511627776:=by
  obtain ⟨i,hi,rfl⟩:=List.mem_iff_getElem.1 hw
  have:=firstE_none.1 V.workE i _ (List.getElem?_eq_getElem hi)
  unfold Roadsz.workE at this
  split at this
  ·cases this
  ·rename_i h1
   split at this
   ·cases this
   ·rename_i h2
    simp only [Bool.or_eq_true,decide_eq_true_eq,not_or,Bool.not_eq_true',Bool.not_eq_false]at h2
    omega
theorem C82 {m:Map}(B:BearM m)(k off tick:Int):A1r m k off tick=some (B7d m k off tick):=by
  have hb:=B.lanes
  have hw:=B.toBearW.many
  unfold A1r B7d
  rw [B19 B,Option.bind_some]
  cases h:isM m k
  ·rfl
  ·obtain ⟨k0,k1,V⟩:=isM_true.1 h
   obtain ⟨l,e1,e2⟩:=B18 k0 k1
   simp only [Bool.not_true,Bool.not_false,cond_true,Bool.false_or,Bool.true_and]
   rw [C1e B.toBear k0 k1,Option.bind_some,A3x,Option.bind_some]
   cases inR off 0 (Y6 m k)
   ·rfl
   ·simp only [Bool.not_true,cond_false,if_true]
    rw [e2,Option.bind_some,e1,Option.map_some,Option.getD_some]
    rw [C8w m.Works (B5y k off tick) id l.Limit (fun i w s hwi=>by
     have hi:=A04 hwi
     have hv:=V.work (List.mem_of_getElem? hwi)
     unfold Z9 B5y
     dsimp only
     rw [X9 hi,F3 hwi,cond_true,Option.bind_some,A3x,A3x,P0 hi (by omega),wid (n:=w.End - 1) (by omega),C0y]
     cases w.Lane_==k
     ·rfl
     ·cases inR off w.From w.To
      ·rfl
      ·cases inR tick w.Begin (w.End - 1)<;>rfl) (fun s=>by unfold Z9;rw [T4];rfl)]
    rfl
end Go.Abs.Roadsz
namespace Go.Abs
end Go.Abs
namespace Go.Abs.Roadsz
open Go Go.Abs
end Go.Abs.Roadsz
namespace Go.Abs.Roadsz
open Go Go.Abs
/-! ### How long lanes are -/
theorem C8z: ∀(l:List Int) (s:Int),(∀x∈l,0≤x∧x≤1048576)→0≤s→s+1048576*l.length≤9000000000000000000→s≤C19 s l∧C19 s l≤s+1048576*l.length
  | [],s,_,_,_=>by simp [C19]
  |a::r,s,h,h0,h1=>by
   have ha:=h a (by simp)
   simp only [List.length_cons]at h1 ⊢
   rw [C19,M6 (by omega)]
   have:=C8z r (s+a) (fun x hx=>h x (by simp [hx])) (by omega) (by omega)
   omega
theorem C83: ∀{l:List Spot} {last:Option CurveVector},Good last l→∀x∈C0c l,1000≤x∧x≤1048576:=by
  intro l last h
  induction h with
  |one last p=>intro x hx;simp [C0c]at hx
  |cons last p q r h1 h2 h3 h4 h ih=>
   intro x hx
   rw [A9l,List.mem_cons]at hx
   rcases hx with rfl|hx
   ·exact ⟨h2,h3⟩
   ·exact ih x hx
theorem D0p {c:Curve}(h:A13 c.Pts=0):1000≤D29 c∧D29 c≤16777216:=by
  have V:=checkM_zero.1 h
  unfold D29 A5f
  rw [if_pos h]
  have h16:=V.most
  have h2:=V.two
  have hm:=C83 V.good
  cases hp:c.Pts with
  |nil=>rw [hp]at h2;simp at h2
  |cons p r=>
   rw [hp]at hm h16 h2
   cases r with
   |nil=>simp at h2
   |cons q r=>
    simp only [List.length_cons]at h16
    rw [A9l]at hm ⊢
    have ha:=hm _ (List.mem_cons_self)
    have hl:=A8i r q
    rw [C19,M6 (by omega),Int.zero_add]
    have:=C8z (C0c (q::r)) (rt (Q9 (vec p q) (vec p q))) (fun x hx=>by have:=hm x (List.mem_cons_of_mem _ hx);omega) (by omega) (by rw [hl];omega)
    rw [hl]at this
    omega
theorem ValR.long {m:Map}(V:ValR m){k:Int}(h0:0≤k)(h1:k<m.Lanes.length):1000≤Y6 m k∧Y6 m k≤16777216:=by
  obtain ⟨l,e1,e2⟩:=B18 h0 h1
  unfold Y6
  rw [e1]
  exact D0p (V.laneOK e1).curve
/-! ### Routes -/
end Go.Abs.Roadsz
namespace Go.Abs.Roadsz
open Go Go.Abs
end Go.Abs.Roadsz
/-! Lists that are sorted, and how an insertion sort makes them. -/
namespace Go.Abs
open Go
/-- What a comparison must satisfy. -/
structure LtOK {α:Type}(lt:α→α→Bool):Prop where
  asym: ∀a b,lt a b=true→lt b a=false
  trans: ∀a b c,lt b a=false→lt c b=false→lt c a=false
def Srt {α:Type}(lt:α→α→Bool)(l:List α):Prop:=l.Pairwise fun a b=>lt b a=false
section
variable {α:Type}
theorem C2h (U V:List α)(x y:α)(n:Int)(h:n=(U.length:Int)):C66 (U++x::V) n y=U++y::V:=by
  subst h
  simp [C66]
theorem B47 (U V:List α)(x:α)(n:Int)(h:n=(U.length:Int)):F0 (U++x::V) n=some x:=by
  subst h
  simp [F0]
theorem C3v {Q:List α}(h:Q≠ []): ∃Q' q,Q=Q'++ [q]:=⟨Q.dropLast,Q.getLast h,(List.dropLast_concat_getLast h).symm⟩
variable {lt:α→α→Bool}
theorem Srt.ins (L:LtOK lt){Q1 Q2:List α}{x:α}(h:Srt lt (Q1++Q2))(h1: ∀q∈Q1,lt x q=false)(h2: ∀q∈Q2,lt x q=true):Srt lt (Q1++x::Q2):=by
  unfold Srt at h ⊢
  rw [List.pairwise_append]at h ⊢
  refine ⟨h.1,List.pairwise_cons.2 ⟨fun b hb=>L.asym _ _ (h2 b hb),h.2.1⟩,fun a ha b hb=> ?_⟩
  rcases List.mem_cons.1 hb with rfl|hb
  ·exact h1 a ha
  ·exact h.2.2 a ha b hb
theorem LtOK.irr (L:LtOK lt)(a:α):lt a a=false:=by
  cases h:lt a a with
  |false=>rfl
  |true=>rw [L.asym a a h]at h;cases h
theorem Srt.get (L:LtOK lt){l:List α}(h:Srt lt l){i j:Nat}(hij:i≤j)(hj:j<l.length):lt l[j] l[i]=false:=by
  rcases Nat.lt_or_eq_of_le hij with h1|h1
  ·exact List.pairwise_iff_getElem.1 h i j (by omega) hj h1
  ·subst h1;exact L.irr _
/-- The inner loop: an element goes down to its place. -/
theorem C5w (L:LtOK lt){F:Int×List α→Option (Stp (Int×List α) (List α))}{P T:List α}(N:Nat)
    (hstop: ∀xs,F ((P.length:Int),xs)=some (.out xs))
    (hF: ∀(U V:List α) (q x:α),P.length≤U.length→(U++q::x::V).length=N→F (((U.length:Int)+1),U++q::x::V)=some (if lt x q then .go ((U.length:Int),U++x::q::V)else .out (U++q::x::V))) (x:α):
    ∀(n:Nat) (Q1 Q2:List α),Q1.length=n→Srt lt (Q1++Q2)→(∀q∈Q2,lt x q=true)→(P++Q1++x::Q2++T).length=N→
     ∃Q,loop F (((P.length+Q1.length:Nat):Int),P++Q1++x::Q2++T)=some (P++Q++T)∧Q.Perm (x::(Q1++Q2))∧Srt lt Q:=by
  intro n
  induction n with
  |zero=>
   intro Q1 Q2 hn hs hg hN
   obtain rfl:=List.length_eq_zero_iff.1 hn
   refine ⟨x::Q2,?_,by simp,?_⟩
   ·rw [D8 (by rw [List.length_nil,Nat.add_zero];exact hstop _)]
    simp
   ·exact hs.ins L (by simp) hg
  |succ n ih=>
   intro Q1 Q2 hn hs hg hN
   obtain ⟨Q',q,rfl⟩:=C3v (Q:=Q1) (by rintro rfl;simp at hn)
   rw [List.length_append,List.length_singleton]at hn
   have e1:P++ (Q'++ [q])++x::Q2++T=(P++Q')++q::x::(Q2++T):=by simp
   have e2:((P.length+ (Q'++ [q]).length:Nat):Int)=((P++Q').length:Int)+1:=by simp;omega
   have hF1:=hF (P++Q') (Q2++T) q x (by simp) (by rw [← e1];exact hN)
   by_cases hl:lt x q=true
   ·rw [if_pos hl]at hF1
    obtain ⟨Q,g1,g2,g3⟩:=ih Q' (q::Q2) (by omega) (by simpa using hs) (fun y hy=>by
      rcases List.mem_cons.1 hy with rfl|hy
      ·exact hl
      ·exact hg y hy) (by rw [← hN];simp)
    refine ⟨Q,?_,g2.trans (by simp),g3⟩
    rw [e1,e2,Q8 hF1,← g1]
    congr 1
    simp
   ·rw [if_neg hl]at hF1
    have hl':lt x q=false:=by simpa using hl
    refine ⟨Q'++ [q]++x::Q2,?_,?_,hs.ins L (fun y hy=> ?_) hg⟩
    ·rw [e1,e2,D8 hF1];simp
    ·have:=List.perm_middle (a:=x) (l₁:=Q'++ [q]) (l₂:=Q2);exact this
    ·rcases List.mem_append.1 hy with h|h
     ·have hq:lt q y=false:=by
        unfold Srt at hs
        rw [List.append_assoc,List.pairwise_append]at hs
        exact hs.2.2 y h q (by simp)
      exact L.trans y q x hq hl'
     ·rw [List.mem_singleton.1 h];exact hl'
/-- The outer loop. -/
theorem C5x {F:Int×List α→Option (Stp (Int×List α) (List α))}{P S:List α}(N:Nat)(b:Nat)
    (hend: ∀xs (i:Nat),b≤i→F ((i:Int),xs)=some (.out xs))
    (hF: ∀(Q R:List α) (x:α),(P++Q++x::R++S).length=N→P.length+Q.length<b→Srt lt Q→∃Q',F (((P.length+Q.length:Nat):Int),P++Q++x::R++S)=some (.go (((P.length+Q.length+1:Nat):Int),P++Q'++R++S))∧Q'.Perm (x::Q)∧Srt lt Q'):
    ∀(R Q:List α),(P++Q++R++S).length=N→P.length+Q.length+R.length=b→Srt lt Q→∃Q',loop F (((P.length+Q.length:Nat):Int),P++Q++R++S)=some (P++Q'++S)∧Q'.Perm (Q++R)∧Srt lt Q':=by
  intro R
  induction R with
  |nil=>
   intro Q hN hb hs
   refine ⟨Q,?_,by simp,hs⟩
   rw [D8 (hend _ _ (by simpa using Nat.le_of_eq hb.symm))]
   simp
  |cons x R ih=>
   intro Q hN hb hs
   rw [List.length_cons]at hb
   obtain ⟨Q',g1,g2,g3⟩:=hF Q R x hN (by omega) hs
   have hl:Q'.length=Q.length+1:=by rw [g2.length_eq];simp
   obtain ⟨Q2,k1,k2,k3⟩:=ih Q' (by rw [← hN];simp [hl];omega) (by omega) g3
   refine ⟨Q2,?_,k2.trans ((g2.append_right R).trans ?_),k3⟩
   ·rw [Q8 g1,← k1,hl]
    congr 1
   ·exact (List.perm_middle (a:=x) (l₁:=Q) (l₂:=R)).symm
end
end Go.Abs
/-! How the lists are sorted. -/
namespace Go.Abs.Roadsz
open Go Go.Abs
def ltI (a b:Int):Bool:=decide (a<b)
theorem D2e:LtOK ltI:=⟨fun a b h=>by simp only [ltI,decide_eq_true_eq,decide_eq_false_iff_not]at h ⊢;omega,fun a b c h1 h2=>by simp only [ltI,decide_eq_false_iff_not]at h1 h2 ⊢;omega⟩
theorem D0q (a b:Int):A2q a b=some (ltI a b):=by
  have h: ∀x:Int,A0f x=some false:=fun x=>by unfold A0f;simp
  unfold A2q
  rw [h,Option.bind_some]
  rfl
theorem app2 {α:Type}(U V:List α)(q x:α):U++q::x::V=(U++ [q])++x::V:=by simp
theorem C3w (P T:List Int)(x:Int)(Q:List Int)(hs:Srt ltI Q)(hN:(P++Q++x::T).length≤1000000):
    ∃Q',loop (C5 (P.length:Int)) (((P.length+Q.length:Nat):Int),P++Q++x::T)=some (P++Q'++T)∧Q'.Perm (x::Q)∧Srt ltI Q':=by
  have hstop: ∀xs,C5 (P.length:Int) ((P.length:Int),xs)=some (.out xs):=fun xs=>by
    unfold C5
    simp only [show decide ((P.length:Int)>(P.length:Int))=false from decide_eq_false (by omega),cond_false,Bool.false_and,Option.bind_some]
  have hF: ∀(U V:List Int) (q y:Int),P.length≤U.length→(U++q::y::V).length=(P++Q++x::T).length→C5 (P.length:Int) (((U.length:Int)+1),U++q::y::V)=some (if ltI y q then .go ((U.length:Int),U++y::q::V)else .out (U++q::y::V)):=fun U V q y hP hl=>by
    unfold C5
    have hb:U.length+2≤1000000:=by rw [← hl]at hN;simp at hN;omega
    have e1:w64 ((U.length:Int)+1 - 1)=(U.length:Int):=by rw [M6 (by omega)];omega
    have g1:F0 (U++q::y::V) ((U.length:Int)+1)=some y:=by rw [app2];exact B47 _ _ _ _ (by simp)
    have g2:F0 (U++q::y::V) (U.length:Int)=some q:=B47 _ _ _ _ rfl
    have s1:C66 (U++q::y::V) ((U.length:Int)+1) q=U++q::q::V:=by rw [app2,C2h _ _ _ _ _ (by simp)];simp
    have g3:F0 (U++q::q::V) (U.length:Int)=some q:=B47 _ _ _ _ rfl
    have s2:C66 (U++q::q::V) (U.length:Int) y=U++y::q::V:=C2h _ _ _ _ _ rfl
    simp only [show decide (((U.length:Int)+1)>(P.length:Int))=true from decide_eq_true (by omega),cond_true,Bool.true_and,e1,g1,g2,s1,g3,s2,Option.bind_some,D0q]
    cases ltI y q<;>rfl
  obtain ⟨Q',h1,h2,h3⟩:=C5w D2e (P:=P) (T:=T) (P++Q++x::T).length hstop hF x Q.length Q [] rfl (by simpa using hs) (by simp) (by simp)
  refine ⟨Q',?_,by simpa using h2,h3⟩
  rw [← h1];congr 1;simp
theorem D0r (P A S:List Int)(hN:(P++A++S).length≤1000000):
    ∃A',F4 (P++A++S) (P.length:Int) ((P.length+A.length:Nat):Int)=some (P++A'++S)∧A'.Perm A∧Srt ltI A':=by
  unfold F4
  have hend: ∀(xs:List Int) (i:Nat),P.length+A.length≤i→D2 (P.length:Int) ((P.length+A.length:Nat):Int) ((i:Int),xs)=some (.out xs):=fun xs i hi=>by
    unfold D2
    rw [show decide ((i:Int)< ((P.length+A.length:Nat):Int))=false from decide_eq_false (by omega)];rfl
  simp only [List.length_append]at hN
  have hw:w64 ((P.length:Int)+1)=((P.length+1:Nat):Int):=by rw [M6 (by omega)];omega
  cases A with
  |nil=>
   refine ⟨[],?_,by simp,List.Pairwise.nil⟩
   rw [hw,D8 (hend _ _ (by simp))]
  |cons a A=>
   have hF: ∀(Q R:List Int) (x:Int),(P++Q++x::R++S).length=(P++a::A++S).length→P.length+Q.length<P.length+ (a::A).length→Srt ltI Q→∃Q',D2 (P.length:Int) ((P.length+ (a::A).length:Nat):Int) (((P.length+Q.length:Nat):Int),P++Q++x::R++S)=some (.go (((P.length+Q.length+1:Nat):Int),P++Q'++R++S))∧Q'.Perm (x::Q)∧Srt ltI Q':=fun Q R x hl hb hs=>by
     obtain ⟨Q',k1,k2,k3⟩:=C3w P (R++S) x Q hs (by simp only [List.length_append,List.length_cons]at hl hN ⊢;omega)
     refine ⟨Q',?_,k2,k3⟩
     unfold D2
     have e1:P++Q++x::R++S=P++Q++x::(R++S):=by simp
     rw [show decide (((P.length+Q.length:Nat):Int)< ((P.length+ (a::A).length:Nat):Int))=true from decide_eq_true (by omega),cond_true]
     simp only [e1,k1,Option.bind_some]
     rw [M6 (by simp only [List.length_cons]at hN hb;omega)]
     simp
   obtain ⟨A',h1,h2,h3⟩:=C5x (lt:=ltI) (P:=P) (S:=S) (P++a::A++S).length (P.length+ (a::A).length) hend hF A [a] (by simp) (by simp;omega) (List.pairwise_singleton _ _)
   refine ⟨A',?_,h2,h3⟩
   rw [hw,← h1];congr 1;simp
theorem C5y (n:Nat)(h:n≤12): ∃v,A2b (IntKind.wrap .u64 (n:Int))=some v:=by
  have: ∀n:Fin 13,(A2b (IntKind.wrap .u64 ((n.val:Nat):Int))).isSome=true:=by decide+kernel
  exact Option.isSome_iff_exists.1 (this ⟨n,by omega⟩)
theorem D0s (xs:List Int)(h:xs.length≤12): ∃ys,O2 xs=some ys∧ys.Perm xs∧Srt ltI ys:=by
  obtain ⟨v,hv⟩:=C5y _ h
  obtain ⟨ys,h1,h2,h3⟩:=D0r [] xs [] (by simp;omega)
  refine ⟨ys,?_,h2,h3⟩
  unfold O2 O7
  rw [hv,Option.bind_some,D8 (t:=ys)]
  ·rfl
  ·unfold M0
   simp only [List.length_nil,Nat.zero_add,List.nil_append,List.append_nil]at h1
   have e:w64 ((xs.length:Int) - 0)≤12:=by rw [M6 (by omega)];omega
   rw [show decide (w64 ((xs.length:Int) - 0)≤12)=true from decide_eq_true e,cond_true]
   have h1':F4 xs 0 (xs.length:Int)=some ys:=h1
   rw [h1',Option.bind_some]
theorem C84:O3=some ():=by
  obtain ⟨v,hv⟩:=C5y 0 (by omega)
  unfold O3 O8
  rw [show IntKind.wrap .u64 0=IntKind.wrap .u64 ((0:Nat):Int) from rfl,hv,Option.bind_some,D8 (t:=())]
  ·rfl
  ·unfold M1 K0
   rw [D8 (t:=())]
   ·rfl
   ·rfl
end Go.Abs.Roadsz
/-! Signals, and the red lines. -/
namespace Go.Abs.Roadsz
open Go Go.Abs
theorem B36: ∀(l:List Int) (x:Int),x∈A2f l↔x∈l
  | [],_=> .rfl
  | [_],_=> .rfl
  |a::b::r,x=>by
   have ih:=B36 (b::r) x
   rw [A2f]
   by_cases e:a=b
   ·subst e
    rw [show (a==a)=true by simp,cond_true,ih]
    simp
   ·rw [show (a==b)=false by simp [e],cond_false,List.mem_cons,ih,List.mem_cons (a:=x) (b:=a)]
theorem B2g: ∀(l:List Int),l.Pairwise (· ≤ ·)→(A2f l).Pairwise (· < ·)
  | [],_=>List.Pairwise.nil
  | [_],_=>List.pairwise_singleton _ _
  |a::b::r,h=>by
   obtain ⟨h1,h2⟩:=List.pairwise_cons.1 h
   have ih:=B2g (b::r) h2
   rw [A2f]
   by_cases e:a=b
   ·rw [show (a==b)=true by simp [e],cond_true];exact ih
   ·rw [show (a==b)=false by simp [e],cond_false]
    refine List.pairwise_cons.2 ⟨fun x hx=> ?_,ih⟩
    have hx':=(B36 _ _).1 hx
    have hb:=h1 b (by simp)
    rcases List.mem_cons.1 hx' with rfl|hx'
    ·omega
    ·have:=(List.pairwise_cons.1 h2).1 x hx';omega
theorem B7e: ∀{l m:List Int},l.Pairwise (· < ·)→m.Pairwise (· < ·)→(∀x,x∈l↔x∈m)→l=m
  | [],[],_,_,_=>rfl
  | [],b::m,_,_,h=>absurd ((h b).2 (by simp)) (by simp)
  |a::l,[],_,_,h=>absurd ((h a).1 (by simp)) (by simp)
  |a::l,b::m,h1,h2,h=>by
   obtain ⟨a1,a2⟩:=List.pairwise_cons.1 h1
   obtain ⟨b1,b2⟩:=List.pairwise_cons.1 h2
   have hab:a=b:=by
     rcases List.mem_cons.1 ((h a).1 (by simp))with e|e
     ·exact e
     ·rcases List.mem_cons.1 ((h b).2 (by simp))with e'|e'
      ·exact e'.symm
      ·have:=a1 _ e';have:=b1 _ e;omega
   subst hab
   congr 1
   refine B7e a2 b2 fun x=>⟨fun hx=> ?_,fun hx=> ?_⟩
   ·rcases List.mem_cons.1 ((h x).1 (List.mem_cons_of_mem _ hx))with rfl|e
    ·exact absurd (a1 _ hx) (by omega)
    ·exact e
   ·rcases List.mem_cons.1 ((h x).2 (List.mem_cons_of_mem _ hx))with rfl|e
    ·exact absurd (b1 _ hx) (by omega)
    ·exact e
structure SigOK (s:Signal):Prop where
  pos:0<s.Phases.length
  many:s.Phases.length≤6
  off:0≤s.Offset∧s.Offset≤1099511627776
  ticks: ∀p∈s.Phases,1≤p.Ticks∧p.Ticks≤10000
  green: ∀p∈s.Phases,p.Green.length≤1000000
theorem ValR.sig {m:Map}(B:BearM m)(V:ValR m){i:Nat}{s:Signal}(h:m.Signals[i]? =some s):SigOK s:=by
  have:=firstE_none.1 V.signalE i s h
  unfold Roadsz.signalE at this
  split at this
  ·cases this
  split at this
  ·cases this
  split at this
  ·cases this
  split at this
  ·cases this
  rename_i h1 h2 h3 h4
  refine ⟨by omega,by omega,?_,fun p hp=> ?_,(B.toBearS.phases s (List.mem_of_getElem? h)).2⟩
  ·have:inR s.Offset 0 1099511627776=true:=by simpa using h3
   simpa [inR] using this
  ·have:inR p.Ticks 1 10000=true:=by
     cases q:inR p.Ticks 1 10000 with
     |true=>rfl
     |false=>exact absurd (List.any_eq_true.2 ⟨p,hp,by rw [q];rfl⟩) h4
   simpa [inR] using this
def B2k:List Phase→Int
  | []=>0
  |p::r=>p.Ticks+B2k r
def C06 (lane:Int):Int→List Phase→Bool
  |_,[]=>false
  |at_,p::r=>if p.Ticks≤at_ then C06 lane (at_ - p.Ticks) r else p.Green.contains lane
def B2h (s:Signal)(lane tick:Int):Bool:=C06 lane ((s.Offset+tick) % B2k s.Phases) s.Phases
theorem C5z: ∀{l:List Phase},(∀p∈l,1≤p.Ticks∧p.Ticks≤10000)→(l.length:Int)≤B2k l∧B2k l≤10000*l.length
  | [],_=>by simp [B2k]
  |p::r,h=>by
   have:=C5z (l:=r) fun q hq=>h q (List.mem_cons_of_mem _ hq)
   have:=h p (by simp)
   simp only [B2k,List.length_cons]
   omega
theorem SigOK.sum {s:Signal}(S:SigOK s):1≤B2k s.Phases∧B2k s.Phases≤60000:=by
  have:=C5z S.ticks
  have:=S.pos
  have:=S.many
  omega
theorem g_l1 (s:Signal)(S:SigOK s): ∀(r:List Phase) (i:Nat) (a:Int),s.Phases.drop i=r→i≤s.Phases.length→0≤a→a+10000*r.length≤1000000→loop (W1 s) (a,(i:Int))=some (a+B2k r):=by
  intro r
  induction r with
  |nil=>
   intro i a hi hil h0 h1
   have:=R1 hi
   obtain rfl:i=s.Phases.length:=by omega
   refine D8 ?_
   unfold W1
   rw [T4];simp [B2k]
  |cons p r ih=>
   intro i a hi hil h0 h1
   have hlt:=Q7 hi
   have hp:=A3y hi
   have hb:=S.ticks p (List.mem_of_getElem? hp)
   simp only [List.length_cons]at h1
   have hs:W1 s (a,(i:Int))=some (.go (a+p.Ticks,((i+1:Nat):Int))):=by
     unfold W1
     dsimp only
     rw [X9 hlt,F3 hp,cond_true,Option.bind_some,M6 (by omega),P0 hlt (by have:=S.many;omega)]
   rw [Q8 hs,ih (i+1) _ (I9 hi) (by omega) (by omega) (by omega),B2k]
   congr 1;omega
theorem g_l2 (s:Signal)(S:SigOK s)(lane:Int): ∀(r:List Phase) (i:Nat) (a:Int),s.Phases.drop i=r→i≤s.Phases.length→0≤a→a≤1000000→thenS (loop (R8 s lane) (a,(i:Int))) (fun _=>some false) (fun r=>some r)=some (C06 lane a r):=by
  intro r
  induction r with
  |nil=>
   intro i a hi hil h0 h1
   have:=R1 hi
   obtain rfl:i=s.Phases.length:=by omega
   rw [D8 (t:= .inl ())]
   ·rfl
   ·unfold R8
    rw [T4];rfl
  |cons p r ih=>
   intro i a hi hil h0 h1
   have hlt:=Q7 hi
   have hp:=A3y hi
   have hb:=S.ticks p (List.mem_of_getElem? hp)
   by_cases hc:p.Ticks≤a
   ·have hs:R8 s lane (a,(i:Int))=some (.go (a - p.Ticks,((i+1:Nat):Int))):=by
      unfold R8
      dsimp only
      rw [X9 hlt,F3 hp,cond_true,Option.bind_some,show decide (a≥p.Ticks)=true from decide_eq_true hc,cond_true,M6 (by omega),P0 hlt (by have:=S.many;omega)]
    rw [Q8 hs,ih (i+1) _ (I9 hi) (by omega) (by omega) (by omega),C06,if_pos hc]
   ·have hs:R8 s lane (a,(i:Int))=some (.out (.inr (p.Green.contains lane))):=by
      unfold R8
      dsimp only
      rw [X9 hlt,F3 hp,cond_true,Option.bind_some,show decide (a≥p.Ticks)=false from decide_eq_false (by omega),cond_false,C1f _ (S.green p (List.mem_of_getElem? hp)),Option.bind_some]
    rw [D8 hs,C06,if_neg hc];rfl
theorem D2f {s:Signal}(S:SigOK s){tick:Int}(h:0≤tick):(w64 (s.Offset.tmod (B2k s.Phases)+tick.tmod (B2k s.Phases))).tmod (B2k s.Phases)=(s.Offset+tick) % B2k s.Phases:=by
  obtain ⟨h1,h2⟩:=S.sum
  have ho:=S.off.1
  rw [Int.tmod_eq_emod_of_nonneg ho,Int.tmod_eq_emod_of_nonneg h]
  have a1:=Int.emod_nonneg s.Offset (b:=B2k s.Phases) (by omega)
  have a2:=Int.emod_nonneg tick (b:=B2k s.Phases) (by omega)
  have a3:=Int.emod_lt_of_pos s.Offset (b:=B2k s.Phases) (by omega)
  have a4:=Int.emod_lt_of_pos tick (b:=B2k s.Phases) (by omega)
  rw [M6 (by omega),Int.tmod_eq_emod_of_nonneg (by omega),← Int.add_emod]
theorem C07 {s:Signal}(S:SigOK s)(lane:Int){tick:Int}(h:0≤tick):A42 s lane tick=some (B2h s lane tick):=by
  obtain ⟨h1,h2⟩:=S.sum
  unfold A42
  have e1:loop (W1 s) (0,0)=some (B2k s.Phases):=by
    have:=g_l1 s S s.Phases 0 0 rfl (by omega) (by omega) (by have:=S.many;omega)
    rw [Int.zero_add]at this;exact this
  have hne:B2k s.Phases≠0:=by omega
  rw [e1,Option.bind_some]
  unfold C51
  rw [if_neg hne,Option.bind_some,if_neg hne,Option.bind_some,if_neg hne,Option.bind_some,D2f S h]
  refine g_l2 s S lane s.Phases 0 _ rfl (by omega) (Int.emod_nonneg _ hne) ?_
  have:=Int.emod_lt_of_pos (s.Offset+tick) (b:=B2k s.Phases) (by omega)
  omega
noncomputable def B7f (m:Map)(g lane tick:Int):Bool:=(((decide (tick≥0))&& (decide (g≥0)))&& (decide (g< (m.Signals.length:Int))))&&isM m lane&&B2h (m.Signals.getD g.toNat default) lane tick
theorem C85 {m:Map}(B:BearM m)(g lane tick:Int):A5z m g lane tick=some (B7f m g lane tick):=by
  unfold A5z B7f
  rw [B19 B]
  cases hc:(((decide (tick≥0))&& (decide (g≥0)))&& (decide (g< (m.Signals.length:Int))))
  ·rfl
  ·cases hi:isM m lane
   ·rfl
   ·simp only [Bool.and_eq_true,decide_eq_true_eq]at hc
    obtain ⟨⟨c1,c2⟩,c3⟩:=hc
    have hl:g.toNat<m.Signals.length:=by omega
    have hget:m.Signals[g.toNat]? =some (m.Signals.getD g.toNat default):=by rw [List.getD,List.getElem?_eq_getElem hl];rfl
    have hg:F0 m.Signals g=some (m.Signals.getD g.toNat default):=by unfold F0;rw [if_pos c2,hget]
    have S:=((isM_true.1 hi).2.2).sig B hget
    simp only [cond_true,Option.bind_some,Bool.true_and,hg,C07 S lane c1]
end Go.Abs.Roadsz
/-! The red lines. -/
namespace Go.Abs.Roadsz
open Go Go.Abs
theorem B37 {high:Int}: ∀{l:List Int} {low:Int},A2l high low l=true→l.Pairwise (· < ·)
  | [],_,_=>List.Pairwise.nil
  |n::r,low,h=>by
   simp only [A2l,Bool.and_eq_true]at h
   refine List.pairwise_cons.2 ⟨fun x hx=> ?_,B37 h.2⟩
   have:=(A6g h.2 x hx).1
   omega
def B3q (m:Map)(z:Zone):Signal:=m.Signals.getD (z.Signal_ - 1).toNat default
def A51 (m:Map)(lane tick:Int)(z:Zone)(p:Part):Option Int:=if p.Lane_==lane&& !B2h (B3q m z) lane tick then some p.From else none
def Z6 (m:Map)(lane tick:Int)(z:Zone):List Int:=if z.Signal_==0 then []else z.Parts.filterMap (A51 m lane tick z)
def C08 (m:Map)(lane tick:Int):List Int:=m.Zones.flatMap (Z6 m lane tick)
theorem C2i (m:Map)(lane tick:Int)(z:Zone): ∀l:List Part,(l.map (·.Lane_)).Pairwise (· < ·)→(l.filterMap (A51 m lane tick z)).length≤1
  | [],_=>by simp
  |p::r,h=>by
   obtain ⟨h1,h2⟩:=List.pairwise_cons.1 h
   rw [List.filterMap_cons]
   by_cases e:p.Lane_=lane
   ·have:r.filterMap (A51 m lane tick z)= []:=by
      rw [List.filterMap_eq_nil_iff]
      intro q hq
      have:p.Lane_<q.Lane_:=h1 q.Lane_ (List.mem_map_of_mem hq)
      unfold A51
      rw [show (q.Lane_==lane)=false by simp;omega];rfl
    rw [this]
    cases A51 m lane tick z p<;>simp
   ·have:A51 m lane tick z p=none:=by unfold A51;rw [show (p.Lane_==lane)=false by simp [e]];rfl
    rw [this]
    exact C2i m lane tick z r h2
theorem B2i {m:Map}{z:Zone}(Z:ZoneOK m z)(lane tick:Int):(Z6 m lane tick z).length≤1:=by
  unfold Z6
  split
  ·simp
  ·exact C2i m lane tick z _ (B37 Z.rise)
theorem C2j {m:Map}(lane tick:Int): ∀l:List Zone,(∀z∈l,ZoneOK m z)→(l.flatMap (Z6 m lane tick)).length≤l.length
  | [],_=>by simp
  |z::r,h=>by
   rw [List.flatMap_cons,List.length_append,List.length_cons]
   have:=B2i (h z (by simp)) lane tick
   have:=C2j lane tick r fun y hy=>h y (List.mem_cons_of_mem _ hy)
   omega
theorem D2g {m:Map}(B:BearM m)(V:ValR m)(lane:Int){tick:Int}(ht:0≤tick)(z:Zone)(Z:ZoneOK m z)(hz:z.Signal_≠0): ∀(r:List Part) (i:Nat) (out:List Int),z.Parts.drop i=r→i≤z.Parts.length→out.length+r.length≤1000→
    loop (A0n m lane tick z) (out,(i:Int))=some (out++r.filterMap (A51 m lane tick z)):=by
  intro r
  induction r with
  |nil=>
   intro i out hi hil hl
   have:=R1 hi
   obtain rfl:i=z.Parts.length:=by omega
   refine D8 ?_
   unfold A0n
   rw [T4];simp
  |cons p r ih=>
   intro i out hi hil hl
   have hlt:=Q7 hi
   have hp:=A3y hi
   have hsz:=Z.six
   simp only [List.length_cons]at hl
   have hw:w64 (z.Signal_ - 1)=z.Signal_ - 1:=M6 (by have:=Z.sig;have:=V.signals;omega)
   have hk:(z.Signal_ - 1).toNat<m.Signals.length:=by have:=Z.sig;omega
   have hget:m.Signals[(z.Signal_ - 1).toNat]? =some (B3q m z):=by rw [B3q,List.getD,List.getElem?_eq_getElem hk];rfl
   have hg:F0 m.Signals (z.Signal_ - 1)=some (B3q m z):=by unfold F0;rw [if_pos (by have:=Z.sig;omega),hget]
   have hs:A0n m lane tick z (out,(i:Int))=some (.go ((match A51 m lane tick z p with|some b=>out++ [b]|none=>out),((i+1:Nat):Int))):=by
     unfold A0n A51
     dsimp only
     rw [X9 hlt,F3 hp,cond_true,Option.bind_some,hw,hg,P0 hlt (by omega)]
     cases p.Lane_==lane
     ·rfl
     ·simp only [cond_true,Option.bind_some,Bool.true_and]
      rw [C07 (V.sig B hget) lane ht,Option.bind_some]
      cases B2h (B3q m z) lane tick
      ·simp only [Bool.not_false,cond_true,if_true]
       rw [B0z (by simp;omega),Option.bind_some]
      ·rfl
   rw [Q8 hs,List.filterMap_cons]
   cases A51 m lane tick z p with
   |none=>exact ih (i+1) out (I9 hi) (by omega) (by omega)
   |some b=>
    dsimp only
    rw [ih (i+1) (out++ [b]) (I9 hi) (by omega) (by simp;omega)]
    simp
theorem D2h {m:Map}(B:BearM m)(V:ValR m)(lane:Int){tick:Int}(ht:0≤tick): ∀(r:List Zone) (i:Nat) (out:List Int),m.Zones.drop i=r→i≤m.Zones.length→out.length+r.length≤100→
    loop (A0o m lane tick) (out,(i:Int))=some (out++r.flatMap (Z6 m lane tick)):=by
  intro r
  induction r with
  |nil=>
   intro i out hi hil hl
   have:=R1 hi
   obtain rfl:i=m.Zones.length:=by omega
   refine D8 ?_
   unfold A0o
   rw [T4];simp
  |cons z r ih=>
   intro i out hi hil hl
   have hlt:=Q7 hi
   have hz:=A3y hi
   have Z:=V.zoneOK (List.mem_of_getElem? hz)
   simp only [List.length_cons]at hl
   have hn:=V.zones
   have hs:A0o m lane tick (out,(i:Int))=some (.go (out++Z6 m lane tick z,((i+1:Nat):Int))):=by
     unfold A0o Z6
     dsimp only
     rw [X9 hlt,F3 hz,cond_true,Option.bind_some,P0 hlt (by omega)]
     by_cases e:z.Signal_=0
     ·rw [show (z.Signal_==0)=true by simp [e],cond_true,if_pos rfl];simp
     ·rw [show (z.Signal_==0)=false by simp [e],cond_false,if_neg (by simp)]
      have:=D2g B V lane ht z Z e z.Parts 0 out rfl (by omega) (by have:=Z.six;omega)
      have this':loop (A0n m lane tick z) (out,0)=_:=this
      rw [this',Option.bind_some]
   have:=B2i Z lane tick
   rw [Q8 hs,ih (i+1) _ (I9 hi) (by omega) (by rw [List.length_append];omega),List.flatMap_cons,List.append_assoc]
/-- The red lines: strictly ascending, and those that there are. -/
theorem D0t {m:Map}(B:BearM m)(V:ValR m)(lane:Int){tick:Int}(ht:0≤tick): ∃R,A98 m lane tick=some R∧R.Pairwise (· < ·)∧(∀x,x∈R↔x∈C08 m lane tick)∧R.length≤1000:=by
  have hlen:(C08 m lane tick).length≤12:=Nat.le_trans (C2j lane tick m.Zones fun z hz=>V.zoneOK hz) V.zones
  have h1:loop (A0o m lane tick) ([],0)=some (C08 m lane tick):=by
    have:=D2h B V lane ht m.Zones 0 [] rfl (by omega) (by simp;have:=V.zones;omega)
    rw [List.nil_append]at this
    exact this
  unfold A98
  rw [h1,Option.bind_some]
  cases q:C08 m lane tick with
  |nil=>exact ⟨[],by rw [C84];rfl,List.Pairwise.nil,fun x=> .rfl,by simp⟩
  |cons a l=>
   rw [q]at hlen
   obtain ⟨ys,g1,g2,g3⟩:=D0s (a::l) hlen
   have hys:ys≠ []:=by rintro rfl;exact absurd g2.length_eq (by simp)
   have hc:B44 ys=some (A2f ys):=by cases ys with|nil=>exact absurd rfl hys|cons=>rfl
   refine ⟨A2f ys,by rw [show List.isEmpty (a::l)=false from rfl,cond_false,g1,Option.bind_some,hc];rfl,B2g _ (g3.imp fun {a b} h=> ?_),fun x=>(B36 _ _).trans g2.mem_iff,?_⟩
   ·simp only [ltI,decide_eq_false_iff_not]at h;omega
   ·have: ∀l:List Int,(A2f l).length≤l.length:=by
      intro l
      induction l with
      |nil=>simp [A2f]
      |cons a l ih=>
       cases l with
       |nil=>simp [A2f]
       |cons b r=>
        rw [A2f]
        cases a==b
        ·simp only [cond_false,List.length_cons]at ih ⊢;omega
        ·simp only [cond_true,List.length_cons]at ih ⊢;omega
    have h2:=this ys
    rw [g2.length_eq]at h2
    omega
theorem D2i {m:Map}(B:BearM m)(lane tick:Int): ∃R,A7f m lane tick=some R∧R.Pairwise (· < ·)∧(∀x,x∈R↔ (0≤tick∧isM m lane=true∧x∈C08 m lane tick))∧R.length≤1000:=by
  unfold A7f
  rw [B19 B]
  by_cases ht:tick<0
  ·exact ⟨[],by rw [show decide (tick<0)=true from decide_eq_true ht];rfl,List.Pairwise.nil,fun x=>⟨fun h=>absurd h (by simp),fun h=>by omega⟩,by simp⟩
  ·rw [show decide (tick<0)=false from decide_eq_false ht]
   cases hi:isM m lane
   ·exact ⟨[],rfl,List.Pairwise.nil,fun x=>⟨fun h=>absurd h (by simp),fun h=>by cases h.2.1⟩,by simp⟩
   ·obtain ⟨R,g1,g2,g3,g4⟩:=D0t B (isM_true.1 hi).2.2 lane (tick:=tick) (by omega)
    exact ⟨R,by simp only [Bool.not_false,cond_true,Option.bind_some,Bool.not_true,Bool.or_false,cond_false,g1],g2,fun x=>(g3 x).trans ⟨fun h=>⟨by omega,rfl,h⟩,fun h=>h.2.2⟩,g4⟩
end Go.Abs.Roadsz
namespace Go.Abs
open Go
section
variable {α β σ τ:Type}
end
end Go.Abs
namespace Go.Abs.Roadsz
open Go Go.Abs
theorem C86 {z:Zone}(hl:z.Parts.length≤1000000)(k:Int):A9w z k=some (C5v z k):=by
  have key: ∀(r:List Part) (i:Nat),z.Parts.drop i=r→i≤z.Parts.length→thenS (loop (A0u z k) (i:Int)) (fun _=>some ((⟨0,0,0,0⟩:Part),false)) (fun r=>some r)=some (match r.find? (fun p=>p.Lane_==k)with|some p=>(p,true)|none=>(⟨0,0,0,0⟩,false)):=by
    intro r
    induction r with
    |nil=>
     intro i hi hil
     have:=R1 hi
     obtain rfl:i=z.Parts.length:=by omega
     rw [D8 (t:= .inl ()) (by unfold A0u;rw [T4];rfl)];rfl
    |cons p r ih=>
     intro i hi hil
     have hlt:=Q7 hi
     have hp:=A3y hi
     rw [List.find?_cons]
     cases q:p.Lane_==k
     ·rw [Q8 (s':=((i+1:Nat):Int)) (by unfold A0u;rw [X9 hlt,F3 hp,cond_true,Option.bind_some,q,P0 hlt (by omega)];rfl)]
      exact ih (i+1) (I9 hi) (by omega)
     ·rw [D8 (t:= .inr (p,true)) (by unfold A0u;rw [X9 hlt,F3 hp,cond_true,Option.bind_some,q,cond_true,Option.bind_some])];rfl
  exact key z.Parts 0 rfl (by omega)
end Go.Abs.Roadsz
/-! RoadsSignals. -/
namespace Go.Abs.Roadsz
open Go Go.Abs
theorem D3a (s:Signal)(S:SigOK s): ∀(r:List Phase) (i:Nat) (a:Int),s.Phases.drop i=r→i≤s.Phases.length→0≤a→a+10000*r.length≤1000000→loop (W2 s) (a,(i:Int))=some (a+B2k r):=by
  intro r
  induction r with
  |nil=>
   intro i a hi hil h0 h1
   have:=R1 hi
   obtain rfl:i=s.Phases.length:=by omega
   refine D8 ?_
   unfold W2
   rw [T4];simp [B2k]
  |cons p r ih=>
   intro i a hi hil h0 h1
   have hlt:=Q7 hi
   have hp:=A3y hi
   have hb:=S.ticks p (List.mem_of_getElem? hp)
   simp only [List.length_cons]at h1
   have hs:W2 s (a,(i:Int))=some (.go (a+p.Ticks,((i+1:Nat):Int))):=by
     unfold W2
     dsimp only
     rw [X9 hlt,F3 hp,cond_true,Option.bind_some,M6 (by omega),P0 hlt (by have:=S.many;omega)]
   rw [Q8 hs,ih (i+1) _ (I9 hi) (by omega) (by omega) (by omega),B2k]
   congr 1;omega
theorem D3b (s:Signal)(S:SigOK s)(lane:Int): ∀(r:List Phase) (i:Nat) (a:Int),s.Phases.drop i=r→i≤s.Phases.length→0≤a→a≤1000000→thenS (loop (R9 s lane) (a,(i:Int))) (fun _=>some false) (fun r=>some r)=some (C06 lane a r):=by
  intro r
  induction r with
  |nil=>
   intro i a hi hil h0 h1
   have:=R1 hi
   obtain rfl:i=s.Phases.length:=by omega
   rw [D8 (t:= .inl ())]
   ·rfl
   ·unfold R9
    rw [T4];rfl
  |cons p r ih=>
   intro i a hi hil h0 h1
   have hlt:=Q7 hi
   have hp:=A3y hi
   have hb:=S.ticks p (List.mem_of_getElem? hp)
   by_cases hc:p.Ticks≤a
   ·have hs:R9 s lane (a,(i:Int))=some (.go (a - p.Ticks,((i+1:Nat):Int))):=by
      unfold R9
      dsimp only
      rw [X9 hlt,F3 hp,cond_true,Option.bind_some,show decide (a<p.Ticks)=false from decide_eq_false (by omega),cond_false,Option.bind_some,M6 (by omega),P0 hlt (by have:=S.many;omega)]
    rw [Q8 hs,ih (i+1) _ (I9 hi) (by omega) (by omega) (by omega),C06,if_pos hc]
   ·have hs:R9 s lane (a,(i:Int))=some (.out (.inr (p.Green.contains lane))):=by
      unfold R9
      dsimp only
      rw [X9 hlt,F3 hp,cond_true,Option.bind_some,show decide (a<p.Ticks)=true from decide_eq_true (by omega),cond_true,Option.bind_some,D2d _ (S.green p (List.mem_of_getElem? hp)),Option.bind_some]
    rw [D8 hs,C06,if_neg hc];rfl
theorem C09 {s:Signal}(S:SigOK s)(lane:Int){tick:Int}(h:0≤tick):A45 s lane tick=some (B2h s lane tick):=by
  obtain ⟨h1,h2⟩:=S.sum
  unfold A45
  have e1:loop (W2 s) (0,0)=some (B2k s.Phases):=by
    have:=D3a s S s.Phases 0 0 rfl (by omega) (by omega) (by have:=S.many;omega)
    rw [Int.zero_add]at this;exact this
  have hne:B2k s.Phases≠0:=by omega
  rw [e1,Option.bind_some]
  unfold C51
  rw [if_neg hne,Option.bind_some,if_neg hne,Option.bind_some,if_neg hne,Option.bind_some,D2f S h]
  refine D3b s S lane s.Phases 0 _ rfl (by omega) (Int.emod_nonneg _ hne) ?_
  have:=Int.emod_lt_of_pos (s.Offset+tick) (b:=B2k s.Phases) (by omega)
  omega
theorem C60 {m:Map}(B:BearM m)(g lane tick:Int):A63 m g lane tick=some (B7f m g lane tick):=by
  unfold A63 B7f
  rw [A8j B,Option.bind_some]
  have e:(((isM m lane&& (decide (g≥0)))&& (decide (g< (m.Signals.length:Int))))&& (decide (tick≥0)))=((((decide (tick≥0))&& (decide (g≥0)))&& (decide (g< (m.Signals.length:Int))))&&isM m lane):=by
    cases isM m lane<;>cases decide (g≥0)<;>cases decide (g< (m.Signals.length:Int))<;>cases decide (tick≥0)<;>rfl
  rw [e]
  cases hc:((((decide (tick≥0))&& (decide (g≥0)))&& (decide (g< (m.Signals.length:Int))))&&isM m lane)
  ·rfl
  ·simp only [Bool.and_eq_true,decide_eq_true_eq]at hc
   obtain ⟨⟨⟨c1,c2⟩,c3⟩,c4⟩:=hc
   have hl:g.toNat<m.Signals.length:=by omega
   have hget:m.Signals[g.toNat]? =some (m.Signals.getD g.toNat default):=by rw [List.getD,List.getElem?_eq_getElem hl];rfl
   have hg:F0 m.Signals g=some (m.Signals.getD g.toNat default):=by unfold F0;rw [if_pos c2,hget]
   have S:=((isM_true.1 c4).2.2).sig B hget
   simp only [cond_true,Option.bind_some,Bool.true_and,hg,C09 S lane c1]
theorem C0a (m:Map)(lane tick:Int)(z:Zone): ∀l:List Part,(l.map (·.Lane_)).Pairwise (· < ·)→l.filterMap (A51 m lane tick z)=match l.find? (fun p=>p.Lane_==lane)with|some p=>if B2h (B3q m z) lane tick=true then []else [p.From]|none=> []
  | [],_=>rfl
  |p::r,h=>by
   obtain ⟨h1,h2⟩:=List.pairwise_cons.1 h
   rw [List.filterMap_cons,List.find?_cons]
   by_cases e:p.Lane_=lane
   ·have:r.filterMap (A51 m lane tick z)= []:=by
      rw [List.filterMap_eq_nil_iff]
      intro q hq
      have:p.Lane_<q.Lane_:=h1 q.Lane_ (List.mem_map_of_mem hq)
      unfold A51
      rw [show (q.Lane_==lane)=false by simp;omega];rfl
    rw [this,show (p.Lane_==lane)=true by simp [e]]
    unfold A51
    rw [show (p.Lane_==lane)=true by simp [e]]
    cases B2h (B3q m z) lane tick<;>rfl
   ·have:A51 m lane tick z p=none:=by unfold A51;rw [show (p.Lane_==lane)=false by simp [e]];rfl
    rw [this,show (p.Lane_==lane)=false by simp [e]]
    exact C0a m lane tick z r h2
theorem D0u (out:List Int)(q:Part×Bool)(i0:Int)(hl:out.length≤1000): ∀(r:List Int) (i:Nat),out.drop i=r→i≤out.length→loop (W3 (out,i0) q) (i:Int)=some ((i+ (r.takeWhile fun y=>decide (y<q.1.From)).length:Nat):Int):=by
  intro r
  induction r with
  |nil=>
   intro i hi hil
   have:=R1 hi
   obtain rfl:i=out.length:=by omega
   refine D8 ?_
   unfold W3
   dsimp only
   rw [T4];rfl
  |cons y r ih=>
   intro i hi hil
   have hlt:=Q7 hi
   have hy:=A3y hi
   rw [List.takeWhile_cons]
   by_cases hc:y<q.1.From
   ·rw [if_pos (by simpa using hc),List.length_cons,Q8 (s':=((i+1:Nat):Int)),ih (i+1) (I9 hi) (by omega)]
    ·congr 2;omega
    ·unfold W3
     dsimp only
     rw [X9 hlt,F3 hy,cond_true,Option.bind_some,show decide (y<q.1.From)=true from decide_eq_true hc,Bool.and_true,cond_true,P0 hlt (by omega)]
   ·rw [if_neg (by simpa using hc)]
    refine D8 ?_
    unfold W3
    dsimp only
    rw [X9 hlt,F3 hy,cond_true,Option.bind_some,show decide (y<q.1.From)=false from decide_eq_false hc];rfl
theorem C61 {α:Type}(L R:List α):B71 (L++R) 0 (L.length:Int)=some L:=by
  unfold B71
  rw [if_pos ⟨by omega,by omega,by simp;omega⟩]
  simp
theorem C3x {α:Type}(L R:List α):B71 (L++R) (L.length:Int) ((L++R).length:Int)=some R:=by
  unfold B71
  rw [if_pos ⟨by omega,by simp;omega,by omega⟩,show (((L++R).length:Int)).toNat=(L++R).length from Int.toNat_natCast _,List.take_length,show ((L.length:Int)).toNat=L.length from Int.toNat_natCast _,List.drop_left]
theorem C90 {α:Type}{p:α→Bool}: ∀{l:List α} {x:α},x∈l.takeWhile p→p x=true
  | [],_,h=>by simp at h
  |a::r,x,h=>by
   rw [List.takeWhile_cons]at h
   split at h
   ·rename_i ha
    rcases List.mem_cons.1 h with rfl|h
    ·exact ha
    ·exact C90 h
   ·simp at h
/-- A number is put into a list that is strictly ascending. -/
theorem C87 (out:List Int)(x:Int)(hs:out.Pairwise (· < ·))(hl:out.length≤500): ∃out':List Int,∀(i':Int),((cond (decide (((out.takeWhile fun y=>decide (y<x)).length:Int)< (out.length:Int))) (F0 out ((out.takeWhile fun y=>decide (y<x)).length:Int)) (some default)).bind fun v6=>cond ((decide (((out.takeWhile fun y=>decide (y<x)).length:Int)< (out.length:Int)))&& (v6==x)) (some (.go (out,i'):Stp (List Int×Int) (List Int))) ((B71 out 0 ((out.takeWhile fun y=>decide (y<x)).length:Int)).bind fun v7=>(A7b ([]:List Int) v7).bind fun v8=>(A7b v8 [x]).bind fun v9=>(B71 out ((out.takeWhile fun y=>decide (y<x)).length:Int) (out.length:Int)).bind fun v10=>(A7b v9 v10).bind fun v11=>some (.go (v11,i'))))=some (.go (out',i'))∧
    out'.Pairwise (· < ·)∧(∀y,y∈out'↔y=x∨y∈out)∧out'.length≤out.length+1:=by
  have e:=List.takeWhile_append_dropWhile (p:=fun y=>decide (y<x)) (l:=out)
  have hL: ∀y∈out.takeWhile (fun y=>decide (y<x)),y<x:=fun y hy=>by
    have:=C90 hy
    simpa using this
  have hR0: ∀y R',out.dropWhile (fun y=>decide (y<x))=y::R'→x≤y:=fun y R' h=>by
    have:=List.head?_dropWhile_not (fun y=>decide (y<x)) out
    rw [h]at this
    simp at this;exact this
  generalize out.takeWhile (fun y=>decide (y<x))=L at*
  generalize out.dropWhile (fun y=>decide (y<x))=R at*
  subst e
  have hll:L.length+R.length≤500:=by simpa using hl
  have hgo: ∀i':Int,((B71 (L++R) 0 (L.length:Int)).bind fun v7=>(A7b ([]:List Int) v7).bind fun v8=>(A7b v8 [x]).bind fun v9=>(B71 (L++R) (L.length:Int) ((L++R).length:Int)).bind fun v10=>(A7b v9 v10).bind fun v11=>some (.go (v11,i'):Stp (List Int×Int) (List Int)))=some (.go (L++x::R,i')):=fun i'=>by
    rw [C61,Option.bind_some,B0z (by simp;omega),Option.bind_some,List.nil_append,B0z (by simp;omega),Option.bind_some,C3x,Option.bind_some,B0z (by simp;omega),Option.bind_some]
    simp
  obtain ⟨p1,p2,p3⟩:=List.pairwise_append.1 hs
  cases R with
  |nil=>
   refine ⟨L++ [x],fun i'=> ?_⟩
   have:=hgo i'
   refine ⟨?_,List.pairwise_append.2 ⟨p1,List.pairwise_singleton _ _,fun y hy z hz=>by rw [List.mem_singleton.1 hz];exact hL y hy⟩,fun y=>by simp [or_comm],by simp⟩
   rw [show decide ((L.length:Int)< ((L++ ([]:List Int)).length:Int))=false from decide_eq_false (by simp)]
   simp only [cond_false,Option.bind_some,Bool.false_and]
   exact this
  |cons y R=>
   have hy:=hR0 y R rfl
   have hg:F0 (L++y::R) (L.length:Int)=some y:=B47 _ _ _ _ rfl
   by_cases hxy:y=x
   ·subst hxy
    refine ⟨L++y::R,fun i'=>⟨?_,hs,fun z=>⟨.inr,fun h=>h.elim (fun h=>by rw [h];simp) id⟩,by simp⟩⟩
    rw [show decide ((L.length:Int)< ((L++y::R).length:Int))=true from decide_eq_true (by simp;omega)]
    simp only [cond_true,hg,Option.bind_some,Bool.true_and]
    rw [show (y==y)=true by simp];rfl
   ·refine ⟨L++x::y::R,fun i'=> ?_⟩
    have:=hgo i'
    obtain ⟨q1,q2⟩:=List.pairwise_cons.1 p2
    refine ⟨?_,List.pairwise_append.2 ⟨p1,List.pairwise_cons.2 ⟨fun z hz=> ?_,p2⟩,fun a ha b hb=> ?_⟩,fun z=>by simp only [List.mem_append,List.mem_cons];constructor<;>(intro h;rcases h with h|h|h|h<;>simp [h]),by simp;omega⟩
    ·rw [show decide ((L.length:Int)< ((L++y::R).length:Int))=true from decide_eq_true (by simp;omega)]
     simp only [cond_true,hg,Option.bind_some,Bool.true_and]
     rw [show (y==x)=false by simp [hxy],cond_false]
     exact this
    ·rcases List.mem_cons.1 hz with rfl|hz
     ·omega
     ·have:=q1 z hz;omega
    ·rcases List.mem_cons.1 hb with rfl|hb
     ·exact hL a ha
     ·exact p3 a ha b hb
theorem D2j {m:Map}(B:BearM m)(V:ValR m)(lane:Int){tick:Int}(ht:0≤tick): ∀(r:List Zone) (i:Nat) (out:List Int),m.Zones.drop i=r→i≤m.Zones.length→out.Pairwise (· < ·)→out.length+r.length≤100→
    ∃R,loop (W4 m lane tick) (out,(i:Int))=some R∧R.Pairwise (· < ·)∧(∀y,y∈R↔y∈out∨y∈r.flatMap (Z6 m lane tick))∧R.length≤100:=by
  intro r
  induction r with
  |nil=>
   intro i out hi hil hs hl
   have:=R1 hi
   obtain rfl:i=m.Zones.length:=by omega
   refine ⟨out,D8 ?_,hs,fun y=>by simp,by simpa using hl⟩
   unfold W4
   rw [T4];rfl
  |cons z r ih=>
   intro i out hi hil hs hl
   have hlt:=Q7 hi
   have hz:=A3y hi
   have hzm:=List.mem_of_getElem? hz
   have Z:=V.zoneOK hzm
   have hsg:=Z.sig
   have hns:=V.signals
   have hnz:=V.zones
   simp only [List.length_cons]at hl
   have hpl:z.Parts.length≤1000000:=by have:=Z.six;omega
   suffices h: ∃out',W4 m lane tick (out,(i:Int))=some (.go (out',((i+1:Nat):Int)))∧out'.Pairwise (· < ·)∧(∀y,y∈out'↔y∈out∨y∈Z6 m lane tick z)∧out'.length≤out.length+1 by
     obtain ⟨out',g1,g2,g3,g4⟩:=h
     obtain ⟨R,k1,k2,k3,k4⟩:=ih (i+1) out' (I9 hi) (by omega) g2 (by omega)
     refine ⟨R,by rw [Q8 g1];exact k1,k2,fun y=> ?_,k4⟩
     rw [k3,g3,List.flatMap_cons,List.mem_append,or_assoc]
   unfold W4
   dsimp only
   rw [X9 hlt,F3 hz,cond_true,Option.bind_some,C86 hpl,Option.bind_some,P0 hlt (by omega),M6 (n:=z.Signal_ - 1) (by omega)]
   have hzl:Z6 m lane tick z=if z.Signal_==0 then []else match z.Parts.find? (fun p=>p.Lane_==lane)with|some p=>if B2h (B3q m z) lane tick=true then []else [p.From]|none=> []:=by
     unfold Z6
     rw [C0a m lane tick z z.Parts (B37 Z.rise)]
   have hskip:Z6 m lane tick z= []→∃out',some (.go (out,((i+1:Nat):Int)):Stp (List Int×Int) (List Int))=some (.go (out',((i+1:Nat):Int)))∧out'.Pairwise (· < ·)∧(∀y,y∈out'↔y∈out∨y∈Z6 m lane tick z)∧out'.length≤out.length+1:=fun h=>⟨out,rfl,hs,fun y=>by rw [h];simp,by omega⟩
   cases hp:z.Parts.find? (fun p=>p.Lane_==lane)with
   |none=>
    have hpm:C5v z lane=(⟨0,0,0,0⟩,false):=by unfold C5v;rw [hp]
    rw [hpm]
    simp only [Bool.not_false,Bool.true_or,Bool.not_true,cond_false,Option.bind_some,cond_true]
    refine hskip ?_
    rw [hzl,hp]
    split<;>rfl
   |some p=>
    have hpm:C5v z lane=(p,true):=by unfold C5v;rw [hp]
    rw [hpm]
    by_cases h0:z.Signal_=0
    ·rw [show (z.Signal_==0)=true by simp [h0]]
     simp only [Bool.not_true,Bool.false_or,cond_false,Option.bind_some,Bool.true_or,cond_true]
     refine hskip ?_
     rw [hzl,if_pos (by simp [h0])]
    ·have hk:(z.Signal_ - 1).toNat<m.Signals.length:=by omega
     have hget:m.Signals[(z.Signal_ - 1).toNat]? =some (B3q m z):=by rw [B3q,List.getD,List.getElem?_eq_getElem hk];rfl
     have hg:F0 m.Signals (z.Signal_ - 1)=some (B3q m z):=by unfold F0;rw [if_pos (by omega),hget]
     rw [show (z.Signal_==0)=false by simp [h0]]
     simp only [Bool.not_true,Bool.false_or,Bool.not_false,cond_true,Option.bind_some,hg,C09 (V.sig B hget) lane ht]
     rw [if_neg (by simp [h0]),hp]at hzl
     cases hgr:B2h (B3q m z) lane tick with
     |true=>
      rw [cond_true]
      refine hskip ?_
      rw [hzl,hgr];rfl
     |false=>
      rw [hgr]at hzl
      have hzl':Z6 m lane tick z= [p.From]:=hzl
      have h2:loop (W3 (out,(i:Int)) (p,true)) 0=some (((out.takeWhile fun y=>decide (y<p.From)).length:Nat):Int):=by
        have:=D0u out (p,true) (i:Int) (by omega) out 0 rfl (by omega)
        rw [Nat.zero_add]at this
        exact this
      obtain ⟨out',hk1⟩:=C87 out p.From hs (by omega)
      obtain ⟨k1,k2,k3,k4⟩:=hk1 ((i+1:Nat):Int)
      rw [cond_false,h2,Option.bind_some]
      exact ⟨out',k1,k2,fun y=>by rw [k3,hzl',List.mem_singleton,or_comm],k4⟩
theorem D0v {m:Map}(B:BearM m)(lane tick:Int): ∃R,A7f m lane tick=some R∧A99 m lane tick=some R∧R.length≤1000:=by
  obtain ⟨R,r1,r2,r3,r4⟩:=D2i B lane tick
  refine ⟨R,r1,?_,r4⟩
  unfold A99
  rw [A8j B,Option.bind_some]
  by_cases ht:tick<0
  ·have:R= []:=List.eq_nil_iff_forall_not_mem.2 fun x hx=>by have:=(r3 x).1 hx;omega
   rw [this,show decide (tick<0)=true from decide_eq_true ht,Bool.or_true];rfl
  ·rw [show decide (tick<0)=false from decide_eq_false ht,Bool.or_false]
   cases hi:isM m lane
   ·have:R= []:=List.eq_nil_iff_forall_not_mem.2 fun x hx=>by have:=(r3 x).1 hx;rw [hi]at this;cases this.2.1
    rw [this];rfl
   ·have V:=(isM_true.1 hi).2.2
    obtain ⟨R',k1,k2,k3,_⟩:=D2j B V lane (tick:=tick) (by omega) m.Zones 0 [] rfl (by omega) List.Pairwise.nil (by simp;have:=V.zones;omega)
    have k1':loop (W4 m lane tick) ([],0)=some R':=k1
    have:R=R':=B7e r2 k2 fun x=>by
      rw [r3,k3]
      exact ⟨fun h=> .inr h.2.2,fun h=>⟨by omega,hi,h.elim (fun h=>absurd h (by simp)) id⟩⟩
    unfold A7y
    rw [this,k1'];rfl
theorem B6q (l:List Int)(hl:l.length≤1000000):A3n l l=some true:=by
  unfold A3n
  rw [C04 l (fun _=>false) false (fun i a h=>by
   have hi:=A04 h
   unfold A12
   rw [X9 hi,F3 h,P0 hi (by omega)]
   simp) (by unfold A12;rw [T4];rfl)]
  simp [thenS]
theorem C62 {m:Map}(B:BearM m)(k off tick:Int):A65 m k off tick=some (B7d m k off tick):=by
  have hw:=B.toBearW.many
  unfold A65 B7d
  rw [A8j B,Option.bind_some]
  cases h:isM m k
  ·rfl
  ·obtain ⟨k0,k1,V⟩:=isM_true.1 h
   obtain ⟨l,e1,e2⟩:=B18 k0 k1
   by_cases h0:off<0
   ·rw [show decide (off<0)=true from decide_eq_true h0,if_neg (by unfold inR;rw [show decide (0≤off)=false from decide_eq_false (by omega)];simp)];rfl
   ·rw [show decide (off<0)=false from decide_eq_false h0]
    simp only [Bool.not_true,Bool.false_or,Bool.not_false,cond_true,B5x B k0 k1,Option.bind_some]
    by_cases h1:off>Y6 m k
    ·rw [show decide (off>Y6 m k)=true from decide_eq_true h1,if_neg (by unfold inR;rw [show decide (off≤Y6 m k)=false from decide_eq_false (by omega)];simp)];rfl
    ·rw [show decide (off>Y6 m k)=false from decide_eq_false h1,if_pos (by unfold inR;simp;omega),cond_false,e2,Option.bind_some,e1,Option.map_some,Option.getD_some]
     rw [C8w m.Works (B5y k off tick) id l.Limit (fun i w s hwi=>by
      have hi:=A04 hwi
      have hv:=V.work (List.mem_of_getElem? hwi)
      unfold A2r B5y inR
      dsimp only
      rw [X9 hi,F3 hwi,cond_true,Option.bind_some,P0 hi (by omega),C0y,show decide (tick≤w.End - 1)=decide (tick<w.End) from decide_eq_decide.2 (by omega)]
      cases w.Lane_==k
      ·rfl
      ·simp only [ge_iff_le,Bool.true_and]
       cases decide (w.From≤off)
       ·rfl
       ·cases decide (off≤w.To)
        ·rfl
        ·cases decide (w.Begin≤tick)
         ·rfl
         ·cases decide (tick<w.End)<;>rfl) (fun s=>by unfold A2r;rw [T4];rfl)]
     rfl
theorem A7k (m:Map)(signal lane offset tick:Int):A1e m signal lane offset tick=some true:=by
  unfold A1e
  rw [C81,Option.bind_some]
  cases hs:C05 m with
  |false=>
   show (A1s).bind _=_
   rw [C2g];rfl
  |true=>
   have B:=C3u hs
   obtain ⟨R,r1,r2,r3⟩:=D0v B lane tick
   rw [C85 B,C60 B]
   simp only [Bool.not_true,cond_false,Option.bind_some]
   rw [show (B7f m signal lane tick==B7f m signal lane tick)=true by simp]
   simp only [cond_true,r1,r2,Option.bind_some,B6q R (by omega),Bool.true_and,C82 B,C62 B]
   rw [show (B7d m lane offset tick==B7d m lane offset tick)=true by simp]
   simp only [cond_true,C2g,Option.bind_some]
   rfl
end Go.Abs.Roadsz
