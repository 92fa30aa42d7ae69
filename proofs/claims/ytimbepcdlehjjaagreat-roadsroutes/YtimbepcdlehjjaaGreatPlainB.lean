/-
  Plain facts, second part: the law itself.
-/
import Derived.Test.YtimbepcdlehjjaaGreatPlain
namespace Go.Abs.Roadsz
open Go Go.Abs
/-- All lists of a map are of bearable lengths. -/
structure BearM (m:Map):Prop where
  toBear:Bear m
  toBearS:BearS m
  toBearZ:BearZ m
  toBearW:BearW m
theorem BearM.lanes {m:Map}(B:BearM m):m.Lanes.length≤1000000:=B.toBear.lanes
noncomputable def C4x (m:Map):Int:=
  if inR m.Version 0 1099511627776=false then 2
  else if m.Lanes.length=0 then 6
  else if 12<m.Lanes.length∨12<m.Zones.length∨4<m.Signals.length∨8<m.Works.length then 8
  else ((M5 (laneE m.Lanes.length) 0 m.Lanes).or ((M5 (B16 m) 0 m.Lanes).or ((M5 (signalE m) 0 m.Signals).or ((M5 (zoneE m) 0 m.Zones).or (M5 (B5k m) 0 m.Works))))).getD 0
theorem A12 {α:Type}{g:Nat→α→Option Int}(h: ∀i a e,g i a=some e→e≠0): ∀{l:List α} {i:Nat} {e:Int},M5 g i l=some e→e≠0
  | [],_,_,q=>by cases q
  |a::r,i,e,q=>by
   unfold M5 at q
   cases hg:g i a with
   |some e'=>rw [hg]at q;cases q;exact h i a e hg
   |none=>rw [hg]at q;exact A12 h q
theorem B6i {m:Map}{i:Nat}{z:Zone}{e:Int}(h:zoneE m i z=some e):e≠0:=by
  unfold zoneE at h
  repeat' split at h
  all_goals first|(cases h;decide)|cases h
theorem B2b {m:Map}{i:Nat}{z:Signal}{e:Int}(h:signalE m i z=some e):e≠0:=by
  unfold signalE at h
  repeat' split at h
  all_goals first|(cases h;decide)|cases h
theorem C0z {m:Map}{i:Nat}{z:Work}{e:Int}(h:B5k m i z=some e):e≠0:=by
  unfold B5k at h
  repeat' split at h
  all_goals first|(cases h;decide)|cases h
theorem C10 {m:Map}{i:Nat}{z:Lane}{e:Int}(h:B16 m i z=some e):e≠0:=A12 (fun _ _ _=>C8c) h
/-- A loop that goes on as long as there is no error. -/
theorem D37 {α:Type}{F:Int×Int→Option (Stp (Int×Int) Int)}(l:List α)(g:Nat→α→Option Int)(hg: ∀i a e,g i a=some e→e≠0)(hl:l.length≤1000000)
    (hF: ∀(i:Nat) a,l[i]? =some a→F (0,(i:Int))=some (.go ((g i a).getD 0,((i+1:Nat):Int)))) (h0: ∀(i:Nat) (e:Int),e≠0→F (e,(i:Int))=some (.out e)) (h1:F (0,(l.length:Int))=some (.out 0)) (e0:Option Int) (he: ∀e,e0=some e→e≠0):
    loop F (e0.getD 0,0)=some ((e0.or (M5 g 0 l)).getD 0):=by
  have key: ∀(r:List α) (i:Nat),l.drop i=r→i≤l.length→loop F (0,(i:Int))=some ((M5 g i r).getD 0):=by
    intro r
    induction r with
    |nil=>
     intro i hi hil
     have:=T6 hi
     obtain rfl:i=l.length:=by omega
     exact D5 h1
    |cons a r ih=>
     intro i hi hil
     have hlt:=P7 hi
     have hs:=hF i a (A4i hi)
     rw [L3 hs]
     unfold M5
     cases h:g i a with
     |some e=>exact D5 (h0 (i+1) e (hg i a e h))
     |none=>exact ih (i+1) (L4 hi) (by omega)
  cases e0 with
  |some e=>exact D5 (h0 0 e (he e rfl))
  |none=>exact key l 0 rfl (by omega)
theorem B9c {m:Map}(B:BearM m):A88 m=some (C4x m):=by
  have hb:=B.lanes
  unfold A88 C4x
  rw [A9v,Option.bind_some]
  cases inR m.Version 0 1099511627776
  ·rfl
  ·simp only [Bool.not_true,cond_false,Bool.true_eq_false,if_false]
   by_cases h1:m.Lanes.length=0
   ·rw [if_pos h1,h1];rfl
   ·rw [if_neg h1,show ((m.Lanes.length:Int)==0)=false by simp only [beq_eq_false_iff_ne];omega,cond_false]
    by_cases h2:12<m.Lanes.length∨12<m.Zones.length∨4<m.Signals.length∨8<m.Works.length
    ·rw [if_pos h2,show ((((decide ((m.Lanes.length:Int)>12))||(decide ((m.Zones.length:Int)>12)))||(decide ((m.Signals.length:Int)>4)))||(decide ((m.Works.length:Int)>8)))=true by simp;omega];rfl
    ·rw [if_neg h2,show ((((decide ((m.Lanes.length:Int)>12))||(decide ((m.Zones.length:Int)>12)))||(decide ((m.Signals.length:Int)>4)))||(decide ((m.Works.length:Int)>8)))=false by simp;omega,cond_false]
     rw [C3r B.toBear]
     cases H:M5 (laneE m.Lanes.length) 0 m.Lanes with
     |some e=>rfl
     |none=>
      have n1: ∀e,M5 (B16 m) 0 m.Lanes=some e→e≠0:=fun e h=>A12 (fun _ _ _=>C10) h
      have n2: ∀e,(M5 (B16 m) 0 m.Lanes).or (M5 (signalE m) 0 m.Signals)=some e→e≠0:=fun e h=>by
        rcases Option.or_eq_some_iff.1 h with h|⟨_,h⟩
        ·exact n1 e h
        ·exact A12 (fun _ _ _=>B2b) h
      have n3: ∀e,((M5 (B16 m) 0 m.Lanes).or (M5 (signalE m) 0 m.Signals)).or (M5 (zoneE m) 0 m.Zones)=some e→e≠0:=fun e h=>by
        rcases Option.or_eq_some_iff.1 h with h|⟨_,h⟩
        ·exact n2 e h
        ·exact A12 (fun _ _ _=>B6i) h
      simp only [D34,thenS,Option.none_or]
      rw [(C2g B.toBear H).2,Option.bind_some]
      rw [D37 m.Signals (signalE m) (fun _ _ _=>B2b) B.toBearS.many (fun i a ha=>by
       have hi:=Z6 ha
       have hm:=B.toBearS.many
       unfold A35
       dsimp only
       rw [Z7 hi,G0 ha,Bool.true_and,show ((0:Int)==0)=true from rfl,cond_true,Option.bind_some,C68 B.toBearS i (List.mem_of_getElem? ha),O7 hi (by omega)];rfl) (fun i e he=>by
       unfold A35
       dsimp only
       rw [show (e==0)=false by simpa using he,Bool.and_false];rfl) (by unfold A35;dsimp only;rw [S3];rfl) _ n1,Option.bind_some]
      rw [D37 m.Zones (zoneE m) (fun _ _ _=>B6i) B.toBearZ.many (fun i a ha=>by
       have hi:=Z6 ha
       have hm:=B.toBearZ.many
       unfold A34
       dsimp only
       rw [Z7 hi,G0 ha,Bool.true_and,show ((0:Int)==0)=true from rfl,cond_true,Option.bind_some,D0i B.toBear B.toBearZ ha,O7 hi (by omega)];rfl) (fun i e he=>by
       unfold A34
       dsimp only
       rw [show (e==0)=false by simpa using he,Bool.and_false];rfl) (by unfold A34;dsimp only;rw [S3];rfl) _ n2,Option.bind_some]
      rw [D37 m.Works (B5k m) (fun _ _ _=>C0z) B.toBearW.many (fun i a ha=>by
       have hi:=Z6 ha
       have hm:=B.toBearW.many
       unfold A33
       dsimp only
       rw [Z7 hi,G0 ha,Bool.true_and,show ((0:Int)==0)=true from rfl,cond_true,Option.bind_some,D0k B.toBear (i:=i) a,O7 hi (by omega)];rfl) (fun i e he=>by
       unfold A33
       dsimp only
       rw [show (e==0)=false by simpa using he,Bool.and_false];rfl) (by unfold A33;dsimp only;rw [S3];rfl) _ n3,Option.bind_some]
      rw [Option.or_assoc,Option.or_assoc]
theorem B9d {m:Map}(B:BearM m):A1r m=some (C4x m):=by
  have hb:=B.lanes
  have s0:M0 m 0=(Q7 ⟨m⟩).bind fun v2=>cond (v2 !=0) (some (.out (.inr v2))) (some (.go 1)):=rfl
  have s1:M0 m 1=(U5 ⟨m⟩).bind fun v2=>cond (v2 !=0) (some (.out (.inr v2))) (some (.go 2)):=rfl
  have s2:M0 m 2=(S6 ⟨m⟩).bind fun v2=>cond (v2 !=0) (some (.out (.inr v2))) (some (.go 3)):=rfl
  have s3:M0 m 3=(Q8 ⟨m⟩).bind fun v2=>cond (v2 !=0) (some (.out (.inr v2))) (some (.go 4)):=rfl
  have s4:M0 m 4=(U7 ⟨m⟩).bind fun v2=>cond (v2 !=0) (some (.out (.inr v2))) (some (.go 5)):=rfl
  have s5:M0 m 5=(U8 ⟨m⟩).bind fun v2=>cond (v2 !=0) (some (.out (.inr v2))) (some (.go 6)):=rfl
  have s6:M0 m 6=some (.out (.inl ())):=rfl
  have stp: ∀(i j:Int) (e:Option Int) (X:Option Int),(∀e',e=some e'→e'≠0)→X=some (e.getD 0)→M0 m i=X.bind (fun v2=>cond (v2 !=0) (some (.out (.inr v2))) (some (.go j)))→loop (M0 m) i=match e with|some e'=>some (.inr e')|none=>loop (M0 m) j:=by
    intro i j e X he hX hs
    subst hX
    rw [Option.bind_some]at hs
    cases e with
    |none=>exact L3 hs
    |some e'=>
     rw [Option.getD_some,show (e' !=0)=true by simpa using he e' rfl]at hs
     exact D5 hs
  unfold A1r C4x
  have hnum:Q7 ⟨m⟩=some ((if inR m.Version 0 1099511627776=false then some 2 else if m.Lanes.length=0 then some 6 else if 12<m.Lanes.length∨12<m.Zones.length∨4<m.Signals.length∨8<m.Works.length then some 8 else none:Option Int).getD 0):=by
    unfold Q7
    dsimp only
    rw [A76,Option.bind_some]
    cases inR m.Version 0 1099511627776
    ·rfl
    ·simp only [Bool.not_true,cond_false,Bool.true_eq_false,if_false]
     by_cases h1:m.Lanes.length=0
     ·rw [if_pos h1,h1];rfl
     ·rw [if_neg h1,show ((m.Lanes.length:Int)==0)=false by simp only [beq_eq_false_iff_ne];omega,cond_false]
      by_cases h2:12<m.Lanes.length∨12<m.Zones.length∨4<m.Signals.length∨8<m.Works.length
      ·rw [if_pos h2,show ((((decide ((m.Lanes.length:Int)>12))||(decide ((m.Zones.length:Int)>12)))||(decide ((m.Signals.length:Int)>4)))||(decide ((m.Works.length:Int)>8)))=true by simp;omega];rfl
      ·rw [if_neg h2,show ((((decide ((m.Lanes.length:Int)>12))||(decide ((m.Zones.length:Int)>12)))||(decide ((m.Signals.length:Int)>4)))||(decide ((m.Works.length:Int)>8)))=false by simp;omega];rfl
  rw [stp 0 1 _ _ (by repeat' split
                      all_goals (intro e' h;first|(cases h;decide)|cases h)) hnum s0]
  by_cases q1:inR m.Version 0 1099511627776=false
  ·rw [if_pos q1,if_pos q1];rfl
  ·rw [if_neg q1,if_neg q1]
   by_cases q2:m.Lanes.length=0
   ·rw [if_pos q2,if_pos q2];rfl
   ·rw [if_neg q2,if_neg q2]
    by_cases q3:12<m.Lanes.length∨12<m.Zones.length∨4<m.Signals.length∨8<m.Works.length
    ·rw [if_pos q3,if_pos q3];rfl
    ·rw [if_neg q3,if_neg q3]
     dsimp only
     rw [stp 1 2 _ _ (fun e' h=>A12 (fun _ _ _=>C0w) h) (D0e B.toBear) s1]
     cases H:M5 (laneE m.Lanes.length) 0 m.Lanes with
     |some e=>rfl
     |none=>
      dsimp only
      rw [stp 2 3 _ _ (fun e' h=>A12 (fun _ _ _=>C10) h) (C2g B.toBear H).1 s2]
      cases M5 (B16 m) 0 m.Lanes with
      |some e=>rfl
      |none=>
       dsimp only
       rw [stp 3 4 _ _ (fun e' h=>A12 (fun _ _ _=>B2b) h) (C66 B.toBear B.toBearS) s3]
       cases M5 (signalE m) 0 m.Signals with
       |some e=>rfl
       |none=>
        dsimp only
        rw [stp 4 5 _ _ (fun e' h=>A12 (fun _ _ _=>B6i) h) (D0h B.toBear B.toBearZ) s4]
        cases M5 (zoneE m) 0 m.Zones with
        |some e=>rfl
        |none=>
         dsimp only
         rw [stp 5 6 _ _ (fun e' h=>A12 (fun _ _ _=>C0z) h) (D0j B.toBear B.toBearW) s5]
         cases M5 (B5k m) 0 m.Works with
         |some e=>rfl
         |none=>dsimp only;rw [D5 s6];rfl
end Go.Abs.Roadsz
namespace Go.Abs.Roadsz
open Go Go.Abs
/-- What a valid map is. -/
structure ValR (m:Map):Prop where
  ver:0≤m.Version∧m.Version≤1099511627776
  pos:0<m.Lanes.length
  lanes:m.Lanes.length≤12
  zones:m.Zones.length≤12
  signals:m.Signals.length≤4
  works:m.Works.length≤8
  laneE:M5 (laneE m.Lanes.length) 0 m.Lanes=none
  B16:M5 (B16 m) 0 m.Lanes=none
  signalE:M5 (signalE m) 0 m.Signals=none
  zoneE:M5 (zoneE m) 0 m.Zones=none
  B5k:M5 (B5k m) 0 m.Works=none
theorem C8e {α:Type}{g:Nat→α→Option Int}{l:List α}(h: ∀i a e,g i a=some e→e≠0)(h0:(M5 g 0 l).getD 0=0):M5 g 0 l=none:=by
  cases q:M5 g 0 l with
  |none=>rfl
  |some e=>rw [q]at h0;exact absurd h0 (A12 h q)
theorem chkR_zero {m:Map}:C4x m=0↔ValR m:=by
  unfold C4x
  constructor
  ·intro h
   split at h
   ·cases h
   ·rename_i h1
    split at h
    ·cases h
    ·rename_i h2
     split at h
     ·cases h
     ·rename_i h3
      simp only [inR,Bool.not_eq_false,Bool.and_eq_true,decide_eq_true_eq]at h1
      have key: ∀{o r:Option Int},(∀e,o=some e→e≠0)→(o.or r).getD 0=0→o=none∧r.getD 0=0:=by
        intro o r ho hr
        cases o with
        |none=>exact ⟨rfl,hr⟩
        |some e=>exact absurd hr (ho e rfl)
      obtain ⟨a1,h⟩:=key (fun e h=>A12 (fun _ _ _=>C0w) h) h
      obtain ⟨a2,h⟩:=key (fun e h=>A12 (fun _ _ _=>C10) h) h
      obtain ⟨a3,h⟩:=key (fun e h=>A12 (fun _ _ _=>B2b) h) h
      obtain ⟨a4,h⟩:=key (fun e h=>A12 (fun _ _ _=>B6i) h) h
      exact ⟨h1,by omega,by omega,by omega,by omega,by omega,a1,a2,a3,a4,C8e (fun _ _ _=>C0z) h⟩
  ·rintro ⟨h1,h2,h3,h4,h5,h6,a1,a2,a3,a4,a5⟩
   rw [if_neg (by simp only [inR,Bool.not_eq_false,Bool.and_eq_true,decide_eq_true_eq];exact h1),if_neg (by omega),if_neg (by omega),a1,a2,a3,a4,a5];rfl
section
variable {m:Map}
theorem ValR.laneOK (V:ValR m){i:Nat}{l:Lane}(h:m.Lanes[i]? =some l):LaneOK m.Lanes.length i l:=B4t V.laneE h
theorem ValR.next (V:ValR m){i:Nat}{l:Lane}(h:m.Lanes[i]? =some l){k:Int}(hk:k∈l.Next):(i:Int)<k∧k<m.Lanes.length:=by
  have:=A60 (V.laneOK h).next k hk
  omega
end
/-- The lanes in which a lane goes on. -/
def nextOf (m:Map)(a:Nat):List Int:=((m.Lanes[a]?).map (·.Next)).getD []
theorem ValR.nextOf {m:Map}(V:ValR m){a:Nat}{k:Int}(hk:k∈Roadsz.nextOf m a):(a:Int)<k∧k<m.Lanes.length:=by
  unfold Roadsz.nextOf at hk
  cases h:m.Lanes[a]? with
  |none=>rw [h]at hk;cases hk
  |some l=>rw [h]at hk;exact V.next h hk
def D1h (m:Map)(b:Int):Nat→Nat→Bool
  |0,_=>false
  |n+1,a=>(nextOf m a).any fun k=>k==b||D1h m b n k.toNat
/-- Does a lane lead to another one? -/
def D50 (m:Map)(a:Nat)(b:Int):Bool:=D1h m b m.Lanes.length a
end Go.Abs.Roadsz
namespace Go.Abs.Roadsz
open Go Go.Abs
/-- What is known of the sets of the lanes from a number on. -/
structure Reach (m:Map)(i:Nat)(l:List Nat):Prop where
  len:l.length=12
  small: ∀(a x:Nat),l[a]? =some x→x<2^32
  zero: ∀(a:Nat),a<i→l[a]? =some 0
  bits: ∀(a x:Nat),i≤a→a<m.Lanes.length→l[a]? =some x→∀b:Nat,x.testBit b=D50 m a (b:Int)
theorem Reach.get {m:Map}{i:Nat}{l:List Nat}(R:Reach m i l){a:Nat}(h:a<12): ∃x,l[a]? =some x∧x<2^32:=by
  have:=R.len
  exact ⟨l[a],List.getElem?_eq_getElem (by omega),R.small a _ (List.getElem?_eq_getElem (by omega))⟩
end Go.Abs.Roadsz
namespace Go.Abs.Roadsz
open Go Go.Abs
theorem B8f {m:Map}(B:BearM m){k:Int}(h0:0≤k)(h1:k<m.Lanes.length):A71 m k=some (W3 m k):=by
  obtain ⟨l,e1,e2⟩:=C0y B.toBear h0 h1
  unfold A71
  rw [e1,Option.bind_some,e2];rfl
theorem B8g (l:List Int)(hl:l.length≤1000000)(k:Int):J4 l k=some (l.contains k):=by
  unfold J4 V8
  rw [B2a l (fun x=>k==x) (by omega) (fun i a h=>by
   have hi:=Z6 h
   unfold O2
   rw [Z7 hi,G0 h,cond_true,Option.bind_some]
   cases k==a<;>rfl) (by unfold O2;rw [S3];rfl)]
  rw [Option.bind_some,C0x,List.contains_eq_any_beq]
theorem D1i (l:List Int)(hl:l.length≤1000000)(k:Int):A9q l k=some (l.contains k):=by
  unfold A9q
  rw [B9b l (fun x=>x==k) true (fun i a h=>by
   have hi:=Z6 h
   unfold A6z
   rw [Z7 hi,G0 h,cond_true,Option.bind_some,O7 hi (by omega)]
   cases a==k<;>rfl) (by unfold A6z;rw [S3];rfl)]
  rw [List.contains_eq_any_beq,show (fun x=>x==k)=(fun x=>k==x) from funext fun x=>by rw [Bool.beq_comm]]
  cases l.any fun x=>k==x<;>rfl
/-- What comes before a lane. -/
def A9f (m:Map)(k:Int):List Int:=B9a (fun i (l:Lane)=>if l.Next.contains k then some (i:Int)else none) 0 m.Lanes
theorem C8f {m:Map}(B:BearM m)(k:Int):A1j m k=some (A9f m k):=by
  unfold A1j A9f
  have hb:=B.lanes
  rw [D1f m.Lanes (fun i (l:Lane)=>if l.Next.contains k then some (i:Int)else none) id (fun i l s h hs=>by
   have hi:=Z6 h
   unfold A0v
   dsimp only
   rw [Z7 hi,G0 h,cond_true,Option.bind_some,B8g _ (B.toBear.pts l (List.mem_of_getElem? h)).2,Option.bind_some,A94 (by simp;omega),O7 hi (by omega)]
   cases l.Next.contains k<;>rfl) (fun s=>by unfold A0v;rw [S3];rfl)]
  rfl
theorem C69 {m:Map}(B:BearM m)(k:Int):A70 m k=some (A9f m k):=by
  unfold A70 A9f
  have hb:=B.lanes
  rw [D1f m.Lanes (fun i (l:Lane)=>if l.Next.contains k then some (i:Int)else none) id (fun i l s h hs=>by
   have hi:=Z6 h
   unfold A3u
   dsimp only
   rw [Z7 hi,G0 h,cond_true,Option.bind_some,D1i _ (B.toBear.pts l (List.mem_of_getElem? h)).2,Option.bind_some,A94 (by simp;omega),O7 hi (by omega)]
   cases l.Next.contains k<;>rfl) (fun s=>by unfold A3u;rw [S3];rfl)]
  rfl
end Go.Abs.Roadsz
namespace Go.Abs.Roadsz
open Go Go.Abs
def C11 (z:Zone)(k:Int):Part×Bool:=match z.Parts.find? (fun p=>p.Lane_==k)with|some p=>(p,true)|none=>(⟨0,0,0,0⟩,false)
theorem D38 {z:Zone}(hl:z.Parts.length≤1000000)(k:Int):A23 z k=some (C11 z k):=by
  unfold A23 H5 C11
  rw [B2a z.Parts (fun p=>p.Lane_==k) (by omega) (fun i a h=>by
   have hi:=Z6 h
   unfold E7 A32
   rw [Z7 hi,G0 h,cond_true,Option.bind_some,Option.bind_some]
   cases a.Lane_==k<;>rfl) (by unfold E7;rw [S3];rfl),Option.bind_some]
  unfold D36
  cases h:z.Parts.findIdx? (fun p=>p.Lane_==k)with
  |none=>
   have:z.Parts.find? (fun p=>p.Lane_==k)=none:=by
     rw [List.find?_eq_none]
     have:=List.findIdx?_eq_none_iff.1 h
     intro x hx;simpa using this x hx
   rw [this];rfl
  |some i=>
   obtain ⟨hi,h1,h2⟩:=List.findIdx?_eq_some_iff_getElem.1 h
   have:z.Parts.find? (fun p=>p.Lane_==k)=some z.Parts[i]:=by
     rw [List.find?_eq_some_iff_getElem]
     exact ⟨h1,i,hi,rfl,fun j hj=>by simpa using h2 j hj⟩
   rw [this]
   dsimp only
   rw [show decide ((i:Int)<0)=false from decide_eq_false (by omega),cond_false,C4k hi];rfl
structure ZoneOK (m:Map)(z:Zone):Prop where
  two:2≤z.Parts.length
  six:z.Parts.length≤6
  sig:0≤z.Signal_∧z.Signal_≤m.Signals.length
  rise:A4p m.Lanes.length 0 (z.Parts.map (·.Lane_))=true
  part: ∀p∈z.Parts,0≤p.From∧p.From<p.To∧p.To≤W3 m p.Lane_∧0≤p.Rank∧p.Rank≤100
theorem C6a {m:Map}{i:Nat}{z:Zone}(h:zoneE m i z=none):ZoneOK m z:=by
  unfold zoneE at h
  split at h
  ·cases h
  ·rename_i h1
   split at h
   ·cases h
   ·rename_i h2
    split at h
    ·cases h
    ·rename_i h3
     split at h
     ·cases h
     ·rename_i h4
      split at h
      ·cases h
      ·rename_i h5
       refine ⟨by omega,by omega,by omega,by simpa using h4,fun p hp=> ?_⟩
       have:=List.any_eq_false.1 (Bool.eq_false_iff.2 h5) p hp
       simp only [B1z,Bool.or_eq_true,decide_eq_true_eq,not_or,Int.not_lt,Int.not_le,ge_iff_le,gt_iff_lt]at this
       omega
theorem ValR.zoneOK {m:Map}(V:ValR m){z:Zone}(hz:z∈m.Zones):ZoneOK m z:=by
  obtain ⟨i,hi,rfl⟩:=List.mem_iff_getElem.1 hz
  have:=firstE_none.1 V.zoneE i _ (List.getElem?_eq_getElem hi)
  exact C6a this
theorem ZoneOK.lane {m:Map}{z:Zone}(O:ZoneOK m z){p:Part}(hp:p∈z.Parts):0≤p.Lane_∧p.Lane_<m.Lanes.length:=A60 O.rise p.Lane_ (List.mem_map.2 ⟨p,hp,rfl⟩)
theorem C8g {m:Map}{k:Int}(h0:0≤k)(h1:k<m.Zones.length): ∃z,m.Zones[k.toNat]? =some z∧F3 m.Zones k=some z:=by
  have hlt:k.toNat<m.Zones.length:=by omega
  refine ⟨m.Zones[k.toNat],List.getElem?_eq_getElem hlt,?_⟩
  unfold F3
  rw [if_pos h0,List.getElem?_eq_getElem hlt]
end Go.Abs.Roadsz
namespace Go.Abs.Roadsz
open Go Go.Abs
def C2i (m:Map):Bool:= !(decide (m.Lanes.length>14)||decide (m.Zones.length>14)||decide (m.Signals.length>6)||decide (m.Works.length>10))&& !(m.Lanes.any fun l=>decide (l.Curve_.Pts.length>18)||decide (l.Next.length>5))&& !(m.Zones.any fun z=>decide (z.Parts.length>8))&& !(m.Signals.any fun s=>decide (s.Phases.length>8)||s.Phases.any fun p=>decide (p.Green.length>14))
theorem D0l (m:Map):B1f m=some (C2i m):=by
  unfold B1f C2i
  by_cases h:m.Lanes.length>14∨m.Zones.length>14∨m.Signals.length>6∨m.Works.length>10
  ·rw [show (((decide ((m.Lanes.length:Int)>14))||(decide ((m.Zones.length:Int)>14))||(decide ((m.Signals.length:Int)>6)))||(decide ((m.Works.length:Int)>10)))=true by simp;omega,show ((((decide (m.Lanes.length>14))||(decide (m.Zones.length>14)))||(decide (m.Signals.length>6)))||(decide (m.Works.length>10)))=true by simp;omega]
   rfl
  ·rw [show (((decide ((m.Lanes.length:Int)>14))||(decide ((m.Zones.length:Int)>14))||(decide ((m.Signals.length:Int)>6)))||(decide ((m.Works.length:Int)>10)))=false by simp;omega,show ((((decide (m.Lanes.length>14))||(decide (m.Zones.length>14)))||(decide (m.Signals.length>6)))||(decide (m.Works.length>10)))=false by simp;omega,cond_false]
   rw [B9b m.Lanes (fun l=>decide (l.Curve_.Pts.length>18)||decide (l.Next.length>5)) false (fun i l hl=>by
    have hi:=Z6 hl
    unfold A6r
    rw [Z7 hi,G0 hl,cond_true,Option.bind_some,O7 hi (by omega)]
    by_cases h1:l.Curve_.Pts.length>18
    ·rw [show decide ((l.Curve_.Pts.length:Int)>18)=true from decide_eq_true (by omega),show decide (l.Curve_.Pts.length>18)=true from decide_eq_true h1];rfl
    ·rw [show decide ((l.Curve_.Pts.length:Int)>18)=false from decide_eq_false (by omega),show decide (l.Curve_.Pts.length>18)=false from decide_eq_false h1]
     simp only [Bool.not_false,cond_true,Option.bind_some,Bool.false_or]
     by_cases h2:l.Next.length>5
     ·rw [show decide ((l.Next.length:Int)>5)=true from decide_eq_true (by omega),show decide (l.Next.length>5)=true from decide_eq_true h2];rfl
     ·rw [show decide ((l.Next.length:Int)>5)=false from decide_eq_false (by omega),show decide (l.Next.length>5)=false from decide_eq_false h2];rfl) (by unfold A6r;rw [S3];rfl)]
   cases m.Lanes.any fun l=>decide (l.Curve_.Pts.length>18)||decide (l.Next.length>5)
   ·simp only [Bool.false_eq_true,if_false,thenS,Bool.not_false,Bool.true_and]
    rw [B9b m.Zones (fun z=>decide (z.Parts.length>8)) false (fun i z hz=>by
     have hi:=Z6 hz
     unfold A6q
     rw [Z7 hi,G0 hz,cond_true,Option.bind_some,O7 hi (by omega)]
     by_cases h1:z.Parts.length>8
     ·rw [show decide ((z.Parts.length:Int)>8)=true from decide_eq_true (by omega),show decide (z.Parts.length>8)=true from decide_eq_true h1];rfl
     ·rw [show decide ((z.Parts.length:Int)>8)=false from decide_eq_false (by omega),show decide (z.Parts.length>8)=false from decide_eq_false h1];rfl) (by unfold A6q;rw [S3];rfl)]
    cases m.Zones.any fun z=>decide (z.Parts.length>8)
    ·simp only [Bool.false_eq_true,if_false,Bool.not_false,Bool.true_and]
     rw [B9b m.Signals (fun s=>decide (s.Phases.length>8)||s.Phases.any fun p=>decide (p.Green.length>14)) false (fun i s hs=>by
      have hi:=Z6 hs
      unfold A6p
      rw [Z7 hi,G0 hs,cond_true,Option.bind_some,O7 hi (by omega)]
      by_cases h1:s.Phases.length>8
      ·rw [show decide ((s.Phases.length:Int)>8)=true from decide_eq_true (by omega),show decide (s.Phases.length>8)=true from decide_eq_true h1];rfl
      ·rw [show decide ((s.Phases.length:Int)>8)=false from decide_eq_false (by omega),show decide (s.Phases.length>8)=false from decide_eq_false h1,cond_false,Bool.false_or]
       rw [B9b s.Phases (fun p=>decide (p.Green.length>14)) false (fun j p hp=>by
        have hj:=Z6 hp
        unfold A6o
        rw [G0 hs,Option.bind_some,Z7 hj,cond_true,Option.bind_some,G0 hp,Option.bind_some,O7 hj (by omega)]
        by_cases h1:p.Green.length>14
        ·rw [show decide ((p.Green.length:Int)>14)=true from decide_eq_true (by omega),show decide (p.Green.length>14)=true from decide_eq_true h1];rfl
        ·rw [show decide ((p.Green.length:Int)>14)=false from decide_eq_false (by omega),show decide (p.Green.length>14)=false from decide_eq_false h1];rfl) (by unfold A6o;rw [G0 hs,Option.bind_some,S3];rfl)]
       cases s.Phases.any fun p=>decide (p.Green.length>14)<;>rfl) (by unfold A6p;rw [S3];rfl)]
     cases m.Signals.any fun s=>decide (s.Phases.length>8)||s.Phases.any fun p=>decide (p.Green.length>14)<;>rfl
    ·rfl
   ·rfl
theorem C6b {m:Map}(h:C2i m=true):BearM m:=by
  unfold C2i at h
  simp only [Bool.and_eq_true,Bool.not_eq_true',Bool.or_eq_false_iff,decide_eq_false_iff_not,List.any_eq_false,Bool.or_eq_true,decide_eq_true_eq,not_or,Nat.not_lt,gt_iff_lt,List.any_eq_true,not_exists,not_and]at h
  obtain ⟨⟨⟨⟨⟨⟨h1,h2⟩,h3⟩,h4⟩,h5⟩,h6⟩,h7⟩:=h
  refine ⟨⟨by omega,fun l hl=> ?_⟩,⟨by omega,fun s hs=>⟨?_,fun p hp=> ?_⟩⟩,⟨by omega,fun z hz=> ?_⟩,⟨by omega⟩⟩
  ·have:=h5 l hl;omega
  ·have:=(h7 s hs).1;omega
  ·have:=(h7 s hs).2 p hp;omega
  ·have:=h6 z hz;omega
theorem B5l (l:List Int)(hl:l.length≤1000000):A73 l l=some true:=by
  unfold A73
  rw [B9b l (fun _=>false) false (fun i a h=>by
   have hi:=Z6 h
   unfold A3y
   rw [Z7 hi,G0 h,O7 hi (by omega)]
   simp) (by unfold A3y;rw [S3];rfl)]
  simp [thenS]
end Go.Abs.Roadsz
namespace Go.Abs.Roadsz
open Go Go.Abs
theorem C4y:A3p=some true:=B96 _ (by decide+kernel)
end Go.Abs.Roadsz
namespace Go.Abs.Roadsz
open Go Go.Abs
end Go.Abs.Roadsz
namespace Go.Abs.Roadsz
open Go Go.Abs
end Go.Abs.Roadsz
namespace Go.Abs.Roadsz
open Go Go.Abs
end Go.Abs.Roadsz
namespace Go.Abs.Roadsz
open Go Go.Abs
end Go.Abs.Roadsz
namespace Go.Abs
end Go.Abs
namespace Go.Abs.Roadsz
open Go Go.Abs
end Go.Abs.Roadsz
namespace Go.Abs.Roadsz
open Go Go.Abs
/-! ### How long lanes are -/
theorem D1j: ∀(l:List Int) (s:Int),(∀x∈l,0≤x∧x≤1048576)→0≤s→s+1048576*l.length≤9000000000000000000→s≤C3p s l∧C3p s l≤s+1048576*l.length
  | [],s,_,_,_=>by simp [C3p]
  |a::r,s,h,h0,h1=>by
   have ha:=h a (by simp)
   simp only [List.length_cons]at h1 ⊢
   rw [C3p,G1 (by omega)]
   have:=D1j r (s+a) (fun x hx=>h x (by simp [hx])) (by omega) (by omega)
   omega
theorem D0m: ∀{l:List Spot} {last:Option CurveVector},Good last l→∀x∈C2s l,1000≤x∧x≤1048576:=by
  intro l last h
  induction h with
  |one last p=>intro x hx;simp [C2s]at hx
  |cons last p q r h1 h2 h3 h4 h ih=>
   intro x hx
   rw [B1y,List.mem_cons]at hx
   rcases hx with rfl|hx
   ·exact ⟨h2,h3⟩
   ·exact ih x hx
theorem D39 {c:Curve}(h:A30 c.Pts=0):1000≤D4x c∧D4x c≤16777216:=by
  have V:=checkM_zero.1 h
  unfold D4x A7l
  rw [if_pos h]
  have h16:=V.most
  have h2:=V.two
  have hm:=D0m V.good
  cases hp:c.Pts with
  |nil=>rw [hp]at h2;simp at h2
  |cons p r=>
   rw [hp]at hm h16 h2
   cases r with
   |nil=>simp at h2
   |cons q r=>
    simp only [List.length_cons]at h16
    rw [B1y]at hm ⊢
    have ha:=hm _ (List.mem_cons_self)
    have hl:=B0s r q
    rw [C3p,G1 (by omega),Int.zero_add]
    have:=D1j (C2s (q::r)) (rt (W2 (vec p q) (vec p q))) (fun x hx=>by have:=hm x (List.mem_cons_of_mem _ hx);omega) (by omega) (by rw [hl];omega)
    rw [hl]at this
    omega
theorem ValR.long {m:Map}(V:ValR m){k:Int}(h0:0≤k)(h1:k<m.Lanes.length):1000≤W3 m k∧W3 m k≤16777216:=by
  obtain ⟨l,e1,e2⟩:=B3n h0 h1
  unfold W3
  rw [e1]
  exact D39 (V.laneOK e1).curve
/-! ### Routes -/
def B0z (m:Map):Int→List Int→Bool
  |_,[]=>true
  |a,b::r=>(nextOf m a.toNat).contains b&&B0z m b r
noncomputable def T5 (m:Map)(r:List Int):Int:=
  if C4x m≠0 then C4x m
  else match r with
    | []=>13
    |a::t=>if 7<t.length∨a<0∨(m.Lanes.length:Int)≤a∨A9f m a≠ []∨B0z m a t=false then 13 else 0
/-- What a route is. -/
structure RouteOK (m:Map)(a:Int)(t:List Int):Prop where
  val:ValR m
  most:t.length≤7
  first:0≤a∧a<m.Lanes.length
  source:A9f m a= []
  chain:B0z m a t=true
theorem chkRoute_zero {m:Map}{r:List Int}:T5 m r=0↔∃a t,r=a::t∧RouteOK m a t:=by
  unfold T5
  constructor
  ·intro h
   split at h
   ·exact absurd h (by assumption)
   ·rename_i h1
    have V:=chkR_zero.1 (Decidable.not_not.1 h1)
    split at h
    ·cases h
    ·rename_i a t
     split at h
     ·cases h
     ·rename_i h2
      exact ⟨a,t,rfl,V,by omega,by omega,Decidable.not_not.1 fun q=>h2 (.inr (.inr (.inr (.inl q)))),by
        cases q:B0z m a t with
        |true=>rfl
        |false=>exact absurd (.inr (.inr (.inr (.inr q)))) h2⟩
  ·rintro ⟨a,t,rfl,V,h1,h2,h3,h4⟩
   rw [if_neg (by rw [chkR_zero.2 V];simp)]
   dsimp only
   rw [if_neg]
   rintro (q|q|q|q|q)
   ·omega
   ·omega
   ·omega
   ·exact q h3
   ·rw [h4]at q;cases q
theorem C2j {m:Map}(V:ValR m): ∀{t:List Int} {a:Int},B0z m a t=true→0≤a→∀x∈t,a<x∧x<m.Lanes.length
  | [],_,_,_,x,hx=>by cases hx
  |b::r,a,h,h0,x,hx=>by
   rw [B0z,Bool.and_eq_true,List.contains_iff_mem]at h
   have hb:=V.nextOf h.1
   rcases List.mem_cons.1 hx with rfl|hx
   ·omega
   ·have:=C2j V h.2 (by omega) x hx;omega
theorem RouteOK.mem {m:Map}{a:Int}{t:List Int}(R:RouteOK m a t){x:Int}(hx:x∈a::t):0≤x∧x<m.Lanes.length:=by
  have:=R.first
  rcases List.mem_cons.1 hx with rfl|hx
  ·exact this
  ·have:=C2j R.val R.chain (by omega) x hx;omega
theorem C6c {m:Map}(B:BearM m)(V:ValR m)(l:List Int)(hl:l.length≤1000000): ∀(r:List Int) (i:Nat) (a:Int),l.drop i=r→i≤l.length→0≤a→a<m.Lanes.length→loop (O3 m l) (a,(i:Int))=some (if B0z m a r=true then .inl ()else .inr 13):=by
  intro r
  induction r with
  |nil=>
   intro i a hi hil h0 h1
   have:=T6 hi
   obtain rfl:i=l.length:=by omega
   refine D5 ?_
   unfold O3
   rw [S3];rfl
  |cons b r ih=>
   intro i a hi hil h0 h1
   have hlt:=P7 hi
   have hb:=A4i hi
   obtain ⟨ln,e1,e2⟩:=B3n h0 h1
   have hs:O3 m l (a,(i:Int))=some (if ln.Next.contains b=true then .go (b,((i+1:Nat):Int))else .out (.inr 13)):=by
     unfold O3
     dsimp only
     rw [Z7 hlt,G0 hb,cond_true,Option.bind_some,e2,Option.bind_some,B8g _ (B.toBear.pts _ (List.mem_of_getElem? e1)).2,Option.bind_some,O7 hlt (by omega)]
     cases ln.Next.contains b<;>rfl
   have hn:nextOf m a.toNat=ln.Next:=by unfold nextOf;rw [e1];rfl
   rw [B0z,hn]
   cases q:ln.Next.contains b
   ·rw [q]at hs;rw [D5 hs];rfl
   ·rw [q]at hs
    have hbm:=V.next e1 (List.contains_iff_mem.1 q)
    rw [L3 hs,ih (i+1) b (L4 hi) (by omega) (by omega) (by omega),Bool.true_and]
theorem B4u {m:Map}(B:BearM m)(r:List Int)(hr:r.length≤1000000):V9 m r=some (T5 m r):=by
  unfold V9 T5
  rw [B9d B,Option.bind_some]
  by_cases q:C4x m=0
  ·have V:=chkR_zero.1 q
   rw [if_neg (by simpa using q),show (C4x m !=0)=false by simpa using q,cond_false]
   cases r with
   |nil=>rfl
   |cons a t=>
    dsimp only
    simp only [List.length_cons]at hr ⊢
    by_cases h8:7<t.length
    ·rw [if_pos (.inl h8),show ((((t.length+1:Nat):Int)==0)||(decide (((t.length+1:Nat):Int)>8)))=true by simp;omega];rfl
    ·rw [show ((((t.length+1:Nat):Int)==0)||(decide (((t.length+1:Nat):Int)>8)))=false by simp;omega]
     rw [show F3 (a::t) 0=some a from rfl]
     simp only [Bool.not_false,cond_true,Option.bind_some,Bool.false_or]
     by_cases h0:a<0
     ·rw [if_pos (.inr (.inl h0)),decide_eq_true h0];rfl
     ·rw [decide_eq_false h0]
      simp only [Bool.not_false,cond_true,Option.bind_some,Bool.false_or]
      by_cases h1:(m.Lanes.length:Int)≤a
      ·rw [if_pos (.inr (.inr (.inl h1))),show decide (a≥(m.Lanes.length:Int))=true from decide_eq_true h1];rfl
      ·rw [show decide (a≥(m.Lanes.length:Int))=false from decide_eq_false (by omega)]
       simp only [Bool.not_false,cond_true,Bool.false_or]
       rw [Option.bind_some,C8f B,Option.bind_some]
       by_cases hb:A9f m a= []
       ·rw [hb]
        have e1:C6k (a::t) 1 ((t.length+1:Nat):Int)=some t:=by
          unfold C6k
          rw [if_pos (by simp;omega)]
          simp
        rw [e1,show decide ((([]:List Int).length:Int)>0)=false from rfl,cond_false,Option.bind_some]
        have:=C6c B V t (by omega) t 0 a rfl (by omega) (by omega) (by omega)
        rw [show ((0:Nat):Int)=0 from rfl]at this
        rw [this]
        by_cases hc:B0z m a t=true
        ·rw [if_pos hc,if_neg (by rw [hc];simp;omega)];rfl
        ·rw [if_neg hc,if_pos (.inr (.inr (.inr (.inr (by simpa using hc)))))];rfl
       ·rw [if_pos (.inr (.inr (.inr (.inl hb)))),show decide (((A9f m a).length:Int)>0)=true from decide_eq_true (by have:=List.length_pos_iff.2 hb;omega)];rfl
  ·rw [if_pos q,show (C4x m !=0)=true by simpa using q];rfl
/-- Where the lanes of a route begin. -/
noncomputable def R2 (m:Map):Int→List Int→List Int
  |_,[]=> []
  |s,a::r=>s::R2 m (s+W3 m a) r
noncomputable def A4a (m:Map):Int→List Int→Int
  |s,[]=>s
  |s,a::r=>A4a m (s+W3 m a) r
theorem B0t (m:Map): ∀(r:List Int) (s:Int),(R2 m s r).length=r.length
  | [],_=>rfl
  |_::r,_=>by rw [R2,List.length_cons,B0t m r,List.length_cons]
noncomputable def W9 (m:Map)(r:List Int):RoadsWay:=if T5 m r=0 then ⟨m,r,R2 m 0 r,A4a m 0 r⟩else ⟨⟨0,[],[],[],[]⟩,[],[],0⟩
theorem A77 {m:Map}(B:BearM m)(r:List Int)(hr:r.length≤1000000):Y3 m r=some (W9 m r):=by
  unfold Y3 W9
  rw [B4u B r hr,Option.bind_some]
  by_cases q:T5 m r=0
  ·rw [if_pos q,q]
   obtain ⟨a,t,rfl,R⟩:=chkRoute_zero.1 q
   have key: ∀(l:List Int) (i:Nat) (s:Int) (st:List Int),(a::t).drop i=l→i≤(a::t).length→0≤s→s≤16777216*i→st.length=i→loop (V5 m (a::t)) ((i:Int),⟨m,a::t,st,s⟩)=some ⟨m,a::t,st++R2 m s l,A4a m s l⟩:=by
     intro l
     induction l with
     |nil=>
      intro i s st hi hil _ _ _
      have:=T6 hi
      obtain rfl:i=(a::t).length:=by omega
      refine D5 ?_
      unfold V5
      rw [S3,R2,A4a,List.append_nil];rfl
     |cons x l ih=>
      intro i s st hi hil h0 h1 h2
      have hlt:=P7 hi
      have hx:=A4i hi
      have hm:=R.mem (List.mem_of_getElem? hx)
      have hl:=R.val.long hm.1 hm.2
      have hm7:=R.most
      simp only [List.length_cons]at hlt
      rw [L3 (s':=(((i+1:Nat):Int),⟨m,a::t,st++ [s],s+W3 m x⟩))]
      ·rw [ih (i+1) _ _ (L4 hi) (by simp;omega) (by omega) (by omega) (by simp [h2]),R2,A4a,List.append_assoc];rfl
      ·unfold V5
       dsimp only
       rw [Z7 (by simpa using hlt),G0 hx,cond_true,Option.bind_some,A94 (by simp;omega),Option.bind_some,C3u B.toBear hm.1 hm.2,Option.bind_some,O7 hlt (by omega),wid (by omega)]
   have:=key (a::t) 0 0 [] rfl (by omega) (by decide) (by decide) rfl
   rw [show ((0:Nat):Int)=0 from rfl]at this
   show (loop (V5 m (a::t)) (0,⟨m,a::t,[],0⟩)).bind (fun y1=>some y1)=_
   rw [this];rfl
  ·rw [if_neg q,show (T5 m r !=0)=true by simpa using q];rfl
/-- The place in a route at which it enters a zone. -/
noncomputable def C4z (m:Map)(r:List Int)(k:Int):Int:=match m.Zones[k.toNat]? with
  |some z=>if 0≤k∧T5 m r=0 then D36 (fun l=>(C11 z l).2) r else -1
  |none=> -1
theorem D0n {m:Map}(B:BearM m)(r:List Int)(hr:r.length≤1000000)(k:Int):A8a m r k=some (C4z m r k):=by
  unfold A8a C4z
  rw [A77 B r hr,Option.bind_some]
  by_cases h:k<0∨(m.Zones.length:Int)≤k
  ·rw [show ((decide (k<0))||(decide (k≥(m.Zones.length:Int))))=true by simpa using h,cond_true]
   cases hz:m.Zones[k.toNat]? with
   |none=>rfl
   |some z=>
    have:=Z6 hz
    dsimp only
    rw [if_neg (fun x=>by have:=x.1;omega)]
  ·obtain ⟨z,z1,z2⟩:=C8g (m:=m) (k:=k) (by omega) (by omega)
   rw [show ((decide (k<0))||(decide (k≥(m.Zones.length:Int))))=false by rw [Bool.eq_false_iff];simpa using h,cond_false,z1]
   dsimp only
   have hp:=B.toBearZ.parts z (List.mem_of_getElem? z1)
   have key: ∀l:List Int,l.length≤1000000→J3 l m k=some (D36 (fun l=>(C11 z l).2) l):=by
     intro l hl
     unfold J3
     rw [B2a l (fun l=>(C11 z l).2) (by omega) (fun i a h=>by
      have hi:=Z6 h
      unfold I9 A4f
      rw [Z7 hi,G0 h,cond_true,Option.bind_some,z2,Option.bind_some,D38 hp,Option.bind_some,Option.bind_some]
      cases (C11 z a).2<;>rfl) (by unfold I9;rw [S3];rfl)]
   unfold W9
   by_cases q:T5 m r=0
   ·rw [if_pos q,if_pos ⟨by omega,q⟩,key r hr];rfl
   ·rw [if_neg q,if_neg (fun x=>q x.2),key [] (by simp)];rfl
end Go.Abs.Roadsz
namespace Go.Abs.Roadsz
open Go Go.Abs
end Go.Abs.Roadsz
/-! Lists that are sorted, and how an insertion sort makes them. -/
namespace Go.Abs
open Go
/-- What a comparison must satisfy. -/
structure LtOK {α:Type}(lt:α→α→Bool):Prop where
  asym: ∀a b,lt a b=true→lt b a=false
  trans: ∀a b c,lt b a=false→lt c b=false→lt c a=false
def Srt {α:Type}(lt:α→α→Bool)(l:List α):Prop:=l.Pairwise fun a b=>lt b a=false
section
variable {α:Type}
theorem A6j (U V:List α)(x y:α)(n:Int)(h:n=(U.length:Int)):B2y (U++x::V) n y=U++y::V:=by
  subst h
  simp [B2y]
theorem A1p (U V:List α)(x:α)(n:Int)(h:n=(U.length:Int)):F3 (U++x::V) n=some x:=by
  subst h
  simp [F3]
theorem B9z {Q:List α}(h:Q≠ []): ∃Q' q,Q=Q'++ [q]:=⟨Q.dropLast,Q.getLast h,(List.dropLast_concat_getLast h).symm⟩
variable {lt:α→α→Bool}
theorem Srt.ins (L:LtOK lt){Q1 Q2:List α}{x:α}(h:Srt lt (Q1++Q2))(h1: ∀q∈Q1,lt x q=false)(h2: ∀q∈Q2,lt x q=true):Srt lt (Q1++x::Q2):=by
  unfold Srt at h ⊢
  rw [List.pairwise_append]at h ⊢
  refine ⟨h.1,List.pairwise_cons.2 ⟨fun b hb=>L.asym _ _ (h2 b hb),h.2.1⟩,fun a ha b hb=> ?_⟩
  rcases List.mem_cons.1 hb with rfl|hb
  ·exact h1 a ha
  ·exact h.2.2 a ha b hb
theorem LtOK.irr (L:LtOK lt)(a:α):lt a a=false:=by
  cases h:lt a a with
  |false=>rfl
  |true=>rw [L.asym a a h]at h;cases h
theorem Srt.get (L:LtOK lt){l:List α}(h:Srt lt l){i j:Nat}(hij:i≤j)(hj:j<l.length):lt l[j] l[i]=false:=by
  rcases Nat.lt_or_eq_of_le hij with h1|h1
  ·exact List.pairwise_iff_getElem.1 h i j (by omega) hj h1
  ·subst h1;exact L.irr _
theorem Srt.app {l m:List α}(h1:Srt lt l)(h2:Srt lt m)(h: ∀a∈l,∀b∈m,lt b a=false):Srt lt (l++m):=List.pairwise_append.2 ⟨h1,h2,h⟩
theorem Srt.left {l m:List α}(h:Srt lt (l++m)):Srt lt l:=(List.pairwise_append.1 h).1
theorem Srt.right {l m:List α}(h:Srt lt (l++m)):Srt lt m:=(List.pairwise_append.1 h).2.1
theorem Srt.cross {l m:List α}(h:Srt lt (l++m)): ∀a∈l,∀b∈m,lt b a=false:=(List.pairwise_append.1 h).2.2
/-- The first place from which a test fails. -/
theorem C3v {F:Int×Int→Option (Stp (Int×Int) Int)}(Q:Nat→Bool)(lo hi:Nat)(hle:lo≤hi)
    (hF: ∀x y:Nat,lo≤x→x<y→y≤hi→F ((x:Int),(y:Int))=some (if Q ((x+y) / 2)then .go ((((x+y) / 2+1:Nat):Int),(y:Int))else .go ((x:Int),(((x+y) / 2:Nat):Int))))
    (hstop: ∀x y:Nat,¬x<y→F ((x:Int),(y:Int))=some (.out (x:Int)))
    (mono: ∀c c',lo≤c→c≤c'→c'<hi→Q c'=true→Q c=true):
    ∃s:Nat,loop F ((lo:Int),(hi:Int))=some (s:Int)∧lo≤s∧s≤hi∧(∀c,lo≤c→c<s→Q c=true)∧∀c,s≤c→c<hi→Q c=false:=by
  have key: ∀(k x y:Nat),y - x≤k→lo≤x→x≤y→y≤hi→(∀c,lo≤c→c<x→Q c=true)→(∀c,y≤c→c<hi→Q c=false)→
   ∃s:Nat,loop F ((x:Int),(y:Int))=some (s:Int)∧lo≤s∧s≤hi∧(∀c,lo≤c→c<s→Q c=true)∧∀c,s≤c→c<hi→Q c=false:=by
    intro k
    induction k with
    |zero=>
     intro x y hk h1 h2 h3 h4 h5
     obtain rfl:x=y:=by omega
     exact ⟨x,D5 (hstop x x (by omega)),h1,h3,h4,h5⟩
    |succ k ih=>
     intro x y hk h1 h2 h3 h4 h5
     by_cases hxy:x<y
     ·have hf:=hF x y h1 hxy h3
      cases hq:Q ((x+y) / 2)with
      |true=>
       rw [hq,if_pos rfl]at hf
       obtain ⟨s,g1,g2⟩:=ih ((x+y) / 2+1) y (by omega) (by omega) (by omega) h3 (fun c hc1 hc2=>mono c ((x+y) / 2) hc1 (by omega) (by omega) hq) h5
       exact ⟨s,by rw [L3 hf];exact g1,g2⟩
      |false=>
       rw [hq,if_neg (by simp)]at hf
       obtain ⟨s,g1,g2⟩:=ih x ((x+y) / 2) (by omega) h1 (by omega) (by omega) h4 (fun c hc1 hc2=>by
         cases hc:Q c with
         |false=>rfl
         |true=>rw [mono ((x+y) / 2) c (by omega) hc1 hc2 hc]at hq;cases hq)
       exact ⟨s,by rw [L3 hf];exact g1,g2⟩
     ·obtain rfl:x=y:=by omega
      exact ⟨x,D5 (hstop x x (by omega)),h1,h3,h4,h5⟩
  exact key (hi - lo) lo hi (Nat.le_refl _) (Nat.le_refl _) hle (Nat.le_refl _) (fun c h1 h2=>absurd h2 (by omega)) (fun c h1 h2=>absurd h2 (by omega))
/-- The inner loop: an element goes down to its place. -/
theorem C2k (L:LtOK lt){F:Int×List α→Option (Stp (Int×List α) (List α))}{P T:List α}(N:Nat)
    (hstop: ∀xs,F ((P.length:Int),xs)=some (.out xs))
    (hF: ∀(U V:List α) (q x:α),P.length≤U.length→(U++q::x::V).length=N→F (((U.length:Int)+1),U++q::x::V)=some (if lt x q then .go ((U.length:Int),U++x::q::V)else .out (U++q::x::V))) (x:α):
    ∀(n:Nat) (Q1 Q2:List α),Q1.length=n→Srt lt (Q1++Q2)→(∀q∈Q2,lt x q=true)→(P++Q1++x::Q2++T).length=N→
     ∃Q,loop F (((P.length+Q1.length:Nat):Int),P++Q1++x::Q2++T)=some (P++Q++T)∧Q.Perm (x::(Q1++Q2))∧Srt lt Q:=by
  intro n
  induction n with
  |zero=>
   intro Q1 Q2 hn hs hg hN
   obtain rfl:=List.length_eq_zero_iff.1 hn
   refine ⟨x::Q2,?_,by simp,?_⟩
   ·rw [D5 (by rw [List.length_nil,Nat.add_zero];exact hstop _)]
    simp
   ·exact hs.ins L (by simp) hg
  |succ n ih=>
   intro Q1 Q2 hn hs hg hN
   obtain ⟨Q',q,rfl⟩:=B9z (Q:=Q1) (by rintro rfl;simp at hn)
   rw [List.length_append,List.length_singleton]at hn
   have e1:P++ (Q'++ [q])++x::Q2++T=(P++Q')++q::x::(Q2++T):=by simp
   have e2:((P.length+ (Q'++ [q]).length:Nat):Int)=((P++Q').length:Int)+1:=by simp;omega
   have hF1:=hF (P++Q') (Q2++T) q x (by simp) (by rw [← e1];exact hN)
   by_cases hl:lt x q=true
   ·rw [if_pos hl]at hF1
    obtain ⟨Q,g1,g2,g3⟩:=ih Q' (q::Q2) (by omega) (by simpa using hs) (fun y hy=>by
      rcases List.mem_cons.1 hy with rfl|hy
      ·exact hl
      ·exact hg y hy) (by rw [← hN];simp)
    refine ⟨Q,?_,g2.trans (by simp),g3⟩
    rw [e1,e2,L3 hF1,← g1]
    congr 1
    simp
   ·rw [if_neg hl]at hF1
    have hl':lt x q=false:=by simpa using hl
    refine ⟨Q'++ [q]++x::Q2,?_,?_,hs.ins L (fun y hy=> ?_) hg⟩
    ·rw [e1,e2,D5 hF1];simp
    ·have:=List.perm_middle (a:=x) (l₁:=Q'++ [q]) (l₂:=Q2);exact this
    ·rcases List.mem_append.1 hy with h|h
     ·have hq:lt q y=false:=by
        unfold Srt at hs
        rw [List.append_assoc,List.pairwise_append]at hs
        exact hs.2.2 y h q (by simp)
      exact L.trans y q x hq hl'
     ·rw [List.mem_singleton.1 h];exact hl'
/-- The outer loop. -/
theorem C8h {F:Int×List α→Option (Stp (Int×List α) (List α))}{P S:List α}(N:Nat)(b:Nat)
    (hend: ∀xs (i:Nat),b≤i→F ((i:Int),xs)=some (.out xs))
    (hF: ∀(Q R:List α) (x:α),(P++Q++x::R++S).length=N→P.length+Q.length<b→Srt lt Q→∃Q',F (((P.length+Q.length:Nat):Int),P++Q++x::R++S)=some (.go (((P.length+Q.length+1:Nat):Int),P++Q'++R++S))∧Q'.Perm (x::Q)∧Srt lt Q'):
    ∀(R Q:List α),(P++Q++R++S).length=N→P.length+Q.length+R.length=b→Srt lt Q→∃Q',loop F (((P.length+Q.length:Nat):Int),P++Q++R++S)=some (P++Q'++S)∧Q'.Perm (Q++R)∧Srt lt Q':=by
  intro R
  induction R with
  |nil=>
   intro Q hN hb hs
   refine ⟨Q,?_,by simp,hs⟩
   rw [D5 (hend _ _ (by simpa using Nat.le_of_eq hb.symm))]
   simp
  |cons x R ih=>
   intro Q hN hb hs
   rw [List.length_cons]at hb
   obtain ⟨Q',g1,g2,g3⟩:=hF Q R x hN (by omega) hs
   have hl:Q'.length=Q.length+1:=by rw [g2.length_eq];simp
   obtain ⟨Q2,k1,k2,k3⟩:=ih Q' (by rw [← hN];simp [hl];omega) (by omega) g3
   refine ⟨Q2,?_,k2.trans ((g2.append_right R).trans ?_),k3⟩
   ·rw [L3 g1,← k1,hl]
    congr 1
   ·exact (List.perm_middle (a:=x) (l₁:=Q) (l₂:=R)).symm
end
end Go.Abs
/-! How the lists are sorted. -/
namespace Go.Abs.Roadsz
open Go Go.Abs
theorem D0o {α:Type}(U V:List α)(q x:α):U++q::x::V=(U++ [q])++x::V:=by simp
end Go.Abs.Roadsz
/-! Signals, and the red lines. -/
namespace Go.Abs.Roadsz
open Go Go.Abs
structure SigOK (s:Signal):Prop where
  pos:0<s.Phases.length
  many:s.Phases.length≤6
  off:0≤s.Offset∧s.Offset≤1099511627776
  ticks: ∀p∈s.Phases,1≤p.Ticks∧p.Ticks≤10000
  green: ∀p∈s.Phases,p.Green.length≤1000000
theorem ValR.sig {m:Map}(B:BearM m)(V:ValR m){i:Nat}{s:Signal}(h:m.Signals[i]? =some s):SigOK s:=by
  have:=firstE_none.1 V.signalE i s h
  unfold Roadsz.signalE at this
  split at this
  ·cases this
  split at this
  ·cases this
  split at this
  ·cases this
  split at this
  ·cases this
  rename_i h1 h2 h3 h4
  refine ⟨by omega,by omega,?_,fun p hp=> ?_,(B.toBearS.phases s (List.mem_of_getElem? h)).2⟩
  ·have:inR s.Offset 0 1099511627776=true:=by simpa using h3
   simpa [inR] using this
  ·have:inR p.Ticks 1 10000=true:=by
     cases q:inR p.Ticks 1 10000 with
     |true=>rfl
     |false=>exact absurd (List.any_eq_true.2 ⟨p,hp,by rw [q];rfl⟩) h4
   simpa [inR] using this
def D3a:List Phase→Int
  | []=>0
  |p::r=>p.Ticks+D3a r
theorem C8i: ∀{l:List Phase},(∀p∈l,1≤p.Ticks∧p.Ticks≤10000)→(l.length:Int)≤D3a l∧D3a l≤10000*l.length
  | [],_=>by simp [D3a]
  |p::r,h=>by
   have:=C8i (l:=r) fun q hq=>h q (List.mem_cons_of_mem _ hq)
   have:=h p (by simp)
   simp only [D3a,List.length_cons]
   omega
theorem SigOK.sum {s:Signal}(S:SigOK s):1≤D3a s.Phases∧D3a s.Phases≤60000:=by
  have:=C8i S.ticks
  have:=S.pos
  have:=S.many
  omega
end Go.Abs.Roadsz
/-! The red lines. -/
namespace Go.Abs.Roadsz
open Go Go.Abs
theorem A9w {high:Int}: ∀{l:List Int} {low:Int},A4p high low l=true→l.Pairwise (· < ·)
  | [],_,_=>List.Pairwise.nil
  |n::r,low,h=>by
   simp only [A4p,Bool.and_eq_true]at h
   refine List.pairwise_cons.2 ⟨fun x hx=> ?_,A9w h.2⟩
   have:=(A60 h.2 x hx).1
   omega
end Go.Abs.Roadsz
/-! How the passes are sorted. -/
namespace Go.Abs.Roadsz
open Go Go.Abs
def D1k (x y:Int):Int:=if x<y then -1 else if x>y then 1 else 0
def D5b (a b:Pass):Int:=if D1k a.From b.From≠0 then D1k a.From b.From else D1k a.Zone_ b.Zone_
def ltP (a b:Pass):Bool:=decide (a.From<b.From∨a.From=b.From∧a.Zone_<b.Zone_)
theorem ltP_ok:LtOK ltP:=⟨fun a b h=>by simp only [ltP,decide_eq_true_eq,decide_eq_false_iff_not]at h ⊢;omega,fun a b c h1 h2=>by simp only [ltP,decide_eq_false_iff_not]at h1 h2 ⊢;omega⟩
theorem C12 (a b:Pass):decide (D5b a b<0)=ltP a b:=by
  unfold D5b ltP D1k
  rw [decide_eq_decide]
  split<;>(repeat' split)<;>omega
theorem D5q (x y:Int):A9r [x,y]=some (if x≠0 then x else y):=by
  have f0:A1m [x,y] 0=some (if x≠0 then .out (.inr x)else .go 1):=by
    by_cases h:x=0
    ·subst h;rfl
    ·have hb:(x !=0)=true:=by simp [h]
     unfold A1m
     simp [F3,h,hb]
  have f1:A1m [x,y] 1=some (if y≠0 then .out (.inr y)else .go 2):=by
    by_cases h:y=0
    ·subst h;rfl
    ·have hb:(y !=0)=true:=by simp [h]
     unfold A1m
     simp [F3,h,hb]
  have f2:A1m [x,y] 2=some (.out (.inl ())):=rfl
  unfold A9r
  by_cases hx:x=0
  ·by_cases hy:y=0
   ·rw [L3 (by rw [f0,if_neg (by simp [hx])]),L3 (by rw [f1,if_neg (by simp [hy])]),D5 f2]
    subst hx hy;rfl
   ·rw [L3 (by rw [f0,if_neg (by simp [hx])]),D5 (by rw [f1,if_pos hy]),if_neg (by simp [hx])];rfl
  ·rw [D5 (by rw [f0,if_pos hx]),if_pos hx];rfl
theorem C2l (a b:Int):A2a a b=some (D1k a b):=by
  have h: ∀x:Int,A29 x=some false:=fun x=>by unfold A29;simp
  unfold A2a D1k
  rw [h,h]
  simp only [Option.bind_some,cond_false,C7r]
  split<;>(repeat' split)<;>rfl
theorem C6d (a b:Int):A3w a b=some (D1k a b):=by
  have h: ∀x:Int,A4d x=some false:=fun x=>by unfold A4d;simp
  unfold A3w D1k
  rw [h,h]
  simp only [Option.bind_some,cond_false,C7r]
  split<;>(repeat' split)<;>rfl
theorem C13 (a b:Pass):A0p a b=some (D5b a b):=by
  unfold A0p D5b
  rw [C2l,Option.bind_some,C6d,Option.bind_some,D5q];rfl
theorem C6e (P T:List Pass)(x:Pass)(Q:List Pass)(hs:Srt ltP Q)(hN:(P++Q++x::T).length≤1000000):
    ∃Q',loop (B7 (P.length:Int)) (((P.length+Q.length:Nat):Int),P++Q++x::T)=some (P++Q'++T)∧Q'.Perm (x::Q)∧Srt ltP Q':=by
  have hstop: ∀xs,B7 (P.length:Int) ((P.length:Int),xs)=some (.out xs):=fun xs=>by
    unfold B7
    simp only [show decide ((P.length:Int)>(P.length:Int))=false from decide_eq_false (by omega),cond_false,Bool.false_and,Option.bind_some]
  have hF: ∀(U V:List Pass) (q y:Pass),P.length≤U.length→(U++q::y::V).length=(P++Q++x::T).length→B7 (P.length:Int) (((U.length:Int)+1),U++q::y::V)=some (if ltP y q then .go ((U.length:Int),U++y::q::V)else .out (U++q::y::V)):=fun U V q y hP hl=>by
    unfold B7
    have hb:U.length+2≤1000000:=by rw [← hl]at hN;simp at hN;omega
    have e1:w64 ((U.length:Int)+1 - 1)=(U.length:Int):=by rw [G1 (by omega)];omega
    have g1:F3 (U++q::y::V) ((U.length:Int)+1)=some y:=by rw [D0o];exact A1p _ _ _ _ (by simp)
    have g2:F3 (U++q::y::V) (U.length:Int)=some q:=A1p _ _ _ _ rfl
    have s1:B2y (U++q::y::V) ((U.length:Int)+1) q=U++q::q::V:=by rw [D0o,A6j _ _ _ _ _ (by simp)];simp
    have g3:F3 (U++q::q::V) (U.length:Int)=some q:=A1p _ _ _ _ rfl
    have s2:B2y (U++q::q::V) (U.length:Int) y=U++y::q::V:=A6j _ _ _ _ _ rfl
    simp only [show decide (((U.length:Int)+1)>(P.length:Int))=true from decide_eq_true (by omega),cond_true,Bool.true_and,e1,g1,g2,s1,g3,s2,Option.bind_some,C13,C12]
    cases ltP y q<;>rfl
  obtain ⟨Q',h1,h2,h3⟩:=C2k ltP_ok (P:=P) (T:=T) (P++Q++x::T).length hstop hF x Q.length Q [] rfl (by simpa using hs) (by simp) (by simp)
  refine ⟨Q',?_,by simpa using h2,h3⟩
  rw [← h1];congr 1;simp
theorem C3w (P A S:List Pass)(hN:(P++A++S).length≤1000000):
    ∃A',C5 (P++A++S) (P.length:Int) ((P.length+A.length:Nat):Int)=some (P++A'++S)∧A'.Perm A∧Srt ltP A':=by
  unfold C5
  have hend: ∀(xs:List Pass) (i:Nat),P.length+A.length≤i→D1 (P.length:Int) ((P.length+A.length:Nat):Int) ((i:Int),xs)=some (.out xs):=fun xs i hi=>by
    unfold D1
    rw [show decide ((i:Int)< ((P.length+A.length:Nat):Int))=false from decide_eq_false (by omega)];rfl
  simp only [List.length_append]at hN
  have hw:w64 ((P.length:Int)+1)=((P.length+1:Nat):Int):=by rw [G1 (by omega)];omega
  cases A with
  |nil=>
   refine ⟨[],?_,by simp,List.Pairwise.nil⟩
   rw [hw,D5 (hend _ _ (by simp))]
  |cons a A=>
   have hF: ∀(Q R:List Pass) (x:Pass),(P++Q++x::R++S).length=(P++a::A++S).length→P.length+Q.length<P.length+ (a::A).length→Srt ltP Q→∃Q',D1 (P.length:Int) ((P.length+ (a::A).length:Nat):Int) (((P.length+Q.length:Nat):Int),P++Q++x::R++S)=some (.go (((P.length+Q.length+1:Nat):Int),P++Q'++R++S))∧Q'.Perm (x::Q)∧Srt ltP Q':=fun Q R x hl hb hs=>by
     obtain ⟨Q',k1,k2,k3⟩:=C6e P (R++S) x Q hs (by simp only [List.length_append,List.length_cons]at hl hN ⊢;omega)
     refine ⟨Q',?_,k2,k3⟩
     unfold D1
     have e1:P++Q++x::R++S=P++Q++x::(R++S):=by simp
     rw [show decide (((P.length+Q.length:Nat):Int)< ((P.length+ (a::A).length:Nat):Int))=true from decide_eq_true (by omega),cond_true]
     simp only [e1,k1,Option.bind_some]
     rw [G1 (by simp only [List.length_cons]at hN hb;omega)]
     simp
   obtain ⟨A',h1,h2,h3⟩:=C8h (lt:=ltP) (P:=P) (S:=S) (P++a::A++S).length (P.length+ (a::A).length) hend hF A [a] (by simp) (by simp;omega) (List.pairwise_singleton _ _)
   refine ⟨A',?_,h2,h3⟩
   rw [hw,← h1];congr 1;simp
theorem C6f (U M V:List Pass)(n:Nat)(hN:(U.length+M.length+V.length+n+n)≤1000000):
    ∀(X2 Y2 X1 Y1:List Pass),X2.length=Y2.length→X1.length=Y1.length→X1.length+X2.length=n→
     loop (D8 (U.length:Int) ((U.length+n+M.length:Nat):Int) (n:Int)) ((X1.length:Int),U++Y1++X2++M++X1++Y2++V)=some (U++ (Y1++Y2)++M++ (X1++X2)++V):=by
  intro X2
  induction X2 with
  |nil=>
   intro Y2 X1 Y1 h2 h1 hn
   obtain rfl:=List.length_eq_zero_iff.1 (show Y2.length=0 by rw [← h2];rfl)
   simp only [List.length_nil,Nat.add_zero]at hn
   refine D5 ?_
   unfold D8
   rw [show decide ((X1.length:Int)< (n:Int))=false from decide_eq_false (by omega),cond_false]
   simp
  |cons x X2 ih=>
   intro Y2 X1 Y1 h2 h1 hn
   cases Y2 with
   |nil=>simp at h2
   |cons y Y2=>
    simp only [List.length_cons]at h2 hn
    have hstep:D8 (U.length:Int) ((U.length+n+M.length:Nat):Int) (n:Int) ((X1.length:Int),U++Y1++x::X2++M++X1++y::Y2++V)=some (.go (((X1++ [x]).length:Int),U++ (Y1++ [y])++X2++M++ (X1++ [x])++Y2++V)):=by
      unfold D8
      have ea:w64 ((U.length:Int)+ (X1.length:Int))=((U++Y1).length:Int):=by rw [G1 (by omega),List.length_append];omega
      have eb:w64 (((U.length+n+M.length:Nat):Int)+ (X1.length:Int))=((U++Y1++x::X2++M++X1).length:Int):=by rw [G1 (by omega)];simp only [List.length_append,List.length_cons];omega
      have g1:F3 (U++Y1++x::X2++M++X1++y::Y2++V) ((U++Y1++x::X2++M++X1).length:Int)=some y:=by
        have:=A1p (U++Y1++x::X2++M++X1) (Y2++V) y _ rfl
        rw [← this];congr 1;simp
      have g2:F3 (U++Y1++x::X2++M++X1++y::Y2++V) ((U++Y1).length:Int)=some x:=by
        have:=A1p (U++Y1) (X2++M++X1++y::Y2++V) x _ rfl
        rw [← this];congr 1;simp
      have s1:B2y (U++Y1++x::X2++M++X1++y::Y2++V) ((U++Y1).length:Int) y=U++Y1++y::X2++M++X1++y::Y2++V:=by
        have:=A6j (U++Y1) (X2++M++X1++y::Y2++V) x y _ rfl
        rw [show U++Y1++x::X2++M++X1++y::Y2++V=U++Y1++x::(X2++M++X1++y::Y2++V) by simp,this];simp
      have el:((U++Y1++x::X2++M++X1).length:Int)=((U++Y1++y::X2++M++X1).length:Int):=by simp
      have g3:F3 (U++Y1++y::X2++M++X1++y::Y2++V) ((U++Y1++x::X2++M++X1).length:Int)=some y:=by
        rw [el]
        have:=A1p (U++Y1++y::X2++M++X1) (Y2++V) y _ rfl
        rw [← this];congr 1;simp
      have s2:B2y (U++Y1++y::X2++M++X1++y::Y2++V) ((U++Y1++x::X2++M++X1).length:Int) x=U++Y1++y::X2++M++X1++x::Y2++V:=by
        rw [el]
        have:=A6j (U++Y1++y::X2++M++X1) (Y2++V) y x _ rfl
        rw [show U++Y1++y::X2++M++X1++y::Y2++V=U++Y1++y::X2++M++X1++y::(Y2++V) by simp,this];simp
      simp only [show decide ((X1.length:Int)< (n:Int))=true from decide_eq_true (by omega),cond_true,ea,eb,g1,g2,Option.bind_some,s1,g3,s2]
      rw [G1 (by omega)]
      simp
    have:=ih Y2 (X1++ [x]) (Y1++ [y]) (by omega) (by simp [h1]) (by simp;omega)
    rw [L3 hstep,this]
    simp
theorem C14 (U X M Y V:List Pass)(hl:X.length=Y.length)(hN:(U.length+M.length+V.length+X.length+X.length)≤1000000):
    D2 (U++X++M++Y++V) (U.length:Int) ((U.length+X.length+M.length:Nat):Int) (X.length:Int)=some (U++Y++M++X++V):=by
  unfold D2
  have:=C6f U M V X.length hN X Y [] [] hl rfl (by simp)
  simpa using this
theorem D0p (U0 X0 Y0 V0:List Pass)(m:Nat)(hN:(U0++Y0++X0++V0).length≤1000000):
    ∀(k:Nat) (U X Y V:List Pass),X.length+Y.length≤k→0<X.length→0<Y.length→U.length+X.length=m→U++Y++X++V=U0++Y0++X0++V0→
     ∃i W,loop (E0 (m:Int)) ((X.length:Int),(Y.length:Int),U++X++Y++V)=some (i,W)∧D2 W (w64 ((m:Int) - i)) (m:Int) i=some (U0++Y0++X0++V0):=by
  intro k
  induction k with
  |zero=>intro U X Y V h1 h2;omega
  |succ k ih=>
   intro U X Y V hk hx hy hm he
   have hlen:U.length+Y.length+X.length+V.length≤1000000:=by
     rw [← he]at hN;simpa [Nat.add_assoc] using hN
   rcases Nat.lt_trichotomy X.length Y.length with hlt|heq|hgt
   ·-- the second part is longer
    obtain ⟨Ya,Yb,rfl,hYb⟩: ∃Ya Yb,Y=Ya++Yb∧Yb.length=X.length:=⟨Y.take (Y.length - X.length),Y.drop (Y.length - X.length),(List.take_append_drop _ _).symm,by rw [List.length_drop];omega⟩
    rw [List.length_append]at hlt hk hlen
    obtain ⟨i,W,h1,h2⟩:=ih U Yb Ya (X++V) (by omega) (by omega) (by omega) (by omega) (by rw [← he];simp)
    refine ⟨i,W,?_,h2⟩
    rw [← h1,hYb]
    refine L3 ?_
    unfold E0
    have hne:((X.length:Int) !=((Ya++Yb).length:Int))=true:=by rw [List.length_append];simp;omega
    have e1:w64 ((m:Int) - (X.length:Int))=(U.length:Int):=by rw [G1 (by omega)];omega
    have e2:w64 (w64 ((m:Int)+ ((Ya++Yb).length:Int)) - (X.length:Int))=((U.length+X.length+Ya.length:Nat):Int):=by rw [List.length_append,G1 (n:=(m:Int)+_) (by omega),G1 (by omega)];omega
    have e3:w64 (((Ya++Yb).length:Int) - (X.length:Int))=(Ya.length:Int):=by rw [List.length_append,G1 (by omega)];omega
    have hs:=C14 U X Ya Yb V hYb.symm (by omega)
    rw [show U++X++Ya++Yb++V=U++X++ (Ya++Yb)++V by simp]at hs
    simp only [hne,cond_true,show decide ((X.length:Int)>((Ya++Yb).length:Int))=false from decide_eq_false (by rw [List.length_append];omega),cond_false,e1,e2,e3,hs,Option.bind_some]
    simp
   ·refine ⟨_,_,D5 (t:=((X.length:Int),U++X++Y++V)) ?_,?_⟩
    ·unfold E0
     rw [show ((X.length:Int) !=(Y.length:Int))=false by rw [heq];simp];rfl
    ·have e1:w64 ((m:Int) - (X.length:Int))=(U.length:Int):=by rw [G1 (by omega)];omega
     have hs:=C14 U X [] Y V heq (by simp;omega)
     simp only [List.append_nil,List.length_nil,Nat.add_zero]at hs
     rw [e1,← hm,hs,← he]
   ·obtain ⟨Xa,Xb,rfl,hXa⟩: ∃Xa Xb,X=Xa++Xb∧Xa.length=Y.length:=⟨X.take Y.length,X.drop Y.length,(List.take_append_drop _ _).symm,by rw [List.length_take];omega⟩
    rw [List.length_append]at hgt hk hlen hm
    obtain ⟨i,W,h1,h2⟩:=ih (U++Y) Xb Xa V (by omega) (by omega) (by omega) (by rw [List.length_append];omega) (by rw [← he];simp)
    refine ⟨i,W,?_,h2⟩
    rw [← h1,hXa]
    refine L3 ?_
    unfold E0
    have hne:(((Xa++Xb).length:Int) !=(Y.length:Int))=true:=by rw [List.length_append];simp;omega
    have e1:w64 ((m:Int) - ((Xa++Xb).length:Int))=(U.length:Int):=by rw [List.length_append,G1 (by omega)];omega
    have e3:w64 (((Xa++Xb).length:Int) - (Y.length:Int))=(Xb.length:Int):=by rw [List.length_append,G1 (by omega)];omega
    have hs:=C14 U Xa Xb Y V hXa (by omega)
    rw [show U++Xa++Xb++Y++V=U++ (Xa++Xb)++Y++V by simp,hXa,show U.length+Y.length+Xb.length=m by omega]at hs
    simp only [hne,cond_true,show decide (((Xa++Xb).length:Int)>(Y.length:Int))=true from decide_eq_true (by rw [List.length_append];omega),e1,e3,hs,Option.bind_some]
theorem D51 (U X Y V:List Pass)(hx:0<X.length)(hy:0<Y.length)(hN:(U++X++Y++V).length≤1000000):
    G2 (U++X++Y++V) (U.length:Int) ((U.length+X.length:Nat):Int) ((U.length+X.length+Y.length:Nat):Int)=some (U++Y++X++V):=by
  have hlen:U.length+X.length+Y.length+V.length≤1000000:=by simp only [List.length_append]at hN;omega
  obtain ⟨i,W,h1,h2⟩:=D0p U X Y V (U.length+X.length) (by simp;omega) (X.length+Y.length) U X Y V (Nat.le_refl _) hx hy rfl rfl
  unfold G2
  rw [G1 (n:=((U.length+X.length:Nat):Int) - _) (by omega),G1 (n:=((U.length+X.length+Y.length:Nat):Int) - _) (by omega),show ((U.length+X.length:Nat):Int) - (U.length:Int)=(X.length:Int) by omega,show ((U.length+X.length+Y.length:Nat):Int) - ((U.length+X.length:Nat):Int)=(Y.length:Int) by omega,h1,Option.bind_some]
  simp only [h2,Option.bind_some]
end Go.Abs.Roadsz
/-! The merge in place. -/
namespace Go.Abs.Roadsz
open Go Go.Abs
theorem B8h (x y:Nat)(h:x+y≤4000000):w64 ((IntKind.wrap .u64 (w64 ((x:Int)+ (y:Int)))).fdiv (2^ (min (1:Int).toNat (IntKind.bits .u64))))=(((x+y) / 2:Nat):Int):=by
  rw [G1 (n:=(x:Int)+ (y:Int)) (by omega)]
  have e:IntKind.wrap .u64 ((x:Int)+ (y:Int))=(x:Int)+ (y:Int):=by
    unfold IntKind.wrap
    simp only [IntKind.signed,IntKind.bits,Bool.false_and,Bool.false_eq_true,if_false]
    omega
  rw [e,show (2:Int)^ (min (1:Int).toNat (IntKind.bits .u64))=2 from rfl,Int.fdiv_eq_ediv_of_nonneg _ (by omega),G1 (by omega)]
  omega
theorem C8j {Q1 Q2:List Pass}{x:Pass}(h:Srt ltP (Q1++Q2))(h1: ∀q∈Q1,ltP x q=false)(h2: ∀q∈Q2,ltP q x=false):Srt ltP (Q1++x::Q2):=by
  refine h.left.app (List.pairwise_cons.2 ⟨h2,h.right⟩) fun a ha b hb=> ?_
  rcases List.mem_cons.1 hb with rfl|hb
  ·exact h1 a ha
  ·exact h.cross a ha b hb
/-- An element goes up. -/
theorem D5r (P T:List Pass)(x:Pass)(s:Nat): ∀(R Q:List Pass),(P++Q++x::R++T).length≤1000000→P.length+Q.length+R.length+1=s→
    loop (D7 (s:Int)) (((P.length+Q.length:Nat):Int),P++Q++x::R++T)=some (P++Q++R++x::T):=by
  intro R
  induction R with
  |nil=>
   intro Q hN hs
   simp only [List.length_append]at hN
   refine D5 ?_
   unfold D7
   simp only [List.length_nil,List.length_cons]at hs hN
   rw [G1 (n:=(s:Int) - 1) (by omega),show decide (((P.length+Q.length:Nat):Int)< (s:Int) - 1)=false from decide_eq_false (by omega),cond_false]
   simp
  |cons y R ih=>
   intro Q hN hs
   have hN':=hN
   simp only [List.length_append,List.length_cons]at hN' hs
   have:=ih (Q++ [y]) (by simp;omega) (by simp;omega)
   rw [show P++Q++ (y::R)++x::T=P++ (Q++ [y])++R++x::T by simp,← this]
   refine L3 ?_
   unfold D7
   have e1:w64 (((P.length+Q.length:Nat):Int)+1)=((P.length+Q.length+1:Nat):Int):=by rw [G1 (by omega)];omega
   have eX:P++Q++x::(y::R)++T=(P++Q)++x::y::(R++T):=by simp
   have g1:F3 ((P++Q)++x::y::(R++T)) ((P.length+Q.length+1:Nat):Int)=some y:=by rw [D0o];exact A1p _ _ _ _ (by simp;omega)
   have g2:F3 ((P++Q)++x::y::(R++T)) ((P.length+Q.length:Nat):Int)=some x:=A1p _ _ _ _ (by simp)
   have s1:B2y ((P++Q)++x::y::(R++T)) ((P.length+Q.length:Nat):Int) y=(P++Q)++y::y::(R++T):=A6j _ _ _ _ _ (by simp)
   have g3:F3 ((P++Q)++y::y::(R++T)) ((P.length+Q.length+1:Nat):Int)=some y:=by rw [D0o];exact A1p _ _ _ _ (by simp;omega)
   have s2:B2y ((P++Q)++y::y::(R++T)) ((P.length+Q.length+1:Nat):Int) x=(P++Q)++y::x::(R++T):=by rw [D0o,A6j _ _ _ _ _ (by simp;omega)];simp
   rw [G1 (n:=(s:Int) - 1) (by omega)]
   simp only [eX,show decide (((P.length+Q.length:Nat):Int)< (s:Int) - 1)=true from decide_eq_true (by omega),cond_true,e1,g1,g2,s1,g3,s2,Option.bind_some]
   simp [Nat.add_assoc]
/-- An element goes down. -/
theorem D3b (P T:List Pass)(y:Pass): ∀(n:Nat) (R Q:List Pass),R.length=n→(P++R++y::Q++T).length≤1000000→
    loop (E3 (P.length:Int)) (((P.length+R.length:Nat):Int),P++R++y::Q++T)=some (P++y::R++Q++T):=by
  intro n
  induction n with
  |zero=>
   intro R Q hn hN
   obtain rfl:=List.length_eq_zero_iff.1 hn
   refine D5 ?_
   unfold E3
   rw [show decide (((P.length+ ([]:List Pass).length:Nat):Int)>(P.length:Int))=false from decide_eq_false (by simp),cond_false]
   simp
  |succ n ih=>
   intro R Q hn hN
   obtain ⟨R',q,rfl⟩:=B9z (Q:=R) (by rintro rfl;simp at hn)
   have hN':=hN
   simp only [List.length_append,List.length_cons,List.length_nil]at hN' hn
   have:=ih R' (q::Q) (by omega) (by simp;omega)
   rw [show P++y::(R'++ [q])++Q++T=P++y::R'++q::Q++T by simp,← this]
   refine L3 ?_
   unfold E3
   have eX:P++ (R'++ [q])++y::Q++T=(P++R')++q::y::(Q++T):=by simp
   have eL:((P.length+ (R'++ [q]).length:Nat):Int)=((P.length+R'.length+1:Nat):Int):=by simp;omega
   have e1:w64 (((P.length+R'.length+1:Nat):Int) - 1)=((P.length+R'.length:Nat):Int):=by rw [G1 (by omega)];omega
   have g1:F3 ((P++R')++q::y::(Q++T)) ((P.length+R'.length+1:Nat):Int)=some y:=by rw [D0o];exact A1p _ _ _ _ (by simp;omega)
   have g2:F3 ((P++R')++q::y::(Q++T)) ((P.length+R'.length:Nat):Int)=some q:=A1p _ _ _ _ (by simp)
   have s1:B2y ((P++R')++q::y::(Q++T)) ((P.length+R'.length+1:Nat):Int) q=(P++R')++q::q::(Q++T):=by rw [D0o,A6j _ _ _ _ _ (by simp;omega)];simp
   have g3:F3 ((P++R')++q::q::(Q++T)) ((P.length+R'.length:Nat):Int)=some q:=A1p _ _ _ _ (by simp)
   have s2:B2y ((P++R')++q::q::(Q++T)) ((P.length+R'.length:Nat):Int) y=(P++R')++y::q::(Q++T):=A6j _ _ _ _ _ (by simp)
   simp only [eX,eL,show decide (((P.length+R'.length+1:Nat):Int)>(P.length:Int))=true from decide_eq_true (by omega),cond_true,e1,g1,g2,s1,g3,s2,Option.bind_some]
   simp
def atP (l:List Pass)(i:Nat):Pass:=l.getD i default
theorem C15 {l:List Pass}{i:Nat}(h:i<l.length):F3 l (i:Int)=some (atP l i):=by
  rw [C4k h,atP,List.getD,List.getElem?_eq_getElem h];rfl
theorem B6j {P A T:List Pass}{i:Nat}(h1:P.length≤i)(h2:i<P.length+A.length): ∃h:i - P.length<A.length,atP (P++A++T) i=A[i - P.length]:=by
  refine ⟨by omega,?_⟩
  rw [atP,List.getD,List.append_assoc,List.getElem?_append_right h1,List.getElem?_append_left (by omega),List.getElem?_eq_getElem (by omega)];rfl
theorem B6k {l:List Pass}{k:Nat}{x:Pass}(h:x∈l.take k): ∃i,∃hi:i<l.length,i<k∧l[i]=x:=by
  obtain ⟨i,hi,rfl⟩:=List.mem_iff_getElem.1 h
  rw [List.length_take]at hi
  exact ⟨i,by omega,by omega,by rw [List.getElem_take]⟩
theorem B6l {l:List Pass}{k:Nat}{x:Pass}(h:x∈l.drop k): ∃i,∃hi:i<l.length,k≤i∧l[i]=x:=by
  obtain ⟨i,hi,rfl⟩:=List.mem_iff_getElem.1 h
  rw [List.length_drop]at hi
  exact ⟨k+i,by omega,by omega,by rw [List.getElem_drop]⟩
/-- One element ahead of a sorted list. -/
theorem C8k (P B S:List Pass)(x:Pass)(hs:Srt ltP B)(hN:(P++x::B++S).length≤1000000)(rc:List Pass→Int→Int→Int→Option (List Pass))(_hB:0<B.length):
    ∃M,C0 rc (P++x::B++S) (P.length:Int) ((P.length+1:Nat):Int) ((P.length+1+B.length:Nat):Int)=some (P++M++S)∧M.Perm (x::B)∧Srt ltP M:=by
  have hN':=hN
  simp only [List.length_append,List.length_cons]at hN'
  have hat: ∀c,P.length+1≤c→c<P.length+1+B.length→∃h:c - (P.length+1)<B.length,atP (P++x::B++S) c=B[c - (P.length+1)]:=fun c h1 h2=>by
    obtain ⟨h,e⟩:=B6j (P:=P++ [x]) (A:=B) (T:=S) (i:=c) (by simpa using h1) (by simpa using h2)
    refine ⟨by omega,?_⟩
    rw [show P++x::B++S=P++ [x]++B++S by simp,e]
    congr 1
    simp
  obtain ⟨s,h1,h2,h3,h4,h5⟩:=C3v (F:=E5 (P++x::B++S) (P.length:Int)) (fun c=>ltP (atP (P++x::B++S) c) x) (P.length+1) (P.length+1+B.length) (by omega) (fun u v a1 a2 a3=>by
      unfold E5
      have e:=B8h u v (by omega)
      have g1:F3 (P++x::B++S) (((u+v) / 2:Nat):Int)=some (atP (P++x::B++S) ((u+v) / 2)):=C15 (by simp only [List.length_append,List.length_cons];omega)
      have g2:F3 (P++x::B++S) (P.length:Int)=some x:=by rw [show P++x::B++S=P++x::(B++S) by simp];exact A1p _ _ _ _ rfl
      simp only [show decide ((u:Int)< (v:Int))=true from decide_eq_true (by omega),cond_true,e,g1,g2,Option.bind_some,C13,C12]
      rw [G1 (n:=(((u+v) / 2:Nat):Int)+1) (by omega)]
      cases ltP (atP (P++x::B++S) ((u+v) / 2)) x<;>rfl) (fun u v a1=>by
      unfold E5
      rw [show decide ((u:Int)< (v:Int))=false from decide_eq_false (by omega)];rfl) (fun c c' a1 a2 a3 a4=>by
      obtain ⟨k1,e1⟩:=hat c (by omega) (by omega)
      obtain ⟨k2,e2⟩:=hat c' (by omega) (by omega)
      rw [e1]
      rw [e2]at a4
      cases hq:ltP B[c - (P.length+1)] x with
      |true=>rfl
      |false=>rw [ltP_ok.trans _ _ _ hq (hs.get ltP_ok (i:=c - (P.length+1)) (j:=c' - (P.length+1)) (by omega) k2)]at a4;cases a4)
  have hB12:=List.take_append_drop (s - (P.length+1)) B
  have hs':Srt ltP (B.take (s - (P.length+1))++B.drop (s - (P.length+1))):=by rw [hB12];exact hs
  have hl1:(B.take (s - (P.length+1))).length=s - (P.length+1):=by rw [List.length_take];omega
  have hm:=D5r P (B.drop (s - (P.length+1))++S) x s (B.take (s - (P.length+1))) [] (by simp only [List.length_append,List.length_cons,List.length_nil,List.length_take,List.length_drop];omega) (by rw [hl1,List.length_nil];omega)
  rw [show P++ []++x::B.take (s - (P.length+1))++ (B.drop (s - (P.length+1))++S)=P++x::B++S by
   simp only [List.append_nil,List.append_assoc,List.cons_append]
   rw [← List.append_assoc (B.take _),hB12]]at hm
  refine ⟨B.take (s - (P.length+1))++x::B.drop (s - (P.length+1)),?_,?_,C8j hs' (fun q hq=> ?_) (fun q hq=> ?_)⟩
  ·unfold C0
   rw [G1 (n:=((P.length+1:Nat):Int) - (P.length:Int)) (by omega),show (((P.length+1:Nat):Int) - (P.length:Int)==1)=true by simp;omega,cond_true,h1,Option.bind_some]
   have hm':loop (D7 (s:Int)) ((P.length:Int),P++x::B++S)=_:=hm
   rw [hm',Option.bind_some]
   simp
  ·refine List.perm_middle.trans ?_
   rw [hB12]
  ·obtain ⟨i,hi,h6,rfl⟩:=B6k hq
   have h7:=h4 (P.length+1+i) (by omega) (by omega)
   obtain ⟨k1,e1⟩:=hat (P.length+1+i) (by omega) (by omega)
   rw [e1]at h7
   have e2:P.length+1+i - (P.length+1)=i:=by omega
   simp only [e2]at h7
   exact ltP_ok.asym _ _ h7
  ·obtain ⟨i,hi,h6,rfl⟩:=B6l hq
   have h7:=h5 (P.length+1+i) (by omega) (by omega)
   obtain ⟨k1,e1⟩:=hat (P.length+1+i) (by omega) (by omega)
   rw [e1]at h7
   have e2:P.length+1+i - (P.length+1)=i:=by omega
   simp only [e2]at h7
   exact h7
/-- One element behind a sorted list. -/
theorem C6g (P A S:List Pass)(y:Pass)(hs:Srt ltP A)(hN:(P++A++y::S).length≤1000000)(rc:List Pass→Int→Int→Int→Option (List Pass))(hA:1<A.length):
    ∃M,C0 rc (P++A++y::S) (P.length:Int) ((P.length+A.length:Nat):Int) ((P.length+A.length+1:Nat):Int)=some (P++M++S)∧M.Perm (A++ [y])∧Srt ltP M:=by
  have hN':=hN
  simp only [List.length_append,List.length_cons]at hN'
  have hat: ∀c,P.length≤c→c<P.length+A.length→∃h:c - P.length<A.length,atP (P++A++y::S) c=A[c - P.length]:=fun c h1 h2=>B6j h1 h2
  obtain ⟨s,h1,h2,h3,h4,h5⟩:=C3v (F:=E4 (P++A++y::S) ((P.length+A.length:Nat):Int)) (fun c=> !ltP y (atP (P++A++y::S) c)) P.length (P.length+A.length) (by omega) (fun u v a1 a2 a3=>by
      unfold E4
      have e:=B8h u v (by omega)
      have g1:F3 (P++A++y::S) (((u+v) / 2:Nat):Int)=some (atP (P++A++y::S) ((u+v) / 2)):=C15 (by simp only [List.length_append,List.length_cons];omega)
      have g2:F3 (P++A++y::S) ((P.length+A.length:Nat):Int)=some y:=A1p _ _ _ _ (by simp)
      simp only [show decide ((u:Int)< (v:Int))=true from decide_eq_true (by omega),cond_true,e,g1,g2,Option.bind_some,C13,C12]
      rw [G1 (n:=(((u+v) / 2:Nat):Int)+1) (by omega)]
      cases ltP y (atP (P++A++y::S) ((u+v) / 2))<;>rfl) (fun u v a1=>by
      unfold E4
      rw [show decide ((u:Int)< (v:Int))=false from decide_eq_false (by omega)];rfl) (fun c c' a1 a2 a3 a4=>by
      obtain ⟨k1,e1⟩:=hat c (by omega) (by omega)
      obtain ⟨k2,e2⟩:=hat c' (by omega) (by omega)
      rw [e1]
      rw [e2,Bool.not_eq_true']at a4
      rw [Bool.not_eq_true']
      exact ltP_ok.trans _ _ _ (hs.get ltP_ok (i:=c - P.length) (j:=c' - P.length) (by omega) k2) a4)
  have hA12:=List.take_append_drop (s - P.length) A
  have hs':Srt ltP (A.take (s - P.length)++A.drop (s - P.length)):=by rw [hA12];exact hs
  have hl1:(A.take (s - P.length)).length=s - P.length:=by rw [List.length_take];omega
  have hm:=D3b (P++A.take (s - P.length)) S y _ (A.drop (s - P.length)) [] rfl (by simp only [List.length_append,List.length_cons,List.length_nil,List.length_take,List.length_drop];omega)
  rw [show P++A.take (s - P.length)++A.drop (s - P.length)++ [y]++S=P++A++y::S by
   simp only [List.append_assoc,List.cons_append,List.nil_append]
   rw [← List.append_assoc (A.take _),hA12],show (P++A.take (s - P.length)).length=s by rw [List.length_append,hl1];omega,show s+ (A.drop (s - P.length)).length=P.length+A.length by rw [List.length_drop];omega]at hm
  refine ⟨A.take (s - P.length)++y::A.drop (s - P.length),?_,?_,C8j hs' (fun q hq=> ?_) (fun q hq=> ?_)⟩
  ·unfold C0
   rw [G1 (n:=((P.length+A.length:Nat):Int) - (P.length:Int)) (by omega),show (((P.length+A.length:Nat):Int) - (P.length:Int)==1)=false by simp;omega,cond_false,G1 (n:=((P.length+A.length+1:Nat):Int) - ((P.length+A.length:Nat):Int)) (by omega),show (((P.length+A.length+1:Nat):Int) - ((P.length+A.length:Nat):Int)==1)=true by simp;omega,cond_true,h1,Option.bind_some,hm,Option.bind_some]
   simp
  ·refine List.perm_middle.trans ?_
   rw [hA12]
   exact (List.perm_append_singleton y A).symm
  ·obtain ⟨i,hi,h6,rfl⟩:=B6k hq
   have h7:=h4 (P.length+i) (by omega) (by omega)
   obtain ⟨k1,e1⟩:=hat (P.length+i) (by omega) (by omega)
   rw [e1,Bool.not_eq_true']at h7
   have e2:P.length+i - P.length=i:=by omega
   simp only [e2]at h7
   exact h7
  ·obtain ⟨i,hi,h6,rfl⟩:=B6l hq
   have h7:=h5 (P.length+i) (by omega) (by omega)
   obtain ⟨k1,e1⟩:=hat (P.length+i) (by omega) (by omega)
   rw [e1,Bool.not_eq_false']at h7
   have e2:P.length+i - P.length=i:=by omega
   simp only [e2]at h7
   exact ltP_ok.asym _ _ h7
end Go.Abs.Roadsz
/-! The merge in place: the general case, and the whole sort. -/
namespace Go.Abs.Roadsz
open Go Go.Abs
def C16 (k:Nat)(rc:List Pass→Int→Int→Int→Option (List Pass)):Prop:=
  ∀P A B S:List Pass,0<A.length→0<B.length→A.length+B.length≤k→Srt ltP A→Srt ltP B→(P++A++B++S).length≤1000000→
   ∃M,rc (P++A++B++S) (P.length:Int) ((P.length+A.length:Nat):Int) ((P.length+A.length+B.length:Nat):Int)=some (P++M++S)∧M.Perm (A++B)∧Srt ltP M
theorem D0q (P A B S:List Pass)(_hA:1<A.length)(_hB:1<B.length)(sA:Srt ltP A)(sB:Srt ltP B)(hN:(P++A++B++S).length≤1000000)(mid:Nat)(hmid:mid=(P.length+ (P.length+A.length+B.length)) / 2)(lo hi:Nat)
    (hlo:lo=if P.length+A.length>mid then mid+ (P.length+A.length) - (P.length+A.length+B.length)else P.length) (hhi:hi=if P.length+A.length>mid then mid else P.length+A.length):
    ∃s:Nat,loop (D6 (P++A++B++S) (P.length:Int) ((P.length+A.length:Nat):Int) ((P.length+A.length+B.length:Nat):Int)) ((lo:Int),(hi:Int))=some (s:Int)∧
     P.length≤s∧s≤P.length+A.length∧s≤mid∧mid - s≤B.length∧(∀x∈A.take (s - P.length)++B.take (mid - s),∀y∈A.drop (s - P.length)++B.drop (mid - s),ltP y x=false):=by
  have hN':=hN
  simp only [List.length_append]at hN'
  have hatA: ∀c,P.length≤c→c<P.length+A.length→∃h:c - P.length<A.length,atP (P++A++B++S) c=A[c - P.length]:=fun c h1 h2=>by
    rw [List.append_assoc];exact B6j h1 h2
  have hatB: ∀c,P.length+A.length≤c→c<P.length+A.length+B.length→∃h:c - (P.length+A.length)<B.length,atP (P++A++B++S) c=B[c - (P.length+A.length)]:=fun c h1 h2=>by
    obtain ⟨h,e⟩:=B6j (P:=P++A) (A:=B) (T:=S) (i:=c) (by simpa using h1) (by simpa using h2)
    refine ⟨by omega,?_⟩
    rw [e]
    congr 1
    simp
  have hlen:P.length+A.length+B.length+S.length≤1000000:=hN'
  have hat: ∀c,lo≤c→c<hi→P.length≤c∧c<P.length+A.length∧P.length+A.length≤mid+ (P.length+A.length) - 1 - c∧mid+ (P.length+A.length) - 1 - c<P.length+A.length+B.length:=fun c h1 h2=>by
    split at hlo<;>split at hhi<;>omega
  have hlh:lo≤hi:=by split at hlo<;>split at hhi<;>omega
  obtain ⟨s,h1,h2,h3,h4,h5⟩:=C3v (F:=D6 (P++A++B++S) (P.length:Int) ((P.length+A.length:Nat):Int) ((P.length+A.length+B.length:Nat):Int)) (fun c=> !ltP (atP (P++A++B++S) (mid+ (P.length+A.length) - 1 - c)) (atP (P++A++B++S) c)) lo hi hlh (fun u v a1 a2 a3=>by
      unfold D6
      obtain ⟨b1,b2,b3,b4⟩:=hat ((u+v) / 2) (by omega) (by omega)
      have e0:=B8h P.length (P.length+A.length+B.length) (by omega)
      rw [← hmid]at e0
      have e:=B8h u v (by omega)
      have e1:w64 ((mid:Int)+ ((P.length+A.length:Nat):Int))=((mid+ (P.length+A.length):Nat):Int):=by rw [G1 (by omega)];omega
      have e2:w64 (((mid+ (P.length+A.length):Nat):Int) - 1)=((mid+ (P.length+A.length) - 1:Nat):Int):=by rw [G1 (by omega)];omega
      have e3:w64 (((mid+ (P.length+A.length) - 1:Nat):Int) - (((u+v) / 2:Nat):Int))=((mid+ (P.length+A.length) - 1 - (u+v) / 2:Nat):Int):=by rw [G1 (by omega)];omega
      have g1:F3 (P++A++B++S) ((mid+ (P.length+A.length) - 1 - (u+v) / 2:Nat):Int)=some (atP (P++A++B++S) (mid+ (P.length+A.length) - 1 - (u+v) / 2)):=C15 (by simp only [List.length_append];omega)
      have g2:F3 (P++A++B++S) (((u+v) / 2:Nat):Int)=some (atP (P++A++B++S) ((u+v) / 2)):=C15 (by simp only [List.length_append];omega)
      simp only [show decide ((u:Int)< (v:Int))=true from decide_eq_true (by omega),cond_true,e0,e,e1,e2,e3,g1,g2,Option.bind_some,C13,C12]
      rw [G1 (n:=(((u+v) / 2:Nat):Int)+1) (by omega)]
      cases ltP (atP (P++A++B++S) (mid+ (P.length+A.length) - 1 - (u+v) / 2)) (atP (P++A++B++S) ((u+v) / 2))<;>rfl) (fun u v a1=>by
      unfold D6
      rw [show decide ((u:Int)< (v:Int))=false from decide_eq_false (by omega)];rfl) (fun c c' a1 a2 a3 a4=>by
      obtain ⟨b1,b2,b3,b4⟩:=hat c (by omega) (by omega)
      obtain ⟨b5,b6,b7,b8⟩:=hat c' (by omega) (by omega)
      obtain ⟨k1,e1⟩:=hatA c b1 b2
      obtain ⟨k2,e2⟩:=hatA c' b5 b6
      obtain ⟨k3,e3⟩:=hatB _ b3 b4
      obtain ⟨k4,e4⟩:=hatB _ b7 b8
      rw [e1,e3]
      rw [e2,e4,Bool.not_eq_true']at a4
      rw [Bool.not_eq_true']
      refine ltP_ok.trans _ _ _ ?_ (sB.get ltP_ok (i:=mid+ (P.length+A.length) - 1 - c' - (P.length+A.length)) (by omega) k3)
      exact ltP_ok.trans _ _ _ (sA.get ltP_ok (i:=c - P.length) (by omega) k2) a4)
  have hs1:P.length≤s:=by split at hlo<;>split at hhi<;>omega
  have hs2:s≤P.length+A.length:=by split at hlo<;>split at hhi<;>omega
  have hs3:s≤mid:=by split at hlo<;>split at hhi<;>omega
  have hs4:mid - s≤B.length:=by split at hlo<;>split at hhi<;>omega
  refine ⟨s,h1,hs1,hs2,hs3,hs4,fun x hx y hy=> ?_⟩
  have sA':Srt ltP (A.take (s - P.length)++A.drop (s - P.length)):=by rw [List.take_append_drop];exact sA
  have sB':Srt ltP (B.take (mid - s)++B.drop (mid - s)):=by rw [List.take_append_drop];exact sB
  rcases List.mem_append.1 hx with hx|hx<;>rcases List.mem_append.1 hy with hy|hy
  ·exact sA'.cross x hx y hy
  ·obtain ⟨i,hi',i2,rfl⟩:=B6k hx
   obtain ⟨j,hj',j2,rfl⟩:=B6l hy
   have hlt:lo≤s - 1:=by split at hlo<;>split at hhi<;>omega
   have hq:=h4 (s - 1) hlt (by omega)
   obtain ⟨b1,b2,b3,b4⟩:=hat (s - 1) hlt (by omega)
   obtain ⟨k1,e1⟩:=hatA _ b1 b2
   obtain ⟨k3,e3⟩:=hatB _ b3 b4
   rw [e1,e3,Bool.not_eq_true']at hq
   refine ltP_ok.trans _ _ _ (sA.get ltP_ok (i:=i) (j:=s - 1 - P.length) (by omega) k1) ?_
   exact ltP_ok.trans _ _ _ hq (sB.get ltP_ok (i:=mid+ (P.length+A.length) - 1 - (s - 1) - (P.length+A.length)) (j:=j) (by omega) hj')
  ·obtain ⟨j,hj',j2,rfl⟩:=B6k hx
   obtain ⟨i,hi',i2,rfl⟩:=B6l hy
   have hlt:s<hi:=by split at hlo<;>split at hhi<;>omega
   have hq:=h5 s (Nat.le_refl _) hlt
   obtain ⟨b1,b2,b3,b4⟩:=hat s h2 hlt
   obtain ⟨k1,e1⟩:=hatA _ b1 b2
   obtain ⟨k3,e3⟩:=hatB _ b3 b4
   rw [e1,e3,Bool.not_eq_false']at hq
   have hq':=ltP_ok.asym _ _ hq
   refine ltP_ok.trans _ _ _ (sB.get ltP_ok (i:=j) (j:=mid+ (P.length+A.length) - 1 - s - (P.length+A.length)) (by omega) k3) ?_
   exact ltP_ok.trans _ _ _ hq' (sA.get ltP_ok (i:=s - P.length) (j:=i) (by omega) hi')
  ·exact sB'.cross x hx y hy
theorem D3c (k:Nat)(rc:List Pass→Int→Int→Int→Option (List Pass))(hrc:C16 k rc):C16 (k+1) (C0 rc):=by
  intro P A B S hA hB hk sA sB hN
  have hlen:P.length+A.length+B.length+S.length≤1000000:=by simpa only [List.length_append] using hN
  by_cases hA1:A.length=1
  ·obtain ⟨x,rfl⟩:=List.length_eq_one_iff.1 hA1
   obtain ⟨M,g1,g2,g3⟩:=C8k P B S x sB (by simpa [Nat.add_assoc] using hN) rc hB
   refine ⟨M,?_,g2,g3⟩
   rw [← g1]
   simp
  by_cases hB1:B.length=1
  ·obtain ⟨y,rfl⟩:=List.length_eq_one_iff.1 hB1
   obtain ⟨M,g1,g2,g3⟩:=C6g P A S y sA (by simpa [Nat.add_assoc] using hN) rc (by omega)
   refine ⟨M,?_,g2,g3⟩
   rw [← g1]
   simp
  obtain ⟨mid,hmid⟩: ∃mid,mid=(P.length+ (P.length+A.length+B.length)) / 2:=⟨_,rfl⟩
  obtain ⟨lo,hlo⟩: ∃lo,lo=if P.length+A.length>mid then mid+ (P.length+A.length) - (P.length+A.length+B.length)else P.length:=⟨_,rfl⟩
  obtain ⟨hi,hhi⟩: ∃hi,hi=if P.length+A.length>mid then mid else P.length+A.length:=⟨_,rfl⟩
  obtain ⟨s,h1,hs1,hs2,hs3,hs4,hcr⟩:=D0q P A B S (by omega) (by omega) sA sB hN mid hmid lo hi hlo hhi
  have sA':Srt ltP (A.take (s - P.length)++A.drop (s - P.length)):=by rw [List.take_append_drop];exact sA
  have sB':Srt ltP (B.take (mid - s)++B.drop (mid - s)):=by rw [List.take_append_drop];exact sB
  have eA:=List.take_append_drop (s - P.length) A
  have eB:=List.take_append_drop (mid - s) B
  have lA1:(A.take (s - P.length)).length=s - P.length:=by rw [List.length_take];omega
  have lA2:(A.drop (s - P.length)).length=P.length+A.length - s:=by rw [List.length_drop];omega
  have lB1:(B.take (mid - s)).length=mid - s:=by rw [List.length_take];omega
  have lB2:(B.drop (mid - s)).length=P.length+A.length+B.length - (mid+ (P.length+A.length) - s):=by rw [List.length_drop];omega
  generalize A.take (s - P.length)=A1 at*
  generalize A.drop (s - P.length)=A2 at*
  generalize B.take (mid - s)=B1 at*
  generalize B.drop (mid - s)=B2 at*
  -- the first part of the code
  have hy5:cond (decide (((P.length+A.length:Nat):Int)>(mid:Int))) (some (w64 (w64 ((mid:Int)+ ((P.length+A.length:Nat):Int)) - ((P.length+A.length+B.length:Nat):Int)),(mid:Int))) (some ((P.length:Int),((P.length+A.length:Nat):Int)))=some ((lo:Int),(hi:Int)):=by
    by_cases hc:P.length+A.length>mid
    ·rw [if_pos hc]at hlo hhi
     rw [show decide (((P.length+A.length:Nat):Int)>(mid:Int))=true from decide_eq_true (by omega),cond_true,G1 (n:=(mid:Int)+_) (by omega),G1 (by omega),hlo,hhi]
     congr 2
     omega
    ·rw [if_neg hc]at hlo hhi
     rw [show decide (((P.length+A.length:Nat):Int)>(mid:Int))=false from decide_eq_false (by omega),cond_false,hlo,hhi]
  have e0:=B8h P.length (P.length+A.length+B.length) (by omega)
  rw [← hmid]at e0
  have e1:w64 ((mid:Int)+ ((P.length+A.length:Nat):Int))=((mid+ (P.length+A.length):Nat):Int):=by rw [G1 (by omega)];omega
  have e2:w64 (((mid+ (P.length+A.length):Nat):Int) - (s:Int))=((mid+ (P.length+A.length) - s:Nat):Int):=by rw [G1 (by omega)];omega
  rw [e1]at hy5
  -- the exchange
  have hy7:cond (decide ((s:Int)< ((P.length+A.length:Nat):Int))&&decide (((P.length+A.length:Nat):Int)< ((mid+ (P.length+A.length) - s:Nat):Int))) ((G2 (P++A++B++S) (s:Int) ((P.length+A.length:Nat):Int) ((mid+ (P.length+A.length) - s:Nat):Int)).bind fun v18=>some v18) (some (P++A++B++S))=some (P++A1++B1++ (A2++B2++S)):=by
    have eX:P++A++B++S=(P++A1)++A2++B1++ (B2++S):=by rw [← eA,← eB];simp
    by_cases c1:s<P.length+A.length
    ·by_cases c2:s<mid
     ·rw [show decide ((s:Int)< ((P.length+A.length:Nat):Int))=true from decide_eq_true (by omega),show decide (((P.length+A.length:Nat):Int)< ((mid+ (P.length+A.length) - s:Nat):Int))=true from decide_eq_true (by omega)]
      have hr:=D51 (P++A1) A2 B1 (B2++S) (by omega) (by omega) (by rw [← eX];exact hN)
      rw [← eX,show (P++A1).length=s by rw [List.length_append];omega,show s+A2.length=P.length+A.length by omega,show P.length+A.length+B1.length=mid+ (P.length+A.length) - s by omega]at hr
      rw [Bool.and_true,cond_true,hr]
      simp
     ·obtain rfl:B1= []:=List.length_eq_zero_iff.1 (by omega)
      rw [show decide (((P.length+A.length:Nat):Int)< ((mid+ (P.length+A.length) - s:Nat):Int))=false from decide_eq_false (by omega),Bool.and_false,cond_false,eX]
      simp
    ·obtain rfl:A2= []:=List.length_eq_zero_iff.1 (by omega)
     rw [show decide ((s:Int)< ((P.length+A.length:Nat):Int))=false from decide_eq_false (by omega),Bool.false_and,cond_false,eX]
     simp
  -- the two halves
  obtain ⟨M1,p1,q1,r1⟩: ∃M1,cond (decide ((P.length:Int)< (s:Int))&&decide ((s:Int)< (mid:Int))) ((rc (P++A1++B1++ (A2++B2++S)) (P.length:Int) (s:Int) (mid:Int)).bind fun v19=>some v19) (some (P++A1++B1++ (A2++B2++S)))=some (P++M1++A2++B2++S)∧M1.Perm (A1++B1)∧Srt ltP M1:=by
    have easy:A1= []∨B1= []→Srt ltP (A1++B1):=by
      rintro (rfl|rfl)
      ·exact sB'.left
      ·rw [List.append_nil];exact sA'.left
    by_cases c1:P.length<s
    ·by_cases c2:s<mid
     ·obtain ⟨M1,g1,g2,g3⟩:=hrc P A1 B1 (A2++B2++S) (by omega) (by omega) (by omega) sA'.left sB'.left (by simp only [List.length_append];omega)
      rw [show P.length+A1.length=s by omega,show s+B1.length=mid by omega]at g1
      refine ⟨M1,?_,g2,g3⟩
      rw [show decide ((P.length:Int)< (s:Int))=true from decide_eq_true (by omega),show decide ((s:Int)< (mid:Int))=true from decide_eq_true (by omega),Bool.and_true,cond_true,g1]
      simp
     ·refine ⟨A1++B1,?_, .refl _,easy (.inr (List.length_eq_zero_iff.1 (by omega)))⟩
      rw [show decide ((s:Int)< (mid:Int))=false from decide_eq_false (by omega),Bool.and_false,cond_false]
      simp
    ·refine ⟨A1++B1,?_, .refl _,easy (.inl (List.length_eq_zero_iff.1 (by omega)))⟩
     rw [show decide ((P.length:Int)< (s:Int))=false from decide_eq_false (by omega),Bool.false_and,cond_false]
     simp
  have lM1:M1.length=mid - P.length:=by rw [q1.length_eq,List.length_append];omega
  obtain ⟨M2,p2,q2,r2⟩: ∃M2,cond (decide ((mid:Int)< ((mid+ (P.length+A.length) - s:Nat):Int))&&decide (((mid+ (P.length+A.length) - s:Nat):Int)< ((P.length+A.length+B.length:Nat):Int))) ((rc (P++M1++A2++B2++S) (mid:Int) ((mid+ (P.length+A.length) - s:Nat):Int) ((P.length+A.length+B.length:Nat):Int)).bind fun v20=>some v20) (some (P++M1++A2++B2++S))=some (P++ (M1++M2)++S)∧M2.Perm (A2++B2)∧Srt ltP M2:=by
    have easy:A2= []∨B2= []→Srt ltP (A2++B2):=by
      rintro (rfl|rfl)
      ·exact sB'.right
      ·rw [List.append_nil];exact sA'.right
    by_cases c1:s<P.length+A.length
    ·by_cases c2:mid+ (P.length+A.length) - s<P.length+A.length+B.length
     ·obtain ⟨M2,g1,g2,g3⟩:=hrc (P++M1) A2 B2 S (by omega) (by omega) (by omega) sA'.right sB'.right (by simp only [List.length_append];omega)
      rw [show (P++M1).length=mid by rw [List.length_append];omega,show mid+A2.length=mid+ (P.length+A.length) - s by omega,show mid+ (P.length+A.length) - s+B2.length=P.length+A.length+B.length by omega]at g1
      refine ⟨M2,?_,g2,g3⟩
      rw [show decide ((mid:Int)< ((mid+ (P.length+A.length) - s:Nat):Int))=true from decide_eq_true (by omega),show decide (((mid+ (P.length+A.length) - s:Nat):Int)< ((P.length+A.length+B.length:Nat):Int))=true from decide_eq_true (by omega),Bool.and_true,cond_true,g1]
      simp
     ·refine ⟨A2++B2,?_, .refl _,easy (.inr (List.length_eq_zero_iff.1 (by omega)))⟩
      rw [show decide (((mid+ (P.length+A.length) - s:Nat):Int)< ((P.length+A.length+B.length:Nat):Int))=false from decide_eq_false (by omega),Bool.and_false,cond_false]
      simp
    ·refine ⟨A2++B2,?_, .refl _,easy (.inl (List.length_eq_zero_iff.1 (by omega)))⟩
     rw [show decide ((mid:Int)< ((mid+ (P.length+A.length) - s:Nat):Int))=false from decide_eq_false (by omega),Bool.false_and,cond_false]
     simp
  refine ⟨M1++M2,?_,?_,r1.app r2 fun x hx y hy=>hcr x (q1.mem_iff.1 hx) y (q2.mem_iff.1 hy)⟩
  ·unfold C0
   rw [G1 (n:=((P.length+A.length:Nat):Int) - (P.length:Int)) (by omega),show (((P.length+A.length:Nat):Int) - (P.length:Int)==1)=false by simp;omega,cond_false,G1 (n:=((P.length+A.length+B.length:Nat):Int) - ((P.length+A.length:Nat):Int)) (by omega),show (((P.length+A.length+B.length:Nat):Int) - ((P.length+A.length:Nat):Int)==1)=false by simp;omega,cond_false]
   simp only [e0,hy5,Option.bind_some,h1,e1,e2,hy7,p1,p2]
  ·refine (q1.append q2).trans ?_
   rw [← eA,← eB]
   simp only [List.append_assoc]
   refine List.Perm.append_left A1 ?_
   rw [← List.append_assoc,← List.append_assoc]
   exact List.Perm.append_right B2 List.perm_append_comm
end Go.Abs.Roadsz
/-! The stable sort. -/
namespace Go.Abs.Roadsz
open Go Go.Abs
theorem C8l: ∀n,C16 n (H8 n)
  |0=>fun _ _ _ _ h1 _ h3=>absurd h3 (by omega)
  |n+1=>D3c n _ (C8l n)
theorem C50:C16 100 I5:=C8l 100
def BlkS (w:Nat)(l:List Pass):Prop:= ∀i,Srt ltP ((l.drop (i*w)).take w)
theorem BlkS.cons {w:Nat}{M R:List Pass}(hM:M.length=w)(h1:Srt ltP M)(h2:BlkS w R):BlkS w (M++R):=by
  intro i
  cases i with
  |zero=>rw [Nat.zero_mul,List.drop_zero,List.take_append_of_le_length (by omega),List.take_of_length_le (by omega)];exact h1
  |succ i=>
   have:=h2 i
   rw [Nat.add_mul,Nat.one_mul,List.drop_append,List.drop_eq_nil_of_le (by omega),List.nil_append,show i*w+w - M.length=i*w by omega]
   exact this
theorem BlkS.last {w:Nat}{M:List Pass}(hM:M.length≤w)(h1:Srt ltP M):BlkS w M:=by
  intro i
  exact h1.sublist ((List.take_sublist _ _).trans (List.drop_sublist _ _))
theorem BlkS.drop {w:Nat}{R:List Pass}(h:BlkS w R):BlkS w (R.drop w):=by
  intro i
  have:=h (i+1)
  rwa [Nat.add_mul,Nat.one_mul,Nat.add_comm,← List.drop_drop]at this
theorem BlkS.head {w:Nat}{R:List Pass}(h:BlkS w R):Srt ltP (R.take w):=by
  have:=h 0
  rwa [Nat.zero_mul,List.drop_zero]at this
theorem st1 (n:Nat)(hn:n≤100): ∀(k:Nat) (R D:List Pass),R.length≤k→D.length+R.length=n→
    ∃y R',loop (D4 (n:Int)) ((D.length:Int),((D.length+20:Nat):Int),D++R)=some y∧C5 y.2 y.1 (n:Int)=some (D++R')∧BlkS 20 R'∧R'.Perm R:=by
  intro k
  induction k with
  |zero=>
   intro R D hk hl
   obtain rfl:=List.length_eq_zero_iff.1 (show R.length=0 by omega)
   obtain ⟨A',g1,g2,g3⟩:=C3w D [] [] (by simp;omega)
   simp only [List.append_nil,List.length_nil,Nat.add_zero]at g1 hl ⊢
   refine ⟨_,A',D5 (t:=((D.length:Int),D)) ?_,by rw [← hl];exact g1, .last (by rw [g2.length_eq];simp) g3,g2⟩
   unfold D4
   rw [show decide (((D.length+20:Nat):Int)≤(n:Int))=false from decide_eq_false (by omega)];rfl
  |succ k ih=>
   intro R D hk hl
   by_cases h20:20≤R.length
   ·have eR:=List.take_append_drop 20 R
    have l1:(R.take 20).length=20:=by rw [List.length_take];omega
    obtain ⟨A',g1,g2,g3⟩:=C3w D (R.take 20) (R.drop 20) (by rw [List.append_assoc,eR];simp;omega)
    have lA:A'.length=20:=by rw [g2.length_eq];exact l1
    rw [l1,List.append_assoc,eR]at g1
    obtain ⟨y,R',k1,k2,k3,k4⟩:=ih (R.drop 20) (D++A') (by rw [List.length_drop];omega) (by rw [List.length_append,List.length_drop];omega)
    refine ⟨y,A'++R',?_,by rw [k2,List.append_assoc], .cons lA g3 k3,?_⟩
    ·rw [← k1,show (D++A').length=D.length+20 by rw [List.length_append,lA]]
     refine L3 ?_
     unfold D4
     simp only [show decide (((D.length+20:Nat):Int)≤(n:Int))=true from decide_eq_true (by omega),cond_true,g1,Option.bind_some]
     rw [G1 (n:=((D.length+20:Nat):Int)+20) (by omega)]
     simp
    ·exact (g2.append k4).trans (by rw [eR])
   ·obtain ⟨A',g1,g2,g3⟩:=C3w D R [] (by simp;omega)
    simp only [List.append_nil]at g1
    rw [hl]at g1
    refine ⟨_,A',D5 (t:=((D.length:Int),D++R)) ?_,g1, .last (by rw [g2.length_eq];omega) g3,g2⟩
    unfold D4
    rw [show decide (((D.length+20:Nat):Int)≤(n:Int))=false from decide_eq_false (by omega)];rfl
theorem st3 (n w:Nat)(hn:n≤100)(hw:0<w)(hw2:w≤100)(x2:Int×List Pass)(hx:x2.1=(w:Int)): ∀(k:Nat) (R D:List Pass),R.length≤k→D.length+R.length=n→BlkS w R→
    ∃(d:Nat) (W R':List Pass),loop (C3 (n:Int) x2) ((D.length:Int),((D.length+2*w:Nat):Int),D++R)=some ((d:Int),W)∧d≤n∧
     (if d+w<n then I5 W (d:Int) ((d+w:Nat):Int) (n:Int)else some W)=some (D++R')∧BlkS (2*w) R'∧R'.Perm R:=by
  intro k
  induction k with
  |zero=>
   intro R D hk hl hb
   obtain rfl:=List.length_eq_zero_iff.1 (show R.length=0 by omega)
   refine ⟨D.length,D++ [],[],D5 ?_,by omega,?_, .last (by simp) List.Pairwise.nil, .refl _⟩
   ·unfold C3
    simp only [List.length_nil]at hl
    rw [show decide (((D.length+2*w:Nat):Int)≤(n:Int))=false from decide_eq_false (by omega)];rfl
   ·simp only [List.length_nil]at hl
    rw [if_neg (by omega)]
  |succ k ih=>
   intro R D hk hl hb
   by_cases h2:2*w≤R.length
   ·have e1:=List.take_append_drop w R
    have e2:=List.take_append_drop w (R.drop w)
    have l1:(R.take w).length=w:=by rw [List.length_take];omega
    have l2:((R.drop w).take w).length=w:=by rw [List.length_take,List.length_drop];omega
    have l3:((R.drop w).drop w).length=R.length - 2*w:=by rw [List.length_drop,List.length_drop];omega
    obtain ⟨M,g1,g2,g3⟩:=C50 D (R.take w) ((R.drop w).take w) ((R.drop w).drop w) (by omega) (by omega) (by omega) hb.head hb.drop.head (by simp only [List.length_append,l1,l2,l3];omega)
    have lM:M.length=2*w:=by rw [g2.length_eq,List.length_append,l1,l2];omega
    have eX:D++R.take w++ (R.drop w).take w++ (R.drop w).drop w=D++R:=by
      rw [List.append_assoc (D++R.take w),e2,List.append_assoc,e1]
    rw [eX,l1,l2]at g1
    obtain ⟨d,W,R',k1,k2,k3,k4,k5⟩:=ih ((R.drop w).drop w) (D++M) (by omega) (by rw [List.length_append];omega) hb.drop.drop
    refine ⟨d,W,M++R',?_,k2,by rw [k3,List.append_assoc], .cons lM g3 k4,?_⟩
    ·rw [← k1,show (D++M).length=D.length+2*w by rw [List.length_append,lM]]
     refine L3 ?_
     unfold C3
     simp only [show decide (((D.length+2*w:Nat):Int)≤(n:Int))=true from decide_eq_true (by omega),cond_true,hx]
     rw [G1 (n:=(D.length:Int)+ (w:Int)) (by omega),show (D.length:Int)+ (w:Int)=((D.length+w:Nat):Int) by omega,show ((D.length+2*w:Nat):Int)=((D.length+w+w:Nat):Int) by omega,g1,Option.bind_some,G1 (n:=2* (w:Int)) (by omega),G1 (by omega),show ((D.length+w+w:Nat):Int)+2* (w:Int)=((D.length+2*w+2*w:Nat):Int) by omega,show D.length+w+w=D.length+2*w by omega]
    ·refine (g2.append k5).trans ?_
     rw [List.append_assoc,e2,e1]
   ·refine ⟨D.length,D++R,?_⟩
    have hout:loop (C3 (n:Int) x2) ((D.length:Int),((D.length+2*w:Nat):Int),D++R)=some ((D.length:Int),D++R):=by
      refine D5 ?_
      unfold C3
      rw [show decide (((D.length+2*w:Nat):Int)≤(n:Int))=false from decide_eq_false (by omega)];rfl
    by_cases h1:w<R.length
    ·have e1:=List.take_append_drop w R
     have l1:(R.take w).length=w:=by rw [List.length_take];omega
     have l2:(R.drop w).length=R.length - w:=List.length_drop
     have hs2:Srt ltP (R.drop w):=by
       have:=hb.drop.head
       rwa [List.take_of_length_le (by omega)]at this
     obtain ⟨M,g1,g2,g3⟩:=C50 D (R.take w) (R.drop w) [] (by omega) (by omega) (by omega) hb.head hs2 (by simp only [List.length_append,l1,l2,List.length_nil];omega)
     rw [List.append_nil,List.append_nil,List.append_assoc,e1,l1,l2,show D.length+w+ (R.length - w)=n by omega]at g1
     refine ⟨M,hout,by omega,by rw [if_pos (by omega)];exact g1, .last (by rw [g2.length_eq,List.length_append];omega) g3,by rw [e1]at g2;exact g2⟩
    ·refine ⟨R,hout,by omega,by rw [if_neg (by omega)], .last (by omega) ?_, .refl _⟩
     have:=hb.head
     rwa [List.take_of_length_le (by omega)]at this
theorem st2 (n:Nat)(hn:n≤100): ∀(k w:Nat) (R:List Pass),n - w≤k→0<w→w≤200→R.length=n→BlkS w R→
    ∃R',loop (D3 (n:Int)) ((w:Int),R)=some R'∧R'.Perm R∧Srt ltP R':=by
  intro k
  induction k with
  |zero=>
   intro w R hk hw hw2 hl hb
   refine ⟨R,D5 ?_, .refl _,?_⟩
   ·unfold D3
    rw [show decide ((w:Int)< (n:Int))=false from decide_eq_false (by omega)];rfl
   ·have:=hb.head
    rwa [List.take_of_length_le (by omega)]at this
  |succ k ih=>
   intro w R hk hw hw2 hl hb
   by_cases hlt:w<n
   ·obtain ⟨d,W,R1,k1,k2,k3,k4,k5⟩:=st3 n w hn hw (by omega) ((w:Int),R) rfl R.length R [] (Nat.le_refl _) (by simpa using hl) hb
    obtain ⟨R',g1,g2,g3⟩:=ih (2*w) R1 (by omega) (by omega) (by omega) (by rw [k5.length_eq];exact hl) k4
    refine ⟨R',?_,g2.trans k5,g3⟩
    rw [← g1]
    refine L3 ?_
    unfold D3
    simp only [List.length_nil,Nat.zero_add,List.nil_append]at k1 k3
    have k1':loop (C3 (n:Int) ((w:Int),R)) (0,w64 (2* (w:Int)),R)=some ((d:Int),W):=by
      rw [G1 (n:=2* (w:Int)) (by omega),show 2* (w:Int)=((2*w:Nat):Int) by omega];exact k1
    have e2:w64 ((w:Int)*2)=((2*w:Nat):Int):=by rw [G1 (by omega)];omega
    have e3:w64 ((d:Int)+ (w:Int))=((d+w:Nat):Int):=by rw [G1 (by omega)];omega
    simp only [show decide ((w:Int)< (n:Int))=true from decide_eq_true (by omega),cond_true,k1',Option.bind_some,e2,e3]
    by_cases hd:d+w<n
    ·rw [if_pos hd]at k3
     rw [show decide (((d+w:Nat):Int)< (n:Int))=true from decide_eq_true (by omega),cond_true,k3];rfl
    ·rw [if_neg hd]at k3
     rw [show decide (((d+w:Nat):Int)< (n:Int))=false from decide_eq_false (by omega),cond_false,Option.some.inj k3]
   ·refine ⟨R,D5 ?_, .refl _,?_⟩
    ·unfold D3
     rw [show decide ((w:Int)< (n:Int))=false from decide_eq_false (by omega)];rfl
    ·have:=hb.head
     rwa [List.take_of_length_le (by omega)]at this
theorem C8m (xs:List Pass)(h:xs.length≤100): ∃ys,G3 xs=some ys∧ys.Perm xs∧Srt ltP ys:=by
  obtain ⟨y,R,k1,k2,k3,k4⟩:=st1 xs.length h xs.length xs [] (Nat.le_refl _) (by simp)
  obtain ⟨R',g1,g2,g3⟩:=st2 xs.length h xs.length 20 R (by omega) (by omega) (by omega) k4.length_eq k3
  refine ⟨R',?_,g2.trans k4,g3⟩
  unfold G3 K5
  have k1':loop (D4 (xs.length:Int)) (0,20,xs)=some y:=k1
  have k2':C5 y.2 y.1 (xs.length:Int)=some R:=k2
  have g1':loop (D3 (xs.length:Int)) (20,R)=some R':=g1
  simp only [k1',Option.bind_some,k2',g1']
theorem C00:G4=some ():=by
  have i0:E6 0 0=some ():=by
    unfold E6
    exact D5 rfl
  have h1:loop (J7 0) (0,20)=some 0:=D5 rfl
  have h2:loop (J6 0) 20=some ():=D5 rfl
  unfold G4 K6
  simp only [h1,Option.bind_some,i0,h2]
end Go.Abs.Roadsz
/-! Places and passes. -/
namespace Go.Abs.Roadsz
open Go Go.Abs
theorem B2c (m:Map): ∀(r:List Int) (s:Int),A4a m s r=s+A4a m 0 r
  | [],s=>by simp [A4a]
  |a::r,s=>by rw [A4a,A4a,B2c m r (s+W3 m a),B2c m r (0+W3 m a)];omega
theorem B8i (m:Map): ∀(r:List Int) (s:Int) (i:Nat),i<r.length→(R2 m s r)[i]? =some (s+A4a m 0 (r.take i))
  | [],_,_,h=>absurd h (by simp)
  |a::r,s,0,_=>by simp [R2,A4a]
  |a::r,s,i+1,h=>by
   rw [R2,List.getElem?_cons_succ,B8i m r _ i (by simpa using h),List.take_succ_cons,A4a,B2c m _ (0+W3 m a)]
   congr 1;omega
noncomputable def atM (m:Map)(r:List Int)(i:Nat):Int:=A4a m 0 (r.take i)
theorem B2d (m:Map)(r:List Int):atM m r 0=0:=rfl
theorem B8j (m:Map)(x:Int): ∀(l:List Int) (s:Int),A4a m s (l++ [x])=A4a m s l+W3 m x
  | [],s=>rfl
  |a::l,s=>by rw [List.cons_append,A4a,A4a,B8j m x l]
theorem B0u {m:Map}{r:List Int}{i:Nat}{a:Int}(h:r[i]? =some a):atM m r (i+1)=atM m r i+W3 m a:=by
  unfold atM
  rw [List.take_add_one,h]
  exact B8j m a _ _
theorem D3d (m:Map)(r:List Int):atM m r r.length=A4a m 0 r:=by rw [atM,List.take_length]
theorem RouteOK.len {m:Map}{a:Int}{t:List Int}(R:RouteOK m a t){i:Nat}{x:Int}(h:(a::t)[i]? =some x):1000≤W3 m x∧W3 m x≤16777216:=by
  have:=R.mem (List.mem_of_getElem? h)
  exact R.val.long this.1 this.2
theorem RouteOK.mono {m:Map}{a:Int}{t:List Int}(R:RouteOK m a t): ∀(j i:Nat),i+j≤(a::t).length→atM m (a::t) i+1000*j≤atM m (a::t) (i+j)∧atM m (a::t) (i+j)≤atM m (a::t) i+16777216*j
  |0,i,_=>by simp
  |j+1,i,h=>by
   have:=R.mono j i (by omega)
   have e:(a::t)[i+j]? =some (a::t)[i+j]:=List.getElem?_eq_getElem (by omega)
   have hl:=R.len e
   rw [← Nat.add_assoc,B0u e]
   omega
theorem RouteOK.lt {m:Map}{a:Int}{t:List Int}(R:RouteOK m a t){i j:Nat}(hij:i<j)(hj:j≤(a::t).length):atM m (a::t) i+1000≤atM m (a::t) j:=by
  have:=(R.mono (j - i) i (by omega)).1
  rw [show i+ (j - i)=j by omega]at this
  omega
theorem RouteOK.bd {m:Map}{a:Int}{t:List Int}(R:RouteOK m a t){i:Nat}(hi:i≤(a::t).length):0≤atM m (a::t) i∧atM m (a::t) i≤134217728:=by
  have:=R.mono i 0 (by omega)
  have h7:=R.most
  simp only [List.length_cons]at hi
  rw [Nat.zero_add,B2d]at this
  omega
theorem RouteOK.follow {m:Map}{a:Int}{t:List Int}(R:RouteOK m a t):W9 m (a::t)=⟨m,a::t,R2 m 0 (a::t),atM m (a::t) (a::t).length⟩:=by
  unfold W9
  rw [if_pos (chkRoute_zero.2 ⟨a,t,rfl,R⟩),D3d]
theorem RouteOK.starts {m:Map}{a:Int}{t:List Int}{i:Nat}(hi:i< (a::t).length):F3 (R2 m 0 (a::t)) (i:Int)=some (atM m (a::t) i):=by
  rw [G0 (B8i m _ 0 i hi),Int.zero_add];rfl
/-- The place of a coordinate. -/
theorem D0r {m:Map}(B:BearM m){a:Int}{t:List Int}(R:RouteOK m a t){s:Int}(h0:0≤s)(h1:s≤atM m (a::t) (a::t).length):
    ∃(k:Nat) (x:Int),(a::t)[k]? =some x∧A0w m (a::t) s=some (x,s - atM m (a::t) k,true)∧atM m (a::t) k≤s∧∀j,k<j→j< (a::t).length→s<atM m (a::t) j:=by
  have hm7:=R.most
  have hbd:=R.bd (Nat.le_refl _)
  have key: ∀(k:Nat),k< (a::t).length→(∀j,k<j→j< (a::t).length→s<atM m (a::t) j)→
   ∃k',k'< (a::t).length∧loop (X4 s (W9 m (a::t))) (k:Int)=some (k':Int)∧atM m (a::t) k'≤s∧∀j,k'<j→j< (a::t).length→s<atM m (a::t) j:=by
    intro k
    induction k with
    |zero=>
     intro hk hj
     refine ⟨0,hk,D5 ?_,by rw [B2d];exact h0,hj⟩
     unfold X4
     rw [R.follow]
     dsimp only
     rw [RouteOK.starts hk,Option.bind_some,B2d,show decide ((0:Int)>s)=false from decide_eq_false (by omega)];rfl
    |succ k ih=>
     intro hk hj
     by_cases hc:s<atM m (a::t) (k+1)
     ·obtain ⟨k',g1,g2,g3,g4⟩:=ih (by omega) (fun j h1 h2=>by
        rcases Nat.lt_or_ge (k+1) j with h|h
        ·exact hj j h h2
        ·obtain rfl:j=k+1:=by omega
         exact hc)
      refine ⟨k',g1,?_,g3,g4⟩
      rw [← g2]
      refine L3 ?_
      unfold X4
      rw [R.follow]
      dsimp only
      rw [RouteOK.starts hk,Option.bind_some,show decide (atM m (a::t) (k+1)>s)=true from decide_eq_true (by omega),cond_true,G1 (by simp only [List.length_cons]at hk;omega)]
      congr 2;omega
     ·refine ⟨k+1,hk,D5 ?_,by omega,hj⟩
      unfold X4
      rw [R.follow]
      dsimp only
      rw [RouteOK.starts hk,Option.bind_some,show decide (atM m (a::t) (k+1)>s)=false from decide_eq_false (by omega)];rfl
  obtain ⟨k,g1,g2,g3,g4⟩:=key ((a::t).length - 1) (by simp) (fun j h1 h2=>by omega)
  have hx:(a::t)[k]? =some (a::t)[k]:=List.getElem?_eq_getElem g1
  refine ⟨k,(a::t)[k],hx,?_,g3,g4⟩
  unfold A0w
  rw [A77 B _ (by simp;omega),Option.bind_some]
  have hl:(W9 m (a::t)).lanes=a::t:=by rw [R.follow]
  have hst:(W9 m (a::t)).starts=R2 m 0 (a::t):=by rw [R.follow]
  have htl:(W9 m (a::t)).length=atM m (a::t) (a::t).length:=by rw [R.follow]
  rw [hl,hst,htl,show (((a::t).length:Int)==0)=false by simp;omega]
  simp only [Bool.not_false,cond_true,A76,Option.bind_some,Bool.false_or]
  rw [show inR s 0 (atM m (a::t) (a::t).length)=true by unfold inR;rw [decide_eq_true h0,decide_eq_true h1];rfl,show w64 (((a::t).length:Int) - 1)=(((a::t).length - 1:Nat):Int) by rw [G1 (by simp only [List.length_cons];omega)];simp only [List.length_cons];omega,g2]
  simp only [Bool.not_true,cond_false,Option.bind_some]
  rw [G0 hx,RouteOK.starts g1,Option.bind_some,Option.bind_some,G1 (by have:=R.bd (Nat.le_of_lt g1);omega)]
/-! ### Passes -/
def B17 (lane s:Int)(zi:Nat):Nat→List Part→List Pass
  |_,[]=> []
  |k,p::r=>(if p.Lane_==lane then [⟨(zi:Int),(k:Int),s+p.From,s+p.To⟩]else [])++B17 lane s zi (k+1) r
def B2s (lane s:Int):Nat→List Zone→List Pass
  |_,[]=> []
  |zi,z::r=>B17 lane s zi 0 z.Parts++B2s lane s (zi+1) r
noncomputable def A8s (m:Map):Int→List Int→List Pass
  |_,[]=> []
  |s,a::r=>B2s a s 0 m.Zones++A8s m (s+W3 m a) r
theorem B4v (lane s:Int)(zi:Nat): ∀(l:List Part) (k:Nat),(l.map (·.Lane_)).Pairwise (· < ·)→(B17 lane s zi k l).length≤1
  | [],_,_=>by simp [B17]
  |p::r,k,h=>by
   obtain ⟨h1,h2⟩:=List.pairwise_cons.1 h
   have nil: ∀(r:List Part) (k:Nat),(∀q∈r,q.Lane_≠lane)→B17 lane s zi k r= []:=by
     intro r
     induction r with
     |nil=>intro k _;rfl
     |cons q r ih=>
      intro k hq
      rw [B17,ih (k+1) (fun y hy=>hq y (List.mem_cons_of_mem _ hy)),show (q.Lane_==lane)=false by simp [hq q (by simp)]]
      rfl
   rw [B17]
   by_cases e:p.Lane_=lane
   ·rw [nil r (k+1) (fun q hq=>by
    have:p.Lane_<q.Lane_:=h1 q.Lane_ (List.mem_map_of_mem hq)
    omega)]
    simp [e]
   ·rw [show (p.Lane_==lane)=false by simp [e]]
    exact B4v lane s zi r (k+1) h2
theorem B4w {m:Map}(lane s:Int): ∀(l:List Zone) (zi:Nat),(∀z∈l,ZoneOK m z)→(B2s lane s zi l).length≤l.length
  | [],_,_=>by simp [B2s]
  |z::r,zi,h=>by
   have:=B4v lane s zi z.Parts 0 (A9w (h z (by simp)).rise)
   have:=B4w lane s r (zi+1) fun y hy=>h y (List.mem_cons_of_mem _ hy)
   rw [B2s,List.length_append,List.length_cons]
   omega
theorem C2m {m:Map}(V:ValR m): ∀(r:List Int) (s:Int),(A8s m s r).length≤12*r.length
  | [],_=>by simp [A8s]
  |a::r,s=>by
   have:=B4w (m:=m) a s m.Zones 0 fun z hz=>V.zoneOK hz
   have:=V.zones
   have:=C2m V r (s+W3 m a)
   rw [A8s,List.length_append,List.length_cons]
   omega
theorem C2n (lane s:Int)(zi:Nat): ∀(l:List Part) (k:Nat) (x:Pass),x∈B17 lane s zi k l→∃(j:Nat) (p:Part),l[j]? =some p∧p.Lane_=lane∧x=⟨(zi:Int),((k+j:Nat):Int),s+p.From,s+p.To⟩
  | [],_,x,h=>by simp [B17]at h
  |p::r,k,x,h=>by
   rw [B17,List.mem_append]at h
   rcases h with h|h
   ·by_cases e:p.Lane_=lane
    ·rw [if_pos (by simp [e]),List.mem_singleton]at h
     exact ⟨0,p,rfl,e,h⟩
    ·rw [if_neg (by simp [e])]at h;simp at h
   ·obtain ⟨j,q,h1,h2,h3⟩:=C2n lane s zi r (k+1) x h
    exact ⟨j+1,q,by simpa using h1,h2,by rw [h3];congr 1;omega⟩
theorem C2o (lane s:Int): ∀(l:List Zone) (zi:Nat) (x:Pass),x∈B2s lane s zi l→∃(j:Nat) (z:Zone) (k:Nat) (p:Part),l[j]? =some z∧z.Parts[k]? =some p∧p.Lane_=lane∧x=⟨((zi+j:Nat):Int),(k:Int),s+p.From,s+p.To⟩
  | [],_,x,h=>by simp [B2s]at h
  |z::r,zi,x,h=>by
   rw [B2s,List.mem_append]at h
   rcases h with h|h
   ·obtain ⟨k,p,h1,h2,h3⟩:=C2n lane s zi z.Parts 0 x h
    exact ⟨0,z,k,p,rfl,h1,h2,by rw [h3,Nat.zero_add];rfl⟩
   ·obtain ⟨j,y,k,p,h0,h1,h2,h3⟩:=C2o lane s r (zi+1) x h
    exact ⟨j+1,y,k,p,by simpa using h0,h1,h2,by rw [h3];congr 1;omega⟩
theorem B8k (m:Map): ∀(r:List Int) (s:Int) (x:Pass),x∈A8s m s r→∃(i:Nat) (lane:Int) (j:Nat) (z:Zone) (k:Nat) (p:Part),r[i]? =some lane∧m.Zones[j]? =some z∧z.Parts[k]? =some p∧p.Lane_=lane∧x=⟨(j:Int),(k:Int),s+A4a m 0 (r.take i)+p.From,s+A4a m 0 (r.take i)+p.To⟩
  | [],_,x,h=>by simp [A8s]at h
  |a::r,s,x,h=>by
   rw [A8s,List.mem_append]at h
   rcases h with h|h
   ·obtain ⟨j,z,k,p,h1,h2,h3,h4⟩:=C2o a s m.Zones 0 x h
    exact ⟨0,a,j,z,k,p,rfl,h1,h2,h3,by rw [h4];simp [A4a]⟩
   ·obtain ⟨i,lane,j,z,k,p,h0,h1,h2,h3,h4⟩:=B8k m r _ x h
    refine ⟨i+1,lane,j,z,k,p,by simpa using h0,h1,h2,h3,?_⟩
    rw [h4,List.take_succ_cons,A4a,B2c m _ (0+W3 m a)]
    congr 1<;>omega
section
variable {m:Map}{a:Int}{t:List Int}
theorem D3e (B:BearM m)(R:RouteOK m a t){i:Nat}{lane:Int}(hi:i< (a::t).length)(zi:Nat){z:Zone}(hz:m.Zones[zi]? =some z)(o1 o2:List Pass):
    ∀(r:List Part) (k:Nat) (out:List Pass),z.Parts.drop k=r→k≤z.Parts.length→out.length+r.length≤1000→
     loop (Y8 (W9 m (a::t)) (o1,(i:Int)) lane (o2,(zi:Int)) z) (out,(k:Int))=some (out++B17 lane (atM m (a::t) i) zi k r):=by
  have Z:=R.val.zoneOK (List.mem_of_getElem? hz)
  have h6:=Z.six
  intro r
  induction r with
  |nil=>
   intro k out hk hkl hl
   have:=T6 hk
   obtain rfl:k=z.Parts.length:=by omega
   refine D5 ?_
   unfold Y8
   rw [S3];simp [B17]
  |cons p r ih=>
   intro k out hk hkl hl
   have hlt:=P7 hk
   have hp:=A4i hk
   have hpm:=List.mem_of_getElem? hp
   have hpt:=Z.part p hpm
   have hln:=A60 Z.rise p.Lane_ (List.mem_map_of_mem hpm)
   have hll:=R.val.long hln.1 hln.2
   have hb:=R.bd (Nat.le_of_lt hi)
   simp only [List.length_cons]at hl
   have hs:Y8 (W9 m (a::t)) (o1,(i:Int)) lane (o2,(zi:Int)) z (out,(k:Int))=some (.go (out++ (if p.Lane_==lane then [⟨(zi:Int),(k:Int),atM m (a::t) i+p.From,atM m (a::t) i+p.To⟩]else []),((k+1:Nat):Int))):=by
     unfold Y8
     dsimp only
     rw [Z7 hlt,G0 hp,cond_true,Option.bind_some,O7 hlt (by omega)]
     cases p.Lane_==lane
     ·simp
     ·rw [R.follow]
      dsimp only
      rw [cond_true,RouteOK.starts hi,Option.bind_some,Option.bind_some,G1 (by omega),G1 (by omega),A94 (by simp;omega)]
      rfl
   rw [L3 hs,ih (k+1) _ (L4 hk) (by omega) (by rw [List.length_append];split<;>simp<;>omega),B17,List.append_assoc]
theorem D3f (B:BearM m)(R:RouteOK m a t){i:Nat}{lane:Int}(hi:i< (a::t).length)(o1:List Pass):
    ∀(r:List Zone) (zi:Nat) (out:List Pass),m.Zones.drop zi=r→zi≤m.Zones.length→out.length+r.length≤500→
     loop (Y9 m (W9 m (a::t)) (o1,(i:Int)) lane) (out,(zi:Int))=some (out++B2s lane (atM m (a::t) i) zi r):=by
  intro r
  induction r with
  |nil=>
   intro zi out hk hkl hl
   have:=T6 hk
   obtain rfl:zi=m.Zones.length:=by omega
   refine D5 ?_
   unfold Y9
   rw [S3];simp [B2s]
  |cons z r ih=>
   intro zi out hk hkl hl
   have hlt:=P7 hk
   have hz:=A4i hk
   have Z:=R.val.zoneOK (List.mem_of_getElem? hz)
   have h6:=Z.six
   have hnz:=R.val.zones
   simp only [List.length_cons]at hl
   have h1:=B4v lane (atM m (a::t) i) zi z.Parts 0 (A9w Z.rise)
   have h3:loop (Y8 (W9 m (a::t)) (o1,(i:Int)) lane (out,(zi:Int)) z) (out,0)=_:=D3e B R hi zi hz o1 out z.Parts 0 out rfl (by omega) (by omega)
   have hs:Y9 m (W9 m (a::t)) (o1,(i:Int)) lane (out,(zi:Int))=some (.go (out++B17 lane (atM m (a::t) i) zi 0 z.Parts,((zi+1:Nat):Int))):=by
     unfold Y9
     dsimp only
     rw [Z7 hlt,G0 hz,cond_true,Option.bind_some,h3,Option.bind_some,O7 hlt (by omega)]
   rw [L3 hs,ih (zi+1) _ (L4 hk) (by omega) (by rw [List.length_append];omega),B2s,List.append_assoc]
theorem D3g (B:BearM m)(R:RouteOK m a t):
    ∀(r:List Int) (i:Nat) (out:List Pass),(a::t).drop i=r→i≤(a::t).length→out.length+12*r.length≤200→
     loop (T4 m (W9 m (a::t))) (out,(i:Int))=some (out++A8s m (atM m (a::t) i) r):=by
  have hl:(W9 m (a::t)).lanes=a::t:=by rw [R.follow]
  intro r
  induction r with
  |nil=>
   intro i out hk hkl hle
   have:=T6 hk
   obtain rfl:i=(a::t).length:=by omega
   refine D5 ?_
   unfold T4
   dsimp only
   rw [hl,S3];simp [A8s]
  |cons x r ih=>
   intro i out hk hkl hle
   have hlt:=P7 hk
   have hx:=A4i hk
   have hm7:=R.most
   have hnz:=R.val.zones
   simp only [List.length_cons]at hle hlt
   have h2:loop (Y9 m (W9 m (a::t)) (out,(i:Int)) x) (out,0)=_:=D3f B R (lane:=x) (P7 hk) out m.Zones 0 out rfl (by omega) (by omega)
   have hs:T4 m (W9 m (a::t)) (out,(i:Int))=some (.go (out++B2s x (atM m (a::t) i) 0 m.Zones,((i+1:Nat):Int))):=by
     unfold T4
     dsimp only
     rw [hl,Z7 (P7 hk),G0 hx,cond_true,Option.bind_some,h2,Option.bind_some,O7 (P7 hk) (by simp only [List.length_cons];omega)]
   have:=B4w (m:=m) x (atM m (a::t) i) m.Zones 0 fun z hz=>R.val.zoneOK hz
   rw [L3 hs,ih (i+1) _ (L4 hk) (by simp only [List.length_cons];omega) (by rw [List.length_append];omega),B0u hx,A8s,List.append_assoc]
/-- The passes: sorted, and those that there are. -/
theorem C8n (B:BearM m)(R:RouteOK m a t): ∃ps,A3x m (a::t)=some ps∧ps.Perm (A8s m 0 (a::t))∧Srt ltP ps∧ps.length≤96:=by
  have hm7:=R.most
  have hlen:(A8s m 0 (a::t)).length≤96:=by
    have:=C2m R.val (a::t) 0
    simp only [List.length_cons]at this;omega
  have h1:loop (T4 m (W9 m (a::t))) ([],0)=some (A8s m 0 (a::t)):=by
    have:=D3g B R (a::t) 0 [] rfl (by omega) (by simp;omega)
    rw [List.nil_append,B2d]at this
    exact this
  unfold A3x
  rw [A77 B _ (by simp;omega),Option.bind_some,h1,Option.bind_some]
  cases q:A8s m 0 (a::t)with
  |nil=>exact ⟨[],by rw [C00];rfl, .refl _,List.Pairwise.nil,by simp⟩
  |cons x l=>
   rw [q]at hlen
   obtain ⟨ys,g1,g2,g3⟩:=C8m (x::l) (by omega)
   exact ⟨ys,by rw [show List.isEmpty (x::l)=false from rfl,cond_false,g1];rfl,g2,g3,by rw [g2.length_eq];exact hlen⟩
end
end Go.Abs.Roadsz
namespace Go.Abs
open Go
section
variable {α β σ τ:Type}
end
end Go.Abs
namespace Go.Abs.Roadsz
open Go Go.Abs
theorem D0s {z:Zone}(hl:z.Parts.length≤1000000)(k:Int):B29 z k=some (C11 z k):=by
  have key: ∀(r:List Part) (i:Nat),z.Parts.drop i=r→i≤z.Parts.length→thenS (loop (A2t z k) (i:Int)) (fun _=>some ((⟨0,0,0,0⟩:Part),false)) (fun r=>some r)=some (match r.find? (fun p=>p.Lane_==k)with|some p=>(p,true)|none=>(⟨0,0,0,0⟩,false)):=by
    intro r
    induction r with
    |nil=>
     intro i hi hil
     have:=T6 hi
     obtain rfl:i=z.Parts.length:=by omega
     rw [D5 (t:= .inl ()) (by unfold A2t;rw [S3];rfl)];rfl
    |cons p r ih=>
     intro i hi hil
     have hlt:=P7 hi
     have hp:=A4i hi
     rw [List.find?_cons]
     cases q:p.Lane_==k
     ·rw [L3 (s':=((i+1:Nat):Int)) (by unfold A2t;rw [Z7 hlt,G0 hp,cond_true,Option.bind_some,q,O7 hlt (by omega)];rfl)]
      exact ih (i+1) (L4 hi) (by omega)
     ·rw [D5 (t:= .inr (p,true)) (by unfold A2t;rw [Z7 hlt,G0 hp,cond_true,Option.bind_some,q,cond_true,Option.bind_some])];rfl
  exact key z.Parts 0 rfl (by omega)
end Go.Abs.Roadsz
/-! RoadsSignals. -/
namespace Go.Abs.Roadsz
open Go Go.Abs
theorem B9e (l:List Int)(hl:l.length≤1000000):A5q l l=some true:=by
  unfold A5q
  rw [B9b l (fun _=>false) false (fun i a h=>by
   have hi:=Z6 h
   unfold A2z
   rw [Z7 hi,G0 h,O7 hi (by omega)]
   simp) (by unfold A2z;rw [S3];rfl)]
  simp [thenS]
end Go.Abs.Roadsz
/-! The document's routes: checks, starts, places, entries. -/
namespace Go.Abs.Roadsz
open Go Go.Abs
theorem C3x {m:Map}(B:BearM m)(V:ValR m)(l:List Int)(hl:l.length≤1000000): ∀(r:List Int) (i:Nat) (a:Int),l.drop (i+1)=r→l[i]? =some a→0≤a→a<m.Lanes.length→thenS (loop (U4 m l) ((i+1:Nat):Int)) (fun _=>some 0) (fun r=>some r)=some (if B0z m a r=true then 0 else 13):=by
  intro r
  induction r with
  |nil=>
   intro i a hi ha h0 h1
   have h2:=T6 hi
   have h3:=(List.getElem?_eq_some_iff.1 ha).1
   have h4:i+1=l.length:=by omega
   rw [D5 (t:= .inl ())]
   ·rfl
   ·unfold U4
    rw [show decide (((i+1:Nat):Int)< (l.length:Int))=false from decide_eq_false (by omega)];rfl
  |cons b r ih=>
   intro i a hi ha h0 h1
   have hlt:=P7 hi
   have hb:=A4i hi
   obtain ⟨ln,e1,e2⟩:=B3n h0 h1
   have hw:w64 (((i+1:Nat):Int) - 1)=(i:Int):=by rw [G1 (by omega)];omega
   have hs:U4 m l ((i+1:Nat):Int)=some (if ln.Next.contains b=true then .go (((i+1+1:Nat):Int))else .out (.inr 13)):=by
     unfold U4
     rw [Z7 hlt,cond_true,hw,G0 ha,Option.bind_some,e2,Option.bind_some,G0 hb,Option.bind_some,D1i _ (B.toBear.pts _ (List.mem_of_getElem? e1)).2,Option.bind_some,O7 hlt (by omega)]
     cases ln.Next.contains b<;>rfl
   have hn:nextOf m a.toNat=ln.Next:=by unfold nextOf;rw [e1];rfl
   rw [B0z,hn]
   cases q:ln.Next.contains b
   ·rw [q]at hs;rw [D5 hs];rfl
   ·rw [q]at hs
    have hbm:=V.next e1 (List.contains_iff_mem.1 q)
    rw [L3 hs,ih (i+1) b (L4 hi) hb (by omega) (by omega),Bool.true_and]
theorem A6k {m:Map}(B:BearM m)(r:List Int)(hr:r.length≤1000000):W0 m r=some (T5 m r):=by
  unfold W0 T5
  rw [B9c B,Option.bind_some]
  by_cases q:C4x m=0
  ·have V:=chkR_zero.1 q
   rw [if_neg (by simpa using q),show (C4x m !=0)=false by simpa using q,cond_false]
   cases r with
   |nil=>rfl
   |cons a t=>
    dsimp only
    simp only [List.length_cons]at hr ⊢
    by_cases h8:7<t.length
    ·rw [if_pos (.inl h8),show ((((t.length+1:Nat):Int)==0)||(decide (((t.length+1:Nat):Int)>8)))=true by simp;omega];rfl
    ·rw [show ((((t.length+1:Nat):Int)==0)||(decide (((t.length+1:Nat):Int)>8)))=false by simp;omega]
     rw [show F3 (a::t) 0=some a from rfl]
     simp only [Bool.not_false,cond_true,Option.bind_some,Bool.false_or]
     by_cases h0:a<0
     ·rw [if_pos (.inr (.inl h0)),decide_eq_true h0];rfl
     ·rw [decide_eq_false h0]
      simp only [Bool.not_false,cond_true,Option.bind_some,Bool.false_or]
      by_cases h1:(m.Lanes.length:Int)≤a
      ·rw [if_pos (.inr (.inr (.inl h1))),show decide (a≥(m.Lanes.length:Int))=true from decide_eq_true h1];rfl
      ·rw [show decide (a≥(m.Lanes.length:Int))=false from decide_eq_false (by omega)]
       simp only [Bool.not_false,cond_true,Bool.false_or]
       rw [Option.bind_some,C69 B,Option.bind_some]
       by_cases hb:A9f m a= []
       ·rw [hb,show decide ((([]:List Int).length:Int)>0)=false from rfl,cond_false]
        have:=C3x B V (a::t) (by simpa using hr) t 0 a rfl rfl (by omega) (by omega)
        rw [show ((0+1:Nat):Int)=1 from rfl]at this
        rw [this]
        by_cases hc:B0z m a t=true
        ·rw [if_pos hc,if_neg (by rw [hc];simp;omega)]
        ·rw [if_neg hc,if_pos (.inr (.inr (.inr (.inr (by simpa using hc)))))]
       ·rw [if_pos (.inr (.inr (.inr (.inl hb)))),show decide (((A9f m a).length:Int)>0)=true from decide_eq_true (by have:=List.length_pos_iff.2 hb;omega)];rfl
  ·rw [if_pos q,show (C4x m !=0)=true by simpa using q];rfl
theorem C2p {m:Map}(B:BearM m){a:Int}{t:List Int}(R:RouteOK m a t):A5b m (a::t)=some (R2 m 0 (a::t),atM m (a::t) (a::t).length):=by
  have hm7:=R.most
  have key: ∀(l:List Int) (i:Nat) (st:List Int),(a::t).drop i=l→i≤(a::t).length→st.length=i→loop (A0y m (a::t)) (st,atM m (a::t) i,(i:Int))=some (st++R2 m (atM m (a::t) i) l,atM m (a::t) (a::t).length):=by
    intro l
    induction l with
    |nil=>
     intro i st hi hil _
     have:=T6 hi
     obtain rfl:i=(a::t).length:=by omega
     refine D5 ?_
     unfold A0y
     dsimp only
     rw [S3,R2,List.append_nil];rfl
    |cons x l ih=>
     intro i st hi hil h2
     have hlt:=P7 hi
     have hx:=A4i hi
     have hm:=R.mem (List.mem_of_getElem? hx)
     have hl:=R.len hx
     have hb:=R.bd (Nat.le_of_lt hlt)
     simp only [List.length_cons]at hlt
     rw [L3 (s':=(st++ [atM m (a::t) i],atM m (a::t) (i+1),((i+1:Nat):Int)))]
     ·rw [ih (i+1) _ (L4 hi) (by simp;omega) (by simp [h2]),R2,B0u hx,List.append_assoc];rfl
     ·unfold A0y
      dsimp only
      rw [Z7 (by simpa using hlt),A94 (by simp;omega),cond_true,Option.bind_some,G0 hx,Option.bind_some,B8f B hm.1 hm.2,Option.bind_some,O7 hlt (by omega),G1 (by omega),B0u hx]
  have:=key (a::t) 0 [] rfl (by omega) rfl
  rw [B2d]at this
  have this':loop (A0y m (a::t)) ([],0,0)=_:=this
  unfold A5b
  rw [this',Option.bind_some,List.nil_append]
noncomputable def A6d (m:Map)(r:List Int):List Int:=(W9 m r).starts
noncomputable def C3y (m:Map)(r:List Int):Int:=(W9 m r).length
theorem C8o {m:Map}(B:BearM m)(r:List Int)(hr:r.length≤1000000):A72 m r=some (A6d m r):=by
  unfold A72 A6d
  rw [A77 B r hr];rfl
theorem D3h {m:Map}(B:BearM m)(r:List Int)(hr:r.length≤1000000):A28 m r=some (C3y m r):=by
  unfold A28 C3y
  rw [A77 B r hr];rfl
theorem A7t {m:Map}{r:List Int}(q:T5 m r≠0):W9 m r=⟨⟨0,[],[],[],[]⟩,[],[],0⟩:=by unfold W9;rw [if_neg q]
theorem A7u {m:Map}(B:BearM m)(r:List Int)(hr:r.length≤1000000):A3v m r=some (A6d m r):=by
  unfold A3v
  rw [A6k B r hr,Option.bind_some]
  by_cases q:T5 m r=0
  ·obtain ⟨a,t,rfl,R⟩:=chkRoute_zero.1 q
   rw [q,show ((0:Int) !=0)=false from rfl,cond_false,C2p B R,Option.bind_some,A6d,R.follow]
  ·rw [show (T5 m r !=0)=true by simpa using q,cond_true,A6d,A7t q]
theorem C17 {m:Map}(B:BearM m)(r:List Int)(hr:r.length≤1000000):A0r m r=some (C3y m r):=by
  unfold A0r
  rw [A6k B r hr,Option.bind_some]
  by_cases q:T5 m r=0
  ·obtain ⟨a,t,rfl,R⟩:=chkRoute_zero.1 q
   rw [q,show ((0:Int) !=0)=false from rfl,cond_false,C2p B R,Option.bind_some,C3y,R.follow]
  ·rw [show (T5 m r !=0)=true by simpa using q,cond_true,C3y,A7t q]
/-- Both places are the same. -/
theorem C8p {m:Map}(B:BearM m)(r:List Int)(hr:r.length≤1000000)(s:Int): ∃p,A0w m r s=some p∧A52 m r s=some p:=by
  by_cases q:T5 m r=0
  ·obtain ⟨a,t,rfl,R⟩:=chkRoute_zero.1 q
   have hm7:=R.most
   have hst:A6d m (a::t)=R2 m 0 (a::t):=by unfold A6d;rw [R.follow]
   have hlg:C3y m (a::t)=atM m (a::t) (a::t).length:=by unfold C3y;rw [R.follow]
   have hlen:(R2 m 0 (a::t)).length=(a::t).length:=B0t _ _ _
   have hne:(((a::t).length:Int)==0)=false:=by simp;omega
   by_cases hs:0≤s∧s≤atM m (a::t) (a::t).length
   ·obtain ⟨k,x,h1,h2,h3,h4⟩:=D0r B R hs.1 hs.2
    have hk:k< (a::t).length:=(List.getElem?_eq_some_iff.1 h1).1
    refine ⟨_,h2,?_⟩
    have key: ∀(l:List Int) (i:Nat) (at_:Int),(a::t).drop i=l→i≤(a::t).length→(k<i→at_=(k:Int))→loop (A0o s (R2 m 0 (a::t))) (at_,(i:Int))=some (k:Int):=by
      intro l
      induction l with
      |nil=>
       intro i at_ hi hil ha
       have:=T6 hi
       have hii:i=(a::t).length:=by omega
       refine D5 ?_
       unfold A0o
       dsimp only
       rw [hlen,hii,S3,ha (by omega)];rfl
      |cons y l ih=>
       intro i at_ hi hil ha
       have hlt:=P7 hi
       have hsi:F3 (R2 m 0 (a::t)) (i:Int)=some (atM m (a::t) i):=RouteOK.starts hlt
       have hstep:A0o s (R2 m 0 (a::t)) (at_,(i:Int))=some (.go ((if atM m (a::t) i≤s then (i:Int)else at_),((i+1:Nat):Int))):=by
         unfold A0o
         dsimp only
         rw [hlen,Z7 hlt,cond_true,hsi,Option.bind_some,O7 hlt (by simp;omega)]
         by_cases hc:atM m (a::t) i≤s
         ·rw [decide_eq_true hc,if_pos hc];rfl
         ·rw [decide_eq_false hc,if_neg hc];rfl
       rw [L3 hstep]
       refine ih (i+1) _ (L4 hi) (by omega) fun hki=> ?_
       rcases Nat.lt_or_ge k i with h|h
       ·rw [if_neg (by have:=h4 i h hlt;omega),ha h]
       ·obtain rfl:i=k:=by omega
        rw [if_pos h3]
    have hk1:=key (a::t) 0 0 rfl (by omega) (by omega)
    have hk1':loop (A0o s (R2 m 0 (a::t))) (0,0)=some (k:Int):=hk1
    have hbk:=R.bd (Nat.le_of_lt hk)
    have hbl:=R.bd (Nat.le_refl _)
    unfold A52
    rw [A7u B _ hr,Option.bind_some,hst,hlen,hne,show decide (s<0)=false from decide_eq_false (by omega)]
    simp only [Bool.or_false,Bool.not_false,cond_true,C17 B _ hr,hlg,Option.bind_some,Bool.false_or]
    rw [show decide (s>atM m (a::t) (a::t).length)=false from decide_eq_false (by omega),cond_false,hk1',Option.bind_some,G0 h1,Option.bind_some,RouteOK.starts hk,Option.bind_some,G1 (by omega)]
   ·refine ⟨(0,0,false),?_,?_⟩
    ·have hl:(W9 m (a::t)).lanes=a::t:=by rw [R.follow]
     have htl:(W9 m (a::t)).length=atM m (a::t) (a::t).length:=by rw [R.follow]
     unfold A0w
     rw [A77 B _ hr,Option.bind_some,hl,htl,hne]
     simp only [Bool.not_false,cond_true,A76,Option.bind_some,Bool.false_or]
     rw [show inR s 0 (atM m (a::t) (a::t).length)=false by
      unfold inR
      by_cases h0:0≤s
      ·rw [show decide (s≤atM m (a::t) (a::t).length)=false from decide_eq_false (fun h=>hs ⟨h0,h⟩),Bool.and_false]
      ·rw [show decide (0≤s)=false from decide_eq_false h0,Bool.false_and]]
     rfl
    ·unfold A52
     rw [A7u B _ hr,Option.bind_some,hst,hlen,hne]
     by_cases h0:s<0
     ·rw [decide_eq_true h0];rfl
     ·rw [decide_eq_false h0]
      simp only [Bool.or_false,Bool.not_false,cond_true,C17 B _ hr,hlg,Option.bind_some,Bool.false_or]
      rw [show decide (s>atM m (a::t) (a::t).length)=true from decide_eq_true (by omega)];rfl
  ·refine ⟨(0,0,false),?_,?_⟩
   ·unfold A0w
    rw [A77 B _ hr,Option.bind_some,A7t q];rfl
   ·unfold A52
    rw [A7u B _ hr,Option.bind_some,A6d,A7t q]
    by_cases h0:s<0
    ·rw [decide_eq_true h0];rfl
    ·rw [decide_eq_false h0];rfl
theorem C8q {m:Map}(B:BearM m)(r:List Int)(hr:r.length≤1000000)(k:Int):A8b m r k=some (C4z m r k):=by
  unfold A8b C4z
  rw [A6k B r hr,Option.bind_some]
  by_cases h:k<0∨(m.Zones.length:Int)≤k
  ·have e:(((T5 m r !=0)||(decide (k<0)))||(decide (k≥(m.Zones.length:Int))))=true:=by
     rcases h with h|h
     ·rw [decide_eq_true h];simp
     ·rw [show decide (k≥(m.Zones.length:Int))=true from decide_eq_true h];simp
   rw [e,cond_true]
   cases hz:m.Zones[k.toNat]? with
   |none=>rfl
   |some z=>
    have:=Z6 hz
    dsimp only
    rw [if_neg (fun x=>by have:=x.1;omega)]
  ·obtain ⟨z,z1,z2⟩:=C8g (m:=m) (k:=k) (by omega) (by omega)
   rw [show decide (k<0)=false from decide_eq_false (by omega),show decide (k≥(m.Zones.length:Int))=false from decide_eq_false (by omega),Bool.or_false,Bool.or_false,z1]
   dsimp only
   have hp:=B.toBearZ.parts z (List.mem_of_getElem? z1)
   by_cases q:T5 m r=0
   ·rw [if_pos ⟨by omega,q⟩,q,show ((0:Int) !=0)=false from rfl,cond_false]
    exact B2a r (fun l=>(C11 z l).2) (by omega) (fun i a h=>by
      have hi:=Z6 h
      unfold A4u
      rw [Z7 hi,z2,cond_true,Option.bind_some,G0 h,Option.bind_some,D0s hp,Option.bind_some]
      cases (C11 z a).2<;>rfl) (by unfold A4u;rw [S3];rfl)
   ·rw [if_neg (fun x=>q x.2),show (T5 m r !=0)=true by simpa using q];rfl
end Go.Abs.Roadsz
/-! RoadsRoutes. -/
namespace Go.Abs.Roadsz
open Go Go.Abs
def swS {α τ:Type}:Stp (List α×Int) τ→Stp (Int×List α) τ
  | .go x=> .go (x.2,x.1)
  | .out t=> .out t
theorem C8r {α τ:Type}(F:List α×Int→Option (Stp (List α×Int) τ))(l:List α)(i:Int)(t:τ)(h:loop (fun s:Int×List α=>(F (s.2,s.1)).map swS) (i,l)=some t):loop F (l,i)=some t:=by
  obtain ⟨n,hn⟩:=loop_some.1 h
  refine loop_some.2 ⟨n,?_⟩
  clear h
  induction n generalizing l i with
  |zero=>cases hn
  |succ n ih=>
   rw [loopN]at hn ⊢
   dsimp only at hn
   cases hf:F (l,i)with
   |none=>rw [hf]at hn;cases hn
   |some x=>
    rw [hf]at hn
    cases x with
    |go s=>exact ih s.1 s.2 hn
    |out t'=>exact hn
theorem C51: ∀{l l':List Pass},Srt ltP l→Srt ltP l'→l.Perm l'→(∀x∈l,∀y∈l,ltP x y=false→ltP y x=false→x=y)→l=l'
  | [],l',_,_,h,_=>(List.Perm.nil_eq h)
  |a::l,[],_,_,h,_=>absurd h.length_eq (by simp)
  |a::l,b::l',h1,h2,h,hk=>by
   obtain ⟨a1,a2⟩:=List.pairwise_cons.1 h1
   obtain ⟨b1,b2⟩:=List.pairwise_cons.1 h2
   have hbl:b∈a::l:=h.mem_iff.2 (by simp)
   have hal:a∈b::l':=h.mem_iff.1 (by simp)
   have e1:ltP b a=false:=by
     rcases List.mem_cons.1 hbl with e|e
     ·rw [e];exact ltP_ok.irr a
     ·exact a1 b e
   have e2:ltP a b=false:=by
     rcases List.mem_cons.1 hal with e|e
     ·rw [e];exact ltP_ok.irr b
     ·exact b1 a e
   have hab:=hk a (by simp) b hbl e2 e1
   subst hab
   congr 1
   exact C51 a2 b2 (List.Perm.cons_inv h) fun x hx y hy=>hk x (List.mem_cons_of_mem _ hx) y (List.mem_cons_of_mem _ hy)
section
variable {m:Map}{a:Int}{t:List Int}
theorem C8s (R:RouteOK m a t): ∀x∈A8s m 0 (a::t),∀y∈A8s m 0 (a::t),ltP x y=false→ltP y x=false→x=y:=by
  intro x hx y hy h1 h2
  obtain ⟨i,l,j,z,k,p,e1,e2,e3,e4,e5⟩:=B8k m _ 0 x hx
  obtain ⟨i',l',j',z',k',p',f1,f2,f3,f4,f5⟩:=B8k m _ 0 y hy
  subst e4 f4
  have hx1:x.From=atM m (a::t) i+p.From:=by rw [e5];show 0+atM m (a::t) i+p.From=_;omega
  have hy1:y.From=atM m (a::t) i'+p'.From:=by rw [f5];show 0+atM m (a::t) i'+p'.From=_;omega
  have hx2:x.Zone_=(j:Int):=by rw [e5]
  have hy2:y.Zone_=(j':Int):=by rw [f5]
  simp only [ltP,decide_eq_false_iff_not]at h1 h2
  have hj:j=j':=by omega
  subst hj
  rw [e2]at f2
  obtain rfl:=Option.some.inj f2
  have Z:=R.val.zoneOK (List.mem_of_getElem? e2)
  have g1:=Z.part p (List.mem_of_getElem? e3)
  have g2:=Z.part p' (List.mem_of_getElem? f3)
  have n1:=B0u (m:=m) e1
  have n2:=B0u (m:=m) f1
  have hil:=(List.getElem?_eq_some_iff.1 e1).1
  have hil':=(List.getElem?_eq_some_iff.1 f1).1
  have hii:i=i':=by
    rcases Nat.lt_trichotomy i i' with h|h|h
    ·exfalso
     have:atM m (a::t) (i+1)≤atM m (a::t) i':=by
       rcases Nat.lt_or_ge (i+1) i' with h'|h'
       ·have:=R.lt h' (Nat.le_of_lt hil');omega
       ·rw [show i'=i+1 by omega];omega
     omega
    ·exact h
    ·exfalso
     have:atM m (a::t) (i'+1)≤atM m (a::t) i:=by
       rcases Nat.lt_or_ge (i'+1) i with h'|h'
       ·have:=R.lt h' (Nat.le_of_lt hil);omega
       ·rw [show i=i'+1 by omega];omega
     omega
  subst hii
  rw [e1]at f1
  have hlane:=Option.some.inj f1
  have hkk:k=k':=by
    have hp:=A9w Z.rise
    have hk1:=(List.getElem?_eq_some_iff.1 e3).1
    have hk2:=(List.getElem?_eq_some_iff.1 f3).1
    have q1:z.Parts[k]=p:=(List.getElem?_eq_some_iff.1 e3).2
    have q2:z.Parts[k']=p':=(List.getElem?_eq_some_iff.1 f3).2
    have hpi:=List.pairwise_iff_getElem.1 hp
    rcases Nat.lt_trichotomy k k' with h|h|h
    ·have:=hpi k k' (by simpa using hk1) (by simpa using hk2) h
     simp only [List.getElem_map,q1,q2]at this;omega
    ·exact h
    ·have:=hpi k' k (by simpa using hk2) (by simpa using hk1) h
     simp only [List.getElem_map,q1,q2]at this;omega
  subst hkk
  rw [e3]at f3
  obtain rfl:=Option.some.inj f3
  rw [e5,f5]
theorem D5s (B:BearM m)(R:RouteOK m a t){i:Nat}{lane:Int}(hx:(a::t)[i]? =some lane)(zi:Nat){z:Zone}(hz:m.Zones[zi]? =some z)(o1 o2:List Pass):
    ∀(r:List Part) (k:Nat) (out:List Pass),z.Parts.drop k=r→k≤z.Parts.length→out.length+r.length≤1000→
     loop (Z1 m (a::t) (R2 m 0 (a::t)) (o1,(i:Int)) (o2,(zi:Int))) (out,(k:Int))=some (out++B17 lane (atM m (a::t) i) zi k r):=by
  have Z:=R.val.zoneOK (List.mem_of_getElem? hz)
  have h6:=Z.six
  have hi:i< (a::t).length:=(List.getElem?_eq_some_iff.1 hx).1
  intro r
  induction r with
  |nil=>
   intro k out hk hkl hl
   have:=T6 hk
   obtain rfl:k=z.Parts.length:=by omega
   refine D5 ?_
   unfold Z1
   dsimp only
   rw [G0 hz,Option.bind_some,S3];simp [B17]
  |cons p r ih=>
   intro k out hk hkl hl
   have hlt:=P7 hk
   have hp:=A4i hk
   have hpm:=List.mem_of_getElem? hp
   have hpt:=Z.part p hpm
   have hln:=A60 Z.rise p.Lane_ (List.mem_map_of_mem hpm)
   have hll:=R.val.long hln.1 hln.2
   have hb:=R.bd (Nat.le_of_lt hi)
   simp only [List.length_cons]at hl
   have hs:Z1 m (a::t) (R2 m 0 (a::t)) (o1,(i:Int)) (o2,(zi:Int)) (out,(k:Int))=some (.go (out++ (if p.Lane_==lane then [⟨(zi:Int),(k:Int),atM m (a::t) i+p.From,atM m (a::t) i+p.To⟩]else []),((k+1:Nat):Int))):=by
     unfold Z1
     dsimp only
     rw [G0 hz,Option.bind_some,Z7 hlt,cond_true,Option.bind_some,G0 hp,Option.bind_some,G0 hx,Option.bind_some,O7 hlt (by omega)]
     cases p.Lane_==lane
     ·simp
     ·rw [cond_true,RouteOK.starts hi,Option.bind_some,Option.bind_some,G1 (by omega),G1 (by omega),A94 (by simp;omega)]
      rfl
   rw [L3 hs,ih (k+1) _ (L4 hk) (by omega) (by rw [List.length_append];split<;>simp<;>omega),B17,List.append_assoc]
theorem D5t (B:BearM m)(R:RouteOK m a t){i:Nat}{lane:Int}(hx:(a::t)[i]? =some lane)(o1:List Pass):
    ∀(r:List Zone) (zi:Nat) (out:List Pass),m.Zones.drop zi=r→zi≤m.Zones.length→out.length+r.length≤500→
     loop (Z2 m (a::t) (R2 m 0 (a::t)) (o1,(i:Int))) (out,(zi:Int))=some (out++B2s lane (atM m (a::t) i) zi r):=by
  intro r
  induction r with
  |nil=>
   intro zi out hk hkl hl
   have:=T6 hk
   obtain rfl:zi=m.Zones.length:=by omega
   refine D5 ?_
   unfold Z2
   rw [S3];simp [B2s]
  |cons z r ih=>
   intro zi out hk hkl hl
   have hlt:=P7 hk
   have hz:=A4i hk
   have Z:=R.val.zoneOK (List.mem_of_getElem? hz)
   have h6:=Z.six
   have hnz:=R.val.zones
   simp only [List.length_cons]at hl
   have h1:=B4v lane (atM m (a::t) i) zi z.Parts 0 (A9w Z.rise)
   have h3:loop (Z1 m (a::t) (R2 m 0 (a::t)) (o1,(i:Int)) (out,(zi:Int))) (out,0)=_:=D5s B R hx zi hz o1 out z.Parts 0 out rfl (by omega) (by omega)
   have hs:Z2 m (a::t) (R2 m 0 (a::t)) (o1,(i:Int)) (out,(zi:Int))=some (.go (out++B17 lane (atM m (a::t) i) zi 0 z.Parts,((zi+1:Nat):Int))):=by
     unfold Z2
     dsimp only
     rw [Z7 hlt,cond_true,h3,Option.bind_some,O7 hlt (by omega)]
   rw [L3 hs,ih (zi+1) _ (L4 hk) (by omega) (by rw [List.length_append];omega),B2s,List.append_assoc]
theorem D5u (B:BearM m)(R:RouteOK m a t):
    ∀(r:List Int) (i:Nat) (out:List Pass),(a::t).drop i=r→i≤(a::t).length→out.length+12*r.length≤200→
     loop (V6 m (a::t) (R2 m 0 (a::t))) (out,(i:Int))=some (out++A8s m (atM m (a::t) i) r):=by
  have hlen:(R2 m 0 (a::t)).length=(a::t).length:=B0t _ _ _
  intro r
  induction r with
  |nil=>
   intro i out hk hkl hle
   have:=T6 hk
   have hii:i=(a::t).length:=by omega
   refine D5 ?_
   unfold V6
   dsimp only
   rw [hlen,hii,S3];simp [A8s]
  |cons x r ih=>
   intro i out hk hkl hle
   have hlt:=P7 hk
   have hx:=A4i hk
   have hm7:=R.most
   have hnz:=R.val.zones
   simp only [List.length_cons]at hle hlt
   have h2:loop (Z2 m (a::t) (R2 m 0 (a::t)) (out,(i:Int))) (out,0)=_:=D5t B R hx out m.Zones 0 out rfl (by omega) (by omega)
   have hs:V6 m (a::t) (R2 m 0 (a::t)) (out,(i:Int))=some (.go (out++B2s x (atM m (a::t) i) 0 m.Zones,((i+1:Nat):Int))):=by
     unfold V6
     dsimp only
     rw [hlen,Z7 (P7 hk),cond_true,h2,Option.bind_some,O7 (P7 hk) (by simp only [List.length_cons];omega)]
   have:=B4w (m:=m) x (atM m (a::t) i) m.Zones 0 fun z hz=>R.val.zoneOK hz
   rw [L3 hs,ih (i+1) _ (L4 hk) (by simp only [List.length_cons];omega) (by rw [List.length_append];omega),B0u hx,A8s,List.append_assoc]
end
/-- The document's insertion sort. -/
theorem D0t (T:List Pass)(x:Pass)(Q:List Pass)(hs:Srt ltP Q)(hN:(Q++x::T).length≤1000000):
    ∃Q',loop R0 (Q++x::T,(Q.length:Int))=some (Q'++T)∧Q'.Perm (x::Q)∧Srt ltP Q':=by
  have hstop: ∀xs:List Pass,(fun s:Int×List Pass=>(R0 (s.2,s.1)).map swS) ((([]:List Pass).length:Int),xs)=some (.out xs):=fun xs=>by
    show (R0 (xs,0)).map swS=_
    unfold R0
    rfl
  have hF: ∀(U V:List Pass) (q y:Pass),([]:List Pass).length≤U.length→(U++q::y::V).length=(Q++x::T).length→(fun s:Int×List Pass=>(R0 (s.2,s.1)).map swS) (((U.length:Int)+1),U++q::y::V)=some (if ltP y q then .go ((U.length:Int),U++y::q::V)else .out (U++q::y::V)):=fun U V q y _ hl=>by
    show (R0 (U++q::y::V,(U.length:Int)+1)).map swS=_
    unfold R0
    have hb:U.length+2≤1000000:=by rw [← hl]at hN;simp at hN;omega
    have e1:w64 ((U.length:Int)+1 - 1)=(U.length:Int):=by rw [G1 (by omega)];omega
    have g1:F3 (U++q::y::V) ((U.length:Int)+1)=some y:=by rw [D0o];exact A1p _ _ _ _ (by simp)
    have g2:F3 (U++q::y::V) (U.length:Int)=some q:=A1p _ _ _ _ rfl
    have s1:B2y (U++q::y::V) ((U.length:Int)+1) q=U++q::q::V:=by rw [D0o,A6j _ _ _ _ _ (by simp)];simp
    have g3:F3 (U++q::q::V) (U.length:Int)=some q:=A1p _ _ _ _ rfl
    have s2:B2y (U++q::q::V) (U.length:Int) y=U++y::q::V:=A6j _ _ _ _ _ rfl
    simp only [show decide (((U.length:Int)+1)>0)=true from decide_eq_true (by omega),cond_true,Bool.true_and,e1,g1,g2,s1,g3,s2,Option.bind_some]
    by_cases h1:y.From<q.From
    ·rw [decide_eq_true h1,show ltP y q=true from decide_eq_true (.inl h1)];rfl
    ·rw [decide_eq_false h1]
     simp only [Bool.not_false,cond_true,Option.bind_some,Bool.true_and,Bool.false_or]
     by_cases h2:y.From=q.From
     ·rw [show (y.From==q.From)=true by simp [h2]]
      simp only [cond_true,Option.bind_some,Bool.true_and]
      by_cases h3:y.Zone_<q.Zone_
      ·rw [decide_eq_true h3,show ltP y q=true from decide_eq_true (.inr ⟨h2,h3⟩)];rfl
      ·rw [decide_eq_false h3,show ltP y q=false from decide_eq_false (by omega)];rfl
     ·rw [show (y.From==q.From)=false by simp [h2],show ltP y q=false from decide_eq_false (by omega)];rfl
  obtain ⟨Q',h1,h2,h3⟩:=C2k ltP_ok (F:=fun s:Int×List Pass=>(R0 (s.2,s.1)).map swS) (P:= []) (T:=T) (Q++x::T).length hstop hF x Q.length Q [] rfl (by simpa using hs) (by simp) (by simp)
  refine ⟨Q',C8r _ _ _ _ ?_,by simpa using h2,h3⟩
  have e:(((([]:List Pass).length+Q.length:Nat):Int),[]++Q++ [x]++T)=((Q.length:Int),Q++x::T):=by simp
  rw [e]at h1
  rw [h1];rfl
theorem D52 (A:List Pass)(hN:A.length≤1000000): ∃A',loop Z0 (A,1)=some A'∧A'.Perm A∧Srt ltP A':=by
  have hend: ∀(xs:List Pass) (i:Nat),xs.length≤i→Z0 (xs,(i:Int))=some (.out xs):=fun xs i hi=>by
    unfold Z0
    rw [show decide ((i:Int)< (xs.length:Int))=false from decide_eq_false (by omega)];rfl
  have key: ∀(R Q:List Pass),(Q++R).length≤1000000→Srt ltP Q→∃A',loop Z0 (Q++R,(Q.length:Int))=some A'∧A'.Perm (Q++R)∧Srt ltP A':=by
    intro R
    induction R with
    |nil=>
     intro Q hl hs
     exact ⟨Q,by rw [List.append_nil];exact D5 (hend _ _ (Nat.le_refl _)),by simp,hs⟩
    |cons x R ih=>
     intro Q hl hs
     obtain ⟨Q',k1,k2,k3⟩:=D0t R x Q hs hl
     have hlq:Q'.length=Q.length+1:=by rw [k2.length_eq];simp
     simp only [List.length_append,List.length_cons]at hl
     obtain ⟨A',g1,g2,g3⟩:=ih Q' (by rw [List.length_append];omega) k3
     refine ⟨A',?_,g2.trans ((k2.append_right R).trans (List.perm_middle (a:=x) (l₁:=Q) (l₂:=R)).symm),g3⟩
     rw [← g1,hlq]
     refine L3 ?_
     unfold Z0
     dsimp only
     rw [show decide ((Q.length:Int)< ((Q++x::R).length:Int))=true from decide_eq_true (by simp;omega),cond_true,k1,Option.bind_some,G1 (by omega)]
     congr 2
  cases A with
  |nil=>exact ⟨[],D5 (hend [] 1 (by simp)), .refl _,List.Pairwise.nil⟩
  |cons a A=>
   obtain ⟨A',g1,g2,g3⟩:=key A [a] (by simpa using hN) (List.pairwise_singleton _ _)
   exact ⟨A',g1,g2,g3⟩
theorem C6h {m:Map}(B:BearM m)(r:List Int)(hr:r.length≤1000000): ∃ps,A3x m r=some ps∧A5c m r=some ps∧ps.length≤96:=by
  by_cases q:T5 m r=0
  ·obtain ⟨a,t,rfl,R⟩:=chkRoute_zero.1 q
   obtain ⟨ps,p1,p2,p3,p4⟩:=C8n B R
   refine ⟨ps,p1,?_,p4⟩
   have hm7:=R.most
   have hlen:(A8s m 0 (a::t)).length≤96:=by rw [← p2.length_eq];exact p4
   have h1:loop (V6 m (a::t) (R2 m 0 (a::t))) ([],0)=some (A8s m 0 (a::t)):=by
     have:=D5u B R (a::t) 0 [] rfl (by omega) (by simp;omega)
     rw [List.nil_append,B2d]at this
     exact this
   obtain ⟨A',g1,g2,g3⟩:=D52 (A8s m 0 (a::t)) (by omega)
   have:ps=A':=C51 p3 g3 (p2.trans g2.symm) fun x hx y hy=>C8s R x (p2.mem_iff.1 hx) y (p2.mem_iff.1 hy)
   unfold A5c
   rw [A7u B _ hr,Option.bind_some,show A6d m (a::t)=R2 m 0 (a::t) by unfold A6d;rw [R.follow],h1,Option.bind_some,g1,this];rfl
  ·refine ⟨[],?_,?_,by simp⟩
   ·have h1:loop (T4 m (W9 m r)) ([],0)=some []:=by
      refine D5 ?_
      unfold T4
      rw [A7t q];rfl
    unfold A3x
    rw [A77 B r hr,Option.bind_some,h1,Option.bind_some,C00];rfl
   ·have h1:loop (V6 m r []) ([],0)=some []:=D5 rfl
    obtain ⟨A',g1,g2,_⟩:=D52 [] (by simp)
    obtain rfl:A'= []:=List.length_eq_zero_iff.1 g2.length_eq
    unfold A5c
    rw [A7u B r hr,Option.bind_some,A6d,A7t q]
    dsimp only
    rw [h1,Option.bind_some,g1];rfl
theorem B8l (l:List Pass)(hl:l.length≤1000000):A4t l l=some true:=by
  unfold A4t
  rw [B9b l (fun _=>false) false (fun i a h=>by
   have hi:=Z6 h
   unfold A2e
   rw [Z7 hi,G0 h,O7 hi (by omega)]
   simp) (by unfold A2e;rw [S3];rfl)]
  simp [thenS]
theorem B0v (m:Map)(route:List Int)(s zone:Int):A4g m route s zone=some true:=by
  have hend:((A3p).bind fun v2=>some v2)=some true:=by rw [C4y];rfl
  unfold A4g
  rw [D0l,Option.bind_some]
  cases hs:C2i m with
  |false=>exact hend
  |true=>
   by_cases h10:((route.length:Int)>10)
   ·rw [decide_eq_true h10];exact hend
   ·rw [decide_eq_false h10]
    have B:=C6b hs
    have hr:route.length≤1000000:=by omega
    have ha:B18 ([]:List Int) route=some route:=by rw [A94 (by simp;omega)];rfl
    obtain ⟨p,p1,p2⟩:=C8p B route hr s
    obtain ⟨ps,q1,q2,q3⟩:=C6h B route hr
    have hsl:(A6d m route).length≤1000000:=by
      unfold A6d W9
      split
      ·show (R2 m 0 route).length≤_
       rw [B0t];exact hr
      ·simp
    have hb: ∀b:Bool,(b==b)=true:=fun b=>by cases b<;>rfl
    have hn: ∀n:Int,(n !=n)=false:=fun n=>by simp
    have hq: ∀n:Int,(n==n)=true:=fun n=>by simp
    simp only [Bool.not_true,Bool.false_or,cond_false,ha,Option.bind_some,p1,p2,B4u B route hr,A6k B route hr,hn,hb,hq,Bool.not_false,cond_true,D3h B route hr,C17 B route hr,C8o B route hr,A7u B route hr,B9e _ hsl,q1,q2,B8l ps (by omega),D0n B route hr,C8q B route hr,B5l route hr,C4y,Bool.and_self,Bool.true_and]
end Go.Abs.Roadsz
