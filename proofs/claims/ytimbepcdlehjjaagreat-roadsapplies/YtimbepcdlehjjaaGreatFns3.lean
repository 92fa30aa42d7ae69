/-
  The functions, part 3.
-/
import Derived.Test.YtimbepcdlehjjaaGreatFns2
set_option maxRecDepth 20000
set_option maxHeartbeats 4000000
set_option linter.unusedVariables false
namespace Go.Abs.Roadsz
noncomputable section
open Go Go.Abs Go.Proofs Tryz
attribute [local irreducible] H9 Ca Dj
section
theorem MB (xs zs:List Signal)(x:Edit)(v:Signal)(ok:Bool)(h:Da x.Kind x.At xs v=some (zs,ok)):MCall prog 90 [.sl (900000,0), .d (.agg (Bj x)), .d (.agg (E2 v))] [.arr 48 2 (xs.map E2)] (.tup [.sl (800000,0), .d (bo ok)]) [none] [some (.arr 48 2 (zs.map E2))]:=by
 refine Dt (fk func90 ntmps90 (fun r=>if r==2 then [1002]else if r==4 then [1003]else []) (by with_unfolding_all rfl)) Z (nl Z) ?_
 unfold Da at h
 refine B8 ?_
 refine sm Z ?_
 refine sm Z ?_
 refine sv Z ?_
 refine sv Z<|A1 ?_
 refine A4<|A7<|B8 ?_
 refine sq Z ?_
 refine sl Z (gq Z) Z ?_
 refine sv Z<|sv Z ?_
 refine gp Z (I9 Z) (fun _=>Z) ?_
 refine gt Z (vl Z (gq Z) Z) ?_
 refine S6 _ (.sl (900000,0)) Z (I9 Z) (fun _=>Z) ?_
 refine gt Z (fun w=>Eb (f:=E2) (A2 w) (gq Z)) ?_
 refine gt Z (fun w=>H5 (A2 w) (A2 w) Z) ?_
 refine sa Z Z Z ?_
 refine sv Z<|A1 ?_
 refine cc Z h (fun c1 h=> ?_)<|fun c1 h=> ?_
 ·refine bs h fun y hy h=> ?_
  cases h
  refine lr fun u hu=> ?_
  refine ss Z ?_
  refine sd Z (B4 Z (gq Z) Z Z) ?_
  refine B6 (dl E2 [v]) Z Z ?_
  refine Cw E2 (900000,0) xs [v] _ (D0<|fun _=>Z) Z (gq Z) hy ?_
  refine ss Z<|sv Z<|A1<|B2 ?_
  exact Aa (v1:= .tup [.sl (22,u), .d (bo true)]) (.inr Z) (Ds (B0 Z)<|B0 Z) (.of Z) [((22,u),some<|.arr 48 2 (List.map E2 zs))] (B7 (gq Z) (.of Z) trivial) (P0 [(22,u)] Z ⟨trivial,trivial⟩ ⟨gq Z,trivial⟩ Z (lY.2 ⟨fun i hi=>O0 Z hi,(fun _ h=>nomatch h)⟩) nd1)
 ·refine B8 ?_
  refine sq Z ?_
  refine sl Z (gq Z) Z ?_
  refine sv Z<|sv Z ?_
  refine S6 _ (.sl (900000,0)) Z (I9 Z) (fun _=>Z) ?_
  refine gt Z (fun w=>Eb (f:=E2) (A2 w) (gq Z)) ?_
  refine gt Z (fun w=>H5 (A2 w) Z Z) ?_
  refine sa Z Z Z ?_
  refine sv Z ?_
  refine gp Z (I9 Z) (fun _=>Z) ?_
  refine gt Z (vl Z (gq Z) Z) ?_
  refine S6 _ (.sl (900000,0)) Z (I9 Z) (fun _=>Z) ?_
  refine gt Z (fun w=>Eb (f:=E2) (A2 w) (gq Z)) ?_
  refine gt Z (fun w=>H5 (A2 w) Z Z) ?_
  refine gt Z (fun w=>H5 (A2 w) (A2 w) Z) ?_
  refine sa Z Z Z ?_
  refine sv Z<|A1 ?_
  refine cc Z h (fun c2 h=> ?_)<|fun c2 h=> ?_
  ·refine bs h fun y hy h=> ?_
   cases h
   refine lr fun u hu=> ?_
   refine ss Z ?_
   refine sq Z ?_
   refine sl Z (gq Z) Z ?_
   refine Rp E2 (900000,0) xs _ Z (gq Z) Z hy ?_
   refine ss Z<|sv Z<|A1<|B2 ?_
   exact Aa (v1:= .tup [.sl (43,u), .d (bo true)]) (.inr Z) (Ds (B0 Z)<|B0 Z) (.of Z) [((43,u),some<|.arr 48 2 (List.map E2 zs))] (B7 (gq Z) (.of Z) trivial) (P0 [(43,u)] Z ⟨trivial,trivial⟩ ⟨gq Z,trivial⟩ Z (lY.2 ⟨fun i hi=>O0 Z hi,(fun _ h=>nomatch h)⟩) nd1)
  ·refine B8 ?_
   refine sq Z ?_
   refine sl Z (gq Z) Z ?_
   refine sv Z<|sv Z ?_
   refine gp Z (I9 Z) (fun _=>Z) ?_
   refine gt Z (vl Z (gq Z) Z) ?_
   refine gt Z (fun w=>H5 (A2 w) Z Z) ?_
   refine sa Z Z Z ?_
   refine sv Z ?_
   refine gp Z (I9 Z) (fun _=>Z) ?_
   refine gt Z (vl Z (gq Z) Z) ?_
   refine S6 _ (.sl (900000,0)) Z (I9 Z) (fun _=>Z) ?_
   refine gt Z (fun w=>Eb (f:=E2) (A2 w) (gq Z)) ?_
   refine gt Z (fun w=>H5 (A2 w) (A2 w) Z) ?_
   refine sa Z Z Z ?_
   refine sv Z<|A1 ?_
   refine cc Z h (fun c3 h=> ?_)<|fun c3 h=> ?_
   ·refine bs h fun y hy h=> ?_
    cases h
    refine B8 ?_
    refine ss Z ?_
    refine sq Z ?_
    refine sl Z (gq Z) Z ?_
    refine sd Z (B4 Z (gq Z) Z Z) ?_
    refine B6 (.aptr (900000,0) 2 x.At.toNat 0) Z (Wl (f:=E2) Z Z (gq Z) hy) ?_
    refine Nq E2 (900000,0) _ xs x.At y v (E2 v) Z Z Z (gq Z) hy (Nat.le_of_ble_eq_true Z) Z ?_
    refine A1<|B8 ?_
    refine ss Z<|ss Z<|sv Z<|A1 ?_
    refine Uc 6 (900000,0) Z (gq Z) fun u'=>B2 ?_
    exact Aa (v1:= .tup [.sl (700000,u'), .d (bo true)]) (.inr Z) (Ds (B0 Z)<|B0 Z) (.of Z) [((700000,u'),some<|.arr 48 2 (List.map E2<|Sw xs x.At v))] (B7 (gq Z) (.of Z) trivial) (P0 [(700000,u')] Z ⟨trivial,trivial⟩ ⟨gq Z,trivial⟩ Z (lY.2 ⟨fun i hi=>O0 Z hi,(fun _ h=>nomatch h)⟩) nd1)
   ·cases h
    refine B1<|D7<|B8 ?_
    refine ss Z<|ss Z<|sv Z<|A1 ?_
    refine Uc 6 (900000,0) Z (gq Z) fun u'=>B2 ?_
    exact Aa (v1:= .tup [.sl (700000,u'), .d (bo false)]) (.inr Z) (Ds (B0 Z)<|B0 Z) (.of Z) [((700000,u'),some<|.arr 48 2 (List.map E2 xs))] (B7 (gq Z) (.of Z) trivial) (P0 [(700000,u')] Z ⟨trivial,trivial⟩ ⟨gq Z,trivial⟩ Z (lY.2 ⟨fun i hi=>O0 Z hi,(fun _ h=>nomatch h)⟩) nd1)
theorem MC (zs:List Signal)(x:Edit)(v:Signal)(ok:Bool)(h:Da x.Kind x.At [] v=some (zs,ok)):MCall prog 90 [.d .nilS, .d (.agg (Bj x)), .d (.agg (E2 v))] [] (.tup [oS zs (800000,0), .d (bo ok)]) [] [oB 48 2 E2 zs]:=by
 refine Dt (fk func90 ntmps90 (fun r=>if r==2 then [1002]else if r==4 then [1003]else []) (by with_unfolding_all rfl)) (by generalize zs=y;cases y<;>rfl) (nl Z) ?_
 unfold Da at h
 refine B8 ?_
 refine sm Z ?_
 refine sm Z ?_
 refine sv Z ?_
 refine sv Z<|A1 ?_
 refine A4<|A7<|B8 ?_
 refine sq Z ?_
 refine sl Z (gq Z) Z ?_
 refine sv Z<|sv Z ?_
 refine gp Z (I9 Z) (fun _=>Z) ?_
 refine gt Z (vl Z (gq Z) Z) ?_
 refine gt Z (fun _=>Z) ?_
 refine gt (v:=i64 (([]:List Signal).length:Int)) Z (fun w=>Ev<|A2 w) ?_
 refine gt Z (fun w=>H5 (A2 w) (A2 w) Z) ?_
 refine sa Z Z Z ?_
 refine sv Z<|A1 ?_
 refine cc Z h (fun c1 h=> ?_)<|fun c1 h=> ?_
 ·refine bs h fun y hy h=> ?_
  cases h
  refine lr fun u hu=> ?_
  refine sv Z ?_
  refine sd Z (B4 Z (gq Z) Z Z) ?_
  refine B6 (dl E2 [v]) Z Z ?_
  refine J0 E2 (22,u) [] v [] _ (D0<|fun _=>Z) Z (Classical.byContradiction fun e=>hu (22,u) e Z) hy ?_
  refine ss Z<|sv Z<|A1<|B2 ?_
  exact Aa (v1:= .tup [oS zs (22,u), .d (bo true)]) (.inr Z) (Ds (B0 Z)<|B0 Z) (.of (by rw [Z8<|N1 hy];rfl)) [((22,u),oB 48 2 E2 zs)] (O6 (gq Z) trivial) (P0 [(22,u)] (by generalize zs=y;cases y<;>rfl) trivial ⟨(gq Z).trans oB_ren.symm,trivial⟩ Z (lY.2 ⟨fun i hi=>O0 Z hi,(fun _ h=>nomatch h)⟩) nd1)
 ·refine B8 ?_
  refine sq Z ?_
  refine sl Z (gq Z) Z ?_
  refine sv Z<|sv Z ?_
  refine gt Z (fun _=>Z) ?_
  refine gt (v:=i64 (([]:List Signal).length:Int)) Z (fun w=>Ev<|A2 w) ?_
  refine gt Z (fun w=>H5 (A2 w) Z Z) ?_
  refine sa Z Z Z ?_
  refine sv Z ?_
  refine gp Z (I9 Z) (fun _=>Z) ?_
  refine gt Z (vl Z (gq Z) Z) ?_
  refine gt Z (fun _=>Z) ?_
  refine gt (v:=i64 (([]:List Signal).length:Int)) Z (fun w=>Ev<|A2 w) ?_
  refine gt Z (fun w=>H5 (A2 w) Z Z) ?_
  refine gt Z (fun w=>H5 (A2 w) (A2 w) Z) ?_
  refine sa Z Z Z ?_
  refine sv Z<|A1 ?_
  refine cc Z h (fun c2 h=> ?_)<|fun c2 h=> ?_
  ·simp at c2
  ·refine B8 ?_
   refine sq Z ?_
   refine sl Z (gq Z) Z ?_
   refine sv Z<|sv Z ?_
   refine gp Z (I9 Z) (fun _=>Z) ?_
   refine gt Z (vl Z (gq Z) Z) ?_
   refine gt Z (fun w=>H5 (A2 w) Z Z) ?_
   refine sa Z Z Z ?_
   refine sv Z ?_
   refine gp Z (I9 Z) (fun _=>Z) ?_
   refine gt Z (vl Z (gq Z) Z) ?_
   refine gt Z (fun _=>Z) ?_
   refine gt (v:=i64 (([]:List Signal).length:Int)) Z (fun w=>Ev<|A2 w) ?_
   refine gt Z (fun w=>H5 (A2 w) (A2 w) Z) ?_
   refine sa Z Z Z ?_
   refine sv Z<|A1 ?_
   refine cc Z h (fun c3 h=> ?_)<|fun c3 h=> ?_
   ·exact absurd h (by rintro h;refine bs h fun y hy _=>Ht hy rfl)
   ·cases h
    refine B1<|D7<|B8 ?_
    refine sv Z<|sv Z<|sv Z<|A1<|B2 ?_
    exact Aa (v1:= .tup [oS ([]:List Signal) (700000,0), .d (bo false)]) (.inr Z) (Ds (B0 Z)<|B0 Z) (.of Z) [((700000,0),oB 48 2 E2 [])] (O9 trivial) (P0 [(700000,0)] Z trivial ⟨Z,trivial⟩ Z (lY.2 ⟨fun i hi=>O0 Z hi,(fun _ h=>nomatch h)⟩) nd1)
theorem MD:EditC prog 90 48 2 E2 Bj Edit.Kind Edit.At:=⟨MB,MC⟩
end
section
theorem ME (xs zs:List Work)(x:Edit)(v:Work)(ok:Bool)(h:Da x.Kind x.At xs v=some (zs,ok)):MCall prog 92 [.sl (900000,0), .d (.agg (Bj x)), .d (.agg (H8 v))] [.arr 50 6 (xs.map H8)] (.tup [.sl (800000,0), .d (bo ok)]) [none] [some (.arr 50 6 (zs.map H8))]:=by
 refine Dt (fk func92 ntmps92 (fun r=>if r==2 then [1002]else if r==4 then [1003]else []) (by with_unfolding_all rfl)) Z (nl Z) ?_
 unfold Da at h
 refine B8 ?_
 refine sm Z ?_
 refine sm Z ?_
 refine sv Z ?_
 refine sv Z<|A1 ?_
 refine A4<|A7<|B8 ?_
 refine sq Z ?_
 refine sl Z (gq Z) Z ?_
 refine sv Z<|sv Z ?_
 refine gp Z (I9 Z) (fun _=>Z) ?_
 refine gt Z (vl Z (gq Z) Z) ?_
 refine S6 _ (.sl (900000,0)) Z (I9 Z) (fun _=>Z) ?_
 refine gt Z (fun w=>Eb (f:=H8) (A2 w) (gq Z)) ?_
 refine gt Z (fun w=>H5 (A2 w) (A2 w) Z) ?_
 refine sa Z Z Z ?_
 refine sv Z<|A1 ?_
 refine cc Z h (fun c1 h=> ?_)<|fun c1 h=> ?_
 ·refine bs h fun y hy h=> ?_
  cases h
  refine lr fun u hu=> ?_
  refine ss Z ?_
  refine sd Z (B4 Z (gq Z) Z Z) ?_
  refine B6 (dl H8 [v]) Z Z ?_
  refine Cw H8 (900000,0) xs [v] _ (D0<|fun _=>Z) Z (gq Z) hy ?_
  refine ss Z<|sv Z<|A1<|B2 ?_
  exact Aa (v1:= .tup [.sl (22,u), .d (bo true)]) (.inr Z) (Ds (B0 Z)<|B0 Z) (.of Z) [((22,u),some<|.arr 50 6 (List.map H8 zs))] (B7 (gq Z) (.of Z) trivial) (P0 [(22,u)] Z ⟨trivial,trivial⟩ ⟨gq Z,trivial⟩ Z (lY.2 ⟨fun i hi=>O0 Z hi,(fun _ h=>nomatch h)⟩) nd1)
 ·refine B8 ?_
  refine sq Z ?_
  refine sl Z (gq Z) Z ?_
  refine sv Z<|sv Z ?_
  refine S6 _ (.sl (900000,0)) Z (I9 Z) (fun _=>Z) ?_
  refine gt Z (fun w=>Eb (f:=H8) (A2 w) (gq Z)) ?_
  refine gt Z (fun w=>H5 (A2 w) Z Z) ?_
  refine sa Z Z Z ?_
  refine sv Z ?_
  refine gp Z (I9 Z) (fun _=>Z) ?_
  refine gt Z (vl Z (gq Z) Z) ?_
  refine S6 _ (.sl (900000,0)) Z (I9 Z) (fun _=>Z) ?_
  refine gt Z (fun w=>Eb (f:=H8) (A2 w) (gq Z)) ?_
  refine gt Z (fun w=>H5 (A2 w) Z Z) ?_
  refine gt Z (fun w=>H5 (A2 w) (A2 w) Z) ?_
  refine sa Z Z Z ?_
  refine sv Z<|A1 ?_
  refine cc Z h (fun c2 h=> ?_)<|fun c2 h=> ?_
  ·refine bs h fun y hy h=> ?_
   cases h
   refine lr fun u hu=> ?_
   refine ss Z ?_
   refine sq Z ?_
   refine sl Z (gq Z) Z ?_
   refine Rp H8 (900000,0) xs _ Z (gq Z) Z hy ?_
   refine ss Z<|sv Z<|A1<|B2 ?_
   exact Aa (v1:= .tup [.sl (43,u), .d (bo true)]) (.inr Z) (Ds (B0 Z)<|B0 Z) (.of Z) [((43,u),some<|.arr 50 6 (List.map H8 zs))] (B7 (gq Z) (.of Z) trivial) (P0 [(43,u)] Z ⟨trivial,trivial⟩ ⟨gq Z,trivial⟩ Z (lY.2 ⟨fun i hi=>O0 Z hi,(fun _ h=>nomatch h)⟩) nd1)
  ·refine B8 ?_
   refine sq Z ?_
   refine sl Z (gq Z) Z ?_
   refine sv Z<|sv Z ?_
   refine gp Z (I9 Z) (fun _=>Z) ?_
   refine gt Z (vl Z (gq Z) Z) ?_
   refine gt Z (fun w=>H5 (A2 w) Z Z) ?_
   refine sa Z Z Z ?_
   refine sv Z ?_
   refine gp Z (I9 Z) (fun _=>Z) ?_
   refine gt Z (vl Z (gq Z) Z) ?_
   refine S6 _ (.sl (900000,0)) Z (I9 Z) (fun _=>Z) ?_
   refine gt Z (fun w=>Eb (f:=H8) (A2 w) (gq Z)) ?_
   refine gt Z (fun w=>H5 (A2 w) (A2 w) Z) ?_
   refine sa Z Z Z ?_
   refine sv Z<|A1 ?_
   refine cc Z h (fun c3 h=> ?_)<|fun c3 h=> ?_
   ·refine bs h fun y hy h=> ?_
    cases h
    refine B8 ?_
    refine ss Z ?_
    refine sq Z ?_
    refine sl Z (gq Z) Z ?_
    refine sd Z (B4 Z (gq Z) Z Z) ?_
    refine B6 (.aptr (900000,0) 6 x.At.toNat 0) Z (Wl (f:=H8) Z Z (gq Z) hy) ?_
    refine Nq H8 (900000,0) _ xs x.At y v (H8 v) Z Z Z (gq Z) hy (Nat.le_of_ble_eq_true Z) Z ?_
    refine A1<|B8 ?_
    refine ss Z<|ss Z<|sv Z<|A1 ?_
    refine Uc 6 (900000,0) Z (gq Z) fun u'=>B2 ?_
    exact Aa (v1:= .tup [.sl (700000,u'), .d (bo true)]) (.inr Z) (Ds (B0 Z)<|B0 Z) (.of Z) [((700000,u'),some<|.arr 50 6 (List.map H8<|Sw xs x.At v))] (B7 (gq Z) (.of Z) trivial) (P0 [(700000,u')] Z ⟨trivial,trivial⟩ ⟨gq Z,trivial⟩ Z (lY.2 ⟨fun i hi=>O0 Z hi,(fun _ h=>nomatch h)⟩) nd1)
   ·cases h
    refine B1<|D7<|B8 ?_
    refine ss Z<|ss Z<|sv Z<|A1 ?_
    refine Uc 6 (900000,0) Z (gq Z) fun u'=>B2 ?_
    exact Aa (v1:= .tup [.sl (700000,u'), .d (bo false)]) (.inr Z) (Ds (B0 Z)<|B0 Z) (.of Z) [((700000,u'),some<|.arr 50 6 (List.map H8 xs))] (B7 (gq Z) (.of Z) trivial) (P0 [(700000,u')] Z ⟨trivial,trivial⟩ ⟨gq Z,trivial⟩ Z (lY.2 ⟨fun i hi=>O0 Z hi,(fun _ h=>nomatch h)⟩) nd1)
theorem MF (zs:List Work)(x:Edit)(v:Work)(ok:Bool)(h:Da x.Kind x.At [] v=some (zs,ok)):MCall prog 92 [.d .nilS, .d (.agg (Bj x)), .d (.agg (H8 v))] [] (.tup [oS zs (800000,0), .d (bo ok)]) [] [oB 50 6 H8 zs]:=by
 refine Dt (fk func92 ntmps92 (fun r=>if r==2 then [1002]else if r==4 then [1003]else []) (by with_unfolding_all rfl)) (by generalize zs=y;cases y<;>rfl) (nl Z) ?_
 unfold Da at h
 refine B8 ?_
 refine sm Z ?_
 refine sm Z ?_
 refine sv Z ?_
 refine sv Z<|A1 ?_
 refine A4<|A7<|B8 ?_
 refine sq Z ?_
 refine sl Z (gq Z) Z ?_
 refine sv Z<|sv Z ?_
 refine gp Z (I9 Z) (fun _=>Z) ?_
 refine gt Z (vl Z (gq Z) Z) ?_
 refine gt Z (fun _=>Z) ?_
 refine gt (v:=i64 (([]:List Work).length:Int)) Z (fun w=>Ev<|A2 w) ?_
 refine gt Z (fun w=>H5 (A2 w) (A2 w) Z) ?_
 refine sa Z Z Z ?_
 refine sv Z<|A1 ?_
 refine cc Z h (fun c1 h=> ?_)<|fun c1 h=> ?_
 ·refine bs h fun y hy h=> ?_
  cases h
  refine lr fun u hu=> ?_
  refine sv Z ?_
  refine sd Z (B4 Z (gq Z) Z Z) ?_
  refine B6 (dl H8 [v]) Z Z ?_
  refine J0 H8 (22,u) [] v [] _ (D0<|fun _=>Z) Z (Classical.byContradiction fun e=>hu (22,u) e Z) hy ?_
  refine ss Z<|sv Z<|A1<|B2 ?_
  exact Aa (v1:= .tup [oS zs (22,u), .d (bo true)]) (.inr Z) (Ds (B0 Z)<|B0 Z) (.of (by rw [Z8<|N1 hy];rfl)) [((22,u),oB 50 6 H8 zs)] (O6 (gq Z) trivial) (P0 [(22,u)] (by generalize zs=y;cases y<;>rfl) trivial ⟨(gq Z).trans oB_ren.symm,trivial⟩ Z (lY.2 ⟨fun i hi=>O0 Z hi,(fun _ h=>nomatch h)⟩) nd1)
 ·refine B8 ?_
  refine sq Z ?_
  refine sl Z (gq Z) Z ?_
  refine sv Z<|sv Z ?_
  refine gt Z (fun _=>Z) ?_
  refine gt (v:=i64 (([]:List Work).length:Int)) Z (fun w=>Ev<|A2 w) ?_
  refine gt Z (fun w=>H5 (A2 w) Z Z) ?_
  refine sa Z Z Z ?_
  refine sv Z ?_
  refine gp Z (I9 Z) (fun _=>Z) ?_
  refine gt Z (vl Z (gq Z) Z) ?_
  refine gt Z (fun _=>Z) ?_
  refine gt (v:=i64 (([]:List Work).length:Int)) Z (fun w=>Ev<|A2 w) ?_
  refine gt Z (fun w=>H5 (A2 w) Z Z) ?_
  refine gt Z (fun w=>H5 (A2 w) (A2 w) Z) ?_
  refine sa Z Z Z ?_
  refine sv Z<|A1 ?_
  refine cc Z h (fun c2 h=> ?_)<|fun c2 h=> ?_
  ·simp at c2
  ·refine B8 ?_
   refine sq Z ?_
   refine sl Z (gq Z) Z ?_
   refine sv Z<|sv Z ?_
   refine gp Z (I9 Z) (fun _=>Z) ?_
   refine gt Z (vl Z (gq Z) Z) ?_
   refine gt Z (fun w=>H5 (A2 w) Z Z) ?_
   refine sa Z Z Z ?_
   refine sv Z ?_
   refine gp Z (I9 Z) (fun _=>Z) ?_
   refine gt Z (vl Z (gq Z) Z) ?_
   refine gt Z (fun _=>Z) ?_
   refine gt (v:=i64 (([]:List Work).length:Int)) Z (fun w=>Ev<|A2 w) ?_
   refine gt Z (fun w=>H5 (A2 w) (A2 w) Z) ?_
   refine sa Z Z Z ?_
   refine sv Z<|A1 ?_
   refine cc Z h (fun c3 h=> ?_)<|fun c3 h=> ?_
   ·exact absurd h (by rintro h;refine bs h fun y hy _=>Ht hy rfl)
   ·cases h
    refine B1<|D7<|B8 ?_
    refine sv Z<|sv Z<|sv Z<|A1<|B2 ?_
    exact Aa (v1:= .tup [oS ([]:List Work) (700000,0), .d (bo false)]) (.inr Z) (Ds (B0 Z)<|B0 Z) (.of Z) [((700000,0),oB 50 6 H8 [])] (O9 trivial) (P0 [(700000,0)] Z trivial ⟨Z,trivial⟩ Z (lY.2 ⟨fun i hi=>O0 Z hi,(fun _ h=>nomatch h)⟩) nd1)
theorem MG:EditC prog 92 50 6 H8 Bj Edit.Kind Edit.At:=⟨ME,MF⟩
end
def Bt [Lp](p2:Patch)(x1:(Int×Map)):Option (Stp (Int×Map) (Sum Map (Map×Int))):=
  cond (decide (x1.1< (p2.Edits.length:Int))) ((E6 p2.Edits x1.1).bind fun v3=>cond ((decide (v3.Kind<1))||(decide (v3.Kind>3))) (some (.out (.inr ((Map.mk 0 [] [] [] []),4)))) (thenS (cond (v3.Table==1) ((Bg v3.Lane_).bind fun v4=>(Da v3.Kind v3.At x1.2.Lanes v4).bind fun v5=>some (.inl (v5.2,(Map.mk x1.2.Version v5.1 x1.2.Zones x1.2.Signals x1.2.Works)))) (cond (v3.Table==2) ((Bh v3.Zone_).bind fun v6=>(Da v3.Kind v3.At x1.2.Zones v6).bind fun v7=>some (.inl (v7.2,(Map.mk x1.2.Version x1.2.Lanes v7.1 x1.2.Signals x1.2.Works)))) (cond (v3.Table==3) ((X4 v3.Signal_).bind fun v8=>(Da v3.Kind v3.At x1.2.Signals v8).bind fun v9=>some (.inl (v9.2,(Map.mk x1.2.Version x1.2.Lanes x1.2.Zones v9.1 x1.2.Works)))) (cond (v3.Table==4) ((Da v3.Kind v3.At x1.2.Works v3.Work_).bind fun v10=>some (.inl (v10.2,(Map.mk x1.2.Version x1.2.Lanes x1.2.Zones x1.2.Signals v10.1)))) (some (.inr ((Map.mk 0 [] [] [] []),4))))))) (fun y2=>cond (!y2.1) (some (.out (.inr ((Map.mk 0 [] [] [] []),2)))) (some (.go ((J3 (x1.1+1)),y2.2)))) (fun r=>some (.out (.inr r))))) (some (.out (.inl x1.2)))
def Ie [Lp](p1:Map)(p2:Patch):Option (Map×Int):=
  (Q3 p1).bind fun v1=>cond (v1 !=0) (some ((Map.mk 0 [] [] [] []),v1)) (cond (p2.Base !=p1.Version) (some ((Map.mk 0 [] [] [] []),14)) ((Ff p1).bind fun v2=>thenS (loop (Bt p2) (0,v2)) (fun y1=>cond (decide (y1.Version≥1099511627776)) (some ((Map.mk 0 [] [] [] []),2)) ((Q3 (Map.mk (J3 (y1.Version+1)) y1.Lanes y1.Zones y1.Signals y1.Works)).bind fun v11=>cond (v11 !=0) (some ((Map.mk 0 [] [] [] []),v11)) (some ((Map.mk (J3 (y1.Version+1)) y1.Lanes y1.Zones y1.Signals y1.Works),0)))) (fun r=>some r)))
theorem Xd(p1 p2 r)(h:Ie p1 p2=some r):PCall prog 21 [(.agg (K6 p1)),(.agg [(i64 p2.Base),(.list (List.map Bj p2.Edits))])] (.tup [(.agg (K6 r.1)),(i64 r.2)]):=by
 refine C4 (fk func21 ntmps21 (fun r=>if r==6 then [1006001]else if r==16 then [1016006]else if r==18 then [1018006]else if r==20 then [1020006]else if r==22 then [1022005]else []) (by with_unfolding_all rfl)) (nl Z) ?_
 unfold Ie at h
 refine A6 (s0:=⟨T [(0,(.d _)),(1,(.d _))],G []⟩) (D9 Z Z) ?_
 refine lr<|fun u1 _=>sm Z<|sm Z<|sn Z Z<|sv Z<|A1<|A4<|B8<|sd Z (B4 Z (gq Z) Z Z)<|bs h fun _ hv1 h=>C0 Z Z A3 (Bq _ _ hv1) (.inl Z) (sv Z<|A1<|B8<|sv Z<|sv Z<|A1<|cc Z h (fun c1 h=> ?_)<|fun c1 h=> ?_)
 refine B8<|sv Z<|sv Z<|U1 Z G_hit [(di 0),(.d .nilS),(.d .nilS),(.d .nilS),(.d .nilS)] Z (sv Z<|A1<|B2 ?_)
 cases h
 exact A8 (.inr Z) (Ha (E7 Z G_hit (nl Z) Z) (B0 Z) C2 C2) (.tup (.cons (.agg (ca Z<|.cons ⟨DLe.nil,Z⟩ (.cons ⟨DLe.nil,Z⟩ (.cons ⟨DLe.nil,Z⟩ (.cons ⟨DLe.nil,Z⟩ .nil))))) A3))
 refine B1<|A4<|B8<|sq Z<|sl Z (gq Z) Z (sq Z<|sl Z (gq Z) Z (sv Z<|A1<|cc Z h (fun c2 h=> ?_)<|fun c2 h=> ?_))
 refine B8<|sv Z<|U1 Z G_hit [(di 0),(.d .nilS),(.d .nilS),(.d .nilS),(.d .nilS)] Z (sv Z<|A1<|B2 ?_)
 cases h
 exact A8 (.inr Z) (Ha (E7 Z G_hit (nl Z) Z) (B0 Z) C2 C2) (.tup (.cons (.agg (ca Z<|.cons ⟨DLe.nil,Z⟩ (.cons ⟨DLe.nil,Z⟩ (.cons ⟨DLe.nil,Z⟩ (.cons ⟨DLe.nil,Z⟩ .nil))))) A3))
 refine B1<|lr<|fun u7 _=>sd Z (B4 Z (gq Z) Z Z)<|bs h fun v2 hv2 h=> ?_
 refine FP (v:=W7 [(di v2.Version),(oS v2.Lanes (10060010,u7)),(oS v2.Zones (10060011,u7)),(oS v2.Signals (10060012,u7)),(oS v2.Works (10060013,u7))]) (us:= [(10060010,u7),(10060011,u7),(10060012,u7),(10060013,u7)]) (Zq (Tf _ _ hv2) [] [] _ (((10060013,u7),oB 50 6 H8 v2.Works)::(((10060012,u7),oB 48 2 E2 v2.Signals)::(((10060011,u7),oB 45 2 F0 v2.Zones)::(((10060010,u7),oB 42 5 G5 v2.Lanes)::_)))) Z Fj Z Cz trivial (fun _ h=>h) List.nodup_nil (by generalize v2.Lanes=x1;generalize v2.Zones=x2;generalize v2.Signals=x3;generalize v2.Works=x4;cases x1<;>cases x2<;>cases x3<;>cases x4<;>rfl) Z (Lz<|Lz<|Lz<|Lz (Z)) Z) ?_
 refine sn Z Z<|Z4 _ _ _ _ _ (S9 _) Z Z G_hit (nl Z) [(di v2.Version),(oS v2.Lanes (10060010,u7)),(oS v2.Zones (10060011,u7)),(oS v2.Signals (10060012,u7)),(oS v2.Works (10060013,u7))] Z (A1<|A4<|A4<|A6 (s0:=⟨T [(3,(.ptr (3,u1) 0)),(4,(.ptr (4,u1) 0)),(7,(.ptr (7,u7) 0))],G [((3,u1),some<|.box 36 [(di p2.Base),(dl Bj p2.Edits)]),((4,u1),some<|.box 27 [(di 0),(.d .nilS),(.d .nilS),(.d .nilS),(.d .nilS)]),((7,u7),some<|.box 27 [(di v2.Version),(oS v2.Lanes (10060010,u7)),(oS v2.Zones (10060011,u7)),(oS v2.Signals (10060012,u7)),(oS v2.Works (10060013,u7))]),((10060010,u7),oB 42 5 G5 v2.Lanes),((10060011,u7),oB 45 2 F0 v2.Zones),((10060012,u7),oB 48 2 E2 v2.Signals),((10060013,u7),oB 50 6 H8 v2.Works)]⟩) (D3 (Z5 Z)<|sg Z<|sg Z<|B7 G_hit (.of Z)<|D4 (gq Z)<|D4 (gq Z)<|D4 (gq Z)<|D4 (gq Z) trivial) ?_)
 refine B5<|sq Z<|sl Z G_hit Z<|sd Z (C3 Z)<|sv Z<|A1<|js h fun z1 hz1 h=>E4 (fun s=> ∃(y1:Map) (g1:(({d:Nat // d∈ [10060010,10160060]}×Nat)×Bool× ({d:Nat // d∈ [10060011,10180060]}×Nat)×Bool× ({d:Nat // d∈ [10060012,10200060]}×Nat)×Bool× ({d:Nat // d∈ [10060013,10220050]}×Nat)×Bool)),z1= .inl y1∧Sb ⟨T [(4,(.ptr (4,u1) 0)),(7,(.ptr (7,u7) 0))],G [((4,u1),some<|.box 27 [(di 0),(.d .nilS),(.d .nilS),(.d .nilS),(.d .nilS)]),((7,u7),some<|.box 27 [(di y1.Version),(oW g1.2.1 y1.Lanes (g1.1.1.val,g1.1.2)),(oW g1.2.2.2.1 y1.Zones (g1.2.2.1.1.val,g1.2.2.1.2)),(oW g1.2.2.2.2.2.1 y1.Signals (g1.2.2.2.2.1.1.val,g1.2.2.2.2.1.2)),(oW g1.2.2.2.2.2.2.2 y1.Works (g1.2.2.2.2.2.2.1.1.val,g1.2.2.2.2.2.2.1.2))]),((g1.1.1.val,g1.1.2),wB g1.2.1 42 5 G5 y1.Lanes),((g1.2.2.1.1.val,g1.2.2.1.2),wB g1.2.2.2.1 45 2 F0 y1.Zones),((g1.2.2.2.2.1.1.val,g1.2.2.2.2.1.2),wB g1.2.2.2.2.2.1 48 2 E2 y1.Signals),((g1.2.2.2.2.2.2.1.1.val,g1.2.2.2.2.2.2.1.2),wB g1.2.2.2.2.2.2.2 50 6 H8 y1.Works)]⟩ s) ?_ ?_
 refine A7<|E5 (Bt p2) (fun (x1:(Int×Map)) (g2:(({d:Nat // d∈ [10060010,10160060]}×Nat)×Bool× ({d:Nat // d∈ [10060011,10180060]}×Nat)×Bool× ({d:Nat // d∈ [10060012,10200060]}×Nat)×Bool× ({d:Nat // d∈ [10060013,10220050]}×Nat)×Bool))=>⟨T [(4,(.ptr (4,u1) 0)),(7,(.ptr (7,u7) 0)),(27,(dl Bj p2.Edits)),(28,(di (p2.Edits.length:Int))),(29,(di x1.1))],G [((4,u1),some<|.box 27 [(di 0),(.d .nilS),(.d .nilS),(.d .nilS),(.d .nilS)]),((7,u7),some<|.box 27 [(di x1.2.Version),(oW g2.2.1 x1.2.Lanes (g2.1.1.val,g2.1.2)),(oW g2.2.2.2.1 x1.2.Zones (g2.2.2.1.1.val,g2.2.2.1.2)),(oW g2.2.2.2.2.2.1 x1.2.Signals (g2.2.2.2.2.1.1.val,g2.2.2.2.2.1.2)),(oW g2.2.2.2.2.2.2.2 x1.2.Works (g2.2.2.2.2.2.2.1.1.val,g2.2.2.2.2.2.2.1.2))]),((g2.1.1.val,g2.1.2),wB g2.2.1 42 5 G5 x1.2.Lanes),((g2.2.2.1.1.val,g2.2.2.1.2),wB g2.2.2.2.1 45 2 F0 x1.2.Zones),((g2.2.2.2.2.1.1.val,g2.2.2.2.2.1.2),wB g2.2.2.2.2.2.1 48 2 E2 x1.2.Signals),((g2.2.2.2.2.2.2.1.1.val,g2.2.2.2.2.2.2.1.2),wB g2.2.2.2.2.2.2.2 50 6 H8 x1.2.Works)]⟩) (0,v2) ((⟨10060010, .head _⟩,u7),false,(⟨10060011, .head _⟩,u7),false,(⟨10060012, .head _⟩,u7),false,(⟨10060013, .head _⟩,u7),false) _ hz1 (D3 (Z5 Z)<|sg Z<|B7 (gq Z) (.box (cv<|.cons (.of oW_f.symm) (.cons (.of oW_f.symm) (.cons (.of oW_f.symm) (.cons (.of oW_f.symm) .nil))))) (BE (gq Z)<|BE (gq Z)<|BE (gq Z)<|BE (gq Z) trivial)) ?_
 intro x1 g2 z2 hz2 ez2
 unfold Bt at hz2
 refine B8<|sv Z<|A1<|A4<|cc Z hz2 (fun c3 hz2=> ?_)<|fun c3 hz2=> ?_
 refine B1<|A4<|A7<|lr<|fun u10 _=>bs hz2 fun v3 hv3 hz2=>sd Z (D8 Z Z hv3 Z)<|sd Z (D1 Z hv3 Z Z)<|sm Z<|U1 Z G_hit (DB v3) Z (A1<|B8<|sv Z<|A1<|A4<|B8<|sq Z<|sl Z G_hit Z<|sv Z<|sv Z<|gp Z (K1 Z) (fun _=>Z) (gf Z (vl Z G_hit Z)<|gf Z (vb Z Z Z)<|sd Z (R4 Z Z<|fun hc=>A2<|K9 hc)<|A1<|cc Z hz2 (fun c4 hz2=> ?_)<|fun c4 hz2=> ?_))
 refine A4<|A6 (s0:=⟨T [(4,(.ptr _ _))],G [((4,u1),some<|.box 27 _)]⟩) (D9 Z Z) ?_
 refine B5<|sv Z<|U1 Z G_hit [(di 0),(.d .nilS),(.d .nilS),(.d .nilS),(.d .nilS)] Z (sv Z<|A1<|B2 ?_)
 cases hz2
 obtain rfl:=ez2 _ rfl
 refine ⟨nofun,E1 ?_⟩
 rw [bI]at h
 cases h
 exact A8 (.inr Z) (Ha (E7 Z G_hit (nl Z) Z) (B0 Z) C2 C2) (.tup (.cons (.agg (ca Z<|.cons ⟨DLe.nil,Z⟩ (.cons ⟨DLe.nil,Z⟩ (.cons ⟨DLe.nil,Z⟩ (.cons ⟨DLe.nil,Z⟩ .nil))))) A3))
 refine B1<|A4<|A4<|A6 (s0:=⟨T [(4,(.ptr (4,u1) 0)),(7,(.ptr (7,u7) 0)),(9,(.ptr (9,u10) 0)),(27,(dl Bj p2.Edits)),(28,(di (p2.Edits.length:Int))),(29,(di x1.1))],G [((4,u1),some<|.box 27 [(di 0),(.d .nilS),(.d .nilS),(.d .nilS),(.d .nilS)]),((7,u7),some<|.box 27 [(di x1.2.Version),(oW g2.2.1 x1.2.Lanes (g2.1.1.val,g2.1.2)),(oW g2.2.2.2.1 x1.2.Zones (g2.2.2.1.1.val,g2.2.2.1.2)),(oW g2.2.2.2.2.2.1 x1.2.Signals (g2.2.2.2.2.1.1.val,g2.2.2.2.2.1.2)),(oW g2.2.2.2.2.2.2.2 x1.2.Works (g2.2.2.2.2.2.2.1.1.val,g2.2.2.2.2.2.2.1.2))]),((g2.1.1.val,g2.1.2),wB g2.2.1 42 5 G5 x1.2.Lanes),((g2.2.2.1.1.val,g2.2.2.1.2),wB g2.2.2.2.1 45 2 F0 x1.2.Zones),((g2.2.2.2.2.1.1.val,g2.2.2.2.2.1.2),wB g2.2.2.2.2.2.1 48 2 E2 x1.2.Signals),((g2.2.2.2.2.2.2.1.1.val,g2.2.2.2.2.2.2.1.2),wB g2.2.2.2.2.2.2.2 50 6 H8 x1.2.Works),((9,u10),some<|.box 52 (DB v3))]⟩) (D3 (Z5 Z)<|sg Z<|sg Z<|Q9 (A5 (S4 g2.1.1.property Z)<|A5 (S4 g2.1.1.property Z)<|A5 (S4 g2.1.1.property Z)<|A5 (S4 g2.1.1.property Z) G_hit)<|Q9 (A5 (S4 g2.2.2.1.1.property Z)<|A5 (S4 g2.2.2.1.1.property Z)<|A5 (S4 g2.2.2.1.1.property Z)<|A5 (S4 g2.2.2.1.1.property Z)<|A5 (P5 g2.2.2.1.1.property g2.1.1.property Z) G_hit)<|Q9 (A5 (S4 g2.2.2.2.2.1.1.property Z)<|A5 (S4 g2.2.2.2.2.1.1.property Z)<|A5 (S4 g2.2.2.2.2.1.1.property Z)<|A5 (S4 g2.2.2.2.2.1.1.property Z)<|A5 (P5 g2.2.2.2.2.1.1.property g2.1.1.property Z)<|A5 (P5 g2.2.2.2.2.1.1.property g2.2.2.1.1.property Z) G_hit)<|Q9 (A5 (S4 g2.2.2.2.2.2.2.1.1.property Z)<|A5 (S4 g2.2.2.2.2.2.2.1.1.property Z)<|A5 (S4 g2.2.2.2.2.2.2.1.1.property Z)<|A5 (S4 g2.2.2.2.2.2.2.1.1.property Z)<|A5 (P5 g2.2.2.2.2.2.2.1.1.property g2.1.1.property Z)<|A5 (P5 g2.2.2.2.2.2.2.1.1.property g2.2.2.1.1.property Z)<|A5 (P5 g2.2.2.2.2.2.2.1.1.property g2.2.2.2.2.1.1.property Z) G_hit)<|B7 G_hit (.of Z) trivial) ?_
 refine B5<|sq Z<|sd Z (M1 Z (A5 Z<|A5 Z<|A5 (Iz g2.1.1.property Z)<|A5 (Iz g2.2.2.1.1.property Z)<|A5 (Iz g2.2.2.2.2.1.1.property Z)<|A5 (Iz g2.2.2.2.2.2.2.1.1.property Z) G_hit) Z)<|A1<|js hz2 fun z3 hz3 hz2=>E4 (fun s=> ∃(y2:(Bool×Map)) (g3:(({d:Nat // d∈ [10060010,10160060]}×Nat)×Bool× ({d:Nat // d∈ [10060011,10180060]}×Nat)×Bool× ({d:Nat // d∈ [10060012,10200060]}×Nat)×Bool× ({d:Nat // d∈ [10060013,10220050]}×Nat)×Bool)),z3= .inl y2∧Sb ⟨T [(4,(.ptr (4,u1) 0)),(7,(.ptr (7,u7) 0)),(10,(.d (bo y2.1))),(27,(dl Bj p2.Edits)),(28,(di (p2.Edits.length:Int))),(29,(di x1.1))],G [((4,u1),some<|.box 27 [(di 0),(.d .nilS),(.d .nilS),(.d .nilS),(.d .nilS)]),((7,u7),some<|.box 27 [(di y2.2.Version),(oW g3.2.1 y2.2.Lanes (g3.1.1.val,g3.1.2)),(oW g3.2.2.2.1 y2.2.Zones (g3.2.2.1.1.val,g3.2.2.1.2)),(oW g3.2.2.2.2.2.1 y2.2.Signals (g3.2.2.2.2.1.1.val,g3.2.2.2.2.1.2)),(oW g3.2.2.2.2.2.2.2 y2.2.Works (g3.2.2.2.2.2.2.1.1.val,g3.2.2.2.2.2.2.1.2))]),((g3.1.1.val,g3.1.2),wB g3.2.1 42 5 G5 y2.2.Lanes),((g3.2.2.1.1.val,g3.2.2.1.2),wB g3.2.2.2.1 45 2 F0 y2.2.Zones),((g3.2.2.2.2.1.1.val,g3.2.2.2.2.1.2),wB g3.2.2.2.2.2.1 48 2 E2 y2.2.Signals),((g3.2.2.2.2.2.2.1.1.val,g3.2.2.2.2.2.2.1.2),wB g3.2.2.2.2.2.2.2 50 6 H8 y2.2.Works)]⟩ s) ?_ ?_
 refine A7<|B8<|sv Z<|sv Z<|A1<|cc Z hz3 (fun c5 hz3=> ?_)<|fun c5 hz3=> ?_
 refine Hf Z fun u16 _=>sq Z<|B6 (oW g2.2.1 x1.2.Lanes (g2.1.1.val,g2.1.2)) Z (M1 Z (gq Z) Z) (sd Z (B4 Z (A5 Z<|A5 Z<|A5 (Iz g2.1.1.property Z)<|A5 (Iz g2.2.2.1.1.property Z)<|A5 (Iz g2.2.2.2.2.1.1.property Z)<|A5 (Iz g2.2.2.2.2.2.2.1.1.property Z) G_hit) Z Z)<|sq Z<|sd Z (B4 Z (A5 Z<|A5 Z<|A5 (Iz g2.1.1.property Z)<|A5 (Iz g2.2.2.1.1.property Z)<|A5 (Iz g2.2.2.2.2.1.1.property Z)<|A5 (Iz g2.2.2.2.2.2.2.1.1.property Z) G_hit) Z Z)<|bs hz3 fun v4 hv4 hz3=>C0 Z Z A3 (Hl _ _ hv4) (.inl Z) (bs hz3 fun v5 hv5 hz3=>HD (Vh (b:=g2.2.1) (x:=v3) (v:=v4) LX hv5 Z (A5 (S4 g2.1.1.property Z)<|A5 (S4 g2.1.1.property Z) G_hit))<|B6 (.tup _) Z Z (B6 (oW (wb g2.2.1 x1.2.Lanes) v5.1 (10160060,u16)) Z Z (sv Z<|sq Z<|Z4 _ _ _ _ _ (Ov _ _ _) Z Z (A5 Z<|A5 (Iz g2.1.1.property Z)<|gq Z) (nl Z) [(di x1.2.Version),(oW (wb g2.2.1 x1.2.Lanes) v5.1 (10160060,u16)),(oW g2.2.2.2.1 x1.2.Zones (g2.2.2.1.1.val,g2.2.2.1.2)),(oW g2.2.2.2.2.2.1 x1.2.Signals (g2.2.2.2.2.1.1.val,g2.2.2.2.2.1.2)),(oW g2.2.2.2.2.2.2.2 x1.2.Works (g2.2.2.2.2.2.2.1.1.val,g2.2.2.2.2.2.2.1.2))] Z (sv Z<|A1<|D7 ?_)))))
 cases hz3
 exact Z9 ⟨_,((⟨10160060, .tail _ (.head _)⟩,u16),(wb g2.2.1 x1.2.Lanes),(g2.2.2.1.1,g2.2.2.1.2),g2.2.2.2.1,(g2.2.2.2.2.1.1,g2.2.2.2.2.1.2),g2.2.2.2.2.2.1,(g2.2.2.2.2.2.2.1.1,g2.2.2.2.2.2.2.1.2),g2.2.2.2.2.2.2.2),Z,(D3 (Z5 Z)<|B7 (RM 2 Z<|A5 (Iz g2.1.1.property Z) G_hit) (.of Z) (B7 G_hit (.of Z)<|Q9 (gq Z)<|Q9 (A5 (S4 g2.2.2.1.1.property Z)<|A5 (S4 g2.2.2.1.1.property Z)<|A5 (P5 g2.2.2.1.1.property g2.1.1.property Z)<|A5 (S4 g2.2.2.1.1.property Z)<|A5 (S4 g2.2.2.1.1.property Z)<|A5 (P5 g2.2.2.1.1.property g2.1.1.property Z) G_hit)<|Q9 (A5 (S4 g2.2.2.2.2.1.1.property Z)<|A5 (S4 g2.2.2.2.2.1.1.property Z)<|A5 (P5 g2.2.2.2.2.1.1.property g2.1.1.property Z)<|A5 (S4 g2.2.2.2.2.1.1.property Z)<|A5 (S4 g2.2.2.2.2.1.1.property Z)<|A5 (P5 g2.2.2.2.2.1.1.property g2.1.1.property Z)<|A5 (P5 g2.2.2.2.2.1.1.property g2.2.2.1.1.property Z) G_hit)<|Q9 (A5 (S4 g2.2.2.2.2.2.2.1.1.property Z)<|A5 (S4 g2.2.2.2.2.2.2.1.1.property Z)<|A5 (P5 g2.2.2.2.2.2.2.1.1.property g2.1.1.property Z)<|A5 (S4 g2.2.2.2.2.2.2.1.1.property Z)<|A5 (S4 g2.2.2.2.2.2.2.1.1.property Z)<|A5 (P5 g2.2.2.2.2.2.2.1.1.property g2.1.1.property Z)<|A5 (P5 g2.2.2.2.2.2.2.1.1.property g2.2.2.1.1.property Z)<|A5 (P5 g2.2.2.2.2.2.2.1.1.property g2.2.2.2.2.1.1.property Z) G_hit) trivial))⟩
 refine B8<|sv Z<|sv Z<|A1<|cc Z hz3 (fun c6 hz3=> ?_)<|fun c6 hz3=> ?_
 refine Hf Z fun u18 _=>sq Z<|B6 (oW g2.2.2.2.1 x1.2.Zones (g2.2.2.1.1.val,g2.2.2.1.2)) Z (M1 Z (gq Z) Z) (sd Z (B4 Z (A5 Z<|A5 Z<|A5 (Iz g2.1.1.property Z)<|A5 (Iz g2.2.2.1.1.property Z)<|A5 (Iz g2.2.2.2.2.1.1.property Z)<|A5 (Iz g2.2.2.2.2.2.2.1.1.property Z) G_hit) Z Z)<|sq Z<|sd Z (B4 Z (A5 Z<|A5 Z<|A5 (Iz g2.1.1.property Z)<|A5 (Iz g2.2.2.1.1.property Z)<|A5 (Iz g2.2.2.2.2.1.1.property Z)<|A5 (Iz g2.2.2.2.2.2.2.1.1.property Z) G_hit) Z Z)<|bs hz3 fun v6 hv6 hz3=>C0 Z Z A3 (Hm _ _ hv6) (.inl Z) (bs hz3 fun v7 hv7 hz3=>HD (Vh (b:=g2.2.2.2.1) (x:=v3) (v:=v6) MA hv7 Z (A5 (S4 g2.2.2.1.1.property Z)<|A5 (S4 g2.2.2.1.1.property Z)<|A5 (P5 g2.2.2.1.1.property g2.1.1.property Z) G_hit))<|B6 (.tup _) Z Z (B6 (oW (wb g2.2.2.2.1 x1.2.Zones) v7.1 (10180060,u18)) Z Z (sv Z<|sq Z<|Z4 _ _ _ _ _ (Ov _ _ _) Z Z (A5 Z<|A5 (Iz g2.2.2.1.1.property Z)<|gq Z) (nl Z) [(di x1.2.Version),(oW g2.2.1 x1.2.Lanes (g2.1.1.val,g2.1.2)),(oW (wb g2.2.2.2.1 x1.2.Zones) v7.1 (10180060,u18)),(oW g2.2.2.2.2.2.1 x1.2.Signals (g2.2.2.2.2.1.1.val,g2.2.2.2.2.1.2)),(oW g2.2.2.2.2.2.2.2 x1.2.Works (g2.2.2.2.2.2.2.1.1.val,g2.2.2.2.2.2.2.1.2))] Z (sv Z<|A1<|D7 ?_)))))
 cases hz3
 exact Z9 ⟨_,((g2.1.1,g2.1.2),g2.2.1,(⟨10180060, .tail _ (.head _)⟩,u18),(wb g2.2.2.2.1 x1.2.Zones),(g2.2.2.2.2.1.1,g2.2.2.2.2.1.2),g2.2.2.2.2.2.1,(g2.2.2.2.2.2.2.1.1,g2.2.2.2.2.2.2.1.2),g2.2.2.2.2.2.2.2),Z,(D3 (Z5 Z)<|B7 (RM 2 Z<|A5 (Iz g2.2.2.1.1.property Z) G_hit) (.of Z) (B7 G_hit (.of Z)<|Q9 (A5 (S4 g2.1.1.property Z)<|A5 (S4 g2.1.1.property Z)<|A5 (P5 g2.1.1.property g2.2.2.1.1.property Z)<|A5 (S4 g2.1.1.property Z)<|A5 (S4 g2.1.1.property Z) G_hit)<|Q9 (gq Z)<|Q9 (A5 (S4 g2.2.2.2.2.1.1.property Z)<|A5 (S4 g2.2.2.2.2.1.1.property Z)<|A5 (P5 g2.2.2.2.2.1.1.property g2.2.2.1.1.property Z)<|A5 (S4 g2.2.2.2.2.1.1.property Z)<|A5 (S4 g2.2.2.2.2.1.1.property Z)<|A5 (P5 g2.2.2.2.2.1.1.property g2.1.1.property Z)<|A5 (P5 g2.2.2.2.2.1.1.property g2.2.2.1.1.property Z) G_hit)<|Q9 (A5 (S4 g2.2.2.2.2.2.2.1.1.property Z)<|A5 (S4 g2.2.2.2.2.2.2.1.1.property Z)<|A5 (P5 g2.2.2.2.2.2.2.1.1.property g2.2.2.1.1.property Z)<|A5 (S4 g2.2.2.2.2.2.2.1.1.property Z)<|A5 (S4 g2.2.2.2.2.2.2.1.1.property Z)<|A5 (P5 g2.2.2.2.2.2.2.1.1.property g2.1.1.property Z)<|A5 (P5 g2.2.2.2.2.2.2.1.1.property g2.2.2.1.1.property Z)<|A5 (P5 g2.2.2.2.2.2.2.1.1.property g2.2.2.2.2.1.1.property Z) G_hit) trivial))⟩
 refine B8<|sv Z<|sv Z<|A1<|cc Z hz3 (fun c7 hz3=> ?_)<|fun c7 hz3=> ?_
 refine Hf Z fun u20 _=>sq Z<|B6 (oW g2.2.2.2.2.2.1 x1.2.Signals (g2.2.2.2.2.1.1.val,g2.2.2.2.2.1.2)) Z (M1 Z (gq Z) Z) (sd Z (B4 Z (A5 Z<|A5 Z<|A5 (Iz g2.1.1.property Z)<|A5 (Iz g2.2.2.1.1.property Z)<|A5 (Iz g2.2.2.2.2.1.1.property Z)<|A5 (Iz g2.2.2.2.2.2.2.1.1.property Z) G_hit) Z Z)<|sq Z<|sd Z (B4 Z (A5 Z<|A5 Z<|A5 (Iz g2.1.1.property Z)<|A5 (Iz g2.2.2.1.1.property Z)<|A5 (Iz g2.2.2.2.2.1.1.property Z)<|A5 (Iz g2.2.2.2.2.2.2.1.1.property Z) G_hit) Z Z)<|bs hz3 fun v8 hv8 hz3=>C0 Z Z A3 (Fm _ _ hv8) (.inl Z) (bs hz3 fun v9 hv9 hz3=>HD (Vh (b:=g2.2.2.2.2.2.1) (x:=v3) (v:=v8) MD hv9 Z (A5 (S4 g2.2.2.2.2.1.1.property Z)<|A5 (S4 g2.2.2.2.2.1.1.property Z)<|A5 (P5 g2.2.2.2.2.1.1.property g2.1.1.property Z)<|A5 (P5 g2.2.2.2.2.1.1.property g2.2.2.1.1.property Z) G_hit))<|B6 (.tup _) Z Z (B6 (oW (wb g2.2.2.2.2.2.1 x1.2.Signals) v9.1 (10200060,u20)) Z Z (sv Z<|sq Z<|Z4 _ _ _ _ _ (Ov _ _ _) Z Z (A5 Z<|A5 (Iz g2.2.2.2.2.1.1.property Z)<|gq Z) (nl Z) [(di x1.2.Version),(oW g2.2.1 x1.2.Lanes (g2.1.1.val,g2.1.2)),(oW g2.2.2.2.1 x1.2.Zones (g2.2.2.1.1.val,g2.2.2.1.2)),(oW (wb g2.2.2.2.2.2.1 x1.2.Signals) v9.1 (10200060,u20)),(oW g2.2.2.2.2.2.2.2 x1.2.Works (g2.2.2.2.2.2.2.1.1.val,g2.2.2.2.2.2.2.1.2))] Z (sv Z<|A1<|D7 ?_)))))
 cases hz3
 exact Z9 ⟨_,((g2.1.1,g2.1.2),g2.2.1,(g2.2.2.1.1,g2.2.2.1.2),g2.2.2.2.1,(⟨10200060, .tail _ (.head _)⟩,u20),(wb g2.2.2.2.2.2.1 x1.2.Signals),(g2.2.2.2.2.2.2.1.1,g2.2.2.2.2.2.2.1.2),g2.2.2.2.2.2.2.2),Z,(D3 (Z5 Z)<|B7 (RM 2 Z<|A5 (Iz g2.2.2.2.2.1.1.property Z) G_hit) (.of Z) (B7 G_hit (.of Z)<|Q9 (A5 (S4 g2.1.1.property Z)<|A5 (S4 g2.1.1.property Z)<|A5 (P5 g2.1.1.property g2.2.2.2.2.1.1.property Z)<|A5 (S4 g2.1.1.property Z)<|A5 (S4 g2.1.1.property Z) G_hit)<|Q9 (A5 (S4 g2.2.2.1.1.property Z)<|A5 (S4 g2.2.2.1.1.property Z)<|A5 (P5 g2.2.2.1.1.property g2.2.2.2.2.1.1.property Z)<|A5 (S4 g2.2.2.1.1.property Z)<|A5 (S4 g2.2.2.1.1.property Z)<|A5 (P5 g2.2.2.1.1.property g2.1.1.property Z) G_hit)<|Q9 (gq Z)<|Q9 (A5 (S4 g2.2.2.2.2.2.2.1.1.property Z)<|A5 (S4 g2.2.2.2.2.2.2.1.1.property Z)<|A5 (P5 g2.2.2.2.2.2.2.1.1.property g2.2.2.2.2.1.1.property Z)<|A5 (S4 g2.2.2.2.2.2.2.1.1.property Z)<|A5 (S4 g2.2.2.2.2.2.2.1.1.property Z)<|A5 (P5 g2.2.2.2.2.2.2.1.1.property g2.1.1.property Z)<|A5 (P5 g2.2.2.2.2.2.2.1.1.property g2.2.2.1.1.property Z)<|A5 (P5 g2.2.2.2.2.2.2.1.1.property g2.2.2.2.2.1.1.property Z) G_hit) trivial))⟩
 refine B8<|sv Z<|sv Z<|A1<|cc Z hz3 (fun c8 hz3=> ?_)<|fun c8 hz3=> ?_
 refine A6 (s0:=⟨T [(4,(.ptr (4,u1) 0)),(7,(.ptr (7,u7) 0)),(9,(.ptr (9,u10) 0)),(27,(dl Bj p2.Edits)),(28,(di (p2.Edits.length:Int))),(29,(di x1.1))],G [((4,u1),some<|.box 27 [(di 0),(.d .nilS),(.d .nilS),(.d .nilS),(.d .nilS)]),((7,u7),some<|.box 27 [(di x1.2.Version),(oW g2.2.1 x1.2.Lanes (g2.1.1.val,g2.1.2)),(oW g2.2.2.2.1 x1.2.Zones (g2.2.2.1.1.val,g2.2.2.1.2)),(oW g2.2.2.2.2.2.1 x1.2.Signals (g2.2.2.2.2.1.1.val,g2.2.2.2.2.1.2)),(oW g2.2.2.2.2.2.2.2 x1.2.Works (g2.2.2.2.2.2.2.1.1.val,g2.2.2.2.2.2.2.1.2))]),((g2.1.1.val,g2.1.2),wB g2.2.1 42 5 G5 x1.2.Lanes),((g2.2.2.1.1.val,g2.2.2.1.2),wB g2.2.2.2.1 45 2 F0 x1.2.Zones),((g2.2.2.2.2.1.1.val,g2.2.2.2.2.1.2),wB g2.2.2.2.2.2.1 48 2 E2 x1.2.Signals),((g2.2.2.2.2.2.2.1.1.val,g2.2.2.2.2.2.2.1.2),wB g2.2.2.2.2.2.2.2 50 6 H8 x1.2.Works),((9,u10),some<|.box 52 (DB v3))]⟩) (D3 (Z5 Z)<|B7 G_hit (.of Z)<|sg Z<|Q9 (A5 (S4 g2.1.1.property Z)<|A5 (S4 g2.1.1.property Z) G_hit)<|Q9 (A5 (S4 g2.2.2.1.1.property Z)<|A5 (S4 g2.2.2.1.1.property Z)<|A5 (P5 g2.2.2.1.1.property g2.1.1.property Z) G_hit)<|Q9 (A5 (S4 g2.2.2.2.2.1.1.property Z)<|A5 (S4 g2.2.2.2.2.1.1.property Z)<|A5 (P5 g2.2.2.2.2.1.1.property g2.1.1.property Z)<|A5 (P5 g2.2.2.2.2.1.1.property g2.2.2.1.1.property Z) G_hit)<|Q9 (A5 (S4 g2.2.2.2.2.2.2.1.1.property Z)<|A5 (S4 g2.2.2.2.2.2.2.1.1.property Z)<|A5 (P5 g2.2.2.2.2.2.2.1.1.property g2.1.1.property Z)<|A5 (P5 g2.2.2.2.2.2.2.1.1.property g2.2.2.1.1.property Z)<|A5 (P5 g2.2.2.2.2.2.2.1.1.property g2.2.2.2.2.1.1.property Z) G_hit)<|B7 (RM 2 Z<|A5 (Iz g2.1.1.property Z)<|A5 (Iz g2.2.2.1.1.property Z)<|A5 (Iz g2.2.2.2.2.1.1.property Z)<|A5 (Iz g2.2.2.2.2.2.2.1.1.property Z) G_hit) (.of Z) trivial) ?_
 refine O8 fun u22 _=>sq Z<|B6 (oW g2.2.2.2.2.2.2.2 x1.2.Works (g2.2.2.2.2.2.2.1.1.val,g2.2.2.2.2.2.2.1.2)) Z (M1 Z (gq Z) Z) (sd Z (B4 Z (A5 Z<|A5 Z<|A5 (Iz g2.1.1.property Z)<|A5 (Iz g2.2.2.1.1.property Z)<|A5 (Iz g2.2.2.2.2.1.1.property Z)<|A5 (Iz g2.2.2.2.2.2.2.1.1.property Z) G_hit) Z Z)<|sq Z<|sd Z (B4 Z (A5 Z<|A5 Z<|A5 (Iz g2.1.1.property Z)<|A5 (Iz g2.2.2.1.1.property Z)<|A5 (Iz g2.2.2.2.2.1.1.property Z)<|A5 (Iz g2.2.2.2.2.2.2.1.1.property Z) G_hit) Z Z)<|bs hz3 fun v10 hv10 hz3=>HD (Vh (b:=g2.2.2.2.2.2.2.2) (x:=v3) (v:=v3.Work_) MG hv10 Z (A5 (S4 g2.2.2.2.2.2.2.1.1.property Z)<|A5 (S4 g2.2.2.2.2.2.2.1.1.property Z)<|A5 (P5 g2.2.2.2.2.2.2.1.1.property g2.1.1.property Z)<|A5 (P5 g2.2.2.2.2.2.2.1.1.property g2.2.2.1.1.property Z)<|A5 (P5 g2.2.2.2.2.2.2.1.1.property g2.2.2.2.2.1.1.property Z) G_hit))<|B6 (.tup _) Z Z (B6 (oW (wb g2.2.2.2.2.2.2.2 x1.2.Works) v10.1 (10220050,u22)) Z Z (sv Z<|sq Z<|Z4 _ _ _ _ _ (Ov _ _ _) Z Z (A5 Z<|A5 (Iz g2.2.2.2.2.2.2.1.1.property Z)<|gq Z) (nl Z) [(di x1.2.Version),(oW g2.2.1 x1.2.Lanes (g2.1.1.val,g2.1.2)),(oW g2.2.2.2.1 x1.2.Zones (g2.2.2.1.1.val,g2.2.2.1.2)),(oW g2.2.2.2.2.2.1 x1.2.Signals (g2.2.2.2.2.1.1.val,g2.2.2.2.2.1.2)),(oW (wb g2.2.2.2.2.2.2.2 x1.2.Works) v10.1 (10220050,u22))] Z (sv Z<|A1<|D7 ?_))))
 cases hz3
 exact Z9 ⟨_,((g2.1.1,g2.1.2),g2.2.1,(g2.2.2.1.1,g2.2.2.1.2),g2.2.2.2.1,(g2.2.2.2.2.1.1,g2.2.2.2.2.1.2),g2.2.2.2.2.2.1,(⟨10220050, .tail _ (.head _)⟩,u22),(wb g2.2.2.2.2.2.2.2 x1.2.Works)),Z,(D3 (Z5 Z)<|B7 (RM 2 Z<|A5 (Iz g2.2.2.2.2.2.2.1.1.property Z) G_hit) (.of Z) (B7 G_hit (.of Z)<|Q9 (A5 (S4 g2.1.1.property Z)<|A5 (S4 g2.1.1.property Z)<|A5 (P5 g2.1.1.property g2.2.2.2.2.2.2.1.1.property Z)<|A5 (S4 g2.1.1.property Z)<|A5 (S4 g2.1.1.property Z) G_hit)<|Q9 (A5 (S4 g2.2.2.1.1.property Z)<|A5 (S4 g2.2.2.1.1.property Z)<|A5 (P5 g2.2.2.1.1.property g2.2.2.2.2.2.2.1.1.property Z)<|A5 (S4 g2.2.2.1.1.property Z)<|A5 (S4 g2.2.2.1.1.property Z)<|A5 (P5 g2.2.2.1.1.property g2.1.1.property Z) G_hit)<|Q9 (A5 (S4 g2.2.2.2.2.1.1.property Z)<|A5 (S4 g2.2.2.2.2.1.1.property Z)<|A5 (P5 g2.2.2.2.2.1.1.property g2.2.2.2.2.2.2.1.1.property Z)<|A5 (S4 g2.2.2.2.2.1.1.property Z)<|A5 (S4 g2.2.2.2.2.1.1.property Z)<|A5 (P5 g2.2.2.2.2.1.1.property g2.1.1.property Z)<|A5 (P5 g2.2.2.2.2.1.1.property g2.2.2.1.1.property Z) G_hit)<|Q9 (gq Z) trivial))⟩
 refine A4<|A6 (s0:=⟨T [(4,(.ptr _ _))],G [((4,u1),some<|.box 27 _)]⟩) (D9 Z Z) ?_
 refine B5<|sv Z<|U1 Z G_hit [(di 0),(.d .nilS),(.d .nilS),(.d .nilS),(.d .nilS)] Z (sv Z<|A1<|B2 ?_)
 cases hz3
 rw [bI]at hz2
 cases hz2
 obtain rfl:=ez2 _ rfl
 refine ⟨nofun,E1 ?_⟩
 rw [bI]at h
 cases h
 exact A8 (.inr Z) (Ha (E7 Z G_hit (nl Z) Z) (B0 Z) C2 C2) (.tup (.cons (.agg (ca Z<|.cons ⟨DLe.nil,Z⟩ (.cons ⟨DLe.nil,Z⟩ (.cons ⟨DLe.nil,Z⟩ (.cons ⟨DLe.nil,Z⟩ .nil))))) A3))
 rintro _ ⟨y2,g3,rfl,q1⟩
 rw [bH]at hz2
 refine A6 q1<|B8<|sv Z<|B6 (.d (bo (!y2.1))) Z Z (A1<|cc Z hz2 (fun c9 hz2=> ?_)<|fun c9 hz2=> ?_)
 refine B8<|sv Z<|U1 Z G_hit [(di 0),(.d .nilS),(.d .nilS),(.d .nilS),(.d .nilS)] Z (sv Z<|A1<|B2 ?_)
 cases hz2
 obtain rfl:=ez2 _ rfl
 refine ⟨nofun,E1 ?_⟩
 rw [bI]at h
 cases h
 exact A8 (.inr Z) (Ha (E7 Z G_hit (nl Z) Z) (B0 Z) C2 C2) (.tup (.cons (.agg (ca Z<|.cons ⟨DLe.nil,Z⟩ (.cons ⟨DLe.nil,Z⟩ (.cons ⟨DLe.nil,Z⟩ (.cons ⟨DLe.nil,Z⟩ .nil))))) A3))
 refine B1<|D7<|B5<|sv Z<|sv Z<|A1<|F8 ?_
 cases hz2
 exact ⟨Z,((g3.1.1,g3.1.2),g3.2.1,(g3.2.2.1.1,g3.2.2.1.2),g3.2.2.2.1,(g3.2.2.2.2.1.1,g3.2.2.2.2.1.2),g3.2.2.2.2.2.1,(g3.2.2.2.2.2.2.1.1,g3.2.2.2.2.2.2.1.2),g3.2.2.2.2.2.2.2),(D3 (Z5 Z)<|B7 G_hit (.of Z)<|sg Z<|Q9 (A5 (S4 g3.1.1.property Z)<|A5 (S4 g3.1.1.property Z) G_hit)<|Q9 (A5 (S4 g3.2.2.1.1.property Z)<|A5 (S4 g3.2.2.1.1.property Z)<|A5 (P5 g3.2.2.1.1.property g3.1.1.property Z) G_hit)<|Q9 (A5 (S4 g3.2.2.2.2.1.1.property Z)<|A5 (S4 g3.2.2.2.2.1.1.property Z)<|A5 (P5 g3.2.2.2.2.1.1.property g3.1.1.property Z)<|A5 (P5 g3.2.2.2.2.1.1.property g3.2.2.1.1.property Z) G_hit)<|Q9 (A5 (S4 g3.2.2.2.2.2.2.1.1.property Z)<|A5 (S4 g3.2.2.2.2.2.2.1.1.property Z)<|A5 (P5 g3.2.2.2.2.2.2.1.1.property g3.1.1.property Z)<|A5 (P5 g3.2.2.2.2.2.2.1.1.property g3.2.2.1.1.property Z)<|A5 (P5 g3.2.2.2.2.2.2.1.1.property g3.2.2.2.2.1.1.property Z) G_hit) trivial)⟩
 refine D2 Z ?_
 cases hz2
 obtain rfl:=ez2 _ rfl
 refine ⟨nofun,C9 Z<|Z9 ?_⟩
 exact ⟨_,((g2.1.1,g2.1.2),g2.2.1,(g2.2.2.1.1,g2.2.2.1.2),g2.2.2.2.1,(g2.2.2.2.2.1.1,g2.2.2.2.2.1.2),g2.2.2.2.2.2.1,(g2.2.2.2.2.2.2.1.1,g2.2.2.2.2.2.2.1.2),g2.2.2.2.2.2.2.2),Z,(D3 (Z5 Z)<|B7 G_hit (.of Z)<|sg Z<|Q9 (A5 (S4 g2.1.1.property Z)<|A5 (S4 g2.1.1.property Z) G_hit)<|Q9 (A5 (S4 g2.2.2.1.1.property Z)<|A5 (S4 g2.2.2.1.1.property Z)<|A5 (P5 g2.2.2.1.1.property g2.1.1.property Z) G_hit)<|Q9 (A5 (S4 g2.2.2.2.2.1.1.property Z)<|A5 (S4 g2.2.2.2.2.1.1.property Z)<|A5 (P5 g2.2.2.2.2.1.1.property g2.1.1.property Z)<|A5 (P5 g2.2.2.2.2.1.1.property g2.2.2.1.1.property Z) G_hit)<|Q9 (A5 (S4 g2.2.2.2.2.2.2.1.1.property Z)<|A5 (S4 g2.2.2.2.2.2.2.1.1.property Z)<|A5 (P5 g2.2.2.2.2.2.2.1.1.property g2.1.1.property Z)<|A5 (P5 g2.2.2.2.2.2.2.1.1.property g2.2.2.1.1.property Z)<|A5 (P5 g2.2.2.2.2.2.2.1.1.property g2.2.2.2.2.1.1.property Z) G_hit) trivial)⟩
 rintro _ ⟨y1,g1,rfl,q2⟩
 rw [bH]at h
 refine A6 q2<|A4<|B8<|sq Z<|sl Z (gq Z) Z (sv Z<|A1<|cc Z h (fun c10 h=> ?_)<|fun c10 h=> ?_)
 refine B8<|sv Z<|U1 Z G_hit [(di 0),(.d .nilS),(.d .nilS),(.d .nilS),(.d .nilS)] Z (sv Z<|A1<|B2 ?_)
 cases h
 exact A8 (.inr Z) (Ha (E7 Z G_hit (nl Z) Z) (B0 Z) C2 C2) (.tup (.cons (.agg (ca Z<|.cons ⟨DLe.nil,Z⟩ (.cons ⟨DLe.nil,Z⟩ (.cons ⟨DLe.nil,Z⟩ (.cons ⟨DLe.nil,Z⟩ .nil))))) A3))
 refine B1<|B8<|sq Z<|sl Z (gq Z) Z (sv Z<|sq Z<|U1 Z (gq Z) [(di<|J3 (y1.Version+1)),(oW g1.2.1 y1.Lanes (g1.1.1.val,g1.1.2)),(oW g1.2.2.2.1 y1.Zones (g1.2.2.1.1.val,g1.2.2.1.2)),(oW g1.2.2.2.2.2.1 y1.Signals (g1.2.2.2.2.1.1.val,g1.2.2.2.2.1.2)),(oW g1.2.2.2.2.2.2.2 y1.Works (g1.2.2.2.2.2.2.1.1.val,g1.2.2.2.2.2.2.1.2))] Z (A1<|A4<|B8<|B6 (W7 [(di<|J3 (y1.Version+1)),(oW g1.2.1 y1.Lanes (g1.1.1.val,g1.1.2)),(oW g1.2.2.2.1 y1.Zones (g1.2.2.1.1.val,g1.2.2.1.2)),(oW g1.2.2.2.2.2.1 y1.Signals (g1.2.2.2.2.1.1.val,g1.2.2.2.2.1.2)),(oW g1.2.2.2.2.2.2.2 y1.Works (g1.2.2.2.2.2.2.1.1.val,g1.2.2.2.2.2.2.1.2))]) Z (B4 Z G_hit Z Z) (bs h fun _ hv11 h=>C0 Z (H3 (Gj<|rD<|H3 (Ub<|A5 (S4 g1.1.1.property Z)<|A5 (S4 g1.1.1.property Z)<|A5 (S4 g1.1.1.property Z) G_hit)<|H3 (Ub<|A5 (S4 g1.2.2.1.1.property Z)<|A5 (S4 g1.2.2.1.1.property Z)<|A5 (S4 g1.2.2.1.1.property Z)<|A5 (P5 g1.2.2.1.1.property g1.1.1.property Z) G_hit)<|H3 (Ub<|A5 (S4 g1.2.2.2.2.1.1.property Z)<|A5 (S4 g1.2.2.2.2.1.1.property Z)<|A5 (S4 g1.2.2.2.2.1.1.property Z)<|A5 (P5 g1.2.2.2.2.1.1.property g1.1.1.property Z)<|A5 (P5 g1.2.2.2.2.1.1.property g1.2.2.1.1.property Z) G_hit)<|H3 (Ub<|A5 (S4 g1.2.2.2.2.2.2.1.1.property Z)<|A5 (S4 g1.2.2.2.2.2.2.1.1.property Z)<|A5 (S4 g1.2.2.2.2.2.2.1.1.property Z)<|A5 (P5 g1.2.2.2.2.2.2.1.1.property g1.1.1.property Z)<|A5 (P5 g1.2.2.2.2.2.2.1.1.property g1.2.2.1.1.property Z)<|A5 (P5 g1.2.2.2.2.2.2.1.1.property g1.2.2.2.2.1.1.property Z) G_hit) I6) I6) (.cons (.agg (ca Z<|.cons ⟨Ua,Z⟩ (.cons ⟨Ua,Z⟩ (.cons ⟨Ua,Z⟩ (.cons ⟨Ua,Z⟩ .nil))))) .nil) (Bq _ _ hv11) (.inr Z) (sv Z<|A1<|B8<|sv Z<|sv Z<|A1<|cc Z h (fun c11 h=> ?_)<|fun c11 h=> ?_))))
 refine B8<|sv Z<|sv Z<|U1 Z (gq Z) [(di 0),(.d .nilS),(.d .nilS),(.d .nilS),(.d .nilS)] Z (sv Z<|A1<|B2 ?_)
 cases h
 exact A8 (.inr Z) (Ha (E7 Z G_hit (nl Z) Z) (B0 Z) C2 C2) (.tup (.cons (.agg (ca Z<|.cons ⟨DLe.nil,Z⟩ (.cons ⟨DLe.nil,Z⟩ (.cons ⟨DLe.nil,Z⟩ (.cons ⟨DLe.nil,Z⟩ .nil))))) A3))
 refine B1<|B8<|B6 (W7 [(di<|J3 (y1.Version+1)),(oW g1.2.1 y1.Lanes (g1.1.1.val,g1.1.2)),(oW g1.2.2.2.1 y1.Zones (g1.2.2.1.1.val,g1.2.2.1.2)),(oW g1.2.2.2.2.2.1 y1.Signals (g1.2.2.2.2.1.1.val,g1.2.2.2.2.1.2)),(oW g1.2.2.2.2.2.2.2 y1.Works (g1.2.2.2.2.2.2.1.1.val,g1.2.2.2.2.2.2.1.2))]) Z (B4 Z G_hit Z Z) (Z4 _ _ _ _ _ (S9 _) Z Z (gq Z) (nl Z) [(di<|J3 (y1.Version+1)),(oW g1.2.1 y1.Lanes (g1.1.1.val,g1.1.2)),(oW g1.2.2.2.1 y1.Zones (g1.2.2.1.1.val,g1.2.2.1.2)),(oW g1.2.2.2.2.2.1 y1.Signals (g1.2.2.2.2.1.1.val,g1.2.2.2.2.1.2)),(oW g1.2.2.2.2.2.2.2 y1.Works (g1.2.2.2.2.2.2.1.1.val,g1.2.2.2.2.2.2.1.2))] Z (sv Z<|A1<|B2 ?_))
 cases h
 exact A8 (.inr Z) (Ha (E7 Z G_hit (nl Z) Z) (B0 Z) (Gj<|rD<|H3 (Ub<|A5 (S4 g1.1.1.property Z)<|A5 (S4 g1.1.1.property Z)<|A5 (S4 g1.1.1.property Z)<|A5 (S4 g1.1.1.property Z) G_hit)<|H3 (Ub<|A5 (S4 g1.2.2.1.1.property Z)<|A5 (S4 g1.2.2.1.1.property Z)<|A5 (S4 g1.2.2.1.1.property Z)<|A5 (S4 g1.2.2.1.1.property Z)<|A5 (P5 g1.2.2.1.1.property g1.1.1.property Z) G_hit)<|H3 (Ub<|A5 (S4 g1.2.2.2.2.1.1.property Z)<|A5 (S4 g1.2.2.2.2.1.1.property Z)<|A5 (S4 g1.2.2.2.2.1.1.property Z)<|A5 (S4 g1.2.2.2.2.1.1.property Z)<|A5 (P5 g1.2.2.2.2.1.1.property g1.1.1.property Z)<|A5 (P5 g1.2.2.2.2.1.1.property g1.2.2.1.1.property Z) G_hit)<|H3 (Ub<|A5 (S4 g1.2.2.2.2.2.2.1.1.property Z)<|A5 (S4 g1.2.2.2.2.2.2.1.1.property Z)<|A5 (S4 g1.2.2.2.2.2.2.1.1.property Z)<|A5 (S4 g1.2.2.2.2.2.2.1.1.property Z)<|A5 (P5 g1.2.2.2.2.2.2.1.1.property g1.1.1.property Z)<|A5 (P5 g1.2.2.2.2.2.2.1.1.property g1.2.2.1.1.property Z)<|A5 (P5 g1.2.2.2.2.2.2.1.1.property g1.2.2.2.2.1.1.property Z) G_hit) I6) C2) (.tup (.cons (.agg (ca Z<|.cons ⟨Ua,Z⟩ (.cons ⟨Ua,Z⟩ (.cons ⟨Ua,Z⟩ (.cons ⟨Ua,Z⟩ .nil))))) A3))
def Y1 (p1:Int)(p2:Int)(p3:Int):Option Bool:=
  some ((decide (p1≥p2))&& (decide (p1≤p3)))
theorem Am(p1 p2 p3 r)(h:Y1 p1 p2 p3=some r):PCall prog 71 [(i64 p1),(i64 p2),(i64 p3)] (bo r):=by
 refine C4 (fk func71 ntmps71 m0 (by with_unfolding_all rfl)) (nl Z) ?_
 unfold Y1 at h
 refine A6 (s0:=⟨T [(0,(.d _)),(1,(.d _)),(2,(.d _))],G []⟩) (D9 Z Z) ?_
 refine B8<|sv Z<|A1<|B8<|sv Z<|sv Z<|sv Z<|sv Z<|gt Z (fun _=>Z)<|gt Z (fun _=>Z)<|gt Z (fun w3=>(H5 (A2 w3) (A2 w3) Z))<|sa Z Z Z<|sv Z<|A1<|B2 ?_
 cases h
 exact A8 (.inr Z) (B9 (B0 Z) C2) (.refl _)
def If (p1:Spot):Option Bool:=
  some ((((decide (p1.X≥(-16777216)))&& (decide (p1.X≤16777216)))&& (decide (p1.Y≥(-16777216))))&& (decide (p1.Y≤16777216)))
theorem Xe(p1 r)(h:If p1=some r):PCall prog 238 [(.agg [(i64 p1.X),(i64 p1.Y)])] (bo r):=by
 refine C4 (fk func238 ntmps238 m0 (by with_unfolding_all rfl)) (nl Z) ?_
 unfold If at h
 refine A6 (s0:=⟨T [(0,(.d _))],G []⟩) (D9 Z Z) ?_
 refine B8<|sm Z<|sv Z<|A1<|B8<|sq Z<|sl Z G_hit Z<|sv Z<|sv Z<|gp Z (I9 Z) (fun _=>Z) (gt Z (vl Z G_hit Z)<|gt Z (vb Z Z Z)<|sa Z Z Z<|sv Z<|gp Z (I9 Z) (fun _=>Z) (gt Z (vl Z G_hit Z)<|gt Z (vb Z Z Z)<|sa Z Z Z<|sv Z<|gp Z (I9 Z) (fun _=>Z) (gt Z (vl Z G_hit Z)<|gt Z (vb Z Z Z)<|sa Z Z Z<|sv Z<|A1<|B2 ?_)))
 cases h
 exact A8 (.inr Z) (B9 (B0 Z) C2) (.refl _)
def Ed (p1:Spot)(p2:Spot):Option Spot:=
  some (Spot.mk (J3 (p1.X - p2.X)) (J3 (p1.Y - p2.Y)))
theorem Jx(p1 p2 r)(h:Ed p1 p2=some r):PCall prog 239 [(.agg [(i64 p1.X),(i64 p1.Y)]),(.agg [(i64 p2.X),(i64 p2.Y)])] (.agg [(i64 r.X),(i64 r.Y)]):=by
 refine C4 (fk func239 ntmps239 m0 (by with_unfolding_all rfl)) (nl Z) ?_
 unfold Ed at h
 refine A6 (s0:=⟨T [(0,(.d _)),(1,(.d _))],G []⟩) (D9 Z Z) ?_
 refine B8<|sm Z<|sn Z Z<|sm Z<|A1<|B8<|sq Z<|sl Z (gq Z) Z (sq Z<|sl Z (gq Z) Z (sv Z<|sq Z<|sl Z (gq Z) Z (sq Z<|sl Z (gq Z) Z (sv Z<|sv Z<|U1 Z G_hit [(di<|J3 (p1.X - p2.X)),(di<|J3 (p1.Y - p2.Y))] Z (A1<|B2 ?_)))))
 cases h
 exact A8 (.inr Z) (B9 (E7 Z G_hit (nl Z) Z) C2) (.refl _)
def Fz (p1:Spot)(p2:Spot):Option Int:=
  some (J3 ((J3 (p1.X*p2.X))+ (J3 (p1.Y*p2.Y))))
theorem Iv(p1 p2 r)(h:Fz p1 p2=some r):PCall prog 241 [(.agg [(i64 p1.X),(i64 p1.Y)]),(.agg [(i64 p2.X),(i64 p2.Y)])] (i64 r):=by
 refine C4 (fk func241 ntmps241 m0 (by with_unfolding_all rfl)) (nl Z) ?_
 unfold Fz at h
 refine A6 (s0:=⟨T [(0,(.d _)),(1,(.d _))],G []⟩) (D9 Z Z) ?_
 refine B8<|sm Z<|sn Z Z<|sv Z<|A1<|B8<|sq Z<|sl Z (gq Z) Z (sq Z<|sl Z G_hit Z<|sv Z<|sq Z<|sl Z (gq Z) Z (sq Z<|sl Z G_hit Z<|sv Z<|sv Z<|sv Z<|A1<|B2 ?_))
 cases h
 exact A8 (.inr Z) (B9 (B0 Z) C2) (.refl _)
def Fg (p1:Int)(x1:(Int×Int)):Option (Stp (Int×Int) Int):=
  cond (decide (x1.2>0)) (cond (decide ((J3 ((J3 (x1.1+x1.2))* (J3 (x1.1+x1.2))))≤p1)) (some (.go ((J3 (x1.1+x1.2)),(J3 (x1.2.tdiv 2))))) (some (.go (x1.1,(J3 (x1.2.tdiv 2)))))) (some (.out x1.1))
def Ee [Lp](p1:Int):Option Int:=
  (loop (Fg p1) (0,67108864)).bind fun y1=>some y1
theorem Po(p1 r)(h:Ee p1=some r):PCall prog 240 [(i64 p1)] (i64 r):=by
 refine C4 (fk func240 ntmps240 m0 (by with_unfolding_all rfl)) (nl Z) ?_
 unfold Ee at h
 refine A6 (s0:=⟨T [(0,(.d _))],G []⟩) (D9 Z Z) ?_
 refine B8<|sv Z<|A1<|B8<|sv Z<|A1<|A4<|B8<|sv Z<|A1<|bs h fun y1 hy1 h=>E4 (fun s=> ∃g1:Unit,Sb ⟨T [(3,(di y1))],G []⟩ s) ?_ ?_
 refine A7<|E5 (Fg p1) (fun (x1:(Int×Int)) (g2:Unit)=>⟨T [(0,(di p1)),(3,(di x1.1)),(4,(di x1.2))],G []⟩) (0,67108864) () _ hy1 (D9 Z Z) ?_
 intro x1 g2 z1 hz1 ez1
 unfold Fg at hz1
 refine A4<|B8<|sv Z<|sv Z<|A1<|cc Z hz1 (fun c1 hz1=> ?_)<|fun c1 hz1=> ?_
 refine B1<|A4<|A7<|B8<|sv Z<|sv Z<|sv Z<|sv Z<|sv Z<|sv Z<|sv Z<|sv Z<|sv Z<|A1<|cc Z hz1 (fun c2 hz1=> ?_)<|fun c2 hz1=> ?_
 refine B5<|sv Z<|sv Z<|sv Z<|sv Z<|A1<|D7<|B5<|sv Z<|sv Z<|sv Z<|A1<|F8 ?_
 cases hz1
 exact ⟨Z,(),(D9 Z Z)⟩
 refine B1<|D7<|B5<|sv Z<|sv Z<|sv Z<|A1<|F8 ?_
 cases hz1
 exact ⟨Z,(),(D9 Z Z)⟩
 refine D2 Z ?_
 cases hz1
 obtain rfl:=ez1 _ rfl
 refine ⟨nofun,C9 Z<|Z9 ?_⟩
 exact ⟨(),(D9 Z Z)⟩
 rintro _ ⟨g1,q1⟩
 refine A6 q1<|B8<|sv Z<|sv Z<|A1<|B2 ?_
 cases h
 exact A8 (.inr Z) (B9 (B0 Z) C2) (.refl _)
def Z0 [Lp](p1:Curve)(x2:Int):Option (Stp Int (Sum Unit Int)):=
  cond (decide ((J3 (x2+1))< (p1.Pts.length:Int))) ((E6 p1.Pts (J3 (x2+1))).bind fun v3=>(E6 p1.Pts x2).bind fun v4=>(Ed v3 v4).bind fun v5=>(Fz v5 v5).bind fun v6=>(Ee v6).bind fun v7=>(Fz v5 v5).bind fun v8=>cond ((J3 (v7*v7)) !=v8) (some (.out (.inr 3))) (cond ((decide (v7<1000))||(decide (v7>1048576))) (some (.out (.inr 2))) (((cond (decide (x2>0)) (E6 p1.Pts x2) (some default))).bind fun v9=>((cond (decide (x2>0)) (E6 p1.Pts (J3 (x2 - 1))) (some default))).bind fun v10=>((cond (decide (x2>0)) (Ed v9 v10) (some default))).bind fun v11=>((cond (decide (x2>0)) (Fz v5 v11) (some default))).bind fun v12=>cond ((decide (x2>0))&& (decide (v12≤0))) (some (.out (.inr 12))) (some (.go (J3 (x2+1))))))) (some (.out (.inl ())))
def Z1 (p1:Curve)(x1:Int):Option (Stp Int (Sum Unit Int)):=
  cond (decide (x1< (p1.Pts.length:Int))) ((E6 p1.Pts x1).bind fun v1=>(If v1).bind fun v2=>cond (!v2) (some (.out (.inr 2))) (some (.go (J3 (x1+1))))) (some (.out (.inl ())))
def Ga [Lp](p1:Curve):Option Int:=
  cond (decide ((p1.Pts.length:Int)<2)) (some 6) (cond (decide ((p1.Pts.length:Int)>16)) (some 5) (thenS (loop (Z1 p1) 0) (fun _=>thenS (loop (Z0 p1) 0) (fun _=>some 0) (fun r=>some r)) (fun r=>some r)))
theorem Ob(p1 r)(h:Ga p1=some r):PCall prog 175 [(.agg [(.list (List.map J6 p1.Pts))])] (i64 r):=by
 refine C4 (fk func175 ntmps175 m0 (by with_unfolding_all rfl)) (nl Z) ?_
 unfold Ga at h
 refine A6 (s0:=⟨T [(0,(.d _))],G []⟩) (D9 Z Z) ?_
 refine lr<|fun u1 _=>sm Z<|sv Z<|A1<|A4<|B8<|sq Z<|sl Z G_hit Z<|sd Z (C3 Z)<|sv Z<|A1<|cc Z h (fun c1 h=> ?_)<|fun c1 h=> ?_
 refine B8<|sv Z<|A1<|B2 ?_
 cases h
 exact A8 (.inr Z) (B9 (B0 Z) C2) (.refl _)
 refine B1<|A4<|B8<|sq Z<|sl Z G_hit Z<|sd Z (C3 Z)<|sv Z<|A1<|cc Z h (fun c2 h=> ?_)<|fun c2 h=> ?_
 refine B8<|sv Z<|A1<|B2 ?_
 cases h
 exact A8 (.inr Z) (B9 (B0 Z) C2) (.refl _)
 refine B1<|A4<|B8<|sv Z<|A1<|js h fun z1 hz1 h=>E4 (fun s=> ∃(y1:Unit) (g1:Unit),z1= .inl y1∧Sb ⟨T [(1,(.ptr (1,u1) 0))],G [((1,u1),some<|.box 39 [(dl J6 p1.Pts)])]⟩ s) ?_ ?_
 refine A7<|E5 (Z1 p1) (fun (x1:Int) (g2:Unit)=>⟨T [(1,(.ptr (1,u1) 0)),(3,(di x1))],G [((1,u1),some<|.box 39 [(dl J6 p1.Pts)])]⟩) 0 () _ hz1 (D9 Z Z) ?_
 intro x1 g2 z2 hz2 ez2
 unfold Z1 at hz2
 refine A4<|B8<|sv Z<|sq Z<|sl Z G_hit Z<|sd Z (C3 Z)<|sv Z<|A1<|cc Z hz2 (fun c3 hz2=> ?_)<|fun c3 hz2=> ?_
 refine B1<|A4<|A7<|B8<|sq Z<|sl Z G_hit Z<|sv Z<|bs hz2 fun _ hv1 hz2=>sd Z (D8 Z Z hv1 Z)<|sd Z (D1 Z hv1 Z Z)<|bs hz2 fun v2 hv2 hz2=>C0 Z Z A3 (Xe _ _ hv2) (.inl Z) (B6 (.d (bo (!v2))) Z Z (A1<|cc Z hz2 (fun c4 hz2=> ?_)<|fun c4 hz2=> ?_))
 refine B8<|sv Z<|A1<|B2 ?_
 cases hz2
 obtain rfl:=ez2 _ rfl
 refine ⟨nofun,E1 ?_⟩
 rw [bI]at h
 cases h
 exact A8 (.inr Z) (B9 (B0 Z) C2) (.refl _)
 refine B1<|D7<|B5<|sv Z<|sv Z<|sv Z<|A1<|F8 ?_
 cases hz2
 exact ⟨Z,(),(D9 Z Z)⟩
 refine D2 Z ?_
 cases hz2
 obtain rfl:=ez2 _ rfl
 refine ⟨nofun,C9 Z<|Z9 ?_⟩
 exact ⟨_,(),Z,(D9 Z Z)⟩
 rintro _ ⟨y1,g1,rfl,q1⟩
 rw [bH]at h
 refine A6 q1<|A4<|B8<|sv Z<|A1<|js h fun z3 hz3 h=>E4 (fun s=> ∃(y2:Unit) (g3:Unit),z3= .inl y2∧Sb ⟨T [],G []⟩ s) ?_ ?_
 refine A7<|E5 (Z0 p1) (fun (x2:Int) (g4:Unit)=>⟨T [(1,(.ptr (1,u1) 0)),(4,(di x2))],G [((1,u1),some<|.box 39 [(dl J6 p1.Pts)])]⟩) 0 () _ hz3 (D9 Z Z) ?_
 intro x2 g4 z4 hz4 ez4
 unfold Z0 at hz4
 refine A4<|B8<|sv Z<|sv Z<|sq Z<|sl Z G_hit Z<|sd Z (C3 Z)<|sv Z<|A1<|cc Z hz4 (fun c5 hz4=> ?_)<|fun c5 hz4=> ?_
 refine B1<|A4<|A7<|A4<|Hf Z fun u13 _=>sq Z<|sl Z G_hit Z<|sv Z<|sv Z<|bs hz4 fun _ hv3 hz4=>sd Z (D8 Z Z hv3 Z)<|sd Z (D1 Z hv3 Z Z)<|sq Z<|sl Z G_hit Z<|sv Z<|bs hz4 fun _ hv4 hz4=>sd Z (D8 Z Z hv4 Z)<|sd Z (D1 Z hv4 Z Z)<|bs hz4 fun v5 hv5 hz4=>C0 Z Z A3 (Jx _ _ _ hv5) (.inl Z) (sm Z<|U1 Z G_hit [(di v5.X),(di v5.Y)] Z (A1<|A4<|A6 (s0:=⟨T [(1,(.ptr _ _)),(4,(.d _)),(5,(.ptr _ _))],G [((1,u1),some<|.box 39 _),((5,u13),some<|.box 148 _)]⟩) (D9 Z Z) ?_))
 refine B5<|sd Z (B4 Z (gq Z) Z Z)<|sd Z (B4 Z (gq Z) Z Z)<|bs hz4 fun _ hv6 hz4=>C0 Z Z A3 (Iv _ _ _ hv6) (.inl Z) (bs hz4 fun _ hv7 hz4=>C0 Z Z A3 (Po _ _ hv7) (.inl Z) (sv Z<|A1<|A4<|B8<|sv Z<|sv Z<|sv Z<|sd Z (B4 Z (gq Z) Z Z)<|sd Z (B4 Z (gq Z) Z Z)<|bs hz4 fun _ hv8 hz4=>C0 Z Z A3 (Iv _ _ _ hv8) (.inl Z) (sv Z<|A1<|cc Z hz4 (fun c6 hz4=> ?_)<|fun c6 hz4=> ?_)))
 refine B8<|sv Z<|A1<|B2 ?_
 cases hz4
 obtain rfl:=ez4 _ rfl
 refine ⟨nofun,E1 ?_⟩
 rw [bI]at h
 cases h
 exact A8 (.inr Z) (B9 (B0 Z) C2) (.refl _)
 refine B1<|A4<|B8<|sv Z<|sv Z<|sv Z<|gf Z (fun _=>Z)<|gf Z (vb Z Z Z)<|sd Z (R4 Z Z<|fun hc=>A2<|K9 hc)<|A1<|cc Z hz4 (fun c7 hz4=> ?_)<|fun c7 hz4=> ?_
 refine A4<|A6 (s0:=⟨T [],G []⟩) (D9 Z Z) ?_
 refine B5<|sv Z<|A1<|B2 ?_
 cases hz4
 obtain rfl:=ez4 _ rfl
 refine ⟨nofun,E1 ?_⟩
 rw [bI]at h
 cases h
 exact A8 (.inr Z) (B9 (B0 Z) C2) (.refl _)
 refine B1<|A4<|A6 (s0:=⟨T [(1,(.ptr _ _)),(4,(.d _)),(5,(.ptr _ _))],G [((1,u1),some<|.box 39 _),((5,u13),some<|.box 148 _)]⟩) (D9 Z Z) ?_
 refine N2 Z<|sv Z<|sv Z<|sv Z<|gt Z (fun _=>(B4 Z (gq Z) Z Z))<|gp Z (I9 Z) (fun _=>Z) (gt Z (vl Z G_hit Z)<|gt Z (fun _=>Z)<|bs hz4 fun v9 hv9 hz4=>gt Z (fun w7=>(D8 (A2 w7) (A2 w7) (G7 w7 hv9) Z))<|gt Z (fun w8=>(D1 (A2 w8) (G7 w8 hv9) Z Z))<|gp Z (I9 Z) (fun _=>Z) (gt Z (vl Z G_hit Z)<|gt Z (fun _=>Z)<|gt Z (vb Z Z Z)<|bs hz4 fun v10 hv10 hz4=>gt Z (fun w13=>(D8 (A2 w13) (A2 w13) (G7 w13 hv10) Z))<|gt Z (fun w14=>(D1 (A2 w14) (G7 w14 hv10) Z Z))<|bs hz4 fun v11 hv11 hz4=> ?_))
 refine O7 _ (.agg [(i64 v11.X),(i64 v11.Y)]) (I9 Z) (fun w15=>⟨_,[(.d (.agg [(i64 v9.X),(i64 v9.Y)])),(.d (.agg [(i64 v10.X),(i64 v10.Y)]))],_,_,(by simp only [A2 w15];rfl),Z,A3,Jx _ _ _<|G7 w15 hv11,(.inl Z)⟩) ?_
 refine bs hz4 fun v12 hv12 hz4=> ?_
 refine O7 _ (i64 v12) (I9 Z) (fun w16=>⟨_,[(.d (.agg [(i64 v5.X),(i64 v5.Y)])),(.d (.agg [(i64 v11.X),(i64 v11.Y)]))],_,_,(by simp only [A2 w16];rfl),Z,A3,Iv _ _ _<|G7 w16 hv12,(.inl Z)⟩) ?_
 refine gt Z (vb Z Z Z)<|sa Z Z Z<|A1<|cc Z hz4 (fun c8 hz4=> ?_)<|fun c8 hz4=> ?_
 refine A4<|A6 (s0:=⟨T [],G []⟩) (D9 Z Z) ?_
 refine B5<|sv Z<|A1<|B2 ?_
 cases hz4
 obtain rfl:=ez4 _ rfl
 refine ⟨nofun,E1 ?_⟩
 rw [bI]at h
 cases h
 exact A8 (.inr Z) (B9 (B0 Z) C2) (.refl _)
 refine B1<|D7<|A6 (s0:=⟨T [(1,(.ptr _ _)),(4,(.d _))],G [((1,u1),some<|.box 39 _)]⟩) (D9 Z Z) ?_
 refine B5<|sv Z<|sv Z<|sv Z<|A1<|F8 ?_
 cases hz4
 exact ⟨Z,(),(D9 Z Z)⟩
 refine D2 Z ?_
 cases hz4
 obtain rfl:=ez4 _ rfl
 refine ⟨nofun,C9 Z<|Z9 ?_⟩
 exact ⟨_,(),Z,(D9 Z Z)⟩
 rintro _ ⟨y2,g3,rfl,q2⟩
 rw [bH]at h
 refine A6 q2<|B8<|sv Z<|A1<|B2 ?_
 cases h
 exact A8 (.inr Z) (B9 (B0 Z) C2) (.refl _)
def Es (p1:Int):Option (Int×Int×Int):=
  cond (p1==1) (some (2000,30,90)) (cond (p1==2) (some (1000,20,60)) (cond (p1==3) (some (300,100,300)) (some (0,0,0))))
theorem Mq(p1 r)(h:Es p1=some r):PCall prog 176 [(i64 p1)] (.tup [(i64 r.1),(i64 r.2.1),(i64 r.2.2)]):=by
 refine C4 (fk func176 ntmps176 m0 (by with_unfolding_all rfl)) (nl Z) ?_
 unfold Es at h
 refine A6 (s0:=⟨T [(0,(.d _))],G []⟩) (D9 Z Z) ?_
 refine B8<|sv Z<|sv Z<|sv Z<|A1<|A4<|B8<|sv Z<|A1<|A7<|B8<|sv Z<|sv Z<|A1<|cc Z h (fun c1 h=> ?_)<|fun c1 h=> ?_
 refine B8<|sv Z<|sv Z<|sv Z<|A1<|B2 ?_
 cases h
 exact A8 (.inr Z) (Tx (B0 Z) (B0 Z) (B0 Z) C2 C2 C2) (.refl _)
 refine B8<|sv Z<|sv Z<|A1<|cc Z h (fun c2 h=> ?_)<|fun c2 h=> ?_
 refine B8<|sv Z<|sv Z<|sv Z<|A1<|B2 ?_
 cases h
 exact A8 (.inr Z) (Tx (B0 Z) (B0 Z) (B0 Z) C2 C2 C2) (.refl _)
 refine B8<|sv Z<|sv Z<|A1<|cc Z h (fun c3 h=> ?_)<|fun c3 h=> ?_
 refine B8<|sv Z<|sv Z<|sv Z<|A1<|B2 ?_
 cases h
 exact A8 (.inr Z) (Tx (B0 Z) (B0 Z) (B0 Z) C2 C2 C2) (.refl _)
 refine B1<|D7<|B8<|sv Z<|sv Z<|sv Z<|A1<|B2 ?_
 cases h
 exact A8 (.inr Z) (Tx (B0 Z) (B0 Z) (B0 Z) C2 C2 C2) (.refl _)
def V1 (p1:(List Int))(p2:Int)(p3:Int)(x1:Int):Option (Stp Int (Sum Unit Bool)):=
  cond (decide (x1< (p1.length:Int))) ((E6 p1 x1).bind fun v1=>((cond (!(decide (v1<p2))) (E6 p1 x1) (some default))).bind fun v2=>((cond ((!((decide (v1<p2))||(decide (v2≥p3))))&& (decide (x1>0))) (E6 p1 x1) (some default))).bind fun v3=>((cond ((!((decide (v1<p2))||(decide (v2≥p3))))&& (decide (x1>0))) (E6 p1 (J3 (x1 - 1))) (some default))).bind fun v4=>cond (((decide (v1<p2))||(decide (v2≥p3)))||((decide (x1>0))&& (decide (v3≤v4)))) (some (.out (.inr false))) (some (.go (J3 (x1+1))))) (some (.out (.inl ())))
def Bi [Lp](p1:(List Int))(p2:Int)(p3:Int):Option Bool:=
  thenS (loop (V1 p1 p2 p3) 0) (fun _=>some true) (fun r=>some r)
theorem Ho(p1 p2 p3 r)(h:Bi p1 p2 p3=some r):PCall prog 177 [(.list (List.map A9 p1)),(i64 p2),(i64 p3)] (bo r):=by
 refine C4 (fk func177 ntmps177 m0 (by with_unfolding_all rfl)) (nl Z) ?_
 unfold Bi at h
 refine A6 (s0:=⟨T [(0,(.d _)),(1,(.d _)),(2,(.d _))],G []⟩) (D9 Z Z) ?_
 refine B8<|sv Z<|A1<|A4<|B8<|sv Z<|A1<|js h fun z1 hz1 h=>E4 (fun s=> ∃(y1:Unit) (g1:Unit),z1= .inl y1∧Sb ⟨T [],G []⟩ s) ?_ ?_
 refine A7<|E5 (V1 p1 p2 p3) (fun (x1:Int) (g2:Unit)=>⟨T [(0,(dl A9 p1)),(1,(di p2)),(2,(di p3)),(7,(di x1))],G []⟩) 0 () _ hz1 (D9 Z Z) ?_
 intro x1 g2 z2 hz2 ez2
 unfold V1 at hz2
 refine A4<|B8<|sv Z<|sv Z<|sd Z (C3 Z)<|sv Z<|A1<|cc Z hz2 (fun c1 hz2=> ?_)<|fun c1 hz2=> ?_
 refine B1<|A4<|A7<|A4<|N2 Z<|sv Z<|sv Z<|bs hz2 fun _ hv1 hz2=>sd Z (D8 Z Z hv1 Z)<|sd Z (G1 Z hv1 Z)<|sv Z<|sv Z<|sv Z<|gf Z (fun _=>Z)<|gf Z (fun _=>Z)<|bs hz2 fun _ hv2 hz2=>gf Z (fun w3=>(D8 (A2 w3) (A2 w3) (G7 w3 hv2) Z))<|gf Z (fun w4=>(G1 (A2 w4) (G7 w4 hv2) Z))<|gf Z (fun _=>Z)<|gf Z (fun w6=>(H5 (A2 w6) (A2 w6) Z))<|sd Z (R4 Z Z<|fun hc=>A2<|K9 hc)<|sv Z<|gf Z (fun _=>Z)<|gf Z (vb Z Z Z)<|gf Z (fun w9=>(KY<|A2 w9))<|gv Z (Gk Z) (fun _=>Z) (gv Z (Gk Z) (fun _=>Z) (bs hz2 fun _ hv3 hz2=>gv Z (Gk Z) (fun w12=>(D8 (A2 w12) (A2 w12) (G7 w12 hv3) Z)) (gv Z (Gk Z) (fun w13=>(G1 (A2 w13) (G7 w13 hv3) Z)) (gv Z (Gk Z) (fun _=>Z) (gv Z (Gk Z) (fun _=>Z) (gv Z (Gk Z) (vb Z Z Z) (bs hz2 fun _ hv4 hz2=>gv Z (Gk Z) (fun w17=>(D8 (A2 w17) (A2 w17) (G7 w17 hv4) Z)) (gv Z (Gk Z) (fun w18=>(G1 (A2 w18) (G7 w18 hv4) Z)) (gv Z (Gk Z) (fun w19=>(H5 (A2 w19) (A2 w19) Z)) (gf Z (fun w20=>(GS (A2 w20) (fun hc=>A2<|CQ w20 hc) Z))<|sd Z (R4 Z Z<|fun hc=>A2<|K9 hc)<|A1<|cc Z hz2 (fun c2 hz2=> ?_)<|fun c2 hz2=> ?_))))))))))
 refine A4<|A6 (s0:=⟨T [],G []⟩) (D9 Z Z) ?_
 refine B5<|sv Z<|A1<|B2 ?_
 cases hz2
 obtain rfl:=ez2 _ rfl
 refine ⟨nofun,E1 ?_⟩
 rw [bI]at h
 cases h
 exact A8 (.inr Z) (B9 (B0 Z) C2) (.refl _)
 refine B1<|D7<|A6 (s0:=⟨T [(0,(.d _)),(1,(.d _)),(2,(.d _)),(7,(.d _))],G []⟩) (D9 Z Z) ?_
 refine B5<|sv Z<|sv Z<|sv Z<|A1<|F8 ?_
 cases hz2
 exact ⟨Z,(),(D9 Z Z)⟩
 refine D2 Z ?_
 cases hz2
 obtain rfl:=ez2 _ rfl
 refine ⟨nofun,C9 Z<|Z9 ?_⟩
 exact ⟨_,(),Z,(D9 Z Z)⟩
 rintro _ ⟨y1,g1,rfl,q1⟩
 rw [bH]at h
 refine A6 q1<|B8<|sv Z<|A1<|B2 ?_
 cases h
 exact A8 (.inr Z) (B9 (B0 Z) C2) (.refl _)
def Dd [Lp](p1:Map)(p2:Int):Option Int:=
  (E6 p1.Lanes p2).bind fun v1=>cond ((decide (v1.Kind<1))||(decide (v1.Kind>3))) (some 4) ((Ga v1.Curve_).bind fun v2=>cond (v2 !=0) (some v2) ((Es v1.Kind).bind fun v3=>(Y1 v1.Half 200 4000).bind fun v4=>((cond (!(!v4)) (Y1 v1.Limit 1 v3.1) (some default))).bind fun v5=>cond ((!v4)||(!v5)) (some 2) (cond (decide ((v1.Next.length:Int)>3)) (some 8) ((Bi v1.Next (J3 (p2+1)) (p1.Lanes.length:Int)).bind fun v6=>cond (!v6) (some 11) (some 0)))))
theorem Qi(p1 p2 r)(h:Dd p1 p2=some r):PCall prog 72 [(.agg (K6 p1)),(i64 p2)] (i64 r):=by
 refine C4 (fk func72 ntmps72 m0 (by with_unfolding_all rfl)) (nl Z) ?_
 unfold Dd at h
 refine A6 (s0:=⟨T [(0,(.d _)),(1,(.d _))],G []⟩) (D9 Z Z) ?_
 refine lr<|fun u1 _=>sm Z<|sv Z<|A1<|lr<|fun u2 _=>sq Z<|sl Z G_hit Z<|sv Z<|bs h fun v1 hv1 h=>sd Z (D8 Z Z hv1 Z)<|sd Z (D1 Z hv1 Z Z)<|sm Z<|U1 Z G_hit (Db v1) Z (A1<|A4<|B8<|sq Z<|sl Z G_hit Z<|sv Z<|sv Z<|gp Z (K1 Z) (fun _=>Z) (gf Z (vl Z G_hit Z)<|gf Z (vb Z Z Z)<|sd Z (R4 Z Z<|fun hc=>A2<|K9 hc)<|A1<|cc Z h (fun c1 h=> ?_)<|fun c1 h=> ?_))
 refine B8<|sv Z<|A1<|B2 ?_
 cases h
 exact A8 (.inr Z) (B9 (B0 Z) C2) (.refl _)
 refine B1<|B8<|sq Z<|sd Z (B4 Z G_hit Z Z)<|bs h fun _ hv2 h=>C0 Z Z A3 (Ob _ _ hv2) (.inl Z) (sv Z<|A1<|A4<|A4<|A6 (s0:=⟨T [(1,(.d _)),(2,(.ptr _ _)),(5,(.ptr _ _)),(6,(.d _))],G [((2,u1),some<|.box 27 _),((5,u2),some<|.box 42 _)]⟩) (D9 Z Z) ?_)
 refine B5<|sv Z<|sv Z<|A1<|cc Z h (fun c2 h=> ?_)<|fun c2 h=> ?_
 refine B8<|sv Z<|sv Z<|A1<|B2 ?_
 cases h
 exact A8 (.inr Z) (B9 (B0 Z) C2) (.refl _)
 refine B1<|B8<|sq Z<|sl Z (gq Z) Z (bs h fun v3 hv3 h=>C0 Z Z A3 (Mq _ _ hv3) (.inl Z) (sv Z<|sv Z<|sv Z<|sv Z<|sv Z<|sv Z<|sv Z<|A1<|A4<|B8<|sq Z<|sl Z (gq Z) Z (bs h fun v4 hv4 h=>C0 Z Z A3 (Am _ _ _ _ hv4) (.inl Z) (B6 (.d (bo (!v4))) Z Z (sv Z<|gp Z (K1 Z) (fun _=>Z) (gf Z (vl Z (gq Z) Z)<|gf Z (fun _=>Z)<|bs h fun v5 hv5 h=> ?_))))))
 refine O7 _ (bo v5) (K1 Z) (fun w7=>⟨_,[(di v1.Limit),(di 1),(di v3.1)],_,_,(by simp only [A2 w7];rfl),Z,A3,Am _ _ _ _<|G7 w7 hv5,(.inl Z)⟩) ?_
 refine S6 _ (.d (bo (!v5))) Z (K1 Z) (fun w8=>(by simp only [A2 w8];rfl)) ?_
 refine sd Z (R4 Z Z<|fun hc=>A2<|K9 hc)<|A1<|cc Z h (fun c3 h=> ?_)<|fun c3 h=> ?_
 refine A4<|A6 (s0:=⟨T [],G []⟩) (D9 Z Z) ?_
 refine B5<|sv Z<|A1<|B2 ?_
 cases h
 exact A8 (.inr Z) (B9 (B0 Z) C2) (.refl _)
 refine B1<|A4<|A4<|A6 (s0:=⟨T [(1,(.d _)),(2,(.ptr _ _)),(5,(.ptr _ _))],G [((2,u1),some<|.box 27 _),((5,u2),some<|.box 42 _)]⟩) (D9 Z Z) ?_
 refine B5<|sq Z<|sl Z (gq Z) Z (sd Z (C3 Z)<|sv Z<|A1<|cc Z h (fun c4 h=> ?_)<|fun c4 h=> ?_)
 refine B8<|sv Z<|A1<|B2 ?_
 cases h
 exact A8 (.inr Z) (B9 (B0 Z) C2) (.refl _)
 refine B1<|A4<|B8<|sq Z<|sl Z (gq Z) Z (sv Z<|sv Z<|sq Z<|sl Z G_hit Z<|sd Z (C3 Z)<|bs h fun v6 hv6 h=>C0 Z Z A3 (Ho _ _ _ _ hv6) (.inl Z) (B6 (.d (bo (!v6))) Z Z (A1<|cc Z h (fun c5 h=> ?_)<|fun c5 h=> ?_)))
 refine B8<|sv Z<|A1<|B2 ?_
 cases h
 exact A8 (.inr Z) (B9 (B0 Z) C2) (.refl _)
 refine B1<|B8<|sv Z<|A1<|B2 ?_
 cases h
 exact A8 (.inr Z) (B9 (B0 Z) C2) (.refl _)
def V2 (p1:Map)(v1:Lane)(x2:Int):Option (Stp Int (Sum Unit Int)):=
  cond (decide (x2< (v1.Next.length:Int))) ((E6 v1.Next x2).bind fun v2=>(E6 p1.Lanes v2).bind fun v3=>cond (v3.Kind !=v1.Kind) (some (.out (.inr 4))) ((E6 v3.Curve_.Pts 0).bind fun v4=>(E6 v1.Curve_.Pts (J3 ((v1.Curve_.Pts.length:Int) - 1))).bind fun v5=>cond (!(v4.X==v5.X&& (v4.Y==v5.Y&&true))) (some (.out (.inr 3))) (some (.go (J3 (x2+1)))))) (some (.out (.inl ())))
def V3 [Lp](p1:Map)(x1:Int):Option (Stp Int (Sum Unit Int)):=
  cond (decide (x1< (p1.Lanes.length:Int))) ((E6 p1.Lanes x1).bind fun v1=>thenS (loop (V2 p1 v1) 0) (fun _=>some (.go (J3 (x1+1)))) (fun r=>some (.out (.inr r)))) (some (.out (.inl ())))
def De [Lp](p1:Map):Option Int:=
  thenS (loop (V3 p1) 0) (fun _=>some 0) (fun r=>some r)
theorem Qj(p1 r)(h:De p1=some r):PCall prog 73 [(.agg (K6 p1))] (i64 r):=by
 refine C4 (fk func73 ntmps73 m0 (by with_unfolding_all rfl)) (nl Z) ?_
 unfold De at h
 refine A6 (s0:=⟨T [(0,(.d _))],G []⟩) (D9 Z Z) ?_
 refine lr<|fun u1 _=>sm Z<|sv Z<|A1<|A4<|B8<|sv Z<|A1<|js h fun z1 hz1 h=>E4 (fun s=> ∃(y1:Unit) (g1:Unit),z1= .inl y1∧Sb ⟨T [],G []⟩ s) ?_ ?_
 refine A7<|E5 (V3 p1) (fun (x1:Int) (g2:Unit)=>⟨T [(1,(.ptr (1,u1) 0)),(3,(di x1))],G [((1,u1),some<|.box 27 (H4 p1))]⟩) 0 () _ hz1 (D9 Z Z) ?_
 intro x1 g2 z2 hz2 ez2
 unfold V3 at hz2
 refine A4<|B8<|sv Z<|sq Z<|sl Z G_hit Z<|sd Z (C3 Z)<|sv Z<|A1<|cc Z hz2 (fun c1 hz2=> ?_)<|fun c1 hz2=> ?_
 refine B1<|A4<|A7<|lr<|fun u4 _=>sq Z<|sl Z G_hit Z<|sv Z<|bs hz2 fun v1 hv1 hz2=>sd Z (D8 Z Z hv1 Z)<|sd Z (D1 Z hv1 Z Z)<|sm Z<|U1 Z G_hit (Db v1) Z (A1<|B8<|sv Z<|A1<|js hz2 fun z3 hz3 hz2=>E4 (fun s=> ∃(y2:Unit) (g3:Unit),z3= .inl y2∧Sb ⟨T [(1,(.ptr (1,u1) 0)),(3,(di x1))],G [((1,u1),some<|.box 27 (H4 p1))]⟩ s) ?_ ?_)
 refine A7<|E5 (V2 p1 v1) (fun (x2:Int) (g4:Unit)=>⟨T [(1,(.ptr (1,u1) 0)),(3,(di x1)),(4,(.ptr (4,u4) 0)),(5,(di x2))],G [((1,u1),some<|.box 27 (H4 p1)),((4,u4),some<|.box 42 (Db v1))]⟩) 0 () _ hz3 (D9 Z Z) ?_
 intro x2 g4 z4 hz4 ez4
 unfold V2 at hz4
 refine A4<|B8<|sv Z<|sq Z<|sl Z (gq Z) Z (sd Z (C3 Z)<|sv Z<|A1<|cc Z hz4 (fun c2 hz4=> ?_)<|fun c2 hz4=> ?_)
 refine B1<|A4<|A7<|A4<|Hf Z fun u7 _=>sq Z<|sl Z G_hit Z<|sq Z<|sl Z (gq Z) Z (sv Z<|bs hz4 fun _ hv2 hz4=>sd Z (D8 Z Z hv2 Z)<|sd Z (G1 Z hv2 Z)<|bs hz4 fun v3 hv3 hz4=>sd Z (D8 Z Z hv3 Z)<|sd Z (D1 Z hv3 Z Z)<|sm Z<|U1 Z G_hit (Db v3) Z (A1<|A4<|A4<|A6 (s0:=⟨T [(1,(.ptr _ _)),(3,(.d _)),(4,(.ptr _ _)),(5,(.d _)),(6,(.ptr _ _))],G [((1,u1),some<|.box 27 _),((4,u4),some<|.box 42 _),((6,u7),some<|.box 42 _)]⟩) (D9 Z Z) ?_))
 refine B5<|sq Z<|sl Z (gq Z) Z (sq Z<|sl Z (gq Z) Z (sv Z<|A1<|cc Z hz4 (fun c3 hz4=> ?_)<|fun c3 hz4=> ?_))
 refine B8<|sv Z<|A1<|B2 ?_
 cases hz4
 obtain rfl:=ez4 _ rfl
 refine ⟨nofun,E1 ?_⟩
 rw [bI]at hz2
 cases hz2
 obtain rfl:=ez2 _ rfl
 refine ⟨nofun,E1 ?_⟩
 rw [bI]at h
 cases h
 exact A8 (.inr Z) (B9 (B0 Z) C2) (.refl _)
 refine B1<|A4<|N2 Z<|sq Z<|sq Z<|sl Z (gq Z) Z (bs hz4 fun v4 hv4 hz4=>sd Z (D8 Z Z hv4 Z)<|sd Z (D1 Z hv4 Z Z)<|sq Z<|sp Z Z<|sl Z (gq Z) Z (sq Z<|sp Z Z<|sl Z (gq Z) Z (sd Z (C3 Z)<|sv Z<|bs hz4 fun v5 hv5 hz4=>sd Z (D8 Z Z hv5 Z)<|sd Z (D1 Z hv5 Z Z)<|B6 (.d (bo (!(v4.X==v5.X&& (v4.Y==v5.Y&&true))))) Z Z (A1<|cc Z hz4 (fun c4 hz4=> ?_)<|fun c4 hz4=> ?_))))
 refine A4<|A6 (s0:=⟨T [],G []⟩) (D9 Z Z) ?_
 refine B5<|sv Z<|A1<|B2 ?_
 cases hz4
 obtain rfl:=ez4 _ rfl
 refine ⟨nofun,E1 ?_⟩
 rw [bI]at hz2
 cases hz2
 obtain rfl:=ez2 _ rfl
 refine ⟨nofun,E1 ?_⟩
 rw [bI]at h
 cases h
 exact A8 (.inr Z) (B9 (B0 Z) C2) (.refl _)
 refine B1<|D7<|A6 (s0:=⟨T [(1,(.ptr _ _)),(3,(.d _)),(4,(.ptr _ _)),(5,(.d _))],G [((1,u1),some<|.box 27 _),((4,u4),some<|.box 42 _)]⟩) (D9 Z Z) ?_
 refine B5<|sv Z<|sv Z<|sv Z<|A1<|F8 ?_
 cases hz4
 exact ⟨Z,(),(D9 Z Z)⟩
 refine D2 Z ?_
 cases hz4
 obtain rfl:=ez4 _ rfl
 refine ⟨nofun,C9 Z<|Z9 ?_⟩
 exact ⟨_,(),Z,(D9 Z Z)⟩
 rintro _ ⟨y2,g3,rfl,q1⟩
 rw [bH]at hz2
 refine D7<|A6 q1<|B5<|sv Z<|sv Z<|sv Z<|A1<|F8 ?_
 cases hz2
 exact ⟨Z,(),(D9 Z Z)⟩
 refine D2 Z ?_
 cases hz2
 obtain rfl:=ez2 _ rfl
 refine ⟨nofun,C9 Z<|Z9 ?_⟩
 exact ⟨_,(),Z,(D9 Z Z)⟩
 rintro _ ⟨y1,g1,rfl,q2⟩
 rw [bH]at h
 refine A6 q2<|B8<|sv Z<|A1<|B2 ?_
 cases h
 exact A8 (.inr Z) (B9 (B0 Z) C2) (.refl _)
def P7 [Lp](p1:Map)(p2:Signal)(x2:Int):Option (Stp Int (Sum Unit Int)):=
  cond (decide (x2< (p2.Phases.length:Int))) ((E6 p2.Phases x2).bind fun v4=>(Bi v4.Green 0 (p1.Lanes.length:Int)).bind fun v5=>cond (!v5) (some (.out (.inr 11))) (some (.go (J3 (x2+1))))) (some (.out (.inl ())))
def P8 (p2:Signal)(x1:(Bool×Int)):Option (Stp (Bool×Int) Bool):=
  cond (decide (x1.2< (p2.Phases.length:Int))) (((cond x1.1 (E6 p2.Phases x1.2) (some default))).bind fun v2=>((cond x1.1 (Y1 v2.Ticks 1 10000) (some default))).bind fun v3=>some (.go ((x1.1&&v3),(J3 (x1.2+1))))) (some (.out x1.1))
def Ay [Lp](p1:Map)(p2:Signal):Option Int:=
  cond ((p2.Phases.length:Int)==0) (some 6) (cond (decide ((p2.Phases.length:Int)>6)) (some 8) ((Y1 p2.Offset 0 1099511627776).bind fun v1=>(loop (P8 p2) (v1,0)).bind fun y1=>cond (!y1) (some 2) (thenS (loop (P7 p1 p2) 0) (fun _=>some 0) (fun r=>some r))))
theorem Oc(p1 p2 r)(h:Ay p1 p2=some r):PCall prog 74 [(.agg (K6 p1)),(.agg [(i64 p2.Offset),(.list (List.map I3 p2.Phases))])] (i64 r):=by
 refine C4 (fk func74 ntmps74 m0 (by with_unfolding_all rfl)) (nl Z) ?_
 unfold Ay at h
 refine A6 (s0:=⟨T [(0,(.d _)),(1,(.d _))],G []⟩) (D9 Z Z) ?_
 refine lr<|fun u1 _=>sm Z<|sm Z<|sv Z<|A1<|A4<|B8<|sq Z<|sl Z G_hit Z<|sd Z (C3 Z)<|sv Z<|A1<|cc Z h (fun c1 h=> ?_)<|fun c1 h=> ?_
 refine B8<|sv Z<|A1<|B2 ?_
 cases h
 exact A8 (.inr Z) (B9 (B0 Z) C2) (.refl _)
 refine B1<|A4<|B8<|sq Z<|sl Z G_hit Z<|sd Z (C3 Z)<|sv Z<|A1<|cc Z h (fun c2 h=> ?_)<|fun c2 h=> ?_
 refine B8<|sv Z<|A1<|B2 ?_
 cases h
 exact A8 (.inr Z) (B9 (B0 Z) C2) (.refl _)
 refine B1<|B8<|sq Z<|sl Z G_hit Z<|bs h fun v1 hv1 h=>C0 Z Z A3 (Am _ _ _ _ hv1) (.inl Z) (sv Z<|A1<|A4<|B8<|sv Z<|A1<|bs h fun y1 hy1 h=>E4 (fun s=> ∃g1:Unit,Sb ⟨T [(2,(.ptr (2,u1) 0)),(3,(.ptr (3,u1) 0)),(5,(.d (bo y1)))],G [((2,u1),some<|.box 27 (H4 p1)),((3,u1),some<|.box 48 [(di p2.Offset),(dl I3 p2.Phases)])]⟩ s) ?_ ?_)
 refine A7<|E5 (P8 p2) (fun (x1:(Bool×Int)) (g2:Unit)=>⟨T [(2,(.ptr (2,u1) 0)),(3,(.ptr (3,u1) 0)),(5,(.d (bo x1.1))),(6,(di x1.2))],G [((2,u1),some<|.box 27 (H4 p1)),((3,u1),some<|.box 48 [(di p2.Offset),(dl I3 p2.Phases)])]⟩) (v1,0) () _ hy1 (D9 Z Z) ?_
 intro x1 g2 z1 hz1 ez1
 unfold P8 at hz1
 refine A4<|B8<|sv Z<|sq Z<|sl Z (gq Z) Z (sd Z (C3 Z)<|sv Z<|A1<|cc Z hz1 (fun c3 hz1=> ?_)<|fun c3 hz1=> ?_)
 refine B1<|A4<|A7<|B5<|sv Z<|sv Z<|gp Z (I9 Z) (fun _=>Z) (gt Z (vl Z (gq Z) Z)<|gt Z (fun _=>Z)<|bs hz1 fun v2 hv2 hz1=>gt Z (fun w4=>(D8 (A2 w4) (A2 w4) (G7 w4 hv2) Z)) ?_)
 refine gt Z (fun w5=>(by simp only [A2 w5];rfl)) ?_
 refine gt Z (fun w6=>(G1 (A2 w6) (G7 w6 hv2) Z))<|bs hz1 fun v3 hv3 hz1=> ?_
 refine O7 x1.1 (bo v3) (I9 Z) (fun w7=>⟨_,[(di v2.Ticks),(di 1),(di 10000)],_,_,(by simp only [A2 w7];rfl),Z,A3,Am _ _ _ _<|G7 w7 hv3,(.inl Z)⟩) ?_
 refine sa Z Z Z<|sv Z<|A1<|D7<|B5<|sv Z<|sv Z<|sv Z<|A1<|F8 ?_
 cases hz1
 exact ⟨Z,(),(D9 Z Z)⟩
 refine D2 Z ?_
 cases hz1
 obtain rfl:=ez1 _ rfl
 refine ⟨nofun,C9 Z<|Z9 ?_⟩
 exact ⟨(),(D9 Z Z)⟩
 rintro _ ⟨g1,q1⟩
 refine A6 q1<|A4<|B8<|sv Z<|B6 (.d (bo (!y1))) Z Z (A1<|cc Z h (fun c4 h=> ?_)<|fun c4 h=> ?_)
 refine B8<|sv Z<|A1<|B2 ?_
 cases h
 exact A8 (.inr Z) (B9 (B0 Z) C2) (.refl _)
 refine B1<|A4<|B8<|sv Z<|A1<|js h fun z2 hz2 h=>E4 (fun s=> ∃(y2:Unit) (g3:Unit),z2= .inl y2∧Sb ⟨T [],G []⟩ s) ?_ ?_
 refine A7<|E5 (P7 p1 p2) (fun (x2:Int) (g4:Unit)=>⟨T [(2,(.ptr (2,u1) 0)),(3,(.ptr (3,u1) 0)),(7,(di x2))],G [((2,u1),some<|.box 27 (H4 p1)),((3,u1),some<|.box 48 [(di p2.Offset),(dl I3 p2.Phases)])]⟩) 0 () _ hz2 (D9 Z Z) ?_
 intro x2 g4 z3 hz3 ez3
 unfold P7 at hz3
 refine A4<|B8<|sv Z<|sq Z<|sl Z (gq Z) Z (sd Z (C3 Z)<|sv Z<|A1<|cc Z hz3 (fun c5 hz3=> ?_)<|fun c5 hz3=> ?_)
 refine B1<|A4<|A7<|A4<|N2 Z<|sq Z<|sl Z (gq Z) Z (sv Z<|bs hz3 fun _ hv4 hz3=>sd Z (D8 Z Z hv4 Z)<|sv Z<|sd Z (G1 Z hv4 Z)<|sq Z<|sl Z G_hit Z<|sd Z (C3 Z)<|bs hz3 fun v5 hv5 hz3=>C0 Z Z A3 (Ho _ _ _ _ hv5) (.inl Z) (B6 (.d (bo (!v5))) Z Z (A1<|cc Z hz3 (fun c6 hz3=> ?_)<|fun c6 hz3=> ?_)))
 refine B8<|sv Z<|A1<|B2 ?_
 cases hz3
 obtain rfl:=ez3 _ rfl
 refine ⟨nofun,E1 ?_⟩
 rw [bI]at h
 cases h
 exact A8 (.inr Z) (B9 (B0 Z) C2) (.refl _)
 refine B1<|D7<|B5<|sv Z<|sv Z<|sv Z<|A1<|F8 ?_
 cases hz3
 exact ⟨Z,(),(D9 Z Z)⟩
 refine D2 Z ?_
 cases hz3
 obtain rfl:=ez3 _ rfl
 refine ⟨nofun,C9 Z<|Z9 ?_⟩
 exact ⟨_,(),Z,(D9 Z Z)⟩
 rintro _ ⟨y2,g3,rfl,q2⟩
 rw [bH]at h
 refine A6 q2<|B8<|sv Z<|A1<|B2 ?_
 cases h
 exact A8 (.inr Z) (B9 (B0 Z) C2) (.refl _)
def X5 [Lp](p1:Curve)(x1:((List Int)×Int)):Option (Stp ((List Int)×Int) (List Int)):=
  cond (decide ((J3 (x1.2+1))< (p1.Pts.length:Int))) ((E6 p1.Pts (J3 (x1.2+1))).bind fun v2=>(E6 p1.Pts x1.2).bind fun v3=>(Ed v2 v3).bind fun v4=>(Fz v4 v4).bind fun v5=>(Ee v5).bind fun v6=>(Q8 x1.1 [v6]).bind fun v7=>some (.go (v7,(J3 (x1.2+1))))) (some (.out x1.1))
def Gy [Lp](p1:Curve):Option (List Int):=
  (Ga p1).bind fun v1=>cond (v1 !=0) (some []) ((loop (X5 p1) ([],0)).bind fun y1=>some y1)
theorem Ur(p1 r)(h:Gy p1=some r):PCall prog 242 [(.agg [(.list (List.map J6 p1.Pts))])] (.list (List.map A9 r)):=by
 refine C4 (fk func242 ntmps242 (fun r=>if r==8 then [1005]else []) (by with_unfolding_all rfl)) (nl Z) ?_
 unfold Gy at h
 refine A6 (s0:=⟨T [(0,(.d _))],G []⟩) (D9 Z Z) ?_
 refine lr<|fun u1 _=>sm Z<|sv Z<|A1<|A4<|B8<|sd Z (B4 Z G_hit Z Z)<|bs h fun _ hv1 h=>C0 Z Z A3 (Ob _ _ hv1) (.inl Z) (sv Z<|A1<|cc Z h (fun c1 h=> ?_)<|fun c1 h=> ?_)
 refine B8<|sv Z<|A1<|B2 ?_
 cases h
 exact A8 (.inr Z) (B9 (B0 Z) C2) DLe.nil
 refine B1<|B8<|sv Z<|A1<|A4<|B8<|sv Z<|A1<|bs h fun y1 hy1 h=>E4 (fun s=> ∃g1:Nat,Sb ⟨T [(3,(oS y1 (35,g1)))],G [((35,g1),oB 2 1 A9 y1)]⟩ s) ?_ ?_
 refine A7<|E5 (X5 p1) (fun (x1:((List Int)×Int)) (g2:Nat)=>⟨T [(1,(.ptr (1,u1) 0)),(3,(oS x1.1 (35,g2))),(4,(di x1.2))],G [((1,u1),some<|.box 39 [(dl J6 p1.Pts)]),((35,g2),oB 2 1 A9 x1.1)]⟩) ([],0) 0 _ hy1 (D3 (Z5 Z)<|B7 G_hit (.of Z)<|O9 trivial) ?_
 intro x1 g2 z1 hz1 ez1
 unfold X5 at hz1
 refine A4<|B8<|sv Z<|sv Z<|sq Z<|sl Z G_hit Z<|sd Z (C3 Z)<|sv Z<|A1<|cc Z hz1 (fun c2 hz1=> ?_)<|fun c2 hz1=> ?_
 refine B1<|A4<|A7<|A4<|Hf Z fun u7 _=>sq Z<|sl Z G_hit Z<|sv Z<|sv Z<|bs hz1 fun _ hv2 hz1=>sd Z (D8 Z Z hv2 Z)<|sd Z (D1 Z hv2 Z Z)<|sq Z<|sl Z G_hit Z<|sv Z<|bs hz1 fun _ hv3 hz1=>sd Z (D8 Z Z hv3 Z)<|sd Z (D1 Z hv3 Z Z)<|bs hz1 fun v4 hv4 hz1=>C0 Z Z A3 (Jx _ _ _ hv4) (.inl Z) (sm Z<|U1 Z G_hit [(di v4.X),(di v4.Y)] Z (A1<|A6 (s0:=⟨T [(1,(.ptr (1,u1) 0)),(3,(oS x1.1 (35,g2))),(4,(di x1.2)),(5,(.ptr (5,u7) 0))],G [((1,u1),some<|.box 39 [(dl J6 p1.Pts)]),((35,g2),oB 2 1 A9 x1.1),((5,u7),some<|.box 148 [(di v4.X),(di v4.Y)])]⟩) (D3 (Z5 Z)<|sg Z<|D4 (gq Z)<|B7 G_hit (.of Z) trivial) ?_))
 refine O8 fun u8 _=>B6 (oS x1.1 (35,g2)) Z Z (sd Z (B4 Z (gq Z) Z Z)<|sd Z (B4 Z (gq Z) Z Z)<|bs hz1 fun _ hv5 hz1=>C0 Z Z A3 (Iv _ _ _ hv5) (.inl Z) (bs hz1 fun v6 hv6 hz1=>C0 Z Z A3 (Po _ _ hv6) (.inl Z) (B6 (dl A9 [v6]) Z Z (bs hz1 fun _ hv7 hz1=>J0 A9 (35,g2) x1.1 v6 [] _ (D0<|fun _=>Z) Z (gq Z) hv7 (ss Z<|A1<|D7<|B5<|sv Z<|sv Z<|sv Z<|A1<|F8 ?_)))))
 cases hz1
 exact ⟨Z,u8,(D3 ⟨.of Z,(.of (Z8<|N1 hv7).symm), .of Z,trivial⟩<|sg Z<|O6 G_hit trivial)⟩
 refine D2 Z ?_
 cases hz1
 obtain rfl:=ez1 _ rfl
 refine ⟨nofun,C9 Z<|Z9 ?_⟩
 exact ⟨g2,(D3 ⟨.of Z,trivial⟩<|D4 (gq Z) trivial)⟩
 rintro _ ⟨g1,q1⟩
 refine A6 q1<|B8<|B6 (oS y1 (35,g1)) Z Z (B6 (oS y1 (35,g1)) Z Z (A1<|B2 ?_))
 cases h
 exact A8 (.inr Z) (B9 (B0 Z)<|Cd G_hit) Cc
def U0 (v1:(List Int))(x1:(Int×Int)):Option (Stp (Int×Int) Int):=
  cond (decide (x1.2< (v1.length:Int))) ((E6 v1 x1.2).bind fun v2=>some (.go ((J3 (x1.1+v2)),(J3 (x1.2+1))))) (some (.out x1.1))
def Cq [Lp](p1:Curve):Option Int:=
  (Gy p1).bind fun v1=>(loop (U0 v1) (0,0)).bind fun y1=>some y1
theorem Mr(p1 r)(h:Cq p1=some r):PCall prog 178 [(.agg [(.list (List.map J6 p1.Pts))])] (i64 r):=by
 refine C4 (fk func178 ntmps178 m0 (by with_unfolding_all rfl)) (nl Z) ?_
 unfold Cq at h
 refine A6 (s0:=⟨T [(0,(.d _))],G []⟩) (D9 Z Z) ?_
 refine B8<|sm Z<|sv Z<|A1<|B8<|sv Z<|A1<|B8<|sd Z (B4 Z G_hit Z Z)<|bs h fun v1 hv1 h=>C0 Z Z A3 (Ur _ _ hv1) (.inl Z) (sv Z<|A1<|A4<|B8<|sv Z<|A1<|bs h fun y1 hy1 h=>E4 (fun s=> ∃g1:Unit,Sb ⟨T [(3,(di y1))],G []⟩ s) ?_ ?_)
 refine A7<|E5 (U0 v1) (fun (x1:(Int×Int)) (g2:Unit)=>⟨T [(3,(di x1.1)),(4,(dl A9 v1)),(5,(di x1.2))],G []⟩) (0,0) () _ hy1 (D9 Z Z) ?_
 intro x1 g2 z1 hz1 ez1
 unfold U0 at hz1
 refine A4<|B8<|sv Z<|sv Z<|sd Z (C3 Z)<|sv Z<|A1<|cc Z hz1 (fun c1 hz1=> ?_)<|fun c1 hz1=> ?_
 refine B1<|A4<|A7<|B5<|sv Z<|sv Z<|sv Z<|bs hz1 fun _ hv2 hz1=>sd Z (D8 Z Z hv2 Z)<|sd Z (G1 Z hv2 Z)<|sv Z<|sv Z<|A1<|D7<|B5<|sv Z<|sv Z<|sv Z<|A1<|F8 ?_
 cases hz1
 exact ⟨Z,(),(D9 Z Z)⟩
 refine D2 Z ?_
 cases hz1
 obtain rfl:=ez1 _ rfl
 refine ⟨nofun,C9 Z<|Z9 ?_⟩
 exact ⟨(),(D9 Z Z)⟩
 rintro _ ⟨g1,q1⟩
 refine A6 q1<|B8<|sv Z<|sv Z<|A1<|B2 ?_
 cases h
 exact A8 (.inr Z) (B9 (B0 Z) C2) (.refl _)
def V4 [Lp](p1:Map)(p2:Zone)(x2:Int):Option (Stp Int (Sum Unit Int)):=
  cond (decide (x2< (p2.Parts.length:Int))) ((E6 p2.Parts x2).bind fun v4=>((cond (!((decide (v4.From<0))||(decide (v4.From≥v4.To)))) (E6 p1.Lanes v4.Lane_) (some default))).bind fun v5=>((cond (!((decide (v4.From<0))||(decide (v4.From≥v4.To)))) (Cq v5.Curve_) (some default))).bind fun v6=>cond (((((decide (v4.From<0))||(decide (v4.From≥v4.To)))||(decide (v4.To>v6)))||(decide (v4.Rank<0)))||(decide (v4.Rank>100))) (some (.out (.inr 2))) (some (.go (J3 (x2+1))))) (some (.out (.inl ())))
def Cr (p2:Zone)(x1:((List Int)×Int)):Option (Stp ((List Int)×Int) (List Int)):=
  cond (decide (x1.2< (p2.Parts.length:Int))) ((E6 p2.Parts x1.2).bind fun v1=>(Q8 x1.1 [v1.Lane_]).bind fun v2=>some (.go (v2,(J3 (x1.2+1))))) (some (.out x1.1))
def Df [Lp](p1:Map)(p2:Zone):Option Int:=
  cond (decide ((p2.Parts.length:Int)<2)) (some 6) (cond (decide ((p2.Parts.length:Int)>6)) (some 8) (cond ((decide (p2.Signal_<0))||(decide (p2.Signal_>(p1.Signals.length:Int)))) (some 2) ((loop (Cr p2) ([],0)).bind fun y1=>(Bi y1 0 (p1.Lanes.length:Int)).bind fun v3=>cond (!v3) (some 11) (thenS (loop (V4 p1 p2) 0) (fun _=>some 0) (fun r=>some r)))))
theorem Qk(p1 p2 r)(h:Df p1 p2=some r):PCall prog 75 [(.agg (K6 p1)),(.agg [(.list (List.map H6 p2.Parts)),(i64 p2.Signal_)])] (i64 r):=by
 refine C4 (fk func75 ntmps75 (fun r=>if r==11 then [1007]else []) (by with_unfolding_all rfl)) (nl Z) ?_
 unfold Df at h
 refine A6 (s0:=⟨T [(0,(.d _)),(1,(.d _))],G []⟩) (D9 Z Z) ?_
 refine lr<|fun u1 _=>sm Z<|sm Z<|sv Z<|A1<|A4<|B8<|sq Z<|sl Z G_hit Z<|sd Z (C3 Z)<|sv Z<|A1<|cc Z h (fun c1 h=> ?_)<|fun c1 h=> ?_
 refine B8<|sv Z<|A1<|B2 ?_
 cases h
 exact A8 (.inr Z) (B9 (B0 Z) C2) (.refl _)
 refine B1<|A4<|B8<|sq Z<|sl Z G_hit Z<|sd Z (C3 Z)<|sv Z<|A1<|cc Z h (fun c2 h=> ?_)<|fun c2 h=> ?_
 refine B8<|sv Z<|A1<|B2 ?_
 cases h
 exact A8 (.inr Z) (B9 (B0 Z) C2) (.refl _)
 refine B1<|A4<|B8<|sq Z<|sl Z G_hit Z<|sv Z<|sv Z<|gp Z (K1 Z) (fun _=>Z) (gf Z (vl Z G_hit Z)<|gp Z (K1 Z) (fun _=>Z) (gf Z (vl Z (gq Z) Z)<|gf Z (fun w5=>(C3<|A2 w5))<|gf Z (fun w6=>(H5 (A2 w6) (A2 w6) Z))<|sd Z (R4 Z Z<|fun hc=>A2<|K9 hc)<|A1<|cc Z h (fun c3 h=> ?_)<|fun c3 h=> ?_))
 refine A4<|A6 (s0:=⟨T [],G []⟩) (D9 Z Z) ?_
 refine B5<|sv Z<|A1<|B2 ?_
 cases h
 exact A8 (.inr Z) (B9 (B0 Z) C2) (.refl _)
 refine B1<|A4<|A6 (s0:=⟨T [(2,(.ptr _ _)),(3,(.ptr _ _))],G [((2,u1),some<|.box 27 _),((3,u1),some<|.box 45 _)]⟩) (D9 Z Z) ?_
 refine B5<|sv Z<|A1<|A4<|B8<|sv Z<|A1<|bs h fun y1 hy1 h=>E4 (fun s=> ∃g1:Nat,Sb ⟨T [(2,(.ptr (2,u1) 0)),(3,(.ptr (3,u1) 0)),(5,(oS y1 (43,g1)))],G [((2,u1),some<|.box 27 (H4 p1)),((3,u1),some<|.box 45 [(dl H6 p2.Parts),(di p2.Signal_)]),((43,g1),oB 3 1 A9 y1)]⟩ s) ?_ ?_
 refine A7<|E5 (Cr p2) (fun (x1:((List Int)×Int)) (g2:Nat)=>⟨T [(2,(.ptr (2,u1) 0)),(3,(.ptr (3,u1) 0)),(5,(oS x1.1 (43,g2))),(6,(di x1.2))],G [((2,u1),some<|.box 27 (H4 p1)),((3,u1),some<|.box 45 [(dl H6 p2.Parts),(di p2.Signal_)]),((43,g2),oB 3 1 A9 x1.1)]⟩) ([],0) 0 _ hy1 (D3 (Z5 Z)<|B7 G_hit (.of Z)<|sg Z<|O9 trivial) ?_
 intro x1 g2 z1 hz1 ez1
 unfold Cr at hz1
 refine A4<|B8<|sv Z<|sq Z<|sl Z (gq Z) Z (sd Z (C3 Z)<|sv Z<|A1<|cc Z hz1 (fun c4 hz1=> ?_)<|fun c4 hz1=> ?_)
 refine B1<|A4<|A7<|O8 fun u11 _=>B6 (oS x1.1 (43,g2)) Z Z (sq Z<|sl Z (gq Z) Z (sv Z<|bs hz1 fun v1 hv1 hz1=>sd Z (D8 Z Z hv1 Z)<|sv Z<|sd Z (G1 Z hv1 Z)<|B6 (dl A9 [v1.Lane_]) Z Z (bs hz1 fun _ hv2 hz1=>J0 A9 (43,g2) x1.1 v1.Lane_ [] _ (D0<|fun _=>Z) Z (gq Z) hv2 (ss Z<|A1<|D7<|A6 (s0:=⟨T [(2,(.ptr _ _)),(3,(.ptr _ _)),(5,(.sl _)),(6,(.d _))],G [((2,u1),some<|.box 27 _),((3,u1),some<|.box 45 _),((43,u11),some _)]⟩) (D9 Z Z) ?_))))
 refine B5<|sv Z<|sv Z<|sv Z<|A1<|F8 ?_
 cases hz1
 exact ⟨Z,u11,(D3 ⟨.of Z, .of Z,(.of (Z8<|N1 hv2).symm), .of Z,trivial⟩<|B7 G_hit (.of Z)<|sg Z<|O6 (gq Z) trivial)⟩
 refine D2 Z ?_
 cases hz1
 obtain rfl:=ez1 _ rfl
 refine ⟨nofun,C9 Z<|Z9 ?_⟩
 exact ⟨g2,(D3 (Z5 Z)<|B7 G_hit (.of Z)<|sg Z<|D4 (gq Z) trivial)⟩
 rintro _ ⟨g1,q1⟩
 refine A6 q1<|A4<|B8<|B6 (oS y1 (43,g1)) Z Z (sq Z<|sl Z G_hit Z<|sd Z (C3 Z)<|bs h fun v3 hv3 h=>C0 Z (H3 (Cd<|gq Z)<|rD<|rD I6) (.cons Cc (.cons (.refl _) A3)) (Ho _ _ _ _ hv3) (.inr Z) (B6 (.d (bo (!v3))) Z Z (A1<|cc Z h (fun c5 h=> ?_)<|fun c5 h=> ?_)))
 refine B8<|sv Z<|A1<|B2 ?_
 cases h
 exact A8 (.inr Z) (B9 (B0 Z) C2) (.refl _)
 refine B1<|A4<|B8<|sv Z<|A1<|js h fun z2 hz2 h=>E4 (fun s=> ∃(y2:Unit) (g3:Unit),z2= .inl y2∧Sb ⟨T [],G []⟩ s) ?_ ?_
 refine A7<|E5 (V4 p1 p2) (fun (x2:Int) (g4:Unit)=>⟨T [(2,(.ptr (2,u1) 0)),(3,(.ptr (3,u1) 0)),(7,(di x2))],G [((2,u1),some<|.box 27 (H4 p1)),((3,u1),some<|.box 45 [(dl H6 p2.Parts),(di p2.Signal_)])]⟩) 0 () _ hz2 (D9 Z Z) ?_
 intro x2 g4 z3 hz3 ez3
 unfold V4 at hz3
 refine A4<|B8<|sv Z<|sq Z<|sl Z (gq Z) Z (sd Z (C3 Z)<|sv Z<|A1<|cc Z hz3 (fun c6 hz3=> ?_)<|fun c6 hz3=> ?_)
 refine B1<|A4<|A7<|B8<|sq Z<|sl Z (gq Z) Z (sv Z<|bs hz3 fun v4 hv4 hz3=>sd Z (D8 Z Z hv4 Z)<|sd Z (D1 Z hv4 Z Z)<|sm Z<|U1 Z G_hit (Nu v4) Z (A1<|A4<|N2 Z<|sq Z<|sl Z G_hit Z<|sv Z<|sv Z<|gp Z (K1 Z) (fun _=>Z) (gf Z (vl Z G_hit Z)<|gp Z (K1 Z) (fun _=>Z) (gf Z (vl Z G_hit Z)<|gf Z (fun w11=>(H5 (A2 w11) (A2 w11) Z))<|sd Z (R4 Z Z<|fun hc=>A2<|K9 hc)<|sv Z<|gp Z (K1 Z) (fun _=>Z) (gf Z (vl Z G_hit Z)<|gp Z (K1 Z) (fun _=>Z) (gf Z (vl Z (gq Z) Z)<|gp Z (K1 Z) (fun _=>Z) (gf Z (vl Z G_hit Z)<|bs hz3 fun v5 hv5 hz3=>gf Z (fun w18=>(D8 (A2 w18) (A2 w18) (G7 w18 hv5) Z)) ?_)))))))
 refine gf Z (fun w19=>(by simp only [A2 w19];rfl)) ?_
 refine gf Z (fun w20=>(D1 (A2 w20) (G7 w20 hv5) Z Z))<|bs hz3 fun v6 hv6 hz3=> ?_
 refine O7 _ (i64 v6) (K1 Z) (fun w21=>⟨_,[(.d (.agg [(.list (List.map J6 v5.Curve_.Pts))]))],_,_,(by simp only [A2 w21];rfl),Z,A3,Mr _ _<|G7 w21 hv6,(.inl Z)⟩) ?_
 refine gf Z (fun w22=>(H5 (A2 w22) (A2 w22) Z))<|sd Z (R4 Z Z<|fun hc=>A2<|K9 hc)<|sv Z<|gp Z (K1 Z) (fun _=>Z) (gf Z (vl Z G_hit Z)<|gf Z (vb Z Z Z)<|sd Z (R4 Z Z<|fun hc=>A2<|K9 hc)<|sv Z<|gp Z (K1 Z) (fun _=>Z) (gf Z (vl Z G_hit Z)<|gf Z (vb Z Z Z)<|sd Z (R4 Z Z<|fun hc=>A2<|K9 hc)<|A1<|cc Z hz3 (fun c7 hz3=> ?_)<|fun c7 hz3=> ?_))
 refine A4<|A6 (s0:=⟨T [],G []⟩) (D9 Z Z) ?_
 refine B5<|sv Z<|A1<|B2 ?_
 cases hz3
 obtain rfl:=ez3 _ rfl
 refine ⟨nofun,E1 ?_⟩
 rw [bI]at h
 cases h
 exact A8 (.inr Z) (B9 (B0 Z) C2) (.refl _)
 refine B1<|D7<|A6 (s0:=⟨T [(2,(.ptr _ _)),(3,(.ptr _ _)),(7,(.d _))],G [((2,u1),some<|.box 27 _),((3,u1),some<|.box 45 _)]⟩) (D9 Z Z) ?_
 refine B5<|sv Z<|sv Z<|sv Z<|A1<|F8 ?_
 cases hz3
 exact ⟨Z,(),(D9 Z Z)⟩
 refine D2 Z ?_
 cases hz3
 obtain rfl:=ez3 _ rfl
 refine ⟨nofun,C9 Z<|Z9 ?_⟩
 exact ⟨_,(),Z,(D9 Z Z)⟩
 rintro _ ⟨y2,g3,rfl,q2⟩
 rw [bH]at h
 refine A6 q2<|B8<|sv Z<|A1<|B2 ?_
 cases h
 exact A8 (.inr Z) (B9 (B0 Z) C2) (.refl _)
def Dg [Lp](p1:Map)(p2:Work):Option Int:=
  cond ((decide (p2.Lane_<0))||(decide (p2.Lane_≥(p1.Lanes.length:Int)))) (some 7) ((E6 p1.Lanes p2.Lane_).bind fun v1=>(Es v1.Kind).bind fun v2=>((cond (!((decide (p2.From<0))||(decide (p2.From>p2.To)))) (Cq v1.Curve_) (some default))).bind fun v3=>((cond (!((((((decide (p2.From<0))||(decide (p2.From>p2.To)))||(decide (p2.To>v3)))||(decide (p2.Begin<0)))||(decide (p2.Begin≥p2.End)))||(decide (p2.End>1099511627776)))) (Y1 p2.Limit 0 v2.1) (some default))).bind fun v4=>cond (((((((decide (p2.From<0))||(decide (p2.From>p2.To)))||(decide (p2.To>v3)))||(decide (p2.Begin<0)))||(decide (p2.Begin≥p2.End)))||(decide (p2.End>1099511627776)))||(!v4)) (some 2) (some 0))
theorem Ql(p1 p2 r)(h:Dg p1 p2=some r):PCall prog 76 [(.agg (K6 p1)),(.agg (H8 p2))] (i64 r):=by
 refine C4 (fk func76 ntmps76 m0 (by with_unfolding_all rfl)) (nl Z) ?_
 unfold Dg at h
 refine A6 (s0:=⟨T [(0,(.d _)),(1,(.d _))],G []⟩) (D9 Z Z) ?_
 refine lr<|fun u1 _=>sm Z<|sm Z<|sv Z<|A1<|A4<|B8<|sq Z<|sl Z G_hit Z<|sv Z<|sv Z<|gp Z (K1 Z) (fun _=>Z) (gf Z (vl Z G_hit Z)<|gp Z (K1 Z) (fun _=>Z) (gf Z (vl Z (gq Z) Z)<|gf Z (fun w5=>(C3<|A2 w5))<|gf Z (fun w6=>(H5 (A2 w6) (A2 w6) Z))<|sd Z (R4 Z Z<|fun hc=>A2<|K9 hc)<|A1<|cc Z h (fun c1 h=> ?_)<|fun c1 h=> ?_))
 refine B8<|sv Z<|A1<|B2 ?_
 cases h
 exact A8 (.inr Z) (B9 (B0 Z) C2) (.refl _)
 refine B1<|lr<|fun u4 _=>sq Z<|sl Z (gq Z) Z (sq Z<|sl Z G_hit Z<|bs h fun v1 hv1 h=>sd Z (D8 Z Z hv1 Z)<|sd Z (D1 Z hv1 Z Z)<|sm Z<|U1 Z G_hit (Db v1) Z (A1<|A4<|A6 (s0:=⟨T [(3,(.ptr _ _)),(5,(.ptr _ _))],G [((3,u1),some<|.box 50 _),((5,u4),some<|.box 42 _)]⟩) (D9 Z Z) ?_))
 refine B5<|sq Z<|sl Z (gq Z) Z (bs h fun v2 hv2 h=>C0 Z Z A3 (Mq _ _ hv2) (.inl Z) (sv Z<|sv Z<|sv Z<|sv Z<|sv Z<|sv Z<|sv Z<|A1<|A4<|A4<|N2 Z<|sq Z<|sl Z G_hit Z<|sv Z<|sv Z<|gp Z (K1 Z) (fun _=>Z) (gf Z (vl Z G_hit Z)<|gp Z (K1 Z) (fun _=>Z) (gf Z (vl Z G_hit Z)<|gf Z (fun w11=>(H5 (A2 w11) (A2 w11) Z))<|sd Z (R4 Z Z<|fun hc=>A2<|K9 hc)<|sv Z<|gp Z (K1 Z) (fun _=>Z) (gf Z (vl Z G_hit Z)<|gp Z (K1 Z) (fun _=>Z) (gf Z (fun w15=>(B4 (A2 w15) (gq Z) Z Z))<|bs h fun v3 hv3 h=> ?_))))))
 refine O7 _ (i64 v3) (K1 Z) (fun w16=>⟨_,[(.d (.agg [(.list (List.map J6 v1.Curve_.Pts))]))],_,_,(by simp only [A2 w16];rfl),Z,A3,Mr _ _<|G7 w16 hv3,(.inl Z)⟩) ?_
 refine gf Z (fun w17=>(H5 (A2 w17) (A2 w17) Z))<|sd Z (R4 Z Z<|fun hc=>A2<|K9 hc)<|sv Z<|gp Z (K1 Z) (fun _=>Z) (gf Z (vl Z G_hit Z)<|gf Z (vb Z Z Z)<|sd Z (R4 Z Z<|fun hc=>A2<|K9 hc)<|sv Z<|gp Z (K1 Z) (fun _=>Z) (gf Z (vl Z G_hit Z)<|gp Z (K1 Z) (fun _=>Z) (gf Z (vl Z G_hit Z)<|gf Z (fun w25=>(H5 (A2 w25) (A2 w25) Z))<|sd Z (R4 Z Z<|fun hc=>A2<|K9 hc)<|sv Z<|gp Z (K1 Z) (fun _=>Z) (gf Z (vl Z G_hit Z)<|gf Z (vb Z Z Z)<|sd Z (R4 Z Z<|fun hc=>A2<|K9 hc)<|sv Z<|gp Z (K1 Z) (fun _=>Z) (gf Z (vl Z G_hit Z)<|gf Z (fun _=>Z)<|bs h fun v4 hv4 h=> ?_)))))
 refine O7 _ (bo v4) (K1 Z) (fun w32=>⟨_,[(di p2.Limit),(di 0),(di v2.1)],_,_,(by simp only [A2 w32];rfl),Z,A3,Am _ _ _ _<|G7 w32 hv4,(.inl Z)⟩) ?_
 refine S6 _ (.d (bo (!v4))) Z (K1 Z) (fun w33=>(by simp only [A2 w33];rfl)) ?_
 refine sd Z (R4 Z Z<|fun hc=>A2<|K9 hc)<|A1<|cc Z h (fun c2 h=> ?_)<|fun c2 h=> ?_
 refine A4<|A6 (s0:=⟨T [],G []⟩) (D9 Z Z) ?_
 refine B5<|sv Z<|A1<|B2 ?_
 cases h
 exact A8 (.inr Z) (B9 (B0 Z) C2) (.refl _)
 refine B1<|A4<|A6 (s0:=⟨T [],G []⟩) (D9 Z Z) ?_
 refine B5<|sv Z<|A1<|B2 ?_
 cases h
 exact A8 (.inr Z) (B9 (B0 Z) C2) (.refl _)
def Bu [Lp](p1:Map)(x4:(Int×Int)):Option (Stp (Int×Int) Int):=
  cond ((decide (x4.2< (p1.Works.length:Int)))&& (x4.1==0)) ((E6 p1.Works x4.2).bind fun v8=>(Dg p1 v8).bind fun v9=>some (.go (v9,(J3 (x4.2+1))))) (some (.out x4.1))
def Bv [Lp](p1:Map)(x3:(Int×Int)):Option (Stp (Int×Int) Int):=
  cond ((decide (x3.2< (p1.Zones.length:Int)))&& (x3.1==0)) ((E6 p1.Zones x3.2).bind fun v6=>(Df p1 v6).bind fun v7=>some (.go (v7,(J3 (x3.2+1))))) (some (.out x3.1))
def Bw [Lp](p1:Map)(x2:(Int×Int)):Option (Stp (Int×Int) Int):=
  cond ((decide (x2.2< (p1.Signals.length:Int)))&& (x2.1==0)) ((E6 p1.Signals x2.2).bind fun v4=>(Ay p1 v4).bind fun v5=>some (.go (v5,(J3 (x2.2+1))))) (some (.out x2.1))
def Z2 [Lp](p1:Map)(x1:Int):Option (Stp Int (Sum Unit Int)):=
  cond (decide (x1< (p1.Lanes.length:Int))) ((Dd p1 x1).bind fun v2=>cond (v2 !=0) (some (.out (.inr v2))) (some (.go (J3 (x1+1))))) (some (.out (.inl ())))
def Ef [Lp](p1:Map):Option Int:=
  (Y1 p1.Version 0 1099511627776).bind fun v1=>cond (!v1) (some 2) (cond ((p1.Lanes.length:Int)==0) (some 6) (cond ((((decide ((p1.Lanes.length:Int)>12))||(decide ((p1.Zones.length:Int)>12)))||(decide ((p1.Signals.length:Int)>4)))||(decide ((p1.Works.length:Int)>8))) (some 8) (thenS (loop (Z2 p1) 0) (fun _=>(De p1).bind fun v3=>(loop (Bw p1) (v3,0)).bind fun y2=>(loop (Bv p1) (y2,0)).bind fun y3=>(loop (Bu p1) (y3,0)).bind fun y4=>some y4) (fun r=>some r))))
theorem Od(p1 r)(h:Ef p1=some r):PCall prog 17 [(.agg (K6 p1))] (i64 r):=by
 refine C4 (fk func17 ntmps17 m0 (by with_unfolding_all rfl)) (nl Z) ?_
 unfold Ef at h
 refine A6 (s0:=⟨T [(0,(.d _))],G []⟩) (D9 Z Z) ?_
 refine lr<|fun u1 _=>sm Z<|sv Z<|A1<|A4<|B8<|sq Z<|sl Z G_hit Z<|bs h fun v1 hv1 h=>C0 Z Z A3 (Am _ _ _ _ hv1) (.inl Z) (B6 (.d (bo (!v1))) Z Z (A1<|cc Z h (fun c1 h=> ?_)<|fun c1 h=> ?_))
 refine B8<|sv Z<|A1<|B2 ?_
 cases h
 exact A8 (.inr Z) (B9 (B0 Z) C2) (.refl _)
 refine B1<|A4<|B8<|sq Z<|sl Z G_hit Z<|sd Z (C3 Z)<|sv Z<|A1<|cc Z h (fun c2 h=> ?_)<|fun c2 h=> ?_
 refine B8<|sv Z<|A1<|B2 ?_
 cases h
 exact A8 (.inr Z) (B9 (B0 Z) C2) (.refl _)
 refine B1<|A4<|B8<|sq Z<|sl Z G_hit Z<|sd Z (C3 Z)<|sv Z<|sv Z<|gp Z (K1 Z) (fun _=>Z) (gf Z (vl Z G_hit Z)<|gf Z (fun w3=>(C3<|A2 w3))<|gf Z (vb Z Z Z)<|sd Z (R4 Z Z<|fun hc=>A2<|K9 hc)<|sv Z<|gp Z (K1 Z) (fun _=>Z) (gf Z (vl Z G_hit Z)<|gf Z (fun w7=>(C3<|A2 w7))<|gf Z (vb Z Z Z)<|sd Z (R4 Z Z<|fun hc=>A2<|K9 hc)<|sv Z<|gp Z (K1 Z) (fun _=>Z) (gf Z (vl Z G_hit Z)<|gf Z (fun w11=>(C3<|A2 w11))<|gf Z (vb Z Z Z)<|sd Z (R4 Z Z<|fun hc=>A2<|K9 hc)<|A1<|cc Z h (fun c3 h=> ?_)<|fun c3 h=> ?_)))
 refine A4<|A6 (s0:=⟨T [],G []⟩) (D9 Z Z) ?_
 refine B5<|sv Z<|A1<|B2 ?_
 cases h
 exact A8 (.inr Z) (B9 (B0 Z) C2) (.refl _)
 refine B1<|A4<|A4<|A6 (s0:=⟨T [(1,(.ptr _ _))],G [((1,u1),some<|.box 27 _)]⟩) (D9 Z Z) ?_
 refine B5<|sv Z<|A1<|js h fun z1 hz1 h=>E4 (fun s=> ∃(y1:Unit) (g1:Unit),z1= .inl y1∧Sb ⟨T [(1,(.ptr (1,u1) 0))],G [((1,u1),some<|.box 27 (H4 p1))]⟩ s) ?_ ?_
 refine A7<|E5 (Z2 p1) (fun (x1:Int) (g2:Unit)=>⟨T [(1,(.ptr (1,u1) 0)),(3,(di x1))],G [((1,u1),some<|.box 27 (H4 p1))]⟩) 0 () _ hz1 (D9 Z Z) ?_
 intro x1 g2 z2 hz2 ez2
 unfold Z2 at hz2
 refine A4<|B8<|sv Z<|sq Z<|sl Z G_hit Z<|sd Z (C3 Z)<|sv Z<|A1<|cc Z hz2 (fun c4 hz2=> ?_)<|fun c4 hz2=> ?_
 refine B1<|A4<|A7<|B8<|sd Z (B4 Z G_hit Z Z)<|sv Z<|bs hz2 fun _ hv2 hz2=>C0 Z Z A3 (Qi _ _ _ hv2) (.inl Z) (sv Z<|A1<|B8<|sv Z<|sv Z<|A1<|cc Z hz2 (fun c5 hz2=> ?_)<|fun c5 hz2=> ?_)
 refine B8<|sv Z<|sv Z<|A1<|B2 ?_
 cases hz2
 obtain rfl:=ez2 _ rfl
 refine ⟨nofun,E1 ?_⟩
 rw [bI]at h
 cases h
 exact A8 (.inr Z) (B9 (B0 Z) C2) (.refl _)
 refine B1<|D7<|B5<|sv Z<|sv Z<|sv Z<|A1<|F8 ?_
 cases hz2
 exact ⟨Z,(),(D9 Z Z)⟩
 refine D2 Z ?_
 cases hz2
 obtain rfl:=ez2 _ rfl
 refine ⟨nofun,C9 Z<|Z9 ?_⟩
 exact ⟨_,(),Z,(D9 Z Z)⟩
 rintro _ ⟨y1,g1,rfl,q1⟩
 rw [bH]at h
 refine A6 q1<|B8<|sd Z (B4 Z G_hit Z Z)<|bs h fun v3 hv3 h=>C0 Z Z A3 (Qj _ _ hv3) (.inl Z) (sv Z<|A1<|A4<|B8<|sv Z<|A1<|bs h fun y2 hy2 h=>E4 (fun s=> ∃g3:Unit,Sb ⟨T [(1,(.ptr (1,u1) 0)),(5,(di y2))],G [((1,u1),some<|.box 27 (H4 p1))]⟩ s) ?_ ?_)
 refine A7<|E5 (Bw p1) (fun (x2:(Int×Int)) (g4:Unit)=>⟨T [(1,(.ptr (1,u1) 0)),(5,(di x2.1)),(6,(di x2.2))],G [((1,u1),some<|.box 27 (H4 p1))]⟩) (v3,0) () _ hy2 (D9 Z Z) ?_
 intro x2 g4 z3 hz3 ez3
 unfold Bw at hz3
 refine A4<|B8<|sv Z<|sq Z<|sl Z G_hit Z<|sd Z (C3 Z)<|sv Z<|sv Z<|gt Z (fun _=>Z)<|gt Z (vb Z Z Z)<|sa Z Z Z<|A1<|cc Z hz3 (fun c6 hz3=> ?_)<|fun c6 hz3=> ?_
 refine B1<|A4<|A7<|N2 Z<|sd Z (B4 Z G_hit Z Z)<|sq Z<|sl Z G_hit Z<|sv Z<|bs hz3 fun _ hv4 hz3=>sd Z (D8 Z Z hv4 Z)<|sd Z (D1 Z hv4 Z Z)<|bs hz3 fun _ hv5 hz3=>C0 Z Z A3 (Oc _ _ _ hv5) (.inl Z) (sv Z<|A1<|D7<|B5<|sv Z<|sv Z<|sv Z<|A1<|F8 ?_)
 cases hz3
 exact ⟨Z,(),(D9 Z Z)⟩
 refine D2 Z ?_
 cases hz3
 obtain rfl:=ez3 _ rfl
 refine ⟨nofun,C9 Z<|Z9 ?_⟩
 exact ⟨(),(D9 Z Z)⟩
 rintro _ ⟨g3,q2⟩
 refine A6 q2<|A4<|B8<|sv Z<|A1<|bs h fun y3 hy3 h=>E4 (fun s=> ∃g5:Unit,Sb ⟨T [(1,(.ptr (1,u1) 0)),(5,(di y3))],G [((1,u1),some<|.box 27 (H4 p1))]⟩ s) ?_ ?_
 refine A7<|E5 (Bv p1) (fun (x3:(Int×Int)) (g6:Unit)=>⟨T [(1,(.ptr (1,u1) 0)),(5,(di x3.1)),(7,(di x3.2))],G [((1,u1),some<|.box 27 (H4 p1))]⟩) (y2,0) () _ hy3 (D9 Z Z) ?_
 intro x3 g6 z4 hz4 ez4
 unfold Bv at hz4
 refine A4<|B8<|sv Z<|sq Z<|sl Z G_hit Z<|sd Z (C3 Z)<|sv Z<|sv Z<|gt Z (fun _=>Z)<|gt Z (vb Z Z Z)<|sa Z Z Z<|A1<|cc Z hz4 (fun c7 hz4=> ?_)<|fun c7 hz4=> ?_
 refine B1<|A4<|A7<|N2 Z<|sd Z (B4 Z G_hit Z Z)<|sq Z<|sl Z G_hit Z<|sv Z<|bs hz4 fun _ hv6 hz4=>sd Z (D8 Z Z hv6 Z)<|sd Z (D1 Z hv6 Z Z)<|bs hz4 fun _ hv7 hz4=>C0 Z Z A3 (Qk _ _ _ hv7) (.inl Z) (sv Z<|A1<|D7<|B5<|sv Z<|sv Z<|sv Z<|A1<|F8 ?_)
 cases hz4
 exact ⟨Z,(),(D9 Z Z)⟩
 refine D2 Z ?_
 cases hz4
 obtain rfl:=ez4 _ rfl
 refine ⟨nofun,C9 Z<|Z9 ?_⟩
 exact ⟨(),(D9 Z Z)⟩
 rintro _ ⟨g5,q3⟩
 refine A6 q3<|A4<|B8<|sv Z<|A1<|bs h fun y4 hy4 h=>E4 (fun s=> ∃g7:Unit,Sb ⟨T [(5,(di y4))],G []⟩ s) ?_ ?_
 refine A7<|E5 (Bu p1) (fun (x4:(Int×Int)) (g8:Unit)=>⟨T [(1,(.ptr (1,u1) 0)),(5,(di x4.1)),(8,(di x4.2))],G [((1,u1),some<|.box 27 (H4 p1))]⟩) (y3,0) () _ hy4 (D9 Z Z) ?_
 intro x4 g8 z5 hz5 ez5
 unfold Bu at hz5
 refine A4<|B8<|sv Z<|sq Z<|sl Z G_hit Z<|sd Z (C3 Z)<|sv Z<|sv Z<|gt Z (fun _=>Z)<|gt Z (vb Z Z Z)<|sa Z Z Z<|A1<|cc Z hz5 (fun c8 hz5=> ?_)<|fun c8 hz5=> ?_
 refine B1<|A4<|A7<|N2 Z<|sd Z (B4 Z G_hit Z Z)<|sq Z<|sl Z G_hit Z<|sv Z<|bs hz5 fun _ hv8 hz5=>sd Z (D8 Z Z hv8 Z)<|sd Z (D1 Z hv8 Z Z)<|bs hz5 fun _ hv9 hz5=>C0 Z Z A3 (Ql _ _ _ hv9) (.inl Z) (sv Z<|A1<|D7<|B5<|sv Z<|sv Z<|sv Z<|A1<|F8 ?_)
 cases hz5
 exact ⟨Z,(),(D9 Z Z)⟩
 refine D2 Z ?_
 cases hz5
 obtain rfl:=ez5 _ rfl
 refine ⟨nofun,C9 Z<|Z9 ?_⟩
 exact ⟨(),(D9 Z Z)⟩
 rintro _ ⟨g7,q4⟩
 refine A6 q4<|B8<|sv Z<|sv Z<|A1<|B2 ?_
 cases h
 exact A8 (.inr Z) (B9 (B0 Z) C2) (.refl _)
def X6 (p1:Map)(p2:Int):Option Int:=
  (E6 [(p1.Lanes.length:Int),(p1.Zones.length:Int),(p1.Signals.length:Int),(p1.Works.length:Int)] (J3 (p2 - 1))).bind fun v1=>some v1
theorem Hy(p1 p2 r)(h:X6 p1 p2=some r):PCall prog 84 [(.agg (K6 p1)),(i64 p2)] (i64 r):=by
 refine C4 (fk func84 ntmps84 (fun r=>if r==1 then [1012]else []) (by with_unfolding_all rfl)) (nl Z) ?_
 unfold X6 at h
 refine A6 (s0:=⟨T [(0,(.d _)),(1,(.d _))],G []⟩) (D9 Z Z) ?_
 refine B8<|sm Z<|sv Z<|A1<|B8<|sq Z<|sl Z G_hit Z<|sd Z (C3 Z)<|sq Z<|sl Z G_hit Z<|sd Z (C3 Z)<|sq Z<|sl Z G_hit Z<|sd Z (C3 Z)<|sq Z<|sl Z G_hit Z<|sd Z (C3 Z)<|B6 (dl A9 [(p1.Lanes.length:Int),(p1.Zones.length:Int),(p1.Signals.length:Int),(p1.Works.length:Int)]) Z Z (sv Z<|sv Z<|bs h fun _ hv1 h=>sd Z (D8 Z Z hv1 Z)<|sd Z (G1 Z hv1 Z)<|sv Z<|A1<|B2 ?_)
 cases h
 exact A8 (.inr Z) (B9 (B0 Z) C2) (.refl _)
def Fo (p1:Map)(p2:Int):Option Map:=
  cond (p2==1) ((Gi p1.Lanes 0 (J3 ((p1.Lanes.length:Int) - 1))).bind fun v1=>some (Map.mk p1.Version v1 p1.Zones p1.Signals p1.Works)) (cond (p2==2) ((Gi p1.Zones 0 (J3 ((p1.Zones.length:Int) - 1))).bind fun v2=>some (Map.mk p1.Version p1.Lanes v2 p1.Signals p1.Works)) (cond (p2==3) ((Gi p1.Signals 0 (J3 ((p1.Signals.length:Int) - 1))).bind fun v3=>some (Map.mk p1.Version p1.Lanes p1.Zones v3 p1.Works)) (cond (p2==4) ((Gi p1.Works 0 (J3 ((p1.Works.length:Int) - 1))).bind fun v4=>some (Map.mk p1.Version p1.Lanes p1.Zones p1.Signals v4)) (some p1))))
theorem Yj(p1 p2 r)(h:Fo p1 p2=some r):PCall prog 93 [(.agg (K6 p1)),(i64 p2)] (.agg (K6 r)):=by
 refine C4 (fk func93 ntmps93 m0 (by with_unfolding_all rfl)) (nl Z) ?_
 unfold Fo at h
 refine A6 (s0:=⟨T [(0,(.d _)),(1,(.d _))],G []⟩) (D9 Z Z) ?_
 refine lr<|fun u1 _=>sm Z<|sm Z<|A1<|A4<|B8<|sv Z<|A1<|A7<|B8<|sv Z<|sv Z<|A1<|cc Z h (fun c1 h=> ?_)<|fun c1 h=> ?_
 refine B5<|sq Z<|sl Z (gq Z) Z (sq Z<|sl Z (gq Z) Z (sd Z (C3 Z)<|sv Z<|bs h fun v1 hv1 h=>sd Z (Io Z (fun _=>Z) Ns (Pb Z) hv1)<|sq Z<|U1 Z (gq Z) ((H4 p1).set 1 (dl G5 v1)) Z (A1<|D7<|B8<|sd Z (B4 Z G_hit Z Z)<|U1 Z (gq Z) ((H4 p1).set 1 (dl G5 v1)) Z (A1<|B2 ?_))))
 cases h
 exact A8 (.inr Z) (B9 (E7 Z G_hit (nl Z) Z) C2) (.refl _)
 refine B8<|sv Z<|sv Z<|A1<|cc Z h (fun c2 h=> ?_)<|fun c2 h=> ?_
 refine B5<|sq Z<|sl Z (gq Z) Z (sq Z<|sl Z (gq Z) Z (sd Z (C3 Z)<|sv Z<|bs h fun v2 hv2 h=>sd Z (Io Z (fun _=>Z) Ns (Pb Z) hv2)<|sq Z<|U1 Z (gq Z) ((H4 p1).set 2 (dl F0 v2)) Z (A1<|D7<|B8<|sd Z (B4 Z G_hit Z Z)<|U1 Z (gq Z) ((H4 p1).set 2 (dl F0 v2)) Z (A1<|B2 ?_))))
 cases h
 exact A8 (.inr Z) (B9 (E7 Z G_hit (nl Z) Z) C2) (.refl _)
 refine B8<|sv Z<|sv Z<|A1<|cc Z h (fun c3 h=> ?_)<|fun c3 h=> ?_
 refine B5<|sq Z<|sl Z (gq Z) Z (sq Z<|sl Z (gq Z) Z (sd Z (C3 Z)<|sv Z<|bs h fun v3 hv3 h=>sd Z (Io Z (fun _=>Z) Ns (Pb Z) hv3)<|sq Z<|U1 Z (gq Z) ((H4 p1).set 3 (dl E2 v3)) Z (A1<|D7<|B8<|sd Z (B4 Z G_hit Z Z)<|U1 Z (gq Z) ((H4 p1).set 3 (dl E2 v3)) Z (A1<|B2 ?_))))
 cases h
 exact A8 (.inr Z) (B9 (E7 Z G_hit (nl Z) Z) C2) (.refl _)
 refine B8<|sv Z<|sv Z<|A1<|cc Z h (fun c4 h=> ?_)<|fun c4 h=> ?_
 refine B5<|sq Z<|sl Z (gq Z) Z (sq Z<|sl Z (gq Z) Z (sd Z (C3 Z)<|sv Z<|bs h fun v4 hv4 h=>sd Z (Io Z (fun _=>Z) Ns (Pb Z) hv4)<|sq Z<|U1 Z (gq Z) ((H4 p1).set 4 (dl H8 v4)) Z (A1<|D7<|A4<|A6 (s0:=⟨T [(2,(.ptr _ _)),(4,(.ptr _ _))],G [((2,u1),some<|.box 27 _),((4,u1),some<|.box 27 _)]⟩) (D9 Z Z) ?_)))
 refine B5<|sd Z (B4 Z G_hit Z Z)<|U1 Z (gq Z) ((H4 p1).set 4 (dl H8 v4)) Z (A1<|B2 ?_)
 cases h
 exact A8 (.inr Z) (B9 (E7 Z G_hit (nl Z) Z) C2) (.refl _)
 refine B1<|D7<|B8<|sd Z (B4 Z (gq Z) Z Z)<|U1 Z G_hit (H4 p1) Z (A1<|B2 ?_)
 cases h
 exact A8 (.inr Z) (B9 (E7 Z G_hit (nl Z) Z) C2) (.refl _)
def Hp [Lp](p1:Map)(p2:Edit):Option Map:=
  cond (p2.Table==1) ((Gi p1.Lanes 0 p2.At).bind fun v1=>(Q8 ([]:List Lane) v1).bind fun v2=>(Dm p2.Lane_).bind fun v3=>(Q8 v2 [v3]).bind fun v4=>(Gi p1.Lanes (BM false (p1.Lanes.length:Int) (J3 (p2.At+1))) (p1.Lanes.length:Int)).bind fun v5=>(Q8 v4 v5).bind fun v6=>some (Map.mk p1.Version v6 p1.Zones p1.Signals p1.Works)) (cond (p2.Table==2) ((Gi p1.Zones 0 p2.At).bind fun v7=>(Q8 ([]:List Zone) v7).bind fun v8=>(Dn p2.Zone_).bind fun v9=>(Q8 v8 [v9]).bind fun v10=>(Gi p1.Zones (BM false (p1.Zones.length:Int) (J3 (p2.At+1))) (p1.Zones.length:Int)).bind fun v11=>(Q8 v10 v11).bind fun v12=>some (Map.mk p1.Version p1.Lanes v12 p1.Signals p1.Works)) (cond (p2.Table==3) ((Gi p1.Signals 0 p2.At).bind fun v13=>(Q8 ([]:List Signal) v13).bind fun v14=>(Al p2.Signal_).bind fun v15=>(Q8 v14 [v15]).bind fun v16=>(Gi p1.Signals (BM false (p1.Signals.length:Int) (J3 (p2.At+1))) (p1.Signals.length:Int)).bind fun v17=>(Q8 v16 v17).bind fun v18=>some (Map.mk p1.Version p1.Lanes p1.Zones v18 p1.Works)) (cond (p2.Table==4) ((Gi p1.Works 0 p2.At).bind fun v19=>(Q8 ([]:List Work) v19).bind fun v20=>(Q8 v20 [p2.Work_]).bind fun v21=>(Gi p1.Works (BM false (p1.Works.length:Int) (J3 (p2.At+1))) (p1.Works.length:Int)).bind fun v22=>(Q8 v21 v22).bind fun v23=>some (Map.mk p1.Version p1.Lanes p1.Zones p1.Signals v23)) (some p1))))
theorem BI(p1 p2 r)(h:Hp p1 p2=some r):PCall prog 94 [(.agg (K6 p1)),(.agg (Bj p2))] (.agg (K6 r)):=by
 refine C4 (fk func94 ntmps94 (fun r=>if r==3 then [1010]else if r==5 then [1010]else if r==7 then [1010]else if r==9 then [1009]else []) (by with_unfolding_all rfl)) (nl Z) ?_
 unfold Hp at h
 refine A6 (s0:=⟨T [(0,(.d _)),(1,(.d _))],G []⟩) (D9 Z Z) ?_
 refine lr<|fun u1 _=>sm Z<|sm Z<|sn Z Z<|A1<|A4<|B8<|sq Z<|sl Z (gq Z) Z (A1<|A7<|B8<|sv Z<|sv Z<|A1<|cc Z h (fun c1 h=> ?_)<|fun c1 h=> ?_)
 refine Oo fun u4 _=>CR (.sl _) (.arr 42 5 (List.map G5 ([]:List Lane))) Z Z (G4 (.ptr _ _) Z Z (G4 (.d _) Z (M1 Z (gq Z) Z) (G4 (.ptr _ _) Z Z (G4 (.d _) Z (M1 Z (gq Z) Z) (bs h fun _ hv1 h=>G4 (.d _) Z (Io Z (fun _=>Z) Ns (Pb Z) hv1) (bs h fun _ hv2 h=>Cx G5 _ _ _ _ (D0<|fun _=>Z) Z G_hit hv2 (G4 (.ptr _ _) Z Z (G4 (.d _) Z (B4 Z (gq Z) Z Z) (bs h fun v3 hv3 h=>FN Z Z A3 (Lg _ _ hv3) (.inl Z) (G4 (dl G5 [v3]) Z Z (bs h fun _ hv4 h=>Cx G5 _ _ _ _ (D0<|fun _=>Z) Z G_hit hv4 (G4 (.ptr _ _) Z Z (G4 (.d _) Z (M1 Z (gq Z) Z) (G4 (.ptr _ _) Z Z (G4 (.d _) Z (M1 Z (gq Z) Z) (G4 (.d _) Z (C3 Z) (G4 (.ptr _ _) Z Z (G4 (.d _) Z (M1 Z (gq Z) Z) (G4 (.d _) Z Z (G4 (.d _) Z Z (bs h fun _ hv5 h=>G4 (.d _) Z (Io Z (fun _=>Z) (Pb Z) Nr hv5) (bs h fun _ hv6 h=>Cx G5 _ _ _ _ (D0<|fun _=>Z) Z G_hit hv6 (G4 (.ptr _ _) Z Z (Oq _ _ _ _ _ Z Z Z (gq Z) (nl Z) ((H4 p1).set 1 (.sl (31,u4))) Z (Zh ⟨Z,?_⟩)))))))))))))))))))))))))
 refine D7<|A4<|A6 (s0:=⟨T [(2,(.ptr _ _)),(4,(.ptr _ _))],G [((2,u1),some<|.box 27 _),((31,u4),some _),((4,u1),some<|.box 27 _)]⟩) (D9 Z Z) ?_
 refine B5<|B6 (.agg _) Z (B4 Z G_hit Z Z) (U1 Z (gq Z) ((H4 p1).set 1 (.sl (31,u4))) Z (A1<|B2 ?_))
 cases h
 exact A8 (.inr Z) (B9 (E7 Z G_hit (nl Z) Z)<|Sv<|rD<|H3 (Mm<|gq Z)<|rD<|rD<|rD I6) (.refl _)
 refine B8<|sv Z<|sv Z<|A1<|cc Z h (fun c2 h=> ?_)<|fun c2 h=> ?_
 refine Oo fun u7 _=>CR (.sl _) (.arr 45 2 (List.map F0 ([]:List Zone))) Z Z (G4 (.ptr _ _) Z Z (G4 (.d _) Z (M1 Z (gq Z) Z) (G4 (.ptr _ _) Z Z (G4 (.d _) Z (M1 Z (gq Z) Z) (bs h fun _ hv7 h=>G4 (.d _) Z (Io Z (fun _=>Z) Ns (Pb Z) hv7) (bs h fun _ hv8 h=>Cx F0 _ _ _ _ (D0<|fun _=>Z) Z G_hit hv8 (G4 (.ptr _ _) Z Z (G4 (.d _) Z (B4 Z (gq Z) Z Z) (bs h fun v9 hv9 h=>FN Z Z A3 (Lh _ _ hv9) (.inl Z) (G4 (dl F0 [v9]) Z Z (bs h fun _ hv10 h=>Cx F0 _ _ _ _ (D0<|fun _=>Z) Z G_hit hv10 (G4 (.ptr _ _) Z Z (G4 (.d _) Z (M1 Z (gq Z) Z) (G4 (.ptr _ _) Z Z (G4 (.d _) Z (M1 Z (gq Z) Z) (G4 (.d _) Z (C3 Z) (G4 (.ptr _ _) Z Z (G4 (.d _) Z (M1 Z (gq Z) Z) (G4 (.d _) Z Z (G4 (.d _) Z Z (bs h fun _ hv11 h=>G4 (.d _) Z (Io Z (fun _=>Z) (Pb Z) Nr hv11) (bs h fun _ hv12 h=>Cx F0 _ _ _ _ (D0<|fun _=>Z) Z G_hit hv12 (G4 (.ptr _ _) Z Z (Oq _ _ _ _ _ Z Z Z (gq Z) (nl Z) ((H4 p1).set 2 (.sl (57,u7))) Z (Zh ⟨Z,?_⟩)))))))))))))))))))))))))
 refine D7<|A4<|A6 (s0:=⟨T [(2,(.ptr _ _)),(4,(.ptr _ _))],G [((2,u1),some<|.box 27 _),((57,u7),some _),((4,u1),some<|.box 27 _)]⟩) (D9 Z Z) ?_
 refine B5<|B6 (.agg _) Z (B4 Z G_hit Z Z) (U1 Z (gq Z) ((H4 p1).set 2 (.sl (57,u7))) Z (A1<|B2 ?_))
 cases h
 exact A8 (.inr Z) (B9 (E7 Z G_hit (nl Z) Z)<|Sv<|rD<|rD<|H3 (Mm<|gq Z)<|rD<|rD I6) (.refl _)
 refine B8<|sv Z<|sv Z<|A1<|cc Z h (fun c3 h=> ?_)<|fun c3 h=> ?_
 refine Oo fun u10 _=>CR (.sl _) (.arr 48 2 (List.map E2 ([]:List Signal))) Z Z (G4 (.ptr _ _) Z Z (G4 (.d _) Z (M1 Z (gq Z) Z) (G4 (.ptr _ _) Z Z (G4 (.d _) Z (M1 Z (gq Z) Z) (bs h fun _ hv13 h=>G4 (.d _) Z (Io Z (fun _=>Z) Ns (Pb Z) hv13) (bs h fun _ hv14 h=>Cx E2 _ _ _ _ (D0<|fun _=>Z) Z G_hit hv14 (G4 (.ptr _ _) Z Z (G4 (.d _) Z (B4 Z (gq Z) Z Z) (bs h fun v15 hv15 h=>FN Z Z A3 (Jw _ _ hv15) (.inl Z) (G4 (dl E2 [v15]) Z Z (bs h fun _ hv16 h=>Cx E2 _ _ _ _ (D0<|fun _=>Z) Z G_hit hv16 (G4 (.ptr _ _) Z Z (G4 (.d _) Z (M1 Z (gq Z) Z) (G4 (.ptr _ _) Z Z (G4 (.d _) Z (M1 Z (gq Z) Z) (G4 (.d _) Z (C3 Z) (G4 (.ptr _ _) Z Z (G4 (.d _) Z (M1 Z (gq Z) Z) (G4 (.d _) Z Z (G4 (.d _) Z Z (bs h fun _ hv17 h=>G4 (.d _) Z (Io Z (fun _=>Z) (Pb Z) Nr hv17) (bs h fun _ hv18 h=>Cx E2 _ _ _ _ (D0<|fun _=>Z) Z G_hit hv18 (G4 (.ptr _ _) Z Z (Oq _ _ _ _ _ Z Z Z (gq Z) (nl Z) ((H4 p1).set 3 (.sl (83,u10))) Z (Zh ⟨Z,?_⟩)))))))))))))))))))))))))
 refine D7<|A4<|A6 (s0:=⟨T [(2,(.ptr _ _)),(4,(.ptr _ _))],G [((2,u1),some<|.box 27 _),((83,u10),some _),((4,u1),some<|.box 27 _)]⟩) (D9 Z Z) ?_
 refine B5<|B6 (.agg _) Z (B4 Z G_hit Z Z) (U1 Z (gq Z) ((H4 p1).set 3 (.sl (83,u10))) Z (A1<|B2 ?_))
 cases h
 exact A8 (.inr Z) (B9 (E7 Z G_hit (nl Z) Z)<|Sv<|rD<|rD<|rD<|H3 (Mm<|gq Z)<|rD I6) (.refl _)
 refine B8<|sv Z<|sv Z<|A1<|cc Z h (fun c4 h=> ?_)<|fun c4 h=> ?_
 refine Oo fun u13 _=>CR (.sl _) (.arr 50 6 (List.map H8 ([]:List Work))) Z Z (G4 (.ptr _ _) Z Z (G4 (.d _) Z (M1 Z (gq Z) Z) (G4 (.ptr _ _) Z Z (G4 (.d _) Z (M1 Z (gq Z) Z) (bs h fun _ hv19 h=>G4 (.d _) Z (Io Z (fun _=>Z) Ns (Pb Z) hv19) (bs h fun _ hv20 h=>Cx H8 _ _ _ _ (D0<|fun _=>Z) Z G_hit hv20 (G4 (.ptr _ _) Z Z (G4 (.d _) Z (B4 Z (gq Z) Z Z) (G4 (dl H8 [p2.Work_]) Z Z (bs h fun _ hv21 h=>Cx H8 _ _ _ _ (D0<|fun _=>Z) Z G_hit hv21 (G4 (.ptr _ _) Z Z (G4 (.d _) Z (M1 Z (gq Z) Z) (G4 (.ptr _ _) Z Z (G4 (.d _) Z (M1 Z (gq Z) Z) (G4 (.d _) Z (C3 Z) (G4 (.ptr _ _) Z Z (G4 (.d _) Z (M1 Z (gq Z) Z) (G4 (.d _) Z Z (G4 (.d _) Z Z (bs h fun _ hv22 h=>G4 (.d _) Z (Io Z (fun _=>Z) (Pb Z) Nr hv22) (bs h fun _ hv23 h=>Cx H8 _ _ _ _ (D0<|fun _=>Z) Z G_hit hv23 (G4 (.ptr _ _) Z Z (Oq _ _ _ _ _ Z Z Z (gq Z) (nl Z) ((H4 p1).set 4 (.sl (108,u13))) Z (Zh ⟨Z,?_⟩))))))))))))))))))))))))
 refine D7<|A4<|A6 (s0:=⟨T [(2,(.ptr _ _)),(4,(.ptr _ _))],G [((2,u1),some<|.box 27 _),((108,u13),some _),((4,u1),some<|.box 27 _)]⟩) (D9 Z Z) ?_
 refine B5<|B6 (.agg _) Z (B4 Z G_hit Z Z) (U1 Z (gq Z) ((H4 p1).set 4 (.sl (108,u13))) Z (A1<|B2 ?_))
 cases h
 exact A8 (.inr Z) (B9 (E7 Z G_hit (nl Z) Z)<|Sv<|rD<|rD<|rD<|rD<|H3 (Mm<|gq Z) I6) (.refl _)
 refine B1<|D7<|B8<|sd Z (B4 Z (gq Z) Z Z)<|U1 Z G_hit (H4 p1) Z (A1<|B2 ?_)
 cases h
 exact A8 (.inr Z) (B9 (E7 Z G_hit (nl Z) Z) C2) (.refl _)
def Bx [Lp](p2:Patch)(x1:(Int×Map)):Option (Stp (Int×Map) (Sum Map (Map×Int))):=
  cond (decide (x1.1< (p2.Edits.length:Int))) ((E6 p2.Edits x1.1).bind fun v3=>cond ((((decide (v3.Kind<1))||(decide (v3.Kind>3)))||(decide (v3.Table<1)))||(decide (v3.Table>4))) (some (.out (.inr ((Map.mk 0 [] [] [] []),4)))) ((X6 x1.2 v3.Table).bind fun v4=>cond ((((v3.Kind==1)&& (v3.At !=v4))||((v3.Kind==2)&& ((v4==0)||(v3.At !=(J3 (v4 - 1))))))||((v3.Kind==3)&& ((decide (v3.At<0))||(decide (v3.At≥v4))))) (some (.out (.inr ((Map.mk 0 [] [] [] []),2)))) (cond (v3.Kind==2) ((Fo x1.2 v3.Table).bind fun v5=>some (.go ((J3 (x1.1+1)),v5))) ((Hp x1.2 v3).bind fun v6=>some (.go ((J3 (x1.1+1)),v6)))))) (some (.out (.inl x1.2)))
def Ig [Lp](p1:Map)(p2:Patch):Option (Map×Int):=
  (Ef p1).bind fun v1=>cond (v1 !=0) (some ((Map.mk 0 [] [] [] []),v1)) (cond (p2.Base !=p1.Version) (some ((Map.mk 0 [] [] [] []),14)) ((Fl p1).bind fun v2=>thenS (loop (Bx p2) (0,v2)) (fun y1=>cond (y1.Version==1099511627776) (some ((Map.mk 0 [] [] [] []),2)) ((Ef (Map.mk (J3 (y1.Version+1)) y1.Lanes y1.Zones y1.Signals y1.Works)).bind fun v7=>cond (v7 !=0) (some ((Map.mk 0 [] [] [] []),v7)) (some ((Map.mk (J3 (y1.Version+1)) y1.Lanes y1.Zones y1.Signals y1.Works),0)))) (fun r=>some r)))
theorem Xf(p1 p2 r)(h:Ig p1 p2=some r):PCall prog 22 [(.agg (K6 p1)),(.agg [(i64 p2.Base),(.list (List.map Bj p2.Edits))])] (.tup [(.agg (K6 r.1)),(i64 r.2)]):=by
 refine C4 (fk func22 ntmps22 m0 (by with_unfolding_all rfl)) (nl Z) ?_
 unfold Ig at h
 refine A6 (s0:=⟨T [(0,(.d _)),(1,(.d _))],G []⟩) (D9 Z Z) ?_
 refine lr<|fun u1 _=>sm Z<|sm Z<|sn Z Z<|sv Z<|A1<|B8<|sd Z (B4 Z (gq Z) Z Z)<|bs h fun _ hv1 h=>C0 Z Z A3 (Od _ _ hv1) (.inl Z) (sv Z<|A1<|A4<|B8<|sv Z<|sv Z<|A1<|cc Z h (fun c1 h=> ?_)<|fun c1 h=> ?_)
 refine B8<|sv Z<|sv Z<|U1 Z G_hit [(di 0),(.d .nilS),(.d .nilS),(.d .nilS),(.d .nilS)] Z (sv Z<|A1<|B2 ?_)
 cases h
 exact A8 (.inr Z) (Ha (E7 Z G_hit (nl Z) Z) (B0 Z) C2 C2) (.tup (.cons (.agg (ca Z<|.cons ⟨DLe.nil,Z⟩ (.cons ⟨DLe.nil,Z⟩ (.cons ⟨DLe.nil,Z⟩ (.cons ⟨DLe.nil,Z⟩ .nil))))) A3))
 refine B1<|A4<|B8<|sq Z<|sl Z (gq Z) Z (sq Z<|sl Z (gq Z) Z (sv Z<|A1<|cc Z h (fun c2 h=> ?_)<|fun c2 h=> ?_))
 refine B8<|sv Z<|U1 Z G_hit [(di 0),(.d .nilS),(.d .nilS),(.d .nilS),(.d .nilS)] Z (sv Z<|A1<|B2 ?_)
 cases h
 exact A8 (.inr Z) (Ha (E7 Z G_hit (nl Z) Z) (B0 Z) C2 C2) (.tup (.cons (.agg (ca Z<|.cons ⟨DLe.nil,Z⟩ (.cons ⟨DLe.nil,Z⟩ (.cons ⟨DLe.nil,Z⟩ (.cons ⟨DLe.nil,Z⟩ .nil))))) A3))
 refine B1<|lr<|fun u7 _=>sd Z (B4 Z (gq Z) Z Z)<|bs h fun v2 hv2 h=>C0 Z Z A3 (Pn _ _ hv2) (.inl Z) (sm Z<|U1 Z G_hit (H4 v2) Z (A1<|A4<|A4<|A6 (s0:=⟨T [(3,(.ptr _ _)),(4,(.ptr _ _)),(7,(.ptr _ _))],G [((3,u1),some<|.box 36 _),((4,u1),some<|.box 27 _),((7,u7),some<|.box 27 _)]⟩) (D9 Z Z) ?_))
 refine B5<|sv Z<|A1<|js h fun z1 hz1 h=>E4 (fun s=> ∃(y1:Map) (g1:Unit),z1= .inl y1∧Sb ⟨T [(4,(.ptr (4,u1) 0)),(7,(.ptr (7,u7) 0))],G [((4,u1),some<|.box 27 [(di 0),(.d .nilS),(.d .nilS),(.d .nilS),(.d .nilS)]),((7,u7),some<|.box 27 (H4 y1))]⟩ s) ?_ ?_
 refine A7<|E5 (Bx p2) (fun (x1:(Int×Map)) (g2:Unit)=>⟨T [(3,(.ptr (3,u1) 0)),(4,(.ptr (4,u1) 0)),(7,(.ptr (7,u7) 0)),(8,(di x1.1))],G [((3,u1),some<|.box 36 [(di p2.Base),(dl Bj p2.Edits)]),((4,u1),some<|.box 27 [(di 0),(.d .nilS),(.d .nilS),(.d .nilS),(.d .nilS)]),((7,u7),some<|.box 27 (H4 x1.2))]⟩) (0,v2) () _ hz1 (D9 Z Z) ?_
 intro x1 g2 z2 hz2 ez2
 unfold Bx at hz2
 refine A4<|B8<|sv Z<|sq Z<|sl Z G_hit Z<|sd Z (C3 Z)<|sv Z<|A1<|cc Z hz2 (fun c3 hz2=> ?_)<|fun c3 hz2=> ?_
 refine B1<|A4<|A7<|lr<|fun u10 _=>sq Z<|sl Z G_hit Z<|sv Z<|bs hz2 fun v3 hv3 hz2=>sd Z (D8 Z Z hv3 Z)<|sd Z (D1 Z hv3 Z Z)<|sm Z<|U1 Z G_hit (DB v3) Z (A1<|A4<|B8<|sq Z<|sl Z G_hit Z<|sv Z<|sv Z<|gp Z (K1 Z) (fun _=>Z) (gf Z (vl Z G_hit Z)<|gf Z (vb Z Z Z)<|sd Z (R4 Z Z<|fun hc=>A2<|K9 hc)<|sv Z<|gp Z (K1 Z) (fun _=>Z) (gf Z (vl Z G_hit Z)<|gf Z (vb Z Z Z)<|sd Z (R4 Z Z<|fun hc=>A2<|K9 hc)<|sv Z<|gp Z (K1 Z) (fun _=>Z) (gf Z (vl Z G_hit Z)<|gf Z (vb Z Z Z)<|sd Z (R4 Z Z<|fun hc=>A2<|K9 hc)<|A1<|cc Z hz2 (fun c4 hz2=> ?_)<|fun c4 hz2=> ?_))))
 refine A4<|A6 (s0:=⟨T [(4,(.ptr _ _))],G [((4,u1),some<|.box 27 _)]⟩) (D9 Z Z) ?_
 refine B5<|sv Z<|U1 Z G_hit [(di 0),(.d .nilS),(.d .nilS),(.d .nilS),(.d .nilS)] Z (sv Z<|A1<|B2 ?_)
 cases hz2
 obtain rfl:=ez2 _ rfl
 refine ⟨nofun,E1 ?_⟩
 rw [bI]at h
 cases h
 exact A8 (.inr Z) (Ha (E7 Z G_hit (nl Z) Z) (B0 Z) C2 C2) (.tup (.cons (.agg (ca Z<|.cons ⟨DLe.nil,Z⟩ (.cons ⟨DLe.nil,Z⟩ (.cons ⟨DLe.nil,Z⟩ (.cons ⟨DLe.nil,Z⟩ .nil))))) A3))
 refine B1<|A4<|A6 (s0:=⟨T [(3,(.ptr _ _)),(4,(.ptr _ _)),(7,(.ptr _ _)),(8,(.d _)),(9,(.ptr _ _))],G [((3,u1),some<|.box 36 _),((4,u1),some<|.box 27 _),((7,u7),some<|.box 27 _),((9,u10),some<|.box 52 _)]⟩) (D9 Z Z) ?_
 refine B5<|sd Z (B4 Z (gq Z) Z Z)<|sq Z<|sl Z (gq Z) Z (bs hz2 fun _ hv4 hz2=>C0 Z Z A3 (Hy _ _ _ hv4) (.inl Z) (sv Z<|A1<|A4<|B8<|sq Z<|sl Z (gq Z) Z (sv Z<|sv Z<|gp Z (I9 Z) (fun _=>Z) (gt Z (vl Z (gq Z) Z)<|gt Z (fun _=>Z)<|gt Z (fun w13=>(H5 (A2 w13) (A2 w13) Z))<|sa Z Z Z<|sv Z<|gp Z (K1 Z) (fun _=>Z) (gf Z (vl Z (gq Z) Z)<|gf Z (vb Z Z Z)<|gf Z (fun w17=>(KY<|A2 w17))<|gv Z (Gk Z) (fun _=>Z) (gv Z (Gk Z) (vb Z Z Z) (gv Z (Gk Z) (fun w20=>(KY<|A2 w20)) (S6 _ (.ptr _ _) Z (Rj Z) (fun _=>Z) (gv Z (Rj Z) (vl Z (gq Z) Z) (gv Z (Rj Z) (fun _=>Z) (gv Z (Rj Z) (vb Z Z Z) (gv Z (Rj Z) (fun w25=>(H5 (A2 w25) (A2 w25) Z)) (gv Z (Gk Z) (fun w26=>(R4 (A2 w26) Z (fun hc=>A2<|CQ w26<|K9 hc))) (gf Z (fun w27=>(GS (A2 w27) (fun hc=>A2<|CQ w27 hc) Z))<|sd Z (R4 Z Z<|fun hc=>A2<|K9 hc)<|sv Z<|gp Z (K1 Z) (fun _=>Z) (gf Z (vl Z (gq Z) Z)<|gf Z (vb Z Z Z)<|gf Z (fun w31=>(KY<|A2 w31))<|S6 _ (.ptr _ _) Z (Gk Z) (fun _=>Z) (gv Z (Gk Z) (vl Z (gq Z) Z) (gv Z (Gk Z) (vb Z Z Z) (gv Z (Gk Z) (fun w35=>(KY<|A2 w35)) (S6 _ (.ptr _ _) Z (Rj Z) (fun _=>Z) (gv Z (Rj Z) (vl Z (gq Z) Z) (gv Z (Rj Z) (fun _=>Z) (gv Z (Rj Z) (fun w39=>(H5 (A2 w39) (A2 w39) Z)) (gv Z (Gk Z) (fun w40=>(R4 (A2 w40) Z (fun hc=>A2<|CQ w40<|K9 hc))) (gf Z (fun w41=>(GS (A2 w41) (fun hc=>A2<|CQ w41 hc) Z))<|sd Z (R4 Z Z<|fun hc=>A2<|K9 hc)<|A1<|cc Z hz2 (fun c5 hz2=> ?_)<|fun c5 hz2=> ?_))))))))))))))))))))))))
 refine A4<|A6 (s0:=⟨T [(4,(.ptr _ _))],G [((4,u1),some<|.box 27 _)]⟩) (D9 Z Z) ?_
 refine B5<|sv Z<|U1 Z G_hit [(di 0),(.d .nilS),(.d .nilS),(.d .nilS),(.d .nilS)] Z (sv Z<|A1<|B2 ?_)
 cases hz2
 obtain rfl:=ez2 _ rfl
 refine ⟨nofun,E1 ?_⟩
 rw [bI]at h
 cases h
 exact A8 (.inr Z) (Ha (E7 Z G_hit (nl Z) Z) (B0 Z) C2 C2) (.tup (.cons (.agg (ca Z<|.cons ⟨DLe.nil,Z⟩ (.cons ⟨DLe.nil,Z⟩ (.cons ⟨DLe.nil,Z⟩ (.cons ⟨DLe.nil,Z⟩ .nil))))) A3))
 refine B1<|A4<|A6 (s0:=⟨T [(3,(.ptr _ _)),(4,(.ptr _ _)),(7,(.ptr _ _)),(8,(.d _)),(9,(.ptr _ _))],G [((3,u1),some<|.box 36 _),((4,u1),some<|.box 27 _),((7,u7),some<|.box 27 _),((9,u10),some<|.box 52 _)]⟩) (D9 Z Z) ?_
 refine B5<|sq Z<|sl Z (gq Z) Z (sv Z<|A1<|cc Z hz2 (fun c6 hz2=> ?_)<|fun c6 hz2=> ?_)
 refine B5<|sd Z (B4 Z (gq Z) Z Z)<|sq Z<|sl Z (gq Z) Z (bs hz2 fun v5 hv5 hz2=>C0 Z Z A3 (Yj _ _ _ hv5) (.inl Z) (U1 Z (gq Z) (H4 v5) Z (A1<|D7<|B5<|sv Z<|sv Z<|sv Z<|A1<|F8 ?_)))
 cases hz2
 exact ⟨Z,(),(D9 Z Z)⟩
 refine B5<|sd Z (B4 Z (gq Z) Z Z)<|sd Z (B4 Z (gq Z) Z Z)<|bs hz2 fun v6 hv6 hz2=>C0 Z Z A3 (BI _ _ _ hv6) (.inl Z) (U1 Z (gq Z) (H4 v6) Z (A1<|D7<|B5<|sv Z<|sv Z<|sv Z<|A1<|F8 ?_))
 cases hz2
 exact ⟨Z,(),(D9 Z Z)⟩
 refine D2 Z ?_
 cases hz2
 obtain rfl:=ez2 _ rfl
 refine ⟨nofun,C9 Z<|Z9 ?_⟩
 exact ⟨_,(),Z,(D9 Z Z)⟩
 rintro _ ⟨y1,g1,rfl,q1⟩
 rw [bH]at h
 refine A6 q1<|A4<|B8<|sq Z<|sl Z (gq Z) Z (sv Z<|A1<|cc Z h (fun c7 h=> ?_)<|fun c7 h=> ?_)
 refine B8<|sv Z<|U1 Z G_hit [(di 0),(.d .nilS),(.d .nilS),(.d .nilS),(.d .nilS)] Z (sv Z<|A1<|B2 ?_)
 cases h
 exact A8 (.inr Z) (Ha (E7 Z G_hit (nl Z) Z) (B0 Z) C2 C2) (.tup (.cons (.agg (ca Z<|.cons ⟨DLe.nil,Z⟩ (.cons ⟨DLe.nil,Z⟩ (.cons ⟨DLe.nil,Z⟩ (.cons ⟨DLe.nil,Z⟩ .nil))))) A3))
 refine B1<|B8<|sq Z<|sl Z (gq Z) Z (sv Z<|sq Z<|U1 Z (gq Z) ((H4 y1).set 0 (di<|J3 (y1.Version+1))) Z (A1<|B8<|sd Z (B4 Z G_hit Z Z)<|bs h fun _ hv7 h=>C0 Z Z A3 (Od _ _ hv7) (.inl Z) (sv Z<|A1<|A4<|B8<|sv Z<|sv Z<|A1<|cc Z h (fun c8 h=> ?_)<|fun c8 h=> ?_)))
 refine B8<|sv Z<|sv Z<|U1 Z (gq Z) [(di 0),(.d .nilS),(.d .nilS),(.d .nilS),(.d .nilS)] Z (sv Z<|A1<|B2 ?_)
 cases h
 exact A8 (.inr Z) (Ha (E7 Z G_hit (nl Z) Z) (B0 Z) C2 C2) (.tup (.cons (.agg (ca Z<|.cons ⟨DLe.nil,Z⟩ (.cons ⟨DLe.nil,Z⟩ (.cons ⟨DLe.nil,Z⟩ (.cons ⟨DLe.nil,Z⟩ .nil))))) A3))
 refine B1<|B8<|sd Z (B4 Z G_hit Z Z)<|U1 Z (gq Z) ((H4 y1).set 0 (di<|J3 (y1.Version+1))) Z (sv Z<|A1<|B2 ?_)
 cases h
 exact A8 (.inr Z) (Ha (E7 Z G_hit (nl Z) Z) (B0 Z) C2 C2) (.refl _)
def Fh (p1:Curve)(p2:Curve)(x1:Int):Option (Stp Int (Sum Unit Bool)):=
  cond (decide (x1< (p1.Pts.length:Int))) ((E6 p1.Pts x1).bind fun v1=>(E6 p2.Pts x1).bind fun v2=>cond (!(v1.X==v2.X&& (v1.Y==v2.Y&&true))) (some (.out (.inr false))) (some (.go (J3 (x1+1))))) (some (.out (.inl ())))
def Jy [Lp](p1:Curve)(p2:Curve):Option Bool:=
  cond ((p1.Pts.length:Int) !=(p2.Pts.length:Int)) (some false) (thenS (loop (Fh p1 p2) 0) (fun _=>some true) (fun r=>some r))
theorem Yk(p1 p2 r)(h:Jy p1 p2=some r):PCall prog 204 [(.agg [(.list (List.map J6 p1.Pts))]),(.agg [(.list (List.map J6 p2.Pts))])] (bo r):=by
 refine C4 (fk func204 ntmps204 m0 (by with_unfolding_all rfl)) (nl Z) ?_
 unfold Jy at h
 refine A6 (s0:=⟨T [(0,(.d _)),(1,(.d _))],G []⟩) (D9 Z Z) ?_
 refine lr<|fun u1 _=>sm Z<|sm Z<|sv Z<|A1<|A4<|B8<|sq Z<|sl Z (gq Z) Z (sd Z (C3 Z)<|sq Z<|sl Z G_hit Z<|sd Z (C3 Z)<|sv Z<|A1<|cc Z h (fun c1 h=> ?_)<|fun c1 h=> ?_)
 refine B8<|sv Z<|A1<|B2 ?_
 cases h
 exact A8 (.inr Z) (B9 (B0 Z) C2) (.refl _)
 refine B1<|A4<|B8<|sv Z<|A1<|js h fun z1 hz1 h=>E4 (fun s=> ∃(y1:Unit) (g1:Unit),z1= .inl y1∧Sb ⟨T [],G []⟩ s) ?_ ?_
 refine A7<|E5 (Fh p1 p2) (fun (x1:Int) (g2:Unit)=>⟨T [(2,(.ptr (2,u1) 0)),(3,(.ptr (3,u1) 0)),(5,(di x1))],G [((2,u1),some<|.box 39 [(dl J6 p1.Pts)]),((3,u1),some<|.box 39 [(dl J6 p2.Pts)])]⟩) 0 () _ hz1 (D9 Z Z) ?_
 intro x1 g2 z2 hz2 ez2
 unfold Fh at hz2
 refine A4<|B8<|sv Z<|sq Z<|sl Z G_hit Z<|sd Z (C3 Z)<|sv Z<|A1<|cc Z hz2 (fun c2 hz2=> ?_)<|fun c2 hz2=> ?_
 refine B1<|A4<|A7<|A4<|N2 Z<|sq Z<|sl Z G_hit Z<|sv Z<|bs hz2 fun v1 hv1 hz2=>sd Z (D8 Z Z hv1 Z)<|sd Z (D1 Z hv1 Z Z)<|sq Z<|sl Z (gq Z) Z (sv Z<|bs hz2 fun v2 hv2 hz2=>sd Z (D8 Z Z hv2 Z)<|sd Z (D1 Z hv2 Z Z)<|B6 (.d (bo (!(v1.X==v2.X&& (v1.Y==v2.Y&&true))))) Z Z (A1<|cc Z hz2 (fun c3 hz2=> ?_)<|fun c3 hz2=> ?_))
 refine B8<|sv Z<|A1<|B2 ?_
 cases hz2
 obtain rfl:=ez2 _ rfl
 refine ⟨nofun,E1 ?_⟩
 rw [bI]at h
 cases h
 exact A8 (.inr Z) (B9 (B0 Z) C2) (.refl _)
 refine B1<|D7<|B5<|sv Z<|sv Z<|sv Z<|A1<|F8 ?_
 cases hz2
 exact ⟨Z,(),(D9 Z Z)⟩
 refine D2 Z ?_
 cases hz2
 obtain rfl:=ez2 _ rfl
 refine ⟨nofun,C9 Z<|Z9 ?_⟩
 exact ⟨_,(),Z,(D9 Z Z)⟩
 rintro _ ⟨y1,g1,rfl,q1⟩
 rw [bH]at h
 refine A6 q1<|B8<|sv Z<|A1<|B2 ?_
 cases h
 exact A8 (.inr Z) (B9 (B0 Z) C2) (.refl _)
def Az (p1:(List Int))(p2:(List Int))(x1:Int):Option (Stp Int (Sum Unit Bool)):=
  cond ((decide (x1< (p1.length:Int)))&& (decide (x1< (p2.length:Int)))) ((E6 p1 x1).bind fun v1=>(E6 p2 x1).bind fun v2=>cond (v1 !=v2) (some (.out (.inr false))) (some (.go (J3 (x1+1))))) (some (.out (.inl ())))
def By [Lp](p1:(List Int))(p2:(List Int)):Option Bool:=
  thenS (loop (Az p1 p2) 0) (fun _=>some ((p1.length:Int)==(p2.length:Int))) (fun r=>some r)
theorem Km(p1 p2 r)(h:By p1 p2=some r):PCall prog 205 [(.list (List.map A9 p1)),(.list (List.map A9 p2))] (bo r):=by
 refine C4 (fk func205 ntmps205 m0 (by with_unfolding_all rfl)) (nl Z) ?_
 unfold By at h
 refine A6 (s0:=⟨T [(0,(.d _)),(1,(.d _))],G []⟩) (D9 Z Z) ?_
 refine B8<|sv Z<|A1<|A4<|B8<|sv Z<|A1<|js h fun z1 hz1 h=>E4 (fun s=> ∃(y1:Unit) (g1:Unit),z1= .inl y1∧Sb ⟨T [(0,(dl A9 p1)),(1,(dl A9 p2))],G []⟩ s) ?_ ?_
 refine A7<|E5 (Az p1 p2) (fun (x1:Int) (g2:Unit)=>⟨T [(0,(dl A9 p1)),(1,(dl A9 p2)),(5,(di x1))],G []⟩) 0 () _ hz1 (D9 Z Z) ?_
 intro x1 g2 z2 hz2 ez2
 unfold Az at hz2
 refine A4<|B8<|sv Z<|sv Z<|sd Z (C3 Z)<|sv Z<|sv Z<|gt Z (fun _=>Z)<|gt Z (fun _=>Z)<|gt Z (fun w3=>(C3<|A2 w3))<|gt Z (fun w4=>(H5 (A2 w4) (A2 w4) Z))<|sa Z Z Z<|A1<|cc Z hz2 (fun c1 hz2=> ?_)<|fun c1 hz2=> ?_
 refine B1<|A4<|A7<|A4<|N2 Z<|sv Z<|sv Z<|bs hz2 fun _ hv1 hz2=>sd Z (D8 Z Z hv1 Z)<|sd Z (G1 Z hv1 Z)<|sv Z<|sv Z<|bs hz2 fun _ hv2 hz2=>sd Z (D8 Z Z hv2 Z)<|sd Z (G1 Z hv2 Z)<|sv Z<|A1<|cc Z hz2 (fun c2 hz2=> ?_)<|fun c2 hz2=> ?_
 refine B8<|sv Z<|A1<|B2 ?_
 cases hz2
 obtain rfl:=ez2 _ rfl
 refine ⟨nofun,E1 ?_⟩
 rw [bI]at h
 cases h
 exact A8 (.inr Z) (B9 (B0 Z) C2) (.refl _)
 refine B1<|D7<|B5<|sv Z<|sv Z<|sv Z<|A1<|F8 ?_
 cases hz2
 exact ⟨Z,(),(D9 Z Z)⟩
 refine D2 Z ?_
 cases hz2
 obtain rfl:=ez2 _ rfl
 refine ⟨nofun,C9 Z<|Z9 ?_⟩
 exact ⟨_,(),Z,(D9 Z Z)⟩
 rintro _ ⟨y1,g1,rfl,q1⟩
 rw [bH]at h
 refine A6 q1<|B8<|sv Z<|sd Z (C3 Z)<|sv Z<|sd Z (C3 Z)<|sv Z<|sv Z<|A1<|B2 ?_
 cases h
 exact A8 (.inr Z) (B9 (B0 Z) C2) (.refl _)
def Eg [Lp](p1:Lane)(p2:Lane):Option Bool:=
  ((cond (((p1.Kind==p2.Kind)&& (p1.Half==p2.Half))&& (p1.Limit==p2.Limit)) (Jy p1.Curve_ p2.Curve_) (some default))).bind fun v1=>((cond ((((p1.Kind==p2.Kind)&& (p1.Half==p2.Half))&& (p1.Limit==p2.Limit))&&v1) (By p1.Next p2.Next) (some default))).bind fun v2=>some (((((p1.Kind==p2.Kind)&& (p1.Half==p2.Half))&& (p1.Limit==p2.Limit))&&v1)&&v2)
theorem Ru(p1 p2 r)(h:Eg p1 p2=some r):PCall prog 109 [(.agg (G5 p1)),(.agg (G5 p2))] (bo r):=by
 refine C4 (fk func109 ntmps109 m0 (by with_unfolding_all rfl)) (nl Z) ?_
 unfold Eg at h
 refine A6 (s0:=⟨T [(0,(.d _)),(1,(.d _))],G []⟩) (D9 Z Z) ?_
 refine B8<|sm Z<|sn Z Z<|sv Z<|A1<|B8<|sq Z<|sl Z (gq Z) Z (sq Z<|sl Z G_hit Z<|sv Z<|sv Z<|gp Z (I9 Z) (fun _=>Z) (gt Z (vl Z (gq Z) Z)<|gp Z (I9 Z) (fun _=>Z) (gt Z (vl Z G_hit Z)<|gt Z (fun w5=>(H5 (A2 w5) (A2 w5) Z))<|sa Z Z Z<|sv Z<|gp Z (I9 Z) (fun _=>Z) (gt Z (vl Z (gq Z) Z)<|gp Z (I9 Z) (fun _=>Z) (gt Z (vl Z G_hit Z)<|gt Z (fun w10=>(H5 (A2 w10) (A2 w10) Z))<|sa Z Z Z<|sv Z<|gp Z (I9 Z) (fun _=>Z) (gt Z (fun w12=>(B4 (A2 w12) (gq Z) Z Z))<|gp Z (I9 Z) (fun _=>Z) (gt Z (fun w14=>(B4 (A2 w14) G_hit Z Z))<|bs h fun v1 hv1 h=> ?_)))))))
 refine O7 _ (bo v1) (I9 Z) (fun w15=>⟨_,[(.d (.agg [(.list (List.map J6 p1.Curve_.Pts))])),(.d (.agg [(.list (List.map J6 p2.Curve_.Pts))]))],_,_,(by simp only [A2 w15];rfl),Z,A3,Yk _ _ _<|G7 w15 hv1,(.inl Z)⟩) ?_
 refine sa Z Z Z<|sv Z<|gp Z (I9 Z) (fun _=>Z) (gt Z (vl Z (gq Z) Z)<|gp Z (I9 Z) (fun _=>Z) (gt Z (vl Z G_hit Z)<|bs h fun v2 hv2 h=> ?_))
 refine O7 _ (bo v2) (I9 Z) (fun w20=>⟨_,[(dl A9 p1.Next),(dl A9 p2.Next)],_,_,(by simp only [A2 w20];rfl),Z,A3,Km _ _ _<|G7 w20 hv2,(.inl Z)⟩) ?_
 refine sa Z Z Z<|sv Z<|A1<|B2 ?_
 cases h
 exact A8 (.inr Z) (B9 (B0 Z) C2) (.refl _)
def Ba (p1:Zone)(p2:Zone)(x1:Int):Option (Stp Int (Sum Unit Bool)):=
  cond ((decide (x1< (p1.Parts.length:Int)))&& (decide (x1< (p2.Parts.length:Int)))) ((E6 p1.Parts x1).bind fun v1=>(E6 p2.Parts x1).bind fun v2=>cond (!(v1.Lane_==v2.Lane_&& (v1.From==v2.From&& (v1.To==v2.To&& (v1.Rank==v2.Rank&&true))))) (some (.out (.inr false))) (some (.go (J3 (x1+1))))) (some (.out (.inl ())))
def Eh [Lp](p1:Zone)(p2:Zone):Option Bool:=
  thenS (loop (Ba p1 p2) 0) (fun _=>some ((p1.Signal_==p2.Signal_)&& ((p1.Parts.length:Int)==(p2.Parts.length:Int)))) (fun r=>some r)
theorem Rv(p1 p2 r)(h:Eh p1 p2=some r):PCall prog 110 [(.agg [(.list (List.map H6 p1.Parts)),(i64 p1.Signal_)]),(.agg [(.list (List.map H6 p2.Parts)),(i64 p2.Signal_)])] (bo r):=by
 refine C4 (fk func110 ntmps110 m0 (by with_unfolding_all rfl)) (nl Z) ?_
 unfold Eh at h
 refine A6 (s0:=⟨T [(0,(.d _)),(1,(.d _))],G []⟩) (D9 Z Z) ?_
 refine lr<|fun u1 _=>sm Z<|sm Z<|sv Z<|A1<|A4<|B8<|sv Z<|A1<|js h fun z1 hz1 h=>E4 (fun s=> ∃(y1:Unit) (g1:Unit),z1= .inl y1∧Sb ⟨T [(2,(.ptr (2,u1) 0)),(3,(.ptr (3,u1) 0))],G [((2,u1),some<|.box 45 [(dl H6 p1.Parts),(di p1.Signal_)]),((3,u1),some<|.box 45 [(dl H6 p2.Parts),(di p2.Signal_)])]⟩ s) ?_ ?_
 refine A7<|E5 (Ba p1 p2) (fun (x1:Int) (g2:Unit)=>⟨T [(2,(.ptr (2,u1) 0)),(3,(.ptr (3,u1) 0)),(5,(di x1))],G [((2,u1),some<|.box 45 [(dl H6 p1.Parts),(di p1.Signal_)]),((3,u1),some<|.box 45 [(dl H6 p2.Parts),(di p2.Signal_)])]⟩) 0 () _ hz1 (D9 Z Z) ?_
 intro x1 g2 z2 hz2 ez2
 unfold Ba at hz2
 refine A4<|B8<|sv Z<|sq Z<|sl Z G_hit Z<|sd Z (C3 Z)<|sv Z<|sv Z<|gt Z (fun _=>Z)<|gp Z (I9 Z) (fun _=>Z) (gt Z (vl Z (gq Z) Z)<|gt Z (fun w4=>(C3<|A2 w4))<|gt Z (fun w5=>(H5 (A2 w5) (A2 w5) Z))<|sa Z Z Z<|A1<|cc Z hz2 (fun c1 hz2=> ?_)<|fun c1 hz2=> ?_)
 refine B1<|A4<|A7<|A4<|N2 Z<|sq Z<|sl Z G_hit Z<|sv Z<|bs hz2 fun v1 hv1 hz2=>sd Z (D8 Z Z hv1 Z)<|sd Z (D1 Z hv1 Z Z)<|sq Z<|sl Z (gq Z) Z (sv Z<|bs hz2 fun v2 hv2 hz2=>sd Z (D8 Z Z hv2 Z)<|sd Z (D1 Z hv2 Z Z)<|B6 (.d (bo (!(v1.Lane_==v2.Lane_&& (v1.From==v2.From&& (v1.To==v2.To&& (v1.Rank==v2.Rank&&true))))))) Z Z (A1<|cc Z hz2 (fun c2 hz2=> ?_)<|fun c2 hz2=> ?_))
 refine A4<|A6 (s0:=⟨T [],G []⟩) (D9 Z Z) ?_
 refine B5<|sv Z<|A1<|B2 ?_
 cases hz2
 obtain rfl:=ez2 _ rfl
 refine ⟨nofun,E1 ?_⟩
 rw [bI]at h
 cases h
 exact A8 (.inr Z) (B9 (B0 Z) C2) (.refl _)
 refine B1<|D7<|A6 (s0:=⟨T [(2,(.ptr _ _)),(3,(.ptr _ _)),(5,(.d _))],G [((2,u1),some<|.box 45 _),((3,u1),some<|.box 45 _)]⟩) (D9 Z Z) ?_
 refine B5<|sv Z<|sv Z<|sv Z<|A1<|F8 ?_
 cases hz2
 exact ⟨Z,(),(D9 Z Z)⟩
 refine D2 Z ?_
 cases hz2
 obtain rfl:=ez2 _ rfl
 refine ⟨nofun,C9 Z<|Z9 ?_⟩
 exact ⟨_,(),Z,(D9 Z Z)⟩
 rintro _ ⟨y1,g1,rfl,q1⟩
 rw [bH]at h
 refine A6 q1<|B8<|sq Z<|sl Z G_hit Z<|sq Z<|sl Z (gq Z) Z (sv Z<|sv Z<|gp Z (I9 Z) (fun _=>Z) (gt Z (vl Z G_hit Z)<|gt Z (fun w8=>(C3<|A2 w8))<|gp Z (I9 Z) (fun _=>Z) (gt Z (vl Z (gq Z) Z)<|gt Z (fun w11=>(C3<|A2 w11))<|gt Z (fun w12=>(H5 (A2 w12) (A2 w12) Z))<|sa Z Z Z<|sv Z<|A1<|B2 ?_)))
 cases h
 exact A8 (.inr Z) (B9 (B0 Z) C2) (.refl _)
def Y0 [Lp](p1:Signal)(p2:Signal)(x1:Int):Option (Stp Int (Sum Unit Bool)):=
  cond ((decide (x1< (p1.Phases.length:Int)))&& (decide (x1< (p2.Phases.length:Int)))) ((E6 p1.Phases x1).bind fun v1=>(E6 p2.Phases x1).bind fun v2=>((cond (!(v1.Ticks !=v2.Ticks)) (E6 p1.Phases x1) (some default))).bind fun v3=>((cond (!(v1.Ticks !=v2.Ticks)) (E6 p2.Phases x1) (some default))).bind fun v4=>((cond (!(v1.Ticks !=v2.Ticks)) (By v3.Green v4.Green) (some default))).bind fun v5=>cond ((v1.Ticks !=v2.Ticks)||(!v5)) (some (.out (.inr false))) (some (.go (J3 (x1+1))))) (some (.out (.inl ())))
def Bz [Lp](p1:Signal)(p2:Signal):Option Bool:=
  thenS (loop (Y0 p1 p2) 0) (fun _=>some ((p1.Offset==p2.Offset)&& ((p1.Phases.length:Int)==(p2.Phases.length:Int)))) (fun r=>some r)
theorem Pe(p1 p2 r)(h:Bz p1 p2=some r):PCall prog 111 [(.agg [(i64 p1.Offset),(.list (List.map I3 p1.Phases))]),(.agg [(i64 p2.Offset),(.list (List.map I3 p2.Phases))])] (bo r):=by
 refine C4 (fk func111 ntmps111 m0 (by with_unfolding_all rfl)) (nl Z) ?_
 unfold Bz at h
 refine A6 (s0:=⟨T [(0,(.d _)),(1,(.d _))],G []⟩) (D9 Z Z) ?_
 refine lr<|fun u1 _=>sm Z<|sm Z<|sv Z<|A1<|A4<|B8<|sv Z<|A1<|js h fun z1 hz1 h=>E4 (fun s=> ∃(y1:Unit) (g1:Unit),z1= .inl y1∧Sb ⟨T [(2,(.ptr (2,u1) 0)),(3,(.ptr (3,u1) 0))],G [((2,u1),some<|.box 48 [(di p1.Offset),(dl I3 p1.Phases)]),((3,u1),some<|.box 48 [(di p2.Offset),(dl I3 p2.Phases)])]⟩ s) ?_ ?_
 refine A7<|E5 (Y0 p1 p2) (fun (x1:Int) (g2:Unit)=>⟨T [(2,(.ptr (2,u1) 0)),(3,(.ptr (3,u1) 0)),(5,(di x1))],G [((2,u1),some<|.box 48 [(di p1.Offset),(dl I3 p1.Phases)]),((3,u1),some<|.box 48 [(di p2.Offset),(dl I3 p2.Phases)])]⟩) 0 () _ hz1 (D9 Z Z) ?_
 intro x1 g2 z2 hz2 ez2
 unfold Y0 at hz2
 refine A4<|B8<|sv Z<|sq Z<|sl Z G_hit Z<|sd Z (C3 Z)<|sv Z<|sv Z<|gt Z (fun _=>Z)<|gp Z (I9 Z) (fun _=>Z) (gt Z (vl Z (gq Z) Z)<|gt Z (fun w4=>(C3<|A2 w4))<|gt Z (fun w5=>(H5 (A2 w5) (A2 w5) Z))<|sa Z Z Z<|A1<|cc Z hz2 (fun c1 hz2=> ?_)<|fun c1 hz2=> ?_)
 refine B1<|A4<|A7<|A4<|N2 Z<|sq Z<|sl Z G_hit Z<|sv Z<|bs hz2 fun _ hv1 hz2=>sd Z (D8 Z Z hv1 Z)<|sv Z<|sd Z (G1 Z hv1 Z)<|sq Z<|sl Z (gq Z) Z (sv Z<|bs hz2 fun _ hv2 hz2=>sd Z (D8 Z Z hv2 Z)<|sv Z<|sd Z (G1 Z hv2 Z)<|sv Z<|sv Z<|gp Z (K1 Z) (fun _=>Z) (gf Z (vl Z G_hit Z)<|gf Z (fun _=>Z)<|bs hz2 fun v3 hv3 hz2=>gf Z (fun w9=>(D8 (A2 w9) (A2 w9) (G7 w9 hv3) Z)) ?_))
 refine gf Z (fun w10=>(by simp only [A2 w10];rfl)) ?_
 refine gf Z (fun w11=>(G1 (A2 w11) (G7 w11 hv3) Z))<|gp Z (K1 Z) (fun _=>Z) (gf Z (vl Z (gq Z) Z)<|gf Z (fun _=>Z)<|bs hz2 fun v4 hv4 hz2=>gf Z (fun w15=>(D8 (A2 w15) (A2 w15) (G7 w15 hv4) Z)) ?_)
 refine gf Z (fun w16=>(by simp only [A2 w16];rfl)) ?_
 refine gf Z (fun w17=>(G1 (A2 w17) (G7 w17 hv4) Z))<|bs hz2 fun v5 hv5 hz2=> ?_
 refine O7 _ (bo v5) (K1 Z) (fun w18=>⟨_,[(dl A9 v3.Green),(dl A9 v4.Green)],_,_,(by simp only [A2 w18];rfl),Z,A3,Km _ _ _<|G7 w18 hv5,(.inl Z)⟩) ?_
 refine S6 _ (.d (bo (!v5))) Z (K1 Z) (fun w19=>(by simp only [A2 w19];rfl)) ?_
 refine sd Z (R4 Z Z<|fun hc=>A2<|K9 hc)<|A1<|cc Z hz2 (fun c2 hz2=> ?_)<|fun c2 hz2=> ?_
 refine A4<|A6 (s0:=⟨T [],G []⟩) (D9 Z Z) ?_
 refine B5<|sv Z<|A1<|B2 ?_
 cases hz2
 obtain rfl:=ez2 _ rfl
 refine ⟨nofun,E1 ?_⟩
 rw [bI]at h
 cases h
 exact A8 (.inr Z) (B9 (B0 Z) C2) (.refl _)
 refine B1<|D7<|A6 (s0:=⟨T [(2,(.ptr _ _)),(3,(.ptr _ _)),(5,(.d _))],G [((2,u1),some<|.box 48 _),((3,u1),some<|.box 48 _)]⟩) (D9 Z Z) ?_
 refine B5<|sv Z<|sv Z<|sv Z<|A1<|F8 ?_
 cases hz2
 exact ⟨Z,(),(D9 Z Z)⟩
 refine D2 Z ?_
 cases hz2
 obtain rfl:=ez2 _ rfl
 refine ⟨nofun,C9 Z<|Z9 ?_⟩
 exact ⟨_,(),Z,(D9 Z Z)⟩
 rintro _ ⟨y1,g1,rfl,q1⟩
 rw [bH]at h
 refine A6 q1<|B8<|sq Z<|sl Z G_hit Z<|sq Z<|sl Z (gq Z) Z (sv Z<|sv Z<|gp Z (I9 Z) (fun _=>Z) (gt Z (vl Z G_hit Z)<|gt Z (fun w22=>(C3<|A2 w22))<|gp Z (I9 Z) (fun _=>Z) (gt Z (vl Z (gq Z) Z)<|gt Z (fun w25=>(C3<|A2 w25))<|gt Z (fun w26=>(H5 (A2 w26) (A2 w26) Z))<|sa Z Z Z<|sv Z<|A1<|B2 ?_)))
 cases h
 exact A8 (.inr Z) (B9 (B0 Z) C2) (.refl _)
def Y3 [Lp](p1:Map)(p2:Map)(p3:Int)(p4:Int):Option Bool:=
  cond (p3==1) ((E6 p1.Lanes p4).bind fun v1=>(E6 p2.Lanes p4).bind fun v2=>(Eg v1 v2).bind fun v3=>some v3) (cond (p3==2) ((E6 p1.Zones p4).bind fun v4=>(E6 p2.Zones p4).bind fun v5=>(Eh v4 v5).bind fun v6=>some v6) (cond (p3==3) ((E6 p1.Signals p4).bind fun v7=>(E6 p2.Signals p4).bind fun v8=>(Bz v7 v8).bind fun v9=>some v9) ((E6 p1.Works p4).bind fun v10=>(E6 p2.Works p4).bind fun v11=>some (v10.Lane_==v11.Lane_&& (v10.From==v11.From&& (v10.To==v11.To&& (v10.Begin==v11.Begin&& (v10.End==v11.End&& (v10.Limit==v11.Limit&&true)))))))))
theorem Tg(p1 p2 p3 p4 r)(h:Y3 p1 p2 p3 p4=some r):PCall prog 85 [(.agg (K6 p1)),(.agg (K6 p2)),(i64 p3),(i64 p4)] (bo r):=by
 refine C4 (fk func85 ntmps85 m0 (by with_unfolding_all rfl)) (nl Z) ?_
 unfold Y3 at h
 refine A6 (s0:=⟨T [(0,(.d _)),(1,(.d _)),(2,(.d _)),(3,(.d _))],G []⟩) (D9 Z Z) ?_
 refine B8<|sm Z<|sn Z Z<|sv Z<|A1<|A4<|B8<|sv Z<|A1<|A7<|B8<|sv Z<|sv Z<|A1<|cc Z h (fun c1 h=> ?_)<|fun c1 h=> ?_
 refine A4<|N2 Z<|sq Z<|sl Z (gq Z) Z (sv Z<|bs h fun _ hv1 h=>sd Z (D8 Z Z hv1 Z)<|sd Z (D1 Z hv1 Z Z)<|sq Z<|sl Z G_hit Z<|sv Z<|bs h fun _ hv2 h=>sd Z (D8 Z Z hv2 Z)<|sd Z (D1 Z hv2 Z Z)<|bs h fun _ hv3 h=>C0 Z Z A3 (Ru _ _ _ hv3) (.inl Z) (sv Z<|A1<|B2 ?_))
 cases h
 exact A8 (.inr Z) (B9 (B0 Z) C2) (.refl _)
 refine B8<|sv Z<|sv Z<|A1<|cc Z h (fun c2 h=> ?_)<|fun c2 h=> ?_
 refine A4<|N2 Z<|sq Z<|sl Z (gq Z) Z (sv Z<|bs h fun _ hv4 h=>sd Z (D8 Z Z hv4 Z)<|sd Z (D1 Z hv4 Z Z)<|sq Z<|sl Z G_hit Z<|sv Z<|bs h fun _ hv5 h=>sd Z (D8 Z Z hv5 Z)<|sd Z (D1 Z hv5 Z Z)<|bs h fun _ hv6 h=>C0 Z Z A3 (Rv _ _ _ hv6) (.inl Z) (sv Z<|A1<|B2 ?_))
 cases h
 exact A8 (.inr Z) (B9 (B0 Z) C2) (.refl _)
 refine B8<|sv Z<|sv Z<|A1<|cc Z h (fun c3 h=> ?_)<|fun c3 h=> ?_
 refine A4<|N2 Z<|sq Z<|sl Z (gq Z) Z (sv Z<|bs h fun _ hv7 h=>sd Z (D8 Z Z hv7 Z)<|sd Z (D1 Z hv7 Z Z)<|sq Z<|sl Z G_hit Z<|sv Z<|bs h fun _ hv8 h=>sd Z (D8 Z Z hv8 Z)<|sd Z (D1 Z hv8 Z Z)<|bs h fun _ hv9 h=>C0 Z Z A3 (Pe _ _ _ hv9) (.inl Z) (sv Z<|A1<|B2 ?_))
 cases h
 exact A8 (.inr Z) (B9 (B0 Z) C2) (.refl _)
 refine B1<|D7<|A4<|N2 Z<|sq Z<|sl Z (gq Z) Z (sv Z<|bs h fun v10 hv10 h=>sd Z (D8 Z Z hv10 Z)<|sd Z (D1 Z hv10 Z Z)<|sq Z<|sl Z G_hit Z<|sv Z<|bs h fun v11 hv11 h=>sd Z (D8 Z Z hv11 Z)<|sd Z (D1 Z hv11 Z Z)<|B6 (.d (bo (v10.Lane_==v11.Lane_&& (v10.From==v11.From&& (v10.To==v11.To&& (v10.Begin==v11.Begin&& (v10.End==v11.End&& (v10.Limit==v11.Limit&&true)))))))) Z Z (sv Z<|A1<|B2 ?_))
 cases h
 exact A8 (.inr Z) (B9 (B0 Z) C2) (.refl _)
def Y4 [Lp](p1:Map)(p2:Map)(x1:Int)(x2:Int):Option (Stp Int (Sum Unit Bool)):=
  (X6 p1 x1).bind fun v3=>cond (decide (x2<v3)) ((Y3 p1 p2 x1 x2).bind fun v4=>cond (!v4) (some (.out (.inr false))) (some (.go (J3 (x2+1))))) (some (.out (.inl ())))
def Fi [Lp](p1:Map)(p2:Map)(x1:Int):Option (Stp Int (Sum Unit Bool)):=
  cond (decide (x1≤4)) ((X6 p1 x1).bind fun v1=>(X6 p2 x1).bind fun v2=>cond (v1 !=v2) (some (.out (.inr false))) (thenS (loop (Y4 p1 p2 x1) 0) (fun _=>some (.go (J3 (x1+1)))) (fun r=>some (.out (.inr r))))) (some (.out (.inl ())))
def Hq [Lp](p1:Map)(p2:Map):Option Bool:=
  thenS (loop (Fi p1 p2) 1) (fun _=>some (p1.Version==p2.Version)) (fun r=>some r)
theorem Pp(p1 p2 r)(h:Hq p1 p2=some r):PCall prog 20 [(.agg (K6 p1)),(.agg (K6 p2))] (bo r):=by
 refine C4 (fk func20 ntmps20 m0 (by with_unfolding_all rfl)) (nl Z) ?_
 unfold Hq at h
 refine A6 (s0:=⟨T [(0,(.d _)),(1,(.d _))],G []⟩) (D9 Z Z) ?_
 refine lr<|fun u1 _=>sm Z<|sm Z<|sv Z<|A1<|A4<|B8<|sv Z<|A1<|js h fun z1 hz1 h=>E4 (fun s=> ∃(y1:Unit) (g1:Unit),z1= .inl y1∧Sb ⟨T [(2,(.ptr (2,u1) 0)),(3,(.ptr (3,u1) 0))],G [((2,u1),some<|.box 27 (H4 p1)),((3,u1),some<|.box 27 (H4 p2))]⟩ s) ?_ ?_
 refine A7<|E5 (Fi p1 p2) (fun (x1:Int) (g2:Unit)=>⟨T [(2,(.ptr (2,u1) 0)),(3,(.ptr (3,u1) 0)),(5,(di x1))],G [((2,u1),some<|.box 27 (H4 p1)),((3,u1),some<|.box 27 (H4 p2))]⟩) 1 () _ hz1 (D9 Z Z) ?_
 intro x1 g2 z2 hz2 ez2
 unfold Fi at hz2
 refine A4<|B8<|sv Z<|sv Z<|A1<|cc Z hz2 (fun c1 hz2=> ?_)<|fun c1 hz2=> ?_
 refine B1<|A4<|A7<|A4<|A4<|N2 Z<|sd Z (B4 Z G_hit Z Z)<|sv Z<|bs hz2 fun _ hv1 hz2=>C0 Z Z A3 (Hy _ _ _ hv1) (.inl Z) (sd Z (B4 Z (gq Z) Z Z)<|sv Z<|bs hz2 fun _ hv2 hz2=>C0 Z Z A3 (Hy _ _ _ hv2) (.inl Z) (sv Z<|A1<|cc Z hz2 (fun c2 hz2=> ?_)<|fun c2 hz2=> ?_))
 refine B8<|sv Z<|A1<|B2 ?_
 cases hz2
 obtain rfl:=ez2 _ rfl
 refine ⟨nofun,E1 ?_⟩
 rw [bI]at h
 cases h
 exact A8 (.inr Z) (B9 (B0 Z) C2) (.refl _)
 refine B1<|B8<|sv Z<|A1<|js hz2 fun z3 hz3 hz2=>E4 (fun s=> ∃(y2:Unit) (g3:Unit),z3= .inl y2∧Sb ⟨T [(2,(.ptr (2,u1) 0)),(3,(.ptr (3,u1) 0)),(5,(di x1))],G [((2,u1),some<|.box 27 (H4 p1)),((3,u1),some<|.box 27 (H4 p2))]⟩ s) ?_ ?_
 refine A7<|E5 (Y4 p1 p2 x1) (fun (x2:Int) (g4:Unit)=>⟨T [(2,(.ptr (2,u1) 0)),(3,(.ptr (3,u1) 0)),(5,(di x1)),(6,(di x2))],G [((2,u1),some<|.box 27 (H4 p1)),((3,u1),some<|.box 27 (H4 p2))]⟩) 0 () _ hz3 (D9 Z Z) ?_
 intro x2 g4 z4 hz4 ez4
 unfold Y4 at hz4
 refine A4<|B8<|sv Z<|sd Z (B4 Z G_hit Z Z)<|sv Z<|bs hz4 fun _ hv3 hz4=>C0 Z Z A3 (Hy _ _ _ hv3) (.inl Z) (sv Z<|A1<|cc Z hz4 (fun c3 hz4=> ?_)<|fun c3 hz4=> ?_)
 refine B1<|A4<|A7<|B8<|sd Z (B4 Z G_hit Z Z)<|sd Z (B4 Z (gq Z) Z Z)<|sv Z<|sv Z<|bs hz4 fun v4 hv4 hz4=>C0 Z Z A3 (Tg _ _ _ _ _ hv4) (.inl Z) (B6 (.d (bo (!v4))) Z Z (A1<|cc Z hz4 (fun c4 hz4=> ?_)<|fun c4 hz4=> ?_))
 refine B8<|sv Z<|A1<|B2 ?_
 cases hz4
 obtain rfl:=ez4 _ rfl
 refine ⟨nofun,E1 ?_⟩
 rw [bI]at hz2
 cases hz2
 obtain rfl:=ez2 _ rfl
 refine ⟨nofun,E1 ?_⟩
 rw [bI]at h
 cases h
 exact A8 (.inr Z) (B9 (B0 Z) C2) (.refl _)
 refine B1<|D7<|B5<|sv Z<|sv Z<|sv Z<|A1<|F8 ?_
 cases hz4
 exact ⟨Z,(),(D9 Z Z)⟩
 refine D2 Z ?_
 cases hz4
 obtain rfl:=ez4 _ rfl
 refine ⟨nofun,C9 Z<|Z9 ?_⟩
 exact ⟨_,(),Z,(D9 Z Z)⟩
 rintro _ ⟨y2,g3,rfl,q1⟩
 rw [bH]at hz2
 refine D7<|A6 q1<|B5<|sv Z<|sv Z<|sv Z<|A1<|F8 ?_
 cases hz2
 exact ⟨Z,(),(D9 Z Z)⟩
 refine D2 Z ?_
 cases hz2
 obtain rfl:=ez2 _ rfl
 refine ⟨nofun,C9 Z<|Z9 ?_⟩
 exact ⟨_,(),Z,(D9 Z Z)⟩
 rintro _ ⟨y1,g1,rfl,q2⟩
 rw [bH]at h
 refine A6 q2<|B8<|sq Z<|sl Z G_hit Z<|sq Z<|sl Z (gq Z) Z (sv Z<|sv Z<|A1<|B2 ?_)
 cases h
 exact A8 (.inr Z) (B9 (B0 Z) C2) (.refl _)
def U4 [Lp](p2:Patch)(x1:Int):Option (Stp Int (Sum Unit Bool)):=
  cond (decide (x1< (p2.Edits.length:Int))) ((E6 p2.Edits x1).bind fun v3=>(Ja (Map.mk 0 [v3.Lane_] [v3.Zone_] [v3.Signal_] [])).bind fun v4=>cond (!v4) ((Ax).bind fun v5=>some (.out (.inr v5))) (some (.go (J3 (x1+1))))) (some (.out (.inl ())))
def Cs [Lp](p1:Map)(p2:Patch):Option Bool:=
  (Ja p1).bind fun v1=>cond ((!v1)||(decide ((p2.Edits.length:Int)>8))) ((Ax).bind fun v2=>some v2) (thenS (loop (U4 p2) 0) (fun _=>(Fl p1).bind fun v6=>(Ie v6 p2).bind fun v7=>(Ig p1 p2).bind fun v8=>((cond (v7.2==v8.2) (Hq v7.1 v8.1) (some default))).bind fun v9=>((cond ((v7.2==v8.2)&&v9) (Hq v6 p1) (some default))).bind fun v10=>((cond (((v7.2==v8.2)&&v9)&&v10) (Ax) (some default))).bind fun v11=>some ((((v7.2==v8.2)&&v9)&&v10)&&v11)) (fun r=>some r))
theorem Mu(p1 p2 r)(h:Cs p1 p2=some r):PCall prog 4 [(.agg (K6 p1)),(.agg [(i64 p2.Base),(.list (List.map Bj p2.Edits))])] (bo r):=by
 refine C4 (fk func4 ntmps4 (fun r=>if r==7 then [1002,1005,1008]else []) (by with_unfolding_all rfl)) (nl Z) ?_
 unfold Cs at h
 refine A6 (s0:=⟨T [(0,(.d _)),(1,(.d _))],G []⟩) (D9 Z Z) ?_
 refine lr<|fun u1 _=>sm Z<|sm Z<|sv Z<|A1<|A4<|B8<|sd Z (B4 Z (gq Z) Z Z)<|bs h fun v1 hv1 h=>C0 Z Z A3 (Rr _ _ hv1) (.inl Z) (B6 (.d (bo (!v1))) Z Z (sv Z<|gp Z (K1 Z) (fun _=>Z) (gf Z (vl Z G_hit Z)<|gf Z (fun w3=>(C3<|A2 w3))<|gf Z (vb Z Z Z)<|sd Z (R4 Z Z<|fun hc=>A2<|K9 hc)<|A1<|cc Z h (fun c1 h=> ?_)<|fun c1 h=> ?_)))
 refine B8<|bs h fun _ hv2 h=>C0 Z Z A3 (Jv _ hv2) (.inl Z) (sv Z<|A1<|B2 ?_)
 cases h
 exact A8 (.inr Z) (B9 (B0 Z) C2) (.refl _)
 refine B1<|A4<|B8<|sv Z<|A1<|js h fun z1 hz1 h=>E4 (fun s=> ∃(y1:Unit) (g1:Unit),z1= .inl y1∧Sb ⟨T [(2,(.ptr (2,u1) 0)),(3,(.ptr (3,u1) 0))],G [((2,u1),some<|.box 27 (H4 p1)),((3,u1),some<|.box 36 [(di p2.Base),(dl Bj p2.Edits)])]⟩ s) ?_ ?_
 refine A7<|E5 (U4 p2) (fun (x1:Int) (g2:Unit)=>⟨T [(2,(.ptr (2,u1) 0)),(3,(.ptr (3,u1) 0)),(5,(di x1))],G [((2,u1),some<|.box 27 (H4 p1)),((3,u1),some<|.box 36 [(di p2.Base),(dl Bj p2.Edits)])]⟩) 0 () _ hz1 (D9 Z Z) ?_
 intro x1 g2 z2 hz2 ez2
 unfold U4 at hz2
 refine A4<|B8<|sv Z<|sq Z<|sl Z (gq Z) Z (sd Z (C3 Z)<|sv Z<|A1<|cc Z hz2 (fun c2 hz2=> ?_)<|fun c2 hz2=> ?_)
 refine B1<|A4<|A7<|B8<|sq Z<|sl Z (gq Z) Z (sv Z<|bs hz2 fun v3 hv3 hz2=>sd Z (D8 Z Z hv3 Z)<|sd Z (D1 Z hv3 Z Z)<|sm Z<|U1 Z G_hit (DB v3) Z (A1<|B8<|sq Z<|sd Z (B4 Z G_hit Z Z)<|B6 (dl G5 [v3.Lane_]) Z Z (sq Z<|sd Z (B4 Z G_hit Z Z)<|B6 (dl F0 [v3.Zone_]) Z Z (sq Z<|sd Z (B4 Z G_hit Z Z)<|B6 (dl E2 [v3.Signal_]) Z Z (sv Z<|bs hz2 fun v4 hv4 hz2=>C0 Z Z (.cons (.agg (ca Z<|ca Z<|ca Z<|ca Z<|.cons ⟨DLe.nil,Z⟩ .nil)) .nil) (Rr _ _ hv4) (.inl Z) (B6 (.d (bo (!v4))) Z Z (A1<|cc Z hz2 (fun c3 hz2=> ?_)<|fun c3 hz2=> ?_)))))))
 refine A4<|A6 (s0:=⟨T [],G []⟩) (D9 Z Z) ?_
 refine B5<|bs hz2 fun _ hv5 hz2=>C0 Z Z A3 (Jv _ hv5) (.inl Z) (sv Z<|A1<|B2 ?_)
 cases hz2
 obtain rfl:=ez2 _ rfl
 refine ⟨nofun,E1 ?_⟩
 rw [bI]at h
 cases h
 exact A8 (.inr Z) (B9 (B0 Z) C2) (.refl _)
 refine B1<|D7<|A6 (s0:=⟨T [(2,(.ptr _ _)),(3,(.ptr _ _)),(5,(.d _))],G [((2,u1),some<|.box 27 _),((3,u1),some<|.box 36 _)]⟩) (D9 Z Z) ?_
 refine B5<|sv Z<|sv Z<|sv Z<|A1<|F8 ?_
 cases hz2
 exact ⟨Z,(),(D9 Z Z)⟩
 refine D2 Z ?_
 cases hz2
 obtain rfl:=ez2 _ rfl
 refine ⟨nofun,C9 Z<|Z9 ?_⟩
 exact ⟨_,(),Z,(D9 Z Z)⟩
 rintro _ ⟨y1,g1,rfl,q1⟩
 rw [bH]at h
 refine A6 q1<|lr<|fun u10 _=>sd Z (B4 Z G_hit Z Z)<|bs h fun v6 hv6 h=>C0 Z Z A3 (Pn _ _ hv6) (.inl Z) (sm Z<|U1 Z G_hit (H4 v6) Z (A1<|lr<|fun u11 _=>sd Z (B4 Z G_hit Z Z)<|sd Z (B4 Z (gq Z) Z Z)<|bs h fun v7 hv7 h=>C0 Z Z A3 (Xd _ _ _ hv7) (.inl Z) (sv Z<|sv Z<|sv Z<|sm Z<|U1 Z G_hit (H4 v7.1) Z (sv Z<|A1<|lr<|fun u12 _=>sd Z (B4 Z (gq Z) Z Z)<|sd Z (B4 Z (gq Z) Z Z)<|bs h fun v8 hv8 h=>C0 Z Z A3 (Xf _ _ _ hv8) (.inl Z) (sv Z<|sv Z<|sv Z<|sm Z<|U1 Z G_hit (H4 v8.1) Z (sv Z<|A1<|A4<|A6 (s0:=⟨T [(2,(.ptr _ _)),(7,(.ptr _ _)),(8,(.ptr _ _)),(9,(.d _)),(10,(.ptr _ _)),(11,(.d _))],G [((2,u1),some<|.box 27 _),((7,u10),some<|.box 27 _),((8,u11),some<|.box 27 _),((10,u12),some<|.box 27 _)]⟩) (D9 Z Z) ?_))))))
 refine B5<|sv Z<|sv Z<|sv Z<|sv Z<|gt Z (fun _=>(B4 Z (gq Z) Z Z))<|gt Z (fun _=>(B4 Z (gq Z) Z Z))<|bs h fun v9 hv9 h=> ?_
 refine O7 _ (bo v9) (I9 Z) (fun w7=>⟨_,[(.d (.agg (K6 v7.1))),(.d (.agg (K6 v8.1)))],_,_,(by simp only [A2 w7];rfl),Z,A3,Pp _ _ _<|G7 w7 hv9,(.inl Z)⟩) ?_
 refine sa Z Z Z<|sv Z<|gt Z (fun _=>(B4 Z (gq Z) Z Z))<|gt Z (fun _=>(B4 Z G_hit Z Z))<|bs h fun v10 hv10 h=> ?_
 refine O7 _ (bo v10) (I9 Z) (fun w10=>⟨_,[(.d (.agg (K6 v6))),(.d (.agg (K6 p1)))],_,_,(by simp only [A2 w10];rfl),Z,A3,Pp _ _ _<|G7 w10 hv10,(.inl Z)⟩) ?_
 refine sa Z Z Z<|sv Z<|bs h fun v11 hv11 h=>O7 _ (bo v11) (I9 Z) (fun w11=>⟨_,_,_,_,Z,Z,A3,Jv _<|G7 w11 hv11,(.inl Z)⟩) (sa Z Z Z<|sv Z<|A1<|B2 ?_)
 cases h
 exact A8 (.inr Z) (B9 (B0 Z) C2) (.refl _)
end
end Go.Abs.Roadsz
