/-
  The functions, part 3.
-/
import Derived.Test.YtimbepcdlehjjaaGreatFns2
set_option maxRecDepth 20000
set_option maxHeartbeats 4000000
set_option linter.unusedVariables false
namespace Go.Abs.Roadsz
noncomputable section
open Go Go.Abs Go.Proofs Tryz
attribute [local irreducible] L6 Fs Gl
def Nl (v53:Int)(x39:(Int×RoadsWriter)):Option (Stp (Int×RoadsWriter) RoadsWriter):=
  cond (decide (x39.1≥0)) ((Rh .u64 (IntKind.wrap .u64 v53) (IntKind.wrap .u64 x39.1)).bind fun v54=>(Q4 x39.2.b [(IntKind.wrap .u8 v54)]).bind fun v55=>some (.go ((K2 (x39.1 - 8)),(RoadsWriter.mk v55)))) (some (.out x39.2))
def Nm [Lp](v52:Work)(x38:(Int×RoadsWriter)):Option (Stp (Int×RoadsWriter) RoadsWriter):=
  cond (decide (x38.1< ([v52.Lane_,v52.From,v52.To,v52.Begin,v52.End,v52.Limit].length:Int))) ((F0 [v52.Lane_,v52.From,v52.To,v52.Begin,v52.End,v52.Limit] x38.1).bind fun v53=>(loop (Nl v53) (56,x38.2)).bind fun y56=>some (.go ((K2 (x38.1+1)),y56))) (some (.out x38.2))
def Nn [Lp](x37:(Int×RoadsWriter))(v52:Work):Option RoadsWriter:=
  (loop (Nm v52) (0,x37.2)).bind fun y55=>some y55
def Cc [Lp](p1:Map)(x37:(Int×RoadsWriter)):Option (Stp (Int×RoadsWriter) RoadsWriter):=
  cond (decide (x37.1< (p1.Works.length:Int))) ((F0 p1.Works x37.1).bind fun v52=>(Nn x37 v52).bind fun y54=>some (.go ((K2 (x37.1+1)),y54))) (some (.out x37.2))
def No (v49:Int)(x36:(Int×RoadsWriter)):Option (Stp (Int×RoadsWriter) RoadsWriter):=
  cond (decide (x36.1≥0)) ((Rh .u64 (IntKind.wrap .u64 v49) (IntKind.wrap .u64 x36.1)).bind fun v50=>(Q4 x36.2.b [(IntKind.wrap .u8 v50)]).bind fun v51=>some (.go ((K2 (x36.1 - 8)),(RoadsWriter.mk v51)))) (some (.out x36.2))
def Np [Lp](p1:Map)(x35:(Int×RoadsWriter)):Option (Stp (Int×RoadsWriter) RoadsWriter):=
  cond (decide (x35.1< ([(p1.Works.length:Int)].length:Int))) ((F0 [(p1.Works.length:Int)] x35.1).bind fun v49=>(loop (No v49) (56,x35.2)).bind fun y52=>some (.go ((K2 (x35.1+1)),y52))) (some (.out x35.2))
def Nq [Lp](p1:Map)(y34:RoadsWriter):Option RoadsWriter:=
  (loop (Np p1) (0,y34)).bind fun y51=>some y51
def Nr (v46:Int)(x34:(Int×RoadsWriter)):Option (Stp (Int×RoadsWriter) RoadsWriter):=
  cond (decide (x34.1≥0)) ((Rh .u64 (IntKind.wrap .u64 v46) (IntKind.wrap .u64 x34.1)).bind fun v47=>(Q4 x34.2.b [(IntKind.wrap .u8 v47)]).bind fun v48=>some (.go ((K2 (x34.1 - 8)),(RoadsWriter.mk v48)))) (some (.out x34.2))
def Ns [Lp](v45:Int)(x33:(Int×RoadsWriter)):Option (Stp (Int×RoadsWriter) RoadsWriter):=
  cond (decide (x33.1< ([v45].length:Int))) ((F0 [v45] x33.1).bind fun v46=>(loop (Nr v46) (56,x33.2)).bind fun y49=>some (.go ((K2 (x33.1+1)),y49))) (some (.out x33.2))
def Nt [Lp](x32:(Int×RoadsWriter))(v45:Int):Option RoadsWriter:=
  (loop (Ns v45) (0,x32.2)).bind fun y48=>some y48
def Cd [Lp](v38:Phase)(x32:(Int×RoadsWriter)):Option (Stp (Int×RoadsWriter) RoadsWriter):=
  cond (decide (x32.1< (v38.Green.length:Int))) ((F0 v38.Green x32.1).bind fun v45=>(Nt x32 v45).bind fun y47=>some (.go ((K2 (x32.1+1)),y47))) (some (.out x32.2))
def Nu (v42:Int)(x31:(Int×RoadsWriter)):Option (Stp (Int×RoadsWriter) RoadsWriter):=
  cond (decide (x31.1≥0)) ((Rh .u64 (IntKind.wrap .u64 v42) (IntKind.wrap .u64 x31.1)).bind fun v43=>(Q4 x31.2.b [(IntKind.wrap .u8 v43)]).bind fun v44=>some (.go ((K2 (x31.1 - 8)),(RoadsWriter.mk v44)))) (some (.out x31.2))
def Nv [Lp](v38:Phase)(x30:(Int×RoadsWriter)):Option (Stp (Int×RoadsWriter) RoadsWriter):=
  cond (decide (x30.1< ([(v38.Green.length:Int)].length:Int))) ((F0 [(v38.Green.length:Int)] x30.1).bind fun v42=>(loop (Nu v42) (56,x30.2)).bind fun y45=>some (.go ((K2 (x30.1+1)),y45))) (some (.out x30.2))
def Nw [Lp](v38:Phase)(y39:RoadsWriter):Option RoadsWriter:=
  (loop (Nv v38) (0,y39)).bind fun y44=>some y44
def Nx [Lp](v38:Phase)(y39:RoadsWriter):Option RoadsWriter:=
  (Nw v38 y39).bind fun y43=>(loop (Cd v38) (0,y43)).bind fun y46=>some y46
def Ny (v39:Int)(x29:(Int×RoadsWriter)):Option (Stp (Int×RoadsWriter) RoadsWriter):=
  cond (decide (x29.1≥0)) ((Rh .u64 (IntKind.wrap .u64 v39) (IntKind.wrap .u64 x29.1)).bind fun v40=>(Q4 x29.2.b [(IntKind.wrap .u8 v40)]).bind fun v41=>some (.go ((K2 (x29.1 - 8)),(RoadsWriter.mk v41)))) (some (.out x29.2))
def Nz [Lp](v38:Phase)(x28:(Int×RoadsWriter)):Option (Stp (Int×RoadsWriter) RoadsWriter):=
  cond (decide (x28.1< ([v38.Ticks].length:Int))) ((F0 [v38.Ticks] x28.1).bind fun v39=>(loop (Ny v39) (56,x28.2)).bind fun y41=>some (.go ((K2 (x28.1+1)),y41))) (some (.out x28.2))
def Oa [Lp](x27:(Int×RoadsWriter))(v38:Phase):Option RoadsWriter:=
  (loop (Nz v38) (0,x27.2)).bind fun y40=>some y40
def Ce [Lp](v34:Signal)(x27:(Int×RoadsWriter)):Option (Stp (Int×RoadsWriter) RoadsWriter):=
  cond (decide (x27.1< (v34.Phases.length:Int))) ((F0 v34.Phases x27.1).bind fun v38=>(Oa x27 v38).bind fun y39=>(Nx v38 y39).bind fun y42=>some (.go ((K2 (x27.1+1)),y42))) (some (.out x27.2))
def Ob (v35:Int)(x26:(Int×RoadsWriter)):Option (Stp (Int×RoadsWriter) RoadsWriter):=
  cond (decide (x26.1≥0)) ((Rh .u64 (IntKind.wrap .u64 v35) (IntKind.wrap .u64 x26.1)).bind fun v36=>(Q4 x26.2.b [(IntKind.wrap .u8 v36)]).bind fun v37=>some (.go ((K2 (x26.1 - 8)),(RoadsWriter.mk v37)))) (some (.out x26.2))
def Oc [Lp](v34:Signal)(x25:(Int×RoadsWriter)):Option (Stp (Int×RoadsWriter) RoadsWriter):=
  cond (decide (x25.1< ([v34.Offset,(v34.Phases.length:Int)].length:Int))) ((F0 [v34.Offset,(v34.Phases.length:Int)] x25.1).bind fun v35=>(loop (Ob v35) (56,x25.2)).bind fun y37=>some (.go ((K2 (x25.1+1)),y37))) (some (.out x25.2))
def Od [Lp](x24:(Int×RoadsWriter))(v34:Signal):Option RoadsWriter:=
  (loop (Oc v34) (0,x24.2)).bind fun y36=>some y36
def Cf [Lp](p1:Map)(x24:(Int×RoadsWriter)):Option (Stp (Int×RoadsWriter) RoadsWriter):=
  cond (decide (x24.1< (p1.Signals.length:Int))) ((F0 p1.Signals x24.1).bind fun v34=>(Od x24 v34).bind fun y35=>(loop (Ce v34) (0,y35)).bind fun y38=>some (.go ((K2 (x24.1+1)),y38))) (some (.out x24.2))
def Oe (v31:Int)(x23:(Int×RoadsWriter)):Option (Stp (Int×RoadsWriter) RoadsWriter):=
  cond (decide (x23.1≥0)) ((Rh .u64 (IntKind.wrap .u64 v31) (IntKind.wrap .u64 x23.1)).bind fun v32=>(Q4 x23.2.b [(IntKind.wrap .u8 v32)]).bind fun v33=>some (.go ((K2 (x23.1 - 8)),(RoadsWriter.mk v33)))) (some (.out x23.2))
def Of [Lp](p1:Map)(x22:(Int×RoadsWriter)):Option (Stp (Int×RoadsWriter) RoadsWriter):=
  cond (decide (x22.1< ([(p1.Signals.length:Int)].length:Int))) ((F0 [(p1.Signals.length:Int)] x22.1).bind fun v31=>(loop (Oe v31) (56,x22.2)).bind fun y33=>some (.go ((K2 (x22.1+1)),y33))) (some (.out x22.2))
def Og [Lp](p1:Map)(y23:RoadsWriter):Option RoadsWriter:=
  (loop (Of p1) (0,y23)).bind fun y32=>some y32
def Oh (v28:Int)(x21:(Int×RoadsWriter)):Option (Stp (Int×RoadsWriter) RoadsWriter):=
  cond (decide (x21.1≥0)) ((Rh .u64 (IntKind.wrap .u64 v28) (IntKind.wrap .u64 x21.1)).bind fun v29=>(Q4 x21.2.b [(IntKind.wrap .u8 v29)]).bind fun v30=>some (.go ((K2 (x21.1 - 8)),(RoadsWriter.mk v30)))) (some (.out x21.2))
def Oi [Lp](v27:Part)(x20:(Int×RoadsWriter)):Option (Stp (Int×RoadsWriter) RoadsWriter):=
  cond (decide (x20.1< ([v27.Lane_,v27.From,v27.To,v27.Rank].length:Int))) ((F0 [v27.Lane_,v27.From,v27.To,v27.Rank] x20.1).bind fun v28=>(loop (Oh v28) (56,x20.2)).bind fun y30=>some (.go ((K2 (x20.1+1)),y30))) (some (.out x20.2))
def Oj [Lp](x19:(Int×RoadsWriter))(v27:Part):Option RoadsWriter:=
  (loop (Oi v27) (0,x19.2)).bind fun y29=>some y29
def Cg [Lp](v23:Zone)(x19:(Int×RoadsWriter)):Option (Stp (Int×RoadsWriter) RoadsWriter):=
  cond (decide (x19.1< (v23.Parts.length:Int))) ((F0 v23.Parts x19.1).bind fun v27=>(Oj x19 v27).bind fun y28=>some (.go ((K2 (x19.1+1)),y28))) (some (.out x19.2))
def Ok (v24:Int)(x18:(Int×RoadsWriter)):Option (Stp (Int×RoadsWriter) RoadsWriter):=
  cond (decide (x18.1≥0)) ((Rh .u64 (IntKind.wrap .u64 v24) (IntKind.wrap .u64 x18.1)).bind fun v25=>(Q4 x18.2.b [(IntKind.wrap .u8 v25)]).bind fun v26=>some (.go ((K2 (x18.1 - 8)),(RoadsWriter.mk v26)))) (some (.out x18.2))
def Ol [Lp](v23:Zone)(x17:(Int×RoadsWriter)):Option (Stp (Int×RoadsWriter) RoadsWriter):=
  cond (decide (x17.1< ([v23.Signal_,(v23.Parts.length:Int)].length:Int))) ((F0 [v23.Signal_,(v23.Parts.length:Int)] x17.1).bind fun v24=>(loop (Ok v24) (56,x17.2)).bind fun y26=>some (.go ((K2 (x17.1+1)),y26))) (some (.out x17.2))
def Om [Lp](x16:(Int×RoadsWriter))(v23:Zone):Option RoadsWriter:=
  (loop (Ol v23) (0,x16.2)).bind fun y25=>some y25
def Ci [Lp](p1:Map)(x16:(Int×RoadsWriter)):Option (Stp (Int×RoadsWriter) RoadsWriter):=
  cond (decide (x16.1< (p1.Zones.length:Int))) ((F0 p1.Zones x16.1).bind fun v23=>(Om x16 v23).bind fun y24=>(loop (Cg v23) (0,y24)).bind fun y27=>some (.go ((K2 (x16.1+1)),y27))) (some (.out x16.2))
def On (v20:Int)(x15:(Int×RoadsWriter)):Option (Stp (Int×RoadsWriter) RoadsWriter):=
  cond (decide (x15.1≥0)) ((Rh .u64 (IntKind.wrap .u64 v20) (IntKind.wrap .u64 x15.1)).bind fun v21=>(Q4 x15.2.b [(IntKind.wrap .u8 v21)]).bind fun v22=>some (.go ((K2 (x15.1 - 8)),(RoadsWriter.mk v22)))) (some (.out x15.2))
def Oo [Lp](p1:Map)(x14:(Int×RoadsWriter)):Option (Stp (Int×RoadsWriter) RoadsWriter):=
  cond (decide (x14.1< ([(p1.Zones.length:Int)].length:Int))) ((F0 [(p1.Zones.length:Int)] x14.1).bind fun v20=>(loop (On v20) (56,x14.2)).bind fun y22=>some (.go ((K2 (x14.1+1)),y22))) (some (.out x14.2))
def Oq [Lp](p1:Map)(y4:RoadsWriter):Option RoadsWriter:=
  (loop (Oo p1) (0,y4)).bind fun y21=>some y21
def Ot (v17:Int)(x13:(Int×RoadsWriter)):Option (Stp (Int×RoadsWriter) RoadsWriter):=
  cond (decide (x13.1≥0)) ((Rh .u64 (IntKind.wrap .u64 v17) (IntKind.wrap .u64 x13.1)).bind fun v18=>(Q4 x13.2.b [(IntKind.wrap .u8 v18)]).bind fun v19=>some (.go ((K2 (x13.1 - 8)),(RoadsWriter.mk v19)))) (some (.out x13.2))
def Ou [Lp](v16:Int)(x12:(Int×RoadsWriter)):Option (Stp (Int×RoadsWriter) RoadsWriter):=
  cond (decide (x12.1< ([v16].length:Int))) ((F0 [v16] x12.1).bind fun v17=>(loop (Ot v17) (56,x12.2)).bind fun y19=>some (.go ((K2 (x12.1+1)),y19))) (some (.out x12.2))
def Ov [Lp](x11:(Int×RoadsWriter))(v16:Int):Option RoadsWriter:=
  (loop (Ou v16) (0,x11.2)).bind fun y18=>some y18
def Cj [Lp](v5:Lane)(x11:(Int×RoadsWriter)):Option (Stp (Int×RoadsWriter) RoadsWriter):=
  cond (decide (x11.1< (v5.Next.length:Int))) ((F0 v5.Next x11.1).bind fun v16=>(Ov x11 v16).bind fun y17=>some (.go ((K2 (x11.1+1)),y17))) (some (.out x11.2))
def Ow (v13:Int)(x10:(Int×RoadsWriter)):Option (Stp (Int×RoadsWriter) RoadsWriter):=
  cond (decide (x10.1≥0)) ((Rh .u64 (IntKind.wrap .u64 v13) (IntKind.wrap .u64 x10.1)).bind fun v14=>(Q4 x10.2.b [(IntKind.wrap .u8 v14)]).bind fun v15=>some (.go ((K2 (x10.1 - 8)),(RoadsWriter.mk v15)))) (some (.out x10.2))
def Ox [Lp](v5:Lane)(x9:(Int×RoadsWriter)):Option (Stp (Int×RoadsWriter) RoadsWriter):=
  cond (decide (x9.1< ([(v5.Next.length:Int)].length:Int))) ((F0 [(v5.Next.length:Int)] x9.1).bind fun v13=>(loop (Ow v13) (56,x9.2)).bind fun y15=>some (.go ((K2 (x9.1+1)),y15))) (some (.out x9.2))
def Oy [Lp](v5:Lane)(y8:RoadsWriter):Option RoadsWriter:=
  (loop (Ox v5) (0,y8)).bind fun y14=>some y14
def Oz [Lp](v5:Lane)(y8:RoadsWriter):Option RoadsWriter:=
  (Oy v5 y8).bind fun y13=>(loop (Cj v5) (0,y13)).bind fun y16=>some y16
def Pa (v10:Int)(x8:(Int×RoadsWriter)):Option (Stp (Int×RoadsWriter) RoadsWriter):=
  cond (decide (x8.1≥0)) ((Rh .u64 (IntKind.wrap .u64 v10) (IntKind.wrap .u64 x8.1)).bind fun v11=>(Q4 x8.2.b [(IntKind.wrap .u8 v11)]).bind fun v12=>some (.go ((K2 (x8.1 - 8)),(RoadsWriter.mk v12)))) (some (.out x8.2))
def Pb [Lp](v9:Spot)(x7:(Int×RoadsWriter)):Option (Stp (Int×RoadsWriter) RoadsWriter):=
  cond (decide (x7.1< ([v9.X,v9.Y].length:Int))) ((F0 [v9.X,v9.Y] x7.1).bind fun v10=>(loop (Pa v10) (56,x7.2)).bind fun y11=>some (.go ((K2 (x7.1+1)),y11))) (some (.out x7.2))
def Qo [Lp](x6:(Int×RoadsWriter))(v9:Spot):Option RoadsWriter:=
  (loop (Pb v9) (0,x6.2)).bind fun y10=>some y10
def Dj [Lp](v5:Lane)(x6:(Int×RoadsWriter)):Option (Stp (Int×RoadsWriter) RoadsWriter):=
  cond (decide (x6.1< (v5.Curve_.Pts.length:Int))) ((F0 v5.Curve_.Pts x6.1).bind fun v9=>(Qo x6 v9).bind fun y9=>some (.go ((K2 (x6.1+1)),y9))) (some (.out x6.2))
def Qp (v6:Int)(x5:(Int×RoadsWriter)):Option (Stp (Int×RoadsWriter) RoadsWriter):=
  cond (decide (x5.1≥0)) ((Rh .u64 (IntKind.wrap .u64 v6) (IntKind.wrap .u64 x5.1)).bind fun v7=>(Q4 x5.2.b [(IntKind.wrap .u8 v7)]).bind fun v8=>some (.go ((K2 (x5.1 - 8)),(RoadsWriter.mk v8)))) (some (.out x5.2))
def Qq [Lp](v5:Lane)(x4:(Int×RoadsWriter)):Option (Stp (Int×RoadsWriter) RoadsWriter):=
  cond (decide (x4.1< ([v5.Kind,v5.Half,v5.Limit,(v5.Curve_.Pts.length:Int)].length:Int))) ((F0 [v5.Kind,v5.Half,v5.Limit,(v5.Curve_.Pts.length:Int)] x4.1).bind fun v6=>(loop (Qp v6) (56,x4.2)).bind fun y7=>some (.go ((K2 (x4.1+1)),y7))) (some (.out x4.2))
def Qr [Lp](x3:(Int×RoadsWriter))(v5:Lane):Option RoadsWriter:=
  (loop (Qq v5) (0,x3.2)).bind fun y6=>some y6
def Dk [Lp](p1:Map)(x3:(Int×RoadsWriter)):Option (Stp (Int×RoadsWriter) RoadsWriter):=
  cond (decide (x3.1< (p1.Lanes.length:Int))) ((F0 p1.Lanes x3.1).bind fun v5=>(Qr x3 v5).bind fun y5=>(loop (Dj v5) (0,y5)).bind fun y8=>(Oz v5 y8).bind fun y12=>some (.go ((K2 (x3.1+1)),y12))) (some (.out x3.2))
def Qs (v2:Int)(x2:(Int×RoadsWriter)):Option (Stp (Int×RoadsWriter) RoadsWriter):=
  cond (decide (x2.1≥0)) ((Rh .u64 (IntKind.wrap .u64 v2) (IntKind.wrap .u64 x2.1)).bind fun v3=>(Q4 x2.2.b [(IntKind.wrap .u8 v3)]).bind fun v4=>some (.go ((K2 (x2.1 - 8)),(RoadsWriter.mk v4)))) (some (.out x2.2))
def Qt [Lp](p1:Map)(x1:(Int×RoadsWriter)):Option (Stp (Int×RoadsWriter) RoadsWriter):=
  cond (decide (x1.1< ([p1.Version,(p1.Lanes.length:Int)].length:Int))) ((F0 [p1.Version,(p1.Lanes.length:Int)] x1.1).bind fun v2=>(loop (Qs v2) (56,x1.2)).bind fun y3=>some (.go ((K2 (x1.1+1)),y3))) (some (.out x1.2))
def Qu [Lp](p1:Map):Option RoadsWriter:=
  (loop (Qt p1) (0,(RoadsWriter.mk [107,98,109,49]))).bind fun y2=>some y2
def Gh [Lp](p1:Map):Option (ByteArray×Int):=
  (W7 p1).bind fun v1=>cond (v1 !=0) (some (ByteArray.empty,v1)) ((Qu p1).bind fun y1=>(loop (Dk p1) (0,y1)).bind fun y4=>(Oq p1 y4).bind fun y20=>(loop (Ci p1) (0,y20)).bind fun y23=>(Og p1 y23).bind fun y31=>(loop (Cf p1) (0,y31)).bind fun y34=>(Nq p1 y34).bind fun y50=>(loop (Cc p1) (0,y50)).bind fun y53=>some ((H3 y53.b),0))
theorem Wa(p1 r)(h:Gh p1=some r):PCall prog 30 [(.agg (N8 p1))] (.tup [(O0 r.1),(i64 r.2)]):=by
 refine D7 (fk func30 ntmps30 (fun r=>if r==4 then [1001]else if r==5 then [7,1006]else if r==9 then [12,1011]else if r==13 then [6,1005]else if r==15 then [3]else if r==17 then [5,1004]else if r==21 then [7,1006]else if r==25 then [10,1009]else if r==28 then [5,1004]else if r==32 then [7,1006]else if r==36 then [4,1003]else if r==37 then [3]else if r==40 then [5,1004]else if r==44 then [14,1013]else []) (by with_unfolding_all rfl)) (nl Z) ?_
 unfold Gh at h
 refine A7 (s0:=⟨T [(0,(.d _))],G []⟩) (E3 Z Z) ?_
 refine lr<|fun u1 _=>sm Z<|sv Z<|sv Z<|A1<|A3<|B8<|sd Z (C6 Z G_hit Z Z)<|bs h fun _ hv1 h=>D1 Z Z A6 (Fu _ _ hv1) (.inl Z) (sv Z<|A1<|B8<|sv Z<|sv Z<|A1<|cc Z h (fun c1 h=> ?_)<|fun c1 h=> ?_)
 refine B8<|sv Z<|sv Z<|sv Z<|A1<|B9 ?_
 cases h
 exact B4 (.inr Z) (My (C0 Z) (C0 Z) D4 D4) (.refl _)
 refine B3<|lr<|fun u5 _=>Zg (.sl _) (.arr 5 1 (List.map C4 ([107,98,109,49]:List Int))) Z Z (B6 (.sl _) Z (cO Z G_hit<|List.cons_ne_nil _ _) (B6 (.agg _) Z Z (sm Z<|sq Z<|A1<|B8<|sq Z<|sp Z Z<|sl Z (gq Z) Z (sq Z<|sl Z (gq Z) Z (sd Z (C8 Z)<|B6 (dl A4 [p1.Version,(p1.Lanes.length:Int)]) Z Z (bs h fun y1 hy1 h=>Im (fk func117 ntmps117 (fun r=>if r==6 then [1011]else []) (by with_unfolding_all rfl)) (fun (g1:({d:Nat // d∈ [25,29]}×Nat))=> [(1,(.ptr (1,u1) 0)),(5,(.ptr (28,u5) 0))]) (fun (g1:({d:Nat // d∈ [25,29]}×Nat))=> [((1,u1),some<|.box 27 (F2 p1)),((28,u5),some<|.box 145 [(oS y1.b (g1.1.val,g1.2))]),((g1.1.val,g1.2),oB 5 1 C4 y1.b)]) Z (nl Z) ?_ ?_))))))
 unfold Qu at hy1
 refine A7 (s0:=⟨T [(0,(.ptr _ _)),(1,(.d _))],G [((28,u5),some<|.box 145 _),((25,u5),some _),((1,u1),some<|.box 27 _)]⟩) (E3 Z Z) ?_
 refine B8<|B6 (dl A4 [p1.Version,(p1.Lanes.length:Int)]) Z Z (sd Z (C8 Z)<|sv Z<|A1<|bs hy1 fun y2 hy2 hy1=>D0 (fun s=> ∃g2:({d:Nat // d∈ [25,29]}×Nat),Sb ⟨T [],G [((1,u1),some<|.box 27 (F2 p1)),((28,u5),some<|.box 145 [(oS y2.b (g2.1.val,g2.2))]),((g2.1.val,g2.2),oB 5 1 C4 y2.b)]⟩ s) ?_ ?_)
 refine A5<|D2 (Qt p1) (fun (x1:(Int×RoadsWriter)) (g3:({d:Nat // d∈ [25,29]}×Nat))=>⟨T [(0,(.ptr (28,u5) 0)),(7,(dl A4 [p1.Version,(p1.Lanes.length:Int)])),(8,(di ([p1.Version,(p1.Lanes.length:Int)].length:Int))),(9,(di x1.1))],G [((28,u5),some<|.box 145 [(oS x1.2.b (g3.1.val,g3.2))]),((1,u1),some<|.box 27 (F2 p1)),((g3.1.val,g3.2),oB 5 1 C4 x1.2.b)]⟩) (0,(RoadsWriter.mk [107,98,109,49])) (⟨25, .head _⟩,u5) _ hy2 (B7 (K8 Z)<|A2 G_hit (.box (.cons (.of (T1<|List.cons_ne_nil _ _).symm) .nil))<|sg Z<|K9 (gq Z) trivial) ?_
 intro x1 g3 z1 hz1 ez1
 unfold Qt at hz1
 refine lr<|fun u8 _=>sv Z<|A1<|A3<|cc Z hz1 (fun c2 hz1=> ?_)<|fun c2 hz1=> ?_
 refine B3<|A3<|A5<|B8<|bs hz1 fun v2 hv2 hz1=>sd Z (D8 Z Z hv2 Z)<|sd Z (E9 Z hv2 Z)<|sv Z<|A1<|B8<|sv Z<|A1<|bs hz1 fun y3 hy3 hz1=>D0 (fun s=> ∃g4:({d:Nat // d∈ [25,29]}×Nat),Sb ⟨T [(0,(.ptr (28,u5) 0)),(7,(dl A4 [p1.Version,(p1.Lanes.length:Int)])),(8,(di ([p1.Version,(p1.Lanes.length:Int)].length:Int))),(9,(di x1.1))],G [((28,u5),some<|.box 145 [(oS y3.b (g4.1.val,g4.2))]),((1,u1),some<|.box 27 (F2 p1)),((g4.1.val,g4.2),oB 5 1 C4 y3.b)]⟩ s) ?_ ?_
 refine A5<|D2 (Qs v2) (fun (x2:(Int×RoadsWriter)) (g5:({d:Nat // d∈ [25,29]}×Nat))=>⟨T [(0,(.ptr (28,u5) 0)),(5,(di v2)),(6,(di x2.1)),(7,(dl A4 [p1.Version,(p1.Lanes.length:Int)])),(8,(di ([p1.Version,(p1.Lanes.length:Int)].length:Int))),(9,(di x1.1))],G [((28,u5),some<|.box 145 [(oS x2.2.b (g5.1.val,g5.2))]),((1,u1),some<|.box 27 (F2 p1)),((g5.1.val,g5.2),oB 5 1 C4 x2.2.b)]⟩) (56,x1.2) (g3.1,g3.2) _ hy3 (B7 (K8 Z)<|A2 G_hit (.of Z)<|sg Z<|B0 (Au g3.1.property 2 Z G_hit) trivial) ?_
 intro x2 g5 z2 hz2 ez2
 unfold Qs at hz2
 refine A3<|B8<|sv Z<|sv Z<|A1<|cc Z hz2 (fun c3 hz2=> ?_)<|fun c3 hz2=> ?_
 refine B3<|A3<|A5<|M6 fun u12 _=>sq Z<|sq Z<|sp Z Z<|sq Z<|B6 (oS x2.2.b (g5.1.val,g5.2)) Z (U6 Z G_hit Z) (sv Z<|sv Z<|sv Z<|sv Z<|bs hz2 fun v3 hv3 hz2=>sd Z (Nb Z Z hv3)<|sv Z<|B6 (dl C4 [(IntKind.wrap .u8 v3)]) Z Z (bs hz2 fun _ hv4 hz2=>G7 C4 (g5.1.val,g5.2) x2.2.b (IntKind.wrap .u8 v3) [] _ (E1<|fun _=>Z) Z (A9 (Li g5.1.property Z)<|A9 (Li g5.1.property Z) G_hit) hv4 (sq Z<|sp Z Z<|U7 _ _ _ _ _ Z Z Z (A9 Z<|A9 (Mh g5.1.property Z) G_hit) (nl Z) [(.sl (29,u12))] Z (A1<|E0<|B5<|sv Z<|sv Z<|sv Z<|A1<|D6 ?_))))
 cases hz2
 exact ⟨Z,(⟨29, .tail _ (.head _)⟩,u12),(B7 (K8 Z)<|A2 G_hit (.box (.cons (.of (T1<|K5 hv4).symm) .nil))<|A2 (IC 2 Z<|A9 (Mh g5.1.property Z)<|gq Z) (.of Z) (K9 (gq Z) trivial))⟩
 refine C3 Z ?_
 cases hz2
 obtain rfl:=ez2 _ rfl
 refine ⟨nofun,C2 Z<|T4 ?_⟩
 exact ⟨(g5.1,g5.2),(B7 (K8 Z)<|A2 G_hit (.of Z)<|sg Z<|B0 (Au g5.1.property 2 Z G_hit) trivial)⟩
 rintro _ ⟨g4,q1⟩
 refine E0<|A7 q1<|B5<|sv Z<|sv Z<|A1<|D6 ?_
 cases hz1
 exact ⟨Z,(g4.1,g4.2),(B7 (K8 Z)<|A2 G_hit (.of Z)<|sg Z<|B0 (Au g4.1.property 2 Z G_hit) trivial)⟩
 refine C3 Z ?_
 cases hz1
 obtain rfl:=ez1 _ rfl
 refine ⟨nofun,C2 Z<|T4 ?_⟩
 exact ⟨(g3.1,g3.2),(B7 trivial<|sg Z<|A2 G_hit (.of Z)<|B0 (Au g3.1.property 2 Z G_hit) trivial)⟩
 rintro _ ⟨g2,q2⟩
 refine D6 ?_
 obtain rfl:=(lC hy1)
 exact Bn q2 (.inl Z) (g2.1,g2.2) (K8 Z) (A2 G_hit (.of Z)<|sg Z<|B0 (Au g2.1.property 2 Z G_hit) trivial)
 intro g1
 intro u15 hu15
 refine A1<|A3<|B8<|sq Z<|sl Z G_hit Z<|sd Z (C8 Z)<|sv Z<|A1<|bs h fun y4 hy4 h=>D0 (fun s=> ∃g6:({d:Nat // d∈ [25,29]}×Nat),Sb ⟨T [(1,(.ptr (1,u1) 0)),(5,(.ptr (28,u5) 0))],G [((1,u1),some<|.box 27 (F2 p1)),((28,u5),some<|.box 145 [(oS y4.b (g6.1.val,g6.2))]),((g6.1.val,g6.2),oB 5 1 C4 y4.b)]⟩ s) ?_ ?_
 refine A5<|D2 (Dk p1) (fun (x3:(Int×RoadsWriter)) (g7:({d:Nat // d∈ [25,29]}×Nat))=>⟨T [(1,(.ptr (1,u1) 0)),(5,(.ptr (28,u5) 0)),(38,(dl J7 p1.Lanes)),(39,(di (p1.Lanes.length:Int))),(40,(di x3.1))],G [((1,u1),some<|.box 27 (F2 p1)),((28,u5),some<|.box 145 [(oS x3.2.b (g7.1.val,g7.2))]),((g7.1.val,g7.2),oB 5 1 C4 x3.2.b)]⟩) (0,y1) (g1.1,g1.2) _ hy4 (B7 (K8 Z)<|A2 G_hit (.of Z)<|sg Z<|B0 (Au g1.1.property 2 Z G_hit) trivial) ?_
 intro x3 g7 z3 hz3 ez3
 unfold Dk at hz3
 refine B8<|sv Z<|A1<|A3<|cc Z hz3 (fun c4 hz3=> ?_)<|fun c4 hz3=> ?_
 refine B3<|A3<|A5<|lr<|fun u18 _=>bs hz3 fun v5 hv5 hz3=>sd Z (D8 Z Z hv5 Z)<|sd Z (D9 Z hv5 Z Z)<|sm Z<|V6 Z G_hit (T6 v5) Z (A1<|B8<|sq Z<|sp Z Z<|sl Z G_hit Z<|sq Z<|sl Z G_hit Z<|sq Z<|sl Z G_hit Z<|sq Z<|sp Z Z<|sl Z G_hit Z<|sd Z (C8 Z)<|B6 (dl A4 [v5.Kind,v5.Half,v5.Limit,(v5.Curve_.Pts.length:Int)]) Z Z (bs hz3 fun y5 hy5 hz3=>Im (fk func117 ntmps117 (fun r=>if r==6 then [1011]else []) (by with_unfolding_all rfl)) (fun (g8:({d:Nat // d∈ [25,29]}×Nat))=> [(1,(.ptr (1,u1) 0)),(5,(.ptr (28,u5) 0)),(7,(.ptr (7,u18) 0)),(38,(dl J7 p1.Lanes)),(39,(di (p1.Lanes.length:Int))),(40,(di x3.1))]) (fun (g8:({d:Nat // d∈ [25,29]}×Nat))=> [((1,u1),some<|.box 27 (F2 p1)),((28,u5),some<|.box 145 [(oS y5.b (g8.1.val,g8.2))]),((7,u18),some<|.box 42 (T6 v5)),((g8.1.val,g8.2),oB 5 1 C4 y5.b)]) Z (nl Z) ?_ ?_))
 unfold Qr at hy5
 refine A7 (s0:=⟨T [(0,(.ptr (28,u5) 0)),(1,(dl A4 [v5.Kind,v5.Half,v5.Limit,(v5.Curve_.Pts.length:Int)]))],G [((28,u5),some<|.box 145 [(oS x3.2.b (g7.1.val,g7.2))]),((g7.1.val,g7.2),oB 5 1 C4 x3.2.b),((1,u1),some<|.box 27 (F2 p1)),((7,u18),some<|.box 42 (T6 v5))]⟩) (B7 (K8 Z)<|sg Z<|B0 (Au g7.1.property 4 Z G_hit)<|sg Z<|A2 G_hit (.of Z) trivial) ?_
 refine B8<|B6 (dl A4 [v5.Kind,v5.Half,v5.Limit,(v5.Curve_.Pts.length:Int)]) Z Z (sd Z (C8 Z)<|sv Z<|A1<|bs hy5 fun y6 hy6 hy5=>D0 (fun s=> ∃g9:({d:Nat // d∈ [25,29]}×Nat),Sb ⟨T [],G [((1,u1),some<|.box 27 (F2 p1)),((28,u5),some<|.box 145 [(oS y6.b (g9.1.val,g9.2))]),((7,u18),some<|.box 42 (T6 v5)),((g9.1.val,g9.2),oB 5 1 C4 y6.b)]⟩ s) ?_ ?_)
 refine A5<|D2 (Qq v5) (fun (x4:(Int×RoadsWriter)) (g10:({d:Nat // d∈ [25,29]}×Nat))=>⟨T [(0,(.ptr (28,u5) 0)),(7,(dl A4 [v5.Kind,v5.Half,v5.Limit,(v5.Curve_.Pts.length:Int)])),(8,(di ([v5.Kind,v5.Half,v5.Limit,(v5.Curve_.Pts.length:Int)].length:Int))),(9,(di x4.1))],G [((28,u5),some<|.box 145 [(oS x4.2.b (g10.1.val,g10.2))]),((1,u1),some<|.box 27 (F2 p1)),((7,u18),some<|.box 42 (T6 v5)),((g10.1.val,g10.2),oB 5 1 C4 x4.2.b)]⟩) (0,x3.2) (g7.1,g7.2) _ hy6 (B7 (K8 Z)<|A2 G_hit (.of Z)<|A2 (A9 Z<|A9 (Mh g7.1.property Z) G_hit) (.of Z) (A2 (A9 Z<|A9 (Mh g7.1.property Z)<|gq Z) (.of Z) (B0 (A9 (Li g7.1.property Z) G_hit) trivial))) ?_
 intro x4 g10 z4 hz4 ez4
 unfold Qq at hz4
 refine B8<|sv Z<|A1<|A3<|cc Z hz4 (fun c5 hz4=> ?_)<|fun c5 hz4=> ?_
 refine B3<|A3<|A5<|B8<|bs hz4 fun v6 hv6 hz4=>sd Z (D8 Z Z hv6 Z)<|sd Z (E9 Z hv6 Z)<|sv Z<|A1<|B8<|sv Z<|A1<|bs hz4 fun y7 hy7 hz4=>D0 (fun s=> ∃g11:({d:Nat // d∈ [25,29]}×Nat),Sb ⟨T [(0,(.ptr (28,u5) 0)),(7,(dl A4 [v5.Kind,v5.Half,v5.Limit,(v5.Curve_.Pts.length:Int)])),(8,(di ([v5.Kind,v5.Half,v5.Limit,(v5.Curve_.Pts.length:Int)].length:Int))),(9,(di x4.1))],G [((28,u5),some<|.box 145 [(oS y7.b (g11.1.val,g11.2))]),((1,u1),some<|.box 27 (F2 p1)),((7,u18),some<|.box 42 (T6 v5)),((g11.1.val,g11.2),oB 5 1 C4 y7.b)]⟩ s) ?_ ?_
 refine A5<|D2 (Qp v6) (fun (x5:(Int×RoadsWriter)) (g12:({d:Nat // d∈ [25,29]}×Nat))=>⟨T [(0,(.ptr (28,u5) 0)),(5,(di v6)),(6,(di x5.1)),(7,(dl A4 [v5.Kind,v5.Half,v5.Limit,(v5.Curve_.Pts.length:Int)])),(8,(di ([v5.Kind,v5.Half,v5.Limit,(v5.Curve_.Pts.length:Int)].length:Int))),(9,(di x4.1))],G [((28,u5),some<|.box 145 [(oS x5.2.b (g12.1.val,g12.2))]),((1,u1),some<|.box 27 (F2 p1)),((7,u18),some<|.box 42 (T6 v5)),((g12.1.val,g12.2),oB 5 1 C4 x5.2.b)]⟩) (56,x4.2) (g10.1,g10.2) _ hy7 (B7 (K8 Z)<|A2 G_hit (.of Z)<|sg Z<|sg Z<|B0 (Au g10.1.property 3 Z G_hit) trivial) ?_
 intro x5 g12 z5 hz5 ez5
 unfold Qp at hz5
 refine A3<|B8<|sv Z<|sv Z<|A1<|cc Z hz5 (fun c6 hz5=> ?_)<|fun c6 hz5=> ?_
 refine B3<|A3<|A5<|M6 fun u25 _=>sq Z<|sq Z<|sp Z Z<|sq Z<|B6 (oS x5.2.b (g12.1.val,g12.2)) Z (U6 Z G_hit Z) (sv Z<|sv Z<|sv Z<|sv Z<|bs hz5 fun v7 hv7 hz5=>sd Z (Nb Z Z hv7)<|sv Z<|B6 (dl C4 [(IntKind.wrap .u8 v7)]) Z Z (bs hz5 fun _ hv8 hz5=>G7 C4 (g12.1.val,g12.2) x5.2.b (IntKind.wrap .u8 v7) [] _ (E1<|fun _=>Z) Z (A9 (Li g12.1.property Z)<|A9 (Li g12.1.property Z)<|A9 (Li g12.1.property Z) G_hit) hv8 (sq Z<|sp Z Z<|U7 _ _ _ _ _ Z Z Z (A9 Z<|A9 (Mh g12.1.property Z) G_hit) (nl Z) [(.sl (29,u25))] Z (A1<|E0<|B5<|sv Z<|sv Z<|sv Z<|A1<|D6 ?_))))
 cases hz5
 exact ⟨Z,(⟨29, .tail _ (.head _)⟩,u25),(B7 (K8 Z)<|A2 G_hit (.box (.cons (.of (T1<|K5 hv8).symm) .nil))<|A2 (IC 2 Z<|A9 (Mh g12.1.property Z)<|gq Z) (.of Z) (A2 (IC 2 Z<|A9 (Mh g12.1.property Z)<|gq Z) (.of Z) (K9 (gq Z) trivial)))⟩
 refine C3 Z ?_
 cases hz5
 obtain rfl:=ez5 _ rfl
 refine ⟨nofun,C2 Z<|T4 ?_⟩
 exact ⟨(g12.1,g12.2),(B7 (K8 Z)<|A2 G_hit (.of Z)<|sg Z<|sg Z<|B0 (Au g12.1.property 3 Z G_hit) trivial)⟩
 rintro _ ⟨g11,q3⟩
 refine E0<|A7 q3<|B5<|sv Z<|sv Z<|A1<|D6 ?_
 cases hz4
 exact ⟨Z,(g11.1,g11.2),(B7 (K8 Z)<|A2 G_hit (.of Z)<|sg Z<|sg Z<|B0 (Au g11.1.property 3 Z G_hit) trivial)⟩
 refine C3 Z ?_
 cases hz4
 obtain rfl:=ez4 _ rfl
 refine ⟨nofun,C2 Z<|T4 ?_⟩
 exact ⟨(g10.1,g10.2),(B7 trivial<|sg Z<|A2 G_hit (.of Z)<|sg Z<|B0 (Au g10.1.property 3 Z G_hit) trivial)⟩
 rintro _ ⟨g9,q4⟩
 refine D6 ?_
 obtain rfl:=(lC hy5)
 exact Bn q4 (.inl Z) (g9.1,g9.2) (K8 Z) (A2 G_hit (.of Z)<|sg Z<|sg Z<|B0 (Au g9.1.property 3 Z G_hit) trivial)
 intro g8
 intro u28 hu28
 refine A1<|A3<|B8<|sq Z<|sp Z Z<|sl Z (gq Z) Z (sd Z (C8 Z)<|sv Z<|A1<|bs hz3 fun y8 hy8 hz3=>D0 (fun s=> ∃g13:({d:Nat // d∈ [25,29]}×Nat),Sb ⟨T [(1,(.ptr (1,u1) 0)),(5,(.ptr (28,u5) 0)),(7,(.ptr (7,u18) 0)),(38,(dl J7 p1.Lanes)),(39,(di (p1.Lanes.length:Int))),(40,(di x3.1))],G [((1,u1),some<|.box 27 (F2 p1)),((28,u5),some<|.box 145 [(oS y8.b (g13.1.val,g13.2))]),((7,u18),some<|.box 42 (T6 v5)),((g13.1.val,g13.2),oB 5 1 C4 y8.b)]⟩ s) ?_ ?_)
 refine A5<|D2 (Dj v5) (fun (x6:(Int×RoadsWriter)) (g14:({d:Nat // d∈ [25,29]}×Nat))=>⟨T [(1,(.ptr (1,u1) 0)),(5,(.ptr (28,u5) 0)),(7,(.ptr (7,u18) 0)),(38,(dl J7 p1.Lanes)),(39,(di (p1.Lanes.length:Int))),(40,(di x3.1)),(59,(dl K4 v5.Curve_.Pts)),(60,(di (v5.Curve_.Pts.length:Int))),(61,(di x6.1))],G [((1,u1),some<|.box 27 (F2 p1)),((28,u5),some<|.box 145 [(oS x6.2.b (g14.1.val,g14.2))]),((7,u18),some<|.box 42 (T6 v5)),((g14.1.val,g14.2),oB 5 1 C4 x6.2.b)]⟩) (0,y5) (g8.1,g8.2) _ hy8 (B7 (K8 Z)<|A2 G_hit (.of Z)<|sg Z<|sg Z<|B0 (Au g8.1.property 3 Z G_hit) trivial) ?_
 intro x6 g14 z6 hz6 ez6
 unfold Dj at hz6
 refine B8<|sv Z<|A1<|A3<|cc Z hz6 (fun c7 hz6=> ?_)<|fun c7 hz6=> ?_
 refine B3<|A3<|A5<|B8<|bs hz6 fun v9 hv9 hz6=>sd Z (D8 Z Z hv9 Z)<|sd Z (D9 Z hv9 Z Z)<|sm Z<|V6 Z G_hit [(di v9.X),(di v9.Y)] Z (A1<|B5<|sq Z<|sq Z<|sl Z G_hit Z<|sq Z<|sl Z G_hit Z<|B6 (dl A4 [v9.X,v9.Y]) Z Z (bs hz6 fun y9 hy9 hz6=>Im (fk func117 ntmps117 (fun r=>if r==6 then [1011]else []) (by with_unfolding_all rfl)) (fun (g15:({d:Nat // d∈ [25,29]}×Nat))=> [(1,(.ptr (1,u1) 0)),(5,(.ptr (28,u5) 0)),(7,(.ptr (7,u18) 0)),(38,(dl J7 p1.Lanes)),(39,(di (p1.Lanes.length:Int))),(40,(di x3.1)),(59,(dl K4 v5.Curve_.Pts)),(60,(di (v5.Curve_.Pts.length:Int))),(61,(di x6.1))]) (fun (g15:({d:Nat // d∈ [25,29]}×Nat))=> [((1,u1),some<|.box 27 (F2 p1)),((28,u5),some<|.box 145 [(oS y9.b (g15.1.val,g15.2))]),((7,u18),some<|.box 42 (T6 v5)),((g15.1.val,g15.2),oB 5 1 C4 y9.b)]) Z (nl Z) ?_ ?_))
 unfold Qo at hy9
 refine A7 (s0:=⟨T [(0,(.ptr (28,u5) 0)),(1,(dl A4 [v9.X,v9.Y]))],G [((28,u5),some<|.box 145 [(oS x6.2.b (g14.1.val,g14.2))]),((g14.1.val,g14.2),oB 5 1 C4 x6.2.b),((1,u1),some<|.box 27 (F2 p1)),((7,u18),some<|.box 42 (T6 v5))]⟩) (B7 (K8 Z)<|sg Z<|B0 (Au g14.1.property 5 Z G_hit)<|sg Z<|sg Z trivial) ?_
 refine B8<|B6 (dl A4 [v9.X,v9.Y]) Z Z (sd Z (C8 Z)<|sv Z<|A1<|bs hy9 fun y10 hy10 hy9=>D0 (fun s=> ∃g16:({d:Nat // d∈ [25,29]}×Nat),Sb ⟨T [],G [((1,u1),some<|.box 27 (F2 p1)),((28,u5),some<|.box 145 [(oS y10.b (g16.1.val,g16.2))]),((7,u18),some<|.box 42 (T6 v5)),((g16.1.val,g16.2),oB 5 1 C4 y10.b)]⟩ s) ?_ ?_)
 refine A5<|D2 (Pb v9) (fun (x7:(Int×RoadsWriter)) (g17:({d:Nat // d∈ [25,29]}×Nat))=>⟨T [(0,(.ptr (28,u5) 0)),(7,(dl A4 [v9.X,v9.Y])),(8,(di ([v9.X,v9.Y].length:Int))),(9,(di x7.1))],G [((28,u5),some<|.box 145 [(oS x7.2.b (g17.1.val,g17.2))]),((1,u1),some<|.box 27 (F2 p1)),((7,u18),some<|.box 42 (T6 v5)),((g17.1.val,g17.2),oB 5 1 C4 x7.2.b)]⟩) (0,x6.2) (g14.1,g14.2) _ hy10 (B7 (K8 Z)<|A2 G_hit (.of Z)<|A2 (A9 Z<|A9 (Mh g14.1.property Z) G_hit) (.of Z) (A2 (A9 Z<|A9 (Mh g14.1.property Z)<|gq Z) (.of Z) (B0 (A9 (Li g14.1.property Z) G_hit) trivial))) ?_
 intro x7 g17 z7 hz7 ez7
 unfold Pb at hz7
 refine B8<|sv Z<|A1<|A3<|cc Z hz7 (fun c8 hz7=> ?_)<|fun c8 hz7=> ?_
 refine B3<|A3<|A5<|B8<|bs hz7 fun v10 hv10 hz7=>sd Z (D8 Z Z hv10 Z)<|sd Z (E9 Z hv10 Z)<|sv Z<|A1<|B8<|sv Z<|A1<|bs hz7 fun y11 hy11 hz7=>D0 (fun s=> ∃g18:({d:Nat // d∈ [25,29]}×Nat),Sb ⟨T [(0,(.ptr (28,u5) 0)),(7,(dl A4 [v9.X,v9.Y])),(8,(di ([v9.X,v9.Y].length:Int))),(9,(di x7.1))],G [((28,u5),some<|.box 145 [(oS y11.b (g18.1.val,g18.2))]),((1,u1),some<|.box 27 (F2 p1)),((7,u18),some<|.box 42 (T6 v5)),((g18.1.val,g18.2),oB 5 1 C4 y11.b)]⟩ s) ?_ ?_
 refine A5<|D2 (Pa v10) (fun (x8:(Int×RoadsWriter)) (g19:({d:Nat // d∈ [25,29]}×Nat))=>⟨T [(0,(.ptr (28,u5) 0)),(5,(di v10)),(6,(di x8.1)),(7,(dl A4 [v9.X,v9.Y])),(8,(di ([v9.X,v9.Y].length:Int))),(9,(di x7.1))],G [((28,u5),some<|.box 145 [(oS x8.2.b (g19.1.val,g19.2))]),((1,u1),some<|.box 27 (F2 p1)),((7,u18),some<|.box 42 (T6 v5)),((g19.1.val,g19.2),oB 5 1 C4 x8.2.b)]⟩) (56,x7.2) (g17.1,g17.2) _ hy11 (B7 (K8 Z)<|A2 G_hit (.of Z)<|sg Z<|sg Z<|B0 (Au g17.1.property 3 Z G_hit) trivial) ?_
 intro x8 g19 z8 hz8 ez8
 unfold Pa at hz8
 refine A3<|B8<|sv Z<|sv Z<|A1<|cc Z hz8 (fun c9 hz8=> ?_)<|fun c9 hz8=> ?_
 refine B3<|A3<|A5<|M6 fun u38 _=>sq Z<|sq Z<|sp Z Z<|sq Z<|B6 (oS x8.2.b (g19.1.val,g19.2)) Z (U6 Z G_hit Z) (sv Z<|sv Z<|sv Z<|sv Z<|bs hz8 fun v11 hv11 hz8=>sd Z (Nb Z Z hv11)<|sv Z<|B6 (dl C4 [(IntKind.wrap .u8 v11)]) Z Z (bs hz8 fun _ hv12 hz8=>G7 C4 (g19.1.val,g19.2) x8.2.b (IntKind.wrap .u8 v11) [] _ (E1<|fun _=>Z) Z (A9 (Li g19.1.property Z)<|A9 (Li g19.1.property Z)<|A9 (Li g19.1.property Z) G_hit) hv12 (sq Z<|sp Z Z<|U7 _ _ _ _ _ Z Z Z (A9 Z<|A9 (Mh g19.1.property Z) G_hit) (nl Z) [(.sl (29,u38))] Z (A1<|E0<|B5<|sv Z<|sv Z<|sv Z<|A1<|D6 ?_))))
 cases hz8
 exact ⟨Z,(⟨29, .tail _ (.head _)⟩,u38),(B7 (K8 Z)<|A2 G_hit (.box (.cons (.of (T1<|K5 hv12).symm) .nil))<|A2 (IC 2 Z<|A9 (Mh g19.1.property Z)<|gq Z) (.of Z) (A2 (IC 2 Z<|A9 (Mh g19.1.property Z)<|gq Z) (.of Z) (K9 (gq Z) trivial)))⟩
 refine C3 Z ?_
 cases hz8
 obtain rfl:=ez8 _ rfl
 refine ⟨nofun,C2 Z<|T4 ?_⟩
 exact ⟨(g19.1,g19.2),(B7 (K8 Z)<|A2 G_hit (.of Z)<|sg Z<|sg Z<|B0 (Au g19.1.property 3 Z G_hit) trivial)⟩
 rintro _ ⟨g18,q5⟩
 refine E0<|A7 q5<|B5<|sv Z<|sv Z<|A1<|D6 ?_
 cases hz7
 exact ⟨Z,(g18.1,g18.2),(B7 (K8 Z)<|A2 G_hit (.of Z)<|sg Z<|sg Z<|B0 (Au g18.1.property 3 Z G_hit) trivial)⟩
 refine C3 Z ?_
 cases hz7
 obtain rfl:=ez7 _ rfl
 refine ⟨nofun,C2 Z<|T4 ?_⟩
 exact ⟨(g17.1,g17.2),(B7 trivial<|sg Z<|A2 G_hit (.of Z)<|sg Z<|B0 (Au g17.1.property 3 Z G_hit) trivial)⟩
 rintro _ ⟨g16,q6⟩
 refine D6 ?_
 obtain rfl:=(lC hy9)
 exact Bn q6 (.inl Z) (g16.1,g16.2) (K8 Z) (A2 G_hit (.of Z)<|sg Z<|sg Z<|B0 (Au g16.1.property 3 Z G_hit) trivial)
 intro g15
 intro u41 hu41
 refine A1<|E0<|B5<|sv Z<|sv Z<|A1<|D6 ?_
 cases hz6
 exact ⟨Z,(g15.1,g15.2),(B7 (K8 Z)<|A2 G_hit (.of Z)<|sg Z<|sg Z<|B0 (Au g15.1.property 3 Z G_hit) trivial)⟩
 refine C3 Z ?_
 cases hz6
 obtain rfl:=ez6 _ rfl
 refine ⟨nofun,C2 Z<|T4 ?_⟩
 exact ⟨(g14.1,g14.2),(B7 (K8 Z)<|A2 G_hit (.of Z)<|sg Z<|sg Z<|B0 (Au g14.1.property 3 Z G_hit) trivial)⟩
 rintro _ ⟨g13,q7⟩
 refine A7 q7<|B5<|sq Z<|sq Z<|sl Z (gq Z) Z (bs hz3 fun y12 hy12 hz3=>Im (fk func118 ntmps118 (fun r=>if r==0 then [4,1003]else if r==4 then [3,1002]else []) (by with_unfolding_all rfl)) (fun (g20:({d:Nat // d∈ [25,29]}×Nat))=> [(1,(.ptr (1,u1) 0)),(5,(.ptr (28,u5) 0)),(38,(dl J7 p1.Lanes)),(39,(di (p1.Lanes.length:Int))),(40,(di x3.1))]) (fun (g20:({d:Nat // d∈ [25,29]}×Nat))=> [((1,u1),some<|.box 27 (F2 p1)),((28,u5),some<|.box 145 [(oS y12.b (g20.1.val,g20.2))]),((g20.1.val,g20.2),oB 5 1 C4 y12.b)]) Z (nl Z) ?_ ?_)
 unfold Oz at hy12
 refine A7 (s0:=⟨T [(0,(.ptr (28,u5) 0)),(1,(dl A4 v5.Next))],G [((28,u5),some<|.box 145 [(oS y8.b (g13.1.val,g13.2))]),((g13.1.val,g13.2),oB 5 1 C4 y8.b),((1,u1),some<|.box 27 (F2 p1))]⟩) (B7 (K8 Z)<|sg Z<|B0 (Au g13.1.property 3 Z G_hit)<|A2 G_hit (.of Z) trivial) ?_
 refine B8<|sq Z<|sv Z<|sd Z (C8 Z)<|B6 (dl A4 [(v5.Next.length:Int)]) Z Z (bs hy12 fun y13 hy13 hy12=>Im (fk func117 ntmps117 (fun r=>if r==6 then [1011]else []) (by with_unfolding_all rfl)) (fun (g21:({d:Nat // d∈ [25,29]}×Nat))=> [(0,(.ptr (28,u5) 0)),(1,(dl A4 v5.Next))]) (fun (g21:({d:Nat // d∈ [25,29]}×Nat))=> [((28,u5),some<|.box 145 [(oS y13.b (g21.1.val,g21.2))]),((1,u1),some<|.box 27 (F2 p1)),((g21.1.val,g21.2),oB 5 1 C4 y13.b)]) Z (nl Z) ?_ ?_)
 unfold Oy at hy13
 refine A7 (s0:=⟨T [(0,(.ptr (28,u5) 0)),(1,(dl A4 [(v5.Next.length:Int)]))],G [((28,u5),some<|.box 145 [(oS y8.b (g13.1.val,g13.2))]),((g13.1.val,g13.2),oB 5 1 C4 y8.b),((1,u1),some<|.box 27 (F2 p1))]⟩) (B7 (K8 Z)<|A2 G_hit (.of Z)<|B0 (A9 (Li g13.1.property Z) G_hit)<|A2 (A9 Z<|A9 (Mh g13.1.property Z) G_hit) (.of Z) trivial) ?_
 refine B8<|B6 (dl A4 [(v5.Next.length:Int)]) Z Z (sd Z (C8 Z)<|sv Z<|A1<|bs hy13 fun y14 hy14 hy13=>D0 (fun s=> ∃g22:({d:Nat // d∈ [25,29]}×Nat),Sb ⟨T [],G [((1,u1),some<|.box 27 (F2 p1)),((28,u5),some<|.box 145 [(oS y14.b (g22.1.val,g22.2))]),((g22.1.val,g22.2),oB 5 1 C4 y14.b)]⟩ s) ?_ ?_)
 refine A5<|D2 (Ox v5) (fun (x9:(Int×RoadsWriter)) (g23:({d:Nat // d∈ [25,29]}×Nat))=>⟨T [(0,(.ptr (28,u5) 0)),(7,(dl A4 [(v5.Next.length:Int)])),(8,(di ([(v5.Next.length:Int)].length:Int))),(9,(di x9.1))],G [((28,u5),some<|.box 145 [(oS x9.2.b (g23.1.val,g23.2))]),((1,u1),some<|.box 27 (F2 p1)),((g23.1.val,g23.2),oB 5 1 C4 x9.2.b)]⟩) (0,y8) (g13.1,g13.2) _ hy14 (B7 (K8 Z)<|A2 G_hit (.of Z)<|A2 (A9 Z<|A9 (Mh g13.1.property Z) G_hit) (.of Z) (B0 (A9 (Li g13.1.property Z) G_hit) trivial)) ?_
 intro x9 g23 z9 hz9 ez9
 unfold Ox at hz9
 refine B8<|sv Z<|A1<|A3<|cc Z hz9 (fun c10 hz9=> ?_)<|fun c10 hz9=> ?_
 refine B3<|A3<|A5<|B8<|bs hz9 fun v13 hv13 hz9=>sd Z (D8 Z Z hv13 Z)<|sd Z (E9 Z hv13 Z)<|sv Z<|A1<|B8<|sv Z<|A1<|bs hz9 fun y15 hy15 hz9=>D0 (fun s=> ∃g24:({d:Nat // d∈ [25,29]}×Nat),Sb ⟨T [(0,(.ptr (28,u5) 0)),(7,(dl A4 [(v5.Next.length:Int)])),(8,(di ([(v5.Next.length:Int)].length:Int))),(9,(di x9.1))],G [((28,u5),some<|.box 145 [(oS y15.b (g24.1.val,g24.2))]),((1,u1),some<|.box 27 (F2 p1)),((g24.1.val,g24.2),oB 5 1 C4 y15.b)]⟩ s) ?_ ?_
 refine A5<|D2 (Ow v13) (fun (x10:(Int×RoadsWriter)) (g25:({d:Nat // d∈ [25,29]}×Nat))=>⟨T [(0,(.ptr (28,u5) 0)),(5,(di v13)),(6,(di x10.1)),(7,(dl A4 [(v5.Next.length:Int)])),(8,(di ([(v5.Next.length:Int)].length:Int))),(9,(di x9.1))],G [((28,u5),some<|.box 145 [(oS x10.2.b (g25.1.val,g25.2))]),((1,u1),some<|.box 27 (F2 p1)),((g25.1.val,g25.2),oB 5 1 C4 x10.2.b)]⟩) (56,x9.2) (g23.1,g23.2) _ hy15 (B7 (K8 Z)<|A2 G_hit (.of Z)<|sg Z<|B0 (Au g23.1.property 2 Z G_hit) trivial) ?_
 intro x10 g25 z10 hz10 ez10
 unfold Ow at hz10
 refine A3<|B8<|sv Z<|sv Z<|A1<|cc Z hz10 (fun c11 hz10=> ?_)<|fun c11 hz10=> ?_
 refine B3<|A3<|A5<|M6 fun u50 _=>sq Z<|sq Z<|sp Z Z<|sq Z<|B6 (oS x10.2.b (g25.1.val,g25.2)) Z (U6 Z G_hit Z) (sv Z<|sv Z<|sv Z<|sv Z<|bs hz10 fun v14 hv14 hz10=>sd Z (Nb Z Z hv14)<|sv Z<|B6 (dl C4 [(IntKind.wrap .u8 v14)]) Z Z (bs hz10 fun _ hv15 hz10=>G7 C4 (g25.1.val,g25.2) x10.2.b (IntKind.wrap .u8 v14) [] _ (E1<|fun _=>Z) Z (A9 (Li g25.1.property Z)<|A9 (Li g25.1.property Z) G_hit) hv15 (sq Z<|sp Z Z<|U7 _ _ _ _ _ Z Z Z (A9 Z<|A9 (Mh g25.1.property Z) G_hit) (nl Z) [(.sl (29,u50))] Z (A1<|E0<|B5<|sv Z<|sv Z<|sv Z<|A1<|D6 ?_))))
 cases hz10
 exact ⟨Z,(⟨29, .tail _ (.head _)⟩,u50),(B7 (K8 Z)<|A2 G_hit (.box (.cons (.of (T1<|K5 hv15).symm) .nil))<|A2 (IC 2 Z<|A9 (Mh g25.1.property Z)<|gq Z) (.of Z) (K9 (gq Z) trivial))⟩
 refine C3 Z ?_
 cases hz10
 obtain rfl:=ez10 _ rfl
 refine ⟨nofun,C2 Z<|T4 ?_⟩
 exact ⟨(g25.1,g25.2),(B7 (K8 Z)<|A2 G_hit (.of Z)<|sg Z<|B0 (Au g25.1.property 2 Z G_hit) trivial)⟩
 rintro _ ⟨g24,q8⟩
 refine E0<|A7 q8<|B5<|sv Z<|sv Z<|A1<|D6 ?_
 cases hz9
 exact ⟨Z,(g24.1,g24.2),(B7 (K8 Z)<|A2 G_hit (.of Z)<|sg Z<|B0 (Au g24.1.property 2 Z G_hit) trivial)⟩
 refine C3 Z ?_
 cases hz9
 obtain rfl:=ez9 _ rfl
 refine ⟨nofun,C2 Z<|T4 ?_⟩
 exact ⟨(g23.1,g23.2),(B7 trivial<|sg Z<|A2 G_hit (.of Z)<|B0 (Au g23.1.property 2 Z G_hit) trivial)⟩
 rintro _ ⟨g22,q9⟩
 refine D6 ?_
 obtain rfl:=(lC hy13)
 exact Bn q9 (.inl Z) (g22.1,g22.2) (K8 Z) (sg Z<|A2 G_hit (.of Z)<|B0 (Au g22.1.property 2 Z G_hit) trivial)
 intro g21
 intro u53 hu53
 refine A1<|B8<|sv Z<|sd Z (C8 Z)<|sv Z<|A1<|bs hy12 fun y16 hy16 hy12=>D0 (fun s=> ∃g26:({d:Nat // d∈ [25,29]}×Nat),Sb ⟨T [],G [((1,u1),some<|.box 27 (F2 p1)),((28,u5),some<|.box 145 [(oS y16.b (g26.1.val,g26.2))]),((g26.1.val,g26.2),oB 5 1 C4 y16.b)]⟩ s) ?_ ?_
 refine A5<|D2 (Cj v5) (fun (x11:(Int×RoadsWriter)) (g27:({d:Nat // d∈ [25,29]}×Nat))=>⟨T [(0,(.ptr (28,u5) 0)),(11,(dl A4 v5.Next)),(12,(di (v5.Next.length:Int))),(13,(di x11.1))],G [((28,u5),some<|.box 145 [(oS x11.2.b (g27.1.val,g27.2))]),((1,u1),some<|.box 27 (F2 p1)),((g27.1.val,g27.2),oB 5 1 C4 x11.2.b)]⟩) (0,y13) (g21.1,g21.2) _ hy16 (B7 (K8 Z)<|A2 G_hit (.of Z)<|sg Z<|B0 (Au g21.1.property 2 Z G_hit) trivial) ?_
 intro x11 g27 z11 hz11 ez11
 unfold Cj at hz11
 refine B8<|sv Z<|A1<|A3<|cc Z hz11 (fun c12 hz11=> ?_)<|fun c12 hz11=> ?_
 refine B3<|A3<|A5<|B8<|bs hz11 fun v16 hv16 hz11=>sd Z (D8 Z Z hv16 Z)<|sd Z (E9 Z hv16 Z)<|sv Z<|A1<|B5<|sq Z<|sv Z<|B6 (dl A4 [v16]) Z Z (bs hz11 fun y17 hy17 hz11=>Im (fk func117 ntmps117 (fun r=>if r==6 then [1011]else []) (by with_unfolding_all rfl)) (fun (g28:({d:Nat // d∈ [25,29]}×Nat))=> [(0,(.ptr (28,u5) 0)),(11,(dl A4 v5.Next)),(12,(di (v5.Next.length:Int))),(13,(di x11.1))]) (fun (g28:({d:Nat // d∈ [25,29]}×Nat))=> [((28,u5),some<|.box 145 [(oS y17.b (g28.1.val,g28.2))]),((1,u1),some<|.box 27 (F2 p1)),((g28.1.val,g28.2),oB 5 1 C4 y17.b)]) Z (nl Z) ?_ ?_)
 unfold Ov at hy17
 refine A7 (s0:=⟨T [(0,(.ptr (28,u5) 0)),(1,(dl A4 [v16]))],G [((28,u5),some<|.box 145 [(oS x11.2.b (g27.1.val,g27.2))]),((g27.1.val,g27.2),oB 5 1 C4 x11.2.b),((1,u1),some<|.box 27 (F2 p1))]⟩) (B7 (K8 Z)<|A2 G_hit (.of Z)<|B0 (Au g27.1.property 2 Z G_hit)<|sg Z trivial) ?_
 refine B8<|B6 (dl A4 [v16]) Z Z (sd Z (C8 Z)<|sv Z<|A1<|bs hy17 fun y18 hy18 hy17=>D0 (fun s=> ∃g29:({d:Nat // d∈ [25,29]}×Nat),Sb ⟨T [],G [((1,u1),some<|.box 27 (F2 p1)),((28,u5),some<|.box 145 [(oS y18.b (g29.1.val,g29.2))]),((g29.1.val,g29.2),oB 5 1 C4 y18.b)]⟩ s) ?_ ?_)
 refine A5<|D2 (Ou v16) (fun (x12:(Int×RoadsWriter)) (g30:({d:Nat // d∈ [25,29]}×Nat))=>⟨T [(0,(.ptr (28,u5) 0)),(7,(dl A4 [v16])),(8,(di ([v16].length:Int))),(9,(di x12.1))],G [((28,u5),some<|.box 145 [(oS x12.2.b (g30.1.val,g30.2))]),((1,u1),some<|.box 27 (F2 p1)),((g30.1.val,g30.2),oB 5 1 C4 x12.2.b)]⟩) (0,x11.2) (g27.1,g27.2) _ hy18 (B7 (K8 Z)<|A2 G_hit (.of Z)<|A2 (A9 Z<|A9 (Mh g27.1.property Z) G_hit) (.of Z) (B0 (A9 (Li g27.1.property Z) G_hit) trivial)) ?_
 intro x12 g30 z12 hz12 ez12
 unfold Ou at hz12
 refine B8<|sv Z<|A1<|A3<|cc Z hz12 (fun c13 hz12=> ?_)<|fun c13 hz12=> ?_
 refine B3<|A3<|A5<|B8<|bs hz12 fun v17 hv17 hz12=>sd Z (D8 Z Z hv17 Z)<|sd Z (E9 Z hv17 Z)<|sv Z<|A1<|B8<|sv Z<|A1<|bs hz12 fun y19 hy19 hz12=>D0 (fun s=> ∃g31:({d:Nat // d∈ [25,29]}×Nat),Sb ⟨T [(0,(.ptr (28,u5) 0)),(7,(dl A4 [v16])),(8,(di ([v16].length:Int))),(9,(di x12.1))],G [((28,u5),some<|.box 145 [(oS y19.b (g31.1.val,g31.2))]),((1,u1),some<|.box 27 (F2 p1)),((g31.1.val,g31.2),oB 5 1 C4 y19.b)]⟩ s) ?_ ?_
 refine A5<|D2 (Ot v17) (fun (x13:(Int×RoadsWriter)) (g32:({d:Nat // d∈ [25,29]}×Nat))=>⟨T [(0,(.ptr (28,u5) 0)),(5,(di v17)),(6,(di x13.1)),(7,(dl A4 [v16])),(8,(di ([v16].length:Int))),(9,(di x12.1))],G [((28,u5),some<|.box 145 [(oS x13.2.b (g32.1.val,g32.2))]),((1,u1),some<|.box 27 (F2 p1)),((g32.1.val,g32.2),oB 5 1 C4 x13.2.b)]⟩) (56,x12.2) (g30.1,g30.2) _ hy19 (B7 (K8 Z)<|A2 G_hit (.of Z)<|sg Z<|B0 (Au g30.1.property 2 Z G_hit) trivial) ?_
 intro x13 g32 z13 hz13 ez13
 unfold Ot at hz13
 refine A3<|B8<|sv Z<|sv Z<|A1<|cc Z hz13 (fun c14 hz13=> ?_)<|fun c14 hz13=> ?_
 refine B3<|A3<|A5<|M6 fun u63 _=>sq Z<|sq Z<|sp Z Z<|sq Z<|B6 (oS x13.2.b (g32.1.val,g32.2)) Z (U6 Z G_hit Z) (sv Z<|sv Z<|sv Z<|sv Z<|bs hz13 fun v18 hv18 hz13=>sd Z (Nb Z Z hv18)<|sv Z<|B6 (dl C4 [(IntKind.wrap .u8 v18)]) Z Z (bs hz13 fun _ hv19 hz13=>G7 C4 (g32.1.val,g32.2) x13.2.b (IntKind.wrap .u8 v18) [] _ (E1<|fun _=>Z) Z (A9 (Li g32.1.property Z)<|A9 (Li g32.1.property Z) G_hit) hv19 (sq Z<|sp Z Z<|U7 _ _ _ _ _ Z Z Z (A9 Z<|A9 (Mh g32.1.property Z) G_hit) (nl Z) [(.sl (29,u63))] Z (A1<|E0<|B5<|sv Z<|sv Z<|sv Z<|A1<|D6 ?_))))
 cases hz13
 exact ⟨Z,(⟨29, .tail _ (.head _)⟩,u63),(B7 (K8 Z)<|A2 G_hit (.box (.cons (.of (T1<|K5 hv19).symm) .nil))<|A2 (IC 2 Z<|A9 (Mh g32.1.property Z)<|gq Z) (.of Z) (K9 (gq Z) trivial))⟩
 refine C3 Z ?_
 cases hz13
 obtain rfl:=ez13 _ rfl
 refine ⟨nofun,C2 Z<|T4 ?_⟩
 exact ⟨(g32.1,g32.2),(B7 (K8 Z)<|A2 G_hit (.of Z)<|sg Z<|B0 (Au g32.1.property 2 Z G_hit) trivial)⟩
 rintro _ ⟨g31,q10⟩
 refine E0<|A7 q10<|B5<|sv Z<|sv Z<|A1<|D6 ?_
 cases hz12
 exact ⟨Z,(g31.1,g31.2),(B7 (K8 Z)<|A2 G_hit (.of Z)<|sg Z<|B0 (Au g31.1.property 2 Z G_hit) trivial)⟩
 refine C3 Z ?_
 cases hz12
 obtain rfl:=ez12 _ rfl
 refine ⟨nofun,C2 Z<|T4 ?_⟩
 exact ⟨(g30.1,g30.2),(B7 trivial<|sg Z<|A2 G_hit (.of Z)<|B0 (Au g30.1.property 2 Z G_hit) trivial)⟩
 rintro _ ⟨g29,q11⟩
 refine D6 ?_
 obtain rfl:=(lC hy17)
 exact Bn q11 (.inl Z) (g29.1,g29.2) (K8 Z) (sg Z<|A2 G_hit (.of Z)<|B0 (Au g29.1.property 2 Z G_hit) trivial)
 intro g28
 intro u66 hu66
 refine A1<|E0<|B5<|sv Z<|sv Z<|A1<|D6 ?_
 cases hz11
 exact ⟨Z,(g28.1,g28.2),(B7 (K8 Z)<|A2 G_hit (.of Z)<|sg Z<|B0 (Au g28.1.property 2 Z G_hit) trivial)⟩
 refine C3 Z ?_
 cases hz11
 obtain rfl:=ez11 _ rfl
 refine ⟨nofun,C2 Z<|T4 ?_⟩
 exact ⟨(g27.1,g27.2),(B7 trivial<|sg Z<|A2 G_hit (.of Z)<|B0 (Au g27.1.property 2 Z G_hit) trivial)⟩
 rintro _ ⟨g26,q12⟩
 refine D6 ?_
 obtain rfl:=(lC hy12)
 exact Bn q12 (.inl Z) (g26.1,g26.2) (K8 Z) (A2 G_hit (.of Z)<|sg Z<|B0 (Au g26.1.property 2 Z G_hit) trivial)
 intro g20
 intro u68 hu68
 refine A1<|E0<|B5<|sv Z<|sv Z<|A1<|D6 ?_
 cases hz3
 exact ⟨Z,(g20.1,g20.2),(B7 (K8 Z)<|A2 G_hit (.of Z)<|sg Z<|B0 (Au g20.1.property 2 Z G_hit) trivial)⟩
 refine C3 Z ?_
 cases hz3
 obtain rfl:=ez3 _ rfl
 refine ⟨nofun,C2 Z<|T4 ?_⟩
 exact ⟨(g7.1,g7.2),(B7 (K8 Z)<|A2 G_hit (.of Z)<|sg Z<|B0 (Au g7.1.property 2 Z G_hit) trivial)⟩
 rintro _ ⟨g6,q13⟩
 refine A7 q13<|B8<|sq Z<|sp Z Z<|sl Z G_hit Z<|sd Z (C8 Z)<|B6 (dl A4 [(p1.Zones.length:Int)]) Z Z (bs h fun y20 hy20 h=>Im (fk func117 ntmps117 (fun r=>if r==6 then [1011]else []) (by with_unfolding_all rfl)) (fun (g33:({d:Nat // d∈ [25,29]}×Nat))=> [(1,(.ptr (1,u1) 0)),(5,(.ptr (28,u5) 0))]) (fun (g33:({d:Nat // d∈ [25,29]}×Nat))=> [((1,u1),some<|.box 27 (F2 p1)),((28,u5),some<|.box 145 [(oS y20.b (g33.1.val,g33.2))]),((g33.1.val,g33.2),oB 5 1 C4 y20.b)]) Z (nl Z) ?_ ?_)
 unfold Oq at hy20
 refine A7 (s0:=⟨T [(0,(.ptr (28,u5) 0)),(1,(dl A4 [(p1.Zones.length:Int)]))],G [((28,u5),some<|.box 145 [(oS y4.b (g6.1.val,g6.2))]),((g6.1.val,g6.2),oB 5 1 C4 y4.b),((1,u1),some<|.box 27 (F2 p1))]⟩) (B7 (K8 Z)<|sg Z<|B0 (Au g6.1.property 2 Z G_hit)<|A2 G_hit (.of Z) trivial) ?_
 refine B8<|B6 (dl A4 [(p1.Zones.length:Int)]) Z Z (sd Z (C8 Z)<|sv Z<|A1<|bs hy20 fun y21 hy21 hy20=>D0 (fun s=> ∃g34:({d:Nat // d∈ [25,29]}×Nat),Sb ⟨T [],G [((1,u1),some<|.box 27 (F2 p1)),((28,u5),some<|.box 145 [(oS y21.b (g34.1.val,g34.2))]),((g34.1.val,g34.2),oB 5 1 C4 y21.b)]⟩ s) ?_ ?_)
 refine A5<|D2 (Oo p1) (fun (x14:(Int×RoadsWriter)) (g35:({d:Nat // d∈ [25,29]}×Nat))=>⟨T [(0,(.ptr (28,u5) 0)),(7,(dl A4 [(p1.Zones.length:Int)])),(8,(di ([(p1.Zones.length:Int)].length:Int))),(9,(di x14.1))],G [((28,u5),some<|.box 145 [(oS x14.2.b (g35.1.val,g35.2))]),((1,u1),some<|.box 27 (F2 p1)),((g35.1.val,g35.2),oB 5 1 C4 x14.2.b)]⟩) (0,y4) (g6.1,g6.2) _ hy21 (B7 (K8 Z)<|A2 G_hit (.of Z)<|A2 (A9 Z<|A9 (Mh g6.1.property Z) G_hit) (.of Z) (B0 (A9 (Li g6.1.property Z) G_hit) trivial)) ?_
 intro x14 g35 z14 hz14 ez14
 unfold Oo at hz14
 refine B8<|sv Z<|A1<|A3<|cc Z hz14 (fun c15 hz14=> ?_)<|fun c15 hz14=> ?_
 refine B3<|A3<|A5<|B8<|bs hz14 fun v20 hv20 hz14=>sd Z (D8 Z Z hv20 Z)<|sd Z (E9 Z hv20 Z)<|sv Z<|A1<|B8<|sv Z<|A1<|bs hz14 fun y22 hy22 hz14=>D0 (fun s=> ∃g36:({d:Nat // d∈ [25,29]}×Nat),Sb ⟨T [(0,(.ptr (28,u5) 0)),(7,(dl A4 [(p1.Zones.length:Int)])),(8,(di ([(p1.Zones.length:Int)].length:Int))),(9,(di x14.1))],G [((28,u5),some<|.box 145 [(oS y22.b (g36.1.val,g36.2))]),((1,u1),some<|.box 27 (F2 p1)),((g36.1.val,g36.2),oB 5 1 C4 y22.b)]⟩ s) ?_ ?_
 refine A5<|D2 (On v20) (fun (x15:(Int×RoadsWriter)) (g37:({d:Nat // d∈ [25,29]}×Nat))=>⟨T [(0,(.ptr (28,u5) 0)),(5,(di v20)),(6,(di x15.1)),(7,(dl A4 [(p1.Zones.length:Int)])),(8,(di ([(p1.Zones.length:Int)].length:Int))),(9,(di x14.1))],G [((28,u5),some<|.box 145 [(oS x15.2.b (g37.1.val,g37.2))]),((1,u1),some<|.box 27 (F2 p1)),((g37.1.val,g37.2),oB 5 1 C4 x15.2.b)]⟩) (56,x14.2) (g35.1,g35.2) _ hy22 (B7 (K8 Z)<|A2 G_hit (.of Z)<|sg Z<|B0 (Au g35.1.property 2 Z G_hit) trivial) ?_
 intro x15 g37 z15 hz15 ez15
 unfold On at hz15
 refine A3<|B8<|sv Z<|sv Z<|A1<|cc Z hz15 (fun c16 hz15=> ?_)<|fun c16 hz15=> ?_
 refine B3<|A3<|A5<|M6 fun u76 _=>sq Z<|sq Z<|sp Z Z<|sq Z<|B6 (oS x15.2.b (g37.1.val,g37.2)) Z (U6 Z G_hit Z) (sv Z<|sv Z<|sv Z<|sv Z<|bs hz15 fun v21 hv21 hz15=>sd Z (Nb Z Z hv21)<|sv Z<|B6 (dl C4 [(IntKind.wrap .u8 v21)]) Z Z (bs hz15 fun _ hv22 hz15=>G7 C4 (g37.1.val,g37.2) x15.2.b (IntKind.wrap .u8 v21) [] _ (E1<|fun _=>Z) Z (A9 (Li g37.1.property Z)<|A9 (Li g37.1.property Z) G_hit) hv22 (sq Z<|sp Z Z<|U7 _ _ _ _ _ Z Z Z (A9 Z<|A9 (Mh g37.1.property Z) G_hit) (nl Z) [(.sl (29,u76))] Z (A1<|E0<|B5<|sv Z<|sv Z<|sv Z<|A1<|D6 ?_))))
 cases hz15
 exact ⟨Z,(⟨29, .tail _ (.head _)⟩,u76),(B7 (K8 Z)<|A2 G_hit (.box (.cons (.of (T1<|K5 hv22).symm) .nil))<|A2 (IC 2 Z<|A9 (Mh g37.1.property Z)<|gq Z) (.of Z) (K9 (gq Z) trivial))⟩
 refine C3 Z ?_
 cases hz15
 obtain rfl:=ez15 _ rfl
 refine ⟨nofun,C2 Z<|T4 ?_⟩
 exact ⟨(g37.1,g37.2),(B7 (K8 Z)<|A2 G_hit (.of Z)<|sg Z<|B0 (Au g37.1.property 2 Z G_hit) trivial)⟩
 rintro _ ⟨g36,q14⟩
 refine E0<|A7 q14<|B5<|sv Z<|sv Z<|A1<|D6 ?_
 cases hz14
 exact ⟨Z,(g36.1,g36.2),(B7 (K8 Z)<|A2 G_hit (.of Z)<|sg Z<|B0 (Au g36.1.property 2 Z G_hit) trivial)⟩
 refine C3 Z ?_
 cases hz14
 obtain rfl:=ez14 _ rfl
 refine ⟨nofun,C2 Z<|T4 ?_⟩
 exact ⟨(g35.1,g35.2),(B7 trivial<|sg Z<|A2 G_hit (.of Z)<|B0 (Au g35.1.property 2 Z G_hit) trivial)⟩
 rintro _ ⟨g34,q15⟩
 refine D6 ?_
 obtain rfl:=(lC hy20)
 exact Bn q15 (.inl Z) (g34.1,g34.2) (K8 Z) (A2 G_hit (.of Z)<|sg Z<|B0 (Au g34.1.property 2 Z G_hit) trivial)
 intro g33
 intro u79 hu79
 refine A1<|A3<|B8<|sq Z<|sl Z G_hit Z<|sd Z (C8 Z)<|sv Z<|A1<|bs h fun y23 hy23 h=>D0 (fun s=> ∃g38:({d:Nat // d∈ [25,29]}×Nat),Sb ⟨T [(1,(.ptr (1,u1) 0)),(5,(.ptr (28,u5) 0))],G [((1,u1),some<|.box 27 (F2 p1)),((28,u5),some<|.box 145 [(oS y23.b (g38.1.val,g38.2))]),((g38.1.val,g38.2),oB 5 1 C4 y23.b)]⟩ s) ?_ ?_
 refine A5<|D2 (Ci p1) (fun (x16:(Int×RoadsWriter)) (g39:({d:Nat // d∈ [25,29]}×Nat))=>⟨T [(1,(.ptr (1,u1) 0)),(5,(.ptr (28,u5) 0)),(85,(dl J2 p1.Zones)),(86,(di (p1.Zones.length:Int))),(87,(di x16.1))],G [((1,u1),some<|.box 27 (F2 p1)),((28,u5),some<|.box 145 [(oS x16.2.b (g39.1.val,g39.2))]),((g39.1.val,g39.2),oB 5 1 C4 x16.2.b)]⟩) (0,y20) (g33.1,g33.2) _ hy23 (B7 (K8 Z)<|A2 G_hit (.of Z)<|sg Z<|B0 (Au g33.1.property 2 Z G_hit) trivial) ?_
 intro x16 g39 z16 hz16 ez16
 unfold Ci at hz16
 refine B8<|sv Z<|A1<|A3<|cc Z hz16 (fun c17 hz16=> ?_)<|fun c17 hz16=> ?_
 refine B3<|A3<|A5<|lr<|fun u82 _=>bs hz16 fun v23 hv23 hz16=>sd Z (D8 Z Z hv23 Z)<|sd Z (D9 Z hv23 Z Z)<|sm Z<|V6 Z G_hit [(dl G8 v23.Parts),(di v23.Signal_)] Z (A1<|B8<|sq Z<|sp Z Z<|sl Z G_hit Z<|sq Z<|sl Z G_hit Z<|sd Z (C8 Z)<|B6 (dl A4 [v23.Signal_,(v23.Parts.length:Int)]) Z Z (bs hz16 fun y24 hy24 hz16=>Im (fk func117 ntmps117 (fun r=>if r==6 then [1011]else []) (by with_unfolding_all rfl)) (fun (g40:({d:Nat // d∈ [25,29]}×Nat))=> [(1,(.ptr (1,u1) 0)),(5,(.ptr (28,u5) 0)),(11,(.ptr (11,u82) 0)),(85,(dl J2 p1.Zones)),(86,(di (p1.Zones.length:Int))),(87,(di x16.1))]) (fun (g40:({d:Nat // d∈ [25,29]}×Nat))=> [((1,u1),some<|.box 27 (F2 p1)),((28,u5),some<|.box 145 [(oS y24.b (g40.1.val,g40.2))]),((11,u82),some<|.box 45 [(dl G8 v23.Parts),(di v23.Signal_)]),((g40.1.val,g40.2),oB 5 1 C4 y24.b)]) Z (nl Z) ?_ ?_))
 unfold Om at hy24
 refine A7 (s0:=⟨T [(0,(.ptr (28,u5) 0)),(1,(dl A4 [v23.Signal_,(v23.Parts.length:Int)]))],G [((28,u5),some<|.box 145 [(oS x16.2.b (g39.1.val,g39.2))]),((g39.1.val,g39.2),oB 5 1 C4 x16.2.b),((1,u1),some<|.box 27 (F2 p1)),((11,u82),some<|.box 45 [(dl G8 v23.Parts),(di v23.Signal_)])]⟩) (B7 (K8 Z)<|sg Z<|B0 (Au g39.1.property 4 Z G_hit)<|sg Z<|A2 G_hit (.of Z) trivial) ?_
 refine B8<|B6 (dl A4 [v23.Signal_,(v23.Parts.length:Int)]) Z Z (sd Z (C8 Z)<|sv Z<|A1<|bs hy24 fun y25 hy25 hy24=>D0 (fun s=> ∃g41:({d:Nat // d∈ [25,29]}×Nat),Sb ⟨T [],G [((1,u1),some<|.box 27 (F2 p1)),((28,u5),some<|.box 145 [(oS y25.b (g41.1.val,g41.2))]),((11,u82),some<|.box 45 [(dl G8 v23.Parts),(di v23.Signal_)]),((g41.1.val,g41.2),oB 5 1 C4 y25.b)]⟩ s) ?_ ?_)
 refine A5<|D2 (Ol v23) (fun (x17:(Int×RoadsWriter)) (g42:({d:Nat // d∈ [25,29]}×Nat))=>⟨T [(0,(.ptr (28,u5) 0)),(7,(dl A4 [v23.Signal_,(v23.Parts.length:Int)])),(8,(di ([v23.Signal_,(v23.Parts.length:Int)].length:Int))),(9,(di x17.1))],G [((28,u5),some<|.box 145 [(oS x17.2.b (g42.1.val,g42.2))]),((1,u1),some<|.box 27 (F2 p1)),((11,u82),some<|.box 45 [(dl G8 v23.Parts),(di v23.Signal_)]),((g42.1.val,g42.2),oB 5 1 C4 x17.2.b)]⟩) (0,x16.2) (g39.1,g39.2) _ hy25 (B7 (K8 Z)<|A2 G_hit (.of Z)<|A2 (A9 Z<|A9 (Mh g39.1.property Z) G_hit) (.of Z) (A2 (A9 Z<|A9 (Mh g39.1.property Z)<|gq Z) (.of Z) (B0 (A9 (Li g39.1.property Z) G_hit) trivial))) ?_
 intro x17 g42 z17 hz17 ez17
 unfold Ol at hz17
 refine B8<|sv Z<|A1<|A3<|cc Z hz17 (fun c18 hz17=> ?_)<|fun c18 hz17=> ?_
 refine B3<|A3<|A5<|B8<|bs hz17 fun v24 hv24 hz17=>sd Z (D8 Z Z hv24 Z)<|sd Z (E9 Z hv24 Z)<|sv Z<|A1<|B8<|sv Z<|A1<|bs hz17 fun y26 hy26 hz17=>D0 (fun s=> ∃g43:({d:Nat // d∈ [25,29]}×Nat),Sb ⟨T [(0,(.ptr (28,u5) 0)),(7,(dl A4 [v23.Signal_,(v23.Parts.length:Int)])),(8,(di ([v23.Signal_,(v23.Parts.length:Int)].length:Int))),(9,(di x17.1))],G [((28,u5),some<|.box 145 [(oS y26.b (g43.1.val,g43.2))]),((1,u1),some<|.box 27 (F2 p1)),((11,u82),some<|.box 45 [(dl G8 v23.Parts),(di v23.Signal_)]),((g43.1.val,g43.2),oB 5 1 C4 y26.b)]⟩ s) ?_ ?_
 refine A5<|D2 (Ok v24) (fun (x18:(Int×RoadsWriter)) (g44:({d:Nat // d∈ [25,29]}×Nat))=>⟨T [(0,(.ptr (28,u5) 0)),(5,(di v24)),(6,(di x18.1)),(7,(dl A4 [v23.Signal_,(v23.Parts.length:Int)])),(8,(di ([v23.Signal_,(v23.Parts.length:Int)].length:Int))),(9,(di x17.1))],G [((28,u5),some<|.box 145 [(oS x18.2.b (g44.1.val,g44.2))]),((1,u1),some<|.box 27 (F2 p1)),((11,u82),some<|.box 45 [(dl G8 v23.Parts),(di v23.Signal_)]),((g44.1.val,g44.2),oB 5 1 C4 x18.2.b)]⟩) (56,x17.2) (g42.1,g42.2) _ hy26 (B7 (K8 Z)<|A2 G_hit (.of Z)<|sg Z<|sg Z<|B0 (Au g42.1.property 3 Z G_hit) trivial) ?_
 intro x18 g44 z18 hz18 ez18
 unfold Ok at hz18
 refine A3<|B8<|sv Z<|sv Z<|A1<|cc Z hz18 (fun c19 hz18=> ?_)<|fun c19 hz18=> ?_
 refine B3<|A3<|A5<|M6 fun u89 _=>sq Z<|sq Z<|sp Z Z<|sq Z<|B6 (oS x18.2.b (g44.1.val,g44.2)) Z (U6 Z G_hit Z) (sv Z<|sv Z<|sv Z<|sv Z<|bs hz18 fun v25 hv25 hz18=>sd Z (Nb Z Z hv25)<|sv Z<|B6 (dl C4 [(IntKind.wrap .u8 v25)]) Z Z (bs hz18 fun _ hv26 hz18=>G7 C4 (g44.1.val,g44.2) x18.2.b (IntKind.wrap .u8 v25) [] _ (E1<|fun _=>Z) Z (A9 (Li g44.1.property Z)<|A9 (Li g44.1.property Z)<|A9 (Li g44.1.property Z) G_hit) hv26 (sq Z<|sp Z Z<|U7 _ _ _ _ _ Z Z Z (A9 Z<|A9 (Mh g44.1.property Z) G_hit) (nl Z) [(.sl (29,u89))] Z (A1<|E0<|B5<|sv Z<|sv Z<|sv Z<|A1<|D6 ?_))))
 cases hz18
 exact ⟨Z,(⟨29, .tail _ (.head _)⟩,u89),(B7 (K8 Z)<|A2 G_hit (.box (.cons (.of (T1<|K5 hv26).symm) .nil))<|A2 (IC 2 Z<|A9 (Mh g44.1.property Z)<|gq Z) (.of Z) (A2 (IC 2 Z<|A9 (Mh g44.1.property Z)<|gq Z) (.of Z) (K9 (gq Z) trivial)))⟩
 refine C3 Z ?_
 cases hz18
 obtain rfl:=ez18 _ rfl
 refine ⟨nofun,C2 Z<|T4 ?_⟩
 exact ⟨(g44.1,g44.2),(B7 (K8 Z)<|A2 G_hit (.of Z)<|sg Z<|sg Z<|B0 (Au g44.1.property 3 Z G_hit) trivial)⟩
 rintro _ ⟨g43,q16⟩
 refine E0<|A7 q16<|B5<|sv Z<|sv Z<|A1<|D6 ?_
 cases hz17
 exact ⟨Z,(g43.1,g43.2),(B7 (K8 Z)<|A2 G_hit (.of Z)<|sg Z<|sg Z<|B0 (Au g43.1.property 3 Z G_hit) trivial)⟩
 refine C3 Z ?_
 cases hz17
 obtain rfl:=ez17 _ rfl
 refine ⟨nofun,C2 Z<|T4 ?_⟩
 exact ⟨(g42.1,g42.2),(B7 trivial<|sg Z<|A2 G_hit (.of Z)<|sg Z<|B0 (Au g42.1.property 3 Z G_hit) trivial)⟩
 rintro _ ⟨g41,q17⟩
 refine D6 ?_
 obtain rfl:=(lC hy24)
 exact Bn q17 (.inl Z) (g41.1,g41.2) (K8 Z) (A2 G_hit (.of Z)<|sg Z<|sg Z<|B0 (Au g41.1.property 3 Z G_hit) trivial)
 intro g40
 intro u92 hu92
 refine A1<|B8<|sq Z<|sl Z (gq Z) Z (sd Z (C8 Z)<|sv Z<|A1<|bs hz16 fun y27 hy27 hz16=>D0 (fun s=> ∃g45:({d:Nat // d∈ [25,29]}×Nat),Sb ⟨T [(1,(.ptr (1,u1) 0)),(5,(.ptr (28,u5) 0)),(85,(dl J2 p1.Zones)),(86,(di (p1.Zones.length:Int))),(87,(di x16.1))],G [((1,u1),some<|.box 27 (F2 p1)),((28,u5),some<|.box 145 [(oS y27.b (g45.1.val,g45.2))]),((g45.1.val,g45.2),oB 5 1 C4 y27.b)]⟩ s) ?_ ?_)
 refine A5<|D2 (Cg v23) (fun (x19:(Int×RoadsWriter)) (g46:({d:Nat // d∈ [25,29]}×Nat))=>⟨T [(1,(.ptr (1,u1) 0)),(5,(.ptr (28,u5) 0)),(85,(dl J2 p1.Zones)),(86,(di (p1.Zones.length:Int))),(87,(di x16.1)),(100,(dl G8 v23.Parts)),(101,(di (v23.Parts.length:Int))),(102,(di x19.1))],G [((1,u1),some<|.box 27 (F2 p1)),((28,u5),some<|.box 145 [(oS x19.2.b (g46.1.val,g46.2))]),((g46.1.val,g46.2),oB 5 1 C4 x19.2.b)]⟩) (0,y24) (g40.1,g40.2) _ hy27 (B7 (K8 Z)<|A2 G_hit (.of Z)<|sg Z<|B0 (Au g40.1.property 3 Z G_hit) trivial) ?_
 intro x19 g46 z19 hz19 ez19
 unfold Cg at hz19
 refine B8<|sv Z<|A1<|A3<|cc Z hz19 (fun c20 hz19=> ?_)<|fun c20 hz19=> ?_
 refine B3<|A3<|A5<|B8<|bs hz19 fun v27 hv27 hz19=>sd Z (D8 Z Z hv27 Z)<|sd Z (D9 Z hv27 Z Z)<|sm Z<|V6 Z G_hit (Sz v27) Z (A1<|B5<|sq Z<|sq Z<|sl Z G_hit Z<|sq Z<|sl Z G_hit Z<|sq Z<|sl Z G_hit Z<|sq Z<|sl Z G_hit Z<|B6 (dl A4 [v27.Lane_,v27.From,v27.To,v27.Rank]) Z Z (bs hz19 fun y28 hy28 hz19=>Im (fk func117 ntmps117 (fun r=>if r==6 then [1011]else []) (by with_unfolding_all rfl)) (fun (g47:({d:Nat // d∈ [25,29]}×Nat))=> [(1,(.ptr (1,u1) 0)),(5,(.ptr (28,u5) 0)),(85,(dl J2 p1.Zones)),(86,(di (p1.Zones.length:Int))),(87,(di x16.1)),(100,(dl G8 v23.Parts)),(101,(di (v23.Parts.length:Int))),(102,(di x19.1))]) (fun (g47:({d:Nat // d∈ [25,29]}×Nat))=> [((1,u1),some<|.box 27 (F2 p1)),((28,u5),some<|.box 145 [(oS y28.b (g47.1.val,g47.2))]),((g47.1.val,g47.2),oB 5 1 C4 y28.b)]) Z (nl Z) ?_ ?_))
 unfold Oj at hy28
 refine A7 (s0:=⟨T [(0,(.ptr (28,u5) 0)),(1,(dl A4 [v27.Lane_,v27.From,v27.To,v27.Rank]))],G [((28,u5),some<|.box 145 [(oS x19.2.b (g46.1.val,g46.2))]),((g46.1.val,g46.2),oB 5 1 C4 x19.2.b),((1,u1),some<|.box 27 (F2 p1))]⟩) (B7 (K8 Z)<|sg Z<|B0 (Au g46.1.property 4 Z G_hit)<|sg Z trivial) ?_
 refine B8<|B6 (dl A4 [v27.Lane_,v27.From,v27.To,v27.Rank]) Z Z (sd Z (C8 Z)<|sv Z<|A1<|bs hy28 fun y29 hy29 hy28=>D0 (fun s=> ∃g48:({d:Nat // d∈ [25,29]}×Nat),Sb ⟨T [],G [((1,u1),some<|.box 27 (F2 p1)),((28,u5),some<|.box 145 [(oS y29.b (g48.1.val,g48.2))]),((g48.1.val,g48.2),oB 5 1 C4 y29.b)]⟩ s) ?_ ?_)
 refine A5<|D2 (Oi v27) (fun (x20:(Int×RoadsWriter)) (g49:({d:Nat // d∈ [25,29]}×Nat))=>⟨T [(0,(.ptr (28,u5) 0)),(7,(dl A4 [v27.Lane_,v27.From,v27.To,v27.Rank])),(8,(di ([v27.Lane_,v27.From,v27.To,v27.Rank].length:Int))),(9,(di x20.1))],G [((28,u5),some<|.box 145 [(oS x20.2.b (g49.1.val,g49.2))]),((1,u1),some<|.box 27 (F2 p1)),((g49.1.val,g49.2),oB 5 1 C4 x20.2.b)]⟩) (0,x19.2) (g46.1,g46.2) _ hy29 (B7 (K8 Z)<|A2 G_hit (.of Z)<|A2 (A9 Z<|A9 (Mh g46.1.property Z) G_hit) (.of Z) (B0 (A9 (Li g46.1.property Z) G_hit) trivial)) ?_
 intro x20 g49 z20 hz20 ez20
 unfold Oi at hz20
 refine B8<|sv Z<|A1<|A3<|cc Z hz20 (fun c21 hz20=> ?_)<|fun c21 hz20=> ?_
 refine B3<|A3<|A5<|B8<|bs hz20 fun v28 hv28 hz20=>sd Z (D8 Z Z hv28 Z)<|sd Z (E9 Z hv28 Z)<|sv Z<|A1<|B8<|sv Z<|A1<|bs hz20 fun y30 hy30 hz20=>D0 (fun s=> ∃g50:({d:Nat // d∈ [25,29]}×Nat),Sb ⟨T [(0,(.ptr (28,u5) 0)),(7,(dl A4 [v27.Lane_,v27.From,v27.To,v27.Rank])),(8,(di ([v27.Lane_,v27.From,v27.To,v27.Rank].length:Int))),(9,(di x20.1))],G [((28,u5),some<|.box 145 [(oS y30.b (g50.1.val,g50.2))]),((1,u1),some<|.box 27 (F2 p1)),((g50.1.val,g50.2),oB 5 1 C4 y30.b)]⟩ s) ?_ ?_
 refine A5<|D2 (Oh v28) (fun (x21:(Int×RoadsWriter)) (g51:({d:Nat // d∈ [25,29]}×Nat))=>⟨T [(0,(.ptr (28,u5) 0)),(5,(di v28)),(6,(di x21.1)),(7,(dl A4 [v27.Lane_,v27.From,v27.To,v27.Rank])),(8,(di ([v27.Lane_,v27.From,v27.To,v27.Rank].length:Int))),(9,(di x20.1))],G [((28,u5),some<|.box 145 [(oS x21.2.b (g51.1.val,g51.2))]),((1,u1),some<|.box 27 (F2 p1)),((g51.1.val,g51.2),oB 5 1 C4 x21.2.b)]⟩) (56,x20.2) (g49.1,g49.2) _ hy30 (B7 (K8 Z)<|A2 G_hit (.of Z)<|sg Z<|B0 (Au g49.1.property 2 Z G_hit) trivial) ?_
 intro x21 g51 z21 hz21 ez21
 unfold Oh at hz21
 refine A3<|B8<|sv Z<|sv Z<|A1<|cc Z hz21 (fun c22 hz21=> ?_)<|fun c22 hz21=> ?_
 refine B3<|A3<|A5<|M6 fun u102 _=>sq Z<|sq Z<|sp Z Z<|sq Z<|B6 (oS x21.2.b (g51.1.val,g51.2)) Z (U6 Z G_hit Z) (sv Z<|sv Z<|sv Z<|sv Z<|bs hz21 fun v29 hv29 hz21=>sd Z (Nb Z Z hv29)<|sv Z<|B6 (dl C4 [(IntKind.wrap .u8 v29)]) Z Z (bs hz21 fun _ hv30 hz21=>G7 C4 (g51.1.val,g51.2) x21.2.b (IntKind.wrap .u8 v29) [] _ (E1<|fun _=>Z) Z (A9 (Li g51.1.property Z)<|A9 (Li g51.1.property Z) G_hit) hv30 (sq Z<|sp Z Z<|U7 _ _ _ _ _ Z Z Z (A9 Z<|A9 (Mh g51.1.property Z) G_hit) (nl Z) [(.sl (29,u102))] Z (A1<|E0<|B5<|sv Z<|sv Z<|sv Z<|A1<|D6 ?_))))
 cases hz21
 exact ⟨Z,(⟨29, .tail _ (.head _)⟩,u102),(B7 (K8 Z)<|A2 G_hit (.box (.cons (.of (T1<|K5 hv30).symm) .nil))<|A2 (IC 2 Z<|A9 (Mh g51.1.property Z)<|gq Z) (.of Z) (K9 (gq Z) trivial))⟩
 refine C3 Z ?_
 cases hz21
 obtain rfl:=ez21 _ rfl
 refine ⟨nofun,C2 Z<|T4 ?_⟩
 exact ⟨(g51.1,g51.2),(B7 (K8 Z)<|A2 G_hit (.of Z)<|sg Z<|B0 (Au g51.1.property 2 Z G_hit) trivial)⟩
 rintro _ ⟨g50,q18⟩
 refine E0<|A7 q18<|B5<|sv Z<|sv Z<|A1<|D6 ?_
 cases hz20
 exact ⟨Z,(g50.1,g50.2),(B7 (K8 Z)<|A2 G_hit (.of Z)<|sg Z<|B0 (Au g50.1.property 2 Z G_hit) trivial)⟩
 refine C3 Z ?_
 cases hz20
 obtain rfl:=ez20 _ rfl
 refine ⟨nofun,C2 Z<|T4 ?_⟩
 exact ⟨(g49.1,g49.2),(B7 trivial<|sg Z<|A2 G_hit (.of Z)<|B0 (Au g49.1.property 2 Z G_hit) trivial)⟩
 rintro _ ⟨g48,q19⟩
 refine D6 ?_
 obtain rfl:=(lC hy28)
 exact Bn q19 (.inl Z) (g48.1,g48.2) (K8 Z) (A2 G_hit (.of Z)<|sg Z<|B0 (Au g48.1.property 2 Z G_hit) trivial)
 intro g47
 intro u105 hu105
 refine A1<|E0<|B5<|sv Z<|sv Z<|A1<|D6 ?_
 cases hz19
 exact ⟨Z,(g47.1,g47.2),(B7 (K8 Z)<|A2 G_hit (.of Z)<|sg Z<|B0 (Au g47.1.property 2 Z G_hit) trivial)⟩
 refine C3 Z ?_
 cases hz19
 obtain rfl:=ez19 _ rfl
 refine ⟨nofun,C2 Z<|T4 ?_⟩
 exact ⟨(g46.1,g46.2),(B7 (K8 Z)<|A2 G_hit (.of Z)<|sg Z<|B0 (Au g46.1.property 2 Z G_hit) trivial)⟩
 rintro _ ⟨g45,q20⟩
 refine E0<|A7 q20<|B5<|sv Z<|sv Z<|A1<|D6 ?_
 cases hz16
 exact ⟨Z,(g45.1,g45.2),(B7 (K8 Z)<|A2 G_hit (.of Z)<|sg Z<|B0 (Au g45.1.property 2 Z G_hit) trivial)⟩
 refine C3 Z ?_
 cases hz16
 obtain rfl:=ez16 _ rfl
 refine ⟨nofun,C2 Z<|T4 ?_⟩
 exact ⟨(g39.1,g39.2),(B7 (K8 Z)<|A2 G_hit (.of Z)<|sg Z<|B0 (Au g39.1.property 2 Z G_hit) trivial)⟩
 rintro _ ⟨g38,q21⟩
 refine A7 q21<|B8<|sq Z<|sp Z Z<|sl Z G_hit Z<|sd Z (C8 Z)<|B6 (dl A4 [(p1.Signals.length:Int)]) Z Z (bs h fun y31 hy31 h=>Im (fk func117 ntmps117 (fun r=>if r==6 then [1011]else []) (by with_unfolding_all rfl)) (fun (g52:({d:Nat // d∈ [25,29]}×Nat))=> [(1,(.ptr (1,u1) 0)),(5,(.ptr (28,u5) 0))]) (fun (g52:({d:Nat // d∈ [25,29]}×Nat))=> [((1,u1),some<|.box 27 (F2 p1)),((28,u5),some<|.box 145 [(oS y31.b (g52.1.val,g52.2))]),((g52.1.val,g52.2),oB 5 1 C4 y31.b)]) Z (nl Z) ?_ ?_)
 unfold Og at hy31
 refine A7 (s0:=⟨T [(0,(.ptr (28,u5) 0)),(1,(dl A4 [(p1.Signals.length:Int)]))],G [((28,u5),some<|.box 145 [(oS y23.b (g38.1.val,g38.2))]),((g38.1.val,g38.2),oB 5 1 C4 y23.b),((1,u1),some<|.box 27 (F2 p1))]⟩) (B7 (K8 Z)<|sg Z<|B0 (Au g38.1.property 2 Z G_hit)<|A2 G_hit (.of Z) trivial) ?_
 refine B8<|B6 (dl A4 [(p1.Signals.length:Int)]) Z Z (sd Z (C8 Z)<|sv Z<|A1<|bs hy31 fun y32 hy32 hy31=>D0 (fun s=> ∃g53:({d:Nat // d∈ [25,29]}×Nat),Sb ⟨T [],G [((1,u1),some<|.box 27 (F2 p1)),((28,u5),some<|.box 145 [(oS y32.b (g53.1.val,g53.2))]),((g53.1.val,g53.2),oB 5 1 C4 y32.b)]⟩ s) ?_ ?_)
 refine A5<|D2 (Of p1) (fun (x22:(Int×RoadsWriter)) (g54:({d:Nat // d∈ [25,29]}×Nat))=>⟨T [(0,(.ptr (28,u5) 0)),(7,(dl A4 [(p1.Signals.length:Int)])),(8,(di ([(p1.Signals.length:Int)].length:Int))),(9,(di x22.1))],G [((28,u5),some<|.box 145 [(oS x22.2.b (g54.1.val,g54.2))]),((1,u1),some<|.box 27 (F2 p1)),((g54.1.val,g54.2),oB 5 1 C4 x22.2.b)]⟩) (0,y23) (g38.1,g38.2) _ hy32 (B7 (K8 Z)<|A2 G_hit (.of Z)<|A2 (A9 Z<|A9 (Mh g38.1.property Z) G_hit) (.of Z) (B0 (A9 (Li g38.1.property Z) G_hit) trivial)) ?_
 intro x22 g54 z22 hz22 ez22
 unfold Of at hz22
 refine B8<|sv Z<|A1<|A3<|cc Z hz22 (fun c23 hz22=> ?_)<|fun c23 hz22=> ?_
 refine B3<|A3<|A5<|B8<|bs hz22 fun v31 hv31 hz22=>sd Z (D8 Z Z hv31 Z)<|sd Z (E9 Z hv31 Z)<|sv Z<|A1<|B8<|sv Z<|A1<|bs hz22 fun y33 hy33 hz22=>D0 (fun s=> ∃g55:({d:Nat // d∈ [25,29]}×Nat),Sb ⟨T [(0,(.ptr (28,u5) 0)),(7,(dl A4 [(p1.Signals.length:Int)])),(8,(di ([(p1.Signals.length:Int)].length:Int))),(9,(di x22.1))],G [((28,u5),some<|.box 145 [(oS y33.b (g55.1.val,g55.2))]),((1,u1),some<|.box 27 (F2 p1)),((g55.1.val,g55.2),oB 5 1 C4 y33.b)]⟩ s) ?_ ?_
 refine A5<|D2 (Oe v31) (fun (x23:(Int×RoadsWriter)) (g56:({d:Nat // d∈ [25,29]}×Nat))=>⟨T [(0,(.ptr (28,u5) 0)),(5,(di v31)),(6,(di x23.1)),(7,(dl A4 [(p1.Signals.length:Int)])),(8,(di ([(p1.Signals.length:Int)].length:Int))),(9,(di x22.1))],G [((28,u5),some<|.box 145 [(oS x23.2.b (g56.1.val,g56.2))]),((1,u1),some<|.box 27 (F2 p1)),((g56.1.val,g56.2),oB 5 1 C4 x23.2.b)]⟩) (56,x22.2) (g54.1,g54.2) _ hy33 (B7 (K8 Z)<|A2 G_hit (.of Z)<|sg Z<|B0 (Au g54.1.property 2 Z G_hit) trivial) ?_
 intro x23 g56 z23 hz23 ez23
 unfold Oe at hz23
 refine A3<|B8<|sv Z<|sv Z<|A1<|cc Z hz23 (fun c24 hz23=> ?_)<|fun c24 hz23=> ?_
 refine B3<|A3<|A5<|M6 fun u114 _=>sq Z<|sq Z<|sp Z Z<|sq Z<|B6 (oS x23.2.b (g56.1.val,g56.2)) Z (U6 Z G_hit Z) (sv Z<|sv Z<|sv Z<|sv Z<|bs hz23 fun v32 hv32 hz23=>sd Z (Nb Z Z hv32)<|sv Z<|B6 (dl C4 [(IntKind.wrap .u8 v32)]) Z Z (bs hz23 fun _ hv33 hz23=>G7 C4 (g56.1.val,g56.2) x23.2.b (IntKind.wrap .u8 v32) [] _ (E1<|fun _=>Z) Z (A9 (Li g56.1.property Z)<|A9 (Li g56.1.property Z) G_hit) hv33 (sq Z<|sp Z Z<|U7 _ _ _ _ _ Z Z Z (A9 Z<|A9 (Mh g56.1.property Z) G_hit) (nl Z) [(.sl (29,u114))] Z (A1<|E0<|B5<|sv Z<|sv Z<|sv Z<|A1<|D6 ?_))))
 cases hz23
 exact ⟨Z,(⟨29, .tail _ (.head _)⟩,u114),(B7 (K8 Z)<|A2 G_hit (.box (.cons (.of (T1<|K5 hv33).symm) .nil))<|A2 (IC 2 Z<|A9 (Mh g56.1.property Z)<|gq Z) (.of Z) (K9 (gq Z) trivial))⟩
 refine C3 Z ?_
 cases hz23
 obtain rfl:=ez23 _ rfl
 refine ⟨nofun,C2 Z<|T4 ?_⟩
 exact ⟨(g56.1,g56.2),(B7 (K8 Z)<|A2 G_hit (.of Z)<|sg Z<|B0 (Au g56.1.property 2 Z G_hit) trivial)⟩
 rintro _ ⟨g55,q22⟩
 refine E0<|A7 q22<|B5<|sv Z<|sv Z<|A1<|D6 ?_
 cases hz22
 exact ⟨Z,(g55.1,g55.2),(B7 (K8 Z)<|A2 G_hit (.of Z)<|sg Z<|B0 (Au g55.1.property 2 Z G_hit) trivial)⟩
 refine C3 Z ?_
 cases hz22
 obtain rfl:=ez22 _ rfl
 refine ⟨nofun,C2 Z<|T4 ?_⟩
 exact ⟨(g54.1,g54.2),(B7 trivial<|sg Z<|A2 G_hit (.of Z)<|B0 (Au g54.1.property 2 Z G_hit) trivial)⟩
 rintro _ ⟨g53,q23⟩
 refine D6 ?_
 obtain rfl:=(lC hy31)
 exact Bn q23 (.inl Z) (g53.1,g53.2) (K8 Z) (A2 G_hit (.of Z)<|sg Z<|B0 (Au g53.1.property 2 Z G_hit) trivial)
 intro g52
 intro u117 hu117
 refine A1<|A3<|B8<|sq Z<|sl Z G_hit Z<|sd Z (C8 Z)<|sv Z<|A1<|bs h fun y34 hy34 h=>D0 (fun s=> ∃g57:({d:Nat // d∈ [25,29]}×Nat),Sb ⟨T [(1,(.ptr (1,u1) 0)),(5,(.ptr (28,u5) 0))],G [((1,u1),some<|.box 27 (F2 p1)),((28,u5),some<|.box 145 [(oS y34.b (g57.1.val,g57.2))]),((g57.1.val,g57.2),oB 5 1 C4 y34.b)]⟩ s) ?_ ?_
 refine A5<|D2 (Cf p1) (fun (x24:(Int×RoadsWriter)) (g58:({d:Nat // d∈ [25,29]}×Nat))=>⟨T [(1,(.ptr (1,u1) 0)),(5,(.ptr (28,u5) 0)),(126,(dl J9 p1.Signals)),(127,(di (p1.Signals.length:Int))),(128,(di x24.1))],G [((1,u1),some<|.box 27 (F2 p1)),((28,u5),some<|.box 145 [(oS x24.2.b (g58.1.val,g58.2))]),((g58.1.val,g58.2),oB 5 1 C4 x24.2.b)]⟩) (0,y31) (g52.1,g52.2) _ hy34 (B7 (K8 Z)<|A2 G_hit (.of Z)<|sg Z<|B0 (Au g52.1.property 2 Z G_hit) trivial) ?_
 intro x24 g58 z24 hz24 ez24
 unfold Cf at hz24
 refine B8<|sv Z<|A1<|A3<|cc Z hz24 (fun c25 hz24=> ?_)<|fun c25 hz24=> ?_
 refine B3<|A3<|A5<|lr<|fun u120 _=>bs hz24 fun v34 hv34 hz24=>sd Z (D8 Z Z hv34 Z)<|sd Z (D9 Z hv34 Z Z)<|sm Z<|V6 Z G_hit [(di v34.Offset),(dl G2 v34.Phases)] Z (A1<|B8<|sq Z<|sp Z Z<|sl Z G_hit Z<|sq Z<|sl Z G_hit Z<|sd Z (C8 Z)<|B6 (dl A4 [v34.Offset,(v34.Phases.length:Int)]) Z Z (bs hz24 fun y35 hy35 hz24=>Im (fk func117 ntmps117 (fun r=>if r==6 then [1011]else []) (by with_unfolding_all rfl)) (fun (g59:({d:Nat // d∈ [25,29]}×Nat))=> [(1,(.ptr (1,u1) 0)),(5,(.ptr (28,u5) 0)),(15,(.ptr (15,u120) 0)),(126,(dl J9 p1.Signals)),(127,(di (p1.Signals.length:Int))),(128,(di x24.1))]) (fun (g59:({d:Nat // d∈ [25,29]}×Nat))=> [((1,u1),some<|.box 27 (F2 p1)),((28,u5),some<|.box 145 [(oS y35.b (g59.1.val,g59.2))]),((15,u120),some<|.box 48 [(di v34.Offset),(dl G2 v34.Phases)]),((g59.1.val,g59.2),oB 5 1 C4 y35.b)]) Z (nl Z) ?_ ?_))
 unfold Od at hy35
 refine A7 (s0:=⟨T [(0,(.ptr (28,u5) 0)),(1,(dl A4 [v34.Offset,(v34.Phases.length:Int)]))],G [((28,u5),some<|.box 145 [(oS x24.2.b (g58.1.val,g58.2))]),((g58.1.val,g58.2),oB 5 1 C4 x24.2.b),((1,u1),some<|.box 27 (F2 p1)),((15,u120),some<|.box 48 [(di v34.Offset),(dl G2 v34.Phases)])]⟩) (B7 (K8 Z)<|sg Z<|B0 (Au g58.1.property 4 Z G_hit)<|sg Z<|A2 G_hit (.of Z) trivial) ?_
 refine B8<|B6 (dl A4 [v34.Offset,(v34.Phases.length:Int)]) Z Z (sd Z (C8 Z)<|sv Z<|A1<|bs hy35 fun y36 hy36 hy35=>D0 (fun s=> ∃g60:({d:Nat // d∈ [25,29]}×Nat),Sb ⟨T [],G [((1,u1),some<|.box 27 (F2 p1)),((28,u5),some<|.box 145 [(oS y36.b (g60.1.val,g60.2))]),((15,u120),some<|.box 48 [(di v34.Offset),(dl G2 v34.Phases)]),((g60.1.val,g60.2),oB 5 1 C4 y36.b)]⟩ s) ?_ ?_)
 refine A5<|D2 (Oc v34) (fun (x25:(Int×RoadsWriter)) (g61:({d:Nat // d∈ [25,29]}×Nat))=>⟨T [(0,(.ptr (28,u5) 0)),(7,(dl A4 [v34.Offset,(v34.Phases.length:Int)])),(8,(di ([v34.Offset,(v34.Phases.length:Int)].length:Int))),(9,(di x25.1))],G [((28,u5),some<|.box 145 [(oS x25.2.b (g61.1.val,g61.2))]),((1,u1),some<|.box 27 (F2 p1)),((15,u120),some<|.box 48 [(di v34.Offset),(dl G2 v34.Phases)]),((g61.1.val,g61.2),oB 5 1 C4 x25.2.b)]⟩) (0,x24.2) (g58.1,g58.2) _ hy36 (B7 (K8 Z)<|A2 G_hit (.of Z)<|A2 (A9 Z<|A9 (Mh g58.1.property Z) G_hit) (.of Z) (A2 (A9 Z<|A9 (Mh g58.1.property Z)<|gq Z) (.of Z) (B0 (A9 (Li g58.1.property Z) G_hit) trivial))) ?_
 intro x25 g61 z25 hz25 ez25
 unfold Oc at hz25
 refine B8<|sv Z<|A1<|A3<|cc Z hz25 (fun c26 hz25=> ?_)<|fun c26 hz25=> ?_
 refine B3<|A3<|A5<|B8<|bs hz25 fun v35 hv35 hz25=>sd Z (D8 Z Z hv35 Z)<|sd Z (E9 Z hv35 Z)<|sv Z<|A1<|B8<|sv Z<|A1<|bs hz25 fun y37 hy37 hz25=>D0 (fun s=> ∃g62:({d:Nat // d∈ [25,29]}×Nat),Sb ⟨T [(0,(.ptr (28,u5) 0)),(7,(dl A4 [v34.Offset,(v34.Phases.length:Int)])),(8,(di ([v34.Offset,(v34.Phases.length:Int)].length:Int))),(9,(di x25.1))],G [((28,u5),some<|.box 145 [(oS y37.b (g62.1.val,g62.2))]),((1,u1),some<|.box 27 (F2 p1)),((15,u120),some<|.box 48 [(di v34.Offset),(dl G2 v34.Phases)]),((g62.1.val,g62.2),oB 5 1 C4 y37.b)]⟩ s) ?_ ?_
 refine A5<|D2 (Ob v35) (fun (x26:(Int×RoadsWriter)) (g63:({d:Nat // d∈ [25,29]}×Nat))=>⟨T [(0,(.ptr (28,u5) 0)),(5,(di v35)),(6,(di x26.1)),(7,(dl A4 [v34.Offset,(v34.Phases.length:Int)])),(8,(di ([v34.Offset,(v34.Phases.length:Int)].length:Int))),(9,(di x25.1))],G [((28,u5),some<|.box 145 [(oS x26.2.b (g63.1.val,g63.2))]),((1,u1),some<|.box 27 (F2 p1)),((15,u120),some<|.box 48 [(di v34.Offset),(dl G2 v34.Phases)]),((g63.1.val,g63.2),oB 5 1 C4 x26.2.b)]⟩) (56,x25.2) (g61.1,g61.2) _ hy37 (B7 (K8 Z)<|A2 G_hit (.of Z)<|sg Z<|sg Z<|B0 (Au g61.1.property 3 Z G_hit) trivial) ?_
 intro x26 g63 z26 hz26 ez26
 unfold Ob at hz26
 refine A3<|B8<|sv Z<|sv Z<|A1<|cc Z hz26 (fun c27 hz26=> ?_)<|fun c27 hz26=> ?_
 refine B3<|A3<|A5<|M6 fun u127 _=>sq Z<|sq Z<|sp Z Z<|sq Z<|B6 (oS x26.2.b (g63.1.val,g63.2)) Z (U6 Z G_hit Z) (sv Z<|sv Z<|sv Z<|sv Z<|bs hz26 fun v36 hv36 hz26=>sd Z (Nb Z Z hv36)<|sv Z<|B6 (dl C4 [(IntKind.wrap .u8 v36)]) Z Z (bs hz26 fun _ hv37 hz26=>G7 C4 (g63.1.val,g63.2) x26.2.b (IntKind.wrap .u8 v36) [] _ (E1<|fun _=>Z) Z (A9 (Li g63.1.property Z)<|A9 (Li g63.1.property Z)<|A9 (Li g63.1.property Z) G_hit) hv37 (sq Z<|sp Z Z<|U7 _ _ _ _ _ Z Z Z (A9 Z<|A9 (Mh g63.1.property Z) G_hit) (nl Z) [(.sl (29,u127))] Z (A1<|E0<|B5<|sv Z<|sv Z<|sv Z<|A1<|D6 ?_))))
 cases hz26
 exact ⟨Z,(⟨29, .tail _ (.head _)⟩,u127),(B7 (K8 Z)<|A2 G_hit (.box (.cons (.of (T1<|K5 hv37).symm) .nil))<|A2 (IC 2 Z<|A9 (Mh g63.1.property Z)<|gq Z) (.of Z) (A2 (IC 2 Z<|A9 (Mh g63.1.property Z)<|gq Z) (.of Z) (K9 (gq Z) trivial)))⟩
 refine C3 Z ?_
 cases hz26
 obtain rfl:=ez26 _ rfl
 refine ⟨nofun,C2 Z<|T4 ?_⟩
 exact ⟨(g63.1,g63.2),(B7 (K8 Z)<|A2 G_hit (.of Z)<|sg Z<|sg Z<|B0 (Au g63.1.property 3 Z G_hit) trivial)⟩
 rintro _ ⟨g62,q24⟩
 refine E0<|A7 q24<|B5<|sv Z<|sv Z<|A1<|D6 ?_
 cases hz25
 exact ⟨Z,(g62.1,g62.2),(B7 (K8 Z)<|A2 G_hit (.of Z)<|sg Z<|sg Z<|B0 (Au g62.1.property 3 Z G_hit) trivial)⟩
 refine C3 Z ?_
 cases hz25
 obtain rfl:=ez25 _ rfl
 refine ⟨nofun,C2 Z<|T4 ?_⟩
 exact ⟨(g61.1,g61.2),(B7 trivial<|sg Z<|A2 G_hit (.of Z)<|sg Z<|B0 (Au g61.1.property 3 Z G_hit) trivial)⟩
 rintro _ ⟨g60,q25⟩
 refine D6 ?_
 obtain rfl:=(lC hy35)
 exact Bn q25 (.inl Z) (g60.1,g60.2) (K8 Z) (A2 G_hit (.of Z)<|sg Z<|sg Z<|B0 (Au g60.1.property 3 Z G_hit) trivial)
 intro g59
 intro u130 hu130
 refine A1<|B8<|sq Z<|sl Z (gq Z) Z (sd Z (C8 Z)<|sv Z<|A1<|bs hz24 fun y38 hy38 hz24=>D0 (fun s=> ∃g64:({d:Nat // d∈ [25,29]}×Nat),Sb ⟨T [(1,(.ptr (1,u1) 0)),(5,(.ptr (28,u5) 0)),(126,(dl J9 p1.Signals)),(127,(di (p1.Signals.length:Int))),(128,(di x24.1))],G [((1,u1),some<|.box 27 (F2 p1)),((28,u5),some<|.box 145 [(oS y38.b (g64.1.val,g64.2))]),((g64.1.val,g64.2),oB 5 1 C4 y38.b)]⟩ s) ?_ ?_)
 refine A5<|D2 (Ce v34) (fun (x27:(Int×RoadsWriter)) (g65:({d:Nat // d∈ [25,29]}×Nat))=>⟨T [(1,(.ptr (1,u1) 0)),(5,(.ptr (28,u5) 0)),(126,(dl J9 p1.Signals)),(127,(di (p1.Signals.length:Int))),(128,(di x24.1)),(141,(dl G2 v34.Phases)),(142,(di (v34.Phases.length:Int))),(143,(di x27.1))],G [((1,u1),some<|.box 27 (F2 p1)),((28,u5),some<|.box 145 [(oS x27.2.b (g65.1.val,g65.2))]),((g65.1.val,g65.2),oB 5 1 C4 x27.2.b)]⟩) (0,y35) (g59.1,g59.2) _ hy38 (B7 (K8 Z)<|A2 G_hit (.of Z)<|sg Z<|B0 (Au g59.1.property 3 Z G_hit) trivial) ?_
 intro x27 g65 z27 hz27 ez27
 unfold Ce at hz27
 refine B8<|sv Z<|A1<|A3<|cc Z hz27 (fun c28 hz27=> ?_)<|fun c28 hz27=> ?_
 refine B3<|A3<|A5<|lr<|fun u133 _=>bs hz27 fun v38 hv38 hz27=>sd Z (D8 Z Z hv38 Z)<|sd Z (D9 Z hv38 Z Z)<|sm Z<|V6 Z G_hit [(di v38.Ticks),(dl A4 v38.Green)] Z (A1<|B8<|sq Z<|sp Z Z<|sl Z G_hit Z<|B6 (dl A4 [v38.Ticks]) Z Z (bs hz27 fun y39 hy39 hz27=>Im (fk func117 ntmps117 (fun r=>if r==6 then [1011]else []) (by with_unfolding_all rfl)) (fun (g66:({d:Nat // d∈ [25,29]}×Nat))=> [(1,(.ptr (1,u1) 0)),(5,(.ptr (28,u5) 0)),(17,(.ptr (17,u133) 0)),(126,(dl J9 p1.Signals)),(127,(di (p1.Signals.length:Int))),(128,(di x24.1)),(141,(dl G2 v34.Phases)),(142,(di (v34.Phases.length:Int))),(143,(di x27.1))]) (fun (g66:({d:Nat // d∈ [25,29]}×Nat))=> [((1,u1),some<|.box 27 (F2 p1)),((28,u5),some<|.box 145 [(oS y39.b (g66.1.val,g66.2))]),((17,u133),some<|.box 97 [(di v38.Ticks),(dl A4 v38.Green)]),((g66.1.val,g66.2),oB 5 1 C4 y39.b)]) Z (nl Z) ?_ ?_))
 unfold Oa at hy39
 refine A7 (s0:=⟨T [(0,(.ptr (28,u5) 0)),(1,(dl A4 [v38.Ticks]))],G [((28,u5),some<|.box 145 [(oS x27.2.b (g65.1.val,g65.2))]),((g65.1.val,g65.2),oB 5 1 C4 x27.2.b),((1,u1),some<|.box 27 (F2 p1)),((17,u133),some<|.box 97 [(di v38.Ticks),(dl A4 v38.Green)])]⟩) (B7 (K8 Z)<|sg Z<|B0 (Au g65.1.property 4 Z G_hit)<|sg Z<|A2 G_hit (.of Z) trivial) ?_
 refine B8<|B6 (dl A4 [v38.Ticks]) Z Z (sd Z (C8 Z)<|sv Z<|A1<|bs hy39 fun y40 hy40 hy39=>D0 (fun s=> ∃g67:({d:Nat // d∈ [25,29]}×Nat),Sb ⟨T [],G [((1,u1),some<|.box 27 (F2 p1)),((28,u5),some<|.box 145 [(oS y40.b (g67.1.val,g67.2))]),((17,u133),some<|.box 97 [(di v38.Ticks),(dl A4 v38.Green)]),((g67.1.val,g67.2),oB 5 1 C4 y40.b)]⟩ s) ?_ ?_)
 refine A5<|D2 (Nz v38) (fun (x28:(Int×RoadsWriter)) (g68:({d:Nat // d∈ [25,29]}×Nat))=>⟨T [(0,(.ptr (28,u5) 0)),(7,(dl A4 [v38.Ticks])),(8,(di ([v38.Ticks].length:Int))),(9,(di x28.1))],G [((28,u5),some<|.box 145 [(oS x28.2.b (g68.1.val,g68.2))]),((1,u1),some<|.box 27 (F2 p1)),((17,u133),some<|.box 97 [(di v38.Ticks),(dl A4 v38.Green)]),((g68.1.val,g68.2),oB 5 1 C4 x28.2.b)]⟩) (0,x27.2) (g65.1,g65.2) _ hy40 (B7 (K8 Z)<|A2 G_hit (.of Z)<|A2 (A9 Z<|A9 (Mh g65.1.property Z) G_hit) (.of Z) (A2 (A9 Z<|A9 (Mh g65.1.property Z)<|gq Z) (.of Z) (B0 (A9 (Li g65.1.property Z) G_hit) trivial))) ?_
 intro x28 g68 z28 hz28 ez28
 unfold Nz at hz28
 refine B8<|sv Z<|A1<|A3<|cc Z hz28 (fun c29 hz28=> ?_)<|fun c29 hz28=> ?_
 refine B3<|A3<|A5<|B8<|bs hz28 fun v39 hv39 hz28=>sd Z (D8 Z Z hv39 Z)<|sd Z (E9 Z hv39 Z)<|sv Z<|A1<|B8<|sv Z<|A1<|bs hz28 fun y41 hy41 hz28=>D0 (fun s=> ∃g69:({d:Nat // d∈ [25,29]}×Nat),Sb ⟨T [(0,(.ptr (28,u5) 0)),(7,(dl A4 [v38.Ticks])),(8,(di ([v38.Ticks].length:Int))),(9,(di x28.1))],G [((28,u5),some<|.box 145 [(oS y41.b (g69.1.val,g69.2))]),((1,u1),some<|.box 27 (F2 p1)),((17,u133),some<|.box 97 [(di v38.Ticks),(dl A4 v38.Green)]),((g69.1.val,g69.2),oB 5 1 C4 y41.b)]⟩ s) ?_ ?_
 refine A5<|D2 (Ny v39) (fun (x29:(Int×RoadsWriter)) (g70:({d:Nat // d∈ [25,29]}×Nat))=>⟨T [(0,(.ptr (28,u5) 0)),(5,(di v39)),(6,(di x29.1)),(7,(dl A4 [v38.Ticks])),(8,(di ([v38.Ticks].length:Int))),(9,(di x28.1))],G [((28,u5),some<|.box 145 [(oS x29.2.b (g70.1.val,g70.2))]),((1,u1),some<|.box 27 (F2 p1)),((17,u133),some<|.box 97 [(di v38.Ticks),(dl A4 v38.Green)]),((g70.1.val,g70.2),oB 5 1 C4 x29.2.b)]⟩) (56,x28.2) (g68.1,g68.2) _ hy41 (B7 (K8 Z)<|A2 G_hit (.of Z)<|sg Z<|sg Z<|B0 (Au g68.1.property 3 Z G_hit) trivial) ?_
 intro x29 g70 z29 hz29 ez29
 unfold Ny at hz29
 refine A3<|B8<|sv Z<|sv Z<|A1<|cc Z hz29 (fun c30 hz29=> ?_)<|fun c30 hz29=> ?_
 refine B3<|A3<|A5<|M6 fun u140 _=>sq Z<|sq Z<|sp Z Z<|sq Z<|B6 (oS x29.2.b (g70.1.val,g70.2)) Z (U6 Z G_hit Z) (sv Z<|sv Z<|sv Z<|sv Z<|bs hz29 fun v40 hv40 hz29=>sd Z (Nb Z Z hv40)<|sv Z<|B6 (dl C4 [(IntKind.wrap .u8 v40)]) Z Z (bs hz29 fun _ hv41 hz29=>G7 C4 (g70.1.val,g70.2) x29.2.b (IntKind.wrap .u8 v40) [] _ (E1<|fun _=>Z) Z (A9 (Li g70.1.property Z)<|A9 (Li g70.1.property Z)<|A9 (Li g70.1.property Z) G_hit) hv41 (sq Z<|sp Z Z<|U7 _ _ _ _ _ Z Z Z (A9 Z<|A9 (Mh g70.1.property Z) G_hit) (nl Z) [(.sl (29,u140))] Z (A1<|E0<|B5<|sv Z<|sv Z<|sv Z<|A1<|D6 ?_))))
 cases hz29
 exact ⟨Z,(⟨29, .tail _ (.head _)⟩,u140),(B7 (K8 Z)<|A2 G_hit (.box (.cons (.of (T1<|K5 hv41).symm) .nil))<|A2 (IC 2 Z<|A9 (Mh g70.1.property Z)<|gq Z) (.of Z) (A2 (IC 2 Z<|A9 (Mh g70.1.property Z)<|gq Z) (.of Z) (K9 (gq Z) trivial)))⟩
 refine C3 Z ?_
 cases hz29
 obtain rfl:=ez29 _ rfl
 refine ⟨nofun,C2 Z<|T4 ?_⟩
 exact ⟨(g70.1,g70.2),(B7 (K8 Z)<|A2 G_hit (.of Z)<|sg Z<|sg Z<|B0 (Au g70.1.property 3 Z G_hit) trivial)⟩
 rintro _ ⟨g69,q26⟩
 refine E0<|A7 q26<|B5<|sv Z<|sv Z<|A1<|D6 ?_
 cases hz28
 exact ⟨Z,(g69.1,g69.2),(B7 (K8 Z)<|A2 G_hit (.of Z)<|sg Z<|sg Z<|B0 (Au g69.1.property 3 Z G_hit) trivial)⟩
 refine C3 Z ?_
 cases hz28
 obtain rfl:=ez28 _ rfl
 refine ⟨nofun,C2 Z<|T4 ?_⟩
 exact ⟨(g68.1,g68.2),(B7 trivial<|sg Z<|A2 G_hit (.of Z)<|sg Z<|B0 (Au g68.1.property 3 Z G_hit) trivial)⟩
 rintro _ ⟨g67,q27⟩
 refine D6 ?_
 obtain rfl:=(lC hy39)
 exact Bn q27 (.inl Z) (g67.1,g67.2) (K8 Z) (A2 G_hit (.of Z)<|sg Z<|sg Z<|B0 (Au g67.1.property 3 Z G_hit) trivial)
 intro g66
 intro u143 hu143
 refine A1<|B5<|sq Z<|sq Z<|sl Z (gq Z) Z (bs hz27 fun y42 hy42 hz27=>Im (fk func118 ntmps118 (fun r=>if r==0 then [4,1003]else if r==4 then [3,1002]else []) (by with_unfolding_all rfl)) (fun (g71:({d:Nat // d∈ [25,29]}×Nat))=> [(1,(.ptr (1,u1) 0)),(5,(.ptr (28,u5) 0)),(126,(dl J9 p1.Signals)),(127,(di (p1.Signals.length:Int))),(128,(di x24.1)),(141,(dl G2 v34.Phases)),(142,(di (v34.Phases.length:Int))),(143,(di x27.1))]) (fun (g71:({d:Nat // d∈ [25,29]}×Nat))=> [((1,u1),some<|.box 27 (F2 p1)),((28,u5),some<|.box 145 [(oS y42.b (g71.1.val,g71.2))]),((g71.1.val,g71.2),oB 5 1 C4 y42.b)]) Z (nl Z) ?_ ?_)
 unfold Nx at hy42
 refine A7 (s0:=⟨T [(0,(.ptr (28,u5) 0)),(1,(dl A4 v38.Green))],G [((28,u5),some<|.box 145 [(oS y39.b (g66.1.val,g66.2))]),((g66.1.val,g66.2),oB 5 1 C4 y39.b),((1,u1),some<|.box 27 (F2 p1))]⟩) (B7 (K8 Z)<|sg Z<|B0 (Au g66.1.property 3 Z G_hit)<|A2 G_hit (.of Z) trivial) ?_
 refine B8<|sq Z<|sv Z<|sd Z (C8 Z)<|B6 (dl A4 [(v38.Green.length:Int)]) Z Z (bs hy42 fun y43 hy43 hy42=>Im (fk func117 ntmps117 (fun r=>if r==6 then [1011]else []) (by with_unfolding_all rfl)) (fun (g72:({d:Nat // d∈ [25,29]}×Nat))=> [(0,(.ptr (28,u5) 0)),(1,(dl A4 v38.Green))]) (fun (g72:({d:Nat // d∈ [25,29]}×Nat))=> [((28,u5),some<|.box 145 [(oS y43.b (g72.1.val,g72.2))]),((1,u1),some<|.box 27 (F2 p1)),((g72.1.val,g72.2),oB 5 1 C4 y43.b)]) Z (nl Z) ?_ ?_)
 unfold Nw at hy43
 refine A7 (s0:=⟨T [(0,(.ptr (28,u5) 0)),(1,(dl A4 [(v38.Green.length:Int)]))],G [((28,u5),some<|.box 145 [(oS y39.b (g66.1.val,g66.2))]),((g66.1.val,g66.2),oB 5 1 C4 y39.b),((1,u1),some<|.box 27 (F2 p1))]⟩) (B7 (K8 Z)<|A2 G_hit (.of Z)<|B0 (A9 (Li g66.1.property Z) G_hit)<|A2 (A9 Z<|A9 (Mh g66.1.property Z) G_hit) (.of Z) trivial) ?_
 refine B8<|B6 (dl A4 [(v38.Green.length:Int)]) Z Z (sd Z (C8 Z)<|sv Z<|A1<|bs hy43 fun y44 hy44 hy43=>D0 (fun s=> ∃g73:({d:Nat // d∈ [25,29]}×Nat),Sb ⟨T [],G [((1,u1),some<|.box 27 (F2 p1)),((28,u5),some<|.box 145 [(oS y44.b (g73.1.val,g73.2))]),((g73.1.val,g73.2),oB 5 1 C4 y44.b)]⟩ s) ?_ ?_)
 refine A5<|D2 (Nv v38) (fun (x30:(Int×RoadsWriter)) (g74:({d:Nat // d∈ [25,29]}×Nat))=>⟨T [(0,(.ptr (28,u5) 0)),(7,(dl A4 [(v38.Green.length:Int)])),(8,(di ([(v38.Green.length:Int)].length:Int))),(9,(di x30.1))],G [((28,u5),some<|.box 145 [(oS x30.2.b (g74.1.val,g74.2))]),((1,u1),some<|.box 27 (F2 p1)),((g74.1.val,g74.2),oB 5 1 C4 x30.2.b)]⟩) (0,y39) (g66.1,g66.2) _ hy44 (B7 (K8 Z)<|A2 G_hit (.of Z)<|A2 (A9 Z<|A9 (Mh g66.1.property Z) G_hit) (.of Z) (B0 (A9 (Li g66.1.property Z) G_hit) trivial)) ?_
 intro x30 g74 z30 hz30 ez30
 unfold Nv at hz30
 refine B8<|sv Z<|A1<|A3<|cc Z hz30 (fun c31 hz30=> ?_)<|fun c31 hz30=> ?_
 refine B3<|A3<|A5<|B8<|bs hz30 fun v42 hv42 hz30=>sd Z (D8 Z Z hv42 Z)<|sd Z (E9 Z hv42 Z)<|sv Z<|A1<|B8<|sv Z<|A1<|bs hz30 fun y45 hy45 hz30=>D0 (fun s=> ∃g75:({d:Nat // d∈ [25,29]}×Nat),Sb ⟨T [(0,(.ptr (28,u5) 0)),(7,(dl A4 [(v38.Green.length:Int)])),(8,(di ([(v38.Green.length:Int)].length:Int))),(9,(di x30.1))],G [((28,u5),some<|.box 145 [(oS y45.b (g75.1.val,g75.2))]),((1,u1),some<|.box 27 (F2 p1)),((g75.1.val,g75.2),oB 5 1 C4 y45.b)]⟩ s) ?_ ?_
 refine A5<|D2 (Nu v42) (fun (x31:(Int×RoadsWriter)) (g76:({d:Nat // d∈ [25,29]}×Nat))=>⟨T [(0,(.ptr (28,u5) 0)),(5,(di v42)),(6,(di x31.1)),(7,(dl A4 [(v38.Green.length:Int)])),(8,(di ([(v38.Green.length:Int)].length:Int))),(9,(di x30.1))],G [((28,u5),some<|.box 145 [(oS x31.2.b (g76.1.val,g76.2))]),((1,u1),some<|.box 27 (F2 p1)),((g76.1.val,g76.2),oB 5 1 C4 x31.2.b)]⟩) (56,x30.2) (g74.1,g74.2) _ hy45 (B7 (K8 Z)<|A2 G_hit (.of Z)<|sg Z<|B0 (Au g74.1.property 2 Z G_hit) trivial) ?_
 intro x31 g76 z31 hz31 ez31
 unfold Nu at hz31
 refine A3<|B8<|sv Z<|sv Z<|A1<|cc Z hz31 (fun c32 hz31=> ?_)<|fun c32 hz31=> ?_
 refine B3<|A3<|A5<|M6 fun u151 _=>sq Z<|sq Z<|sp Z Z<|sq Z<|B6 (oS x31.2.b (g76.1.val,g76.2)) Z (U6 Z G_hit Z) (sv Z<|sv Z<|sv Z<|sv Z<|bs hz31 fun v43 hv43 hz31=>sd Z (Nb Z Z hv43)<|sv Z<|B6 (dl C4 [(IntKind.wrap .u8 v43)]) Z Z (bs hz31 fun _ hv44 hz31=>G7 C4 (g76.1.val,g76.2) x31.2.b (IntKind.wrap .u8 v43) [] _ (E1<|fun _=>Z) Z (A9 (Li g76.1.property Z)<|A9 (Li g76.1.property Z) G_hit) hv44 (sq Z<|sp Z Z<|U7 _ _ _ _ _ Z Z Z (A9 Z<|A9 (Mh g76.1.property Z) G_hit) (nl Z) [(.sl (29,u151))] Z (A1<|E0<|B5<|sv Z<|sv Z<|sv Z<|A1<|D6 ?_))))
 cases hz31
 exact ⟨Z,(⟨29, .tail _ (.head _)⟩,u151),(B7 (K8 Z)<|A2 G_hit (.box (.cons (.of (T1<|K5 hv44).symm) .nil))<|A2 (IC 2 Z<|A9 (Mh g76.1.property Z)<|gq Z) (.of Z) (K9 (gq Z) trivial))⟩
 refine C3 Z ?_
 cases hz31
 obtain rfl:=ez31 _ rfl
 refine ⟨nofun,C2 Z<|T4 ?_⟩
 exact ⟨(g76.1,g76.2),(B7 (K8 Z)<|A2 G_hit (.of Z)<|sg Z<|B0 (Au g76.1.property 2 Z G_hit) trivial)⟩
 rintro _ ⟨g75,q28⟩
 refine E0<|A7 q28<|B5<|sv Z<|sv Z<|A1<|D6 ?_
 cases hz30
 exact ⟨Z,(g75.1,g75.2),(B7 (K8 Z)<|A2 G_hit (.of Z)<|sg Z<|B0 (Au g75.1.property 2 Z G_hit) trivial)⟩
 refine C3 Z ?_
 cases hz30
 obtain rfl:=ez30 _ rfl
 refine ⟨nofun,C2 Z<|T4 ?_⟩
 exact ⟨(g74.1,g74.2),(B7 trivial<|sg Z<|A2 G_hit (.of Z)<|B0 (Au g74.1.property 2 Z G_hit) trivial)⟩
 rintro _ ⟨g73,q29⟩
 refine D6 ?_
 obtain rfl:=(lC hy43)
 exact Bn q29 (.inl Z) (g73.1,g73.2) (K8 Z) (sg Z<|A2 G_hit (.of Z)<|B0 (Au g73.1.property 2 Z G_hit) trivial)
 intro g72
 intro u154 hu154
 refine A1<|B8<|sv Z<|sd Z (C8 Z)<|sv Z<|A1<|bs hy42 fun y46 hy46 hy42=>D0 (fun s=> ∃g77:({d:Nat // d∈ [25,29]}×Nat),Sb ⟨T [],G [((1,u1),some<|.box 27 (F2 p1)),((28,u5),some<|.box 145 [(oS y46.b (g77.1.val,g77.2))]),((g77.1.val,g77.2),oB 5 1 C4 y46.b)]⟩ s) ?_ ?_
 refine A5<|D2 (Cd v38) (fun (x32:(Int×RoadsWriter)) (g78:({d:Nat // d∈ [25,29]}×Nat))=>⟨T [(0,(.ptr (28,u5) 0)),(11,(dl A4 v38.Green)),(12,(di (v38.Green.length:Int))),(13,(di x32.1))],G [((28,u5),some<|.box 145 [(oS x32.2.b (g78.1.val,g78.2))]),((1,u1),some<|.box 27 (F2 p1)),((g78.1.val,g78.2),oB 5 1 C4 x32.2.b)]⟩) (0,y43) (g72.1,g72.2) _ hy46 (B7 (K8 Z)<|A2 G_hit (.of Z)<|sg Z<|B0 (Au g72.1.property 2 Z G_hit) trivial) ?_
 intro x32 g78 z32 hz32 ez32
 unfold Cd at hz32
 refine B8<|sv Z<|A1<|A3<|cc Z hz32 (fun c33 hz32=> ?_)<|fun c33 hz32=> ?_
 refine B3<|A3<|A5<|B8<|bs hz32 fun v45 hv45 hz32=>sd Z (D8 Z Z hv45 Z)<|sd Z (E9 Z hv45 Z)<|sv Z<|A1<|B5<|sq Z<|sv Z<|B6 (dl A4 [v45]) Z Z (bs hz32 fun y47 hy47 hz32=>Im (fk func117 ntmps117 (fun r=>if r==6 then [1011]else []) (by with_unfolding_all rfl)) (fun (g79:({d:Nat // d∈ [25,29]}×Nat))=> [(0,(.ptr (28,u5) 0)),(11,(dl A4 v38.Green)),(12,(di (v38.Green.length:Int))),(13,(di x32.1))]) (fun (g79:({d:Nat // d∈ [25,29]}×Nat))=> [((28,u5),some<|.box 145 [(oS y47.b (g79.1.val,g79.2))]),((1,u1),some<|.box 27 (F2 p1)),((g79.1.val,g79.2),oB 5 1 C4 y47.b)]) Z (nl Z) ?_ ?_)
 unfold Nt at hy47
 refine A7 (s0:=⟨T [(0,(.ptr (28,u5) 0)),(1,(dl A4 [v45]))],G [((28,u5),some<|.box 145 [(oS x32.2.b (g78.1.val,g78.2))]),((g78.1.val,g78.2),oB 5 1 C4 x32.2.b),((1,u1),some<|.box 27 (F2 p1))]⟩) (B7 (K8 Z)<|A2 G_hit (.of Z)<|B0 (Au g78.1.property 2 Z G_hit)<|sg Z trivial) ?_
 refine B8<|B6 (dl A4 [v45]) Z Z (sd Z (C8 Z)<|sv Z<|A1<|bs hy47 fun y48 hy48 hy47=>D0 (fun s=> ∃g80:({d:Nat // d∈ [25,29]}×Nat),Sb ⟨T [],G [((1,u1),some<|.box 27 (F2 p1)),((28,u5),some<|.box 145 [(oS y48.b (g80.1.val,g80.2))]),((g80.1.val,g80.2),oB 5 1 C4 y48.b)]⟩ s) ?_ ?_)
 refine A5<|D2 (Ns v45) (fun (x33:(Int×RoadsWriter)) (g81:({d:Nat // d∈ [25,29]}×Nat))=>⟨T [(0,(.ptr (28,u5) 0)),(7,(dl A4 [v45])),(8,(di ([v45].length:Int))),(9,(di x33.1))],G [((28,u5),some<|.box 145 [(oS x33.2.b (g81.1.val,g81.2))]),((1,u1),some<|.box 27 (F2 p1)),((g81.1.val,g81.2),oB 5 1 C4 x33.2.b)]⟩) (0,x32.2) (g78.1,g78.2) _ hy48 (B7 (K8 Z)<|A2 G_hit (.of Z)<|A2 (A9 Z<|A9 (Mh g78.1.property Z) G_hit) (.of Z) (B0 (A9 (Li g78.1.property Z) G_hit) trivial)) ?_
 intro x33 g81 z33 hz33 ez33
 unfold Ns at hz33
 refine B8<|sv Z<|A1<|A3<|cc Z hz33 (fun c34 hz33=> ?_)<|fun c34 hz33=> ?_
 refine B3<|A3<|A5<|B8<|bs hz33 fun v46 hv46 hz33=>sd Z (D8 Z Z hv46 Z)<|sd Z (E9 Z hv46 Z)<|sv Z<|A1<|B8<|sv Z<|A1<|bs hz33 fun y49 hy49 hz33=>D0 (fun s=> ∃g82:({d:Nat // d∈ [25,29]}×Nat),Sb ⟨T [(0,(.ptr (28,u5) 0)),(7,(dl A4 [v45])),(8,(di ([v45].length:Int))),(9,(di x33.1))],G [((28,u5),some<|.box 145 [(oS y49.b (g82.1.val,g82.2))]),((1,u1),some<|.box 27 (F2 p1)),((g82.1.val,g82.2),oB 5 1 C4 y49.b)]⟩ s) ?_ ?_
 refine A5<|D2 (Nr v46) (fun (x34:(Int×RoadsWriter)) (g83:({d:Nat // d∈ [25,29]}×Nat))=>⟨T [(0,(.ptr (28,u5) 0)),(5,(di v46)),(6,(di x34.1)),(7,(dl A4 [v45])),(8,(di ([v45].length:Int))),(9,(di x33.1))],G [((28,u5),some<|.box 145 [(oS x34.2.b (g83.1.val,g83.2))]),((1,u1),some<|.box 27 (F2 p1)),((g83.1.val,g83.2),oB 5 1 C4 x34.2.b)]⟩) (56,x33.2) (g81.1,g81.2) _ hy49 (B7 (K8 Z)<|A2 G_hit (.of Z)<|sg Z<|B0 (Au g81.1.property 2 Z G_hit) trivial) ?_
 intro x34 g83 z34 hz34 ez34
 unfold Nr at hz34
 refine A3<|B8<|sv Z<|sv Z<|A1<|cc Z hz34 (fun c35 hz34=> ?_)<|fun c35 hz34=> ?_
 refine B3<|A3<|A5<|M6 fun u164 _=>sq Z<|sq Z<|sp Z Z<|sq Z<|B6 (oS x34.2.b (g83.1.val,g83.2)) Z (U6 Z G_hit Z) (sv Z<|sv Z<|sv Z<|sv Z<|bs hz34 fun v47 hv47 hz34=>sd Z (Nb Z Z hv47)<|sv Z<|B6 (dl C4 [(IntKind.wrap .u8 v47)]) Z Z (bs hz34 fun _ hv48 hz34=>G7 C4 (g83.1.val,g83.2) x34.2.b (IntKind.wrap .u8 v47) [] _ (E1<|fun _=>Z) Z (A9 (Li g83.1.property Z)<|A9 (Li g83.1.property Z) G_hit) hv48 (sq Z<|sp Z Z<|U7 _ _ _ _ _ Z Z Z (A9 Z<|A9 (Mh g83.1.property Z) G_hit) (nl Z) [(.sl (29,u164))] Z (A1<|E0<|B5<|sv Z<|sv Z<|sv Z<|A1<|D6 ?_))))
 cases hz34
 exact ⟨Z,(⟨29, .tail _ (.head _)⟩,u164),(B7 (K8 Z)<|A2 G_hit (.box (.cons (.of (T1<|K5 hv48).symm) .nil))<|A2 (IC 2 Z<|A9 (Mh g83.1.property Z)<|gq Z) (.of Z) (K9 (gq Z) trivial))⟩
 refine C3 Z ?_
 cases hz34
 obtain rfl:=ez34 _ rfl
 refine ⟨nofun,C2 Z<|T4 ?_⟩
 exact ⟨(g83.1,g83.2),(B7 (K8 Z)<|A2 G_hit (.of Z)<|sg Z<|B0 (Au g83.1.property 2 Z G_hit) trivial)⟩
 rintro _ ⟨g82,q30⟩
 refine E0<|A7 q30<|B5<|sv Z<|sv Z<|A1<|D6 ?_
 cases hz33
 exact ⟨Z,(g82.1,g82.2),(B7 (K8 Z)<|A2 G_hit (.of Z)<|sg Z<|B0 (Au g82.1.property 2 Z G_hit) trivial)⟩
 refine C3 Z ?_
 cases hz33
 obtain rfl:=ez33 _ rfl
 refine ⟨nofun,C2 Z<|T4 ?_⟩
 exact ⟨(g81.1,g81.2),(B7 trivial<|sg Z<|A2 G_hit (.of Z)<|B0 (Au g81.1.property 2 Z G_hit) trivial)⟩
 rintro _ ⟨g80,q31⟩
 refine D6 ?_
 obtain rfl:=(lC hy47)
 exact Bn q31 (.inl Z) (g80.1,g80.2) (K8 Z) (sg Z<|A2 G_hit (.of Z)<|B0 (Au g80.1.property 2 Z G_hit) trivial)
 intro g79
 intro u167 hu167
 refine A1<|E0<|B5<|sv Z<|sv Z<|A1<|D6 ?_
 cases hz32
 exact ⟨Z,(g79.1,g79.2),(B7 (K8 Z)<|A2 G_hit (.of Z)<|sg Z<|B0 (Au g79.1.property 2 Z G_hit) trivial)⟩
 refine C3 Z ?_
 cases hz32
 obtain rfl:=ez32 _ rfl
 refine ⟨nofun,C2 Z<|T4 ?_⟩
 exact ⟨(g78.1,g78.2),(B7 trivial<|sg Z<|A2 G_hit (.of Z)<|B0 (Au g78.1.property 2 Z G_hit) trivial)⟩
 rintro _ ⟨g77,q32⟩
 refine D6 ?_
 obtain rfl:=(lC hy42)
 exact Bn q32 (.inl Z) (g77.1,g77.2) (K8 Z) (A2 G_hit (.of Z)<|sg Z<|B0 (Au g77.1.property 2 Z G_hit) trivial)
 intro g71
 intro u169 hu169
 refine A1<|E0<|B5<|sv Z<|sv Z<|A1<|D6 ?_
 cases hz27
 exact ⟨Z,(g71.1,g71.2),(B7 (K8 Z)<|A2 G_hit (.of Z)<|sg Z<|B0 (Au g71.1.property 2 Z G_hit) trivial)⟩
 refine C3 Z ?_
 cases hz27
 obtain rfl:=ez27 _ rfl
 refine ⟨nofun,C2 Z<|T4 ?_⟩
 exact ⟨(g65.1,g65.2),(B7 (K8 Z)<|A2 G_hit (.of Z)<|sg Z<|B0 (Au g65.1.property 2 Z G_hit) trivial)⟩
 rintro _ ⟨g64,q33⟩
 refine E0<|A7 q33<|B5<|sv Z<|sv Z<|A1<|D6 ?_
 cases hz24
 exact ⟨Z,(g64.1,g64.2),(B7 (K8 Z)<|A2 G_hit (.of Z)<|sg Z<|B0 (Au g64.1.property 2 Z G_hit) trivial)⟩
 refine C3 Z ?_
 cases hz24
 obtain rfl:=ez24 _ rfl
 refine ⟨nofun,C2 Z<|T4 ?_⟩
 exact ⟨(g58.1,g58.2),(B7 (K8 Z)<|A2 G_hit (.of Z)<|sg Z<|B0 (Au g58.1.property 2 Z G_hit) trivial)⟩
 rintro _ ⟨g57,q34⟩
 refine A7 q34<|B8<|sq Z<|sp Z Z<|sl Z G_hit Z<|sd Z (C8 Z)<|B6 (dl A4 [(p1.Works.length:Int)]) Z Z (bs h fun y50 hy50 h=>Im (fk func117 ntmps117 (fun r=>if r==6 then [1011]else []) (by with_unfolding_all rfl)) (fun (g84:({d:Nat // d∈ [25,29]}×Nat))=> [(1,(.ptr (1,u1) 0)),(5,(.ptr (28,u5) 0))]) (fun (g84:({d:Nat // d∈ [25,29]}×Nat))=> [((1,u1),some<|.box 27 (F2 p1)),((28,u5),some<|.box 145 [(oS y50.b (g84.1.val,g84.2))]),((g84.1.val,g84.2),oB 5 1 C4 y50.b)]) Z (nl Z) ?_ ?_)
 unfold Nq at hy50
 refine A7 (s0:=⟨T [(0,(.ptr (28,u5) 0)),(1,(dl A4 [(p1.Works.length:Int)]))],G [((28,u5),some<|.box 145 [(oS y34.b (g57.1.val,g57.2))]),((g57.1.val,g57.2),oB 5 1 C4 y34.b),((1,u1),some<|.box 27 (F2 p1))]⟩) (B7 (K8 Z)<|sg Z<|B0 (Au g57.1.property 2 Z G_hit)<|A2 G_hit (.of Z) trivial) ?_
 refine B8<|B6 (dl A4 [(p1.Works.length:Int)]) Z Z (sd Z (C8 Z)<|sv Z<|A1<|bs hy50 fun y51 hy51 hy50=>D0 (fun s=> ∃g85:({d:Nat // d∈ [25,29]}×Nat),Sb ⟨T [],G [((1,u1),some<|.box 27 (F2 p1)),((28,u5),some<|.box 145 [(oS y51.b (g85.1.val,g85.2))]),((g85.1.val,g85.2),oB 5 1 C4 y51.b)]⟩ s) ?_ ?_)
 refine A5<|D2 (Np p1) (fun (x35:(Int×RoadsWriter)) (g86:({d:Nat // d∈ [25,29]}×Nat))=>⟨T [(0,(.ptr (28,u5) 0)),(7,(dl A4 [(p1.Works.length:Int)])),(8,(di ([(p1.Works.length:Int)].length:Int))),(9,(di x35.1))],G [((28,u5),some<|.box 145 [(oS x35.2.b (g86.1.val,g86.2))]),((1,u1),some<|.box 27 (F2 p1)),((g86.1.val,g86.2),oB 5 1 C4 x35.2.b)]⟩) (0,y34) (g57.1,g57.2) _ hy51 (B7 (K8 Z)<|A2 G_hit (.of Z)<|A2 (A9 Z<|A9 (Mh g57.1.property Z) G_hit) (.of Z) (B0 (A9 (Li g57.1.property Z) G_hit) trivial)) ?_
 intro x35 g86 z35 hz35 ez35
 unfold Np at hz35
 refine B8<|sv Z<|A1<|A3<|cc Z hz35 (fun c36 hz35=> ?_)<|fun c36 hz35=> ?_
 refine B3<|A3<|A5<|B8<|bs hz35 fun v49 hv49 hz35=>sd Z (D8 Z Z hv49 Z)<|sd Z (E9 Z hv49 Z)<|sv Z<|A1<|B8<|sv Z<|A1<|bs hz35 fun y52 hy52 hz35=>D0 (fun s=> ∃g87:({d:Nat // d∈ [25,29]}×Nat),Sb ⟨T [(0,(.ptr (28,u5) 0)),(7,(dl A4 [(p1.Works.length:Int)])),(8,(di ([(p1.Works.length:Int)].length:Int))),(9,(di x35.1))],G [((28,u5),some<|.box 145 [(oS y52.b (g87.1.val,g87.2))]),((1,u1),some<|.box 27 (F2 p1)),((g87.1.val,g87.2),oB 5 1 C4 y52.b)]⟩ s) ?_ ?_
 refine A5<|D2 (No v49) (fun (x36:(Int×RoadsWriter)) (g88:({d:Nat // d∈ [25,29]}×Nat))=>⟨T [(0,(.ptr (28,u5) 0)),(5,(di v49)),(6,(di x36.1)),(7,(dl A4 [(p1.Works.length:Int)])),(8,(di ([(p1.Works.length:Int)].length:Int))),(9,(di x35.1))],G [((28,u5),some<|.box 145 [(oS x36.2.b (g88.1.val,g88.2))]),((1,u1),some<|.box 27 (F2 p1)),((g88.1.val,g88.2),oB 5 1 C4 x36.2.b)]⟩) (56,x35.2) (g86.1,g86.2) _ hy52 (B7 (K8 Z)<|A2 G_hit (.of Z)<|sg Z<|B0 (Au g86.1.property 2 Z G_hit) trivial) ?_
 intro x36 g88 z36 hz36 ez36
 unfold No at hz36
 refine A3<|B8<|sv Z<|sv Z<|A1<|cc Z hz36 (fun c37 hz36=> ?_)<|fun c37 hz36=> ?_
 refine B3<|A3<|A5<|M6 fun u178 _=>sq Z<|sq Z<|sp Z Z<|sq Z<|B6 (oS x36.2.b (g88.1.val,g88.2)) Z (U6 Z G_hit Z) (sv Z<|sv Z<|sv Z<|sv Z<|bs hz36 fun v50 hv50 hz36=>sd Z (Nb Z Z hv50)<|sv Z<|B6 (dl C4 [(IntKind.wrap .u8 v50)]) Z Z (bs hz36 fun _ hv51 hz36=>G7 C4 (g88.1.val,g88.2) x36.2.b (IntKind.wrap .u8 v50) [] _ (E1<|fun _=>Z) Z (A9 (Li g88.1.property Z)<|A9 (Li g88.1.property Z) G_hit) hv51 (sq Z<|sp Z Z<|U7 _ _ _ _ _ Z Z Z (A9 Z<|A9 (Mh g88.1.property Z) G_hit) (nl Z) [(.sl (29,u178))] Z (A1<|E0<|B5<|sv Z<|sv Z<|sv Z<|A1<|D6 ?_))))
 cases hz36
 exact ⟨Z,(⟨29, .tail _ (.head _)⟩,u178),(B7 (K8 Z)<|A2 G_hit (.box (.cons (.of (T1<|K5 hv51).symm) .nil))<|A2 (IC 2 Z<|A9 (Mh g88.1.property Z)<|gq Z) (.of Z) (K9 (gq Z) trivial))⟩
 refine C3 Z ?_
 cases hz36
 obtain rfl:=ez36 _ rfl
 refine ⟨nofun,C2 Z<|T4 ?_⟩
 exact ⟨(g88.1,g88.2),(B7 (K8 Z)<|A2 G_hit (.of Z)<|sg Z<|B0 (Au g88.1.property 2 Z G_hit) trivial)⟩
 rintro _ ⟨g87,q35⟩
 refine E0<|A7 q35<|B5<|sv Z<|sv Z<|A1<|D6 ?_
 cases hz35
 exact ⟨Z,(g87.1,g87.2),(B7 (K8 Z)<|A2 G_hit (.of Z)<|sg Z<|B0 (Au g87.1.property 2 Z G_hit) trivial)⟩
 refine C3 Z ?_
 cases hz35
 obtain rfl:=ez35 _ rfl
 refine ⟨nofun,C2 Z<|T4 ?_⟩
 exact ⟨(g86.1,g86.2),(B7 trivial<|sg Z<|A2 G_hit (.of Z)<|B0 (Au g86.1.property 2 Z G_hit) trivial)⟩
 rintro _ ⟨g85,q36⟩
 refine D6 ?_
 obtain rfl:=(lC hy50)
 exact Bn q36 (.inl Z) (g85.1,g85.2) (K8 Z) (A2 G_hit (.of Z)<|sg Z<|B0 (Au g85.1.property 2 Z G_hit) trivial)
 intro g84
 intro u181 hu181
 refine A1<|A3<|B8<|sq Z<|sl Z G_hit Z<|sd Z (C8 Z)<|sv Z<|A1<|bs h fun y53 hy53 h=>D0 (fun s=> ∃g89:({d:Nat // d∈ [25,29]}×Nat),Sb ⟨T [(5,(.ptr (28,u5) 0))],G [((28,u5),some<|.box 145 [(oS y53.b (g89.1.val,g89.2))]),((g89.1.val,g89.2),oB 5 1 C4 y53.b)]⟩ s) ?_ ?_
 refine A5<|D2 (Cc p1) (fun (x37:(Int×RoadsWriter)) (g90:({d:Nat // d∈ [25,29]}×Nat))=>⟨T [(5,(.ptr (28,u5) 0)),(165,(dl R1 p1.Works)),(166,(di (p1.Works.length:Int))),(167,(di x37.1))],G [((28,u5),some<|.box 145 [(oS x37.2.b (g90.1.val,g90.2))]),((g90.1.val,g90.2),oB 5 1 C4 x37.2.b)]⟩) (0,y50) (g84.1,g84.2) _ hy53 (B7 (K8 Z)<|sg Z<|B0 (Au g84.1.property 2 Z G_hit) trivial) ?_
 intro x37 g90 z37 hz37 ez37
 unfold Cc at hz37
 refine B8<|sv Z<|A1<|A3<|cc Z hz37 (fun c38 hz37=> ?_)<|fun c38 hz37=> ?_
 refine B3<|A3<|A5<|B8<|bs hz37 fun v52 hv52 hz37=>sd Z (D8 Z Z hv52 Z)<|sd Z (D9 Z hv52 Z Z)<|sm Z<|V6 Z G_hit (II v52) Z (A1<|B5<|sq Z<|sq Z<|sl Z G_hit Z<|sq Z<|sl Z G_hit Z<|sq Z<|sl Z G_hit Z<|sq Z<|sl Z G_hit Z<|sq Z<|sl Z G_hit Z<|sq Z<|sl Z G_hit Z<|B6 (dl A4 [v52.Lane_,v52.From,v52.To,v52.Begin,v52.End,v52.Limit]) Z Z (bs hz37 fun y54 hy54 hz37=>Im (fk func117 ntmps117 (fun r=>if r==6 then [1011]else []) (by with_unfolding_all rfl)) (fun (g91:({d:Nat // d∈ [25,29]}×Nat))=> [(5,(.ptr (28,u5) 0)),(165,(dl R1 p1.Works)),(166,(di (p1.Works.length:Int))),(167,(di x37.1))]) (fun (g91:({d:Nat // d∈ [25,29]}×Nat))=> [((28,u5),some<|.box 145 [(oS y54.b (g91.1.val,g91.2))]),((g91.1.val,g91.2),oB 5 1 C4 y54.b)]) Z (nl Z) ?_ ?_))
 unfold Nn at hy54
 refine A7 (s0:=⟨T [(0,(.ptr (28,u5) 0)),(1,(dl A4 [v52.Lane_,v52.From,v52.To,v52.Begin,v52.End,v52.Limit]))],G [((28,u5),some<|.box 145 [(oS x37.2.b (g90.1.val,g90.2))]),((g90.1.val,g90.2),oB 5 1 C4 x37.2.b)]⟩) (B7 (K8 Z)<|sg Z<|B0 (Au g90.1.property 3 Z G_hit) trivial) ?_
 refine B8<|B6 (dl A4 [v52.Lane_,v52.From,v52.To,v52.Begin,v52.End,v52.Limit]) Z Z (sd Z (C8 Z)<|sv Z<|A1<|bs hy54 fun y55 hy55 hy54=>D0 (fun s=> ∃g92:({d:Nat // d∈ [25,29]}×Nat),Sb ⟨T [],G [((28,u5),some<|.box 145 [(oS y55.b (g92.1.val,g92.2))]),((g92.1.val,g92.2),oB 5 1 C4 y55.b)]⟩ s) ?_ ?_)
 refine A5<|D2 (Nm v52) (fun (x38:(Int×RoadsWriter)) (g93:({d:Nat // d∈ [25,29]}×Nat))=>⟨T [(0,(.ptr (28,u5) 0)),(7,(dl A4 [v52.Lane_,v52.From,v52.To,v52.Begin,v52.End,v52.Limit])),(8,(di ([v52.Lane_,v52.From,v52.To,v52.Begin,v52.End,v52.Limit].length:Int))),(9,(di x38.1))],G [((28,u5),some<|.box 145 [(oS x38.2.b (g93.1.val,g93.2))]),((g93.1.val,g93.2),oB 5 1 C4 x38.2.b)]⟩) (0,x37.2) (g90.1,g90.2) _ hy55 (B7 (K8 Z)<|A2 G_hit (.of Z)<|B0 (A9 (Li g90.1.property Z) G_hit) trivial) ?_
 intro x38 g93 z38 hz38 ez38
 unfold Nm at hz38
 refine B8<|sv Z<|A1<|A3<|cc Z hz38 (fun c39 hz38=> ?_)<|fun c39 hz38=> ?_
 refine B3<|A3<|A5<|B8<|bs hz38 fun v53 hv53 hz38=>sd Z (D8 Z Z hv53 Z)<|sd Z (E9 Z hv53 Z)<|sv Z<|A1<|B8<|sv Z<|A1<|bs hz38 fun y56 hy56 hz38=>D0 (fun s=> ∃g94:({d:Nat // d∈ [25,29]}×Nat),Sb ⟨T [(0,(.ptr (28,u5) 0)),(7,(dl A4 [v52.Lane_,v52.From,v52.To,v52.Begin,v52.End,v52.Limit])),(8,(di ([v52.Lane_,v52.From,v52.To,v52.Begin,v52.End,v52.Limit].length:Int))),(9,(di x38.1))],G [((28,u5),some<|.box 145 [(oS y56.b (g94.1.val,g94.2))]),((g94.1.val,g94.2),oB 5 1 C4 y56.b)]⟩ s) ?_ ?_
 refine A5<|D2 (Nl v53) (fun (x39:(Int×RoadsWriter)) (g95:({d:Nat // d∈ [25,29]}×Nat))=>⟨T [(0,(.ptr (28,u5) 0)),(5,(di v53)),(6,(di x39.1)),(7,(dl A4 [v52.Lane_,v52.From,v52.To,v52.Begin,v52.End,v52.Limit])),(8,(di ([v52.Lane_,v52.From,v52.To,v52.Begin,v52.End,v52.Limit].length:Int))),(9,(di x38.1))],G [((28,u5),some<|.box 145 [(oS x39.2.b (g95.1.val,g95.2))]),((g95.1.val,g95.2),oB 5 1 C4 x39.2.b)]⟩) (56,x38.2) (g93.1,g93.2) _ hy56 (B7 (K8 Z)<|A2 G_hit (.of Z)<|B0 (A9 (Li g93.1.property Z) G_hit) trivial) ?_
 intro x39 g95 z39 hz39 ez39
 unfold Nl at hz39
 refine A3<|B8<|sv Z<|sv Z<|A1<|cc Z hz39 (fun c40 hz39=> ?_)<|fun c40 hz39=> ?_
 refine B3<|A3<|A5<|M6 fun u191 _=>sq Z<|sq Z<|sp Z Z<|sq Z<|B6 (oS x39.2.b (g95.1.val,g95.2)) Z (U6 Z G_hit Z) (sv Z<|sv Z<|sv Z<|sv Z<|bs hz39 fun v54 hv54 hz39=>sd Z (Nb Z Z hv54)<|sv Z<|B6 (dl C4 [(IntKind.wrap .u8 v54)]) Z Z (bs hz39 fun _ hv55 hz39=>G7 C4 (g95.1.val,g95.2) x39.2.b (IntKind.wrap .u8 v54) [] _ (E1<|fun _=>Z) Z (A9 (Li g95.1.property Z) G_hit) hv55 (sq Z<|sp Z Z<|U7 _ _ _ _ _ Z Z Z (A9 Z<|A9 (Mh g95.1.property Z) G_hit) (nl Z) [(.sl (29,u191))] Z (A1<|E0<|B5<|sv Z<|sv Z<|sv Z<|A1<|D6 ?_))))
 cases hz39
 exact ⟨Z,(⟨29, .tail _ (.head _)⟩,u191),(B7 (K8 Z)<|A2 G_hit (.box (.cons (.of (T1<|K5 hv55).symm) .nil))<|K9 (gq Z) trivial)⟩
 refine C3 Z ?_
 cases hz39
 obtain rfl:=ez39 _ rfl
 refine ⟨nofun,C2 Z<|T4 ?_⟩
 exact ⟨(g95.1,g95.2),(B7 (K8 Z)<|A2 G_hit (.of Z)<|B0 (A9 (Li g95.1.property Z) G_hit) trivial)⟩
 rintro _ ⟨g94,q37⟩
 refine E0<|A7 q37<|B5<|sv Z<|sv Z<|A1<|D6 ?_
 cases hz38
 exact ⟨Z,(g94.1,g94.2),(B7 (K8 Z)<|A2 G_hit (.of Z)<|B0 (A9 (Li g94.1.property Z) G_hit) trivial)⟩
 refine C3 Z ?_
 cases hz38
 obtain rfl:=ez38 _ rfl
 refine ⟨nofun,C2 Z<|T4 ?_⟩
 exact ⟨(g93.1,g93.2),(B7 trivial<|A2 G_hit (.of Z)<|B0 (A9 (Li g93.1.property Z) G_hit) trivial)⟩
 rintro _ ⟨g92,q38⟩
 refine D6 ?_
 obtain rfl:=(lC hy54)
 exact Bn q38 (.inl Z) (g92.1,g92.2) (K8 Z) (A2 G_hit (.of Z)<|B0 (A9 (Li g92.1.property Z) G_hit) trivial)
 intro g91
 intro u194 hu194
 refine A1<|E0<|B5<|sv Z<|sv Z<|A1<|D6 ?_
 cases hz37
 exact ⟨Z,(g91.1,g91.2),(B7 (K8 Z)<|A2 G_hit (.of Z)<|B0 (A9 (Li g91.1.property Z) G_hit) trivial)⟩
 refine C3 Z ?_
 cases hz37
 obtain rfl:=ez37 _ rfl
 refine ⟨nofun,C2 Z<|T4 ?_⟩
 exact ⟨(g90.1,g90.2),(B7 ⟨.of Z,trivial⟩<|A2 G_hit (.of Z)<|B0 (A9 (Li g90.1.property Z) G_hit) trivial)⟩
 rintro _ ⟨g89,q39⟩
 refine A7 q39<|A3<|XM [(g89.1.val,g89.2)] [(5,(.ptr (28,u5) 0))] [((28,u5),some<|.box 145 [(dl C4 y53.b)])] ⟨Hc Z,trivial⟩ (DI G_hit (Ct (Ec<|Mh g89.1.property Z) Gn) (.cons (XN (U9<|Qd (.head _)<|A9 (Li g89.1.property Z) G_hit) U8) .nil) trivial) (B5<|sq Z<|sq Z<|sp Z Z<|sl Z G_hit Z<|sd Z (XT (xs:=y53.b) Z)<|sv Z<|sv Z<|A1<|B9 ?_)
 cases h
 exact B4 (.inr Z) (My (C0 Z) (C0 Z) D4 D4) (.refl _)
def Cu (p1:Int)(p2:Int)(p3:Int):Option Bool:=
  some ((decide (p1≥p2))&& (decide (p1≤p3)))
theorem El(p1 p2 p3 r)(h:Cu p1 p2 p3=some r):PCall prog 71 [(i64 p1),(i64 p2),(i64 p3)] (bo r):=by
 refine D7 (fk func71 ntmps71 m0 (by with_unfolding_all rfl)) (nl Z) ?_
 unfold Cu at h
 refine A7 (s0:=⟨T [(0,(.d _)),(1,(.d _)),(2,(.d _))],G []⟩) (E3 Z Z) ?_
 refine B8<|sv Z<|A1<|B8<|sv Z<|sv Z<|sv Z<|sv Z<|gt Z (fun _=>Z)<|gt Z (fun _=>Z)<|gt Z (fun w3=>(An (A8 w3) (A8 w3) Z))<|sa Z Z Z<|sv Z<|A1<|B9 ?_
 cases h
 exact B4 (.inr Z) (C5 (C0 Z) D4) (.refl _)
def Nd (p1:Spot):Option Bool:=
  some ((((decide (p1.X≥(-16777216)))&& (decide (p1.X≤16777216)))&& (decide (p1.Y≥(-16777216))))&& (decide (p1.Y≤16777216)))
theorem FI(p1 r)(h:Nd p1=some r):PCall prog 238 [(.agg [(i64 p1.X),(i64 p1.Y)])] (bo r):=by
 refine D7 (fk func238 ntmps238 m0 (by with_unfolding_all rfl)) (nl Z) ?_
 unfold Nd at h
 refine A7 (s0:=⟨T [(0,(.d _))],G []⟩) (E3 Z Z) ?_
 refine B8<|sm Z<|sv Z<|A1<|B8<|sq Z<|sl Z G_hit Z<|sv Z<|sv Z<|gp Z (L5 Z) (fun _=>Z) (gt Z (vl Z G_hit Z)<|gt Z (vb Z Z Z)<|sa Z Z Z<|sv Z<|gp Z (L5 Z) (fun _=>Z) (gt Z (vl Z G_hit Z)<|gt Z (vb Z Z Z)<|sa Z Z Z<|sv Z<|gp Z (L5 Z) (fun _=>Z) (gt Z (vl Z G_hit Z)<|gt Z (vb Z Z Z)<|sa Z Z Z<|sv Z<|A1<|B9 ?_)))
 cases h
 exact B4 (.inr Z) (C5 (C0 Z) D4) (.refl _)
def Io (p1:Spot)(p2:Spot):Option Spot:=
  some (Spot.mk (K2 (p1.X - p2.X)) (K2 (p1.Y - p2.Y)))
theorem Qv(p1 p2 r)(h:Io p1 p2=some r):PCall prog 239 [(.agg [(i64 p1.X),(i64 p1.Y)]),(.agg [(i64 p2.X),(i64 p2.Y)])] (.agg [(i64 r.X),(i64 r.Y)]):=by
 refine D7 (fk func239 ntmps239 m0 (by with_unfolding_all rfl)) (nl Z) ?_
 unfold Io at h
 refine A7 (s0:=⟨T [(0,(.d _)),(1,(.d _))],G []⟩) (E3 Z Z) ?_
 refine B8<|sm Z<|sn Z Z<|sm Z<|A1<|B8<|sq Z<|sl Z (gq Z) Z (sq Z<|sl Z (gq Z) Z (sv Z<|sq Z<|sl Z (gq Z) Z (sq Z<|sl Z (gq Z) Z (sv Z<|sv Z<|V6 Z G_hit [(di<|K2 (p1.X - p2.X)),(di<|K2 (p1.Y - p2.Y))] Z (A1<|B9 ?_)))))
 cases h
 exact B4 (.inr Z) (C5 (L0 Z G_hit (nl Z) Z) D4) (.refl _)
def Kt (p1:Spot)(p2:Spot):Option Int:=
  some (K2 ((K2 (p1.X*p2.X))+ (K2 (p1.Y*p2.Y))))
theorem Pm(p1 p2 r)(h:Kt p1 p2=some r):PCall prog 241 [(.agg [(i64 p1.X),(i64 p1.Y)]),(.agg [(i64 p2.X),(i64 p2.Y)])] (i64 r):=by
 refine D7 (fk func241 ntmps241 m0 (by with_unfolding_all rfl)) (nl Z) ?_
 unfold Kt at h
 refine A7 (s0:=⟨T [(0,(.d _)),(1,(.d _))],G []⟩) (E3 Z Z) ?_
 refine B8<|sm Z<|sn Z Z<|sv Z<|A1<|B8<|sq Z<|sl Z (gq Z) Z (sq Z<|sl Z G_hit Z<|sv Z<|sq Z<|sl Z (gq Z) Z (sq Z<|sl Z G_hit Z<|sv Z<|sv Z<|sv Z<|A1<|B9 ?_))
 cases h
 exact B4 (.inr Z) (C5 (C0 Z) D4) (.refl _)
def Js (p1:Int)(x1:(Int×Int)):Option (Stp (Int×Int) Int):=
  cond (decide (x1.2>0)) (cond (decide ((K2 ((K2 (x1.1+x1.2))* (K2 (x1.1+x1.2))))≤p1)) (some (.go ((K2 (x1.1+x1.2)),(K2 (x1.2.tdiv 2))))) (some (.go (x1.1,(K2 (x1.2.tdiv 2)))))) (some (.out x1.1))
def Ip [Lp](p1:Int):Option Int:=
  (loop (Js p1) (0,67108864)).bind fun y1=>some y1
theorem Xl(p1 r)(h:Ip p1=some r):PCall prog 240 [(i64 p1)] (i64 r):=by
 refine D7 (fk func240 ntmps240 m0 (by with_unfolding_all rfl)) (nl Z) ?_
 unfold Ip at h
 refine A7 (s0:=⟨T [(0,(.d _))],G []⟩) (E3 Z Z) ?_
 refine B8<|sv Z<|A1<|B8<|sv Z<|A1<|A3<|B8<|sv Z<|A1<|bs h fun y1 hy1 h=>D0 (fun s=> ∃g1:Unit,Sb ⟨T [(3,(di y1))],G []⟩ s) ?_ ?_
 refine A5<|D2 (Js p1) (fun (x1:(Int×Int)) (g2:Unit)=>⟨T [(0,(di p1)),(3,(di x1.1)),(4,(di x1.2))],G []⟩) (0,67108864) () _ hy1 (E3 Z Z) ?_
 intro x1 g2 z1 hz1 ez1
 unfold Js at hz1
 refine A3<|B8<|sv Z<|sv Z<|A1<|cc Z hz1 (fun c1 hz1=> ?_)<|fun c1 hz1=> ?_
 refine B3<|A3<|A5<|B8<|sv Z<|sv Z<|sv Z<|sv Z<|sv Z<|sv Z<|sv Z<|sv Z<|sv Z<|A1<|cc Z hz1 (fun c2 hz1=> ?_)<|fun c2 hz1=> ?_
 refine B5<|sv Z<|sv Z<|sv Z<|sv Z<|A1<|E0<|B5<|sv Z<|sv Z<|sv Z<|A1<|D6 ?_
 cases hz1
 exact ⟨Z,(),(E3 Z Z)⟩
 refine B3<|E0<|B5<|sv Z<|sv Z<|sv Z<|A1<|D6 ?_
 cases hz1
 exact ⟨Z,(),(E3 Z Z)⟩
 refine C3 Z ?_
 cases hz1
 obtain rfl:=ez1 _ rfl
 refine ⟨nofun,C2 Z<|T4 ?_⟩
 exact ⟨(),(E3 Z Z)⟩
 rintro _ ⟨g1,q1⟩
 refine A7 q1<|B8<|sv Z<|sv Z<|A1<|B9 ?_
 cases h
 exact B4 (.inr Z) (C5 (C0 Z) D4) (.refl _)
def Dl [Lp](p1:Curve)(x2:Int):Option (Stp Int (Sum Unit Int)):=
  cond (decide ((K2 (x2+1))< (p1.Pts.length:Int))) ((F0 p1.Pts (K2 (x2+1))).bind fun v3=>(F0 p1.Pts x2).bind fun v4=>(Io v3 v4).bind fun v5=>(Kt v5 v5).bind fun v6=>(Ip v6).bind fun v7=>(Kt v5 v5).bind fun v8=>cond ((K2 (v7*v7)) !=v8) (some (.out (.inr 3))) (cond ((decide (v7<1000))||(decide (v7>1048576))) (some (.out (.inr 2))) (((cond (decide (x2>0)) (F0 p1.Pts x2) (some default))).bind fun v9=>((cond (decide (x2>0)) (F0 p1.Pts (K2 (x2 - 1))) (some default))).bind fun v10=>((cond (decide (x2>0)) (Io v9 v10) (some default))).bind fun v11=>((cond (decide (x2>0)) (Kt v5 v11) (some default))).bind fun v12=>cond ((decide (x2>0))&& (decide (v12≤0))) (some (.out (.inr 12))) (some (.go (K2 (x2+1))))))) (some (.out (.inl ())))
def Dm (p1:Curve)(x1:Int):Option (Stp Int (Sum Unit Int)):=
  cond (decide (x1< (p1.Pts.length:Int))) ((F0 p1.Pts x1).bind fun v1=>(Nd v1).bind fun v2=>cond (!v2) (some (.out (.inr 2))) (some (.go (K2 (x1+1))))) (some (.out (.inl ())))
def Ku [Lp](p1:Curve):Option Int:=
  cond (decide ((p1.Pts.length:Int)<2)) (some 6) (cond (decide ((p1.Pts.length:Int)>16)) (some 5) (thenS (loop (Dm p1) 0) (fun _=>thenS (loop (Dl p1) 0) (fun _=>some 0) (fun r=>some r)) (fun r=>some r)))
theorem Wb(p1 r)(h:Ku p1=some r):PCall prog 175 [(.agg [(.list (List.map K4 p1.Pts))])] (i64 r):=by
 refine D7 (fk func175 ntmps175 m0 (by with_unfolding_all rfl)) (nl Z) ?_
 unfold Ku at h
 refine A7 (s0:=⟨T [(0,(.d _))],G []⟩) (E3 Z Z) ?_
 refine lr<|fun u1 _=>sm Z<|sv Z<|A1<|A3<|B8<|sq Z<|sl Z G_hit Z<|sd Z (C8 Z)<|sv Z<|A1<|cc Z h (fun c1 h=> ?_)<|fun c1 h=> ?_
 refine B8<|sv Z<|A1<|B9 ?_
 cases h
 exact B4 (.inr Z) (C5 (C0 Z) D4) (.refl _)
 refine B3<|A3<|B8<|sq Z<|sl Z G_hit Z<|sd Z (C8 Z)<|sv Z<|A1<|cc Z h (fun c2 h=> ?_)<|fun c2 h=> ?_
 refine B8<|sv Z<|A1<|B9 ?_
 cases h
 exact B4 (.inr Z) (C5 (C0 Z) D4) (.refl _)
 refine B3<|A3<|B8<|sv Z<|A1<|js h fun z1 hz1 h=>D0 (fun s=> ∃(y1:Unit) (g1:Unit),z1= .inl y1∧Sb ⟨T [(1,(.ptr (1,u1) 0))],G [((1,u1),some<|.box 39 [(dl K4 p1.Pts)])]⟩ s) ?_ ?_
 refine A5<|D2 (Dm p1) (fun (x1:Int) (g2:Unit)=>⟨T [(1,(.ptr (1,u1) 0)),(3,(di x1))],G [((1,u1),some<|.box 39 [(dl K4 p1.Pts)])]⟩) 0 () _ hz1 (E3 Z Z) ?_
 intro x1 g2 z2 hz2 ez2
 unfold Dm at hz2
 refine A3<|B8<|sv Z<|sq Z<|sl Z G_hit Z<|sd Z (C8 Z)<|sv Z<|A1<|cc Z hz2 (fun c3 hz2=> ?_)<|fun c3 hz2=> ?_
 refine B3<|A3<|A5<|B8<|sq Z<|sl Z G_hit Z<|sv Z<|bs hz2 fun _ hv1 hz2=>sd Z (D8 Z Z hv1 Z)<|sd Z (D9 Z hv1 Z Z)<|bs hz2 fun v2 hv2 hz2=>D1 Z Z A6 (FI _ _ hv2) (.inl Z) (B6 (.d (bo (!v2))) Z Z (A1<|cc Z hz2 (fun c4 hz2=> ?_)<|fun c4 hz2=> ?_))
 refine B8<|sv Z<|A1<|B9 ?_
 cases hz2
 obtain rfl:=ez2 _ rfl
 refine ⟨nofun,F8 ?_⟩
 rw [bN]at h
 cases h
 exact B4 (.inr Z) (C5 (C0 Z) D4) (.refl _)
 refine B3<|E0<|B5<|sv Z<|sv Z<|sv Z<|A1<|D6 ?_
 cases hz2
 exact ⟨Z,(),(E3 Z Z)⟩
 refine C3 Z ?_
 cases hz2
 obtain rfl:=ez2 _ rfl
 refine ⟨nofun,C2 Z<|T4 ?_⟩
 exact ⟨_,(),Z,(E3 Z Z)⟩
 rintro _ ⟨y1,g1,rfl,q1⟩
 rw [bM]at h
 refine A7 q1<|A3<|B8<|sv Z<|A1<|js h fun z3 hz3 h=>D0 (fun s=> ∃(y2:Unit) (g3:Unit),z3= .inl y2∧Sb ⟨T [],G []⟩ s) ?_ ?_
 refine A5<|D2 (Dl p1) (fun (x2:Int) (g4:Unit)=>⟨T [(1,(.ptr (1,u1) 0)),(4,(di x2))],G [((1,u1),some<|.box 39 [(dl K4 p1.Pts)])]⟩) 0 () _ hz3 (E3 Z Z) ?_
 intro x2 g4 z4 hz4 ez4
 unfold Dl at hz4
 refine A3<|B8<|sv Z<|sv Z<|sq Z<|sl Z G_hit Z<|sd Z (C8 Z)<|sv Z<|A1<|cc Z hz4 (fun c5 hz4=> ?_)<|fun c5 hz4=> ?_
 refine B3<|A3<|A5<|A3<|Si Z fun u13 _=>sq Z<|sl Z G_hit Z<|sv Z<|sv Z<|bs hz4 fun _ hv3 hz4=>sd Z (D8 Z Z hv3 Z)<|sd Z (D9 Z hv3 Z Z)<|sq Z<|sl Z G_hit Z<|sv Z<|bs hz4 fun _ hv4 hz4=>sd Z (D8 Z Z hv4 Z)<|sd Z (D9 Z hv4 Z Z)<|bs hz4 fun v5 hv5 hz4=>D1 Z Z A6 (Qv _ _ _ hv5) (.inl Z) (sm Z<|V6 Z G_hit [(di v5.X),(di v5.Y)] Z (A1<|A3<|A7 (s0:=⟨T [(1,(.ptr _ _)),(4,(.d _)),(5,(.ptr _ _))],G [((1,u1),some<|.box 39 _),((5,u13),some<|.box 148 _)]⟩) (E3 Z Z) ?_))
 refine B5<|sd Z (C6 Z (gq Z) Z Z)<|sd Z (C6 Z (gq Z) Z Z)<|bs hz4 fun _ hv6 hz4=>D1 Z Z A6 (Pm _ _ _ hv6) (.inl Z) (bs hz4 fun _ hv7 hz4=>D1 Z Z A6 (Xl _ _ hv7) (.inl Z) (sv Z<|A1<|A3<|B8<|sv Z<|sv Z<|sv Z<|sd Z (C6 Z (gq Z) Z Z)<|sd Z (C6 Z (gq Z) Z Z)<|bs hz4 fun _ hv8 hz4=>D1 Z Z A6 (Pm _ _ _ hv8) (.inl Z) (sv Z<|A1<|cc Z hz4 (fun c6 hz4=> ?_)<|fun c6 hz4=> ?_)))
 refine B8<|sv Z<|A1<|B9 ?_
 cases hz4
 obtain rfl:=ez4 _ rfl
 refine ⟨nofun,F8 ?_⟩
 rw [bN]at h
 cases h
 exact B4 (.inr Z) (C5 (C0 Z) D4) (.refl _)
 refine B3<|A3<|B8<|sv Z<|sv Z<|sv Z<|gf Z (fun _=>Z)<|gf Z (vb Z Z Z)<|sd Z (X6 Z Z<|fun hc=>A8<|O7 hc)<|A1<|cc Z hz4 (fun c7 hz4=> ?_)<|fun c7 hz4=> ?_
 refine A3<|A7 (s0:=⟨T [],G []⟩) (E3 Z Z) ?_
 refine B5<|sv Z<|A1<|B9 ?_
 cases hz4
 obtain rfl:=ez4 _ rfl
 refine ⟨nofun,F8 ?_⟩
 rw [bN]at h
 cases h
 exact B4 (.inr Z) (C5 (C0 Z) D4) (.refl _)
 refine B3<|A3<|A7 (s0:=⟨T [(1,(.ptr _ _)),(4,(.d _)),(5,(.ptr _ _))],G [((1,u1),some<|.box 39 _),((5,u13),some<|.box 148 _)]⟩) (E3 Z Z) ?_
 refine M8 Z<|sv Z<|sv Z<|sv Z<|gt Z (fun _=>(C6 Z (gq Z) Z Z))<|gp Z (L5 Z) (fun _=>Z) (gt Z (vl Z G_hit Z)<|gt Z (fun _=>Z)<|bs hz4 fun v9 hv9 hz4=>gt Z (fun w7=>(D8 (A8 w7) (A8 w7) (H4 w7 hv9) Z))<|gt Z (fun w8=>(D9 (A8 w8) (H4 w8 hv9) Z Z))<|gp Z (L5 Z) (fun _=>Z) (gt Z (vl Z G_hit Z)<|gt Z (fun _=>Z)<|gt Z (vb Z Z Z)<|bs hz4 fun v10 hv10 hz4=>gt Z (fun w13=>(D8 (A8 w13) (A8 w13) (H4 w13 hv10) Z))<|gt Z (fun w14=>(D9 (A8 w14) (H4 w14 hv10) Z Z))<|bs hz4 fun v11 hv11 hz4=> ?_))
 refine N0 _ (.agg [(i64 v11.X),(i64 v11.Y)]) (L5 Z) (fun w15=>⟨_,[(.d (.agg [(i64 v9.X),(i64 v9.Y)])),(.d (.agg [(i64 v10.X),(i64 v10.Y)]))],_,_,(by simp only [A8 w15];rfl),Z,A6,Qv _ _ _<|H4 w15 hv11,(.inl Z)⟩) ?_
 refine bs hz4 fun v12 hv12 hz4=> ?_
 refine N0 _ (i64 v12) (L5 Z) (fun w16=>⟨_,[(.d (.agg [(i64 v5.X),(i64 v5.Y)])),(.d (.agg [(i64 v11.X),(i64 v11.Y)]))],_,_,(by simp only [A8 w16];rfl),Z,A6,Pm _ _ _<|H4 w16 hv12,(.inl Z)⟩) ?_
 refine gt Z (vb Z Z Z)<|sa Z Z Z<|A1<|cc Z hz4 (fun c8 hz4=> ?_)<|fun c8 hz4=> ?_
 refine A3<|A7 (s0:=⟨T [],G []⟩) (E3 Z Z) ?_
 refine B5<|sv Z<|A1<|B9 ?_
 cases hz4
 obtain rfl:=ez4 _ rfl
 refine ⟨nofun,F8 ?_⟩
 rw [bN]at h
 cases h
 exact B4 (.inr Z) (C5 (C0 Z) D4) (.refl _)
 refine B3<|E0<|A7 (s0:=⟨T [(1,(.ptr _ _)),(4,(.d _))],G [((1,u1),some<|.box 39 _)]⟩) (E3 Z Z) ?_
 refine B5<|sv Z<|sv Z<|sv Z<|A1<|D6 ?_
 cases hz4
 exact ⟨Z,(),(E3 Z Z)⟩
 refine C3 Z ?_
 cases hz4
 obtain rfl:=ez4 _ rfl
 refine ⟨nofun,C2 Z<|T4 ?_⟩
 exact ⟨_,(),Z,(E3 Z Z)⟩
 rintro _ ⟨y2,g3,rfl,q2⟩
 rw [bM]at h
 refine A7 q2<|B8<|sv Z<|A1<|B9 ?_
 cases h
 exact B4 (.inr Z) (C5 (C0 Z) D4) (.refl _)
def Ji (p1:Int):Option (Int×Int×Int):=
  cond (p1==1) (some (2000,30,90)) (cond (p1==2) (some (1000,20,60)) (cond (p1==3) (some (300,100,300)) (some (0,0,0))))
theorem Ut(p1 r)(h:Ji p1=some r):PCall prog 176 [(i64 p1)] (.tup [(i64 r.1),(i64 r.2.1),(i64 r.2.2)]):=by
 refine D7 (fk func176 ntmps176 m0 (by with_unfolding_all rfl)) (nl Z) ?_
 unfold Ji at h
 refine A7 (s0:=⟨T [(0,(.d _))],G []⟩) (E3 Z Z) ?_
 refine B8<|sv Z<|sv Z<|sv Z<|A1<|A3<|B8<|sv Z<|A1<|A5<|B8<|sv Z<|sv Z<|A1<|cc Z h (fun c1 h=> ?_)<|fun c1 h=> ?_
 refine B8<|sv Z<|sv Z<|sv Z<|A1<|B9 ?_
 cases h
 exact B4 (.inr Z) (CA (C0 Z) (C0 Z) (C0 Z) D4 D4 D4) (.refl _)
 refine B8<|sv Z<|sv Z<|A1<|cc Z h (fun c2 h=> ?_)<|fun c2 h=> ?_
 refine B8<|sv Z<|sv Z<|sv Z<|A1<|B9 ?_
 cases h
 exact B4 (.inr Z) (CA (C0 Z) (C0 Z) (C0 Z) D4 D4 D4) (.refl _)
 refine B8<|sv Z<|sv Z<|A1<|cc Z h (fun c3 h=> ?_)<|fun c3 h=> ?_
 refine B8<|sv Z<|sv Z<|sv Z<|A1<|B9 ?_
 cases h
 exact B4 (.inr Z) (CA (C0 Z) (C0 Z) (C0 Z) D4 D4 D4) (.refl _)
 refine B3<|E0<|B8<|sv Z<|sv Z<|sv Z<|A1<|B9 ?_
 cases h
 exact B4 (.inr Z) (CA (C0 Z) (C0 Z) (C0 Z) D4 D4 D4) (.refl _)
def Bb (p1:(List Int))(p2:Int)(p3:Int)(x1:Int):Option (Stp Int (Sum Unit Bool)):=
  cond (decide (x1< (p1.length:Int))) ((F0 p1 x1).bind fun v1=>((cond (!(decide (v1<p2))) (F0 p1 x1) (some default))).bind fun v2=>((cond ((!((decide (v1<p2))||(decide (v2≥p3))))&& (decide (x1>0))) (F0 p1 x1) (some default))).bind fun v3=>((cond ((!((decide (v1<p2))||(decide (v2≥p3))))&& (decide (x1>0))) (F0 p1 (K2 (x1 - 1))) (some default))).bind fun v4=>cond (((decide (v1<p2))||(decide (v2≥p3)))||((decide (x1>0))&& (decide (v3≤v4)))) (some (.out (.inr false))) (some (.go (K2 (x1+1))))) (some (.out (.inl ())))
def Fj [Lp](p1:(List Int))(p2:Int)(p3:Int):Option Bool:=
  thenS (loop (Bb p1 p2 p3) 0) (fun _=>some true) (fun r=>some r)
theorem Ml(p1 p2 p3 r)(h:Fj p1 p2 p3=some r):PCall prog 177 [(.list (List.map A4 p1)),(i64 p2),(i64 p3)] (bo r):=by
 refine D7 (fk func177 ntmps177 m0 (by with_unfolding_all rfl)) (nl Z) ?_
 unfold Fj at h
 refine A7 (s0:=⟨T [(0,(.d _)),(1,(.d _)),(2,(.d _))],G []⟩) (E3 Z Z) ?_
 refine B8<|sv Z<|A1<|A3<|B8<|sv Z<|A1<|js h fun z1 hz1 h=>D0 (fun s=> ∃(y1:Unit) (g1:Unit),z1= .inl y1∧Sb ⟨T [],G []⟩ s) ?_ ?_
 refine A5<|D2 (Bb p1 p2 p3) (fun (x1:Int) (g2:Unit)=>⟨T [(0,(dl A4 p1)),(1,(di p2)),(2,(di p3)),(7,(di x1))],G []⟩) 0 () _ hz1 (E3 Z Z) ?_
 intro x1 g2 z2 hz2 ez2
 unfold Bb at hz2
 refine A3<|B8<|sv Z<|sv Z<|sd Z (C8 Z)<|sv Z<|A1<|cc Z hz2 (fun c1 hz2=> ?_)<|fun c1 hz2=> ?_
 refine B3<|A3<|A5<|A3<|M8 Z<|sv Z<|sv Z<|bs hz2 fun _ hv1 hz2=>sd Z (D8 Z Z hv1 Z)<|sd Z (E9 Z hv1 Z)<|sv Z<|sv Z<|sv Z<|gf Z (fun _=>Z)<|gf Z (fun _=>Z)<|bs hz2 fun _ hv2 hz2=>gf Z (fun w3=>(D8 (A8 w3) (A8 w3) (H4 w3 hv2) Z))<|gf Z (fun w4=>(E9 (A8 w4) (H4 w4 hv2) Z))<|gf Z (fun _=>Z)<|gf Z (fun w6=>(An (A8 w6) (A8 w6) Z))<|sd Z (X6 Z Z<|fun hc=>A8<|O7 hc)<|sv Z<|gf Z (fun _=>Z)<|gf Z (vb Z Z Z)<|gf Z (fun w9=>(jV<|A8 w9))<|gv Z (Xh Z) (fun _=>Z) (gv Z (Xh Z) (fun _=>Z) (bs hz2 fun _ hv3 hz2=>gv Z (Xh Z) (fun w12=>(D8 (A8 w12) (A8 w12) (H4 w12 hv3) Z)) (gv Z (Xh Z) (fun w13=>(E9 (A8 w13) (H4 w13 hv3) Z)) (gv Z (Xh Z) (fun _=>Z) (gv Z (Xh Z) (fun _=>Z) (gv Z (Xh Z) (vb Z Z Z) (bs hz2 fun _ hv4 hz2=>gv Z (Xh Z) (fun w17=>(D8 (A8 w17) (A8 w17) (H4 w17 hv4) Z)) (gv Z (Xh Z) (fun w18=>(E9 (A8 w18) (H4 w18 hv4) Z)) (gv Z (Xh Z) (fun w19=>(An (A8 w19) (A8 w19) Z)) (gf Z (fun w20=>(eG (A8 w20) (fun hc=>A8<|iR w20 hc) Z))<|sd Z (X6 Z Z<|fun hc=>A8<|O7 hc)<|A1<|cc Z hz2 (fun c2 hz2=> ?_)<|fun c2 hz2=> ?_))))))))))
 refine A3<|A7 (s0:=⟨T [],G []⟩) (E3 Z Z) ?_
 refine B5<|sv Z<|A1<|B9 ?_
 cases hz2
 obtain rfl:=ez2 _ rfl
 refine ⟨nofun,F8 ?_⟩
 rw [bN]at h
 cases h
 exact B4 (.inr Z) (C5 (C0 Z) D4) (.refl _)
 refine B3<|E0<|A7 (s0:=⟨T [(0,(.d _)),(1,(.d _)),(2,(.d _)),(7,(.d _))],G []⟩) (E3 Z Z) ?_
 refine B5<|sv Z<|sv Z<|sv Z<|A1<|D6 ?_
 cases hz2
 exact ⟨Z,(),(E3 Z Z)⟩
 refine C3 Z ?_
 cases hz2
 obtain rfl:=ez2 _ rfl
 refine ⟨nofun,C2 Z<|T4 ?_⟩
 exact ⟨_,(),Z,(E3 Z Z)⟩
 rintro _ ⟨y1,g1,rfl,q1⟩
 rw [bM]at h
 refine A7 q1<|B8<|sv Z<|A1<|B9 ?_
 cases h
 exact B4 (.inr Z) (C5 (C0 Z) D4) (.refl _)
def He [Lp](p1:Map)(p2:Int):Option Int:=
  (F0 p1.Lanes p2).bind fun v1=>cond ((decide (v1.Kind<1))||(decide (v1.Kind>3))) (some 4) ((Ku v1.Curve_).bind fun v2=>cond (v2 !=0) (some v2) ((Ji v1.Kind).bind fun v3=>(Cu v1.Half 200 4000).bind fun v4=>((cond (!(!v4)) (Cu v1.Limit 1 v3.1) (some default))).bind fun v5=>cond ((!v4)||(!v5)) (some 2) (cond (decide ((v1.Next.length:Int)>3)) (some 8) ((Fj v1.Next (K2 (p2+1)) (p1.Lanes.length:Int)).bind fun v6=>cond (!v6) (some 11) (some 0)))))
theorem Yd(p1 p2 r)(h:He p1 p2=some r):PCall prog 72 [(.agg (N8 p1)),(i64 p2)] (i64 r):=by
 refine D7 (fk func72 ntmps72 m0 (by with_unfolding_all rfl)) (nl Z) ?_
 unfold He at h
 refine A7 (s0:=⟨T [(0,(.d _)),(1,(.d _))],G []⟩) (E3 Z Z) ?_
 refine lr<|fun u1 _=>sm Z<|sv Z<|A1<|lr<|fun u2 _=>sq Z<|sl Z G_hit Z<|sv Z<|bs h fun v1 hv1 h=>sd Z (D8 Z Z hv1 Z)<|sd Z (D9 Z hv1 Z Z)<|sm Z<|V6 Z G_hit (T6 v1) Z (A1<|A3<|B8<|sq Z<|sl Z G_hit Z<|sv Z<|sv Z<|gp Z (N7 Z) (fun _=>Z) (gf Z (vl Z G_hit Z)<|gf Z (vb Z Z Z)<|sd Z (X6 Z Z<|fun hc=>A8<|O7 hc)<|A1<|cc Z h (fun c1 h=> ?_)<|fun c1 h=> ?_))
 refine B8<|sv Z<|A1<|B9 ?_
 cases h
 exact B4 (.inr Z) (C5 (C0 Z) D4) (.refl _)
 refine B3<|B8<|sq Z<|sd Z (C6 Z G_hit Z Z)<|bs h fun _ hv2 h=>D1 Z Z A6 (Wb _ _ hv2) (.inl Z) (sv Z<|A1<|A3<|A3<|A7 (s0:=⟨T [(1,(.d _)),(2,(.ptr _ _)),(5,(.ptr _ _)),(6,(.d _))],G [((2,u1),some<|.box 27 _),((5,u2),some<|.box 42 _)]⟩) (E3 Z Z) ?_)
 refine B5<|sv Z<|sv Z<|A1<|cc Z h (fun c2 h=> ?_)<|fun c2 h=> ?_
 refine B8<|sv Z<|sv Z<|A1<|B9 ?_
 cases h
 exact B4 (.inr Z) (C5 (C0 Z) D4) (.refl _)
 refine B3<|B8<|sq Z<|sl Z (gq Z) Z (bs h fun v3 hv3 h=>D1 Z Z A6 (Ut _ _ hv3) (.inl Z) (sv Z<|sv Z<|sv Z<|sv Z<|sv Z<|sv Z<|sv Z<|A1<|A3<|B8<|sq Z<|sl Z (gq Z) Z (bs h fun v4 hv4 h=>D1 Z Z A6 (El _ _ _ _ hv4) (.inl Z) (B6 (.d (bo (!v4))) Z Z (sv Z<|gp Z (N7 Z) (fun _=>Z) (gf Z (vl Z (gq Z) Z)<|gf Z (fun _=>Z)<|bs h fun v5 hv5 h=> ?_))))))
 refine N0 _ (bo v5) (N7 Z) (fun w7=>⟨_,[(di v1.Limit),(di 1),(di v3.1)],_,_,(by simp only [A8 w7];rfl),Z,A6,El _ _ _ _<|H4 w7 hv5,(.inl Z)⟩) ?_
 refine T3 _ (.d (bo (!v5))) Z (N7 Z) (fun w8=>(by simp only [A8 w8];rfl)) ?_
 refine sd Z (X6 Z Z<|fun hc=>A8<|O7 hc)<|A1<|cc Z h (fun c3 h=> ?_)<|fun c3 h=> ?_
 refine A3<|A7 (s0:=⟨T [],G []⟩) (E3 Z Z) ?_
 refine B5<|sv Z<|A1<|B9 ?_
 cases h
 exact B4 (.inr Z) (C5 (C0 Z) D4) (.refl _)
 refine B3<|A3<|A3<|A7 (s0:=⟨T [(1,(.d _)),(2,(.ptr _ _)),(5,(.ptr _ _))],G [((2,u1),some<|.box 27 _),((5,u2),some<|.box 42 _)]⟩) (E3 Z Z) ?_
 refine B5<|sq Z<|sl Z (gq Z) Z (sd Z (C8 Z)<|sv Z<|A1<|cc Z h (fun c4 h=> ?_)<|fun c4 h=> ?_)
 refine B8<|sv Z<|A1<|B9 ?_
 cases h
 exact B4 (.inr Z) (C5 (C0 Z) D4) (.refl _)
 refine B3<|A3<|B8<|sq Z<|sl Z (gq Z) Z (sv Z<|sv Z<|sq Z<|sl Z G_hit Z<|sd Z (C8 Z)<|bs h fun v6 hv6 h=>D1 Z Z A6 (Ml _ _ _ _ hv6) (.inl Z) (B6 (.d (bo (!v6))) Z Z (A1<|cc Z h (fun c5 h=> ?_)<|fun c5 h=> ?_)))
 refine B8<|sv Z<|A1<|B9 ?_
 cases h
 exact B4 (.inr Z) (C5 (C0 Z) D4) (.refl _)
 refine B3<|B8<|sv Z<|A1<|B9 ?_
 cases h
 exact B4 (.inr Z) (C5 (C0 Z) D4) (.refl _)
def Bc (p1:Map)(v1:Lane)(x2:Int):Option (Stp Int (Sum Unit Int)):=
  cond (decide (x2< (v1.Next.length:Int))) ((F0 v1.Next x2).bind fun v2=>(F0 p1.Lanes v2).bind fun v3=>cond (v3.Kind !=v1.Kind) (some (.out (.inr 4))) ((F0 v3.Curve_.Pts 0).bind fun v4=>(F0 v1.Curve_.Pts (K2 ((v1.Curve_.Pts.length:Int) - 1))).bind fun v5=>cond (!(v4.X==v5.X&& (v4.Y==v5.Y&&true))) (some (.out (.inr 3))) (some (.go (K2 (x2+1)))))) (some (.out (.inl ())))
def Bd [Lp](p1:Map)(x1:Int):Option (Stp Int (Sum Unit Int)):=
  cond (decide (x1< (p1.Lanes.length:Int))) ((F0 p1.Lanes x1).bind fun v1=>thenS (loop (Bc p1 v1) 0) (fun _=>some (.go (K2 (x1+1)))) (fun r=>some (.out (.inr r)))) (some (.out (.inl ())))
def Hf [Lp](p1:Map):Option Int:=
  thenS (loop (Bd p1) 0) (fun _=>some 0) (fun r=>some r)
theorem Ye(p1 r)(h:Hf p1=some r):PCall prog 73 [(.agg (N8 p1))] (i64 r):=by
 refine D7 (fk func73 ntmps73 m0 (by with_unfolding_all rfl)) (nl Z) ?_
 unfold Hf at h
 refine A7 (s0:=⟨T [(0,(.d _))],G []⟩) (E3 Z Z) ?_
 refine lr<|fun u1 _=>sm Z<|sv Z<|A1<|A3<|B8<|sv Z<|A1<|js h fun z1 hz1 h=>D0 (fun s=> ∃(y1:Unit) (g1:Unit),z1= .inl y1∧Sb ⟨T [],G []⟩ s) ?_ ?_
 refine A5<|D2 (Bd p1) (fun (x1:Int) (g2:Unit)=>⟨T [(1,(.ptr (1,u1) 0)),(3,(di x1))],G [((1,u1),some<|.box 27 (F2 p1))]⟩) 0 () _ hz1 (E3 Z Z) ?_
 intro x1 g2 z2 hz2 ez2
 unfold Bd at hz2
 refine A3<|B8<|sv Z<|sq Z<|sl Z G_hit Z<|sd Z (C8 Z)<|sv Z<|A1<|cc Z hz2 (fun c1 hz2=> ?_)<|fun c1 hz2=> ?_
 refine B3<|A3<|A5<|lr<|fun u4 _=>sq Z<|sl Z G_hit Z<|sv Z<|bs hz2 fun v1 hv1 hz2=>sd Z (D8 Z Z hv1 Z)<|sd Z (D9 Z hv1 Z Z)<|sm Z<|V6 Z G_hit (T6 v1) Z (A1<|B8<|sv Z<|A1<|js hz2 fun z3 hz3 hz2=>D0 (fun s=> ∃(y2:Unit) (g3:Unit),z3= .inl y2∧Sb ⟨T [(1,(.ptr (1,u1) 0)),(3,(di x1))],G [((1,u1),some<|.box 27 (F2 p1))]⟩ s) ?_ ?_)
 refine A5<|D2 (Bc p1 v1) (fun (x2:Int) (g4:Unit)=>⟨T [(1,(.ptr (1,u1) 0)),(3,(di x1)),(4,(.ptr (4,u4) 0)),(5,(di x2))],G [((1,u1),some<|.box 27 (F2 p1)),((4,u4),some<|.box 42 (T6 v1))]⟩) 0 () _ hz3 (E3 Z Z) ?_
 intro x2 g4 z4 hz4 ez4
 unfold Bc at hz4
 refine A3<|B8<|sv Z<|sq Z<|sl Z (gq Z) Z (sd Z (C8 Z)<|sv Z<|A1<|cc Z hz4 (fun c2 hz4=> ?_)<|fun c2 hz4=> ?_)
 refine B3<|A3<|A5<|A3<|Si Z fun u7 _=>sq Z<|sl Z G_hit Z<|sq Z<|sl Z (gq Z) Z (sv Z<|bs hz4 fun _ hv2 hz4=>sd Z (D8 Z Z hv2 Z)<|sd Z (E9 Z hv2 Z)<|bs hz4 fun v3 hv3 hz4=>sd Z (D8 Z Z hv3 Z)<|sd Z (D9 Z hv3 Z Z)<|sm Z<|V6 Z G_hit (T6 v3) Z (A1<|A3<|A3<|A7 (s0:=⟨T [(1,(.ptr _ _)),(3,(.d _)),(4,(.ptr _ _)),(5,(.d _)),(6,(.ptr _ _))],G [((1,u1),some<|.box 27 _),((4,u4),some<|.box 42 _),((6,u7),some<|.box 42 _)]⟩) (E3 Z Z) ?_))
 refine B5<|sq Z<|sl Z (gq Z) Z (sq Z<|sl Z (gq Z) Z (sv Z<|A1<|cc Z hz4 (fun c3 hz4=> ?_)<|fun c3 hz4=> ?_))
 refine B8<|sv Z<|A1<|B9 ?_
 cases hz4
 obtain rfl:=ez4 _ rfl
 refine ⟨nofun,F8 ?_⟩
 rw [bN]at hz2
 cases hz2
 obtain rfl:=ez2 _ rfl
 refine ⟨nofun,F8 ?_⟩
 rw [bN]at h
 cases h
 exact B4 (.inr Z) (C5 (C0 Z) D4) (.refl _)
 refine B3<|A3<|M8 Z<|sq Z<|sq Z<|sl Z (gq Z) Z (bs hz4 fun v4 hv4 hz4=>sd Z (D8 Z Z hv4 Z)<|sd Z (D9 Z hv4 Z Z)<|sq Z<|sp Z Z<|sl Z (gq Z) Z (sq Z<|sp Z Z<|sl Z (gq Z) Z (sd Z (C8 Z)<|sv Z<|bs hz4 fun v5 hv5 hz4=>sd Z (D8 Z Z hv5 Z)<|sd Z (D9 Z hv5 Z Z)<|B6 (.d (bo (!(v4.X==v5.X&& (v4.Y==v5.Y&&true))))) Z Z (A1<|cc Z hz4 (fun c4 hz4=> ?_)<|fun c4 hz4=> ?_))))
 refine A3<|A7 (s0:=⟨T [],G []⟩) (E3 Z Z) ?_
 refine B5<|sv Z<|A1<|B9 ?_
 cases hz4
 obtain rfl:=ez4 _ rfl
 refine ⟨nofun,F8 ?_⟩
 rw [bN]at hz2
 cases hz2
 obtain rfl:=ez2 _ rfl
 refine ⟨nofun,F8 ?_⟩
 rw [bN]at h
 cases h
 exact B4 (.inr Z) (C5 (C0 Z) D4) (.refl _)
 refine B3<|E0<|A7 (s0:=⟨T [(1,(.ptr _ _)),(3,(.d _)),(4,(.ptr _ _)),(5,(.d _))],G [((1,u1),some<|.box 27 _),((4,u4),some<|.box 42 _)]⟩) (E3 Z Z) ?_
 refine B5<|sv Z<|sv Z<|sv Z<|A1<|D6 ?_
 cases hz4
 exact ⟨Z,(),(E3 Z Z)⟩
 refine C3 Z ?_
 cases hz4
 obtain rfl:=ez4 _ rfl
 refine ⟨nofun,C2 Z<|T4 ?_⟩
 exact ⟨_,(),Z,(E3 Z Z)⟩
 rintro _ ⟨y2,g3,rfl,q1⟩
 rw [bM]at hz2
 refine E0<|A7 q1<|B5<|sv Z<|sv Z<|sv Z<|A1<|D6 ?_
 cases hz2
 exact ⟨Z,(),(E3 Z Z)⟩
 refine C3 Z ?_
 cases hz2
 obtain rfl:=ez2 _ rfl
 refine ⟨nofun,C2 Z<|T4 ?_⟩
 exact ⟨_,(),Z,(E3 Z Z)⟩
 rintro _ ⟨y1,g1,rfl,q2⟩
 rw [bM]at h
 refine A7 q2<|B8<|sv Z<|A1<|B9 ?_
 cases h
 exact B4 (.inr Z) (C5 (C0 Z) D4) (.refl _)
def V0 [Lp](p1:Map)(p2:Signal)(x2:Int):Option (Stp Int (Sum Unit Int)):=
  cond (decide (x2< (p2.Phases.length:Int))) ((F0 p2.Phases x2).bind fun v4=>(Fj v4.Green 0 (p1.Lanes.length:Int)).bind fun v5=>cond (!v5) (some (.out (.inr 11))) (some (.go (K2 (x2+1))))) (some (.out (.inl ())))
def V1 (p2:Signal)(x1:(Bool×Int)):Option (Stp (Bool×Int) Bool):=
  cond (decide (x1.2< (p2.Phases.length:Int))) (((cond x1.1 (F0 p2.Phases x1.2) (some default))).bind fun v2=>((cond x1.1 (Cu v2.Ticks 1 10000) (some default))).bind fun v3=>some (.go ((x1.1&&v3),(K2 (x1.2+1))))) (some (.out x1.1))
def Fa [Lp](p1:Map)(p2:Signal):Option Int:=
  cond ((p2.Phases.length:Int)==0) (some 6) (cond (decide ((p2.Phases.length:Int)>6)) (some 8) ((Cu p2.Offset 0 1099511627776).bind fun v1=>(loop (V1 p2) (v1,0)).bind fun y1=>cond (!y1) (some 2) (thenS (loop (V0 p1 p2) 0) (fun _=>some 0) (fun r=>some r))))
theorem Wc(p1 p2 r)(h:Fa p1 p2=some r):PCall prog 74 [(.agg (N8 p1)),(.agg [(i64 p2.Offset),(.list (List.map G2 p2.Phases))])] (i64 r):=by
 refine D7 (fk func74 ntmps74 m0 (by with_unfolding_all rfl)) (nl Z) ?_
 unfold Fa at h
 refine A7 (s0:=⟨T [(0,(.d _)),(1,(.d _))],G []⟩) (E3 Z Z) ?_
 refine lr<|fun u1 _=>sm Z<|sm Z<|sv Z<|A1<|A3<|B8<|sq Z<|sl Z G_hit Z<|sd Z (C8 Z)<|sv Z<|A1<|cc Z h (fun c1 h=> ?_)<|fun c1 h=> ?_
 refine B8<|sv Z<|A1<|B9 ?_
 cases h
 exact B4 (.inr Z) (C5 (C0 Z) D4) (.refl _)
 refine B3<|A3<|B8<|sq Z<|sl Z G_hit Z<|sd Z (C8 Z)<|sv Z<|A1<|cc Z h (fun c2 h=> ?_)<|fun c2 h=> ?_
 refine B8<|sv Z<|A1<|B9 ?_
 cases h
 exact B4 (.inr Z) (C5 (C0 Z) D4) (.refl _)
 refine B3<|B8<|sq Z<|sl Z G_hit Z<|bs h fun v1 hv1 h=>D1 Z Z A6 (El _ _ _ _ hv1) (.inl Z) (sv Z<|A1<|A3<|B8<|sv Z<|A1<|bs h fun y1 hy1 h=>D0 (fun s=> ∃g1:Unit,Sb ⟨T [(2,(.ptr (2,u1) 0)),(3,(.ptr (3,u1) 0)),(5,(.d (bo y1)))],G [((2,u1),some<|.box 27 (F2 p1)),((3,u1),some<|.box 48 [(di p2.Offset),(dl G2 p2.Phases)])]⟩ s) ?_ ?_)
 refine A5<|D2 (V1 p2) (fun (x1:(Bool×Int)) (g2:Unit)=>⟨T [(2,(.ptr (2,u1) 0)),(3,(.ptr (3,u1) 0)),(5,(.d (bo x1.1))),(6,(di x1.2))],G [((2,u1),some<|.box 27 (F2 p1)),((3,u1),some<|.box 48 [(di p2.Offset),(dl G2 p2.Phases)])]⟩) (v1,0) () _ hy1 (E3 Z Z) ?_
 intro x1 g2 z1 hz1 ez1
 unfold V1 at hz1
 refine A3<|B8<|sv Z<|sq Z<|sl Z (gq Z) Z (sd Z (C8 Z)<|sv Z<|A1<|cc Z hz1 (fun c3 hz1=> ?_)<|fun c3 hz1=> ?_)
 refine B3<|A3<|A5<|B5<|sv Z<|sv Z<|gp Z (L5 Z) (fun _=>Z) (gt Z (vl Z (gq Z) Z)<|gt Z (fun _=>Z)<|bs hz1 fun v2 hv2 hz1=>gt Z (fun w4=>(D8 (A8 w4) (A8 w4) (H4 w4 hv2) Z)) ?_)
 refine gt Z (fun w5=>(by simp only [A8 w5];rfl)) ?_
 refine gt Z (fun w6=>(E9 (A8 w6) (H4 w6 hv2) Z))<|bs hz1 fun v3 hv3 hz1=> ?_
 refine N0 x1.1 (bo v3) (L5 Z) (fun w7=>⟨_,[(di v2.Ticks),(di 1),(di 10000)],_,_,(by simp only [A8 w7];rfl),Z,A6,El _ _ _ _<|H4 w7 hv3,(.inl Z)⟩) ?_
 refine sa Z Z Z<|sv Z<|A1<|E0<|B5<|sv Z<|sv Z<|sv Z<|A1<|D6 ?_
 cases hz1
 exact ⟨Z,(),(E3 Z Z)⟩
 refine C3 Z ?_
 cases hz1
 obtain rfl:=ez1 _ rfl
 refine ⟨nofun,C2 Z<|T4 ?_⟩
 exact ⟨(),(E3 Z Z)⟩
 rintro _ ⟨g1,q1⟩
 refine A7 q1<|A3<|B8<|sv Z<|B6 (.d (bo (!y1))) Z Z (A1<|cc Z h (fun c4 h=> ?_)<|fun c4 h=> ?_)
 refine B8<|sv Z<|A1<|B9 ?_
 cases h
 exact B4 (.inr Z) (C5 (C0 Z) D4) (.refl _)
 refine B3<|A3<|B8<|sv Z<|A1<|js h fun z2 hz2 h=>D0 (fun s=> ∃(y2:Unit) (g3:Unit),z2= .inl y2∧Sb ⟨T [],G []⟩ s) ?_ ?_
 refine A5<|D2 (V0 p1 p2) (fun (x2:Int) (g4:Unit)=>⟨T [(2,(.ptr (2,u1) 0)),(3,(.ptr (3,u1) 0)),(7,(di x2))],G [((2,u1),some<|.box 27 (F2 p1)),((3,u1),some<|.box 48 [(di p2.Offset),(dl G2 p2.Phases)])]⟩) 0 () _ hz2 (E3 Z Z) ?_
 intro x2 g4 z3 hz3 ez3
 unfold V0 at hz3
 refine A3<|B8<|sv Z<|sq Z<|sl Z (gq Z) Z (sd Z (C8 Z)<|sv Z<|A1<|cc Z hz3 (fun c5 hz3=> ?_)<|fun c5 hz3=> ?_)
 refine B3<|A3<|A5<|A3<|M8 Z<|sq Z<|sl Z (gq Z) Z (sv Z<|bs hz3 fun _ hv4 hz3=>sd Z (D8 Z Z hv4 Z)<|sv Z<|sd Z (E9 Z hv4 Z)<|sq Z<|sl Z G_hit Z<|sd Z (C8 Z)<|bs hz3 fun v5 hv5 hz3=>D1 Z Z A6 (Ml _ _ _ _ hv5) (.inl Z) (B6 (.d (bo (!v5))) Z Z (A1<|cc Z hz3 (fun c6 hz3=> ?_)<|fun c6 hz3=> ?_)))
 refine B8<|sv Z<|A1<|B9 ?_
 cases hz3
 obtain rfl:=ez3 _ rfl
 refine ⟨nofun,F8 ?_⟩
 rw [bN]at h
 cases h
 exact B4 (.inr Z) (C5 (C0 Z) D4) (.refl _)
 refine B3<|E0<|B5<|sv Z<|sv Z<|sv Z<|A1<|D6 ?_
 cases hz3
 exact ⟨Z,(),(E3 Z Z)⟩
 refine C3 Z ?_
 cases hz3
 obtain rfl:=ez3 _ rfl
 refine ⟨nofun,C2 Z<|T4 ?_⟩
 exact ⟨_,(),Z,(E3 Z Z)⟩
 rintro _ ⟨y2,g3,rfl,q2⟩
 rw [bM]at h
 refine A7 q2<|B8<|sv Z<|A1<|B9 ?_
 cases h
 exact B4 (.inr Z) (C5 (C0 Z) D4) (.refl _)
def Ck [Lp](p1:Curve)(x1:((List Int)×Int)):Option (Stp ((List Int)×Int) (List Int)):=
  cond (decide ((K2 (x1.2+1))< (p1.Pts.length:Int))) ((F0 p1.Pts (K2 (x1.2+1))).bind fun v2=>(F0 p1.Pts x1.2).bind fun v3=>(Io v2 v3).bind fun v4=>(Kt v4 v4).bind fun v5=>(Ip v5).bind fun v6=>(Q4 x1.1 [v6]).bind fun v7=>some (.go (v7,(K2 (x1.2+1))))) (some (.out x1.1))
def Lq [Lp](p1:Curve):Option (List Int):=
  (Ku p1).bind fun v1=>cond (v1 !=0) (some []) ((loop (Ck p1) ([],0)).bind fun y1=>some y1)
theorem CX(p1 r)(h:Lq p1=some r):PCall prog 242 [(.agg [(.list (List.map K4 p1.Pts))])] (.list (List.map A4 r)):=by
 refine D7 (fk func242 ntmps242 (fun r=>if r==8 then [1005]else []) (by with_unfolding_all rfl)) (nl Z) ?_
 unfold Lq at h
 refine A7 (s0:=⟨T [(0,(.d _))],G []⟩) (E3 Z Z) ?_
 refine lr<|fun u1 _=>sm Z<|sv Z<|A1<|A3<|B8<|sd Z (C6 Z G_hit Z Z)<|bs h fun _ hv1 h=>D1 Z Z A6 (Wb _ _ hv1) (.inl Z) (sv Z<|A1<|cc Z h (fun c1 h=> ?_)<|fun c1 h=> ?_)
 refine B8<|sv Z<|A1<|B9 ?_
 cases h
 exact B4 (.inr Z) (C5 (C0 Z) D4) DLe.nil
 refine B3<|B8<|sv Z<|A1<|A3<|B8<|sv Z<|A1<|bs h fun y1 hy1 h=>D0 (fun s=> ∃g1:Nat,Sb ⟨T [(3,(oS y1 (35,g1)))],G [((35,g1),oB 2 1 A4 y1)]⟩ s) ?_ ?_
 refine A5<|D2 (Ck p1) (fun (x1:((List Int)×Int)) (g2:Nat)=>⟨T [(1,(.ptr (1,u1) 0)),(3,(oS x1.1 (35,g2))),(4,(di x1.2))],G [((1,u1),some<|.box 39 [(dl K4 p1.Pts)]),((35,g2),oB 2 1 A4 x1.1)]⟩) ([],0) 0 _ hy1 (B7 (K8 Z)<|A2 G_hit (.of Z)<|O6 trivial) ?_
 intro x1 g2 z1 hz1 ez1
 unfold Ck at hz1
 refine A3<|B8<|sv Z<|sv Z<|sq Z<|sl Z G_hit Z<|sd Z (C8 Z)<|sv Z<|A1<|cc Z hz1 (fun c2 hz1=> ?_)<|fun c2 hz1=> ?_
 refine B3<|A3<|A5<|A3<|Si Z fun u7 _=>sq Z<|sl Z G_hit Z<|sv Z<|sv Z<|bs hz1 fun _ hv2 hz1=>sd Z (D8 Z Z hv2 Z)<|sd Z (D9 Z hv2 Z Z)<|sq Z<|sl Z G_hit Z<|sv Z<|bs hz1 fun _ hv3 hz1=>sd Z (D8 Z Z hv3 Z)<|sd Z (D9 Z hv3 Z Z)<|bs hz1 fun v4 hv4 hz1=>D1 Z Z A6 (Qv _ _ _ hv4) (.inl Z) (sm Z<|V6 Z G_hit [(di v4.X),(di v4.Y)] Z (A1<|A7 (s0:=⟨T [(1,(.ptr (1,u1) 0)),(3,(oS x1.1 (35,g2))),(4,(di x1.2)),(5,(.ptr (5,u7) 0))],G [((1,u1),some<|.box 39 [(dl K4 p1.Pts)]),((35,g2),oB 2 1 A4 x1.1),((5,u7),some<|.box 148 [(di v4.X),(di v4.Y)])]⟩) (B7 (K8 Z)<|sg Z<|B0 (gq Z)<|A2 G_hit (.of Z) trivial) ?_))
 refine M6 fun u8 _=>B6 (oS x1.1 (35,g2)) Z Z (sd Z (C6 Z (gq Z) Z Z)<|sd Z (C6 Z (gq Z) Z Z)<|bs hz1 fun _ hv5 hz1=>D1 Z Z A6 (Pm _ _ _ hv5) (.inl Z) (bs hz1 fun v6 hv6 hz1=>D1 Z Z A6 (Xl _ _ hv6) (.inl Z) (B6 (dl A4 [v6]) Z Z (bs hz1 fun _ hv7 hz1=>G7 A4 (35,g2) x1.1 v6 [] _ (E1<|fun _=>Z) Z (gq Z) hv7 (ss Z<|A1<|E0<|B5<|sv Z<|sv Z<|sv Z<|A1<|D6 ?_)))))
 cases hz1
 exact ⟨Z,u8,(B7 ⟨.of Z,(.of (T1<|K5 hv7).symm), .of Z,trivial⟩<|sg Z<|K9 G_hit trivial)⟩
 refine C3 Z ?_
 cases hz1
 obtain rfl:=ez1 _ rfl
 refine ⟨nofun,C2 Z<|T4 ?_⟩
 exact ⟨g2,(B7 ⟨.of Z,trivial⟩<|B0 (gq Z) trivial)⟩
 rintro _ ⟨g1,q1⟩
 refine A7 q1<|B8<|B6 (oS y1 (35,g1)) Z Z (B6 (oS y1 (35,g1)) Z Z (A1<|B9 ?_))
 cases h
 exact B4 (.inr Z) (C5 (C0 Z)<|U9 G_hit) U8
def Ap (v1:(List Int))(x1:(Int×Int)):Option (Stp (Int×Int) Int):=
  cond (decide (x1.2< (v1.length:Int))) ((F0 v1 x1.2).bind fun v2=>some (.go ((K2 (x1.1+v2)),(K2 (x1.2+1))))) (some (.out x1.1))
def Gr [Lp](p1:Curve):Option Int:=
  (Lq p1).bind fun v1=>(loop (Ap v1) (0,0)).bind fun y1=>some y1
theorem Uu(p1 r)(h:Gr p1=some r):PCall prog 178 [(.agg [(.list (List.map K4 p1.Pts))])] (i64 r):=by
 refine D7 (fk func178 ntmps178 m0 (by with_unfolding_all rfl)) (nl Z) ?_
 unfold Gr at h
 refine A7 (s0:=⟨T [(0,(.d _))],G []⟩) (E3 Z Z) ?_
 refine B8<|sm Z<|sv Z<|A1<|B8<|sv Z<|A1<|B8<|sd Z (C6 Z G_hit Z Z)<|bs h fun v1 hv1 h=>D1 Z Z A6 (CX _ _ hv1) (.inl Z) (sv Z<|A1<|A3<|B8<|sv Z<|A1<|bs h fun y1 hy1 h=>D0 (fun s=> ∃g1:Unit,Sb ⟨T [(3,(di y1))],G []⟩ s) ?_ ?_)
 refine A5<|D2 (Ap v1) (fun (x1:(Int×Int)) (g2:Unit)=>⟨T [(3,(di x1.1)),(4,(dl A4 v1)),(5,(di x1.2))],G []⟩) (0,0) () _ hy1 (E3 Z Z) ?_
 intro x1 g2 z1 hz1 ez1
 unfold Ap at hz1
 refine A3<|B8<|sv Z<|sv Z<|sd Z (C8 Z)<|sv Z<|A1<|cc Z hz1 (fun c1 hz1=> ?_)<|fun c1 hz1=> ?_
 refine B3<|A3<|A5<|B5<|sv Z<|sv Z<|sv Z<|bs hz1 fun _ hv2 hz1=>sd Z (D8 Z Z hv2 Z)<|sd Z (E9 Z hv2 Z)<|sv Z<|sv Z<|A1<|E0<|B5<|sv Z<|sv Z<|sv Z<|A1<|D6 ?_
 cases hz1
 exact ⟨Z,(),(E3 Z Z)⟩
 refine C3 Z ?_
 cases hz1
 obtain rfl:=ez1 _ rfl
 refine ⟨nofun,C2 Z<|T4 ?_⟩
 exact ⟨(),(E3 Z Z)⟩
 rintro _ ⟨g1,q1⟩
 refine A7 q1<|B8<|sv Z<|sv Z<|A1<|B9 ?_
 cases h
 exact B4 (.inr Z) (C5 (C0 Z) D4) (.refl _)
def Be [Lp](p1:Map)(p2:Zone)(x2:Int):Option (Stp Int (Sum Unit Int)):=
  cond (decide (x2< (p2.Parts.length:Int))) ((F0 p2.Parts x2).bind fun v4=>((cond (!((decide (v4.From<0))||(decide (v4.From≥v4.To)))) (F0 p1.Lanes v4.Lane_) (some default))).bind fun v5=>((cond (!((decide (v4.From<0))||(decide (v4.From≥v4.To)))) (Gr v5.Curve_) (some default))).bind fun v6=>cond (((((decide (v4.From<0))||(decide (v4.From≥v4.To)))||(decide (v4.To>v6)))||(decide (v4.Rank<0)))||(decide (v4.Rank>100))) (some (.out (.inr 2))) (some (.go (K2 (x2+1))))) (some (.out (.inl ())))
def Gs (p2:Zone)(x1:((List Int)×Int)):Option (Stp ((List Int)×Int) (List Int)):=
  cond (decide (x1.2< (p2.Parts.length:Int))) ((F0 p2.Parts x1.2).bind fun v1=>(Q4 x1.1 [v1.Lane_]).bind fun v2=>some (.go (v2,(K2 (x1.2+1))))) (some (.out x1.1))
def Hg [Lp](p1:Map)(p2:Zone):Option Int:=
  cond (decide ((p2.Parts.length:Int)<2)) (some 6) (cond (decide ((p2.Parts.length:Int)>6)) (some 8) (cond ((decide (p2.Signal_<0))||(decide (p2.Signal_>(p1.Signals.length:Int)))) (some 2) ((loop (Gs p2) ([],0)).bind fun y1=>(Fj y1 0 (p1.Lanes.length:Int)).bind fun v3=>cond (!v3) (some 11) (thenS (loop (Be p1 p2) 0) (fun _=>some 0) (fun r=>some r)))))
theorem Yf(p1 p2 r)(h:Hg p1 p2=some r):PCall prog 75 [(.agg (N8 p1)),(.agg [(.list (List.map G8 p2.Parts)),(i64 p2.Signal_)])] (i64 r):=by
 refine D7 (fk func75 ntmps75 (fun r=>if r==11 then [1007]else []) (by with_unfolding_all rfl)) (nl Z) ?_
 unfold Hg at h
 refine A7 (s0:=⟨T [(0,(.d _)),(1,(.d _))],G []⟩) (E3 Z Z) ?_
 refine lr<|fun u1 _=>sm Z<|sm Z<|sv Z<|A1<|A3<|B8<|sq Z<|sl Z G_hit Z<|sd Z (C8 Z)<|sv Z<|A1<|cc Z h (fun c1 h=> ?_)<|fun c1 h=> ?_
 refine B8<|sv Z<|A1<|B9 ?_
 cases h
 exact B4 (.inr Z) (C5 (C0 Z) D4) (.refl _)
 refine B3<|A3<|B8<|sq Z<|sl Z G_hit Z<|sd Z (C8 Z)<|sv Z<|A1<|cc Z h (fun c2 h=> ?_)<|fun c2 h=> ?_
 refine B8<|sv Z<|A1<|B9 ?_
 cases h
 exact B4 (.inr Z) (C5 (C0 Z) D4) (.refl _)
 refine B3<|A3<|B8<|sq Z<|sl Z G_hit Z<|sv Z<|sv Z<|gp Z (N7 Z) (fun _=>Z) (gf Z (vl Z G_hit Z)<|gp Z (N7 Z) (fun _=>Z) (gf Z (vl Z (gq Z) Z)<|gf Z (fun w5=>(C8<|A8 w5))<|gf Z (fun w6=>(An (A8 w6) (A8 w6) Z))<|sd Z (X6 Z Z<|fun hc=>A8<|O7 hc)<|A1<|cc Z h (fun c3 h=> ?_)<|fun c3 h=> ?_))
 refine A3<|A7 (s0:=⟨T [],G []⟩) (E3 Z Z) ?_
 refine B5<|sv Z<|A1<|B9 ?_
 cases h
 exact B4 (.inr Z) (C5 (C0 Z) D4) (.refl _)
 refine B3<|A3<|A7 (s0:=⟨T [(2,(.ptr _ _)),(3,(.ptr _ _))],G [((2,u1),some<|.box 27 _),((3,u1),some<|.box 45 _)]⟩) (E3 Z Z) ?_
 refine B5<|sv Z<|A1<|A3<|B8<|sv Z<|A1<|bs h fun y1 hy1 h=>D0 (fun s=> ∃g1:Nat,Sb ⟨T [(2,(.ptr (2,u1) 0)),(3,(.ptr (3,u1) 0)),(5,(oS y1 (43,g1)))],G [((2,u1),some<|.box 27 (F2 p1)),((3,u1),some<|.box 45 [(dl G8 p2.Parts),(di p2.Signal_)]),((43,g1),oB 3 1 A4 y1)]⟩ s) ?_ ?_
 refine A5<|D2 (Gs p2) (fun (x1:((List Int)×Int)) (g2:Nat)=>⟨T [(2,(.ptr (2,u1) 0)),(3,(.ptr (3,u1) 0)),(5,(oS x1.1 (43,g2))),(6,(di x1.2))],G [((2,u1),some<|.box 27 (F2 p1)),((3,u1),some<|.box 45 [(dl G8 p2.Parts),(di p2.Signal_)]),((43,g2),oB 3 1 A4 x1.1)]⟩) ([],0) 0 _ hy1 (B7 (K8 Z)<|A2 G_hit (.of Z)<|sg Z<|O6 trivial) ?_
 intro x1 g2 z1 hz1 ez1
 unfold Gs at hz1
 refine A3<|B8<|sv Z<|sq Z<|sl Z (gq Z) Z (sd Z (C8 Z)<|sv Z<|A1<|cc Z hz1 (fun c4 hz1=> ?_)<|fun c4 hz1=> ?_)
 refine B3<|A3<|A5<|M6 fun u11 _=>B6 (oS x1.1 (43,g2)) Z Z (sq Z<|sl Z (gq Z) Z (sv Z<|bs hz1 fun v1 hv1 hz1=>sd Z (D8 Z Z hv1 Z)<|sv Z<|sd Z (E9 Z hv1 Z)<|B6 (dl A4 [v1.Lane_]) Z Z (bs hz1 fun _ hv2 hz1=>G7 A4 (43,g2) x1.1 v1.Lane_ [] _ (E1<|fun _=>Z) Z (gq Z) hv2 (ss Z<|A1<|E0<|A7 (s0:=⟨T [(2,(.ptr _ _)),(3,(.ptr _ _)),(5,(.sl _)),(6,(.d _))],G [((2,u1),some<|.box 27 _),((3,u1),some<|.box 45 _),((43,u11),some _)]⟩) (E3 Z Z) ?_))))
 refine B5<|sv Z<|sv Z<|sv Z<|A1<|D6 ?_
 cases hz1
 exact ⟨Z,u11,(B7 ⟨.of Z, .of Z,(.of (T1<|K5 hv2).symm), .of Z,trivial⟩<|A2 G_hit (.of Z)<|sg Z<|K9 (gq Z) trivial)⟩
 refine C3 Z ?_
 cases hz1
 obtain rfl:=ez1 _ rfl
 refine ⟨nofun,C2 Z<|T4 ?_⟩
 exact ⟨g2,(B7 (K8 Z)<|A2 G_hit (.of Z)<|sg Z<|B0 (gq Z) trivial)⟩
 rintro _ ⟨g1,q1⟩
 refine A7 q1<|A3<|B8<|B6 (oS y1 (43,g1)) Z Z (sq Z<|sl Z G_hit Z<|sd Z (C8 Z)<|bs h fun v3 hv3 h=>D1 Z (L9 (U9<|gq Z)<|rD<|rD N1) (.cons U8 (.cons (.refl _) A6)) (Ml _ _ _ _ hv3) (.inr Z) (B6 (.d (bo (!v3))) Z Z (A1<|cc Z h (fun c5 h=> ?_)<|fun c5 h=> ?_)))
 refine B8<|sv Z<|A1<|B9 ?_
 cases h
 exact B4 (.inr Z) (C5 (C0 Z) D4) (.refl _)
 refine B3<|A3<|B8<|sv Z<|A1<|js h fun z2 hz2 h=>D0 (fun s=> ∃(y2:Unit) (g3:Unit),z2= .inl y2∧Sb ⟨T [],G []⟩ s) ?_ ?_
 refine A5<|D2 (Be p1 p2) (fun (x2:Int) (g4:Unit)=>⟨T [(2,(.ptr (2,u1) 0)),(3,(.ptr (3,u1) 0)),(7,(di x2))],G [((2,u1),some<|.box 27 (F2 p1)),((3,u1),some<|.box 45 [(dl G8 p2.Parts),(di p2.Signal_)])]⟩) 0 () _ hz2 (E3 Z Z) ?_
 intro x2 g4 z3 hz3 ez3
 unfold Be at hz3
 refine A3<|B8<|sv Z<|sq Z<|sl Z (gq Z) Z (sd Z (C8 Z)<|sv Z<|A1<|cc Z hz3 (fun c6 hz3=> ?_)<|fun c6 hz3=> ?_)
 refine B3<|A3<|A5<|B8<|sq Z<|sl Z (gq Z) Z (sv Z<|bs hz3 fun v4 hv4 hz3=>sd Z (D8 Z Z hv4 Z)<|sd Z (D9 Z hv4 Z Z)<|sm Z<|V6 Z G_hit (Sz v4) Z (A1<|A3<|M8 Z<|sq Z<|sl Z G_hit Z<|sv Z<|sv Z<|gp Z (N7 Z) (fun _=>Z) (gf Z (vl Z G_hit Z)<|gp Z (N7 Z) (fun _=>Z) (gf Z (vl Z G_hit Z)<|gf Z (fun w11=>(An (A8 w11) (A8 w11) Z))<|sd Z (X6 Z Z<|fun hc=>A8<|O7 hc)<|sv Z<|gp Z (N7 Z) (fun _=>Z) (gf Z (vl Z G_hit Z)<|gp Z (N7 Z) (fun _=>Z) (gf Z (vl Z (gq Z) Z)<|gp Z (N7 Z) (fun _=>Z) (gf Z (vl Z G_hit Z)<|bs hz3 fun v5 hv5 hz3=>gf Z (fun w18=>(D8 (A8 w18) (A8 w18) (H4 w18 hv5) Z)) ?_)))))))
 refine gf Z (fun w19=>(by simp only [A8 w19];rfl)) ?_
 refine gf Z (fun w20=>(D9 (A8 w20) (H4 w20 hv5) Z Z))<|bs hz3 fun v6 hv6 hz3=> ?_
 refine N0 _ (i64 v6) (N7 Z) (fun w21=>⟨_,[(.d (.agg [(.list (List.map K4 v5.Curve_.Pts))]))],_,_,(by simp only [A8 w21];rfl),Z,A6,Uu _ _<|H4 w21 hv6,(.inl Z)⟩) ?_
 refine gf Z (fun w22=>(An (A8 w22) (A8 w22) Z))<|sd Z (X6 Z Z<|fun hc=>A8<|O7 hc)<|sv Z<|gp Z (N7 Z) (fun _=>Z) (gf Z (vl Z G_hit Z)<|gf Z (vb Z Z Z)<|sd Z (X6 Z Z<|fun hc=>A8<|O7 hc)<|sv Z<|gp Z (N7 Z) (fun _=>Z) (gf Z (vl Z G_hit Z)<|gf Z (vb Z Z Z)<|sd Z (X6 Z Z<|fun hc=>A8<|O7 hc)<|A1<|cc Z hz3 (fun c7 hz3=> ?_)<|fun c7 hz3=> ?_))
 refine A3<|A7 (s0:=⟨T [],G []⟩) (E3 Z Z) ?_
 refine B5<|sv Z<|A1<|B9 ?_
 cases hz3
 obtain rfl:=ez3 _ rfl
 refine ⟨nofun,F8 ?_⟩
 rw [bN]at h
 cases h
 exact B4 (.inr Z) (C5 (C0 Z) D4) (.refl _)
 refine B3<|E0<|A7 (s0:=⟨T [(2,(.ptr _ _)),(3,(.ptr _ _)),(7,(.d _))],G [((2,u1),some<|.box 27 _),((3,u1),some<|.box 45 _)]⟩) (E3 Z Z) ?_
 refine B5<|sv Z<|sv Z<|sv Z<|A1<|D6 ?_
 cases hz3
 exact ⟨Z,(),(E3 Z Z)⟩
 refine C3 Z ?_
 cases hz3
 obtain rfl:=ez3 _ rfl
 refine ⟨nofun,C2 Z<|T4 ?_⟩
 exact ⟨_,(),Z,(E3 Z Z)⟩
 rintro _ ⟨y2,g3,rfl,q2⟩
 rw [bM]at h
 refine A7 q2<|B8<|sv Z<|A1<|B9 ?_
 cases h
 exact B4 (.inr Z) (C5 (C0 Z) D4) (.refl _)
def Hh [Lp](p1:Map)(p2:Work):Option Int:=
  cond ((decide (p2.Lane_<0))||(decide (p2.Lane_≥(p1.Lanes.length:Int)))) (some 7) ((F0 p1.Lanes p2.Lane_).bind fun v1=>(Ji v1.Kind).bind fun v2=>((cond (!((decide (p2.From<0))||(decide (p2.From>p2.To)))) (Gr v1.Curve_) (some default))).bind fun v3=>((cond (!((((((decide (p2.From<0))||(decide (p2.From>p2.To)))||(decide (p2.To>v3)))||(decide (p2.Begin<0)))||(decide (p2.Begin≥p2.End)))||(decide (p2.End>1099511627776)))) (Cu p2.Limit 0 v2.1) (some default))).bind fun v4=>cond (((((((decide (p2.From<0))||(decide (p2.From>p2.To)))||(decide (p2.To>v3)))||(decide (p2.Begin<0)))||(decide (p2.Begin≥p2.End)))||(decide (p2.End>1099511627776)))||(!v4)) (some 2) (some 0))
theorem Yg(p1 p2 r)(h:Hh p1 p2=some r):PCall prog 76 [(.agg (N8 p1)),(.agg (R1 p2))] (i64 r):=by
 refine D7 (fk func76 ntmps76 m0 (by with_unfolding_all rfl)) (nl Z) ?_
 unfold Hh at h
 refine A7 (s0:=⟨T [(0,(.d _)),(1,(.d _))],G []⟩) (E3 Z Z) ?_
 refine lr<|fun u1 _=>sm Z<|sm Z<|sv Z<|A1<|A3<|B8<|sq Z<|sl Z G_hit Z<|sv Z<|sv Z<|gp Z (N7 Z) (fun _=>Z) (gf Z (vl Z G_hit Z)<|gp Z (N7 Z) (fun _=>Z) (gf Z (vl Z (gq Z) Z)<|gf Z (fun w5=>(C8<|A8 w5))<|gf Z (fun w6=>(An (A8 w6) (A8 w6) Z))<|sd Z (X6 Z Z<|fun hc=>A8<|O7 hc)<|A1<|cc Z h (fun c1 h=> ?_)<|fun c1 h=> ?_))
 refine B8<|sv Z<|A1<|B9 ?_
 cases h
 exact B4 (.inr Z) (C5 (C0 Z) D4) (.refl _)
 refine B3<|lr<|fun u4 _=>sq Z<|sl Z (gq Z) Z (sq Z<|sl Z G_hit Z<|bs h fun v1 hv1 h=>sd Z (D8 Z Z hv1 Z)<|sd Z (D9 Z hv1 Z Z)<|sm Z<|V6 Z G_hit (T6 v1) Z (A1<|A3<|A7 (s0:=⟨T [(3,(.ptr _ _)),(5,(.ptr _ _))],G [((3,u1),some<|.box 50 _),((5,u4),some<|.box 42 _)]⟩) (E3 Z Z) ?_))
 refine B5<|sq Z<|sl Z (gq Z) Z (bs h fun v2 hv2 h=>D1 Z Z A6 (Ut _ _ hv2) (.inl Z) (sv Z<|sv Z<|sv Z<|sv Z<|sv Z<|sv Z<|sv Z<|A1<|A3<|A3<|M8 Z<|sq Z<|sl Z G_hit Z<|sv Z<|sv Z<|gp Z (N7 Z) (fun _=>Z) (gf Z (vl Z G_hit Z)<|gp Z (N7 Z) (fun _=>Z) (gf Z (vl Z G_hit Z)<|gf Z (fun w11=>(An (A8 w11) (A8 w11) Z))<|sd Z (X6 Z Z<|fun hc=>A8<|O7 hc)<|sv Z<|gp Z (N7 Z) (fun _=>Z) (gf Z (vl Z G_hit Z)<|gp Z (N7 Z) (fun _=>Z) (gf Z (fun w15=>(C6 (A8 w15) (gq Z) Z Z))<|bs h fun v3 hv3 h=> ?_))))))
 refine N0 _ (i64 v3) (N7 Z) (fun w16=>⟨_,[(.d (.agg [(.list (List.map K4 v1.Curve_.Pts))]))],_,_,(by simp only [A8 w16];rfl),Z,A6,Uu _ _<|H4 w16 hv3,(.inl Z)⟩) ?_
 refine gf Z (fun w17=>(An (A8 w17) (A8 w17) Z))<|sd Z (X6 Z Z<|fun hc=>A8<|O7 hc)<|sv Z<|gp Z (N7 Z) (fun _=>Z) (gf Z (vl Z G_hit Z)<|gf Z (vb Z Z Z)<|sd Z (X6 Z Z<|fun hc=>A8<|O7 hc)<|sv Z<|gp Z (N7 Z) (fun _=>Z) (gf Z (vl Z G_hit Z)<|gp Z (N7 Z) (fun _=>Z) (gf Z (vl Z G_hit Z)<|gf Z (fun w25=>(An (A8 w25) (A8 w25) Z))<|sd Z (X6 Z Z<|fun hc=>A8<|O7 hc)<|sv Z<|gp Z (N7 Z) (fun _=>Z) (gf Z (vl Z G_hit Z)<|gf Z (vb Z Z Z)<|sd Z (X6 Z Z<|fun hc=>A8<|O7 hc)<|sv Z<|gp Z (N7 Z) (fun _=>Z) (gf Z (vl Z G_hit Z)<|gf Z (fun _=>Z)<|bs h fun v4 hv4 h=> ?_)))))
 refine N0 _ (bo v4) (N7 Z) (fun w32=>⟨_,[(di p2.Limit),(di 0),(di v2.1)],_,_,(by simp only [A8 w32];rfl),Z,A6,El _ _ _ _<|H4 w32 hv4,(.inl Z)⟩) ?_
 refine T3 _ (.d (bo (!v4))) Z (N7 Z) (fun w33=>(by simp only [A8 w33];rfl)) ?_
 refine sd Z (X6 Z Z<|fun hc=>A8<|O7 hc)<|A1<|cc Z h (fun c2 h=> ?_)<|fun c2 h=> ?_
 refine A3<|A7 (s0:=⟨T [],G []⟩) (E3 Z Z) ?_
 refine B5<|sv Z<|A1<|B9 ?_
 cases h
 exact B4 (.inr Z) (C5 (C0 Z) D4) (.refl _)
 refine B3<|A3<|A7 (s0:=⟨T [],G []⟩) (E3 Z Z) ?_
 refine B5<|sv Z<|A1<|B9 ?_
 cases h
 exact B4 (.inr Z) (C5 (C0 Z) D4) (.refl _)
end
end Go.Abs.Roadsz
