/-
  The functions, part 2.
-/
import Derived.Test.YtimbepcdlehjjaaGreatFns1
set_option maxRecDepth 20000
set_option maxHeartbeats 4000000
set_option linter.unusedVariables false
namespace Go.Abs.Roadsz
noncomputable section
open Go Go.Abs Go.Proofs Tryz
attribute [local irreducible] J6 Lx Ea
def Ht (v53:Int)(x39:(Int×RoadsWriter)):Option (Stp (Int×RoadsWriter) RoadsWriter):=
  cond (decide (x39.1≥0)) ((Ma .u64 (IntKind.wrap .u64 v53) (IntKind.wrap .u64 x39.1)).bind fun v54=>(Bx x39.2.b [(IntKind.wrap .u8 v54)]).bind fun v55=>some (.go ((I4 (x39.1 - 8)),(RoadsWriter.mk v55)))) (some (.out x39.2))
def Hu [Lp](v52:Work)(x38:(Int×RoadsWriter)):Option (Stp (Int×RoadsWriter) RoadsWriter):=
  cond (decide (x38.1< ([v52.Lane_,v52.From,v52.To,v52.Begin,v52.End,v52.Limit].length:Int))) ((F6 [v52.Lane_,v52.From,v52.To,v52.Begin,v52.End,v52.Limit] x38.1).bind fun v53=>(loop (Ht v53) (56,x38.2)).bind fun y56=>some (.go ((I4 (x38.1+1)),y56))) (some (.out x38.2))
def Hv [Lp](x37:(Int×RoadsWriter))(v52:Work):Option RoadsWriter:=
  (loop (Hu v52) (0,x37.2)).bind fun y55=>some y55
def Z3 [Lp](p1:Map)(x37:(Int×RoadsWriter)):Option (Stp (Int×RoadsWriter) RoadsWriter):=
  cond (decide (x37.1< (p1.Works.length:Int))) ((F6 p1.Works x37.1).bind fun v52=>(Hv x37 v52).bind fun y54=>some (.go ((I4 (x37.1+1)),y54))) (some (.out x37.2))
def Hy (v49:Int)(x36:(Int×RoadsWriter)):Option (Stp (Int×RoadsWriter) RoadsWriter):=
  cond (decide (x36.1≥0)) ((Ma .u64 (IntKind.wrap .u64 v49) (IntKind.wrap .u64 x36.1)).bind fun v50=>(Bx x36.2.b [(IntKind.wrap .u8 v50)]).bind fun v51=>some (.go ((I4 (x36.1 - 8)),(RoadsWriter.mk v51)))) (some (.out x36.2))
def Hz [Lp](p1:Map)(x35:(Int×RoadsWriter)):Option (Stp (Int×RoadsWriter) RoadsWriter):=
  cond (decide (x35.1< ([(p1.Works.length:Int)].length:Int))) ((F6 [(p1.Works.length:Int)] x35.1).bind fun v49=>(loop (Hy v49) (56,x35.2)).bind fun y52=>some (.go ((I4 (x35.1+1)),y52))) (some (.out x35.2))
def Ia [Lp](p1:Map)(y34:RoadsWriter):Option RoadsWriter:=
  (loop (Hz p1) (0,y34)).bind fun y51=>some y51
def Ib (v46:Int)(x34:(Int×RoadsWriter)):Option (Stp (Int×RoadsWriter) RoadsWriter):=
  cond (decide (x34.1≥0)) ((Ma .u64 (IntKind.wrap .u64 v46) (IntKind.wrap .u64 x34.1)).bind fun v47=>(Bx x34.2.b [(IntKind.wrap .u8 v47)]).bind fun v48=>some (.go ((I4 (x34.1 - 8)),(RoadsWriter.mk v48)))) (some (.out x34.2))
def Ic [Lp](v45:Int)(x33:(Int×RoadsWriter)):Option (Stp (Int×RoadsWriter) RoadsWriter):=
  cond (decide (x33.1< ([v45].length:Int))) ((F6 [v45] x33.1).bind fun v46=>(loop (Ib v46) (56,x33.2)).bind fun y49=>some (.go ((I4 (x33.1+1)),y49))) (some (.out x33.2))
def Ie [Lp](x32:(Int×RoadsWriter))(v45:Int):Option RoadsWriter:=
  (loop (Ic v45) (0,x32.2)).bind fun y48=>some y48
def Z4 [Lp](v38:Phase)(x32:(Int×RoadsWriter)):Option (Stp (Int×RoadsWriter) RoadsWriter):=
  cond (decide (x32.1< (v38.Green.length:Int))) ((F6 v38.Green x32.1).bind fun v45=>(Ie x32 v45).bind fun y47=>some (.go ((I4 (x32.1+1)),y47))) (some (.out x32.2))
def If (v42:Int)(x31:(Int×RoadsWriter)):Option (Stp (Int×RoadsWriter) RoadsWriter):=
  cond (decide (x31.1≥0)) ((Ma .u64 (IntKind.wrap .u64 v42) (IntKind.wrap .u64 x31.1)).bind fun v43=>(Bx x31.2.b [(IntKind.wrap .u8 v43)]).bind fun v44=>some (.go ((I4 (x31.1 - 8)),(RoadsWriter.mk v44)))) (some (.out x31.2))
def Ig [Lp](v38:Phase)(x30:(Int×RoadsWriter)):Option (Stp (Int×RoadsWriter) RoadsWriter):=
  cond (decide (x30.1< ([(v38.Green.length:Int)].length:Int))) ((F6 [(v38.Green.length:Int)] x30.1).bind fun v42=>(loop (If v42) (56,x30.2)).bind fun y45=>some (.go ((I4 (x30.1+1)),y45))) (some (.out x30.2))
def Ih [Lp](v38:Phase)(y39:RoadsWriter):Option RoadsWriter:=
  (loop (Ig v38) (0,y39)).bind fun y44=>some y44
def Ii [Lp](v38:Phase)(y39:RoadsWriter):Option RoadsWriter:=
  (Ih v38 y39).bind fun y43=>(loop (Z4 v38) (0,y43)).bind fun y46=>some y46
def Ij (v39:Int)(x29:(Int×RoadsWriter)):Option (Stp (Int×RoadsWriter) RoadsWriter):=
  cond (decide (x29.1≥0)) ((Ma .u64 (IntKind.wrap .u64 v39) (IntKind.wrap .u64 x29.1)).bind fun v40=>(Bx x29.2.b [(IntKind.wrap .u8 v40)]).bind fun v41=>some (.go ((I4 (x29.1 - 8)),(RoadsWriter.mk v41)))) (some (.out x29.2))
def Ik [Lp](v38:Phase)(x28:(Int×RoadsWriter)):Option (Stp (Int×RoadsWriter) RoadsWriter):=
  cond (decide (x28.1< ([v38.Ticks].length:Int))) ((F6 [v38.Ticks] x28.1).bind fun v39=>(loop (Ij v39) (56,x28.2)).bind fun y41=>some (.go ((I4 (x28.1+1)),y41))) (some (.out x28.2))
def Il [Lp](x27:(Int×RoadsWriter))(v38:Phase):Option RoadsWriter:=
  (loop (Ik v38) (0,x27.2)).bind fun y40=>some y40
def Z5 [Lp](v34:Signal)(x27:(Int×RoadsWriter)):Option (Stp (Int×RoadsWriter) RoadsWriter):=
  cond (decide (x27.1< (v34.Phases.length:Int))) ((F6 v34.Phases x27.1).bind fun v38=>(Il x27 v38).bind fun y39=>(Ii v38 y39).bind fun y42=>some (.go ((I4 (x27.1+1)),y42))) (some (.out x27.2))
def Im (v35:Int)(x26:(Int×RoadsWriter)):Option (Stp (Int×RoadsWriter) RoadsWriter):=
  cond (decide (x26.1≥0)) ((Ma .u64 (IntKind.wrap .u64 v35) (IntKind.wrap .u64 x26.1)).bind fun v36=>(Bx x26.2.b [(IntKind.wrap .u8 v36)]).bind fun v37=>some (.go ((I4 (x26.1 - 8)),(RoadsWriter.mk v37)))) (some (.out x26.2))
def In [Lp](v34:Signal)(x25:(Int×RoadsWriter)):Option (Stp (Int×RoadsWriter) RoadsWriter):=
  cond (decide (x25.1< ([v34.Offset,(v34.Phases.length:Int)].length:Int))) ((F6 [v34.Offset,(v34.Phases.length:Int)] x25.1).bind fun v35=>(loop (Im v35) (56,x25.2)).bind fun y37=>some (.go ((I4 (x25.1+1)),y37))) (some (.out x25.2))
def Io [Lp](x24:(Int×RoadsWriter))(v34:Signal):Option RoadsWriter:=
  (loop (In v34) (0,x24.2)).bind fun y36=>some y36
def Z6 [Lp](p1:Map)(x24:(Int×RoadsWriter)):Option (Stp (Int×RoadsWriter) RoadsWriter):=
  cond (decide (x24.1< (p1.Signals.length:Int))) ((F6 p1.Signals x24.1).bind fun v34=>(Io x24 v34).bind fun y35=>(loop (Z5 v34) (0,y35)).bind fun y38=>some (.go ((I4 (x24.1+1)),y38))) (some (.out x24.2))
def Ip (v31:Int)(x23:(Int×RoadsWriter)):Option (Stp (Int×RoadsWriter) RoadsWriter):=
  cond (decide (x23.1≥0)) ((Ma .u64 (IntKind.wrap .u64 v31) (IntKind.wrap .u64 x23.1)).bind fun v32=>(Bx x23.2.b [(IntKind.wrap .u8 v32)]).bind fun v33=>some (.go ((I4 (x23.1 - 8)),(RoadsWriter.mk v33)))) (some (.out x23.2))
def Iq [Lp](p1:Map)(x22:(Int×RoadsWriter)):Option (Stp (Int×RoadsWriter) RoadsWriter):=
  cond (decide (x22.1< ([(p1.Signals.length:Int)].length:Int))) ((F6 [(p1.Signals.length:Int)] x22.1).bind fun v31=>(loop (Ip v31) (56,x22.2)).bind fun y33=>some (.go ((I4 (x22.1+1)),y33))) (some (.out x22.2))
def Ir [Lp](p1:Map)(y23:RoadsWriter):Option RoadsWriter:=
  (loop (Iq p1) (0,y23)).bind fun y32=>some y32
def Is (v28:Int)(x21:(Int×RoadsWriter)):Option (Stp (Int×RoadsWriter) RoadsWriter):=
  cond (decide (x21.1≥0)) ((Ma .u64 (IntKind.wrap .u64 v28) (IntKind.wrap .u64 x21.1)).bind fun v29=>(Bx x21.2.b [(IntKind.wrap .u8 v29)]).bind fun v30=>some (.go ((I4 (x21.1 - 8)),(RoadsWriter.mk v30)))) (some (.out x21.2))
def Iu [Lp](v27:Part)(x20:(Int×RoadsWriter)):Option (Stp (Int×RoadsWriter) RoadsWriter):=
  cond (decide (x20.1< ([v27.Lane_,v27.From,v27.To,v27.Rank].length:Int))) ((F6 [v27.Lane_,v27.From,v27.To,v27.Rank] x20.1).bind fun v28=>(loop (Is v28) (56,x20.2)).bind fun y30=>some (.go ((I4 (x20.1+1)),y30))) (some (.out x20.2))
def Iv [Lp](x19:(Int×RoadsWriter))(v27:Part):Option RoadsWriter:=
  (loop (Iu v27) (0,x19.2)).bind fun y29=>some y29
def Z7 [Lp](v23:Zone)(x19:(Int×RoadsWriter)):Option (Stp (Int×RoadsWriter) RoadsWriter):=
  cond (decide (x19.1< (v23.Parts.length:Int))) ((F6 v23.Parts x19.1).bind fun v27=>(Iv x19 v27).bind fun y28=>some (.go ((I4 (x19.1+1)),y28))) (some (.out x19.2))
def Iw (v24:Int)(x18:(Int×RoadsWriter)):Option (Stp (Int×RoadsWriter) RoadsWriter):=
  cond (decide (x18.1≥0)) ((Ma .u64 (IntKind.wrap .u64 v24) (IntKind.wrap .u64 x18.1)).bind fun v25=>(Bx x18.2.b [(IntKind.wrap .u8 v25)]).bind fun v26=>some (.go ((I4 (x18.1 - 8)),(RoadsWriter.mk v26)))) (some (.out x18.2))
def Ix [Lp](v23:Zone)(x17:(Int×RoadsWriter)):Option (Stp (Int×RoadsWriter) RoadsWriter):=
  cond (decide (x17.1< ([v23.Signal_,(v23.Parts.length:Int)].length:Int))) ((F6 [v23.Signal_,(v23.Parts.length:Int)] x17.1).bind fun v24=>(loop (Iw v24) (56,x17.2)).bind fun y26=>some (.go ((I4 (x17.1+1)),y26))) (some (.out x17.2))
def Iy [Lp](x16:(Int×RoadsWriter))(v23:Zone):Option RoadsWriter:=
  (loop (Ix v23) (0,x16.2)).bind fun y25=>some y25
def Z8 [Lp](p1:Map)(x16:(Int×RoadsWriter)):Option (Stp (Int×RoadsWriter) RoadsWriter):=
  cond (decide (x16.1< (p1.Zones.length:Int))) ((F6 p1.Zones x16.1).bind fun v23=>(Iy x16 v23).bind fun y24=>(loop (Z7 v23) (0,y24)).bind fun y27=>some (.go ((I4 (x16.1+1)),y27))) (some (.out x16.2))
def Iz (v20:Int)(x15:(Int×RoadsWriter)):Option (Stp (Int×RoadsWriter) RoadsWriter):=
  cond (decide (x15.1≥0)) ((Ma .u64 (IntKind.wrap .u64 v20) (IntKind.wrap .u64 x15.1)).bind fun v21=>(Bx x15.2.b [(IntKind.wrap .u8 v21)]).bind fun v22=>some (.go ((I4 (x15.1 - 8)),(RoadsWriter.mk v22)))) (some (.out x15.2))
def Ja [Lp](p1:Map)(x14:(Int×RoadsWriter)):Option (Stp (Int×RoadsWriter) RoadsWriter):=
  cond (decide (x14.1< ([(p1.Zones.length:Int)].length:Int))) ((F6 [(p1.Zones.length:Int)] x14.1).bind fun v20=>(loop (Iz v20) (56,x14.2)).bind fun y22=>some (.go ((I4 (x14.1+1)),y22))) (some (.out x14.2))
def Jb [Lp](p1:Map)(y4:RoadsWriter):Option RoadsWriter:=
  (loop (Ja p1) (0,y4)).bind fun y21=>some y21
def Jc (v17:Int)(x13:(Int×RoadsWriter)):Option (Stp (Int×RoadsWriter) RoadsWriter):=
  cond (decide (x13.1≥0)) ((Ma .u64 (IntKind.wrap .u64 v17) (IntKind.wrap .u64 x13.1)).bind fun v18=>(Bx x13.2.b [(IntKind.wrap .u8 v18)]).bind fun v19=>some (.go ((I4 (x13.1 - 8)),(RoadsWriter.mk v19)))) (some (.out x13.2))
def Jd [Lp](v16:Int)(x12:(Int×RoadsWriter)):Option (Stp (Int×RoadsWriter) RoadsWriter):=
  cond (decide (x12.1< ([v16].length:Int))) ((F6 [v16] x12.1).bind fun v17=>(loop (Jc v17) (56,x12.2)).bind fun y19=>some (.go ((I4 (x12.1+1)),y19))) (some (.out x12.2))
def Je [Lp](x11:(Int×RoadsWriter))(v16:Int):Option RoadsWriter:=
  (loop (Jd v16) (0,x11.2)).bind fun y18=>some y18
def Z9 [Lp](v5:Lane)(x11:(Int×RoadsWriter)):Option (Stp (Int×RoadsWriter) RoadsWriter):=
  cond (decide (x11.1< (v5.Next.length:Int))) ((F6 v5.Next x11.1).bind fun v16=>(Je x11 v16).bind fun y17=>some (.go ((I4 (x11.1+1)),y17))) (some (.out x11.2))
def Jf (v13:Int)(x10:(Int×RoadsWriter)):Option (Stp (Int×RoadsWriter) RoadsWriter):=
  cond (decide (x10.1≥0)) ((Ma .u64 (IntKind.wrap .u64 v13) (IntKind.wrap .u64 x10.1)).bind fun v14=>(Bx x10.2.b [(IntKind.wrap .u8 v14)]).bind fun v15=>some (.go ((I4 (x10.1 - 8)),(RoadsWriter.mk v15)))) (some (.out x10.2))
def Jg [Lp](v5:Lane)(x9:(Int×RoadsWriter)):Option (Stp (Int×RoadsWriter) RoadsWriter):=
  cond (decide (x9.1< ([(v5.Next.length:Int)].length:Int))) ((F6 [(v5.Next.length:Int)] x9.1).bind fun v13=>(loop (Jf v13) (56,x9.2)).bind fun y15=>some (.go ((I4 (x9.1+1)),y15))) (some (.out x9.2))
def Jh [Lp](v5:Lane)(y8:RoadsWriter):Option RoadsWriter:=
  (loop (Jg v5) (0,y8)).bind fun y14=>some y14
def Ji [Lp](v5:Lane)(y8:RoadsWriter):Option RoadsWriter:=
  (Jh v5 y8).bind fun y13=>(loop (Z9 v5) (0,y13)).bind fun y16=>some y16
def Jj (v10:Int)(x8:(Int×RoadsWriter)):Option (Stp (Int×RoadsWriter) RoadsWriter):=
  cond (decide (x8.1≥0)) ((Ma .u64 (IntKind.wrap .u64 v10) (IntKind.wrap .u64 x8.1)).bind fun v11=>(Bx x8.2.b [(IntKind.wrap .u8 v11)]).bind fun v12=>some (.go ((I4 (x8.1 - 8)),(RoadsWriter.mk v12)))) (some (.out x8.2))
def Jk [Lp](v9:Spot)(x7:(Int×RoadsWriter)):Option (Stp (Int×RoadsWriter) RoadsWriter):=
  cond (decide (x7.1< ([v9.X,v9.Y].length:Int))) ((F6 [v9.X,v9.Y] x7.1).bind fun v10=>(loop (Jj v10) (56,x7.2)).bind fun y11=>some (.go ((I4 (x7.1+1)),y11))) (some (.out x7.2))
def Kj [Lp](x6:(Int×RoadsWriter))(v9:Spot):Option RoadsWriter:=
  (loop (Jk v9) (0,x6.2)).bind fun y10=>some y10
def Ay [Lp](v5:Lane)(x6:(Int×RoadsWriter)):Option (Stp (Int×RoadsWriter) RoadsWriter):=
  cond (decide (x6.1< (v5.Curve_.Pts.length:Int))) ((F6 v5.Curve_.Pts x6.1).bind fun v9=>(Kj x6 v9).bind fun y9=>some (.go ((I4 (x6.1+1)),y9))) (some (.out x6.2))
def Kk (v6:Int)(x5:(Int×RoadsWriter)):Option (Stp (Int×RoadsWriter) RoadsWriter):=
  cond (decide (x5.1≥0)) ((Ma .u64 (IntKind.wrap .u64 v6) (IntKind.wrap .u64 x5.1)).bind fun v7=>(Bx x5.2.b [(IntKind.wrap .u8 v7)]).bind fun v8=>some (.go ((I4 (x5.1 - 8)),(RoadsWriter.mk v8)))) (some (.out x5.2))
def Kl [Lp](v5:Lane)(x4:(Int×RoadsWriter)):Option (Stp (Int×RoadsWriter) RoadsWriter):=
  cond (decide (x4.1< ([v5.Kind,v5.Half,v5.Limit,(v5.Curve_.Pts.length:Int)].length:Int))) ((F6 [v5.Kind,v5.Half,v5.Limit,(v5.Curve_.Pts.length:Int)] x4.1).bind fun v6=>(loop (Kk v6) (56,x4.2)).bind fun y7=>some (.go ((I4 (x4.1+1)),y7))) (some (.out x4.2))
def Km [Lp](x3:(Int×RoadsWriter))(v5:Lane):Option RoadsWriter:=
  (loop (Kl v5) (0,x3.2)).bind fun y6=>some y6
def Az [Lp](p1:Map)(x3:(Int×RoadsWriter)):Option (Stp (Int×RoadsWriter) RoadsWriter):=
  cond (decide (x3.1< (p1.Lanes.length:Int))) ((F6 p1.Lanes x3.1).bind fun v5=>(Km x3 v5).bind fun y5=>(loop (Ay v5) (0,y5)).bind fun y8=>(Ji v5 y8).bind fun y12=>some (.go ((I4 (x3.1+1)),y12))) (some (.out x3.2))
def Kn (v2:Int)(x2:(Int×RoadsWriter)):Option (Stp (Int×RoadsWriter) RoadsWriter):=
  cond (decide (x2.1≥0)) ((Ma .u64 (IntKind.wrap .u64 v2) (IntKind.wrap .u64 x2.1)).bind fun v3=>(Bx x2.2.b [(IntKind.wrap .u8 v3)]).bind fun v4=>some (.go ((I4 (x2.1 - 8)),(RoadsWriter.mk v4)))) (some (.out x2.2))
def Ko [Lp](p1:Map)(x1:(Int×RoadsWriter)):Option (Stp (Int×RoadsWriter) RoadsWriter):=
  cond (decide (x1.1< ([p1.Version,(p1.Lanes.length:Int)].length:Int))) ((F6 [p1.Version,(p1.Lanes.length:Int)] x1.1).bind fun v2=>(loop (Kn v2) (56,x1.2)).bind fun y3=>some (.go ((I4 (x1.1+1)),y3))) (some (.out x1.2))
def Kp [Lp](p1:Map):Option RoadsWriter:=
  (loop (Ko p1) (0,(RoadsWriter.mk [107,98,109,49]))).bind fun y2=>some y2
def Cd [Lp](p1:Map):Option (ByteArray×Int):=
  (R6 p1).bind fun v1=>cond (v1 !=0) (some (ByteArray.empty,v1)) ((Kp p1).bind fun y1=>(loop (Az p1) (0,y1)).bind fun y4=>(Jb p1 y4).bind fun y20=>(loop (Z8 p1) (0,y20)).bind fun y23=>(Ir p1 y23).bind fun y31=>(loop (Z6 p1) (0,y31)).bind fun y34=>(Ia p1 y34).bind fun y50=>(loop (Z3 p1) (0,y50)).bind fun y53=>some ((K5 y53.b),0))
theorem Ph(p1 r)(h:Cd p1=some r):PCall prog 30 [(.agg (Q2 p1))] (.tup [(X6 r.1),(i64 r.2)]):=by
 refine E3 (fk func30 ntmps30 (fun r=>if r==4 then [1001]else if r==5 then [7,1006]else if r==9 then [12,1011]else if r==13 then [6,1005]else if r==15 then [3]else if r==17 then [5,1004]else if r==21 then [7,1006]else if r==25 then [10,1009]else if r==28 then [5,1004]else if r==32 then [7,1006]else if r==36 then [4,1003]else if r==37 then [3]else if r==40 then [5,1004]else if r==44 then [14,1013]else []) (by with_unfolding_all rfl)) (nl Z) ?_
 unfold Cd at h
 refine A8 (s0:=⟨T [(0,(.d _))],G []⟩) (F5 Z Z) ?_
 refine lr<|fun u1 _=>sm Z<|sv Z<|sv Z<|A1<|A4<|C0<|sd Z (C6 Z G_hit Z Z)<|bs h fun _ hv1 h=>D1 Z Z A6 (Cv _ _ hv1) (.inl Z) (sv Z<|A1<|C0<|sv Z<|sv Z<|A1<|cc Z h (fun c1 h=> ?_)<|fun c1 h=> ?_)
 refine C0<|sv Z<|sv Z<|sv Z<|A1<|C1 ?_
 cases h
 exact B9 (.inr Z) (Nw (C2 Z) (C2 Z) D7 D7) (.refl _)
 refine B4<|lr<|fun u5 _=>Ke (.sl _) (.arr 5 1 (List.map B7 ([107,98,109,49]:List Int))) Z Z (B6 (.sl _) Z (RG Z G_hit<|List.cons_ne_nil _ _) (B6 (.agg _) Z Z (sm Z<|sq Z<|A1<|C0<|sq Z<|sp Z Z<|sl Z (gq Z) Z (sq Z<|sl Z (gq Z) Z (sd Z (D2 Z)<|B6 (dl A3 [p1.Version,(p1.Lanes.length:Int)]) Z Z (bs h fun y1 hy1 h=>Ee (fk func117 ntmps117 (fun r=>if r==6 then [1011]else []) (by with_unfolding_all rfl)) (fun (g1:({d:Nat // d∈ [25,29]}×Nat))=> [(1,(.ptr (1,u1) 0)),(5,(.ptr (28,u5) 0))]) (fun (g1:({d:Nat // d∈ [25,29]}×Nat))=> [((1,u1),some<|.box 27 (F1 p1)),((28,u5),some<|.box 145 [(oS y1.b (g1.1.val,g1.2))]),((g1.1.val,g1.2),oB 5 1 B7 y1.b)]) Z (nl Z) ?_ ?_))))))
 unfold Kp at hy1
 refine A8 (s0:=⟨T [(0,(.ptr _ _)),(1,(.d _))],G [((28,u5),some<|.box 145 _),((25,u5),some _),((1,u1),some<|.box 27 _)]⟩) (F5 Z Z) ?_
 refine C0<|B6 (dl A3 [p1.Version,(p1.Lanes.length:Int)]) Z Z (sd Z (D2 Z)<|sv Z<|A1<|bs hy1 fun y2 hy2 hy1=>D3 (fun s=> ∃g2:({d:Nat // d∈ [25,29]}×Nat),Sb ⟨T [],G [((1,u1),some<|.box 27 (F1 p1)),((28,u5),some<|.box 145 [(oS y2.b (g2.1.val,g2.2))]),((g2.1.val,g2.2),oB 5 1 B7 y2.b)]⟩ s) ?_ ?_)
 refine A5<|D6 (Ko p1) (fun (x1:(Int×RoadsWriter)) (g3:({d:Nat // d∈ [25,29]}×Nat))=>⟨T [(0,(.ptr (28,u5) 0)),(7,(dl A3 [p1.Version,(p1.Lanes.length:Int)])),(8,(di ([p1.Version,(p1.Lanes.length:Int)].length:Int))),(9,(di x1.1))],G [((28,u5),some<|.box 145 [(oS x1.2.b (g3.1.val,g3.2))]),((1,u1),some<|.box 27 (F1 p1)),((g3.1.val,g3.2),oB 5 1 B7 x1.2.b)]⟩) (0,(RoadsWriter.mk [107,98,109,49])) (⟨25, .head _⟩,u5) _ hy2 (B8 (K6 Z)<|A2 G_hit (.box (.cons (.of (Q3<|List.cons_ne_nil _ _).symm) .nil))<|sg Z<|I7 (gq Z) trivial) ?_
 intro x1 g3 z1 hz1 ez1
 unfold Ko at hz1
 refine lr<|fun u8 _=>sv Z<|A1<|A4<|cc Z hz1 (fun c2 hz1=> ?_)<|fun c2 hz1=> ?_
 refine B4<|A4<|A5<|C0<|bs hz1 fun v2 hv2 hz1=>sd Z (E7 Z Z hv2 Z)<|sd Z (G7 Z hv2 Z)<|sv Z<|A1<|C0<|sv Z<|A1<|bs hz1 fun y3 hy3 hz1=>D3 (fun s=> ∃g4:({d:Nat // d∈ [25,29]}×Nat),Sb ⟨T [(0,(.ptr (28,u5) 0)),(7,(dl A3 [p1.Version,(p1.Lanes.length:Int)])),(8,(di ([p1.Version,(p1.Lanes.length:Int)].length:Int))),(9,(di x1.1))],G [((28,u5),some<|.box 145 [(oS y3.b (g4.1.val,g4.2))]),((1,u1),some<|.box 27 (F1 p1)),((g4.1.val,g4.2),oB 5 1 B7 y3.b)]⟩ s) ?_ ?_
 refine A5<|D6 (Kn v2) (fun (x2:(Int×RoadsWriter)) (g5:({d:Nat // d∈ [25,29]}×Nat))=>⟨T [(0,(.ptr (28,u5) 0)),(5,(di v2)),(6,(di x2.1)),(7,(dl A3 [p1.Version,(p1.Lanes.length:Int)])),(8,(di ([p1.Version,(p1.Lanes.length:Int)].length:Int))),(9,(di x1.1))],G [((28,u5),some<|.box 145 [(oS x2.2.b (g5.1.val,g5.2))]),((1,u1),some<|.box 27 (F1 p1)),((g5.1.val,g5.2),oB 5 1 B7 x2.2.b)]⟩) (56,x1.2) (g3.1,g3.2) _ hy3 (B8 (K6 Z)<|A2 G_hit (.of Z)<|sg Z<|B3 (U9 g3.1.property 2 Z G_hit) trivial) ?_
 intro x2 g5 z2 hz2 ez2
 unfold Kn at hz2
 refine A4<|C0<|sv Z<|sv Z<|A1<|cc Z hz2 (fun c3 hz2=> ?_)<|fun c3 hz2=> ?_
 refine B4<|A4<|A5<|T8 fun u12 _=>sq Z<|sq Z<|sp Z Z<|sq Z<|B6 (oS x2.2.b (g5.1.val,g5.2)) Z (Ag Z G_hit Z) (sv Z<|sv Z<|sv Z<|sv Z<|bs hz2 fun v3 hv3 hz2=>sd Z (Jo Z Z hv3)<|sv Z<|B6 (dl B7 [(IntKind.wrap .u8 v3)]) Z Z (bs hz2 fun _ hv4 hz2=>J3 B7 (g5.1.val,g5.2) x2.2.b (IntKind.wrap .u8 v3) [] _ (I0<|fun _=>Z) Z (A7 (Gl g5.1.property Z)<|A7 (Gl g5.1.property Z) G_hit) hv4 (sq Z<|sp Z Z<|W8 _ _ _ _ _ Z Z Z (A7 Z<|A7 (Gz g5.1.property Z) G_hit) (nl Z) [(.sl (29,u12))] Z (A1<|D8<|B5<|sv Z<|sv Z<|sv Z<|A1<|D9 ?_))))
 cases hz2
 exact ⟨Z,(⟨29, .tail _ (.head _)⟩,u12),(B8 (K6 Z)<|A2 G_hit (.box (.cons (.of (Q3<|N5 hv4).symm) .nil))<|A2 (Zj 2 Z<|A7 (Gz g5.1.property Z)<|gq Z) (.of Z) (I7 (gq Z) trivial))⟩
 refine C4 Z ?_
 cases hz2
 obtain rfl:=ez2 _ rfl
 refine ⟨nofun,C3 Z<|V2 ?_⟩
 exact ⟨(g5.1,g5.2),(B8 (K6 Z)<|A2 G_hit (.of Z)<|sg Z<|B3 (U9 g5.1.property 2 Z G_hit) trivial)⟩
 rintro _ ⟨g4,q1⟩
 refine D8<|A8 q1<|B5<|sv Z<|sv Z<|A1<|D9 ?_
 cases hz1
 exact ⟨Z,(g4.1,g4.2),(B8 (K6 Z)<|A2 G_hit (.of Z)<|sg Z<|B3 (U9 g4.1.property 2 Z G_hit) trivial)⟩
 refine C4 Z ?_
 cases hz1
 obtain rfl:=ez1 _ rfl
 refine ⟨nofun,C3 Z<|V2 ?_⟩
 exact ⟨(g3.1,g3.2),(B8 trivial<|sg Z<|A2 G_hit (.of Z)<|B3 (U9 g3.1.property 2 Z G_hit) trivial)⟩
 rintro _ ⟨g2,q2⟩
 refine D9 ?_
 obtain rfl:=(lC hy1)
 exact Y2 q2 (.inl Z) (g2.1,g2.2) (K6 Z) (A2 G_hit (.of Z)<|sg Z<|B3 (U9 g2.1.property 2 Z G_hit) trivial)
 intro g1
 intro u15 hu15
 refine A1<|A4<|C0<|sq Z<|sl Z G_hit Z<|sd Z (D2 Z)<|sv Z<|A1<|bs h fun y4 hy4 h=>D3 (fun s=> ∃g6:({d:Nat // d∈ [25,29]}×Nat),Sb ⟨T [(1,(.ptr (1,u1) 0)),(5,(.ptr (28,u5) 0))],G [((1,u1),some<|.box 27 (F1 p1)),((28,u5),some<|.box 145 [(oS y4.b (g6.1.val,g6.2))]),((g6.1.val,g6.2),oB 5 1 B7 y4.b)]⟩ s) ?_ ?_
 refine A5<|D6 (Az p1) (fun (x3:(Int×RoadsWriter)) (g7:({d:Nat // d∈ [25,29]}×Nat))=>⟨T [(1,(.ptr (1,u1) 0)),(5,(.ptr (28,u5) 0)),(38,(dl O1 p1.Lanes)),(39,(di (p1.Lanes.length:Int))),(40,(di x3.1))],G [((1,u1),some<|.box 27 (F1 p1)),((28,u5),some<|.box 145 [(oS x3.2.b (g7.1.val,g7.2))]),((g7.1.val,g7.2),oB 5 1 B7 x3.2.b)]⟩) (0,y1) (g1.1,g1.2) _ hy4 (B8 (K6 Z)<|A2 G_hit (.of Z)<|sg Z<|B3 (U9 g1.1.property 2 Z G_hit) trivial) ?_
 intro x3 g7 z3 hz3 ez3
 unfold Az at hz3
 refine C0<|sv Z<|A1<|A4<|cc Z hz3 (fun c4 hz3=> ?_)<|fun c4 hz3=> ?_
 refine B4<|A4<|A5<|lr<|fun u18 _=>bs hz3 fun v5 hv5 hz3=>sd Z (E7 Z Z hv5 Z)<|sd Z (E4 Z hv5 Z Z)<|sm Z<|X7 Z G_hit (Bz v5) Z (A1<|C0<|sq Z<|sp Z Z<|sl Z G_hit Z<|sq Z<|sl Z G_hit Z<|sq Z<|sl Z G_hit Z<|sq Z<|sp Z Z<|sl Z G_hit Z<|sd Z (D2 Z)<|B6 (dl A3 [v5.Kind,v5.Half,v5.Limit,(v5.Curve_.Pts.length:Int)]) Z Z (bs hz3 fun y5 hy5 hz3=>Ee (fk func117 ntmps117 (fun r=>if r==6 then [1011]else []) (by with_unfolding_all rfl)) (fun (g8:({d:Nat // d∈ [25,29]}×Nat))=> [(1,(.ptr (1,u1) 0)),(5,(.ptr (28,u5) 0)),(7,(.ptr (7,u18) 0)),(38,(dl O1 p1.Lanes)),(39,(di (p1.Lanes.length:Int))),(40,(di x3.1))]) (fun (g8:({d:Nat // d∈ [25,29]}×Nat))=> [((1,u1),some<|.box 27 (F1 p1)),((28,u5),some<|.box 145 [(oS y5.b (g8.1.val,g8.2))]),((7,u18),some<|.box 42 (Bz v5)),((g8.1.val,g8.2),oB 5 1 B7 y5.b)]) Z (nl Z) ?_ ?_))
 unfold Km at hy5
 refine A8 (s0:=⟨T [(0,(.ptr (28,u5) 0)),(1,(dl A3 [v5.Kind,v5.Half,v5.Limit,(v5.Curve_.Pts.length:Int)]))],G [((28,u5),some<|.box 145 [(oS x3.2.b (g7.1.val,g7.2))]),((g7.1.val,g7.2),oB 5 1 B7 x3.2.b),((1,u1),some<|.box 27 (F1 p1)),((7,u18),some<|.box 42 (Bz v5))]⟩) (B8 (K6 Z)<|sg Z<|B3 (U9 g7.1.property 4 Z G_hit)<|sg Z<|A2 G_hit (.of Z) trivial) ?_
 refine C0<|B6 (dl A3 [v5.Kind,v5.Half,v5.Limit,(v5.Curve_.Pts.length:Int)]) Z Z (sd Z (D2 Z)<|sv Z<|A1<|bs hy5 fun y6 hy6 hy5=>D3 (fun s=> ∃g9:({d:Nat // d∈ [25,29]}×Nat),Sb ⟨T [],G [((1,u1),some<|.box 27 (F1 p1)),((28,u5),some<|.box 145 [(oS y6.b (g9.1.val,g9.2))]),((7,u18),some<|.box 42 (Bz v5)),((g9.1.val,g9.2),oB 5 1 B7 y6.b)]⟩ s) ?_ ?_)
 refine A5<|D6 (Kl v5) (fun (x4:(Int×RoadsWriter)) (g10:({d:Nat // d∈ [25,29]}×Nat))=>⟨T [(0,(.ptr (28,u5) 0)),(7,(dl A3 [v5.Kind,v5.Half,v5.Limit,(v5.Curve_.Pts.length:Int)])),(8,(di ([v5.Kind,v5.Half,v5.Limit,(v5.Curve_.Pts.length:Int)].length:Int))),(9,(di x4.1))],G [((28,u5),some<|.box 145 [(oS x4.2.b (g10.1.val,g10.2))]),((1,u1),some<|.box 27 (F1 p1)),((7,u18),some<|.box 42 (Bz v5)),((g10.1.val,g10.2),oB 5 1 B7 x4.2.b)]⟩) (0,x3.2) (g7.1,g7.2) _ hy6 (B8 (K6 Z)<|A2 G_hit (.of Z)<|A2 (A7 Z<|A7 (Gz g7.1.property Z) G_hit) (.of Z) (A2 (A7 Z<|A7 (Gz g7.1.property Z)<|gq Z) (.of Z) (B3 (A7 (Gl g7.1.property Z) G_hit) trivial))) ?_
 intro x4 g10 z4 hz4 ez4
 unfold Kl at hz4
 refine C0<|sv Z<|A1<|A4<|cc Z hz4 (fun c5 hz4=> ?_)<|fun c5 hz4=> ?_
 refine B4<|A4<|A5<|C0<|bs hz4 fun v6 hv6 hz4=>sd Z (E7 Z Z hv6 Z)<|sd Z (G7 Z hv6 Z)<|sv Z<|A1<|C0<|sv Z<|A1<|bs hz4 fun y7 hy7 hz4=>D3 (fun s=> ∃g11:({d:Nat // d∈ [25,29]}×Nat),Sb ⟨T [(0,(.ptr (28,u5) 0)),(7,(dl A3 [v5.Kind,v5.Half,v5.Limit,(v5.Curve_.Pts.length:Int)])),(8,(di ([v5.Kind,v5.Half,v5.Limit,(v5.Curve_.Pts.length:Int)].length:Int))),(9,(di x4.1))],G [((28,u5),some<|.box 145 [(oS y7.b (g11.1.val,g11.2))]),((1,u1),some<|.box 27 (F1 p1)),((7,u18),some<|.box 42 (Bz v5)),((g11.1.val,g11.2),oB 5 1 B7 y7.b)]⟩ s) ?_ ?_
 refine A5<|D6 (Kk v6) (fun (x5:(Int×RoadsWriter)) (g12:({d:Nat // d∈ [25,29]}×Nat))=>⟨T [(0,(.ptr (28,u5) 0)),(5,(di v6)),(6,(di x5.1)),(7,(dl A3 [v5.Kind,v5.Half,v5.Limit,(v5.Curve_.Pts.length:Int)])),(8,(di ([v5.Kind,v5.Half,v5.Limit,(v5.Curve_.Pts.length:Int)].length:Int))),(9,(di x4.1))],G [((28,u5),some<|.box 145 [(oS x5.2.b (g12.1.val,g12.2))]),((1,u1),some<|.box 27 (F1 p1)),((7,u18),some<|.box 42 (Bz v5)),((g12.1.val,g12.2),oB 5 1 B7 x5.2.b)]⟩) (56,x4.2) (g10.1,g10.2) _ hy7 (B8 (K6 Z)<|A2 G_hit (.of Z)<|sg Z<|sg Z<|B3 (U9 g10.1.property 3 Z G_hit) trivial) ?_
 intro x5 g12 z5 hz5 ez5
 unfold Kk at hz5
 refine A4<|C0<|sv Z<|sv Z<|A1<|cc Z hz5 (fun c6 hz5=> ?_)<|fun c6 hz5=> ?_
 refine B4<|A4<|A5<|T8 fun u25 _=>sq Z<|sq Z<|sp Z Z<|sq Z<|B6 (oS x5.2.b (g12.1.val,g12.2)) Z (Ag Z G_hit Z) (sv Z<|sv Z<|sv Z<|sv Z<|bs hz5 fun v7 hv7 hz5=>sd Z (Jo Z Z hv7)<|sv Z<|B6 (dl B7 [(IntKind.wrap .u8 v7)]) Z Z (bs hz5 fun _ hv8 hz5=>J3 B7 (g12.1.val,g12.2) x5.2.b (IntKind.wrap .u8 v7) [] _ (I0<|fun _=>Z) Z (A7 (Gl g12.1.property Z)<|A7 (Gl g12.1.property Z)<|A7 (Gl g12.1.property Z) G_hit) hv8 (sq Z<|sp Z Z<|W8 _ _ _ _ _ Z Z Z (A7 Z<|A7 (Gz g12.1.property Z) G_hit) (nl Z) [(.sl (29,u25))] Z (A1<|D8<|B5<|sv Z<|sv Z<|sv Z<|A1<|D9 ?_))))
 cases hz5
 exact ⟨Z,(⟨29, .tail _ (.head _)⟩,u25),(B8 (K6 Z)<|A2 G_hit (.box (.cons (.of (Q3<|N5 hv8).symm) .nil))<|A2 (Zj 2 Z<|A7 (Gz g12.1.property Z)<|gq Z) (.of Z) (A2 (Zj 2 Z<|A7 (Gz g12.1.property Z)<|gq Z) (.of Z) (I7 (gq Z) trivial)))⟩
 refine C4 Z ?_
 cases hz5
 obtain rfl:=ez5 _ rfl
 refine ⟨nofun,C3 Z<|V2 ?_⟩
 exact ⟨(g12.1,g12.2),(B8 (K6 Z)<|A2 G_hit (.of Z)<|sg Z<|sg Z<|B3 (U9 g12.1.property 3 Z G_hit) trivial)⟩
 rintro _ ⟨g11,q3⟩
 refine D8<|A8 q3<|B5<|sv Z<|sv Z<|A1<|D9 ?_
 cases hz4
 exact ⟨Z,(g11.1,g11.2),(B8 (K6 Z)<|A2 G_hit (.of Z)<|sg Z<|sg Z<|B3 (U9 g11.1.property 3 Z G_hit) trivial)⟩
 refine C4 Z ?_
 cases hz4
 obtain rfl:=ez4 _ rfl
 refine ⟨nofun,C3 Z<|V2 ?_⟩
 exact ⟨(g10.1,g10.2),(B8 trivial<|sg Z<|A2 G_hit (.of Z)<|sg Z<|B3 (U9 g10.1.property 3 Z G_hit) trivial)⟩
 rintro _ ⟨g9,q4⟩
 refine D9 ?_
 obtain rfl:=(lC hy5)
 exact Y2 q4 (.inl Z) (g9.1,g9.2) (K6 Z) (A2 G_hit (.of Z)<|sg Z<|sg Z<|B3 (U9 g9.1.property 3 Z G_hit) trivial)
 intro g8
 intro u28 hu28
 refine A1<|A4<|C0<|sq Z<|sp Z Z<|sl Z (gq Z) Z (sd Z (D2 Z)<|sv Z<|A1<|bs hz3 fun y8 hy8 hz3=>D3 (fun s=> ∃g13:({d:Nat // d∈ [25,29]}×Nat),Sb ⟨T [(1,(.ptr (1,u1) 0)),(5,(.ptr (28,u5) 0)),(7,(.ptr (7,u18) 0)),(38,(dl O1 p1.Lanes)),(39,(di (p1.Lanes.length:Int))),(40,(di x3.1))],G [((1,u1),some<|.box 27 (F1 p1)),((28,u5),some<|.box 145 [(oS y8.b (g13.1.val,g13.2))]),((7,u18),some<|.box 42 (Bz v5)),((g13.1.val,g13.2),oB 5 1 B7 y8.b)]⟩ s) ?_ ?_)
 refine A5<|D6 (Ay v5) (fun (x6:(Int×RoadsWriter)) (g14:({d:Nat // d∈ [25,29]}×Nat))=>⟨T [(1,(.ptr (1,u1) 0)),(5,(.ptr (28,u5) 0)),(7,(.ptr (7,u18) 0)),(38,(dl O1 p1.Lanes)),(39,(di (p1.Lanes.length:Int))),(40,(di x3.1)),(59,(dl Q6 v5.Curve_.Pts)),(60,(di (v5.Curve_.Pts.length:Int))),(61,(di x6.1))],G [((1,u1),some<|.box 27 (F1 p1)),((28,u5),some<|.box 145 [(oS x6.2.b (g14.1.val,g14.2))]),((7,u18),some<|.box 42 (Bz v5)),((g14.1.val,g14.2),oB 5 1 B7 x6.2.b)]⟩) (0,y5) (g8.1,g8.2) _ hy8 (B8 (K6 Z)<|A2 G_hit (.of Z)<|sg Z<|sg Z<|B3 (U9 g8.1.property 3 Z G_hit) trivial) ?_
 intro x6 g14 z6 hz6 ez6
 unfold Ay at hz6
 refine C0<|sv Z<|A1<|A4<|cc Z hz6 (fun c7 hz6=> ?_)<|fun c7 hz6=> ?_
 refine B4<|A4<|A5<|C0<|bs hz6 fun v9 hv9 hz6=>sd Z (E7 Z Z hv9 Z)<|sd Z (E4 Z hv9 Z Z)<|sm Z<|X7 Z G_hit [(di v9.X),(di v9.Y)] Z (A1<|B5<|sq Z<|sq Z<|sl Z G_hit Z<|sq Z<|sl Z G_hit Z<|B6 (dl A3 [v9.X,v9.Y]) Z Z (bs hz6 fun y9 hy9 hz6=>Ee (fk func117 ntmps117 (fun r=>if r==6 then [1011]else []) (by with_unfolding_all rfl)) (fun (g15:({d:Nat // d∈ [25,29]}×Nat))=> [(1,(.ptr (1,u1) 0)),(5,(.ptr (28,u5) 0)),(7,(.ptr (7,u18) 0)),(38,(dl O1 p1.Lanes)),(39,(di (p1.Lanes.length:Int))),(40,(di x3.1)),(59,(dl Q6 v5.Curve_.Pts)),(60,(di (v5.Curve_.Pts.length:Int))),(61,(di x6.1))]) (fun (g15:({d:Nat // d∈ [25,29]}×Nat))=> [((1,u1),some<|.box 27 (F1 p1)),((28,u5),some<|.box 145 [(oS y9.b (g15.1.val,g15.2))]),((7,u18),some<|.box 42 (Bz v5)),((g15.1.val,g15.2),oB 5 1 B7 y9.b)]) Z (nl Z) ?_ ?_))
 unfold Kj at hy9
 refine A8 (s0:=⟨T [(0,(.ptr (28,u5) 0)),(1,(dl A3 [v9.X,v9.Y]))],G [((28,u5),some<|.box 145 [(oS x6.2.b (g14.1.val,g14.2))]),((g14.1.val,g14.2),oB 5 1 B7 x6.2.b),((1,u1),some<|.box 27 (F1 p1)),((7,u18),some<|.box 42 (Bz v5))]⟩) (B8 (K6 Z)<|sg Z<|B3 (U9 g14.1.property 5 Z G_hit)<|sg Z<|sg Z trivial) ?_
 refine C0<|B6 (dl A3 [v9.X,v9.Y]) Z Z (sd Z (D2 Z)<|sv Z<|A1<|bs hy9 fun y10 hy10 hy9=>D3 (fun s=> ∃g16:({d:Nat // d∈ [25,29]}×Nat),Sb ⟨T [],G [((1,u1),some<|.box 27 (F1 p1)),((28,u5),some<|.box 145 [(oS y10.b (g16.1.val,g16.2))]),((7,u18),some<|.box 42 (Bz v5)),((g16.1.val,g16.2),oB 5 1 B7 y10.b)]⟩ s) ?_ ?_)
 refine A5<|D6 (Jk v9) (fun (x7:(Int×RoadsWriter)) (g17:({d:Nat // d∈ [25,29]}×Nat))=>⟨T [(0,(.ptr (28,u5) 0)),(7,(dl A3 [v9.X,v9.Y])),(8,(di ([v9.X,v9.Y].length:Int))),(9,(di x7.1))],G [((28,u5),some<|.box 145 [(oS x7.2.b (g17.1.val,g17.2))]),((1,u1),some<|.box 27 (F1 p1)),((7,u18),some<|.box 42 (Bz v5)),((g17.1.val,g17.2),oB 5 1 B7 x7.2.b)]⟩) (0,x6.2) (g14.1,g14.2) _ hy10 (B8 (K6 Z)<|A2 G_hit (.of Z)<|A2 (A7 Z<|A7 (Gz g14.1.property Z) G_hit) (.of Z) (A2 (A7 Z<|A7 (Gz g14.1.property Z)<|gq Z) (.of Z) (B3 (A7 (Gl g14.1.property Z) G_hit) trivial))) ?_
 intro x7 g17 z7 hz7 ez7
 unfold Jk at hz7
 refine C0<|sv Z<|A1<|A4<|cc Z hz7 (fun c8 hz7=> ?_)<|fun c8 hz7=> ?_
 refine B4<|A4<|A5<|C0<|bs hz7 fun v10 hv10 hz7=>sd Z (E7 Z Z hv10 Z)<|sd Z (G7 Z hv10 Z)<|sv Z<|A1<|C0<|sv Z<|A1<|bs hz7 fun y11 hy11 hz7=>D3 (fun s=> ∃g18:({d:Nat // d∈ [25,29]}×Nat),Sb ⟨T [(0,(.ptr (28,u5) 0)),(7,(dl A3 [v9.X,v9.Y])),(8,(di ([v9.X,v9.Y].length:Int))),(9,(di x7.1))],G [((28,u5),some<|.box 145 [(oS y11.b (g18.1.val,g18.2))]),((1,u1),some<|.box 27 (F1 p1)),((7,u18),some<|.box 42 (Bz v5)),((g18.1.val,g18.2),oB 5 1 B7 y11.b)]⟩ s) ?_ ?_
 refine A5<|D6 (Jj v10) (fun (x8:(Int×RoadsWriter)) (g19:({d:Nat // d∈ [25,29]}×Nat))=>⟨T [(0,(.ptr (28,u5) 0)),(5,(di v10)),(6,(di x8.1)),(7,(dl A3 [v9.X,v9.Y])),(8,(di ([v9.X,v9.Y].length:Int))),(9,(di x7.1))],G [((28,u5),some<|.box 145 [(oS x8.2.b (g19.1.val,g19.2))]),((1,u1),some<|.box 27 (F1 p1)),((7,u18),some<|.box 42 (Bz v5)),((g19.1.val,g19.2),oB 5 1 B7 x8.2.b)]⟩) (56,x7.2) (g17.1,g17.2) _ hy11 (B8 (K6 Z)<|A2 G_hit (.of Z)<|sg Z<|sg Z<|B3 (U9 g17.1.property 3 Z G_hit) trivial) ?_
 intro x8 g19 z8 hz8 ez8
 unfold Jj at hz8
 refine A4<|C0<|sv Z<|sv Z<|A1<|cc Z hz8 (fun c9 hz8=> ?_)<|fun c9 hz8=> ?_
 refine B4<|A4<|A5<|T8 fun u38 _=>sq Z<|sq Z<|sp Z Z<|sq Z<|B6 (oS x8.2.b (g19.1.val,g19.2)) Z (Ag Z G_hit Z) (sv Z<|sv Z<|sv Z<|sv Z<|bs hz8 fun v11 hv11 hz8=>sd Z (Jo Z Z hv11)<|sv Z<|B6 (dl B7 [(IntKind.wrap .u8 v11)]) Z Z (bs hz8 fun _ hv12 hz8=>J3 B7 (g19.1.val,g19.2) x8.2.b (IntKind.wrap .u8 v11) [] _ (I0<|fun _=>Z) Z (A7 (Gl g19.1.property Z)<|A7 (Gl g19.1.property Z)<|A7 (Gl g19.1.property Z) G_hit) hv12 (sq Z<|sp Z Z<|W8 _ _ _ _ _ Z Z Z (A7 Z<|A7 (Gz g19.1.property Z) G_hit) (nl Z) [(.sl (29,u38))] Z (A1<|D8<|B5<|sv Z<|sv Z<|sv Z<|A1<|D9 ?_))))
 cases hz8
 exact ⟨Z,(⟨29, .tail _ (.head _)⟩,u38),(B8 (K6 Z)<|A2 G_hit (.box (.cons (.of (Q3<|N5 hv12).symm) .nil))<|A2 (Zj 2 Z<|A7 (Gz g19.1.property Z)<|gq Z) (.of Z) (A2 (Zj 2 Z<|A7 (Gz g19.1.property Z)<|gq Z) (.of Z) (I7 (gq Z) trivial)))⟩
 refine C4 Z ?_
 cases hz8
 obtain rfl:=ez8 _ rfl
 refine ⟨nofun,C3 Z<|V2 ?_⟩
 exact ⟨(g19.1,g19.2),(B8 (K6 Z)<|A2 G_hit (.of Z)<|sg Z<|sg Z<|B3 (U9 g19.1.property 3 Z G_hit) trivial)⟩
 rintro _ ⟨g18,q5⟩
 refine D8<|A8 q5<|B5<|sv Z<|sv Z<|A1<|D9 ?_
 cases hz7
 exact ⟨Z,(g18.1,g18.2),(B8 (K6 Z)<|A2 G_hit (.of Z)<|sg Z<|sg Z<|B3 (U9 g18.1.property 3 Z G_hit) trivial)⟩
 refine C4 Z ?_
 cases hz7
 obtain rfl:=ez7 _ rfl
 refine ⟨nofun,C3 Z<|V2 ?_⟩
 exact ⟨(g17.1,g17.2),(B8 trivial<|sg Z<|A2 G_hit (.of Z)<|sg Z<|B3 (U9 g17.1.property 3 Z G_hit) trivial)⟩
 rintro _ ⟨g16,q6⟩
 refine D9 ?_
 obtain rfl:=(lC hy9)
 exact Y2 q6 (.inl Z) (g16.1,g16.2) (K6 Z) (A2 G_hit (.of Z)<|sg Z<|sg Z<|B3 (U9 g16.1.property 3 Z G_hit) trivial)
 intro g15
 intro u41 hu41
 refine A1<|D8<|B5<|sv Z<|sv Z<|A1<|D9 ?_
 cases hz6
 exact ⟨Z,(g15.1,g15.2),(B8 (K6 Z)<|A2 G_hit (.of Z)<|sg Z<|sg Z<|B3 (U9 g15.1.property 3 Z G_hit) trivial)⟩
 refine C4 Z ?_
 cases hz6
 obtain rfl:=ez6 _ rfl
 refine ⟨nofun,C3 Z<|V2 ?_⟩
 exact ⟨(g14.1,g14.2),(B8 (K6 Z)<|A2 G_hit (.of Z)<|sg Z<|sg Z<|B3 (U9 g14.1.property 3 Z G_hit) trivial)⟩
 rintro _ ⟨g13,q7⟩
 refine A8 q7<|B5<|sq Z<|sq Z<|sl Z (gq Z) Z (bs hz3 fun y12 hy12 hz3=>Ee (fk func118 ntmps118 (fun r=>if r==0 then [4,1003]else if r==4 then [3,1002]else []) (by with_unfolding_all rfl)) (fun (g20:({d:Nat // d∈ [25,29]}×Nat))=> [(1,(.ptr (1,u1) 0)),(5,(.ptr (28,u5) 0)),(38,(dl O1 p1.Lanes)),(39,(di (p1.Lanes.length:Int))),(40,(di x3.1))]) (fun (g20:({d:Nat // d∈ [25,29]}×Nat))=> [((1,u1),some<|.box 27 (F1 p1)),((28,u5),some<|.box 145 [(oS y12.b (g20.1.val,g20.2))]),((g20.1.val,g20.2),oB 5 1 B7 y12.b)]) Z (nl Z) ?_ ?_)
 unfold Ji at hy12
 refine A8 (s0:=⟨T [(0,(.ptr (28,u5) 0)),(1,(dl A3 v5.Next))],G [((28,u5),some<|.box 145 [(oS y8.b (g13.1.val,g13.2))]),((g13.1.val,g13.2),oB 5 1 B7 y8.b),((1,u1),some<|.box 27 (F1 p1))]⟩) (B8 (K6 Z)<|sg Z<|B3 (U9 g13.1.property 3 Z G_hit)<|A2 G_hit (.of Z) trivial) ?_
 refine C0<|sq Z<|sv Z<|sd Z (D2 Z)<|B6 (dl A3 [(v5.Next.length:Int)]) Z Z (bs hy12 fun y13 hy13 hy12=>Ee (fk func117 ntmps117 (fun r=>if r==6 then [1011]else []) (by with_unfolding_all rfl)) (fun (g21:({d:Nat // d∈ [25,29]}×Nat))=> [(0,(.ptr (28,u5) 0)),(1,(dl A3 v5.Next))]) (fun (g21:({d:Nat // d∈ [25,29]}×Nat))=> [((28,u5),some<|.box 145 [(oS y13.b (g21.1.val,g21.2))]),((1,u1),some<|.box 27 (F1 p1)),((g21.1.val,g21.2),oB 5 1 B7 y13.b)]) Z (nl Z) ?_ ?_)
 unfold Jh at hy13
 refine A8 (s0:=⟨T [(0,(.ptr (28,u5) 0)),(1,(dl A3 [(v5.Next.length:Int)]))],G [((28,u5),some<|.box 145 [(oS y8.b (g13.1.val,g13.2))]),((g13.1.val,g13.2),oB 5 1 B7 y8.b),((1,u1),some<|.box 27 (F1 p1))]⟩) (B8 (K6 Z)<|A2 G_hit (.of Z)<|B3 (A7 (Gl g13.1.property Z) G_hit)<|A2 (A7 Z<|A7 (Gz g13.1.property Z) G_hit) (.of Z) trivial) ?_
 refine C0<|B6 (dl A3 [(v5.Next.length:Int)]) Z Z (sd Z (D2 Z)<|sv Z<|A1<|bs hy13 fun y14 hy14 hy13=>D3 (fun s=> ∃g22:({d:Nat // d∈ [25,29]}×Nat),Sb ⟨T [],G [((1,u1),some<|.box 27 (F1 p1)),((28,u5),some<|.box 145 [(oS y14.b (g22.1.val,g22.2))]),((g22.1.val,g22.2),oB 5 1 B7 y14.b)]⟩ s) ?_ ?_)
 refine A5<|D6 (Jg v5) (fun (x9:(Int×RoadsWriter)) (g23:({d:Nat // d∈ [25,29]}×Nat))=>⟨T [(0,(.ptr (28,u5) 0)),(7,(dl A3 [(v5.Next.length:Int)])),(8,(di ([(v5.Next.length:Int)].length:Int))),(9,(di x9.1))],G [((28,u5),some<|.box 145 [(oS x9.2.b (g23.1.val,g23.2))]),((1,u1),some<|.box 27 (F1 p1)),((g23.1.val,g23.2),oB 5 1 B7 x9.2.b)]⟩) (0,y8) (g13.1,g13.2) _ hy14 (B8 (K6 Z)<|A2 G_hit (.of Z)<|A2 (A7 Z<|A7 (Gz g13.1.property Z) G_hit) (.of Z) (B3 (A7 (Gl g13.1.property Z) G_hit) trivial)) ?_
 intro x9 g23 z9 hz9 ez9
 unfold Jg at hz9
 refine C0<|sv Z<|A1<|A4<|cc Z hz9 (fun c10 hz9=> ?_)<|fun c10 hz9=> ?_
 refine B4<|A4<|A5<|C0<|bs hz9 fun v13 hv13 hz9=>sd Z (E7 Z Z hv13 Z)<|sd Z (G7 Z hv13 Z)<|sv Z<|A1<|C0<|sv Z<|A1<|bs hz9 fun y15 hy15 hz9=>D3 (fun s=> ∃g24:({d:Nat // d∈ [25,29]}×Nat),Sb ⟨T [(0,(.ptr (28,u5) 0)),(7,(dl A3 [(v5.Next.length:Int)])),(8,(di ([(v5.Next.length:Int)].length:Int))),(9,(di x9.1))],G [((28,u5),some<|.box 145 [(oS y15.b (g24.1.val,g24.2))]),((1,u1),some<|.box 27 (F1 p1)),((g24.1.val,g24.2),oB 5 1 B7 y15.b)]⟩ s) ?_ ?_
 refine A5<|D6 (Jf v13) (fun (x10:(Int×RoadsWriter)) (g25:({d:Nat // d∈ [25,29]}×Nat))=>⟨T [(0,(.ptr (28,u5) 0)),(5,(di v13)),(6,(di x10.1)),(7,(dl A3 [(v5.Next.length:Int)])),(8,(di ([(v5.Next.length:Int)].length:Int))),(9,(di x9.1))],G [((28,u5),some<|.box 145 [(oS x10.2.b (g25.1.val,g25.2))]),((1,u1),some<|.box 27 (F1 p1)),((g25.1.val,g25.2),oB 5 1 B7 x10.2.b)]⟩) (56,x9.2) (g23.1,g23.2) _ hy15 (B8 (K6 Z)<|A2 G_hit (.of Z)<|sg Z<|B3 (U9 g23.1.property 2 Z G_hit) trivial) ?_
 intro x10 g25 z10 hz10 ez10
 unfold Jf at hz10
 refine A4<|C0<|sv Z<|sv Z<|A1<|cc Z hz10 (fun c11 hz10=> ?_)<|fun c11 hz10=> ?_
 refine B4<|A4<|A5<|T8 fun u50 _=>sq Z<|sq Z<|sp Z Z<|sq Z<|B6 (oS x10.2.b (g25.1.val,g25.2)) Z (Ag Z G_hit Z) (sv Z<|sv Z<|sv Z<|sv Z<|bs hz10 fun v14 hv14 hz10=>sd Z (Jo Z Z hv14)<|sv Z<|B6 (dl B7 [(IntKind.wrap .u8 v14)]) Z Z (bs hz10 fun _ hv15 hz10=>J3 B7 (g25.1.val,g25.2) x10.2.b (IntKind.wrap .u8 v14) [] _ (I0<|fun _=>Z) Z (A7 (Gl g25.1.property Z)<|A7 (Gl g25.1.property Z) G_hit) hv15 (sq Z<|sp Z Z<|W8 _ _ _ _ _ Z Z Z (A7 Z<|A7 (Gz g25.1.property Z) G_hit) (nl Z) [(.sl (29,u50))] Z (A1<|D8<|B5<|sv Z<|sv Z<|sv Z<|A1<|D9 ?_))))
 cases hz10
 exact ⟨Z,(⟨29, .tail _ (.head _)⟩,u50),(B8 (K6 Z)<|A2 G_hit (.box (.cons (.of (Q3<|N5 hv15).symm) .nil))<|A2 (Zj 2 Z<|A7 (Gz g25.1.property Z)<|gq Z) (.of Z) (I7 (gq Z) trivial))⟩
 refine C4 Z ?_
 cases hz10
 obtain rfl:=ez10 _ rfl
 refine ⟨nofun,C3 Z<|V2 ?_⟩
 exact ⟨(g25.1,g25.2),(B8 (K6 Z)<|A2 G_hit (.of Z)<|sg Z<|B3 (U9 g25.1.property 2 Z G_hit) trivial)⟩
 rintro _ ⟨g24,q8⟩
 refine D8<|A8 q8<|B5<|sv Z<|sv Z<|A1<|D9 ?_
 cases hz9
 exact ⟨Z,(g24.1,g24.2),(B8 (K6 Z)<|A2 G_hit (.of Z)<|sg Z<|B3 (U9 g24.1.property 2 Z G_hit) trivial)⟩
 refine C4 Z ?_
 cases hz9
 obtain rfl:=ez9 _ rfl
 refine ⟨nofun,C3 Z<|V2 ?_⟩
 exact ⟨(g23.1,g23.2),(B8 trivial<|sg Z<|A2 G_hit (.of Z)<|B3 (U9 g23.1.property 2 Z G_hit) trivial)⟩
 rintro _ ⟨g22,q9⟩
 refine D9 ?_
 obtain rfl:=(lC hy13)
 exact Y2 q9 (.inl Z) (g22.1,g22.2) (K6 Z) (sg Z<|A2 G_hit (.of Z)<|B3 (U9 g22.1.property 2 Z G_hit) trivial)
 intro g21
 intro u53 hu53
 refine A1<|C0<|sv Z<|sd Z (D2 Z)<|sv Z<|A1<|bs hy12 fun y16 hy16 hy12=>D3 (fun s=> ∃g26:({d:Nat // d∈ [25,29]}×Nat),Sb ⟨T [],G [((1,u1),some<|.box 27 (F1 p1)),((28,u5),some<|.box 145 [(oS y16.b (g26.1.val,g26.2))]),((g26.1.val,g26.2),oB 5 1 B7 y16.b)]⟩ s) ?_ ?_
 refine A5<|D6 (Z9 v5) (fun (x11:(Int×RoadsWriter)) (g27:({d:Nat // d∈ [25,29]}×Nat))=>⟨T [(0,(.ptr (28,u5) 0)),(11,(dl A3 v5.Next)),(12,(di (v5.Next.length:Int))),(13,(di x11.1))],G [((28,u5),some<|.box 145 [(oS x11.2.b (g27.1.val,g27.2))]),((1,u1),some<|.box 27 (F1 p1)),((g27.1.val,g27.2),oB 5 1 B7 x11.2.b)]⟩) (0,y13) (g21.1,g21.2) _ hy16 (B8 (K6 Z)<|A2 G_hit (.of Z)<|sg Z<|B3 (U9 g21.1.property 2 Z G_hit) trivial) ?_
 intro x11 g27 z11 hz11 ez11
 unfold Z9 at hz11
 refine C0<|sv Z<|A1<|A4<|cc Z hz11 (fun c12 hz11=> ?_)<|fun c12 hz11=> ?_
 refine B4<|A4<|A5<|C0<|bs hz11 fun v16 hv16 hz11=>sd Z (E7 Z Z hv16 Z)<|sd Z (G7 Z hv16 Z)<|sv Z<|A1<|B5<|sq Z<|sv Z<|B6 (dl A3 [v16]) Z Z (bs hz11 fun y17 hy17 hz11=>Ee (fk func117 ntmps117 (fun r=>if r==6 then [1011]else []) (by with_unfolding_all rfl)) (fun (g28:({d:Nat // d∈ [25,29]}×Nat))=> [(0,(.ptr (28,u5) 0)),(11,(dl A3 v5.Next)),(12,(di (v5.Next.length:Int))),(13,(di x11.1))]) (fun (g28:({d:Nat // d∈ [25,29]}×Nat))=> [((28,u5),some<|.box 145 [(oS y17.b (g28.1.val,g28.2))]),((1,u1),some<|.box 27 (F1 p1)),((g28.1.val,g28.2),oB 5 1 B7 y17.b)]) Z (nl Z) ?_ ?_)
 unfold Je at hy17
 refine A8 (s0:=⟨T [(0,(.ptr (28,u5) 0)),(1,(dl A3 [v16]))],G [((28,u5),some<|.box 145 [(oS x11.2.b (g27.1.val,g27.2))]),((g27.1.val,g27.2),oB 5 1 B7 x11.2.b),((1,u1),some<|.box 27 (F1 p1))]⟩) (B8 (K6 Z)<|A2 G_hit (.of Z)<|B3 (U9 g27.1.property 2 Z G_hit)<|sg Z trivial) ?_
 refine C0<|B6 (dl A3 [v16]) Z Z (sd Z (D2 Z)<|sv Z<|A1<|bs hy17 fun y18 hy18 hy17=>D3 (fun s=> ∃g29:({d:Nat // d∈ [25,29]}×Nat),Sb ⟨T [],G [((1,u1),some<|.box 27 (F1 p1)),((28,u5),some<|.box 145 [(oS y18.b (g29.1.val,g29.2))]),((g29.1.val,g29.2),oB 5 1 B7 y18.b)]⟩ s) ?_ ?_)
 refine A5<|D6 (Jd v16) (fun (x12:(Int×RoadsWriter)) (g30:({d:Nat // d∈ [25,29]}×Nat))=>⟨T [(0,(.ptr (28,u5) 0)),(7,(dl A3 [v16])),(8,(di ([v16].length:Int))),(9,(di x12.1))],G [((28,u5),some<|.box 145 [(oS x12.2.b (g30.1.val,g30.2))]),((1,u1),some<|.box 27 (F1 p1)),((g30.1.val,g30.2),oB 5 1 B7 x12.2.b)]⟩) (0,x11.2) (g27.1,g27.2) _ hy18 (B8 (K6 Z)<|A2 G_hit (.of Z)<|A2 (A7 Z<|A7 (Gz g27.1.property Z) G_hit) (.of Z) (B3 (A7 (Gl g27.1.property Z) G_hit) trivial)) ?_
 intro x12 g30 z12 hz12 ez12
 unfold Jd at hz12
 refine C0<|sv Z<|A1<|A4<|cc Z hz12 (fun c13 hz12=> ?_)<|fun c13 hz12=> ?_
 refine B4<|A4<|A5<|C0<|bs hz12 fun v17 hv17 hz12=>sd Z (E7 Z Z hv17 Z)<|sd Z (G7 Z hv17 Z)<|sv Z<|A1<|C0<|sv Z<|A1<|bs hz12 fun y19 hy19 hz12=>D3 (fun s=> ∃g31:({d:Nat // d∈ [25,29]}×Nat),Sb ⟨T [(0,(.ptr (28,u5) 0)),(7,(dl A3 [v16])),(8,(di ([v16].length:Int))),(9,(di x12.1))],G [((28,u5),some<|.box 145 [(oS y19.b (g31.1.val,g31.2))]),((1,u1),some<|.box 27 (F1 p1)),((g31.1.val,g31.2),oB 5 1 B7 y19.b)]⟩ s) ?_ ?_
 refine A5<|D6 (Jc v17) (fun (x13:(Int×RoadsWriter)) (g32:({d:Nat // d∈ [25,29]}×Nat))=>⟨T [(0,(.ptr (28,u5) 0)),(5,(di v17)),(6,(di x13.1)),(7,(dl A3 [v16])),(8,(di ([v16].length:Int))),(9,(di x12.1))],G [((28,u5),some<|.box 145 [(oS x13.2.b (g32.1.val,g32.2))]),((1,u1),some<|.box 27 (F1 p1)),((g32.1.val,g32.2),oB 5 1 B7 x13.2.b)]⟩) (56,x12.2) (g30.1,g30.2) _ hy19 (B8 (K6 Z)<|A2 G_hit (.of Z)<|sg Z<|B3 (U9 g30.1.property 2 Z G_hit) trivial) ?_
 intro x13 g32 z13 hz13 ez13
 unfold Jc at hz13
 refine A4<|C0<|sv Z<|sv Z<|A1<|cc Z hz13 (fun c14 hz13=> ?_)<|fun c14 hz13=> ?_
 refine B4<|A4<|A5<|T8 fun u63 _=>sq Z<|sq Z<|sp Z Z<|sq Z<|B6 (oS x13.2.b (g32.1.val,g32.2)) Z (Ag Z G_hit Z) (sv Z<|sv Z<|sv Z<|sv Z<|bs hz13 fun v18 hv18 hz13=>sd Z (Jo Z Z hv18)<|sv Z<|B6 (dl B7 [(IntKind.wrap .u8 v18)]) Z Z (bs hz13 fun _ hv19 hz13=>J3 B7 (g32.1.val,g32.2) x13.2.b (IntKind.wrap .u8 v18) [] _ (I0<|fun _=>Z) Z (A7 (Gl g32.1.property Z)<|A7 (Gl g32.1.property Z) G_hit) hv19 (sq Z<|sp Z Z<|W8 _ _ _ _ _ Z Z Z (A7 Z<|A7 (Gz g32.1.property Z) G_hit) (nl Z) [(.sl (29,u63))] Z (A1<|D8<|B5<|sv Z<|sv Z<|sv Z<|A1<|D9 ?_))))
 cases hz13
 exact ⟨Z,(⟨29, .tail _ (.head _)⟩,u63),(B8 (K6 Z)<|A2 G_hit (.box (.cons (.of (Q3<|N5 hv19).symm) .nil))<|A2 (Zj 2 Z<|A7 (Gz g32.1.property Z)<|gq Z) (.of Z) (I7 (gq Z) trivial))⟩
 refine C4 Z ?_
 cases hz13
 obtain rfl:=ez13 _ rfl
 refine ⟨nofun,C3 Z<|V2 ?_⟩
 exact ⟨(g32.1,g32.2),(B8 (K6 Z)<|A2 G_hit (.of Z)<|sg Z<|B3 (U9 g32.1.property 2 Z G_hit) trivial)⟩
 rintro _ ⟨g31,q10⟩
 refine D8<|A8 q10<|B5<|sv Z<|sv Z<|A1<|D9 ?_
 cases hz12
 exact ⟨Z,(g31.1,g31.2),(B8 (K6 Z)<|A2 G_hit (.of Z)<|sg Z<|B3 (U9 g31.1.property 2 Z G_hit) trivial)⟩
 refine C4 Z ?_
 cases hz12
 obtain rfl:=ez12 _ rfl
 refine ⟨nofun,C3 Z<|V2 ?_⟩
 exact ⟨(g30.1,g30.2),(B8 trivial<|sg Z<|A2 G_hit (.of Z)<|B3 (U9 g30.1.property 2 Z G_hit) trivial)⟩
 rintro _ ⟨g29,q11⟩
 refine D9 ?_
 obtain rfl:=(lC hy17)
 exact Y2 q11 (.inl Z) (g29.1,g29.2) (K6 Z) (sg Z<|A2 G_hit (.of Z)<|B3 (U9 g29.1.property 2 Z G_hit) trivial)
 intro g28
 intro u66 hu66
 refine A1<|D8<|B5<|sv Z<|sv Z<|A1<|D9 ?_
 cases hz11
 exact ⟨Z,(g28.1,g28.2),(B8 (K6 Z)<|A2 G_hit (.of Z)<|sg Z<|B3 (U9 g28.1.property 2 Z G_hit) trivial)⟩
 refine C4 Z ?_
 cases hz11
 obtain rfl:=ez11 _ rfl
 refine ⟨nofun,C3 Z<|V2 ?_⟩
 exact ⟨(g27.1,g27.2),(B8 trivial<|sg Z<|A2 G_hit (.of Z)<|B3 (U9 g27.1.property 2 Z G_hit) trivial)⟩
 rintro _ ⟨g26,q12⟩
 refine D9 ?_
 obtain rfl:=(lC hy12)
 exact Y2 q12 (.inl Z) (g26.1,g26.2) (K6 Z) (A2 G_hit (.of Z)<|sg Z<|B3 (U9 g26.1.property 2 Z G_hit) trivial)
 intro g20
 intro u68 hu68
 refine A1<|D8<|B5<|sv Z<|sv Z<|A1<|D9 ?_
 cases hz3
 exact ⟨Z,(g20.1,g20.2),(B8 (K6 Z)<|A2 G_hit (.of Z)<|sg Z<|B3 (U9 g20.1.property 2 Z G_hit) trivial)⟩
 refine C4 Z ?_
 cases hz3
 obtain rfl:=ez3 _ rfl
 refine ⟨nofun,C3 Z<|V2 ?_⟩
 exact ⟨(g7.1,g7.2),(B8 (K6 Z)<|A2 G_hit (.of Z)<|sg Z<|B3 (U9 g7.1.property 2 Z G_hit) trivial)⟩
 rintro _ ⟨g6,q13⟩
 refine A8 q13<|C0<|sq Z<|sp Z Z<|sl Z G_hit Z<|sd Z (D2 Z)<|B6 (dl A3 [(p1.Zones.length:Int)]) Z Z (bs h fun y20 hy20 h=>Ee (fk func117 ntmps117 (fun r=>if r==6 then [1011]else []) (by with_unfolding_all rfl)) (fun (g33:({d:Nat // d∈ [25,29]}×Nat))=> [(1,(.ptr (1,u1) 0)),(5,(.ptr (28,u5) 0))]) (fun (g33:({d:Nat // d∈ [25,29]}×Nat))=> [((1,u1),some<|.box 27 (F1 p1)),((28,u5),some<|.box 145 [(oS y20.b (g33.1.val,g33.2))]),((g33.1.val,g33.2),oB 5 1 B7 y20.b)]) Z (nl Z) ?_ ?_)
 unfold Jb at hy20
 refine A8 (s0:=⟨T [(0,(.ptr (28,u5) 0)),(1,(dl A3 [(p1.Zones.length:Int)]))],G [((28,u5),some<|.box 145 [(oS y4.b (g6.1.val,g6.2))]),((g6.1.val,g6.2),oB 5 1 B7 y4.b),((1,u1),some<|.box 27 (F1 p1))]⟩) (B8 (K6 Z)<|sg Z<|B3 (U9 g6.1.property 2 Z G_hit)<|A2 G_hit (.of Z) trivial) ?_
 refine C0<|B6 (dl A3 [(p1.Zones.length:Int)]) Z Z (sd Z (D2 Z)<|sv Z<|A1<|bs hy20 fun y21 hy21 hy20=>D3 (fun s=> ∃g34:({d:Nat // d∈ [25,29]}×Nat),Sb ⟨T [],G [((1,u1),some<|.box 27 (F1 p1)),((28,u5),some<|.box 145 [(oS y21.b (g34.1.val,g34.2))]),((g34.1.val,g34.2),oB 5 1 B7 y21.b)]⟩ s) ?_ ?_)
 refine A5<|D6 (Ja p1) (fun (x14:(Int×RoadsWriter)) (g35:({d:Nat // d∈ [25,29]}×Nat))=>⟨T [(0,(.ptr (28,u5) 0)),(7,(dl A3 [(p1.Zones.length:Int)])),(8,(di ([(p1.Zones.length:Int)].length:Int))),(9,(di x14.1))],G [((28,u5),some<|.box 145 [(oS x14.2.b (g35.1.val,g35.2))]),((1,u1),some<|.box 27 (F1 p1)),((g35.1.val,g35.2),oB 5 1 B7 x14.2.b)]⟩) (0,y4) (g6.1,g6.2) _ hy21 (B8 (K6 Z)<|A2 G_hit (.of Z)<|A2 (A7 Z<|A7 (Gz g6.1.property Z) G_hit) (.of Z) (B3 (A7 (Gl g6.1.property Z) G_hit) trivial)) ?_
 intro x14 g35 z14 hz14 ez14
 unfold Ja at hz14
 refine C0<|sv Z<|A1<|A4<|cc Z hz14 (fun c15 hz14=> ?_)<|fun c15 hz14=> ?_
 refine B4<|A4<|A5<|C0<|bs hz14 fun v20 hv20 hz14=>sd Z (E7 Z Z hv20 Z)<|sd Z (G7 Z hv20 Z)<|sv Z<|A1<|C0<|sv Z<|A1<|bs hz14 fun y22 hy22 hz14=>D3 (fun s=> ∃g36:({d:Nat // d∈ [25,29]}×Nat),Sb ⟨T [(0,(.ptr (28,u5) 0)),(7,(dl A3 [(p1.Zones.length:Int)])),(8,(di ([(p1.Zones.length:Int)].length:Int))),(9,(di x14.1))],G [((28,u5),some<|.box 145 [(oS y22.b (g36.1.val,g36.2))]),((1,u1),some<|.box 27 (F1 p1)),((g36.1.val,g36.2),oB 5 1 B7 y22.b)]⟩ s) ?_ ?_
 refine A5<|D6 (Iz v20) (fun (x15:(Int×RoadsWriter)) (g37:({d:Nat // d∈ [25,29]}×Nat))=>⟨T [(0,(.ptr (28,u5) 0)),(5,(di v20)),(6,(di x15.1)),(7,(dl A3 [(p1.Zones.length:Int)])),(8,(di ([(p1.Zones.length:Int)].length:Int))),(9,(di x14.1))],G [((28,u5),some<|.box 145 [(oS x15.2.b (g37.1.val,g37.2))]),((1,u1),some<|.box 27 (F1 p1)),((g37.1.val,g37.2),oB 5 1 B7 x15.2.b)]⟩) (56,x14.2) (g35.1,g35.2) _ hy22 (B8 (K6 Z)<|A2 G_hit (.of Z)<|sg Z<|B3 (U9 g35.1.property 2 Z G_hit) trivial) ?_
 intro x15 g37 z15 hz15 ez15
 unfold Iz at hz15
 refine A4<|C0<|sv Z<|sv Z<|A1<|cc Z hz15 (fun c16 hz15=> ?_)<|fun c16 hz15=> ?_
 refine B4<|A4<|A5<|T8 fun u76 _=>sq Z<|sq Z<|sp Z Z<|sq Z<|B6 (oS x15.2.b (g37.1.val,g37.2)) Z (Ag Z G_hit Z) (sv Z<|sv Z<|sv Z<|sv Z<|bs hz15 fun v21 hv21 hz15=>sd Z (Jo Z Z hv21)<|sv Z<|B6 (dl B7 [(IntKind.wrap .u8 v21)]) Z Z (bs hz15 fun _ hv22 hz15=>J3 B7 (g37.1.val,g37.2) x15.2.b (IntKind.wrap .u8 v21) [] _ (I0<|fun _=>Z) Z (A7 (Gl g37.1.property Z)<|A7 (Gl g37.1.property Z) G_hit) hv22 (sq Z<|sp Z Z<|W8 _ _ _ _ _ Z Z Z (A7 Z<|A7 (Gz g37.1.property Z) G_hit) (nl Z) [(.sl (29,u76))] Z (A1<|D8<|B5<|sv Z<|sv Z<|sv Z<|A1<|D9 ?_))))
 cases hz15
 exact ⟨Z,(⟨29, .tail _ (.head _)⟩,u76),(B8 (K6 Z)<|A2 G_hit (.box (.cons (.of (Q3<|N5 hv22).symm) .nil))<|A2 (Zj 2 Z<|A7 (Gz g37.1.property Z)<|gq Z) (.of Z) (I7 (gq Z) trivial))⟩
 refine C4 Z ?_
 cases hz15
 obtain rfl:=ez15 _ rfl
 refine ⟨nofun,C3 Z<|V2 ?_⟩
 exact ⟨(g37.1,g37.2),(B8 (K6 Z)<|A2 G_hit (.of Z)<|sg Z<|B3 (U9 g37.1.property 2 Z G_hit) trivial)⟩
 rintro _ ⟨g36,q14⟩
 refine D8<|A8 q14<|B5<|sv Z<|sv Z<|A1<|D9 ?_
 cases hz14
 exact ⟨Z,(g36.1,g36.2),(B8 (K6 Z)<|A2 G_hit (.of Z)<|sg Z<|B3 (U9 g36.1.property 2 Z G_hit) trivial)⟩
 refine C4 Z ?_
 cases hz14
 obtain rfl:=ez14 _ rfl
 refine ⟨nofun,C3 Z<|V2 ?_⟩
 exact ⟨(g35.1,g35.2),(B8 trivial<|sg Z<|A2 G_hit (.of Z)<|B3 (U9 g35.1.property 2 Z G_hit) trivial)⟩
 rintro _ ⟨g34,q15⟩
 refine D9 ?_
 obtain rfl:=(lC hy20)
 exact Y2 q15 (.inl Z) (g34.1,g34.2) (K6 Z) (A2 G_hit (.of Z)<|sg Z<|B3 (U9 g34.1.property 2 Z G_hit) trivial)
 intro g33
 intro u79 hu79
 refine A1<|A4<|C0<|sq Z<|sl Z G_hit Z<|sd Z (D2 Z)<|sv Z<|A1<|bs h fun y23 hy23 h=>D3 (fun s=> ∃g38:({d:Nat // d∈ [25,29]}×Nat),Sb ⟨T [(1,(.ptr (1,u1) 0)),(5,(.ptr (28,u5) 0))],G [((1,u1),some<|.box 27 (F1 p1)),((28,u5),some<|.box 145 [(oS y23.b (g38.1.val,g38.2))]),((g38.1.val,g38.2),oB 5 1 B7 y23.b)]⟩ s) ?_ ?_
 refine A5<|D6 (Z8 p1) (fun (x16:(Int×RoadsWriter)) (g39:({d:Nat // d∈ [25,29]}×Nat))=>⟨T [(1,(.ptr (1,u1) 0)),(5,(.ptr (28,u5) 0)),(85,(dl K4 p1.Zones)),(86,(di (p1.Zones.length:Int))),(87,(di x16.1))],G [((1,u1),some<|.box 27 (F1 p1)),((28,u5),some<|.box 145 [(oS x16.2.b (g39.1.val,g39.2))]),((g39.1.val,g39.2),oB 5 1 B7 x16.2.b)]⟩) (0,y20) (g33.1,g33.2) _ hy23 (B8 (K6 Z)<|A2 G_hit (.of Z)<|sg Z<|B3 (U9 g33.1.property 2 Z G_hit) trivial) ?_
 intro x16 g39 z16 hz16 ez16
 unfold Z8 at hz16
 refine C0<|sv Z<|A1<|A4<|cc Z hz16 (fun c17 hz16=> ?_)<|fun c17 hz16=> ?_
 refine B4<|A4<|A5<|lr<|fun u82 _=>bs hz16 fun v23 hv23 hz16=>sd Z (E7 Z Z hv23 Z)<|sd Z (E4 Z hv23 Z Z)<|sm Z<|X7 Z G_hit [(dl H5 v23.Parts),(di v23.Signal_)] Z (A1<|C0<|sq Z<|sp Z Z<|sl Z G_hit Z<|sq Z<|sl Z G_hit Z<|sd Z (D2 Z)<|B6 (dl A3 [v23.Signal_,(v23.Parts.length:Int)]) Z Z (bs hz16 fun y24 hy24 hz16=>Ee (fk func117 ntmps117 (fun r=>if r==6 then [1011]else []) (by with_unfolding_all rfl)) (fun (g40:({d:Nat // d∈ [25,29]}×Nat))=> [(1,(.ptr (1,u1) 0)),(5,(.ptr (28,u5) 0)),(11,(.ptr (11,u82) 0)),(85,(dl K4 p1.Zones)),(86,(di (p1.Zones.length:Int))),(87,(di x16.1))]) (fun (g40:({d:Nat // d∈ [25,29]}×Nat))=> [((1,u1),some<|.box 27 (F1 p1)),((28,u5),some<|.box 145 [(oS y24.b (g40.1.val,g40.2))]),((11,u82),some<|.box 45 [(dl H5 v23.Parts),(di v23.Signal_)]),((g40.1.val,g40.2),oB 5 1 B7 y24.b)]) Z (nl Z) ?_ ?_))
 unfold Iy at hy24
 refine A8 (s0:=⟨T [(0,(.ptr (28,u5) 0)),(1,(dl A3 [v23.Signal_,(v23.Parts.length:Int)]))],G [((28,u5),some<|.box 145 [(oS x16.2.b (g39.1.val,g39.2))]),((g39.1.val,g39.2),oB 5 1 B7 x16.2.b),((1,u1),some<|.box 27 (F1 p1)),((11,u82),some<|.box 45 [(dl H5 v23.Parts),(di v23.Signal_)])]⟩) (B8 (K6 Z)<|sg Z<|B3 (U9 g39.1.property 4 Z G_hit)<|sg Z<|A2 G_hit (.of Z) trivial) ?_
 refine C0<|B6 (dl A3 [v23.Signal_,(v23.Parts.length:Int)]) Z Z (sd Z (D2 Z)<|sv Z<|A1<|bs hy24 fun y25 hy25 hy24=>D3 (fun s=> ∃g41:({d:Nat // d∈ [25,29]}×Nat),Sb ⟨T [],G [((1,u1),some<|.box 27 (F1 p1)),((28,u5),some<|.box 145 [(oS y25.b (g41.1.val,g41.2))]),((11,u82),some<|.box 45 [(dl H5 v23.Parts),(di v23.Signal_)]),((g41.1.val,g41.2),oB 5 1 B7 y25.b)]⟩ s) ?_ ?_)
 refine A5<|D6 (Ix v23) (fun (x17:(Int×RoadsWriter)) (g42:({d:Nat // d∈ [25,29]}×Nat))=>⟨T [(0,(.ptr (28,u5) 0)),(7,(dl A3 [v23.Signal_,(v23.Parts.length:Int)])),(8,(di ([v23.Signal_,(v23.Parts.length:Int)].length:Int))),(9,(di x17.1))],G [((28,u5),some<|.box 145 [(oS x17.2.b (g42.1.val,g42.2))]),((1,u1),some<|.box 27 (F1 p1)),((11,u82),some<|.box 45 [(dl H5 v23.Parts),(di v23.Signal_)]),((g42.1.val,g42.2),oB 5 1 B7 x17.2.b)]⟩) (0,x16.2) (g39.1,g39.2) _ hy25 (B8 (K6 Z)<|A2 G_hit (.of Z)<|A2 (A7 Z<|A7 (Gz g39.1.property Z) G_hit) (.of Z) (A2 (A7 Z<|A7 (Gz g39.1.property Z)<|gq Z) (.of Z) (B3 (A7 (Gl g39.1.property Z) G_hit) trivial))) ?_
 intro x17 g42 z17 hz17 ez17
 unfold Ix at hz17
 refine C0<|sv Z<|A1<|A4<|cc Z hz17 (fun c18 hz17=> ?_)<|fun c18 hz17=> ?_
 refine B4<|A4<|A5<|C0<|bs hz17 fun v24 hv24 hz17=>sd Z (E7 Z Z hv24 Z)<|sd Z (G7 Z hv24 Z)<|sv Z<|A1<|C0<|sv Z<|A1<|bs hz17 fun y26 hy26 hz17=>D3 (fun s=> ∃g43:({d:Nat // d∈ [25,29]}×Nat),Sb ⟨T [(0,(.ptr (28,u5) 0)),(7,(dl A3 [v23.Signal_,(v23.Parts.length:Int)])),(8,(di ([v23.Signal_,(v23.Parts.length:Int)].length:Int))),(9,(di x17.1))],G [((28,u5),some<|.box 145 [(oS y26.b (g43.1.val,g43.2))]),((1,u1),some<|.box 27 (F1 p1)),((11,u82),some<|.box 45 [(dl H5 v23.Parts),(di v23.Signal_)]),((g43.1.val,g43.2),oB 5 1 B7 y26.b)]⟩ s) ?_ ?_
 refine A5<|D6 (Iw v24) (fun (x18:(Int×RoadsWriter)) (g44:({d:Nat // d∈ [25,29]}×Nat))=>⟨T [(0,(.ptr (28,u5) 0)),(5,(di v24)),(6,(di x18.1)),(7,(dl A3 [v23.Signal_,(v23.Parts.length:Int)])),(8,(di ([v23.Signal_,(v23.Parts.length:Int)].length:Int))),(9,(di x17.1))],G [((28,u5),some<|.box 145 [(oS x18.2.b (g44.1.val,g44.2))]),((1,u1),some<|.box 27 (F1 p1)),((11,u82),some<|.box 45 [(dl H5 v23.Parts),(di v23.Signal_)]),((g44.1.val,g44.2),oB 5 1 B7 x18.2.b)]⟩) (56,x17.2) (g42.1,g42.2) _ hy26 (B8 (K6 Z)<|A2 G_hit (.of Z)<|sg Z<|sg Z<|B3 (U9 g42.1.property 3 Z G_hit) trivial) ?_
 intro x18 g44 z18 hz18 ez18
 unfold Iw at hz18
 refine A4<|C0<|sv Z<|sv Z<|A1<|cc Z hz18 (fun c19 hz18=> ?_)<|fun c19 hz18=> ?_
 refine B4<|A4<|A5<|T8 fun u89 _=>sq Z<|sq Z<|sp Z Z<|sq Z<|B6 (oS x18.2.b (g44.1.val,g44.2)) Z (Ag Z G_hit Z) (sv Z<|sv Z<|sv Z<|sv Z<|bs hz18 fun v25 hv25 hz18=>sd Z (Jo Z Z hv25)<|sv Z<|B6 (dl B7 [(IntKind.wrap .u8 v25)]) Z Z (bs hz18 fun _ hv26 hz18=>J3 B7 (g44.1.val,g44.2) x18.2.b (IntKind.wrap .u8 v25) [] _ (I0<|fun _=>Z) Z (A7 (Gl g44.1.property Z)<|A7 (Gl g44.1.property Z)<|A7 (Gl g44.1.property Z) G_hit) hv26 (sq Z<|sp Z Z<|W8 _ _ _ _ _ Z Z Z (A7 Z<|A7 (Gz g44.1.property Z) G_hit) (nl Z) [(.sl (29,u89))] Z (A1<|D8<|B5<|sv Z<|sv Z<|sv Z<|A1<|D9 ?_))))
 cases hz18
 exact ⟨Z,(⟨29, .tail _ (.head _)⟩,u89),(B8 (K6 Z)<|A2 G_hit (.box (.cons (.of (Q3<|N5 hv26).symm) .nil))<|A2 (Zj 2 Z<|A7 (Gz g44.1.property Z)<|gq Z) (.of Z) (A2 (Zj 2 Z<|A7 (Gz g44.1.property Z)<|gq Z) (.of Z) (I7 (gq Z) trivial)))⟩
 refine C4 Z ?_
 cases hz18
 obtain rfl:=ez18 _ rfl
 refine ⟨nofun,C3 Z<|V2 ?_⟩
 exact ⟨(g44.1,g44.2),(B8 (K6 Z)<|A2 G_hit (.of Z)<|sg Z<|sg Z<|B3 (U9 g44.1.property 3 Z G_hit) trivial)⟩
 rintro _ ⟨g43,q16⟩
 refine D8<|A8 q16<|B5<|sv Z<|sv Z<|A1<|D9 ?_
 cases hz17
 exact ⟨Z,(g43.1,g43.2),(B8 (K6 Z)<|A2 G_hit (.of Z)<|sg Z<|sg Z<|B3 (U9 g43.1.property 3 Z G_hit) trivial)⟩
 refine C4 Z ?_
 cases hz17
 obtain rfl:=ez17 _ rfl
 refine ⟨nofun,C3 Z<|V2 ?_⟩
 exact ⟨(g42.1,g42.2),(B8 trivial<|sg Z<|A2 G_hit (.of Z)<|sg Z<|B3 (U9 g42.1.property 3 Z G_hit) trivial)⟩
 rintro _ ⟨g41,q17⟩
 refine D9 ?_
 obtain rfl:=(lC hy24)
 exact Y2 q17 (.inl Z) (g41.1,g41.2) (K6 Z) (A2 G_hit (.of Z)<|sg Z<|sg Z<|B3 (U9 g41.1.property 3 Z G_hit) trivial)
 intro g40
 intro u92 hu92
 refine A1<|C0<|sq Z<|sl Z (gq Z) Z (sd Z (D2 Z)<|sv Z<|A1<|bs hz16 fun y27 hy27 hz16=>D3 (fun s=> ∃g45:({d:Nat // d∈ [25,29]}×Nat),Sb ⟨T [(1,(.ptr (1,u1) 0)),(5,(.ptr (28,u5) 0)),(85,(dl K4 p1.Zones)),(86,(di (p1.Zones.length:Int))),(87,(di x16.1))],G [((1,u1),some<|.box 27 (F1 p1)),((28,u5),some<|.box 145 [(oS y27.b (g45.1.val,g45.2))]),((g45.1.val,g45.2),oB 5 1 B7 y27.b)]⟩ s) ?_ ?_)
 refine A5<|D6 (Z7 v23) (fun (x19:(Int×RoadsWriter)) (g46:({d:Nat // d∈ [25,29]}×Nat))=>⟨T [(1,(.ptr (1,u1) 0)),(5,(.ptr (28,u5) 0)),(85,(dl K4 p1.Zones)),(86,(di (p1.Zones.length:Int))),(87,(di x16.1)),(100,(dl H5 v23.Parts)),(101,(di (v23.Parts.length:Int))),(102,(di x19.1))],G [((1,u1),some<|.box 27 (F1 p1)),((28,u5),some<|.box 145 [(oS x19.2.b (g46.1.val,g46.2))]),((g46.1.val,g46.2),oB 5 1 B7 x19.2.b)]⟩) (0,y24) (g40.1,g40.2) _ hy27 (B8 (K6 Z)<|A2 G_hit (.of Z)<|sg Z<|B3 (U9 g40.1.property 3 Z G_hit) trivial) ?_
 intro x19 g46 z19 hz19 ez19
 unfold Z7 at hz19
 refine C0<|sv Z<|A1<|A4<|cc Z hz19 (fun c20 hz19=> ?_)<|fun c20 hz19=> ?_
 refine B4<|A4<|A5<|C0<|bs hz19 fun v27 hv27 hz19=>sd Z (E7 Z Z hv27 Z)<|sd Z (E4 Z hv27 Z Z)<|sm Z<|X7 Z G_hit (Pb v27) Z (A1<|B5<|sq Z<|sq Z<|sl Z G_hit Z<|sq Z<|sl Z G_hit Z<|sq Z<|sl Z G_hit Z<|sq Z<|sl Z G_hit Z<|B6 (dl A3 [v27.Lane_,v27.From,v27.To,v27.Rank]) Z Z (bs hz19 fun y28 hy28 hz19=>Ee (fk func117 ntmps117 (fun r=>if r==6 then [1011]else []) (by with_unfolding_all rfl)) (fun (g47:({d:Nat // d∈ [25,29]}×Nat))=> [(1,(.ptr (1,u1) 0)),(5,(.ptr (28,u5) 0)),(85,(dl K4 p1.Zones)),(86,(di (p1.Zones.length:Int))),(87,(di x16.1)),(100,(dl H5 v23.Parts)),(101,(di (v23.Parts.length:Int))),(102,(di x19.1))]) (fun (g47:({d:Nat // d∈ [25,29]}×Nat))=> [((1,u1),some<|.box 27 (F1 p1)),((28,u5),some<|.box 145 [(oS y28.b (g47.1.val,g47.2))]),((g47.1.val,g47.2),oB 5 1 B7 y28.b)]) Z (nl Z) ?_ ?_))
 unfold Iv at hy28
 refine A8 (s0:=⟨T [(0,(.ptr (28,u5) 0)),(1,(dl A3 [v27.Lane_,v27.From,v27.To,v27.Rank]))],G [((28,u5),some<|.box 145 [(oS x19.2.b (g46.1.val,g46.2))]),((g46.1.val,g46.2),oB 5 1 B7 x19.2.b),((1,u1),some<|.box 27 (F1 p1))]⟩) (B8 (K6 Z)<|sg Z<|B3 (U9 g46.1.property 4 Z G_hit)<|sg Z trivial) ?_
 refine C0<|B6 (dl A3 [v27.Lane_,v27.From,v27.To,v27.Rank]) Z Z (sd Z (D2 Z)<|sv Z<|A1<|bs hy28 fun y29 hy29 hy28=>D3 (fun s=> ∃g48:({d:Nat // d∈ [25,29]}×Nat),Sb ⟨T [],G [((1,u1),some<|.box 27 (F1 p1)),((28,u5),some<|.box 145 [(oS y29.b (g48.1.val,g48.2))]),((g48.1.val,g48.2),oB 5 1 B7 y29.b)]⟩ s) ?_ ?_)
 refine A5<|D6 (Iu v27) (fun (x20:(Int×RoadsWriter)) (g49:({d:Nat // d∈ [25,29]}×Nat))=>⟨T [(0,(.ptr (28,u5) 0)),(7,(dl A3 [v27.Lane_,v27.From,v27.To,v27.Rank])),(8,(di ([v27.Lane_,v27.From,v27.To,v27.Rank].length:Int))),(9,(di x20.1))],G [((28,u5),some<|.box 145 [(oS x20.2.b (g49.1.val,g49.2))]),((1,u1),some<|.box 27 (F1 p1)),((g49.1.val,g49.2),oB 5 1 B7 x20.2.b)]⟩) (0,x19.2) (g46.1,g46.2) _ hy29 (B8 (K6 Z)<|A2 G_hit (.of Z)<|A2 (A7 Z<|A7 (Gz g46.1.property Z) G_hit) (.of Z) (B3 (A7 (Gl g46.1.property Z) G_hit) trivial)) ?_
 intro x20 g49 z20 hz20 ez20
 unfold Iu at hz20
 refine C0<|sv Z<|A1<|A4<|cc Z hz20 (fun c21 hz20=> ?_)<|fun c21 hz20=> ?_
 refine B4<|A4<|A5<|C0<|bs hz20 fun v28 hv28 hz20=>sd Z (E7 Z Z hv28 Z)<|sd Z (G7 Z hv28 Z)<|sv Z<|A1<|C0<|sv Z<|A1<|bs hz20 fun y30 hy30 hz20=>D3 (fun s=> ∃g50:({d:Nat // d∈ [25,29]}×Nat),Sb ⟨T [(0,(.ptr (28,u5) 0)),(7,(dl A3 [v27.Lane_,v27.From,v27.To,v27.Rank])),(8,(di ([v27.Lane_,v27.From,v27.To,v27.Rank].length:Int))),(9,(di x20.1))],G [((28,u5),some<|.box 145 [(oS y30.b (g50.1.val,g50.2))]),((1,u1),some<|.box 27 (F1 p1)),((g50.1.val,g50.2),oB 5 1 B7 y30.b)]⟩ s) ?_ ?_
 refine A5<|D6 (Is v28) (fun (x21:(Int×RoadsWriter)) (g51:({d:Nat // d∈ [25,29]}×Nat))=>⟨T [(0,(.ptr (28,u5) 0)),(5,(di v28)),(6,(di x21.1)),(7,(dl A3 [v27.Lane_,v27.From,v27.To,v27.Rank])),(8,(di ([v27.Lane_,v27.From,v27.To,v27.Rank].length:Int))),(9,(di x20.1))],G [((28,u5),some<|.box 145 [(oS x21.2.b (g51.1.val,g51.2))]),((1,u1),some<|.box 27 (F1 p1)),((g51.1.val,g51.2),oB 5 1 B7 x21.2.b)]⟩) (56,x20.2) (g49.1,g49.2) _ hy30 (B8 (K6 Z)<|A2 G_hit (.of Z)<|sg Z<|B3 (U9 g49.1.property 2 Z G_hit) trivial) ?_
 intro x21 g51 z21 hz21 ez21
 unfold Is at hz21
 refine A4<|C0<|sv Z<|sv Z<|A1<|cc Z hz21 (fun c22 hz21=> ?_)<|fun c22 hz21=> ?_
 refine B4<|A4<|A5<|T8 fun u102 _=>sq Z<|sq Z<|sp Z Z<|sq Z<|B6 (oS x21.2.b (g51.1.val,g51.2)) Z (Ag Z G_hit Z) (sv Z<|sv Z<|sv Z<|sv Z<|bs hz21 fun v29 hv29 hz21=>sd Z (Jo Z Z hv29)<|sv Z<|B6 (dl B7 [(IntKind.wrap .u8 v29)]) Z Z (bs hz21 fun _ hv30 hz21=>J3 B7 (g51.1.val,g51.2) x21.2.b (IntKind.wrap .u8 v29) [] _ (I0<|fun _=>Z) Z (A7 (Gl g51.1.property Z)<|A7 (Gl g51.1.property Z) G_hit) hv30 (sq Z<|sp Z Z<|W8 _ _ _ _ _ Z Z Z (A7 Z<|A7 (Gz g51.1.property Z) G_hit) (nl Z) [(.sl (29,u102))] Z (A1<|D8<|B5<|sv Z<|sv Z<|sv Z<|A1<|D9 ?_))))
 cases hz21
 exact ⟨Z,(⟨29, .tail _ (.head _)⟩,u102),(B8 (K6 Z)<|A2 G_hit (.box (.cons (.of (Q3<|N5 hv30).symm) .nil))<|A2 (Zj 2 Z<|A7 (Gz g51.1.property Z)<|gq Z) (.of Z) (I7 (gq Z) trivial))⟩
 refine C4 Z ?_
 cases hz21
 obtain rfl:=ez21 _ rfl
 refine ⟨nofun,C3 Z<|V2 ?_⟩
 exact ⟨(g51.1,g51.2),(B8 (K6 Z)<|A2 G_hit (.of Z)<|sg Z<|B3 (U9 g51.1.property 2 Z G_hit) trivial)⟩
 rintro _ ⟨g50,q18⟩
 refine D8<|A8 q18<|B5<|sv Z<|sv Z<|A1<|D9 ?_
 cases hz20
 exact ⟨Z,(g50.1,g50.2),(B8 (K6 Z)<|A2 G_hit (.of Z)<|sg Z<|B3 (U9 g50.1.property 2 Z G_hit) trivial)⟩
 refine C4 Z ?_
 cases hz20
 obtain rfl:=ez20 _ rfl
 refine ⟨nofun,C3 Z<|V2 ?_⟩
 exact ⟨(g49.1,g49.2),(B8 trivial<|sg Z<|A2 G_hit (.of Z)<|B3 (U9 g49.1.property 2 Z G_hit) trivial)⟩
 rintro _ ⟨g48,q19⟩
 refine D9 ?_
 obtain rfl:=(lC hy28)
 exact Y2 q19 (.inl Z) (g48.1,g48.2) (K6 Z) (A2 G_hit (.of Z)<|sg Z<|B3 (U9 g48.1.property 2 Z G_hit) trivial)
 intro g47
 intro u105 hu105
 refine A1<|D8<|B5<|sv Z<|sv Z<|A1<|D9 ?_
 cases hz19
 exact ⟨Z,(g47.1,g47.2),(B8 (K6 Z)<|A2 G_hit (.of Z)<|sg Z<|B3 (U9 g47.1.property 2 Z G_hit) trivial)⟩
 refine C4 Z ?_
 cases hz19
 obtain rfl:=ez19 _ rfl
 refine ⟨nofun,C3 Z<|V2 ?_⟩
 exact ⟨(g46.1,g46.2),(B8 (K6 Z)<|A2 G_hit (.of Z)<|sg Z<|B3 (U9 g46.1.property 2 Z G_hit) trivial)⟩
 rintro _ ⟨g45,q20⟩
 refine D8<|A8 q20<|B5<|sv Z<|sv Z<|A1<|D9 ?_
 cases hz16
 exact ⟨Z,(g45.1,g45.2),(B8 (K6 Z)<|A2 G_hit (.of Z)<|sg Z<|B3 (U9 g45.1.property 2 Z G_hit) trivial)⟩
 refine C4 Z ?_
 cases hz16
 obtain rfl:=ez16 _ rfl
 refine ⟨nofun,C3 Z<|V2 ?_⟩
 exact ⟨(g39.1,g39.2),(B8 (K6 Z)<|A2 G_hit (.of Z)<|sg Z<|B3 (U9 g39.1.property 2 Z G_hit) trivial)⟩
 rintro _ ⟨g38,q21⟩
 refine A8 q21<|C0<|sq Z<|sp Z Z<|sl Z G_hit Z<|sd Z (D2 Z)<|B6 (dl A3 [(p1.Signals.length:Int)]) Z Z (bs h fun y31 hy31 h=>Ee (fk func117 ntmps117 (fun r=>if r==6 then [1011]else []) (by with_unfolding_all rfl)) (fun (g52:({d:Nat // d∈ [25,29]}×Nat))=> [(1,(.ptr (1,u1) 0)),(5,(.ptr (28,u5) 0))]) (fun (g52:({d:Nat // d∈ [25,29]}×Nat))=> [((1,u1),some<|.box 27 (F1 p1)),((28,u5),some<|.box 145 [(oS y31.b (g52.1.val,g52.2))]),((g52.1.val,g52.2),oB 5 1 B7 y31.b)]) Z (nl Z) ?_ ?_)
 unfold Ir at hy31
 refine A8 (s0:=⟨T [(0,(.ptr (28,u5) 0)),(1,(dl A3 [(p1.Signals.length:Int)]))],G [((28,u5),some<|.box 145 [(oS y23.b (g38.1.val,g38.2))]),((g38.1.val,g38.2),oB 5 1 B7 y23.b),((1,u1),some<|.box 27 (F1 p1))]⟩) (B8 (K6 Z)<|sg Z<|B3 (U9 g38.1.property 2 Z G_hit)<|A2 G_hit (.of Z) trivial) ?_
 refine C0<|B6 (dl A3 [(p1.Signals.length:Int)]) Z Z (sd Z (D2 Z)<|sv Z<|A1<|bs hy31 fun y32 hy32 hy31=>D3 (fun s=> ∃g53:({d:Nat // d∈ [25,29]}×Nat),Sb ⟨T [],G [((1,u1),some<|.box 27 (F1 p1)),((28,u5),some<|.box 145 [(oS y32.b (g53.1.val,g53.2))]),((g53.1.val,g53.2),oB 5 1 B7 y32.b)]⟩ s) ?_ ?_)
 refine A5<|D6 (Iq p1) (fun (x22:(Int×RoadsWriter)) (g54:({d:Nat // d∈ [25,29]}×Nat))=>⟨T [(0,(.ptr (28,u5) 0)),(7,(dl A3 [(p1.Signals.length:Int)])),(8,(di ([(p1.Signals.length:Int)].length:Int))),(9,(di x22.1))],G [((28,u5),some<|.box 145 [(oS x22.2.b (g54.1.val,g54.2))]),((1,u1),some<|.box 27 (F1 p1)),((g54.1.val,g54.2),oB 5 1 B7 x22.2.b)]⟩) (0,y23) (g38.1,g38.2) _ hy32 (B8 (K6 Z)<|A2 G_hit (.of Z)<|A2 (A7 Z<|A7 (Gz g38.1.property Z) G_hit) (.of Z) (B3 (A7 (Gl g38.1.property Z) G_hit) trivial)) ?_
 intro x22 g54 z22 hz22 ez22
 unfold Iq at hz22
 refine C0<|sv Z<|A1<|A4<|cc Z hz22 (fun c23 hz22=> ?_)<|fun c23 hz22=> ?_
 refine B4<|A4<|A5<|C0<|bs hz22 fun v31 hv31 hz22=>sd Z (E7 Z Z hv31 Z)<|sd Z (G7 Z hv31 Z)<|sv Z<|A1<|C0<|sv Z<|A1<|bs hz22 fun y33 hy33 hz22=>D3 (fun s=> ∃g55:({d:Nat // d∈ [25,29]}×Nat),Sb ⟨T [(0,(.ptr (28,u5) 0)),(7,(dl A3 [(p1.Signals.length:Int)])),(8,(di ([(p1.Signals.length:Int)].length:Int))),(9,(di x22.1))],G [((28,u5),some<|.box 145 [(oS y33.b (g55.1.val,g55.2))]),((1,u1),some<|.box 27 (F1 p1)),((g55.1.val,g55.2),oB 5 1 B7 y33.b)]⟩ s) ?_ ?_
 refine A5<|D6 (Ip v31) (fun (x23:(Int×RoadsWriter)) (g56:({d:Nat // d∈ [25,29]}×Nat))=>⟨T [(0,(.ptr (28,u5) 0)),(5,(di v31)),(6,(di x23.1)),(7,(dl A3 [(p1.Signals.length:Int)])),(8,(di ([(p1.Signals.length:Int)].length:Int))),(9,(di x22.1))],G [((28,u5),some<|.box 145 [(oS x23.2.b (g56.1.val,g56.2))]),((1,u1),some<|.box 27 (F1 p1)),((g56.1.val,g56.2),oB 5 1 B7 x23.2.b)]⟩) (56,x22.2) (g54.1,g54.2) _ hy33 (B8 (K6 Z)<|A2 G_hit (.of Z)<|sg Z<|B3 (U9 g54.1.property 2 Z G_hit) trivial) ?_
 intro x23 g56 z23 hz23 ez23
 unfold Ip at hz23
 refine A4<|C0<|sv Z<|sv Z<|A1<|cc Z hz23 (fun c24 hz23=> ?_)<|fun c24 hz23=> ?_
 refine B4<|A4<|A5<|T8 fun u114 _=>sq Z<|sq Z<|sp Z Z<|sq Z<|B6 (oS x23.2.b (g56.1.val,g56.2)) Z (Ag Z G_hit Z) (sv Z<|sv Z<|sv Z<|sv Z<|bs hz23 fun v32 hv32 hz23=>sd Z (Jo Z Z hv32)<|sv Z<|B6 (dl B7 [(IntKind.wrap .u8 v32)]) Z Z (bs hz23 fun _ hv33 hz23=>J3 B7 (g56.1.val,g56.2) x23.2.b (IntKind.wrap .u8 v32) [] _ (I0<|fun _=>Z) Z (A7 (Gl g56.1.property Z)<|A7 (Gl g56.1.property Z) G_hit) hv33 (sq Z<|sp Z Z<|W8 _ _ _ _ _ Z Z Z (A7 Z<|A7 (Gz g56.1.property Z) G_hit) (nl Z) [(.sl (29,u114))] Z (A1<|D8<|B5<|sv Z<|sv Z<|sv Z<|A1<|D9 ?_))))
 cases hz23
 exact ⟨Z,(⟨29, .tail _ (.head _)⟩,u114),(B8 (K6 Z)<|A2 G_hit (.box (.cons (.of (Q3<|N5 hv33).symm) .nil))<|A2 (Zj 2 Z<|A7 (Gz g56.1.property Z)<|gq Z) (.of Z) (I7 (gq Z) trivial))⟩
 refine C4 Z ?_
 cases hz23
 obtain rfl:=ez23 _ rfl
 refine ⟨nofun,C3 Z<|V2 ?_⟩
 exact ⟨(g56.1,g56.2),(B8 (K6 Z)<|A2 G_hit (.of Z)<|sg Z<|B3 (U9 g56.1.property 2 Z G_hit) trivial)⟩
 rintro _ ⟨g55,q22⟩
 refine D8<|A8 q22<|B5<|sv Z<|sv Z<|A1<|D9 ?_
 cases hz22
 exact ⟨Z,(g55.1,g55.2),(B8 (K6 Z)<|A2 G_hit (.of Z)<|sg Z<|B3 (U9 g55.1.property 2 Z G_hit) trivial)⟩
 refine C4 Z ?_
 cases hz22
 obtain rfl:=ez22 _ rfl
 refine ⟨nofun,C3 Z<|V2 ?_⟩
 exact ⟨(g54.1,g54.2),(B8 trivial<|sg Z<|A2 G_hit (.of Z)<|B3 (U9 g54.1.property 2 Z G_hit) trivial)⟩
 rintro _ ⟨g53,q23⟩
 refine D9 ?_
 obtain rfl:=(lC hy31)
 exact Y2 q23 (.inl Z) (g53.1,g53.2) (K6 Z) (A2 G_hit (.of Z)<|sg Z<|B3 (U9 g53.1.property 2 Z G_hit) trivial)
 intro g52
 intro u117 hu117
 refine A1<|A4<|C0<|sq Z<|sl Z G_hit Z<|sd Z (D2 Z)<|sv Z<|A1<|bs h fun y34 hy34 h=>D3 (fun s=> ∃g57:({d:Nat // d∈ [25,29]}×Nat),Sb ⟨T [(1,(.ptr (1,u1) 0)),(5,(.ptr (28,u5) 0))],G [((1,u1),some<|.box 27 (F1 p1)),((28,u5),some<|.box 145 [(oS y34.b (g57.1.val,g57.2))]),((g57.1.val,g57.2),oB 5 1 B7 y34.b)]⟩ s) ?_ ?_
 refine A5<|D6 (Z6 p1) (fun (x24:(Int×RoadsWriter)) (g58:({d:Nat // d∈ [25,29]}×Nat))=>⟨T [(1,(.ptr (1,u1) 0)),(5,(.ptr (28,u5) 0)),(126,(dl P3 p1.Signals)),(127,(di (p1.Signals.length:Int))),(128,(di x24.1))],G [((1,u1),some<|.box 27 (F1 p1)),((28,u5),some<|.box 145 [(oS x24.2.b (g58.1.val,g58.2))]),((g58.1.val,g58.2),oB 5 1 B7 x24.2.b)]⟩) (0,y31) (g52.1,g52.2) _ hy34 (B8 (K6 Z)<|A2 G_hit (.of Z)<|sg Z<|B3 (U9 g52.1.property 2 Z G_hit) trivial) ?_
 intro x24 g58 z24 hz24 ez24
 unfold Z6 at hz24
 refine C0<|sv Z<|A1<|A4<|cc Z hz24 (fun c25 hz24=> ?_)<|fun c25 hz24=> ?_
 refine B4<|A4<|A5<|lr<|fun u120 _=>bs hz24 fun v34 hv34 hz24=>sd Z (E7 Z Z hv34 Z)<|sd Z (E4 Z hv34 Z Z)<|sm Z<|X7 Z G_hit [(di v34.Offset),(dl L4 v34.Phases)] Z (A1<|C0<|sq Z<|sp Z Z<|sl Z G_hit Z<|sq Z<|sl Z G_hit Z<|sd Z (D2 Z)<|B6 (dl A3 [v34.Offset,(v34.Phases.length:Int)]) Z Z (bs hz24 fun y35 hy35 hz24=>Ee (fk func117 ntmps117 (fun r=>if r==6 then [1011]else []) (by with_unfolding_all rfl)) (fun (g59:({d:Nat // d∈ [25,29]}×Nat))=> [(1,(.ptr (1,u1) 0)),(5,(.ptr (28,u5) 0)),(15,(.ptr (15,u120) 0)),(126,(dl P3 p1.Signals)),(127,(di (p1.Signals.length:Int))),(128,(di x24.1))]) (fun (g59:({d:Nat // d∈ [25,29]}×Nat))=> [((1,u1),some<|.box 27 (F1 p1)),((28,u5),some<|.box 145 [(oS y35.b (g59.1.val,g59.2))]),((15,u120),some<|.box 48 [(di v34.Offset),(dl L4 v34.Phases)]),((g59.1.val,g59.2),oB 5 1 B7 y35.b)]) Z (nl Z) ?_ ?_))
 unfold Io at hy35
 refine A8 (s0:=⟨T [(0,(.ptr (28,u5) 0)),(1,(dl A3 [v34.Offset,(v34.Phases.length:Int)]))],G [((28,u5),some<|.box 145 [(oS x24.2.b (g58.1.val,g58.2))]),((g58.1.val,g58.2),oB 5 1 B7 x24.2.b),((1,u1),some<|.box 27 (F1 p1)),((15,u120),some<|.box 48 [(di v34.Offset),(dl L4 v34.Phases)])]⟩) (B8 (K6 Z)<|sg Z<|B3 (U9 g58.1.property 4 Z G_hit)<|sg Z<|A2 G_hit (.of Z) trivial) ?_
 refine C0<|B6 (dl A3 [v34.Offset,(v34.Phases.length:Int)]) Z Z (sd Z (D2 Z)<|sv Z<|A1<|bs hy35 fun y36 hy36 hy35=>D3 (fun s=> ∃g60:({d:Nat // d∈ [25,29]}×Nat),Sb ⟨T [],G [((1,u1),some<|.box 27 (F1 p1)),((28,u5),some<|.box 145 [(oS y36.b (g60.1.val,g60.2))]),((15,u120),some<|.box 48 [(di v34.Offset),(dl L4 v34.Phases)]),((g60.1.val,g60.2),oB 5 1 B7 y36.b)]⟩ s) ?_ ?_)
 refine A5<|D6 (In v34) (fun (x25:(Int×RoadsWriter)) (g61:({d:Nat // d∈ [25,29]}×Nat))=>⟨T [(0,(.ptr (28,u5) 0)),(7,(dl A3 [v34.Offset,(v34.Phases.length:Int)])),(8,(di ([v34.Offset,(v34.Phases.length:Int)].length:Int))),(9,(di x25.1))],G [((28,u5),some<|.box 145 [(oS x25.2.b (g61.1.val,g61.2))]),((1,u1),some<|.box 27 (F1 p1)),((15,u120),some<|.box 48 [(di v34.Offset),(dl L4 v34.Phases)]),((g61.1.val,g61.2),oB 5 1 B7 x25.2.b)]⟩) (0,x24.2) (g58.1,g58.2) _ hy36 (B8 (K6 Z)<|A2 G_hit (.of Z)<|A2 (A7 Z<|A7 (Gz g58.1.property Z) G_hit) (.of Z) (A2 (A7 Z<|A7 (Gz g58.1.property Z)<|gq Z) (.of Z) (B3 (A7 (Gl g58.1.property Z) G_hit) trivial))) ?_
 intro x25 g61 z25 hz25 ez25
 unfold In at hz25
 refine C0<|sv Z<|A1<|A4<|cc Z hz25 (fun c26 hz25=> ?_)<|fun c26 hz25=> ?_
 refine B4<|A4<|A5<|C0<|bs hz25 fun v35 hv35 hz25=>sd Z (E7 Z Z hv35 Z)<|sd Z (G7 Z hv35 Z)<|sv Z<|A1<|C0<|sv Z<|A1<|bs hz25 fun y37 hy37 hz25=>D3 (fun s=> ∃g62:({d:Nat // d∈ [25,29]}×Nat),Sb ⟨T [(0,(.ptr (28,u5) 0)),(7,(dl A3 [v34.Offset,(v34.Phases.length:Int)])),(8,(di ([v34.Offset,(v34.Phases.length:Int)].length:Int))),(9,(di x25.1))],G [((28,u5),some<|.box 145 [(oS y37.b (g62.1.val,g62.2))]),((1,u1),some<|.box 27 (F1 p1)),((15,u120),some<|.box 48 [(di v34.Offset),(dl L4 v34.Phases)]),((g62.1.val,g62.2),oB 5 1 B7 y37.b)]⟩ s) ?_ ?_
 refine A5<|D6 (Im v35) (fun (x26:(Int×RoadsWriter)) (g63:({d:Nat // d∈ [25,29]}×Nat))=>⟨T [(0,(.ptr (28,u5) 0)),(5,(di v35)),(6,(di x26.1)),(7,(dl A3 [v34.Offset,(v34.Phases.length:Int)])),(8,(di ([v34.Offset,(v34.Phases.length:Int)].length:Int))),(9,(di x25.1))],G [((28,u5),some<|.box 145 [(oS x26.2.b (g63.1.val,g63.2))]),((1,u1),some<|.box 27 (F1 p1)),((15,u120),some<|.box 48 [(di v34.Offset),(dl L4 v34.Phases)]),((g63.1.val,g63.2),oB 5 1 B7 x26.2.b)]⟩) (56,x25.2) (g61.1,g61.2) _ hy37 (B8 (K6 Z)<|A2 G_hit (.of Z)<|sg Z<|sg Z<|B3 (U9 g61.1.property 3 Z G_hit) trivial) ?_
 intro x26 g63 z26 hz26 ez26
 unfold Im at hz26
 refine A4<|C0<|sv Z<|sv Z<|A1<|cc Z hz26 (fun c27 hz26=> ?_)<|fun c27 hz26=> ?_
 refine B4<|A4<|A5<|T8 fun u127 _=>sq Z<|sq Z<|sp Z Z<|sq Z<|B6 (oS x26.2.b (g63.1.val,g63.2)) Z (Ag Z G_hit Z) (sv Z<|sv Z<|sv Z<|sv Z<|bs hz26 fun v36 hv36 hz26=>sd Z (Jo Z Z hv36)<|sv Z<|B6 (dl B7 [(IntKind.wrap .u8 v36)]) Z Z (bs hz26 fun _ hv37 hz26=>J3 B7 (g63.1.val,g63.2) x26.2.b (IntKind.wrap .u8 v36) [] _ (I0<|fun _=>Z) Z (A7 (Gl g63.1.property Z)<|A7 (Gl g63.1.property Z)<|A7 (Gl g63.1.property Z) G_hit) hv37 (sq Z<|sp Z Z<|W8 _ _ _ _ _ Z Z Z (A7 Z<|A7 (Gz g63.1.property Z) G_hit) (nl Z) [(.sl (29,u127))] Z (A1<|D8<|B5<|sv Z<|sv Z<|sv Z<|A1<|D9 ?_))))
 cases hz26
 exact ⟨Z,(⟨29, .tail _ (.head _)⟩,u127),(B8 (K6 Z)<|A2 G_hit (.box (.cons (.of (Q3<|N5 hv37).symm) .nil))<|A2 (Zj 2 Z<|A7 (Gz g63.1.property Z)<|gq Z) (.of Z) (A2 (Zj 2 Z<|A7 (Gz g63.1.property Z)<|gq Z) (.of Z) (I7 (gq Z) trivial)))⟩
 refine C4 Z ?_
 cases hz26
 obtain rfl:=ez26 _ rfl
 refine ⟨nofun,C3 Z<|V2 ?_⟩
 exact ⟨(g63.1,g63.2),(B8 (K6 Z)<|A2 G_hit (.of Z)<|sg Z<|sg Z<|B3 (U9 g63.1.property 3 Z G_hit) trivial)⟩
 rintro _ ⟨g62,q24⟩
 refine D8<|A8 q24<|B5<|sv Z<|sv Z<|A1<|D9 ?_
 cases hz25
 exact ⟨Z,(g62.1,g62.2),(B8 (K6 Z)<|A2 G_hit (.of Z)<|sg Z<|sg Z<|B3 (U9 g62.1.property 3 Z G_hit) trivial)⟩
 refine C4 Z ?_
 cases hz25
 obtain rfl:=ez25 _ rfl
 refine ⟨nofun,C3 Z<|V2 ?_⟩
 exact ⟨(g61.1,g61.2),(B8 trivial<|sg Z<|A2 G_hit (.of Z)<|sg Z<|B3 (U9 g61.1.property 3 Z G_hit) trivial)⟩
 rintro _ ⟨g60,q25⟩
 refine D9 ?_
 obtain rfl:=(lC hy35)
 exact Y2 q25 (.inl Z) (g60.1,g60.2) (K6 Z) (A2 G_hit (.of Z)<|sg Z<|sg Z<|B3 (U9 g60.1.property 3 Z G_hit) trivial)
 intro g59
 intro u130 hu130
 refine A1<|C0<|sq Z<|sl Z (gq Z) Z (sd Z (D2 Z)<|sv Z<|A1<|bs hz24 fun y38 hy38 hz24=>D3 (fun s=> ∃g64:({d:Nat // d∈ [25,29]}×Nat),Sb ⟨T [(1,(.ptr (1,u1) 0)),(5,(.ptr (28,u5) 0)),(126,(dl P3 p1.Signals)),(127,(di (p1.Signals.length:Int))),(128,(di x24.1))],G [((1,u1),some<|.box 27 (F1 p1)),((28,u5),some<|.box 145 [(oS y38.b (g64.1.val,g64.2))]),((g64.1.val,g64.2),oB 5 1 B7 y38.b)]⟩ s) ?_ ?_)
 refine A5<|D6 (Z5 v34) (fun (x27:(Int×RoadsWriter)) (g65:({d:Nat // d∈ [25,29]}×Nat))=>⟨T [(1,(.ptr (1,u1) 0)),(5,(.ptr (28,u5) 0)),(126,(dl P3 p1.Signals)),(127,(di (p1.Signals.length:Int))),(128,(di x24.1)),(141,(dl L4 v34.Phases)),(142,(di (v34.Phases.length:Int))),(143,(di x27.1))],G [((1,u1),some<|.box 27 (F1 p1)),((28,u5),some<|.box 145 [(oS x27.2.b (g65.1.val,g65.2))]),((g65.1.val,g65.2),oB 5 1 B7 x27.2.b)]⟩) (0,y35) (g59.1,g59.2) _ hy38 (B8 (K6 Z)<|A2 G_hit (.of Z)<|sg Z<|B3 (U9 g59.1.property 3 Z G_hit) trivial) ?_
 intro x27 g65 z27 hz27 ez27
 unfold Z5 at hz27
 refine C0<|sv Z<|A1<|A4<|cc Z hz27 (fun c28 hz27=> ?_)<|fun c28 hz27=> ?_
 refine B4<|A4<|A5<|lr<|fun u133 _=>bs hz27 fun v38 hv38 hz27=>sd Z (E7 Z Z hv38 Z)<|sd Z (E4 Z hv38 Z Z)<|sm Z<|X7 Z G_hit [(di v38.Ticks),(dl A3 v38.Green)] Z (A1<|C0<|sq Z<|sp Z Z<|sl Z G_hit Z<|B6 (dl A3 [v38.Ticks]) Z Z (bs hz27 fun y39 hy39 hz27=>Ee (fk func117 ntmps117 (fun r=>if r==6 then [1011]else []) (by with_unfolding_all rfl)) (fun (g66:({d:Nat // d∈ [25,29]}×Nat))=> [(1,(.ptr (1,u1) 0)),(5,(.ptr (28,u5) 0)),(17,(.ptr (17,u133) 0)),(126,(dl P3 p1.Signals)),(127,(di (p1.Signals.length:Int))),(128,(di x24.1)),(141,(dl L4 v34.Phases)),(142,(di (v34.Phases.length:Int))),(143,(di x27.1))]) (fun (g66:({d:Nat // d∈ [25,29]}×Nat))=> [((1,u1),some<|.box 27 (F1 p1)),((28,u5),some<|.box 145 [(oS y39.b (g66.1.val,g66.2))]),((17,u133),some<|.box 97 [(di v38.Ticks),(dl A3 v38.Green)]),((g66.1.val,g66.2),oB 5 1 B7 y39.b)]) Z (nl Z) ?_ ?_))
 unfold Il at hy39
 refine A8 (s0:=⟨T [(0,(.ptr (28,u5) 0)),(1,(dl A3 [v38.Ticks]))],G [((28,u5),some<|.box 145 [(oS x27.2.b (g65.1.val,g65.2))]),((g65.1.val,g65.2),oB 5 1 B7 x27.2.b),((1,u1),some<|.box 27 (F1 p1)),((17,u133),some<|.box 97 [(di v38.Ticks),(dl A3 v38.Green)])]⟩) (B8 (K6 Z)<|sg Z<|B3 (U9 g65.1.property 4 Z G_hit)<|sg Z<|A2 G_hit (.of Z) trivial) ?_
 refine C0<|B6 (dl A3 [v38.Ticks]) Z Z (sd Z (D2 Z)<|sv Z<|A1<|bs hy39 fun y40 hy40 hy39=>D3 (fun s=> ∃g67:({d:Nat // d∈ [25,29]}×Nat),Sb ⟨T [],G [((1,u1),some<|.box 27 (F1 p1)),((28,u5),some<|.box 145 [(oS y40.b (g67.1.val,g67.2))]),((17,u133),some<|.box 97 [(di v38.Ticks),(dl A3 v38.Green)]),((g67.1.val,g67.2),oB 5 1 B7 y40.b)]⟩ s) ?_ ?_)
 refine A5<|D6 (Ik v38) (fun (x28:(Int×RoadsWriter)) (g68:({d:Nat // d∈ [25,29]}×Nat))=>⟨T [(0,(.ptr (28,u5) 0)),(7,(dl A3 [v38.Ticks])),(8,(di ([v38.Ticks].length:Int))),(9,(di x28.1))],G [((28,u5),some<|.box 145 [(oS x28.2.b (g68.1.val,g68.2))]),((1,u1),some<|.box 27 (F1 p1)),((17,u133),some<|.box 97 [(di v38.Ticks),(dl A3 v38.Green)]),((g68.1.val,g68.2),oB 5 1 B7 x28.2.b)]⟩) (0,x27.2) (g65.1,g65.2) _ hy40 (B8 (K6 Z)<|A2 G_hit (.of Z)<|A2 (A7 Z<|A7 (Gz g65.1.property Z) G_hit) (.of Z) (A2 (A7 Z<|A7 (Gz g65.1.property Z)<|gq Z) (.of Z) (B3 (A7 (Gl g65.1.property Z) G_hit) trivial))) ?_
 intro x28 g68 z28 hz28 ez28
 unfold Ik at hz28
 refine C0<|sv Z<|A1<|A4<|cc Z hz28 (fun c29 hz28=> ?_)<|fun c29 hz28=> ?_
 refine B4<|A4<|A5<|C0<|bs hz28 fun v39 hv39 hz28=>sd Z (E7 Z Z hv39 Z)<|sd Z (G7 Z hv39 Z)<|sv Z<|A1<|C0<|sv Z<|A1<|bs hz28 fun y41 hy41 hz28=>D3 (fun s=> ∃g69:({d:Nat // d∈ [25,29]}×Nat),Sb ⟨T [(0,(.ptr (28,u5) 0)),(7,(dl A3 [v38.Ticks])),(8,(di ([v38.Ticks].length:Int))),(9,(di x28.1))],G [((28,u5),some<|.box 145 [(oS y41.b (g69.1.val,g69.2))]),((1,u1),some<|.box 27 (F1 p1)),((17,u133),some<|.box 97 [(di v38.Ticks),(dl A3 v38.Green)]),((g69.1.val,g69.2),oB 5 1 B7 y41.b)]⟩ s) ?_ ?_
 refine A5<|D6 (Ij v39) (fun (x29:(Int×RoadsWriter)) (g70:({d:Nat // d∈ [25,29]}×Nat))=>⟨T [(0,(.ptr (28,u5) 0)),(5,(di v39)),(6,(di x29.1)),(7,(dl A3 [v38.Ticks])),(8,(di ([v38.Ticks].length:Int))),(9,(di x28.1))],G [((28,u5),some<|.box 145 [(oS x29.2.b (g70.1.val,g70.2))]),((1,u1),some<|.box 27 (F1 p1)),((17,u133),some<|.box 97 [(di v38.Ticks),(dl A3 v38.Green)]),((g70.1.val,g70.2),oB 5 1 B7 x29.2.b)]⟩) (56,x28.2) (g68.1,g68.2) _ hy41 (B8 (K6 Z)<|A2 G_hit (.of Z)<|sg Z<|sg Z<|B3 (U9 g68.1.property 3 Z G_hit) trivial) ?_
 intro x29 g70 z29 hz29 ez29
 unfold Ij at hz29
 refine A4<|C0<|sv Z<|sv Z<|A1<|cc Z hz29 (fun c30 hz29=> ?_)<|fun c30 hz29=> ?_
 refine B4<|A4<|A5<|T8 fun u140 _=>sq Z<|sq Z<|sp Z Z<|sq Z<|B6 (oS x29.2.b (g70.1.val,g70.2)) Z (Ag Z G_hit Z) (sv Z<|sv Z<|sv Z<|sv Z<|bs hz29 fun v40 hv40 hz29=>sd Z (Jo Z Z hv40)<|sv Z<|B6 (dl B7 [(IntKind.wrap .u8 v40)]) Z Z (bs hz29 fun _ hv41 hz29=>J3 B7 (g70.1.val,g70.2) x29.2.b (IntKind.wrap .u8 v40) [] _ (I0<|fun _=>Z) Z (A7 (Gl g70.1.property Z)<|A7 (Gl g70.1.property Z)<|A7 (Gl g70.1.property Z) G_hit) hv41 (sq Z<|sp Z Z<|W8 _ _ _ _ _ Z Z Z (A7 Z<|A7 (Gz g70.1.property Z) G_hit) (nl Z) [(.sl (29,u140))] Z (A1<|D8<|B5<|sv Z<|sv Z<|sv Z<|A1<|D9 ?_))))
 cases hz29
 exact ⟨Z,(⟨29, .tail _ (.head _)⟩,u140),(B8 (K6 Z)<|A2 G_hit (.box (.cons (.of (Q3<|N5 hv41).symm) .nil))<|A2 (Zj 2 Z<|A7 (Gz g70.1.property Z)<|gq Z) (.of Z) (A2 (Zj 2 Z<|A7 (Gz g70.1.property Z)<|gq Z) (.of Z) (I7 (gq Z) trivial)))⟩
 refine C4 Z ?_
 cases hz29
 obtain rfl:=ez29 _ rfl
 refine ⟨nofun,C3 Z<|V2 ?_⟩
 exact ⟨(g70.1,g70.2),(B8 (K6 Z)<|A2 G_hit (.of Z)<|sg Z<|sg Z<|B3 (U9 g70.1.property 3 Z G_hit) trivial)⟩
 rintro _ ⟨g69,q26⟩
 refine D8<|A8 q26<|B5<|sv Z<|sv Z<|A1<|D9 ?_
 cases hz28
 exact ⟨Z,(g69.1,g69.2),(B8 (K6 Z)<|A2 G_hit (.of Z)<|sg Z<|sg Z<|B3 (U9 g69.1.property 3 Z G_hit) trivial)⟩
 refine C4 Z ?_
 cases hz28
 obtain rfl:=ez28 _ rfl
 refine ⟨nofun,C3 Z<|V2 ?_⟩
 exact ⟨(g68.1,g68.2),(B8 trivial<|sg Z<|A2 G_hit (.of Z)<|sg Z<|B3 (U9 g68.1.property 3 Z G_hit) trivial)⟩
 rintro _ ⟨g67,q27⟩
 refine D9 ?_
 obtain rfl:=(lC hy39)
 exact Y2 q27 (.inl Z) (g67.1,g67.2) (K6 Z) (A2 G_hit (.of Z)<|sg Z<|sg Z<|B3 (U9 g67.1.property 3 Z G_hit) trivial)
 intro g66
 intro u143 hu143
 refine A1<|B5<|sq Z<|sq Z<|sl Z (gq Z) Z (bs hz27 fun y42 hy42 hz27=>Ee (fk func118 ntmps118 (fun r=>if r==0 then [4,1003]else if r==4 then [3,1002]else []) (by with_unfolding_all rfl)) (fun (g71:({d:Nat // d∈ [25,29]}×Nat))=> [(1,(.ptr (1,u1) 0)),(5,(.ptr (28,u5) 0)),(126,(dl P3 p1.Signals)),(127,(di (p1.Signals.length:Int))),(128,(di x24.1)),(141,(dl L4 v34.Phases)),(142,(di (v34.Phases.length:Int))),(143,(di x27.1))]) (fun (g71:({d:Nat // d∈ [25,29]}×Nat))=> [((1,u1),some<|.box 27 (F1 p1)),((28,u5),some<|.box 145 [(oS y42.b (g71.1.val,g71.2))]),((g71.1.val,g71.2),oB 5 1 B7 y42.b)]) Z (nl Z) ?_ ?_)
 unfold Ii at hy42
 refine A8 (s0:=⟨T [(0,(.ptr (28,u5) 0)),(1,(dl A3 v38.Green))],G [((28,u5),some<|.box 145 [(oS y39.b (g66.1.val,g66.2))]),((g66.1.val,g66.2),oB 5 1 B7 y39.b),((1,u1),some<|.box 27 (F1 p1))]⟩) (B8 (K6 Z)<|sg Z<|B3 (U9 g66.1.property 3 Z G_hit)<|A2 G_hit (.of Z) trivial) ?_
 refine C0<|sq Z<|sv Z<|sd Z (D2 Z)<|B6 (dl A3 [(v38.Green.length:Int)]) Z Z (bs hy42 fun y43 hy43 hy42=>Ee (fk func117 ntmps117 (fun r=>if r==6 then [1011]else []) (by with_unfolding_all rfl)) (fun (g72:({d:Nat // d∈ [25,29]}×Nat))=> [(0,(.ptr (28,u5) 0)),(1,(dl A3 v38.Green))]) (fun (g72:({d:Nat // d∈ [25,29]}×Nat))=> [((28,u5),some<|.box 145 [(oS y43.b (g72.1.val,g72.2))]),((1,u1),some<|.box 27 (F1 p1)),((g72.1.val,g72.2),oB 5 1 B7 y43.b)]) Z (nl Z) ?_ ?_)
 unfold Ih at hy43
 refine A8 (s0:=⟨T [(0,(.ptr (28,u5) 0)),(1,(dl A3 [(v38.Green.length:Int)]))],G [((28,u5),some<|.box 145 [(oS y39.b (g66.1.val,g66.2))]),((g66.1.val,g66.2),oB 5 1 B7 y39.b),((1,u1),some<|.box 27 (F1 p1))]⟩) (B8 (K6 Z)<|A2 G_hit (.of Z)<|B3 (A7 (Gl g66.1.property Z) G_hit)<|A2 (A7 Z<|A7 (Gz g66.1.property Z) G_hit) (.of Z) trivial) ?_
 refine C0<|B6 (dl A3 [(v38.Green.length:Int)]) Z Z (sd Z (D2 Z)<|sv Z<|A1<|bs hy43 fun y44 hy44 hy43=>D3 (fun s=> ∃g73:({d:Nat // d∈ [25,29]}×Nat),Sb ⟨T [],G [((1,u1),some<|.box 27 (F1 p1)),((28,u5),some<|.box 145 [(oS y44.b (g73.1.val,g73.2))]),((g73.1.val,g73.2),oB 5 1 B7 y44.b)]⟩ s) ?_ ?_)
 refine A5<|D6 (Ig v38) (fun (x30:(Int×RoadsWriter)) (g74:({d:Nat // d∈ [25,29]}×Nat))=>⟨T [(0,(.ptr (28,u5) 0)),(7,(dl A3 [(v38.Green.length:Int)])),(8,(di ([(v38.Green.length:Int)].length:Int))),(9,(di x30.1))],G [((28,u5),some<|.box 145 [(oS x30.2.b (g74.1.val,g74.2))]),((1,u1),some<|.box 27 (F1 p1)),((g74.1.val,g74.2),oB 5 1 B7 x30.2.b)]⟩) (0,y39) (g66.1,g66.2) _ hy44 (B8 (K6 Z)<|A2 G_hit (.of Z)<|A2 (A7 Z<|A7 (Gz g66.1.property Z) G_hit) (.of Z) (B3 (A7 (Gl g66.1.property Z) G_hit) trivial)) ?_
 intro x30 g74 z30 hz30 ez30
 unfold Ig at hz30
 refine C0<|sv Z<|A1<|A4<|cc Z hz30 (fun c31 hz30=> ?_)<|fun c31 hz30=> ?_
 refine B4<|A4<|A5<|C0<|bs hz30 fun v42 hv42 hz30=>sd Z (E7 Z Z hv42 Z)<|sd Z (G7 Z hv42 Z)<|sv Z<|A1<|C0<|sv Z<|A1<|bs hz30 fun y45 hy45 hz30=>D3 (fun s=> ∃g75:({d:Nat // d∈ [25,29]}×Nat),Sb ⟨T [(0,(.ptr (28,u5) 0)),(7,(dl A3 [(v38.Green.length:Int)])),(8,(di ([(v38.Green.length:Int)].length:Int))),(9,(di x30.1))],G [((28,u5),some<|.box 145 [(oS y45.b (g75.1.val,g75.2))]),((1,u1),some<|.box 27 (F1 p1)),((g75.1.val,g75.2),oB 5 1 B7 y45.b)]⟩ s) ?_ ?_
 refine A5<|D6 (If v42) (fun (x31:(Int×RoadsWriter)) (g76:({d:Nat // d∈ [25,29]}×Nat))=>⟨T [(0,(.ptr (28,u5) 0)),(5,(di v42)),(6,(di x31.1)),(7,(dl A3 [(v38.Green.length:Int)])),(8,(di ([(v38.Green.length:Int)].length:Int))),(9,(di x30.1))],G [((28,u5),some<|.box 145 [(oS x31.2.b (g76.1.val,g76.2))]),((1,u1),some<|.box 27 (F1 p1)),((g76.1.val,g76.2),oB 5 1 B7 x31.2.b)]⟩) (56,x30.2) (g74.1,g74.2) _ hy45 (B8 (K6 Z)<|A2 G_hit (.of Z)<|sg Z<|B3 (U9 g74.1.property 2 Z G_hit) trivial) ?_
 intro x31 g76 z31 hz31 ez31
 unfold If at hz31
 refine A4<|C0<|sv Z<|sv Z<|A1<|cc Z hz31 (fun c32 hz31=> ?_)<|fun c32 hz31=> ?_
 refine B4<|A4<|A5<|T8 fun u151 _=>sq Z<|sq Z<|sp Z Z<|sq Z<|B6 (oS x31.2.b (g76.1.val,g76.2)) Z (Ag Z G_hit Z) (sv Z<|sv Z<|sv Z<|sv Z<|bs hz31 fun v43 hv43 hz31=>sd Z (Jo Z Z hv43)<|sv Z<|B6 (dl B7 [(IntKind.wrap .u8 v43)]) Z Z (bs hz31 fun _ hv44 hz31=>J3 B7 (g76.1.val,g76.2) x31.2.b (IntKind.wrap .u8 v43) [] _ (I0<|fun _=>Z) Z (A7 (Gl g76.1.property Z)<|A7 (Gl g76.1.property Z) G_hit) hv44 (sq Z<|sp Z Z<|W8 _ _ _ _ _ Z Z Z (A7 Z<|A7 (Gz g76.1.property Z) G_hit) (nl Z) [(.sl (29,u151))] Z (A1<|D8<|B5<|sv Z<|sv Z<|sv Z<|A1<|D9 ?_))))
 cases hz31
 exact ⟨Z,(⟨29, .tail _ (.head _)⟩,u151),(B8 (K6 Z)<|A2 G_hit (.box (.cons (.of (Q3<|N5 hv44).symm) .nil))<|A2 (Zj 2 Z<|A7 (Gz g76.1.property Z)<|gq Z) (.of Z) (I7 (gq Z) trivial))⟩
 refine C4 Z ?_
 cases hz31
 obtain rfl:=ez31 _ rfl
 refine ⟨nofun,C3 Z<|V2 ?_⟩
 exact ⟨(g76.1,g76.2),(B8 (K6 Z)<|A2 G_hit (.of Z)<|sg Z<|B3 (U9 g76.1.property 2 Z G_hit) trivial)⟩
 rintro _ ⟨g75,q28⟩
 refine D8<|A8 q28<|B5<|sv Z<|sv Z<|A1<|D9 ?_
 cases hz30
 exact ⟨Z,(g75.1,g75.2),(B8 (K6 Z)<|A2 G_hit (.of Z)<|sg Z<|B3 (U9 g75.1.property 2 Z G_hit) trivial)⟩
 refine C4 Z ?_
 cases hz30
 obtain rfl:=ez30 _ rfl
 refine ⟨nofun,C3 Z<|V2 ?_⟩
 exact ⟨(g74.1,g74.2),(B8 trivial<|sg Z<|A2 G_hit (.of Z)<|B3 (U9 g74.1.property 2 Z G_hit) trivial)⟩
 rintro _ ⟨g73,q29⟩
 refine D9 ?_
 obtain rfl:=(lC hy43)
 exact Y2 q29 (.inl Z) (g73.1,g73.2) (K6 Z) (sg Z<|A2 G_hit (.of Z)<|B3 (U9 g73.1.property 2 Z G_hit) trivial)
 intro g72
 intro u154 hu154
 refine A1<|C0<|sv Z<|sd Z (D2 Z)<|sv Z<|A1<|bs hy42 fun y46 hy46 hy42=>D3 (fun s=> ∃g77:({d:Nat // d∈ [25,29]}×Nat),Sb ⟨T [],G [((1,u1),some<|.box 27 (F1 p1)),((28,u5),some<|.box 145 [(oS y46.b (g77.1.val,g77.2))]),((g77.1.val,g77.2),oB 5 1 B7 y46.b)]⟩ s) ?_ ?_
 refine A5<|D6 (Z4 v38) (fun (x32:(Int×RoadsWriter)) (g78:({d:Nat // d∈ [25,29]}×Nat))=>⟨T [(0,(.ptr (28,u5) 0)),(11,(dl A3 v38.Green)),(12,(di (v38.Green.length:Int))),(13,(di x32.1))],G [((28,u5),some<|.box 145 [(oS x32.2.b (g78.1.val,g78.2))]),((1,u1),some<|.box 27 (F1 p1)),((g78.1.val,g78.2),oB 5 1 B7 x32.2.b)]⟩) (0,y43) (g72.1,g72.2) _ hy46 (B8 (K6 Z)<|A2 G_hit (.of Z)<|sg Z<|B3 (U9 g72.1.property 2 Z G_hit) trivial) ?_
 intro x32 g78 z32 hz32 ez32
 unfold Z4 at hz32
 refine C0<|sv Z<|A1<|A4<|cc Z hz32 (fun c33 hz32=> ?_)<|fun c33 hz32=> ?_
 refine B4<|A4<|A5<|C0<|bs hz32 fun v45 hv45 hz32=>sd Z (E7 Z Z hv45 Z)<|sd Z (G7 Z hv45 Z)<|sv Z<|A1<|B5<|sq Z<|sv Z<|B6 (dl A3 [v45]) Z Z (bs hz32 fun y47 hy47 hz32=>Ee (fk func117 ntmps117 (fun r=>if r==6 then [1011]else []) (by with_unfolding_all rfl)) (fun (g79:({d:Nat // d∈ [25,29]}×Nat))=> [(0,(.ptr (28,u5) 0)),(11,(dl A3 v38.Green)),(12,(di (v38.Green.length:Int))),(13,(di x32.1))]) (fun (g79:({d:Nat // d∈ [25,29]}×Nat))=> [((28,u5),some<|.box 145 [(oS y47.b (g79.1.val,g79.2))]),((1,u1),some<|.box 27 (F1 p1)),((g79.1.val,g79.2),oB 5 1 B7 y47.b)]) Z (nl Z) ?_ ?_)
 unfold Ie at hy47
 refine A8 (s0:=⟨T [(0,(.ptr (28,u5) 0)),(1,(dl A3 [v45]))],G [((28,u5),some<|.box 145 [(oS x32.2.b (g78.1.val,g78.2))]),((g78.1.val,g78.2),oB 5 1 B7 x32.2.b),((1,u1),some<|.box 27 (F1 p1))]⟩) (B8 (K6 Z)<|A2 G_hit (.of Z)<|B3 (U9 g78.1.property 2 Z G_hit)<|sg Z trivial) ?_
 refine C0<|B6 (dl A3 [v45]) Z Z (sd Z (D2 Z)<|sv Z<|A1<|bs hy47 fun y48 hy48 hy47=>D3 (fun s=> ∃g80:({d:Nat // d∈ [25,29]}×Nat),Sb ⟨T [],G [((1,u1),some<|.box 27 (F1 p1)),((28,u5),some<|.box 145 [(oS y48.b (g80.1.val,g80.2))]),((g80.1.val,g80.2),oB 5 1 B7 y48.b)]⟩ s) ?_ ?_)
 refine A5<|D6 (Ic v45) (fun (x33:(Int×RoadsWriter)) (g81:({d:Nat // d∈ [25,29]}×Nat))=>⟨T [(0,(.ptr (28,u5) 0)),(7,(dl A3 [v45])),(8,(di ([v45].length:Int))),(9,(di x33.1))],G [((28,u5),some<|.box 145 [(oS x33.2.b (g81.1.val,g81.2))]),((1,u1),some<|.box 27 (F1 p1)),((g81.1.val,g81.2),oB 5 1 B7 x33.2.b)]⟩) (0,x32.2) (g78.1,g78.2) _ hy48 (B8 (K6 Z)<|A2 G_hit (.of Z)<|A2 (A7 Z<|A7 (Gz g78.1.property Z) G_hit) (.of Z) (B3 (A7 (Gl g78.1.property Z) G_hit) trivial)) ?_
 intro x33 g81 z33 hz33 ez33
 unfold Ic at hz33
 refine C0<|sv Z<|A1<|A4<|cc Z hz33 (fun c34 hz33=> ?_)<|fun c34 hz33=> ?_
 refine B4<|A4<|A5<|C0<|bs hz33 fun v46 hv46 hz33=>sd Z (E7 Z Z hv46 Z)<|sd Z (G7 Z hv46 Z)<|sv Z<|A1<|C0<|sv Z<|A1<|bs hz33 fun y49 hy49 hz33=>D3 (fun s=> ∃g82:({d:Nat // d∈ [25,29]}×Nat),Sb ⟨T [(0,(.ptr (28,u5) 0)),(7,(dl A3 [v45])),(8,(di ([v45].length:Int))),(9,(di x33.1))],G [((28,u5),some<|.box 145 [(oS y49.b (g82.1.val,g82.2))]),((1,u1),some<|.box 27 (F1 p1)),((g82.1.val,g82.2),oB 5 1 B7 y49.b)]⟩ s) ?_ ?_
 refine A5<|D6 (Ib v46) (fun (x34:(Int×RoadsWriter)) (g83:({d:Nat // d∈ [25,29]}×Nat))=>⟨T [(0,(.ptr (28,u5) 0)),(5,(di v46)),(6,(di x34.1)),(7,(dl A3 [v45])),(8,(di ([v45].length:Int))),(9,(di x33.1))],G [((28,u5),some<|.box 145 [(oS x34.2.b (g83.1.val,g83.2))]),((1,u1),some<|.box 27 (F1 p1)),((g83.1.val,g83.2),oB 5 1 B7 x34.2.b)]⟩) (56,x33.2) (g81.1,g81.2) _ hy49 (B8 (K6 Z)<|A2 G_hit (.of Z)<|sg Z<|B3 (U9 g81.1.property 2 Z G_hit) trivial) ?_
 intro x34 g83 z34 hz34 ez34
 unfold Ib at hz34
 refine A4<|C0<|sv Z<|sv Z<|A1<|cc Z hz34 (fun c35 hz34=> ?_)<|fun c35 hz34=> ?_
 refine B4<|A4<|A5<|T8 fun u164 _=>sq Z<|sq Z<|sp Z Z<|sq Z<|B6 (oS x34.2.b (g83.1.val,g83.2)) Z (Ag Z G_hit Z) (sv Z<|sv Z<|sv Z<|sv Z<|bs hz34 fun v47 hv47 hz34=>sd Z (Jo Z Z hv47)<|sv Z<|B6 (dl B7 [(IntKind.wrap .u8 v47)]) Z Z (bs hz34 fun _ hv48 hz34=>J3 B7 (g83.1.val,g83.2) x34.2.b (IntKind.wrap .u8 v47) [] _ (I0<|fun _=>Z) Z (A7 (Gl g83.1.property Z)<|A7 (Gl g83.1.property Z) G_hit) hv48 (sq Z<|sp Z Z<|W8 _ _ _ _ _ Z Z Z (A7 Z<|A7 (Gz g83.1.property Z) G_hit) (nl Z) [(.sl (29,u164))] Z (A1<|D8<|B5<|sv Z<|sv Z<|sv Z<|A1<|D9 ?_))))
 cases hz34
 exact ⟨Z,(⟨29, .tail _ (.head _)⟩,u164),(B8 (K6 Z)<|A2 G_hit (.box (.cons (.of (Q3<|N5 hv48).symm) .nil))<|A2 (Zj 2 Z<|A7 (Gz g83.1.property Z)<|gq Z) (.of Z) (I7 (gq Z) trivial))⟩
 refine C4 Z ?_
 cases hz34
 obtain rfl:=ez34 _ rfl
 refine ⟨nofun,C3 Z<|V2 ?_⟩
 exact ⟨(g83.1,g83.2),(B8 (K6 Z)<|A2 G_hit (.of Z)<|sg Z<|B3 (U9 g83.1.property 2 Z G_hit) trivial)⟩
 rintro _ ⟨g82,q30⟩
 refine D8<|A8 q30<|B5<|sv Z<|sv Z<|A1<|D9 ?_
 cases hz33
 exact ⟨Z,(g82.1,g82.2),(B8 (K6 Z)<|A2 G_hit (.of Z)<|sg Z<|B3 (U9 g82.1.property 2 Z G_hit) trivial)⟩
 refine C4 Z ?_
 cases hz33
 obtain rfl:=ez33 _ rfl
 refine ⟨nofun,C3 Z<|V2 ?_⟩
 exact ⟨(g81.1,g81.2),(B8 trivial<|sg Z<|A2 G_hit (.of Z)<|B3 (U9 g81.1.property 2 Z G_hit) trivial)⟩
 rintro _ ⟨g80,q31⟩
 refine D9 ?_
 obtain rfl:=(lC hy47)
 exact Y2 q31 (.inl Z) (g80.1,g80.2) (K6 Z) (sg Z<|A2 G_hit (.of Z)<|B3 (U9 g80.1.property 2 Z G_hit) trivial)
 intro g79
 intro u167 hu167
 refine A1<|D8<|B5<|sv Z<|sv Z<|A1<|D9 ?_
 cases hz32
 exact ⟨Z,(g79.1,g79.2),(B8 (K6 Z)<|A2 G_hit (.of Z)<|sg Z<|B3 (U9 g79.1.property 2 Z G_hit) trivial)⟩
 refine C4 Z ?_
 cases hz32
 obtain rfl:=ez32 _ rfl
 refine ⟨nofun,C3 Z<|V2 ?_⟩
 exact ⟨(g78.1,g78.2),(B8 trivial<|sg Z<|A2 G_hit (.of Z)<|B3 (U9 g78.1.property 2 Z G_hit) trivial)⟩
 rintro _ ⟨g77,q32⟩
 refine D9 ?_
 obtain rfl:=(lC hy42)
 exact Y2 q32 (.inl Z) (g77.1,g77.2) (K6 Z) (A2 G_hit (.of Z)<|sg Z<|B3 (U9 g77.1.property 2 Z G_hit) trivial)
 intro g71
 intro u169 hu169
 refine A1<|D8<|B5<|sv Z<|sv Z<|A1<|D9 ?_
 cases hz27
 exact ⟨Z,(g71.1,g71.2),(B8 (K6 Z)<|A2 G_hit (.of Z)<|sg Z<|B3 (U9 g71.1.property 2 Z G_hit) trivial)⟩
 refine C4 Z ?_
 cases hz27
 obtain rfl:=ez27 _ rfl
 refine ⟨nofun,C3 Z<|V2 ?_⟩
 exact ⟨(g65.1,g65.2),(B8 (K6 Z)<|A2 G_hit (.of Z)<|sg Z<|B3 (U9 g65.1.property 2 Z G_hit) trivial)⟩
 rintro _ ⟨g64,q33⟩
 refine D8<|A8 q33<|B5<|sv Z<|sv Z<|A1<|D9 ?_
 cases hz24
 exact ⟨Z,(g64.1,g64.2),(B8 (K6 Z)<|A2 G_hit (.of Z)<|sg Z<|B3 (U9 g64.1.property 2 Z G_hit) trivial)⟩
 refine C4 Z ?_
 cases hz24
 obtain rfl:=ez24 _ rfl
 refine ⟨nofun,C3 Z<|V2 ?_⟩
 exact ⟨(g58.1,g58.2),(B8 (K6 Z)<|A2 G_hit (.of Z)<|sg Z<|B3 (U9 g58.1.property 2 Z G_hit) trivial)⟩
 rintro _ ⟨g57,q34⟩
 refine A8 q34<|C0<|sq Z<|sp Z Z<|sl Z G_hit Z<|sd Z (D2 Z)<|B6 (dl A3 [(p1.Works.length:Int)]) Z Z (bs h fun y50 hy50 h=>Ee (fk func117 ntmps117 (fun r=>if r==6 then [1011]else []) (by with_unfolding_all rfl)) (fun (g84:({d:Nat // d∈ [25,29]}×Nat))=> [(1,(.ptr (1,u1) 0)),(5,(.ptr (28,u5) 0))]) (fun (g84:({d:Nat // d∈ [25,29]}×Nat))=> [((1,u1),some<|.box 27 (F1 p1)),((28,u5),some<|.box 145 [(oS y50.b (g84.1.val,g84.2))]),((g84.1.val,g84.2),oB 5 1 B7 y50.b)]) Z (nl Z) ?_ ?_)
 unfold Ia at hy50
 refine A8 (s0:=⟨T [(0,(.ptr (28,u5) 0)),(1,(dl A3 [(p1.Works.length:Int)]))],G [((28,u5),some<|.box 145 [(oS y34.b (g57.1.val,g57.2))]),((g57.1.val,g57.2),oB 5 1 B7 y34.b),((1,u1),some<|.box 27 (F1 p1))]⟩) (B8 (K6 Z)<|sg Z<|B3 (U9 g57.1.property 2 Z G_hit)<|A2 G_hit (.of Z) trivial) ?_
 refine C0<|B6 (dl A3 [(p1.Works.length:Int)]) Z Z (sd Z (D2 Z)<|sv Z<|A1<|bs hy50 fun y51 hy51 hy50=>D3 (fun s=> ∃g85:({d:Nat // d∈ [25,29]}×Nat),Sb ⟨T [],G [((1,u1),some<|.box 27 (F1 p1)),((28,u5),some<|.box 145 [(oS y51.b (g85.1.val,g85.2))]),((g85.1.val,g85.2),oB 5 1 B7 y51.b)]⟩ s) ?_ ?_)
 refine A5<|D6 (Hz p1) (fun (x35:(Int×RoadsWriter)) (g86:({d:Nat // d∈ [25,29]}×Nat))=>⟨T [(0,(.ptr (28,u5) 0)),(7,(dl A3 [(p1.Works.length:Int)])),(8,(di ([(p1.Works.length:Int)].length:Int))),(9,(di x35.1))],G [((28,u5),some<|.box 145 [(oS x35.2.b (g86.1.val,g86.2))]),((1,u1),some<|.box 27 (F1 p1)),((g86.1.val,g86.2),oB 5 1 B7 x35.2.b)]⟩) (0,y34) (g57.1,g57.2) _ hy51 (B8 (K6 Z)<|A2 G_hit (.of Z)<|A2 (A7 Z<|A7 (Gz g57.1.property Z) G_hit) (.of Z) (B3 (A7 (Gl g57.1.property Z) G_hit) trivial)) ?_
 intro x35 g86 z35 hz35 ez35
 unfold Hz at hz35
 refine C0<|sv Z<|A1<|A4<|cc Z hz35 (fun c36 hz35=> ?_)<|fun c36 hz35=> ?_
 refine B4<|A4<|A5<|C0<|bs hz35 fun v49 hv49 hz35=>sd Z (E7 Z Z hv49 Z)<|sd Z (G7 Z hv49 Z)<|sv Z<|A1<|C0<|sv Z<|A1<|bs hz35 fun y52 hy52 hz35=>D3 (fun s=> ∃g87:({d:Nat // d∈ [25,29]}×Nat),Sb ⟨T [(0,(.ptr (28,u5) 0)),(7,(dl A3 [(p1.Works.length:Int)])),(8,(di ([(p1.Works.length:Int)].length:Int))),(9,(di x35.1))],G [((28,u5),some<|.box 145 [(oS y52.b (g87.1.val,g87.2))]),((1,u1),some<|.box 27 (F1 p1)),((g87.1.val,g87.2),oB 5 1 B7 y52.b)]⟩ s) ?_ ?_
 refine A5<|D6 (Hy v49) (fun (x36:(Int×RoadsWriter)) (g88:({d:Nat // d∈ [25,29]}×Nat))=>⟨T [(0,(.ptr (28,u5) 0)),(5,(di v49)),(6,(di x36.1)),(7,(dl A3 [(p1.Works.length:Int)])),(8,(di ([(p1.Works.length:Int)].length:Int))),(9,(di x35.1))],G [((28,u5),some<|.box 145 [(oS x36.2.b (g88.1.val,g88.2))]),((1,u1),some<|.box 27 (F1 p1)),((g88.1.val,g88.2),oB 5 1 B7 x36.2.b)]⟩) (56,x35.2) (g86.1,g86.2) _ hy52 (B8 (K6 Z)<|A2 G_hit (.of Z)<|sg Z<|B3 (U9 g86.1.property 2 Z G_hit) trivial) ?_
 intro x36 g88 z36 hz36 ez36
 unfold Hy at hz36
 refine A4<|C0<|sv Z<|sv Z<|A1<|cc Z hz36 (fun c37 hz36=> ?_)<|fun c37 hz36=> ?_
 refine B4<|A4<|A5<|T8 fun u178 _=>sq Z<|sq Z<|sp Z Z<|sq Z<|B6 (oS x36.2.b (g88.1.val,g88.2)) Z (Ag Z G_hit Z) (sv Z<|sv Z<|sv Z<|sv Z<|bs hz36 fun v50 hv50 hz36=>sd Z (Jo Z Z hv50)<|sv Z<|B6 (dl B7 [(IntKind.wrap .u8 v50)]) Z Z (bs hz36 fun _ hv51 hz36=>J3 B7 (g88.1.val,g88.2) x36.2.b (IntKind.wrap .u8 v50) [] _ (I0<|fun _=>Z) Z (A7 (Gl g88.1.property Z)<|A7 (Gl g88.1.property Z) G_hit) hv51 (sq Z<|sp Z Z<|W8 _ _ _ _ _ Z Z Z (A7 Z<|A7 (Gz g88.1.property Z) G_hit) (nl Z) [(.sl (29,u178))] Z (A1<|D8<|B5<|sv Z<|sv Z<|sv Z<|A1<|D9 ?_))))
 cases hz36
 exact ⟨Z,(⟨29, .tail _ (.head _)⟩,u178),(B8 (K6 Z)<|A2 G_hit (.box (.cons (.of (Q3<|N5 hv51).symm) .nil))<|A2 (Zj 2 Z<|A7 (Gz g88.1.property Z)<|gq Z) (.of Z) (I7 (gq Z) trivial))⟩
 refine C4 Z ?_
 cases hz36
 obtain rfl:=ez36 _ rfl
 refine ⟨nofun,C3 Z<|V2 ?_⟩
 exact ⟨(g88.1,g88.2),(B8 (K6 Z)<|A2 G_hit (.of Z)<|sg Z<|B3 (U9 g88.1.property 2 Z G_hit) trivial)⟩
 rintro _ ⟨g87,q35⟩
 refine D8<|A8 q35<|B5<|sv Z<|sv Z<|A1<|D9 ?_
 cases hz35
 exact ⟨Z,(g87.1,g87.2),(B8 (K6 Z)<|A2 G_hit (.of Z)<|sg Z<|B3 (U9 g87.1.property 2 Z G_hit) trivial)⟩
 refine C4 Z ?_
 cases hz35
 obtain rfl:=ez35 _ rfl
 refine ⟨nofun,C3 Z<|V2 ?_⟩
 exact ⟨(g86.1,g86.2),(B8 trivial<|sg Z<|A2 G_hit (.of Z)<|B3 (U9 g86.1.property 2 Z G_hit) trivial)⟩
 rintro _ ⟨g85,q36⟩
 refine D9 ?_
 obtain rfl:=(lC hy50)
 exact Y2 q36 (.inl Z) (g85.1,g85.2) (K6 Z) (A2 G_hit (.of Z)<|sg Z<|B3 (U9 g85.1.property 2 Z G_hit) trivial)
 intro g84
 intro u181 hu181
 refine A1<|A4<|C0<|sq Z<|sl Z G_hit Z<|sd Z (D2 Z)<|sv Z<|A1<|bs h fun y53 hy53 h=>D3 (fun s=> ∃g89:({d:Nat // d∈ [25,29]}×Nat),Sb ⟨T [(5,(.ptr (28,u5) 0))],G [((28,u5),some<|.box 145 [(oS y53.b (g89.1.val,g89.2))]),((g89.1.val,g89.2),oB 5 1 B7 y53.b)]⟩ s) ?_ ?_
 refine A5<|D6 (Z3 p1) (fun (x37:(Int×RoadsWriter)) (g90:({d:Nat // d∈ [25,29]}×Nat))=>⟨T [(5,(.ptr (28,u5) 0)),(165,(dl Ax p1.Works)),(166,(di (p1.Works.length:Int))),(167,(di x37.1))],G [((28,u5),some<|.box 145 [(oS x37.2.b (g90.1.val,g90.2))]),((g90.1.val,g90.2),oB 5 1 B7 x37.2.b)]⟩) (0,y50) (g84.1,g84.2) _ hy53 (B8 (K6 Z)<|sg Z<|B3 (U9 g84.1.property 2 Z G_hit) trivial) ?_
 intro x37 g90 z37 hz37 ez37
 unfold Z3 at hz37
 refine C0<|sv Z<|A1<|A4<|cc Z hz37 (fun c38 hz37=> ?_)<|fun c38 hz37=> ?_
 refine B4<|A4<|A5<|C0<|bs hz37 fun v52 hv52 hz37=>sd Z (E7 Z Z hv52 Z)<|sd Z (E4 Z hv52 Z Z)<|sm Z<|X7 Z G_hit (NR v52) Z (A1<|B5<|sq Z<|sq Z<|sl Z G_hit Z<|sq Z<|sl Z G_hit Z<|sq Z<|sl Z G_hit Z<|sq Z<|sl Z G_hit Z<|sq Z<|sl Z G_hit Z<|sq Z<|sl Z G_hit Z<|B6 (dl A3 [v52.Lane_,v52.From,v52.To,v52.Begin,v52.End,v52.Limit]) Z Z (bs hz37 fun y54 hy54 hz37=>Ee (fk func117 ntmps117 (fun r=>if r==6 then [1011]else []) (by with_unfolding_all rfl)) (fun (g91:({d:Nat // d∈ [25,29]}×Nat))=> [(5,(.ptr (28,u5) 0)),(165,(dl Ax p1.Works)),(166,(di (p1.Works.length:Int))),(167,(di x37.1))]) (fun (g91:({d:Nat // d∈ [25,29]}×Nat))=> [((28,u5),some<|.box 145 [(oS y54.b (g91.1.val,g91.2))]),((g91.1.val,g91.2),oB 5 1 B7 y54.b)]) Z (nl Z) ?_ ?_))
 unfold Hv at hy54
 refine A8 (s0:=⟨T [(0,(.ptr (28,u5) 0)),(1,(dl A3 [v52.Lane_,v52.From,v52.To,v52.Begin,v52.End,v52.Limit]))],G [((28,u5),some<|.box 145 [(oS x37.2.b (g90.1.val,g90.2))]),((g90.1.val,g90.2),oB 5 1 B7 x37.2.b)]⟩) (B8 (K6 Z)<|sg Z<|B3 (U9 g90.1.property 3 Z G_hit) trivial) ?_
 refine C0<|B6 (dl A3 [v52.Lane_,v52.From,v52.To,v52.Begin,v52.End,v52.Limit]) Z Z (sd Z (D2 Z)<|sv Z<|A1<|bs hy54 fun y55 hy55 hy54=>D3 (fun s=> ∃g92:({d:Nat // d∈ [25,29]}×Nat),Sb ⟨T [],G [((28,u5),some<|.box 145 [(oS y55.b (g92.1.val,g92.2))]),((g92.1.val,g92.2),oB 5 1 B7 y55.b)]⟩ s) ?_ ?_)
 refine A5<|D6 (Hu v52) (fun (x38:(Int×RoadsWriter)) (g93:({d:Nat // d∈ [25,29]}×Nat))=>⟨T [(0,(.ptr (28,u5) 0)),(7,(dl A3 [v52.Lane_,v52.From,v52.To,v52.Begin,v52.End,v52.Limit])),(8,(di ([v52.Lane_,v52.From,v52.To,v52.Begin,v52.End,v52.Limit].length:Int))),(9,(di x38.1))],G [((28,u5),some<|.box 145 [(oS x38.2.b (g93.1.val,g93.2))]),((g93.1.val,g93.2),oB 5 1 B7 x38.2.b)]⟩) (0,x37.2) (g90.1,g90.2) _ hy55 (B8 (K6 Z)<|A2 G_hit (.of Z)<|B3 (A7 (Gl g90.1.property Z) G_hit) trivial) ?_
 intro x38 g93 z38 hz38 ez38
 unfold Hu at hz38
 refine C0<|sv Z<|A1<|A4<|cc Z hz38 (fun c39 hz38=> ?_)<|fun c39 hz38=> ?_
 refine B4<|A4<|A5<|C0<|bs hz38 fun v53 hv53 hz38=>sd Z (E7 Z Z hv53 Z)<|sd Z (G7 Z hv53 Z)<|sv Z<|A1<|C0<|sv Z<|A1<|bs hz38 fun y56 hy56 hz38=>D3 (fun s=> ∃g94:({d:Nat // d∈ [25,29]}×Nat),Sb ⟨T [(0,(.ptr (28,u5) 0)),(7,(dl A3 [v52.Lane_,v52.From,v52.To,v52.Begin,v52.End,v52.Limit])),(8,(di ([v52.Lane_,v52.From,v52.To,v52.Begin,v52.End,v52.Limit].length:Int))),(9,(di x38.1))],G [((28,u5),some<|.box 145 [(oS y56.b (g94.1.val,g94.2))]),((g94.1.val,g94.2),oB 5 1 B7 y56.b)]⟩ s) ?_ ?_
 refine A5<|D6 (Ht v53) (fun (x39:(Int×RoadsWriter)) (g95:({d:Nat // d∈ [25,29]}×Nat))=>⟨T [(0,(.ptr (28,u5) 0)),(5,(di v53)),(6,(di x39.1)),(7,(dl A3 [v52.Lane_,v52.From,v52.To,v52.Begin,v52.End,v52.Limit])),(8,(di ([v52.Lane_,v52.From,v52.To,v52.Begin,v52.End,v52.Limit].length:Int))),(9,(di x38.1))],G [((28,u5),some<|.box 145 [(oS x39.2.b (g95.1.val,g95.2))]),((g95.1.val,g95.2),oB 5 1 B7 x39.2.b)]⟩) (56,x38.2) (g93.1,g93.2) _ hy56 (B8 (K6 Z)<|A2 G_hit (.of Z)<|B3 (A7 (Gl g93.1.property Z) G_hit) trivial) ?_
 intro x39 g95 z39 hz39 ez39
 unfold Ht at hz39
 refine A4<|C0<|sv Z<|sv Z<|A1<|cc Z hz39 (fun c40 hz39=> ?_)<|fun c40 hz39=> ?_
 refine B4<|A4<|A5<|T8 fun u191 _=>sq Z<|sq Z<|sp Z Z<|sq Z<|B6 (oS x39.2.b (g95.1.val,g95.2)) Z (Ag Z G_hit Z) (sv Z<|sv Z<|sv Z<|sv Z<|bs hz39 fun v54 hv54 hz39=>sd Z (Jo Z Z hv54)<|sv Z<|B6 (dl B7 [(IntKind.wrap .u8 v54)]) Z Z (bs hz39 fun _ hv55 hz39=>J3 B7 (g95.1.val,g95.2) x39.2.b (IntKind.wrap .u8 v54) [] _ (I0<|fun _=>Z) Z (A7 (Gl g95.1.property Z) G_hit) hv55 (sq Z<|sp Z Z<|W8 _ _ _ _ _ Z Z Z (A7 Z<|A7 (Gz g95.1.property Z) G_hit) (nl Z) [(.sl (29,u191))] Z (A1<|D8<|B5<|sv Z<|sv Z<|sv Z<|A1<|D9 ?_))))
 cases hz39
 exact ⟨Z,(⟨29, .tail _ (.head _)⟩,u191),(B8 (K6 Z)<|A2 G_hit (.box (.cons (.of (Q3<|N5 hv55).symm) .nil))<|I7 (gq Z) trivial)⟩
 refine C4 Z ?_
 cases hz39
 obtain rfl:=ez39 _ rfl
 refine ⟨nofun,C3 Z<|V2 ?_⟩
 exact ⟨(g95.1,g95.2),(B8 (K6 Z)<|A2 G_hit (.of Z)<|B3 (A7 (Gl g95.1.property Z) G_hit) trivial)⟩
 rintro _ ⟨g94,q37⟩
 refine D8<|A8 q37<|B5<|sv Z<|sv Z<|A1<|D9 ?_
 cases hz38
 exact ⟨Z,(g94.1,g94.2),(B8 (K6 Z)<|A2 G_hit (.of Z)<|B3 (A7 (Gl g94.1.property Z) G_hit) trivial)⟩
 refine C4 Z ?_
 cases hz38
 obtain rfl:=ez38 _ rfl
 refine ⟨nofun,C3 Z<|V2 ?_⟩
 exact ⟨(g93.1,g93.2),(B8 trivial<|A2 G_hit (.of Z)<|B3 (A7 (Gl g93.1.property Z) G_hit) trivial)⟩
 rintro _ ⟨g92,q38⟩
 refine D9 ?_
 obtain rfl:=(lC hy54)
 exact Y2 q38 (.inl Z) (g92.1,g92.2) (K6 Z) (A2 G_hit (.of Z)<|B3 (A7 (Gl g92.1.property Z) G_hit) trivial)
 intro g91
 intro u194 hu194
 refine A1<|D8<|B5<|sv Z<|sv Z<|A1<|D9 ?_
 cases hz37
 exact ⟨Z,(g91.1,g91.2),(B8 (K6 Z)<|A2 G_hit (.of Z)<|B3 (A7 (Gl g91.1.property Z) G_hit) trivial)⟩
 refine C4 Z ?_
 cases hz37
 obtain rfl:=ez37 _ rfl
 refine ⟨nofun,C3 Z<|V2 ?_⟩
 exact ⟨(g90.1,g90.2),(B8 ⟨.of Z,trivial⟩<|A2 G_hit (.of Z)<|B3 (A7 (Gl g90.1.property Z) G_hit) trivial)⟩
 rintro _ ⟨g89,q39⟩
 refine A8 q39<|A4<|XK [(g89.1.val,g89.2)] [(5,(.ptr (28,u5) 0))] [((28,u5),some<|.box 145 [(dl B7 y53.b)])] ⟨WQ Z,trivial⟩ (RE G_hit (RF (AT<|Gz g89.1.property Z) UX) (.cons (XL (Ct<|Ql (.head _)<|A7 (Gl g89.1.property Z) G_hit) Cs) .nil) trivial) (B5<|sq Z<|sq Z<|sp Z Z<|sl Z G_hit Z<|sd Z (NO (xs:=y53.b) Z)<|sv Z<|sv Z<|A1<|C1 ?_)
 cases h
 exact B9 (.inr Z) (Nw (C2 Z) (C2 Z) D7 D7) (.refl _)
def P1 (p1:ByteArray)(p2:ByteArray):Option Bool:=
  ((cond (decide ((p1.size:Int)≥(p2.size:Int))) (Ww p1 0 (p2.size:Int)) (some default))).bind fun v1=>some ((decide ((p1.size:Int)≥(p2.size:Int)))&& (v1.toList==p2.toList))
theorem Gf(p1 p2 r)(h:P1 p1 p2=some r):PCall prog 263 [(X6 p1),(X6 p2)] (bo r):=by
 refine E3 (fk func263 ntmps263 m0 (by with_unfolding_all rfl)) (nl Z) ?_
 unfold P1 at h
 refine A8 (s0:=⟨T [(0,(.d _)),(1,(.d _))],G []⟩) (F5 Z Z) ?_
 refine C0<|sv Z<|A1<|C0<|sv Z<|sd Z (Ri Z)<|sv Z<|sd Z (Ri Z)<|sv Z<|sv Z<|gt Z (fun _=>Z)<|gt Z (fun _=>Z)<|gt Z (fun w3=>(Ri<|A9 w3))<|bs h fun _ hv1 h=>gt Z (fun w4=>(AX (A9 w4) (A9 w4) (K2 w4 hv1)))<|gt Z (fun _=>Z)<|gt Z (fun w6=>(VB (A9 w6)<|A9 w6))<|sa Z Z Z<|sv Z<|A1<|C1 ?_
 cases h
 exact B9 (.inr Z) (C5 (C2 Z) D7) (.refl _)
def S4 (p1:ByteArray)(p2:ByteArray):Option (ByteArray×Bool):=
  (P1 p1 p2).bind fun v1=>cond (!v1) (some (p1,false)) ((Ww p1 (p2.size:Int) (p1.size:Int)).bind fun v2=>some (v2,true))
theorem Gg(p1 p2 r)(h:S4 p1 p2=some r):PCall prog 215 [(X6 p1),(X6 p2)] (.tup [(X6 r.1),(bo r.2)]):=by
 refine E3 (fk func215 ntmps215 m0 (by with_unfolding_all rfl)) (nl Z) ?_
 unfold S4 at h
 refine A8 (s0:=⟨T [(0,(.d _)),(1,(.d _))],G []⟩) (F5 Z Z) ?_
 refine C0<|sv Z<|sv Z<|A1<|A4<|C0<|sv Z<|sv Z<|bs h fun v1 hv1 h=>D1 Z Z A6 (Gf _ _ _ hv1) (.inl Z) (B6 (.d (bo (!v1))) Z Z (A1<|cc Z h (fun c1 h=> ?_)<|fun c1 h=> ?_))
 refine C0<|sv Z<|sv Z<|sv Z<|A1<|C1 ?_
 cases h
 exact B9 (.inr Z) (Nw (C2 Z) (C2 Z) D7 D7) (.refl _)
 refine B4<|C0<|sv Z<|sv Z<|sd Z (Ri Z)<|bs h fun _ hv2 h=>sd Z (HU Z Z hv2)<|sv Z<|sv Z<|A1<|C1 ?_
 cases h
 exact B9 (.inr Z) (Nw (C2 Z) (C2 Z) D7 D7) (.refl _)
def Ce (p1:ByteArray)(p2:ByteArray):Option (ByteArray×Bool):=
  (S4 p1 p2).bind fun v1=>some (v1.1,v1.2)
theorem Pi(p1 p2 r)(h:Ce p1 p2=some r):PCall prog 119 [(X6 p1),(X6 p2)] (.tup [(X6 r.1),(bo r.2)]):=by
 refine E3 (fk func119 ntmps119 m0 (by with_unfolding_all rfl)) (nl Z) ?_
 unfold Ce at h
 refine A8 (s0:=⟨T [(0,(.d _)),(1,(.d _))],G []⟩) (F5 Z Z) ?_
 refine C0<|sv Z<|sv Z<|A1<|C0<|sv Z<|sv Z<|bs h fun _ hv1 h=>D1 Z Z A6 (Gg _ _ _ hv1) (.inl Z) (sv Z<|sv Z<|sv Z<|sv Z<|A1<|C1 ?_)
 cases h
 exact B9 (.inr Z) (Nw (C2 Z) (C2 Z) D7 D7) (.refl _)
def S5 (v1:ByteArray)(x1:(Int×Int)):Option (Stp (Int×Int) Int):=
  cond (decide (x1.2< ((Z0 v1).length:Int))) ((F6 (Z0 v1) x1.2).bind fun v2=>some (.go ((IntKind.wrap .u64 (((BitVec.ofInt (IntKind.bits .u64) (IntKind.wrap .u64 (x1.1*2^ (min (8:Int).toNat (IntKind.bits .u64))))|||(BitVec.ofInt (IntKind.bits .u64) (IntKind.wrap .u64 v2))).toNat:Nat))),(I4 (x1.2+1))))) (some (.out x1.1))
def B0 [Lp](p1:RoadsReader):Option (Int×RoadsReader):=
  cond (decide ((p1.s.size:Int)<8)) (some (0,(RoadsReader.mk ByteArray.empty true))) ((Ww p1.s 0 8).bind fun v1=>(loop (S5 v1) (0,0)).bind fun y1=>(Ww p1.s 8 (p1.s.size:Int)).bind fun v3=>some ((I4 y1),(RoadsReader.mk v3 p1.short)))
theorem C7(p1 r)(h:B0 p1=some r):MCall prog 120 [(.ptr (900000,0) 0)] [(.box 154 [(.d (X6 p1.s)),(.d (bo p1.short))])] (di r.1) [some (.box 154 [(.d (X6 r.2.s)),(.d (bo r.2.short))])] []:=by
 refine X8 (fk func120 ntmps120 (fun r=>if r==5 then [1005]else []) (by with_unfolding_all rfl)) Z (nl Z) ?_
 unfold B0 at h
 refine A8 (s0:=⟨T [(0,(.ptr _ _))],G [((900000,0),some<|.box 154 _)]⟩) (F5 Z Z) ?_
 refine C0<|sv Z<|A1<|A4<|C0<|sq Z<|sp Z Z<|sq Z<|sl Z G_hit Z<|sd Z (Ri Z)<|sv Z<|A1<|cc Z h (fun c1 h=> ?_)<|fun c1 h=> ?_
 refine C0<|sq Z<|sp Z Z<|sq Z<|sp Z Z<|X7 Z G_hit [(.d (X6 ByteArray.empty)),(.d (bo p1.short))] Z (sq Z<|sp Z Z<|X7 Z G_hit [(.d (X6 ByteArray.empty)),(.d (bo true))] Z (A1<|C0<|sv Z<|A1<|C1 ?_))
 cases h
 exact Av (.inr Z) [] (Aw (C2 Z) D7) (.refl _) ⟨⟨_,_,_,G_hit,G2,Z,X0,Z⟩,trivial⟩
 refine B4<|C0<|sv Z<|A1<|A4<|C0<|sq Z<|sp Z Z<|sq Z<|sl Z G_hit Z<|bs h fun v1 hv1 h=>sd Z (AX Z Z hv1)<|sd Z (NP Z)<|sd Z (D2 Z)<|sv Z<|A1<|bs h fun y1 hy1 h=>D3 (fun s=> ∃g1:Unit,Sb ⟨T [(0,(.ptr (900000,0) 0)),(3,(.d (.v (.int .u64 y1))))],G [((900000,0),some<|.box 154 [(.d (X6 p1.s)),(.d (bo p1.short))])]⟩ s) ?_ ?_
 refine A5<|D6 (S5 v1) (fun (x1:(Int×Int)) (g2:Unit)=>⟨T [(0,(.ptr (900000,0) 0)),(3,(.d (.v (.int .u64 x1.1)))),(23,(dl B7<|Z0 v1)),(24,(di ((Z0 v1).length:Int))),(25,(di x1.2))],G [((900000,0),some<|.box 154 [(.d (X6 p1.s)),(.d (bo p1.short))])]⟩) (0,0) () _ hy1 (F5 Z Z) ?_
 intro x1 g2 z1 hz1 ez1
 unfold S5 at hz1
 refine C0<|sv Z<|A1<|A4<|cc Z hz1 (fun c2 hz1=> ?_)<|fun c2 hz1=> ?_
 refine B4<|A4<|A5<|C0<|bs hz1 fun _ hv2 hz1=>sd Z (E7 Z Z hv2 Z)<|sd Z (G7 Z hv2 Z)<|sv Z<|A1<|B5<|sv Z<|sv Z<|sv Z<|sv Z<|sv Z<|sv Z<|A1<|D8<|B5<|sv Z<|sv Z<|A1<|D9 ?_
 cases hz1
 exact ⟨Z,(),(F5 Z Z)⟩
 refine C4 Z ?_
 cases hz1
 obtain rfl:=ez1 _ rfl
 refine ⟨nofun,C3 Z<|V2 ?_⟩
 exact ⟨(),(F5 Z Z)⟩
 rintro _ ⟨g1,q1⟩
 refine A8 q1<|C0<|sq Z<|sp Z Z<|sq Z<|sp Z Z<|sl Z G_hit Z<|bs h fun v3 hv3 h=>sd Z (HU Z Z hv3)<|sq Z<|sp Z Z<|X7 Z G_hit [(.d (X6 v3)),(.d (bo p1.short))] Z (A1<|C0<|sv Z<|sv Z<|sv Z<|A1<|C1 ?_)
 cases h
 exact Av (.inr Z) [] (Aw (C2 Z) D7) (.refl _) ⟨⟨_,_,_,G_hit,G2,Z,X0,Z⟩,trivial⟩
def E8 [Lp](p1:RoadsReader):Option (Int×RoadsReader):=
  (B0 p1).bind fun v1=>some (v1.1,v1.2)
theorem P7(p1 r)(h:E8 p1=some r):MCall prog 216 [(.ptr (900000,0) 0)] [(.box 154 [(.d (X6 p1.s)),(.d (bo p1.short))])] (di r.1) [some (.box 154 [(.d (X6 r.2.s)),(.d (bo r.2.short))])] []:=by
 refine X8 (fk func216 ntmps216 (fun r=>if r==1 then [1001001]else []) (by with_unfolding_all rfl)) Z (nl Z) ?_
 unfold E8 at h
 refine A8 (s0:=⟨T [(0,(.ptr _ _))],G [((900000,0),some<|.box 154 _)]⟩) (F5 Z Z) ?_
 refine C0<|sv Z<|A1<|C0<|sq Z<|bs h fun v1 hv1 h=>Aj (v:= .d (i64 v1.1)) (us:= [(900000,0)]) (Ai (C7 _ _ hv1) [(900000,0)] [(900000,0)] _ (((900000,0),some<|.box 154 [(.d (X6 v1.2.s)),(.d (bo v1.2.short))])::_) Z J0 (E0 (J1 G_hit Z) J2) (D5 G_hit G9) ⟨⟨_,G_hit, .of Z⟩,trivial⟩ (fun _ h=>h) nd1 Z Z Z) (sv Z<|A1<|C1 ?_)
 cases h
 exact Av (.inr Z) [] (Aw (C2 Z) D7) (.refl _) ⟨⟨_,_,_,G_hit,G2,Z,X0,Z⟩,trivial⟩
def V8 [Lp](p1:RoadsReader):Option (Spot×RoadsReader):=
  (B0 p1).bind fun v1=>(B0 v1.2).bind fun v2=>some ((Spot.mk v1.1 v2.1),v2.2)
theorem Nk(p1 r)(h:V8 p1=some r):MCall prog 218 [(.ptr (900000,0) 0)] [(.box 154 [(.d (X6 p1.s)),(.d (bo p1.short))])] (.d (.agg [(i64 r.1.X),(i64 r.1.Y)])) [some (.box 154 [(.d (X6 r.2.s)),(.d (bo r.2.short))])] []:=by
 refine X8 (fk func218 ntmps218 (fun r=>if r==1 then [1001001]else if r==2 then [1002002]else []) (by with_unfolding_all rfl)) Z (nl Z) ?_
 unfold V8 at h
 refine A8 (s0:=⟨T [(0,(.ptr _ _))],G [((900000,0),some<|.box 154 _)]⟩) (F5 Z Z) ?_
 refine C0<|sm Z<|A1<|C0<|sq Z<|bs h fun v1 hv1 h=>Aj (v:= .d (i64 v1.1)) (us:= [(900000,0)]) (Ai (C7 _ _ hv1) [(900000,0)] [(900000,0)] _ (((900000,0),some<|.box 154 [(.d (X6 v1.2.s)),(.d (bo v1.2.short))])::_) Z J0 (E0 (J1 (A7 Z G_hit) Z) J2) (D5 (A7 Z G_hit) G9) ⟨⟨_,(A7 Z G_hit), .of Z⟩,trivial⟩ (fun _ h=>h) nd1 Z Z Z) (sv Z<|A1<|C0<|sv Z<|sq Z<|bs h fun v2 hv2 h=>Aj (v:= .d (i64 v2.1)) (us:= [(900000,0)]) (Ai (C7 _ _ hv2) [(900000,0)] [(900000,0)] _ (((900000,0),some<|.box 154 [(.d (X6 v2.2.s)),(.d (bo v2.2.short))])::_) Z J0 (E0 (J1 G_hit Z) J2) (D5 G_hit G9) ⟨⟨_,G_hit, .of Z⟩,trivial⟩ (fun _ h=>h) nd1 Z Z Z) (sv Z<|X7 Z (gq Z) [(di v1.1),(di v2.1)] Z (A1<|C1 ?_)))
 cases h
 exact Av (.inr Z) [] (Aw (O8 Z G_hit (Nat.le_of_ble_eq_true Z) Z) D7) (.refl _) ⟨⟨_,_,_,(gq Z),G2,Z,X0,Z⟩,trivial⟩
def Q7 [Lp](x1:((List Spot)×Int×RoadsReader)):Option (Stp ((List Spot)×Int×RoadsReader) ((List Spot)×RoadsReader)):=
  cond ((decide (x1.2.1>0))&& (!x1.2.2.short)) ((V8 x1.2.2).bind fun v2=>(Bx x1.1 [v2.1]).bind fun v3=>some (.go (v3,(I4 (x1.2.1 - 1)),v2.2))) (some (.out (x1.1,x1.2.2)))
def N6 [Lp](p1:RoadsReader):Option ((List Spot)×RoadsReader):=
  (B0 p1).bind fun v1=>(loop (Q7) ([],v1.1,v1.2)).bind fun y1=>some (y1.1,y1.2)
theorem Dt(p1 r)(h:N6 p1=some r):MCall prog 217 [(.ptr (900000,0) 0),(.fn (.func 218) [(.ptr (900000,0) 0)] [])] [(.box 154 [(.d (X6 p1.s)),(.d (bo p1.short))])] (dl Q6 r.1) [some (.box 154 [(.d (X6 r.2.s)),(.d (bo r.2.short))])] []:=by
 refine X8 (fk func217 ntmps217 (fun r=>if r==2 then [1002001]else if r==5 then [1005002,1003]else []) (by with_unfolding_all rfl)) Z (nl Z) ?_
 unfold N6 at h
 refine A8 (s0:=⟨T [(0,(.ptr _ _)),(1,(.fn _ _ _))],G [((900000,0),some<|.box 154 _)]⟩) (F5 Z Z) ?_
 refine C0<|sv Z<|A1<|C0<|sv Z<|A1<|A4<|C0<|sq Z<|bs h fun v1 hv1 h=>Aj (v:= .d (i64 v1.1)) (us:= [(900000,0)]) (Ai (C7 _ _ hv1) [(900000,0)] [(900000,0)] _ (((900000,0),some<|.box 154 [(.d (X6 v1.2.s)),(.d (bo v1.2.short))])::_) Z J0 (E0 (J1 G_hit Z) J2) (D5 G_hit G9) ⟨⟨_,G_hit, .of Z⟩,trivial⟩ (fun _ h=>h) nd1 Z Z Z) (sv Z<|A1<|bs h fun y1 hy1 h=>D3 (fun s=> ∃g1:Nat,Sb ⟨T [(0,(.ptr (900000,0) 0)),(5,(oS y1.1 (24,g1)))],G [((900000,0),some<|.box 154 [(.d (X6 y1.2.s)),(.d (bo y1.2.short))]),((24,g1),oB 148 2 Q6 y1.1)]⟩ s) ?_ ?_)
 refine A5<|D6 (Q7) (fun (x1:((List Spot)×Int×RoadsReader)) (g2:Nat)=>⟨T [(0,(.ptr (900000,0) 0)),(1,(.fn (.func 218) [(.ptr (900000,0) 0)] [])),(5,(oS x1.1 (24,g2))),(6,(di x1.2.1))],G [((900000,0),some<|.box 154 [(.d (X6 x1.2.2.s)),(.d (bo x1.2.2.short))]),((24,g2),oB 148 2 Q6 x1.1)]⟩) ([],v1.1,v1.2) 0 _ hy1 (B8 (K6 Z)<|A2 G_hit (.of Z)<|Q5 trivial) ?_
 intro x1 g2 z1 hz1 ez1
 unfold Q7 at hz1
 refine A4<|C0<|sv Z<|sv Z<|sv Z<|gp Z (K0 Z) (fun _=>Z) ?_
 refine R8 _ (.ptr _ _) Z (K0 Z) (fun w2=>(by simp only [A9 w2];rfl)) ?_
 refine R8 _ (.ptr _ _) Z (K0 Z) (fun w3=>(by simp only [A9 w3];rfl)) ?_
 refine gt Z (vl Z G_hit Z) ?_
 refine R8 _ (.d (bo (!x1.2.2.short))) Z (K0 Z) (fun w5=>(by simp only [A9 w5];rfl)) ?_
 refine sa Z Z Z<|A1<|cc Z hz1 (fun c1 hz1=> ?_)<|fun c1 hz1=> ?_
 refine B4<|A4<|A5<|T8 fun u5 _=>B6 (oS x1.1 (24,g2)) Z Z (B6 (.fn _ _ _) Z Z (bs hz1 fun v2 hv2 hz1=>Aj (v:= .d (.agg [(i64 v2.1.X),(i64 v2.1.Y)])) (us:= [(900000,0)]) (Ai (Nk _ _ hv2) [(900000,0)] [(900000,0)] _ (((900000,0),some<|.box 154 [(.d (X6 v2.2.s)),(.d (bo v2.2.short))])::_) Z J0 (E0 (J1 G_hit Z) J2) (D5 G_hit G9) ⟨⟨_,G_hit, .of Z⟩,trivial⟩ (fun _ h=>h) nd1 Z Z Z) (B6 (dl Q6 [v2.1]) Z Z (bs hz1 fun _ hv3 hz1=>J3 Q6 (24,g2) x1.1 v2.1 [] _ (I0<|fun _=>Z) Z (gq Z) hv3 (ss Z<|A1<|D8<|A8 (s0:=⟨T [(0,(.ptr _ _)),(1,(.fn _ _ _)),(5,(.sl _)),(6,(.d _))],G [((900000,0),some<|.box 154 _),((24,u5),some _)]⟩) (F5 Z Z) ?_)))))
 refine B5<|sv Z<|sv Z<|sv Z<|A1<|D9 ?_
 cases hz1
 exact ⟨Z,u5,(B8 ⟨.of Z, .of Z,(.of (Q3<|N5 hv3).symm), .of Z,trivial⟩<|A2 G_hit (.of Z)<|I7 (gq Z) trivial)⟩
 refine C4 Z ?_
 cases hz1
 obtain rfl:=ez1 _ rfl
 refine ⟨nofun,C3 Z<|V2 ?_⟩
 exact ⟨g2,(B8 (K6 Z)<|A2 G_hit (.of Z)<|B3 (gq Z) trivial)⟩
 rintro _ ⟨g1,q1⟩
 refine A8 q1<|C0<|B6 (oS y1.1 (24,g1)) Z Z (B6 (oS y1.1 (24,g1)) Z Z (A1<|C1 ?_))
 cases h
 exact Av (.inr Z) [(24,g1)] (Aw (C2 Z)<|Ct<|Ql (.head _)<|gq Z) Cs ⟨⟨_,_,_,G_hit,(Es Z G2),Z,X0,Z⟩,trivial⟩
def Q0 [Lp](x1:((List Int)×Int×RoadsReader)):Option (Stp ((List Int)×Int×RoadsReader) ((List Int)×RoadsReader)):=
  cond ((decide (x1.2.1>0))&& (!x1.2.2.short)) ((E8 x1.2.2).bind fun v2=>(Bx x1.1 [v2.1]).bind fun v3=>some (.go (v3,(I4 (x1.2.1 - 1)),v2.2))) (some (.out (x1.1,x1.2.2)))
def H3 [Lp](p1:RoadsReader):Option ((List Int)×RoadsReader):=
  (B0 p1).bind fun v1=>(loop (Q0) ([],v1.1,v1.2)).bind fun y1=>some (y1.1,y1.2)
theorem V4(p1 r)(h:H3 p1=some r):MCall prog 219 [(.ptr (900000,0) 0),(.fn (.func 216) [(.ptr (900000,0) 0)] [])] [(.box 154 [(.d (X6 p1.s)),(.d (bo p1.short))])] (dl A3 r.1) [some (.box 154 [(.d (X6 r.2.s)),(.d (bo r.2.short))])] []:=by
 refine X8 (fk func219 ntmps219 (fun r=>if r==2 then [1002001]else if r==5 then [1005002,1003]else []) (by with_unfolding_all rfl)) Z (nl Z) ?_
 unfold H3 at h
 refine A8 (s0:=⟨T [(0,(.ptr _ _)),(1,(.fn _ _ _))],G [((900000,0),some<|.box 154 _)]⟩) (F5 Z Z) ?_
 refine C0<|sv Z<|A1<|C0<|sv Z<|A1<|A4<|C0<|sq Z<|bs h fun v1 hv1 h=>Aj (v:= .d (i64 v1.1)) (us:= [(900000,0)]) (Ai (C7 _ _ hv1) [(900000,0)] [(900000,0)] _ (((900000,0),some<|.box 154 [(.d (X6 v1.2.s)),(.d (bo v1.2.short))])::_) Z J0 (E0 (J1 G_hit Z) J2) (D5 G_hit G9) ⟨⟨_,G_hit, .of Z⟩,trivial⟩ (fun _ h=>h) nd1 Z Z Z) (sv Z<|A1<|bs h fun y1 hy1 h=>D3 (fun s=> ∃g1:Nat,Sb ⟨T [(0,(.ptr (900000,0) 0)),(5,(oS y1.1 (24,g1)))],G [((900000,0),some<|.box 154 [(.d (X6 y1.2.s)),(.d (bo y1.2.short))]),((24,g1),oB 3 1 A3 y1.1)]⟩ s) ?_ ?_)
 refine A5<|D6 (Q0) (fun (x1:((List Int)×Int×RoadsReader)) (g2:Nat)=>⟨T [(0,(.ptr (900000,0) 0)),(1,(.fn (.func 216) [(.ptr (900000,0) 0)] [])),(5,(oS x1.1 (24,g2))),(6,(di x1.2.1))],G [((900000,0),some<|.box 154 [(.d (X6 x1.2.2.s)),(.d (bo x1.2.2.short))]),((24,g2),oB 3 1 A3 x1.1)]⟩) ([],v1.1,v1.2) 0 _ hy1 (B8 (K6 Z)<|A2 G_hit (.of Z)<|Q5 trivial) ?_
 intro x1 g2 z1 hz1 ez1
 unfold Q0 at hz1
 refine A4<|C0<|sv Z<|sv Z<|sv Z<|gp Z (K0 Z) (fun _=>Z) ?_
 refine R8 _ (.ptr _ _) Z (K0 Z) (fun w2=>(by simp only [A9 w2];rfl)) ?_
 refine R8 _ (.ptr _ _) Z (K0 Z) (fun w3=>(by simp only [A9 w3];rfl)) ?_
 refine gt Z (vl Z G_hit Z) ?_
 refine R8 _ (.d (bo (!x1.2.2.short))) Z (K0 Z) (fun w5=>(by simp only [A9 w5];rfl)) ?_
 refine sa Z Z Z<|A1<|cc Z hz1 (fun c1 hz1=> ?_)<|fun c1 hz1=> ?_
 refine B4<|A4<|A5<|T8 fun u5 _=>B6 (oS x1.1 (24,g2)) Z Z (B6 (.fn _ _ _) Z Z (bs hz1 fun v2 hv2 hz1=>Aj (v:= .d (i64 v2.1)) (us:= [(900000,0)]) (Ai (P7 _ _ hv2) [(900000,0)] [(900000,0)] _ (((900000,0),some<|.box 154 [(.d (X6 v2.2.s)),(.d (bo v2.2.short))])::_) Z J0 (E0 (J1 G_hit Z) J2) (D5 G_hit G9) ⟨⟨_,G_hit, .of Z⟩,trivial⟩ (fun _ h=>h) nd1 Z Z Z) (B6 (dl A3 [v2.1]) Z Z (bs hz1 fun _ hv3 hz1=>J3 A3 (24,g2) x1.1 v2.1 [] _ (I0<|fun _=>Z) Z (gq Z) hv3 (ss Z<|A1<|D8<|A8 (s0:=⟨T [(0,(.ptr _ _)),(1,(.fn _ _ _)),(5,(.sl _)),(6,(.d _))],G [((900000,0),some<|.box 154 _),((24,u5),some _)]⟩) (F5 Z Z) ?_)))))
 refine B5<|sv Z<|sv Z<|sv Z<|A1<|D9 ?_
 cases hz1
 exact ⟨Z,u5,(B8 ⟨.of Z, .of Z,(.of (Q3<|N5 hv3).symm), .of Z,trivial⟩<|A2 G_hit (.of Z)<|I7 (gq Z) trivial)⟩
 refine C4 Z ?_
 cases hz1
 obtain rfl:=ez1 _ rfl
 refine ⟨nofun,C3 Z<|V2 ?_⟩
 exact ⟨g2,(B8 (K6 Z)<|A2 G_hit (.of Z)<|B3 (gq Z) trivial)⟩
 rintro _ ⟨g1,q1⟩
 refine A8 q1<|C0<|B6 (oS y1.1 (24,g1)) Z Z (B6 (oS y1.1 (24,g1)) Z Z (A1<|C1 ?_))
 cases h
 exact Av (.inr Z) [(24,g1)] (Aw (C2 Z)<|Ct<|Ql (.head _)<|gq Z) Cs ⟨⟨_,_,_,G_hit,(Es Z G2),Z,X0,Z⟩,trivial⟩
def V9 [Lp](p1:RoadsReader):Option (Lane×RoadsReader):=
  (E8 p1).bind fun v1=>(B0 v1.2).bind fun v2=>(B0 v2.2).bind fun v3=>(N6 v3.2).bind fun v4=>(H3 v4.2).bind fun v5=>some ((Lane.mk v1.1 (Curve.mk v4.1) v2.1 v3.1 v5.1),v5.2)
theorem Nl(p1 r)(h:V9 p1=some r):MCall prog 122 [(.ptr (900000,0) 0)] [(.box 154 [(.d (X6 p1.s)),(.d (bo p1.short))])] (.d (.agg (O1 r.1))) [some (.box 154 [(.d (X6 r.2.s)),(.d (bo r.2.short))])] []:=by
 refine X8 (fk func122 ntmps122 (fun r=>if r==1 then [1001001,1001003,1001005]else if r==2 then [1002003]else if r==3 then [1003003]else []) (by with_unfolding_all rfl)) Z (nl Z) ?_
 unfold V9 at h
 refine A8 (s0:=⟨T [(0,(.ptr _ _))],G [((900000,0),some<|.box 154 _)]⟩) (F5 Z Z) ?_
 refine lr<|fun u1 _=>sm Z<|A1<|C0<|sq Z<|bs h fun v1 hv1 h=>Aj (v:= .d (i64 v1.1)) (us:= [(900000,0)]) (Ai (P7 _ _ hv1) [(900000,0)] [(900000,0)] _ (((900000,0),some<|.box 154 [(.d (X6 v1.2.s)),(.d (bo v1.2.short))])::_) Z J0 (E0 (J1 (A7 Z G_hit) Z) J2) (D5 (A7 Z G_hit) G9) ⟨⟨_,(A7 Z G_hit), .of Z⟩,trivial⟩ (fun _ h=>h) nd1 Z Z Z) (sq Z<|bs h fun v2 hv2 h=>Aj (v:= .d (i64 v2.1)) (us:= [(900000,0)]) (Ai (C7 _ _ hv2) [(900000,0)] [(900000,0)] _ (((900000,0),some<|.box 154 [(.d (X6 v2.2.s)),(.d (bo v2.2.short))])::_) Z J0 (E0 (J1 G_hit Z) J2) (D5 G_hit G9) ⟨⟨_,G_hit, .of Z⟩,trivial⟩ (fun _ h=>h) nd1 Z Z Z) (sq Z<|bs h fun v3 hv3 h=>Aj (v:= .d (i64 v3.1)) (us:= [(900000,0)]) (Ai (C7 _ _ hv3) [(900000,0)] [(900000,0)] _ (((900000,0),some<|.box 154 [(.d (X6 v3.2.s)),(.d (bo v3.2.short))])::_) Z J0 (E0 (J1 G_hit Z) J2) (D5 G_hit G9) ⟨⟨_,G_hit, .of Z⟩,trivial⟩ (fun _ h=>h) nd1 Z Z Z) (sq Z<|X7 Z (gq Z) [(di v1.1),(.d .nilS),(di 0),(di 0),(.d .nilS)] Z (sq Z<|X7 Z G_hit [(di v1.1),(.d .nilS),(di v2.1),(di 0),(.d .nilS)] Z (sq Z<|X7 Z G_hit [(di v1.1),(.d .nilS),(di v2.1),(di v3.1),(.d .nilS)] Z (A1<|C0<|sq Z<|sp Z Z<|B6 (.fn _ _ _) Z Z (bs h fun v4 hv4 h=> ?_)))))))
 refine Aj (v:= .d (.list (List.map Q6 v4.1))) (us:= [(900000,0)]) (Ai (Dt _ _ hv4) [(900000,0)] [(900000,0),(900000,0)] _ (((900000,0),some<|.box 154 [(.d (X6 v4.2.s)),(.d (bo v4.2.short))])::_) Z J0 (E0 (J1 (A7 Z<|A7 Z<|A7 Z G_hit) Z)<|E0 (Nx (E0 (J1 (A7 Z<|A7 Z<|A7 Z G_hit) Z) J2) Z) J2) (D5 (A7 Z<|A7 Z<|A7 Z G_hit)<|D5 (A7 Z<|A7 Z<|A7 Z G_hit) G9) ⟨⟨_,(A7 Z<|A7 Z<|A7 Z G_hit), .of Z⟩,trivial⟩ (by simp) nd1 Z Z Z) ?_
 refine sp Z Z<|sq Z<|X7 Z (gq Z) [(di v1.1),(dl Q6 v4.1),(di v2.1),(di v3.1),(.d .nilS)] Z (A1<|A4<|A8 (s0:=⟨T [(0,(.ptr _ _)),(2,(.ptr _ _))],G [((900000,0),some<|.box 154 _),((2,u1),some<|.box 42 _)]⟩) (F5 Z Z) ?_)
 refine B5<|sq Z<|sq Z<|B6 (.fn _ _ _) Z Z (bs h fun v5 hv5 h=> ?_)
 refine Aj (v:= .d (.list (List.map A3 v5.1))) (us:= [(900000,0)]) (Ai (V4 _ _ hv5) [(900000,0)] [(900000,0),(900000,0)] _ (((900000,0),some<|.box 154 [(.d (X6 v5.2.s)),(.d (bo v5.2.short))])::_) Z J0 (E0 (J1 G_hit Z)<|E0 (Nx (E0 (J1 G_hit Z) J2) Z) J2) (D5 G_hit<|D5 G_hit G9) ⟨⟨_,G_hit, .of Z⟩,trivial⟩ (by simp) nd1 Z Z Z) ?_
 refine sp Z Z<|X7 Z (gq Z) [(di v1.1),(dl Q6 v4.1),(di v2.1),(di v3.1),(dl A3 v5.1)] Z (A1<|C0<|sd Z (C6 Z G_hit Z Z)<|X7 Z G_hit [(di v1.1),(dl Q6 v4.1),(di v2.1),(di v3.1),(dl A3 v5.1)] Z (A1<|C1 ?_))
 cases h
 exact Av (.inr Z) [] (Aw (O8 Z G_hit (Nat.le_of_ble_eq_true Z) Z) D7) (.refl _) ⟨⟨_,_,_,(gq Z),G2,Z,X0,Z⟩,trivial⟩
def Q8 [Lp](x1:((List Lane)×Int×RoadsReader)):Option (Stp ((List Lane)×Int×RoadsReader) ((List Lane)×RoadsReader)):=
  cond ((decide (x1.2.1>0))&& (!x1.2.2.short)) ((V9 x1.2.2).bind fun v2=>(Bx x1.1 [v2.1]).bind fun v3=>some (.go (v3,(I4 (x1.2.1 - 1)),v2.2))) (some (.out (x1.1,x1.2.2)))
def K8 [Lp](p1:RoadsReader):Option ((List Lane)×RoadsReader):=
  (B0 p1).bind fun v1=>(loop (Q8) ([],v1.1,v1.2)).bind fun y1=>some (y1.1,y1.2)
theorem Du(p1 r)(h:K8 p1=some r):MCall prog 121 [(.ptr (900000,0) 0),(.fn (.func 122) [(.ptr (900000,0) 0)] [])] [(.box 154 [(.d (X6 p1.s)),(.d (bo p1.short))])] (dl O1 r.1) [some (.box 154 [(.d (X6 r.2.s)),(.d (bo r.2.short))])] []:=by
 refine X8 (fk func121 ntmps121 (fun r=>if r==2 then [1002001]else if r==5 then [1005002,1003]else []) (by with_unfolding_all rfl)) Z (nl Z) ?_
 unfold K8 at h
 refine A8 (s0:=⟨T [(0,(.ptr _ _)),(1,(.fn _ _ _))],G [((900000,0),some<|.box 154 _)]⟩) (F5 Z Z) ?_
 refine C0<|sv Z<|A1<|C0<|sv Z<|A1<|A4<|C0<|sq Z<|bs h fun v1 hv1 h=>Aj (v:= .d (i64 v1.1)) (us:= [(900000,0)]) (Ai (C7 _ _ hv1) [(900000,0)] [(900000,0)] _ (((900000,0),some<|.box 154 [(.d (X6 v1.2.s)),(.d (bo v1.2.short))])::_) Z J0 (E0 (J1 G_hit Z) J2) (D5 G_hit G9) ⟨⟨_,G_hit, .of Z⟩,trivial⟩ (fun _ h=>h) nd1 Z Z Z) (sv Z<|A1<|bs h fun y1 hy1 h=>D3 (fun s=> ∃g1:Nat,Sb ⟨T [(0,(.ptr (900000,0) 0)),(5,(oS y1.1 (24,g1)))],G [((900000,0),some<|.box 154 [(.d (X6 y1.2.s)),(.d (bo y1.2.short))]),((24,g1),oB 42 5 O1 y1.1)]⟩ s) ?_ ?_)
 refine A5<|D6 (Q8) (fun (x1:((List Lane)×Int×RoadsReader)) (g2:Nat)=>⟨T [(0,(.ptr (900000,0) 0)),(1,(.fn (.func 122) [(.ptr (900000,0) 0)] [])),(5,(oS x1.1 (24,g2))),(6,(di x1.2.1))],G [((900000,0),some<|.box 154 [(.d (X6 x1.2.2.s)),(.d (bo x1.2.2.short))]),((24,g2),oB 42 5 O1 x1.1)]⟩) ([],v1.1,v1.2) 0 _ hy1 (B8 (K6 Z)<|A2 G_hit (.of Z)<|Q5 trivial) ?_
 intro x1 g2 z1 hz1 ez1
 unfold Q8 at hz1
 refine A4<|C0<|sv Z<|sv Z<|sv Z<|gp Z (K0 Z) (fun _=>Z) ?_
 refine R8 _ (.ptr _ _) Z (K0 Z) (fun w2=>(by simp only [A9 w2];rfl)) ?_
 refine R8 _ (.ptr _ _) Z (K0 Z) (fun w3=>(by simp only [A9 w3];rfl)) ?_
 refine gt Z (vl Z G_hit Z) ?_
 refine R8 _ (.d (bo (!x1.2.2.short))) Z (K0 Z) (fun w5=>(by simp only [A9 w5];rfl)) ?_
 refine sa Z Z Z<|A1<|cc Z hz1 (fun c1 hz1=> ?_)<|fun c1 hz1=> ?_
 refine B4<|A4<|A5<|T8 fun u5 _=>B6 (oS x1.1 (24,g2)) Z Z (B6 (.fn _ _ _) Z Z (bs hz1 fun v2 hv2 hz1=>Aj (v:= .d (.agg (O1 v2.1))) (us:= [(900000,0)]) (Ai (Nl _ _ hv2) [(900000,0)] [(900000,0)] _ (((900000,0),some<|.box 154 [(.d (X6 v2.2.s)),(.d (bo v2.2.short))])::_) Z J0 (E0 (J1 G_hit Z) J2) (D5 G_hit G9) ⟨⟨_,G_hit, .of Z⟩,trivial⟩ (fun _ h=>h) nd1 Z Z Z) (B6 (dl O1 [v2.1]) Z Z (bs hz1 fun _ hv3 hz1=>J3 O1 (24,g2) x1.1 v2.1 [] _ (I0<|fun _=>Z) Z (gq Z) hv3 (ss Z<|A1<|D8<|A8 (s0:=⟨T [(0,(.ptr _ _)),(1,(.fn _ _ _)),(5,(.sl _)),(6,(.d _))],G [((900000,0),some<|.box 154 _),((24,u5),some _)]⟩) (F5 Z Z) ?_)))))
 refine B5<|sv Z<|sv Z<|sv Z<|A1<|D9 ?_
 cases hz1
 exact ⟨Z,u5,(B8 ⟨.of Z, .of Z,(.of (Q3<|N5 hv3).symm), .of Z,trivial⟩<|A2 G_hit (.of Z)<|I7 (gq Z) trivial)⟩
 refine C4 Z ?_
 cases hz1
 obtain rfl:=ez1 _ rfl
 refine ⟨nofun,C3 Z<|V2 ?_⟩
 exact ⟨g2,(B8 (K6 Z)<|A2 G_hit (.of Z)<|B3 (gq Z) trivial)⟩
 rintro _ ⟨g1,q1⟩
 refine A8 q1<|C0<|B6 (oS y1.1 (24,g1)) Z Z (B6 (oS y1.1 (24,g1)) Z Z (A1<|C1 ?_))
 cases h
 exact Av (.inr Z) [(24,g1)] (Aw (C2 Z)<|Ct<|Ql (.head _)<|gq Z) Cs ⟨⟨_,_,_,G_hit,(Es Z G2),Z,X0,Z⟩,trivial⟩
def W0 [Lp](p1:RoadsReader):Option (Part×RoadsReader):=
  (E8 p1).bind fun v1=>(B0 v1.2).bind fun v2=>(B0 v2.2).bind fun v3=>(E8 v3.2).bind fun v4=>some ((Part.mk v1.1 v2.1 v3.1 v4.1),v4.2)
theorem Nm(p1 r)(h:W0 p1=some r):MCall prog 221 [(.ptr (900000,0) 0)] [(.box 154 [(.d (X6 p1.s)),(.d (bo p1.short))])] (.d (.agg (H5 r.1))) [some (.box 154 [(.d (X6 r.2.s)),(.d (bo r.2.short))])] []:=by
 refine X8 (fk func221 ntmps221 (fun r=>if r==1 then [1001001,1001003,1001005]else if r==2 then [1002001]else []) (by with_unfolding_all rfl)) Z (nl Z) ?_
 unfold W0 at h
 refine A8 (s0:=⟨T [(0,(.ptr _ _))],G [((900000,0),some<|.box 154 _)]⟩) (F5 Z Z) ?_
 refine lr<|fun u1 _=>sm Z<|A1<|C0<|sq Z<|bs h fun v1 hv1 h=>Aj (v:= .d (i64 v1.1)) (us:= [(900000,0)]) (Ai (P7 _ _ hv1) [(900000,0)] [(900000,0)] _ (((900000,0),some<|.box 154 [(.d (X6 v1.2.s)),(.d (bo v1.2.short))])::_) Z J0 (E0 (J1 (A7 Z G_hit) Z) J2) (D5 (A7 Z G_hit) G9) ⟨⟨_,(A7 Z G_hit), .of Z⟩,trivial⟩ (fun _ h=>h) nd1 Z Z Z) (sq Z<|bs h fun v2 hv2 h=>Aj (v:= .d (i64 v2.1)) (us:= [(900000,0)]) (Ai (C7 _ _ hv2) [(900000,0)] [(900000,0)] _ (((900000,0),some<|.box 154 [(.d (X6 v2.2.s)),(.d (bo v2.2.short))])::_) Z J0 (E0 (J1 G_hit Z) J2) (D5 G_hit G9) ⟨⟨_,G_hit, .of Z⟩,trivial⟩ (fun _ h=>h) nd1 Z Z Z) (sq Z<|bs h fun v3 hv3 h=>Aj (v:= .d (i64 v3.1)) (us:= [(900000,0)]) (Ai (C7 _ _ hv3) [(900000,0)] [(900000,0)] _ (((900000,0),some<|.box 154 [(.d (X6 v3.2.s)),(.d (bo v3.2.short))])::_) Z J0 (E0 (J1 G_hit Z) J2) (D5 G_hit G9) ⟨⟨_,G_hit, .of Z⟩,trivial⟩ (fun _ h=>h) nd1 Z Z Z) (sq Z<|X7 Z (gq Z) [(di v1.1),(di 0),(di 0),(di 0)] Z (sq Z<|X7 Z G_hit [(di v1.1),(di v2.1),(di 0),(di 0)] Z (sq Z<|X7 Z G_hit [(di v1.1),(di v2.1),(di v3.1),(di 0)] Z (A1<|C0<|sq Z<|bs h fun v4 hv4 h=>Aj (v:= .d (i64 v4.1)) (us:= [(900000,0)]) (Ai (P7 _ _ hv4) [(900000,0)] [(900000,0)] _ (((900000,0),some<|.box 154 [(.d (X6 v4.2.s)),(.d (bo v4.2.short))])::_) Z J0 (E0 (J1 (A7 Z<|A7 Z<|A7 Z G_hit) Z) J2) (D5 (A7 Z<|A7 Z<|A7 Z G_hit) G9) ⟨⟨_,(A7 Z<|A7 Z<|A7 Z G_hit), .of Z⟩,trivial⟩ (fun _ h=>h) nd1 Z Z Z) (sq Z<|X7 Z (gq Z) [(di v1.1),(di v2.1),(di v3.1),(di v4.1)] Z (A1<|A4<|A8 (s0:=⟨T [(0,(.ptr _ _)),(2,(.ptr _ _))],G [((900000,0),some<|.box 154 _),((2,u1),some<|.box 91 _)]⟩) (F5 Z Z) ?_))))))))
 refine B5<|sd Z (C6 Z (gq Z) Z Z)<|X7 Z (gq Z) [(di v1.1),(di v2.1),(di v3.1),(di v4.1)] Z (A1<|C1 ?_)
 cases h
 exact Av (.inr Z) [] (Aw (O8 Z G_hit (Nat.le_of_ble_eq_true Z) Z) D7) (.refl _) ⟨⟨_,_,_,(gq Z),G2,Z,X0,Z⟩,trivial⟩
def Q9 [Lp](x1:((List Part)×Int×RoadsReader)):Option (Stp ((List Part)×Int×RoadsReader) ((List Part)×RoadsReader)):=
  cond ((decide (x1.2.1>0))&& (!x1.2.2.short)) ((W0 x1.2.2).bind fun v2=>(Bx x1.1 [v2.1]).bind fun v3=>some (.go (v3,(I4 (x1.2.1 - 1)),v2.2))) (some (.out (x1.1,x1.2.2)))
def N7 [Lp](p1:RoadsReader):Option ((List Part)×RoadsReader):=
  (B0 p1).bind fun v1=>(loop (Q9) ([],v1.1,v1.2)).bind fun y1=>some (y1.1,y1.2)
theorem Dv(p1 r)(h:N7 p1=some r):MCall prog 220 [(.ptr (900000,0) 0),(.fn (.func 221) [(.ptr (900000,0) 0)] [])] [(.box 154 [(.d (X6 p1.s)),(.d (bo p1.short))])] (dl H5 r.1) [some (.box 154 [(.d (X6 r.2.s)),(.d (bo r.2.short))])] []:=by
 refine X8 (fk func220 ntmps220 (fun r=>if r==2 then [1002001]else if r==5 then [1005002,1003]else []) (by with_unfolding_all rfl)) Z (nl Z) ?_
 unfold N7 at h
 refine A8 (s0:=⟨T [(0,(.ptr _ _)),(1,(.fn _ _ _))],G [((900000,0),some<|.box 154 _)]⟩) (F5 Z Z) ?_
 refine C0<|sv Z<|A1<|C0<|sv Z<|A1<|A4<|C0<|sq Z<|bs h fun v1 hv1 h=>Aj (v:= .d (i64 v1.1)) (us:= [(900000,0)]) (Ai (C7 _ _ hv1) [(900000,0)] [(900000,0)] _ (((900000,0),some<|.box 154 [(.d (X6 v1.2.s)),(.d (bo v1.2.short))])::_) Z J0 (E0 (J1 G_hit Z) J2) (D5 G_hit G9) ⟨⟨_,G_hit, .of Z⟩,trivial⟩ (fun _ h=>h) nd1 Z Z Z) (sv Z<|A1<|bs h fun y1 hy1 h=>D3 (fun s=> ∃g1:Nat,Sb ⟨T [(0,(.ptr (900000,0) 0)),(5,(oS y1.1 (24,g1)))],G [((900000,0),some<|.box 154 [(.d (X6 y1.2.s)),(.d (bo y1.2.short))]),((24,g1),oB 91 4 H5 y1.1)]⟩ s) ?_ ?_)
 refine A5<|D6 (Q9) (fun (x1:((List Part)×Int×RoadsReader)) (g2:Nat)=>⟨T [(0,(.ptr (900000,0) 0)),(1,(.fn (.func 221) [(.ptr (900000,0) 0)] [])),(5,(oS x1.1 (24,g2))),(6,(di x1.2.1))],G [((900000,0),some<|.box 154 [(.d (X6 x1.2.2.s)),(.d (bo x1.2.2.short))]),((24,g2),oB 91 4 H5 x1.1)]⟩) ([],v1.1,v1.2) 0 _ hy1 (B8 (K6 Z)<|A2 G_hit (.of Z)<|Q5 trivial) ?_
 intro x1 g2 z1 hz1 ez1
 unfold Q9 at hz1
 refine A4<|C0<|sv Z<|sv Z<|sv Z<|gp Z (K0 Z) (fun _=>Z) ?_
 refine R8 _ (.ptr _ _) Z (K0 Z) (fun w2=>(by simp only [A9 w2];rfl)) ?_
 refine R8 _ (.ptr _ _) Z (K0 Z) (fun w3=>(by simp only [A9 w3];rfl)) ?_
 refine gt Z (vl Z G_hit Z) ?_
 refine R8 _ (.d (bo (!x1.2.2.short))) Z (K0 Z) (fun w5=>(by simp only [A9 w5];rfl)) ?_
 refine sa Z Z Z<|A1<|cc Z hz1 (fun c1 hz1=> ?_)<|fun c1 hz1=> ?_
 refine B4<|A4<|A5<|T8 fun u5 _=>B6 (oS x1.1 (24,g2)) Z Z (B6 (.fn _ _ _) Z Z (bs hz1 fun v2 hv2 hz1=>Aj (v:= .d (.agg (H5 v2.1))) (us:= [(900000,0)]) (Ai (Nm _ _ hv2) [(900000,0)] [(900000,0)] _ (((900000,0),some<|.box 154 [(.d (X6 v2.2.s)),(.d (bo v2.2.short))])::_) Z J0 (E0 (J1 G_hit Z) J2) (D5 G_hit G9) ⟨⟨_,G_hit, .of Z⟩,trivial⟩ (fun _ h=>h) nd1 Z Z Z) (B6 (dl H5 [v2.1]) Z Z (bs hz1 fun _ hv3 hz1=>J3 H5 (24,g2) x1.1 v2.1 [] _ (I0<|fun _=>Z) Z (gq Z) hv3 (ss Z<|A1<|D8<|A8 (s0:=⟨T [(0,(.ptr _ _)),(1,(.fn _ _ _)),(5,(.sl _)),(6,(.d _))],G [((900000,0),some<|.box 154 _),((24,u5),some _)]⟩) (F5 Z Z) ?_)))))
 refine B5<|sv Z<|sv Z<|sv Z<|A1<|D9 ?_
 cases hz1
 exact ⟨Z,u5,(B8 ⟨.of Z, .of Z,(.of (Q3<|N5 hv3).symm), .of Z,trivial⟩<|A2 G_hit (.of Z)<|I7 (gq Z) trivial)⟩
 refine C4 Z ?_
 cases hz1
 obtain rfl:=ez1 _ rfl
 refine ⟨nofun,C3 Z<|V2 ?_⟩
 exact ⟨g2,(B8 (K6 Z)<|A2 G_hit (.of Z)<|B3 (gq Z) trivial)⟩
 rintro _ ⟨g1,q1⟩
 refine A8 q1<|C0<|B6 (oS y1.1 (24,g1)) Z Z (B6 (oS y1.1 (24,g1)) Z Z (A1<|C1 ?_))
 cases h
 exact Av (.inr Z) [(24,g1)] (Aw (C2 Z)<|Ct<|Ql (.head _)<|gq Z) Cs ⟨⟨_,_,_,G_hit,(Es Z G2),Z,X0,Z⟩,trivial⟩
def W1 [Lp](p1:RoadsReader):Option (Zone×RoadsReader):=
  (E8 p1).bind fun v1=>(N7 v1.2).bind fun v2=>some ((Zone.mk v2.1 v1.1),v2.2)
theorem Nn(p1 r)(h:W1 p1=some r):MCall prog 124 [(.ptr (900000,0) 0)] [(.box 154 [(.d (X6 p1.s)),(.d (bo p1.short))])] (.d (.agg [(.list (List.map H5 r.1.Parts)),(i64 r.1.Signal_)])) [some (.box 154 [(.d (X6 r.2.s)),(.d (bo r.2.short))])] []:=by
 refine X8 (fk func124 ntmps124 (fun r=>if r==1 then [1001001]else if r==2 then [1002004]else []) (by with_unfolding_all rfl)) Z (nl Z) ?_
 unfold W1 at h
 refine A8 (s0:=⟨T [(0,(.ptr _ _))],G [((900000,0),some<|.box 154 _)]⟩) (F5 Z Z) ?_
 refine C0<|sm Z<|A1<|C0<|sq Z<|bs h fun v1 hv1 h=>Aj (v:= .d (i64 v1.1)) (us:= [(900000,0)]) (Ai (P7 _ _ hv1) [(900000,0)] [(900000,0)] _ (((900000,0),some<|.box 154 [(.d (X6 v1.2.s)),(.d (bo v1.2.short))])::_) Z J0 (E0 (J1 (A7 Z G_hit) Z) J2) (D5 (A7 Z G_hit) G9) ⟨⟨_,(A7 Z G_hit), .of Z⟩,trivial⟩ (fun _ h=>h) nd1 Z Z Z) (sv Z<|A1<|C0<|sv Z<|sq Z<|sp Z Z<|B6 (.fn _ _ _) Z Z (bs h fun v2 hv2 h=> ?_))
 refine Aj (v:= .d (.list (List.map H5 v2.1))) (us:= [(900000,0)]) (Ai (Dv _ _ hv2) [(900000,0)] [(900000,0),(900000,0)] _ (((900000,0),some<|.box 154 [(.d (X6 v2.2.s)),(.d (bo v2.2.short))])::_) Z J0 (E0 (J1 G_hit Z)<|E0 (Nx (E0 (J1 G_hit Z) J2) Z) J2) (D5 G_hit<|D5 G_hit G9) ⟨⟨_,G_hit, .of Z⟩,trivial⟩ (by simp) nd1 Z Z Z) ?_
 refine sv Z<|X7 Z (gq Z) [(dl H5 v2.1),(di v1.1)] Z (A1<|C1 ?_)
 cases h
 exact Av (.inr Z) [] (Aw (O8 Z G_hit (Nat.le_of_ble_eq_true Z) Z) D7) (.refl _) ⟨⟨_,_,_,(gq Z),G2,Z,X0,Z⟩,trivial⟩
def R0 [Lp](x1:((List Zone)×Int×RoadsReader)):Option (Stp ((List Zone)×Int×RoadsReader) ((List Zone)×RoadsReader)):=
  cond ((decide (x1.2.1>0))&& (!x1.2.2.short)) ((W1 x1.2.2).bind fun v2=>(Bx x1.1 [v2.1]).bind fun v3=>some (.go (v3,(I4 (x1.2.1 - 1)),v2.2))) (some (.out (x1.1,x1.2.2)))
def K9 [Lp](p1:RoadsReader):Option ((List Zone)×RoadsReader):=
  (B0 p1).bind fun v1=>(loop (R0) ([],v1.1,v1.2)).bind fun y1=>some (y1.1,y1.2)
theorem Dw(p1 r)(h:K9 p1=some r):MCall prog 123 [(.ptr (900000,0) 0),(.fn (.func 124) [(.ptr (900000,0) 0)] [])] [(.box 154 [(.d (X6 p1.s)),(.d (bo p1.short))])] (dl K4 r.1) [some (.box 154 [(.d (X6 r.2.s)),(.d (bo r.2.short))])] []:=by
 refine X8 (fk func123 ntmps123 (fun r=>if r==2 then [1002001]else if r==5 then [1005002,1003]else []) (by with_unfolding_all rfl)) Z (nl Z) ?_
 unfold K9 at h
 refine A8 (s0:=⟨T [(0,(.ptr _ _)),(1,(.fn _ _ _))],G [((900000,0),some<|.box 154 _)]⟩) (F5 Z Z) ?_
 refine C0<|sv Z<|A1<|C0<|sv Z<|A1<|A4<|C0<|sq Z<|bs h fun v1 hv1 h=>Aj (v:= .d (i64 v1.1)) (us:= [(900000,0)]) (Ai (C7 _ _ hv1) [(900000,0)] [(900000,0)] _ (((900000,0),some<|.box 154 [(.d (X6 v1.2.s)),(.d (bo v1.2.short))])::_) Z J0 (E0 (J1 G_hit Z) J2) (D5 G_hit G9) ⟨⟨_,G_hit, .of Z⟩,trivial⟩ (fun _ h=>h) nd1 Z Z Z) (sv Z<|A1<|bs h fun y1 hy1 h=>D3 (fun s=> ∃g1:Nat,Sb ⟨T [(0,(.ptr (900000,0) 0)),(5,(oS y1.1 (24,g1)))],G [((900000,0),some<|.box 154 [(.d (X6 y1.2.s)),(.d (bo y1.2.short))]),((24,g1),oB 45 2 K4 y1.1)]⟩ s) ?_ ?_)
 refine A5<|D6 (R0) (fun (x1:((List Zone)×Int×RoadsReader)) (g2:Nat)=>⟨T [(0,(.ptr (900000,0) 0)),(1,(.fn (.func 124) [(.ptr (900000,0) 0)] [])),(5,(oS x1.1 (24,g2))),(6,(di x1.2.1))],G [((900000,0),some<|.box 154 [(.d (X6 x1.2.2.s)),(.d (bo x1.2.2.short))]),((24,g2),oB 45 2 K4 x1.1)]⟩) ([],v1.1,v1.2) 0 _ hy1 (B8 (K6 Z)<|A2 G_hit (.of Z)<|Q5 trivial) ?_
 intro x1 g2 z1 hz1 ez1
 unfold R0 at hz1
 refine A4<|C0<|sv Z<|sv Z<|sv Z<|gp Z (K0 Z) (fun _=>Z) ?_
 refine R8 _ (.ptr _ _) Z (K0 Z) (fun w2=>(by simp only [A9 w2];rfl)) ?_
 refine R8 _ (.ptr _ _) Z (K0 Z) (fun w3=>(by simp only [A9 w3];rfl)) ?_
 refine gt Z (vl Z G_hit Z) ?_
 refine R8 _ (.d (bo (!x1.2.2.short))) Z (K0 Z) (fun w5=>(by simp only [A9 w5];rfl)) ?_
 refine sa Z Z Z<|A1<|cc Z hz1 (fun c1 hz1=> ?_)<|fun c1 hz1=> ?_
 refine B4<|A4<|A5<|T8 fun u5 _=>B6 (oS x1.1 (24,g2)) Z Z (B6 (.fn _ _ _) Z Z (bs hz1 fun v2 hv2 hz1=>Aj (v:= .d (.agg [(.list (List.map H5 v2.1.Parts)),(i64 v2.1.Signal_)])) (us:= [(900000,0)]) (Ai (Nn _ _ hv2) [(900000,0)] [(900000,0)] _ (((900000,0),some<|.box 154 [(.d (X6 v2.2.s)),(.d (bo v2.2.short))])::_) Z J0 (E0 (J1 G_hit Z) J2) (D5 G_hit G9) ⟨⟨_,G_hit, .of Z⟩,trivial⟩ (fun _ h=>h) nd1 Z Z Z) (B6 (dl K4 [v2.1]) Z Z (bs hz1 fun _ hv3 hz1=>J3 K4 (24,g2) x1.1 v2.1 [] _ (I0<|fun _=>Z) Z (gq Z) hv3 (ss Z<|A1<|D8<|A8 (s0:=⟨T [(0,(.ptr _ _)),(1,(.fn _ _ _)),(5,(.sl _)),(6,(.d _))],G [((900000,0),some<|.box 154 _),((24,u5),some _)]⟩) (F5 Z Z) ?_)))))
 refine B5<|sv Z<|sv Z<|sv Z<|A1<|D9 ?_
 cases hz1
 exact ⟨Z,u5,(B8 ⟨.of Z, .of Z,(.of (Q3<|N5 hv3).symm), .of Z,trivial⟩<|A2 G_hit (.of Z)<|I7 (gq Z) trivial)⟩
 refine C4 Z ?_
 cases hz1
 obtain rfl:=ez1 _ rfl
 refine ⟨nofun,C3 Z<|V2 ?_⟩
 exact ⟨g2,(B8 (K6 Z)<|A2 G_hit (.of Z)<|B3 (gq Z) trivial)⟩
 rintro _ ⟨g1,q1⟩
 refine A8 q1<|C0<|B6 (oS y1.1 (24,g1)) Z Z (B6 (oS y1.1 (24,g1)) Z Z (A1<|C1 ?_))
 cases h
 exact Av (.inr Z) [(24,g1)] (Aw (C2 Z)<|Ct<|Ql (.head _)<|gq Z) Cs ⟨⟨_,_,_,G_hit,(Es Z G2),Z,X0,Z⟩,trivial⟩
def U0 [Lp](p1:RoadsReader):Option (Phase×RoadsReader):=
  (B0 p1).bind fun v1=>(H3 v1.2).bind fun v2=>some ((Phase.mk v1.1 v2.1),v2.2)
theorem Mr(p1 r)(h:U0 p1=some r):MCall prog 223 [(.ptr (900000,0) 0)] [(.box 154 [(.d (X6 p1.s)),(.d (bo p1.short))])] (.d (.agg [(i64 r.1.Ticks),(.list (List.map A3 r.1.Green))])) [some (.box 154 [(.d (X6 r.2.s)),(.d (bo r.2.short))])] []:=by
 refine X8 (fk func223 ntmps223 (fun r=>if r==1 then [1001001]else if r==2 then [1002004]else []) (by with_unfolding_all rfl)) Z (nl Z) ?_
 unfold U0 at h
 refine A8 (s0:=⟨T [(0,(.ptr _ _))],G [((900000,0),some<|.box 154 _)]⟩) (F5 Z Z) ?_
 refine C0<|sm Z<|A1<|C0<|sq Z<|bs h fun v1 hv1 h=>Aj (v:= .d (i64 v1.1)) (us:= [(900000,0)]) (Ai (C7 _ _ hv1) [(900000,0)] [(900000,0)] _ (((900000,0),some<|.box 154 [(.d (X6 v1.2.s)),(.d (bo v1.2.short))])::_) Z J0 (E0 (J1 (A7 Z G_hit) Z) J2) (D5 (A7 Z G_hit) G9) ⟨⟨_,(A7 Z G_hit), .of Z⟩,trivial⟩ (fun _ h=>h) nd1 Z Z Z) (sv Z<|A1<|C0<|sv Z<|sq Z<|sp Z Z<|B6 (.fn _ _ _) Z Z (bs h fun v2 hv2 h=> ?_))
 refine Aj (v:= .d (.list (List.map A3 v2.1))) (us:= [(900000,0)]) (Ai (V4 _ _ hv2) [(900000,0)] [(900000,0),(900000,0)] _ (((900000,0),some<|.box 154 [(.d (X6 v2.2.s)),(.d (bo v2.2.short))])::_) Z J0 (E0 (J1 G_hit Z)<|E0 (Nx (E0 (J1 G_hit Z) J2) Z) J2) (D5 G_hit<|D5 G_hit G9) ⟨⟨_,G_hit, .of Z⟩,trivial⟩ (by simp) nd1 Z Z Z) ?_
 refine sv Z<|X7 Z (gq Z) [(di v1.1),(dl A3 v2.1)] Z (A1<|C1 ?_)
 cases h
 exact Av (.inr Z) [] (Aw (O8 Z G_hit (Nat.le_of_ble_eq_true Z) Z) D7) (.refl _) ⟨⟨_,_,_,(gq Z),G2,Z,X0,Z⟩,trivial⟩
def Q1 [Lp](x1:((List Phase)×Int×RoadsReader)):Option (Stp ((List Phase)×Int×RoadsReader) ((List Phase)×RoadsReader)):=
  cond ((decide (x1.2.1>0))&& (!x1.2.2.short)) ((U0 x1.2.2).bind fun v2=>(Bx x1.1 [v2.1]).bind fun v3=>some (.go (v3,(I4 (x1.2.1 - 1)),v2.2))) (some (.out (x1.1,x1.2.2)))
def M3 [Lp](p1:RoadsReader):Option ((List Phase)×RoadsReader):=
  (B0 p1).bind fun v1=>(loop (Q1) ([],v1.1,v1.2)).bind fun y1=>some (y1.1,y1.2)
theorem Dg(p1 r)(h:M3 p1=some r):MCall prog 222 [(.ptr (900000,0) 0),(.fn (.func 223) [(.ptr (900000,0) 0)] [])] [(.box 154 [(.d (X6 p1.s)),(.d (bo p1.short))])] (dl L4 r.1) [some (.box 154 [(.d (X6 r.2.s)),(.d (bo r.2.short))])] []:=by
 refine X8 (fk func222 ntmps222 (fun r=>if r==2 then [1002001]else if r==5 then [1005002,1003]else []) (by with_unfolding_all rfl)) Z (nl Z) ?_
 unfold M3 at h
 refine A8 (s0:=⟨T [(0,(.ptr _ _)),(1,(.fn _ _ _))],G [((900000,0),some<|.box 154 _)]⟩) (F5 Z Z) ?_
 refine C0<|sv Z<|A1<|C0<|sv Z<|A1<|A4<|C0<|sq Z<|bs h fun v1 hv1 h=>Aj (v:= .d (i64 v1.1)) (us:= [(900000,0)]) (Ai (C7 _ _ hv1) [(900000,0)] [(900000,0)] _ (((900000,0),some<|.box 154 [(.d (X6 v1.2.s)),(.d (bo v1.2.short))])::_) Z J0 (E0 (J1 G_hit Z) J2) (D5 G_hit G9) ⟨⟨_,G_hit, .of Z⟩,trivial⟩ (fun _ h=>h) nd1 Z Z Z) (sv Z<|A1<|bs h fun y1 hy1 h=>D3 (fun s=> ∃g1:Nat,Sb ⟨T [(0,(.ptr (900000,0) 0)),(5,(oS y1.1 (24,g1)))],G [((900000,0),some<|.box 154 [(.d (X6 y1.2.s)),(.d (bo y1.2.short))]),((24,g1),oB 97 2 L4 y1.1)]⟩ s) ?_ ?_)
 refine A5<|D6 (Q1) (fun (x1:((List Phase)×Int×RoadsReader)) (g2:Nat)=>⟨T [(0,(.ptr (900000,0) 0)),(1,(.fn (.func 223) [(.ptr (900000,0) 0)] [])),(5,(oS x1.1 (24,g2))),(6,(di x1.2.1))],G [((900000,0),some<|.box 154 [(.d (X6 x1.2.2.s)),(.d (bo x1.2.2.short))]),((24,g2),oB 97 2 L4 x1.1)]⟩) ([],v1.1,v1.2) 0 _ hy1 (B8 (K6 Z)<|A2 G_hit (.of Z)<|Q5 trivial) ?_
 intro x1 g2 z1 hz1 ez1
 unfold Q1 at hz1
 refine A4<|C0<|sv Z<|sv Z<|sv Z<|gp Z (K0 Z) (fun _=>Z) ?_
 refine R8 _ (.ptr _ _) Z (K0 Z) (fun w2=>(by simp only [A9 w2];rfl)) ?_
 refine R8 _ (.ptr _ _) Z (K0 Z) (fun w3=>(by simp only [A9 w3];rfl)) ?_
 refine gt Z (vl Z G_hit Z) ?_
 refine R8 _ (.d (bo (!x1.2.2.short))) Z (K0 Z) (fun w5=>(by simp only [A9 w5];rfl)) ?_
 refine sa Z Z Z<|A1<|cc Z hz1 (fun c1 hz1=> ?_)<|fun c1 hz1=> ?_
 refine B4<|A4<|A5<|T8 fun u5 _=>B6 (oS x1.1 (24,g2)) Z Z (B6 (.fn _ _ _) Z Z (bs hz1 fun v2 hv2 hz1=>Aj (v:= .d (.agg [(i64 v2.1.Ticks),(.list (List.map A3 v2.1.Green))])) (us:= [(900000,0)]) (Ai (Mr _ _ hv2) [(900000,0)] [(900000,0)] _ (((900000,0),some<|.box 154 [(.d (X6 v2.2.s)),(.d (bo v2.2.short))])::_) Z J0 (E0 (J1 G_hit Z) J2) (D5 G_hit G9) ⟨⟨_,G_hit, .of Z⟩,trivial⟩ (fun _ h=>h) nd1 Z Z Z) (B6 (dl L4 [v2.1]) Z Z (bs hz1 fun _ hv3 hz1=>J3 L4 (24,g2) x1.1 v2.1 [] _ (I0<|fun _=>Z) Z (gq Z) hv3 (ss Z<|A1<|D8<|A8 (s0:=⟨T [(0,(.ptr _ _)),(1,(.fn _ _ _)),(5,(.sl _)),(6,(.d _))],G [((900000,0),some<|.box 154 _),((24,u5),some _)]⟩) (F5 Z Z) ?_)))))
 refine B5<|sv Z<|sv Z<|sv Z<|A1<|D9 ?_
 cases hz1
 exact ⟨Z,u5,(B8 ⟨.of Z, .of Z,(.of (Q3<|N5 hv3).symm), .of Z,trivial⟩<|A2 G_hit (.of Z)<|I7 (gq Z) trivial)⟩
 refine C4 Z ?_
 cases hz1
 obtain rfl:=ez1 _ rfl
 refine ⟨nofun,C3 Z<|V2 ?_⟩
 exact ⟨g2,(B8 (K6 Z)<|A2 G_hit (.of Z)<|B3 (gq Z) trivial)⟩
 rintro _ ⟨g1,q1⟩
 refine A8 q1<|C0<|B6 (oS y1.1 (24,g1)) Z Z (B6 (oS y1.1 (24,g1)) Z Z (A1<|C1 ?_))
 cases h
 exact Av (.inr Z) [(24,g1)] (Aw (C2 Z)<|Ct<|Ql (.head _)<|gq Z) Cs ⟨⟨_,_,_,G_hit,(Es Z G2),Z,X0,Z⟩,trivial⟩
def T3 [Lp](p1:RoadsReader):Option (Signal×RoadsReader):=
  (B0 p1).bind fun v1=>(M3 v1.2).bind fun v2=>some ((Signal.mk v1.1 v2.1),v2.2)
theorem Md(p1 r)(h:T3 p1=some r):MCall prog 126 [(.ptr (900000,0) 0)] [(.box 154 [(.d (X6 p1.s)),(.d (bo p1.short))])] (.d (.agg [(i64 r.1.Offset),(.list (List.map L4 r.1.Phases))])) [some (.box 154 [(.d (X6 r.2.s)),(.d (bo r.2.short))])] []:=by
 refine X8 (fk func126 ntmps126 (fun r=>if r==1 then [1001001]else if r==2 then [1002004]else []) (by with_unfolding_all rfl)) Z (nl Z) ?_
 unfold T3 at h
 refine A8 (s0:=⟨T [(0,(.ptr _ _))],G [((900000,0),some<|.box 154 _)]⟩) (F5 Z Z) ?_
 refine C0<|sm Z<|A1<|C0<|sq Z<|bs h fun v1 hv1 h=>Aj (v:= .d (i64 v1.1)) (us:= [(900000,0)]) (Ai (C7 _ _ hv1) [(900000,0)] [(900000,0)] _ (((900000,0),some<|.box 154 [(.d (X6 v1.2.s)),(.d (bo v1.2.short))])::_) Z J0 (E0 (J1 (A7 Z G_hit) Z) J2) (D5 (A7 Z G_hit) G9) ⟨⟨_,(A7 Z G_hit), .of Z⟩,trivial⟩ (fun _ h=>h) nd1 Z Z Z) (sv Z<|A1<|C0<|sv Z<|sq Z<|sp Z Z<|B6 (.fn _ _ _) Z Z (bs h fun v2 hv2 h=> ?_))
 refine Aj (v:= .d (.list (List.map L4 v2.1))) (us:= [(900000,0)]) (Ai (Dg _ _ hv2) [(900000,0)] [(900000,0),(900000,0)] _ (((900000,0),some<|.box 154 [(.d (X6 v2.2.s)),(.d (bo v2.2.short))])::_) Z J0 (E0 (J1 G_hit Z)<|E0 (Nx (E0 (J1 G_hit Z) J2) Z) J2) (D5 G_hit<|D5 G_hit G9) ⟨⟨_,G_hit, .of Z⟩,trivial⟩ (by simp) nd1 Z Z Z) ?_
 refine sv Z<|X7 Z (gq Z) [(di v1.1),(dl L4 v2.1)] Z (A1<|C1 ?_)
 cases h
 exact Av (.inr Z) [] (Aw (O8 Z G_hit (Nat.le_of_ble_eq_true Z) Z) D7) (.refl _) ⟨⟨_,_,_,(gq Z),G2,Z,X0,Z⟩,trivial⟩
end
end Go.Abs.Roadsz
