/-
  Proved: for every input, WorldBytes returns true, and its arguments read afterwards as they read before.
  Conditions: none beyond those of the given row.
-/
import Derived.Test.YtgjdiioennhoeaaGreatPlain
import Derived.Test.YtgjdiioennhoeaaGreatRows
import Derived.WalkKit
namespace Go.Abs.World
open Go Go.Abs Go.Proofs
theorem aY:Rd Tryz.prog 2 A4 R0:=SK Tryz.underlying2
theorem dB:Rd Tryz.prog 3 A4 R0:=SK Tryz.underlying3
theorem dR:Rd Tryz.prog 43 KY (fun xs:(List Int)=> ∀a∈xs,R0 a):=AI (sz:=1) Tryz.underlying43 dB (fun _=>rfl) (by decide) (by kernel_rfl)
theorem eF:Rd Tryz.prog 4 cB (fun _:Bool=>True):=VW Tryz.underlying4
theorem dS:Rd Tryz.prog 45 C4 (fun x:Agent=>(fun xs:(List Int)=> ∀a∈xs,R0 a) x.Route∧R0 x.S∧R0 x.V∧R0 x.Len∧R0 x.Begin∧(fun _:Bool=>True) x.Obey∧(fun _:Bool=>True) x.Gone):=
  EY (Wy Tryz.underlying45 (wf:=_) (Bt (n:=1) dR rfl (fun _=>rfl) (Bt (n:=1) aY rfl (fun _=>rfl) (Bt (n:=1) aY rfl (fun _=>rfl) (Bt (n:=1) aY rfl (fun _=>rfl) (Bt (n:=1) aY rfl (fun _=>rfl) (Bt (n:=1) eF rfl (fun _=>rfl) (Bt (n:=1) eF rfl (fun _=>rfl) EZ))))))) (by intro y;kernel_rfl)) C4 (fun x:Agent=>(fun xs:(List Int)=> ∀a∈xs,R0 a) x.Route∧R0 x.S∧R0 x.V∧R0 x.Len∧R0 x.Begin∧(fun _:Bool=>True) x.Obey∧(fun _:Bool=>True) x.Gone) (fun y=>⟨y.1,y.2.1,y.2.2.1,y.2.2.2.1,y.2.2.2.2.1,y.2.2.2.2.2.1,y.2.2.2.2.2.2.1⟩) (fun _=>rfl) (fun y h=>⟨h.1,h.2.1,h.2.2.1,h.2.2.2.1,h.2.2.2.2.1,h.2.2.2.2.2.1,h.2.2.2.2.2.2.1⟩)
theorem dU:Rd Tryz.prog 22 SX (fun xs:(List Agent)=> ∀a∈xs,(fun x:Agent=>(fun xs:(List Int)=> ∀a∈xs,R0 a) x.Route∧R0 x.S∧R0 x.V∧R0 x.Len∧R0 x.Begin∧(fun _:Bool=>True) x.Obey∧(fun _:Bool=>True) x.Gone) a):=AI (sz:=7) Tryz.underlying22 dS (fun _=>rfl) (by decide) (by kernel_rfl)
theorem cU:Rd Tryz.prog 127 F8 (fun x:Stay=>R0 x.Agent_∧R0 x.Zone_∧R0 x.Since∧R0 x.Rank):=
  EY (Wy Tryz.underlying127 (wf:=_) (Bt (n:=1) dB rfl (fun _=>rfl) (Bt (n:=1) dB rfl (fun _=>rfl) (Bt (n:=1) aY rfl (fun _=>rfl) (Bt (n:=1) dB rfl (fun _=>rfl) EZ)))) (by intro y;kernel_rfl)) F8 (fun x:Stay=>R0 x.Agent_∧R0 x.Zone_∧R0 x.Since∧R0 x.Rank) (fun y=>⟨y.1,y.2.1,y.2.2.1,y.2.2.2.1⟩) (fun _=>rfl) (fun y h=>⟨h.1,h.2.1,h.2.2.1,h.2.2.2.1⟩)
theorem dV:Rd Tryz.prog 23 WK (fun xs:(List Stay)=> ∀a∈xs,(fun x:Stay=>R0 x.Agent_∧R0 x.Zone_∧R0 x.Since∧R0 x.Rank) a):=AI (sz:=4) Tryz.underlying23 cU (fun _=>rfl) (by decide) (by kernel_rfl)
theorem cV:Rd Tryz.prog 25 N9 (fun x:State=>R0 x.Tick∧(fun xs:(List Agent)=> ∀a∈xs,(fun x:Agent=>(fun xs:(List Int)=> ∀a∈xs,R0 a) x.Route∧R0 x.S∧R0 x.V∧R0 x.Len∧R0 x.Begin∧(fun _:Bool=>True) x.Obey∧(fun _:Bool=>True) x.Gone) a) x.Agents∧(fun xs:(List Stay)=> ∀a∈xs,(fun x:Stay=>R0 x.Agent_∧R0 x.Zone_∧R0 x.Since∧R0 x.Rank) a) x.In):=
  EY (Wy Tryz.underlying25 (wf:=_) (Bt (n:=1) aY rfl (fun _=>rfl) (Bt (n:=1) dU rfl (fun _=>rfl) (Bt (n:=1) dV rfl (fun _=>rfl) EZ))) (by intro y;kernel_rfl)) N9 (fun x:State=>R0 x.Tick∧(fun xs:(List Agent)=> ∀a∈xs,(fun x:Agent=>(fun xs:(List Int)=> ∀a∈xs,R0 a) x.Route∧R0 x.S∧R0 x.V∧R0 x.Len∧R0 x.Begin∧(fun _:Bool=>True) x.Obey∧(fun _:Bool=>True) x.Gone) a) x.Agents∧(fun xs:(List Stay)=> ∀a∈xs,(fun x:Stay=>R0 x.Agent_∧R0 x.Zone_∧R0 x.Since∧R0 x.Rank) a) x.In) (fun y=>⟨y.1,y.2.1,y.2.2.1⟩) (fun _=>rfl) (fun y h=>⟨h.1,h.2.1,h.2.2.1⟩)
theorem eR:Rd Tryz.prog 9 dK (fun s:ByteArray=>s.size≤maxLen):=OP Tryz.underlying9
end Go.Abs.World
namespace Go.Proofs.YtgjdiioennhoeaaGreat.worldBytes
open Go.ChangeShapes Go.WideShapes Go.ChangeAt Go.RowKit Go.Abs Go.Abs.World
set_option linter.unusedVariables false
theorem own:ownKnob Tryz.prog.godebug=none:=by kernel_rfl
theorem Yz:laidOutB Tryz.prog=true:=by kernel_rfl
set_option maxRecDepth 100000 in
theorem lifted (os:Os)(started:os.Started)(H:Type)(enc:TypeId×Value→H):
    ReturnsInHanded {} Tryz.checked os 14 .any (Rows.worldBytesSpec.pre6 enc Tryz.prog Tryz.f14 Rows.worldBytesRow.domain false) (Rows.worldBytesSpec.post enc Tryz.prog Tryz.f14 false true false false):=by
  refine returnsInHanded_of_change (C:=Tryz.checked) own started (by kernel_rfl) Tryz.func14
    (ChangeSpec.witness6 (enc:=enc) (C:=Tryz.checked) false ⟨#[],#[.agg #[.int .i64 0, .slice none 0 0, .slice none 0 0], .agg #[.int .i64 0, .slice none 0 0, .slice none 0 0], .string ByteArray.empty],[]⟩ 8 (by kernel_rfl) (by kernel_rfl) (by kernel_rfl) (by kernel_rfl)) ?_
  intro W base args ds gs before hval0 hW hcnd _
  have hval: ∀(j:Nat) t v,Tryz.f14.params[j]? =some t→args[j]? =some v→Value.okWide Tryz.prog W .any base t v:=hval0
  have hW':=hW
  obtain ⟨p,q,hA0,hV,rfl,hfz,hnd⟩:=hW
  have hA:DataW.TrodAll enc Tryz.prog W 0 (fun _=>true) true Tryz.f14.params.toList args.toList ds p:=hA0
  rw [Tryz.params14]at hA hval
  obtain ⟨v0,vs0,d0,ds0,p0,q0,hargs,rfl,rfl,h0,r0⟩:=trodAll_cons hA
  obtain ⟨v1,vs1,d1,ds1,p1,q1,rfl,rfl,rfl,h1,r1⟩:=trodAll_cons r0
  obtain ⟨v2,vs2,d2,ds2,p2,q2,rfl,rfl,rfl,h2,r2⟩:=trodAll_cons r1
  obtain ⟨rfl,rfl,rfl⟩:=trodAll_nil r2
  obtain rfl:args= #[v0,v1,v2]:=by cases args;simp_all
  obtain ⟨rfl,rfl⟩:=trodVars_none hV
  have k0:=h0
  have lt0: ∀x∈p0,x.block<W.heap.size:=by obtain ⟨m,hm⟩:=k0;exact DataW.trod_lt m _ _ _ hm
  obtain ⟨a0,w0,e0⟩:=MG cV Tryz.underlying25 (hval 0 25 v0 rfl rfl) h0
  have k1:=h1
  have lt1: ∀x∈p1,x.block<W.heap.size:=by obtain ⟨m,hm⟩:=k1;exact DataW.trod_lt m _ _ _ hm
  obtain ⟨a1,w1,e1⟩:=MG cV Tryz.underlying25 (hval 1 25 v1 rfl rfl) h1
  have k2:=h2
  have lt2: ∀x∈p2,x.block<W.heap.size:=by obtain ⟨m,hm⟩:=k2;exact DataW.trod_lt m _ _ _ hm
  obtain ⟨a2,w2,e2⟩:=VX eR (by obtain ⟨_,rfl⟩:=okWide_string Tryz.underlying9 (hval 2 9 v2 rfl rfl);rfl) h2
  clear hA0 hval0
  refine (SI (vs:= [v0,v1,v2]) (Tv a0 a1 a2 _ (Qv a0 a1 a2)) rfl ?_).mono fun e W' ⟨he,bel⟩=> ?_
  ·intro i d hi
   match i,hi with
   |0,hi=>cases hi;exact e0
   |1,hi=>cases hi;exact e1
   |2,hi=>cases hi;exact e2
   |i+3,hi=>simp at hi
  ·subst he
   exact ⟨_,rfl,_,_,_,[],_,[],hW',trodAll_mk1 (shut_bool Tryz.underlying4 _),(trodAll_cons_mk (Below.trod Yz (by kernel_rfl) (of_decide_eq_true (by kernel_rfl)) k0 bel lt0) (trodAll_cons_mk (Below.trod Yz (by kernel_rfl) (of_decide_eq_true (by kernel_rfl)) k1 bel lt1) (trodAll_cons_mk (Below.trod Yz (by kernel_rfl) (of_decide_eq_true (by kernel_rfl)) k2 bel lt2) trodAll_mk0))),rfl,bel.frame _,fun h=>by cases h⟩
theorem j0:(mapsRowed Tryz.prog)=true:=by kernel_rfl
theorem j1:(Rows.worldBytesRow.inPlace==Tryz.prog.inPlace 14)=true:=by kernel_rfl
theorem j2:(Rows.worldBytesRow.unfollowed==Tryz.prog.unfollowed 14)=true:=by kernel_rfl
theorem j3:(Rows.worldBytesRow.recurses==Tryz.prog.recurses 14)=true:=by kernel_rfl
theorem j4:(Rows.worldBytesRow.named==Tryz.prog.varsNamed 14)=true:=by kernel_rfl
theorem j5:(Rows.worldBytesRow.plainKeys==Tryz.prog.plainKeys)=true:=by kernel_rfl
theorem j6:(Tryz.prog.stopsHeard)=true:=by kernel_rfl
theorem j7:(Tryz.prog.mayEnter)=true:=by kernel_rfl
theorem j8:(Rows.worldBytesRow.lifted==Tryz.prog.liftsFinal)=true:=by kernel_rfl
theorem j9:(Tryz.prog.make==some Rows.worldBytesRow.make)=true:=by kernel_rfl
theorem eS:(Rows.worldBytesRow.loops==(Tryz.f14.params.toList++Rows.worldBytesSpec.plain.varTypes Tryz.prog).any (Tryz.prog.loopsFrom ·))=true:=by kernel_rfl
theorem aU:joinedFacts Tryz.prog 14 Tryz.f14 Rows.worldBytesSpec Rows.worldBytesRow=true:=by
  unfold joinedFacts
  simp only [bD]
  repeat' apply And.intro
  all_goals first|with_reducible exact Yz|with_reducible exact j0|with_reducible exact j1|with_reducible exact j2|with_reducible exact j3|with_reducible exact j4|with_reducible exact j5|with_reducible exact j6|with_reducible exact j7|with_reducible exact j8|with_reducible exact j9|with_reducible exact eS|kernel_rfl
theorem over:Rows.worldBytesRow.holds Tryz.pinned (OpenSpec.ofChange Rows.worldBytesSpec):=
  OpenClaim.holds_of_wide 14 Tryz.f14 rfl rfl rfl rfl rfl rfl rfl ⟨rfl,rfl,rfl,rfl,rfl⟩ rfl rfl rfl rfl rfl (by kernel_rfl) Tryz.func14 aU
    (of_decide_eq_true (by kernel_rfl)) (by unfold Func.isWrapper;first|(rw [bB (by decide+kernel)];kernel_rfl)|(rw [bC (by decide+kernel)];exact ⟨rfl,rfl⟩))
    (fun os started H enc _=>lifted os started H enc)
end Go.Proofs.YtgjdiioennhoeaaGreat.worldBytes
namespace Go.Proofs.YtgjdiioennhoeaaGreat
theorem worldBytes_holds:Rows.WorldBytesSaid:=worldBytes.over
end Go.Proofs.YtgjdiioennhoeaaGreat
