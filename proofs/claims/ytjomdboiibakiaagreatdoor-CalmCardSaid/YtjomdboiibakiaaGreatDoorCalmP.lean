/-
  The law Calm: the call returns true, whatever the script; the script reads as it did. No condition of ours: the row's 'laid' (the variables start as the program's text lays them) is tied to the text by the card.
-/
import Derived.Test.YtjomdboiibakiaaGreatDoorCmH
import Derived.RowKitTokens
import Derived.JoinedOf
import Derived.Test.YtjomdboiibakiaaGreatDoorTie
import Derived.Test.YtjomdboiibakiaaGreatDoorCards
set_option linter.unusedSimpArgs false
set_option linter.unusedVariables false
set_option linter.unusedVariables false
namespace Go.Sl
theorem Lc(Lk:Looks){p:Pinned}{s:OpenSpec}{c:OpenClaim}(kinds:List LaidKind)(O8:Bool)(z4:Bool×String)(lk:Bool)
  (hc:c.holds p s) (hw:c.wfByText s=true)
  (acC:c.laidByTextAt Lk p kinds O8)
  (dJ:c.start=.entering) (hnb:c.noBlocks=false/\c.again=false) (hm:p.checked.prog.mainIs=some (z4.1,z4.2.toList)) (hn:(!z4.1&&z4.2.isEmpty&& !lk)=false)
  (hl:∀ f fn,p.checked.prog.funcNamed c.func=some f->p.checked.prog.funcs[f]? =some fn->lk=p.checked.prog.looks []/\∀ (j:Nat) t,fn.params[j]? =some t->p.checked.prog.wantsStandIn t=false)
  (hg:true=c.goesBy p.checked.prog):
  Claim7.holds p (.plain s) {stood:={row:=c,standIns:=[],harness:=z4,looks:=lk},kinds:=[],alts:=[],goes:=true,laidByText:=true,laidKinds:=kinds,laidTests:=O8,laidLooks:=Lk}:=by
 have h6:∀ r:OpenClaim,Claim7.isSixth {stood:={row:=r,standIns:=[],harness:=z4,looks:=lk},kinds:=[]}=false:=λr=>by simpa[Claim7.isSixth]using hn
 exact⟨Claim7.tied_new_at Lk kinds O8 (Claim7.new_of_sixth hc z4 lk dJ hnb hm (h6 c) hl) hw,(λD hD=>by cases hD),acC,(λh=>by cases h),hg⟩
end Go.Sl
namespace Go.Proofs.YtjomdboiibakiaaGreatDoor
open Go.Sl Go.ChangeShapes Go.WideShapes Go.RowKit
theorem Tryz.own:ownKnob Tryz.prog.godebug=none:=by kernel_rfl
abbrev RU(k:Nat):ByteArray:=⟨(nT.getD k []).toArray⟩
noncomputable def acE:Nat:=(World.holding Tryz.prog default ⟨#[],#[],[]⟩).heap.size
noncomputable def Bb (os:Os):World:=
 let w0:=World.holding Tryz.prog os ⟨#[.cells #[.string (RU 0)] 359,.cells #[.string (RU 1)] 359,.cells #[.string (RU 2)] 359,.cells #[.string (RU 3)] 359,.cells #[.string (RU 4)] 359,.cells #[.string (RU 5)] 359,.cells #[.string (RU 6)] 359,.cells #[.string (RU 7)] 359,.cells #[.string (RU 8)] 359],#[],[]⟩
 let put (h:Array Obj) (k:Nat):Array Obj:=h.modify (Kp k) λ
   |.cells _ t frozen=>.cells #[.iface 339 (.pointer (some ⟨acE+k,0,none⟩))] t frozen
   |o=>o
 let ty (h:Array Obj):Array Obj:=h.modify 4 λ
   |.cells _ t frozen=>.cells #[.iface 231 (.agg #[typeHandle Tryz.prog 46])] t frozen
   |o=>o
 {w0 with heap:=ty (put (put (put (put (put (put (put (put (put w0.heap 0) 1) 2) 3) 4) 5) 6) 7) 8)}
theorem zP(os:Os)(args:Array Value):laidMetH Tryz.prog Rows.calmRow.laid ((Bb os).forCall (λ_ _=>0) ⟨#[],args,[]⟩).memory:=
 laidMetH_of_parts (laidMet_of_run' 8 (by kernel_rfl) (by kernel_rfl)) (by kernel_rfl)
theorem Ld:(Rows.calmRow.laid.filter λx=>x.2.handleName?.isNone)=vz.map VY:=by kernel_rfl
theorem Le:(Rows.calmRow.laid.filter λx=>x.2.handleName?.isSome)=[("errors.errorType",Rows.laid_errors_errorType)]:=by kernel_rfl
theorem O9{W:World}(h:laidMetH Tryz.prog Rows.calmRow.laid W)(hS:W.ShapedOpen Tryz.prog):∃ eb,ig (hp W.heap) eb:=
 Fz Ld Le (by kernel_rfl) (by kernel_rfl) h hS
set_option maxRecDepth 100000 in
theorem FD(os:Os)(started:os.Started)(H:Type)(enc:TypeId×Value->H)(F:Stop.Interp):
  ReturnsInLeavingWide Rows.calmRow.assume Tryz.checked os 7 .any (λw args=>(Rows.calmSpec.pre enc Tryz.prog Tryz.f7 [] false w args/\laidMetH Tryz.prog Rows.calmRow.laid w)/\sizedMet enc Tryz.prog Tryz.f7 (OpenSpec.ofChange Rows.calmSpec) false w args)
   ((OpenSpec.ofChange Rows.calmSpec).postWith enc Tryz.prog Tryz.f7 F (outsideKept [.timePasses]) false true false):=by
 refine wB (C:=Tryz.checked) (X:=λw _=>laidMetH Tryz.prog Rows.calmRow.laid w) (λ_ _ _ hh h=>h.of_heap hh) Tryz.own started Tryz.func7
  (Ct (enc:=enc) (C:=Tryz.checked) (os:=os) (X:=λw _=>laidMetH Tryz.prog Rows.calmRow.laid w) (Bb os) #[.slice none 0 0] 8 rfl (by kernel_rfl) (by kernel_rfl) (by kernel_rfl) (by kernel_rfl) (by kernel_rfl) (zP os _)) ?_
 intro W base args ds gs before hS xX hW _ BU hL;exact O7 (s:=Rows.calmSpec) (by rw[Tryz.params7]) (by kernel_rfl) rfl (λd=>⟨rfl,rfl,rfl⟩) xX hW BU (O9 hL hS) O2
theorem acF{a b:Bool}(ha:a=true)(hb:b=true):(a&&b)=true:=by rw[ha,hb];rfl
set_option maxHeartbeats 10000000 in
theorem FE:joinedFacts Tryz.pinned.checked.prog 7 Tryz.f7 Rows.calmSpec Rows.calmRow=true:=by
 unfold joinedFacts
 repeat'(with_reducible refine acF ?_ ?_)
 all_goals(as_aux_lemma=>kernel_rfl)
theorem Pa:Rows.CalmSaid:=
 OpenClaim.holds_of_wide_leaving_time 7 Tryz.f7 rfl rfl rfl rfl rfl rfl rfl ⟨rfl,rfl,rfl,rfl,rfl⟩ rfl rfl rfl rfl rfl (by kernel_rfl) Tryz.func7 FE
  (of_decide_eq_true (by kernel_rfl)) (by unfold Func.isWrapper;rw[if_neg (of_decide_eq_false (by kernel_rfl))];exact⟨rfl,rfl⟩)
  (λos started H enc _ F=>FD os started H enc F)
theorem calm_holds:Rows.CalmCardSaid:=
 Lc .later [.handle,.sentinel,.sentinel,.sentinel,.sentinel,.sentinel,.sentinel,.sentinel,.sentinel,.sentinel] true (true, "4d5a9d765b5a1b76c7c4a7de9161f54f18bc8c5547664cc40dfa081422e05076") true
  Pa (by kernel_rfl) calm_row_tie rfl ⟨rfl,rfl⟩ (by kernel_rfl) rfl
  (λf fn hf SJ=>by
   obtain rfl:f=7:=Option.some.inj ((show Tryz.prog.funcNamed "shardlog/shardloglaw.Calm"=some 7 by kernel_rfl).symm.trans hf) |>.symm;obtain rfl:fn=Tryz.f7:=(Option.some.inj (Tryz.func7.symm.trans SJ)).symm;exact⟨by kernel_rfl,λj t ht=>by
    rw[Tryz.params7]at ht
    match j,ht with
    |0,ht=>
     obtain rfl:22=t:=by simpa using ht
     show Tryz.prog.wantsStandIn 22=false
     kernel_rfl
    |j+1,ht=>simp at ht⟩)
  (by kernel_rfl)
#print axioms calm_holds
end Go.Proofs.YtjomdboiibakiaaGreatDoor
