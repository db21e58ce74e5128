/-
  The law Results: the call returns true, whatever the script; the script reads as it did. No condition of ours: the row's 'laid' (the variables start as the program's text lays them) is tied to the text by the card.
-/
import Derived.Test.YtjomdboiibakiaaGreatDoorUnH
import Derived.RowKitTokens
import Derived.JoinedOf
import Derived.Test.YtjomdboiibakiaaGreatDoorTie
import Derived.Test.YtjomdboiibakiaaGreatDoorCards
set_option linter.unusedSimpArgs false
set_option linter.unusedVariables false
set_option linter.unusedVariables false
namespace Go.Sl
section
open Go.Proofs Go.Conc
instance:Body Tryz.prog 13 Tryz.f13 ((Tryz.f13.body).getD .skip) 5:=⟨Tryz.func13,rfl,rfl,rfl⟩
variable{Post:Value->World->Prop}{os:Os}{out:Array (Nat×ByteArray)}{σ:Gh}{I:HL}{v:Value}{sc:List p8}{eb:Nat->Nat×Nat}
theorem results_runL(hE:ij I eb)(hi:xB I σ.bot ti 6 v sc)(hs:∀ s∈sc,rz I σ.bot s)(hl:sc.length<=2^41)(h0:p9 σ)
  (hp:∀ (I':HL) (w:World),Sub I I'->Sat [a9 I'] (hp w.heap)->w.os=os->w.output=out->Post (.bool true) w):
  At (aD Tryz.prog Post bT σ 0 os out) 0 [a9 I] (iL Tryz.prog 13 #[v] .pR []):=by
 refine At.enter ?_;have C:ab Tryz.prog true (bT.bw σ) (aD Tryz.prog Post bT σ 0 os out):=aD.dM;refine dm ?_;refine aD.k5 (F:=[]) (I7 hE hi hs hl h0 AM) ?_;rintro v σ1 aO ⟨I1,rfl,zV,o9,iD,rfl⟩;refine bI ?_;have C:ab Tryz.prog true (bT.bw σ1) (aD Tryz.prog Post bT σ1 0 os out):=aD.dM;refine bj ?_;exact aD.quit [a9 I1] (by kernel_rfl) o9.no (hp I1 · iD)
end
theorem MZ(Lk:Looks){p:Pinned}{s:OpenSpec}{c:OpenClaim}(kinds:List LaidKind)(Rn:Bool)(A4:Bool×String)(lk:Bool)
  (hc:c.holds p s) (hw:c.wfByText s=true)
  (afU:c.laidByTextAt Lk p kinds Rn)
  (dt:c.start=.entering) (hnb:c.noBlocks=false/\c.again=false) (hm:p.checked.prog.mainIs=some (A4.1,A4.2.toList)) (hn:(!A4.1&&A4.2.isEmpty&& !lk)=false)
  (hl:∀ f fn,p.checked.prog.funcNamed c.func=some f->p.checked.prog.funcs[f]? =some fn->lk=p.checked.prog.looks []/\∀ (j:Nat) t,fn.params[j]? =some t->p.checked.prog.wantsStandIn t=false)
  (hg:true=c.goesBy p.checked.prog):
  Claim7.holds p (.plain s) {stood:={row:=c,standIns:=[],harness:=A4,looks:=lk},kinds:=[],alts:=[],goes:=true,laidByText:=true,laidKinds:=kinds,laidTests:=Rn,laidLooks:=Lk}:=by
 have h6:∀ r:OpenClaim,Claim7.isSixth {stood:={row:=r,standIns:=[],harness:=A4,looks:=lk},kinds:=[]}=false:=λr=>by simpa[Claim7.isSixth]using hn
 exact⟨Claim7.tied_new_at Lk kinds Rn (Claim7.new_of_sixth hc A4 lk dt hnb hm (h6 c) hl) hw,(λD hD=>by cases hD),afU,(λh=>by cases h),hg⟩
end Go.Sl
namespace Go.Proofs.YtjomdboiibakiaaGreatDoor
open Go.Sl Go.ChangeShapes Go.WideShapes Go.RowKit
theorem Tryz.own:ownKnob Tryz.prog.godebug=none:=by kernel_rfl
abbrev Ur(k:Nat):ByteArray:=⟨(oe.getD k []).toArray⟩
noncomputable def afW:Nat:=(World.holding Tryz.prog default ⟨#[],#[],[]⟩).heap.size
noncomputable def Cj (os:Os):World:=
 let w0:=World.holding Tryz.prog os ⟨#[.cells #[.string (Ur 0)] 359,.cells #[.string (Ur 1)] 359,.cells #[.string (Ur 2)] 359,.cells #[.string (Ur 3)] 359,.cells #[.string (Ur 4)] 359,.cells #[.string (Ur 5)] 359,.cells #[.string (Ur 6)] 359,.cells #[.string (Ur 7)] 359,.cells #[.string (Ur 8)] 359],#[],[]⟩
 let put (h:Array Obj) (k:Nat):Array Obj:=h.modify (L3 k) λ
   |.cells _ t frozen=>.cells #[.iface 339 (.pointer (some ⟨afW+k,0,none⟩))] t frozen
   |o=>o
 let ty (h:Array Obj):Array Obj:=h.modify 4 λ
   |.cells _ t frozen=>.cells #[.iface 231 (.agg #[typeHandle Tryz.prog 46])] t frozen
   |o=>o
 {w0 with heap:=ty (put (put (put (put (put (put (put (put (put w0.heap 0) 1) 2) 3) 4) 5) 6) 7) 8)}
theorem AN(os:Os)(args:Array Value):laidMetH Tryz.prog Rows.resultsRow.laid ((Cj os).forCall (λ_ _=>0) ⟨#[],args,[]⟩).memory:=
 laidMetH_of_parts (laidMet_of_run' 8 (by kernel_rfl) (by kernel_rfl)) (by kernel_rfl)
theorem M0:(Rows.resultsRow.laid.filter λx=>x.2.handleName?.isNone)=wy.map YM:=by kernel_rfl
theorem M1:(Rows.resultsRow.laid.filter λx=>x.2.handleName?.isSome)=[("errors.errorType",Rows.laid_errors_errorType)]:=by kernel_rfl
theorem Ro{W:World}(h:laidMetH Tryz.prog Rows.resultsRow.laid W)(hS:W.ShapedOpen Tryz.prog):∃ eb,ij (hp W.heap) eb:=
 GS M0 M1 (by kernel_rfl) (by kernel_rfl) h hS
set_option maxRecDepth 100000 in
theorem results_lifted(os:Os)(started:os.Started)(H:Type)(enc:TypeId×Value->H)(F:Stop.Interp):
  ReturnsInLeavingWide Rows.resultsRow.assume Tryz.checked os 13 .any (λw args=>(Rows.resultsSpec.pre enc Tryz.prog Tryz.f13 [] false w args/\laidMetH Tryz.prog Rows.resultsRow.laid w)/\sizedMet enc Tryz.prog Tryz.f13 (OpenSpec.ofChange Rows.resultsSpec) false w args)
   ((OpenSpec.ofChange Rows.resultsSpec).postWith enc Tryz.prog Tryz.f13 F (outsideKept [.timePasses]) false true false):=by
 refine xE (C:=Tryz.checked) (X:=λw _=>laidMetH Tryz.prog Rows.resultsRow.laid w) (λ_ _ _ hh h=>h.of_heap hh) Tryz.own started Tryz.func13
  (DU (enc:=enc) (C:=Tryz.checked) (os:=os) (X:=λw _=>laidMetH Tryz.prog Rows.resultsRow.laid w) (Cj os) #[.slice none 0 0] 8 rfl (by kernel_rfl) (by kernel_rfl) (by kernel_rfl) (by kernel_rfl) (by kernel_rfl) (AN os _)) ?_
 intro W base args ds gs before hS yV hW _ De hL;exact Rm (s:=Rows.resultsSpec) (by rw[Tryz.params13]) (by kernel_rfl) rfl (λd=>⟨rfl,rfl,rfl⟩) yV hW De (Ro hL hS) results_runL
theorem afX{a b:Bool}(ha:a=true)(hb:b=true):(a&&b)=true:=by rw[ha,hb];rfl
set_option maxHeartbeats 10000000 in
theorem results_closed:joinedFacts Tryz.pinned.checked.prog 13 Tryz.f13 Rows.resultsSpec Rows.resultsRow=true:=by
 unfold joinedFacts
 repeat'(with_reducible refine afX ?_ ?_)
 all_goals(as_aux_lemma=>kernel_rfl)
theorem results_row:Rows.ResultsSaid:=
 OpenClaim.holds_of_wide_leaving_time 13 Tryz.f13 rfl rfl rfl rfl rfl rfl rfl ⟨rfl,rfl,rfl,rfl,rfl⟩ rfl rfl rfl rfl rfl (by kernel_rfl) Tryz.func13 results_closed
  (of_decide_eq_true (by kernel_rfl)) (by unfold Func.isWrapper;rw[if_neg (of_decide_eq_false (by kernel_rfl))];exact⟨rfl,rfl⟩)
  (λos started H enc _ F=>results_lifted os started H enc F)
theorem results_holds:Rows.ResultsCardSaid:=
 MZ .later [.handle,.sentinel,.sentinel,.sentinel,.sentinel,.sentinel,.sentinel,.sentinel,.sentinel,.sentinel] true (true, "4d5a9d765b5a1b76c7c4a7de9161f54f18bc8c5547664cc40dfa081422e05076") true
  results_row (by kernel_rfl) results_row_tie rfl ⟨rfl,rfl⟩ (by kernel_rfl) rfl
  (λf fn hf U7=>by
   obtain rfl:f=13:=Option.some.inj ((show Tryz.prog.funcNamed "shardlog/shardloglaw.Results"=some 13 by kernel_rfl).symm.trans hf) |>.symm;obtain rfl:fn=Tryz.f13:=(Option.some.inj (Tryz.func13.symm.trans U7)).symm;exact⟨by kernel_rfl,λj t ht=>by
    rw[Tryz.params13]at ht
    match j,ht with
    |0,ht=>
     obtain rfl:22=t:=by simpa using ht
     show Tryz.prog.wantsStandIn 22=false
     kernel_rfl
    |j+1,ht=>simp at ht⟩)
  (by kernel_rfl)
#print axioms results_holds
end Go.Proofs.YtjomdboiibakiaaGreatDoor
