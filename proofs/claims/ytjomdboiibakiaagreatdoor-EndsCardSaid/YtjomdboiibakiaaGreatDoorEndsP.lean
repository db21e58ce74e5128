/-
  The law Ends: the call returns true, whatever the script; the script reads as it did. No condition of ours: the row's 'laid' (the variables start as the program's text lays them) is tied to the text by the card.
-/
import Derived.Test.YtjomdboiibakiaaGreatDoorEnI
import Derived.RowKitTokens
import Derived.JoinedOf
import Derived.Test.YtjomdboiibakiaaGreatDoorTie
import Derived.Test.YtjomdboiibakiaaGreatDoorCards
set_option linter.unusedSimpArgs false
set_option linter.unusedVariables false
set_option linter.unusedVariables false
namespace Go.Sl
section
open Go.Proofs Go.Conc
variable{Post:Value->World->Prop}{os:Os}{out:Array (Nat×ByteArray)}{σ:Gh}{I:HL}{v:Value}{sc:List zf}{eb:Nat->Nat×Nat}
theorem Qo(hE:iX I eb)(hi:Ci I σ.bot vi 6 v sc)(hs:∀ s∈sc,vj I σ.bot s)(hl:sc.length<=2^41)(h0:qF σ)
  (hp:∀ (I':HL) (w:World),Sub I I'->Sat [bI I'] (hp w.heap)->w.os=os->w.output=out->Post (.bool true) w):
  At (aG Tryz.prog Post bM σ 0 os out) 0 [bI I] (jA Tryz.prog 5 #[v] .rU []):=by
 refine At.enter ?_;have C:ab Tryz.prog true (bM.bw σ) (aG Tryz.prog Post bM σ 0 os out):=aG.eL;refine fB ?_;refine aG.lj (F:=[]) (LL hE h0) ?_;rintro v1 σ1 aT ⟨rfl,Gw,sf,I1,iu,rfl⟩;refine cH ?_;have C:ab Tryz.prog true (bM.bw σ1) (aG Tryz.prog Post bM σ1 0 os out):=aG.eL;refine gV ?_;refine aG.lj (F:=[]) (Gm (D:=sc) (e:=true) (hE.mono iu) (by rw[Gw];exact hi.mono iu) (λs h=>by rw[Gw];exact(hs s h).mono iu) hl sf (λ_ n _=>aks n)) ?_;rintro v2 σ2 aT ⟨rfl,Yn,akF,I2,si,rfl⟩;refine cH ?_;have C:ab Tryz.prog true (bM.bw σ2) (aG Tryz.prog Post bM σ2 0 os out):=aG.eL;refine dT ?_;exact aG.quit [bI I2] (by kernel_rfl) akF.no (hp I2 · (iu.trans si))
end
theorem Qp(Lk:Looks){p:Pinned}{s:OpenSpec}{c:OpenClaim}(kinds:List LaidKind)(Vo:Bool)(DD:Bool×String)(lk:Bool)
  (hc:c.holds p s) (hw:c.wfByText s=true)
  (akG:c.laidByTextAt Lk p kinds Vo)
  (dI:c.start=.entering) (hnb:c.noBlocks=false/\c.again=false) (hm:p.checked.prog.mainIs=some (DD.1,DD.2.toList)) (hn:(!DD.1&&DD.2.isEmpty&& !lk)=false)
  (hl:∀ f fn,p.checked.prog.funcNamed c.func=some f->p.checked.prog.funcs[f]? =some fn->lk=p.checked.prog.looks []/\∀ (j:Nat) t,fn.params[j]? =some t->p.checked.prog.wantsStandIn t=false)
  (hg:true=c.goesBy p.checked.prog):
  Claim7.holds p (.plain s) {stood:={row:=c,standIns:=[],harness:=DD,looks:=lk},kinds:=[],alts:=[],goes:=true,laidByText:=true,laidKinds:=kinds,laidTests:=Vo,laidLooks:=Lk}:=by
 have h6:∀ r:OpenClaim,Claim7.isSixth {stood:={row:=r,standIns:=[],harness:=DD,looks:=lk},kinds:=[]}=false:=λr=>by simpa[Claim7.isSixth]using hn
 exact⟨Claim7.tied_new_at Lk kinds Vo (Claim7.new_of_sixth hc DD lk dI hnb hm (h6 c) hl) hw,(λD hD=>by cases hD),akG,(λh=>by cases h),hg⟩
end Go.Sl
namespace Go.Proofs.YtjomdboiibakiaaGreatDoor
open Go.Sl Go.ChangeShapes Go.WideShapes Go.RowKit
theorem Tryz.own:ownKnob Tryz.prog.godebug=none:=by kernel_rfl
abbrev Ye(k:Nat):ByteArray:=⟨(pM.getD k []).toArray⟩
noncomputable def akH:Nat:=(World.holding Tryz.prog default ⟨#[],#[],[]⟩).heap.size
noncomputable def E2 (os:Os):World:=
 let w0:=World.holding Tryz.prog os ⟨#[.cells #[.string (Ye 0)] 359,.cells #[.string (Ye 1)] 359,.cells #[.string (Ye 2)] 359,.cells #[.string (Ye 3)] 359,.cells #[.string (Ye 4)] 359,.cells #[.string (Ye 5)] 359,.cells #[.string (Ye 6)] 359,.cells #[.string (Ye 7)] 359,.cells #[.string (Ye 8)] 359],#[],[]⟩
 let put (h:Array Obj) (k:Nat):Array Obj:=h.modify (PB k) λ
   |.cells _ t frozen=>.cells #[.iface 339 (.pointer (some ⟨akH+k,0,none⟩))] t frozen
   |o=>o
 let ty (h:Array Obj):Array Obj:=h.modify 4 λ
   |.cells _ t frozen=>.cells #[.iface 231 (.agg #[typeHandle Tryz.prog 46])] t frozen
   |o=>o
 {w0 with heap:=ty (put (put (put (put (put (put (put (put (put w0.heap 0) 1) 2) 3) 4) 5) 6) 7) 8)}
theorem Dq(os:Os)(args:Array Value):laidMetH Tryz.prog Rows.endsRow.laid ((E2 os).forCall (λ_ _=>0) ⟨#[],args,[]⟩).memory:=
 laidMetH_of_parts (laidMet_of_run' 8 (by kernel_rfl) (by kernel_rfl)) (by kernel_rfl)
theorem Qq:(Rows.endsRow.laid.filter λx=>x.2.handleName?.isNone)=yy.map acX:=by kernel_rfl
theorem Qr:(Rows.endsRow.laid.filter λx=>x.2.handleName?.isSome)=[("errors.errorType",Rows.laid_errors_errorType)]:=by kernel_rfl
theorem Vp{W:World}(h:laidMetH Tryz.prog Rows.endsRow.laid W)(hS:W.ShapedOpen Tryz.prog):∃ eb,iX (hp W.heap) eb:=
 Ju Qq Qr (by kernel_rfl) (by kernel_rfl) h hS
set_option maxRecDepth 100000 in
theorem Jy(os:Os)(started:os.Started)(H:Type)(enc:TypeId×Value->H)(F:Stop.Interp):
  ReturnsInLeavingWide Rows.endsRow.assume Tryz.checked os 5 .any (λw args=>(Rows.endsSpec.pre enc Tryz.prog Tryz.f5 [] false w args/\laidMetH Tryz.prog Rows.endsRow.laid w)/\sizedMet enc Tryz.prog Tryz.f5 (OpenSpec.ofChange Rows.endsSpec) false w args)
   ((OpenSpec.ofChange Rows.endsSpec).postWith enc Tryz.prog Tryz.f5 F (outsideKept [.timePasses]) false true false):=by
 refine zI (C:=Tryz.checked) (X:=λw _=>laidMetH Tryz.prog Rows.endsRow.laid w) (λ_ _ _ hh h=>h.of_heap hh) Tryz.own started Tryz.func5
  (Gp (enc:=enc) (C:=Tryz.checked) (os:=os) (X:=λw _=>laidMetH Tryz.prog Rows.endsRow.laid w) (E2 os) #[.slice none 0 0] 8 rfl (by kernel_rfl) (by kernel_rfl) (by kernel_rfl) (by kernel_rfl) (by kernel_rfl) (Dq os _)) ?_
 intro W base args ds gs before hS Kl hW _ VE hL;exact Vn (s:=Rows.endsSpec) (by rw[Tryz.params5]) (by kernel_rfl) rfl (λd=>⟨rfl,rfl,rfl⟩) Kl hW VE (Vp hL hS) Qo
theorem akI{a b:Bool}(ha:a=true)(hb:b=true):(a&&b)=true:=by rw[ha,hb];rfl
set_option maxHeartbeats 10000000 in
theorem Jz:joinedFacts Tryz.pinned.checked.prog 5 Tryz.f5 Rows.endsSpec Rows.endsRow=true:=by
 unfold joinedFacts
 repeat'(with_reducible refine akI ?_ ?_)
 all_goals(as_aux_lemma=>kernel_rfl)
theorem Vq:Rows.EndsSaid:=
 OpenClaim.holds_of_wide_leaving_time 5 Tryz.f5 rfl rfl rfl rfl rfl rfl rfl ⟨rfl,rfl,rfl,rfl,rfl⟩ rfl rfl rfl rfl rfl (by kernel_rfl) Tryz.func5 Jz
  (of_decide_eq_true (by kernel_rfl)) (by unfold Func.isWrapper;rw[if_neg (of_decide_eq_false (by kernel_rfl))];exact⟨rfl,rfl⟩)
  (λos started H enc _ F=>Jy os started H enc F)
theorem ends_holds:Rows.EndsCardSaid:=
 Qp .later [.handle,.sentinel,.sentinel,.sentinel,.sentinel,.sentinel,.sentinel,.sentinel,.sentinel,.sentinel] true (true, "4d5a9d765b5a1b76c7c4a7de9161f54f18bc8c5547664cc40dfa081422e05076") true
  Vq (by kernel_rfl) ends_row_tie rfl ⟨rfl,rfl⟩ (by kernel_rfl) rfl
  (λf fn hf Y0=>by
   obtain rfl:f=5:=Option.some.inj ((show Tryz.prog.funcNamed "shardlog/shardloglaw.Ends"=some 5 by kernel_rfl).symm.trans hf) |>.symm;obtain rfl:fn=Tryz.f5:=(Option.some.inj (Tryz.func5.symm.trans Y0)).symm;exact⟨by kernel_rfl,λj t ht=>by
    rw[Tryz.params5]at ht
    match j,ht with
    |0,ht=>
     obtain rfl:22=t:=by simpa using ht
     show Tryz.prog.wantsStandIn 22=false
     kernel_rfl
    |j+1,ht=>simp at ht⟩)
  (by kernel_rfl)
#print axioms ends_holds
end Go.Proofs.YtjomdboiibakiaaGreatDoor
