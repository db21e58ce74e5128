/-
  Texts that the proof needs, joined: part 1.
-/
import Derived.Test.YtjomdboiibakiaaGreatDoorProg
import Derived.Conc.Token
import Derived.Conc.MarkLaws
import Derived.Conc.JoinTrace
import Derived.Laws.Sem
set_option linter.unusedSimpArgs false
set_option linter.unusedVariables false
set_option maxHeartbeats 4000000
namespace Go.Sl
open Go.Proofs.Tryz
abbrev VO:=@Array.mem_append
abbrev M2:=@Option.map_eq_some_iff
abbrev ZB:=@Array.mem_iff_getElem
abbrev D2:=@Array.getElem?_eq_getElem
abbrev qq4:=@Array.getElem?_append_right
abbrev x6:=@Option.some.injEq
abbrev fI:=@Nat.le_refl
abbrev pc:=@List.mem_toArray
abbrev gq:=@List.mem_cons
abbrev mK:=@List.not_mem_nil
abbrev fX:=@or_false
abbrev bY:=@Option.some.inj
abbrev eQ:=@if_true
abbrev eY:=@if_false
abbrev RV:=@Array.mem_of_getElem?
abbrev oq:=@Nat.lt_or_ge
abbrev Hd:=@Array.getElem?_eq_none
abbrev gQ:=@Array.getElem?_eq_some_iff
abbrev gC:=@Array.getElem?_setIfInBounds_ne
abbrev Eg:=@Array.getElem?_map
abbrev lJ:=@Option.map_some
abbrev j4:=@Array.getElem?_setIfInBounds_self_of_lt
abbrev eC:=@Nat.zero_le
abbrev KH:=@Array.size_setIfInBounds
abbrev ur:=@Option.isSome_iff_exists
abbrev He:=@Array.append_assoc
abbrev Nt:=@Array.getElem?_push
abbrev aq:=@if_neg
abbrev aK:=@if_pos
abbrev RX:=@beq_eq_false_iff_ne
abbrev i3:=@Ne.symm
abbrev KI:=@Array.size_push
abbrev Nu:=@Nat.eq_zero_or_pos
abbrev se:=@Array.ext_getElem?
abbrev RY:=@Array.getElem?_modify
abbrev KJ:=@Option.isSome_none
abbrev gR:=@Bool.false_eq_true
abbrev sf:=@List.nodup_cons
abbrev jd:=@List.length_cons
abbrev Hf:=@Nat.le_trans
abbrev x7:=@Prod.mk.inj
abbrev VP:=@Array.getElem?_push_lt
abbrev iT:=@List.cons_append
abbrev dN:=@List.mem_singleton
abbrev Nv:=@Nat.lt_of_lt_of_le
abbrev VQ:=@Array.getElem?_append
abbrev iI:=@List.mem_cons_self
abbrev gu:=@List.mem_cons_of_mem
abbrev ks:=@List.foldl_cons
abbrev Ck:=@Array.mem_toList_iff
abbrev nU:=@Option.bind_some
abbrev w9:=@Array.append_empty
abbrev Ab:=@Array.empty_append
abbrev kt:=@Option.getD_some
abbrev RZ:=@List.getElem?_cons_succ
abbrev xa:=@Nat.le_of_ble_eq_true
abbrev qv:=@Array.toList_map
abbrev ts:=@Array.toArray_toList
abbrev VR:=@Array.getElem?_extract
abbrev uu:=@Nat.ne_of_lt
abbrev ZC:=@Array.getElem?_setIfInBounds
abbrev mL:=@Nat.zero_add
abbrev R0:=@List.size_toArray
abbrev uv:=@List.length_nil
abbrev R1:=@List.extract_toArray
abbrev R2:=@List.extract_eq_take_drop
abbrev Ac:=@List.drop_zero
abbrev VS:=@List.drop_succ_cons
abbrev x8:=@List.setIfInBounds_toArray
abbrev xb:=@List.set_cons_succ
abbrev vD:=@List.set_cons_zero
abbrev R3:=@List.toList_toArray
abbrev KM:=@not_true_eq_false
abbrev R4:=@List.mapM_nil
abbrev Ny:=@List.mapM_cons
abbrev Nz:=@List.flatMap_cons
abbrev ji:=@List.length_append
abbrev qb:=@Nat.add_mul
abbrev KN:=@Nat.zero_mul
abbrev qw:=@List.append_assoc
abbrev R5:=@List.getElem_cons_zero
abbrev NA:=@List.getElem?_append_left
abbrev VT:=@List.getElem?_append_right
abbrev eZ:=@List.nil_append
abbrev Hg:=@List.getElem?_toArray
abbrev Ad:=@List.length_eq_zero_iff
abbrev iz:=@List.length_take
abbrev Ae:=@Nat.min_eq_left
abbrev VU:=@List.set_eq_take_append_cons_drop
abbrev VV:=@List.set_append_right
abbrev Af:=@List.map_toArray
abbrev iJ:=@List.map_cons
abbrev ml:=@List.map_nil
abbrev R6:=@List.getElem?_cons_zero
abbrev Cm:=@Bool.not_false
abbrev tu:=@Nat.mul_le_mul_right
abbrev KO:=@List.mem_flatMap
abbrev uw:=@List.length_drop
abbrev VW:=@Array.foldl_toList
abbrev VX:=@Array.toList_zipIdx
abbrev lK:=@List.append_nil
abbrev x9:=@Nat.mod_eq_of_lt
abbrev Eh:=@Option.map_none
abbrev ya:=@List.pairwise_iff_getElem
abbrev jC:=@List.getElem?_eq_some_iff
abbrev sC:=@List.mem_map_of_mem
abbrev iC:=@List.nodup_append
abbrev NB:=@List.cons.injEq
abbrev Ei:=@Prod.mk.injEq
abbrev kB:=@List.getElem?_map
abbrev NC:=@List.ext_getElem?
abbrev AO:=@List.getElem?_modify
abbrev yb:=@List.getElem?_set
abbrev bL:=@List.mem_map
abbrev eI:=@List.map_append
abbrev cg:=@List.mem_append
abbrev ND:=@List.eraseIdx_cons_succ
abbrev jM:=@List.eraseIdx_sublist
abbrev j8:=@Bool.and_eq_true
abbrev k9:=@List.all_eq_true
abbrev iU:=@List.mem_filter
abbrev AP:=@Bool.or_eq_true
abbrev Ej:=@beq_iff_eq
abbrev nC:=@List.any_eq_true
abbrev Ek:=@Bool.not_eq_true'
abbrev mM:=@List.mem_range
abbrev nD:=@decide_eq_true_eq
abbrev NF:=@List.nodup_nil
abbrev NG:=@List.perm_cons_erase
abbrev jN:=@List.mem_append_right
abbrev kC:=@List.mem_append_left
abbrev Jk:=@List.perm_middle
abbrev Em:=@List.reverse_nil
abbrev En:=@Nat.mod_lt
abbrev fp:=@List.getElem?_eq_getElem
abbrev bC:=@List.getElem_mem
abbrev nE:=@List.filter_append
abbrev NH:=@Nat.pos_iff_ne_zero
abbrev NJ:=@List.drop_drop
abbrev wz:=@List.take_append_drop
abbrev Jl:=@Array.mapM_eq_mapM_toList
abbrev Jm:=@map_eq_pure_bind
abbrev cS:=@List.length_set
abbrev yc:=@List.eraseIdx_eq_take_drop_succ
abbrev i7:=@List.drop_eq_getElem_cons
abbrev NK:=@List.perm_append_singleton
abbrev yd:=@dif_pos
abbrev Jn:=@Classical.choose_spec
abbrev mN:=@true_and
abbrev Eo:=@Nat.le_succ_of_le
abbrev NL:=@Bool.and_false
abbrev Us:=@List.getElem?_take_of_lt
abbrev AQ:=@Bool.false_and
abbrev ye:=@List.mem_iff_getElem
abbrev eS:=@List.mem_of_getElem?
abbrev AR:=@Bool.not_true
abbrev fT:=@List.mem_or_eq_of_mem_set
abbrev l9:=@List.set_getElem_self
abbrev Ep:=@Classical.not_not
abbrev lL:=@List.length_singleton
abbrev mO:=@Nat.lt_succ_iff_lt_or_eq
abbrev ov:=@List.getElem?_of_mem
abbrev AT:=@List.find?_cons
abbrev Jo:=@List.find?_eq_none
abbrev NM:=@Option.getD_none
abbrev dd:=@List.length_map
abbrev wA:=@List.getElem?_eq_none
abbrev NN:=@List.find?_append
abbrev wB:=@Function.comp_def
abbrev ux:=@List.map_map
abbrev Jp:=@List.filter_sublist
abbrev g5:=@List.take_of_length_le
abbrev NO:=@List.take_append_of_le_length
abbrev AU:=@List.findIdx?_cons
abbrev Ut:=@List.exists_mem_of_ne_nil
abbrev NP:=@Classical.byContradiction
abbrev NQ:=@List.find?_some
abbrev AV:=@List.mem_of_find?_eq_some
abbrev uy:=@List.filter_cons
abbrev sD:=@Int.le_refl
abbrev Er:=@List.map_take
abbrev NR:=@List.append_inj'
abbrev NS:=@List.singleton_inj
abbrev Jq:=@List.pairwise_map
abbrev NT:=@List.pairwise_mergeSort
abbrev NU:=@List.mergeSort_perm
abbrev Uu:=@List.Perm.eq_of_pairwise
abbrev gy:=@Int.toNat_natCast
abbrev kD:=@List.map_set
abbrev Es:=@List.getElem?_eq_none_iff
abbrev mP:=@Nat.le_succ
abbrev Uv:=@List.findIdx?_eq_some_iff_getElem
abbrev Uw:=@List.mem_eraseIdx_iff_getElem?
abbrev jO:=@List.getElem_of_mem
abbrev wC:=@List.getElem_set_self
abbrev Et:=@List.getElem_set_ne
abbrev pN:=@List.length_filter_le
abbrev AW:=@Nat.sub_self
abbrev Ux:=@List.eq_of_mem_replicate
abbrev NV:=@List.mem_of_mem_take
abbrev NW:=@Nat.xor_lt_two_pow
abbrev Jr:=@BitVec.ofInt_natCast
abbrev Js:=@BitVec.toNat_ofNat
abbrev jD:=@decide_eq_false
abbrev fU:=@Bool.eq_false_or_eq_true
abbrev qx:=@List.getElem_map
abbrev fq:=@List.take_succ_eq_append_getElem
abbrev NX:=@List.getElem_take
abbrev Jt:=@List.take_length
abbrev sE:=@decide_eq_true
abbrev g7:=@Int.eq_ofNat_of_zero_le
abbrev Eu:=@Int.natCast_nonneg
abbrev qy:=@List.drop_of_length_le
abbrev eO:=@List.foldl_append
abbrev ow:=@List.foldl_nil
abbrev sF:=@List.isEmpty_iff
abbrev NY:=@List.eq_nil_of_length_eq_zero
abbrev Ju:=@Int.ofNat_tdiv
abbrev Jv:=@List.drop_set_of_lt
abbrev AX:=@List.cons.inj
abbrev yf:=@and_true
abbrev lM:=@Nat.two_pow_pos
abbrev yg:=@Eq.trans
abbrev yh:=@Nat.lt_of_le_of_lt
abbrev Ev:=@List.filter_nil
abbrev Ew:=@List.length_eraseIdx
abbrev Jw:=@List.reverse_cons
abbrev NZ:=@List.reverse_perm
abbrev Jx:=@List.getElem_append_right
abbrev AY:=@List.set_set
abbrev N3:=@List.ext_getElem
abbrev Ex:=@List.length_replicate
abbrev Uy:=@List.perm_append_comm_assoc
abbrev N4:=@Nat.le_antisymm
abbrev N5:=@Nat.one_shiftLeft
abbrev aQ:=Goroutine
abbrev aR:=TypeId
abbrev bR:=Program
abbrev dW:=Deferred
abbrev cU:=Operand
abbrev bM:=FuncId
section
theorem ak{p:Prop}(h:p:=by omega):p:=h
theorem cD{p:Prop}(h:p:=by dsimp only;omega):p:=h
open Go.Conc
structure Px(rd:Nat->Loc->Prop)(lo:Nat->Prop)(sh:Loc->Prop)(B:Nat)(K:Nat->Prop)(t:Trace):Prop where
 clean:∀ said,¬ Race said t
 known:∀ i a,touchAt t i=some a->a.loc.isMemory=true->
  K i\/(a.write=false/\∃ g,t.g? i=some g/\lo g/\rd g a.loc)\/(a.kind=.atomic/\sh a.loc/\¬ t.heard i)
 wrote:∀ i a,touchAt t i=some a->a.write=true->∀ g,lo g->rd g a.loc->Knows t g i
 plain:∀ i a,touchAt t i=some a->sh a.loc->a.kind≠ .plain
 norel:∀ i ad,t.act? i=some (.mark (.release ad))->¬ sh (.cell ad)
 seen:∀ op∈t,op.act.low B
variable{rd:Nat->Loc->Prop}{lo:Nat->Prop}{sh:Loc->Prop}{B B' h:Nat}{K K':Nat->Prop}{t u:Trace}
theorem ox(h:∀ op∈t,op.act.low B)(hB:B<=B')(hu:∀ op∈u,op.act.low B'):∀ op∈t++u,op.act.low B':=
 λop cx=>(VO.1 cx).elim (λx=>MemAct.low_mono hB (h op x)) (hu op)
theorem Px.uz(H:Px rd lo sh B K t)(hK:∀ i,K i->K' i){i:Nat}{a:Touch}{x:MemOp}(jK:t[i]? =some x)(iR:x.act.touch?=some a)(hm:a.loc.isMemory=true):
  K' i\/(a.write=false/\∃ g,(t++u).g? i=some g/\lo g/\rd g a.loc)\/(a.kind=.atomic/\sh a.loc/\¬ (t++u).heard i):=by
 have dI:=lt_size_of_getElem? jK;rcases H.known i a (by rw[touchAt_of jK];exact iR) hm with h1|⟨h1,g,hg,hl,hr⟩|⟨h1,h2,h3⟩
 ·exact .inl (hK i h1)
 ·exact .inr (.inl ⟨h1,g,by rw[g?_old dI];exact hg,hl,hr⟩)
 ·exact .inr (.inr ⟨h1,h2,λz=>h3 ((heard_old dI).1 z)⟩)
theorem Px.qz(H:Px rd lo sh B K t)(hu:∀ op∈u,∀ b,op.act.touch?=some b->sh b.loc->b.kind≠ .plain):∀ i a,touchAt (t++u) i=some a->sh a.loc->a.kind≠ .plain:=by
 intro i a ha hs;obtain⟨x,hx,iR⟩:=touch_of ha;rcases getElem?_append_cases hx with⟨hi,jK⟩|⟨_,vy⟩
 ·exact H.plain i a (by rw[touchAt_of jK];exact iR) hs
 ·exact hu x vy a iR hs
theorem Px.yi(H:Px rd lo sh B K t)(hu:∀ op∈u,∀ ad,op.act=.mark (.release ad)->¬ sh (.cell ad)):∀ i ad,(t++u).act? i=some (.mark (.release ad))->¬ sh (.cell ad):=by
 intro i ad ha;obtain⟨x,hx,iR⟩:=M2.1 ha;rcases getElem?_append_cases hx with⟨hi,jK⟩|⟨_,vy⟩
 ·exact H.norel i ad (by rw[act?_of jK,iR])
 ·exact hu x vy ad iR
theorem Px.own(H:Px rd lo sh B (Knows t h) t)(hu:∀ op∈u,op.g=h)
  (hs:∀ op∈u,∀ b,op.act.touch?=some b->(b.write=true->∀ g,lo g->¬ rd g b.loc)/\(sh b.loc->b.kind≠ .plain))
  (hr:∀ op∈u,∀ ad,op.act=.mark (.release ad)->¬ sh (.cell ad)) (hB:B<=B') (hl:∀ op∈u,op.act.low B'):Px rd lo sh B' (Knows (t++u) h) (t++u):=by
 refine⟨λsaid=>noRace_append (H.clean said) hu λi a ha op cx b hb hc=>?_,λi a ha hm=>?_,λi a ha hw g hg i9=>?_,H.qz λop cx b hb=>(hs op cx b hb).2,H.yi hr,ox H.seen hB hl⟩
 ·rcases H.known i a ha hc.2.1 with hk|⟨hw,g,_,og,i9⟩|⟨M3,ui,_⟩
  ·exact hk
  ·rcases hc.2.2.1 with x|x
   ·rw[hw]at x;cases x
   ·exact absurd (hc.1▸i9) ((hs op cx b hb).1 x g og)
  ·have hbk:=(hs op cx b hb).2 (hc.1▸ui);rcases hc.2.2.2 with x|x|⟨_,x,_⟩
   ·rw[M3]at x;cases x
   ·exact absurd x hbk
   ·rw[M3]at x;cases x
 ·obtain⟨x,hx,iR⟩:=touch_of ha;rcases getElem?_append_cases hx with⟨_,jK⟩|⟨_,vy⟩
  ·exact H.uz (λi=>Knows.app u) jK iR hm
  ·have:=knows_own hx;rw[hu x vy]at this;exact .inl this
 ·obtain⟨x,hx,iR⟩:=touch_of ha;rcases getElem?_append_cases hx with⟨_,jK⟩|⟨_,vy⟩
  ·exact(H.wrote i a (by rw[touchAt_of jK];exact iR) hw g hg i9).app u
  ·exact absurd i9 ((hs x vy a iR).1 hw g hg)
theorem Px.mute(H:Px rd lo sh B K t)(hK:∀ i,K i->K' i)(hn:∀ op∈u,op.act.touch?=none)
  (hr:∀ op∈u,∀ ad,op.act=.mark (.release ad)->¬ sh (.cell ad)) (hB:B<=B') (hl:∀ op∈u,op.act.low B'):Px rd lo sh B' K' (t++u):=by
 refine⟨λsaid=>noRace_appendMute (H.clean said) hn,λi a ha hm=>?_,λi a ha hw g hg i9=>?_,H.qz λop cx b hb=>(by rw[hn op cx]at hb;cases hb),H.yi hr,ox H.seen hB hl⟩
 ·obtain⟨x,hx,iR⟩:=touch_of ha;rcases getElem?_append_cases hx with⟨_,jK⟩|⟨_,vy⟩
  ·exact H.uz hK jK iR hm
  ·rw[hn x vy]at iR;cases iR
 ·obtain⟨x,hx,iR⟩:=touch_of ha;rcases getElem?_append_cases hx with⟨_,jK⟩|⟨_,vy⟩
  ·exact(H.wrote i a (by rw[touchAt_of jK];exact iR) hw g hg i9).app u
  ·rw[hn x vy]at iR;cases iR
theorem Px.reads{g:Nat}(H:Px rd lo sh B K t)(hK:∀ i,K i->K' i)(hL:lo g)(hu:∀ op∈u,op.g=g)(hr:∀ op∈u,∀ b,op.act.touch?=some b->b.write=false/\rd g b.loc/\¬ sh b.loc)
  (Ah:∀ op∈u,∀ ad,op.act=.mark (.release ad)->¬ sh (.cell ad)) (hB:B<=B') (hl:∀ op∈u,op.act.low B'):Px rd lo sh B' K' (t++u):=by
 refine⟨λsaid=>noRace_append (H.clean said) hu λi a ha op cx b hb hc=>?_,λi a ha hm=>?_,λi a ha hw g' YN i9=>?_,H.qz λop cx b hb hs=>absurd hs (hr op cx b hb).2.2,H.yi Ah,ox H.seen hB hl⟩
 ·obtain⟨zU,hbS,_⟩:=hr op cx b hb;rcases hc.2.2.1 with x|x
  ·exact H.wrote i a ha x g hL (hc.1▸hbS)
  ·rw[zU]at x;cases x
 ·obtain⟨x,hx,iR⟩:=touch_of ha;rcases getElem?_append_cases hx with⟨_,jK⟩|⟨_,vy⟩
  ·exact H.uz hK jK iR hm
  ·exact .inr (.inl ⟨(hr x vy a iR).1,g,by rw[g?_of hx,hu x vy],hL,(hr x vy a iR).2.1⟩)
 ·obtain⟨x,hx,iR⟩:=touch_of ha;rcases getElem?_append_cases hx with⟨_,jK⟩|⟨_,vy⟩
  ·exact(H.wrote i a (by rw[touchAt_of jK];exact iR) hw g' YN i9).app u
  ·rw[(hr x vy a iR).1]at hw;cases hw
theorem Px.R7{g:Nat}(H:Px rd lo sh B K t)(hK:∀ i,K i->K' i)(hu:∀ op∈u,op.g=g)(hr:∀ (i:Nat) (op:MemOp),u[i]? =some op->∀ b,op.act.touch?=some b->b.kind=.atomic/\sh b.loc/\¬ (t++u).heard (t.size+i))
  (hsr:∀ g l,lo g->rd g l->¬ sh l) (Ah:∀ op∈u,∀ ad,op.act=.mark (.release ad)->¬ sh (.cell ad)) (hB:B<=B') (hl:∀ op∈u,op.act.low B'):Px rd lo sh B' K' (t++u):=by
 have Rp:∀ op∈u,∀ b,op.act.touch?=some b->b.kind=.atomic/\sh b.loc:=λop cx b hb=>by obtain⟨i,hi,rfl⟩:=ZB.1 cx;have:=hr i _ (D2 hi) b hb;exact⟨this.1,this.2.1⟩
 refine⟨λsaid=>noRace_append (H.clean said) hu λi a ha op cx b hb hc=>?_,λi a ha hm=>?_,λi a ha hw g' YN i9=>?_,H.qz λop cx b hb _=>(by rw[(Rp op cx b hb).1];simp),H.yi Ah,ox H.seen hB hl⟩
 ·obtain⟨zV,N6⟩:=Rp op cx b hb;have h1:=H.plain i a ha (hc.1▸N6);rcases hc.2.2.2 with x|x|⟨_,_,x⟩
  ·exact absurd x h1
  ·rw[zV]at x;cases x
  ·rw[zV]at x;cases x
 ·obtain⟨x,hx,iR⟩:=touch_of ha;rcases getElem?_append_cases hx with⟨_,jK⟩|⟨YO,vy⟩
  ·exact H.uz hK jK iR hm
  ·have hi:u[i-t.size]? =some x:=by rw[qq4 YO]at hx;exact hx
   obtain⟨h1,h2,h3⟩:=hr _ x hi a iR;rw[show t.size+(i-t.size)=i by omega]at h3;exact .inr (.inr ⟨h1,h2,h3⟩)
 ·obtain⟨x,hx,iR⟩:=touch_of ha;rcases getElem?_append_cases hx with⟨_,jK⟩|⟨_,vy⟩
  ·exact(H.wrote i a (by rw[touchAt_of jK];exact iR) hw g' YN i9).app u
  ·exact absurd (Rp x vy a iR).2 (hsr g' _ YN i9)
theorem Px.reset{Ey:Nat->Loc->Prop}{YP:Nat->Prop}(H:Px rd lo sh B K t)(hK:∀ i a g,touchAt t i=some a->a.loc.isMemory=true->a.write=false->t.g? i=some g->lo g->rd g a.loc->K i\/(YP g/\Ey g a.loc)\/(a.kind=.atomic/\sh a.loc/\¬ t.heard i))
  (hw:∀ g l,YP g->Ey g l->(lo g/\rd g l)\/∀ i a,touchAt t i=some a->a.write=true->a.loc=l->Knows t g i):Px Ey YP sh B K t:=by
 refine⟨H.clean,λi a ha hm=>?_,λi a ha hwr g hg i9=>?_,H.plain,H.norel,H.seen⟩
 ·rcases H.known i a ha hm with h1|⟨h1,g,hg,hl,hr⟩|h1
  ·exact .inl h1
  ·rcases hK i a g ha hm h1 hg hl hr with h2|⟨h2,h3⟩|h2
   ·exact .inl h2
   ·exact .inr (.inl ⟨h1,g,hg,h2,h3⟩)
   ·exact .inr (.inr h2)
  ·exact .inr (.inr h1)
 ·rcases hw g _ hg i9 with⟨h1,h2⟩|h1
  ·exact H.wrote i a ha hwr g h1 h2
  ·exact h1 i a ha hwr rfl
theorem Px.qA{Uz:Loc->Prop}(H:Px rd lo sh B K t)(gD:∀ l,sh l->Uz l)(xc:∀ l,Uz l->¬ sh l->∃ a:Addr,l=.cell a/\B<=a.block):Px rd lo Uz B K t:=by
 refine⟨H.clean,λi a ha hm=>(H.known i a ha hm).imp id λz=>z.imp id λ⟨x,y,z⟩=>⟨x,gD _ y,z⟩,H.wrote,λi a ha hs=>?_,λi ad ha hs=>?_,H.seen⟩
 ·by_cases h0:sh a.loc
  ·exact H.plain i a ha h0
  ·obtain⟨ad,e,hb⟩:=xc _ hs h0;obtain⟨x,hx,iR⟩:=touch_of ha;have hl:=H.seen x (mem_of_getElem? hx);exfalso;cases Ez:x.act with
   |access ev=>
    rw[Ez]at iR hl;simp only[MemAct.touch?,x6]at iR;subst iR;simp only at e;simp only[MemAct.low,e,Loc.low]at hl;omega
   |mark m=>
    rw[Ez]at iR hl;cases m<;>simp only[MemAct.touch?,x6,reduceCtorEq]at iR<;>subst iR<;>simp only[Loc.cell.injEq]at e<;>subst e<;>simp only[MemAct.low]at hl<;>omega
   |_=>rw[Ez]at iR;simp[MemAct.touch?]at iR
 ·by_cases h0:sh (.cell ad)
  ·exact H.norel i ad ha h0
  ·obtain⟨ad',e,hb⟩:=xc _ hs h0;obtain rfl:=Loc.cell.inj e;obtain⟨x,hx,iR⟩:=M2.1 ha;have hl:=H.seen x (mem_of_getElem? hx);rw[iR]at hl;simp only[MemAct.low]at hl;omega
variable{j:Nat}
theorem Px.give(H:Px rd lo sh B (Knows t h) t)(dh:Deaf t h=0)(dj:Deaf t j=0)(fh:bM)(ph:String)(fj:bM)(pj:String){c:Nat}(k cap:Nat)(hc:c<B):
  Px rd (λg=>lo g/\g≠j) sh B (Knows (t++met h j fh ph fj pj c k cap) j) (t++met h j fh ph fj pj c k cap):=by
 have hn:=met_mute h j fh ph fj pj c k cap;have e0:(t++met h j fh ph fj pj c k cap)[t.size]? =some {g:=h,fn:=fh,pos:=ph,act:=.send c k}:=by simp[met]
 have e3:(t++met h j fh ph fj pj c k cap)[t.size+3]? =some {g:=j,fn:=fj,pos:=pj,act:=.recvDone c k}:=by simp[met]
 have N7:HappensBefore (t++met h j fh ph fj pj c k cap) t.size (t.size+3):=
  Relation.TransGen.single (.inr ⟨.handOver (act?_of e0) (act?_of e3),⟨h,g?_of e0,by rw[deaf_old (fI _)];exact dh⟩,⟨j,g?_of e3,by rw[deaf_quiet (met_quiet _ _ _ _ _ _ _ _ _ j) 3 (by simp[met])];exact dj⟩⟩)
 have hl:∀ op∈met h j fh ph fj pj c k cap,op.act.low B:=λop cx=>by simp only[met,pc,gq,mK,fX]at cx;rcases cx with rfl|rfl|rfl|rfl<;>exact hc
 have Ah:∀ op∈met h j fh ph fj pj c k cap,∀ ad,op.act=.mark (.release ad)->¬ sh (.cell ad):=λop cx ad e=>by simp only[met,pc,gq,mK,fX]at cx;rcases cx with rfl|rfl|rfl|rfl<;>cases e
 refine⟨λsaid=>noRace_appendMute (H.clean said) hn,λi a ha hm=>?_,λi a ha hw g hg i9=>?_,H.qz λop cx b hb=>(by rw[hn op cx]at hb;cases hb),H.yi Ah,ox H.seen (fI _) hl⟩
 ·obtain⟨x,hx,iR⟩:=touch_of ha;rcases getElem?_append_cases hx with⟨hi,jK⟩|⟨_,vy⟩
  ·rcases H.known i a (by rw[touchAt_of jK];exact iR) hm with hk|⟨p,g,hg,hl,hr⟩|⟨p,q,r⟩
   ·exact .inl ⟨t.size+3,_,e3,rfl,.inr ((hk.hb_new (fI _) e0 rfl).trans N7)⟩
   ·by_cases e:g=j
    ·subst e;have:=knows_own hx;rw[show x.g=g from by have:=g?_of jK;rw[hg]at this;exact(bY this).symm]at this;exact .inl this
    ·exact .inr (.inl ⟨p,g,by rw[g?_old hi];exact hg,⟨hl,e⟩,hr⟩)
   ·exact .inr (.inr ⟨p,q,λz=>r ((heard_old hi).1 z)⟩)
  ·rw[hn x vy]at iR;cases iR
 ·obtain⟨x,hx,iR⟩:=touch_of ha;rcases getElem?_append_cases hx with⟨_,jK⟩|⟨_,vy⟩
  ·exact(H.wrote i a (by rw[touchAt_of jK];exact iR) hw g hg.1 i9).app _
  ·rw[hn x vy]at iR;cases iR
theorem Px.loosen{g₀:Nat}{S:Loc->Prop}{K:Nat->Prop}(H:Px rd lo sh B K t)(xG:¬ lo g₀)(hS:∀ l,S l->l.isMemory=true/\¬ sh l)(hk:∀ i a,touchAt t i=some a->a.write=true->S a.loc->Knows t g₀ i):
  Px (λg l=>if g=g₀ then S l else rd g l) (λg=>lo g\/g=g₀) sh B K t:=by
 refine H.reset (λi a g ha hm hw hg hl hr=>.inr (.inl ⟨.inl hl,?_⟩)) λg l hg hr=>?_
 ·have:g≠g₀:=λe=>xG (e▸hl);simpa[this]using hr
 ·by_cases e:g=g₀
  ·subst e;simp only[eQ]at hr;exact .inr λi a ha hw hl=>hk i a ha hw (hl▸hr)
  ·simp only[e,eY]at hr;rcases hg with hg|hg
   ·exact .inl ⟨hg,hr⟩
   ·exact absurd hg e
theorem Px.writes{K:Nat->Prop}(H:Px rd lo sh B K t){l:Loc}(hm:l.isMemory=true)(hs:¬ sh l){i:Nat}{a:Touch}(ha:touchAt t i=some a)(hw:a.write=true)(hl:a.loc=l):K i:=by
 rcases H.known i a ha (hl▸hm)with h1|⟨h1,_⟩|⟨_,h1,_⟩
 ·exact h1
 ·rw[hw]at h1;cases h1
 ·exact absurd (hl▸h1) hs
theorem Px.hire{c:Nat}{S:Loc->Prop}(H:Px rd lo sh B (Knows t h) t)(dh:Deaf t h=0)(dc:Deaf t c=0)(xG:¬ lo c)(hS:∀ l,S l->l.isMemory=true/\¬ sh l)(fh:bM)(ph:String)(fc:bM):
  Px (λg l=>if g=c then S l else rd g l) (λg=>lo g\/g=c) sh B (Knows (t++#[{g:=h,fn:=fh,pos:=ph,act:=.go c},{g:=c,fn:=fc,pos:=ph,act:=.start}]) h)
   (t++#[{g:=h,fn:=fh,pos:=ph,act:=.go c},{g:=c,fn:=fc,pos:=ph,act:=.start}]):=by
 generalize hu:(#[{g:=h,fn:=fh,pos:=ph,act:=.go c},{g:=c,fn:=fc,pos:=ph,act:=.start}]:Trace)=u;have hn:∀ op∈u,op.act.touch?=none:=by intro op cx;subst hu;simp only[pc,gq,mK,fX]at cx;rcases cx with rfl|rfl<;>rfl
 have hq:∀ g,∀ op∈u,∀ d,deafStep g d op=d:=by intro g op cx d;subst hu;simp only[pc,gq,mK,fX]at cx;rcases cx with rfl|rfl<;>rfl
 have e0:(t++u)[t.size]? =some {g:=h,fn:=fh,pos:=ph,act:=.go c}:=by subst hu;simp
 have e1:(t++u)[t.size+1]? =some {g:=c,fn:=fc,pos:=ph,act:=.start}:=by subst hu;simp
 have N7:HappensBefore (t++u) t.size (t.size+1):=
  Relation.TransGen.single (.inr ⟨.spawn (act?_of e0) (act?_of e1) (g?_of e1),⟨h,g?_of e0,by rw[deaf_old (fI _)];exact dh⟩,⟨c,g?_of e1,by rw[deaf_quiet (hq c) 1 (by subst hu;simp)];exact dc⟩⟩)
 have hl:∀ op∈u,op.act.low B:=λop cx=>by subst hu;simp only[pc,gq,mK,fX]at cx;rcases cx with rfl|rfl<;>trivial
 have Ah:∀ op∈u,∀ ad,op.act=.mark (.release ad)->¬ sh (.cell ad):=λop cx ad e=>by subst hu;simp only[pc,gq,mK,fX]at cx;rcases cx with rfl|rfl<;>cases e
 have H':Px rd lo sh B (Knows (t++u) h) (t++u):=H.mute (λi=>Knows.app u) hn Ah (fI _) hl;refine H'.loosen xG hS λi a ha hw hSl=>?_;obtain⟨x,hx,iR⟩:=touch_of ha;rcases getElem?_append_cases hx with⟨_,jK⟩|⟨_,vy⟩
 ·have hk:=H.writes (hS _ hSl).1 (hS _ hSl).2 (by rw[touchAt_of jK];exact iR) hw rfl;exact⟨t.size+1,_,e1,rfl,.inr ((hk.hb_new (fI _) e0 rfl).trans N7)⟩
 ·rw[hn x vy]at iR;cases iR
structure oy(sh:Loc->Prop)(a:Addr)(t:Trace)(g r:Nat):Prop where
 act:t.act? r=some (.mark (.releaseMerge a))
 own:t.g? r=some g
 heard:t.heard r
 after:∀ i x,r<i->t.g? i=some g->touchAt t i=some x->x.kind=.atomic/\sh x.loc/\¬ t.heard i
theorem oy.app{a:Addr}{g r:Nat}{u:Trace}(H:oy sh a t g r)(hu:∀ (i:Nat) (op:MemOp),u[i]? =some op->op.g=g->∀ b,op.act.touch?=some b->b.kind=.atomic/\sh b.loc/\¬ (t++u).heard (t.size+i)):oy sh a (t++u) g r:=by
 have hr:=lt_of_act? H.act;refine⟨by rw[act?_old hr];exact H.act,by rw[g?_old hr];exact H.own,(heard_old hr).2 H.heard,λi x hi hg hx=>?_⟩;obtain⟨op,cx,iR⟩:=touch_of hx;rcases getElem?_append_cases cx with⟨dI,R8⟩|⟨YO,_⟩
 ·obtain⟨h1,h2,h3⟩:=H.after i x hi (by rw[<- g?_old (u:=u) dI];exact hg) (by rw[touchAt_of R8];exact iR);exact⟨h1,h2,λz=>h3 ((heard_old dI).1 z)⟩
 ·have cG:u[i-t.size]? =some op:=by rw[qq4 YO]at cx;exact cx
  have hog:op.g=g:=by rw[g?_of cx]at hg;exact bY hg
  have:=hu _ op cG hog x iR
  rwa[show t.size+(i-t.size)=i by omega]at this
theorem oy.other{a:Addr}{g g' r:Nat}{u:Trace}(H:oy sh a t g r)(hu:∀ op∈u,op.g=g')(eL:g'≠g):oy sh a (t++u) g r:=
 H.app λi op cx hg=>absurd ((hu op (RV cx)).symm.trans hg) eL
theorem oy.still{a:Addr}{g r:Nat}{u:Trace}(H:oy sh a t g r)(hu:∀ op∈u,op.act.touch?=none):oy sh a (t++u) g r:=
 H.app λi op cx hg b hb=>by rw[hu op (RV cx)]at hb;cases hb
theorem oy.new{a:Addr}{g:Nat}{op:MemOp}(hg:op.g=g)(ha:op.act=.mark (.releaseMerge a))(hd:Deaf t g=0):oy sh a (t++#[op]) g t.size:=by
 have yj:(t++#[op])[t.size]? =some op:=by simp
 refine⟨by rw[act?_of yj,ha],by rw[g?_of yj,hg],⟨g,by rw[g?_of yj,hg],by rw[deaf_old (fI _)];exact hd⟩,λi x hi hgi hx=>?_⟩;obtain⟨y,hy,_⟩:=touch_of hx;have:=lt_size_of_getElem? hy;simp at this;omega
theorem Px.acquire{a:Addr}{I:Nat->Prop}{op:MemOp}(H:Px rd lo sh B (Knows t h) t)(dh:Deaf t h=0)(cx:op.g=h)(Ez:op.act=.mark (.acquire a))(ui:sh (.cell a))(hB:a.block<B)
  (hI:∀ g,I g->∃ r,oy sh a t g r):Px rd (λg=>lo g/\¬ I g) sh B (Knows (t++#[op]) h) (t++#[op]):=by
 have hn:∀ o∈#[op],o.act.touch?=none:=λo ho=>by simp only[pc,gq,mK,fX]at ho;subst ho;rw[Ez];rfl
 have H':Px rd lo sh B (Knows (t++#[op]) h) (t++#[op]):=H.mute (λi=>Knows.app _) hn (λo ho ad e=>by
  simp only[pc,gq,mK,fX]at ho;subst ho;rw[Ez]at e;cases e) (fI _) (λo ho=>by
  simp only[pc,gq,mK,fX]at ho;subst ho;rw[Ez];exact hB)
 have yj:(t++#[op])[t.size]? =some op:=by simp
 refine H'.reset (λi x g hx hm hw hg hl hr=>?_) λg l hg hr=>.inl ⟨hg.1,hr⟩;by_cases hIg:I g
 ·obtain⟨r,hR⟩:=hI g hIg;have ZD:oy sh a (t++#[op]) g r:=hR.still hn;rcases oq r i with xH|xH
  ·exact .inr (.inr (ZD.after i x xH hg hx))
  ·left;have Cn:=lt_of_act? hR.act;obtain⟨y,hy,YQ⟩:=touch_of hx;obtain⟨z,hz,hza⟩:=M2.1 (show((t++#[op])[r]?).map (·.act)=_ from ZD.act);have hzg:z.g=g:=by have:=ZD.own;rw[g?_of hz]at this;exact bY this
   have hyg:y.g=g:=by rw[g?_of hy]at hg;exact bY hg
   have eL:i≠r:=λe=>by subst e;rw[hy]at hz;obtain rfl:=bY hz;rw[hza]at YQ;cases YQ
   have N7:HappensBefore (t++#[op]) r t.size:=
    Relation.TransGen.single (.inr ⟨.marked (a:=a) Cn (.inr ZD.act) (by rw[act?_of yj,Ez]) (λk h1 h2 e=>H'.norel k a e ui),ZD.heard,⟨h,by rw[g?_of yj,cx],by rw[deaf_old (fI _)];exact dh⟩⟩)
   exact⟨t.size,op,yj,cx,.inr ((hb_po ak hy hz (hyg.trans hzg.symm)).trans N7)⟩
 ·exact .inr (.inl ⟨⟨hl,hIg⟩,hr⟩)
theorem Px.toPast(H:Px rd lo sh B (Knows t 0) t)(h0:Deaf t 0=0)(hL:∀ g,¬ lo g):Past sh B t:=by
 have hk:∀ i a,touchAt t i=some a->a.loc.isMemory=true->Knows t 0 i\/(a.kind=.atomic/\sh a.loc/\¬ t.heard i):=λi a ha hm=>(H.known i a ha hm).imp id λz=>z.elim (λ⟨_,g,_,hl,_⟩=>absurd hl (hL g)) id;refine⟨H.clean,λi a ha hm=>(hk i a ha hm).imp id λz=>⟨z.2.1,z.1⟩,λi g hg eL ⟨x,hx,hm,hc⟩=>?_,h0,H.seen⟩;rcases hk i x hx hm with⟨q,z,hq,hz,hb⟩|⟨h1,_,h3⟩
 ·rcases hb with rfl|hb
  ·rw[g?_of hq,hz]at hg;exact absurd (bY hg).symm eL
  ·exact⟨q,by rw[g?_of hq,hz],hb⟩
 ·rcases hc with hc|hc
  ·exact absurd h1 hc
  ·exact absurd hc h3
theorem VY:Px (λ_ _=>False) (λ_=>False) (λ_=>False) 0 (Knows #[] 0) #[]:=
 ⟨λsaid=>by rintro⟨i,j,_,⟨a,b,ha,_⟩,_⟩;simp[Trace.act?]at ha,λi a ha=>by simp[touchAt,Trace.act?]at ha,λi a ha=>by simp[touchAt,Trace.act?]at ha,λi a ha=>by simp[touchAt,Trace.act?]at ha,
  λi ad ha=>by simp[Trace.act?]at ha,by simp⟩
end
section
open Go.Conc
open Go.ConcN (sumTo upd sumTo_upd upd_ne upd_same)
structure dH where
 cases:Array CommCase
 shape:CommShape
 uA:aQ->Prop
 mem:List (Addr×Value)
def dH.has(s:dH)(c:Nat):Prop:=∃ (k:Nat) (z:Value),s.cases[k]? =some (rcase c z)
def dH.rd(s:dH)(l:Loc):Prop:=∃ p∈s.mem,l=.cell p.1
def dH.K(s:dH)(w:World):Prop:=∀ p∈s.mem,w.cell? p.1=some p.2
structure dH.Wf(s:dH):Prop where
 recvs:∀ cc∈s.cases,∃ c z,cc=rcase c z
 apart:∀ (k m c:Nat) (z z':Value),s.cases[k]? =some (rcase c z)->s.cases[m]? =some (rcase c z')->k=m
theorem dH.has_of_mem{s:dH}{c:Nat}{z:Value}(h:rcase c z∈s.cases):s.has c:=by obtain⟨k,hk,e⟩:=ZB.1 h;exact⟨k,z,by rw[<- e];exact D2 hk⟩
def ZE(s:dH)(e:Event):Prop:=∃ a,e=⟨.cell a,false,false⟩/\s.rd (.cell a)
def AtR(P:bR)(ao:Bool)(s:dH)(r g:aQ):Prop:=
 s.uA r/\g.status=.running/\g.frame=r.frame/\g.callers=r.callers/\g.dying=r.dying/\∃ es,(∀ e∈es,ZE s e)/\∀ w,s.K w->stepG P ao g w=.comm r s.cases true s.shape w es
def N8(P:bR)(ao:Bool)(s:dH)(g:aQ):Prop:=∃ r,AtR P ao s r g
def Way(P:bR)(ao:Bool)(s:dH):Nat->aQ->Prop
 |0,g=>N8 P ao s g
 |n+1,g=>N8 P ao s g\/(g.status=.running/\∀ w,s.K w->∃ g' es d,stepG P ao g w=.go g' (w.at d) es/\(∀ e∈es,ZE s e)/\Way P ao s n g')
def AZ(P:bR)(ao:Bool)(s:dH)(n:Nat)(g:aQ):Prop:=
 (∃ k,n=k+1/\Way P ao s k g)\/(n=0/\∃ g₀ r,g=parked r s.cases s.shape/\AtR P ao s r g₀)
def UB(P:bR)(T:Trace)(i n:Nat)(g:aQ):Option dH->Prop
 |none=>0<i/\QuitsD P n (Deaf T i) g
 |some s=>AZ P (i==0) s n g
section
variable{P:bR}{ao:Bool}{s:dH}{n:Nat}{g:aQ}
theorem Way.running(h:∃ w,s.K w)(hw:Way P ao s n g):g.status=.running:=by
 cases n with
 |zero=>obtain⟨r,h⟩:=hw;exact h.2.1
 |succ n=>
  rcases hw with⟨r,h⟩|h
  ·exact h.2.1
  ·exact h.1
theorem AZ.status(h:∃ w,s.K w)(hw:AZ P ao s n g):(g.status=.running/\0<n)\/(g.status=.blocked/\n=0):=by
 rcases hw with⟨k,rfl,hk⟩|⟨rfl,g₀,r,rfl,_⟩
 ·exact .inl ⟨Way.running h hk,ak⟩
 ·exact .inr ⟨rfl,rfl⟩
theorem Way.mono{m:Nat}(hw:Way P ao s n g)(hm:n<=m):Way P ao s m g:=by
 induction n generalizing g m with
 |zero=>cases m with
  |zero=>exact hw
  |succ m=>exact .inl hw
 |succ n ih=>
  obtain⟨m,rfl⟩:∃ m',m=m'+1:=⟨m-1,ak⟩;refine hw.imp id λ⟨h1,h2⟩=>⟨h1,λw hK=>?_⟩;obtain⟨g',es,d,h3,h4,h5⟩:=h2 w hK;exact⟨g',es,d,h3,h4,ih h5 ak⟩
theorem AtR.tries{g₀ r:aQ}(h:AtR P ao s r g₀)(cs:Array CommCase)(sh:CommShape):N8 P ao s {parked r cs sh with status:=.running}:=by obtain⟨hr,_,h1,h2,h3,es,xI,dt⟩:=h;exact⟨r,hr,rfl,rfl,rfl,rfl,es,xI,λw hw=>by rw[<- dt w hw];exact stepG_same h1.symm h2.symm h3.symm w⟩
end
structure Gh where
 n:Nat
 aU:Nat->Option dH
 sh:Loc->Prop
 bot:Nat:=0
def Gh.rd(σ:Gh)(g:Nat)(l:Loc):Prop:=∃ s,σ.aU g=some s/\s.rd l
def Gh.lo(σ:Gh)(g:Nat):Prop:=(σ.aU g).isSome=true
structure Fr(P:bR)(σ:Gh)(J:Nat->Prop)(h δ:Nat)(T:Trace)(gs:Array aQ)(w:World)(q:Nat->Nat):Prop where
 cnt:gs.size=σ.n
 idle:∀ i g,i≠h->¬ J i->gs[i]? =some g->UB P T i (q i) g (σ.aU i)
 xd:∀ i g,J i->gs[i]? =some g->g.status=.running\/g.status=.finished
 jh:¬ J h
 hole:σ.aU h=none
 wf:∀ i s,σ.aU i=some s->s.Wf
 there:∀ i s,σ.aU i=some s->i<gs.size
 chans:∀ i s c,¬ J i->σ.aU i=some s->s.has c->∃ k,w.heap[c]? =some (.chan 0 #[] false k k false)
 mem:∀ i s,σ.aU i=some s->s.K w
 uB:∀ i s l,σ.aU i=some s->s.rd l->¬ σ.sh l
 above:∀ j,gs.size<=j->Deaf T j=0
 hear:∀ i,¬ J i->σ.lo i->Deaf T i=0
 deaf:Deaf T h=δ
 px:Px σ.rd σ.lo σ.sh w.heap.size (Knows T h) T
section
variable{P:bR}{σ:Gh}{J:Nat->Prop}{h δ:Nat}{T:Trace}{gs:Array aQ}{w:World}{q:Nat->Nat}
theorem Hh{s:dH}{l:Loc}(h:s.rd l):l.isMemory=true:=by obtain⟨p,_,rfl⟩:=h;rfl
theorem Jy{w:World}{a:Addr}{v:Value}(h:w.cell? a=some v):a.block<w.heap.size:=by
 rcases oq a.block w.heap.size with h'|h'
 ·exact h'
 ·simp[World.cell?,Hd h']at h
theorem Fr.fixed(C:Fr P σ J h δ T gs w q){x:Nat}{y:aQ}(hx:x≠h)(hy:gs[x]? =some y):y.again w=y:=by
 by_cases hJ:J x
 ·exact again_running w (C.xd x y hJ hy)
 have hi:=C.idle x y hx hJ hy;cases e:σ.aU x with
 |none=>rw[e]at hi;exact again_running w hi.2.status
 |some s=>
  rw[e]at hi;rcases hi with⟨k,hq,hg⟩|⟨_,g₀,_,rfl,_⟩
  ·exact again_running w (.inl (Way.running ⟨w,C.mem x s e⟩ hg))
  ·refine again_all_open λcc lf=>?_;obtain⟨c,z,rfl⟩:=(C.wf x s e).recvs cc lf;obtain⟨k,hk⟩:=C.chans x s c hJ e (dH.has_of_mem lf);exact⟨c,z,0,_,k,k,_,rfl,hk⟩
theorem Fr.noSend(C:Fr P σ J h δ T gs w q){x:Nat}{y:aQ}(hx:x≠h)(hy:gs[x]? =some y)(c:Nat):offersAt y c true=[]:=by
 by_cases hJ:J x
 ·exact offersAt_of_not_blocked (λhb=>by rcases C.xd x y hJ hy with z|z<;>rw[z]at hb<;>cases hb) c true
 have hi:=C.idle x y hx hJ hy;cases e:σ.aU x with
 |none=>
  rw[e]at hi;exact offersAt_of_not_blocked (λhb=>by rcases hi.2.status with z|z<;>rw[z]at hb<;>cases hb) c true
 |some s=>
  rw[e]at hi;rcases hi with⟨k,hq,hg⟩|⟨_,g₀,_,rfl,_⟩
  ·have:=Way.running ⟨w,C.mem x s e⟩ hg;exact offersAt_of_not_blocked (λhb=>by rw[this]at hb;cases hb) c true
  ·exact offersAt_parked_sends (λcc lf=>by obtain⟨c',z',rfl⟩:=(C.wf x s e).recvs cc lf;rfl) _
theorem Fr.noRecvAt(C:Fr P σ J h δ T gs w q){x:Nat}{y:aQ}(hx:x≠h)(hy:gs[x]? =some y){c:Nat}(hc:∀ s,σ.aU x=some s->¬ s.has c):offersAt y c false=[]:=by
 by_cases hJ:J x
 ·exact offersAt_of_not_blocked (λhb=>by rcases C.xd x y hJ hy with z|z<;>rw[z]at hb<;>cases hb) c false
 have hi:=C.idle x y hx hJ hy;cases e:σ.aU x with
 |none=>
  rw[e]at hi;exact offersAt_of_not_blocked (λhb=>by rcases hi.2.status with z|z<;>rw[z]at hb<;>cases hb) c false
 |some s=>
  rw[e]at hi;rcases hi with⟨k,hq,hg⟩|⟨_,g₀,_,rfl,_⟩
  ·have:=Way.running ⟨w,C.mem x s e⟩ hg;exact offersAt_of_not_blocked (λhb=>by rw[this]at hb;cases hb) c false
  ·refine offersAt_parked_off (λcc lf ec=>?_) _;obtain⟨c',z',rfl⟩:=(C.wf x s e).recvs cc lf;simp only[rcase,Value.chan.injEq,x6]at ec;subst ec;exact hc s e (dH.has_of_mem lf)
theorem Fr.at(C:Fr P σ J h δ T gs w q)(d:Nat):Fr P σ J h δ T gs (w.at d) q:=
 ⟨C.cnt,C.idle,C.xd,C.jh,C.hole,C.wf,C.there,C.chans,C.mem,C.uB,C.above,C.hear,C.deaf,C.px⟩
theorem Fr.awake(C:Fr P σ J h δ T gs w q){a:aQ}(ha:gs[h]? =some a)(hs:a.status=.running\/a.status=.blocked):∀ g∈gs,awake g:=by
 intro g hg;obtain⟨i,hi,rfl⟩:=ZB.1 hg;by_cases e:i=h
 ·subst e;have:gs[i]=a:=by simpa[D2 hi]using ha
  rw[this];exact awake_of (hs.elim .inl λx=>.inr (.inl x))
 ·by_cases hJ:J i
  ·exact awake_of ((C.xd i _ hJ (D2 hi)).elim .inl λx=>.inr (.inr x))
  have o9:=C.idle i _ e hJ (D2 hi);cases es:σ.aU i with
  |none=>rw[es]at o9;exact awake_of (o9.2.status.elim .inl λx=>.inr (.inr x))
  |some s=>rw[es]at o9;exact awake_of ((AZ.status ⟨w,C.mem i s es⟩ o9).elim (λx=>.inl x.1) λx=>.inr (.inl x.1))
theorem Fr.put(C:Fr P σ J h δ T gs w q){i n' d:Nat}{g':aQ}{ops:Array MemOp}{fL:Array aQ}(hi:i≠h)(hJ:¬ J i)(dI:i<gs.size)(hsz:fL.size=gs.size)(qB:∀ x,x≠i->x≠h->fL[x]? =gs[x]?)(mg:fL[i]? =some g')
  (cJ:∀ op∈ops,op.g=i) (ZF:UB P (T++ops) i n' g' (σ.aU i)) (hd:σ.lo i->Deaf (T++ops) i=Deaf T i) (UC:Px σ.rd σ.lo σ.sh w.heap.size (Knows (T++ops) h) (T++ops)):Fr P σ J h δ (T++ops) fL (w.at d) (upd q i n'):=by
 refine⟨hsz.trans C.cnt,λx y hx zW hy=>?_,λx y zW hy=>?_,C.jh,C.hole,C.wf,λi s e=>by rw[hsz];exact C.there i s e,C.chans,C.mem,C.uB,λj hj=>?_,λx zW hl=>?_,?_,UC⟩
 ·by_cases e:x=i
  ·subst e;rw[mg]at hy;obtain rfl:=bY hy;rw[upd_same];exact ZF
  ·rw[qB x e hx]at hy;rw[upd_ne q n' e];have h0:=C.idle x y hx zW hy;cases es:σ.aU x with
   |none=>rw[es]at h0;exact⟨h0.1,by rw[Deaf_other T (λz=>e z.symm) ops cJ];exact h0.2⟩
   |some s=>rw[es]at h0;exact h0
 ·have e:x≠i:=λe=>hJ (e▸zW);rw[qB x e (λe=>C.jh (e▸zW))]at hy;exact C.xd x y zW hy
 ·rw[Deaf_other T (g':=i) ak ops cJ];exact C.above j ak
 ·by_cases e:x=i
  ·subst e;rw[hd hl];exact C.hear x zW hl
  ·rw[Deaf_other T (λz=>e z.symm) ops cJ];exact C.hear x zW hl
 ·rw[Deaf_other T hi ops cJ];exact C.deaf
theorem uC{s:dH}{i:Nat}{fn:bM}{pos:String}{es:Array Event}(hK:s.K w)(h:∀ e∈es,ZE s e):
  (∀ op∈MemOp.ofEvents i fn pos es,op.g=i)/\(∀ op∈MemOp.ofEvents i fn pos es,∀ b,op.act.touch?=some b->b.write=false/\s.rd b.loc)/\(∀ op∈MemOp.ofEvents i fn pos es,op.act.low w.heap.size)/\
   (∀ op∈MemOp.ofEvents i fn pos es,∀ ad,op.act≠ .mark (.release ad))/\∀ t:Trace,Deaf (t++MemOp.ofEvents i fn pos es) i=Deaf t i:=by
 refine⟨λop cx=>by obtain⟨e,_,rfl⟩:=Conc.mem_ofEvents cx;rfl,λop cx b hb=>?_,λop cx=>?_,λop cx ad e=>?_,λt=>?_⟩
 ·obtain⟨e,he,rfl⟩:=Conc.mem_ofEvents cx;obtain⟨a,rfl,hS⟩:=h e he;simp only[ofEvent_cell0,MemAct.touch?,x6]at hb;subst hb;exact⟨rfl,hS⟩
 ·obtain⟨e,he,rfl⟩:=Conc.mem_ofEvents cx;obtain⟨a,rfl,p,hp,ep⟩:=h e he;rw[ofEvent_cell0];obtain rfl:=Loc.cell.inj ep;exact Jy (hK p hp)
 ·obtain⟨e',he,rfl⟩:=Conc.mem_ofEvents cx;obtain⟨a,rfl,_⟩:=h e' he;cases e
 ·rw[Deaf_own];exact deafBehind_still (λe he=>by obtain⟨a,rfl,_⟩:=h e he;exact⟨by simp,by simp⟩) _
theorem yk{e:Event}(h:e.mute=true)(ad:Addr):MemAct.ofEvent e≠ .mark (.release ad):=by obtain⟨loc,wr,sy⟩:=e;cases loc<;>simp_all [Event.mute];rename_i m;cases m<;>simp_all [MemAct.ofEvent]
theorem Fr.EA(C:Fr P σ J h δ T gs w q){i:Nat}{g:aQ}{sl:Option (Nat×Nat)}(hi:gs[i]? =some g)(Rq:i≠h)(hJ:¬ J i)(mo:g.status=.running)
  (ZG:∀ s,σ.aU i=some s->N8 P (i==0) s g->∀ gx c,gs[h]? =some gx->s.has c->offersAt gx c true=[]):
  ∃ (fL:Array aQ) (ops:Array MemOp) (q':Nat->Nat) (d:Nat),runT P (crowd gs w sl) i=(.next (crowd fL (w.at d) sl),ops)/\fL.size=gs.size/\(∀ gx,gs[h]? =some gx->fL[h]? =some gx\/∃ w',w'.heap=w.heap/\fL[h]? =some (gx.again w'))/\(∀ x,J x->fL[x]? =gs[x]?)/\(∀ op∈ops,op.g=i)/\
   (∀ x,x≠i->q' x=q x)/\(∀ s,σ.aU i=some s->q' i=0->N8 P (i==0) s g)/\
   Fr P σ J h δ (T++ops) fL (w.at d) q'/\sumTo gs.size q'<sumTo gs.size q:=by
 have dI:i<gs.size:=(gQ.1 hi).1;have Co:∀ (a' g':aQ) (d:Nat) (x:Nat),x≠i->x≠h->((gs.map (woken P g a' (w.at d))).setIfInBounds i g')[x]? =gs[x]? :=by
  intro a' g' d x hx M4;rw[gC (λe=>hx e.symm),Eg];cases e:gs[x]? with
  |none=>rfl
  |some y=>simp[woken_of_again ((C.at d).fixed M4 e)]
 have ZH:∀ (a' g':aQ) (d:Nat) (gx:aQ),gs[h]? =some gx->((gs.map (woken P g a' (w.at d))).setIfInBounds i g')[h]? =some gx\/∃ w',w'.heap=w.heap/\((gs.map (woken P g a' (w.at d))).setIfInBounds i g')[h]? =some (gx.again w'):=by
  intro a' g' d gx xe;rw[gC Rq,Eg,xe];simp only[lJ];unfold woken;split
  ·exact .inr ⟨w.at d,rfl,rfl⟩
  ·exact .inl rfl
 have mg:∀ (a' g':aQ) (d:Nat),((gs.map (woken P g a' (w.at d))).setIfInBounds i g')[i]? =some g':=λa' g' d=>j4 (by simpa using dI);have VZ:∀ k n,q i=k+1->n<=k->sumTo gs.size (upd q i n)<sumTo gs.size q:=by
  intro k n UD hn;have h2:sumTo gs.size (upd q i n)+(k+1)=sumTo gs.size q+n:=by have:=sumTo_upd q n id dI;simpa[UD]using this
  omega
 have o9:=C.idle i g Rq hJ hi;cases e:σ.aU i with
 |none=>
  rw[e]at o9;obtain⟨adi,hq⟩:=o9;have EB:(i==0)=false:=by simp;omega
  cases UD:q i with
  |zero=>rw[UD]at hq;rw[hq.1]at mo;cases mo
  |succ k=>
   rw[UD]at hq;rcases hq with⟨hf,_⟩|⟨_,g',es,hm,lW,D3⟩
   ·rw[hf]at mo;cases mo
   have cJ:∀ op∈MemOp.ofEvents i g.frame.fn g.frame.place es,op.g=i:=λop cx=>by obtain⟨e,_,rfl⟩:=Conc.mem_ofEvents cx;rfl
   have Rr:w=w.at w.drawn:=rfl;refine⟨_,_,upd q i k,w.drawn,runT_crowd_go (sl:=sl) hi (by rw[EB];exact lW w),by simp,ZH g' g' w.drawn,λx hx=>Co g' g' w.drawn x (λe=>hJ (e▸hx)) (λe=>C.jh (e▸hx)),cJ,λx hx=>upd_ne q k hx,λs hs _=>(by cases hs),?_,VZ k k UD (fI _)⟩;refine C.put Rq hJ dI (by simp) (λx hx M4=>Co _ _ w.drawn x hx M4) (mg _ _ w.drawn) cJ (by rw[e];exact⟨adi,by rw[Deaf_own];exact D3⟩) (λhl=>by unfold Gh.lo at hl;rw[e]at hl;cases hl) ?_;exact C.px.mute (λi=>Knows.app _) (λop cx=>by obtain⟨e,he,rfl⟩:=Conc.mem_ofEvents cx;exact touch_mute (hm e he)) (λop cx ad ea=>by obtain⟨e,he,rfl⟩:=Conc.mem_ofEvents cx;exact absurd ea (yk (hm e he) ad)) (fI _) (λop cx=>by obtain⟨e,he,rfl⟩:=Conc.mem_ofEvents cx;exact low_mute (hm e he) _)
 |some s=>
  rw[e]at o9;have og:σ.lo i:=by unfold Gh.lo;rw[e];rfl
  obtain⟨k,UD,hg⟩:∃ k,q i=k+1/\Way P (i==0) s k g:=by
   rcases o9 with h1|⟨_,g₀,r,rfl,_⟩
   ·exact h1
   ·cases mo
  have Rs:=C.mem i s e;have oA:N8 P (i==0) s g\/∃ k' g' es d,k=k'+1/\stepG P (i==0) g w=.go g' (w.at d) es/\(∀ e∈es,ZE s e)/\Way P (i==0) s k' g':=by
   cases k with
   |zero=>exact .inl hg
   |succ k'=>
    rcases hg with N9|⟨_,sG⟩
    ·exact .inl N9
    ·obtain⟨g',es,d,h1,h2,h3⟩:=sG w Rs;exact .inr ⟨k',g',es,d,rfl,h1,h2,h3⟩
  have UE:∀ l,s.rd l->σ.rd i l:=λl hl=>⟨s,e,hl⟩;rcases oA with D4|⟨k',g',es,d,rfl,hgo,xI,YR⟩
  ·
   have adj:=ZG s e D4;obtain⟨rr,ZI⟩:=id D4;obtain⟨_,_,_,_,_,es,xI,lW⟩:=id ZI;obtain⟨cJ,hr,hl,tv,hd⟩:=uC (i:=i) (fn:=g.frame.fn) (pos:=g.frame.place) Rs xI;have hw:∀ cc∈s.cases,NoWays w (gs.setIfInBounds i ph) cc:=by
    intro cc lf;obtain⟨c,z,rfl⟩:=(C.wf i s e).recvs cc lf;have Jz:=dH.has_of_mem lf;obtain⟨kk,hc⟩:=C.chans i s c hJ e Jz;refine ways_recv_none hc (partners_nil λx y hy=>?_);rcases getElem?_stand gs i x y hy with⟨_,rfl⟩|⟨hx,Rt⟩
    ·exact offersAt_ph _ _
    ·by_cases hS:x=h
     ·subst hS;exact adj y c Rt Jz
     ·exact C.noSend hS Rt _
   refine⟨_,_,upd q i 0,w.drawn,crowd_waits (sl:=sl) hi (lW w Rs) hw,by simp,λgx xe=>.inl (by rw[gC Rq];exact xe),λx hx=>gC (λz:i=x=>hJ (by rw[z];exact hx)),cJ,λx hx=>upd_ne q 0 hx,λs' wD _=>(by obtain rfl:=bY wD;exact D4),?_,VZ k 0 UD (eC _)⟩;refine C.put Rq hJ dI (by simp) (λx hx _=>gC (λz=>hx z.symm)) (j4 dI) cJ (by rw[e];exact .inr ⟨rfl,g,rr,rfl,ZI⟩) (λ_=>hd T) ?_;exact C.px.reads (λi=>Knows.app _) og cJ (λop cx b hb=>⟨(hr op cx b hb).1,UE _ (hr op cx b hb).2,C.uB i s _ e (hr op cx b hb).2⟩) (λop cx ad ea=>absurd ea (tv op cx ad)) (fI _) hl
  ·obtain⟨cJ,hr,hl,tv,hd⟩:=uC (i:=i) (fn:=g.frame.fn) (pos:=g.frame.place) Rs xI;refine⟨_,_,upd q i (k'+1),d,runT_crowd_go (sl:=sl) hi hgo,by simp,ZH g' g' d,λx hx=>Co g' g' d x (λe=>hJ (e▸hx)) (λe=>C.jh (e▸hx)),cJ,λx hx=>upd_ne q _ hx,λs' _ h0=>(by rw[upd_same]at h0;omega),?_,VZ _ _ UD ak⟩;refine C.put Rq hJ dI (by simp) (λx hx M4=>Co _ _ d x hx M4) (mg _ _ d) cJ (by rw[e];exact .inl ⟨k',rfl,YR⟩) (λ_=>hd T) ?_;exact C.px.reads (λi=>Knows.app _) og cJ (λop cx b hb=>⟨(hr op cx b hb).1,UE _ (hr op cx b hb).2,C.uB i s _ e (hr op cx b hb).2⟩) (λop cx ad ea=>absurd ea (tv op cx ad)) (fI _) hl
theorem Fr.by_step(C:Fr P σ J h δ T gs w q){i:Nat}{g:aQ}{sl:Option (Nat×Nat)}(hi:gs[i]? =some g)(Rq:i≠h)(hJ:¬ J i)(mo:g.status=.running)(hth:h<gs.size)
  (hsA:∀ gx (w':World),gs[h]? =some gx->w'.heap=w.heap->gx.again w'=gx)
  (ZG:∀ s,σ.aU i=some s->N8 P (i==0) s g->∀ gx c,gs[h]? =some gx->s.has c->offersAt gx c true=[]):
  ∃ (fL:Array aQ) (ops:Array MemOp) (q':Nat->Nat) (d:Nat),runT P (crowd gs w sl) i=(.next (crowd fL (w.at d) sl),ops)/\fL.size=gs.size/\fL[h]? =gs[h]? /\(∀ x,J x->fL[x]? =gs[x]?)/\(∀ op∈ops,op.g=i)/\
   (∀ x,x≠i->q' x=q x)/\(∀ s,σ.aU i=some s->q' i=0->N8 P (i==0) s g)/\
   Fr P σ J h δ (T++ops) fL (w.at d) q'/\sumTo gs.size q'<sumTo gs.size q:=by
 obtain⟨fL,ops,q',d,h1,h2,h3,h4⟩:=C.EA (sl:=sl) hi Rq hJ mo ZG;refine⟨fL,ops,q',d,h1,h2,?_,h4⟩;obtain⟨gx,xe⟩:∃ gx,gs[h]? =some gx:=⟨gs[h],D2 hth⟩;rcases h3 gx xe with h|⟨w',nV,h⟩
 ·rw[h,xe]
 ·rw[h,xe,hsA gx w' xe nV]
theorem Fr.picked(C:Fr P σ (λ_=>False) h δ T gs w q){a:aQ}{sl:Option (Nat×Nat)}(ha:gs[h]? =some a)(mo:a.status=.running):
  ∃ (N:Nat) (fL:Array aQ) (d d':Nat) (nW Oa:Option (Nat×Nat)) (T':Trace) (q':Nat->Nat),runNT P N (crowd gs w sl) T=(.next (crowd fL (w.at d) nW),T')/\
   stepT P (crowd fL (w.at d) nW)=runT P (crowd fL (w.at d') Oa) h/\fL.size=gs.size/\fL[h]? =some a/\Fr P σ (λ_=>False) h δ T' fL (w.at d') q':=by
 obtain⟨N,m',T',hr,fL,d,d',nW,Oa,q',rfl,dt,hsz,JA,C'⟩:=runs_until (P:=P)
  (Inv:=λμ m t=>∃ eD d qC q₁,m=crowd eD (w.at d) qC/\eD.size=gs.size/\eD[h]? =some a/\Fr P σ (λ_=>False) h δ t eD (w.at d) q₁/\μ=sumTo eD.size q₁)
  (Done:=λm t=>∃ eD d d' qC ZJ q₁,m=crowd eD (w.at d) qC/\stepT P (crowd eD (w.at d) qC)=runT P (crowd eD (w.at d') ZJ) h/\eD.size=gs.size/\eD[h]? =some a/\Fr P σ (λ_=>False) h δ t eD (w.at d') q₁)
  (λμ m t ⟨eD,d,qC,q₁,hm,hsz,kE,C₁,hμ⟩=>by
   subst hm;obtain⟨i,g,d',nW,hi,hg,dt⟩:=crowd_pick (P:=P) (w:=w.at d) (sl:=qC) (C₁.awake kE (.inl mo)) ⟨h,a,kE,mo⟩;rw[at_at']at dt;have Cd:Fr P σ (λ_=>False) h δ t eD (w.at d') q₁:=C₁.at d';by_cases e:i=h
   ·subst e;exact .inl ⟨eD,d,d',qC,nW,q₁,rfl,dt,hsz,kE,Cd⟩
   ·obtain⟨fL,ops,q',d₂,GZ,tw,rL,_,_,_,_,C',dI⟩:=Cd.by_step (sl:=nW) hi e (λz=>z) hg (gQ.1 kE).1
     (λgx w' xe _=>by rw[kE]at xe;obtain rfl:=bY xe;exact again_running _ (.inl mo))
     (λs _ _ gx c xe _=>by rw[kE]at xe;obtain rfl:=bY xe;exact offersAt_of_not_blocked (by rw[mo];simp) _ _)
    exact .inr ⟨_,_,sumTo fL.size q',by rw[dt];exact GZ,by rw[tw];omega,fL,d₂,nW,q',rfl,tw.trans hsz,by rw[rL];exact kE,C',rfl⟩)
  _ _ T ⟨gs,w.drawn,sl,q,rfl,rfl,ha,C,rfl⟩
 exact⟨N,fL,d,d',nW,Oa,T',q',hr,dt,hsz,JA,C'⟩
structure pO(σ:Gh)(w w':World)(es:Array Event):Prop where
 size:w.heap.size<=w'.heap.size
 chans:∀ (r:Nat) (o:Obj),w.heap[r]? =some o->o.isChan=true->w'.heap[r]? =some o
 mem:∀ i s p,σ.aU i=some s->p∈s.mem->w.cell? p.1=some p.2->w'.cell? p.1=some p.2
 ev:∀ e∈es,(∀ b,(MemAct.ofEvent e).touch?=some b->(b.write=true->∀ i,¬ σ.rd i b.loc)/\(σ.sh b.loc->b.kind≠ .plain))/\(∀ ad,MemAct.ofEvent e=.mark (.release ad)->¬ σ.sh (.cell ad))/\(MemAct.ofEvent e).low w'.heap.size
theorem pO.ops{σ:Gh}{w w':World}{es:Array Event}(H:pO σ w w' es)(i:Nat)(fn:bM)(pos:String):
  (∀ op∈MemOp.ofEvents i fn pos es,op.g=i)/\(∀ op∈MemOp.ofEvents i fn pos es,∀ b,op.act.touch?=some b->(b.write=true->∀ g,σ.lo g->¬ σ.rd g b.loc)/\(σ.sh b.loc->b.kind≠ .plain))/\
   (∀ op∈MemOp.ofEvents i fn pos es,∀ ad,op.act=.mark (.release ad)->¬ σ.sh (.cell ad))/\(∀ op∈MemOp.ofEvents i fn pos es,op.act.low w'.heap.size):=
 ⟨λop cx=>by obtain⟨e,_,rfl⟩:=Conc.mem_ofEvents cx;rfl,λop cx b hb=>by obtain⟨e,he,rfl⟩:=Conc.mem_ofEvents cx;exact⟨λhw g _=>((H.ev e he).1 b hb).1 hw g,((H.ev e he).1 b hb).2⟩,
  λop cx ad ea=>by obtain⟨e,he,rfl⟩:=Conc.mem_ofEvents cx;exact(H.ev e he).2.1 ad ea,λop cx=>by obtain⟨e,he,rfl⟩:=Conc.mem_ofEvents cx;exact(H.ev e he).2.2⟩
theorem Fr.own(C:Fr P σ J h δ T gs w q){a a':aQ}{w':World}{es:Array Event}{fn:bM}{pos:String}(dI:h<gs.size)(ho:pO σ w w' es):
  Fr P σ J h (deafBehind δ es) (T++MemOp.ofEvents h fn pos es) ((gs.map (woken P a a' w')).setIfInBounds h a') w' q/\((gs.map (woken P a a' w')).setIfInBounds h a')[h]? =some a':=by
 obtain⟨cJ,hs,hr,hl⟩:=ho.ops h fn pos;have nX:∀ i s c,¬ J i->σ.aU i=some s->s.has c->∃ k,w'.heap[c]? =some (.chan 0 #[] false k k false):=λi s c hJ e hc=>by obtain⟨k,hk⟩:=C.chans i s c hJ e hc;exact⟨k,ho.chans _ _ hk rfl⟩
 have hm:∀ i s,σ.aU i=some s->s.K w':=λi s e p hp=>ho.mem i s p e hp (C.mem i s e p hp);have V0:∀ (x:Nat) (y:aQ),x≠h->gs[x]? =some y->y.again w'=y:=by
  intro x y hx hy;by_cases hJ:J x
  ·exact again_running w' (C.xd x y hJ hy)
  have hi:=C.idle x y hx hJ hy;cases e:σ.aU x with
  |none=>rw[e]at hi;exact again_running w' hi.2.status
  |some s=>
   rw[e]at hi;rcases hi with⟨k,hq,hg⟩|⟨_,g₀,_,rfl,_⟩
   ·exact again_running w' (.inl (Way.running ⟨w,C.mem x s e⟩ hg))
   ·refine again_all_open λcc lf=>?_;obtain⟨c,z,rfl⟩:=(C.wf x s e).recvs cc lf;obtain⟨k,hk⟩:=nX x s c hJ e (dH.has_of_mem lf);exact⟨c,z,0,_,k,k,_,rfl,hk⟩
 have Co:∀ x,x≠h->((gs.map (woken P a a' w')).setIfInBounds h a')[x]? =gs[x]? :=by
  intro x hx;rw[gC (λe=>hx e.symm),Eg];cases e:gs[x]? with
  |none=>rfl
  |some y=>simp[woken_of_again (V0 x y hx e)]
 refine⟨⟨by simpa using C.cnt,λx y hx hJ hy=>?_,λx y hJ hy=>?_,C.jh,C.hole,C.wf,λi s e=>by simpa using C.there i s e,nX,hm,C.uB,λj hj=>?_,λx hJ og=>?_,?_,?_⟩,j4 (by simpa using dI)⟩
 ·rw[Co x hx]at hy;have hi:=C.idle x y hx hJ hy;cases es':σ.aU x with
  |none=>rw[es']at hi;exact⟨hi.1,by rw[Deaf_other T (λz=>hx z.symm) _ cJ];exact hi.2⟩
  |some s=>rw[es']at hi;exact hi
 ·rw[Co x (λe=>C.jh (e▸hJ))]at hy;exact C.xd x y hJ hy
 ·simp only[KH,Array.size_map]at hj;rw[Deaf_other T (g':=h) ak _ cJ];exact C.above j hj
 ·have hx:x≠h:=λe=>by subst e;unfold Gh.lo at og;rw[C.hole]at og;cases og
  rw[Deaf_other T (λz=>hx z.symm) _ cJ];exact C.hear x hJ og
 ·rw[Deaf_own,C.deaf]
 ·exact C.px.own cJ hs hr ho.size hl
end
end
section
open Go.Conc
open Go.ConcN (sumTo upd sumTo_upd upd_ne upd_same)
theorem Px.conv{rd Ey:Nat->Loc->Prop}{lo YP:Nat->Prop}{sh:Loc->Prop}{B:Nat}{K:Nat->Prop}{t:Trace}(H:Px rd lo sh B K t)(hl:∀ g,YP g↔lo g)(hr:∀ g l,lo g->(Ey g l↔rd g l)):Px Ey YP sh B K t:=
 H.reset (λi a g _ _ _ _ hg i9=>.inr (.inl ⟨(hl g).2 hg,(hr g _ hg).2 i9⟩)) λg l hg i9=>.inl ⟨(hl g).1 hg,(hr g l ((hl g).1 hg)).1 i9⟩
section
variable{P:bR}{σ:Gh}{h δ:Nat}{T:Trace}{gs:Array aQ}{w:World}{q:Nat->Nat}
theorem pd{w:World}{c:Nat}{cap s r:Nat}{YS:Array Value}{cl tm:Bool}(hc:w.heap[c]? =some (.chan cap YS cl s r tm)){a:Addr}{v:Value}(ha:w.cell? a=some v)(adk:Nat)(adl:Array Value)(cl':Bool)(s' r':Nat)(zX:Bool):
  (w.setChan c adk adl cl' s' r' zX).cell? a=some v:=by
 have eL:c≠a.block:=λe=>by unfold World.cell? at ha;rw[<- e,hc]at ha;cases ha
 unfold World.cell? at ha⊢;rw[heap_setChan_ne w _ _ _ _ _ _ eL];exact ha
theorem mq(w:World)(c cap:Nat)(YS:Array Value)(cl:Bool)(s r:Nat)(tm:Bool):(w.setChan c cap YS cl s r tm).heap.size=w.heap.size:=by simp[World.setChan]
structure nY(σ:Gh)(s:dH)(w:World):Prop where
 wf:s.Wf
 chans:∀ c,s.has c->∃ k,w.heap[c]? =some (.chan 0 #[] false k k false)
 mem:s.K w
 uB:∀ l,s.rd l->¬ σ.sh l
def Gh.oB(σ:Gh)(s:dH):Gh:={n:=σ.n+1,aU:=upd σ.aU σ.n (some s),sh:=σ.sh,bot:=σ.bot}
theorem Fr.hire(C:Fr P σ (λ_=>False) h 0 T gs w q){a a' child:aQ}{es:Array Event}{s:dH}{m:Nat}{sl:Option (Nat×Nat)}(ha:gs[h]? =some a)(hgo:stepG P (h==0) a w=.spawn a' child w es)(ho:pO σ w w es)(hd:deafBehind 0 es=0)
  (hs:nY σ s w) (mQ:Way P false s m child):
  ∃ fL ops q',runT P (crowd gs w sl) h=(.next (crowd fL w sl),ops)/\fL[h]? =some a'/\Fr P (σ.oB s) (λ_=>False) h 0 (T++ops) fL w q':=by
 have dI:h<gs.size:=(gQ.1 ha).1;have hn:σ.n=gs.size:=C.cnt.symm;obtain⟨cJ,ZG,hrO,hlO⟩:=ho.ops h a.frame.fn a.frame.place;have GZ:=runT_crowd_spawn (P:=P) (sl:=sl) ha hgo;have Ob:((MemOp.ofEvents h a.frame.fn a.frame.place es).push {g:=h,fn:=a.frame.fn,pos:=a.frame.place,act:=.go gs.size} |>.push {g:=gs.size,fn:=child.frame.fn,pos:=a.frame.place,act:=.start})=
   MemOp.ofEvents h a.frame.fn a.frame.place es++#[{g:=h,fn:=a.frame.fn,pos:=a.frame.place,act:=.go gs.size},{g:=gs.size,fn:=child.frame.fn,pos:=a.frame.place,act:=.start}]:=by
  apply Array.ext';simp
 rw[Ob]at GZ;have hDh:Deaf (T++MemOp.ofEvents h a.frame.fn a.frame.place es) h=0:=by rw[Deaf_own,C.deaf,hd]
 have YT:∀ x,x≠h->Deaf (T++MemOp.ofEvents h a.frame.fn a.frame.place es) x=Deaf T x:=λx ex=>Deaf_other T (λz=>ex z.symm) _ cJ;have eL:gs.size≠h:=ak;have p1:=C.px.own cJ ZG hrO (fI _) hlO;have xG:¬ σ.lo gs.size:=λhl=>by unfold Gh.lo at hl;obtain⟨s',wD⟩:=ur.1 hl;have:=C.there _ _ wD;omega
 have p2:=p1.hire (c:=gs.size) (S:=s.rd) hDh (by rw[YT _ eL];exact C.above _ (fI _)) xG (λl hl=>⟨Hh hl,hs.uB l hl⟩) a.frame.fn a.frame.place child.frame.fn;rw[He]at p2;have hD2:∀ x,x≠h->Deaf (T++(MemOp.ofEvents h a.frame.fn a.frame.place es++#[{g:=h,fn:=a.frame.fn,pos:=a.frame.place,act:=.go gs.size},{g:=gs.size,fn:=child.frame.fn,pos:=a.frame.place,act:=.start}])) x=Deaf T x:=λx ex=>by
  rw[<- He,Deaf_quiet (λop cx d=>by simp only[pc,gq,mK,fX]at cx;rcases cx with rfl|rfl<;>rfl),YT x ex]
 have hD3:Deaf (T++(MemOp.ofEvents h a.frame.fn a.frame.place es++#[{g:=h,fn:=a.frame.fn,pos:=a.frame.place,act:=.go gs.size},{g:=gs.size,fn:=child.frame.fn,pos:=a.frame.place,act:=.start}])) h=0:=by
  rw[<- He,Deaf_quiet (λop cx d=>by simp only[pc,gq,mK,fX]at cx;rcases cx with rfl|rfl<;>rfl),hDh]
 have eo:∀ x,x≠gs.size->(σ.oB s).aU x=σ.aU x:=λx hx=>by simp only[Gh.oB,hn];exact upd_ne _ _ hx
 have A0:(σ.oB s).aU gs.size=some s:=by simp only[Gh.oB,hn,upd_same]
 refine⟨_,_,upd q gs.size (m+1),GZ,by rw[Nt,aq (by simp;omega)];exact j4 dI,?_⟩;refine⟨by simp[Gh.oB,hn],λx y hx _ hy=>?_,λ_ _ z=>z.elim,λz=>z,?_,λi s' e=>?_,λi s' e=>?_,λi s' c _ e hc=>?_,λi s' e=>?_,λi s' l e hl=>?_,λx hx=>?_,λx _ hl=>?_,hD3,?_⟩
 ·by_cases ex:x=gs.size
  ·subst ex;rw[Nt,aK (by simp)]at hy;obtain rfl:=bY hy;rw[A0,upd_same];have:(gs.size==0)=false:=by rw[RX];omega
   exact .inl ⟨m,rfl,by rw[this];exact mQ⟩
  ·have Oc:x<gs.size:=by have:=(gQ.1 hy).1;simp at this;omega
   rw[Nt,aq (by simp;omega),gC (λz=>hx z.symm)]at hy;rw[eo x ex,upd_ne q _ ex];have o9:=C.idle x y hx (λz=>z) hy;cases e:σ.aU x with
   |none=>rw[e]at o9;exact⟨o9.1,by rw[hD2 x hx];exact o9.2⟩
   |some s'=>rw[e]at o9;exact o9
 ·rw[eo h (i3 eL)];exact C.hole
 ·by_cases ex:i=gs.size
  ·subst ex;rw[A0]at e;obtain rfl:=bY e;exact hs.wf
  ·rw[eo i ex]at e;exact C.wf i s' e
 ·simp only[KI,KH];by_cases ex:i=gs.size
  ·omega
  ·rw[eo i ex]at e;have:=C.there i s' e;omega
 ·by_cases ex:i=gs.size
  ·subst ex;rw[A0]at e;obtain rfl:=bY e;exact hs.chans c hc
  ·rw[eo i ex]at e;exact C.chans i s' c (λz=>z) e hc
 ·by_cases ex:i=gs.size
  ·subst ex;rw[A0]at e;obtain rfl:=bY e;exact hs.mem
  ·rw[eo i ex]at e;exact C.mem i s' e
 ·by_cases ex:i=gs.size
  ·subst ex;rw[A0]at e;obtain rfl:=bY e;exact hs.uB l hl
  ·rw[eo i ex]at e;exact C.uB i s' l e hl
 ·simp only[KI,KH]at hx;rw[hD2 x ak];exact C.above x ak
 ·by_cases exh:x=h
  ·subst exh;exact hD3
  ·by_cases ex:x=gs.size
   ·subst ex;rw[hD2 _ exh];exact C.above _ (fI _)
   ·rw[hD2 x exh];refine C.hear x (λz=>z) ?_;unfold Gh.lo at hl⊢
    rwa[eo x ex]at hl
 ·refine p2.conv (λg=>?_) λg l hg=>?_
  ·unfold Gh.lo;by_cases ex:g=gs.size
   ·subst ex;rw[A0];simp
   ·rw[eo g ex];simp[ex]
  ·unfold Gh.rd;by_cases ex:g=gs.size
   ·subst ex;rw[A0];simp
   ·rw[eo g ex];simp[ex]
def Gh.given(σ:Gh)(h j:Nat)(sh:dH):Gh:={n:=σ.n,aU:=upd (upd σ.aU j none) h (some sh),sh:=σ.sh,bot:=σ.bot}
theorem Fr.pass(C:Fr P σ (λ_=>False) h 0 T gs w q){j c k m:Nat}{s sH:dH}(KP:j≠h)(yl:h<gs.size)(hj:σ.aU j=some s)(Jz:s.has c)(hc:w.heap[c]? =some (.chan 0 #[] false k k false))(hcB:c<w.heap.size)
  {fL:Array aQ} {H':aQ} (hsz:fL.size=gs.size) (Od:∀ x,x≠h->x≠j->fL[x]? =gs[x]?) (hH:fL[h]? =some H') (fh:bM) (pH:String) (fj:bM) (pj:String)
  (lE:nY σ sH w) (mQ:Way P (h==0) sH m H'):
  Fr P (σ.given h j sH) (λ_=>False) j 0 (T++met h j fh pH fj pj c k 0) fL (w.setChan c 0 #[] false (k+1) (k+1) false) (upd q h (m+1)):=by
 have JB:∀ x,Deaf (T++met h j fh pH fj pj c k 0) x=Deaf T x:=λx=>Deaf_quiet (met_quiet _ _ _ _ _ _ _ _ _ x);have hsj:(σ.given h j sH).aU j=none:=by simp only[Gh.given];rw[upd_ne _ _ KP,upd_same]
 have R9:(σ.given h j sH).aU h=some sH:=by simp only[Gh.given];rw[upd_same]
 have KR:∀ x,x≠h->x≠j->(σ.given h j sH).aU x=σ.aU x:=λx h1 h2=>by simp only[Gh.given];rw[upd_ne _ _ h1,upd_ne _ _ h2]
 have hlj:σ.lo j:=by unfold Gh.lo;rw[hj];rfl
 have dj:Deaf T j=0:=C.hear j (λz=>z) hlj;have hold:∀ x s',(σ.given h j sH).aU x=some s'->(x=h/\s'=sH)\/(x≠h/\x≠j/\σ.aU x=some s'):=by
  intro x s' e;by_cases h1:x=h
  ·subst h1;rw[R9]at e;exact .inl ⟨rfl,(bY e).symm⟩
  ·by_cases h2:x=j
   ·subst h2;rw[hsj]at e;cases e
   ·rw[KR x h1 h2]at e;exact .inr ⟨h1,h2,e⟩
 have UF:∀ c':Nat,(∃ k,w.heap[c']? =some (Obj.chan 0 #[] false k k false))->∃ k',(w.setChan c 0 #[] false (k+1) (k+1) false).heap[c']? =some (Obj.chan 0 #[] false k' k' false):=by
  rintro c' ⟨k',Sa⟩;by_cases ec:c=c'
  ·exact⟨k+1,by rw[<- ec];exact heap_setChan_self w hc _ _ _ _ _ _⟩
  ·exact⟨k',by rw[heap_setChan_ne w _ _ _ _ _ _ ec];exact Sa⟩
 refine⟨hsz.trans C.cnt,λx y hx _ hy=>?_,λ_ _ z=>z.elim,λz=>z,hsj,λi s' e=>?_,λi s' e=>?_,λi s' c' _ e kx=>?_,λi s' e p hp=>?_,λi s' l e hl=>?_,λx hx=>by rw[JB];exact C.above x ak,λx _ hl=>?_,by rw[JB];exact dj,?_⟩
 ·by_cases e:x=h
  ·subst e;rw[hH]at hy;obtain rfl:=bY hy;rw[R9,upd_same];exact .inl ⟨m,rfl,mQ⟩
  ·rw[Od x e hx]at hy;rw[upd_ne q _ e,KR x e hx];have hi:=C.idle x y e (λz=>z) hy;cases es:σ.aU x with
   |none=>rw[es]at hi;exact⟨hi.1,by rw[JB];exact hi.2⟩
   |some s'=>rw[es]at hi;exact hi
 ·rcases hold i s' e with⟨rfl,rfl⟩|⟨_,_,e'⟩
  ·exact lE.wf
  ·exact C.wf i s' e'
 ·rw[hsz];rcases hold i s' e with⟨rfl,rfl⟩|⟨_,_,e'⟩
  ·exact yl
  ·exact C.there i s' e'
 ·rcases hold i s' e with⟨rfl,rfl⟩|⟨_,_,e'⟩
  ·exact UF c' (lE.chans c' kx)
  ·exact UF c' (C.chans i s' c' (λz=>z) e' kx)
 ·rcases hold i s' e with⟨rfl,rfl⟩|⟨_,_,e'⟩
  ·exact pd hc (lE.mem p hp) _ _ _ _ _ _
  ·exact pd hc (C.mem i s' e' p hp) _ _ _ _ _ _
 ·rcases hold i s' e with⟨rfl,rfl⟩|⟨_,_,e'⟩
  ·exact lE.uB l hl
  ·exact C.uB i s' l e' hl
 ·rw[JB];by_cases e:x=h
  ·subst e;exact C.deaf
  ·refine C.hear x (λz=>z) ?_;unfold Gh.lo at hl⊢;by_cases ej:x=j
   ·subst ej;rw[hj];rfl
   ·rwa[KR x e ej]at hl
 ·rw[mq];have p:=C.px.give (j:=j) C.deaf dj fh pH fj pj k 0 hcB;have xG:¬ (σ.lo h/\h≠j):=λz=>by have:=z.1;unfold Gh.lo at this;rw[C.hole]at this;cases this
  have p2:=p.loosen (g₀:=h) (S:=sH.rd) xG (λl hl=>⟨Hh hl,lE.uB l hl⟩) λi a ha hw hS=>by
   obtain⟨x,hx,iR⟩:=touch_of ha;rcases getElem?_append_cases hx with⟨_,jK⟩|⟨_,vy⟩
   ·exact(C.px.writes (Hh hS) (lE.uB _ hS) (by rw[touchAt_of jK];exact iR) hw rfl).app _
   ·rw[met_mute _ _ _ _ _ _ _ _ _ x vy]at iR;cases iR
  refine p2.conv (λg=>?_) λg l hg=>?_
  ·unfold Gh.lo;by_cases e:g=h
   ·subst e;rw[R9];simp
   ·by_cases ej:g=j
    ·subst ej;rw[hsj];simp[e]
    ·rw[KR g e ej];simp[e,ej]
  ·unfold Gh.rd;by_cases e:g=h
   ·subst e;rw[R9];simp
   ·by_cases ej:g=j
    ·subst ej;exact absurd hg (by simp[e])
    ·rw[KR g e ej];simp[e]
theorem Fr.setH(C:Fr P σ (λ_=>False) h δ T gs w q)(dI:h<gs.size)(x:aQ){fn:bM}{pos:String}{es:Array Event}(ho:pO σ w w es):Fr P σ (λ_=>False) h (deafBehind δ es) (T++MemOp.ofEvents h fn pos es) (gs.setIfInBounds h x) w q:=by
 obtain⟨cJ,hs,hr,hl⟩:=ho.ops h fn pos;refine⟨by simpa using C.cnt,λy g hy _ hg=>?_,λ_ _ z=>z.elim,λz=>z,C.hole,C.wf,λi s e=>by simpa using C.there i s e,C.chans,C.mem,C.uB,λj hj=>?_,λy _ wE=>?_,by rw[Deaf_own,C.deaf],C.px.own cJ hs hr (fI _) hl⟩
 ·rw[gC (λe=>hy e.symm)]at hg;have hi:=C.idle y g hy (λz=>z) hg;cases e:σ.aU y with
  |none=>rw[e]at hi;exact⟨hi.1,by rw[Deaf_other T (λz=>hy z.symm) _ cJ];exact hi.2⟩
  |some s=>rw[e]at hi;exact hi
 ·simp only[KH]at hj;by_cases e:j=h
  ·omega
  ·rw[Deaf_other T (λz=>e z.symm) _ cJ];exact C.above j hj
 ·have hy:y≠h:=λe=>by subst e;unfold Gh.lo at wE;rw[C.hole]at wE;cases wE
  rw[Deaf_other T (λz=>hy z.symm) _ cJ];exact C.hear y (λz=>z) wE
theorem Fr.give(C:Fr P σ (λ_=>False) h 0 T gs w q){a a₂:aQ}{j c kk k m:Nat}{s sH:dH}{v z z':Value}{es:Array Event}{sl:Option (Nat×Nat)}(hj:σ.aU j=some s)(hk:s.cases[kk]? =some (rcase c z))
  (lN:∀ i s',σ.aU i=some s'->s'.has c->i=j) (ha:gs[h]? =some a) (mo:a.status=.running)
  (UG:∀ d,stepG P (h==0) a (w.at d)=.comm a₂ #[scase c v z'] true .send (w.at d) es) (xI:∀ d,pO σ (w.at d) (w.at d) es) (Sb:deafBehind 0 es=0)
  (hc:w.heap[c]? =some (.chan 0 #[] false k k false)) (lE:nY σ sH w) (mQ:Way P (h==0) sH m (Conc.served a₂ undef)):
  ∃ (N:Nat) (fL:Array aQ) (d:Nat) (nW:Option (Nat×Nat)) (T':Trace) (q':Nat->Nat),runNT P N (crowd gs w sl) T=(.next (crowd fL ((w.at d).setChan c 0 #[] false (k+1) (k+1) false) nW),T')/\
   (∃ r,s.uA r/\fL[j]? =some (Conc.served r (commResult s.cases s.shape kk v true)))/\Fr P (σ.given h j sH) (λ_=>False) j 0 T' fL ((w.at d).setChan c 0 #[] false (k+1) (k+1) false) q':=by
 have Jz:s.has c:=⟨kk,z,hk⟩;have V1:=C.wf j s hj;have ahH:=C.there j s hj;have KP:j≠h:=λe=>by rw[e,C.hole]at hj;cases hj
 have hcB:c<w.heap.size:=(gQ.1 hc).1;have hu:∀ (m:Nat) (cc:CommCase),m≠kk->s.cases[m]? =some cc->cc.chan≠ .chan (some c):=by intro m cc hm lf ec;obtain⟨c₂,z₂,rfl⟩:=V1.recvs cc (RV lf);simp only[rcase,Value.chan.injEq,x6]at ec;subst ec;exact hm (V1.apart m kk _ _ _ lf hk)
 suffices key:∃ (N:Nat) (m':Machine) (t':Trace),runNT P N (crowd gs w sl) T=(.next m',t')/\∃ fL d nW q',m'=crowd fL ((w.at d).setChan c 0 #[] false (k+1) (k+1) false) nW/\(∃ r,s.uA r/\fL[j]? =some (Conc.served r (commResult s.cases s.shape kk v true)))/\Fr P (σ.given h j sH) (λ_=>False) j 0 t' fL ((w.at d).setChan c 0 #[] false (k+1) (k+1) false) q' by obtain⟨N,m',T',hr,fL,d,nW,q',rfl,h1,h2⟩:=key;exact⟨N,fL,d,nW,T',q',hr,h1,h2⟩
 refine runs_until (P:=P)
  (Inv:=λμ mm t=>(∃ fL d nW q',mm=crowd fL ((w.at d).setChan c 0 #[] false (k+1) (k+1) false) nW/\(∃ r,s.uA r/\fL[j]? =some (Conc.served r (commResult s.cases s.shape kk v true)))/\Fr P (σ.given h j sH) (λ_=>False) j 0 t fL ((w.at d).setChan c 0 #[] false (k+1) (k+1) false) q')\/
   ∃ eD d qC q₁,∃ pk:Bool,mm=crowd eD (w.at d) qC/\eD.size=gs.size/\eD[h]? =some (if pk then parked a₂ #[scase c v z'] .send else a)/\
   Fr P σ (λ_=>False) h 0 t eD (w.at d) q₁/\(pk=true->0<q₁ j)/\μ=sumTo eD.size q₁+(if pk then 0 else 1))
  (λμ mm t ado=>?_) _ _ T (.inr ⟨gs,w.drawn,sl,q,false,rfl,rfl,ha,C,by simp,rfl⟩)
 rcases ado with ZK|⟨eD,d,qC,q₁,pk,rfl,hsz,kE,C₁,Ru,hμ⟩
 ·exact .inl ZK
 refine .inr ?_;obtain⟨gj,V2⟩:∃ gj,eD[j]? =some gj:=⟨eD[j]'(by omega),D2 ak⟩;have yl:h<eD.size:=(gQ.1 kE).1;have hSj:AZ P (j==0) s (q₁ j) gj:=by have:=C₁.idle j gj KP (λz=>z) V2;rwa[hj]at this
 have hKs:∃ w,s.K w:=⟨_,C₁.mem j s hj⟩;have EC:∃ (i:Nat) (g:aQ),eD[i]? =some g/\g.status=.running:=by
  cases pk with
  |false=>exact⟨h,a,kE,mo⟩
  |true=>exact⟨j,gj,V2,(AZ.status hKs hSj).elim (·.1) (λz=>by have:=Ru rfl;omega)⟩
 obtain⟨i,g,d',nW,hi,hg,dt⟩:=crowd_pick (P:=P) (w:=w.at d) (sl:=qC) (C₁.awake kE (by cases pk<;>simp[mo,parked])) EC;rw[at_at']at dt;have Cd:Fr P σ (λ_=>False) h 0 t eD (w.at d') q₁:=C₁.at d';have Sc:(w.at d').heap[c]? =some (.chan 0 #[] false k k false):=hc;have ZL:nY σ sH (w.at d'):=⟨lE.wf,lE.chans,lE.mem,lE.uB⟩;have Oe:0<μ:=by
  cases pk with
  |false=>simp at hμ;omega
  |true=>
   have h1:=Ru rfl;have h2:q₁ j<=sumTo eD.size q₁:=Go.ConcN.le_sumTo (f:=q₁) ak;simp at hμ;omega
 by_cases e:i=h
 ·
  subst e;cases pk with
  |true=>rw[kE]at hi;obtain rfl:=bY hi;cases hg
  |false=>
   obtain rfl:g=a:=by rw[kE]at hi;exact(bY hi).symm
   have hoff:∀ (x:Nat) (y:aQ),x≠j->(eD.setIfInBounds i ph)[x]? =some y->offersAt y c false=[]:=by
    intro x y Of hy;rcases getElem?_stand eD i x y hy with⟨_,rfl⟩|⟨hx,Rt⟩
    ·exact offersAt_ph _ _
    ·exact Fr.noRecvAt Cd hx Rt λs' wD kx=>Of (lN x s' wD kx)
   rcases hSj with⟨kk',hq,hG⟩|⟨hq0,g₀,rr,rfl,D4⟩
   ·
    have hjr:gj.status=.running:=Way.running hKs hG;have hp:partners (eD.setIfInBounds i ph) c false=[]:=partners_nil λx y hy=>by
     by_cases Of:x=j
     ·subst Of;rw[stand_get KP V2]at hy;obtain rfl:=bY hy;exact offersAt_of_not_blocked (by rw[hjr];simp) _ _
     ·exact hoff x y Of hy
    have hw:∀ cc∈#[scase c v z'],NoWays (w.at d') (eD.setIfInBounds i ph) cc:=by intro cc lf;simp only[pc,gq,mK,fX]at lf;subst lf;exact ways_send_none Sc (fI _) hp
    refine⟨_,_,sumTo eD.size q₁+0,by rw[dt];exact crowd_waits (sl:=nW) hi (UG d') hw,by simp at hμ;omega,.inr ⟨_,d',nW,q₁,true,rfl,by simpa using hsz,j4 yl,?_,λ_=>by omega,by simp⟩⟩;have:=Cd.setH (fn:=g.frame.fn) (pos:=g.frame.place) yl (parked a₂ #[scase c v z'] .send) (xI d')
    rwa[Sb]at this
   ·
    have hp:partners (eD.setIfInBounds i ph) c false=[(j,kk)]:=by rw[partners_one (stand_get KP V2) λx y Of hy=>hoff x y Of hy,offersAt_parked_at hk hu];rfl
    have C2:=Cd.setH (fn:=g.frame.fn) (pos:=g.frame.place) yl a₂ (xI d');rw[Sb]at C2;have hH2:((eD.setIfInBounds j ((parked rr s.cases s.shape).finishComm P s.cases s.shape kk v true)).setIfInBounds i (a₂.finishComm P #[scase c v z'] .send 0 undef false))[i]? =some (Conc.served a₂ undef):=j4 (by simpa using yl);refine⟨_,_,0,by rw[dt];exact crowd_send_meets_sel (sl:=nW) hi (UG d') Sc KP V2 hk hp,Oe,.inl ⟨_,d',nW,upd q₁ i (m+1),rfl,?_,?_⟩⟩
    ·refine⟨rr,D4.1,?_⟩;rw[gC (λz=>KP z.symm),j4 ak,finishComm_served]
    ·rw[<- He];exact C2.pass KP (by simpa using yl) hj Jz Sc hcB (by simp) (λx hx Of=>by rw[gC (λz=>hx z.symm),gC (λz=>Of z.symm),gC (λz=>hx z.symm)]) (j4 (by simpa using yl)) _ _ _ _ ZL mQ
 ·by_cases ej:i=j/\pk=true/\N8 P (i==0) s g
  ·
   obtain⟨rfl,rfl,D4⟩:=ej;obtain⟨rr,hrr,_,_,_,_,esj,adr,lW⟩:=D4;obtain⟨cJ,hr,hl,tv,hd⟩:=uC (i:=i) (fn:=g.frame.fn) (pos:=g.frame.place) (Cd.mem i s hj) adr;have hp:partners (eD.setIfInBounds i ph) c true=[(h,0)]:=by
    rw[partners_one (stand_get (i3 KP) kE) λx y M4 hy=>by
     rcases getElem?_stand eD i x y hy with⟨_,rfl⟩|⟨_,Rt⟩
     ·exact offersAt_ph _ _
     ·exact Fr.noSend Cd M4 Rt _]
    simp[offersAt_parked_send]
   have ho:∀ (m:Nat) (c':CommCase),m≠kk->s.cases[m]? =some c'->NoWays (w.at d') (eD.setIfInBounds i ph) c':=by
    intro m c' hm kx;obtain⟨c₂,z₂,rfl⟩:=V1.recvs c' (RV kx);have eL:c≠c₂:=λec=>hu m _ hm kx (by rw[ec];rfl);obtain⟨k₂,ZM⟩:=Cd.chans i s c₂ (λz=>z) hj ⟨m,z₂,kx⟩;refine ways_recv_none ZM (partners_nil λx y hy=>?_);rcases getElem?_stand eD i x y hy with⟨_,rfl⟩|⟨_,Rt⟩
    ·exact offersAt_ph _ _
    ·by_cases M4:x=h
     ·subst M4;rw[kE]at Rt;obtain rfl:=bY Rt;simp only[eQ];rw[offersAt_parked_send,aq eL]
     ·exact Fr.noSend Cd M4 Rt _
   have og:σ.lo i:=by unfold Gh.lo;rw[hj];rfl
   have mg:∀ x:aQ,(eD.setIfInBounds i x)[i]? =some x:=λx=>j4 ak;have C2:Fr P σ (λ_=>False) h 0 (t++MemOp.ofEvents i g.frame.fn g.frame.place esj) (eD.setIfInBounds i g) (w.at d') (upd q₁ i (q₁ i)):=by refine Cd.put (d:=d') e (λz=>z) ak (by simp) (λx hx _=>gC (λz=>hx z.symm)) (mg g) cJ (by rw[hj];rw[hi]at V2;obtain rfl:=bY V2;exact hSj) (λ_=>hd t) ?_;exact Cd.px.reads (λi=>Knows.app _) og cJ (λop cx b hb=>⟨(hr op cx b hb).1,⟨s,hj,(hr op cx b hb).2⟩,Cd.uB i s _ hj (hr op cx b hb).2⟩) (λop cx ad ea=>absurd ea (tv op cx ad)) (fI _) hl
   refine⟨_,_,0,by rw[dt];exact crowd_sel_recv_meets (sl:=nW) hi (lW _ (Cd.mem i s hj)) hk ho Sc (i3 KP) kE hp,Oe,.inl ⟨_,d',nW,upd (upd q₁ i (q₁ i)) h (m+1),rfl,?_,?_⟩⟩
   ·refine⟨rr,hrr,?_⟩;rw[j4 (by simp;omega),finishComm_served]
   ·rw[<- He];exact C2.pass KP (by simpa using yl) hj Jz Sc hcB (by simp) (λx hx Of=>by rw[gC (λz=>Of z.symm),gC (λz=>hx z.symm),gC (λz=>Of z.symm)])
     (by rw[gC e,j4 yl,finishComm_send]) _ _ _ _ ZL mQ
  ·
   obtain⟨fL,ops,q',d₂,GZ,tw,rL,_,_,hqo,hq0,C',dI⟩:=Cd.by_step (sl:=nW) hi e (λz=>z) hg yl
    (λgx w' xe nV=>by
     rw[kE]at xe;obtain rfl:=bY xe;cases pk with
     |false=>exact again_running _ (.inl mo)
     |true=>exact again_send_open (by rw[nV];exact Sc))
    (λs' wD D4 gx c' xe kx=>by
     rw[kE]at xe;obtain rfl:=bY xe;cases pk with
     |false=>exact offersAt_of_not_blocked (by simp[mo]) _ _
     |true=>
      simp only[eQ];rw[offersAt_parked_send,aq];intro ec;have G0:i=j:=lN i s' wD (ec▸kx);subst G0;rw[hj]at wD;obtain rfl:=bY wD;exact ej ⟨rfl,rfl,D4⟩)
   refine⟨_,_,sumTo fL.size q'+(if pk then 0 else 1),by rw[dt];exact GZ,by rw[tw];omega,.inr ⟨fL,d₂,nW,q',pk,rfl,tw.trans hsz,by rw[rL];exact kE,C',λhp=>?_,rfl⟩⟩;subst hp;by_cases G0:j=i
   ·subst G0;rcases Nu (q' j)with h0|h0
    ·exact absurd ⟨rfl,rfl,hq0 s hj h0⟩ ej
    ·exact h0
   ·rw[hqo j G0];exact Ru rfl
end
end
section
open Go.Conc
open Go.ConcN (sumTo upd sumTo_upd upd_ne upd_same)
def KQ:Int:=4294967296
def lX(v wt:Nat):Value:=.int .u64 ((v:Int)*KQ+wt)
def sJ(s:Nat):Value:=.int .u32 (s:Int)
abbrev zY(m:Mark):Event:=⟨.mark m,false,true⟩
abbrev ar(a:Addr):Event:=⟨.cell a,false,true⟩
abbrev aw(a:Addr):Event:=⟨.cell a,true,true⟩
structure qo where
 blk:Nat
 o1:Nat
 o2:Nat
 cs:Array Value
 ty:aR
abbrev qo.st(G:qo):Addr:=⟨G.blk,G.o1,none⟩
abbrev qo.sm(G:qo):Addr:=⟨G.blk,G.o2,none⟩
structure qo.Ok(G:qo):Prop where
 ne:G.o1≠G.o2
 l1:G.o1<G.cs.size
 l2:G.o2<G.cs.size
abbrev qo.row(G:qo)(x y:Value):Array Value:=(G.cs.setIfInBounds G.o1 x).setIfInBounds G.o2 y
structure WG(G:qo)(w₀:World)(x y:Value)(w:World):Prop where
 hp:w.heap=w₀.heap.setIfInBounds G.blk (.cells (G.row x y) G.ty (0,0))
 os:w.os=w₀.os
 out:w.output=w₀.output
 b0:w₀.heap[G.blk]? =some (.cells G.cs G.ty (0,0))
section
variable{G:qo}{w₀ w w':World}{x y x' y':Value}
theorem WG.blt(H:WG G w₀ x y w):G.blk<w₀.heap.size:=(gQ.1 H.b0).1
theorem WG.row(H:WG G w₀ x y w):w.heap[G.blk]? =some (.cells (G.row x y) G.ty (0,0)):=by rw[H.hp];exact j4 H.blt
theorem WG.size(H:WG G w₀ x y w):w.heap.size=w₀.heap.size:=by rw[H.hp];simp
theorem WG.Hi(H:WG G w₀ x y w){b:Nat}(hb:b≠G.blk):w.heap[b]? =w₀.heap[b]? :=by rw[H.hp];exact gC (i3 hb)
theorem WG.at(H:WG G w₀ x y w)(d:Nat):WG G w₀ x y (w.at d):=⟨H.hp,H.os,H.out,H.b0⟩
theorem Og(ok:G.Ok):(G.row x y)[G.o1]? =some x:=by rw[gC (i3 ok.ne)];exact j4 ok.l1
theorem Oh(ok:G.Ok):(G.row x y)[G.o2]? =some y:=j4 (by simpa using ok.l2)
theorem vE{o:Nat}(h1:o≠G.o1)(h2:o≠G.o2):(G.row x y)[o]? =G.cs[o]? :=by rw[gC (i3 h2),gC (i3 h1)]
theorem WG.UH(ok:G.Ok)(H:WG G w₀ x y w):w.cell? G.st=some x:=by simp only[World.cell?,H.row];exact Og ok
theorem WG.csm(ok:G.Ok)(H:WG G w₀ x y w):w.cell? G.sm=some y:=by simp only[World.cell?,H.row];exact Oh ok
theorem WG.fst(H:WG G w₀ x y w):w.frozen? G.st=false:=by simp only[World.frozen?,H.row];simp
theorem WG.fsm(H:WG G w₀ x y w):w.frozen? G.sm=false:=by simp only[World.frozen?,H.row];simp
theorem Oi(ok:G.Ok):(G.row x y).setIfInBounds G.o1 x'=G.row x' y:=by
 apply se;intro i;by_cases h1:i=G.o1
 ·subst h1;rw[Og ok,j4 (by simpa using ok.l1)]
 ·rw[gC (i3 h1)];by_cases h2:i=G.o2
  ·subst h2;rw[Oh ok,Oh ok]
  ·rw[vE h1 h2,vE h1 h2]
theorem Oj(ok:G.Ok):(G.row x y).setIfInBounds G.o2 y'=G.row x y':=by
 apply se;intro i;by_cases h2:i=G.o2
 ·subst h2;rw[Oh ok,j4 (by simpa using ok.l2)]
 ·rw[gC (i3 h2)];by_cases h1:i=G.o1
  ·subst h1;rw[Og ok,Og ok]
  ·rw[vE h1 h2,vE h1 h2]
theorem pP{w:World}{b o:Nat}{cs:Array Value}{t:aR}{fz:Nat×Nat}{v:Value}(h:w.heap[b]? =some (.cells cs t fz)):
  (w.setCell ⟨b,o,none⟩ v).heap=w.heap.setIfInBounds b (.cells (cs.setIfInBounds o v) t fz):=by
 have dI:b<w.heap.size:=(gQ.1 h).1;unfold World.setCell;apply se;intro i;by_cases e:i=b
 ·subst e;simp only[RY,eQ,h,lJ];rw[j4 dI];simp
 ·rw[gC (i3 e)];simp only[RY,aq (i3 e)]
theorem set_set(a:Array Obj)(b:Nat)(o o':Obj):(a.setIfInBounds b o).setIfInBounds b o'=a.setIfInBounds b o':=by
 apply se;intro i;by_cases e:i=b
 ·subst e;by_cases dI:i<a.size
  ·rw[j4 (by simpa using dI),j4 dI]
  ·rw[Hd (by simp;omega),Hd (by simp;omega)]
 ·rw[gC (i3 e),gC (i3 e),gC (i3 e)]
theorem WG.setSt(ok:G.Ok)(H:WG G w₀ x y w)(x':Value):WG G w₀ x' y (w.setCell G.st x'):=by refine⟨?_,H.os,H.out,H.b0⟩;rw[pP H.row,Oi ok,H.hp,set_set]
theorem WG.setSm(ok:G.Ok)(H:WG G w₀ x y w)(y':Value):WG G w₀ x y' (w.setCell G.sm y'):=by refine⟨?_,H.os,H.out,H.b0⟩;rw[pP H.row,Oj ok,H.hp,set_set]
theorem WG.other(H:WG G w₀ x y w){a:Addr}(h1:a≠G.st)(h2:a≠G.sm):w.cell? a=w₀.cell? a:=by
 obtain⟨b,o,sp⟩:=a;by_cases e:b=G.blk
 ·subst e;simp only[World.cell?,H.row,H.b0];cases sp with
  |some s=>rfl
  |none=>
   simp only[KJ,gR,eY];exact vE (λz=>h1 (by rw[z])) (λz=>h2 (by rw[z]))
 ·simp only[World.cell?,H.Hi e]
theorem WG.UI(H:WG G w₀ x y w)(H':WG G w₀ x' y' w'){a:Addr}(h1:a≠G.st)(h2:a≠G.sm):w'.cell? a=w.cell? a:=by rw[H.other h1 h2,H'.other h1 h2]
theorem WG.UJ(H:WG G w₀ x y w)(H':WG G w₀ x' y' w'){r:Nat}{o:Obj}(h:w.heap[r]? =some o)(ho:o.isChan=true):w'.heap[r]? =some o:=by
 have e:r≠G.blk:=λe=>by subst e;rw[H.row]at h;obtain rfl:=bY h;cases ho
 rw[H'.Hi e,<- H.Hi e];exact h
end
def Gs(G:qo)(w:World):Prop:=∃ c,w.heap[G.blk]? =some (.cells c G.ty (0,0))/\c.size=G.cs.size
theorem WG.gs{G:qo}{w₀ w:World}{x y:Value}(H:WG G w₀ x y w):Gs G w:=⟨_,H.row,by simp⟩
inductive St where
 |rel|xJ|add|ld|M5|Hj
def Cl(P:bR)(G:qo):Nat->St->aQ->Prop
 |0,_,_=>False
 |n+1,x,g=>g.status=.running/\((∃ g',(∀ w,Gs G w->stepG P false g w=.go g' w #[])/\Cl P G n x g')\/match x with
  |.rel=>∃ g',(∀ w,stepG P false g w=.go g' w #[zY (.releaseMerge G.st)])/\Cl P G n .xJ g'
  |.xJ=>∃ g',(∀ w,stepG P false g w=.go g' w #[zY .disable])/\Cl P G n .add g'
  |.add=>∃ g':Nat->Nat->aQ,(∀ w v wt,v<=3->wt<=1->w.cell? G.st=some (lX (v+1) wt)->w.frozen? G.st=false->stepG P false g w=.go (g' v wt) (w.setCell G.st (lX v wt)) #[ar G.st,aw G.st])/\
    Cl P G n .ld (g' 0 1)/\∀ v wt,v<=3->wt<=1->¬ (v=0/\wt=1)->QuitsD P n 1 (g' v wt)
  |.ld=>∃ g',(∀ w,w.cell? G.st=some (lX 0 1)->stepG P false g w=.go g' w #[ar G.st])/\Cl P G n .M5 g'
  |.M5=>∃ g',(∀ w,w.cell? G.st=some (lX 0 1)->w.frozen? G.st=false->stepG P false g w=.go g' (w.setCell G.st (lX 0 0)) #[aw G.st])/\Cl P G n .Hj g'
  |.Hj=>mayWake P g=true/\∃ g',(∀ w,w.cell? G.sm=some (sJ 0)->w.frozen? G.sm=false->stepG P false g w=.go g' (w.setCell G.sm (sJ 1)) (semEvents G.sm))/\QuitsD P n 1 g')
inductive MS where
 |xJ (c:Nat)|head (c:Nat)|Sd (v:Nat)|mh|last|Ol|acq
inductive MW(P:bR)(G:qo)(Fin:aQ->Prop):MS->aQ->Prop
 |mute {x:MS} {g g':aQ} (hs:g.status=.running) (h:∀ w,Gs G w->stepG P true g w=.go g' w #[]) (k:MW P G Fin x g'):MW P G Fin x g
 |xJ {c:Nat} {g g':aQ} (hs:g.status=.running) (h:∀ w,stepG P true g w=.go g' w #[zY .disable]) (k:MW P G Fin (.head c) g'):MW P G Fin (.xJ c) g
 |load {c:Nat} {g:aQ} (f:Nat->aQ) (hs:g.status=.running) (h:∀ w v,v<=c->w.cell? G.st=some (lX v 0)->stepG P true g w=.go (f v) w #[ar G.st])
   (k0:MW P G Fin .Ol (f 0)) (k:∀ v,1<=v->v<=c->MW P G Fin (.Sd v) (f v)):MW P G Fin (.head c) g
 |Sd {v:Nat} {g g1 g2:aQ} (hs:g.status=.running) (h1:∀ w,w.cell? G.st=some (lX v 0)->w.frozen? G.st=false->stepG P true g w=.go g1 (w.setCell G.st (lX v 1)) #[ar G.st,aw G.st])
   (h2:∀ w v',v'<v->w.cell? G.st=some (lX v' 0)->w.frozen? G.st=false->stepG P true g w=.go g2 w #[ar G.st]) (k1:MW P G Fin .mh g1) (k2:MW P G Fin (.head (v-1)) g2):MW P G Fin (.Sd v) g
 |said {g g':aQ} (hs:g.status=.running) (h:∀ w,stepG P true g w=.go g' w #[zY (.write G.sm)]) (k:MW P G Fin .mh g'):MW P G Fin .mh g
 |Hj {g g':aQ} (hs:g.status=.running) (ho:g.offers=none) (h0:∀ w,w.cell? G.sm=some (sJ 0)->stepG P true g w=.go {g with status:=.blocked} w #[])
   (h1:∀ w,w.cell? G.sm=some (sJ 1)->w.frozen? G.sm=false->stepG P true g w=.go g' (w.setCell G.sm (sJ 0)) (semEvents G.sm)) (k:MW P G Fin .last g'):MW P G Fin .mh g
 |last {g g':aQ} (hs:g.status=.running) (h:∀ w,w.cell? G.st=some (lX 0 0)->stepG P true g w=.go g' w #[ar G.st]) (k:MW P G Fin .Ol g'):MW P G Fin .last g
 |Ol {g g':aQ} (hs:g.status=.running) (h:∀ w,stepG P true g w=.go g' w #[zY .enable]) (k:MW P G Fin .acq g'):MW P G Fin .Ol g
 |acq {g g':aQ} (hs:g.status=.running) (h:∀ w,stepG P true g w=.go g' w #[zY (.acquire G.st)]) (k:Fin g'):MW P G Fin .acq g
section
variable{P:bR}{σ:Gh}{J:Nat->Prop}{h δ:Nat}{T:Trace}{gs:Array aQ}{w w':World}{q:Nat->Nat}
theorem Fr.world(C:Fr P σ J h δ T gs w q)(hsz:w'.heap.size=w.heap.size)(nX:∀ (r:Nat) (o:Obj),w.heap[r]? =some o->o.isChan=true->w'.heap[r]? =some o)(hm:∀ i s p,σ.aU i=some s->p∈s.mem->w.cell? p.1=some p.2->w'.cell? p.1=some p.2):
  Fr P σ J h δ T gs w' q:=
 ⟨C.cnt,C.idle,C.xd,C.jh,C.hole,C.wf,C.there,λi s c hJ e hc=>by obtain⟨k,hk⟩:=C.chans i s c hJ e hc;exact⟨k,nX _ _ hk rfl⟩,λi s e p hp=>hm i s p e hp (C.mem i s e p hp),C.uB,C.above,C.hear,C.deaf,by rw[hsz];exact C.px⟩
theorem Fr.ZN(C:Fr P σ J h δ T gs w q){i:Nat}{g':aQ}{ops:Array MemOp}{fL:Array aQ}(hJ:J i)(dI:i<gs.size)(hsz:w'.heap.size=w.heap.size)
  (nX:∀ (r:Nat) (o:Obj),w.heap[r]? =some o->o.isChan=true->w'.heap[r]? =some o) (hm:∀ i s p,σ.aU i=some s->p∈s.mem->w.cell? p.1=some p.2->w'.cell? p.1=some p.2)
  (hgs:fL.size=gs.size) (qB:∀ x,x≠i->x≠h->fL[x]? =gs[x]?) (mg:fL[i]? =some g') (dt:g'.status=.running\/g'.status=.finished) (cJ:∀ op∈ops,op.g=i)
  (UC:Px σ.rd σ.lo σ.sh w.heap.size (Knows (T++ops) h) (T++ops)):Fr P σ J h δ (T++ops) fL w' q:=by
 have Rq:i≠h:=λe=>C.jh (e▸hJ);have C0:Fr P σ J h δ T gs w' q:=C.world hsz nX hm;refine⟨hgs.trans C.cnt,λx y hx zW hy=>?_,λx y zW hy=>?_,C.jh,C.hole,C.wf,λi s e=>by rw[hgs];exact C.there i s e,C0.chans,C0.mem,C.uB,λj hj=>?_,λx zW hl=>?_,?_,by rw[hsz];exact UC⟩
 ·have e:x≠i:=λe=>zW (e▸hJ);rw[qB x e hx]at hy;have h0:=C.idle x y hx zW hy;cases es:σ.aU x with
  |none=>rw[es]at h0;exact⟨h0.1,by rw[Deaf_other T (λz=>e z.symm) ops cJ];exact h0.2⟩
  |some s=>rw[es]at h0;exact h0
 ·by_cases e:x=i
  ·subst e;rw[mg]at hy;obtain rfl:=bY hy;exact dt
  ·have M4:x≠h:=λe=>C.jh (e▸zW);rw[qB x e M4]at hy;exact C.xd x y zW hy
 ·rw[Deaf_other T (g':=i) ak ops cJ];exact C.above j ak
 ·rw[Deaf_other T (λz:i=x=>zW (by rw[<- z];exact hJ)) ops cJ];exact C.hear x zW hl
 ·rw[Deaf_other T Rq ops cJ];exact C.deaf
theorem ED{i:Nat}{fn:bM}{pos:String}{es:Array Event}{sh:Loc->Prop}(xI:∀ (j:Nat) (e:Event),es[j]? =some e->(MemAct.ofEvent e).touch?=none\/((∃ ad wr,e=⟨.cell ad,wr,true⟩/\sh (.cell ad))/\0<deafBehind (Deaf T i) (es.extract 0 j))):
  ∀ (k:Nat) (op:MemOp),(MemOp.ofEvents i fn pos es)[k]? =some op->∀ b,op.act.touch?=some b->b.kind=.atomic/\sh b.loc/\¬ (T++MemOp.ofEvents i fn pos es).heard (T.size+k):=by
 intro k op cx b hb;have R8:=cx;rw[ofEvents_eq,Eg]at R8;obtain⟨e,he,rfl⟩:=M2.1 R8;rcases xI k e he with h0|⟨⟨ad,wr,rfl,hs⟩,hd⟩
 ·simp only at hb;rw[h0]at hb;cases hb
 ·have hk:k<=es.size:=by
   rcases oq k es.size with h'|h'
   ·omega
   ·rw[Hd h']at he;cases he
  have hbe:b=⟨.cell ad,wr,.atomic⟩:=by cases wr<;>simp[MemAct.ofEvent,MemAct.touch?]at hb<;>exact hb.symm
  subst hbe;refine⟨rfl,hs,?_⟩;rintro⟨g,hg,M6⟩;have hgi:g=i:=by
   have:(T++MemOp.ofEvents i fn pos es)[T.size+k]? =some {g:=i,fn,pos,act:=.ofEvent ⟨.cell ad,wr,true⟩}:=by rw[qq4 ak];simpa using cx
   rw[g?_of this]at hg;exact(bY hg).symm
  subst hgi;rw[deaf_inside T g fn pos es k hk]at M6;omega
end
end
section
open Go.Conc
open Go.ConcN (sumTo upd sumTo_upd upd_ne upd_same)
inductive WS where
 |app|cl (st:St)|qt
def WS.cnt:WS->Nat
 |.app|.cl .rel|.cl .xJ|.cl .add=>1
 |_=>0
def WS.opn:WS->Prop
 |.cl .ld|.cl .M5|.cl .Hj=>False
 |_=>True
def St.deaf:St->Nat
 |.rel|.xJ=>0
 |_=>1
def iK(f:Nat->Nat):List Nat->Nat
 |[]=>0
 |i::l=>f i+iK f l
theorem ym{f g:Nat->Nat}:∀ {l:List Nat},(∀ i∈l,f i=g i)->iK f l=iK g l
 |[],_=>rfl
 |i::l,h=>by rw[iK,iK,h i (by simp),ym λj hj=>h j (by simp[hj])]
theorem uD{α:Type}(D:Nat->α)(x:α)(φ:α->Nat){i:Nat}:∀ {l:List Nat},l.Nodup->i∈l->iK (λj=>φ (upd D i x j)) l+φ (D i)=iK (λj=>φ (D j)) l+φ x
 |[],_,h=>by simp at h
 |j::l,hn,h=>by
  rw[sf]at hn;by_cases e:j=i
  ·subst e;have:iK (λk=>φ (upd D j x k)) l=iK (λk=>φ (D k)) l:=ym λk hk=>by rw[upd_ne D x (λz:k=j=>hn.1 (by rw[<- z];exact hk))]
   simp only[iK,upd_same];omega
  ·have hi:i∈l:=by
    rcases gq.1 h with z|z
    ·exact absurd z.symm e
    ·exact z
   have:=uD D x φ hn.2 hi;simp only[iK,upd_ne D x e];omega
theorem JC{f:Nat->Nat}(h:∀ i,f i<=1):∀ l:List Nat,iK f l<=l.length
 |[]=>by simp[iK]
 |i::l=>by have:=JC h l;have:=h i;simp only[iK,jd];omega
theorem vF{f:Nat->Nat}:∀ {l:List Nat},iK f l=0->∀ i∈l,f i=0
 |[],_,i,hi=>by simp at hi
 |j::l,h,i,hi=>by
  simp only[iK]at h;rcases gq.1 hi with rfl|hi
  ·omega
  ·exact vF (l:=l) ak i hi
theorem EE{f:Nat->Nat}:∀ {l:List Nat},1<=iK f l->∃ i∈l,1<=f i
 |[],h=>by simp[iK]at h
 |j::l,h=>by
  simp only[iK]at h;by_cases hj:1<=f j
  ·exact⟨j,by simp,hj⟩
  ·obtain⟨i,hi,h1⟩:=EE (l:=l) (f:=f) ak;exact⟨i,by simp[hi],h1⟩
theorem V3(x:WS):x.cnt<=1:=by
 cases x with
 |app=>simp[WS.cnt]
 |cl s=>cases s<;>simp[WS.cnt]
 |qt=>simp[WS.cnt]
def V(L:List Nat)(D:Nat->WS):Nat:=iK (λj=>(D j).cnt) L
def Se(P:bR)(σ:Gh)(G:qo)(c N0:Nat)(T:Trace)(i n:Nat)(g:aQ):WS->Prop
 |.app=>∃ s cw z0 z1 k,σ.aU i=some s/\s.cases=#[rcase cw z0,rcase c z1]/\n=k+1+N0/\Way P false s k g/\Deaf T i=0/\∀ r,s.uA r->Cl P G N0 .rel (Conc.served r (commResult s.cases s.shape 1 z1 false))
 |.cl x=>Cl P G n x g/\Deaf T i=x.deaf/\(x≠ .rel->∃ r,oy σ.sh G.st T i r)
 |.qt=>QuitsD P n (Deaf T i) g/\∃ r,oy σ.sh G.st T i r
theorem Cl.running{P:bR}{G:qo}{n:Nat}{x:St}{g:aQ}(h:Cl P G n x g):g.status=.running:=by
 cases n with
 |zero=>exact h.elim
 |succ n=>exact h.1
theorem Se.other{P:bR}{σ:Gh}{G:qo}{c N0:Nat}{T u:Trace}{i j n:Nat}{g:aQ}{x:WS}(H:Se P σ G c N0 T i n g x)(hu:∀ op∈u,op.g=j)(eL:j≠i):Se P σ G c N0 (T++u) i n g x:=by
 have hD:Deaf (T++u) i=Deaf T i:=Deaf_other T eL u hu;cases x with
 |app=>
  obtain⟨s,cw,z0,z1,k,h1,h2,h3,h4,h5,h6⟩:=H;exact⟨s,cw,z0,z1,k,h1,h2,h3,h4,hD.trans h5,h6⟩
 |cl x=>exact⟨H.1,hD.trans H.2.1,λhx=>let⟨r,hr⟩:=H.2.2 hx;⟨r,hr.other hu eL⟩⟩
 |qt=>exact⟨by rw[hD];exact H.1,let⟨r,hr⟩:=H.2;⟨r,hr.other hu eL⟩⟩
structure CI(P:bR)(σ:Gh)(L:List Nat)(G:qo)(c N0:Nat)(w₀:World)(δ:Nat)(T:Trace)(gs:Array aQ)(w:World)(q:Nat->Nat)(D:Nat->WS)(f:Nat->Nat)(x y:Value):Prop where
 fr:Fr P σ (· ∈L) 0 δ T gs w q
 ok:G.Ok
 nd:L.Nodup
 len:L.length<=4
 wk:∀ i∈L,∃ g,gs[i]? =some g/\Se P σ G c N0 T i (f i) g (D i)
 shut:∃ k,w.heap[c]? =some (.chan 0 #[] true k k false)
 cw:∀ i s,i∈L->σ.aU i=some s->∃ cw z0 z1 k,s.cases=#[rcase cw z0,rcase c z1]/\w.heap[cw]? =some (.chan 0 #[] false k k false)
 loose:∀ i∈L,σ.lo i
 wg:WG G w₀ x y w
 yn:σ.sh (.cell G.st)
 G1:σ.sh (.cell G.sm)
def tA(pk:Bool)(a:aQ):aQ:=if pk then{a with status:=.blocked}else a
theorem A3{pk:Bool}{a:aQ}(hr:a.status=.running)(ho:pk=true->a.offers=none)(w:World):(tA pk a).again w=a:=by
 cases pk with
 |false=>exact again_running w (.inl hr)
 |true=>
  have:=ho rfl;unfold tA Goroutine.again;simp only[eQ,this];cases a
  simp_all
section
variable{P:bR}{σ:Gh}{L:List Nat}{G:qo}{c N0:Nat}{w₀:World}{δ:Nat}{T:Trace}{gs:Array aQ}{w w':World}{q:Nat->Nat}{D:Nat->WS}{f:Nat->Nat}{x y x' y':Value}
theorem CI.at(C:CI P σ L G c N0 w₀ δ T gs w q D f x y)(d:Nat):CI P σ L G c N0 w₀ δ T gs (w.at d) q D f x y:=
 ⟨C.fr.at d,C.ok,C.nd,C.len,C.wk,C.shut,C.cw,C.loose,C.wg.at d,C.yn,C.G1⟩
theorem CI.Cp(C:CI P σ L G c N0 w₀ δ T gs w q D f x y){i:Nat}{s:dH}{p:Addr×Value}(e:σ.aU i=some s)(hp:p∈s.mem):p.1≠G.st/\p.1≠G.sm:=
 ⟨λz=>C.fr.uB i s _ e ⟨p,hp,rfl⟩ (z▸C.yn),λz=>C.fr.uB i s _ e ⟨p,hp,rfl⟩ (z▸C.G1)⟩
theorem CI.put(C:CI P σ L G c N0 w₀ δ T gs w q D f x y){i n':Nat}{g g' a:aQ}{es:Array Event}{ws:WS}{pk:Bool}{sl:Option (Nat×Nat)}(hi:i∈L)(hg:gs[i]? =some g)(hgo:stepG P false g w=.go g' w' es)(nV:WG G w₀ x' y' w')
  (dt:g'.status=.running\/g'.status=.finished) (UC:Px σ.rd σ.lo σ.sh w.heap.size (Knows (T++MemOp.ofEvents i g.frame.fn g.frame.place es) 0) (T++MemOp.ofEvents i g.frame.fn g.frame.place es))
  (lE:Se P σ G c N0 (T++MemOp.ofEvents i g.frame.fn g.frame.place es) i n' g' ws) (dI:n'<f i) (ha:gs[0]? =some (tA pk a)) (A4:a.status=.running) (EF:pk=true->a.offers=none):
  ∃ (fL:Array aQ) (kZ:Bool),runT P (crowd gs w sl) i=(.next (crowd fL w' sl),MemOp.ofEvents i g.frame.fn g.frame.place es)/\fL.size=gs.size/\fL[0]? =some (tA kZ a)/\(kZ=true->pk=true)/\(mayWake P g=true->kZ=false)/\
   CI P σ L G c N0 w₀ δ (T++MemOp.ofEvents i g.frame.fn g.frame.place es) fL w' q (upd D i ws) (upd f i n') x' y'/\iK (upd f i n') L<iK f L:=by
 have EB:i≠0:=λe=>C.fr.jh (e▸hi);have Om:(i==0)=false:=by rw[RX];exact EB
 have Ai:i<gs.size:=(gQ.1 hg).1;have cJ:∀ op∈MemOp.ofEvents i g.frame.fn g.frame.place es,op.g=i:=λop cx=>by obtain⟨e,_,rfl⟩:=Conc.mem_ofEvents cx;rfl
 have hsz:w'.heap.size=w.heap.size:=by rw[nV.size,C.wg.size]
 have nX:∀ (r:Nat) (o:Obj),w.heap[r]? =some o->o.isChan=true->w'.heap[r]? =some o:=λr o h1 h2=>C.wg.UJ nV h1 h2;have hm:∀ i s p,σ.aU i=some s->p∈s.mem->w.cell? p.1=some p.2->w'.cell? p.1=some p.2:=λi s p e hp h1=>by rw[C.wg.UI nV (C.Cp e hp).1 (C.Cp e hp).2];exact h1
 have Cw:=C.fr.world hsz nX hm;have qB:∀ z,z≠i->z≠0->((gs.map (woken P g g' w')).setIfInBounds i g')[z]? =gs[z]? :=by
  intro z hz hz0;rw[gC (λe=>hz e.symm),Eg];cases e:gs[z]? with
  |none=>rfl
  |some v=>simp[woken_of_again (Cw.fixed hz0 e)]
 have mg:((gs.map (woken P g g' w')).setIfInBounds i g')[i]? =some g':=j4 (by simpa using Ai);have h0:((gs.map (woken P g g' w')).setIfInBounds i g')[0]? =some (woken P g g' w' (tA pk a)):=by rw[gC EB,Eg,ha];rfl
 have GZ:=runT_crowd_go (P:=P) (sl:=sl) hg (by rw[Om];exact hgo);have D5:iK (upd f i n') L+f i=iK f L+n':=uD f n' id C.nd hi;have hCI:CI P σ L G c N0 w₀ δ (T++MemOp.ofEvents i g.frame.fn g.frame.place es) ((gs.map (woken P g g' w')).setIfInBounds i g') w' q (upd D i ws) (upd f i n') x' y':=by
  refine⟨C.fr.ZN hi Ai hsz nX hm (by simp) qB mg dt cJ UC,C.ok,C.nd,C.len,λj hj=>?_,?_,λj s hj e=>?_,C.loose,nV,C.yn,C.G1⟩
  ·by_cases e:j=i
   ·subst e;exact⟨g',mg,by rw[upd_same,upd_same];exact lE⟩
   ·obtain⟨gj,h1,h2⟩:=C.wk j hj;refine⟨gj,by rw[qB j e (λz=>C.fr.jh (z▸hj))];exact h1,?_⟩;rw[upd_ne f n' e,upd_ne D ws e];exact h2.other cJ (λz=>e z.symm)
  ·obtain⟨k,hk⟩:=C.shut;exact⟨k,nX _ _ hk rfl⟩
  ·obtain⟨cw,z0,z1,k,h1,h2⟩:=C.cw j s hj e;exact⟨cw,z0,z1,k,h1,nX _ _ h2 rfl⟩
 by_cases Rv:mayWake P g=true
 ·refine⟨_,false,GZ,by simp,?_,λh=>(by cases h),λ_=>rfl,hCI,ak⟩;rw[h0];have iD:(g'.status != .blocked)=true:=by rcases dt with h|h<;>rw[h]<;>rfl
  have sK:(g'.status != .waiting)=true:=by rcases dt with h|h<;>rw[h]<;>rfl
  unfold woken;rw[Rv,iD,sK];simp only[Bool.and_self,eQ];rw[A3 A4 EF];rfl
 ·refine⟨_,pk,GZ,by simp,?_,λh=>h,λh=>absurd h Rv,hCI,ak⟩;rw[h0];unfold woken;simp[Rv]
theorem CI.JD(C:CI P σ L G c N0 w₀ δ T gs w q D f x y){i:Nat}{fn:bM}{pos:String}{m:Mark}(h1:(MemAct.ofEvent (zY m)).touch?=none)(h2:∀ ad,m≠ .release ad)(h3:(MemAct.ofEvent (zY m)).low w.heap.size):
  Px σ.rd σ.lo σ.sh w.heap.size (Knows (T++MemOp.ofEvents i fn pos #[zY m]) 0) (T++MemOp.ofEvents i fn pos #[zY m]):=by
 refine C.fr.px.mute (λi=>Knows.app _) (λop cx=>?_) (λop cx ad ea=>?_) (fI _) (λop cx=>?_)
 all_goals
  obtain⟨e,he,rfl⟩:=Conc.mem_ofEvents cx;simp only[pc,gq,mK,fX]at he;subst he
 ·exact h1
 ·simp only[MemAct.ofEvent,MemAct.mark.injEq]at ea;exact absurd ea (h2 ad)
 ·exact h3
def rM(v:Nat):MS->Prop
 |.xJ c|.head c=>v<=c
 |.Sd u=>v<=u/\1<=u
 |_=>False
inductive Md(L:List Nat)(D:Nat->WS):MS->Value->Value->Bool->Prop
 |opn {tag:MS} (ht:rM (V L D) tag) (hD:∀ i∈L,(D i).opn):Md L D tag (lX (V L D) 0) (sJ 0) false
 |mh {pk:Bool} (hD:∀ i∈L,(D i).opn) (h1:1<=V L D):Md L D .mh (lX (V L D) 1) (sJ 0) pk
 |sg {pk:Bool} (j:Nat) (hj:j∈L) (hx:D j=.cl .ld\/D j=.cl .M5) (ho:∀ i∈L,i≠j->D i=.qt):Md L D .mh (lX 0 1) (sJ 0) pk
 |tB {pk:Bool} (j:Nat) (hj:j∈L) (hx:D j=.cl .Hj) (ho:∀ i∈L,i≠j->D i=.qt):Md L D .mh (lX 0 0) (sJ 0) pk
 |vG (ho:∀ i∈L,D i=.qt):Md L D .mh (lX 0 0) (sJ 1) false
 |fin {tag:MS} (ht:tag=.last\/tag=.Ol\/tag=.acq) (ho:∀ i∈L,D i=.qt):Md L D tag (lX 0 0) (sJ 0) false
theorem On(hn:L.Nodup){i:Nat}(hi:i∈L)(ws:WS):V L (upd D i ws)+(D i).cnt=V L D+ws.cnt:=uD D ws WS.cnt hn hi
theorem Cq{v v':Nat}(h:v'<=v){t:MS}(ht:rM v t):rM v' t:=by cases t<;>simp only[rM]at ht⊢ <;>omega
theorem Md.same{tag:MS}{pk kZ:Bool}(M:Md L D tag x y pk)(hn:L.Nodup){i:Nat}(hi:i∈L){ws:WS}(hD:(D i).opn)(hw:ws.opn)(hc:ws.cnt=(D i).cnt)(hq:D i=.qt->ws=.qt)(Ru:kZ=true->pk=true):Md L (upd D i ws) tag x y kZ:=by
 have hV:V L (upd D i ws)=V L D:=by have:=On (D:=D) hn hi ws;omega
 have cx:(∀ j∈L,(D j).opn)->∀ j∈L,(upd D i ws j).opn:=λh j hj=>by
  by_cases e:j=i
  ·subst e;rw[upd_same];exact hw
  ·rw[upd_ne D ws e];exact h j hj
 have hqt:(∀ j∈L,D j=.qt)->∀ j∈L,upd D i ws j=.qt:=λh j hj=>by
  by_cases e:j=i
  ·subst e;rw[upd_same];exact hq (h j hj)
  ·rw[upd_ne D ws e];exact h j hj
 have hqo:∀ j₀,(∀ j∈L,j≠j₀->D j=.qt)->i≠j₀->∀ j∈L,j≠j₀->upd D i ws j=.qt:=λj₀ h G0 j hj eL=>by
  by_cases e:j=i
  ·subst e;rw[upd_same];exact hq (h j hj eL)
  ·rw[upd_ne D ws e];exact h j hj eL
 cases M with
 |opn ht hD'=>
  have:kZ=false:=by cases kZ with
   |false=>rfl
   |true=>exact absurd (Ru rfl) (by simp)
  subst this;rw[<- hV];exact .opn (by rw[hV];exact ht) (cx hD')
 |mh hD' h1=>rw[<- hV];exact .mh (cx hD') ak
 |sg j hj hx ho=>
  have G0:i≠j:=λe=>by subst e;rcases hx with hx|hx<;>rw[hx]at hD<;>exact hD
  exact .sg j hj (by rw[upd_ne D ws (i3 G0)];exact hx) (hqo j ho G0)
 |tB j hj hx ho=>
  have G0:i≠j:=λe=>by subst e;rw[hx]at hD;exact hD
  exact .tB j hj (by rw[upd_ne D ws (i3 G0)];exact hx) (hqo j ho G0)
 |vG ho=>
  have:kZ=false:=by cases kZ with
   |false=>rfl
   |true=>exact absurd (Ru rfl) (by simp)
  subst this;exact .vG (hqt ho)
 |fin ht ho=>
  have:kZ=false:=by cases kZ with
   |false=>rfl
   |true=>exact absurd (Ru rfl) (by simp)
  subst this;exact .fin ht (hqt ho)
end
end
section
open Go.Conc
open Go.ConcN (sumTo upd sumTo_upd upd_ne upd_same)
section
variable{P:bR}{σ:Gh}{L:List Nat}{G:qo}{c N0:Nat}{w₀:World}{δ:Nat}{T:Trace}{gs:Array aQ}{w w':World}{q:Nat->Nat}{D:Nat->WS}{f:Nat->Nat}{x y x' y':Value}{tag:MS}{pk:Bool}
def oC(σ:Gh)(d:Nat)(es:Array Event):Prop:=
 ∀ (j:Nat) (e:Event),es[j]? =some e->(MemAct.ofEvent e).touch?=none\/((∃ ad wr,e=⟨.cell ad,wr,true⟩/\σ.sh (.cell ad))/\0<deafBehind d (es.extract 0 j))
theorem ZO{a:Addr}(h:σ.sh (.cell a)):oC σ 1 #[ar a]:=by
 intro j e he;rcases j with _|j
 ·simp at he;subst he;exact .inr ⟨⟨a,false,rfl,h⟩,by simp[deafBehind]⟩
 ·simp at he
theorem ZP{a:Addr}(h:σ.sh (.cell a)):oC σ 1 #[aw a]:=by
 intro j e he;rcases j with _|j
 ·simp at he;subst he;exact .inr ⟨⟨a,true,rfl,h⟩,by simp[deafBehind]⟩
 ·simp at he
theorem JE{a:Addr}(h:σ.sh (.cell a)):oC σ 1 #[ar a,aw a]:=by
 intro j e he;rcases j with _|_|j
 ·simp at he;subst he;exact .inr ⟨⟨a,false,rfl,h⟩,by simp[deafBehind]⟩
 ·simp at he;subst he;exact .inr ⟨⟨a,true,rfl,h⟩,by simp[deafBehind]⟩
 ·simp at he
theorem Oo{a:Addr}(h:σ.sh (.cell a)):oC σ 1 (semEvents a):=by
 intro j e he;unfold semEvents at he⊢;rcases j with _|_|_|_|j
 ·simp at he;subst he;exact .inl rfl
 ·simp at he;subst he;exact .inr ⟨⟨a,false,rfl,h⟩,by simp[deafBehind]⟩
 ·simp at he;subst he;exact .inr ⟨⟨a,true,rfl,h⟩,by simp[deafBehind]⟩
 ·simp at he;subst he;exact .inl rfl
 ·simp at he
theorem CI.xK(C:CI P σ L G c N0 w₀ δ T gs w q D f x y){i d:Nat}{fn:bM}{pos:String}{es:Array Event}(hd:Deaf T i=d)(xI:oC σ d es)(hm:∀ e∈es,∀ ad,MemAct.ofEvent e≠ .mark (.release ad))(hl:∀ e∈es,(MemAct.ofEvent e).low w.heap.size):
  Px σ.rd σ.lo σ.sh w.heap.size (Knows (T++MemOp.ofEvents i fn pos es) 0) (T++MemOp.ofEvents i fn pos es):=by
 have h:=ED (T:=T) (i:=i) (fn:=fn) (pos:=pos) (es:=es) (sh:=σ.sh) (by rw[hd];exact xI);exact C.fr.px.R7 (λi=>Knows.app _) (λop cx=>by obtain⟨e,_,rfl⟩:=Conc.mem_ofEvents cx;rfl) h (λg l _ hr=>by obtain⟨s,e,hl⟩:=hr;exact C.fr.uB g s l e hl)
  (λop cx ad ea=>by obtain⟨e,he,rfl⟩:=Conc.mem_ofEvents cx;exact absurd ea (hm e he ad)) (fI _) (λop cx=>by obtain⟨e,he,rfl⟩:=Conc.mem_ofEvents cx;exact hl e he)
theorem oy.atom{a:Addr}{i r d:Nat}{fn:bM}{pos:String}{es:Array Event}(H:oy σ.sh a T i r)(hd:Deaf T i=d)(xI:oC σ d es):oy σ.sh a (T++MemOp.ofEvents i fn pos es) i r:=by have h:=ED (T:=T) (i:=i) (fn:=fn) (pos:=pos) (es:=es) (sh:=σ.sh) (by rw[hd];exact xI);exact H.app λk op cx _ b hb=>h k op cx b hb
theorem CI.Oq(C:CI P σ L G c N0 w₀ δ T gs w q D f x y):G.blk<w.heap.size:=by rw[C.wg.size];exact C.wg.blt
theorem JF{v:WS}(h:v.opn)(h0:v.cnt=0):v=.qt:=by
 cases v with
 |app=>simp[WS.cnt]at h0
 |cl s=>cases s<;>simp_all [WS.cnt,WS.opn]
 |qt=>rfl
theorem Md.V4(M:Md L D tag x y pk){i:Nat}(hi:i∈L)(h1:(D i).cnt=1):(∀ j∈L,(D j).opn)/\1<=V L D/\((rM (V L D) tag/\x=lX (V L D) 0/\y=sJ 0/\pk=false)\/(tag=.mh/\x=lX (V L D) 1/\y=sJ 0)):=by
 have pQ:∀ {a:WS},D i=a->a.cnt=0->False:=λe h=>by rw[e]at h1;omega
 have hV:∀ l:List Nat,i∈l->1<=iK (λj=>(D j).cnt) l:=λl=>by
  induction l with
  |nil=>intro h;simp at h
  |cons j l ih=>
   intro h;rcases gq.1 h with rfl|h
   ·simp only[iK];omega
   ·have:=ih h;simp only[iK];omega
 cases M with
 |opn ht hD=>exact⟨hD,hV L hi,.inl ⟨ht,rfl,rfl,rfl⟩⟩
 |mh hD h=>exact⟨hD,h,.inr ⟨rfl,rfl,rfl⟩⟩
 |sg j hj hx ho=>
  by_cases e:i=j
  ·subst e;rcases hx with hx|hx<;>exact(pQ hx (by simp[WS.cnt])).elim
  ·exact(pQ (ho i hi e) (by simp[WS.cnt])).elim
 |tB j hj hx ho=>
  by_cases e:i=j
  ·subst e;exact(pQ hx (by simp[WS.cnt])).elim
  ·exact(pQ (ho i hi e) (by simp[WS.cnt])).elim
 |vG ho=>exact(pQ (ho i hi) (by simp[WS.cnt])).elim
 |fin _ ho=>exact(pQ (ho i hi) (by simp[WS.cnt])).elim
theorem Md.JG(M:Md L D tag x y pk){i:Nat}(hi:i∈L)(h1:D i=.cl .ld\/D i=.cl .M5):tag=.mh/\x=lX 0 1/\y=sJ 0/\∀ j∈L,j≠i->D j=.qt:=by
 have pQ:D i≠ .qt:=λe=>by rcases h1 with h|h<;>rw[e]at h<;>cases h
 have Ot:¬ (D i).opn:=by rcases h1 with h|h<;>rw[h]<;>exact λz=>z
 cases M with
 |opn ht hD=>exact absurd (hD i hi) Ot
 |mh hD h=>exact absurd (hD i hi) Ot
 |sg j hj hx ho=>
  by_cases e:i=j
  ·subst e;exact⟨rfl,rfl,rfl,ho⟩
  ·exact absurd (ho i hi e) pQ
 |tB j hj hx ho=>
  by_cases e:i=j
  ·subst e;rcases h1 with h|h<;>rw[h]at hx<;>cases hx
  ·exact absurd (ho i hi e) pQ
 |vG ho=>exact absurd (ho i hi) pQ
 |fin _ ho=>exact absurd (ho i hi) pQ
theorem Md.Sf(M:Md L D tag x y pk){i:Nat}(hi:i∈L)(h1:D i=.cl .Hj):tag=.mh/\x=lX 0 0/\y=sJ 0/\∀ j∈L,j≠i->D j=.qt:=by
 have pQ:D i≠ .qt:=λe=>by rw[e]at h1;cases h1
 have Ot:¬ (D i).opn:=by rw[h1];exact λz=>z
 cases M with
 |opn ht hD=>exact absurd (hD i hi) Ot
 |mh hD h=>exact absurd (hD i hi) Ot
 |sg j hj hx ho=>
  by_cases e:i=j
  ·subst e;rcases hx with h|h<;>rw[h]at h1<;>cases h1
  ·exact absurd (ho i hi e) pQ
 |tB j hj hx ho=>
  by_cases e:i=j
  ·subst e;exact⟨rfl,rfl,rfl,ho⟩
  ·exact absurd (ho i hi e) pQ
 |vG ho=>exact absurd (ho i hi) pQ
 |fin _ ho=>exact absurd (ho i hi) pQ
def UK(P:bR)(σ:Gh)(L:List Nat)(G:qo)(c N0:Nat)(w₀:World)(δ:Nat)(T:Trace)(gs:Array aQ)(w:World)(q:Nat->Nat)(f:Nat->Nat)(tag:MS)(pk:Bool)(a:aQ)(sl:Option (Nat×Nat))(i:Nat):Prop:=
 ∃ (fL:Array aQ) (ops:Array MemOp) (w':World) (D':Nat->WS) (f':Nat->Nat) (x' y':Value) (kZ:Bool),runT P (crowd gs w sl) i=(.next (crowd fL w' sl),ops)/\fL.size=gs.size/\fL[0]? =some (tA kZ a)/\(kZ=true->pk=true)/\
  CI P σ L G c N0 w₀ δ (T++ops) fL w' q D' f' x' y'/\Md L D' tag x' y' kZ/\iK f' L<iK f L
theorem wF{a:aQ}(A4:a.status=.running)(EF:pk=true->a.offers=none)(r:Nat)(b:Bool):offersAt (tA pk a) r b=[]:=by
 cases pk with
 |false=>exact offersAt_of_not_blocked (by unfold tA;simp[A4]) _ _
 |true=>unfold tA offersAt;simp[EF rfl]
theorem CI.ZQ(C:CI P σ L G c N0 w₀ δ T gs w q D f x y)(M:Md L D tag x y pk){i:Nat}{g a:aQ}{sl:Option (Nat×Nat)}(hi:i∈L)(hg:gs[i]? =some g)(mo:g.status=.running)(ha:gs[0]? =some (tA pk a))(A4:a.status=.running)(EF:pk=true->a.offers=none):
  UK P σ L G c N0 w₀ δ T gs w q f tag pk a sl i:=by
 have EB:i≠0:=λe=>C.fr.jh (e▸hi);have Om:(i==0)=false:=by rw[RX];exact EB
 have dI:i<gs.size:=(gQ.1 hg).1;have Ou:=C.Oq;obtain⟨g₁,ZR,hW⟩:=C.wk i hi;obtain rfl:g₁=g:=bY (ZR.symm.trans hg);have go:∀ {g':aQ} {w':World} {es:Array Event} {n':Nat} {ws:WS} {x' y':Value},stepG P false g₁ w=.go g' w' es->WG G w₀ x' y' w'->(g'.status=.running\/g'.status=.finished)->
   Px σ.rd σ.lo σ.sh w.heap.size (Knows (T++MemOp.ofEvents i g₁.frame.fn g₁.frame.place es) 0) (T++MemOp.ofEvents i g₁.frame.fn g₁.frame.place es)->Se P σ G c N0 (T++MemOp.ofEvents i g₁.frame.fn g₁.frame.place es) i n' g' ws->n'<f i->
   (∀ kZ:Bool,(kZ=true->pk=true)->(mayWake P g₁=true->kZ=false)->Md L (upd D i ws) tag x' y' kZ)->UK P σ L G c N0 w₀ δ T gs w q f tag pk a sl i:=by
  intro g' w' es n' ws x' y' h1 h2 h3 h4 h5 h6 h7;obtain⟨fL,kZ,r1,r2,r3,r4,r5,r6,r7⟩:=C.put (sl:=sl) hi hg h1 h2 h3 h4 h5 h6 ha A4 EF;exact⟨fL,_,w',_,_,_,_,kZ,r1,r2,r3,r4,r6,h7 kZ r4 r5,r7⟩
 have Ov:∀ {es:Array Event},(∀ e∈es,e.mute=true)->Px σ.rd σ.lo σ.sh w.heap.size (Knows (T++MemOp.ofEvents i g₁.frame.fn g₁.frame.place es) 0) (T++MemOp.ofEvents i g₁.frame.fn g₁.frame.place es):=λhm=>
  C.fr.px.mute (λi=>Knows.app _) (λop cx=>by obtain⟨e,he,rfl⟩:=Conc.mem_ofEvents cx;exact touch_mute (hm e he)) (λop cx ad ea=>by obtain⟨e,he,rfl⟩:=Conc.mem_ofEvents cx;exact absurd ea (yk (hm e he) ad)) (fI _) (λop cx=>by obtain⟨e,he,rfl⟩:=Conc.mem_ofEvents cx;exact low_mute (hm e he) _)
 have px0:Px σ.rd σ.lo σ.sh w.heap.size (Knows (T++MemOp.ofEvents i g₁.frame.fn g₁.frame.place #[]) 0) (T++MemOp.ofEvents i g₁.frame.fn g₁.frame.place #[]):=Ov (λe he=>by simp at he);cases Aj:D i with
 |qt=>
  rw[Aj]at hW;obtain⟨hq,r,hR⟩:=hW;cases YU:f i with
  |zero=>rw[YU]at hq;rw[hq.1]at mo;cases mo
  |succ k=>
   rw[YU]at hq;rcases hq with⟨hf,_⟩|⟨_,g',es,hm,lW,D3⟩
   ·rw[hf]at mo;cases mo
   refine go (ws:=.qt) (lW w) C.wg D3.status (Ov hm) ⟨by rw[Deaf_own];exact D3,r,hR.still λop cx=>by obtain⟨e,he,rfl⟩:=Conc.mem_ofEvents cx;exact touch_mute (hm e he)⟩ ak λkZ hp _=>?_;exact M.same C.nd hi (by rw[Aj];exact trivial) trivial (by rw[Aj]) (λ_=>rfl) hp
 |app=>
  rw[Aj]at hW;obtain⟨s,cw,z0,z1,k,hs,si,YU,mQ,M6,uE⟩:=hW;have og:=C.loose i hi;have Rs:=C.fr.mem i s hs;have oA:N8 P false s g₁\/∃ k' g' es d,k=k'+1/\stepG P false g₁ w=.go g' (w.at d) es/\(∀ e∈es,ZE s e)/\Way P false s k' g':=by
   cases k with
   |zero=>exact .inl mQ
   |succ k'=>
    rcases mQ with N9|⟨_,sG⟩
    ·exact .inl N9
    ·obtain⟨g',es,d,h1,h2,h3⟩:=sG w Rs;exact .inr ⟨k',g',es,d,rfl,h1,h2,h3⟩
  have Ow:∀ kZ:Bool,(kZ=true->pk=true)->∀ ws:WS,ws.opn->ws.cnt=1->Md L (upd D i ws) tag x y kZ:=λkZ hp ws h1 h2=>
   M.same C.nd hi (by rw[Aj];exact trivial) h1 (by rw[Aj,h2];rfl) (λe=>by rw[Aj]at e;cases e) hp
  rcases oA with D4|⟨k',g',es,d,rfl,hgo,xI,YR⟩
  ·
   obtain⟨rr,hrr,_,_,_,_,es,xI,lW⟩:=id D4;obtain⟨cJ,hr,hl,tv,hd⟩:=uC (i:=i) (fn:=g₁.frame.fn) (pos:=g₁.frame.place) Rs xI;have JH:∀ r,partners (gs.setIfInBounds i ph) r true=[]:=λr=>partners_nil λj v hv=>by
    rcases getElem?_stand gs i j v hv with⟨_,rfl⟩|⟨_,tC⟩
    ·exact offersAt_ph _ _
    ·by_cases hj:j=0
     ·subst hj;rw[ha]at tC;obtain rfl:=bY tC;exact wF A4 EF r true
     ·exact C.fr.noSend hj tC r
   obtain⟨kc,hkc⟩:=C.shut;obtain⟨cw',z0',z1',kw,ZS,hkw⟩:=C.cw i s hi hs;obtain⟨rfl,rfl⟩:cw=cw'/\z0=z0':=by rw[si]at ZS;have:=congrArg (·[0]?) ZS;simp[rcase]at this;exact this
   have ho:∀ (m:Nat) (c':CommCase),m≠1->s.cases[m]? =some c'->NoWays w (gs.setIfInBounds i ph) c':=by
    intro m c' hm kx;rw[si]at kx;rcases m with _|_|m
    ·simp at kx;subst kx;exact ways_recv_none hkw (JH _)
    ·exact absurd rfl hm
    ·simp at kx
   have zZ:s.cases[1]? =some (rcase c z1):=by rw[si];rfl
   have GZ:=crowd_sel_recv_closed (P:=P) (sl:=sl) hg (by rw[Om];exact lW w Rs) zZ ho hkc (JH _);rw[finishComm_served,show((1:Nat):Int)=(1:Int)from rfl]at GZ;have UL:∀ op∈MemOp.ofEvents i g₁.frame.fn g₁.frame.place es++#[{g:=i,fn:=rr.frame.fn,pos:=rr.frame.place,act:=.recvClosed c}],op.g=i:=λop cx=>by
    rcases VO.1 cx with h|h
    ·exact cJ op h
    ·simp only[pc,gq,mK,fX]at h;subst h;rfl
   have hDf:Deaf (T++(MemOp.ofEvents i g₁.frame.fn g₁.frame.place es++#[{g:=i,fn:=rr.frame.fn,pos:=rr.frame.place,act:=.recvClosed c}])) i=0:=by
    rw[<- He,Deaf_quiet (λop cx d=>by simp only[pc,gq,mK,fX]at cx;subst cx;rfl),hd T,M6]
   have V5:c<w.heap.size:=(gQ.1 hkc).1;have p1:=C.fr.px.reads (K':=Knows (T++MemOp.ofEvents i g₁.frame.fn g₁.frame.place es) 0) (λi=>Knows.app _) og cJ (λop cx b hb=>⟨(hr op cx b hb).1,⟨s,hs,(hr op cx b hb).2⟩,C.fr.uB i s _ hs (hr op cx b hb).2⟩) (λop cx ad ea=>absurd ea (tv op cx ad)) (fI _) hl;have p2:=p1.mute (u:=#[{g:=i,fn:=rr.frame.fn,pos:=rr.frame.place,act:=.recvClosed c}]) (K':=Knows (T++MemOp.ofEvents i g₁.frame.fn g₁.frame.place es++#[{g:=i,fn:=rr.frame.fn,pos:=rr.frame.place,act:=.recvClosed c}]) 0) (λi=>Knows.app _) (λop cx=>by
     simp only[pc,gq,mK,fX]at cx;subst cx;rfl) (λop cx ad ea=>by
     simp only[pc,gq,mK,fX]at cx;subst cx;cases ea) (fI _) (λop cx=>by
     simp only[pc,gq,mK,fX]at cx;subst cx;exact V5)
   rw[He]at p2;have mg:(gs.setIfInBounds i (Conc.served rr (commResult s.cases s.shape 1 z1 false)))[i]? =some (Conc.served rr (commResult s.cases s.shape 1 z1 false)):=j4 dI;have Od:∀ v,v≠i->(gs.setIfInBounds i (Conc.served rr (commResult s.cases s.shape 1 z1 false)))[v]? =gs[v]? :=λv hv=>gC (λe=>hv e.symm);have D5:iK (upd f i N0) L+f i=iK f L+N0:=uD f N0 id C.nd hi;refine⟨_,_,w,upd D i (.cl .rel),upd f i N0,x,y,pk,GZ,by simp,by rw[Od 0 (i3 EB)];exact ha,id,?_,Ow pk id _ trivial rfl,ak⟩;refine⟨C.fr.ZN hi dI rfl (λ_ _ h _=>h) (λ_ _ _ _ _ h=>h) (by simp) (λv hv _=>Od v hv) mg (.inl rfl) UL p2,C.ok,C.nd,C.len,λj hj=>?_,C.shut,C.cw,C.loose,C.wg,C.yn,C.G1⟩;by_cases e:j=i
   ·subst e;exact⟨_,mg,by rw[upd_same,upd_same];exact⟨uE rr hrr,hDf,λh=>absurd rfl h⟩⟩
   ·obtain⟨gj,h1,h2⟩:=C.wk j hj;refine⟨gj,by rw[Od j e];exact h1,?_⟩;rw[upd_ne f N0 e,upd_ne D (.cl .rel) e];exact h2.other UL (λz=>e z.symm)
  ·obtain⟨cJ,hr,hl,tv,hd⟩:=uC (i:=i) (fn:=g₁.frame.fn) (pos:=g₁.frame.place) Rs xI;refine go (ws:=.app) hgo (C.wg.at d) (.inl (Way.running ⟨w,Rs⟩ YR)) ?_ ⟨s,cw,z0,z1,k',hs,si,rfl,YR,(hd T).trans M6,uE⟩ ak λkZ hp _=>Ow kZ hp _ trivial rfl;exact C.fr.px.reads (λi=>Knows.app _) og cJ (λop cx b hb=>⟨(hr op cx b hb).1,⟨s,hs,(hr op cx b hb).2⟩,C.fr.uB i s _ hs (hr op cx b hb).2⟩) (λop cx ad ea=>absurd ea (tv op cx ad)) (fI _) hl
 |cl st=>
  rw[Aj]at hW;obtain⟨uE,M6,Ah⟩:=hW;cases YU:f i with
  |zero=>rw[YU]at uE;exact uE.elim
  |succ n=>
   rw[YU]at uE;obtain⟨_,uE⟩:=uE;rcases uE with⟨g',lW,lO⟩|uE
   ·
    refine go (ws:=.cl st) (lW w C.wg.gs) C.wg (.inl lO.running) px0 ⟨lO,by rw[Deaf_own];exact M6,λh=>let⟨r,hR⟩:=Ah h;⟨r,hR.still λop cx=>by obtain⟨e,he,_⟩:=Conc.mem_ofEvents cx;simp at he⟩⟩ ak λkZ hp _=>?_;have eu:upd D i (.cl st)=D:=by
     funext j
     by_cases e:j=i
     ·subst e;rw[upd_same,Aj]
     ·rw[upd_ne D _ e]
    rw[eu];cases M with
    |opn ht hD=>
     have:kZ=false:=by cases kZ with
      |false=>rfl
      |true=>exact absurd (hp rfl) (by simp)
     subst this;exact .opn ht hD
    |mh hD h=>exact .mh hD h
    |sg j hj hx ho=>exact .sg j hj hx ho
    |tB j hj hx ho=>exact .tB j hj hx ho
    |vG ho=>
     have:kZ=false:=by cases kZ with
      |false=>rfl
      |true=>exact absurd (hp rfl) (by simp)
     subst this;exact .vG ho
    |fin ht ho=>
     have:kZ=false:=by cases kZ with
      |false=>rfl
      |true=>exact absurd (hp rfl) (by simp)
     subst this;exact .fin ht ho
   ·have yo:st≠ .rel->∃ r,oy σ.sh G.st T i r:=Ah;cases st with
    |rel=>
     obtain⟨g',lW,lO⟩:=uE;have Sb:Deaf T i=0:=M6;refine go (ws:=.cl .xJ) (lW w) C.wg (.inl lO.running) (C.JD rfl (λad=>by simp) Ou) ⟨lO,by rw[Deaf_own,Sb];rfl,λ_=>⟨T.size,?_⟩⟩ ak λkZ hp _=>M.same C.nd hi (by rw[Aj];exact trivial) trivial (by rw[Aj];rfl) (λe=>by rw[Aj]at e;cases e) hp;have e1:MemOp.ofEvents i g₁.frame.fn g₁.frame.place #[zY (.releaseMerge G.st)]=#[{g:=i,fn:=g₁.frame.fn,pos:=g₁.frame.place,act:=.mark (.releaseMerge G.st)}]:=by rw[ofEvents_eq];simp[MemAct.ofEvent]
     rw[e1];exact oy.new rfl rfl Sb
    |xJ=>
     obtain⟨g',lW,lO⟩:=uE;have Sb:Deaf T i=0:=M6;obtain⟨r,hR⟩:=yo (by simp);exact go (ws:=.cl .add) (lW w) C.wg (.inl lO.running) (C.JD rfl (λad=>by simp) trivial) ⟨lO,by rw[Deaf_own,Sb];rfl,λ_=>⟨r,hR.still λop cx=>by obtain⟨e,he,rfl⟩:=Conc.mem_ofEvents cx;simp only[pc,gq,mK,fX]at he;subst he;rfl⟩⟩ ak
      λkZ hp _=>M.same C.nd hi (by rw[Aj];exact trivial) trivial (by rw[Aj];rfl) (λe=>by rw[Aj]at e;cases e) hp
    |add=>
     obtain⟨g',lW,lO,UM⟩:=uE;have wG:Deaf T i=1:=M6;obtain⟨r,hR⟩:=yo (by simp);obtain⟨ZT,hV1,ZU⟩:=M.V4 hi (by rw[Aj];rfl);have hV4:V L D<=4:=Hf (JC (λi=>V3 _) L) C.len;obtain⟨v,hv⟩:∃ v,V L D=v+1:=⟨V L D-1,ak⟩;have px:=C.xK (i:=i) (fn:=g₁.frame.fn) (pos:=g₁.frame.place) wG (JE C.yn) (λe he ad=>by
      simp only[pc,gq,mK,fX]at he;rcases he with rfl|rfl<;>simp[MemAct.ofEvent]) (λe he=>by
      simp only[pc,gq,mK,fX]at he;rcases he with rfl|rfl<;>exact Ou)
     have YT:Deaf (T++MemOp.ofEvents i g₁.frame.fn g₁.frame.place #[ar G.st,aw G.st]) i=1:=by rw[Deaf_own,wG];rfl
     have hVq:V L (upd D i .qt)=v:=by have:=On (D:=D) C.nd hi .qt;rw[Aj]at this;simp only[WS.cnt]at this;omega
     have hVl:V L (upd D i (.cl .ld))=v:=by have:=On (D:=D) C.nd hi (.cl .ld);rw[Aj]at this;simp only[WS.cnt]at this;omega
     have ZV:∀ j∈L,(upd D i .qt j).opn:=λj hj=>by
      by_cases e:j=i
      ·subst e;rw[upd_same];exact trivial
      ·rw[upd_ne D _ e];exact ZT j hj
     rcases ZU with⟨ht,rfl,rfl,rfl⟩|⟨rfl,rfl,rfl⟩
     ·have dt:w.cell? G.st=some (lX (v+1) 0):=by rw[C.wg.UH C.ok,hv]
      have hq:=UM v 0 ak ak ak;refine go (ws:=.qt) (lW w v 0 ak ak dt C.wg.fst) (C.wg.setSt C.ok _) hq.status px ⟨by rw[YT];exact hq,r,hR.atom wG (JE C.yn)⟩ ak λkZ hp _=>?_;have:kZ=false:=by cases kZ with
       |false=>rfl
       |true=>exact absurd (hp rfl) (by simp)
      subst this;have hx:=Md.opn (L:=L) (D:=upd D i .qt) (tag:=tag) (by rw[hVq];exact Cq ak ht) ZV
      rwa[hVq]at hx
     ·have dt:w.cell? G.st=some (lX (v+1) 1):=by rw[C.wg.UH C.ok,hv]
      by_cases h0:v=0
      ·subst h0;refine go (ws:=.cl .ld) (lW w 0 1 ak ak dt C.wg.fst) (C.wg.setSt C.ok _) (.inl lO.running) px ⟨lO,YT,λ_=>⟨r,hR.atom wG (JE C.yn)⟩⟩ ak λkZ hp _=>?_;refine .sg i hi (.inl (by rw[upd_same])) λj hj eL=>?_;rw[upd_ne D _ eL];have:=vF hVl j hj;simp only[upd_ne D (.cl .ld) eL]at this;exact JF (ZT j hj) this
      ·have hq:=UM v 1 ak ak ak;refine go (ws:=.qt) (lW w v 1 ak ak dt C.wg.fst) (C.wg.setSt C.ok _) hq.status px ⟨by rw[YT];exact hq,r,hR.atom wG (JE C.yn)⟩ ak λkZ hp _=>?_;have hx:=Md.mh (L:=L) (D:=upd D i .qt) (pk:=kZ) ZV (by rw[hVq];omega)
       rwa[hVq]at hx
    |ld=>
     obtain⟨g',lW,lO⟩:=uE;have wG:Deaf T i=1:=M6;obtain⟨r,hR⟩:=yo (by simp);obtain⟨rfl,rfl,rfl,ho⟩:=M.JG hi (.inl Aj);refine go (ws:=.cl .M5) (lW w (C.wg.UH C.ok)) C.wg (.inl lO.running) (C.xK wG (ZO C.yn) (λe he ad=>?_) (λe he=>?_)) ⟨lO,by rw[Deaf_own,wG];rfl,λ_=>⟨r,hR.atom wG (ZO C.yn)⟩⟩ ak λkZ hp _=>?_
     ·simp only[pc,gq,mK,fX]at he;subst he;simp[MemAct.ofEvent]
     ·simp only[pc,gq,mK,fX]at he;subst he;exact Ou
     ·exact .sg i hi (.inr (by rw[upd_same])) λj hj eL=>by rw[upd_ne D _ eL];exact ho j hj eL
    |M5=>
     obtain⟨g',lW,lO⟩:=uE;have wG:Deaf T i=1:=M6;obtain⟨r,hR⟩:=yo (by simp);obtain⟨rfl,rfl,rfl,ho⟩:=M.JG hi (.inr Aj);refine go (ws:=.cl .Hj) (lW w (C.wg.UH C.ok) C.wg.fst) (C.wg.setSt C.ok _) (.inl lO.running) (C.xK wG (ZP C.yn) (λe he ad=>?_) (λe he=>?_)) ⟨lO,by rw[Deaf_own,wG];rfl,λ_=>⟨r,hR.atom wG (ZP C.yn)⟩⟩ ak λkZ hp _=>?_
     ·simp only[pc,gq,mK,fX]at he;subst he;simp[MemAct.ofEvent]
     ·simp only[pc,gq,mK,fX]at he;subst he;exact Ou
     ·exact .tB i hi (by rw[upd_same]) λj hj eL=>by rw[upd_ne D _ eL];exact ho j hj eL
    |Hj=>
     obtain⟨Rv,g',lW,hq⟩:=uE;have wG:Deaf T i=1:=M6;obtain⟨r,hR⟩:=yo (by simp);obtain⟨rfl,rfl,rfl,ho⟩:=M.Sf hi Aj;refine go (ws:=.qt) (lW w (C.wg.csm C.ok) C.wg.fsm) (C.wg.setSm C.ok _) hq.status (C.xK wG (Oo C.G1) (λe he ad=>?_) (λe he=>?_)) ⟨by rw[Deaf_own,wG];exact hq,r,hR.atom wG (Oo C.G1)⟩ ak λkZ hp JI=>?_
     ·simp only[semEvents,pc,gq,mK,fX]at he;rcases he with rfl|rfl|rfl|rfl<;>simp[MemAct.ofEvent]
     ·simp only[semEvents,pc,gq,mK,fX]at he;rcases he with rfl|rfl|rfl|rfl<;>first|exact Ou|trivial
     ·have:kZ=false:=JI Rv;subst this;refine .vG λj hj=>?_;by_cases e:j=i
      ·subst e;rw[upd_same]
      ·rw[upd_ne D _ e];exact ho j hj e
end
end
section
open Go.Conc
open Go.ConcN (sumTo upd sumTo_upd upd_ne upd_same)
section
variable{P:bR}{σ:Gh}{L:List Nat}{G:qo}{c N0:Nat}{w₀:World}{δ:Nat}{T:Trace}{gs:Array aQ}{w w':World}{q:Nat->Nat}{D:Nat->WS}{f:Nat->Nat}{x y x' y':Value}{tag:MS}{pk:Bool}
theorem Md.adv(M:Md L D tag x y pk):Md L D tag x y false:=by
 cases M with
 |opn ht hD=>exact .opn ht hD
 |mh hD h=>exact .mh hD h
 |sg j hj hx ho=>exact .sg j hj hx ho
 |tB j hj hx ho=>exact .tB j hj hx ho
 |vG ho=>exact .vG ho
 |fin ht ho=>exact .fin ht ho
theorem Se.runs(C:CI P σ L G c N0 w₀ δ T gs w q D f x y){i n:Nat}{g:aQ}{ws:WS}(H:Se P σ G c N0 T i n g ws)(h:ws≠ .qt):g.status=.running:=by
 cases ws with
 |app=>obtain⟨s,cw,z0,z1,k,hs,_,_,hw,_⟩:=H;exact Way.running ⟨w,C.fr.mem i s hs⟩ hw
 |cl st=>exact H.1.running
 |qt=>exact absurd rfl h
theorem CI.turn{a:aQ}(A4:a.status=.running):∀ (F:Nat) (T:Trace) (gs:Array aQ) (w:World) (q:Nat->Nat) (D:Nat->WS) (f:Nat->Nat) (x y:Value) (pk:Bool) (sl:Option (Nat×Nat)),
  CI P σ L G c N0 w₀ δ T gs w q D f x y->Md L D tag x y pk->gs[0]? =some (tA pk a)->(pk=true->a.offers=none)->sumTo gs.size q+iK f L=F->
  ∃ (N:Nat) (fL:Array aQ) (w':World) (nW Oa:Option (Nat×Nat)) (d:Nat) (T':Trace) (q':Nat->Nat) (D':Nat->WS) (f':Nat->Nat) (x' y':Value),runNT P N (crowd gs w sl) T=(.next (crowd fL w' nW),T')/\
   stepT P (crowd fL w' nW)=runT P (crowd fL (w'.at d) Oa) 0/\fL[0]? =some a/\CI P σ L G c N0 w₀ δ T' fL (w'.at d) q' D' f' x' y'/\Md L D' tag x' y' false/\sumTo fL.size q'+iK f' L<=F/\(pk=true->sumTo fL.size q'+iK f' L<F):=by
 intro F
 induction F using Nat.strongRecOn with
 |_ F ih=>
  intro T gs w q D f x y pk sl C M ha EF hF;have EC:∃ (i:Nat) (g:aQ),gs[i]? =some g/\g.status=.running:=by
   cases pk with
   |false=>exact⟨0,a,ha,A4⟩
   |true=>
    have:∃ i∈L,D i≠ .qt:=by
     cases M with
     |mh hD h=>
      obtain⟨i,hi,h1⟩:=EE h;exact⟨i,hi,λe=>by rw[e]at h1;simp[WS.cnt]at h1⟩
     |sg j hj hx ho=>exact⟨j,hj,λe=>by rcases hx with h|h<;>rw[e]at h<;>cases h⟩
     |tB j hj hx ho=>exact⟨j,hj,λe=>by rw[e]at hx;cases hx⟩
    obtain⟨i,hi,eL⟩:=this;obtain⟨g,hg,hW⟩:=C.wk i hi;exact⟨i,g,hg,hW.runs C eL⟩
  have V6:∀ g∈gs,awake g:=C.fr.awake ha (by cases pk<;>simp[tA,A4]);obtain⟨i,g,d',nW,hi,hg,dt⟩:=crowd_pick (P:=P) (w:=w) (sl:=sl) V6 EC;have Cd:=C.at d';by_cases e:i=0
  ·subst e;have:pk=false:=by
    cases pk with
    |false=>rfl
    |true=>rw[ha]at hi;obtain rfl:=bY hi;simp[tA]at hg
   subst this;exact⟨0,gs,w,sl,nW,d',T,q,D,f,x,y,rfl,dt,ha,Cd,M,ak,λh=>by cases h⟩
  ·by_cases hL:i∈L
   ·obtain⟨fL,ops,w',D',f',x',y',kZ,r1,r2,r3,r4,r5,r6,r7⟩:=Cd.ZQ (sl:=nW) M hL hi hg ha A4 EF;obtain⟨N,V7,Ox,s1,s2,d2,ZW,q'',D'',f'',x'',y'',t1,t2,t3,t4,t5,t6,t7⟩:=ih (sumTo fL.size q+iK f' L) (by rw[r2];omega) _ fL w' q D' f' x' y' kZ nW r5 r6 r3 (λh=>EF (r4 h)) rfl;refine⟨1+N,V7,Ox,s1,s2,d2,ZW,q'',D'',f'',x'',y'',runNT_then (runNT_succ_of (N:=0) rfl (dt.trans r1)) t1,t2,t3,t4,t5,?_,λ_=>?_⟩
    ·rw[r2]at t6;omega
    ·rw[r2]at t6;omega
   ·obtain⟨fL,ops,q',d₂,GZ,tw,ZX,qD,cJ,_,_,C',dI⟩:=Cd.fr.EA (sl:=nW) hi e hL hg (λs _ _ gx c xe _=>by rw[ha]at xe;obtain rfl:=bY xe;exact wF A4 EF c true);obtain⟨kZ,D6,z3⟩:∃ kZ:Bool,fL[0]? =some (tA kZ a)/\(kZ=true->pk=true):=by
     rcases ZX _ ha with h|⟨w',_,h⟩
     ·exact⟨pk,h,id⟩
     ·exact⟨false,by rw[h,A3 A4 EF];rfl,λz=>by cases z⟩
    have M':Md L D tag x y kZ:=by
     cases kZ with
     |false=>exact M.adv
     |true=>have:=z3 rfl;subst this;exact M
    have C2:CI P σ L G c N0 w₀ δ (T++ops) fL ((w.at d').at d₂) q' D f x y:=
     ⟨C',C.ok,C.nd,C.len,λj hj=>by obtain⟨gj,h1,h2⟩:=C.wk j hj;exact⟨gj,by rw[qD j hj];exact h1,h2.other cJ (λz=>hL (z▸hj))⟩,C.shut,C.cw,C.loose,C.wg.at d₂,C.yn,C.G1⟩
    obtain⟨N,V7,Ox,s1,s2,d2,ZW,q'',D'',f'',x'',y'',t1,t2,t3,t4,t5,t6,t7⟩:=ih (sumTo fL.size q'+iK f L) (by rw[tw];omega) _ fL _ q' D f x y kZ nW C2 M' D6 (λh=>EF (z3 h)) rfl;refine⟨1+N,V7,Ox,s1,s2,d2,ZW,q'',D'',f'',x'',y'',runNT_then (runNT_succ_of (N:=0) rfl (dt.trans GZ)) t1,t2,t3,t4,t5,?_,λ_=>?_⟩
    ·rw[tw]at t6;omega
    ·rw[tw]at t6;omega
def V8(G:qo)(e:Event):Prop:=(∃ m,e=zY m/\(MemAct.ofEvent e).touch?=none/\(∀ ad,m≠ .release ad)/\∀ B,G.blk<B->(MemAct.ofEvent e).low B)\/e=zY (.write G.sm)\/e=ar G.st\/e=aw G.st\/e=ar G.sm\/e=aw G.sm
theorem CI.ZY(C:CI P σ L G c N0 w₀ δ T gs w q D f x y){es:Array Event}(nV:WG G w₀ x' y' w')(xI:∀ e∈es,V8 G e):pO σ w w' es:=by
 have hsz:w'.heap.size=w.heap.size:=by rw[nV.size,C.wg.size]
 refine⟨ak,λr o h1 h2=>C.wg.UJ nV h1 h2,λi s p e hp h1=>by rw[C.wg.UI nV (C.Cp e hp).1 (C.Cp e hp).2];exact h1,λe he=>?_⟩;have hb:G.blk<w'.heap.size:=by rw[hsz];exact C.Oq
 have qc:∀ i,¬ σ.rd i (.cell G.st):=λi ⟨s,e,h⟩=>C.fr.uB i s _ e h C.yn;have hrm:∀ i,¬ σ.rd i (.cell G.sm):=λi ⟨s,e,h⟩=>C.fr.uB i s _ e h C.G1;rcases xI e he with⟨m,rfl,h1,h2,h3⟩|rfl|rfl|rfl|rfl|rfl
 ·exact⟨λb nZ=>(by rw[h1]at nZ;cases nZ),λad ea=>absurd (MemAct.mark.inj ea) (h2 ad),h3 _ hb⟩
 ·refine⟨λb nZ=>?_,(λad ea=>by cases ea),hb⟩;simp only[MemAct.ofEvent,MemAct.touch?,x6]at nZ;subst nZ;exact⟨λ_=>hrm,λ_=>by simp⟩
 ·refine⟨λb nZ=>?_,(λad ea=>by cases ea),hb⟩;simp only[MemAct.ofEvent,MemAct.touch?,x6]at nZ;subst nZ;exact⟨λ_=>qc,λ_=>by simp⟩
 ·refine⟨λb nZ=>?_,(λad ea=>by cases ea),hb⟩;simp only[MemAct.ofEvent,MemAct.touch?,x6]at nZ;subst nZ;exact⟨λ_=>qc,λ_=>by simp⟩
 ·refine⟨λb nZ=>?_,(λad ea=>by cases ea),hb⟩;simp only[MemAct.ofEvent,MemAct.touch?,x6]at nZ;subst nZ;exact⟨λ_=>hrm,λ_=>by simp⟩
 ·refine⟨λb nZ=>?_,(λad ea=>by cases ea),hb⟩;simp only[MemAct.ofEvent,MemAct.touch?,x6]at nZ;subst nZ;exact⟨λ_=>hrm,λ_=>by simp⟩
theorem CI.ao(C:CI P σ L G c N0 w₀ δ T gs w q D f x y){a a':aQ}{es:Array Event}{sl:Option (Nat×Nat)}(ha:gs[0]? =some a)(hgo:stepG P true a w=.go a' w' es)(nV:WG G w₀ x' y' w')(xI:∀ e∈es,V8 G e):
  ∃ (fL:Array aQ) (ops:Array MemOp),runT P (crowd gs w sl) 0=(.next (crowd fL w' sl),ops)/\fL.size=gs.size/\fL[0]? =some a'/\CI P σ L G c N0 w₀ (deafBehind δ es) (T++ops) fL w' q D f x' y':=by
 have dI:0<gs.size:=(gQ.1 ha).1;have ho:=C.ZY nV xI;obtain⟨C',JA⟩:=C.fr.own (a:=a) (a':=a') (fn:=a.frame.fn) (pos:=a.frame.place) dI ho;have cJ:∀ op∈MemOp.ofEvents 0 a.frame.fn a.frame.place es,op.g=0:=λop cx=>by obtain⟨e,_,rfl⟩:=Conc.mem_ofEvents cx;rfl
 refine⟨_,_,runT_crowd_go (P:=P) (sl:=sl) ha (by simpa using hgo),by simp,JA,C',C.ok,C.nd,C.len,λj hj=>?_,?_,λj s hj e=>?_,C.loose,nV,C.yn,C.G1⟩
 ·obtain⟨gj,h1,h2⟩:=C.wk j hj;have M7:j≠0:=λe=>C.fr.jh (e▸hj);refine⟨gj,?_,h2.other cJ (λz=>M7 z.symm)⟩;rw[gC (λz=>M7 z.symm),Eg,h1];simp[woken_of_again (again_running w' (C.fr.xd j gj hj h1))]
 ·obtain⟨k,hk⟩:=C.shut;exact⟨k,ho.chans _ _ hk rfl⟩
 ·obtain⟨cw,z0,z1,k,h1,h2⟩:=C.cw j s hj e;exact⟨cw,z0,z1,k,h1,ho.chans _ _ h2 rfl⟩
def Gh.fY(σ:Gh)(L:List Nat):Gh:={n:=σ.n,aU:=λi=>if i∈L then none else σ.aU i,sh:=σ.sh,bot:=σ.bot}
def ZZ:MS->Nat
 |.xJ _|.acq=>0
 |_=>1
def iq(P:bR)(σ:Gh)(L:List Nat)(G:qo)(w₀:World)(Fin:aQ->Prop)(m:Machine)(T:Trace):Prop:=
 ∃ (N:Nat) (fL:Array aQ) (w':World) (nW:Option (Nat×Nat)) (T':Trace) (q':Nat->Nat) (a':aQ),runNT P N m T=(.next (crowd fL w' nW),T')/\fL[0]? =some a'/\Fin a'/\Fr P (σ.fY L) (λ_=>False) 0 0 T' fL w' q'/\WG G w₀ (lX 0 0) (sJ 0) w'
theorem iq.of{Fin:aQ->Prop}{N:Nat}{m m':Machine}{T T':Trace}(h:runNT P N m T=(.next m',T'))(k:iq P σ L G w₀ Fin m' T'):iq P σ L G w₀ Fin m T:=by obtain⟨N',fL,w',nW,ZW,q',a',h1,h2⟩:=k;exact⟨N+N',fL,w',nW,ZW,q',a',runNT_then h h1,h2⟩
theorem V9(h0:V L D=0)(hD:∀ i∈L,(D i).opn):∀ i∈L,D i=.qt:=λi hi=>JF (hD i hi) (vF h0 i hi)
def early:MS->Bool
 |.xJ _|.head _|.Sd _=>true
 |_=>false
theorem Md.Cr{tag:MS}(M:Md L D tag x y pk)(ht:early tag=true):rM (V L D) tag/\(∀ i∈L,(D i).opn)/\x=lX (V L D) 0/\y=sJ 0:=by
 cases M with
 |opn ht hD=>exact⟨ht,hD,rfl,rfl⟩
 |mh=>cases ht
 |sg=>cases ht
 |tB=>cases ht
 |vG=>cases ht
 |fin h=>rcases h with rfl|rfl|rfl<;>cases ht
theorem Md.Cs{tag:MS}(M:Md L D tag x y pk)(ht:tag=.last\/tag=.Ol\/tag=.acq):(∀ i∈L,D i=.qt)/\x=lX 0 0/\y=sJ 0:=by
 cases M with
 |opn h hD=>rcases ht with rfl|rfl|rfl<;>exact h.elim
 |mh=>rcases ht with h|h|h<;>cases h
 |sg=>rcases ht with h|h|h<;>cases h
 |tB=>rcases ht with h|h|h<;>cases h
 |vG=>rcases ht with h|h|h<;>cases h
 |fin _ ho=>exact⟨ho,rfl,rfl⟩
theorem Wa{e:Event}(h:V8 G e):∀ z∈#[e],V8 G z:=λz hz=>by simp only[pc,gq,mK,fX]at hz;subst hz;exact h
theorem Oy:V8 G (zY .disable):=.inl ⟨_,rfl,rfl,λ_=>by simp,λ_ _=>trivial⟩
theorem Oz:V8 G (zY .enable):=.inl ⟨_,rfl,rfl,λ_=>by simp,λ_ _=>trivial⟩
theorem Wb:V8 G (zY (.acquire G.st)):=.inl ⟨_,rfl,rfl,λ_=>by simp,λ_ h=>h⟩
theorem KS{Fin:aQ->Prop}{tag:MS}{a:aQ}(hm:MW P G Fin tag a):∀ (T:Trace) (gs:Array aQ) (w:World) (q:Nat->Nat) (D:Nat->WS) (f:Nat->Nat) (x y:Value) (sl:Option (Nat×Nat)),
  CI P σ L G c N0 w₀ (ZZ tag) T gs w q D f x y->Md L D tag x y false->gs[0]? =some a->iq P σ L G w₀ Fin (crowd gs w sl) T:=by
 induction hm with
 |@mute tag g g' hs h k ih=>
  intro T gs w q D f x y sl C M ha;obtain⟨N,vH,w1,s1,s2,d,T1,q1,D1,f1,x1,y1,t1,t2,t3,t4,t5,_,_⟩:=CI.turn hs _ T gs w q D f x y false sl C M ha (λz=>by cases z) rfl;obtain⟨xf,ops,r1,_,r3,r4⟩:=t4.ao (sl:=s2) t3 (h _ t4.wg.gs) t4.wg (λe he=>by simp at he);exact iq.of (runNT_succ_of t1 (t2.trans r1)) (ih _ xf _ q1 D1 f1 x1 y1 s2 r4 t5 r3)
 |@xJ c' g g' hs h k ih=>
  intro T gs w q D f x y sl C M ha;obtain⟨N,vH,w1,s1,s2,d,T1,q1,D1,f1,x1,y1,t1,t2,t3,t4,t5,_,_⟩:=CI.turn hs _ T gs w q D f x y false sl C M ha (λz=>by cases z) rfl;obtain⟨xf,ops,r1,_,r3,r4⟩:=t4.ao (sl:=s2) t3 (h _) t4.wg (Wa Oy);obtain⟨h1,h2,rfl,rfl⟩:=t5.Cr rfl;exact iq.of (runNT_succ_of t1 (t2.trans r1)) (ih _ xf _ q1 D1 f1 _ _ s2 r4 (.opn h1 h2) r3)
 |@load c' g fv hs h k0 k ih0 ih=>
  intro T gs w q D f x y sl C M ha;obtain⟨N,vH,w1,s1,s2,d,T1,q1,D1,f1,x1,y1,t1,t2,t3,t4,t5,_,_⟩:=CI.turn hs _ T gs w q D f x y false sl C M ha (λz=>by cases z) rfl;obtain⟨h1,h2,rfl,rfl⟩:=t5.Cr rfl;obtain⟨xf,ops,r1,_,r3,r4⟩:=t4.ao (sl:=s2) t3 (h _ (V L D1) h1 (t4.wg.UH t4.ok)) t4.wg (Wa (.inr (.inr (.inl rfl))));by_cases h0:V L D1=0
  ·rw[h0]at r3 r4;exact iq.of (runNT_succ_of t1 (t2.trans r1)) (ih0 _ xf _ q1 D1 f1 _ _ s2 r4 (.fin (.inr (.inl rfl)) (V9 h0 h2)) r3)
  ·exact iq.of (runNT_succ_of t1 (t2.trans r1)) (ih (V L D1) ak h1 _ xf _ q1 D1 f1 _ _ s2 r4 (.opn ⟨fI _,ak⟩ h2) r3)
 |@Sd v g g1 g2 hs h1 h2 k1 k2 ih1 D7=>
  intro T gs w q D f x y sl C M ha;obtain⟨N,vH,w1,s1,s2,d,T1,q1,D1,f1,x1,y1,t1,t2,t3,t4,t5,_,_⟩:=CI.turn hs _ T gs w q D f x y false sl C M ha (λz=>by cases z) rfl;obtain⟨e1,e2,rfl,rfl⟩:=t5.Cr rfl;obtain⟨hle,qd⟩:=e1;by_cases hv:V L D1=v
  ·have hc:(w1.at d).cell? G.st=some (lX v 0):=by rw[<- hv];exact t4.wg.UH t4.ok
   obtain⟨xf,ops,r1,_,r3,r4⟩:=t4.ao (sl:=s2) t3 (h1 _ hc t4.wg.fst) (t4.wg.setSt t4.ok (lX v 1)) (λe he=>by
    simp only[pc,gq,mK,fX]at he;rcases he with rfl|rfl
    ·exact .inr (.inr (.inl rfl))
    ·exact .inr (.inr (.inr (.inl rfl))))
   refine iq.of (runNT_succ_of t1 (t2.trans r1)) (ih1 _ xf _ q1 D1 f1 _ _ s2 r4 ?_ r3);rw[<- hv];exact .mh e2 ak
  ·obtain⟨xf,ops,r1,_,r3,r4⟩:=t4.ao (sl:=s2) t3 (h2 _ (V L D1) ak (t4.wg.UH t4.ok) t4.wg.fst) t4.wg (Wa (.inr (.inr (.inl rfl))));exact iq.of (runNT_succ_of t1 (t2.trans r1)) (D7 _ xf _ q1 D1 f1 _ _ s2 r4 (.opn (show _<=_ by omega) e2) r3)
 |@said g g' hs h k ih=>
  intro T gs w q D f x y sl C M ha;obtain⟨N,vH,w1,s1,s2,d,T1,q1,D1,f1,x1,y1,t1,t2,t3,t4,t5,_,_⟩:=CI.turn hs _ T gs w q D f x y false sl C M ha (λz=>by cases z) rfl;obtain⟨xf,ops,r1,_,r3,r4⟩:=t4.ao (sl:=s2) t3 (h _) t4.wg (Wa (.inr (.inl rfl)));exact iq.of (runNT_succ_of t1 (t2.trans r1)) (ih _ xf _ q1 D1 f1 x1 y1 s2 r4 t5 r3)
 |@Hj g g' hs ho h0 h1 k ih=>
  have key:∀ (F:Nat) (T:Trace) (gs:Array aQ) (w:World) (q:Nat->Nat) (D:Nat->WS) (f:Nat->Nat) (x y:Value) (pk:Bool) (sl:Option (Nat×Nat)),
    CI P σ L G c N0 w₀ 1 T gs w q D f x y->Md L D .mh x y pk->gs[0]? =some (tA pk g)->sumTo gs.size q+iK f L+(if pk then 0 else 1)=F->iq P σ L G w₀ Fin (crowd gs w sl) T:=by
   intro F
   induction F using Nat.strongRecOn with
   |_ F ihF=>
    intro T gs w q D f x y pk sl C M ha hF;obtain⟨N,vH,w1,s1,s2,d,T1,q1,D1,f1,x1,y1,t1,t2,t3,t4,t5,t6,t7⟩:=CI.turn hs _ T gs w q D f x y pk sl C M ha (λ_=>ho) rfl;have block:y1=sJ 0->Md L D1 .mh x1 y1 true->iq P σ L G w₀ Fin (crowd gs w sl) T:=λhy hM=>by
     have Ct:(w1.at d).cell? G.sm=some (sJ 0):=by rw[<- hy];exact t4.wg.csm t4.ok
     obtain⟨xf,ops,r1,r2,r3,r4⟩:=t4.ao (sl:=s2) t3 (h0 _ Ct) t4.wg (λe he=>by simp at he);refine iq.of (runNT_succ_of t1 (t2.trans r1)) (ihF (sumTo xf.size q1+iK f1 L+0) ?_ _ xf _ q1 D1 f1 x1 y1 true s2 r4 hM r3 rfl);rw[r2];cases pk with
     |false=>simp at hF;omega
     |true=>have:=t7 rfl;simp at hF;omega
    cases t5 with
    |opn ht=>exact ht.elim
    |mh hD hV=>exact block rfl (.mh hD hV)
    |sg j hj hx ho=>exact block rfl (.sg j hj hx ho)
    |tB j hj hx ho=>exact block rfl (.tB j hj hx ho)
    |vG hq=>
     obtain⟨xf,ops,r1,r2,r3,r4⟩:=t4.ao (sl:=s2) t3 (h1 _ (t4.wg.csm t4.ok) t4.wg.fsm) (t4.wg.setSm t4.ok (sJ 0)) (λe he=>by
      simp only[semEvents,pc,gq,mK,fX]at he;rcases he with rfl|rfl|rfl|rfl
      ·exact Oy
      ·exact .inr (.inr (.inr (.inr (.inl rfl))))
      ·exact .inr (.inr (.inr (.inr (.inr rfl))))
      ·exact Oz)
     exact iq.of (runNT_succ_of t1 (t2.trans r1)) (ih _ xf _ q1 D1 f1 _ _ s2 r4 (.fin (.inl rfl) hq) r3)
    |fin h=>rcases h with h|h|h<;>cases h
  intro T gs w q D f x y sl C M ha;exact key _ T gs w q D f x y false sl C M ha rfl
 |@last g g' hs h k ih=>
  intro T gs w q D f x y sl C M ha;obtain⟨N,vH,w1,s1,s2,d,T1,q1,D1,f1,x1,y1,t1,t2,t3,t4,t5,_,_⟩:=CI.turn hs _ T gs w q D f x y false sl C M ha (λz=>by cases z) rfl;obtain⟨e1,rfl,rfl⟩:=t5.Cs (.inl rfl);obtain⟨xf,ops,r1,_,r3,r4⟩:=t4.ao (sl:=s2) t3 (h _ (t4.wg.UH t4.ok)) t4.wg (Wa (.inr (.inr (.inl rfl))));exact iq.of (runNT_succ_of t1 (t2.trans r1)) (ih _ xf _ q1 D1 f1 _ _ s2 r4 (.fin (.inr (.inl rfl)) e1) r3)
 |@Ol g g' hs h k ih=>
  intro T gs w q D f x y sl C M ha;obtain⟨N,vH,w1,s1,s2,d,T1,q1,D1,f1,x1,y1,t1,t2,t3,t4,t5,_,_⟩:=CI.turn hs _ T gs w q D f x y false sl C M ha (λz=>by cases z) rfl;obtain⟨e1,rfl,rfl⟩:=t5.Cs (.inr (.inl rfl));obtain⟨xf,ops,r1,_,r3,r4⟩:=t4.ao (sl:=s2) t3 (h _) t4.wg (Wa Oz);exact iq.of (runNT_succ_of t1 (t2.trans r1)) (ih _ xf _ q1 D1 f1 _ _ s2 r4 (.fin (.inr (.inr rfl)) e1) r3)
 |@acq g g' hs h k=>
  intro T gs w q D f x y sl C M ha;obtain⟨N,vH,w1,s1,s2,d,T1,q1,D1,f1,x1,y1,t1,t2,t3,t4,t5,_,_⟩:=CI.turn hs _ T gs w q D f x y false sl C M ha (λz=>by cases z) rfl;obtain⟨e1,rfl,rfl⟩:=t5.Cs (.inr (.inr rfl));obtain⟨xf,ops,r1,r2,r3,r4⟩:=t4.ao (sl:=s2) t3 (h _) t4.wg (Wa Wb);have cJ:ops=#[{g:=0,fn:=g.frame.fn,pos:=g.frame.place,act:=.mark (.acquire G.st)}]:=by have:=runT_crowd_go (P:=P) (sl:=s2) t3 (show stepG P (0==0) g (w1.at d)=_ from h _);rw[r1]at this;rw[(x7 this).2,ofEvents_eq];simp[MemAct.ofEvent]
  refine iq.of (runNT_succ_of t1 (t2.trans r1)) ⟨0,xf,_,s2,_,λi=>if i∈L then f1 i else q1 i,g',rfl,r3,k,?_,r4.wg⟩;have F:=r4.fr;have UC:=t4.fr.px.acquire (I:=λi=>i∈L) (op:={g:=0,fn:=g.frame.fn,pos:=g.frame.place,act:=.mark (.acquire G.st)}) t4.fr.deaf rfl rfl t4.yn t4.Oq (λi hi=>by obtain⟨gi,_,hW⟩:=t4.wk i hi;rw[e1 i hi]at hW;exact hW.2)
  rw[<- cJ]at UC;have Wc:∀ i s,(σ.fY L).aU i=some s->σ.aU i=some s/\i∉L:=λi s e=>by
   simp only[Gh.fY]at e;split at e
   ·cases e
   ·exact⟨e,by assumption⟩
  refine⟨F.cnt,λi v hi _ hv=>?_,λ_ _ z=>z.elim,λz=>z,?_,λi s e=>F.wf i s (Wc i s e).1,λi s e=>F.there i s (Wc i s e).1,λi s c' _ e hc=>F.chans i s c' (Wc i s e).2 (Wc i s e).1 hc,λi s e=>F.mem i s (Wc i s e).1,λi s l e hl=>F.uB i s l (Wc i s e).1 hl,F.above,λi _ hl=>?_,F.deaf,?_⟩
  ·by_cases hL:i∈L
   ·obtain⟨gi,h1,hW⟩:=r4.wk i hL;rw[e1 i hL]at hW;rw[h1]at hv;obtain rfl:=bY hv;simp only[Gh.fY,hL,eQ];exact⟨Nat.pos_of_ne_zero hi,hW.1⟩
   ·simp only[Gh.fY,hL,eY];exact F.idle i v hi hL hv
  ·simp only[Gh.fY];split
   ·rfl
   ·exact F.hole
  ·unfold Gh.lo at hl;obtain⟨s,wD⟩:=ur.1 hl;have:=Wc i s wD;exact F.hear i this.2 (by unfold Gh.lo;rw[this.1];rfl)
  ·refine UC.conv (λi=>?_) λi l hi=>?_
   ·unfold Gh.lo;simp only[Gh.fY];by_cases hL:i∈L<;>simp[hL]
   ·unfold Gh.rd;simp only[Gh.fY,hi.2,eY]
end
end
section
open Go.Conc
open Go.ConcN (sumTo upd sumTo_upd upd_ne upd_same)
section
variable{P:bR}{σ:Gh}{L:List Nat}{G:qo}{c N0:Nat}{T:Trace}{gs:Array aQ}{w:World}{q:Nat->Nat}
theorem UN(L:List Nat):V L (λ_=>.app)=L.length:=by
 unfold V
 induction L with
 |nil=>rfl
 |cons i l ih=>simp only[iK,jd,WS.cnt]at ih⊢;omega
theorem OA(a:Array Obj)(b:Nat)(o:Obj)(h:a[b]? =some o):a.setIfInBounds b o=a:=by
 apply se;intro i;by_cases e:i=b
 ·subst e;rw[j4 (gQ.1 h).1,h]
 ·rw[gC (i3 e)]
theorem OB{G:qo}(ok:G.Ok){x y:Value}(h1:G.cs[G.o1]? =some x)(h2:G.cs[G.o2]? =some y):G.row x y=G.cs:=by
 apply se;intro i;by_cases e2:i=G.o2
 ·subst e2;rw[Oh ok,h2]
 ·by_cases e1:i=G.o1
  ·subst e1;rw[Og ok,h1]
  ·rw[vE e1 e2]
theorem KT{σ:Gh}{w w':World}{c:Nat}(hc:c<w'.heap.size)(hsz:w.heap.size<=w'.heap.size):∀ e∈closeEvents c,(∀ b,(MemAct.ofEvent e).touch?=some b->(b.write=true->∀ i,¬ σ.rd i b.loc)/\(σ.sh b.loc->b.kind≠ .plain))/\(∀ ad,MemAct.ofEvent e=.mark (.release ad)->¬ σ.sh (.cell ad))/\(MemAct.ofEvent e).low w'.heap.size:=by
 intro e he;simp only[closeEvents,pc,gq,mK,fX]at he;rcases he with rfl|rfl
 ·refine⟨λb hb=>?_,(λad ea=>by cases ea),hc⟩;simp only[MemAct.ofEvent,MemAct.touch?,x6]at hb;subst hb;exact⟨λh=>by simp at h,λ_=>by simp⟩
 ·exact⟨λb hb=>(by simp[MemAct.ofEvent,MemAct.touch?]at hb),(λad ea=>by cases ea),hc⟩
theorem Fr.shut{Fin:aQ->Prop}(C:Fr P σ (λ_=>False) 0 0 T gs w q){a a':aQ}{sl:Option (Nat×Nat)}(ha:gs[0]? =some a)(mo:a.status=.running){k:Nat}(hc:w.heap[c]? =some (.chan 0 #[] false k k false))
  (Cu:∀ d,stepG P true a (w.at d)=.go a' ((w.at d).setChan c 0 #[] true k k false) (closeEvents c)) (JJ:mayWake P a=true) (JA:a'.status=.running)
  (nd:L.Nodup) (len:L.length<=4) (hL:∀ i∈L,∃ s cw z0 z1,σ.aU i=some s/\s.cases=#[rcase cw z0,rcase c z1]/\cw≠c/\∀ r,s.uA r->Cl P G N0 .rel (Conc.served r (commResult s.cases s.shape 1 z1 false)))
  (lN:∀ i s,σ.aU i=some s->s.has c->i∈L) (ok:G.Ok) (hb:w.heap[G.blk]? =some (.cells G.cs G.ty (0,0))) (h1:G.cs[G.o1]? =some (lX L.length 0)) (h2:G.cs[G.o2]? =some (sJ 0)) (yn:σ.sh (.cell G.st)) (G1:σ.sh (.cell G.sm))
  (hm:MW P G Fin (.xJ L.length) a'):iq P σ L G (w.setChan c 0 #[] true k k false) Fin (crowd gs w sl) T:=by
 obtain⟨N,vH,d,d',YV,UO,T1,q1,t1,t2,t3,t4,C1⟩:=C.picked (sl:=sl) ha mo;have dI:0<vH.size:=(gQ.1 t4).1;have hgo:stepG P (0==0) a (w.at d')=.go a' ((w.at d').setChan c 0 #[] true k k false) (closeEvents c):=Cu d';have GZ:=runT_crowd_go (P:=P) (sl:=UO) t4 hgo;refine iq.of (runNT_succ_of t1 (t2.trans GZ)) ?_;have Sc:(w.at d').heap[c]? =some (.chan 0 #[] false k k false):=hc;have V5:c<w.heap.size:=(gQ.1 hc).1;have uE:((w.at d').setChan c 0 #[] true k k false).heap[c]? =some (.chan 0 #[] true k k false):=heap_setChan_self _ Sc _ _ _ _ _ _;have cJ:∀ op∈MemOp.ofEvents 0 a.frame.fn a.frame.place (closeEvents c),op.g=0:=λop cx=>by obtain⟨e,_,rfl⟩:=Conc.mem_ofEvents cx;rfl
 have hbc:G.blk≠c:=λe=>by rw[e,hc]at hb;cases hb
 have UP:∀ i∈L,i≠0:=λi hi e=>by obtain⟨s,_,_,_,hs,_⟩:=hL i hi;rw[e,C.hole]at hs;cases hs
 have hcx:∀ i s c',i∉L->σ.aU i=some s->s.has c'->c≠c':=λi s c' hi hs kx e=>hi (lN i s hs (e▸kx));have hw1:(a'.status != .blocked)=true:=by rw[JA];rfl
 have KU:(a'.status != .waiting)=true:=by rw[JA];rfl
 have hwk:∀ o:aQ,woken P a a' ((w.at d').setChan c 0 #[] true k k false) o=o.again ((w.at d').setChan c 0 #[] true k k false):=λo=>by unfold woken;rw[JJ,hw1,KU];rfl
 have V0:∀ i v,i≠0->i∉L->vH[i]? =some v->v.again ((w.at d').setChan c 0 #[] true k k false)=v:=λi v hi UQ hv=>by
  have o9:=C1.idle i v hi (λz=>z) hv;cases e:σ.aU i with
  |none=>rw[e]at o9;exact again_running _ o9.2.status
  |some s=>
   rw[e]at o9;rcases o9 with⟨k',hq,hg⟩|⟨_,g₀,rr,rfl,_⟩
   ·exact again_running _ (.inl (Way.running ⟨_,C1.mem i s e⟩ hg))
   ·refine again_all_open λcc lf=>?_;obtain⟨c',z,rfl⟩:=(C1.wf i s e).recvs cc lf;have Jz:=dH.has_of_mem lf;obtain⟨k',Sa⟩:=C1.chans i s c' (λz=>z) e Jz;exact⟨c',z,0,_,k',k',_,rfl,by rw[heap_setChan_ne _ _ _ _ _ _ _ (hcx i s c' UQ e Jz)];exact Sa⟩
 have iA:∀ i,i≠0->((vH.map (woken P a a' ((w.at d').setChan c 0 #[] true k k false))).setIfInBounds 0 a')[i]? =(vH[i]?).map (λo=>o.again ((w.at d').setChan c 0 #[] true k k false)):=λi hi=>by
  rw[gC (i3 hi),Eg];cases vH[i]? with
  |none=>rfl
  |some v=>simp[hwk]
 have OC:∀ i∈L,∃ s cw z0 z1 v kk,σ.aU i=some s/\s.cases=#[rcase cw z0,rcase c z1]/\cw≠c/\(∀ r,s.uA r->Cl P G N0 .rel (Conc.served r (commResult s.cases s.shape 1 z1 false)))/\
   ((vH.map (woken P a a' ((w.at d').setChan c 0 #[] true k k false))).setIfInBounds 0 a')[i]? =some v/\Way P false s kk v/\kk<=q1 i:=λi hi=>by
  obtain⟨s,cw,z0,z1,hs,si,eL,lO⟩:=hL i hi;obtain⟨v,hv⟩:∃ v,vH[i]? =some v:=⟨vH[i]'(by have:=C1.there i s hs;omega),D2 _⟩;have o9:=C1.idle i v (UP i hi) (λz=>z) hv;rw[hs]at o9;have Om:(i==0)=false:=by rw[RX];exact UP i hi
  have hg:=iA i (UP i hi);rw[hv]at hg;rcases o9 with⟨k',hq,hw⟩|⟨hq,g₀,rr,rfl,D4⟩
  ·rw[Om]at hw;exact⟨s,cw,z0,z1,v,k',hs,si,eL,lO,by rw[hg];simp[again_running _ (.inl (Way.running ⟨_,C1.mem i s hs⟩ hw))],hw,ak⟩
  ·rw[Om]at D4;refine⟨s,cw,z0,z1,{parked rr s.cases s.shape with status:=.running},0,hs,si,eL,lO,?_,D4.tries _ _,eC _⟩;rw[hg];simp only[lJ,x6];exact again_some_closed (k:=1) (by rw[si];rfl) uE
 have eT:∀ i s,σ.aU i=some s->s.K ((w.at d').setChan c 0 #[] true k k false):=λi s e p hp=>pd Sc (C1.mem i s e p hp) _ _ _ _ _ _;have hfr:Fr P σ (· ∈L) 0 0 (T1++MemOp.ofEvents 0 a.frame.fn a.frame.place (closeEvents c)) ((vH.map (woken P a a' ((w.at d').setChan c 0 #[] true k k false))).setIfInBounds 0 a') ((w.at d').setChan c 0 #[] true k k false) q1:=by
  refine⟨by simpa using C1.cnt,λi v hi UQ hv=>?_,λi v UQ hv=>?_,λz=>UP 0 z rfl,C.hole,C1.wf,λi s e=>by simpa using C1.there i s e,λi s c' UQ e kx=>?_,eT,C1.uB,λj hj=>?_,λi UQ hl=>?_,?_,?_⟩
  ·rw[iA i hi]at hv;obtain⟨v0,OD,rfl⟩:=M2.1 hv;rw[V0 i v0 hi UQ OD];have o9:=C1.idle i v0 hi (λz=>z) OD;cases e:σ.aU i with
   |none=>rw[e]at o9;exact⟨o9.1,by rw[Deaf_other T1 (λz=>hi z.symm) _ cJ];exact o9.2⟩
   |some s=>rw[e]at o9;exact o9
  ·obtain⟨s,cw,z0,z1,v',kk,hs,_,_,_,tC,hw,_⟩:=OC i UQ;rw[tC]at hv;obtain rfl:=bY hv;exact .inl (Way.running ⟨_,eT i s hs⟩ hw)
  ·obtain⟨k',Sa⟩:=C1.chans i s c' (λz=>z) e kx;exact⟨k',by rw[heap_setChan_ne _ _ _ _ _ _ _ (hcx i s c' UQ e kx)];exact Sa⟩
  ·simp only[KH,Array.size_map]at hj;rw[Deaf_other T1 (g':=0) ak _ cJ];exact C1.above j hj
  ·have EB:i≠0:=λe=>by subst e;unfold Gh.lo at hl;rw[C.hole]at hl;cases hl
   rw[Deaf_other T1 (λz=>EB z.symm) _ cJ];exact C1.hear i (λz=>z) hl
  ·rw[Deaf_own,C1.deaf];rfl
  ·have Sg:=KT (σ:=σ) (w:=w) (w':=(w.at d').setChan c 0 #[] true k k false) (c:=c) (by rw[mq];exact V5) (by rw[mq];exact fI _);refine C1.px.own cJ (λop cx b hb=>?_) (λop cx ad ea=>?_) (by rw[mq];exact fI _) (λop cx=>?_)
   ·obtain⟨e,he,rfl⟩:=Conc.mem_ofEvents cx;exact⟨λhw g _=>(((Sg e he).1 b hb).1 hw g),((Sg e he).1 b hb).2⟩
   ·obtain⟨e,he,rfl⟩:=Conc.mem_ofEvents cx;exact(Sg e he).2.1 ad ea
   ·obtain⟨e,he,rfl⟩:=Conc.mem_ofEvents cx;exact(Sg e he).2.2
 have mg:((vH.map (woken P a a' ((w.at d').setChan c 0 #[] true k k false))).setIfInBounds 0 a')[0]? =some a':=j4 (by simpa using dI);have Z0:∃ f:Nat->Nat,∀ i∈L,∃ v,((vH.map (woken P a a' ((w.at d').setChan c 0 #[] true k k false))).setIfInBounds 0 a')[i]? =some v/\Se P σ G c N0 (T1++MemOp.ofEvents 0 a.frame.fn a.frame.place (closeEvents c)) i (f i) v .app:=by refine⟨λi=>q1 i+1+N0,λi hi=>?_⟩;obtain⟨s,cw,z0,z1,v,kk,hs,si,_,lO,hv,hw,xg⟩:=OC i hi;refine⟨v,hv,s,cw,z0,z1,q1 i,hs,si,rfl,hw.mono xg,?_,lO⟩;rw[Deaf_other T1 (λz=>UP i hi z.symm) _ cJ];exact C1.hear i (λz=>z) (by unfold Gh.lo;rw[hs];rfl)
 obtain⟨f,hf⟩:=Z0;have Z1:WG G (w.setChan c 0 #[] true k k false) (lX L.length 0) (sJ 0) ((w.at d').setChan c 0 #[] true k k false):=by
  have zU:(w.setChan c 0 #[] true k k false).heap[G.blk]? =some (.cells G.cs G.ty (0,0)):=by rw[heap_setChan_ne _ _ _ _ _ _ _ (i3 hbc)];exact hb
  refine⟨?_,rfl,rfl,zU⟩;rw[OB ok h1 h2,OA _ _ _ zU];rfl
 refine KS hm _ _ _ q1 (λ_=>.app) f _ _ UO ⟨hfr,ok,nd,len,hf,⟨k,uE⟩,λi s hi e=>?_,λi hi=>?_,Z1,yn,G1⟩ ?_ mg
 ·obtain⟨s',cw,z0,z1,_,_,hs,si,eL,_⟩:=OC i hi;rw[e]at hs;obtain rfl:=bY hs;obtain⟨k',Sa⟩:=C1.chans i s cw (λz=>z) e ⟨0,z0,by rw[si];rfl⟩;exact⟨cw,z0,z1,k',si,by rw[heap_setChan_ne _ _ _ _ _ _ _ (i3 eL)];exact Sa⟩
 ·obtain⟨s,_,_,_,hs,_⟩:=hL i hi;unfold Gh.lo;rw[hs];rfl
 ·have:=Md.opn (L:=L) (D:=λ_=>.app) (tag:=.xJ L.length) (by rw[UN];exact fI _) (λi _=>trivial)
  rwa[UN]at this
end
structure Sm(w w₁:World):Prop where
 hp:w₁.heap=w.heap
 os:w₁.os=w.os
 out:w₁.output=w.output
theorem Sm.refl(w:World):Sm w w:=⟨rfl,rfl,rfl⟩
theorem Sm.trans{a b c:World}(h:Sm a b)(k:Sm b c):Sm a c:=⟨k.hp.trans h.hp,k.os.trans h.os,k.out.trans h.out⟩
theorem Sm.at{a b:World}(h:Sm a b)(d:Nat):Sm a (b.at d):=h.trans ⟨rfl,rfl,rfl⟩
theorem Sm.cell{w w₁:World}(h:Sm w w₁)(a:Addr):w₁.cell? a=w.cell? a:=by unfold World.cell?;rw[h.hp]
theorem Sm.setChan{w w₁:World}(h:Sm w w₁)(c cap:Nat)(YS:Array Value)(cl:Bool)(s r:Nat)(tm:Bool):Sm (w.setChan c cap YS cl s r tm) (w₁.setChan c cap YS cl s r tm):=
 ⟨by simp only[World.setChan,h.hp],h.os,h.out⟩
theorem nY.sm{σ:Gh}{s:dH}{w w₁:World}(h:nY σ s w)(e:Sm w w₁):nY σ s w₁:=
 ⟨h.wf,λc hc=>by rw[e.hp];exact h.chans c hc,λp hp=>by rw[e.cell];exact h.mem p hp,h.uB⟩
inductive wH(P:bR)(Post:Value->World->Prop):Gh->Nat->Nat->aQ->World->Prop
 |own {σ:Gh} {h δ:Nat} {g:aQ} {w:World} (g':World->aQ) (w':World->World) (es:World->Array Event) (hs:g.status=.running)
   (h1:∀ w₁,Sm w w₁->stepG P (h==0) g w₁=.go (g' w₁) (w' w₁) (es w₁)) (h2:∀ w₁,Sm w w₁->pO σ w₁ (w' w₁) (es w₁)) (h3:∀ w₁,Sm w w₁->wH P Post σ h (deafBehind δ (es w₁)) (g' w₁) (w' w₁)):wH P Post σ h δ g w
 |hire {σ:Gh} {h:Nat} {g a' child:aQ} {w:World} (s:dH) (m:Nat) (es:Array Event) (hs:g.status=.running) (h1:∀ w₁,Sm w w₁->stepG P (h==0) g w₁=.spawn a' child w₁ es) (h2:∀ w₁,Sm w w₁->pO σ w₁ w₁ es) (hd:deafBehind 0 es=0)
   (lE:nY σ s w) (mQ:Way P false s m child) (h3:wH P Post (σ.oB s) h 0 a' w):wH P Post σ h 0 g w
 |give {σ:Gh} {h:Nat} {g a₂:aQ} {w:World} (j c kk k m:Nat) (s sH:dH) (v z z':Value) (es:Array Event) (hs:g.status=.running) (hj:σ.aU j=some s) (hk:s.cases[kk]? =some (rcase c z)) (lN:∀ i s',σ.aU i=some s'->s'.has c->i=j)
   (h1:∀ w₁,Sm w w₁->stepG P (h==0) g w₁=.comm a₂ #[scase c v z'] true .send w₁ es) (h2:∀ w₁,Sm w w₁->pO σ w₁ w₁ es) (hd:deafBehind 0 es=0) (hc:w.heap[c]? =some (.chan 0 #[] false k k false)) (lE:nY σ sH w) (mQ:Way P (h==0) sH m (Conc.served a₂ undef))
   (h3:∀ r,s.uA r->wH P Post (σ.given h j sH) j 0 (Conc.served r (commResult s.cases s.shape kk v true)) (w.setChan c 0 #[] false (k+1) (k+1) false)):wH P Post σ h 0 g w
 |shut {σ:Gh} {g a':aQ} {w:World} (L:List Nat) (G:qo) (c k N0:Nat) (Fin:aQ->Prop) (hs:g.status=.running) (hc:w.heap[c]? =some (.chan 0 #[] false k k false))
   (Cu:∀ w₁,Sm w w₁->stepG P true g w₁=.go a' (w₁.setChan c 0 #[] true k k false) (closeEvents c)) (JJ:mayWake P g=true) (JA:a'.status=.running)
   (nd:L.Nodup) (len:L.length<=4) (hL:∀ i∈L,∃ s cw z0 z1,σ.aU i=some s/\s.cases=#[rcase cw z0,rcase c z1]/\cw≠c/\∀ r,s.uA r->Cl P G N0 .rel (Conc.served r (commResult s.cases s.shape 1 z1 false)))
   (lN:∀ i s,σ.aU i=some s->s.has c->i∈L) (ok:G.Ok) (hb:w.heap[G.blk]? =some (.cells G.cs G.ty (0,0))) (e1:G.cs[G.o1]? =some (lX L.length 0)) (e2:G.cs[G.o2]? =some (sJ 0)) (yn:σ.sh (.cell G.st)) (G1:σ.sh (.cell G.sm))
   (hm:MW P G Fin (.xJ L.length) a') (h3:∀ YW Ox,Fin YW->WG G (w.setChan c 0 #[] true k k false) (lX 0 0) (sJ 0) Ox->wH P Post (σ.fY L) 0 0 YW Ox):wH P Post σ 0 0 g w
 |qA {σ:Gh} {h δ:Nat} {g:aQ} {w:World} (Uz:Loc->Prop) (gD:∀ l,σ.sh l->Uz l) (xc:∀ l,Uz l->¬ σ.sh l->∃ a:Addr,l=.cell a/\w.heap.size<=a.block) (h3:wH P Post {σ with sh:=Uz} h δ g w):wH P Post σ h δ g w
 |done{σ:Gh} {g:aQ} {w:World} (v:Value) (hs:g.status=.running) (h1:∀ w₁,Sm w w₁->stepG P true g w₁=.ended (.done v) w₁ #[]) (hn:∀ i,σ.aU i=none) (hp:∀ w₁,Sm w w₁->Post v w₁):wH P Post σ 0 0 g w
def Ends(P:bR)(Post:Value->World->Prop)(m:Machine)(T:Trace):Prop:=
 ∃ N last o w' t',runNT P (N+1) m T=(.ended o w',t')/\runN P N m=.next last/\step P last=.ended o w'/\Good P Post last o w' t'
theorem Ends.of{P:bR}{Post:Value->World->Prop}{N:Nat}{m m':Machine}{T T':Trace}(h:runNT P N m T=(.next m',T'))(k:Ends P Post m' T'):Ends P Post m T:=by
 obtain⟨N',last,o,w',t',e1,e2,e3,e4⟩:=k;refine⟨N+N',last,o,w',t',?_,?_,e3,e4⟩
 ·rw[Nat.add_assoc,runNT_add,h];exact e1
 ·rw[runN_add,<- runNT_fst P N m T,h];exact e2
theorem wH.ends{P:bR}{Post:Value->World->Prop}{σ:Gh}{h δ:Nat}{g:aQ}{w:World}(R:wH P Post σ h δ g w):
  ∀ (w₁:World) (gs:Array aQ) (sl:Option (Nat×Nat)) (T:Trace) (q:Nat->Nat),Sm w w₁->Fr P σ (λ_=>False) h δ T gs w₁ q->gs[h]? =some g->Ends P Post (crowd gs w₁ sl) T:=by
 induction R with
 |@own σ h δ g w g' w' es hs h1 h2 h3 ih=>
  intro w₁ gs sl T q hw C hg;obtain⟨N,vH,d,d',YV,UO,T1,q1,t1,t2,t3,t4,C1⟩:=C.picked (sl:=sl) hg hs;have nV:=hw.at d';have dI:h<vH.size:=(gQ.1 t4).1;obtain⟨C2,Rw⟩:=C1.own (a:=g) (a':=g' (w₁.at d')) (fn:=g.frame.fn) (pos:=g.frame.place) dI (h2 _ nV);exact Ends.of (runNT_succ_of t1 (t2.trans (runT_crowd_go (P:=P) (sl:=UO) t4 (h1 _ nV)))) (ih _ nV _ _ UO _ q1 (Sm.refl _) C2 Rw)
 |@hire σ h g a' child w s m es hs h1 h2 hd lE mQ h3 ih=>
  intro w₁ gs sl T q hw C hg;obtain⟨N,vH,d,d',YV,UO,T1,q1,t1,t2,t3,t4,C1⟩:=C.picked (sl:=sl) hg hs;have nV:=hw.at d';obtain⟨xf,ops,q2,r1,r2,C2⟩:=C1.hire (sl:=UO) t4 (h1 _ nV) (h2 _ nV) hd (lE.sm nV) mQ;exact Ends.of (runNT_succ_of t1 (t2.trans r1)) (ih _ xf UO _ q2 nV C2 r2)
 |@give σ h g a₂ w j c kk k m s sH v z z' es hs hj hk lN h1 h2 hd hc lE mQ h3 ih=>
  intro w₁ gs sl T q hw C hg;obtain⟨N,vH,d,YV,T1,q1,r1,⟨r,hr,r2⟩,C1⟩:=C.give (sl:=sl) hj hk lN hg hs (λd=>h1 _ (hw.at d)) (λd=>h2 _ (hw.at d)) hd (by rw[hw.hp];exact hc) (lE.sm hw) mQ;exact Ends.of r1 (ih r hr _ vH YV _ q1 ((hw.at d).setChan _ _ _ _ _ _ _) C1 r2)
 |@shut σ g a' w L G c k N0 Fin hs hc Cu JJ JA nd len hL lN ok hb e1 e2 yn G1 hm h3 ih=>
  intro w₁ gs sl T q hw C hg;obtain⟨N,vH,w',YV,T1,q1,YW,r1,r2,r3,C1,hG⟩:=C.shut (sl:=sl) (Fin:=Fin) hg hs (by rw[hw.hp];exact hc) (λd=>Cu _ (hw.at d)) JJ JA nd len hL lN ok (by rw[hw.hp];exact hb) e1 e2 yn G1 hm;have KU:=hw.setChan c 0 #[] true k k false;have YR:WG G (w.setChan c 0 #[] true k k false) (lX 0 0) (sJ 0) w':=⟨by rw[hG.hp,KU.hp],by rw[hG.os,KU.os],by rw[hG.out,KU.out],by rw[<- KU.hp];exact hG.b0⟩;exact Ends.of r1 (ih YW w' r3 YR w' vH YV _ q1 (Sm.refl _) C1 r2)
 |@qA σ h δ g w Uz gD xc h3 ih=>
  intro w₁ gs sl T q hw C hg;refine ih w₁ gs sl T q hw ?_ hg;refine⟨C.cnt,C.idle,C.xd,C.jh,C.hole,C.wf,C.there,C.chans,C.mem,λi s l e hl hs=>?_,C.above,C.hear,C.deaf,C.px.qA gD λl h1 h2=>by rw[hw.hp];exact xc l h1 h2⟩;by_cases h0:σ.sh l
  ·exact C.uB i s l e hl h0
  ·obtain⟨a,rfl,hb⟩:=xc l hs h0;obtain⟨p,hp,ep⟩:=hl;obtain rfl:=Loc.cell.inj ep;have:=Jy (C.mem i s e p hp);rw[hw.hp]at this;omega
 |@done σ g w v hs h1 hn hp=>
  intro w₁ gs sl T q hw C hg;have hL:Leavers P T gs q:=⟨λi x hi hx=>by have:=C.idle i x ak (λz=>z) hx;rw[hn i]at this;exact this.2,C.above⟩
  have hP:Past σ.sh w₁.heap.size T:=C.px.toPast C.deaf λi hl=>by unfold Gh.lo at hl;rw[hn i]at hl;cases hl
  exact beside_ends (D:=λ_ _ _=>False) (Post:=Post) (sl:=sl) (n:=0) (λ_ _ _ h=>h.elim) hg hL hP (λw₂ h₂=>by obtain⟨d,rfl⟩:=h₂;exact⟨hs,v,#[],h1 _ (hw.at d),λe he=>by simp at he,hp _ (hw.at d)⟩)
theorem Wd(P:bR)(g:aQ)(w:World)(bot:Nat):Fr P {n:=1,aU:=λ_=>none,sh:=λ_=>False,bot:=bot} (λ_=>False) 0 0 #[] #[g] w (λ_=>0):=by
 refine⟨rfl,λi x hi _ hx=>?_,λ_ _ z=>z.elim,λz=>z,rfl,λ_ _ e=>(by cases e),λ_ _ e=>(by cases e),λ_ _ _ _ e=>(by cases e),λ_ _ e=>(by cases e),λ_ _ _ e=>(by cases e),λ_ _=>rfl,λi _ hl=>?_,rfl,?_⟩
 ·have:i<1:=by simpa using(gQ.1 hx).1
  omega
 ·cases hl
 ·have h:=VY;refine⟨h.clean,λi a ha=>by simp[touchAt,Trace.act?]at ha,λi a ha=>by simp[touchAt,Trace.act?]at ha,λi a ha=>by simp[touchAt,Trace.act?]at ha,λi ad ha=>by simp[Trace.act?]at ha,by simp⟩
theorem wH.whole{P:bR}{Post:Value->World->Prop}{g:aQ}{w:World}{bot:Nat}(R:wH P Post {n:=1,aU:=λ_=>none,sh:=λ_=>False,bot:=bot} 0 0 g w):Ends P Post (solo g w) #[]:=by rw[solo_eq_crowd];exact R.ends w #[g] none #[] _ (Sm.refl w) (Wd P g w bot) rfl
end
section
open Go.Conc
open Go.ConcR (deafBehind_cons deafBehind_one)
structure j9 where
 rd:Nat->aR->Nat->Bool
 sh:aR->Nat->Bool
 bot:Nat:=0
def Obj.quiet:Obj->Bool
 |.cells .. =>false
 |.chan .. =>false
 |_=>true
def fP:Value->Bool
 |.agg _=>false
 |.tuple _=>false
 |_=>true
def tD(H:Array Obj)(r:Nat):Option (aR×Nat):=
 match H[r]? with
 |some (.cells c elem _)=>some (elem,c.size)
 |_=>none
def xL(H:Array Obj)(a:Addr):Bool:=
 match H[a.block]? with
 |some (.cells _ _ (lo,hi))=>lo<=a.off&&a.off<hi
 |_=>false
def kF(B:j9)(H:Array Obj):Mark->Prop
 |.acquire a|.releaseMerge a|.read a=>∃ c ty,H[a.block]? =some (.cells c ty (0,0))
 |.release a=>∃ c ty,H[a.block]? =some (.cells c ty (0,0))/\B.sh ty a.off=false
 |.write a=>∃ c ty,H[a.block]? =some (.cells c ty (0,0))/\B.rd a.block ty a.off=false
 |_=>True
def n0:Mark->Nat->Nat
 |.disable,d=>d+1
 |.enable,d=>d-1
 |_,d=>d
def dC(P:bR)(B:j9){α:Type}:Sem α->Array Obj->Nat->(α->Array Obj->Nat->Prop)->Prop
 |.pure a,H,d,Q=>Q a H d
 |.load m a k,H,d,Q=>∃ c ty v,(∃ fr,H[a.block]? =some (.cells c ty fr))/\a.spot=none/\c[a.off]? =some v/\(m=.plain->a.block<B.bot\/B.sh ty a.off=false)/\dC P B (k v) H d Q
 |.store m a v k,H,d,Q=>fP v=true/\∃ c ty,H[a.block]? =some (.cells c ty (0,0))/\a.spot=none/\a.off<c.size/\B.rd a.block ty a.off=false/\(m=.plain->B.sh ty a.off=false)/\
   dC P B k (H.setIfInBounds a.block (.cells (c.setIfInBounds a.off v) ty (0,0))) d Q
 |.new o k,H,d,Q=>dC P B (k H.size) (H.push o) d Q
 |.shape r k,H,d,Q=>dC P B (k (tD H r)) H d Q
 |.freeze _ _ _,_,_,_=>False
 |.frozen a k,H,d,Q=>dC P B (k (xL H a)) H d Q
 |.getObj r k,H,d,Q=>∃ o,H[r]? =some o/\Obj.quiet o=true/\dC P B (k o) H d Q
 |.setObj r o k,H,d,Q=>∃ o₀,H[r]? =some o₀/\Obj.quiet o₀=true/\Obj.quiet o=true/\dC P B k (H.setIfInBounds r o) d Q
 |.choose q k,H,d,Q=>if q.forced then dC P B (k 0) H d Q else∀ n,dC P B (k (q.cut n)) H d Q
 |.sys _ _,_,_,_=>False
 |.program k,H,d,Q=>dC P B (k P) H d Q
 |.mark m k,H,d,Q=>kF B H m/\dC P B k H (n0 m d) Q
 |.halt _,_,_,_=>False
section
variable{P:bR}{B:j9}{α β:Type}
theorem oD{s:Sem α}{H:Array Obj}{d:Nat}{Q Q':α->Array Obj->Nat->Prop}(hQ:∀ a H d,Q a H d->Q' a H d)(h:dC P B s H d Q):dC P B s H d Q':=by
 induction s generalizing H d with
 |pure a=>exact hQ _ _ _ h
 |load m a k ih=>obtain⟨c,ty,v,h1,h2,h3,h4,h5⟩:=h;exact⟨c,ty,v,h1,h2,h3,h4,ih _ h5⟩
 |store m a v k ih=>obtain⟨h0,c,ty,h1,h2,h3,h4,h5,h6⟩:=h;exact⟨h0,c,ty,h1,h2,h3,h4,h5,ih h6⟩
 |new o k ih=>exact ih _ h
 |shape r k ih=>exact ih _ h
 |freeze a n k ih=>exact h.elim
 |frozen a k ih=>exact ih _ h
 |getObj r k ih=>obtain⟨o,h1,h2,h3⟩:=h;exact⟨o,h1,h2,ih _ h3⟩
 |setObj r o k ih=>obtain⟨o₀,h1,h2,M8,h3⟩:=h;exact⟨o₀,h1,h2,M8,ih h3⟩
 |choose q k ih=>
  simp only[dC]at h⊢;split
  ·rename_i e;rw[aK e]at h;exact ih _ h
  ·rename_i e;rw[aq e]at h;exact λn=>ih _ (h n)
 |sys c k ih=>exact h.elim
 |program k ih=>exact ih _ h
 |mark m k ih=>exact⟨h.1,ih h.2⟩
 |halt x=>exact h.elim
theorem OE{s:Sem α}{f:α->Sem β}{H:Array Obj}{d:Nat}{Q:β->Array Obj->Nat->Prop}(h:dC P B s H d λa H d=>dC P B (f a) H d Q):dC P B (s.bind f) H d Q:=by
 induction s generalizing H d with
 |pure a=>exact h
 |load m a k ih=>obtain⟨c,ty,v,h1,h2,h3,h4,h5⟩:=h;exact⟨c,ty,v,h1,h2,h3,h4,ih _ h5⟩
 |store m a v k ih=>obtain⟨h0,c,ty,h1,h2,h3,h4,h5,h6⟩:=h;exact⟨h0,c,ty,h1,h2,h3,h4,h5,ih h6⟩
 |new o k ih=>exact ih _ h
 |shape r k ih=>exact ih _ h
 |freeze a n k ih=>exact h.elim
 |frozen a k ih=>exact ih _ h
 |getObj r k ih=>obtain⟨o,h1,h2,h3⟩:=h;exact⟨o,h1,h2,ih _ h3⟩
 |setObj r o k ih=>obtain⟨o₀,h1,h2,M8,h3⟩:=h;exact⟨o₀,h1,h2,M8,ih h3⟩
 |choose q k ih=>
  simp only[dC,Sem.bind]at h⊢;split
  ·rename_i e;rw[aK e]at h;exact ih _ h
  ·rename_i e;rw[aq e]at h;exact λn=>ih _ (h n)
 |sys c k ih=>exact h.elim
 |program k ih=>exact ih _ h
 |mark m k ih=>exact⟨h.1,ih h.2⟩
 |halt x=>exact h.elim
theorem ah{s:Sem α}{f:α->Sem β}{H:Array Obj}{d:Nat}{Q:β->Array Obj->Nat->Prop}(h:dC P B s H d λa H d=>dC P B (f a) H d Q):dC P B (s >>= f) H d Q:=OE h
def Ak(B:j9)(H:Array Obj)(e:Event):Prop:=
 match e.loc with
 |.cell a=>a.spot=none/\∃ c ty,(∃ fr,H[a.block]? =some (.cells c ty fr))/\(e.write=true->B.rd a.block ty a.off=false)/\(e.sync=false->a.block<B.bot\/B.sh ty a.off=false)
 |.obj r=>r<H.size/\e.sync=false
 |.mark m=>kF B H m/\e.sync=true
 |_=>False
structure fQ(B:j9)(H H':Array Obj):Prop where
 size:H.size<=H'.size
 chans:∀ (r:Nat) (o:Obj),H[r]? =some o->o.isChan=true->H'[r]? =some o
 cells:∀ (b:Nat) (c:Array Value) (ty:aR) (fr:Nat×Nat),H[b]? =some (.cells c ty fr)->∃ c',H'[b]? =some (.cells c' ty fr)/\∀ j,B.rd b ty j=true->c'[j]? =c[j]?
theorem fQ.refl(H:Array Obj):fQ B H H:=⟨fI _,λ_ _ h _=>h,λ_ c _ _ h=>⟨c,h,λ_ _=>rfl⟩⟩
theorem fQ.trans{H H' H'':Array Obj}(h:fQ B H H')(k:fQ B H' H''):fQ B H H'':=
 ⟨Hf h.size k.size,λr o e i=>k.chans r o (h.chans r o e i) i,λb c ty fr e=>by obtain⟨c',e1,e2⟩:=h.cells b c ty fr e;obtain⟨c'',e3,e4⟩:=k.cells b c' ty fr e1;exact⟨c'',e3,λj hj=>(e4 j hj).trans (e2 j hj)⟩⟩
theorem EG{H H':Array Obj}(h:fQ B H H'){m:Mark}(k:kF B H m):kF B H' m:=by
 have go:∀ {b:Nat} {c:Array Value} {ty:aR},H[b]? =some (.cells c ty (0,0))->∃ c',H'[b]? =some (.cells c' ty (0,0)):=λe=>by obtain⟨c',e1,_⟩:=h.cells _ _ _ _ e;exact⟨c',e1⟩
 cases m<;>simp only[kF]at k⊢
 ·obtain⟨c,ty,e⟩:=k;obtain⟨c',e'⟩:=go e;exact⟨c',ty,e'⟩
 ·obtain⟨c,ty,e,x⟩:=k;obtain⟨c',e'⟩:=go e;exact⟨c',ty,e',x⟩
 ·obtain⟨c,ty,e⟩:=k;obtain⟨c',e'⟩:=go e;exact⟨c',ty,e'⟩
 ·obtain⟨c,ty,e⟩:=k;obtain⟨c',e'⟩:=go e;exact⟨c',ty,e'⟩
 ·obtain⟨c,ty,e,x⟩:=k;obtain⟨c',e'⟩:=go e;exact⟨c',ty,e',x⟩
theorem Cv{w:World}{a:Addr}{c:Array Value}{ty:aR}{fz:Nat×Nat}{v:Value}(h1:w.heap[a.block]? =some (.cells c ty fz))(h2:a.spot=none)(h3:c[a.off]? =some v):w.cell? a=some v:=by unfold World.cell?;rw[h1];simp[h2,h3]
theorem modify_eq{H:Array Obj}{b:Nat}{o:Obj}(f:Obj->Obj)(h:H[b]? =some o):H.modify b f=H.setIfInBounds b (f o):=by
 apply se;intro i;have dI:=(gQ.1 h).1;by_cases e:i=b
 ·subst e;rw[j4 dI,RY];simp[h]
 ·rw[gC (i3 e),RY];simp[i3 e]
theorem Hk{w:World}{a:Addr}{c:Array Value}{ty:aR}{fz:Nat×Nat}{v:Value}(h1:w.heap[a.block]? =some (.cells c ty fz))(h2:a.spot=none):
  w.setCell a v={w with heap:=w.heap.setIfInBounds a.block (.cells (c.setIfInBounds a.off v) ty fz)}:=by
 unfold World.setCell;rw[modify_eq _ h1];simp[h2]
theorem KV{w:World}{a:Addr}{c:Array Value}{ty:aR}(h1:w.heap[a.block]? =some (.cells c ty (0,0))):w.frozen? a=false:=by unfold World.frozen?;rw[h1];simp
theorem fQ.store{H:Array Obj}{b off:Nat}{c:Array Value}{ty:aR}{v:Value}(h:H[b]? =some (.cells c ty (0,0)))(hb:B.rd b ty off=false):fQ B H (H.setIfInBounds b (.cells (c.setIfInBounds off v) ty (0,0))):=by
 have dI:=(gQ.1 h).1;refine⟨by simp,λr o e i=>?_,λb' c' UR fr' e=>?_⟩
 ·have:b≠r:=λz=>by subst z;rw[h]at e;cases e;cases i
  rw[gC this];exact e
 ·by_cases z:b=b'
  ·subst z;rw[h]at e;cases e;refine⟨_,j4 dI,λj hj=>?_⟩;have:off≠j:=λz=>by subst z;rw[hb]at hj;cases hj
   rw[gC this]
  ·exact⟨c',by rw[gC z];exact e,λ_ _=>rfl⟩
theorem fQ.setObj{H:Array Obj}{r:Nat}{o₀ o:Obj}(h:H[r]? =some o₀)(hq:Obj.quiet o₀=true):fQ B H (H.setIfInBounds r o):=by
 refine⟨by simp,λr' o' e i=>?_,λb' c' UR fr' e=>?_⟩
 ·have:r≠r':=λz=>by subst z;rw[h]at e;cases e;cases o₀<;>simp_all [Obj.quiet,Obj.isChan]
  rw[gC this];exact e
 ·have:r≠b':=λz=>by subst z;rw[h]at e;cases e;cases hq
  exact⟨c',by rw[gC this];exact e,λ_ _=>rfl⟩
theorem fQ.push(H:Array Obj)(o:Obj):fQ B H (H.push o):=by
 have go:∀ {b:Nat} {x:Obj},H[b]? =some x->(H.push o)[b]? =some x:=λ{b x} e=>by have:=(gQ.1 e).1;rw[VP this];rw[<- e,D2 this]
 exact⟨by simp,λr o' e _=>go e,λb c ty fr e=>⟨c,go e,λ_ _=>rfl⟩⟩
theorem qE{X:Type}(a b:Array X)(x:X):a.push x++b=a++(#[x]++b):=by apply Array.ext';simp
theorem A5{H:Array Obj}{a:Addr}{wr sy:Bool}(h2:a.spot=none){c:Array Value}{ty:aR}{fr:Nat×Nat}(h:H[a.block]? =some (.cells c ty fr))(h3:wr=true->B.rd a.block ty a.off=false)(h4:sy=false->a.block<B.bot\/B.sh ty a.off=false):Ak B H ⟨.cell a,wr,sy⟩:=⟨h2,c,ty,⟨fr,h⟩,h3,h4⟩
theorem fE(d:Nat)(a b:Array Event):deafBehind d (a++b)=deafBehind (deafBehind d a) b:=by
 obtain⟨a⟩:=a;obtain⟨b⟩:=b;simp only[List.append_toArray]
 induction a generalizing d with
 |nil=>simp[deafBehind]
 |cons e l ih=>rw[iT,deafBehind_cons,deafBehind_cons d e l,ih]
theorem xh(d:Nat)(m:Mark):deafBehind d #[⟨.mark m,false,true⟩]=n0 m d:=by cases m<;>simp[deafBehind,n0]
theorem deafBehind_nil(d:Nat):deafBehind d #[]=d:=by simp[deafBehind]
theorem oE{s:Sem α}:∀ {H:Array Obj} {d:Nat} {Q:α->Array Obj->Nat->Prop} {w:World} (vI:Array Event),w.heap=H->dC P B s H d Q->
  ∃ a w' es d',s.runT P w vI=(.ok a w',vI++es)/\w'.os=w.os/\w'.output=w.output/\fQ B H w'.heap/\(∀ e∈es,Ak B w'.heap e)/\deafBehind d es=d'/\Q a w'.heap d':=by
 induction s with
 |pure a=>intro H d Q w vI hw h;subst hw;exact⟨a,w,#[],d,by simp[Sem.runT],rfl,rfl,fQ.refl _,by simp,deafBehind_nil _,h⟩
 |load m a k ih=>
  intro H d Q w vI hw h;obtain⟨c,ty,v,⟨fr,h1⟩,h2,h3,h4,h5⟩:=h;subst hw;obtain⟨x,w',es,d',r1,r2,r3,r4,r5,r6,r7⟩:=ih v (vI.push ⟨.cell a,false,m== .atomic⟩) rfl h5;refine⟨x,w',#[⟨.cell a,false,m== .atomic⟩]++es,d',?_,r2,r3,r4,?_,?_,r7⟩
  ·simp only[Sem.runT,Cv h1 h2 h3];rw[r1,qE]
  ·intro e he;rcases VO.1 he with he|he
   ·simp only[pc,dN]at he;subst he;obtain⟨c',e1,_⟩:=r4.cells _ _ _ _ h1;exact A5 h2 e1 (λz=>by cases z) (λz=>h4 (by cases m<;>first|rfl|cases z))
   ·exact r5 e he
  ·rw[fE,deafBehind_one (by simp) (by simp)];exact r6
 |store m a v k ih=>
  intro H d Q w vI hw h;obtain⟨h0,c,ty,h1,h2,h3,h4,h5,h6⟩:=h;subst hw;obtain⟨x,w',es,d',r1,r2,r3,r4,r5,r6,r7⟩:=ih (w:=w.setCell a v) (vI.push ⟨.cell a,true,m== .atomic⟩) (by rw[Hk h1 h2]) h6;have dt:=fQ.store (B:=B) (off:=a.off) (v:=v) h1 h4;refine⟨x,w',#[⟨.cell a,true,m== .atomic⟩]++es,d',?_,r2,r3,dt.trans r4,?_,?_,r7⟩
  ·have hc:=Cv (w:=w) h1 h2 (D2 h3);have hf:=KV (w:=w) (a:=a) h1;cases v<;>first|(simp only[Sem.runT,hc,hf,gR,eY];rw[r1,qE];done)|(simp[fP]at h0)
  ·intro e he;rcases VO.1 he with he|he
   ·simp only[pc,dN]at he;subst he;obtain⟨c',e1,_⟩:=(dt.trans r4).cells _ _ _ _ h1;exact A5 h2 e1 (λ_=>h4) (λz=>.inr (h5 (by cases m<;>first|rfl|cases z)))
   ·exact r5 e he
  ·rw[fE,deafBehind_one (by simp) (by simp)];exact r6
 |new o k ih=>
  intro H d Q w vI hw h;subst hw;obtain⟨x,w',es,d',r1,r2,r3,r4,r5,r6,r7⟩:=ih w.heap.size (w:={w with heap:=w.heap.push o}) vI rfl h;exact⟨x,w',es,d',by simp only[Sem.runT];exact r1,r2,r3,(fQ.push _ o).trans r4,r5,r6,r7⟩
 |shape r k ih=>
  intro H d Q w vI hw h;subst hw;obtain⟨x,w',es,d',r1,r2⟩:=ih (tD w.heap r) vI rfl h;exact⟨x,w',es,d',by simp only[Sem.runT];exact r1,r2⟩
 |freeze a n k ih=>intro H d Q w vI hw h;exact h.elim
 |frozen a k ih=>
  intro H d Q w vI hw h;subst hw;obtain⟨x,w',es,d',r1,r2⟩:=ih (xL w.heap a) vI rfl h;exact⟨x,w',es,d',by simp only[Sem.runT];exact r1,r2⟩
 |getObj r k ih=>
  intro H d Q w vI hw h;obtain⟨o,h1,h2,h3⟩:=h;subst hw;obtain⟨x,w',es,d',r1,r2,r3,r4,r5,r6,r7⟩:=ih o (vI.push ⟨.obj r,false,o.isChan⟩) rfl h3;have nX:o.isChan=false:=by cases o<;>simp_all [Obj.quiet,Obj.isChan]
  refine⟨x,w',#[⟨.obj r,false,o.isChan⟩]++es,d',?_,r2,r3,r4,?_,?_,r7⟩
  ·simp only[Sem.runT,h1];cases o<;>first|(simp only[r1,qE];done)|(simp[Obj.quiet]at h2)
  ·intro e he;rcases VO.1 he with he|he
   ·simp only[pc,dN]at he;subst he;exact⟨Nv (gQ.1 h1).1 r4.size,nX⟩
   ·exact r5 e he
  ·rw[fE,deafBehind_one (by simp) (by simp)];exact r6
 |setObj r o k ih=>
  intro H d Q w vI hw h;obtain⟨o₀,h1,h2,M8,h3⟩:=h;subst hw;obtain⟨x,w',es,d',r1,r2,r3,r4,r5,r6,r7⟩:=ih (w:={w with heap:=w.heap.setIfInBounds r o}) (vI.push ⟨.obj r,true,o.isChan⟩) rfl h3;have nX:o.isChan=false:=by cases o<;>simp_all [Obj.quiet,Obj.isChan]
  have dt:=fQ.setObj (B:=B) (o:=o) h1 h2;refine⟨x,w',#[⟨.obj r,true,o.isChan⟩]++es,d',?_,r2,r3,dt.trans r4,?_,?_,r7⟩
  ·simp only[Sem.runT,h1];cases o₀<;>first|(rw[<- qE];exact r1)|(simp[Obj.quiet]at h2)
  ·intro e he;rcases VO.1 he with he|he
   ·simp only[pc,dN]at he;subst he;exact⟨Nv (gQ.1 h1).1 (dt.trans r4).size,nX⟩
   ·exact r5 e he
  ·rw[fE,deafBehind_one (by simp) (by simp)];exact r6
 |choose q k ih=>
  intro H d Q w vI hw h;subst hw;simp only[dC]at h;by_cases e:q.forced=true
  ·rw[aK e]at h;obtain⟨x,w',es,d',r1,r2⟩:=ih 0 vI rfl h;exact⟨x,w',es,d',by simp only[Sem.runT,e,eQ];exact r1,r2⟩
  ·rw[aq e]at h;obtain⟨x,w',es,d',r1,r2⟩:=ih (q.cut (w.tape w.drawn q)) (w:={w with drawn:=w.drawn+1}) vI rfl (h _);exact⟨x,w',es,d',by simp only[Sem.runT,e];exact r1,r2⟩
 |sys c k ih=>intro H d Q w vI hw h;exact h.elim
 |program k ih=>
  intro H d Q w vI hw h;subst hw;obtain⟨x,w',es,d',r1,r2⟩:=ih P vI rfl h;exact⟨x,w',es,d',by simp only[Sem.runT];exact r1,r2⟩
 |mark m k ih=>
  intro H d Q w vI hw h;subst hw;obtain⟨x,w',es,d',r1,r2,r3,r4,r5,r6,r7⟩:=ih (vI.push ⟨.mark m,false,true⟩) rfl h.2;refine⟨x,w',#[⟨.mark m,false,true⟩]++es,d',?_,r2,r3,r4,?_,?_,r7⟩
  ·simp only[Sem.runT];rw[r1,qE]
  ·intro e he;rcases VO.1 he with he|he
   ·simp only[pc,dN]at he;subst he;exact⟨EG r4 h.1,rfl⟩
   ·exact r5 e he
  ·rw[fE,xh];exact r6
 |halt x=>intro H d Q w vI hw h;exact h.elim
end
end
section
open Go.Conc
def tm(n:Nat)(e:Nat->Value):Array Value:=Array.ofFn λi:Fin n=>e i
def put(e:Nat->Value)(d:Nat)(v:Value):Nat->Value:=λi=>if i=d then v else e i
def di(e:Nat->Value)(d:Option Nat)(v:Value):Nat->Value:=match d with|some d=>put e d v|none=>e
def ev(n:Nat)(e:Nat->Value):cU->Value
 |.tmp t=>if t<n then e t else undef
 |.const v=>v
 |.global g=>.pointer (some ⟨g,0,none⟩)
 |.func f=>.func (.func f) #[] #[]
def yp(args:Array Value):Nat->Value:=λi=>args.getD i undef
theorem yq(n:Nat)(e:Nat->Value)(t:Nat):(tm n e)[t]? =if t<n then some (e t)else none:=by unfold tm;by_cases h:t<n<;>simp[h]
theorem pe(n:Nat)(e:Nat->Value)(t:Nat):(tm n e).getD t undef=if t<n then e t else undef:=by
 have:(tm n e).getD t undef=((tm n e)[t]?).getD undef:=by simp[Array.getD_eq_getD_getElem?]
 rw[this,yq];by_cases h:t<n<;>simp[h]
theorem OG(n:Nat)(e:Nat->Value)(d:Nat)(v:Value):(tm n e).setIfInBounds d v=tm n (put e d v):=by
 apply se;intro i;rw[yq];by_cases h:i=d
 ·subst h;by_cases h2:i<n
  ·rw[j4 (by simpa[tm]using h2)];simp[put,h2]
  ·simp[tm,h2]
 ·rw[gC (i3 h),yq];simp[put,h]
theorem Hl(args:Array Value)(n:Nat)(h:args.size<=n):args++Array.replicate (n-args.size) undef=tm n (yp args):=by
 apply se;intro i;rw[yq,VQ];by_cases h1:i<args.size
 ·have:i<n:=Nv h1 h;simp[h1,this,yp,Array.getD]
 ·by_cases h2:i<n
  ·have:i-args.size<n-args.size:=ak;simp[h1,h2,this,yp,Array.getD]
  ·have:¬ i-args.size<n-args.size:=ak;simp[h1,h2,this]
inductive Kd where
 |pR|oF
def Kd.k:Kd->CallKind
 |.pR=>.normal
 |.oF=>.deferred
theorem Kd.early(kd:Kd):(kd.k==CallKind.early)=false:=by cases kd<;>rfl
def aV(fn:bM)(kd:Kd)(n:Nat)(e:Nat->Value)(ds:List dW)(todo:List Item):Frame:={fn,tmps:=tm n e,todo,defers:=ds,mode:=.run,kind:=kd.k,roundOf:=none}
def gr(fn:bM)(kd:Kd)(n:Nat)(e:Nat->Value)(ds:List dW)(todo:List Item)(cs:List Frame):aQ:={frame:=aV fn kd n e ds todo,callers:=cs,status:=.running,dying:=none}
def qe(fn:bM)(kd:Kd)(n:Nat)(e:Nat->Value)(ds:List dW)(todo:List Item):Frame:={aV fn kd n e ds todo with mode:=.returning}
def qF(fn:bM)(kd:Kd)(n:Nat)(e:Nat->Value)(ds:List dW)(todo:List Item)(cs:List Frame):aQ:={frame:=qe fn kd n e ds todo,callers:=cs,status:=.running,dying:=none}
def e8(c:Frame)(cs:List Frame)(v:Value):aQ:={frame:=c.finish v,callers:=cs,status:=.running,dying:=none}
def wI(c:Frame)(cs:List Frame):aQ:={frame:=c,callers:=cs,status:=.running,dying:=none}
def iL(P:bR)(f:bM)(args:Array Value)(kd:Kd)(cs:List Frame):aQ:={frame:=Frame.enter P f args kd.k,callers:=cs,status:=.running,dying:=none}
theorem uF(fn:bM)(kd:Kd)(n:Nat)(e:Nat->Value)(ds:List dW)(todo:List Item):(aV fn kd n e ds todo).eval=ev n e:=by
 funext x
 cases x<;>simp only[Frame.eval,ev,aV];exact pe n e _
structure ab(P:bR)(ao:Bool)(B:j9)(R:Nat->aQ->Array Obj->Prop):Prop where
 step:∀ d g H,g.status=.running->(∀ w:World,w.heap=H->∃ g' w' es,stepG P ao g w=.go g' w' es/\w'.os=w.os/\w'.output=w.output/\fQ B H w'.heap/\(∀ e∈es,Ak B w'.heap e)/\R (deafBehind d es) g' w'.heap)->R d g H
section
variable{P:bR}{ao:Bool}{B:j9}{R:Nat->aQ->Array Obj->Prop}{d:Nat}{H:Array Obj}
variable{fn:bM}{kd:Kd}{n:Nat}{e:Nat->Value}{ds:List dW}{k:List Item}{cs:List Frame}
theorem ab.still(C:ab P ao B R){g g':aQ}(hs:g.status=.running)(h:∀ w,stepG P ao g w=.go g' w #[])(hR:R d g' H):R d g H:=
 C.step d g H hs λw hw=>⟨g',w,#[],h w,rfl,rfl,hw▸fQ.refl _,by simp,by rw[deafBehind_nil,hw];exact hR⟩
theorem ab.skip(C:ab P ao B R)(h:R d (gr fn kd n e ds k cs) H):R d (gr fn kd n e ds (.code .skip::k) cs) H:=
 C.still rfl (λw=>by simp[gr,aV,stepG,stepG.exec]) h
theorem ab.label(C:ab P ao B R){l:Nat}(h:R d (gr fn kd n e ds k cs) H):R d (gr fn kd n e ds (.code (.label l)::k) cs) H:=
 C.still rfl (λw=>by simp[gr,aV,stepG,stepG.exec]) h
theorem ab.inBlock(C:ab P ao B R){id:Nat}(h:R d (gr fn kd n e ds k cs) H):R d (gr fn kd n e ds (.inBlock id::k) cs) H:=
 C.still rfl (λw=>by simp[gr,aV,stepG,stepG.exec]) h
theorem ab.inScope(C:ab P ao B R){c:Code}(h:R d (gr fn kd n e ds k cs) H):R d (gr fn kd n e ds (.inScope c::k) cs) H:=
 C.still rfl (λw=>by simp[gr,aV,stepG,stepG.exec]) h
theorem ab.seq(C:ab P ao B R){x y:Code}(h:R d (gr fn kd n e ds (.code x:: .code y::k) cs) H):R d (gr fn kd n e ds (.code (.seq x y)::k) cs) H:=
 C.still rfl (λw=>by simp[gr,aV,stepG,stepG.exec]) h
theorem ab.block(C:ab P ao B R){id:Nat}{c:Code}(h:R d (gr fn kd n e ds (.code c:: .inBlock id::k) cs) H):R d (gr fn kd n e ds (.code (.block id c)::k) cs) H:=
 C.still rfl (λw=>by simp[gr,aV,stepG,stepG.exec]) h
theorem ab.loop(C:ab P ao B R){c:Code}(h:R d (gr fn kd n e ds (.code c:: .inLoop c::k) cs) H):R d (gr fn kd n e ds (.code (.loop c)::k) cs) H:=
 C.still rfl (λw=>by simp[gr,aV,stepG,stepG.exec]) h
theorem ab.inLoop(C:ab P ao B R){c:Code}(h:R d (gr fn kd n e ds (.code c:: .inLoop c::k) cs) H):R d (gr fn kd n e ds (.inLoop c::k) cs) H:=
 C.still rfl (λw=>by simp[gr,aV,stepG,stepG.exec]) h
theorem ab.scope(C:ab P ao B R){c:Code}(h:R d (gr fn kd n e ds (.code c:: .inScope c::k) cs) H):R d (gr fn kd n e ds (.code (.scope c)::k) cs) H:=
 C.still rfl (λw=>by simp[gr,aV,stepG,stepG.exec]) h
theorem ab.exit(C:ab P ao B R){id:Nat}{k':List Item}(hx:exitTo id k=some k')(h:R d (gr fn kd n e ds k' cs) H):R d (gr fn kd n e ds (.code (.exit id)::k) cs) H:=
 C.still rfl (λw=>by simp[gr,aV,stepG,stepG.exec,hx]) h
theorem ab.cond(C:ab P ao B R){c:cU}{x y:Code}{t:Bool}(hc:ev n e c=.bool t)(h:R d (gr fn kd n e ds (.code (if t then x else y)::k) cs) H):R d (gr fn kd n e ds (.code (.cond c x y)::k) cs) H:=
 C.still rfl (λw=>by have:=uF fn kd n e ds (.code (.cond c x y)::k);simp only[aV]at this;simp[gr,aV,stepG,stepG.exec,this,hc]) h
theorem ab.region(C:ab P ao B R){id:Nat}{ops:Array Oper}(h:R d (gr fn kd n e ds (.inRegion ops (List.range ops.size)::k) cs) H):R d (gr fn kd n e ds (.code (.region id ops false)::k) cs) H:=
 C.still rfl (λw=>by simp[gr,aV,stepG,stepG.exec]) h
theorem ab.KW(C:ab P ao B R){ops:Array Oper}(h:R d (gr fn kd n e ds k cs) H):R d (gr fn kd n e ds (.inRegion ops []::k) cs) H:=
 C.still rfl (λw=>by simp[gr,aV,stepG,stepG.exec]) h
theorem ab.draw(C:ab P ao B R){id:Nat}{ops:Array Oper}(h:∀ t,R d (gr fn kd n e ds (.inRegion ops (Region.schedule (P.follows .mixedOrders) ops t)::k) cs) H):R d (gr fn kd n e ds (.code (.region id ops true)::k) cs) H:=
 C.step d _ H rfl λw hw=>⟨_,{w with drawn:=w.drawn+1},#[],by simp[gr,aV,stepG,stepG.exec,choose,Sem.run,Question.forced,Question.cut];rfl,rfl,rfl,hw▸fQ.refl _,by simp,by rw[deafBehind_nil];show R d _ w.heap;rw[hw];exact h _⟩
theorem ab.ret(C:ab P ao B R)(h:R d (qF fn kd n e ds (.code .ret::k) cs) H):R d (gr fn kd n e ds (.code .ret::k) cs) H:=
 C.still rfl (λw=>by simp[gr,qF,qe,aV,stepG,stepG.exec]) h
theorem ab.fin(C:ab P ao B R)(h:R d (qF fn kd n e ds [] cs) H):R d (gr fn kd n e ds [] cs) H:=
 C.still rfl (λw=>by simp[gr,qF,qe,aV,stepG,stepG.exec]) h
theorem oG{es:Array Event}{fn:bM}(h:∀ e∈es,Ak B H e):(∀ e∈seen P fn es,Ak B H e)/\deafBehind d (seen P fn es)=deafBehind d es:=by
 refine⟨λe he=>h e (mem_seen he),?_⟩;rw[seen_def];have key:∀ (quiet:bM->Bool) (l:List Event) (q:Bool) (kept:Array Event),(∀ e∈l,Ak B H e)->deafBehind d (l.foldl (seenStep quiet) (q,kept)).2=deafBehind (deafBehind d kept) l.toArray:=by
  intro quiet l
  induction l with
  |nil=>intro q kept _;simp[deafBehind_nil]
  |cons x l ih=>
   intro q kept hl;have hx:=hl x (iI ..);have wE:∀ e∈l,Ak B H e:=λe he=>hl e (gu _ he);rw[ks,Go.ConcR.deafBehind_cons];obtain⟨loc,wr,sy⟩:=x;by_cases hm:∃ f,loc=.mark (.extern f)
   ·obtain⟨f,rfl⟩:=hm;simp only[seenStep];rw[ih _ _ wE,Go.ConcR.deafBehind_one (by simp) (by simp)]
   ·have dt:seenStep quiet (q,kept) ⟨loc,wr,sy⟩=(q,if q&& !sy then kept else kept.push ⟨loc,wr,sy⟩):=by
     unfold seenStep;simp only;split
     ·rename_i f;exact absurd ⟨_,rfl⟩ hm
     ·rfl
    rw[dt,ih _ _ wE];by_cases hq:(q&& !sy)=true
    ·rw[aK hq];have hsy:sy=false:=by revert hq;cases q<;>cases sy<;>simp
     have h1:loc≠ .mark .disable:=λz=>by subst z;simp[Ak,hsy]at hx
     have h2:loc≠ .mark .enable:=λz=>by subst z;simp[Ak,hsy]at hx
     rw[Go.ConcR.deafBehind_one h1 h2]
    ·rw[aq hq];have:kept.push ⟨loc,wr,sy⟩=kept++#[⟨loc,wr,sy⟩]:=by simp
     rw[this,fE]
 have:=key (λf=>(P.funcs[f]?).any (·.norace)) es.toList ((P.funcs[fn]?).any (·.norace)) #[] (λe he=>h e (Ck.1 he));rw[this,deafBehind_nil]
def upon(P:bR)(R:Nat->aQ->Array Obj->Prop)(fn:bM)(kd:Kd)(n:Nat)(e:Nat->Value)(ds:List dW)(ops:Array Oper)(i:Nat)(aa:List Nat)(k:List Item)(cs:List Frame)(dst:Option Nat)(d:Nat)(H:Array Obj):Next->Prop
 |.value v=>R d (gr fn kd n (di e dst v) ds (.inRegion ops aa::k) cs) H
 |.skip=>R d (gr fn kd n (di e dst undef) ds (.inRegion ops aa::k) cs) H
 |.enter f args=>R d (iL P f args .pR (aV fn kd n e ds (.inRegion ops (i::aa)::k)::cs)) H
 |.defer x=>R d (gr fn kd n (di e dst undef) (x::ds) (.inRegion ops aa::k) cs) H
 |_=>False
theorem ct{ops:Array Oper}{i:Nat}{aa:List Nat}{o:Oper}(ho:ops[i]? =some o)(v:Value):(aV fn kd n e ds (.inRegion ops (i::aa)::k)).finish v=aV fn kd n (di e o.dst v) ds (.inRegion ops aa::k):=by
 unfold Frame.finish aV;simp only[ho,nU];cases o.dst with
 |none=>rfl
 |some t=>simp only[OG,di]
theorem ab.op(C:ab P ao B R){ops:Array Oper}{i:Nat}{aa:List Nat}{o:Oper}(ho:ops[i]? =some o)(hw:Region.wanted o (yielded ops (tm n e))=true)
  (h:dC P B (execOp (ev n e) o) H d λx H' d'=>upon P R fn kd n e ds ops i aa k cs o.dst d' H' x):R d (gr fn kd n e ds (.inRegion ops (i::aa)::k) cs) H:=by
 refine C.step d _ H rfl λw nV=>?_;obtain⟨x,w',es,d',r1,r2,r3,r4,r5,r6,r7⟩:=oE (w:=w) #[] nV h;have yr:=kd.early;obtain⟨s1,s2⟩:=oG (P:=P) (d:=d) (fn:=fn) r5;rw[r6]at s2;have cx:stepG P ao (gr fn kd n e ds (.inRegion ops (i::aa)::k) cs) w=stepG.apply P true (aV fn kd n e ds (.inRegion ops (i::aa)::k)) cs none (execOp (ev n e) o) w:=by have he:=uF fn kd n e ds (.inRegion ops (i::aa)::k);simp only[aV]at he;simp[gr,aV,stepG,stepG.exec,stepG.oper,Frame.oper?,ho,hw,he]
 simp only[w9,Ab]at r1;rw[cx];cases x<;>first|exact r7.elim|skip
 ·refine⟨_,w',seen P fn es,?_,r2,r3,r4,s1,by rw[s2];exact r7⟩;simp only[stepG.apply,r1,eQ];rw[ct ho];simp[aV,yr,GStep.after,gr]
 ·refine⟨_,w',seen P fn es,?_,r2,r3,r4,s1,by rw[s2];exact r7⟩;simp only[stepG.apply,r1,eQ];rw[ct ho];simp[aV,yr,GStep.after,gr]
 ·refine⟨_,w',seen P fn es,?_,r2,r3,r4,s1,by rw[s2];exact r7⟩;simp only[stepG.apply,r1,eQ];simp[aV,yr,GStep.after,iL];rfl
 ·refine⟨_,w',seen P fn es,?_,r2,r3,r4,s1,by rw[s2];exact r7⟩;rename_i x;have hf:=ct (fn:=fn) (kd:=kd) (n:=n) (e:=e) (ds:=x::ds) (k:=k) (aa:=aa) ho undef;simp only[aV]at hf;simp only[stepG.apply,r1,eQ,aV];rw[hf];simp[aV,yr,GStep.after,gr]
theorem ab.We(C:ab P ao B R){ops:Array Oper}{i:Nat}{aa:List Nat}{o:Oper}(ho:ops[i]? =some o)(hw:Region.wanted o (yielded ops (tm n e))=false)
  (h:R d (gr fn kd n (di e o.dst undef) ds (.inRegion ops aa::k) cs) H):R d (gr fn kd n e ds (.inRegion ops (i::aa)::k) cs) H:=by
 refine C.still rfl (λw=>?_) h;have hf:=ct (fn:=fn) (kd:=kd) (n:=n) (e:=e) (ds:=ds) (k:=k) (aa:=aa) ho undef;simp only[aV]at hf;simp only[gr,aV,stepG,stepG.exec,ho,lJ,kt,hw,gR,eY,hf]
theorem mG{f:bM}{fu:Func}{c:Code}{args:Array Value}(hf:P.funcs[f]? =some fu)(hb:fu.body=some c)(hn:args.size<=fu.ntmps):iL P f args kd cs=gr f kd fu.ntmps (yp args) [] [.code c] cs:=by unfold iL gr Frame.enter aV;simp only[hf,lJ,kt,nU,hb,Hl _ _ hn]
theorem ab.back(C:ab P ao B R){todo:List Item}{fu:Func}{c:Frame}(hf:P.funcs[fn]? =some fu)(h:dC P B (results fu (tm n e)) H d λv H' d'=>R d' (e8 c cs v) H'):R d (qF fn .pR n e [] todo (c::cs)) H:=by refine C.step d _ H rfl λw nV=>?_;obtain⟨x,w',es,d',r1,r2,r3,r4,r5,r6,r7⟩:=oE (w:=w) #[] nV h;obtain⟨s1,s2⟩:=oG (P:=P) (d:=d) (fn:=fn) r5;rw[r6]at s2;refine⟨_,w',seen P fn es,?_,r2,r3,r4,s1,by rw[s2];exact r7⟩;simp only[w9,Ab]at r1;simp only[qF,qe,aV,stepG,unwind,hf,r1,doReturn,Kd.k];simp[GStep.after,e8]
theorem ab.Cx(C:ab P ao B R){todo:List Item}{fu:Func}{c:Frame}(hm:c.mode=.returning)(hf:P.funcs[fn]? =some fu)(h:dC P B (results fu (tm n e)) H d λv H' d'=>R d' (wI c cs) H'):R d (qF fn .oF n e [] todo (c::cs)) H:=by refine C.step d _ H rfl λw nV=>?_;obtain⟨x,w',es,d',r1,r2,r3,r4,r5,r6,r7⟩:=oE (w:=w) #[] nV h;obtain⟨s1,s2⟩:=oG (P:=P) (d:=d) (fn:=fn) r5;rw[r6]at s2;refine⟨_,w',seen P fn es,?_,r2,r3,r4,s1,by rw[s2];exact r7⟩;simp only[w9,Ab]at r1;simp only[qF,qe,aV,stepG,unwind,hf,r1,doReturn,hm,Kd.k];simp[GStep.after,wI]
theorem ab.Sh(C:ab P ao B R){todo:List Item}{x:dW}{f:bM}{args:Array Value}(hx:x.target=.fn (.func f) #[]\/∃ cap,x.target=.fn (.func f) cap)
  (h:dC P B (invoke x.target x.args) H d λy H' d'=>∃ f args,y=.enter f args/\R d' (iL P f args .oF (qe fn kd n e ds todo::cs)) H'):R d (qF fn kd n e (x::ds) todo cs) H:=by
 refine C.step d _ H rfl λw nV=>?_;obtain⟨y,w',es,d',r1,r2,r3,r4,r5,r6,f',uG,rfl,r7⟩:=oE (w:=w) #[] nV h;obtain⟨s1,s2⟩:=oG (P:=P) (d:=d) (fn:=fn) r5;rw[r6]at s2;refine⟨_,w',seen P fn es,?_,r2,r3,r4,s1,by rw[s2];exact r7⟩;simp only[w9,Ab]at r1;obtain⟨tg,ar⟩:=x;have:∃ cap,tg=.fn (.func f) cap:=hx.elim (λz=>⟨_,z⟩) id;obtain⟨cap,rfl⟩:=this;simp only[qF,qe,aV,stepG,unwind,callDeferred,r1];simp[GStep.after,iL,Kd.k]
end
end
section
open Go.Conc
abbrev HL:=Nat->Option Obj
abbrev HP:=HL->Prop
def hp(H:Array Obj):HL:=λb=>H[b]?
def Sub(h h':HL):Prop:=∀ b o,h b=some o->h' b=some o
def less(h h1:HL):HL:=λb=>if(h1 b).isSome then none else h b
def Sat:List HP->HL->Prop
 |[],_=>True
 |A::As,h=>∃ h1,A h1/\Sub h1 h/\Sat As (less h h1)
def one(b:Nat)(o:Obj):HL:=λi=>if i=b then some o else none
def bX(b:Nat)(o:Obj):HP:=λh=>h=one b o
def a9(I:HL):HP:=λh=>h=I
def all(l:List HP):HP:=Sat l
theorem Sub.refl(h:HL):Sub h h:=λ_ _ x=>x
theorem Sub.trans{a b c:HL}(h:Sub a b)(k:Sub b c):Sub a c:=λi o x=>k i o (h i o x)
theorem mR{h h1:HL}:Sub (less h h1) h:=λb o x=>by unfold less at x;split at x<;>simp_all
theorem A6{h h' h1:HL}(s:Sub h h'):Sub (less h h1) (less h' h1):=λb o x=>by
 unfold less at x⊢;split at x
 ·cases x
 ·rename_i z;rw[aq z];exact s _ _ x
theorem Sat.mono{As:List HP}:∀ {h h':HL},Sub h h'->Sat As h->Sat As h':=by
 induction As with
 |nil=>exact λ_ _=>trivial
 |cons A As ih=>
  rintro h h' s ⟨h1,a,s1,r⟩;exact⟨h1,a,s1.trans s,ih (A6 s) r⟩
theorem OH{h h1 h2:HL}(s1:Sub h1 h)(s2:Sub h2 (less h h1)):Sub h1 (less h h2):=λb o x=>by
 unfold less;cases e:h2 b with
 |none=>simp;exact s1 _ _ x
 |some o'=>have:=s2 _ _ e;unfold less at this;rw[x]at this;simp at this
theorem KX(h h1 h2:HL):less (less h h1) h2=less (less h h2) h1:=by funext b;unfold less;cases h1 b<;>cases h2 b<;>rfl
theorem Sat.swap{A B:HP}{As:List HP}{h:HL}(s:Sat (A::B::As) h):Sat (B::A::As) h:=by obtain⟨h1,a,s1,h2,b,s2,r⟩:=s;exact⟨h2,b,s2.trans mR,h1,a,OH s1 s2,by rw[KX];exact r⟩
theorem Sat.perm{As Bs:List HP}(p:As.Perm Bs):∀ {h:HL},Sat As h->Sat Bs h:=by
 induction p with
 |nil=>exact id
 |cons x _ ih=>rintro h ⟨h1,a,s1,r⟩;exact⟨h1,a,s1,ih r⟩
 |swap x y l=>exact λs=>Sat.swap s
 |trans _ _ ih1 D7=>exact λs=>D7 (ih1 s)
theorem Sat.drop{A:HP}{As:List HP}{h:HL}(s:Sat (A::As) h):Sat As h:=by obtain⟨h1,a,s1,r⟩:=s;exact r.mono mR
theorem Sat.imp{A B:HP}{As:List HP}{h:HL}(f:∀ h,A h->B h)(s:Sat (A::As) h):Sat (B::As) h:=by obtain⟨h1,a,s1,r⟩:=s;exact⟨h1,f _ a,s1,r⟩
theorem Sat.ex{X:Type}{A:X->HP}{As:List HP}{h:HL}(s:Sat ((λh=>∃ x,A x h)::As) h):∃ x,Sat (A x::As) h:=by obtain⟨h1,⟨x,a⟩,s1,r⟩:=s;exact⟨x,h1,a,s1,r⟩
theorem Sat.pure{p:Prop}{A:HP}{As:List HP}{h:HL}(s:Sat ((λh=>p/\A h)::As) h):p/\Sat (A::As) h:=by obtain⟨h1,⟨x,a⟩,s1,r⟩:=s;exact⟨x,h1,a,s1,r⟩
theorem Hm{h h1 h2:HL}(s:Sub h2 h1):less (less h h2) (less h1 h2)=less h h1:=by
 funext b
 unfold less;cases e2:h2 b with
 |none=>simp
 |some o=>rw[s _ _ e2];simp
theorem Sat.flat{l As:List HP}:∀ {h:HL},Sat (all l::As) h->Sat (l++As) h:=by
 induction l with
 |nil=>rintro h ⟨h1,a,s1,r⟩;exact r.mono mR
 |cons B l ih=>
  rintro h ⟨h1,⟨h2,b,s2,r2⟩,s1,r⟩;refine⟨h2,b,s2.trans s1,ih ⟨less h1 h2,r2,A6 s1,?_⟩⟩;rw[Hm s2];exact r
def G2(h1 h2:HL):HL:=λb=>(h1 b).or (h2 b)
theorem Sat.fR{l As:List HP}:∀ {h:HL},Sat (l++As) h->Sat (all l::As) h:=by
 induction l with
 |nil=>intro h s;exact⟨λ_=>none,trivial,λ_ _ x=>(by cases x),(by
   have:less h (λ_=>none)=h:=by funext b;simp[less]
   rw[this];exact s)⟩
 |cons B l ih=>
  rintro h ⟨h2,b,s2,r⟩;obtain⟨h1,a,s1,r1⟩:=ih r;have hc:Sub h2 (G2 h2 h1):=λi o x=>by unfold G2;rw[x];rfl
  have hl:less (G2 h2 h1) h2=h1:=by
   funext i
   unfold less G2;cases e:h2 i with
   |none=>simp
   |some o=>
    simp;cases e':h1 i with
    |none=>rfl
    |some o'=>have:=s1 _ _ e';unfold less at this;rw[e]at this;simp at this
  refine⟨G2 h2 h1,⟨h2,b,hc,by rw[hl];exact a⟩,λi o x=>?_,?_⟩
  ·unfold G2 at x;cases e:h2 i with
   |none=>rw[e]at x;exact mR _ _ (s1 _ _ (by simpa using x))
   |some o'=>rw[e]at x;simp at x;subst x;exact s2 _ _ e
  ·have:less h (G2 h2 h1)=less (less h h2) h1:=by funext i;unfold less G2;cases h2 i<;>cases h1 i<;>rfl
   rw[this];exact r1
theorem Sat.under{A:HP}{As Bs:List HP}{h:HL}(f:∀ h,Sat As h->Sat Bs h)(s:Sat (A::As) h):Sat (A::Bs) h:=by obtain⟨h1,a,s1,r⟩:=s;exact⟨h1,a,s1,f _ r⟩
theorem Sat.get{b:Nat}{o:Obj}{As:List HP}{h:HL}(s:Sat (bX b o::As) h):h b=some o:=by obtain⟨h1,rfl,s1,r⟩:=s;exact s1 b o (by simp[one])
theorem Sat.pf{I:HL}{As:List HP}{h:HL}(s:Sat (a9 I::As) h){b:Nat}{o:Obj}(e:I b=some o):h b=some o:=by obtain⟨h1,rfl,s1,r⟩:=s;exact s1 b o e
theorem Hn{H:Array Obj}{o:Obj}{b:Nat}(h:b≠H.size):hp (H.push o) b=hp H b:=by
 unfold hp;rcases oq b H.size with h'|h'
 ·rw[VP h',D2 h']
 ·have:H.size<b:=ak;have h1:(H.push o).size<=b:=by rw[KI];omega
  rw[Hd h1,Hd h']
theorem Cy{H:Array Obj}{o:Obj}:hp (H.push o) H.size=some o:=by unfold hp;simp
theorem Si{H:Array Obj}{b:Nat}(h:H.size<=b):hp H b=none:=by unfold hp;exact Hd h
theorem Sat.push{As:List HP}{H:Array Obj}(o:Obj)(s:Sat As (hp H)):Sat (bX H.size o::As) (hp (H.push o)):=by
 refine⟨one H.size o,rfl,λb x e=>?_,s.mono λb x e=>?_⟩
 ·unfold one at e;split at e
  ·rename_i z;subst z;cases e;exact Cy
  ·cases e
 ·have hb:b≠H.size:=λz=>by subst z;rw[Si (fI _)]at e;cases e
  unfold less one;rw[aq hb];simp;rw[Hn hb];exact e
theorem Sat.set{b:Nat}{o o':Obj}{As:List HP}{H:Array Obj}(s:Sat (bX b o::As) (hp H)):Sat (bX b o'::As) (hp (H.setIfInBounds b o')):=by
 have hb:=s.get;have dI:b<H.size:=(gQ.1 hb).1;obtain⟨h1,rfl,s1,r⟩:=s;have hs:hp (H.setIfInBounds b o') b=some o':=by unfold hp;exact j4 dI
 refine⟨one b o',rfl,λi x e=>?_,?_⟩
 ·unfold one at e;split at e
  ·rename_i z;subst z;cases e;exact hs
  ·cases e
 ·have:less (hp (H.setIfInBounds b o')) (one b o')=less (hp H) (one b o):=by
   funext i
   unfold less one;by_cases z:i=b
   ·simp[z]
   ·simp only[aq z,KJ];unfold hp;rw[gC (i3 z)]
  rw[this];exact r
theorem Sat.freeze{b:Nat}{o:Obj}{I:HL}{As:List HP}{h:HL}(s:Sat (bX b o::a9 I::As) h):Sub I (G2 I (one b o))/\Sat (a9 (G2 I (one b o))::As) h:=by
 obtain⟨h1,rfl,s1,h2,rfl,s2,r⟩:=s;have hn:h2 b=none:=by
  cases e:h2 b with
  |none=>rfl
  |some x=>have:=s2 _ _ e;unfold less one at this;simp at this
 refine⟨λi x e=>by unfold G2;rw[e];rfl,G2 h2 (one b o),rfl,λi x e=>?_,?_⟩
 ·unfold G2 at e;cases e2:h2 i with
  |some y=>rw[e2]at e;simp at e;subst e;exact mR _ _ (s2 _ _ e2)
  |none=>rw[e2]at e;simp at e;exact s1 _ _ e
 ·have:less h (G2 h2 (one b o))=less (less h (one b o)) h2:=by funext i;unfold less G2;cases h2 i<;>cases(one b o) i<;>rfl
  rw[this];exact r
inductive Has(b:Nat)(o:Obj):List HP->Prop
 |head {As:List HP}:Has b o (bX b o::As)
 |tail {A:HP} {As:List HP}:Has b o As->Has b o (A::As)
inductive qG(b:Nat)(o o':Obj):List HP->List HP->Prop
 |head {As:List HP}:qG b o o' (bX b o::As) (bX b o'::As)
 |tail {A:HP} {As aO:List HP}:qG b o o' As aO->qG b o o' (A::As) (A::aO)
theorem Has.get{b:Nat}{o:Obj}{As:List HP}(x:Has b o As):∀ {h:HL},Sat As h->h b=some o:=by
 induction x with
 |head=>exact λs=>s.get
 |tail _ ih=>exact λs=>ih s.drop
def Kn(As:List HP)(b:Nat)(o:Obj):Prop:=∀ h,Sat As h->h b=some o
def Ext(As lr:List HP):Prop:=∀ h,Sat As h->Sat lr h
inductive Ho(W:List HP):List HP->List HP->Prop
 |refl {As:List HP}:Ho W As As
 |cons {X:HP} {As:List HP}:Ho W (X::As) As
 |of {aO As:List HP}:Ext aO W->Ho W aO As
theorem Has.kn{b:Nat}{o:Obj}{As:List HP}(x:Has b o As):Kn As b o:=λ_ s=>x.get s
theorem Ext.kn{b:Nat}{o:Obj}{As lr:List HP}(e:Ext As lr)(x:Has b o lr):Kn As b o:=λ_ s=>x.get (e _ s)
theorem Ho.ext{W As aO:List HP}(x:Ho W aO As)(e:Ext As W):Ext aO W:=by
 cases x with
 |refl=>exact e
 |cons=>exact λh s=>e h s.drop
 |of h=>exact h
theorem qG.has{b:Nat}{o o':Obj}{As aO:List HP}(x:qG b o o' As aO):Has b o As:=by
 induction x with
 |head=>exact .head
 |tail _ ih=>exact .tail ih
theorem qG.perm{b:Nat}{o o':Obj}{As aO:List HP}(x:qG b o o' As aO):∃ L,As.Perm (bX b o::L)/\aO.Perm (bX b o'::L):=by
 induction x with
 |@head As=>exact⟨As,.refl _,.refl _⟩
 |@tail A As aO _ ih=>
  obtain⟨L,h1,h2⟩:=ih;exact⟨A::L,(h1.cons A).trans (.swap _ _ _),(h2.cons A).trans (.swap _ _ _)⟩
theorem qG.set{b:Nat}{o o':Obj}{As aO:List HP}(x:qG b o o' As aO){H:Array Obj}(s:Sat As (hp H)):Sat aO (hp (H.setIfInBounds b o')):=by obtain⟨L,h1,h2⟩:=x.perm;exact(s.perm h1).set.perm h2.symm
def At(R:Nat->aQ->Array Obj->Prop)(d:Nat)(As:List HP)(g:aQ):Prop:=∀ H,Sat As (hp H)->R d g H
variable{R:Nat->aQ->Array Obj->Prop}{d:Nat}{As Bs:List HP}{g:aQ}
theorem At.perm(p:As.Perm Bs)(h:At R d Bs g):At R d As g:=λH s=>h H (s.perm p)
theorem At.freeze{b:Nat}{o:Obj}{I:HL}(h:∀ I',Sub I I'->I' b=some o->At R d (a9 I'::As) g):At R d (bX b o::a9 I::As) g:=λH s=>
 have z:=s.freeze
 h _ z.1 (by
  obtain⟨h1,rfl,s1,h2,rfl,s2,r⟩:=s;unfold G2;cases e:h2 b with
  |none=>simp[one]
  |some x=>have:=s2 _ _ e;unfold less one at this;simp at this) H z.2
theorem Has.au{b:Nat}{o:Obj}{L:List HP}(h:Has b o L:=by(repeat(first|with_reducible exact Has.head|with_reducible apply Has.tail));done):Has b o L:=h
def Sj:List Oper->Nat->Option Oper
 |[],_=>none
 |o::_,0=>some o
 |_::l,i+1=>Sj l i
def aZ(ops:Array Oper)(i:Nat):Option Oper:=Sj ops.toList i
theorem JK:∀ (l:List Oper) (i:Nat),l[i]? =Sj l i
 |[],_=>rfl
 |o::_,0=>rfl
 |_::l,i+1=>by rw[RZ];exact JK l i
theorem dw(ops:Array Oper)(i:Nat):ops[i]? =aZ ops i:=by unfold aZ;rw[<- JK];simp
def cL:Code->Code|.seq a _=>a|c=>c
def cR:Code->Code|.seq _ b=>b|c=>c
def cT:Code->Code|.cond _ a _=>a|c=>c
def cE:Code->Code|.cond _ _ b=>b|c=>c
def cC:Code->cU|.cond x _ _=>x|_=>.tmp 0
def cB:Code->Code|.block _ c=>c|.loop c=>c|.scope c=>c|c=>c
def cI:Code->Nat|.block i _=>i|.exit i=>i|.region i _ _=>i|_=>0
def cO:Code->Array Oper|.region _ ops _=>ops|_=>#[]
inductive CK where
 |skip|label|seq|cond|block|loop|scope|exit|region|draw|ret|other
def ck:Code->CK
 |.skip=>.skip|.label _=>.label|.seq .. =>.seq|.cond .. =>.cond|.block .. =>.block|.loop _=>.loop|.scope _=>.scope|.exit _=>.exit
 |.region _ _ false=>.region|.region _ _ true=>.draw|.ret=>.ret|_=>.other
theorem fA{c:Code}{x:CK}(h:ck c=x):match x with
  |.skip=>c=.skip
  |.label=>∃ l,c=.label l
  |.seq=>c=.seq (cL c) (cR c)
  |.cond=>c=.cond (cC c) (cT c) (cE c)
  |.block=>c=.block (cI c) (cB c)
  |.loop=>c=.loop (cB c)
  |.scope=>c=.scope (cB c)
  |.exit=>c=.exit (cI c)
  |.region=>c=.region (cI c) (cO c) false
  |.draw=>c=.region (cI c) (cO c) true
  |.ret=>c=.ret
  |.other=>True:=by
 subst h;cases c<;>first|rfl|exact⟨_,rfl⟩|trivial|skip
 rename_i a b d;cases d<;>rfl
def ctl:Nat->List Item->List Item
 |0,k=>k
 |n+1,k=>match k with
  |.inBlock _::k|.inScope _::k|.inRegion _ []::k=>ctl n k
  |.code c::k=>match ck c with
   |.skip|.label=>ctl n k
   |.seq=>ctl n (.code (cL c):: .code (cR c)::k)
   |.block=>ctl n (.code (cB c):: .inBlock (cI c)::k)
   |.scope=>ctl n (.code (cB c):: .inScope (cB c)::k)
   |.exit=>match exitTo (cI c) k with|some k'=>ctl n k'|none=>.code c::k
   |_=>.code c::k
  |k=>k
def qH(e:Nat->Value):List (Nat×Value)->Nat->Value
 |[]=>e
 |(i,v)::l=>put (qH e l) i v
def jP(e:Nat->Value):List (Nat×Value)->Prop
 |[]=>True
 |(i,v)::l=>e i=v/\jP e l
theorem j0{e:Nat->Value}:∀ {l:List (Nat×Value)},jP e l->qH e l=e
 |[],_=>rfl
 |(i,v)::l,h=>by
  unfold qH;rw[j0 h.2]
  funext j
  unfold put;by_cases z:j=i
  ·subst z;simp[h.1]
  ·simp[z]
def Hp(ops:Array Oper)(n:Nat)(e:Nat->Value)(j:Nat):Option Bool:=
 match aZ ops j with
 |some o=>match o.dst with
  |some t=>if t<n then(match e t with|.bool b=>some b|_=>none)else none
  |none=>none
 |none=>none
def aN(ops:Array Oper)(n:Nat)(e:Nat->Value):Option (Nat×Bool)->Bool
 |none=>true
 |some (j,w)=>Hp ops n e j==some w
theorem eh(ops:Array Oper)(n:Nat)(e:Nat->Value)(o:Oper):Region.wanted o (yielded ops (tm n e))=aN ops n e o.guard:=by
 unfold Region.wanted aN;cases o.guard with
 |none=>rfl
 |some p=>
  obtain⟨j,w⟩:=p;simp only;have:yielded ops (tm n e) j=Hp ops n e j:=by
   unfold yielded Hp;rw[dw];cases aZ ops j with
   |none=>rfl
   |some o'=>
    simp only[nU];cases o'.dst with
    |none=>rfl
    |some t=>
     simp only[nU,yq];by_cases ht:t<n
     ·simp only[aK ht];generalize e t=v;cases v<;>rfl
     ·simp[ht]
  rw[this]
variable{P:bR}{ao:Bool}{B:j9}
variable{fn:bM}{kd:Kd}{n:Nat}{e:Nat->Value}{ds:List dW}{k:List Item}{cs:List Frame}
theorem ab.fZ(C:ab P ao B R):∀ (m:Nat) (k:List Item),At R d As (gr fn kd n e ds (ctl m k) cs)->At R d As (gr fn kd n e ds k cs)
 |0,_,h=>h
 |m+1,k,h=>by
  intro H s;unfold ctl at h;split at h
  ·exact C.inBlock (C.fZ m _ h H s)
  ·exact C.inScope (C.fZ m _ h H s)
  ·exact C.KW (C.fZ m _ h H s)
  ·rename_i c k';split at h
   ·rename_i hc;have:=fA hc;simp only at this;rw[this];exact C.skip (C.fZ m _ h H s)
   ·rename_i hc;obtain⟨l,e⟩:=fA hc;rw[e];exact C.label (C.fZ m _ h H s)
   ·rename_i hc;have:=fA hc;simp only at this;rw[this];exact C.seq (C.fZ m _ h H s)
   ·rename_i hc;have:=fA hc;simp only at this;rw[this];exact C.block (C.fZ m _ h H s)
   ·rename_i hc;have:=fA hc;simp only at this;rw[this];exact C.scope (C.fZ m _ h H s)
   ·rename_i hc;split at h
    ·rename_i k'' hx;have:=fA hc;simp only at this;rw[this];exact C.exit hx (C.fZ m _ h H s)
    ·exact h H s
   ·exact h H s
  ·exact h H s
theorem ab.go(C:ab P ao B R){k':List Item}(h:At R d As (gr fn kd n e ds k' cs))(hk:ctl 60 k=k':=by conv=>{lhs;whnf}):At R d As (gr fn kd n e ds k cs):=C.fZ 60 k (hk▸h)
theorem ab.cT'(C:ab P ao B R){c:Code}(h:At R d As (gr fn kd n e ds (.code (cT c)::k) cs))(hc:ck c=.cond:=by rfl)(hb:ev n e (cC c)=.bool true:=by rfl):At R d As (gr fn kd n e ds (.code c::k) cs):=λH s=>by have z:=fA hc;simp only at z;rw[z];exact C.cond hb (h H s)
theorem ab.cF'(C:ab P ao B R){c:Code}(h:At R d As (gr fn kd n e ds (.code (cE c)::k) cs))(hc:ck c=.cond:=by rfl)(hb:ev n e (cC c)=.bool false:=by rfl):At R d As (gr fn kd n e ds (.code c::k) cs):=λH s=>by have z:=fA hc;simp only at z;rw[z];exact C.cond hb (h H s)
theorem ab.KY(C:ab P ao B R){c:Code}{k':List Item}(h:At R d As (gr fn kd n e ds k' cs))(hc:ck c=.cond:=by rfl)(hb:ev n e (cC c)=.bool true:=by rfl)(hk:ctl 60 (.code (cT c)::k)=k':=by conv=>{lhs;whnf}):At R d As (gr fn kd n e ds (.code c::k) cs):=C.cT' (C.go h hk) hc hb
theorem ab.CA(C:ab P ao B R){c:Code}{k':List Item}(h:At R d As (gr fn kd n e ds k' cs))(hc:ck c=.cond:=by rfl)(hb:ev n e (cC c)=.bool false:=by rfl)(hk:ctl 60 (.code (cE c)::k)=k':=by conv=>{lhs;whnf}):At R d As (gr fn kd n e ds (.code c::k) cs):=C.cF' (C.go h hk) hc hb
theorem ab.rg(C:ab P ao B R){c:Code}(l:List Nat)(h:At R d As (gr fn kd n e ds (.inRegion (cO c) l::k) cs))(hc:ck c=.region:=by rfl)(hl:List.range (cO c).size=l:=by rfl):At R d As (gr fn kd n e ds (.code c::k) cs):=λH s=>by subst hl;have z:=fA hc;simp only at z;rw[z];exact C.region (h H s)
theorem ab.dr(C:ab P ao B R){c:Code}(h:∀ t,At R d As (gr fn kd n e ds (.inRegion (cO c) (Region.schedule (P.follows .mixedOrders) (cO c) t)::k) cs))(hc:ck c=.draw:=by rfl):At R d As (gr fn kd n e ds (.code c::k) cs):=λH s=>by have z:=fA hc;simp only at z;rw[z];exact C.draw λt=>h t H s
theorem ab.lp(C:ab P ao B R){c:Code}(h:At R d As (gr fn kd n e ds (.code (cB c):: .inLoop (cB c)::k) cs))(hc:ck c=.loop:=by rfl):At R d As (gr fn kd n e ds (.code c::k) cs):=λH s=>by have z:=fA hc;simp only at z;rw[z];exact C.loop (h H s)
theorem ab.Wg(C:ab P ao B R){c:Code}(h:At R d As (gr fn kd n e ds (.code c:: .inLoop c::k) cs)):At R d As (gr fn kd n e ds (.inLoop c::k) cs):=λH s=>C.inLoop (h H s)
theorem ab.Z2(C:ab P ao B R){c:Code}{X:Type}(L:X->List (Nat×Value))(I:X->List HP)(Ok:X->Prop)(m:X->Nat)(x0:X)(he:jP e (L x0))(hI:As=I x0)(lE:Ok x0)
  (step:∀ x e,Ok x->(∀ y e',jP e' (L y)->Ok y->m y<m x->At R d (I y) (gr fn kd n e' ds (.inLoop (cB c)::k) cs))->At R d (I x) (gr fn kd n (qH e (L x)) ds (.code (cB c):: .inLoop (cB c)::k) cs))
  (hc:ck c=.loop:=by rfl):At R d As (gr fn kd n e ds (.code c::k) cs):=by
 have key:∀ (N:Nat) (x:X) (e:Nat->Value),m x=N->jP e (L x)->Ok x->At R d (I x) (gr fn kd n e ds (.inLoop (cB c)::k) cs):=by
  intro N
  induction N using Nat.strongRecOn with
  |ind N ih=>
   intro x e hm he lE;refine C.Wg ?_;rw[<- j0 he];exact step x e lE λy e' xj hy dI=>ih (m y) ak y e' rfl xj hy
 refine C.lp ?_ hc;subst hI;rw[<- j0 he];exact step x0 e lE λy e' xj hy dI=>key _ y e' rfl xj hy
def Z3(P:bR)(R:Nat->aQ->Array Obj->Prop)(fn:bM)(kd:Kd)(n:Nat)(e:Nat->Value)(ds:List dW)(ops:Array Oper)(i:Nat)(aa:List Nat)(k:List Item)(cs:List Frame)(dst:Option Nat)(As:List HP)(d:Nat):Next->Prop
 |.value v=>At R d As (gr fn kd n (di e dst v) ds (.inRegion ops aa::k) cs)
 |.skip=>At R d As (gr fn kd n (di e dst undef) ds (.inRegion ops aa::k) cs)
 |.enter f args=>At R d As (iL P f args .pR (aV fn kd n e ds (.inRegion ops (i::aa)::k)::cs))
 |.defer x=>At R d As (gr fn kd n (di e dst undef) (x::ds) (.inRegion ops aa::k) cs)
 |_=>False
variable{ops:Array Oper}{i:Nat}{aa:List Nat}{dst:Option Nat}{t:Nat}{ty:aR}{pos:String}{af:Array Edge}{gd:Option (Nat×Bool)}
theorem ab.gen(C:ab P ao B R){o:Oper}(ho:aZ ops i=some o)(hw:aN ops n e o.guard=true)
  (h:∀ H,Sat As (hp H)->dC P B (execOp (ev n e) o) H d λx H' d'=>∃ aO,Sat aO (hp H')/\Z3 P R fn kd n e ds ops i aa k cs o.dst aO d' x):At R d As (gr fn kd n e ds (.inRegion ops (i::aa)::k) cs):=λH s=>by
 refine C.op (by rw[dw];exact ho) (by rw[eh];exact hw) (oD (λx H' d' q=>?_) (h H s));obtain⟨aO,s',q⟩:=q;cases x<;>first|exact q.elim|exact q H' s'
theorem ab.no(C:ab P ao B R){op:Op}(ho:aZ ops i=some ⟨dst,op,ty,pos,af,gd⟩)(h:At R d As (gr fn kd n (di e dst undef) ds (.inRegion ops aa::k) cs))(hw:aN ops n e gd=false:=by rfl):
  At R d As (gr fn kd n e ds (.inRegion ops (i::aa)::k) cs):=λH s=>C.We (by rw[dw];exact ho) (by rw[eh];exact hw) (h H s)
def Pu(P:bR){α:Type}(s:Sem α)(v:α):Prop:=∀ (B:j9) (H:Array Obj) (d:Nat) (Q:α->Array Obj->Nat->Prop),Q v H d->dC P B s H d Q
theorem Pu.pure{α:Type}(v:α):Pu P (Sem.pure v) v:=λ_ _ _ _ h=>h
theorem Pu.bind{α β:Type}{s:Sem α}{f:α->Sem β}{a:α}{b:β}(h:Pu P s a)(k:Pu P (f a) b):Pu P (s >>= f) b:=λB H d Q q=>ah (h B H d _ (k B H d Q q))
theorem ab.val(C:ab P ao B R){op:Op}{v:Value}(ho:aZ ops i=some ⟨some t,op,ty,pos,af,gd⟩)(hw:aN ops n e gd=true)(hy:Pu P (execOp (ev n e) ⟨some t,op,ty,pos,af,gd⟩) (.value v))
  (h:At R d As (gr fn kd n (put e t v) ds (.inRegion ops aa::k) cs)):At R d As (gr fn kd n e ds (.inRegion ops (i::aa)::k) cs):=
 C.gen ho hw λH s=>hy _ _ _ _ ⟨As,s,h⟩
def uH(kd:Kd)(c:Frame):Prop:=match kd with|.pR=>True|.oF=>c.mode=.returning
def after(kd:Kd)(c:Frame)(cs:List Frame)(v:Value):aQ:=match kd with|.pR=>e8 c cs v|.oF=>wI c cs
def aB(P:bR)(ao:Bool)(B:j9)(f:bM)(args:Array Value)(A:List HP)(Q:Value->List HP->Prop):Prop:=
 ∀ (R:Nat->aQ->Array Obj->Prop),ab P ao B R->∀ (kd:Kd) (d:Nat) (F:List HP) (c:Frame) (cs:List Frame),uH kd c->(∀ v aO,Q v aO->At R d (aO++F) (after kd c cs v))->At R d (A++F) (iL P f args kd (c::cs))
theorem aB.post{f:bM}{args:Array Value}{A:List HP}{Q Q':Value->List HP->Prop}(h:aB P ao B f args A Q)(hq:∀ v aO,Q v aO->Q' v aO):aB P ao B f args A Q':=
 λR C kd d F c cs aJ hr=>h R C kd d F c cs aJ λv aO q=>hr v aO (hq v aO q)
class Body(P:bR)(f:bM)(fu:outParam Func)(c:outParam Code)(n:outParam Nat):Prop where
 func:P.funcs[f]? =some fu
 name:(fu.name== "runtime.NumGoroutine")=false
 body:fu.body=some c
 tmps:fu.ntmps=n
theorem aB.of{f:bM}{fu:Func}{c:Code}{n:Nat}[b:Body P f fu c n]{args:Array Value}{A:List HP}{Q:Value->List HP->Prop}(h:∀ (R:Nat->aQ->Array Obj->Prop),ab P ao B R->∀ (kd:Kd) (d:Nat) (F:List HP) (c':Frame) (cs:List Frame),uH kd c'->(∀ v aO,Q v aO->At R d (aO++F) (after kd c' cs v))->At R d (A++F) (gr f kd n (yp args) [] [.code c] (c'::cs)))(hn:Nat.ble args.size n=true:=by rfl):aB P ao B f args A Q:=by intro R C kd d F c' cs aJ hr;have:=b.tmps;subst this;rw[mG b.func b.body (xa hn)];exact h R C kd d F c' cs aJ hr
theorem nF{f:bM}{fu:Func}{c:Code}{n:Nat}[b:Body P f fu c n](args:Array Value):Pu P (callFunc f args) (.enter f args):=by intro B H d Q q;unfold callFunc;refine ah ?_;show dC P B _ _ _ _;simp only[program,dC,b.func,b.name,b.body];exact q
theorem oH{o:Oper}(ho:aZ ops i=some o)(v:Value):e8 (aV fn kd n e ds (.inRegion ops (i::aa)::k)) cs v=gr fn kd n (di e o.dst v) ds (.inRegion ops aa::k) cs:=by unfold e8 gr;rw[ct (by rw[dw];exact ho)]
theorem ab.cl(C:ab P ao B R){f:bM}{fu:Func}{c:Code}{nf:Nat}[b:Body P f fu c nf]{fo:cU}{args:Array cU}{ga:Array aR}{vl:List Value}{A F:List HP}{Q:Value->List HP->Prop}(hs:aB P ao B f vl.toArray A Q)
  (h:∀ v aO,Q v aO->At R d (aO++F) (gr fn kd n (di e dst v) ds (.inRegion ops aa::k) cs))
  (ho:aZ ops i=some ⟨dst,.call ⟨.value fo,args,ga⟩,ty,pos,af,gd⟩:=by rfl) (hw:aN ops n e gd=true:=by rfl) (hf:ev n e fo=.func (.func f) #[] #[]:=by rfl) (hv:args.toList.map (ev n e)=vl:=by rfl):At R d (A++F) (gr fn kd n e ds (.inRegion ops (i::aa)::k) cs):=by
 refine C.gen ho hw λH s=>?_;unfold execOp;simp only;refine ah ?_;have tC:args.map (ev n e)=vl.toArray:=by rw[<- hv,<- qv,ts]
 simp only[resolve,hf,Deferred.ofValue,tC];refine ah ?_;show dC P B _ _ _ _;simp only[Ab];show dC P B (invoke (.fn (.func f) #[]) vl.toArray) H d _;unfold invoke;simp only[w9];refine nF (P:=P) vl.toArray B H d _ ⟨A++F,s,?_⟩;exact hs R C .pR d F _ cs trivial λv aO q=>by show At R d (aO++F) (e8 _ cs v);rw[oH ho];exact h v aO q
def sj(fu:Func)(n:Nat)(e:Nat->Value):Option Value:=
 match fu.results.toList with
 |[]=>some (.tuple #[])
 |[.tmp t]=>some (if t<n then e t else undef)
 |[.tmp t,.tmp u]=>some (.tuple #[if t<n then e t else undef,if u<n then e u else undef])
 |[.tmp t,.tmp u,.tmp x]=>some (.tuple #[if t<n then e t else undef,if u<n then e u else undef,if x<n then e x else undef])
 |_=>none
theorem ys{fu:Func}{v:Value}(h:sj fu n e=some v):Pu P (results fu (tm n e)) v:=by
 have key:results fu (tm n e)=(pure v:Sem Value):=by
  unfold sj at h;have hl:fu.results=fu.results.toList.toArray:=by simp
  generalize fu.results.toList=l at h hl;split at h<;>first|(cases h;done)|skip
  all_goals(simp only[x6]at h;subst h)
  all_goals simp[results,hl,<- pe, -Array.getD_eq_getD_getElem?]
 rw[key];exact Pu.pure v
theorem ab.home(C:ab P ao B R){fu:Func}{c:Frame}{v:Value}{kR:List Item}(hf:P.funcs[fn]? =some fu)(aJ:uH kd c)(hv:sj fu n e=some v)(h:At R d As (after kd c cs v)):At R d As (qF fn kd n e [] kR (c::cs)):=λH s=>by
 cases kd with
 |pR=>exact C.back hf (ys hv B H d _ (h H s))
 |oF=>exact C.Cx aJ hf (ys hv B H d _ (h H s))
theorem ab.OI(C:ab P ao B R){fu:Func}{cc:Code}{n':Nat}[b:Body P fn fu cc n']{c:Frame}{v:Value}{x:Code}(aJ:uH kd c)(h:At R d As (after kd c cs v))(hv:sj fu n e=some v:=by rfl)(hx:ck x=.ret:=by rfl):At R d As (gr fn kd n e [] (.code x::k) (c::cs)):=λH s=>by have z:=fA hx;simp only at z;subst z;exact C.ret (C.home b.func aJ hv h H s)
theorem ab.Wh(C:ab P ao B R){fu:Func}{cc:Code}{n':Nat}[b:Body P fn fu cc n']{c:Frame}{v:Value}(aJ:uH kd c)(h:At R d As (after kd c cs v))(hv:sj fu n e=some v:=by rfl):At R d As (gr fn kd n e [] [] (c::cs)):=λH s=>C.fin (C.home b.func aJ hv h H s)
end
end Go.Sl
