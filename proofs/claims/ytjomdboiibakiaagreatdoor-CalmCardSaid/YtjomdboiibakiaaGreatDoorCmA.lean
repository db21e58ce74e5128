/-
  Texts that the proof needs, joined: part 1.
-/
import Derived.Test.YtjomdboiibakiaaGreatDoorProg
import Derived.Conc.Token
import Derived.Conc.MarkLaws
import Derived.Conc.JoinTrace
import Derived.Laws.Sem
set_option linter.unusedSimpArgs false
set_option linter.unusedVariables false
set_option maxHeartbeats 4000000
namespace Go.Sl
open Go.Proofs.Tryz
abbrev To:=@Array.mem_append
abbrev Lf:=@Option.map_eq_some_iff
abbrev WN:=@Array.mem_iff_getElem
abbrev CA:=@Array.getElem?_eq_getElem
abbrev qq4:=@Array.getElem?_append_right
abbrev y0:=@Option.some.injEq
abbrev gZ:=@Nat.le_refl
abbrev oG:=@List.mem_toArray
abbrev ga:=@List.mem_cons
abbrev l7:=@List.not_mem_nil
abbrev fO:=@or_false
abbrev bS:=@Option.some.inj
abbrev eM:=@if_true
abbrev fB:=@if_false
abbrev PA:=@Array.mem_of_getElem?
abbrev Bc:=@Nat.lt_or_ge
abbrev FV:=@Array.getElem?_eq_none
abbrev gJ:=@Array.getElem?_eq_some_iff
abbrev gq:=@Array.getElem?_setIfInBounds_ne
abbrev CO:=@Array.getElem?_map
abbrev k7:=@Option.map_some
abbrev jM:=@Array.getElem?_setIfInBounds_self_of_lt
abbrev eK:=@Nat.zero_le
abbrev I5:=@Array.size_setIfInBounds
abbrev tv:=@Option.isSome_iff_exists
abbrev FW:=@Array.append_assoc
abbrev Ly:=@Array.getElem?_push
abbrev ao:=@if_neg
abbrev aK:=@if_pos
abbrev PB:=@beq_eq_false_iff_ne
abbrev iP:=@Ne.symm
abbrev I6:=@Array.size_push
abbrev Lz:=@Nat.eq_zero_or_pos
abbrev re:=@Array.ext_getElem?
abbrev PC:=@Array.getElem?_modify
abbrev I7:=@Option.isSome_none
abbrev ij:=@Bool.false_eq_true
abbrev rh:=@List.nodup_cons
abbrev jc:=@List.length_cons
abbrev Be:=@Nat.le_trans
abbrev wY:=@Prod.mk.inj
abbrev Tp:=@Array.getElem?_push_lt
abbrev iX:=@List.cons_append
abbrev dF:=@List.mem_singleton
abbrev LA:=@Nat.lt_of_lt_of_le
abbrev Tq:=@Array.getElem?_append
abbrev iz:=@List.mem_cons_self
abbrev gb:=@List.mem_cons_of_mem
abbrev kM:=@List.foldl_cons
abbrev Bf:=@Array.mem_toList_iff
abbrev nE:=@Option.bind_some
abbrev vV:=@Array.append_empty
abbrev zf:=@Array.empty_append
abbrev jU:=@Option.getD_some
abbrev PD:=@List.getElem?_cons_succ
abbrev vW:=@Nat.le_of_ble_eq_true
abbrev pP:=@Array.toList_map
abbrev sd:=@Array.toArray_toList
abbrev Tr:=@Array.getElem?_extract
abbrev tw:=@Nat.ne_of_lt
abbrev WO:=@Array.getElem?_setIfInBounds
abbrev mj:=@Nat.zero_add
abbrev PE:=@List.size_toArray
abbrev tA:=@List.length_nil
abbrev PF:=@List.extract_toArray
abbrev PG:=@List.extract_eq_take_drop
abbrev zg:=@List.drop_zero
abbrev Tt:=@List.drop_succ_cons
abbrev wZ:=@List.setIfInBounds_toArray
abbrev vX:=@List.set_cons_succ
abbrev uT:=@List.set_cons_zero
abbrev PH:=@List.toList_toArray
abbrev LB:=@not_true_eq_false
abbrev PI:=@List.mapM_nil
abbrev LC:=@List.mapM_cons
abbrev LD:=@List.flatMap_cons
abbrev jd:=@List.length_append
abbrev pA:=@Nat.add_mul
abbrev I8:=@Nat.zero_mul
abbrev pQ:=@List.append_assoc
abbrev PJ:=@List.getElem_cons_zero
abbrev LF:=@List.getElem?_append_left
abbrev Tu:=@List.getElem?_append_right
abbrev fi:=@List.nil_append
abbrev FX:=@List.getElem?_toArray
abbrev zh:=@List.length_eq_zero_iff
abbrev ik:=@List.length_take
abbrev CP:=@Nat.min_eq_left
abbrev Tv:=@List.set_eq_take_append_cons_drop
abbrev Tw:=@List.set_append_right
abbrev zi:=@List.map_toArray
abbrev iJ:=@List.map_cons
abbrev m1:=@List.map_nil
abbrev PK:=@List.getElem?_cons_zero
abbrev Bg:=@Bool.not_false
abbrev se:=@Nat.mul_le_mul_right
abbrev I9:=@List.mem_flatMap
abbrev tB:=@List.length_drop
abbrev Tx:=@Array.foldl_toList
abbrev Ty:=@Array.toList_zipIdx
abbrev k8:=@List.append_nil
abbrev CR:=@Option.map_none
abbrev w5:=@List.pairwise_iff_getElem
abbrev jk:=@List.getElem?_eq_some_iff
abbrev rF:=@List.mem_map_of_mem
abbrev im:=@List.nodup_append
abbrev LG:=@List.cons.injEq
abbrev CS:=@Prod.mk.injEq
abbrev kG:=@List.getElem?_map
abbrev LH:=@List.ext_getElem?
abbrev zQ:=@List.getElem?_modify
abbrev w6:=@List.getElem?_set
abbrev bH:=@List.mem_map
abbrev eF:=@List.map_append
abbrev bU:=@List.mem_append
abbrev LI:=@List.eraseIdx_cons_succ
abbrev ju:=@List.eraseIdx_sublist
abbrev lN:=@Bool.and_eq_true
abbrev k9:=@List.all_eq_true
abbrev gP:=@List.mem_filter
abbrev CU:=@Bool.or_eq_true
abbrev CW:=@beq_iff_eq
abbrev m6:=@List.any_eq_true
abbrev CX:=@Bool.not_eq_true'
abbrev m7:=@List.mem_range
abbrev o4:=@decide_eq_true_eq
abbrev LJ:=@List.nodup_nil
abbrev LK:=@List.perm_cons_erase
abbrev jw:=@List.mem_append_right
abbrev j0:=@List.mem_append_left
abbrev Hy:=@List.perm_middle
abbrev Hz:=@List.reverse_nil
abbrev e9:=@List.getElem?_eq_getElem
abbrev br:=@List.getElem_mem
abbrev ml:=@List.filter_append
abbrev LL:=@Nat.pos_iff_ne_zero
abbrev LM:=@List.drop_drop
abbrev vA:=@List.take_append_drop
abbrev HA:=@Array.mapM_eq_mapM_toList
abbrev HC:=@map_eq_pure_bind
abbrev fM:=@List.length_set
abbrev w7:=@List.eraseIdx_eq_take_drop_succ
abbrev iR:=@List.drop_eq_getElem_cons
abbrev LN:=@List.perm_append_singleton
abbrev HD:=@Classical.choose_spec
abbrev mo:=@true_and
abbrev CY:=@Nat.le_succ_of_le
abbrev LO:=@Bool.and_false
abbrev RV:=@List.getElem?_take_of_lt
abbrev LP:=@Bool.false_and
abbrev w8:=@List.mem_iff_getElem
abbrev eY:=@List.mem_of_getElem?
abbrev zR:=@Bool.not_true
abbrev fN:=@List.mem_or_eq_of_mem_set
abbrev lO:=@List.set_getElem_self
abbrev CZ:=@Classical.not_not
abbrev lP:=@List.length_singleton
abbrev mq:=@Nat.lt_succ_iff_lt_or_eq
abbrev nV:=@List.getElem?_of_mem
abbrev zS:=@List.find?_cons
abbrev HE:=@List.find?_eq_none
abbrev LQ:=@Option.getD_none
abbrev cV:=@List.length_map
abbrev vB:=@List.getElem?_eq_none
abbrev LR:=@List.find?_append
abbrev vC:=@Function.comp_def
abbrev tC:=@List.map_map
abbrev HF:=@List.filter_sublist
abbrev iq:=@List.take_of_length_le
abbrev LS:=@List.take_append_of_le_length
abbrev zT:=@List.findIdx?_cons
abbrev RX:=@List.exists_mem_of_ne_nil
abbrev LU:=@Classical.byContradiction
abbrev LV:=@List.find?_some
abbrev zU:=@List.mem_of_find?_eq_some
abbrev tD:=@List.filter_cons
abbrev rG:=@Int.le_refl
abbrev C3:=@List.map_take
abbrev LW:=@List.append_inj'
abbrev LX:=@List.singleton_inj
abbrev HH:=@List.pairwise_map
abbrev g5:=@Int.toNat_natCast
abbrev j1:=@List.map_set
abbrev C4:=@List.getElem?_eq_none_iff
abbrev nW:=@Nat.le_succ
abbrev RY:=@List.findIdx?_eq_some_iff_getElem
abbrev RZ:=@List.mem_eraseIdx_iff_getElem?
abbrev jx:=@List.getElem_of_mem
abbrev vD:=@List.getElem_set_self
abbrev C5:=@List.getElem_set_ne
abbrev m8:=@List.length_filter_le
abbrev zV:=@Nat.sub_self
abbrev R0:=@List.eq_of_mem_replicate
abbrev LY:=@List.mem_of_mem_take
abbrev jy:=@decide_eq_false
abbrev g6:=@Bool.eq_false_or_eq_true
abbrev pR:=@List.getElem_map
abbrev gQ:=@List.take_succ_eq_append_getElem
abbrev LZ:=@List.getElem_take
abbrev HI:=@List.take_length
abbrev tF:=@decide_eq_true
abbrev gR:=@Int.eq_ofNat_of_zero_le
abbrev C6:=@Int.natCast_nonneg
abbrev pS:=@List.drop_of_length_le
abbrev gm:=@List.foldl_append
abbrev rH:=@List.foldl_nil
abbrev rI:=@List.isEmpty_iff
abbrev L0:=@List.eq_nil_of_length_eq_zero
abbrev HJ:=@List.drop_set_of_lt
abbrev zW:=@List.cons.inj
abbrev w9:=@and_true
abbrev m9:=@Nat.two_pow_pos
abbrev xa:=@Eq.trans
abbrev C7:=@Nat.lt_of_le_of_lt
abbrev C8:=@List.filter_nil
abbrev C9:=@List.length_eraseIdx
abbrev L3:=@List.reverse_cons
abbrev HK:=@List.getElem_append_right
abbrev zX:=@List.set_set
abbrev L4:=@List.ext_getElem
abbrev Da:=@List.length_replicate
abbrev R1:=@List.perm_append_comm_assoc
abbrev aP:=Goroutine
abbrev aQ:=TypeId
abbrev bL:=Program
abbrev dQ:=Deferred
abbrev cA:=Operand
abbrev bI:=FuncId
section
theorem az{p:Prop}(h:p:=by omega):p:=h
theorem dI{p:Prop}(h:p:=by dsimp only;omega):p:=h
open Go.Conc
structure Px(rd:Nat->Loc->Prop)(lo:Nat->Prop)(sh:Loc->Prop)(B:Nat)(K:Nat->Prop)(t:Trace):Prop where
 clean:∀ said,¬ Race said t
 known:∀ i a,touchAt t i=some a->a.loc.isMemory=true->
  K i\/(a.write=false/\∃ g,t.g? i=some g/\lo g/\rd g a.loc)\/(a.kind=.atomic/\sh a.loc/\¬ t.heard i)
 wrote:∀ i a,touchAt t i=some a->a.write=true->∀ g,lo g->rd g a.loc->Knows t g i
 plain:∀ i a,touchAt t i=some a->sh a.loc->a.kind≠ .plain
 norel:∀ i ad,t.act? i=some (.mark (.release ad))->¬ sh (.cell ad)
 seen:∀ op∈t,op.act.low B
variable{rd:Nat->Loc->Prop}{lo:Nat->Prop}{sh:Loc->Prop}{B B' h:Nat}{K K':Nat->Prop}{t u:Trace}
theorem nX(h:∀ op∈t,op.act.low B)(hB:B<=B')(hu:∀ op∈u,op.act.low B'):∀ op∈t++u,op.act.low B':=
 λop cq=>(To.1 cq).elim (λx=>MemAct.low_mono hB (h op x)) (hu op)
theorem Px.tG(H:Px rd lo sh B K t)(hK:∀ i,K i->K' i){i:Nat}{a:Touch}{x:MemOp}(jV:t[i]? =some x)(iH:x.act.touch?=some a)(hm:a.loc.isMemory=true):
  K' i\/(a.write=false/\∃ g,(t++u).g? i=some g/\lo g/\rd g a.loc)\/(a.kind=.atomic/\sh a.loc/\¬ (t++u).heard i):=by
 have dA:=lt_size_of_getElem? jV;rcases H.known i a (by rw[touchAt_of jV];exact iH) hm with h1|⟨h1,g,hg,hl,hr⟩|⟨h1,h2,h3⟩
 ·exact .inl (hK i h1)
 ·exact .inr (.inl ⟨h1,g,by rw[g?_old dA];exact hg,hl,hr⟩)
 ·exact .inr (.inr ⟨h1,h2,λz=>h3 ((heard_old dA).1 z)⟩)
theorem Px.pT(H:Px rd lo sh B K t)(hu:∀ op∈u,∀ b,op.act.touch?=some b->sh b.loc->b.kind≠ .plain):∀ i a,touchAt (t++u) i=some a->sh a.loc->a.kind≠ .plain:=by
 intro i a ha hs;obtain⟨x,hx,iH⟩:=touch_of ha;rcases getElem?_append_cases hx with⟨hi,jV⟩|⟨_,uO⟩
 ·exact H.plain i a (by rw[touchAt_of jV];exact iH) hs
 ·exact hu x uO a iH hs
theorem Px.xb(H:Px rd lo sh B K t)(hu:∀ op∈u,∀ ad,op.act=.mark (.release ad)->¬ sh (.cell ad)):∀ i ad,(t++u).act? i=some (.mark (.release ad))->¬ sh (.cell ad):=by
 intro i ad ha;obtain⟨x,hx,iH⟩:=Lf.1 ha;rcases getElem?_append_cases hx with⟨hi,jV⟩|⟨_,uO⟩
 ·exact H.norel i ad (by rw[act?_of jV,iH])
 ·exact hu x uO ad iH
theorem Px.own(H:Px rd lo sh B (Knows t h) t)(hu:∀ op∈u,op.g=h)
  (hs:∀ op∈u,∀ b,op.act.touch?=some b->(b.write=true->∀ g,lo g->¬ rd g b.loc)/\(sh b.loc->b.kind≠ .plain))
  (hr:∀ op∈u,∀ ad,op.act=.mark (.release ad)->¬ sh (.cell ad)) (hB:B<=B') (hl:∀ op∈u,op.act.low B'):Px rd lo sh B' (Knows (t++u) h) (t++u):=by
 refine⟨λsaid=>noRace_append (H.clean said) hu λi a ha op cq b hb hc=>?_,λi a ha hm=>?_,λi a ha hw g hg iS=>?_,H.pT λop cq b hb=>(hs op cq b hb).2,H.xb hr,nX H.seen hB hl⟩
 ·rcases H.known i a ha hc.2.1 with hk|⟨hw,g,_,oE,iS⟩|⟨Lg,rJ,_⟩
  ·exact hk
  ·rcases hc.2.2.1 with x|x
   ·rw[hw]at x;cases x
   ·exact absurd (hc.1▸iS) ((hs op cq b hb).1 x g oE)
  ·have hbk:=(hs op cq b hb).2 (hc.1▸rJ);rcases hc.2.2.2 with x|x|⟨_,x,_⟩
   ·rw[Lg]at x;cases x
   ·exact absurd x hbk
   ·rw[Lg]at x;cases x
 ·obtain⟨x,hx,iH⟩:=touch_of ha;rcases getElem?_append_cases hx with⟨_,jV⟩|⟨_,uO⟩
  ·exact H.tG (λi=>Knows.app u) jV iH hm
  ·have:=knows_own hx;rw[hu x uO]at this;exact .inl this
 ·obtain⟨x,hx,iH⟩:=touch_of ha;rcases getElem?_append_cases hx with⟨_,jV⟩|⟨_,uO⟩
  ·exact(H.wrote i a (by rw[touchAt_of jV];exact iH) hw g hg iS).app u
  ·exact absurd iS ((hs x uO a iH).1 hw g hg)
theorem Px.mute(H:Px rd lo sh B K t)(hK:∀ i,K i->K' i)(hn:∀ op∈u,op.act.touch?=none)
  (hr:∀ op∈u,∀ ad,op.act=.mark (.release ad)->¬ sh (.cell ad)) (hB:B<=B') (hl:∀ op∈u,op.act.low B'):Px rd lo sh B' K' (t++u):=by
 refine⟨λsaid=>noRace_appendMute (H.clean said) hn,λi a ha hm=>?_,λi a ha hw g hg iS=>?_,H.pT λop cq b hb=>(by rw[hn op cq]at hb;cases hb),H.xb hr,nX H.seen hB hl⟩
 ·obtain⟨x,hx,iH⟩:=touch_of ha;rcases getElem?_append_cases hx with⟨_,jV⟩|⟨_,uO⟩
  ·exact H.tG hK jV iH hm
  ·rw[hn x uO]at iH;cases iH
 ·obtain⟨x,hx,iH⟩:=touch_of ha;rcases getElem?_append_cases hx with⟨_,jV⟩|⟨_,uO⟩
  ·exact(H.wrote i a (by rw[touchAt_of jV];exact iH) hw g hg iS).app u
  ·rw[hn x uO]at iH;cases iH
theorem Px.reads{g:Nat}(H:Px rd lo sh B K t)(hK:∀ i,K i->K' i)(hL:lo g)(hu:∀ op∈u,op.g=g)(hr:∀ op∈u,∀ b,op.act.touch?=some b->b.write=false/\rd g b.loc/\¬ sh b.loc)
  (zj:∀ op∈u,∀ ad,op.act=.mark (.release ad)->¬ sh (.cell ad)) (hB:B<=B') (hl:∀ op∈u,op.act.low B'):Px rd lo sh B' K' (t++u):=by
 refine⟨λsaid=>noRace_append (H.clean said) hu λi a ha op cq b hb hc=>?_,λi a ha hm=>?_,λi a ha hw g' VZ iS=>?_,H.pT λop cq b hb hs=>absurd hs (hr op cq b hb).2.2,H.xb zj,nX H.seen hB hl⟩
 ·obtain⟨y2,hbS,_⟩:=hr op cq b hb;rcases hc.2.2.1 with x|x
  ·exact H.wrote i a ha x g hL (hc.1▸hbS)
  ·rw[y2]at x;cases x
 ·obtain⟨x,hx,iH⟩:=touch_of ha;rcases getElem?_append_cases hx with⟨_,jV⟩|⟨_,uO⟩
  ·exact H.tG hK jV iH hm
  ·exact .inr (.inl ⟨(hr x uO a iH).1,g,by rw[g?_of hx,hu x uO],hL,(hr x uO a iH).2.1⟩)
 ·obtain⟨x,hx,iH⟩:=touch_of ha;rcases getElem?_append_cases hx with⟨_,jV⟩|⟨_,uO⟩
  ·exact(H.wrote i a (by rw[touchAt_of jV];exact iH) hw g' VZ iS).app u
  ·rw[(hr x uO a iH).1]at hw;cases hw
theorem Px.PL{g:Nat}(H:Px rd lo sh B K t)(hK:∀ i,K i->K' i)(hu:∀ op∈u,op.g=g)(hr:∀ (i:Nat) (op:MemOp),u[i]? =some op->∀ b,op.act.touch?=some b->b.kind=.atomic/\sh b.loc/\¬ (t++u).heard (t.size+i))
  (hsr:∀ g l,lo g->rd g l->¬ sh l) (zj:∀ op∈u,∀ ad,op.act=.mark (.release ad)->¬ sh (.cell ad)) (hB:B<=B') (hl:∀ op∈u,op.act.low B'):Px rd lo sh B' K' (t++u):=by
 have Pb:∀ op∈u,∀ b,op.act.touch?=some b->b.kind=.atomic/\sh b.loc:=λop cq b hb=>by obtain⟨i,hi,rfl⟩:=WN.1 cq;have:=hr i _ (CA hi) b hb;exact⟨this.1,this.2.1⟩
 refine⟨λsaid=>noRace_append (H.clean said) hu λi a ha op cq b hb hc=>?_,λi a ha hm=>?_,λi a ha hw g' VZ iS=>?_,H.pT λop cq b hb _=>(by rw[(Pb op cq b hb).1];simp),H.xb zj,nX H.seen hB hl⟩
 ·obtain⟨FF,Tz⟩:=Pb op cq b hb;have h1:=H.plain i a ha (hc.1▸Tz);rcases hc.2.2.2 with x|x|⟨_,_,x⟩
  ·exact absurd x h1
  ·rw[FF]at x;cases x
  ·rw[FF]at x;cases x
 ·obtain⟨x,hx,iH⟩:=touch_of ha;rcases getElem?_append_cases hx with⟨_,jV⟩|⟨V0,uO⟩
  ·exact H.tG hK jV iH hm
  ·have hi:u[i-t.size]? =some x:=by rw[qq4 V0]at hx;exact hx
   obtain⟨h1,h2,h3⟩:=hr _ x hi a iH;rw[show t.size+(i-t.size)=i by omega]at h3;exact .inr (.inr ⟨h1,h2,h3⟩)
 ·obtain⟨x,hx,iH⟩:=touch_of ha;rcases getElem?_append_cases hx with⟨_,jV⟩|⟨_,uO⟩
  ·exact(H.wrote i a (by rw[touchAt_of jV];exact iH) hw g' VZ iS).app u
  ·exact absurd (Pb x uO a iH).2 (hsr g' _ VZ iS)
theorem Px.reset{Db:Nat->Loc->Prop}{V1:Nat->Prop}(H:Px rd lo sh B K t)(hK:∀ i a g,touchAt t i=some a->a.loc.isMemory=true->a.write=false->t.g? i=some g->lo g->rd g a.loc->K i\/(V1 g/\Db g a.loc)\/(a.kind=.atomic/\sh a.loc/\¬ t.heard i))
  (hw:∀ g l,V1 g->Db g l->(lo g/\rd g l)\/∀ i a,touchAt t i=some a->a.write=true->a.loc=l->Knows t g i):Px Db V1 sh B K t:=by
 refine⟨H.clean,λi a ha hm=>?_,λi a ha Zh g hg iS=>?_,H.plain,H.norel,H.seen⟩
 ·rcases H.known i a ha hm with h1|⟨h1,g,hg,hl,hr⟩|h1
  ·exact .inl h1
  ·rcases hK i a g ha hm h1 hg hl hr with h2|⟨h2,h3⟩|h2
   ·exact .inl h2
   ·exact .inr (.inl ⟨h1,g,hg,h2,h3⟩)
   ·exact .inr (.inr h2)
  ·exact .inr (.inr h1)
 ·rcases hw g _ hg iS with⟨h1,h2⟩|h1
  ·exact H.wrote i a ha Zh g h1 h2
  ·exact h1 i a ha Zh rfl
theorem Px.pU{R2:Loc->Prop}(H:Px rd lo sh B K t)(gu:∀ l,sh l->R2 l)(vY:∀ l,R2 l->¬ sh l->∃ a:Addr,l=.cell a/\B<=a.block):Px rd lo R2 B K t:=by
 refine⟨H.clean,λi a ha hm=>(H.known i a ha hm).imp id λz=>z.imp id λ⟨x,y,z⟩=>⟨x,gu _ y,z⟩,H.wrote,λi a ha hs=>?_,λi ad ha hs=>?_,H.seen⟩
 ·by_cases h0:sh a.loc
  ·exact H.plain i a ha h0
  ·obtain⟨ad,e,hb⟩:=vY _ hs h0;obtain⟨x,hx,iH⟩:=touch_of ha;have hl:=H.seen x (mem_of_getElem? hx);exfalso;cases Dc:x.act with
   |access ev=>
    rw[Dc]at iH hl;simp only[MemAct.touch?,y0]at iH;subst iH;simp only at e;simp only[MemAct.low,e,Loc.low]at hl;omega
   |mark m=>
    rw[Dc]at iH hl;cases m<;>simp only[MemAct.touch?,y0,reduceCtorEq]at iH<;>subst iH<;>simp only[Loc.cell.injEq]at e<;>subst e<;>simp only[MemAct.low]at hl<;>omega
   |_=>rw[Dc]at iH;simp[MemAct.touch?]at iH
 ·by_cases h0:sh (.cell ad)
  ·exact H.norel i ad ha h0
  ·obtain⟨ad',e,hb⟩:=vY _ hs h0;obtain rfl:=Loc.cell.inj e;obtain⟨x,hx,iH⟩:=Lf.1 ha;have hl:=H.seen x (mem_of_getElem? hx);rw[iH]at hl;simp only[MemAct.low]at hl;omega
variable{j:Nat}
theorem Px.give(H:Px rd lo sh B (Knows t h) t)(dh:Deaf t h=0)(dj:Deaf t j=0)(fh:bI)(ph:String)(fj:bI)(pj:String){c:Nat}(k cap:Nat)(hc:c<B):
  Px rd (λg=>lo g/\g≠j) sh B (Knows (t++met h j fh ph fj pj c k cap) j) (t++met h j fh ph fj pj c k cap):=by
 have hn:=met_mute h j fh ph fj pj c k cap;have e0:(t++met h j fh ph fj pj c k cap)[t.size]? =some {g:=h,fn:=fh,pos:=ph,act:=.send c k}:=by simp[met]
 have e3:(t++met h j fh ph fj pj c k cap)[t.size+3]? =some {g:=j,fn:=fj,pos:=pj,act:=.recvDone c k}:=by simp[met]
 have L5:HappensBefore (t++met h j fh ph fj pj c k cap) t.size (t.size+3):=
  Relation.TransGen.single (.inr ⟨.handOver (act?_of e0) (act?_of e3),⟨h,g?_of e0,by rw[deaf_old (gZ _)];exact dh⟩,⟨j,g?_of e3,by rw[deaf_quiet (met_quiet _ _ _ _ _ _ _ _ _ j) 3 (by simp[met])];exact dj⟩⟩)
 have hl:∀ op∈met h j fh ph fj pj c k cap,op.act.low B:=λop cq=>by simp only[met,oG,ga,l7,fO]at cq;rcases cq with rfl|rfl|rfl|rfl<;>exact hc
 have zj:∀ op∈met h j fh ph fj pj c k cap,∀ ad,op.act=.mark (.release ad)->¬ sh (.cell ad):=λop cq ad e=>by simp only[met,oG,ga,l7,fO]at cq;rcases cq with rfl|rfl|rfl|rfl<;>cases e
 refine⟨λsaid=>noRace_appendMute (H.clean said) hn,λi a ha hm=>?_,λi a ha hw g hg iS=>?_,H.pT λop cq b hb=>(by rw[hn op cq]at hb;cases hb),H.xb zj,nX H.seen (gZ _) hl⟩
 ·obtain⟨x,hx,iH⟩:=touch_of ha;rcases getElem?_append_cases hx with⟨hi,jV⟩|⟨_,uO⟩
  ·rcases H.known i a (by rw[touchAt_of jV];exact iH) hm with hk|⟨p,g,hg,hl,hr⟩|⟨p,q,r⟩
   ·exact .inl ⟨t.size+3,_,e3,rfl,.inr ((hk.hb_new (gZ _) e0 rfl).trans L5)⟩
   ·by_cases e:g=j
    ·subst e;have:=knows_own hx;rw[show x.g=g from by have:=g?_of jV;rw[hg]at this;exact(bS this).symm]at this;exact .inl this
    ·exact .inr (.inl ⟨p,g,by rw[g?_old hi];exact hg,⟨hl,e⟩,hr⟩)
   ·exact .inr (.inr ⟨p,q,λz=>r ((heard_old hi).1 z)⟩)
  ·rw[hn x uO]at iH;cases iH
 ·obtain⟨x,hx,iH⟩:=touch_of ha;rcases getElem?_append_cases hx with⟨_,jV⟩|⟨_,uO⟩
  ·exact(H.wrote i a (by rw[touchAt_of jV];exact iH) hw g hg.1 iS).app _
  ·rw[hn x uO]at iH;cases iH
theorem Px.loosen{g₀:Nat}{S:Loc->Prop}{K:Nat->Prop}(H:Px rd lo sh B K t)(y3:¬ lo g₀)(hS:∀ l,S l->l.isMemory=true/\¬ sh l)(hk:∀ i a,touchAt t i=some a->a.write=true->S a.loc->Knows t g₀ i):
  Px (λg l=>if g=g₀ then S l else rd g l) (λg=>lo g\/g=g₀) sh B K t:=by
 refine H.reset (λi a g ha hm hw hg hl hr=>.inr (.inl ⟨.inl hl,?_⟩)) λg l hg hr=>?_
 ·have:g≠g₀:=λe=>y3 (e▸hl);simpa[this]using hr
 ·by_cases e:g=g₀
  ·subst e;simp only[eM]at hr;exact .inr λi a ha hw hl=>hk i a ha hw (hl▸hr)
  ·simp only[e,fB]at hr;rcases hg with hg|hg
   ·exact .inl ⟨hg,hr⟩
   ·exact absurd hg e
theorem Px.writes{K:Nat->Prop}(H:Px rd lo sh B K t){l:Loc}(hm:l.isMemory=true)(hs:¬ sh l){i:Nat}{a:Touch}(ha:touchAt t i=some a)(hw:a.write=true)(hl:a.loc=l):K i:=by
 rcases H.known i a ha (hl▸hm)with h1|⟨h1,_⟩|⟨_,h1,_⟩
 ·exact h1
 ·rw[hw]at h1;cases h1
 ·exact absurd (hl▸h1) hs
theorem Px.hire{c:Nat}{S:Loc->Prop}(H:Px rd lo sh B (Knows t h) t)(dh:Deaf t h=0)(dc:Deaf t c=0)(y3:¬ lo c)(hS:∀ l,S l->l.isMemory=true/\¬ sh l)(fh:bI)(ph:String)(fc:bI):
  Px (λg l=>if g=c then S l else rd g l) (λg=>lo g\/g=c) sh B (Knows (t++#[{g:=h,fn:=fh,pos:=ph,act:=.go c},{g:=c,fn:=fc,pos:=ph,act:=.start}]) h)
   (t++#[{g:=h,fn:=fh,pos:=ph,act:=.go c},{g:=c,fn:=fc,pos:=ph,act:=.start}]):=by
 generalize hu:(#[{g:=h,fn:=fh,pos:=ph,act:=.go c},{g:=c,fn:=fc,pos:=ph,act:=.start}]:Trace)=u;have hn:∀ op∈u,op.act.touch?=none:=by intro op cq;subst hu;simp only[oG,ga,l7,fO]at cq;rcases cq with rfl|rfl<;>rfl
 have hq:∀ g,∀ op∈u,∀ d,deafStep g d op=d:=by intro g op cq d;subst hu;simp only[oG,ga,l7,fO]at cq;rcases cq with rfl|rfl<;>rfl
 have e0:(t++u)[t.size]? =some {g:=h,fn:=fh,pos:=ph,act:=.go c}:=by subst hu;simp
 have e1:(t++u)[t.size+1]? =some {g:=c,fn:=fc,pos:=ph,act:=.start}:=by subst hu;simp
 have L5:HappensBefore (t++u) t.size (t.size+1):=
  Relation.TransGen.single (.inr ⟨.spawn (act?_of e0) (act?_of e1) (g?_of e1),⟨h,g?_of e0,by rw[deaf_old (gZ _)];exact dh⟩,⟨c,g?_of e1,by rw[deaf_quiet (hq c) 1 (by subst hu;simp)];exact dc⟩⟩)
 have hl:∀ op∈u,op.act.low B:=λop cq=>by subst hu;simp only[oG,ga,l7,fO]at cq;rcases cq with rfl|rfl<;>trivial
 have zj:∀ op∈u,∀ ad,op.act=.mark (.release ad)->¬ sh (.cell ad):=λop cq ad e=>by subst hu;simp only[oG,ga,l7,fO]at cq;rcases cq with rfl|rfl<;>cases e
 have H':Px rd lo sh B (Knows (t++u) h) (t++u):=H.mute (λi=>Knows.app u) hn zj (gZ _) hl;refine H'.loosen y3 hS λi a ha hw hSl=>?_;obtain⟨x,hx,iH⟩:=touch_of ha;rcases getElem?_append_cases hx with⟨_,jV⟩|⟨_,uO⟩
 ·have hk:=H.writes (hS _ hSl).1 (hS _ hSl).2 (by rw[touchAt_of jV];exact iH) hw rfl;exact⟨t.size+1,_,e1,rfl,.inr ((hk.hb_new (gZ _) e0 rfl).trans L5)⟩
 ·rw[hn x uO]at iH;cases iH
structure nY(sh:Loc->Prop)(a:Addr)(t:Trace)(g r:Nat):Prop where
 act:t.act? r=some (.mark (.releaseMerge a))
 own:t.g? r=some g
 heard:t.heard r
 after:∀ i x,r<i->t.g? i=some g->touchAt t i=some x->x.kind=.atomic/\sh x.loc/\¬ t.heard i
theorem nY.app{a:Addr}{g r:Nat}{u:Trace}(H:nY sh a t g r)(hu:∀ (i:Nat) (op:MemOp),u[i]? =some op->op.g=g->∀ b,op.act.touch?=some b->b.kind=.atomic/\sh b.loc/\¬ (t++u).heard (t.size+i)):nY sh a (t++u) g r:=by
 have hr:=lt_of_act? H.act;refine⟨by rw[act?_old hr];exact H.act,by rw[g?_old hr];exact H.own,(heard_old hr).2 H.heard,λi x hi hg hx=>?_⟩;obtain⟨op,cq,iH⟩:=touch_of hx;rcases getElem?_append_cases cq with⟨dA,PM⟩|⟨V0,_⟩
 ·obtain⟨h1,h2,h3⟩:=H.after i x hi (by rw[<- g?_old (u:=u) dA];exact hg) (by rw[touchAt_of PM];exact iH);exact⟨h1,h2,λz=>h3 ((heard_old dA).1 z)⟩
 ·have cN:u[i-t.size]? =some op:=by rw[qq4 V0]at cq;exact cq
  have hog:op.g=g:=by rw[g?_of cq]at hg;exact bS hg
  have:=hu _ op cN hog x iH
  rwa[show t.size+(i-t.size)=i by omega]at this
theorem nY.other{a:Addr}{g g' r:Nat}{u:Trace}(H:nY sh a t g r)(hu:∀ op∈u,op.g=g')(eI:g'≠g):nY sh a (t++u) g r:=
 H.app λi op cq hg=>absurd ((hu op (PA cq)).symm.trans hg) eI
theorem nY.still{a:Addr}{g r:Nat}{u:Trace}(H:nY sh a t g r)(hu:∀ op∈u,op.act.touch?=none):nY sh a (t++u) g r:=
 H.app λi op cq hg b hb=>by rw[hu op (PA cq)]at hb;cases hb
theorem nY.new{a:Addr}{g:Nat}{op:MemOp}(hg:op.g=g)(ha:op.act=.mark (.releaseMerge a))(hd:Deaf t g=0):nY sh a (t++#[op]) g t.size:=by
 have xc:(t++#[op])[t.size]? =some op:=by simp
 refine⟨by rw[act?_of xc,ha],by rw[g?_of xc,hg],⟨g,by rw[g?_of xc,hg],by rw[deaf_old (gZ _)];exact hd⟩,λi x hi hgi hx=>?_⟩;obtain⟨y,hy,_⟩:=touch_of hx;have:=lt_size_of_getElem? hy;simp at this;omega
theorem Px.acquire{a:Addr}{I:Nat->Prop}{op:MemOp}(H:Px rd lo sh B (Knows t h) t)(dh:Deaf t h=0)(cq:op.g=h)(Dc:op.act=.mark (.acquire a))(rJ:sh (.cell a))(hB:a.block<B)
  (hI:∀ g,I g->∃ r,nY sh a t g r):Px rd (λg=>lo g/\¬ I g) sh B (Knows (t++#[op]) h) (t++#[op]):=by
 have hn:∀ o∈#[op],o.act.touch?=none:=λo ho=>by simp only[oG,ga,l7,fO]at ho;subst ho;rw[Dc];rfl
 have H':Px rd lo sh B (Knows (t++#[op]) h) (t++#[op]):=H.mute (λi=>Knows.app _) hn (λo ho ad e=>by
  simp only[oG,ga,l7,fO]at ho;subst ho;rw[Dc]at e;cases e) (gZ _) (λo ho=>by
  simp only[oG,ga,l7,fO]at ho;subst ho;rw[Dc];exact hB)
 have xc:(t++#[op])[t.size]? =some op:=by simp
 refine H'.reset (λi x g hx hm hw hg hl hr=>?_) λg l hg hr=>.inl ⟨hg.1,hr⟩;by_cases hIg:I g
 ·obtain⟨r,hR⟩:=hI g hIg;have WT:nY sh a (t++#[op]) g r:=hR.still hn;rcases Bc r i with wC|wC
  ·exact .inr (.inr (WT.after i x wC hg hx))
  ·left;have Bh:=lt_of_act? hR.act;obtain⟨y,hy,V2⟩:=touch_of hx;obtain⟨z,hz,hza⟩:=Lf.1 (show((t++#[op])[r]?).map (·.act)=_ from WT.act);have hzg:z.g=g:=by have:=WT.own;rw[g?_of hz]at this;exact bS this
   have hyg:y.g=g:=by rw[g?_of hy]at hg;exact bS hg
   have eI:i≠r:=λe=>by subst e;rw[hy]at hz;obtain rfl:=bS hz;rw[hza]at V2;cases V2
   have L5:HappensBefore (t++#[op]) r t.size:=
    Relation.TransGen.single (.inr ⟨.marked (a:=a) Bh (.inr WT.act) (by rw[act?_of xc,Dc]) (λk h1 h2 e=>H'.norel k a e rJ),WT.heard,⟨h,by rw[g?_of xc,cq],by rw[deaf_old (gZ _)];exact dh⟩⟩)
   exact⟨t.size,op,xc,cq,.inr ((hb_po az hy hz (hyg.trans hzg.symm)).trans L5)⟩
 ·exact .inr (.inl ⟨⟨hl,hIg⟩,hr⟩)
theorem Px.toPast(H:Px rd lo sh B (Knows t 0) t)(h0:Deaf t 0=0)(hL:∀ g,¬ lo g):Past sh B t:=by
 have hk:∀ i a,touchAt t i=some a->a.loc.isMemory=true->Knows t 0 i\/(a.kind=.atomic/\sh a.loc/\¬ t.heard i):=λi a ha hm=>(H.known i a ha hm).imp id λz=>z.elim (λ⟨_,g,_,hl,_⟩=>absurd hl (hL g)) id;refine⟨H.clean,λi a ha hm=>(hk i a ha hm).imp id λz=>⟨z.2.1,z.1⟩,λi g hg eI ⟨x,hx,hm,hc⟩=>?_,h0,H.seen⟩;rcases hk i x hx hm with⟨q,z,hq,hz,hb⟩|⟨h1,_,h3⟩
 ·rcases hb with rfl|hb
  ·rw[g?_of hq,hz]at hg;exact absurd (bS hg).symm eI
  ·exact⟨q,by rw[g?_of hq,hz],hb⟩
 ·rcases hc with hc|hc
  ·exact absurd h1 hc
  ·exact absurd hc h3
theorem TA:Px (λ_ _=>False) (λ_=>False) (λ_=>False) 0 (Knows #[] 0) #[]:=
 ⟨λsaid=>by rintro⟨i,j,_,⟨a,b,ha,_⟩,_⟩;simp[Trace.act?]at ha,λi a ha=>by simp[touchAt,Trace.act?]at ha,λi a ha=>by simp[touchAt,Trace.act?]at ha,λi a ha=>by simp[touchAt,Trace.act?]at ha,
  λi ad ha=>by simp[Trace.act?]at ha,by simp⟩
end
section
open Go.Conc
open Go.ConcN (sumTo upd sumTo_upd upd_ne upd_same)
structure du where
 cases:Array CommCase
 shape:CommShape
 tH:aP->Prop
 mem:List (Addr×Value)
def du.has(s:du)(c:Nat):Prop:=∃ (k:Nat) (z:Value),s.cases[k]? =some (rcase c z)
def du.rd(s:du)(l:Loc):Prop:=∃ p∈s.mem,l=.cell p.1
def du.K(s:du)(w:World):Prop:=∀ p∈s.mem,w.cell? p.1=some p.2
structure du.Wf(s:du):Prop where
 recvs:∀ cc∈s.cases,∃ c z,cc=rcase c z
 apart:∀ (k m c:Nat) (z z':Value),s.cases[k]? =some (rcase c z)->s.cases[m]? =some (rcase c z')->k=m
theorem du.has_of_mem{s:du}{c:Nat}{z:Value}(h:rcase c z∈s.cases):s.has c:=by obtain⟨k,hk,e⟩:=WN.1 h;exact⟨k,z,by rw[<- e];exact CA hk⟩
def WU(s:du)(e:Event):Prop:=∃ a,e=⟨.cell a,false,false⟩/\s.rd (.cell a)
def Zi(P:bL)(ak:Bool)(s:du)(r g:aP):Prop:=
 s.tH r/\g.status=.running/\g.frame=r.frame/\g.callers=r.callers/\g.dying=r.dying/\∃ es,(∀ e∈es,WU s e)/\∀ w,s.K w->stepG P ak g w=.comm r s.cases true s.shape w es
def L6(P:bL)(ak:Bool)(s:du)(g:aP):Prop:=∃ r,Zi P ak s r g
def Way(P:bL)(ak:Bool)(s:du):Nat->aP->Prop
 |0,g=>L6 P ak s g
 |n+1,g=>L6 P ak s g\/(g.status=.running/\∀ w,s.K w->∃ g' es d,stepG P ak g w=.go g' (w.at d) es/\(∀ e∈es,WU s e)/\Way P ak s n g')
def zY(P:bL)(ak:Bool)(s:du)(n:Nat)(g:aP):Prop:=
 (∃ k,n=k+1/\Way P ak s k g)\/(n=0/\∃ g₀ r,g=parked r s.cases s.shape/\Zi P ak s r g₀)
def R3(P:bL)(T:Trace)(i n:Nat)(g:aP):Option du->Prop
 |none=>0<i/\QuitsD P n (Deaf T i) g
 |some s=>zY P (i==0) s n g
section
variable{P:bL}{ak:Bool}{s:du}{n:Nat}{g:aP}
theorem Way.running(h:∃ w,s.K w)(hw:Way P ak s n g):g.status=.running:=by
 cases n with
 |zero=>obtain⟨r,h⟩:=hw;exact h.2.1
 |succ n=>
  rcases hw with⟨r,h⟩|h
  ·exact h.2.1
  ·exact h.1
theorem zY.status(h:∃ w,s.K w)(hw:zY P ak s n g):(g.status=.running/\0<n)\/(g.status=.blocked/\n=0):=by
 rcases hw with⟨k,rfl,hk⟩|⟨rfl,g₀,r,rfl,_⟩
 ·exact .inl ⟨Way.running h hk,az⟩
 ·exact .inr ⟨rfl,rfl⟩
theorem Way.mono{m:Nat}(hw:Way P ak s n g)(hm:n<=m):Way P ak s m g:=by
 induction n generalizing g m with
 |zero=>cases m with
  |zero=>exact hw
  |succ m=>exact .inl hw
 |succ n ih=>
  obtain⟨m,rfl⟩:∃ m',m=m'+1:=⟨m-1,az⟩;refine hw.imp id λ⟨h1,h2⟩=>⟨h1,λw hK=>?_⟩;obtain⟨g',es,d,h3,h4,h5⟩:=h2 w hK;exact⟨g',es,d,h3,h4,ih h5 az⟩
theorem Zi.tries{g₀ r:aP}(h:Zi P ak s r g₀)(cs:Array CommCase)(sh:CommShape):L6 P ak s {parked r cs sh with status:=.running}:=by obtain⟨hr,_,h1,h2,h3,es,wD,dJ⟩:=h;exact⟨r,hr,rfl,rfl,rfl,rfl,es,wD,λw hw=>by rw[<- dJ w hw];exact stepG_same h1.symm h2.symm h3.symm w⟩
end
structure Gh where
 n:Nat
 aT:Nat->Option du
 sh:Loc->Prop
 bot:Nat:=0
def Gh.rd(σ:Gh)(g:Nat)(l:Loc):Prop:=∃ s,σ.aT g=some s/\s.rd l
def Gh.lo(σ:Gh)(g:Nat):Prop:=(σ.aT g).isSome=true
structure Fr(P:bL)(σ:Gh)(J:Nat->Prop)(h δ:Nat)(T:Trace)(gs:Array aP)(w:World)(q:Nat->Nat):Prop where
 cnt:gs.size=σ.n
 idle:∀ i g,i≠h->¬ J i->gs[i]? =some g->R3 P T i (q i) g (σ.aT i)
 vZ:∀ i g,J i->gs[i]? =some g->g.status=.running\/g.status=.finished
 jh:¬ J h
 hole:σ.aT h=none
 wf:∀ i s,σ.aT i=some s->s.Wf
 there:∀ i s,σ.aT i=some s->i<gs.size
 chans:∀ i s c,¬ J i->σ.aT i=some s->s.has c->∃ k,w.heap[c]? =some (.chan 0 #[] false k k false)
 mem:∀ i s,σ.aT i=some s->s.K w
 tI:∀ i s l,σ.aT i=some s->s.rd l->¬ σ.sh l
 above:∀ j,gs.size<=j->Deaf T j=0
 hear:∀ i,¬ J i->σ.lo i->Deaf T i=0
 deaf:Deaf T h=δ
 px:Px σ.rd σ.lo σ.sh w.heap.size (Knows T h) T
section
variable{P:bL}{σ:Gh}{J:Nat->Prop}{h δ:Nat}{T:Trace}{gs:Array aP}{w:World}{q:Nat->Nat}
theorem FY{s:du}{l:Loc}(h:s.rd l):l.isMemory=true:=by obtain⟨p,_,rfl⟩:=h;rfl
theorem HM{w:World}{a:Addr}{v:Value}(h:w.cell? a=some v):a.block<w.heap.size:=by
 rcases Bc a.block w.heap.size with h'|h'
 ·exact h'
 ·simp[World.cell?,FV h']at h
theorem Fr.fixed(C:Fr P σ J h δ T gs w q){x:Nat}{y:aP}(hx:x≠h)(hy:gs[x]? =some y):y.again w=y:=by
 by_cases hJ:J x
 ·exact again_running w (C.vZ x y hJ hy)
 have hi:=C.idle x y hx hJ hy;cases e:σ.aT x with
 |none=>rw[e]at hi;exact again_running w hi.2.status
 |some s=>
  rw[e]at hi;rcases hi with⟨k,hq,hg⟩|⟨_,g₀,_,rfl,_⟩
  ·exact again_running w (.inl (Way.running ⟨w,C.mem x s e⟩ hg))
  ·refine again_all_open λcc o5=>?_;obtain⟨c,z,rfl⟩:=(C.wf x s e).recvs cc o5;obtain⟨k,hk⟩:=C.chans x s c hJ e (du.has_of_mem o5);exact⟨c,z,0,_,k,k,_,rfl,hk⟩
theorem Fr.noSend(C:Fr P σ J h δ T gs w q){x:Nat}{y:aP}(hx:x≠h)(hy:gs[x]? =some y)(c:Nat):offersAt y c true=[]:=by
 by_cases hJ:J x
 ·exact offersAt_of_not_blocked (λhb=>by rcases C.vZ x y hJ hy with z|z<;>rw[z]at hb<;>cases hb) c true
 have hi:=C.idle x y hx hJ hy;cases e:σ.aT x with
 |none=>
  rw[e]at hi;exact offersAt_of_not_blocked (λhb=>by rcases hi.2.status with z|z<;>rw[z]at hb<;>cases hb) c true
 |some s=>
  rw[e]at hi;rcases hi with⟨k,hq,hg⟩|⟨_,g₀,_,rfl,_⟩
  ·have:=Way.running ⟨w,C.mem x s e⟩ hg;exact offersAt_of_not_blocked (λhb=>by rw[this]at hb;cases hb) c true
  ·exact offersAt_parked_sends (λcc o5=>by obtain⟨c',z',rfl⟩:=(C.wf x s e).recvs cc o5;rfl) _
theorem Fr.noRecvAt(C:Fr P σ J h δ T gs w q){x:Nat}{y:aP}(hx:x≠h)(hy:gs[x]? =some y){c:Nat}(hc:∀ s,σ.aT x=some s->¬ s.has c):offersAt y c false=[]:=by
 by_cases hJ:J x
 ·exact offersAt_of_not_blocked (λhb=>by rcases C.vZ x y hJ hy with z|z<;>rw[z]at hb<;>cases hb) c false
 have hi:=C.idle x y hx hJ hy;cases e:σ.aT x with
 |none=>
  rw[e]at hi;exact offersAt_of_not_blocked (λhb=>by rcases hi.2.status with z|z<;>rw[z]at hb<;>cases hb) c false
 |some s=>
  rw[e]at hi;rcases hi with⟨k,hq,hg⟩|⟨_,g₀,_,rfl,_⟩
  ·have:=Way.running ⟨w,C.mem x s e⟩ hg;exact offersAt_of_not_blocked (λhb=>by rw[this]at hb;cases hb) c false
  ·refine offersAt_parked_off (λcc o5 ec=>?_) _;obtain⟨c',z',rfl⟩:=(C.wf x s e).recvs cc o5;simp only[rcase,Value.chan.injEq,y0]at ec;subst ec;exact hc s e (du.has_of_mem o5)
theorem Fr.at(C:Fr P σ J h δ T gs w q)(d:Nat):Fr P σ J h δ T gs (w.at d) q:=
 ⟨C.cnt,C.idle,C.vZ,C.jh,C.hole,C.wf,C.there,C.chans,C.mem,C.tI,C.above,C.hear,C.deaf,C.px⟩
theorem Fr.awake(C:Fr P σ J h δ T gs w q){a:aP}(ha:gs[h]? =some a)(hs:a.status=.running\/a.status=.blocked):∀ g∈gs,awake g:=by
 intro g hg;obtain⟨i,hi,rfl⟩:=WN.1 hg;by_cases e:i=h
 ·subst e;have:gs[i]=a:=by simpa[CA hi]using ha
  rw[this];exact awake_of (hs.elim .inl λx=>.inr (.inl x))
 ·by_cases hJ:J i
  ·exact awake_of ((C.vZ i _ hJ (CA hi)).elim .inl λx=>.inr (.inr x))
  have o6:=C.idle i _ e hJ (CA hi);cases es:σ.aT i with
  |none=>rw[es]at o6;exact awake_of (o6.2.status.elim .inl λx=>.inr (.inr x))
  |some s=>rw[es]at o6;exact awake_of ((zY.status ⟨w,C.mem i s es⟩ o6).elim (λx=>.inl x.1) λx=>.inr (.inl x.1))
theorem Fr.put(C:Fr P σ J h δ T gs w q){i n' d:Nat}{g':aP}{ops:Array MemOp}{fG:Array aP}(hi:i≠h)(hJ:¬ J i)(dA:i<gs.size)(hsz:fG.size=gs.size)(pV:∀ x,x≠i->x≠h->fG[x]? =gs[x]?)(lQ:fG[i]? =some g')
  (cJ:∀ op∈ops,op.g=i) (WW:R3 P (T++ops) i n' g' (σ.aT i)) (hd:σ.lo i->Deaf (T++ops) i=Deaf T i) (R4:Px σ.rd σ.lo σ.sh w.heap.size (Knows (T++ops) h) (T++ops)):Fr P σ J h δ (T++ops) fG (w.at d) (upd q i n'):=by
 refine⟨hsz.trans C.cnt,λx y hx y4 hy=>?_,λx y y4 hy=>?_,C.jh,C.hole,C.wf,λi s e=>by rw[hsz];exact C.there i s e,C.chans,C.mem,C.tI,λj hj=>?_,λx y4 hl=>?_,?_,R4⟩
 ·by_cases e:x=i
  ·subst e;rw[lQ]at hy;obtain rfl:=bS hy;rw[upd_same];exact WW
  ·rw[pV x e hx]at hy;rw[upd_ne q n' e];have h0:=C.idle x y hx y4 hy;cases es:σ.aT x with
   |none=>rw[es]at h0;exact⟨h0.1,by rw[Deaf_other T (λz=>e z.symm) ops cJ];exact h0.2⟩
   |some s=>rw[es]at h0;exact h0
 ·have e:x≠i:=λe=>hJ (e▸y4);rw[pV x e (λe=>C.jh (e▸y4))]at hy;exact C.vZ x y y4 hy
 ·rw[Deaf_other T (g':=i) az ops cJ];exact C.above j az
 ·by_cases e:x=i
  ·subst e;rw[hd hl];exact C.hear x y4 hl
  ·rw[Deaf_other T (λz=>e z.symm) ops cJ];exact C.hear x y4 hl
 ·rw[Deaf_other T hi ops cJ];exact C.deaf
theorem tJ{s:du}{i:Nat}{fn:bI}{pos:String}{es:Array Event}(hK:s.K w)(h:∀ e∈es,WU s e):
  (∀ op∈MemOp.ofEvents i fn pos es,op.g=i)/\(∀ op∈MemOp.ofEvents i fn pos es,∀ b,op.act.touch?=some b->b.write=false/\s.rd b.loc)/\(∀ op∈MemOp.ofEvents i fn pos es,op.act.low w.heap.size)/\
   (∀ op∈MemOp.ofEvents i fn pos es,∀ ad,op.act≠ .mark (.release ad))/\∀ t:Trace,Deaf (t++MemOp.ofEvents i fn pos es) i=Deaf t i:=by
 refine⟨λop cq=>by obtain⟨e,_,rfl⟩:=Conc.mem_ofEvents cq;rfl,λop cq b hb=>?_,λop cq=>?_,λop cq ad e=>?_,λt=>?_⟩
 ·obtain⟨e,he,rfl⟩:=Conc.mem_ofEvents cq;obtain⟨a,rfl,hS⟩:=h e he;simp only[ofEvent_cell0,MemAct.touch?,y0]at hb;subst hb;exact⟨rfl,hS⟩
 ·obtain⟨e,he,rfl⟩:=Conc.mem_ofEvents cq;obtain⟨a,rfl,p,hp,ep⟩:=h e he;rw[ofEvent_cell0];obtain rfl:=Loc.cell.inj ep;exact HM (hK p hp)
 ·obtain⟨e',he,rfl⟩:=Conc.mem_ofEvents cq;obtain⟨a,rfl,_⟩:=h e' he;cases e
 ·rw[Deaf_own];exact deafBehind_still (λe he=>by obtain⟨a,rfl,_⟩:=h e he;exact⟨by simp,by simp⟩) _
theorem xd{e:Event}(h:e.mute=true)(ad:Addr):MemAct.ofEvent e≠ .mark (.release ad):=by obtain⟨loc,wr,sy⟩:=e;cases loc<;>simp_all [Event.mute];rename_i m;cases m<;>simp_all [MemAct.ofEvent]
theorem Fr.Dd(C:Fr P σ J h δ T gs w q){i:Nat}{g:aP}{sl:Option (Nat×Nat)}(hi:gs[i]? =some g)(Pd:i≠h)(hJ:¬ J i)(lU:g.status=.running)
  (WX:∀ s,σ.aT i=some s->L6 P (i==0) s g->∀ gx c,gs[h]? =some gx->s.has c->offersAt gx c true=[]):
  ∃ (fG:Array aP) (ops:Array MemOp) (q':Nat->Nat) (d:Nat),runT P (crowd gs w sl) i=(.next (crowd fG (w.at d) sl),ops)/\fG.size=gs.size/\(∀ gx,gs[h]? =some gx->fG[h]? =some gx\/∃ w',w'.heap=w.heap/\fG[h]? =some (gx.again w'))/\(∀ x,J x->fG[x]? =gs[x]?)/\(∀ op∈ops,op.g=i)/\
   (∀ x,x≠i->q' x=q x)/\(∀ s,σ.aT i=some s->q' i=0->L6 P (i==0) s g)/\
   Fr P σ J h δ (T++ops) fG (w.at d) q'/\sumTo gs.size q'<sumTo gs.size q:=by
 have dA:i<gs.size:=(gJ.1 hi).1;have Bi:∀ (a' g':aP) (d:Nat) (x:Nat),x≠i->x≠h->((gs.map (woken P g a' (w.at d))).setIfInBounds i g')[x]? =gs[x]? :=by
  intro a' g' d x hx Lh;rw[gq (λe=>hx e.symm),CO];cases e:gs[x]? with
  |none=>rfl
  |some y=>simp[woken_of_again ((C.at d).fixed Lh e)]
 have WY:∀ (a' g':aP) (d:Nat) (gx:aP),gs[h]? =some gx->((gs.map (woken P g a' (w.at d))).setIfInBounds i g')[h]? =some gx\/∃ w',w'.heap=w.heap/\((gs.map (woken P g a' (w.at d))).setIfInBounds i g')[h]? =some (gx.again w'):=by
  intro a' g' d gx wa;rw[gq Pd,CO,wa];simp only[k7];unfold woken;split
  ·exact .inr ⟨w.at d,rfl,rfl⟩
  ·exact .inl rfl
 have lQ:∀ (a' g':aP) (d:Nat),((gs.map (woken P g a' (w.at d))).setIfInBounds i g')[i]? =some g':=λa' g' d=>jM (by simpa using dA);have TB:∀ k n,q i=k+1->n<=k->sumTo gs.size (upd q i n)<sumTo gs.size q:=by
  intro k n R5 hn;have h2:sumTo gs.size (upd q i n)+(k+1)=sumTo gs.size q+n:=by have:=sumTo_upd q n id dA;simpa[R5]using this
  omega
 have o6:=C.idle i g Pd hJ hi;cases e:σ.aT i with
 |none=>
  rw[e]at o6;obtain⟨aad,hq⟩:=o6;have Ja:(i==0)=false:=by simp;omega
  cases R5:q i with
  |zero=>rw[R5]at hq;rw[hq.1]at lU;cases lU
  |succ k=>
   rw[R5]at hq;rcases hq with⟨hf,_⟩|⟨_,g',es,hm,lE,CB⟩
   ·rw[hf]at lU;cases lU
   have cJ:∀ op∈MemOp.ofEvents i g.frame.fn g.frame.place es,op.g=i:=λop cq=>by obtain⟨e,_,rfl⟩:=Conc.mem_ofEvents cq;rfl
   have Pe:w=w.at w.drawn:=rfl;refine⟨_,_,upd q i k,w.drawn,runT_crowd_go (sl:=sl) hi (by rw[Ja];exact lE w),by simp,WY g' g' w.drawn,λx hx=>Bi g' g' w.drawn x (λe=>hJ (e▸hx)) (λe=>C.jh (e▸hx)),cJ,λx hx=>upd_ne q k hx,λs hs _=>(by cases hs),?_,TB k k R5 (gZ _)⟩;refine C.put Pd hJ dA (by simp) (λx hx Lh=>Bi _ _ w.drawn x hx Lh) (lQ _ _ w.drawn) cJ (by rw[e];exact⟨aad,by rw[Deaf_own];exact CB⟩) (λhl=>by unfold Gh.lo at hl;rw[e]at hl;cases hl) ?_;exact C.px.mute (λi=>Knows.app _) (λop cq=>by obtain⟨e,he,rfl⟩:=Conc.mem_ofEvents cq;exact touch_mute (hm e he)) (λop cq ad ea=>by obtain⟨e,he,rfl⟩:=Conc.mem_ofEvents cq;exact absurd ea (xd (hm e he) ad)) (gZ _) (λop cq=>by obtain⟨e,he,rfl⟩:=Conc.mem_ofEvents cq;exact low_mute (hm e he) _)
 |some s=>
  rw[e]at o6;have oE:σ.lo i:=by unfold Gh.lo;rw[e];rfl
  obtain⟨k,R5,hg⟩:∃ k,q i=k+1/\Way P (i==0) s k g:=by
   rcases o6 with h1|⟨_,g₀,r,rfl,_⟩
   ·exact h1
   ·cases lU
  have Pf:=C.mem i s e;have nZ:L6 P (i==0) s g\/∃ k' g' es d,k=k'+1/\stepG P (i==0) g w=.go g' (w.at d) es/\(∀ e∈es,WU s e)/\Way P (i==0) s k' g':=by
   cases k with
   |zero=>exact .inl hg
   |succ k'=>
    rcases hg with L7|⟨_,rK⟩
    ·exact .inl L7
    ·obtain⟨g',es,d,h1,h2,h3⟩:=rK w Pf;exact .inr ⟨k',g',es,d,rfl,h1,h2,h3⟩
  have R6:∀ l,s.rd l->σ.rd i l:=λl hl=>⟨s,e,hl⟩;rcases nZ with CC|⟨k',g',es,d,rfl,hgo,wD,V3⟩
  ·
   have aae:=WX s e CC;obtain⟨rr,WZ⟩:=id CC;obtain⟨_,_,_,_,_,es,wD,lE⟩:=id WZ;obtain⟨cJ,hr,hl,sf,hd⟩:=tJ (i:=i) (fn:=g.frame.fn) (pos:=g.frame.place) Pf wD;have hw:∀ cc∈s.cases,NoWays w (gs.setIfInBounds i ph) cc:=by
    intro cc o5;obtain⟨c,z,rfl⟩:=(C.wf i s e).recvs cc o5;have HN:=du.has_of_mem o5;obtain⟨kk,hc⟩:=C.chans i s c hJ e HN;refine ways_recv_none hc (partners_nil λx y hy=>?_);rcases getElem?_stand gs i x y hy with⟨_,rfl⟩|⟨hx,Pg⟩
    ·exact offersAt_ph _ _
    ·by_cases hS:x=h
     ·subst hS;exact aae y c Pg HN
     ·exact C.noSend hS Pg _
   refine⟨_,_,upd q i 0,w.drawn,crowd_waits (sl:=sl) hi (lE w Pf) hw,by simp,λgx wa=>.inl (by rw[gq Pd];exact wa),λx hx=>gq (λz:i=x=>hJ (by rw[z];exact hx)),cJ,λx hx=>upd_ne q 0 hx,λs' uP _=>(by obtain rfl:=bS uP;exact CC),?_,TB k 0 R5 (eK _)⟩;refine C.put Pd hJ dA (by simp) (λx hx _=>gq (λz=>hx z.symm)) (jM dA) cJ (by rw[e];exact .inr ⟨rfl,g,rr,rfl,WZ⟩) (λ_=>hd T) ?_;exact C.px.reads (λi=>Knows.app _) oE cJ (λop cq b hb=>⟨(hr op cq b hb).1,R6 _ (hr op cq b hb).2,C.tI i s _ e (hr op cq b hb).2⟩) (λop cq ad ea=>absurd ea (sf op cq ad)) (gZ _) hl
  ·obtain⟨cJ,hr,hl,sf,hd⟩:=tJ (i:=i) (fn:=g.frame.fn) (pos:=g.frame.place) Pf wD;refine⟨_,_,upd q i (k'+1),d,runT_crowd_go (sl:=sl) hi hgo,by simp,WY g' g' d,λx hx=>Bi g' g' d x (λe=>hJ (e▸hx)) (λe=>C.jh (e▸hx)),cJ,λx hx=>upd_ne q _ hx,λs' _ h0=>(by rw[upd_same]at h0;omega),?_,TB _ _ R5 az⟩;refine C.put Pd hJ dA (by simp) (λx hx Lh=>Bi _ _ d x hx Lh) (lQ _ _ d) cJ (by rw[e];exact .inl ⟨k',rfl,V3⟩) (λ_=>hd T) ?_;exact C.px.reads (λi=>Knows.app _) oE cJ (λop cq b hb=>⟨(hr op cq b hb).1,R6 _ (hr op cq b hb).2,C.tI i s _ e (hr op cq b hb).2⟩) (λop cq ad ea=>absurd ea (sf op cq ad)) (gZ _) hl
theorem Fr.by_step(C:Fr P σ J h δ T gs w q){i:Nat}{g:aP}{sl:Option (Nat×Nat)}(hi:gs[i]? =some g)(Pd:i≠h)(hJ:¬ J i)(lU:g.status=.running)(hth:h<gs.size)
  (hsA:∀ gx (w':World),gs[h]? =some gx->w'.heap=w.heap->gx.again w'=gx)
  (WX:∀ s,σ.aT i=some s->L6 P (i==0) s g->∀ gx c,gs[h]? =some gx->s.has c->offersAt gx c true=[]):
  ∃ (fG:Array aP) (ops:Array MemOp) (q':Nat->Nat) (d:Nat),runT P (crowd gs w sl) i=(.next (crowd fG (w.at d) sl),ops)/\fG.size=gs.size/\fG[h]? =gs[h]? /\(∀ x,J x->fG[x]? =gs[x]?)/\(∀ op∈ops,op.g=i)/\
   (∀ x,x≠i->q' x=q x)/\(∀ s,σ.aT i=some s->q' i=0->L6 P (i==0) s g)/\
   Fr P σ J h δ (T++ops) fG (w.at d) q'/\sumTo gs.size q'<sumTo gs.size q:=by
 obtain⟨fG,ops,q',d,h1,h2,h3,h4⟩:=C.Dd (sl:=sl) hi Pd hJ lU WX;refine⟨fG,ops,q',d,h1,h2,?_,h4⟩;obtain⟨gx,wa⟩:∃ gx,gs[h]? =some gx:=⟨gs[h],CA hth⟩;rcases h3 gx wa with h|⟨w',nF,h⟩
 ·rw[h,wa]
 ·rw[h,wa,hsA gx w' wa nF]
theorem Fr.picked(C:Fr P σ (λ_=>False) h δ T gs w q){a:aP}{sl:Option (Nat×Nat)}(ha:gs[h]? =some a)(lU:a.status=.running):
  ∃ (N:Nat) (fG:Array aP) (d d':Nat) (nG L8:Option (Nat×Nat)) (T':Trace) (q':Nat->Nat),runNT P N (crowd gs w sl) T=(.next (crowd fG (w.at d) nG),T')/\
   stepT P (crowd fG (w.at d) nG)=runT P (crowd fG (w.at d') L8) h/\fG.size=gs.size/\fG[h]? =some a/\Fr P σ (λ_=>False) h δ T' fG (w.at d') q':=by
 obtain⟨N,m',T',hr,fG,d,d',nG,L8,q',rfl,dJ,hsz,HO,C'⟩:=runs_until (P:=P)
  (Inv:=λμ m t=>∃ eo d pW q₁,m=crowd eo (w.at d) pW/\eo.size=gs.size/\eo[h]? =some a/\Fr P σ (λ_=>False) h δ t eo (w.at d) q₁/\μ=sumTo eo.size q₁)
  (Done:=λm t=>∃ eo d d' pW W0 q₁,m=crowd eo (w.at d) pW/\stepT P (crowd eo (w.at d) pW)=runT P (crowd eo (w.at d') W0) h/\eo.size=gs.size/\eo[h]? =some a/\Fr P σ (λ_=>False) h δ t eo (w.at d') q₁)
  (λμ m t ⟨eo,d,pW,q₁,hm,hsz,j2,C₁,hμ⟩=>by
   subst hm;obtain⟨i,g,d',nG,hi,hg,dJ⟩:=crowd_pick (P:=P) (w:=w.at d) (sl:=pW) (C₁.awake j2 (.inl lU)) ⟨h,a,j2,lU⟩;rw[at_at']at dJ;have Cd:Fr P σ (λ_=>False) h δ t eo (w.at d') q₁:=C₁.at d';by_cases e:i=h
   ·subst e;exact .inl ⟨eo,d,d',pW,nG,q₁,rfl,dJ,hsz,j2,Cd⟩
   ·obtain⟨fG,ops,q',d₂,FG,sg,qO,_,_,_,_,C',dA⟩:=Cd.by_step (sl:=nG) hi e (λz=>z) hg (gJ.1 j2).1
     (λgx w' wa _=>by rw[j2]at wa;obtain rfl:=bS wa;exact again_running _ (.inl lU))
     (λs _ _ gx c wa _=>by rw[j2]at wa;obtain rfl:=bS wa;exact offersAt_of_not_blocked (by rw[lU];simp) _ _)
    exact .inr ⟨_,_,sumTo fG.size q',by rw[dJ];exact FG,by rw[sg];omega,fG,d₂,nG,q',rfl,sg.trans hsz,by rw[qO];exact j2,C',rfl⟩)
  _ _ T ⟨gs,w.drawn,sl,q,rfl,rfl,ha,C,rfl⟩
 exact⟨N,fG,d,d',nG,L8,T',q',hr,dJ,hsz,HO,C'⟩
structure o7(σ:Gh)(w w':World)(es:Array Event):Prop where
 size:w.heap.size<=w'.heap.size
 chans:∀ (r:Nat) (o:Obj),w.heap[r]? =some o->o.isChan=true->w'.heap[r]? =some o
 mem:∀ i s p,σ.aT i=some s->p∈s.mem->w.cell? p.1=some p.2->w'.cell? p.1=some p.2
 ev:∀ e∈es,(∀ b,(MemAct.ofEvent e).touch?=some b->(b.write=true->∀ i,¬ σ.rd i b.loc)/\(σ.sh b.loc->b.kind≠ .plain))/\(∀ ad,MemAct.ofEvent e=.mark (.release ad)->¬ σ.sh (.cell ad))/\(MemAct.ofEvent e).low w'.heap.size
theorem o7.ops{σ:Gh}{w w':World}{es:Array Event}(H:o7 σ w w' es)(i:Nat)(fn:bI)(pos:String):
  (∀ op∈MemOp.ofEvents i fn pos es,op.g=i)/\(∀ op∈MemOp.ofEvents i fn pos es,∀ b,op.act.touch?=some b->(b.write=true->∀ g,σ.lo g->¬ σ.rd g b.loc)/\(σ.sh b.loc->b.kind≠ .plain))/\
   (∀ op∈MemOp.ofEvents i fn pos es,∀ ad,op.act=.mark (.release ad)->¬ σ.sh (.cell ad))/\(∀ op∈MemOp.ofEvents i fn pos es,op.act.low w'.heap.size):=
 ⟨λop cq=>by obtain⟨e,_,rfl⟩:=Conc.mem_ofEvents cq;rfl,λop cq b hb=>by obtain⟨e,he,rfl⟩:=Conc.mem_ofEvents cq;exact⟨λhw g _=>((H.ev e he).1 b hb).1 hw g,((H.ev e he).1 b hb).2⟩,
  λop cq ad ea=>by obtain⟨e,he,rfl⟩:=Conc.mem_ofEvents cq;exact(H.ev e he).2.1 ad ea,λop cq=>by obtain⟨e,he,rfl⟩:=Conc.mem_ofEvents cq;exact(H.ev e he).2.2⟩
theorem Fr.own(C:Fr P σ J h δ T gs w q){a a':aP}{w':World}{es:Array Event}{fn:bI}{pos:String}(dA:h<gs.size)(ho:o7 σ w w' es):
  Fr P σ J h (deafBehind δ es) (T++MemOp.ofEvents h fn pos es) ((gs.map (woken P a a' w')).setIfInBounds h a') w' q/\((gs.map (woken P a a' w')).setIfInBounds h a')[h]? =some a':=by
 obtain⟨cJ,hs,hr,hl⟩:=ho.ops h fn pos;have o8:∀ i s c,¬ J i->σ.aT i=some s->s.has c->∃ k,w'.heap[c]? =some (.chan 0 #[] false k k false):=λi s c hJ e hc=>by obtain⟨k,hk⟩:=C.chans i s c hJ e hc;exact⟨k,ho.chans _ _ hk rfl⟩
 have hm:∀ i s,σ.aT i=some s->s.K w':=λi s e p hp=>ho.mem i s p e hp (C.mem i s e p hp);have TC:∀ (x:Nat) (y:aP),x≠h->gs[x]? =some y->y.again w'=y:=by
  intro x y hx hy;by_cases hJ:J x
  ·exact again_running w' (C.vZ x y hJ hy)
  have hi:=C.idle x y hx hJ hy;cases e:σ.aT x with
  |none=>rw[e]at hi;exact again_running w' hi.2.status
  |some s=>
   rw[e]at hi;rcases hi with⟨k,hq,hg⟩|⟨_,g₀,_,rfl,_⟩
   ·exact again_running w' (.inl (Way.running ⟨w,C.mem x s e⟩ hg))
   ·refine again_all_open λcc o5=>?_;obtain⟨c,z,rfl⟩:=(C.wf x s e).recvs cc o5;obtain⟨k,hk⟩:=o8 x s c hJ e (du.has_of_mem o5);exact⟨c,z,0,_,k,k,_,rfl,hk⟩
 have Bi:∀ x,x≠h->((gs.map (woken P a a' w')).setIfInBounds h a')[x]? =gs[x]? :=by
  intro x hx;rw[gq (λe=>hx e.symm),CO];cases e:gs[x]? with
  |none=>rfl
  |some y=>simp[woken_of_again (TC x y hx e)]
 refine⟨⟨by simpa using C.cnt,λx y hx hJ hy=>?_,λx y hJ hy=>?_,C.jh,C.hole,C.wf,λi s e=>by simpa using C.there i s e,o8,hm,C.tI,λj hj=>?_,λx hJ oE=>?_,?_,?_⟩,jM (by simpa using dA)⟩
 ·rw[Bi x hx]at hy;have hi:=C.idle x y hx hJ hy;cases es':σ.aT x with
  |none=>rw[es']at hi;exact⟨hi.1,by rw[Deaf_other T (λz=>hx z.symm) _ cJ];exact hi.2⟩
  |some s=>rw[es']at hi;exact hi
 ·rw[Bi x (λe=>C.jh (e▸hJ))]at hy;exact C.vZ x y hJ hy
 ·simp only[I5,Array.size_map]at hj;rw[Deaf_other T (g':=h) az _ cJ];exact C.above j hj
 ·have hx:x≠h:=λe=>by subst e;unfold Gh.lo at oE;rw[C.hole]at oE;cases oE
  rw[Deaf_other T (λz=>hx z.symm) _ cJ];exact C.hear x hJ oE
 ·rw[Deaf_own,C.deaf]
 ·exact C.px.own cJ hs hr ho.size hl
end
end
section
open Go.Conc
open Go.ConcN (sumTo upd sumTo_upd upd_ne upd_same)
theorem Px.conv{rd Db:Nat->Loc->Prop}{lo V1:Nat->Prop}{sh:Loc->Prop}{B:Nat}{K:Nat->Prop}{t:Trace}(H:Px rd lo sh B K t)(hl:∀ g,V1 g↔lo g)(hr:∀ g l,lo g->(Db g l↔rd g l)):Px Db V1 sh B K t:=
 H.reset (λi a g _ _ _ _ hg iS=>.inr (.inl ⟨(hl g).2 hg,(hr g _ hg).2 iS⟩)) λg l hg iS=>.inl ⟨(hl g).1 hg,(hr g l ((hl g).1 hg)).1 iS⟩
section
variable{P:bL}{σ:Gh}{h δ:Nat}{T:Trace}{gs:Array aP}{w:World}{q:Nat->Nat}
theorem oH{w:World}{c:Nat}{cap s r:Nat}{V4:Array Value}{cl tm:Bool}(hc:w.heap[c]? =some (.chan cap V4 cl s r tm)){a:Addr}{v:Value}(ha:w.cell? a=some v)(aaf:Nat)(aag:Array Value)(cl':Bool)(s' r':Nat)(y5:Bool):
  (w.setChan c aaf aag cl' s' r' y5).cell? a=some v:=by
 have eI:c≠a.block:=λe=>by unfold World.cell? at ha;rw[<- e,hc]at ha;cases ha
 unfold World.cell? at ha⊢;rw[heap_setChan_ne w _ _ _ _ _ _ eI];exact ha
theorem lV(w:World)(c cap:Nat)(V4:Array Value)(cl:Bool)(s r:Nat)(tm:Bool):(w.setChan c cap V4 cl s r tm).heap.size=w.heap.size:=by simp[World.setChan]
structure nH(σ:Gh)(s:du)(w:World):Prop where
 wf:s.Wf
 chans:∀ c,s.has c->∃ k,w.heap[c]? =some (.chan 0 #[] false k k false)
 mem:s.K w
 tI:∀ l,s.rd l->¬ σ.sh l
def Gh.n0(σ:Gh)(s:du):Gh:={n:=σ.n+1,aT:=upd σ.aT σ.n (some s),sh:=σ.sh,bot:=σ.bot}
theorem Fr.hire(C:Fr P σ (λ_=>False) h 0 T gs w q){a a' child:aP}{es:Array Event}{s:du}{m:Nat}{sl:Option (Nat×Nat)}(ha:gs[h]? =some a)(hgo:stepG P (h==0) a w=.spawn a' child w es)(ho:o7 σ w w es)(hd:deafBehind 0 es=0)
  (hs:nH σ s w) (my:Way P false s m child):
  ∃ fG ops q',runT P (crowd gs w sl) h=(.next (crowd fG w sl),ops)/\fG[h]? =some a'/\Fr P (σ.n0 s) (λ_=>False) h 0 (T++ops) fG w q':=by
 have dA:h<gs.size:=(gJ.1 ha).1;have hn:σ.n=gs.size:=C.cnt.symm;obtain⟨cJ,WX,hrO,hlO⟩:=ho.ops h a.frame.fn a.frame.place;have FG:=runT_crowd_spawn (P:=P) (sl:=sl) ha hgo;have L9:((MemOp.ofEvents h a.frame.fn a.frame.place es).push {g:=h,fn:=a.frame.fn,pos:=a.frame.place,act:=.go gs.size} |>.push {g:=gs.size,fn:=child.frame.fn,pos:=a.frame.place,act:=.start})=
   MemOp.ofEvents h a.frame.fn a.frame.place es++#[{g:=h,fn:=a.frame.fn,pos:=a.frame.place,act:=.go gs.size},{g:=gs.size,fn:=child.frame.fn,pos:=a.frame.place,act:=.start}]:=by
  apply Array.ext';simp
 rw[L9]at FG;have hDh:Deaf (T++MemOp.ofEvents h a.frame.fn a.frame.place es) h=0:=by rw[Deaf_own,C.deaf,hd]
 have V5:∀ x,x≠h->Deaf (T++MemOp.ofEvents h a.frame.fn a.frame.place es) x=Deaf T x:=λx ex=>Deaf_other T (λz=>ex z.symm) _ cJ;have eI:gs.size≠h:=az;have p1:=C.px.own cJ WX hrO (gZ _) hlO;have y3:¬ σ.lo gs.size:=λhl=>by unfold Gh.lo at hl;obtain⟨s',uP⟩:=tv.1 hl;have:=C.there _ _ uP;omega
 have p2:=p1.hire (c:=gs.size) (S:=s.rd) hDh (by rw[V5 _ eI];exact C.above _ (gZ _)) y3 (λl hl=>⟨FY hl,hs.tI l hl⟩) a.frame.fn a.frame.place child.frame.fn;rw[FW]at p2;have Zj:∀ x,x≠h->Deaf (T++(MemOp.ofEvents h a.frame.fn a.frame.place es++#[{g:=h,fn:=a.frame.fn,pos:=a.frame.place,act:=.go gs.size},{g:=gs.size,fn:=child.frame.fn,pos:=a.frame.place,act:=.start}])) x=Deaf T x:=λx ex=>by
  rw[<- FW,Deaf_quiet (λop cq d=>by simp only[oG,ga,l7,fO]at cq;rcases cq with rfl|rfl<;>rfl),V5 x ex]
 have hD3:Deaf (T++(MemOp.ofEvents h a.frame.fn a.frame.place es++#[{g:=h,fn:=a.frame.fn,pos:=a.frame.place,act:=.go gs.size},{g:=gs.size,fn:=child.frame.fn,pos:=a.frame.place,act:=.start}])) h=0:=by
  rw[<- FW,Deaf_quiet (λop cq d=>by simp only[oG,ga,l7,fO]at cq;rcases cq with rfl|rfl<;>rfl),hDh]
 have ed:∀ x,x≠gs.size->(σ.n0 s).aT x=σ.aT x:=λx hx=>by simp only[Gh.n0,hn];exact upd_ne _ _ hx
 have zZ:(σ.n0 s).aT gs.size=some s:=by simp only[Gh.n0,hn,upd_same]
 refine⟨_,_,upd q gs.size (m+1),FG,by rw[Ly,ao (by simp;omega)];exact jM dA,?_⟩;refine⟨by simp[Gh.n0,hn],λx y hx _ hy=>?_,λ_ _ z=>z.elim,λz=>z,?_,λi s' e=>?_,λi s' e=>?_,λi s' c _ e hc=>?_,λi s' e=>?_,λi s' l e hl=>?_,λx hx=>?_,λx _ hl=>?_,hD3,?_⟩
 ·by_cases ex:x=gs.size
  ·subst ex;rw[Ly,aK (by simp)]at hy;obtain rfl:=bS hy;rw[zZ,upd_same];have:(gs.size==0)=false:=by rw[PB];omega
   exact .inl ⟨m,rfl,by rw[this];exact my⟩
  ·have Ma:x<gs.size:=by have:=(gJ.1 hy).1;simp at this;omega
   rw[Ly,ao (by simp;omega),gq (λz=>hx z.symm)]at hy;rw[ed x ex,upd_ne q _ ex];have o6:=C.idle x y hx (λz=>z) hy;cases e:σ.aT x with
   |none=>rw[e]at o6;exact⟨o6.1,by rw[Zj x hx];exact o6.2⟩
   |some s'=>rw[e]at o6;exact o6
 ·rw[ed h (iP eI)];exact C.hole
 ·by_cases ex:i=gs.size
  ·subst ex;rw[zZ]at e;obtain rfl:=bS e;exact hs.wf
  ·rw[ed i ex]at e;exact C.wf i s' e
 ·simp only[I6,I5];by_cases ex:i=gs.size
  ·omega
  ·rw[ed i ex]at e;have:=C.there i s' e;omega
 ·by_cases ex:i=gs.size
  ·subst ex;rw[zZ]at e;obtain rfl:=bS e;exact hs.chans c hc
  ·rw[ed i ex]at e;exact C.chans i s' c (λz=>z) e hc
 ·by_cases ex:i=gs.size
  ·subst ex;rw[zZ]at e;obtain rfl:=bS e;exact hs.mem
  ·rw[ed i ex]at e;exact C.mem i s' e
 ·by_cases ex:i=gs.size
  ·subst ex;rw[zZ]at e;obtain rfl:=bS e;exact hs.tI l hl
  ·rw[ed i ex]at e;exact C.tI i s' l e hl
 ·simp only[I6,I5]at hx;rw[Zj x az];exact C.above x az
 ·by_cases exh:x=h
  ·subst exh;exact hD3
  ·by_cases ex:x=gs.size
   ·subst ex;rw[Zj _ exh];exact C.above _ (gZ _)
   ·rw[Zj x exh];refine C.hear x (λz=>z) ?_;unfold Gh.lo at hl⊢
    rwa[ed x ex]at hl
 ·refine p2.conv (λg=>?_) λg l hg=>?_
  ·unfold Gh.lo;by_cases ex:g=gs.size
   ·subst ex;rw[zZ];simp
   ·rw[ed g ex];simp[ex]
  ·unfold Gh.rd;by_cases ex:g=gs.size
   ·subst ex;rw[zZ];simp
   ·rw[ed g ex];simp[ex]
def Gh.given(σ:Gh)(h j:Nat)(sh:du):Gh:={n:=σ.n,aT:=upd (upd σ.aT j none) h (some sh),sh:=σ.sh,bot:=σ.bot}
theorem Fr.pass(C:Fr P σ (λ_=>False) h 0 T gs w q){j c k m:Nat}{s sH:du}(Jb:j≠h)(xe:h<gs.size)(hj:σ.aT j=some s)(HN:s.has c)(hc:w.heap[c]? =some (.chan 0 #[] false k k false))(Zk:c<w.heap.size)
  {fG:Array aP} {H':aP} (hsz:fG.size=gs.size) (Mb:∀ x,x≠h->x≠j->fG[x]? =gs[x]?) (hH:fG[h]? =some H') (fh:bI) (pH:String) (fj:bI) (pj:String)
  (kV:nH σ sH w) (my:Way P (h==0) sH m H'):
  Fr P (σ.given h j sH) (λ_=>False) j 0 (T++met h j fh pH fj pj c k 0) fG (w.setChan c 0 #[] false (k+1) (k+1) false) (upd q h (m+1)):=by
 have HQ:∀ x,Deaf (T++met h j fh pH fj pj c k 0) x=Deaf T x:=λx=>Deaf_quiet (met_quiet _ _ _ _ _ _ _ _ _ x);have hsj:(σ.given h j sH).aT j=none:=by simp only[Gh.given];rw[upd_ne _ _ Jb,upd_same]
 have PN:(σ.given h j sH).aT h=some sH:=by simp only[Gh.given];rw[upd_same]
 have Jc:∀ x,x≠h->x≠j->(σ.given h j sH).aT x=σ.aT x:=λx h1 h2=>by simp only[Gh.given];rw[upd_ne _ _ h1,upd_ne _ _ h2]
 have hlj:σ.lo j:=by unfold Gh.lo;rw[hj];rfl
 have dj:Deaf T j=0:=C.hear j (λz=>z) hlj;have hold:∀ x s',(σ.given h j sH).aT x=some s'->(x=h/\s'=sH)\/(x≠h/\x≠j/\σ.aT x=some s'):=by
  intro x s' e;by_cases h1:x=h
  ·subst h1;rw[PN]at e;exact .inl ⟨rfl,(bS e).symm⟩
  ·by_cases h2:x=j
   ·subst h2;rw[hsj]at e;cases e
   ·rw[Jc x h1 h2]at e;exact .inr ⟨h1,h2,e⟩
 have R7:∀ c':Nat,(∃ k,w.heap[c']? =some (Obj.chan 0 #[] false k k false))->∃ k',(w.setChan c 0 #[] false (k+1) (k+1) false).heap[c']? =some (Obj.chan 0 #[] false k' k' false):=by
  rintro c' ⟨k',PO⟩;by_cases ec:c=c'
  ·exact⟨k+1,by rw[<- ec];exact heap_setChan_self w hc _ _ _ _ _ _⟩
  ·exact⟨k',by rw[heap_setChan_ne w _ _ _ _ _ _ ec];exact PO⟩
 refine⟨hsz.trans C.cnt,λx y hx _ hy=>?_,λ_ _ z=>z.elim,λz=>z,hsj,λi s' e=>?_,λi s' e=>?_,λi s' c' _ e kF=>?_,λi s' e p hp=>?_,λi s' l e hl=>?_,λx hx=>by rw[HQ];exact C.above x az,λx _ hl=>?_,by rw[HQ];exact dj,?_⟩
 ·by_cases e:x=h
  ·subst e;rw[hH]at hy;obtain rfl:=bS hy;rw[PN,upd_same];exact .inl ⟨m,rfl,my⟩
  ·rw[Mb x e hx]at hy;rw[upd_ne q _ e,Jc x e hx];have hi:=C.idle x y e (λz=>z) hy;cases es:σ.aT x with
   |none=>rw[es]at hi;exact⟨hi.1,by rw[HQ];exact hi.2⟩
   |some s'=>rw[es]at hi;exact hi
 ·rcases hold i s' e with⟨rfl,rfl⟩|⟨_,_,e'⟩
  ·exact kV.wf
  ·exact C.wf i s' e'
 ·rw[hsz];rcases hold i s' e with⟨rfl,rfl⟩|⟨_,_,e'⟩
  ·exact xe
  ·exact C.there i s' e'
 ·rcases hold i s' e with⟨rfl,rfl⟩|⟨_,_,e'⟩
  ·exact R7 c' (kV.chans c' kF)
  ·exact R7 c' (C.chans i s' c' (λz=>z) e' kF)
 ·rcases hold i s' e with⟨rfl,rfl⟩|⟨_,_,e'⟩
  ·exact oH hc (kV.mem p hp) _ _ _ _ _ _
  ·exact oH hc (C.mem i s' e' p hp) _ _ _ _ _ _
 ·rcases hold i s' e with⟨rfl,rfl⟩|⟨_,_,e'⟩
  ·exact kV.tI l hl
  ·exact C.tI i s' l e' hl
 ·rw[HQ];by_cases e:x=h
  ·subst e;exact C.deaf
  ·refine C.hear x (λz=>z) ?_;unfold Gh.lo at hl⊢;by_cases ej:x=j
   ·subst ej;rw[hj];rfl
   ·rwa[Jc x e ej]at hl
 ·rw[lV];have p:=C.px.give (j:=j) C.deaf dj fh pH fj pj k 0 Zk;have y3:¬ (σ.lo h/\h≠j):=λz=>by have:=z.1;unfold Gh.lo at this;rw[C.hole]at this;cases this
  have p2:=p.loosen (g₀:=h) (S:=sH.rd) y3 (λl hl=>⟨FY hl,kV.tI l hl⟩) λi a ha hw hS=>by
   obtain⟨x,hx,iH⟩:=touch_of ha;rcases getElem?_append_cases hx with⟨_,jV⟩|⟨_,uO⟩
   ·exact(C.px.writes (FY hS) (kV.tI _ hS) (by rw[touchAt_of jV];exact iH) hw rfl).app _
   ·rw[met_mute _ _ _ _ _ _ _ _ _ x uO]at iH;cases iH
  refine p2.conv (λg=>?_) λg l hg=>?_
  ·unfold Gh.lo;by_cases e:g=h
   ·subst e;rw[PN];simp
   ·by_cases ej:g=j
    ·subst ej;rw[hsj];simp[e]
    ·rw[Jc g e ej];simp[e,ej]
  ·unfold Gh.rd;by_cases e:g=h
   ·subst e;rw[PN];simp
   ·by_cases ej:g=j
    ·subst ej;exact absurd hg (by simp[e])
    ·rw[Jc g e ej];simp[e]
theorem Fr.setH(C:Fr P σ (λ_=>False) h δ T gs w q)(dA:h<gs.size)(x:aP){fn:bI}{pos:String}{es:Array Event}(ho:o7 σ w w es):Fr P σ (λ_=>False) h (deafBehind δ es) (T++MemOp.ofEvents h fn pos es) (gs.setIfInBounds h x) w q:=by
 obtain⟨cJ,hs,hr,hl⟩:=ho.ops h fn pos;refine⟨by simpa using C.cnt,λy g hy _ hg=>?_,λ_ _ z=>z.elim,λz=>z,C.hole,C.wf,λi s e=>by simpa using C.there i s e,C.chans,C.mem,C.tI,λj hj=>?_,λy _ wE=>?_,by rw[Deaf_own,C.deaf],C.px.own cJ hs hr (gZ _) hl⟩
 ·rw[gq (λe=>hy e.symm)]at hg;have hi:=C.idle y g hy (λz=>z) hg;cases e:σ.aT y with
  |none=>rw[e]at hi;exact⟨hi.1,by rw[Deaf_other T (λz=>hy z.symm) _ cJ];exact hi.2⟩
  |some s=>rw[e]at hi;exact hi
 ·simp only[I5]at hj;by_cases e:j=h
  ·omega
  ·rw[Deaf_other T (λz=>e z.symm) _ cJ];exact C.above j hj
 ·have hy:y≠h:=λe=>by subst e;unfold Gh.lo at wE;rw[C.hole]at wE;cases wE
  rw[Deaf_other T (λz=>hy z.symm) _ cJ];exact C.hear y (λz=>z) wE
theorem Fr.give(C:Fr P σ (λ_=>False) h 0 T gs w q){a a₂:aP}{j c kk k m:Nat}{s sH:du}{v z z':Value}{es:Array Event}{sl:Option (Nat×Nat)}(hj:σ.aT j=some s)(hk:s.cases[kk]? =some (rcase c z))
  (lf:∀ i s',σ.aT i=some s'->s'.has c->i=j) (ha:gs[h]? =some a) (lU:a.status=.running)
  (R8:∀ d,stepG P (h==0) a (w.at d)=.comm a₂ #[scase c v z'] true .send (w.at d) es) (wD:∀ d,o7 σ (w.at d) (w.at d) es) (PQ:deafBehind 0 es=0)
  (hc:w.heap[c]? =some (.chan 0 #[] false k k false)) (kV:nH σ sH w) (my:Way P (h==0) sH m (Conc.served a₂ undef)):
  ∃ (N:Nat) (fG:Array aP) (d:Nat) (nG:Option (Nat×Nat)) (T':Trace) (q':Nat->Nat),runNT P N (crowd gs w sl) T=(.next (crowd fG ((w.at d).setChan c 0 #[] false (k+1) (k+1) false) nG),T')/\
   (∃ r,s.tH r/\fG[j]? =some (Conc.served r (commResult s.cases s.shape kk v true)))/\Fr P (σ.given h j sH) (λ_=>False) j 0 T' fG ((w.at d).setChan c 0 #[] false (k+1) (k+1) false) q':=by
 have HN:s.has c:=⟨kk,z,hk⟩;have TD:=C.wf j s hj;have aep:=C.there j s hj;have Jb:j≠h:=λe=>by rw[e,C.hole]at hj;cases hj
 have Zk:c<w.heap.size:=(gJ.1 hc).1;have hu:∀ (m:Nat) (cc:CommCase),m≠kk->s.cases[m]? =some cc->cc.chan≠ .chan (some c):=by intro m cc hm o5 ec;obtain⟨c₂,z₂,rfl⟩:=TD.recvs cc (PA o5);simp only[rcase,Value.chan.injEq,y0]at ec;subst ec;exact hm (TD.apart m kk _ _ _ o5 hk)
 suffices key:∃ (N:Nat) (m':Machine) (t':Trace),runNT P N (crowd gs w sl) T=(.next m',t')/\∃ fG d nG q',m'=crowd fG ((w.at d).setChan c 0 #[] false (k+1) (k+1) false) nG/\(∃ r,s.tH r/\fG[j]? =some (Conc.served r (commResult s.cases s.shape kk v true)))/\Fr P (σ.given h j sH) (λ_=>False) j 0 t' fG ((w.at d).setChan c 0 #[] false (k+1) (k+1) false) q' by obtain⟨N,m',T',hr,fG,d,nG,q',rfl,h1,h2⟩:=key;exact⟨N,fG,d,nG,T',q',hr,h1,h2⟩
 refine runs_until (P:=P)
  (Inv:=λμ mm t=>(∃ fG d nG q',mm=crowd fG ((w.at d).setChan c 0 #[] false (k+1) (k+1) false) nG/\(∃ r,s.tH r/\fG[j]? =some (Conc.served r (commResult s.cases s.shape kk v true)))/\Fr P (σ.given h j sH) (λ_=>False) j 0 t fG ((w.at d).setChan c 0 #[] false (k+1) (k+1) false) q')\/
   ∃ eo d pW q₁,∃ pk:Bool,mm=crowd eo (w.at d) pW/\eo.size=gs.size/\eo[h]? =some (if pk then parked a₂ #[scase c v z'] .send else a)/\
   Fr P σ (λ_=>False) h 0 t eo (w.at d) q₁/\(pk=true->0<q₁ j)/\μ=sumTo eo.size q₁+(if pk then 0 else 1))
  (λμ mm t aaj=>?_) _ _ T (.inr ⟨gs,w.drawn,sl,q,false,rfl,rfl,ha,C,by simp,rfl⟩)
 rcases aaj with W1|⟨eo,d,pW,q₁,pk,rfl,hsz,j2,C₁,Ph,hμ⟩
 ·exact .inl W1
 refine .inr ?_;obtain⟨gj,TE⟩:∃ gj,eo[j]? =some gj:=⟨eo[j]'(by omega),CA az⟩;have xe:h<eo.size:=(gJ.1 j2).1;have hSj:zY P (j==0) s (q₁ j) gj:=by have:=C₁.idle j gj Jb (λz=>z) TE;rwa[hj]at this
 have hKs:∃ w,s.K w:=⟨_,C₁.mem j s hj⟩;have De:∃ (i:Nat) (g:aP),eo[i]? =some g/\g.status=.running:=by
  cases pk with
  |false=>exact⟨h,a,j2,lU⟩
  |true=>exact⟨j,gj,TE,(zY.status hKs hSj).elim (·.1) (λz=>by have:=Ph rfl;omega)⟩
 obtain⟨i,g,d',nG,hi,hg,dJ⟩:=crowd_pick (P:=P) (w:=w.at d) (sl:=pW) (C₁.awake j2 (by cases pk<;>simp[lU,parked])) De;rw[at_at']at dJ;have Cd:Fr P σ (λ_=>False) h 0 t eo (w.at d') q₁:=C₁.at d';have PR:(w.at d').heap[c]? =some (.chan 0 #[] false k k false):=hc;have W2:nH σ sH (w.at d'):=⟨kV.wf,kV.chans,kV.mem,kV.tI⟩;have Mc:0<μ:=by
  cases pk with
  |false=>simp at hμ;omega
  |true=>
   have h1:=Ph rfl;have h2:q₁ j<=sumTo eo.size q₁:=Go.ConcN.le_sumTo (f:=q₁) az;simp at hμ;omega
 by_cases e:i=h
 ·
  subst e;cases pk with
  |true=>rw[j2]at hi;obtain rfl:=bS hi;cases hg
  |false=>
   obtain rfl:g=a:=by rw[j2]at hi;exact(bS hi).symm
   have hoff:∀ (x:Nat) (y:aP),x≠j->(eo.setIfInBounds i ph)[x]? =some y->offersAt y c false=[]:=by
    intro x y Me hy;rcases getElem?_stand eo i x y hy with⟨_,rfl⟩|⟨hx,Pg⟩
    ·exact offersAt_ph _ _
    ·exact Fr.noRecvAt Cd hx Pg λs' uP kF=>Me (lf x s' uP kF)
   rcases hSj with⟨kk',hq,hG⟩|⟨Zl,g₀,rr,rfl,CC⟩
   ·
    have hjr:gj.status=.running:=Way.running hKs hG;have hp:partners (eo.setIfInBounds i ph) c false=[]:=partners_nil λx y hy=>by
     by_cases Me:x=j
     ·subst Me;rw[stand_get Jb TE]at hy;obtain rfl:=bS hy;exact offersAt_of_not_blocked (by rw[hjr];simp) _ _
     ·exact hoff x y Me hy
    have hw:∀ cc∈#[scase c v z'],NoWays (w.at d') (eo.setIfInBounds i ph) cc:=by intro cc o5;simp only[oG,ga,l7,fO]at o5;subst o5;exact ways_send_none PR (gZ _) hp
    refine⟨_,_,sumTo eo.size q₁+0,by rw[dJ];exact crowd_waits (sl:=nG) hi (R8 d') hw,by simp at hμ;omega,.inr ⟨_,d',nG,q₁,true,rfl,by simpa using hsz,jM xe,?_,λ_=>by omega,by simp⟩⟩;have:=Cd.setH (fn:=g.frame.fn) (pos:=g.frame.place) xe (parked a₂ #[scase c v z'] .send) (wD d')
    rwa[PQ]at this
   ·
    have hp:partners (eo.setIfInBounds i ph) c false=[(j,kk)]:=by rw[partners_one (stand_get Jb TE) λx y Me hy=>hoff x y Me hy,offersAt_parked_at hk hu];rfl
    have C2:=Cd.setH (fn:=g.frame.fn) (pos:=g.frame.place) xe a₂ (wD d');rw[PQ]at C2;have hH2:((eo.setIfInBounds j ((parked rr s.cases s.shape).finishComm P s.cases s.shape kk v true)).setIfInBounds i (a₂.finishComm P #[scase c v z'] .send 0 undef false))[i]? =some (Conc.served a₂ undef):=jM (by simpa using xe);refine⟨_,_,0,by rw[dJ];exact crowd_send_meets_sel (sl:=nG) hi (R8 d') PR Jb TE hk hp,Mc,.inl ⟨_,d',nG,upd q₁ i (m+1),rfl,?_,?_⟩⟩
    ·refine⟨rr,CC.1,?_⟩;rw[gq (λz=>Jb z.symm),jM az,finishComm_served]
    ·rw[<- FW];exact C2.pass Jb (by simpa using xe) hj HN PR Zk (by simp) (λx hx Me=>by rw[gq (λz=>hx z.symm),gq (λz=>Me z.symm),gq (λz=>hx z.symm)]) (jM (by simpa using xe)) _ _ _ _ W2 my
 ·by_cases ej:i=j/\pk=true/\L6 P (i==0) s g
  ·
   obtain⟨rfl,rfl,CC⟩:=ej;obtain⟨rr,hrr,_,_,_,_,esj,aam,lE⟩:=CC;obtain⟨cJ,hr,hl,sf,hd⟩:=tJ (i:=i) (fn:=g.frame.fn) (pos:=g.frame.place) (Cd.mem i s hj) aam;have hp:partners (eo.setIfInBounds i ph) c true=[(h,0)]:=by
    rw[partners_one (stand_get (iP Jb) j2) λx y Lh hy=>by
     rcases getElem?_stand eo i x y hy with⟨_,rfl⟩|⟨_,Pg⟩
     ·exact offersAt_ph _ _
     ·exact Fr.noSend Cd Lh Pg _]
    simp[offersAt_parked_send]
   have ho:∀ (m:Nat) (c':CommCase),m≠kk->s.cases[m]? =some c'->NoWays (w.at d') (eo.setIfInBounds i ph) c':=by
    intro m c' hm kF;obtain⟨c₂,z₂,rfl⟩:=TD.recvs c' (PA kF);have eI:c≠c₂:=λec=>hu m _ hm kF (by rw[ec];rfl);obtain⟨k₂,W3⟩:=Cd.chans i s c₂ (λz=>z) hj ⟨m,z₂,kF⟩;refine ways_recv_none W3 (partners_nil λx y hy=>?_);rcases getElem?_stand eo i x y hy with⟨_,rfl⟩|⟨_,Pg⟩
    ·exact offersAt_ph _ _
    ·by_cases Lh:x=h
     ·subst Lh;rw[j2]at Pg;obtain rfl:=bS Pg;simp only[eM];rw[offersAt_parked_send,ao eI]
     ·exact Fr.noSend Cd Lh Pg _
   have oE:σ.lo i:=by unfold Gh.lo;rw[hj];rfl
   have lQ:∀ x:aP,(eo.setIfInBounds i x)[i]? =some x:=λx=>jM az;have C2:Fr P σ (λ_=>False) h 0 (t++MemOp.ofEvents i g.frame.fn g.frame.place esj) (eo.setIfInBounds i g) (w.at d') (upd q₁ i (q₁ i)):=by refine Cd.put (d:=d') e (λz=>z) az (by simp) (λx hx _=>gq (λz=>hx z.symm)) (lQ g) cJ (by rw[hj];rw[hi]at TE;obtain rfl:=bS TE;exact hSj) (λ_=>hd t) ?_;exact Cd.px.reads (λi=>Knows.app _) oE cJ (λop cq b hb=>⟨(hr op cq b hb).1,⟨s,hj,(hr op cq b hb).2⟩,Cd.tI i s _ hj (hr op cq b hb).2⟩) (λop cq ad ea=>absurd ea (sf op cq ad)) (gZ _) hl
   refine⟨_,_,0,by rw[dJ];exact crowd_sel_recv_meets (sl:=nG) hi (lE _ (Cd.mem i s hj)) hk ho PR (iP Jb) j2 hp,Mc,.inl ⟨_,d',nG,upd (upd q₁ i (q₁ i)) h (m+1),rfl,?_,?_⟩⟩
   ·refine⟨rr,hrr,?_⟩;rw[jM (by simp;omega),finishComm_served]
   ·rw[<- FW];exact C2.pass Jb (by simpa using xe) hj HN PR Zk (by simp) (λx hx Me=>by rw[gq (λz=>Me z.symm),gq (λz=>hx z.symm),gq (λz=>Me z.symm)])
     (by rw[gq e,jM xe,finishComm_send]) _ _ _ _ W2 my
  ·
   obtain⟨fG,ops,q',d₂,FG,sg,qO,_,_,Zm,Zl,C',dA⟩:=Cd.by_step (sl:=nG) hi e (λz=>z) hg xe
    (λgx w' wa nF=>by
     rw[j2]at wa;obtain rfl:=bS wa;cases pk with
     |false=>exact again_running _ (.inl lU)
     |true=>exact again_send_open (by rw[nF];exact PR))
    (λs' uP CC gx c' wa kF=>by
     rw[j2]at wa;obtain rfl:=bS wa;cases pk with
     |false=>exact offersAt_of_not_blocked (by simp[lU]) _ _
     |true=>
      simp only[eM];rw[offersAt_parked_send,ao];intro ec;have Jd:i=j:=lf i s' uP (ec▸kF);subst Jd;rw[hj]at uP;obtain rfl:=bS uP;exact ej ⟨rfl,rfl,CC⟩)
   refine⟨_,_,sumTo fG.size q'+(if pk then 0 else 1),by rw[dJ];exact FG,by rw[sg];omega,.inr ⟨fG,d₂,nG,q',pk,rfl,sg.trans hsz,by rw[qO];exact j2,C',λhp=>?_,rfl⟩⟩;subst hp;by_cases Jd:j=i
   ·subst Jd;rcases Lz (q' j)with h0|h0
    ·exact absurd ⟨rfl,rfl,Zl s hj h0⟩ ej
    ·exact h0
   ·rw[Zm j Jd];exact Ph rfl
end
end
section
open Go.Conc
open Go.ConcN (sumTo upd sumTo_upd upd_ne upd_same)
def KQ:Int:=4294967296
def lF(v wt:Nat):Value:=.int .u64 ((v:Int)*KQ+wt)
def rL(s:Nat):Value:=.int .u32 (s:Int)
abbrev y6(m:Mark):Event:=⟨.mark m,false,true⟩
abbrev ar(a:Addr):Event:=⟨.cell a,false,true⟩
abbrev aw(a:Addr):Event:=⟨.cell a,true,true⟩
structure pK where
 blk:Nat
 o1:Nat
 o2:Nat
 cs:Array Value
 ty:aQ
abbrev pK.st(G:pK):Addr:=⟨G.blk,G.o1,none⟩
abbrev pK.sm(G:pK):Addr:=⟨G.blk,G.o2,none⟩
structure pK.Ok(G:pK):Prop where
 ne:G.o1≠G.o2
 l1:G.o1<G.cs.size
 l2:G.o2<G.cs.size
abbrev pK.row(G:pK)(x y:Value):Array Value:=(G.cs.setIfInBounds G.o1 x).setIfInBounds G.o2 y
structure WG(G:pK)(w₀:World)(x y:Value)(w:World):Prop where
 hp:w.heap=w₀.heap.setIfInBounds G.blk (.cells (G.row x y) G.ty (0,0))
 os:w.os=w₀.os
 out:w.output=w₀.output
 b0:w₀.heap[G.blk]? =some (.cells G.cs G.ty (0,0))
section
variable{G:pK}{w₀ w w':World}{x y x' y':Value}
theorem WG.blt(H:WG G w₀ x y w):G.blk<w₀.heap.size:=(gJ.1 H.b0).1
theorem WG.row(H:WG G w₀ x y w):w.heap[G.blk]? =some (.cells (G.row x y) G.ty (0,0)):=by rw[H.hp];exact jM H.blt
theorem WG.size(H:WG G w₀ x y w):w.heap.size=w₀.heap.size:=by rw[H.hp];simp
theorem WG.FZ(H:WG G w₀ x y w){b:Nat}(hb:b≠G.blk):w.heap[b]? =w₀.heap[b]? :=by rw[H.hp];exact gq (iP hb)
theorem WG.at(H:WG G w₀ x y w)(d:Nat):WG G w₀ x y (w.at d):=⟨H.hp,H.os,H.out,H.b0⟩
theorem Mf(ok:G.Ok):(G.row x y)[G.o1]? =some x:=by rw[gq (iP ok.ne)];exact jM ok.l1
theorem Mg(ok:G.Ok):(G.row x y)[G.o2]? =some y:=jM (by simpa using ok.l2)
theorem uU{o:Nat}(h1:o≠G.o1)(h2:o≠G.o2):(G.row x y)[o]? =G.cs[o]? :=by rw[gq (iP h2),gq (iP h1)]
theorem WG.R9(ok:G.Ok)(H:WG G w₀ x y w):w.cell? G.st=some x:=by simp only[World.cell?,H.row];exact Mf ok
theorem WG.csm(ok:G.Ok)(H:WG G w₀ x y w):w.cell? G.sm=some y:=by simp only[World.cell?,H.row];exact Mg ok
theorem WG.fst(H:WG G w₀ x y w):w.frozen? G.st=false:=by simp only[World.frozen?,H.row];simp
theorem WG.fsm(H:WG G w₀ x y w):w.frozen? G.sm=false:=by simp only[World.frozen?,H.row];simp
theorem Mh(ok:G.Ok):(G.row x y).setIfInBounds G.o1 x'=G.row x' y:=by
 apply re;intro i;by_cases h1:i=G.o1
 ·subst h1;rw[Mf ok,jM (by simpa using ok.l1)]
 ·rw[gq (iP h1)];by_cases h2:i=G.o2
  ·subst h2;rw[Mg ok,Mg ok]
  ·rw[uU h1 h2,uU h1 h2]
theorem Mi(ok:G.Ok):(G.row x y).setIfInBounds G.o2 y'=G.row x y':=by
 apply re;intro i;by_cases h2:i=G.o2
 ·subst h2;rw[Mg ok,jM (by simpa using ok.l2)]
 ·rw[gq (iP h2)];by_cases h1:i=G.o1
  ·subst h1;rw[Mf ok,Mf ok]
  ·rw[uU h1 h2,uU h1 h2]
theorem o9{w:World}{b o:Nat}{cs:Array Value}{t:aQ}{fz:Nat×Nat}{v:Value}(h:w.heap[b]? =some (.cells cs t fz)):
  (w.setCell ⟨b,o,none⟩ v).heap=w.heap.setIfInBounds b (.cells (cs.setIfInBounds o v) t fz):=by
 have dA:b<w.heap.size:=(gJ.1 h).1;unfold World.setCell;apply re;intro i;by_cases e:i=b
 ·subst e;simp only[PC,eM,h,k7];rw[jM dA];simp
 ·rw[gq (iP e)];simp only[PC,ao (iP e)]
theorem set_set(a:Array Obj)(b:Nat)(o o':Obj):(a.setIfInBounds b o).setIfInBounds b o'=a.setIfInBounds b o':=by
 apply re;intro i;by_cases e:i=b
 ·subst e;by_cases dA:i<a.size
  ·rw[jM (by simpa using dA),jM dA]
  ·rw[FV (by simp;omega),FV (by simp;omega)]
 ·rw[gq (iP e),gq (iP e),gq (iP e)]
theorem WG.setSt(ok:G.Ok)(H:WG G w₀ x y w)(x':Value):WG G w₀ x' y (w.setCell G.st x'):=by refine⟨?_,H.os,H.out,H.b0⟩;rw[o9 H.row,Mh ok,H.hp,set_set]
theorem WG.setSm(ok:G.Ok)(H:WG G w₀ x y w)(y':Value):WG G w₀ x y' (w.setCell G.sm y'):=by refine⟨?_,H.os,H.out,H.b0⟩;rw[o9 H.row,Mi ok,H.hp,set_set]
theorem WG.other(H:WG G w₀ x y w){a:Addr}(h1:a≠G.st)(h2:a≠G.sm):w.cell? a=w₀.cell? a:=by
 obtain⟨b,o,sp⟩:=a;by_cases e:b=G.blk
 ·subst e;simp only[World.cell?,H.row,H.b0];cases sp with
  |some s=>rfl
  |none=>
   simp only[I7,ij,fB];exact uU (λz=>h1 (by rw[z])) (λz=>h2 (by rw[z]))
 ·simp only[World.cell?,H.FZ e]
theorem WG.Sa(H:WG G w₀ x y w)(H':WG G w₀ x' y' w'){a:Addr}(h1:a≠G.st)(h2:a≠G.sm):w'.cell? a=w.cell? a:=by rw[H.other h1 h2,H'.other h1 h2]
theorem WG.Sb(H:WG G w₀ x y w)(H':WG G w₀ x' y' w'){r:Nat}{o:Obj}(h:w.heap[r]? =some o)(ho:o.isChan=true):w'.heap[r]? =some o:=by
 have e:r≠G.blk:=λe=>by subst e;rw[H.row]at h;obtain rfl:=bS h;cases ho
 rw[H'.FZ e,<- H.FZ e];exact h
end
def Gs(G:pK)(w:World):Prop:=∃ c,w.heap[G.blk]? =some (.cells c G.ty (0,0))/\c.size=G.cs.size
theorem WG.gs{G:pK}{w₀ w:World}{x y:Value}(H:WG G w₀ x y w):Gs G w:=⟨_,H.row,by simp⟩
inductive St where
 |rel|wF|add|ld|Li|F0
def Cl(P:bL)(G:pK):Nat->St->aP->Prop
 |0,_,_=>False
 |n+1,x,g=>g.status=.running/\((∃ g',(∀ w,Gs G w->stepG P false g w=.go g' w #[])/\Cl P G n x g')\/match x with
  |.rel=>∃ g',(∀ w,stepG P false g w=.go g' w #[y6 (.releaseMerge G.st)])/\Cl P G n .wF g'
  |.wF=>∃ g',(∀ w,stepG P false g w=.go g' w #[y6 .disable])/\Cl P G n .add g'
  |.add=>∃ g':Nat->Nat->aP,(∀ w v wt,v<=3->wt<=1->w.cell? G.st=some (lF (v+1) wt)->w.frozen? G.st=false->stepG P false g w=.go (g' v wt) (w.setCell G.st (lF v wt)) #[ar G.st,aw G.st])/\
    Cl P G n .ld (g' 0 1)/\∀ v wt,v<=3->wt<=1->¬ (v=0/\wt=1)->QuitsD P n 1 (g' v wt)
  |.ld=>∃ g',(∀ w,w.cell? G.st=some (lF 0 1)->stepG P false g w=.go g' w #[ar G.st])/\Cl P G n .Li g'
  |.Li=>∃ g',(∀ w,w.cell? G.st=some (lF 0 1)->w.frozen? G.st=false->stepG P false g w=.go g' (w.setCell G.st (lF 0 0)) #[aw G.st])/\Cl P G n .F0 g'
  |.F0=>mayWake P g=true/\∃ g',(∀ w,w.cell? G.sm=some (rL 0)->w.frozen? G.sm=false->stepG P false g w=.go g' (w.setCell G.sm (rL 1)) (semEvents G.sm))/\QuitsD P n 1 g')
inductive MS where
 |wF (c:Nat)|head (c:Nat)|PS (v:Nat)|reg|last|Mj|acq
inductive MW(P:bL)(G:pK)(Fin:aP->Prop):MS->aP->Prop
 |mute {x:MS} {g g':aP} (hs:g.status=.running) (h:∀ w,Gs G w->stepG P true g w=.go g' w #[]) (k:MW P G Fin x g'):MW P G Fin x g
 |wF {c:Nat} {g g':aP} (hs:g.status=.running) (h:∀ w,stepG P true g w=.go g' w #[y6 .disable]) (k:MW P G Fin (.head c) g'):MW P G Fin (.wF c) g
 |load {c:Nat} {g:aP} (f:Nat->aP) (hs:g.status=.running) (h:∀ w v,v<=c->w.cell? G.st=some (lF v 0)->stepG P true g w=.go (f v) w #[ar G.st])
   (k0:MW P G Fin .Mj (f 0)) (k:∀ v,1<=v->v<=c->MW P G Fin (.PS v) (f v)):MW P G Fin (.head c) g
 |PS {v:Nat} {g g1 g2:aP} (hs:g.status=.running) (h1:∀ w,w.cell? G.st=some (lF v 0)->w.frozen? G.st=false->stepG P true g w=.go g1 (w.setCell G.st (lF v 1)) #[ar G.st,aw G.st])
   (h2:∀ w v',v'<v->w.cell? G.st=some (lF v' 0)->w.frozen? G.st=false->stepG P true g w=.go g2 w #[ar G.st]) (k1:MW P G Fin .reg g1) (k2:MW P G Fin (.head (v-1)) g2):MW P G Fin (.PS v) g
 |said {g g':aP} (hs:g.status=.running) (h:∀ w,stepG P true g w=.go g' w #[y6 (.write G.sm)]) (k:MW P G Fin .reg g'):MW P G Fin .reg g
 |F0 {g g':aP} (hs:g.status=.running) (ho:g.offers=none) (h0:∀ w,w.cell? G.sm=some (rL 0)->stepG P true g w=.go {g with status:=.blocked} w #[])
   (h1:∀ w,w.cell? G.sm=some (rL 1)->w.frozen? G.sm=false->stepG P true g w=.go g' (w.setCell G.sm (rL 0)) (semEvents G.sm)) (k:MW P G Fin .last g'):MW P G Fin .reg g
 |last {g g':aP} (hs:g.status=.running) (h:∀ w,w.cell? G.st=some (lF 0 0)->stepG P true g w=.go g' w #[ar G.st]) (k:MW P G Fin .Mj g'):MW P G Fin .last g
 |Mj {g g':aP} (hs:g.status=.running) (h:∀ w,stepG P true g w=.go g' w #[y6 .enable]) (k:MW P G Fin .acq g'):MW P G Fin .Mj g
 |acq {g g':aP} (hs:g.status=.running) (h:∀ w,stepG P true g w=.go g' w #[y6 (.acquire G.st)]) (k:Fin g'):MW P G Fin .acq g
section
variable{P:bL}{σ:Gh}{J:Nat->Prop}{h δ:Nat}{T:Trace}{gs:Array aP}{w w':World}{q:Nat->Nat}
theorem Fr.world(C:Fr P σ J h δ T gs w q)(hsz:w'.heap.size=w.heap.size)(o8:∀ (r:Nat) (o:Obj),w.heap[r]? =some o->o.isChan=true->w'.heap[r]? =some o)(hm:∀ i s p,σ.aT i=some s->p∈s.mem->w.cell? p.1=some p.2->w'.cell? p.1=some p.2):
  Fr P σ J h δ T gs w' q:=
 ⟨C.cnt,C.idle,C.vZ,C.jh,C.hole,C.wf,C.there,λi s c hJ e hc=>by obtain⟨k,hk⟩:=C.chans i s c hJ e hc;exact⟨k,o8 _ _ hk rfl⟩,λi s e p hp=>hm i s p e hp (C.mem i s e p hp),C.tI,C.above,C.hear,C.deaf,by rw[hsz];exact C.px⟩
theorem Fr.W4(C:Fr P σ J h δ T gs w q){i:Nat}{g':aP}{ops:Array MemOp}{fG:Array aP}(hJ:J i)(dA:i<gs.size)(hsz:w'.heap.size=w.heap.size)
  (o8:∀ (r:Nat) (o:Obj),w.heap[r]? =some o->o.isChan=true->w'.heap[r]? =some o) (hm:∀ i s p,σ.aT i=some s->p∈s.mem->w.cell? p.1=some p.2->w'.cell? p.1=some p.2)
  (Zn:fG.size=gs.size) (pV:∀ x,x≠i->x≠h->fG[x]? =gs[x]?) (lQ:fG[i]? =some g') (dJ:g'.status=.running\/g'.status=.finished) (cJ:∀ op∈ops,op.g=i)
  (R4:Px σ.rd σ.lo σ.sh w.heap.size (Knows (T++ops) h) (T++ops)):Fr P σ J h δ (T++ops) fG w' q:=by
 have Pd:i≠h:=λe=>C.jh (e▸hJ);have C0:Fr P σ J h δ T gs w' q:=C.world hsz o8 hm;refine⟨Zn.trans C.cnt,λx y hx y4 hy=>?_,λx y y4 hy=>?_,C.jh,C.hole,C.wf,λi s e=>by rw[Zn];exact C.there i s e,C0.chans,C0.mem,C.tI,λj hj=>?_,λx y4 hl=>?_,?_,by rw[hsz];exact R4⟩
 ·have e:x≠i:=λe=>y4 (e▸hJ);rw[pV x e hx]at hy;have h0:=C.idle x y hx y4 hy;cases es:σ.aT x with
  |none=>rw[es]at h0;exact⟨h0.1,by rw[Deaf_other T (λz=>e z.symm) ops cJ];exact h0.2⟩
  |some s=>rw[es]at h0;exact h0
 ·by_cases e:x=i
  ·subst e;rw[lQ]at hy;obtain rfl:=bS hy;exact dJ
  ·have Lh:x≠h:=λe=>C.jh (e▸y4);rw[pV x e Lh]at hy;exact C.vZ x y y4 hy
 ·rw[Deaf_other T (g':=i) az ops cJ];exact C.above j az
 ·rw[Deaf_other T (λz:i=x=>y4 (by rw[<- z];exact hJ)) ops cJ];exact C.hear x y4 hl
 ·rw[Deaf_other T Pd ops cJ];exact C.deaf
theorem Df{i:Nat}{fn:bI}{pos:String}{es:Array Event}{sh:Loc->Prop}(wD:∀ (j:Nat) (e:Event),es[j]? =some e->(MemAct.ofEvent e).touch?=none\/((∃ ad wr,e=⟨.cell ad,wr,true⟩/\sh (.cell ad))/\0<deafBehind (Deaf T i) (es.extract 0 j))):
  ∀ (k:Nat) (op:MemOp),(MemOp.ofEvents i fn pos es)[k]? =some op->∀ b,op.act.touch?=some b->b.kind=.atomic/\sh b.loc/\¬ (T++MemOp.ofEvents i fn pos es).heard (T.size+k):=by
 intro k op cq b hb;have PM:=cq;rw[ofEvents_eq,CO]at PM;obtain⟨e,he,rfl⟩:=Lf.1 PM;rcases wD k e he with h0|⟨⟨ad,wr,rfl,hs⟩,hd⟩
 ·simp only at hb;rw[h0]at hb;cases hb
 ·have hk:k<=es.size:=by
   rcases Bc k es.size with h'|h'
   ·omega
   ·rw[FV h']at he;cases he
  have hbe:b=⟨.cell ad,wr,.atomic⟩:=by cases wr<;>simp[MemAct.ofEvent,MemAct.touch?]at hb<;>exact hb.symm
  subst hbe;refine⟨rfl,hs,?_⟩;rintro⟨g,hg,Lj⟩;have hgi:g=i:=by
   have:(T++MemOp.ofEvents i fn pos es)[T.size+k]? =some {g:=i,fn,pos,act:=.ofEvent ⟨.cell ad,wr,true⟩}:=by rw[qq4 az];simpa using cq
   rw[g?_of this]at hg;exact(bS hg).symm
  subst hgi;rw[deaf_inside T g fn pos es k hk]at Lj;omega
end
end
section
open Go.Conc
open Go.ConcN (sumTo upd sumTo_upd upd_ne upd_same)
inductive WS where
 |app|cl (st:St)|qt
def WS.cnt:WS->Nat
 |.app|.cl .rel|.cl .wF|.cl .add=>1
 |_=>0
def WS.opn:WS->Prop
 |.cl .ld|.cl .Li|.cl .F0=>False
 |_=>True
def St.deaf:St->Nat
 |.rel|.wF=>0
 |_=>1
def iA(f:Nat->Nat):List Nat->Nat
 |[]=>0
 |i::l=>f i+iA f l
theorem xf{f g:Nat->Nat}:∀ {l:List Nat},(∀ i∈l,f i=g i)->iA f l=iA g l
 |[],_=>rfl
 |i::l,h=>by rw[iA,iA,h i (by simp),xf λj hj=>h j (by simp[hj])]
theorem tK{α:Type}(D:Nat->α)(x:α)(φ:α->Nat){i:Nat}:∀ {l:List Nat},l.Nodup->i∈l->iA (λj=>φ (upd D i x j)) l+φ (D i)=iA (λj=>φ (D j)) l+φ x
 |[],_,h=>by simp at h
 |j::l,hn,h=>by
  rw[rh]at hn;by_cases e:j=i
  ·subst e;have:iA (λk=>φ (upd D j x k)) l=iA (λk=>φ (D k)) l:=xf λk hk=>by rw[upd_ne D x (λz:k=j=>hn.1 (by rw[<- z];exact hk))]
   simp only[iA,upd_same];omega
  ·have hi:i∈l:=by
    rcases ga.1 h with z|z
    ·exact absurd z.symm e
    ·exact z
   have:=tK D x φ hn.2 hi;simp only[iA,upd_ne D x e];omega
theorem HR{f:Nat->Nat}(h:∀ i,f i<=1):∀ l:List Nat,iA f l<=l.length
 |[]=>by simp[iA]
 |i::l=>by have:=HR h l;have:=h i;simp only[iA,jc];omega
theorem uV{f:Nat->Nat}:∀ {l:List Nat},iA f l=0->∀ i∈l,f i=0
 |[],_,i,hi=>by simp at hi
 |j::l,h,i,hi=>by
  simp only[iA]at h;rcases ga.1 hi with rfl|hi
  ·omega
  ·exact uV (l:=l) az i hi
theorem Dg{f:Nat->Nat}:∀ {l:List Nat},1<=iA f l->∃ i∈l,1<=f i
 |[],h=>by simp[iA]at h
 |j::l,h=>by
  simp only[iA]at h;by_cases hj:1<=f j
  ·exact⟨j,by simp,hj⟩
  ·obtain⟨i,hi,h1⟩:=Dg (l:=l) (f:=f) az;exact⟨i,by simp[hi],h1⟩
theorem TF(x:WS):x.cnt<=1:=by
 cases x with
 |app=>simp[WS.cnt]
 |cl s=>cases s<;>simp[WS.cnt]
 |qt=>simp[WS.cnt]
def V(L:List Nat)(D:Nat->WS):Nat:=iA (λj=>(D j).cnt) L
def PT(P:bL)(σ:Gh)(G:pK)(c N0:Nat)(T:Trace)(i n:Nat)(g:aP):WS->Prop
 |.app=>∃ s cw z0 z1 k,σ.aT i=some s/\s.cases=#[rcase cw z0,rcase c z1]/\n=k+1+N0/\Way P false s k g/\Deaf T i=0/\∀ r,s.tH r->Cl P G N0 .rel (Conc.served r (commResult s.cases s.shape 1 z1 false))
 |.cl x=>Cl P G n x g/\Deaf T i=x.deaf/\(x≠ .rel->∃ r,nY σ.sh G.st T i r)
 |.qt=>QuitsD P n (Deaf T i) g/\∃ r,nY σ.sh G.st T i r
theorem Cl.running{P:bL}{G:pK}{n:Nat}{x:St}{g:aP}(h:Cl P G n x g):g.status=.running:=by
 cases n with
 |zero=>exact h.elim
 |succ n=>exact h.1
theorem PT.other{P:bL}{σ:Gh}{G:pK}{c N0:Nat}{T u:Trace}{i j n:Nat}{g:aP}{x:WS}(H:PT P σ G c N0 T i n g x)(hu:∀ op∈u,op.g=j)(eI:j≠i):PT P σ G c N0 (T++u) i n g x:=by
 have hD:Deaf (T++u) i=Deaf T i:=Deaf_other T eI u hu;cases x with
 |app=>
  obtain⟨s,cw,z0,z1,k,h1,h2,h3,h4,h5,h6⟩:=H;exact⟨s,cw,z0,z1,k,h1,h2,h3,h4,hD.trans h5,h6⟩
 |cl x=>exact⟨H.1,hD.trans H.2.1,λhx=>let⟨r,hr⟩:=H.2.2 hx;⟨r,hr.other hu eI⟩⟩
 |qt=>exact⟨by rw[hD];exact H.1,let⟨r,hr⟩:=H.2;⟨r,hr.other hu eI⟩⟩
structure CI(P:bL)(σ:Gh)(L:List Nat)(G:pK)(c N0:Nat)(w₀:World)(δ:Nat)(T:Trace)(gs:Array aP)(w:World)(q:Nat->Nat)(D:Nat->WS)(f:Nat->Nat)(x y:Value):Prop where
 fr:Fr P σ (· ∈L) 0 δ T gs w q
 ok:G.Ok
 nd:L.Nodup
 len:L.length<=4
 wk:∀ i∈L,∃ g,gs[i]? =some g/\PT P σ G c N0 T i (f i) g (D i)
 shut:∃ k,w.heap[c]? =some (.chan 0 #[] true k k false)
 cw:∀ i s,i∈L->σ.aT i=some s->∃ cw z0 z1 k,s.cases=#[rcase cw z0,rcase c z1]/\w.heap[cw]? =some (.chan 0 #[] false k k false)
 loose:∀ i∈L,σ.lo i
 wg:WG G w₀ x y w
 xg:σ.sh (.cell G.st)
 FH:σ.sh (.cell G.sm)
def si(pk:Bool)(a:aP):aP:=if pk then{a with status:=.blocked}else a
theorem z3{pk:Bool}{a:aP}(hr:a.status=.running)(ho:pk=true->a.offers=none)(w:World):(si pk a).again w=a:=by
 cases pk with
 |false=>exact again_running w (.inl hr)
 |true=>
  have:=ho rfl;unfold si Goroutine.again;simp only[eM,this];cases a
  simp_all
section
variable{P:bL}{σ:Gh}{L:List Nat}{G:pK}{c N0:Nat}{w₀:World}{δ:Nat}{T:Trace}{gs:Array aP}{w w':World}{q:Nat->Nat}{D:Nat->WS}{f:Nat->Nat}{x y x' y':Value}
theorem CI.at(C:CI P σ L G c N0 w₀ δ T gs w q D f x y)(d:Nat):CI P σ L G c N0 w₀ δ T gs (w.at d) q D f x y:=
 ⟨C.fr.at d,C.ok,C.nd,C.len,C.wk,C.shut,C.cw,C.loose,C.wg.at d,C.xg,C.FH⟩
theorem CI.Bj(C:CI P σ L G c N0 w₀ δ T gs w q D f x y){i:Nat}{s:du}{p:Addr×Value}(e:σ.aT i=some s)(hp:p∈s.mem):p.1≠G.st/\p.1≠G.sm:=
 ⟨λz=>C.fr.tI i s _ e ⟨p,hp,rfl⟩ (z▸C.xg),λz=>C.fr.tI i s _ e ⟨p,hp,rfl⟩ (z▸C.FH)⟩
theorem CI.put(C:CI P σ L G c N0 w₀ δ T gs w q D f x y){i n':Nat}{g g' a:aP}{es:Array Event}{ws:WS}{pk:Bool}{sl:Option (Nat×Nat)}(hi:i∈L)(hg:gs[i]? =some g)(hgo:stepG P false g w=.go g' w' es)(nF:WG G w₀ x' y' w')
  (dJ:g'.status=.running\/g'.status=.finished) (R4:Px σ.rd σ.lo σ.sh w.heap.size (Knows (T++MemOp.ofEvents i g.frame.fn g.frame.place es) 0) (T++MemOp.ofEvents i g.frame.fn g.frame.place es))
  (kV:PT P σ G c N0 (T++MemOp.ofEvents i g.frame.fn g.frame.place es) i n' g' ws) (dA:n'<f i) (ha:gs[0]? =some (si pk a)) (z4:a.status=.running) (Dh:pk=true->a.offers=none):
  ∃ (fG:Array aP) (kC:Bool),runT P (crowd gs w sl) i=(.next (crowd fG w' sl),MemOp.ofEvents i g.frame.fn g.frame.place es)/\fG.size=gs.size/\fG[0]? =some (si kC a)/\(kC=true->pk=true)/\(mayWake P g=true->kC=false)/\
   CI P σ L G c N0 w₀ δ (T++MemOp.ofEvents i g.frame.fn g.frame.place es) fG w' q (upd D i ws) (upd f i n') x' y'/\iA (upd f i n') L<iA f L:=by
 have Ja:i≠0:=λe=>C.fr.jh (e▸hi);have Sc:(i==0)=false:=by rw[PB];exact Ja
 have zk:i<gs.size:=(gJ.1 hg).1;have cJ:∀ op∈MemOp.ofEvents i g.frame.fn g.frame.place es,op.g=i:=λop cq=>by obtain⟨e,_,rfl⟩:=Conc.mem_ofEvents cq;rfl
 have hsz:w'.heap.size=w.heap.size:=by rw[nF.size,C.wg.size]
 have o8:∀ (r:Nat) (o:Obj),w.heap[r]? =some o->o.isChan=true->w'.heap[r]? =some o:=λr o h1 h2=>C.wg.Sb nF h1 h2;have hm:∀ i s p,σ.aT i=some s->p∈s.mem->w.cell? p.1=some p.2->w'.cell? p.1=some p.2:=λi s p e hp h1=>by rw[C.wg.Sa nF (C.Bj e hp).1 (C.Bj e hp).2];exact h1
 have Cw:=C.fr.world hsz o8 hm;have pV:∀ z,z≠i->z≠0->((gs.map (woken P g g' w')).setIfInBounds i g')[z]? =gs[z]? :=by
  intro z hz hz0;rw[gq (λe=>hz e.symm),CO];cases e:gs[z]? with
  |none=>rfl
  |some v=>simp[woken_of_again (Cw.fixed hz0 e)]
 have lQ:((gs.map (woken P g g' w')).setIfInBounds i g')[i]? =some g':=jM (by simpa using zk);have h0:((gs.map (woken P g g' w')).setIfInBounds i g')[0]? =some (woken P g g' w' (si pk a)):=by rw[gq Ja,CO,ha];rfl
 have FG:=runT_crowd_go (P:=P) (sl:=sl) hg (by rw[Sc];exact hgo);have Sd:iA (upd f i n') L+f i=iA f L+n':=tK f n' id C.nd hi;have hCI:CI P σ L G c N0 w₀ δ (T++MemOp.ofEvents i g.frame.fn g.frame.place es) ((gs.map (woken P g g' w')).setIfInBounds i g') w' q (upd D i ws) (upd f i n') x' y':=by
  refine⟨C.fr.W4 hi zk hsz o8 hm (by simp) pV lQ dJ cJ R4,C.ok,C.nd,C.len,λj hj=>?_,?_,λj s hj e=>?_,C.loose,nF,C.xg,C.FH⟩
  ·by_cases e:j=i
   ·subst e;exact⟨g',lQ,by rw[upd_same,upd_same];exact kV⟩
   ·obtain⟨gj,h1,h2⟩:=C.wk j hj;refine⟨gj,by rw[pV j e (λz=>C.fr.jh (z▸hj))];exact h1,?_⟩;rw[upd_ne f n' e,upd_ne D ws e];exact h2.other cJ (λz=>e z.symm)
  ·obtain⟨k,hk⟩:=C.shut;exact⟨k,o8 _ _ hk rfl⟩
  ·obtain⟨cw,z0,z1,k,h1,h2⟩:=C.cw j s hj e;exact⟨cw,z0,z1,k,h1,o8 _ _ h2 rfl⟩
 by_cases Pj:mayWake P g=true
 ·refine⟨_,false,FG,by simp,?_,λh=>(by cases h),λ_=>rfl,hCI,az⟩;rw[h0];have m2:(g'.status != .blocked)=true:=by rcases dJ with h|h<;>rw[h]<;>rfl
  have zl:(g'.status != .waiting)=true:=by rcases dJ with h|h<;>rw[h]<;>rfl
  unfold woken;rw[Pj,m2,zl];simp only[Bool.and_self,eM];rw[z3 z4 Dh];rfl
 ·refine⟨_,pk,FG,by simp,?_,λh=>h,λh=>absurd h Pj,hCI,az⟩;rw[h0];unfold woken;simp[Pj]
theorem CI.HS(C:CI P σ L G c N0 w₀ δ T gs w q D f x y){i:Nat}{fn:bI}{pos:String}{m:Mark}(h1:(MemAct.ofEvent (y6 m)).touch?=none)(h2:∀ ad,m≠ .release ad)(h3:(MemAct.ofEvent (y6 m)).low w.heap.size):
  Px σ.rd σ.lo σ.sh w.heap.size (Knows (T++MemOp.ofEvents i fn pos #[y6 m]) 0) (T++MemOp.ofEvents i fn pos #[y6 m]):=by
 refine C.fr.px.mute (λi=>Knows.app _) (λop cq=>?_) (λop cq ad ea=>?_) (gZ _) (λop cq=>?_)
 all_goals
  obtain⟨e,he,rfl⟩:=Conc.mem_ofEvents cq;simp only[oG,ga,l7,fO]at he;subst he
 ·exact h1
 ·simp only[MemAct.ofEvent,MemAct.mark.injEq]at ea;exact absurd ea (h2 ad)
 ·exact h3
def qP(v:Nat):MS->Prop
 |.wF c|.head c=>v<=c
 |.PS u=>v<=u/\1<=u
 |_=>False
inductive Md(L:List Nat)(D:Nat->WS):MS->Value->Value->Bool->Prop
 |opn {tag:MS} (ht:qP (V L D) tag) (hD:∀ i∈L,(D i).opn):Md L D tag (lF (V L D) 0) (rL 0) false
 |reg {pk:Bool} (hD:∀ i∈L,(D i).opn) (h1:1<=V L D):Md L D .reg (lF (V L D) 1) (rL 0) pk
 |rj {pk:Bool} (j:Nat) (hj:j∈L) (hx:D j=.cl .ld\/D j=.cl .Li) (ho:∀ i∈L,i≠j->D i=.qt):Md L D .reg (lF 0 1) (rL 0) pk
 |sj {pk:Bool} (j:Nat) (hj:j∈L) (hx:D j=.cl .F0) (ho:∀ i∈L,i≠j->D i=.qt):Md L D .reg (lF 0 0) (rL 0) pk
 |sema (ho:∀ i∈L,D i=.qt):Md L D .reg (lF 0 0) (rL 1) false
 |fin {tag:MS} (ht:tag=.last\/tag=.Mj\/tag=.acq) (ho:∀ i∈L,D i=.qt):Md L D tag (lF 0 0) (rL 0) false
theorem Mk(hn:L.Nodup){i:Nat}(hi:i∈L)(ws:WS):V L (upd D i ws)+(D i).cnt=V L D+ws.cnt:=tK D ws WS.cnt hn hi
theorem Bl{v v':Nat}(h:v'<=v){t:MS}(ht:qP v t):qP v' t:=by cases t<;>simp only[qP]at ht⊢ <;>omega
theorem Md.same{tag:MS}{pk kC:Bool}(M:Md L D tag x y pk)(hn:L.Nodup){i:Nat}(hi:i∈L){ws:WS}(hD:(D i).opn)(hw:ws.opn)(hc:ws.cnt=(D i).cnt)(hq:D i=.qt->ws=.qt)(Ph:kC=true->pk=true):Md L (upd D i ws) tag x y kC:=by
 have hV:V L (upd D i ws)=V L D:=by have:=Mk (D:=D) hn hi ws;omega
 have cq:(∀ j∈L,(D j).opn)->∀ j∈L,(upd D i ws j).opn:=λh j hj=>by
  by_cases e:j=i
  ·subst e;rw[upd_same];exact hw
  ·rw[upd_ne D ws e];exact h j hj
 have Zo:(∀ j∈L,D j=.qt)->∀ j∈L,upd D i ws j=.qt:=λh j hj=>by
  by_cases e:j=i
  ·subst e;rw[upd_same];exact hq (h j hj)
  ·rw[upd_ne D ws e];exact h j hj
 have Zm:∀ j₀,(∀ j∈L,j≠j₀->D j=.qt)->i≠j₀->∀ j∈L,j≠j₀->upd D i ws j=.qt:=λj₀ h Jd j hj eI=>by
  by_cases e:j=i
  ·subst e;rw[upd_same];exact hq (h j hj eI)
  ·rw[upd_ne D ws e];exact h j hj eI
 cases M with
 |opn ht hD'=>
  have:kC=false:=by cases kC with
   |false=>rfl
   |true=>exact absurd (Ph rfl) (by simp)
  subst this;rw[<- hV];exact .opn (by rw[hV];exact ht) (cq hD')
 |reg hD' h1=>rw[<- hV];exact .reg (cq hD') az
 |rj j hj hx ho=>
  have Jd:i≠j:=λe=>by subst e;rcases hx with hx|hx<;>rw[hx]at hD<;>exact hD
  exact .rj j hj (by rw[upd_ne D ws (iP Jd)];exact hx) (Zm j ho Jd)
 |sj j hj hx ho=>
  have Jd:i≠j:=λe=>by subst e;rw[hx]at hD;exact hD
  exact .sj j hj (by rw[upd_ne D ws (iP Jd)];exact hx) (Zm j ho Jd)
 |sema ho=>
  have:kC=false:=by cases kC with
   |false=>rfl
   |true=>exact absurd (Ph rfl) (by simp)
  subst this;exact .sema (Zo ho)
 |fin ht ho=>
  have:kC=false:=by cases kC with
   |false=>rfl
   |true=>exact absurd (Ph rfl) (by simp)
  subst this;exact .fin ht (Zo ho)
end
end
section
open Go.Conc
open Go.ConcN (sumTo upd sumTo_upd upd_ne upd_same)
section
variable{P:bL}{σ:Gh}{L:List Nat}{G:pK}{c N0:Nat}{w₀:World}{δ:Nat}{T:Trace}{gs:Array aP}{w w':World}{q:Nat->Nat}{D:Nat->WS}{f:Nat->Nat}{x y x' y':Value}{tag:MS}{pk:Bool}
def n4(σ:Gh)(d:Nat)(es:Array Event):Prop:=
 ∀ (j:Nat) (e:Event),es[j]? =some e->(MemAct.ofEvent e).touch?=none\/((∃ ad wr,e=⟨.cell ad,wr,true⟩/\σ.sh (.cell ad))/\0<deafBehind d (es.extract 0 j))
theorem W5{a:Addr}(h:σ.sh (.cell a)):n4 σ 1 #[ar a]:=by
 intro j e he;rcases j with _|j
 ·simp at he;subst he;exact .inr ⟨⟨a,false,rfl,h⟩,by simp[deafBehind]⟩
 ·simp at he
theorem W6{a:Addr}(h:σ.sh (.cell a)):n4 σ 1 #[aw a]:=by
 intro j e he;rcases j with _|j
 ·simp at he;subst he;exact .inr ⟨⟨a,true,rfl,h⟩,by simp[deafBehind]⟩
 ·simp at he
theorem HT{a:Addr}(h:σ.sh (.cell a)):n4 σ 1 #[ar a,aw a]:=by
 intro j e he;rcases j with _|_|j
 ·simp at he;subst he;exact .inr ⟨⟨a,false,rfl,h⟩,by simp[deafBehind]⟩
 ·simp at he;subst he;exact .inr ⟨⟨a,true,rfl,h⟩,by simp[deafBehind]⟩
 ·simp at he
theorem Ml{a:Addr}(h:σ.sh (.cell a)):n4 σ 1 (semEvents a):=by
 intro j e he;unfold semEvents at he⊢;rcases j with _|_|_|_|j
 ·simp at he;subst he;exact .inl rfl
 ·simp at he;subst he;exact .inr ⟨⟨a,false,rfl,h⟩,by simp[deafBehind]⟩
 ·simp at he;subst he;exact .inr ⟨⟨a,true,rfl,h⟩,by simp[deafBehind]⟩
 ·simp at he;subst he;exact .inl rfl
 ·simp at he
theorem CI.wG(C:CI P σ L G c N0 w₀ δ T gs w q D f x y){i d:Nat}{fn:bI}{pos:String}{es:Array Event}(hd:Deaf T i=d)(wD:n4 σ d es)(hm:∀ e∈es,∀ ad,MemAct.ofEvent e≠ .mark (.release ad))(hl:∀ e∈es,(MemAct.ofEvent e).low w.heap.size):
  Px σ.rd σ.lo σ.sh w.heap.size (Knows (T++MemOp.ofEvents i fn pos es) 0) (T++MemOp.ofEvents i fn pos es):=by
 have h:=Df (T:=T) (i:=i) (fn:=fn) (pos:=pos) (es:=es) (sh:=σ.sh) (by rw[hd];exact wD);exact C.fr.px.PL (λi=>Knows.app _) (λop cq=>by obtain⟨e,_,rfl⟩:=Conc.mem_ofEvents cq;rfl) h (λg l _ hr=>by obtain⟨s,e,hl⟩:=hr;exact C.fr.tI g s l e hl)
  (λop cq ad ea=>by obtain⟨e,he,rfl⟩:=Conc.mem_ofEvents cq;exact absurd ea (hm e he ad)) (gZ _) (λop cq=>by obtain⟨e,he,rfl⟩:=Conc.mem_ofEvents cq;exact hl e he)
theorem nY.atom{a:Addr}{i r d:Nat}{fn:bI}{pos:String}{es:Array Event}(H:nY σ.sh a T i r)(hd:Deaf T i=d)(wD:n4 σ d es):nY σ.sh a (T++MemOp.ofEvents i fn pos es) i r:=by have h:=Df (T:=T) (i:=i) (fn:=fn) (pos:=pos) (es:=es) (sh:=σ.sh) (by rw[hd];exact wD);exact H.app λk op cq _ b hb=>h k op cq b hb
theorem CI.Mm(C:CI P σ L G c N0 w₀ δ T gs w q D f x y):G.blk<w.heap.size:=by rw[C.wg.size];exact C.wg.blt
theorem HU{v:WS}(h:v.opn)(h0:v.cnt=0):v=.qt:=by
 cases v with
 |app=>simp[WS.cnt]at h0
 |cl s=>cases s<;>simp_all [WS.cnt,WS.opn]
 |qt=>rfl
theorem Md.TG(M:Md L D tag x y pk){i:Nat}(hi:i∈L)(h1:(D i).cnt=1):(∀ j∈L,(D j).opn)/\1<=V L D/\((qP (V L D) tag/\x=lF (V L D) 0/\y=rL 0/\pk=false)\/(tag=.reg/\x=lF (V L D) 1/\y=rL 0)):=by
 have pa:∀ {a:WS},D i=a->a.cnt=0->False:=λe h=>by rw[e]at h1;omega
 have hV:∀ l:List Nat,i∈l->1<=iA (λj=>(D j).cnt) l:=λl=>by
  induction l with
  |nil=>intro h;simp at h
  |cons j l ih=>
   intro h;rcases ga.1 h with rfl|h
   ·simp only[iA];omega
   ·have:=ih h;simp only[iA];omega
 cases M with
 |opn ht hD=>exact⟨hD,hV L hi,.inl ⟨ht,rfl,rfl,rfl⟩⟩
 |reg hD h=>exact⟨hD,h,.inr ⟨rfl,rfl,rfl⟩⟩
 |rj j hj hx ho=>
  by_cases e:i=j
  ·subst e;rcases hx with hx|hx<;>exact(pa hx (by simp[WS.cnt])).elim
  ·exact(pa (ho i hi e) (by simp[WS.cnt])).elim
 |sj j hj hx ho=>
  by_cases e:i=j
  ·subst e;exact(pa hx (by simp[WS.cnt])).elim
  ·exact(pa (ho i hi e) (by simp[WS.cnt])).elim
 |sema ho=>exact(pa (ho i hi) (by simp[WS.cnt])).elim
 |fin _ ho=>exact(pa (ho i hi) (by simp[WS.cnt])).elim
theorem Md.HW(M:Md L D tag x y pk){i:Nat}(hi:i∈L)(h1:D i=.cl .ld\/D i=.cl .Li):tag=.reg/\x=lF 0 1/\y=rL 0/\∀ j∈L,j≠i->D j=.qt:=by
 have pa:D i≠ .qt:=λe=>by rcases h1 with h|h<;>rw[e]at h<;>cases h
 have Mn:¬ (D i).opn:=by rcases h1 with h|h<;>rw[h]<;>exact λz=>z
 cases M with
 |opn ht hD=>exact absurd (hD i hi) Mn
 |reg hD h=>exact absurd (hD i hi) Mn
 |rj j hj hx ho=>
  by_cases e:i=j
  ·subst e;exact⟨rfl,rfl,rfl,ho⟩
  ·exact absurd (ho i hi e) pa
 |sj j hj hx ho=>
  by_cases e:i=j
  ·subst e;rcases h1 with h|h<;>rw[h]at hx<;>cases hx
  ·exact absurd (ho i hi e) pa
 |sema ho=>exact absurd (ho i hi) pa
 |fin _ ho=>exact absurd (ho i hi) pa
theorem Md.PU(M:Md L D tag x y pk){i:Nat}(hi:i∈L)(h1:D i=.cl .F0):tag=.reg/\x=lF 0 0/\y=rL 0/\∀ j∈L,j≠i->D j=.qt:=by
 have pa:D i≠ .qt:=λe=>by rw[e]at h1;cases h1
 have Mn:¬ (D i).opn:=by rw[h1];exact λz=>z
 cases M with
 |opn ht hD=>exact absurd (hD i hi) Mn
 |reg hD h=>exact absurd (hD i hi) Mn
 |rj j hj hx ho=>
  by_cases e:i=j
  ·subst e;rcases hx with h|h<;>rw[h]at h1<;>cases h1
  ·exact absurd (ho i hi e) pa
 |sj j hj hx ho=>
  by_cases e:i=j
  ·subst e;exact⟨rfl,rfl,rfl,ho⟩
  ·exact absurd (ho i hi e) pa
 |sema ho=>exact absurd (ho i hi) pa
 |fin _ ho=>exact absurd (ho i hi) pa
def Se(P:bL)(σ:Gh)(L:List Nat)(G:pK)(c N0:Nat)(w₀:World)(δ:Nat)(T:Trace)(gs:Array aP)(w:World)(q:Nat->Nat)(f:Nat->Nat)(tag:MS)(pk:Bool)(a:aP)(sl:Option (Nat×Nat))(i:Nat):Prop:=
 ∃ (fG:Array aP) (ops:Array MemOp) (w':World) (D':Nat->WS) (f':Nat->Nat) (x' y':Value) (kC:Bool),runT P (crowd gs w sl) i=(.next (crowd fG w' sl),ops)/\fG.size=gs.size/\fG[0]? =some (si kC a)/\(kC=true->pk=true)/\
  CI P σ L G c N0 w₀ δ (T++ops) fG w' q D' f' x' y'/\Md L D' tag x' y' kC/\iA f' L<iA f L
theorem vE{a:aP}(z4:a.status=.running)(Dh:pk=true->a.offers=none)(r:Nat)(b:Bool):offersAt (si pk a) r b=[]:=by
 cases pk with
 |false=>exact offersAt_of_not_blocked (by unfold si;simp[z4]) _ _
 |true=>unfold si offersAt;simp[Dh rfl]
theorem CI.W7(C:CI P σ L G c N0 w₀ δ T gs w q D f x y)(M:Md L D tag x y pk){i:Nat}{g a:aP}{sl:Option (Nat×Nat)}(hi:i∈L)(hg:gs[i]? =some g)(lU:g.status=.running)(ha:gs[0]? =some (si pk a))(z4:a.status=.running)(Dh:pk=true->a.offers=none):
  Se P σ L G c N0 w₀ δ T gs w q f tag pk a sl i:=by
 have Ja:i≠0:=λe=>C.fr.jh (e▸hi);have Sc:(i==0)=false:=by rw[PB];exact Ja
 have dA:i<gs.size:=(gJ.1 hg).1;have Mo:=C.Mm;obtain⟨g₁,W8,hW⟩:=C.wk i hi;obtain rfl:g₁=g:=bS (W8.symm.trans hg);have go:∀ {g':aP} {w':World} {es:Array Event} {n':Nat} {ws:WS} {x' y':Value},stepG P false g₁ w=.go g' w' es->WG G w₀ x' y' w'->(g'.status=.running\/g'.status=.finished)->
   Px σ.rd σ.lo σ.sh w.heap.size (Knows (T++MemOp.ofEvents i g₁.frame.fn g₁.frame.place es) 0) (T++MemOp.ofEvents i g₁.frame.fn g₁.frame.place es)->PT P σ G c N0 (T++MemOp.ofEvents i g₁.frame.fn g₁.frame.place es) i n' g' ws->n'<f i->
   (∀ kC:Bool,(kC=true->pk=true)->(mayWake P g₁=true->kC=false)->Md L (upd D i ws) tag x' y' kC)->Se P σ L G c N0 w₀ δ T gs w q f tag pk a sl i:=by
  intro g' w' es n' ws x' y' h1 h2 h3 h4 h5 h6 h7;obtain⟨fG,kC,r1,r2,r3,r4,r5,r6,r7⟩:=C.put (sl:=sl) hi hg h1 h2 h3 h4 h5 h6 ha z4 Dh;exact⟨fG,_,w',_,_,_,_,kC,r1,r2,r3,r4,r6,h7 kC r4 r5,r7⟩
 have Mq:∀ {es:Array Event},(∀ e∈es,e.mute=true)->Px σ.rd σ.lo σ.sh w.heap.size (Knows (T++MemOp.ofEvents i g₁.frame.fn g₁.frame.place es) 0) (T++MemOp.ofEvents i g₁.frame.fn g₁.frame.place es):=λhm=>
  C.fr.px.mute (λi=>Knows.app _) (λop cq=>by obtain⟨e,he,rfl⟩:=Conc.mem_ofEvents cq;exact touch_mute (hm e he)) (λop cq ad ea=>by obtain⟨e,he,rfl⟩:=Conc.mem_ofEvents cq;exact absurd ea (xd (hm e he) ad)) (gZ _) (λop cq=>by obtain⟨e,he,rfl⟩:=Conc.mem_ofEvents cq;exact low_mute (hm e he) _)
 have px0:Px σ.rd σ.lo σ.sh w.heap.size (Knows (T++MemOp.ofEvents i g₁.frame.fn g₁.frame.place #[]) 0) (T++MemOp.ofEvents i g₁.frame.fn g₁.frame.place #[]):=Mq (λe he=>by simp at he);cases zm:D i with
 |qt=>
  rw[zm]at hW;obtain⟨hq,r,hR⟩:=hW;cases V6:f i with
  |zero=>rw[V6]at hq;rw[hq.1]at lU;cases lU
  |succ k=>
   rw[V6]at hq;rcases hq with⟨hf,_⟩|⟨_,g',es,hm,lE,CB⟩
   ·rw[hf]at lU;cases lU
   refine go (ws:=.qt) (lE w) C.wg CB.status (Mq hm) ⟨by rw[Deaf_own];exact CB,r,hR.still λop cq=>by obtain⟨e,he,rfl⟩:=Conc.mem_ofEvents cq;exact touch_mute (hm e he)⟩ az λkC hp _=>?_;exact M.same C.nd hi (by rw[zm];exact trivial) trivial (by rw[zm]) (λ_=>rfl) hp
 |app=>
  rw[zm]at hW;obtain⟨s,cw,z0,z1,k,hs,rk,V6,my,Lj,tL⟩:=hW;have oE:=C.loose i hi;have Pf:=C.fr.mem i s hs;have nZ:L6 P false s g₁\/∃ k' g' es d,k=k'+1/\stepG P false g₁ w=.go g' (w.at d) es/\(∀ e∈es,WU s e)/\Way P false s k' g':=by
   cases k with
   |zero=>exact .inl my
   |succ k'=>
    rcases my with L7|⟨_,rK⟩
    ·exact .inl L7
    ·obtain⟨g',es,d,h1,h2,h3⟩:=rK w Pf;exact .inr ⟨k',g',es,d,rfl,h1,h2,h3⟩
  have Mr:∀ kC:Bool,(kC=true->pk=true)->∀ ws:WS,ws.opn->ws.cnt=1->Md L (upd D i ws) tag x y kC:=λkC hp ws h1 h2=>
   M.same C.nd hi (by rw[zm];exact trivial) h1 (by rw[zm,h2];rfl) (λe=>by rw[zm]at e;cases e) hp
  rcases nZ with CC|⟨k',g',es,d,rfl,hgo,wD,V3⟩
  ·
   obtain⟨rr,hrr,_,_,_,_,es,wD,lE⟩:=id CC;obtain⟨cJ,hr,hl,sf,hd⟩:=tJ (i:=i) (fn:=g₁.frame.fn) (pos:=g₁.frame.place) Pf wD;have HX:∀ r,partners (gs.setIfInBounds i ph) r true=[]:=λr=>partners_nil λj v hv=>by
    rcases getElem?_stand gs i j v hv with⟨_,rfl⟩|⟨_,sk⟩
    ·exact offersAt_ph _ _
    ·by_cases hj:j=0
     ·subst hj;rw[ha]at sk;obtain rfl:=bS sk;exact vE z4 Dh r true
     ·exact C.fr.noSend hj sk r
   obtain⟨kc,Zp⟩:=C.shut;obtain⟨cw',z0',z1',kw,W9,hkw⟩:=C.cw i s hi hs;obtain⟨rfl,rfl⟩:cw=cw'/\z0=z0':=by rw[rk]at W9;have:=congrArg (·[0]?) W9;simp[rcase]at this;exact this
   have ho:∀ (m:Nat) (c':CommCase),m≠1->s.cases[m]? =some c'->NoWays w (gs.setIfInBounds i ph) c':=by
    intro m c' hm kF;rw[rk]at kF;rcases m with _|_|m
    ·simp at kF;subst kF;exact ways_recv_none hkw (HX _)
    ·exact absurd rfl hm
    ·simp at kF
   have CD:s.cases[1]? =some (rcase c z1):=by rw[rk];rfl
   have FG:=crowd_sel_recv_closed (P:=P) (sl:=sl) hg (by rw[Sc];exact lE w Pf) CD ho Zp (HX _);rw[finishComm_served,show((1:Nat):Int)=(1:Int)from rfl]at FG;have Sf:∀ op∈MemOp.ofEvents i g₁.frame.fn g₁.frame.place es++#[{g:=i,fn:=rr.frame.fn,pos:=rr.frame.place,act:=.recvClosed c}],op.g=i:=λop cq=>by
    rcases To.1 cq with h|h
    ·exact cJ op h
    ·simp only[oG,ga,l7,fO]at h;subst h;rfl
   have hDf:Deaf (T++(MemOp.ofEvents i g₁.frame.fn g₁.frame.place es++#[{g:=i,fn:=rr.frame.fn,pos:=rr.frame.place,act:=.recvClosed c}])) i=0:=by
    rw[<- FW,Deaf_quiet (λop cq d=>by simp only[oG,ga,l7,fO]at cq;subst cq;rfl),hd T,Lj]
   have TH:c<w.heap.size:=(gJ.1 Zp).1;have p1:=C.fr.px.reads (K':=Knows (T++MemOp.ofEvents i g₁.frame.fn g₁.frame.place es) 0) (λi=>Knows.app _) oE cJ (λop cq b hb=>⟨(hr op cq b hb).1,⟨s,hs,(hr op cq b hb).2⟩,C.fr.tI i s _ hs (hr op cq b hb).2⟩) (λop cq ad ea=>absurd ea (sf op cq ad)) (gZ _) hl;have p2:=p1.mute (u:=#[{g:=i,fn:=rr.frame.fn,pos:=rr.frame.place,act:=.recvClosed c}]) (K':=Knows (T++MemOp.ofEvents i g₁.frame.fn g₁.frame.place es++#[{g:=i,fn:=rr.frame.fn,pos:=rr.frame.place,act:=.recvClosed c}]) 0) (λi=>Knows.app _) (λop cq=>by
     simp only[oG,ga,l7,fO]at cq;subst cq;rfl) (λop cq ad ea=>by
     simp only[oG,ga,l7,fO]at cq;subst cq;cases ea) (gZ _) (λop cq=>by
     simp only[oG,ga,l7,fO]at cq;subst cq;exact TH)
   rw[FW]at p2;have lQ:(gs.setIfInBounds i (Conc.served rr (commResult s.cases s.shape 1 z1 false)))[i]? =some (Conc.served rr (commResult s.cases s.shape 1 z1 false)):=jM dA;have Mb:∀ v,v≠i->(gs.setIfInBounds i (Conc.served rr (commResult s.cases s.shape 1 z1 false)))[v]? =gs[v]? :=λv hv=>gq (λe=>hv e.symm);have Sd:iA (upd f i N0) L+f i=iA f L+N0:=tK f N0 id C.nd hi;refine⟨_,_,w,upd D i (.cl .rel),upd f i N0,x,y,pk,FG,by simp,by rw[Mb 0 (iP Ja)];exact ha,id,?_,Mr pk id _ trivial rfl,az⟩;refine⟨C.fr.W4 hi dA rfl (λ_ _ h _=>h) (λ_ _ _ _ _ h=>h) (by simp) (λv hv _=>Mb v hv) lQ (.inl rfl) Sf p2,C.ok,C.nd,C.len,λj hj=>?_,C.shut,C.cw,C.loose,C.wg,C.xg,C.FH⟩;by_cases e:j=i
   ·subst e;exact⟨_,lQ,by rw[upd_same,upd_same];exact⟨tL rr hrr,hDf,λh=>absurd rfl h⟩⟩
   ·obtain⟨gj,h1,h2⟩:=C.wk j hj;refine⟨gj,by rw[Mb j e];exact h1,?_⟩;rw[upd_ne f N0 e,upd_ne D (.cl .rel) e];exact h2.other Sf (λz=>e z.symm)
  ·obtain⟨cJ,hr,hl,sf,hd⟩:=tJ (i:=i) (fn:=g₁.frame.fn) (pos:=g₁.frame.place) Pf wD;refine go (ws:=.app) hgo (C.wg.at d) (.inl (Way.running ⟨w,Pf⟩ V3)) ?_ ⟨s,cw,z0,z1,k',hs,rk,rfl,V3,(hd T).trans Lj,tL⟩ az λkC hp _=>Mr kC hp _ trivial rfl;exact C.fr.px.reads (λi=>Knows.app _) oE cJ (λop cq b hb=>⟨(hr op cq b hb).1,⟨s,hs,(hr op cq b hb).2⟩,C.fr.tI i s _ hs (hr op cq b hb).2⟩) (λop cq ad ea=>absurd ea (sf op cq ad)) (gZ _) hl
 |cl st=>
  rw[zm]at hW;obtain⟨tL,Lj,zj⟩:=hW;cases V6:f i with
  |zero=>rw[V6]at tL;exact tL.elim
  |succ n=>
   rw[V6]at tL;obtain⟨_,tL⟩:=tL;rcases tL with⟨g',lE,lh⟩|tL
   ·
    refine go (ws:=.cl st) (lE w C.wg.gs) C.wg (.inl lh.running) px0 ⟨lh,by rw[Deaf_own];exact Lj,λh=>let⟨r,hR⟩:=zj h;⟨r,hR.still λop cq=>by obtain⟨e,he,_⟩:=Conc.mem_ofEvents cq;simp at he⟩⟩ az λkC hp _=>?_;have eu:upd D i (.cl st)=D:=by
     funext j
     by_cases e:j=i
     ·subst e;rw[upd_same,zm]
     ·rw[upd_ne D _ e]
    rw[eu];cases M with
    |opn ht hD=>
     have:kC=false:=by cases kC with
      |false=>rfl
      |true=>exact absurd (hp rfl) (by simp)
     subst this;exact .opn ht hD
    |reg hD h=>exact .reg hD h
    |rj j hj hx ho=>exact .rj j hj hx ho
    |sj j hj hx ho=>exact .sj j hj hx ho
    |sema ho=>
     have:kC=false:=by cases kC with
      |false=>rfl
      |true=>exact absurd (hp rfl) (by simp)
     subst this;exact .sema ho
    |fin ht ho=>
     have:kC=false:=by cases kC with
      |false=>rfl
      |true=>exact absurd (hp rfl) (by simp)
     subst this;exact .fin ht ho
   ·have xh:st≠ .rel->∃ r,nY σ.sh G.st T i r:=zj;cases st with
    |rel=>
     obtain⟨g',lE,lh⟩:=tL;have PQ:Deaf T i=0:=Lj;refine go (ws:=.cl .wF) (lE w) C.wg (.inl lh.running) (C.HS rfl (λad=>by simp) Mo) ⟨lh,by rw[Deaf_own,PQ];rfl,λ_=>⟨T.size,?_⟩⟩ az λkC hp _=>M.same C.nd hi (by rw[zm];exact trivial) trivial (by rw[zm];rfl) (λe=>by rw[zm]at e;cases e) hp;have e1:MemOp.ofEvents i g₁.frame.fn g₁.frame.place #[y6 (.releaseMerge G.st)]=#[{g:=i,fn:=g₁.frame.fn,pos:=g₁.frame.place,act:=.mark (.releaseMerge G.st)}]:=by rw[ofEvents_eq];simp[MemAct.ofEvent]
     rw[e1];exact nY.new rfl rfl PQ
    |wF=>
     obtain⟨g',lE,lh⟩:=tL;have PQ:Deaf T i=0:=Lj;obtain⟨r,hR⟩:=xh (by simp);exact go (ws:=.cl .add) (lE w) C.wg (.inl lh.running) (C.HS rfl (λad=>by simp) trivial) ⟨lh,by rw[Deaf_own,PQ];rfl,λ_=>⟨r,hR.still λop cq=>by obtain⟨e,he,rfl⟩:=Conc.mem_ofEvents cq;simp only[oG,ga,l7,fO]at he;subst he;rfl⟩⟩ az
      λkC hp _=>M.same C.nd hi (by rw[zm];exact trivial) trivial (by rw[zm];rfl) (λe=>by rw[zm]at e;cases e) hp
    |add=>
     obtain⟨g',lE,lh,Sg⟩:=tL;have y7:Deaf T i=1:=Lj;obtain⟨r,hR⟩:=xh (by simp);obtain⟨Xa,hV1,Xb⟩:=M.TG hi (by rw[zm];rfl);have hV4:V L D<=4:=Be (HR (λi=>TF _) L) C.len;obtain⟨v,hv⟩:∃ v,V L D=v+1:=⟨V L D-1,az⟩;have px:=C.wG (i:=i) (fn:=g₁.frame.fn) (pos:=g₁.frame.place) y7 (HT C.xg) (λe he ad=>by
      simp only[oG,ga,l7,fO]at he;rcases he with rfl|rfl<;>simp[MemAct.ofEvent]) (λe he=>by
      simp only[oG,ga,l7,fO]at he;rcases he with rfl|rfl<;>exact Mo)
     have V5:Deaf (T++MemOp.ofEvents i g₁.frame.fn g₁.frame.place #[ar G.st,aw G.st]) i=1:=by rw[Deaf_own,y7];rfl
     have Zq:V L (upd D i .qt)=v:=by have:=Mk (D:=D) C.nd hi .qt;rw[zm]at this;simp only[WS.cnt]at this;omega
     have hVl:V L (upd D i (.cl .ld))=v:=by have:=Mk (D:=D) C.nd hi (.cl .ld);rw[zm]at this;simp only[WS.cnt]at this;omega
     have Xc:∀ j∈L,(upd D i .qt j).opn:=λj hj=>by
      by_cases e:j=i
      ·subst e;rw[upd_same];exact trivial
      ·rw[upd_ne D _ e];exact Xa j hj
     rcases Xb with⟨ht,rfl,rfl,rfl⟩|⟨rfl,rfl,rfl⟩
     ·have dJ:w.cell? G.st=some (lF (v+1) 0):=by rw[C.wg.R9 C.ok,hv]
      have hq:=Sg v 0 az az az;refine go (ws:=.qt) (lE w v 0 az az dJ C.wg.fst) (C.wg.setSt C.ok _) hq.status px ⟨by rw[V5];exact hq,r,hR.atom y7 (HT C.xg)⟩ az λkC hp _=>?_;have:kC=false:=by cases kC with
       |false=>rfl
       |true=>exact absurd (hp rfl) (by simp)
      subst this;have hx:=Md.opn (L:=L) (D:=upd D i .qt) (tag:=tag) (by rw[Zq];exact Bl az ht) Xc
      rwa[Zq]at hx
     ·have dJ:w.cell? G.st=some (lF (v+1) 1):=by rw[C.wg.R9 C.ok,hv]
      by_cases h0:v=0
      ·subst h0;refine go (ws:=.cl .ld) (lE w 0 1 az az dJ C.wg.fst) (C.wg.setSt C.ok _) (.inl lh.running) px ⟨lh,V5,λ_=>⟨r,hR.atom y7 (HT C.xg)⟩⟩ az λkC hp _=>?_;refine .rj i hi (.inl (by rw[upd_same])) λj hj eI=>?_;rw[upd_ne D _ eI];have:=uV hVl j hj;simp only[upd_ne D (.cl .ld) eI]at this;exact HU (Xa j hj) this
      ·have hq:=Sg v 1 az az az;refine go (ws:=.qt) (lE w v 1 az az dJ C.wg.fst) (C.wg.setSt C.ok _) hq.status px ⟨by rw[V5];exact hq,r,hR.atom y7 (HT C.xg)⟩ az λkC hp _=>?_;have hx:=Md.reg (L:=L) (D:=upd D i .qt) (pk:=kC) Xc (by rw[Zq];omega)
       rwa[Zq]at hx
    |ld=>
     obtain⟨g',lE,lh⟩:=tL;have y7:Deaf T i=1:=Lj;obtain⟨r,hR⟩:=xh (by simp);obtain⟨rfl,rfl,rfl,ho⟩:=M.HW hi (.inl zm);refine go (ws:=.cl .Li) (lE w (C.wg.R9 C.ok)) C.wg (.inl lh.running) (C.wG y7 (W5 C.xg) (λe he ad=>?_) (λe he=>?_)) ⟨lh,by rw[Deaf_own,y7];rfl,λ_=>⟨r,hR.atom y7 (W5 C.xg)⟩⟩ az λkC hp _=>?_
     ·simp only[oG,ga,l7,fO]at he;subst he;simp[MemAct.ofEvent]
     ·simp only[oG,ga,l7,fO]at he;subst he;exact Mo
     ·exact .rj i hi (.inr (by rw[upd_same])) λj hj eI=>by rw[upd_ne D _ eI];exact ho j hj eI
    |Li=>
     obtain⟨g',lE,lh⟩:=tL;have y7:Deaf T i=1:=Lj;obtain⟨r,hR⟩:=xh (by simp);obtain⟨rfl,rfl,rfl,ho⟩:=M.HW hi (.inr zm);refine go (ws:=.cl .F0) (lE w (C.wg.R9 C.ok) C.wg.fst) (C.wg.setSt C.ok _) (.inl lh.running) (C.wG y7 (W6 C.xg) (λe he ad=>?_) (λe he=>?_)) ⟨lh,by rw[Deaf_own,y7];rfl,λ_=>⟨r,hR.atom y7 (W6 C.xg)⟩⟩ az λkC hp _=>?_
     ·simp only[oG,ga,l7,fO]at he;subst he;simp[MemAct.ofEvent]
     ·simp only[oG,ga,l7,fO]at he;subst he;exact Mo
     ·exact .sj i hi (by rw[upd_same]) λj hj eI=>by rw[upd_ne D _ eI];exact ho j hj eI
    |F0=>
     obtain⟨Pj,g',lE,hq⟩:=tL;have y7:Deaf T i=1:=Lj;obtain⟨r,hR⟩:=xh (by simp);obtain⟨rfl,rfl,rfl,ho⟩:=M.PU hi zm;refine go (ws:=.qt) (lE w (C.wg.csm C.ok) C.wg.fsm) (C.wg.setSm C.ok _) hq.status (C.wG y7 (Ml C.FH) (λe he ad=>?_) (λe he=>?_)) ⟨by rw[Deaf_own,y7];exact hq,r,hR.atom y7 (Ml C.FH)⟩ az λkC hp HY=>?_
     ·simp only[semEvents,oG,ga,l7,fO]at he;rcases he with rfl|rfl|rfl|rfl<;>simp[MemAct.ofEvent]
     ·simp only[semEvents,oG,ga,l7,fO]at he;rcases he with rfl|rfl|rfl|rfl<;>first|exact Mo|trivial
     ·have:kC=false:=HY Pj;subst this;refine .sema λj hj=>?_;by_cases e:j=i
      ·subst e;rw[upd_same]
      ·rw[upd_ne D _ e];exact ho j hj e
end
end
section
open Go.Conc
open Go.ConcN (sumTo upd sumTo_upd upd_ne upd_same)
section
variable{P:bL}{σ:Gh}{L:List Nat}{G:pK}{c N0:Nat}{w₀:World}{δ:Nat}{T:Trace}{gs:Array aP}{w w':World}{q:Nat->Nat}{D:Nat->WS}{f:Nat->Nat}{x y x' y':Value}{tag:MS}{pk:Bool}
theorem Md.aaq(M:Md L D tag x y pk):Md L D tag x y false:=by
 cases M with
 |opn ht hD=>exact .opn ht hD
 |reg hD h=>exact .reg hD h
 |rj j hj hx ho=>exact .rj j hj hx ho
 |sj j hj hx ho=>exact .sj j hj hx ho
 |sema ho=>exact .sema ho
 |fin ht ho=>exact .fin ht ho
theorem PT.runs(C:CI P σ L G c N0 w₀ δ T gs w q D f x y){i n:Nat}{g:aP}{ws:WS}(H:PT P σ G c N0 T i n g ws)(h:ws≠ .qt):g.status=.running:=by
 cases ws with
 |app=>obtain⟨s,cw,z0,z1,k,hs,_,_,hw,_⟩:=H;exact Way.running ⟨w,C.fr.mem i s hs⟩ hw
 |cl st=>exact H.1.running
 |qt=>exact absurd rfl h
theorem CI.turn{a:aP}(z4:a.status=.running):∀ (F:Nat) (T:Trace) (gs:Array aP) (w:World) (q:Nat->Nat) (D:Nat->WS) (f:Nat->Nat) (x y:Value) (pk:Bool) (sl:Option (Nat×Nat)),
  CI P σ L G c N0 w₀ δ T gs w q D f x y->Md L D tag x y pk->gs[0]? =some (si pk a)->(pk=true->a.offers=none)->sumTo gs.size q+iA f L=F->
  ∃ (N:Nat) (fG:Array aP) (w':World) (nG L8:Option (Nat×Nat)) (d:Nat) (T':Trace) (q':Nat->Nat) (D':Nat->WS) (f':Nat->Nat) (x' y':Value),runNT P N (crowd gs w sl) T=(.next (crowd fG w' nG),T')/\
   stepT P (crowd fG w' nG)=runT P (crowd fG (w'.at d) L8) 0/\fG[0]? =some a/\CI P σ L G c N0 w₀ δ T' fG (w'.at d) q' D' f' x' y'/\Md L D' tag x' y' false/\sumTo fG.size q'+iA f' L<=F/\(pk=true->sumTo fG.size q'+iA f' L<F):=by
 intro F
 induction F using Nat.strongRecOn with
 |_ F ih=>
  intro T gs w q D f x y pk sl C M ha Dh hF;have De:∃ (i:Nat) (g:aP),gs[i]? =some g/\g.status=.running:=by
   cases pk with
   |false=>exact⟨0,a,ha,z4⟩
   |true=>
    have:∃ i∈L,D i≠ .qt:=by
     cases M with
     |reg hD h=>
      obtain⟨i,hi,h1⟩:=Dg h;exact⟨i,hi,λe=>by rw[e]at h1;simp[WS.cnt]at h1⟩
     |rj j hj hx ho=>exact⟨j,hj,λe=>by rcases hx with h|h<;>rw[e]at h<;>cases h⟩
     |sj j hj hx ho=>exact⟨j,hj,λe=>by rw[e]at hx;cases hx⟩
    obtain⟨i,hi,eI⟩:=this;obtain⟨g,hg,hW⟩:=C.wk i hi;exact⟨i,g,hg,hW.runs C eI⟩
  have TI:∀ g∈gs,awake g:=C.fr.awake ha (by cases pk<;>simp[si,z4]);obtain⟨i,g,d',nG,hi,hg,dJ⟩:=crowd_pick (P:=P) (w:=w) (sl:=sl) TI De;have Cd:=C.at d';by_cases e:i=0
  ·subst e;have:pk=false:=by
    cases pk with
    |false=>rfl
    |true=>rw[ha]at hi;obtain rfl:=bS hi;simp[si]at hg
   subst this;exact⟨0,gs,w,sl,nG,d',T,q,D,f,x,y,rfl,dJ,ha,Cd,M,az,λh=>by cases h⟩
  ·by_cases hL:i∈L
   ·obtain⟨fG,ops,w',D',f',x',y',kC,r1,r2,r3,r4,r5,r6,r7⟩:=Cd.W7 (sl:=nG) M hL hi hg ha z4 Dh;obtain⟨N,TJ,Ms,s1,s2,d2,Xd,q'',D'',f'',x'',y'',t1,t2,t3,t4,t5,t6,t7⟩:=ih (sumTo fG.size q+iA f' L) (by rw[r2];omega) _ fG w' q D' f' x' y' kC nG r5 r6 r3 (λh=>Dh (r4 h)) rfl;refine⟨1+N,TJ,Ms,s1,s2,d2,Xd,q'',D'',f'',x'',y'',runNT_then (runNT_succ_of (N:=0) rfl (dJ.trans r1)) t1,t2,t3,t4,t5,?_,λ_=>?_⟩
    ·rw[r2]at t6;omega
    ·rw[r2]at t6;omega
   ·obtain⟨fG,ops,q',d₂,FG,sg,Xe,pX,cJ,_,_,C',dA⟩:=Cd.fr.Dd (sl:=nG) hi e hL hg (λs _ _ gx c wa _=>by rw[ha]at wa;obtain rfl:=bS wa;exact vE z4 Dh c true);obtain⟨kC,HZ,Je⟩:∃ kC:Bool,fG[0]? =some (si kC a)/\(kC=true->pk=true):=by
     rcases Xe _ ha with h|⟨w',_,h⟩
     ·exact⟨pk,h,id⟩
     ·exact⟨false,by rw[h,z3 z4 Dh];rfl,λz=>by cases z⟩
    have M':Md L D tag x y kC:=by
     cases kC with
     |false=>exact M.aaq
     |true=>have:=Je rfl;subst this;exact M
    have C2:CI P σ L G c N0 w₀ δ (T++ops) fG ((w.at d').at d₂) q' D f x y:=
     ⟨C',C.ok,C.nd,C.len,λj hj=>by obtain⟨gj,h1,h2⟩:=C.wk j hj;exact⟨gj,by rw[pX j hj];exact h1,h2.other cJ (λz=>hL (z▸hj))⟩,C.shut,C.cw,C.loose,C.wg.at d₂,C.xg,C.FH⟩
    obtain⟨N,TJ,Ms,s1,s2,d2,Xd,q'',D'',f'',x'',y'',t1,t2,t3,t4,t5,t6,t7⟩:=ih (sumTo fG.size q'+iA f L) (by rw[sg];omega) _ fG _ q' D f x y kC nG C2 M' HZ (λh=>Dh (Je h)) rfl;refine⟨1+N,TJ,Ms,s1,s2,d2,Xd,q'',D'',f'',x'',y'',runNT_then (runNT_succ_of (N:=0) rfl (dJ.trans FG)) t1,t2,t3,t4,t5,?_,λ_=>?_⟩
    ·rw[sg]at t6;omega
    ·rw[sg]at t6;omega
def EvM(G:pK)(e:Event):Prop:=(∃ m,e=y6 m/\(MemAct.ofEvent e).touch?=none/\(∀ ad,m≠ .release ad)/\∀ B,G.blk<B->(MemAct.ofEvent e).low B)\/e=y6 (.write G.sm)\/e=ar G.st\/e=aw G.st\/e=ar G.sm\/e=aw G.sm
theorem CI.Xf(C:CI P σ L G c N0 w₀ δ T gs w q D f x y){es:Array Event}(nF:WG G w₀ x' y' w')(wD:∀ e∈es,EvM G e):o7 σ w w' es:=by
 have hsz:w'.heap.size=w.heap.size:=by rw[nF.size,C.wg.size]
 refine⟨az,λr o h1 h2=>C.wg.Sb nF h1 h2,λi s p e hp h1=>by rw[C.wg.Sa nF (C.Bj e hp).1 (C.Bj e hp).2];exact h1,λe he=>?_⟩;have hb:G.blk<w'.heap.size:=by rw[hsz];exact C.Mm
 have pB:∀ i,¬ σ.rd i (.cell G.st):=λi ⟨s,e,h⟩=>C.fr.tI i s _ e h C.xg;have hrm:∀ i,¬ σ.rd i (.cell G.sm):=λi ⟨s,e,h⟩=>C.fr.tI i s _ e h C.FH;rcases wD e he with⟨m,rfl,h1,h2,h3⟩|rfl|rfl|rfl|rfl|rfl
 ·exact⟨λb nI=>(by rw[h1]at nI;cases nI),λad ea=>absurd (MemAct.mark.inj ea) (h2 ad),h3 _ hb⟩
 ·refine⟨λb nI=>?_,(λad ea=>by cases ea),hb⟩;simp only[MemAct.ofEvent,MemAct.touch?,y0]at nI;subst nI;exact⟨λ_=>hrm,λ_=>by simp⟩
 ·refine⟨λb nI=>?_,(λad ea=>by cases ea),hb⟩;simp only[MemAct.ofEvent,MemAct.touch?,y0]at nI;subst nI;exact⟨λ_=>pB,λ_=>by simp⟩
 ·refine⟨λb nI=>?_,(λad ea=>by cases ea),hb⟩;simp only[MemAct.ofEvent,MemAct.touch?,y0]at nI;subst nI;exact⟨λ_=>pB,λ_=>by simp⟩
 ·refine⟨λb nI=>?_,(λad ea=>by cases ea),hb⟩;simp only[MemAct.ofEvent,MemAct.touch?,y0]at nI;subst nI;exact⟨λ_=>hrm,λ_=>by simp⟩
 ·refine⟨λb nI=>?_,(λad ea=>by cases ea),hb⟩;simp only[MemAct.ofEvent,MemAct.touch?,y0]at nI;subst nI;exact⟨λ_=>hrm,λ_=>by simp⟩
theorem CI.ak(C:CI P σ L G c N0 w₀ δ T gs w q D f x y){a a':aP}{es:Array Event}{sl:Option (Nat×Nat)}(ha:gs[0]? =some a)(hgo:stepG P true a w=.go a' w' es)(nF:WG G w₀ x' y' w')(wD:∀ e∈es,EvM G e):
  ∃ (fG:Array aP) (ops:Array MemOp),runT P (crowd gs w sl) 0=(.next (crowd fG w' sl),ops)/\fG.size=gs.size/\fG[0]? =some a'/\CI P σ L G c N0 w₀ (deafBehind δ es) (T++ops) fG w' q D f x' y':=by
 have dA:0<gs.size:=(gJ.1 ha).1;have ho:=C.Xf nF wD;obtain⟨C',HO⟩:=C.fr.own (a:=a) (a':=a') (fn:=a.frame.fn) (pos:=a.frame.place) dA ho;have cJ:∀ op∈MemOp.ofEvents 0 a.frame.fn a.frame.place es,op.g=0:=λop cq=>by obtain⟨e,_,rfl⟩:=Conc.mem_ofEvents cq;rfl
 refine⟨_,_,runT_crowd_go (P:=P) (sl:=sl) ha (by simpa using hgo),by simp,HO,C',C.ok,C.nd,C.len,λj hj=>?_,?_,λj s hj e=>?_,C.loose,nF,C.xg,C.FH⟩
 ·obtain⟨gj,h1,h2⟩:=C.wk j hj;have Ll:j≠0:=λe=>C.fr.jh (e▸hj);refine⟨gj,?_,h2.other cJ (λz=>Ll z.symm)⟩;rw[gq (λz=>Ll z.symm),CO,h1];simp[woken_of_again (again_running w' (C.fr.vZ j gj hj h1))]
 ·obtain⟨k,hk⟩:=C.shut;exact⟨k,ho.chans _ _ hk rfl⟩
 ·obtain⟨cw,z0,z1,k,h1,h2⟩:=C.cw j s hj e;exact⟨cw,z0,z1,k,h1,ho.chans _ _ h2 rfl⟩
def Gh.fR(σ:Gh)(L:List Nat):Gh:={n:=σ.n,aT:=λi=>if i∈L then none else σ.aT i,sh:=σ.sh,bot:=σ.bot}
def Xg:MS->Nat
 |.wF _|.acq=>0
 |_=>1
def g7(P:bL)(σ:Gh)(L:List Nat)(G:pK)(w₀:World)(Fin:aP->Prop)(m:Machine)(T:Trace):Prop:=
 ∃ (N:Nat) (fG:Array aP) (w':World) (nG:Option (Nat×Nat)) (T':Trace) (q':Nat->Nat) (a':aP),runNT P N m T=(.next (crowd fG w' nG),T')/\fG[0]? =some a'/\Fin a'/\Fr P (σ.fR L) (λ_=>False) 0 0 T' fG w' q'/\WG G w₀ (lF 0 0) (rL 0) w'
theorem g7.of{Fin:aP->Prop}{N:Nat}{m m':Machine}{T T':Trace}(h:runNT P N m T=(.next m',T'))(k:g7 P σ L G w₀ Fin m' T'):g7 P σ L G w₀ Fin m T:=by obtain⟨N',fG,w',nG,Xd,q',a',h1,h2⟩:=k;exact⟨N+N',fG,w',nG,Xd,q',a',runNT_then h h1,h2⟩
theorem TK(h0:V L D=0)(hD:∀ i∈L,(D i).opn):∀ i∈L,D i=.qt:=λi hi=>HU (hD i hi) (uV h0 i hi)
def early:MS->Bool
 |.wF _|.head _|.PS _=>true
 |_=>false
theorem Md.Bm{tag:MS}(M:Md L D tag x y pk)(ht:early tag=true):qP (V L D) tag/\(∀ i∈L,(D i).opn)/\x=lF (V L D) 0/\y=rL 0:=by
 cases M with
 |opn ht hD=>exact⟨ht,hD,rfl,rfl⟩
 |reg=>cases ht
 |rj=>cases ht
 |sj=>cases ht
 |sema=>cases ht
 |fin h=>rcases h with rfl|rfl|rfl<;>cases ht
theorem Md.fin_inv{tag:MS}(M:Md L D tag x y pk)(ht:tag=.last\/tag=.Mj\/tag=.acq):(∀ i∈L,D i=.qt)/\x=lF 0 0/\y=rL 0:=by
 cases M with
 |opn h hD=>rcases ht with rfl|rfl|rfl<;>exact h.elim
 |reg=>rcases ht with h|h|h<;>cases h
 |rj=>rcases ht with h|h|h<;>cases h
 |sj=>rcases ht with h|h|h<;>cases h
 |sema=>rcases ht with h|h|h<;>cases h
 |fin _ ho=>exact⟨ho,rfl,rfl⟩
theorem TL{e:Event}(h:EvM G e):∀ z∈#[e],EvM G z:=λz hz=>by simp only[oG,ga,l7,fO]at hz;subst hz;exact h
theorem Mu:EvM G (y6 .disable):=.inl ⟨_,rfl,rfl,λ_=>by simp,λ_ _=>trivial⟩
theorem Mv:EvM G (y6 .enable):=.inl ⟨_,rfl,rfl,λ_=>by simp,λ_ _=>trivial⟩
theorem TM:EvM G (y6 (.acquire G.st)):=.inl ⟨_,rfl,rfl,λ_=>by simp,λ_ h=>h⟩
theorem Jf{Fin:aP->Prop}{tag:MS}{a:aP}(hm:MW P G Fin tag a):∀ (T:Trace) (gs:Array aP) (w:World) (q:Nat->Nat) (D:Nat->WS) (f:Nat->Nat) (x y:Value) (sl:Option (Nat×Nat)),
  CI P σ L G c N0 w₀ (Xg tag) T gs w q D f x y->Md L D tag x y false->gs[0]? =some a->g7 P σ L G w₀ Fin (crowd gs w sl) T:=by
 induction hm with
 |@mute tag g g' hs h k ih=>
  intro T gs w q D f x y sl C M ha;obtain⟨N,uW,w1,s1,s2,d,T1,q1,D1,f1,x1,y1,t1,t2,t3,t4,t5,_,_⟩:=CI.turn hs _ T gs w q D f x y false sl C M ha (λz=>by cases z) rfl;obtain⟨wb,ops,r1,_,r3,r4⟩:=t4.ak (sl:=s2) t3 (h _ t4.wg.gs) t4.wg (λe he=>by simp at he);exact g7.of (runNT_succ_of t1 (t2.trans r1)) (ih _ wb _ q1 D1 f1 x1 y1 s2 r4 t5 r3)
 |@wF c' g g' hs h k ih=>
  intro T gs w q D f x y sl C M ha;obtain⟨N,uW,w1,s1,s2,d,T1,q1,D1,f1,x1,y1,t1,t2,t3,t4,t5,_,_⟩:=CI.turn hs _ T gs w q D f x y false sl C M ha (λz=>by cases z) rfl;obtain⟨wb,ops,r1,_,r3,r4⟩:=t4.ak (sl:=s2) t3 (h _) t4.wg (TL Mu);obtain⟨h1,h2,rfl,rfl⟩:=t5.Bm rfl;exact g7.of (runNT_succ_of t1 (t2.trans r1)) (ih _ wb _ q1 D1 f1 _ _ s2 r4 (.opn h1 h2) r3)
 |@load c' g fv hs h k0 k ih0 ih=>
  intro T gs w q D f x y sl C M ha;obtain⟨N,uW,w1,s1,s2,d,T1,q1,D1,f1,x1,y1,t1,t2,t3,t4,t5,_,_⟩:=CI.turn hs _ T gs w q D f x y false sl C M ha (λz=>by cases z) rfl;obtain⟨h1,h2,rfl,rfl⟩:=t5.Bm rfl;obtain⟨wb,ops,r1,_,r3,r4⟩:=t4.ak (sl:=s2) t3 (h _ (V L D1) h1 (t4.wg.R9 t4.ok)) t4.wg (TL (.inr (.inr (.inl rfl))));by_cases h0:V L D1=0
  ·rw[h0]at r3 r4;exact g7.of (runNT_succ_of t1 (t2.trans r1)) (ih0 _ wb _ q1 D1 f1 _ _ s2 r4 (.fin (.inr (.inl rfl)) (TK h0 h2)) r3)
  ·exact g7.of (runNT_succ_of t1 (t2.trans r1)) (ih (V L D1) az h1 _ wb _ q1 D1 f1 _ _ s2 r4 (.opn ⟨gZ _,az⟩ h2) r3)
 |@PS v g g1 g2 hs h1 h2 k1 k2 ih1 Lm=>
  intro T gs w q D f x y sl C M ha;obtain⟨N,uW,w1,s1,s2,d,T1,q1,D1,f1,x1,y1,t1,t2,t3,t4,t5,_,_⟩:=CI.turn hs _ T gs w q D f x y false sl C M ha (λz=>by cases z) rfl;obtain⟨e1,e2,rfl,rfl⟩:=t5.Bm rfl;obtain⟨hle,tM⟩:=e1;by_cases hv:V L D1=v
  ·have hc:(w1.at d).cell? G.st=some (lF v 0):=by rw[<- hv];exact t4.wg.R9 t4.ok
   obtain⟨wb,ops,r1,_,r3,r4⟩:=t4.ak (sl:=s2) t3 (h1 _ hc t4.wg.fst) (t4.wg.setSt t4.ok (lF v 1)) (λe he=>by
    simp only[oG,ga,l7,fO]at he;rcases he with rfl|rfl
    ·exact .inr (.inr (.inl rfl))
    ·exact .inr (.inr (.inr (.inl rfl))))
   refine g7.of (runNT_succ_of t1 (t2.trans r1)) (ih1 _ wb _ q1 D1 f1 _ _ s2 r4 ?_ r3);rw[<- hv];exact .reg e2 az
  ·obtain⟨wb,ops,r1,_,r3,r4⟩:=t4.ak (sl:=s2) t3 (h2 _ (V L D1) az (t4.wg.R9 t4.ok) t4.wg.fst) t4.wg (TL (.inr (.inr (.inl rfl))));exact g7.of (runNT_succ_of t1 (t2.trans r1)) (Lm _ wb _ q1 D1 f1 _ _ s2 r4 (.opn (show _<=_ by omega) e2) r3)
 |@said g g' hs h k ih=>
  intro T gs w q D f x y sl C M ha;obtain⟨N,uW,w1,s1,s2,d,T1,q1,D1,f1,x1,y1,t1,t2,t3,t4,t5,_,_⟩:=CI.turn hs _ T gs w q D f x y false sl C M ha (λz=>by cases z) rfl;obtain⟨wb,ops,r1,_,r3,r4⟩:=t4.ak (sl:=s2) t3 (h _) t4.wg (TL (.inr (.inl rfl)));exact g7.of (runNT_succ_of t1 (t2.trans r1)) (ih _ wb _ q1 D1 f1 x1 y1 s2 r4 t5 r3)
 |@F0 g g' hs ho h0 h1 k ih=>
  have key:∀ (F:Nat) (T:Trace) (gs:Array aP) (w:World) (q:Nat->Nat) (D:Nat->WS) (f:Nat->Nat) (x y:Value) (pk:Bool) (sl:Option (Nat×Nat)),
    CI P σ L G c N0 w₀ 1 T gs w q D f x y->Md L D .reg x y pk->gs[0]? =some (si pk g)->sumTo gs.size q+iA f L+(if pk then 0 else 1)=F->g7 P σ L G w₀ Fin (crowd gs w sl) T:=by
   intro F
   induction F using Nat.strongRecOn with
   |_ F ihF=>
    intro T gs w q D f x y pk sl C M ha hF;obtain⟨N,uW,w1,s1,s2,d,T1,q1,D1,f1,x1,y1,t1,t2,t3,t4,t5,t6,t7⟩:=CI.turn hs _ T gs w q D f x y pk sl C M ha (λ_=>ho) rfl;have block:y1=rL 0->Md L D1 .reg x1 y1 true->g7 P σ L G w₀ Fin (crowd gs w sl) T:=λhy hM=>by
     have Jg:(w1.at d).cell? G.sm=some (rL 0):=by rw[<- hy];exact t4.wg.csm t4.ok
     obtain⟨wb,ops,r1,r2,r3,r4⟩:=t4.ak (sl:=s2) t3 (h0 _ Jg) t4.wg (λe he=>by simp at he);refine g7.of (runNT_succ_of t1 (t2.trans r1)) (ihF (sumTo wb.size q1+iA f1 L+0) ?_ _ wb _ q1 D1 f1 x1 y1 true s2 r4 hM r3 rfl);rw[r2];cases pk with
     |false=>simp at hF;omega
     |true=>have:=t7 rfl;simp at hF;omega
    cases t5 with
    |opn ht=>exact ht.elim
    |reg hD hV=>exact block rfl (.reg hD hV)
    |rj j hj hx ho=>exact block rfl (.rj j hj hx ho)
    |sj j hj hx ho=>exact block rfl (.sj j hj hx ho)
    |sema hq=>
     obtain⟨wb,ops,r1,r2,r3,r4⟩:=t4.ak (sl:=s2) t3 (h1 _ (t4.wg.csm t4.ok) t4.wg.fsm) (t4.wg.setSm t4.ok (rL 0)) (λe he=>by
      simp only[semEvents,oG,ga,l7,fO]at he;rcases he with rfl|rfl|rfl|rfl
      ·exact Mu
      ·exact .inr (.inr (.inr (.inr (.inl rfl))))
      ·exact .inr (.inr (.inr (.inr (.inr rfl))))
      ·exact Mv)
     exact g7.of (runNT_succ_of t1 (t2.trans r1)) (ih _ wb _ q1 D1 f1 _ _ s2 r4 (.fin (.inl rfl) hq) r3)
    |fin h=>rcases h with h|h|h<;>cases h
  intro T gs w q D f x y sl C M ha;exact key _ T gs w q D f x y false sl C M ha rfl
 |@last g g' hs h k ih=>
  intro T gs w q D f x y sl C M ha;obtain⟨N,uW,w1,s1,s2,d,T1,q1,D1,f1,x1,y1,t1,t2,t3,t4,t5,_,_⟩:=CI.turn hs _ T gs w q D f x y false sl C M ha (λz=>by cases z) rfl;obtain⟨e1,rfl,rfl⟩:=t5.fin_inv (.inl rfl);obtain⟨wb,ops,r1,_,r3,r4⟩:=t4.ak (sl:=s2) t3 (h _ (t4.wg.R9 t4.ok)) t4.wg (TL (.inr (.inr (.inl rfl))));exact g7.of (runNT_succ_of t1 (t2.trans r1)) (ih _ wb _ q1 D1 f1 _ _ s2 r4 (.fin (.inr (.inl rfl)) e1) r3)
 |@Mj g g' hs h k ih=>
  intro T gs w q D f x y sl C M ha;obtain⟨N,uW,w1,s1,s2,d,T1,q1,D1,f1,x1,y1,t1,t2,t3,t4,t5,_,_⟩:=CI.turn hs _ T gs w q D f x y false sl C M ha (λz=>by cases z) rfl;obtain⟨e1,rfl,rfl⟩:=t5.fin_inv (.inr (.inl rfl));obtain⟨wb,ops,r1,_,r3,r4⟩:=t4.ak (sl:=s2) t3 (h _) t4.wg (TL Mv);exact g7.of (runNT_succ_of t1 (t2.trans r1)) (ih _ wb _ q1 D1 f1 _ _ s2 r4 (.fin (.inr (.inr rfl)) e1) r3)
 |@acq g g' hs h k=>
  intro T gs w q D f x y sl C M ha;obtain⟨N,uW,w1,s1,s2,d,T1,q1,D1,f1,x1,y1,t1,t2,t3,t4,t5,_,_⟩:=CI.turn hs _ T gs w q D f x y false sl C M ha (λz=>by cases z) rfl;obtain⟨e1,rfl,rfl⟩:=t5.fin_inv (.inr (.inr rfl));obtain⟨wb,ops,r1,r2,r3,r4⟩:=t4.ak (sl:=s2) t3 (h _) t4.wg (TL TM);have cJ:ops=#[{g:=0,fn:=g.frame.fn,pos:=g.frame.place,act:=.mark (.acquire G.st)}]:=by have:=runT_crowd_go (P:=P) (sl:=s2) t3 (show stepG P (0==0) g (w1.at d)=_ from h _);rw[r1]at this;rw[(wY this).2,ofEvents_eq];simp[MemAct.ofEvent]
  refine g7.of (runNT_succ_of t1 (t2.trans r1)) ⟨0,wb,_,s2,_,λi=>if i∈L then f1 i else q1 i,g',rfl,r3,k,?_,r4.wg⟩;have F:=r4.fr;have R4:=t4.fr.px.acquire (I:=λi=>i∈L) (op:={g:=0,fn:=g.frame.fn,pos:=g.frame.place,act:=.mark (.acquire G.st)}) t4.fr.deaf rfl rfl t4.xg t4.Mm (λi hi=>by obtain⟨gi,_,hW⟩:=t4.wk i hi;rw[e1 i hi]at hW;exact hW.2)
  rw[<- cJ]at R4;have TN:∀ i s,(σ.fR L).aT i=some s->σ.aT i=some s/\i∉L:=λi s e=>by
   simp only[Gh.fR]at e;split at e
   ·cases e
   ·exact⟨e,by assumption⟩
  refine⟨F.cnt,λi v hi _ hv=>?_,λ_ _ z=>z.elim,λz=>z,?_,λi s e=>F.wf i s (TN i s e).1,λi s e=>F.there i s (TN i s e).1,λi s c' _ e hc=>F.chans i s c' (TN i s e).2 (TN i s e).1 hc,λi s e=>F.mem i s (TN i s e).1,λi s l e hl=>F.tI i s l (TN i s e).1 hl,F.above,λi _ hl=>?_,F.deaf,?_⟩
  ·by_cases hL:i∈L
   ·obtain⟨gi,h1,hW⟩:=r4.wk i hL;rw[e1 i hL]at hW;rw[h1]at hv;obtain rfl:=bS hv;simp only[Gh.fR,hL,eM];exact⟨Nat.pos_of_ne_zero hi,hW.1⟩
   ·simp only[Gh.fR,hL,fB];exact F.idle i v hi hL hv
  ·simp only[Gh.fR];split
   ·rfl
   ·exact F.hole
  ·unfold Gh.lo at hl;obtain⟨s,uP⟩:=tv.1 hl;have:=TN i s uP;exact F.hear i this.2 (by unfold Gh.lo;rw[this.1];rfl)
  ·refine R4.conv (λi=>?_) λi l hi=>?_
   ·unfold Gh.lo;simp only[Gh.fR];by_cases hL:i∈L<;>simp[hL]
   ·unfold Gh.rd;simp only[Gh.fR,hi.2,fB]
end
end
section
open Go.Conc
open Go.ConcN (sumTo upd sumTo_upd upd_ne upd_same)
section
variable{P:bL}{σ:Gh}{L:List Nat}{G:pK}{c N0:Nat}{T:Trace}{gs:Array aP}{w:World}{q:Nat->Nat}
theorem Si(L:List Nat):V L (λ_=>.app)=L.length:=by
 unfold V
 induction L with
 |nil=>rfl
 |cons i l ih=>simp only[iA,jc,WS.cnt]at ih⊢;omega
theorem Mw(a:Array Obj)(b:Nat)(o:Obj)(h:a[b]? =some o):a.setIfInBounds b o=a:=by
 apply re;intro i;by_cases e:i=b
 ·subst e;rw[jM (gJ.1 h).1,h]
 ·rw[gq (iP e)]
theorem Mx{G:pK}(ok:G.Ok){x y:Value}(h1:G.cs[G.o1]? =some x)(h2:G.cs[G.o2]? =some y):G.row x y=G.cs:=by
 apply re;intro i;by_cases e2:i=G.o2
 ·subst e2;rw[Mg ok,h2]
 ·by_cases e1:i=G.o1
  ·subst e1;rw[Mf ok,h1]
  ·rw[uU e1 e2]
theorem Jh{σ:Gh}{w w':World}{c:Nat}(hc:c<w'.heap.size)(hsz:w.heap.size<=w'.heap.size):∀ e∈closeEvents c,(∀ b,(MemAct.ofEvent e).touch?=some b->(b.write=true->∀ i,¬ σ.rd i b.loc)/\(σ.sh b.loc->b.kind≠ .plain))/\(∀ ad,MemAct.ofEvent e=.mark (.release ad)->¬ σ.sh (.cell ad))/\(MemAct.ofEvent e).low w'.heap.size:=by
 intro e he;simp only[closeEvents,oG,ga,l7,fO]at he;rcases he with rfl|rfl
 ·refine⟨λb hb=>?_,(λad ea=>by cases ea),hc⟩;simp only[MemAct.ofEvent,MemAct.touch?,y0]at hb;subst hb;exact⟨λh=>by simp at h,λ_=>by simp⟩
 ·exact⟨λb hb=>(by simp[MemAct.ofEvent,MemAct.touch?]at hb),(λad ea=>by cases ea),hc⟩
theorem Fr.shut{Fin:aP->Prop}(C:Fr P σ (λ_=>False) 0 0 T gs w q){a a':aP}{sl:Option (Nat×Nat)}(ha:gs[0]? =some a)(lU:a.status=.running){k:Nat}(hc:w.heap[c]? =some (.chan 0 #[] false k k false))
  (Bn:∀ d,stepG P true a (w.at d)=.go a' ((w.at d).setChan c 0 #[] true k k false) (closeEvents c)) (H0:mayWake P a=true) (HO:a'.status=.running)
  (nd:L.Nodup) (len:L.length<=4) (hL:∀ i∈L,∃ s cw z0 z1,σ.aT i=some s/\s.cases=#[rcase cw z0,rcase c z1]/\cw≠c/\∀ r,s.tH r->Cl P G N0 .rel (Conc.served r (commResult s.cases s.shape 1 z1 false)))
  (lf:∀ i s,σ.aT i=some s->s.has c->i∈L) (ok:G.Ok) (hb:w.heap[G.blk]? =some (.cells G.cs G.ty (0,0))) (h1:G.cs[G.o1]? =some (lF L.length 0)) (h2:G.cs[G.o2]? =some (rL 0)) (xg:σ.sh (.cell G.st)) (FH:σ.sh (.cell G.sm))
  (hm:MW P G Fin (.wF L.length) a'):g7 P σ L G (w.setChan c 0 #[] true k k false) Fin (crowd gs w sl) T:=by
 obtain⟨N,uW,d,d',V7,Sj,T1,q1,t1,t2,t3,t4,C1⟩:=C.picked (sl:=sl) ha lU;have dA:0<uW.size:=(gJ.1 t4).1;have hgo:stepG P (0==0) a (w.at d')=.go a' ((w.at d').setChan c 0 #[] true k k false) (closeEvents c):=Bn d';have FG:=runT_crowd_go (P:=P) (sl:=Sj) t4 hgo;refine g7.of (runNT_succ_of t1 (t2.trans FG)) ?_;have PR:(w.at d').heap[c]? =some (.chan 0 #[] false k k false):=hc;have TH:c<w.heap.size:=(gJ.1 hc).1;have tL:((w.at d').setChan c 0 #[] true k k false).heap[c]? =some (.chan 0 #[] true k k false):=heap_setChan_self _ PR _ _ _ _ _ _;have cJ:∀ op∈MemOp.ofEvents 0 a.frame.fn a.frame.place (closeEvents c),op.g=0:=λop cq=>by obtain⟨e,_,rfl⟩:=Conc.mem_ofEvents cq;rfl
 have hbc:G.blk≠c:=λe=>by rw[e,hc]at hb;cases hb
 have Sk:∀ i∈L,i≠0:=λi hi e=>by obtain⟨s,_,_,_,hs,_⟩:=hL i hi;rw[e,C.hole]at hs;cases hs
 have hcx:∀ i s c',i∉L->σ.aT i=some s->s.has c'->c≠c':=λi s c' hi hs kF e=>hi (lf i s hs (e▸kF));have hw1:(a'.status != .blocked)=true:=by rw[HO];rfl
 have Ji:(a'.status != .waiting)=true:=by rw[HO];rfl
 have Zr:∀ o:aP,woken P a a' ((w.at d').setChan c 0 #[] true k k false) o=o.again ((w.at d').setChan c 0 #[] true k k false):=λo=>by unfold woken;rw[H0,hw1,Ji];rfl
 have TC:∀ i v,i≠0->i∉L->uW[i]? =some v->v.again ((w.at d').setChan c 0 #[] true k k false)=v:=λi v hi Sn hv=>by
  have o6:=C1.idle i v hi (λz=>z) hv;cases e:σ.aT i with
  |none=>rw[e]at o6;exact again_running _ o6.2.status
  |some s=>
   rw[e]at o6;rcases o6 with⟨k',hq,hg⟩|⟨_,g₀,rr,rfl,_⟩
   ·exact again_running _ (.inl (Way.running ⟨_,C1.mem i s e⟩ hg))
   ·refine again_all_open λcc o5=>?_;obtain⟨c',z,rfl⟩:=(C1.wf i s e).recvs cc o5;have HN:=du.has_of_mem o5;obtain⟨k',PO⟩:=C1.chans i s c' (λz=>z) e HN;exact⟨c',z,0,_,k',k',_,rfl,by rw[heap_setChan_ne _ _ _ _ _ _ _ (hcx i s c' Sn e HN)];exact PO⟩
 have il:∀ i,i≠0->((uW.map (woken P a a' ((w.at d').setChan c 0 #[] true k k false))).setIfInBounds 0 a')[i]? =(uW[i]?).map (λo=>o.again ((w.at d').setChan c 0 #[] true k k false)):=λi hi=>by
  rw[gq (iP hi),CO];cases uW[i]? with
  |none=>rfl
  |some v=>simp[Zr]
 have My:∀ i∈L,∃ s cw z0 z1 v kk,σ.aT i=some s/\s.cases=#[rcase cw z0,rcase c z1]/\cw≠c/\(∀ r,s.tH r->Cl P G N0 .rel (Conc.served r (commResult s.cases s.shape 1 z1 false)))/\
   ((uW.map (woken P a a' ((w.at d').setChan c 0 #[] true k k false))).setIfInBounds 0 a')[i]? =some v/\Way P false s kk v/\kk<=q1 i:=λi hi=>by
  obtain⟨s,cw,z0,z1,hs,rk,eI,lh⟩:=hL i hi;obtain⟨v,hv⟩:∃ v,uW[i]? =some v:=⟨uW[i]'(by have:=C1.there i s hs;omega),CA _⟩;have o6:=C1.idle i v (Sk i hi) (λz=>z) hv;rw[hs]at o6;have Sc:(i==0)=false:=by rw[PB];exact Sk i hi
  have hg:=il i (Sk i hi);rw[hv]at hg;rcases o6 with⟨k',hq,hw⟩|⟨hq,g₀,rr,rfl,CC⟩
  ·rw[Sc]at hw;exact⟨s,cw,z0,z1,v,k',hs,rk,eI,lh,by rw[hg];simp[again_running _ (.inl (Way.running ⟨_,C1.mem i s hs⟩ hw))],hw,az⟩
  ·rw[Sc]at CC;refine⟨s,cw,z0,z1,{parked rr s.cases s.shape with status:=.running},0,hs,rk,eI,lh,?_,CC.tries _ _,eK _⟩;rw[hg];simp only[k7,y0];exact again_some_closed (k:=1) (by rw[rk];rfl) tL
 have eN:∀ i s,σ.aT i=some s->s.K ((w.at d').setChan c 0 #[] true k k false):=λi s e p hp=>oH PR (C1.mem i s e p hp) _ _ _ _ _ _;have hfr:Fr P σ (· ∈L) 0 0 (T1++MemOp.ofEvents 0 a.frame.fn a.frame.place (closeEvents c)) ((uW.map (woken P a a' ((w.at d').setChan c 0 #[] true k k false))).setIfInBounds 0 a') ((w.at d').setChan c 0 #[] true k k false) q1:=by
  refine⟨by simpa using C1.cnt,λi v hi Sn hv=>?_,λi v Sn hv=>?_,λz=>Sk 0 z rfl,C.hole,C1.wf,λi s e=>by simpa using C1.there i s e,λi s c' Sn e kF=>?_,eN,C1.tI,λj hj=>?_,λi Sn hl=>?_,?_,?_⟩
  ·rw[il i hi]at hv;obtain⟨v0,Mz,rfl⟩:=Lf.1 hv;rw[TC i v0 hi Sn Mz];have o6:=C1.idle i v0 hi (λz=>z) Mz;cases e:σ.aT i with
   |none=>rw[e]at o6;exact⟨o6.1,by rw[Deaf_other T1 (λz=>hi z.symm) _ cJ];exact o6.2⟩
   |some s=>rw[e]at o6;exact o6
  ·obtain⟨s,cw,z0,z1,v',kk,hs,_,_,_,sk,hw,_⟩:=My i Sn;rw[sk]at hv;obtain rfl:=bS hv;exact .inl (Way.running ⟨_,eN i s hs⟩ hw)
  ·obtain⟨k',PO⟩:=C1.chans i s c' (λz=>z) e kF;exact⟨k',by rw[heap_setChan_ne _ _ _ _ _ _ _ (hcx i s c' Sn e kF)];exact PO⟩
  ·simp only[I5,Array.size_map]at hj;rw[Deaf_other T1 (g':=0) az _ cJ];exact C1.above j hj
  ·have Ja:i≠0:=λe=>by subst e;unfold Gh.lo at hl;rw[C.hole]at hl;cases hl
   rw[Deaf_other T1 (λz=>Ja z.symm) _ cJ];exact C1.hear i (λz=>z) hl
  ·rw[Deaf_own,C1.deaf];rfl
  ·have PW:=Jh (σ:=σ) (w:=w) (w':=(w.at d').setChan c 0 #[] true k k false) (c:=c) (by rw[lV];exact TH) (by rw[lV];exact gZ _);refine C1.px.own cJ (λop cq b hb=>?_) (λop cq ad ea=>?_) (by rw[lV];exact gZ _) (λop cq=>?_)
   ·obtain⟨e,he,rfl⟩:=Conc.mem_ofEvents cq;exact⟨λhw g _=>(((PW e he).1 b hb).1 hw g),((PW e he).1 b hb).2⟩
   ·obtain⟨e,he,rfl⟩:=Conc.mem_ofEvents cq;exact(PW e he).2.1 ad ea
   ·obtain⟨e,he,rfl⟩:=Conc.mem_ofEvents cq;exact(PW e he).2.2
 have lQ:((uW.map (woken P a a' ((w.at d').setChan c 0 #[] true k k false))).setIfInBounds 0 a')[0]? =some a':=jM (by simpa using dA);have Xh:∃ f:Nat->Nat,∀ i∈L,∃ v,((uW.map (woken P a a' ((w.at d').setChan c 0 #[] true k k false))).setIfInBounds 0 a')[i]? =some v/\PT P σ G c N0 (T1++MemOp.ofEvents 0 a.frame.fn a.frame.place (closeEvents c)) i (f i) v .app:=by refine⟨λi=>q1 i+1+N0,λi hi=>?_⟩;obtain⟨s,cw,z0,z1,v,kk,hs,rk,_,lh,hv,hw,Di⟩:=My i hi;refine⟨v,hv,s,cw,z0,z1,q1 i,hs,rk,rfl,hw.mono Di,?_,lh⟩;rw[Deaf_other T1 (λz=>Sk i hi z.symm) _ cJ];exact C1.hear i (λz=>z) (by unfold Gh.lo;rw[hs];rfl)
 obtain⟨f,hf⟩:=Xh;have Xi:WG G (w.setChan c 0 #[] true k k false) (lF L.length 0) (rL 0) ((w.at d').setChan c 0 #[] true k k false):=by
  have y2:(w.setChan c 0 #[] true k k false).heap[G.blk]? =some (.cells G.cs G.ty (0,0)):=by rw[heap_setChan_ne _ _ _ _ _ _ _ (iP hbc)];exact hb
  refine⟨?_,rfl,rfl,y2⟩;rw[Mx ok h1 h2,Mw _ _ _ y2];rfl
 refine Jf hm _ _ _ q1 (λ_=>.app) f _ _ Sj ⟨hfr,ok,nd,len,hf,⟨k,tL⟩,λi s hi e=>?_,λi hi=>?_,Xi,xg,FH⟩ ?_ lQ
 ·obtain⟨s',cw,z0,z1,_,_,hs,rk,eI,_⟩:=My i hi;rw[e]at hs;obtain rfl:=bS hs;obtain⟨k',PO⟩:=C1.chans i s cw (λz=>z) e ⟨0,z0,by rw[rk];rfl⟩;exact⟨cw,z0,z1,k',rk,by rw[heap_setChan_ne _ _ _ _ _ _ _ (iP eI)];exact PO⟩
 ·obtain⟨s,_,_,_,hs,_⟩:=hL i hi;unfold Gh.lo;rw[hs];rfl
 ·have:=Md.opn (L:=L) (D:=λ_=>.app) (tag:=.wF L.length) (by rw[Si];exact gZ _) (λi _=>trivial)
  rwa[Si]at this
end
structure Sm(w w₁:World):Prop where
 hp:w₁.heap=w.heap
 os:w₁.os=w.os
 out:w₁.output=w.output
theorem Sm.refl(w:World):Sm w w:=⟨rfl,rfl,rfl⟩
theorem Sm.trans{a b c:World}(h:Sm a b)(k:Sm b c):Sm a c:=⟨k.hp.trans h.hp,k.os.trans h.os,k.out.trans h.out⟩
theorem Sm.at{a b:World}(h:Sm a b)(d:Nat):Sm a (b.at d):=h.trans ⟨rfl,rfl,rfl⟩
theorem Sm.cell{w w₁:World}(h:Sm w w₁)(a:Addr):w₁.cell? a=w.cell? a:=by unfold World.cell?;rw[h.hp]
theorem Sm.setChan{w w₁:World}(h:Sm w w₁)(c cap:Nat)(V4:Array Value)(cl:Bool)(s r:Nat)(tm:Bool):Sm (w.setChan c cap V4 cl s r tm) (w₁.setChan c cap V4 cl s r tm):=
 ⟨by simp only[World.setChan,h.hp],h.os,h.out⟩
theorem nH.sm{σ:Gh}{s:du}{w w₁:World}(h:nH σ s w)(e:Sm w w₁):nH σ s w₁:=
 ⟨h.wf,λc hc=>by rw[e.hp];exact h.chans c hc,λp hp=>by rw[e.cell];exact h.mem p hp,h.tI⟩
inductive vF(P:bL)(Post:Value->World->Prop):Gh->Nat->Nat->aP->World->Prop
 |own {σ:Gh} {h δ:Nat} {g:aP} {w:World} (g':World->aP) (w':World->World) (es:World->Array Event) (hs:g.status=.running)
   (h1:∀ w₁,Sm w w₁->stepG P (h==0) g w₁=.go (g' w₁) (w' w₁) (es w₁)) (h2:∀ w₁,Sm w w₁->o7 σ w₁ (w' w₁) (es w₁)) (h3:∀ w₁,Sm w w₁->vF P Post σ h (deafBehind δ (es w₁)) (g' w₁) (w' w₁)):vF P Post σ h δ g w
 |hire {σ:Gh} {h:Nat} {g a' child:aP} {w:World} (s:du) (m:Nat) (es:Array Event) (hs:g.status=.running) (h1:∀ w₁,Sm w w₁->stepG P (h==0) g w₁=.spawn a' child w₁ es) (h2:∀ w₁,Sm w w₁->o7 σ w₁ w₁ es) (hd:deafBehind 0 es=0)
   (kV:nH σ s w) (my:Way P false s m child) (h3:vF P Post (σ.n0 s) h 0 a' w):vF P Post σ h 0 g w
 |give {σ:Gh} {h:Nat} {g a₂:aP} {w:World} (j c kk k m:Nat) (s sH:du) (v z z':Value) (es:Array Event) (hs:g.status=.running) (hj:σ.aT j=some s) (hk:s.cases[kk]? =some (rcase c z)) (lf:∀ i s',σ.aT i=some s'->s'.has c->i=j)
   (h1:∀ w₁,Sm w w₁->stepG P (h==0) g w₁=.comm a₂ #[scase c v z'] true .send w₁ es) (h2:∀ w₁,Sm w w₁->o7 σ w₁ w₁ es) (hd:deafBehind 0 es=0) (hc:w.heap[c]? =some (.chan 0 #[] false k k false)) (kV:nH σ sH w) (my:Way P (h==0) sH m (Conc.served a₂ undef))
   (h3:∀ r,s.tH r->vF P Post (σ.given h j sH) j 0 (Conc.served r (commResult s.cases s.shape kk v true)) (w.setChan c 0 #[] false (k+1) (k+1) false)):vF P Post σ h 0 g w
 |shut {σ:Gh} {g a':aP} {w:World} (L:List Nat) (G:pK) (c k N0:Nat) (Fin:aP->Prop) (hs:g.status=.running) (hc:w.heap[c]? =some (.chan 0 #[] false k k false))
   (Bn:∀ w₁,Sm w w₁->stepG P true g w₁=.go a' (w₁.setChan c 0 #[] true k k false) (closeEvents c)) (H0:mayWake P g=true) (HO:a'.status=.running)
   (nd:L.Nodup) (len:L.length<=4) (hL:∀ i∈L,∃ s cw z0 z1,σ.aT i=some s/\s.cases=#[rcase cw z0,rcase c z1]/\cw≠c/\∀ r,s.tH r->Cl P G N0 .rel (Conc.served r (commResult s.cases s.shape 1 z1 false)))
   (lf:∀ i s,σ.aT i=some s->s.has c->i∈L) (ok:G.Ok) (hb:w.heap[G.blk]? =some (.cells G.cs G.ty (0,0))) (e1:G.cs[G.o1]? =some (lF L.length 0)) (e2:G.cs[G.o2]? =some (rL 0)) (xg:σ.sh (.cell G.st)) (FH:σ.sh (.cell G.sm))
   (hm:MW P G Fin (.wF L.length) a') (h3:∀ V8 Ms,Fin V8->WG G (w.setChan c 0 #[] true k k false) (lF 0 0) (rL 0) Ms->vF P Post (σ.fR L) 0 0 V8 Ms):vF P Post σ 0 0 g w
 |pU {σ:Gh} {h δ:Nat} {g:aP} {w:World} (R2:Loc->Prop) (gu:∀ l,σ.sh l->R2 l) (vY:∀ l,R2 l->¬ σ.sh l->∃ a:Addr,l=.cell a/\w.heap.size<=a.block) (h3:vF P Post {σ with sh:=R2} h δ g w):vF P Post σ h δ g w
 |done{σ:Gh} {g:aP} {w:World} (v:Value) (hs:g.status=.running) (h1:∀ w₁,Sm w w₁->stepG P true g w₁=.ended (.done v) w₁ #[]) (hn:∀ i,σ.aT i=none) (hp:∀ w₁,Sm w w₁->Post v w₁):vF P Post σ 0 0 g w
def Ends(P:bL)(Post:Value->World->Prop)(m:Machine)(T:Trace):Prop:=
 ∃ N last o w' t',runNT P (N+1) m T=(.ended o w',t')/\runN P N m=.next last/\step P last=.ended o w'/\Good P Post last o w' t'
theorem Ends.of{P:bL}{Post:Value->World->Prop}{N:Nat}{m m':Machine}{T T':Trace}(h:runNT P N m T=(.next m',T'))(k:Ends P Post m' T'):Ends P Post m T:=by
 obtain⟨N',last,o,w',t',e1,e2,e3,e4⟩:=k;refine⟨N+N',last,o,w',t',?_,?_,e3,e4⟩
 ·rw[Nat.add_assoc,runNT_add,h];exact e1
 ·rw[runN_add,<- runNT_fst P N m T,h];exact e2
theorem vF.ends{P:bL}{Post:Value->World->Prop}{σ:Gh}{h δ:Nat}{g:aP}{w:World}(R:vF P Post σ h δ g w):
  ∀ (w₁:World) (gs:Array aP) (sl:Option (Nat×Nat)) (T:Trace) (q:Nat->Nat),Sm w w₁->Fr P σ (λ_=>False) h δ T gs w₁ q->gs[h]? =some g->Ends P Post (crowd gs w₁ sl) T:=by
 induction R with
 |@own σ h δ g w g' w' es hs h1 h2 h3 ih=>
  intro w₁ gs sl T q hw C hg;obtain⟨N,uW,d,d',V7,Sj,T1,q1,t1,t2,t3,t4,C1⟩:=C.picked (sl:=sl) hg hs;have nF:=hw.at d';have dA:h<uW.size:=(gJ.1 t4).1;obtain⟨C2,Pk⟩:=C1.own (a:=g) (a':=g' (w₁.at d')) (fn:=g.frame.fn) (pos:=g.frame.place) dA (h2 _ nF);exact Ends.of (runNT_succ_of t1 (t2.trans (runT_crowd_go (P:=P) (sl:=Sj) t4 (h1 _ nF)))) (ih _ nF _ _ Sj _ q1 (Sm.refl _) C2 Pk)
 |@hire σ h g a' child w s m es hs h1 h2 hd kV my h3 ih=>
  intro w₁ gs sl T q hw C hg;obtain⟨N,uW,d,d',V7,Sj,T1,q1,t1,t2,t3,t4,C1⟩:=C.picked (sl:=sl) hg hs;have nF:=hw.at d';obtain⟨wb,ops,q2,r1,r2,C2⟩:=C1.hire (sl:=Sj) t4 (h1 _ nF) (h2 _ nF) hd (kV.sm nF) my;exact Ends.of (runNT_succ_of t1 (t2.trans r1)) (ih _ wb Sj _ q2 nF C2 r2)
 |@give σ h g a₂ w j c kk k m s sH v z z' es hs hj hk lf h1 h2 hd hc kV my h3 ih=>
  intro w₁ gs sl T q hw C hg;obtain⟨N,uW,d,V7,T1,q1,r1,⟨r,hr,r2⟩,C1⟩:=C.give (sl:=sl) hj hk lf hg hs (λd=>h1 _ (hw.at d)) (λd=>h2 _ (hw.at d)) hd (by rw[hw.hp];exact hc) (kV.sm hw) my;exact Ends.of r1 (ih r hr _ uW V7 _ q1 ((hw.at d).setChan _ _ _ _ _ _ _) C1 r2)
 |@shut σ g a' w L G c k N0 Fin hs hc Bn H0 HO nd len hL lf ok hb e1 e2 xg FH hm h3 ih=>
  intro w₁ gs sl T q hw C hg;obtain⟨N,uW,w',V7,T1,q1,V8,r1,r2,r3,C1,hG⟩:=C.shut (sl:=sl) (Fin:=Fin) hg hs (by rw[hw.hp];exact hc) (λd=>Bn _ (hw.at d)) H0 HO nd len hL lf ok (by rw[hw.hp];exact hb) e1 e2 xg FH hm;have Ji:=hw.setChan c 0 #[] true k k false;have V3:WG G (w.setChan c 0 #[] true k k false) (lF 0 0) (rL 0) w':=⟨by rw[hG.hp,Ji.hp],by rw[hG.os,Ji.os],by rw[hG.out,Ji.out],by rw[<- Ji.hp];exact hG.b0⟩;exact Ends.of r1 (ih V8 w' r3 V3 w' uW V7 _ q1 (Sm.refl _) C1 r2)
 |@pU σ h δ g w R2 gu vY h3 ih=>
  intro w₁ gs sl T q hw C hg;refine ih w₁ gs sl T q hw ?_ hg;refine⟨C.cnt,C.idle,C.vZ,C.jh,C.hole,C.wf,C.there,C.chans,C.mem,λi s l e hl hs=>?_,C.above,C.hear,C.deaf,C.px.pU gu λl h1 h2=>by rw[hw.hp];exact vY l h1 h2⟩;by_cases h0:σ.sh l
  ·exact C.tI i s l e hl h0
  ·obtain⟨a,rfl,hb⟩:=vY l hs h0;obtain⟨p,hp,ep⟩:=hl;obtain rfl:=Loc.cell.inj ep;have:=HM (C.mem i s e p hp);rw[hw.hp]at this;omega
 |@done σ g w v hs h1 hn hp=>
  intro w₁ gs sl T q hw C hg;have hL:Leavers P T gs q:=⟨λi x hi hx=>by have:=C.idle i x az (λz=>z) hx;rw[hn i]at this;exact this.2,C.above⟩
  have hP:Past σ.sh w₁.heap.size T:=C.px.toPast C.deaf λi hl=>by unfold Gh.lo at hl;rw[hn i]at hl;cases hl
  exact beside_ends (D:=λ_ _ _=>False) (Post:=Post) (sl:=sl) (n:=0) (λ_ _ _ h=>h.elim) hg hL hP (λw₂ h₂=>by obtain⟨d,rfl⟩:=h₂;exact⟨hs,v,#[],h1 _ (hw.at d),λe he=>by simp at he,hp _ (hw.at d)⟩)
theorem TO(P:bL)(g:aP)(w:World)(bot:Nat):Fr P {n:=1,aT:=λ_=>none,sh:=λ_=>False,bot:=bot} (λ_=>False) 0 0 #[] #[g] w (λ_=>0):=by
 refine⟨rfl,λi x hi _ hx=>?_,λ_ _ z=>z.elim,λz=>z,rfl,λ_ _ e=>(by cases e),λ_ _ e=>(by cases e),λ_ _ _ _ e=>(by cases e),λ_ _ e=>(by cases e),λ_ _ _ e=>(by cases e),λ_ _=>rfl,λi _ hl=>?_,rfl,?_⟩
 ·have:i<1:=by simpa using(gJ.1 hx).1
  omega
 ·cases hl
 ·have h:=TA;refine⟨h.clean,λi a ha=>by simp[touchAt,Trace.act?]at ha,λi a ha=>by simp[touchAt,Trace.act?]at ha,λi a ha=>by simp[touchAt,Trace.act?]at ha,λi ad ha=>by simp[Trace.act?]at ha,by simp⟩
theorem vF.whole{P:bL}{Post:Value->World->Prop}{g:aP}{w:World}{bot:Nat}(R:vF P Post {n:=1,aT:=λ_=>none,sh:=λ_=>False,bot:=bot} 0 0 g w):Ends P Post (solo g w) #[]:=by rw[solo_eq_crowd];exact R.ends w #[g] none #[] _ (Sm.refl w) (TO P g w bot) rfl
end
section
open Go.Conc
open Go.ConcR (deafBehind_cons deafBehind_one)
structure jW where
 rd:Nat->aQ->Nat->Bool
 sh:aQ->Nat->Bool
 bot:Nat:=0
def Obj.quiet:Obj->Bool
 |.cells .. =>false
 |.chan .. =>false
 |_=>true
def eA:Value->Bool
 |.agg _=>false
 |.tuple _=>false
 |_=>true
def ss(H:Array Obj)(r:Nat):Option (aQ×Nat):=
 match H[r]? with
 |some (.cells c elem _)=>some (elem,c.size)
 |_=>none
def wH(H:Array Obj)(a:Addr):Bool:=
 match H[a.block]? with
 |some (.cells _ _ (lo,hi))=>lo<=a.off&&a.off<hi
 |_=>false
def j3(B:jW)(H:Array Obj):Mark->Prop
 |.acquire a|.releaseMerge a|.read a=>∃ c ty,H[a.block]? =some (.cells c ty (0,0))
 |.release a=>∃ c ty,H[a.block]? =some (.cells c ty (0,0))/\B.sh ty a.off=false
 |.write a=>∃ c ty,H[a.block]? =some (.cells c ty (0,0))/\B.rd a.block ty a.off=false
 |_=>True
def nJ:Mark->Nat->Nat
 |.disable,d=>d+1
 |.enable,d=>d-1
 |_,d=>d
def di(P:bL)(B:jW){α:Type}:Sem α->Array Obj->Nat->(α->Array Obj->Nat->Prop)->Prop
 |.pure a,H,d,Q=>Q a H d
 |.load m a k,H,d,Q=>∃ c ty v,(∃ fr,H[a.block]? =some (.cells c ty fr))/\a.spot=none/\c[a.off]? =some v/\(m=.plain->a.block<B.bot\/B.sh ty a.off=false)/\di P B (k v) H d Q
 |.store m a v k,H,d,Q=>eA v=true/\∃ c ty,H[a.block]? =some (.cells c ty (0,0))/\a.spot=none/\a.off<c.size/\B.rd a.block ty a.off=false/\(m=.plain->B.sh ty a.off=false)/\
   di P B k (H.setIfInBounds a.block (.cells (c.setIfInBounds a.off v) ty (0,0))) d Q
 |.new o k,H,d,Q=>di P B (k H.size) (H.push o) d Q
 |.shape r k,H,d,Q=>di P B (k (ss H r)) H d Q
 |.freeze _ _ _,_,_,_=>False
 |.frozen a k,H,d,Q=>di P B (k (wH H a)) H d Q
 |.getObj r k,H,d,Q=>∃ o,H[r]? =some o/\Obj.quiet o=true/\di P B (k o) H d Q
 |.setObj r o k,H,d,Q=>∃ o₀,H[r]? =some o₀/\Obj.quiet o₀=true/\Obj.quiet o=true/\di P B k (H.setIfInBounds r o) d Q
 |.choose q k,H,d,Q=>if q.forced then di P B (k 0) H d Q else∀ n,di P B (k (q.cut n)) H d Q
 |.sys _ _,_,_,_=>False
 |.program k,H,d,Q=>di P B (k P) H d Q
 |.mark m k,H,d,Q=>j3 B H m/\di P B k H (nJ m d) Q
 |.halt _,_,_,_=>False
section
variable{P:bL}{B:jW}{α β:Type}
theorem n5{s:Sem α}{H:Array Obj}{d:Nat}{Q Q':α->Array Obj->Nat->Prop}(hQ:∀ a H d,Q a H d->Q' a H d)(h:di P B s H d Q):di P B s H d Q':=by
 induction s generalizing H d with
 |pure a=>exact hQ _ _ _ h
 |load m a k ih=>obtain⟨c,ty,v,h1,h2,h3,h4,h5⟩:=h;exact⟨c,ty,v,h1,h2,h3,h4,ih _ h5⟩
 |store m a v k ih=>obtain⟨h0,c,ty,h1,h2,h3,h4,h5,h6⟩:=h;exact⟨h0,c,ty,h1,h2,h3,h4,h5,ih h6⟩
 |new o k ih=>exact ih _ h
 |shape r k ih=>exact ih _ h
 |freeze a n k ih=>exact h.elim
 |frozen a k ih=>exact ih _ h
 |getObj r k ih=>obtain⟨o,h1,h2,h3⟩:=h;exact⟨o,h1,h2,ih _ h3⟩
 |setObj r o k ih=>obtain⟨o₀,h1,h2,Ln,h3⟩:=h;exact⟨o₀,h1,h2,Ln,ih h3⟩
 |choose q k ih=>
  simp only[di]at h⊢;split
  ·rename_i e;rw[aK e]at h;exact ih _ h
  ·rename_i e;rw[ao e]at h;exact λn=>ih _ (h n)
 |sys c k ih=>exact h.elim
 |program k ih=>exact ih _ h
 |mark m k ih=>exact⟨h.1,ih h.2⟩
 |halt x=>exact h.elim
theorem MA{s:Sem α}{f:α->Sem β}{H:Array Obj}{d:Nat}{Q:β->Array Obj->Nat->Prop}(h:di P B s H d λa H d=>di P B (f a) H d Q):di P B (s.bind f) H d Q:=by
 induction s generalizing H d with
 |pure a=>exact h
 |load m a k ih=>obtain⟨c,ty,v,h1,h2,h3,h4,h5⟩:=h;exact⟨c,ty,v,h1,h2,h3,h4,ih _ h5⟩
 |store m a v k ih=>obtain⟨h0,c,ty,h1,h2,h3,h4,h5,h6⟩:=h;exact⟨h0,c,ty,h1,h2,h3,h4,h5,ih h6⟩
 |new o k ih=>exact ih _ h
 |shape r k ih=>exact ih _ h
 |freeze a n k ih=>exact h.elim
 |frozen a k ih=>exact ih _ h
 |getObj r k ih=>obtain⟨o,h1,h2,h3⟩:=h;exact⟨o,h1,h2,ih _ h3⟩
 |setObj r o k ih=>obtain⟨o₀,h1,h2,Ln,h3⟩:=h;exact⟨o₀,h1,h2,Ln,ih h3⟩
 |choose q k ih=>
  simp only[di,Sem.bind]at h⊢;split
  ·rename_i e;rw[aK e]at h;exact ih _ h
  ·rename_i e;rw[ao e]at h;exact λn=>ih _ (h n)
 |sys c k ih=>exact h.elim
 |program k ih=>exact ih _ h
 |mark m k ih=>exact⟨h.1,ih h.2⟩
 |halt x=>exact h.elim
theorem ah{s:Sem α}{f:α->Sem β}{H:Array Obj}{d:Nat}{Q:β->Array Obj->Nat->Prop}(h:di P B s H d λa H d=>di P B (f a) H d Q):di P B (s >>= f) H d Q:=MA h
def zn(B:jW)(H:Array Obj)(e:Event):Prop:=
 match e.loc with
 |.cell a=>a.spot=none/\∃ c ty,(∃ fr,H[a.block]? =some (.cells c ty fr))/\(e.write=true->B.rd a.block ty a.off=false)/\(e.sync=false->a.block<B.bot\/B.sh ty a.off=false)
 |.obj r=>r<H.size/\e.sync=false
 |.mark m=>j3 B H m/\e.sync=true
 |_=>False
structure fK(B:jW)(H H':Array Obj):Prop where
 size:H.size<=H'.size
 chans:∀ (r:Nat) (o:Obj),H[r]? =some o->o.isChan=true->H'[r]? =some o
 cells:∀ (b:Nat) (c:Array Value) (ty:aQ) (fr:Nat×Nat),H[b]? =some (.cells c ty fr)->∃ c',H'[b]? =some (.cells c' ty fr)/\∀ j,B.rd b ty j=true->c'[j]? =c[j]?
theorem fK.refl(H:Array Obj):fK B H H:=⟨gZ _,λ_ _ h _=>h,λ_ c _ _ h=>⟨c,h,λ_ _=>rfl⟩⟩
theorem fK.trans{H H' H'':Array Obj}(h:fK B H H')(k:fK B H' H''):fK B H H'':=
 ⟨Be h.size k.size,λr o e i=>k.chans r o (h.chans r o e i) i,λb c ty fr e=>by obtain⟨c',e1,e2⟩:=h.cells b c ty fr e;obtain⟨c'',e3,e4⟩:=k.cells b c' ty fr e1;exact⟨c'',e3,λj hj=>(e4 j hj).trans (e2 j hj)⟩⟩
theorem Dj{H H':Array Obj}(h:fK B H H'){m:Mark}(k:j3 B H m):j3 B H' m:=by
 have go:∀ {b:Nat} {c:Array Value} {ty:aQ},H[b]? =some (.cells c ty (0,0))->∃ c',H'[b]? =some (.cells c' ty (0,0)):=λe=>by obtain⟨c',e1,_⟩:=h.cells _ _ _ _ e;exact⟨c',e1⟩
 cases m<;>simp only[j3]at k⊢
 ·obtain⟨c,ty,e⟩:=k;obtain⟨c',e'⟩:=go e;exact⟨c',ty,e'⟩
 ·obtain⟨c,ty,e,x⟩:=k;obtain⟨c',e'⟩:=go e;exact⟨c',ty,e',x⟩
 ·obtain⟨c,ty,e⟩:=k;obtain⟨c',e'⟩:=go e;exact⟨c',ty,e'⟩
 ·obtain⟨c,ty,e⟩:=k;obtain⟨c',e'⟩:=go e;exact⟨c',ty,e'⟩
 ·obtain⟨c,ty,e,x⟩:=k;obtain⟨c',e'⟩:=go e;exact⟨c',ty,e',x⟩
theorem Bo{w:World}{a:Addr}{c:Array Value}{ty:aQ}{fz:Nat×Nat}{v:Value}(h1:w.heap[a.block]? =some (.cells c ty fz))(h2:a.spot=none)(h3:c[a.off]? =some v):w.cell? a=some v:=by unfold World.cell?;rw[h1];simp[h2,h3]
theorem modify_eq{H:Array Obj}{b:Nat}{o:Obj}(f:Obj->Obj)(h:H[b]? =some o):H.modify b f=H.setIfInBounds b (f o):=by
 apply re;intro i;have dA:=(gJ.1 h).1;by_cases e:i=b
 ·subst e;rw[jM dA,PC];simp[h]
 ·rw[gq (iP e),PC];simp[iP e]
theorem F1{w:World}{a:Addr}{c:Array Value}{ty:aQ}{fz:Nat×Nat}{v:Value}(h1:w.heap[a.block]? =some (.cells c ty fz))(h2:a.spot=none):
  w.setCell a v={w with heap:=w.heap.setIfInBounds a.block (.cells (c.setIfInBounds a.off v) ty fz)}:=by
 unfold World.setCell;rw[modify_eq _ h1];simp[h2]
theorem Jj{w:World}{a:Addr}{c:Array Value}{ty:aQ}(h1:w.heap[a.block]? =some (.cells c ty (0,0))):w.frozen? a=false:=by unfold World.frozen?;rw[h1];simp
theorem fK.store{H:Array Obj}{b off:Nat}{c:Array Value}{ty:aQ}{v:Value}(h:H[b]? =some (.cells c ty (0,0)))(hb:B.rd b ty off=false):fK B H (H.setIfInBounds b (.cells (c.setIfInBounds off v) ty (0,0))):=by
 have dA:=(gJ.1 h).1;refine⟨by simp,λr o e i=>?_,λb' c' So fr' e=>?_⟩
 ·have:b≠r:=λz=>by subst z;rw[h]at e;cases e;cases i
  rw[gq this];exact e
 ·by_cases z:b=b'
  ·subst z;rw[h]at e;cases e;refine⟨_,jM dA,λj hj=>?_⟩;have:off≠j:=λz=>by subst z;rw[hb]at hj;cases hj
   rw[gq this]
  ·exact⟨c',by rw[gq z];exact e,λ_ _=>rfl⟩
theorem fK.setObj{H:Array Obj}{r:Nat}{o₀ o:Obj}(h:H[r]? =some o₀)(hq:Obj.quiet o₀=true):fK B H (H.setIfInBounds r o):=by
 refine⟨by simp,λr' o' e i=>?_,λb' c' So fr' e=>?_⟩
 ·have:r≠r':=λz=>by subst z;rw[h]at e;cases e;cases o₀<;>simp_all [Obj.quiet,Obj.isChan]
  rw[gq this];exact e
 ·have:r≠b':=λz=>by subst z;rw[h]at e;cases e;cases hq
  exact⟨c',by rw[gq this];exact e,λ_ _=>rfl⟩
theorem fK.push(H:Array Obj)(o:Obj):fK B H (H.push o):=by
 have go:∀ {b:Nat} {x:Obj},H[b]? =some x->(H.push o)[b]? =some x:=λ{b x} e=>by have:=(gJ.1 e).1;rw[Tp this];rw[<- e,CA this]
 exact⟨by simp,λr o' e _=>go e,λb c ty fr e=>⟨c,go e,λ_ _=>rfl⟩⟩
theorem pY{X:Type}(a b:Array X)(x:X):a.push x++b=a++(#[x]++b):=by apply Array.ext';simp
theorem z5{H:Array Obj}{a:Addr}{wr sy:Bool}(h2:a.spot=none){c:Array Value}{ty:aQ}{fr:Nat×Nat}(h:H[a.block]? =some (.cells c ty fr))(h3:wr=true->B.rd a.block ty a.off=false)(h4:sy=false->a.block<B.bot\/B.sh ty a.off=false):zn B H ⟨.cell a,wr,sy⟩:=⟨h2,c,ty,⟨fr,h⟩,h3,h4⟩
theorem fq(d:Nat)(a b:Array Event):deafBehind d (a++b)=deafBehind (deafBehind d a) b:=by
 obtain⟨a⟩:=a;obtain⟨b⟩:=b;simp only[List.append_toArray]
 induction a generalizing d with
 |nil=>simp[deafBehind]
 |cons e l ih=>rw[iX,deafBehind_cons,deafBehind_cons d e l,ih]
theorem wc(d:Nat)(m:Mark):deafBehind d #[⟨.mark m,false,true⟩]=nJ m d:=by cases m<;>simp[deafBehind,nJ]
theorem deafBehind_nil(d:Nat):deafBehind d #[]=d:=by simp[deafBehind]
theorem n6{s:Sem α}:∀ {H:Array Obj} {d:Nat} {Q:α->Array Obj->Nat->Prop} {w:World} (uX:Array Event),w.heap=H->di P B s H d Q->
  ∃ a w' es d',s.runT P w uX=(.ok a w',uX++es)/\w'.os=w.os/\w'.output=w.output/\fK B H w'.heap/\(∀ e∈es,zn B w'.heap e)/\deafBehind d es=d'/\Q a w'.heap d':=by
 induction s with
 |pure a=>intro H d Q w uX hw h;subst hw;exact⟨a,w,#[],d,by simp[Sem.runT],rfl,rfl,fK.refl _,by simp,deafBehind_nil _,h⟩
 |load m a k ih=>
  intro H d Q w uX hw h;obtain⟨c,ty,v,⟨fr,h1⟩,h2,h3,h4,h5⟩:=h;subst hw;obtain⟨x,w',es,d',r1,r2,r3,r4,r5,r6,r7⟩:=ih v (uX.push ⟨.cell a,false,m== .atomic⟩) rfl h5;refine⟨x,w',#[⟨.cell a,false,m== .atomic⟩]++es,d',?_,r2,r3,r4,?_,?_,r7⟩
  ·simp only[Sem.runT,Bo h1 h2 h3];rw[r1,pY]
  ·intro e he;rcases To.1 he with he|he
   ·simp only[oG,dF]at he;subst he;obtain⟨c',e1,_⟩:=r4.cells _ _ _ _ h1;exact z5 h2 e1 (λz=>by cases z) (λz=>h4 (by cases m<;>first|rfl|cases z))
   ·exact r5 e he
  ·rw[fq,deafBehind_one (by simp) (by simp)];exact r6
 |store m a v k ih=>
  intro H d Q w uX hw h;obtain⟨h0,c,ty,h1,h2,h3,h4,h5,h6⟩:=h;subst hw;obtain⟨x,w',es,d',r1,r2,r3,r4,r5,r6,r7⟩:=ih (w:=w.setCell a v) (uX.push ⟨.cell a,true,m== .atomic⟩) (by rw[F1 h1 h2]) h6;have dJ:=fK.store (B:=B) (off:=a.off) (v:=v) h1 h4;refine⟨x,w',#[⟨.cell a,true,m== .atomic⟩]++es,d',?_,r2,r3,dJ.trans r4,?_,?_,r7⟩
  ·have hc:=Bo (w:=w) h1 h2 (CA h3);have hf:=Jj (w:=w) (a:=a) h1;cases v<;>first|(simp only[Sem.runT,hc,hf,ij,fB];rw[r1,pY];done)|(simp[eA]at h0)
  ·intro e he;rcases To.1 he with he|he
   ·simp only[oG,dF]at he;subst he;obtain⟨c',e1,_⟩:=(dJ.trans r4).cells _ _ _ _ h1;exact z5 h2 e1 (λ_=>h4) (λz=>.inr (h5 (by cases m<;>first|rfl|cases z)))
   ·exact r5 e he
  ·rw[fq,deafBehind_one (by simp) (by simp)];exact r6
 |new o k ih=>
  intro H d Q w uX hw h;subst hw;obtain⟨x,w',es,d',r1,r2,r3,r4,r5,r6,r7⟩:=ih w.heap.size (w:={w with heap:=w.heap.push o}) uX rfl h;exact⟨x,w',es,d',by simp only[Sem.runT];exact r1,r2,r3,(fK.push _ o).trans r4,r5,r6,r7⟩
 |shape r k ih=>
  intro H d Q w uX hw h;subst hw;obtain⟨x,w',es,d',r1,r2⟩:=ih (ss w.heap r) uX rfl h;exact⟨x,w',es,d',by simp only[Sem.runT];exact r1,r2⟩
 |freeze a n k ih=>intro H d Q w uX hw h;exact h.elim
 |frozen a k ih=>
  intro H d Q w uX hw h;subst hw;obtain⟨x,w',es,d',r1,r2⟩:=ih (wH w.heap a) uX rfl h;exact⟨x,w',es,d',by simp only[Sem.runT];exact r1,r2⟩
 |getObj r k ih=>
  intro H d Q w uX hw h;obtain⟨o,h1,h2,h3⟩:=h;subst hw;obtain⟨x,w',es,d',r1,r2,r3,r4,r5,r6,r7⟩:=ih o (uX.push ⟨.obj r,false,o.isChan⟩) rfl h3;have o8:o.isChan=false:=by cases o<;>simp_all [Obj.quiet,Obj.isChan]
  refine⟨x,w',#[⟨.obj r,false,o.isChan⟩]++es,d',?_,r2,r3,r4,?_,?_,r7⟩
  ·simp only[Sem.runT,h1];cases o<;>first|(simp only[r1,pY];done)|(simp[Obj.quiet]at h2)
  ·intro e he;rcases To.1 he with he|he
   ·simp only[oG,dF]at he;subst he;exact⟨LA (gJ.1 h1).1 r4.size,o8⟩
   ·exact r5 e he
  ·rw[fq,deafBehind_one (by simp) (by simp)];exact r6
 |setObj r o k ih=>
  intro H d Q w uX hw h;obtain⟨o₀,h1,h2,Ln,h3⟩:=h;subst hw;obtain⟨x,w',es,d',r1,r2,r3,r4,r5,r6,r7⟩:=ih (w:={w with heap:=w.heap.setIfInBounds r o}) (uX.push ⟨.obj r,true,o.isChan⟩) rfl h3;have o8:o.isChan=false:=by cases o<;>simp_all [Obj.quiet,Obj.isChan]
  have dJ:=fK.setObj (B:=B) (o:=o) h1 h2;refine⟨x,w',#[⟨.obj r,true,o.isChan⟩]++es,d',?_,r2,r3,dJ.trans r4,?_,?_,r7⟩
  ·simp only[Sem.runT,h1];cases o₀<;>first|(rw[<- pY];exact r1)|(simp[Obj.quiet]at h2)
  ·intro e he;rcases To.1 he with he|he
   ·simp only[oG,dF]at he;subst he;exact⟨LA (gJ.1 h1).1 (dJ.trans r4).size,o8⟩
   ·exact r5 e he
  ·rw[fq,deafBehind_one (by simp) (by simp)];exact r6
 |choose q k ih=>
  intro H d Q w uX hw h;subst hw;simp only[di]at h;by_cases e:q.forced=true
  ·rw[aK e]at h;obtain⟨x,w',es,d',r1,r2⟩:=ih 0 uX rfl h;exact⟨x,w',es,d',by simp only[Sem.runT,e,eM];exact r1,r2⟩
  ·rw[ao e]at h;obtain⟨x,w',es,d',r1,r2⟩:=ih (q.cut (w.tape w.drawn q)) (w:={w with drawn:=w.drawn+1}) uX rfl (h _);exact⟨x,w',es,d',by simp only[Sem.runT,e];exact r1,r2⟩
 |sys c k ih=>intro H d Q w uX hw h;exact h.elim
 |program k ih=>
  intro H d Q w uX hw h;subst hw;obtain⟨x,w',es,d',r1,r2⟩:=ih P uX rfl h;exact⟨x,w',es,d',by simp only[Sem.runT];exact r1,r2⟩
 |mark m k ih=>
  intro H d Q w uX hw h;subst hw;obtain⟨x,w',es,d',r1,r2,r3,r4,r5,r6,r7⟩:=ih (uX.push ⟨.mark m,false,true⟩) rfl h.2;refine⟨x,w',#[⟨.mark m,false,true⟩]++es,d',?_,r2,r3,r4,?_,?_,r7⟩
  ·simp only[Sem.runT];rw[r1,pY]
  ·intro e he;rcases To.1 he with he|he
   ·simp only[oG,dF]at he;subst he;exact⟨Dj r4 h.1,rfl⟩
   ·exact r5 e he
  ·rw[fq,wc];exact r6
 |halt x=>intro H d Q w uX hw h;exact h.elim
end
end
section
open Go.Conc
def tm(n:Nat)(e:Nat->Value):Array Value:=Array.ofFn λi:Fin n=>e i
def put(e:Nat->Value)(d:Nat)(v:Value):Nat->Value:=λi=>if i=d then v else e i
def cS(e:Nat->Value)(d:Option Nat)(v:Value):Nat->Value:=match d with|some d=>put e d v|none=>e
def ev(n:Nat)(e:Nat->Value):cA->Value
 |.tmp t=>if t<n then e t else undef
 |.const v=>v
 |.global g=>.pointer (some ⟨g,0,none⟩)
 |.func f=>.func (.func f) #[] #[]
def xj(args:Array Value):Nat->Value:=λi=>args.getD i undef
theorem xl(n:Nat)(e:Nat->Value)(t:Nat):(tm n e)[t]? =if t<n then some (e t)else none:=by unfold tm;by_cases h:t<n<;>simp[h]
theorem oI(n:Nat)(e:Nat->Value)(t:Nat):(tm n e).getD t undef=if t<n then e t else undef:=by
 have:(tm n e).getD t undef=((tm n e)[t]?).getD undef:=by simp[Array.getD_eq_getD_getElem?]
 rw[this,xl];by_cases h:t<n<;>simp[h]
theorem MB(n:Nat)(e:Nat->Value)(d:Nat)(v:Value):(tm n e).setIfInBounds d v=tm n (put e d v):=by
 apply re;intro i;rw[xl];by_cases h:i=d
 ·subst h;by_cases h2:i<n
  ·rw[jM (by simpa[tm]using h2)];simp[put,h2]
  ·simp[tm,h2]
 ·rw[gq (iP h),xl];simp[put,h]
theorem F3(args:Array Value)(n:Nat)(h:args.size<=n):args++Array.replicate (n-args.size) undef=tm n (xj args):=by
 apply re;intro i;rw[xl,Tq];by_cases h1:i<args.size
 ·have:i<n:=LA h1 h;simp[h1,this,xj,Array.getD]
 ·by_cases h2:i<n
  ·have:i-args.size<n-args.size:=az;simp[h1,h2,this,xj,Array.getD]
  ·have:¬ i-args.size<n-args.size:=az;simp[h1,h2,this]
inductive Kd where
 |pb|n7
def Kd.k:Kd->CallKind
 |.pb=>.normal
 |.n7=>.deferred
theorem Kd.early(kd:Kd):(kd.k==CallKind.early)=false:=by cases kd<;>rfl
def aU(fn:bI)(kd:Kd)(n:Nat)(e:Nat->Value)(ds:List dQ)(todo:List Item):Frame:={fn,tmps:=tm n e,todo,defers:=ds,mode:=.run,kind:=kd.k,roundOf:=none}
def gr(fn:bI)(kd:Kd)(n:Nat)(e:Nat->Value)(ds:List dQ)(todo:List Item)(cs:List Frame):aP:={frame:=aU fn kd n e ds todo,callers:=cs,status:=.running,dying:=none}
def pC(fn:bI)(kd:Kd)(n:Nat)(e:Nat->Value)(ds:List dQ)(todo:List Item):Frame:={aU fn kd n e ds todo with mode:=.returning}
def pZ(fn:bI)(kd:Kd)(n:Nat)(e:Nat->Value)(ds:List dQ)(todo:List Item)(cs:List Frame):aP:={frame:=pC fn kd n e ds todo,callers:=cs,status:=.running,dying:=none}
def eT(c:Frame)(cs:List Frame)(v:Value):aP:={frame:=c.finish v,callers:=cs,status:=.running,dying:=none}
def vG(c:Frame)(cs:List Frame):aP:={frame:=c,callers:=cs,status:=.running,dying:=none}
def iB(P:bL)(f:bI)(args:Array Value)(kd:Kd)(cs:List Frame):aP:={frame:=Frame.enter P f args kd.k,callers:=cs,status:=.running,dying:=none}
theorem tN(fn:bI)(kd:Kd)(n:Nat)(e:Nat->Value)(ds:List dQ)(todo:List Item):(aU fn kd n e ds todo).eval=ev n e:=by
 funext x
 cases x<;>simp only[Frame.eval,ev,aU];exact oI n e _
structure ab(P:bL)(ak:Bool)(B:jW)(R:Nat->aP->Array Obj->Prop):Prop where
 step:∀ d g H,g.status=.running->(∀ w:World,w.heap=H->∃ g' w' es,stepG P ak g w=.go g' w' es/\w'.os=w.os/\w'.output=w.output/\fK B H w'.heap/\(∀ e∈es,zn B w'.heap e)/\R (deafBehind d es) g' w'.heap)->R d g H
section
variable{P:bL}{ak:Bool}{B:jW}{R:Nat->aP->Array Obj->Prop}{d:Nat}{H:Array Obj}
variable{fn:bI}{kd:Kd}{n:Nat}{e:Nat->Value}{ds:List dQ}{k:List Item}{cs:List Frame}
theorem ab.still(C:ab P ak B R){g g':aP}(hs:g.status=.running)(h:∀ w,stepG P ak g w=.go g' w #[])(hR:R d g' H):R d g H:=
 C.step d g H hs λw hw=>⟨g',w,#[],h w,rfl,rfl,hw▸fK.refl _,by simp,by rw[deafBehind_nil,hw];exact hR⟩
theorem ab.skip(C:ab P ak B R)(h:R d (gr fn kd n e ds k cs) H):R d (gr fn kd n e ds (.code .skip::k) cs) H:=
 C.still rfl (λw=>by simp[gr,aU,stepG,stepG.exec]) h
theorem ab.label(C:ab P ak B R){l:Nat}(h:R d (gr fn kd n e ds k cs) H):R d (gr fn kd n e ds (.code (.label l)::k) cs) H:=
 C.still rfl (λw=>by simp[gr,aU,stepG,stepG.exec]) h
theorem ab.inBlock(C:ab P ak B R){id:Nat}(h:R d (gr fn kd n e ds k cs) H):R d (gr fn kd n e ds (.inBlock id::k) cs) H:=
 C.still rfl (λw=>by simp[gr,aU,stepG,stepG.exec]) h
theorem ab.inScope(C:ab P ak B R){c:Code}(h:R d (gr fn kd n e ds k cs) H):R d (gr fn kd n e ds (.inScope c::k) cs) H:=
 C.still rfl (λw=>by simp[gr,aU,stepG,stepG.exec]) h
theorem ab.seq(C:ab P ak B R){x y:Code}(h:R d (gr fn kd n e ds (.code x:: .code y::k) cs) H):R d (gr fn kd n e ds (.code (.seq x y)::k) cs) H:=
 C.still rfl (λw=>by simp[gr,aU,stepG,stepG.exec]) h
theorem ab.block(C:ab P ak B R){id:Nat}{c:Code}(h:R d (gr fn kd n e ds (.code c:: .inBlock id::k) cs) H):R d (gr fn kd n e ds (.code (.block id c)::k) cs) H:=
 C.still rfl (λw=>by simp[gr,aU,stepG,stepG.exec]) h
theorem ab.loop(C:ab P ak B R){c:Code}(h:R d (gr fn kd n e ds (.code c:: .inLoop c::k) cs) H):R d (gr fn kd n e ds (.code (.loop c)::k) cs) H:=
 C.still rfl (λw=>by simp[gr,aU,stepG,stepG.exec]) h
theorem ab.inLoop(C:ab P ak B R){c:Code}(h:R d (gr fn kd n e ds (.code c:: .inLoop c::k) cs) H):R d (gr fn kd n e ds (.inLoop c::k) cs) H:=
 C.still rfl (λw=>by simp[gr,aU,stepG,stepG.exec]) h
theorem ab.scope(C:ab P ak B R){c:Code}(h:R d (gr fn kd n e ds (.code c:: .inScope c::k) cs) H):R d (gr fn kd n e ds (.code (.scope c)::k) cs) H:=
 C.still rfl (λw=>by simp[gr,aU,stepG,stepG.exec]) h
theorem ab.exit(C:ab P ak B R){id:Nat}{k':List Item}(hx:exitTo id k=some k')(h:R d (gr fn kd n e ds k' cs) H):R d (gr fn kd n e ds (.code (.exit id)::k) cs) H:=
 C.still rfl (λw=>by simp[gr,aU,stepG,stepG.exec,hx]) h
theorem ab.cond(C:ab P ak B R){c:cA}{x y:Code}{t:Bool}(hc:ev n e c=.bool t)(h:R d (gr fn kd n e ds (.code (if t then x else y)::k) cs) H):R d (gr fn kd n e ds (.code (.cond c x y)::k) cs) H:=
 C.still rfl (λw=>by have:=tN fn kd n e ds (.code (.cond c x y)::k);simp only[aU]at this;simp[gr,aU,stepG,stepG.exec,this,hc]) h
theorem ab.region(C:ab P ak B R){id:Nat}{ops:Array Oper}(h:R d (gr fn kd n e ds (.inRegion ops (List.range ops.size)::k) cs) H):R d (gr fn kd n e ds (.code (.region id ops false)::k) cs) H:=
 C.still rfl (λw=>by simp[gr,aU,stepG,stepG.exec]) h
theorem ab.Jk(C:ab P ak B R){ops:Array Oper}(h:R d (gr fn kd n e ds k cs) H):R d (gr fn kd n e ds (.inRegion ops []::k) cs) H:=
 C.still rfl (λw=>by simp[gr,aU,stepG,stepG.exec]) h
theorem ab.draw(C:ab P ak B R){id:Nat}{ops:Array Oper}(h:∀ t,R d (gr fn kd n e ds (.inRegion ops (Region.schedule (P.follows .mixedOrders) ops t)::k) cs) H):R d (gr fn kd n e ds (.code (.region id ops true)::k) cs) H:=
 C.step d _ H rfl λw hw=>⟨_,{w with drawn:=w.drawn+1},#[],by simp[gr,aU,stepG,stepG.exec,choose,Sem.run,Question.forced,Question.cut];rfl,rfl,rfl,hw▸fK.refl _,by simp,by rw[deafBehind_nil];show R d _ w.heap;rw[hw];exact h _⟩
theorem ab.ret(C:ab P ak B R)(h:R d (pZ fn kd n e ds (.code .ret::k) cs) H):R d (gr fn kd n e ds (.code .ret::k) cs) H:=
 C.still rfl (λw=>by simp[gr,pZ,pC,aU,stepG,stepG.exec]) h
theorem ab.fin(C:ab P ak B R)(h:R d (pZ fn kd n e ds [] cs) H):R d (gr fn kd n e ds [] cs) H:=
 C.still rfl (λw=>by simp[gr,pZ,pC,aU,stepG,stepG.exec]) h
theorem n8{es:Array Event}{fn:bI}(h:∀ e∈es,zn B H e):(∀ e∈seen P fn es,zn B H e)/\deafBehind d (seen P fn es)=deafBehind d es:=by
 refine⟨λe he=>h e (mem_seen he),?_⟩;rw[seen_def];have key:∀ (quiet:bI->Bool) (l:List Event) (q:Bool) (kept:Array Event),(∀ e∈l,zn B H e)->deafBehind d (l.foldl (seenStep quiet) (q,kept)).2=deafBehind (deafBehind d kept) l.toArray:=by
  intro quiet l
  induction l with
  |nil=>intro q kept _;simp[deafBehind_nil]
  |cons x l ih=>
   intro q kept hl;have hx:=hl x (iz ..);have wE:∀ e∈l,zn B H e:=λe he=>hl e (gb _ he);rw[kM,Go.ConcR.deafBehind_cons];obtain⟨loc,wr,sy⟩:=x;by_cases hm:∃ f,loc=.mark (.extern f)
   ·obtain⟨f,rfl⟩:=hm;simp only[seenStep];rw[ih _ _ wE,Go.ConcR.deafBehind_one (by simp) (by simp)]
   ·have dJ:seenStep quiet (q,kept) ⟨loc,wr,sy⟩=(q,if q&& !sy then kept else kept.push ⟨loc,wr,sy⟩):=by
     unfold seenStep;simp only;split
     ·rename_i f;exact absurd ⟨_,rfl⟩ hm
     ·rfl
    rw[dJ,ih _ _ wE];by_cases hq:(q&& !sy)=true
    ·rw[aK hq];have hsy:sy=false:=by revert hq;cases q<;>cases sy<;>simp
     have h1:loc≠ .mark .disable:=λz=>by subst z;simp[zn,hsy]at hx
     have h2:loc≠ .mark .enable:=λz=>by subst z;simp[zn,hsy]at hx
     rw[Go.ConcR.deafBehind_one h1 h2]
    ·rw[ao hq];have:kept.push ⟨loc,wr,sy⟩=kept++#[⟨loc,wr,sy⟩]:=by simp
     rw[this,fq]
 have:=key (λf=>(P.funcs[f]?).any (·.norace)) es.toList ((P.funcs[fn]?).any (·.norace)) #[] (λe he=>h e (Bf.1 he));rw[this,deafBehind_nil]
def upon(P:bL)(R:Nat->aP->Array Obj->Prop)(fn:bI)(kd:Kd)(n:Nat)(e:Nat->Value)(ds:List dQ)(ops:Array Oper)(i:Nat)(aa:List Nat)(k:List Item)(cs:List Frame)(dst:Option Nat)(d:Nat)(H:Array Obj):Next->Prop
 |.value v=>R d (gr fn kd n (cS e dst v) ds (.inRegion ops aa::k) cs) H
 |.skip=>R d (gr fn kd n (cS e dst undef) ds (.inRegion ops aa::k) cs) H
 |.enter f args=>R d (iB P f args .pb (aU fn kd n e ds (.inRegion ops (i::aa)::k)::cs)) H
 |.defer x=>R d (gr fn kd n (cS e dst undef) (x::ds) (.inRegion ops aa::k) cs) H
 |_=>False
theorem bY{ops:Array Oper}{i:Nat}{aa:List Nat}{o:Oper}(ho:ops[i]? =some o)(v:Value):(aU fn kd n e ds (.inRegion ops (i::aa)::k)).finish v=aU fn kd n (cS e o.dst v) ds (.inRegion ops aa::k):=by
 unfold Frame.finish aU;simp only[ho,nE];cases o.dst with
 |none=>rfl
 |some t=>simp only[MB,cS]
theorem ab.op(C:ab P ak B R){ops:Array Oper}{i:Nat}{aa:List Nat}{o:Oper}(ho:ops[i]? =some o)(hw:Region.wanted o (yielded ops (tm n e))=true)
  (h:di P B (execOp (ev n e) o) H d λx H' d'=>upon P R fn kd n e ds ops i aa k cs o.dst d' H' x):R d (gr fn kd n e ds (.inRegion ops (i::aa)::k) cs) H:=by
 refine C.step d _ H rfl λw nF=>?_;obtain⟨x,w',es,d',r1,r2,r3,r4,r5,r6,r7⟩:=n6 (w:=w) #[] nF h;have xm:=kd.early;obtain⟨s1,s2⟩:=n8 (P:=P) (d:=d) (fn:=fn) r5;rw[r6]at s2;have cq:stepG P ak (gr fn kd n e ds (.inRegion ops (i::aa)::k) cs) w=stepG.apply P true (aU fn kd n e ds (.inRegion ops (i::aa)::k)) cs none (execOp (ev n e) o) w:=by have he:=tN fn kd n e ds (.inRegion ops (i::aa)::k);simp only[aU]at he;simp[gr,aU,stepG,stepG.exec,stepG.oper,Frame.oper?,ho,hw,he]
 simp only[vV,zf]at r1;rw[cq];cases x<;>first|exact r7.elim|skip
 ·refine⟨_,w',seen P fn es,?_,r2,r3,r4,s1,by rw[s2];exact r7⟩;simp only[stepG.apply,r1,eM];rw[bY ho];simp[aU,xm,GStep.after,gr]
 ·refine⟨_,w',seen P fn es,?_,r2,r3,r4,s1,by rw[s2];exact r7⟩;simp only[stepG.apply,r1,eM];rw[bY ho];simp[aU,xm,GStep.after,gr]
 ·refine⟨_,w',seen P fn es,?_,r2,r3,r4,s1,by rw[s2];exact r7⟩;simp only[stepG.apply,r1,eM];simp[aU,xm,GStep.after,iB];rfl
 ·refine⟨_,w',seen P fn es,?_,r2,r3,r4,s1,by rw[s2];exact r7⟩;rename_i x;have hf:=bY (fn:=fn) (kd:=kd) (n:=n) (e:=e) (ds:=x::ds) (k:=k) (aa:=aa) ho undef;simp only[aU]at hf;simp only[stepG.apply,r1,eM,aU];rw[hf];simp[aU,xm,GStep.after,gr]
theorem ab.TP(C:ab P ak B R){ops:Array Oper}{i:Nat}{aa:List Nat}{o:Oper}(ho:ops[i]? =some o)(hw:Region.wanted o (yielded ops (tm n e))=false)
  (h:R d (gr fn kd n (cS e o.dst undef) ds (.inRegion ops aa::k) cs) H):R d (gr fn kd n e ds (.inRegion ops (i::aa)::k) cs) H:=by
 refine C.still rfl (λw=>?_) h;have hf:=bY (fn:=fn) (kd:=kd) (n:=n) (e:=e) (ds:=ds) (k:=k) (aa:=aa) ho undef;simp only[aU]at hf;simp only[gr,aU,stepG,stepG.exec,ho,k7,jU,hw,ij,fB,hf]
theorem l8{f:bI}{fu:Func}{c:Code}{args:Array Value}(hf:P.funcs[f]? =some fu)(hb:fu.body=some c)(hn:args.size<=fu.ntmps):iB P f args kd cs=gr f kd fu.ntmps (xj args) [] [.code c] cs:=by unfold iB gr Frame.enter aU;simp only[hf,k7,jU,nE,hb,F3 _ _ hn]
theorem ab.back(C:ab P ak B R){todo:List Item}{fu:Func}{c:Frame}(hf:P.funcs[fn]? =some fu)(h:di P B (results fu (tm n e)) H d λv H' d'=>R d' (eT c cs v) H'):R d (pZ fn .pb n e [] todo (c::cs)) H:=by refine C.step d _ H rfl λw nF=>?_;obtain⟨x,w',es,d',r1,r2,r3,r4,r5,r6,r7⟩:=n6 (w:=w) #[] nF h;obtain⟨s1,s2⟩:=n8 (P:=P) (d:=d) (fn:=fn) r5;rw[r6]at s2;refine⟨_,w',seen P fn es,?_,r2,r3,r4,s1,by rw[s2];exact r7⟩;simp only[vV,zf]at r1;simp only[pZ,pC,aU,stepG,unwind,hf,r1,doReturn,Kd.k];simp[GStep.after,eT]
theorem ab.Bp(C:ab P ak B R){todo:List Item}{fu:Func}{c:Frame}(hm:c.mode=.returning)(hf:P.funcs[fn]? =some fu)(h:di P B (results fu (tm n e)) H d λv H' d'=>R d' (vG c cs) H'):R d (pZ fn .n7 n e [] todo (c::cs)) H:=by refine C.step d _ H rfl λw nF=>?_;obtain⟨x,w',es,d',r1,r2,r3,r4,r5,r6,r7⟩:=n6 (w:=w) #[] nF h;obtain⟨s1,s2⟩:=n8 (P:=P) (d:=d) (fn:=fn) r5;rw[r6]at s2;refine⟨_,w',seen P fn es,?_,r2,r3,r4,s1,by rw[s2];exact r7⟩;simp only[vV,zf]at r1;simp only[pZ,pC,aU,stepG,unwind,hf,r1,doReturn,hm,Kd.k];simp[GStep.after,vG]
theorem ab.PX(C:ab P ak B R){todo:List Item}{x:dQ}{f:bI}{args:Array Value}(hx:x.target=.fn (.func f) #[]\/∃ cap,x.target=.fn (.func f) cap)
  (h:di P B (invoke x.target x.args) H d λy H' d'=>∃ f args,y=.enter f args/\R d' (iB P f args .n7 (pC fn kd n e ds todo::cs)) H'):R d (pZ fn kd n e (x::ds) todo cs) H:=by
 refine C.step d _ H rfl λw nF=>?_;obtain⟨y,w',es,d',r1,r2,r3,r4,r5,r6,f',tO,rfl,r7⟩:=n6 (w:=w) #[] nF h;obtain⟨s1,s2⟩:=n8 (P:=P) (d:=d) (fn:=fn) r5;rw[r6]at s2;refine⟨_,w',seen P fn es,?_,r2,r3,r4,s1,by rw[s2];exact r7⟩;simp only[vV,zf]at r1;obtain⟨tg,ar⟩:=x;have:∃ cap,tg=.fn (.func f) cap:=hx.elim (λz=>⟨_,z⟩) id;obtain⟨cap,rfl⟩:=this;simp only[pZ,pC,aU,stepG,unwind,callDeferred,r1];simp[GStep.after,iB,Kd.k]
end
end
section
open Go.Conc
abbrev HL:=Nat->Option Obj
abbrev HP:=HL->Prop
def hp(H:Array Obj):HL:=λb=>H[b]?
def Sub(h h':HL):Prop:=∀ b o,h b=some o->h' b=some o
def less(h h1:HL):HL:=λb=>if(h1 b).isSome then none else h b
def Sat:List HP->HL->Prop
 |[],_=>True
 |A::As,h=>∃ h1,A h1/\Sub h1 h/\Sat As (less h h1)
def one(b:Nat)(o:Obj):HL:=λi=>if i=b then some o else none
def bR(b:Nat)(o:Obj):HP:=λh=>h=one b o
def a7(I:HL):HP:=λh=>h=I
def all(l:List HP):HP:=Sat l
theorem Sub.refl(h:HL):Sub h h:=λ_ _ x=>x
theorem Sub.trans{a b c:HL}(h:Sub a b)(k:Sub b c):Sub a c:=λi o x=>k i o (h i o x)
theorem mz{h h1:HL}:Sub (less h h1) h:=λb o x=>by unfold less at x;split at x<;>simp_all
theorem z6{h h' h1:HL}(s:Sub h h'):Sub (less h h1) (less h' h1):=λb o x=>by
 unfold less at x⊢;split at x
 ·cases x
 ·rename_i z;rw[ao z];exact s _ _ x
theorem Sat.mono{As:List HP}:∀ {h h':HL},Sub h h'->Sat As h->Sat As h':=by
 induction As with
 |nil=>exact λ_ _=>trivial
 |cons A As ih=>
  rintro h h' s ⟨h1,a,s1,r⟩;exact⟨h1,a,s1.trans s,ih (z6 s) r⟩
theorem MC{h h1 h2:HL}(s1:Sub h1 h)(s2:Sub h2 (less h h1)):Sub h1 (less h h2):=λb o x=>by
 unfold less;cases e:h2 b with
 |none=>simp;exact s1 _ _ x
 |some o'=>have:=s2 _ _ e;unfold less at this;rw[x]at this;simp at this
theorem Jl(h h1 h2:HL):less (less h h1) h2=less (less h h2) h1:=by funext b;unfold less;cases h1 b<;>cases h2 b<;>rfl
theorem Sat.swap{A B:HP}{As:List HP}{h:HL}(s:Sat (A::B::As) h):Sat (B::A::As) h:=by obtain⟨h1,a,s1,h2,b,s2,r⟩:=s;exact⟨h2,b,s2.trans mz,h1,a,MC s1 s2,by rw[Jl];exact r⟩
theorem Sat.perm{As Bs:List HP}(p:As.Perm Bs):∀ {h:HL},Sat As h->Sat Bs h:=by
 induction p with
 |nil=>exact id
 |cons x _ ih=>rintro h ⟨h1,a,s1,r⟩;exact⟨h1,a,s1,ih r⟩
 |swap x y l=>exact λs=>Sat.swap s
 |trans _ _ ih1 Lm=>exact λs=>Lm (ih1 s)
theorem Sat.drop{A:HP}{As:List HP}{h:HL}(s:Sat (A::As) h):Sat As h:=by obtain⟨h1,a,s1,r⟩:=s;exact r.mono mz
theorem Sat.imp{A B:HP}{As:List HP}{h:HL}(f:∀ h,A h->B h)(s:Sat (A::As) h):Sat (B::As) h:=by obtain⟨h1,a,s1,r⟩:=s;exact⟨h1,f _ a,s1,r⟩
theorem Sat.ex{X:Type}{A:X->HP}{As:List HP}{h:HL}(s:Sat ((λh=>∃ x,A x h)::As) h):∃ x,Sat (A x::As) h:=by obtain⟨h1,⟨x,a⟩,s1,r⟩:=s;exact⟨x,h1,a,s1,r⟩
theorem Sat.pure{p:Prop}{A:HP}{As:List HP}{h:HL}(s:Sat ((λh=>p/\A h)::As) h):p/\Sat (A::As) h:=by obtain⟨h1,⟨x,a⟩,s1,r⟩:=s;exact⟨x,h1,a,s1,r⟩
theorem F4{h h1 h2:HL}(s:Sub h2 h1):less (less h h2) (less h1 h2)=less h h1:=by
 funext b
 unfold less;cases e2:h2 b with
 |none=>simp
 |some o=>rw[s _ _ e2];simp
theorem Sat.flat{l As:List HP}:∀ {h:HL},Sat (all l::As) h->Sat (l++As) h:=by
 induction l with
 |nil=>rintro h ⟨h1,a,s1,r⟩;exact r.mono mz
 |cons B l ih=>
  rintro h ⟨h1,⟨h2,b,s2,r2⟩,s1,r⟩;refine⟨h2,b,s2.trans s1,ih ⟨less h1 h2,r2,z6 s1,?_⟩⟩;rw[F4 s2];exact r
def FI(h1 h2:HL):HL:=λb=>(h1 b).or (h2 b)
theorem Sat.fS{l As:List HP}:∀ {h:HL},Sat (l++As) h->Sat (all l::As) h:=by
 induction l with
 |nil=>intro h s;exact⟨λ_=>none,trivial,λ_ _ x=>(by cases x),(by
   have:less h (λ_=>none)=h:=by funext b;simp[less]
   rw[this];exact s)⟩
 |cons B l ih=>
  rintro h ⟨h2,b,s2,r⟩;obtain⟨h1,a,s1,r1⟩:=ih r;have hc:Sub h2 (FI h2 h1):=λi o x=>by unfold FI;rw[x];rfl
  have hl:less (FI h2 h1) h2=h1:=by
   funext i
   unfold less FI;cases e:h2 i with
   |none=>simp
   |some o=>
    simp;cases e':h1 i with
    |none=>rfl
    |some o'=>have:=s1 _ _ e';unfold less at this;rw[e]at this;simp at this
  refine⟨FI h2 h1,⟨h2,b,hc,by rw[hl];exact a⟩,λi o x=>?_,?_⟩
  ·unfold FI at x;cases e:h2 i with
   |none=>rw[e]at x;exact mz _ _ (s1 _ _ (by simpa using x))
   |some o'=>rw[e]at x;simp at x;subst x;exact s2 _ _ e
  ·have:less h (FI h2 h1)=less (less h h2) h1:=by funext i;unfold less FI;cases h2 i<;>cases h1 i<;>rfl
   rw[this];exact r1
theorem Sat.under{A:HP}{As Bs:List HP}{h:HL}(f:∀ h,Sat As h->Sat Bs h)(s:Sat (A::As) h):Sat (A::Bs) h:=by obtain⟨h1,a,s1,r⟩:=s;exact⟨h1,a,s1,f _ r⟩
theorem Sat.get{b:Nat}{o:Obj}{As:List HP}{h:HL}(s:Sat (bR b o::As) h):h b=some o:=by obtain⟨h1,rfl,s1,r⟩:=s;exact s1 b o (by simp[one])
theorem Sat.oJ{I:HL}{As:List HP}{h:HL}(s:Sat (a7 I::As) h){b:Nat}{o:Obj}(e:I b=some o):h b=some o:=by obtain⟨h1,rfl,s1,r⟩:=s;exact s1 b o e
theorem F5{H:Array Obj}{o:Obj}{b:Nat}(h:b≠H.size):hp (H.push o) b=hp H b:=by
 unfold hp;rcases Bc b H.size with h'|h'
 ·rw[Tp h',CA h']
 ·have:H.size<b:=az;have h1:(H.push o).size<=b:=by rw[I6];omega
  rw[FV h1,FV h']
theorem Bq{H:Array Obj}{o:Obj}:hp (H.push o) H.size=some o:=by unfold hp;simp
theorem PY{H:Array Obj}{b:Nat}(h:H.size<=b):hp H b=none:=by unfold hp;exact FV h
theorem Sat.push{As:List HP}{H:Array Obj}(o:Obj)(s:Sat As (hp H)):Sat (bR H.size o::As) (hp (H.push o)):=by
 refine⟨one H.size o,rfl,λb x e=>?_,s.mono λb x e=>?_⟩
 ·unfold one at e;split at e
  ·rename_i z;subst z;cases e;exact Bq
  ·cases e
 ·have hb:b≠H.size:=λz=>by subst z;rw[PY (gZ _)]at e;cases e
  unfold less one;rw[ao hb];simp;rw[F5 hb];exact e
theorem Sat.set{b:Nat}{o o':Obj}{As:List HP}{H:Array Obj}(s:Sat (bR b o::As) (hp H)):Sat (bR b o'::As) (hp (H.setIfInBounds b o')):=by
 have hb:=s.get;have dA:b<H.size:=(gJ.1 hb).1;obtain⟨h1,rfl,s1,r⟩:=s;have hs:hp (H.setIfInBounds b o') b=some o':=by unfold hp;exact jM dA
 refine⟨one b o',rfl,λi x e=>?_,?_⟩
 ·unfold one at e;split at e
  ·rename_i z;subst z;cases e;exact hs
  ·cases e
 ·have:less (hp (H.setIfInBounds b o')) (one b o')=less (hp H) (one b o):=by
   funext i
   unfold less one;by_cases z:i=b
   ·simp[z]
   ·simp only[ao z,I7];unfold hp;rw[gq (iP z)]
  rw[this];exact r
theorem Sat.freeze{b:Nat}{o:Obj}{I:HL}{As:List HP}{h:HL}(s:Sat (bR b o::a7 I::As) h):Sub I (FI I (one b o))/\Sat (a7 (FI I (one b o))::As) h:=by
 obtain⟨h1,rfl,s1,h2,rfl,s2,r⟩:=s;have hn:h2 b=none:=by
  cases e:h2 b with
  |none=>rfl
  |some x=>have:=s2 _ _ e;unfold less one at this;simp at this
 refine⟨λi x e=>by unfold FI;rw[e];rfl,FI h2 (one b o),rfl,λi x e=>?_,?_⟩
 ·unfold FI at e;cases e2:h2 i with
  |some y=>rw[e2]at e;simp at e;subst e;exact mz _ _ (s2 _ _ e2)
  |none=>rw[e2]at e;simp at e;exact s1 _ _ e
 ·have:less h (FI h2 (one b o))=less (less h (one b o)) h2:=by funext i;unfold less FI;cases h2 i<;>cases(one b o) i<;>rfl
  rw[this];exact r
inductive Has(b:Nat)(o:Obj):List HP->Prop
 |head {As:List HP}:Has b o (bR b o::As)
 |tail {A:HP} {As:List HP}:Has b o As->Has b o (A::As)
inductive p8(b:Nat)(o o':Obj):List HP->List HP->Prop
 |head {As:List HP}:p8 b o o' (bR b o::As) (bR b o'::As)
 |tail {A:HP} {As aN:List HP}:p8 b o o' As aN->p8 b o o' (A::As) (A::aN)
theorem Has.get{b:Nat}{o:Obj}{As:List HP}(x:Has b o As):∀ {h:HL},Sat As h->h b=some o:=by
 induction x with
 |head=>exact λs=>s.get
 |tail _ ih=>exact λs=>ih s.drop
def Kn(As:List HP)(b:Nat)(o:Obj):Prop:=∀ h,Sat As h->h b=some o
def Ext(As kN:List HP):Prop:=∀ h,Sat As h->Sat kN h
inductive F6(W:List HP):List HP->List HP->Prop
 |refl {As:List HP}:F6 W As As
 |cons {X:HP} {As:List HP}:F6 W (X::As) As
 |of {aN As:List HP}:Ext aN W->F6 W aN As
theorem Has.kn{b:Nat}{o:Obj}{As:List HP}(x:Has b o As):Kn As b o:=λ_ s=>x.get s
theorem Ext.kn{b:Nat}{o:Obj}{As kN:List HP}(e:Ext As kN)(x:Has b o kN):Kn As b o:=λ_ s=>x.get (e _ s)
theorem F6.ext{W As aN:List HP}(x:F6 W aN As)(e:Ext As W):Ext aN W:=by
 cases x with
 |refl=>exact e
 |cons=>exact λh s=>e h s.drop
 |of h=>exact h
theorem p8.has{b:Nat}{o o':Obj}{As aN:List HP}(x:p8 b o o' As aN):Has b o As:=by
 induction x with
 |head=>exact .head
 |tail _ ih=>exact .tail ih
theorem p8.perm{b:Nat}{o o':Obj}{As aN:List HP}(x:p8 b o o' As aN):∃ L,As.Perm (bR b o::L)/\aN.Perm (bR b o'::L):=by
 induction x with
 |@head As=>exact⟨As,.refl _,.refl _⟩
 |@tail A As aN _ ih=>
  obtain⟨L,h1,h2⟩:=ih;exact⟨A::L,(h1.cons A).trans (.swap _ _ _),(h2.cons A).trans (.swap _ _ _)⟩
theorem p8.set{b:Nat}{o o':Obj}{As aN:List HP}(x:p8 b o o' As aN){H:Array Obj}(s:Sat As (hp H)):Sat aN (hp (H.setIfInBounds b o')):=by obtain⟨L,h1,h2⟩:=x.perm;exact(s.perm h1).set.perm h2.symm
def At(R:Nat->aP->Array Obj->Prop)(d:Nat)(As:List HP)(g:aP):Prop:=∀ H,Sat As (hp H)->R d g H
variable{R:Nat->aP->Array Obj->Prop}{d:Nat}{As Bs:List HP}{g:aP}
theorem At.perm(p:As.Perm Bs)(h:At R d Bs g):At R d As g:=λH s=>h H (s.perm p)
theorem At.freeze{b:Nat}{o:Obj}{I:HL}(h:∀ I',Sub I I'->I' b=some o->At R d (a7 I'::As) g):At R d (bR b o::a7 I::As) g:=λH s=>
 have z:=s.freeze
 h _ z.1 (by
  obtain⟨h1,rfl,s1,h2,rfl,s2,r⟩:=s;unfold FI;cases e:h2 b with
  |none=>simp[one]
  |some x=>have:=s2 _ _ e;unfold less one at this;simp at this) H z.2
theorem Has.au{b:Nat}{o:Obj}{L:List HP}(h:Has b o L:=by(repeat(first|with_reducible exact Has.head|with_reducible apply Has.tail));done):Has b o L:=h
def PZ:List Oper->Nat->Option Oper
 |[],_=>none
 |o::_,0=>some o
 |_::l,i+1=>PZ l i
def aZ(ops:Array Oper)(i:Nat):Option Oper:=PZ ops.toList i
theorem H4:∀ (l:List Oper) (i:Nat),l[i]? =PZ l i
 |[],_=>rfl
 |o::_,0=>rfl
 |_::l,i+1=>by rw[PD];exact H4 l i
theorem db(ops:Array Oper)(i:Nat):ops[i]? =aZ ops i:=by unfold aZ;rw[<- H4];simp
def cL:Code->Code|.seq a _=>a|c=>c
def cR:Code->Code|.seq _ b=>b|c=>c
def cT:Code->Code|.cond _ a _=>a|c=>c
def cE:Code->Code|.cond _ _ b=>b|c=>c
def cC:Code->cA|.cond x _ _=>x|_=>.tmp 0
def cB:Code->Code|.block _ c=>c|.loop c=>c|.scope c=>c|c=>c
def cI:Code->Nat|.block i _=>i|.exit i=>i|.region i _ _=>i|_=>0
def cO:Code->Array Oper|.region _ ops _=>ops|_=>#[]
inductive CK where
 |skip|label|seq|cond|block|loop|scope|exit|region|draw|ret|other
def ck:Code->CK
 |.skip=>.skip|.label _=>.label|.seq .. =>.seq|.cond .. =>.cond|.block .. =>.block|.loop _=>.loop|.scope _=>.scope|.exit _=>.exit
 |.region _ _ false=>.region|.region _ _ true=>.draw|.ret=>.ret|_=>.other
theorem fb{c:Code}{x:CK}(h:ck c=x):match x with
  |.skip=>c=.skip
  |.label=>∃ l,c=.label l
  |.seq=>c=.seq (cL c) (cR c)
  |.cond=>c=.cond (cC c) (cT c) (cE c)
  |.block=>c=.block (cI c) (cB c)
  |.loop=>c=.loop (cB c)
  |.scope=>c=.scope (cB c)
  |.exit=>c=.exit (cI c)
  |.region=>c=.region (cI c) (cO c) false
  |.draw=>c=.region (cI c) (cO c) true
  |.ret=>c=.ret
  |.other=>True:=by
 subst h;cases c<;>first|rfl|exact⟨_,rfl⟩|trivial|skip
 rename_i a b d;cases d<;>rfl
def ctl:Nat->List Item->List Item
 |0,k=>k
 |n+1,k=>match k with
  |.inBlock _::k|.inScope _::k|.inRegion _ []::k=>ctl n k
  |.code c::k=>match ck c with
   |.skip|.label=>ctl n k
   |.seq=>ctl n (.code (cL c):: .code (cR c)::k)
   |.block=>ctl n (.code (cB c):: .inBlock (cI c)::k)
   |.scope=>ctl n (.code (cB c):: .inScope (cB c)::k)
   |.exit=>match exitTo (cI c) k with|some k'=>ctl n k'|none=>.code c::k
   |_=>.code c::k
  |k=>k
def p9(e:Nat->Value):List (Nat×Value)->Nat->Value
 |[]=>e
 |(i,v)::l=>put (p9 e l) i v
def jz(e:Nat->Value):List (Nat×Value)->Prop
 |[]=>True
 |(i,v)::l=>e i=v/\jz e l
theorem jJ{e:Nat->Value}:∀ {l:List (Nat×Value)},jz e l->p9 e l=e
 |[],_=>rfl
 |(i,v)::l,h=>by
  unfold p9;rw[jJ h.2]
  funext j
  unfold put;by_cases z:j=i
  ·subst z;simp[h.1]
  ·simp[z]
def F7(ops:Array Oper)(n:Nat)(e:Nat->Value)(j:Nat):Option Bool:=
 match aZ ops j with
 |some o=>match o.dst with
  |some t=>if t<n then(match e t with|.bool b=>some b|_=>none)else none
  |none=>none
 |none=>none
def aM(ops:Array Oper)(n:Nat)(e:Nat->Value):Option (Nat×Bool)->Bool
 |none=>true
 |some (j,w)=>F7 ops n e j==some w
theorem dX(ops:Array Oper)(n:Nat)(e:Nat->Value)(o:Oper):Region.wanted o (yielded ops (tm n e))=aM ops n e o.guard:=by
 unfold Region.wanted aM;cases o.guard with
 |none=>rfl
 |some p=>
  obtain⟨j,w⟩:=p;simp only;have:yielded ops (tm n e) j=F7 ops n e j:=by
   unfold yielded F7;rw[db];cases aZ ops j with
   |none=>rfl
   |some o'=>
    simp only[nE];cases o'.dst with
    |none=>rfl
    |some t=>
     simp only[nE,xl];by_cases ht:t<n
     ·simp only[aK ht];generalize e t=v;cases v<;>rfl
     ·simp[ht]
  rw[this]
variable{P:bL}{ak:Bool}{B:jW}
variable{fn:bI}{kd:Kd}{n:Nat}{e:Nat->Value}{ds:List dQ}{k:List Item}{cs:List Frame}
theorem ab.fT(C:ab P ak B R):∀ (m:Nat) (k:List Item),At R d As (gr fn kd n e ds (ctl m k) cs)->At R d As (gr fn kd n e ds k cs)
 |0,_,h=>h
 |m+1,k,h=>by
  intro H s;unfold ctl at h;split at h
  ·exact C.inBlock (C.fT m _ h H s)
  ·exact C.inScope (C.fT m _ h H s)
  ·exact C.Jk (C.fT m _ h H s)
  ·rename_i c k';split at h
   ·rename_i hc;have:=fb hc;simp only at this;rw[this];exact C.skip (C.fT m _ h H s)
   ·rename_i hc;obtain⟨l,e⟩:=fb hc;rw[e];exact C.label (C.fT m _ h H s)
   ·rename_i hc;have:=fb hc;simp only at this;rw[this];exact C.seq (C.fT m _ h H s)
   ·rename_i hc;have:=fb hc;simp only at this;rw[this];exact C.block (C.fT m _ h H s)
   ·rename_i hc;have:=fb hc;simp only at this;rw[this];exact C.scope (C.fT m _ h H s)
   ·rename_i hc;split at h
    ·rename_i k'' hx;have:=fb hc;simp only at this;rw[this];exact C.exit hx (C.fT m _ h H s)
    ·exact h H s
   ·exact h H s
  ·exact h H s
theorem ab.go(C:ab P ak B R){k':List Item}(h:At R d As (gr fn kd n e ds k' cs))(hk:ctl 60 k=k':=by conv=>{lhs;whnf}):At R d As (gr fn kd n e ds k cs):=C.fT 60 k (hk▸h)
theorem ab.cT'(C:ab P ak B R){c:Code}(h:At R d As (gr fn kd n e ds (.code (cT c)::k) cs))(hc:ck c=.cond:=by rfl)(hb:ev n e (cC c)=.bool true:=by rfl):At R d As (gr fn kd n e ds (.code c::k) cs):=λH s=>by have z:=fb hc;simp only at z;rw[z];exact C.cond hb (h H s)
theorem ab.cF'(C:ab P ak B R){c:Code}(h:At R d As (gr fn kd n e ds (.code (cE c)::k) cs))(hc:ck c=.cond:=by rfl)(hb:ev n e (cC c)=.bool false:=by rfl):At R d As (gr fn kd n e ds (.code c::k) cs):=λH s=>by have z:=fb hc;simp only at z;rw[z];exact C.cond hb (h H s)
theorem ab.Jm(C:ab P ak B R){c:Code}{k':List Item}(h:At R d As (gr fn kd n e ds k' cs))(hc:ck c=.cond:=by rfl)(hb:ev n e (cC c)=.bool true:=by rfl)(hk:ctl 60 (.code (cT c)::k)=k':=by conv=>{lhs;whnf}):At R d As (gr fn kd n e ds (.code c::k) cs):=C.cT' (C.go h hk) hc hb
theorem ab.Br(C:ab P ak B R){c:Code}{k':List Item}(h:At R d As (gr fn kd n e ds k' cs))(hc:ck c=.cond:=by rfl)(hb:ev n e (cC c)=.bool false:=by rfl)(hk:ctl 60 (.code (cE c)::k)=k':=by conv=>{lhs;whnf}):At R d As (gr fn kd n e ds (.code c::k) cs):=C.cF' (C.go h hk) hc hb
theorem ab.rg(C:ab P ak B R){c:Code}(l:List Nat)(h:At R d As (gr fn kd n e ds (.inRegion (cO c) l::k) cs))(hc:ck c=.region:=by rfl)(hl:List.range (cO c).size=l:=by rfl):At R d As (gr fn kd n e ds (.code c::k) cs):=λH s=>by subst hl;have z:=fb hc;simp only at z;rw[z];exact C.region (h H s)
theorem ab.dr(C:ab P ak B R){c:Code}(h:∀ t,At R d As (gr fn kd n e ds (.inRegion (cO c) (Region.schedule (P.follows .mixedOrders) (cO c) t)::k) cs))(hc:ck c=.draw:=by rfl):At R d As (gr fn kd n e ds (.code c::k) cs):=λH s=>by have z:=fb hc;simp only at z;rw[z];exact C.draw λt=>h t H s
theorem ab.lp(C:ab P ak B R){c:Code}(h:At R d As (gr fn kd n e ds (.code (cB c):: .inLoop (cB c)::k) cs))(hc:ck c=.loop:=by rfl):At R d As (gr fn kd n e ds (.code c::k) cs):=λH s=>by have z:=fb hc;simp only at z;rw[z];exact C.loop (h H s)
theorem ab.TQ(C:ab P ak B R){c:Code}(h:At R d As (gr fn kd n e ds (.code c:: .inLoop c::k) cs)):At R d As (gr fn kd n e ds (.inLoop c::k) cs):=λH s=>C.inLoop (h H s)
theorem ab.Xj(C:ab P ak B R){c:Code}{X:Type}(L:X->List (Nat×Value))(I:X->List HP)(Ok:X->Prop)(m:X->Nat)(x0:X)(he:jz e (L x0))(hI:As=I x0)(kV:Ok x0)
  (step:∀ x e,Ok x->(∀ y e',jz e' (L y)->Ok y->m y<m x->At R d (I y) (gr fn kd n e' ds (.inLoop (cB c)::k) cs))->At R d (I x) (gr fn kd n (p9 e (L x)) ds (.code (cB c):: .inLoop (cB c)::k) cs))
  (hc:ck c=.loop:=by rfl):At R d As (gr fn kd n e ds (.code c::k) cs):=by
 have key:∀ (N:Nat) (x:X) (e:Nat->Value),m x=N->jz e (L x)->Ok x->At R d (I x) (gr fn kd n e ds (.inLoop (cB c)::k) cs):=by
  intro N
  induction N using Nat.strongRecOn with
  |ind N ih=>
   intro x e hm he kV;refine C.TQ ?_;rw[<- jJ he];exact step x e kV λy e' we hy dA=>ih (m y) az y e' rfl we hy
 refine C.lp ?_ hc;subst hI;rw[<- jJ he];exact step x0 e kV λy e' we hy dA=>key _ y e' rfl we hy
def Xk(P:bL)(R:Nat->aP->Array Obj->Prop)(fn:bI)(kd:Kd)(n:Nat)(e:Nat->Value)(ds:List dQ)(ops:Array Oper)(i:Nat)(aa:List Nat)(k:List Item)(cs:List Frame)(dst:Option Nat)(As:List HP)(d:Nat):Next->Prop
 |.value v=>At R d As (gr fn kd n (cS e dst v) ds (.inRegion ops aa::k) cs)
 |.skip=>At R d As (gr fn kd n (cS e dst undef) ds (.inRegion ops aa::k) cs)
 |.enter f args=>At R d As (iB P f args .pb (aU fn kd n e ds (.inRegion ops (i::aa)::k)::cs))
 |.defer x=>At R d As (gr fn kd n (cS e dst undef) (x::ds) (.inRegion ops aa::k) cs)
 |_=>False
variable{ops:Array Oper}{i:Nat}{aa:List Nat}{dst:Option Nat}{t:Nat}{ty:aQ}{pos:String}{af:Array Edge}{gd:Option (Nat×Bool)}
theorem ab.gen(C:ab P ak B R){o:Oper}(ho:aZ ops i=some o)(hw:aM ops n e o.guard=true)
  (h:∀ H,Sat As (hp H)->di P B (execOp (ev n e) o) H d λx H' d'=>∃ aN,Sat aN (hp H')/\Xk P R fn kd n e ds ops i aa k cs o.dst aN d' x):At R d As (gr fn kd n e ds (.inRegion ops (i::aa)::k) cs):=λH s=>by
 refine C.op (by rw[db];exact ho) (by rw[dX];exact hw) (n5 (λx H' d' q=>?_) (h H s));obtain⟨aN,s',q⟩:=q;cases x<;>first|exact q.elim|exact q H' s'
theorem ab.no(C:ab P ak B R){op:Op}(ho:aZ ops i=some ⟨dst,op,ty,pos,af,gd⟩)(h:At R d As (gr fn kd n (cS e dst undef) ds (.inRegion ops aa::k) cs))(hw:aM ops n e gd=false:=by rfl):
  At R d As (gr fn kd n e ds (.inRegion ops (i::aa)::k) cs):=λH s=>C.TP (by rw[db];exact ho) (by rw[dX];exact hw) (h H s)
def Pu(P:bL){α:Type}(s:Sem α)(v:α):Prop:=∀ (B:jW) (H:Array Obj) (d:Nat) (Q:α->Array Obj->Nat->Prop),Q v H d->di P B s H d Q
theorem Pu.pure{α:Type}(v:α):Pu P (Sem.pure v) v:=λ_ _ _ _ h=>h
theorem Pu.bind{α β:Type}{s:Sem α}{f:α->Sem β}{a:α}{b:β}(h:Pu P s a)(k:Pu P (f a) b):Pu P (s >>= f) b:=λB H d Q q=>ah (h B H d _ (k B H d Q q))
theorem ab.val(C:ab P ak B R){op:Op}{v:Value}(ho:aZ ops i=some ⟨some t,op,ty,pos,af,gd⟩)(hw:aM ops n e gd=true)(hy:Pu P (execOp (ev n e) ⟨some t,op,ty,pos,af,gd⟩) (.value v))
  (h:At R d As (gr fn kd n (put e t v) ds (.inRegion ops aa::k) cs)):At R d As (gr fn kd n e ds (.inRegion ops (i::aa)::k) cs):=
 C.gen ho hw λH s=>hy _ _ _ _ ⟨As,s,h⟩
def tP(kd:Kd)(c:Frame):Prop:=match kd with|.pb=>True|.n7=>c.mode=.returning
def after(kd:Kd)(c:Frame)(cs:List Frame)(v:Value):aP:=match kd with|.pb=>eT c cs v|.n7=>vG c cs
def aD(P:bL)(ak:Bool)(B:jW)(f:bI)(args:Array Value)(A:List HP)(Q:Value->List HP->Prop):Prop:=
 ∀ (R:Nat->aP->Array Obj->Prop),ab P ak B R->∀ (kd:Kd) (d:Nat) (F:List HP) (c:Frame) (cs:List Frame),tP kd c->(∀ v aN,Q v aN->At R d (aN++F) (after kd c cs v))->At R d (A++F) (iB P f args kd (c::cs))
theorem aD.post{f:bI}{args:Array Value}{A:List HP}{Q Q':Value->List HP->Prop}(h:aD P ak B f args A Q)(hq:∀ v aN,Q v aN->Q' v aN):aD P ak B f args A Q':=
 λR C kd d F c cs aJ hr=>h R C kd d F c cs aJ λv aN q=>hr v aN (hq v aN q)
class Body(P:bL)(f:bI)(fu:outParam Func)(c:outParam Code)(n:outParam Nat):Prop where
 func:P.funcs[f]? =some fu
 name:(fu.name== "runtime.NumGoroutine")=false
 body:fu.body=some c
 tmps:fu.ntmps=n
theorem aD.of{f:bI}{fu:Func}{c:Code}{n:Nat}[b:Body P f fu c n]{args:Array Value}{A:List HP}{Q:Value->List HP->Prop}(h:∀ (R:Nat->aP->Array Obj->Prop),ab P ak B R->∀ (kd:Kd) (d:Nat) (F:List HP) (c':Frame) (cs:List Frame),tP kd c'->(∀ v aN,Q v aN->At R d (aN++F) (after kd c' cs v))->At R d (A++F) (gr f kd n (xj args) [] [.code c] (c'::cs)))(hn:Nat.ble args.size n=true:=by rfl):aD P ak B f args A Q:=by intro R C kd d F c' cs aJ hr;have:=b.tmps;subst this;rw[l8 b.func b.body (vW hn)];exact h R C kd d F c' cs aJ hr
theorem na{f:bI}{fu:Func}{c:Code}{n:Nat}[b:Body P f fu c n](args:Array Value):Pu P (callFunc f args) (.enter f args):=by intro B H d Q q;unfold callFunc;refine ah ?_;show di P B _ _ _ _;simp only[program,di,b.func,b.name,b.body];exact q
theorem n9{o:Oper}(ho:aZ ops i=some o)(v:Value):eT (aU fn kd n e ds (.inRegion ops (i::aa)::k)) cs v=gr fn kd n (cS e o.dst v) ds (.inRegion ops aa::k) cs:=by unfold eT gr;rw[bY (by rw[db];exact ho)]
theorem ab.cl(C:ab P ak B R){f:bI}{fu:Func}{c:Code}{nf:Nat}[b:Body P f fu c nf]{fo:cA}{args:Array cA}{fU:Array aQ}{vl:List Value}{A F:List HP}{Q:Value->List HP->Prop}(hs:aD P ak B f vl.toArray A Q)
  (h:∀ v aN,Q v aN->At R d (aN++F) (gr fn kd n (cS e dst v) ds (.inRegion ops aa::k) cs))
  (ho:aZ ops i=some ⟨dst,.call ⟨.value fo,args,fU⟩,ty,pos,af,gd⟩:=by rfl) (hw:aM ops n e gd=true:=by rfl) (hf:ev n e fo=.func (.func f) #[] #[]:=by rfl) (hv:args.toList.map (ev n e)=vl:=by rfl):At R d (A++F) (gr fn kd n e ds (.inRegion ops (i::aa)::k) cs):=by
 refine C.gen ho hw λH s=>?_;unfold execOp;simp only;refine ah ?_;have sk:args.map (ev n e)=vl.toArray:=by rw[<- hv,<- pP,sd]
 simp only[resolve,hf,Deferred.ofValue,sk];refine ah ?_;show di P B _ _ _ _;simp only[zf];show di P B (invoke (.fn (.func f) #[]) vl.toArray) H d _;unfold invoke;simp only[vV];refine na (P:=P) vl.toArray B H d _ ⟨A++F,s,?_⟩;exact hs R C .pb d F _ cs trivial λv aN q=>by show At R d (aN++F) (eT _ cs v);rw[n9 ho];exact h v aN q
def rl(fu:Func)(n:Nat)(e:Nat->Value):Option Value:=
 match fu.results.toList with
 |[]=>some (.tuple #[])
 |[.tmp t]=>some (if t<n then e t else undef)
 |[.tmp t,.tmp u]=>some (.tuple #[if t<n then e t else undef,if u<n then e u else undef])
 |[.tmp t,.tmp u,.tmp x]=>some (.tuple #[if t<n then e t else undef,if u<n then e u else undef,if x<n then e x else undef])
 |_=>none
theorem xn{fu:Func}{v:Value}(h:rl fu n e=some v):Pu P (results fu (tm n e)) v:=by
 have key:results fu (tm n e)=(pure v:Sem Value):=by
  unfold rl at h;have hl:fu.results=fu.results.toList.toArray:=by simp
  generalize fu.results.toList=l at h hl;split at h<;>first|(cases h;done)|skip
  all_goals(simp only[y0]at h;subst h)
  all_goals simp[results,hl,<- oI, -Array.getD_eq_getD_getElem?]
 rw[key];exact Pu.pure v
theorem ab.home(C:ab P ak B R){fu:Func}{c:Frame}{v:Value}{kR:List Item}(hf:P.funcs[fn]? =some fu)(aJ:tP kd c)(hv:rl fu n e=some v)(h:At R d As (after kd c cs v)):At R d As (pZ fn kd n e [] kR (c::cs)):=λH s=>by
 cases kd with
 |pb=>exact C.back hf (xn hv B H d _ (h H s))
 |n7=>exact C.Bp aJ hf (xn hv B H d _ (h H s))
theorem ab.MD(C:ab P ak B R){fu:Func}{cc:Code}{n':Nat}[b:Body P fn fu cc n']{c:Frame}{v:Value}{x:Code}(aJ:tP kd c)(h:At R d As (after kd c cs v))(hv:rl fu n e=some v:=by rfl)(hx:ck x=.ret:=by rfl):At R d As (gr fn kd n e [] (.code x::k) (c::cs)):=λH s=>by have z:=fb hx;simp only at z;subst z;exact C.ret (C.home b.func aJ hv h H s)
theorem ab.TR(C:ab P ak B R){fu:Func}{cc:Code}{n':Nat}[b:Body P fn fu cc n']{c:Frame}{v:Value}(aJ:tP kd c)(h:At R d As (after kd c cs v))(hv:rl fu n e=some v:=by rfl):At R d As (gr fn kd n e [] [] (c::cs)):=λH s=>C.fin (C.home b.func aJ hv h H s)
end
end Go.Sl
