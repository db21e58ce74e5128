/-
  Texts that the proof needs, joined: part 1.
-/
import Derived.Test.YtjomdboiibakiabGreatDoorProg
import Derived.Conc.Token
import Derived.Conc.MarkLaws
import Derived.Conc.JoinTrace
import Derived.Laws.Sem
set_option linter.unusedSimpArgs false
set_option linter.unusedVariables false
set_option maxHeartbeats 4000000
namespace Go.Sl
open Go.Proofs.Tryz
abbrev VZ:=@Array.mem_append
abbrev G3:=@Option.map_eq_some_iff
abbrev ZT:=@Array.mem_iff_getElem
abbrev Ee:=@Array.getElem?_eq_getElem
abbrev qq4:=@Array.getElem?_append_right
abbrev wP:=@Option.some.injEq
abbrev e8:=@Nat.le_refl
abbrev pW:=@List.mem_toArray
abbrev fR:=@List.mem_cons
abbrev m6:=@List.not_mem_nil
abbrev gm:=@or_false
abbrev bR:=@Option.some.inj
abbrev eN:=@if_true
abbrev eR:=@if_false
abbrev Sa:=@Array.mem_of_getElem?
abbrev lH:=@Nat.lt_or_ge
abbrev He:=@Array.getElem?_eq_none
abbrev gV:=@Array.getElem?_eq_some_iff
abbrev gK:=@Array.getElem?_setIfInBounds_ne
abbrev Et:=@Array.getElem?_map
abbrev jR:=@Option.map_some
abbrev j7:=@Array.getElem?_setIfInBounds_self_of_lt
abbrev eW:=@Nat.zero_le
abbrev Lc:=@Array.size_setIfInBounds
abbrev oC:=@Option.isSome_iff_exists
abbrev Hf:=@Array.append_assoc
abbrev NQ:=@Array.getElem?_push
abbrev ax:=@if_neg
abbrev aG:=@if_pos
abbrev Sb:=@beq_eq_false_iff_ne
abbrev jl:=@Ne.symm
abbrev Ld:=@Array.size_push
abbrev Lf:=@Nat.eq_zero_or_pos
abbrev sJ:=@Array.ext_getElem?
abbrev Sc:=@Array.getElem?_modify
abbrev Lg:=@Option.isSome_none
abbrev gn:=@Bool.false_eq_true
abbrev oX:=@List.nodup_cons
abbrev jC:=@List.length_cons
abbrev Lh:=@Nat.le_trans
abbrev Li:=@Prod.mk.inj
abbrev V0:=@Array.getElem?_push_lt
abbrev fi:=@List.cons_append
abbrev dL:=@List.mem_singleton
abbrev NR:=@Nat.lt_of_lt_of_le
abbrev V1:=@Array.getElem?_append
abbrev fY:=@List.mem_cons_self
abbrev fp:=@List.mem_cons_of_mem
abbrev mE:=@List.foldl_cons
abbrev CP:=@Array.mem_toList_iff
abbrev nh:=@Option.bind_some
abbrev xC:=@Array.append_empty
abbrev AL:=@Array.empty_append
abbrev iA:=@Option.getD_some
abbrev Sd:=@List.getElem?_cons_succ
abbrev xD:=@Nat.le_of_ble_eq_true
abbrev qZ:=@Array.toList_map
abbrev tC:=@Array.toArray_toList
abbrev V2:=@Array.getElem?_extract
abbrev uE:=@Nat.ne_of_lt
abbrev ZU:=@Array.getElem?_setIfInBounds
abbrev l5:=@Nat.zero_add
abbrev Se:=@List.size_toArray
abbrev CR:=@List.length_nil
abbrev Sf:=@List.extract_toArray
abbrev Sg:=@List.extract_eq_take_drop
abbrev NS:=@List.drop_zero
abbrev V3:=@List.take_zero
abbrev yx:=@List.setIfInBounds_toArray
abbrev xE:=@List.set_cons_succ
abbrev sK:=@List.set_cons_zero
abbrev Si:=@List.toList_toArray
abbrev Hg:=@not_true_eq_false
abbrev V4:=@List.mapM_cons
abbrev Lj:=@List.flatMap_cons
abbrev gO:=@List.length_append
abbrev qI:=@Nat.add_mul
abbrev NT:=@Nat.zero_mul
abbrev sN:=@List.append_assoc
abbrev V5:=@List.getElem_cons_zero
abbrev mT:=@List.getElem?_append_left
abbrev xF:=@List.getElem?_append_right
abbrev ez:=@List.nil_append
abbrev Hh:=@List.getElem?_toArray
abbrev NU:=@List.length_eq_zero_iff
abbrev jS:=@List.length_take
abbrev xG:=@Nat.min_eq_left
abbrev V6:=@List.set_eq_take_append_cons_drop
abbrev V7:=@List.set_append_right
abbrev Sj:=@Nat.add_sub_cancel_left
abbrev AM:=@List.map_toArray
abbrev gW:=@List.map_cons
abbrev l6:=@List.map_nil
abbrev NV:=@List.getElem?_cons_zero
abbrev Eu:=@Bool.not_false
abbrev CS:=@Nat.mul_le_mul_right
abbrev Ll:=@List.mem_flatMap
abbrev CU:=@List.length_drop
abbrev V8:=@Array.foldl_toList
abbrev V9:=@Array.toList_zipIdx
abbrev l7:=@List.append_nil
abbrev yy:=@Nat.mod_eq_of_lt
abbrev Jp:=@Option.map_none
abbrev yz:=@List.pairwise_iff_getElem
abbrev dG:=@List.getElem?_eq_some_iff
abbrev yA:=@Nat.lt_trichotomy
abbrev wQ:=@List.mem_map_of_mem
abbrev il:=@List.nodup_append
abbrev Ev:=@Prod.mk.injEq
abbrev fH:=@List.getElem?_map
abbrev Ew:=@List.ext_getElem?
abbrev Bn:=@List.getElem?_modify
abbrev oY:=@List.getElem?_set
abbrev bM:=@List.mem_map
abbrev eI:=@List.map_append
abbrev bS:=@List.mem_append
abbrev NW:=@List.eraseIdx_cons_succ
abbrev ko:=@List.eraseIdx_sublist
abbrev jc:=@Bool.and_eq_true
abbrev kp:=@List.all_eq_true
abbrev gI:=@List.mem_filter
abbrev yB:=@Bool.or_eq_true
abbrev sY:=@beq_iff_eq
abbrev oZ:=@List.any_eq_true
abbrev Ex:=@Bool.not_eq_true'
abbrev l8:=@List.mem_range
abbrev qv:=@decide_eq_true_eq
abbrev Ey:=@List.nodup_nil
abbrev NX:=@List.perm_cons_erase
abbrev jU:=@List.mem_append_right
abbrev ks:=@List.mem_append_left
abbrev Jq:=@List.perm_middle
abbrev Ez:=@List.reverse_nil
abbrev EA:=@Nat.mod_lt
abbrev cK:=@List.getElem?_eq_getElem
abbrev dp:=@List.getElem_mem
abbrev qw:=@List.filter_append
abbrev NY:=@Nat.pos_iff_ne_zero
abbrev Jr:=@List.drop_drop
abbrev sZ:=@List.take_append_drop
abbrev NZ:=@Array.mapM_eq_mapM_toList
abbrev N3:=@map_eq_pure_bind
abbrev eg:=@List.length_set
abbrev Js:=@List.eraseIdx_eq_take_drop_succ
abbrev o3:=@List.drop_eq_getElem_cons
abbrev UC:=@List.perm_append_singleton
abbrev yC:=@dif_pos
abbrev Jt:=@Classical.choose_spec
abbrev o4:=@true_and
abbrev Ju:=@Bool.and_false
abbrev s4:=@List.getElem?_take_of_lt
abbrev yD:=@Bool.false_and
abbrev Bo:=@List.mem_iff_getElem
abbrev dg:=@List.mem_of_getElem?
abbrev EB:=@List.mem_of_mem_eraseIdx
abbrev s5:=@Bool.not_true
abbrev iL:=@List.mem_or_eq_of_mem_set
abbrev Bp:=@List.set_getElem_self
abbrev uF:=@Classical.not_not
abbrev gJ:=@List.length_singleton
abbrev Jv:=@Nat.lt_succ_iff_lt_or_eq
abbrev o5:=@List.getElem?_of_mem
abbrev Jw:=@List.find?_eq_none
abbrev N4:=@Option.getD_none
abbrev dW:=@List.length_map
abbrev wR:=@List.getElem?_eq_none
abbrev N5:=@List.find?_append
abbrev Jx:=@Bool.false_or
abbrev Bq:=@Function.comp_def
abbrev uG:=@List.map_map
abbrev Jy:=@List.filter_sublist
abbrev jD:=@List.take_of_length_le
abbrev Br:=@List.take_append_of_le_length
abbrev Jz:=@List.findIdx?_cons
abbrev UD:=@List.exists_mem_of_ne_nil
abbrev N6:=@Classical.byContradiction
abbrev JA:=@List.find?_some
abbrev Bt:=@List.mem_of_find?_eq_some
abbrev o6:=@List.filter_cons
abbrev nW:=@Int.le_refl
abbrev EC:=@List.map_take
abbrev N7:=@List.append_inj'
abbrev N8:=@List.singleton_inj
abbrev ED:=@List.take_add_one
abbrev JB:=@List.pairwise_map
abbrev N9:=@List.pairwise_mergeSort
abbrev Oa:=@List.mergeSort_perm
abbrev UE:=@List.Perm.eq_of_pairwise
abbrev JC:=@List.getElem_range
abbrev gv:=@Int.toNat_natCast
abbrev EE:=@List.getElem?_set_self
abbrev wS:=@List.getElem?_set_ne
abbrev wT:=@List.map_set
abbrev UF:=@List.getElem?_eq_none_iff
abbrev JD:=@List.findIdx?_eq_none_iff
abbrev nX:=@Nat.le_succ
abbrev uH:=@List.findIdx?_eq_some_iff_getElem
abbrev UG:=@List.mem_eraseIdx_iff_getElem?
abbrev mN:=@List.getElem_of_mem
abbrev JE:=@List.getElem_set_self
abbrev JF:=@List.getElem_set_ne
abbrev yE:=@List.length_filter_le
abbrev yF:=@Nat.sub_self
abbrev UH:=@List.eq_of_mem_replicate
abbrev EF:=@List.mem_of_mem_take
abbrev Ob:=@Nat.xor_lt_two_pow
abbrev JG:=@BitVec.ofInt_natCast
abbrev JH:=@BitVec.toNat_ofNat
abbrev uI:=@Nat.le_of_lt
abbrev l9:=@List.mem_iff_getElem?
abbrev kM:=@List.foldl_append
abbrev JI:=@List.take_length
abbrev ni:=@List.drop_of_length_le
abbrev JJ:=@List.eq_nil_of_length_eq_zero
abbrev uJ:=@decide_eq_true
abbrev iM:=@List.take_succ_eq_append_getElem
abbrev wU:=@List.foldl_nil
abbrev Oc:=@List.isEmpty_iff
abbrev JK:=@Int.ofNat_tdiv
abbrev nj:=@Bool.eq_false_or_eq_true
abbrev yG:=@and_true
abbrev nl:=@Nat.two_pow_pos
abbrev yH:=@Nat.lt_of_le_of_lt
abbrev lK:=@Int.eq_ofNat_of_zero_le
abbrev qx:=@decide_eq_false
abbrev EG:=@List.filter_nil
abbrev Od:=@List.length_eraseIdx
abbrev JL:=@List.reverse_cons
abbrev Oe:=@List.reverse_perm
abbrev Of:=@List.getElem_append_right
abbrev Og:=@decide_eq_false_iff_not
abbrev Oh:=@List.ext_getElem
abbrev Oi:=@List.length_replicate
abbrev UI:=@List.perm_append_comm_assoc
abbrev yI:=@List.length_range
abbrev Oj:=@Nat.le_antisymm
abbrev Ol:=@Nat.one_shiftLeft
abbrev JM:=@Nat.le_of_eq
abbrev aM:=Goroutine
abbrev aO:=TypeId
abbrev bL:=Program
abbrev eo:=Deferred
abbrev cZ:=Operand
abbrev bJ:=FuncId
section
theorem ai{p:Prop}(h:p:=by omega):p:=h
theorem dq{p:Prop}(h:p:=by dsimp only;omega):p:=h
open Go.Conc
structure Px(rd:Nat->Loc->Prop)(lo:Nat->Prop)(sh:Loc->Prop)(B:Nat)(K:Nat->Prop)(t:Trace):Prop where
 clean:∀ said,¬ Race said t
 known:∀ i a,touchAt t i=some a->a.loc.isMemory=true->
  K i\/(a.write=false/\∃ g,t.g? i=some g/\lo g/\rd g a.loc)\/(a.kind=.atomic/\sh a.loc/\¬ t.heard i)
 wrote:∀ i a,touchAt t i=some a->a.write=true->∀ g,lo g->rd g a.loc->Knows t g i
 plain:∀ i a,touchAt t i=some a->sh a.loc->a.kind≠ .plain
 norel:∀ i ad,t.act? i=some (.mark (.release ad))->¬ sh (.cell ad)
 seen:∀ op∈t,op.act.low B
variable{rd:Nat->Loc->Prop}{lo:Nat->Prop}{sh:Loc->Prop}{B B' h:Nat}{K K':Nat->Prop}{t u:Trace}
theorem o7(h:∀ op∈t,op.act.low B)(hB:B<=B')(hu:∀ op∈u,op.act.low B'):∀ op∈t++u,op.act.low B':=
 λop cG=>(VZ.1 cG).elim (λx=>MemAct.low_mono hB (h op x)) (hu op)
theorem Px.uK(H:Px rd lo sh B K t)(hK:∀ i,K i->K' i){i:Nat}{a:Touch}{x:MemOp}(fb:t[i]? =some x)(iZ:x.act.touch?=some a)(hm:a.loc.isMemory=true):
  K' i\/(a.write=false/\∃ g,(t++u).g? i=some g/\lo g/\rd g a.loc)\/(a.kind=.atomic/\sh a.loc/\¬ (t++u).heard i):=by
 have du:=lt_size_of_getElem? fb;rcases H.known i a (by rw[touchAt_of fb];exact iZ) hm with h1|⟨h1,g,hg,hl,hr⟩|⟨h1,h2,h3⟩
 ·exact .inl (hK i h1)
 ·exact .inr (.inl ⟨h1,g,by rw[g?_old du];exact hg,hl,hr⟩)
 ·exact .inr (.inr ⟨h1,h2,λz=>h3 ((heard_old du).1 z)⟩)
theorem Px.q5(H:Px rd lo sh B K t)(hu:∀ op∈u,∀ b,op.act.touch?=some b->sh b.loc->b.kind≠ .plain):∀ i a,touchAt (t++u) i=some a->sh a.loc->a.kind≠ .plain:=by
 intro i a ha hs;obtain⟨x,hx,iZ⟩:=touch_of ha;rcases getElem?_append_cases hx with⟨hi,fb⟩|⟨_,vP⟩
 ·exact H.plain i a (by rw[touchAt_of fb];exact iZ) hs
 ·exact hu x vP a iZ hs
theorem Px.yJ(H:Px rd lo sh B K t)(hu:∀ op∈u,∀ ad,op.act=.mark (.release ad)->¬ sh (.cell ad)):∀ i ad,(t++u).act? i=some (.mark (.release ad))->¬ sh (.cell ad):=by
 intro i ad ha;obtain⟨x,hx,iZ⟩:=G3.1 ha;rcases getElem?_append_cases hx with⟨hi,fb⟩|⟨_,vP⟩
 ·exact H.norel i ad (by rw[act?_of fb,iZ])
 ·exact hu x vP ad iZ
theorem Px.own(H:Px rd lo sh B (Knows t h) t)(hu:∀ op∈u,op.g=h)
  (hs:∀ op∈u,∀ b,op.act.touch?=some b->(b.write=true->∀ g,lo g->¬ rd g b.loc)/\(sh b.loc->b.kind≠ .plain))
  (hr:∀ op∈u,∀ ad,op.act=.mark (.release ad)->¬ sh (.cell ad)) (hB:B<=B') (hl:∀ op∈u,op.act.low B'):Px rd lo sh B' (Knows (t++u) h) (t++u):=by
 refine⟨λsaid=>noRace_append (H.clean said) hu λi a ha op cG b hb hc=>?_,λi a ha hm=>?_,λi a ha hw g hg iw=>?_,H.q5 λop cG b hb=>(hs op cG b hb).2,H.yJ hr,o7 H.seen hB hl⟩
 ·rcases H.known i a ha hc.2.1 with hk|⟨hw,g,_,sO,iw⟩|⟨Np,qJ,_⟩
  ·exact hk
  ·rcases hc.2.2.1 with x|x
   ·rw[hw]at x;cases x
   ·exact absurd (hc.1▸iw) ((hs op cG b hb).1 x g sO)
  ·have hbk:=(hs op cG b hb).2 (hc.1▸qJ);rcases hc.2.2.2 with x|x|⟨_,x,_⟩
   ·rw[Np]at x;cases x
   ·exact absurd x hbk
   ·rw[Np]at x;cases x
 ·obtain⟨x,hx,iZ⟩:=touch_of ha;rcases getElem?_append_cases hx with⟨_,fb⟩|⟨_,vP⟩
  ·exact H.uK (λi=>Knows.app u) fb iZ hm
  ·have:=knows_own hx;rw[hu x vP]at this;exact .inl this
 ·obtain⟨x,hx,iZ⟩:=touch_of ha;rcases getElem?_append_cases hx with⟨_,fb⟩|⟨_,vP⟩
  ·exact(H.wrote i a (by rw[touchAt_of fb];exact iZ) hw g hg iw).app u
  ·exact absurd iw ((hs x vP a iZ).1 hw g hg)
theorem Px.mute(H:Px rd lo sh B K t)(hK:∀ i,K i->K' i)(hn:∀ op∈u,op.act.touch?=none)
  (hr:∀ op∈u,∀ ad,op.act=.mark (.release ad)->¬ sh (.cell ad)) (hB:B<=B') (hl:∀ op∈u,op.act.low B'):Px rd lo sh B' K' (t++u):=by
 refine⟨λsaid=>noRace_appendMute (H.clean said) hn,λi a ha hm=>?_,λi a ha hw g hg iw=>?_,H.q5 λop cG b hb=>(by rw[hn op cG]at hb;cases hb),H.yJ hr,o7 H.seen hB hl⟩
 ·obtain⟨x,hx,iZ⟩:=touch_of ha;rcases getElem?_append_cases hx with⟨_,fb⟩|⟨_,vP⟩
  ·exact H.uK hK fb iZ hm
  ·rw[hn x vP]at iZ;cases iZ
 ·obtain⟨x,hx,iZ⟩:=touch_of ha;rcases getElem?_append_cases hx with⟨_,fb⟩|⟨_,vP⟩
  ·exact(H.wrote i a (by rw[touchAt_of fb];exact iZ) hw g hg iw).app u
  ·rw[hn x vP]at iZ;cases iZ
theorem Px.reads{g:Nat}(H:Px rd lo sh B K t)(hK:∀ i,K i->K' i)(hL:lo g)(hu:∀ op∈u,op.g=g)(hr:∀ op∈u,∀ b,op.act.touch?=some b->b.write=false/\rd g b.loc/\¬ sh b.loc)
  (q6:∀ op∈u,∀ ad,op.act=.mark (.release ad)->¬ sh (.cell ad)) (hB:B<=B') (hl:∀ op∈u,op.act.low B'):Px rd lo sh B' K' (t++u):=by
 refine⟨λsaid=>noRace_append (H.clean said) hu λi a ha op cG b hb hc=>?_,λi a ha hm=>?_,λi a ha hw g' Sk iw=>?_,H.q5 λop cG b hb hs=>absurd hs (hr op cG b hb).2.2,H.yJ q6,o7 H.seen hB hl⟩
 ·obtain⟨Az,hbS,_⟩:=hr op cG b hb;rcases hc.2.2.1 with x|x
  ·exact H.wrote i a ha x g hL (hc.1▸hbS)
  ·rw[Az]at x;cases x
 ·obtain⟨x,hx,iZ⟩:=touch_of ha;rcases getElem?_append_cases hx with⟨_,fb⟩|⟨_,vP⟩
  ·exact H.uK hK fb iZ hm
  ·exact .inr (.inl ⟨(hr x vP a iZ).1,g,by rw[g?_of hx,hu x vP],hL,(hr x vP a iZ).2.1⟩)
 ·obtain⟨x,hx,iZ⟩:=touch_of ha;rcases getElem?_append_cases hx with⟨_,fb⟩|⟨_,vP⟩
  ·exact(H.wrote i a (by rw[touchAt_of fb];exact iZ) hw g' Sk iw).app u
  ·rw[(hr x vP a iZ).1]at hw;cases hw
theorem Px.Sn{g:Nat}(H:Px rd lo sh B K t)(hK:∀ i,K i->K' i)(hu:∀ op∈u,op.g=g)(hr:∀ (i:Nat) (op:MemOp),u[i]? =some op->∀ b,op.act.touch?=some b->b.kind=.atomic/\sh b.loc/\¬ (t++u).heard (t.size+i))
  (Ef:∀ g l,lo g->rd g l->¬ sh l) (q6:∀ op∈u,∀ ad,op.act=.mark (.release ad)->¬ sh (.cell ad)) (hB:B<=B') (hl:∀ op∈u,op.act.low B'):Px rd lo sh B' K' (t++u):=by
 have oD:∀ op∈u,∀ b,op.act.touch?=some b->b.kind=.atomic/\sh b.loc:=λop cG b hb=>by obtain⟨i,hi,rfl⟩:=ZT.1 cG;have:=hr i _ (Ee hi) b hb;exact⟨this.1,this.2.1⟩
 refine⟨λsaid=>noRace_append (H.clean said) hu λi a ha op cG b hb hc=>?_,λi a ha hm=>?_,λi a ha hw g' Sk iw=>?_,H.q5 λop cG b hb _=>(by rw[(oD op cG b hb).1];simp),H.yJ q6,o7 H.seen hB hl⟩
 ·obtain⟨G4,UJ⟩:=oD op cG b hb;have h1:=H.plain i a ha (hc.1▸UJ);rcases hc.2.2.2 with x|x|⟨_,_,x⟩
  ·exact absurd x h1
  ·rw[G4]at x;cases x
  ·rw[G4]at x;cases x
 ·obtain⟨x,hx,iZ⟩:=touch_of ha;rcases getElem?_append_cases hx with⟨_,fb⟩|⟨Zc,vP⟩
  ·exact H.uK hK fb iZ hm
  ·have hi:u[i-t.size]? =some x:=by rw[qq4 Zc]at hx;exact hx
   obtain⟨h1,h2,h3⟩:=hr _ x hi a iZ;rw[show t.size+(i-t.size)=i by omega]at h3;exact .inr (.inr ⟨h1,h2,h3⟩)
 ·obtain⟨x,hx,iZ⟩:=touch_of ha;rcases getElem?_append_cases hx with⟨_,fb⟩|⟨_,vP⟩
  ·exact(H.wrote i a (by rw[touchAt_of fb];exact iZ) hw g' Sk iw).app u
  ·exact absurd (oD x vP a iZ).2 (Ef g' _ Sk iw)
theorem Px.reset{Lm:Nat->Loc->Prop}{Zd:Nat->Prop}(H:Px rd lo sh B K t)(hK:∀ i a g,touchAt t i=some a->a.loc.isMemory=true->a.write=false->t.g? i=some g->lo g->rd g a.loc->K i\/(Zd g/\Lm g a.loc)\/(a.kind=.atomic/\sh a.loc/\¬ t.heard i))
  (hw:∀ g l,Zd g->Lm g l->(lo g/\rd g l)\/∀ i a,touchAt t i=some a->a.write=true->a.loc=l->Knows t g i):Px Lm Zd sh B K t:=by
 refine⟨H.clean,λi a ha hm=>?_,λi a ha Ze g hg iw=>?_,H.plain,H.norel,H.seen⟩
 ·rcases H.known i a ha hm with h1|⟨h1,g,hg,hl,hr⟩|h1
  ·exact .inl h1
  ·rcases hK i a g ha hm h1 hg hl hr with h2|⟨h2,h3⟩|h2
   ·exact .inl h2
   ·exact .inr (.inl ⟨h1,g,hg,h2,h3⟩)
   ·exact .inr (.inr h2)
  ·exact .inr (.inr h1)
 ·rcases hw g _ hg iw with⟨h1,h2⟩|h1
  ·exact H.wrote i a ha Ze g h1 h2
  ·exact h1 i a ha Ze rfl
theorem Px.q7{UK:Loc->Prop}(H:Px rd lo sh B K t)(jd:∀ l,sh l->UK l)(tD:∀ l,UK l->¬ sh l->∃ a:Addr,l=.cell a/\B<=a.block):Px rd lo UK B K t:=by
 refine⟨H.clean,λi a ha hm=>(H.known i a ha hm).imp id λz=>z.imp id λ⟨x,y,z⟩=>⟨x,jd _ y,z⟩,H.wrote,λi a ha hs=>?_,λi ad ha hs=>?_,H.seen⟩
 ·by_cases h0:sh a.loc
  ·exact H.plain i a ha h0
  ·obtain⟨ad,e,hb⟩:=tD _ hs h0;obtain⟨x,hx,iZ⟩:=touch_of ha;have hl:=H.seen x (mem_of_getElem? hx);exfalso;cases EH:x.act with
   |access ev=>
    rw[EH]at iZ hl;simp only[MemAct.touch?,wP]at iZ;subst iZ;simp only at e;simp only[MemAct.low,e,Loc.low]at hl;omega
   |mark m=>
    rw[EH]at iZ hl;cases m<;>simp only[MemAct.touch?,wP,reduceCtorEq]at iZ<;>subst iZ<;>simp only[Loc.cell.injEq]at e<;>subst e<;>simp only[MemAct.low]at hl<;>omega
   |_=>rw[EH]at iZ;simp[MemAct.touch?]at iZ
 ·by_cases h0:sh (.cell ad)
  ·exact H.norel i ad ha h0
  ·obtain⟨ad',e,hb⟩:=tD _ hs h0;obtain rfl:=Loc.cell.inj e;obtain⟨x,hx,iZ⟩:=G3.1 ha;have hl:=H.seen x (mem_of_getElem? hx);rw[iZ]at hl;simp only[MemAct.low]at hl;omega
variable{j:Nat}
theorem Px.give(H:Px rd lo sh B (Knows t h) t)(dh:Deaf t h=0)(dj:Deaf t j=0)(fh:bJ)(ph:String)(fj:bJ)(pj:String){c:Nat}(k cap:Nat)(hc:c<B):
  Px rd (λg=>lo g/\g≠j) sh B (Knows (t++met h j fh ph fj pj c k cap) j) (t++met h j fh ph fj pj c k cap):=by
 have hn:=met_mute h j fh ph fj pj c k cap;have e0:(t++met h j fh ph fj pj c k cap)[t.size]? =some {g:=h,fn:=fh,pos:=ph,act:=.send c k}:=by simp[met]
 have e3:(t++met h j fh ph fj pj c k cap)[t.size+3]? =some {g:=j,fn:=fj,pos:=pj,act:=.recvDone c k}:=by simp[met]
 have Om:HappensBefore (t++met h j fh ph fj pj c k cap) t.size (t.size+3):=
  Relation.TransGen.single (.inr ⟨.handOver (act?_of e0) (act?_of e3),⟨h,g?_of e0,by rw[deaf_old (e8 _)];exact dh⟩,⟨j,g?_of e3,by rw[deaf_quiet (met_quiet _ _ _ _ _ _ _ _ _ j) 3 (by simp[met])];exact dj⟩⟩)
 have hl:∀ op∈met h j fh ph fj pj c k cap,op.act.low B:=λop cG=>by simp only[met,pW,fR,m6,gm]at cG;rcases cG with rfl|rfl|rfl|rfl<;>exact hc
 have q6:∀ op∈met h j fh ph fj pj c k cap,∀ ad,op.act=.mark (.release ad)->¬ sh (.cell ad):=λop cG ad e=>by simp only[met,pW,fR,m6,gm]at cG;rcases cG with rfl|rfl|rfl|rfl<;>cases e
 refine⟨λsaid=>noRace_appendMute (H.clean said) hn,λi a ha hm=>?_,λi a ha hw g hg iw=>?_,H.q5 λop cG b hb=>(by rw[hn op cG]at hb;cases hb),H.yJ q6,o7 H.seen (e8 _) hl⟩
 ·obtain⟨x,hx,iZ⟩:=touch_of ha;rcases getElem?_append_cases hx with⟨hi,fb⟩|⟨_,vP⟩
  ·rcases H.known i a (by rw[touchAt_of fb];exact iZ) hm with hk|⟨p,g,hg,hl,hr⟩|⟨p,q,r⟩
   ·exact .inl ⟨t.size+3,_,e3,rfl,.inr ((hk.hb_new (e8 _) e0 rfl).trans Om)⟩
   ·by_cases e:g=j
    ·subst e;have:=knows_own hx;rw[show x.g=g from by have:=g?_of fb;rw[hg]at this;exact(bR this).symm]at this;exact .inl this
    ·exact .inr (.inl ⟨p,g,by rw[g?_old hi];exact hg,⟨hl,e⟩,hr⟩)
   ·exact .inr (.inr ⟨p,q,λz=>r ((heard_old hi).1 z)⟩)
  ·rw[hn x vP]at iZ;cases iZ
 ·obtain⟨x,hx,iZ⟩:=touch_of ha;rcases getElem?_append_cases hx with⟨_,fb⟩|⟨_,vP⟩
  ·exact(H.wrote i a (by rw[touchAt_of fb];exact iZ) hw g hg.1 iw).app _
  ·rw[hn x vP]at iZ;cases iZ
theorem Px.loosen{g₀:Nat}{S:Loc->Prop}{K:Nat->Prop}(H:Px rd lo sh B K t)(AA:¬ lo g₀)(hS:∀ l,S l->l.isMemory=true/\¬ sh l)(hk:∀ i a,touchAt t i=some a->a.write=true->S a.loc->Knows t g₀ i):
  Px (λg l=>if g=g₀ then S l else rd g l) (λg=>lo g\/g=g₀) sh B K t:=by
 refine H.reset (λi a g ha hm hw hg hl hr=>.inr (.inl ⟨.inl hl,?_⟩)) λg l hg hr=>?_
 ·have:g≠g₀:=λe=>AA (e▸hl);simpa[this]using hr
 ·by_cases e:g=g₀
  ·subst e;simp only[eN]at hr;exact .inr λi a ha hw hl=>hk i a ha hw (hl▸hr)
  ·simp only[e,eR]at hr;rcases hg with hg|hg
   ·exact .inl ⟨hg,hr⟩
   ·exact absurd hg e
theorem Px.writes{K:Nat->Prop}(H:Px rd lo sh B K t){l:Loc}(hm:l.isMemory=true)(hs:¬ sh l){i:Nat}{a:Touch}(ha:touchAt t i=some a)(hw:a.write=true)(hl:a.loc=l):K i:=by
 rcases H.known i a ha (hl▸hm)with h1|⟨h1,_⟩|⟨_,h1,_⟩
 ·exact h1
 ·rw[hw]at h1;cases h1
 ·exact absurd (hl▸h1) hs
theorem Px.hire{c:Nat}{S:Loc->Prop}(H:Px rd lo sh B (Knows t h) t)(dh:Deaf t h=0)(dc:Deaf t c=0)(AA:¬ lo c)(hS:∀ l,S l->l.isMemory=true/\¬ sh l)(fh:bJ)(ph:String)(fc:bJ):
  Px (λg l=>if g=c then S l else rd g l) (λg=>lo g\/g=c) sh B (Knows (t++#[{g:=h,fn:=fh,pos:=ph,act:=.go c},{g:=c,fn:=fc,pos:=ph,act:=.start}]) h)
   (t++#[{g:=h,fn:=fh,pos:=ph,act:=.go c},{g:=c,fn:=fc,pos:=ph,act:=.start}]):=by
 generalize hu:(#[{g:=h,fn:=fh,pos:=ph,act:=.go c},{g:=c,fn:=fc,pos:=ph,act:=.start}]:Trace)=u;have hn:∀ op∈u,op.act.touch?=none:=by intro op cG;subst hu;simp only[pW,fR,m6,gm]at cG;rcases cG with rfl|rfl<;>rfl
 have hq:∀ g,∀ op∈u,∀ d,deafStep g d op=d:=by intro g op cG d;subst hu;simp only[pW,fR,m6,gm]at cG;rcases cG with rfl|rfl<;>rfl
 have e0:(t++u)[t.size]? =some {g:=h,fn:=fh,pos:=ph,act:=.go c}:=by subst hu;simp
 have e1:(t++u)[t.size+1]? =some {g:=c,fn:=fc,pos:=ph,act:=.start}:=by subst hu;simp
 have Om:HappensBefore (t++u) t.size (t.size+1):=
  Relation.TransGen.single (.inr ⟨.spawn (act?_of e0) (act?_of e1) (g?_of e1),⟨h,g?_of e0,by rw[deaf_old (e8 _)];exact dh⟩,⟨c,g?_of e1,by rw[deaf_quiet (hq c) 1 (by subst hu;simp)];exact dc⟩⟩)
 have hl:∀ op∈u,op.act.low B:=λop cG=>by subst hu;simp only[pW,fR,m6,gm]at cG;rcases cG with rfl|rfl<;>trivial
 have q6:∀ op∈u,∀ ad,op.act=.mark (.release ad)->¬ sh (.cell ad):=λop cG ad e=>by subst hu;simp only[pW,fR,m6,gm]at cG;rcases cG with rfl|rfl<;>cases e
 have H':Px rd lo sh B (Knows (t++u) h) (t++u):=H.mute (λi=>Knows.app u) hn q6 (e8 _) hl;refine H'.loosen AA hS λi a ha hw hSl=>?_;obtain⟨x,hx,iZ⟩:=touch_of ha;rcases getElem?_append_cases hx with⟨_,fb⟩|⟨_,vP⟩
 ·have hk:=H.writes (hS _ hSl).1 (hS _ hSl).2 (by rw[touchAt_of fb];exact iZ) hw rfl;exact⟨t.size+1,_,e1,rfl,.inr ((hk.hb_new (e8 _) e0 rfl).trans Om)⟩
 ·rw[hn x vP]at iZ;cases iZ
structure o8(sh:Loc->Prop)(a:Addr)(t:Trace)(g r:Nat):Prop where
 act:t.act? r=some (.mark (.releaseMerge a))
 own:t.g? r=some g
 heard:t.heard r
 after:∀ i x,r<i->t.g? i=some g->touchAt t i=some x->x.kind=.atomic/\sh x.loc/\¬ t.heard i
theorem o8.app{a:Addr}{g r:Nat}{u:Trace}(H:o8 sh a t g r)(hu:∀ (i:Nat) (op:MemOp),u[i]? =some op->op.g=g->∀ b,op.act.touch?=some b->b.kind=.atomic/\sh b.loc/\¬ (t++u).heard (t.size+i)):o8 sh a (t++u) g r:=by
 have hr:=lt_of_act? H.act;refine⟨by rw[act?_old hr];exact H.act,by rw[g?_old hr];exact H.own,(heard_old hr).2 H.heard,λi x hi hg hx=>?_⟩;obtain⟨op,cG,iZ⟩:=touch_of hx;rcases getElem?_append_cases cG with⟨du,So⟩|⟨Zc,_⟩
 ·obtain⟨h1,h2,h3⟩:=H.after i x hi (by rw[<- g?_old (u:=u) du];exact hg) (by rw[touchAt_of So];exact iZ);exact⟨h1,h2,λz=>h3 ((heard_old du).1 z)⟩
 ·have ee:u[i-t.size]? =some op:=by rw[qq4 Zc]at cG;exact cG
  have hog:op.g=g:=by rw[g?_of cG]at hg;exact bR hg
  have:=hu _ op ee hog x iZ
  rwa[show t.size+(i-t.size)=i by omega]at this
theorem o8.other{a:Addr}{g g' r:Nat}{u:Trace}(H:o8 sh a t g r)(hu:∀ op∈u,op.g=g')(eV:g'≠g):o8 sh a (t++u) g r:=
 H.app λi op cG hg=>absurd ((hu op (Sa cG)).symm.trans hg) eV
theorem o8.still{a:Addr}{g r:Nat}{u:Trace}(H:o8 sh a t g r)(hu:∀ op∈u,op.act.touch?=none):o8 sh a (t++u) g r:=
 H.app λi op cG hg b hb=>by rw[hu op (Sa cG)]at hb;cases hb
theorem o8.new{a:Addr}{g:Nat}{op:MemOp}(hg:op.g=g)(ha:op.act=.mark (.releaseMerge a))(hd:Deaf t g=0):o8 sh a (t++#[op]) g t.size:=by
 have yK:(t++#[op])[t.size]? =some op:=by simp
 refine⟨by rw[act?_of yK,ha],by rw[g?_of yK,hg],⟨g,by rw[g?_of yK,hg],by rw[deaf_old (e8 _)];exact hd⟩,λi x hi hgi hx=>?_⟩;obtain⟨y,hy,_⟩:=touch_of hx;have:=lt_size_of_getElem? hy;simp at this;omega
theorem Px.acquire{a:Addr}{I:Nat->Prop}{op:MemOp}(H:Px rd lo sh B (Knows t h) t)(dh:Deaf t h=0)(cG:op.g=h)(EH:op.act=.mark (.acquire a))(qJ:sh (.cell a))(hB:a.block<B)
  (hI:∀ g,I g->∃ r,o8 sh a t g r):Px rd (λg=>lo g/\¬ I g) sh B (Knows (t++#[op]) h) (t++#[op]):=by
 have hn:∀ o∈#[op],o.act.touch?=none:=λo ho=>by simp only[pW,fR,m6,gm]at ho;subst ho;rw[EH];rfl
 have H':Px rd lo sh B (Knows (t++#[op]) h) (t++#[op]):=H.mute (λi=>Knows.app _) hn (λo ho ad e=>by
  simp only[pW,fR,m6,gm]at ho;subst ho;rw[EH]at e;cases e) (e8 _) (λo ho=>by
  simp only[pW,fR,m6,gm]at ho;subst ho;rw[EH];exact hB)
 have yK:(t++#[op])[t.size]? =some op:=by simp
 refine H'.reset (λi x g hx hm hw hg hl hr=>?_) λg l hg hr=>.inl ⟨hg.1,hr⟩;by_cases hIg:I g
 ·obtain⟨r,hR⟩:=hI g hIg;have ZV:o8 sh a (t++#[op]) g r:=hR.still hn;rcases lH r i with x9|x9
  ·exact .inr (.inr (ZV.after i x x9 hg hx))
  ·left;have hrl:=lt_of_act? hR.act;obtain⟨y,hy,Zf⟩:=touch_of hx;obtain⟨z,hz,hza⟩:=G3.1 (show((t++#[op])[r]?).map (·.act)=_ from ZV.act);have hzg:z.g=g:=by have:=ZV.own;rw[g?_of hz]at this;exact bR this
   have hyg:y.g=g:=by rw[g?_of hy]at hg;exact bR hg
   have eV:i≠r:=λe=>by subst e;rw[hy]at hz;obtain rfl:=bR hz;rw[hza]at Zf;cases Zf
   have Om:HappensBefore (t++#[op]) r t.size:=
    Relation.TransGen.single (.inr ⟨.marked (a:=a) hrl (.inr ZV.act) (by rw[act?_of yK,EH]) (λk h1 h2 e=>H'.norel k a e qJ),ZV.heard,⟨h,by rw[g?_of yK,cG],by rw[deaf_old (e8 _)];exact dh⟩⟩)
   exact⟨t.size,op,yK,cG,.inr ((hb_po ai hy hz (hyg.trans hzg.symm)).trans Om)⟩
 ·exact .inr (.inl ⟨⟨hl,hIg⟩,hr⟩)
theorem Px.toPast(H:Px rd lo sh B (Knows t 0) t)(h0:Deaf t 0=0)(hL:∀ g,¬ lo g):Past sh B t:=by
 have hk:∀ i a,touchAt t i=some a->a.loc.isMemory=true->Knows t 0 i\/(a.kind=.atomic/\sh a.loc/\¬ t.heard i):=λi a ha hm=>(H.known i a ha hm).imp id λz=>z.elim (λ⟨_,g,_,hl,_⟩=>absurd hl (hL g)) id;refine⟨H.clean,λi a ha hm=>(hk i a ha hm).imp id λz=>⟨z.2.1,z.1⟩,λi g hg eV ⟨x,hx,hm,hc⟩=>?_,h0,H.seen⟩;rcases hk i x hx hm with⟨q,z,hq,hz,hb⟩|⟨h1,_,h3⟩
 ·rcases hb with rfl|hb
  ·rw[g?_of hq,hz]at hg;exact absurd (bR hg).symm eV
  ·exact⟨q,by rw[g?_of hq,hz],hb⟩
 ·rcases hc with hc|hc
  ·exact absurd h1 hc
  ·exact absurd hc h3
theorem Wa:Px (λ_ _=>False) (λ_=>False) (λ_=>False) 0 (Knows #[] 0) #[]:=
 ⟨λsaid=>by rintro⟨i,j,_,⟨a,b,ha,_⟩,_⟩;simp[Trace.act?]at ha,λi a ha=>by simp[touchAt,Trace.act?]at ha,λi a ha=>by simp[touchAt,Trace.act?]at ha,λi a ha=>by simp[touchAt,Trace.act?]at ha,
  λi ad ha=>by simp[Trace.act?]at ha,by simp⟩
end
section
open Go.Conc
open Go.ConcN (sumTo upd sumTo_upd upd_ne upd_same)
structure dH where
 cases:Array CommCase
 shape:CommShape
 uL:aM->Prop
 mem:List (Addr×Value)
def dH.has(s:dH)(c:Nat):Prop:=∃ (k:Nat) (z:Value),s.cases[k]? =some (rcase c z)
def dH.rd(s:dH)(l:Loc):Prop:=∃ p∈s.mem,l=.cell p.1
def dH.K(s:dH)(w:World):Prop:=∀ p∈s.mem,w.cell? p.1=some p.2
structure dH.Wf(s:dH):Prop where
 recvs:∀ cc∈s.cases,∃ c z,cc=rcase c z
 apart:∀ (k m c:Nat) (z z':Value),s.cases[k]? =some (rcase c z)->s.cases[m]? =some (rcase c z')->k=m
theorem dH.has_of_mem{s:dH}{c:Nat}{z:Value}(h:rcase c z∈s.cases):s.has c:=by obtain⟨k,hk,e⟩:=ZT.1 h;exact⟨k,z,by rw[<- e];exact Ee hk⟩
def ZW(s:dH)(e:Event):Prop:=∃ a,e=⟨.cell a,false,false⟩/\s.rd (.cell a)
def AtR(P:bL)(ao:Bool)(s:dH)(r g:aM):Prop:=
 s.uL r/\g.status=.running/\g.frame=r.frame/\g.callers=r.callers/\g.dying=r.dying/\∃ es,(∀ e∈es,ZW s e)/\∀ w,s.K w->stepG P ao g w=.comm r s.cases true s.shape w es
def On(P:bL)(ao:Bool)(s:dH)(g:aM):Prop:=∃ r,AtR P ao s r g
def Way(P:bL)(ao:Bool)(s:dH):Nat->aM->Prop
 |0,g=>On P ao s g
 |n+1,g=>On P ao s g\/(g.status=.running/\∀ w,s.K w->∃ g' es d,stepG P ao g w=.go g' (w.at d) es/\(∀ e∈es,ZW s e)/\Way P ao s n g')
def Bu(P:bL)(ao:Bool)(s:dH)(n:Nat)(g:aM):Prop:=
 (∃ k,n=k+1/\Way P ao s k g)\/(n=0/\∃ g₀ r,g=parked r s.cases s.shape/\AtR P ao s r g₀)
def UL(P:bL)(T:Trace)(i n:Nat)(g:aM):Option dH->Prop
 |none=>0<i/\QuitsD P n (Deaf T i) g
 |some s=>Bu P (i==0) s n g
section
variable{P:bL}{ao:Bool}{s:dH}{n:Nat}{g:aM}
theorem Way.running(h:∃ w,s.K w)(hw:Way P ao s n g):g.status=.running:=by
 cases n with
 |zero=>obtain⟨r,h⟩:=hw;exact h.2.1
 |succ n=>
  rcases hw with⟨r,h⟩|h
  ·exact h.2.1
  ·exact h.1
theorem Bu.status(h:∃ w,s.K w)(hw:Bu P ao s n g):(g.status=.running/\0<n)\/(g.status=.blocked/\n=0):=by
 rcases hw with⟨k,rfl,hk⟩|⟨rfl,g₀,r,rfl,_⟩
 ·exact .inl ⟨Way.running h hk,ai⟩
 ·exact .inr ⟨rfl,rfl⟩
theorem Way.mono{m:Nat}(hw:Way P ao s n g)(hm:n<=m):Way P ao s m g:=by
 induction n generalizing g m with
 |zero=>cases m with
  |zero=>exact hw
  |succ m=>exact .inl hw
 |succ n ih=>
  obtain⟨m,rfl⟩:∃ m',m=m'+1:=⟨m-1,ai⟩;refine hw.imp id λ⟨h1,h2⟩=>⟨h1,λw hK=>?_⟩;obtain⟨g',es,d,h3,h4,h5⟩:=h2 w hK;exact⟨g',es,d,h3,h4,ih h5 ai⟩
theorem AtR.tries{g₀ r:aM}(h:AtR P ao s r g₀)(cs:Array CommCase)(sh:CommShape):On P ao s {parked r cs sh with status:=.running}:=by obtain⟨hr,_,h1,h2,h3,es,ya,dI⟩:=h;exact⟨r,hr,rfl,rfl,rfl,rfl,es,ya,λw hw=>by rw[<- dI w hw];exact stepG_same h1.symm h2.symm h3.symm w⟩
end
structure Gh where
 n:Nat
 aQ:Nat->Option dH
 sh:Loc->Prop
 bot:Nat:=0
def Gh.rd(σ:Gh)(g:Nat)(l:Loc):Prop:=∃ s,σ.aQ g=some s/\s.rd l
def Gh.lo(σ:Gh)(g:Nat):Prop:=(σ.aQ g).isSome=true
structure Fr(P:bL)(σ:Gh)(J:Nat->Prop)(h δ:Nat)(T:Trace)(gs:Array aM)(w:World)(q:Nat->Nat):Prop where
 cnt:gs.size=σ.n
 idle:∀ i g,i≠h->¬ J i->gs[i]? =some g->UL P T i (q i) g (σ.aQ i)
 xH:∀ i g,J i->gs[i]? =some g->g.status=.running\/g.status=.finished
 jh:¬ J h
 hole:σ.aQ h=none
 wf:∀ i s,σ.aQ i=some s->s.Wf
 there:∀ i s,σ.aQ i=some s->i<gs.size
 chans:∀ i s c,¬ J i->σ.aQ i=some s->s.has c->∃ k,w.heap[c]? =some (.chan 0 #[] false k k false)
 mem:∀ i s,σ.aQ i=some s->s.K w
 uM:∀ i s l,σ.aQ i=some s->s.rd l->¬ σ.sh l
 above:∀ j,gs.size<=j->Deaf T j=0
 hear:∀ i,¬ J i->σ.lo i->Deaf T i=0
 deaf:Deaf T h=δ
 px:Px σ.rd σ.lo σ.sh w.heap.size (Knows T h) T
section
variable{P:bL}{σ:Gh}{J:Nat->Prop}{h δ:Nat}{T:Trace}{gs:Array aM}{w:World}{q:Nat->Nat}
theorem Hi{s:dH}{l:Loc}(h:s.rd l):l.isMemory=true:=by obtain⟨p,_,rfl⟩:=h;rfl
theorem JN{w:World}{a:Addr}{v:Value}(h:w.cell? a=some v):a.block<w.heap.size:=by
 rcases lH a.block w.heap.size with h'|h'
 ·exact h'
 ·simp[World.cell?,He h']at h
theorem Fr.fixed(C:Fr P σ J h δ T gs w q){x:Nat}{y:aM}(hx:x≠h)(hy:gs[x]? =some y):y.again w=y:=by
 by_cases hJ:J x
 ·exact again_running w (C.xH x y hJ hy)
 have hi:=C.idle x y hx hJ hy;cases e:σ.aQ x with
 |none=>rw[e]at hi;exact again_running w hi.2.status
 |some s=>
  rw[e]at hi;rcases hi with⟨k,hq,hg⟩|⟨_,g₀,_,rfl,_⟩
  ·exact again_running w (.inl (Way.running ⟨w,C.mem x s e⟩ hg))
  ·refine again_all_open λcc lF=>?_;obtain⟨c,z,rfl⟩:=(C.wf x s e).recvs cc lF;obtain⟨k,hk⟩:=C.chans x s c hJ e (dH.has_of_mem lF);exact⟨c,z,0,_,k,k,_,rfl,hk⟩
theorem Fr.noSend(C:Fr P σ J h δ T gs w q){x:Nat}{y:aM}(hx:x≠h)(hy:gs[x]? =some y)(c:Nat):offersAt y c true=[]:=by
 by_cases hJ:J x
 ·exact offersAt_of_not_blocked (λhb=>by rcases C.xH x y hJ hy with z|z<;>rw[z]at hb<;>cases hb) c true
 have hi:=C.idle x y hx hJ hy;cases e:σ.aQ x with
 |none=>
  rw[e]at hi;exact offersAt_of_not_blocked (λhb=>by rcases hi.2.status with z|z<;>rw[z]at hb<;>cases hb) c true
 |some s=>
  rw[e]at hi;rcases hi with⟨k,hq,hg⟩|⟨_,g₀,_,rfl,_⟩
  ·have:=Way.running ⟨w,C.mem x s e⟩ hg;exact offersAt_of_not_blocked (λhb=>by rw[this]at hb;cases hb) c true
  ·exact offersAt_parked_sends (λcc lF=>by obtain⟨c',z',rfl⟩:=(C.wf x s e).recvs cc lF;rfl) _
theorem Fr.noRecvAt(C:Fr P σ J h δ T gs w q){x:Nat}{y:aM}(hx:x≠h)(hy:gs[x]? =some y){c:Nat}(hc:∀ s,σ.aQ x=some s->¬ s.has c):offersAt y c false=[]:=by
 by_cases hJ:J x
 ·exact offersAt_of_not_blocked (λhb=>by rcases C.xH x y hJ hy with z|z<;>rw[z]at hb<;>cases hb) c false
 have hi:=C.idle x y hx hJ hy;cases e:σ.aQ x with
 |none=>
  rw[e]at hi;exact offersAt_of_not_blocked (λhb=>by rcases hi.2.status with z|z<;>rw[z]at hb<;>cases hb) c false
 |some s=>
  rw[e]at hi;rcases hi with⟨k,hq,hg⟩|⟨_,g₀,_,rfl,_⟩
  ·have:=Way.running ⟨w,C.mem x s e⟩ hg;exact offersAt_of_not_blocked (λhb=>by rw[this]at hb;cases hb) c false
  ·refine offersAt_parked_off (λcc lF ec=>?_) _;obtain⟨c',z',rfl⟩:=(C.wf x s e).recvs cc lF;simp only[rcase,Value.chan.injEq,wP]at ec;subst ec;exact hc s e (dH.has_of_mem lF)
theorem Fr.at(C:Fr P σ J h δ T gs w q)(d:Nat):Fr P σ J h δ T gs (w.at d) q:=
 ⟨C.cnt,C.idle,C.xH,C.jh,C.hole,C.wf,C.there,C.chans,C.mem,C.uM,C.above,C.hear,C.deaf,C.px⟩
theorem Fr.awake(C:Fr P σ J h δ T gs w q){a:aM}(ha:gs[h]? =some a)(hs:a.status=.running\/a.status=.blocked):∀ g∈gs,awake g:=by
 intro g hg;obtain⟨i,hi,rfl⟩:=ZT.1 hg;by_cases e:i=h
 ·subst e;have:gs[i]=a:=by simpa[Ee hi]using ha
  rw[this];exact awake_of (hs.elim .inl λx=>.inr (.inl x))
 ·by_cases hJ:J i
  ·exact awake_of ((C.xH i _ hJ (Ee hi)).elim .inl λx=>.inr (.inr x))
  have qS:=C.idle i _ e hJ (Ee hi);cases es:σ.aQ i with
  |none=>rw[es]at qS;exact awake_of (qS.2.status.elim .inl λx=>.inr (.inr x))
  |some s=>rw[es]at qS;exact awake_of ((Bu.status ⟨w,C.mem i s es⟩ qS).elim (λx=>.inl x.1) λx=>.inr (.inl x.1))
theorem Fr.put(C:Fr P σ J h δ T gs w q){i n' d:Nat}{g':aM}{ops:Array MemOp}{fT:Array aM}(hi:i≠h)(hJ:¬ J i)(du:i<gs.size)(hsz:fT.size=gs.size)(q8:∀ x,x≠i->x≠h->fT[x]? =gs[x]?)(mO:fT[i]? =some g')
  (cN:∀ op∈ops,op.g=i) (Bv:UL P (T++ops) i n' g' (σ.aQ i)) (hd:σ.lo i->Deaf (T++ops) i=Deaf T i) (UM:Px σ.rd σ.lo σ.sh w.heap.size (Knows (T++ops) h) (T++ops)):Fr P σ J h δ (T++ops) fT (w.at d) (upd q i n'):=by
 refine⟨hsz.trans C.cnt,λx y hx AB hy=>?_,λx y AB hy=>?_,C.jh,C.hole,C.wf,λi s e=>by rw[hsz];exact C.there i s e,C.chans,C.mem,C.uM,λj hj=>?_,λx AB hl=>?_,?_,UM⟩
 ·by_cases e:x=i
  ·subst e;rw[mO]at hy;obtain rfl:=bR hy;rw[upd_same];exact Bv
  ·rw[q8 x e hx]at hy;rw[upd_ne q n' e];have h0:=C.idle x y hx AB hy;cases es:σ.aQ x with
   |none=>rw[es]at h0;exact⟨h0.1,by rw[Deaf_other T (λz=>e z.symm) ops cN];exact h0.2⟩
   |some s=>rw[es]at h0;exact h0
 ·have e:x≠i:=λe=>hJ (e▸AB);rw[q8 x e (λe=>C.jh (e▸AB))]at hy;exact C.xH x y AB hy
 ·rw[Deaf_other T (g':=i) ai ops cN];exact C.above j ai
 ·by_cases e:x=i
  ·subst e;rw[hd hl];exact C.hear x AB hl
  ·rw[Deaf_other T (λz=>e z.symm) ops cN];exact C.hear x AB hl
 ·rw[Deaf_other T hi ops cN];exact C.deaf
theorem uN{s:dH}{i:Nat}{fn:bJ}{pos:String}{es:Array Event}(hK:s.K w)(h:∀ e∈es,ZW s e):
  (∀ op∈MemOp.ofEvents i fn pos es,op.g=i)/\(∀ op∈MemOp.ofEvents i fn pos es,∀ b,op.act.touch?=some b->b.write=false/\s.rd b.loc)/\(∀ op∈MemOp.ofEvents i fn pos es,op.act.low w.heap.size)/\
   (∀ op∈MemOp.ofEvents i fn pos es,∀ ad,op.act≠ .mark (.release ad))/\∀ t:Trace,Deaf (t++MemOp.ofEvents i fn pos es) i=Deaf t i:=by
 refine⟨λop cG=>by obtain⟨e,_,rfl⟩:=Conc.mem_ofEvents cG;rfl,λop cG b hb=>?_,λop cG=>?_,λop cG ad e=>?_,λt=>?_⟩
 ·obtain⟨e,he,rfl⟩:=Conc.mem_ofEvents cG;obtain⟨a,rfl,hS⟩:=h e he;simp only[ofEvent_cell0,MemAct.touch?,wP]at hb;subst hb;exact⟨rfl,hS⟩
 ·obtain⟨e,he,rfl⟩:=Conc.mem_ofEvents cG;obtain⟨a,rfl,p,hp,ep⟩:=h e he;rw[ofEvent_cell0];obtain rfl:=Loc.cell.inj ep;exact JN (hK p hp)
 ·obtain⟨e',he,rfl⟩:=Conc.mem_ofEvents cG;obtain⟨a,rfl,_⟩:=h e' he;cases e
 ·rw[Deaf_own];exact deafBehind_still (λe he=>by obtain⟨a,rfl,_⟩:=h e he;exact⟨by simp,by simp⟩) _
theorem yL{e:Event}(h:e.mute=true)(ad:Addr):MemAct.ofEvent e≠ .mark (.release ad):=by obtain⟨loc,wr,sy⟩:=e;cases loc<;>simp_all [Event.mute];rename_i m;cases m<;>simp_all [MemAct.ofEvent]
theorem Fr.EI(C:Fr P σ J h δ T gs w q){i:Nat}{g:aM}{sl:Option (Nat×Nat)}(hi:gs[i]? =some g)(RL:i≠h)(hJ:¬ J i)(mU:g.status=.running)
  (ZX:∀ s,σ.aQ i=some s->On P (i==0) s g->∀ gx c,gs[h]? =some gx->s.has c->offersAt gx c true=[]):
  ∃ (fT:Array aM) (ops:Array MemOp) (q':Nat->Nat) (d:Nat),runT P (crowd gs w sl) i=(.next (crowd fT (w.at d) sl),ops)/\fT.size=gs.size/\(∀ gx,gs[h]? =some gx->fT[h]? =some gx\/∃ w',w'.heap=w.heap/\fT[h]? =some (gx.again w'))/\(∀ x,J x->fT[x]? =gs[x]?)/\(∀ op∈ops,op.g=i)/\
   (∀ x,x≠i->q' x=q x)/\(∀ s,σ.aQ i=some s->q' i=0->On P (i==0) s g)/\
   Fr P σ J h δ (T++ops) fT (w.at d) q'/\sumTo gs.size q'<sumTo gs.size q:=by
 have du:i<gs.size:=(gV.1 hi).1;have CW:∀ (a' g':aM) (d:Nat) (x:Nat),x≠i->x≠h->((gs.map (woken P g a' (w.at d))).setIfInBounds i g')[x]? =gs[x]? :=by
  intro a' g' d x hx Nq;rw[gK (λe=>hx e.symm),Et];cases e:gs[x]? with
  |none=>rfl
  |some y=>simp[woken_of_again ((C.at d).fixed Nq e)]
 have ZY:∀ (a' g':aM) (d:Nat) (gx:aM),gs[h]? =some gx->((gs.map (woken P g a' (w.at d))).setIfInBounds i g')[h]? =some gx\/∃ w',w'.heap=w.heap/\((gs.map (woken P g a' (w.at d))).setIfInBounds i g')[h]? =some (gx.again w'):=by
  intro a' g' d gx xI;rw[gK RL,Et,xI];simp only[jR];unfold woken;split
  ·exact .inr ⟨w.at d,rfl,rfl⟩
  ·exact .inl rfl
 have mO:∀ (a' g':aM) (d:Nat),((gs.map (woken P g a' (w.at d))).setIfInBounds i g')[i]? =some g':=λa' g' d=>j7 (by simpa using du);have Wb:∀ k n,q i=k+1->n<=k->sumTo gs.size (upd q i n)<sumTo gs.size q:=by
  intro k n JO hn;have h2:sumTo gs.size (upd q i n)+(k+1)=sumTo gs.size q+n:=by have:=sumTo_upd q n id du;simpa[JO]using this
  omega
 have qS:=C.idle i g RL hJ hi;cases e:σ.aQ i with
 |none=>
  rw[e]at qS;obtain⟨ad2,hq⟩:=qS;have EJ:(i==0)=false:=by simp;omega
  cases JO:q i with
  |zero=>rw[JO]at hq;rw[hq.1]at mU;cases mU
  |succ k=>
   rw[JO]at hq;rcases hq with⟨hf,_⟩|⟨_,g',es,hm,mF,AN⟩
   ·rw[hf]at mU;cases mU
   have cN:∀ op∈MemOp.ofEvents i g.frame.fn g.frame.place es,op.g=i:=λop cG=>by obtain⟨e,_,rfl⟩:=Conc.mem_ofEvents cG;rfl
   have RN:w=w.at w.drawn:=rfl;refine⟨_,_,upd q i k,w.drawn,runT_crowd_go (sl:=sl) hi (by rw[EJ];exact mF w),by simp,ZY g' g' w.drawn,λx hx=>CW g' g' w.drawn x (λe=>hJ (e▸hx)) (λe=>C.jh (e▸hx)),cN,λx hx=>upd_ne q k hx,λs hs _=>(by cases hs),?_,Wb k k JO (e8 _)⟩;refine C.put RL hJ du (by simp) (λx hx Nq=>CW _ _ w.drawn x hx Nq) (mO _ _ w.drawn) cN (by rw[e];exact⟨ad2,by rw[Deaf_own];exact AN⟩) (λhl=>by unfold Gh.lo at hl;rw[e]at hl;cases hl) ?_;exact C.px.mute (λi=>Knows.app _) (λop cG=>by obtain⟨e,he,rfl⟩:=Conc.mem_ofEvents cG;exact touch_mute (hm e he)) (λop cG ad ea=>by obtain⟨e,he,rfl⟩:=Conc.mem_ofEvents cG;exact absurd ea (yL (hm e he) ad)) (e8 _) (λop cG=>by obtain⟨e,he,rfl⟩:=Conc.mem_ofEvents cG;exact low_mute (hm e he) _)
 |some s=>
  rw[e]at qS;have sO:σ.lo i:=by unfold Gh.lo;rw[e];rfl
  obtain⟨k,JO,hg⟩:∃ k,q i=k+1/\Way P (i==0) s k g:=by
   rcases qS with h1|⟨_,g₀,r,rfl,_⟩
   ·exact h1
   ·cases mU
  have RO:=C.mem i s e;have o9:On P (i==0) s g\/∃ k' g' es d,k=k'+1/\stepG P (i==0) g w=.go g' (w.at d) es/\(∀ e∈es,ZW s e)/\Way P (i==0) s k' g':=by
   cases k with
   |zero=>exact .inl hg
   |succ k'=>
    rcases hg with Oo|⟨_,qy⟩
    ·exact .inl Oo
    ·obtain⟨g',es,d,h1,h2,h3⟩:=qy w RO;exact .inr ⟨k',g',es,d,rfl,h1,h2,h3⟩
  have UN:∀ l,s.rd l->σ.rd i l:=λl hl=>⟨s,e,hl⟩;rcases o9 with yM|⟨k',g',es,d,rfl,hgo,ya,Zg⟩
  ·
   have ad3:=ZX s e yM;obtain⟨rr,ZZ⟩:=id yM;obtain⟨_,_,_,_,_,es,ya,mF⟩:=id ZZ;obtain⟨cN,hr,hl,tF,hd⟩:=uN (i:=i) (fn:=g.frame.fn) (pos:=g.frame.place) RO ya;have hw:∀ cc∈s.cases,NoWays w (gs.setIfInBounds i ph) cc:=by
    intro cc lF;obtain⟨c,z,rfl⟩:=(C.wf i s e).recvs cc lF;have JP:=dH.has_of_mem lF;obtain⟨kk,hc⟩:=C.chans i s c hJ e JP;refine ways_recv_none hc (partners_nil λx y hy=>?_);rcases getElem?_stand gs i x y hy with⟨_,rfl⟩|⟨hx,xJ⟩
    ·exact offersAt_ph _ _
    ·by_cases hS:x=h
     ·subst hS;exact ad3 y c xJ JP
     ·exact C.noSend hS xJ _
   refine⟨_,_,upd q i 0,w.drawn,crowd_waits (sl:=sl) hi (mF w RO) hw,by simp,λgx xI=>.inl (by rw[gK RL];exact xI),λx hx=>gK (λz:i=x=>hJ (by rw[z];exact hx)),cN,λx hx=>upd_ne q 0 hx,λs' nO _=>(by obtain rfl:=bR nO;exact yM),?_,Wb k 0 JO (eW _)⟩;refine C.put RL hJ du (by simp) (λx hx _=>gK (λz=>hx z.symm)) (j7 du) cN (by rw[e];exact .inr ⟨rfl,g,rr,rfl,ZZ⟩) (λ_=>hd T) ?_;exact C.px.reads (λi=>Knows.app _) sO cN (λop cG b hb=>⟨(hr op cG b hb).1,UN _ (hr op cG b hb).2,C.uM i s _ e (hr op cG b hb).2⟩) (λop cG ad ea=>absurd ea (tF op cG ad)) (e8 _) hl
  ·obtain⟨cN,hr,hl,tF,hd⟩:=uN (i:=i) (fn:=g.frame.fn) (pos:=g.frame.place) RO ya;refine⟨_,_,upd q i (k'+1),d,runT_crowd_go (sl:=sl) hi hgo,by simp,ZY g' g' d,λx hx=>CW g' g' d x (λe=>hJ (e▸hx)) (λe=>C.jh (e▸hx)),cN,λx hx=>upd_ne q _ hx,λs' _ h0=>(by rw[upd_same]at h0;omega),?_,Wb _ _ JO ai⟩;refine C.put RL hJ du (by simp) (λx hx Nq=>CW _ _ d x hx Nq) (mO _ _ d) cN (by rw[e];exact .inl ⟨k',rfl,Zg⟩) (λ_=>hd T) ?_;exact C.px.reads (λi=>Knows.app _) sO cN (λop cG b hb=>⟨(hr op cG b hb).1,UN _ (hr op cG b hb).2,C.uM i s _ e (hr op cG b hb).2⟩) (λop cG ad ea=>absurd ea (tF op cG ad)) (e8 _) hl
theorem Fr.by_step(C:Fr P σ J h δ T gs w q){i:Nat}{g:aM}{sl:Option (Nat×Nat)}(hi:gs[i]? =some g)(RL:i≠h)(hJ:¬ J i)(mU:g.status=.running)(hth:h<gs.size)
  (hsA:∀ gx (w':World),gs[h]? =some gx->w'.heap=w.heap->gx.again w'=gx)
  (ZX:∀ s,σ.aQ i=some s->On P (i==0) s g->∀ gx c,gs[h]? =some gx->s.has c->offersAt gx c true=[]):
  ∃ (fT:Array aM) (ops:Array MemOp) (q':Nat->Nat) (d:Nat),runT P (crowd gs w sl) i=(.next (crowd fT (w.at d) sl),ops)/\fT.size=gs.size/\fT[h]? =gs[h]? /\(∀ x,J x->fT[x]? =gs[x]?)/\(∀ op∈ops,op.g=i)/\
   (∀ x,x≠i->q' x=q x)/\(∀ s,σ.aQ i=some s->q' i=0->On P (i==0) s g)/\
   Fr P σ J h δ (T++ops) fT (w.at d) q'/\sumTo gs.size q'<sumTo gs.size q:=by
 obtain⟨fT,ops,q',d,h1,h2,h3,h4⟩:=C.EI (sl:=sl) hi RL hJ mU ZX;refine⟨fT,ops,q',d,h1,h2,?_,h4⟩;obtain⟨gx,xI⟩:∃ gx,gs[h]? =some gx:=⟨gs[h],Ee hth⟩;rcases h3 gx xI with h|⟨w',np,h⟩
 ·rw[h,xI]
 ·rw[h,xI,hsA gx w' xI np]
theorem Fr.picked(C:Fr P σ (λ_=>False) h δ T gs w q){a:aM}{sl:Option (Nat×Nat)}(ha:gs[h]? =some a)(mU:a.status=.running):
  ∃ (N:Nat) (fT:Array aM) (d d':Nat) (qz Oq:Option (Nat×Nat)) (T':Trace) (q':Nat->Nat),runNT P N (crowd gs w sl) T=(.next (crowd fT (w.at d) qz),T')/\
   stepT P (crowd fT (w.at d) qz)=runT P (crowd fT (w.at d') Oq) h/\fT.size=gs.size/\fT[h]? =some a/\Fr P σ (λ_=>False) h δ T' fT (w.at d') q':=by
 obtain⟨N,m',T',hr,fT,d,d',qz,Oq,q',rfl,dI,hsz,Nr,C'⟩:=runs_until (P:=P)
  (Inv:=λμ m t=>∃ eO d q9 q₁,m=crowd eO (w.at d) q9/\eO.size=gs.size/\eO[h]? =some a/\Fr P σ (λ_=>False) h δ t eO (w.at d) q₁/\μ=sumTo eO.size q₁)
  (Done:=λm t=>∃ eO d d' q9 Z0 q₁,m=crowd eO (w.at d) q9/\stepT P (crowd eO (w.at d) q9)=runT P (crowd eO (w.at d') Z0) h/\eO.size=gs.size/\eO[h]? =some a/\Fr P σ (λ_=>False) h δ t eO (w.at d') q₁)
  (λμ m t ⟨eO,d,q9,q₁,hm,hsz,kN,C₁,hμ⟩=>by
   subst hm;obtain⟨i,g,d',qz,hi,hg,dI⟩:=crowd_pick (P:=P) (w:=w.at d) (sl:=q9) (C₁.awake kN (.inl mU)) ⟨h,a,kN,mU⟩;rw[at_at']at dI;have Cd:Fr P σ (λ_=>False) h δ t eO (w.at d') q₁:=C₁.at d';by_cases e:i=h
   ·subst e;exact .inl ⟨eO,d,d',q9,qz,q₁,rfl,dI,hsz,kN,Cd⟩
   ·obtain⟨fT,ops,q',d₂,G5,tG,uw,_,_,_,_,C',du⟩:=Cd.by_step (sl:=qz) hi e (λz=>z) hg (gV.1 kN).1
     (λgx w' xI _=>by rw[kN]at xI;obtain rfl:=bR xI;exact again_running _ (.inl mU))
     (λs _ _ gx c xI _=>by rw[kN]at xI;obtain rfl:=bR xI;exact offersAt_of_not_blocked (by rw[mU];simp) _ _)
    exact .inr ⟨_,_,sumTo fT.size q',by rw[dI];exact G5,by rw[tG];omega,fT,d₂,qz,q',rfl,tG.trans hsz,by rw[uw];exact kN,C',rfl⟩)
  _ _ T ⟨gs,w.drawn,sl,q,rfl,rfl,ha,C,rfl⟩
 exact⟨N,fT,d,d',qz,Oq,T',q',hr,dI,hsz,Nr,C'⟩
structure qA(σ:Gh)(w w':World)(es:Array Event):Prop where
 size:w.heap.size<=w'.heap.size
 chans:∀ (r:Nat) (o:Obj),w.heap[r]? =some o->o.isChan=true->w'.heap[r]? =some o
 mem:∀ i s p,σ.aQ i=some s->p∈s.mem->w.cell? p.1=some p.2->w'.cell? p.1=some p.2
 ev:∀ e∈es,(∀ b,(MemAct.ofEvent e).touch?=some b->(b.write=true->∀ i,¬ σ.rd i b.loc)/\(σ.sh b.loc->b.kind≠ .plain))/\(∀ ad,MemAct.ofEvent e=.mark (.release ad)->¬ σ.sh (.cell ad))/\(MemAct.ofEvent e).low w'.heap.size
theorem qA.ops{σ:Gh}{w w':World}{es:Array Event}(H:qA σ w w' es)(i:Nat)(fn:bJ)(pos:String):
  (∀ op∈MemOp.ofEvents i fn pos es,op.g=i)/\(∀ op∈MemOp.ofEvents i fn pos es,∀ b,op.act.touch?=some b->(b.write=true->∀ g,σ.lo g->¬ σ.rd g b.loc)/\(σ.sh b.loc->b.kind≠ .plain))/\
   (∀ op∈MemOp.ofEvents i fn pos es,∀ ad,op.act=.mark (.release ad)->¬ σ.sh (.cell ad))/\(∀ op∈MemOp.ofEvents i fn pos es,op.act.low w'.heap.size):=
 ⟨λop cG=>by obtain⟨e,_,rfl⟩:=Conc.mem_ofEvents cG;rfl,λop cG b hb=>by obtain⟨e,he,rfl⟩:=Conc.mem_ofEvents cG;exact⟨λhw g _=>((H.ev e he).1 b hb).1 hw g,((H.ev e he).1 b hb).2⟩,
  λop cG ad ea=>by obtain⟨e,he,rfl⟩:=Conc.mem_ofEvents cG;exact(H.ev e he).2.1 ad ea,λop cG=>by obtain⟨e,he,rfl⟩:=Conc.mem_ofEvents cG;exact(H.ev e he).2.2⟩
theorem Fr.own(C:Fr P σ J h δ T gs w q){a a':aM}{w':World}{es:Array Event}{fn:bJ}{pos:String}(du:h<gs.size)(ho:qA σ w w' es):
  Fr P σ J h (deafBehind δ es) (T++MemOp.ofEvents h fn pos es) ((gs.map (woken P a a' w')).setIfInBounds h a') w' q/\((gs.map (woken P a a' w')).setIfInBounds h a')[h]? =some a':=by
 obtain⟨cN,hs,hr,hl⟩:=ho.ops h fn pos;have oE:∀ i s c,¬ J i->σ.aQ i=some s->s.has c->∃ k,w'.heap[c]? =some (.chan 0 #[] false k k false):=λi s c hJ e hc=>by obtain⟨k,hk⟩:=C.chans i s c hJ e hc;exact⟨k,ho.chans _ _ hk rfl⟩
 have hm:∀ i s,σ.aQ i=some s->s.K w':=λi s e p hp=>ho.mem i s p e hp (C.mem i s e p hp);have Wc:∀ (x:Nat) (y:aM),x≠h->gs[x]? =some y->y.again w'=y:=by
  intro x y hx hy;by_cases hJ:J x
  ·exact again_running w' (C.xH x y hJ hy)
  have hi:=C.idle x y hx hJ hy;cases e:σ.aQ x with
  |none=>rw[e]at hi;exact again_running w' hi.2.status
  |some s=>
   rw[e]at hi;rcases hi with⟨k,hq,hg⟩|⟨_,g₀,_,rfl,_⟩
   ·exact again_running w' (.inl (Way.running ⟨w,C.mem x s e⟩ hg))
   ·refine again_all_open λcc lF=>?_;obtain⟨c,z,rfl⟩:=(C.wf x s e).recvs cc lF;obtain⟨k,hk⟩:=oE x s c hJ e (dH.has_of_mem lF);exact⟨c,z,0,_,k,k,_,rfl,hk⟩
 have CW:∀ x,x≠h->((gs.map (woken P a a' w')).setIfInBounds h a')[x]? =gs[x]? :=by
  intro x hx;rw[gK (λe=>hx e.symm),Et];cases e:gs[x]? with
  |none=>rfl
  |some y=>simp[woken_of_again (Wc x y hx e)]
 refine⟨⟨by simpa using C.cnt,λx y hx hJ hy=>?_,λx y hJ hy=>?_,C.jh,C.hole,C.wf,λi s e=>by simpa using C.there i s e,oE,hm,C.uM,λj hj=>?_,λx hJ sO=>?_,?_,?_⟩,j7 (by simpa using du)⟩
 ·rw[CW x hx]at hy;have hi:=C.idle x y hx hJ hy;cases es':σ.aQ x with
  |none=>rw[es']at hi;exact⟨hi.1,by rw[Deaf_other T (λz=>hx z.symm) _ cN];exact hi.2⟩
  |some s=>rw[es']at hi;exact hi
 ·rw[CW x (λe=>C.jh (e▸hJ))]at hy;exact C.xH x y hJ hy
 ·simp only[Lc,Array.size_map]at hj;rw[Deaf_other T (g':=h) ai _ cN];exact C.above j hj
 ·have hx:x≠h:=λe=>by subst e;unfold Gh.lo at sO;rw[C.hole]at sO;cases sO
  rw[Deaf_other T (λz=>hx z.symm) _ cN];exact C.hear x hJ sO
 ·rw[Deaf_own,C.deaf]
 ·exact C.px.own cN hs hr ho.size hl
end
end
section
open Go.Conc
open Go.ConcN (sumTo upd sumTo_upd upd_ne upd_same)
theorem Px.conv{rd Lm:Nat->Loc->Prop}{lo Zd:Nat->Prop}{sh:Loc->Prop}{B:Nat}{K:Nat->Prop}{t:Trace}(H:Px rd lo sh B K t)(hl:∀ g,Zd g↔lo g)(hr:∀ g l,lo g->(Lm g l↔rd g l)):Px Lm Zd sh B K t:=
 H.reset (λi a g _ _ _ _ hg iw=>.inr (.inl ⟨(hl g).2 hg,(hr g _ hg).2 iw⟩)) λg l hg iw=>.inl ⟨(hl g).1 hg,(hr g l ((hl g).1 hg)).1 iw⟩
section
variable{P:bL}{σ:Gh}{h δ:Nat}{T:Trace}{gs:Array aM}{w:World}{q:Nat->Nat}
theorem pX{w:World}{c:Nat}{cap s r:Nat}{Zh:Array Value}{cl tm:Bool}(hc:w.heap[c]? =some (.chan cap Zh cl s r tm)){a:Addr}{v:Value}(ha:w.cell? a=some v)(ad4:Nat)(ad5:Array Value)(cl':Bool)(s' r':Nat)(AD:Bool):
  (w.setChan c ad4 ad5 cl' s' r' AD).cell? a=some v:=by
 have eV:c≠a.block:=λe=>by unfold World.cell? at ha;rw[<- e,hc]at ha;cases ha
 unfold World.cell? at ha⊢;rw[heap_setChan_ne w _ _ _ _ _ _ eV];exact ha
theorem mV(w:World)(c cap:Nat)(Zh:Array Value)(cl:Bool)(s r:Nat)(tm:Bool):(w.setChan c cap Zh cl s r tm).heap.size=w.heap.size:=by simp[World.setChan]
structure oF(σ:Gh)(s:dH)(w:World):Prop where
 wf:s.Wf
 chans:∀ c,s.has c->∃ k,w.heap[c]? =some (.chan 0 #[] false k k false)
 mem:s.K w
 uM:∀ l,s.rd l->¬ σ.sh l
def Gh.pa(σ:Gh)(s:dH):Gh:={n:=σ.n+1,aQ:=upd σ.aQ σ.n (some s),sh:=σ.sh,bot:=σ.bot}
theorem Fr.hire(C:Fr P σ (λ_=>False) h 0 T gs w q){a a' child:aM}{es:Array Event}{s:dH}{m:Nat}{sl:Option (Nat×Nat)}(ha:gs[h]? =some a)(hgo:stepG P (h==0) a w=.spawn a' child w es)(ho:qA σ w w es)(hd:deafBehind 0 es=0)
  (hs:oF σ s w) (nq:Way P false s m child):
  ∃ fT ops q',runT P (crowd gs w sl) h=(.next (crowd fT w sl),ops)/\fT[h]? =some a'/\Fr P (σ.pa s) (λ_=>False) h 0 (T++ops) fT w q':=by
 have du:h<gs.size:=(gV.1 ha).1;have hn:σ.n=gs.size:=C.cnt.symm;obtain⟨cN,ZX,hrO,hlO⟩:=ho.ops h a.frame.fn a.frame.place;have G5:=runT_crowd_spawn (P:=P) (sl:=sl) ha hgo;have Ot:((MemOp.ofEvents h a.frame.fn a.frame.place es).push {g:=h,fn:=a.frame.fn,pos:=a.frame.place,act:=.go gs.size} |>.push {g:=gs.size,fn:=child.frame.fn,pos:=a.frame.place,act:=.start})=
   MemOp.ofEvents h a.frame.fn a.frame.place es++#[{g:=h,fn:=a.frame.fn,pos:=a.frame.place,act:=.go gs.size},{g:=gs.size,fn:=child.frame.fn,pos:=a.frame.place,act:=.start}]:=by
  apply Array.ext';simp
 rw[Ot]at G5;have hDh:Deaf (T++MemOp.ofEvents h a.frame.fn a.frame.place es) h=0:=by rw[Deaf_own,C.deaf,hd]
 have Zi:∀ x,x≠h->Deaf (T++MemOp.ofEvents h a.frame.fn a.frame.place es) x=Deaf T x:=λx ex=>Deaf_other T (λz=>ex z.symm) _ cN;have eV:gs.size≠h:=ai;have p1:=C.px.own cN ZX hrO (e8 _) hlO;have AA:¬ σ.lo gs.size:=λhl=>by unfold Gh.lo at hl;obtain⟨s',nO⟩:=oC.1 hl;have:=C.there _ _ nO;omega
 have p2:=p1.hire (c:=gs.size) (S:=s.rd) hDh (by rw[Zi _ eV];exact C.above _ (e8 _)) AA (λl hl=>⟨Hi hl,hs.uM l hl⟩) a.frame.fn a.frame.place child.frame.fn;rw[Hf]at p2;have hD2:∀ x,x≠h->Deaf (T++(MemOp.ofEvents h a.frame.fn a.frame.place es++#[{g:=h,fn:=a.frame.fn,pos:=a.frame.place,act:=.go gs.size},{g:=gs.size,fn:=child.frame.fn,pos:=a.frame.place,act:=.start}])) x=Deaf T x:=λx ex=>by
  rw[<- Hf,Deaf_quiet (λop cG d=>by simp only[pW,fR,m6,gm]at cG;rcases cG with rfl|rfl<;>rfl),Zi x ex]
 have hD3:Deaf (T++(MemOp.ofEvents h a.frame.fn a.frame.place es++#[{g:=h,fn:=a.frame.fn,pos:=a.frame.place,act:=.go gs.size},{g:=gs.size,fn:=child.frame.fn,pos:=a.frame.place,act:=.start}])) h=0:=by
  rw[<- Hf,Deaf_quiet (λop cG d=>by simp only[pW,fR,m6,gm]at cG;rcases cG with rfl|rfl<;>rfl),hDh]
 have dP:∀ x,x≠gs.size->(σ.pa s).aQ x=σ.aQ x:=λx hx=>by simp only[Gh.pa,hn];exact upd_ne _ _ hx
 have Wd:(σ.pa s).aQ gs.size=some s:=by simp only[Gh.pa,hn,upd_same]
 refine⟨_,_,upd q gs.size (m+1),G5,by rw[NQ,ax (by simp;omega)];exact j7 du,?_⟩;refine⟨by simp[Gh.pa,hn],λx y hx _ hy=>?_,λ_ _ z=>z.elim,λz=>z,?_,λi s' e=>?_,λi s' e=>?_,λi s' c _ e hc=>?_,λi s' e=>?_,λi s' l e hl=>?_,λx hx=>?_,λx _ hl=>?_,hD3,?_⟩
 ·by_cases ex:x=gs.size
  ·subst ex;rw[NQ,aG (by simp)]at hy;obtain rfl:=bR hy;rw[Wd,upd_same];have:(gs.size==0)=false:=by rw[Sb];omega
   exact .inl ⟨m,rfl,by rw[this];exact nq⟩
  ·have Ou:x<gs.size:=by have:=(gV.1 hy).1;simp at this;omega
   rw[NQ,ax (by simp;omega),gK (λz=>hx z.symm)]at hy;rw[dP x ex,upd_ne q _ ex];have qS:=C.idle x y hx (λz=>z) hy;cases e:σ.aQ x with
   |none=>rw[e]at qS;exact⟨qS.1,by rw[hD2 x hx];exact qS.2⟩
   |some s'=>rw[e]at qS;exact qS
 ·rw[dP h (jl eV)];exact C.hole
 ·by_cases ex:i=gs.size
  ·subst ex;rw[Wd]at e;obtain rfl:=bR e;exact hs.wf
  ·rw[dP i ex]at e;exact C.wf i s' e
 ·simp only[Ld,Lc];by_cases ex:i=gs.size
  ·omega
  ·rw[dP i ex]at e;have:=C.there i s' e;omega
 ·by_cases ex:i=gs.size
  ·subst ex;rw[Wd]at e;obtain rfl:=bR e;exact hs.chans c hc
  ·rw[dP i ex]at e;exact C.chans i s' c (λz=>z) e hc
 ·by_cases ex:i=gs.size
  ·subst ex;rw[Wd]at e;obtain rfl:=bR e;exact hs.mem
  ·rw[dP i ex]at e;exact C.mem i s' e
 ·by_cases ex:i=gs.size
  ·subst ex;rw[Wd]at e;obtain rfl:=bR e;exact hs.uM l hl
  ·rw[dP i ex]at e;exact C.uM i s' l e hl
 ·simp only[Ld,Lc]at hx;rw[hD2 x ai];exact C.above x ai
 ·by_cases exh:x=h
  ·subst exh;exact hD3
  ·by_cases ex:x=gs.size
   ·subst ex;rw[hD2 _ exh];exact C.above _ (e8 _)
   ·rw[hD2 x exh];refine C.hear x (λz=>z) ?_;unfold Gh.lo at hl⊢
    rwa[dP x ex]at hl
 ·refine p2.conv (λg=>?_) λg l hg=>?_
  ·unfold Gh.lo;by_cases ex:g=gs.size
   ·subst ex;rw[Wd];simp
   ·rw[dP g ex];simp[ex]
  ·unfold Gh.rd;by_cases ex:g=gs.size
   ·subst ex;rw[Wd];simp
   ·rw[dP g ex];simp[ex]
def Gh.given(σ:Gh)(h j:Nat)(sh:dH):Gh:={n:=σ.n,aQ:=upd (upd σ.aQ j none) h (some sh),sh:=σ.sh,bot:=σ.bot}
theorem Fr.pass(C:Fr P σ (λ_=>False) h 0 T gs w q){j c k m:Nat}{s sH:dH}(Ln:j≠h)(yN:h<gs.size)(hj:σ.aQ j=some s)(JP:s.has c)(hc:w.heap[c]? =some (.chan 0 #[] false k k false))(hcB:c<w.heap.size)
  {fT:Array aM} {H':aM} (hsz:fT.size=gs.size) (Ov:∀ x,x≠h->x≠j->fT[x]? =gs[x]?) (hH:fT[h]? =some H') (fh:bJ) (pH:String) (fj:bJ) (pj:String)
  (mG:oF σ sH w) (nq:Way P (h==0) sH m H'):
  Fr P (σ.given h j sH) (λ_=>False) j 0 (T++met h j fh pH fj pj c k 0) fT (w.setChan c 0 #[] false (k+1) (k+1) false) (upd q h (m+1)):=by
 have JQ:∀ x,Deaf (T++met h j fh pH fj pj c k 0) x=Deaf T x:=λx=>Deaf_quiet (met_quiet _ _ _ _ _ _ _ _ _ x);have hsj:(σ.given h j sH).aQ j=none:=by simp only[Gh.given];rw[upd_ne _ _ Ln,upd_same]
 have Sp:(σ.given h j sH).aQ h=some sH:=by simp only[Gh.given];rw[upd_same]
 have G6:∀ x,x≠h->x≠j->(σ.given h j sH).aQ x=σ.aQ x:=λx h1 h2=>by simp only[Gh.given];rw[upd_ne _ _ h1,upd_ne _ _ h2]
 have hlj:σ.lo j:=by unfold Gh.lo;rw[hj];rfl
 have dj:Deaf T j=0:=C.hear j (λz=>z) hlj;have hold:∀ x s',(σ.given h j sH).aQ x=some s'->(x=h/\s'=sH)\/(x≠h/\x≠j/\σ.aQ x=some s'):=by
  intro x s' e;by_cases h1:x=h
  ·subst h1;rw[Sp]at e;exact .inl ⟨rfl,(bR e).symm⟩
  ·by_cases h2:x=j
   ·subst h2;rw[hsj]at e;cases e
   ·rw[G6 x h1 h2]at e;exact .inr ⟨h1,h2,e⟩
 have UO:∀ c':Nat,(∃ k,w.heap[c']? =some (Obj.chan 0 #[] false k k false))->∃ k',(w.setChan c 0 #[] false (k+1) (k+1) false).heap[c']? =some (Obj.chan 0 #[] false k' k' false):=by
  rintro c' ⟨k',nP⟩;by_cases ec:c=c'
  ·exact⟨k+1,by rw[<- ec];exact heap_setChan_self w hc _ _ _ _ _ _⟩
  ·exact⟨k',by rw[heap_setChan_ne w _ _ _ _ _ _ ec];exact nP⟩
 refine⟨hsz.trans C.cnt,λx y hx _ hy=>?_,λ_ _ z=>z.elim,λz=>z,hsj,λi s' e=>?_,λi s' e=>?_,λi s' c' _ e kI=>?_,λi s' e p hp=>?_,λi s' l e hl=>?_,λx hx=>by rw[JQ];exact C.above x ai,λx _ hl=>?_,by rw[JQ];exact dj,?_⟩
 ·by_cases e:x=h
  ·subst e;rw[hH]at hy;obtain rfl:=bR hy;rw[Sp,upd_same];exact .inl ⟨m,rfl,nq⟩
  ·rw[Ov x e hx]at hy;rw[upd_ne q _ e,G6 x e hx];have hi:=C.idle x y e (λz=>z) hy;cases es:σ.aQ x with
   |none=>rw[es]at hi;exact⟨hi.1,by rw[JQ];exact hi.2⟩
   |some s'=>rw[es]at hi;exact hi
 ·rcases hold i s' e with⟨rfl,rfl⟩|⟨_,_,e'⟩
  ·exact mG.wf
  ·exact C.wf i s' e'
 ·rw[hsz];rcases hold i s' e with⟨rfl,rfl⟩|⟨_,_,e'⟩
  ·exact yN
  ·exact C.there i s' e'
 ·rcases hold i s' e with⟨rfl,rfl⟩|⟨_,_,e'⟩
  ·exact UO c' (mG.chans c' kI)
  ·exact UO c' (C.chans i s' c' (λz=>z) e' kI)
 ·rcases hold i s' e with⟨rfl,rfl⟩|⟨_,_,e'⟩
  ·exact pX hc (mG.mem p hp) _ _ _ _ _ _
  ·exact pX hc (C.mem i s' e' p hp) _ _ _ _ _ _
 ·rcases hold i s' e with⟨rfl,rfl⟩|⟨_,_,e'⟩
  ·exact mG.uM l hl
  ·exact C.uM i s' l e' hl
 ·rw[JQ];by_cases e:x=h
  ·subst e;exact C.deaf
  ·refine C.hear x (λz=>z) ?_;unfold Gh.lo at hl⊢;by_cases ej:x=j
   ·subst ej;rw[hj];rfl
   ·rwa[G6 x e ej]at hl
 ·rw[mV];have p:=C.px.give (j:=j) C.deaf dj fh pH fj pj k 0 hcB;have AA:¬ (σ.lo h/\h≠j):=λz=>by have:=z.1;unfold Gh.lo at this;rw[C.hole]at this;cases this
  have p2:=p.loosen (g₀:=h) (S:=sH.rd) AA (λl hl=>⟨Hi hl,mG.uM l hl⟩) λi a ha hw hS=>by
   obtain⟨x,hx,iZ⟩:=touch_of ha;rcases getElem?_append_cases hx with⟨_,fb⟩|⟨_,vP⟩
   ·exact(C.px.writes (Hi hS) (mG.uM _ hS) (by rw[touchAt_of fb];exact iZ) hw rfl).app _
   ·rw[met_mute _ _ _ _ _ _ _ _ _ x vP]at iZ;cases iZ
  refine p2.conv (λg=>?_) λg l hg=>?_
  ·unfold Gh.lo;by_cases e:g=h
   ·subst e;rw[Sp];simp
   ·by_cases ej:g=j
    ·subst ej;rw[hsj];simp[e]
    ·rw[G6 g e ej];simp[e,ej]
  ·unfold Gh.rd;by_cases e:g=h
   ·subst e;rw[Sp];simp
   ·by_cases ej:g=j
    ·subst ej;exact absurd hg (by simp[e])
    ·rw[G6 g e ej];simp[e]
theorem Fr.setH(C:Fr P σ (λ_=>False) h δ T gs w q)(du:h<gs.size)(x:aM){fn:bJ}{pos:String}{es:Array Event}(ho:qA σ w w es):Fr P σ (λ_=>False) h (deafBehind δ es) (T++MemOp.ofEvents h fn pos es) (gs.setIfInBounds h x) w q:=by
 obtain⟨cN,hs,hr,hl⟩:=ho.ops h fn pos;refine⟨by simpa using C.cnt,λy g hy _ hg=>?_,λ_ _ z=>z.elim,λz=>z,C.hole,C.wf,λi s e=>by simpa using C.there i s e,C.chans,C.mem,C.uM,λj hj=>?_,λy _ wV=>?_,by rw[Deaf_own,C.deaf],C.px.own cN hs hr (e8 _) hl⟩
 ·rw[gK (λe=>hy e.symm)]at hg;have hi:=C.idle y g hy (λz=>z) hg;cases e:σ.aQ y with
  |none=>rw[e]at hi;exact⟨hi.1,by rw[Deaf_other T (λz=>hy z.symm) _ cN];exact hi.2⟩
  |some s=>rw[e]at hi;exact hi
 ·simp only[Lc]at hj;by_cases e:j=h
  ·omega
  ·rw[Deaf_other T (λz=>e z.symm) _ cN];exact C.above j hj
 ·have hy:y≠h:=λe=>by subst e;unfold Gh.lo at wV;rw[C.hole]at wV;cases wV
  rw[Deaf_other T (λz=>hy z.symm) _ cN];exact C.hear y (λz=>z) wV
theorem Fr.give(C:Fr P σ (λ_=>False) h 0 T gs w q){a a₂:aM}{j c kk k m:Nat}{s sH:dH}{v z z':Value}{es:Array Event}{sl:Option (Nat×Nat)}(hj:σ.aQ j=some s)(hk:s.cases[kk]? =some (rcase c z))
  (mg:∀ i s',σ.aQ i=some s'->s'.has c->i=j) (ha:gs[h]? =some a) (mU:a.status=.running)
  (UP:∀ d,stepG P (h==0) a (w.at d)=.comm a₂ #[scase c v z'] true .send (w.at d) es) (ya:∀ d,qA σ (w.at d) (w.at d) es) (Eg:deafBehind 0 es=0)
  (hc:w.heap[c]? =some (.chan 0 #[] false k k false)) (mG:oF σ sH w) (nq:Way P (h==0) sH m (Conc.served a₂ undef)):
  ∃ (N:Nat) (fT:Array aM) (d:Nat) (qz:Option (Nat×Nat)) (T':Trace) (q':Nat->Nat),runNT P N (crowd gs w sl) T=(.next (crowd fT ((w.at d).setChan c 0 #[] false (k+1) (k+1) false) qz),T')/\
   (∃ r,s.uL r/\fT[j]? =some (Conc.served r (commResult s.cases s.shape kk v true)))/\Fr P (σ.given h j sH) (λ_=>False) j 0 T' fT ((w.at d).setChan c 0 #[] false (k+1) (k+1) false) q':=by
 have JP:s.has c:=⟨kk,z,hk⟩;have We:=C.wf j s hj;have aiw:=C.there j s hj;have Ln:j≠h:=λe=>by rw[e,C.hole]at hj;cases hj
 have hcB:c<w.heap.size:=(gV.1 hc).1;have hu:∀ (m:Nat) (cc:CommCase),m≠kk->s.cases[m]? =some cc->cc.chan≠ .chan (some c):=by intro m cc hm lF ec;obtain⟨c₂,z₂,rfl⟩:=We.recvs cc (Sa lF);simp only[rcase,Value.chan.injEq,wP]at ec;subst ec;exact hm (We.apart m kk _ _ _ lF hk)
 suffices key:∃ (N:Nat) (m':Machine) (t':Trace),runNT P N (crowd gs w sl) T=(.next m',t')/\∃ fT d qz q',m'=crowd fT ((w.at d).setChan c 0 #[] false (k+1) (k+1) false) qz/\(∃ r,s.uL r/\fT[j]? =some (Conc.served r (commResult s.cases s.shape kk v true)))/\Fr P (σ.given h j sH) (λ_=>False) j 0 t' fT ((w.at d).setChan c 0 #[] false (k+1) (k+1) false) q' by obtain⟨N,m',T',hr,fT,d,qz,q',rfl,h1,h2⟩:=key;exact⟨N,fT,d,qz,T',q',hr,h1,h2⟩
 refine runs_until (P:=P)
  (Inv:=λμ mm t=>(∃ fT d qz q',mm=crowd fT ((w.at d).setChan c 0 #[] false (k+1) (k+1) false) qz/\(∃ r,s.uL r/\fT[j]? =some (Conc.served r (commResult s.cases s.shape kk v true)))/\Fr P (σ.given h j sH) (λ_=>False) j 0 t fT ((w.at d).setChan c 0 #[] false (k+1) (k+1) false) q')\/
   ∃ eO d q9 q₁,∃ pk:Bool,mm=crowd eO (w.at d) q9/\eO.size=gs.size/\eO[h]? =some (if pk then parked a₂ #[scase c v z'] .send else a)/\
   Fr P σ (λ_=>False) h 0 t eO (w.at d) q₁/\(pk=true->0<q₁ j)/\μ=sumTo eO.size q₁+(if pk then 0 else 1))
  (λμ mm t ad8=>?_) _ _ T (.inr ⟨gs,w.drawn,sl,q,false,rfl,rfl,ha,C,by simp,rfl⟩)
 rcases ad8 with Z1|⟨eO,d,q9,q₁,pk,rfl,hsz,kN,C₁,RP,hμ⟩
 ·exact .inl Z1
 refine .inr ?_;obtain⟨gj,Wg⟩:∃ gj,eO[j]? =some gj:=⟨eO[j]'(by omega),Ee ai⟩;have yN:h<eO.size:=(gV.1 kN).1;have hSj:Bu P (j==0) s (q₁ j) gj:=by have:=C₁.idle j gj Ln (λz=>z) Wg;rwa[hj]at this
 have hKs:∃ w,s.K w:=⟨_,C₁.mem j s hj⟩;have yO:∃ (i:Nat) (g:aM),eO[i]? =some g/\g.status=.running:=by
  cases pk with
  |false=>exact⟨h,a,kN,mU⟩
  |true=>exact⟨j,gj,Wg,(Bu.status hKs hSj).elim (·.1) (λz=>by have:=RP rfl;omega)⟩
 obtain⟨i,g,d',qz,hi,hg,dI⟩:=crowd_pick (P:=P) (w:=w.at d) (sl:=q9) (C₁.awake kN (by cases pk<;>simp[mU,parked])) yO;rw[at_at']at dI;have Cd:Fr P σ (λ_=>False) h 0 t eO (w.at d') q₁:=C₁.at d';have Sq:(w.at d').heap[c]? =some (.chan 0 #[] false k k false):=hc;have Z2:oF σ sH (w.at d'):=⟨mG.wf,mG.chans,mG.mem,mG.uM⟩;have Ow:0<μ:=by
  cases pk with
  |false=>simp at hμ;omega
  |true=>
   have h1:=RP rfl;have h2:q₁ j<=sumTo eO.size q₁:=Go.ConcN.le_sumTo (f:=q₁) ai;simp at hμ;omega
 by_cases e:i=h
 ·
  subst e;cases pk with
  |true=>rw[kN]at hi;obtain rfl:=bR hi;cases hg
  |false=>
   obtain rfl:g=a:=by rw[kN]at hi;exact(bR hi).symm
   have hoff:∀ (x:Nat) (y:aM),x≠j->(eO.setIfInBounds i ph)[x]? =some y->offersAt y c false=[]:=by
    intro x y Ox hy;rcases getElem?_stand eO i x y hy with⟨_,rfl⟩|⟨hx,xJ⟩
    ·exact offersAt_ph _ _
    ·exact Fr.noRecvAt Cd hx xJ λs' nO kI=>Ox (mg x s' nO kI)
   rcases hSj with⟨kk',hq,hG⟩|⟨hq0,g₀,rr,rfl,yM⟩
   ·
    have Ns:gj.status=.running:=Way.running hKs hG;have hp:partners (eO.setIfInBounds i ph) c false=[]:=partners_nil λx y hy=>by
     by_cases Ox:x=j
     ·subst Ox;rw[stand_get Ln Wg]at hy;obtain rfl:=bR hy;exact offersAt_of_not_blocked (by rw[Ns];simp) _ _
     ·exact hoff x y Ox hy
    have hw:∀ cc∈#[scase c v z'],NoWays (w.at d') (eO.setIfInBounds i ph) cc:=by intro cc lF;simp only[pW,fR,m6,gm]at lF;subst lF;exact ways_send_none Sq (e8 _) hp
    refine⟨_,_,sumTo eO.size q₁+0,by rw[dI];exact crowd_waits (sl:=qz) hi (UP d') hw,by simp at hμ;omega,.inr ⟨_,d',qz,q₁,true,rfl,by simpa using hsz,j7 yN,?_,λ_=>by omega,by simp⟩⟩;have:=Cd.setH (fn:=g.frame.fn) (pos:=g.frame.place) yN (parked a₂ #[scase c v z'] .send) (ya d')
    rwa[Eg]at this
   ·
    have hp:partners (eO.setIfInBounds i ph) c false=[(j,kk)]:=by rw[partners_one (stand_get Ln Wg) λx y Ox hy=>hoff x y Ox hy,offersAt_parked_at hk hu];rfl
    have C2:=Cd.setH (fn:=g.frame.fn) (pos:=g.frame.place) yN a₂ (ya d');rw[Eg]at C2;have hH2:((eO.setIfInBounds j ((parked rr s.cases s.shape).finishComm P s.cases s.shape kk v true)).setIfInBounds i (a₂.finishComm P #[scase c v z'] .send 0 undef false))[i]? =some (Conc.served a₂ undef):=j7 (by simpa using yN);refine⟨_,_,0,by rw[dI];exact crowd_send_meets_sel (sl:=qz) hi (UP d') Sq Ln Wg hk hp,Ow,.inl ⟨_,d',qz,upd q₁ i (m+1),rfl,?_,?_⟩⟩
    ·refine⟨rr,yM.1,?_⟩;rw[gK (λz=>Ln z.symm),j7 ai,finishComm_served]
    ·rw[<- Hf];exact C2.pass Ln (by simpa using yN) hj JP Sq hcB (by simp) (λx hx Ox=>by rw[gK (λz=>hx z.symm),gK (λz=>Ox z.symm),gK (λz=>hx z.symm)]) (j7 (by simpa using yN)) _ _ _ _ Z2 nq
 ·by_cases ej:i=j/\pk=true/\On P (i==0) s g
  ·
   obtain⟨rfl,rfl,yM⟩:=ej;obtain⟨rr,hrr,_,_,_,_,esj,aeb,mF⟩:=yM;obtain⟨cN,hr,hl,tF,hd⟩:=uN (i:=i) (fn:=g.frame.fn) (pos:=g.frame.place) (Cd.mem i s hj) aeb;have hp:partners (eO.setIfInBounds i ph) c true=[(h,0)]:=by
    rw[partners_one (stand_get (jl Ln) kN) λx y Nq hy=>by
     rcases getElem?_stand eO i x y hy with⟨_,rfl⟩|⟨_,xJ⟩
     ·exact offersAt_ph _ _
     ·exact Fr.noSend Cd Nq xJ _]
    simp[offersAt_parked_send]
   have ho:∀ (m:Nat) (c':CommCase),m≠kk->s.cases[m]? =some c'->NoWays (w.at d') (eO.setIfInBounds i ph) c':=by
    intro m c' hm kI;obtain⟨c₂,z₂,rfl⟩:=We.recvs c' (Sa kI);have eV:c≠c₂:=λec=>hu m _ hm kI (by rw[ec];rfl);obtain⟨k₂,Z3⟩:=Cd.chans i s c₂ (λz=>z) hj ⟨m,z₂,kI⟩;refine ways_recv_none Z3 (partners_nil λx y hy=>?_);rcases getElem?_stand eO i x y hy with⟨_,rfl⟩|⟨_,xJ⟩
    ·exact offersAt_ph _ _
    ·by_cases Nq:x=h
     ·subst Nq;rw[kN]at xJ;obtain rfl:=bR xJ;simp only[eN];rw[offersAt_parked_send,ax eV]
     ·exact Fr.noSend Cd Nq xJ _
   have sO:σ.lo i:=by unfold Gh.lo;rw[hj];rfl
   have mO:∀ x:aM,(eO.setIfInBounds i x)[i]? =some x:=λx=>j7 ai;have C2:Fr P σ (λ_=>False) h 0 (t++MemOp.ofEvents i g.frame.fn g.frame.place esj) (eO.setIfInBounds i g) (w.at d') (upd q₁ i (q₁ i)):=by refine Cd.put (d:=d') e (λz=>z) ai (by simp) (λx hx _=>gK (λz=>hx z.symm)) (mO g) cN (by rw[hj];rw[hi]at Wg;obtain rfl:=bR Wg;exact hSj) (λ_=>hd t) ?_;exact Cd.px.reads (λi=>Knows.app _) sO cN (λop cG b hb=>⟨(hr op cG b hb).1,⟨s,hj,(hr op cG b hb).2⟩,Cd.uM i s _ hj (hr op cG b hb).2⟩) (λop cG ad ea=>absurd ea (tF op cG ad)) (e8 _) hl
   refine⟨_,_,0,by rw[dI];exact crowd_sel_recv_meets (sl:=qz) hi (mF _ (Cd.mem i s hj)) hk ho Sq (jl Ln) kN hp,Ow,.inl ⟨_,d',qz,upd (upd q₁ i (q₁ i)) h (m+1),rfl,?_,?_⟩⟩
   ·refine⟨rr,hrr,?_⟩;rw[j7 (by simp;omega),finishComm_served]
   ·rw[<- Hf];exact C2.pass Ln (by simpa using yN) hj JP Sq hcB (by simp) (λx hx Ox=>by rw[gK (λz=>Ox z.symm),gK (λz=>hx z.symm),gK (λz=>Ox z.symm)])
     (by rw[gK e,j7 yN,finishComm_send]) _ _ _ _ Z2 nq
  ·
   obtain⟨fT,ops,q',d₂,G5,tG,uw,_,_,hqo,hq0,C',du⟩:=Cd.by_step (sl:=qz) hi e (λz=>z) hg yN
    (λgx w' xI np=>by
     rw[kN]at xI;obtain rfl:=bR xI;cases pk with
     |false=>exact again_running _ (.inl mU)
     |true=>exact again_send_open (by rw[np];exact Sq))
    (λs' nO yM gx c' xI kI=>by
     rw[kN]at xI;obtain rfl:=bR xI;cases pk with
     |false=>exact offersAt_of_not_blocked (by simp[mU]) _ _
     |true=>
      simp only[eN];rw[offersAt_parked_send,ax];intro ec;have yP:i=j:=mg i s' nO (ec▸kI);subst yP;rw[hj]at nO;obtain rfl:=bR nO;exact ej ⟨rfl,rfl,yM⟩)
   refine⟨_,_,sumTo fT.size q'+(if pk then 0 else 1),by rw[dI];exact G5,by rw[tG];omega,.inr ⟨fT,d₂,qz,q',pk,rfl,tG.trans hsz,by rw[uw];exact kN,C',λhp=>?_,rfl⟩⟩;subst hp;by_cases yP:j=i
   ·subst yP;rcases Lf (q' j)with h0|h0
    ·exact absurd ⟨rfl,rfl,hq0 s hj h0⟩ ej
    ·exact h0
   ·rw[hqo j yP];exact RP rfl
end
end
section
open Go.Conc
open Go.ConcN (sumTo upd sumTo_upd upd_ne upd_same)
def KQ:Int:=4294967296
def mH(v wt:Nat):Value:=.int .u64 ((v:Int)*KQ+wt)
def s6(s:Nat):Value:=.int .u32 (s:Int)
abbrev AE(m:Mark):Event:=⟨.mark m,false,true⟩
abbrev ar(a:Addr):Event:=⟨.cell a,false,true⟩
abbrev aw(a:Addr):Event:=⟨.cell a,true,true⟩
structure qT where
 blk:Nat
 o1:Nat
 o2:Nat
 cs:Array Value
 ty:aO
abbrev qT.st(G:qT):Addr:=⟨G.blk,G.o1,none⟩
abbrev qT.sm(G:qT):Addr:=⟨G.blk,G.o2,none⟩
structure qT.Ok(G:qT):Prop where
 ne:G.o1≠G.o2
 l1:G.o1<G.cs.size
 l2:G.o2<G.cs.size
abbrev qT.row(G:qT)(x y:Value):Array Value:=(G.cs.setIfInBounds G.o1 x).setIfInBounds G.o2 y
structure WG(G:qT)(w₀:World)(x y:Value)(w:World):Prop where
 hp:w.heap=w₀.heap.setIfInBounds G.blk (.cells (G.row x y) G.ty (0,0))
 os:w.os=w₀.os
 out:w.output=w₀.output
 b0:w₀.heap[G.blk]? =some (.cells G.cs G.ty (0,0))
section
variable{G:qT}{w₀ w w':World}{x y x' y':Value}
theorem WG.blt(H:WG G w₀ x y w):G.blk<w₀.heap.size:=(gV.1 H.b0).1
theorem WG.row(H:WG G w₀ x y w):w.heap[G.blk]? =some (.cells (G.row x y) G.ty (0,0)):=by rw[H.hp];exact j7 H.blt
theorem WG.size(H:WG G w₀ x y w):w.heap.size=w₀.heap.size:=by rw[H.hp];simp
theorem WG.Hj(H:WG G w₀ x y w){b:Nat}(hb:b≠G.blk):w.heap[b]? =w₀.heap[b]? :=by rw[H.hp];exact gK (jl hb)
theorem WG.at(H:WG G w₀ x y w)(d:Nat):WG G w₀ x y (w.at d):=⟨H.hp,H.os,H.out,H.b0⟩
theorem Oy(ok:G.Ok):(G.row x y)[G.o1]? =some x:=by rw[gK (jl ok.ne)];exact j7 ok.l1
theorem Oz(ok:G.Ok):(G.row x y)[G.o2]? =some y:=j7 (by simpa using ok.l2)
theorem vS{o:Nat}(h1:o≠G.o1)(h2:o≠G.o2):(G.row x y)[o]? =G.cs[o]? :=by rw[gK (jl h2),gK (jl h1)]
theorem WG.UQ(ok:G.Ok)(H:WG G w₀ x y w):w.cell? G.st=some x:=by simp only[World.cell?,H.row];exact Oy ok
theorem WG.csm(ok:G.Ok)(H:WG G w₀ x y w):w.cell? G.sm=some y:=by simp only[World.cell?,H.row];exact Oz ok
theorem WG.fst(H:WG G w₀ x y w):w.frozen? G.st=false:=by simp only[World.frozen?,H.row];simp
theorem WG.fsm(H:WG G w₀ x y w):w.frozen? G.sm=false:=by simp only[World.frozen?,H.row];simp
theorem OA(ok:G.Ok):(G.row x y).setIfInBounds G.o1 x'=G.row x' y:=by
 apply sJ;intro i;by_cases h1:i=G.o1
 ·subst h1;rw[Oy ok,j7 (by simpa using ok.l1)]
 ·rw[gK (jl h1)];by_cases h2:i=G.o2
  ·subst h2;rw[Oz ok,Oz ok]
  ·rw[vS h1 h2,vS h1 h2]
theorem OB(ok:G.Ok):(G.row x y).setIfInBounds G.o2 y'=G.row x y':=by
 apply sJ;intro i;by_cases h2:i=G.o2
 ·subst h2;rw[Oz ok,j7 (by simpa using ok.l2)]
 ·rw[gK (jl h2)];by_cases h1:i=G.o1
  ·subst h1;rw[Oy ok,Oy ok]
  ·rw[vS h1 h2,vS h1 h2]
theorem qB{w:World}{b o:Nat}{cs:Array Value}{t:aO}{fz:Nat×Nat}{v:Value}(h:w.heap[b]? =some (.cells cs t fz)):
  (w.setCell ⟨b,o,none⟩ v).heap=w.heap.setIfInBounds b (.cells (cs.setIfInBounds o v) t fz):=by
 have du:b<w.heap.size:=(gV.1 h).1;unfold World.setCell;apply sJ;intro i;by_cases e:i=b
 ·subst e;simp only[Sc,eN,h,jR];rw[j7 du];simp
 ·rw[gK (jl e)];simp only[Sc,ax (jl e)]
theorem set_set(a:Array Obj)(b:Nat)(o o':Obj):(a.setIfInBounds b o).setIfInBounds b o'=a.setIfInBounds b o':=by
 apply sJ;intro i;by_cases e:i=b
 ·subst e;by_cases du:i<a.size
  ·rw[j7 (by simpa using du),j7 du]
  ·rw[He (by simp;omega),He (by simp;omega)]
 ·rw[gK (jl e),gK (jl e),gK (jl e)]
theorem WG.setSt(ok:G.Ok)(H:WG G w₀ x y w)(x':Value):WG G w₀ x' y (w.setCell G.st x'):=by refine⟨?_,H.os,H.out,H.b0⟩;rw[qB H.row,OA ok,H.hp,set_set]
theorem WG.setSm(ok:G.Ok)(H:WG G w₀ x y w)(y':Value):WG G w₀ x y' (w.setCell G.sm y'):=by refine⟨?_,H.os,H.out,H.b0⟩;rw[qB H.row,OB ok,H.hp,set_set]
theorem WG.other(H:WG G w₀ x y w){a:Addr}(h1:a≠G.st)(h2:a≠G.sm):w.cell? a=w₀.cell? a:=by
 obtain⟨b,o,sp⟩:=a;by_cases e:b=G.blk
 ·subst e;simp only[World.cell?,H.row,H.b0];cases sp with
  |some s=>rfl
  |none=>
   simp only[Lg,gn,eR];exact vS (λz=>h1 (by rw[z])) (λz=>h2 (by rw[z]))
 ·simp only[World.cell?,H.Hj e]
theorem WG.UR(H:WG G w₀ x y w)(H':WG G w₀ x' y' w'){a:Addr}(h1:a≠G.st)(h2:a≠G.sm):w'.cell? a=w.cell? a:=by rw[H.other h1 h2,H'.other h1 h2]
theorem WG.US(H:WG G w₀ x y w)(H':WG G w₀ x' y' w'){r:Nat}{o:Obj}(h:w.heap[r]? =some o)(ho:o.isChan=true):w'.heap[r]? =some o:=by
 have e:r≠G.blk:=λe=>by subst e;rw[H.row]at h;obtain rfl:=bR h;cases ho
 rw[H'.Hj e,<- H.Hj e];exact h
end
def Gs(G:qT)(w:World):Prop:=∃ c,w.heap[G.blk]? =some (.cells c G.ty (0,0))/\c.size=G.cs.size
theorem WG.gs{G:qT}{w₀ w:World}{x y:Value}(H:WG G w₀ x y w):Gs G w:=⟨_,H.row,by simp⟩
inductive St where
 |rel|yb|add|ld|Nt|Hk
def Cl(P:bL)(G:qT):Nat->St->aM->Prop
 |0,_,_=>False
 |n+1,x,g=>g.status=.running/\((∃ g',(∀ w,Gs G w->stepG P false g w=.go g' w #[])/\Cl P G n x g')\/match x with
  |.rel=>∃ g',(∀ w,stepG P false g w=.go g' w #[AE (.releaseMerge G.st)])/\Cl P G n .yb g'
  |.yb=>∃ g',(∀ w,stepG P false g w=.go g' w #[AE .disable])/\Cl P G n .add g'
  |.add=>∃ g':Nat->Nat->aM,(∀ w v wt,v<=3->wt<=1->w.cell? G.st=some (mH (v+1) wt)->w.frozen? G.st=false->stepG P false g w=.go (g' v wt) (w.setCell G.st (mH v wt)) #[ar G.st,aw G.st])/\
    Cl P G n .ld (g' 0 1)/\∀ v wt,v<=3->wt<=1->¬ (v=0/\wt=1)->QuitsD P n 1 (g' v wt)
  |.ld=>∃ g',(∀ w,w.cell? G.st=some (mH 0 1)->stepG P false g w=.go g' w #[ar G.st])/\Cl P G n .Nt g'
  |.Nt=>∃ g',(∀ w,w.cell? G.st=some (mH 0 1)->w.frozen? G.st=false->stepG P false g w=.go g' (w.setCell G.st (mH 0 0)) #[aw G.st])/\Cl P G n .Hk g'
  |.Hk=>mayWake P g=true/\∃ g',(∀ w,w.cell? G.sm=some (s6 0)->w.frozen? G.sm=false->stepG P false g w=.go g' (w.setCell G.sm (s6 1)) (semEvents G.sm))/\QuitsD P n 1 g')
inductive MS where
 |yb (c:Nat)|head (c:Nat)|Sr (v:Nat)|reg|last|OC|acq
inductive MW(P:bL)(G:qT)(Fin:aM->Prop):MS->aM->Prop
 |mute {x:MS} {g g':aM} (hs:g.status=.running) (h:∀ w,Gs G w->stepG P true g w=.go g' w #[]) (k:MW P G Fin x g'):MW P G Fin x g
 |yb {c:Nat} {g g':aM} (hs:g.status=.running) (h:∀ w,stepG P true g w=.go g' w #[AE .disable]) (k:MW P G Fin (.head c) g'):MW P G Fin (.yb c) g
 |load {c:Nat} {g:aM} (f:Nat->aM) (hs:g.status=.running) (h:∀ w v,v<=c->w.cell? G.st=some (mH v 0)->stepG P true g w=.go (f v) w #[ar G.st])
   (k0:MW P G Fin .OC (f 0)) (k:∀ v,1<=v->v<=c->MW P G Fin (.Sr v) (f v)):MW P G Fin (.head c) g
 |Sr {v:Nat} {g g1 g2:aM} (hs:g.status=.running) (h1:∀ w,w.cell? G.st=some (mH v 0)->w.frozen? G.st=false->stepG P true g w=.go g1 (w.setCell G.st (mH v 1)) #[ar G.st,aw G.st])
   (h2:∀ w v',v'<v->w.cell? G.st=some (mH v' 0)->w.frozen? G.st=false->stepG P true g w=.go g2 w #[ar G.st]) (k1:MW P G Fin .reg g1) (k2:MW P G Fin (.head (v-1)) g2):MW P G Fin (.Sr v) g
 |said {g g':aM} (hs:g.status=.running) (h:∀ w,stepG P true g w=.go g' w #[AE (.write G.sm)]) (k:MW P G Fin .reg g'):MW P G Fin .reg g
 |Hk {g g':aM} (hs:g.status=.running) (ho:g.offers=none) (h0:∀ w,w.cell? G.sm=some (s6 0)->stepG P true g w=.go {g with status:=.blocked} w #[])
   (h1:∀ w,w.cell? G.sm=some (s6 1)->w.frozen? G.sm=false->stepG P true g w=.go g' (w.setCell G.sm (s6 0)) (semEvents G.sm)) (k:MW P G Fin .last g'):MW P G Fin .reg g
 |last {g g':aM} (hs:g.status=.running) (h:∀ w,w.cell? G.st=some (mH 0 0)->stepG P true g w=.go g' w #[ar G.st]) (k:MW P G Fin .OC g'):MW P G Fin .last g
 |OC {g g':aM} (hs:g.status=.running) (h:∀ w,stepG P true g w=.go g' w #[AE .enable]) (k:MW P G Fin .acq g'):MW P G Fin .OC g
 |acq {g g':aM} (hs:g.status=.running) (h:∀ w,stepG P true g w=.go g' w #[AE (.acquire G.st)]) (k:Fin g'):MW P G Fin .acq g
section
variable{P:bL}{σ:Gh}{J:Nat->Prop}{h δ:Nat}{T:Trace}{gs:Array aM}{w w':World}{q:Nat->Nat}
theorem Fr.world(C:Fr P σ J h δ T gs w q)(hsz:w'.heap.size=w.heap.size)(oE:∀ (r:Nat) (o:Obj),w.heap[r]? =some o->o.isChan=true->w'.heap[r]? =some o)(hm:∀ i s p,σ.aQ i=some s->p∈s.mem->w.cell? p.1=some p.2->w'.cell? p.1=some p.2):
  Fr P σ J h δ T gs w' q:=
 ⟨C.cnt,C.idle,C.xH,C.jh,C.hole,C.wf,C.there,λi s c hJ e hc=>by obtain⟨k,hk⟩:=C.chans i s c hJ e hc;exact⟨k,oE _ _ hk rfl⟩,λi s e p hp=>hm i s p e hp (C.mem i s e p hp),C.uM,C.above,C.hear,C.deaf,by rw[hsz];exact C.px⟩
theorem Fr.Z4(C:Fr P σ J h δ T gs w q){i:Nat}{g':aM}{ops:Array MemOp}{fT:Array aM}(hJ:J i)(du:i<gs.size)(hsz:w'.heap.size=w.heap.size)
  (oE:∀ (r:Nat) (o:Obj),w.heap[r]? =some o->o.isChan=true->w'.heap[r]? =some o) (hm:∀ i s p,σ.aQ i=some s->p∈s.mem->w.cell? p.1=some p.2->w'.cell? p.1=some p.2)
  (hgs:fT.size=gs.size) (q8:∀ x,x≠i->x≠h->fT[x]? =gs[x]?) (mO:fT[i]? =some g') (dI:g'.status=.running\/g'.status=.finished) (cN:∀ op∈ops,op.g=i)
  (UM:Px σ.rd σ.lo σ.sh w.heap.size (Knows (T++ops) h) (T++ops)):Fr P σ J h δ (T++ops) fT w' q:=by
 have RL:i≠h:=λe=>C.jh (e▸hJ);have C0:Fr P σ J h δ T gs w' q:=C.world hsz oE hm;refine⟨hgs.trans C.cnt,λx y hx AB hy=>?_,λx y AB hy=>?_,C.jh,C.hole,C.wf,λi s e=>by rw[hgs];exact C.there i s e,C0.chans,C0.mem,C.uM,λj hj=>?_,λx AB hl=>?_,?_,by rw[hsz];exact UM⟩
 ·have e:x≠i:=λe=>AB (e▸hJ);rw[q8 x e hx]at hy;have h0:=C.idle x y hx AB hy;cases es:σ.aQ x with
  |none=>rw[es]at h0;exact⟨h0.1,by rw[Deaf_other T (λz=>e z.symm) ops cN];exact h0.2⟩
  |some s=>rw[es]at h0;exact h0
 ·by_cases e:x=i
  ·subst e;rw[mO]at hy;obtain rfl:=bR hy;exact dI
  ·have Nq:x≠h:=λe=>C.jh (e▸AB);rw[q8 x e Nq]at hy;exact C.xH x y AB hy
 ·rw[Deaf_other T (g':=i) ai ops cN];exact C.above j ai
 ·rw[Deaf_other T (λz:i=x=>AB (by rw[<- z];exact hJ)) ops cN];exact C.hear x AB hl
 ·rw[Deaf_other T RL ops cN];exact C.deaf
theorem EK{i:Nat}{fn:bJ}{pos:String}{es:Array Event}{sh:Loc->Prop}(ya:∀ (j:Nat) (e:Event),es[j]? =some e->(MemAct.ofEvent e).touch?=none\/((∃ ad wr,e=⟨.cell ad,wr,true⟩/\sh (.cell ad))/\0<deafBehind (Deaf T i) (es.extract 0 j))):
  ∀ (k:Nat) (op:MemOp),(MemOp.ofEvents i fn pos es)[k]? =some op->∀ b,op.act.touch?=some b->b.kind=.atomic/\sh b.loc/\¬ (T++MemOp.ofEvents i fn pos es).heard (T.size+k):=by
 intro k op cG b hb;have So:=cG;rw[ofEvents_eq,Et]at So;obtain⟨e,he,rfl⟩:=G3.1 So;rcases ya k e he with h0|⟨⟨ad,wr,rfl,hs⟩,hd⟩
 ·simp only at hb;rw[h0]at hb;cases hb
 ·have hk:k<=es.size:=by
   rcases lH k es.size with h'|h'
   ·omega
   ·rw[He h']at he;cases he
  have hbe:b=⟨.cell ad,wr,.atomic⟩:=by cases wr<;>simp[MemAct.ofEvent,MemAct.touch?]at hb<;>exact hb.symm
  subst hbe;refine⟨rfl,hs,?_⟩;rintro⟨g,hg,Nu⟩;have hgi:g=i:=by
   have:(T++MemOp.ofEvents i fn pos es)[T.size+k]? =some {g:=i,fn,pos,act:=.ofEvent ⟨.cell ad,wr,true⟩}:=by rw[qq4 ai];simpa using cG
   rw[g?_of this]at hg;exact(bR hg).symm
  subst hgi;rw[deaf_inside T g fn pos es k hk]at Nu;omega
end
end
section
open Go.Conc
open Go.ConcN (sumTo upd sumTo_upd upd_ne upd_same)
inductive WS where
 |app|cl (st:St)|qt
def WS.cnt:WS->Nat
 |.app|.cl .rel|.cl .yb|.cl .add=>1
 |_=>0
def WS.opn:WS->Prop
 |.cl .ld|.cl .Nt|.cl .Hk=>False
 |_=>True
def St.deaf:St->Nat
 |.rel|.yb=>0
 |_=>1
def iR(f:Nat->Nat):List Nat->Nat
 |[]=>0
 |i::l=>f i+iR f l
theorem yQ{f g:Nat->Nat}:∀ {l:List Nat},(∀ i∈l,f i=g i)->iR f l=iR g l
 |[],_=>rfl
 |i::l,h=>by rw[iR,iR,h i (by simp),yQ λj hj=>h j (by simp[hj])]
theorem uO{α:Type}(D:Nat->α)(x:α)(φ:α->Nat){i:Nat}:∀ {l:List Nat},l.Nodup->i∈l->iR (λj=>φ (upd D i x j)) l+φ (D i)=iR (λj=>φ (D j)) l+φ x
 |[],_,h=>by simp at h
 |j::l,hn,h=>by
  rw[oX]at hn;by_cases e:j=i
  ·subst e;have:iR (λk=>φ (upd D j x k)) l=iR (λk=>φ (D k)) l:=yQ λk hk=>by rw[upd_ne D x (λz:k=j=>hn.1 (by rw[<- z];exact hk))]
   simp only[iR,upd_same];omega
  ·have hi:i∈l:=by
    rcases fR.1 h with z|z
    ·exact absurd z.symm e
    ·exact z
   have:=uO D x φ hn.2 hi;simp only[iR,upd_ne D x e];omega
theorem JR{f:Nat->Nat}(h:∀ i,f i<=1):∀ l:List Nat,iR f l<=l.length
 |[]=>by simp[iR]
 |i::l=>by have:=JR h l;have:=h i;simp only[iR,jC];omega
theorem vT{f:Nat->Nat}:∀ {l:List Nat},iR f l=0->∀ i∈l,f i=0
 |[],_,i,hi=>by simp at hi
 |j::l,h,i,hi=>by
  simp only[iR]at h;rcases fR.1 hi with rfl|hi
  ·omega
  ·exact vT (l:=l) ai i hi
theorem EL{f:Nat->Nat}:∀ {l:List Nat},1<=iR f l->∃ i∈l,1<=f i
 |[],h=>by simp[iR]at h
 |j::l,h=>by
  simp only[iR]at h;by_cases hj:1<=f j
  ·exact⟨j,by simp,hj⟩
  ·obtain⟨i,hi,h1⟩:=EL (l:=l) (f:=f) ai;exact⟨i,by simp[hi],h1⟩
theorem Wh(x:WS):x.cnt<=1:=by
 cases x with
 |app=>simp[WS.cnt]
 |cl s=>cases s<;>simp[WS.cnt]
 |qt=>simp[WS.cnt]
def V(L:List Nat)(D:Nat->WS):Nat:=iR (λj=>(D j).cnt) L
def Ss(P:bL)(σ:Gh)(G:qT)(c N0:Nat)(T:Trace)(i n:Nat)(g:aM):WS->Prop
 |.app=>∃ s cw z0 z1 k,σ.aQ i=some s/\s.cases=#[rcase cw z0,rcase c z1]/\n=k+1+N0/\Way P false s k g/\Deaf T i=0/\∀ r,s.uL r->Cl P G N0 .rel (Conc.served r (commResult s.cases s.shape 1 z1 false))
 |.cl x=>Cl P G n x g/\Deaf T i=x.deaf/\(x≠ .rel->∃ r,o8 σ.sh G.st T i r)
 |.qt=>QuitsD P n (Deaf T i) g/\∃ r,o8 σ.sh G.st T i r
theorem Cl.running{P:bL}{G:qT}{n:Nat}{x:St}{g:aM}(h:Cl P G n x g):g.status=.running:=by
 cases n with
 |zero=>exact h.elim
 |succ n=>exact h.1
theorem Ss.other{P:bL}{σ:Gh}{G:qT}{c N0:Nat}{T u:Trace}{i j n:Nat}{g:aM}{x:WS}(H:Ss P σ G c N0 T i n g x)(hu:∀ op∈u,op.g=j)(eV:j≠i):Ss P σ G c N0 (T++u) i n g x:=by
 have hD:Deaf (T++u) i=Deaf T i:=Deaf_other T eV u hu;cases x with
 |app=>
  obtain⟨s,cw,z0,z1,k,h1,h2,h3,h4,h5,h6⟩:=H;exact⟨s,cw,z0,z1,k,h1,h2,h3,h4,hD.trans h5,h6⟩
 |cl x=>exact⟨H.1,hD.trans H.2.1,λhx=>let⟨r,hr⟩:=H.2.2 hx;⟨r,hr.other hu eV⟩⟩
 |qt=>exact⟨by rw[hD];exact H.1,let⟨r,hr⟩:=H.2;⟨r,hr.other hu eV⟩⟩
structure CI(P:bL)(σ:Gh)(L:List Nat)(G:qT)(c N0:Nat)(w₀:World)(δ:Nat)(T:Trace)(gs:Array aM)(w:World)(q:Nat->Nat)(D:Nat->WS)(f:Nat->Nat)(x y:Value):Prop where
 fr:Fr P σ (· ∈L) 0 δ T gs w q
 ok:G.Ok
 nd:L.Nodup
 len:L.length<=4
 wk:∀ i∈L,∃ g,gs[i]? =some g/\Ss P σ G c N0 T i (f i) g (D i)
 shut:∃ k,w.heap[c]? =some (.chan 0 #[] true k k false)
 cw:∀ i s,i∈L->σ.aQ i=some s->∃ cw z0 z1 k,s.cases=#[rcase cw z0,rcase c z1]/\w.heap[cw]? =some (.chan 0 #[] false k k false)
 loose:∀ i∈L,σ.lo i
 wg:WG G w₀ x y w
 yR:σ.sh (.cell G.st)
 G7:σ.sh (.cell G.sm)
def tH(pk:Bool)(a:aM):aM:=if pk then{a with status:=.blocked}else a
theorem Bw{pk:Bool}{a:aM}(hr:a.status=.running)(ho:pk=true->a.offers=none)(w:World):(tH pk a).again w=a:=by
 cases pk with
 |false=>exact again_running w (.inl hr)
 |true=>
  have:=ho rfl;unfold tH Goroutine.again;simp only[eN,this];cases a
  simp_all
section
variable{P:bL}{σ:Gh}{L:List Nat}{G:qT}{c N0:Nat}{w₀:World}{δ:Nat}{T:Trace}{gs:Array aM}{w w':World}{q:Nat->Nat}{D:Nat->WS}{f:Nat->Nat}{x y x' y':Value}
theorem CI.at(C:CI P σ L G c N0 w₀ δ T gs w q D f x y)(d:Nat):CI P σ L G c N0 w₀ δ T gs (w.at d) q D f x y:=
 ⟨C.fr.at d,C.ok,C.nd,C.len,C.wk,C.shut,C.cw,C.loose,C.wg.at d,C.yR,C.G7⟩
theorem CI.CX(C:CI P σ L G c N0 w₀ δ T gs w q D f x y){i:Nat}{s:dH}{p:Addr×Value}(e:σ.aQ i=some s)(hp:p∈s.mem):p.1≠G.st/\p.1≠G.sm:=
 ⟨λz=>C.fr.uM i s _ e ⟨p,hp,rfl⟩ (z▸C.yR),λz=>C.fr.uM i s _ e ⟨p,hp,rfl⟩ (z▸C.G7)⟩
theorem CI.put(C:CI P σ L G c N0 w₀ δ T gs w q D f x y){i n':Nat}{g g' a:aM}{es:Array Event}{ws:WS}{pk:Bool}{sl:Option (Nat×Nat)}(hi:i∈L)(hg:gs[i]? =some g)(hgo:stepG P false g w=.go g' w' es)(np:WG G w₀ x' y' w')
  (dI:g'.status=.running\/g'.status=.finished) (UM:Px σ.rd σ.lo σ.sh w.heap.size (Knows (T++MemOp.ofEvents i g.frame.fn g.frame.place es) 0) (T++MemOp.ofEvents i g.frame.fn g.frame.place es))
  (mG:Ss P σ G c N0 (T++MemOp.ofEvents i g.frame.fn g.frame.place es) i n' g' ws) (du:n'<f i) (ha:gs[0]? =some (tH pk a)) (Bx:a.status=.running) (EM:pk=true->a.offers=none):
  ∃ (fT:Array aM) (lG:Bool),runT P (crowd gs w sl) i=(.next (crowd fT w' sl),MemOp.ofEvents i g.frame.fn g.frame.place es)/\fT.size=gs.size/\fT[0]? =some (tH lG a)/\(lG=true->pk=true)/\(mayWake P g=true->lG=false)/\
   CI P σ L G c N0 w₀ δ (T++MemOp.ofEvents i g.frame.fn g.frame.place es) fT w' q (upd D i ws) (upd f i n') x' y'/\iR (upd f i n') L<iR f L:=by
 have EJ:i≠0:=λe=>C.fr.jh (e▸hi);have OD:(i==0)=false:=by rw[Sb];exact EJ
 have AO:i<gs.size:=(gV.1 hg).1;have cN:∀ op∈MemOp.ofEvents i g.frame.fn g.frame.place es,op.g=i:=λop cG=>by obtain⟨e,_,rfl⟩:=Conc.mem_ofEvents cG;rfl
 have hsz:w'.heap.size=w.heap.size:=by rw[np.size,C.wg.size]
 have oE:∀ (r:Nat) (o:Obj),w.heap[r]? =some o->o.isChan=true->w'.heap[r]? =some o:=λr o h1 h2=>C.wg.US np h1 h2;have hm:∀ i s p,σ.aQ i=some s->p∈s.mem->w.cell? p.1=some p.2->w'.cell? p.1=some p.2:=λi s p e hp h1=>by rw[C.wg.UR np (C.CX e hp).1 (C.CX e hp).2];exact h1
 have Cw:=C.fr.world hsz oE hm;have q8:∀ z,z≠i->z≠0->((gs.map (woken P g g' w')).setIfInBounds i g')[z]? =gs[z]? :=by
  intro z hz Z5;rw[gK (λe=>hz e.symm),Et];cases e:gs[z]? with
  |none=>rfl
  |some v=>simp[woken_of_again (Cw.fixed Z5 e)]
 have mO:((gs.map (woken P g g' w')).setIfInBounds i g')[i]? =some g':=j7 (by simpa using AO);have h0:((gs.map (woken P g g' w')).setIfInBounds i g')[0]? =some (woken P g g' w' (tH pk a)):=by rw[gK EJ,Et,ha];rfl
 have G5:=runT_crowd_go (P:=P) (sl:=sl) hg (by rw[OD];exact hgo);have Hl:iR (upd f i n') L+f i=iR f L+n':=uO f n' id C.nd hi;have hCI:CI P σ L G c N0 w₀ δ (T++MemOp.ofEvents i g.frame.fn g.frame.place es) ((gs.map (woken P g g' w')).setIfInBounds i g') w' q (upd D i ws) (upd f i n') x' y':=by
  refine⟨C.fr.Z4 hi AO hsz oE hm (by simp) q8 mO dI cN UM,C.ok,C.nd,C.len,λj hj=>?_,?_,λj s hj e=>?_,C.loose,np,C.yR,C.G7⟩
  ·by_cases e:j=i
   ·subst e;exact⟨g',mO,by rw[upd_same,upd_same];exact mG⟩
   ·obtain⟨gj,h1,h2⟩:=C.wk j hj;refine⟨gj,by rw[q8 j e (λz=>C.fr.jh (z▸hj))];exact h1,?_⟩;rw[upd_ne f n' e,upd_ne D ws e];exact h2.other cN (λz=>e z.symm)
  ·obtain⟨k,hk⟩:=C.shut;exact⟨k,oE _ _ hk rfl⟩
  ·obtain⟨cw,z0,z1,k,h1,h2⟩:=C.cw j s hj e;exact⟨cw,z0,z1,k,h1,oE _ _ h2 rfl⟩
 by_cases RQ:mayWake P g=true
 ·refine⟨_,false,G5,by simp,?_,λh=>(by cases h),λ_=>rfl,hCI,ai⟩;rw[h0];have gT:(g'.status != .blocked)=true:=by rcases dI with h|h<;>rw[h]<;>rfl
  have qU:(g'.status != .waiting)=true:=by rcases dI with h|h<;>rw[h]<;>rfl
  unfold woken;rw[RQ,gT,qU];simp only[Bool.and_self,eN];rw[Bw Bx EM];rfl
 ·refine⟨_,pk,G5,by simp,?_,λh=>h,λh=>absurd h RQ,hCI,ai⟩;rw[h0];unfold woken;simp[RQ]
theorem CI.JS(C:CI P σ L G c N0 w₀ δ T gs w q D f x y){i:Nat}{fn:bJ}{pos:String}{m:Mark}(h1:(MemAct.ofEvent (AE m)).touch?=none)(h2:∀ ad,m≠ .release ad)(h3:(MemAct.ofEvent (AE m)).low w.heap.size):
  Px σ.rd σ.lo σ.sh w.heap.size (Knows (T++MemOp.ofEvents i fn pos #[AE m]) 0) (T++MemOp.ofEvents i fn pos #[AE m]):=by
 refine C.fr.px.mute (λi=>Knows.app _) (λop cG=>?_) (λop cG ad ea=>?_) (e8 _) (λop cG=>?_)
 all_goals
  obtain⟨e,he,rfl⟩:=Conc.mem_ofEvents cG;simp only[pW,fR,m6,gm]at he;subst he
 ·exact h1
 ·simp only[MemAct.ofEvent,MemAct.mark.injEq]at ea;exact absurd ea (h2 ad)
 ·exact h3
def se(v:Nat):MS->Prop
 |.yb c|.head c=>v<=c
 |.Sr u=>v<=u/\1<=u
 |_=>False
inductive Md(L:List Nat)(D:Nat->WS):MS->Value->Value->Bool->Prop
 |opn {tag:MS} (ht:se (V L D) tag) (hD:∀ i∈L,(D i).opn):Md L D tag (mH (V L D) 0) (s6 0) false
 |reg {pk:Bool} (hD:∀ i∈L,(D i).opn) (h1:1<=V L D):Md L D .reg (mH (V L D) 1) (s6 0) pk
 |sP {pk:Bool} (j:Nat) (hj:j∈L) (hx:D j=.cl .ld\/D j=.cl .Nt) (ho:∀ i∈L,i≠j->D i=.qt):Md L D .reg (mH 0 1) (s6 0) pk
 |tI {pk:Bool} (j:Nat) (hj:j∈L) (hx:D j=.cl .Hk) (ho:∀ i∈L,i≠j->D i=.qt):Md L D .reg (mH 0 0) (s6 0) pk
 |sema (ho:∀ i∈L,D i=.qt):Md L D .reg (mH 0 0) (s6 1) false
 |fin {tag:MS} (ht:tag=.last\/tag=.OC\/tag=.acq) (ho:∀ i∈L,D i=.qt):Md L D tag (mH 0 0) (s6 0) false
theorem OE(hn:L.Nodup){i:Nat}(hi:i∈L)(ws:WS):V L (upd D i ws)+(D i).cnt=V L D+ws.cnt:=uO D ws WS.cnt hn hi
theorem CY{v v':Nat}(h:v'<=v){t:MS}(ht:se v t):se v' t:=by cases t<;>simp only[se]at ht⊢ <;>omega
theorem Md.same{tag:MS}{pk lG:Bool}(M:Md L D tag x y pk)(hn:L.Nodup){i:Nat}(hi:i∈L){ws:WS}(hD:(D i).opn)(hw:ws.opn)(hc:ws.cnt=(D i).cnt)(hq:D i=.qt->ws=.qt)(RP:lG=true->pk=true):Md L (upd D i ws) tag x y lG:=by
 have hV:V L (upd D i ws)=V L D:=by have:=OE (D:=D) hn hi ws;omega
 have cG:(∀ j∈L,(D j).opn)->∀ j∈L,(upd D i ws j).opn:=λh j hj=>by
  by_cases e:j=i
  ·subst e;rw[upd_same];exact hw
  ·rw[upd_ne D ws e];exact h j hj
 have hqt:(∀ j∈L,D j=.qt)->∀ j∈L,upd D i ws j=.qt:=λh j hj=>by
  by_cases e:j=i
  ·subst e;rw[upd_same];exact hq (h j hj)
  ·rw[upd_ne D ws e];exact h j hj
 have hqo:∀ j₀,(∀ j∈L,j≠j₀->D j=.qt)->i≠j₀->∀ j∈L,j≠j₀->upd D i ws j=.qt:=λj₀ h yP j hj eV=>by
  by_cases e:j=i
  ·subst e;rw[upd_same];exact hq (h j hj eV)
  ·rw[upd_ne D ws e];exact h j hj eV
 cases M with
 |opn ht hD'=>
  have:lG=false:=by cases lG with
   |false=>rfl
   |true=>exact absurd (RP rfl) (by simp)
  subst this;rw[<- hV];exact .opn (by rw[hV];exact ht) (cG hD')
 |reg hD' h1=>rw[<- hV];exact .reg (cG hD') ai
 |sP j hj hx ho=>
  have yP:i≠j:=λe=>by subst e;rcases hx with hx|hx<;>rw[hx]at hD<;>exact hD
  exact .sP j hj (by rw[upd_ne D ws (jl yP)];exact hx) (hqo j ho yP)
 |tI j hj hx ho=>
  have yP:i≠j:=λe=>by subst e;rw[hx]at hD;exact hD
  exact .tI j hj (by rw[upd_ne D ws (jl yP)];exact hx) (hqo j ho yP)
 |sema ho=>
  have:lG=false:=by cases lG with
   |false=>rfl
   |true=>exact absurd (RP rfl) (by simp)
  subst this;exact .sema (hqt ho)
 |fin ht ho=>
  have:lG=false:=by cases lG with
   |false=>rfl
   |true=>exact absurd (RP rfl) (by simp)
  subst this;exact .fin ht (hqt ho)
end
end
section
open Go.Conc
open Go.ConcN (sumTo upd sumTo_upd upd_ne upd_same)
section
variable{P:bL}{σ:Gh}{L:List Nat}{G:qT}{c N0:Nat}{w₀:World}{δ:Nat}{T:Trace}{gs:Array aM}{w w':World}{q:Nat->Nat}{D:Nat->WS}{f:Nat->Nat}{x y x' y':Value}{tag:MS}{pk:Bool}
def pb(σ:Gh)(d:Nat)(es:Array Event):Prop:=
 ∀ (j:Nat) (e:Event),es[j]? =some e->(MemAct.ofEvent e).touch?=none\/((∃ ad wr,e=⟨.cell ad,wr,true⟩/\σ.sh (.cell ad))/\0<deafBehind d (es.extract 0 j))
theorem Z6{a:Addr}(h:σ.sh (.cell a)):pb σ 1 #[ar a]:=by
 intro j e he;rcases j with _|j
 ·simp at he;subst he;exact .inr ⟨⟨a,false,rfl,h⟩,by simp[deafBehind]⟩
 ·simp at he
theorem Z7{a:Addr}(h:σ.sh (.cell a)):pb σ 1 #[aw a]:=by
 intro j e he;rcases j with _|j
 ·simp at he;subst he;exact .inr ⟨⟨a,true,rfl,h⟩,by simp[deafBehind]⟩
 ·simp at he
theorem JU{a:Addr}(h:σ.sh (.cell a)):pb σ 1 #[ar a,aw a]:=by
 intro j e he;rcases j with _|_|j
 ·simp at he;subst he;exact .inr ⟨⟨a,false,rfl,h⟩,by simp[deafBehind]⟩
 ·simp at he;subst he;exact .inr ⟨⟨a,true,rfl,h⟩,by simp[deafBehind]⟩
 ·simp at he
theorem OG{a:Addr}(h:σ.sh (.cell a)):pb σ 1 (semEvents a):=by
 intro j e he;unfold semEvents at he⊢;rcases j with _|_|_|_|j
 ·simp at he;subst he;exact .inl rfl
 ·simp at he;subst he;exact .inr ⟨⟨a,false,rfl,h⟩,by simp[deafBehind]⟩
 ·simp at he;subst he;exact .inr ⟨⟨a,true,rfl,h⟩,by simp[deafBehind]⟩
 ·simp at he;subst he;exact .inl rfl
 ·simp at he
theorem CI.yc(C:CI P σ L G c N0 w₀ δ T gs w q D f x y){i d:Nat}{fn:bJ}{pos:String}{es:Array Event}(hd:Deaf T i=d)(ya:pb σ d es)(hm:∀ e∈es,∀ ad,MemAct.ofEvent e≠ .mark (.release ad))(hl:∀ e∈es,(MemAct.ofEvent e).low w.heap.size):
  Px σ.rd σ.lo σ.sh w.heap.size (Knows (T++MemOp.ofEvents i fn pos es) 0) (T++MemOp.ofEvents i fn pos es):=by
 have h:=EK (T:=T) (i:=i) (fn:=fn) (pos:=pos) (es:=es) (sh:=σ.sh) (by rw[hd];exact ya);exact C.fr.px.Sn (λi=>Knows.app _) (λop cG=>by obtain⟨e,_,rfl⟩:=Conc.mem_ofEvents cG;rfl) h (λg l _ hr=>by obtain⟨s,e,hl⟩:=hr;exact C.fr.uM g s l e hl)
  (λop cG ad ea=>by obtain⟨e,he,rfl⟩:=Conc.mem_ofEvents cG;exact absurd ea (hm e he ad)) (e8 _) (λop cG=>by obtain⟨e,he,rfl⟩:=Conc.mem_ofEvents cG;exact hl e he)
theorem o8.atom{a:Addr}{i r d:Nat}{fn:bJ}{pos:String}{es:Array Event}(H:o8 σ.sh a T i r)(hd:Deaf T i=d)(ya:pb σ d es):o8 σ.sh a (T++MemOp.ofEvents i fn pos es) i r:=by have h:=EK (T:=T) (i:=i) (fn:=fn) (pos:=pos) (es:=es) (sh:=σ.sh) (by rw[hd];exact ya);exact H.app λk op cG _ b hb=>h k op cG b hb
theorem CI.OH(C:CI P σ L G c N0 w₀ δ T gs w q D f x y):G.blk<w.heap.size:=by rw[C.wg.size];exact C.wg.blt
theorem JV{v:WS}(h:v.opn)(h0:v.cnt=0):v=.qt:=by
 cases v with
 |app=>simp[WS.cnt]at h0
 |cl s=>cases s<;>simp_all [WS.cnt,WS.opn]
 |qt=>rfl
theorem Md.Wi(M:Md L D tag x y pk){i:Nat}(hi:i∈L)(h1:(D i).cnt=1):(∀ j∈L,(D j).opn)/\1<=V L D/\((se (V L D) tag/\x=mH (V L D) 0/\y=s6 0/\pk=false)\/(tag=.reg/\x=mH (V L D) 1/\y=s6 0)):=by
 have m7:∀ {a:WS},D i=a->a.cnt=0->False:=λe h=>by rw[e]at h1;omega
 have hV:∀ l:List Nat,i∈l->1<=iR (λj=>(D j).cnt) l:=λl=>by
  induction l with
  |nil=>intro h;simp at h
  |cons j l ih=>
   intro h;rcases fR.1 h with rfl|h
   ·simp only[iR];omega
   ·have:=ih h;simp only[iR];omega
 cases M with
 |opn ht hD=>exact⟨hD,hV L hi,.inl ⟨ht,rfl,rfl,rfl⟩⟩
 |reg hD h=>exact⟨hD,h,.inr ⟨rfl,rfl,rfl⟩⟩
 |sP j hj hx ho=>
  by_cases e:i=j
  ·subst e;rcases hx with hx|hx<;>exact(m7 hx (by simp[WS.cnt])).elim
  ·exact(m7 (ho i hi e) (by simp[WS.cnt])).elim
 |tI j hj hx ho=>
  by_cases e:i=j
  ·subst e;exact(m7 hx (by simp[WS.cnt])).elim
  ·exact(m7 (ho i hi e) (by simp[WS.cnt])).elim
 |sema ho=>exact(m7 (ho i hi) (by simp[WS.cnt])).elim
 |fin _ ho=>exact(m7 (ho i hi) (by simp[WS.cnt])).elim
theorem Md.JW(M:Md L D tag x y pk){i:Nat}(hi:i∈L)(h1:D i=.cl .ld\/D i=.cl .Nt):tag=.reg/\x=mH 0 1/\y=s6 0/\∀ j∈L,j≠i->D j=.qt:=by
 have m7:D i≠ .qt:=λe=>by rcases h1 with h|h<;>rw[e]at h<;>cases h
 have OI:¬ (D i).opn:=by rcases h1 with h|h<;>rw[h]<;>exact λz=>z
 cases M with
 |opn ht hD=>exact absurd (hD i hi) OI
 |reg hD h=>exact absurd (hD i hi) OI
 |sP j hj hx ho=>
  by_cases e:i=j
  ·subst e;exact⟨rfl,rfl,rfl,ho⟩
  ·exact absurd (ho i hi e) m7
 |tI j hj hx ho=>
  by_cases e:i=j
  ·subst e;rcases h1 with h|h<;>rw[h]at hx<;>cases hx
  ·exact absurd (ho i hi e) m7
 |sema ho=>exact absurd (ho i hi) m7
 |fin _ ho=>exact absurd (ho i hi) m7
theorem Md.Su(M:Md L D tag x y pk){i:Nat}(hi:i∈L)(h1:D i=.cl .Hk):tag=.reg/\x=mH 0 0/\y=s6 0/\∀ j∈L,j≠i->D j=.qt:=by
 have m7:D i≠ .qt:=λe=>by rw[e]at h1;cases h1
 have OI:¬ (D i).opn:=by rw[h1];exact λz=>z
 cases M with
 |opn ht hD=>exact absurd (hD i hi) OI
 |reg hD h=>exact absurd (hD i hi) OI
 |sP j hj hx ho=>
  by_cases e:i=j
  ·subst e;rcases hx with h|h<;>rw[h]at h1<;>cases h1
  ·exact absurd (ho i hi e) m7
 |tI j hj hx ho=>
  by_cases e:i=j
  ·subst e;exact⟨rfl,rfl,rfl,ho⟩
  ·exact absurd (ho i hi e) m7
 |sema ho=>exact absurd (ho i hi) m7
 |fin _ ho=>exact absurd (ho i hi) m7
def UT(P:bL)(σ:Gh)(L:List Nat)(G:qT)(c N0:Nat)(w₀:World)(δ:Nat)(T:Trace)(gs:Array aM)(w:World)(q:Nat->Nat)(f:Nat->Nat)(tag:MS)(pk:Bool)(a:aM)(sl:Option (Nat×Nat))(i:Nat):Prop:=
 ∃ (fT:Array aM) (ops:Array MemOp) (w':World) (D':Nat->WS) (f':Nat->Nat) (x' y':Value) (lG:Bool),runT P (crowd gs w sl) i=(.next (crowd fT w' sl),ops)/\fT.size=gs.size/\fT[0]? =some (tH lG a)/\(lG=true->pk=true)/\
  CI P σ L G c N0 w₀ δ (T++ops) fT w' q D' f' x' y'/\Md L D' tag x' y' lG/\iR f' L<iR f L
theorem wW{a:aM}(Bx:a.status=.running)(EM:pk=true->a.offers=none)(r:Nat)(b:Bool):offersAt (tH pk a) r b=[]:=by
 cases pk with
 |false=>exact offersAt_of_not_blocked (by unfold tH;simp[Bx]) _ _
 |true=>unfold tH offersAt;simp[EM rfl]
theorem CI.Z8(C:CI P σ L G c N0 w₀ δ T gs w q D f x y)(M:Md L D tag x y pk){i:Nat}{g a:aM}{sl:Option (Nat×Nat)}(hi:i∈L)(hg:gs[i]? =some g)(mU:g.status=.running)(ha:gs[0]? =some (tH pk a))(Bx:a.status=.running)(EM:pk=true->a.offers=none):
  UT P σ L G c N0 w₀ δ T gs w q f tag pk a sl i:=by
 have EJ:i≠0:=λe=>C.fr.jh (e▸hi);have OD:(i==0)=false:=by rw[Sb];exact EJ
 have du:i<gs.size:=(gV.1 hg).1;have OJ:=C.OH;obtain⟨g₁,Z9,hW⟩:=C.wk i hi;obtain rfl:g₁=g:=bR (Z9.symm.trans hg);have go:∀ {g':aM} {w':World} {es:Array Event} {n':Nat} {ws:WS} {x' y':Value},stepG P false g₁ w=.go g' w' es->WG G w₀ x' y' w'->(g'.status=.running\/g'.status=.finished)->
   Px σ.rd σ.lo σ.sh w.heap.size (Knows (T++MemOp.ofEvents i g₁.frame.fn g₁.frame.place es) 0) (T++MemOp.ofEvents i g₁.frame.fn g₁.frame.place es)->Ss P σ G c N0 (T++MemOp.ofEvents i g₁.frame.fn g₁.frame.place es) i n' g' ws->n'<f i->
   (∀ lG:Bool,(lG=true->pk=true)->(mayWake P g₁=true->lG=false)->Md L (upd D i ws) tag x' y' lG)->UT P σ L G c N0 w₀ δ T gs w q f tag pk a sl i:=by
  intro g' w' es n' ws x' y' h1 h2 h3 h4 h5 h6 h7;obtain⟨fT,lG,r1,r2,r3,r4,r5,r6,r7⟩:=C.put (sl:=sl) hi hg h1 h2 h3 h4 h5 h6 ha Bx EM;exact⟨fT,_,w',_,_,_,_,lG,r1,r2,r3,r4,r6,h7 lG r4 r5,r7⟩
 have OK:∀ {es:Array Event},(∀ e∈es,e.mute=true)->Px σ.rd σ.lo σ.sh w.heap.size (Knows (T++MemOp.ofEvents i g₁.frame.fn g₁.frame.place es) 0) (T++MemOp.ofEvents i g₁.frame.fn g₁.frame.place es):=λhm=>
  C.fr.px.mute (λi=>Knows.app _) (λop cG=>by obtain⟨e,he,rfl⟩:=Conc.mem_ofEvents cG;exact touch_mute (hm e he)) (λop cG ad ea=>by obtain⟨e,he,rfl⟩:=Conc.mem_ofEvents cG;exact absurd ea (yL (hm e he) ad)) (e8 _) (λop cG=>by obtain⟨e,he,rfl⟩:=Conc.mem_ofEvents cG;exact low_mute (hm e he) _)
 have px0:Px σ.rd σ.lo σ.sh w.heap.size (Knows (T++MemOp.ofEvents i g₁.frame.fn g₁.frame.place #[]) 0) (T++MemOp.ofEvents i g₁.frame.fn g₁.frame.place #[]):=OK (λe he=>by simp at he);cases AP:D i with
 |qt=>
  rw[AP]at hW;obtain⟨hq,r,hR⟩:=hW;cases Zj:f i with
  |zero=>rw[Zj]at hq;rw[hq.1]at mU;cases mU
  |succ k=>
   rw[Zj]at hq;rcases hq with⟨hf,_⟩|⟨_,g',es,hm,mF,AN⟩
   ·rw[hf]at mU;cases mU
   refine go (ws:=.qt) (mF w) C.wg AN.status (OK hm) ⟨by rw[Deaf_own];exact AN,r,hR.still λop cG=>by obtain⟨e,he,rfl⟩:=Conc.mem_ofEvents cG;exact touch_mute (hm e he)⟩ ai λlG hp _=>?_;exact M.same C.nd hi (by rw[AP];exact trivial) trivial (by rw[AP]) (λ_=>rfl) hp
 |app=>
  rw[AP]at hW;obtain⟨s,cw,z0,z1,k,hs,sQ,Zj,nq,Nu,AF⟩:=hW;have sO:=C.loose i hi;have RO:=C.fr.mem i s hs;have o9:On P false s g₁\/∃ k' g' es d,k=k'+1/\stepG P false g₁ w=.go g' (w.at d) es/\(∀ e∈es,ZW s e)/\Way P false s k' g':=by
   cases k with
   |zero=>exact .inl nq
   |succ k'=>
    rcases nq with Oo|⟨_,qy⟩
    ·exact .inl Oo
    ·obtain⟨g',es,d,h1,h2,h3⟩:=qy w RO;exact .inr ⟨k',g',es,d,rfl,h1,h2,h3⟩
  have OL:∀ lG:Bool,(lG=true->pk=true)->∀ ws:WS,ws.opn->ws.cnt=1->Md L (upd D i ws) tag x y lG:=λlG hp ws h1 h2=>
   M.same C.nd hi (by rw[AP];exact trivial) h1 (by rw[AP,h2];rfl) (λe=>by rw[AP]at e;cases e) hp
  rcases o9 with yM|⟨k',g',es,d,rfl,hgo,ya,Zg⟩
  ·
   obtain⟨rr,hrr,_,_,_,_,es,ya,mF⟩:=id yM;obtain⟨cN,hr,hl,tF,hd⟩:=uN (i:=i) (fn:=g₁.frame.fn) (pos:=g₁.frame.place) RO ya;have JX:∀ r,partners (gs.setIfInBounds i ph) r true=[]:=λr=>partners_nil λj v hv=>by
    rcases getElem?_stand gs i j v hv with⟨_,rfl⟩|⟨_,qK⟩
    ·exact offersAt_ph _ _
    ·by_cases hj:j=0
     ·subst hj;rw[ha]at qK;obtain rfl:=bR qK;exact wW Bx EM r true
     ·exact C.fr.noSend hj qK r
   obtain⟨kc,hkc⟩:=C.shut;obtain⟨cw',z0',z1',kw,aaa,hkw⟩:=C.cw i s hi hs;obtain⟨rfl,rfl⟩:cw=cw'/\z0=z0':=by rw[sQ]at aaa;have:=congrArg (·[0]?) aaa;simp[rcase]at this;exact this
   have ho:∀ (m:Nat) (c':CommCase),m≠1->s.cases[m]? =some c'->NoWays w (gs.setIfInBounds i ph) c':=by
    intro m c' hm kI;rw[sQ]at kI;rcases m with _|_|m
    ·simp at kI;subst kI;exact ways_recv_none hkw (JX _)
    ·exact absurd rfl hm
    ·simp at kI
   have wX:s.cases[1]? =some (rcase c z1):=by rw[sQ];rfl
   have G5:=crowd_sel_recv_closed (P:=P) (sl:=sl) hg (by rw[OD];exact mF w RO) wX ho hkc (JX _);rw[finishComm_served,show((1:Nat):Int)=(1:Int)from rfl]at G5;have UU:∀ op∈MemOp.ofEvents i g₁.frame.fn g₁.frame.place es++#[{g:=i,fn:=rr.frame.fn,pos:=rr.frame.place,act:=.recvClosed c}],op.g=i:=λop cG=>by
    rcases VZ.1 cG with h|h
    ·exact cN op h
    ·simp only[pW,fR,m6,gm]at h;subst h;rfl
   have hDf:Deaf (T++(MemOp.ofEvents i g₁.frame.fn g₁.frame.place es++#[{g:=i,fn:=rr.frame.fn,pos:=rr.frame.place,act:=.recvClosed c}])) i=0:=by
    rw[<- Hf,Deaf_quiet (λop cG d=>by simp only[pW,fR,m6,gm]at cG;subst cG;rfl),hd T,Nu]
   have Wj:c<w.heap.size:=(gV.1 hkc).1;have p1:=C.fr.px.reads (K':=Knows (T++MemOp.ofEvents i g₁.frame.fn g₁.frame.place es) 0) (λi=>Knows.app _) sO cN (λop cG b hb=>⟨(hr op cG b hb).1,⟨s,hs,(hr op cG b hb).2⟩,C.fr.uM i s _ hs (hr op cG b hb).2⟩) (λop cG ad ea=>absurd ea (tF op cG ad)) (e8 _) hl;have p2:=p1.mute (u:=#[{g:=i,fn:=rr.frame.fn,pos:=rr.frame.place,act:=.recvClosed c}]) (K':=Knows (T++MemOp.ofEvents i g₁.frame.fn g₁.frame.place es++#[{g:=i,fn:=rr.frame.fn,pos:=rr.frame.place,act:=.recvClosed c}]) 0) (λi=>Knows.app _) (λop cG=>by
     simp only[pW,fR,m6,gm]at cG;subst cG;rfl) (λop cG ad ea=>by
     simp only[pW,fR,m6,gm]at cG;subst cG;cases ea) (e8 _) (λop cG=>by
     simp only[pW,fR,m6,gm]at cG;subst cG;exact Wj)
   rw[Hf]at p2;have mO:(gs.setIfInBounds i (Conc.served rr (commResult s.cases s.shape 1 z1 false)))[i]? =some (Conc.served rr (commResult s.cases s.shape 1 z1 false)):=j7 du;have Ov:∀ v,v≠i->(gs.setIfInBounds i (Conc.served rr (commResult s.cases s.shape 1 z1 false)))[v]? =gs[v]? :=λv hv=>gK (λe=>hv e.symm);have Hl:iR (upd f i N0) L+f i=iR f L+N0:=uO f N0 id C.nd hi;refine⟨_,_,w,upd D i (.cl .rel),upd f i N0,x,y,pk,G5,by simp,by rw[Ov 0 (jl EJ)];exact ha,id,?_,OL pk id _ trivial rfl,ai⟩;refine⟨C.fr.Z4 hi du rfl (λ_ _ h _=>h) (λ_ _ _ _ _ h=>h) (by simp) (λv hv _=>Ov v hv) mO (.inl rfl) UU p2,C.ok,C.nd,C.len,λj hj=>?_,C.shut,C.cw,C.loose,C.wg,C.yR,C.G7⟩;by_cases e:j=i
   ·subst e;exact⟨_,mO,by rw[upd_same,upd_same];exact⟨AF rr hrr,hDf,λh=>absurd rfl h⟩⟩
   ·obtain⟨gj,h1,h2⟩:=C.wk j hj;refine⟨gj,by rw[Ov j e];exact h1,?_⟩;rw[upd_ne f N0 e,upd_ne D (.cl .rel) e];exact h2.other UU (λz=>e z.symm)
  ·obtain⟨cN,hr,hl,tF,hd⟩:=uN (i:=i) (fn:=g₁.frame.fn) (pos:=g₁.frame.place) RO ya;refine go (ws:=.app) hgo (C.wg.at d) (.inl (Way.running ⟨w,RO⟩ Zg)) ?_ ⟨s,cw,z0,z1,k',hs,sQ,rfl,Zg,(hd T).trans Nu,AF⟩ ai λlG hp _=>OL lG hp _ trivial rfl;exact C.fr.px.reads (λi=>Knows.app _) sO cN (λop cG b hb=>⟨(hr op cG b hb).1,⟨s,hs,(hr op cG b hb).2⟩,C.fr.uM i s _ hs (hr op cG b hb).2⟩) (λop cG ad ea=>absurd ea (tF op cG ad)) (e8 _) hl
 |cl st=>
  rw[AP]at hW;obtain⟨AF,Nu,q6⟩:=hW;cases Zj:f i with
  |zero=>rw[Zj]at AF;exact AF.elim
  |succ n=>
   rw[Zj]at AF;obtain⟨_,AF⟩:=AF;rcases AF with⟨g',mF,mh⟩|AF
   ·
    refine go (ws:=.cl st) (mF w C.wg.gs) C.wg (.inl mh.running) px0 ⟨mh,by rw[Deaf_own];exact Nu,λh=>let⟨r,hR⟩:=q6 h;⟨r,hR.still λop cG=>by obtain⟨e,he,_⟩:=Conc.mem_ofEvents cG;simp at he⟩⟩ ai λlG hp _=>?_;have eu:upd D i (.cl st)=D:=by
     funext j
     by_cases e:j=i
     ·subst e;rw[upd_same,AP]
     ·rw[upd_ne D _ e]
    rw[eu];cases M with
    |opn ht hD=>
     have:lG=false:=by cases lG with
      |false=>rfl
      |true=>exact absurd (hp rfl) (by simp)
     subst this;exact .opn ht hD
    |reg hD h=>exact .reg hD h
    |sP j hj hx ho=>exact .sP j hj hx ho
    |tI j hj hx ho=>exact .tI j hj hx ho
    |sema ho=>
     have:lG=false:=by cases lG with
      |false=>rfl
      |true=>exact absurd (hp rfl) (by simp)
     subst this;exact .sema ho
    |fin ht ho=>
     have:lG=false:=by cases lG with
      |false=>rfl
      |true=>exact absurd (hp rfl) (by simp)
     subst this;exact .fin ht ho
   ·have yS:st≠ .rel->∃ r,o8 σ.sh G.st T i r:=q6;cases st with
    |rel=>
     obtain⟨g',mF,mh⟩:=AF;have Eg:Deaf T i=0:=Nu;refine go (ws:=.cl .yb) (mF w) C.wg (.inl mh.running) (C.JS rfl (λad=>by simp) OJ) ⟨mh,by rw[Deaf_own,Eg];rfl,λ_=>⟨T.size,?_⟩⟩ ai λlG hp _=>M.same C.nd hi (by rw[AP];exact trivial) trivial (by rw[AP];rfl) (λe=>by rw[AP]at e;cases e) hp;have e1:MemOp.ofEvents i g₁.frame.fn g₁.frame.place #[AE (.releaseMerge G.st)]=#[{g:=i,fn:=g₁.frame.fn,pos:=g₁.frame.place,act:=.mark (.releaseMerge G.st)}]:=by rw[ofEvents_eq];simp[MemAct.ofEvent]
     rw[e1];exact o8.new rfl rfl Eg
    |yb=>
     obtain⟨g',mF,mh⟩:=AF;have Eg:Deaf T i=0:=Nu;obtain⟨r,hR⟩:=yS (by simp);exact go (ws:=.cl .add) (mF w) C.wg (.inl mh.running) (C.JS rfl (λad=>by simp) trivial) ⟨mh,by rw[Deaf_own,Eg];rfl,λ_=>⟨r,hR.still λop cG=>by obtain⟨e,he,rfl⟩:=Conc.mem_ofEvents cG;simp only[pW,fR,m6,gm]at he;subst he;rfl⟩⟩ ai
      λlG hp _=>M.same C.nd hi (by rw[AP];exact trivial) trivial (by rw[AP];rfl) (λe=>by rw[AP]at e;cases e) hp
    |add=>
     obtain⟨g',mF,mh,UW⟩:=AF;have wY:Deaf T i=1:=Nu;obtain⟨r,hR⟩:=yS (by simp);obtain⟨aab,hV1,aac⟩:=M.Wi hi (by rw[AP];rfl);have hV4:V L D<=4:=Lh (JR (λi=>Wh _) L) C.len;obtain⟨v,hv⟩:∃ v,V L D=v+1:=⟨V L D-1,ai⟩;have px:=C.yc (i:=i) (fn:=g₁.frame.fn) (pos:=g₁.frame.place) wY (JU C.yR) (λe he ad=>by
      simp only[pW,fR,m6,gm]at he;rcases he with rfl|rfl<;>simp[MemAct.ofEvent]) (λe he=>by
      simp only[pW,fR,m6,gm]at he;rcases he with rfl|rfl<;>exact OJ)
     have Zi:Deaf (T++MemOp.ofEvents i g₁.frame.fn g₁.frame.place #[ar G.st,aw G.st]) i=1:=by rw[Deaf_own,wY];rfl
     have hVq:V L (upd D i .qt)=v:=by have:=OE (D:=D) C.nd hi .qt;rw[AP]at this;simp only[WS.cnt]at this;omega
     have hVl:V L (upd D i (.cl .ld))=v:=by have:=OE (D:=D) C.nd hi (.cl .ld);rw[AP]at this;simp only[WS.cnt]at this;omega
     have aad:∀ j∈L,(upd D i .qt j).opn:=λj hj=>by
      by_cases e:j=i
      ·subst e;rw[upd_same];exact trivial
      ·rw[upd_ne D _ e];exact aab j hj
     rcases aac with⟨ht,rfl,rfl,rfl⟩|⟨rfl,rfl,rfl⟩
     ·have dI:w.cell? G.st=some (mH (v+1) 0):=by rw[C.wg.UQ C.ok,hv]
      have hq:=UW v 0 ai ai ai;refine go (ws:=.qt) (mF w v 0 ai ai dI C.wg.fst) (C.wg.setSt C.ok _) hq.status px ⟨by rw[Zi];exact hq,r,hR.atom wY (JU C.yR)⟩ ai λlG hp _=>?_;have:lG=false:=by cases lG with
       |false=>rfl
       |true=>exact absurd (hp rfl) (by simp)
      subst this;have hx:=Md.opn (L:=L) (D:=upd D i .qt) (tag:=tag) (by rw[hVq];exact CY ai ht) aad
      rwa[hVq]at hx
     ·have dI:w.cell? G.st=some (mH (v+1) 1):=by rw[C.wg.UQ C.ok,hv]
      by_cases h0:v=0
      ·subst h0;refine go (ws:=.cl .ld) (mF w 0 1 ai ai dI C.wg.fst) (C.wg.setSt C.ok _) (.inl mh.running) px ⟨mh,Zi,λ_=>⟨r,hR.atom wY (JU C.yR)⟩⟩ ai λlG hp _=>?_;refine .sP i hi (.inl (by rw[upd_same])) λj hj eV=>?_;rw[upd_ne D _ eV];have:=vT hVl j hj;simp only[upd_ne D (.cl .ld) eV]at this;exact JV (aab j hj) this
      ·have hq:=UW v 1 ai ai ai;refine go (ws:=.qt) (mF w v 1 ai ai dI C.wg.fst) (C.wg.setSt C.ok _) hq.status px ⟨by rw[Zi];exact hq,r,hR.atom wY (JU C.yR)⟩ ai λlG hp _=>?_;have hx:=Md.reg (L:=L) (D:=upd D i .qt) (pk:=lG) aad (by rw[hVq];omega)
       rwa[hVq]at hx
    |ld=>
     obtain⟨g',mF,mh⟩:=AF;have wY:Deaf T i=1:=Nu;obtain⟨r,hR⟩:=yS (by simp);obtain⟨rfl,rfl,rfl,ho⟩:=M.JW hi (.inl AP);refine go (ws:=.cl .Nt) (mF w (C.wg.UQ C.ok)) C.wg (.inl mh.running) (C.yc wY (Z6 C.yR) (λe he ad=>?_) (λe he=>?_)) ⟨mh,by rw[Deaf_own,wY];rfl,λ_=>⟨r,hR.atom wY (Z6 C.yR)⟩⟩ ai λlG hp _=>?_
     ·simp only[pW,fR,m6,gm]at he;subst he;simp[MemAct.ofEvent]
     ·simp only[pW,fR,m6,gm]at he;subst he;exact OJ
     ·exact .sP i hi (.inr (by rw[upd_same])) λj hj eV=>by rw[upd_ne D _ eV];exact ho j hj eV
    |Nt=>
     obtain⟨g',mF,mh⟩:=AF;have wY:Deaf T i=1:=Nu;obtain⟨r,hR⟩:=yS (by simp);obtain⟨rfl,rfl,rfl,ho⟩:=M.JW hi (.inr AP);refine go (ws:=.cl .Hk) (mF w (C.wg.UQ C.ok) C.wg.fst) (C.wg.setSt C.ok _) (.inl mh.running) (C.yc wY (Z7 C.yR) (λe he ad=>?_) (λe he=>?_)) ⟨mh,by rw[Deaf_own,wY];rfl,λ_=>⟨r,hR.atom wY (Z7 C.yR)⟩⟩ ai λlG hp _=>?_
     ·simp only[pW,fR,m6,gm]at he;subst he;simp[MemAct.ofEvent]
     ·simp only[pW,fR,m6,gm]at he;subst he;exact OJ
     ·exact .tI i hi (by rw[upd_same]) λj hj eV=>by rw[upd_ne D _ eV];exact ho j hj eV
    |Hk=>
     obtain⟨RQ,g',mF,hq⟩:=AF;have wY:Deaf T i=1:=Nu;obtain⟨r,hR⟩:=yS (by simp);obtain⟨rfl,rfl,rfl,ho⟩:=M.Su hi AP;refine go (ws:=.qt) (mF w (C.wg.csm C.ok) C.wg.fsm) (C.wg.setSm C.ok _) hq.status (C.yc wY (OG C.G7) (λe he ad=>?_) (λe he=>?_)) ⟨by rw[Deaf_own,wY];exact hq,r,hR.atom wY (OG C.G7)⟩ ai λlG hp Lo=>?_
     ·simp only[semEvents,pW,fR,m6,gm]at he;rcases he with rfl|rfl|rfl|rfl<;>simp[MemAct.ofEvent]
     ·simp only[semEvents,pW,fR,m6,gm]at he;rcases he with rfl|rfl|rfl|rfl<;>first|exact OJ|trivial
     ·have:lG=false:=Lo RQ;subst this;refine .sema λj hj=>?_;by_cases e:j=i
      ·subst e;rw[upd_same]
      ·rw[upd_ne D _ e];exact ho j hj e
end
end
section
open Go.Conc
open Go.ConcN (sumTo upd sumTo_upd upd_ne upd_same)
section
variable{P:bL}{σ:Gh}{L:List Nat}{G:qT}{c N0:Nat}{w₀:World}{δ:Nat}{T:Trace}{gs:Array aM}{w w':World}{q:Nat->Nat}{D:Nat->WS}{f:Nat->Nat}{x y x' y':Value}{tag:MS}{pk:Bool}
theorem Md.aef(M:Md L D tag x y pk):Md L D tag x y false:=by
 cases M with
 |opn ht hD=>exact .opn ht hD
 |reg hD h=>exact .reg hD h
 |sP j hj hx ho=>exact .sP j hj hx ho
 |tI j hj hx ho=>exact .tI j hj hx ho
 |sema ho=>exact .sema ho
 |fin ht ho=>exact .fin ht ho
theorem Ss.runs(C:CI P σ L G c N0 w₀ δ T gs w q D f x y){i n:Nat}{g:aM}{ws:WS}(H:Ss P σ G c N0 T i n g ws)(h:ws≠ .qt):g.status=.running:=by
 cases ws with
 |app=>obtain⟨s,cw,z0,z1,k,hs,_,_,hw,_⟩:=H;exact Way.running ⟨w,C.fr.mem i s hs⟩ hw
 |cl st=>exact H.1.running
 |qt=>exact absurd rfl h
theorem CI.turn{a:aM}(Bx:a.status=.running):∀ (F:Nat) (T:Trace) (gs:Array aM) (w:World) (q:Nat->Nat) (D:Nat->WS) (f:Nat->Nat) (x y:Value) (pk:Bool) (sl:Option (Nat×Nat)),
  CI P σ L G c N0 w₀ δ T gs w q D f x y->Md L D tag x y pk->gs[0]? =some (tH pk a)->(pk=true->a.offers=none)->sumTo gs.size q+iR f L=F->
  ∃ (N:Nat) (fT:Array aM) (w':World) (qz Oq:Option (Nat×Nat)) (d:Nat) (T':Trace) (q':Nat->Nat) (D':Nat->WS) (f':Nat->Nat) (x' y':Value),runNT P N (crowd gs w sl) T=(.next (crowd fT w' qz),T')/\
   stepT P (crowd fT w' qz)=runT P (crowd fT (w'.at d) Oq) 0/\fT[0]? =some a/\CI P σ L G c N0 w₀ δ T' fT (w'.at d) q' D' f' x' y'/\Md L D' tag x' y' false/\sumTo fT.size q'+iR f' L<=F/\(pk=true->sumTo fT.size q'+iR f' L<F):=by
 intro F
 induction F using Nat.strongRecOn with
 |_ F ih=>
  intro T gs w q D f x y pk sl C M ha EM hF;have yO:∃ (i:Nat) (g:aM),gs[i]? =some g/\g.status=.running:=by
   cases pk with
   |false=>exact⟨0,a,ha,Bx⟩
   |true=>
    have:∃ i∈L,D i≠ .qt:=by
     cases M with
     |reg hD h=>
      obtain⟨i,hi,h1⟩:=EL h;exact⟨i,hi,λe=>by rw[e]at h1;simp[WS.cnt]at h1⟩
     |sP j hj hx ho=>exact⟨j,hj,λe=>by rcases hx with h|h<;>rw[e]at h<;>cases h⟩
     |tI j hj hx ho=>exact⟨j,hj,λe=>by rw[e]at hx;cases hx⟩
    obtain⟨i,hi,eV⟩:=this;obtain⟨g,hg,hW⟩:=C.wk i hi;exact⟨i,g,hg,hW.runs C eV⟩
  have Wk:∀ g∈gs,awake g:=C.fr.awake ha (by cases pk<;>simp[tH,Bx]);obtain⟨i,g,d',qz,hi,hg,dI⟩:=crowd_pick (P:=P) (w:=w) (sl:=sl) Wk yO;have Cd:=C.at d';by_cases e:i=0
  ·subst e;have:pk=false:=by
    cases pk with
    |false=>rfl
    |true=>rw[ha]at hi;obtain rfl:=bR hi;simp[tH]at hg
   subst this;exact⟨0,gs,w,sl,qz,d',T,q,D,f,x,y,rfl,dI,ha,Cd,M,ai,λh=>by cases h⟩
  ·by_cases hL:i∈L
   ·obtain⟨fT,ops,w',D',f',x',y',lG,r1,r2,r3,r4,r5,r6,r7⟩:=Cd.Z8 (sl:=qz) M hL hi hg ha Bx EM;obtain⟨N,Wl,OM,s1,s2,d2,T'',q'',D'',f'',x'',y'',t1,t2,t3,t4,t5,t6,t7⟩:=ih (sumTo fT.size q+iR f' L) (by rw[r2];omega) _ fT w' q D' f' x' y' lG qz r5 r6 r3 (λh=>EM (r4 h)) rfl;refine⟨1+N,Wl,OM,s1,s2,d2,T'',q'',D'',f'',x'',y'',runNT_then (runNT_succ_of (N:=0) rfl (dI.trans r1)) t1,t2,t3,t4,t5,?_,λ_=>?_⟩
    ·rw[r2]at t6;omega
    ·rw[r2]at t6;omega
   ·obtain⟨fT,ops,q',d₂,G5,tG,aaf,ra,cN,_,_,C',du⟩:=Cd.fr.EI (sl:=qz) hi e hL hg (λs _ _ gx c xI _=>by rw[ha]at xI;obtain rfl:=bR xI;exact wW Bx EM c true);obtain⟨lG,Eh,CZ⟩:∃ lG:Bool,fT[0]? =some (tH lG a)/\(lG=true->pk=true):=by
     rcases aaf _ ha with h|⟨w',_,h⟩
     ·exact⟨pk,h,id⟩
     ·exact⟨false,by rw[h,Bw Bx EM];rfl,λz=>by cases z⟩
    have M':Md L D tag x y lG:=by
     cases lG with
     |false=>exact M.aef
     |true=>have:=CZ rfl;subst this;exact M
    have C2:CI P σ L G c N0 w₀ δ (T++ops) fT ((w.at d').at d₂) q' D f x y:=
     ⟨C',C.ok,C.nd,C.len,λj hj=>by obtain⟨gj,h1,h2⟩:=C.wk j hj;exact⟨gj,by rw[ra j hj];exact h1,h2.other cN (λz=>hL (z▸hj))⟩,C.shut,C.cw,C.loose,C.wg.at d₂,C.yR,C.G7⟩
    obtain⟨N,Wl,OM,s1,s2,d2,T'',q'',D'',f'',x'',y'',t1,t2,t3,t4,t5,t6,t7⟩:=ih (sumTo fT.size q'+iR f L) (by rw[tG];omega) _ fT _ q' D f x y lG qz C2 M' Eh (λh=>EM (CZ h)) rfl;refine⟨1+N,Wl,OM,s1,s2,d2,T'',q'',D'',f'',x'',y'',runNT_then (runNT_succ_of (N:=0) rfl (dI.trans G5)) t1,t2,t3,t4,t5,?_,λ_=>?_⟩
    ·rw[tG]at t6;omega
    ·rw[tG]at t6;omega
def EvM(G:qT)(e:Event):Prop:=(∃ m,e=AE m/\(MemAct.ofEvent e).touch?=none/\(∀ ad,m≠ .release ad)/\∀ B,G.blk<B->(MemAct.ofEvent e).low B)\/e=AE (.write G.sm)\/e=ar G.st\/e=aw G.st\/e=ar G.sm\/e=aw G.sm
theorem CI.aag(C:CI P σ L G c N0 w₀ δ T gs w q D f x y){es:Array Event}(np:WG G w₀ x' y' w')(ya:∀ e∈es,EvM G e):qA σ w w' es:=by
 have hsz:w'.heap.size=w.heap.size:=by rw[np.size,C.wg.size]
 refine⟨ai,λr o h1 h2=>C.wg.US np h1 h2,λi s p e hp h1=>by rw[C.wg.UR np (C.CX e hp).1 (C.CX e hp).2];exact h1,λe he=>?_⟩;have hb:G.blk<w'.heap.size:=by rw[hsz];exact C.OH
 have vQ:∀ i,¬ σ.rd i (.cell G.st):=λi ⟨s,e,h⟩=>C.fr.uM i s _ e h C.yR;have hrm:∀ i,¬ σ.rd i (.cell G.sm):=λi ⟨s,e,h⟩=>C.fr.uM i s _ e h C.G7;rcases ya e he with⟨m,rfl,h1,h2,h3⟩|rfl|rfl|rfl|rfl|rfl
 ·exact⟨λb oG=>(by rw[h1]at oG;cases oG),λad ea=>absurd (MemAct.mark.inj ea) (h2 ad),h3 _ hb⟩
 ·refine⟨λb oG=>?_,(λad ea=>by cases ea),hb⟩;simp only[MemAct.ofEvent,MemAct.touch?,wP]at oG;subst oG;exact⟨λ_=>hrm,λ_=>by simp⟩
 ·refine⟨λb oG=>?_,(λad ea=>by cases ea),hb⟩;simp only[MemAct.ofEvent,MemAct.touch?,wP]at oG;subst oG;exact⟨λ_=>vQ,λ_=>by simp⟩
 ·refine⟨λb oG=>?_,(λad ea=>by cases ea),hb⟩;simp only[MemAct.ofEvent,MemAct.touch?,wP]at oG;subst oG;exact⟨λ_=>vQ,λ_=>by simp⟩
 ·refine⟨λb oG=>?_,(λad ea=>by cases ea),hb⟩;simp only[MemAct.ofEvent,MemAct.touch?,wP]at oG;subst oG;exact⟨λ_=>hrm,λ_=>by simp⟩
 ·refine⟨λb oG=>?_,(λad ea=>by cases ea),hb⟩;simp only[MemAct.ofEvent,MemAct.touch?,wP]at oG;subst oG;exact⟨λ_=>hrm,λ_=>by simp⟩
theorem CI.ao(C:CI P σ L G c N0 w₀ δ T gs w q D f x y){a a':aM}{es:Array Event}{sl:Option (Nat×Nat)}(ha:gs[0]? =some a)(hgo:stepG P true a w=.go a' w' es)(np:WG G w₀ x' y' w')(ya:∀ e∈es,EvM G e):
  ∃ (fT:Array aM) (ops:Array MemOp),runT P (crowd gs w sl) 0=(.next (crowd fT w' sl),ops)/\fT.size=gs.size/\fT[0]? =some a'/\CI P σ L G c N0 w₀ (deafBehind δ es) (T++ops) fT w' q D f x' y':=by
 have du:0<gs.size:=(gV.1 ha).1;have ho:=C.aag np ya;obtain⟨C',Nr⟩:=C.fr.own (a:=a) (a':=a') (fn:=a.frame.fn) (pos:=a.frame.place) du ho;have cN:∀ op∈MemOp.ofEvents 0 a.frame.fn a.frame.place es,op.g=0:=λop cG=>by obtain⟨e,_,rfl⟩:=Conc.mem_ofEvents cG;rfl
 refine⟨_,_,runT_crowd_go (P:=P) (sl:=sl) ha (by simpa using hgo),by simp,Nr,C',C.ok,C.nd,C.len,λj hj=>?_,?_,λj s hj e=>?_,C.loose,np,C.yR,C.G7⟩
 ·obtain⟨gj,h1,h2⟩:=C.wk j hj;have Nv:j≠0:=λe=>C.fr.jh (e▸hj);refine⟨gj,?_,h2.other cN (λz=>Nv z.symm)⟩;rw[gK (λz=>Nv z.symm),Et,h1];simp[woken_of_again (again_running w' (C.fr.xH j gj hj h1))]
 ·obtain⟨k,hk⟩:=C.shut;exact⟨k,ho.chans _ _ hk rfl⟩
 ·obtain⟨cw,z0,z1,k,h1,h2⟩:=C.cw j s hj e;exact⟨cw,z0,z1,k,h1,ho.chans _ _ h2 rfl⟩
def Gh.gX(σ:Gh)(L:List Nat):Gh:={n:=σ.n,aQ:=λi=>if i∈L then none else σ.aQ i,sh:=σ.sh,bot:=σ.bot}
def aah:MS->Nat
 |.yb _|.acq=>0
 |_=>1
def iB(P:bL)(σ:Gh)(L:List Nat)(G:qT)(w₀:World)(Fin:aM->Prop)(m:Machine)(T:Trace):Prop:=
 ∃ (N:Nat) (fT:Array aM) (w':World) (qz:Option (Nat×Nat)) (T':Trace) (q':Nat->Nat) (a':aM),runNT P N m T=(.next (crowd fT w' qz),T')/\fT[0]? =some a'/\Fin a'/\Fr P (σ.gX L) (λ_=>False) 0 0 T' fT w' q'/\WG G w₀ (mH 0 0) (s6 0) w'
theorem iB.of{Fin:aM->Prop}{N:Nat}{m m':Machine}{T T':Trace}(h:runNT P N m T=(.next m',T'))(k:iB P σ L G w₀ Fin m' T'):iB P σ L G w₀ Fin m T:=by obtain⟨N',fT,w',qz,T'',q',a',h1,h2⟩:=k;exact⟨N+N',fT,w',qz,T'',q',a',runNT_then h h1,h2⟩
theorem Wm(h0:V L D=0)(hD:∀ i∈L,(D i).opn):∀ i∈L,D i=.qt:=λi hi=>JV (hD i hi) (vT h0 i hi)
def early:MS->Bool
 |.yb _|.head _|.Sr _=>true
 |_=>false
theorem Md.C3{tag:MS}(M:Md L D tag x y pk)(ht:early tag=true):se (V L D) tag/\(∀ i∈L,(D i).opn)/\x=mH (V L D) 0/\y=s6 0:=by
 cases M with
 |opn ht hD=>exact⟨ht,hD,rfl,rfl⟩
 |reg=>cases ht
 |sP=>cases ht
 |tI=>cases ht
 |sema=>cases ht
 |fin h=>rcases h with rfl|rfl|rfl<;>cases ht
theorem Md.fin_inv{tag:MS}(M:Md L D tag x y pk)(ht:tag=.last\/tag=.OC\/tag=.acq):(∀ i∈L,D i=.qt)/\x=mH 0 0/\y=s6 0:=by
 cases M with
 |opn h hD=>rcases ht with rfl|rfl|rfl<;>exact h.elim
 |reg=>rcases ht with h|h|h<;>cases h
 |sP=>rcases ht with h|h|h<;>cases h
 |tI=>rcases ht with h|h|h<;>cases h
 |sema=>rcases ht with h|h|h<;>cases h
 |fin _ ho=>exact⟨ho,rfl,rfl⟩
theorem Wn{e:Event}(h:EvM G e):∀ z∈#[e],EvM G z:=λz hz=>by simp only[pW,fR,m6,gm]at hz;subst hz;exact h
theorem ON:EvM G (AE .disable):=.inl ⟨_,rfl,rfl,λ_=>by simp,λ_ _=>trivial⟩
theorem OO:EvM G (AE .enable):=.inl ⟨_,rfl,rfl,λ_=>by simp,λ_ _=>trivial⟩
theorem Wo:EvM G (AE (.acquire G.st)):=.inl ⟨_,rfl,rfl,λ_=>by simp,λ_ h=>h⟩
theorem Lp{Fin:aM->Prop}{tag:MS}{a:aM}(hm:MW P G Fin tag a):∀ (T:Trace) (gs:Array aM) (w:World) (q:Nat->Nat) (D:Nat->WS) (f:Nat->Nat) (x y:Value) (sl:Option (Nat×Nat)),
  CI P σ L G c N0 w₀ (aah tag) T gs w q D f x y->Md L D tag x y false->gs[0]? =some a->iB P σ L G w₀ Fin (crowd gs w sl) T:=by
 induction hm with
 |@mute tag g g' hs h k ih=>
  intro T gs w q D f x y sl C M ha;obtain⟨N,vU,w1,s1,s2,d,T1,q1,D1,f1,x1,y1,t1,t2,t3,t4,t5,_,_⟩:=CI.turn hs _ T gs w q D f x y false sl C M ha (λz=>by cases z) rfl;obtain⟨xK,ops,r1,_,r3,r4⟩:=t4.ao (sl:=s2) t3 (h _ t4.wg.gs) t4.wg (λe he=>by simp at he);exact iB.of (runNT_succ_of t1 (t2.trans r1)) (ih _ xK _ q1 D1 f1 x1 y1 s2 r4 t5 r3)
 |@yb c' g g' hs h k ih=>
  intro T gs w q D f x y sl C M ha;obtain⟨N,vU,w1,s1,s2,d,T1,q1,D1,f1,x1,y1,t1,t2,t3,t4,t5,_,_⟩:=CI.turn hs _ T gs w q D f x y false sl C M ha (λz=>by cases z) rfl;obtain⟨xK,ops,r1,_,r3,r4⟩:=t4.ao (sl:=s2) t3 (h _) t4.wg (Wn ON);obtain⟨h1,h2,rfl,rfl⟩:=t5.C3 rfl;exact iB.of (runNT_succ_of t1 (t2.trans r1)) (ih _ xK _ q1 D1 f1 _ _ s2 r4 (.opn h1 h2) r3)
 |@load c' g fv hs h k0 k ih0 ih=>
  intro T gs w q D f x y sl C M ha;obtain⟨N,vU,w1,s1,s2,d,T1,q1,D1,f1,x1,y1,t1,t2,t3,t4,t5,_,_⟩:=CI.turn hs _ T gs w q D f x y false sl C M ha (λz=>by cases z) rfl;obtain⟨h1,h2,rfl,rfl⟩:=t5.C3 rfl;obtain⟨xK,ops,r1,_,r3,r4⟩:=t4.ao (sl:=s2) t3 (h _ (V L D1) h1 (t4.wg.UQ t4.ok)) t4.wg (Wn (.inr (.inr (.inl rfl))));by_cases h0:V L D1=0
  ·rw[h0]at r3 r4;exact iB.of (runNT_succ_of t1 (t2.trans r1)) (ih0 _ xK _ q1 D1 f1 _ _ s2 r4 (.fin (.inr (.inl rfl)) (Wm h0 h2)) r3)
  ·exact iB.of (runNT_succ_of t1 (t2.trans r1)) (ih (V L D1) ai h1 _ xK _ q1 D1 f1 _ _ s2 r4 (.opn ⟨e8 _,ai⟩ h2) r3)
 |@Sr v g g1 g2 hs h1 h2 k1 k2 Lq yd=>
  intro T gs w q D f x y sl C M ha;obtain⟨N,vU,w1,s1,s2,d,T1,q1,D1,f1,x1,y1,t1,t2,t3,t4,t5,_,_⟩:=CI.turn hs _ T gs w q D f x y false sl C M ha (λz=>by cases z) rfl;obtain⟨e1,e2,rfl,rfl⟩:=t5.C3 rfl;obtain⟨hle,qV⟩:=e1;by_cases hv:V L D1=v
  ·have hc:(w1.at d).cell? G.st=some (mH v 0):=by rw[<- hv];exact t4.wg.UQ t4.ok
   obtain⟨xK,ops,r1,_,r3,r4⟩:=t4.ao (sl:=s2) t3 (h1 _ hc t4.wg.fst) (t4.wg.setSt t4.ok (mH v 1)) (λe he=>by
    simp only[pW,fR,m6,gm]at he;rcases he with rfl|rfl
    ·exact .inr (.inr (.inl rfl))
    ·exact .inr (.inr (.inr (.inl rfl))))
   refine iB.of (runNT_succ_of t1 (t2.trans r1)) (Lq _ xK _ q1 D1 f1 _ _ s2 r4 ?_ r3);rw[<- hv];exact .reg e2 ai
  ·obtain⟨xK,ops,r1,_,r3,r4⟩:=t4.ao (sl:=s2) t3 (h2 _ (V L D1) ai (t4.wg.UQ t4.ok) t4.wg.fst) t4.wg (Wn (.inr (.inr (.inl rfl))));exact iB.of (runNT_succ_of t1 (t2.trans r1)) (yd _ xK _ q1 D1 f1 _ _ s2 r4 (.opn (show _<=_ by omega) e2) r3)
 |@said g g' hs h k ih=>
  intro T gs w q D f x y sl C M ha;obtain⟨N,vU,w1,s1,s2,d,T1,q1,D1,f1,x1,y1,t1,t2,t3,t4,t5,_,_⟩:=CI.turn hs _ T gs w q D f x y false sl C M ha (λz=>by cases z) rfl;obtain⟨xK,ops,r1,_,r3,r4⟩:=t4.ao (sl:=s2) t3 (h _) t4.wg (Wn (.inr (.inl rfl)));exact iB.of (runNT_succ_of t1 (t2.trans r1)) (ih _ xK _ q1 D1 f1 x1 y1 s2 r4 t5 r3)
 |@Hk g g' hs ho h0 h1 k ih=>
  have key:∀ (F:Nat) (T:Trace) (gs:Array aM) (w:World) (q:Nat->Nat) (D:Nat->WS) (f:Nat->Nat) (x y:Value) (pk:Bool) (sl:Option (Nat×Nat)),
    CI P σ L G c N0 w₀ 1 T gs w q D f x y->Md L D .reg x y pk->gs[0]? =some (tH pk g)->sumTo gs.size q+iR f L+(if pk then 0 else 1)=F->iB P σ L G w₀ Fin (crowd gs w sl) T:=by
   intro F
   induction F using Nat.strongRecOn with
   |_ F ihF=>
    intro T gs w q D f x y pk sl C M ha hF;obtain⟨N,vU,w1,s1,s2,d,T1,q1,D1,f1,x1,y1,t1,t2,t3,t4,t5,t6,t7⟩:=CI.turn hs _ T gs w q D f x y pk sl C M ha (λ_=>ho) rfl;have block:y1=s6 0->Md L D1 .reg x1 y1 true->iB P σ L G w₀ Fin (crowd gs w sl) T:=λhy hM=>by
     have OP:(w1.at d).cell? G.sm=some (s6 0):=by rw[<- hy];exact t4.wg.csm t4.ok
     obtain⟨xK,ops,r1,r2,r3,r4⟩:=t4.ao (sl:=s2) t3 (h0 _ OP) t4.wg (λe he=>by simp at he);refine iB.of (runNT_succ_of t1 (t2.trans r1)) (ihF (sumTo xK.size q1+iR f1 L+0) ?_ _ xK _ q1 D1 f1 x1 y1 true s2 r4 hM r3 rfl);rw[r2];cases pk with
     |false=>simp at hF;omega
     |true=>have:=t7 rfl;simp at hF;omega
    cases t5 with
    |opn ht=>exact ht.elim
    |reg hD hV=>exact block rfl (.reg hD hV)
    |sP j hj hx ho=>exact block rfl (.sP j hj hx ho)
    |tI j hj hx ho=>exact block rfl (.tI j hj hx ho)
    |sema hq=>
     obtain⟨xK,ops,r1,r2,r3,r4⟩:=t4.ao (sl:=s2) t3 (h1 _ (t4.wg.csm t4.ok) t4.wg.fsm) (t4.wg.setSm t4.ok (s6 0)) (λe he=>by
      simp only[semEvents,pW,fR,m6,gm]at he;rcases he with rfl|rfl|rfl|rfl
      ·exact ON
      ·exact .inr (.inr (.inr (.inr (.inl rfl))))
      ·exact .inr (.inr (.inr (.inr (.inr rfl))))
      ·exact OO)
     exact iB.of (runNT_succ_of t1 (t2.trans r1)) (ih _ xK _ q1 D1 f1 _ _ s2 r4 (.fin (.inl rfl) hq) r3)
    |fin h=>rcases h with h|h|h<;>cases h
  intro T gs w q D f x y sl C M ha;exact key _ T gs w q D f x y false sl C M ha rfl
 |@last g g' hs h k ih=>
  intro T gs w q D f x y sl C M ha;obtain⟨N,vU,w1,s1,s2,d,T1,q1,D1,f1,x1,y1,t1,t2,t3,t4,t5,_,_⟩:=CI.turn hs _ T gs w q D f x y false sl C M ha (λz=>by cases z) rfl;obtain⟨e1,rfl,rfl⟩:=t5.fin_inv (.inl rfl);obtain⟨xK,ops,r1,_,r3,r4⟩:=t4.ao (sl:=s2) t3 (h _ (t4.wg.UQ t4.ok)) t4.wg (Wn (.inr (.inr (.inl rfl))));exact iB.of (runNT_succ_of t1 (t2.trans r1)) (ih _ xK _ q1 D1 f1 _ _ s2 r4 (.fin (.inr (.inl rfl)) e1) r3)
 |@OC g g' hs h k ih=>
  intro T gs w q D f x y sl C M ha;obtain⟨N,vU,w1,s1,s2,d,T1,q1,D1,f1,x1,y1,t1,t2,t3,t4,t5,_,_⟩:=CI.turn hs _ T gs w q D f x y false sl C M ha (λz=>by cases z) rfl;obtain⟨e1,rfl,rfl⟩:=t5.fin_inv (.inr (.inl rfl));obtain⟨xK,ops,r1,_,r3,r4⟩:=t4.ao (sl:=s2) t3 (h _) t4.wg (Wn OO);exact iB.of (runNT_succ_of t1 (t2.trans r1)) (ih _ xK _ q1 D1 f1 _ _ s2 r4 (.fin (.inr (.inr rfl)) e1) r3)
 |@acq g g' hs h k=>
  intro T gs w q D f x y sl C M ha;obtain⟨N,vU,w1,s1,s2,d,T1,q1,D1,f1,x1,y1,t1,t2,t3,t4,t5,_,_⟩:=CI.turn hs _ T gs w q D f x y false sl C M ha (λz=>by cases z) rfl;obtain⟨e1,rfl,rfl⟩:=t5.fin_inv (.inr (.inr rfl));obtain⟨xK,ops,r1,r2,r3,r4⟩:=t4.ao (sl:=s2) t3 (h _) t4.wg (Wn Wo);have cN:ops=#[{g:=0,fn:=g.frame.fn,pos:=g.frame.place,act:=.mark (.acquire G.st)}]:=by have:=runT_crowd_go (P:=P) (sl:=s2) t3 (show stepG P (0==0) g (w1.at d)=_ from h _);rw[r1]at this;rw[(Li this).2,ofEvents_eq];simp[MemAct.ofEvent]
  refine iB.of (runNT_succ_of t1 (t2.trans r1)) ⟨0,xK,_,s2,_,λi=>if i∈L then f1 i else q1 i,g',rfl,r3,k,?_,r4.wg⟩;have F:=r4.fr;have UM:=t4.fr.px.acquire (I:=λi=>i∈L) (op:={g:=0,fn:=g.frame.fn,pos:=g.frame.place,act:=.mark (.acquire G.st)}) t4.fr.deaf rfl rfl t4.yR t4.OH (λi hi=>by obtain⟨gi,_,hW⟩:=t4.wk i hi;rw[e1 i hi]at hW;exact hW.2)
  rw[<- cN]at UM;have Wp:∀ i s,(σ.gX L).aQ i=some s->σ.aQ i=some s/\i∉L:=λi s e=>by
   simp only[Gh.gX]at e;split at e
   ·cases e
   ·exact⟨e,by assumption⟩
  refine⟨F.cnt,λi v hi _ hv=>?_,λ_ _ z=>z.elim,λz=>z,?_,λi s e=>F.wf i s (Wp i s e).1,λi s e=>F.there i s (Wp i s e).1,λi s c' _ e hc=>F.chans i s c' (Wp i s e).2 (Wp i s e).1 hc,λi s e=>F.mem i s (Wp i s e).1,λi s l e hl=>F.uM i s l (Wp i s e).1 hl,F.above,λi _ hl=>?_,F.deaf,?_⟩
  ·by_cases hL:i∈L
   ·obtain⟨gi,h1,hW⟩:=r4.wk i hL;rw[e1 i hL]at hW;rw[h1]at hv;obtain rfl:=bR hv;simp only[Gh.gX,hL,eN];exact⟨Nat.pos_of_ne_zero hi,hW.1⟩
   ·simp only[Gh.gX,hL,eR];exact F.idle i v hi hL hv
  ·simp only[Gh.gX];split
   ·rfl
   ·exact F.hole
  ·unfold Gh.lo at hl;obtain⟨s,nO⟩:=oC.1 hl;have:=Wp i s nO;exact F.hear i this.2 (by unfold Gh.lo;rw[this.1];rfl)
  ·refine UM.conv (λi=>?_) λi l hi=>?_
   ·unfold Gh.lo;simp only[Gh.gX];by_cases hL:i∈L<;>simp[hL]
   ·unfold Gh.rd;simp only[Gh.gX,hi.2,eR]
end
end
section
open Go.Conc
open Go.ConcN (sumTo upd sumTo_upd upd_ne upd_same)
section
variable{P:bL}{σ:Gh}{L:List Nat}{G:qT}{c N0:Nat}{T:Trace}{gs:Array aM}{w:World}{q:Nat->Nat}
theorem UX(L:List Nat):V L (λ_=>.app)=L.length:=by
 unfold V
 induction L with
 |nil=>rfl
 |cons i l ih=>simp only[iR,jC,WS.cnt]at ih⊢;omega
theorem OQ(a:Array Obj)(b:Nat)(o:Obj)(h:a[b]? =some o):a.setIfInBounds b o=a:=by
 apply sJ;intro i;by_cases e:i=b
 ·subst e;rw[j7 (gV.1 h).1,h]
 ·rw[gK (jl e)]
theorem OR{G:qT}(ok:G.Ok){x y:Value}(h1:G.cs[G.o1]? =some x)(h2:G.cs[G.o2]? =some y):G.row x y=G.cs:=by
 apply sJ;intro i;by_cases e2:i=G.o2
 ·subst e2;rw[Oz ok,h2]
 ·by_cases e1:i=G.o1
  ·subst e1;rw[Oy ok,h1]
  ·rw[vS e1 e2]
theorem Lr{σ:Gh}{w w':World}{c:Nat}(hc:c<w'.heap.size)(hsz:w.heap.size<=w'.heap.size):∀ e∈closeEvents c,(∀ b,(MemAct.ofEvent e).touch?=some b->(b.write=true->∀ i,¬ σ.rd i b.loc)/\(σ.sh b.loc->b.kind≠ .plain))/\(∀ ad,MemAct.ofEvent e=.mark (.release ad)->¬ σ.sh (.cell ad))/\(MemAct.ofEvent e).low w'.heap.size:=by
 intro e he;simp only[closeEvents,pW,fR,m6,gm]at he;rcases he with rfl|rfl
 ·refine⟨λb hb=>?_,(λad ea=>by cases ea),hc⟩;simp only[MemAct.ofEvent,MemAct.touch?,wP]at hb;subst hb;exact⟨λh=>by simp at h,λ_=>by simp⟩
 ·exact⟨λb hb=>(by simp[MemAct.ofEvent,MemAct.touch?]at hb),(λad ea=>by cases ea),hc⟩
theorem Fr.shut{Fin:aM->Prop}(C:Fr P σ (λ_=>False) 0 0 T gs w q){a a':aM}{sl:Option (Nat×Nat)}(ha:gs[0]? =some a)(mU:a.status=.running){k:Nat}(hc:w.heap[c]? =some (.chan 0 #[] false k k false))
  (C4:∀ d,stepG P true a (w.at d)=.go a' ((w.at d).setChan c 0 #[] true k k false) (closeEvents c)) (JY:mayWake P a=true) (Nr:a'.status=.running)
  (nd:L.Nodup) (len:L.length<=4) (hL:∀ i∈L,∃ s cw z0 z1,σ.aQ i=some s/\s.cases=#[rcase cw z0,rcase c z1]/\cw≠c/\∀ r,s.uL r->Cl P G N0 .rel (Conc.served r (commResult s.cases s.shape 1 z1 false)))
  (mg:∀ i s,σ.aQ i=some s->s.has c->i∈L) (ok:G.Ok) (hb:w.heap[G.blk]? =some (.cells G.cs G.ty (0,0))) (h1:G.cs[G.o1]? =some (mH L.length 0)) (h2:G.cs[G.o2]? =some (s6 0)) (yR:σ.sh (.cell G.st)) (G7:σ.sh (.cell G.sm))
  (hm:MW P G Fin (.yb L.length) a'):iB P σ L G (w.setChan c 0 #[] true k k false) Fin (crowd gs w sl) T:=by
 obtain⟨N,vU,d,d',Ny,Sv,T1,q1,t1,t2,t3,t4,C1⟩:=C.picked (sl:=sl) ha mU;have du:0<vU.size:=(gV.1 t4).1;have hgo:stepG P (0==0) a (w.at d')=.go a' ((w.at d').setChan c 0 #[] true k k false) (closeEvents c):=C4 d';have G5:=runT_crowd_go (P:=P) (sl:=Sv) t4 hgo;refine iB.of (runNT_succ_of t1 (t2.trans G5)) ?_;have Sq:(w.at d').heap[c]? =some (.chan 0 #[] false k k false):=hc;have Wj:c<w.heap.size:=(gV.1 hc).1;have AF:((w.at d').setChan c 0 #[] true k k false).heap[c]? =some (.chan 0 #[] true k k false):=heap_setChan_self _ Sq _ _ _ _ _ _;have cN:∀ op∈MemOp.ofEvents 0 a.frame.fn a.frame.place (closeEvents c),op.g=0:=λop cG=>by obtain⟨e,_,rfl⟩:=Conc.mem_ofEvents cG;rfl
 have hbc:G.blk≠c:=λe=>by rw[e,hc]at hb;cases hb
 have UY:∀ i∈L,i≠0:=λi hi e=>by obtain⟨s,_,_,_,hs,_⟩:=hL i hi;rw[e,C.hole]at hs;cases hs
 have UZ:∀ i s c',i∉L->σ.aQ i=some s->s.has c'->c≠c':=λi s c' hi hs kI e=>hi (mg i s hs (e▸kI));have Wq:(a'.status != .blocked)=true:=by rw[Nr];rfl
 have Sw:(a'.status != .waiting)=true:=by rw[Nr];rfl
 have hwk:∀ o:aM,woken P a a' ((w.at d').setChan c 0 #[] true k k false) o=o.again ((w.at d').setChan c 0 #[] true k k false):=λo=>by unfold woken;rw[JY,Wq,Sw];rfl
 have Wc:∀ i v,i≠0->i∉L->vU[i]? =some v->v.again ((w.at d').setChan c 0 #[] true k k false)=v:=λi v hi U0 hv=>by
  have qS:=C1.idle i v hi (λz=>z) hv;cases e:σ.aQ i with
  |none=>rw[e]at qS;exact again_running _ qS.2.status
  |some s=>
   rw[e]at qS;rcases qS with⟨k',hq,hg⟩|⟨_,g₀,rr,rfl,_⟩
   ·exact again_running _ (.inl (Way.running ⟨_,C1.mem i s e⟩ hg))
   ·refine again_all_open λcc lF=>?_;obtain⟨c',z,rfl⟩:=(C1.wf i s e).recvs cc lF;have JP:=dH.has_of_mem lF;obtain⟨k',nP⟩:=C1.chans i s c' (λz=>z) e JP;exact⟨c',z,0,_,k',k',_,rfl,by rw[heap_setChan_ne _ _ _ _ _ _ _ (UZ i s c' U0 e JP)];exact nP⟩
 have jm:∀ i,i≠0->((vU.map (woken P a a' ((w.at d').setChan c 0 #[] true k k false))).setIfInBounds 0 a')[i]? =(vU[i]?).map (λo=>o.again ((w.at d').setChan c 0 #[] true k k false)):=λi hi=>by
  rw[gK (jl hi),Et];cases vU[i]? with
  |none=>rfl
  |some v=>simp[hwk]
 have OS:∀ i∈L,∃ s cw z0 z1 v kk,σ.aQ i=some s/\s.cases=#[rcase cw z0,rcase c z1]/\cw≠c/\(∀ r,s.uL r->Cl P G N0 .rel (Conc.served r (commResult s.cases s.shape 1 z1 false)))/\
   ((vU.map (woken P a a' ((w.at d').setChan c 0 #[] true k k false))).setIfInBounds 0 a')[i]? =some v/\Way P false s kk v/\kk<=q1 i:=λi hi=>by
  obtain⟨s,cw,z0,z1,hs,sQ,eV,mh⟩:=hL i hi;obtain⟨v,hv⟩:∃ v,vU[i]? =some v:=⟨vU[i]'(by have:=C1.there i s hs;omega),Ee _⟩;have qS:=C1.idle i v (UY i hi) (λz=>z) hv;rw[hs]at qS;have OD:(i==0)=false:=by rw[Sb];exact UY i hi
  have hg:=jm i (UY i hi);rw[hv]at hg;rcases qS with⟨k',hq,hw⟩|⟨hq,g₀,rr,rfl,yM⟩
  ·rw[OD]at hw;exact⟨s,cw,z0,z1,v,k',hs,sQ,eV,mh,by rw[hg];simp[again_running _ (.inl (Way.running ⟨_,C1.mem i s hs⟩ hw))],hw,ai⟩
  ·rw[OD]at yM;refine⟨s,cw,z0,z1,{parked rr s.cases s.shape with status:=.running},0,hs,sQ,eV,mh,?_,yM.tries _ _,eW _⟩;rw[hg];simp only[jR,wP];exact again_some_closed (k:=1) (by rw[sQ];rfl) AF
 have dR:∀ i s,σ.aQ i=some s->s.K ((w.at d').setChan c 0 #[] true k k false):=λi s e p hp=>pX Sq (C1.mem i s e p hp) _ _ _ _ _ _;have hfr:Fr P σ (· ∈L) 0 0 (T1++MemOp.ofEvents 0 a.frame.fn a.frame.place (closeEvents c)) ((vU.map (woken P a a' ((w.at d').setChan c 0 #[] true k k false))).setIfInBounds 0 a') ((w.at d').setChan c 0 #[] true k k false) q1:=by
  refine⟨by simpa using C1.cnt,λi v hi U0 hv=>?_,λi v U0 hv=>?_,λz=>UY 0 z rfl,C.hole,C1.wf,λi s e=>by simpa using C1.there i s e,λi s c' U0 e kI=>?_,dR,C1.uM,λj hj=>?_,λi U0 hl=>?_,?_,?_⟩
  ·rw[jm i hi]at hv;obtain⟨v0,Wr,rfl⟩:=G3.1 hv;rw[Wc i v0 hi U0 Wr];have qS:=C1.idle i v0 hi (λz=>z) Wr;cases e:σ.aQ i with
   |none=>rw[e]at qS;exact⟨qS.1,by rw[Deaf_other T1 (λz=>hi z.symm) _ cN];exact qS.2⟩
   |some s=>rw[e]at qS;exact qS
  ·obtain⟨s,cw,z0,z1,v',kk,hs,_,_,_,qK,hw,_⟩:=OS i U0;rw[qK]at hv;obtain rfl:=bR hv;exact .inl (Way.running ⟨_,dR i s hs⟩ hw)
  ·obtain⟨k',nP⟩:=C1.chans i s c' (λz=>z) e kI;exact⟨k',by rw[heap_setChan_ne _ _ _ _ _ _ _ (UZ i s c' U0 e kI)];exact nP⟩
  ·simp only[Lc,Array.size_map]at hj;rw[Deaf_other T1 (g':=0) ai _ cN];exact C1.above j hj
  ·have EJ:i≠0:=λe=>by subst e;unfold Gh.lo at hl;rw[C.hole]at hl;cases hl
   rw[Deaf_other T1 (λz=>EJ z.symm) _ cN];exact C1.hear i (λz=>z) hl
  ·rw[Deaf_own,C1.deaf];rfl
  ·have Sy:=Lr (σ:=σ) (w:=w) (w':=(w.at d').setChan c 0 #[] true k k false) (c:=c) (by rw[mV];exact Wj) (by rw[mV];exact e8 _);refine C1.px.own cN (λop cG b hb=>?_) (λop cG ad ea=>?_) (by rw[mV];exact e8 _) (λop cG=>?_)
   ·obtain⟨e,he,rfl⟩:=Conc.mem_ofEvents cG;exact⟨λhw g _=>(((Sy e he).1 b hb).1 hw g),((Sy e he).1 b hb).2⟩
   ·obtain⟨e,he,rfl⟩:=Conc.mem_ofEvents cG;exact(Sy e he).2.1 ad ea
   ·obtain⟨e,he,rfl⟩:=Conc.mem_ofEvents cG;exact(Sy e he).2.2
 have mO:((vU.map (woken P a a' ((w.at d').setChan c 0 #[] true k k false))).setIfInBounds 0 a')[0]? =some a':=j7 (by simpa using du);have aai:∃ f:Nat->Nat,∀ i∈L,∃ v,((vU.map (woken P a a' ((w.at d').setChan c 0 #[] true k k false))).setIfInBounds 0 a')[i]? =some v/\Ss P σ G c N0 (T1++MemOp.ofEvents 0 a.frame.fn a.frame.place (closeEvents c)) i (f i) v .app:=by refine⟨λi=>q1 i+1+N0,λi hi=>?_⟩;obtain⟨s,cw,z0,z1,v,kk,hs,sQ,_,mh,hv,hw,Hm⟩:=OS i hi;refine⟨v,hv,s,cw,z0,z1,q1 i,hs,sQ,rfl,hw.mono Hm,?_,mh⟩;rw[Deaf_other T1 (λz=>UY i hi z.symm) _ cN];exact C1.hear i (λz=>z) (by unfold Gh.lo;rw[hs];rfl)
 obtain⟨f,hf⟩:=aai;have hwg:WG G (w.setChan c 0 #[] true k k false) (mH L.length 0) (s6 0) ((w.at d').setChan c 0 #[] true k k false):=by
  have Az:(w.setChan c 0 #[] true k k false).heap[G.blk]? =some (.cells G.cs G.ty (0,0)):=by rw[heap_setChan_ne _ _ _ _ _ _ _ (jl hbc)];exact hb
  refine⟨?_,rfl,rfl,Az⟩;rw[OR ok h1 h2,OQ _ _ _ Az];rfl
 refine Lp hm _ _ _ q1 (λ_=>.app) f _ _ Sv ⟨hfr,ok,nd,len,hf,⟨k,AF⟩,λi s hi e=>?_,λi hi=>?_,hwg,yR,G7⟩ ?_ mO
 ·obtain⟨s',cw,z0,z1,_,_,hs,sQ,eV,_⟩:=OS i hi;rw[e]at hs;obtain rfl:=bR hs;obtain⟨k',nP⟩:=C1.chans i s cw (λz=>z) e ⟨0,z0,by rw[sQ];rfl⟩;exact⟨cw,z0,z1,k',sQ,by rw[heap_setChan_ne _ _ _ _ _ _ _ (jl eV)];exact nP⟩
 ·obtain⟨s,_,_,_,hs,_⟩:=hL i hi;unfold Gh.lo;rw[hs];rfl
 ·have:=Md.opn (L:=L) (D:=λ_=>.app) (tag:=.yb L.length) (by rw[UX];exact e8 _) (λi _=>trivial)
  rwa[UX]at this
end
structure Sm(w w₁:World):Prop where
 hp:w₁.heap=w.heap
 os:w₁.os=w.os
 out:w₁.output=w.output
theorem Sm.refl(w:World):Sm w w:=⟨rfl,rfl,rfl⟩
theorem Sm.trans{a b c:World}(h:Sm a b)(k:Sm b c):Sm a c:=⟨k.hp.trans h.hp,k.os.trans h.os,k.out.trans h.out⟩
theorem Sm.at{a b:World}(h:Sm a b)(d:Nat):Sm a (b.at d):=h.trans ⟨rfl,rfl,rfl⟩
theorem Sm.cell{w w₁:World}(h:Sm w w₁)(a:Addr):w₁.cell? a=w.cell? a:=by unfold World.cell?;rw[h.hp]
theorem Sm.setChan{w w₁:World}(h:Sm w w₁)(c cap:Nat)(Zh:Array Value)(cl:Bool)(s r:Nat)(tm:Bool):Sm (w.setChan c cap Zh cl s r tm) (w₁.setChan c cap Zh cl s r tm):=
 ⟨by simp only[World.setChan,h.hp],h.os,h.out⟩
theorem oF.sm{σ:Gh}{s:dH}{w w₁:World}(h:oF σ s w)(e:Sm w w₁):oF σ s w₁:=
 ⟨h.wf,λc hc=>by rw[e.hp];exact h.chans c hc,λp hp=>by rw[e.cell];exact h.mem p hp,h.uM⟩
inductive wZ(P:bL)(Post:Value->World->Prop):Gh->Nat->Nat->aM->World->Prop
 |own {σ:Gh} {h δ:Nat} {g:aM} {w:World} (g':World->aM) (w':World->World) (es:World->Array Event) (hs:g.status=.running)
   (h1:∀ w₁,Sm w w₁->stepG P (h==0) g w₁=.go (g' w₁) (w' w₁) (es w₁)) (h2:∀ w₁,Sm w w₁->qA σ w₁ (w' w₁) (es w₁)) (h3:∀ w₁,Sm w w₁->wZ P Post σ h (deafBehind δ (es w₁)) (g' w₁) (w' w₁)):wZ P Post σ h δ g w
 |hire {σ:Gh} {h:Nat} {g a' child:aM} {w:World} (s:dH) (m:Nat) (es:Array Event) (hs:g.status=.running) (h1:∀ w₁,Sm w w₁->stepG P (h==0) g w₁=.spawn a' child w₁ es) (h2:∀ w₁,Sm w w₁->qA σ w₁ w₁ es) (hd:deafBehind 0 es=0)
   (mG:oF σ s w) (nq:Way P false s m child) (h3:wZ P Post (σ.pa s) h 0 a' w):wZ P Post σ h 0 g w
 |give {σ:Gh} {h:Nat} {g a₂:aM} {w:World} (j c kk k m:Nat) (s sH:dH) (v z z':Value) (es:Array Event) (hs:g.status=.running) (hj:σ.aQ j=some s) (hk:s.cases[kk]? =some (rcase c z)) (mg:∀ i s',σ.aQ i=some s'->s'.has c->i=j)
   (h1:∀ w₁,Sm w w₁->stepG P (h==0) g w₁=.comm a₂ #[scase c v z'] true .send w₁ es) (h2:∀ w₁,Sm w w₁->qA σ w₁ w₁ es) (hd:deafBehind 0 es=0) (hc:w.heap[c]? =some (.chan 0 #[] false k k false)) (mG:oF σ sH w) (nq:Way P (h==0) sH m (Conc.served a₂ undef))
   (h3:∀ r,s.uL r->wZ P Post (σ.given h j sH) j 0 (Conc.served r (commResult s.cases s.shape kk v true)) (w.setChan c 0 #[] false (k+1) (k+1) false)):wZ P Post σ h 0 g w
 |shut {σ:Gh} {g a':aM} {w:World} (L:List Nat) (G:qT) (c k N0:Nat) (Fin:aM->Prop) (hs:g.status=.running) (hc:w.heap[c]? =some (.chan 0 #[] false k k false))
   (C4:∀ w₁,Sm w w₁->stepG P true g w₁=.go a' (w₁.setChan c 0 #[] true k k false) (closeEvents c)) (JY:mayWake P g=true) (Nr:a'.status=.running)
   (nd:L.Nodup) (len:L.length<=4) (hL:∀ i∈L,∃ s cw z0 z1,σ.aQ i=some s/\s.cases=#[rcase cw z0,rcase c z1]/\cw≠c/\∀ r,s.uL r->Cl P G N0 .rel (Conc.served r (commResult s.cases s.shape 1 z1 false)))
   (mg:∀ i s,σ.aQ i=some s->s.has c->i∈L) (ok:G.Ok) (hb:w.heap[G.blk]? =some (.cells G.cs G.ty (0,0))) (e1:G.cs[G.o1]? =some (mH L.length 0)) (e2:G.cs[G.o2]? =some (s6 0)) (yR:σ.sh (.cell G.st)) (G7:σ.sh (.cell G.sm))
   (hm:MW P G Fin (.yb L.length) a') (h3:∀ Zk OM,Fin Zk->WG G (w.setChan c 0 #[] true k k false) (mH 0 0) (s6 0) OM->wZ P Post (σ.gX L) 0 0 Zk OM):wZ P Post σ 0 0 g w
 |q7 {σ:Gh} {h δ:Nat} {g:aM} {w:World} (UK:Loc->Prop) (jd:∀ l,σ.sh l->UK l) (tD:∀ l,UK l->¬ σ.sh l->∃ a:Addr,l=.cell a/\w.heap.size<=a.block) (h3:wZ P Post {σ with sh:=UK} h δ g w):wZ P Post σ h δ g w
 |done{σ:Gh} {g:aM} {w:World} (v:Value) (hs:g.status=.running) (h1:∀ w₁,Sm w w₁->stepG P true g w₁=.ended (.done v) w₁ #[]) (hn:∀ i,σ.aQ i=none) (hp:∀ w₁,Sm w w₁->Post v w₁):wZ P Post σ 0 0 g w
def Ends(P:bL)(Post:Value->World->Prop)(m:Machine)(T:Trace):Prop:=
 ∃ N last o w' t',runNT P (N+1) m T=(.ended o w',t')/\runN P N m=.next last/\step P last=.ended o w'/\Good P Post last o w' t'
theorem Ends.of{P:bL}{Post:Value->World->Prop}{N:Nat}{m m':Machine}{T T':Trace}(h:runNT P N m T=(.next m',T'))(k:Ends P Post m' T'):Ends P Post m T:=by
 obtain⟨N',last,o,w',t',e1,e2,e3,e4⟩:=k;refine⟨N+N',last,o,w',t',?_,?_,e3,e4⟩
 ·rw[Nat.add_assoc,runNT_add,h];exact e1
 ·rw[runN_add,<- runNT_fst P N m T,h];exact e2
theorem wZ.ends{P:bL}{Post:Value->World->Prop}{σ:Gh}{h δ:Nat}{g:aM}{w:World}(R:wZ P Post σ h δ g w):
  ∀ (w₁:World) (gs:Array aM) (sl:Option (Nat×Nat)) (T:Trace) (q:Nat->Nat),Sm w w₁->Fr P σ (λ_=>False) h δ T gs w₁ q->gs[h]? =some g->Ends P Post (crowd gs w₁ sl) T:=by
 induction R with
 |@own σ h δ g w g' w' es hs h1 h2 h3 ih=>
  intro w₁ gs sl T q hw C hg;obtain⟨N,vU,d,d',Ny,Sv,T1,q1,t1,t2,t3,t4,C1⟩:=C.picked (sl:=sl) hg hs;have np:=hw.at d';have du:h<vU.size:=(gV.1 t4).1;obtain⟨C2,JZ⟩:=C1.own (a:=g) (a':=g' (w₁.at d')) (fn:=g.frame.fn) (pos:=g.frame.place) du (h2 _ np);exact Ends.of (runNT_succ_of t1 (t2.trans (runT_crowd_go (P:=P) (sl:=Sv) t4 (h1 _ np)))) (ih _ np _ _ Sv _ q1 (Sm.refl _) C2 JZ)
 |@hire σ h g a' child w s m es hs h1 h2 hd mG nq h3 ih=>
  intro w₁ gs sl T q hw C hg;obtain⟨N,vU,d,d',Ny,Sv,T1,q1,t1,t2,t3,t4,C1⟩:=C.picked (sl:=sl) hg hs;have np:=hw.at d';obtain⟨xK,ops,q2,r1,r2,C2⟩:=C1.hire (sl:=Sv) t4 (h1 _ np) (h2 _ np) hd (mG.sm np) nq;exact Ends.of (runNT_succ_of t1 (t2.trans r1)) (ih _ xK Sv _ q2 np C2 r2)
 |@give σ h g a₂ w j c kk k m s sH v z z' es hs hj hk mg h1 h2 hd hc mG nq h3 ih=>
  intro w₁ gs sl T q hw C hg;obtain⟨N,vU,d,Ny,T1,q1,r1,⟨r,hr,r2⟩,C1⟩:=C.give (sl:=sl) hj hk mg hg hs (λd=>h1 _ (hw.at d)) (λd=>h2 _ (hw.at d)) hd (by rw[hw.hp];exact hc) (mG.sm hw) nq;exact Ends.of r1 (ih r hr _ vU Ny _ q1 ((hw.at d).setChan _ _ _ _ _ _ _) C1 r2)
 |@shut σ g a' w L G c k N0 Fin hs hc C4 JY Nr nd len hL mg ok hb e1 e2 yR G7 hm h3 ih=>
  intro w₁ gs sl T q hw C hg;obtain⟨N,vU,w',Ny,T1,q1,Zk,r1,r2,r3,C1,hG⟩:=C.shut (sl:=sl) (Fin:=Fin) hg hs (by rw[hw.hp];exact hc) (λd=>C4 _ (hw.at d)) JY Nr nd len hL mg ok (by rw[hw.hp];exact hb) e1 e2 yR G7 hm;have Sw:=hw.setChan c 0 #[] true k k false;have Zg:WG G (w.setChan c 0 #[] true k k false) (mH 0 0) (s6 0) w':=⟨by rw[hG.hp,Sw.hp],by rw[hG.os,Sw.os],by rw[hG.out,Sw.out],by rw[<- Sw.hp];exact hG.b0⟩;exact Ends.of r1 (ih Zk w' r3 Zg w' vU Ny _ q1 (Sm.refl _) C1 r2)
 |@q7 σ h δ g w UK jd tD h3 ih=>
  intro w₁ gs sl T q hw C hg;refine ih w₁ gs sl T q hw ?_ hg;refine⟨C.cnt,C.idle,C.xH,C.jh,C.hole,C.wf,C.there,C.chans,C.mem,λi s l e hl hs=>?_,C.above,C.hear,C.deaf,C.px.q7 jd λl h1 h2=>by rw[hw.hp];exact tD l h1 h2⟩;by_cases h0:σ.sh l
  ·exact C.uM i s l e hl h0
  ·obtain⟨a,rfl,hb⟩:=tD l hs h0;obtain⟨p,hp,ep⟩:=hl;obtain rfl:=Loc.cell.inj ep;have:=JN (C.mem i s e p hp);rw[hw.hp]at this;omega
 |@done σ g w v hs h1 hn hp=>
  intro w₁ gs sl T q hw C hg;have hL:Leavers P T gs q:=⟨λi x hi hx=>by have:=C.idle i x ai (λz=>z) hx;rw[hn i]at this;exact this.2,C.above⟩
  have hP:Past σ.sh w₁.heap.size T:=C.px.toPast C.deaf λi hl=>by unfold Gh.lo at hl;rw[hn i]at hl;cases hl
  exact beside_ends (D:=λ_ _ _=>False) (Post:=Post) (sl:=sl) (n:=0) (λ_ _ _ h=>h.elim) hg hL hP (λw₂ h₂=>by obtain⟨d,rfl⟩:=h₂;exact⟨hs,v,#[],h1 _ (hw.at d),λe he=>by simp at he,hp _ (hw.at d)⟩)
theorem Ws(P:bL)(g:aM)(w:World)(bot:Nat):Fr P {n:=1,aQ:=λ_=>none,sh:=λ_=>False,bot:=bot} (λ_=>False) 0 0 #[] #[g] w (λ_=>0):=by
 refine⟨rfl,λi x hi _ hx=>?_,λ_ _ z=>z.elim,λz=>z,rfl,λ_ _ e=>(by cases e),λ_ _ e=>(by cases e),λ_ _ _ _ e=>(by cases e),λ_ _ e=>(by cases e),λ_ _ _ e=>(by cases e),λ_ _=>rfl,λi _ hl=>?_,rfl,?_⟩
 ·have:i<1:=by simpa using(gV.1 hx).1
  omega
 ·cases hl
 ·have h:=Wa;refine⟨h.clean,λi a ha=>by simp[touchAt,Trace.act?]at ha,λi a ha=>by simp[touchAt,Trace.act?]at ha,λi a ha=>by simp[touchAt,Trace.act?]at ha,λi ad ha=>by simp[Trace.act?]at ha,by simp⟩
theorem wZ.whole{P:bL}{Post:Value->World->Prop}{g:aM}{w:World}{bot:Nat}(R:wZ P Post {n:=1,aQ:=λ_=>none,sh:=λ_=>False,bot:=bot} 0 0 g w):Ends P Post (solo g w) #[]:=by rw[solo_eq_crowd];exact R.ends w #[g] none #[] _ (Sm.refl w) (Ws P g w bot) rfl
end
section
open Go.Conc
open Go.ConcR (deafBehind_cons deafBehind_one)
structure kJ where
 rd:Nat->aO->Nat->Bool
 sh:aO->Nat->Bool
 bot:Nat:=0
def Obj.quiet:Obj->Bool
 |.cells .. =>false
 |.chan .. =>false
 |_=>true
def fZ:Value->Bool
 |.agg _=>false
 |.tuple _=>false
 |_=>true
def tJ(H:Array Obj)(r:Nat):Option (aO×Nat):=
 match H[r]? with
 |some (.cells c elem _)=>some (elem,c.size)
 |_=>none
def ye(H:Array Obj)(a:Addr):Bool:=
 match H[a.block]? with
 |some (.cells _ _ (lo,hi))=>lo<=a.off&&a.off<hi
 |_=>false
def kO(B:kJ)(H:Array Obj):Mark->Prop
 |.acquire a|.releaseMerge a|.read a=>∃ c ty,H[a.block]? =some (.cells c ty (0,0))
 |.release a=>∃ c ty,H[a.block]? =some (.cells c ty (0,0))/\B.sh ty a.off=false
 |.write a=>∃ c ty,H[a.block]? =some (.cells c ty (0,0))/\B.rd a.block ty a.off=false
 |_=>True
def oH:Mark->Nat->Nat
 |.disable,d=>d+1
 |.enable,d=>d-1
 |_,d=>d
def dJ(P:bL)(B:kJ){α:Type}:Sem α->Array Obj->Nat->(α->Array Obj->Nat->Prop)->Prop
 |.pure a,H,d,Q=>Q a H d
 |.load m a k,H,d,Q=>∃ c ty v,(∃ fr,H[a.block]? =some (.cells c ty fr))/\a.spot=none/\c[a.off]? =some v/\(m=.plain->a.block<B.bot\/B.sh ty a.off=false)/\dJ P B (k v) H d Q
 |.store m a v k,H,d,Q=>fZ v=true/\∃ c ty,H[a.block]? =some (.cells c ty (0,0))/\a.spot=none/\a.off<c.size/\B.rd a.block ty a.off=false/\(m=.plain->B.sh ty a.off=false)/\
   dJ P B k (H.setIfInBounds a.block (.cells (c.setIfInBounds a.off v) ty (0,0))) d Q
 |.new o k,H,d,Q=>dJ P B (k H.size) (H.push o) d Q
 |.shape r k,H,d,Q=>dJ P B (k (tJ H r)) H d Q
 |.freeze _ _ _,_,_,_=>False
 |.frozen a k,H,d,Q=>dJ P B (k (ye H a)) H d Q
 |.getObj r k,H,d,Q=>∃ o,H[r]? =some o/\Obj.quiet o=true/\dJ P B (k o) H d Q
 |.setObj r o k,H,d,Q=>∃ o₀,H[r]? =some o₀/\Obj.quiet o₀=true/\Obj.quiet o=true/\dJ P B k (H.setIfInBounds r o) d Q
 |.choose q k,H,d,Q=>if q.forced then dJ P B (k 0) H d Q else∀ n,dJ P B (k (q.cut n)) H d Q
 |.sys _ _,_,_,_=>False
 |.program k,H,d,Q=>dJ P B (k P) H d Q
 |.mark m k,H,d,Q=>kO B H m/\dJ P B k H (oH m d) Q
 |.halt _,_,_,_=>False
section
variable{P:bL}{B:kJ}{α β:Type}
theorem pd{s:Sem α}{H:Array Obj}{d:Nat}{Q Q':α->Array Obj->Nat->Prop}(hQ:∀ a H d,Q a H d->Q' a H d)(h:dJ P B s H d Q):dJ P B s H d Q':=by
 induction s generalizing H d with
 |pure a=>exact hQ _ _ _ h
 |load m a k ih=>obtain⟨c,ty,v,h1,h2,h3,h4,h5⟩:=h;exact⟨c,ty,v,h1,h2,h3,h4,ih _ h5⟩
 |store m a v k ih=>obtain⟨h0,c,ty,h1,h2,h3,h4,h5,h6⟩:=h;exact⟨h0,c,ty,h1,h2,h3,h4,h5,ih h6⟩
 |new o k ih=>exact ih _ h
 |shape r k ih=>exact ih _ h
 |freeze a n k ih=>exact h.elim
 |frozen a k ih=>exact ih _ h
 |getObj r k ih=>obtain⟨o,h1,h2,h3⟩:=h;exact⟨o,h1,h2,ih _ h3⟩
 |setObj r o k ih=>obtain⟨o₀,h1,h2,Nz,h3⟩:=h;exact⟨o₀,h1,h2,Nz,ih h3⟩
 |choose q k ih=>
  simp only[dJ]at h⊢;split
  ·rename_i e;rw[aG e]at h;exact ih _ h
  ·rename_i e;rw[ax e]at h;exact λn=>ih _ (h n)
 |sys c k ih=>exact h.elim
 |program k ih=>exact ih _ h
 |mark m k ih=>exact⟨h.1,ih h.2⟩
 |halt x=>exact h.elim
theorem OT{s:Sem α}{f:α->Sem β}{H:Array Obj}{d:Nat}{Q:β->Array Obj->Nat->Prop}(h:dJ P B s H d λa H d=>dJ P B (f a) H d Q):dJ P B (s.bind f) H d Q:=by
 induction s generalizing H d with
 |pure a=>exact h
 |load m a k ih=>obtain⟨c,ty,v,h1,h2,h3,h4,h5⟩:=h;exact⟨c,ty,v,h1,h2,h3,h4,ih _ h5⟩
 |store m a v k ih=>obtain⟨h0,c,ty,h1,h2,h3,h4,h5,h6⟩:=h;exact⟨h0,c,ty,h1,h2,h3,h4,h5,ih h6⟩
 |new o k ih=>exact ih _ h
 |shape r k ih=>exact ih _ h
 |freeze a n k ih=>exact h.elim
 |frozen a k ih=>exact ih _ h
 |getObj r k ih=>obtain⟨o,h1,h2,h3⟩:=h;exact⟨o,h1,h2,ih _ h3⟩
 |setObj r o k ih=>obtain⟨o₀,h1,h2,Nz,h3⟩:=h;exact⟨o₀,h1,h2,Nz,ih h3⟩
 |choose q k ih=>
  simp only[dJ,Sem.bind]at h⊢;split
  ·rename_i e;rw[aG e]at h;exact ih _ h
  ·rename_i e;rw[ax e]at h;exact λn=>ih _ (h n)
 |sys c k ih=>exact h.elim
 |program k ih=>exact ih _ h
 |mark m k ih=>exact⟨h.1,ih h.2⟩
 |halt x=>exact h.elim
theorem ae{s:Sem α}{f:α->Sem β}{H:Array Obj}{d:Nat}{Q:β->Array Obj->Nat->Prop}(h:dJ P B s H d λa H d=>dJ P B (f a) H d Q):dJ P B (s >>= f) H d Q:=OT h
def AQ(B:kJ)(H:Array Obj)(e:Event):Prop:=
 match e.loc with
 |.cell a=>a.spot=none/\∃ c ty,(∃ fr,H[a.block]? =some (.cells c ty fr))/\(e.write=true->B.rd a.block ty a.off=false)/\(e.sync=false->a.block<B.bot\/B.sh ty a.off=false)
 |.obj r=>r<H.size/\e.sync=false
 |.mark m=>kO B H m/\e.sync=true
 |_=>False
structure ga(B:kJ)(H H':Array Obj):Prop where
 size:H.size<=H'.size
 chans:∀ (r:Nat) (o:Obj),H[r]? =some o->o.isChan=true->H'[r]? =some o
 cells:∀ (b:Nat) (c:Array Value) (ty:aO) (fr:Nat×Nat),H[b]? =some (.cells c ty fr)->∃ c',H'[b]? =some (.cells c' ty fr)/\∀ j,B.rd b ty j=true->c'[j]? =c[j]?
theorem ga.refl(H:Array Obj):ga B H H:=⟨e8 _,λ_ _ h _=>h,λ_ c _ _ h=>⟨c,h,λ_ _=>rfl⟩⟩
theorem ga.trans{H H' H'':Array Obj}(h:ga B H H')(k:ga B H' H''):ga B H H'':=
 ⟨Lh h.size k.size,λr o e i=>k.chans r o (h.chans r o e i) i,λb c ty fr e=>by obtain⟨c',e1,e2⟩:=h.cells b c ty fr e;obtain⟨c'',e3,e4⟩:=k.cells b c' ty fr e1;exact⟨c'',e3,λj hj=>(e4 j hj).trans (e2 j hj)⟩⟩
theorem EN{H H':Array Obj}(h:ga B H H'){m:Mark}(k:kO B H m):kO B H' m:=by
 have go:∀ {b:Nat} {c:Array Value} {ty:aO},H[b]? =some (.cells c ty (0,0))->∃ c',H'[b]? =some (.cells c' ty (0,0)):=λe=>by obtain⟨c',e1,_⟩:=h.cells _ _ _ _ e;exact⟨c',e1⟩
 cases m<;>simp only[kO]at k⊢
 ·obtain⟨c,ty,e⟩:=k;obtain⟨c',e'⟩:=go e;exact⟨c',ty,e'⟩
 ·obtain⟨c,ty,e,x⟩:=k;obtain⟨c',e'⟩:=go e;exact⟨c',ty,e',x⟩
 ·obtain⟨c,ty,e⟩:=k;obtain⟨c',e'⟩:=go e;exact⟨c',ty,e'⟩
 ·obtain⟨c,ty,e⟩:=k;obtain⟨c',e'⟩:=go e;exact⟨c',ty,e'⟩
 ·obtain⟨c,ty,e,x⟩:=k;obtain⟨c',e'⟩:=go e;exact⟨c',ty,e',x⟩
theorem C5{w:World}{a:Addr}{c:Array Value}{ty:aO}{fz:Nat×Nat}{v:Value}(h1:w.heap[a.block]? =some (.cells c ty fz))(h2:a.spot=none)(h3:c[a.off]? =some v):w.cell? a=some v:=by unfold World.cell?;rw[h1];simp[h2,h3]
theorem modify_eq{H:Array Obj}{b:Nat}{o:Obj}(f:Obj->Obj)(h:H[b]? =some o):H.modify b f=H.setIfInBounds b (f o):=by
 apply sJ;intro i;have du:=(gV.1 h).1;by_cases e:i=b
 ·subst e;rw[j7 du,Sc];simp[h]
 ·rw[gK (jl e),Sc];simp[jl e]
theorem Hn{w:World}{a:Addr}{c:Array Value}{ty:aO}{fz:Nat×Nat}{v:Value}(h1:w.heap[a.block]? =some (.cells c ty fz))(h2:a.spot=none):
  w.setCell a v={w with heap:=w.heap.setIfInBounds a.block (.cells (c.setIfInBounds a.off v) ty fz)}:=by
 unfold World.setCell;rw[modify_eq _ h1];simp[h2]
theorem Ls{w:World}{a:Addr}{c:Array Value}{ty:aO}(h1:w.heap[a.block]? =some (.cells c ty (0,0))):w.frozen? a=false:=by unfold World.frozen?;rw[h1];simp
theorem ga.store{H:Array Obj}{b off:Nat}{c:Array Value}{ty:aO}{v:Value}(h:H[b]? =some (.cells c ty (0,0)))(hb:B.rd b ty off=false):ga B H (H.setIfInBounds b (.cells (c.setIfInBounds off v) ty (0,0))):=by
 have du:=(gV.1 h).1;refine⟨by simp,λr o e i=>?_,λb' c' U1 fr' e=>?_⟩
 ·have:b≠r:=λz=>by subst z;rw[h]at e;cases e;cases i
  rw[gK this];exact e
 ·by_cases z:b=b'
  ·subst z;rw[h]at e;cases e;refine⟨_,j7 du,λj hj=>?_⟩;have:off≠j:=λz=>by subst z;rw[hb]at hj;cases hj
   rw[gK this]
  ·exact⟨c',by rw[gK z];exact e,λ_ _=>rfl⟩
theorem ga.setObj{H:Array Obj}{r:Nat}{o₀ o:Obj}(h:H[r]? =some o₀)(hq:Obj.quiet o₀=true):ga B H (H.setIfInBounds r o):=by
 refine⟨by simp,λr' o' e i=>?_,λb' c' U1 fr' e=>?_⟩
 ·have:r≠r':=λz=>by subst z;rw[h]at e;cases e;cases o₀<;>simp_all [Obj.quiet,Obj.isChan]
  rw[gK this];exact e
 ·have:r≠b':=λz=>by subst z;rw[h]at e;cases e;cases hq
  exact⟨c',by rw[gK this];exact e,λ_ _=>rfl⟩
theorem ga.push(H:Array Obj)(o:Obj):ga B H (H.push o):=by
 have go:∀ {b:Nat} {x:Obj},H[b]? =some x->(H.push o)[b]? =some x:=λ{b x} e=>by have:=(gV.1 e).1;rw[V0 this];rw[<- e,Ee this]
 exact⟨by simp,λr o' e _=>go e,λb c ty fr e=>⟨c,go e,λ_ _=>rfl⟩⟩
theorem rb{X:Type}(a b:Array X)(x:X):a.push x++b=a++(#[x]++b):=by apply Array.ext';simp
theorem BA{H:Array Obj}{a:Addr}{wr sy:Bool}(h2:a.spot=none){c:Array Value}{ty:aO}{fr:Nat×Nat}(h:H[a.block]? =some (.cells c ty fr))(h3:wr=true->B.rd a.block ty a.off=false)(h4:sy=false->a.block<B.bot\/B.sh ty a.off=false):AQ B H ⟨.cell a,wr,sy⟩:=⟨h2,c,ty,⟨fr,h⟩,h3,h4⟩
theorem fJ(d:Nat)(a b:Array Event):deafBehind d (a++b)=deafBehind (deafBehind d a) b:=by
 obtain⟨a⟩:=a;obtain⟨b⟩:=b;simp only[List.append_toArray]
 induction a generalizing d with
 |nil=>simp[deafBehind]
 |cons e l ih=>rw[fi,deafBehind_cons,deafBehind_cons d e l,ih]
theorem xL(d:Nat)(m:Mark):deafBehind d #[⟨.mark m,false,true⟩]=oH m d:=by cases m<;>simp[deafBehind,oH]
theorem deafBehind_nil(d:Nat):deafBehind d #[]=d:=by simp[deafBehind]
theorem pe{s:Sem α}:∀ {H:Array Obj} {d:Nat} {Q:α->Array Obj->Nat->Prop} {w:World} (vV:Array Event),w.heap=H->dJ P B s H d Q->
  ∃ a w' es d',s.runT P w vV=(.ok a w',vV++es)/\w'.os=w.os/\w'.output=w.output/\ga B H w'.heap/\(∀ e∈es,AQ B w'.heap e)/\deafBehind d es=d'/\Q a w'.heap d':=by
 induction s with
 |pure a=>intro H d Q w vV hw h;subst hw;exact⟨a,w,#[],d,by simp[Sem.runT],rfl,rfl,ga.refl _,by simp,deafBehind_nil _,h⟩
 |load m a k ih=>
  intro H d Q w vV hw h;obtain⟨c,ty,v,⟨fr,h1⟩,h2,h3,h4,h5⟩:=h;subst hw;obtain⟨x,w',es,d',r1,r2,r3,r4,r5,r6,r7⟩:=ih v (vV.push ⟨.cell a,false,m== .atomic⟩) rfl h5;refine⟨x,w',#[⟨.cell a,false,m== .atomic⟩]++es,d',?_,r2,r3,r4,?_,?_,r7⟩
  ·simp only[Sem.runT,C5 h1 h2 h3];rw[r1,rb]
  ·intro e he;rcases VZ.1 he with he|he
   ·simp only[pW,dL]at he;subst he;obtain⟨c',e1,_⟩:=r4.cells _ _ _ _ h1;exact BA h2 e1 (λz=>by cases z) (λz=>h4 (by cases m<;>first|rfl|cases z))
   ·exact r5 e he
  ·rw[fJ,deafBehind_one (by simp) (by simp)];exact r6
 |store m a v k ih=>
  intro H d Q w vV hw h;obtain⟨h0,c,ty,h1,h2,h3,h4,h5,h6⟩:=h;subst hw;obtain⟨x,w',es,d',r1,r2,r3,r4,r5,r6,r7⟩:=ih (w:=w.setCell a v) (vV.push ⟨.cell a,true,m== .atomic⟩) (by rw[Hn h1 h2]) h6;have dI:=ga.store (B:=B) (off:=a.off) (v:=v) h1 h4;refine⟨x,w',#[⟨.cell a,true,m== .atomic⟩]++es,d',?_,r2,r3,dI.trans r4,?_,?_,r7⟩
  ·have hc:=C5 (w:=w) h1 h2 (Ee h3);have hf:=Ls (w:=w) (a:=a) h1;cases v<;>first|(simp only[Sem.runT,hc,hf,gn,eR];rw[r1,rb];done)|(simp[fZ]at h0)
  ·intro e he;rcases VZ.1 he with he|he
   ·simp only[pW,dL]at he;subst he;obtain⟨c',e1,_⟩:=(dI.trans r4).cells _ _ _ _ h1;exact BA h2 e1 (λ_=>h4) (λz=>.inr (h5 (by cases m<;>first|rfl|cases z)))
   ·exact r5 e he
  ·rw[fJ,deafBehind_one (by simp) (by simp)];exact r6
 |new o k ih=>
  intro H d Q w vV hw h;subst hw;obtain⟨x,w',es,d',r1,r2,r3,r4,r5,r6,r7⟩:=ih w.heap.size (w:={w with heap:=w.heap.push o}) vV rfl h;exact⟨x,w',es,d',by simp only[Sem.runT];exact r1,r2,r3,(ga.push _ o).trans r4,r5,r6,r7⟩
 |shape r k ih=>
  intro H d Q w vV hw h;subst hw;obtain⟨x,w',es,d',r1,r2⟩:=ih (tJ w.heap r) vV rfl h;exact⟨x,w',es,d',by simp only[Sem.runT];exact r1,r2⟩
 |freeze a n k ih=>intro H d Q w vV hw h;exact h.elim
 |frozen a k ih=>
  intro H d Q w vV hw h;subst hw;obtain⟨x,w',es,d',r1,r2⟩:=ih (ye w.heap a) vV rfl h;exact⟨x,w',es,d',by simp only[Sem.runT];exact r1,r2⟩
 |getObj r k ih=>
  intro H d Q w vV hw h;obtain⟨o,h1,h2,h3⟩:=h;subst hw;obtain⟨x,w',es,d',r1,r2,r3,r4,r5,r6,r7⟩:=ih o (vV.push ⟨.obj r,false,o.isChan⟩) rfl h3;have oE:o.isChan=false:=by cases o<;>simp_all [Obj.quiet,Obj.isChan]
  refine⟨x,w',#[⟨.obj r,false,o.isChan⟩]++es,d',?_,r2,r3,r4,?_,?_,r7⟩
  ·simp only[Sem.runT,h1];cases o<;>first|(simp only[r1,rb];done)|(simp[Obj.quiet]at h2)
  ·intro e he;rcases VZ.1 he with he|he
   ·simp only[pW,dL]at he;subst he;exact⟨NR (gV.1 h1).1 r4.size,oE⟩
   ·exact r5 e he
  ·rw[fJ,deafBehind_one (by simp) (by simp)];exact r6
 |setObj r o k ih=>
  intro H d Q w vV hw h;obtain⟨o₀,h1,h2,Nz,h3⟩:=h;subst hw;obtain⟨x,w',es,d',r1,r2,r3,r4,r5,r6,r7⟩:=ih (w:={w with heap:=w.heap.setIfInBounds r o}) (vV.push ⟨.obj r,true,o.isChan⟩) rfl h3;have oE:o.isChan=false:=by cases o<;>simp_all [Obj.quiet,Obj.isChan]
  have dI:=ga.setObj (B:=B) (o:=o) h1 h2;refine⟨x,w',#[⟨.obj r,true,o.isChan⟩]++es,d',?_,r2,r3,dI.trans r4,?_,?_,r7⟩
  ·simp only[Sem.runT,h1];cases o₀<;>first|(rw[<- rb];exact r1)|(simp[Obj.quiet]at h2)
  ·intro e he;rcases VZ.1 he with he|he
   ·simp only[pW,dL]at he;subst he;exact⟨NR (gV.1 h1).1 (dI.trans r4).size,oE⟩
   ·exact r5 e he
  ·rw[fJ,deafBehind_one (by simp) (by simp)];exact r6
 |choose q k ih=>
  intro H d Q w vV hw h;subst hw;simp only[dJ]at h;by_cases e:q.forced=true
  ·rw[aG e]at h;obtain⟨x,w',es,d',r1,r2⟩:=ih 0 vV rfl h;exact⟨x,w',es,d',by simp only[Sem.runT,e,eN];exact r1,r2⟩
  ·rw[ax e]at h;obtain⟨x,w',es,d',r1,r2⟩:=ih (q.cut (w.tape w.drawn q)) (w:={w with drawn:=w.drawn+1}) vV rfl (h _);exact⟨x,w',es,d',by simp only[Sem.runT,e];exact r1,r2⟩
 |sys c k ih=>intro H d Q w vV hw h;exact h.elim
 |program k ih=>
  intro H d Q w vV hw h;subst hw;obtain⟨x,w',es,d',r1,r2⟩:=ih P vV rfl h;exact⟨x,w',es,d',by simp only[Sem.runT];exact r1,r2⟩
 |mark m k ih=>
  intro H d Q w vV hw h;subst hw;obtain⟨x,w',es,d',r1,r2,r3,r4,r5,r6,r7⟩:=ih (vV.push ⟨.mark m,false,true⟩) rfl h.2;refine⟨x,w',#[⟨.mark m,false,true⟩]++es,d',?_,r2,r3,r4,?_,?_,r7⟩
  ·simp only[Sem.runT];rw[r1,rb]
  ·intro e he;rcases VZ.1 he with he|he
   ·simp only[pW,dL]at he;subst he;exact⟨EN r4 h.1,rfl⟩
   ·exact r5 e he
  ·rw[fJ,xL];exact r6
 |halt x=>intro H d Q w vV hw h;exact h.elim
end
end
section
open Go.Conc
def tm(n:Nat)(e:Nat->Value):Array Value:=Array.ofFn λi:Fin n=>e i
def put(e:Nat->Value)(d:Nat)(v:Value):Nat->Value:=λi=>if i=d then v else e i
def dm(e:Nat->Value)(d:Option Nat)(v:Value):Nat->Value:=match d with|some d=>put e d v|none=>e
def ev(n:Nat)(e:Nat->Value):cZ->Value
 |.tmp t=>if t<n then e t else undef
 |.const v=>v
 |.global g=>.pointer (some ⟨g,0,none⟩)
 |.func f=>.func (.func f) #[] #[]
def yT(args:Array Value):Nat->Value:=λi=>args.getD i undef
theorem yU(n:Nat)(e:Nat->Value)(t:Nat):(tm n e)[t]? =if t<n then some (e t)else none:=by unfold tm;by_cases h:t<n<;>simp[h]
theorem uP(n:Nat)(e:Nat->Value)(t:Nat):(tm n e).getD t undef=if t<n then e t else undef:=by
 have:(tm n e).getD t undef=((tm n e)[t]?).getD undef:=by simp[Array.getD_eq_getD_getElem?]
 rw[this,yU];by_cases h:t<n<;>simp[h]
theorem OU(n:Nat)(e:Nat->Value)(d:Nat)(v:Value):(tm n e).setIfInBounds d v=tm n (put e d v):=by
 apply sJ;intro i;rw[yU];by_cases h:i=d
 ·subst h;by_cases h2:i<n
  ·rw[j7 (by simpa[tm]using h2)];simp[put,h2]
  ·simp[tm,h2]
 ·rw[gK (jl h),yU];simp[put,h]
theorem Ho(args:Array Value)(n:Nat)(h:args.size<=n):args++Array.replicate (n-args.size) undef=tm n (yT args):=by
 apply sJ;intro i;rw[yU,V1];by_cases h1:i<args.size
 ·have:i<n:=NR h1 h;simp[h1,this,yT,Array.getD]
 ·by_cases h2:i<n
  ·have:i-args.size<n-args.size:=ai;simp[h1,h2,this,yT,Array.getD]
  ·have:¬ i-args.size<n-args.size:=ai;simp[h1,h2,this]
inductive Kd where
 |qL|pR
def Kd.k:Kd->CallKind
 |.qL=>.normal
 |.pR=>.deferred
theorem Kd.early(kd:Kd):(kd.k==CallKind.early)=false:=by cases kd<;>rfl
def bq(fn:bJ)(kd:Kd)(n:Nat)(e:Nat->Value)(ds:List eo)(todo:List Item):Frame:={fn,tmps:=tm n e,todo,defers:=ds,mode:=.run,kind:=kd.k,roundOf:=none}
def gr(fn:bJ)(kd:Kd)(n:Nat)(e:Nat->Value)(ds:List eo)(todo:List Item)(cs:List Frame):aM:={frame:=bq fn kd n e ds todo,callers:=cs,status:=.running,dying:=none}
def qM(fn:bJ)(kd:Kd)(n:Nat)(e:Nat->Value)(ds:List eo)(todo:List Item):Frame:={bq fn kd n e ds todo with mode:=.returning}
def re(fn:bJ)(kd:Kd)(n:Nat)(e:Nat->Value)(ds:List eo)(todo:List Item)(cs:List Frame):aM:={frame:=qM fn kd n e ds todo,callers:=cs,status:=.running,dying:=none}
def fy(c:Frame)(cs:List Frame)(v:Value):aM:={frame:=c.finish v,callers:=cs,status:=.running,dying:=none}
def w5(c:Frame)(cs:List Frame):aM:={frame:=c,callers:=cs,status:=.running,dying:=none}
def iS(P:bL)(f:bJ)(args:Array Value)(kd:Kd)(cs:List Frame):aM:={frame:=Frame.enter P f args kd.k,callers:=cs,status:=.running,dying:=none}
theorem uQ(fn:bJ)(kd:Kd)(n:Nat)(e:Nat->Value)(ds:List eo)(todo:List Item):(bq fn kd n e ds todo).eval=ev n e:=by
 funext x
 cases x<;>simp only[Frame.eval,ev,bq];exact uP n e _
structure ab(P:bL)(ao:Bool)(B:kJ)(R:Nat->aM->Array Obj->Prop):Prop where
 step:∀ d g H,g.status=.running->(∀ w:World,w.heap=H->∃ g' w' es,stepG P ao g w=.go g' w' es/\w'.os=w.os/\w'.output=w.output/\ga B H w'.heap/\(∀ e∈es,AQ B w'.heap e)/\R (deafBehind d es) g' w'.heap)->R d g H
section
variable{P:bL}{ao:Bool}{B:kJ}{R:Nat->aM->Array Obj->Prop}{d:Nat}{H:Array Obj}
variable{fn:bJ}{kd:Kd}{n:Nat}{e:Nat->Value}{ds:List eo}{k:List Item}{cs:List Frame}
theorem ab.still(C:ab P ao B R){g g':aM}(hs:g.status=.running)(h:∀ w,stepG P ao g w=.go g' w #[])(hR:R d g' H):R d g H:=
 C.step d g H hs λw hw=>⟨g',w,#[],h w,rfl,rfl,hw▸ga.refl _,by simp,by rw[deafBehind_nil,hw];exact hR⟩
theorem ab.skip(C:ab P ao B R)(h:R d (gr fn kd n e ds k cs) H):R d (gr fn kd n e ds (.code .skip::k) cs) H:=
 C.still rfl (λw=>by simp[gr,bq,stepG,stepG.exec]) h
theorem ab.label(C:ab P ao B R){l:Nat}(h:R d (gr fn kd n e ds k cs) H):R d (gr fn kd n e ds (.code (.label l)::k) cs) H:=
 C.still rfl (λw=>by simp[gr,bq,stepG,stepG.exec]) h
theorem ab.inBlock(C:ab P ao B R){id:Nat}(h:R d (gr fn kd n e ds k cs) H):R d (gr fn kd n e ds (.inBlock id::k) cs) H:=
 C.still rfl (λw=>by simp[gr,bq,stepG,stepG.exec]) h
theorem ab.inScope(C:ab P ao B R){c:Code}(h:R d (gr fn kd n e ds k cs) H):R d (gr fn kd n e ds (.inScope c::k) cs) H:=
 C.still rfl (λw=>by simp[gr,bq,stepG,stepG.exec]) h
theorem ab.seq(C:ab P ao B R){x y:Code}(h:R d (gr fn kd n e ds (.code x:: .code y::k) cs) H):R d (gr fn kd n e ds (.code (.seq x y)::k) cs) H:=
 C.still rfl (λw=>by simp[gr,bq,stepG,stepG.exec]) h
theorem ab.block(C:ab P ao B R){id:Nat}{c:Code}(h:R d (gr fn kd n e ds (.code c:: .inBlock id::k) cs) H):R d (gr fn kd n e ds (.code (.block id c)::k) cs) H:=
 C.still rfl (λw=>by simp[gr,bq,stepG,stepG.exec]) h
theorem ab.loop(C:ab P ao B R){c:Code}(h:R d (gr fn kd n e ds (.code c:: .inLoop c::k) cs) H):R d (gr fn kd n e ds (.code (.loop c)::k) cs) H:=
 C.still rfl (λw=>by simp[gr,bq,stepG,stepG.exec]) h
theorem ab.inLoop(C:ab P ao B R){c:Code}(h:R d (gr fn kd n e ds (.code c:: .inLoop c::k) cs) H):R d (gr fn kd n e ds (.inLoop c::k) cs) H:=
 C.still rfl (λw=>by simp[gr,bq,stepG,stepG.exec]) h
theorem ab.scope(C:ab P ao B R){c:Code}(h:R d (gr fn kd n e ds (.code c:: .inScope c::k) cs) H):R d (gr fn kd n e ds (.code (.scope c)::k) cs) H:=
 C.still rfl (λw=>by simp[gr,bq,stepG,stepG.exec]) h
theorem ab.exit(C:ab P ao B R){id:Nat}{k':List Item}(hx:exitTo id k=some k')(h:R d (gr fn kd n e ds k' cs) H):R d (gr fn kd n e ds (.code (.exit id)::k) cs) H:=
 C.still rfl (λw=>by simp[gr,bq,stepG,stepG.exec,hx]) h
theorem ab.cond(C:ab P ao B R){c:cZ}{x y:Code}{t:Bool}(hc:ev n e c=.bool t)(h:R d (gr fn kd n e ds (.code (if t then x else y)::k) cs) H):R d (gr fn kd n e ds (.code (.cond c x y)::k) cs) H:=
 C.still rfl (λw=>by have:=uQ fn kd n e ds (.code (.cond c x y)::k);simp only[bq]at this;simp[gr,bq,stepG,stepG.exec,this,hc]) h
theorem ab.region(C:ab P ao B R){id:Nat}{ops:Array Oper}(h:R d (gr fn kd n e ds (.inRegion ops (List.range ops.size)::k) cs) H):R d (gr fn kd n e ds (.code (.region id ops false)::k) cs) H:=
 C.still rfl (λw=>by simp[gr,bq,stepG,stepG.exec]) h
theorem ab.Lt(C:ab P ao B R){ops:Array Oper}(h:R d (gr fn kd n e ds k cs) H):R d (gr fn kd n e ds (.inRegion ops []::k) cs) H:=
 C.still rfl (λw=>by simp[gr,bq,stepG,stepG.exec]) h
theorem ab.draw(C:ab P ao B R){id:Nat}{ops:Array Oper}(h:∀ t,R d (gr fn kd n e ds (.inRegion ops (Region.schedule (P.follows .mixedOrders) ops t)::k) cs) H):R d (gr fn kd n e ds (.code (.region id ops true)::k) cs) H:=
 C.step d _ H rfl λw hw=>⟨_,{w with drawn:=w.drawn+1},#[],by simp[gr,bq,stepG,stepG.exec,choose,Sem.run,Question.forced,Question.cut];rfl,rfl,rfl,hw▸ga.refl _,by simp,by rw[deafBehind_nil];show R d _ w.heap;rw[hw];exact h _⟩
theorem ab.ret(C:ab P ao B R)(h:R d (re fn kd n e ds (.code .ret::k) cs) H):R d (gr fn kd n e ds (.code .ret::k) cs) H:=
 C.still rfl (λw=>by simp[gr,re,qM,bq,stepG,stepG.exec]) h
theorem ab.fin(C:ab P ao B R)(h:R d (re fn kd n e ds [] cs) H):R d (gr fn kd n e ds [] cs) H:=
 C.still rfl (λw=>by simp[gr,re,qM,bq,stepG,stepG.exec]) h
theorem pg{es:Array Event}{fn:bJ}(h:∀ e∈es,AQ B H e):(∀ e∈seen P fn es,AQ B H e)/\deafBehind d (seen P fn es)=deafBehind d es:=by
 refine⟨λe he=>h e (mem_seen he),?_⟩;rw[seen_def];have key:∀ (quiet:bJ->Bool) (l:List Event) (q:Bool) (kept:Array Event),(∀ e∈l,AQ B H e)->deafBehind d (l.foldl (seenStep quiet) (q,kept)).2=deafBehind (deafBehind d kept) l.toArray:=by
  intro quiet l
  induction l with
  |nil=>intro q kept _;simp[deafBehind_nil]
  |cons x l ih=>
   intro q kept hl;have hx:=hl x (fY ..);have wV:∀ e∈l,AQ B H e:=λe he=>hl e (fp _ he);rw[mE,Go.ConcR.deafBehind_cons];obtain⟨loc,wr,sy⟩:=x;by_cases hm:∃ f,loc=.mark (.extern f)
   ·obtain⟨f,rfl⟩:=hm;simp only[seenStep];rw[ih _ _ wV,Go.ConcR.deafBehind_one (by simp) (by simp)]
   ·have dI:seenStep quiet (q,kept) ⟨loc,wr,sy⟩=(q,if q&& !sy then kept else kept.push ⟨loc,wr,sy⟩):=by
     unfold seenStep;simp only;split
     ·rename_i f;exact absurd ⟨_,rfl⟩ hm
     ·rfl
    rw[dI,ih _ _ wV];by_cases hq:(q&& !sy)=true
    ·rw[aG hq];have Sz:sy=false:=by revert hq;cases q<;>cases sy<;>simp
     have h1:loc≠ .mark .disable:=λz=>by subst z;simp[AQ,Sz]at hx
     have h2:loc≠ .mark .enable:=λz=>by subst z;simp[AQ,Sz]at hx
     rw[Go.ConcR.deafBehind_one h1 h2]
    ·rw[ax hq];have:kept.push ⟨loc,wr,sy⟩=kept++#[⟨loc,wr,sy⟩]:=by simp
     rw[this,fJ]
 have:=key (λf=>(P.funcs[f]?).any (·.norace)) es.toList ((P.funcs[fn]?).any (·.norace)) #[] (λe he=>h e (CP.1 he));rw[this,deafBehind_nil]
def upon(P:bL)(R:Nat->aM->Array Obj->Prop)(fn:bJ)(kd:Kd)(n:Nat)(e:Nat->Value)(ds:List eo)(ops:Array Oper)(i:Nat)(aa:List Nat)(k:List Item)(cs:List Frame)(dst:Option Nat)(d:Nat)(H:Array Obj):Next->Prop
 |.value v=>R d (gr fn kd n (dm e dst v) ds (.inRegion ops aa::k) cs) H
 |.skip=>R d (gr fn kd n (dm e dst undef) ds (.inRegion ops aa::k) cs) H
 |.enter f args=>R d (iS P f args .qL (bq fn kd n e ds (.inRegion ops (i::aa)::k)::cs)) H
 |.defer x=>R d (gr fn kd n (dm e dst undef) (x::ds) (.inRegion ops aa::k) cs) H
 |_=>False
theorem cf{ops:Array Oper}{i:Nat}{aa:List Nat}{o:Oper}(ho:ops[i]? =some o)(v:Value):(bq fn kd n e ds (.inRegion ops (i::aa)::k)).finish v=bq fn kd n (dm e o.dst v) ds (.inRegion ops aa::k):=by
 unfold Frame.finish bq;simp only[ho,nh];cases o.dst with
 |none=>rfl
 |some t=>simp only[OU,dm]
theorem ab.op(C:ab P ao B R){ops:Array Oper}{i:Nat}{aa:List Nat}{o:Oper}(ho:ops[i]? =some o)(hw:Region.wanted o (yielded ops (tm n e))=true)
  (h:dJ P B (execOp (ev n e) o) H d λx H' d'=>upon P R fn kd n e ds ops i aa k cs o.dst d' H' x):R d (gr fn kd n e ds (.inRegion ops (i::aa)::k) cs) H:=by
 refine C.step d _ H rfl λw np=>?_;obtain⟨x,w',es,d',r1,r2,r3,r4,r5,r6,r7⟩:=pe (w:=w) #[] np h;have AG:=kd.early;obtain⟨s1,s2⟩:=pg (P:=P) (d:=d) (fn:=fn) r5;rw[r6]at s2;have cG:stepG P ao (gr fn kd n e ds (.inRegion ops (i::aa)::k) cs) w=stepG.apply P true (bq fn kd n e ds (.inRegion ops (i::aa)::k)) cs none (execOp (ev n e) o) w:=by have he:=uQ fn kd n e ds (.inRegion ops (i::aa)::k);simp only[bq]at he;simp[gr,bq,stepG,stepG.exec,stepG.oper,Frame.oper?,ho,hw,he]
 simp only[xC,AL]at r1;rw[cG];cases x<;>first|exact r7.elim|skip
 ·refine⟨_,w',seen P fn es,?_,r2,r3,r4,s1,by rw[s2];exact r7⟩;simp only[stepG.apply,r1,eN];rw[cf ho];simp[bq,AG,GStep.after,gr]
 ·refine⟨_,w',seen P fn es,?_,r2,r3,r4,s1,by rw[s2];exact r7⟩;simp only[stepG.apply,r1,eN];rw[cf ho];simp[bq,AG,GStep.after,gr]
 ·refine⟨_,w',seen P fn es,?_,r2,r3,r4,s1,by rw[s2];exact r7⟩;simp only[stepG.apply,r1,eN];simp[bq,AG,GStep.after,iS];rfl
 ·refine⟨_,w',seen P fn es,?_,r2,r3,r4,s1,by rw[s2];exact r7⟩;rename_i x;have hf:=cf (fn:=fn) (kd:=kd) (n:=n) (e:=e) (ds:=x::ds) (k:=k) (aa:=aa) ho undef;simp only[bq]at hf;simp only[stepG.apply,r1,eN,bq];rw[hf];simp[bq,AG,GStep.after,gr]
theorem ab.Wt(C:ab P ao B R){ops:Array Oper}{i:Nat}{aa:List Nat}{o:Oper}(ho:ops[i]? =some o)(hw:Region.wanted o (yielded ops (tm n e))=false)
  (h:R d (gr fn kd n (dm e o.dst undef) ds (.inRegion ops aa::k) cs) H):R d (gr fn kd n e ds (.inRegion ops (i::aa)::k) cs) H:=by
 refine C.still rfl (λw=>?_) h;have hf:=cf (fn:=fn) (kd:=kd) (n:=n) (e:=e) (ds:=ds) (k:=k) (aa:=aa) ho undef;simp only[bq]at hf;simp only[gr,bq,stepG,stepG.exec,ho,jR,iA,hw,gn,eR,hf]
theorem m8{f:bJ}{fu:Func}{c:Code}{args:Array Value}(hf:P.funcs[f]? =some fu)(hb:fu.body=some c)(hn:args.size<=fu.ntmps):iS P f args kd cs=gr f kd fu.ntmps (yT args) [] [.code c] cs:=by unfold iS gr Frame.enter bq;simp only[hf,jR,iA,nh,hb,Ho _ _ hn]
theorem ab.back(C:ab P ao B R){todo:List Item}{fu:Func}{c:Frame}(hf:P.funcs[fn]? =some fu)(h:dJ P B (results fu (tm n e)) H d λv H' d'=>R d' (fy c cs v) H'):R d (re fn .qL n e [] todo (c::cs)) H:=by refine C.step d _ H rfl λw np=>?_;obtain⟨x,w',es,d',r1,r2,r3,r4,r5,r6,r7⟩:=pe (w:=w) #[] np h;obtain⟨s1,s2⟩:=pg (P:=P) (d:=d) (fn:=fn) r5;rw[r6]at s2;refine⟨_,w',seen P fn es,?_,r2,r3,r4,s1,by rw[s2];exact r7⟩;simp only[xC,AL]at r1;simp only[re,qM,bq,stepG,unwind,hf,r1,doReturn,Kd.k];simp[GStep.after,fy]
theorem ab.J0(C:ab P ao B R){todo:List Item}{fu:Func}{c:Frame}(hm:c.mode=.returning)(hf:P.funcs[fn]? =some fu)(h:dJ P B (results fu (tm n e)) H d λv H' d'=>R d' (w5 c cs) H'):R d (re fn .pR n e [] todo (c::cs)) H:=by refine C.step d _ H rfl λw np=>?_;obtain⟨x,w',es,d',r1,r2,r3,r4,r5,r6,r7⟩:=pe (w:=w) #[] np h;obtain⟨s1,s2⟩:=pg (P:=P) (d:=d) (fn:=fn) r5;rw[r6]at s2;refine⟨_,w',seen P fn es,?_,r2,r3,r4,s1,by rw[s2];exact r7⟩;simp only[xC,AL]at r1;simp only[re,qM,bq,stepG,unwind,hf,r1,doReturn,hm,Kd.k];simp[GStep.after,w5]
theorem ab.SA(C:ab P ao B R){todo:List Item}{x:eo}{f:bJ}{args:Array Value}(hx:x.target=.fn (.func f) #[]\/∃ cap,x.target=.fn (.func f) cap)
  (h:dJ P B (invoke x.target x.args) H d λy H' d'=>∃ f args,y=.enter f args/\R d' (iS P f args .pR (qM fn kd n e ds todo::cs)) H'):R d (re fn kd n e (x::ds) todo cs) H:=by
 refine C.step d _ H rfl λw np=>?_;obtain⟨y,w',es,d',r1,r2,r3,r4,r5,r6,f',uR,rfl,r7⟩:=pe (w:=w) #[] np h;obtain⟨s1,s2⟩:=pg (P:=P) (d:=d) (fn:=fn) r5;rw[r6]at s2;refine⟨_,w',seen P fn es,?_,r2,r3,r4,s1,by rw[s2];exact r7⟩;simp only[xC,AL]at r1;obtain⟨tg,ar⟩:=x;have:∃ cap,tg=.fn (.func f) cap:=hx.elim (λz=>⟨_,z⟩) id;obtain⟨cap,rfl⟩:=this;simp only[re,qM,bq,stepG,unwind,callDeferred,r1];simp[GStep.after,iS,Kd.k]
end
end
section
open Go.Conc
abbrev HL:=Nat->Option Obj
abbrev HP:=HL->Prop
def hp(H:Array Obj):HL:=λb=>H[b]?
def Sub(h h':HL):Prop:=∀ b o,h b=some o->h' b=some o
def less(h h1:HL):HL:=λb=>if(h1 b).isSome then none else h b
def Sat:List HP->HL->Prop
 |[],_=>True
 |A::As,h=>∃ h1,A h1/\Sub h1 h/\Sat As (less h h1)
def one(b:Nat)(o:Obj):HL:=λi=>if i=b then some o else none
def da(b:Nat)(o:Obj):HP:=λh=>h=one b o
def bD(I:HL):HP:=λh=>h=I
def all(l:List HP):HP:=Sat l
theorem Sub.refl(h:HL):Sub h h:=λ_ _ x=>x
theorem Sub.trans{a b c:HL}(h:Sub a b)(k:Sub b c):Sub a c:=λi o x=>k i o (h i o x)
theorem ns{h h1:HL}:Sub (less h h1) h:=λb o x=>by unfold less at x;split at x<;>simp_all
theorem BB{h h' h1:HL}(s:Sub h h'):Sub (less h h1) (less h' h1):=λb o x=>by
 unfold less at x⊢;split at x
 ·cases x
 ·rename_i z;rw[ax z];exact s _ _ x
theorem Sat.mono{As:List HP}:∀ {h h':HL},Sub h h'->Sat As h->Sat As h':=by
 induction As with
 |nil=>exact λ_ _=>trivial
 |cons A As ih=>
  rintro h h' s ⟨h1,a,s1,r⟩;exact⟨h1,a,s1.trans s,ih (BB s) r⟩
theorem OV{h h1 h2:HL}(s1:Sub h1 h)(s2:Sub h2 (less h h1)):Sub h1 (less h h2):=λb o x=>by
 unfold less;cases e:h2 b with
 |none=>simp;exact s1 _ _ x
 |some o'=>have:=s2 _ _ e;unfold less at this;rw[x]at this;simp at this
theorem Lu(h h1 h2:HL):less (less h h1) h2=less (less h h2) h1:=by funext b;unfold less;cases h1 b<;>cases h2 b<;>rfl
theorem Sat.swap{A B:HP}{As:List HP}{h:HL}(s:Sat (A::B::As) h):Sat (B::A::As) h:=by obtain⟨h1,a,s1,h2,b,s2,r⟩:=s;exact⟨h2,b,s2.trans ns,h1,a,OV s1 s2,by rw[Lu];exact r⟩
theorem Sat.perm{As Bs:List HP}(p:As.Perm Bs):∀ {h:HL},Sat As h->Sat Bs h:=by
 induction p with
 |nil=>exact id
 |cons x _ ih=>rintro h ⟨h1,a,s1,r⟩;exact⟨h1,a,s1,ih r⟩
 |swap x y l=>exact λs=>Sat.swap s
 |trans _ _ Lq yd=>exact λs=>yd (Lq s)
theorem Sat.drop{A:HP}{As:List HP}{h:HL}(s:Sat (A::As) h):Sat As h:=by obtain⟨h1,a,s1,r⟩:=s;exact r.mono ns
theorem Sat.imp{A B:HP}{As:List HP}{h:HL}(f:∀ h,A h->B h)(s:Sat (A::As) h):Sat (B::As) h:=by obtain⟨h1,a,s1,r⟩:=s;exact⟨h1,f _ a,s1,r⟩
theorem Sat.ex{X:Type}{A:X->HP}{As:List HP}{h:HL}(s:Sat ((λh=>∃ x,A x h)::As) h):∃ x,Sat (A x::As) h:=by obtain⟨h1,⟨x,a⟩,s1,r⟩:=s;exact⟨x,h1,a,s1,r⟩
theorem Sat.pure{p:Prop}{A:HP}{As:List HP}{h:HL}(s:Sat ((λh=>p/\A h)::As) h):p/\Sat (A::As) h:=by obtain⟨h1,⟨x,a⟩,s1,r⟩:=s;exact⟨x,h1,a,s1,r⟩
theorem Hp{h h1 h2:HL}(s:Sub h2 h1):less (less h h2) (less h1 h2)=less h h1:=by
 funext b
 unfold less;cases e2:h2 b with
 |none=>simp
 |some o=>rw[s _ _ e2];simp
theorem Sat.flat{l As:List HP}:∀ {h:HL},Sat (all l::As) h->Sat (l++As) h:=by
 induction l with
 |nil=>rintro h ⟨h1,a,s1,r⟩;exact r.mono ns
 |cons B l ih=>
  rintro h ⟨h1,⟨h2,b,s2,r2⟩,s1,r⟩;refine⟨h2,b,s2.trans s1,ih ⟨less h1 h2,r2,BB s1,?_⟩⟩;rw[Hp s2];exact r
def G8(h1 h2:HL):HL:=λb=>(h1 b).or (h2 b)
theorem Sat.iC{l As:List HP}:∀ {h:HL},Sat (l++As) h->Sat (all l::As) h:=by
 induction l with
 |nil=>intro h s;exact⟨λ_=>none,trivial,λ_ _ x=>(by cases x),(by
   have:less h (λ_=>none)=h:=by funext b;simp[less]
   rw[this];exact s)⟩
 |cons B l ih=>
  rintro h ⟨h2,b,s2,r⟩;obtain⟨h1,a,s1,r1⟩:=ih r;have hc:Sub h2 (G8 h2 h1):=λi o x=>by unfold G8;rw[x];rfl
  have hl:less (G8 h2 h1) h2=h1:=by
   funext i
   unfold less G8;cases e:h2 i with
   |none=>simp
   |some o=>
    simp;cases e':h1 i with
    |none=>rfl
    |some o'=>have:=s1 _ _ e';unfold less at this;rw[e]at this;simp at this
  refine⟨G8 h2 h1,⟨h2,b,hc,by rw[hl];exact a⟩,λi o x=>?_,?_⟩
  ·unfold G8 at x;cases e:h2 i with
   |none=>rw[e]at x;exact ns _ _ (s1 _ _ (by simpa using x))
   |some o'=>rw[e]at x;simp at x;subst x;exact s2 _ _ e
  ·have:less h (G8 h2 h1)=less (less h h2) h1:=by funext i;unfold less G8;cases h2 i<;>cases h1 i<;>rfl
   rw[this];exact r1
theorem Sat.under{A:HP}{As Bs:List HP}{h:HL}(f:∀ h,Sat As h->Sat Bs h)(s:Sat (A::As) h):Sat (A::Bs) h:=by obtain⟨h1,a,s1,r⟩:=s;exact⟨h1,a,s1,f _ r⟩
theorem Sat.get{b:Nat}{o:Obj}{As:List HP}{h:HL}(s:Sat (da b o::As) h):h b=some o:=by obtain⟨h1,rfl,s1,r⟩:=s;exact s1 b o (by simp[one])
theorem Sat.rh{I:HL}{As:List HP}{h:HL}(s:Sat (bD I::As) h){b:Nat}{o:Obj}(e:I b=some o):h b=some o:=by obtain⟨h1,rfl,s1,r⟩:=s;exact s1 b o e
theorem Hq{H:Array Obj}{o:Obj}{b:Nat}(h:b≠H.size):hp (H.push o) b=hp H b:=by
 unfold hp;rcases lH b H.size with h'|h'
 ·rw[V0 h',Ee h']
 ·have:H.size<b:=ai;have h1:(H.push o).size<=b:=by rw[Ld];omega
  rw[He h1,He h']
theorem C6{H:Array Obj}{o:Obj}:hp (H.push o) H.size=some o:=by unfold hp;simp
theorem SB{H:Array Obj}{b:Nat}(h:H.size<=b):hp H b=none:=by unfold hp;exact He h
theorem Sat.push{As:List HP}{H:Array Obj}(o:Obj)(s:Sat As (hp H)):Sat (da H.size o::As) (hp (H.push o)):=by
 refine⟨one H.size o,rfl,λb x e=>?_,s.mono λb x e=>?_⟩
 ·unfold one at e;split at e
  ·rename_i z;subst z;cases e;exact C6
  ·cases e
 ·have hb:b≠H.size:=λz=>by subst z;rw[SB (e8 _)]at e;cases e
  unfold less one;rw[ax hb];simp;rw[Hq hb];exact e
theorem Sat.set{b:Nat}{o o':Obj}{As:List HP}{H:Array Obj}(s:Sat (da b o::As) (hp H)):Sat (da b o'::As) (hp (H.setIfInBounds b o')):=by
 have hb:=s.get;have du:b<H.size:=(gV.1 hb).1;obtain⟨h1,rfl,s1,r⟩:=s;have hs:hp (H.setIfInBounds b o') b=some o':=by unfold hp;exact j7 du
 refine⟨one b o',rfl,λi x e=>?_,?_⟩
 ·unfold one at e;split at e
  ·rename_i z;subst z;cases e;exact hs
  ·cases e
 ·have:less (hp (H.setIfInBounds b o')) (one b o')=less (hp H) (one b o):=by
   funext i
   unfold less one;by_cases z:i=b
   ·simp[z]
   ·simp only[ax z,Lg];unfold hp;rw[gK (jl z)]
  rw[this];exact r
theorem Sat.freeze{b:Nat}{o:Obj}{I:HL}{As:List HP}{h:HL}(s:Sat (da b o::bD I::As) h):Sub I (G8 I (one b o))/\Sat (bD (G8 I (one b o))::As) h:=by
 obtain⟨h1,rfl,s1,h2,rfl,s2,r⟩:=s;have hn:h2 b=none:=by
  cases e:h2 b with
  |none=>rfl
  |some x=>have:=s2 _ _ e;unfold less one at this;simp at this
 refine⟨λi x e=>by unfold G8;rw[e];rfl,G8 h2 (one b o),rfl,λi x e=>?_,?_⟩
 ·unfold G8 at e;cases e2:h2 i with
  |some y=>rw[e2]at e;simp at e;subst e;exact ns _ _ (s2 _ _ e2)
  |none=>rw[e2]at e;simp at e;exact s1 _ _ e
 ·have:less h (G8 h2 (one b o))=less (less h (one b o)) h2:=by funext i;unfold less G8;cases h2 i<;>cases(one b o) i<;>rfl
  rw[this];exact r
inductive Has(b:Nat)(o:Obj):List HP->Prop
 |head {As:List HP}:Has b o (da b o::As)
 |tail {A:HP} {As:List HP}:Has b o As->Has b o (A::As)
inductive rj(b:Nat)(o o':Obj):List HP->List HP->Prop
 |head {As:List HP}:rj b o o' (da b o::As) (da b o'::As)
 |tail {A:HP} {As aP:List HP}:rj b o o' As aP->rj b o o' (A::As) (A::aP)
theorem Has.get{b:Nat}{o:Obj}{As:List HP}(x:Has b o As):∀ {h:HL},Sat As h->h b=some o:=by
 induction x with
 |head=>exact λs=>s.get
 |tail _ ih=>exact λs=>ih s.drop
def Kn(As:List HP)(b:Nat)(o:Obj):Prop:=∀ h,Sat As h->h b=some o
def Ext(As lN:List HP):Prop:=∀ h,Sat As h->Sat lN h
inductive Hr(W:List HP):List HP->List HP->Prop
 |refl {As:List HP}:Hr W As As
 |cons {X:HP} {As:List HP}:Hr W (X::As) As
 |of {aP As:List HP}:Ext aP W->Hr W aP As
theorem Has.kn{b:Nat}{o:Obj}{As:List HP}(x:Has b o As):Kn As b o:=λ_ s=>x.get s
theorem Ext.kn{b:Nat}{o:Obj}{As lN:List HP}(e:Ext As lN)(x:Has b o lN):Kn As b o:=λ_ s=>x.get (e _ s)
theorem Hr.ext{W As aP:List HP}(x:Hr W aP As)(e:Ext As W):Ext aP W:=by
 cases x with
 |refl=>exact e
 |cons=>exact λh s=>e h s.drop
 |of h=>exact h
theorem rj.has{b:Nat}{o o':Obj}{As aP:List HP}(x:rj b o o' As aP):Has b o As:=by
 induction x with
 |head=>exact .head
 |tail _ ih=>exact .tail ih
theorem rj.perm{b:Nat}{o o':Obj}{As aP:List HP}(x:rj b o o' As aP):∃ L,As.Perm (da b o::L)/\aP.Perm (da b o'::L):=by
 induction x with
 |@head As=>exact⟨As,.refl _,.refl _⟩
 |@tail A As aP _ ih=>
  obtain⟨L,h1,h2⟩:=ih;exact⟨A::L,(h1.cons A).trans (.swap _ _ _),(h2.cons A).trans (.swap _ _ _)⟩
theorem rj.set{b:Nat}{o o':Obj}{As aP:List HP}(x:rj b o o' As aP){H:Array Obj}(s:Sat As (hp H)):Sat aP (hp (H.setIfInBounds b o')):=by obtain⟨L,h1,h2⟩:=x.perm;exact(s.perm h1).set.perm h2.symm
def At(R:Nat->aM->Array Obj->Prop)(d:Nat)(As:List HP)(g:aM):Prop:=∀ H,Sat As (hp H)->R d g H
variable{R:Nat->aM->Array Obj->Prop}{d:Nat}{As Bs:List HP}{g:aM}
theorem At.perm(p:As.Perm Bs)(h:At R d Bs g):At R d As g:=λH s=>h H (s.perm p)
theorem At.flat{l:List HP}(h:At R d (l++As) g):At R d (all l::As) g:=λH s=>h H s.flat
theorem At.iC{l:List HP}(h:At R d (all l::As) g):At R d (l++As) g:=λH s=>h H s.iC
theorem At.freeze{b:Nat}{o:Obj}{I:HL}(h:∀ I',Sub I I'->I' b=some o->At R d (bD I'::As) g):At R d (da b o::bD I::As) g:=λH s=>
 have z:=s.freeze
 h _ z.1 (by
  obtain⟨h1,rfl,s1,h2,rfl,s2,r⟩:=s;unfold G8;cases e:h2 b with
  |none=>simp[one]
  |some x=>have:=s2 _ _ e;unfold less one at this;simp at this) H z.2
theorem Has.au{b:Nat}{o:Obj}{L:List HP}(h:Has b o L:=by(repeat(first|with_reducible exact Has.head|with_reducible apply Has.tail));done):Has b o L:=h
def SC:List Oper->Nat->Option Oper
 |[],_=>none
 |o::_,0=>some o
 |_::l,i+1=>SC l i
def aZ(ops:Array Oper)(i:Nat):Option Oper:=SC ops.toList i
theorem J3:∀ (l:List Oper) (i:Nat),l[i]? =SC l i
 |[],_=>rfl
 |o::_,0=>rfl
 |_::l,i+1=>by rw[Sd];exact J3 l i
theorem dv(ops:Array Oper)(i:Nat):ops[i]? =aZ ops i:=by unfold aZ;rw[<- J3];simp
def cL:Code->Code|.seq a _=>a|c=>c
def cR:Code->Code|.seq _ b=>b|c=>c
def cT:Code->Code|.cond _ a _=>a|c=>c
def cE:Code->Code|.cond _ _ b=>b|c=>c
def cC:Code->cZ|.cond x _ _=>x|_=>.tmp 0
def cB:Code->Code|.block _ c=>c|.loop c=>c|.scope c=>c|c=>c
def cI:Code->Nat|.block i _=>i|.exit i=>i|.region i _ _=>i|_=>0
def cO:Code->Array Oper|.region _ ops _=>ops|_=>#[]
inductive CK where
 |skip|label|seq|cond|block|loop|scope|exit|region|draw|ret|other
def ck:Code->CK
 |.skip=>.skip|.label _=>.label|.seq .. =>.seq|.cond .. =>.cond|.block .. =>.block|.loop _=>.loop|.scope _=>.scope|.exit _=>.exit
 |.region _ _ false=>.region|.region _ _ true=>.draw|.ret=>.ret|_=>.other
theorem fN{c:Code}{x:CK}(h:ck c=x):match x with
  |.skip=>c=.skip
  |.label=>∃ l,c=.label l
  |.seq=>c=.seq (cL c) (cR c)
  |.cond=>c=.cond (cC c) (cT c) (cE c)
  |.block=>c=.block (cI c) (cB c)
  |.loop=>c=.loop (cB c)
  |.scope=>c=.scope (cB c)
  |.exit=>c=.exit (cI c)
  |.region=>c=.region (cI c) (cO c) false
  |.draw=>c=.region (cI c) (cO c) true
  |.ret=>c=.ret
  |.other=>True:=by
 subst h;cases c<;>first|rfl|exact⟨_,rfl⟩|trivial|skip
 rename_i a b d;cases d<;>rfl
def ctl:Nat->List Item->List Item
 |0,k=>k
 |n+1,k=>match k with
  |.inBlock _::k|.inScope _::k|.inRegion _ []::k=>ctl n k
  |.code c::k=>match ck c with
   |.skip|.label=>ctl n k
   |.seq=>ctl n (.code (cL c):: .code (cR c)::k)
   |.block=>ctl n (.code (cB c):: .inBlock (cI c)::k)
   |.scope=>ctl n (.code (cB c):: .inScope (cB c)::k)
   |.exit=>match exitTo (cI c) k with|some k'=>ctl n k'|none=>.code c::k
   |_=>.code c::k
  |k=>k
def rk(e:Nat->Value):List (Nat×Value)->Nat->Value
 |[]=>e
 |(i,v)::l=>put (rk e l) i v
def jV(e:Nat->Value):List (Nat×Value)->Prop
 |[]=>True
 |(i,v)::l=>e i=v/\jV e l
theorem j5{e:Nat->Value}:∀ {l:List (Nat×Value)},jV e l->rk e l=e
 |[],_=>rfl
 |(i,v)::l,h=>by
  unfold rk;rw[j5 h.2]
  funext j
  unfold put;by_cases z:j=i
  ·subst z;simp[h.1]
  ·simp[z]
def Hs(ops:Array Oper)(n:Nat)(e:Nat->Value)(j:Nat):Option Bool:=
 match aZ ops j with
 |some o=>match o.dst with
  |some t=>if t<n then(match e t with|.bool b=>some b|_=>none)else none
  |none=>none
 |none=>none
def aL(ops:Array Oper)(n:Nat)(e:Nat->Value):Option (Nat×Bool)->Bool
 |none=>true
 |some (j,w)=>Hs ops n e j==some w
theorem eH(ops:Array Oper)(n:Nat)(e:Nat->Value)(o:Oper):Region.wanted o (yielded ops (tm n e))=aL ops n e o.guard:=by
 unfold Region.wanted aL;cases o.guard with
 |none=>rfl
 |some p=>
  obtain⟨j,w⟩:=p;simp only;have:yielded ops (tm n e) j=Hs ops n e j:=by
   unfold yielded Hs;rw[dv];cases aZ ops j with
   |none=>rfl
   |some o'=>
    simp only[nh];cases o'.dst with
    |none=>rfl
    |some t=>
     simp only[nh,yU];by_cases ht:t<n
     ·simp only[aG ht];generalize e t=v;cases v<;>rfl
     ·simp[ht]
  rw[this]
variable{P:bL}{ao:Bool}{B:kJ}
variable{fn:bJ}{kd:Kd}{n:Nat}{e:Nat->Value}{ds:List eo}{k:List Item}{cs:List Frame}
theorem ab.gw(C:ab P ao B R):∀ (m:Nat) (k:List Item),At R d As (gr fn kd n e ds (ctl m k) cs)->At R d As (gr fn kd n e ds k cs)
 |0,_,h=>h
 |m+1,k,h=>by
  intro H s;unfold ctl at h;split at h
  ·exact C.inBlock (C.gw m _ h H s)
  ·exact C.inScope (C.gw m _ h H s)
  ·exact C.Lt (C.gw m _ h H s)
  ·rename_i c k';split at h
   ·rename_i hc;have:=fN hc;simp only at this;rw[this];exact C.skip (C.gw m _ h H s)
   ·rename_i hc;obtain⟨l,e⟩:=fN hc;rw[e];exact C.label (C.gw m _ h H s)
   ·rename_i hc;have:=fN hc;simp only at this;rw[this];exact C.seq (C.gw m _ h H s)
   ·rename_i hc;have:=fN hc;simp only at this;rw[this];exact C.block (C.gw m _ h H s)
   ·rename_i hc;have:=fN hc;simp only at this;rw[this];exact C.scope (C.gw m _ h H s)
   ·rename_i hc;split at h
    ·rename_i k'' hx;have:=fN hc;simp only at this;rw[this];exact C.exit hx (C.gw m _ h H s)
    ·exact h H s
   ·exact h H s
  ·exact h H s
theorem ab.go(C:ab P ao B R){k':List Item}(h:At R d As (gr fn kd n e ds k' cs))(hk:ctl 60 k=k':=by conv=>{lhs;whnf}):At R d As (gr fn kd n e ds k cs):=C.gw 60 k (hk▸h)
theorem ab.cT'(C:ab P ao B R){c:Code}(h:At R d As (gr fn kd n e ds (.code (cT c)::k) cs))(hc:ck c=.cond:=by rfl)(hb:ev n e (cC c)=.bool true:=by rfl):At R d As (gr fn kd n e ds (.code c::k) cs):=λH s=>by have z:=fN hc;simp only at z;rw[z];exact C.cond hb (h H s)
theorem ab.cF'(C:ab P ao B R){c:Code}(h:At R d As (gr fn kd n e ds (.code (cE c)::k) cs))(hc:ck c=.cond:=by rfl)(hb:ev n e (cC c)=.bool false:=by rfl):At R d As (gr fn kd n e ds (.code c::k) cs):=λH s=>by have z:=fN hc;simp only at z;rw[z];exact C.cond hb (h H s)
theorem ab.Lv(C:ab P ao B R){c:Code}{k':List Item}(h:At R d As (gr fn kd n e ds k' cs))(hc:ck c=.cond:=by rfl)(hb:ev n e (cC c)=.bool true:=by rfl)(hk:ctl 60 (.code (cT c)::k)=k':=by conv=>{lhs;whnf}):At R d As (gr fn kd n e ds (.code c::k) cs):=C.cT' (C.go h hk) hc hb
theorem ab.C7(C:ab P ao B R){c:Code}{k':List Item}(h:At R d As (gr fn kd n e ds k' cs))(hc:ck c=.cond:=by rfl)(hb:ev n e (cC c)=.bool false:=by rfl)(hk:ctl 60 (.code (cE c)::k)=k':=by conv=>{lhs;whnf}):At R d As (gr fn kd n e ds (.code c::k) cs):=C.cF' (C.go h hk) hc hb
theorem ab.rg(C:ab P ao B R){c:Code}(l:List Nat)(h:At R d As (gr fn kd n e ds (.inRegion (cO c) l::k) cs))(hc:ck c=.region:=by rfl)(hl:List.range (cO c).size=l:=by rfl):At R d As (gr fn kd n e ds (.code c::k) cs):=λH s=>by subst hl;have z:=fN hc;simp only at z;rw[z];exact C.region (h H s)
theorem ab.dr(C:ab P ao B R){c:Code}(h:∀ t,At R d As (gr fn kd n e ds (.inRegion (cO c) (Region.schedule (P.follows .mixedOrders) (cO c) t)::k) cs))(hc:ck c=.draw:=by rfl):At R d As (gr fn kd n e ds (.code c::k) cs):=λH s=>by have z:=fN hc;simp only at z;rw[z];exact C.draw λt=>h t H s
theorem ab.lp(C:ab P ao B R){c:Code}(h:At R d As (gr fn kd n e ds (.code (cB c):: .inLoop (cB c)::k) cs))(hc:ck c=.loop:=by rfl):At R d As (gr fn kd n e ds (.code c::k) cs):=λH s=>by have z:=fN hc;simp only at z;rw[z];exact C.loop (h H s)
theorem ab.Wu(C:ab P ao B R){c:Code}(h:At R d As (gr fn kd n e ds (.code c:: .inLoop c::k) cs)):At R d As (gr fn kd n e ds (.inLoop c::k) cs):=λH s=>C.inLoop (h H s)
theorem ab.aak(C:ab P ao B R){c:Code}{X:Type}(L:X->List (Nat×Value))(I:X->List HP)(Ok:X->Prop)(m:X->Nat)(x0:X)(he:jV e (L x0))(hI:As=I x0)(mG:Ok x0)
  (step:∀ x e,Ok x->(∀ y e',jV e' (L y)->Ok y->m y<m x->At R d (I y) (gr fn kd n e' ds (.inLoop (cB c)::k) cs))->At R d (I x) (gr fn kd n (rk e (L x)) ds (.code (cB c):: .inLoop (cB c)::k) cs))
  (hc:ck c=.loop:=by rfl):At R d As (gr fn kd n e ds (.code c::k) cs):=by
 have key:∀ (N:Nat) (x:X) (e:Nat->Value),m x=N->jV e (L x)->Ok x->At R d (I x) (gr fn kd n e ds (.inLoop (cB c)::k) cs):=by
  intro N
  induction N using Nat.strongRecOn with
  |ind N ih=>
   intro x e hm he mG;refine C.Wu ?_;rw[<- j5 he];exact step x e mG λy e' xM hy du=>ih (m y) ai y e' rfl xM hy
 refine C.lp ?_ hc;subst hI;rw[<- j5 he];exact step x0 e mG λy e' xM hy du=>key _ y e' rfl xM hy
def aal(P:bL)(R:Nat->aM->Array Obj->Prop)(fn:bJ)(kd:Kd)(n:Nat)(e:Nat->Value)(ds:List eo)(ops:Array Oper)(i:Nat)(aa:List Nat)(k:List Item)(cs:List Frame)(dst:Option Nat)(As:List HP)(d:Nat):Next->Prop
 |.value v=>At R d As (gr fn kd n (dm e dst v) ds (.inRegion ops aa::k) cs)
 |.skip=>At R d As (gr fn kd n (dm e dst undef) ds (.inRegion ops aa::k) cs)
 |.enter f args=>At R d As (iS P f args .qL (bq fn kd n e ds (.inRegion ops (i::aa)::k)::cs))
 |.defer x=>At R d As (gr fn kd n (dm e dst undef) (x::ds) (.inRegion ops aa::k) cs)
 |_=>False
variable{ops:Array Oper}{i:Nat}{aa:List Nat}{dst:Option Nat}{t:Nat}{ty:aO}{pos:String}{af:Array Edge}{gd:Option (Nat×Bool)}
theorem ab.gen(C:ab P ao B R){o:Oper}(ho:aZ ops i=some o)(hw:aL ops n e o.guard=true)
  (h:∀ H,Sat As (hp H)->dJ P B (execOp (ev n e) o) H d λx H' d'=>∃ aP,Sat aP (hp H')/\aal P R fn kd n e ds ops i aa k cs o.dst aP d' x):At R d As (gr fn kd n e ds (.inRegion ops (i::aa)::k) cs):=λH s=>by
 refine C.op (by rw[dv];exact ho) (by rw[eH];exact hw) (pd (λx H' d' q=>?_) (h H s));obtain⟨aP,s',q⟩:=q;cases x<;>first|exact q.elim|exact q H' s'
theorem ab.no(C:ab P ao B R){op:Op}(ho:aZ ops i=some ⟨dst,op,ty,pos,af,gd⟩)(h:At R d As (gr fn kd n (dm e dst undef) ds (.inRegion ops aa::k) cs))(hw:aL ops n e gd=false:=by rfl):
  At R d As (gr fn kd n e ds (.inRegion ops (i::aa)::k) cs):=λH s=>C.Wt (by rw[dv];exact ho) (by rw[eH];exact hw) (h H s)
def Pu(P:bL){α:Type}(s:Sem α)(v:α):Prop:=∀ (B:kJ) (H:Array Obj) (d:Nat) (Q:α->Array Obj->Nat->Prop),Q v H d->dJ P B s H d Q
theorem Pu.pure{α:Type}(v:α):Pu P (Sem.pure v) v:=λ_ _ _ _ h=>h
theorem Pu.bind{α β:Type}{s:Sem α}{f:α->Sem β}{a:α}{b:β}(h:Pu P s a)(k:Pu P (f a) b):Pu P (s >>= f) b:=λB H d Q q=>ae (h B H d _ (k B H d Q q))
theorem ab.val(C:ab P ao B R){op:Op}{v:Value}(ho:aZ ops i=some ⟨some t,op,ty,pos,af,gd⟩)(hw:aL ops n e gd=true)(hy:Pu P (execOp (ev n e) ⟨some t,op,ty,pos,af,gd⟩) (.value v))
  (h:At R d As (gr fn kd n (put e t v) ds (.inRegion ops aa::k) cs)):At R d As (gr fn kd n e ds (.inRegion ops (i::aa)::k) cs):=
 C.gen ho hw λH s=>hy _ _ _ _ ⟨As,s,h⟩
def xN(kd:Kd)(c:Frame):Prop:=match kd with|.qL=>True|.pR=>c.mode=.returning
def after(kd:Kd)(c:Frame)(cs:List Frame)(v:Value):aM:=match kd with|.qL=>fy c cs v|.pR=>w5 c cs
def aI(P:bL)(ao:Bool)(B:kJ)(f:bJ)(args:Array Value)(A:List HP)(Q:Value->List HP->Prop):Prop:=
 ∀ (R:Nat->aM->Array Obj->Prop),ab P ao B R->∀ (kd:Kd) (d:Nat) (F:List HP) (c:Frame) (cs:List Frame),xN kd c->(∀ v aP,Q v aP->At R d (aP++F) (after kd c cs v))->At R d (A++F) (iS P f args kd (c::cs))
theorem aI.post{f:bJ}{args:Array Value}{A:List HP}{Q Q':Value->List HP->Prop}(h:aI P ao B f args A Q)(hq:∀ v aP,Q v aP->Q' v aP):aI P ao B f args A Q':=
 λR C kd d F c cs aT hr=>h R C kd d F c cs aT λv aP q=>hr v aP (hq v aP q)
class Body(P:bL)(f:bJ)(fu:outParam Func)(c:outParam Code)(n:outParam Nat):Prop where
 func:P.funcs[f]? =some fu
 name:(fu.name== "runtime.NumGoroutine")=false
 body:fu.body=some c
 tmps:fu.ntmps=n
theorem aI.of{f:bJ}{fu:Func}{c:Code}{n:Nat}[b:Body P f fu c n]{args:Array Value}{A:List HP}{Q:Value->List HP->Prop}(h:∀ (R:Nat->aM->Array Obj->Prop),ab P ao B R->∀ (kd:Kd) (d:Nat) (F:List HP) (c':Frame) (cs:List Frame),xN kd c'->(∀ v aP,Q v aP->At R d (aP++F) (after kd c' cs v))->At R d (A++F) (gr f kd n (yT args) [] [.code c] (c'::cs)))(hn:Nat.ble args.size n=true:=by rfl):aI P ao B f args A Q:=by intro R C kd d F c' cs aT hr;have:=b.tmps;subst this;rw[m8 b.func b.body (xD hn)];exact h R C kd d F c' cs aT hr
theorem nY{f:bJ}{fu:Func}{c:Code}{n:Nat}[b:Body P f fu c n](args:Array Value):Pu P (callFunc f args) (.enter f args):=by intro B H d Q q;unfold callFunc;refine ae ?_;show dJ P B _ _ _ _;simp only[program,dJ,b.func,b.name,b.body];exact q
theorem po{o:Oper}(ho:aZ ops i=some o)(v:Value):fy (bq fn kd n e ds (.inRegion ops (i::aa)::k)) cs v=gr fn kd n (dm e o.dst v) ds (.inRegion ops aa::k) cs:=by unfold fy gr;rw[cf (by rw[dv];exact ho)]
theorem ab.cl(C:ab P ao B R){f:bJ}{fu:Func}{c:Code}{nf:Nat}[b:Body P f fu c nf]{fo:cZ}{args:Array cZ}{gy:Array aO}{vl:List Value}{A F:List HP}{Q:Value->List HP->Prop}(hs:aI P ao B f vl.toArray A Q)
  (h:∀ v aP,Q v aP->At R d (aP++F) (gr fn kd n (dm e dst v) ds (.inRegion ops aa::k) cs))
  (ho:aZ ops i=some ⟨dst,.call ⟨.value fo,args,gy⟩,ty,pos,af,gd⟩:=by rfl) (hw:aL ops n e gd=true:=by rfl) (hf:ev n e fo=.func (.func f) #[] #[]:=by rfl) (hv:args.toList.map (ev n e)=vl:=by rfl):At R d (A++F) (gr fn kd n e ds (.inRegion ops (i::aa)::k) cs):=by
 refine C.gen ho hw λH s=>?_;unfold execOp;simp only;refine ae ?_;have qK:args.map (ev n e)=vl.toArray:=by rw[<- hv,<- qZ,tC]
 simp only[resolve,hf,Deferred.ofValue,qK];refine ae ?_;show dJ P B _ _ _ _;simp only[AL];show dJ P B (invoke (.fn (.func f) #[]) vl.toArray) H d _;unfold invoke;simp only[xC];refine nY (P:=P) vl.toArray B H d _ ⟨A++F,s,?_⟩;exact hs R C .qL d F _ cs trivial λv aP q=>by show At R d (aP++F) (fy _ cs v);rw[po ho];exact h v aP q
def tK(fu:Func)(n:Nat)(e:Nat->Value):Option Value:=
 match fu.results.toList with
 |[]=>some (.tuple #[])
 |[.tmp t]=>some (if t<n then e t else undef)
 |[.tmp t,.tmp u]=>some (.tuple #[if t<n then e t else undef,if u<n then e u else undef])
 |[.tmp t,.tmp u,.tmp x]=>some (.tuple #[if t<n then e t else undef,if u<n then e u else undef,if x<n then e x else undef])
 |_=>none
theorem yV{fu:Func}{v:Value}(h:tK fu n e=some v):Pu P (results fu (tm n e)) v:=by
 have key:results fu (tm n e)=(pure v:Sem Value):=by
  unfold tK at h;have hl:fu.results=fu.results.toList.toArray:=by simp
  generalize fu.results.toList=l at h hl;split at h<;>first|(cases h;done)|skip
  all_goals(simp only[wP]at h;subst h)
  all_goals simp[results,hl,<- uP, -Array.getD_eq_getD_getElem?]
 rw[key];exact Pu.pure v
theorem ab.home(C:ab P ao B R){fu:Func}{c:Frame}{v:Value}{kR:List Item}(hf:P.funcs[fn]? =some fu)(aT:xN kd c)(hv:tK fu n e=some v)(h:At R d As (after kd c cs v)):At R d As (re fn kd n e [] kR (c::cs)):=λH s=>by
 cases kd with
 |qL=>exact C.back hf (yV hv B H d _ (h H s))
 |pR=>exact C.J0 aT hf (yV hv B H d _ (h H s))
theorem ab.OW(C:ab P ao B R){fu:Func}{cc:Code}{n':Nat}[b:Body P fn fu cc n']{c:Frame}{v:Value}{x:Code}(aT:xN kd c)(h:At R d As (after kd c cs v))(hv:tK fu n e=some v:=by rfl)(hx:ck x=.ret:=by rfl):At R d As (gr fn kd n e [] (.code x::k) (c::cs)):=λH s=>by have z:=fN hx;simp only at z;subst z;exact C.ret (C.home b.func aT hv h H s)
theorem ab.aam(C:ab P ao B R){fu:Func}{cc:Code}{n':Nat}[b:Body P fn fu cc n']{c:Frame}{v:Value}(aT:xN kd c)(h:At R d As (after kd c cs v))(hv:tK fu n e=some v:=by rfl):At R d As (gr fn kd n e [] [] (c::cs)):=λH s=>C.fin (C.home b.func aT hv h H s)
end
end Go.Sl
