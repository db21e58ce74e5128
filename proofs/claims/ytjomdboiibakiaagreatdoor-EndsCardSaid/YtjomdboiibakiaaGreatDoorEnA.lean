/-
  Texts that the proof needs, joined: part 1.
-/
import Derived.Test.YtjomdboiibakiaaGreatDoorProg
import Derived.Conc.Token
import Derived.Conc.MarkLaws
import Derived.Conc.JoinTrace
import Derived.Laws.Sem
set_option linter.unusedSimpArgs false
set_option linter.unusedVariables false
set_option maxHeartbeats 4000000
namespace Go.Sl
open Go.Proofs.Tryz
variable{p:Prop}{a:Addr}{x g i r n' d b id:Nat}{c:Code}{v:Value}{sl:Option (Nat×Nat)}{pos:String}{es:Array Event}{o:Oper}{fz:Nat×Nat}{w:World}{pk:Bool}{Post:Value->World->Prop}{X:Type}{k' todo:List Item}{O:Array Oper}{aa:List Nat}{fu:Func}{args:Array Value}
abbrev ZH:=@Array.mem_append
abbrev LO:=@Option.map_eq_some_iff
abbrev qq2:=@Array.mem_iff_getElem
abbrev Gu:=@Array.getElem?_eq_getElem
abbrev qq4:=@Array.getElem?_append_right
abbrev zJ:=@Option.some.injEq
abbrev fC:=@Nat.le_refl
abbrev qO:=@List.mem_toArray
abbrev gU:=@List.mem_cons
abbrev nY:=@List.not_mem_nil
abbrev gR:=@or_false
abbrev cA:=@Option.some.inj
abbrev fq:=@if_true
abbrev eQ:=@if_false
abbrev VJ:=@Array.mem_of_getElem?
abbrev lP:=@Nat.lt_or_ge
abbrev JL:=@Array.getElem?_eq_none
abbrev iF:=@Array.getElem?_eq_some_iff
abbrev ir:=@Array.getElem?_setIfInBounds_ne
abbrev GH:=@Array.getElem?_map
abbrev lQ:=@Option.map_some
abbrev lh:=@Array.getElem?_setIfInBounds_self_of_lt
abbrev fp:=@Nat.zero_le
abbrev NO:=@Array.size_setIfInBounds
abbrev oM:=@Option.isSome_iff_exists
abbrev JM:=@Array.append_assoc
abbrev QR:=@Array.getElem?_push
abbrev ax:=@if_neg
abbrev aJ:=@if_pos
abbrev VK:=@beq_eq_false_iff_ne
abbrev j6:=@Ne.symm
abbrev NP:=@Array.size_push
abbrev NQ:=@Nat.eq_zero_or_pos
abbrev uJ:=@Array.ext_getElem?
abbrev VL:=@Array.getElem?_modify
abbrev GI:=@Option.isSome_none
abbrev fW:=@Bool.false_eq_true
abbrev qP:=@List.nodup_cons
abbrev nN:=@List.length_cons
abbrev GJ:=@Nat.le_trans
abbrev JN:=@Prod.mk.inj
abbrev ZI:=@Array.getElem?_push_lt
abbrev fJ:=@List.cons_append
abbrev dR:=@List.mem_singleton
abbrev QS:=@Nat.lt_of_lt_of_le
abbrev ZJ:=@Array.getElem?_append
abbrev fX:=@List.mem_cons_self
abbrev fg:=@List.mem_cons_of_mem
abbrev qQ:=@List.foldl_cons
abbrev E3:=@Array.mem_toList_iff
abbrev Ai:=@Option.bind_some
abbrev zj:=@Array.append_empty
abbrev CL:=@Array.empty_append
abbrev iG:=@Option.getD_some
abbrev VM:=@List.getElem?_cons_succ
abbrev zk:=@Nat.le_of_ble_eq_true
abbrev sx:=@Array.toList_map
abbrev vo:=@Array.toArray_toList
abbrev ZK:=@Array.getElem?_extract
abbrev QT:=@Nat.ne_of_lt
abbrev adL:=@Array.getElem?_setIfInBounds
abbrev lR:=@Nat.zero_add
abbrev VN:=@List.size_toArray
abbrev CM:=@List.length_nil
abbrev VO:=@List.extract_toArray
abbrev VP:=@List.extract_eq_take_drop
abbrev QU:=@List.drop_zero
abbrev ZL:=@List.take_zero
abbrev Aj:=@List.setIfInBounds_toArray
abbrev Ak:=@List.set_cons_succ
abbrev uK:=@List.set_cons_zero
abbrev VQ:=@List.toList_toArray
abbrev JO:=@not_true_eq_false
abbrev ZM:=@List.mapM_cons
abbrev GK:=@List.flatMap_cons
abbrev iV:=@List.length_append
abbrev rS:=@Nat.add_mul
abbrev QV:=@Nat.zero_mul
abbrev rT:=@List.append_assoc
abbrev ZN:=@List.getElem_cons_zero
abbrev pT:=@List.getElem?_append_left
abbrev E4:=@List.getElem?_append_right
abbrev ek:=@List.nil_append
abbrev JP:=@List.getElem?_toArray
abbrev QW:=@List.length_eq_zero_iff
abbrev nO:=@List.length_take
abbrev CN:=@Nat.min_eq_left
abbrev ZO:=@List.set_eq_take_append_cons_drop
abbrev ZP:=@List.set_append_right
abbrev ZQ:=@Nat.add_sub_cancel_left
abbrev CO:=@List.map_toArray
abbrev jq:=@List.map_cons
abbrev ny:=@List.map_nil
abbrev QX:=@List.getElem?_cons_zero
abbrev NR:=@Bool.not_false
abbrev GL:=@Nat.mul_le_mul_right
abbrev E5:=@List.mem_flatMap
abbrev E6:=@List.length_drop
abbrev ZR:=@Array.foldl_toList
abbrev ZS:=@Array.toList_zipIdx
abbrev lS:=@List.append_nil
abbrev Al:=@Nat.mod_eq_of_lt
abbrev LP:=@Option.map_none
abbrev Ds:=@List.pairwise_iff_getElem
abbrev dd:=@List.getElem?_eq_some_iff
abbrev Dt:=@Nat.lt_trichotomy
abbrev yz:=@List.mem_map_of_mem
abbrev jc:=@List.nodup_append
abbrev GM:=@Prod.mk.injEq
abbrev jJ:=@List.getElem?_map
abbrev Du:=@List.ext_getElem?
abbrev Dv:=@List.getElem?_modify
abbrev wi:=@List.getElem?_set
abbrev cq:=@List.mem_map
abbrev eW:=@List.map_append
abbrev bS:=@List.mem_append
abbrev kL:=@List.eraseIdx_sublist
abbrev jK:=@Bool.and_eq_true
abbrev lz:=@List.all_eq_true
abbrev gW:=@List.mem_filter
abbrev Am:=@Bool.or_eq_true
abbrev uU:=@beq_iff_eq
abbrev uV:=@List.any_eq_true
abbrev GN:=@Bool.not_eq_true'
abbrev iA:=@List.mem_range
abbrev rz:=@decide_eq_true_eq
abbrev GP:=@List.nodup_nil
abbrev QY:=@List.perm_cons_erase
abbrev fD:=@List.mem_append_right
abbrev iq:=@List.mem_append_left
abbrev QZ:=@List.perm_middle
abbrev GQ:=@List.reverse_nil
abbrev GR:=@Nat.mod_lt
abbrev cQ:=@List.getElem?_eq_getElem
abbrev dG:=@List.getElem_mem
abbrev rA:=@List.filter_append
abbrev Q0:=@Nat.pos_iff_ne_zero
abbrev LQ:=@List.drop_drop
abbrev wj:=@List.take_append_drop
abbrev Q1:=@Array.mapM_eq_mapM_toList
abbrev Q2:=@map_eq_pure_bind
abbrev eF:=@List.length_set
abbrev Q3:=@List.eraseIdx_eq_take_drop_succ
abbrev sA:=@List.drop_eq_getElem_cons
abbrev Yf:=@List.perm_append_singleton
abbrev An:=@dif_pos
abbrev LR:=@Classical.choose_spec
abbrev pU:=@true_and
abbrev LS:=@Bool.and_false
abbrev LU:=@List.getElem?_take_of_lt
abbrev yA:=@Bool.false_and
abbrev Dw:=@List.mem_iff_getElem
abbrev bD:=@List.mem_of_getElem?
abbrev uW:=@List.mem_of_mem_eraseIdx
abbrev uX:=@Bool.not_true
abbrev gk:=@List.mem_or_eq_of_mem_set
abbrev LV:=@List.set_getElem_self
abbrev iR:=@List.length_singleton
abbrev LW:=@Nat.lt_succ_iff_lt_or_eq
abbrev pV:=@List.getElem?_of_mem
abbrev Q4:=@List.find?_eq_none
abbrev Q5:=@Option.getD_none
abbrev Ao:=@Function.comp_def
abbrev Ap:=@List.map_map
abbrev LX:=@List.filter_sublist
abbrev lA:=@List.take_of_length_le
abbrev Yg:=@List.exists_mem_of_ne_nil
abbrev Yh:=@Classical.byContradiction
abbrev Q6:=@List.find?_some
abbrev GU:=@List.mem_of_find?_eq_some
abbrev Q7:=@List.map_take
abbrev Q8:=@List.append_inj'
abbrev Q9:=@List.singleton_inj
abbrev GV:=@List.take_add_one
abbrev eM:=@List.length_map
abbrev Ra:=@List.pairwise_map
abbrev Rb:=@List.pairwise_mergeSort
abbrev Rc:=@List.mergeSort_perm
abbrev Yi:=@List.Perm.eq_of_pairwise
abbrev sB:=@Classical.not_not
abbrev mI:=@Int.le_refl
abbrev rB:=@List.getElem?_set_self
abbrev rC:=@List.getElem?_set_ne
abbrev Aq:=@List.map_set
abbrev pW:=@Nat.le_succ
abbrev yB:=@List.findIdx?_eq_some_iff_getElem
abbrev adM:=@List.mem_eraseIdx_iff_getElem?
abbrev nJ:=@List.getElem_of_mem
abbrev LY:=@List.getElem_set_ne
abbrev Dx:=@List.length_filter_le
abbrev Ar:=@Nat.sub_self
abbrev Yj:=@List.eq_of_mem_replicate
abbrev LZ:=@List.mem_of_mem_take
abbrev Rd:=@Nat.xor_lt_two_pow
abbrev L0:=@BitVec.ofInt_natCast
abbrev L1:=@BitVec.toNat_ofNat
abbrev yC:=@Nat.le_of_lt
abbrev eX:=@List.mem_iff_getElem?
abbrev gN:=@Int.toNat_natCast
abbrev sC:=@List.filter_cons
abbrev lT:=@List.foldl_append
abbrev Yk:=@List.take_append_of_le_length
abbrev L3:=@List.take_length
abbrev pX:=@List.drop_of_length_le
abbrev yD:=@List.eq_nil_of_length_eq_zero
abbrev Yl:=@List.findIdx?_eq_none_iff
abbrev wm:=@decide_eq_true
abbrev L4:=@Bool.not_eq_true
abbrev L5:=@Option.isSome_eq_false_iff
abbrev L6:=@Option.isNone_iff_eq_none
abbrev adN:=@Option.bind_eq_some_iff
abbrev Au:=@Nat.not_lt_zero
abbrev yE:=@List.eq_nil_iff_forall_not_mem
abbrev Re:=@Nat.le_add_right
abbrev wq:=@List.length_range
abbrev Rf:=@Classical.not_forall
abbrev js:=@List.take_succ_eq_append_getElem
abbrev yF:=@List.foldl_nil
abbrev Rg:=@List.isEmpty_iff
abbrev L7:=@Int.ofNat_tdiv
abbrev n8:=@Bool.eq_false_or_eq_true
abbrev Av:=@and_true
abbrev n9:=@Nat.two_pow_pos
abbrev Aw:=@Nat.lt_of_le_of_lt
abbrev mJ:=@Int.eq_ofNat_of_zero_le
abbrev rD:=@decide_eq_false
abbrev GW:=@List.filter_nil
abbrev Rh:=@List.length_eraseIdx
abbrev L8:=@List.reverse_cons
abbrev Ri:=@List.reverse_perm
abbrev L9:=@List.getElem?_eq_none
abbrev Rj:=@List.getElem_append_right
abbrev Rk:=@List.getElem_set_self
abbrev Rl:=@decide_eq_false_iff_not
abbrev Rm:=@List.ext_getElem
abbrev Rn:=@List.length_replicate
abbrev Ym:=@List.perm_append_comm_assoc
abbrev Ro:=@Nat.le_antisymm
abbrev Rp:=@Nat.one_shiftLeft
abbrev Ma:=@Nat.le_of_eq
abbrev aO:=Goroutine
abbrev aP:=TypeId
abbrev bT:=Program
abbrev eK:=Deferred
abbrev dp:=Operand
abbrev bN:=FuncId
section
theorem ai(h:p:=by omega):p:=h
theorem dE(h:p:=by dsimp only;omega):p:=h
open Go.Conc
structure Px(rd:Nat->Loc->Prop)(lo:Nat->Prop)(sh:Loc->Prop)(B:Nat)(K:Nat->Prop)(t:Trace):Prop where
 clean:∀ said,¬ Race said t
 known:∀ i a,touchAt t i=some a->a.loc.isMemory=true->
  K i\/(a.write=false/\∃ g,t.g? i=some g/\lo g/\rd g a.loc)\/(a.kind=.atomic/\sh a.loc/\¬ t.heard i)
 wrote:∀ i a,touchAt t i=some a->a.write=true->∀ g,lo g->rd g a.loc->Knows t g i
 plain:∀ i a,touchAt t i=some a->sh a.loc->a.kind≠ .plain
 norel:∀ i ad,t.act? i=some (.mark (.release ad))->¬ sh (.cell ad)
 seen:∀ op∈t,op.act.low B
variable{rd:Nat->Loc->Prop}{lo:Nat->Prop}{sh:Loc->Prop}{B B' h:Nat}{K K':Nat->Prop}{t u:Trace}
theorem pY(h:∀ op∈t,op.act.low B)(a:B<=B')(hu:∀ op∈u,op.act.low B'):∀ op∈t++u,op.act.low B':=
 λop b=>(ZH.1 b).elim (λx=>MemAct.low_mono a<|h op x)<|hu op
theorem Px.wu(H:Px rd lo sh B K t)(d:∀ i,K i->K' i){i:Nat}{a:Touch}{x:MemOp}(b:t[i]? =some x)(e:x.act.touch?=some a)(hm:a.loc.isMemory=true):
  K' i\/(a.write=false/\∃ g,(t++u).g? i=some g/\lo g/\rd g a.loc)\/(a.kind=.atomic/\sh a.loc/\¬ (t++u).heard i):=by
 have c:=lt_size_of_getElem? b;rcases H.known i a (by rw[touchAt_of b];exact e) hm with h1|⟨h1,g,f,hl,h⟩|⟨h1,j,k⟩
 .exact .inl<|d i h1
 .exact .inr<|.inl ⟨h1,g,by rw[g?_old c];exact f,hl,h⟩
 .exact .inr<|.inr ⟨h1,j,λz=>k<|(heard_old c).1 z⟩
theorem Px.sD(H:Px rd lo sh B K t)(hu:∀ op∈u,∀ b,op.act.touch?=some b->sh b.loc->b.kind≠ .plain):∀ i a,touchAt (t++u) i=some a->sh a.loc->a.kind≠ .plain:=by
 intro i a d hs;obtain⟨x,e,c⟩:=touch_of d;rcases getElem?_append_cases e with⟨hi,f⟩|⟨_,g⟩
 .exact H.plain i a (by rw[touchAt_of f];exact c) hs
 .exact hu x g a c hs
theorem Px.Ax(H:Px rd lo sh B K t)(hu:∀ op∈u,∀ ad,op.act=.mark (.release ad)->¬ sh (.cell ad)):∀ i ad,(t++u).act? i=some (.mark<|.release ad)->¬ sh (.cell ad):=by
 intro i ad b;obtain⟨x,c,a⟩:=LO.1 b;rcases getElem?_append_cases c with⟨hi,d⟩|⟨_,e⟩
 .exact H.norel i ad<|by rw[act?_of d,a]
 .exact hu x e ad a
theorem Px.own(H:Px rd lo sh B (Knows t h) t)(hu:∀ op∈u,op.g=h)
  (hs:∀ op∈u,∀ b,op.act.touch?=some b->(b.write=true->∀ g,lo g->¬ rd g b.loc)/\(sh b.loc->b.kind≠ .plain))
  (hr:∀ op∈u,∀ ad,op.act=.mark (.release ad)->¬ sh (.cell ad)) (s:B<=B') (hl:∀ op∈u,op.act.low B'):Px rd lo sh B' (Knows (t++u) h) (t++u):=by
 refine⟨λsaid=>noRace_append (H.clean said) hu λi a c op e b f d=>?_,λi a c v=>?_,λi a c j g q k=>?_,H.sD λop e b f=>(hs op e b f).2,H.Ax hr,pY H.seen s hl⟩
 .rcases H.known i a c d.2.1 with w|⟨j,g,_,y,k⟩|⟨r,z,_⟩
  .exact w
  .rcases d.2.2.1 with x|x
   .rw[j]at x;cases x
   .exact absurd (d.1▸k)<|(hs op e b f).1 x g y
  .have n:=(hs op e b f).2<|d.1▸z;rcases d.2.2.2 with x|x|⟨_,x,_⟩
   .rw[r]at x;cases x
   .exact absurd x n
   .rw[r]at x;cases x
 .obtain⟨x,l,m⟩:=touch_of c;rcases getElem?_append_cases l with⟨_,o⟩|⟨_,p⟩
  .exact H.wu (λi=>Knows.app u) o m v
  .have:=knows_own l;rw[hu x p]at this;exact .inl this
 .obtain⟨x,l,m⟩:=touch_of c;rcases getElem?_append_cases l with⟨_,o⟩|⟨_,p⟩
  .exact(H.wrote i a (by rw[touchAt_of o];exact m) j g q k).app u
  .exact absurd k<|(hs x p a m).1 j g q
theorem Px.mute(H:Px rd lo sh B K t)(l:∀ i,K i->K' i)(d:∀ op∈u,op.act.touch?=none)
  (hr:∀ op∈u,∀ ad,op.act=.mark (.release ad)->¬ sh (.cell ad)) (m:B<=B') (hl:∀ op∈u,op.act.low B'):Px rd lo sh B' K' (t++u):=by
 refine⟨λsaid=>noRace_appendMute (H.clean said) d,λi a e n=>?_,λi a e o g p q=>?_,H.sD λop r b k=>(by rw[d op r]at k;cases k),H.Ax hr,pY H.seen m hl⟩
 .obtain⟨x,f,c⟩:=touch_of e;rcases getElem?_append_cases f with⟨_,h⟩|⟨_,j⟩
  .exact H.wu l h c n
  .rw[d x j]at c;cases c
 .obtain⟨x,f,c⟩:=touch_of e;rcases getElem?_append_cases f with⟨_,h⟩|⟨_,j⟩
  .exact(H.wrote i a (by rw[touchAt_of h];exact c) o g p q).app u
  .rw[d x j]at c;cases c
theorem Px.reads(H:Px rd lo sh B K t)(p:∀ i,K i->K' i)(n:lo g)(hu:∀ op∈u,op.g=g)(hr:∀ op∈u,∀ b,op.act.touch?=some b->b.write=false/\rd g b.loc/\¬ sh b.loc)
  (q:∀ op∈u,∀ ad,op.act=.mark (.release ad)->¬ sh (.cell ad)) (r:B<=B') (hl:∀ op∈u,op.act.low B'):Px rd lo sh B' K' (t++u):=by
 refine⟨λsaid=>noRace_append (H.clean said) hu λi a d op h b j o=>?_,λi a d s=>?_,λi a d k g' v w=>?_,H.sD λop h b j hs=>absurd hs (hr op h b j).2.2,H.Ax q,pY H.seen r hl⟩
 .obtain⟨y,l,_⟩:=hr op h b j;rcases o.2.2.1 with x|x
  .exact H.wrote i a d x g n<|o.1▸l
  .rw[y]at x;cases x
 .obtain⟨x,f,c⟩:=touch_of d;rcases getElem?_append_cases f with⟨_,m⟩|⟨_,e⟩
  .exact H.wu p m c s
  .exact .inr<|.inl ⟨(hr x e a c).1,g,by rw[g?_of f,hu x e],n,(hr x e a c).2.1⟩
 .obtain⟨x,f,c⟩:=touch_of d;rcases getElem?_append_cases f with⟨_,m⟩|⟨_,e⟩
  .exact(H.wrote i a (by rw[touchAt_of m];exact c) k g' v w).app u
  .rw[(hr x e a c).1]at k;cases k
theorem Px.VS{g:Nat}(H:Px rd lo sh B K t)(v:∀ i,K i->K' i)(hu:∀ op∈u,op.g=g)(hr:∀ (i:Nat) (op:MemOp),u[i]? =some op->∀ b,op.act.touch?=some b->b.kind=.atomic/\sh b.loc/\¬ (t++u).heard (t.size+i))
  (w:∀ g l,lo g->rd g l->¬ sh l) (y:∀ op∈u,∀ ad,op.act=.mark (.release ad)->¬ sh (.cell ad)) (z:B<=B') (hl:∀ op∈u,op.act.low B'):Px rd lo sh B' K' (t++u):=by
 have j:∀ op∈u,∀ b,op.act.touch?=some b->b.kind=.atomic/\sh b.loc:=λop c b d=>by obtain⟨i,hi,rfl⟩:=qq2.1 c;have:=hr i _ (Gu hi) b d;exact⟨this.1,this.2.1⟩
 refine⟨λsaid=>noRace_append (H.clean said) hu λi a e op c b d n=>?_,λi a e A=>?_,λi a e C g' o p=>?_,H.sD λop c b d _=>(by rw[(j op c b d).1];simp),H.Ax y,pY H.seen z hl⟩
 .obtain⟨q,D⟩:=j op c b d;have h1:=H.plain i a e<|n.1▸D;rcases n.2.2.2 with x|x|⟨_,_,x⟩
  .exact absurd x h1
  .rw[q]at x;cases x
  .rw[q]at x;cases x
 .obtain⟨x,f,h⟩:=touch_of e;rcases getElem?_append_cases f with⟨_,k⟩|⟨m,r⟩
  .exact H.wu v k h A
  .have hi:u[i-t.size]? =some x:=by rw[qq4 m]at f;exact f
   obtain⟨h1,E,s⟩:=hr _ x hi a h;rw[show t.size+(i-t.size)=i by omega]at s;exact .inr<|.inr ⟨h1,E,s⟩
 .obtain⟨x,f,h⟩:=touch_of e;rcases getElem?_append_cases f with⟨_,k⟩|⟨_,r⟩
  .exact(H.wrote i a (by rw[touchAt_of k];exact h) C g' o p).app u
  .exact absurd (j x r a h).2<|w g' _ o p
theorem Px.reset{h:Nat->Loc->Prop}{b:Nat->Prop}(H:Px rd lo sh B K t)(k:∀ i a g,touchAt t i=some a->a.loc.isMemory=true->a.write=false->t.g? i=some g->lo g->rd g a.loc->K i\/(b g/\h g a.loc)\/(a.kind=.atomic/\sh a.loc/\¬ t.heard i))
  (m:∀ g l,b g->h g l->(lo g/\rd g l)\/∀ i a,touchAt t i=some a->a.write=true->a.loc=l->Knows t g i):Px h b sh B K t:=by
 refine⟨H.clean,λi a d j=>?_,λi a d e g f n=>?_,H.plain,H.norel,H.seen⟩
 .rcases H.known i a d j with h1|⟨h1,g,f,hl,o⟩|h1
  .exact .inl h1
  .rcases k i a g d j h1 f hl o with c|⟨c,p⟩|c
   .exact .inl c
   .exact .inr<|.inl ⟨h1,g,f,c,p⟩
   .exact .inr<|.inr c
  .exact .inr<|.inr h1
 .rcases m g _ f n with⟨h1,c⟩|h1
  .exact H.wrote i a d e g h1 c
  .exact h1 i a d e rfl
theorem Px.sF{f:Loc->Prop}(H:Px rd lo sh B K t)(k:∀ l,sh l->f l)(j:∀ l,f l->¬ sh l->∃ a:Addr,l=.cell a/\B<=a.block):Px rd lo f B K t:=by
 refine⟨H.clean,λi a c n=>(H.known i a c n).imp id λz=>z.imp id λ⟨x,y,z⟩=>⟨x,k _ y,z⟩,H.wrote,λi a c hs=>?_,λi ad c hs=>?_,H.seen⟩
 .by_cases d:sh a.loc
  .exact H.plain i a c d
  .obtain⟨ad,e,o⟩:=j _ hs d;obtain⟨x,g,b⟩:=touch_of c;have hl:=H.seen x<|mem_of_getElem? g;exfalso;cases h:x.act with
   |access ev=>
    rw[h]at b hl;simp only[MemAct.touch?,zJ]at b;subst b;simp only at e;simp only[MemAct.low,e,Loc.low]at hl;omega
   |mark m=>
    rw[h]at b hl;cases m<;>simp only[MemAct.touch?,zJ,reduceCtorEq]at b<;>subst b<;>simp only[Loc.cell.injEq]at e<;>subst e<;>simp only[MemAct.low]at hl<;>omega
   |_=>rw[h]at b;simp[MemAct.touch?]at b
 .by_cases d:sh (.cell ad)
  .exact H.norel i ad c d
  .obtain⟨p,e,o⟩:=j _ hs d;obtain rfl:=Loc.cell.inj e;obtain⟨x,g,b⟩:=LO.1 c;have hl:=H.seen x<|mem_of_getElem? g;rw[b]at hl;simp only[MemAct.low]at hl;omega
variable{j:Nat}
theorem Px.give(H:Px rd lo sh B (Knows t h) t)(D:Deaf t h=0)(E:Deaf t j=0)(d:bN)(ph:String)(f:bN)(l:String){c:Nat}(k cap:Nat)(hc:c<B):
  Px rd (λg=>lo g/\g≠j) sh B (Knows (t++met h j d ph f l c k cap) j) (t++met h j d ph f l c k cap):=by
 have o:=met_mute h j d ph f l c k cap;have e0:(t++met h j d ph f l c k cap)[t.size]? =some {g:=h,fn:=d,pos:=ph,act:=.send c k}:=by simp[met]
 have w:(t++met h j d ph f l c k cap)[t.size+3]? =some {g:=j,fn:=f,pos:=l,act:=.recvDone c k}:=by simp[met]
 have F:HappensBefore (t++met h j d ph f l c k cap) t.size (t.size+3):=
  Relation.TransGen.single (.inr ⟨.handOver (act?_of e0)<|act?_of w,⟨h,g?_of e0,by rw[deaf_old (fC _)];exact D⟩,⟨j,g?_of w,by rw[deaf_quiet (met_quiet _ _ _ _ _ _ _ _ _ j) 3 (by simp[met])];exact E⟩⟩)
 have hl:∀ op∈met h j d ph f l c k cap,op.act.low B:=λop m=>by simp only[met,qO,gU,nY,gR]at m;rcases m with rfl|rfl|rfl|rfl<;>exact hc
 have I:∀ op∈met h j d ph f l c k cap,∀ ad,op.act=.mark (.release ad)->¬ sh (.cell ad):=λop m ad e=>by simp only[met,qO,gU,nY,gR]at m;rcases m with rfl|rfl|rfl|rfl<;>cases e
 refine⟨λsaid=>noRace_appendMute (H.clean said) o,λi a y J=>?_,λi a y K g s L=>?_,H.sD λop m b C=>(by rw[o op m]at C;cases C),H.Ax I,pY H.seen (fC _) hl⟩
 .obtain⟨x,u,n⟩:=touch_of y;rcases getElem?_append_cases u with⟨hi,v⟩|⟨_,A⟩
  .rcases H.known i a (by rw[touchAt_of v];exact n) J with M|⟨p,g,s,hl,N⟩|⟨p,q,r⟩
   .exact .inl ⟨t.size+3,_,w,rfl,.inr<|(M.hb_new (fC _) e0 rfl).trans F⟩
   .by_cases e:g=j
    .subst e;have:=knows_own u;rw[show x.g=g from by have:=g?_of v;rw[s]at this;exact(cA this).symm]at this;exact .inl this
    .exact .inr<|.inl ⟨p,g,by rw[g?_old hi];exact s,⟨hl,e⟩,N⟩
   .exact .inr<|.inr ⟨p,q,λz=>r<|(heard_old hi).1 z⟩
  .rw[o x A]at n;cases n
 .obtain⟨x,u,n⟩:=touch_of y;rcases getElem?_append_cases u with⟨_,v⟩|⟨_,A⟩
  .exact(H.wrote i a (by rw[touchAt_of v];exact n) K g s.1 L).app _
  .rw[o x A]at n;cases n
theorem Px.loosen{g₀:Nat}{S:Loc->Prop}{K:Nat->Prop}(H:Px rd lo sh B K t)(h:¬ lo g₀)(k:∀ l,S l->l.isMemory=true/\¬ sh l)(j:∀ i a,touchAt t i=some a->a.write=true->S a.loc->Knows t g₀ i):
  Px (λg l=>if g=g₀ then S l else rd g l) (λg=>lo g\/g=g₀) sh B K t:=by
 refine H.reset (λi a g d m f b hl c=>.inr<|.inl ⟨.inl hl,?_⟩) λg l b c=>?_
 .have:g≠g₀:=λe=>h<|e▸hl;simpa[this]using c
 .by_cases e:g=g₀
  .subst e;simp only[fq]at c;exact .inr λi a d f hl=>j i a d f<|hl▸c
  .simp only[e,eQ]at c;rcases b with b|b
   .exact .inl ⟨b,c⟩
   .exact absurd b e
theorem Px.writes{K:Nat->Prop}(H:Px rd lo sh B K t){l:Loc}(hm:l.isMemory=true)(hs:¬ sh l){a:Touch}(ha:touchAt t i=some a)(b:a.write=true)(hl:a.loc=l):K i:=by
 rcases H.known i a ha (hl▸hm)with h1|⟨h1,_⟩|⟨_,h1,_⟩
 .exact h1
 .rw[b]at h1;cases h1
 .exact absurd (hl▸h1) hs
theorem Px.hire{c:Nat}{S:Loc->Prop}(H:Px rd lo sh B (Knows t h) t)(q:Deaf t h=0)(r:Deaf t c=0)(s:¬ lo c)(n:∀ l,S l->l.isMemory=true/\¬ sh l)(k:bN)(ph:String)(m:bN):
  Px (λg l=>if g=c then S l else rd g l) (λg=>lo g\/g=c) sh B (Knows (t++#[{g:=h,fn:=k,pos:=ph,act:=.go c},{g:=c,fn:=m,pos:=ph,act:=.start}]) h)
   (t++#[{g:=h,fn:=k,pos:=ph,act:=.go c},{g:=c,fn:=m,pos:=ph,act:=.start}]):=by
 generalize f:(#[{g:=h,fn:=k,pos:=ph,act:=.go c},{g:=c,fn:=m,pos:=ph,act:=.start}]:Trace)=u;have p:∀ op∈u,op.act.touch?=none:=by intro op b;subst f;simp only[qO,gU,nY,gR]at b;rcases b with rfl|rfl<;>rfl
 have v:∀ g,∀ op∈u,∀ d,deafStep g d op=d:=by intro g op b d;subst f;simp only[qO,gU,nY,gR]at b;rcases b with rfl|rfl<;>rfl
 have e0:(t++u)[t.size]? =some {g:=h,fn:=k,pos:=ph,act:=.go c}:=by subst f;simp
 have e1:(t++u)[t.size+1]? =some {g:=c,fn:=m,pos:=ph,act:=.start}:=by subst f;simp
 have w:HappensBefore (t++u) t.size (t.size+1):=
  Relation.TransGen.single (.inr ⟨.spawn (act?_of e0) (act?_of e1)<|g?_of e1,⟨h,g?_of e0,by rw[deaf_old (fC _)];exact q⟩,⟨c,g?_of e1,by rw[deaf_quiet (v c) 1 (by subst f;simp)];exact r⟩⟩)
 have hl:∀ op∈u,op.act.low B:=λop b=>by subst f;simp only[qO,gU,nY,gR]at b;rcases b with rfl|rfl<;>trivial
 have y:∀ op∈u,∀ ad,op.act=.mark (.release ad)->¬ sh (.cell ad):=λop b ad e=>by subst f;simp only[qO,gU,nY,gR]at b;rcases b with rfl|rfl<;>cases e
 have z:Px rd lo sh B (Knows (t++u) h) (t++u):=H.mute (λi=>Knows.app u) p y (fC _) hl;refine z.loosen s n λi a A C j=>?_;obtain⟨x,D,o⟩:=touch_of A;rcases getElem?_append_cases D with⟨_,E⟩|⟨_,F⟩
 .have I:=H.writes (n _ j).1 (n _ j).2 (by rw[touchAt_of E];exact o) C rfl;exact⟨t.size+1,_,e1,rfl,.inr<|(I.hb_new (fC _) e0 rfl).trans w⟩
 .rw[p x F]at o;cases o
structure pZ(sh:Loc->Prop)(a:Addr)(t:Trace)(g r:Nat):Prop where
 act:t.act? r=some (.mark (.releaseMerge a))
 own:t.g? r=some g
 heard:t.heard r
 after:∀ i x,r<i->t.g? i=some g->touchAt t i=some x->x.kind=.atomic/\sh x.loc/\¬ t.heard i
theorem pZ.app{u:Trace}(H:pZ sh a t g r)(hu:∀ (i:Nat) (op:MemOp),u[i]? =some op->op.g=g->∀ b,op.act.touch?=some b->b.kind=.atomic/\sh b.loc/\¬ (t++u).heard (t.size+i)):pZ sh a (t++u) g r:=by
 have d:=lt_of_act? H.act;refine⟨by rw[act?_old d];exact H.act,by rw[g?_old d];exact H.own,(heard_old d).2 H.heard,λi x hi e l=>?_⟩;obtain⟨op,c,j⟩:=touch_of l;rcases getElem?_append_cases c with⟨k,m⟩|⟨f,_⟩
 .obtain⟨h1,n,o⟩:=H.after i x hi (by rw[<- g?_old (u:=u) k];exact e) (by rw[touchAt_of m];exact j);exact⟨h1,n,λz=>o<|(heard_old k).1 z⟩
 .have p:u[i-t.size]? =some op:=by rw[qq4 f]at c;exact c
  have h:op.g=g:=by rw[g?_of c]at e;exact cA e
  have:=hu _ op p h x j
  rwa[show t.size+(i-t.size)=i by omega]at this
theorem pZ.other{g':Nat}{u:Trace}(H:pZ sh a t g r)(hu:∀ op∈u,op.g=g')(b:g'≠g):pZ sh a (t++u) g r:=
 H.app λi op c d=>absurd ((hu op<|VJ c).symm.trans d) b
theorem pZ.still{u:Trace}(H:pZ sh a t g r)(hu:∀ op∈u,op.act.touch?=none):pZ sh a (t++u) g r:=
 H.app λi op d e b c=>by rw[hu op (VJ d)]at c;cases c
theorem pZ.new{op:MemOp}(c:op.g=g)(ha:op.act=.mark (.releaseMerge a))(d:Deaf t g=0):pZ sh a (t++#[op]) g t.size:=by
 have b:(t++#[op])[t.size]? =some op:=by simp
 refine⟨by rw[act?_of b,ha],by rw[g?_of b,c],⟨g,by rw[g?_of b,c],by rw[deaf_old (fC _)];exact d⟩,λi x hi h e=>?_⟩;obtain⟨y,f,_⟩:=touch_of e;have:=lt_size_of_getElem? f;simp at this;omega
theorem Px.acquire{I:Nat->Prop}{op:MemOp}(H:Px rd lo sh B (Knows t h) t)(L:Deaf t h=0)(C:op.g=h)(m:op.act=.mark (.acquire a))(M:sh (.cell a))(N:a.block<B)
  (hI:∀ g,I g->∃ r,pZ sh a t g r):Px rd (λg=>lo g/\¬ I g) sh B (Knows (t++#[op]) h) (t++#[op]):=by
 have D:∀ o∈#[op],o.act.touch?=none:=λo c=>by simp only[qO,gU,nY,gR]at c;subst c;rw[m];rfl
 have E:Px rd lo sh B (Knows (t++#[op]) h) (t++#[op]):=H.mute (λi=>Knows.app _) D (λo c ad e=>by
  simp only[qO,gU,nY,gR]at c;subst c;rw[m]at e;cases e) (fC _) (λo c=>by
  simp only[qO,gU,nY,gR]at c;subst c;rw[m];exact N)
 have p:(t++#[op])[t.size]? =some op:=by simp
 refine E.reset (λi x g F P Q d hl q=>?_) λg l d q=>.inl ⟨d.1,q⟩;by_cases f:I g
 .obtain⟨r,J⟩:=hI g f;have b:pZ sh a (t++#[op]) g r:=J.still D;rcases lP r i with K|K
  .exact .inr<|.inr<|b.after i x K d F
  .left;have s:=lt_of_act? J.act;obtain⟨y,u,j⟩:=touch_of F;obtain⟨z,n,v⟩:=LO.1 (show((t++#[op])[r]?).map (·.act)=_ from b.act);have w:z.g=g:=by have:=b.own;rw[g?_of n]at this;exact cA this
   have A:y.g=g:=by rw[g?_of u]at d;exact cA d
   have R:i≠r:=λe=>by subst e;rw[u]at n;obtain rfl:=cA n;rw[v]at j;cases j
   have O:HappensBefore (t++#[op]) r t.size:=
    Relation.TransGen.single (.inr ⟨.marked (a:=a) s (.inr b.act) (by rw[act?_of p,m]) λk h1 S e=>E.norel k a e M,b.heard,⟨h,by rw[g?_of p,C],by rw[deaf_old (fC _)];exact L⟩⟩)
   exact⟨t.size,op,p,C,.inr<|(hb_po ai u n<|A.trans w.symm).trans O⟩
 .exact .inr<|.inl ⟨⟨hl,f⟩,q⟩
theorem Px.toPast(H:Px rd lo sh B (Knows t 0) t)(k:Deaf t 0=0)(l:∀ g,¬ lo g):Past sh B t:=by
 have e:∀ i a,touchAt t i=some a->a.loc.isMemory=true->Knows t 0 i\/(a.kind=.atomic/\sh a.loc/\¬ t.heard i):=λi a d b=>(H.known i a d b).imp id λz=>z.elim (λ⟨_,g,_,hl,_⟩=>absurd hl<|l g) id;refine⟨H.clean,λi a d b=>(e i a d b).imp id λz=>⟨z.2.1,z.1⟩,λi g f m ⟨x,n,b,c⟩=>?_,k,H.seen⟩;rcases e i x n b with⟨q,z,h,j,hb⟩|⟨h1,_,o⟩
 .rcases hb with rfl|hb
  .rw[g?_of h,j]at f;exact absurd (cA f).symm m
  .exact⟨q,by rw[g?_of h,j],hb⟩
 .rcases c with c|c
  .exact absurd h1 c
  .exact absurd c o
theorem ZT:Px (λ_ _=>False) (λ_=>False) (λ_=>False) 0 (Knows #[] 0) #[]:=
 ⟨λsaid=>by rintro⟨i,j,_,⟨a,b,c,_⟩,_⟩;simp[Trace.act?]at c,λi a c=>by simp[touchAt,Trace.act?]at c,λi a c=>by simp[touchAt,Trace.act?]at c,λi a c=>by simp[touchAt,Trace.act?]at c,
  λi ad c=>by simp[Trace.act?]at c,by simp⟩
end
section
open Go.Conc
open Go.ConcN (sumTo upd sumTo_upd upd_ne upd_same)
structure dP where
 cases:Array CommCase
 shape:CommShape
 wv:aO->Prop
 mem:List (Addr×Value)
def dP.has(s:dP)(c:Nat):Prop:=∃ (k:Nat) (z:Value),s.cases[k]? =some (rcase c z)
def dP.rd(s:dP)(l:Loc):Prop:=∃ p∈s.mem,l=.cell p.1
def dP.K(s:dP)(w:World):Prop:=∀ p∈s.mem,w.cell? p.1=some p.2
structure dP.Wf(s:dP):Prop where
 recvs:∀ cc∈s.cases,∃ c z,cc=rcase c z
 apart:∀ (k m c:Nat) (z z':Value),s.cases[k]? =some (rcase c z)->s.cases[m]? =some (rcase c z')->k=m
theorem dP.has_of_mem{s:dP}{c:Nat}{z:Value}(h:rcase c z∈s.cases):s.has c:=by obtain⟨k,a,e⟩:=qq2.1 h;exact⟨k,z,by rw[<- e];exact Gu a⟩
def EvX(s:dP)(e:Event):Prop:=∃ a,e=⟨.cell a,false,false⟩/\s.rd (.cell a)
def AtR(P:bT)(ao:Bool)(s:dP)(r g:aO):Prop:=
 s.wv r/\g.status=.running/\g.frame=r.frame/\g.callers=r.callers/\g.dying=r.dying/\∃ es,(∀ e∈es,EvX s e)/\∀ w,s.K w->stepG P ao g w=.comm r s.cases true s.shape w es
def Rr(P:bT)(ao:Bool)(s:dP)(g:aO):Prop:=∃ r,AtR P ao s r g
def Way(P:bT)(ao:Bool)(s:dP):Nat->aO->Prop
 |0,g=>Rr P ao s g
 |n+1,g=>Rr P ao s g\/(g.status=.running/\∀ w,s.K w->∃ g' es d,stepG P ao g w=.go g' (w.at d) es/\(∀ e∈es,EvX s e)/\Way P ao s n g')
def Dy(P:bT)(ao:Bool)(s:dP)(n:Nat)(g:aO):Prop:=
 (∃ k,n=k+1/\Way P ao s k g)\/(n=0/\∃ g₀ r,g=parked r s.cases s.shape/\AtR P ao s r g₀)
def Yp(P:bT)(T:Trace)(i n:Nat)(g:aO):Option dP->Prop
 |none=>0<i/\QuitsD P n (Deaf T i) g
 |some s=>Dy P (i==0) s n g
section
variable{P:bT}{ao:Bool}{s:dP}{n:Nat}{g:aO}
theorem Way.running(h:∃ w,s.K w)(a:Way P ao s n g):g.status=.running:=by
 cases n with
 |zero=>obtain⟨r,h⟩:=a;exact h.2.1
 |succ n=>
  rcases a with⟨r,h⟩|h
  .exact h.2.1
  .exact h.1
theorem Dy.status(h:∃ w,s.K w)(b:Dy P ao s n g):(g.status=.running/\0<n)\/(g.status=.blocked/\n=0):=by
 rcases b with⟨k,rfl,c⟩|⟨rfl,a,r,rfl,_⟩
 .exact .inl ⟨Way.running h c,ai⟩
 .exact .inr ⟨rfl,rfl⟩
theorem Way.mono{m:Nat}(a:Way P ao s n g)(hm:n<=m):Way P ao s m g:=by
 induction n generalizing g m with
 |zero=>cases m with
  |zero=>exact a
  |succ m=>exact .inl a
 |succ n b=>
  obtain⟨m,rfl⟩:∃ c,m=c+1:=⟨m-1,ai⟩;refine a.imp id λ⟨h1,e⟩=>⟨h1,λw f=>?_⟩;obtain⟨g',es,d,h,i,j⟩:=e w f;exact⟨g',es,d,h,i,b j ai⟩
theorem AtR.tries{g₀ r:aO}(h:AtR P ao s r g₀)(cs:Array CommCase)(sh:CommShape):Rr P ao s {parked r cs sh with status:=.running}:=by obtain⟨a,_,h1,b,c,es,d,e⟩:=h;exact⟨r,a,rfl,rfl,rfl,rfl,es,d,λw f=>by rw[<- e w f];exact stepG_same h1.symm b.symm c.symm w⟩
end
structure Gh where
 n:Nat
 aU:Nat->Option dP
 sh:Loc->Prop
 bot:Nat:=0
def Gh.rd(σ:Gh)(g:Nat)(l:Loc):Prop:=∃ s,σ.aU g=some s/\s.rd l
def Gh.lo(σ:Gh)(g:Nat):Prop:=(σ.aU g).isSome=true
structure Fr(P:bT)(σ:Gh)(J:Nat->Prop)(h δ:Nat)(T:Trace)(gs:Array aO)(w:World)(q:Nat->Nat):Prop where
 cnt:gs.size=σ.n
 idle:∀ i g,i≠h->¬ J i->gs[i]? =some g->Yp P T i (q i) g (σ.aU i)
 zl:∀ i g,J i->gs[i]? =some g->g.status=.running\/g.status=.finished
 jh:¬ J h
 hole:σ.aU h=none
 wf:∀ i s,σ.aU i=some s->s.Wf
 there:∀ i s,σ.aU i=some s->i<gs.size
 chans:∀ i s c,¬ J i->σ.aU i=some s->s.has c->∃ k,w.heap[c]? =some (.chan 0 #[] false k k false)
 mem:∀ i s,σ.aU i=some s->s.K w
 wy:∀ i s l,σ.aU i=some s->s.rd l->¬ σ.sh l
 above:∀ j,gs.size<=j->Deaf T j=0
 hear:∀ i,¬ J i->σ.lo i->Deaf T i=0
 deaf:Deaf T h=δ
 px:Px σ.rd σ.lo σ.sh w.heap.size (Knows T h) T
section
variable{P:bT}{σ:Gh}{J:Nat->Prop}{h δ:Nat}{T:Trace}{gs:Array aO}{w:World}{q:Nat->Nat}
theorem JQ{s:dP}{l:Loc}(h:s.rd l):l.isMemory=true:=by obtain⟨p,_,rfl⟩:=h;rfl
theorem Mc{w:World}(h:w.cell? a=some v):a.block<w.heap.size:=by
 rcases lP a.block w.heap.size with h'|h'
 .exact h'
 .simp[World.cell?,JL h']at h
theorem Fr.fixed(C:Fr P σ J h δ T gs w q){y:aO}(hx:x≠h)(b:gs[x]? =some y):y.again w=y:=by
 by_cases a:J x
 .exact again_running w<|C.zl x y a b
 have hi:=C.idle x y hx a b;cases e:σ.aU x with
 |none=>rw[e]at hi;exact again_running w hi.2.status
 |some s=>
  rw[e]at hi;rcases hi with⟨k,j,g⟩|⟨_,d,_,rfl,_⟩
  .exact again_running w<|.inl<|Way.running ⟨w,C.mem x s e⟩ g
  .refine again_all_open λcc f=>?_;obtain⟨c,z,rfl⟩:=(C.wf x s e).recvs cc f;obtain⟨k,i⟩:=C.chans x s c a e<|dP.has_of_mem f;exact⟨c,z,0,_,k,k,_,rfl,i⟩
theorem Fr.noSend(C:Fr P σ J h δ T gs w q){y:aO}(hx:x≠h)(b:gs[x]? =some y)(c:Nat):offersAt y c true=[]:=by
 by_cases d:J x
 .exact offersAt_of_not_blocked (λa=>by rcases C.zl x y d b with z|z<;>rw[z]at a<;>cases a) c true
 have hi:=C.idle x y hx d b;cases e:σ.aU x with
 |none=>
  rw[e]at hi;exact offersAt_of_not_blocked (λa=>by rcases hi.2.status with z|z<;>rw[z]at a<;>cases a) c true
 |some s=>
  rw[e]at hi;rcases hi with⟨k,j,g⟩|⟨_,f,_,rfl,_⟩
  .have:=Way.running ⟨w,C.mem x s e⟩ g;exact offersAt_of_not_blocked (λa=>by rw[this]at a;cases a) c true
  .exact offersAt_parked_sends (λcc i=>by obtain⟨c',z',rfl⟩:=(C.wf x s e).recvs cc i;rfl) _
theorem Fr.noRecvAt(C:Fr P σ J h δ T gs w q){y:aO}(hx:x≠h)(b:gs[x]? =some y){c:Nat}(hc:∀ s,σ.aU x=some s->¬ s.has c):offersAt y c false=[]:=by
 by_cases d:J x
 .exact offersAt_of_not_blocked (λa=>by rcases C.zl x y d b with z|z<;>rw[z]at a<;>cases a) c false
 have hi:=C.idle x y hx d b;cases e:σ.aU x with
 |none=>
  rw[e]at hi;exact offersAt_of_not_blocked (λa=>by rcases hi.2.status with z|z<;>rw[z]at a<;>cases a) c false
 |some s=>
  rw[e]at hi;rcases hi with⟨k,l,j⟩|⟨_,f,_,rfl,_⟩
  .have:=Way.running ⟨w,C.mem x s e⟩ j;exact offersAt_of_not_blocked (λa=>by rw[this]at a;cases a) c false
  .refine offersAt_parked_off (λcc g i=>?_) _;obtain⟨c',z',rfl⟩:=(C.wf x s e).recvs cc g;simp only[rcase,Value.chan.injEq,zJ]at i;subst i;exact hc s e<|dP.has_of_mem g
theorem Fr.at(C:Fr P σ J h δ T gs w q)(d:Nat):Fr P σ J h δ T gs (w.at d) q:=
 ⟨C.cnt,C.idle,C.zl,C.jh,C.hole,C.wf,C.there,C.chans,C.mem,C.wy,C.above,C.hear,C.deaf,C.px⟩
theorem Fr.awake(C:Fr P σ J h δ T gs w q){a:aO}(ha:gs[h]? =some a)(hs:a.status=.running\/a.status=.blocked):∀ g∈gs,awake g:=by
 intro g d;obtain⟨i,hi,rfl⟩:=qq2.1 d;by_cases e:i=h
 .subst e;have:gs[i]=a:=by simpa[Gu hi]using ha
  rw[this];exact awake_of (hs.elim .inl λx=>.inr<|.inl x)
 .by_cases c:J i
  .exact awake_of ((C.zl i _ c<|Gu hi).elim .inl λx=>.inr<|.inr x)
  have b:=C.idle i _ e c<|Gu hi;cases es:σ.aU i with
  |none=>rw[es]at b;exact awake_of (b.2.status.elim .inl λx=>.inr<|.inr x)
  |some s=>rw[es]at b;exact awake_of ((Dy.status ⟨w,C.mem i s es⟩ b).elim (λx=>.inl x.1) λx=>.inr<|.inl x.1)
theorem Fr.put(C:Fr P σ J h δ T gs w q){g':aO}{O:Array MemOp}{f:Array aO}(hi:i≠h)(m:¬ J i)(t:i<gs.size)(hsz:f.size=gs.size)(k:∀ x,x≠i->x≠h->f[x]? =gs[x]?)(n:f[i]? =some g')
  (g:∀ op∈O,op.g=i) (o:Yp P (T++O) i n' g' (σ.aU i)) (p:σ.lo i->Deaf (T++O) i=Deaf T i) (r:Px σ.rd σ.lo σ.sh w.heap.size (Knows (T++O) h) (T++O)):Fr P σ J h δ (T++O) f (w.at d) (upd q i n'):=by
 refine⟨hsz.trans C.cnt,λx y l a b=>?_,λx y a b=>?_,C.jh,C.hole,C.wf,λi s e=>by rw[hsz];exact C.there i s e,C.chans,C.mem,C.wy,λj u=>?_,λx a hl=>?_,?_,r⟩
 .by_cases e:x=i
  .subst e;rw[n]at b;obtain rfl:=cA b;rw[upd_same];exact o
  .rw[k x e l]at b;rw[upd_ne q n' e];have c:=C.idle x y l a b;cases es:σ.aU x with
   |none=>rw[es]at c;exact⟨c.1,by rw[Deaf_other T (λz=>e z.symm) O g];exact c.2⟩
   |some s=>rw[es]at c;exact c
 .have e:x≠i:=λe=>m<|e▸a;rw[k x e (λe=>C.jh<|e▸a)]at b;exact C.zl x y a b
 .rw[Deaf_other T (g':=i) ai O g];exact C.above j ai
 .by_cases e:x=i
  .subst e;rw[p hl];exact C.hear x a hl
  .rw[Deaf_other T (λz=>e z.symm) O g];exact C.hear x a hl
 .rw[Deaf_other T hi O g];exact C.deaf
theorem wF{s:dP}{i:Nat}{fn:bN}{pos:String}{es:Array Event}(g:s.K w)(h:∀ e∈es,EvX s e):
  (∀ op∈MemOp.ofEvents i fn pos es,op.g=i)/\(∀ op∈MemOp.ofEvents i fn pos es,∀ b,op.act.touch?=some b->b.write=false/\s.rd b.loc)/\(∀ op∈MemOp.ofEvents i fn pos es,op.act.low w.heap.size)/\
   (∀ op∈MemOp.ofEvents i fn pos es,∀ ad,op.act≠ .mark (.release ad))/\∀ t:Trace,Deaf (t++MemOp.ofEvents i fn pos es) i=Deaf t i:=by
 refine⟨λop c=>by obtain⟨e,_,rfl⟩:=Conc.mem_ofEvents c;rfl,λop c b f=>?_,λop c=>?_,λop c ad e=>?_,λt=>?_⟩
 .obtain⟨e,d,rfl⟩:=Conc.mem_ofEvents c;obtain⟨a,rfl,j⟩:=h e d;simp only[ofEvent_cell0,MemAct.touch?,zJ]at f;subst f;exact⟨rfl,j⟩
 .obtain⟨e,d,rfl⟩:=Conc.mem_ofEvents c;obtain⟨a,rfl,p,hp,k⟩:=h e d;rw[ofEvent_cell0];obtain rfl:=Loc.cell.inj k;exact Mc<|g p hp
 .obtain⟨l,d,rfl⟩:=Conc.mem_ofEvents c;obtain⟨a,rfl,_⟩:=h l d;cases e
 .rw[Deaf_own];exact deafBehind_still (λe d=>by obtain⟨a,rfl,_⟩:=h e d;exact⟨by simp,by simp⟩) _
theorem Az{e:Event}(h:e.mute=true)(ad:Addr):MemAct.ofEvent e≠ .mark (.release ad):=by obtain⟨a,wr,b⟩:=e;cases a<;>simp_all [Event.mute];rename_i m;cases m<;>simp_all [MemAct.ofEvent]
theorem Fr.GY(C:Fr P σ J h δ T gs w q){g:aO}(hi:gs[i]? =some g)(A:i≠h)(p:¬ J i)(E:g.status=.running)
  (U:∀ s,σ.aU i=some s->Rr P (i==0) s g->∀ j c,gs[h]? =some j->s.has c->offersAt j c true=[]):
  ∃ (B:Array aO) (O:Array MemOp) (M:Nat->Nat) (d:Nat),runT P (crowd gs w sl) i=(.next<|crowd B (w.at d) sl,O)/\B.size=gs.size/\(∀ j,gs[h]? =some j->B[h]? =some j\/∃ w',w'.heap=w.heap/\B[h]? =some (j.again w'))/\(∀ x,J x->B[x]? =gs[x]?)/\(∀ op∈O,op.g=i)/\
   (∀ x,x≠i->M x=q x)/\(∀ s,σ.aU i=some s->M i=0->Rr P (i==0) s g)/\
   Fr P σ J h δ (T++O) B (w.at d) M/\sumTo gs.size M<sumTo gs.size q:=by
 have D:i<gs.size:=(iF.1 hi).1;have N:∀ (o g':aO) (d:Nat) (x:Nat),x≠i->x≠h->((gs.map<|woken P g o<|w.at d).setIfInBounds i g')[x]? =gs[x]? :=by
  intro o g' d x a F;rw[ir (λe=>a e.symm),GH];cases e:gs[x]? with
  |none=>rfl
  |some y=>simp[woken_of_again ((C.at d).fixed F e)]
 have H:∀ (o g':aO) (d:Nat) (j:aO),gs[h]? =some j->((gs.map<|woken P g o<|w.at d).setIfInBounds i g')[h]? =some j\/∃ w',w'.heap=w.heap/\((gs.map<|woken P g o<|w.at d).setIfInBounds i g')[h]? =some (j.again w'):=by
  intro o g' d j W;rw[ir A,GH,W];simp only[lQ];unfold woken;split
  .exact .inr ⟨w.at d,rfl,rfl⟩
  .exact .inl rfl
 have nK:∀ (o g':aO) (d:Nat),((gs.map<|woken P g o<|w.at d).setIfInBounds i g')[i]? =some g':=λo g' d=>lh (by simpa using D);have X:∀ k n,q i=k+1->n<=k->sumTo gs.size (upd q i n)<sumTo gs.size q:=by
  intro k n t hn;have h2:sumTo gs.size (upd q i n)+(k+1)=sumTo gs.size q+n:=by have:=sumTo_upd q n id D;simpa[t]using this
  omega
 have Q:=C.idle i g A p hi;cases e:σ.aU i with
 |none=>
  rw[e]at Q;obtain⟨Y,R⟩:=Q;have GZ:(i==0)=false:=by simp;omega
  cases t:q i with
  |zero=>rw[t]at R;rw[R.1]at E;cases E
  |succ k=>
   rw[t]at R;rcases R with⟨hf,_⟩|⟨_,g',es,Z,nz,CP⟩
   .rw[hf]at E;cases E
   have m:∀ op∈MemOp.ofEvents i g.frame.fn g.frame.place es,op.g=i:=λop f=>by obtain⟨e,_,rfl⟩:=Conc.mem_ofEvents f;rfl
   have Vt:w=w.at w.drawn:=rfl;refine⟨_,_,upd q i k,w.drawn,runT_crowd_go (sl:=sl) hi (by rw[GZ];exact nz w),by simp,H g' g' w.drawn,λx a=>N g' g' w.drawn x (λe=>p<|e▸a) λe=>C.jh<|e▸a,m,λx a=>upd_ne q k a,λs hs _=>(by cases hs),?_,X k k t<|fC _⟩;refine C.put A p D (by simp) (λx a F=>N _ _ w.drawn x a F) (nK _ _ w.drawn) m (by rw[e];exact⟨Y,by rw[Deaf_own];exact CP⟩) (λhl=>by unfold Gh.lo at hl;rw[e]at hl;cases hl) ?_;exact C.px.mute (λi=>Knows.app _) (λop f=>by obtain⟨e,I,rfl⟩:=Conc.mem_ofEvents f;exact touch_mute<|Z e I) (λop f ad K=>by obtain⟨e,I,rfl⟩:=Conc.mem_ofEvents f;exact absurd K<|Az (Z e I) ad) (fC _) (λop f=>by obtain⟨e,I,rfl⟩:=Conc.mem_ofEvents f;exact low_mute (Z e I) _)
 |some s=>
  rw[e]at Q;have uL:σ.lo i:=by unfold Gh.lo;rw[e];rfl
  obtain⟨k,t,hg⟩:∃ k,q i=k+1/\Way P (i==0) s k g:=by
   rcases Q with h1|⟨_,g₀,r,rfl,_⟩
   .exact h1
   .cases E
  have S:=C.mem i s e;have sJ:Rr P (i==0) s g\/∃ k' g' es d,k=k'+1/\stepG P (i==0) g w=.go g' (w.at d) es/\(∀ e∈es,EvX s e)/\Way P (i==0) s k' g':=by
   cases k with
   |zero=>exact .inl hg
   |succ k'=>
    rcases hg with Rs|⟨_,rE⟩
    .exact .inl Rs
    .obtain⟨g',es,d,h1,h2,h3⟩:=rE w S;exact .inr ⟨k',g',es,d,rfl,h1,h2,h3⟩
  have Yr:∀ l,s.rd l->σ.rd i l:=λl hl=>⟨s,e,hl⟩;rcases sJ with vp|⟨k',g',es,d,rfl,hgo,zM,hG'⟩
  ·
   have ahT:=U s e vp;obtain⟨rr,L⟩:=id vp;obtain⟨_,_,_,_,_,es,zM,nz⟩:=id L;obtain⟨m,u,hl,vq,hd⟩:=wF (i:=i) (fn:=g.frame.fn) (pos:=g.frame.place) S zM;have hw:∀ cc∈s.cases,NoWays w (gs.setIfInBounds i ph) cc:=by
    intro cc mB;obtain⟨c,z,rfl⟩:=(C.wf i s e).recvs cc mB;have Mf:=dP.has_of_mem mB;obtain⟨kk,hc⟩:=C.chans i s c p e Mf;refine ways_recv_none hc (partners_nil λx y hy=>?_);rcases getElem?_stand gs i x y hy with⟨_,rfl⟩|⟨a,wG⟩
    .exact offersAt_ph _ _
    .by_cases hS:x=h
     .subst hS;exact ahT y c wG Mf
     .exact C.noSend hS wG _
   refine⟨_,_,upd q i 0,w.drawn,crowd_waits (sl:=sl) hi (nz w S) hw,by simp,λj W=>.inl (by rw[ir A];exact W),λx a=>ir (λz:i=x=>p (by rw[z];exact a)),m,λx a=>upd_ne q 0 a,λs' kG _=>(by obtain rfl:=cA kG;exact vp),?_,X k 0 t<|fp _⟩;refine C.put A p D (by simp) (λx a _=>ir λz=>a z.symm) (lh D) m (by rw[e];exact .inr ⟨rfl,g,rr,rfl,L⟩) (λ_=>hd T) ?_;exact C.px.reads (λi=>Knows.app _) uL m (λop f b v=>⟨(u op f b v).1,Yr _ (u op f b v).2,C.wy i s _ e (u op f b v).2⟩) (λop f ad K=>absurd K<|vq op f ad) (fC _) hl
  .obtain⟨m,u,hl,vq,hd⟩:=wF (i:=i) (fn:=g.frame.fn) (pos:=g.frame.place) S zM;refine⟨_,_,upd q i<|k'+1,d,runT_crowd_go (sl:=sl) hi hgo,by simp,H g' g' d,λx a=>N g' g' d x (λe=>p<|e▸a) λe=>C.jh<|e▸a,m,λx a=>upd_ne q _ a,λs' _ h0=>(by rw[upd_same]at h0;omega),?_,X _ _ t ai⟩;refine C.put A p D (by simp) (λx a F=>N _ _ d x a F) (nK _ _ d) m (by rw[e];exact .inl ⟨k',rfl,hG'⟩) (λ_=>hd T) ?_;exact C.px.reads (λi=>Knows.app _) uL m (λop f b v=>⟨(u op f b v).1,Yr _ (u op f b v).2,C.wy i s _ e (u op f b v).2⟩) (λop f ad K=>absurd K<|vq op f ad) (fC _) hl
theorem Fr.by_step(C:Fr P σ J h δ T gs w q){g:aO}(hi:gs[i]? =some g)(m:i≠h)(n:¬ J i)(o:g.status=.running)(j:h<gs.size)
  (k:∀ a (w':World),gs[h]? =some a->w'.heap=w.heap->a.again w'=a)
  (l:∀ s,σ.aU i=some s->Rr P (i==0) s g->∀ a c,gs[h]? =some a->s.has c->offersAt a c true=[]):
  ∃ (b:Array aO) (O:Array MemOp) (e:Nat->Nat) (d:Nat),runT P (crowd gs w sl) i=(.next<|crowd b (w.at d) sl,O)/\b.size=gs.size/\b[h]? =gs[h]? /\(∀ x,J x->b[x]? =gs[x]?)/\(∀ op∈O,op.g=i)/\
   (∀ x,x≠i->e x=q x)/\(∀ s,σ.aU i=some s->e i=0->Rr P (i==0) s g)/\
   Fr P σ J h δ (T++O) b (w.at d) e/\sumTo gs.size e<sumTo gs.size q:=by
 obtain⟨b,O,e,d,h1,p,r,t⟩:=C.GY (sl:=sl) hi m n o l;refine⟨b,O,e,d,h1,p,?_,t⟩;obtain⟨a,f⟩:∃ a,gs[h]? =some a:=⟨gs[h],Gu j⟩;rcases r a f with h|⟨w',u,h⟩
 .rw[h,f]
 .rw[h,f,k a w' f u]
theorem Fr.picked(C:Fr P σ (λ_=>False) h δ T gs w q){a:aO}(ha:gs[h]? =some a)(A:a.status=.running):
  ∃ (N:Nat) (j:Array aO) (d k:Nat) (n B:Option (Nat×Nat)) (T':Trace) (u:Nat->Nat),runNT P N (crowd gs w sl) T=(.next<|crowd j (w.at d) n,T')/\
   stepT P (crowd j (w.at d) n)=runT P (crowd j (w.at k) B) h/\j.size=gs.size/\j[h]? =some a/\Fr P σ (λ_=>False) h δ T' j (w.at k) u:=by
 obtain⟨N,U,T',I,j,d,k,n,B,u,rfl,v,l,J,D⟩:=runs_until (P:=P)
  (Inv:=λμ m t=>∃ f d p b,m=crowd f (w.at d) p/\f.size=gs.size/\f[h]? =some a/\Fr P σ (λ_=>False) h δ t f (w.at d) b/\μ=sumTo f.size b)
  (Done:=λm t=>∃ f d k p E b,m=crowd f (w.at d) p/\stepT P (crowd f (w.at d) p)=runT P (crowd f (w.at k) E) h/\f.size=gs.size/\f[h]? =some a/\Fr P σ (λ_=>False) h δ t f (w.at k) b)
  (λμ m t ⟨f,d,p,b,K,l,r,o,L⟩=>by
   subst K;obtain⟨i,g,k,n,hi,M,v⟩:=crowd_pick (P:=P) (w:=w.at d) (sl:=p) (o.awake r<|.inl A) ⟨h,a,r,A⟩;rw[at_at']at v;have F:Fr P σ (λ_=>False) h δ t f (w.at k) b:=o.at k;by_cases e:i=h
   .subst e;exact .inl ⟨f,d,k,p,n,b,rfl,v,l,r,F⟩
   .obtain⟨j,O,u,x,Q,H,R,_,_,_,_,D,W⟩:=F.by_step (sl:=n) hi e (λz=>z) M (iF.1 r).1
     (λS w' y _=>by rw[r]at y;obtain rfl:=cA y;exact again_running _<|.inl A)
     (λs _ _ S c y _=>by rw[r]at y;obtain rfl:=cA y;exact offersAt_of_not_blocked (by rw[A];simp) _ _)
    exact .inr ⟨_,_,sumTo j.size u,by rw[v];exact Q,by rw[H];omega,j,x,n,u,rfl,H.trans l,by rw[R];exact r,D,rfl⟩)
  _ _ T ⟨gs,w.drawn,sl,q,rfl,rfl,ha,C,rfl⟩
 exact⟨N,j,d,k,n,B,T',u,I,v,l,J,D⟩
structure rG(σ:Gh)(w w':World)(es:Array Event):Prop where
 size:w.heap.size<=w'.heap.size
 chans:∀ (r:Nat) (o:Obj),w.heap[r]? =some o->o.isChan=true->w'.heap[r]? =some o
 mem:∀ i s p,σ.aU i=some s->p∈s.mem->w.cell? p.1=some p.2->w'.cell? p.1=some p.2
 ev:∀ e∈es,(∀ b,(MemAct.ofEvent e).touch?=some b->(b.write=true->∀ i,¬ σ.rd i b.loc)/\(σ.sh b.loc->b.kind≠ .plain))/\(∀ ad,MemAct.ofEvent e=.mark (.release ad)->¬ σ.sh (.cell ad))/\(MemAct.ofEvent e).low w'.heap.size
theorem rG.ops{σ:Gh}{w w':World}{es:Array Event}(H:rG σ w w' es)(i:Nat)(fn:bN)(pos:String):
  (∀ op∈MemOp.ofEvents i fn pos es,op.g=i)/\(∀ op∈MemOp.ofEvents i fn pos es,∀ b,op.act.touch?=some b->(b.write=true->∀ g,σ.lo g->¬ σ.rd g b.loc)/\(σ.sh b.loc->b.kind≠ .plain))/\
   (∀ op∈MemOp.ofEvents i fn pos es,∀ ad,op.act=.mark (.release ad)->¬ σ.sh (.cell ad))/\(∀ op∈MemOp.ofEvents i fn pos es,op.act.low w'.heap.size):=
 ⟨λop a=>by obtain⟨e,_,rfl⟩:=Conc.mem_ofEvents a;rfl,λop a b d=>by obtain⟨e,c,rfl⟩:=Conc.mem_ofEvents a;exact⟨λf g _=>((H.ev e c).1 b d).1 f g,((H.ev e c).1 b d).2⟩,
  λop a ad h=>by obtain⟨e,c,rfl⟩:=Conc.mem_ofEvents a;exact(H.ev e c).2.1 ad h,λop a=>by obtain⟨e,c,rfl⟩:=Conc.mem_ofEvents a;exact(H.ev e c).2.2⟩
theorem Fr.own(C:Fr P σ J h δ T gs w q){a a':aO}{w':World}{es:Array Event}{fn:bN}{pos:String}(B:h<gs.size)(l:rG σ w w' es):
  Fr P σ J h (deafBehind δ es) (T++MemOp.ofEvents h fn pos es) ((gs.map<|woken P a a' w').setIfInBounds h a') w' q/\((gs.map<|woken P a a' w').setIfInBounds h a')[h]? =some a':=by
 obtain⟨m,hs,D,hl⟩:=l.ops h fn pos;have r:∀ i s c,¬ J i->σ.aU i=some s->s.has c->∃ k,w'.heap[c]? =some (.chan 0 #[] false k k false):=λi s c b e E=>by obtain⟨k,o⟩:=C.chans i s c b e E;exact⟨k,l.chans _ _ o rfl⟩
 have F:∀ i s,σ.aU i=some s->s.K w':=λi s e p hp=>l.mem i s p e hp<|C.mem i s e p hp;have H:∀ (x:Nat) (y:aO),x≠h->gs[x]? =some y->y.again w'=y:=by
  intro x y d f;by_cases b:J x
  .exact again_running w'<|C.zl x y b f
  have hi:=C.idle x y d b f;cases e:σ.aU x with
  |none=>rw[e]at hi;exact again_running w' hi.2.status
  |some s=>
   rw[e]at hi;rcases hi with⟨k,K,I⟩|⟨_,t,_,rfl,_⟩
   .exact again_running w'<|.inl<|Way.running ⟨w,C.mem x s e⟩ I
   .refine again_all_open λcc u=>?_;obtain⟨c,z,rfl⟩:=(C.wf x s e).recvs cc u;obtain⟨k,o⟩:=r x s c b e<|dP.has_of_mem u;exact⟨c,z,0,_,k,k,_,rfl,o⟩
 have v:∀ x,x≠h->((gs.map<|woken P a a' w').setIfInBounds h a')[x]? =gs[x]? :=by
  intro x d;rw[ir (λe=>d e.symm),GH];cases e:gs[x]? with
  |none=>rfl
  |some y=>simp[woken_of_again (H x y d e)]
 refine⟨⟨by simpa using C.cnt,λx y d b f=>?_,λx y b f=>?_,C.jh,C.hole,C.wf,λi s e=>by simpa using C.there i s e,r,F,C.wy,λj A=>?_,λx b n=>?_,?_,?_⟩,lh<|by simpa using B⟩
 .rw[v x d]at f;have hi:=C.idle x y d b f;cases g:σ.aU x with
  |none=>rw[g]at hi;exact⟨hi.1,by rw[Deaf_other T (λz=>d z.symm) _ m];exact hi.2⟩
  |some s=>rw[g]at hi;exact hi
 .rw[v x (λe=>C.jh<|e▸b)]at f;exact C.zl x y b f
 .simp only[NO,Array.size_map]at A;rw[Deaf_other T (g':=h) ai _ m];exact C.above j A
 .have d:x≠h:=λe=>by subst e;unfold Gh.lo at n;rw[C.hole]at n;cases n
  rw[Deaf_other T (λz=>d z.symm) _ m];exact C.hear x b n
 .rw[Deaf_own,C.deaf]
 .exact C.px.own m hs D l.size hl
end
end
section
open Go.Conc
open Go.ConcN (sumTo upd sumTo_upd upd_ne upd_same)
theorem Px.conv{rd e:Nat->Loc->Prop}{lo b:Nat->Prop}{sh:Loc->Prop}{B:Nat}{K:Nat->Prop}{t:Trace}(H:Px rd lo sh B K t)(hl:∀ g,b g↔lo g)(hr:∀ g l,lo g->(e g l↔rd g l)):Px e b sh B K t:=
 H.reset (λi a g _ _ _ _ c d=>.inr<|.inl ⟨(hl g).2 c,(hr g _ c).2 d⟩) λg l c d=>.inl ⟨(hl g).1 c,(hr g l<|(hl g).1 c).1 d⟩
section
variable{P:bT}{σ:Gh}{h δ:Nat}{T:Trace}{gs:Array aO}{w:World}{q:Nat->Nat}
theorem qR{w:World}{c:Nat}{cap s:Nat}{b:Array Value}{cl tm:Bool}(hc:w.heap[c]? =some (.chan cap b cl s r tm))(ha:w.cell? a=some v)(d:Nat)(f:Array Value)(g:Bool)(s' r':Nat)(h:Bool):
  (w.setChan c d f g s' r' h).cell? a=some v:=by
 have i:c≠a.block:=λe=>by unfold World.cell? at ha;rw[<- e,hc]at ha;cases ha
 unfold World.cell? at ha⊢;rw[heap_setChan_ne w _ _ _ _ _ _ i];exact ha
theorem nQ(w:World)(c cap:Nat)(a:Array Value)(cl:Bool)(s r:Nat)(tm:Bool):(w.setChan c cap a cl s r tm).heap.size=w.heap.size:=by simp[World.setChan]
structure pC(σ:Gh)(s:dP)(w:World):Prop where
 wf:s.Wf
 chans:∀ c,s.has c->∃ k,w.heap[c]? =some (.chan 0 #[] false k k false)
 mem:s.K w
 wy:∀ l,s.rd l->¬ σ.sh l
def Gh.p8(σ:Gh)(s:dP):Gh:={n:=σ.n+1,aU:=upd σ.aU σ.n<|some s,sh:=σ.sh,bot:=σ.bot}
theorem Fr.hire(C:Fr P σ (λ_=>False) h 0 T gs w q){a a' child:aO}{es:Array Event}{s:dP}{m:Nat}{sl:Option (Nat×Nat)}(ha:gs[h]? =some a)(A:stepG P (h==0) a w=.spawn a' child w es)(N:rG σ w w es)(Q:deafBehind 0 es=0)
  (hs:pC σ s w) (R:Way P false s m child):
  ∃ B O U,runT P (crowd gs w sl) h=(.next<|crowd B w sl,O)/\B[h]? =some a'/\Fr P (σ.p8 s) (λ_=>False) h 0 (T++O) B w U:=by
 have W:h<gs.size:=(iF.1 ha).1;have D:σ.n=gs.size:=C.cnt.symm;obtain⟨I,E,F,H⟩:=N.ops h a.frame.fn a.frame.place;have J:=runT_crowd_spawn (P:=P) (sl:=sl) ha A;have X:((MemOp.ofEvents h a.frame.fn a.frame.place es).push {g:=h,fn:=a.frame.fn,pos:=a.frame.place,act:=.go gs.size} |>.push {g:=gs.size,fn:=child.frame.fn,pos:=a.frame.place,act:=.start})=
   MemOp.ofEvents h a.frame.fn a.frame.place es++#[{g:=h,fn:=a.frame.fn,pos:=a.frame.place,act:=.go gs.size},{g:=gs.size,fn:=child.frame.fn,pos:=a.frame.place,act:=.start}]:=by
  apply Array.ext';simp
 rw[X]at J;have o:Deaf (T++MemOp.ofEvents h a.frame.fn a.frame.place es) h=0:=by rw[Deaf_own,C.deaf,Q]
 have p:∀ x,x≠h->Deaf (T++MemOp.ofEvents h a.frame.fn a.frame.place es) x=Deaf T x:=λx ex=>Deaf_other T (λz=>ex z.symm) _ I;have K:gs.size≠h:=ai;have Y:=C.px.own I E F (fC _) H;have Z:¬ σ.lo gs.size:=λhl=>by unfold Gh.lo at hl;obtain⟨s',kG⟩:=oM.1 hl;have:=C.there _ _ kG;omega
 have L:=Y.hire (c:=gs.size) (S:=s.rd) o (by rw[p _ K];exact C.above _<|fC _) Z (λl hl=>⟨JQ hl,hs.wy l hl⟩) a.frame.fn a.frame.place child.frame.fn;rw[JM]at L;have f:∀ x,x≠h->Deaf (T++(MemOp.ofEvents h a.frame.fn a.frame.place es++#[{g:=h,fn:=a.frame.fn,pos:=a.frame.place,act:=.go gs.size},{g:=gs.size,fn:=child.frame.fn,pos:=a.frame.place,act:=.start}])) x=Deaf T x:=λx ex=>by
  rw[<- JM,Deaf_quiet (λop r d=>by simp only[qO,gU,nY,gR]at r;rcases r with rfl|rfl<;>rfl),p x ex]
 have t:Deaf (T++(MemOp.ofEvents h a.frame.fn a.frame.place es++#[{g:=h,fn:=a.frame.fn,pos:=a.frame.place,act:=.go gs.size},{g:=gs.size,fn:=child.frame.fn,pos:=a.frame.place,act:=.start}])) h=0:=by
  rw[<- JM,Deaf_quiet (λop r d=>by simp only[qO,gU,nY,gR]at r;rcases r with rfl|rfl<;>rfl),o]
 have b:∀ x,x≠gs.size->(σ.p8 s).aU x=σ.aU x:=λx j=>by simp only[Gh.p8,D];exact upd_ne _ _ j
 have k:(σ.p8 s).aU gs.size=some s:=by simp only[Gh.p8,D,upd_same]
 refine⟨_,_,upd q gs.size<|m+1,J,by rw[QR,ax (by simp;omega)];exact lh W,?_⟩;refine⟨by simp[Gh.p8,D],λx y j _ u=>?_,λ_ _ z=>z.elim,λz=>z,?_,λi s' e=>?_,λi s' e=>?_,λi s' c _ e M=>?_,λi s' e=>?_,λi s' l e hl=>?_,λx j=>?_,λx _ hl=>?_,t,?_⟩
 .by_cases ex:x=gs.size
  .subst ex;rw[QR,aJ<|by simp]at u;obtain rfl:=cA u;rw[k,upd_same];have:(gs.size==0)=false:=by rw[VK];omega
   exact .inl ⟨m,rfl,by rw[this];exact R⟩
  .have Rv:x<gs.size:=by have:=(iF.1 u).1;simp at this;omega
   rw[QR,ax (by simp;omega),ir λz=>j z.symm]at u;rw[b x ex,upd_ne q _ ex];have v:=C.idle x y j (λz=>z) u;cases e:σ.aU x with
   |none=>rw[e]at v;exact⟨v.1,by rw[f x j];exact v.2⟩
   |some s'=>rw[e]at v;exact v
 .rw[b h (j6 K)];exact C.hole
 .by_cases ex:i=gs.size
  .subst ex;rw[k]at e;obtain rfl:=cA e;exact hs.wf
  .rw[b i ex]at e;exact C.wf i s' e
 .simp only[NP,NO];by_cases ex:i=gs.size
  .omega
  .rw[b i ex]at e;have:=C.there i s' e;omega
 .by_cases ex:i=gs.size
  .subst ex;rw[k]at e;obtain rfl:=cA e;exact hs.chans c M
  .rw[b i ex]at e;exact C.chans i s' c (λz=>z) e M
 .by_cases ex:i=gs.size
  .subst ex;rw[k]at e;obtain rfl:=cA e;exact hs.mem
  .rw[b i ex]at e;exact C.mem i s' e
 .by_cases ex:i=gs.size
  .subst ex;rw[k]at e;obtain rfl:=cA e;exact hs.wy l hl
  .rw[b i ex]at e;exact C.wy i s' l e hl
 .simp only[NP,NO]at j;rw[f x ai];exact C.above x ai
 .by_cases n:x=h
  .subst n;exact t
  .by_cases ex:x=gs.size
   .subst ex;rw[f _ n];exact C.above _<|fC _
   .rw[f x n];refine C.hear x (λz=>z) ?_;unfold Gh.lo at hl⊢
    rwa[b x ex]at hl
 .refine L.conv (λg=>?_) λg l hg=>?_
  .unfold Gh.lo;by_cases ex:g=gs.size
   .subst ex;rw[k];simp
   .rw[b g ex];simp[ex]
  .unfold Gh.rd;by_cases ex:g=gs.size
   .subst ex;rw[k];simp
   .rw[b g ex];simp[ex]
def Gh.given(σ:Gh)(h j:Nat)(sh:dP):Gh:={n:=σ.n,aU:=upd (upd σ.aU j none) h<|some sh,sh:=σ.sh,bot:=σ.bot}
theorem Fr.pass(C:Fr P σ (λ_=>False) h 0 T gs w q){j c k m:Nat}{s sH:dP}(W:j≠h)(X:h<gs.size)(hj:σ.aU j=some s)(Mf:s.has c)(hc:w.heap[c]? =some (.chan 0 #[] false k k false))(E:c<w.heap.size)
  {v:Array aO} {M:aO} (hsz:v.size=gs.size) (Y:∀ x,x≠h->x≠j->v[x]? =gs[x]?) (Z:v[h]? =some M) (F:bN) (H:String) (I:bN) (J:String)
  (o:pC σ sH w) (od:Way P (h==0) sH m M):
  Fr P (σ.given h j sH) (λ_=>False) j 0 (T++met h j F H I J c k 0) v (w.setChan c 0 #[] false (k+1) (k+1) false) (upd q h<|m+1):=by
 have A:∀ x,Deaf (T++met h j F H I J c k 0) x=Deaf T x:=λx=>Deaf_quiet<|met_quiet _ _ _ _ _ _ _ _ _ x;have n:(σ.given h j sH).aU j=none:=by simp only[Gh.given];rw[upd_ne _ _ W,upd_same]
 have B:(σ.given h j sH).aU h=some sH:=by simp only[Gh.given];rw[upd_same]
 have r:∀ x,x≠h->x≠j->(σ.given h j sH).aU x=σ.aU x:=λx h1 t=>by simp only[Gh.given];rw[upd_ne _ _ h1,upd_ne _ _ t]
 have K:σ.lo j:=by unfold Gh.lo;rw[hj];rfl
 have N:Deaf T j=0:=C.hear j (λz=>z) K;have b:∀ x s',(σ.given h j sH).aU x=some s'->(x=h/\s'=sH)\/(x≠h/\x≠j/\σ.aU x=some s'):=by
  intro x s' e;by_cases h1:x=h
  .subst h1;rw[B]at e;exact .inl ⟨rfl,(cA e).symm⟩
  .by_cases t:x=j
   .subst t;rw[n]at e;cases e
   .rw[r x h1 t]at e;exact .inr ⟨h1,t,e⟩
 have O:∀ c':Nat,(∃ k,w.heap[c']? =some (Obj.chan 0 #[] false k k false))->∃ k',(w.setChan c 0 #[] false (k+1) (k+1) false).heap[c']? =some (Obj.chan 0 #[] false k' k' false):=by
  rintro c' ⟨k',p9⟩;by_cases Q:c=c'
  .exact⟨k+1,by rw[<- Q];exact heap_setChan_self w hc _ _ _ _ _ _⟩
  .exact⟨k',by rw[heap_setChan_ne w _ _ _ _ _ _ Q];exact p9⟩
 refine⟨hsz.trans C.cnt,λx y u _ D=>?_,λ_ _ z=>z.elim,λz=>z,n,λi s' e=>?_,λi s' e=>?_,λi s' c' _ e R=>?_,λi s' e p hp=>?_,λi s' l e hl=>?_,λx u=>by rw[A];exact C.above x ai,λx _ hl=>?_,by rw[A];exact N,?_⟩
 .by_cases e:x=h
  .subst e;rw[Z]at D;obtain rfl:=cA D;rw[B,upd_same];exact .inl ⟨m,rfl,od⟩
  .rw[Y x e u]at D;rw[upd_ne q _ e,r x e u];have hi:=C.idle x y e (λz=>z) D;cases es:σ.aU x with
   |none=>rw[es]at hi;exact⟨hi.1,by rw[A];exact hi.2⟩
   |some s'=>rw[es]at hi;exact hi
 .rcases b i s' e with⟨rfl,rfl⟩|⟨_,_,d⟩
  .exact o.wf
  .exact C.wf i s' d
 .rw[hsz];rcases b i s' e with⟨rfl,rfl⟩|⟨_,_,d⟩
  .exact X
  .exact C.there i s' d
 .rcases b i s' e with⟨rfl,rfl⟩|⟨_,_,d⟩
  .exact O c'<|o.chans c' R
  .exact O c'<|C.chans i s' c' (λz=>z) d R
 .rcases b i s' e with⟨rfl,rfl⟩|⟨_,_,d⟩
  .exact qR hc (o.mem p hp) _ _ _ _ _ _
  .exact qR hc (C.mem i s' d p hp) _ _ _ _ _ _
 .rcases b i s' e with⟨rfl,rfl⟩|⟨_,_,d⟩
  .exact o.wy l hl
  .exact C.wy i s' l d hl
 .rw[A];by_cases e:x=h
  .subst e;exact C.deaf
  .refine C.hear x (λz=>z) ?_;unfold Gh.lo at hl⊢;by_cases f:x=j
   .subst f;rw[hj];rfl
   .rwa[r x e f]at hl
 .rw[nQ];have p:=C.px.give (j:=j) C.deaf N F H I J k 0 E;have CA:¬ (σ.lo h/\h≠j):=λz=>by have:=z.1;unfold Gh.lo at this;rw[C.hole]at this;cases this
  have p2:=p.loosen (g₀:=h) (S:=sH.rd) CA (λl hl=>⟨JQ hl,o.wy l hl⟩) λi a ha hw U=>by
   obtain⟨x,u,L⟩:=touch_of ha;rcases getElem?_append_cases u with⟨_,fG⟩|⟨_,xH⟩
   .exact(C.px.writes (JQ U) (o.wy _ U) (by rw[touchAt_of fG];exact L) hw rfl).app _
   .rw[met_mute _ _ _ _ _ _ _ _ _ x xH]at L;cases L
  refine p2.conv (λg=>?_) λg l hg=>?_
  .unfold Gh.lo;by_cases e:g=h
   .subst e;rw[B];simp
   .by_cases f:g=j
    .subst f;rw[n];simp[e]
    .rw[r g e f];simp[e,f]
  .unfold Gh.rd;by_cases e:g=h
   .subst e;rw[B];simp
   .by_cases f:g=j
    .subst f;exact absurd hg<|by simp[e]
    .rw[r g e f];simp[e]
theorem Fr.setH(C:Fr P σ (λ_=>False) h δ T gs w q)(m:h<gs.size)(x:aO){fn:bN}(k:rG σ w w es):Fr P σ (λ_=>False) h (deafBehind δ es) (T++MemOp.ofEvents h fn pos es) (gs.setIfInBounds h x) w q:=by
 obtain⟨b,hs,l,hl⟩:=k.ops h fn pos;refine⟨by simpa using C.cnt,λy g a _ d=>?_,λ_ _ z=>z.elim,λz=>z,C.hole,C.wf,λi s e=>by simpa using C.there i s e,C.chans,C.mem,C.wy,λj f=>?_,λy _ c=>?_,by rw[Deaf_own,C.deaf],C.px.own b hs l (fC _) hl⟩
 .rw[ir (λe=>a e.symm)]at d;have hi:=C.idle y g a (λz=>z) d;cases e:σ.aU y with
  |none=>rw[e]at hi;exact⟨hi.1,by rw[Deaf_other T (λz=>a z.symm) _ b];exact hi.2⟩
  |some s=>rw[e]at hi;exact hi
 .simp only[NO]at f;by_cases e:j=h
  .omega
  .rw[Deaf_other T (λz=>e z.symm) _ b];exact C.above j f
 .have a:y≠h:=λe=>by subst e;unfold Gh.lo at c;rw[C.hole]at c;cases c
  rw[Deaf_other T (λz=>a z.symm) _ b];exact C.hear y (λz=>z) c
theorem Fr.give(C:Fr P σ (λ_=>False) h 0 T gs w q){a o:aO}{j c kk k m:Nat}{s sH:dP}{v z z':Value}{es:Array Event}{sl:Option (Nat×Nat)}(hj:σ.aU j=some s)(hk:s.cases[kk]? =some (rcase c z))
  (m5:∀ i s',σ.aU i=some s'->s'.has c->i=j) (ha:gs[h]? =some a) (nP:a.status=.running)
  (Yt:∀ d,stepG P (h==0) a (w.at d)=.comm o #[scase c v z'] true .send (w.at d) es) (zM:∀ d,rG σ (w.at d) (w.at d) es) (Gx:deafBehind 0 es=0)
  (hc:w.heap[c]? =some (.chan 0 #[] false k k false)) (nA:pC σ sH w) (od:Way P (h==0) sH m (Conc.served o undef)):
  ∃ (N:Nat) (p:Array aO) (d:Nat) (u:Option (Nat×Nat)) (T':Trace) (E:Nat->Nat),runNT P N (crowd gs w sl) T=(.next<|crowd p ((w.at d).setChan c 0 #[] false (k+1) (k+1) false) u,T')/\
   (∃ r,s.wv r/\p[j]? =some (Conc.served r<|commResult s.cases s.shape kk v true))/\Fr P (σ.given h j sH) (λ_=>False) j 0 T' p ((w.at d).setChan c 0 #[] false (k+1) (k+1) false) E:=by
 have Mf:s.has c:=⟨kk,z,hk⟩;have ZX:=C.wf j s hj;have amy:=C.there j s hj;have K:j≠h:=λe=>by rw[e,C.hole]at hj;cases hj
 have hcB:c<w.heap.size:=(iF.1 hc).1;have hu:∀ (m:Nat) (cc:CommCase),m≠kk->s.cases[m]? =some cc->cc.chan≠ .chan (some c):=by intro m cc hm mB Z;obtain⟨F,M,rfl⟩:=ZX.recvs cc<|VJ mB;simp only[rcase,Value.chan.injEq,zJ]at Z;subst Z;exact hm (ZX.apart m kk _ _ _ mB hk)
 suffices key:∃ (N:Nat) (m':Machine) (t':Trace),runNT P N (crowd gs w sl) T=(.next m',t')/\∃ p d u E,m'=crowd p ((w.at d).setChan c 0 #[] false (k+1) (k+1) false) u/\(∃ r,s.wv r/\p[j]? =some (Conc.served r<|commResult s.cases s.shape kk v true))/\Fr P (σ.given h j sH) (λ_=>False) j 0 t' p ((w.at d).setChan c 0 #[] false (k+1) (k+1) false) E by obtain⟨N,m',T',hr,p,d,u,E,rfl,h1,h2⟩:=key;exact⟨N,p,d,u,T',E,hr,h1,h2⟩
 refine runs_until (P:=P)
  (Inv:=λμ mm t=>(∃ p d u E,mm=crowd p ((w.at d).setChan c 0 #[] false (k+1) (k+1) false) u/\(∃ r,s.wv r/\p[j]? =some (Conc.served r<|commResult s.cases s.shape kk v true))/\Fr P (σ.given h j sH) (λ_=>False) j 0 t p ((w.at d).setChan c 0 #[] false (k+1) (k+1) false) E)\/
   ∃ n d sK l,∃ pk:Bool,mm=crowd n (w.at d) sK/\n.size=gs.size/\n[h]? =some (if pk then parked o #[scase c v z'] .send else a)/\
   Fr P σ (λ_=>False) h 0 t n (w.at d) l/\(pk=true->0<l j)/\μ=sumTo n.size l+(if pk then 0 else 1))
  (λμ mm t ahY=>?_) _ _ T (.inr ⟨gs,w.drawn,sl,q,false,rfl,rfl,ha,C,by simp,rfl⟩)
 rcases ahY with adU|⟨n,d,sK,l,pk,rfl,hsz,H,B,VV,S⟩
 .exact .inl adU
 refine .inr ?_;obtain⟨gj,U⟩:∃ gj,n[j]? =some gj:=⟨n[j]'(by omega),Gu ai⟩;have L:h<n.size:=(iF.1 H).1;have W:Dy P (j==0) s (l j) gj:=by have:=B.idle j gj K (λz=>z) U;rwa[hj]at this
 have hKs:∃ w,s.K w:=⟨_,B.mem j s hj⟩;have AB:∃ (i:Nat) (g:aO),n[i]? =some g/\g.status=.running:=by
  cases pk with
  |false=>exact⟨h,a,H,nP⟩
  |true=>exact⟨j,gj,U,(Dy.status hKs W).elim (·.1) (λz=>by have:=VV rfl;omega)⟩
 obtain⟨i,g,A,u,hi,hg,dI⟩:=crowd_pick (P:=P) (w:=w.at d) (sl:=sK) (B.awake H (by cases pk<;>simp[nP,parked])) AB;rw[at_at']at dI;have D:Fr P σ (λ_=>False) h 0 t n (w.at A) l:=B.at A;have VW:(w.at A).heap[c]? =some (.chan 0 #[] false k k false):=hc;have adV:pC σ sH (w.at A):=⟨nA.wf,nA.chans,nA.mem,nA.wy⟩;have Rx:0<μ:=by
  cases pk with
  |false=>simp at S;omega
  |true=>
   have h1:=VV rfl;have h2:l j<=sumTo n.size l:=Go.ConcN.le_sumTo (f:=l) ai;simp at S;omega
 by_cases e:i=h
 ·
  subst e;cases pk with
  |true=>rw[H]at hi;obtain rfl:=cA hi;cases hg
  |false=>
   obtain rfl:g=a:=by rw[H]at hi;exact(cA hi).symm
   have Q:∀ (x:Nat) (y:aO),x≠j->(n.setIfInBounds i ph)[x]? =some y->offersAt y c false=[]:=by
    intro x y I J;rcases getElem?_stand n i x y J with⟨_,rfl⟩|⟨R,X⟩
    .exact offersAt_ph _ _
    .exact Fr.noRecvAt D R X λs' kG Y=>I<|m5 x s' kG Y
   rcases W with⟨kk',hq,hG⟩|⟨hq0,g₀,rr,rfl,vp⟩
   ·
    have Qu:gj.status=.running:=Way.running hKs hG;have hp:partners (n.setIfInBounds i ph) c false=[]:=partners_nil λx y J=>by
     by_cases I:x=j
     .subst I;rw[stand_get K U]at J;obtain rfl:=cA J;exact offersAt_of_not_blocked (by rw[Qu];simp) _ _
     .exact Q x y I J
    have hw:∀ cc∈#[scase c v z'],NoWays (w.at A) (n.setIfInBounds i ph) cc:=by intro cc mB;simp only[qO,gU,nY,gR]at mB;subst mB;exact ways_send_none VW (fC _) hp
    refine⟨_,_,sumTo n.size l+0,by rw[dI];exact crowd_waits (sl:=u) hi (Yt A) hw,by simp at S;omega,.inr ⟨_,A,u,l,true,rfl,by simpa using hsz,lh L,?_,λ_=>by omega,by simp⟩⟩;have:=D.setH (fn:=g.frame.fn) (pos:=g.frame.place) L (parked o #[scase c v z'] .send) (zM A)
    rwa[Gx]at this
   ·
    have hp:partners (n.setIfInBounds i ph) c false=[(j,kk)]:=by rw[partners_one (stand_get K U) λx y I J=>Q x y I J,offersAt_parked_at hk hu];rfl
    have C2:=D.setH (fn:=g.frame.fn) (pos:=g.frame.place) L o<|zM A;rw[Gx]at C2;have hH2:((n.setIfInBounds j<|(parked rr s.cases s.shape).finishComm P s.cases s.shape kk v true).setIfInBounds i<|o.finishComm P #[scase c v z'] .send 0 undef false)[i]? =some (Conc.served o undef):=lh (by simpa using L);refine⟨_,_,0,by rw[dI];exact crowd_send_meets_sel (sl:=u) hi (Yt A) VW K U hk hp,Rx,.inl ⟨_,A,u,upd l i<|m+1,rfl,?_,?_⟩⟩
    .refine⟨rr,vp.1,?_⟩;rw[ir (λz=>K z.symm),lh ai,finishComm_served]
    .rw[<- JM];exact C2.pass K (by simpa using L) hj Mf VW hcB (by simp) (λx R I=>by rw[ir (λz=>R z.symm),ir λz=>I z.symm,ir λz=>R z.symm]) (lh<|by simpa using L) _ _ _ _ adV od
 .by_cases ej:i=j/\pk=true/\Rr P (i==0) s g
  ·
   obtain⟨rfl,rfl,vp⟩:=ej;obtain⟨rr,hrr,_,_,_,_,esj,ah1,nz⟩:=vp;obtain⟨cY,hr,hl,vq,hd⟩:=wF (i:=i) (fn:=g.frame.fn) (pos:=g.frame.place) (D.mem i s hj) ah1;have hp:partners (n.setIfInBounds i ph) c true=[(h,0)]:=by
    rw[partners_one (stand_get (j6 K) H) λx y Qs J=>by
     rcases getElem?_stand n i x y J with⟨_,rfl⟩|⟨_,X⟩
     .exact offersAt_ph _ _
     .exact Fr.noSend D Qs X _]
    simp[offersAt_parked_send]
   have ho:∀ (m:Nat) (c':CommCase),m≠kk->s.cases[m]? =some c'->NoWays (w.at A) (n.setIfInBounds i ph) c':=by
    intro m c' hm Y;obtain⟨F,M,rfl⟩:=ZX.recvs c'<|VJ Y;have fA:c≠F:=λZ=>hu m _ hm Y (by rw[Z];rfl);obtain⟨k₂,adW⟩:=D.chans i s F (λz=>z) hj ⟨m,M,Y⟩;refine ways_recv_none adW (partners_nil λx y J=>?_);rcases getElem?_stand n i x y J with⟨_,rfl⟩|⟨_,X⟩
    .exact offersAt_ph _ _
    .by_cases Qs:x=h
     .subst Qs;rw[H]at X;obtain rfl:=cA X;simp only[fq];rw[offersAt_parked_send,ax fA]
     .exact Fr.noSend D Qs X _
   have uL:σ.lo i:=by unfold Gh.lo;rw[hj];rfl
   have nK:∀ x:aO,(n.setIfInBounds i x)[i]? =some x:=λx=>lh ai;have C2:Fr P σ (λ_=>False) h 0 (t++MemOp.ofEvents i g.frame.fn g.frame.place esj) (n.setIfInBounds i g) (w.at A) (upd l i<|l i):=by refine D.put (d:=A) e (λz=>z) ai (by simp) (λx R _=>ir λz=>R z.symm) (nK g) cY (by rw[hj];rw[hi]at U;obtain rfl:=cA U;exact W) (λ_=>hd t) ?_;exact D.px.reads (λi=>Knows.app _) uL cY (λop cV b hb=>⟨(hr op cV b hb).1,⟨s,hj,(hr op cV b hb).2⟩,D.wy i s _ hj (hr op cV b hb).2⟩) (λop cV ad ea=>absurd ea<|vq op cV ad) (fC _) hl
   refine⟨_,_,0,by rw[dI];exact crowd_sel_recv_meets (sl:=u) hi (nz _<|D.mem i s hj) hk ho VW (j6 K) H hp,Rx,.inl ⟨_,A,u,upd (upd l i<|l i) h<|m+1,rfl,?_,?_⟩⟩
   .refine⟨rr,hrr,?_⟩;rw[lh (by simp;omega),finishComm_served]
   .rw[<- JM];exact C2.pass K (by simpa using L) hj Mf VW hcB (by simp) (λx R I=>by rw[ir (λz=>I z.symm),ir λz=>R z.symm,ir λz=>I z.symm])
     (by rw[ir e,lh L,finishComm_send]) _ _ _ _ adV od
  ·
   obtain⟨p,O,E,d₂,JA,vr,v8,_,_,hqo,hq0,C',dH⟩:=D.by_step (sl:=u) hi e (λz=>z) hg L
    (λgx w' zm oc=>by
     rw[H]at zm;obtain rfl:=cA zm;cases pk with
     |false=>exact again_running _<|.inl nP
     |true=>exact again_send_open (by rw[oc];exact VW))
    (λs' kG vp gx c' zm Y=>by
     rw[H]at zm;obtain rfl:=cA zm;cases pk with
     |false=>exact offersAt_of_not_blocked (by simp[nP]) _ _
     |true=>
      simp only[fq];rw[offersAt_parked_send,ax];intro Z;have AD:i=j:=m5 i s' kG<|Z▸Y;subst AD;rw[hj]at kG;obtain rfl:=cA kG;exact ej ⟨rfl,rfl,vp⟩)
   refine⟨_,_,sumTo p.size E+(if pk then 0 else 1),by rw[dI];exact JA,by rw[vr];omega,.inr ⟨p,d₂,u,E,pk,rfl,vr.trans hsz,by rw[v8];exact H,C',λhp=>?_,rfl⟩⟩;subst hp;by_cases AD:j=i
   .subst AD;rcases NQ (E j)with h0|h0
    .exact absurd ⟨rfl,rfl,hq0 s hj h0⟩ ej
    .exact h0
   .rw[hqo j AD];exact VV rfl
end
end
section
open Go.Conc
open Go.ConcN (sumTo upd sumTo_upd upd_ne upd_same)
def KQ:Int:=4294967296
def nB(v wt:Nat):Value:=.int .u64<|(v:Int)*KQ+wt
def uY(s:Nat):Value:=.int .u32 (s:Int)
abbrev CD(m:Mark):Event:=⟨.mark m,false,true⟩
abbrev ar(a:Addr):Event:=⟨.cell a,false,true⟩
abbrev aw(a:Addr):Event:=⟨.cell a,true,true⟩
structure sg where
 blk:Nat
 o1:Nat
 o2:Nat
 cs:Array Value
 ty:aP
abbrev sg.st(G:sg):Addr:=⟨G.blk,G.o1,none⟩
abbrev sg.sm(G:sg):Addr:=⟨G.blk,G.o2,none⟩
structure sg.Ok(G:sg):Prop where
 ne:G.o1≠G.o2
 l1:G.o1<G.cs.size
 l2:G.o2<G.cs.size
abbrev sg.row(G:sg)(x y:Value):Array Value:=(G.cs.setIfInBounds G.o1 x).setIfInBounds G.o2 y
structure WG(G:sg)(w₀:World)(x y:Value)(w:World):Prop where
 hp:w.heap=w₀.heap.setIfInBounds G.blk (.cells (G.row x y) G.ty (0,0))
 os:w.os=w₀.os
 out:w.output=w₀.output
 b0:w₀.heap[G.blk]? =some (.cells G.cs G.ty (0,0))
section
variable{G:sg}{w₀ w w':World}{x y x' y':Value}
theorem WG.blt(H:WG G w₀ x y w):G.blk<w₀.heap.size:=(iF.1 H.b0).1
theorem WG.row(H:WG G w₀ x y w):w.heap[G.blk]? =some (.cells (G.row x y) G.ty (0,0)):=by rw[H.hp];exact lh H.blt
theorem WG.size(H:WG G w₀ x y w):w.heap.size=w₀.heap.size:=by rw[H.hp];simp
theorem WG.JR(H:WG G w₀ x y w)(a:b≠G.blk):w.heap[b]? =w₀.heap[b]? :=by rw[H.hp];exact ir<|j6 a
theorem WG.at(H:WG G w₀ x y w)(d:Nat):WG G w₀ x y (w.at d):=⟨H.hp,H.os,H.out,H.b0⟩
theorem RA(ok:G.Ok):(G.row x y)[G.o1]? =some x:=by rw[ir (j6 ok.ne)];exact lh ok.l1
theorem RB(ok:G.Ok):(G.row x y)[G.o2]? =some y:=lh<|by simpa using ok.l2
theorem xL{o:Nat}(h1:o≠G.o1)(a:o≠G.o2):(G.row x y)[o]? =G.cs[o]? :=by rw[ir (j6 a),ir<|j6 h1]
theorem WG.Yu(ok:G.Ok)(H:WG G w₀ x y w):w.cell? G.st=some x:=by simp only[World.cell?,H.row];exact RA ok
theorem WG.csm(ok:G.Ok)(H:WG G w₀ x y w):w.cell? G.sm=some y:=by simp only[World.cell?,H.row];exact RB ok
theorem WG.fst(H:WG G w₀ x y w):w.frozen? G.st=false:=by simp only[World.frozen?,H.row];simp
theorem WG.fsm(H:WG G w₀ x y w):w.frozen? G.sm=false:=by simp only[World.frozen?,H.row];simp
theorem RD(ok:G.Ok):(G.row x y).setIfInBounds G.o1 x'=G.row x' y:=by
 apply uJ;intro i;by_cases h1:i=G.o1
 .subst h1;rw[RA ok,lh<|by simpa using ok.l1]
 .rw[ir (j6 h1)];by_cases a:i=G.o2
  .subst a;rw[RB ok,RB ok]
  .rw[xL h1 a,xL h1 a]
theorem RE(ok:G.Ok):(G.row x y).setIfInBounds G.o2 y'=G.row x y':=by
 apply uJ;intro i;by_cases a:i=G.o2
 .subst a;rw[RB ok,lh<|by simpa using ok.l2]
 .rw[ir (j6 a)];by_cases h1:i=G.o1
  .subst h1;rw[RA ok,RA ok]
  .rw[xL h1 a,xL h1 a]
theorem rH{w:World}{o:Nat}{cs:Array Value}{t:aP}(h:w.heap[b]? =some (.cells cs t fz)):
  (w.setCell ⟨b,o,none⟩ v).heap=w.heap.setIfInBounds b (.cells (cs.setIfInBounds o v) t fz):=by
 have a:b<w.heap.size:=(iF.1 h).1;unfold World.setCell;apply uJ;intro i;by_cases e:i=b
 .subst e;simp only[VL,fq,h,lQ];rw[lh a];simp
 .rw[ir (j6 e)];simp only[VL,ax<|j6 e]
theorem set_set(a:Array Obj)(b:Nat)(o o':Obj):(a.setIfInBounds b o).setIfInBounds b o'=a.setIfInBounds b o':=by
 apply uJ;intro i;by_cases e:i=b
 .subst e;by_cases c:i<a.size
  .rw[lh (by simpa using c),lh c]
  .rw[JL (by simp;omega),JL (by simp;omega)]
 .rw[ir (j6 e),ir<|j6 e,ir<|j6 e]
theorem WG.setSt(ok:G.Ok)(H:WG G w₀ x y w)(x':Value):WG G w₀ x' y (w.setCell G.st x'):=by refine⟨?_,H.os,H.out,H.b0⟩;rw[rH H.row,RD ok,H.hp,set_set]
theorem WG.setSm(ok:G.Ok)(H:WG G w₀ x y w)(y':Value):WG G w₀ x y' (w.setCell G.sm y'):=by refine⟨?_,H.os,H.out,H.b0⟩;rw[rH H.row,RE ok,H.hp,set_set]
theorem WG.other(H:WG G w₀ x y w)(h1:a≠G.st)(c:a≠G.sm):w.cell? a=w₀.cell? a:=by
 obtain⟨b,o,sp⟩:=a;by_cases e:b=G.blk
 .subst e;simp only[World.cell?,H.row,H.b0];cases sp with
  |some s=>rfl
  |none=>
   simp only[GI,fW,eQ];exact xL (λz=>h1<|by rw[z]) λz=>c<|by rw[z]
 .simp only[World.cell?,H.JR e]
theorem WG.Yv(H:WG G w₀ x y w)(c:WG G w₀ x' y' w')(h1:a≠G.st)(b:a≠G.sm):w'.cell? a=w.cell? a:=by rw[H.other h1 b,c.other h1 b]
theorem WG.Yw(H:WG G w₀ x y w)(a:WG G w₀ x' y' w'){o:Obj}(h:w.heap[r]? =some o)(b:o.isChan=true):w'.heap[r]? =some o:=by
 have e:r≠G.blk:=λe=>by subst e;rw[H.row]at h;obtain rfl:=cA h;cases b
 rw[a.JR e,<- H.JR e];exact h
end
def Gs(G:sg)(w:World):Prop:=∃ c,w.heap[G.blk]? =some (.cells c G.ty (0,0))/\c.size=G.cs.size
theorem WG.gs{G:sg}{w₀:World}{x y:Value}(H:WG G w₀ x y w):Gs G w:=⟨_,H.row,by simp⟩
inductive St where
 |rel|zN|add|ld|Qv|JS
def Cl(P:bT)(G:sg):Nat->St->aO->Prop
 |0,_,_=>False
 |n+1,x,g=>g.status=.running/\((∃ g',(∀ w,Gs G w->stepG P false g w=.go g' w #[])/\Cl P G n x g')\/match x with
  |.rel=>∃ g',(∀ w,stepG P false g w=.go g' w #[CD (.releaseMerge G.st)])/\Cl P G n .zN g'
  |.zN=>∃ g',(∀ w,stepG P false g w=.go g' w #[CD .disable])/\Cl P G n .add g'
  |.add=>∃ g':Nat->Nat->aO,(∀ w v wt,v<=3->wt<=1->w.cell? G.st=some (nB (v+1) wt)->w.frozen? G.st=false->stepG P false g w=.go (g' v wt) (w.setCell G.st<|nB v wt) #[ar G.st,aw G.st])/\
    Cl P G n .ld (g' 0 1)/\∀ v wt,v<=3->wt<=1->¬ (v=0/\wt=1)->QuitsD P n 1 (g' v wt)
  |.ld=>∃ g',(∀ w,w.cell? G.st=some (nB 0 1)->stepG P false g w=.go g' w #[ar G.st])/\Cl P G n .Qv g'
  |.Qv=>∃ g',(∀ w,w.cell? G.st=some (nB 0 1)->w.frozen? G.st=false->stepG P false g w=.go g' (w.setCell G.st<|nB 0 0) #[aw G.st])/\Cl P G n .JS g'
  |.JS=>mayWake P g=true/\∃ g',(∀ w,w.cell? G.sm=some (uY 0)->w.frozen? G.sm=false->stepG P false g w=.go g' (w.setCell G.sm<|uY 1) (semEvents G.sm))/\QuitsD P n 1 g')
inductive MS where
 |zN (c:Nat)|head (c:Nat)|VX (v:Nat)|reg|last|RF|acq
inductive MW(P:bT)(G:sg)(Fin:aO->Prop):MS->aO->Prop
 |mute {x:MS} {g g':aO} (hs:g.status=.running) (h:∀ w,Gs G w->stepG P true g w=.go g' w #[]) (k:MW P G Fin x g'):MW P G Fin x g
 |zN {c:Nat} {g g':aO} (hs:g.status=.running) (h:∀ w,stepG P true g w=.go g' w #[CD .disable]) (k:MW P G Fin (.head c) g'):MW P G Fin (.zN c) g
 |load {c:Nat} {g:aO} (f:Nat->aO) (hs:g.status=.running) (h:∀ w v,v<=c->w.cell? G.st=some (nB v 0)->stepG P true g w=.go (f v) w #[ar G.st])
   (k0:MW P G Fin .RF (f 0)) (k:∀ v,1<=v->v<=c->MW P G Fin (.VX v) (f v)):MW P G Fin (.head c) g
 |VX {v:Nat} {g g1 g2:aO} (hs:g.status=.running) (h1:∀ w,w.cell? G.st=some (nB v 0)->w.frozen? G.st=false->stepG P true g w=.go g1 (w.setCell G.st (nB v 1)) #[ar G.st,aw G.st])
   (h2:∀ w v',v'<v->w.cell? G.st=some (nB v' 0)->w.frozen? G.st=false->stepG P true g w=.go g2 w #[ar G.st]) (k1:MW P G Fin .reg g1) (k2:MW P G Fin (.head (v-1)) g2):MW P G Fin (.VX v) g
 |said {g g':aO} (hs:g.status=.running) (h:∀ w,stepG P true g w=.go g' w #[CD (.write G.sm)]) (k:MW P G Fin .reg g'):MW P G Fin .reg g
 |JS {g g':aO} (hs:g.status=.running) (ho:g.offers=none) (h0:∀ w,w.cell? G.sm=some (uY 0)->stepG P true g w=.go {g with status:=.blocked} w #[])
   (h1:∀ w,w.cell? G.sm=some (uY 1)->w.frozen? G.sm=false->stepG P true g w=.go g' (w.setCell G.sm (uY 0)) (semEvents G.sm)) (k:MW P G Fin .last g'):MW P G Fin .reg g
 |last {g g':aO} (hs:g.status=.running) (h:∀ w,w.cell? G.st=some (nB 0 0)->stepG P true g w=.go g' w #[ar G.st]) (k:MW P G Fin .RF g'):MW P G Fin .last g
 |RF {g g':aO} (hs:g.status=.running) (h:∀ w,stepG P true g w=.go g' w #[CD .enable]) (k:MW P G Fin .acq g'):MW P G Fin .RF g
 |acq {g g':aO} (hs:g.status=.running) (h:∀ w,stepG P true g w=.go g' w #[CD (.acquire G.st)]) (k:Fin g'):MW P G Fin .acq g
section
variable{P:bT}{σ:Gh}{J:Nat->Prop}{h δ:Nat}{T:Trace}{gs:Array aO}{w w':World}{q:Nat->Nat}
theorem Fr.world(C:Fr P σ J h δ T gs w q)(hsz:w'.heap.size=w.heap.size)(a:∀ (r:Nat) (o:Obj),w.heap[r]? =some o->o.isChan=true->w'.heap[r]? =some o)(hm:∀ i s p,σ.aU i=some s->p∈s.mem->w.cell? p.1=some p.2->w'.cell? p.1=some p.2):
  Fr P σ J h δ T gs w' q:=
 ⟨C.cnt,C.idle,C.zl,C.jh,C.hole,C.wf,C.there,λi s c b e d=>by obtain⟨k,f⟩:=C.chans i s c b e d;exact⟨k,a _ _ f rfl⟩,λi s e p hp=>hm i s p e hp<|C.mem i s e p hp,C.wy,C.above,C.hear,C.deaf,by rw[hsz];exact C.px⟩
theorem Fr.adX(C:Fr P σ J h δ T gs w q){i:Nat}{g':aO}{O:Array MemOp}{f:Array aO}(k:J i)(E:i<gs.size)(hsz:w'.heap.size=w.heap.size)
  (t:∀ (r:Nat) (o:Obj),w.heap[r]? =some o->o.isChan=true->w'.heap[r]? =some o) (hm:∀ i s p,σ.aU i=some s->p∈s.mem->w.cell? p.1=some p.2->w'.cell? p.1=some p.2)
  (c:f.size=gs.size) (l:∀ x,x≠i->x≠h->f[x]? =gs[x]?) (u:f[i]? =some g') (v:g'.status=.running\/g'.status=.finished) (g:∀ op∈O,op.g=i)
  (A:Px σ.rd σ.lo σ.sh w.heap.size (Knows (T++O) h) (T++O)):Fr P σ J h δ (T++O) f w' q:=by
 have B:i≠h:=λe=>C.jh<|e▸k;have m:Fr P σ J h δ T gs w' q:=C.world hsz t hm;refine⟨c.trans C.cnt,λx y n a b=>?_,λx y a b=>?_,C.jh,C.hole,C.wf,λi s e=>by rw[c];exact C.there i s e,m.chans,m.mem,C.wy,λj F=>?_,λx a hl=>?_,?_,by rw[hsz];exact A⟩
 .have e:x≠i:=λe=>a<|e▸k;rw[l x e n]at b;have d:=C.idle x y n a b;cases es:σ.aU x with
  |none=>rw[es]at d;exact⟨d.1,by rw[Deaf_other T (λz=>e z.symm) O g];exact d.2⟩
  |some s=>rw[es]at d;exact d
 .by_cases e:x=i
  .subst e;rw[u]at b;obtain rfl:=cA b;exact v
  .have D:x≠h:=λe=>C.jh<|e▸a;rw[l x e D]at b;exact C.zl x y a b
 .rw[Deaf_other T (g':=i) ai O g];exact C.above j ai
 .rw[Deaf_other T (λz:i=x=>a (by rw[<- z];exact k)) O g];exact C.hear x a hl
 .rw[Deaf_other T B O g];exact C.deaf
theorem G0{fn:bN}{sh:Loc->Prop}(m:∀ (j:Nat) (e:Event),es[j]? =some e->(MemAct.ofEvent e).touch?=none\/((∃ ad wr,e=⟨.cell ad,wr,true⟩/\sh (.cell ad))/\0<deafBehind (Deaf T i) (es.extract 0 j))):
  ∀ (k:Nat) (op:MemOp),(MemOp.ofEvents i fn pos es)[k]? =some op->∀ b,op.act.touch?=some b->b.kind=.atomic/\sh b.loc/\¬ (T++MemOp.ofEvents i fn pos es).heard (T.size+k):=by
 intro k op f b a;have h:=f;rw[ofEvents_eq,GH]at h;obtain⟨e,c,rfl⟩:=LO.1 h;rcases m k e c with n|⟨⟨ad,wr,rfl,hs⟩,r⟩
 .simp only at a;rw[n]at a;cases a
 .have o:k<=es.size:=by
   rcases lP k es.size with h'|h'
   .omega
   .rw[JL h']at c;cases c
  have d:b=⟨.cell ad,wr,.atomic⟩:=by cases wr<;>simp[MemAct.ofEvent,MemAct.touch?]at a<;>exact a.symm
  subst d;refine⟨rfl,hs,?_⟩;rintro⟨g,l,p⟩;have q:g=i:=by
   have:(T++MemOp.ofEvents i fn pos es)[T.size+k]? =some {g:=i,fn,pos,act:=.ofEvent ⟨.cell ad,wr,true⟩}:=by rw[qq4 ai];simpa using f
   rw[g?_of this]at l;exact(cA l).symm
  subst q;rw[deaf_inside T g fn pos es k o]at p;omega
end
end
section
open Go.Conc
open Go.ConcN (sumTo upd sumTo_upd upd_ne upd_same)
inductive WS where
 |app|cl (st:St)|qt
def WS.cnt:WS->Nat
 |.app|.cl .rel|.cl .zN|.cl .add=>1
 |_=>0
def WS.opn:WS->Prop
 |.cl .ld|.cl .Qv|.cl .JS=>False
 |_=>True
def St.deaf:St->Nat
 |.rel|.zN=>0
 |_=>1
def jz(f:Nat->Nat):List Nat->Nat
 |[]=>0
 |i::l=>f i+jz f l
theorem AE{f g:Nat->Nat}:∀ {l:List Nat},(∀ i∈l,f i=g i)->jz f l=jz g l
 |[],_=>rfl
 |i::l,h=>by rw[jz,jz,h i (by simp),AE λj a=>h j<|by simp[a]]
theorem wH{α:Type}(D:Nat->α)(x:α)(φ:α->Nat){i:Nat}:∀ {l:List Nat},l.Nodup->i∈l->jz (λj=>φ<|upd D i x j) l+φ (D i)=jz (λj=>φ<|D j) l+φ x
 |[],_,h=>by simp at h
 |j::l,a,h=>by
  rw[qP]at a;by_cases e:j=i
  .subst e;have:jz (λk=>φ<|upd D j x k) l=jz (λk=>φ<|D k) l:=AE λk b=>by rw[upd_ne D x (λz:k=j=>a.1 (by rw[<- z];exact b))]
   simp only[jz,upd_same];omega
  .have hi:i∈l:=by
    rcases gU.1 h with z|z
    .exact absurd z.symm e
    .exact z
   have:=wH D x φ a.2 hi;simp only[jz,upd_ne D x e];omega
theorem Mh{f:Nat->Nat}(h:∀ i,f i<=1):∀ l:List Nat,jz f l<=l.length
 |[]=>by simp[jz]
 |i::l=>by have:=Mh h l;have:=h i;simp only[jz,nN];omega
theorem xM{f:Nat->Nat}:∀ {l:List Nat},jz f l=0->∀ i∈l,f i=0
 |[],_,i,hi=>by simp at hi
 |j::l,h,i,hi=>by
  simp only[jz]at h;rcases gU.1 hi with rfl|hi
  .omega
  .exact xM (l:=l) ai i hi
theorem G1{f:Nat->Nat}:∀ {l:List Nat},1<=jz f l->∃ i∈l,1<=f i
 |[],h=>by simp[jz]at h
 |j::l,h=>by
  simp only[jz]at h;by_cases a:1<=f j
  .exact⟨j,by simp,a⟩
  .obtain⟨i,hi,h1⟩:=G1 (l:=l) (f:=f) ai;exact⟨i,by simp[hi],h1⟩
theorem ZZ(x:WS):x.cnt<=1:=by
 cases x with
 |app=>simp[WS.cnt]
 |cl s=>cases s<;>simp[WS.cnt]
 |qt=>simp[WS.cnt]
def V(L:List Nat)(D:Nat->WS):Nat:=jz (λj=>(D j).cnt) L
def VY(P:bT)(σ:Gh)(G:sg)(c N0:Nat)(T:Trace)(i n:Nat)(g:aO):WS->Prop
 |.app=>∃ s cw z0 z1 k,σ.aU i=some s/\s.cases=#[rcase cw z0,rcase c z1]/\n=k+1+N0/\Way P false s k g/\Deaf T i=0/\∀ r,s.wv r->Cl P G N0 .rel (Conc.served r<|commResult s.cases s.shape 1 z1 false)
 |.cl x=>Cl P G n x g/\Deaf T i=x.deaf/\(x≠ .rel->∃ r,pZ σ.sh G.st T i r)
 |.qt=>QuitsD P n (Deaf T i) g/\∃ r,pZ σ.sh G.st T i r
theorem Cl.running{P:bT}{G:sg}{n:Nat}{x:St}{g:aO}(h:Cl P G n x g):g.status=.running:=by
 cases n with
 |zero=>exact h.elim
 |succ n=>exact h.1
theorem VY.other{P:bT}{σ:Gh}{G:sg}{c N0:Nat}{T u:Trace}{i j n:Nat}{g:aO}{x:WS}(H:VY P σ G c N0 T i n g x)(hu:∀ op∈u,op.g=j)(a:j≠i):VY P σ G c N0 (T++u) i n g x:=by
 have b:Deaf (T++u) i=Deaf T i:=Deaf_other T a u hu;cases x with
 |app=>
  obtain⟨s,e,f,z1,k,h1,h,l,m,o,p⟩:=H;exact⟨s,e,f,z1,k,h1,h,l,m,b.trans o,p⟩
 |cl x=>exact⟨H.1,b.trans H.2.1,λq=>let⟨r,d⟩:=H.2.2 q;⟨r,d.other hu a⟩⟩
 |qt=>exact⟨by rw[b];exact H.1,let⟨r,d⟩:=H.2;⟨r,d.other hu a⟩⟩
structure CI(P:bT)(σ:Gh)(L:List Nat)(G:sg)(c N0:Nat)(w₀:World)(δ:Nat)(T:Trace)(gs:Array aO)(w:World)(q:Nat->Nat)(D:Nat->WS)(f:Nat->Nat)(x y:Value):Prop where
 fr:Fr P σ (· ∈L) 0 δ T gs w q
 ok:G.Ok
 nd:L.Nodup
 len:L.length<=4
 wk:∀ i∈L,∃ g,gs[i]? =some g/\VY P σ G c N0 T i (f i) g (D i)
 shut:∃ k,w.heap[c]? =some (.chan 0 #[] true k k false)
 cw:∀ i s,i∈L->σ.aU i=some s->∃ cw z0 z1 k,s.cases=#[rcase cw z0,rcase c z1]/\w.heap[cw]? =some (.chan 0 #[] false k k false)
 loose:∀ i∈L,σ.lo i
 wg:WG G w₀ x y w
 AF:σ.sh (.cell G.st)
 JC:σ.sh (.cell G.sm)
def vu(pk:Bool)(a:aO):aO:=if pk then{a with status:=.blocked}else a
theorem DC{a:aO}(hr:a.status=.running)(b:pk=true->a.offers=none)(w:World):(vu pk a).again w=a:=by
 cases pk with
 |false=>exact again_running w<|.inl hr
 |true=>
  have:=b rfl;unfold vu Goroutine.again;simp only[fq,this];cases a
  simp_all
section
variable{P:bT}{σ:Gh}{L:List Nat}{G:sg}{c N0:Nat}{w₀:World}{δ:Nat}{T:Trace}{gs:Array aO}{w w':World}{q:Nat->Nat}{D:Nat->WS}{f:Nat->Nat}{x y x' y':Value}
theorem CI.at(C:CI P σ L G c N0 w₀ δ T gs w q D f x y)(d:Nat):CI P σ L G c N0 w₀ δ T gs (w.at d) q D f x y:=
 ⟨C.fr.at d,C.ok,C.nd,C.len,C.wk,C.shut,C.cw,C.loose,C.wg.at d,C.AF,C.JC⟩
theorem CI.E8(C:CI P σ L G c N0 w₀ δ T gs w q D f x y){s:dP}{p:Addr×Value}(e:σ.aU i=some s)(hp:p∈s.mem):p.1≠G.st/\p.1≠G.sm:=
 ⟨λz=>C.fr.wy i s _ e ⟨p,hp,rfl⟩<|z▸C.AF,λz=>C.fr.wy i s _ e ⟨p,hp,rfl⟩<|z▸C.JC⟩
theorem CI.put(C:CI P σ L G c N0 w₀ δ T gs w q D f x y){g g' a:aO}{ws:WS}(hi:i∈L)(I:gs[i]? =some g)(A:stepG P false g w=.go g' w' es)(m:WG G w₀ x' y' w')
  (B:g'.status=.running\/g'.status=.finished) (U:Px σ.rd σ.lo σ.sh w.heap.size (Knows (T++MemOp.ofEvents i g.frame.fn g.frame.place es) 0) (T++MemOp.ofEvents i g.frame.fn g.frame.place es))
  (W:VY P σ G c N0 (T++MemOp.ofEvents i g.frame.fn g.frame.place es) i n' g' ws) (dH:n'<f i) (ha:gs[0]? =some (vu pk a)) (X:a.status=.running) (Y:pk=true->a.offers=none):
  ∃ (n:Array aO) (E:Bool),runT P (crowd gs w sl) i=(.next<|crowd n w' sl,MemOp.ofEvents i g.frame.fn g.frame.place es)/\n.size=gs.size/\n[0]? =some (vu E a)/\(E=true->pk=true)/\(mayWake P g=true->E=false)/\
   CI P σ L G c N0 w₀ δ (T++MemOp.ofEvents i g.frame.fn g.frame.place es) n w' q (upd D i ws) (upd f i n') x' y'/\jz (upd f i n') L<jz f L:=by
 have J:i≠0:=λe=>C.fr.jh<|e▸hi;have Z:(i==0)=false:=by rw[VK];exact J
 have K:i<gs.size:=(iF.1 I).1;have M:∀ op∈MemOp.ofEvents i g.frame.fn g.frame.place es,op.g=i:=λop cV=>by obtain⟨e,_,rfl⟩:=Conc.mem_ofEvents cV;rfl
 have b:w'.heap.size=w.heap.size:=by rw[m.size,C.wg.size]
 have t:∀ (r:Nat) (o:Obj),w.heap[r]? =some o->o.isChan=true->w'.heap[r]? =some o:=λr o h1 d=>C.wg.Yw m h1 d;have N:∀ i s p,σ.aU i=some s->p∈s.mem->w.cell? p.1=some p.2->w'.cell? p.1=some p.2:=λi s p e hp h1=>by rw[C.wg.Yv m (C.E8 e hp).1 (C.E8 e hp).2];exact h1
 have Cw:=C.fr.world b t N;have O:∀ z,z≠i->z≠0->((gs.map<|woken P g g' w').setIfInBounds i g')[z]? =gs[z]? :=by
  intro z hz F;rw[ir (λe=>hz e.symm),GH];cases e:gs[z]? with
  |none=>rfl
  |some v=>simp[woken_of_again (Cw.fixed F e)]
 have Q:((gs.map<|woken P g g' w').setIfInBounds i g')[i]? =some g':=lh (by simpa using K);have R:((gs.map<|woken P g g' w').setIfInBounds i g')[0]? =some (woken P g g' w'<|vu pk a):=by rw[ir J,GH,ha];rfl
 have S:=runT_crowd_go (P:=P) (sl:=sl) I (by rw[Z];exact A);have JU:jz (upd f i n') L+f i=jz f L+n':=wH f n' id C.nd hi;have l:CI P σ L G c N0 w₀ δ (T++MemOp.ofEvents i g.frame.fn g.frame.place es) ((gs.map<|woken P g g' w').setIfInBounds i g') w' q (upd D i ws) (upd f i n') x' y':=by
  refine⟨C.fr.adX hi K b t N (by simp) O Q B M U,C.ok,C.nd,C.len,λj u=>?_,?_,λj s u e=>?_,C.loose,m,C.AF,C.JC⟩
  .by_cases e:j=i
   .subst e;exact⟨g',Q,by rw[upd_same,upd_same];exact W⟩
   .obtain⟨gj,h1,d⟩:=C.wk j u;refine⟨gj,by rw[O j e (λz=>C.fr.jh<|z▸u)];exact h1,?_⟩;rw[upd_ne f n' e,upd_ne D ws e];exact d.other M λz=>e z.symm
  .obtain⟨k,hk⟩:=C.shut;exact⟨k,t _ _ hk rfl⟩
  .obtain⟨cw,z0,z1,k,h1,d⟩:=C.cw j s u e;exact⟨cw,z0,z1,k,h1,t _ _ d rfl⟩
 by_cases H:mayWake P g=true
 .refine⟨_,false,S,by simp,?_,λh=>(by cases h),λ_=>rfl,l,ai⟩;rw[R];have iu:(g'.status != .blocked)=true:=by rcases B with h|h<;>rw[h]<;>rfl
  have si:(g'.status != .waiting)=true:=by rcases B with h|h<;>rw[h]<;>rfl
  unfold woken;rw[H,iu,si];simp only[Bool.and_self,fq];rw[DC X Y];rfl
 .refine⟨_,pk,S,by simp,?_,λh=>h,λh=>absurd h H,l,ai⟩;rw[R];unfold woken;simp[H]
theorem CI.Mi(C:CI P σ L G c N0 w₀ δ T gs w q D f x y){fn:bN}{m:Mark}(h1:(MemAct.ofEvent<|CD m).touch?=none)(g:∀ ad,m≠ .release ad)(h:(MemAct.ofEvent<|CD m).low w.heap.size):
  Px σ.rd σ.lo σ.sh w.heap.size (Knows (T++MemOp.ofEvents i fn pos #[CD m]) 0) (T++MemOp.ofEvents i fn pos #[CD m]):=by
 refine C.fr.px.mute (λi=>Knows.app _) (λop a=>?_) (λop a ad b=>?_) (fC _) λop a=>?_
 all_goals
  obtain⟨e,d,rfl⟩:=Conc.mem_ofEvents a;simp only[qO,gU,nY,gR]at d;subst d
 .exact h1
 .simp only[MemAct.ofEvent,MemAct.mark.injEq]at b;exact absurd b<|g ad
 .exact h
def uh(v:Nat):MS->Prop
 |.zN c|.head c=>v<=c
 |.VX u=>v<=u/\1<=u
 |_=>False
inductive Md(L:List Nat)(D:Nat->WS):MS->Value->Value->Bool->Prop
 |opn {tag:MS} (ht:uh (V L D) tag) (hD:∀ i∈L,(D i).opn):Md L D tag (nB (V L D) 0) (uY 0) false
 |reg {pk:Bool} (hD:∀ i∈L,(D i).opn) (h1:1<=V L D):Md L D .reg (nB (V L D) 1) (uY 0) pk
 |uM {pk:Bool} (j:Nat) (hj:j∈L) (hx:D j=.cl .ld\/D j=.cl .Qv) (ho:∀ i∈L,i≠j->D i=.qt):Md L D .reg (nB 0 1) (uY 0) pk
 |vw {pk:Bool} (j:Nat) (hj:j∈L) (hx:D j=.cl .JS) (ho:∀ i∈L,i≠j->D i=.qt):Md L D .reg (nB 0 0) (uY 0) pk
 |sema (ho:∀ i∈L,D i=.qt):Md L D .reg (nB 0 0) (uY 1) false
 |fin {tag:MS} (ht:tag=.last\/tag=.RF\/tag=.acq) (ho:∀ i∈L,D i=.qt):Md L D tag (nB 0 0) (uY 0) false
theorem RH(a:L.Nodup)(hi:i∈L)(ws:WS):V L (upd D i ws)+(D i).cnt=V L D+ws.cnt:=wH D ws WS.cnt a hi
theorem E9{v a:Nat}(h:a<=v){t:MS}(ht:uh v t):uh a t:=by cases t<;>simp only[uh]at ht⊢ <;>omega
theorem Md.same{tag:MS}{c:Bool}(M:Md L D tag x y pk)(u:L.Nodup)(hi:i∈L){ws:WS}(n:(D i).opn)(v:ws.opn)(hc:ws.cnt=(D i).cnt)(r:D i=.qt->ws=.qt)(o:c=true->pk=true):Md L (upd D i ws) tag x y c:=by
 have p:V L (upd D i ws)=V L D:=by have:=RH (D:=D) u hi ws;omega
 have s:(∀ j∈L,(D j).opn)->∀ j∈L,(upd D i ws j).opn:=λh j b=>by
  by_cases e:j=i
  .subst e;rw[upd_same];exact v
  .rw[upd_ne D ws e];exact h j b
 have l:(∀ j∈L,D j=.qt)->∀ j∈L,upd D i ws j=.qt:=λh j b=>by
  by_cases e:j=i
  .subst e;rw[upd_same];exact r<|h j b
  .rw[upd_ne D ws e];exact h j b
 have m:∀ a,(∀ j∈L,j≠a->D j=.qt)->i≠a->∀ j∈L,j≠a->upd D i ws j=.qt:=λa h k j b t=>by
  by_cases e:j=i
  .subst e;rw[upd_same];exact r<|h j b t
  .rw[upd_ne D ws e];exact h j b t
 cases M with
 |opn q f=>
  have:c=false:=by cases c with
   |false=>rfl
   |true=>exact absurd (o rfl)<|by simp
  subst this;rw[<- p];exact .opn (by rw[p];exact q)<|s f
 |reg f h1=>rw[<- p];exact .reg (s f) ai
 |uM j b d g=>
  have k:i≠j:=λe=>by subst e;rcases d with d|d<;>rw[d]at n<;>exact n
  exact .uM j b (by rw[upd_ne D ws (j6 k)];exact d)<|m j g k
 |vw j b d g=>
  have k:i≠j:=λe=>by subst e;rw[d]at n;exact n
  exact .vw j b (by rw[upd_ne D ws (j6 k)];exact d)<|m j g k
 |sema g=>
  have:c=false:=by cases c with
   |false=>rfl
   |true=>exact absurd (o rfl)<|by simp
  subst this;exact .sema<|l g
 |fin q g=>
  have:c=false:=by cases c with
   |false=>rfl
   |true=>exact absurd (o rfl)<|by simp
  subst this;exact .fin q<|l g
end
end
section
open Go.Conc
open Go.ConcN (sumTo upd sumTo_upd upd_ne upd_same)
section
variable{P:bT}{σ:Gh}{L:List Nat}{G:sg}{c N0:Nat}{w₀:World}{δ:Nat}{T:Trace}{gs:Array aO}{w w':World}{q:Nat->Nat}{D:Nat->WS}{f:Nat->Nat}{x y x' y':Value}{tag:MS}{pk:Bool}
def qa(σ:Gh)(d:Nat)(es:Array Event):Prop:=
 ∀ (j:Nat) (e:Event),es[j]? =some e->(MemAct.ofEvent e).touch?=none\/((∃ ad wr,e=⟨.cell ad,wr,true⟩/\σ.sh (.cell ad))/\0<deafBehind d (es.extract 0 j))
theorem adZ(h:σ.sh (.cell a)):qa σ 1 #[ar a]:=by
 intro j e b;rcases j with _|j
 .simp at b;subst b;exact .inr ⟨⟨a,false,rfl,h⟩,by simp[deafBehind]⟩
 .simp at b
theorem ad0(h:σ.sh (.cell a)):qa σ 1 #[aw a]:=by
 intro j e b;rcases j with _|j
 .simp at b;subst b;exact .inr ⟨⟨a,true,rfl,h⟩,by simp[deafBehind]⟩
 .simp at b
theorem Mj(h:σ.sh (.cell a)):qa σ 1 #[ar a,aw a]:=by
 intro j e b;rcases j with _|_|j
 .simp at b;subst b;exact .inr ⟨⟨a,false,rfl,h⟩,by simp[deafBehind]⟩
 .simp at b;subst b;exact .inr ⟨⟨a,true,rfl,h⟩,by simp[deafBehind]⟩
 .simp at b
theorem RI(h:σ.sh (.cell a)):qa σ 1 (semEvents a):=by
 intro j e b;unfold semEvents at b⊢;rcases j with _|_|_|_|j
 .simp at b;subst b;exact .inl rfl
 .simp at b;subst b;exact .inr ⟨⟨a,false,rfl,h⟩,by simp[deafBehind]⟩
 .simp at b;subst b;exact .inr ⟨⟨a,true,rfl,h⟩,by simp[deafBehind]⟩
 .simp at b;subst b;exact .inl rfl
 .simp at b
theorem CI.zO(C:CI P σ L G c N0 w₀ δ T gs w q D f x y){fn:bN}{es:Array Event}(j:Deaf T i=d)(k:qa σ d es)(hm:∀ e∈es,∀ ad,MemAct.ofEvent e≠ .mark (.release ad))(hl:∀ e∈es,(MemAct.ofEvent e).low w.heap.size):
  Px σ.rd σ.lo σ.sh w.heap.size (Knows (T++MemOp.ofEvents i fn pos es) 0) (T++MemOp.ofEvents i fn pos es):=by
 have h:=G0 (T:=T) (i:=i) (fn:=fn) (pos:=pos) (es:=es) (sh:=σ.sh) (by rw[j];exact k);exact C.fr.px.VS (λi=>Knows.app _) (λop a=>by obtain⟨e,_,rfl⟩:=Conc.mem_ofEvents a;rfl) h (λg l _ m=>by obtain⟨s,e,hl⟩:=m;exact C.fr.wy g s l e hl)
  (λop a ad n=>by obtain⟨e,b,rfl⟩:=Conc.mem_ofEvents a;exact absurd n<|hm e b ad) (fC _) (λop a=>by obtain⟨e,b,rfl⟩:=Conc.mem_ofEvents a;exact hl e b)
theorem pZ.atom{fn:bN}(H:pZ σ.sh a T i r)(c:Deaf T i=d)(e:qa σ d es):pZ σ.sh a (T++MemOp.ofEvents i fn pos es) i r:=by have h:=G0 (T:=T) (i:=i) (fn:=fn) (pos:=pos) (es:=es) (sh:=σ.sh) (by rw[c];exact e);exact H.app λk op f _ b g=>h k op f b g
theorem CI.RJ(C:CI P σ L G c N0 w₀ δ T gs w q D f x y):G.blk<w.heap.size:=by rw[C.wg.size];exact C.wg.blt
theorem Mk{v:WS}(h:v.opn)(a:v.cnt=0):v=.qt:=by
 cases v with
 |app=>simp[WS.cnt]at a
 |cl s=>cases s<;>simp_all [WS.cnt,WS.opn]
 |qt=>rfl
theorem Md.Z0(M:Md L D tag x y pk)(hi:i∈L)(h1:(D i).cnt=1):(∀ j∈L,(D j).opn)/\1<=V L D/\((uh (V L D) tag/\x=nB (V L D) 0/\y=uY 0/\pk=false)\/(tag=.reg/\x=nB (V L D) 1/\y=uY 0)):=by
 have c:∀ {a:WS},D i=a->a.cnt=0->False:=λe h=>by rw[e]at h1;omega
 have g:∀ l:List Nat,i∈l->1<=jz (λj=>(D j).cnt) l:=λl=>by
  induction l with
  |nil=>intro h;simp at h
  |cons j l k=>
   intro h;rcases gU.1 h with rfl|h
   .simp only[jz];omega
   .have:=k h;simp only[jz];omega
 cases M with
 |opn m f=>exact⟨f,g L hi,.inl ⟨m,rfl,rfl,rfl⟩⟩
 |reg f h=>exact⟨f,h,.inr ⟨rfl,rfl,rfl⟩⟩
 |uM j n d b=>
  by_cases e:i=j
  .subst e;rcases d with d|d<;>exact(c d<|by simp[WS.cnt]).elim
  .exact(c (b i hi e)<|by simp[WS.cnt]).elim
 |vw j n d b=>
  by_cases e:i=j
  .subst e;exact(c d<|by simp[WS.cnt]).elim
  .exact(c (b i hi e)<|by simp[WS.cnt]).elim
 |sema b=>exact(c (b i hi)<|by simp[WS.cnt]).elim
 |fin _ b=>exact(c (b i hi)<|by simp[WS.cnt]).elim
theorem Md.Ml(M:Md L D tag x y pk)(hi:i∈L)(h1:D i=.cl .ld\/D i=.cl .Qv):tag=.reg/\x=nB 0 1/\y=uY 0/\∀ j∈L,j≠i->D j=.qt:=by
 have b:D i≠ .qt:=λe=>by rcases h1 with h|h<;>rw[e]at h<;>cases h
 have f:¬ (D i).opn:=by rcases h1 with h|h<;>rw[h]<;>exact λz=>z
 cases M with
 |opn k c=>exact absurd (c i hi) f
 |reg c h=>exact absurd (c i hi) f
 |uM j g d a=>
  by_cases e:i=j
  .subst e;exact⟨rfl,rfl,rfl,a⟩
  .exact absurd (a i hi e) b
 |vw j g d a=>
  by_cases e:i=j
  .subst e;rcases h1 with h|h<;>rw[h]at d<;>cases d
  .exact absurd (a i hi e) b
 |sema a=>exact absurd (a i hi) b
 |fin _ a=>exact absurd (a i hi) b
theorem Md.VZ(M:Md L D tag x y pk)(hi:i∈L)(h1:D i=.cl .JS):tag=.reg/\x=nB 0 0/\y=uY 0/\∀ j∈L,j≠i->D j=.qt:=by
 have b:D i≠ .qt:=λe=>by rw[e]at h1;cases h1
 have d:¬ (D i).opn:=by rw[h1];exact λz=>z
 cases M with
 |opn k c=>exact absurd (c i hi) d
 |reg c h=>exact absurd (c i hi) d
 |uM j g f a=>
  by_cases e:i=j
  .subst e;rcases f with h|h<;>rw[h]at h1<;>cases h1
  .exact absurd (a i hi e) b
 |vw j g f a=>
  by_cases e:i=j
  .subst e;exact⟨rfl,rfl,rfl,a⟩
  .exact absurd (a i hi e) b
 |sema a=>exact absurd (a i hi) b
 |fin _ a=>exact absurd (a i hi) b
def Yy(P:bT)(σ:Gh)(L:List Nat)(G:sg)(c N0:Nat)(w₀:World)(δ:Nat)(T:Trace)(gs:Array aO)(w:World)(q:Nat->Nat)(f:Nat->Nat)(tag:MS)(pk:Bool)(a:aO)(sl:Option (Nat×Nat))(i:Nat):Prop:=
 ∃ (gD:Array aO) (O:Array MemOp) (w':World) (D':Nat->WS) (f':Nat->Nat) (x' y':Value) (mC:Bool),runT P (crowd gs w sl) i=(.next<|crowd gD w' sl,O)/\gD.size=gs.size/\gD[0]? =some (vu mC a)/\(mC=true->pk=true)/\
  CI P σ L G c N0 w₀ δ (T++O) gD w' q D' f' x' y'/\Md L D' tag x' y' mC/\jz f' L<jz f L
theorem yG{a:aO}(c:a.status=.running)(d:pk=true->a.offers=none)(r:Nat)(b:Bool):offersAt (vu pk a) r b=[]:=by
 cases pk with
 |false=>exact offersAt_of_not_blocked (by unfold vu;simp[c]) _ _
 |true=>unfold vu offersAt;simp[d rfl]
theorem CI.ad1(C:CI P σ L G c N0 w₀ δ T gs w q D f x y)(M:Md L D tag x y pk){g a:aO}(hi:i∈L)(hg:gs[i]? =some g)(nP:g.status=.running)(ha:gs[0]? =some (vu pk a))(DD:a.status=.running)(G2:pk=true->a.offers=none):
  Yy P σ L G c N0 w₀ δ T gs w q f tag pk a sl i:=by
 have GZ:i≠0:=λe=>C.fr.jh<|e▸hi;have RG:(i==0)=false:=by rw[VK];exact GZ
 have dH:i<gs.size:=(iF.1 hg).1;have RN:=C.RJ;obtain⟨l,ad2,hW⟩:=C.wk i hi;obtain rfl:l=g:=cA<|ad2.symm.trans hg;have R:∀ {g':aO} {w':World} {es:Array Event} {n':Nat} {ws:WS} {x' y':Value},stepG P false l w=.go g' w' es->WG G w₀ x' y' w'->(g'.status=.running\/g'.status=.finished)->
   Px σ.rd σ.lo σ.sh w.heap.size (Knows (T++MemOp.ofEvents i l.frame.fn l.frame.place es) 0) (T++MemOp.ofEvents i l.frame.fn l.frame.place es)->VY P σ G c N0 (T++MemOp.ofEvents i l.frame.fn l.frame.place es) i n' g' ws->n'<f i->
   (∀ t:Bool,(t=true->pk=true)->(mayWake P l=true->t=false)->Md L (upd D i ws) tag x' y' t)->Yy P σ L G c N0 w₀ δ T gs w q f tag pk a sl i:=by
  intro g' w' es n' ws x' y' h1 Z h3 h4 h5 h6 h7;obtain⟨gD,t,r1,r2,r3,r4,r5,r6,r7⟩:=C.put (sl:=sl) hi hg h1 Z h3 h4 h5 h6 ha DD G2;exact⟨gD,_,w',_,_,_,_,t,r1,r2,r3,r4,r6,h7 t r4 r5,r7⟩
 have RO:∀ {es:Array Event},(∀ e∈es,e.mute=true)->Px σ.rd σ.lo σ.sh w.heap.size (Knows (T++MemOp.ofEvents i l.frame.fn l.frame.place es) 0) (T++MemOp.ofEvents i l.frame.fn l.frame.place es):=λW=>
  C.fr.px.mute (λi=>Knows.app _) (λop p=>by obtain⟨e,o,rfl⟩:=Conc.mem_ofEvents p;exact touch_mute<|W e o) (λop p ad ea=>by obtain⟨e,o,rfl⟩:=Conc.mem_ofEvents p;exact absurd ea<|Az (W e o) ad) (fC _) (λop p=>by obtain⟨e,o,rfl⟩:=Conc.mem_ofEvents p;exact low_mute (W e o) _)
 have px0:Px σ.rd σ.lo σ.sh w.heap.size (Knows (T++MemOp.ofEvents i l.frame.fn l.frame.place #[]) 0) (T++MemOp.ofEvents i l.frame.fn l.frame.place #[]):=RO (λe o=>by simp at o);cases A:D i with
 |qt=>
  rw[A]at hW;obtain⟨N,r,J⟩:=hW;cases O:f i with
  |zero=>rw[O]at N;rw[N.1]at nP;cases nP
  |succ k=>
   rw[O]at N;rcases N with⟨hf,_⟩|⟨_,g',es,W,B,CP⟩
   .rw[hf]at nP;cases nP
   refine R (ws:=.qt) (B w) C.wg CP.status (RO W) ⟨by rw[Deaf_own];exact CP,r,J.still λop p=>by obtain⟨e,o,rfl⟩:=Conc.mem_ofEvents p;exact touch_mute<|W e o⟩ ai λt hp _=>?_;exact M.same C.nd hi (by rw[A];exact trivial) trivial (by rw[A]) (λ_=>rfl) hp
 |app=>
  rw[A]at hW;obtain⟨s,cw,z0,z1,k,hs,uN,O,od,S,I⟩:=hW;have uL:=C.loose i hi;have Vu:=C.fr.mem i s hs;have sJ:Rr P false s l\/∃ k' g' es d,k=k'+1/\stepG P false l w=.go g' (w.at d) es/\(∀ e∈es,EvX s e)/\Way P false s k' g':=by
   cases k with
   |zero=>exact .inl od
   |succ k'=>
    rcases od with Rs|⟨_,rE⟩
    .exact .inl Rs
    .obtain⟨g',es,d,h1,Z,h3⟩:=rE w Vu;exact .inr ⟨k',g',es,d,rfl,h1,Z,h3⟩
  have RP:∀ t:Bool,(t=true->pk=true)->∀ ws:WS,ws.opn->ws.cnt=1->Md L (upd D i ws) tag x y t:=λt hp ws h1 Z=>
   M.same C.nd hi (by rw[A];exact trivial) h1 (by rw[A,Z];rfl) (λe=>by rw[A]at e;cases e) hp
  rcases sJ with vp|⟨k',g',es,d,rfl,hgo,zM,hG'⟩
  ·
   obtain⟨Q,hrr,_,_,_,_,es,zM,B⟩:=id vp;obtain⟨cY,hr,hl,vq,hd⟩:=wF (i:=i) (fn:=l.frame.fn) (pos:=l.frame.place) Vu zM;have Mm:∀ r,partners (gs.setIfInBounds i ph) r true=[]:=λr=>partners_nil λj v X=>by
    rcases getElem?_stand gs i j v X with⟨_,rfl⟩|⟨_,uO⟩
    .exact offersAt_ph _ _
    .by_cases E:j=0
     .subst E;rw[ha]at uO;obtain rfl:=cA uO;exact yG DD G2 r true
     .exact C.fr.noSend E uO r
   obtain⟨kc,hkc⟩:=C.shut;obtain⟨cw',z0',z1',kw,ad3,hkw⟩:=C.cw i s hi hs;obtain⟨rfl,rfl⟩:cw=cw'/\z0=z0':=by rw[uN]at ad3;have:=congrArg (·[0]?) ad3;simp[rcase]at this;exact this
   have K:∀ (m:Nat) (c':CommCase),m≠1->s.cases[m]? =some c'->NoWays w (gs.setIfInBounds i ph) c':=by
    intro m c' W lL;rw[uN]at lL;rcases m with _|_|m
    .simp at lL;subst lL;exact ways_recv_none hkw<|Mm _
    .exact absurd rfl W
    .simp at lL
   have yH:s.cases[1]? =some (rcase c z1):=by rw[uN];rfl
   have JA:=crowd_sel_recv_closed (P:=P) (sl:=sl) hg (by rw[RG];exact B w Vu) yH K hkc<|Mm _;rw[finishComm_served,show((1:Nat):Int)=(1:Int)from rfl]at JA;have YA:∀ op∈MemOp.ofEvents i l.frame.fn l.frame.place es++#[{g:=i,fn:=Q.frame.fn,pos:=Q.frame.place,act:=.recvClosed c}],op.g=i:=λop p=>by
    rcases ZH.1 p with h|h
    .exact cY op h
    .simp only[qO,gU,nY,gR]at h;subst h;rfl
   have hDf:Deaf (T++(MemOp.ofEvents i l.frame.fn l.frame.place es++#[{g:=i,fn:=Q.frame.fn,pos:=Q.frame.place,act:=.recvClosed c}])) i=0:=by
    rw[<- JM,Deaf_quiet (λop p d=>by simp only[qO,gU,nY,gR]at p;subst p;rfl),hd T,S]
   have Z1:c<w.heap.size:=(iF.1 hkc).1;have p1:=C.fr.px.reads (K':=Knows (T++MemOp.ofEvents i l.frame.fn l.frame.place es) 0) (λi=>Knows.app _) uL cY (λop p b hb=>⟨(hr op p b hb).1,⟨s,hs,(hr op p b hb).2⟩,C.fr.wy i s _ hs (hr op p b hb).2⟩) (λop p ad ea=>absurd ea<|vq op p ad) (fC _) hl;have p2:=p1.mute (u:=#[{g:=i,fn:=Q.frame.fn,pos:=Q.frame.place,act:=.recvClosed c}]) (K':=Knows (T++MemOp.ofEvents i l.frame.fn l.frame.place es++#[{g:=i,fn:=Q.frame.fn,pos:=Q.frame.place,act:=.recvClosed c}]) 0) (λi=>Knows.app _) (λop p=>by
     simp only[qO,gU,nY,gR]at p;subst p;rfl) (λop p ad ea=>by
     simp only[qO,gU,nY,gR]at p;subst p;cases ea) (fC _) (λop p=>by
     simp only[qO,gU,nY,gR]at p;subst p;exact Z1)
   rw[JM]at p2;have nK:(gs.setIfInBounds i<|Conc.served Q<|commResult s.cases s.shape 1 z1 false)[i]? =some (Conc.served Q<|commResult s.cases s.shape 1 z1 false):=lh dH;have Rw:∀ v,v≠i->(gs.setIfInBounds i<|Conc.served Q<|commResult s.cases s.shape 1 z1 false)[v]? =gs[v]? :=λv X=>ir λe=>X e.symm;have JU:jz (upd f i N0) L+f i=jz f L+N0:=wH f N0 id C.nd hi;refine⟨_,_,w,upd D i<|.cl .rel,upd f i N0,x,y,pk,JA,by simp,by rw[Rw 0 (j6 GZ)];exact ha,id,?_,RP pk id _ trivial rfl,ai⟩;refine⟨C.fr.adX hi dH rfl (λ_ _ h _=>h) (λ_ _ _ _ _ h=>h) (by simp) (λv X _=>Rw v X) nK (.inl rfl) YA p2,C.ok,C.nd,C.len,λj E=>?_,C.shut,C.cw,C.loose,C.wg,C.AF,C.JC⟩;by_cases e:j=i
   .subst e;exact⟨_,nK,by rw[upd_same,upd_same];exact⟨I Q hrr,hDf,λh=>absurd rfl h⟩⟩
   .obtain⟨gj,h1,Z⟩:=C.wk j E;refine⟨gj,by rw[Rw j e];exact h1,?_⟩;rw[upd_ne f N0 e,upd_ne D (.cl .rel) e];exact Z.other YA λz=>e z.symm
  .obtain⟨cY,hr,hl,vq,hd⟩:=wF (i:=i) (fn:=l.frame.fn) (pos:=l.frame.place) Vu zM;refine R (ws:=.app) hgo (C.wg.at d) (.inl<|Way.running ⟨w,Vu⟩ hG') ?_ ⟨s,cw,z0,z1,k',hs,uN,rfl,hG',(hd T).trans S,I⟩ ai λt hp _=>RP t hp _ trivial rfl;exact C.fr.px.reads (λi=>Knows.app _) uL cY (λop p b hb=>⟨(hr op p b hb).1,⟨s,hs,(hr op p b hb).2⟩,C.fr.wy i s _ hs (hr op p b hb).2⟩) (λop p ad ea=>absurd ea<|vq op p ad) (fC _) hl
 |cl st=>
  rw[A]at hW;obtain⟨I,S,sE⟩:=hW;cases O:f i with
  |zero=>rw[O]at I;exact I.elim
  |succ n=>
   rw[O]at I;obtain⟨_,I⟩:=I;rcases I with⟨g',B,F⟩|I
   ·
    refine R (ws:=.cl st) (B w C.wg.gs) C.wg (.inl F.running) px0 ⟨F,by rw[Deaf_own];exact S,λh=>let⟨r,J⟩:=sE h;⟨r,J.still λop p=>by obtain⟨e,o,_⟩:=Conc.mem_ofEvents p;simp at o⟩⟩ ai λt hp _=>?_;have eu:upd D i (.cl st)=D:=by
     funext j
     by_cases e:j=i
     .subst e;rw[upd_same,A]
     .rw[upd_ne D _ e]
    rw[eu];cases M with
    |opn ht hD=>
     have:t=false:=by cases t with
      |false=>rfl
      |true=>exact absurd (hp rfl)<|by simp
     subst this;exact .opn ht hD
    |reg hD h=>exact .reg hD h
    |uM j E hx K=>exact .uM j E hx K
    |vw j E hx K=>exact .vw j E hx K
    |sema K=>
     have:t=false:=by cases t with
      |false=>rfl
      |true=>exact absurd (hp rfl)<|by simp
     subst this;exact .sema K
    |fin ht K=>
     have:t=false:=by cases t with
      |false=>rfl
      |true=>exact absurd (hp rfl)<|by simp
     subst this;exact .fin ht K
   .have AG:st≠ .rel->∃ r,pZ σ.sh G.st T i r:=sE;cases st with
    |rel=>
     obtain⟨g',B,F⟩:=I;have Gx:Deaf T i=0:=S;refine R (ws:=.cl .zN) (B w) C.wg (.inl F.running) (C.Mi rfl (λad=>by simp) RN) ⟨F,by rw[Deaf_own,Gx];rfl,λ_=>⟨T.size,?_⟩⟩ ai λt hp _=>M.same C.nd hi (by rw[A];exact trivial) trivial (by rw[A];rfl) (λe=>by rw[A]at e;cases e) hp;have e1:MemOp.ofEvents i l.frame.fn l.frame.place #[CD (.releaseMerge G.st)]=#[{g:=i,fn:=l.frame.fn,pos:=l.frame.place,act:=.mark<|.releaseMerge G.st}]:=by rw[ofEvents_eq];simp[MemAct.ofEvent]
     rw[e1];exact pZ.new rfl rfl Gx
    |zN=>
     obtain⟨g',B,F⟩:=I;have Gx:Deaf T i=0:=S;obtain⟨r,J⟩:=AG (by simp);exact R (ws:=.cl .add) (B w) C.wg (.inl F.running) (C.Mi rfl (λad=>by simp) trivial) ⟨F,by rw[Deaf_own,Gx];rfl,λ_=>⟨r,J.still λop p=>by obtain⟨e,o,rfl⟩:=Conc.mem_ofEvents p;simp only[qO,gU,nY,gR]at o;subst o;rfl⟩⟩ ai
      λt hp _=>M.same C.nd hi (by rw[A];exact trivial) trivial (by rw[A];rfl) (λe=>by rw[A]at e;cases e) hp
    |add=>
     obtain⟨g',B,F,YB⟩:=I;have H:Deaf T i=1:=S;obtain⟨r,J⟩:=AG (by simp);obtain⟨ad4,hV1,ad5⟩:=M.Z0 hi (by rw[A];rfl);have hV4:V L D<=4:=GJ (Mh (λi=>ZZ _) L) C.len;obtain⟨v,X⟩:∃ v,V L D=v+1:=⟨V L D-1,ai⟩;have px:=C.zO (i:=i) (fn:=l.frame.fn) (pos:=l.frame.place) H (Mj C.AF) (λe o ad=>by
      simp only[qO,gU,nY,gR]at o;rcases o with rfl|rfl<;>simp[MemAct.ofEvent]) (λe o=>by
      simp only[qO,gU,nY,gR]at o;rcases o with rfl|rfl<;>exact RN)
     have hD1:Deaf (T++MemOp.ofEvents i l.frame.fn l.frame.place #[ar G.st,aw G.st]) i=1:=by rw[Deaf_own,H];rfl
     have U:V L (upd D i .qt)=v:=by have:=RH (D:=D) C.nd hi .qt;rw[A]at this;simp only[WS.cnt]at this;omega
     have hVl:V L (upd D i<|.cl .ld)=v:=by have:=RH (D:=D) C.nd hi<|.cl .ld;rw[A]at this;simp only[WS.cnt]at this;omega
     have ad6:∀ j∈L,(upd D i .qt j).opn:=λj E=>by
      by_cases e:j=i
      .subst e;rw[upd_same];exact trivial
      .rw[upd_ne D _ e];exact ad4 j E
     rcases ad5 with⟨ht,rfl,rfl,rfl⟩|⟨rfl,rfl,rfl⟩
     .have dI:w.cell? G.st=some (nB (v+1) 0):=by rw[C.wg.Yu C.ok,X]
      have N:=YB v 0 ai ai ai;refine R (ws:=.qt) (B w v 0 ai ai dI C.wg.fst) (C.wg.setSt C.ok _) N.status px ⟨by rw[hD1];exact N,r,J.atom H<|Mj C.AF⟩ ai λt hp _=>?_;have:t=false:=by cases t with
       |false=>rfl
       |true=>exact absurd (hp rfl)<|by simp
      subst this;have hx:=Md.opn (L:=L) (D:=upd D i .qt) (tag:=tag) (by rw[U];exact E9 ai ht) ad6
      rwa[U]at hx
     .have dI:w.cell? G.st=some (nB (v+1) 1):=by rw[C.wg.Yu C.ok,X]
      by_cases h0:v=0
      .subst h0;refine R (ws:=.cl .ld) (B w 0 1 ai ai dI C.wg.fst) (C.wg.setSt C.ok _) (.inl F.running) px ⟨F,hD1,λ_=>⟨r,J.atom H<|Mj C.AF⟩⟩ ai λt hp _=>?_;refine .uM i hi (.inl<|by rw[upd_same]) λj E Y=>?_;rw[upd_ne D _ Y];have:=xM hVl j E;simp only[upd_ne D (.cl .ld) Y]at this;exact Mk (ad4 j E) this
      .have N:=YB v 1 ai ai ai;refine R (ws:=.qt) (B w v 1 ai ai dI C.wg.fst) (C.wg.setSt C.ok _) N.status px ⟨by rw[hD1];exact N,r,J.atom H<|Mj C.AF⟩ ai λt hp _=>?_;have hx:=Md.reg (L:=L) (D:=upd D i .qt) (pk:=t) ad6 (by rw[U];omega)
       rwa[U]at hx
    |ld=>
     obtain⟨g',B,F⟩:=I;have H:Deaf T i=1:=S;obtain⟨r,J⟩:=AG (by simp);obtain⟨rfl,rfl,rfl,K⟩:=M.Ml hi<|.inl A;refine R (ws:=.cl .Qv) (B w<|C.wg.Yu C.ok) C.wg (.inl F.running) (C.zO H (adZ C.AF) (λe o ad=>?_) λe o=>?_) ⟨F,by rw[Deaf_own,H];rfl,λ_=>⟨r,J.atom H<|adZ C.AF⟩⟩ ai λt hp _=>?_
     .simp only[qO,gU,nY,gR]at o;subst o;simp[MemAct.ofEvent]
     .simp only[qO,gU,nY,gR]at o;subst o;exact RN
     .exact .uM i hi (.inr<|by rw[upd_same]) λj E Y=>by rw[upd_ne D _ Y];exact K j E Y
    |Qv=>
     obtain⟨g',B,F⟩:=I;have H:Deaf T i=1:=S;obtain⟨r,J⟩:=AG (by simp);obtain⟨rfl,rfl,rfl,K⟩:=M.Ml hi<|.inr A;refine R (ws:=.cl .JS) (B w (C.wg.Yu C.ok) C.wg.fst) (C.wg.setSt C.ok _) (.inl F.running) (C.zO H (ad0 C.AF) (λe o ad=>?_) λe o=>?_) ⟨F,by rw[Deaf_own,H];rfl,λ_=>⟨r,J.atom H<|ad0 C.AF⟩⟩ ai λt hp _=>?_
     .simp only[qO,gU,nY,gR]at o;subst o;simp[MemAct.ofEvent]
     .simp only[qO,gU,nY,gR]at o;subst o;exact RN
     .exact .vw i hi (by rw[upd_same]) λj E Y=>by rw[upd_ne D _ Y];exact K j E Y
    |JS=>
     obtain⟨Vv,g',B,N⟩:=I;have H:Deaf T i=1:=S;obtain⟨r,J⟩:=AG (by simp);obtain⟨rfl,rfl,rfl,K⟩:=M.VZ hi A;refine R (ws:=.qt) (B w (C.wg.csm C.ok) C.wg.fsm) (C.wg.setSm C.ok _) N.status (C.zO H (RI C.JC) (λe o ad=>?_) λe o=>?_) ⟨by rw[Deaf_own,H];exact N,r,J.atom H<|RI C.JC⟩ ai λt hp JD=>?_
     .simp only[semEvents,qO,gU,nY,gR]at o;rcases o with rfl|rfl|rfl|rfl<;>simp[MemAct.ofEvent]
     .simp only[semEvents,qO,gU,nY,gR]at o;rcases o with rfl|rfl|rfl|rfl<;>first|exact RN|trivial
     .have:t=false:=JD Vv;subst this;refine .sema λj E=>?_;by_cases e:j=i
      .subst e;rw[upd_same]
      .rw[upd_ne D _ e];exact K j E e
end
end
section
open Go.Conc
open Go.ConcN (sumTo upd sumTo_upd upd_ne upd_same)
section
variable{P:bT}{σ:Gh}{L:List Nat}{G:sg}{c N0:Nat}{w₀:World}{δ:Nat}{T:Trace}{gs:Array aO}{w w':World}{q:Nat->Nat}{D:Nat->WS}{f:Nat->Nat}{x y x' y':Value}{tag:MS}{pk:Bool}
theorem Md.ah5(M:Md L D tag x y pk):Md L D tag x y false:=by
 cases M with
 |opn b c=>exact .opn b c
 |reg c h=>exact .reg c h
 |uM j d e a=>exact .uM j d e a
 |vw j d e a=>exact .vw j d e a
 |sema a=>exact .sema a
 |fin b a=>exact .fin b a
theorem VY.runs(C:CI P σ L G c N0 w₀ δ T gs w q D f x y){n:Nat}{g:aO}{ws:WS}(H:VY P σ G c N0 T i n g ws)(h:ws≠ .qt):g.status=.running:=by
 cases ws with
 |app=>obtain⟨s,b,d,z1,k,hs,_,_,a,_⟩:=H;exact Way.running ⟨w,C.fr.mem i s hs⟩ a
 |cl st=>exact H.1.running
 |qt=>exact absurd rfl h
theorem CI.turn{a:aO}(E:a.status=.running):∀ (F:Nat) (T:Trace) (gs:Array aO) (w:World) (q:Nat->Nat) (D:Nat->WS) (f:Nat->Nat) (x y:Value) (pk:Bool) (sl:Option (Nat×Nat)),
  CI P σ L G c N0 w₀ δ T gs w q D f x y->Md L D tag x y pk->gs[0]? =some (vu pk a)->(pk=true->a.offers=none)->sumTo gs.size q+jz f L=F->
  ∃ (N:Nat) (b:Array aO) (w':World) (k Rt:Option (Nat×Nat)) (d:Nat) (T':Trace) (n:Nat->Nat) (K:Nat->WS) (f':Nat->Nat) (x' y':Value),runNT P N (crowd gs w sl) T=(.next<|crowd b w' k,T')/\
   stepT P (crowd b w' k)=runT P (crowd b (w'.at d) Rt) 0/\b[0]? =some a/\CI P σ L G c N0 w₀ δ T' b (w'.at d) n K f' x' y'/\Md L K tag x' y' false/\sumTo b.size n+jz f' L<=F/\(pk=true->sumTo b.size n+jz f' L<F):=by
 intro F
 induction F using Nat.strongRecOn with
 |_ F ih=>
  intro T gs w q D f x y pk sl C M o H hF;have AB:∃ (i:Nat) (g:aO),gs[i]? =some g/\g.status=.running:=by
   cases pk with
   |false=>exact⟨0,a,o,E⟩
   |true=>
    have:∃ i∈L,D i≠ .qt:=by
     cases M with
     |reg hD h=>
      obtain⟨i,hi,h1⟩:=G1 h;exact⟨i,hi,λe=>by rw[e]at h1;simp[WS.cnt]at h1⟩
     |uM j p Q ho=>exact⟨j,p,λe=>by rcases Q with h|h<;>rw[e]at h<;>cases h⟩
     |vw j p Q ho=>exact⟨j,p,λe=>by rw[e]at Q;cases Q⟩
    obtain⟨i,hi,fA⟩:=this;obtain⟨g,I,hW⟩:=C.wk i hi;exact⟨i,g,I,hW.runs C fA⟩
  have Z2:∀ g∈gs,awake g:=C.fr.awake o (by cases pk<;>simp[vu,E]);obtain⟨i,g,R,k,hi,I,S⟩:=crowd_pick (P:=P) (w:=w) (sl:=sl) Z2 AB;have U:=C.at R;by_cases e:i=0
  .subst e;have:pk=false:=by
    cases pk with
    |false=>rfl
    |true=>rw[o]at hi;obtain rfl:=cA hi;simp[vu]at I
   subst this;exact⟨0,gs,w,sl,k,R,T,q,D,f,x,y,rfl,S,o,U,M,ai,λh=>by cases h⟩
  .by_cases W:i∈L
   .obtain⟨b,O,w',K,f',x',y',l,r1,X,r3,r4,r5,r6,r7⟩:=U.ad1 (sl:=k) M W hi I o E H;obtain⟨N,Y,Z,s1,s2,d2,r,t,u,v,A,B,t1,t2,t3,t4,t5,J,t7⟩:=ih (sumTo b.size q+jz f' L) (by rw[X];omega) _ b w' q K f' x' y' l k r5 r6 r3 (λh=>H<|r4 h) rfl;refine⟨1+N,Y,Z,s1,s2,d2,r,t,u,v,A,B,runNT_then (runNT_succ_of (N:=0) rfl<|S.trans r1) t1,t2,t3,t4,t5,?_,λ_=>?_⟩
    .rw[X]at J;omega
    .rw[X]at J;omega
   .obtain⟨b,O,n,m,JA,vr,ad8,sO,cY,_,_,C',dH⟩:=U.fr.GY (sl:=k) hi e W I (λs _ _ gx c zm _=>by rw[o]at zm;obtain rfl:=cA zm;exact yG E H c true);obtain⟨l,Gy,Fa⟩:∃ l:Bool,b[0]? =some (vu l a)/\(l=true->pk=true):=by
     rcases ad8 _ o with h|⟨w',_,h⟩
     .exact⟨pk,h,id⟩
     .exact⟨false,by rw[h,DC E H];rfl,λz=>by cases z⟩
    have M':Md L D tag x y l:=by
     cases l with
     |false=>exact M.ah5
     |true=>have:=Fa rfl;subst this;exact M
    have C2:CI P σ L G c N0 w₀ δ (T++O) b ((w.at R).at m) n D f x y:=
     ⟨C',C.ok,C.nd,C.len,λj p=>by obtain⟨gj,h1,h2⟩:=C.wk j p;exact⟨gj,by rw[sO j p];exact h1,h2.other cY λz=>W<|z▸p⟩,C.shut,C.cw,C.loose,C.wg.at m,C.AF,C.JC⟩
    obtain⟨N,Y,Z,s1,s2,d2,r,t,u,v,A,B,t1,t2,t3,t4,t5,J,t7⟩:=ih (sumTo b.size n+jz f L) (by rw[vr];omega) _ b _ n D f x y l k C2 M' Gy (λh=>H<|Fa h) rfl;refine⟨1+N,Y,Z,s1,s2,d2,r,t,u,v,A,B,runNT_then (runNT_succ_of (N:=0) rfl<|S.trans JA) t1,t2,t3,t4,t5,?_,λ_=>?_⟩
    .rw[vr]at J;omega
    .rw[vr]at J;omega
def EvM(G:sg)(e:Event):Prop:=(∃ m,e=CD m/\(MemAct.ofEvent e).touch?=none/\(∀ ad,m≠ .release ad)/\∀ B,G.blk<B->(MemAct.ofEvent e).low B)\/e=CD (.write G.sm)\/e=ar G.st\/e=aw G.st\/e=ar G.sm\/e=aw G.sm
theorem CI.ad9(C:CI P σ L G c N0 w₀ δ T gs w q D f x y){es:Array Event}(k:WG G w₀ x' y' w')(u:∀ e∈es,EvM G e):rG σ w w' es:=by
 have l:w'.heap.size=w.heap.size:=by rw[k.size,C.wg.size]
 refine⟨ai,λr o h1 n=>C.wg.Yw k h1 n,λi s p e hp h1=>by rw[C.wg.Yv k (C.E8 e hp).1 (C.E8 e hp).2];exact h1,λe v=>?_⟩;have j:G.blk<w'.heap.size:=by rw[l];exact C.RJ
 have t:∀ i,¬ σ.rd i (.cell G.st):=λi ⟨s,e,h⟩=>C.fr.wy i s _ e h C.AF;have g:∀ i,¬ σ.rd i (.cell G.sm):=λi ⟨s,e,h⟩=>C.fr.wy i s _ e h C.JC;rcases u e v with⟨m,rfl,h1,n,z⟩|rfl|rfl|rfl|rfl|rfl
 .exact⟨λb a=>(by rw[h1]at a;cases a),λad d=>absurd (MemAct.mark.inj d)<|n ad,z _ j⟩
 .refine⟨λb a=>?_,(λad d=>by cases d),j⟩;simp only[MemAct.ofEvent,MemAct.touch?,zJ]at a;subst a;exact⟨λ_=>g,λ_=>by simp⟩
 .refine⟨λb a=>?_,(λad d=>by cases d),j⟩;simp only[MemAct.ofEvent,MemAct.touch?,zJ]at a;subst a;exact⟨λ_=>t,λ_=>by simp⟩
 .refine⟨λb a=>?_,(λad d=>by cases d),j⟩;simp only[MemAct.ofEvent,MemAct.touch?,zJ]at a;subst a;exact⟨λ_=>t,λ_=>by simp⟩
 .refine⟨λb a=>?_,(λad d=>by cases d),j⟩;simp only[MemAct.ofEvent,MemAct.touch?,zJ]at a;subst a;exact⟨λ_=>g,λ_=>by simp⟩
 .refine⟨λb a=>?_,(λad d=>by cases d),j⟩;simp only[MemAct.ofEvent,MemAct.touch?,zJ]at a;subst a;exact⟨λ_=>g,λ_=>by simp⟩
theorem CI.ao(C:CI P σ L G c N0 w₀ δ T gs w q D f x y){a a':aO}{es:Array Event}(ha:gs[0]? =some a)(g:stepG P true a w=.go a' w' es)(l:WG G w₀ x' y' w')(o:∀ e∈es,EvM G e):
  ∃ (d:Array aO) (O:Array MemOp),runT P (crowd gs w sl) 0=(.next<|crowd d w' sl,O)/\d.size=gs.size/\d[0]? =some a'/\CI P σ L G c N0 w₀ (deafBehind δ es) (T++O) d w' q D f x' y':=by
 have p:0<gs.size:=(iF.1 ha).1;have h:=C.ad9 l o;obtain⟨r,t⟩:=C.fr.own (a:=a) (a':=a') (fn:=a.frame.fn) (pos:=a.frame.place) p h;have u:∀ op∈MemOp.ofEvents 0 a.frame.fn a.frame.place es,op.g=0:=λop v=>by obtain⟨e,_,rfl⟩:=Conc.mem_ofEvents v;rfl
 refine⟨_,_,runT_crowd_go (P:=P) (sl:=sl) ha (by simpa using g),by simp,t,r,C.ok,C.nd,C.len,λj b=>?_,?_,λj s b e=>?_,C.loose,l,C.AF,C.JC⟩
 .obtain⟨m,h1,i⟩:=C.wk j b;have n:j≠0:=λe=>C.fr.jh<|e▸b;refine⟨m,?_,i.other u λz=>n z.symm⟩;rw[ir (λz=>n z.symm),GH,h1];simp[woken_of_again (again_running w'<|C.fr.zl j m b h1)]
 .obtain⟨k,A⟩:=C.shut;exact⟨k,h.chans _ _ A rfl⟩
 .obtain⟨cw,B,z1,k,h1,i⟩:=C.cw j s b e;exact⟨cw,B,z1,k,h1,h.chans _ _ i rfl⟩
def Gh.iH(σ:Gh)(L:List Nat):Gh:={n:=σ.n,aU:=λi=>if i∈L then none else σ.aU i,sh:=σ.sh,bot:=σ.bot}
def aea:MS->Nat
 |.zN _|.acq=>0
 |_=>1
def jd(P:bT)(σ:Gh)(L:List Nat)(G:sg)(w₀:World)(Fin:aO->Prop)(m:Machine)(T:Trace):Prop:=
 ∃ (N:Nat) (gD:Array aO) (w':World) (rF:Option (Nat×Nat)) (T':Trace) (q':Nat->Nat) (a':aO),runNT P N m T=(.next<|crowd gD w' rF,T')/\gD[0]? =some a'/\Fin a'/\Fr P (σ.iH L) (λ_=>False) 0 0 T' gD w' q'/\WG G w₀ (nB 0 0) (uY 0) w'
theorem jd.of{Fin:aO->Prop}{N:Nat}{m b:Machine}{T T':Trace}(h:runNT P N m T=(.next b,T'))(k:jd P σ L G w₀ Fin b T'):jd P σ L G w₀ Fin m T:=by obtain⟨c,d,w',e,a,f,g,h1,i⟩:=k;exact⟨N+c,d,w',e,a,f,g,runNT_then h h1,i⟩
theorem Z4(a:V L D=0)(b:∀ i∈L,(D i).opn):∀ i∈L,D i=.qt:=λi hi=>Mk (b i hi)<|xM a i hi
def early:MS->Bool
 |.zN _|.head _|.VX _=>true
 |_=>false
theorem Md.Fb{tag:MS}(M:Md L D tag x y pk)(ht:early tag=true):uh (V L D) tag/\(∀ i∈L,(D i).opn)/\x=nB (V L D) 0/\y=uY 0:=by
 cases M with
 |opn ht a=>exact⟨ht,a,rfl,rfl⟩
 |reg=>cases ht
 |uM=>cases ht
 |vw=>cases ht
 |sema=>cases ht
 |fin h=>rcases h with rfl|rfl|rfl<;>cases ht
theorem Md.fin_inv{tag:MS}(M:Md L D tag x y pk)(ht:tag=.last\/tag=.RF\/tag=.acq):(∀ i∈L,D i=.qt)/\x=nB 0 0/\y=uY 0:=by
 cases M with
 |opn h b=>rcases ht with rfl|rfl|rfl<;>exact h.elim
 |reg=>rcases ht with h|h|h<;>cases h
 |uM=>rcases ht with h|h|h<;>cases h
 |vw=>rcases ht with h|h|h<;>cases h
 |sema=>rcases ht with h|h|h<;>cases h
 |fin _ a=>exact⟨a,rfl,rfl⟩
theorem Z5{e:Event}(h:EvM G e):∀ z∈#[e],EvM G z:=λz a=>by simp only[qO,gU,nY,gR]at a;subst a;exact h
theorem RR:EvM G (CD .disable):=.inl ⟨_,rfl,rfl,λ_=>by simp,λ_ _=>trivial⟩
theorem RS:EvM G (CD .enable):=.inl ⟨_,rfl,rfl,λ_=>by simp,λ_ _=>trivial⟩
theorem Z6:EvM G (CD<|.acquire G.st):=.inl ⟨_,rfl,rfl,λ_=>by simp,λ_ h=>h⟩
theorem NU{Fin:aO->Prop}{tag:MS}{a:aO}(hm:MW P G Fin tag a):∀ (T:Trace) (gs:Array aO) (w:World) (q:Nat->Nat) (D:Nat->WS) (f:Nat->Nat) (x y:Value) (sl:Option (Nat×Nat)),
  CI P σ L G c N0 w₀ (aea tag) T gs w q D f x y->Md L D tag x y false->gs[0]? =some a->jd P σ L G w₀ Fin (crowd gs w sl) T:=by
 induction hm with
 |@mute tag g g' hs h k E=>
  intro T gs w q D f x y sl C M A;obtain⟨N,R,K,S,m,d,U,u,n,f1,J,H,t1,t2,t3,b,B,_,_⟩:=CI.turn hs _ T gs w q D f x y false sl C M A (λz=>by cases z) rfl;obtain⟨p,O,r,_,t,o⟩:=b.ao (sl:=m) t3 (h _ b.wg.gs) b.wg (λe Q=>by simp at Q);exact jd.of (runNT_succ_of t1<|t2.trans r)<|E _ p _ u n f1 J H m o B t
 |@zN c' g g' hs h k E=>
  intro T gs w q D f x y sl C M A;obtain⟨N,R,K,S,m,d,U,u,n,f1,J,H,t1,t2,t3,b,B,_,_⟩:=CI.turn hs _ T gs w q D f x y false sl C M A (λz=>by cases z) rfl;obtain⟨p,O,r,_,t,o⟩:=b.ao (sl:=m) t3 (h _) b.wg<|Z5 RR;obtain⟨h1,Y,rfl,rfl⟩:=B.Fb rfl;exact jd.of (runNT_succ_of t1<|t2.trans r)<|E _ p _ u n f1 _ _ m o (.opn h1 Y) t
 |@load c' g fv hs h k0 k ih0 E=>
  intro T gs w q D f x y sl C M A;obtain⟨N,R,K,S,m,d,U,u,n,f1,J,H,t1,t2,t3,b,B,_,_⟩:=CI.turn hs _ T gs w q D f x y false sl C M A (λz=>by cases z) rfl;obtain⟨h1,Y,rfl,rfl⟩:=B.Fb rfl;obtain⟨p,O,r,_,t,o⟩:=b.ao (sl:=m) t3 (h _ (V L n) h1<|b.wg.Yu b.ok) b.wg<|Z5<|.inr<|.inr<|.inl rfl;by_cases h0:V L n=0
  .rw[h0]at t o;exact jd.of (runNT_succ_of t1<|t2.trans r)<|ih0 _ p _ u n f1 _ _ m o (.fin (.inr<|.inl rfl)<|Z4 h0 Y) t
  .exact jd.of (runNT_succ_of t1<|t2.trans r)<|E (V L n) ai h1 _ p _ u n f1 _ _ m o (.opn ⟨fC _,ai⟩ Y) t
 |@VX v g g1 g2 hs h1 Y k1 k2 NV zP=>
  intro T gs w q D f x y sl C M A;obtain⟨N,R,K,S,m,d,U,u,n,f1,J,H,t1,t2,t3,b,B,_,_⟩:=CI.turn hs _ T gs w q D f x y false sl C M A (λz=>by cases z) rfl;obtain⟨e1,e2,rfl,rfl⟩:=B.Fb rfl;obtain⟨hle,ui⟩:=e1;by_cases Z:V L n=v
  .have hc:(K.at d).cell? G.st=some (nB v 0):=by rw[<- Z];exact b.wg.Yu b.ok
   obtain⟨p,O,r,_,t,o⟩:=b.ao (sl:=m) t3 (h1 _ hc b.wg.fst) (b.wg.setSt b.ok<|nB v 1) (λe Q=>by
    simp only[qO,gU,nY,gR]at Q;rcases Q with rfl|rfl
    .exact .inr<|.inr<|.inl rfl
    .exact .inr<|.inr<|.inr<|.inl rfl)
   refine jd.of (runNT_succ_of t1<|t2.trans r)<|NV _ p _ u n f1 _ _ m o ?_ t;rw[<- Z];exact .reg e2 ai
  .obtain⟨p,O,r,_,t,o⟩:=b.ao (sl:=m) t3 (Y _ (V L n) ai (b.wg.Yu b.ok) b.wg.fst) b.wg<|Z5<|.inr<|.inr<|.inl rfl;exact jd.of (runNT_succ_of t1<|t2.trans r)<|zP _ p _ u n f1 _ _ m o (.opn (show _<=_ by omega) e2) t
 |@said g g' hs h k E=>
  intro T gs w q D f x y sl C M A;obtain⟨N,R,K,S,m,d,U,u,n,f1,J,H,t1,t2,t3,b,B,_,_⟩:=CI.turn hs _ T gs w q D f x y false sl C M A (λz=>by cases z) rfl;obtain⟨p,O,r,_,t,o⟩:=b.ao (sl:=m) t3 (h _) b.wg<|Z5<|.inr<|.inl rfl;exact jd.of (runNT_succ_of t1<|t2.trans r)<|E _ p _ u n f1 J H m o B t
 |@JS g g' hs ho h0 h1 k E=>
  have key:∀ (F:Nat) (T:Trace) (gs:Array aO) (w:World) (q:Nat->Nat) (D:Nat->WS) (f:Nat->Nat) (x y:Value) (pk:Bool) (sl:Option (Nat×Nat)),
    CI P σ L G c N0 w₀ 1 T gs w q D f x y->Md L D .reg x y pk->gs[0]? =some (vu pk g)->sumTo gs.size q+jz f L+(if pk then 0 else 1)=F->jd P σ L G w₀ Fin (crowd gs w sl) T:=by
   intro F
   induction F using Nat.strongRecOn with
   |_ F ihF=>
    intro T gs w q D f x y pk sl C M A hF;obtain⟨N,R,K,S,m,d,U,u,n,f1,J,H,t1,t2,t3,b,B,t6,t7⟩:=CI.turn hs _ T gs w q D f x y pk sl C M A (λ_=>ho) rfl;have block:H=uY 0->Md L n .reg J H true->jd P σ L G w₀ Fin (crowd gs w sl) T:=λhy hM=>by
     have NW:(K.at d).cell? G.sm=some (uY 0):=by rw[<- hy];exact b.wg.csm b.ok
     obtain⟨p,O,r,r2,t,o⟩:=b.ao (sl:=m) t3 (h0 _ NW) b.wg (λe Q=>by simp at Q);refine jd.of (runNT_succ_of t1<|t2.trans r)<|ihF (sumTo p.size u+jz f1 L+0) ?_ _ p _ u n f1 J H true m o hM t rfl;rw[r2];cases pk with
     |false=>simp at hF;omega
     |true=>have:=t7 rfl;simp at hF;omega
    cases B with
    |opn ht=>exact ht.elim
    |reg hD hV=>exact block rfl<|.reg hD hV
    |uM j hj hx ho=>exact block rfl<|.uM j hj hx ho
    |vw j hj hx ho=>exact block rfl<|.vw j hj hx ho
    |sema hq=>
     obtain⟨p,O,r,r2,t,o⟩:=b.ao (sl:=m) t3 (h1 _ (b.wg.csm b.ok) b.wg.fsm) (b.wg.setSm b.ok<|uY 0) (λe Q=>by
      simp only[semEvents,qO,gU,nY,gR]at Q;rcases Q with rfl|rfl|rfl|rfl
      .exact RR
      .exact .inr<|.inr<|.inr<|.inr<|.inl rfl
      .exact .inr<|.inr<|.inr<|.inr<|.inr rfl
      .exact RS)
     exact jd.of (runNT_succ_of t1<|t2.trans r)<|E _ p _ u n f1 _ _ m o (.fin (.inl rfl) hq) t
    |fin h=>rcases h with h|h|h<;>cases h
  intro T gs w q D f x y sl C M A;exact key _ T gs w q D f x y false sl C M A rfl
 |@last g g' hs h k E=>
  intro T gs w q D f x y sl C M A;obtain⟨N,R,K,S,m,d,U,u,n,f1,J,H,t1,t2,t3,b,B,_,_⟩:=CI.turn hs _ T gs w q D f x y false sl C M A (λz=>by cases z) rfl;obtain⟨e1,rfl,rfl⟩:=B.fin_inv<|.inl rfl;obtain⟨p,O,r,_,t,o⟩:=b.ao (sl:=m) t3 (h _<|b.wg.Yu b.ok) b.wg<|Z5<|.inr<|.inr<|.inl rfl;exact jd.of (runNT_succ_of t1<|t2.trans r)<|E _ p _ u n f1 _ _ m o (.fin (.inr<|.inl rfl) e1) t
 |@RF g g' hs h k E=>
  intro T gs w q D f x y sl C M A;obtain⟨N,R,K,S,m,d,U,u,n,f1,J,H,t1,t2,t3,b,B,_,_⟩:=CI.turn hs _ T gs w q D f x y false sl C M A (λz=>by cases z) rfl;obtain⟨e1,rfl,rfl⟩:=B.fin_inv<|.inr<|.inl rfl;obtain⟨p,O,r,_,t,o⟩:=b.ao (sl:=m) t3 (h _) b.wg<|Z5 RS;exact jd.of (runNT_succ_of t1<|t2.trans r)<|E _ p _ u n f1 _ _ m o (.fin (.inr<|.inr rfl) e1) t
 |@acq g g' hs h k=>
  intro T gs w q D f x y sl C M A;obtain⟨N,R,K,S,m,d,U,u,n,f1,J,H,t1,t2,t3,b,B,_,_⟩:=CI.turn hs _ T gs w q D f x y false sl C M A (λz=>by cases z) rfl;obtain⟨e1,rfl,rfl⟩:=B.fin_inv<|.inr<|.inr rfl;obtain⟨p,O,r,r2,t,o⟩:=b.ao (sl:=m) t3 (h _) b.wg<|Z5 Z6;have cY:O=#[{g:=0,fn:=g.frame.fn,pos:=g.frame.place,act:=.mark<|.acquire G.st}]:=by have:=runT_crowd_go (P:=P) (sl:=m) t3 (show stepG P (0==0) g (K.at d)=_ from h _);rw[r]at this;rw[(JN this).2,ofEvents_eq];simp[MemAct.ofEvent]
  refine jd.of (runNT_succ_of t1<|t2.trans r) ⟨0,p,_,m,_,λi=>if i∈L then f1 i else u i,g',rfl,t,k,?_,o.wg⟩;have F:=o.fr;have Yq:=b.fr.px.acquire (I:=λi=>i∈L) (op:={g:=0,fn:=g.frame.fn,pos:=g.frame.place,act:=.mark<|.acquire G.st}) b.fr.deaf rfl rfl b.AF b.RJ (λi hi=>by obtain⟨gi,_,hW⟩:=b.wk i hi;rw[e1 i hi]at hW;exact hW.2)
  rw[<- cY]at Yq;have W:∀ i s,(σ.iH L).aU i=some s->σ.aU i=some s/\i∉L:=λi s e=>by
   simp only[Gh.iH]at e;split at e
   .cases e
   .exact⟨e,by assumption⟩
  refine⟨F.cnt,λi v hi _ Z=>?_,λ_ _ z=>z.elim,λz=>z,?_,λi s e=>F.wf i s (W i s e).1,λi s e=>F.there i s (W i s e).1,λi s c' _ e hc=>F.chans i s c' (W i s e).2 (W i s e).1 hc,λi s e=>F.mem i s (W i s e).1,λi s l e hl=>F.wy i s l (W i s e).1 hl,F.above,λi _ hl=>?_,F.deaf,?_⟩
  .by_cases X:i∈L
   .obtain⟨gi,h1,hW⟩:=o.wk i X;rw[e1 i X]at hW;rw[h1]at Z;obtain rfl:=cA Z;simp only[Gh.iH,X,fq];exact⟨Nat.pos_of_ne_zero hi,hW.1⟩
   .simp only[Gh.iH,X,eQ];exact F.idle i v hi X Z
  .simp only[Gh.iH];split
   .rfl
   .exact F.hole
  .unfold Gh.lo at hl;obtain⟨s,kG⟩:=oM.1 hl;have:=W i s kG;exact F.hear i this.2 (by unfold Gh.lo;rw[this.1];rfl)
  .refine Yq.conv (λi=>?_) λi l hi=>?_
   .unfold Gh.lo;simp only[Gh.iH];by_cases X:i∈L<;>simp[X]
   .unfold Gh.rd;simp only[Gh.iH,hi.2,eQ]
end
end
section
open Go.Conc
open Go.ConcN (sumTo upd sumTo_upd upd_ne upd_same)
section
variable{P:bT}{σ:Gh}{L:List Nat}{G:sg}{c N0:Nat}{T:Trace}{gs:Array aO}{w:World}{q:Nat->Nat}
theorem YC(L:List Nat):V L (λ_=>.app)=L.length:=by
 unfold V
 induction L with
 |nil=>rfl
 |cons i l a=>simp only[jz,nN,WS.cnt]at a⊢;omega
theorem RU(a:Array Obj)(b:Nat)(o:Obj)(h:a[b]? =some o):a.setIfInBounds b o=a:=by
 apply uJ;intro i;by_cases e:i=b
 .subst e;rw[lh (iF.1 h).1,h]
 .rw[ir (j6 e)]
theorem RV{G:sg}(ok:G.Ok){x y:Value}(h1:G.cs[G.o1]? =some x)(a:G.cs[G.o2]? =some y):G.row x y=G.cs:=by
 apply uJ;intro i;by_cases e2:i=G.o2
 .subst e2;rw[RB ok,a]
 .by_cases e1:i=G.o1
  .subst e1;rw[RA ok,h1]
  .rw[xL e1 e2]
theorem NX{σ:Gh}{w w':World}{c:Nat}(hc:c<w'.heap.size)(hsz:w.heap.size<=w'.heap.size):∀ e∈closeEvents c,(∀ b,(MemAct.ofEvent e).touch?=some b->(b.write=true->∀ i,¬ σ.rd i b.loc)/\(σ.sh b.loc->b.kind≠ .plain))/\(∀ ad,MemAct.ofEvent e=.mark (.release ad)->¬ σ.sh (.cell ad))/\(MemAct.ofEvent e).low w'.heap.size:=by
 intro e f;simp only[closeEvents,qO,gU,nY,gR]at f;rcases f with rfl|rfl
 .refine⟨λb a=>?_,(λad d=>by cases d),hc⟩;simp only[MemAct.ofEvent,MemAct.touch?,zJ]at a;subst a;exact⟨λh=>by simp at h,λ_=>by simp⟩
 .exact⟨λb a=>(by simp[MemAct.ofEvent,MemAct.touch?]at a),(λad d=>by cases d),hc⟩
theorem Fr.shut{Fin:aO->Prop}(C:Fr P σ (λ_=>False) 0 0 T gs w q){a a':aO}{sl:Option (Nat×Nat)}(ha:gs[0]? =some a)(nP:a.status=.running){k:Nat}(hc:w.heap[c]? =some (.chan 0 #[] false k k false))
  (Fc:∀ d,stepG P true a (w.at d)=.go a' ((w.at d).setChan c 0 #[] true k k false) (closeEvents c)) (Mn:mayWake P a=true) (Qt:a'.status=.running)
  (nd:L.Nodup) (len:L.length<=4) (Y:∀ i∈L,∃ s m t z1,σ.aU i=some s/\s.cases=#[rcase m t,rcase c z1]/\m≠c/\∀ r,s.wv r->Cl P G N0 .rel (Conc.served r<|commResult s.cases s.shape 1 z1 false))
  (m5:∀ i s,σ.aU i=some s->s.has c->i∈L) (ok:G.Ok) (F:w.heap[G.blk]? =some (.cells G.cs G.ty (0,0))) (h1:G.cs[G.o1]? =some (nB L.length 0)) (h2:G.cs[G.o2]? =some (uY 0)) (AF:σ.sh (.cell G.st)) (JC:σ.sh (.cell G.sm))
  (hm:MW P G Fin (.zN L.length) a'):jd P σ L G (w.setChan c 0 #[] true k k false) Fin (crowd gs w sl) T:=by
 obtain⟨N,x,d,l,Qy,V0,H,J,t1,t2,t3,t4,h⟩:=C.picked (sl:=sl) ha nP;have dH:0<x.size:=(iF.1 t4).1;have Z:stepG P (0==0) a (w.at l)=.go a' ((w.at l).setChan c 0 #[] true k k false) (closeEvents c):=Fc l;have JA:=runT_crowd_go (P:=P) (sl:=V0) t4 Z;refine jd.of (runNT_succ_of t1<|t2.trans JA) ?_;have VW:(w.at l).heap[c]? =some (.chan 0 #[] false k k false):=hc;have Z1:c<w.heap.size:=(iF.1 hc).1;have zn:((w.at l).setChan c 0 #[] true k k false).heap[c]? =some (.chan 0 #[] true k k false):=heap_setChan_self _ VW _ _ _ _ _ _;have K:∀ op∈MemOp.ofEvents 0 a.frame.fn a.frame.place (closeEvents c),op.g=0:=λop E=>by obtain⟨e,_,rfl⟩:=Conc.mem_ofEvents E;rfl
 have hbc:G.blk≠c:=λe=>by rw[e,hc]at F;cases F
 have M:∀ i∈L,i≠0:=λi hi e=>by obtain⟨s,_,_,_,hs,_⟩:=Y i hi;rw[e,C.hole]at hs;cases hs
 have YE:∀ i s c',i∉L->σ.aU i=some s->s.has c'->c≠c':=λi s c' hi hs S e=>hi<|m5 i s hs<|e▸S;have Z8:(a'.status != .blocked)=true:=by rw[Qt];rfl
 have RX:(a'.status != .waiting)=true:=by rw[Qt];rfl
 have hwk:∀ o:aO,woken P a a' ((w.at l).setChan c 0 #[] true k k false) o=o.again ((w.at l).setChan c 0 #[] true k k false):=λo=>by unfold woken;rw[Mn,Z8,RX];rfl
 have ZV:∀ i v,i≠0->i∉L->x[i]? =some v->v.again ((w.at l).setChan c 0 #[] true k k false)=v:=λi v hi A u=>by
  have n:=h.idle i v hi (λz=>z) u;cases e:σ.aU i with
  |none=>rw[e]at n;exact again_running _ n.2.status
  |some s=>
   rw[e]at n;rcases n with⟨k',hq,O⟩|⟨_,Q,rr,rfl,_⟩
   .exact again_running _<|.inl<|Way.running ⟨_,h.mem i s e⟩ O
   .refine again_all_open λcc mB=>?_;obtain⟨c',z,rfl⟩:=(h.wf i s e).recvs cc mB;have Mf:=dP.has_of_mem mB;obtain⟨k',R⟩:=h.chans i s c' (λz=>z) e Mf;exact⟨c',z,0,_,k',k',_,rfl,by rw[heap_setChan_ne _ _ _ _ _ _ _ (YE i s c' A e Mf)];exact R⟩
 have jT:∀ i,i≠0->((x.map<|woken P a a'<|(w.at l).setChan c 0 #[] true k k false).setIfInBounds 0 a')[i]? =(x[i]?).map (λo=>o.again<|(w.at l).setChan c 0 #[] true k k false):=λi hi=>by
  rw[ir (j6 hi),GH];cases x[i]? with
  |none=>rfl
  |some v=>simp[hwk]
 have RY:∀ i∈L,∃ s m t z1 v kk,σ.aU i=some s/\s.cases=#[rcase m t,rcase c z1]/\m≠c/\(∀ r,s.wv r->Cl P G N0 .rel (Conc.served r<|commResult s.cases s.shape 1 z1 false))/\
   ((x.map<|woken P a a'<|(w.at l).setChan c 0 #[] true k k false).setIfInBounds 0 a')[i]? =some v/\Way P false s kk v/\kk<=J i:=λi hi=>by
  obtain⟨s,m,t,z1,hs,B,U,W⟩:=Y i hi;obtain⟨v,u⟩:∃ v,x[i]? =some v:=⟨x[i]'(by have:=h.there i s hs;omega),Gu _⟩;have n:=h.idle i v (M i hi) (λz=>z) u;rw[hs]at n;have RG:(i==0)=false:=by rw[VK];exact M i hi
  have O:=jT i<|M i hi;rw[u]at O;rcases n with⟨k',hq,y⟩|⟨hq,Q,rr,rfl,vp⟩
  .rw[RG]at y;exact⟨s,m,t,z1,v,k',hs,B,U,W,by rw[O];simp[again_running _ (.inl<|Way.running ⟨_,h.mem i s hs⟩ y)],y,ai⟩
  .rw[RG]at vp;refine⟨s,m,t,z1,{parked rr s.cases s.shape with status:=.running},0,hs,B,U,W,?_,vp.tries _ _,fp _⟩;rw[O];simp only[lQ,zJ];exact again_some_closed (k:=1) (by rw[B];rfl) zn
 have cW:∀ i s,σ.aU i=some s->s.K ((w.at l).setChan c 0 #[] true k k false):=λi s e p hp=>qR VW (h.mem i s e p hp) _ _ _ _ _ _;have hfr:Fr P σ (· ∈L) 0 0 (H++MemOp.ofEvents 0 a.frame.fn a.frame.place (closeEvents c)) ((x.map<|woken P a a'<|(w.at l).setChan c 0 #[] true k k false).setIfInBounds 0 a') ((w.at l).setChan c 0 #[] true k k false) J:=by
  refine⟨by simpa using h.cnt,λi v hi A u=>?_,λi v A u=>?_,λz=>M 0 z rfl,C.hole,h.wf,λi s e=>by simpa using h.there i s e,λi s c' A e S=>?_,cW,h.wy,λj hj=>?_,λi A hl=>?_,?_,?_⟩
  .rw[jT i hi]at u;obtain⟨v0,Z9,rfl⟩:=LO.1 u;rw[ZV i v0 hi A Z9];have n:=h.idle i v0 hi (λz=>z) Z9;cases e:σ.aU i with
   |none=>rw[e]at n;exact⟨n.1,by rw[Deaf_other H (λz=>hi z.symm) _ K];exact n.2⟩
   |some s=>rw[e]at n;exact n
  .obtain⟨s,m,t,z1,v',kk,hs,_,_,_,uO,y,_⟩:=RY i A;rw[uO]at u;obtain rfl:=cA u;exact .inl<|Way.running ⟨_,cW i s hs⟩ y
  .obtain⟨k',R⟩:=h.chans i s c' (λz=>z) e S;exact⟨k',by rw[heap_setChan_ne _ _ _ _ _ _ _ (YE i s c' A e S)];exact R⟩
  .simp only[NO,Array.size_map]at hj;rw[Deaf_other H (g':=0) ai _ K];exact h.above j hj
  .have GZ:i≠0:=λe=>by subst e;unfold Gh.lo at hl;rw[C.hole]at hl;cases hl
   rw[Deaf_other H (λz=>GZ z.symm) _ K];exact h.hear i (λz=>z) hl
  .rw[Deaf_own,h.deaf];rfl
  .have X:=NX (σ:=σ) (w:=w) (w':=(w.at l).setChan c 0 #[] true k k false) (c:=c) (by rw[nQ];exact Z1) (by rw[nQ];exact fC _);refine h.px.own K (λop E b F=>?_) (λop E ad ea=>?_) (by rw[nQ];exact fC _) λop E=>?_
   .obtain⟨e,I,rfl⟩:=Conc.mem_ofEvents E;exact⟨λy g _=>(((X e I).1 b F).1 y g),((X e I).1 b F).2⟩
   .obtain⟨e,I,rfl⟩:=Conc.mem_ofEvents E;exact(X e I).2.1 ad ea
   .obtain⟨e,I,rfl⟩:=Conc.mem_ofEvents E;exact(X e I).2.2
 have nK:((x.map<|woken P a a'<|(w.at l).setChan c 0 #[] true k k false).setIfInBounds 0 a')[0]? =some a':=lh (by simpa using dH);have aeb:∃ f:Nat->Nat,∀ i∈L,∃ v,((x.map<|woken P a a'<|(w.at l).setChan c 0 #[] true k k false).setIfInBounds 0 a')[i]? =some v/\VY P σ G c N0 (H++MemOp.ofEvents 0 a.frame.fn a.frame.place (closeEvents c)) i (f i) v .app:=by refine⟨λi=>J i+1+N0,λi hi=>?_⟩;obtain⟨s,m,t,z1,v,kk,hs,B,_,W,u,y,JV⟩:=RY i hi;refine⟨v,u,s,m,t,z1,J i,hs,B,rfl,y.mono JV,?_,W⟩;rw[Deaf_other H (λz=>M i hi z.symm) _ K];exact h.hear i (λz=>z) (by unfold Gh.lo;rw[hs];rfl)
 obtain⟨f,hf⟩:=aeb;have hwg:WG G (w.setChan c 0 #[] true k k false) (nB L.length 0) (uY 0) ((w.at l).setChan c 0 #[] true k k false):=by
  have zK:(w.setChan c 0 #[] true k k false).heap[G.blk]? =some (.cells G.cs G.ty (0,0)):=by rw[heap_setChan_ne _ _ _ _ _ _ _ (j6 hbc)];exact F
  refine⟨?_,rfl,rfl,zK⟩;rw[RV ok h1 h2,RU _ _ _ zK];rfl
 refine NU hm _ _ _ J (λ_=>.app) f _ _ V0 ⟨hfr,ok,nd,len,hf,⟨k,zn⟩,λi s hi e=>?_,λi hi=>?_,hwg,AF,JC⟩ ?_ nK
 .obtain⟨s',m,t,z1,_,_,hs,B,U,_⟩:=RY i hi;rw[e]at hs;obtain rfl:=cA hs;obtain⟨k',R⟩:=h.chans i s m (λz=>z) e ⟨0,t,by rw[B];rfl⟩;exact⟨m,t,z1,k',B,by rw[heap_setChan_ne _ _ _ _ _ _ _ (j6 U)];exact R⟩
 .obtain⟨s,_,_,_,hs,_⟩:=Y i hi;unfold Gh.lo;rw[hs];rfl
 .have:=Md.opn (L:=L) (D:=λ_=>.app) (tag:=.zN L.length) (by rw[YC];exact fC _) (λi _=>trivial)
  rwa[YC]at this
end
structure Sm(w w₁:World):Prop where
 hp:w₁.heap=w.heap
 os:w₁.os=w.os
 out:w₁.output=w.output
theorem Sm.refl(w:World):Sm w w:=⟨rfl,rfl,rfl⟩
theorem Sm.trans{a b c:World}(h:Sm a b)(k:Sm b c):Sm a c:=⟨k.hp.trans h.hp,k.os.trans h.os,k.out.trans h.out⟩
theorem Sm.at{a b:World}(h:Sm a b)(d:Nat):Sm a (b.at d):=h.trans ⟨rfl,rfl,rfl⟩
theorem Sm.cell{w b:World}(h:Sm w b)(a:Addr):b.cell? a=w.cell? a:=by unfold World.cell?;rw[h.hp]
theorem Sm.setChan{w a:World}(h:Sm w a)(c cap:Nat)(b:Array Value)(cl:Bool)(s r:Nat)(tm:Bool):Sm (w.setChan c cap b cl s r tm) (a.setChan c cap b cl s r tm):=
 ⟨by simp only[World.setChan,h.hp],h.os,h.out⟩
theorem pC.sm{σ:Gh}{s:dP}{a:World}(h:pC σ s w)(e:Sm w a):pC σ s a:=
 ⟨h.wf,λc b=>by rw[e.hp];exact h.chans c b,λp hp=>by rw[e.cell];exact h.mem p hp,h.wy⟩
inductive yJ(P:bT)(Post:Value->World->Prop):Gh->Nat->Nat->aO->World->Prop
 |own {σ:Gh} {h δ:Nat} {g:aO} {w:World} (g':World->aO) (w':World->World) (es:World->Array Event) (hs:g.status=.running)
   (h1:∀ w₁,Sm w w₁->stepG P (h==0) g w₁=.go (g' w₁) (w' w₁) (es w₁)) (h2:∀ w₁,Sm w w₁->rG σ w₁ (w' w₁) (es w₁)) (h3:∀ w₁,Sm w w₁->yJ P Post σ h (deafBehind δ (es w₁)) (g' w₁) (w' w₁)):yJ P Post σ h δ g w
 |hire {σ:Gh} {h:Nat} {g a' child:aO} {w:World} (s:dP) (m:Nat) (es:Array Event) (hs:g.status=.running) (h1:∀ w₁,Sm w w₁->stepG P (h==0) g w₁=.spawn a' child w₁ es) (h2:∀ w₁,Sm w w₁->rG σ w₁ w₁ es) (hd:deafBehind 0 es=0)
   (nA:pC σ s w) (od:Way P false s m child) (h3:yJ P Post (σ.p8 s) h 0 a' w):yJ P Post σ h 0 g w
 |give {σ:Gh} {h:Nat} {g a₂:aO} {w:World} (j c kk k m:Nat) (s sH:dP) (v z z':Value) (es:Array Event) (hs:g.status=.running) (hj:σ.aU j=some s) (hk:s.cases[kk]? =some (rcase c z)) (m5:∀ i s',σ.aU i=some s'->s'.has c->i=j)
   (h1:∀ w₁,Sm w w₁->stepG P (h==0) g w₁=.comm a₂ #[scase c v z'] true .send w₁ es) (h2:∀ w₁,Sm w w₁->rG σ w₁ w₁ es) (hd:deafBehind 0 es=0) (hc:w.heap[c]? =some (.chan 0 #[] false k k false)) (nA:pC σ sH w) (od:Way P (h==0) sH m (Conc.served a₂ undef))
   (h3:∀ r,s.wv r->yJ P Post (σ.given h j sH) j 0 (Conc.served r (commResult s.cases s.shape kk v true)) (w.setChan c 0 #[] false (k+1) (k+1) false)):yJ P Post σ h 0 g w
 |shut {σ:Gh} {g a':aO} {w:World} (L:List Nat) (G:sg) (c k N0:Nat) (Fin:aO->Prop) (hs:g.status=.running) (hc:w.heap[c]? =some (.chan 0 #[] false k k false))
   (Fc:∀ w₁,Sm w w₁->stepG P true g w₁=.go a' (w₁.setChan c 0 #[] true k k false) (closeEvents c)) (Mn:mayWake P g=true) (Qt:a'.status=.running)
   (nd:L.Nodup) (len:L.length<=4) (hL:∀ i∈L,∃ s cw z0 z1,σ.aU i=some s/\s.cases=#[rcase cw z0,rcase c z1]/\cw≠c/\∀ r,s.wv r->Cl P G N0 .rel (Conc.served r (commResult s.cases s.shape 1 z1 false)))
   (m5:∀ i s,σ.aU i=some s->s.has c->i∈L) (ok:G.Ok) (hb:w.heap[G.blk]? =some (.cells G.cs G.ty (0,0))) (e1:G.cs[G.o1]? =some (nB L.length 0)) (e2:G.cs[G.o2]? =some (uY 0)) (AF:σ.sh (.cell G.st)) (JC:σ.sh (.cell G.sm))
   (hm:MW P G Fin (.zN L.length) a') (h3:∀ a'' RQ,Fin a''->WG G (w.setChan c 0 #[] true k k false) (nB 0 0) (uY 0) RQ->yJ P Post (σ.iH L) 0 0 a'' RQ):yJ P Post σ 0 0 g w
 |sF {σ:Gh} {h δ:Nat} {g:aO} {w:World} (Yo:Loc->Prop) (jL:∀ l,σ.sh l->Yo l) (oa:∀ l,Yo l->¬ σ.sh l->∃ a:Addr,l=.cell a/\w.heap.size<=a.block) (h3:yJ P Post {σ with sh:=Yo} h δ g w):yJ P Post σ h δ g w
 |done{σ:Gh} {g:aO} {w:World} (v:Value) (hs:g.status=.running) (h1:∀ w₁,Sm w w₁->stepG P true g w₁=.ended (.done v) w₁ #[]) (hn:∀ i,σ.aU i=none) (hp:∀ w₁,Sm w w₁->Post v w₁):yJ P Post σ 0 0 g w
def Ends(P:bT)(Post:Value->World->Prop)(m:Machine)(T:Trace):Prop:=
 ∃ N last o w' t',runNT P (N+1) m T=(.ended o w',t')/\runN P N m=.next last/\step P last=.ended o w'/\Good P Post last o w' t'
theorem Ends.of{P:bT}{N:Nat}{m a:Machine}{T T':Trace}(h:runNT P N m T=(.next a,T'))(k:Ends P Post a T'):Ends P Post m T:=by
 obtain⟨b,last,o,w',c,e1,e2,d,e⟩:=k;refine⟨N+b,last,o,w',c,?_,?_,d,e⟩
 .rw[Nat.add_assoc,runNT_add,h];exact e1
 .rw[runN_add,<- runNT_fst P N m T,h];exact e2
theorem yJ.ends{P:bT}{σ:Gh}{h δ:Nat}{g:aO}(R:yJ P Post σ h δ g w):
  ∀ (b:World) (gs:Array aO) (sl:Option (Nat×Nat)) (T:Trace) (q:Nat->Nat),Sm w b->Fr P σ (λ_=>False) h δ T gs b q->gs[h]? =some g->Ends P Post (crowd gs b sl) T:=by
 induction R with
 |@own σ h δ g w g' w' es hs h1 y h3 t=>
  intro b gs sl T q f C o;obtain⟨N,B,d,M,F,H,W,E,t1,t2,t3,Q,A⟩:=C.picked (sl:=sl) o hs;have u:=f.at M;have dH:h<B.size:=(iF.1 Q).1;obtain⟨X,Mo⟩:=A.own (a:=g) (a':=g'<|b.at M) (fn:=g.frame.fn) (pos:=g.frame.place) dH<|y _ u;exact Ends.of (runNT_succ_of t1<|t2.trans<|runT_crowd_go (P:=P) (sl:=H) Q<|h1 _ u)<|t _ u _ _ H _ E (Sm.refl _) X Mo
 |@hire σ h g a' child w s m es hs h1 y Y nA Z h3 t=>
  intro b gs sl T q f C o;obtain⟨N,B,d,M,F,H,W,E,t1,t2,t3,Q,A⟩:=C.picked (sl:=sl) o hs;have u:=f.at M;obtain⟨zo,O,q2,I,J,X⟩:=A.hire (sl:=H) Q (h1 _ u) (y _ u) Y (nA.sm u) Z;exact Ends.of (runNT_succ_of t1<|t2.trans I)<|t _ zo H _ q2 u X J
 |@give σ h g a₂ w j c kk k m s sH v z z' es hs hj hk m5 h1 y Y hc nA Z h3 t=>
  intro b gs sl T q f C o;obtain⟨N,B,d,F,W,E,I,⟨r,hr,J⟩,A⟩:=C.give (sl:=sl) hj hk m5 o hs (λd=>h1 _<|f.at d) (λd=>y _<|f.at d) Y (by rw[f.hp];exact hc) (nA.sm f) Z;exact Ends.of I<|t r hr _ B F _ E ((f.at d).setChan _ _ _ _ _ _ _) A J
 |@shut σ g a' w L G c k N0 Fin hs hc Fc Mn Qt nd len hL m5 ok hb e1 e2 AF JC hm h3 t=>
  intro b gs sl T q f C o;obtain⟨N,B,w',F,W,E,a'',I,J,r3,A,S⟩:=C.shut (sl:=sl) (Fin:=Fin) o hs (by rw[f.hp];exact hc) (λd=>Fc _<|f.at d) Mn Qt nd len hL m5 ok (by rw[f.hp];exact hb) e1 e2 AF JC hm;have U:=f.setChan c 0 #[] true k k false;have hG':WG G (w.setChan c 0 #[] true k k false) (nB 0 0) (uY 0) w':=⟨by rw[S.hp,U.hp],by rw[S.os,U.os],by rw[S.out,U.out],by rw[<- U.hp];exact S.b0⟩;exact Ends.of I<|t a'' w' r3 hG' w' B F _ E (Sm.refl _) A J
 |@sF σ h δ g w Yo jL oa h3 t=>
  intro b gs sl T q f C o;refine t b gs sl T q f ?_ o;refine⟨C.cnt,C.idle,C.zl,C.jh,C.hole,C.wf,C.there,C.chans,C.mem,λi s l e hl hs=>?_,C.above,C.hear,C.deaf,C.px.sF jL λl h1 y=>by rw[f.hp];exact oa l h1 y⟩;by_cases h0:σ.sh l
  .exact C.wy i s l e hl h0
  .obtain⟨a,rfl,hb⟩:=oa l hs h0;obtain⟨p,hp,ep⟩:=hl;obtain rfl:=Loc.cell.inj ep;have:=Mc<|C.mem i s e p hp;rw[f.hp]at this;omega
 |@done σ g w v hs h1 hn hp=>
  intro b gs sl T q f C o;have hL:Leavers P T gs q:=⟨λi x hi hx=>by have:=C.idle i x ai (λz=>z) hx;rw[hn i]at this;exact this.2,C.above⟩
  have hP:Past σ.sh b.heap.size T:=C.px.toPast C.deaf λi hl=>by unfold Gh.lo at hl;rw[hn i]at hl;cases hl
  exact beside_ends (D:=λ_ _ _=>False) (Post:=Post) (sl:=sl) (n:=0) (λ_ _ _ h=>h.elim) o hL hP (λw₂ K=>by obtain⟨d,rfl⟩:=K;exact⟨hs,v,#[],h1 _<|f.at d,λe he=>by simp at he,hp _<|f.at d⟩)
theorem aaa(P:bT)(g:aO)(w:World)(bot:Nat):Fr P {n:=1,aU:=λ_=>none,sh:=λ_=>False,bot:=bot} (λ_=>False) 0 0 #[] #[g] w (λ_=>0):=by
 refine⟨rfl,λi x hi _ c=>?_,λ_ _ z=>z.elim,λz=>z,rfl,λ_ _ e=>(by cases e),λ_ _ e=>(by cases e),λ_ _ _ _ e=>(by cases e),λ_ _ e=>(by cases e),λ_ _ _ e=>(by cases e),λ_ _=>rfl,λi _ hl=>?_,rfl,?_⟩
 .have:i<1:=by simpa using(iF.1 c).1
  omega
 .cases hl
 .have h:=ZT;refine⟨h.clean,λi a b=>by simp[touchAt,Trace.act?]at b,λi a b=>by simp[touchAt,Trace.act?]at b,λi a b=>by simp[touchAt,Trace.act?]at b,λi ad b=>by simp[Trace.act?]at b,by simp⟩
theorem yJ.whole{P:bT}{g:aO}{bot:Nat}(R:yJ P Post {n:=1,aU:=λ_=>none,sh:=λ_=>False,bot:=bot} 0 0 g w):Ends P Post (solo g w) #[]:=by rw[solo_eq_crowd];exact R.ends w #[g] none #[] _ (Sm.refl w) (aaa P g w bot) rfl
end
section
open Go.Conc
open Go.ConcR (deafBehind_cons deafBehind_one)
structure lM where
 rd:Nat->aP->Nat->Bool
 sh:aP->Nat->Bool
 bot:Nat:=0
def Obj.quiet:Obj->Bool
 |.cells .. =>false
 |.chan .. =>false
 |_=>true
def gJ:Value->Bool
 |.agg _=>false
 |.tuple _=>false
 |_=>true
def vx(H:Array Obj)(r:Nat):Option (aP×Nat):=
 match H[r]? with
 |some (.cells c elem _)=>some (elem,c.size)
 |_=>none
def zQ(H:Array Obj)(a:Addr):Bool:=
 match H[a.block]? with
 |some (.cells _ _ (lo,hi))=>lo<=a.off&&a.off<hi
 |_=>false
def lV(B:lM)(H:Array Obj):Mark->Prop
 |.acquire a|.releaseMerge a|.read a=>∃ c ty,H[a.block]? =some (.cells c ty (0,0))
 |.release a=>∃ c ty,H[a.block]? =some (.cells c ty (0,0))/\B.sh ty a.off=false
 |.write a=>∃ c ty,H[a.block]? =some (.cells c ty (0,0))/\B.rd a.block ty a.off=false
 |_=>True
def pD:Mark->Nat->Nat
 |.disable,d=>d+1
 |.enable,d=>d-1
 |_,d=>d
def dQ(P:bT)(B:lM){α:Type}:Sem α->Array Obj->Nat->(α->Array Obj->Nat->Prop)->Prop
 |.pure a,H,d,Q=>Q a H d
 |.load m a k,H,d,Q=>∃ c ty v,(∃ fr,H[a.block]? =some (.cells c ty fr))/\a.spot=none/\c[a.off]? =some v/\(m=.plain->a.block<B.bot\/B.sh ty a.off=false)/\dQ P B (k v) H d Q
 |.store m a v k,H,d,Q=>gJ v=true/\∃ c ty,H[a.block]? =some (.cells c ty (0,0))/\a.spot=none/\a.off<c.size/\B.rd a.block ty a.off=false/\(m=.plain->B.sh ty a.off=false)/\
   dQ P B k (H.setIfInBounds a.block<|.cells (c.setIfInBounds a.off v) ty (0,0)) d Q
 |.new o k,H,d,Q=>dQ P B (k H.size) (H.push o) d Q
 |.shape r k,H,d,Q=>dQ P B (k<|vx H r) H d Q
 |.freeze _ _ _,_,_,_=>False
 |.frozen a k,H,d,Q=>dQ P B (k<|zQ H a) H d Q
 |.getObj r k,H,d,Q=>∃ o,H[r]? =some o/\Obj.quiet o=true/\dQ P B (k o) H d Q
 |.setObj r o k,H,d,Q=>∃ o₀,H[r]? =some o₀/\Obj.quiet o₀=true/\Obj.quiet o=true/\dQ P B k (H.setIfInBounds r o) d Q
 |.choose q k,H,d,Q=>if q.forced then dQ P B (k 0) H d Q else∀ n,dQ P B (k<|q.cut n) H d Q
 |.sys _ _,_,_,_=>False
 |.program k,H,d,Q=>dQ P B (k P) H d Q
 |.mark m k,H,d,Q=>lV B H m/\dQ P B k H (pD m d) Q
 |.halt _,_,_,_=>False
section
variable{P:bT}{B:lM}{α β:Type}
theorem qb{s:Sem α}{H:Array Obj}{d:Nat}{Q p:α->Array Obj->Nat->Prop}(t:∀ a H d,Q a H d->p a H d)(h:dQ P B s H d Q):dQ P B s H d p:=by
 induction s generalizing H d with
 |pure a=>exact t _ _ _ h
 |load m a k b=>obtain⟨c,ty,v,h1,f,g,j,l⟩:=h;exact⟨c,ty,v,h1,f,g,j,b _ l⟩
 |store m a v k b=>obtain⟨u,c,ty,h1,f,g,j,l,w⟩:=h;exact⟨u,c,ty,h1,f,g,j,l,b w⟩
 |new o k b=>exact b _ h
 |shape r k b=>exact b _ h
 |freeze a n k b=>exact h.elim
 |frozen a k b=>exact b _ h
 |getObj r k b=>obtain⟨o,h1,f,g⟩:=h;exact⟨o,h1,f,b _ g⟩
 |setObj r o k b=>obtain⟨i,h1,f,y,g⟩:=h;exact⟨i,h1,f,y,b g⟩
 |choose q k b=>
  simp only[dQ]at h⊢;split
  .rename_i e;rw[aJ e]at h;exact b _ h
  .rename_i e;rw[ax e]at h;exact λn=>b _<|h n
 |sys c k b=>exact h.elim
 |program k b=>exact b _ h
 |mark m k b=>exact⟨h.1,b h.2⟩
 |halt x=>exact h.elim
theorem RZ{s:Sem α}{f:α->Sem β}{H:Array Obj}{d:Nat}{Q:β->Array Obj->Nat->Prop}(h:dQ P B s H d λa H d=>dQ P B (f a) H d Q):dQ P B (s.bind f) H d Q:=by
 induction s generalizing H d with
 |pure a=>exact h
 |load m a k b=>obtain⟨c,ty,v,h1,g,i,l,p⟩:=h;exact⟨c,ty,v,h1,g,i,l,b _ p⟩
 |store m a v k b=>obtain⟨t,c,ty,h1,g,i,l,p,u⟩:=h;exact⟨t,c,ty,h1,g,i,l,p,b u⟩
 |new o k b=>exact b _ h
 |shape r k b=>exact b _ h
 |freeze a n k b=>exact h.elim
 |frozen a k b=>exact b _ h
 |getObj r k b=>obtain⟨o,h1,g,i⟩:=h;exact⟨o,h1,g,b _ i⟩
 |setObj r o k b=>obtain⟨j,h1,g,w,i⟩:=h;exact⟨j,h1,g,w,b i⟩
 |choose q k b=>
  simp only[dQ,Sem.bind]at h⊢;split
  .rename_i e;rw[aJ e]at h;exact b _ h
  .rename_i e;rw[ax e]at h;exact λn=>b _<|h n
 |sys c k b=>exact h.elim
 |program k b=>exact b _ h
 |mark m k b=>exact⟨h.1,b h.2⟩
 |halt x=>exact h.elim
theorem ae{s:Sem α}{f:α->Sem β}{H:Array Obj}{d:Nat}{Q:β->Array Obj->Nat->Prop}(h:dQ P B s H d λa H d=>dQ P B (f a) H d Q):dQ P B (s >>= f) H d Q:=RZ h
def CU(B:lM)(H:Array Obj)(e:Event):Prop:=
 match e.loc with
 |.cell a=>a.spot=none/\∃ c ty,(∃ fr,H[a.block]? =some (.cells c ty fr))/\(e.write=true->B.rd a.block ty a.off=false)/\(e.sync=false->a.block<B.bot\/B.sh ty a.off=false)
 |.obj r=>r<H.size/\e.sync=false
 |.mark m=>lV B H m/\e.sync=true
 |_=>False
structure gK(B:lM)(H H':Array Obj):Prop where
 size:H.size<=H'.size
 chans:∀ (r:Nat) (o:Obj),H[r]? =some o->o.isChan=true->H'[r]? =some o
 cells:∀ (b:Nat) (c:Array Value) (ty:aP) (fr:Nat×Nat),H[b]? =some (.cells c ty fr)->∃ c',H'[b]? =some (.cells c' ty fr)/\∀ j,B.rd b ty j=true->c'[j]? =c[j]?
theorem gK.refl(H:Array Obj):gK B H H:=⟨fC _,λ_ _ h _=>h,λ_ c _ _ h=>⟨c,h,λ_ _=>rfl⟩⟩
theorem gK.trans{H f a:Array Obj}(h:gK B H f)(k:gK B f a):gK B H a:=
 ⟨GJ h.size k.size,λr o e i=>k.chans r o (h.chans r o e i) i,λb c ty fr e=>by obtain⟨c',e1,e2⟩:=h.cells b c ty fr e;obtain⟨d,l,m⟩:=k.cells b c' ty fr e1;exact⟨d,l,λj g=>(m j g).trans<|e2 j g⟩⟩
theorem G3{H f:Array Obj}(h:gK B H f){m:Mark}(k:lV B H m):lV B f m:=by
 have d:∀ {b:Nat} {c:Array Value} {ty:aP},H[b]? =some (.cells c ty (0,0))->∃ c',f[b]? =some (.cells c' ty (0,0)):=λe=>by obtain⟨c',e1,_⟩:=h.cells _ _ _ _ e;exact⟨c',e1⟩
 cases m<;>simp only[lV]at k⊢
 .obtain⟨c,ty,e⟩:=k;obtain⟨c',a⟩:=d e;exact⟨c',ty,a⟩
 .obtain⟨c,ty,e,x⟩:=k;obtain⟨c',a⟩:=d e;exact⟨c',ty,a,x⟩
 .obtain⟨c,ty,e⟩:=k;obtain⟨c',a⟩:=d e;exact⟨c',ty,a⟩
 .obtain⟨c,ty,e⟩:=k;obtain⟨c',a⟩:=d e;exact⟨c',ty,a⟩
 .obtain⟨c,ty,e,x⟩:=k;obtain⟨c',a⟩:=d e;exact⟨c',ty,a,x⟩
theorem Fe{c:Array Value}{ty:aP}(h1:w.heap[a.block]? =some (.cells c ty fz))(b:a.spot=none)(d:c[a.off]? =some v):w.cell? a=some v:=by unfold World.cell?;rw[h1];simp[b,d]
theorem modify_eq{H:Array Obj}{o:Obj}(f:Obj->Obj)(h:H[b]? =some o):H.modify b f=H.setIfInBounds b (f o):=by
 apply uJ;intro i;have a:=(iF.1 h).1;by_cases e:i=b
 .subst e;rw[lh a,VL];simp[h]
 .rw[ir (j6 e),VL];simp[j6 e]
theorem JW{c:Array Value}{ty:aP}(h1:w.heap[a.block]? =some (.cells c ty fz))(b:a.spot=none):
  w.setCell a v={w with heap:=w.heap.setIfInBounds a.block<|.cells (c.setIfInBounds a.off v) ty fz}:=by
 unfold World.setCell;rw[modify_eq _ h1];simp[b]
theorem NY{c:Array Value}{ty:aP}(h1:w.heap[a.block]? =some (.cells c ty (0,0))):w.frozen? a=false:=by unfold World.frozen?;rw[h1];simp
theorem gK.store{H:Array Obj}{off:Nat}{c:Array Value}{ty:aP}(h:H[b]? =some (.cells c ty (0,0)))(d:B.rd b ty off=false):gK B H (H.setIfInBounds b<|.cells (c.setIfInBounds off v) ty (0,0)):=by
 have f:=(iF.1 h).1;refine⟨by simp,λr o e i=>?_,λb' c' k g e=>?_⟩
 .have:b≠r:=λz=>by subst z;rw[h]at e;cases e;cases i
  rw[ir this];exact e
 .by_cases z:b=b'
  .subst z;rw[h]at e;cases e;refine⟨_,lh f,λj a=>?_⟩;have:off≠j:=λz=>by subst z;rw[d]at a;cases a
   rw[ir this]
  .exact⟨c',by rw[ir z];exact e,λ_ _=>rfl⟩
theorem gK.setObj{H:Array Obj}{a o:Obj}(h:H[r]? =some a)(b:Obj.quiet a=true):gK B H (H.setIfInBounds r o):=by
 refine⟨by simp,λr' d e i=>?_,λb' c' f c e=>?_⟩
 .have:r≠r':=λz=>by subst z;rw[h]at e;cases e;cases a<;>simp_all [Obj.quiet,Obj.isChan]
  rw[ir this];exact e
 .have:r≠b':=λz=>by subst z;rw[h]at e;cases e;cases b
  exact⟨c',by rw[ir this];exact e,λ_ _=>rfl⟩
theorem gK.push(H:Array Obj)(o:Obj):gK B H (H.push o):=by
 have a:∀ {b:Nat} {x:Obj},H[b]? =some x->(H.push o)[b]? =some x:=λ{b x} e=>by have:=(iF.1 e).1;rw[ZI this];rw[<- e,Gu this]
 exact⟨by simp,λr d e _=>a e,λb c ty fr e=>⟨c,a e,λ_ _=>rfl⟩⟩
theorem sP(a b:Array X)(x:X):a.push x++b=a++(#[x]++b):=by apply Array.ext';simp
theorem DF{H:Array Obj}{wr b:Bool}(d:a.spot=none){c:Array Value}{ty:aP}{fr:Nat×Nat}(h:H[a.block]? =some (.cells c ty fr))(e:wr=true->B.rd a.block ty a.off=false)(f:b=false->a.block<B.bot\/B.sh ty a.off=false):CU B H ⟨.cell a,wr,b⟩:=⟨d,c,ty,⟨fr,h⟩,e,f⟩
theorem gm(d:Nat)(a b:Array Event):deafBehind d (a++b)=deafBehind (deafBehind d a) b:=by
 obtain⟨a⟩:=a;obtain⟨b⟩:=b;simp only[List.append_toArray]
 induction a generalizing d with
 |nil=>simp[deafBehind]
 |cons e l c=>rw[fJ,deafBehind_cons,deafBehind_cons d e l,c]
theorem zp(d:Nat)(m:Mark):deafBehind d #[⟨.mark m,false,true⟩]=pD m d:=by cases m<;>simp[deafBehind,pD]
theorem deafBehind_nil(d:Nat):deafBehind d #[]=d:=by simp[deafBehind]
theorem qc{s:Sem α}:∀ {H:Array Obj} {d:Nat} {Q:α->Array Obj->Nat->Prop} {w:World} (b:Array Event),w.heap=H->dQ P B s H d Q->
  ∃ a w' es f,s.runT P w b=(.ok a w',b++es)/\w'.os=w.os/\w'.output=w.output/\gK B H w'.heap/\(∀ e∈es,CU B w'.heap e)/\deafBehind d es=f/\Q a w'.heap f:=by
 induction s with
 |pure a=>intro H d Q w b g h;subst g;exact⟨a,w,#[],d,by simp[Sem.runT],rfl,rfl,gK.refl _,by simp,deafBehind_nil _,h⟩
 |load m a k i=>
  intro H d Q w b g h;obtain⟨c,ty,v,⟨fr,h1⟩,t,D,I,J⟩:=h;subst g;obtain⟨x,w',es,f,j,l,u,p,y,A,C⟩:=i v (b.push ⟨.cell a,false,m== .atomic⟩) rfl J;refine⟨x,w',#[⟨.cell a,false,m== .atomic⟩]++es,f,?_,l,u,p,?_,?_,C⟩
  .simp only[Sem.runT,Fe h1 t D];rw[j,sP]
  .intro e he;rcases ZH.1 he with he|he
   .simp only[qO,dR]at he;subst he;obtain⟨c',e1,_⟩:=p.cells _ _ _ _ h1;exact DF t e1 (λz=>by cases z) λz=>I (by cases m<;>first|rfl|cases z)
   .exact y e he
  .rw[gm,deafBehind_one (by simp)<|by simp];exact A
 |store m a v k i=>
  intro H d Q w b g h;obtain⟨L,c,ty,h1,t,D,I,J,M⟩:=h;subst g;obtain⟨x,w',es,f,j,l,u,p,y,A,C⟩:=i (w:=w.setCell a v) (b.push ⟨.cell a,true,m== .atomic⟩) (by rw[JW h1 t]) M;have E:=gK.store (B:=B) (off:=a.off) (v:=v) h1 I;refine⟨x,w',#[⟨.cell a,true,m== .atomic⟩]++es,f,?_,l,u,E.trans p,?_,?_,C⟩
  .have N:=Fe (w:=w) h1 t<|Gu D;have O:=NY (w:=w) (a:=a) h1;cases v<;>first|(simp only[Sem.runT,N,O,fW,eQ];rw[j,sP];done)|(simp[gJ]at L)
  .intro e he;rcases ZH.1 he with he|he
   .simp only[qO,dR]at he;subst he;obtain⟨c',e1,_⟩:=(E.trans p).cells _ _ _ _ h1;exact DF t e1 (λ_=>I) λz=>.inr<|J (by cases m<;>first|rfl|cases z)
   .exact y e he
  .rw[gm,deafBehind_one (by simp)<|by simp];exact A
 |new o k i=>
  intro H d Q w b g h;subst g;obtain⟨x,w',es,f,j,l,u,p,y,A,C⟩:=i w.heap.size (w:={w with heap:=w.heap.push o}) b rfl h;exact⟨x,w',es,f,by simp only[Sem.runT];exact j,l,u,(gK.push _ o).trans p,y,A,C⟩
 |shape r k i=>
  intro H d Q w b g h;subst g;obtain⟨x,w',es,f,j,l⟩:=i (vx w.heap r) b rfl h;exact⟨x,w',es,f,by simp only[Sem.runT];exact j,l⟩
 |freeze a n k i=>intro H d Q w b g h;exact h.elim
 |frozen a k i=>
  intro H d Q w b g h;subst g;obtain⟨x,w',es,f,j,l⟩:=i (zQ w.heap a) b rfl h;exact⟨x,w',es,f,by simp only[Sem.runT];exact j,l⟩
 |getObj r k i=>
  intro H d Q w b g h;obtain⟨o,h1,t,D⟩:=h;subst g;obtain⟨x,w',es,f,j,l,u,p,y,A,C⟩:=i o (b.push ⟨.obj r,false,o.isChan⟩) rfl D;have K:o.isChan=false:=by cases o<;>simp_all [Obj.quiet,Obj.isChan]
  refine⟨x,w',#[⟨.obj r,false,o.isChan⟩]++es,f,?_,l,u,p,?_,?_,C⟩
  .simp only[Sem.runT,h1];cases o<;>first|(simp only[j,sP];done)|(simp[Obj.quiet]at t)
  .intro e he;rcases ZH.1 he with he|he
   .simp only[qO,dR]at he;subst he;exact⟨QS (iF.1 h1).1 p.size,K⟩
   .exact y e he
  .rw[gm,deafBehind_one (by simp)<|by simp];exact A
 |setObj r o k i=>
  intro H d Q w b g h;obtain⟨F,h1,t,R,D⟩:=h;subst g;obtain⟨x,w',es,f,j,l,u,p,y,A,C⟩:=i (w:={w with heap:=w.heap.setIfInBounds r o}) (b.push ⟨.obj r,true,o.isChan⟩) rfl D;have K:o.isChan=false:=by cases o<;>simp_all [Obj.quiet,Obj.isChan]
  have E:=gK.setObj (B:=B) (o:=o) h1 t;refine⟨x,w',#[⟨.obj r,true,o.isChan⟩]++es,f,?_,l,u,E.trans p,?_,?_,C⟩
  .simp only[Sem.runT,h1];cases F<;>first|(rw[<- sP];exact j)|(simp[Obj.quiet]at t)
  .intro e he;rcases ZH.1 he with he|he
   .simp only[qO,dR]at he;subst he;exact⟨QS (iF.1 h1).1 (E.trans p).size,K⟩
   .exact y e he
  .rw[gm,deafBehind_one (by simp)<|by simp];exact A
 |choose q k i=>
  intro H d Q w b g h;subst g;simp only[dQ]at h;by_cases e:q.forced=true
  .rw[aJ e]at h;obtain⟨x,w',es,f,j,l⟩:=i 0 b rfl h;exact⟨x,w',es,f,by simp only[Sem.runT,e,fq];exact j,l⟩
  .rw[ax e]at h;obtain⟨x,w',es,f,j,l⟩:=i (q.cut<|w.tape w.drawn q) (w:={w with drawn:=w.drawn+1}) b rfl<|h _;exact⟨x,w',es,f,by simp only[Sem.runT,e];exact j,l⟩
 |sys c k i=>intro H d Q w b g h;exact h.elim
 |program k i=>
  intro H d Q w b g h;subst g;obtain⟨x,w',es,f,j,l⟩:=i P b rfl h;exact⟨x,w',es,f,by simp only[Sem.runT];exact j,l⟩
 |mark m k i=>
  intro H d Q w b g h;subst g;obtain⟨x,w',es,f,j,l,u,p,y,A,C⟩:=i (b.push ⟨.mark m,false,true⟩) rfl h.2;refine⟨x,w',#[⟨.mark m,false,true⟩]++es,f,?_,l,u,p,?_,?_,C⟩
  .simp only[Sem.runT];rw[j,sP]
  .intro e he;rcases ZH.1 he with he|he
   .simp only[qO,dR]at he;subst he;exact⟨G3 p h.1,rfl⟩
   .exact y e he
  .rw[gm,zp];exact A
 |halt x=>intro H d Q w b g h;exact h.elim
end
end
section
open Go.Conc
def tm(n:Nat)(e:Nat->Value):Array Value:=Array.ofFn λi:Fin n=>e i
def put(e:Nat->Value)(d:Nat)(v:Value):Nat->Value:=λi=>if i=d then v else e i
def dD(e:Nat->Value)(d:Option Nat)(v:Value):Nat->Value:=match d with|some d=>put e d v|none=>e
def ev(n:Nat)(e:Nat->Value):dp->Value
 |.tmp t=>if t<n then e t else undef
 |.const v=>v
 |.global g=>.pointer<|some ⟨g,0,none⟩
 |.func f=>.func (.func f) #[] #[]
def AH(args:Array Value):Nat->Value:=λi=>args.getD i undef
theorem AJ(n:Nat)(e:Nat->Value)(t:Nat):(tm n e)[t]? =if t<n then some (e t)else none:=by unfold tm;by_cases h:t<n<;>simp[h]
theorem wI(n:Nat)(e:Nat->Value)(t:Nat):(tm n e).getD t undef=if t<n then e t else undef:=by
 have:(tm n e).getD t undef=((tm n e)[t]?).getD undef:=by simp[Array.getD_eq_getD_getElem?]
 rw[this,AJ];by_cases h:t<n<;>simp[h]
theorem R1(n:Nat)(e:Nat->Value)(d:Nat)(v:Value):(tm n e).setIfInBounds d v=tm n (put e d v):=by
 apply uJ;intro i;rw[AJ];by_cases h:i=d
 .subst h;by_cases a:i<n
  .rw[lh (by simpa[tm]using a)];simp[put,a]
  .simp[tm,a]
 .rw[ir (j6 h),AJ];simp[put,h]
theorem JX(args:Array Value)(n:Nat)(h:args.size<=n):args++Array.replicate (n-args.size) undef=tm n (AH args):=by
 apply uJ;intro i;rw[AJ,ZJ];by_cases h1:i<args.size
 .have:i<n:=QS h1 h;simp[h1,this,AH,Array.getD]
 .by_cases a:i<n
  .have:i-args.size<n-args.size:=ai;simp[h1,a,this,AH,Array.getD]
  .have:¬ i-args.size<n-args.size:=ai;simp[h1,a,this]
inductive Kd where
 |rU|qJ
def Kd.k:Kd->CallKind
 |.rU=>.normal
 |.qJ=>.deferred
theorem Kd.early(kd:Kd):(kd.k==CallKind.early)=false:=by cases kd<;>rfl
def aX(fn:bN)(kd:Kd)(n:Nat)(e:Nat->Value)(ds:List eK)(todo:List Item):Frame:={fn,tmps:=tm n e,todo,defers:=ds,mode:=.run,kind:=kd.k,roundOf:=none}
def gr(fn:bN)(kd:Kd)(n:Nat)(e:Nat->Value)(ds:List eK)(todo:List Item)(cs:List Frame):aO:={frame:=aX fn kd n e ds todo,callers:=cs,status:=.running,dying:=none}
def rV(fn:bN)(kd:Kd)(n:Nat)(e:Nat->Value)(ds:List eK)(todo:List Item):Frame:={aX fn kd n e ds todo with mode:=.returning}
def sQ(fn:bN)(kd:Kd)(n:Nat)(e:Nat->Value)(ds:List eK)(todo:List Item)(cs:List Frame):aO:={frame:=rV fn kd n e ds todo,callers:=cs,status:=.running,dying:=none}
def fP(c:Frame)(cs:List Frame)(v:Value):aO:={frame:=c.finish v,callers:=cs,status:=.running,dying:=none}
def yK(c:Frame)(cs:List Frame):aO:={frame:=c,callers:=cs,status:=.running,dying:=none}
def jA(P:bT)(f:bN)(args:Array Value)(kd:Kd)(cs:List Frame):aO:={frame:=Frame.enter P f args kd.k,callers:=cs,status:=.running,dying:=none}
theorem wJ(fn:bN)(kd:Kd)(n:Nat)(e:Nat->Value)(ds:List eK)(todo:List Item):(aX fn kd n e ds todo).eval=ev n e:=by
 funext x
 cases x<;>simp only[Frame.eval,ev,aX];exact wI n e _
structure ab(P:bT)(ao:Bool)(B:lM)(R:Nat->aO->Array Obj->Prop):Prop where
 step:∀ d g H,g.status=.running->(∀ w:World,w.heap=H->∃ g' w' es,stepG P ao g w=.go g' w' es/\w'.os=w.os/\w'.output=w.output/\gK B H w'.heap/\(∀ e∈es,CU B w'.heap e)/\R (deafBehind d es) g' w'.heap)->R d g H
section
variable{P:bT}{ao:Bool}{B:lM}{R:Nat->aO->Array Obj->Prop}{d:Nat}{H:Array Obj}
variable{fn:bN}{kd:Kd}{n:Nat}{e:Nat->Value}{ds:List eK}{k:List Item}{cs:List Frame}
theorem ab.still(C:ab P ao B R){g g':aO}(hs:g.status=.running)(h:∀ w,stepG P ao g w=.go g' w #[])(b:R d g' H):R d g H:=
 C.step d g H hs λw a=>⟨g',w,#[],h w,rfl,rfl,a▸gK.refl _,by simp,by rw[deafBehind_nil,a];exact b⟩
theorem ab.skip(C:ab P ao B R)(h:R d (gr fn kd n e ds k cs) H):R d (gr fn kd n e ds (.code .skip::k) cs) H:=
 C.still rfl (λw=>by simp[gr,aX,stepG,stepG.exec]) h
theorem ab.label(C:ab P ao B R){l:Nat}(h:R d (gr fn kd n e ds k cs) H):R d (gr fn kd n e ds (.code (.label l)::k) cs) H:=
 C.still rfl (λw=>by simp[gr,aX,stepG,stepG.exec]) h
theorem ab.inBlock(C:ab P ao B R)(h:R d (gr fn kd n e ds k cs) H):R d (gr fn kd n e ds (.inBlock id::k) cs) H:=
 C.still rfl (λw=>by simp[gr,aX,stepG,stepG.exec]) h
theorem ab.inScope(C:ab P ao B R)(h:R d (gr fn kd n e ds k cs) H):R d (gr fn kd n e ds (.inScope c::k) cs) H:=
 C.still rfl (λw=>by simp[gr,aX,stepG,stepG.exec]) h
theorem ab.seq(C:ab P ao B R){x y:Code}(h:R d (gr fn kd n e ds (.code x:: .code y::k) cs) H):R d (gr fn kd n e ds (.code (.seq x y)::k) cs) H:=
 C.still rfl (λw=>by simp[gr,aX,stepG,stepG.exec]) h
theorem ab.block(C:ab P ao B R)(h:R d (gr fn kd n e ds (.code c:: .inBlock id::k) cs) H):R d (gr fn kd n e ds (.code (.block id c)::k) cs) H:=
 C.still rfl (λw=>by simp[gr,aX,stepG,stepG.exec]) h
theorem ab.loop(C:ab P ao B R)(h:R d (gr fn kd n e ds (.code c:: .inLoop c::k) cs) H):R d (gr fn kd n e ds (.code (.loop c)::k) cs) H:=
 C.still rfl (λw=>by simp[gr,aX,stepG,stepG.exec]) h
theorem ab.inLoop(C:ab P ao B R)(h:R d (gr fn kd n e ds (.code c:: .inLoop c::k) cs) H):R d (gr fn kd n e ds (.inLoop c::k) cs) H:=
 C.still rfl (λw=>by simp[gr,aX,stepG,stepG.exec]) h
theorem ab.scope(C:ab P ao B R)(h:R d (gr fn kd n e ds (.code c:: .inScope c::k) cs) H):R d (gr fn kd n e ds (.code (.scope c)::k) cs) H:=
 C.still rfl (λw=>by simp[gr,aX,stepG,stepG.exec]) h
theorem ab.exit(C:ab P ao B R)(hx:exitTo id k=some k')(h:R d (gr fn kd n e ds k' cs) H):R d (gr fn kd n e ds (.code (.exit id)::k) cs) H:=
 C.still rfl (λw=>by simp[gr,aX,stepG,stepG.exec,hx]) h
theorem ab.cond(C:ab P ao B R){c:dp}{x y:Code}{t:Bool}(hc:ev n e c=.bool t)(h:R d (gr fn kd n e ds (.code (if t then x else y)::k) cs) H):R d (gr fn kd n e ds (.code (.cond c x y)::k) cs) H:=
 C.still rfl (λw=>by have:=wJ fn kd n e ds<|.code (.cond c x y)::k;simp only[aX]at this;simp[gr,aX,stepG,stepG.exec,this,hc]) h
theorem ab.region(C:ab P ao B R)(h:R d (gr fn kd n e ds (.inRegion O (List.range O.size)::k) cs) H):R d (gr fn kd n e ds (.code (.region id O false)::k) cs) H:=
 C.still rfl (λw=>by simp[gr,aX,stepG,stepG.exec]) h
theorem ab.NZ(C:ab P ao B R)(h:R d (gr fn kd n e ds k cs) H):R d (gr fn kd n e ds (.inRegion O []::k) cs) H:=
 C.still rfl (λw=>by simp[gr,aX,stepG,stepG.exec]) h
theorem ab.draw(C:ab P ao B R)(h:∀ t,R d (gr fn kd n e ds (.inRegion O (Region.schedule (P.follows .mixedOrders) O t)::k) cs) H):R d (gr fn kd n e ds (.code (.region id O true)::k) cs) H:=
 C.step d _ H rfl λw a=>⟨_,{w with drawn:=w.drawn+1},#[],by simp[gr,aX,stepG,stepG.exec,choose,Sem.run,Question.forced,Question.cut];rfl,rfl,rfl,a▸gK.refl _,by simp,by rw[deafBehind_nil];show R d _ w.heap;rw[a];exact h _⟩
theorem ab.ret(C:ab P ao B R)(h:R d (sQ fn kd n e ds (.code .ret::k) cs) H):R d (gr fn kd n e ds (.code .ret::k) cs) H:=
 C.still rfl (λw=>by simp[gr,sQ,rV,aX,stepG,stepG.exec]) h
theorem ab.fin(C:ab P ao B R)(h:R d (sQ fn kd n e ds [] cs) H):R d (gr fn kd n e ds [] cs) H:=
 C.still rfl (λw=>by simp[gr,sQ,rV,aX,stepG,stepG.exec]) h
theorem qd{es:Array Event}{fn:bN}(h:∀ e∈es,CU B H e):(∀ e∈seen P fn es,CU B H e)/\deafBehind d (seen P fn es)=deafBehind d es:=by
 refine⟨λe i=>h e<|mem_seen i,?_⟩;rw[seen_def];have key:∀ (b:bN->Bool) (l:List Event) (q:Bool) (a:Array Event),(∀ e∈l,CU B H e)->deafBehind d (l.foldl (seenStep b) (q,a)).2=deafBehind (deafBehind d a) l.toArray:=by
  intro b l
  induction l with
  |nil=>intro q a _;simp[deafBehind_nil]
  |cons x l k=>
   intro q a hl;have m:=hl x<|fX ..;have n:∀ e∈l,CU B H e:=λe i=>hl e<|fg _ i;rw[qQ,Go.ConcR.deafBehind_cons];obtain⟨c,wr,g⟩:=x;by_cases o:∃ f,c=.mark (.extern f)
   .obtain⟨f,rfl⟩:=o;simp only[seenStep];rw[k _ _ n,Go.ConcR.deafBehind_one (by simp)<|by simp]
   .have r:seenStep b (q,a) ⟨c,wr,g⟩=(q,if q&& !g then a else a.push ⟨c,wr,g⟩):=by
     unfold seenStep;simp only;split
     .rename_i f;exact absurd ⟨_,rfl⟩ o
     .rfl
    rw[r,k _ _ n];by_cases j:(q&& !g)=true
    .rw[aJ j];have p:g=false:=by revert j;cases q<;>cases g<;>simp
     have h1:c≠ .mark .disable:=λz=>by subst z;simp[CU,p]at m
     have s:c≠ .mark .enable:=λz=>by subst z;simp[CU,p]at m
     rw[Go.ConcR.deafBehind_one h1 s]
    .rw[ax j];have:a.push ⟨c,wr,g⟩=a++#[⟨c,wr,g⟩]:=by simp
     rw[this,gm]
 have:=key (λf=>(P.funcs[f]?).any (·.norace)) es.toList ((P.funcs[fn]?).any (·.norace)) #[] λe i=>h e<|E3.1 i;rw[this,deafBehind_nil]
def upon(P:bT)(R:Nat->aO->Array Obj->Prop)(fn:bN)(kd:Kd)(n:Nat)(e:Nat->Value)(ds:List eK)(O:Array Oper)(i:Nat)(aa:List Nat)(k:List Item)(cs:List Frame)(dst:Option Nat)(d:Nat)(H:Array Obj):Next->Prop
 |.value v=>R d (gr fn kd n (dD e dst v) ds (.inRegion O aa::k) cs) H
 |.skip=>R d (gr fn kd n (dD e dst undef) ds (.inRegion O aa::k) cs) H
 |.enter f args=>R d (jA P f args .rU<|aX fn kd n e ds (.inRegion O (i::aa)::k)::cs) H
 |.defer x=>R d (gr fn kd n (dD e dst undef) (x::ds) (.inRegion O aa::k) cs) H
 |_=>False
theorem cF(a:O[i]? =some o)(v:Value):(aX fn kd n e ds<|.inRegion O (i::aa)::k).finish v=aX fn kd n (dD e o.dst v) ds (.inRegion O aa::k):=by
 unfold Frame.finish aX;simp only[a,Ai];cases o.dst with
 |none=>rfl
 |some t=>simp only[R1,dD]
theorem ab.op(C:ab P ao B R)(f:O[i]? =some o)(t:Region.wanted o (yielded O<|tm n e)=true)
  (h:dQ P B (execOp (ev n e) o) H d λx u q=>upon P R fn kd n e ds O i aa k cs o.dst q u x):R d (gr fn kd n e ds (.inRegion O (i::aa)::k) cs) H:=by
 refine C.step d _ H rfl λw v=>?_;obtain⟨x,w',es,q,a,g,j,l,y,z,b⟩:=qc (w:=w) #[] v h;have m:=kd.early;obtain⟨p,c⟩:=qd (P:=P) (d:=d) (fn:=fn) y;rw[z]at c;have A:stepG P ao (gr fn kd n e ds (.inRegion O (i::aa)::k) cs) w=stepG.apply P true (aX fn kd n e ds<|.inRegion O (i::aa)::k) cs none (execOp (ev n e) o) w:=by have r:=wJ fn kd n e ds<|.inRegion O (i::aa)::k;simp only[aX]at r;simp[gr,aX,stepG,stepG.exec,stepG.oper,Frame.oper?,f,t,r]
 simp only[zj,CL]at a;rw[A];cases x<;>first|exact b.elim|skip
 .refine⟨_,w',seen P fn es,?_,g,j,l,p,by rw[c];exact b⟩;simp only[stepG.apply,a,fq];rw[cF f];simp[aX,m,GStep.after,gr]
 .refine⟨_,w',seen P fn es,?_,g,j,l,p,by rw[c];exact b⟩;simp only[stepG.apply,a,fq];rw[cF f];simp[aX,m,GStep.after,gr]
 .refine⟨_,w',seen P fn es,?_,g,j,l,p,by rw[c];exact b⟩;simp only[stepG.apply,a,fq];simp[aX,m,GStep.after,jA];rfl
 .refine⟨_,w',seen P fn es,?_,g,j,l,p,by rw[c];exact b⟩;rename_i x;have s:=cF (fn:=fn) (kd:=kd) (n:=n) (e:=e) (ds:=x::ds) (k:=k) (aa:=aa) f undef;simp only[aX]at s;simp only[stepG.apply,a,fq,aX];rw[s];simp[aX,m,GStep.after,gr]
theorem ab.aab(C:ab P ao B R)(a:O[i]? =some o)(c:Region.wanted o (yielded O<|tm n e)=false)
  (h:R d (gr fn kd n (dD e o.dst undef) ds (.inRegion O aa::k) cs) H):R d (gr fn kd n e ds (.inRegion O (i::aa)::k) cs) H:=by
 refine C.still rfl (λw=>?_) h;have b:=cF (fn:=fn) (kd:=kd) (n:=n) (e:=e) (ds:=ds) (k:=k) (aa:=aa) a undef;simp only[aX]at b;simp only[gr,aX,stepG,stepG.exec,a,lQ,iG,c,fW,eQ,b]
theorem nZ{f:bN}(hf:P.funcs[f]? =some fu)(a:fu.body=some c)(b:args.size<=fu.ntmps):jA P f args kd cs=gr f kd fu.ntmps (AH args) [] [.code c] cs:=by unfold jA gr Frame.enter aX;simp only[hf,lQ,iG,Ai,a,JX _ _ b]
theorem ab.back(C:ab P ao B R){c:Frame}(hf:P.funcs[fn]? =some fu)(h:dQ P B (results fu<|tm n e) H d λv g a=>R a (fP c cs v) g):R d (sQ fn .rU n e [] todo<|c::cs) H:=by refine C.step d _ H rfl λw i=>?_;obtain⟨x,w',es,a,b,j,k,l,m,o,p⟩:=qc (w:=w) #[] i h;obtain⟨q,f⟩:=qd (P:=P) (d:=d) (fn:=fn) m;rw[o]at f;refine⟨_,w',seen P fn es,?_,j,k,l,q,by rw[f];exact p⟩;simp only[zj,CL]at b;simp only[sQ,rV,aX,stepG,unwind,hf,b,doReturn,Kd.k];simp[GStep.after,fP]
theorem ab.Mq(C:ab P ao B R){c:Frame}(hm:c.mode=.returning)(hf:P.funcs[fn]? =some fu)(h:dQ P B (results fu<|tm n e) H d λv g a=>R a (yK c cs) g):R d (sQ fn .qJ n e [] todo<|c::cs) H:=by refine C.step d _ H rfl λw i=>?_;obtain⟨x,w',es,a,b,j,k,l,m,o,p⟩:=qc (w:=w) #[] i h;obtain⟨q,f⟩:=qd (P:=P) (d:=d) (fn:=fn) m;rw[o]at f;refine⟨_,w',seen P fn es,?_,j,k,l,q,by rw[f];exact p⟩;simp only[zj,CL]at b;simp only[sQ,rV,aX,stepG,unwind,hf,b,doReturn,hm,Kd.k];simp[GStep.after,yK]
theorem ab.V2(C:ab P ao B R){x:eK}{f:bN}{args:Array Value}(hx:x.target=.fn (.func f) #[]\/∃ cap,x.target=.fn (.func f) cap)
  (h:dQ P B (invoke x.target x.args) H d λy g a=>∃ f args,y=.enter f args/\R a (jA P f args .qJ<|rV fn kd n e ds todo::cs) g):R d (sQ fn kd n e (x::ds) todo cs) H:=by
 refine C.step d _ H rfl λw i=>?_;obtain⟨y,w',es,a,b,j,k,l,m,o,s,t,rfl,p⟩:=qc (w:=w) #[] i h;obtain⟨q,c⟩:=qd (P:=P) (d:=d) (fn:=fn) m;rw[o]at c;refine⟨_,w',seen P fn es,?_,j,k,l,q,by rw[c];exact p⟩;simp only[zj,CL]at b;obtain⟨r,ar⟩:=x;have:∃ cap,r=.fn (.func f) cap:=hx.elim (λz=>⟨_,z⟩) id;obtain⟨cap,rfl⟩:=this;simp only[sQ,rV,aX,stepG,unwind,callDeferred,b];simp[GStep.after,jA,Kd.k]
end
end
section
open Go.Conc
abbrev HL:=Nat->Option Obj
abbrev HP:=HL->Prop
def hp(H:Array Obj):HL:=λb=>H[b]?
def Sub(h h':HL):Prop:=∀ b o,h b=some o->h' b=some o
def less(h h1:HL):HL:=λb=>if(h1 b).isSome then none else h b
def Sat:List HP->HL->Prop
 |[],_=>True
 |A::As,h=>∃ h1,A h1/\Sub h1 h/\Sat As (less h h1)
def one(b:Nat)(o:Obj):HL:=λi=>if i=b then some o else none
def dq(b:Nat)(o:Obj):HP:=λh=>h=one b o
def bI(I:HL):HP:=λh=>h=I
def all(l:List HP):HP:=Sat l
theorem Sub.refl(h:HL):Sub h h:=λ_ _ x=>x
theorem Sub.trans{a b c:HL}(h:Sub a b)(k:Sub b c):Sub a c:=λi o x=>k i o<|h i o x
theorem oe{h h1:HL}:Sub (less h h1) h:=λb o x=>by unfold less at x;split at x<;>simp_all
theorem DG{h h' h1:HL}(s:Sub h h'):Sub (less h h1) (less h' h1):=λb o x=>by
 unfold less at x⊢;split at x
 .cases x
 .rename_i z;rw[ax z];exact s _ _ x
theorem Sat.mono{As:List HP}:∀ {h h':HL},Sub h h'->Sat As h->Sat As h':=by
 induction As with
 |nil=>exact λ_ _=>trivial
 |cons A As b=>
  rintro h h' s ⟨h1,a,c,r⟩;exact⟨h1,a,c.trans s,b (DG s) r⟩
theorem R2{h h1 a:HL}(c:Sub h1 h)(d:Sub a (less h h1)):Sub h1 (less h a):=λb o x=>by
 unfold less;cases e:a b with
 |none=>simp;exact c _ _ x
 |some f=>have:=d _ _ e;unfold less at this;rw[x]at this;simp at this
theorem N3(h h1 a:HL):less (less h h1) a=less (less h a) h1:=by funext b;unfold less;cases h1 b<;>cases a b<;>rfl
theorem Sat.swap{A B:HP}{As:List HP}{h:HL}(s:Sat (A::B::As) h):Sat (B::A::As) h:=by obtain⟨h1,a,d,e,b,c,r⟩:=s;exact⟨e,b,c.trans oe,h1,a,R2 d c,by rw[N3];exact r⟩
theorem Sat.perm{As Bs:List HP}(p:As.Perm Bs):∀ {h:HL},Sat As h->Sat Bs h:=by
 induction p with
 |nil=>exact id
 |cons x _ b=>rintro h ⟨h1,a,c,r⟩;exact⟨h1,a,c,b r⟩
 |swap x y l=>exact λs=>Sat.swap s
 |trans _ _ d e=>exact λs=>e<|d s
theorem Sat.drop{A:HP}{As:List HP}{h:HL}(s:Sat (A::As) h):Sat As h:=by obtain⟨h1,a,b,r⟩:=s;exact r.mono oe
theorem Sat.imp{A B:HP}{As:List HP}{h:HL}(f:∀ h,A h->B h)(s:Sat (A::As) h):Sat (B::As) h:=by obtain⟨h1,a,b,r⟩:=s;exact⟨h1,f _ a,b,r⟩
theorem Sat.ex{A:X->HP}{As:List HP}{h:HL}(s:Sat ((λh=>∃ x,A x h)::As) h):∃ x,Sat (A x::As) h:=by obtain⟨h1,⟨x,a⟩,b,r⟩:=s;exact⟨x,h1,a,b,r⟩
theorem Sat.pure{A:HP}{As:List HP}{h:HL}(s:Sat ((λh=>p/\A h)::As) h):p/\Sat (A::As) h:=by obtain⟨h1,⟨x,a⟩,b,r⟩:=s;exact⟨x,h1,a,b,r⟩
theorem JY{h h1 a:HL}(s:Sub a h1):less (less h a) (less h1 a)=less h h1:=by
 funext b
 unfold less;cases e2:a b with
 |none=>simp
 |some o=>rw[s _ _ e2];simp
theorem Sat.flat{l As:List HP}:∀ {h:HL},Sat (all l::As) h->Sat (l++As) h:=by
 induction l with
 |nil=>rintro h ⟨h1,a,c,r⟩;exact r.mono oe
 |cons B l f=>
  rintro h ⟨h1,⟨d,b,e,g⟩,c,r⟩;refine⟨d,b,e.trans c,f ⟨less h1 d,g,DG c,?_⟩⟩;rw[JY e];exact r
def JE(h1 h2:HL):HL:=λb=>(h1 b).or<|h2 b
theorem Sat.je{l As:List HP}:∀ {h:HL},Sat (l++As) h->Sat (all l::As) h:=by
 induction l with
 |nil=>intro h s;exact⟨λ_=>none,trivial,λ_ _ x=>(by cases x),(by
   have:less h (λ_=>none)=h:=by funext b;simp[less]
   rw[this];exact s)⟩
 |cons B l f=>
  rintro h ⟨c,b,g,r⟩;obtain⟨h1,a,d,j⟩:=f r;have k:Sub c (JE c h1):=λi o x=>by unfold JE;rw[x];rfl
  have hl:less (JE c h1) c=h1:=by
   funext i
   unfold less JE;cases e:c i with
   |none=>simp
   |some o=>
    simp;cases m:h1 i with
    |none=>rfl
    |some n=>have:=d _ _ m;unfold less at this;rw[e]at this;simp at this
  refine⟨JE c h1,⟨c,b,k,by rw[hl];exact a⟩,λi o x=>?_,?_⟩
  .unfold JE at x;cases e:c i with
   |none=>rw[e]at x;exact oe _ _<|d _ _<|by simpa using x
   |some n=>rw[e]at x;simp at x;subst x;exact g _ _ e
  .have:less h (JE c h1)=less (less h c) h1:=by funext i;unfold less JE;cases c i<;>cases h1 i<;>rfl
   rw[this];exact j
theorem Sat.under{A:HP}{As Bs:List HP}{h:HL}(f:∀ h,Sat As h->Sat Bs h)(s:Sat (A::As) h):Sat (A::Bs) h:=by obtain⟨h1,a,b,r⟩:=s;exact⟨h1,a,b,f _ r⟩
theorem Sat.get{o:Obj}{As:List HP}{h:HL}(s:Sat (dq b o::As) h):h b=some o:=by obtain⟨h1,rfl,a,r⟩:=s;exact a b o<|by simp[one]
theorem Sat.sR{I:HL}{As:List HP}{h:HL}(s:Sat (bI I::As) h){o:Obj}(e:I b=some o):h b=some o:=by obtain⟨h1,rfl,a,r⟩:=s;exact a b o e
theorem JZ{H:Array Obj}{o:Obj}(h:b≠H.size):hp (H.push o) b=hp H b:=by
 unfold hp;rcases lP b H.size with h'|h'
 .rw[ZI h',Gu h']
 .have:H.size<b:=ai;have h1:(H.push o).size<=b:=by rw[NP];omega
  rw[JL h1,JL h']
theorem Ff{H:Array Obj}{o:Obj}:hp (H.push o) H.size=some o:=by unfold hp;simp
theorem V3{H:Array Obj}(h:H.size<=b):hp H b=none:=by unfold hp;exact JL h
theorem Sat.push{As:List HP}{H:Array Obj}(o:Obj)(s:Sat As (hp H)):Sat (dq H.size o::As) (hp<|H.push o):=by
 refine⟨one H.size o,rfl,λb x e=>?_,s.mono λb x e=>?_⟩
 .unfold one at e;split at e
  .rename_i z;subst z;cases e;exact Ff
  .cases e
 .have a:b≠H.size:=λz=>by subst z;rw[V3 (fC _)]at e;cases e
  unfold less one;rw[ax a];simp;rw[JZ a];exact e
theorem Sat.set{o o':Obj}{As:List HP}{H:Array Obj}(s:Sat (dq b o::As) (hp H)):Sat (dq b o'::As) (hp<|H.setIfInBounds b o'):=by
 have a:=s.get;have c:b<H.size:=(iF.1 a).1;obtain⟨h1,rfl,d,r⟩:=s;have hs:hp (H.setIfInBounds b o') b=some o':=by unfold hp;exact lh c
 refine⟨one b o',rfl,λi x e=>?_,?_⟩
 .unfold one at e;split at e
  .rename_i z;subst z;cases e;exact hs
  .cases e
 .have:less (hp<|H.setIfInBounds b o') (one b o')=less (hp H) (one b o):=by
   funext i
   unfold less one;by_cases z:i=b
   .simp[z]
   .simp only[ax z,GI];unfold hp;rw[ir (j6 z)]
  rw[this];exact r
theorem Sat.freeze{o:Obj}{I:HL}{As:List HP}{h:HL}(s:Sat (dq b o::bI I::As) h):Sub I (JE I<|one b o)/\Sat (bI (JE I<|one b o)::As) h:=by
 obtain⟨h1,rfl,d,a,rfl,c,r⟩:=s;have f:a b=none:=by
  cases e:a b with
  |none=>rfl
  |some x=>have:=c _ _ e;unfold less one at this;simp at this
 refine⟨λi x e=>by unfold JE;rw[e];rfl,JE a<|one b o,rfl,λi x e=>?_,?_⟩
 .unfold JE at e;cases e2:a i with
  |some y=>rw[e2]at e;simp at e;subst e;exact oe _ _<|c _ _ e2
  |none=>rw[e2]at e;simp at e;exact d _ _ e
 .have:less h (JE a<|one b o)=less (less h<|one b o) a:=by funext i;unfold less JE;cases a i<;>cases(one b o) i<;>rfl
  rw[this];exact r
inductive Has(b:Nat)(o:Obj):List HP->Prop
 |head {As:List HP}:Has b o (dq b o::As)
 |tail {A:HP} {As:List HP}:Has b o As->Has b o (A::As)
inductive sT(b:Nat)(o o':Obj):List HP->List HP->Prop
 |head {As:List HP}:sT b o o' (dq b o::As) (dq b o'::As)
 |tail {A:HP} {As aT:List HP}:sT b o o' As aT->sT b o o' (A::As) (A::aT)
theorem Has.get{b:Nat}{o:Obj}{As:List HP}(x:Has b o As):∀ {h:HL},Sat As h->h b=some o:=by
 induction x with
 |head=>exact λs=>s.get
 |tail _ a=>exact λs=>a s.drop
def Kn(As:List HP)(b:Nat)(o:Obj):Prop:=∀ h,Sat As h->h b=some o
def Ext(As mL:List HP):Prop:=∀ h,Sat As h->Sat mL h
inductive J0(W:List HP):List HP->List HP->Prop
 |refl {As:List HP}:J0 W As As
 |cons {X:HP} {As:List HP}:J0 W (X::As) As
 |of {aT As:List HP}:Ext aT W->J0 W aT As
theorem Has.kn{o:Obj}{As:List HP}(x:Has b o As):Kn As b o:=λ_ s=>x.get s
theorem Ext.kn{o:Obj}{As mL:List HP}(e:Ext As mL)(x:Has b o mL):Kn As b o:=λ_ s=>x.get<|e _ s
theorem J0.ext{W As aT:List HP}(x:J0 W aT As)(e:Ext As W):Ext aT W:=by
 cases x with
 |refl=>exact e
 |cons=>exact λh s=>e h s.drop
 |of h=>exact h
theorem sT.has{o o':Obj}{As aT:List HP}(x:sT b o o' As aT):Has b o As:=by
 induction x with
 |head=>exact .head
 |tail _ a=>exact .tail a
theorem sT.perm{o o':Obj}{As aT:List HP}(x:sT b o o' As aT):∃ L,As.Perm (dq b o::L)/\aT.Perm (dq b o'::L):=by
 induction x with
 |@head As=>exact⟨As,.refl _,.refl _⟩
 |@tail A As aT _ a=>
  obtain⟨L,h1,c⟩:=a;exact⟨A::L,(h1.cons A).trans<|.swap _ _ _,(c.cons A).trans<|.swap _ _ _⟩
theorem sT.set{b:Nat}{o o':Obj}{As aT:List HP}(x:sT b o o' As aT){H:Array Obj}(s:Sat As (hp H)):Sat aT (hp<|H.setIfInBounds b o'):=by obtain⟨L,h1,a⟩:=x.perm;exact(s.perm h1).set.perm a.symm
def At(R:Nat->aO->Array Obj->Prop)(d:Nat)(As:List HP)(g:aO):Prop:=∀ H,Sat As (hp H)->R d g H
variable{R:Nat->aO->Array Obj->Prop}{d:Nat}{As Bs:List HP}{g:aO}
theorem At.perm(p:As.Perm Bs)(h:At R d Bs g):At R d As g:=λH s=>h H<|s.perm p
theorem At.flat{l:List HP}(h:At R d (l++As) g):At R d (all l::As) g:=λH s=>h H s.flat
theorem At.je{l:List HP}(h:At R d (all l::As) g):At R d (l++As) g:=λH s=>h H s.je
theorem At.freeze{b:Nat}{o:Obj}{I:HL}(h:∀ I',Sub I I'->I' b=some o->At R d (bI I'::As) g):At R d (dq b o::bI I::As) g:=λH s=>
 have z:=s.freeze
 h _ z.1 (by
  obtain⟨h1,rfl,f,a,rfl,c,r⟩:=s;unfold JE;cases e:a b with
  |none=>simp[one]
  |some x=>have:=c _ _ e;unfold less one at this;simp at this) H z.2
theorem Has.au{o:Obj}{L:List HP}(h:Has b o L:=by(repeat(first|with_reducible exact Has.head|with_reducible apply Has.tail));done):Has b o L:=h
def V4:List Oper->Nat->Option Oper
 |[],_=>none
 |o::_,0=>some o
 |_::l,i+1=>V4 l i
def bk(O:Array Oper)(i:Nat):Option Oper:=V4 O.toList i
theorem Mr:∀ (l:List Oper) (i:Nat),l[i]? =V4 l i
 |[],_=>rfl
 |o::_,0=>rfl
 |_::l,i+1=>by rw[VM];exact Mr l i
theorem dJ(O:Array Oper)(i:Nat):O[i]? =bk O i:=by unfold bk;rw[<- Mr];simp
def cL:Code->Code|.seq a _=>a|c=>c
def cR:Code->Code|.seq _ b=>b|c=>c
def cT:Code->Code|.cond _ a _=>a|c=>c
def cE:Code->Code|.cond _ _ b=>b|c=>c
def cC:Code->dp|.cond x _ _=>x|_=>.tmp 0
def cB:Code->Code|.block _ c=>c|.loop c=>c|.scope c=>c|c=>c
def cI:Code->Nat|.block i _=>i|.exit i=>i|.region i _ _=>i|_=>0
def cO:Code->Array Oper|.region _ O _=>O|_=>#[]
inductive CK where
 |skip|label|seq|cond|block|loop|scope|exit|region|draw|ret|other
def ck:Code->CK
 |.skip=>.skip|.label _=>.label|.seq .. =>.seq|.cond .. =>.cond|.block .. =>.block|.loop _=>.loop|.scope _=>.scope|.exit _=>.exit
 |.region _ _ false=>.region|.region _ _ true=>.draw|.ret=>.ret|_=>.other
theorem gv{x:CK}(h:ck c=x):match x with
  |.skip=>c=.skip
  |.label=>∃ l,c=.label l
  |.seq=>c=.seq (cL c) (cR c)
  |.cond=>c=.cond (cC c) (cT c) (cE c)
  |.block=>c=.block (cI c) (cB c)
  |.loop=>c=.loop (cB c)
  |.scope=>c=.scope (cB c)
  |.exit=>c=.exit (cI c)
  |.region=>c=.region (cI c) (cO c) false
  |.draw=>c=.region (cI c) (cO c) true
  |.ret=>c=.ret
  |.other=>True:=by
 subst h;cases c<;>first|rfl|exact⟨_,rfl⟩|trivial|skip
 rename_i a b d;cases d<;>rfl
def ctl:Nat->List Item->List Item
 |0,k=>k
 |n+1,k=>match k with
  |.inBlock _::k|.inScope _::k|.inRegion _ []::k=>ctl n k
  |.code c::k=>match ck c with
   |.skip|.label=>ctl n k
   |.seq=>ctl n<|.code (cL c):: .code (cR c)::k
   |.block=>ctl n<|.code (cB c):: .inBlock (cI c)::k
   |.scope=>ctl n<|.code (cB c):: .inScope (cB c)::k
   |.exit=>match exitTo (cI c) k with|some k'=>ctl n k'|none=>.code c::k
   |_=>.code c::k
  |k=>k
def sV(e:Nat->Value):List (Nat×Value)->Nat->Value
 |[]=>e
 |(i,v)::l=>put (sV e l) i v
def kM(e:Nat->Value):List (Nat×Value)->Prop
 |[]=>True
 |(i,v)::l=>e i=v/\kM e l
theorem kX{e:Nat->Value}:∀ {l:List (Nat×Value)},kM e l->sV e l=e
 |[],_=>rfl
 |(i,v)::l,h=>by
  unfold sV;rw[kX h.2]
  funext j
  unfold put;by_cases z:j=i
  .subst z;simp[h.1]
  .simp[z]
def J3(O:Array Oper)(n:Nat)(e:Nat->Value)(j:Nat):Option Bool:=
 match bk O j with
 |some o=>match o.dst with
  |some t=>if t<n then(match e t with|.bool b=>some b|_=>none)else none
  |none=>none
 |none=>none
def aN(O:Array Oper)(n:Nat)(e:Nat->Value):Option (Nat×Bool)->Bool
 |none=>true
 |some (j,w)=>J3 O n e j==some w
theorem eU(O:Array Oper)(n:Nat)(e:Nat->Value)(o:Oper):Region.wanted o (yielded O<|tm n e)=aN O n e o.guard:=by
 unfold Region.wanted aN;cases o.guard with
 |none=>rfl
 |some p=>
  obtain⟨j,w⟩:=p;simp only;have:yielded O (tm n e) j=J3 O n e j:=by
   unfold yielded J3;rw[dJ];cases bk O j with
   |none=>rfl
   |some b=>
    simp only[Ai];cases b.dst with
    |none=>rfl
    |some t=>
     simp only[Ai,AJ];by_cases a:t<n
     .simp only[aJ a];generalize e t=v;cases v<;>rfl
     .simp[a]
  rw[this]
variable{P:bT}{ao:Bool}{B:lM}
variable{fn:bN}{kd:Kd}{n:Nat}{e:Nat->Value}{ds:List eK}{k:List Item}{cs:List Frame}
theorem ab.gX(C:ab P ao B R):∀ (m:Nat) (k:List Item),At R d As (gr fn kd n e ds (ctl m k) cs)->At R d As (gr fn kd n e ds k cs)
 |0,_,h=>h
 |m+1,k,h=>by
  intro H s;unfold ctl at h;split at h
  .exact C.inBlock<|C.gX m _ h H s
  .exact C.inScope<|C.gX m _ h H s
  .exact C.NZ<|C.gX m _ h H s
  .rename_i c k';split at h
   .rename_i a;have:=gv a;simp only at this;rw[this];exact C.skip<|C.gX m _ h H s
   .rename_i a;obtain⟨l,e⟩:=gv a;rw[e];exact C.label<|C.gX m _ h H s
   .rename_i a;have:=gv a;simp only at this;rw[this];exact C.seq<|C.gX m _ h H s
   .rename_i a;have:=gv a;simp only at this;rw[this];exact C.block<|C.gX m _ h H s
   .rename_i a;have:=gv a;simp only at this;rw[this];exact C.scope<|C.gX m _ h H s
   .rename_i a;split at h
    .rename_i b f;have:=gv a;simp only at this;rw[this];exact C.exit f<|C.gX m _ h H s
    .exact h H s
   .exact h H s
  .exact h H s
theorem ab.go(C:ab P ao B R)(h:At R d As (gr fn kd n e ds k' cs))(a:ctl 60 k=k':=by conv=>{lhs;whnf}):At R d As (gr fn kd n e ds k cs):=C.gX 60 k<|a▸h
theorem ab.cT'(C:ab P ao B R)(h:At R d As (gr fn kd n e ds (.code (cT c)::k) cs))(hc:ck c=.cond:=by rfl)(a:ev n e (cC c)=.bool true:=by rfl):At R d As (gr fn kd n e ds (.code c::k) cs):=λH s=>by have z:=gv hc;simp only at z;rw[z];exact C.cond a<|h H s
theorem ab.cF'(C:ab P ao B R)(h:At R d As (gr fn kd n e ds (.code (cE c)::k) cs))(hc:ck c=.cond:=by rfl)(a:ev n e (cC c)=.bool false:=by rfl):At R d As (gr fn kd n e ds (.code c::k) cs):=λH s=>by have z:=gv hc;simp only at z;rw[z];exact C.cond a<|h H s
theorem ab.N4(C:ab P ao B R)(h:At R d As (gr fn kd n e ds k' cs))(hc:ck c=.cond:=by rfl)(a:ev n e (cC c)=.bool true:=by rfl)(b:ctl 60 (.code (cT c)::k)=k':=by conv=>{lhs;whnf}):At R d As (gr fn kd n e ds (.code c::k) cs):=C.cT' (C.go h b) hc a
theorem ab.Fg(C:ab P ao B R)(h:At R d As (gr fn kd n e ds k' cs))(hc:ck c=.cond:=by rfl)(a:ev n e (cC c)=.bool false:=by rfl)(b:ctl 60 (.code (cE c)::k)=k':=by conv=>{lhs;whnf}):At R d As (gr fn kd n e ds (.code c::k) cs):=C.cF' (C.go h b) hc a
theorem ab.rg(C:ab P ao B R)(l:List Nat)(h:At R d As (gr fn kd n e ds (.inRegion (cO c) l::k) cs))(hc:ck c=.region:=by rfl)(hl:List.range (cO c).size=l:=by rfl):At R d As (gr fn kd n e ds (.code c::k) cs):=λH s=>by subst hl;have z:=gv hc;simp only at z;rw[z];exact C.region<|h H s
theorem ab.dr(C:ab P ao B R)(h:∀ t,At R d As<|gr fn kd n e ds (.inRegion (cO c) (Region.schedule (P.follows .mixedOrders) (cO c) t)::k) cs)(hc:ck c=.draw:=by rfl):At R d As (gr fn kd n e ds (.code c::k) cs):=λH s=>by have z:=gv hc;simp only at z;rw[z];exact C.draw λt=>h t H s
theorem ab.lp(C:ab P ao B R)(h:At R d As (gr fn kd n e ds (.code (cB c):: .inLoop (cB c)::k) cs))(hc:ck c=.loop:=by rfl):At R d As (gr fn kd n e ds (.code c::k) cs):=λH s=>by have z:=gv hc;simp only at z;rw[z];exact C.loop<|h H s
theorem ab.ilp(C:ab P ao B R)(h:At R d As (gr fn kd n e ds (.code c:: .inLoop c::k) cs)):At R d As (gr fn kd n e ds (.inLoop c::k) cs):=λH s=>C.inLoop<|h H s
theorem ab.aed(C:ab P ao B R)(L:X->List (Nat×Value))(I:X->List HP)(Ok:X->Prop)(m:X->Nat)(x0:X)(b:kM e (L x0))(hI:As=I x0)(f:Ok x0)
  (step:∀ x e,Ok x->(∀ y a,kM a (L y)->Ok y->m y<m x->At R d (I y) (gr fn kd n a ds (.inLoop (cB c)::k) cs))->At R d (I x) (gr fn kd n (sV e<|L x) ds (.code (cB c):: .inLoop (cB c)::k) cs))
  (hc:ck c=.loop:=by rfl):At R d As (gr fn kd n e ds (.code c::k) cs):=by
 have key:∀ (N:Nat) (x:X) (e:Nat->Value),m x=N->kM e (L x)->Ok x->At R d (I x) (gr fn kd n e ds (.inLoop (cB c)::k) cs):=by
  intro N
  induction N using Nat.strongRecOn with
  |ind N i=>
   intro x e l b f;refine C.ilp ?_;rw[<- kX b];exact step x e f λy a g h j=>i (m y) ai y a rfl g h
 refine C.lp ?_ hc;subst hI;rw[<- kX b];exact step x0 e f λy a g h j=>key _ y a rfl g h
def aee(P:bT)(R:Nat->aO->Array Obj->Prop)(fn:bN)(kd:Kd)(n:Nat)(e:Nat->Value)(ds:List eK)(O:Array Oper)(i:Nat)(aa:List Nat)(k:List Item)(cs:List Frame)(dst:Option Nat)(As:List HP)(d:Nat):Next->Prop
 |.value v=>At R d As<|gr fn kd n (dD e dst v) ds (.inRegion O aa::k) cs
 |.skip=>At R d As<|gr fn kd n (dD e dst undef) ds (.inRegion O aa::k) cs
 |.enter f args=>At R d As<|jA P f args .rU<|aX fn kd n e ds (.inRegion O (i::aa)::k)::cs
 |.defer x=>At R d As<|gr fn kd n (dD e dst undef) (x::ds) (.inRegion O aa::k) cs
 |_=>False
variable{O:Array Oper}{i:Nat}{aa:List Nat}{dst:Option Nat}{t:Nat}{ty:aP}{pos:String}{af:Array Edge}{gd:Option (Nat×Bool)}
theorem ab.gen(C:ab P ao B R)(c:bk O i=some o)(f:aN O n e o.guard=true)
  (h:∀ H,Sat As (hp H)->dQ P B (execOp (ev n e) o) H d λx a b=>∃ aT,Sat aT (hp a)/\aee P R fn kd n e ds O i aa k cs o.dst aT b x):At R d As (gr fn kd n e ds (.inRegion O (i::aa)::k) cs):=λH s=>by
 refine C.op (by rw[dJ];exact c) (by rw[eU];exact f)<|qb (λx a b q=>?_)<|h H s;obtain⟨aT,s',q⟩:=q;cases x<;>first|exact q.elim|exact q a s'
theorem ab.no(C:ab P ao B R){op:Op}(a:bk O i=some ⟨dst,op,ty,pos,af,gd⟩)(h:At R d As (gr fn kd n (dD e dst undef) ds (.inRegion O aa::k) cs))(b:aN O n e gd=false:=by rfl):
  At R d As (gr fn kd n e ds (.inRegion O (i::aa)::k) cs):=λH s=>C.aab (by rw[dJ];exact a) (by rw[eU];exact b)<|h H s
def Pu(P:bT){α:Type}(s:Sem α)(v:α):Prop:=∀ (B:lM) (H:Array Obj) (d:Nat) (Q:α->Array Obj->Nat->Prop),Q v H d->dQ P B s H d Q
theorem Pu.pure{α:Type}(v:α):Pu P (Sem.pure v) v:=λ_ _ _ _ h=>h
theorem Pu.bind{α β:Type}{s:Sem α}{f:α->Sem β}{a:α}{b:β}(h:Pu P s a)(k:Pu P (f a) b):Pu P (s >>= f) b:=λB H d Q q=>ae<|h B H d _<|k B H d Q q
theorem ab.val(C:ab P ao B R){op:Op}(a:bk O i=some ⟨some t,op,ty,pos,af,gd⟩)(b:aN O n e gd=true)(c:Pu P (execOp (ev n e) ⟨some t,op,ty,pos,af,gd⟩) (.value v))
  (h:At R d As (gr fn kd n (put e t v) ds (.inRegion O aa::k) cs)):At R d As (gr fn kd n e ds (.inRegion O (i::aa)::k) cs):=
 C.gen a b λH s=>c _ _ _ _ ⟨As,s,h⟩
def zr(kd:Kd)(c:Frame):Prop:=match kd with|.rU=>True|.qJ=>c.mode=.returning
def after(kd:Kd)(c:Frame)(cs:List Frame)(v:Value):aO:=match kd with|.rU=>fP c cs v|.qJ=>yK c cs
def aI(P:bT)(ao:Bool)(B:lM)(f:bN)(args:Array Value)(A:List HP)(Q:Value->List HP->Prop):Prop:=
 ∀ (R:Nat->aO->Array Obj->Prop),ab P ao B R->∀ (kd:Kd) (d:Nat) (F:List HP) (c:Frame) (cs:List Frame),zr kd c->(∀ v aT,Q v aT->At R d (aT++F) (after kd c cs v))->At R d (A++F) (jA P f args kd<|c::cs)
theorem aI.post{f:bN}{A:List HP}{Q a:Value->List HP->Prop}(h:aI P ao B f args A Q)(b:∀ v aT,Q v aT->a v aT):aI P ao B f args A a:=
 λR C kd d F c cs e g=>h R C kd d F c cs e λv aT q=>g v aT<|b v aT q
class Body(P:bT)(f:bN)(fu:outParam Func)(c:outParam Code)(n:outParam Nat):Prop where
 func:P.funcs[f]? =some fu
 name:(fu.name== "runtime.NumGoroutine")=false
 body:fu.body=some c
 tmps:fu.ntmps=n
theorem aI.of{f:bN}{n:Nat}[b:Body P f fu c n]{A:List HP}{Q:Value->List HP->Prop}(h:∀ (R:Nat->aO->Array Obj->Prop),ab P ao B R->∀ (kd:Kd) (d:Nat) (F:List HP) (c':Frame) (cs:List Frame),zr kd c'->(∀ v aT,Q v aT->At R d (aT++F) (after kd c' cs v))->At R d (A++F) (gr f kd n (AH args) [] [.code c]<|c'::cs))(a:Nat.ble args.size n=true:=by rfl):aI P ao B f args A Q:=by intro R C kd d F c' cs e g;have:=b.tmps;subst this;rw[nZ b.func b.body (zk a)];exact h R C kd d F c' cs e g
theorem oQ{f:bN}{n:Nat}[b:Body P f fu c n](args:Array Value):Pu P (callFunc f args) (.enter f args):=by intro B H d Q q;unfold callFunc;refine ae ?_;show dQ P B _ _ _ _;simp only[program,dQ,b.func,b.name,b.body];exact q
theorem qe(a:bk O i=some o)(v:Value):fP (aX fn kd n e ds<|.inRegion O (i::aa)::k) cs v=gr fn kd n (dD e o.dst v) ds (.inRegion O aa::k) cs:=by unfold fP gr;rw[cF (by rw[dJ];exact a)]
theorem ab.cl(C:ab P ao B R){f:bN}{nf:Nat}[b:Body P f fu c nf]{fo:dp}{args:Array dp}{gY:Array aP}{vl:List Value}{A F:List HP}{Q:Value->List HP->Prop}(hs:aI P ao B f vl.toArray A Q)
  (h:∀ v aT,Q v aT->At R d (aT++F) (gr fn kd n (dD e dst v) ds (.inRegion O aa::k) cs))
  (a:bk O i=some ⟨dst,.call ⟨.value fo,args,gY⟩,ty,pos,af,gd⟩:=by rfl) (g:aN O n e gd=true:=by rfl) (hf:ev n e fo=.func (.func f) #[] #[]:=by rfl) (hv:args.toList.map (ev n e)=vl:=by rfl):At R d (A++F) (gr fn kd n e ds (.inRegion O (i::aa)::k) cs):=by
 refine C.gen a g λH s=>?_;unfold execOp;simp only;refine ae ?_;have j:args.map (ev n e)=vl.toArray:=by rw[<- hv,<- sx,vo]
 simp only[resolve,hf,Deferred.ofValue,j];refine ae ?_;show dQ P B _ _ _ _;simp only[CL];show dQ P B (invoke (.fn (.func f) #[]) vl.toArray) H d _;unfold invoke;simp only[zj];refine oQ (P:=P) vl.toArray B H d _ ⟨A++F,s,?_⟩;exact hs R C .rU d F _ cs trivial λv aT q=>by show At R d (aT++F) (fP _ cs v);rw[qe a];exact h v aT q
def vy(fu:Func)(n:Nat)(e:Nat->Value):Option Value:=
 match fu.results.toList with
 |[]=>some<|.tuple #[]
 |[.tmp t]=>some (if t<n then e t else undef)
 |[.tmp t,.tmp u]=>some<|.tuple #[if t<n then e t else undef,if u<n then e u else undef]
 |[.tmp t,.tmp u,.tmp x]=>some<|.tuple #[if t<n then e t else undef,if u<n then e u else undef,if x<n then e x else undef]
 |_=>none
theorem AK(h:vy fu n e=some v):Pu P (results fu<|tm n e) v:=by
 have key:results fu (tm n e)=(pure v:Sem Value):=by
  unfold vy at h;have hl:fu.results=fu.results.toList.toArray:=by simp
  generalize fu.results.toList=l at h hl;split at h<;>first|(cases h;done)|skip
  all_goals(simp only[zJ]at h;subst h)
  all_goals simp[results,hl,<- wI, -Array.getD_eq_getD_getElem?]
 rw[key];exact Pu.pure v
theorem ab.home(C:ab P ao B R){c:Frame}{a:List Item}(hf:P.funcs[fn]? =some fu)(b:zr kd c)(hv:vy fu n e=some v)(h:At R d As (after kd c cs v)):At R d As (sQ fn kd n e [] a<|c::cs):=λH s=>by
 cases kd with
 |rU=>exact C.back hf<|AK hv B H d _<|h H s
 |qJ=>exact C.Mq b hf<|AK hv B H d _<|h H s
theorem ab.R3(C:ab P ao B R){cc:Code}[b:Body P fn fu cc n']{c:Frame}{x:Code}(a:zr kd c)(h:At R d As (after kd c cs v))(hv:vy fu n e=some v:=by rfl)(hx:ck x=.ret:=by rfl):At R d As (gr fn kd n e [] (.code x::k)<|c::cs):=λH s=>by have z:=gv hx;simp only at z;subst z;exact C.ret<|C.home b.func a hv h H s
theorem ab.aef(C:ab P ao B R){cc:Code}[b:Body P fn fu cc n']{c:Frame}(a:zr kd c)(h:At R d As (after kd c cs v))(hv:vy fu n e=some v:=by rfl):At R d As (gr fn kd n e [] []<|c::cs):=λH s=>C.fin<|C.home b.func a hv h H s
end
end Go.Sl
