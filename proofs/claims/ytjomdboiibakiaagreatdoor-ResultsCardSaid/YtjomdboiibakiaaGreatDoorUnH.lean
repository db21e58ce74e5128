/-
  Texts that the proof needs, joined: part 8.
-/
import Derived.Test.YtjomdboiibakiaaGreatDoorUnG
import Derived.Sort.Defs
import Derived.Sort.LotD5
import Derived.Sort.AssemblyPlain
import Derived.Conc.HoldsTime
import Derived.LaidHandle
import Derived.Carry
import Derived.LaidLaws
import Derived.FnData
import Derived.ChangeArms
import GoSem.ClaimJoined
import Derived.RowKit
set_option linter.unusedSimpArgs false
set_option linter.unusedVariables false
set_option maxHeartbeats 4000000
namespace Go.Sl
open Go.Proofs.Tryz
section
open Go.Proofs Go.Conc
section
variable{P:bR}{ao:Bool}{B:j9}{R:Nat->aQ->Array Obj->Prop}{d:Nat}{As W L:List HP}
variable{fn:bM}{kd:Kd}{n:Nat}{e:Nat->Value}{ds:List dW}{k:List Item}{cs:List Frame}
variable{ops:Array Oper}{i:Nat}{aa:List Nat}{t:Nat}{ty:aR}{pos:String}{af:Array Edge}{gd:Option (Nat×Bool)}{x:cU}{v:Value}{b off:Nat}{c:Array Value}{el tt:aR}
theorem ab.abS(C:ab P ao B R){fr:Nat×Nat}[Ag P tt false](hk:Kn As b (.cells c el fr))(hs:B.sh el off=false)(hc:c[off]? =some v)(ho:aZ ops i=some ⟨some t,.load tt x,ty,pos,af,gd⟩)(h:At R d As (gr fn kd n (put e t v) ds (.inRegion ops aa::k) cs))
  (hx:ev n e x=.pointer (some ⟨b,off,none⟩):=by rfl) (hw:aN ops n e gd=true:=by rfl):At R d As (gr fn kd n e ds (.inRegion ops (i::aa)::k) cs):=
 C.gen ho hw λH st=>by unfold execOp;simp only[hx,Instr.loadAt,Instr.sureAddr];exact ah (ah (aA (gG (hk _ st) hc hs ⟨As,st,h⟩)))
end
theorem MG{σ:Gh}{n:Int}{I:HL}{eb:Nat->Nat×Nat}(hE:ij I eb)(hn:n<1\/4<n):aB prog true (bT.bw σ) 27 #[az n] [a9 I] (λv As=>v=.tuple #[.pointer none,ig (eb 0)]/\As=[a9 I]):=by
 refine aB.of ?_;intro R C kd d F c' cs aJ ai;refine bI ?_;obtain⟨t0,h0⟩:=hE.g 0 (by decide);refine dV ?_;by_cases h1:n<1
 ·refine C.eE rfl ?_;refine dm ?_;refine C.dx [(13,0),(2,1),(3,2)] 3 [] 0 ?_;refine Dr.l (v:=ig (eb 0)) (λhE h=>C.abS (hE.Ml Fo.au h0) (gB _ _) rfl rfl h) ?_;refine xr ?_;refine ee ?_;exact C.a8 aJ ai ⟨rfl,rfl⟩
 ·refine C.du rfl ?_;refine bj ?_;refine C.eE rfl ?_;refine da ?_;refine C.dx [(13,0),(2,1),(3,2)] 3 [] 0 ?_;refine Dr.l (v:=ig (eb 0)) (λhE h=>C.abS (hE.Ml Fo.au h0) (gB _ _) rfl rfl h) ?_;refine xr ?_;refine ee ?_;exact C.a8 aJ ai ⟨rfl,rfl⟩
theorem QR{σ:Gh}{n:Int}{I:HL}{eb:Nat->Nat×Nat}(hE:ij I eb)(hn:n<1\/4<n):aB prog true (bT.bw σ) 14 #[az n] [a9 I] (λv As=>v=.tuple #[.pointer none,az 1]/\As=[a9 I]):=by refine aB.of ?_;intro R C kd d F c' cs aJ ai;refine bI ?_;obtain⟨t0,h0⟩:=hE.g 0 (by decide);obtain⟨ck,tk,DD⟩:=hE.e 0 (by decide);refine dV ?_;refine C.cE (MG hE hn) ?_;refine Ls ?_;refine C.SH underlying46 rfl ?_;refine cF ?_;refine C.vA (v:=ig (eb 0)) Fo.au h0 (gB _ _) rfl ?_;refine C.SG (r:=true) (b1:=(eb 0).1) (o1:=(eb 0).2) (b2:=(eb 0).1) (o2:=(eb 0).2) underlying46 (ay type339) rfl rfl ?_ (λH s=>(s.perm (Fo.perm (show Fo (a9 I) _ _ from Fo.au))).pf DD) (λH s=>(s.perm (Fo.perm (show Fo (a9 I) _ _ from Fo.au))).pf DD);rw[show(decide ((eb 0).1=(eb 0).1/\(eb 0).2=(eb 0).2)==true)=true by simp];refine jL ?_;exact C.a8 aJ ai ⟨rfl,rfl⟩
section
variable{I I' RE:HL}{t:Nat}{c c':CV}{w w':WV}
theorem dA.cn1(h:dA I t c w):ns ((t+1:Nat)*2^15) (t+1:Nat) c:=λv hv=>(h.cn v hv).mono ak ak
theorem dA.stop(h:dA I t c w):dA I t {c with aj:=true} {w with aj:=true}:=
 ⟨Ll h.rel,⟨h.inv.sh,h.inv.phi⟩,⟨h.RQ.sh,h.RQ.aF,h.RQ.aL⟩,⟨h.J.aF,h.J.aL,h.J.sh⟩,⟨h.W.sh,h.W.aF,h.W.aL⟩,h.cn,h.lt⟩
theorem dA.mono(h:dA I t c w)(hs:Sub I I'):dA I' t c w:={h with J:=h.J.mono hs,W:=h.W.mono hs}
theorem dA.new{n:Int}(hn:1<=n/\n<=4)(h1:c.ae.map (·.s)=((upto n).map λk=>jG k n))(h2:c.aF=[])(h3:c.aL=[])(h4:c.aj=false)(hw:w.abs=qg n)(hW:WI I w):dA I 0 c w:=by
 have hc:c.abs=Ft n:=by
  unfold CV.abs Ft;rw[h2,h3,h4];have:c.ae.map (λv=>v.s.abs)=(c.ae.map (·.s)).map (·.abs):=by simp[ux,wB]
  rw[this,h1];simp[ux,wB,Ly]
 have key:∀ v∈c.ae,∃ k,v.s=jG k n:=λv hv=>by have:v.s∈c.ae.map (·.s):=sC hv;rw[h1]at this;obtain⟨k,_,e⟩:=bL.1 this;exact⟨k,e.symm⟩
 refine⟨by rw[hc,hw];exact SW hn,by rw[hw];exact S3,by rw[hw];exact S7 (by unfold Nr;omega) n,⟨by simp[h2],by simp[h3],λv hv=>?_⟩,hW,λv hv=>?_,eC _⟩
 ·obtain⟨k,e⟩:=key v hv;rw[e];exact Tf I k n
 ·obtain⟨k,e⟩:=key v hv;rw[e];exact⟨by simp,by simp[jG],by simp[jG]⟩
theorem Uc{eb:Nat->Nat×Nat}{ops:List cy}{er:Option Nat}{tt:Int}{gL:List cu}{gM:List mC}(hQ:(c.aj=true/\er=some 8/\tt=0/\gL=c.aF/\gM=c.aL/\I'=I)\/(c.aj=false/\Iw eb I c.ae.length ops c.aF c.aL er tt I' gL gM)):
  ((CV.abs {c with aF:=gL,aL:=gM},tt,xC er):WP×Int×Int)=qZ c.abs ops:=by
 unfold qZ;rcases hQ with⟨h1,rfl,rfl,rfl,rfl,_⟩|⟨h1,_,⟨h2,rfl,rfl,rfl,rfl⟩|⟨h2,h3,rfl,rfl,rfl,rfl⟩|⟨h2,h3,rfl,rfl,s7,_,rfl,rfl⟩⟩
 ·rw[aK (show c.abs.aj=true from h1)];rfl
 ·rw[aq (show¬ c.abs.aj=true by rw[show c.abs.aj=c.aj from rfl,h1];decide),aK h2];rfl
 ·rw[aq (show¬ c.abs.aj=true by rw[show c.abs.aj=c.aj from rfl,h1];decide),aq (by simpa using h2),aK (by simpa[CV.abs]using h3)];rfl
 ·rw[aq (show¬ c.abs.aj=true by rw[show c.abs.aj=c.aj from rfl,h1];decide),aq (by simpa using h2),aq (by simpa[CV.abs]using h3)];unfold nL;simp[CV.abs,xC,zy]
theorem Vz{eb:Nat->Nat×Nat}{ops:List cy}{er:Option Nat}{tt:Int}{gL:List cu}{gM:List mC}(hJ:rY I c)(hQ:(c.aj=true/\er=some 8/\tt=0/\gL=c.aF/\gM=c.aL/\I'=I)\/(c.aj=false/\Iw eb I c.ae.length ops c.aF c.aL er tt I' gL gM)):
  Sub I I'/\rY I' {c with aF:=gL,aL:=gM}:=by
 rcases hQ with⟨h1,rfl,rfl,rfl,rfl,rfl⟩|⟨h1,hs,⟨h2,rfl,rfl,rfl,rfl⟩|⟨h2,h3,rfl,rfl,rfl,rfl⟩|⟨h2,h3,rfl,rfl,s7,h7,rfl,rfl⟩⟩
 ·exact⟨Sub.refl _,hJ⟩
 ·exact⟨hs,hJ.mono hs⟩
 ·exact⟨hs,hJ.mono hs⟩
 ·refine⟨hs,λm hm=>?_,λx hx=>?_,(hJ.mono hs).sh⟩
  ·rcases cg.1 hm with hm|hm
   ·exact(hJ.mono hs).aF m hm
   ·obtain rfl:=dN.1 hm;exact⟨h7,.inl ⟨rfl,rfl⟩,lM 20⟩
  ·rcases cg.1 hx with hx|hx
   ·exact(hJ.mono hs).aL x hx
   ·obtain rfl:=dN.1 hx;exact⟨h7,.inl ⟨rfl,rfl⟩,lM 20⟩
theorem dA.Ym{eb:Nat->Nat×Nat}{ops:List cy}{er:Option Nat}{tt:Int}{gL:List cu}{gM:List mC}(h:dA I t c w)(hQ:(c.aj=true/\er=some 8/\tt=0/\gL=c.aF/\gM=c.aL/\I'=I)\/(c.aj=false/\Iw eb I c.ae.length ops c.aF c.aL er tt I' gL gM))
  (ho:∀ o∈ops,Nr o.v) (dI:t+1<=2^41) (hI:Sub I' RE) (hW:WI RE w') (hw:w'.abs=(eM w.abs ops).1):dA RE (t+1) {c with aF:=gL,aL:=gM} w'/\tt=(eM w.abs ops).2.1/\xC er=(eM w.abs ops).2.2:=by
 have hk:=Uc hQ;obtain⟨hs,hJ⟩:=Vz h.J hQ;obtain⟨hr,hn⟩:=Fu h.rel ops;rw[<- hk]at hr hn;refine⟨⟨by rw[hw];exact hr,by rw[hw];exact FB h.inv h.rel ops,by rw[hw];exact HX h.RQ ho,hJ.mono hI,hW,h.cn1,dI⟩,?_,?_⟩
 ·exact congrArg Prod.fst hn
 ·exact congrArg Prod.snd hn
theorem dA.b0(h:dA I t c w):WB0 w.abs:=⟨h.rel.n,by have:=h.Yl;have h2:=congrArg List.length h.aF;simp only[dd]at h2;rw[WV.fG];omega,h.rel.W2⟩
structure DoC(k i b:Int):Prop where
 p:∀ {σ:Gh} {c:CV} {I:HL} {eb:Nat->Nat×Nat} {t:Nat} {w:WV},ij I eb->dA I t c w->(c.aj=false->sB σ c)->
  bD prog bT 42 #[aE c.G.b,az k,az i,az b] σ [dK c,a9 I] (λv σ' As=>∃ er c' I',σ'=σ/\v=az (xC er)/\ez c I (t*2^15+2^15) (t+1) (fO c.abs k i b) er c' I'/\As=[dK c',a9 I'])
 w:∀ {ao:Bool} {I I':HL} {c:CV} {t bw:Nat} {w:WV},dA I t c w->Sub I I'->
  aB prog ao bG 74 #[aE bw,az k,az i,az b] [wP bw w,a9 I'] (WQ bw I' (ny w.abs k i b).1 (az (ny w.abs k i b).2))
 r:∀ {W:WP} {w:WR},gw W w->gw (fO W k i b).1 (ny w k i b).1/\(fO W k i b).2=(ny w k i b).2
 iv:∀ {W:WP} {w:WR} {t:Nat},jf t w->gw W w->jf (t+1) (ny w k i b).1
 g:∀ {w:WR},tR Nr w->tR Nr (ny w k i b).1
theorem dA.do{k i b:Int}{er:Option Nat}(hD:DoC k i b)(h:dA I t c w)(hQ:ez c I (t*2^15+2^15) (t+1) (fO c.abs k i b) er c' I')(dI:t+1<=2^41)(hI:Sub I' RE)(hW:WI RE w')(hw:w'.abs=(ny w.abs k i b).1):dA RE (t+1) c' w'/\xC er=(ny w.abs k i b).2:=by obtain⟨hr,hn⟩:=hD.r h.rel;rw[<- hQ.r]at hr hn;refine⟨⟨by rw[hw];exact hr,by rw[hw];exact hD.iv h.inv h.rel,by rw[hw];exact hD.g h.RQ,hQ.j.mono hI,hW,λv hv=>(hQ.cn v hv).mono ak ak,dI⟩,hn⟩
end
end
section
open Go.Proofs Go.Conc
structure AK where
 c:CV
 w:WV
 bw:Nat
def fC(p:AK):List Value:=[aE p.c.G.b,aE p.bw]
instance:fM fC 2:=⟨λ_=>rfl,λa v h=>by simp[fC]at h;rcases h with h|h<;>subst h<;>rfl⟩
def VA(p:AK):HP:=all [dK p.c,wP p.bw p.w]
abbrev ue(L:List AK):HP:=all (L.map VA)
structure ug(σ:Gh)(I:HL)(T:Nat)(L:List AK):Prop where
 mh:GC σ (L.map (·.c))
 Zy:∀ p∈L,∃ t,t<=T/\dA I t p.c p.w
 len:L.length<=T
theorem QS(L:List AK):mF (ue L) ((L.map (·.c)).flatMap CV.chans):=by
 have:mF (ue L) (L.map (λp=>p.c.chans)).flatten:=by
  refine mF.all ?_
  induction L with
  |nil=>exact .nil
  |cons p L ih=>
   refine .cons ?_ ih;have:=mF.all (As:=[dK p.c,wP p.bw p.w]) (ls:=[p.c.chans,[]]) (.cons (QQ 0 p.c) (.cons .nil .nil));simpa[VA]using this
 simpa[List.flatMap,ux,wB]using this
theorem At.pvs{R:Nat->aQ->Array Obj->Prop}{d:Nat}{As W:List HP}{g:aQ}{L:List AK}(hf:Fo (ue L) As W)(h:((L.map (·.c)).flatMap CV.chans).Nodup->At R d As g):At R d As g:=λH st=>by obtain⟨h1,a,_,_⟩:=st.perm hf.perm;exact h (QS L h1 a).1 H st
theorem QT{σ:Gh}{n:Int}{I:HL}{eb:Nat->Nat×Nat}(hE:ij I eb)(hσ:Mq σ):bD prog bT 14 #[az n] σ [a9 I] (λv σ' As=>((1<=n/\n<=4)/\∃ c:CV,pZ σ σ' c.G c.ae/\v=.tuple #[aE c.G.b,az 0]/\As=[dK c,a9 I]/\c.ae.map (·.s)=((upto n).map λk=>jG k n)/\c.aF=[]/\c.aL=[]/\c.aj=false)\/((n<1\/4<n)/\σ'=σ/\v=.tuple #[.pointer none,az 1]/\As=[a9 I])):=by
 by_cases hn:1<=n/\n<=4
 ·refine λPost os out kd F c cs aJ hr=>Mr hn hσ Post os out kd (a9 I::F) c cs aJ ?_;rintro v σ' aO ⟨c,N,hv,rfl,h⟩;exact hr v σ' [dK c,a9 I] (.inl ⟨hn,c,N,hv,rfl,h⟩)
 ·exact(aB.g (QR hE ak)).post λv σ' aO ⟨h1,h2,h3⟩=>.inr ⟨ak,h1,h2,h3⟩
theorem r9{α:Type}{f:α->List Value}{z:Nat}{el:aR}{s:ax}{l l':List α}(h:l'.map f=l.map f):∀ H,aW f z el s l H->aW f z el s l' H:=by
 have hl:l'.length=l.length:=by have:=congrArg List.length h;simpa using this
 have hf:flat f l'=flat f l:=by
  have key:∀ k:List α,flat f k=(k.map f).flatten:=λk=>by
   induction k with
   |nil=>rfl
    |cons a k ih=>rw[iJ,List.flatten_cons,<- ih];rfl
  rw[key,key,h]
 rintro H (⟨h1,rfl⟩|⟨b,pad,h1,h2,h3,h4⟩)
 ·exact .inl ⟨h1,Ad.1 (by simpa using hl)⟩
 ·refine .inr ⟨b,pad,by rw[hl];exact h1,by rw[hl];exact h2,by rw[hl];exact h3,?_⟩;unfold gv at h4⊢;rw[hf];exact h4
theorem DL(w:WP)(k i:Int):(iy w k i).1.aj=w.aj:=by
 unfold iy;split
 ·rfl
 split
 ·rfl
 split
 ·split<;>rfl
 dsimp only;split
 ·rfl
 split
 ·rfl
 split
 ·rfl
 ·split<;>rfl
theorem Ud(w:WP)(k a b:Int):(fO w k a b).1.aj=w.aj:=by
 unfold fO;split
 ·rfl
 split
 ·rfl
 split
 ·split
  ·rfl
  split
  ·rfl
  ·unfold nL;split<;>rfl
 split
 ·exact DL ..
 split
 ·rfl
 split
 ·rfl
 split
 ·split<;>rfl
 split
 ·rfl
 split
 ·rfl
 split
 ·split<;>rfl
 ·rfl
section
variable{R:Nat->aQ->Array Obj->Prop}{d:Nat}{As W:List HP}{g:aQ}{L:List AK}{q:Nat}
theorem QU(hq:q<L.length)(hf:Fo (ue L) As W)(h:At R d (dK L[q].c::wP L[q].bw L[q].w::all ((L.eraseIdx q).map VA)::W) g):At R d As g:=
 kJ (f:=VA) hq hf λH st=>h H (Sat.flat (l:=[dK L[q].c,wP L[q].bw L[q].w]) st)
theorem GD(hq:q<L.length)(p:AK)(hr:dJ [dK p.c,wP p.bw p.w,all ((L.eraseIdx q).map VA)] As W)(h:At R d (ue (L.set q p)::W) g):At R d As g:=
 At.perm hr.perm λH st=>(mX (f:=VA) hq p (.cons .head (.cons .head .nil)) h) H (Sat.fR (l:=[dK p.c,wP p.bw p.w]) st)
theorem pL{c:CV}{w:WV}{bw:Nat}(hq:q<L.length)(hp:(⟨c,w,bw⟩:AK)=L[q])(hr:dJ [dK c,wP bw w,all ((L.eraseIdx q).map VA)] As W)(h:At R d (ue L::W) g):At R d As g:=
 GD hq ⟨c,w,bw⟩ hr (by rw[hp,l9];exact h)
theorem Yn(p:AK)(hr:dJ [dK p.c,wP p.bw p.w,ue L] As W)(h:At R d (ue (L++[p])::W) g):At R d As g:=
 At.perm hr.perm λH st=>(rQ (f:=VA) p (.cons .head (.cons .head .nil)) h) H (Sat.fR (l:=[dK p.c,wP p.bw p.w]) st)
end
section
variable{σ σ':Gh}{I I':HL}{T q:Nat}{L:List AK}{c c':CV}{w w':WV}{bw:Nat}
theorem ug.same(h:ug σ I T L):ug σ I (T+1) L:=⟨h.mh,λp hp=>by obtain⟨t,ht,x⟩:=h.Zy p hp;exact⟨t,ak,x⟩,by have:=h.len;omega⟩
theorem ug.set(h:ug σ I T L)(hq:q<L.length)(hp:(⟨c,w,bw⟩:AK)=L[q]){t:Nat}(hG:c'.G=c.G)(hh:c'.ae.map (·.h)=c.ae.map (·.h))(dt:c'.aj=c.aj)(hs:Sub I I')(hP:dA I' t c' w')(ht:t<=T+1):ug σ I' (T+1) (L.set q ⟨c',w',bw⟩):=by
 refine⟨?_,λp hp=>?_,by rw[cS];have:=h.len;omega⟩
 ·rw[kD];have e:(L.map (·.c))[q]'(by simpa using hq)=c:=by simp[<- hp]
  exact h.mh.set (by simpa using hq) (by rw[e];exact hG) (by rw[e];exact hh) (by rw[e];exact dt)
 ·rcases fT hp with hp|rfl
  ·obtain⟨t,ht,x⟩:=h.Zy p hp;exact⟨t,ak,x.mono hs⟩
  ·exact⟨t,ht,hP⟩
theorem ug.stop(h:ug σ I T L)(hq:q<L.length)(hp:(⟨c,w,bw⟩:AK)=L[q])(nd:((L.map (·.c)).flatMap CV.chans).Nodup):ug (if c.aj then σ else σ.fY c.ids) I (T+1) (L.set q ⟨{c with aj:=true},{w with aj:=true},bw⟩):=by
 have e:(L.map (·.c))[q]'(by simpa using hq)=c:=by simp[<- hp]
 refine⟨?_,λp Hs=>?_,by rw[cS];have:=h.len;omega⟩
 ·rw[kD];have:=h.mh.stop (i:=q) (by simpa using hq) nd;rw[e]at this;exact this
 ·rcases fT Hs with Hs|rfl
  ·obtain⟨t,ht,x⟩:=h.Zy p Hs;exact⟨t,ak,x⟩
  ·obtain⟨t,ht,x⟩:=h.Zy _ (bC hq);rw[<- hp]at x;exact⟨t,ak,x.stop⟩
theorem ug.new(h:ug σ I T L)(N:pZ σ σ' c.G c.ae)(dt:c.aj=false)(nd:(((L++[(⟨c,w,bw⟩:AK)]).map (·.c)).flatMap CV.chans).Nodup)(hP:dA I 0 c w):ug σ' I (T+1) (L++[⟨c,w,bw⟩]):=by
 refine⟨?_,λp hp=>?_,by simp;exact h.len⟩
 ·rw[eI]at nd⊢;exact h.mh.new N hP.n dt nd
 ·rcases cg.1 hp with hp|hp
  ·obtain⟨t,ht,x⟩:=h.Zy p hp;exact⟨t,ak,x⟩
  ·obtain rfl:=dN.1 hp;exact⟨0,eC _,hP⟩
theorem sb(hq:q<L.length)(hp:(⟨c,w,bw⟩:AK)=L[q])(hG:c'.G=c.G):(L.set q ⟨c',w',bw⟩).map fC=L.map fC:=by
 rw[kD];have:fC ⟨c',w',bw⟩=(L.map fC)[q]'(by simpa using hq):=by simp[<- hp,fC,hG]
 rw[this,l9]
end
theorem MH{σ:Gh}{I:HL}{T bW:Nat}{L:List AK}{sl:ax}{s:p8}{eb:Nat->Nat×Nat}(hE:ij I eb)(hL:ug σ I T L)(hT:T+1<=2^41)(hs:rz I σ.bot s)(hR:s.kind=3->DoC s.a s.b s.c):
  bD prog bT 36 #[aE bW,opA s.kind s.cl s.a s.b s.c s.so] σ [bX bW (.cells #[sl.v] 96 (0,0)),aW fC 2 150 sl L,ue L,a9 I]
   (λv σ' As=>∃ (nW:ax) (L':List AK) (I':HL),v=.bool true/\σ'.bot=σ.bot/\Sub I I'/\ug σ' I' (T+1) L'/\As=[bX bW (.cells #[nW.v] 96 (0,0)),aW fC 2 150 nW L',ue L',a9 I']):=by
 refine bD.of ?_;intro Post os out kd F c' cs C aJ ai;refine bI ?_;have Nm:=hL.len;have KR:fP s.so=true:=by obtain⟨_,_,h,_⟩:=hs.o;rw[h];rfl
 refine bj ?_;refine C.bx rfl (λb3=>?_);refine cF ?_;refine C.cmp rfl (λxz=>?_) (λxz=>?_)
 ·refine cF ?_;refine aD.k5 (QT hE hL.mh.ok) ?_;rintro v σ' aO (⟨hn,c,N,rfl,rfl,q1,q2,q3,q4⟩|⟨hn,rfl,rfl,rfl⟩)
  all_goals simp only[iT,eZ]
  ·have C:ab prog true (bT.bw σ') (aD prog Post bT σ' 0 os out):=aD.dM;refine ky ?_;refine C.dk (aB.less (cH _) (BP)) (A:=[]) ?_;intro v aO IP;obtain⟨_,bw,w,rfl,hw,hwI,rfl⟩:=IP.resolve_right (λh=>absurd h.1 ak);clear IP;refine Vh ?_;refine C.du rfl ?_;refine bj ?_;refine C.Kv rfl ?_;refine fy ?_;refine C.Kv rfl ?_;refine C.H7 underlying4 rfl ?_;refine cF ?_;refine C.Kv rfl ?_;refine k7 ?_;refine C.n5 rfl (λb52=>?_);refine C.oh (f:=fC) (l:=L) (AK.mk c w bw) rfl (λs2=>?_);refine dV ?_;refine Yn (L:=L) ⟨c,w,bw⟩ dJ.au ?_;refine At.pvs (L:=L++[⟨c,w,bw⟩]) .head λnd=>?_;exact aD.db aJ ai ⟨s2,L++[⟨c,w,bw⟩],I,rfl,N.bot,Sub.refl _,hL.new N q4 nd (dA.new hn q1 q2 q3 q4 hw (hwI I)),rfl⟩
  ·refine ky ?_;refine C.dk (aB.less (cH _) (BP)) (A:=[]) ?_;intro v aO IP;obtain⟨_,rfl,rfl⟩:=IP.resolve_left (λh=>absurd h.1 ak);clear IP;refine Vh ?_;refine C.du rfl ?_;refine bj ?_;refine C.Kv rfl ?_;refine fy ?_;refine C.Kv rfl ?_;refine C.H7 underlying4 rfl ?_;refine cF ?_;refine C.Kv rfl ?_;refine cF ?_;exact aD.db aJ ai ⟨sl,L,I,rfl,rfl,Sub.refl _,hL.same,rfl⟩
 ·refine jL ?_;refine C.cmp rfl (λDh=>?_) (λDh=>?_)
  ·refine cF ?_;exact aD.db aJ ai ⟨sl,L,I,rfl,rfl,Sub.refl _,hL.same,rfl⟩
  ·refine bj ?_;obtain⟨q,hq⟩:=g7 (B5 (a:=s.cl) (b:=(L.length:Int)) ak).1;have rZ:q<L.length:=by have:=(B5 (a:=s.cl) (b:=(L.length:Int)) ak).2;omega
   apply kI (X:=Nat) (λ_=>True) (λb9=>[(0,aE bW),(3,aE b3),(9,aE b9)]) (λb9=>bX b9 (.cells #[aE L[q].c.G.b,aE L[q].bw] 150 (0,0))::bX b3 (.cells #[az s.kind,az s.cl,az s.a,az s.b,az s.c,s.so] 29 (0,0))::bX bW (.cells #[sl.v] 96 (0,0))::aW fC 2 150 sl L::ue L::a9 I::F) (R:=aD prog Post bT σ 0 os out) (d:=0) (fn:=36) (kd:=kd) (n:=148) (ds:=[]) (cs:=c'::cs)
   ·intro w7;refine C.wR (cm 62 0 14++[(9,14)]) 16 [11,12,13,14,15] 2 ?_ (W:=[bX b3 (.cells #[az s.kind,az s.cl,az s.a,az s.b,az s.c,s.so] 29 (0,0)),bX bW (.cells #[sl.v] 96 (0,0)),aW fC 2 150 sl L]);refine gY ?_;refine Dr.l (v:=az L.length) (λhE h=>C.mW rfl h (f:=fC) (s:=sl) (l:=L)) ?_;refine Dr.chain rfl ?_ (λ_ s=>bZ.sat bZ.au s);refine Ch.n2 (t:=11) (u:=14) rfl ?_ ?_
    ·refine aP λe aa hk=>?_;refine C.cE (aB.less (cH _) (B6 (b:=(L.length:Int)) hs.cl ak)) (A:=[]) ?_;rw[hq];refine bI ?_;refine hk _ _ lU ?_;refine Ch.n2 (t:=12) (u:=14) rfl ?_ ?_
     ·refine aP λe aa hk=>?_;refine C.dT rfl (hk _ _ .refl ?_) (s:=sl) (f:=fC) (l:=L);refine Ch.n2 (t:=13) (u:=14) rfl ?_ ?_
      ·refine aP λe aa hk=>?_;refine C.lZ rfl (λhj=>?_) (s:=sl) (l:=L) (f:=fC) (j:=q);rw[show(fC L[q]).toArray=#[aE L[q].c.G.b,aE L[q].bw]from rfl];refine hk _ _ ?_;refine Ch.m 14 (aP λe aa hk=>?_);refine C.al rfl (λb9=>hk _ _ ?_);refine Ch.m 15 (aP λe aa hk=>?_);refine C.po rfl (hk _ undef ?_);refine ee ?_;exact bN w7 b9 trivial
      ·refine aP λe aa hk=>?_;refine C.al rfl (λb9=>hk _ _ ?_);refine Ch.m 13 (aP λe aa hk=>?_);refine C.lZ rfl (λhj=>?_) (s:=sl) (l:=L) (f:=fC) (j:=q);rw[show(fC L[q]).toArray=#[aE L[q].c.G.b,aE L[q].bw]from rfl];refine hk _ _ ?_;refine Ch.m 15 (aP λe aa hk=>?_);refine C.po rfl (hk _ undef ?_);refine ee ?_;exact bN w7 b9 trivial
     ·refine aP λe aa hk=>?_;refine C.al rfl (λb9=>hk _ _ .cons ?_);refine Ch.m 12 (aP λe aa hk=>?_);refine C.dT rfl (hk _ _ ?_) (s:=sl) (f:=fC) (l:=L);refine Ch.m 13 (aP λe aa hk=>?_);refine C.lZ rfl (λhj=>?_) (s:=sl) (l:=L) (f:=fC) (j:=q);rw[show(fC L[q]).toArray=#[aE L[q].c.G.b,aE L[q].bw]from rfl];refine hk _ _ ?_;refine Ch.m 15 (aP λe aa hk=>?_);refine C.po rfl (hk _ undef ?_);refine ee ?_;exact bN w7 b9 trivial
    ·refine aP λe aa hk=>?_;refine C.al rfl (λb9=>hk _ _ .cons ?_);refine Ch.m 11 (aP λe aa hk=>?_);refine C.cE (aB.less (cH _) (B6 (b:=(L.length:Int)) hs.cl ak)) (A:=[]) ?_;rw[hq];refine bI ?_;refine hk _ _ lU ?_;refine Ch.m 12 (aP λe aa hk=>?_);refine C.dT rfl (hk _ _ ?_) (s:=sl) (f:=fC) (l:=L);refine Ch.m 13 (aP λe aa hk=>?_);refine C.lZ rfl (λhj=>?_) (s:=sl) (l:=L) (f:=fC) (j:=q);rw[show(fC L[q]).toArray=#[aE L[q].c.G.b,aE L[q].bw]from rfl];refine hk _ _ ?_;refine Ch.m 15 (aP λe aa hk=>?_);refine C.po rfl (hk _ undef ?_);refine ee ?_;exact bN w7 b9 trivial
   ·rintro b9-e;obtain⟨t,ht,hP⟩:=hL.Zy _ (bC rZ);refine At.pvs (L:=L) Fo.au λnd0=>?_;have DM:=hL.mh.mh L[q].c (sC (bC rZ));refine QU (L:=L) rZ Fo.au ?_;obtain⟨p,hp⟩:∃ p,p=L[q]:=⟨_,rfl⟩;rw[<- hp]at hP DM⊢;obtain⟨c,w,bw⟩:=p;dsimp only at hP DM⊢;refine cF ?_;refine C.cmp rfl (λNk=>?_) (λNk=>?_)
    ·refine dm ?_;refine C.dk (Mm hs.o hs.z hs.len) ?_;rintro v aO ⟨s1,rfl,rfl⟩;refine bI ?_;have oL:(s.ops.map ru).length=s.ops.length:=dd ..;have hlen:=hs.len;have Zr:∀ o∈s.ops.map ru,(0<=o.k/\o.k<=255)/\(-2147483648<=o.v/\o.v<=2147483647):=by intro o ho;obtain⟨q,_,rfl⟩:=bL.1 ho;exact⟨IJ _,Dz _⟩
     generalize cJ:s.ops.map ru=ops at*;refine At.JS (I:=I) (s:=s1) (f:=gg) Fo.au Fo.au λI2 kT sK=>?_;refine bj ?_;refine C.wR (cm 84 0 5++[(83,5)]++[(89,6),(90,7)]++[(11,8),(12,9)]) 10 [3,4,5,6,7,8,9] 1 ?_ (W:=[bX b9 (.cells #[aE c.G.b,aE bw] 150 (0,0))]);refine qs ?_;refine Dr.chain rfl ?_ (λ_ s=>bZ.sat bZ.au s);refine Ch.m 3 (aP λe aa hk=>?_);refine C.dk (aB.less (cH _) (IK sK Zr ak)) ?_;rintro v aO ⟨s2,rfl,rfl⟩;refine bI ?_;refine hk _ _ lU ?_;refine Ch.m 4 (aP λe aa hk=>?_);refine aD.k5 (DF (c:=c) (so:=s2) (ops:=ops) (hE.mono kT) hP.n (by have:=hP.Yl;omega) hP.cvb.aL ak) ?_;rintro v σ' aO ⟨er,tt,gL,gM,I3,rfl,rfl,rfl,IP⟩;refine bI ?_;refine hk _ _ ?_;refine Ch.q 5 (λh=>C.mv rfl h) ?_;refine Ch.q 6 (λh=>C.ext rfl h) ?_;refine Ch.q 7 (λh=>C.ext rfl h) ?_;refine Ch.q 8 (λh=>C.lh rfl h) ?_;refine Ch.q 9 (λh=>C.lh rfl h) ?_;refine vT ?_;have Y9:Sub I2 I3:=(Vz (hP.J.mono kT) IP).1;refine C.dk (aB.less (cH _) (Dq (hP.W.mono (kT.trans Y9)) hP.b0 (sK.mono Y9) ak)) ?_;rintro v aO ⟨I4,w4,Yo,Yp,hw4,rfl,rfl⟩;refine bI ?_;obtain⟨hP4,e1,e2⟩:=(hP.mono kT).Ym IP (λo ho=>by have:=(Zr o ho).2;unfold Nr;omega) ak Yo Yp hw4;subst e1;rw[e2];refine ky ?_;refine C.eE rfl ?_ (hf:=rfl);refine da ?_;refine C.eE rfl ?_ (hf:=rfl);refine da ?_;refine GD (L:=L) rZ ⟨{c with aF:=gL,aL:=gM},w4,bw⟩ dJ.au ?_;refine At.turn (A:=aW fC 2 150 sl L) Fo.au (r9 (sb (c':={c with aF:=gL,aL:=gM}) (w':=w4) rZ hp rfl)) ?_;exact aD.db aJ ai ⟨sl,L.set q ⟨{c with aF:=gL,aL:=gM},w4,bw⟩,I4,rfl,rfl,(kT.trans Y9).trans Yo,hL.set (t:=t+1) rZ hp rfl rfl rfl ((kT.trans Y9).trans Yo) hP4 ak,rfl⟩
    ·refine cN ?_;refine C.cmp rfl (λabT=>?_) (λabT=>?_)
     ·refine oW ?_;have hD:=hR abT;refine aD.k5 (hD.p hE hP DM) ?_;rintro v σ' aO ⟨er,c2,I2,rfl,rfl,hQ,rfl⟩;refine bI ?_;refine k7 ?_;refine C.dk (aB.less (cH _) (hD.w hP hQ.sub)) ?_;rintro v aO ⟨I4,w4,Yo,Yp,hw4,rfl,rfl⟩;refine bI ?_;obtain⟨hP4,e2⟩:=hP.do hD hQ ak Yo Yp hw4;rw[e2];refine cF ?_;refine C.eE rfl ?_ (hf:=rfl);refine bj ?_;have dt:c2.aj=c.aj:=by have h1:=congrArg (λx=>x.1.aj) hQ.r;exact h1.trans (Ud ..)
      refine GD (L:=L) rZ ⟨c2,w4,bw⟩ dJ.au ?_;refine At.turn (A:=aW fC 2 150 sl L) Fo.au (r9 (sb (c':=c2) (w':=w4) rZ hp hQ.g)) ?_;exact aD.db aJ ai ⟨sl,L.set q ⟨c2,w4,bw⟩,I4,rfl,rfl,hQ.sub.trans Yo,hL.set (t:=t+1) rZ hp hQ.g hQ.h dt (hQ.sub.trans Yo) hP4 ak,rfl⟩
     ·refine cN ?_;refine C.cmp rfl (λafo=>?_) (λafo=>?_)
      ·refine dm ?_;refine aD.k5 (BK (c:=c) (λh=>(DM h).toRegC)) ?_;rintro v σ' aO ⟨rfl,rfl,rfl⟩;refine bI ?_;have C:ab prog true (bT.bw (if c.aj then σ else σ.fY c.ids)) (aD prog Post bT (if c.aj then σ else σ.fY c.ids) 0 os out):=aD.dM;refine C.go ?_;refine wP.opn (b:=bw) (w:=w) (h:=λsh bg tx=>?_);refine i6 ?_;refine wP.cls (b:=bw) {w with aj:=true} ?_;refine GD (L:=L) rZ ⟨{c with aj:=true},{w with aj:=true},bw⟩ dJ.au ?_;refine At.turn (A:=aW fC 2 150 sl L) Fo.au (r9 (sb (c':={c with aj:=true}) (w':={w with aj:=true}) rZ hp rfl)) ?_;exact aD.db aJ ai ⟨sl,L.set q ⟨{c with aj:=true},{w with aj:=true},bw⟩,I,rfl,(by split<;>rfl),Sub.refl _,hL.stop rZ hp nd0,rfl⟩
      ·refine cN ?_;refine C.cmp rfl (λafp=>?_) (λafp=>?_)
       ·refine dV ?_;refine aD.k5 (kp (k:=s.kind) (cl:=s.cl) (a:=s.a) (b:=s.b) (z:=s.c) hP.ask ak KR) ?_;rintro v σ' aO ⟨rfl,rfl,rfl⟩;refine jI ?_;refine pL (L:=L) rZ hp dJ.au ?_;exact aD.db aJ ai ⟨sl,L,I,rfl,rfl,Sub.refl _,hL.same,rfl⟩
       ·refine cN ?_;refine C.cmp rfl (λafq=>?_) (λafq=>?_)
        ·refine dV ?_;refine aD.k5 (kp (k:=s.kind) (cl:=s.cl) (a:=s.a) (b:=s.b) (z:=s.c) hP.ask ak KR) ?_;rintro v σ' aO ⟨rfl,rfl,rfl⟩;refine jI ?_;refine pL (L:=L) rZ hp dJ.au ?_;exact aD.db aJ ai ⟨sl,L,I,rfl,rfl,Sub.refl _,hL.same,rfl⟩
        ·refine cN ?_;refine C.cmp rfl (λafr=>?_) (λafr=>?_)
         ·refine dV ?_;refine aD.k5 (kp (k:=s.kind) (cl:=s.cl) (a:=s.a) (b:=s.b) (z:=s.c) hP.ask ak KR) ?_;rintro v σ' aO ⟨rfl,rfl,rfl⟩;refine jI ?_;refine pL (L:=L) rZ hp dJ.au ?_;exact aD.db aJ ai ⟨sl,L,I,rfl,rfl,Sub.refl _,hL.same,rfl⟩
         ·refine cN ?_;refine C.cmp rfl (λafs=>?_) (λafs=>?_)
          ·refine dV ?_;refine aD.k5 (kp (k:=s.kind) (cl:=s.cl) (a:=s.a) (b:=s.b) (z:=s.c) hP.ask ak KR) ?_;rintro v σ' aO ⟨rfl,rfl,rfl⟩;refine jI ?_;refine pL (L:=L) rZ hp dJ.au ?_;exact aD.db aJ ai ⟨sl,L,I,rfl,rfl,Sub.refl _,hL.same,rfl⟩
          ·refine cN ?_;refine C.cmp rfl (λafu=>?_) (λafu=>?_)
           ·refine dV ?_;refine aD.k5 (kp (k:=s.kind) (cl:=s.cl) (a:=s.a) (b:=s.b) (z:=s.c) hP.ask ak KR) ?_;rintro v σ' aO ⟨rfl,rfl,rfl⟩;refine jI ?_;refine pL (L:=L) rZ hp dJ.au ?_;exact aD.db aJ ai ⟨sl,L,I,rfl,rfl,Sub.refl _,hL.same,rfl⟩
           ·refine cN ?_;refine C.cmp rfl (λafv=>?_) (λafv=>?_)
            ·refine dm ?_;refine aD.k5 (kp (k:=s.kind) (cl:=s.cl) (a:=s.a) (b:=s.b) (z:=s.c) hP.ask ak KR) ?_;rintro v σ' aO ⟨rfl,rfl,rfl⟩;refine jI ?_;refine pL (L:=L) rZ hp dJ.au ?_;exact aD.db aJ ai ⟨sl,L,I,rfl,rfl,Sub.refl _,hL.same,rfl⟩
            ·refine dm ?_;refine pL (L:=L) rZ hp dJ.au ?_;exact aD.db aJ ai ⟨sl,L,I,rfl,rfl,Sub.refl _,hL.same,rfl⟩
end
section
open Go.Proofs Go.Conc
theorem DN{σ:Gh}{bW:Nat}{L:List AK}{sl:ax}(hR:GC σ (L.map (·.c)))(hl:L.length<=2^41):
  bD prog bT 37 #[aE bW] σ [bX bW (.cells #[sl.v] 96 (0,0)),aW fC 2 150 sl L,ue L] (λv σ' As=>v=.tuple #[]/\σ'.bot=σ.bot/\p9 σ'/\As=[]):=by
 refine bD.of ?_;intro Post os out kd F c' cs C aJ ai;refine sX ?_;refine Pd (Y:=Nat×Gh×List AK) (λy=>y.2.1) (λy=>[(0,aE bW),(2,az y.1)]) (λy=>bX bW (.cells #[sl.v] 96 (0,0))::aW fC 2 150 sl y.2.2::ue y.2.2::F) (λy=>y.1<=y.2.2.length/\y.2.2.length<=2^41/\y.2.1.bot=σ.bot/\GC y.2.1 (y.2.2.map (·.c))/\∀ p∈y.2.2.take y.1,p.c.aj=true) (λy=>y.2.2.length-y.1) (0,σ,L) rfl ⟨rfl,rfl,trivial⟩ ⟨eC _,hl,rfl,hR,by simp⟩ ?_;rintro⟨i,σ1,L1⟩ e ⟨Qr,WY,GF,DM,dt⟩ ih;dsimp only at Qr WY GF DM dt⊢;have C:ab prog true (bT.bw σ1) (aD prog Post bT σ1 0 os out):=aD.dM;refine dV ?_;refine C.mW rfl ?_ (f:=fC) (s:=sl) (l:=L1);refine C.cmp rfl (λh9=>?_) (λh9=>?_)
 ·refine bj ?_;have hi:i<L1.length:=ak;refine At.pvs (L:=L1) Fo.au λnd0=>?_;refine QU (L:=L1) hi Fo.au ?_;refine dm ?_;refine C.dT rfl ?_ (f:=fC) (s:=sl) (l:=L1) (j:=i);refine fy ?_;refine C.vz (v:=aE L1[i].c.G.b) rfl ?_ (f:=fC) (s:=sl) (l:=L1) (j:=i) (o:=0);refine aD.k5 (BK (c:=L1[i].c) (λh=>(DM.mh _ (sC (bC hi)) h).toRegC)) ?_;rintro v σ' aO ⟨rfl,rfl,rfl⟩;refine bI ?_;obtain⟨p,hp⟩:∃ p,p=L1[i]:=⟨_,rfl⟩;have qc:=DM.stop (i:=i) (by simpa using hi) nd0;have e0:(L1.map (·.c))[i]'(by simpa using hi)=p.c:=by rw[hp];simp
  rw[e0]at qc;rw[<- hp];obtain⟨c,w,bw⟩:=p;dsimp only at qc⊢;have C:ab prog true (bT.bw (if c.aj then σ1 else σ1.fY c.ids)) (aD prog Post bT (if c.aj then σ1 else σ1.fY c.ids) 0 os out):=aD.dM;refine GD (L:=L1) hi ⟨{c with aj:=true},w,bw⟩ dJ.au ?_;refine At.turn (A:=aW fC 2 150 sl L1) Fo.au (r9 (sb (c':={c with aj:=true}) (w':=w) hi hp rfl)) ?_;refine dm ?_;have N6:(if c.aj=true then σ1 else σ1.fY c.ids).bot=σ.bot:=by rw[<- GF];split<;>rfl
  refine HH (c:=.skip) ih (i+1,_,L1.set i ⟨{c with aj:=true},w,bw⟩) rfl ⟨by dsimp only;rw[cS];omega,by dsimp only;rw[cS];omega,N6,?_,?_⟩ (by dsimp only;rw[cS];omega)
  ·dsimp only;rw[kD];exact qc
  ·dsimp only;intro p Hs;obtain⟨q,hq,rfl⟩:=jO Hs;rw[iz,cS]at hq;rw[NX];by_cases z:q=i
   ·subst z;rw[wC]
   ·rw[Et ak];exact dt _ (ye.2 ⟨q,by rw[iz];omega,by rw[NX]⟩)
 ·refine bj ?_;have je:∀ c∈L1.map (·.c),c.aj=true:=λc hc=>by obtain⟨p,hp,rfl⟩:=bL.1 hc;exact dt p (by rw[g5 ak];exact hp)
  refine At.jR (show bZ _ F by exact bZ.au) ?_;exact aD.cQ aJ ai ⟨rfl,GF,DM.idle je,rfl⟩
variable{P:bR}{B:j9}{H:Array Obj}{d:Nat}
theorem rE{b off:Nat}{c:Array Value}{ty:aR}{fr:Nat×Nat}(h1:hp H b=some (.cells c ty fr))(hs:b<B.bot\/∀ j,B.sh ty j=false):∀ (z i:Nat) (acc:Array Value) {Q:Array Value->Array Obj->Nat->Prop},off+i+z<=c.size->Q (acc++c.extract (off+i) (off+i+z)) H d->dC P B (loadCellsFrom ⟨b,off,none⟩ i z acc) H d Q
 |0,i,acc,Q,_,q=>by
  unfold loadCellsFrom;refine aA ?_;have:c.extract (off+i) (off+i+0)=#[]:=by simp;omega
  rw[this,w9]at q;exact q
 |z+1,i,acc,Q,hz,q=>by
  unfold loadCellsFrom;refine ah ?_;have dI:off+i<c.size:=ak;have h2:∀ {Q:Value->Array Obj->Nat->Prop},Q c[off+i] H d->dC P B (load ((⟨b,off,none⟩:Addr).add i) .plain) H d Q:=λ{Q} q=>by
   rcases hs with hs|hs
   ·exact A7 (c:=c) (ty:=ty) (v:=c[off+i]) (by rw[gS];exact h1) (by rw[gS]) (by rw[gS];exact D2 dI) (by rw[gS];exact hs) q
   ·exact uI (c:=c) (ty:=ty) (v:=c[off+i]) (by rw[gS];exact h1) (by rw[gS]) (by rw[gS];exact D2 dI) (λ_=>hs _) q
  refine h2 ?_;refine rE h1 hs z (i+1) _ ak ?_;have:acc.push c[off+i]++c.extract (off+(i+1)) (off+(i+1)+z)=acc++c.extract (off+i) (off+i+(z+1)):=by
   apply se;intro j;simp only[VQ,KI,Nt,VR];by_cases h1:j<acc.size
   ·simp[h1,Nat.lt_succ_of_lt h1,uu h1]
   ·by_cases h2:j=acc.size
    ·subst h2;simp;omega
    ·have:¬ j<acc.size+1:=ak;simp only[this,h1,eY,h2];have e1:off+(i+1)+(j-(acc.size+1))=off+i+(j-acc.size):=ak;rw[e1]
     congr 1
     simp only[eq_iff_iff];omega
  rw[this];exact q
theorem I6{c:Array Value}{p z:Nat}{l:List Value}(hl:l.length=z)(hz:0<z)(h:∀ o,o<z->c[p+o]? =l[o]?):p+z<=c.size/\c.extract p (p+z)=l.toArray:=by
 have h1:p+z<=c.size:=by have:=h (z-1) ak;rw[fp ak]at this;have:=(gQ.1 this).1;omega
 refine⟨h1,se λj=>?_⟩;rw[VR,show l.toArray[j]? =l[j]? by simp];by_cases hj:j<z
 ·rw[aK ak,h j hj]
 ·rw[aq ak,wA (l:=l) ak]
def VB(I:HL)(bot:Nat)(v:Value)(sc:List p8):Prop:=
 ∃ (a:Option Addr) (cap:Nat),v=.slice a sc.length cap/\(sc=[]\/∃ b off c ty fr,a=some ⟨b,off,none⟩/\I b=some (.cells c ty fr)/\(b<bot\/ty=29)/\∀ j (hj:j<sc.length) o,o<6->c[off+j*6+o]? =(ti sc[j])[o]?)
theorem xB.scr{I:HL}{bot:Nat}{v:Value}{sc:List p8}(h:xB I bot ti 6 v sc):VB I bot v sc:=by
 obtain⟨a,cap,h1,h2⟩:=h;refine⟨a,cap,h1,?_⟩;rcases h2 with h2|⟨b,off,c,ty,fr,h3,h4,h5,h6⟩
 ·exact .inl h2
 ·exact .inr ⟨b,off,c,ty,fr,h3,h4,.inl h5,h6⟩
variable{ao:Bool}{R:Nat->aQ->Array Obj->Prop}{As W L:List HP}
variable{fn:bM}{kd:Kd}{n:Nat}{e:Nat->Value}{ds:List dW}{k:List Item}{cs:List Frame}
variable{ops:Array Oper}{i:Nat}{aa:List Nat}{t:Nat}{ty:aR}{pos:String}{af:Array Edge}{gd:Option (Nat×Bool)}{x:cU}{v:Value}{b off:Nat}{c:Array Value}{el tt:aR}
theorem ab.afw(C:ab P ao B R){fr:Nat×Nat}{z:Nat}{l:List Value}[Ag P tt true][Cz P tt z](hk:Kn As b (.cells c el fr))(hs:b<B.bot\/∀ j,B.sh el j=false)(hc:off+z<=c.size/\c.extract off (off+z)=l.toArray)(ho:aZ ops i=some ⟨some t,.load tt x,ty,pos,af,gd⟩)(h:At R d As (gr fn kd n (put e t (.agg l.toArray)) ds (.inRegion ops aa::k) cs))
  (hx:ev n e x=.pointer (some ⟨b,off,none⟩):=by rfl) (hw:aN ops n e gd=true:=by rfl):At R d As (gr fn kd n e ds (.inRegion ops (i::aa)::k) cs):=
 C.gen ho hw λH st=>by unfold execOp;simp only[hx,Instr.loadAt,Instr.sureAddr];refine ah (ah (aA ?_));unfold loadVar;refine ah (yt B H d _ ?_);simp only[eQ];refine ah (ik B H d _ (ah ?_));unfold loadCells;refine rE (off:=off) (hk _ st) hs z 0 #[] ak ?_;simp only[Nat.add_zero,Ab];rw[hc.2];exact⟨As,st,h⟩
theorem MI{σ:Gh}{I:HL}{v:Value}{sc:List p8}{eb:Nat->Nat×Nat}(hE:ij I eb)(hi:VB I σ.bot v sc)(hs:∀ s∈sc,rz I σ.bot s)(hl:sc.length<=2^41)(h0:p9 σ)(hR:∀ s∈sc,s.kind=3->DoC s.a s.b s.c):
  bD prog bT 23 #[v] σ [a9 I] (λv σ' As=>∃ I',v=az (-1)/\σ'.bot=σ.bot/\p9 σ'/\Sub I I'/\As=[a9 I']):=by
 refine bD.of ?_;intro Post os out kd F c' cs C aJ ai;refine bI ?_;obtain⟨a,cap,rfl,jE⟩:=hi;refine dm ?_;refine C.bx rfl (λb8=>?_);refine jL ?_;refine At.turn (A':=bX b8 (.cells #[aG.v] 96 (0,0))) .head (λ_ h=>h) ?_;refine At.aG fC 2 150 ?_;refine At.yB (show At (aD prog Post bT σ 0 os out) 0 (ue []::_) _ from ?_);refine Pd (Y:=Nat×Gh×HL×ax×List AK) (λy=>y.2.1) (λy=>[(0,.slice a sc.length cap),(3,aE b8),(4,az (-1)),(5,az y.1)]) (λy=>bX b8 (.cells #[y.2.2.2.1.v] 96 (0,0))::aW fC 2 150 y.2.2.2.1 y.2.2.2.2::ue y.2.2.2.2::a9 y.2.2.1::F) (λy=>y.1<=sc.length/\y.2.1.bot=σ.bot/\Sub I y.2.2.1/\ug y.2.1 y.2.2.1 y.1 y.2.2.2.2) (λy=>sc.length-y.1) (0,σ,I,aG,[]) rfl ⟨rfl,rfl,rfl,rfl,trivial⟩ ⟨eC _,rfl,Sub.refl _,GC.nil h0,by simp,by simp⟩ ?_;rintro⟨i,σ1,I1,sl,L⟩ e ⟨Qr,GF,gD,hL⟩ ih;dsimp only at Qr GF gD hL⊢;have C:ab prog true (bT.bw σ1) (aD prog Post bT σ1 0 os out):=aD.dM;have hE1:ij I1 eb:=hE.mono gD;refine cN ?_;refine C.ln rfl ?_;refine C.cmp rfl (λoa=>?_) (λoa=>?_)
 ·refine bj ?_;refine C.eE rfl ?_;refine da ?_;have hj:i<sc.length:=ak;rcases jE with rfl|⟨b,off,cc,ty,fr,rfl,hI,ui,vK⟩
  ·exact absurd hj (by simp)
  have dt:=hs _ (bC hj);have hRs:=hR _ (bC hj);have hx:=I6 (p:=off+i*6) (l:=ti sc[i]) (z:=6) rfl (by decide) (vK i hj);obtain⟨s,hs0⟩:∃ s,s=sc[i]:=⟨_,rfl⟩;rw[<- hs0]at dt hRs hx;have fD:=gD _ _ hI;have afx:rz I1 σ1.bot s:=GF▸dt.mono gD;have afy:b<(bT.bw σ1).bot\/∀ j,(bT.bw σ1).sh ty j=false:=by
   rcases ui with h|rfl
   ·left;show b<σ1.bot;omega
   ·exact .inr λ_=>rfl
  refine cN ?_;refine C.ia (j:=(i:Int)) (o:=off+i*6) rfl ?_ (hoff:=by simp);refine C.afw (l:=ti s) (z:=6) (Ext.Ml (λ_ st=>st) Fo.au fD) afy hx rfl ?_;refine aD.k5 (MH (s:=s) hE1 hL ak afx hRs) ?_;rintro v σ' aO ⟨nW,L',I2,rfl,N6,sK,hL2,rfl⟩;refine bI ?_;have C:ab prog true (bT.bw σ') (aD prog Post bT σ' 0 os out):=aD.dM;refine oW ?_;exact HH (c:=.skip) ih (i+1,_,I2,nW,L') rfl ⟨cD,N6.trans GF,gD.trans sK,hL2⟩ (cD)
 ·refine jL ?_;refine aD.k5 (DN hL.mh (by have:=hL.len;omega)) ?_;rintro v σ' aO ⟨rfl,N6,o9,rfl⟩;refine bI ?_;have C:ab prog true (bT.bw σ') (aD prog Post bT σ' 0 os out):=aD.dM;refine cF ?_;exact aD.db aJ ai ⟨I1,rfl,N6.trans GF,o9,gD,rfl⟩
variable{Post:Value->World->Prop}{X:tH}{σ:Gh}{os:Os}{out:Array (Nat×ByteArray)}{F:List HP}
theorem At.enter{f:bM}{fu:Func}{c:Code}{nf:Nat}[b:Body P f fu c nf]{args:Array Value}(h:At R d As (gr f .pR nf (yp args) [] [.code c] []))(hn:Nat.ble args.size nf=true:=by rfl):At R d As (iL P f args .pR []):=by rw[mG b.func b.body (by rw[b.tmps];exact xa hn),b.tmps];exact h
theorem aD.quit{fu:Func}{cc:Code}{n':Nat}[b:Body P fn fu cc n']{v:Value}{x:Code}(aO:List HP)(hi:P.inits.idxOf? fn=none)(hn:∀ i,σ.aU i=none)(hp:∀ w:World,Sat aO (hp w.heap)->w.os=os->w.output=out->Post v w)(hv:sj fu n e=some v:=by rfl)(hx:ck x=.ret:=by rfl)
  (hr:bZ As aO:=by exact bZ.au):At (aD P Post X σ 0 os out) 0 As (gr fn .pR n e [] (.code x::k) []):=by
 have C:ab P true (X.bw σ) (aD P Post X σ 0 os out):=aD.dM;refine At.jR hr λH st=>?_;have z:=fA hx;simp only at z;subst z;exact C.ret (aD.done hv hi hn hp H st)
variable{W:WP}{w:WR}
theorem Ue{k i b:Int}(hR:k=8->rC):DoC k i b:=
 ⟨λhE h hr=>QP hE h.J h.cn hr (h.afh hR),λh hs=>Qp (h.W.mono hs) (h.inv.wbr h.rel h.lt) (h.inv.sV h.rel),λH=>SY H k i b,λI H=>S2 I H k i b,λh=>W4 (by unfold Nr;omega) h k i b⟩
theorem I7{σ:Gh}{I:HL}{v:Value}{sc:List p8}{eb:Nat->Nat×Nat}{k a b:Int}(hE:ij I eb)(hi:xB I σ.bot ti 6 v sc)(hs:∀ s∈sc,rz I σ.bot s)(hl:sc.length<=2^41)(h0:p9 σ)(hR:rC):
  bD prog bT 26 #[v,az k,az a,az b] σ [a9 I] (λv σ' As=>∃ I',v=.bool true/\σ'.bot=σ.bot/\p9 σ'/\Sub I I'/\As=[a9 I']):=by
 refine bD.of ?_;intro Post os out kd F c' cs C aJ ai;refine Ec ?_;refine aD.k5 (MI hE hi.scr hs hl h0 (λ_ _ _=>Ue λ_=>hR)) ?_;rintro v σ1 aO ⟨I1,rfl,zV,o9,iD,rfl⟩;refine bI ?_;have C:ab prog true (bT.bw σ1) (aD prog Post bT σ1 0 os out):=aD.dM;refine cN ?_;refine C.eE rfl ?_ (hf:=by decide);refine cF ?_;exact aD.db aJ ai ⟨I1,rfl,zV,o9,iD,rfl⟩
variable{I:HL}{sc:List p8}{eb:Nat->Nat×Nat}
end
section
open Go.Proofs
variable{ao:Bool}
def zN(lg:ax)(b:Nat)(s:cZ):HP:=λh=>∃ wt ot tm:ax,∃ bv bl bp bd be bu:Nat,∃ tl:List kh,oQ s.timers s.order tl/\all (Lx b s lg wt ot tm bv bl bp bd be bu tl []) h
variable{R:Nat->aQ->Array Obj->Prop}{d:Nat}{As F L:List HP}{g:aQ}{b:Nat}{s:cZ}{lg:ax}
theorem zN.opn(hf:Fo (zN lg b s) As L:=by exact Fo.au)(h:∀ (wt ot tm:ax) (bv bl bp bd be bu:Nat) (tl:List kh),oQ s.timers s.order tl->At R d (Lx b s lg wt ot tm bv bl bp bd be bu tl L) g):At R d As g:=by refine At.fo hf λH st=>?_;obtain⟨wt,st⟩:=st.ex;obtain⟨ot,st⟩:=st.ex;obtain⟨tm,st⟩:=st.ex;obtain⟨bv,st⟩:=st.ex;obtain⟨bl,st⟩:=st.ex;obtain⟨bp,st⟩:=st.ex;obtain⟨bd,st⟩:=st.ex;obtain⟨be,st⟩:=st.ex;obtain⟨bu,st⟩:=st.ex;obtain⟨tl,st⟩:=st.ex;obtain⟨ht,st⟩:=st.pure;exact h wt ot tm bv bl bp bd be bu tl ht H st.flat
theorem zN.cls{c:Array Value}(s:cZ)(h:At R d (zN lg b s::F) g){wt ot tm:ax}{bv bl bp bd be bu:Nat}{tl:List kh}(ht:oQ s.timers s.order tl:=by assumption)(hf:Fo (bX b (.cells c 180 (0,0))) As L:=by exact Fo.au)
  (hc:c=#[az s.me,az s.n,.bool s.up,lg.v,az s.aX,.map (some bv),.map (some bl),.map (some bp),.map (some bd),.map (some be),.map (some bu),tm.v,az s.order,az s.clock,wt.v,ot.v]:=by rfl)
  (hr:dJ [aW n9 1 272 lg s.log,cW .u8 ff bv s.values,cW .u8 dS bl s.aH,cW .i64 tT bp s.bB,cW .i64 oY bd s.done,cW .i64 oY be s.cf,cW .i64 vV bu s.cq,all (s.cq.map ql),
   aW rW 4 263 tm tl,aW bQ 7 190 wt s.waits,aW bQ 7 190 ot s.out] L F:=by exact dJ.au):At R d As g:=by
 subst hc;refine At.perm (hf.perm.trans (hr.perm.cons _)) λH st=>h H ?_;exact Sat.imp (λhh x=>⟨wt,ot,tm,bv,bl,bp,bd,be,bu,tl,ht,x⟩) (Sat.fR (l:=Lx b s lg wt ot tm bv bl bp bd be bu tl []) st)
theorem Yq{I:HL}{b:Nat}{s:cZ}{lg:ax}{so:ax}{ops:List cy}{tx home pl:Int}(ho:dX I cK 67 so ops)(hb:iX ops):
  aB prog ao bG 182 #[aE b,az tx,az home,so.v,az pl] [zN lg b s,a9 I] (λv As=>As=[zN lg b (u7 s tx home ops so pl),a9 I]):=by
 have hl:=hb.2;refine aB.of λR C kd d F c cs aJ ai=>?_;refine bI ?_;refine zN.opn (h:=λwt ot tm bv bl bp bd be bu tl ht=>?_);refine dm ?_;refine C.bS (X:=Nat×List (Int×Int)) (λx=>[(0,aE b),(1,az tx),(2,az home),(3,so.v),(4,az pl),(12,so.v),(13,az ops.length),(14,az x.1)]) (λx=>Lx b {s with aH:=x.2} lg wt ot tm bv bl bp bd be bu tl (a9 I::F)) (λx=>x.1<=ops.length/\x.2=(ops.take x.1).foldl (λl o=>bA l o.k tx) s.aH) (λx=>ops.length-x.1) (0,s.aH) ⟨rfl,rfl,rfl,rfl,rfl,rfl,rfl,rfl,trivial⟩ ⟨eC _,rfl⟩ ?_ (hI:=.refl);rintro⟨i,lk⟩ e ⟨hi,oL⟩ ih;dsimp only at hi oL⊢;refine bj ?_;refine C.cmp rfl (λnz=>?_) (λnz=>?_)
 ·refine bj ?_;have cG:i<ops.length:=by simpa using nz
  refine bj ?_;refine C.lZ rfl (λhj=>?_);refine C.al rfl (λTg=>?_);refine C.po rfl ?_ (hv:=λv h=>fM.one (f:=cK) ops[i] v (by simpa using h));refine C.go ?_;refine C.dx (cm 18 0 8) 9 [8] 0 ?_;refine Lu ?_;refine Ch.m 8 (aP λe aa hk=>?_);refine C.mu (w:=tx) (l:=lk) (q:=ops[i].k) rfl (hk _ undef ?_);refine vT ?_;refine again ih (i+1,bA lk ops[i].k tx) ⟨cG,?_⟩ (cD);rw[fq cG,eO,<- oL];rfl
 ·refine bj ?_;have e1:ops.take i=ops:=g5 (by simp at nz;omega);rw[e1]at oL;subst oL;refine k7 ?_;refine C.mu (w:=qk.mk pl home ops so) (l:=s.bB) (q:=tx) rfl ?_;refine C.go ?_;refine zN.cls (u7 s tx home ops so pl) ?_;exact C.cQ aJ ai rfl
theorem QV{I:HL}{b:Nat}{s:cZ}{lg:ax}{tx pl:Int}{yes:Bool}(hJ:ShJ I s)(hb:(jc s tx).ops.length<2^30):
  aB prog ao bG 183 #[aE b,az tx,.bool yes,az pl] [zN lg b s,a9 I] (λv As=>As=[zN lg b (mD s tx yes pl),a9 I]):=by
 refine aB.of λR C kd d F c cs aJ ai=>?_;refine bI ?_;refine zN.opn (h:=λwt ot tm bv bl bp bd be bu tl ht=>?_);have Xc:=Kg s tx;have ho:=hJ.jc tx;have hfx:mD s tx yes pl={s with values:=(jc s tx).ops.foldl (λv o=>if yes&&o.w then bA v o.k o.v else v) s.values,aH:=(jc s tx).ops.foldl (λl o=>dQ l o.k) s.aH,bB:=dQ s.bB tx,done:=bA s.done tx ⟨pl,yes⟩}:=rfl;rw[hfx]at ai;clear hfx;generalize jc s tx=p at Xc ho hb ai;obtain⟨ppl,ph,ops,so⟩:=p;dsimp only at ho hb ai;refine jL ?_;refine C.E7 Xc rfl ?_;refine C.al rfl (λb8=>?_);refine jL ?_;refine C.bS (X:=Nat×List (Int×Int)×List (Int×Int)) (λx=>[(0,aE b),(1,az tx),(2,.bool yes),(3,az pl),(19,so.v),(20,az ops.length),(21,az x.1)]) (λx=>Lx b {s with values:=x.2.1,aH:=x.2.2} lg wt ot tm bv bl bp bd be bu tl (a9 I::F)) (λx=>x.1<=ops.length/\x.2.1=(ops.take x.1).foldl (λv o=>if yes&&o.w then bA v o.k o.v else v) s.values/\x.2.2=(ops.take x.1).foldl (λl o=>dQ l o.k) s.aH) (λx=>ops.length-x.1) (0,s.values,s.aH) ⟨rfl,rfl,rfl,rfl,rfl,rfl,rfl,trivial⟩ ⟨eC _,rfl,rfl⟩ ?_;rintro⟨i,va,lk⟩ e ⟨hi,LD,oL⟩ ih;dsimp only at hi LD oL⊢;refine bj ?_;refine C.cmp rfl (λvZ=>?_) (λvZ=>?_)
 ·refine bj ?_;have cG:i<ops.length:=by simpa using vZ
  refine bj ?_;refine C.lZ rfl (λhj=>?_);refine C.al rfl (λVl=>?_);refine C.po rfl ?_ (hv:=λv h=>fM.one (f:=cK) ops[i] v (by simpa using h));refine cN ?_;rcases fU yes with rfl|rfl
  ·refine bj ?_;generalize hw:ops[i].w=z;rcases fU z with rfl|rfl
   ·refine da ?_;refine C.dx (cm 30 0 9) 10 [9] 0 ?_;refine Nh ?_;refine Ch.m 9 (aP λe aa hk=>?_);refine C.mu (w:=ops[i].v) (l:=va) (q:=ops[i].k) rfl (hk _ undef ?_);refine ee ?_;refine C.dx (cm 39 0 7) 8 [7] 0 ?_;refine Ng ?_;refine Ch.m 7 (aP λe aa hk=>?_);refine C.dl (l:=lk) (q:=ops[i].k) rfl (hk _ undef ?_);refine vT ?_;refine again ih (i+1,bA va ops[i].k ops[i].v,dQ lk ops[i].k) ⟨cG,?_,?_⟩ (cD)
    ·rw[fq cG,eO,<- LD,ks,ow,aK (by rw[hw];rfl)]
    ·rw[fq cG,eO,<- oL];rfl
   ·refine da ?_;refine C.dx (cm 39 0 7) 8 [7] 0 ?_;refine Ng ?_;refine Ch.m 7 (aP λe aa hk=>?_);refine C.dl (l:=lk) (q:=ops[i].k) rfl (hk _ undef ?_);refine vT ?_;refine again ih (i+1,va,dQ lk ops[i].k) ⟨cG,?_,?_⟩ (cD)
    ·rw[fq cG,eO,<- LD,ks,ow,aq (by rw[hw];decide)]
    ·rw[fq cG,eO,<- oL];rfl
  ·refine cF ?_;refine C.dx (cm 39 0 7) 8 [7] 0 ?_;refine Ng ?_;refine Ch.m 7 (aP λe aa hk=>?_);refine C.dl (l:=lk) (q:=ops[i].k) rfl (hk _ undef ?_);refine vT ?_;refine again ih (i+1,va,dQ lk ops[i].k) ⟨cG,?_,?_⟩ (cD)
   ·rw[fq cG,eO,<- LD,ks,ow,aq (by simp)]
   ·rw[fq cG,eO,<- oL];rfl
 ·refine bj ?_;have e1:ops.take i=ops:=g5 (by simp at vZ;omega);rw[e1]at LD oL;subst LD oL;refine dV ?_;refine C.dl rfl ?_;refine k7 ?_;refine C.mu (w:=gV.mk pl yes) (l:=s.done) (q:=tx) rfl ?_;refine C.go ?_;refine zN.cls {s with values:=ops.foldl (λv o=>if yes&&o.w then bA v o.k o.v else v) s.values,aH:=ops.foldl (λl o=>dQ l o.k) s.aH,bB:=dQ s.bB tx,done:=bA s.done tx ⟨pl,yes⟩} ?_;exact C.cQ aJ ai rfl
def Uf(s:cZ)(i:Nat):gZ->cZ
 |.eK tx home ops so=>u7 s tx home ops so i
 |.dec tx yes _ _=>{s with cf:=bA s.cf tx ⟨i,yes⟩}
 |.kg tx yes=>mD s tx yes i
def xD(log:List gZ):Nat->cZ->cZ
 |0,s=>s
 |i+1,s=>match log[i]? with|none=>xD log i s|some e=>Uf (xD log i s) i e
theorem QW(s:cZ)(i:Nat)(e:gZ):(Uf s i e).abs=yG s.abs i e.abs:=by
 cases e with
 |eK tx home ops so=>exact BF s tx home ops so i
 |dec tx yes r sr=>rfl
 |kg tx yes=>exact wV s tx yes i
theorem DO(log:List gZ)(s:cZ):∀ i,(xD log i s).abs=kL (log.map (·.abs)) i s.abs
 |0=>rfl
 |i+1=>by
  unfold xD kL;rw[kB];cases h:log[i]? with
  |none=>exact DO log s i
  |some e=>
   show(Uf (xD log i s) i e).abs=yG _ i e.abs;rw[QW,DO log s i]
structure RpS(s z:cZ):Prop where
 me:z.me=s.me
 n:z.n=s.n
 up:z.up=s.up
 log:z.log=s.log
 aX:z.aX=s.aX
 cq:z.cq=s.cq
 timers:z.timers=s.timers
 order:z.order=s.order
 clock:z.clock=s.clock
 waits:z.waits=s.waits
 out:z.out=s.out
theorem GG(log:List gZ)(s:cZ):∀ i,RpS s (xD log i s)
 |0=>⟨rfl,rfl,rfl,rfl,rfl,rfl,rfl,rfl,rfl,rfl,rfl⟩
 |i+1=>by
  have ih:=GG log s i;unfold xD;cases h:log[i]? with
  |none=>exact ih
  |some e=>cases e<;>exact⟨ih.1,ih.2,ih.3,ih.4,ih.5,ih.6,ih.7,ih.8,ih.9,ih.10,ih.11⟩
structure QX(I:HL)(s:cZ):Prop where
 o:∀ p∈s.bB,dX I cK 67 p.2.so p.2.ops/\iX p.2.ops
theorem Cb{W:Type}{m:List (Int×W)}{k:Int}{v:W}{q:Int×W->Prop}(h:∀ p∈m,q p)(hv:q (k,v)):∀ p∈bA m k v,q p:=λp hp=>by
 rcases dY hp with rfl|h1
 ·exact hv
 ·exact h p h1
theorem VC{I:HL}{log:List gZ}(jV:∀ e∈log,e.J I)(cJ:∀ tx home ops so,gZ.eK tx home ops so∈log->iX ops){s:cZ}(hJ:ShJ I s)(hQ:QX I s):∀ i,ShJ I (xD log i s)/\QX I (xD log i s)
 |0=>⟨hJ,hQ⟩
 |i+1=>by
  have ih:=VC jV cJ hJ hQ i;unfold xD;cases h:log[i]? with
  |none=>exact ih
  |some e=>
   have hm:=eS h;have he:=jV e hm;cases e with
   |eK tx home ops so=>
    have ho:=cJ tx home ops so hm;exact⟨⟨ih.1.log,Cb ih.1.bB he.1,ih.1.cq,ih.1.waits,ih.1.out⟩,⟨Cb ih.2.o ⟨he.1,ho⟩⟩⟩
   |dec tx yes r sr=>exact⟨⟨ih.1.log,ih.1.bB,ih.1.cq,ih.1.waits,ih.1.out⟩,⟨ih.2.o⟩⟩
   |kg tx yes=>exact⟨ih.1.fin tx yes i,⟨λp hp=>ih.2.o p (uR hp)⟩⟩
theorem QX.at{I:HL}{s:cZ}(h:QX I s)(tx:Int):(jc s tx).ops.length<2^30:=by
 unfold jc;cases hg:aC s.bB tx with
 |none=>exact lM 30
 |some p=>
  have:p.ops.length<2^20:=(h.o _ (bU hg)).2.2;show p.ops.length<2^30;omega
theorem Cc{W:Type}{k:Int}{v:W}:∀ (m:List (Int×W)),(bA m k v).length<=m.length+1
 |[]=>by simp[bA]
 |p::m=>by have:=Cc (k:=k) (v:=v) m;unfold bA;split<;>simp<;>omega
theorem KB(log:List gZ)(s:cZ):∀ i,(xD log i s).bB.length<=s.bB.length+i
 |0=>fI _
 |i+1=>by
  have ih:=KB log s i;unfold xD;cases h:log[i]? with
  |none=>show(xD log i s).bB.length<=_;omega
  |some e=>
   cases e with
   |eK tx home ops so=>have:=Cc (k:=tx) (v:=qk.mk i home ops so) (xD log i s).bB;show(bA (xD log i s).bB tx _).length<=_;omega
   |dec tx yes r sr=>show(xD log i s).bB.length<=_;omega
   |kg tx yes=>have:=List.Sublist.length_le (uL (k:=tx) (l:=(xD log i s).bB));show(dQ (xD log i s).bB tx).length<=_;omega
def VD:Prop:=∀ {s:ax} {l:List Int},l.length<2^20->aB prog false bG 184 #[s.v] [aW aI 1 3 s l] (λv As=>As=[aW aI 1 3 s (jn l)])
abbrev I8(s:cZ):cZ:={s with up:=true,values:=[],aH:=[],bB:=[],done:=[],cf:=[],cq:=[],timers:=[],order:=0,clock:=0,waits:=[]}
def Hb(l:List Int)(s:cZ):cZ:=l.foldl (λz tx=>jJ z tx 3 false) s
theorem KC:∀ (l:List Int) (s:cZ),(Hb l s).abs=l.foldl (λz tx=>jm z tx 3 false) s.abs
 |[],s=>rfl
 |x::l,s=>by show(Hb l (jJ s x 3 false)).abs=_;rw[KC l,ni];rfl
theorem QY(l:List Int)(x:Int)(s:cZ):Hb (l++[x]) s=jJ (Hb l s) x 3 false:=by unfold Hb;rw[eO];rfl
structure AlS(s z:cZ)(k:Nat):Prop where
 log:z.log=s.log
 bB:z.bB=s.bB
 cq:z.cq=s.cq
 waits:z.waits=s.waits
 out:z.out=s.out
 clock:z.clock=s.clock
 order:z.order=s.order+k
 timers:z.timers.length=s.timers.length+k
theorem GH:∀ (l:List Int) (s:cZ),AlS s (Hb l s) l.length
 |[],s=>⟨rfl,rfl,rfl,rfl,rfl,rfl,(Int.add_zero _).symm,rfl⟩
 |x::l,s=>by
  have h:=GH l (jJ s x 3 false);refine⟨h.log,h.bB,h.cq,h.waits,h.out,h.clock,?_,?_⟩
  ·show(Hb l (jJ s x 3 false)).order=_;rw[h.order];show s.order+1+(l.length:Int)=s.order+((l.length+1:Nat):Int);omega
  ·show(Hb l (jJ s x 3 false)).timers.length=_;rw[h.timers];show(s.timers++[_]).length+l.length=s.timers.length+(l.length+1);rw[ji];simp only[lL];omega
theorem sorted_perm{l m:List Int}(h:l.Perm m):jn l=jn m:=by
 unfold jn;have tr:∀ a b c:Int,decide (a<=b)=true->decide (b<=c)=true->decide (a<=c)=true:=by intro a b c;simp only[nD];omega
 have to:∀ a b:Int,(decide (a<=b)||decide (b<=a))=true:=by intro a b;simp only[AP,nD];omega
 refine Uu (le:=λa b=>decide (a<=b)=true) ?_ (NT tr to l) (NT tr to m) (((NU l _).trans h).trans (NU m _).symm);intro a b _ _ h1 h2;simp only[nD]at h1 h2;omega
theorem AL(hS:VD){I:HL}{b:Nat}{s:cZ}{o a:Int}(hJ:ShJ I s)(hl:s.log.length<2^15)(cJ:∀ tx home ops so,gZ.eK tx home ops so∈s.log->iX ops)(hC:wU o a s):
  aB prog false bG 145 #[aE b] [de b s,a9 I] (gn b I (o+2^15) (a+1) (jo s.abs)):=by
 have hJ0:ShJ I (I8 s):=⟨hJ.log,by simp,by simp,by simp,hJ.out⟩;have hQ0:QX I (I8 s):=⟨by simp⟩;refine aB.of λR C kd d F c cs aJ ai=>?_;refine bI ?_;refine de.opn (h:=λlg wt ot tm bv bl bp bd be bu tl ht=>?_);refine ky ?_;refine C.dk tU ?_;rintro v aO ⟨bv',bl',bp',bd',be',bu',rfl,rfl⟩;refine Vh ?_;refine C.mW rfl ?_ (s:=lg) (l:=s.log) (f:=n9);refine bj ?_;refine At.aG rW 4 263 (At.aG bQ 7 190 ?_);refine At.yB (show At R d (all (([]:List (Int×fg)).map ql)::_) _ from ?_);refine zN.cls (lg:=lg) (I8 s) (show At R d (zN lg b (xD s.log 0 (I8 s))::_) _ from ?_) (tl:=[]) (wt:=aG) (tm:=aG) (ht:=oQ.zero 0);refine C.bS (X:=Nat) (λi=>[(0,aE b),(21,lg.v),(22,az s.log.length),(23,az i)]) (λi=>zN lg b (xD s.log i (I8 s))::a9 I::F) (λi=>i<=s.log.length) (λi=>s.log.length-i) 0 ⟨rfl,rfl,rfl,rfl,trivial⟩ (eC _) ?_;intro i e hi ih;obtain⟨Zz,hQi⟩:=VC hJ.log cJ (s:=I8 s) hJ0 hQ0 i;have Ct:=GG s.log (I8 s) i;refine bj ?_;refine C.cmp rfl (λjz=>?_) (λjz=>?_)
 ·refine bj ?_;have cG:i<s.log.length:=ak;have dt:xD s.log (i+1) (I8 s)=Uf (xD s.log i (I8 s)) i s.log[i]:=by show(match s.log[i]? with|none=>_|some e=>_)=_;rw[fp cG]
  have WN:=bC cG;have hlg:(xD s.log i (I8 s)).log=s.log:=Ct.log;generalize xD s.log i (I8 s)=z at*;have hiz:i<z.log.length:=by rw[hlg];exact cG
  have hze:s.log[i]=z.log[i]:=by simp only[hlg]
  rw[hze]at dt WN;refine zN.opn (h:=λwt ot tm bv bl bp bd be bu tl ht=>?_);refine bj ?_;refine C.dT rfl ?_ (s:=lg) (l:=z.log) (f:=n9) (j:=i);refine C.vz (v:=(z.log[i]'hiz).val) rfl ?_ (s:=lg) (l:=z.log) (f:=n9) (j:=i) (o:=0);generalize z.log[i]=en at dt WN;rcases en with⟨tx,home,ops,so⟩|⟨tx,yes,reads,sr⟩|⟨tx,yes⟩
  ·refine dV ?_;refine C.ta (ok:=true) underlying274 rfl rfl ?_;refine cF ?_;refine C.al rfl (λb4=>?_);refine k7 ?_;refine zN.cls (lg:=lg) z ?_;refine C.dk (Yq (lg:=lg) (so:=so) (pl:=(i:Int)) (hJ.log _ WN).1 (cJ tx home ops so WN)) ?_;rintro v aO rfl;refine sY ?_;exact again ih (i+1) cG ak (hr:=by rw[dt];show bZ _ (zN lg b (u7 z tx home ops so i)::a9 I::F);exact bZ.au)
  ·refine dV ?_;refine C.taN (t0:=277) underlying274 rfl ⟨_,ay type274,rfl⟩ rfl ?_;refine cF ?_;refine C.ta (ok:=true) underlying277 rfl rfl ?_;refine cF ?_;refine C.al rfl (λb5=>?_);refine bj ?_;refine C.dx (cm 44 0 11) 12 [11] 0 ?_;refine H4 ?_;refine Ch.m 11 (aP λe aa hk=>?_);refine C.mu (w:=gV.mk i yes) (l:=z.cf) (q:=tx) rfl (hk _ undef ?_);refine vT ?_;refine zN.cls (lg:=lg) {z with cf:=bA z.cf tx ⟨i,yes⟩} ?_;exact again ih (i+1) cG ak (hr:=by rw[dt];show bZ _ (zN lg b {z with cf:=bA z.cf tx ⟨i,yes⟩}::a9 I::F);exact bZ.au)
  ·refine dV ?_;refine C.taN (t0:=281) underlying274 rfl ⟨_,ay type274,rfl⟩ rfl ?_;refine cF ?_;refine C.taN (t0:=281) underlying277 rfl ⟨_,ay type277,rfl⟩ rfl ?_;refine cF ?_;refine C.ta (ok:=true) underlying281 rfl rfl ?_;refine cF ?_;refine C.al rfl (λb6=>?_);refine ky ?_;refine zN.cls (lg:=lg) z ?_;refine C.dk (QV (lg:=lg) (pl:=(i:Int)) Zz (hQi.at tx)) ?_;rintro v aO rfl;refine sY ?_;exact again ih (i+1) cG ak (hr:=by rw[dt];show bZ _ (zN lg b (mD z tx yes i)::a9 I::F);exact bZ.au)
 ·refine cF ?_;have e1:i=s.log.length:=ak;subst e1;have hza:=DO s.log (I8 s) s.log.length;have hzl:=KB s.log (I8 s) s.log.length;generalize xD s.log s.log.length (I8 s)=z at*;have hzl:z.bB.length<=s.log.length:=by have h:z.bB.length<=0+s.log.length:=hzl;omega
  refine zN.opn (h:=λwt ot tm bv bl bp bd be bu tl ht=>?_);refine At.xl (A:=cW .i64 tT bp z.bB) Fo.au vi λlP=>?_;refine dm ?_;refine C.rn (g:=tT) (l:=z.bB) rfl (λb71=>?_);refine C.go ?_;refine At.aG aI 1 3 ?_;refine C.bS (X:=List (Int×qk)×ax) (λx=>[(0,aE b),(7,x.2.v),(71,.pointer (some ⟨b71,0,none⟩))]) (λx=>aW aI 1 3 x.2 (x.1.reverse.map (·.1))::HN .i64 tT bp b71 z.bB (x.1.map (·.1))::sxC b z lg wt ot tm bv bl bp bd be bu::aW n9 1 272 lg z.log::cW .u8 ff bv z.values::cW .u8 dS bl z.aH::cW .i64 oY bd z.done::cW .i64 oY be z.cf::cW .i64 vV bu z.cq::all (z.cq.map ql)::aW rW 4 263 tm tl::aW bQ 7 190 wt z.waits::aW bQ 7 190 ot z.out::a9 I::F) (λx=>xy z.bB x.1) (λx=>z.bB.length-x.1.length) ([],aG) ⟨rfl,rfl,rfl,trivial⟩ ⟨.nil,λp hp=>(nomatch hp)⟩ ?_ (hI:=by simp only[Em,ml];exact bZ.au);rintro⟨vl,s7⟩ e hc ih;dsimp only at hc⊢;refine bj ?_;refine C.nx (g:=tT) (l:=z.bB) rfl (λk72 w72 m72 h72=>?_) (λh72=>?_)
  ·refine da ?_;have afA:=ed lP m72;have kx:=hc.add m72 h72;have wE:=kx.len;have Vr:(vl.reverse.map (·.1)).length=vl.length:=by simp
   simp only[jd]at wE;refine fy ?_;refine C.ent afA rfl ?_ Fo.au;refine dm ?_;refine C.n5 rfl (λb78=>?_);refine C.oh (f:=aI) (l:=vl.reverse.map (·.1)) k72 rfl (λs8=>?_);refine bj ?_;refine again ih ((k72,w72)::vl,s8) kx (by simp only[jd];omega) (hr:=?_);simp only[Jw,eI,iJ,ml];exact bZ.au
  ·refine da ?_;refine At.CU (l:=z.bB) (g:=tT) Fo.au ?_;refine de.cls z ?_ (lg:=lg);have RG:=((NZ vl).trans (hc.all lP h72)).map (·.1);have Vr:(vl.reverse.map (·.1)).length=z.bB.length:=by rw[RG.length_eq,dd]
   refine bj ?_;refine C.dk (hS (s:=s7) (l:=vl.reverse.map (·.1)) ak) ?_;rintro v aO rfl;refine bI ?_;rw[sorted_perm RG];obtain⟨L,hL⟩:∃ L,L=jn (z.bB.map (·.1)):=⟨_,rfl⟩;have hLl:L.length=z.bB.length:=by rw[hL];unfold jn;simp
   rw[<- hL];refine da ?_;refine C.mW rfl ?_ (f:=aI) (s:=s7) (l:=L);refine bj ?_;refine C.bS (X:=Nat) (λx=>[(0,aE b),(82,s7.v),(83,az L.length),(84,az x)]) (λx=>aW aI 1 3 s7 L::de b (Hb (L.take x) z)::a9 I::F) (λx=>x<=L.length) (λx=>L.length-x) 0 ⟨rfl,rfl,rfl,rfl,trivial⟩ (eC _) ?_ (hI:=by rw[show Hb (L.take 0) z=z from rfl];exact bZ.au);intro x e hx ih;have has:=GH (L.take x) z;have BO:(L.take x).length=x:=by rw[iz];omega
   rw[BO]at has;have h1:=has.order;have h2:=has.timers;have h3:=has.clock;rw[Ct.order]at h1;rw[Ct.timers]at h2;rw[Ct.clock]at h3;have h1:(Hb (L.take x) z).order=0+(x:Int):=h1;have h2:(Hb (L.take x) z).timers.length=0+x:=h2;have h3:(Hb (L.take x) z).clock=0:=h3;refine bj ?_;refine C.cmp rfl (λZn=>?_) (λZn=>?_)
   ·refine bj ?_;have jK:x<L.length:=ak;refine fy ?_;refine C.dT rfl ?_ (f:=aI) (s:=s7) (l:=L) (j:=x);refine C.vz (v:=az (L[x]'jK)) rfl ?_ (f:=aI) (s:=s7) (l:=L) (j:=x) (o:=0);refine cF ?_;refine C.dk (km (s:=Hb (L.take x) z) (tx:=L[x]'jK) (ticks:=3) (again:=false) ak ak ak ak) ?_;rintro v aO rfl;refine sY ?_;exact again ih (x+1) jK ak (hr:=by rw[fq jK,QY];exact bZ.au)
   ·refine bj ?_;have e2:L.take x=L:=g5 ak;rw[e2]at has h1 h2 h3⊢;refine C.cQ (aO:=[de b (Hb L z),a9 I]) aJ ai ⟨I,Hb L z,Sub.refl _,⟨by rw[has.log];exact Zz.log,by rw[has.bB];exact Zz.bB,by rw[has.cq];exact Zz.cq,by rw[has.waits];exact Zz.waits,by rw[has.out];exact Zz.out⟩,?_,⟨by have:=hC.z;omega,⟨ak,by have:=hC.o;omega⟩,?_⟩,rfl⟩
    ·rw[KC,hza,hL];unfold jo;dsimp only;have e3:(I8 s).abs=iP {s.abs with up:=true}:=by simp[cZ.abs,iP]
     have e4:s.abs.log=s.log.map (·.abs):=rfl;have e5:z.bB.map (·.1)=z.abs.bB.map (·.1):=by simp[cZ.abs]
     rw[e5,hza,e3,e4,dd];rfl
    ·rw[has.cq,Ct.cq];simp
end
section
open Go.Proofs Go.Sort
variable{ao:Bool}
theorem QZ{x:Int}:aB prog ao bG 232 #[az x] [] (λv As=>v=.bool false/\As=[]):=by refine aB.of λR C kd d F c cs aJ ai=>?_;refine H0 ?_;refine C.du rfl ?_;refine bj ?_;exact C.a8 aJ ai ⟨rfl,rfl⟩
theorem fH{x y:Int}:aB prog ao bG 222 #[az x,az y] [] (λv As=>v=.bool (decide (x<y))/\As=[]):=by
 refine aB.of λR C kd d F c cs aJ ai=>?_;refine Ec ?_;refine C.cE QZ (A:=[]) ?_;refine pb ?_;refine jL ?_;refine C.cmp rfl (λnz=>?_) (λnz=>?_)
 ·refine da ?_;exact C.a8 aJ ai ⟨by rw[sE nz],rfl⟩
 ·refine da ?_;exact C.a8 aJ ai ⟨by rw[jD nz],rfl⟩
theorem gp{d:Array Int}{i j:Nat}(hi:i<d.size)(hj:j<d.size):(swp d i j).toList=(d.toList.set i (d.toList[j]'(by simpa using hj))).set j (d.toList[i]'(by simpa using hi)):=by unfold swp;simp[hi,hj]
theorem swp_size{d:Array Int}{i j:Nat}:(swp d i j).size=d.size:=by simp[swp]
theorem o6{d:Array Int}{i:Nat}(hi:i<d.size):d[i]! =d.toList[i]'(by simpa using hi):=by simp[hi]
end
section
open Go.Proofs Go.Sort
variable{ao:Bool}
theorem tq{a b i:Nat}{d:Array Int}(h:i<b):insOuter ltInt a b i d=insOuter ltInt a b (i+1) (insInner ltInt a i d):=by
 conv=>lhs;unfold insOuter
 rw[aK h]
theorem DQ{a b i:Nat}{d:Array Int}(h:¬ i<b):insOuter ltInt a b i d=d:=by unfold insOuter;rw[aq h]
theorem Q0{s:ax}{d:Array Int}{a b:Nat}(ha:a<=b)(hb:b<=d.size)(hl:d.size<2^40):
  aB prog ao bG 216 #[s.v,az a,az b] [aW aI 1 3 s d.toList] (λv As=>As=[aW aI 1 3 s (insertionSort ltInt d a b).toList]):=by
 refine aB.of λR C kd d0 F c cs aJ ai=>?_;refine bI ?_;refine da ?_;refine C.ar (p:=(a:Int)) (q:=1) (r:=((a+1:Nat):Int)) rfl ?_ (hr:=pq ak ak);refine bj ?_;refine C.bS (X:=Nat×Array Int) (λx=>[(0,s.v),(1,az a),(2,az b),(6,az x.1)]) (λx=>aW aI 1 3 s x.2.toList::F) (λx=>x.2.size=d.size/\insOuter ltInt a b x.1 x.2=insertionSort ltInt d a b) (λx=>b-x.1) (a+1,d) ⟨rfl,rfl,rfl,rfl,trivial⟩ ⟨rfl,rfl⟩ ?_;rintro⟨i,d1⟩ e ⟨iD,ho⟩ ih;dsimp only at iD ho⊢;refine cN ?_;refine C.cmp rfl (λoa=>?_) (λoa=>?_)
 ·refine dm ?_;have Om:i<b:=ak;refine C.bS (X:=Nat×Array Int) (λx=>[(0,s.v),(1,az a),(2,az b),(6,az i),(7,az x.1)]) (λx=>aW aI 1 3 s x.2.toList::F) (λx=>x.1<=i/\x.2.size=d.size/\insInner ltInt a x.1 x.2=insInner ltInt a i d1) (λx=>x.1) (i,d1) ⟨rfl,rfl,rfl,rfl,rfl,trivial⟩ ⟨fI _,iD,rfl⟩ ?_;rintro⟨j,d2⟩ e ⟨C3,sK,jE⟩ D7;dsimp only at C3 sK jE⊢;refine C.go ?_;have D5:d2.toList.length=d.size:=by simpa using sK
  rcases(show(∃ j',j=j'+1/\a<j'+1)\/¬ a<j from by rcases oq a j with h|h;exact .inl ⟨j-1,ak,ak⟩;exact .inr ak)with⟨j',rfl,hja⟩|hja
  ·refine C.dx (cm 16 0 15) 15 [13,14] 0 ?_;refine jy ?_;refine Dr.p (λh=>C.eE rfl h) ?_;refine qs ?_;refine Dr.l (λhE h=>C.dT rfl h (s:=s) (l:=d2.toList) (f:=aI) (j:=j'+1)) ?_;refine Dr.l (v:=az (d2.toList[j'+1]'(by omega))) (λhE h=>C.dG rfl h (s:=s) (l:=d2.toList) (f:=aI) (j:=j'+1)) ?_;refine jy ?_;refine Dr.p (v:=az (j':Int)) (λh=>C.ar (p:=((j'+1:Nat):Int)) (q:=1) (r:=(j':Int)) rfl h (ha:=by show some (((j'+1:Nat):Int)-1)=some (j':Int);rw[show((j'+1:Nat):Int)-1=j' by omega]) (hr:=pq ak ak)) ?_;refine Dr.l (λhE h=>C.dT rfl h (s:=s) (l:=d2.toList) (f:=aI) (j:=j')) ?_;refine Dr.l (v:=az (d2.toList[j']'(by omega))) (λhE h=>C.dG rfl h (s:=s) (l:=d2.toList) (f:=aI) (j:=j')) ?_;refine Dr.chain rfl ?_;refine Ch.m 13 (aP λe aa hk=>?_);refine C.cE (fH (x:=d2.toList[j'+1]'(by omega)) (y:=d2.toList[j']'(by omega))) (A:=[]) ?_;refine pb ?_;refine hk _ _ ?_;refine Ch.q 14 (λh=>C.pk rfl h) ?_;refine ee ?_;refine C.pU (λIC=>?_) (λIC=>?_)
   ·refine C.go ?_;refine C.dx (cm 33 0 15++[(48,16)]) 18 [15,16,17] 0 ?_;refine HZ ?_;refine Dr.p (v:=az (j':Int)) (λh=>C.ar (p:=((j'+1:Nat):Int)) (q:=1) (r:=(j':Int)) rfl h (ha:=by show some (((j'+1:Nat):Int)-1)=some (j':Int);rw[show((j'+1:Nat):Int)-1=j' by omega]) (hr:=pq ak ak)) ?_;refine jy ?_;refine Dr.p (v:=az (j':Int)) (λh=>C.ar (p:=((j'+1:Nat):Int)) (q:=1) (r:=(j':Int)) rfl h (ha:=by show some (((j'+1:Nat):Int)-1)=some (j':Int);rw[show((j'+1:Nat):Int)-1=j' by omega]) (hr:=pq ak ak)) ?_;refine Dr.l (λhE h=>C.dT rfl h (s:=s) (l:=d2.toList) (f:=aI) (j:=j')) ?_;refine Dr.l (v:=az (d2.toList[j']'(by omega))) (λhE h=>C.dG rfl h (s:=s) (l:=d2.toList) (f:=aI) (j:=j')) ?_;refine jy ?_;refine Dr.l (λhE h=>C.dT rfl h (s:=s) (l:=d2.toList) (f:=aI) (j:=j'+1)) ?_;refine Dr.l (v:=az (d2.toList[j'+1]'(by omega))) (λhE h=>C.dG rfl h (s:=s) (l:=d2.toList) (f:=aI) (j:=j'+1)) ?_;refine Dr.l (λhE h=>C.dT rfl h (s:=s) (l:=d2.toList) (f:=aI) (j:=j'+1)) ?_;refine Dr.chain rfl ?_;refine Ch.m 15 (aP λe aa hk=>?_);refine C.iB (s:=s) (l:=d2.toList) (f:=aI) (j:=j'+1) (d2.toList[j']'(by omega)) rfl (hk _ undef ?_);refine Ch.m 16 (aP λe aa hk=>?_);refine C.dT rfl (hk _ _ ?_) (s:=s) (l:=d2.toList.set (j'+1) (d2.toList[j']'(by omega))) (f:=aI) (j:=j') (hj:=by rw[cS];omega);refine Ch.m 17 (aP λe aa hk=>?_);refine C.iB (s:=s) (l:=d2.toList.set (j'+1) (d2.toList[j']'(by omega))) (f:=aI) (j:=j') (d2.toList[j'+1]'(by omega)) rfl (hk _ undef ?_) (hj:=by rw[cS];omega);refine Nc ?_;refine C.ar (p:=((j'+1:Nat):Int)) (q:=1) (r:=(j':Int)) rfl ?_ (ha:=by show some (((j'+1:Nat):Int)-1)=some (j':Int);rw[show((j'+1:Nat):Int)-1=j' by omega]) (hr:=pq ak ak);refine bj ?_;have zV:d2[j'+1]! =d2.toList[j'+1]'(by omega):=o6 ak;have N6:d2[j']! =d2.toList[j']'(by omega):=o6 ak;have dt:insInner ltInt a (j'+1) d2=insInner ltInt a j' (swp d2 (j'+1) j'):=by
     conv=>lhs;unfold insInner
     rw[aK];simp only[ltInt,zV,N6,j8,nD];exact⟨hja,by simpa using IC⟩
    have vu:=gp (d:=d2) (i:=j'+1) (j:=j') ak ak;exact again D7 (j',swp d2 (j'+1) j') ⟨ak,by rw[swp_size];exact sK,by rw[<- dt];exact jE⟩ (cD) (hr:=by dsimp only;rw[vu];exact bZ.au)
   ·refine dm ?_;have zV:d2[j'+1]! =d2.toList[j'+1]'(by omega):=o6 ak;have N6:d2[j']! =d2.toList[j']'(by omega):=o6 ak;have dt:insInner ltInt a (j'+1) d2=d2:=by unfold insInner;rw[aq];simp only[ltInt,zV,N6,j8,nD];rintro⟨_,h⟩;exact absurd h (by simpa using IC)
    exact again ih (i+1,d2) ⟨sK,by rw[<- ho,tq Om,<- jE,dt]⟩ (cD)
  ·refine C.dx (cm 16 0 15) 15 [13,14] 0 ?_;refine jy ?_;refine Dr.p (λh=>C.du rfl h) ?_;refine C6 ?_;refine Ch.m 13 (aP λe aa hk=>?_);refine C.no rfl (hk _ _ ?_);refine Ch.q 14 (λh=>C.pk rfl h) ?_;refine Lt ?_;have dt:insInner ltInt a j d2=d2:=by
    cases j with
    |zero=>rfl
    |succ j=>
     unfold insInner;rw[aq];simp only[j8,nD];omega
   exact again ih (i+1,d2) ⟨sK,by rw[<- ho,tq Om,<- jE,dt]⟩ (cD)
 ·refine bj ?_;rw[<- ho,DQ ak]at ai;exact C.cQ aJ ai rfl
end
section
open Go.Proofs Go.Sort
variable{ao:Bool}
theorem Q1{i j:Nat}{d:Array Int}(h:i<j):reverseLoop i j d=reverseLoop (i+1) (j-1) (swp d i j):=by
 conv=>lhs;unfold reverseLoop
 rw[aK h]
theorem Ug{i j:Nat}{d:Array Int}(h:¬ i<j):reverseLoop i j d=d:=by unfold reverseLoop;rw[aq h]
theorem Q2{s:ax}{d:Array Int}{a b:Nat}(h1:1<=b)(ha:a<=b)(hb:b<=d.size)(hl:d.size<2^40):
  aB prog ao bG 220 #[s.v,az a,az b] [aW aI 1 3 s d.toList] (λv As=>As=[aW aI 1 3 s (reverseRange d a b).toList]):=by
 refine aB.of λR C kd d0 F c cs aJ ai=>?_;refine bI ?_;obtain⟨b,rfl⟩:∃ b',b=b'+1:=⟨b-1,ak⟩;have ai:∀ v aO,aO=[aW aI 1 3 s (reverseLoop a b d).toList]->At R d0 (aO++F) (after kd c cs v):=ai;refine dV ?_;refine C.ar (p:=((b+1:Nat):Int)) (q:=1) (r:=(b:Int)) rfl ?_ (ha:=by show some (((b+1:Nat):Int)-1)=some (b:Int);rw[show((b+1:Nat):Int)-1=b by omega]) (hr:=pq ak ak);refine bj ?_;refine C.bS (X:=Nat×Nat×Array Int) (λx=>[(0,s.v),(6,az x.1),(7,az x.2.1)]) (λx=>aW aI 1 3 s x.2.2.toList::F) (λx=>x.2.1<d.size/\x.2.2.size=d.size/\reverseLoop x.1 x.2.1 x.2.2=reverseLoop a b d) (λx=>x.2.1) (a,b,d) ⟨rfl,rfl,rfl,trivial⟩ ⟨cD,rfl,rfl⟩ ?_;rintro⟨i,j,d1⟩ e ⟨hj,iD,ho⟩ ih;dsimp only at hj iD ho⊢;refine cN ?_;refine C.cmp rfl (λre=>?_) (λre=>?_)
 ·refine bj ?_;have G0:i<j:=ak;have D5:d1.toList.length=d.size:=by simpa using iD
  refine C.dx (cm 14 0 13++[(27,14)]) 16 [13,14,15] 0 ?_;refine n7 ?_;refine Dr.l (λhE h=>C.dT rfl h (s:=s) (l:=d1.toList) (f:=aI) (j:=j)) ?_;refine Dr.l (v:=az (d1.toList[j]'(by omega))) (λhE h=>C.dG rfl h (s:=s) (l:=d1.toList) (f:=aI) (j:=j)) ?_;refine jy ?_;refine Dr.l (λhE h=>C.dT rfl h (s:=s) (l:=d1.toList) (f:=aI) (j:=i)) ?_;refine Dr.l (v:=az (d1.toList[i]'(by omega))) (λhE h=>C.dG rfl h (s:=s) (l:=d1.toList) (f:=aI) (j:=i)) ?_;refine Dr.l (λhE h=>C.dT rfl h (s:=s) (l:=d1.toList) (f:=aI) (j:=i)) ?_;refine Dr.chain rfl ?_;refine Ch.m 13 (aP λe aa hk=>?_);refine C.iB (s:=s) (l:=d1.toList) (f:=aI) (j:=i) (d1.toList[j]'(by omega)) rfl (hk _ undef ?_);refine Ch.m 14 (aP λe aa hk=>?_);refine C.dT rfl (hk _ _ ?_) (s:=s) (l:=d1.toList.set i (d1.toList[j]'(by omega))) (f:=aI) (j:=j) (hj:=by rw[cS];omega);refine Ch.m 15 (aP λe aa hk=>?_);refine C.iB (s:=s) (l:=d1.toList.set i (d1.toList[j]'(by omega))) (f:=aI) (j:=j) (d1.toList[i]'(by omega)) rfl (hk _ undef ?_) (hj:=by rw[cS];omega);refine PH ?_;refine C.i5 (j-1) rfl ?_;refine bj ?_;have vu:=gp (d:=d1) (i:=i) (j:=j) ak ak;exact again ih (i+1,j-1,swp d1 i j) ⟨cD,by rw[swp_size];exact iD,by rw[<- Q1 G0];exact ho⟩ (cD) (hr:=by dsimp only;rw[vu];exact bZ.au)
 ·refine bj ?_;rw[<- ho,Ug ak]at ai;exact C.cQ aJ ai rfl
end
section
open Go.Proofs Go.Sort
variable{ao:Bool}
theorem Ce{hi fstv root:Nat}{d:Array Int}(h:hi<=2*root+1):siftDown ltInt hi fstv root d=d:=by unfold siftDown;rw[yd h]
theorem I9{hi fstv root:Nat}{d:Array Int}(h2:2*root+2<hi)(hl:ltInt d[fstv+(2*root+1)]! d[fstv+(2*root+2)]! =true):
  siftDown ltInt hi fstv root d=if !ltInt d[fstv+root]! d[fstv+(2*root+2)]! then d else siftDown ltInt hi fstv (2*root+2) (swp d (fstv+root) (fstv+(2*root+2))):=by
 conv=>lhs;unfold siftDown
 rw[dif_neg ak,aK (by rw[show fstv+(2*root+1)+1=fstv+(2*root+2) by omega,hl];simp;omega),yd h2]
theorem Cf{hi fstv root:Nat}{d:Array Int}(h1:2*root+1<hi)(hl:2*root+2<hi->ltInt d[fstv+(2*root+1)]! d[fstv+(2*root+2)]! =false):
  siftDown ltInt hi fstv root d=if !ltInt d[fstv+root]! d[fstv+(2*root+1)]! then d else siftDown ltInt hi fstv (2*root+1) (swp d (fstv+root) (fstv+(2*root+1))):=by
 conv=>lhs;unfold siftDown
 rw[dif_neg ak,aq];simp only[j8,nD];rintro⟨h3,h4⟩;have:=hl h3;rw[show fstv+(2*root+1)+1=fstv+(2*root+2) by omega,this]at h4;cases h4
theorem xY{d:Array Int}{i j:Nat}(hi:i<d.size)(hj:j<d.size):ltInt d[i]! d[j]! =decide (d.toList[i]'(by simpa using hi)<d.toList[j]'(by simpa using hj)):=by unfold ltInt;rw[o6 hi,o6 hj]
theorem Cg{s:ax}{d:Array Int}{lo hi fstv:Nat}(hb:fstv+hi<=d.size)(og:lo<=d.size)(hl:d.size<2^40):
  aB prog ao bG 227 #[s.v,az lo,az hi,az fstv] [aW aI 1 3 s d.toList] (λv As=>As=[aW aI 1 3 s (siftDown ltInt hi fstv lo d).toList]):=by
 refine aB.of λR C kd d0 F c cs aJ ai=>?_;refine sY ?_;refine C.bS (X:=Nat×Array Int) (λx=>[(0,s.v),(2,az hi),(3,az fstv),(8,az x.1)]) (λx=>aW aI 1 3 s x.2.toList::F) (λx=>x.1<=d.size/\x.2.size=d.size/\siftDown ltInt hi fstv x.1 x.2=siftDown ltInt hi fstv lo d) (λx=>d.size-x.1) (lo,d) ⟨rfl,rfl,rfl,rfl,trivial⟩ ⟨og,rfl,rfl⟩ ?_;rintro⟨root,d1⟩ e ⟨hr0,iD,ho⟩ ih;dsimp only at hr0 iD ho⊢;have D5:d1.toList.length=d.size:=by simpa using iD
 refine da ?_;refine C.i5 (2*root) rfl ?_;refine C.i5 (2*root+1) rfl ?_;refine cF ?_;refine C.cmp rfl (λEd=>?_) (λEd=>?_)
 ·refine bj ?_;rw[<- ho,Ce ak]at ai;exact C.cQ aJ ai rfl
 ·refine bj ?_;have nX:2*root+1<hi:=ak;apply kI (X:=Nat) (λq=>2*root+1<=q/\q<hi/\siftDown ltInt hi fstv root d1=if !ltInt d1[fstv+root]! d1[fstv+q]! then d1 else siftDown ltInt hi fstv q (swp d1 (fstv+root) (fstv+q))) (λq=>[(0,s.v),(2,az hi),(3,az fstv),(8,az root),(9,az q)]) (λ_=>aW aI 1 3 s d1.toList::F) (R:=R) (d:=d0) (fn:=227) (kd:=kd) (n:=76) (ds:=[]) (cs:=c::cs)
  ·intro Yr;rcases oq (2*root+2) hi with hc|hc
   ·refine C.dx (cm 17 0 20) 20 [18,19] 0 ?_;refine k6 ?_;refine Dr.p (v:=az ((2*root+2:Nat):Int)) (λh=>C.i5 (2*root+2) rfl h) ?_;refine k6 ?_;refine Dr.p (λh=>C.eE rfl h) ?_;refine HZ ?_;refine Dr.pu (v:=az ((fstv+(2*root+1):Nat):Int)) ⟨_,rfl,rfl⟩ (λ_ _ _ h=>C.i5 (fstv+(2*root+1)) rfl h) ?_;refine Dr.l (λhE h=>C.dT rfl h (s:=s) (l:=d1.toList) (f:=aI) (j:=fstv+(2*root+1))) ?_;refine Dr.l (v:=az (d1.toList[fstv+(2*root+1)]'(by omega))) (λhE h=>C.dG rfl h (s:=s) (l:=d1.toList) (f:=aI) (j:=fstv+(2*root+1))) ?_;refine qs ?_;refine Dr.pu (v:=az ((fstv+(2*root+1):Nat):Int)) ⟨_,rfl,rfl⟩ (λ_ _ _ h=>C.i5 (fstv+(2*root+1)) rfl h) ?_;refine Dr.pu (v:=az ((fstv+(2*root+2):Nat):Int)) ⟨_,rfl,rfl⟩ (λ_ _ _ h=>C.i5 (fstv+(2*root+2)) rfl h) ?_;refine Dr.l (λhE h=>C.dT rfl h (s:=s) (l:=d1.toList) (f:=aI) (j:=fstv+(2*root+2))) ?_;refine Dr.l (v:=az (d1.toList[fstv+(2*root+2)]'(by omega))) (λhE h=>C.dG rfl h (s:=s) (l:=d1.toList) (f:=aI) (j:=fstv+(2*root+2))) ?_;refine Dr.chain rfl ?_;refine Ch.m 18 (aP λe aa hk=>?_);refine C.cE (fH (x:=d1.toList[fstv+(2*root+1)]'(by omega)) (y:=d1.toList[fstv+(2*root+2)]'(by omega))) (A:=[]) ?_;refine pb ?_;refine hk _ _ ?_;refine Ch.q 19 (λh=>C.pk rfl h) ?_;refine ee ?_;refine C.pU (λYs=>?_) (λYs=>?_)
    ·refine C.go ?_;refine bj ?_;refine C.i5 (2*root+2) rfl ?_;refine bj ?_;exact bN Yr (2*root+2) ⟨ak,hc,I9 hc (by rw[xY ak ak];exact Ys)⟩
    ·refine C.go ?_;exact bN Yr (2*root+1) ⟨fI _,nX,Cf nX (λ_=>by rw[xY ak ak];exact Ys)⟩
   ·refine C.dx (cm 17 0 20) 20 [18,19] 0 ?_;refine k6 ?_;refine Dr.p (v:=az ((2*root+2:Nat):Int)) (λh=>C.i5 (2*root+2) rfl h) ?_;refine k6 ?_;refine Dr.p (λh=>C.du rfl h) ?_;refine Tb ?_;refine Ch.m 18 (aP λe aa hk=>?_);refine C.no rfl (hk _ _ ?_);refine Ch.q 19 (λh=>C.pk rfl h) ?_;refine oi ?_;exact bN Yr (2*root+1) ⟨fI _,nX,Cf nX (λh=>absurd h ak)⟩
  ·rintro q ⟨hq1,pT,PM⟩ e;refine C.dx (cm 39 0 14) 14 [12,13] 0 ?_;refine qs ?_;refine Dr.p (v:=az ((fstv+root:Nat):Int)) (λh=>C.i5 (fstv+root) rfl h) ?_;refine Dr.l (λhE h=>C.dT rfl h (s:=s) (l:=d1.toList) (f:=aI) (j:=fstv+root)) ?_;refine Dr.l (v:=az (d1.toList[fstv+root]'(by omega))) (λhE h=>C.dG rfl h (s:=s) (l:=d1.toList) (f:=aI) (j:=fstv+root)) ?_;refine qs ?_;refine Dr.p (v:=az ((fstv+q:Nat):Int)) (λh=>C.i5 (fstv+q) rfl h) ?_;refine Dr.l (λhE h=>C.dT rfl h (s:=s) (l:=d1.toList) (f:=aI) (j:=fstv+q)) ?_;refine Dr.l (v:=az (d1.toList[fstv+q]'(by omega))) (λhE h=>C.dG rfl h (s:=s) (l:=d1.toList) (f:=aI) (j:=fstv+q)) ?_;refine Dr.chain rfl ?_;refine Ch.m 12 (aP λe aa hk=>?_);refine C.cE (fH (x:=d1.toList[fstv+root]'(by omega)) (y:=d1.toList[fstv+q]'(by omega))) (A:=[]) ?_;refine pb ?_;refine hk _ _ ?_;refine Ch.q 13 (λh=>C.nt rfl h) ?_;refine ee ?_;refine C.pU (λYt=>?_) (λYt=>?_)
   ·refine C.go ?_;rw[<- ho,PM,aK (by rw[xY ak ak];exact Yt)]at ai;exact C.a8 aJ ai rfl
   ·refine C.go ?_;refine C.dx (cm 53 0 21++[(74,22)]) 24 [21,22,23] 0 ?_;refine qs ?_;refine Dr.p (v:=az ((fstv+root:Nat):Int)) (λh=>C.i5 (fstv+root) rfl h) ?_;refine qs ?_;refine Dr.p (v:=az ((fstv+q:Nat):Int)) (λh=>C.i5 (fstv+q) rfl h) ?_;refine qs ?_;refine Dr.p (v:=az ((fstv+q:Nat):Int)) (λh=>C.i5 (fstv+q) rfl h) ?_;refine Dr.l (λhE h=>C.dT rfl h (s:=s) (l:=d1.toList) (f:=aI) (j:=fstv+q)) ?_;refine Dr.l (v:=az (d1.toList[fstv+q]'(by omega))) (λhE h=>C.dG rfl h (s:=s) (l:=d1.toList) (f:=aI) (j:=fstv+q)) ?_;refine qs ?_;refine Dr.p (v:=az ((fstv+root:Nat):Int)) (λh=>C.i5 (fstv+root) rfl h) ?_;refine Dr.l (λhE h=>C.dT rfl h (s:=s) (l:=d1.toList) (f:=aI) (j:=fstv+root)) ?_;refine Dr.l (v:=az (d1.toList[fstv+root]'(by omega))) (λhE h=>C.dG rfl h (s:=s) (l:=d1.toList) (f:=aI) (j:=fstv+root)) ?_;refine Dr.l (λhE h=>C.dT rfl h (s:=s) (l:=d1.toList) (f:=aI) (j:=fstv+root)) ?_;refine Dr.chain rfl ?_;refine Ch.m 21 (aP λe aa hk=>?_);refine C.iB (s:=s) (l:=d1.toList) (f:=aI) (j:=fstv+root) (d1.toList[fstv+q]'(by omega)) rfl (hk _ undef ?_);refine Ch.m 22 (aP λe aa hk=>?_);refine C.dT rfl (hk _ _ ?_) (s:=s) (l:=d1.toList.set (fstv+root) (d1.toList[fstv+q]'(by omega))) (f:=aI) (j:=fstv+q) (hj:=by rw[cS];omega);refine Ch.m 23 (aP λe aa hk=>?_);refine C.iB (s:=s) (l:=d1.toList.set (fstv+root) (d1.toList[fstv+q]'(by omega))) (f:=aI) (j:=fstv+q) (d1.toList[fstv+root]'(by omega)) rfl (hk _ undef ?_) (hj:=by rw[cS];omega);refine vT ?_;have vu:=gp (d:=d1) (i:=fstv+root) (j:=fstv+q) ak ak;exact again ih (q,swp d1 (fstv+root) (fstv+q)) ⟨cD,by rw[swp_size];exact iD,by rw[<- ho,PM,aq (by rw[xY ak ak];simpa using Yt)]⟩ (cD) (hr:=by dsimp only;rw[vu];exact bZ.au)
end
section
open Go.Proofs Go.Sort
variable{ao:Bool}
theorem sd(hi fstv:Nat):∀ (n root:Nat) (d:Array Int),hi-root<=n->(siftDown ltInt hi fstv root d).size=d.size
 |0,root,d,h=>by rw[Ce ak]
 |n+1,root,d,h=>by
  unfold siftDown;split
  ·rfl
  ·split
   ·split
    ·rfl
    ·split
     ·rw[sd hi fstv n _ _ ak,swp_size]
     ·rfl
   ·split
    ·rfl
    ·rw[sd hi fstv n _ _ ak,swp_size]
theorem MJ{s:ax}{d:Array Int}{a b:Nat}(Ea:a<b)(hb:b<=d.size)(hl:d.size<2^40):
  aB prog ao bG 217 #[s.v,az a,az b] [aW aI 1 3 s d.toList] (λv As=>As=[aW aI 1 3 s (heapSort ltInt d a b).toList]):=by
 refine aB.of λR C kd d0 F c cs aJ ai=>?_;refine bI ?_;have VE:(((b-a:Nat):Int)-1).tdiv 2=(((b-a-1)/2+1:Nat):Int)-1:=by rw[Db (b-a)];omega
 refine k7 ?_;refine C.i5 (b-a) rfl ?_;refine cF ?_;refine C.quo rfl ?_ (hr:=by rw[VE];exact pq ak ak);rw[VE];refine bj ?_;refine C.bS (X:=Nat×Array Int) (λx=>[(0,s.v),(6,az a),(7,az 0),(8,az ((b-a:Nat):Int)),(9,az ((x.1:Int)-1))]) (λx=>aW aI 1 3 s x.2.toList::F) (λx=>x.1<=d.size/\x.2.size=d.size/\heapPop ltInt a (b-a) (heapBuild ltInt (b-a) a x.1 x.2)=heapSort ltInt d a b) (λx=>x.1) ((b-a-1)/2+1,d) ⟨rfl,rfl,rfl,rfl,rfl,trivial⟩ ⟨cD,rfl,rfl⟩ ?_;rintro⟨k,d1⟩ e ⟨RB,iD,ho⟩ ih;dsimp only at RB iD ho⊢;refine da ?_;refine C.cmp rfl (λxz=>?_) (λxz=>?_)
 ·refine bj ?_;obtain⟨k,rfl⟩:∃ k',k=k'+1:=⟨k-1,ak⟩;have zZ:((k+1:Nat):Int)-1=(k:Int):=ak;rw[zZ];refine cF ?_;refine C.dk (Cg (d:=d1) (lo:=k) (hi:=b-a) (fstv:=a) ak ak ak) ?_;rintro v aO rfl;refine Ec ?_;exact again ih (k,siftDown ltInt (b-a) a k d1) ⟨cD,by dsimp only;rw[sd _ _ _ _ _ (fI _)];exact iD,ho⟩ (cD)
 ·refine bj ?_;obtain rfl:k=0:=ak;have ho:heapPop ltInt a (b-a) d1=heapSort ltInt d a b:=ho;refine cF ?_;refine C.bS (X:=Nat×Array Int) (λx=>[(0,s.v),(6,az a),(7,az 0),(8,az ((b-a:Nat):Int)),(10,az ((x.1:Int)-1))]) (λx=>aW aI 1 3 s x.2.toList::F) (λx=>x.1<=b-a/\x.2.size=d.size/\heapPop ltInt a x.1 x.2=heapSort ltInt d a b) (λx=>x.1) (b-a,d1) ⟨rfl,rfl,rfl,rfl,rfl,trivial⟩ ⟨fI _,iD,ho⟩ ?_;clear iD ho;rintro⟨k,d1⟩ e ⟨RB,iD,ho⟩ D7;dsimp only at RB iD ho⊢;refine da ?_;refine C.cmp rfl (λTL=>?_) (λTL=>?_)
  ·refine bj ?_;obtain⟨k,rfl⟩:∃ k',k=k'+1:=⟨k-1,ak⟩;have zZ:((k+1:Nat):Int)-1=(k:Int):=ak;rw[zZ];have D5:d1.toList.length=d.size:=by simpa using iD
   refine C.dx (cm 33 0 17++[(50,18)]) 20 [17,18,19] 0 ?_;refine Lr ?_;refine Dr.p (v:=az ((a+k:Nat):Int)) (λh=>C.i5 (a+k) rfl h) ?_;refine qs ?_;refine Dr.p (v:=az ((a+k:Nat):Int)) (λh=>C.i5 (a+k) rfl h) ?_;refine Dr.l (λhE h=>C.dT rfl h (s:=s) (l:=d1.toList) (f:=aI) (j:=a+k)) ?_;refine Dr.l (v:=az (d1.toList[a+k]'(by omega))) (λhE h=>C.dG rfl h (s:=s) (l:=d1.toList) (f:=aI) (j:=a+k)) ?_;refine jy ?_;refine Dr.l (λhE h=>C.dT rfl h (s:=s) (l:=d1.toList) (f:=aI) (j:=a)) ?_;refine Dr.l (v:=az (d1.toList[a]'(by omega))) (λhE h=>C.dG rfl h (s:=s) (l:=d1.toList) (f:=aI) (j:=a)) ?_;refine Dr.l (λhE h=>C.dT rfl h (s:=s) (l:=d1.toList) (f:=aI) (j:=a)) ?_;refine Dr.chain rfl ?_;refine Ch.m 17 (aP λe aa hk=>?_);refine C.iB (s:=s) (l:=d1.toList) (f:=aI) (j:=a) (d1.toList[a+k]'(by omega)) rfl (hk _ undef ?_);refine Ch.m 18 (aP λe aa hk=>?_);refine C.dT rfl (hk _ _ ?_) (s:=s) (l:=d1.toList.set a (d1.toList[a+k]'(by omega))) (f:=aI) (j:=a+k) (hj:=by rw[cS];omega);refine Ch.m 19 (aP λe aa hk=>?_);refine C.iB (s:=s) (l:=d1.toList.set a (d1.toList[a+k]'(by omega))) (f:=aI) (j:=a+k) (d1.toList[a]'(by omega)) rfl (hk _ undef ?_) (hj:=by rw[cS];omega);refine ee ?_;have vu:=gp (d:=d1) (i:=a) (j:=a+k) ak ak;rw[<- vu];refine cF ?_;refine C.dk (Cg (d:=swp d1 a (a+k)) (lo:=0) (hi:=k) (fstv:=a) (by rw[swp_size];omega) ak (by rw[swp_size];omega)) ?_;rintro v aO rfl;refine Ec ?_;exact again D7 (k,siftDown ltInt k a 0 (swp d1 a (a+k))) ⟨cD,by dsimp only;rw[sd _ _ _ _ _ (fI _),swp_size];exact iD,ho⟩ (cD)
  ·refine bj ?_;obtain rfl:k=0:=ak;have ho:d1=heapSort ltInt d a b:=ho;rw[<- ho]at ai;exact C.cQ aJ ai rfl
end
section
open Go.Proofs Go.Sort
variable{ao:Bool}
abbrev RR(p:Nat)(n:Nat):HP:=bX p (.cells #[az n] 3 (0,0))
theorem rF{s:ax}{d:Array Int}{a b p n:Nat}(ha:a<d.size)(hb:b<d.size)(hn:n<2^40):
  aB prog ao bG 233 #[s.v,az a,az b,aE p] [aW aI 1 3 s d.toList,RR p n] (λv As=>v=.tuple #[az (order2 ltInt d a b n).1,az (order2 ltInt d a b n).2.1]/\As=[aW aI 1 3 s d.toList,RR p (order2 ltInt d a b n).2.2]):=by
 refine aB.of λR C kd d0 F c cs aJ ai=>?_;refine bI ?_;have D5:d.toList.length=d.size:=by simp
 have dI:=xY hb ha;refine cF ?_;refine C.dx (cm 10 0 9) 9 [8] 0 ?_;refine jy ?_;refine Dr.l (λhE h=>C.dT rfl h (s:=s) (l:=d.toList) (f:=aI) (j:=b)) ?_;refine Dr.l (v:=az (d.toList[b]'(by omega))) (λhE h=>C.dG rfl h (s:=s) (l:=d.toList) (f:=aI) (j:=b)) ?_;refine jy ?_;refine Dr.l (λhE h=>C.dT rfl h (s:=s) (l:=d.toList) (f:=aI) (j:=a)) ?_;refine Dr.l (v:=az (d.toList[a]'(by omega))) (λhE h=>C.dG rfl h (s:=s) (l:=d.toList) (f:=aI) (j:=a)) ?_;refine Dr.chain rfl ?_;refine Ch.m 8 (aP λe aa hk=>?_);refine C.cE (fH (x:=d.toList[b]'(by omega)) (y:=d.toList[a]'(by omega))) (A:=[]) ?_;refine pb ?_;rw[<- dI];refine hk _ _ ?_;refine ee ?_;refine C.pU (λH9=>?_) (λH9=>?_)
 ·refine C.go ?_;refine cN ?_;refine C.i5 (n+1) rfl ?_;refine ky ?_;have e:order2 ltInt d a b n=(b,a,n+1):=by unfold order2;rw[aK H9]
  rw[e]at ai;exact C.a8 aJ ai ⟨rfl,rfl⟩
 ·refine dV ?_;have e:order2 ltInt d a b n=(a,b,n):=by unfold order2;rw[aq (by rw[H9];decide)]
  rw[e]at ai;exact C.a8 aJ ai ⟨rfl,rfl⟩
theorem o7{d:Array Int}{a b n:Nat}{P:Nat->Prop}(ha:P a)(hb:P b):P (order2 ltInt d a b n).1/\P (order2 ltInt d a b n).2.1/\(order2 ltInt d a b n).2.2<=n+1/\n<=(order2 ltInt d a b n).2.2:=by
 unfold order2;split
 ·exact⟨hb,ha,fI _,mP _⟩
 ·exact⟨ha,hb,mP _,fI _⟩
theorem rG{s:ax}{d:Array Int}{a b q p n:Nat}(ha:a<d.size)(hb:b<d.size)(hq:q<d.size)(hn:n<2^39):
  aB prog ao bG 231 #[s.v,az a,az b,az q,aE p] [aW aI 1 3 s d.toList,RR p n] (λv As=>v=az (median ltInt d a b q n).1/\As=[aW aI 1 3 s d.toList,RR p (median ltInt d a b q n).2]):=by
 refine aB.of λR C kd d0 F c cs aJ ai=>?_;refine bI ?_;obtain⟨h1,h2,h3,_⟩:=o7 (d:=d) (n:=n) (P:=(· <d.size)) ha hb;obtain⟨h4,h5,h6,_⟩:=o7 (d:=d) (n:=(order2 ltInt d a b n).2.2) (P:=(· <d.size)) h2 hq;have ai:∀ v aO,v=az (order2 ltInt d (order2 ltInt d a b n).1 (order2 ltInt d (order2 ltInt d a b n).2.1 q (order2 ltInt d a b n).2.2).1 (order2 ltInt d (order2 ltInt d a b n).2.1 q (order2 ltInt d a b n).2.2).2.2).2.1/\aO=[aW aI 1 3 s d.toList,RR p (order2 ltInt d (order2 ltInt d a b n).1 (order2 ltInt d (order2 ltInt d a b n).2.1 q (order2 ltInt d a b n).2.2).1 (order2 ltInt d (order2 ltInt d a b n).2.1 q (order2 ltInt d a b n).2.2).2.2).2.2]->At R d0 (aO++F) (after kd c cs v):=ai;generalize Zw:order2 ltInt d a b n=r1 at*;generalize hr2:order2 ltInt d r1.2.1 q r1.2.2=r2 at*;generalize hr3:order2 ltInt d r1.1 r2.1 r2.2.2=r3 at*;refine ky ?_;refine C.cE (rF (n:=n) ha hb ak) ?_;simp only[iT,eZ,Zw];refine k7 ?_;refine C.cE (rF (n:=r1.2.2) h2 hq ak) ?_;simp only[iT,eZ,hr2];refine k7 ?_;refine C.cE (rF (n:=r2.2.2) h1 h4 ak) ?_;simp only[iT,eZ,hr3];refine i6 ?_;exact C.a8 aJ ai ⟨rfl,rfl⟩
theorem ML{d:Array Int}{a b q n:Nat}{P:Nat->Prop}(ha:P a)(hb:P b)(hq:P q):P (median ltInt d a b q n).1/\(median ltInt d a b q n).2<=n+3/\n<=(median ltInt d a b q n).2:=by
 obtain⟨h1,h2,h3,g3⟩:=o7 (d:=d) (n:=n) (P:=P) ha hb;obtain⟨h4,h5,h6,g6⟩:=o7 (d:=d) (n:=(order2 ltInt d a b n).2.2) (P:=P) h2 hq;obtain⟨h7,h8,h9,g9⟩:=o7 (d:=d) (n:=(order2 ltInt d (order2 ltInt d a b n).2.1 q (order2 ltInt d a b n).2.2).2.2) (P:=P) h1 h4;refine⟨h8,?_,?_⟩
 ·show(order2 ltInt d _ _ _).2.2<=_;omega
 ·show n<=(order2 ltInt d _ _ _).2.2;omega
theorem rH{s:ax}{d:Array Int}{a p n:Nat}(h1:1<=a)(ha:a+1<d.size)(hl:d.size<2^40)(hn:n<2^39):
  aB prog ao bG 230 #[s.v,az a,aE p] [aW aI 1 3 s d.toList,RR p n] (λv As=>v=az (medianAdjacent ltInt d a n).1/\As=[aW aI 1 3 s d.toList,RR p (medianAdjacent ltInt d a n).2]):=by
 refine aB.of λR C kd d0 F c cs aJ ai=>?_;refine bI ?_;have ai:∀ v aO,v=az (median ltInt d (a-1) a (a+1) n).1/\aO=[aW aI 1 3 s d.toList,RR p (median ltInt d (a-1) a (a+1) n).2]->At R d0 (aO++F) (after kd c cs v):=ai;refine dV ?_;refine C.i5 (a-1) rfl ?_;refine bj ?_;refine C.i5 (a+1) rfl ?_;refine fy ?_;refine C.cE (rG (d:=d) (a:=a-1) (b:=a) (q:=a+1) (n:=n) ak ak ak hn) ?_;refine jI ?_;exact C.a8 aJ ai ⟨rfl,rfl⟩
end
section
open Go.Proofs Go.Sort
variable{ao:Bool}
def KD:Hint->Int
 |.unknown=>0
 |.increasing=>1
 |.decreasing=>2
def Yu(d:Array Int)(a b:Nat):Nat×Nat:=
 if b-a>=8 then
  if b-a>=50 then
   median ltInt d (medianAdjacent ltInt d (a+(b-a)/4*1) 0).1 (medianAdjacent ltInt d (a+(b-a)/4*2) (medianAdjacent ltInt d (a+(b-a)/4*1) 0).2).1 (medianAdjacent ltInt d (a+(b-a)/4*3) (medianAdjacent ltInt d (a+(b-a)/4*2) (medianAdjacent ltInt d (a+(b-a)/4*1) 0).2).2).1 (medianAdjacent ltInt d (a+(b-a)/4*3) (medianAdjacent ltInt d (a+(b-a)/4*2) (medianAdjacent ltInt d (a+(b-a)/4*1) 0).2).2).2
  else median ltInt d (a+(b-a)/4*1) (a+(b-a)/4*2) (a+(b-a)/4*3) 0
 else(a+(b-a)/4*2,0)
theorem abU(d:Array Int)(a b:Nat):choosePivot ltInt d a b=((Yu d a b).1,if(Yu d a b).2=0 then .increasing else if(Yu d a b).2=12 then .decreasing else .unknown):=rfl
theorem wu{d:Array Int}{a n:Nat}{P:Nat->Prop}(h1:P (a-1))(h2:P a)(h3:P (a+1)):P (medianAdjacent ltInt d a n).1/\(medianAdjacent ltInt d a n).2<=n+3/\n<=(medianAdjacent ltInt d a n).2:=ML h1 h2 h3
theorem Ja{s:ax}{d:Array Int}{a b:Nat}(Ea:a<b)(hb:b<=d.size)(hl:d.size<2^40):
  aB prog ao bG 219 #[s.v,az a,az b] [aW aI 1 3 s d.toList] (λv As=>v=.tuple #[az (choosePivot ltInt d a b).1,az (KD (choosePivot ltInt d a b).2)]/\As=[aW aI 1 3 s d.toList]):=by
 refine aB.of λR C kd d0 F c cs aJ ai=>?_;refine bI ?_;have hq:((b-a:Nat):Int).tdiv 4=(((b-a)/4:Nat):Int):=(Ju (b-a) 4).symm;rw[abU]at ai;refine jL ?_;refine C.i5 (b-a) rfl ?_;refine da ?_;refine C.al rfl (λb9=>?_);refine At.turn (A':=RR b9 0) .head (λ_ h=>h) ?_;refine cN ?_;refine C.quo rfl ?_ (hr:=by rw[hq];exact pq ak ak);rw[hq];refine C.i5 ((b-a)/4*1) rfl ?_;refine C.i5 (a+(b-a)/4*1) rfl ?_;refine cF ?_;refine C.quo rfl ?_ (hr:=by rw[hq];exact pq ak ak);rw[hq];refine C.i5 ((b-a)/4*2) rfl ?_;refine C.i5 (a+(b-a)/4*2) rfl ?_;refine cF ?_;refine C.quo rfl ?_ (hr:=by rw[hq];exact pq ak ak);rw[hq];refine C.i5 ((b-a)/4*3) rfl ?_;refine C.i5 (a+(b-a)/4*3) rfl ?_;refine bj ?_;apply kI (X:=Nat×Nat) (λx=>x=Yu d a b) (λx=>[(9,aE b9),(11,az x.1)]) (λx=>RR b9 x.2::aW aI 1 3 s d.toList::F) (R:=R) (d:=d0) (fn:=219) (kd:=kd) (n:=57) (ds:=[]) (cs:=c::cs)
 ·intro w7;refine bj ?_;refine C.cmp rfl (λNp=>?_) (λNp=>?_)
  ·refine cN ?_;refine C.cmp rfl (λGe=>?_) (λGe=>?_)
   ·refine cF ?_;have hI:=wu (d:=d) (a:=a+(b-a)/4*1) (n:=0) (P:=(· <d.size)) ak ak ak;refine C.cE (rH (d:=d) (a:=a+(b-a)/4*1) (n:=0) ak ak hl ak) ?_;refine bI ?_;generalize Zo:medianAdjacent ltInt d (a+(b-a)/4*1) 0=m1 at*;refine cF ?_;have hJ:=wu (d:=d) (a:=a+(b-a)/4*2) (n:=m1.2) (P:=(· <d.size)) ak ak ak;refine C.cE (rH (d:=d) (a:=a+(b-a)/4*2) (n:=m1.2) ak ak hl ak) ?_;refine bI ?_;generalize XA:medianAdjacent ltInt d (a+(b-a)/4*2) m1.2=m2 at*;refine cF ?_;have hK:=wu (d:=d) (a:=a+(b-a)/4*3) (n:=m2.2) (P:=(· <d.size)) ak ak ak;refine C.cE (rH (d:=d) (a:=a+(b-a)/4*3) (n:=m2.2) ak ak hl ak) ?_;refine bI ?_;generalize hm3:medianAdjacent ltInt d (a+(b-a)/4*3) m2.2=m3 at*;refine dV ?_;refine C.cE (rG (d:=d) (a:=m1.1) (b:=m2.1) (q:=m3.1) (n:=m3.2) hI.1 hJ.1 hK.1 ak) ?_;refine jI ?_;exact bN w7 (median ltInt d m1.1 m2.1 m3.1 m3.2) (by unfold Yu;rw[aK ak,aK ak,Zo,XA,hm3])
   ·refine dV ?_;refine C.cE (rG (d:=d) (a:=a+(b-a)/4*1) (b:=a+(b-a)/4*2) (q:=a+(b-a)/4*3) (n:=0) ak ak ak ak) ?_;refine jI ?_;exact bN w7 (median ltInt d (a+(b-a)/4*1) (a+(b-a)/4*2) (a+(b-a)/4*3) 0) (by unfold Yu;rw[aK ak,aq ak])
  ·refine bj ?_;exact bN w7 (a+(b-a)/4*2,0) (by unfold Yu;rw[aq ak])
 ·rintro⟨q,m⟩ wZ e;dsimp only;rw[<- wZ]at ai;refine cN ?_;refine C.cmp rfl (λLS=>?_) (λLS=>?_)
  ·refine jL ?_;rw[aK ak]at ai;exact C.a8 aJ ai ⟨rfl,rfl⟩
  ·refine cN ?_;refine C.cmp rfl (λZk=>?_) (λZk=>?_)
   ·refine jL ?_;rw[aq ak,aK ak]at ai;exact C.a8 aJ ai ⟨rfl,rfl⟩
   ·refine jL ?_;rw[aq ak,aq ak]at ai;exact C.a8 aJ ai ⟨rfl,rfl⟩
end
section
open Go.Proofs Go.Sort
variable{ao:Bool}
section
variable{p:Int->Bool}{d:Array Int}{i j:Nat}
theorem Q3(h:i<=j)(hp:p d[i]! =true):scanUp p d j i=scanUp p d j (i+1):=by
 conv=>lhs;unfold scanUp
 rw[aK (by simp[h,hp])]
theorem wv(h:¬ (i<=j/\p d[i]! =true)):scanUp p d j i=i:=by unfold scanUp;rw[aq (by simpa using h)]
theorem Q4(h:i<=j+1)(hp:p d[j+1]! =true):scanDown p d i (j+1)=scanDown p d i j:=by
 conv=>lhs;unfold scanDown
 rw[aK (by simp[h,hp])]
theorem wx(hi:1<=i)(h:¬ (i<=j/\p d[j]! =true)):scanDown p d i j=j:=by
 cases j with
 |zero=>rfl
 |succ j=>unfold scanDown;rw[aq (by simpa using h)]
end
theorem Yv{a i j i2 j2:Nat}{d:Array Int}(hU:scanUp (λx=>ltInt x d[a]!) d j i=i2)(hV:scanDown (λx=> !ltInt x d[a]!) d i2 j=j2)(h:i2>j2):partLoop ltInt a i j d=(j2,d):=by
 unfold partLoop;rw[hU]
 (try dsimp only)
 rw[hV]
 (try dsimp only)
 rw[aK h]
theorem abV{a i j i2 j2:Nat}{d:Array Int}(hU:scanUp (λx=>ltInt x d[a]!) d j i=i2)(hV:scanDown (λx=> !ltInt x d[a]!) d i2 j=j2)(h:¬ i2>j2)(hg:(j2-1)+1-(i2+1)<j+1-i):partLoop ltInt a i j d=partLoop ltInt a (i2+1) (j2-1) (swp d i2 j2):=by
 conv=>lhs;unfold partLoop
 rw[hU]
 (try dsimp only)
 rw[hV]
 (try dsimp only)
 rw[aq h,yd hg]
theorem Jb{s:ax}{d:Array Int}{a b pv:Nat}(Ea:a<b)(hb:b<=d.size)(Xc:pv<d.size)(hl:d.size<2^40):
  aB prog ao bG 224 #[s.v,az a,az b,az pv] [aW aI 1 3 s d.toList] (λv As=>v=.tuple #[az (partition ltInt d a b pv).1,.bool (partition ltInt d a b pv).2.1]/\As=[aW aI 1 3 s (partition ltInt d a b pv).2.2.toList]):=by
 refine aB.of λR C kd d0 F c cs aJ ai=>?_;refine bI ?_;have D5:d.toList.length=d.size:=by simp
 have hsz:(swp d a pv).size=d.size:=swp_size;refine cF ?_;refine C.dx (cm 12 0 13++[(25,14)]) 16 [13,14,15] 0 ?_;refine n7 ?_;refine Dr.l (λhE h=>C.dT rfl h (s:=s) (l:=d.toList) (f:=aI) (j:=pv)) ?_;refine Dr.l (v:=az (d.toList[pv]'(by omega))) (λhE h=>C.dG rfl h (s:=s) (l:=d.toList) (f:=aI) (j:=pv)) ?_;refine jy ?_;refine Dr.l (λhE h=>C.dT rfl h (s:=s) (l:=d.toList) (f:=aI) (j:=a)) ?_;refine Dr.l (v:=az (d.toList[a]'(by omega))) (λhE h=>C.dG rfl h (s:=s) (l:=d.toList) (f:=aI) (j:=a)) ?_;refine Dr.l (λhE h=>C.dT rfl h (s:=s) (l:=d.toList) (f:=aI) (j:=a)) ?_;refine Dr.chain rfl ?_;refine Ch.m 13 (aP λe aa hk=>?_);refine C.iB (s:=s) (l:=d.toList) (f:=aI) (j:=a) (d.toList[pv]'(by omega)) rfl (hk _ undef ?_);refine Ch.m 14 (aP λe aa hk=>?_);refine C.dT rfl (hk _ _ ?_) (s:=s) (l:=d.toList.set (a) (d.toList[pv]'(by omega))) (f:=aI) (j:=pv) (hj:=by rw[cS];omega);refine Ch.m 15 (aP λe aa hk=>?_);refine C.iB (s:=s) (l:=d.toList.set (a) (d.toList[pv]'(by omega))) (f:=aI) (j:=pv) (d.toList[a]'(by omega)) rfl (hk _ undef ?_) (hj:=by rw[cS];omega);refine ee ?_;have vu:=gp (d:=d) (i:=a) (j:=pv) ak ak;rw[<- vu];unfold partition at ai;dsimp only at ai;obtain⟨d1,wG⟩:∃ x,x=swp d a pv:=⟨_,rfl⟩;rw[<- wG]at ai hsz⊢;have ajS:d1.toList.length=d.size:=by simpa using hsz
 refine bj ?_;refine C.i5 (a+1) rfl ?_;refine fy ?_;refine C.i5 (b-1) rfl ?_;refine da ?_;apply kI (X:=Nat) (λi=>a+1<=i/\i<=b/\scanUp (λx=>ltInt x d1[a]!) d1 (b-1) (a+1)=i) (λi=>[(0,s.v),(1,az a),(10,az i),(11,az ((b-1:Nat):Int))]) (λ_=>aW aI 1 3 s d1.toList::F) (R:=R) (d:=d0) (fn:=224) (kd:=kd) (n:=168) (ds:=[]) (cs:=c::cs)
 ·intro GI;refine C.bS (X:=Nat) (λi=>[(0,s.v),(1,az a),(10,az i),(11,az ((b-1:Nat):Int))]) (λ_=>aW aI 1 3 s d1.toList::F) (λi=>a+1<=i/\i<=b/\scanUp (λx=>ltInt x d1[a]!) d1 (b-1) (a+1)=scanUp (λx=>ltInt x d1[a]!) d1 (b-1) i) (λi=>b-i) (a+1) ⟨rfl,rfl,rfl,rfl,trivial⟩ ⟨fI _,Ea,rfl⟩ ?_;rintro i e ⟨xm,Ap,RS⟩ ih;refine C.go ?_;rcases oq i ((b-1)+1)with lf|lf
  ·refine C.dx (cm 30 0 14) 14 [12,13] 0 ?_;refine jy ?_;refine Dr.p (λh=>C.eE rfl h) ?_;refine qs ?_;refine Dr.l (λhE h=>C.dT rfl h (s:=s) (l:=d1.toList) (f:=aI) (j:=i)) ?_;refine Dr.l (v:=az (d1.toList[i]'(by omega))) (λhE h=>C.dG rfl h (s:=s) (l:=d1.toList) (f:=aI) (j:=i)) ?_;refine jy ?_;refine Dr.l (λhE h=>C.dT rfl h (s:=s) (l:=d1.toList) (f:=aI) (j:=a)) ?_;refine Dr.l (v:=az (d1.toList[a]'(by omega))) (λhE h=>C.dG rfl h (s:=s) (l:=d1.toList) (f:=aI) (j:=a)) ?_;refine Dr.chain rfl ?_;refine Ch.m 12 (aP λe aa hk=>?_);refine C.cE (fH (x:=(d1.toList[i]'(by omega))) (y:=(d1.toList[a]'(by omega)))) (A:=[]) ?_;refine pb ?_;refine hk _ _ ?_;refine Ch.q 13 (λh=>C.pk rfl h) ?_;refine ee ?_;refine C.pU (λJc=>?_) (λJc=>?_)
   ·refine dm ?_;exact again ih (i+1) ⟨ak,ak,by rw[RS];exact Q3 ak (by rw[xY ak ak];exact Jc)⟩ ak
   ·refine C.go ?_;exact bN GI i ⟨xm,Ap,by rw[RS];exact wv (by rw[xY ak ak];rintro⟨_,h⟩;rw[Jc]at h;cases h)⟩
  ·refine C.dx (cm 30 0 14) 14 [12,13] 0 ?_;refine jy ?_;refine Dr.p (λh=>C.du rfl h) ?_;refine Nh ?_;refine Ch.m 12 (aP λe aa hk=>?_);refine C.no rfl (hk _ _ ?_);refine Ch.q 13 (λh=>C.pk rfl h) ?_;refine oi ?_;exact bN GI i ⟨xm,Ap,by rw[RS];exact wv (by rintro⟨h,_⟩;omega)⟩
 ·rintro i ⟨xm,Ap,hI⟩ e;apply kI (X:=Nat) (λj=>j<=b-1/\scanDown (λx=> !ltInt x d1[a]!) d1 i (b-1)=j) (λj=>[(0,s.v),(1,az a),(10,az i),(11,az j)]) (λ_=>aW aI 1 3 s d1.toList::F) (R:=R) (d:=d0) (fn:=224) (kd:=kd) (n:=168) (ds:=[]) (cs:=c::cs)
  ·intro GJ;refine C.bS (X:=Nat) (λj=>[(0,s.v),(1,az a),(10,az i),(11,az j)]) (λ_=>aW aI 1 3 s d1.toList::F) (λj=>j<=b-1/\scanDown (λx=> !ltInt x d1[a]!) d1 i (b-1)=scanDown (λx=> !ltInt x d1[a]!) d1 i j) (λj=>j) (b-1) ⟨rfl,rfl,rfl,rfl,trivial⟩ ⟨fI _,rfl⟩ ?_;rintro j e ⟨W1,W6⟩ ih;refine C.go ?_;rcases oq i (j+1)with lf|lf
   ·refine C.dx (cm 46 0 15) 15 [12,13,14] 0 ?_;refine jy ?_;refine Dr.p (λh=>C.eE rfl h) ?_;refine qs ?_;refine Dr.l (λhE h=>C.dT rfl h (s:=s) (l:=d1.toList) (f:=aI) (j:=j)) ?_;refine Dr.l (v:=az (d1.toList[j]'(by omega))) (λhE h=>C.dG rfl h (s:=s) (l:=d1.toList) (f:=aI) (j:=j)) ?_;refine jy ?_;refine Dr.l (λhE h=>C.dT rfl h (s:=s) (l:=d1.toList) (f:=aI) (j:=a)) ?_;refine Dr.l (v:=az (d1.toList[a]'(by omega))) (λhE h=>C.dG rfl h (s:=s) (l:=d1.toList) (f:=aI) (j:=a)) ?_;refine Dr.chain rfl ?_;refine Ch.m 12 (aP λe aa hk=>?_);refine C.cE (fH (x:=(d1.toList[j]'(by omega))) (y:=(d1.toList[a]'(by omega)))) (A:=[]) ?_;refine pb ?_;refine hk _ _ ?_;refine Ch.q 13 (λh=>C.nt rfl h) ?_;refine Ch.q 14 (λh=>C.pk rfl h) ?_;refine ee ?_;refine C.pU (λYw=>?_) (λYw=>?_)
    ·refine C.go ?_;refine bj ?_;refine C.i5 (j-1) rfl ?_;refine bj ?_;obtain⟨j,rfl⟩:∃ j',j=j'+1:=⟨j-1,ak⟩;exact again ih j ⟨ak,by rw[W6];exact Q4 ak (by rw[xY ak ak];exact Yw)⟩ ak
    ·refine C.go ?_;exact bN GJ j ⟨W1,by rw[W6];exact wx ak (by rw[xY ak ak];rintro⟨_,h⟩;rw[Yw]at h;cases h)⟩
   ·refine C.dx (cm 46 0 15) 15 [12,13,14] 0 ?_;refine jy ?_;refine Dr.p (λh=>C.du rfl h) ?_;refine Nh ?_;refine Ch.m 12 (aP λe aa hk=>?_);refine C.no rfl (hk _ _ ?_);refine Ch.q 13 (λh=>C.no rfl h) ?_;refine Ch.q 14 (λh=>C.pk rfl h) ?_;refine oi ?_;exact bN GJ j ⟨W1,by rw[W6];exact wx ak (by rintro⟨h,_⟩;omega)⟩
  ·rintro j ⟨W1,hJ⟩ e;refine da ?_;refine C.cmp rfl (λh65=>?_) (λh65=>?_)
   ·refine bj ?_;refine C.dx (cm 66 0 13++[(79,14)]) 16 [13,14,15] 0 ?_;refine n7 ?_;refine Dr.l (λhE h=>C.dT rfl h (s:=s) (l:=d1.toList) (f:=aI) (j:=a)) ?_;refine Dr.l (v:=az (d1.toList[a]'(by omega))) (λhE h=>C.dG rfl h (s:=s) (l:=d1.toList) (f:=aI) (j:=a)) ?_;refine jy ?_;refine Dr.l (λhE h=>C.dT rfl h (s:=s) (l:=d1.toList) (f:=aI) (j:=j)) ?_;refine Dr.l (v:=az (d1.toList[j]'(by omega))) (λhE h=>C.dG rfl h (s:=s) (l:=d1.toList) (f:=aI) (j:=j)) ?_;refine Dr.l (λhE h=>C.dT rfl h (s:=s) (l:=d1.toList) (f:=aI) (j:=j)) ?_;refine Dr.chain rfl ?_;refine Ch.m 13 (aP λe aa hk=>?_);refine C.iB (s:=s) (l:=d1.toList) (f:=aI) (j:=j) (d1.toList[a]'(by omega)) rfl (hk _ undef ?_);refine Ch.m 14 (aP λe aa hk=>?_);refine C.dT rfl (hk _ _ ?_) (s:=s) (l:=d1.toList.set (j) (d1.toList[a]'(by omega))) (f:=aI) (j:=a) (hj:=by rw[cS];omega);refine Ch.m 15 (aP λe aa hk=>?_);refine C.iB (s:=s) (l:=d1.toList.set (j) (d1.toList[a]'(by omega))) (f:=aI) (j:=a) (d1.toList[j]'(by omega)) rfl (hk _ undef ?_) (hj:=by rw[cS];omega);refine Nf ?_;rw[hI,hJ,aK ak]at ai;have vu:=gp (d:=d1) (i:=j) (j:=a) ak ak;rw[<- vu];exact C.a8 aJ ai ⟨rfl,rfl⟩
   ·refine bj ?_;refine C.dx (cm 81 0 13++[(94,14)]) 16 [13,14,15] 0 ?_;refine n7 ?_;refine Dr.l (λhE h=>C.dT rfl h (s:=s) (l:=d1.toList) (f:=aI) (j:=j)) ?_;refine Dr.l (v:=az (d1.toList[j]'(by omega))) (λhE h=>C.dG rfl h (s:=s) (l:=d1.toList) (f:=aI) (j:=j)) ?_;refine jy ?_;refine Dr.l (λhE h=>C.dT rfl h (s:=s) (l:=d1.toList) (f:=aI) (j:=i)) ?_;refine Dr.l (v:=az (d1.toList[i]'(by omega))) (λhE h=>C.dG rfl h (s:=s) (l:=d1.toList) (f:=aI) (j:=i)) ?_;refine Dr.l (λhE h=>C.dT rfl h (s:=s) (l:=d1.toList) (f:=aI) (j:=i)) ?_;refine Dr.chain rfl ?_;refine Ch.m 13 (aP λe aa hk=>?_);refine C.iB (s:=s) (l:=d1.toList) (f:=aI) (j:=i) (d1.toList[j]'(by omega)) rfl (hk _ undef ?_);refine Ch.m 14 (aP λe aa hk=>?_);refine C.dT rfl (hk _ _ ?_) (s:=s) (l:=d1.toList.set (i) (d1.toList[j]'(by omega))) (f:=aI) (j:=j) (hj:=by rw[cS];omega);refine Ch.m 15 (aP λe aa hk=>?_);refine C.iB (s:=s) (l:=d1.toList.set (i) (d1.toList[j]'(by omega))) (f:=aI) (j:=j) (d1.toList[i]'(by omega)) rfl (hk _ undef ?_) (hj:=by rw[cS];omega);refine PH ?_;refine C.i5 (j-1) rfl ?_;refine bj ?_;rw[hI,hJ,aq ak]at ai;have vu:=gp (d:=d1) (i:=i) (j:=j) ak ak;rw[<- vu];obtain⟨d2,VF⟩:∃ x,x=swp d1 i j:=⟨_,rfl⟩;have sK:d2.size=d.size:=by rw[VF,swp_size];exact hsz
    rw[<- VF]at ai⊢;have G0:i<=j:=ak;apply kI (X:=Nat×Array Int) (λx=>x.1<d.size/\x.2.size=d.size/\partLoop ltInt a (i+1) (j-1) d2=x) (λx=>[(0,s.v),(1,az a),(11,az x.1)]) (λx=>aW aI 1 3 s x.2.toList::F) (R:=R) (d:=d0) (fn:=224) (kd:=kd) (n:=168) (ds:=[]) (cs:=c::cs)
    ·intro abW;refine C.bS (X:=Nat×Nat×Array Int) (λx=>[(0,s.v),(1,az a),(10,az x.1),(11,az x.2.1)]) (λx=>aW aI 1 3 s x.2.2.toList::F) (λx=>a+1<=x.1/\x.1<=d.size+1/\x.2.1<d.size/\x.2.2.size=d.size/\partLoop ltInt a (i+1) (j-1) d2=partLoop ltInt a x.1 x.2.1 x.2.2) (λx=>x.2.1+1-x.1) (i+1,j-1,d2) ⟨rfl,rfl,rfl,rfl,trivial⟩ ⟨cD,cD,cD,sK,rfl⟩ ?_;rintro⟨i1,j1,d4⟩ e ⟨D6,z3,RA,Na,Yx⟩ ih;dsimp only at D6 z3 RA Na Yx⊢;have Yy:d4.toList.length=d.size:=by simpa using Na
     refine C.go ?_;apply kI (X:=Nat) (λq=>i1<=q/\(q<=j1+1\/q=i1)/\scanUp (λx=>ltInt x d4[a]!) d4 j1 i1=q) (λq=>[(0,s.v),(1,az a),(10,az q),(11,az j1)]) (λ_=>aW aI 1 3 s d4.toList::F) (R:=R) (d:=d0) (fn:=224) (kd:=kd) (n:=168) (ds:=[]) (cs:=c::cs)
     ·intro Q5;refine C.bS (X:=Nat) (λq=>[(0,s.v),(1,az a),(10,az q),(11,az j1)]) (λ_=>aW aI 1 3 s d4.toList::F) (λq=>i1<=q/\(q<=j1+1\/q=i1)/\scanUp (λx=>ltInt x d4[a]!) d4 j1 i1=scanUp (λx=>ltInt x d4[a]!) d4 j1 q) (λq=>j1+1-q) i1 ⟨rfl,rfl,rfl,rfl,trivial⟩ ⟨fI _,.inr rfl,rfl⟩ ?_;rintro i2 e ⟨Nb,Yz,YA⟩ z8;refine C.go ?_;rcases oq i2 (j1+1)with lf|lf
      ·refine C.dx (cm 99 0 14) 14 [12,13] 0 ?_;refine jy ?_;refine Dr.p (λh=>C.eE rfl h) ?_;refine qs ?_;refine Dr.l (λhE h=>C.dT rfl h (s:=s) (l:=d4.toList) (f:=aI) (j:=i2)) ?_;refine Dr.l (v:=az (d4.toList[i2]'(by omega))) (λhE h=>C.dG rfl h (s:=s) (l:=d4.toList) (f:=aI) (j:=i2)) ?_;refine jy ?_;refine Dr.l (λhE h=>C.dT rfl h (s:=s) (l:=d4.toList) (f:=aI) (j:=a)) ?_;refine Dr.l (v:=az (d4.toList[a]'(by omega))) (λhE h=>C.dG rfl h (s:=s) (l:=d4.toList) (f:=aI) (j:=a)) ?_;refine Dr.chain rfl ?_;refine Ch.m 12 (aP λe aa hk=>?_);refine C.cE (fH (x:=(d4.toList[i2]'(by omega))) (y:=(d4.toList[a]'(by omega)))) (A:=[]) ?_;refine pb ?_;refine hk _ _ ?_;refine Ch.q 13 (λh=>C.pk rfl h) ?_;refine ee ?_;refine C.pU (λQ6=>?_) (λQ6=>?_)
       ·refine dm ?_;exact again z8 (i2+1) ⟨ak,ak,by rw[YA];exact Q3 ak (by rw[xY ak ak];exact Q6)⟩ ak
       ·refine C.go ?_;exact bN Q5 i2 ⟨Nb,Yz,by rw[YA];exact wv (by rw[xY ak ak];rintro⟨_,h⟩;rw[Q6]at h;cases h)⟩
      ·refine C.dx (cm 99 0 14) 14 [12,13] 0 ?_;refine jy ?_;refine Dr.p (λh=>C.du rfl h) ?_;refine Nh ?_;refine Ch.m 12 (aP λe aa hk=>?_);refine C.no rfl (hk _ _ ?_);refine Ch.q 13 (λh=>C.pk rfl h) ?_;refine oi ?_;exact bN Q5 i2 ⟨Nb,Yz,by rw[YA];exact wv (by rintro⟨h,_⟩;omega)⟩
     ·rintro i2 ⟨Nb,Yz,hU⟩ e;apply kI (X:=Nat) (λq=>q<=j1/\scanDown (λx=> !ltInt x d4[a]!) d4 i2 j1=q) (λq=>[(0,s.v),(1,az a),(10,az i2),(11,az q)]) (λ_=>aW aI 1 3 s d4.toList::F) (R:=R) (d:=d0) (fn:=224) (kd:=kd) (n:=168) (ds:=[]) (cs:=c::cs)
      ·intro zO;refine C.bS (X:=Nat) (λq=>[(0,s.v),(1,az a),(10,az i2),(11,az q)]) (λ_=>aW aI 1 3 s d4.toList::F) (λq=>q<=j1/\scanDown (λx=> !ltInt x d4[a]!) d4 i2 j1=scanDown (λx=> !ltInt x d4[a]!) d4 i2 q) (λq=>q) j1 ⟨rfl,rfl,rfl,rfl,trivial⟩ ⟨fI _,rfl⟩ ?_;rintro j2 e ⟨qd,YB⟩ ih4;refine C.go ?_;rcases oq i2 (j2+1)with lf|lf
       ·refine C.dx (cm 115 0 15) 15 [12,13,14] 0 ?_;refine jy ?_;refine Dr.p (λh=>C.eE rfl h) ?_;refine qs ?_;refine Dr.l (λhE h=>C.dT rfl h (s:=s) (l:=d4.toList) (f:=aI) (j:=j2)) ?_;refine Dr.l (v:=az (d4.toList[j2]'(by omega))) (λhE h=>C.dG rfl h (s:=s) (l:=d4.toList) (f:=aI) (j:=j2)) ?_;refine jy ?_;refine Dr.l (λhE h=>C.dT rfl h (s:=s) (l:=d4.toList) (f:=aI) (j:=a)) ?_;refine Dr.l (v:=az (d4.toList[a]'(by omega))) (λhE h=>C.dG rfl h (s:=s) (l:=d4.toList) (f:=aI) (j:=a)) ?_;refine Dr.chain rfl ?_;refine Ch.m 12 (aP λe aa hk=>?_);refine C.cE (fH (x:=(d4.toList[j2]'(by omega))) (y:=(d4.toList[a]'(by omega)))) (A:=[]) ?_;refine pb ?_;refine hk _ _ ?_;refine Ch.q 13 (λh=>C.nt rfl h) ?_;refine Ch.q 14 (λh=>C.pk rfl h) ?_;refine ee ?_;refine C.pU (λQ7=>?_) (λQ7=>?_)
        ·refine C.go ?_;refine bj ?_;refine C.i5 (j2-1) rfl ?_;refine bj ?_;obtain⟨j2,rfl⟩:∃ j',j2=j'+1:=⟨j2-1,ak⟩;exact again ih4 j2 ⟨ak,by rw[YB];exact Q4 ak (by rw[xY ak ak];exact Q7)⟩ ak
        ·refine C.go ?_;exact bN zO j2 ⟨qd,by rw[YB];exact wx ak (by rw[xY ak ak];rintro⟨_,h⟩;rw[Q7]at h;cases h)⟩
       ·refine C.dx (cm 115 0 15) 15 [12,13,14] 0 ?_;refine jy ?_;refine Dr.p (λh=>C.du rfl h) ?_;refine Nh ?_;refine Ch.m 12 (aP λe aa hk=>?_);refine C.no rfl (hk _ _ ?_);refine Ch.q 13 (λh=>C.no rfl h) ?_;refine Ch.q 14 (λh=>C.pk rfl h) ?_;refine oi ?_;exact bN zO j2 ⟨qd,by rw[YB];exact wx ak (by rintro⟨h,_⟩;omega)⟩
      ·rintro j2 ⟨qd,hV⟩ e;refine da ?_;refine C.cmp rfl (λafD=>?_) (λafD=>?_)
       ·refine bj ?_;exact bN abW (j2,d4) ⟨cD,Na,by rw[Yx,Yv hU hV ak]⟩
       ·refine bj ?_;refine C.dx (cm 135 0 13++[(148,14)]) 16 [13,14,15] 0 ?_;refine n7 ?_;refine Dr.l (λhE h=>C.dT rfl h (s:=s) (l:=d4.toList) (f:=aI) (j:=j2)) ?_;refine Dr.l (v:=az (d4.toList[j2]'(by omega))) (λhE h=>C.dG rfl h (s:=s) (l:=d4.toList) (f:=aI) (j:=j2)) ?_;refine jy ?_;refine Dr.l (λhE h=>C.dT rfl h (s:=s) (l:=d4.toList) (f:=aI) (j:=i2)) ?_;refine Dr.l (v:=az (d4.toList[i2]'(by omega))) (λhE h=>C.dG rfl h (s:=s) (l:=d4.toList) (f:=aI) (j:=i2)) ?_;refine Dr.l (λhE h=>C.dT rfl h (s:=s) (l:=d4.toList) (f:=aI) (j:=i2)) ?_;refine Dr.chain rfl ?_;refine Ch.m 13 (aP λe aa hk=>?_);refine C.iB (s:=s) (l:=d4.toList) (f:=aI) (j:=i2) (d4.toList[j2]'(by omega)) rfl (hk _ undef ?_);refine Ch.m 14 (aP λe aa hk=>?_);refine C.dT rfl (hk _ _ ?_) (s:=s) (l:=d4.toList.set (i2) (d4.toList[j2]'(by omega))) (f:=aI) (j:=j2) (hj:=by rw[cS];omega);refine Ch.m 15 (aP λe aa hk=>?_);refine C.iB (s:=s) (l:=d4.toList.set (i2) (d4.toList[j2]'(by omega))) (f:=aI) (j:=j2) (d4.toList[i2]'(by omega)) rfl (hk _ undef ?_) (hj:=by rw[cS];omega);refine PH ?_;refine C.i5 (j2-1) rfl ?_;refine bj ?_;have vu:=gp (d:=d4) (i:=i2) (j:=j2) ak ak;exact again ih (i2+1,j2-1,swp d4 i2 j2) ⟨cD,cD,cD,by dsimp only;rw[swp_size];exact Na,by rw[Yx,abV hU hV ak ak]⟩ (cD) (hr:=by dsimp only;rw[vu];exact bZ.au)
    ·rintro⟨q,d3⟩ ⟨hq1,pT,PM⟩ e;have ajT:d3.toList.length=d.size:=by simpa using pT
     dsimp only at hq1 pT PM⊢;rw[PM]at ai;refine C.dx (cm 153 0 13++[(166,14)]) 16 [13,14,15] 0 ?_;refine n7 ?_;refine Dr.l (λhE h=>C.dT rfl h (s:=s) (l:=d3.toList) (f:=aI) (j:=a)) ?_;refine Dr.l (v:=az (d3.toList[a]'(by omega))) (λhE h=>C.dG rfl h (s:=s) (l:=d3.toList) (f:=aI) (j:=a)) ?_;refine jy ?_;refine Dr.l (λhE h=>C.dT rfl h (s:=s) (l:=d3.toList) (f:=aI) (j:=q)) ?_;refine Dr.l (v:=az (d3.toList[q]'(by omega))) (λhE h=>C.dG rfl h (s:=s) (l:=d3.toList) (f:=aI) (j:=q)) ?_;refine Dr.l (λhE h=>C.dT rfl h (s:=s) (l:=d3.toList) (f:=aI) (j:=q)) ?_;refine Dr.chain rfl ?_;refine Ch.m 13 (aP λe aa hk=>?_);refine C.iB (s:=s) (l:=d3.toList) (f:=aI) (j:=q) (d3.toList[a]'(by omega)) rfl (hk _ undef ?_);refine Ch.m 14 (aP λe aa hk=>?_);refine C.dT rfl (hk _ _ ?_) (s:=s) (l:=d3.toList.set (q) (d3.toList[a]'(by omega))) (f:=aI) (j:=a) (hj:=by rw[cS];omega);refine Ch.m 15 (aP λe aa hk=>?_);refine C.iB (s:=s) (l:=d3.toList.set (q) (d3.toList[a]'(by omega))) (f:=aI) (j:=a) (d3.toList[q]'(by omega)) rfl (hk _ undef ?_) (hj:=by rw[cS];omega);refine Nf ?_;have vu:=gp (d:=d3) (i:=q) (j:=a) ak ak;rw[<- vu];exact C.a8 aJ ai ⟨rfl,rfl⟩
end
section
open Go.Proofs Go.Sort
variable{ao:Bool}
theorem YC{a i j i2 j2:Nat}{d:Array Int}(hU:scanUp (λx=> !ltInt d[a]! x) d j i=i2)(hV:scanDown (λx=>ltInt d[a]! x) d i2 j=j2)(h:i2>j2):partEqLoop ltInt a i j d=(i2,d):=by
 unfold partEqLoop;rw[hU]
 (try dsimp only)
 rw[hV]
 (try dsimp only)
 rw[aK h]
theorem abX{a i j i2 j2:Nat}{d:Array Int}(hU:scanUp (λx=> !ltInt d[a]! x) d j i=i2)(hV:scanDown (λx=>ltInt d[a]! x) d i2 j=j2)(h:¬ i2>j2)(hg:(j2-1)+1-(i2+1)<j+1-i):partEqLoop ltInt a i j d=partEqLoop ltInt a (i2+1) (j2-1) (swp d i2 j2):=by
 conv=>lhs;unfold partEqLoop
 rw[hU]
 (try dsimp only)
 rw[hV]
 (try dsimp only)
 rw[aq h,yd hg]
theorem GK{s:ax}{d:Array Int}{a b pv:Nat}(Ea:a<b)(hb:b<=d.size)(Xc:pv<d.size)(hl:d.size<2^40):
  aB prog ao bG 223 #[s.v,az a,az b,az pv] [aW aI 1 3 s d.toList] (λv As=>v=az (partitionEqual ltInt d a b pv).1/\As=[aW aI 1 3 s (partitionEqual ltInt d a b pv).2.toList]):=by
 refine aB.of λR C kd d0 F c cs aJ ai=>?_;refine bI ?_;have D5:d.toList.length=d.size:=by simp
 have hsz:(swp d a pv).size=d.size:=swp_size;refine cN ?_;refine C.dx (cm 11 0 13++[(24,14)]) 16 [13,14,15] 0 ?_;refine n7 ?_;refine Dr.l (λhE h=>C.dT rfl h (s:=s) (l:=d.toList) (f:=aI) (j:=pv)) ?_;refine Dr.l (v:=az (d.toList[pv]'(by omega))) (λhE h=>C.dG rfl h (s:=s) (l:=d.toList) (f:=aI) (j:=pv)) ?_;refine jy ?_;refine Dr.l (λhE h=>C.dT rfl h (s:=s) (l:=d.toList) (f:=aI) (j:=a)) ?_;refine Dr.l (v:=az (d.toList[a]'(by omega))) (λhE h=>C.dG rfl h (s:=s) (l:=d.toList) (f:=aI) (j:=a)) ?_;refine Dr.l (λhE h=>C.dT rfl h (s:=s) (l:=d.toList) (f:=aI) (j:=a)) ?_;refine Dr.chain rfl ?_;refine Ch.m 13 (aP λe aa hk=>?_);refine C.iB (s:=s) (l:=d.toList) (f:=aI) (j:=a) (d.toList[pv]'(by omega)) rfl (hk _ undef ?_);refine Ch.m 14 (aP λe aa hk=>?_);refine C.dT rfl (hk _ _ ?_) (s:=s) (l:=d.toList.set (a) (d.toList[pv]'(by omega))) (f:=aI) (j:=pv) (hj:=by rw[cS];omega);refine Ch.m 15 (aP λe aa hk=>?_);refine C.iB (s:=s) (l:=d.toList.set (a) (d.toList[pv]'(by omega))) (f:=aI) (j:=pv) (d.toList[a]'(by omega)) rfl (hk _ undef ?_) (hj:=by rw[cS];omega);refine ee ?_;have vu:=gp (d:=d) (i:=a) (j:=pv) ak ak;rw[<- vu];unfold partitionEqual at ai;obtain⟨d1,wG⟩:∃ x,x=swp d a pv:=⟨_,rfl⟩;rw[<- wG]at ai hsz⊢;refine bj ?_;refine C.i5 (a+1) rfl ?_;refine fy ?_;refine C.i5 (b-1) rfl ?_;refine da ?_;apply kI (X:=Nat×Array Int) (λx=>partEqLoop ltInt a (a+1) (b-1) d1=x) (λx=>[(9,az x.1)]) (λx=>aW aI 1 3 s x.2.toList::F) (R:=R) (d:=d0) (fn:=223) (kd:=kd) (n:=84) (ds:=[]) (cs:=c::cs)
 ·intro Gg;refine C.bS (X:=Nat×Nat×Array Int) (λx=>[(0,s.v),(1,az a),(9,az x.1),(10,az x.2.1)]) (λx=>aW aI 1 3 s x.2.2.toList::F) (λx=>a+1<=x.1/\x.1<=d.size+1/\x.2.1<d.size/\x.2.2.size=d.size/\partEqLoop ltInt a (a+1) (b-1) d1=partEqLoop ltInt a x.1 x.2.1 x.2.2) (λx=>x.2.1+1-x.1) (a+1,b-1,d1) ⟨rfl,rfl,rfl,rfl,trivial⟩ ⟨cD,cD,cD,hsz,rfl⟩ ?_;rintro⟨i1,j1,d4⟩ e ⟨D6,z3,RA,Na,Yx⟩ ih;dsimp only at D6 z3 RA Na Yx⊢;have Yy:d4.toList.length=d.size:=by simpa using Na
  refine C.go ?_;apply kI (X:=Nat) (λq=>i1<=q/\(q<=j1+1\/q=i1)/\scanUp (λx=> !ltInt d4[a]! x) d4 j1 i1=q) (λq=>[(0,s.v),(1,az a),(9,az q),(10,az j1)]) (λ_=>aW aI 1 3 s d4.toList::F) (R:=R) (d:=d0) (fn:=223) (kd:=kd) (n:=84) (ds:=[]) (cs:=c::cs)
  ·intro GI;refine C.bS (X:=Nat) (λq=>[(0,s.v),(1,az a),(9,az q),(10,az j1)]) (λ_=>aW aI 1 3 s d4.toList::F) (λq=>i1<=q/\(q<=j1+1\/q=i1)/\scanUp (λx=> !ltInt d4[a]! x) d4 j1 i1=scanUp (λx=> !ltInt d4[a]! x) d4 j1 q) (λq=>j1+1-q) i1 ⟨rfl,rfl,rfl,rfl,trivial⟩ ⟨fI _,.inr rfl,rfl⟩ ?_;rintro i2 e ⟨Nb,Yz,YA⟩ z8;refine C.go ?_;rcases oq i2 (j1+1)with lf|lf
   ·refine C.dx (cm 29 0 15) 15 [12,13,14] 0 ?_;refine jy ?_;refine Dr.p (λh=>C.eE rfl h) ?_;refine qs ?_;refine Dr.l (λhE h=>C.dT rfl h (s:=s) (l:=d4.toList) (f:=aI) (j:=a)) ?_;refine Dr.l (v:=az (d4.toList[a]'(by omega))) (λhE h=>C.dG rfl h (s:=s) (l:=d4.toList) (f:=aI) (j:=a)) ?_;refine jy ?_;refine Dr.l (λhE h=>C.dT rfl h (s:=s) (l:=d4.toList) (f:=aI) (j:=i2)) ?_;refine Dr.l (v:=az (d4.toList[i2]'(by omega))) (λhE h=>C.dG rfl h (s:=s) (l:=d4.toList) (f:=aI) (j:=i2)) ?_;refine Dr.chain rfl ?_;refine Ch.m 12 (aP λe aa hk=>?_);refine C.cE (fH (x:=(d4.toList[a]'(by omega))) (y:=(d4.toList[i2]'(by omega)))) (A:=[]) ?_;refine pb ?_;refine hk _ _ ?_;refine Ch.q 13 (λh=>C.nt rfl h) ?_;refine Ch.q 14 (λh=>C.pk rfl h) ?_;refine ee ?_;refine C.pU (λJc=>?_) (λJc=>?_)
    ·refine dm ?_;exact again z8 (i2+1) ⟨ak,ak,by rw[YA];exact Q3 ak (by rw[xY ak ak];exact Jc)⟩ ak
    ·refine C.go ?_;exact bN GI i2 ⟨Nb,Yz,by rw[YA];exact wv (by rw[xY ak ak];rintro⟨_,h⟩;rw[Jc]at h;cases h)⟩
   ·refine C.dx (cm 29 0 15) 15 [12,13,14] 0 ?_;refine jy ?_;refine Dr.p (λh=>C.du rfl h) ?_;refine Nh ?_;refine Ch.m 12 (aP λe aa hk=>?_);refine C.no rfl (hk _ _ ?_);refine Ch.q 13 (λh=>C.no rfl h) ?_;refine Ch.q 14 (λh=>C.pk rfl h) ?_;refine oi ?_;exact bN GI i2 ⟨Nb,Yz,by rw[YA];exact wv (by rintro⟨h,_⟩;omega)⟩
  ·rintro i2 ⟨Nb,Yz,hU⟩ e;apply kI (X:=Nat) (λq=>q<=j1/\scanDown (λx=>ltInt d4[a]! x) d4 i2 j1=q) (λq=>[(0,s.v),(1,az a),(9,az i2),(10,az q)]) (λ_=>aW aI 1 3 s d4.toList::F) (R:=R) (d:=d0) (fn:=223) (kd:=kd) (n:=84) (ds:=[]) (cs:=c::cs)
   ·intro GJ;refine C.bS (X:=Nat) (λq=>[(0,s.v),(1,az a),(9,az i2),(10,az q)]) (λ_=>aW aI 1 3 s d4.toList::F) (λq=>q<=j1/\scanDown (λx=>ltInt d4[a]! x) d4 i2 j1=scanDown (λx=>ltInt d4[a]! x) d4 i2 q) (λq=>q) j1 ⟨rfl,rfl,rfl,rfl,trivial⟩ ⟨fI _,rfl⟩ ?_;rintro j2 e ⟨qd,YB⟩ ih4;refine C.go ?_;rcases oq i2 (j2+1)with lf|lf
    ·refine C.dx (cm 46 0 14) 14 [12,13] 0 ?_;refine jy ?_;refine Dr.p (λh=>C.eE rfl h) ?_;refine qs ?_;refine Dr.l (λhE h=>C.dT rfl h (s:=s) (l:=d4.toList) (f:=aI) (j:=a)) ?_;refine Dr.l (v:=az (d4.toList[a]'(by omega))) (λhE h=>C.dG rfl h (s:=s) (l:=d4.toList) (f:=aI) (j:=a)) ?_;refine jy ?_;refine Dr.l (λhE h=>C.dT rfl h (s:=s) (l:=d4.toList) (f:=aI) (j:=j2)) ?_;refine Dr.l (v:=az (d4.toList[j2]'(by omega))) (λhE h=>C.dG rfl h (s:=s) (l:=d4.toList) (f:=aI) (j:=j2)) ?_;refine Dr.chain rfl ?_;refine Ch.m 12 (aP λe aa hk=>?_);refine C.cE (fH (x:=(d4.toList[a]'(by omega))) (y:=(d4.toList[j2]'(by omega)))) (A:=[]) ?_;refine pb ?_;refine hk _ _ ?_;refine Ch.q 13 (λh=>C.pk rfl h) ?_;refine ee ?_;refine C.pU (λYD=>?_) (λYD=>?_)
     ·refine C.go ?_;refine bj ?_;refine C.i5 (j2-1) rfl ?_;refine bj ?_;obtain⟨j2,rfl⟩:∃ j',j2=j'+1:=⟨j2-1,ak⟩;exact again ih4 j2 ⟨ak,by rw[YB];exact Q4 ak (by rw[xY ak ak];exact YD)⟩ ak
     ·refine C.go ?_;exact bN GJ j2 ⟨qd,by rw[YB];exact wx ak (by rw[xY ak ak];rintro⟨_,h⟩;rw[YD]at h;cases h)⟩
    ·refine C.dx (cm 46 0 14) 14 [12,13] 0 ?_;refine jy ?_;refine Dr.p (λh=>C.du rfl h) ?_;refine Nh ?_;refine Ch.m 12 (aP λe aa hk=>?_);refine C.no rfl (hk _ _ ?_);refine Ch.q 13 (λh=>C.pk rfl h) ?_;refine oi ?_;exact bN GJ j2 ⟨qd,by rw[YB];exact wx ak (by rintro⟨h,_⟩;omega)⟩
   ·rintro j2 ⟨qd,hV⟩ e;refine da ?_;refine C.cmp rfl (λh64=>?_) (λh64=>?_)
    ·refine bj ?_;exact bN Gg (i2,d4) (by rw[Yx,YC hU hV ak])
    ·refine bj ?_;refine C.dx (cm 65 0 13++[(78,14)]) 16 [13,14,15] 0 ?_;refine n7 ?_;refine Dr.l (λhE h=>C.dT rfl h (s:=s) (l:=d4.toList) (f:=aI) (j:=j2)) ?_;refine Dr.l (v:=az (d4.toList[j2]'(by omega))) (λhE h=>C.dG rfl h (s:=s) (l:=d4.toList) (f:=aI) (j:=j2)) ?_;refine jy ?_;refine Dr.l (λhE h=>C.dT rfl h (s:=s) (l:=d4.toList) (f:=aI) (j:=i2)) ?_;refine Dr.l (v:=az (d4.toList[i2]'(by omega))) (λhE h=>C.dG rfl h (s:=s) (l:=d4.toList) (f:=aI) (j:=i2)) ?_;refine Dr.l (λhE h=>C.dT rfl h (s:=s) (l:=d4.toList) (f:=aI) (j:=i2)) ?_;refine Dr.chain rfl ?_;refine Ch.m 13 (aP λe aa hk=>?_);refine C.iB (s:=s) (l:=d4.toList) (f:=aI) (j:=i2) (d4.toList[j2]'(by omega)) rfl (hk _ undef ?_);refine Ch.m 14 (aP λe aa hk=>?_);refine C.dT rfl (hk _ _ ?_) (s:=s) (l:=d4.toList.set (i2) (d4.toList[j2]'(by omega))) (f:=aI) (j:=j2) (hj:=by rw[cS];omega);refine Ch.m 15 (aP λe aa hk=>?_);refine C.iB (s:=s) (l:=d4.toList.set (i2) (d4.toList[j2]'(by omega))) (f:=aI) (j:=j2) (d4.toList[i2]'(by omega)) rfl (hk _ undef ?_) (hj:=by rw[cS];omega);refine PH ?_;refine C.i5 (j2-1) rfl ?_;refine bj ?_;have vu:=gp (d:=d4) (i:=i2) (j:=j2) ak ak;exact again ih (i2+1,j2-1,swp d4 i2 j2) ⟨cD,cD,cD,by dsimp only;rw[swp_size];exact Na,by rw[Yx,abX hU hV ak ak]⟩ (cD) (hr:=by dsimp only;rw[vu];exact bZ.au)
 ·rintro⟨q,d3⟩ PM e;refine cN ?_;rw[PM]at ai;exact C.a8 aJ ai ⟨rfl,rfl⟩
end
section
open Go.Proofs Go.Sort
variable{ao:Bool}
theorem abY{b i:Nat}{d:Array Int}(h:i<b)(hp:ltInt d[i]! d[i-1]! =false):scanSorted ltInt d b i=scanSorted ltInt d b (i+1):=by
 conv=>lhs;unfold scanSorted
 rw[aK (by simp[h,hp])]
theorem Q8{b i:Nat}{d:Array Int}(h:¬ (i<b/\ltInt d[i]! d[i-1]! =false)):scanSorted ltInt d b i=i:=by unfold scanSorted;rw[aq (by simpa using h)]
theorem abZ{b j:Nat}{d:Array Int}(h:j<b)(hp:ltInt d[j]! d[j-1]! =true):shiftUp ltInt b j d=shiftUp ltInt b (j+1) (swp d j (j-1)):=by
 conv=>lhs;unfold shiftUp
 rw[aK h,aq (by simp[hp])]
theorem Q9{b j:Nat}{d:Array Int}(h:¬ (j<b/\ltInt d[j]! d[j-1]! =true)):shiftUp ltInt b j d=d:=by
 unfold shiftUp;split
 ·rename_i h1;rw[aK (by
   cases hz:ltInt d[j]! d[j-1]! with
   |false=>rfl
   |true=>exact absurd ⟨h1,hz⟩ h)]
 ·rfl
theorem MM{s:ax}{d:Array Int}{a b:Nat}(Ea:a<b)(hb:b<=d.size)(hl:d.size<2^40):
  aB prog ao bG 221 #[s.v,az a,az b] [aW aI 1 3 s d.toList] (λv As=>v=.bool (partialInsertionSort ltInt d a b).2/\As=[aW aI 1 3 s (partialInsertionSort ltInt d a b).1.toList]):=by
 refine aB.of λR C kd d0 F c cs aJ ai=>?_;refine bI ?_;unfold partialInsertionSort at ai;refine dm ?_;refine C.i5 (a+1) rfl ?_;refine cF ?_;refine C.bS (X:=Nat×Nat×Array Int) (λx=>[(0,s.v),(1,az a),(2,az b),(7,az x.2.1),(8,az x.1)]) (λx=>aW aI 1 3 s x.2.2.toList::F) (λx=>x.1<=5/\a+1<=x.2.1/\x.2.1<=b/\x.2.2.size=d.size/\partialIns ltInt a b 5 (a+1) d=partialIns ltInt a b (5-x.1) x.2.1 x.2.2) (λx=>5-x.1) (0,a+1,d) ⟨rfl,rfl,rfl,rfl,rfl,trivial⟩ ⟨eC _,fI _,Ea,rfl,rfl⟩ ?_;rintro⟨m,i0,d1⟩ e ⟨hm,EB,xm,iD,ho⟩ ih;dsimp only at hm EB xm iD ho⊢;have D5:d1.toList.length=d.size:=by simpa using iD
 refine da ?_;refine C.cmp rfl (λoj=>?_) (λoj=>?_)
 ·refine bj ?_;obtain⟨r,hr⟩:∃ r,5-m=r+1:=⟨4-m,ak⟩;rw[hr]at ho;apply kI (X:=Nat) (λq=>a+1<=q/\q<=b/\scanSorted ltInt d1 b i0=q) (λq=>[(0,s.v),(1,az a),(2,az b),(7,az q),(8,az m)]) (λ_=>aW aI 1 3 s d1.toList::F) (R:=R) (d:=d0) (fn:=221) (kd:=kd) (n:=133) (ds:=[]) (cs:=c::cs)
  ·intro GJ;refine C.bS (X:=Nat) (λq=>[(0,s.v),(1,az a),(2,az b),(7,az q),(8,az m)]) (λ_=>aW aI 1 3 s d1.toList::F) (λq=>a+1<=q/\q<=b/\scanSorted ltInt d1 b i0=scanSorted ltInt d1 b q) (λq=>b-q) i0 ⟨rfl,rfl,rfl,rfl,rfl,trivial⟩ ⟨EB,xm,rfl⟩ ?_;rintro i e ⟨Ap,RS,hi4⟩ D7;refine C.go ?_;rcases oq i b with lf|lf
   ·refine C.dx (cm 17 0 16) 16 [13,14,15] 0 ?_;refine jy ?_;refine Dr.p (λh=>C.eE rfl h) ?_;refine qs ?_;refine Dr.l (λhE h=>C.dT rfl h (s:=s) (l:=d1.toList) (f:=aI) (j:=i)) ?_;refine Dr.l (v:=az (d1.toList[i]'(by omega))) (λhE h=>C.dG rfl h (s:=s) (l:=d1.toList) (f:=aI) (j:=i)) ?_;refine jy ?_;refine Dr.p (v:=az ((i-1:Nat):Int)) (λh=>C.i5 (i-1) rfl h) ?_;refine Dr.l (λhE h=>C.dT rfl h (s:=s) (l:=d1.toList) (f:=aI) (j:=i-1)) ?_;refine Dr.l (v:=az (d1.toList[i-1]'(by omega))) (λhE h=>C.dG rfl h (s:=s) (l:=d1.toList) (f:=aI) (j:=i-1)) ?_;refine Dr.chain rfl ?_;refine Ch.m 13 (aP λe aa hk=>?_);refine C.cE (fH (x:=(d1.toList[i]'(by omega))) (y:=(d1.toList[i-1]'(by omega)))) (A:=[]) ?_;refine pb ?_;refine hk _ _ ?_;refine Ch.q 14 (λh=>C.nt rfl h) ?_;refine Ch.q 15 (λh=>C.pk rfl h) ?_;refine ee ?_;refine C.pU (λUh=>?_) (λUh=>?_)
    ·refine dm ?_;exact again D7 (i+1) ⟨ak,ak,by rw[hi4];exact abY lf (by rw[xY ak ak];simpa using Uh)⟩ ak
    ·refine C.go ?_;exact bN GJ i ⟨Ap,RS,by rw[hi4];exact Q8 (by rw[xY ak ak];rintro⟨_,h⟩;rw[h]at Uh;cases Uh)⟩
   ·refine C.dx (cm 17 0 16) 16 [13,14,15] 0 ?_;refine jy ?_;refine Dr.p (λh=>C.du rfl h) ?_;refine C6 ?_;refine Ch.m 13 (aP λe aa hk=>?_);refine C.no rfl (hk _ _ ?_);refine Ch.q 14 (λh=>C.no rfl h) ?_;refine Ch.q 15 (λh=>C.pk rfl h) ?_;refine oi ?_;exact bN GJ i ⟨Ap,RS,by rw[hi4];exact Q8 (by rintro⟨h,_⟩;omega)⟩
  ·rintro i ⟨Ap,RS,hS⟩ e;refine da ?_;refine C.cmp rfl (λh37=>?_) (λh37=>?_)
   ·refine cF ?_;obtain rfl:i=b:=ak;have e1:partialIns ltInt a i (r+1) i0 d1=(d1,true):=by unfold partialIns;dsimp only;rw[hS,aK rfl]
    rw[ho,e1]at ai;exact C.a8 aJ ai ⟨rfl,rfl⟩
   ·refine C.go ?_;refine cN ?_;refine C.i5 (b-a) rfl ?_;refine C.cmp rfl (λh41=>?_) (λh41=>?_)
    ·refine cF ?_;have e1:partialIns ltInt a b (r+1) i0 d1=(d1,false):=by unfold partialIns;dsimp only;rw[hS,aq ak,aK ak]
     rw[ho,e1]at ai;exact C.a8 aJ ai ⟨rfl,rfl⟩
    ·refine bj ?_;obtain⟨i,rfl⟩:∃ i',i=i'+1:=⟨i-1,ak⟩;refine C.dx (cm 42 0 15++[(57,16)]) 18 [15,16,17] 0 ?_;refine HZ ?_;refine Dr.p (v:=az ((i:Nat):Int)) (λh=>C.i5 i rfl h) ?_;refine jy ?_;refine Dr.p (v:=az ((i:Nat):Int)) (λh=>C.i5 i rfl h) ?_;refine Dr.l (λhE h=>C.dT rfl h (s:=s) (l:=d1.toList) (f:=aI) (j:=i)) ?_;refine Dr.l (v:=az (d1.toList[i]'(by omega))) (λhE h=>C.dG rfl h (s:=s) (l:=d1.toList) (f:=aI) (j:=i)) ?_;refine jy ?_;refine Dr.l (λhE h=>C.dT rfl h (s:=s) (l:=d1.toList) (f:=aI) (j:=i+1)) ?_;refine Dr.l (v:=az (d1.toList[i+1]'(by omega))) (λhE h=>C.dG rfl h (s:=s) (l:=d1.toList) (f:=aI) (j:=i+1)) ?_;refine Dr.l (λhE h=>C.dT rfl h (s:=s) (l:=d1.toList) (f:=aI) (j:=i+1)) ?_;refine Dr.chain rfl ?_;refine Ch.m 15 (aP λe aa hk=>?_);refine C.iB (s:=s) (l:=d1.toList) (f:=aI) (j:=i+1) (d1.toList[i]'(by omega)) rfl (hk _ undef ?_);refine Ch.m 16 (aP λe aa hk=>?_);refine C.dT rfl (hk _ _ ?_) (s:=s) (l:=d1.toList.set (i+1) (d1.toList[i]'(by omega))) (f:=aI) (j:=i) (hj:=by rw[cS];omega);refine Ch.m 17 (aP λe aa hk=>?_);refine C.iB (s:=s) (l:=d1.toList.set (i+1) (d1.toList[i]'(by omega))) (f:=aI) (j:=i) (d1.toList[i+1]'(by omega)) rfl (hk _ undef ?_) (hj:=by rw[cS];omega);refine ee ?_;have vu:=gp (d:=d1) (i:=i+1) (j:=i) ak ak;rw[<- vu];obtain⟨d2,VF⟩:∃ x,x=swp d1 (i+1) i:=⟨_,rfl⟩;have sK:d2.size=d.size:=by rw[VF,swp_size];exact iD
     have Rx:partialIns ltInt a b (r+1) i0 d1=partialIns ltInt a b r (i+1) (if b-(i+1)>=2 then shiftUp ltInt b (i+1+1) (if i+1-a>=2 then shiftDown ltInt i d2 else d2)else(if i+1-a>=2 then shiftDown ltInt i d2 else d2)):=by
      conv=>lhs;unfold partialIns
      dsimp only;rw[hS,aq ak,aq ak,VF];rfl
     rw[<- VF];apply kI (X:=Array Int) (λx=>x.size=d.size/\(if i+1-a>=2 then shiftDown ltInt i d2 else d2)=x) (λ_=>[(0,s.v),(1,az a),(2,az b),(7,az ((i+1:Nat):Int)),(8,az m)]) (λx=>aW aI 1 3 s x.toList::F) (R:=R) (d:=d0) (fn:=221) (kd:=kd) (n:=133) (ds:=[]) (cs:=c::cs)
     ·intro Ra;refine da ?_;refine C.i5 (i+1-a) rfl ?_;refine C.cmp rfl (λDh=>?_) (λDh=>?_)
      ·refine C.go ?_;refine da ?_;refine C.i5 i rfl ?_;refine bj ?_;refine C.bS (X:=Nat×Array Int) (λx=>[(0,s.v),(1,az a),(2,az b),(7,az ((i+1:Nat):Int)),(8,az m),(9,az x.1)]) (λx=>aW aI 1 3 s x.2.toList::F) (λx=>x.1<=i/\x.2.size=d.size/\shiftDown ltInt i d2=shiftDown ltInt x.1 x.2) (λx=>x.1) (i,d2) ⟨rfl,rfl,rfl,rfl,rfl,rfl,trivial⟩ ⟨fI _,sK,rfl⟩ ?_;rintro⟨j,d4⟩ e ⟨hj,MN,Ui⟩ z8;dsimp only at hj MN Ui⊢;have Yy:d4.toList.length=d.size:=by simpa using MN
       refine da ?_;refine C.cmp rfl (λh65=>?_) (λh65=>?_)
       ·refine bj ?_;obtain⟨j,rfl⟩:∃ j',j=j'+1:=⟨j-1,ak⟩;refine C.dx (cm 68 0 11) 11 [9,10] 0 ?_;refine jy ?_;refine Dr.l (λhE h=>C.dT rfl h (s:=s) (l:=d4.toList) (f:=aI) (j:=j+1)) ?_;refine Dr.l (v:=az (d4.toList[j+1]'(by omega))) (λhE h=>C.dG rfl h (s:=s) (l:=d4.toList) (f:=aI) (j:=j+1)) ?_;refine jy ?_;refine Dr.p (v:=az ((j:Nat):Int)) (λh=>C.i5 j rfl h) ?_;refine Dr.l (λhE h=>C.dT rfl h (s:=s) (l:=d4.toList) (f:=aI) (j:=j)) ?_;refine Dr.l (v:=az (d4.toList[j]'(by omega))) (λhE h=>C.dG rfl h (s:=s) (l:=d4.toList) (f:=aI) (j:=j)) ?_;refine Dr.chain rfl ?_;refine Ch.m 9 (aP λe aa hk=>?_);refine C.cE (fH (x:=(d4.toList[j+1]'(by omega))) (y:=(d4.toList[j]'(by omega)))) (A:=[]) ?_;refine pb ?_;refine hk _ _ ?_;refine Ch.q 10 (λh=>C.nt rfl h) ?_;refine ee ?_;refine C.pU (λII=>?_) (λII=>?_)
        ·refine C.go ?_;exact bN Ra d4 ⟨MN,by rw[aK ak,Ui];unfold shiftDown;rw[aK (by rw[xY ak ak];exact II)]⟩
        ·refine C.go ?_;refine C.dx (cm 79 0 15++[(94,16)]) 18 [15,16,17] 0 ?_;refine HZ ?_;refine Dr.p (v:=az ((j:Nat):Int)) (λh=>C.i5 j rfl h) ?_;refine jy ?_;refine Dr.p (v:=az ((j:Nat):Int)) (λh=>C.i5 j rfl h) ?_;refine Dr.l (λhE h=>C.dT rfl h (s:=s) (l:=d4.toList) (f:=aI) (j:=j)) ?_;refine Dr.l (v:=az (d4.toList[j]'(by omega))) (λhE h=>C.dG rfl h (s:=s) (l:=d4.toList) (f:=aI) (j:=j)) ?_;refine jy ?_;refine Dr.l (λhE h=>C.dT rfl h (s:=s) (l:=d4.toList) (f:=aI) (j:=j+1)) ?_;refine Dr.l (v:=az (d4.toList[j+1]'(by omega))) (λhE h=>C.dG rfl h (s:=s) (l:=d4.toList) (f:=aI) (j:=j+1)) ?_;refine Dr.l (λhE h=>C.dT rfl h (s:=s) (l:=d4.toList) (f:=aI) (j:=j+1)) ?_;refine Dr.chain rfl ?_;refine Ch.m 15 (aP λe aa hk=>?_);refine C.iB (s:=s) (l:=d4.toList) (f:=aI) (j:=j+1) (d4.toList[j]'(by omega)) rfl (hk _ undef ?_);refine Ch.m 16 (aP λe aa hk=>?_);refine C.dT rfl (hk _ _ ?_) (s:=s) (l:=d4.toList.set (j+1) (d4.toList[j]'(by omega))) (f:=aI) (j:=j) (hj:=by rw[cS];omega);refine Ch.m 17 (aP λe aa hk=>?_);refine C.iB (s:=s) (l:=d4.toList.set (j+1) (d4.toList[j]'(by omega))) (f:=aI) (j:=j) (d4.toList[j+1]'(by omega)) rfl (hk _ undef ?_) (hj:=by rw[cS];omega);refine Nc ?_;refine C.i5 j rfl ?_;refine bj ?_;have vu:=gp (d:=d4) (i:=j+1) (j:=j) ak ak;exact again z8 (j,swp d4 (j+1) j) ⟨cD,by dsimp only;rw[swp_size];exact MN,by
          rw[Ui]
          conv=>lhs;unfold shiftDown
          rw[aq (by rw[xY ak ak];simpa using II)]⟩ (cD) (hr:=by dsimp only;rw[vu];exact bZ.au)
       ·refine bj ?_;obtain rfl:j=0:=ak;exact bN Ra d4 ⟨MN,by rw[aK ak,Ui];rfl⟩
      ·refine bj ?_;exact bN Ra d2 ⟨sK,by rw[aq ak]⟩
     ·rintro d3 ⟨XB,hd3⟩ e;apply kI (X:=Array Int) (λx=>x.size=d.size/\(if b-(i+1)>=2 then shiftUp ltInt b (i+1+1) d3 else d3)=x) (λ_=>[(0,s.v),(1,az a),(2,az b),(7,az ((i+1:Nat):Int)),(8,az m)]) (λx=>aW aI 1 3 s x.toList::F) (R:=R) (d:=d0) (fn:=221) (kd:=kd) (n:=133) (ds:=[]) (cs:=c::cs)
      ·intro YE;refine da ?_;refine C.i5 (b-(i+1)) rfl ?_;refine C.cmp rfl (λh98=>?_) (λh98=>?_)
       ·refine C.go ?_;refine da ?_;refine C.i5 (i+1+1) rfl ?_;refine bj ?_;refine C.bS (X:=Nat×Array Int) (λx=>[(0,s.v),(1,az a),(2,az b),(7,az ((i+1:Nat):Int)),(8,az m),(10,az x.1)]) (λx=>aW aI 1 3 s x.2.toList::F) (λx=>i+1+1<=x.1/\x.2.size=d.size/\shiftUp ltInt b (i+1+1) d3=shiftUp ltInt b x.1 x.2) (λx=>b-x.1) (i+1+1,d3) ⟨rfl,rfl,rfl,rfl,rfl,rfl,trivial⟩ ⟨fI _,XB,rfl⟩ ?_;rintro⟨j,d4⟩ e ⟨hj,MN,Ui⟩ z8;dsimp only at hj MN Ui⊢;have Yy:d4.toList.length=d.size:=by simpa using MN
        refine cN ?_;refine C.cmp rfl (λafF=>?_) (λafF=>?_)
        ·refine bj ?_;refine C.dx (cm 106 0 11) 11 [9,10] 0 ?_;refine jy ?_;refine Dr.l (λhE h=>C.dT rfl h (s:=s) (l:=d4.toList) (f:=aI) (j:=j)) ?_;refine Dr.l (v:=az (d4.toList[j]'(by omega))) (λhE h=>C.dG rfl h (s:=s) (l:=d4.toList) (f:=aI) (j:=j)) ?_;refine jy ?_;refine Dr.p (v:=az ((j-1:Nat):Int)) (λh=>C.i5 (j-1) rfl h) ?_;refine Dr.l (λhE h=>C.dT rfl h (s:=s) (l:=d4.toList) (f:=aI) (j:=j-1)) ?_;refine Dr.l (v:=az (d4.toList[j-1]'(by omega))) (λhE h=>C.dG rfl h (s:=s) (l:=d4.toList) (f:=aI) (j:=j-1)) ?_;refine Dr.chain rfl ?_;refine Ch.m 9 (aP λe aa hk=>?_);refine C.cE (fH (x:=(d4.toList[j]'(by omega))) (y:=(d4.toList[j-1]'(by omega)))) (A:=[]) ?_;refine pb ?_;refine hk _ _ ?_;refine Ch.q 10 (λh=>C.nt rfl h) ?_;refine ee ?_;refine C.pU (λKE=>?_) (λKE=>?_)
         ·refine C.go ?_;exact bN YE d4 ⟨MN,by rw[aK ak,Ui];exact Q9 (by rw[xY ak ak];rintro⟨_,h⟩;rw[h]at KE;cases KE)⟩
         ·refine C.go ?_;refine C.dx (cm 117 0 15++[(132,16)]) 18 [15,16,17] 0 ?_;refine HZ ?_;refine Dr.p (v:=az ((j-1:Nat):Int)) (λh=>C.i5 (j-1) rfl h) ?_;refine jy ?_;refine Dr.p (v:=az ((j-1:Nat):Int)) (λh=>C.i5 (j-1) rfl h) ?_;refine Dr.l (λhE h=>C.dT rfl h (s:=s) (l:=d4.toList) (f:=aI) (j:=j-1)) ?_;refine Dr.l (v:=az (d4.toList[j-1]'(by omega))) (λhE h=>C.dG rfl h (s:=s) (l:=d4.toList) (f:=aI) (j:=j-1)) ?_;refine jy ?_;refine Dr.l (λhE h=>C.dT rfl h (s:=s) (l:=d4.toList) (f:=aI) (j:=j)) ?_;refine Dr.l (v:=az (d4.toList[j]'(by omega))) (λhE h=>C.dG rfl h (s:=s) (l:=d4.toList) (f:=aI) (j:=j)) ?_;refine Dr.l (λhE h=>C.dT rfl h (s:=s) (l:=d4.toList) (f:=aI) (j:=j)) ?_;refine Dr.chain rfl ?_;refine Ch.m 15 (aP λe aa hk=>?_);refine C.iB (s:=s) (l:=d4.toList) (f:=aI) (j:=j) (d4.toList[j-1]'(by omega)) rfl (hk _ undef ?_);refine Ch.m 16 (aP λe aa hk=>?_);refine C.dT rfl (hk _ _ ?_) (s:=s) (l:=d4.toList.set (j) (d4.toList[j-1]'(by omega))) (f:=aI) (j:=j-1) (hj:=by rw[cS];omega);refine Ch.m 17 (aP λe aa hk=>?_);refine C.iB (s:=s) (l:=d4.toList.set (j) (d4.toList[j-1]'(by omega))) (f:=aI) (j:=j-1) (d4.toList[j]'(by omega)) rfl (hk _ undef ?_) (hj:=by rw[cS];omega);refine Nf ?_;have vu:=gp (d:=d4) (i:=j) (j:=j-1) ak ak;exact again z8 (j+1,swp d4 j (j-1)) ⟨cD,by dsimp only;rw[swp_size];exact MN,by rw[Ui];exact abZ ak (by rw[xY ak ak];simpa using KE)⟩ (cD) (hr:=by dsimp only;rw[vu];exact bZ.au)
        ·refine bj ?_;exact bN YE d4 ⟨MN,by rw[aK ak,Ui];exact Q9 (by rintro⟨h,_⟩;omega)⟩
       ·refine bj ?_;exact bN YE d3 ⟨XB,by rw[aq ak]⟩
      ·rintro d5 ⟨hs5,hd5⟩ e;refine cF ?_;exact again ih (m+1,i+1,d5) ⟨cD,cD,cD,hs5,by rw[ho,Rx,hd3,hd5,show 5-(m+1)=r by omega]⟩ (cD)
 ·refine cF ?_;obtain rfl:m=5:=ak;have ho:partialIns ltInt a b 5 (a+1) d=(d1,false):=ho;rw[ho]at ai;exact C.a8 aJ ai ⟨rfl,rfl⟩
end
section
open Go.Proofs Go.Sort
variable{ao:Bool}
theorem Uj(a k:Nat)(hk:k<=64):((a:Nat):Int).fdiv (2^min ((k:Nat):Int).toNat IntKind.u64.bits)=((a/2^k:Nat):Int):=by rw[gy,show min k IntKind.u64.bits=k from Ae hk,Int.fdiv_eq_ediv_of_nonneg _ (Int.le_of_lt (Int.pow_pos (by decide)))];simp
theorem vw{n k:Nat}(h:2^k<=n):bitsLen (n/2^k)+k=bitsLen n:=by
 have hp:=lM k;have h1:=lt_two_pow_bitsLen n;have hk:k<=bitsLen n:=by
  rcases oq (bitsLen n) k with hc|hc
  ·have:=Nat.pow_le_pow_right (n:=2) ak (Nat.le_of_lt hc);omega
  ·exact hc
 refine N4 ?_ ?_
 ·have:bitsLen (n/2^k)<=bitsLen n-k:=(bitsLen_le_iff _ _).2 (by rw[Nat.div_lt_iff_lt_mul hp,<- Nat.pow_add,Nat.sub_add_cancel hk];exact h1)
  omega
 ·refine(bitsLen_le_iff _ _).2 ?_;rw[Nat.pow_add];exact(Nat.div_lt_iff_lt_mul hp).1 (lt_two_pow_bitsLen _)
theorem GL{n:Nat}(h:n<256):bitsLen n<=8:=(bitsLen_le_iff _ _).2 h
theorem ab0{n:Nat}(h:n<256):(UInt8.ofNat (bitsLen n)).toNat=bitsLen n:=by have:=GL h;rw[UInt8.toNat_ofNat'];exact x9 ak
def afH(s:ByteArray):Bool:=(List.range 256).all λi=>s[i]? ==some (UInt8.ofNat (bitsLen i))
theorem xZ{s:ByteArray}(h:afH s=true){m:Nat}(hm:m<256):s[((m:Nat):Int).toNat]? =some (UInt8.ofNat (bitsLen m)):=by have:=k9.1 h m (mM.2 hm);rw[gy];exact eq_of_beq this
theorem DR{m:Nat}(hm:m<256):IntKind.i64.wrap ((UInt8.ofNat (bitsLen m)).toNat:Int)=((bitsLen m:Nat):Int):=by have:=GL hm;rw[ab0 hm];exact pq ak ak
theorem Uk{n:Nat}(hn:n<2^32):IntKind.i64.wrap ((bitsLen n:Nat):Int)=((bitsLen n:Nat):Int):=by have:bitsLen n<=32:=(bitsLen_le_iff _ _).2 hn;exact pq ak ak
set_option maxRecDepth 4000 in
theorem Jd{n:Nat}(hn:n<2^32):aB prog ao bG 226 #[.int .u64 n] [] (λv As=>v=az (bitsLen n:Nat)/\As=[]):=by
 refine aB.of λR C kd d F c cs aJ ai=>?_;refine Ec ?_;refine C.du rfl ?_;refine cN ?_;refine C.cmp rfl (λh8=>?_) (λh8=>?_)
 ·refine cN ?_;refine C.sr rfl (Uj n 16 (by decide)) ?_;refine ky ?_;refine C.cmp rfl (λoj=>?_) (λoj=>?_)
  ·refine cN ?_;refine C.sr rfl (Uj (n/2^16) 8 (by decide)) ?_;refine i6 ?_;refine C.cv rfl ?_ (p:=((n/2^16/2^8:Nat):Int)) (r:=((n/2^16/2^8:Nat):Int)) (hr:=YY ak ak);refine C.ixs rfl rfl (tt:=9) (xZ (m:=n/2^16/2^8) (by decide+kernel) ak) ak ?_ (hx:=rfl);refine C.cv rfl ?_ (hr:=DR (m:=n/2^16/2^8) ak);refine C.ar rfl ?_ (r:=((bitsLen n:Nat):Int)) (ha:=by have h1:=vw (n:=n) (k:=16) ak;have h2:=vw (n:=n/2^16) (k:=8) ak;show some (_+_)=some _;congr 1;omega) (hr:=Uk hn);refine bj ?_;exact C.a8 aJ ai ⟨rfl,rfl⟩
  ·refine cF ?_;refine C.cv rfl ?_ (p:=((n/2^16:Nat):Int)) (r:=((n/2^16:Nat):Int)) (hr:=YY ak ak);refine C.ixs rfl rfl (tt:=9) (xZ (m:=n/2^16) (by decide+kernel) ak) ak ?_ (hx:=rfl);refine C.cv rfl ?_ (hr:=DR (m:=n/2^16) ak);refine C.ar rfl ?_ (r:=((bitsLen n:Nat):Int)) (ha:=by have h1:=vw (n:=n) (k:=16) ak;show some (_+_)=some _;congr 1;omega) (hr:=Uk hn);refine bj ?_;exact C.a8 aJ ai ⟨rfl,rfl⟩
 ·refine cN ?_;refine C.cmp rfl (λoj=>?_) (λoj=>?_)
  ·refine cN ?_;refine C.sr rfl (Uj n 8 (by decide)) ?_;refine i6 ?_;refine C.cv rfl ?_ (p:=((n/2^8:Nat):Int)) (r:=((n/2^8:Nat):Int)) (hr:=YY ak ak);refine C.ixs rfl rfl (tt:=9) (xZ (m:=n/2^8) (by decide+kernel) ak) ak ?_ (hx:=rfl);refine C.cv rfl ?_ (hr:=DR (m:=n/2^8) ak);refine C.ar rfl ?_ (r:=((bitsLen n:Nat):Int)) (ha:=by have h1:=vw (n:=n) (k:=8) ak;show some (_+_)=some _;congr 1;omega) (hr:=Uk hn);refine bj ?_;exact C.a8 aJ ai ⟨rfl,rfl⟩
  ·refine cF ?_;refine C.cv rfl ?_ (p:=((n:Nat):Int)) (r:=((n:Nat):Int)) (hr:=YY ak ak);refine C.ixs rfl rfl (tt:=9) (xZ (m:=n) (by decide+kernel) ak) ak ?_ (hx:=rfl);refine C.cv rfl ?_ (hr:=DR (m:=n) ak);refine C.ar rfl ?_ (r:=((bitsLen n:Nat):Int)) (ha:=by show some (_+_)=some _;congr 1;omega) (hr:=Uk hn);refine bj ?_;exact C.a8 aJ ai ⟨rfl,rfl⟩
theorem GM{n:Nat}(hn:n<2^32):aB prog ao bG 209 #[.int .u64 n] [] (λv As=>v=az (bitsLen n:Nat)/\As=[]):=by refine aB.of λR C kd d F c cs aJ ai=>?_;refine H0 ?_;refine C.cE (Jd hn) (A:=[]) ?_;refine pb ?_;refine bj ?_;exact C.a8 aJ ai ⟨rfl,rfl⟩
theorem Rb{n:Nat}(hn:n<2^32):aB prog ao bG 228 #[az n] [] (λv As=>v=.int .u64 (1<<<bitsLen n:Nat)/\As=[]):=by refine aB.of λR C kd d F c cs aJ ai=>?_;refine bI ?_;have hb:bitsLen n<=32:=(bitsLen_le_iff _ _).2 hn;have h2:2^bitsLen n<=2^32:=Nat.pow_le_pow_right ak hb;refine dm ?_;refine C.cv rfl ?_ (r:=((n:Nat):Int)) (hr:=HY n ak);refine C.cE (GM hn) (A:=[]) ?_;refine pb ?_;refine C.sl rfl (r:=((1<<<bitsLen n:Nat):Int)) (q:=((bitsLen n:Nat):Int)) (p:=1) (by rw[gy,show min (bitsLen n) IntKind.u64.bits=bitsLen n from Ae (by show bitsLen n<=64;omega),N5,Int.one_mul,show((2:Int)^bitsLen n)=((2^bitsLen n:Nat):Int) by simp];exact HY _ ak) ?_ (hx:=rfl);refine bj ?_;exact C.a8 aJ ai ⟨rfl,rfl⟩
abbrev ZA(b:Nat)(r:UInt64):HP:=bX b (.cells #[.int .u64 (r.toNat:Int)] 332 (0,0))
theorem xo1(a:Nat)(ha:a<2^64):IntKind.u64.wrap (((a:Nat):Int)*2^min (13:Int).toNat IntKind.u64.bits)=((a*8192%18446744073709551616:Nat):Int):=by show IntKind.u64.wrap (((a:Nat):Int)*8192)=_;simp only[IntKind.wrap,IntKind.bits,IntKind.signed,AQ,gR,false_and,eY];omega
theorem xo3(a:Nat)(ha:a<2^64):IntKind.u64.wrap (((a:Nat):Int)*2^min (17:Int).toNat IntKind.u64.bits)=((a*131072%18446744073709551616:Nat):Int):=by show IntKind.u64.wrap (((a:Nat):Int)*131072)=_;simp only[IntKind.wrap,IntKind.bits,IntKind.signed,AQ,gR,false_and,eY];omega
theorem MO{b:Nat}{r:UInt64}:aB prog ao bG 229 #[aE b] [ZA b r] (λv As=>v=.int .u64 ((xorNext r).toNat:Int)/\As=[ZA b (xorNext r)]):=by
 refine aB.of λR C kd d F c cs aJ ai=>?_;refine bI ?_;obtain⟨x,hx⟩:∃ x,x=r.toNat:=⟨_,rfl⟩;have YF:x<2^64:=by rw[hx];exact r.toNat_lt
 have WY:x*8192%18446744073709551616<2^64:=En _ (by decide);obtain⟨a,ha⟩:∃ a,a=x^^^(x*8192%18446744073709551616):=⟨_,rfl⟩;have Ul:a<2^64:=by rw[ha];exact NW YF WY
 obtain⟨y,hy⟩:∃ y,y=a^^^(a/2^7):=⟨_,rfl⟩;have ab1:y<2^64:=by rw[hy];exact NW Ul (yh (Nat.div_le_self _ _) Ul)
 have Kb:y*131072%18446744073709551616<2^64:=En _ (by decide);have hl3:a/2^7<2^64:=yh (Nat.div_le_self _ _) Ul;have hz:(xorNext r).toNat=y^^^(y*131072%18446744073709551616):=by rw[xorNext_toNat,<- hx,hy,ha];rfl
 unfold ZA at ai⊢;rw[hz]at ai;rw[<- hx];refine cN ?_;refine C.dx (cm 3 0 9) 10 [9] 0 ?_;refine n7 ?_;refine Dr.p (λh=>C.sl rfl (xo1 x YF) h) ?_;refine Dr.p (λh=>C.bt rfl (W5 x _ YF WY) h) ?_;refine wS ?_;refine Ch.m 9 (aP λe aa hk=>?_);refine C.st rfl (hk _ undef ?_);refine ee ?_;rw[<- ha];refine C.dx (cm 12 0 9) 10 [9] 0 ?_;refine n7 ?_;refine Dr.p (λh=>C.sr rfl (Uj a 7 (by decide)) h) ?_;refine Dr.p (λh=>C.bt rfl (W5 a _ Ul hl3) h) ?_;refine wS ?_;refine Ch.m 9 (aP λe aa hk=>?_);refine C.st rfl (hk _ undef ?_);refine ee ?_;rw[<- hy];refine C.dx (cm 21 0 9) 10 [9] 0 ?_;refine n7 ?_;refine Dr.p (λh=>C.sl rfl (xo3 y ab1) h) ?_;refine Dr.p (λh=>C.bt rfl (W5 y _ ab1 Kb) h) ?_;refine wS ?_;refine Ch.m 9 (aP λe aa hk=>?_);refine C.st rfl (hk _ undef ?_);refine Lt ?_;exact C.a8 aJ ai ⟨rfl,rfl⟩
end
section
open Go.Proofs Go.Sort
variable{ao:Bool}
def Rc(a L M i0:Nat)(d:Array Int):Nat->UInt64×Array Int
 |0=>(UInt64.ofNat L,d)
 |t+1=>breakStep a L M (Rc a L M i0 d t) (i0+t)
def bpO(L M:Nat)(r:UInt64):Nat:=if(xorNext r).toNat&&& (M-1)>=L then((xorNext r).toNat&&& (M-1))-L else(xorNext r).toNat&&& (M-1)
theorem ab3{a b:Nat}{d:Array Int}(h:b-a>=8):breakPatterns d a b=(Rc a (b-a) (1<<<bitsLen (b-a)) (a+(b-a)/4*2-1) d 3).2:=by unfold breakPatterns;simp only[];rw[aK h];rfl
theorem ab4{a b:Nat}{d:Array Int}(h:¬ b-a>=8):breakPatterns d a b=d:=by unfold breakPatterns;simp only[];rw[aq h]
theorem Rd{a L M i0 t:Nat}{d d1:Array Int}{r:UInt64}(h:Rc a L M i0 d t=(r,d1)):Rc a L M i0 d (t+1)=(xorNext r,swp d1 (i0+t) (a+bpO L M r)):=by show breakStep a L M (Rc a L M i0 d t) (i0+t)=_;rw[h];rfl
theorem YG{L M:Nat}{r:UInt64}(hL:0<L)(hM:M<=2*L):bpO L M r<L:=by have:(xorNext r).toNat&&& (M-1)<=M-1:=Nat.and_le_right;unfold bpO;split<;>omega
theorem Je{s:ax}{d:Array Int}{a b:Nat}(Ea:a<=b)(hb:b<=d.size)(hl:d.size<2^31):
  aB prog ao bG 218 #[s.v,az a,az b] [aW aI 1 3 s d.toList] (λv As=>As=[aW aI 1 3 s (breakPatterns d a b).toList]):=by
 refine aB.of λR C kd d0 F c cs aJ ai=>?_;refine bI ?_;obtain⟨L,hL⟩:∃ L,L=b-a:=⟨_,rfl⟩;obtain⟨M,hM⟩:∃ M,M=1<<<bitsLen L:=⟨_,rfl⟩;have hq:((L:Nat):Int).tdiv 4=((L/4:Nat):Int):=(Ju L 4).symm;refine cN ?_;refine C.i5 L rfl ?_;refine cN ?_;refine C.cmp rfl (λnz=>?_) (λnz=>?_)
 ·refine bj ?_;have hL8:L>=8:=ak;have ai:∀ v aO,aO=[aW aI 1 3 s (Rc a L M (a+L/4*2-1) d 3).2.toList]->At R d0 (aO++F) (after kd c cs v):=by rw[ab3 ak,<- hL,<- hM]at ai;exact ai
  have hM2:M<=2*L:=by rw[hM,N5];exact two_pow_bitsLen_le ak
  have hM0:0<M:=by rw[hM,N5];exact lM _
  have hLu:(UInt64.ofNat L).toNat=L:=by rw[UInt64.toNat_ofNat'];exact x9 ak
  refine bj ?_;refine C.cv rfl ?_ (r:=((UInt64.ofNat L).toNat:Int)) (hr:=by rw[hLu];exact HY L ak);refine C.al rfl (λb7=>?_);refine cN ?_;refine C.cE (Rb (n:=L) ak) (A:=[]) ?_;refine pb ?_;rw[<- hM];refine cF ?_;refine C.quo rfl ?_ (hr:=by rw[hq];exact pq ak ak);rw[hq];refine C.i5 (L/4*2) rfl ?_;refine C.i5 (a+L/4*2) rfl ?_;refine C.i5 (a+L/4*2-1) rfl ?_;refine bj ?_;refine C.bS (X:=Nat) (λt=>[(0,s.v),(1,az a),(2,az b),(6,az L),(7,aE b7),(8,.int .u64 M),(9,az ((a+L/4*2-1+t:Nat):Int))]) (λt=>ZA b7 (Rc a L M (a+L/4*2-1) d t).1::aW aI 1 3 s (Rc a L M (a+L/4*2-1) d t).2.toList::F) (λt=>t<=3/\(Rc a L M (a+L/4*2-1) d t).2.size=d.size) (λt=>3-t) 0 ⟨rfl,rfl,rfl,rfl,rfl,rfl,rfl,trivial⟩ ⟨eC _,rfl⟩ ?_ (hI:=by(try dsimp only);rw[show Rc a L M (a+L/4*2-1) d 0=(UInt64.ofNat L,d)from rfl];(try dsimp only);exact bZ.au);rintro t e ⟨ht,iD⟩ ih;generalize hbS:Rc a L M (a+L/4*2-1) d t=st at iD⊢;obtain⟨r,d1⟩:=st;dsimp only at iD⊢;have D5:d1.toList.length=d.size:=by simpa using iD
  generalize EB:a+L/4*2-1=i0 at*;have hO:=YG (r:=r) (L:=L) (M:=M) ak hM2;obtain⟨o,ho⟩:∃ o,o=bpO L M r:=⟨_,rfl⟩;rw[<- ho]at hO;refine cF ?_;refine C.quo rfl ?_ (hr:=by rw[hq];exact pq ak ak);rw[hq];refine C.i5 (L/4*2) rfl ?_;refine C.i5 (a+L/4*2) rfl ?_;refine C.i5 (a+L/4*2+1) rfl ?_;refine C.cmp rfl (λRL=>?_) (λRL=>?_)
  ·refine da ?_;refine C.cE (MO (b:=b7) (r:=r)) (A:=[ZA b7 r]) ?_;refine bI ?_;have hand:(xorNext r).toNat&&& (M-1)<=M-1:=Nat.and_le_right;have hbo:bpO L M r=if(xorNext r).toNat&&& (M-1)>=L then((xorNext r).toNat&&& (M-1))-L else(xorNext r).toNat&&& (M-1):=rfl
   have han:=ad9 (xorNext r).toNat (M-1) (xorNext r).toNat_lt ak;generalize hm:(xorNext r).toNat&&& (M-1)=m at*;refine fy ?_;refine C.ar (p:=((M:Nat):Int)) (q:=(1:Int)) (r:=((M-1:Nat):Int)) rfl ?_ (ha:=by show some (((M:Nat):Int)-(1:Int))=some ((M-1:Nat):Int);rw[show((M:Nat):Int)-1=((M-1:Nat):Int) by omega]) (hr:=HY _ ak);refine C.bt rfl han ?_;refine C.cv rfl ?_ (r:=((m:Nat):Int)) (hr:=pq ak ak);refine bj ?_;apply kI (X:=Nat) (λq=>q=o) (λq=>[(0,s.v),(1,az a),(2,az b),(6,az L),(7,aE b7),(8,.int .u64 M),(9,az ((i0+t:Nat):Int)),(10,az q)]) (λ_=>ZA b7 (xorNext r)::aW aI 1 3 s d1.toList::F) (R:=R) (d:=d0) (fn:=218) (kd:=kd) (n:=65) (ds:=[]) (cs:=c::cs)
   ·intro wY;refine da ?_;refine C.cmp rfl (λC8=>?_) (λC8=>?_)
    ·refine C.go ?_;refine cN ?_;refine C.i5 (m-L) rfl ?_;refine bj ?_;exact bN wY (m-L) (by rw[ho,hbo,aK ak])
    ·refine bj ?_;exact bN wY m (by rw[ho,hbo,aq ak])
   ·rintro q hqe e;subst hqe;clear hbo han;refine C.dx (cm 47 0 17++[(64,18)]) 20 [17,18,19] 0 ?_;refine Lr ?_;refine Dr.p (v:=az ((a+q:Nat):Int)) (λh=>C.i5 (a+q) rfl h) ?_;refine qs ?_;refine Dr.p (v:=az ((a+q:Nat):Int)) (λh=>C.i5 (a+q) rfl h) ?_;refine Dr.l (λhE h=>C.dT rfl h (s:=s) (l:=d1.toList) (f:=aI) (j:=a+q)) ?_;refine Dr.l (v:=az (d1.toList[a+q]'(by omega))) (λhE h=>C.dG rfl h (s:=s) (l:=d1.toList) (f:=aI) (j:=a+q)) ?_;refine jy ?_;refine Dr.l (λhE h=>C.dT rfl h (s:=s) (l:=d1.toList) (f:=aI) (j:=i0+t)) ?_;refine Dr.l (v:=az (d1.toList[i0+t]'(by omega))) (λhE h=>C.dG rfl h (s:=s) (l:=d1.toList) (f:=aI) (j:=i0+t)) ?_;refine Dr.l (λhE h=>C.dT rfl h (s:=s) (l:=d1.toList) (f:=aI) (j:=i0+t)) ?_;refine Dr.chain rfl ?_;refine Ch.m 17 (aP λe aa hk=>?_);refine C.iB (s:=s) (l:=d1.toList) (f:=aI) (j:=i0+t) (d1.toList[a+q]'(by omega)) rfl (hk _ undef ?_);refine Ch.m 18 (aP λe aa hk=>?_);refine C.dT rfl (hk _ _ ?_) (s:=s) (l:=d1.toList.set (i0+t) (d1.toList[a+q]'(by omega))) (f:=aI) (j:=a+q) (hj:=by rw[cS];omega);refine Ch.m 19 (aP λe aa hk=>?_);refine C.iB (s:=s) (l:=d1.toList.set (i0+t) (d1.toList[a+q]'(by omega))) (f:=aI) (j:=a+q) (d1.toList[i0+t]'(by omega)) rfl (hk _ undef ?_) (hj:=by rw[cS];omega);refine Nc ?_;refine C.i5 (i0+(t+1)) rfl ?_;refine bj ?_;have vu:=gp (d:=d1) (i:=i0+t) (j:=a+q) ak ak;have dt:=Rd (a:=a) (L:=L) (M:=M) (i0:=i0) (t:=t) (d:=d) hbS;rw[<- ho]at dt;exact again ih (t+1) ⟨ak,by rw[dt];(try dsimp only);rw[swp_size];exact iD⟩ ak (hr:=by(try dsimp only);rw[dt];(try dsimp only);rw[vu];exact bZ.au)
  ·refine bj ?_;have ht3:t=3:=ak;subst ht3;rw[hbS]at ai;exact C.cQ aJ ai rfl
 ·refine bj ?_;rw[ab4 ak]at ai;exact C.cQ aJ ai rfl
end
section
open Go.Proofs Go.Sort
variable{ao:Bool}
theorem Re(n:Nat):∀ {s:ax} {d:Array Int} {a b YH:Nat},b-a<=n->a<=b->b<=d.size->d.size<2^31->YH<2^40->Below ltInt a b d->
  aB prog ao bG 208 #[s.v,az a,az b,az YH] [aW aI 1 3 s d.toList] (λv As=>∃ Z,PermIn a b d Z/\SortedIn ltInt a b Z/\As=[aW aI 1 3 s Z.toList]):=by
 induction n using Nat.strongRecOn with
 |ind n IH=>
 intro s d a b YH hn Ea hb hl afJ hB;refine aB.of λR C kd d0 F c cs aJ ai=>?_;refine H0 ?_;refine C.bS (X:=Nat×Nat×Nat×Bool×Bool×Array Int) (λx=>[(0,s.v),(1,az x.1),(2,az x.2.1),(3,az x.2.2.1),(8,.bool x.2.2.2.1),(9,.bool x.2.2.2.2.1)]) (λx=>aW aI 1 3 s x.2.2.2.2.2.toList::F) (λx=>x.1<=x.2.1/\x.2.1-x.1<=n/\x.2.1<=d.size/\x.2.2.2.2.2.size=d.size/\x.2.2.1<2^40/\Below ltInt x.1 x.2.1 x.2.2.2.2.2/\∀ Z,PermIn x.1 x.2.1 x.2.2.2.2.2 Z->SortedIn ltInt x.1 x.2.1 Z->PermIn a b d Z/\SortedIn ltInt a b Z) (λx=>x.2.1-x.1) (a,b,YH,true,true,d) ⟨rfl,rfl,rfl,rfl,rfl,rfl,trivial⟩ ⟨Ea,hn,hb,rfl,afJ,hB,λZ h1 h2=>⟨h1,h2⟩⟩ ?_;rintro⟨a1,b1,lm,wb,wp,d1⟩ e ⟨h1,h2,h3,iD,hlm,hB1,xg⟩ ih;dsimp only at h1 h2 h3 iD hlm hB1 xg⊢;have hq8:((b1-a1:Nat):Int).tdiv 8=(((b1-a1)/8:Nat):Int):=(Ju (b1-a1) 8).symm;refine cN ?_;refine C.i5 (b1-a1) rfl ?_;refine cN ?_;refine C.cmp rfl (λRD=>?_) (λRD=>?_)
 ·refine dm ?_;refine C.dk (Q0 (d:=d1) (a:=a1) (b:=b1) h1 ak ak) ?_;rintro v aO rfl;refine k8 ?_;have hp:=insertionSort_holds swo_ltInt d1 a1 b1 h1 ak;have q:=xg _ hp.1 hp.2;exact C.a8 aJ ai ⟨_,q.1,q.2,rfl⟩
 ·refine cN ?_;refine C.cmp rfl (λZq=>?_) (λZq=>?_)
  ·refine dm ?_;refine C.dk (MJ (d:=d1) (a:=a1) (b:=b1) ak ak ak) ?_;rintro v aO rfl;refine k8 ?_;have hp:=heapSort_holds swo_ltInt d1 a1 b1 h1 ak;have q:=xg _ hp.1 hp.2;exact C.a8 aJ ai ⟨_,q.1,q.2,rfl⟩
  ·refine bj ?_;apply kI (X:=Nat×Array Int) (λx=>x.1<2^40/\PermIn a1 b1 d1 x.2) (λx=>[(0,s.v),(1,az a1),(2,az b1),(3,az x.1),(8,.bool wb),(9,.bool wp),(10,az ((b1-a1:Nat):Int))]) (λx=>aW aI 1 3 s x.2.toList::F) (R:=R) (d:=d0) (fn:=208) (kd:=kd) (n:=134) (ds:=[]) (cs:=c::cs)
   ·intro wY;refine bj ?_;rcases fU wb with rfl|rfl
    ·refine da ?_;exact bN wY (lm,d1) ⟨hlm,permIn_refl _ _ _⟩
    ·refine dV ?_;refine C.dk (Je (d:=d1) (a:=a1) (b:=b1) h1 ak ak) ?_;rintro v aO rfl;refine bI ?_;refine da ?_;refine C.i5 (lm-1) rfl ?_;refine bj ?_;exact bN wY (lm-1,breakPatterns d1 a1 b1) ⟨cD,breakPatterns_holds d1 a1 b1 h1 ak⟩
   ·rintro⟨l2,d2⟩ ⟨Kb,z3⟩ e;dsimp only at Kb z3⊢;have sK:d2.size=d.size:=by rw[z3.1];exact iD
    have hcp:=choosePivot_holds ltInt d2 a1 b1 ak;refine cN ?_;refine C.cE (Ja (d:=d2) (a:=a1) (b:=b1) ak ak ak) ?_;refine bI ?_;generalize choosePivot ltInt d2 a1 b1=cp at hcp⊢;obtain⟨pv,hi⟩:=cp;dsimp only at hcp⊢;refine dm ?_;apply kI (X:=Nat×Hint×Array Int) (λx=>a1<=x.1/\x.1<b1/\PermIn a1 b1 d2 x.2.2) (λx=>[(0,s.v),(1,az a1),(2,az b1),(3,az l2),(8,.bool wb),(9,.bool wp),(10,az ((b1-a1:Nat):Int)),(11,az x.1),(12,az (KD x.2.1))]) (λx=>aW aI 1 3 s x.2.2.toList::F) (R:=R) (d:=d0) (fn:=208) (kd:=kd) (n:=134) (ds:=[]) (cs:=c::cs)
    ·intro VG;refine bj ?_;refine C.cmp rfl (λh50=>?_) (λh50=>?_)
     ·refine dm ?_;refine C.dk (Q2 (d:=d2) (a:=a1) (b:=b1) ak h1 ak ak) ?_;rintro v aO rfl;refine bI ?_;refine da ?_;refine C.i5 (b1-1) rfl ?_;refine bj ?_;refine C.i5 (pv-a1) rfl ?_;refine C.i5 (b1-1-(pv-a1)) rfl ?_;refine cF ?_;exact bN VG (b1-1-(pv-a1),.increasing,reverseRange d2 a1 b1) ⟨cD,cD,reverseRange_holds d2 a1 b1 h1 ak⟩
     ·refine bj ?_;exact bN VG (pv,hi,d2) ⟨hcp.1,hcp.2,permIn_refl _ _ _⟩
    ·rintro⟨p3,RS,d3⟩ ⟨YI,YJ,RA⟩ e;apply kI (X:=Array Int) (λx=>PermIn a1 b1 d3 x) (λx=>[(0,s.v),(1,az a1),(2,az b1),(3,az l2),(8,.bool wb),(9,.bool wp),(10,az ((b1-a1:Nat):Int)),(11,az p3),(12,az (KD RS))]) (λx=>aW aI 1 3 s x.toList::F) (R:=R) (d:=d0) (fn:=208) (kd:=kd) (n:=134) (ds:=[]) (cs:=c::cs)
     ·intro zO;dsimp only at YI YJ RA⊢;have XB:d3.size=d.size:=by rw[RA.1];exact sK
      have P3:PermIn a1 b1 d1 d3:=permIn_trans _ _ _ a1 b1 z3 RA;have B3:Below ltInt a1 b1 d3:=hB1.perm ak P3;refine da ?_;rcases fU wb with rfl|rfl
      ·refine fy ?_;rcases fU wp with rfl|rfl
       ·refine da ?_;refine C.cmp rfl (λXP=>?_) (λXP=>?_)
        ·refine dV ?_;refine C.cE (MM (d:=d3) (a:=a1) (b:=b1) ak ak ak) ?_;refine bI ?_;have hpi:=partialInsertionSort_holds swo_ltInt d3 a1 b1 ak ak B3;generalize partialInsertionSort ltInt d3 a1 b1=pi at hpi⊢;obtain⟨d5,ok⟩:=pi;dsimp only at hpi⊢;refine C.go ?_;refine C.pU (λab6=>?_) (λab6=>?_)
         ·refine C.go ?_;have q:=xg d5 (permIn_trans _ _ _ a1 b1 P3 hpi.1) (hpi.2 ab6);exact C.a8 aJ ai ⟨_,q.1,q.2,rfl⟩
         ·refine C.go ?_;exact bN zO d5 hpi.1
        ·refine da ?_;exact bN zO d3 (permIn_refl _ _ _)
       ·refine dV ?_;exact bN zO d3 (permIn_refl _ _ _)
      ·refine jL ?_;exact bN zO d3 (permIn_refl _ _ _)
     ·rintro d4 Na e;have P3:PermIn a1 b1 d1 d3:=permIn_trans _ _ _ a1 b1 z3 RA;have P4:PermIn a1 b1 d1 d4:=permIn_trans _ _ _ a1 b1 P3 Na;have B4:Below ltInt a1 b1 d4:=hB1.perm ak P4;have MN:d4.size=d.size:=by rw[P4.1];exact iD
      have D5:d4.toList.length=d.size:=by simpa using MN
      apply kI (X:=Unit) (λ_=>True) (λ_=>[(0,s.v),(1,az a1),(2,az b1),(3,az l2),(8,.bool wb),(9,.bool wp),(10,az ((b1-a1:Nat):Int)),(11,az p3),(12,az (KD RS))]) (λ_=>aW aI 1 3 s d4.toList::F) (R:=R) (d:=d0) (fn:=208) (kd:=kd) (n:=134) (ds:=[]) (cs:=c::cs)
      ·intro VH;rcases oq 0 a1 with lf|lf
       ·refine C.dx (cm 73 0 15) 15 [12,13,14] 0 ?_;refine k6 ?_;refine Dr.p (λh=>C.eE rfl h) ?_;refine qs ?_;refine Dr.p (v:=az ((a1-1:Nat):Int)) (λh=>C.i5 (a1-1) rfl h) ?_;refine Dr.l (λhE h=>C.dT rfl h (s:=s) (l:=d4.toList) (f:=aI) (j:=a1-1)) ?_;refine Dr.l (v:=az (d4.toList[a1-1]'(by omega))) (λhE h=>C.dG rfl h (s:=s) (l:=d4.toList) (f:=aI) (j:=a1-1)) ?_;refine jy ?_;refine Dr.l (λhE h=>C.dT rfl h (s:=s) (l:=d4.toList) (f:=aI) (j:=p3)) ?_;refine Dr.l (v:=az (d4.toList[p3]'(by omega))) (λhE h=>C.dG rfl h (s:=s) (l:=d4.toList) (f:=aI) (j:=p3)) ?_;refine Dr.chain rfl ?_;refine Ch.m 12 (aP λe aa hk=>?_);refine C.cE (fH (x:=(d4.toList[a1-1]'(by omega))) (y:=(d4.toList[p3]'(by omega)))) (A:=[]) ?_;refine pb ?_;refine hk _ _ ?_;refine Ch.q 13 (λh=>C.nt rfl h) ?_;refine Ch.q 14 (λh=>C.pk rfl h) ?_;refine ee ?_;refine C.pU (λab7=>?_) (λab7=>?_)
        ·refine dm ?_;refine C.cE (GK (d:=d4) (a:=a1) (b:=b1) (pv:=p3) ak ak ak ak) ?_;refine bI ?_;have xG:ltInt d4[a1-1]! d4[p3]! =false:=by rw[xY ak ak];simpa using ab7
         obtain⟨Gt,d5,hx⟩:∃ m z,partitionEqual ltInt d4 a1 b1 p3=(m,z):=⟨_,_,rfl⟩;obtain⟨Zo,XA,hs5,hB5,Av⟩:=round_eq swo_ltInt (partitionEqual_holds ltInt) lf YI YJ ak B4 xG hx;rw[hx];dsimp only;refine dm ?_;exact again ih (Gt,b1,l2,wb,wp,d5) ⟨cD,cD,cD,cD,Kb,hB5,λZ z1 z2=>by have q:=Av Z z1 z2;exact xg Z (permIn_trans _ _ _ a1 b1 P4 q.1) q.2⟩ (cD)
        ·refine C.go ?_;exact bN VH () trivial
       ·refine C.dx (cm 73 0 15) 15 [12,13,14] 0 ?_;refine k6 ?_;refine Dr.p (λh=>C.du rfl h) ?_;refine C6 ?_;refine Ch.m 12 (aP λe aa hk=>?_);refine C.no rfl (hk _ _ ?_);refine Ch.q 13 (λh=>C.no rfl h) ?_;refine Ch.q 14 (λh=>C.pk rfl h) ?_;refine oi ?_;exact bN VH () trivial
      ·rintro _ _ e;refine cF ?_;refine C.cE (Jb (d:=d4) (a:=a1) (b:=b1) (pv:=p3) ak ak ak ak) ?_;refine bI ?_;obtain⟨Gt,ap,d5,hx⟩:∃ m p z,partition ltInt d4 a1 b1 p3=(m,p,z):=⟨_,_,_,rfl⟩;obtain⟨Zo,XA,hs5,hBl,hBr,Sn,hfr⟩:=round_part swo_ltInt (partition_holds ltInt) YI YJ ak B4 hx;rw[hx];dsimp only;refine zb ?_;refine C.i5 (Gt-a1) rfl ?_;refine bj ?_;refine C.i5 (b1-Gt) rfl ?_;refine cF ?_;refine C.quo rfl ?_ (hr:=by rw[hq8];exact pq ak ak);rw[hq8];refine cF ?_;refine C.cmp rfl (λXy=>?_) (λXy=>?_)
       ·refine cF ?_;refine C.Wl rfl ?_;refine dV ?_;refine C.dk (IH (Gt-a1) ak (s:=s) (d:=d5) (a:=a1) (b:=Gt) (YH:=l2) (fI _) Zo ak ak Kb hBl) ?_;rintro v aO ⟨d6,hp6,hs6,rfl⟩;refine bI ?_;refine da ?_;refine C.i5 (Gt+1) rfl ?_;refine bj ?_;have hq:=Sn d6 hp6 hs6;have Vo:d6.size=d5.size:=hp6.1;exact again ih (Gt+1,b1,l2,Al .geq ((Gt-a1:Nat):Int) (((b1-a1)/8:Nat):Int),ap,d6) ⟨cD,cD,cD,cD,Kb,hq.1,λZ z1 z2=>by have q:=hq.2 Z z1 z2;exact xg Z (permIn_trans _ _ _ a1 b1 P4 q.1) q.2⟩ (cD)
       ·refine cF ?_;refine C.Wl rfl ?_;refine cF ?_;refine C.i5 (Gt+1) rfl ?_;refine bj ?_;refine C.dk (IH (b1-(Gt+1)) ak (s:=s) (d:=d5) (a:=Gt+1) (b:=b1) (YH:=l2) (fI _) ak ak ak Kb hBr) ?_;rintro v aO ⟨d6,hp6,hs6,rfl⟩;refine sY ?_;have hq:=hfr d6 hp6 hs6;have Vo:d6.size=d5.size:=hp6.1;exact again ih (a1,Gt,l2,Al .geq ((b1-Gt:Nat):Int) (((b1-a1)/8:Nat):Int),ap,d6) ⟨cD,cD,cD,cD,Kb,hq.1,λZ z1 z2=>by have q:=hq.2 Z z1 z2;exact xg Z (permIn_trans _ _ _ a1 b1 P4 q.1) q.2⟩ (cD)
theorem MP:VD:=by
 intro s l hl;refine aB.of λR C kd d0 F c cs aJ ai=>?_;refine bI ?_;obtain⟨d,hd⟩:∃ d:Array Int,d=l.toArray:=⟨_,rfl⟩;have hdl:l=d.toList:=by rw[hd]
 have hsz:d.size<2^20:=by rw[hd];simpa using hl
 have Nm:d.toList.length=d.size:=by simp
 rw[hdl]at ai⊢;refine i6 ?_;refine C.cv rfl ?_ (r:=((d.size:Nat):Int)) (hr:=by rw[Nm];exact HY _ ak);refine C.cE (GM (n:=d.size) ak) (A:=[]) ?_;refine pb ?_;rw[Nm];have Ef:bitsLen d.size<=40:=(bitsLen_le_iff _ _).2 ak;refine C.dk (Re d.size (d:=d) (a:=0) (b:=d.size) (YH:=bitsLen d.size) ak ak ak ak ak (Or.inl rfl)) ?_;rintro v aO ⟨Z,hp,hs,rfl⟩;refine k8 ?_;have h:=sorted_unique_holds swo_ltInt (λx y h1 h2=>by simp only[ltInt,decide_eq_false_iff_not]at h1 h2;omega) d Z hp hs;have h':Z.toList=jn d.toList:=by
  rw[h];unfold jn
  congr 1
  funext x y
  show(!decide (y<x))=decide (x<=y);by_cases h:x<=y
  ·have h':¬ y<x:=ak;simp[h,h']
  ·have h':y<x:=ak;simp[h,h']
 rw[h'];exact C.cQ aJ ai rfl
end
section
open Go.Proofs
theorem AM:rC:=λhJ hl ho hC=>AL MP hJ hl ho hC
open Go.Conc Go.ConcM Go.RowKit
variable{H:Type}{enc:aR×Value->H}
theorem xE{a:Assume}{C:Checked}{os:Os}{f:bM}{fn:Func}{s:ChangeSpec}{F:Stop.Interp}{conds:List PathCond}{apart fresh handsOn:Bool}{X:World->Array Value->Prop}
  (hX:∀ (w w':World) (args:Array Value),w.heap=w'.heap->X w args->X w' args)
  (own:ownKnob C.prog.godebug=none) (started:os.Started) (U7:C.prog.funcs[f]? =some fn)
  (witness:∃ (w:World) (tape:Tape) (i:Input),w.os=os/\(w.forCall tape i).Shaped C.prog/\i.vars=[]/\Input.okWide C.prog (w.forCall tape i) .any w.heap.size f i/\
   ((s.pre enc C.prog fn conds apart (w.forCall tape i).memory i.args/\X (w.forCall tape i).memory i.args)/\sizedMet enc C.prog fn (OpenSpec.ofChange s) apart (w.forCall tape i).memory i.args)/\a.holds C.prog (lone (Frame.enter C.prog f i.args .normal) [] (w.forCall tape i)))
  (runs:∀ (W:World) (base:Nat) (args:Array Value) (ds gs:List (DataW H)) (before:List MemPlace),W.ShapedOpen C.prog->
   (∀ (j:Nat) t v,fn.params[j]? =some t->args[j]? =some v->Value.okWide C.prog W .any base t v)->
   DataW.Whole enc C.prog fn.params.toList s.vars apart W args.toList ds gs before->
   conds.all (PathCond.test C.prog ⟨fn.params.toList,ds,s.plain.varTypes C.prog,gs⟩)=true->
   (DataW.weightsEach C.prog (fn.params.toList++s.plain.varTypes C.prog) (ds++gs)).all (· <=reachBytes)=true->X W args->
   Ends C.prog (λv W'=>s.post enc C.prog fn apart fresh handsOn false W args v {W' with os:=W.os}/\OsLater W.os W'.os) (solo (Conc.G (Frame.enter C.prog f args .normal) []) W) #[]):
  ReturnsInLeavingWide a C os f .any (λw args=>(s.pre enc C.prog fn conds apart w args/\X w args)/\sizedMet enc C.prog fn (OpenSpec.ofChange s) apart w args) ((OpenSpec.ofChange s).postWith enc C.prog fn F (outsideKept [.timePasses]) apart fresh handsOn):=by
 refine returnsInLeavingWide_of_good own started witness ?_;intro w tape i _ ui _ lE YK afM;obtain⟨_,_,_,fn',afN,_,_,_,_,yV⟩:=lE;have e:fn'=fn:=bY (afN.symm.trans U7);subst e;obtain⟨⟨⟨ds,gs,before,hw,hc⟩,hx⟩,hz⟩:=YK;have nV:=DataW.Whole.of_heap (w':=w.forCall tape i) (by rfl) hw;obtain⟨M,last,o,w',t',h1,h2,h3,h4⟩:=runs (w.forCall tape i) w.heap.size i.args ds gs before ui yV nV hc (hz.weights hw) (hX _ _ _ (by rfl) hx);obtain⟨v,e,hp,r1,r2,r3,r4⟩:=h4;exact⟨M,last,o,w',t',h1,h2,h3,v,e,postWith_blind (postWith_of_post hp.1 hp.2),r1,r2,r3,r4⟩
theorem DU{C:Checked}{os:Os}{f:bM}{fn:Func}{s:ChangeSpec}{conds:List PathCond}{apart:Bool}{X:World->Array Value->Prop}(w0:World)(args:Array Value)(fuel:Nat)(hos:w0.os=os)
  (hv:(w0.forCall (λ_ _=>0) ⟨#[],args,[]⟩).variablesB C.prog=true)
  (hr:((w0.forCall (λ_ _=>0) ⟨#[],args,[]⟩).heap.toList.drop C.prog.globals.size).take ((begin C.prog (λ_ _=>0) default).world.heap.size-C.prog.globals.size)=
   (begin C.prog (λ_ _=>0) default).world.heap.toList.drop C.prog.globals.size)
  (lE:Input.okWideB C.prog (w0.forCall (λ_ _=>0) ⟨#[],args,[]⟩) f ⟨#[],args,[]⟩=true)
  (YK:s.preB enc C.prog fn conds apart (w0.forCall (λ_ _=>0) ⟨#[],args,[]⟩).memory args fuel=true)
  (hsz:s.sizedB enc C.prog fn apart (w0.forCall (λ_ _=>0) ⟨#[],args,[]⟩).memory args fuel=true)
  (hx:X (w0.forCall (λ_ _=>0) ⟨#[],args,[]⟩).memory args):
  ∃ (w:World) (tape:Tape) (i:Input),w.os=os/\(w.forCall tape i).Shaped C.prog/\i.vars=[]/\Input.okWide C.prog (w.forCall tape i) .any w.heap.size f i/\
   ((s.pre enc C.prog fn conds apart (w.forCall tape i).memory i.args/\X (w.forCall tape i).memory i.args)/\sizedMet enc C.prog fn (OpenSpec.ofChange s) apart (w.forCall tape i).memory i.args)/\({calm:=true}:Assume).holds C.prog (lone (Frame.enter C.prog f i.args .normal) [] (w.forCall tape i)):=
 ⟨w0,λ_ _=>0,⟨#[],args,[]⟩,hos,World.shaped_of_B hv hr,(Input.okWide_of_okWideB (base:=0) lE).1,(Input.okWide_of_okWideB lE).2,⟨⟨ChangeSpec.pre_of_preB YK,hx⟩,sizedMet_of_sizedB hsz⟩,by simp only[Assume.holds];exact⟨by simp,λ_ _ _ _=>rfl,by simp,by simp,by simp⟩⟩
theorem GP{W w':World}(jg:w'.output=W.output)(h:∀ k,k<W.heap.size->w'.heap[k]? =W.heap[k]?)(hs:W.heap.size<=w'.heap.size):Below W.heap.size W {w' with os:=W.os,tape:=W.tape}:=
 ⟨rfl,rfl,jg,hs,h⟩
theorem Um{W w':World}(jg:w'.output=W.output)(h:∀ k,k<W.heap.size->w'.heap[k]? =W.heap[k]?)(hs:W.heap.size<=w'.heap.size)(may:MemPlace->Prop):W.keptBut {w' with os:=W.os} may:=
 (GP jg h hs).frame may
theorem DV:prog.cellsOf 359=1:=by kernel_rfl
theorem GQ:prog.cellsOf 9=1:=by kernel_rfl
theorem Rh: "*"++ "errors.errorString"= "*errors.errorString":=by decide
theorem YL(u:aR)(h:prog.typeName? 3 u=some "*errors.errorString"):u=339:=
 typeName_ptr_named (nm:= "errors.errorString") (by rw[Rh];kernel_rfl) (by kernel_rfl) (by decide) u (by rw[Rh];exact h)
theorem MT(ty:Nat)(hl:ty<prog.types.size)(h:prog.rowNamed ty [101,114,114,111,114]=true):ty=46:=by
 have k:((List.range prog.types.size).all λu=> !prog.rowNamed u [101,114,114,111,114]||u==46)=true:=by kernel_rfl
 have:=k9.1 k ty (mM.2 hl);rw[h]at this;simpa using this
def YM(x:String×List UInt8):String×DataW Unit:=(x.1,.iface "*errors.errorString" (.ptr (.agg [.lit (.string x.2)])))
set_option maxRecDepth 100000 in
theorem MU{W:World}:∀ (l:List (String×List UInt8)) (ps:List MemPlace),DataW.LaidVars prog W (l.map YM) ps->ps.Nodup->
  (∀ b off,MemPlace.cell b off∈ps->(∃ c t,W.heap[b]? =some (.cells c t (0,0)))/\∀ u v,W.cell? ⟨b,off,none⟩=some (.iface u v)->Value.okWide prog W .any 0 u v)->
  (∀ n,n∈l.map (·.1)->∃ g,prog.globalNamed n=some g/\(prog.globals[g]?).map (·.type)=some 46)->
  ∃ MV:List (Nat×Nat),MV.length=l.length/\(∀ (k:Nat) (x:String×List UInt8),l[k]? =some x->∃ a,MV[k]? =some a/\W.var? prog x.1=some #[ig a])/\
   MV.Pairwise (· ≠ ·)/\(∀ a∈MV,MemPlace.cell a.1 a.2∈ps):=by
 intro l
 induction l with
 |nil=>intro ps _ _ _ _;exact⟨[],rfl,λk x h=>by simp at h,List.Pairwise.nil,λa h=>by simp at h⟩
 |cons x l ih=>
  intro ps hL lP GR hg;obtain⟨g0,t0,cs0,f0,p0,q0,hg0,ht0,OD,Sb,hq,e0⟩:=hL;obtain⟨g,YN,ht'⟩:=hg x.1 (by simp);have xe:prog.globalNamed x.1=some g0:=hg0;obtain rfl:=bY (xe.symm.trans YN);obtain rfl:=bY (ht'.symm.trans ht0);obtain⟨l0⟩:=cs0;subst e0;have ok0:∀ u v,l0=[.iface u v]->Value.okWide prog W .any 0 u v:=λu v e=>by subst e;exact(GR g0 0 (by simp[MemPlace.row])).2 u v (by simpa using World.var?_cell hg0 OD 0)
  obtain⟨a0,s0,rfl,Tr,hs0,hz0,rfl⟩:=errorString_of_trod underlying46 YL underlying339 underlying359 rfl rfl underlying9 DV GQ Sb ok0;have jE:MemPlace.cell a0.block a0.off∈MemPlace.row a0 1:=by simp[MemPlace.row]
  have rL:a0.spot=none:=by
   unfold World.cell? at Tr;split at Tr
   ·split at Tr
    ·cases Tr
    ·rename_i hs;simpa using hs
   ·cases Tr
  have hnq:q0.Nodup:=List.Nodup.sublist (List.sublist_append_right _ _) lP;obtain⟨MV,hl,je,hp,hm⟩:=ih q0 hq hnq (λb off h=>GR b off (jN _ h)) (λn hn=>hg n (by simp at hn⊢;exact .inr hn));obtain⟨b0,o0,sp0⟩:=a0;dsimp only at rL;subst rL;refine⟨(b0,o0)::MV,by simp[hl],λk y hk=>?_,List.Pairwise.cons (λa ha e=>?_) hp,λa ha=>?_⟩
  ·cases k with
   |zero=>simp at hk;subst hk;exact⟨(b0,o0),rfl,OD⟩
   |succ k=>simp at hk;simpa using je k y hk
  ·subst e;rw[iC]at lP;exact lP.2.2 _ (jN _ jE) _ (hm _ ha) rfl
  ·rcases gq.1 ha with rfl|ha
   ·exact kC _ (jN _ jE)
   ·exact jN _ (hm a ha)
def Ci(k:Nat):String:=["shardlog/cluster.ErrShape", "shardlog/cluster.ErrOps", "shardlog/cluster.ErrMany", "shardlog/cluster.ErrTx", "shardlog/cluster.ErrMessage", "shardlog/cluster.ErrShard", "shardlog/cluster.ErrDown", "shardlog/cluster.ErrUp", "shardlog/cluster.ErrStopped"].getD k ""
theorem gE:∀ k,k<9->prog.globalNamed (Ci k)=some (L3 k)/\(prog.globals[L3 k]?).map (·.type)=some 46
 |0,_=>⟨by kernel_rfl,by kernel_rfl⟩
 |1,_=>⟨by kernel_rfl,by kernel_rfl⟩
 |2,_=>⟨by kernel_rfl,by kernel_rfl⟩
 |3,_=>⟨by kernel_rfl,by kernel_rfl⟩
 |4,_=>⟨by kernel_rfl,by kernel_rfl⟩
 |5,_=>⟨by kernel_rfl,by kernel_rfl⟩
 |6,_=>⟨by kernel_rfl,by kernel_rfl⟩
 |7,_=>⟨by kernel_rfl,by kernel_rfl⟩
 |8,_=>⟨by kernel_rfl,by kernel_rfl⟩
theorem gTy:prog.globalNamed "errors.errorType"=some 4:=by kernel_rfl
def oe:List (List UInt8):=[[110,111,32,115,117,99,104,32,99,108,117,115,116,101,114],[110,111,32,116,114,97,110,115,97,99,116,105,111,110],[116,111,111,32,109,97,110,121],
 [110,111,32,115,117,99,104,32,116,114,97,110,115,97,99,116,105,111,110],[110,111,32,115,117,99,104,32,109,101,115,115,97,103,101],[110,111,32,115,117,99,104,32,115,104,97,114,100],
 [97,32,115,104,97,114,100,32,116,104,97,116,32,105,115,32,100,111,119,110],[97,32,115,104,97,114,100,32,116,104,97,116,32,105,115,32,117,112],[116,104,101,32,99,108,117,115,116,101,114,32,104,97,115,32,98,101,101,110,32,115,116,111,112,112,101,100]]
def wy:List (String×List UInt8):=[(Ci 0,oe.getD 0 []),(Ci 1,oe.getD 1 []),(Ci 2,oe.getD 2 []),(Ci 3,oe.getD 3 []),(Ci 4,oe.getD 4 []),(Ci 5,oe.getD 5 []),(Ci 6,oe.getD 6 []),(Ci 7,oe.getD 7 []),(Ci 8,oe.getD 8 [])]
theorem MX:∀ k,k<9->(wy[k]?).map (·.1)=some (Ci k)
 |0,_=>rfl
 |1,_=>rfl
 |2,_=>rfl
 |3,_=>rfl
 |4,_=>rfl
 |5,_=>rfl
 |6,_=>rfl
 |7,_=>rfl
 |8,_=>rfl
theorem Rj:(prog.cutTypes.find? (·.1== "internal/reflectlite.rtype")).map (·.2)=some 231:=by kernel_rfl
theorem GS{W:World}{l:List (String×DataW Unit)}{d:DataW Unit}(PA:(l.filter λx=>x.2.handleName?.isNone)=wy.map YM)(EC:(l.filter λx=>x.2.handleName?.isSome)=[("errors.errorType",d)])(hfd:d.funcsIn?=none)(lP:d.handleName?=some [101,114,114,111,114])
  (h:laidMetH prog l W) (hS:W.ShapedOpen prog):∃ eb,ij (hp W.heap) eb:=by
 unfold laidMetH at h;rw[EC]at h;dsimp only at h;rw[PA]at h;obtain⟨⟨ps,hL,afQ,GR⟩,hH⟩:=h;have hgs:∀ n,n∈wy.map (·.1)->∃ g,prog.globalNamed n=some g/\(prog.globals[g]?).map (·.type)=some 46:=λn hn=>by
  rw[show wy.map (·.1)=[Ci 0,Ci 1,Ci 2,Ci 3,Ci 4,Ci 5,Ci 6,Ci 7,Ci 8]from rfl]at hn;simp only[gq,mK,fX]at hn;rcases hn with h|h|h|h|h|h|h|h|h
  all_goals rw[h];exact⟨_,gE _ ak⟩
 obtain⟨MV,hl,je,hp,hm⟩:=MU wy ps hL afQ GR hgs;have hl9:MV.length=9:=hl;have GU:∀ {n:String} {g:Nat} {cs:Array Value},prog.globalNamed n=some g->W.var? prog n=some cs->g<prog.globals.size->∃ t,W.heap[g]? =some (.cells cs t (0,0)):=by
  intro n g cs hg hv dI;have hz:∃ zero t,((begin prog (λ_ _=>0) default).world.heap[g]?).bind Obj.row?=some (zero,t):=by
   have k:((List.range prog.globals.size).all λg=>(((begin prog (λ_ _=>0) default).world.heap[g]?).bind Obj.row?).isSome)=true:=by kernel_rfl
   have:=k9.1 k g (mM.2 dI);obtain⟨⟨a,b⟩,Ea⟩:=ur.1 this;exact⟨a,b,Ea⟩
  obtain⟨zero,t,hz⟩:=hz;obtain⟨cs',h1,_⟩:=hS.1 g zero t dI hz;unfold World.var? at hv;rw[hg,nU,h1]at hv;cases hv;exact⟨t,h1⟩
 have gsz:∀ k,k<9->L3 k<prog.globals.size:=λk hk=>by
  have:=(gE k hk).2;cases hx:prog.globals[L3 k]? with
  |none=>rw[hx]at this;cases this
  |some _=>exact(gQ.1 hx).1
 refine⟨λk=>MV.getD k (0,0),λk hk=>?_,λk hk=>?_,λj k hj hk e=>?_,?_⟩
 ·obtain⟨x,hx,jK⟩:=M2.1 (MX k hk);obtain⟨a,ha,hv⟩:=je k x hx;rw[jK]at hv;obtain⟨t,ht⟩:=GU (gE k hk).1 hv (gsz k hk);refine⟨t,?_⟩;simp only[List.getD,ha,kt];exact ht
 ·have h2:k<MV.length:=ak;have:=hm MV[k] (bC h2);obtain⟨c,t,h3⟩:=(GR _ _ this).1;refine⟨c,t,?_⟩;simp only[List.getD,fp h2,kt];exact h3
 ·have h1:j<MV.length:=ak;have h2:k<MV.length:=ak;simp only[List.getD,fp h1,fp h2,kt]at e;rcases Nat.lt_trichotomy j k with h|h|h
  ·exact absurd e (ya.1 hp j k h1 h2 h)
  ·exact h
  ·exact absurd e.symm (ya.1 hp k j h2 h1 h)
 ·have:=hH ("errors.errorType",d) (by simp);dsimp only at this;rw[hfd]at this;dsimp only at this;obtain⟨name,u,ty,h1,h2,h3,h4,h5⟩:=this;rw[lP]at h1;cases h1;rw[Rj]at h2;cases h2;obtain rfl:=MT ty h3 h4;exact GU gTy h5 (xa (by kernel_rfl))
theorem acb{α:Type}{l:List α}(h:l.length=3):∃ a b c,l=[a,b,c]:=by
 match l,h with
 |[a,b,c],_=>exact⟨a,b,c,rfl⟩
theorem VJ{α:Type}{l:List α}(h:l.length=6):∃ a b c d e f,l=[a,b,c,d,e,f]:=by
 match l,h with
 |[a,b,c,d,e,f],_=>exact⟨a,b,c,d,e,f,rfl⟩
theorem Rk{w:World}{base:Nat}{a:Addr}{z:Nat}{cs:List Value}(hz:0<z)(h:w.cells? base a z=some cs):a.spot=none/\cs.length=z/\∃ c ty fr,w.heap[a.block]? =some (.cells c ty fr)/\∀ o,o<z->c[a.off+o]? =cs[o]? :=by
 obtain⟨_,hl,hc⟩:=World.cells?_some h;have h0:=hc 0 hz;have si:cs[0]? =some (cs[0]'(by omega)):=fp _;rw[si,add_zero]at h0;unfold World.cell? at h0;split at h0
 ·rename_i c ty fr hb;split at h0
  ·cases h0
  ·rename_i hs;have rL:a.spot=none:=by simpa using hs
   refine⟨rL,hl,c,ty,fr,hb,λo ho=>?_⟩;have:=hc o ho;obtain⟨b,off,sp⟩:=a;dsimp only at rL hb⊢;subst rL;rw[gS]at this;unfold World.cell? at this;dsimp only at this;rw[hb]at this;simpa using this
 ·cases h0
variable{P:bR}{w:World}{spare:Nat->Bool}{held:Bool}
theorem KF{α:Type}{f:α->List Value}{z:Nat}{t e:aR}{Q:α->DataW H->Prop}(hz:0<z)(ht:P.underlying t=some (.slice e))(hc:P.cellsOf e=z)
  (he:∀ n cs y,DataW.trod enc P w 0 spare held n e cs=some y->∃ a,f a=cs/\Q a y.1) {n:Nat} {cs:List Value} {x:DataW H×List MemPlace} (h:DataW.trod enc P w 0 spare held n t cs=some x):
  ∃ v l es,cs=[v]/\xB (hp w.heap) w.heap.size f z v l/\(x.1=.nil/\es=[]\/∃ sp,x.1=.slice es sp)/\es.length=l.length/\∀ a∈l,∃ d∈es,Q a d:=by
 rcases DataW.trod_slice ht h with⟨rfl,rfl⟩|⟨a,len,cap,elems,aa,m,rfl,rfl,rfl,_,_,_,hlen,P5,_,_⟩
 ·exact⟨_,[],[],rfl,⟨none,0,rfl,.inl rfl⟩,.inl ⟨rfl,rfl⟩,rfl,by simp⟩
 subst hlen;rw[hc]at P5;have key:∀ i:Fin elems.length,∃ b,w.cells? 0 (a.add (i.1*z)) z=some (f b)/\Q b elems[i.1].1:=λi=>by have h1:=P5 i.1 i.2;rw[fp i.2,Option.bind_eq_some_iff]at h1;obtain⟨cs',h2,h3⟩:=h1;obtain⟨b,rfl,hb⟩:=he _ _ _ h3;exact⟨b,h2,hb⟩
 let l:List α:=List.ofFn λi=>Classical.choose (key i)
 have hl:l.length=elems.length:=List.length_ofFn;have hg:∀ (i:Nat) (hi:i<elems.length),w.cells? 0 (a.add (i*z)) z=some (f (l[i]'(by omega)))/\Q (l[i]'(by omega)) elems[i].1:=λi hi=>by have e:l[i]'(by omega)=Classical.choose (key ⟨i,hi⟩):=List.getElem_ofFn _;rw[e];exact Jn (key ⟨i,hi⟩)
 refine⟨_,l,elems.map (·.1),rfl,?_,.inr ⟨_,rfl⟩,by rw[dd,hl],λb hb=>?_⟩
 ·refine⟨some a,cap,by rw[hl],?_⟩;by_cases hn:elems.length=0
  ·exact .inl (NY ak)
  ·have h0:=(hg 0 ak).1;rw[KN,add_zero]at h0;obtain⟨rL,_,c,ty,fr,hb,_⟩:=Rk hz h0;obtain⟨b,off,sp⟩:=a;dsimp only at rL hb;subst rL;refine .inr ⟨b,off,c,ty,fr,rfl,hb,(gQ.1 hb).1,λj hj o ho=>?_⟩;have Te:=(hg j ak).1;rw[gS]at Te;obtain⟨_,_,c',UR,fr',nZ,hr⟩:=Rk hz Te;dsimp only at nZ hr;rw[hb]at nZ;cases nZ;exact hr o ho
 ·obtain⟨i,hi,rfl⟩:=jO hb;have cG:i<elems.length:=ak;exact⟨elems[i].1,bL.2 ⟨_,bC cG,rfl⟩,(hg i cG).2⟩
theorem DW:prog.cellsOf 4=1:=by kernel_rfl
theorem w8:prog.cellsOf 3=1:=by kernel_rfl
theorem GV:prog.cellsOf 27=1:=by kernel_rfl
theorem zQ:prog.cellsOf 63=3:=by kernel_rfl
theorem vx:prog.cellsOf 29=6:=by kernel_rfl
theorem Jh:prog.bytesOf 63=24:=by kernel_rfl
theorem DX:prog.bytesOf 29=64:=by kernel_rfl
theorem uh{n:Nat}{v:Value}{y:DataW H×List MemPlace}(h:DataW.trod enc prog w 0 spare held n 3 [v]=some y):∃ k,v=az k/\Zp k:=by obtain⟨k,h1,_,h3⟩:=DataW.trod_int underlying3 h;refine⟨k,by simpa using h1,?_⟩;simp only[Lit.wf,j8,nD]at h3;exact h3
theorem acd{n:Nat}{cs:List Value}{y:DataW H×List MemPlace}(h:DataW.trod enc prog w 0 spare held n 63 cs=some y):∃ o,gg o=cs/\OpZ o:=by obtain⟨xs,m,_,_,hl,Oc,hf⟩:=DataW.trod_struct underlying63 h;rw[zQ]at hl;have Oc:xs.length=3:=Oc;obtain⟨a,b,c,rfl⟩:=acb hl;have f0:DataW.trod enc prog w 0 spare held m 4 (([a,b,c].drop 0).take (prog.cellsOf 4))=xs[0]? :=hf 0 _ rfl;have f1:DataW.trod enc prog w 0 spare held m 3 (([a,b,c].drop 1).take (prog.cellsOf 3))=xs[1]? :=hf 1 _ rfl;have f2:DataW.trod enc prog w 0 spare held m 3 (([a,b,c].drop 2).take (prog.cellsOf 3))=xs[2]? :=hf 2 _ rfl;rw[fp ak]at f0 f1 f2;rw[DW]at f0;rw[w8]at f1 f2;obtain⟨p,hp,_⟩:=DataW.trod_bool underlying4 f0;obtain⟨q,rfl,hq⟩:=uh f1;obtain⟨r,rfl,hr⟩:=uh f2;have hp:[a]=[.bool p]:=hp;cases hp;exact⟨⟨p,q,r⟩,rfl,hq,hr⟩
def VK(w:World)(s:p8)(d:DataW H):Prop:=(∀ x∈d.weights prog 29,x<=reachBytes)->rz (hp w.heap) w.heap.size s
theorem Rl{n:Nat}{cs:List Value}{y:DataW H×List MemPlace}(h:DataW.trod enc prog w 0 spare held n 29 cs=some y):∃ s,ti s=cs/\VK w s y.1:=by
 obtain⟨xs,m,_,hy,hl,Oc,hf⟩:=DataW.trod_struct underlying29 h;rw[vx]at hl;have Oc:xs.length=6:=Oc;obtain⟨a,b,c,d,e,u,rfl⟩:=VJ hl;have f0:DataW.trod enc prog w 0 spare held m 3 (([a,b,c,d,e,u].drop 0).take (prog.cellsOf 3))=xs[0]? :=hf 0 _ rfl;have f1:DataW.trod enc prog w 0 spare held m 3 (([a,b,c,d,e,u].drop 1).take (prog.cellsOf 3))=xs[1]? :=hf 1 _ rfl;have f2:DataW.trod enc prog w 0 spare held m 3 (([a,b,c,d,e,u].drop 2).take (prog.cellsOf 3))=xs[2]? :=hf 2 _ rfl;have f3:DataW.trod enc prog w 0 spare held m 3 (([a,b,c,d,e,u].drop 3).take (prog.cellsOf 3))=xs[3]? :=hf 3 _ rfl;have f4:DataW.trod enc prog w 0 spare held m 3 (([a,b,c,d,e,u].drop 4).take (prog.cellsOf 3))=xs[4]? :=hf 4 _ rfl;have f5:DataW.trod enc prog w 0 spare held m 27 (([a,b,c,d,e,u].drop 5).take (prog.cellsOf 27))=xs[5]? :=hf 5 _ rfl;rw[fp ak]at f0 f1 f2 f3 f4 f5;rw[w8]at f0 f1 f2 f3 f4;rw[GV]at f5;obtain⟨p0,rfl,h0⟩:=uh f0;obtain⟨p1,rfl,h1⟩:=uh f1;obtain⟨p2,rfl,h2⟩:=uh f2;obtain⟨p3,rfl,h3⟩:=uh f3;obtain⟨p4,rfl,h4⟩:=uh f4;obtain⟨v,l,es,hv,jE,hd,hlen,hq⟩:=KF (f:=gg) (z:=3) (Q:=λo _=>OpZ o) (by decide) underlying27 zQ (λn cs y h=>acd h) f5;have hv:[u]=[v]:=hv;cases hv;refine⟨⟨p0,p1,p2,p3,p4,u,l⟩,rfl,λhw=>⟨h0,h1,h2,h3,h4,jE,λo ho=>?_,?_⟩⟩
 ·obtain⟨_,_,h⟩:=hq o ho;exact h
 ·show l.length*24<=_;rcases hd with⟨_,rfl⟩|⟨sp,hd⟩
  ·have:l.length=0:=hlen.symm;omega
  ·rw[hy]at hw;obtain⟨x0,x1,x2,x3,x4,x5,rfl⟩:=VJ Oc;have hd:x5.1=.slice es sp:=hd;have:=hw ((es.length+sp.length)*24) (by unfold DataW.weights;rw[underlying29];simp only[iJ,ml,DataW.weightsEach,cg];rw[hd];refine .inr (.inr (.inr (.inr (.inr (.inl ?_)))));unfold DataW.weights;rw[underlying27];simp only[Jh];exact iI ..)
   unfold reachBytes at this;rw[<- hlen];have h9:es.length*24<=(es.length+sp.length)*24:=tu _ (Nat.le_add_right ..);omega
theorem rK{P:bR}{e:aR}:∀ {es:List (DataW H)} {d:DataW H},d∈es->∀ x∈d.weights P e,x∈DataW.weightsAll P e es
 |[],_,h,_,_=>by cases h
 |a::es,d,h,x,hx=>by
  unfold DataW.weightsAll;rcases gq.1 h with rfl|h
  ·exact kC _ hx
  ·exact jN _ (rK h x hx)
theorem MY{n:Nat}{cs:List Value}{y:DataW H×List MemPlace}(h:DataW.trod enc prog w 0 spare held n 22 cs=some y)(hw:∀ x∈y.1.weights prog 22,x<=reachBytes):
  ∃ v sc,cs=[v]/\xB (hp w.heap) w.heap.size ti 6 v sc/\(∀ s∈sc,rz (hp w.heap) w.heap.size s)/\sc.length*64<=140737488355328:=by
 obtain⟨v,l,es,hv,jE,hd,hlen,hq⟩:=KF (f:=ti) (z:=6) (Q:=λs d=>VK w s d) (by decide) underlying22 vx (λn cs y h=>Rl h) h;refine⟨v,l,hv,jE,λs hs=>?_,?_⟩
 ·obtain⟨d,wG,VF⟩:=hq s hs;refine VF λx hx=>?_;rcases hd with⟨_,rfl⟩|⟨sp,hd⟩
  ·cases wG
  ·refine hw x ?_;rw[hd];unfold DataW.weights;rw[underlying22];simp only[gq,cg];exact .inr (.inl (rK wG x hx))
 ·rcases hd with⟨_,rfl⟩|⟨sp,hd⟩
  ·have:l.length=0:=hlen.symm;omega
  ·have:=hw ((es.length+sp.length)*64) (by rw[hd];unfold DataW.weights;rw[underlying22];simp only[DX];exact iI ..)
   unfold reachBytes at this;rw[<- hlen];have h9:es.length*64<=(es.length+sp.length)*64:=tu _ (Nat.le_add_right ..);omega
open Go.ChangeShapes Go.WideShapes
theorem laidOut:laidOutB prog=true:=by kernel_rfl
theorem GW:prog.readableRec 22=true:=by kernel_rfl
theorem Jj:22<prog.types.size:=xa (by kernel_rfl)
set_option maxRecDepth 100000 in
theorem Rm{f:bM}{fu:Func}{s:ChangeSpec}{apart fresh handsOn:Bool}{W:World}{base:Nat}{args:Array Value}{ds gs:List (DataW H)}{before:List MemPlace}
  (Un:fu.params.toList=[22]) (afR:fu.resultTypes=#[4]) (VM:s.vars=[]) (U7:∀ d:DataW H,(s.fn H [d]).results=[.lit (.bool true)]/\(s.fn H [d]).args=[d]/\(s.fn H [d]).vars=[])
  (yV:∀ (j:Nat) t v,fu.params[j]? =some t->args[j]? =some v->Value.okWide prog W .any base t v)
  (hW:DataW.Whole enc prog fu.params.toList s.vars apart W args.toList ds gs before) (De:(DataW.weightsEach prog (fu.params.toList++s.plain.varTypes prog) (ds++gs)).all (· <=reachBytes)=true)
  (hE:∃ eb,ij (hp W.heap) eb)
  (run:∀ {Post:Value->World->Prop} {os:Os} {out:Array (Nat×ByteArray)} {σ:Gh} {I:HL} {v:Value} {sc:List p8} {eb:Nat->Nat×Nat},ij I eb->xB I σ.bot ti 6 v sc->(∀ s∈sc,rz I σ.bot s)->sc.length<=2^41->p9 σ->
   (∀ (I':HL) (w:World),Sub I I'->Sat [a9 I'] (hp w.heap)->w.os=os->w.output=out->Post (.bool true) w)->At (aD prog Post bT σ 0 os out) 0 [a9 I] (iL prog f #[v] .pR [])):
  Ends prog (λv W'=>s.post enc prog fu apart fresh handsOn false W args v {W' with os:=W.os}/\OsLater W.os W'.os) (solo (G (Frame.enter prog f args .normal) []) W) #[]:=by
 have hW':=hW;obtain⟨p,q,hA,hV,rfl,hfz,lP⟩:=hW;rw[VM]at hV;obtain⟨rfl,rfl⟩:=trodVars_none hV;rw[Un]at hA;obtain⟨v,d,rfl,rfl,hd⟩:=trodAll_one hA;obtain⟨n,ht⟩:=hd;rw[Un]at De;obtain⟨v',sc,si,jE,dt,hlen⟩:=MY ht (λx hx=>by
  have:=k9.1 De x (by simp only[iT,eZ,DataW.weightsEach,cg];exact .inl hx)
  simpa using this)
 have hp0:fu.params[0]? =some 22:=by rw[<- Array.getElem?_toList,Un];rfl
 have OD:=yV 0 22 v hp0 (by simp);obtain⟨a0,ace,acf,rfl⟩:=okWide_slice underlying22 OD;obtain rfl:Value.slice a0 ace acf=v':=(AX si).1;obtain⟨eb,hE⟩:=hE;have h0:p9 {n:=1,aU:=λ_=>none,sh:=λ_=>False,bot:=W.heap.size}:=⟨Nat.one_ne_zero,λ_=>rfl⟩;refine wH.whole (bot:=W.heap.size) ?_;have hr:=run (Post:=λv W'=>s.post enc prog fu apart fresh handsOn false W #[.slice a0 ace acf] v {W' with os:=W.os}/\OsLater W.os W'.os) (os:=W.os) (out:=W.output) (σ:={n:=1,aU:=λ_=>none,sh:=λ_=>False,bot:=W.heap.size}) (I:=hp W.heap) hE jE dt ak h0 ?_
 ·exact hr W.heap ⟨_,rfl,λ_ _ h=>h,trivial⟩ rfl (GO.mk (λi s h=>by cases h) (λi s c h=>by cases h) (λi s p h=>by cases h) (λl h=>False.elim h) (fI _)) W rfl rfl rfl
 ·intro I' w gD afT hos jg;obtain⟨h1,rfl,iD,_⟩:=afT;have Hx:∀ k,k<W.heap.size->w.heap[k]? =W.heap[k]? :=λk hk=>by have e:W.heap[k]? =some (W.heap[k]'hk):=D2 hk;rw[e];exact iD _ _ (gD _ _ e)
  have hsz:W.heap.size<=w.heap.size:=by
   by_cases h:W.heap.size=0
   ·omega
   ·have e:W.heap[W.heap.size-1]? =some (W.heap[W.heap.size-1]'(by omega)):=D2 ak;have:=(gQ.1 (Hx (W.heap.size-1) ak |>.trans e)).1;omega
  have hb:=GP (w':=w) jg Hx hsz;obtain⟨e1,e2,e3⟩:=U7 d;simp only[lK]at hW';have acg:=Below.trod laidOut GW Jj ⟨n,ht⟩ hb (λx hx=>hW'.lt x hx);refine⟨⟨[d],[],p,[],p,[],hW',?_,?_,?_,Um jg Hx hsz _,λh=>by cases h⟩,by rw[hos];exact OsLater.refl _⟩
  ·rw[lK,e1,afR];exact trodAll_mk1 (shut_bool underlying4 true)
  ·rw[lK,e2,Un];exact trodAll_mk1 (DataW.Trod.of_heap (w':={w with os:=W.os}) (by rfl) acg)
  ·rw[lK,e3,VM];rfl
end
end Go.Sl
