/-
  Texts that the proof needs, joined: part 7.
-/
import Derived.Test.YtjomdboiibakiabGreatDoorSeF
import Derived.Sort.Defs
import Derived.Sort.LotD5
set_option linter.unusedSimpArgs false
set_option linter.unusedVariables false
set_option maxHeartbeats 4000000
namespace Go.Sl
open Go.Proofs.Tryz
section
open Go.Proofs Go.Conc
structure m5(σ:Gh)(c:CV):Prop extends RegC σ c where
 rdn:∀ v∈c.ah,∀ i s,σ.aQ i=some s->¬ s.has v.h.rd
variable{P:bL}{Post:Value->World->Prop}{X:tO}{σ:Gh}{h:Nat}{os:Os}{out:Array (Nat×ByteArray)}{d:Nat}{As:List HP}{g:aM}
theorem At.gh(k:σ.aQ h=none->(∀ i s,σ.aQ i=some s->i<σ.n)->At (aE P Post X σ h os out) d As g):At (aE P Post X σ h os out) d As g:=λH st hole go=>k hole go.lt H st hole go
theorem QQ(σ:Gh)(h j:Nat)(s:dH):(σ.given h j s).aQ h=some s:=Go.ConcN.upd_same ..
theorem IL{j:Nat}{s sM:dH}(h0:σ.aQ 0=none)(hj:σ.aQ j=some s):(σ.given 0 j sM).given j 0 s=σ:=by
 have eV:j≠0:=λz=>by rw[z,h0]at hj;cases hj
 obtain⟨n,aQ,sh,bot⟩:=σ;unfold Gh.given;simp only[Gh.mk.injEq,o4,yG]
 funext i
 by_cases e1:i=j
 ·subst e1;rw[Go.ConcN.upd_same];exact hj.symm
 ·rw[Go.ConcN.upd_ne _ _ e1];by_cases e2:i=0
  ·subst e2;rw[Go.ConcN.upd_same];exact h0.symm
  ·rw[Go.ConcN.upd_ne _ _ e2,Go.ConcN.upd_ne _ _ e2,Go.ConcN.upd_ne _ _ e1]
abbrev ZI(v:HV)(G:CG)(m:Int)(hs aK aF:Value)(aj:Bool)(st:Int)(kd:Nat)(F:List HP):List HP:=
 oW G.b m hs aK aF (.chan (some G.dn)) aj st::da G.cb (.cells #[ay G.b] 31 (0,0))::da G.dn (.chan 0 #[] false kd kd false)::tv v F
theorem Fo.over{x:HP}{L L':List HP}:∀ A:List HP,Fo x L L'->Fo x (A++L) (A++L')
 |[],h=>h
 |_::A,h=>.tail (Fo.over A h)
theorem serve{Post:Value->World->Prop}{σ:Gh}{os:Os}{out:Array (Nat×ByteArray)}{v:HV}{G:CG}{m st:Int}{hs aK aF:Value}{aj:Bool}{kd:Nat}{I:HL}{A F:List HP}{sM:dH}{z:Value}
  {f:bJ} {fu:Func} {code:Code} {nf:Nat} [bd:Body prog f fu code nf] {a1 caps:Array Value} {o a:Int} {rs:ek} {r0:aM}
  (hf:aI prog false cH f (a1++[ay v.h.bs].toArray++caps) (dk v.h.bs v.s::bD I::A) (gD v.h.bs I o a rs))
  (Nv:v.h.g≠0) (du:v.h.g<σ.n) (h0:σ.aQ 0=some sM) (hkc:sM.cases[0]? =some (rcase v.h.rd z)) (mg:∀ i s',σ.aQ i=some s'->s'.has v.h.rd->i=0) (RN:v.h.wk≠G.dn) (ZJ:DL v.h G r0)
  (k':∀ (I':HL) (s':di) (so:az),Sub I I'->ShJ I' s'->s'.abs=rs->xn o a s'->∀ r,sM.uL r->
   At (aE prog Post bI (σ.given v.h.g 0 (eL v.h G)) 0 os out) 0 (ZI {v with s:={s' with out:=[]},kr:=v.kr+1} G m hs aK aF aj st kd (bG dt 7 159 so s'.out::bD I'::F)) (Conc.served r (commResult sM.cases sM.shape 0 so.v true))):
  At (aE prog Post bI σ v.h.g os out) 0 (ZI v G m hs aK aF aj st kd (bD I::(A++F))) (Conc.served r0 (commResult (eL v.h G).cases (eL v.h G).shape 0 (.func (.func f) a1 caps) true)):=by
 have C:ab prog false bI.B0 (aE prog Post bI σ v.h.g os out):=aE.SN Nv;obtain⟨e,cs,⟨e1,rfl⟩,he0,he1,rfl⟩:=ZJ;have afG:commResult (eL v.h G).cases (eL v.h G).shape 0 (.func (.func f) a1 caps) true=.tuple #[aD 0,.bool true,.func (.func f) a1 caps,.agg #[]]:=XQ;rw[sj rfl,afG,<- j5 (e:=e) (l:=[(0,ay v.h.bh),(1,.chan (some G.dn))]) ⟨he0,he1,trivial⟩];refine fG ?_;refine C.v0 rfl ?_ rfl;refine C.v0 rfl ?_ rfl;refine lI ?_;refine fG ?_;refine At.perm (UI [_,_,_,_,_,_,_,_,_] A F) ?_;refine cr ?_;refine C.Vb (f:=f) (a1:=a1) (a2:=caps) (vl:=[ay v.h.bs]) (aI.less Qt hf) ?_ (hr:=.cons (Fo.over A Fo.au) (.cons (Fo.over A Fo.au) (fg.app A)));rintro w aP ⟨I',s',R2,ra,lv,Ml,rfl⟩;refine sB ?_;refine C.A4 (cW 21 0 9) 10 [8,9] 1 ?_ (W:=[da v.h.bh (.cells #[ay v.h.bs,.chan (some v.h.wk),.chan (some v.h.rd)] 130 (0,0))]);refine Em ?_;refine Dr.chain rfl ?_ (λ_ s=>cV.sat cV.au s);refine Ch.m 8 (aY λe aa hk=>?_);refine C.fF (aI.less Qt Ig) ?_;rintro w aP ⟨so,rfl,rfl⟩;refine cr ?_;refine hk _ _ pU ?_;refine Ch.last 9 ⟨_,rfl,rfl⟩ ?_;refine At.lP (show cV _ (ZI {v with s:={s' with out:=[]}} G m hs aK aF aj st kd (bG dt 7 159 so s'.out::bD I'::F)) by exact cV.au) ?_;have afH:(v.h.g==0)=false:=by simpa using Nv
 refine aE.give (c:=v.h.rd) (kk:=0) (kc:=v.kr) (s:=sM) (sH:=eL v.h G) (v:=so.v) (z:=z) (z':=.tuple #[]) du 0 rfl rfl rfl h0 hkc mg (aP:=ZI {v with s:={s' with out:=[]},kr:=v.kr+1} G m hs aK aF aj st kd (bG dt 7 159 so s'.out::bD I'::F)) ?_ (Gq RN) ?_ ?_ ?_ ?_ ?_
 ·repeat(first|with_reducible exact rj.head|with_reducible apply rj.tail)
 ·intro H st;exact(rS (h:=v.h) (C:=G) Nv (Has.get Has.au st) (Has.get Has.au st) (Has.get Has.au st) rfl (Has.get Has.au st) rfl (Has.get Has.au st) (Has.get Has.au st)).1
 ·intro H st;exact(rS (h:=v.h) (C:=G) Nv (Has.get Has.au st) (Has.get Has.au st) (Has.get Has.au st) rfl (Has.get Has.au st) rfl (Has.get Has.au st) (Has.get Has.au st)).1
 ·intro H st;exact(rS (h:=v.h) (C:=G) Nv (Has.get Has.au st) (Has.get Has.au st) (Has.get Has.au st) rfl (Has.get Has.au st) rfl (Has.get Has.au st) (Has.get Has.au st)).2
 ·rw[afH];have M:=Mt.way (P:=prog) (ao:=false) (s:=eL v.h G);refine⟨400,?_⟩;refine Way.mono (n:=200+1+60) ?_ ai;refine M.go ?_;refine M.Wu ?_;exact Ge ⟨_,rfl⟩ rfl rfl
 ·intro r hr;exact k' I' s' so R2 ra lv Ml r hr
abbrev onD:List (Nat×Nat):=[(19,0),(20,1),(21,2),(22,3),(23,4),(24,5),(25,6),(26,7),(27,8),(28,9),(29,10),(30,11),(31,12)]
abbrev TZ(b bh:Nat)(bg:Value)(rd:Nat):List SE:=[⟨0,19,ay b,false⟩,⟨1,20,ay b,false⟩,⟨2,21,ay b,false⟩,⟨3,22,.pointer (some ⟨b,3,none⟩),false⟩,⟨4,23,bg,true⟩,⟨5,24,ay bh,false⟩,⟨6,25,ay bh,false⟩,⟨7,26,.pointer (some ⟨bh,2,none⟩),false⟩,⟨8,27,.chan (some rd),true⟩,⟨11,30,ay b,false⟩,⟨12,31,.pointer (some ⟨b,3,none⟩),false⟩]
def onE(E:Nat->Value)(b bh:Nat):Nat->Value:=rk E [(0,ay b),(6,ay bh)]
def ab3(E:Nat->Value)(b bh:Nat)(bg:Value)(rd:Nat)(kd:Kd)(cs:List Frame)(r:aM):Prop:=∃ e aa,Stood (cO (cR (cR ((f87.body).getD .skip)))) (onE E b bh) onD (TZ b bh bg rd) 9 e aa/\r=gr 87 kd 32 e [] (.inRegion (cO (cR (cR ((f87.body).getD .skip)))) (9::aa)::[]) cs
def ox(E:Nat->Value)(b bh:Nat)(bg:Value)(rd:Nat)(kd:Kd)(cs:List Frame):dH:=⟨#[rcase rd (.slice none 0 0)],.recv false,ab3 E b bh bg rd kd cs,[(⟨b,3,none⟩,bg),(⟨bh,2,none⟩,.chan (some rd))]⟩
theorem KV{b bh rd:Nat}{bg:Value}:∀ i∈[0,1,2,3,4,5,6,7,8,11,12],∃ x∈TZ b bh bg rd,x.i=i:=by intro i hi;simp only[fR,m6,gm]at hi;rcases hi with rfl|rfl|rfl|rfl|rfl|rfl|rfl|rfl|rfl|rfl|rfl<;>simp
theorem KW{b bh rd:Nat}{bg:Value}:∀ x∈TZ b bh bg rd,x.i∈[0,1,2,3,4,5,6,7,8,11,12]:=by simp
theorem QR{b bh rd:Nat}{bg:Value}:∀ x∈TZ b bh bg rd,∀ y∈TZ b bh bg rd,x.i=y.i->x=y:=by simp
theorem QS{b bh rd:Nat}{bg:Value}:∀ x∈TZ b bh bg rd,iO (cO (cR (cR ((f87.body).getD .skip)))) x.i=some x.t:=by intro x hx;simp only[fR,m6,gm]at hx;rcases hx with rfl|rfl|rfl|rfl|rfl|rfl|rfl|rfl|rfl|rfl|rfl<;>rfl
theorem QT{P:bL}{n:Nat}{e:Nat->Value}{dst:Option Nat}{ty tt el:aO}{dir:ChanDir}{pos:String}{af:Array Edge}{gd:Option (Nat×Bool)}{x:cZ}{z:Value}{b:Nat}(hu:P.underlying tt=some (.chan dir el))[cz:Zv P el z](hx:ev n e x=.chan (some b)):
  fW P (execOp (ev n e) ⟨dst,.recv tt x false,ty,pos,af,gd⟩)=some (.comm #[rcase b z] true (.recv false)):=by
 unfold execOp;simp only[hx];refine bC (fL hu) ?_;exact bC (rA cz.h) rfl
theorem X8{ao:Bool}{E:Nat->Value}{b bh rd:Nat}{bg:Value}{kd:Kd}{cs:List Frame}:Way prog ao (ox E b bh bg rd kd cs) 40 (gr 87 kd 32 (onE E b bh) [] (.code (cR (cR ((f87.body).getD .skip)))::[]) cs):=by
 refine LJ (c:=(cR (cR ((f87.body).getD .skip)))) onD [0,1,2,3,4,5,6,7,8,11,12] [9,10,13] 9 (TZ b bh bg rd) ⟨KV,KW,QR,QS,?_⟩ ?_
 ·intro x hx;simp only[fR,m6,gm]at hx;rcases hx with rfl|rfl|rfl|rfl|rfl|rfl|rfl|rfl|rfl|rfl|rfl
  ·exact⟨[],by simp,λm e aa q=>Pw rfl q⟩
  ·exact⟨[],by simp,λm e aa q=>Pw rfl q⟩
  ·exact⟨[⟨1,20,ay b,false⟩],by simp,λm e aa q=>Kf (a:=⟨b,0,none⟩) rfl q⟩
  ·exact⟨[⟨2,21,ay b,false⟩],by simp,λm e aa q=>Kg (b:=b) (off:=0) (o:=3) rfl q⟩
  ·exact⟨[⟨3,22,.pointer (some ⟨b,3,none⟩),false⟩],by simp,λm e aa q=>E9 (ad:=⟨b,3,none⟩) (by simp[ox]) rfl q⟩
  ·exact⟨[],by simp,λm e aa q=>Pw rfl q⟩
  ·exact⟨[⟨5,24,ay bh,false⟩],by simp,λm e aa q=>Kf (a:=⟨bh,0,none⟩) rfl q⟩
  ·exact⟨[⟨6,25,ay bh,false⟩],by simp,λm e aa q=>Kg (b:=bh) (off:=0) (o:=2) rfl q⟩
  ·exact⟨[⟨7,26,.pointer (some ⟨bh,2,none⟩),false⟩],by simp,λm e aa q=>E9 (ad:=⟨bh,2,none⟩) (by simp[ox]) rfl q⟩
  ·exact⟨[⟨0,19,ay b,false⟩],by simp,λm e aa q=>Kf (a:=⟨b,0,none⟩) rfl q⟩
  ·exact⟨[⟨11,30,ay b,false⟩],by simp,λm e aa q=>Kg (b:=b) (off:=0) (o:=3) rfl q⟩
 ·intro e aa dI;have iw:ev 32 e (.tmp 27)=.chan (some rd):=by obtain⟨md,fuel,t,listed,hsz,hu,st,tF,iw,rfl⟩:=dI;exact st.v1 ⟨8,27,.chan (some rd),true⟩ (by simp) (iw 8 (by decide+kernel))
  exact⟨_,⟨e,aa,dI,rfl⟩,rfl,rfl,rfl,rfl,#[],by simp,λw _=>stepG_comm rfl rfl (QT underlying128 iw) w⟩
theorem Gu{E:Nat->Value}{b bh rd k:Nat}{bg:Value}{kd:Kd}{cs:List Frame}{H:Array Obj}{c1 c2:Array Value}(h1:hp H b=some (.cells c1 93 (0,0)))(AR:c1[3]? =some bg)(h2:hp H bh=some (.cells c2 130 (0,0)))(Nz:c2[2]? =some (.chan (some rd)))(h3:hp H rd=some (.chan 0 #[] false k k false)):
  zg (bI.rd 0) (ox E b bh bg rd kd cs) H:=by
 refine⟨λc hc=>?_,λp hp=>?_⟩
 ·obtain⟨j,z,e⟩:=hc;rcases j with _|j
  ·simp[ox,rcase]at e;rw[<- e.1];exact⟨k,h3⟩
  ·simp[ox]at e
 ·simp only[ox,fR,m6,gm]at hp;rcases hp with rfl|rfl
  ·exact⟨rfl,_,_,h1,AR,rfl⟩
  ·exact⟨rfl,_,_,h2,Nz,rfl⟩
theorem X9{b bh rd:Nat}{bg:Value}:∀ x∈TZ b bh bg rd,x.ld=true->(([9,10,13]:List Nat).filter λt=> !reach (cO (cR (cR ((f87.body).getD .skip)))) 8 t x.i).length<=1:=by intro x hx;simp only[fR,m6,gm]at hx;rcases hx with rfl|rfl|rfl|rfl|rfl|rfl|rfl|rfl|rfl|rfl|rfl<;>intro h<;>dsimp only at h⊢ <;>first|(cases h;done)|(decide+kernel)
theorem T0{σ:Gh}{R:Nat->aM->Array Obj->Prop}(C:ab prog true (bI.bw σ) R){E e:Nat->Value}{aa:List Nat}{b bh wk rd:Nat}{bs dn:Value}{m st:Int}{hs tx:Value}{bg so:az}{aK ms:List dM}{kd:Kd}{cs:List Frame}{F:List HP}(dI:Stood (cO (cR (cR ((f87.body).getD .skip)))) (onE E b bh) onD (TZ b bh bg.v rd) 9 e aa)
  (hl:aK.length<2^30) (hm:ms.length<2^30)
  (h:∀ s2 e',At R 0 (oW b m hs s2.v tx dn false st::da bh (.cells #[bs,.chan (some wk),.chan (some rd)] 130 (0,0))::bG dt 7 159 s2 (aK++ms)::F) (gr 87 kd 32 e' [] [] cs)):
  At R 0 (oW b m hs bg.v tx dn false st::da bh (.cells #[bs,.chan (some wk),.chan (some rd)] 130 (0,0))::bG dt 7 159 bg aK::bG dt 7 159 so ms::F) (gr 87 kd 32 (put e 28 so.v) [] (.inRegion (cO (cR (cR ((f87.body).getD .skip)))) aa::[]) cs):=by
 refine resume (T2:=[10,13]) (r:=9) (t0:=28) (v:=so.v) (D:=onD) (is:=[0,1,2,3,4,5,6,7,8,11,12]) (a:=1) (W:=[oW b m hs bg.v tx dn false st,da bh (.cells #[bs,.chan (some wk),.chan (some rd)] 130 (0,0))])
  (by decide+kernel) KV KW QR QS ?_ X9 (e8 _) (λ_ s=>cV.sat cV.au s) (by decide+kernel) rfl ?_ dI
 ·intro x hx;simp only[fR,m6,gm]at hx;rcases hx with rfl|rfl|rfl|rfl|rfl|rfl|rfl|rfl|rfl|rfl|rfl
  ·exact⟨[],by simp,⟨_,rfl,rfl⟩,λAs e aa hA h=>C.mv rfl h⟩
  ·exact⟨[],by simp,⟨_,rfl,rfl⟩,λAs e aa hA h=>C.mv rfl h⟩
  ·exact⟨[⟨1,20,ay b,false⟩],by simp,⟨_,rfl,rfl⟩,λAs e aa hA h=>C.nc rfl h⟩
  ·exact⟨[⟨2,21,ay b,false⟩],by simp,⟨_,rfl,rfl⟩,λAs e aa hA h=>C.fa (b:=b) (off:=0) (o:=3) rfl h⟩
  ·refine⟨[⟨3,22,.pointer (some ⟨b,3,none⟩),false⟩],by simp,⟨_,rfl,rfl⟩,λAs e aa hA h=>?_⟩;have hE:=hA rfl;exact C.ld rfl h
  ·exact⟨[],by simp,⟨_,rfl,rfl⟩,λAs e aa hA h=>C.mv rfl h⟩
  ·exact⟨[⟨5,24,ay bh,false⟩],by simp,⟨_,rfl,rfl⟩,λAs e aa hA h=>C.nc rfl h⟩
  ·exact⟨[⟨6,25,ay bh,false⟩],by simp,⟨_,rfl,rfl⟩,λAs e aa hA h=>C.fa (b:=bh) (off:=0) (o:=2) rfl h⟩
  ·refine⟨[⟨7,26,.pointer (some ⟨bh,2,none⟩),false⟩],by simp,⟨_,rfl,rfl⟩,λAs e aa hA h=>?_⟩;have hE:=hA rfl;exact C.ld rfl h
  ·exact⟨[⟨0,19,ay b,false⟩],by simp,⟨_,rfl,rfl⟩,λAs e aa hA h=>C.nc rfl h⟩
  ·exact⟨[⟨11,30,ay b,false⟩],by simp,⟨_,rfl,rfl⟩,λAs e aa hA h=>C.fa (b:=b) (off:=0) (o:=3) rfl h⟩
 ·refine Ch.m 10 (aY λe aa hk=>?_);refine C.Vd (f:=dt) (s:=bg) (l:=aK) ms rfl (λs2=>hk _ _ ?_) (hsrc:=λH st=>dZ.src (dZ.own (s:=so) Fo.au) st (λj=>rfl));refine Ch.m 13 (aY λe aa hk=>?_);refine C.st rfl (hk _ undef ?_);refine fP ?_;exact At.lP cV.au (h s2 _)
theorem At.env{R:Nat->aM->Array Obj->Prop}{d:Nat}{As:List HP}{fn:bJ}{kd:Kd}{n:Nat}{e:Nat->Value}{ds:List eo}{k:List Item}{cs:List Frame}{L:List (Nat×Value)}(he:jV e L)(h:∀ E,At R d As (gr fn kd n (rk E L) ds k cs)):At R d As (gr fn kd n e ds k cs):=by rw[<- j5 he];exact h e
theorem vK{σ:Gh}{c:CV}{q:Nat}{f:bJ}{fu:Func}{code:Code}{nf:Nat}[bd:Body prog f fu code nf]{a1 caps:Array Value}{I:HL}{A:List HP}{o a:Int}{rs:ek}
  (hq:q<c.ah.length) (hr:m5 σ c) (dI:c.aj=false) (nU:c.aK.length<2^30) (mB:rs.out.length<2^30)
  (hf:aI prog false cH f (a1++[ay (c.ah[q]).h.bs].toArray++caps) (dk (c.ah[q]).h.bs (c.ah[q]).s::bD I::A) (gD (c.ah[q]).h.bs I o a rs)):
  bA prog bI 87 #[ay c.G.b,aD q,.func (.func f) a1 caps] σ (rQ 1 c::bD I::A)
   (λv σ' As=>σ'=σ/\∃ I' s',Sub I I'/\ShJ I' s'/\s'.abs=rs/\xn o a s'/\As=[rQ 1 {c with ah:=c.ah.set q {c.ah[q]with s:={s' with out:=[]},kw:=(c.ah[q]).kw+1,kr:=(c.ah[q]).kr+1},aK:=c.aK++s'.out},bD I']):=by
 refine bA.of ?_;intro Post os out kd F c' cs C aT ak;refine cr ?_;obtain⟨G,ah,aK,aF,aj⟩:=c;obtain rfl:aj=false:=dI;dsimp only at hq nU hf ak⊢;obtain⟨v,hv⟩:∃ v,v=ah[q]:=⟨_,rfl⟩;have dR:v∈ah:=hv▸dp hq;have Cy:=hr.aQ v dR;have hwk:=hr.wk v dR;have RN:=hr.wd v dR;have ab4:=hr.rdn v dR;dsimp only at Cy hwk RN ab4;rw[<- hv]at hf;refine At.gh λh0 du=>?_;have Nv:v.h.g≠0:=λz=>by rw[z,h0]at Cy;cases Cy
 have hjn:=du _ _ Cy;refine cY.opn (m:=1) (h:=λhs bg tx=>?_);have NN:(ah.map (·.h.bh)).length=ah.length:=dW ..;have NO:(ah.map (·.h.bh))[q]'(by omega)=v.h.bh:=by simp[hv]
 refine gU ?_;refine C.dQ rfl ?_ (s:=hs) (l:=ah.map (·.h.bh)) (f:=jg) (j:=q);refine C.dd rfl ?_ (s:=hs) (l:=ah.map (·.h.bh)) (f:=jg) (j:=q) (v:=ay v.h.bh) (hj:=by omega) (hv:=by rw[NO];rfl);refine lA hq Fo.au ?_;rw[<- hv];refine nT ?_;refine At.env (L:=[(0,ay G.b),(6,ay v.h.bh),(17,.chan (some v.h.wk)),(18,.func (.func f) a1 caps)]) ⟨rfl,rfl,rfl,rfl,trivial⟩ λE=>?_;refine At.lP (show cV _ (ZI v G 1 hs.v bg.v tx.v false (CV.st ⟨G,ah,aK,aF,false⟩) 0 (bD I::bG jg 1 124 hs (ah.map (·.h.bh))::bG dt 7 159 bg aK::bG Cj 3 95 tx aF::all ((ah.eraseIdx q).map iQ)::(A++F))) by exact cV.au) ?_;refine At.perm ((UI [_,_,_,_] A F).append_left [_,_,_,_,_,_,_,_,_]) ?_;refine cr ?_;have hEq:onE (rk E [(0,ay G.b),(6,ay v.h.bh),(17,.chan (some v.h.wk)),(18,.func (.func f) a1 caps)]) G.b v.h.bh=rk E [(0,ay G.b),(6,ay v.h.bh),(17,.chan (some v.h.wk)),(18,.func (.func f) a1 caps)]:=j5 ⟨rfl,rfl,trivial⟩;have hj:bI.rd 0=cH.rd:=rfl;refine aE.give (X:=bI) (yH (eW _) hjn) v.h.g v.h.wk 0 v.kw (eL v.h G) (ox (rk E [(0,ay G.b),(6,ay v.h.bh),(17,.chan (some v.h.wk)),(18,.func (.func f) a1 caps)]) G.b v.h.bh bg.v v.h.rd kd (c'::cs)) (.func (.func f) a1 caps) .nilFunc (.tuple #[]) rfl rfl rfl Cy rfl (λi s' e hc=>hwk i s' e hc) (aP:=ZI {v with kw:=v.kw+1} G 1 hs.v bg.v tx.v false (CV.st ⟨G,ah,aK,aF,false⟩) 0 (bD I::(A++(bG jg 1 124 hs (ah.map (·.h.bh))::bG dt 7 159 bg aK::bG Cj 3 95 tx aF::all ((ah.eraseIdx q).map iQ)::F)))) ?_ ?_ ?_ ?_ ?_ ?_ ?_
 ·repeat(first|with_reducible exact rj.head|with_reducible apply rj.tail)
 ·exact⟨λcc lF=>by simp[ox]at lF;exact⟨_,_,lF⟩,λk m c z z' h1 h2=>by rcases k with _|k<;>rcases m with _|m<;>simp[ox]at h1 h2⊢⟩
 ·intro H st;exact Gu (Has.get Has.au st) rfl (Has.get Has.au st) rfl (Has.get Has.au st)
 ·intro H st;exact Gu (Has.get Has.au st) rfl (Has.get Has.au st) rfl (Has.get Has.au st)
 ·intro H st p hp c ty hh;have h1:=Has.get (b:=G.b) (o:=.cells (TK 1 hs.v bg.v tx.v (.chan (some G.dn)) false (CV.st ⟨G,ah,aK,aF,false⟩)) 93 (0,0)) Has.au st;have h2:=Has.get (b:=v.h.bh) (o:=.cells #[ay v.h.bs,.chan (some v.h.wk),.chan (some v.h.rd)] 130 (0,0)) Has.au st;simp only[ox,fR,m6,gm]at hp;rcases hp with rfl|rfl
  ·have h1:H[G.b]? =_:=h1;rw[hh]at h1;cases h1;rfl
  ·have h2:H[v.h.bh]? =_:=h2;rw[hh]at h2;cases h2;rfl
 ·have M:=Mt.way (P:=prog) (ao:=true) (s:=ox (rk E [(0,ay G.b),(6,ay v.h.bh),(17,.chan (some v.h.wk)),(18,.func (.func f) a1 caps)]) G.b v.h.bh bg.v v.h.rd kd (c'::cs));refine⟨100,?_⟩;show Way _ true _ _ _;refine M.go ?_;have h1:=X8 (ao:=true) (E:=(rk E [(0,ay G.b),(6,ay v.h.bh),(17,.chan (some v.h.wk)),(18,.func (.func f) a1 caps)])) (b:=G.b) (bh:=v.h.bh) (rd:=v.h.rd) (bg:=bg.v) (kd:=kd) (cs:=c'::cs);rw[hEq]at h1;exact h1
 ·intro r hlr;refine serve (v:={v with kw:=v.kw+1}) (bd:=bd) (sM:=ox (rk E [(0,ay G.b),(6,ay v.h.bh),(17,.chan (some v.h.wk)),(18,.func (.func f) a1 caps)]) G.b v.h.bh bg.v v.h.rd kd (c'::cs)) (σ:=σ.given 0 v.h.g (ox (rk E [(0,ay G.b),(6,ay v.h.bh),(17,.chan (some v.h.wk)),(18,.func (.func f) a1 caps)]) G.b v.h.bh bg.v v.h.rd kd (c'::cs))) hf Nv hjn ?_ rfl ?_ RN hlr ?_
  ·exact QQ σ 0 v.h.g _
  ·intro i s' hi hc;have hi:Go.ConcN.upd (Go.ConcN.upd σ.aQ v.h.g none) 0 _ i=some s':=hi;by_cases e0:i=0
   ·exact e0
   ·rw[Go.ConcN.upd_ne _ _ e0]at hi;by_cases e1:i=v.h.g
    ·rw[e1,Go.ConcN.upd_same]at hi;cases hi
    ·rw[Go.ConcN.upd_ne _ _ e1]at hi;exact absurd hc (ab4 i s' hi)
  ·intro I' s' so R2 ra lv Ml r Fa;rw[IL h0 Cy];obtain⟨e,aa,dI,rfl⟩:=Fa;rw[sj rfl];have sO:s'.out.length<2^30:=by rw[<- lv]at mB;simpa[di.abs]using mB
   refine At.lP (show cV _ (oW G.b 1 hs.v bg.v tx.v (.chan (some G.dn)) false (CV.st ⟨G,ah,aK,aF,false⟩)::da v.h.bh (.cells #[ay v.h.bs,.chan (some v.h.wk),.chan (some v.h.rd)] 130 (0,0))::bG dt 7 159 bg aK::bG dt 7 159 so s'.out::da G.cb (.cells #[ay G.b] 31 (0,0))::da G.dn (.chan 0 #[] false 0 0 false)::
    da v.h.wk (.chan 0 #[] false (v.kw+1) (v.kw+1) false)::da v.h.rd (.chan 0 #[] false (v.kr+1) (v.kr+1) false)::da v.h.hb (.cells #[ay v.h.bh] 124 (0,0))::dk v.h.bs {s' with out:=[]}::bD I'::bG jg 1 124 hs (ah.map (·.h.bh))::bG Cj 3 95 tx aF::all ((ah.eraseIdx q).map iQ)::F) by exact cV.au) ?_
   refine T0 C dI nU sO λs2 e'=>?_;refine KR (l:=ah) hq ({v with s:={s' with out:=[]},kw:=v.kw+1,kr:=v.kr+1}:HV) fg.au ?_;have QU:=ak (.tuple #[]) σ _ ⟨rfl,I',s',R2,ra,lv,Ml,rfl⟩;rw[<- hv]at QU;generalize qK:({v with s:={s' with out:=[]},kw:=v.kw+1,kr:=v.kr+1}:HV)=v' at QU⊢;have hbh:v'.h=v.h:=by rw[<- qK]
   have e1:(ah.set q v').map (·.h.bh)=ah.map (·.h.bh):=by rw[wT,hbh,<- NO,Bp]
   have e2:CV.st ⟨G,ah,aK,aF,false⟩=CV.st ⟨G,ah.set q v',aK++s'.out,aF,false⟩:=by simp[CV.st]
   rw[<- e1,e2];refine cY.cls (m:=1) ⟨G,ah.set q v',aK++s'.out,aF,false⟩ ?_;exact At.lP cV.au (C.aam aT QU rfl)
theorem m5.same{σ:Gh}{c c':CV}(h:m5 σ c)(hG:c'.G=c.G)(hh:c'.ah.map (·.h)=c.ah.map (·.h)):m5 σ c':=by
 have hl:c'.ah.length=c.ah.length:=by have:=congrArg List.length hh;simpa using this
 have key:∀ v∈c'.ah,∃ u∈c.ah,u.h=v.h:=λv hv=>by have:v.h∈c'.ah.map (·.h):=wQ hv;rw[hh]at this;obtain⟨u,hu,e⟩:=bM.1 this;exact⟨u,hu,e⟩
 have hm:∀ (f:HG->Nat),c'.ah.map (λv=>f v.h)=c.ah.map (λv=>f v.h):=λf=>by have:=congrArg (List.map f) hh;simpa[uG,Bq]using this
 refine⟨⟨λv hv=>?_,?_,λi s e hd=>?_,λv hv=>?_,λv hv=>?_,by rw[hG];exact h.sh7,by rw[hG];exact h.sh8,by rw[hl];exact h.n⟩,λv hv=>?_⟩
 ·obtain⟨u,hu,e⟩:=key v hv;rw[<- e,hG];exact h.aQ u hu
 ·rw[hm (·.g)];exact h.nd
 ·rw[hG]at hd;obtain⟨u,hu,e2⟩:=h.only i s e hd;have:u.h∈c.ah.map (·.h):=wQ hu;rw[<- hh]at this;obtain⟨v,hv,e3⟩:=bM.1 this;exact⟨v,hv,by rw[e3];exact e2⟩
 ·obtain⟨u,hu,e⟩:=key v hv;rw[<- e];exact h.wk u hu
 ·obtain⟨u,hu,e⟩:=key v hv;rw[<- e,hG];exact h.wd u hu
 ·obtain⟨u,hu,e⟩:=key v hv;rw[<- e];exact h.rdn u hu
theorem qo{σ:Gh}{c:CV}{f:bJ}{fu:Func}{code:Code}{nf:Nat}[bd:Body prog f fu code nf]{caps:Array Value}{I:HL}{eb:Nat->Nat×Nat}{nm:ByteArray}{i:Int}{A:List HP}{Q:Option Nat->CV->HL->Prop}(hE:ir I eb)(nU:c.aK.length<2^20)
  (hf:∀ (h0:0<=i) (hl:i.toNat<c.aK.length),c.aj=false->bA prog bI f (#[]++[rM (c.aK[i.toNat])].toArray++caps) σ (rQ 1 c::bD I::A) (MQ σ c eb Q)) (hQ:c.aj=false->i<0\/(c.aK.length:Int)<=i->Q (some 4) c I):
  bA prog bI 83 #[ay c.G.b,.string nm,aD i,.func (.func f) #[] caps] σ (cY c::bD I::A) (CQ σ c I eb nm i Q):=by
 refine bA.of ?_;intro Post os out kd F c' cs C aT ak;refine oU ?_;refine C.bx rfl (λbc=>?_);refine C.bx rfl (λbi=>?_);refine C.bx rfl (λbf=>?_);refine gu ?_;refine C.mf rfl ?_;have h1:c.aj=false->bA prog bI 138 (#[]++([]:List Value).toArray++#[ay bi,ay bc,ay bf]) σ (rQ 1 c::bD I::(da bi (.cells #[aD i] 3 (0,0))::da bc (.cells #[ay c.G.b] 31 (0,0))::da bf (.cells #[.func (.func f) #[] caps] 178 (0,0))::A)) (MQ σ c eb Q):=by
  intro dI;have hf:=λh0 hl=>hf h0 hl dI;refine bA.of ?_;clear ak;intro Post os out kd F c' cs C aT QV;refine cr ?_;obtain⟨G,ah,aK,aF,aj⟩:=c;obtain rfl:aj=false:=dI;dsimp only at nU hf hQ;obtain⟨t4,hg4⟩:=hE.g 4 (by decide);refine cY.opn (m:=1) (h:=λhs bg tx=>?_);refine dX ?_;by_cases h5:i<0
  ·refine C.dx (cW 4 0 11) 11 [] 0 ?_;refine kK ?_;refine Dr.p (λh=>C.fA rfl h (hf:=h5)) ?_;refine R0 ?_;refine ND ?_;refine C.v9 Fo.au hg4 (iJ _ _) rfl ?_;refine bH ?_;refine cY.cls (m:=1) ⟨G,ah,aK,aF,false⟩ ?_;refine At.lP (show cV _ (rQ 1 ⟨G,ah,aK,aF,false⟩::bD I::(A++F)) by exact cV.au) ?_;refine At.lP (.cons .head (.cons .head (cV.qF A))) ?_;exact aE.eK aT QV ⟨some 4,⟨G,ah,aK,aF,false⟩,I,rfl,(λk hk=>by cases hk;decide),rfl,rfl,hQ rfl (.inl h5),rfl⟩
  ·by_cases ui:i>=(aK.length:Int)
   ·refine C.dx (cW 4 0 11) 11 [] 0 ?_;refine kK ?_;refine Dr.p (λh=>C.dS rfl h (hf:=h5)) ?_;refine nH ?_;refine Dr.p (λh=>C.fA rfl h (hf:=ui)) ?_;refine xT ?_;refine ND ?_;refine C.v9 Fo.au hg4 (iJ _ _) rfl ?_;refine bH ?_;refine cY.cls (m:=1) ⟨G,ah,aK,aF,false⟩ ?_;refine At.lP (show cV _ (rQ 1 ⟨G,ah,aK,aF,false⟩::bD I::(A++F)) by exact cV.au) ?_;refine At.lP (.cons .head (.cons .head (cV.qF A))) ?_;exact aE.eK aT QV ⟨some 4,⟨G,ah,aK,aF,false⟩,I,rfl,(λk hk=>by cases hk;decide),rfl,rfl,hQ rfl (.inr ui),rfl⟩
   ·refine C.dx (cW 4 0 11) 11 [] 0 ?_;refine kK ?_;refine Dr.p (λh=>C.dS rfl h (hf:=h5)) ?_;refine nH ?_;refine Dr.p (λh=>C.dS rfl h (hf:=ui)) ?_;refine xT ?_;refine oV ?_;obtain⟨q,rfl⟩:=lK (show 0<=i by omega);have hq:q<aK.length:=ai;refine C.dx (cW 16 0 9++[(3,9)]) 10 [8,9] 0 ?_;refine nH ?_;refine Dr.l (v:=rM (aK[q]'hq)) (λhE h=>C.xR rfl (λhj=>h) (s:=bg) (l:=aK) (f:=dt) (j:=q)) ?_;refine Dr.chain rfl ?_;refine Ch.m 8 (aY λe aa hk=>?_);refine cY.cls (m:=1) ⟨G,ah,aK,aF,false⟩ ?_;refine At.lP (show cV _ (rQ 1 ⟨G,ah,aK,aF,false⟩::bD I::(A++F)) by exact cV.au) ?_;refine aE.cl (f:=f) (a1:=#[]) (a2:=caps) (vl:=[rM aK[q]]) (hf (Int.natCast_nonneg q) (by simpa using hq)) ?_ (hr:=.cons .head (.cons .head (fg.app A)));rintro v σ' aP ⟨er,c2,I2,rfl,Gv,rfl,hb,hQ2,rfl⟩;refine cr ?_;refine hk _ _ ?_;refine Ch.q 9 (λh=>C.oR rfl h) ?_;refine fP ?_;exact aE.eK aT QV ⟨er,c2,I2,rfl,Gv,rfl,hb,hQ2,rfl⟩
 refine aE.j9 (uk (nm:=nm) (at_:=i) hE h1) ?_ (hr:=.cons Fo.au (.cons Fo.au (.cons Fo.au (.cons Fo.au (.cons Fo.au (fg.app A))))));rintro v σ' aP ⟨er,c2,I2,L,h2,h3,rfl,rfl,h4⟩;refine oU ?_;exact aE.eK aT ak ⟨er,c2,I2,L,h2,h3,rfl,rfl,h4⟩
theorem DV{w:WP}{k i b:Int}(hs:w.aj=false)(hk:2<=k/\k<=4):gp w k i b=iH w k i:=by unfold gp;rw[ax ai,hs,ax (by decide),ax ai,aG ai]
theorem T3{w:WP}{k i:Int}(h:i<0\/(w.aK.length:Int)<=i):iH w k i=(w,5):=by unfold iH;rw[aG h]
theorem IM{w:WP}{k:Int}{q:Nat}{m:MsgR}(h:w.aK[q]? =some m):iH w k q=(if k=4 then(if 400<=w.aK.length then(w,(3:Int))else({w with aK:=w.aK++[m]},(0:Int)))else
  if k=3 then({w with aK:=w.aK.eraseIdx q},(0:Int))else
  if m.to= -1 then({w with aK:=w.aK.eraseIdx q,aF:=lj w.aF m},(0:Int))else
  match w.sh[m.to.toNat]? with
  |none=>({w with aK:=w.aK.eraseIdx q},(0:Int))
  |some s=>if s.up then(ig {w with aK:=w.aK.eraseIdx q} m.to.toNat (ry s m),(0:Int))else({w with aK:=w.aK.eraseIdx q},(0:Int))):=by
 have hl:=(dG.1 h).1;unfold iH;rw[ax ai,gv,h];rfl
theorem CV.DW{c:CV}{q:Nat}(h:q<c.aK.length):c.abs.aK[q]? =some (c.aK[q]).toMsgR:=by simp[CV.abs,h]
def Ya:ByteArray:=⟨#[68,114,111,112]⟩
def Yb:ByteArray:=⟨#[68,101,108,105,118,101,114]⟩
def Yc:ByteArray:=⟨#[67,111,112,121]⟩
theorem MJ{σ:Gh}{c:CV}{b3 b2 q:Nat}{I:HL}{eb:Nat->Nat×Nat}{o a:Int}{mv:dM}(hJ:uD I c)(hb:MI c)(hC:nV o a c)(dI:c.aj=false)(hq:q<c.aK.length):
  bA prog bI 90 (#[]++[rM mv].toArray++#[ay b2,ay b3]) σ (rQ 1 c::bD I::[da b2 (.cells #[ay c.G.b] 31 (0,0)),da b3 (.cells #[aD q] 3 (0,0))])
   (MQ σ c eb (eQ c I (o+2^15) (a+1) (gp c.abs 3 q 0))):=by
 refine bA.of ?_;intro Post os out kd F c' cs C aT ak;refine cr ?_;obtain⟨G,ah,aK,aF,aj⟩:=c;obtain rfl:aj=false:=dI;obtain⟨hn,nU,m9,qG⟩:=hb;dsimp only at hn nU m9 qG hq;refine cY.opn (m:=1) (h:=λhs bg tx=>?_);refine bH ?_;refine C.bx rfl (λb3=>?_);refine eP ?_;refine C.fF (Cx (ah:=hs.v) (bg:=bg) (aK:=aK) hq ai) ?_;rintro v aP ⟨KS,rfl⟩;refine Ca ?_;refine cY.cls (m:=1) ⟨G,ah,aK.eraseIdx q,aF,false⟩ ?_;refine aE.eK aT ak ⟨none,⟨G,ah,aK.eraseIdx q,aF,false⟩,I,rfl,(λk hk=>by cases hk),rfl,rfl,⟨Sub.refl _,⟨λm hm=>hJ.aK m ((ko ..).mem hm),hJ.aF,hJ.sh⟩,rfl,rfl,?_,λv hv=>(hC v hv).mono ai ai⟩,rfl⟩;rw[DV (k:=3) (by rfl) ai,IM (CV.DW (c:=⟨G,ah,aK,aF,false⟩) hq),ax ai,aG rfl];simp[CV.abs,Ai,map_eraseIdx]
theorem ML{σ:Gh}{c:CV}{b2 q:Nat}{I:HL}{eb:Nat->Nat×Nat}{o a:Int}(hE:ir I eb)(hJ:uD I c)(hb:MI c)(hC:nV o a c)(dI:c.aj=false)(hq:q<c.aK.length):
  bA prog bI 91 (#[]++[rM (c.aK[q])].toArray++#[ay b2]) σ (rQ 1 c::bD I::[da b2 (.cells #[ay c.G.b] 31 (0,0))])
   (MQ σ c eb (eQ c I (o+2^15) (a+1) (gp c.abs 4 q 0))):=by
 refine bA.of ?_;intro Post os out kd F c' cs C aT ak;refine cr ?_;obtain⟨G,ah,aK,aF,aj⟩:=c;obtain rfl:aj=false:=dI;obtain⟨hn,nU,m9,qG⟩:=hb;dsimp only at hn nU m9 qG hq;obtain⟨t2,JZ⟩:=hE.g 2 (by decide);have Yd:gp (CV.abs ⟨G,ah,aK,aF,false⟩) 4 q 0=if 400<=aK.length then(CV.abs ⟨G,ah,aK,aF,false⟩,3)else(CV.abs ⟨G,ah,aK++[aK[q]],aF,false⟩,0):=by rw[DV (k:=4) (by rfl) ai,IM (CV.DW (c:=⟨G,ah,aK,aF,false⟩) hq),aG rfl];simp[CV.abs]
 refine cY.opn (m:=1) (h:=λhs bg tx=>?_);refine bH ?_;refine C.bx rfl (λb3=>?_);refine nT ?_;refine C.cmp rfl (λh9=>?_) (λh9=>?_)
 ·refine dK ?_;refine C.v9 Fo.au JZ (iJ _ _) rfl ?_;refine bH ?_;refine cY.cls (m:=1) ⟨G,ah,aK,aF,false⟩ ?_;refine aE.eK aT ak ⟨some 2,⟨G,ah,aK,aF,false⟩,I,rfl,(λk hk=>by cases hk;decide),rfl,rfl,?_,rfl⟩;have h9':400<=(aK.length:Int):=h9;rw[Yd,aG ai];exact eQ.same hJ hC rfl
 ·refine bH ?_;refine C.A4 (cW 11 0 10) 11 [6,7,10] 2 ?_ (W:=[oW G.b 1 hs.v bg.v tx.v (.chan (some G.dn)) false (CV.st ⟨G,ah,aK,aF,false⟩),da b2 (.cells #[ay G.b] 31 (0,0)),nM b3 (aK[q]'hq)]);refine Em ?_;refine Dr.chain rfl ?_ (λ_ s=>cV.sat cV.au s);refine Ch.m 6 (aY λe aa hk=>?_);refine C.AV rfl (λb17=>hk _ _ .cons ?_);refine Ch.m 7 (aY λe aa hk=>?_);refine C.BI (aK[q]'hq) rfl (λs'=>?_);refine hk _ _ pU ?_;refine Ch.m 10 (aY λe aa hk=>?_);refine C.st rfl (hk _ undef ?_);refine Ch.fin ?_;refine dX ?_;refine cY.cls (m:=1) ⟨G,ah,aK++[aK[q]],aF,false⟩ ?_;refine aE.eK aT ak ⟨none,⟨G,ah,aK++[aK[q]],aF,false⟩,I,rfl,(λk hk=>by cases hk),rfl,rfl,⟨Sub.refl _,⟨λm hm=>?_,hJ.aF,hJ.sh⟩,rfl,rfl,?_,λv hv=>(hC v hv).mono ai ai⟩,rfl⟩
  ·rcases bS.1 hm with hm|hm
   ·exact hJ.aK m hm
   ·obtain rfl:=dL.1 hm;exact hJ.aK _ (dp hq)
  ·have h9':¬ 400<=(aK.length:Int):=h9;rw[Yd,ax ai];rfl
def oP(aF:List uC)(m:dM):List uC:=
 match aF[m.tx.toNat]? with
 |none=>aF
 |some t=>if t.state=1 then aF.set m.tx.toNat (if m.yes then{t with state:=2,reads:=m.reads,sr:=m.sr}else{t with state:=3})else aF
theorem MM{aF:List uC}{m:dM}{q:Nat}(hq:q<aF.length)(hm:m.tx=q):oP aF m=if(aF[q]).state=1 then aF.set q (if m.yes then{aF[q]with state:=2,reads:=m.reads,sr:=m.sr}else{aF[q]with state:=3})else aF:=by unfold oP;rw[hm,gv,cK hq]
theorem IP{aF:List uC}{m:dM}:(oP aF m).map (·.toTxR)=lj (aF.map (·.toTxR)) m.toMsgR:=by
 unfold oP lj;have e:(aF.map (·.toTxR))[m.toMsgR.tx.toNat]? =(aF[m.tx.toNat]?).map (·.toTxR):=fH ..;rw[e];cases aF[m.tx.toNat]? with
 |none=>rfl
 |some t=>
  simp only[jR];split
  ·rw[wT];congr 1;split<;>rfl
  ·rfl
theorem QW{I:HL}{aF:List uC}{m:dM}(h:∀ t∈aF,ZE I t)(hm:kG I m):∀ t∈oP aF m,ZE I t:=by
 intro t ht;unfold oP at ht;cases e:aF[m.tx.toNat]? with
 |none=>rw[e]at ht;exact h t ht
 |some u=>
  rw[e]at ht;simp only at ht;have hu:=h u (dg e);split at ht
  ·rcases iL ht with ht|rfl
   ·exact h t ht
   ·split
    ·exact⟨hu.o,hm.r,hm.z⟩
    ·exact⟨hu.o,hu.r,hu.z⟩
  ·exact h t ht
variable{b q:Nat}{m st:Int}{hs bg dn:Value}{xY:az}{aj:Bool}{aF:List uC}{mv:dM}
theorem Gw(hq:q<aF.length)(hm:mv.tx=q):aI prog true (bI.bw σ) 86 #[ay b,rM mv] [oW b m hs bg xY.v dn aj st,bG Cj 3 95 xY aF]
  (λv As=>As=[oW b m hs bg xY.v dn aj st,bG Cj 3 95 xY (oP aF mv)]):=by
 rw[MM hq hm];refine aI.of λR C kd d F c cs aT ak=>?_;refine oU ?_;refine C.bx rfl (λb3=>?_);refine C.go ?_;rw[hm];refine C.dx (cW 5 0 7++[(4,7)]) 8 [] 0 ?_;refine pF ?_;refine Dr.l (λhE h=>C.dQ rfl h (s:=xY) (l:=aF) (f:=Cj) (j:=q)) ?_;refine xT ?_;refine zI ?_;refine C.w7 rfl ?_ (s:=xY) (l:=aF) (f:=Cj) (j:=q) (o:=1);refine C.cmp rfl (λCm=>?_) (λCm=>?_)
 ·refine dK ?_;rw[ax Cm]at ak;exact C.eJ aT ak rfl
 ·refine nT ?_;refine C.xQ (λYe=>?_) (λYe=>?_)
  ·refine C.go ?_;refine C.A4 (cW 24 0 6++[(30,7),(31,8)]) 10 [6,9] 1 ?_ (W:=[da b3 (.cells #[aD mv.kind,aD mv.bq,aD mv.to,aD q,.bool mv.yes,mv.so.v,mv.sr.v] 159 (0,0))]);refine Em ?_;refine Dr.chain rfl ?_ (λ_ s=>cV.sat cV.au s);refine Ch.m 6 (aY λe aa hk=>?_);refine C.Ve (s:=xY) (l:=aF) (j:=q) (o:=1) ({aF[q]with state:=2}:uC) rfl ?_ (hj:=hq) (ha:=rfl);refine hk _ undef pU ?_;refine Ch.m 9 (aY λe aa hk=>?_);refine C.Ve (s:=xY) (l:=aF.set q {aF[q]with state:=2}) (j:=q) (o:=2) ({aF[q]with state:=2,reads:=mv.reads,sr:=mv.sr}:uC) rfl (hk _ undef ?_) (hj:=by rw[eg];exact hq) (ha:=by rw[JE];rfl);refine fP ?_;rw[aG (by simpa using Cm),aG Ye,<- List.set_set]at ak;exact C.eJ aT ak rfl
  ·refine eP ?_;refine C.Ve (s:=xY) (l:=aF) (j:=q) (o:=1) ({aF[q]with state:=3}:uC) rfl ?_ (hj:=hq) (ha:=rfl);refine C.go ?_;rw[aG (by simpa using Cm),ax (by simpa using Ye)]at ak;exact C.eJ aT ak rfl
theorem MN{I:HL}{bs b4:Nat}{s:di}{mv:dM}{o a:Int}(Hm:1<=mv.kind/\mv.kind<=6)(hJ:ShJ I s)(hb:qQ s)(hC:xn o a s)(hM:kG I mv)(hO:mv.kind=1\/mv.kind=2->mA mv.ops)(hV:mv.kind=3->zZ s.abs mv.toMsgR):
  aI prog false cH 88 (#[]++[ay bs].toArray++#[ay b4]) (dk bs s::bD I::[nM b4 mv]) (gD bs I (o+1) (a+1) (ry s.abs mv.toMsgR)):=by
 refine aI.of λR C kd d F c cs aT ak=>?_;refine Ca ?_;refine C.fF (It Hm hJ hb hC hM hO hV) ?_;rintro v aP ⟨I1,s',iK,ra,lv,Ml,rfl⟩;refine sB ?_;exact C.eJ aT ak ⟨I1,s',iK,ra,lv,Ml,rfl⟩
theorem T4{c:CV}{q:Nat}{I I':HL}{o a o' a':Int}{s':di}{rs:ek}{IQ:List dM}{kw kr:Nat}(hq:q<c.ah.length)(hJ:uD I c)(hC:nV o a c)(Az:∀ m∈IQ,m∈c.aK)(hI:Sub I I')(ra:ShJ I' s')(lv:s'.abs=rs)(Ml:xn o' a' s')(ho:o<=o')(ha:a<=a'):
  eQ c I o' a' (ig {c.abs with aK:=IQ.map (·.toMsgR)} q rs,0) none {c with ah:=c.ah.set q {c.ah[q]with s:={s' with out:=[]},kw:=kw,kr:=kr},aK:=IQ++s'.out} I':=by
 subst lv;refine⟨hI,⟨λm hm=>?_,λt ht=>(hJ.aF t ht).mono hI,λv hv=>?_⟩,rfl,?_,?_,λv hv=>?_⟩
 ·rcases bS.1 hm with hm|hm
  ·exact(hJ.aK m (Az m hm)).mono hI
  ·exact ra.out m hm
 ·rcases iL hv with hv|rfl
  ·exact(hJ.sh v hv).mono hI
  ·exact⟨ra.log,ra.pend,ra.bY,ra.waits,by simp⟩
 ·rw[wT];dsimp only;rw[<- List.getElem_map (f:=λv:HV=>v.h) (h:=by simpa using hq),Bp]
 ·simp only[CV.abs,ig,Ai,eI,wT];rfl
 ·rcases iL hv with hv|rfl
  ·exact(hC v hv).mono ho ha
  ·exact⟨Ml.z,Ml.o,Ml.a⟩
structure KX(c:CV)(m:dM):Prop where
 rep:m.to= -1->0<=m.tx/\m.tx<c.aF.length
 tak:m.to≠ -1->0<=m.to/\m.to<c.ah.length/\1<=m.kind/\m.kind<=6/\(m.kind=1\/m.kind=2->mA m.ops)
 vot:m.to≠ -1->∀ v,c.ah[m.to.toNat]? =some v->v.s.up=true->(m.kind=3->zZ v.s.abs m.toMsgR)/\(ry v.s.abs m.toMsgR).out.length<2^30
theorem MO{σ:Gh}{c:CV}{b3 b2 q:Nat}{I:HL}{eb:Nat->Nat×Nat}{o a:Int}(hJ:uD I c)(hb:MI c)(hC:nV o a c)(dI:c.aj=false)(hq:q<c.aK.length)(hr:m5 σ c)(hD:KX c c.aK[q])(hS:∀ v∈c.ah,v.s.up=true->qQ v.s):
  bA prog bI 84 (#[]++[rM (c.aK[q])].toArray++#[ay b2,ay b3]) σ (rQ 1 c::bD I::[da b2 (.cells #[ay c.G.b] 31 (0,0)),da b3 (.cells #[aD q] 3 (0,0))])
   (MQ σ c eb (eQ c I (o+2^15) (a+1) (gp c.abs 2 q 0))):=by
 refine bA.of ?_;intro Post os out kd F c' cs C aT ak;refine cr ?_;obtain⟨G,ah,aK,aF,aj⟩:=c;obtain rfl:aj=false:=dI;obtain⟨hn,nU,m9,qG⟩:=hb;dsimp only at hn nU m9 qG hq hD hS;have hmJ:=hJ.aK _ (dp hq);have Yd:gp (CV.abs ⟨G,ah,aK,aF,false⟩) 2 q 0=if(aK[q]).to= -1 then(CV.abs ⟨G,ah,aK.eraseIdx q,oP aF aK[q],false⟩,(0:Int))else
   match ah[(aK[q]).to.toNat]? with
   |none=>(CV.abs ⟨G,ah,aK.eraseIdx q,aF,false⟩,(0:Int))
   |some v=>if v.s.up then(ig (CV.abs ⟨G,ah,aK.eraseIdx q,aF,false⟩) (aK[q]).to.toNat (ry v.s.abs (aK[q]).toMsgR),(0:Int))else(CV.abs ⟨G,ah,aK.eraseIdx q,aF,false⟩,(0:Int)):=by
  rw[DV (k:=2) (by rfl) ai,IM (CV.DW (c:=⟨G,ah,aK,aF,false⟩) hq),ax ai,ax ai];dsimp only;by_cases h:(aK[q]).to= -1
  ·rw[aG h,aG h];simp[CV.abs,map_eraseIdx,IP]
  ·rw[ax h,ax h];have e1:(CV.abs ⟨G,ah,aK,aF,false⟩).sh[(aK[q]).to.toNat]? =(ah[(aK[q]).to.toNat]?).map (·.s.abs):=by simp[CV.abs]
   rw[e1];cases ah[(aK[q]).to.toNat]? with
   |none=>simp[CV.abs,map_eraseIdx]
   |some v=>simp[CV.abs,map_eraseIdx,di.abs]
 obtain⟨mv,hmv⟩:∃ mv,mv=aK[q]:=⟨_,rfl⟩;rw[<- hmv]at hD Yd hmJ⊢;refine cY.opn (m:=1) (h:=λhs bg tx=>?_);have NN:(ah.map (·.h.bh)).length=ah.length:=dW ..;refine bH ?_;refine C.bx rfl (λb4=>?_);refine eP ?_;refine C.fF (Cx (ah:=hs.v) (bg:=bg) (aK:=aK) hq ai) ?_;rintro v aP ⟨KS,rfl⟩;refine Ca ?_;refine C.cmp rfl (λxo=>?_) (λxo=>?_)
 ·refine gu ?_;obtain⟨qt,hqt⟩:=lK (hD.rep xo).1;have afJ:qt<aF.length:=by have:=(hD.rep xo).2;dsimp only at this;omega
  refine C.fF (Gw (q:=qt) afJ hqt) ?_;rintro v aP rfl;refine Ca ?_;refine cY.cls (m:=1) ⟨G,ah,aK.eraseIdx q,oP aF mv,false⟩ ?_;refine aE.eK aT ak ⟨none,⟨G,ah,aK.eraseIdx q,oP aF mv,false⟩,I,rfl,(λk hk=>by cases hk),rfl,rfl,⟨Sub.refl _,⟨λm hm=>hJ.aK m ((ko ..).mem hm),QW hJ.aF hmJ,hJ.sh⟩,rfl,rfl,?_,λv hv=>(hC v hv).mono ai ai⟩,rfl⟩;rw[Yd,aG xo];rfl
 ·refine dK ?_;obtain⟨ht0,R3,wX,HO,hO⟩:=hD.tak xo;obtain⟨qh,hqh⟩:=lK ht0;have Gx:qh<ah.length:=by dsimp only at R3;omega
  have NO:(ah.map (·.h.bh))[qh]'(by omega)=ah[qh].h.bh:=by simp
  have VL:qh<(ah.map (·.h.bh)).length:=ai;have hqv:(jg ((ah.map (·.h.bh))[qh]'VL))[0]? =some (ay ah[qh].h.bh):=by rw[NO];rfl
  rw[hqh];refine lA Gx Fo.au ?_;refine dk.opn (s:=ah[qh].s) (h:=λlg wt ot tm bv bl bp bd be bu tl ht=>?_);refine C.dx (cW 16 0 14++[(15,14)]) 15 [] 0 ?_;refine pF ?_;refine Dr.l (λhE h=>C.dQ rfl h (s:=hs) (l:=ah.map (·.h.bh)) (f:=jg) (j:=qh)) ?_;refine Dr.l (v:=ay ah[qh].h.bh) (λhE h=>C.dd rfl h (s:=hs) (l:=ah.map (·.h.bh)) (f:=jg) (j:=qh) (v:=ay ah[qh].h.bh) (hj:=VL) (hv:=hqv)) ?_;refine To ?_;refine fP ?_;refine C.xQ (λQX=>?_) (λQX=>?_)
  ·refine C.go ?_;refine dk.cls ah[qh].s ?_;refine gq Gx fg.au ?_;refine cY.cls (m:=1) ⟨G,ah,aK.eraseIdx q,aF,false⟩ ?_;have hqs:ah[mv.to.toNat]? =some ah[qh]:=by rw[hqh,gv];exact cK Gx
   obtain⟨hV,hOut⟩:=hD.vot xo ah[qh] hqs QX;have QY:=dp Gx;have uw:=MN (bs:=ah[qh].h.bs) (b4:=b4) ⟨wX,HO⟩ (hJ.sh _ QY) (hS _ QY QX) (hC _ QY) hmJ hO hV;have sQ:=vK (c:=⟨G,ah,aK.eraseIdx q,aF,false⟩) (q:=qh) Gx (hr.same rfl rfl) rfl (yH (List.length_eraseIdx_le ..) ai) hOut uw;rw[<- hqh]at sQ⊢;refine dX ?_;refine C.mf rfl ?_;refine aE.j9 sQ ?_;rintro v σ' aP ⟨rfl,I2,s2,vx,Mq,Ak,Yf,rfl⟩;refine Ca ?_;have Ej:=T4 (c:=⟨G,ah,aK,aF,false⟩) (IQ:=aK.eraseIdx q) (kw:=ah[qh].kw+1) (kr:=ah[qh].kr+1) Gx hJ hC (λm hm=>(ko ..).mem hm) vx Mq Ak (Yf.mono (o':=o+2^15) (a':=a+1) ai ai) ai ai;refine aE.eK aT ak ⟨none,⟨G,ah.set qh {ah[qh]with s:={s2 with out:=[]},kw:=ah[qh].kw+1,kr:=ah[qh].kr+1},aK.eraseIdx q++s2.out,aF,false⟩,I2,rfl,(λk hk=>by cases hk),rfl,rfl,?_,rfl⟩;have T5:gp (CV.abs ⟨G,ah,aK,aF,false⟩) 2 q 0=(ig {CV.abs ⟨G,ah,aK,aF,false⟩with aK:=(aK.eraseIdx q).map (·.toMsgR)} qh (ry ah[qh].s.abs mv.toMsgR),0):=by rw[Yd,ax xo,hqs];dsimp only;rw[aG QX,hqh];rfl
   rw[T5];exact Ej
  ·refine dX ?_;refine dk.cls ah[qh].s ?_;refine gq Gx fg.au ?_;refine cY.cls (m:=1) ⟨G,ah,aK.eraseIdx q,aF,false⟩ ?_;have hqs:ah[mv.to.toNat]? =some ah[qh]:=by rw[hqh,gv];exact cK Gx
   refine aE.eK aT ak ⟨none,⟨G,ah,aK.eraseIdx q,aF,false⟩,I,rfl,(λk hk=>by cases hk),rfl,rfl,⟨Sub.refl _,⟨λm hm=>hJ.aK m ((ko ..).mem hm),hJ.aF,hJ.sh⟩,rfl,rfl,?_,λv hv=>(hC v hv).mono ai ai⟩,rfl⟩;rw[Yd,ax xo,hqs];dsimp only;rw[ax (by simpa using QX)];rfl
end
section
open Go.Proofs Go.Conc
theorem KY{P:bL}{n:Nat}{e:Nat->Value}{t:Nat}{ty tt t2:aO}{pos:String}{af:Array Edge}{gd:Option (Nat×Bool)}{x y:cZ}{a b:ByteArray}(hx:ev n e x=.string a)(hy:ev n e y=.string b):fW P (execOp (ev n e) ⟨some t,.binOp .eql tt x y t2,ty,pos,af,gd⟩)=some (.value (.bool (a.toList==b.toList))):=by unfold execOp;simp only[hx,hy];refine bC (a:=.bool (a.toList==b.toList)) ?_ rfl;refine bC (a:=()) (by unfold eqGuard;rfl) ?_;show fW P (Op.stringOp .eql a b)=_;unfold Op.stringOp;rfl
def MP:ByteArray:=⟨#[84,105,99,107]⟩
structure T6(c:CV)(s:Int)(up tk:Bool)(g:ek->ek)(r:WP×Int):Prop where
 d6:s<0\/(c.ah.length:Int)<=s->r=(c.abs,6)
 dn:∀ (q:Nat) (hq:q<c.ah.length),s=q->(c.ah[q]).s.up≠up->r=(c.abs,if up then 7 else 8)
 d3:∀ (q:Nat) (hq:q<c.ah.length),s=q->(c.ah[q]).s.up=up->tk=true->150<c.aK.length->r=(c.abs,3)
 go:∀ (q:Nat) (hq:q<c.ah.length),s=q->(c.ah[q]).s.up=up->(tk=true->c.aK.length<=150)->r=(ig c.abs q (g (c.ah[q]).s.abs),0)
abbrev shA(b1 b2 b3 b4 b5 b:Nat)(s:Int)(up:Bool)(nm:ByteArray)(fv:Value)(A:List HP):List HP:=
 da b1 (.cells #[aD s] 3 (0,0))::da b2 (.cells #[ay b] 31 (0,0))::da b3 (.cells #[.bool up] 4 (0,0))::da b4 (.cells #[.string nm] 9 (0,0))::da b5 (.cells #[fv] 177 (0,0))::A
theorem MR{σ:Gh}{c:CV}{b1 b2 b3 b4 b5:Nat}{s:Int}{tk:Bool}{nm:ByteArray}{I:HL}{eb:Nat->Nat×Nat}{o a:Int}{f:bJ}{fu:Func}{code:Code}{nf:Nat}[bd:Body prog f fu code nf]{a1 caps:Array Value}{A:List HP}{g:ek->ek}{r:WP×Int}
  (hE:ir I eb) (hJ:uD I c) (hb:MI c) (hC:nV o a c) (dI:c.aj=false) (hr:m5 σ c) (ZK:(nm.toList==MP.toList)=tk) (hg:T6 c s true tk g r) (mB:∀ v∈c.ah,v.s.up=true->(g v.s.abs).out.length<2^30)
  (hf:∀ v∈c.ah,v.s.up=true->aI prog false cH f (a1++[ay v.h.bs].toArray++caps) (dk v.h.bs v.s::bD I::A) (gD v.h.bs I (o+2^15) (a+1) (g v.s.abs))):
  bA prog bI 145 (#[]++([]:List Value).toArray++#[ay b1,ay b2,ay b3,ay b4,ay b5]) σ (rQ 1 c::bD I::shA b1 b2 b3 b4 b5 c.G.b s true nm (.func (.func f) a1 caps) A)
   (MQ σ c eb (eQ c I (o+2^15) (a+1) r)):=by
 refine bA.of ?_;intro Post os out kd F c' cs C aT ak;refine cr ?_;obtain⟨G,ah,aK,aF,aj⟩:=c;obtain rfl:aj=false:=dI;obtain⟨hn,nU,m9,qG⟩:=hb;dsimp only at hn nU m9 qG mB hf;obtain⟨d6,dn,d3,ZL⟩:=hg;dsimp only at d6 dn d3 ZL;obtain⟨t2,JZ⟩:=hE.g 2 (by decide);obtain⟨t5,hg5⟩:=hE.g 5 (by decide);obtain⟨t6,hg6⟩:=hE.g 6 (by decide);refine cY.opn (m:=1) (h:=λhs bg tx=>?_);obtain⟨HB,DX⟩:∃ HB,HB=ah.map (·.h.bh):=⟨_,rfl⟩;unfold ZD;dsimp only;rw[<- DX];have NN:HB.length=ah.length:=by rw[DX];exact dW ..
 refine dX ?_;by_cases h8:s<0
 ·refine C.dx (cW 7 0 11++[(6,11)]) 12 [] 0 ?_;refine kK ?_;refine Dr.p (λh=>C.fA rfl h (hf:=h8)) ?_;refine H5 ?_;refine ND ?_;refine C.v9 Fo.au hg5 (iJ _ _) rfl ?_;refine bH ?_;subst DX;refine cY.cls (m:=1) ⟨G,ah,aK,aF,false⟩ ?_;refine At.lP (show cV _ (rQ 1 ⟨G,ah,aK,aF,false⟩::bD I::(A++F)) by exact cV.au) ?_;refine At.lP (.cons .head (.cons .head (cV.qF A))) ?_;refine aE.eK aT ak ⟨some 5,⟨G,ah,aK,aF,false⟩,I,rfl,(λk hk=>by cases hk;decide),rfl,rfl,?_,rfl⟩;rw[d6 (.inl h8)];exact eQ.same hJ hC rfl
 ·by_cases Eo:s>=(HB.length:Int)
  ·refine C.dx (cW 7 0 11++[(6,11)]) 12 [] 0 ?_;refine kK ?_;refine Dr.p (λh=>C.dS rfl h (hf:=h8)) ?_;refine pF ?_;refine Dr.l (λhE h=>C.pS rfl h (s:=hs) (l:=HB) (f:=jg)) ?_;refine Dr.p (λh=>C.fA rfl h (hf:=Eo)) ?_;refine A5 ?_;refine ND ?_;refine C.v9 Fo.au hg5 (iJ _ _) rfl ?_;refine bH ?_;subst DX;refine cY.cls (m:=1) ⟨G,ah,aK,aF,false⟩ ?_;refine At.lP (show cV _ (rQ 1 ⟨G,ah,aK,aF,false⟩::bD I::(A++F)) by exact cV.au) ?_;refine At.lP (.cons .head (.cons .head (cV.qF A))) ?_;refine aE.eK aT ak ⟨some 5,⟨G,ah,aK,aF,false⟩,I,rfl,(λk hk=>by cases hk;decide),rfl,rfl,?_,rfl⟩;rw[d6 (.inr ai)];exact eQ.same hJ hC rfl
  ·refine C.dx (cW 7 0 11++[(6,11)]) 12 [] 0 ?_;refine kK ?_;refine Dr.p (λh=>C.dS rfl h (hf:=h8)) ?_;refine pF ?_;refine Dr.l (λhE h=>C.pS rfl h (s:=hs) (l:=HB) (f:=jg)) ?_;refine Dr.p (λh=>C.dS rfl h (hf:=Eo)) ?_;refine A5 ?_;refine oV ?_;obtain⟨q,rfl⟩:=lK (show 0<=s by omega);have hq:q<ah.length:=ai;have VL:q<HB.length:=ai;have NO:HB[q]=ah[q].h.bh:=by subst DX;simp
   have hqv:(jg (HB[q]'VL))[0]? =some (ay ah[q].h.bh):=by rw[NO];rfl
   have QY:=dp hq;refine lA hq Fo.au ?_;refine dk.opn (s:=ah[q].s) (h:=λlg wt ot tm bv bl bp bd be bu tl ht=>?_);refine C.dx (cW 20 0 17++[(19,17)]) 18 [] 0 ?_;refine nH ?_;refine Dr.l (λhE h=>C.dQ rfl h (s:=hs) (l:=HB) (f:=jg) (j:=q)) ?_;refine Dr.l (v:=ay ah[q].h.bh) (λhE h=>C.dd rfl h (s:=hs) (l:=HB) (f:=jg) (j:=q) (v:=ay ah[q].h.bh) (hj:=VL) (hv:=hqv)) ?_;refine R0 ?_;refine fP ?_;refine C.xQ (λIT=>?_) (λIT=>?_)
   ·refine bH ?_;refine C.v9 Fo.au hg6 (iJ _ _) rfl ?_;refine bH ?_;subst DX;refine dk.cls ah[q].s ?_;refine gq hq fg.au ?_;refine cY.cls (m:=1) ⟨G,ah,aK,aF,false⟩ ?_;refine At.lP (show cV _ (rQ 1 ⟨G,ah,aK,aF,false⟩::bD I::(A++F)) by exact cV.au) ?_;refine At.lP (.cons .head (.cons .head (cV.qF A))) ?_;refine aE.eK aT ak ⟨some 6,⟨G,ah,aK,aF,false⟩,I,rfl,(λk hk=>by cases hk;decide),rfl,rfl,?_,rfl⟩;rw[dn q hq rfl (by simpa using IT)];exact eQ.same hJ hC rfl
   ·refine C.go ?_;refine C.dx (cW 39 0 17++[(38,17)]) 18 [] 0 ?_;refine mX ?_;refine Em ?_;refine Dr.chain rfl ?_;refine Ch.fin ?_;refine dX ?_;refine C.v0 (v:=.bool tk) rfl ?_ (by rw[<- ZK];exact KY rfl rfl);rcases nj tk with rfl|rfl
    ·refine gu ?_;refine C.cmp rfl (λh66=>?_) (λh66=>?_)
     ·refine eP ?_;refine C.v9 Fo.au JZ (iJ _ _) rfl ?_;refine bH ?_;subst DX;refine dk.cls ah[q].s ?_;refine gq hq fg.au ?_;refine cY.cls (m:=1) ⟨G,ah,aK,aF,false⟩ ?_;refine At.lP (show cV _ (rQ 1 ⟨G,ah,aK,aF,false⟩::bD I::(A++F)) by exact cV.au) ?_;refine At.lP (.cons .head (.cons .head (cV.qF A))) ?_;refine aE.eK aT ak ⟨some 2,⟨G,ah,aK,aF,false⟩,I,rfl,(λk hk=>by cases hk;decide),rfl,rfl,?_,rfl⟩;have afM:(aK.length:Int)>150:=h66;rw[d3 q hq rfl (by simpa using IT) rfl ai];exact eQ.same hJ hC rfl
     ·refine dX ?_;subst DX;have Gy:ah[q].s.up=true:=by simpa using IT
      refine dk.cls ah[q].s ?_;refine gq hq fg.au ?_;refine cY.cls (m:=1) ⟨G,ah,aK,aF,false⟩ ?_;have sQ:=vK (c:=⟨G,ah,aK,aF,false⟩) (q:=q) hq hr rfl (dq) (mB _ QY Gy) (hf _ QY Gy);refine dX ?_;refine At.lP (show cV _ (rQ 1 ⟨G,ah,aK,aF,false⟩::bD I::(A++F)) by exact cV.au) ?_;refine aE.j9 sQ ?_ (hr:=.cons .head (.cons .head (fg.app A)));rintro v σ' aP ⟨rfl,I2,s2,vx,Mq,Ak,Yf,rfl⟩;refine Ca ?_;have Ej:=T4 (c:=⟨G,ah,aK,aF,false⟩) (IQ:=aK) (kw:=ah[q].kw+1) (kr:=ah[q].kr+1) hq hJ hC (λm hm=>hm) vx Mq Ak Yf ai ai;refine aE.eK aT ak ⟨none,⟨G,ah.set q {ah[q]with s:={s2 with out:=[]},kw:=ah[q].kw+1,kr:=ah[q].kr+1},aK++s2.out,aF,false⟩,I2,rfl,(λk hk=>by cases hk),rfl,rfl,?_,rfl⟩;have afM:¬ (aK.length:Int)>150:=h66;rw[ZL q hq rfl (by simpa using IT) (λ_=>by omega)];exact Ej
    ·refine lI ?_;subst DX;have Gy:ah[q].s.up=true:=by simpa using IT
     refine dk.cls ah[q].s ?_;refine gq hq fg.au ?_;refine cY.cls (m:=1) ⟨G,ah,aK,aF,false⟩ ?_;have sQ:=vK (c:=⟨G,ah,aK,aF,false⟩) (q:=q) hq hr rfl (dq) (mB _ QY Gy) (hf _ QY Gy);refine dX ?_;refine At.lP (show cV _ (rQ 1 ⟨G,ah,aK,aF,false⟩::bD I::(A++F)) by exact cV.au) ?_;refine aE.j9 sQ ?_ (hr:=.cons .head (.cons .head (fg.app A)));rintro v σ' aP ⟨rfl,I2,s2,vx,Mq,Ak,Yf,rfl⟩;refine Ca ?_;have Ej:=T4 (c:=⟨G,ah,aK,aF,false⟩) (IQ:=aK) (kw:=ah[q].kw+1) (kr:=ah[q].kr+1) hq hJ hC (λm hm=>hm) vx Mq Ak Yf ai ai;refine aE.eK aT ak ⟨none,⟨G,ah.set q {ah[q]with s:={s2 with out:=[]},kw:=ah[q].kw+1,kr:=ah[q].kr+1},aK++s2.out,aF,false⟩,I2,rfl,(λk hk=>by cases hk),rfl,rfl,?_,rfl⟩;rw[ZL q hq rfl (by simpa using IT) (λh=>by cases h)];exact Ej
theorem MT{σ:Gh}{c:CV}{b1 b2 b3 b4 b5:Nat}{s:Int}{nm:ByteArray}{I:HL}{eb:Nat->Nat×Nat}{o a:Int}{f:bJ}{fu:Func}{code:Code}{nf:Nat}[bd:Body prog f fu code nf]{a1 caps:Array Value}{A:List HP}{g:ek->ek}{r:WP×Int}
  (hE:ir I eb) (hJ:uD I c) (hb:MI c) (hC:nV o a c) (dI:c.aj=false) (hr:m5 σ c) (ZK:(nm.toList==MP.toList)=false) (hg:T6 c s false false g r) (mB:∀ v∈c.ah,v.s.up=false->(g v.s.abs).out.length<2^30)
  (hf:∀ v∈c.ah,v.s.up=false->aI prog false cH f (a1++[ay v.h.bs].toArray++caps) (dk v.h.bs v.s::bD I::A) (gD v.h.bs I (o+2^15) (a+1) (g v.s.abs))):
  bA prog bI 145 (#[]++([]:List Value).toArray++#[ay b1,ay b2,ay b3,ay b4,ay b5]) σ (rQ 1 c::bD I::shA b1 b2 b3 b4 b5 c.G.b s false nm (.func (.func f) a1 caps) A)
   (MQ σ c eb (eQ c I (o+2^15) (a+1) r)):=by
 refine bA.of ?_;intro Post os out kd F c' cs C aT ak;refine cr ?_;obtain⟨G,ah,aK,aF,aj⟩:=c;obtain rfl:aj=false:=dI;obtain⟨hn,nU,m9,qG⟩:=hb;dsimp only at hn nU m9 qG mB hf;obtain⟨d6,dn,d3,ZL⟩:=hg;dsimp only at d6 dn d3 ZL;obtain⟨t5,hg5⟩:=hE.g 5 (by decide);obtain⟨t7,hg7⟩:=hE.g 7 (by decide);refine cY.opn (m:=1) (h:=λhs bg tx=>?_);obtain⟨HB,DX⟩:∃ HB,HB=ah.map (·.h.bh):=⟨_,rfl⟩;unfold ZD;dsimp only;rw[<- DX];have NN:HB.length=ah.length:=by rw[DX];exact dW ..
 refine dX ?_;by_cases h8:s<0
 ·refine C.dx (cW 7 0 11++[(6,11)]) 12 [] 0 ?_;refine kK ?_;refine Dr.p (λh=>C.fA rfl h (hf:=h8)) ?_;refine H5 ?_;refine ND ?_;refine C.v9 Fo.au hg5 (iJ _ _) rfl ?_;refine bH ?_;subst DX;refine cY.cls (m:=1) ⟨G,ah,aK,aF,false⟩ ?_;refine At.lP (show cV _ (rQ 1 ⟨G,ah,aK,aF,false⟩::bD I::(A++F)) by exact cV.au) ?_;refine At.lP (.cons .head (.cons .head (cV.qF A))) ?_;refine aE.eK aT ak ⟨some 5,⟨G,ah,aK,aF,false⟩,I,rfl,(λk hk=>by cases hk;decide),rfl,rfl,?_,rfl⟩;rw[d6 (.inl h8)];exact eQ.same hJ hC rfl
 ·by_cases Eo:s>=(HB.length:Int)
  ·refine C.dx (cW 7 0 11++[(6,11)]) 12 [] 0 ?_;refine kK ?_;refine Dr.p (λh=>C.dS rfl h (hf:=h8)) ?_;refine pF ?_;refine Dr.l (λhE h=>C.pS rfl h (s:=hs) (l:=HB) (f:=jg)) ?_;refine Dr.p (λh=>C.fA rfl h (hf:=Eo)) ?_;refine A5 ?_;refine ND ?_;refine C.v9 Fo.au hg5 (iJ _ _) rfl ?_;refine bH ?_;subst DX;refine cY.cls (m:=1) ⟨G,ah,aK,aF,false⟩ ?_;refine At.lP (show cV _ (rQ 1 ⟨G,ah,aK,aF,false⟩::bD I::(A++F)) by exact cV.au) ?_;refine At.lP (.cons .head (.cons .head (cV.qF A))) ?_;refine aE.eK aT ak ⟨some 5,⟨G,ah,aK,aF,false⟩,I,rfl,(λk hk=>by cases hk;decide),rfl,rfl,?_,rfl⟩;rw[d6 (.inr ai)];exact eQ.same hJ hC rfl
  ·refine C.dx (cW 7 0 11++[(6,11)]) 12 [] 0 ?_;refine kK ?_;refine Dr.p (λh=>C.dS rfl h (hf:=h8)) ?_;refine pF ?_;refine Dr.l (λhE h=>C.pS rfl h (s:=hs) (l:=HB) (f:=jg)) ?_;refine Dr.p (λh=>C.dS rfl h (hf:=Eo)) ?_;refine A5 ?_;refine oV ?_;refine C.dx (cW 20 0 17++[(19,17)]) 18 [] 0 ?_;refine mX ?_;refine Em ?_;refine Dr.chain rfl ?_;refine oV ?_;obtain⟨q,rfl⟩:=lK (show 0<=s by omega);have hq:q<ah.length:=ai;have VL:q<HB.length:=ai;have NO:HB[q]=ah[q].h.bh:=by subst DX;simp
   have hqv:(jg (HB[q]'VL))[0]? =some (ay ah[q].h.bh):=by rw[NO];rfl
   have QY:=dp hq;refine lA hq Fo.au ?_;refine dk.opn (s:=ah[q].s) (h:=λlg wt ot tm bv bl bp bd be bu tl ht=>?_);refine C.dx (cW 39 0 17++[(38,17)]) 18 [] 0 ?_;refine Em ?_;refine Dr.l (λhE h=>C.dQ rfl h (s:=hs) (l:=HB) (f:=jg) (j:=q)) ?_;refine Dr.l (v:=ay ah[q].h.bh) (λhE h=>C.dd rfl h (s:=hs) (l:=HB) (f:=jg) (j:=q) (v:=ay ah[q].h.bh) (hj:=VL) (hv:=hqv)) ?_;refine Xg ?_;refine fP ?_;refine C.xQ (λT7=>?_) (λT7=>?_)
   ·refine bH ?_;refine C.v9 Fo.au hg7 (iJ _ _) rfl ?_;refine bH ?_;subst DX;refine dk.cls ah[q].s ?_;refine gq hq fg.au ?_;refine cY.cls (m:=1) ⟨G,ah,aK,aF,false⟩ ?_;refine At.lP (show cV _ (rQ 1 ⟨G,ah,aK,aF,false⟩::bD I::(A++F)) by exact cV.au) ?_;refine At.lP (.cons .head (.cons .head (cV.qF A))) ?_;refine aE.eK aT ak ⟨some 7,⟨G,ah,aK,aF,false⟩,I,rfl,(λk hk=>by cases hk;decide),rfl,rfl,?_,rfl⟩;rw[dn q hq rfl (by simpa using T7)];exact eQ.same hJ hC rfl
   ·refine dK ?_;refine C.v0 (v:=.bool false) rfl ?_ (by rw[<- ZK];exact KY rfl rfl);refine lI ?_;subst DX;have Gy:ah[q].s.up=false:=by simpa using T7
    refine dk.cls ah[q].s ?_;refine gq hq fg.au ?_;refine cY.cls (m:=1) ⟨G,ah,aK,aF,false⟩ ?_;have sQ:=vK (c:=⟨G,ah,aK,aF,false⟩) (q:=q) hq hr rfl (dq) (mB _ QY Gy) (hf _ QY Gy);refine dX ?_;refine At.lP (show cV _ (rQ 1 ⟨G,ah,aK,aF,false⟩::bD I::(A++F)) by exact cV.au) ?_;refine aE.j9 sQ ?_ (hr:=.cons .head (.cons .head (fg.app A)));rintro v σ' aP ⟨rfl,I2,s2,vx,Mq,Ak,Yf,rfl⟩;refine Ca ?_;have Ej:=T4 (c:=⟨G,ah,aK,aF,false⟩) (IQ:=aK) (kw:=ah[q].kw+1) (kr:=ah[q].kr+1) hq hJ hC (λm hm=>hm) vx Mq Ak Yf ai ai;refine aE.eK aT ak ⟨none,⟨G,ah.set q {ah[q]with s:={s2 with out:=[]},kw:=ah[q].kw+1,kr:=ah[q].kr+1},aK++s2.out,aF,false⟩,I2,rfl,(λk hk=>by cases hk),rfl,rfl,?_,rfl⟩;rw[ZL q hq rfl (by simpa using T7) (λh=>by cases h)];exact Ej
theorem oy{σ:Gh}{c:CV}{s:Int}{up tk:Bool}{nm:ByteArray}{I:HL}{eb:Nat->Nat×Nat}{o a:Int}{f:bJ}{fu:Func}{code:Code}{nf:Nat}[bd:Body prog f fu code nf]{a1 caps:Array Value}{A:List HP}{g:ek->ek}{r:WP×Int}
  (hE:ir I eb) (hJ:uD I c) (hb:MI c) (hC:nV o a c) (hr:c.aj=false->m5 σ c) (ZK:(nm.toList==MP.toList)=tk) (hut:up=false->tk=false) (hg:c.aj=false->T6 c s up tk g r) (mB:∀ v∈c.ah,v.s.up=up->(g v.s.abs).out.length<2^30)
  (hf:∀ v∈c.ah,v.s.up=up->aI prog false cH f (a1++[ay v.h.bs].toArray++caps) (dk v.h.bs v.s::bD I::A) (gD v.h.bs I (o+2^15) (a+1) (g v.s.abs))):
  bA prog bI 92 #[ay c.G.b,.string nm,aD s,.bool up,.func (.func f) a1 caps] σ (cY c::bD I::A) (CQ σ c I eb nm s (eQ c I (o+2^15) (a+1) r)):=by
 refine bA.of ?_;intro Post os out kd F c' cs C aT ak;refine oU ?_;refine C.bx rfl (λb1=>?_);refine C.bx rfl (λb2=>?_);refine C.bx rfl (λb3=>?_);refine C.bx rfl (λb4=>?_);refine C.bx rfl (λb5=>?_);refine gu ?_;refine C.mf rfl ?_;have h1:c.aj=false->bA prog bI 145 (#[]++([]:List Value).toArray++#[ay b3,ay b1,ay b4,ay b2,ay b5]) σ (rQ 1 c::bD I::shA b3 b1 b4 b2 b5 c.G.b s up nm (.func (.func f) a1 caps) A) (MQ σ c eb (eQ c I (o+2^15) (a+1) r)):=by
  intro dI;cases up with
  |true=>exact MR hE hJ hb hC dI (hr dI) ZK (hg dI) mB hf
  |false=>obtain rfl:=hut rfl;exact MT hE hJ hb hC dI (hr dI) ZK (hg dI) mB hf
 refine aE.j9 (uk (nm:=nm) (at_:=s) hE h1) ?_ (hr:=.cons Fo.au (.cons Fo.au (.cons Fo.au (.cons Fo.au (.cons Fo.au (.cons Fo.au (.cons Fo.au (fg.app A))))))));rintro v σ' aP ⟨er,c2,I2,L,h2,h3,rfl,rfl,h4⟩;refine oU ?_;exact aE.eK aT ak ⟨er,c2,I2,L,h2,h3,rfl,rfl,h4⟩
variable{σ:Gh}{c:CV}{i:Int}{I:HL}{eb:Nat->Nat×Nat}{o a:Int}
theorem Gz(hE:ir I eb)(hJ:uD I c)(hb:MI c)(hC:nV o a c):
  bA prog bI 38 #[ay c.G.b,aD i] σ [cY c,bD I] (CQ σ c I eb agN i (eQ c I (o+2^15) (a+1) (gp c.abs 1 i 0))):=by
 refine bA.of ?_;intro Post os out kd F c' cs C aT ak;refine oU ?_;refine C.bx rfl (λb2=>?_);refine C.bx rfl (λb3=>?_);refine eP ?_;refine C.mf rfl ?_;refine aE.j9 (uk (nm:=agN) (at_:=i) hE λdI=>QP (σ:=σ) (b3:=b3) (b2:=b2) (t:=i) hE hJ hb hC dI) ?_;rintro v σ' aP ⟨er,c2,I2,L,h2,h3,rfl,rfl,h4⟩;refine oU ?_;exact aE.eK aT ak ⟨er,c2,I2,L,h2,h3,rfl,rfl,h4⟩
theorem QZ{k:Int}(hk:2<=k/\k<=4)(hJ:uD I c)(hC:nV o a c)(dI:c.aj=false)(h:i<0\/(c.aK.length:Int)<=i):eQ c I (o+2^15) (a+1) (gp c.abs k i 0) (some 4) c I:=by rw[DV (by exact dI) hk,T3 (by rw[CV.yt];exact h)];exact eQ.same hJ hC rfl
theorem IU(hE:ir I eb)(hJ:uD I c)(hb:MI c)(hC:nV o a c):
  bA prog bI 40 #[ay c.G.b,aD i] σ [cY c,bD I] (CQ σ c I eb Ya i (eQ c I (o+2^15) (a+1) (gp c.abs 3 i 0))):=by
 refine bA.of ?_;intro Post os out kd F c' cs C aT ak;refine oU ?_;refine C.bx rfl (λb2=>?_);refine C.bx rfl (λb3=>?_);refine eP ?_;refine C.mf rfl ?_;refine aE.j9 (qo (nm:=Ya) (i:=i) (Q:=eQ c I (o+2^15) (a+1) (gp c.abs 3 i 0)) (A:=[da b2 (.cells #[ay c.G.b] 31 (0,0)),da b3 (.cells #[aD i] 3 (0,0))]) hE hb.aK (λh0 hl dI=>?_) (λdI h=>QZ ai hJ hC dI h)) ?_
 ·obtain⟨q,rfl⟩:=lK h0;exact MJ hJ hb hC dI (by simpa using hl)
 rintro v σ' aP ⟨er,c2,I2,L,h2,h3,rfl,rfl,h4⟩;refine oU ?_;exact aE.eK aT ak ⟨er,c2,I2,L,h2,h3,rfl,rfl,h4⟩
theorem Be(hE:ir I eb)(hJ:uD I c)(hb:MI c)(hC:nV o a c)(hr:c.aj=false->m5 σ c)(hD:∀ (q:Nat) (hq:q<c.aK.length),i=q->KX c c.aK[q])(hS:∀ v∈c.ah,v.s.up=true->qQ v.s):
  bA prog bI 39 #[ay c.G.b,aD i] σ [cY c,bD I] (CQ σ c I eb Yb i (eQ c I (o+2^15) (a+1) (gp c.abs 2 i 0))):=by
 refine bA.of ?_;intro Post os out kd F c' cs C aT ak;refine oU ?_;refine C.bx rfl (λb2=>?_);refine C.bx rfl (λb3=>?_);refine eP ?_;refine C.mf rfl ?_;refine aE.j9 (qo (nm:=Yb) (i:=i) (Q:=eQ c I (o+2^15) (a+1) (gp c.abs 2 i 0)) (A:=[da b2 (.cells #[ay c.G.b] 31 (0,0)),da b3 (.cells #[aD i] 3 (0,0))]) hE hb.aK (λh0 hl dI=>?_) (λdI h=>QZ ai hJ hC dI h)) ?_
 ·obtain⟨q,rfl⟩:=lK h0;exact MO hJ hb hC dI (by simpa using hl) (hr dI) (hD q (by simpa using hl) rfl) hS
 rintro v σ' aP ⟨er,c2,I2,L,h2,h3,rfl,rfl,h4⟩;refine oU ?_;exact aE.eK aT ak ⟨er,c2,I2,L,h2,h3,rfl,rfl,h4⟩
theorem IV(hE:ir I eb)(hJ:uD I c)(hb:MI c)(hC:nV o a c):
  bA prog bI 41 #[ay c.G.b,aD i] σ [cY c,bD I] (CQ σ c I eb Yc i (eQ c I (o+2^15) (a+1) (gp c.abs 4 i 0))):=by
 refine bA.of ?_;intro Post os out kd F c' cs C aT ak;refine oU ?_;refine C.bx rfl (λb2=>?_);refine eP ?_;refine C.mf rfl ?_;refine aE.j9 (qo (nm:=Yc) (i:=i) (Q:=eQ c I (o+2^15) (a+1) (gp c.abs 4 i 0)) (A:=[da b2 (.cells #[ay c.G.b] 31 (0,0))]) hE hb.aK (λh0 hl dI=>?_) (λdI h=>QZ ai hJ hC dI h)) ?_
 ·obtain⟨q,rfl⟩:=lK h0;exact ML hE hJ hb hC dI (by simpa using hl)
 rintro v σ' aP ⟨er,c2,I2,L,h2,h3,rfl,rfl,h4⟩;refine oU ?_;exact aE.eK aT ak ⟨er,c2,I2,L,h2,h3,rfl,rfl,h4⟩
def Yg:ByteArray:=⟨#[83,121,110,99]⟩
def Yh:ByteArray:=⟨#[67,114,97,115,104]⟩
def Yi:ByteArray:=⟨#[82,101,115,116,97,114,116]⟩
theorem T8{c:CV}{k s b:Int}{up tk:Bool}{g:ek->ek}(dI:c.aj=false)(hk:5<=k/\k<=8)(hu:up=decide (k≠8))(ht:tk=decide (k=6))(hg:∀ z,g z=if k=8 then jJ z else if k=5 then ti z else if k=6 then pw z else nC z b):T6 c s up tk g (gp c.abs k s b):=by
 have h0:gp c.abs k s b=if s<0\/(c.abs.sh.length:Int)<=s then(c.abs,(6:Int))else match c.abs.sh[s.toNat]? with
  |none=>(c.abs,(6:Int))
  |some z=>if k=8 then(if z.up then(c.abs,(8:Int))else(ig c.abs s.toNat (jJ z),(0:Int)))else if !z.up then(c.abs,(7:Int))else if k=5 then(ig c.abs s.toNat (ti z),(0:Int))else if k=6 then(if 150<c.abs.aK.length then(c.abs,(3:Int))else(ig c.abs s.toNat (pw z),(0:Int)))else(ig c.abs s.toNat (nC z b),(0:Int)):=by
  unfold gp;rw[ax ai,ax (by show¬ c.aj=true;rw[dI];decide),ax ai,ax ai];rfl
 have hq:∀ (q:Nat) (hq:q<c.ah.length),s=q->gp c.abs k s b=if k=8 then(if(c.ah[q]).s.up then(c.abs,(8:Int))else(ig c.abs q (jJ (c.ah[q]).s.abs),(0:Int)))else if !(c.ah[q]).s.up then(c.abs,(7:Int))else if k=5 then(ig c.abs q (ti (c.ah[q]).s.abs),(0:Int))else if k=6 then(if 150<c.aK.length then(c.abs,(3:Int))else(ig c.abs q (pw (c.ah[q]).s.abs),(0:Int)))else(ig c.abs q (nC (c.ah[q]).s.abs b),(0:Int)):=by
  rintro q hq rfl;rw[h0,ax (by rw[CV.QO];omega),gv];have:c.abs.sh[q]? =some (c.ah[q]).s.abs:=by simp[CV.abs,hq]
  rw[this,CV.yt];rfl
 refine⟨λh=>?_,λq AN e eV=>?_,λq AN e dP Gn hb=>?_,λq AN e dP hb=>?_⟩
 ·rw[h0,aG (by rw[CV.QO];exact h)]
 ·rw[hq q AN e];by_cases h8:k=8
  ·subst h8;rw[aG rfl];have hu:up=false:=by simpa using hu
   rw[hu]at eV⊢;rw[aG (by simpa using eV)];rfl
  ·have hu:up=true:=by simpa[h8]using hu
   rw[hu]at eV⊢;rw[ax h8,aG (by simpa using eV)];rfl
 ·have h6:k=6:=by rw[Gn]at ht;simpa using ht.symm
  subst h6;have hu:up=true:=by simpa using hu
  rw[hq q AN e,ax ai,dP,hu,ax (by decide),ax ai,aG rfl,aG hb]
 ·rw[hq q AN e,hg,dP];by_cases h8:k=8
  ·subst h8;have hu:up=false:=by simpa using hu
   rw[hu,aG rfl,ax (by decide),aG rfl]
  ·have hu:up=true:=by simpa[h8]using hu
   rw[hu,ax h8,ax (by decide),ax h8];by_cases h5:k=5
   ·rw[aG h5,aG h5]
   ·rw[ax h5,ax h5];by_cases h6:k=6
    ·subst h6;rw[aG rfl,aG rfl,ax (by have:=hb (by simpa using ht);omega)]
    ·rw[ax h6,ax h6]
end
section
open Go.Proofs Go.Conc
theorem gD.mono{b:Nat}{I:HL}{o a o' a':Int}{r:ek}{v:Value}{As:List HP}(h:gD b I o a r v As)(ho:o<=o')(ha:a<=a'):gD b I o' a' r v As:=by obtain⟨I1,s1,h1,h2,h3,h4,h5⟩:=h;exact⟨I1,s1,h1,h2,h3,h4.mono ho ha,h5⟩
def Al:Prop:=∀ {I:HL} {b:Nat} {s:di} {o a:Int},ShJ I s->s.log.length<2^15->(∀ tx home ops so,ik.cg tx home ops so∈s.log->mA ops)->xn o a s->
 aI prog false cH 97 #[ay b] [dk b s,bD I] (gD b I (o+2^15) (a+1) (jJ s.abs))
structure MU(c:CV)(k i b:Int):Prop where
 cb:MI c
 s:k=2\/5<=k->∀ v∈c.ah,v.s.up=true->qQ v.s
 d:k=2->∀ (q:Nat) (hq:q<c.aK.length),i=q->KX c c.aK[q]
 o:∀ v∈c.ah,(k=5->v.s.up=true->(ti v.s.abs).out.length<2^30)/\(k=6->v.s.up=true->(pw v.s.abs).out.length<2^30)/\(k=7->v.s.up=true->(nC v.s.abs b).out.length<2^30)/\(k=8->v.s.up=false->(jJ v.s.abs).out.length<2^30)
 r:k=8->Al/\∀ v∈c.ah,v.s.log.length<2^15/\∀ tx home ops so,ik.cg tx home ops so∈v.s.log->mA ops
section
variable{σ:Gh}{c:CV}{i b:Int}{I:HL}{eb:Nat->Nat×Nat}{o a:Int}
theorem IW(hE:ir I eb)(hJ:uD I c)(hC:nV o a c)(hr:c.aj=false->m5 σ c)(hO:MU c 5 i b):
  bA prog bI 42 #[ay c.G.b,aD i] σ [cY c,bD I] (CQ σ c I eb Yg i (eQ c I (o+2^15) (a+1) (gp c.abs 5 i b))):=by
 refine bA.of ?_;intro Post os out kd F c' cs C aT ak;refine RZ ?_;refine aE.j9 (oy (f:=93) (nm:=Yg) (s:=i) (up:=true) (tk:=false) (a1:=#[]) (caps:=#[]) (A:=[]) (g:=ti) hE hJ hO.cb hC hr (by decide+kernel) (λ_=>rfl) (λdI=>T8 (k:=5) (b:=b) dI ai (by decide) (by decide) (λz=>by rw[ax ai,aG rfl])) (λv hv hu=>(hO.o v hv).1 rfl hu)
  (λv hv hu=>(Iy (hJ.sh v hv) (hO.s ai v hv hu) (hC v hv)).post λ_ _ q=>q.mono ai ai)) ?_
 rintro v σ' aP ⟨er,c2,I2,L,h2,h3,rfl,rfl,h4⟩;refine oU ?_;exact aE.eK aT ak ⟨er,c2,I2,L,h2,h3,rfl,rfl,h4⟩
theorem IX(hE:ir I eb)(hJ:uD I c)(hC:nV o a c)(hr:c.aj=false->m5 σ c)(hO:MU c 6 i b):
  bA prog bI 43 #[ay c.G.b,aD i] σ [cY c,bD I] (CQ σ c I eb MP i (eQ c I (o+2^15) (a+1) (gp c.abs 6 i b))):=by
 refine bA.of ?_;intro Post os out kd F c' cs C aT ak;refine RZ ?_;refine aE.j9 (oy (f:=94) (nm:=MP) (s:=i) (up:=true) (tk:=true) (a1:=#[]) (caps:=#[]) (A:=[]) (g:=pw) hE hJ hO.cb hC hr (by decide+kernel) (λh=>by cases h) (λdI=>T8 (k:=6) (b:=b) dI ai (by decide) (by decide) (λz=>by rw[ax ai,ax ai,aG rfl])) (λv hv hu=>(hO.o v hv).2.1 rfl hu)
  (λv hv hu=>Iw (hJ.sh v hv) (hO.s ai v hv hu) (hC v hv))) ?_
 rintro v σ' aP ⟨er,c2,I2,L,h2,h3,rfl,rfl,h4⟩;refine oU ?_;exact aE.eK aT ak ⟨er,c2,I2,L,h2,h3,rfl,rfl,h4⟩
theorem GA{bs b5:Nat}{s:di}{keep:Int}(hJ:ShJ I s)(hb:qQ s)(hC:xn o a s):aI prog false cH 95 (#[]++[ay bs].toArray++#[ay b5]) (dk bs s::bD I::[da b5 (.cells #[aD keep] 3 (0,0))]) (gD bs I (o+2^15) (a+1) (nC s.abs keep)):=by refine aI.of λR C kd d F c cs aT ak=>?_;refine Ca ?_;refine C.fF (Gb hJ hb hC) ?_;rintro v aP ⟨I1,s',iK,ra,lv,Ml,rfl⟩;refine sB ?_;exact C.eJ aT ak ⟨I1,s',iK,ra,lv,Ml.mono ai ai,rfl⟩
theorem GB(hE:ir I eb)(hJ:uD I c)(hC:nV o a c)(hr:c.aj=false->m5 σ c)(hO:MU c 7 i b):
  bA prog bI 44 #[ay c.G.b,aD i,aD b] σ [cY c,bD I] (CQ σ c I eb Yh i (eQ c I (o+2^15) (a+1) (gp c.abs 7 i b))):=by
 refine bA.of ?_;intro Post os out kd F c' cs C aT ak;refine oU ?_;refine C.bx rfl (λb5=>?_);refine eP ?_;refine C.mf rfl ?_;refine aE.j9 (oy (f:=95) (nm:=Yh) (s:=i) (up:=true) (tk:=false) (a1:=#[]) (caps:=#[ay b5]) (A:=[da b5 (.cells #[aD b] 3 (0,0))]) (g:=λz=>nC z b) hE hJ hO.cb hC hr (by decide+kernel) (λ_=>rfl) (λdI=>T8 (k:=7) (b:=b) dI ai (by decide) (by decide) (λz=>by rw[ax ai,ax ai,ax ai])) (λv hv hu=>(hO.o v hv).2.2.1 rfl hu)
  (λv hv hu=>GA (hJ.sh v hv) (hO.s ai v hv hu) (hC v hv))) ?_
 rintro v σ' aP ⟨er,c2,I2,L,h2,h3,rfl,rfl,h4⟩;refine oU ?_;exact aE.eK aT ak ⟨er,c2,I2,L,h2,h3,rfl,rfl,h4⟩
theorem Bf(hE:ir I eb)(hJ:uD I c)(hC:nV o a c)(hr:c.aj=false->m5 σ c)(hO:MU c 8 i b):
  bA prog bI 45 #[ay c.G.b,aD i] σ [cY c,bD I] (CQ σ c I eb Yi i (eQ c I (o+2^15) (a+1) (gp c.abs 8 i b))):=by
 refine bA.of ?_;intro Post os out kd F c' cs C aT ak;refine RZ ?_;refine aE.j9 (oy (f:=97) (nm:=Yi) (s:=i) (up:=false) (tk:=false) (a1:=#[]) (caps:=#[]) (A:=[]) (g:=jJ) hE hJ hO.cb hC hr (by decide+kernel) (λ_=>rfl) (λdI=>T8 (k:=8) (b:=b) dI ai (by decide) (by decide) (λz=>by rw[aG rfl])) (λv hv hu=>(hO.o v hv).2.2.2 rfl hu)
  (λv hv _=>(hO.r rfl).1 (hJ.sh v hv) ((hO.r rfl).2 v hv).1 ((hO.r rfl).2 v hv).2 (hC v hv))) ?_
 rintro v σ' aP ⟨er,c2,I2,L,h2,h3,rfl,rfl,h4⟩;refine oU ?_;exact aE.eK aT ak ⟨er,c2,I2,L,h2,h3,rfl,rfl,h4⟩
end
end
section
open Go.Proofs Go.Conc
theorem T9{w:WP}{k i b:Int}(hk:k<=4):gp w k i b=gp w k i 0:=by unfold gp;rw[aG hk,aG hk]
theorem Ua{w:WP}{k i b:Int}(hk:1<=k/\k<=8)(hs:w.aj=true):gp w k i b=(w,9):=by unfold gp;rw[ax ai,aG hs]
theorem Ub{w:WP}{k i b:Int}(hk:k<1\/8<k):gp w k i b=(w,0):=by unfold gp;rw[aG hk]
theorem oA{c c':CV}{I I':HL}{o a:Int}{er:Option Nat}{k i b:Int}(hk:1<=k/\k<=8)(hJ:uD I c)(hC:nV o a c)(h:(c.aj=true/\er=some 8/\c'=c/\I'=I)\/(c.aj=false/\eQ c I (o+2^15) (a+1) (gp c.abs k i b) er c' I')):eQ c I (o+2^15) (a+1) (gp c.abs k i b) er c' I':=by
 rcases h with⟨hs,rfl,rfl,rfl⟩|⟨_,h⟩
 ·rw[Ua hk (by exact hs)];exact eQ.same hJ hC rfl
 ·exact h
theorem Q0{σ:Gh}{c:CV}{k i b:Int}{I:HL}{eb:Nat->Nat×Nat}{o a:Int}(hE:ir I eb)(hJ:uD I c)(hC:nV o a c)(hr:c.aj=false->m5 σ c)(hO:MU c k i b):
  bA prog bI 19 #[ay c.G.b,aD k,aD i,aD b] σ [cY c,bD I] (λv σ' As=>∃ er c' I',σ'=σ/\v=aD (Ai er)/\eQ c I (o+2^15) (a+1) (gp c.abs k i b) er c' I'/\As=[cY c',bD I']):=by
 refine bA.of ?_;intro Post os out kd F c' cs C aT ak;refine Ky ?_;refine C.cmp rfl (λxo=>?_) (λxo=>?_)
 ·refine dK ?_;obtain rfl:k=1:=xo;refine dK ?_;refine aE.j9 (Gz hE hJ hO.cb hC) ?_;rintro v σ' aP ⟨er,c2,I2,L,oS,Gv,rfl,rfl,h4⟩;rw[T9 (b:=b) ai]at ak;have hS:=oA ai hJ hC h4;have GC:=hE.mono hS.sub;cases er
  ·refine fG ?_;obtain⟨rfl,rfl⟩:=oS;refine cr ?_;refine C.cE (aI.less (dN _) gg) (A:=[]) ?_;refine qY ?_;refine bH ?_;exact aE.eK aT ak ⟨none,c2,I2,rfl,rfl,hS,rfl⟩
  ·refine fG ?_;rename_i kk;obtain⟨bE,rfl,rfl⟩:=oS;refine cr ?_;refine C.cE (gS GC (bE:=bE) (k:=kk) (nm:=agN) (at_:=i) (Gv kk rfl)) ?_;refine oU ?_;exact aE.eK aT ak ⟨some kk,c2,I2,rfl,rfl,hS,rfl⟩
 ·refine dX ?_;refine C.cmp rfl (λh18=>?_) (λh18=>?_)
  ·refine dK ?_;obtain rfl:k=2:=h18;refine dK ?_;refine aE.j9 (Be hE hJ hO.cb hC hr (hO.d rfl) (hO.s ai)) ?_;rintro v σ' aP ⟨er,c2,I2,L,oS,Gv,rfl,rfl,h4⟩;rw[T9 (b:=b) ai]at ak;have hS:=oA ai hJ hC h4;have GC:=hE.mono hS.sub;cases er
   ·refine fG ?_;obtain⟨rfl,rfl⟩:=oS;refine cr ?_;refine C.cE (aI.less (dN _) gg) (A:=[]) ?_;refine qY ?_;refine bH ?_;exact aE.eK aT ak ⟨none,c2,I2,rfl,rfl,hS,rfl⟩
   ·refine fG ?_;rename_i kk;obtain⟨bE,rfl,rfl⟩:=oS;refine cr ?_;refine C.cE (gS GC (bE:=bE) (k:=kk) (nm:=Yb) (at_:=i) (Gv kk rfl)) ?_;refine oU ?_;exact aE.eK aT ak ⟨some kk,c2,I2,rfl,rfl,hS,rfl⟩
  ·refine dX ?_;refine C.cmp rfl (λEr=>?_) (λEr=>?_)
   ·refine dK ?_;obtain rfl:k=3:=Er;refine dK ?_;refine aE.j9 (IU hE hJ hO.cb hC) ?_;rintro v σ' aP ⟨er,c2,I2,L,oS,Gv,rfl,rfl,h4⟩;rw[T9 (b:=b) ai]at ak;have hS:=oA ai hJ hC h4;have GC:=hE.mono hS.sub;cases er
    ·refine fG ?_;obtain⟨rfl,rfl⟩:=oS;refine cr ?_;refine C.cE (aI.less (dN _) gg) (A:=[]) ?_;refine qY ?_;refine bH ?_;exact aE.eK aT ak ⟨none,c2,I2,rfl,rfl,hS,rfl⟩
    ·refine fG ?_;rename_i kk;obtain⟨bE,rfl,rfl⟩:=oS;refine cr ?_;refine C.cE (gS GC (bE:=bE) (k:=kk) (nm:=Ya) (at_:=i) (Gv kk rfl)) ?_;refine oU ?_;exact aE.eK aT ak ⟨some kk,c2,I2,rfl,rfl,hS,rfl⟩
   ·refine dX ?_;refine C.cmp rfl (λh32=>?_) (λh32=>?_)
    ·refine dK ?_;obtain rfl:k=4:=h32;refine dK ?_;refine aE.j9 (IV hE hJ hO.cb hC) ?_;rintro v σ' aP ⟨er,c2,I2,L,oS,Gv,rfl,rfl,h4⟩;rw[T9 (b:=b) ai]at ak;have hS:=oA ai hJ hC h4;have GC:=hE.mono hS.sub;cases er
     ·refine fG ?_;obtain⟨rfl,rfl⟩:=oS;refine cr ?_;refine C.cE (aI.less (dN _) gg) (A:=[]) ?_;refine qY ?_;refine bH ?_;exact aE.eK aT ak ⟨none,c2,I2,rfl,rfl,hS,rfl⟩
     ·refine fG ?_;rename_i kk;obtain⟨bE,rfl,rfl⟩:=oS;refine cr ?_;refine C.cE (gS GC (bE:=bE) (k:=kk) (nm:=Yc) (at_:=i) (Gv kk rfl)) ?_;refine oU ?_;exact aE.eK aT ak ⟨some kk,c2,I2,rfl,rfl,hS,rfl⟩
    ·refine dX ?_;refine C.cmp rfl (λQd=>?_) (λQd=>?_)
     ·refine dK ?_;obtain rfl:k=5:=Qd;refine dK ?_;refine aE.j9 (IW hE hJ hC hr hO) ?_;rintro v σ' aP ⟨er,c2,I2,L,oS,Gv,rfl,rfl,h4⟩;have hS:=oA ai hJ hC h4;have GC:=hE.mono hS.sub;cases er
      ·refine fG ?_;obtain⟨rfl,rfl⟩:=oS;refine cr ?_;refine C.cE (aI.less (dN _) gg) (A:=[]) ?_;refine qY ?_;refine bH ?_;exact aE.eK aT ak ⟨none,c2,I2,rfl,rfl,hS,rfl⟩
      ·refine fG ?_;rename_i kk;obtain⟨bE,rfl,rfl⟩:=oS;refine cr ?_;refine C.cE (gS GC (bE:=bE) (k:=kk) (nm:=Yg) (at_:=i) (Gv kk rfl)) ?_;refine oU ?_;exact aE.eK aT ak ⟨some kk,c2,I2,rfl,rfl,hS,rfl⟩
     ·refine dX ?_;refine C.cmp rfl (λh46=>?_) (λh46=>?_)
      ·refine dK ?_;obtain rfl:k=6:=h46;refine dK ?_;refine aE.j9 (IX hE hJ hC hr hO) ?_;rintro v σ' aP ⟨er,c2,I2,L,oS,Gv,rfl,rfl,h4⟩;have hS:=oA ai hJ hC h4;have GC:=hE.mono hS.sub;cases er
       ·refine fG ?_;obtain⟨rfl,rfl⟩:=oS;refine cr ?_;refine C.cE (aI.less (dN _) gg) (A:=[]) ?_;refine qY ?_;refine bH ?_;exact aE.eK aT ak ⟨none,c2,I2,rfl,rfl,hS,rfl⟩
       ·refine fG ?_;rename_i kk;obtain⟨bE,rfl,rfl⟩:=oS;refine cr ?_;refine C.cE (gS GC (bE:=bE) (k:=kk) (nm:=MP) (at_:=i) (Gv kk rfl)) ?_;refine oU ?_;exact aE.eK aT ak ⟨some kk,c2,I2,rfl,rfl,hS,rfl⟩
      ·refine dX ?_;refine C.cmp rfl (λh53=>?_) (λh53=>?_)
       ·refine dK ?_;obtain rfl:k=7:=h53;refine dX ?_;refine aE.j9 (GB hE hJ hC hr hO) ?_;rintro v σ' aP ⟨er,c2,I2,L,oS,Gv,rfl,rfl,h4⟩;have hS:=oA ai hJ hC h4;have GC:=hE.mono hS.sub;cases er
        ·refine fG ?_;obtain⟨rfl,rfl⟩:=oS;refine cr ?_;refine C.cE (aI.less (dN _) gg) (A:=[]) ?_;refine qY ?_;refine bH ?_;exact aE.eK aT ak ⟨none,c2,I2,rfl,rfl,hS,rfl⟩
        ·refine fG ?_;rename_i kk;obtain⟨bE,rfl,rfl⟩:=oS;refine cr ?_;refine C.cE (gS GC (bE:=bE) (k:=kk) (nm:=Yh) (at_:=i) (Gv kk rfl)) ?_;refine oU ?_;exact aE.eK aT ak ⟨some kk,c2,I2,rfl,rfl,hS,rfl⟩
       ·refine dX ?_;refine C.cmp rfl (λDI=>?_) (λDI=>?_)
        ·refine dK ?_;obtain rfl:k=8:=DI;refine dK ?_;refine aE.j9 (Bf hE hJ hC hr hO) ?_;rintro v σ' aP ⟨er,c2,I2,L,oS,Gv,rfl,rfl,h4⟩;have hS:=oA ai hJ hC h4;have GC:=hE.mono hS.sub;cases er
         ·refine fG ?_;obtain⟨rfl,rfl⟩:=oS;refine cr ?_;refine C.cE (aI.less (dN _) gg) (A:=[]) ?_;refine qY ?_;refine bH ?_;exact aE.eK aT ak ⟨none,c2,I2,rfl,rfl,hS,rfl⟩
         ·refine fG ?_;rename_i kk;obtain⟨bE,rfl,rfl⟩:=oS;refine cr ?_;refine C.cE (gS GC (bE:=bE) (k:=kk) (nm:=Yi) (at_:=i) (Gv kk rfl)) ?_;refine oU ?_;exact aE.eK aT ak ⟨some kk,c2,I2,rfl,rfl,hS,rfl⟩
        ·refine gu ?_;have hd:=Ub (w:=c.abs) (k:=k) (i:=i) (b:=b) ai;exact aE.eK aT ak ⟨none,c,I,rfl,rfl,by rw[hd];exact eQ.same hJ hC rfl,rfl⟩
theorem CA{A B:Type}{f:A->B}:∀ {l:List A},(l.map f).Nodup->∀ {a b:A},a∈l->b∈l->f a=f b->a=b
 |[],_,_,_,h,_,_=>by cases h
 |x::l,h,a,b,ha,hb,e=>by
  have nd:=oX.1 (show(f x::l.map f).Nodup from h);rcases fR.1 ha with rfl|Nr<;>rcases fR.1 hb with rfl|oG
  ·rfl
  ·exact(nd.1 (bM.2 ⟨b,oG,e.symm⟩)).elim
  ·exact(nd.1 (bM.2 ⟨a,Nr,e⟩)).elim
  ·exact CA nd.2 Nr oG e
theorem MV{V:Type}{l m:List (Int×V)}(hl:(l.map (·.1)).Nodup)(hm:(m.map (·.1)).Nodup)(h:∀ p,p∈l↔p∈m)(k:Int):aB l k=aB m k:=by
 cases e:aB m k with
 |some v=>exact eG hl ((h _).2 (bQ e))
 |none=>
  cases e2:aB l k with
  |none=>rfl
  |some v=>
   have:=eG hm ((h _).1 (bQ e2));rw[e]at this;cases this
theorem KL.Yj{E:List aN}{P:ek}{L:List kt}{V:List Int}(H:KL E P L V)(hz:∀ x∈V,NP x):ab1 P.values V:=by
 refine⟨H.AY,hz,λl' mP hp=>?_⟩;have hm:∀ p,p∈l'↔p∈P.values/\p.2≠0:=λp=>by rw[hp.mem_iff,gI];simp
 have hg:∀ x,(aB l' x).getD 0=(aB P.values x).getD 0:=λx=>by
  cases e:aB l' x with
  |some w=>
   have:=(hm _).1 (bQ e);rw[eG H.vn this.1]
  |none=>
   cases e2:aB P.values x with
   |none=>rfl
   |some w=>
    by_cases hw:w=0
    ·subst hw;rfl
    ·have:=eG mP ((hm (x,w)).2 ⟨bQ e2,hw⟩);rw[e]at this;cases this
 have hv:∀ k:Nat,k<26->(aB P.values (97+(k:Int))).getD 0=V[k]?.getD 0:=λk hk=>by rw[H.bT (97+(k:Int)) ai ai,show(97+(k:Int)-97).toNat=k by omega]
 constructor
 ·refine Oh (by rw[mD,H.AY]) λi h1 h2=>?_;have hi:i<26:=by rw[mD]at h1;exact h1
  rw[Aj 0 l' hi,hg,hv i hi,cK h2];rfl
 ·have hV:V=(List.range 26).map λk=>V[k]?.getD 0:=by refine Oh (by rw[dW,yI,H.AY]) λi h1 h2=>?_;rw[List.getElem_map,JC,cK h1];rfl
  have hc:QK V=((List.range 26).filter λk=>V[k]?.getD 0 != 0).length:=by
   conv=>lhs;rw[hV]
   unfold QK;rw[List.filter_map,dW];rfl
  rw[hc];refine Oj ?_ ?_
  ·have:=ng (b:=((List.range 26).filter λk=>V[k]?.getD 0 != 0).map λ(k:Nat)=>97+(k:Int)) mP λx hx=>by obtain⟨p,Eh,rfl⟩:=bM.1 hx;obtain⟨h1,h2⟩:=(hm p).1 Eh;have hk:=H.vk p h1;refine bM.2 ⟨(p.1-97).toNat,gI.2 ⟨l8.2 ai,?_⟩,ai⟩;have:=hv (p.1-97).toNat ai;rw[show(97:Int)+((p.1-97).toNat:Int)=p.1 by omega,eG H.vn (show(p.1,p.2)∈P.values from h1)]at this;rw[<- this];simpa using h2
   simpa using this
  ·have:=ng (a:=((List.range 26).filter λk=>V[k]?.getD 0 != 0).map λ(k:Nat)=>97+(k:Int)) (b:=l'.map (·.1)) ?_ λx hx=>by
    obtain⟨k,hk,rfl⟩:=bM.1 hx;obtain⟨h1,h2⟩:=gI.1 hk;have h1:=l8.1 h1;have h3:=hv k h1;have h2:V[k]?.getD 0≠0:=by simpa using h2
    rw[<- h3]at h2;cases e:aB P.values (97+(k:Int))with
    |none=>rw[e]at h2;exact absurd rfl h2
    |some w=>
     rw[e]at h2;exact bM.2 ⟨(97+(k:Int),w),(hm _).2 ⟨bQ e,h2⟩,rfl⟩
   ·simpa using this
   ·exact List.Pairwise.map _ (λa b h=>by omega) (List.nodup_range.filter _)
theorem KL.Yk{E:List aN}{P:ek}{L:List kt}{V:List Int}(H:KL E P L V)(hr:∀ h∈L,97<=h.key/\h.key<=122):ab2 P.aX L:=by
 have hf:∀ h∈L,L.find? (λx=>x.key==h.key)=some h:=λh hh=>by
  cases e:L.find? (λx=>x.key==h.key)with
  |none=>have:=Jw.1 e h hh;simp at this
  |some g=>
   have h1:=JA e;have h2:=Bt e;rw[CA H.ln h2 hh (by simpa using h1)]
 refine⟨hr,λl' mP hp=>⟨?_,λh hh=>?_⟩⟩
 ·rw[hp.length_eq];refine Oj ?_ ?_
  ·have:=ng (b:=L.map (·.key)) H.pl λx hx=>by
    obtain⟨p,Eh,rfl⟩:=bM.1 hx;have h1:=eG H.pl (show(p.1,p.2)∈P.aX from Eh);rw[H.lock]at h1;cases e:L.find? (λx=>x.key==p.1)with
    |none=>rw[e]at h1;cases h1
    |some g=>exact bM.2 ⟨g,Bt e,by have:=JA e;simpa using this⟩
   simpa using this
  ·have:=ng (a:=L.map (·.key)) (b:=P.aX.map (·.1)) H.ln λx hx=>by obtain⟨h,hh,rfl⟩:=bM.1 hx;have h1:=H.lock h.key;rw[hf h hh]at h1;exact bM.2 ⟨_,bQ h1,rfl⟩
   simpa using this
 ·rw[MV mP H.pl (λp=>hp.mem_iff),H.lock,hf h hh];rfl
variable{T:List (List bP)}{n:Int}{P:ek}{R:ShR}{t:Nat}
theorem dB.Yj(H:dB T n P R)(hz:∀ x∈R.bT,NP x):ab1 P.values R.bT:=by
 cases hu:R.up with
 |true=>exact(H.kl hu).Yj hz
 |false=>
  obtain⟨h1,_,h3,_⟩:=H.dn hu;rw[h1,h3];refine⟨rfl,λx hx=>by rw[UH hx];exact⟨by decide,by decide⟩,λl' mP hp=>?_⟩;obtain rfl:l'=[]:=by simpa using hp
  exact⟨QL 0,rfl⟩
theorem dB.Yk(H:dB T n P R)(hT:vg T):ab2 P.aX R.aX:=by
 cases hu:R.up with
 |true=>
  refine(H.kl hu).Yk λh hh=>?_;obtain⟨i,r,h1,h2,o,h3,h4⟩:=(H.kl hu).lk h hh;obtain⟨ops,h5,_,h6,_⟩:=H.xa.ready h1 h2;rw[h6]at h3;rw[<- h4];exact(hT.of h5).key o h3
 |false=>
  obtain⟨_,h2,_,h4,_⟩:=H.dn hu;rw[h2,h4];refine⟨by simp,λl' mP hp=>?_⟩;obtain rfl:l'=[]:=by simpa using hp
  exact⟨rfl,by simp⟩
theorem Yl{A B:Type}{r:A->B->Prop}{l:List A}{m:List B}(h:F2 r l m):∀ a∈l,∃ b∈m,r a b:=by
 induction h with
 |nil=>intro a ha;cases ha
 |@cons x y l m h _ ih=>
  intro a ha;rcases fR.1 ha with rfl|ha
  ·exact⟨y,fY ..,h⟩
  ·obtain⟨b,hb,hr⟩:=ih a ha;exact⟨b,fp _ hb,hr⟩
theorem gf.ab9{l:List bP}(h:gf l):mA l:=⟨λo ho=>⟨(h.1 o ho).1,(h.1 o ho).2.1⟩,by have:=h.2.2.2;omega⟩
theorem mA.part{l:List bP}(h:mA l)(k n:Int):mA (br l k n):=⟨λo ho=>h.1 o (gI.1 ho).1,yH (yE _ _) h.2⟩
variable{s:di}
theorem dB.Ym(H:dB T n s.abs R)(hT:vg T)(z:zB t R)(hn:1<=n/\n<=4)(ht:t<=2^42)(hC:xn (t*2^15) t s)(hu:R.up=true)(ho:R.out=[]):qQ s:=by
 have jL:s.log.length=R.log.length:=by have:=congrArg List.length H.log;simpa[di.abs]using this
 have htm:s.timers.length=R.timers.length:=by have:=congrArg List.length H.timers;simpa[di.abs]using this
 have R4:s.waits.length=R.waits.length:=by have:=congrArg List.length H.waits;simpa[di.abs]using this
 have hou:s.out.length=R.out.length:=by have:=congrArg List.length H.out;simpa[di.abs]using this
 have hgd:s.aH=R.aH:=H.aH;have II:s.clock=R.clock:=H.clock;have hgl:=H.gl;have EY:s.n=n:=H.n1;have hK:=H.kl hu;have hlg:=H.log;refine⟨ai,by have:=z.log;omega,ai,by have:=z.timers;omega,by have:=z.waits;omega,by rw[hou,ho];decide,by have:=z.clock;omega,by have:=hC.o;omega,λu Ha=>?_,λu Ha p hp=>by have:=hC.a u Ha p hp;omega,λtx p hp=>?_,λtx p hp=>?_⟩
 ·obtain⟨b,hb,hr⟩:=Yl (H.bY hu) (u.1,u.2.abs) (bM.2 ⟨u,Ha,rfl⟩);have h1:=hT.of hr.ops;have h2:u.2.ops=b.ops:=hr.ua.ops;rw[h2];exact h1.ab9
 ·have h1:=hK.pend tx;have h2:aB s.abs.pend tx=some p.abs:=by show aB (s.pend.map λp=>(p.1,p.2.abs)) tx=_;rw[vd (w:=λv:qO=>v.abs),hp];rfl
  rw[h2]at h1;cases e:bj (s.abs.log.map aN.aV) tx with
  |none=>rw[e]at h1;cases h1
  |some i=>
   rw[e]at h1;simp only[nh]at h1;cases e2:(s.abs.log.map aN.aV)[i]? with
   |none=>rw[e2]at h1;cases h1
   |some r=>
    rw[e2]at h1;have h3:p.ops=r.ops:=congrArg y6.ops (bR h1);obtain⟨ops,h5,_,h6,_⟩:=H.xa.ready e e2;rw[h3,h6];exact(hT.of h5).ab9.part _ _
 ·have h1:=hK.bF tx;have h2:aB s.abs.bF tx=some p:=hp;rw[h2]at h1;cases e:aW (s.abs.log.map aN.aV) 2 tx with
  |none=>rw[e]at h1;cases h1
  |some i=>
   rw[e]at h1;simp only[nh]at h1;have hi:=(bX e).1;cases e2:(s.abs.log.map aN.aV)[i]? with
   |none=>rw[e2]at h1;cases h1
   |some r=>
    rw[e2]at h1;have h3:p.pl=i:=congrArg ic.pl (bR h1);have h4:(s.abs.log.map aN.aV).length=s.log.length:=by simp[di.abs]
    omega
theorem rV(u:fO)(n:Int):∀ (l:List bP) (used:Int->Nat),(gG u n l used).length<=l.length
 |[],_=>eW _
 |o::l,used=>by
  unfold gG;split
  ·exact Nat.le_succ_of_le (rV u n l used)
  ·exact Nat.succ_le_succ (rV u n l _)
theorem Uc{P:ek}{m:MsgR}(H:dB T n P R)(hT:vg T)(hn:0<n)(dP:R.up=true)(hm:jK T n m)(hk:m.kind=3):zZ P m:=by
 obtain⟨ops,ho,hc⟩:=hm;have hc:m.to=gk ops n/\de ops m.bq n=true/\(m.yes=true->m.reads.length=Kl (br ops m.bq n)):=by rcases hc with h|h|h|h|h|h|h<;>first|exact⟨h.2.1,h.2.2.1,h.2.2.2.1⟩|(have:=h.1;omega)
 obtain⟨c1,c2,c3⟩:=hc;have hr:=hT.of ho;intro a ha aa8 hy wK;rcases pC (H.bY dP) m.tx with⟨u1,_⟩|⟨i,a',u,u1,u2,u3,u4,hu⟩
 ·rw[u1]at ha;cases ha
 ·rw[u1]at ha;obtain rfl:=bR ha;have cN:u.ops=ops:=by have:=hu.ops;rw[u4,ho]at this;exact(bR this).symm
  have A0:(aB a'.bk m.bq).isSome=(bU u m.bq).isSome:=by rw[hu.ua.bk];simp
  obtain⟨v1,qV⟩:∃ v1,v1=(if(m.yes&& !(bU u m.bq).isSome)=true then{u with bk:=u.bk++[⟨m.bq,m.reads⟩]}else u):=⟨_,rfl⟩;obtain⟨a1,Np⟩:∃ a1,a1=Ep a' m:=⟨_,rfl⟩;have Ud:a1=(if(m.yes&& !(bU u m.bq).isSome)=true then{a' with bk:=bB a'.bk m.bq m.reads}else a'):=by rw[Np];unfold Ep;rw[A0]
  have qX:lh T n R.me (m.tx,a1) v1:=by
   by_cases hb:(m.yes&& !(bU u m.bq).isSome)=true
   ·rw[aG hb]at Ud qV;rw[Ud,qV];have oG:m.yes=true/\(bU u m.bq).isSome=false:=by simpa using hb
    refine⟨hu.tx,⟨hu.ua.ops,hu.ua.dec,hu.ua.yes,λk=>?_,fB hu.ua.vn,hu.ua.an,hu.ua.cy,hu.ua.ap,λp hp=>?_,hu.ua.at'⟩,hu.ops,hu.home⟩
    ·show aB (bB a'.bk m.bq m.reads) k=_;rw[fK,hu.ua.bk];unfold bU;simp only;rw[N5];by_cases e:k=m.bq
     ·subst e;have:List.find? (λv=>v.bq==m.bq) u.bk=none:=by have:=oG.2;unfold bU at this;simpa using this
      simp[this]
     ·have:(m.bq==k)=false:=by simpa using λz=>e z.symm
      simp[e,this]
    ·rcases eE hp with rfl|hp
     ·show de u.ops m.bq n=true/\m.reads.length=Kl (br u.ops m.bq n);rw[cN];exact⟨c2,c3 oG.1⟩
     ·exact hu.ua.vt p hp
   ·rw[ax hb]at Ud qV;rw[Ud,qV];exact hu
  have HT:v1.ops=ops:=by rw[qV];split<;>exact cN
  have EM:a1.ops=ops:=qX.ua.ops.trans HT;unfold lz at wK;rw[<- Np,hy,H.n1,EM]at wK;have hlen:(dA ops n).length<=a1.bk.length:=by simpa using wK
  have kC:=(tQ (n:=n) (ops:=ops) qX.ua.vn (λp hp=>by have:=(qX.ua.vt p hp).1;rw[HT]at this;exact this)).1 hlen;refine⟨jG v1 n,?_,?_⟩
  ·rw[<- Np,H.n1];exact Fv qX.ua (by rw[HT];exact kC)
  ·have h1:=rV v1 n v1.ops (λ_=>0);have h2:=hr.2.2.2;rw[HT]at h1;unfold jG;rw[HT];omega
def pO(A:HP)(l:List Nat):Prop:=∀ h,A h->l.Nodup/\∀ b∈l,∃ o,h b=some o
theorem pO.nil{A:HP}:pO A []:=λh _=>⟨Ey,by simp⟩
theorem pO.da{b:Nat}{o:Obj}:pO (da b o) [b]:=λh e=>⟨by simp,λx hx=>by obtain rfl:=dL.1 hx;have e:h=one x o:=e;exact⟨o,by rw[e];simp[one]⟩⟩
theorem pO.all{As:List HP}{ls:List (List Nat)}(h:F2 pO As ls):pO (all As) ls.flatten:=by
 have key:∀ {As:List HP} {ls:List (List Nat)},F2 pO As ls->∀ h,Sat As h->ls.flatten.Nodup/\∀ b∈ls.flatten,∃ o,h b=some o:=by
  intro As ls hh
  induction hh with
  |nil=>intro h _;exact⟨Ey,by simp⟩
  |@cons A l As ls ha _ ih=>
   rintro h ⟨h1,a,s1,r⟩;obtain⟨n1,o1⟩:=ha h1 a;obtain⟨n2,o2⟩:=ih _ r;simp only[List.flatten_cons];refine⟨il.2 ⟨n1,n2,λx hx y hy e=>?_⟩,λb hb=>?_⟩
   ·subst e;obtain⟨o,ho⟩:=o1 x hx;obtain⟨o',mq⟩:=o2 x hy;unfold less at mq;rw[ho]at mq;cases mq
   ·rcases bS.1 hb with hb|hb
    ·obtain⟨o,ho⟩:=o1 b hb;exact⟨o,s1 _ _ ho⟩
    ·obtain⟨o,ho⟩:=o2 b hb;exact⟨o,ns _ _ ho⟩
 exact key h
theorem pO.ex{X:Type}{A:X->HP}{l:List Nat}(h:∀ x,pO (A x) l):pO (λH=>∃ x,A x H) l:=λH ⟨x,a⟩=>h x H a
def HV.chans(v:HV):List Nat:=[v.h.wk,v.h.rd]
def CV.chans(c:CV):List Nat:=c.ah.flatMap HV.chans++[c.G.dn]
theorem IY(v:HV):pO (iQ v) v.chans:=by have:=pO.all (As:=tv v []) (ls:=[[],[v.h.wk],[v.h.rd],[],[]]) (.cons .nil (.cons .da (.cons .da (.cons .nil (.cons .nil .nil)))));exact this
theorem MX(l:List HV):pO (all (l.map iQ)) (l.flatMap HV.chans):=by
 refine pO.all (ls:=l.map HV.chans) ?_
 induction l with
 |nil=>exact .nil
 |cons v l ih=>exact .cons (IY v) ih
theorem Q1(m:Int)(c:CV):pO (rQ m c) c.chans:=by refine pO.ex λhs=>pO.ex λbg=>pO.ex λtx=>?_;have:=pO.all (As:=ZD c m c.st hs bg tx []) (ls:=[[],[],[],[],c.ah.flatMap HV.chans,[c.G.dn],[]]) (.cons .nil (.cons .nil (.cons .nil (.cons .nil (.cons (MX _) (.cons .da (.cons .nil .nil)))))));simpa[CV.chans]using this
structure KZ(σ:Gh)(L:List CV):Prop where
 ok:QH σ
 reg:∀ c∈L,c.aj=false->m5 σ c
 only:∀ i s,σ.aQ i=some s->∃ c∈L,c.aj=false/\∃ v∈c.ah,v.h.g=i/\s=eL v.h c.G
theorem KZ.nil{σ:Gh}(h:pN σ):KZ σ []:=⟨h.ok,by simp,λi s e=>by rw[h.no]at e;cases e⟩
theorem CV.IZ{c c':CV}(hG:c'.G=c.G)(hh:c'.ah.map (·.h)=c.ah.map (·.h)):c'.chans=c.chans:=by
 unfold CV.chans;rw[hG]
 congr 1
 have:∀ l:List HV,l.flatMap HV.chans=(l.map (·.h)).flatMap λh=>[h.wk,h.rd]:=λl=>by simp[List.flatMap_map];rfl
 rw[this,this,hh]
theorem KZ.set{σ:Gh}{L:List CV}(h:KZ σ L){i:Nat}(hi:i<L.length){c':CV}(hG:c'.G=L[i].G)(hh:c'.ah.map (·.h)=L[i].ah.map (·.h))(dI:c'.aj=L[i].aj):KZ σ (L.set i c'):=by
 refine⟨h.ok,λc hc hs=>?_,λj s e=>?_⟩
 ·rcases iL hc with hc|rfl
  ·exact h.reg c hc hs
  ·exact(h.reg _ (dp hi) (dI▸hs)).same hG hh
 ·obtain⟨c,hc,h1,v,hv,h2,h3⟩:=h.only j s e;obtain⟨q,hq,rfl⟩:=mN hc;by_cases z:q=i
  ·subst z;have:v.h∈L[q].ah.map (·.h):=wQ hv;rw[<- hh]at this;obtain⟨u,hu,e2⟩:=bM.1 this;refine⟨c',Bo.2 ⟨q,by simpa using hq,by simp⟩,dI.trans h1,u,hu,by rw[e2];exact h2,by rw[e2,hG];exact h3⟩
  ·exact⟨L[q],Bo.2 ⟨q,by simpa using hq,by rw[JF ai]⟩,h1,v,hv,h2,h3⟩
theorem CV.lU{c:CV}{v:HV}(hv:v∈c.ah):v.h.wk∈c.chans/\v.h.rd∈c.chans/\c.G.dn∈c.chans:=by refine⟨ks _ (Ll.2 ⟨v,hv,by simp[HV.chans]⟩),ks _ (Ll.2 ⟨v,hv,by simp[HV.chans]⟩),jU _ (by simp)⟩
theorem CV.aca{c:CV}(nd:c.chans.Nodup){v u:HV}(hv:v∈c.ah)(hu:u∈c.ah):v.h.rd≠u.h.wk/\v.h.rd≠c.G.dn:=by
 have h1:=il.1 nd;refine⟨λe=>?_,λe=>h1.2.2 _ (Ll.2 ⟨v,hv,by simp[HV.chans]⟩) _ (dL.2 rfl) e⟩;have h2:=h1.1;obtain⟨p,hp,rfl⟩:=mN hv;obtain⟨q,hq,rfl⟩:=mN hu;have h3:=List.pairwise_flatMap.1 h2;by_cases z:p=q
 ·subst z;have:=h3.1 _ (dp hp);simp[HV.chans]at this;exact this e.symm
 ·have hpw:=yz.1 h3.2;rcases Nat.lt_or_gt_of_ne z with z|z
  ·exact hpw p q hp hq z c.ah[p].h.rd (by simp[HV.chans]) _ (by simp[HV.chans]) e
  ·exact hpw q p hq hp z _ (by simp[HV.chans]) c.ah[p].h.rd (by simp[HV.chans]) e.symm
theorem nN{c:CV}{v:HV}(hv:v∈c.ah){x:Nat}(h:(eL v.h c.G).has x):x∈c.chans:=by
 rcases nb.1 h with rfl|rfl
 ·exact(CV.lU hv).1
 ·exact(CV.lU hv).2.2
theorem KZ.new{σ σ':Gh}{L:List CV}(h:KZ σ L){c:CV}(N:rT σ σ' c.G c.ah)(hn:1<=c.ah.length/\c.ah.length<=4)(hs:c.aj=false)(nd:((L++[c]).flatMap CV.chans).Nodup):KZ σ' (L++[c]):=by
 have nd1:(L.flatMap CV.chans).Nodup/\c.chans.Nodup/\∀ a∈L.flatMap CV.chans,∀ b∈c.chans,a≠b:=by rw[List.flatMap_append]at nd;have:=il.1 nd;simpa using this
 have ZM:∀ c'∈L,∀ x∈c'.chans,x∉c.chans:=λc' kI x hx fb=>nd1.2.2 x (Ll.2 ⟨c',kI,hx⟩) x fb rfl;have hold:∀ i s,σ.aQ i=some s->i<σ.n/\σ'.aQ i=some s:=λi s e=>by have:=h.ok.lt i s e;exact⟨this,by rw[N.old i this];exact e⟩
 have key:∀ i s,σ'.aQ i=some s->(i<σ.n/\σ.aQ i=some s)\/(σ.n<=i/\∃ v∈c.ah,v.h.g=i/\s=eL v.h c.G):=λi s e=>by
  rcases lH i σ.n with h1|h1
  ·rw[N.old i h1]at e;exact .inl ⟨h1,e⟩
  ·exact .inr ⟨h1,N.new i s h1 e⟩
 refine⟨⟨by have:=N.n;have:=h.ok.n;omega,λi s e=>?_⟩,λc' kI hs=>?_,λi s e=>?_⟩
 ·rcases key i s e with⟨h1,_⟩|⟨_,v,hv,rfl,_⟩
  ·have:=N.n;omega
  ·exact(N.has v hv).2.2
 ·rcases bS.1 kI with kI|kI
  ·have r:=h.reg c' kI hs;refine⟨⟨λv hv=>(hold _ _ (r.aQ v hv)).2,r.nd,λi s e hd=>?_,λv hv i s e hd=>?_,r.wd,(N.sh _).2 (.inl r.sh7),(N.sh _).2 (.inl r.sh8),r.n⟩,λv hv i s e hd=>?_⟩
   ·rcases key i s e with⟨_,e⟩|⟨_,u,hu,_,rfl⟩
    ·exact r.only i s e hd
    ·obtain⟨v,hv⟩:=UD _ (List.ne_nil_of_length_pos (show 0<c'.ah.length by have:=r.n;omega));exact absurd (nN hu hd) (ZM c' kI _ (CV.lU hv).2.2)
   ·rcases key i s e with⟨_,e⟩|⟨_,u,hu,_,rfl⟩
    ·exact r.wk v hv i s e hd
    ·exact absurd (nN hu hd) (ZM c' kI _ (CV.lU hv).1)
   ·rcases key i s e with⟨_,e⟩|⟨_,u,hu,_,rfl⟩
    ·exact r.rdn v hv i s e hd
    ·exact absurd (nN hu hd) (ZM c' kI _ (CV.lU hv).2.1)
  ·obtain rfl:=dL.1 kI;refine⟨⟨λv hv=>(N.has v hv).1,N.gnd,λi s e hd=>?_,λv hv i s e hd=>?_,N.wd,(N.sh _).2 (.inr (.inl rfl)),(N.sh _).2 (.inr (.inr rfl)),hn⟩,λv hv i s e hd=>?_⟩
   ·rcases key i s e with⟨_,e⟩|⟨_,u,hu,h2,_⟩
    ·exact absurd hd (N.fd i s e)
    ·exact⟨u,hu,h2⟩
   ·rcases key i s e with⟨_,e⟩|⟨_,u,hu,rfl,rfl⟩
    ·exact absurd hd (N.fw v hv i s e)
    ·rcases nb.1 hd with h2|h2
     ·have nd:=N.wnd;obtain⟨p,hp,rfl⟩:=mN hv;obtain⟨q,hq,rfl⟩:=mN hu;have:p=q:=(List.getElem_inj (h₀:=by simpa using hp) (h₁:=by simpa using hq) nd).1 (by simpa using h2);subst this;rfl
     ·exact absurd h2 (N.wd v hv)
   ·rcases key i s e with⟨_,e⟩|⟨_,u,hu,_,rfl⟩
    ·obtain⟨c2,P8,_,u,hu,_,rfl⟩:=h.only i s e;exact ZM c2 P8 _ (nN hu hd) (CV.lU hv).2.1
    ·have:=CV.aca nd1.2.1 hv hu;rcases nb.1 hd with h2|h2
     ·exact this.1 h2
     ·exact this.2 h2
 ·rcases key i s e with⟨_,e⟩|⟨_,u,hu,h2,h3⟩
  ·obtain⟨c2,P8,h1,h2⟩:=h.only i s e;exact⟨c2,ks _ P8,h1,h2⟩
  ·exact⟨c,by simp,hs,u,hu,h2,h3⟩
theorem KZ.stop{σ:Gh}{L:List CV}(h:KZ σ L){i:Nat}(hi:i<L.length)(nd:(L.flatMap CV.chans).Nodup):KZ (if L[i].aj then σ else σ.gX L[i].ids) (L.set i {L[i]with aj:=true}):=by
 have ZM:∀ (p q:Nat) (hp:p<L.length) (hq:q<L.length),p≠q->∀ x∈L[p].chans,x∉L[q].chans:=λp q hp hq z x hx fb=>by
  have h3:=yz.1 (List.pairwise_flatMap.1 nd).2;rcases Nat.lt_or_gt_of_ne z with z|z
  ·exact h3 p q hp hq z x hx x fb rfl
  ·exact h3 q p hq hp z x fb x hx rfl
 by_cases hs:L[i].aj=true
 ·rw[aG hs];exact h.set hi rfl rfl hs.symm
 ·rw[ax hs];have hs:L[i].aj=false:=by simpa using hs
  have ri:=h.reg _ (dp hi) hs;have key:∀ j s,(σ.gX L[i].ids).aQ j=some s->σ.aQ j=some s/\j∉L[i].ids:=λj s e=>by
   have e:(if j∈L[i].ids then none else σ.aQ j)=some s:=e;split at e
   ·cases e
   ·exact⟨e,by assumption⟩
  refine⟨⟨h.ok.n,λj s e=>h.ok.lt j s (key j s e).1⟩,λc hc sQ=>?_,λj s e=>?_⟩
  ·obtain⟨q,hq,rfl⟩:=mN hc;have AN:q<L.length:=by simpa using hq
   by_cases z:q=i
   ·subst z;rw[JE]at sQ;cases sQ
   ·rw[JF ai]at sQ⊢;have r:=h.reg _ (dp AN) sQ;refine⟨⟨λv hv=>?_,r.nd,λj s e hd=>r.only j s (key j s e).1 hd,λv hv j s e hd=>r.wk v hv j s (key j s e).1 hd,r.wd,r.sh7,r.sh8,r.n⟩,λv hv j s e hd=>r.rdn v hv j s (key j s e).1 hd⟩;have h1:=r.aQ v hv;have h2:v.h.g∉L[i].ids:=λhm=>by
     obtain⟨u,hu,e2⟩:=bM.1 hm;have h3:=ri.aQ u hu;rw[e2,h1]at h3;have h4:(eL u.h L[i].G).has v.h.wk:=by rw[<- bR h3];exact nb.2 (.inl rfl)
     exact ZM q i AN hi z _ (CV.lU hv).1 (nN hu h4)
    show(if v.h.g∈L[i].ids then none else σ.aQ v.h.g)=_;rw[ax h2];exact h1
  ·obtain⟨h1,h2⟩:=key j s e;obtain⟨c,hc,h3,v,hv,h4,h5⟩:=h.only j s h1;obtain⟨q,hq,rfl⟩:=mN hc;have z:q≠i:=λz=>by subst z;exact h2 (bM.2 ⟨v,hv,h4⟩)
   exact⟨L[q],Bo.2 ⟨q,by simpa using hq,by rw[JF ai]⟩,h3,v,hv,h4,h5⟩
theorem KZ.idle{σ:Gh}{L:List CV}(h:KZ σ L)(hs:∀ c∈L,c.aj=true):pN σ:=⟨h.ok.n,λi=>by
 cases e:σ.aQ i with
 |none=>rfl
 |some s=>
  obtain⟨c,hc,h1,_⟩:=h.only i s e;rw[hs c hc]at h1;cases h1⟩
variable{P:bL}{ao:Bool}{B:kJ}{R:Nat->aM->Array Obj->Prop}{d:Nat}{As W L:List HP}
variable{fn:bJ}{kd:Kd}{n:Nat}{e:Nat->Value}{ds:List eo}{k:List Item}{cs:List Frame}
variable{ops:Array Oper}{i:Nat}{aa:List Nat}{ty:aO}{pos:String}{af:Array Edge}{gd:Option (Nat×Bool)}{x:cZ}{v:Value}{b off:Nat}{c:Array Value}{el tt:aO}
variable{I I' I'':HL}{c c':CV}{w w':WV}
theorem Ue{eb:Nat->Nat×Nat}{ops:List bP}{er:Option Nat}{tt:Int}{iu:List dM}{iv:List uC}(hQ:(c.aj=true/\er=some 8/\tt=0/\iu=c.aK/\iv=c.aF/\I'=I)\/(c.aj=false/\IC eb I c.ah.length ops c.aK c.aF er tt I' iu iv)):
  ((CV.abs {c with aK:=iu,aF:=iv},tt,Ai er):WP×Int×Int)=pD c.abs ops:=by
 unfold pD;rcases hQ with⟨h1,rfl,rfl,rfl,rfl,_⟩|⟨h1,_,⟨h2,rfl,rfl,rfl,rfl⟩|⟨h2,h3,rfl,rfl,rfl,rfl⟩|⟨h2,h3,rfl,rfl,s7,_,rfl,rfl⟩⟩
 ·rw[aG (show c.abs.aj=true from h1)];rfl
 ·rw[ax (show¬ c.abs.aj=true by rw[show c.abs.aj=c.aj from rfl,h1];decide),aG h2];rfl
 ·rw[ax (show¬ c.abs.aj=true by rw[show c.abs.aj=c.aj from rfl,h1];decide),ax (by simpa using h2),aG (by simpa[CV.abs]using h3)];rfl
 ·rw[ax (show¬ c.abs.aj=true by rw[show c.abs.aj=c.aj from rfl,h1];decide),ax (by simpa using h2),ax (by simpa[CV.abs]using h3)];unfold oa;simp[CV.abs,Ai,Ae]
theorem acb{eb:Nat->Nat×Nat}{ops:List bP}{er:Option Nat}{tt:Int}{iu:List dM}{iv:List uC}(hJ:uD I c)(hQ:(c.aj=true/\er=some 8/\tt=0/\iu=c.aK/\iv=c.aF/\I'=I)\/(c.aj=false/\IC eb I c.ah.length ops c.aK c.aF er tt I' iu iv)):
  Sub I I'/\uD I' {c with aK:=iu,aF:=iv}:=by
 rcases hQ with⟨h1,rfl,rfl,rfl,rfl,rfl⟩|⟨h1,hs,⟨h2,rfl,rfl,rfl,rfl⟩|⟨h2,h3,rfl,rfl,rfl,rfl⟩|⟨h2,h3,rfl,rfl,s7,h7,rfl,rfl⟩⟩
 ·exact⟨Sub.refl _,hJ⟩
 ·exact⟨hs,hJ.mono hs⟩
 ·exact⟨hs,hJ.mono hs⟩
 ·refine⟨hs,λm hm=>?_,λx hx=>?_,(hJ.mono hs).sh⟩
  ·rcases bS.1 hm with hm|hm
   ·exact(hJ.mono hs).aK m hm
   ·obtain rfl:=dL.1 hm;exact⟨h7,.inl ⟨rfl,rfl⟩,nl 20⟩
  ·rcases bS.1 hx with hx|hx
   ·exact(hJ.mono hs).aF x hx
   ·obtain rfl:=dL.1 hx;exact⟨h7,.inl ⟨rfl,rfl⟩,nl 20⟩
end
section
open Go.Proofs Go.Conc
structure PaV where
 c:CV
 w:WV
 bw:Nat
theorem DY(w:WP)(k i:Int):(iH w k i).1.aj=w.aj:=by
 unfold iH;split
 ·rfl
 split
 ·rfl
 split
 ·split<;>rfl
 dsimp only;split
 ·rfl
 split
 ·rfl
 split
 ·rfl
 ·split<;>rfl
theorem Uf(w:WP)(k a b:Int):(gp w k a b).1.aj=w.aj:=by
 unfold gp;split
 ·rfl
 split
 ·rfl
 split
 ·split
  ·rfl
  split
  ·rfl
  ·unfold oa;split<;>rfl
 split
 ·exact DY ..
 split
 ·rfl
 split
 ·rfl
 split
 ·split<;>rfl
 split
 ·rfl
 split
 ·rfl
 split
 ·split<;>rfl
 ·rfl
section
variable{R:Nat->aM->Array Obj->Prop}{d:Nat}{As W:List HP}{g:aM}{L:List PaV}{q:Nat}
end
section
variable{σ σ':Gh}{I I':HL}{T q:Nat}{L:List PaV}{c c':CV}{w w':WV}{bw:Nat}
end
end
section
open Go.Proofs Go.Conc
variable{P:bL}{B:kJ}{H:Array Obj}{d:Nat}
theorem rW{b off:Nat}{c:Array Value}{ty:aO}{fr:Nat×Nat}(h1:hp H b=some (.cells c ty fr))(hs:b<B.bot\/∀ j,B.sh ty j=false):∀ (z i:Nat) (acc:Array Value) {Q:Array Value->Array Obj->Nat->Prop},off+i+z<=c.size->Q (acc++c.extract (off+i) (off+i+z)) H d->dJ P B (loadCellsFrom ⟨b,off,none⟩ i z acc) H d Q
 |0,i,acc,Q,_,q=>by
  unfold loadCellsFrom;refine aA ?_;have:c.extract (off+i) (off+i+0)=#[]:=by simp;omega
  rw[this,xC]at q;exact q
 |z+1,i,acc,Q,hz,q=>by
  unfold loadCellsFrom;refine ae ?_;have du:off+i<c.size:=ai;have h2:∀ {Q:Value->Array Obj->Nat->Prop},Q c[off+i] H d->dJ P B (load ((⟨b,off,none⟩:Addr).add i) .plain) H d Q:=λ{Q} q=>by
   rcases hs with hs|hs
   ·exact BC (c:=c) (ty:=ty) (v:=c[off+i]) (by rw[gY];exact h1) (by rw[gY]) (by rw[gY];exact Ee du) (by rw[gY];exact hs) q
   ·exact uS (c:=c) (ty:=ty) (v:=c[off+i]) (by rw[gY];exact h1) (by rw[gY]) (by rw[gY];exact Ee du) (λ_=>hs _) q
  refine h2 ?_;refine rW h1 hs z (i+1) _ ai ?_;have:acc.push c[off+i]++c.extract (off+(i+1)) (off+(i+1)+z)=acc++c.extract (off+i) (off+i+(z+1)):=by
   apply sJ;intro j;simp only[V1,Ld,NQ,V2];by_cases h1:j<acc.size
   ·simp[h1,Nat.lt_succ_of_lt h1,uE h1]
   ·by_cases h2:j=acc.size
    ·subst h2;simp;omega
    ·have:¬ j<acc.size+1:=ai;simp only[this,h1,eR,h2];have e1:off+(i+1)+(j-(acc.size+1))=off+i+(j-acc.size):=ai;rw[e1]
     congr 1
     simp only[eq_iff_iff];omega
  rw[this];exact q
theorem I5{c:Array Value}{p z:Nat}{l:List Value}(hl:l.length=z)(hz:0<z)(h:∀ o,o<z->c[p+o]? =l[o]?):p+z<=c.size/\c.extract p (p+z)=l.toArray:=by
 have h1:p+z<=c.size:=by have:=h (z-1) ai;rw[cK ai]at this;have:=(gV.1 this).1;omega
 refine⟨h1,sJ λj=>?_⟩;rw[V2,show l.toArray[j]? =l[j]? by simp];by_cases hj:j<z
 ·rw[aG ai,h j hj]
 ·rw[ax ai,wR (l:=l) ai]
variable{ao:Bool}{R:Nat->aM->Array Obj->Prop}{As W L:List HP}
variable{fn:bJ}{kd:Kd}{n:Nat}{e:Nat->Value}{ds:List eo}{k:List Item}{cs:List Frame}
variable{ops:Array Oper}{i:Nat}{aa:List Nat}{t:Nat}{ty:aO}{pos:String}{af:Array Edge}{gd:Option (Nat×Bool)}{x:cZ}{v:Value}{b off:Nat}{c:Array Value}{el tt:aO}
theorem ab.afO(C:ab P ao B R){fr:Nat×Nat}{z:Nat}{l:List Value}[Ag P tt true][Cz P tt z](hk:Kn As b (.cells c el fr))(hs:b<B.bot\/∀ j,B.sh el j=false)(hc:off+z<=c.size/\c.extract off (off+z)=l.toArray)(ho:aZ ops i=some ⟨some t,.load tt x,ty,pos,af,gd⟩)(h:At R d As (gr fn kd n (put e t (.agg l.toArray)) ds (.inRegion ops aa::k) cs))
  (hx:ev n e x=.pointer (some ⟨b,off,none⟩):=by rfl) (hw:aL ops n e gd=true:=by rfl):At R d As (gr fn kd n e ds (.inRegion ops (i::aa)::k) cs):=
 C.gen ho hw λH st=>by unfold execOp;simp only[hx,Instr.loadAt,Instr.sureAddr];refine ae (ae (aA ?_));unfold loadVar;refine ae (yW B H d _ ?_);simp only[eN];refine ae (iy B H d _ (ae ?_));unfold loadCells;refine rW (off:=off) (hk _ st) hs z 0 #[] ai ?_;simp only[Nat.add_zero,AL];rw[hc.2];exact⟨As,st,h⟩
end
section
open Go.Proofs
variable{ao:Bool}
def Am(lg:az)(b:Nat)(s:di):HP:=λh=>∃ wt ot tm:az,∃ bv bl bp bd be bu:Nat,∃ tl:List kz,py s.timers s.order tl/\all (L1 b s lg wt ot tm bv bl bp bd be bu tl []) h
variable{R:Nat->aM->Array Obj->Prop}{d:Nat}{As F L:List HP}{g:aM}{b:Nat}{s:di}{lg:az}
theorem Am.opn(hf:Fo (Am lg b s) As L:=by exact Fo.au)(h:∀ (wt ot tm:az) (bv bl bp bd be bu:Nat) (tl:List kz),py s.timers s.order tl->At R d (L1 b s lg wt ot tm bv bl bp bd be bu tl L) g):At R d As g:=by refine At.fo hf λH st=>?_;obtain⟨wt,st⟩:=st.ex;obtain⟨ot,st⟩:=st.ex;obtain⟨tm,st⟩:=st.ex;obtain⟨bv,st⟩:=st.ex;obtain⟨bl,st⟩:=st.ex;obtain⟨bp,st⟩:=st.ex;obtain⟨bd,st⟩:=st.ex;obtain⟨be,st⟩:=st.ex;obtain⟨bu,st⟩:=st.ex;obtain⟨tl,st⟩:=st.ex;obtain⟨ht,st⟩:=st.pure;exact h wt ot tm bv bl bp bd be bu tl ht H st.flat
theorem Am.cls{c:Array Value}(s:di)(h:At R d (Am lg b s::F) g){wt ot tm:az}{bv bl bp bd be bu:Nat}{tl:List kz}(ht:py s.timers s.order tl:=by assumption)(hf:Fo (da b (.cells c 156 (0,0))) As L:=by exact Fo.au)
  (hc:c=#[aD s.me,aD s.n,.bool s.up,lg.v,aD s.aH,.map (some bv),.map (some bl),.map (some bp),.map (some bd),.map (some be),.map (some bu),tm.v,aD s.order,aD s.clock,wt.v,ot.v]:=by rfl)
  (hr:fg [bG oO 1 238 lg s.log,db .u8 fC bv s.values,db .u8 dV bl s.aX,db .i64 uf bp s.pend,db .i64 pJ bd s.done,db .i64 pJ be s.bF,db .i64 wF bu s.bY,all (s.bY.map qP),
   bG sE 4 229 tm tl,bG dt 7 159 wt s.waits,bG dt 7 159 ot s.out] L F:=by exact fg.au):At R d As g:=by
 subst hc;refine At.perm (hf.perm.trans (hr.perm.cons _)) λH st=>h H ?_;exact Sat.imp (λhh x=>⟨wt,ot,tm,bv,bl,bp,bd,be,bu,tl,ht,x⟩) (Sat.iC (l:=L1 b s lg wt ot tm bv bl bp bd be bu tl []) st)
theorem Yn{I:HL}{b:Nat}{s:di}{lg:az}{so:az}{ops:List bP}{tx home pl:Int}(ho:fI I cS 37 so ops)(hb:mA ops):
  aI prog ao cH 151 #[ay b,aD tx,aD home,so.v,aD pl] [Am lg b s,bD I] (λv As=>As=[Am lg b (vy s tx home ops so pl),bD I]):=by
 have hl:=hb.2;refine aI.of λR C kd d F c cs aT ak=>?_;refine cr ?_;refine Am.opn (h:=λwt ot tm bv bl bp bd be bu tl ht=>?_);refine gu ?_;refine C.cu (X:=Nat×List (Int×Int)) (λx=>[(0,ay b),(1,aD tx),(2,aD home),(3,so.v),(4,aD pl),(12,so.v),(13,aD ops.length),(14,aD x.1)]) (λx=>L1 b {s with aX:=x.2} lg wt ot tm bv bl bp bd be bu tl (bD I::F)) (λx=>x.1<=ops.length/\x.2=(ops.take x.1).foldl (λl o=>bB l o.k tx) s.aX) (λx=>ops.length-x.1) (0,s.aX) ⟨rfl,rfl,rfl,rfl,rfl,rfl,rfl,rfl,trivial⟩ ⟨eW _,rfl⟩ ?_ (hI:=.refl);rintro⟨i,lk⟩ e ⟨hi,oI⟩ ih;dsimp only at hi oI⊢;refine bH ?_;refine C.cmp rfl (λsF=>?_) (λsF=>?_)
 ·refine bH ?_;have ee:i<ops.length:=by simpa using sF
  refine bH ?_;refine C.xR rfl (λhj=>?_);refine C.al rfl (λwH=>?_);refine C.tL rfl ?_ (hv:=λv h=>iD.one (f:=cS) ops[i] v (by simpa using h));refine C.go ?_;refine C.dx (cW 18 0 8) 9 [8] 0 ?_;refine Xg ?_;refine Ch.m 8 (aY λe aa hk=>?_);refine C.mu (w:=tx) (l:=lk) (q:=ops[i].k) rfl (hk _ undef ?_);refine zI ?_;refine again ih (i+1,bB lk ops[i].k tx) ⟨ee,?_⟩ (dq);rw[iM ee,kM,<- oI];rfl
 ·refine bH ?_;have e1:ops.take i=ops:=jD (by simp at sF;omega);rw[e1]at oI;subst oI;refine lI ?_;refine C.mu (w:=qO.mk pl home ops so) (l:=s.pend) (q:=tx) rfl ?_;refine C.go ?_;refine Am.cls (vy s tx home ops so pl) ?_;exact C.eJ aT ak rfl
theorem Q2{I:HL}{b:Nat}{s:di}{lg:az}{tx pl:Int}{yes:Bool}(hJ:ShJ I s)(hb:(jz s tx).ops.length<2^30):
  aI prog ao cH 152 #[ay b,aD tx,.bool yes,aD pl] [Am lg b s,bD I] (λv As=>As=[Am lg b (mZ s tx yes pl),bD I]):=by
 refine aI.of λR C kd d F c cs aT ak=>?_;refine cr ?_;refine Am.opn (h:=λwt ot tm bv bl bp bd be bu tl ht=>?_);have Xx:=KG s tx;have ho:=hJ.jz tx;have hfx:mZ s tx yes pl={s with values:=(jz s tx).ops.foldl (λv o=>if yes&&o.w then bB v o.k o.v else v) s.values,aX:=(jz s tx).ops.foldl (λl o=>dT l o.k) s.aX,pend:=dT s.pend tx,done:=bB s.done tx ⟨pl,yes⟩}:=rfl;rw[hfx]at ak;clear hfx;generalize jz s tx=p at Xx ho hb ak;obtain⟨ppl,ph,ops,so⟩:=p;dsimp only at ho hb ak;refine nT ?_;refine C.Fh Xx rfl ?_;refine C.al rfl (λb8=>?_);refine nT ?_;refine C.cu (X:=Nat×List (Int×Int)×List (Int×Int)) (λx=>[(0,ay b),(1,aD tx),(2,.bool yes),(3,aD pl),(19,so.v),(20,aD ops.length),(21,aD x.1)]) (λx=>L1 b {s with values:=x.2.1,aX:=x.2.2} lg wt ot tm bv bl bp bd be bu tl (bD I::F)) (λx=>x.1<=ops.length/\x.2.1=(ops.take x.1).foldl (λv o=>if yes&&o.w then bB v o.k o.v else v) s.values/\x.2.2=(ops.take x.1).foldl (λl o=>dT l o.k) s.aX) (λx=>ops.length-x.1) (0,s.values,s.aX) ⟨rfl,rfl,rfl,rfl,rfl,rfl,rfl,trivial⟩ ⟨eW _,rfl,rfl⟩ ?_;rintro⟨i,va,lk⟩ e ⟨hi,L9,oI⟩ ih;dsimp only at hi L9 oI⊢;refine bH ?_;refine C.cmp rfl (λMa=>?_) (λMa=>?_)
 ·refine bH ?_;have ee:i<ops.length:=by simpa using Ma
  refine bH ?_;refine C.xR rfl (λhj=>?_);refine C.al rfl (λZy=>?_);refine C.tL rfl ?_ (hv:=λv h=>iD.one (f:=cS) ops[i] v (by simpa using h));refine dX ?_;rcases nj yes with rfl|rfl
  ·refine bH ?_;generalize hw:ops[i].w=z;rcases nj z with rfl|rfl
   ·refine dK ?_;refine C.dx (cW 30 0 9) 10 [9] 0 ?_;refine R0 ?_;refine Ch.m 9 (aY λe aa hk=>?_);refine C.mu (w:=ops[i].v) (l:=va) (q:=ops[i].k) rfl (hk _ undef ?_);refine fP ?_;refine C.dx (cW 39 0 7) 8 [7] 0 ?_;refine To ?_;refine Ch.m 7 (aY λe aa hk=>?_);refine C.dl (l:=lk) (q:=ops[i].k) rfl (hk _ undef ?_);refine zI ?_;refine again ih (i+1,bB va ops[i].k ops[i].v,dT lk ops[i].k) ⟨ee,?_,?_⟩ (dq)
    ·rw[iM ee,kM,<- L9,mE,wU,aG (by rw[hw];rfl)]
    ·rw[iM ee,kM,<- oI];rfl
   ·refine dK ?_;refine C.dx (cW 39 0 7) 8 [7] 0 ?_;refine To ?_;refine Ch.m 7 (aY λe aa hk=>?_);refine C.dl (l:=lk) (q:=ops[i].k) rfl (hk _ undef ?_);refine zI ?_;refine again ih (i+1,va,dT lk ops[i].k) ⟨ee,?_,?_⟩ (dq)
    ·rw[iM ee,kM,<- L9,mE,wU,ax (by rw[hw];decide)]
    ·rw[iM ee,kM,<- oI];rfl
  ·refine eP ?_;refine C.dx (cW 39 0 7) 8 [7] 0 ?_;refine To ?_;refine Ch.m 7 (aY λe aa hk=>?_);refine C.dl (l:=lk) (q:=ops[i].k) rfl (hk _ undef ?_);refine zI ?_;refine again ih (i+1,va,dT lk ops[i].k) ⟨ee,?_,?_⟩ (dq)
   ·rw[iM ee,kM,<- L9,mE,wU,ax (by simp)]
   ·rw[iM ee,kM,<- oI];rfl
 ·refine bH ?_;have e1:ops.take i=ops:=jD (by simp at Ma;omega);rw[e1]at L9 oI;subst L9 oI;refine gU ?_;refine C.dl rfl ?_;refine lI ?_;refine C.mu (w:=ic.mk pl yes) (l:=s.done) (q:=tx) rfl ?_;refine C.go ?_;refine Am.cls {s with values:=ops.foldl (λv o=>if yes&&o.w then bB v o.k o.v else v) s.values,aX:=ops.foldl (λl o=>dT l o.k) s.aX,pend:=dT s.pend tx,done:=bB s.done tx ⟨pl,yes⟩} ?_;exact C.eJ aT ak rfl
def Ug(s:di)(i:Nat):ik->di
 |.cg tx home ops so=>vy s tx home ops so i
 |.dec tx yes _ _=>{s with bF:=bB s.bF tx ⟨i,yes⟩}
 |.jX tx yes=>mZ s tx yes i
def xZ(log:List ik):Nat->di->di
 |0,s=>s
 |i+1,s=>match log[i]? with|none=>xZ log i s|some e=>Ug (xZ log i s) i e
theorem Q3(s:di)(i:Nat)(e:ik):(Ug s i e).abs=y9 s.abs i e.abs:=by
 cases e with
 |cg tx home ops so=>exact Cn s tx home ops so i
 |dec tx yes r sr=>rfl
 |jX tx yes=>exact xp s tx yes i
theorem DZ(log:List ik)(s:di):∀ i,(xZ log i s).abs=kW (log.map (·.abs)) i s.abs
 |0=>rfl
 |i+1=>by
  unfold xZ kW;rw[fH];cases h:log[i]? with
  |none=>exact DZ log s i
  |some e=>
   show(Ug (xZ log i s) i e).abs=y9 _ i e.abs;rw[Q3,DZ log s i]
structure RpS(s z:di):Prop where
 me:z.me=s.me
 n:z.n=s.n
 up:z.up=s.up
 log:z.log=s.log
 aH:z.aH=s.aH
 bY:z.bY=s.bY
 timers:z.timers=s.timers
 order:z.order=s.order
 clock:z.clock=s.clock
 waits:z.waits=s.waits
 out:z.out=s.out
theorem GD(log:List ik)(s:di):∀ i,RpS s (xZ log i s)
 |0=>⟨rfl,rfl,rfl,rfl,rfl,rfl,rfl,rfl,rfl,rfl,rfl⟩
 |i+1=>by
  have ih:=GD log s i;unfold xZ;cases h:log[i]? with
  |none=>exact ih
  |some e=>cases e<;>exact⟨ih.1,ih.2,ih.3,ih.4,ih.5,ih.6,ih.7,ih.8,ih.9,ih.10,ih.11⟩
structure Q4(I:HL)(s:di):Prop where
 o:∀ p∈s.pend,fI I cS 37 p.2.so p.2.ops/\mA p.2.ops
theorem CB{W:Type}{m:List (Int×W)}{k:Int}{v:W}{q:Int×W->Prop}(h:∀ p∈m,q p)(hv:q (k,v)):∀ p∈bB m k v,q p:=λp hp=>by
 rcases eE hp with rfl|h1
 ·exact hv
 ·exact h p h1
theorem VM{I:HL}{log:List ik}(jL:∀ e∈log,e.J I)(cN:∀ tx home ops so,ik.cg tx home ops so∈log->mA ops){s:di}(hJ:ShJ I s)(hQ:Q4 I s):∀ i,ShJ I (xZ log i s)/\Q4 I (xZ log i s)
 |0=>⟨hJ,hQ⟩
 |i+1=>by
  have ih:=VM jL cN hJ hQ i;unfold xZ;cases h:log[i]? with
  |none=>exact ih
  |some e=>
   have hm:=dg h;have he:=jL e hm;cases e with
   |cg tx home ops so=>
    have ho:=cN tx home ops so hm;exact⟨⟨ih.1.log,CB ih.1.pend he.1,ih.1.bY,ih.1.waits,ih.1.out⟩,⟨CB ih.2.o ⟨he.1,ho⟩⟩⟩
   |dec tx yes r sr=>exact⟨⟨ih.1.log,ih.1.pend,ih.1.bY,ih.1.waits,ih.1.out⟩,⟨ih.2.o⟩⟩
   |jX tx yes=>exact⟨ih.1.fin tx yes i,⟨λp hp=>ih.2.o p (vc hp)⟩⟩
theorem Q4.at{I:HL}{s:di}(h:Q4 I s)(tx:Int):(jz s tx).ops.length<2^30:=by
 unfold jz;cases hg:aB s.pend tx with
 |none=>exact nl 30
 |some p=>
  have:p.ops.length<2^20:=(h.o _ (bQ hg)).2.2;show p.ops.length<2^30;omega
theorem CC{W:Type}{k:Int}{v:W}:∀ (m:List (Int×W)),(bB m k v).length<=m.length+1
 |[]=>by simp[bB]
 |p::m=>by have:=CC (k:=k) (v:=v) m;unfold bB;split<;>simp<;>omega
theorem K0(log:List ik)(s:di):∀ i,(xZ log i s).pend.length<=s.pend.length+i
 |0=>e8 _
 |i+1=>by
  have ih:=K0 log s i;unfold xZ;cases h:log[i]? with
  |none=>show(xZ log i s).pend.length<=_;omega
  |some e=>
   cases e with
   |cg tx home ops so=>have:=CC (k:=tx) (v:=qO.mk i home ops so) (xZ log i s).pend;show(bB (xZ log i s).pend tx _).length<=_;omega
   |dec tx yes r sr=>show(xZ log i s).pend.length<=_;omega
   |jX tx yes=>have:=List.Sublist.length_le (uU (k:=tx) (l:=(xZ log i s).pend));show(dT (xZ log i s).pend tx).length<=_;omega
def VN:Prop:=∀ {s:az} {l:List Int},l.length<2^20->aI prog false cH 153 #[s.v] [bG aJ 1 3 s l] (λv As=>As=[bG aJ 1 3 s (jI l)])
abbrev I6(s:di):di:={s with up:=true,values:=[],aX:=[],pend:=[],done:=[],bF:=[],bY:=[],timers:=[],order:=0,clock:=0,waits:=[]}
def Hc(l:List Int)(s:di):di:=l.foldl (λz tx=>jT z tx 3 false) s
theorem K1:∀ (l:List Int) (s:di),(Hc l s).abs=l.foldl (λz tx=>jH z tx 3 false) s.abs
 |[],s=>rfl
 |x::l,s=>by show(Hc l (jT s x 3 false)).abs=_;rw[K1 l,nL];rfl
theorem Q5(l:List Int)(x:Int)(s:di):Hc (l++[x]) s=jT (Hc l s) x 3 false:=by unfold Hc;rw[kM];rfl
structure AlS(s z:di)(k:Nat):Prop where
 log:z.log=s.log
 pend:z.pend=s.pend
 bY:z.bY=s.bY
 waits:z.waits=s.waits
 out:z.out=s.out
 clock:z.clock=s.clock
 order:z.order=s.order+k
 timers:z.timers.length=s.timers.length+k
theorem GF:∀ (l:List Int) (s:di),AlS s (Hc l s) l.length
 |[],s=>⟨rfl,rfl,rfl,rfl,rfl,rfl,(Int.add_zero _).symm,rfl⟩
 |x::l,s=>by
  have h:=GF l (jT s x 3 false);refine⟨h.log,h.pend,h.bY,h.waits,h.out,h.clock,?_,?_⟩
  ·show(Hc l (jT s x 3 false)).order=_;rw[h.order];show s.order+1+(l.length:Int)=s.order+((l.length+1:Nat):Int);omega
  ·show(Hc l (jT s x 3 false)).timers.length=_;rw[h.timers];show(s.timers++[_]).length+l.length=s.timers.length+(l.length+1);rw[gO];simp only[gJ];omega
theorem sorted_perm{l m:List Int}(h:l.Perm m):jI l=jI m:=by
 unfold jI;have tr:∀ a b c:Int,decide (a<=b)=true->decide (b<=c)=true->decide (a<=c)=true:=by intro a b c;simp only[qv];omega
 have to:∀ a b:Int,(decide (a<=b)||decide (b<=a))=true:=by intro a b;simp only[yB,qv];omega
 refine UE (le:=λa b=>decide (a<=b)=true) ?_ (N9 tr to l) (N9 tr to m) (((Oa l _).trans h).trans (Oa m _).symm);intro a b _ _ h1 h2;simp only[qv]at h1 h2;omega
theorem Bg(hS:VN){I:HL}{b:Nat}{s:di}{o a:Int}(hJ:ShJ I s)(hl:s.log.length<2^15)(cN:∀ tx home ops so,ik.cg tx home ops so∈s.log->mA ops)(hC:xn o a s):
  aI prog false cH 97 #[ay b] [dk b s,bD I] (gD b I (o+2^15) (a+1) (jJ s.abs)):=by
 have hJ0:ShJ I (I6 s):=⟨hJ.log,by simp,by simp,by simp,hJ.out⟩;have hQ0:Q4 I (I6 s):=⟨by simp⟩;refine aI.of λR C kd d F c cs aT ak=>?_;refine cr ?_;refine dk.opn (h:=λlg wt ot tm bv bl bp bd be bu tl ht=>?_);refine oT ?_;refine C.fF ug ?_;rintro v aP ⟨bv',bl',bp',bd',be',bu',rfl,rfl⟩;refine Vu ?_;refine C.pS rfl ?_ (s:=lg) (l:=s.log) (f:=oO);refine bH ?_;refine At.aR sE 4 229 (At.aR dt 7 159 ?_);refine At.E0 (show At R d (all (([]:List (Int×fD)).map qP)::_) _ from ?_);refine Am.cls (lg:=lg) (I6 s) (show At R d (Am lg b (xZ s.log 0 (I6 s))::_) _ from ?_) (tl:=[]) (wt:=aR) (tm:=aR) (ht:=py.zero 0);refine C.cu (X:=Nat) (λi=>[(0,ay b),(21,lg.v),(22,aD s.log.length),(23,aD i)]) (λi=>Am lg b (xZ s.log i (I6 s))::bD I::F) (λi=>i<=s.log.length) (λi=>s.log.length-i) 0 ⟨rfl,rfl,rfl,rfl,trivial⟩ (eW _) ?_;intro i e hi ih;obtain⟨ZN,hQi⟩:=VM hJ.log cN (s:=I6 s) hJ0 hQ0 i;have OP:=GD s.log (I6 s) i;refine bH ?_;refine C.cmp rfl (λlJ=>?_) (λlJ=>?_)
 ·refine bH ?_;have ee:i<s.log.length:=ai;have dI:xZ s.log (i+1) (I6 s)=Ug (xZ s.log i (I6 s)) i s.log[i]:=by show(match s.log[i]? with|none=>_|some e=>_)=_;rw[cK ee]
  have W7:=dp ee;have hlg:(xZ s.log i (I6 s)).log=s.log:=OP.log;generalize xZ s.log i (I6 s)=z at*;have hiz:i<z.log.length:=by rw[hlg];exact ee
  have hze:s.log[i]=z.log[i]:=by simp only[hlg]
  rw[hze]at dI W7;refine Am.opn (h:=λwt ot tm bv bl bp bd be bu tl ht=>?_);refine bH ?_;refine C.dQ rfl ?_ (s:=lg) (l:=z.log) (f:=oO) (j:=i);refine C.w7 (v:=(z.log[i]'hiz).val) rfl ?_ (s:=lg) (l:=z.log) (f:=oO) (j:=i) (o:=0);generalize z.log[i]=en at dI W7;rcases en with⟨tx,home,ops,so⟩|⟨tx,yes,reads,sr⟩|⟨tx,yes⟩
  ·refine gU ?_;refine C.ta (ok:=true) underlying240 rfl rfl ?_;refine eP ?_;refine C.al rfl (λb4=>?_);refine lI ?_;refine Am.cls (lg:=lg) z ?_;refine C.fF (Yn (lg:=lg) (so:=so) (pl:=(i:Int)) (hJ.log _ W7).1 (cN tx home ops so W7)) ?_;rintro v aP rfl;refine tV ?_;exact again ih (i+1) ee ai (hr:=by rw[dI];show cV _ (Am lg b (vy z tx home ops so i)::bD I::F);exact cV.au)
  ·refine gU ?_;refine C.taN (t0:=243) underlying240 rfl ⟨_,aC type240,rfl⟩ rfl ?_;refine eP ?_;refine C.ta (ok:=true) underlying243 rfl rfl ?_;refine eP ?_;refine C.al rfl (λb5=>?_);refine bH ?_;refine C.dx (cW 44 0 11) 12 [11] 0 ?_;refine PY ?_;refine Ch.m 11 (aY λe aa hk=>?_);refine C.mu (w:=ic.mk i yes) (l:=z.bF) (q:=tx) rfl (hk _ undef ?_);refine zI ?_;refine Am.cls (lg:=lg) {z with bF:=bB z.bF tx ⟨i,yes⟩} ?_;exact again ih (i+1) ee ai (hr:=by rw[dI];show cV _ (Am lg b {z with bF:=bB z.bF tx ⟨i,yes⟩}::bD I::F);exact cV.au)
  ·refine gU ?_;refine C.taN (t0:=247) underlying240 rfl ⟨_,aC type240,rfl⟩ rfl ?_;refine eP ?_;refine C.taN (t0:=247) underlying243 rfl ⟨_,aC type243,rfl⟩ rfl ?_;refine eP ?_;refine C.ta (ok:=true) underlying247 rfl rfl ?_;refine eP ?_;refine C.al rfl (λb6=>?_);refine oT ?_;refine Am.cls (lg:=lg) z ?_;refine C.fF (Q2 (lg:=lg) (pl:=(i:Int)) ZN (hQi.at tx)) ?_;rintro v aP rfl;refine tV ?_;exact again ih (i+1) ee ai (hr:=by rw[dI];show cV _ (Am lg b (mZ z tx yes i)::bD I::F);exact cV.au)
 ·refine eP ?_;have e1:i=s.log.length:=ai;subst e1;have hza:=DZ s.log (I6 s) s.log.length;have hzl:=K0 s.log (I6 s) s.log.length;generalize xZ s.log s.log.length (I6 s)=z at*;have hzl:z.pend.length<=s.log.length:=by have h:z.pend.length<=0+s.log.length:=hzl;omega
  refine Am.opn (h:=λwt ot tm bv bl bp bd be bu tl ht=>?_);refine At.EU (A:=db .i64 uf bp z.pend) Fo.au vH λmP=>?_;refine gu ?_;refine C.rn (g:=uf) (l:=z.pend) rfl (λb71=>?_);refine C.go ?_;refine At.aR aJ 1 3 ?_;refine C.cu (X:=List (Int×qO)×az) (λx=>[(0,ay b),(7,x.2.v),(71,.pointer (some ⟨b71,0,none⟩))]) (λx=>bG aJ 1 3 x.2 (x.1.reverse.map (·.1))::HN .i64 uf bp b71 z.pend (x.1.map (·.1))::sxC b z lg wt ot tm bv bl bp bd be bu::bG oO 1 238 lg z.log::db .u8 fC bv z.values::db .u8 dV bl z.aX::db .i64 pJ bd z.done::db .i64 pJ be z.bF::db .i64 wF bu z.bY::all (z.bY.map qP)::bG sE 4 229 tm tl::bG dt 7 159 wt z.waits::bG dt 7 159 ot z.out::bD I::F) (λx=>xX z.pend x.1) (λx=>z.pend.length-x.1.length) ([],aR) ⟨rfl,rfl,rfl,trivial⟩ ⟨.nil,λp hp=>(nomatch hp)⟩ ?_ (hI:=by simp only[Ez,l6];exact cV.au);rintro⟨vl,s7⟩ e hc ih;dsimp only at hc⊢;refine bH ?_;refine C.nx (g:=uf) (l:=z.pend) rfl (λk72 w72 m72 h72=>?_) (λh72=>?_)
  ·refine dK ?_;have afQ:=eG mP m72;have kI:=hc.add m72 h72;have wV:=kI.len;have Tp:(vl.reverse.map (·.1)).length=vl.length:=by simp
   simp only[jC]at wV;refine fG ?_;refine C.ent afQ rfl ?_ Fo.au;refine gu ?_;refine C.AV rfl (λb78=>?_);refine C.BI (f:=aJ) (l:=vl.reverse.map (·.1)) k72 rfl (λs8=>?_);refine bH ?_;refine again ih ((k72,w72)::vl,s8) kI (by simp only[jC];omega) (hr:=?_);simp only[JL,eI,gW,l6];exact cV.au
  ·refine dK ?_;refine At.Dj (l:=z.pend) (g:=uf) Fo.au ?_;refine dk.cls z ?_ (lg:=lg);have R5:=((Oe vl).trans (hc.all mP h72)).map (·.1);have Tp:(vl.reverse.map (·.1)).length=z.pend.length:=by rw[R5.length_eq,dW]
   refine bH ?_;refine C.fF (hS (s:=s7) (l:=vl.reverse.map (·.1)) ai) ?_;rintro v aP rfl;refine cr ?_;rw[sorted_perm R5];obtain⟨L,hL⟩:∃ L,L=jI (z.pend.map (·.1)):=⟨_,rfl⟩;have hLl:L.length=z.pend.length:=by rw[hL];unfold jI;simp
   rw[<- hL];refine dK ?_;refine C.pS rfl ?_ (f:=aJ) (s:=s7) (l:=L);refine bH ?_;refine C.cu (X:=Nat) (λx=>[(0,ay b),(82,s7.v),(83,aD L.length),(84,aD x)]) (λx=>bG aJ 1 3 s7 L::dk b (Hc (L.take x) z)::bD I::F) (λx=>x<=L.length) (λx=>L.length-x) 0 ⟨rfl,rfl,rfl,rfl,trivial⟩ (eW _) ?_ (hI:=by rw[show Hc (L.take 0) z=z from rfl];exact cV.au);intro x e hx ih;have has:=GF (L.take x) z;have Gn:(L.take x).length=x:=by rw[jS];omega
   rw[Gn]at has;have h1:=has.order;have h2:=has.timers;have h3:=has.clock;rw[OP.order]at h1;rw[OP.timers]at h2;rw[OP.clock]at h3;have h1:(Hc (L.take x) z).order=0+(x:Int):=h1;have h2:(Hc (L.take x) z).timers.length=0+x:=h2;have h3:(Hc (L.take x) z).clock=0:=h3;refine bH ?_;refine C.cmp rfl (λh85=>?_) (λh85=>?_)
   ·refine bH ?_;have fb:x<L.length:=ai;refine fG ?_;refine C.dQ rfl ?_ (f:=aJ) (s:=s7) (l:=L) (j:=x);refine C.w7 (v:=aD (L[x]'fb)) rfl ?_ (f:=aJ) (s:=s7) (l:=L) (j:=x) (o:=0);refine eP ?_;refine C.fF (kB (s:=Hc (L.take x) z) (tx:=L[x]'fb) (ticks:=3) (again:=false) ai ai ai ai) ?_;rintro v aP rfl;refine tV ?_;exact again ih (x+1) fb ai (hr:=by rw[iM fb,Q5];exact cV.au)
   ·refine bH ?_;have e2:L.take x=L:=jD ai;rw[e2]at has h1 h2 h3⊢;refine C.eJ (aP:=[dk b (Hc L z),bD I]) aT ak ⟨I,Hc L z,Sub.refl _,⟨by rw[has.log];exact ZN.log,by rw[has.pend];exact ZN.pend,by rw[has.bY];exact ZN.bY,by rw[has.waits];exact ZN.waits,by rw[has.out];exact ZN.out⟩,?_,⟨by have:=hC.z;omega,⟨ai,by have:=hC.o;omega⟩,?_⟩,rfl⟩
    ·rw[K1,hza,hL];unfold jJ;dsimp only;have e3:(I6 s).abs=iX {s.abs with up:=true}:=by simp[di.abs,iX]
     have e4:s.abs.log=s.log.map (·.abs):=rfl;have e5:z.pend.map (·.1)=z.abs.pend.map (·.1):=by simp[di.abs]
     rw[e5,hza,e3,e4,dW];rfl
    ·rw[has.bY,OP.bY];simp
end
section
open Go.Proofs Go.Sort
variable{ao:Bool}
theorem Q6{x:Int}:aI prog ao cH 223 #[aD x] [] (λv As=>v=.bool false/\As=[]):=by refine aI.of λR C kd d F c cs aT ak=>?_;refine RZ ?_;refine C.dS rfl ?_;refine bH ?_;exact C.cm aT ak ⟨rfl,rfl⟩
theorem fM{x y:Int}:aI prog ao cH 208 #[aD x,aD y] [] (λv As=>v=.bool (decide (x<y))/\As=[]):=by
 refine aI.of λR C kd d F c cs aT ak=>?_;refine Xe ?_;refine C.cE Q6 (A:=[]) ?_;refine qY ?_;refine nT ?_;refine C.cmp rfl (λsF=>?_) (λsF=>?_)
 ·refine dK ?_;exact C.cm aT ak ⟨by rw[uJ sF],rfl⟩
 ·refine dK ?_;exact C.cm aT ak ⟨by rw[qx sF],rfl⟩
theorem gF{d:Array Int}{i j:Nat}(hi:i<d.size)(hj:j<d.size):(swp d i j).toList=(d.toList.set i (d.toList[j]'(by simpa using hj))).set j (d.toList[i]'(by simpa using hi)):=by unfold swp;simp[hi,hj]
theorem swp_size{d:Array Int}{i j:Nat}:(swp d i j).size=d.size:=by simp[swp]
theorem pP{d:Array Int}{i:Nat}(hi:i<d.size):d[i]! =d.toList[i]'(by simpa using hi):=by simp[hi]
end
section
open Go.Proofs Go.Sort
variable{ao:Bool}
theorem tB{a b i:Nat}{d:Array Int}(h:i<b):insOuter ltInt a b i d=insOuter ltInt a b (i+1) (insInner ltInt a i d):=by
 conv=>lhs;unfold insOuter
 rw[aG h]
theorem D2{a b i:Nat}{d:Array Int}(h:¬ i<b):insOuter ltInt a b i d=d:=by unfold insOuter;rw[ax h]
theorem Q7{s:az}{d:Array Int}{a b:Nat}(ha:a<=b)(hb:b<=d.size)(hl:d.size<2^40):
  aI prog ao cH 202 #[s.v,aD a,aD b] [bG aJ 1 3 s d.toList] (λv As=>As=[bG aJ 1 3 s (insertionSort ltInt d a b).toList]):=by
 refine aI.of λR C kd d0 F c cs aT ak=>?_;refine cr ?_;refine dK ?_;refine C.ar (p:=(a:Int)) (q:=1) (r:=((a+1:Nat):Int)) rfl ?_ (hr:=uy ai ai);refine bH ?_;refine C.cu (X:=Nat×Array Int) (λx=>[(0,s.v),(1,aD a),(2,aD b),(6,aD x.1)]) (λx=>bG aJ 1 3 s x.2.toList::F) (λx=>x.2.size=d.size/\insOuter ltInt a b x.1 x.2=insertionSort ltInt d a b) (λx=>b-x.1) (a+1,d) ⟨rfl,rfl,rfl,rfl,trivial⟩ ⟨rfl,rfl⟩ ?_;rintro⟨i,d1⟩ e ⟨gT,ho⟩ ih;dsimp only at gT ho⊢;refine dX ?_;refine C.cmp rfl (λKH=>?_) (λKH=>?_)
 ·refine gu ?_;have OD:i<b:=ai;refine C.cu (X:=Nat×Array Int) (λx=>[(0,s.v),(1,aD a),(2,aD b),(6,aD i),(7,aD x.1)]) (λx=>bG aJ 1 3 s x.2.toList::F) (λx=>x.1<=i/\x.2.size=d.size/\insInner ltInt a x.1 x.2=insInner ltInt a i d1) (λx=>x.1) (i,d1) ⟨rfl,rfl,rfl,rfl,rfl,trivial⟩ ⟨e8 _,gT,rfl⟩ ?_;rintro⟨j,d2⟩ e ⟨RY,qU,jB⟩ yd;dsimp only at RY qU jB⊢;refine C.go ?_;have Hl:d2.toList.length=d.size:=by simpa using qU
  rcases(show(∃ j',j=j'+1/\a<j'+1)\/¬ a<j from by rcases lH a j with h|h;exact .inl ⟨j-1,ai,ai⟩;exact .inr ai)with⟨j',rfl,hja⟩|hja
  ·refine C.dx (cW 16 0 15) 15 [13,14] 0 ?_;refine kD ?_;refine Dr.p (λh=>C.fA rfl h) ?_;refine sV ?_;refine Dr.l (λhE h=>C.dQ rfl h (s:=s) (l:=d2.toList) (f:=aJ) (j:=j'+1)) ?_;refine Dr.l (v:=aD (d2.toList[j'+1]'(by omega))) (λhE h=>C.dd rfl h (s:=s) (l:=d2.toList) (f:=aJ) (j:=j'+1)) ?_;refine kD ?_;refine Dr.p (v:=aD (j':Int)) (λh=>C.ar (p:=((j'+1:Nat):Int)) (q:=1) (r:=(j':Int)) rfl h (ha:=by show some (((j'+1:Nat):Int)-1)=some (j':Int);rw[show((j'+1:Nat):Int)-1=j' by omega]) (hr:=uy ai ai)) ?_;refine Dr.l (λhE h=>C.dQ rfl h (s:=s) (l:=d2.toList) (f:=aJ) (j:=j')) ?_;refine Dr.l (v:=aD (d2.toList[j']'(by omega))) (λhE h=>C.dd rfl h (s:=s) (l:=d2.toList) (f:=aJ) (j:=j')) ?_;refine Dr.chain rfl ?_;refine Ch.m 13 (aY λe aa hk=>?_);refine C.cE (fM (x:=d2.toList[j'+1]'(by omega)) (y:=d2.toList[j']'(by omega))) (A:=[]) ?_;refine qY ?_;refine hk _ _ ?_;refine Ch.q 14 (λh=>C.pk rfl h) ?_;refine fP ?_;refine C.xQ (λYo=>?_) (λYo=>?_)
   ·refine C.go ?_;refine C.dx (cW 33 0 15++[(48,16)]) 18 [15,16,17] 0 ?_;refine H4 ?_;refine Dr.p (v:=aD (j':Int)) (λh=>C.ar (p:=((j'+1:Nat):Int)) (q:=1) (r:=(j':Int)) rfl h (ha:=by show some (((j'+1:Nat):Int)-1)=some (j':Int);rw[show((j'+1:Nat):Int)-1=j' by omega]) (hr:=uy ai ai)) ?_;refine kD ?_;refine Dr.p (v:=aD (j':Int)) (λh=>C.ar (p:=((j'+1:Nat):Int)) (q:=1) (r:=(j':Int)) rfl h (ha:=by show some (((j'+1:Nat):Int)-1)=some (j':Int);rw[show((j'+1:Nat):Int)-1=j' by omega]) (hr:=uy ai ai)) ?_;refine Dr.l (λhE h=>C.dQ rfl h (s:=s) (l:=d2.toList) (f:=aJ) (j:=j')) ?_;refine Dr.l (v:=aD (d2.toList[j']'(by omega))) (λhE h=>C.dd rfl h (s:=s) (l:=d2.toList) (f:=aJ) (j:=j')) ?_;refine kD ?_;refine Dr.l (λhE h=>C.dQ rfl h (s:=s) (l:=d2.toList) (f:=aJ) (j:=j'+1)) ?_;refine Dr.l (v:=aD (d2.toList[j'+1]'(by omega))) (λhE h=>C.dd rfl h (s:=s) (l:=d2.toList) (f:=aJ) (j:=j'+1)) ?_;refine Dr.l (λhE h=>C.dQ rfl h (s:=s) (l:=d2.toList) (f:=aJ) (j:=j'+1)) ?_;refine Dr.chain rfl ?_;refine Ch.m 15 (aY λe aa hk=>?_);refine C.jA (s:=s) (l:=d2.toList) (f:=aJ) (j:=j'+1) (d2.toList[j']'(by omega)) rfl (hk _ undef ?_);refine Ch.m 16 (aY λe aa hk=>?_);refine C.dQ rfl (hk _ _ ?_) (s:=s) (l:=d2.toList.set (j'+1) (d2.toList[j']'(by omega))) (f:=aJ) (j:=j') (hj:=by rw[eg];omega);refine Ch.m 17 (aY λe aa hk=>?_);refine C.jA (s:=s) (l:=d2.toList.set (j'+1) (d2.toList[j']'(by omega))) (f:=aJ) (j:=j') (d2.toList[j'+1]'(by omega)) rfl (hk _ undef ?_) (hj:=by rw[eg];omega);refine ND ?_;refine C.ar (p:=((j'+1:Nat):Int)) (q:=1) (r:=(j':Int)) rfl ?_ (ha:=by show some (((j'+1:Nat):Int)-1)=some (j':Int);rw[show((j'+1:Nat):Int)-1=j' by omega]) (hr:=uy ai ai);refine bH ?_;have G4:d2[j'+1]! =d2.toList[j'+1]'(by omega):=pP ai;have UJ:d2[j']! =d2.toList[j']'(by omega):=pP ai;have dI:insInner ltInt a (j'+1) d2=insInner ltInt a j' (swp d2 (j'+1) j'):=by
     conv=>lhs;unfold insInner
     rw[aG];simp only[ltInt,G4,UJ,jc,qv];exact⟨hja,by simpa using Yo⟩
    have oB:=gF (d:=d2) (i:=j'+1) (j:=j') ai ai;exact again yd (j',swp d2 (j'+1) j') ⟨ai,by rw[swp_size];exact qU,by rw[<- dI];exact jB⟩ (dq) (hr:=by dsimp only;rw[oB];exact cV.au)
   ·refine gu ?_;have G4:d2[j'+1]! =d2.toList[j'+1]'(by omega):=pP ai;have UJ:d2[j']! =d2.toList[j']'(by omega):=pP ai;have dI:insInner ltInt a (j'+1) d2=d2:=by unfold insInner;rw[ax];simp only[ltInt,G4,UJ,jc,qv];rintro⟨_,h⟩;exact absurd h (by simpa using Yo)
    exact again ih (i+1,d2) ⟨qU,by rw[<- ho,tB OD,<- jB,dI]⟩ (dq)
  ·refine C.dx (cW 16 0 15) 15 [13,14] 0 ?_;refine kD ?_;refine Dr.p (λh=>C.dS rfl h) ?_;refine H5 ?_;refine Ch.m 13 (aY λe aa hk=>?_);refine C.no rfl (hk _ _ ?_);refine Ch.q 14 (λh=>C.pk rfl h) ?_;refine Xf ?_;have dI:insInner ltInt a j d2=d2:=by
    cases j with
    |zero=>rfl
    |succ j=>
     unfold insInner;rw[ax];simp only[jc,qv];omega
   exact again ih (i+1,d2) ⟨qU,by rw[<- ho,tB OD,<- jB,dI]⟩ (dq)
 ·refine bH ?_;rw[<- ho,D2 ai]at ak;exact C.eJ aT ak rfl
end
section
open Go.Proofs Go.Sort
variable{ao:Bool}
theorem Q8{i j:Nat}{d:Array Int}(h:i<j):reverseLoop i j d=reverseLoop (i+1) (j-1) (swp d i j):=by
 conv=>lhs;unfold reverseLoop
 rw[aG h]
theorem Uh{i j:Nat}{d:Array Int}(h:¬ i<j):reverseLoop i j d=d:=by unfold reverseLoop;rw[ax h]
theorem Q9{s:az}{d:Array Int}{a b:Nat}(h1:1<=b)(ha:a<=b)(hb:b<=d.size)(hl:d.size<2^40):
  aI prog ao cH 206 #[s.v,aD a,aD b] [bG aJ 1 3 s d.toList] (λv As=>As=[bG aJ 1 3 s (reverseRange d a b).toList]):=by
 refine aI.of λR C kd d0 F c cs aT ak=>?_;refine cr ?_;obtain⟨b,rfl⟩:∃ b',b=b'+1:=⟨b-1,ai⟩;have ak:∀ v aP,aP=[bG aJ 1 3 s (reverseLoop a b d).toList]->At R d0 (aP++F) (after kd c cs v):=ak;refine gU ?_;refine C.ar (p:=((b+1:Nat):Int)) (q:=1) (r:=(b:Int)) rfl ?_ (ha:=by show some (((b+1:Nat):Int)-1)=some (b:Int);rw[show((b+1:Nat):Int)-1=b by omega]) (hr:=uy ai ai);refine bH ?_;refine C.cu (X:=Nat×Nat×Array Int) (λx=>[(0,s.v),(6,aD x.1),(7,aD x.2.1)]) (λx=>bG aJ 1 3 s x.2.2.toList::F) (λx=>x.2.1<d.size/\x.2.2.size=d.size/\reverseLoop x.1 x.2.1 x.2.2=reverseLoop a b d) (λx=>x.2.1) (a,b,d) ⟨rfl,rfl,rfl,trivial⟩ ⟨dq,rfl,rfl⟩ ?_;rintro⟨i,j,d1⟩ e ⟨hj,gT,ho⟩ ih;dsimp only at hj gT ho⊢;refine dX ?_;refine C.cmp rfl (λui=>?_) (λui=>?_)
 ·refine bH ?_;have yP:i<j:=ai;have Hl:d1.toList.length=d.size:=by simpa using gT
  refine C.dx (cW 14 0 13++[(27,14)]) 16 [13,14,15] 0 ?_;refine pF ?_;refine Dr.l (λhE h=>C.dQ rfl h (s:=s) (l:=d1.toList) (f:=aJ) (j:=j)) ?_;refine Dr.l (v:=aD (d1.toList[j]'(by omega))) (λhE h=>C.dd rfl h (s:=s) (l:=d1.toList) (f:=aJ) (j:=j)) ?_;refine kD ?_;refine Dr.l (λhE h=>C.dQ rfl h (s:=s) (l:=d1.toList) (f:=aJ) (j:=i)) ?_;refine Dr.l (v:=aD (d1.toList[i]'(by omega))) (λhE h=>C.dd rfl h (s:=s) (l:=d1.toList) (f:=aJ) (j:=i)) ?_;refine Dr.l (λhE h=>C.dQ rfl h (s:=s) (l:=d1.toList) (f:=aJ) (j:=i)) ?_;refine Dr.chain rfl ?_;refine Ch.m 13 (aY λe aa hk=>?_);refine C.jA (s:=s) (l:=d1.toList) (f:=aJ) (j:=i) (d1.toList[j]'(by omega)) rfl (hk _ undef ?_);refine Ch.m 14 (aY λe aa hk=>?_);refine C.dQ rfl (hk _ _ ?_) (s:=s) (l:=d1.toList.set i (d1.toList[j]'(by omega))) (f:=aJ) (j:=j) (hj:=by rw[eg];omega);refine Ch.m 15 (aY λe aa hk=>?_);refine C.jA (s:=s) (l:=d1.toList.set i (d1.toList[j]'(by omega))) (f:=aJ) (j:=j) (d1.toList[i]'(by omega)) rfl (hk _ undef ?_) (hj:=by rw[eg];omega);refine PX ?_;refine C.jq (j-1) rfl ?_;refine bH ?_;have oB:=gF (d:=d1) (i:=i) (j:=j) ai ai;exact again ih (i+1,j-1,swp d1 i j) ⟨dq,by rw[swp_size];exact gT,by rw[<- Q8 yP];exact ho⟩ (dq) (hr:=by dsimp only;rw[oB];exact cV.au)
 ·refine bH ?_;rw[<- ho,Uh ai]at ak;exact C.eJ aT ak rfl
end
section
open Go.Proofs Go.Sort
variable{ao:Bool}
theorem CD{hi cQ root:Nat}{d:Array Int}(h:hi<=2*root+1):siftDown ltInt hi cQ root d=d:=by unfold siftDown;rw[yC h]
theorem I7{hi cQ root:Nat}{d:Array Int}(h2:2*root+2<hi)(hl:ltInt d[cQ+(2*root+1)]! d[cQ+(2*root+2)]! =true):
  siftDown ltInt hi cQ root d=if !ltInt d[cQ+root]! d[cQ+(2*root+2)]! then d else siftDown ltInt hi cQ (2*root+2) (swp d (cQ+root) (cQ+(2*root+2))):=by
 conv=>lhs;unfold siftDown
 rw[dif_neg ai,aG (by rw[show cQ+(2*root+1)+1=cQ+(2*root+2) by omega,hl];simp;omega),yC h2]
theorem CE{hi cQ root:Nat}{d:Array Int}(h1:2*root+1<hi)(hl:2*root+2<hi->ltInt d[cQ+(2*root+1)]! d[cQ+(2*root+2)]! =false):
  siftDown ltInt hi cQ root d=if !ltInt d[cQ+root]! d[cQ+(2*root+1)]! then d else siftDown ltInt hi cQ (2*root+1) (swp d (cQ+root) (cQ+(2*root+1))):=by
 conv=>lhs;unfold siftDown
 rw[dif_neg ai,ax];simp only[jc,qv];rintro⟨h3,h4⟩;have:=hl h3;rw[show cQ+(2*root+1)+1=cQ+(2*root+2) by omega,this]at h4;cases h4
theorem yu{d:Array Int}{i j:Nat}(hi:i<d.size)(hj:j<d.size):ltInt d[i]! d[j]! =decide (d.toList[i]'(by simpa using hi)<d.toList[j]'(by simpa using hj)):=by unfold ltInt;rw[pP hi,pP hj]
theorem CF{s:az}{d:Array Int}{lo hi cQ:Nat}(hb:cQ+hi<=d.size)(sO:lo<=d.size)(hl:d.size<2^40):
  aI prog ao cH 218 #[s.v,aD lo,aD hi,aD cQ] [bG aJ 1 3 s d.toList] (λv As=>As=[bG aJ 1 3 s (siftDown ltInt hi cQ lo d).toList]):=by
 refine aI.of λR C kd d0 F c cs aT ak=>?_;refine tV ?_;refine C.cu (X:=Nat×Array Int) (λx=>[(0,s.v),(2,aD hi),(3,aD cQ),(8,aD x.1)]) (λx=>bG aJ 1 3 s x.2.toList::F) (λx=>x.1<=d.size/\x.2.size=d.size/\siftDown ltInt hi cQ x.1 x.2=siftDown ltInt hi cQ lo d) (λx=>d.size-x.1) (lo,d) ⟨rfl,rfl,rfl,rfl,trivial⟩ ⟨sO,rfl,rfl⟩ ?_;rintro⟨root,d1⟩ e ⟨ZJ,gT,ho⟩ ih;dsimp only at ZJ gT ho⊢;have Hl:d1.toList.length=d.size:=by simpa using gT
 refine dK ?_;refine C.jq (2*root) rfl ?_;refine C.jq (2*root+1) rfl ?_;refine eP ?_;refine C.cmp rfl (λEo=>?_) (λEo=>?_)
 ·refine bH ?_;rw[<- ho,CD ai]at ak;exact C.eJ aT ak rfl
 ·refine bH ?_;have oE:2*root+1<hi:=ai;apply mj (X:=Nat) (λq=>2*root+1<=q/\q<hi/\siftDown ltInt hi cQ root d1=if !ltInt d1[cQ+root]! d1[cQ+q]! then d1 else siftDown ltInt hi cQ q (swp d1 (cQ+root) (cQ+q))) (λq=>[(0,s.v),(2,aD hi),(3,aD cQ),(8,aD root),(9,aD q)]) (λ_=>bG aJ 1 3 s d1.toList::F) (R:=R) (d:=d0) (fn:=218) (kd:=kd) (n:=76) (ds:=[]) (cs:=c::cs)
  ·intro Yp;rcases lH (2*root+2) hi with hc|hc
   ·refine C.dx (cW 17 0 20) 20 [18,19] 0 ?_;refine kK ?_;refine Dr.p (v:=aD ((2*root+2:Nat):Int)) (λh=>C.jq (2*root+2) rfl h) ?_;refine kK ?_;refine Dr.p (λh=>C.fA rfl h) ?_;refine H4 ?_;refine Dr.pu (v:=aD ((cQ+(2*root+1):Nat):Int)) ⟨_,rfl,rfl⟩ (λ_ _ _ h=>C.jq (cQ+(2*root+1)) rfl h) ?_;refine Dr.l (λhE h=>C.dQ rfl h (s:=s) (l:=d1.toList) (f:=aJ) (j:=cQ+(2*root+1))) ?_;refine Dr.l (v:=aD (d1.toList[cQ+(2*root+1)]'(by omega))) (λhE h=>C.dd rfl h (s:=s) (l:=d1.toList) (f:=aJ) (j:=cQ+(2*root+1))) ?_;refine sV ?_;refine Dr.pu (v:=aD ((cQ+(2*root+1):Nat):Int)) ⟨_,rfl,rfl⟩ (λ_ _ _ h=>C.jq (cQ+(2*root+1)) rfl h) ?_;refine Dr.pu (v:=aD ((cQ+(2*root+2):Nat):Int)) ⟨_,rfl,rfl⟩ (λ_ _ _ h=>C.jq (cQ+(2*root+2)) rfl h) ?_;refine Dr.l (λhE h=>C.dQ rfl h (s:=s) (l:=d1.toList) (f:=aJ) (j:=cQ+(2*root+2))) ?_;refine Dr.l (v:=aD (d1.toList[cQ+(2*root+2)]'(by omega))) (λhE h=>C.dd rfl h (s:=s) (l:=d1.toList) (f:=aJ) (j:=cQ+(2*root+2))) ?_;refine Dr.chain rfl ?_;refine Ch.m 18 (aY λe aa hk=>?_);refine C.cE (fM (x:=d1.toList[cQ+(2*root+1)]'(by omega)) (y:=d1.toList[cQ+(2*root+2)]'(by omega))) (A:=[]) ?_;refine qY ?_;refine hk _ _ ?_;refine Ch.q 19 (λh=>C.pk rfl h) ?_;refine fP ?_;refine C.xQ (λYq=>?_) (λYq=>?_)
    ·refine C.go ?_;refine bH ?_;refine C.jq (2*root+2) rfl ?_;refine bH ?_;exact bN Yp (2*root+2) ⟨ai,hc,I7 hc (by rw[yu ai ai];exact Yq)⟩
    ·refine C.go ?_;exact bN Yp (2*root+1) ⟨e8 _,oE,CE oE (λ_=>by rw[yu ai ai];exact Yq)⟩
   ·refine C.dx (cW 17 0 20) 20 [18,19] 0 ?_;refine kK ?_;refine Dr.p (v:=aD ((2*root+2:Nat):Int)) (λh=>C.jq (2*root+2) rfl h) ?_;refine kK ?_;refine Dr.p (λh=>C.dS rfl h) ?_;refine mX ?_;refine H4 ?_;refine Dr.chain rfl ?_;refine Ch.m 18 (aY λe aa hk=>?_);refine C.no rfl (hk _ _ ?_);refine Ch.q 19 (λh=>C.pk rfl h) ?_;refine oV ?_;exact bN Yp (2*root+1) ⟨e8 _,oE,CE oE (λh=>absurd h ai)⟩
  ·rintro q ⟨hq1,Ej,Yr⟩ e;refine C.dx (cW 39 0 14) 14 [12,13] 0 ?_;refine sV ?_;refine Dr.p (v:=aD ((cQ+root:Nat):Int)) (λh=>C.jq (cQ+root) rfl h) ?_;refine Dr.l (λhE h=>C.dQ rfl h (s:=s) (l:=d1.toList) (f:=aJ) (j:=cQ+root)) ?_;refine Dr.l (v:=aD (d1.toList[cQ+root]'(by omega))) (λhE h=>C.dd rfl h (s:=s) (l:=d1.toList) (f:=aJ) (j:=cQ+root)) ?_;refine sV ?_;refine Dr.p (v:=aD ((cQ+q:Nat):Int)) (λh=>C.jq (cQ+q) rfl h) ?_;refine Dr.l (λhE h=>C.dQ rfl h (s:=s) (l:=d1.toList) (f:=aJ) (j:=cQ+q)) ?_;refine Dr.l (v:=aD (d1.toList[cQ+q]'(by omega))) (λhE h=>C.dd rfl h (s:=s) (l:=d1.toList) (f:=aJ) (j:=cQ+q)) ?_;refine Dr.chain rfl ?_;refine Ch.m 12 (aY λe aa hk=>?_);refine C.cE (fM (x:=d1.toList[cQ+root]'(by omega)) (y:=d1.toList[cQ+q]'(by omega))) (A:=[]) ?_;refine qY ?_;refine hk _ _ ?_;refine Ch.q 13 (λh=>C.nt rfl h) ?_;refine fP ?_;refine C.xQ (λYs=>?_) (λYs=>?_)
   ·refine C.go ?_;rw[<- ho,Yr,aG (by rw[yu ai ai];exact Ys)]at ak;exact C.cm aT ak rfl
   ·refine C.go ?_;refine C.dx (cW 53 0 21++[(74,22)]) 24 [21,22,23] 0 ?_;refine sV ?_;refine Dr.p (v:=aD ((cQ+root:Nat):Int)) (λh=>C.jq (cQ+root) rfl h) ?_;refine sV ?_;refine Dr.p (v:=aD ((cQ+q:Nat):Int)) (λh=>C.jq (cQ+q) rfl h) ?_;refine sV ?_;refine Dr.p (v:=aD ((cQ+q:Nat):Int)) (λh=>C.jq (cQ+q) rfl h) ?_;refine Dr.l (λhE h=>C.dQ rfl h (s:=s) (l:=d1.toList) (f:=aJ) (j:=cQ+q)) ?_;refine Dr.l (v:=aD (d1.toList[cQ+q]'(by omega))) (λhE h=>C.dd rfl h (s:=s) (l:=d1.toList) (f:=aJ) (j:=cQ+q)) ?_;refine sV ?_;refine Dr.p (v:=aD ((cQ+root:Nat):Int)) (λh=>C.jq (cQ+root) rfl h) ?_;refine Dr.l (λhE h=>C.dQ rfl h (s:=s) (l:=d1.toList) (f:=aJ) (j:=cQ+root)) ?_;refine Dr.l (v:=aD (d1.toList[cQ+root]'(by omega))) (λhE h=>C.dd rfl h (s:=s) (l:=d1.toList) (f:=aJ) (j:=cQ+root)) ?_;refine Dr.l (λhE h=>C.dQ rfl h (s:=s) (l:=d1.toList) (f:=aJ) (j:=cQ+root)) ?_;refine Dr.chain rfl ?_;refine Ch.m 21 (aY λe aa hk=>?_);refine C.jA (s:=s) (l:=d1.toList) (f:=aJ) (j:=cQ+root) (d1.toList[cQ+q]'(by omega)) rfl (hk _ undef ?_);refine Ch.m 22 (aY λe aa hk=>?_);refine C.dQ rfl (hk _ _ ?_) (s:=s) (l:=d1.toList.set (cQ+root) (d1.toList[cQ+q]'(by omega))) (f:=aJ) (j:=cQ+q) (hj:=by rw[eg];omega);refine Ch.m 23 (aY λe aa hk=>?_);refine C.jA (s:=s) (l:=d1.toList.set (cQ+root) (d1.toList[cQ+q]'(by omega))) (f:=aJ) (j:=cQ+q) (d1.toList[cQ+root]'(by omega)) rfl (hk _ undef ?_) (hj:=by rw[eg];omega);refine zI ?_;have oB:=gF (d:=d1) (i:=cQ+root) (j:=cQ+q) ai ai;exact again ih (q,swp d1 (cQ+root) (cQ+q)) ⟨dq,by rw[swp_size];exact gT,by rw[<- ho,Yr,ax (by rw[yu ai ai];simpa using Ys)]⟩ (dq) (hr:=by dsimp only;rw[oB];exact cV.au)
end
section
open Go.Proofs Go.Sort
variable{ao:Bool}
theorem sG(hi cQ:Nat):∀ (n root:Nat) (d:Array Int),hi-root<=n->(siftDown ltInt hi cQ root d).size=d.size
 |0,root,d,h=>by rw[CD ai]
 |n+1,root,d,h=>by
  unfold siftDown;split
  ·rfl
  ·split
   ·split
    ·rfl
    ·split
     ·rw[sG hi cQ n _ _ ai,swp_size]
     ·rfl
   ·split
    ·rfl
    ·rw[sG hi cQ n _ _ ai,swp_size]
theorem MY{s:az}{d:Array Int}{a b:Nat}(Dq:a<b)(hb:b<=d.size)(hl:d.size<2^40):
  aI prog ao cH 203 #[s.v,aD a,aD b] [bG aJ 1 3 s d.toList] (λv As=>As=[bG aJ 1 3 s (heapSort ltInt d a b).toList]):=by
 refine aI.of λR C kd d0 F c cs aT ak=>?_;refine cr ?_;have VO:(((b-a:Nat):Int)-1).tdiv 2=(((b-a-1)/2+1:Nat):Int)-1:=by rw[DD (b-a)];omega
 refine lI ?_;refine C.jq (b-a) rfl ?_;refine eP ?_;refine C.quo rfl ?_ (hr:=by rw[VO];exact uy ai ai);rw[VO];refine bH ?_;refine C.cu (X:=Nat×Array Int) (λx=>[(0,s.v),(6,aD a),(7,aD 0),(8,aD ((b-a:Nat):Int)),(9,aD ((x.1:Int)-1))]) (λx=>bG aJ 1 3 s x.2.toList::F) (λx=>x.1<=d.size/\x.2.size=d.size/\heapPop ltInt a (b-a) (heapBuild ltInt (b-a) a x.1 x.2)=heapSort ltInt d a b) (λx=>x.1) ((b-a-1)/2+1,d) ⟨rfl,rfl,rfl,rfl,rfl,trivial⟩ ⟨dq,rfl,rfl⟩ ?_;rintro⟨k,d1⟩ e ⟨Zu,gT,ho⟩ ih;dsimp only at Zu gT ho⊢;refine dK ?_;refine C.cmp rfl (λXM=>?_) (λXM=>?_)
 ·refine bH ?_;obtain⟨k,rfl⟩:∃ k',k=k'+1:=⟨k-1,ai⟩;have wX:((k+1:Nat):Int)-1=(k:Int):=ai;rw[wX];refine eP ?_;refine C.fF (CF (d:=d1) (lo:=k) (hi:=b-a) (cQ:=a) ai ai ai) ?_;rintro v aP rfl;refine Xe ?_;exact again ih (k,siftDown ltInt (b-a) a k d1) ⟨dq,by dsimp only;rw[sG _ _ _ _ _ (e8 _)];exact gT,ho⟩ (dq)
 ·refine bH ?_;obtain rfl:k=0:=ai;have ho:heapPop ltInt a (b-a) d1=heapSort ltInt d a b:=ho;refine eP ?_;refine C.cu (X:=Nat×Array Int) (λx=>[(0,s.v),(6,aD a),(7,aD 0),(8,aD ((b-a:Nat):Int)),(10,aD ((x.1:Int)-1))]) (λx=>bG aJ 1 3 s x.2.toList::F) (λx=>x.1<=b-a/\x.2.size=d.size/\heapPop ltInt a x.1 x.2=heapSort ltInt d a b) (λx=>x.1) (b-a,d1) ⟨rfl,rfl,rfl,rfl,rfl,trivial⟩ ⟨e8 _,gT,ho⟩ ?_;clear gT ho;rintro⟨k,d1⟩ e ⟨Zu,gT,ho⟩ yd;dsimp only at Zu gT ho⊢;refine dK ?_;refine C.cmp rfl (λh30=>?_) (λh30=>?_)
  ·refine bH ?_;obtain⟨k,rfl⟩:∃ k',k=k'+1:=⟨k-1,ai⟩;have wX:((k+1:Nat):Int)-1=(k:Int):=ai;rw[wX];have Hl:d1.toList.length=d.size:=by simpa using gT
   refine C.dx (cW 33 0 17++[(50,18)]) 20 [17,18,19] 0 ?_;refine NC ?_;refine Dr.p (v:=aD ((a+k:Nat):Int)) (λh=>C.jq (a+k) rfl h) ?_;refine sV ?_;refine Dr.p (v:=aD ((a+k:Nat):Int)) (λh=>C.jq (a+k) rfl h) ?_;refine Dr.l (λhE h=>C.dQ rfl h (s:=s) (l:=d1.toList) (f:=aJ) (j:=a+k)) ?_;refine Dr.l (v:=aD (d1.toList[a+k]'(by omega))) (λhE h=>C.dd rfl h (s:=s) (l:=d1.toList) (f:=aJ) (j:=a+k)) ?_;refine kD ?_;refine Dr.l (λhE h=>C.dQ rfl h (s:=s) (l:=d1.toList) (f:=aJ) (j:=a)) ?_;refine Dr.l (v:=aD (d1.toList[a]'(by omega))) (λhE h=>C.dd rfl h (s:=s) (l:=d1.toList) (f:=aJ) (j:=a)) ?_;refine Dr.l (λhE h=>C.dQ rfl h (s:=s) (l:=d1.toList) (f:=aJ) (j:=a)) ?_;refine Dr.chain rfl ?_;refine Ch.m 17 (aY λe aa hk=>?_);refine C.jA (s:=s) (l:=d1.toList) (f:=aJ) (j:=a) (d1.toList[a+k]'(by omega)) rfl (hk _ undef ?_);refine Ch.m 18 (aY λe aa hk=>?_);refine C.dQ rfl (hk _ _ ?_) (s:=s) (l:=d1.toList.set a (d1.toList[a+k]'(by omega))) (f:=aJ) (j:=a+k) (hj:=by rw[eg];omega);refine Ch.m 19 (aY λe aa hk=>?_);refine C.jA (s:=s) (l:=d1.toList.set a (d1.toList[a+k]'(by omega))) (f:=aJ) (j:=a+k) (d1.toList[a]'(by omega)) rfl (hk _ undef ?_) (hj:=by rw[eg];omega);refine fP ?_;have oB:=gF (d:=d1) (i:=a) (j:=a+k) ai ai;rw[<- oB];refine eP ?_;refine C.fF (CF (d:=swp d1 a (a+k)) (lo:=0) (hi:=k) (cQ:=a) (by rw[swp_size];omega) ai (by rw[swp_size];omega)) ?_;rintro v aP rfl;refine Xe ?_;exact again yd (k,siftDown ltInt k a 0 (swp d1 a (a+k))) ⟨dq,by dsimp only;rw[sG _ _ _ _ _ (e8 _),swp_size];exact gT,ho⟩ (dq)
  ·refine bH ?_;obtain rfl:k=0:=ai;have ho:d1=heapSort ltInt d a b:=ho;rw[<- ho]at ak;exact C.eJ aT ak rfl
end
section
open Go.Proofs Go.Sort
variable{ao:Bool}
abbrev R7(p:Nat)(n:Nat):HP:=da p (.cells #[aD n] 3 (0,0))
theorem rX{s:az}{d:Array Int}{a b p n:Nat}(ha:a<d.size)(hb:b<d.size)(hn:n<2^40):
  aI prog ao cH 224 #[s.v,aD a,aD b,ay p] [bG aJ 1 3 s d.toList,R7 p n] (λv As=>v=.tuple #[aD (order2 ltInt d a b n).1,aD (order2 ltInt d a b n).2.1]/\As=[bG aJ 1 3 s d.toList,R7 p (order2 ltInt d a b n).2.2]):=by
 refine aI.of λR C kd d0 F c cs aT ak=>?_;refine cr ?_;have Hl:d.toList.length=d.size:=by simp
 have du:=yu hb ha;refine eP ?_;refine C.dx (cW 10 0 9) 9 [8] 0 ?_;refine kD ?_;refine Dr.l (λhE h=>C.dQ rfl h (s:=s) (l:=d.toList) (f:=aJ) (j:=b)) ?_;refine Dr.l (v:=aD (d.toList[b]'(by omega))) (λhE h=>C.dd rfl h (s:=s) (l:=d.toList) (f:=aJ) (j:=b)) ?_;refine kD ?_;refine Dr.l (λhE h=>C.dQ rfl h (s:=s) (l:=d.toList) (f:=aJ) (j:=a)) ?_;refine Dr.l (v:=aD (d.toList[a]'(by omega))) (λhE h=>C.dd rfl h (s:=s) (l:=d.toList) (f:=aJ) (j:=a)) ?_;refine Dr.chain rfl ?_;refine Ch.m 8 (aY λe aa hk=>?_);refine C.cE (fM (x:=d.toList[b]'(by omega)) (y:=d.toList[a]'(by omega))) (A:=[]) ?_;refine qY ?_;rw[<- du];refine hk _ _ ?_;refine fP ?_;refine C.xQ (λYt=>?_) (λYt=>?_)
 ·refine C.go ?_;refine dX ?_;refine C.jq (n+1) rfl ?_;refine oT ?_;have e:order2 ltInt d a b n=(b,a,n+1):=by unfold order2;rw[aG Yt]
  rw[e]at ak;exact C.cm aT ak ⟨rfl,rfl⟩
 ·refine gU ?_;have e:order2 ltInt d a b n=(a,b,n):=by unfold order2;rw[ax (by rw[Yt];decide)]
  rw[e]at ak;exact C.cm aT ak ⟨rfl,rfl⟩
theorem pQ{d:Array Int}{a b n:Nat}{P:Nat->Prop}(ha:P a)(hb:P b):P (order2 ltInt d a b n).1/\P (order2 ltInt d a b n).2.1/\(order2 ltInt d a b n).2.2<=n+1/\n<=(order2 ltInt d a b n).2.2:=by
 unfold order2;split
 ·exact⟨hb,ha,e8 _,nX _⟩
 ·exact⟨ha,hb,nX _,e8 _⟩
theorem rY{s:az}{d:Array Int}{a b q p n:Nat}(ha:a<d.size)(hb:b<d.size)(hq:q<d.size)(hn:n<2^39):
  aI prog ao cH 222 #[s.v,aD a,aD b,aD q,ay p] [bG aJ 1 3 s d.toList,R7 p n] (λv As=>v=aD (median ltInt d a b q n).1/\As=[bG aJ 1 3 s d.toList,R7 p (median ltInt d a b q n).2]):=by
 refine aI.of λR C kd d0 F c cs aT ak=>?_;refine cr ?_;obtain⟨h1,h2,h3,_⟩:=pQ (d:=d) (n:=n) (P:=(· <d.size)) ha hb;obtain⟨h4,h5,h6,_⟩:=pQ (d:=d) (n:=(order2 ltInt d a b n).2.2) (P:=(· <d.size)) h2 hq;have ak:∀ v aP,v=aD (order2 ltInt d (order2 ltInt d a b n).1 (order2 ltInt d (order2 ltInt d a b n).2.1 q (order2 ltInt d a b n).2.2).1 (order2 ltInt d (order2 ltInt d a b n).2.1 q (order2 ltInt d a b n).2.2).2.2).2.1/\aP=[bG aJ 1 3 s d.toList,R7 p (order2 ltInt d (order2 ltInt d a b n).1 (order2 ltInt d (order2 ltInt d a b n).2.1 q (order2 ltInt d a b n).2.2).1 (order2 ltInt d (order2 ltInt d a b n).2.1 q (order2 ltInt d a b n).2.2).2.2).2.2]->At R d0 (aP++F) (after kd c cs v):=ak;generalize VP:order2 ltInt d a b n=r1 at*;generalize T5:order2 ltInt d r1.2.1 q r1.2.2=r2 at*;generalize hr3:order2 ltInt d r1.1 r2.1 r2.2.2=r3 at*;refine oT ?_;refine C.cE (rX (n:=n) ha hb ai) ?_;simp only[fi,ez,VP];refine lI ?_;refine C.cE (rX (n:=r1.2.2) h2 hq ai) ?_;simp only[fi,ez,T5];refine lI ?_;refine C.cE (rX (n:=r2.2.2) h1 h4 ai) ?_;simp only[fi,ez,hr3];refine tU ?_;exact C.cm aT ak ⟨rfl,rfl⟩
theorem MZ{d:Array Int}{a b q n:Nat}{P:Nat->Prop}(ha:P a)(hb:P b)(hq:P q):P (median ltInt d a b q n).1/\(median ltInt d a b q n).2<=n+3/\n<=(median ltInt d a b q n).2:=by
 obtain⟨h1,h2,h3,g3⟩:=pQ (d:=d) (n:=n) (P:=P) ha hb;obtain⟨h4,h5,h6,g6⟩:=pQ (d:=d) (n:=(order2 ltInt d a b n).2.2) (P:=P) h2 hq;obtain⟨h7,h8,h9,g9⟩:=pQ (d:=d) (n:=(order2 ltInt d (order2 ltInt d a b n).2.1 q (order2 ltInt d a b n).2.2).2.2) (P:=P) h1 h4;refine⟨h8,?_,?_⟩
 ·show(order2 ltInt d _ _ _).2.2<=_;omega
 ·show n<=(order2 ltInt d _ _ _).2.2;omega
theorem rZ{s:az}{d:Array Int}{a p n:Nat}(h1:1<=a)(ha:a+1<d.size)(hl:d.size<2^40)(hn:n<2^39):
  aI prog ao cH 221 #[s.v,aD a,ay p] [bG aJ 1 3 s d.toList,R7 p n] (λv As=>v=aD (medianAdjacent ltInt d a n).1/\As=[bG aJ 1 3 s d.toList,R7 p (medianAdjacent ltInt d a n).2]):=by
 refine aI.of λR C kd d0 F c cs aT ak=>?_;refine cr ?_;have ak:∀ v aP,v=aD (median ltInt d (a-1) a (a+1) n).1/\aP=[bG aJ 1 3 s d.toList,R7 p (median ltInt d (a-1) a (a+1) n).2]->At R d0 (aP++F) (after kd c cs v):=ak;refine gU ?_;refine C.jq (a-1) rfl ?_;refine bH ?_;refine C.jq (a+1) rfl ?_;refine fG ?_;refine C.cE (rY (d:=d) (a:=a-1) (b:=a) (q:=a+1) (n:=n) ai ai ai hn) ?_;refine oU ?_;exact C.cm aT ak ⟨rfl,rfl⟩
end
section
open Go.Proofs Go.Sort
variable{ao:Bool}
def K2:Hint->Int
 |.unknown=>0
 |.increasing=>1
 |.decreasing=>2
def Yu(d:Array Int)(a b:Nat):Nat×Nat:=
 if b-a>=8 then
  if b-a>=50 then
   median ltInt d (medianAdjacent ltInt d (a+(b-a)/4*1) 0).1 (medianAdjacent ltInt d (a+(b-a)/4*2) (medianAdjacent ltInt d (a+(b-a)/4*1) 0).2).1 (medianAdjacent ltInt d (a+(b-a)/4*3) (medianAdjacent ltInt d (a+(b-a)/4*2) (medianAdjacent ltInt d (a+(b-a)/4*1) 0).2).2).1 (medianAdjacent ltInt d (a+(b-a)/4*3) (medianAdjacent ltInt d (a+(b-a)/4*2) (medianAdjacent ltInt d (a+(b-a)/4*1) 0).2).2).2
  else median ltInt d (a+(b-a)/4*1) (a+(b-a)/4*2) (a+(b-a)/4*3) 0
 else(a+(b-a)/4*2,0)
theorem acd(d:Array Int)(a b:Nat):choosePivot ltInt d a b=((Yu d a b).1,if(Yu d a b).2=0 then .increasing else if(Yu d a b).2=12 then .decreasing else .unknown):=rfl
theorem wL{d:Array Int}{a n:Nat}{P:Nat->Prop}(h1:P (a-1))(h2:P a)(h3:P (a+1)):P (medianAdjacent ltInt d a n).1/\(medianAdjacent ltInt d a n).2<=n+3/\n<=(medianAdjacent ltInt d a n).2:=MZ h1 h2 h3
theorem I8{s:az}{d:Array Int}{a b:Nat}(Dq:a<b)(hb:b<=d.size)(hl:d.size<2^40):
  aI prog ao cH 205 #[s.v,aD a,aD b] [bG aJ 1 3 s d.toList] (λv As=>v=.tuple #[aD (choosePivot ltInt d a b).1,aD (K2 (choosePivot ltInt d a b).2)]/\As=[bG aJ 1 3 s d.toList]):=by
 refine aI.of λR C kd d0 F c cs aT ak=>?_;refine cr ?_;have hq:((b-a:Nat):Int).tdiv 4=(((b-a)/4:Nat):Int):=(JK (b-a) 4).symm;rw[acd]at ak;refine nT ?_;refine C.jq (b-a) rfl ?_;refine dK ?_;refine C.al rfl (λb9=>?_);refine At.turn (A':=R7 b9 0) .head (λ_ h=>h) ?_;refine dX ?_;refine C.quo rfl ?_ (hr:=by rw[hq];exact uy ai ai);rw[hq];refine C.jq ((b-a)/4*1) rfl ?_;refine C.jq (a+(b-a)/4*1) rfl ?_;refine eP ?_;refine C.quo rfl ?_ (hr:=by rw[hq];exact uy ai ai);rw[hq];refine C.jq ((b-a)/4*2) rfl ?_;refine C.jq (a+(b-a)/4*2) rfl ?_;refine eP ?_;refine C.quo rfl ?_ (hr:=by rw[hq];exact uy ai ai);rw[hq];refine C.jq ((b-a)/4*3) rfl ?_;refine C.jq (a+(b-a)/4*3) rfl ?_;refine bH ?_;apply mj (X:=Nat×Nat) (λx=>x=Yu d a b) (λx=>[(9,ay b9),(11,aD x.1)]) (λx=>R7 b9 x.2::bG aJ 1 3 s d.toList::F) (R:=R) (d:=d0) (fn:=205) (kd:=kd) (n:=57) (ds:=[]) (cs:=c::cs)
 ·intro Ra;refine bH ?_;refine C.cmp rfl (λh32=>?_) (λh32=>?_)
  ·refine dX ?_;refine C.cmp rfl (λh34=>?_) (λh34=>?_)
   ·refine eP ?_;have hI:=wL (d:=d) (a:=a+(b-a)/4*1) (n:=0) (P:=(· <d.size)) ai ai ai;refine C.cE (rZ (d:=d) (a:=a+(b-a)/4*1) (n:=0) ai ai hl ai) ?_;refine cr ?_;generalize ZF:medianAdjacent ltInt d (a+(b-a)/4*1) 0=m1 at*;refine eP ?_;have hJ:=wL (d:=d) (a:=a+(b-a)/4*2) (n:=m1.2) (P:=(· <d.size)) ai ai ai;refine C.cE (rZ (d:=d) (a:=a+(b-a)/4*2) (n:=m1.2) ai ai hl ai) ?_;refine cr ?_;generalize XU:medianAdjacent ltInt d (a+(b-a)/4*2) m1.2=m2 at*;refine eP ?_;have hK:=wL (d:=d) (a:=a+(b-a)/4*3) (n:=m2.2) (P:=(· <d.size)) ai ai ai;refine C.cE (rZ (d:=d) (a:=a+(b-a)/4*3) (n:=m2.2) ai ai hl ai) ?_;refine cr ?_;generalize hm3:medianAdjacent ltInt d (a+(b-a)/4*3) m2.2=m3 at*;refine gU ?_;refine C.cE (rY (d:=d) (a:=m1.1) (b:=m2.1) (q:=m3.1) (n:=m3.2) hI.1 hJ.1 hK.1 ai) ?_;refine oU ?_;exact bN Ra (median ltInt d m1.1 m2.1 m3.1 m3.2) (by unfold Yu;rw[aG ai,aG ai,ZF,XU,hm3])
   ·refine gU ?_;refine C.cE (rY (d:=d) (a:=a+(b-a)/4*1) (b:=a+(b-a)/4*2) (q:=a+(b-a)/4*3) (n:=0) ai ai ai ai) ?_;refine oU ?_;exact bN Ra (median ltInt d (a+(b-a)/4*1) (a+(b-a)/4*2) (a+(b-a)/4*3) 0) (by unfold Yu;rw[aG ai,ax ai])
  ·refine bH ?_;exact bN Ra (a+(b-a)/4*2,0) (by unfold Yu;rw[ax ai])
 ·rintro⟨q,m⟩ NO e;dsimp only;rw[<- NO]at ak;refine dX ?_;refine C.cmp rfl (λIu=>?_) (λIu=>?_)
  ·refine nT ?_;rw[aG ai]at ak;exact C.cm aT ak ⟨rfl,rfl⟩
  ·refine dX ?_;refine C.cmp rfl (λh55=>?_) (λh55=>?_)
   ·refine nT ?_;rw[ax ai,aG ai]at ak;exact C.cm aT ak ⟨rfl,rfl⟩
   ·refine nT ?_;rw[ax ai,ax ai]at ak;exact C.cm aT ak ⟨rfl,rfl⟩
end
section
open Go.Proofs Go.Sort
variable{ao:Bool}
section
variable{p:Int->Bool}{d:Array Int}{i j:Nat}
theorem Rb(h:i<=j)(hp:p d[i]! =true):scanUp p d j i=scanUp p d j (i+1):=by
 conv=>lhs;unfold scanUp
 rw[aG (by simp[h,hp])]
theorem wM(h:¬ (i<=j/\p d[i]! =true)):scanUp p d j i=i:=by unfold scanUp;rw[ax (by simpa using h)]
theorem Rc(h:i<=j+1)(hp:p d[j+1]! =true):scanDown p d i (j+1)=scanDown p d i j:=by
 conv=>lhs;unfold scanDown
 rw[aG (by simp[h,hp])]
theorem wN(hi:1<=i)(h:¬ (i<=j/\p d[j]! =true)):scanDown p d i j=j:=by
 cases j with
 |zero=>rfl
 |succ j=>unfold scanDown;rw[ax (by simpa using h)]
end
theorem Yv{a i j i2 j2:Nat}{d:Array Int}(hU:scanUp (λx=>ltInt x d[a]!) d j i=i2)(hV:scanDown (λx=> !ltInt x d[a]!) d i2 j=j2)(h:i2>j2):partLoop ltInt a i j d=(j2,d):=by
 unfold partLoop;rw[hU]
 (try dsimp only)
 rw[hV]
 (try dsimp only)
 rw[aG h]
theorem ace{a i j i2 j2:Nat}{d:Array Int}(hU:scanUp (λx=>ltInt x d[a]!) d j i=i2)(hV:scanDown (λx=> !ltInt x d[a]!) d i2 j=j2)(h:¬ i2>j2)(hg:(j2-1)+1-(i2+1)<j+1-i):partLoop ltInt a i j d=partLoop ltInt a (i2+1) (j2-1) (swp d i2 j2):=by
 conv=>lhs;unfold partLoop
 rw[hU]
 (try dsimp only)
 rw[hV]
 (try dsimp only)
 rw[ax h,yC hg]
theorem I9{s:az}{d:Array Int}{a b pv:Nat}(Dq:a<b)(hb:b<=d.size)(Xx:pv<d.size)(hl:d.size<2^40):
  aI prog ao cH 210 #[s.v,aD a,aD b,aD pv] [bG aJ 1 3 s d.toList] (λv As=>v=.tuple #[aD (partition ltInt d a b pv).1,.bool (partition ltInt d a b pv).2.1]/\As=[bG aJ 1 3 s (partition ltInt d a b pv).2.2.toList]):=by
 refine aI.of λR C kd d0 F c cs aT ak=>?_;refine cr ?_;have Hl:d.toList.length=d.size:=by simp
 have hsz:(swp d a pv).size=d.size:=swp_size;refine eP ?_;refine C.dx (cW 12 0 13++[(25,14)]) 16 [13,14,15] 0 ?_;refine pF ?_;refine Dr.l (λhE h=>C.dQ rfl h (s:=s) (l:=d.toList) (f:=aJ) (j:=pv)) ?_;refine Dr.l (v:=aD (d.toList[pv]'(by omega))) (λhE h=>C.dd rfl h (s:=s) (l:=d.toList) (f:=aJ) (j:=pv)) ?_;refine kD ?_;refine Dr.l (λhE h=>C.dQ rfl h (s:=s) (l:=d.toList) (f:=aJ) (j:=a)) ?_;refine Dr.l (v:=aD (d.toList[a]'(by omega))) (λhE h=>C.dd rfl h (s:=s) (l:=d.toList) (f:=aJ) (j:=a)) ?_;refine Dr.l (λhE h=>C.dQ rfl h (s:=s) (l:=d.toList) (f:=aJ) (j:=a)) ?_;refine Dr.chain rfl ?_;refine Ch.m 13 (aY λe aa hk=>?_);refine C.jA (s:=s) (l:=d.toList) (f:=aJ) (j:=a) (d.toList[pv]'(by omega)) rfl (hk _ undef ?_);refine Ch.m 14 (aY λe aa hk=>?_);refine C.dQ rfl (hk _ _ ?_) (s:=s) (l:=d.toList.set (a) (d.toList[pv]'(by omega))) (f:=aJ) (j:=pv) (hj:=by rw[eg];omega);refine Ch.m 15 (aY λe aa hk=>?_);refine C.jA (s:=s) (l:=d.toList.set (a) (d.toList[pv]'(by omega))) (f:=aJ) (j:=pv) (d.toList[a]'(by omega)) rfl (hk _ undef ?_) (hj:=by rw[eg];omega);refine fP ?_;have oB:=gF (d:=d) (i:=a) (j:=pv) ai ai;rw[<- oB];unfold partition at ak;dsimp only at ak;obtain⟨d1,wY⟩:∃ x,x=swp d a pv:=⟨_,rfl⟩;rw[<- wY]at ak hsz⊢;have akh:d1.toList.length=d.size:=by simpa using hsz
 refine bH ?_;refine C.jq (a+1) rfl ?_;refine fG ?_;refine C.jq (b-1) rfl ?_;refine dK ?_;apply mj (X:=Nat) (λi=>a+1<=i/\i<=b/\scanUp (λx=>ltInt x d1[a]!) d1 (b-1) (a+1)=i) (λi=>[(0,s.v),(1,aD a),(10,aD i),(11,aD ((b-1:Nat):Int))]) (λ_=>bG aJ 1 3 s d1.toList::F) (R:=R) (d:=d0) (fn:=210) (kd:=kd) (n:=168) (ds:=[]) (cs:=c::cs)
 ·intro GG;refine C.cu (X:=Nat) (λi=>[(0,s.v),(1,aD a),(10,aD i),(11,aD ((b-1:Nat):Int))]) (λ_=>bG aJ 1 3 s d1.toList::F) (λi=>a+1<=i/\i<=b/\scanUp (λx=>ltInt x d1[a]!) d1 (b-1) (a+1)=scanUp (λx=>ltInt x d1[a]!) d1 (b-1) i) (λi=>b-i) (a+1) ⟨rfl,rfl,rfl,rfl,trivial⟩ ⟨e8 _,Dq,rfl⟩ ?_;rintro i e ⟨xP,xO,R8⟩ ih;refine C.go ?_;rcases lH i ((b-1)+1)with lF|lF
  ·refine C.dx (cW 30 0 14) 14 [12,13] 0 ?_;refine kD ?_;refine Dr.p (λh=>C.fA rfl h) ?_;refine sV ?_;refine Dr.l (λhE h=>C.dQ rfl h (s:=s) (l:=d1.toList) (f:=aJ) (j:=i)) ?_;refine Dr.l (v:=aD (d1.toList[i]'(by omega))) (λhE h=>C.dd rfl h (s:=s) (l:=d1.toList) (f:=aJ) (j:=i)) ?_;refine kD ?_;refine Dr.l (λhE h=>C.dQ rfl h (s:=s) (l:=d1.toList) (f:=aJ) (j:=a)) ?_;refine Dr.l (v:=aD (d1.toList[a]'(by omega))) (λhE h=>C.dd rfl h (s:=s) (l:=d1.toList) (f:=aJ) (j:=a)) ?_;refine Dr.chain rfl ?_;refine Ch.m 12 (aY λe aa hk=>?_);refine C.cE (fM (x:=(d1.toList[i]'(by omega))) (y:=(d1.toList[a]'(by omega)))) (A:=[]) ?_;refine qY ?_;refine hk _ _ ?_;refine Ch.q 13 (λh=>C.pk rfl h) ?_;refine fP ?_;refine C.xQ (λJa=>?_) (λJa=>?_)
   ·refine gu ?_;exact again ih (i+1) ⟨ai,ai,by rw[R8];exact Rb ai (by rw[yu ai ai];exact Ja)⟩ ai
   ·refine C.go ?_;exact bN GG i ⟨xP,xO,by rw[R8];exact wM (by rw[yu ai ai];rintro⟨_,h⟩;rw[Ja]at h;cases h)⟩
  ·refine C.dx (cW 30 0 14) 14 [12,13] 0 ?_;refine kD ?_;refine Dr.p (λh=>C.dS rfl h) ?_;refine R0 ?_;refine Ch.m 12 (aY λe aa hk=>?_);refine C.no rfl (hk _ _ ?_);refine Ch.q 13 (λh=>C.pk rfl h) ?_;refine oV ?_;exact bN GG i ⟨xP,xO,by rw[R8];exact wM (by rintro⟨h,_⟩;omega)⟩
 ·rintro i ⟨xP,xO,hI⟩ e;apply mj (X:=Nat) (λj=>j<=b-1/\scanDown (λx=> !ltInt x d1[a]!) d1 i (b-1)=j) (λj=>[(0,s.v),(1,aD a),(10,aD i),(11,aD j)]) (λ_=>bG aJ 1 3 s d1.toList::F) (R:=R) (d:=d0) (fn:=210) (kd:=kd) (n:=168) (ds:=[]) (cs:=c::cs)
  ·intro GH;refine C.cu (X:=Nat) (λj=>[(0,s.v),(1,aD a),(10,aD i),(11,aD j)]) (λ_=>bG aJ 1 3 s d1.toList::F) (λj=>j<=b-1/\scanDown (λx=> !ltInt x d1[a]!) d1 i (b-1)=scanDown (λx=> !ltInt x d1[a]!) d1 i j) (λj=>j) (b-1) ⟨rfl,rfl,rfl,rfl,trivial⟩ ⟨e8 _,rfl⟩ ?_;rintro j e ⟨RV,hj3⟩ ih;refine C.go ?_;rcases lH i (j+1)with lF|lF
   ·refine C.dx (cW 46 0 15) 15 [12,13,14] 0 ?_;refine kD ?_;refine Dr.p (λh=>C.fA rfl h) ?_;refine sV ?_;refine Dr.l (λhE h=>C.dQ rfl h (s:=s) (l:=d1.toList) (f:=aJ) (j:=j)) ?_;refine Dr.l (v:=aD (d1.toList[j]'(by omega))) (λhE h=>C.dd rfl h (s:=s) (l:=d1.toList) (f:=aJ) (j:=j)) ?_;refine kD ?_;refine Dr.l (λhE h=>C.dQ rfl h (s:=s) (l:=d1.toList) (f:=aJ) (j:=a)) ?_;refine Dr.l (v:=aD (d1.toList[a]'(by omega))) (λhE h=>C.dd rfl h (s:=s) (l:=d1.toList) (f:=aJ) (j:=a)) ?_;refine Dr.chain rfl ?_;refine Ch.m 12 (aY λe aa hk=>?_);refine C.cE (fM (x:=(d1.toList[j]'(by omega))) (y:=(d1.toList[a]'(by omega)))) (A:=[]) ?_;refine qY ?_;refine hk _ _ ?_;refine Ch.q 13 (λh=>C.nt rfl h) ?_;refine Ch.q 14 (λh=>C.pk rfl h) ?_;refine fP ?_;refine C.xQ (λYw=>?_) (λYw=>?_)
    ·refine C.go ?_;refine bH ?_;refine C.jq (j-1) rfl ?_;refine bH ?_;obtain⟨j,rfl⟩:∃ j',j=j'+1:=⟨j-1,ai⟩;exact again ih j ⟨ai,by rw[hj3];exact Rc ai (by rw[yu ai ai];exact Yw)⟩ ai
    ·refine C.go ?_;exact bN GH j ⟨RV,by rw[hj3];exact wN ai (by rw[yu ai ai];rintro⟨_,h⟩;rw[Yw]at h;cases h)⟩
   ·refine C.dx (cW 46 0 15) 15 [12,13,14] 0 ?_;refine kD ?_;refine Dr.p (λh=>C.dS rfl h) ?_;refine R0 ?_;refine Ch.m 12 (aY λe aa hk=>?_);refine C.no rfl (hk _ _ ?_);refine Ch.q 13 (λh=>C.no rfl h) ?_;refine Ch.q 14 (λh=>C.pk rfl h) ?_;refine oV ?_;exact bN GH j ⟨RV,by rw[hj3];exact wN ai (by rintro⟨h,_⟩;omega)⟩
  ·rintro j ⟨RV,hJ⟩ e;refine dK ?_;refine C.cmp rfl (λh65=>?_) (λh65=>?_)
   ·refine bH ?_;refine C.dx (cW 66 0 13++[(79,14)]) 16 [13,14,15] 0 ?_;refine pF ?_;refine Dr.l (λhE h=>C.dQ rfl h (s:=s) (l:=d1.toList) (f:=aJ) (j:=a)) ?_;refine Dr.l (v:=aD (d1.toList[a]'(by omega))) (λhE h=>C.dd rfl h (s:=s) (l:=d1.toList) (f:=aJ) (j:=a)) ?_;refine kD ?_;refine Dr.l (λhE h=>C.dQ rfl h (s:=s) (l:=d1.toList) (f:=aJ) (j:=j)) ?_;refine Dr.l (v:=aD (d1.toList[j]'(by omega))) (λhE h=>C.dd rfl h (s:=s) (l:=d1.toList) (f:=aJ) (j:=j)) ?_;refine Dr.l (λhE h=>C.dQ rfl h (s:=s) (l:=d1.toList) (f:=aJ) (j:=j)) ?_;refine Dr.chain rfl ?_;refine Ch.m 13 (aY λe aa hk=>?_);refine C.jA (s:=s) (l:=d1.toList) (f:=aJ) (j:=j) (d1.toList[a]'(by omega)) rfl (hk _ undef ?_);refine Ch.m 14 (aY λe aa hk=>?_);refine C.dQ rfl (hk _ _ ?_) (s:=s) (l:=d1.toList.set (j) (d1.toList[a]'(by omega))) (f:=aJ) (j:=a) (hj:=by rw[eg];omega);refine Ch.m 15 (aY λe aa hk=>?_);refine C.jA (s:=s) (l:=d1.toList.set (j) (d1.toList[a]'(by omega))) (f:=aJ) (j:=a) (d1.toList[j]'(by omega)) rfl (hk _ undef ?_) (hj:=by rw[eg];omega);refine PW ?_;rw[hI,hJ,aG ai]at ak;have oB:=gF (d:=d1) (i:=j) (j:=a) ai ai;rw[<- oB];exact C.cm aT ak ⟨rfl,rfl⟩
   ·refine bH ?_;refine C.dx (cW 81 0 13++[(94,14)]) 16 [13,14,15] 0 ?_;refine pF ?_;refine Dr.l (λhE h=>C.dQ rfl h (s:=s) (l:=d1.toList) (f:=aJ) (j:=j)) ?_;refine Dr.l (v:=aD (d1.toList[j]'(by omega))) (λhE h=>C.dd rfl h (s:=s) (l:=d1.toList) (f:=aJ) (j:=j)) ?_;refine kD ?_;refine Dr.l (λhE h=>C.dQ rfl h (s:=s) (l:=d1.toList) (f:=aJ) (j:=i)) ?_;refine Dr.l (v:=aD (d1.toList[i]'(by omega))) (λhE h=>C.dd rfl h (s:=s) (l:=d1.toList) (f:=aJ) (j:=i)) ?_;refine Dr.l (λhE h=>C.dQ rfl h (s:=s) (l:=d1.toList) (f:=aJ) (j:=i)) ?_;refine Dr.chain rfl ?_;refine Ch.m 13 (aY λe aa hk=>?_);refine C.jA (s:=s) (l:=d1.toList) (f:=aJ) (j:=i) (d1.toList[j]'(by omega)) rfl (hk _ undef ?_);refine Ch.m 14 (aY λe aa hk=>?_);refine C.dQ rfl (hk _ _ ?_) (s:=s) (l:=d1.toList.set (i) (d1.toList[j]'(by omega))) (f:=aJ) (j:=j) (hj:=by rw[eg];omega);refine Ch.m 15 (aY λe aa hk=>?_);refine C.jA (s:=s) (l:=d1.toList.set (i) (d1.toList[j]'(by omega))) (f:=aJ) (j:=j) (d1.toList[i]'(by omega)) rfl (hk _ undef ?_) (hj:=by rw[eg];omega);refine PX ?_;refine C.jq (j-1) rfl ?_;refine bH ?_;rw[hI,hJ,ax ai]at ak;have oB:=gF (d:=d1) (i:=i) (j:=j) ai ai;rw[<- oB];obtain⟨d2,VQ⟩:∃ x,x=swp d1 i j:=⟨_,rfl⟩;have qU:d2.size=d.size:=by rw[VQ,swp_size];exact hsz
    rw[<- VQ]at ak⊢;have yP:i<=j:=ai;apply mj (X:=Nat×Array Int) (λx=>x.1<d.size/\x.2.size=d.size/\partLoop ltInt a (i+1) (j-1) d2=x) (λx=>[(0,s.v),(1,aD a),(11,aD x.1)]) (λx=>bG aJ 1 3 s x.2.toList::F) (R:=R) (d:=d0) (fn:=210) (kd:=kd) (n:=168) (ds:=[]) (cs:=c::cs)
    ·intro acf;refine C.cu (X:=Nat×Nat×Array Int) (λx=>[(0,s.v),(1,aD a),(10,aD x.1),(11,aD x.2.1)]) (λx=>bG aJ 1 3 s x.2.2.toList::F) (λx=>a+1<=x.1/\x.1<=d.size+1/\x.2.1<d.size/\x.2.2.size=d.size/\partLoop ltInt a (i+1) (j-1) d2=partLoop ltInt a x.1 x.2.1 x.2.2) (λx=>x.2.1+1-x.1) (i+1,j-1,d2) ⟨rfl,rfl,rfl,rfl,trivial⟩ ⟨dq,dq,dq,qU,rfl⟩ ?_;rintro⟨i1,j1,d4⟩ e ⟨Eh,CZ,RS,NB,Yy⟩ ih;dsimp only at Eh CZ RS NB Yy⊢;have YA:d4.toList.length=d.size:=by simpa using NB
     refine C.go ?_;apply mj (X:=Nat) (λq=>i1<=q/\(q<=j1+1\/q=i1)/\scanUp (λx=>ltInt x d4[a]!) d4 j1 i1=q) (λq=>[(0,s.v),(1,aD a),(10,aD q),(11,aD j1)]) (λ_=>bG aJ 1 3 s d4.toList::F) (R:=R) (d:=d0) (fn:=210) (kd:=kd) (n:=168) (ds:=[]) (cs:=c::cs)
     ·intro Rd;refine C.cu (X:=Nat) (λq=>[(0,s.v),(1,aD a),(10,aD q),(11,aD j1)]) (λ_=>bG aJ 1 3 s d4.toList::F) (λq=>i1<=q/\(q<=j1+1\/q=i1)/\scanUp (λx=>ltInt x d4[a]!) d4 j1 i1=scanUp (λx=>ltInt x d4[a]!) d4 j1 q) (λq=>j1+1-q) i1 ⟨rfl,rfl,rfl,rfl,trivial⟩ ⟨e8 _,.inr rfl,rfl⟩ ?_;rintro i2 e ⟨AH,Re,YB⟩ K3;refine C.go ?_;rcases lH i2 (j1+1)with lF|lF
      ·refine C.dx (cW 99 0 14) 14 [12,13] 0 ?_;refine kD ?_;refine Dr.p (λh=>C.fA rfl h) ?_;refine sV ?_;refine Dr.l (λhE h=>C.dQ rfl h (s:=s) (l:=d4.toList) (f:=aJ) (j:=i2)) ?_;refine Dr.l (v:=aD (d4.toList[i2]'(by omega))) (λhE h=>C.dd rfl h (s:=s) (l:=d4.toList) (f:=aJ) (j:=i2)) ?_;refine kD ?_;refine Dr.l (λhE h=>C.dQ rfl h (s:=s) (l:=d4.toList) (f:=aJ) (j:=a)) ?_;refine Dr.l (v:=aD (d4.toList[a]'(by omega))) (λhE h=>C.dd rfl h (s:=s) (l:=d4.toList) (f:=aJ) (j:=a)) ?_;refine Dr.chain rfl ?_;refine Ch.m 12 (aY λe aa hk=>?_);refine C.cE (fM (x:=(d4.toList[i2]'(by omega))) (y:=(d4.toList[a]'(by omega)))) (A:=[]) ?_;refine qY ?_;refine hk _ _ ?_;refine Ch.q 13 (λh=>C.pk rfl h) ?_;refine fP ?_;refine C.xQ (λRf=>?_) (λRf=>?_)
       ·refine gu ?_;exact again K3 (i2+1) ⟨ai,ai,by rw[YB];exact Rb ai (by rw[yu ai ai];exact Rf)⟩ ai
       ·refine C.go ?_;exact bN Rd i2 ⟨AH,Re,by rw[YB];exact wM (by rw[yu ai ai];rintro⟨_,h⟩;rw[Rf]at h;cases h)⟩
      ·refine C.dx (cW 99 0 14) 14 [12,13] 0 ?_;refine kD ?_;refine Dr.p (λh=>C.dS rfl h) ?_;refine R0 ?_;refine Ch.m 12 (aY λe aa hk=>?_);refine C.no rfl (hk _ _ ?_);refine Ch.q 13 (λh=>C.pk rfl h) ?_;refine oV ?_;exact bN Rd i2 ⟨AH,Re,by rw[YB];exact wM (by rintro⟨h,_⟩;omega)⟩
     ·rintro i2 ⟨AH,Re,hU⟩ e;apply mj (X:=Nat) (λq=>q<=j1/\scanDown (λx=> !ltInt x d4[a]!) d4 i2 j1=q) (λq=>[(0,s.v),(1,aD a),(10,aD i2),(11,aD q)]) (λ_=>bG aJ 1 3 s d4.toList::F) (R:=R) (d:=d0) (fn:=210) (kd:=kd) (n:=168) (ds:=[]) (cs:=c::cs)
      ·intro r9;refine C.cu (X:=Nat) (λq=>[(0,s.v),(1,aD a),(10,aD i2),(11,aD q)]) (λ_=>bG aJ 1 3 s d4.toList::F) (λq=>q<=j1/\scanDown (λx=> !ltInt x d4[a]!) d4 i2 j1=scanDown (λx=> !ltInt x d4[a]!) d4 i2 q) (λq=>q) j1 ⟨rfl,rfl,rfl,rfl,trivial⟩ ⟨e8 _,rfl⟩ ?_;rintro j2 e ⟨qV,YC⟩ ih4;refine C.go ?_;rcases lH i2 (j2+1)with lF|lF
       ·refine C.dx (cW 115 0 15) 15 [12,13,14] 0 ?_;refine kD ?_;refine Dr.p (λh=>C.fA rfl h) ?_;refine sV ?_;refine Dr.l (λhE h=>C.dQ rfl h (s:=s) (l:=d4.toList) (f:=aJ) (j:=j2)) ?_;refine Dr.l (v:=aD (d4.toList[j2]'(by omega))) (λhE h=>C.dd rfl h (s:=s) (l:=d4.toList) (f:=aJ) (j:=j2)) ?_;refine kD ?_;refine Dr.l (λhE h=>C.dQ rfl h (s:=s) (l:=d4.toList) (f:=aJ) (j:=a)) ?_;refine Dr.l (v:=aD (d4.toList[a]'(by omega))) (λhE h=>C.dd rfl h (s:=s) (l:=d4.toList) (f:=aJ) (j:=a)) ?_;refine Dr.chain rfl ?_;refine Ch.m 12 (aY λe aa hk=>?_);refine C.cE (fM (x:=(d4.toList[j2]'(by omega))) (y:=(d4.toList[a]'(by omega)))) (A:=[]) ?_;refine qY ?_;refine hk _ _ ?_;refine Ch.q 13 (λh=>C.nt rfl h) ?_;refine Ch.q 14 (λh=>C.pk rfl h) ?_;refine fP ?_;refine C.xQ (λRg=>?_) (λRg=>?_)
        ·refine C.go ?_;refine bH ?_;refine C.jq (j2-1) rfl ?_;refine bH ?_;obtain⟨j2,rfl⟩:∃ j',j2=j'+1:=⟨j2-1,ai⟩;exact again ih4 j2 ⟨ai,by rw[YC];exact Rc ai (by rw[yu ai ai];exact Rg)⟩ ai
        ·refine C.go ?_;exact bN r9 j2 ⟨qV,by rw[YC];exact wN ai (by rw[yu ai ai];rintro⟨_,h⟩;rw[Rg]at h;cases h)⟩
       ·refine C.dx (cW 115 0 15) 15 [12,13,14] 0 ?_;refine kD ?_;refine Dr.p (λh=>C.dS rfl h) ?_;refine R0 ?_;refine Ch.m 12 (aY λe aa hk=>?_);refine C.no rfl (hk _ _ ?_);refine Ch.q 13 (λh=>C.no rfl h) ?_;refine Ch.q 14 (λh=>C.pk rfl h) ?_;refine oV ?_;exact bN r9 j2 ⟨qV,by rw[YC];exact wN ai (by rintro⟨h,_⟩;omega)⟩
      ·rintro j2 ⟨qV,hV⟩ e;refine dK ?_;refine C.cmp rfl (λafU=>?_) (λafU=>?_)
       ·refine bH ?_;exact bN acf (j2,d4) ⟨dq,NB,by rw[Yy,Yv hU hV ai]⟩
       ·refine bH ?_;refine C.dx (cW 135 0 13++[(148,14)]) 16 [13,14,15] 0 ?_;refine pF ?_;refine Dr.l (λhE h=>C.dQ rfl h (s:=s) (l:=d4.toList) (f:=aJ) (j:=j2)) ?_;refine Dr.l (v:=aD (d4.toList[j2]'(by omega))) (λhE h=>C.dd rfl h (s:=s) (l:=d4.toList) (f:=aJ) (j:=j2)) ?_;refine kD ?_;refine Dr.l (λhE h=>C.dQ rfl h (s:=s) (l:=d4.toList) (f:=aJ) (j:=i2)) ?_;refine Dr.l (v:=aD (d4.toList[i2]'(by omega))) (λhE h=>C.dd rfl h (s:=s) (l:=d4.toList) (f:=aJ) (j:=i2)) ?_;refine Dr.l (λhE h=>C.dQ rfl h (s:=s) (l:=d4.toList) (f:=aJ) (j:=i2)) ?_;refine Dr.chain rfl ?_;refine Ch.m 13 (aY λe aa hk=>?_);refine C.jA (s:=s) (l:=d4.toList) (f:=aJ) (j:=i2) (d4.toList[j2]'(by omega)) rfl (hk _ undef ?_);refine Ch.m 14 (aY λe aa hk=>?_);refine C.dQ rfl (hk _ _ ?_) (s:=s) (l:=d4.toList.set (i2) (d4.toList[j2]'(by omega))) (f:=aJ) (j:=j2) (hj:=by rw[eg];omega);refine Ch.m 15 (aY λe aa hk=>?_);refine C.jA (s:=s) (l:=d4.toList.set (i2) (d4.toList[j2]'(by omega))) (f:=aJ) (j:=j2) (d4.toList[i2]'(by omega)) rfl (hk _ undef ?_) (hj:=by rw[eg];omega);refine PX ?_;refine C.jq (j2-1) rfl ?_;refine bH ?_;have oB:=gF (d:=d4) (i:=i2) (j:=j2) ai ai;exact again ih (i2+1,j2-1,swp d4 i2 j2) ⟨dq,dq,dq,by dsimp only;rw[swp_size];exact NB,by rw[Yy,ace hU hV ai ai]⟩ (dq) (hr:=by dsimp only;rw[oB];exact cV.au)
    ·rintro⟨q,d3⟩ ⟨hq1,Ej,Yr⟩ e;have aki:d3.toList.length=d.size:=by simpa using Ej
     dsimp only at hq1 Ej Yr⊢;rw[Yr]at ak;refine C.dx (cW 153 0 13++[(166,14)]) 16 [13,14,15] 0 ?_;refine pF ?_;refine Dr.l (λhE h=>C.dQ rfl h (s:=s) (l:=d3.toList) (f:=aJ) (j:=a)) ?_;refine Dr.l (v:=aD (d3.toList[a]'(by omega))) (λhE h=>C.dd rfl h (s:=s) (l:=d3.toList) (f:=aJ) (j:=a)) ?_;refine kD ?_;refine Dr.l (λhE h=>C.dQ rfl h (s:=s) (l:=d3.toList) (f:=aJ) (j:=q)) ?_;refine Dr.l (v:=aD (d3.toList[q]'(by omega))) (λhE h=>C.dd rfl h (s:=s) (l:=d3.toList) (f:=aJ) (j:=q)) ?_;refine Dr.l (λhE h=>C.dQ rfl h (s:=s) (l:=d3.toList) (f:=aJ) (j:=q)) ?_;refine Dr.chain rfl ?_;refine Ch.m 13 (aY λe aa hk=>?_);refine C.jA (s:=s) (l:=d3.toList) (f:=aJ) (j:=q) (d3.toList[a]'(by omega)) rfl (hk _ undef ?_);refine Ch.m 14 (aY λe aa hk=>?_);refine C.dQ rfl (hk _ _ ?_) (s:=s) (l:=d3.toList.set (q) (d3.toList[a]'(by omega))) (f:=aJ) (j:=a) (hj:=by rw[eg];omega);refine Ch.m 15 (aY λe aa hk=>?_);refine C.jA (s:=s) (l:=d3.toList.set (q) (d3.toList[a]'(by omega))) (f:=aJ) (j:=a) (d3.toList[q]'(by omega)) rfl (hk _ undef ?_) (hj:=by rw[eg];omega);refine PW ?_;have oB:=gF (d:=d3) (i:=q) (j:=a) ai ai;rw[<- oB];exact C.cm aT ak ⟨rfl,rfl⟩
end
section
open Go.Proofs Go.Sort
variable{ao:Bool}
theorem YD{a i j i2 j2:Nat}{d:Array Int}(hU:scanUp (λx=> !ltInt d[a]! x) d j i=i2)(hV:scanDown (λx=>ltInt d[a]! x) d i2 j=j2)(h:i2>j2):partEqLoop ltInt a i j d=(i2,d):=by
 unfold partEqLoop;rw[hU]
 (try dsimp only)
 rw[hV]
 (try dsimp only)
 rw[aG h]
theorem ach{a i j i2 j2:Nat}{d:Array Int}(hU:scanUp (λx=> !ltInt d[a]! x) d j i=i2)(hV:scanDown (λx=>ltInt d[a]! x) d i2 j=j2)(h:¬ i2>j2)(hg:(j2-1)+1-(i2+1)<j+1-i):partEqLoop ltInt a i j d=partEqLoop ltInt a (i2+1) (j2-1) (swp d i2 j2):=by
 conv=>lhs;unfold partEqLoop
 rw[hU]
 (try dsimp only)
 rw[hV]
 (try dsimp only)
 rw[ax h,yC hg]
theorem GI{s:az}{d:Array Int}{a b pv:Nat}(Dq:a<b)(hb:b<=d.size)(Xx:pv<d.size)(hl:d.size<2^40):
  aI prog ao cH 209 #[s.v,aD a,aD b,aD pv] [bG aJ 1 3 s d.toList] (λv As=>v=aD (partitionEqual ltInt d a b pv).1/\As=[bG aJ 1 3 s (partitionEqual ltInt d a b pv).2.toList]):=by
 refine aI.of λR C kd d0 F c cs aT ak=>?_;refine cr ?_;have Hl:d.toList.length=d.size:=by simp
 have hsz:(swp d a pv).size=d.size:=swp_size;refine dX ?_;refine C.dx (cW 11 0 13++[(24,14)]) 16 [13,14,15] 0 ?_;refine pF ?_;refine Dr.l (λhE h=>C.dQ rfl h (s:=s) (l:=d.toList) (f:=aJ) (j:=pv)) ?_;refine Dr.l (v:=aD (d.toList[pv]'(by omega))) (λhE h=>C.dd rfl h (s:=s) (l:=d.toList) (f:=aJ) (j:=pv)) ?_;refine kD ?_;refine Dr.l (λhE h=>C.dQ rfl h (s:=s) (l:=d.toList) (f:=aJ) (j:=a)) ?_;refine Dr.l (v:=aD (d.toList[a]'(by omega))) (λhE h=>C.dd rfl h (s:=s) (l:=d.toList) (f:=aJ) (j:=a)) ?_;refine Dr.l (λhE h=>C.dQ rfl h (s:=s) (l:=d.toList) (f:=aJ) (j:=a)) ?_;refine Dr.chain rfl ?_;refine Ch.m 13 (aY λe aa hk=>?_);refine C.jA (s:=s) (l:=d.toList) (f:=aJ) (j:=a) (d.toList[pv]'(by omega)) rfl (hk _ undef ?_);refine Ch.m 14 (aY λe aa hk=>?_);refine C.dQ rfl (hk _ _ ?_) (s:=s) (l:=d.toList.set (a) (d.toList[pv]'(by omega))) (f:=aJ) (j:=pv) (hj:=by rw[eg];omega);refine Ch.m 15 (aY λe aa hk=>?_);refine C.jA (s:=s) (l:=d.toList.set (a) (d.toList[pv]'(by omega))) (f:=aJ) (j:=pv) (d.toList[a]'(by omega)) rfl (hk _ undef ?_) (hj:=by rw[eg];omega);refine fP ?_;have oB:=gF (d:=d) (i:=a) (j:=pv) ai ai;rw[<- oB];unfold partitionEqual at ak;obtain⟨d1,wY⟩:∃ x,x=swp d a pv:=⟨_,rfl⟩;rw[<- wY]at ak hsz⊢;refine bH ?_;refine C.jq (a+1) rfl ?_;refine fG ?_;refine C.jq (b-1) rfl ?_;refine dK ?_;apply mj (X:=Nat×Array Int) (λx=>partEqLoop ltInt a (a+1) (b-1) d1=x) (λx=>[(9,aD x.1)]) (λx=>bG aJ 1 3 s x.2.toList::F) (R:=R) (d:=d0) (fn:=209) (kd:=kd) (n:=84) (ds:=[]) (cs:=c::cs)
 ·intro aci;refine C.cu (X:=Nat×Nat×Array Int) (λx=>[(0,s.v),(1,aD a),(9,aD x.1),(10,aD x.2.1)]) (λx=>bG aJ 1 3 s x.2.2.toList::F) (λx=>a+1<=x.1/\x.1<=d.size+1/\x.2.1<d.size/\x.2.2.size=d.size/\partEqLoop ltInt a (a+1) (b-1) d1=partEqLoop ltInt a x.1 x.2.1 x.2.2) (λx=>x.2.1+1-x.1) (a+1,b-1,d1) ⟨rfl,rfl,rfl,rfl,trivial⟩ ⟨dq,dq,dq,hsz,rfl⟩ ?_;rintro⟨i1,j1,d4⟩ e ⟨Eh,CZ,RS,NB,Yy⟩ ih;dsimp only at Eh CZ RS NB Yy⊢;have YA:d4.toList.length=d.size:=by simpa using NB
  refine C.go ?_;apply mj (X:=Nat) (λq=>i1<=q/\(q<=j1+1\/q=i1)/\scanUp (λx=> !ltInt d4[a]! x) d4 j1 i1=q) (λq=>[(0,s.v),(1,aD a),(9,aD q),(10,aD j1)]) (λ_=>bG aJ 1 3 s d4.toList::F) (R:=R) (d:=d0) (fn:=209) (kd:=kd) (n:=84) (ds:=[]) (cs:=c::cs)
  ·intro GG;refine C.cu (X:=Nat) (λq=>[(0,s.v),(1,aD a),(9,aD q),(10,aD j1)]) (λ_=>bG aJ 1 3 s d4.toList::F) (λq=>i1<=q/\(q<=j1+1\/q=i1)/\scanUp (λx=> !ltInt d4[a]! x) d4 j1 i1=scanUp (λx=> !ltInt d4[a]! x) d4 j1 q) (λq=>j1+1-q) i1 ⟨rfl,rfl,rfl,rfl,trivial⟩ ⟨e8 _,.inr rfl,rfl⟩ ?_;rintro i2 e ⟨AH,Re,YB⟩ K3;refine C.go ?_;rcases lH i2 (j1+1)with lF|lF
   ·refine C.dx (cW 29 0 15) 15 [12,13,14] 0 ?_;refine kD ?_;refine Dr.p (λh=>C.fA rfl h) ?_;refine sV ?_;refine Dr.l (λhE h=>C.dQ rfl h (s:=s) (l:=d4.toList) (f:=aJ) (j:=a)) ?_;refine Dr.l (v:=aD (d4.toList[a]'(by omega))) (λhE h=>C.dd rfl h (s:=s) (l:=d4.toList) (f:=aJ) (j:=a)) ?_;refine kD ?_;refine Dr.l (λhE h=>C.dQ rfl h (s:=s) (l:=d4.toList) (f:=aJ) (j:=i2)) ?_;refine Dr.l (v:=aD (d4.toList[i2]'(by omega))) (λhE h=>C.dd rfl h (s:=s) (l:=d4.toList) (f:=aJ) (j:=i2)) ?_;refine Dr.chain rfl ?_;refine Ch.m 12 (aY λe aa hk=>?_);refine C.cE (fM (x:=(d4.toList[a]'(by omega))) (y:=(d4.toList[i2]'(by omega)))) (A:=[]) ?_;refine qY ?_;refine hk _ _ ?_;refine Ch.q 13 (λh=>C.nt rfl h) ?_;refine Ch.q 14 (λh=>C.pk rfl h) ?_;refine fP ?_;refine C.xQ (λJa=>?_) (λJa=>?_)
    ·refine gu ?_;exact again K3 (i2+1) ⟨ai,ai,by rw[YB];exact Rb ai (by rw[yu ai ai];exact Ja)⟩ ai
    ·refine C.go ?_;exact bN GG i2 ⟨AH,Re,by rw[YB];exact wM (by rw[yu ai ai];rintro⟨_,h⟩;rw[Ja]at h;cases h)⟩
   ·refine C.dx (cW 29 0 15) 15 [12,13,14] 0 ?_;refine kD ?_;refine Dr.p (λh=>C.dS rfl h) ?_;refine R0 ?_;refine Ch.m 12 (aY λe aa hk=>?_);refine C.no rfl (hk _ _ ?_);refine Ch.q 13 (λh=>C.no rfl h) ?_;refine Ch.q 14 (λh=>C.pk rfl h) ?_;refine oV ?_;exact bN GG i2 ⟨AH,Re,by rw[YB];exact wM (by rintro⟨h,_⟩;omega)⟩
  ·rintro i2 ⟨AH,Re,hU⟩ e;apply mj (X:=Nat) (λq=>q<=j1/\scanDown (λx=>ltInt d4[a]! x) d4 i2 j1=q) (λq=>[(0,s.v),(1,aD a),(9,aD i2),(10,aD q)]) (λ_=>bG aJ 1 3 s d4.toList::F) (R:=R) (d:=d0) (fn:=209) (kd:=kd) (n:=84) (ds:=[]) (cs:=c::cs)
   ·intro GH;refine C.cu (X:=Nat) (λq=>[(0,s.v),(1,aD a),(9,aD i2),(10,aD q)]) (λ_=>bG aJ 1 3 s d4.toList::F) (λq=>q<=j1/\scanDown (λx=>ltInt d4[a]! x) d4 i2 j1=scanDown (λx=>ltInt d4[a]! x) d4 i2 q) (λq=>q) j1 ⟨rfl,rfl,rfl,rfl,trivial⟩ ⟨e8 _,rfl⟩ ?_;rintro j2 e ⟨qV,YC⟩ ih4;refine C.go ?_;rcases lH i2 (j2+1)with lF|lF
    ·refine C.dx (cW 46 0 14) 14 [12,13] 0 ?_;refine kD ?_;refine Dr.p (λh=>C.fA rfl h) ?_;refine sV ?_;refine Dr.l (λhE h=>C.dQ rfl h (s:=s) (l:=d4.toList) (f:=aJ) (j:=a)) ?_;refine Dr.l (v:=aD (d4.toList[a]'(by omega))) (λhE h=>C.dd rfl h (s:=s) (l:=d4.toList) (f:=aJ) (j:=a)) ?_;refine kD ?_;refine Dr.l (λhE h=>C.dQ rfl h (s:=s) (l:=d4.toList) (f:=aJ) (j:=j2)) ?_;refine Dr.l (v:=aD (d4.toList[j2]'(by omega))) (λhE h=>C.dd rfl h (s:=s) (l:=d4.toList) (f:=aJ) (j:=j2)) ?_;refine Dr.chain rfl ?_;refine Ch.m 12 (aY λe aa hk=>?_);refine C.cE (fM (x:=(d4.toList[a]'(by omega))) (y:=(d4.toList[j2]'(by omega)))) (A:=[]) ?_;refine qY ?_;refine hk _ _ ?_;refine Ch.q 13 (λh=>C.pk rfl h) ?_;refine fP ?_;refine C.xQ (λYE=>?_) (λYE=>?_)
     ·refine C.go ?_;refine bH ?_;refine C.jq (j2-1) rfl ?_;refine bH ?_;obtain⟨j2,rfl⟩:∃ j',j2=j'+1:=⟨j2-1,ai⟩;exact again ih4 j2 ⟨ai,by rw[YC];exact Rc ai (by rw[yu ai ai];exact YE)⟩ ai
     ·refine C.go ?_;exact bN GH j2 ⟨qV,by rw[YC];exact wN ai (by rw[yu ai ai];rintro⟨_,h⟩;rw[YE]at h;cases h)⟩
    ·refine C.dx (cW 46 0 14) 14 [12,13] 0 ?_;refine kD ?_;refine Dr.p (λh=>C.dS rfl h) ?_;refine R0 ?_;refine Ch.m 12 (aY λe aa hk=>?_);refine C.no rfl (hk _ _ ?_);refine Ch.q 13 (λh=>C.pk rfl h) ?_;refine oV ?_;exact bN GH j2 ⟨qV,by rw[YC];exact wN ai (by rintro⟨h,_⟩;omega)⟩
   ·rintro j2 ⟨qV,hV⟩ e;refine dK ?_;refine C.cmp rfl (λh64=>?_) (λh64=>?_)
    ·refine bH ?_;exact bN aci (i2,d4) (by rw[Yy,YD hU hV ai])
    ·refine bH ?_;refine C.dx (cW 65 0 13++[(78,14)]) 16 [13,14,15] 0 ?_;refine pF ?_;refine Dr.l (λhE h=>C.dQ rfl h (s:=s) (l:=d4.toList) (f:=aJ) (j:=j2)) ?_;refine Dr.l (v:=aD (d4.toList[j2]'(by omega))) (λhE h=>C.dd rfl h (s:=s) (l:=d4.toList) (f:=aJ) (j:=j2)) ?_;refine kD ?_;refine Dr.l (λhE h=>C.dQ rfl h (s:=s) (l:=d4.toList) (f:=aJ) (j:=i2)) ?_;refine Dr.l (v:=aD (d4.toList[i2]'(by omega))) (λhE h=>C.dd rfl h (s:=s) (l:=d4.toList) (f:=aJ) (j:=i2)) ?_;refine Dr.l (λhE h=>C.dQ rfl h (s:=s) (l:=d4.toList) (f:=aJ) (j:=i2)) ?_;refine Dr.chain rfl ?_;refine Ch.m 13 (aY λe aa hk=>?_);refine C.jA (s:=s) (l:=d4.toList) (f:=aJ) (j:=i2) (d4.toList[j2]'(by omega)) rfl (hk _ undef ?_);refine Ch.m 14 (aY λe aa hk=>?_);refine C.dQ rfl (hk _ _ ?_) (s:=s) (l:=d4.toList.set (i2) (d4.toList[j2]'(by omega))) (f:=aJ) (j:=j2) (hj:=by rw[eg];omega);refine Ch.m 15 (aY λe aa hk=>?_);refine C.jA (s:=s) (l:=d4.toList.set (i2) (d4.toList[j2]'(by omega))) (f:=aJ) (j:=j2) (d4.toList[i2]'(by omega)) rfl (hk _ undef ?_) (hj:=by rw[eg];omega);refine PX ?_;refine C.jq (j2-1) rfl ?_;refine bH ?_;have oB:=gF (d:=d4) (i:=i2) (j:=j2) ai ai;exact again ih (i2+1,j2-1,swp d4 i2 j2) ⟨dq,dq,dq,by dsimp only;rw[swp_size];exact NB,by rw[Yy,ach hU hV ai ai]⟩ (dq) (hr:=by dsimp only;rw[oB];exact cV.au)
 ·rintro⟨q,d3⟩ Yr e;refine dX ?_;rw[Yr]at ak;exact C.cm aT ak ⟨rfl,rfl⟩
end
section
open Go.Proofs Go.Sort
variable{ao:Bool}
theorem acj{b i:Nat}{d:Array Int}(h:i<b)(hp:ltInt d[i]! d[i-1]! =false):scanSorted ltInt d b i=scanSorted ltInt d b (i+1):=by
 conv=>lhs;unfold scanSorted
 rw[aG (by simp[h,hp])]
theorem Rh{b i:Nat}{d:Array Int}(h:¬ (i<b/\ltInt d[i]! d[i-1]! =false)):scanSorted ltInt d b i=i:=by unfold scanSorted;rw[ax (by simpa using h)]
theorem acm{b j:Nat}{d:Array Int}(h:j<b)(hp:ltInt d[j]! d[j-1]! =true):shiftUp ltInt b j d=shiftUp ltInt b (j+1) (swp d j (j-1)):=by
 conv=>lhs;unfold shiftUp
 rw[aG h,ax (by simp[hp])]
theorem Ri{b j:Nat}{d:Array Int}(h:¬ (j<b/\ltInt d[j]! d[j-1]! =true)):shiftUp ltInt b j d=d:=by
 unfold shiftUp;split
 ·rename_i h1;rw[aG (by
   cases hz:ltInt d[j]! d[j-1]! with
   |false=>rfl
   |true=>exact absurd ⟨h1,hz⟩ h)]
 ·rfl
theorem M0{s:az}{d:Array Int}{a b:Nat}(Dq:a<b)(hb:b<=d.size)(hl:d.size<2^40):
  aI prog ao cH 207 #[s.v,aD a,aD b] [bG aJ 1 3 s d.toList] (λv As=>v=.bool (partialInsertionSort ltInt d a b).2/\As=[bG aJ 1 3 s (partialInsertionSort ltInt d a b).1.toList]):=by
 refine aI.of λR C kd d0 F c cs aT ak=>?_;refine cr ?_;unfold partialInsertionSort at ak;refine gu ?_;refine C.jq (a+1) rfl ?_;refine eP ?_;refine C.cu (X:=Nat×Nat×Array Int) (λx=>[(0,s.v),(1,aD a),(2,aD b),(7,aD x.2.1),(8,aD x.1)]) (λx=>bG aJ 1 3 s x.2.2.toList::F) (λx=>x.1<=5/\a+1<=x.2.1/\x.2.1<=b/\x.2.2.size=d.size/\partialIns ltInt a b 5 (a+1) d=partialIns ltInt a b (5-x.1) x.2.1 x.2.2) (λx=>5-x.1) (0,a+1,d) ⟨rfl,rfl,rfl,rfl,rfl,trivial⟩ ⟨eW _,e8 _,Dq,rfl,rfl⟩ ?_;rintro⟨m,i0,d1⟩ e ⟨hm,EJ,xP,gT,ho⟩ ih;dsimp only at hm EJ xP gT ho⊢;have Hl:d1.toList.length=d.size:=by simpa using gT
 refine dK ?_;refine C.cmp rfl (λvz=>?_) (λvz=>?_)
 ·refine bH ?_;obtain⟨r,hr⟩:∃ r,5-m=r+1:=⟨4-m,ai⟩;rw[hr]at ho;apply mj (X:=Nat) (λq=>a+1<=q/\q<=b/\scanSorted ltInt d1 b i0=q) (λq=>[(0,s.v),(1,aD a),(2,aD b),(7,aD q),(8,aD m)]) (λ_=>bG aJ 1 3 s d1.toList::F) (R:=R) (d:=d0) (fn:=207) (kd:=kd) (n:=133) (ds:=[]) (cs:=c::cs)
  ·intro GH;refine C.cu (X:=Nat) (λq=>[(0,s.v),(1,aD a),(2,aD b),(7,aD q),(8,aD m)]) (λ_=>bG aJ 1 3 s d1.toList::F) (λq=>a+1<=q/\q<=b/\scanSorted ltInt d1 b i0=scanSorted ltInt d1 b q) (λq=>b-q) i0 ⟨rfl,rfl,rfl,rfl,rfl,trivial⟩ ⟨EJ,xP,rfl⟩ ?_;rintro i e ⟨xO,R8,hi4⟩ yd;refine C.go ?_;rcases lH i b with lF|lF
   ·refine C.dx (cW 17 0 16) 16 [13,14,15] 0 ?_;refine kD ?_;refine Dr.p (λh=>C.fA rfl h) ?_;refine sV ?_;refine Dr.l (λhE h=>C.dQ rfl h (s:=s) (l:=d1.toList) (f:=aJ) (j:=i)) ?_;refine Dr.l (v:=aD (d1.toList[i]'(by omega))) (λhE h=>C.dd rfl h (s:=s) (l:=d1.toList) (f:=aJ) (j:=i)) ?_;refine kD ?_;refine Dr.p (v:=aD ((i-1:Nat):Int)) (λh=>C.jq (i-1) rfl h) ?_;refine Dr.l (λhE h=>C.dQ rfl h (s:=s) (l:=d1.toList) (f:=aJ) (j:=i-1)) ?_;refine Dr.l (v:=aD (d1.toList[i-1]'(by omega))) (λhE h=>C.dd rfl h (s:=s) (l:=d1.toList) (f:=aJ) (j:=i-1)) ?_;refine Dr.chain rfl ?_;refine Ch.m 13 (aY λe aa hk=>?_);refine C.cE (fM (x:=(d1.toList[i]'(by omega))) (y:=(d1.toList[i-1]'(by omega)))) (A:=[]) ?_;refine qY ?_;refine hk _ _ ?_;refine Ch.q 14 (λh=>C.nt rfl h) ?_;refine Ch.q 15 (λh=>C.pk rfl h) ?_;refine fP ?_;refine C.xQ (λUi=>?_) (λUi=>?_)
    ·refine gu ?_;exact again yd (i+1) ⟨ai,ai,by rw[hi4];exact acj lF (by rw[yu ai ai];simpa using Ui)⟩ ai
    ·refine C.go ?_;exact bN GH i ⟨xO,R8,by rw[hi4];exact Rh (by rw[yu ai ai];rintro⟨_,h⟩;rw[h]at Ui;cases Ui)⟩
   ·refine C.dx (cW 17 0 16) 16 [13,14,15] 0 ?_;refine kD ?_;refine Dr.p (λh=>C.dS rfl h) ?_;refine H5 ?_;refine Ch.m 13 (aY λe aa hk=>?_);refine C.no rfl (hk _ _ ?_);refine Ch.q 14 (λh=>C.no rfl h) ?_;refine Ch.q 15 (λh=>C.pk rfl h) ?_;refine oV ?_;exact bN GH i ⟨xO,R8,by rw[hi4];exact Rh (by rintro⟨h,_⟩;omega)⟩
  ·rintro i ⟨xO,R8,hS⟩ e;refine dK ?_;refine C.cmp rfl (λh37=>?_) (λh37=>?_)
   ·refine eP ?_;obtain rfl:i=b:=ai;have e1:partialIns ltInt a i (r+1) i0 d1=(d1,true):=by unfold partialIns;dsimp only;rw[hS,aG rfl]
    rw[ho,e1]at ak;exact C.cm aT ak ⟨rfl,rfl⟩
   ·refine C.go ?_;refine dX ?_;refine C.jq (b-a) rfl ?_;refine C.cmp rfl (λh41=>?_) (λh41=>?_)
    ·refine eP ?_;have e1:partialIns ltInt a b (r+1) i0 d1=(d1,false):=by unfold partialIns;dsimp only;rw[hS,ax ai,aG ai]
     rw[ho,e1]at ak;exact C.cm aT ak ⟨rfl,rfl⟩
    ·refine bH ?_;obtain⟨i,rfl⟩:∃ i',i=i'+1:=⟨i-1,ai⟩;refine C.dx (cW 42 0 15++[(57,16)]) 18 [15,16,17] 0 ?_;refine H4 ?_;refine Dr.p (v:=aD ((i:Nat):Int)) (λh=>C.jq i rfl h) ?_;refine kD ?_;refine Dr.p (v:=aD ((i:Nat):Int)) (λh=>C.jq i rfl h) ?_;refine Dr.l (λhE h=>C.dQ rfl h (s:=s) (l:=d1.toList) (f:=aJ) (j:=i)) ?_;refine Dr.l (v:=aD (d1.toList[i]'(by omega))) (λhE h=>C.dd rfl h (s:=s) (l:=d1.toList) (f:=aJ) (j:=i)) ?_;refine kD ?_;refine Dr.l (λhE h=>C.dQ rfl h (s:=s) (l:=d1.toList) (f:=aJ) (j:=i+1)) ?_;refine Dr.l (v:=aD (d1.toList[i+1]'(by omega))) (λhE h=>C.dd rfl h (s:=s) (l:=d1.toList) (f:=aJ) (j:=i+1)) ?_;refine Dr.l (λhE h=>C.dQ rfl h (s:=s) (l:=d1.toList) (f:=aJ) (j:=i+1)) ?_;refine Dr.chain rfl ?_;refine Ch.m 15 (aY λe aa hk=>?_);refine C.jA (s:=s) (l:=d1.toList) (f:=aJ) (j:=i+1) (d1.toList[i]'(by omega)) rfl (hk _ undef ?_);refine Ch.m 16 (aY λe aa hk=>?_);refine C.dQ rfl (hk _ _ ?_) (s:=s) (l:=d1.toList.set (i+1) (d1.toList[i]'(by omega))) (f:=aJ) (j:=i) (hj:=by rw[eg];omega);refine Ch.m 17 (aY λe aa hk=>?_);refine C.jA (s:=s) (l:=d1.toList.set (i+1) (d1.toList[i]'(by omega))) (f:=aJ) (j:=i) (d1.toList[i+1]'(by omega)) rfl (hk _ undef ?_) (hj:=by rw[eg];omega);refine fP ?_;have oB:=gF (d:=d1) (i:=i+1) (j:=i) ai ai;rw[<- oB];obtain⟨d2,VQ⟩:∃ x,x=swp d1 (i+1) i:=⟨_,rfl⟩;have qU:d2.size=d.size:=by rw[VQ,swp_size];exact gT
     have U9:partialIns ltInt a b (r+1) i0 d1=partialIns ltInt a b r (i+1) (if b-(i+1)>=2 then shiftUp ltInt b (i+1+1) (if i+1-a>=2 then shiftDown ltInt i d2 else d2)else(if i+1-a>=2 then shiftDown ltInt i d2 else d2)):=by
      conv=>lhs;unfold partialIns
      dsimp only;rw[hS,ax ai,ax ai,VQ];rfl
     rw[<- VQ];apply mj (X:=Array Int) (λx=>x.size=d.size/\(if i+1-a>=2 then shiftDown ltInt i d2 else d2)=x) (λ_=>[(0,s.v),(1,aD a),(2,aD b),(7,aD ((i+1:Nat):Int)),(8,aD m)]) (λx=>bG aJ 1 3 s x.toList::F) (R:=R) (d:=d0) (fn:=207) (kd:=kd) (n:=133) (ds:=[]) (cs:=c::cs)
     ·intro Rj;refine dK ?_;refine C.jq (i+1-a) rfl ?_;refine C.cmp rfl (λDI=>?_) (λDI=>?_)
      ·refine C.go ?_;refine dK ?_;refine C.jq i rfl ?_;refine bH ?_;refine C.cu (X:=Nat×Array Int) (λx=>[(0,s.v),(1,aD a),(2,aD b),(7,aD ((i+1:Nat):Int)),(8,aD m),(9,aD x.1)]) (λx=>bG aJ 1 3 s x.2.toList::F) (λx=>x.1<=i/\x.2.size=d.size/\shiftDown ltInt i d2=shiftDown ltInt x.1 x.2) (λx=>x.1) (i,d2) ⟨rfl,rfl,rfl,rfl,rfl,rfl,trivial⟩ ⟨e8 _,qU,rfl⟩ ?_;rintro⟨j,d4⟩ e ⟨hj,Hd,Uj⟩ K3;dsimp only at hj Hd Uj⊢;have YA:d4.toList.length=d.size:=by simpa using Hd
       refine dK ?_;refine C.cmp rfl (λh65=>?_) (λh65=>?_)
       ·refine bH ?_;obtain⟨j,rfl⟩:∃ j',j=j'+1:=⟨j-1,ai⟩;refine C.dx (cW 68 0 11) 11 [9,10] 0 ?_;refine kD ?_;refine Dr.l (λhE h=>C.dQ rfl h (s:=s) (l:=d4.toList) (f:=aJ) (j:=j+1)) ?_;refine Dr.l (v:=aD (d4.toList[j+1]'(by omega))) (λhE h=>C.dd rfl h (s:=s) (l:=d4.toList) (f:=aJ) (j:=j+1)) ?_;refine kD ?_;refine Dr.p (v:=aD ((j:Nat):Int)) (λh=>C.jq j rfl h) ?_;refine Dr.l (λhE h=>C.dQ rfl h (s:=s) (l:=d4.toList) (f:=aJ) (j:=j)) ?_;refine Dr.l (v:=aD (d4.toList[j]'(by omega))) (λhE h=>C.dd rfl h (s:=s) (l:=d4.toList) (f:=aJ) (j:=j)) ?_;refine Dr.chain rfl ?_;refine Ch.m 9 (aY λe aa hk=>?_);refine C.cE (fM (x:=(d4.toList[j+1]'(by omega))) (y:=(d4.toList[j]'(by omega)))) (A:=[]) ?_;refine qY ?_;refine hk _ _ ?_;refine Ch.q 10 (λh=>C.nt rfl h) ?_;refine fP ?_;refine C.xQ (λYF=>?_) (λYF=>?_)
        ·refine C.go ?_;exact bN Rj d4 ⟨Hd,by rw[aG ai,Uj];unfold shiftDown;rw[aG (by rw[yu ai ai];exact YF)]⟩
        ·refine C.go ?_;refine C.dx (cW 79 0 15++[(94,16)]) 18 [15,16,17] 0 ?_;refine H4 ?_;refine Dr.p (v:=aD ((j:Nat):Int)) (λh=>C.jq j rfl h) ?_;refine kD ?_;refine Dr.p (v:=aD ((j:Nat):Int)) (λh=>C.jq j rfl h) ?_;refine Dr.l (λhE h=>C.dQ rfl h (s:=s) (l:=d4.toList) (f:=aJ) (j:=j)) ?_;refine Dr.l (v:=aD (d4.toList[j]'(by omega))) (λhE h=>C.dd rfl h (s:=s) (l:=d4.toList) (f:=aJ) (j:=j)) ?_;refine kD ?_;refine Dr.l (λhE h=>C.dQ rfl h (s:=s) (l:=d4.toList) (f:=aJ) (j:=j+1)) ?_;refine Dr.l (v:=aD (d4.toList[j+1]'(by omega))) (λhE h=>C.dd rfl h (s:=s) (l:=d4.toList) (f:=aJ) (j:=j+1)) ?_;refine Dr.l (λhE h=>C.dQ rfl h (s:=s) (l:=d4.toList) (f:=aJ) (j:=j+1)) ?_;refine Dr.chain rfl ?_;refine Ch.m 15 (aY λe aa hk=>?_);refine C.jA (s:=s) (l:=d4.toList) (f:=aJ) (j:=j+1) (d4.toList[j]'(by omega)) rfl (hk _ undef ?_);refine Ch.m 16 (aY λe aa hk=>?_);refine C.dQ rfl (hk _ _ ?_) (s:=s) (l:=d4.toList.set (j+1) (d4.toList[j]'(by omega))) (f:=aJ) (j:=j) (hj:=by rw[eg];omega);refine Ch.m 17 (aY λe aa hk=>?_);refine C.jA (s:=s) (l:=d4.toList.set (j+1) (d4.toList[j]'(by omega))) (f:=aJ) (j:=j) (d4.toList[j+1]'(by omega)) rfl (hk _ undef ?_) (hj:=by rw[eg];omega);refine ND ?_;refine C.jq j rfl ?_;refine bH ?_;have oB:=gF (d:=d4) (i:=j+1) (j:=j) ai ai;exact again K3 (j,swp d4 (j+1) j) ⟨dq,by dsimp only;rw[swp_size];exact Hd,by
          rw[Uj]
          conv=>lhs;unfold shiftDown
          rw[ax (by rw[yu ai ai];simpa using YF)]⟩ (dq) (hr:=by dsimp only;rw[oB];exact cV.au)
       ·refine bH ?_;obtain rfl:j=0:=ai;exact bN Rj d4 ⟨Hd,by rw[aG ai,Uj];rfl⟩
      ·refine bH ?_;exact bN Rj d2 ⟨qU,by rw[ax ai]⟩
     ·rintro d3 ⟨K4,hd3⟩ e;apply mj (X:=Array Int) (λx=>x.size=d.size/\(if b-(i+1)>=2 then shiftUp ltInt b (i+1+1) d3 else d3)=x) (λ_=>[(0,s.v),(1,aD a),(2,aD b),(7,aD ((i+1:Nat):Int)),(8,aD m)]) (λx=>bG aJ 1 3 s x.toList::F) (R:=R) (d:=d0) (fn:=207) (kd:=kd) (n:=133) (ds:=[]) (cs:=c::cs)
      ·intro YG;refine dK ?_;refine C.jq (b-(i+1)) rfl ?_;refine C.cmp rfl (λh98=>?_) (λh98=>?_)
       ·refine C.go ?_;refine dK ?_;refine C.jq (i+1+1) rfl ?_;refine bH ?_;refine C.cu (X:=Nat×Array Int) (λx=>[(0,s.v),(1,aD a),(2,aD b),(7,aD ((i+1:Nat):Int)),(8,aD m),(10,aD x.1)]) (λx=>bG aJ 1 3 s x.2.toList::F) (λx=>i+1+1<=x.1/\x.2.size=d.size/\shiftUp ltInt b (i+1+1) d3=shiftUp ltInt b x.1 x.2) (λx=>b-x.1) (i+1+1,d3) ⟨rfl,rfl,rfl,rfl,rfl,rfl,trivial⟩ ⟨e8 _,K4,rfl⟩ ?_;rintro⟨j,d4⟩ e ⟨hj,Hd,Uj⟩ K3;dsimp only at hj Hd Uj⊢;have YA:d4.toList.length=d.size:=by simpa using Hd
        refine dX ?_;refine C.cmp rfl (λafX=>?_) (λafX=>?_)
        ·refine bH ?_;refine C.dx (cW 106 0 11) 11 [9,10] 0 ?_;refine kD ?_;refine Dr.l (λhE h=>C.dQ rfl h (s:=s) (l:=d4.toList) (f:=aJ) (j:=j)) ?_;refine Dr.l (v:=aD (d4.toList[j]'(by omega))) (λhE h=>C.dd rfl h (s:=s) (l:=d4.toList) (f:=aJ) (j:=j)) ?_;refine kD ?_;refine Dr.p (v:=aD ((j-1:Nat):Int)) (λh=>C.jq (j-1) rfl h) ?_;refine Dr.l (λhE h=>C.dQ rfl h (s:=s) (l:=d4.toList) (f:=aJ) (j:=j-1)) ?_;refine Dr.l (v:=aD (d4.toList[j-1]'(by omega))) (λhE h=>C.dd rfl h (s:=s) (l:=d4.toList) (f:=aJ) (j:=j-1)) ?_;refine Dr.chain rfl ?_;refine Ch.m 9 (aY λe aa hk=>?_);refine C.cE (fM (x:=(d4.toList[j]'(by omega))) (y:=(d4.toList[j-1]'(by omega)))) (A:=[]) ?_;refine qY ?_;refine hk _ _ ?_;refine Ch.q 10 (λh=>C.nt rfl h) ?_;refine fP ?_;refine C.xQ (λK5=>?_) (λK5=>?_)
         ·refine C.go ?_;exact bN YG d4 ⟨Hd,by rw[aG ai,Uj];exact Ri (by rw[yu ai ai];rintro⟨_,h⟩;rw[h]at K5;cases K5)⟩
         ·refine C.go ?_;refine C.dx (cW 117 0 15++[(132,16)]) 18 [15,16,17] 0 ?_;refine H4 ?_;refine Dr.p (v:=aD ((j-1:Nat):Int)) (λh=>C.jq (j-1) rfl h) ?_;refine kD ?_;refine Dr.p (v:=aD ((j-1:Nat):Int)) (λh=>C.jq (j-1) rfl h) ?_;refine Dr.l (λhE h=>C.dQ rfl h (s:=s) (l:=d4.toList) (f:=aJ) (j:=j-1)) ?_;refine Dr.l (v:=aD (d4.toList[j-1]'(by omega))) (λhE h=>C.dd rfl h (s:=s) (l:=d4.toList) (f:=aJ) (j:=j-1)) ?_;refine kD ?_;refine Dr.l (λhE h=>C.dQ rfl h (s:=s) (l:=d4.toList) (f:=aJ) (j:=j)) ?_;refine Dr.l (v:=aD (d4.toList[j]'(by omega))) (λhE h=>C.dd rfl h (s:=s) (l:=d4.toList) (f:=aJ) (j:=j)) ?_;refine Dr.l (λhE h=>C.dQ rfl h (s:=s) (l:=d4.toList) (f:=aJ) (j:=j)) ?_;refine Dr.chain rfl ?_;refine Ch.m 15 (aY λe aa hk=>?_);refine C.jA (s:=s) (l:=d4.toList) (f:=aJ) (j:=j) (d4.toList[j-1]'(by omega)) rfl (hk _ undef ?_);refine Ch.m 16 (aY λe aa hk=>?_);refine C.dQ rfl (hk _ _ ?_) (s:=s) (l:=d4.toList.set (j) (d4.toList[j-1]'(by omega))) (f:=aJ) (j:=j-1) (hj:=by rw[eg];omega);refine Ch.m 17 (aY λe aa hk=>?_);refine C.jA (s:=s) (l:=d4.toList.set (j) (d4.toList[j-1]'(by omega))) (f:=aJ) (j:=j-1) (d4.toList[j]'(by omega)) rfl (hk _ undef ?_) (hj:=by rw[eg];omega);refine PW ?_;have oB:=gF (d:=d4) (i:=j) (j:=j-1) ai ai;exact again K3 (j+1,swp d4 j (j-1)) ⟨dq,by dsimp only;rw[swp_size];exact Hd,by rw[Uj];exact acm ai (by rw[yu ai ai];simpa using K5)⟩ (dq) (hr:=by dsimp only;rw[oB];exact cV.au)
        ·refine bH ?_;exact bN YG d4 ⟨Hd,by rw[aG ai,Uj];exact Ri (by rintro⟨h,_⟩;omega)⟩
       ·refine bH ?_;exact bN YG d3 ⟨K4,by rw[ax ai]⟩
      ·rintro d5 ⟨hs5,hd5⟩ e;refine eP ?_;exact again ih (m+1,i+1,d5) ⟨dq,dq,dq,hs5,by rw[ho,U9,hd3,hd5,show 5-(m+1)=r by omega]⟩ (dq)
 ·refine eP ?_;obtain rfl:m=5:=ai;have ho:partialIns ltInt a b 5 (a+1) d=(d1,false):=ho;rw[ho]at ak;exact C.cm aT ak ⟨rfl,rfl⟩
end
section
open Go.Proofs Go.Sort
variable{ao:Bool}
theorem Uk(a k:Nat)(hk:k<=64):((a:Nat):Int).fdiv (2^min ((k:Nat):Int).toNat IntKind.u64.bits)=((a/2^k:Nat):Int):=by rw[gv,show min k IntKind.u64.bits=k from xG hk,Int.fdiv_eq_ediv_of_nonneg _ (Int.le_of_lt (Int.pow_pos (by decide)))];simp
theorem vL{n k:Nat}(h:2^k<=n):bitsLen (n/2^k)+k=bitsLen n:=by
 have hp:=nl k;have h1:=lt_two_pow_bitsLen n;have hk:k<=bitsLen n:=by
  rcases lH (bitsLen n) k with hc|hc
  ·have:=Nat.pow_le_pow_right (n:=2) ai (uI hc);omega
  ·exact hc
 refine Oj ?_ ?_
 ·have:bitsLen (n/2^k)<=bitsLen n-k:=(bitsLen_le_iff _ _).2 (by rw[Nat.div_lt_iff_lt_mul hp,<- Nat.pow_add,Nat.sub_add_cancel hk];exact h1)
  omega
 ·refine(bitsLen_le_iff _ _).2 ?_;rw[Nat.pow_add];exact(Nat.div_lt_iff_lt_mul hp).1 (lt_two_pow_bitsLen _)
theorem GJ{n:Nat}(h:n<256):bitsLen n<=8:=(bitsLen_le_iff _ _).2 h
theorem acn{n:Nat}(h:n<256):(UInt8.ofNat (bitsLen n)).toNat=bitsLen n:=by have:=GJ h;rw[UInt8.toNat_ofNat'];exact yy ai
def afZ(s:ByteArray):Bool:=(List.range 256).all λi=>s[i]? ==some (UInt8.ofNat (bitsLen i))
theorem yw{s:ByteArray}(h:afZ s=true){m:Nat}(hm:m<256):s[((m:Nat):Int).toNat]? =some (UInt8.ofNat (bitsLen m)):=by have:=kp.1 h m (l8.2 hm);rw[gv];exact eq_of_beq this
theorem D3{m:Nat}(hm:m<256):IntKind.i64.wrap ((UInt8.ofNat (bitsLen m)).toNat:Int)=((bitsLen m:Nat):Int):=by have:=GJ hm;rw[acn hm];exact uy ai ai
theorem Ul{n:Nat}(hn:n<2^32):IntKind.i64.wrap ((bitsLen n:Nat):Int)=((bitsLen n:Nat):Int):=by have:bitsLen n<=32:=(bitsLen_le_iff _ _).2 hn;exact uy ai ai
set_option maxRecDepth 4000 in
theorem Jb{n:Nat}(hn:n<2^32):aI prog ao cH 212 #[.int .u64 n] [] (λv As=>v=aD (bitsLen n:Nat)/\As=[]):=by
 refine aI.of λR C kd d F c cs aT ak=>?_;refine Xe ?_;refine C.dS rfl ?_;refine dX ?_;refine C.cmp rfl (λh8=>?_) (λh8=>?_)
 ·refine dX ?_;refine C.sr rfl (Uk n 16 (by decide)) ?_;refine oT ?_;refine C.cmp rfl (λvz=>?_) (λvz=>?_)
  ·refine dX ?_;refine C.sr rfl (Uk (n/2^16) 8 (by decide)) ?_;refine tU ?_;refine C.cv rfl ?_ (p:=((n/2^16/2^8:Nat):Int)) (r:=((n/2^16/2^8:Nat):Int)) (hr:=Zm ai ai);refine C.ixs rfl rfl (tt:=9) (yw (m:=n/2^16/2^8) (by decide+kernel) ai) ai ?_ (hx:=rfl);refine C.cv rfl ?_ (hr:=D3 (m:=n/2^16/2^8) ai);refine C.ar rfl ?_ (r:=((bitsLen n:Nat):Int)) (ha:=by have h1:=vL (n:=n) (k:=16) ai;have h2:=vL (n:=n/2^16) (k:=8) ai;show some (_+_)=some _;congr 1;omega) (hr:=Ul hn);refine bH ?_;exact C.cm aT ak ⟨rfl,rfl⟩
  ·refine eP ?_;refine C.cv rfl ?_ (p:=((n/2^16:Nat):Int)) (r:=((n/2^16:Nat):Int)) (hr:=Zm ai ai);refine C.ixs rfl rfl (tt:=9) (yw (m:=n/2^16) (by decide+kernel) ai) ai ?_ (hx:=rfl);refine C.cv rfl ?_ (hr:=D3 (m:=n/2^16) ai);refine C.ar rfl ?_ (r:=((bitsLen n:Nat):Int)) (ha:=by have h1:=vL (n:=n) (k:=16) ai;show some (_+_)=some _;congr 1;omega) (hr:=Ul hn);refine bH ?_;exact C.cm aT ak ⟨rfl,rfl⟩
 ·refine dX ?_;refine C.cmp rfl (λvz=>?_) (λvz=>?_)
  ·refine dX ?_;refine C.sr rfl (Uk n 8 (by decide)) ?_;refine tU ?_;refine C.cv rfl ?_ (p:=((n/2^8:Nat):Int)) (r:=((n/2^8:Nat):Int)) (hr:=Zm ai ai);refine C.ixs rfl rfl (tt:=9) (yw (m:=n/2^8) (by decide+kernel) ai) ai ?_ (hx:=rfl);refine C.cv rfl ?_ (hr:=D3 (m:=n/2^8) ai);refine C.ar rfl ?_ (r:=((bitsLen n:Nat):Int)) (ha:=by have h1:=vL (n:=n) (k:=8) ai;show some (_+_)=some _;congr 1;omega) (hr:=Ul hn);refine bH ?_;exact C.cm aT ak ⟨rfl,rfl⟩
  ·refine eP ?_;refine C.cv rfl ?_ (p:=((n:Nat):Int)) (r:=((n:Nat):Int)) (hr:=Zm ai ai);refine C.ixs rfl rfl (tt:=9) (yw (m:=n) (by decide+kernel) ai) ai ?_ (hx:=rfl);refine C.cv rfl ?_ (hr:=D3 (m:=n) ai);refine C.ar rfl ?_ (r:=((bitsLen n:Nat):Int)) (ha:=by show some (_+_)=some _;congr 1;omega) (hr:=Ul hn);refine bH ?_;exact C.cm aT ak ⟨rfl,rfl⟩
theorem GK{n:Nat}(hn:n<2^32):aI prog ao cH 188 #[.int .u64 n] [] (λv As=>v=aD (bitsLen n:Nat)/\As=[]):=by refine aI.of λR C kd d F c cs aT ak=>?_;refine RZ ?_;refine C.cE (Jb hn) (A:=[]) ?_;refine qY ?_;refine bH ?_;exact C.cm aT ak ⟨rfl,rfl⟩
theorem Rk{n:Nat}(hn:n<2^32):aI prog ao cH 219 #[aD n] [] (λv As=>v=.int .u64 (1<<<bitsLen n:Nat)/\As=[]):=by refine aI.of λR C kd d F c cs aT ak=>?_;refine cr ?_;have hb:bitsLen n<=32:=(bitsLen_le_iff _ _).2 hn;have h2:2^bitsLen n<=2^32:=Nat.pow_le_pow_right ai hb;refine gu ?_;refine C.cv rfl ?_ (r:=((n:Nat):Int)) (hr:=H0 n ai);refine C.cE (GK hn) (A:=[]) ?_;refine qY ?_;refine C.sl rfl (r:=((1<<<bitsLen n:Nat):Int)) (q:=((bitsLen n:Nat):Int)) (p:=1) (by rw[gv,show min (bitsLen n) IntKind.u64.bits=bitsLen n from xG (by show bitsLen n<=64;omega),Ol,Int.one_mul,show((2:Int)^bitsLen n)=((2^bitsLen n:Nat):Int) by simp];exact H0 _ ai) ?_ (hx:=rfl);refine bH ?_;exact C.cm aT ak ⟨rfl,rfl⟩
abbrev ZO(b:Nat)(r:UInt64):HP:=da b (.cells #[.int .u64 (r.toNat:Int)] 331 (0,0))
theorem xo1(a:Nat)(ha:a<2^64):IntKind.u64.wrap (((a:Nat):Int)*2^min (13:Int).toNat IntKind.u64.bits)=((a*8192%18446744073709551616:Nat):Int):=by show IntKind.u64.wrap (((a:Nat):Int)*8192)=_;simp only[IntKind.wrap,IntKind.bits,IntKind.signed,yD,gn,false_and,eR];omega
theorem xo3(a:Nat)(ha:a<2^64):IntKind.u64.wrap (((a:Nat):Int)*2^min (17:Int).toNat IntKind.u64.bits)=((a*131072%18446744073709551616:Nat):Int):=by show IntKind.u64.wrap (((a:Nat):Int)*131072)=_;simp only[IntKind.wrap,IntKind.bits,IntKind.signed,yD,gn,false_and,eR];omega
theorem M1{b:Nat}{r:UInt64}:aI prog ao cH 220 #[ay b] [ZO b r] (λv As=>v=.int .u64 ((xorNext r).toNat:Int)/\As=[ZO b (xorNext r)]):=by
 refine aI.of λR C kd d F c cs aT ak=>?_;refine cr ?_;obtain⟨x,hx⟩:∃ x,x=r.toNat:=⟨_,rfl⟩;have YH:x<2^64:=by rw[hx];exact r.toNat_lt
 have LP:x*8192%18446744073709551616<2^64:=EA _ (by decide);obtain⟨a,ha⟩:∃ a,a=x^^^(x*8192%18446744073709551616):=⟨_,rfl⟩;have Um:a<2^64:=by rw[ha];exact Ob YH LP
 obtain⟨y,hy⟩:∃ y,y=a^^^(a/2^7):=⟨_,rfl⟩;have aco:y<2^64:=by rw[hy];exact Ob Um (yH (Nat.div_le_self _ _) Um)
 have Kq:y*131072%18446744073709551616<2^64:=EA _ (by decide);have hl3:a/2^7<2^64:=yH (Nat.div_le_self _ _) Um;have hz:(xorNext r).toNat=y^^^(y*131072%18446744073709551616):=by rw[xorNext_toNat,<- hx,hy,ha];rfl
 unfold ZO at ak⊢;rw[hz]at ak;rw[<- hx];refine dX ?_;refine C.dx (cW 3 0 9) 10 [9] 0 ?_;refine pF ?_;refine Dr.p (λh=>C.sl rfl (xo1 x YH) h) ?_;refine Dr.p (λh=>C.bt rfl (Xd x _ YH LP) h) ?_;refine xT ?_;refine Ch.m 9 (aY λe aa hk=>?_);refine C.st rfl (hk _ undef ?_);refine fP ?_;rw[<- ha];refine C.dx (cW 12 0 9) 10 [9] 0 ?_;refine pF ?_;refine Dr.p (λh=>C.sr rfl (Uk a 7 (by decide)) h) ?_;refine Dr.p (λh=>C.bt rfl (Xd a _ Um hl3) h) ?_;refine xT ?_;refine Ch.m 9 (aY λe aa hk=>?_);refine C.st rfl (hk _ undef ?_);refine fP ?_;rw[<- hy];refine C.dx (cW 21 0 9) 10 [9] 0 ?_;refine pF ?_;refine Dr.p (λh=>C.sl rfl (xo3 y aco) h) ?_;refine Dr.p (λh=>C.bt rfl (Xd y _ aco Kq) h) ?_;refine xT ?_;refine Ch.m 9 (aY λe aa hk=>?_);refine C.st rfl (hk _ undef ?_);refine Xf ?_;exact C.cm aT ak ⟨rfl,rfl⟩
end
section
open Go.Proofs Go.Sort
variable{ao:Bool}
def Rl(a L M i0:Nat)(d:Array Int):Nat->UInt64×Array Int
 |0=>(UInt64.ofNat L,d)
 |t+1=>breakStep a L M (Rl a L M i0 d t) (i0+t)
def bpO(L M:Nat)(r:UInt64):Nat:=if(xorNext r).toNat&&& (M-1)>=L then((xorNext r).toNat&&& (M-1))-L else(xorNext r).toNat&&& (M-1)
theorem acr{a b:Nat}{d:Array Int}(h:b-a>=8):breakPatterns d a b=(Rl a (b-a) (1<<<bitsLen (b-a)) (a+(b-a)/4*2-1) d 3).2:=by unfold breakPatterns;simp only[];rw[aG h];rfl
theorem acs{a b:Nat}{d:Array Int}(h:¬ b-a>=8):breakPatterns d a b=d:=by unfold breakPatterns;simp only[];rw[ax h]
theorem Rm{a L M i0 t:Nat}{d d1:Array Int}{r:UInt64}(h:Rl a L M i0 d t=(r,d1)):Rl a L M i0 d (t+1)=(xorNext r,swp d1 (i0+t) (a+bpO L M r)):=by show breakStep a L M (Rl a L M i0 d t) (i0+t)=_;rw[h];rfl
theorem YI{L M:Nat}{r:UInt64}(hL:0<L)(hM:M<=2*L):bpO L M r<L:=by have:(xorNext r).toNat&&& (M-1)<=M-1:=Nat.and_le_right;unfold bpO;split<;>omega
theorem Jc{s:az}{d:Array Int}{a b:Nat}(Dq:a<=b)(hb:b<=d.size)(hl:d.size<2^31):
  aI prog ao cH 204 #[s.v,aD a,aD b] [bG aJ 1 3 s d.toList] (λv As=>As=[bG aJ 1 3 s (breakPatterns d a b).toList]):=by
 refine aI.of λR C kd d0 F c cs aT ak=>?_;refine cr ?_;obtain⟨L,hL⟩:∃ L,L=b-a:=⟨_,rfl⟩;obtain⟨M,hM⟩:∃ M,M=1<<<bitsLen L:=⟨_,rfl⟩;have hq:((L:Nat):Int).tdiv 4=((L/4:Nat):Int):=(JK L 4).symm;refine dX ?_;refine C.jq L rfl ?_;refine dX ?_;refine C.cmp rfl (λsF=>?_) (λsF=>?_)
 ·refine bH ?_;have hL8:L>=8:=ai;have ak:∀ v aP,aP=[bG aJ 1 3 s (Rl a L M (a+L/4*2-1) d 3).2.toList]->At R d0 (aP++F) (after kd c cs v):=by rw[acr ai,<- hL,<- hM]at ak;exact ak
  have hM2:M<=2*L:=by rw[hM,Ol];exact two_pow_bitsLen_le ai
  have hM0:0<M:=by rw[hM,Ol];exact nl _
  have hLu:(UInt64.ofNat L).toNat=L:=by rw[UInt64.toNat_ofNat'];exact yy ai
  refine bH ?_;refine C.cv rfl ?_ (r:=((UInt64.ofNat L).toNat:Int)) (hr:=by rw[hLu];exact H0 L ai);refine C.al rfl (λb7=>?_);refine dX ?_;refine C.cE (Rk (n:=L) ai) (A:=[]) ?_;refine qY ?_;rw[<- hM];refine eP ?_;refine C.quo rfl ?_ (hr:=by rw[hq];exact uy ai ai);rw[hq];refine C.jq (L/4*2) rfl ?_;refine C.jq (a+L/4*2) rfl ?_;refine C.jq (a+L/4*2-1) rfl ?_;refine bH ?_;refine C.cu (X:=Nat) (λt=>[(0,s.v),(1,aD a),(2,aD b),(6,aD L),(7,ay b7),(8,.int .u64 M),(9,aD ((a+L/4*2-1+t:Nat):Int))]) (λt=>ZO b7 (Rl a L M (a+L/4*2-1) d t).1::bG aJ 1 3 s (Rl a L M (a+L/4*2-1) d t).2.toList::F) (λt=>t<=3/\(Rl a L M (a+L/4*2-1) d t).2.size=d.size) (λt=>3-t) 0 ⟨rfl,rfl,rfl,rfl,rfl,rfl,rfl,trivial⟩ ⟨eW _,rfl⟩ ?_ (hI:=by(try dsimp only);rw[show Rl a L M (a+L/4*2-1) d 0=(UInt64.ofNat L,d)from rfl];(try dsimp only);exact cV.au);rintro t e ⟨ht,gT⟩ ih;generalize hbS:Rl a L M (a+L/4*2-1) d t=st at gT⊢;obtain⟨r,d1⟩:=st;dsimp only at gT⊢;have Hl:d1.toList.length=d.size:=by simpa using gT
  generalize EJ:a+L/4*2-1=i0 at*;have hO:=YI (r:=r) (L:=L) (M:=M) ai hM2;obtain⟨o,ho⟩:∃ o,o=bpO L M r:=⟨_,rfl⟩;rw[<- ho]at hO;refine eP ?_;refine C.quo rfl ?_ (hr:=by rw[hq];exact uy ai ai);rw[hq];refine C.jq (L/4*2) rfl ?_;refine C.jq (a+L/4*2) rfl ?_;refine C.jq (a+L/4*2+1) rfl ?_;refine C.cmp rfl (λVC=>?_) (λVC=>?_)
  ·refine dK ?_;refine C.cE (M1 (b:=b7) (r:=r)) (A:=[ZO b7 r]) ?_;refine cr ?_;have hand:(xorNext r).toNat&&& (M-1)<=M-1:=Nat.and_le_right;have hbo:bpO L M r=if(xorNext r).toNat&&& (M-1)>=L then((xorNext r).toNat&&& (M-1))-L else(xorNext r).toNat&&& (M-1):=rfl
   have han:=aeX (xorNext r).toNat (M-1) (xorNext r).toNat_lt ai;generalize hm:(xorNext r).toNat&&& (M-1)=m at*;refine fG ?_;refine C.ar (p:=((M:Nat):Int)) (q:=(1:Int)) (r:=((M-1:Nat):Int)) rfl ?_ (ha:=by show some (((M:Nat):Int)-(1:Int))=some ((M-1:Nat):Int);rw[show((M:Nat):Int)-1=((M-1:Nat):Int) by omega]) (hr:=H0 _ ai);refine C.bt rfl han ?_;refine C.cv rfl ?_ (r:=((m:Nat):Int)) (hr:=uy ai ai);refine bH ?_;apply mj (X:=Nat) (λq=>q=o) (λq=>[(0,s.v),(1,aD a),(2,aD b),(6,aD L),(7,ay b7),(8,.int .u64 M),(9,aD ((i0+t:Nat):Int)),(10,aD q)]) (λ_=>ZO b7 (xorNext r)::bG aJ 1 3 s d1.toList::F) (R:=R) (d:=d0) (fn:=204) (kd:=kd) (n:=65) (ds:=[]) (cs:=c::cs)
   ·intro xv;refine dK ?_;refine C.cmp rfl (λh43=>?_) (λh43=>?_)
    ·refine C.go ?_;refine dX ?_;refine C.jq (m-L) rfl ?_;refine bH ?_;exact bN xv (m-L) (by rw[ho,hbo,aG ai])
    ·refine bH ?_;exact bN xv m (by rw[ho,hbo,ax ai])
   ·rintro q hqe e;subst hqe;clear hbo han;refine C.dx (cW 47 0 17++[(64,18)]) 20 [17,18,19] 0 ?_;refine NC ?_;refine Dr.p (v:=aD ((a+q:Nat):Int)) (λh=>C.jq (a+q) rfl h) ?_;refine sV ?_;refine Dr.p (v:=aD ((a+q:Nat):Int)) (λh=>C.jq (a+q) rfl h) ?_;refine Dr.l (λhE h=>C.dQ rfl h (s:=s) (l:=d1.toList) (f:=aJ) (j:=a+q)) ?_;refine Dr.l (v:=aD (d1.toList[a+q]'(by omega))) (λhE h=>C.dd rfl h (s:=s) (l:=d1.toList) (f:=aJ) (j:=a+q)) ?_;refine kD ?_;refine Dr.l (λhE h=>C.dQ rfl h (s:=s) (l:=d1.toList) (f:=aJ) (j:=i0+t)) ?_;refine Dr.l (v:=aD (d1.toList[i0+t]'(by omega))) (λhE h=>C.dd rfl h (s:=s) (l:=d1.toList) (f:=aJ) (j:=i0+t)) ?_;refine Dr.l (λhE h=>C.dQ rfl h (s:=s) (l:=d1.toList) (f:=aJ) (j:=i0+t)) ?_;refine Dr.chain rfl ?_;refine Ch.m 17 (aY λe aa hk=>?_);refine C.jA (s:=s) (l:=d1.toList) (f:=aJ) (j:=i0+t) (d1.toList[a+q]'(by omega)) rfl (hk _ undef ?_);refine Ch.m 18 (aY λe aa hk=>?_);refine C.dQ rfl (hk _ _ ?_) (s:=s) (l:=d1.toList.set (i0+t) (d1.toList[a+q]'(by omega))) (f:=aJ) (j:=a+q) (hj:=by rw[eg];omega);refine Ch.m 19 (aY λe aa hk=>?_);refine C.jA (s:=s) (l:=d1.toList.set (i0+t) (d1.toList[a+q]'(by omega))) (f:=aJ) (j:=a+q) (d1.toList[i0+t]'(by omega)) rfl (hk _ undef ?_) (hj:=by rw[eg];omega);refine ND ?_;refine C.jq (i0+(t+1)) rfl ?_;refine bH ?_;have oB:=gF (d:=d1) (i:=i0+t) (j:=a+q) ai ai;have dI:=Rm (a:=a) (L:=L) (M:=M) (i0:=i0) (t:=t) (d:=d) hbS;rw[<- ho]at dI;exact again ih (t+1) ⟨ai,by rw[dI];(try dsimp only);rw[swp_size];exact gT⟩ ai (hr:=by(try dsimp only);rw[dI];(try dsimp only);rw[oB];exact cV.au)
  ·refine bH ?_;have ht3:t=3:=ai;subst ht3;rw[hbS]at ak;exact C.eJ aT ak rfl
 ·refine bH ?_;rw[acs ai]at ak;exact C.eJ aT ak rfl
end
end Go.Sl
