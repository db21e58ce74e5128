/-
  Texts that the proof needs, joined: part 9.
-/
import Derived.Test.YtjomdboiibakiaaGreatDoorEnH
import Derived.Conc.HoldsTime
import Derived.LaidHandle
import Derived.Carry
import Derived.LaidLaws
import Derived.FnData
import Derived.ChangeArms
import GoSem.ClaimJoined
import Derived.RowKit
set_option linter.unusedSimpArgs false
set_option linter.unusedVariables false
set_option maxHeartbeats 4000000
namespace Go.Sl
open Go.Proofs.Tryz
variable{f:bN}{fu:Func}{apart:Bool}{W:World}{α:Type}{cs:List Value}
section
open Go.Proofs Go.Conc
theorem nH.ol{n:Nat}{w:WR}{Y:kW}(S:nH n w Y.abs):Y.oL.length=w.aC.length:=by obtain⟨h1,W,G,t,F,I,V⟩:=S;have a:=congrArg List.length I.ops;simpa[kW.abs,cy]using a
theorem Gm{σ:Gh}{I:HL}{eb:Nat->Nat×Nat}{v:Value}{D:List zf}{e:Bool}(Q:iX I eb)(hi:Ci I σ.bot vi 6 v D)(hs:∀ s∈D,vj I σ.bot s)(hl:D.length<=2^41)(h0:qF σ)(aku:e=true->∀ n,1<=n/\n<=4->agy n):
  bB prog bM 25 #[v,.bool e] σ [bI I] (λv σ' As=>v=.bool true/\σ'.bot=σ.bot/\qF σ'/\∃ I',Sub I I'/\As=[bI I']):=by
 refine bB.of ?_;intro Post os out kd F c' cs C aW ak;refine cH ?_;have zt:=hi;obtain⟨a,cap,rfl,iW⟩:=hi;refine gV ?_;refine C.fZ (Qf zt hs hl) ?_;rintro v aT ⟨n,hn,rfl,rfl⟩;refine Ei ?_;refine aG.lj (A:=[]) (EM (n:=(n:Int)) ai h0.ok) ?_;rintro v g aT ⟨c,N,rfl,rfl,q1,q2,q3,W⟩;have C:ab prog true (bM.bw g) (aG prog Post bM g 0 os out):=aG.eL;refine cH ?_;have hnh:1<=c.ah.length/\c.ah.length<=4:=by have:=congrArg List.length q1;simp only[eM,upto,wq,gN]at this;omega
 refine At.chans (c:=c) Fo.au λnd=>?_;obtain⟨Jp,Dz⟩:=NM h0 N hnh W nd;have hP0:cU I 0 c (kP (n:Int)):=cU.new ai q1 q2 q3 W;have Gw:g.bot=σ.bot:=N.bot;refine oN ?_;refine C.eqQ rfl ?_;refine bL ?_;refine C.ed rfl ?_ (hf:=by intro z;exact z rfl);refine fB ?_;refine C.ms (f:=xE) (a0:=0) rfl rfl λS=>?_;refine At.own (l:=List.replicate n 0) (f:=xE) (z:=1) ⟨some ⟨S,0,none⟩,n,n⟩ [] (by simp) (by simp) (by simp) .head ?_;refine ga ?_;refine C.bx rfl λE=>?_;refine bL ?_;refine At.aV (α:=ay×List bO) lK 1 36 ?_;refine At.aV aK 1 3 ?_;refine At.aV (α:=ay×List Int) lK 1 104 ?_;obtain⟨Y,Z⟩:∃ Y:ay,Y=⟨some ⟨S,0,none⟩,n,n⟩:=⟨_,rfl⟩;refine At.turn (A:=dq E<|.cells #[.slice none 0 0,.slice none 0 0,.slice none 0 0,.slice (some ⟨S,0,none⟩) n n] 102 (0,0)) (A':=dq E<|.cells #[aV.v,aV.v,aV.v,Y.v] 102 (0,0)) (.tail<|.tail<|.tail .head) (λ_ h=>by rw[Z];exact h) ?_;rw[<- Z];have hW0:Qi I c n ⟨c,kP (n:Int),⟨aV,aV,aV,Y,[],[],[],List.replicate n 0⟩,I,0⟩:=⟨hP0,⟨λp hp=>(by cases hp),λp hp=>(by cases hp)⟩,fO.new hn,mK.refl _,Sub.refl _⟩;refine gV ?_;refine C.cN (X:=Nat×E0) (λx=>[(0,.slice a D.length cap),(1,.bool e),(5,aF n),(6,az c.G.b),(8,az E),(9,.bool true),(10,aF x.1)]) (λx=>eP E x.2.Y<|dm x.2.c::bI x.2.I::F) (λx=>x.1<=D.length/\Qi I c n x.2/\x.2.t<=x.1) (λx=>D.length-x.1) (0,⟨c,kP (n:Int),⟨aV,aV,aV,Y,[],[],[],List.replicate n 0⟩,I,0⟩) ⟨rfl,rfl,rfl,rfl,rfl,rfl,rfl,trivial⟩ ⟨fp _,hW0,fC _⟩ ?_;rintro⟨i,x⟩ e1 ⟨Xw,t,ht⟩ ih;dsimp only at Xw t ht⊢;refine dY ?_;refine C.ln rfl ?_;refine C.cmp rfl (λQK=>?_) λQK=>?_
 .refine bL ?_;refine C.fQ rfl ?_;refine gV ?_;have T:i<D.length:=ai;rcases iW with rfl|⟨b,off,cc,ty,fr,rfl,hI,pA,uP⟩
  .exact absurd T<|by simp
  have dI:=hs _<|dG T;have hx:=Lu (p:=off+i*6) (l:=vi D[i]) (z:=6) rfl (by decide)<|uP i T;obtain⟨s,hs0⟩:∃ s,s=D[i]:=⟨_,rfl⟩;rw[<- hs0]at dI hx;have jr:=t.i _ _ hI;have JB:gJ s.so=true:=by obtain⟨_,_,h,_⟩:=dI.o;rw[h];rfl
  have Yb:vj x.I g.bot s:=Gw▸dI.mono t.i;have X6:b<(bM.bw g).bot\/∀ j,(bM.bw g).sh ty j=false:=.inl (by show b<g.bot;omega);refine dT ?_;refine C.ia (j:=(i:Int)) (o:=off+i*6) rfl ?_ (hoff:=by simp);refine C.ajJ (l:=vi s) (z:=6) (Ext.PE (λ_ st=>st) Fo.au jr) X6 hx rfl ?_;rw[show(vi s).toArray=#[aF s.kind,aF s.cl,aF s.a,aF s.b,aF s.c,s.so]from rfl];refine C.al rfl λyq=>?_;refine C.vz rfl ?_ (hv:=by simp[gJ];exact JB);refine C.go ?_;apply m8 (X:=E0) (λy=>Qi I c n y/\y.t<=(if s.kind=2 then i+1 else i)) (λ_=>[(0,.slice (some ⟨b,off,none⟩) D.length cap),(1,.bool e),(5,aF n),(6,az c.G.b),(8,az E),(9,.bool true),(10,aF i),(11,az yq)]) (λy=>eP E y.Y<|dq yq (.cells #[aF s.kind,aF s.cl,aF s.a,aF s.b,aF s.c,s.so] 29 (0,0))::dm y.c::bI y.I::F) (R:=aG prog Post bM g 0 os out) (d:=0) (fn:=25) (kd:=kd) (n:=212) (ds:=[]) (cs:=c'::cs)
  .intro uf;refine dT ?_;refine C.cmp rfl (λH=>?_) λH=>?_
   .refine fB ?_;refine C.fZ (PH Yb.o Yb.z Yb.len) ?_;rintro v aT ⟨s1,rfl,rfl⟩;refine cH ?_;have oJ:(s.ops.map tR).length=s.ops.length:=eM ..;have hlen:=Yb.len;have hrg:∀ o∈s.ops.map tR,(0<=o.k/\o.k<=255)/\(-2147483648<=o.v/\o.v<=2147483647):=by intro o ho;obtain⟨q,_,rfl⟩:=cq.1 ho;exact⟨Lb _,F6 _⟩
    generalize cY:s.ops.map tR=O at*;refine At.Si (I:=x.I) (s:=s1) (f:=uR) Fo.au Fo.au λI2 xl si=>?_;refine C.fZ (aI.less (dW _)<|Lc si hrg ai) ?_;rintro v aT ⟨s2,rfl,rfl⟩;refine cH ?_;refine At.Si (I:=I2) (s:=s2) (f:=db) Fo.au Fo.au λI3 hI3 NF=>?_;refine fB ?_;refine aG.lj (Vb (O:=O) Q t.ok (xl.trans hI3) ai ai NF (λo ho=>by have:=(hrg o ho).2;unfold QQ;omega)) ?_;rintro v σ' aT ⟨c2,I4,rfl,rfl,hI4,Tg,J,rfl⟩;refine cH ?_;obtain⟨S1,S2⟩:=t.s.l9 O;have K:Sub x.I I4:=(xl.trans hI3).trans hI4;have hx4:Sub I I4:=t.i.trans K;refine oN ?_;refine C.cmp rfl (λL=>?_) λL=>?_
    .refine oN ?_;refine C.qK rfl ?_ (s:=x.Y.so) (l:=x.Y.oL) (f:=lK);refine C.fQ rfl ?_ (hf:=by have:=S2 L;rw[this];simp[kW.abs]);refine pP ?_;refine C.CZ rfl λb89=>?_;refine C.DR (f:=lK) (s:=x.Y.so) (l:=x.Y.oL) (s2,O) rfl (λs90=>?_) (hsz:=by have:=t.s.1.ol;have:=t.p.ntx;omega);refine dY ?_;rw[aJ L]at S1;refine bU uf ⟨c2,(bZ x.w O).1,{x.Y with so:=s90,oL:=x.Y.oL++[(s2,O)]},I4,x.t+1⟩ ⟨⟨J,⟨λp hp=>?_,λp hp=>(t.j.r p hp).mono K⟩,?_,Tg,hx4⟩,by rw[aJ H];dsimp only;omega⟩
     .rcases bS.1 hp with hp|hp
      .exact(t.j.o p hp).mono K
      .rw[dR.1 hp];exact NF.mono hI4
     .show fO n _ (kW.abs _);have e2:kW.abs {x.Y with so:=s90,oL:=x.Y.oL++[(s2,O)]}={x.Y.abs with ops:=x.Y.abs.ops++[O]}:=by unfold kW.abs;simp
      rw[e2];exact S1
    .refine bL ?_;rw[ax L]at S1;exact bU uf ⟨c2,(bZ x.w O).1,x.Y,I4,x.t+1⟩ ⟨⟨J,t.j.mono K,S1,Tg,hx4⟩,by rw[aJ H];dsimp only;omega⟩
   .refine bL ?_;exact bU uf x ⟨t,by rw[ax H];exact ht⟩
  .rintro y ⟨r,Zs⟩ ev;have mB:c.aj=false:=W;refine dT ?_;refine C.cmp rfl (λh95=>?_) λh95=>?_
   .refine dT ?_;refine C.cmp rfl (λh99=>?_) λh99=>?_
    .refine dY ?_;refine C.cmp rfl (λacG=>?_) λacG=>?_
     .refine mE ?_;refine aG.lj (U9 (k:=s.a) (i:=s.b) (b:=s.c) Q r.ok mB Jp (by rw[ax ai]at Zs;omega)) ?_;rintro v σ' aT ⟨rfl,rfl,c2,I2,⟨J,Tg,si⟩,rfl⟩;refine vI ?_;refine aG.lj (X9 (k:=s.a) (i:=s.b) (b:=s.c) r J Tg si) ?_;rintro v σ' aT ⟨rfl,rfl,Y2,I3,GG,rfl⟩;simp only[eP,fJ,ek];refine gV ?_;refine aG.lj (Ve GG) ?_;rintro v σ' aT ⟨rfl,rfl,rfl⟩;simp only[eP,fJ,ek];refine lu ?_;refine dY ?_;exact again ih (i+1,⟨c2,(eV y.w s.a s.b s.c).1,Y2,I3,y.t+1⟩) ⟨T,GG,by rw[ax ai]at Zs;dsimp only;omega⟩<|dE
     .refine oN ?_;exact again ih (i+1,y) ⟨T,r,by dsimp only;split at Zs<;>omega⟩<|dE
    .refine lu ?_;exact again ih (i+1,y) ⟨T,r,by dsimp only;split at Zs<;>omega⟩<|dE
   .refine lu ?_;refine dY ?_;exact again ih (i+1,y) ⟨T,r,by dsimp only;split at Zs<;>omega⟩<|dE
 .refine pP ?_;apply m8 (X:=E0) (λy=>Qi I c n y/\(e=true->∀ (q:Nat) (hq:q<y.w.sh.length) (k:Nat),k<26->k%n=q->(y.w.sh[q]).bX[k]? =(runT (cy y.w.aC) y.Y.ord bQ)[k]?)) (λ_=>[(1,.bool e),(5,aF n),(6,az c.G.b),(8,az E),(9,.bool true)]) (λy=>eP E y.Y<|dm y.c::bI y.I::F) (R:=aG prog Post bM g 0 os out) (d:=0) (fn:=25) (kd:=kd) (n:=212) (ds:=[]) (cs:=c'::cs)
  .intro ZC;refine gV ?_;refine C.zw (λVf=>?_) λVf=>?_
   .refine C.go ?_;obtain⟨w',h',eS,S',uO⟩:=aku Vf n hn x.w x.Y.abs t.s;refine iE ?_;refine C.qK rfl ?_ (s:=x.Y.so) (l:=x.Y.oL) (f:=lK);refine ga ?_;rw[t.s.1.ol];refine aG.lj (ru (n:=n) Q t.ok W Jp eS ai) ?_;rintro v σ' aT ⟨rfl,rfl,x1,M,Z8,hh1,Ek,rfl⟩;simp only[eP,fJ,ek];have akw:Qi I c n x1:=⟨M.p,M.j,by rw[Z8,hh1];exact S',M.c,M.i⟩;refine gV ?_;refine aG.lj (X8 akw) ?_;rintro v σ' aT ⟨rfl,rfl,Y2,I2,GG,hY2,rfl⟩;simp only[eP,fJ,ek];refine gV ?_;refine aG.lj (Ve GG) ?_;rintro v σ' aT ⟨rfl,rfl,rfl⟩;simp only[eP,fJ,ek];refine mE ?_;refine ga ?_;refine bU ZC ⟨x1.c,x1.w,Y2,I2,x1.t⟩ ⟨GG,λ_=>?_⟩;dsimp only;have TW:Y2.ord=h'.order:=by have:=congrArg cJ.order<|hY2.trans hh1;exact this
    rw[TW,Z8];exact uO
   .refine C.go ?_;exact bU ZC x ⟨t,λh=>absurd h (by rw[Vf];decide)⟩
  .rintro y ⟨r,hvy⟩ ev;refine dT ?_;refine aG.lj (Ya r) ?_;rintro v σ' aT ⟨rfl,rfl,rfl⟩;simp only[eP,fJ,ek];refine dY ?_;refine C.fZ (aI.less (dW _)<|Gi r.j r.s.1.akt) ?_;rintro v aT ⟨u,rfl,rfl⟩;simp only[eP,fJ,ek];refine lu ?_;refine gV ?_;have hyn:y.w.sh.length=n:=r.s.1.q.facts.1;refine C.cN (X:=Nat) (λq=>[(1,.bool e),(5,aF n),(6,az c.G.b),(9,.bool true),(21,u.v),(23,aF q)]) (λ_=>bK dk 1 21 u (runT (cy y.w.aC) y.Y.ord bQ)::eP E y.Y (dm y.c::bI y.I::F)) (λq=>q<=n) (λq=>n-q) 0 ⟨rfl,rfl,rfl,rfl,rfl,rfl,trivial⟩ (fp _) ?_;intro q e2 hq zP;refine dY ?_;refine C.cmp rfl (λakx=>?_) λakx=>?_
   .refine iE ?_;refine C.zw (λZD=>?_) λZD=>?_
    .refine C.go ?_;have CP:q<n:=ai;have P:q<y.w.sh.length:=ai;have he:e=true:=ZD;have Vg:(y.w.sh[q]).bX.length=26:=(r.p.at (by rw[r.p.len];exact P) P).2.1.bX;have Vh:(runT (cy y.w.aC) y.Y.ord bQ).length=26:=xb _ _ _;refine dT ?_;refine aG.lj (Vd r.ok P) ?_;rintro v σ' aT ⟨rfl,sl,m,rfl,hm,rfl⟩;refine Y8 ?_;refine C.cN (X:=Nat) (λk=>[(1,.bool e),(5,aF n),(6,az c.G.b),(9,.bool true),(21,u.v),(23,aF q),(24,sl.v),(26,aF k)]) (λ_=>bK dk 1 21 sl (y.w.sh[q]'P).bX::bK dk 1 21 u (runT (cy y.w.aC) y.Y.ord bQ)::eP E y.Y (dm y.c::bI y.I::F)) (λk=>k<=26) (λk=>26-k) 0 ⟨rfl,rfl,rfl,rfl,rfl,rfl,rfl,rfl,trivial⟩ (fp _) ?_;intro k e3 hk ND;refine dT ?_;refine C.cmp rfl (λaky=>?_) λaky=>?_
     .refine bL ?_;have w:k<26:=ai;have hcm:((k:Int).tmod (n:Int))=(q:Int)->(y.w.sh[q]'P).bX[k]'(by rw[Vg];exact w)=(runT (cy y.w.aC) y.Y.ord bQ)[k]'(by rw[Vh];exact w):=λhm2=>by
       have Ka:((k:Int).tmod (n:Int))=((k%n:Nat):Int):=by rw[Int.ofNat_tmod]
       have h1:=hvy he q P k w (by rw[Ka]at hm2;omega);rw[cQ (by rw[Vg];exact w),cQ (by rw[Vh];exact w)]at h1;exact cA h1
      by_cases U:((k:Int).tmod (n:Int))=(q:Int)
      .refine C.dx (di 193 0 16) 16 [] 0 ?_;refine lH ?_;refine Dr.p (v:=aF<|(k:Int).tmod (n:Int)) (λh=>C.rem rfl h) ?_;refine lN ?_;refine Dr.p (λh=>C.fQ rfl h (hf:=U)) ?_;refine uQ ?_;refine Dr.l (λQ h=>C.dZ rfl h (s:=sl) (l:=(y.w.sh[q]'P).bX) (f:=dk) (j:=k) (hj:=by rw[Vg];exact w)) ?_;refine Dr.l (v:=.int .i32<|(y.w.sh[q]'P).bX[k]'(by rw[Vg];exact w)) (λQ h=>C.du rfl h (s:=sl) (l:=(y.w.sh[q]'P).bX) (f:=dk) (j:=k) (hj:=by rw[Vg];exact w)) ?_;refine lH ?_;refine Dr.l (λQ h=>C.dZ rfl h (s:=u) (l:=runT (cy y.w.aC) y.Y.ord bQ) (f:=dk) (j:=k) (hj:=by rw[Vh];exact w)) ?_;refine Dr.ld (v:=.int .i32<|(runT (cy y.w.aC) y.Y.ord bQ)[k]'(by rw[Vh];exact w)) ⟨_,rfl,rfl⟩ (λ_ Q _ _ h=>C.du rfl h (s:=u) (l:=runT (cy y.w.aC) y.Y.ord bQ) (f:=dk) (j:=k) (hj:=by rw[Vh];exact w)) ?_;refine Dr.p (λh=>C.ed rfl h (hf:=by intro z;exact z<|hcm U)) ?_;refine zy ?_;refine zv7 ?_;exact again ND (k+1) w ai
      .refine C.dx (di 193 0 16) 16 [] 0 ?_;refine lH ?_;refine Dr.p (v:=aF<|(k:Int).tmod (n:Int)) (λh=>C.rem rfl h) ?_;refine lN ?_;refine Dr.p (λh=>C.ed rfl h (hf:=U)) ?_;refine S6 ?_;refine zv7 ?_;exact again ND (k+1) w ai
     .refine iE ?_;exact again zP (q+1) CP ai
    .refine dT ?_;refine aG.lj (Gk r.ok W Jp) ?_;rintro v B aT ⟨rfl,Vi,A,rfl⟩;refine cH ?_;have C:ab prog true (bM.bw B) (aG prog Post bM B 0 os out):=aG.eL;refine fB ?_;exact aG.fe aW ak ⟨rfl,by rw[Vi];exact Gw,by rw[Vi];exact(Dz y.c r.c).2,y.I,r.i,rfl⟩
   .refine vH ?_;refine aG.lj (Gk r.ok W Jp) ?_;rintro v B aT ⟨rfl,Vi,A,rfl⟩;refine cH ?_;have C:ab prog true (bM.bw B) (aG prog Post bM B 0 os out):=aG.eL;refine fB ?_;exact aG.fe aW ak ⟨rfl,by rw[Vi];exact Gw,by rw[Vi];exact(Dz y.c r.c).2,y.I,r.i,rfl⟩
variable{P:bT}{Post:Value->World->Prop}{X:vC}{σ:Gh}{os:Os}{out:Array (Nat×ByteArray)}{d:Nat}{As F:List HP}{R:Nat->aO->Array Obj->Prop}
variable{fn:bN}{kd:Kd}{n:Nat}{e:Nat->Value}{k:List Item}
theorem At.enter{c:Code}{nf:Nat}[b:Body P f fu c nf]{args:Array Value}(h:At R d As (gr f .rU nf (AH args) [] [.code c] []))(a:Nat.ble args.size nf=true:=by rfl):At R d As (jA P f args .rU []):=by rw[nZ b.func b.body (by rw[b.tmps];exact zk a),b.tmps];exact h
theorem aG.quit{cc:Code}{n':Nat}[b:Body P fn fu cc n']{v:Value}{x:Code}(aT:List HP)(hi:P.inits.idxOf? fn=none)(a:∀ i,σ.aU i=none)(hp:∀ w:World,Sat aT (hp w.heap)->w.os=os->w.output=out->Post v w)(hv:vy fu n e=some v:=by rfl)(hx:ck x=.ret:=by rfl)
  (hr:dg As aT:=by exact dg.au):At (aG P Post X σ 0 os out) 0 As (gr fn .rU n e [] (.code x::k) []):=by
 have C:ab P true (X.bw σ) (aG P Post X σ 0 os out):=aG.eL;refine At.mN hr λH st=>?_;have z:=gv hx;simp only at z;subst z;exact C.ret<|aG.done hv hi a hp H st
open Go.ConcM Go.RowKit
variable{H:Type}{enc:aP×Value->H}
theorem zI{a:Assume}{C:Checked}{os:Os}{fn:Func}{s:ChangeSpec}{F:Stop.Interp}{g:List PathCond}{h d:Bool}{X:World->Array Value->Prop}
  (x:∀ (w w':World) (args:Array Value),w.heap=w'.heap->X w args->X w' args)
  (own:ownKnob C.prog.godebug=none) (k:os.Started) (y:C.prog.funcs[f]? =some fn)
  (l:∃ (w:World) (b:Tape) (i:Input),w.os=os/\(w.forCall b i).Shaped C.prog/\i.vars=[]/\Input.okWide C.prog (w.forCall b i) .any w.heap.size f i/\
   ((s.pre enc C.prog fn g apart (w.forCall b i).memory i.args/\X (w.forCall b i).memory i.args)/\sizedMet enc C.prog fn (OpenSpec.ofChange s) apart (w.forCall b i).memory i.args)/\a.holds C.prog (lone (Frame.enter C.prog f i.args .normal) []<|w.forCall b i))
  (m:∀ (W:World) (base:Nat) (args:Array Value) (ds gs:List (DataW H)) (c:List MemPlace),W.ShapedOpen C.prog->
   (∀ (j:Nat) t v,fn.params[j]? =some t->args[j]? =some v->Value.okWide C.prog W .any base t v)->
   DataW.Whole enc C.prog fn.params.toList s.vars apart W args.toList ds gs c->
   g.all (PathCond.test C.prog ⟨fn.params.toList,ds,s.plain.varTypes C.prog,gs⟩)=true->
   (DataW.weightsEach C.prog (fn.params.toList++s.plain.varTypes C.prog)<|ds++gs).all (· <=reachBytes)=true->X W args->
   Ends C.prog (λv r=>s.post enc C.prog fn apart h d false W args v {r with os:=W.os}/\OsLater W.os r.os) (solo (Conc.G (Frame.enter C.prog f args .normal) []) W) #[]):
  ReturnsInLeavingWide a C os f .any (λw args=>(s.pre enc C.prog fn g apart w args/\X w args)/\sizedMet enc C.prog fn (OpenSpec.ofChange s) apart w args) ((OpenSpec.ofChange s).postWith enc C.prog fn F (outsideKept [.timePasses]) apart h d):=by
 refine returnsInLeavingWide_of_good own k l ?_;intro w b i _ z _ A n B;obtain⟨_,_,_,p,q,_,_,_,_,D⟩:=A;have e:p=fn:=cA<|q.symm.trans y;subst e;obtain⟨⟨⟨ds,gs,c,u,E⟩,I⟩,J⟩:=n;have K:=DataW.Whole.of_heap (w':=w.forCall b i) (by rfl) u;obtain⟨M,last,o,w',L,h1,N,O,P⟩:=m (w.forCall b i) w.heap.size i.args ds gs c z D K E (J.weights u) (x _ _ _ (by rfl) I);obtain⟨v,e,hp,Q,R,S,T⟩:=P;exact⟨M,last,o,w',L,h1,N,O,v,e,postWith_blind<|postWith_of_post hp.1 hp.2,Q,R,S,T⟩
theorem Gp{C:Checked}{os:Os}{fn:Func}{s:ChangeSpec}{b:List PathCond}{X:World->Array Value->Prop}(c:World)(args:Array Value)(d:Nat)(h:c.os=os)
  (hv:(c.forCall (λ_ _=>0) ⟨#[],args,[]⟩).variablesB C.prog=true)
  (hr:((c.forCall (λ_ _=>0) ⟨#[],args,[]⟩).heap.toList.drop C.prog.globals.size).take ((begin C.prog (λ_ _=>0) default).world.heap.size-C.prog.globals.size)=
   (begin C.prog (λ_ _=>0) default).world.heap.toList.drop C.prog.globals.size)
  (g:Input.okWideB C.prog (c.forCall (λ_ _=>0) ⟨#[],args,[]⟩) f ⟨#[],args,[]⟩=true)
  (e:s.preB enc C.prog fn b apart (c.forCall (λ_ _=>0) ⟨#[],args,[]⟩).memory args d=true)
  (hsz:s.sizedB enc C.prog fn apart (c.forCall (λ_ _=>0) ⟨#[],args,[]⟩).memory args d=true)
  (hx:X (c.forCall (λ_ _=>0) ⟨#[],args,[]⟩).memory args):
  ∃ (w:World) (a:Tape) (i:Input),w.os=os/\(w.forCall a i).Shaped C.prog/\i.vars=[]/\Input.okWide C.prog (w.forCall a i) .any w.heap.size f i/\
   ((s.pre enc C.prog fn b apart (w.forCall a i).memory i.args/\X (w.forCall a i).memory i.args)/\sizedMet enc C.prog fn (OpenSpec.ofChange s) apart (w.forCall a i).memory i.args)/\({calm:=true}:Assume).holds C.prog (lone (Frame.enter C.prog f i.args .normal) []<|w.forCall a i):=
 ⟨c,λ_ _=>0,⟨#[],args,[]⟩,h,World.shaped_of_B hv hr,(Input.okWide_of_okWideB (base:=0) g).1,(Input.okWide_of_okWideB g).2,⟨⟨ChangeSpec.pre_of_preB e,hx⟩,sizedMet_of_sizedB hsz⟩,by simp only[Assume.holds];exact⟨by simp,λ_ _ _ _=>rfl,by simp,by simp,by simp⟩⟩
theorem Jr{w':World}(a:w'.output=W.output)(h:∀ k,k<W.heap.size->w'.heap[k]? =W.heap[k]?)(hs:W.heap.size<=w'.heap.size):Below W.heap.size W {w' with os:=W.os,tape:=W.tape}:=
 ⟨rfl,rfl,a,hs,h⟩
theorem Yc{w':World}(b:w'.output=W.output)(h:∀ k,k<W.heap.size->w'.heap[k]? =W.heap[k]?)(hs:W.heap.size<=w'.heap.size)(a:MemPlace->Prop):W.keptBut {w' with os:=W.os} a:=
 (Jr b h hs).frame a
theorem Gq:prog.cellsOf 359=1:=by kernel_rfl
theorem Js:prog.cellsOf 9=1:=by kernel_rfl
theorem Vj: "*"++ "errors.errorString"= "*errors.errorString":=by decide
theorem acW(u:aP)(h:prog.typeName? 3 u=some "*errors.errorString"):u=339:=
 typeName_ptr_named (nm:= "errors.errorString") (by rw[Vj];kernel_rfl) (by kernel_rfl) (by decide) u (by rw[Vj];exact h)
theorem Qj(ty:Nat)(hl:ty<prog.types.size)(h:prog.rowNamed ty [101,114,114,111,114]=true):ty=46:=by
 have k:((List.range prog.types.size).all λu=> !prog.rowNamed u [101,114,114,111,114]||u==46)=true:=by kernel_rfl
 have:=lz.1 k ty<|iA.2 hl;rw[h]at this;simpa using this
def acX(x:String×List UInt8):String×DataW Unit:=(x.1,.iface "*errors.errorString"<|.ptr<|.agg [.lit (.string x.2)])
set_option maxRecDepth 100000 in
theorem Qk:∀ (l:List (String×List UInt8)) (d:List MemPlace),DataW.LaidVars prog W (l.map acX) d->d.Nodup->
  (∀ b off,MemPlace.cell b off∈d->(∃ c t,W.heap[b]? =some (.cells c t (0,0)))/\∀ u v,W.cell? ⟨b,off,none⟩=some (.iface u v)->Value.okWide prog W .any 0 u v)->
  (∀ n,n∈l.map (·.1)->∃ g,prog.globalNamed n=some g/\(prog.globals[g]?).map (·.type)=some 46)->
  ∃ f:List (Nat×Nat),f.length=l.length/\(∀ (k:Nat) (x:String×List UInt8),l[k]? =some x->∃ a,f[k]? =some a/\W.var? prog x.1=some #[jQ a])/\
   f.Pairwise (· ≠ ·)/\(∀ a∈f,MemPlace.cell a.1 a.2∈d):=by
 intro l
 induction l with
 |nil=>intro d _ _ _ _;exact⟨[],rfl,λk x h=>by simp at h,List.Pairwise.nil,λa h=>by simp at h⟩
 |cons x l M=>
  intro d N q A B;obtain⟨C,t0,r,f0,p0,D,i,s,E,O,P,e0⟩:=N;obtain⟨g,Q,R⟩:=B x.1 (by simp);have S:prog.globalNamed x.1=some C:=i;obtain rfl:=cA<|S.symm.trans Q;obtain rfl:=cA<|R.symm.trans s;obtain⟨T⟩:=r;subst e0;have w:∀ u v,T=[.iface u v]->Value.okWide prog W .any 0 u v:=λu v e=>by subst e;exact(A C 0<|by simp[MemPlace.row]).2 u v<|by simpa using World.var?_cell i E 0
  obtain⟨j,s0,rfl,m,U,X,rfl⟩:=errorString_of_trod underlying46 acW underlying339 underlying359 rfl rfl underlying9 Gq Js O w;have F:MemPlace.cell j.block j.off∈MemPlace.row j 1:=by simp[MemPlace.row]
  have H:j.spot=none:=by
   unfold World.cell? at m;split at m
   .split at m
    .cases m
    .rename_i hs;simpa using hs
   .cases m
  have z:D.Nodup:=List.Nodup.sublist (List.sublist_append_right _ _) q;obtain⟨f,hl,Y,hp,I⟩:=M D P z (λb off h=>A b off<|fD _ h) (λn J=>B n (by simp at J⊢;exact .inr J));obtain⟨K,L,Z⟩:=j;dsimp only at H;subst H;refine⟨(K,L)::f,by simp[hl],λk y p=>?_,List.Pairwise.cons (λa o e=>?_) hp,λa o=>?_⟩
  .cases k with
   |zero=>simp at p;subst p;exact⟨(K,L),rfl,E⟩
   |succ k=>simp at p;simpa using Y k y p
  .subst e;rw[jc]at q;exact q.2.2 _ (fD _ F) _ (I _ o) rfl
  .rcases gU.1 o with rfl|o
   .exact iq _<|fD _ F
   .exact fD _<|I a o
def E1(k:Nat):String:=["shardlog/cluster.ErrShape", "shardlog/cluster.ErrOps", "shardlog/cluster.ErrMany", "shardlog/cluster.ErrTx", "shardlog/cluster.ErrMessage", "shardlog/cluster.ErrShard", "shardlog/cluster.ErrDown", "shardlog/cluster.ErrUp", "shardlog/cluster.ErrStopped"].getD k ""
theorem gE:∀ k,k<9->prog.globalNamed (E1 k)=some (PB k)/\(prog.globals[PB k]?).map (·.type)=some 46
 |0,_=>⟨by kernel_rfl,by kernel_rfl⟩
 |1,_=>⟨by kernel_rfl,by kernel_rfl⟩
 |2,_=>⟨by kernel_rfl,by kernel_rfl⟩
 |3,_=>⟨by kernel_rfl,by kernel_rfl⟩
 |4,_=>⟨by kernel_rfl,by kernel_rfl⟩
 |5,_=>⟨by kernel_rfl,by kernel_rfl⟩
 |6,_=>⟨by kernel_rfl,by kernel_rfl⟩
 |7,_=>⟨by kernel_rfl,by kernel_rfl⟩
 |8,_=>⟨by kernel_rfl,by kernel_rfl⟩
theorem gTy:prog.globalNamed "errors.errorType"=some 4:=by kernel_rfl
def pM:List (List UInt8):=[[110,111,32,115,117,99,104,32,99,108,117,115,116,101,114],[110,111,32,116,114,97,110,115,97,99,116,105,111,110],[116,111,111,32,109,97,110,121],
 [110,111,32,115,117,99,104,32,116,114,97,110,115,97,99,116,105,111,110],[110,111,32,115,117,99,104,32,109,101,115,115,97,103,101],[110,111,32,115,117,99,104,32,115,104,97,114,100],
 [97,32,115,104,97,114,100,32,116,104,97,116,32,105,115,32,100,111,119,110],[97,32,115,104,97,114,100,32,116,104,97,116,32,105,115,32,117,112],[116,104,101,32,99,108,117,115,116,101,114,32,104,97,115,32,98,101,101,110,32,115,116,111,112,112,101,100]]
def yy:List (String×List UInt8):=[(E1 0,pM.getD 0 []),(E1 1,pM.getD 1 []),(E1 2,pM.getD 2 []),(E1 3,pM.getD 3 []),(E1 4,pM.getD 4 []),(E1 5,pM.getD 5 []),(E1 6,pM.getD 6 []),(E1 7,pM.getD 7 []),(E1 8,pM.getD 8 [])]
theorem Qm:∀ k,k<9->(yy[k]?).map (·.1)=some (E1 k)
 |0,_=>rfl
 |1,_=>rfl
 |2,_=>rfl
 |3,_=>rfl
 |4,_=>rfl
 |5,_=>rfl
 |6,_=>rfl
 |7,_=>rfl
 |8,_=>rfl
theorem Vk:(prog.cutTypes.find? (·.1== "internal/reflectlite.rtype")).map (·.2)=some 231:=by kernel_rfl
theorem Ju{l:List (String×DataW Unit)}{d:DataW Unit}(E:(l.filter λx=>x.2.handleName?.isNone)=yy.map acX)(F:(l.filter λx=>x.2.handleName?.isSome)=[("errors.errorType",d)])(r:d.funcsIn?=none)(H:d.handleName?=some [101,114,114,111,114])
  (h:laidMetH prog l W) (I:W.ShapedOpen prog):∃ eb,iX (hp W.heap) eb:=by
 unfold laidMetH at h;rw[F]at h;dsimp only at h;rw[E]at h;obtain⟨⟨J,K,s,B⟩,L⟩:=h;have v:∀ n,n∈yy.map (·.1)->∃ g,prog.globalNamed n=some g/\(prog.globals[g]?).map (·.type)=some 46:=λn w=>by
  rw[show yy.map (·.1)=[E1 0,E1 1,E1 2,E1 3,E1 4,E1 5,E1 6,E1 7,E1 8]from rfl]at w;simp only[gU,nY,gR]at w;rcases w with h|h|h|h|h|h|h|h|h
  all_goals rw[h];exact⟨_,gE _ ai⟩
 obtain⟨o,hl,M,hp,N⟩:=Qk yy J K s B v;have O:o.length=9:=hl;have C:∀ {n:String} {g:Nat} {cs:Array Value},prog.globalNamed n=some g->W.var? prog n=some cs->g<prog.globals.size->∃ t,W.heap[g]? =some (.cells cs t (0,0)):=by
  intro n g cs P p D;have y:∃ f t,((begin prog (λ_ _=>0) default).world.heap[g]?).bind Obj.row?=some (f,t):=by
   have k:((List.range prog.globals.size).all λg=>(((begin prog (λ_ _=>0) default).world.heap[g]?).bind Obj.row?).isSome)=true:=by kernel_rfl
   have:=lz.1 k g<|iA.2 D;obtain⟨⟨a,b⟩,Q⟩:=oM.1 this;exact⟨a,b,Q⟩
  obtain⟨f,t,y⟩:=y;obtain⟨R,h1,_⟩:=I.1 g f t D y;unfold World.var? at p;rw[P,Ai,h1]at p;cases p;exact⟨t,h1⟩
 have z:∀ k,k<9->PB k<prog.globals.size:=λk m=>by
  have:=(gE k m).2;cases q:prog.globals[PB k]? with
  |none=>rw[q]at this;cases this
  |some _=>exact(iF.1 q).1
 refine⟨λk=>o.getD k (0,0),λk m=>?_,λk m=>?_,λj k Z m e=>?_,?_⟩
 .obtain⟨x,q,S⟩:=LO.1<|Qm k m;obtain⟨a,T,p⟩:=M k x q;rw[S]at p;obtain⟨t,U⟩:=C (gE k m).1 p<|z k m;refine⟨t,?_⟩;simp only[List.getD,T,iG];exact U
 .have i:k<o.length:=ai;have:=N o[k]<|dG i;obtain⟨c,t,A⟩:=(B _ _ this).1;refine⟨c,t,?_⟩;simp only[List.getD,cQ i,iG];exact A
 .have h1:j<o.length:=ai;have i:k<o.length:=ai;simp only[List.getD,cQ h1,cQ i,iG]at e;rcases Dt j k with h|h|h
  .exact absurd e<|Ds.1 hp j k h1 i h
  .exact h
  .exact absurd e.symm<|Ds.1 hp k j i h1 h
 .have:=L ("errors.errorType",d) (by simp);dsimp only at this;rw[r]at this;dsimp only at this;obtain⟨name,u,ty,h1,i,A,X,Y⟩:=this;rw[H]at h1;cases h1;rw[Vk]at i;cases i;obtain rfl:=Qj ty A X;exact C gTy Y<|zk<|by kernel_rfl
theorem agz{l:List α}(h:l.length=3):∃ a b c,l=[a,b,c]:=by
 match l,h with
 |[a,b,c],_=>exact⟨a,b,c,rfl⟩
theorem ZE{l:List α}(h:l.length=6):∃ a b c d e f,l=[a,b,c,d,e,f]:=by
 match l,h with
 |[a,b,c,d,e,f],_=>exact⟨a,b,c,d,e,f,rfl⟩
theorem Vl{w:World}{base:Nat}{a:Addr}{z:Nat}(hz:0<z)(h:w.cells? base a z=some cs):a.spot=none/\cs.length=z/\∃ c ty fr,w.heap[a.block]? =some (.cells c ty fr)/\∀ o,o<z->c[a.off+o]? =cs[o]? :=by
 obtain⟨_,hl,g⟩:=World.cells?_some h;have d:=g 0 hz;have i:cs[0]? =some (cs[0]'(by omega)):=cQ _;rw[i,add_zero]at d;unfold World.cell? at d;split at d
 .rename_i c ty fr e;split at d
  .cases d
  .rename_i hs;have f:a.spot=none:=by simpa using hs
   refine⟨f,hl,c,ty,fr,e,λo j=>?_⟩;have:=g o j;obtain⟨b,off,sp⟩:=a;dsimp only at f e⊢;subst f;rw[iI]at this;unfold World.cell? at this;dsimp only at this;rw[e]at this;simpa using this
 .cases d
variable{w:World}{spare:Nat->Bool}{held:Bool}
theorem NN{f:α->List Value}{z:Nat}{t e:aP}{Q:α->DataW H->Prop}(hz:0<z)(ht:P.underlying t=some (.slice e))(hc:P.cellsOf e=z)
  (E:∀ n cs y,DataW.trod enc P w 0 spare held n e cs=some y->∃ a,f a=cs/\Q a y.1) {n:Nat} {cs:List Value} {x:DataW H×List MemPlace} (h:DataW.trod enc P w 0 spare held n t cs=some x):
  ∃ v l es,cs=[v]/\Ci (hp w.heap) w.heap.size f z v l/\(x.1=.nil/\es=[]\/∃ sp,x.1=.slice es sp)/\es.length=l.length/\∀ a∈l,∃ d∈es,Q a d:=by
 rcases DataW.trod_slice ht h with⟨rfl,rfl⟩|⟨a,len,cap,g,aa,m,rfl,rfl,rfl,_,_,_,p,q,_,_⟩
 .exact⟨_,[],[],rfl,⟨none,0,rfl,.inl rfl⟩,.inl ⟨rfl,rfl⟩,rfl,by simp⟩
 subst p;rw[hc]at q;have key:∀ i:Fin g.length,∃ b,w.cells? 0 (a.add<|i.1*z) z=some (f b)/\Q b g[i.1].1:=λi=>by have h1:=q i.1 i.2;rw[cQ i.2,adN]at h1;obtain⟨F,I,J⟩:=h1;obtain⟨b,rfl,k⟩:=E _ _ _ J;exact⟨b,I,k⟩
 let l:List α:=List.ofFn λi=>Classical.choose<|key i
 have hl:l.length=g.length:=List.length_ofFn;have r:∀ (i:Nat) (hi:i<g.length),w.cells? 0 (a.add<|i*z) z=some (f<|l[i]'(by omega))/\Q (l[i]'(by omega)) g[i].1:=λi hi=>by have e:l[i]'(by omega)=Classical.choose (key ⟨i,hi⟩):=List.getElem_ofFn _;rw[e];exact LR<|key ⟨i,hi⟩
 refine⟨_,l,g.map (·.1),rfl,?_,.inr ⟨_,rfl⟩,by rw[eM,hl],λb k=>?_⟩
 .refine⟨some a,cap,by rw[hl],?_⟩;by_cases M:g.length=0
  .exact .inl<|yD ai
  .have u:=(r 0 ai).1;rw[QV,add_zero]at u;obtain⟨A,_,c,ty,fr,k,_⟩:=Vl hz u;obtain⟨b,off,sp⟩:=a;dsimp only at A k;subst A;refine .inr ⟨b,off,c,ty,fr,rfl,k,(iF.1 k).1,λj N o K=>?_⟩;have B:=(r j ai).1;rw[iI]at B;obtain⟨_,_,c',O,L,s,C⟩:=Vl hz B;dsimp only at s C;rw[k]at s;cases s;exact C o K
 .obtain⟨i,hi,rfl⟩:=nJ k;have D:i<g.length:=ai;exact⟨g[i].1,cq.2 ⟨_,dG D,rfl⟩,(r i D).2⟩
theorem Gr:prog.cellsOf 4=1:=by kernel_rfl
theorem zi:prog.cellsOf 3=1:=by kernel_rfl
theorem Jw:prog.cellsOf 27=1:=by kernel_rfl
theorem Cy:prog.cellsOf 63=3:=by kernel_rfl
theorem xG:prog.cellsOf 29=6:=by kernel_rfl
theorem LM:prog.bytesOf 63=24:=by kernel_rfl
theorem Gt:prog.bytesOf 29=64:=by kernel_rfl
theorem v7{n:Nat}{v:Value}{y:DataW H×List MemPlace}(h:DataW.trod enc prog w 0 spare held n 3 [v]=some y):∃ k,v=aF k/\Z64 k:=by obtain⟨k,h1,_,a⟩:=DataW.trod_int underlying3 h;refine⟨k,by simpa using h1,?_⟩;simp only[Lit.wf,jK,rz]at a;exact a
theorem agA{n:Nat}{y:DataW H×List MemPlace}(h:DataW.trod enc prog w 0 spare held n 63 cs=some y):∃ o,uR o=cs/\OpZ o:=by obtain⟨d,m,_,_,hl,f,e⟩:=DataW.trod_struct underlying63 h;rw[Cy]at hl;have f:d.length=3:=f;obtain⟨a,b,c,rfl⟩:=agz hl;have f0:DataW.trod enc prog w 0 spare held m 4 (([a,b,c].drop 0).take<|prog.cellsOf 4)=d[0]? :=e 0 _ rfl;have f1:DataW.trod enc prog w 0 spare held m 3 (([a,b,c].drop 1).take<|prog.cellsOf 3)=d[1]? :=e 1 _ rfl;have f2:DataW.trod enc prog w 0 spare held m 3 (([a,b,c].drop 2).take<|prog.cellsOf 3)=d[2]? :=e 2 _ rfl;rw[cQ ai]at f0 f1 f2;rw[Gr]at f0;rw[zi]at f1 f2;obtain⟨p,hp,_⟩:=DataW.trod_bool underlying4 f0;obtain⟨q,rfl,g⟩:=v7 f1;obtain⟨r,rfl,i⟩:=v7 f2;have hp:[a]=[.bool p]:=hp;cases hp;exact⟨⟨p,q,r⟩,rfl,g,i⟩
def ZF(w:World)(s:zf)(d:DataW H):Prop:=(∀ x∈d.weights prog 29,x<=reachBytes)->vj (hp w.heap) w.heap.size s
theorem Vm{n:Nat}{y:DataW H×List MemPlace}(h:DataW.trod enc prog w 0 spare held n 29 cs=some y):∃ s,vi s=cs/\ZF w s y.1:=by
 obtain⟨i,m,_,r,hl,k,j⟩:=DataW.trod_struct underlying29 h;rw[xG]at hl;have k:i.length=6:=k;obtain⟨a,b,c,d,e,u,rfl⟩:=ZE hl;have f0:DataW.trod enc prog w 0 spare held m 3 (([a,b,c,d,e,u].drop 0).take<|prog.cellsOf 3)=i[0]? :=j 0 _ rfl;have f1:DataW.trod enc prog w 0 spare held m 3 (([a,b,c,d,e,u].drop 1).take<|prog.cellsOf 3)=i[1]? :=j 1 _ rfl;have f2:DataW.trod enc prog w 0 spare held m 3 (([a,b,c,d,e,u].drop 2).take<|prog.cellsOf 3)=i[2]? :=j 2 _ rfl;have f3:DataW.trod enc prog w 0 spare held m 3 (([a,b,c,d,e,u].drop 3).take<|prog.cellsOf 3)=i[3]? :=j 3 _ rfl;have f4:DataW.trod enc prog w 0 spare held m 3 (([a,b,c,d,e,u].drop 4).take<|prog.cellsOf 3)=i[4]? :=j 4 _ rfl;have f5:DataW.trod enc prog w 0 spare held m 27 (([a,b,c,d,e,u].drop 5).take<|prog.cellsOf 27)=i[5]? :=j 5 _ rfl;rw[cQ ai]at f0 f1 f2 f3 f4 f5;rw[zi]at f0 f1 f2 f3 f4;rw[Jw]at f5;obtain⟨t,rfl,x⟩:=v7 f0;obtain⟨A,rfl,h1⟩:=v7 f1;obtain⟨B,rfl,C⟩:=v7 f2;obtain⟨D,rfl,E⟩:=v7 f3;obtain⟨F,rfl,I⟩:=v7 f4;obtain⟨v,l,es,p,J,hd,g,K⟩:=NN (f:=uR) (z:=3) (Q:=λo _=>OpZ o) (by decide) underlying27 Cy (λn cs y h=>agA h) f5;have p:[u]=[v]:=p;cases p;refine⟨⟨t,A,B,D,F,u,l⟩,rfl,λq=>⟨x,h1,C,E,I,J,λo L=>?_,?_⟩⟩
 .obtain⟨_,_,h⟩:=K o L;exact h
 .show l.length*24<=_;rcases hd with⟨_,rfl⟩|⟨sp,hd⟩
  .have:l.length=0:=g.symm;omega
  .rw[r]at q;obtain⟨x0,N,O,P,R,M,rfl⟩:=ZE k;have hd:M.1=.slice es sp:=hd;have:=q ((es.length+sp.length)*24) (by unfold DataW.weights;rw[underlying29];simp only[jq,ny,DataW.weightsEach,bS];rw[hd];refine .inr<|.inr<|.inr<|.inr<|.inr<|.inl ?_;unfold DataW.weights;rw[underlying27];simp only[LM];exact fX ..)
   unfold reachBytes at this;rw[<- g];have S:es.length*24<=(es.length+sp.length)*24:=GL _<|Re ..;omega
theorem ug{P:bT}{e:aP}:∀ {es:List (DataW H)} {d:DataW H},d∈es->∀ x∈d.weights P e,x∈DataW.weightsAll P e es
 |[],_,h,_,_=>by cases h
 |a::es,d,h,x,b=>by
  unfold DataW.weightsAll;rcases gU.1 h with rfl|h
  .exact iq _ b
  .exact fD _<|ug h x b
theorem Qn{n:Nat}{y:DataW H×List MemPlace}(h:DataW.trod enc prog w 0 spare held n 22 cs=some y)(c:∀ x∈y.1.weights prog 22,x<=reachBytes):
  ∃ v b,cs=[v]/\Ci (hp w.heap) w.heap.size vi 6 v b/\(∀ s∈b,vj (hp w.heap) w.heap.size s)/\b.length*64<=140737488355328:=by
 obtain⟨v,l,es,g,i,hd,a,j⟩:=NN (f:=vi) (z:=6) (Q:=λs d=>ZF w s d) (by decide) underlying22 xG (λn cs y h=>Vm h) h;refine⟨v,l,g,i,λs hs=>?_,?_⟩
 .obtain⟨d,e,k⟩:=j s hs;refine k λx m=>?_;rcases hd with⟨_,rfl⟩|⟨sp,hd⟩
  .cases e
  .refine c x ?_;rw[hd];unfold DataW.weights;rw[underlying22];simp only[gU,bS];exact .inr<|.inl<|ug e x m
 .rcases hd with⟨_,rfl⟩|⟨sp,hd⟩
  .have:l.length=0:=a.symm;omega
  .have:=c ((es.length+sp.length)*64) (by rw[hd];unfold DataW.weights;rw[underlying22];simp only[Gt];exact fX ..)
   unfold reachBytes at this;rw[<- a];have o:es.length*64<=(es.length+sp.length)*64:=GL _<|Re ..;omega
open Go.ChangeShapes Go.WideShapes
theorem laidOut:laidOutB prog=true:=by kernel_rfl
theorem Jx:prog.readableRec 22=true:=by kernel_rfl
theorem LN:22<prog.types.size:=zk<|by kernel_rfl
set_option maxRecDepth 100000 in
theorem Vn{s:ChangeSpec}{b a:Bool}{base:Nat}{args:Array Value}{ds gs:List (DataW H)}{g:List MemPlace}
  (z:fu.params.toList=[22]) (B:fu.resultTypes=#[4]) (M:s.vars=[]) (Y:∀ d:DataW H,(s.fn H [d]).results=[.lit (.bool true)]/\(s.fn H [d]).args=[d]/\(s.fn H [d]).vars=[])
  (Z:∀ (j:Nat) t v,fu.params[j]? =some t->args[j]? =some v->Value.okWide prog W .any base t v)
  (N:DataW.Whole enc prog fu.params.toList s.vars apart W args.toList ds gs g) (O:(DataW.weightsEach prog (fu.params.toList++s.plain.varTypes prog)<|ds++gs).all (· <=reachBytes)=true)
  (C:∃ eb,iX (hp W.heap) eb)
  (D:∀ {Post:Value->World->Prop} {os:Os} {out:Array (Nat×ByteArray)} {σ:Gh} {I:HL} {v:Value} {A:List zf} {eb:Nat->Nat×Nat},iX I eb->Ci I σ.bot vi 6 v A->(∀ s∈A,vj I σ.bot s)->A.length<=2^41->qF σ->
   (∀ (I':HL) (w:World),Sub I I'->Sat [bI I'] (hp w.heap)->w.os=os->w.output=out->Post (.bool true) w)->At (aG prog Post bM σ 0 os out) 0 [bI I] (jA prog f #[v] .rU [])):
  Ends prog (λv o=>s.post enc prog fu apart b a false W args v {o with os:=W.os}/\OsLater W.os o.os) (solo (G (Frame.enter prog f args .normal) []) W) #[]:=by
 have m:=N;obtain⟨p,q,P,Q,rfl,hfz,nS⟩:=N;rw[M]at Q;obtain⟨rfl,rfl⟩:=trodVars_none Q;rw[z]at P;obtain⟨v,d,rfl,rfl,hd⟩:=trodAll_one P;obtain⟨n,R⟩:=hd;rw[z]at O;obtain⟨v',A,uN,iW,dI,S⟩:=Qn R (λx E=>by
  have:=lz.1 O x (by simp only[fJ,ek,DataW.weightsEach,bS];exact .inl E)
  simpa using this)
 have F:fu.params[0]? =some 22:=by rw[<- Array.getElem?_toList,z];rfl
 have Z9:=Z 0 22 v F (by simp);obtain⟨T,r,u,rfl⟩:=okWide_slice underlying22 Z9;obtain rfl:Value.slice T r u=v':=(List.cons.inj uN).1;obtain⟨eb,C⟩:=C;have h0:qF {n:=1,aU:=λ_=>none,sh:=λ_=>False,bot:=W.heap.size}:=⟨Nat.one_ne_zero,λ_=>rfl⟩;refine yJ.whole (bot:=W.heap.size) ?_;have hr:=D (Post:=λv o=>s.post enc prog fu apart b a false W #[.slice T r u] v {o with os:=W.os}/\OsLater W.os o.os) (os:=W.os) (out:=W.output) (σ:={n:=1,aU:=λ_=>none,sh:=λ_=>False,bot:=W.heap.size}) (I:=hp W.heap) C iW dI ai h0 ?_
 .exact hr W.heap ⟨_,rfl,λ_ _ h=>h,trivial⟩ rfl (GO.mk (λi s h=>by cases h) (λi s c h=>by cases h) (λi s p h=>by cases h) (λl h=>False.elim h)<|fC _) W rfl rfl rfl
 .intro I' w jL J OE U;obtain⟨h1,rfl,iu,_⟩:=J;have K:∀ k,k<W.heap.size->w.heap[k]? =W.heap[k]? :=λk X=>by have e:W.heap[k]? =some (W.heap[k]'X):=Gu X;rw[e];exact iu _ _<|jL _ _ e
  have y:W.heap.size<=w.heap.size:=by
   by_cases h:W.heap.size=0
   .omega
   .have e:W.heap[W.heap.size-1]? =some (W.heap[W.heap.size-1]'(by omega)):=Gu ai;have:=(iF.1<|K (W.heap.size-1) ai |>.trans e).1;omega
  have hb:=Jr (w':=w) U K y;obtain⟨e1,e2,e3⟩:=Y d;simp only[lS]at m;have L:=Below.trod laidOut Jx LN ⟨n,R⟩ hb λx E=>m.lt x E;refine⟨⟨[d],[],p,[],p,[],m,?_,?_,?_,Yc U K y _,λh=>by cases h⟩,by rw[OE];exact OsLater.refl _⟩
  .rw[lS,e1,B];exact trodAll_mk1<|shut_bool underlying4 true
  .rw[lS,e2,z];exact trodAll_mk1<|DataW.Trod.of_heap (w':={w with os:=W.os}) (by rfl) L
  .rw[lS,e3,M];rfl
end
end Go.Sl
