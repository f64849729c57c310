/- Rules for what a function computes on abstract states (part 2); no condition. -/
import Derived.Carry
import Derived.Test.YthdlbilidpgknaaGreatDoorPtS1
import Derived.Test.YthdlbilidpgknaaGreatDoorPtM3
noncomputable section
set_option linter.all false
namespace Go.ak
open Sym
def anw{k z j q o:Nat}(h:o=j*z+q):bY (.p k o) (.gW k z j q):=fun _ _ _ d=>by subst h;exact d
section
variable{call:bO}{s:cW}{x y i:bi}
variable{n k:Nat}{el:ce}{z:Nat}{cs:ac ah}{j o:Nat}{a3:Bool}{l:ac bv}
def x6{cp:d7}(aa:bw s.env x=some (.p k o))(hi:bw s.env i=some (.i cp (j:Int)))(hj:j<n):fA call (.so n z x i) s (.p k (o+j*z)) s.own s.n:=jO fun H ids st fr az ae=>by
 obtain⟨b,J,U⟩:=ae.aj aa;have af:fr.aj i= .int cp (j:Int):=ae.aj hi;refine⟨_,⟨b,J,rfl⟩,?_⟩;show wk n z x i call fr st=_;unfold wk;rw[U,qC,Sym.eJ,af,nf,pn,gv (by omega),pI];rfl
def amq{cp:d7}(aa:bw s.env x=some (.ip cs))(hi:bw s.env i=some (.i cp (j:Int)))(hj:j<n):fA call (.so n z x i) s (.ip (cs.drop (j*z))) s.own s.n:=jO fun H ids st fr az ae=>by
 obtain⟨b,o,vs,el,bd,a3,J,U,d⟩:=ae.aj aa;have af:fr.aj i= .int cp (j:Int):=ae.aj hi;refine⟨.pointer (some ⟨b,o+j*z,none⟩),⟨b,o+j*z,vs,el,bd,a3,rfl,U,?_⟩,?_⟩
 ·have:=oY (j*z) d;rw[zen,zbC,<-zaH]at this;exact this
 ·show wk n z x i call fr st=_;unfold wk;rw[J,qC,Sym.eJ,af,nf,pn,gv (by omega),pI];rfl
def Xc{cA:bJ}{g:Nat}{vs:ac be}{bd:Nat×Nat}{cp:d7}(aa:bw s.env x=some (.v (.pointer (some ⟨g,0,none⟩))))(aO:cA g=some (.cells vs el bd a3))(aq:∀H,dj H cs [] vs)(hi:bw s.env i=some (.i cp (j:Int)))(hj:j<n):zf cA call (.so n z x i) s (.ip (cs.drop (j*z))) s.own s.n:=fun H ids st fr eB az ae=>by
 have J:fr.aj x= .pointer (some ⟨g,0,none⟩):=ae.aj aa;have af:fr.aj i= .int cp (j:Int):=ae.aj hi;refine⟨.pointer (some ⟨g,0+j*z,none⟩),st,ids,H,?_,az,⟨g,0+j*z,vs,el,bd,a3,rfl,eB _ _ aO,?_⟩,dp.refl _,di.refl _,fun _ _ _ B=>B,b5 _,fun _ _ _=>rfl⟩
 ·show wk n z x i call fr st=_;unfold wk;rw[J,qC,Sym.eJ,af,nf,pn,gv (by omega),pI];rfl
 ·have:=oY (j*z) (aq H);have hl:=hW this;rw[zav,<-hl,zcb];exact this
def aeE(aa:bw s.env x=some (.p k o))(ab:s.own[k]? =some (.c el cs))(ao:o<cs.length):fA call (.Ck x) s (.p k o) s.own s.n:=jO fun H ids st fr az ae=>by
 obtain⟨b,J,U⟩:=ae.aj aa;obtain⟨⟨vs,af,d⟩,_⟩:=az.own k _ b ab J;refine⟨_,⟨b,J,rfl⟩,?_⟩;show Ii x call fr st=_;unfold Ii ay.gE;rw[U,qC,Sym.eJ,Sym.hR,af,kI,gv (by rw[fo,hW d];exact ao)]
def afk(aa:bw s.env x=some (.p k 0))(ab:s.own[k]? =some (.c el cs))(hn:cs.length=n):fA call (.Cl el n x) s (.p k 0) s.own s.n:=jO fun H ids st fr az ae=>by
 obtain⟨b,J,U⟩:=ae.aj aa;obtain⟨⟨vs,af,d⟩,_⟩:=az.own k _ b ab J;refine⟨_,⟨b,J,rfl⟩,?_⟩;show Ij el n x call fr st=_;unfold Ij ay.gE;rw[U,qC,Sym.eJ,Sym.hR,af,kI,cond_false,jC rfl,jC rfl,jC (by rw[fo,hW d];exact hn)]
def JD{p q:Nat}{α:Type}{R:α->ac ah}{l:ac α}{aL hi:am bi}(aa:bw s.env x=some (.p k 0))(ab:s.own[k]? =some (.a el false z α R l))(fH:e8 s aL 0 p)(gu:e8 s hi n q)(hp:p<=q)(hq:q<=n)(h0:p<n∨p=0):fA call (.Bt n z x aL hi none) s (.bj k z p (q-p) (n-p)) s.own s.n:=jO fun H ids st fr az ae=>by
 obtain⟨b,J,U⟩:=ae.aj aa;obtain⟨vs,bf,cb,cQ⟩:=pK az ab J;refine⟨_,⟨b,J,rfl⟩,?_⟩;show A1 n z x aL hi none call fr st=_;unfold A1 ay.gE;rw[U,qC,Sym.eJ,Sym.hR,bf,kI,cond_false,Cc,e8.aj gu ae hq,e8.aj fH ae hp];congr 2;by_cases k7:n=p
 ·subst k7;rcases h0 with h0|h0
  ·omega
  ·subst h0;rw[jC rfl];simp
 ·rw[r5 k7,pI,zav];rfl
def atc{cp:d7}(aa:bw s.env x=some (.p k 0))(aF:bw s.env y=some (.i cp (n:Int)))(ab:s.own[k]? =some (.a el a3 1 bv kE l))(hn:n=l.length)(h0:n≠0)(hb:n<=1099511627776):fA call (.s0 el x y) s (.s l) (s.own.set k .x) s.n:=fun H ids st fr az ae=>by
 obtain⟨b,J,U⟩:=ae.aj aa;have af:fr.aj y= .int cp (n:Int):=ae.aj aF;obtain⟨vs,bf,cb,cQ⟩:=pK az ab J;have cY:=K5 (⟨cb,cQ⟩:jk H ids kE 1 l vs);refine⟨_,_,ids,H,?_,az.gL ab rfl J (ej:=.cells vs el (0,0+n) a3) trivial,rfl,dp.refl _,di.refl _,fun _ _ _ B=>B.gL (zaA J) _,b5 _,?_⟩
 ·show Iq el x y call fr st=_;unfold Iq ay.gE;rw[U,qC,af,nf,pn,r5 h0,Sym.eJ,gv (show n<=2^40 from hb),Sym.hR,bf,kI,gv (b5 _),jC rfl,r1 (by show n<=(vs.drop 0).length;rw[zap,cb];omega)];show bm (bytesOf ((vs.drop 0).take n)) _ _=_;rw[zap,zaF (by rw[cb];omega),cY,Sym.eJ,jT];rfl
 ·intro fU _ cx;exact ar.hY _ _ (fun e=>cx k (by simp[ky,aa]) (e▸J))
def tY(c:bv)(l:ac bv):Int:=match qf c l with
 |some i=>i
 |none=> -1
def amu{c:bv}(aa:bw s.env x=some (.s l))(aF:bw s.env y=some (.i .u8 (c.toNat:Int))):fA call (.kc x y) s (.i .i64 (tY c l)) s.own s.n:=jO fun H ids st fr az ae=>by
 have J:fr.aj x= .string ⟨⟨l⟩⟩:=ae.aj aa;have U:fr.aj y= .int .u8 (c.toNat:Int):=ae.aj aF;refine⟨_,rfl,?_⟩;show Ik x y call fr st=_;unfold Ik;rw[J,BG,U,nf,show jr .u8 .u8=true from rfl,cond_true,pn,UInt8.ofNat_toNat];unfold tY;show aX.ok (.int .i64 (bm (qf c l) (fun i=>.ofNat i) (.negSucc 0))) fr st=_;cases qf c l<;>rfl
end
set_option maxRecDepth 10000
def Zl{X:Ctx}{K:ci->gN}{f:ci}(h:K f=gN.no)(as:ac be)(st:ay):dz X K f as st=none:=by
 unfold dz;rw[h,dif_neg (fun⟨p,J,_⟩=>J),dif_neg (fun⟨p,J,_⟩=>J)]
def eh.trans{cA H bF:bJ}{i0 ids dd:ac Nat}{aH st st':ay}(h:eh cA i0 aH H ids st)(aB:eh H ids st bF dd st'):eh cA i0 aH bF dd st':=by
 have hn:∀b,b<aH.al->b∉i0->b<st.al∧b∉ids:=fun b hb hi=>⟨fy hb h.al,fun hm=>(h.new b hm).elim hi (fun h=>by omega)⟩;refine⟨h.hle.trans aB.hle,fun b hb hi=> ?_,fun b hb hi=> ?_,zaj h.al aB.al,fun k b ab=>aB.mn k b (h.mn k b ab),fun b hb=> ?_⟩
 ·obtain⟨J,U⟩:=hn b hb hi;rw[aB.hold b J U,h.hold b hb hi]
 ·obtain⟨J,U⟩:=hn b hb hi;rw[aB.h5 b J U,h.h5 b hb hi]
 ·rcases aB.new b hb with J|J
  ·exact h.new b J
  ·exact .inr (zaj h.al J)
section
variable{X:Ctx}{bB:ar dv}{da:ci->gN}{cB n:Nat}{fn:ci}{cA:bJ}{i0:ac Nat}{aH:ay}{Q:dT->cW->Prop}{K:ac e4}{own:ac bp}{aP:Nat}{e:bX}
def ac4(aE:fL)(K:ac e4)(xs:ac bK)(d:am Tmp)(e:bX)(res:ac iI)(x:dT)(s:cW):Prop:=(x= .norm∨x= .ret)∧∃r,Fin.wI s res=some r∧a1.ok aE ⟨K,.o xs,⟨s.own,s.n,fI d r e⟩⟩
def yK{g:ci}(xf:dv)(aa:bB.get g=some xf){c0:ac bi}{as:ac ah}{d:am Tmp}{xs:ac bK}
 (k:∀H1 i1 s1,i1.length=own.length->dp cA H1->a1.ok ⟨dc bB (dz X da) (n+1),n+1,g,H1,i1,s1,ac4 ⟨dc bB (dz X da) (n+2),cB,fn,cA,i0,aH,Q⟩ K xs d e xf.res⟩ ⟨[],.c xf.body,⟨own,aP,oa 0 as⟩⟩)
 (aY:mr e c0=some as:=by rfl) (hl:as.length<=xf.aQ:=by exact jw rfl) (ec:da g=gN.no:=by rfl):a1.ok ⟨dc bB (dz X da) (n+2),cB,fn,cA,i0,aH,Q⟩ ⟨K,.o (⟨d,.call (.func g) c0,none⟩::xs),⟨own,aP,e⟩⟩:=by
 intro H ids st fr bb az ae;have aq:=ae.eA aY;have gG:=k H ids st (az.len.trans az.cI.symm) bb.hle H ids st (gm (eA fr c0)) (eh.refl _ _ _) az (c9.zero aq);obtain⟨v,st',J,r,bF,dd,s,et,ef,g6,ab⟩:=FI (n:=n+1) (f:=g) (Post:=fun v st'=>∃(r:ah) (bF:bJ) (dd:ac Nat) (s:cW),eh H ids st bF dd st'∧Fit bF dd st' s.own s.n∧den bF r dd v∧a1.ok ⟨dc bB (dz X da) (n+2),cB,fn,cA,i0,aH,Q⟩ ⟨K,.o xs,⟨s.own,s.n,fI d r e⟩⟩)
  (by rw[hW aq];exact hl) (gG.mono (by
   rintro x en cl ⟨bF,dd,s,et,ef,eU,aa,r,hr,ab⟩;obtain⟨v,af,ax⟩:=Jp (call:=dc bB (dz X da) (n+1)) ef eU hr;exact⟨aa,v,ax,r,bF,dd,s,et,ef,af,ab⟩))
 refine uY (v:=v) (st':=st') ?_ (ab bF dd st' _ (bb.trans et) ef ((ae.mono et.hle et.mn).fI d g6));rw[AZ];show xw (dc bB (dz X da) (n+2) (.func (.func g) #[] #[]) (eA fr c0) none st) _ _=_;rw[zr];have a7:gC (#[]:ap be).toList (gC (eA fr c0) (#[]:ap be).toList)=eA fr c0:=by simp
 rw[a7,Zl ec,Sym.hR,Sym.hR,aa,Sym.eJ,J];rfl
end
theorem K6{H:bJ}{ids:ac Nat}{α:Type}{R:α->ac ah}{z:Nat}(aJ:∀w,(R w).length=z):∀{l:ac α} {vs:ac be},jk H ids R z l vs->dj H (l.flatMap R) ids vs
 |[],vs,h=>by
  have:vs=[]:=zbz (by rw[h.1];simp);exact this
 |w::l,vs,h=>by
  rw[<-zbh z vs,zdJ];have J:=h.2 0 w (by simp);rw[zas,zap]at J;have U:=zv h 1;rw[zaw]at U;exact zF J (K6 aJ (l:=l) U)
section
variable{aE:fL}{K:ac e4}{own bP:ac bp}{aP cc:Nat}{e:bX}{d:Tmp}{xs:ac bK}{x y i:bi}
variable{el:ce}{c1:Nat}{l:ac bv}{n z:Nat}{α:Type}{p:ac bK}{a3:Bool}{j:Nat}{R:α->ac ah}
def apW(k:Nat){l:ac α}(cp:a1.ok aE ⟨K,.o p,⟨bP,aP,e⟩⟩)(ab:own[k]? =some (.a el false z α R l):=by rfl)(aJ:∀w,(R w).length=z:=by exact fun _=>rfl)(ao:kB own k (.c el (l.flatMap R)) some=some bP:=by rfl):a1.ok aE ⟨K,.o p,⟨own,aP,e⟩⟩:=fun H ids st fr bb az ae=>by
 have:=l2 ao;cases this;refine cp H ids st fr bb ⟨az.wf,az.le,by simp[az.cI],az.len,az.de,az.lt,?_⟩ ae;intro j q c hj hc;by_cases mi:k=j
 ·subst mi;rw[zbu,zab rfl]at hj;split at hj<;>cases hj;obtain⟨⟨vs,af,ax,a0⟩,ck⟩:=az.own k _ c ab hc;exact⟨⟨vs,af,K6 aJ ⟨ax,a0⟩⟩,fun _=>ck rfl⟩
 ·rw[zbu,zaa mi]at hj;exact az.own j q c hj hc
def ap1(t:Nat){k:Nat}{l:ac α}(cp:a1.ok aE ⟨K,.o p,⟨bP,aP,(t,.ip (l.flatMap R))::e⟩⟩)(aV:dZ e t=some (.p k 0):=by rfl)(ab:own[k]? =some (.a el a3 z α R l):=by rfl)(hp:∀x,iU (R x)=true:=by exact fun _=>rfl)(aJ:∀w,(R w).length=z:=by exact fun _=>rfl)(ao:kB own k .x some=some bP:=by rfl):a1.ok aE ⟨K,.o p,⟨own,aP,e⟩⟩:=fun H ids st fr bb az ae=>by
 have:=l2 ao;cases this;obtain⟨b,aM,aN⟩:=ae.get t _ aV;obtain⟨⟨vs,bf,cb,cQ⟩,_⟩:=az.own k _ b ab aM;have hle:=CL az ab rfl aM;refine cp (kp H st b) ids st fr (bb.kp az ab rfl aM) (az.kp ab rfl aM) ⟨(ae.mono hle (di.refl _)).pl,fun j q hj=> ?_⟩;rw[rn]at hj;cases hb:Nat.beq t j with
 |false=>rw[hb]at hj;exact(ae.mono hle (di.refl _)).get j q hj
 |true=>
  rw[hb]at hj;cases hj;rw[<-eL hb];have hc:jk H [] R z l vs:=⟨cb,fun i x aa=>pV _ (hp x) (cQ i x aa) []⟩;have aq:=K6 aJ hc;have hl:=hW aq;refine⟨b,0,vs,el,(0,0),a3,aN,by unfold kp;rw[zab rfl];exact bf,?_⟩;rw[zap,<-hl,zcb];exact l9 hle _ (di.refl _) aq
def abN{call:bO}{s:cW}(aF:bw s.env y=some (.s l)):u7 call el c1 s y kE 1 l:=fun H ids st fr az ae x p n c aa=>by
 have J:fr.aj y= .string ⟨⟨l⟩⟩:=ae.aj aF;obtain⟨U,af⟩:=Rn H ids l;refine⟨kZ l,U,af,?_⟩;have e:bR call (.app el 1 c1 x y) fr st=hD (fr.aj x) (fun base len cap=>hD (fr.aj y) (fun b n _=>bm b (fun b=>st.load b (Nat.mul n 1) (fun new=>cond (gZ new) (iK fr st el 1 c1 base len cap n new) .no) .no) (dV n 0 (iK fr st el 1 c1 base len cap 0 []) .no)) (s3 (fr.aj y) (iK fr st el 1 c1 base len cap 0 []) (hE (fr.aj y) (fun s=>dV 1 1 (iK fr st el 1 c1 base len cap (dk s.data.toList) (kZ s.data.toList)) .no) .no))) .no:=rfl;rw[e,aa,nY,J];show dV 1 1 (iK fr st el 1 c1 p n c (dk l) (kZ l)) .no=_;rw[jC rfl,fo]
def apV(k:a1.ok aE ⟨K,.o xs,⟨bP,cc,(d,.bj aP 1 0 l.length l.length)::e⟩⟩)(aa:bw e x=some .nl:=by rfl)(aF:bw e y=some (.s l):=by rfl)
 (ao:rN own (.a el true 1 bv kE l) some=some bP:=by rfl) (jI:ov aP some=some cc:=by rfl) (h0:l≠[]:=by first|rfl|simp) (hb:(5*l.length+1792)*(c1+1)<=1125899906842624:=by first|omega|(simp;done)|(simp;omega)):a1.ok aE ⟨K,.o (⟨some d,.app el 1 c1 x y,none⟩::xs),⟨own,aP,e⟩⟩:=by
 have J:=sW ao;have U:=qo jI;cases J;cases U;exact e7 (Qw (s:=⟨own,aP,e⟩) aa (abN aF) h0 hb) k
def apU{bL c:Nat}{m:ac bv}{ij:ac bp}(k:a1.ok aE ⟨K,.o xs,⟨bP,cc,(d,.bj aP 1 0 (n+m.length) (n+m.length))::e⟩⟩)(aa:bw e x=some (.bj bL 1 0 n c):=by rfl)(aF:bw e y=some (.s m):=by rfl)(ab:own[bL]? =some (.a el true 1 bv kE l):=by rfl)
 (mj:kB own bL .x some=some ij:=by rfl) (ao:rN ij (.a el true 1 bv kE (l++m)) some=some bP:=by rfl) (jI:ov aP some=some cc:=by rfl) (h0:m≠[]:=by first|rfl|simp) (hn:n=l.length:=by first|omega|(simp;done)|(simp;omega)) (kv:n=c:=by omega) (hb:(5*(n+m.length)+1792)*(c1+1)<=1125899906842624:=by first|omega|(simp;done)|(simp;omega)):a1.ok aE ⟨K,.o (⟨some d,.app el 1 c1 x y,none⟩::xs),⟨own,aP,e⟩⟩:=by
 have j7:=l2 mj;cases j7;have J:=sW ao;have U:=qo jI;cases J;cases U;have:=Qv (call:=aE.call) (s:=⟨own,aP,e⟩) (c1:=c1) aa ab (abN aF) h0 (by omega) (by omega) (by omega) hb;rw[hn,zcb]at this;rw[hn]at k;exact e7 this k
def Jk{bL:Nat}{cp:d7}(k:a1.ok aE ⟨K,.o xs,⟨own,aP,(d,.gW bL 1 j 0)::e⟩⟩)(aa:bw e x=some (.p bL 0):=by rfl)(hi:bw e i=some (.i cp (j:Int)):=by rfl)(hj:j<n:=by omega):a1.ok aE ⟨K,.o (⟨some d,.so n 1 x i,none⟩::xs),⟨own,aP,e⟩⟩:=
 e7 (fun H ids st fr az ae=>let⟨v,st',dd,bF,J,U,af,ax⟩:=x6 (call:=aE.call) (s:=⟨own,aP,e⟩) (z:=1) aa hi hj H ids st fr az ae;⟨v,st',dd,bF,J,U,anw (by omega) _ _ _ af,ax⟩) k
def ap2{g:Nat}{cp:d7}{vs:ac be}{bd:Nat×Nat}{cs:ac ah}(aO:aE.cA g=some (.cells vs el bd a3))(aq:∀H,dj H cs [] vs)(k:a1.ok aE ⟨K,.o xs,⟨own,aP,(d,.ip (cs.drop j))::e⟩⟩)(aa:bw e x=some (.v (.pointer (some ⟨g,0,none⟩))):=by rfl)(hi:bw e i=some (.i cp (j:Int)):=by rfl)(hj:j<n:=by omega):a1.ok aE ⟨K,.o (⟨some d,.so n 1 x i,none⟩::xs),⟨own,aP,e⟩⟩:=by
 have:=Xc (call:=aE.call) (s:=⟨own,aP,e⟩) (z:=1) aa aO aq hi hj;rw[zaE]at this;exact EC (d:=some d) this k
end
section
variable{call:bO}{s:cW}{x y:bi}
variable{neg:Bool}
def Sb{c:Bool}{t:oJ}{fr:aR}{st:ay}(hc:kK 8 t (fr.aj x) (fr.aj y)=some c):bR call (.eqv neg t x y) fr st= .ok (.bool (j2 neg c)) fr st:=by
 show bm (kK 8 t (fr.aj x) (fr.aj y)) (fun b=>aX.ok (.bool (cond neg (!b) b)) fr st) .no=_;rw[hc];rfl
def agv(aa:bw s.env x=some (.v (.pointer none)))(aF:bw s.env y=some (.v (.pointer none))):fA call (.eqv neg .ptr x y) s (.b (j2 neg true)) s.own s.n:=jO fun H ids st fr az ae=>
 ⟨_,rfl,Sb (by rw[show fr.aj x=_ from ae.aj aa,show fr.aj y=_ from ae.aj aF];simp[kK,r6])⟩
def agw{k o:Nat}(aa:bw s.env x=some (.p k o))(aF:bw s.env y=some (.p k o)):fA call (.eqv neg .ptr x y) s (.b (j2 neg true)) s.own s.n:=jO fun H ids st fr az ae=>by
 obtain⟨b,J,U⟩:=ae.aj aa;obtain⟨fU,kM,af⟩:=ae.aj aF;rw[J]at kM;cases kM;exact⟨_,rfl,Sb (by rw[U,af];simp[kK,r6])⟩
end
section
variable{aE:fL}{K:ac e4}{own bP bZ ij:ac bp}{aP bn cj back:Nat}{e a7:bX}{d:Tmp}{ts:ac Tmp}{xs:ac (bK×cE)}{x y i:bi}
variable{n:Nat}
def afw{bL z c:Nat}(k:a1.ok aE ⟨K,.d xs bZ ((d,.p bL 0)::a7) bn cj,⟨own,aP,(d,.p bL 0)::e⟩⟩)(aa:bw (eV ts a7) x=some (.bj bL z 0 n c):=by rfl)(hc:c≠0:=by omega)(hb:back<bn:=by decide):a1.ok aE ⟨K,.d ((⟨some d,.Bo x,none⟩,.read back ts)::xs) bZ a7 bn cj,⟨own,aP,e⟩⟩:=
 oX (d:=some d) (a:=.p bL 0) hb (fun H ids st fr ae _ _=>by
  obtain⟨b,J,U⟩:=ae.aj aa;refine⟨_,⟨b,J,rfl⟩,fun dB _ _=> ?_⟩;show Ip x aE.call fr dB=_;unfold Ip;rw[U,nY,zas,Sym.eJ,r5 hc]) k
def afy{bL:Nat}{el:ce}{a3:Bool}{l:ac bv}{cp:d7}{aw:bX}(k:a1.ok aE ⟨K,.d xs ij aw (bn+1) aP,⟨bP,aP,(d,.s l)::e⟩⟩)(aa:bw e x=some (.p bL 0):=by rfl)(aF:bw e y=some (.i cp (n:Int)):=by rfl)(ab:own[bL]? =some (.a el a3 1 bv kE l):=by rfl)(ao:kB own bL .x some=some bP:=by rfl)(mj:Eb bZ (some bL) some=some ij:=by rfl)(akH:oZ d a7=aw:=by rfl)
 (hn:n=l.length:=by first|rfl|omega|(simp;done)) (h0:n≠0:=by omega) (hb:n<=1099511627776:=by omega):a1.ok aE ⟨K,.d ((⟨some d,.s0 el x y,none⟩,.eH)::xs) bZ a7 bn cj,⟨own,aP,e⟩⟩:=by
 have h:=l2 ao;cases h;obtain⟨aoX,aM,aN,bf⟩:=Oe mj;cases aM;subst akH;exact Lc (d:=some d) (s:=⟨own,aP,e⟩) (atc (s:=⟨own,aP,e⟩) aa aF ab hn h0 hb) aN (fun k o fh hl=>by
  have:=bf k o fh hl;simp only[ky,aa];exact this) k
end
variable{st:ay}{H:bJ}{ids:ac Nat}{n:Nat}{fr:aR}{call:bO}{l:Nat}
def asI{own:ac bp}{p:Nat}{e cy:bX}{o q:bp}(h:kG [0,2] cy e)(ao:∃br,own[0]? =some br∧gA [0,2] o br)(hq:∃br,own[2]? =some br∧gA [0,2] q br)(hp:pinned p [0,2] 0=true:=by rfl):Sub p [0,2] ⟨own,n,e⟩ ⟨[o,q],2,cy⟩:=⟨by simp,rfl,⟨ao,hq,trivial⟩,h,hp⟩
def plainO:dg->Bool
 |.lR _=>true
 |.alloc _ _=>true
 |.call _ _=>true
 |_=>false
def aoJ{o:dg}{aK:aR}{st':ay}{v:be}(ao:plainO o=true)(h:bR call o fr st= .ok v aK st'):aK=fr:=by
 cases o<;>first|cases ao|skip
 ·cases h;rfl
 ·rename_i z el;have e:bR call (.alloc z el) fr st=st.iT (.cells z el (0,0) false) fun id st=>.ok (.pointer (some ⟨id,0,none⟩)) fr st:=rfl;rw[e,gw]at h;cases h;rfl
 ·rename_i f as;rw[AZ]at h;cases hc:call (fr.aj f) (eA fr as) none st with
  |ret v1 cl eE=>rw[hc,ag2]at h;cases h;rfl
  |bk v1 cl eE=>rw[hc,ag1]at h;cases h
  |no=>rw[hc]at h;cases h
theorem Zj{call:bO}:∀{ops:ac bK} {fr aK:aR} {st st':ay} {e:dT},(ops.all fun x=>x.g.isNone&&plainO x.o)=true->iL call ops fr st= .out e aK st'->aK.b7=fr.b7
 |[],_,_,_,_,_,_,h=>by cases h;rfl
 |⟨d,o,g⟩::ops,fr,aK,st,st',e,aY,h=>by
  rw[List.all_cons,b3,b3]at aY;obtain⟨⟨aO,ao⟩,aY⟩:=aY;cases g with
  |some p=>cases aO
  |none=>
   have h:AW (bR call o fr st) (fun v fr st=>iL call ops (fr.put d v) st) (fun v st=>cond o.nq (.out (.bk v) fr st) .no)= .out e aK st':=h;have ao:plainO o=true:=ao;cases dr:bR call o fr st with
   |ok v en cl=>
    have aw:=aoJ ao dr;subst aw;rw[dr,NY]at h;rw[Zj aY h];exact(wx _ _ _).2.2.2
   |bk v cl=>
    rw[dr,aoC]at h;cases hp:o.nq with
    |true=>rw[hp,cond_true]at h;cases h;rfl
    |false=>rw[hp,cond_false]at h;cases h
   |no=>rw[dr,aoB]at h;cases h
def seg{cB:Nat}{fn:ci}{ops:ac bK}{s t:cW}(hp:(ops.all fun x=>x.g.isNone&&plainO x.o)=true)(h:∀H1 i1 s1,i1.length=s.own.length->dp H H1->a1.ok ⟨call,cB,fn,H1,i1,s1,fun x bz=>x= .norm∧bz=t⟩ ⟨[],.o ops,s⟩)
 (az:Fit H ids st s.own s.n) (ae:c9 fr H ids s.env):∃aK st' bF dd,dD call cB fn (.yN ops) fr st= .out .norm aK st'∧eh H ids st bF dd st'∧Fit bF dd st' t.own t.n∧c9 aK bF dd t.env∧aK.b7=fr.b7:=by
 obtain⟨e,aK,st',J,bF,dd,bz,bb,ef,eU,rfl,rfl⟩:=h H ids st (az.len.trans az.cI.symm) (dp.refl _) H ids st fr (eh.refl _ _ _) az ae;exact⟨aK,st',bF,dd,J,bb,ef,eU,Zj hp J⟩
def Fit.extra{own:ac bp}(h:Fit H ids st own n)(ej:bH):Fit H ids ⟨st.h.set st.al ej,st.al+1⟩ own n:=by
 have cx:∀b,b<st.al->(ar.set st.h st.al ej).get b=st.h.get b:=fun b hb=>ar.hY _ _ (by omega);refine⟨fun i hi=> ?_,fun b o hb=> ?_,h.cI,h.len,h.de,fun b hb=>Nat.lt_succ_of_lt (h.lt b hb),fun k o b ab hb=> ?_⟩
 ·show(ar.set st.h st.al ej).get i=none;have hi:st.al+1<=i:=hi;rw[ar.hY _ _ (by omega)];exact h.wf i (by omega)
 ·show(ar.set st.h st.al ej).get b=some o;rw[cx b (h.a4 hb)];exact h.le b o hb
 ·show mR H ids o ((ar.set st.h st.al ej).get b)∧_;rw[cx b (h.lt b (zaA hb))];exact h.own k o b ab hb
def Fit.other{own:ac bp}(h:Fit H ids st own n)(hl:l<st.al)(hi:l∉ids)(eB:H l=none)(ej:bH):Fit H ids ⟨st.h.set l ej,st.al⟩ own n:=by
 refine⟨fun i dX=> ?_,fun b o hb=> ?_,h.cI,h.len,h.de,h.lt,fun k o b ab hb=> ?_⟩
 ·show(ar.set st.h l ej).get i=none;have dX:st.al<=i:=dX;rw[ar.hY _ _ (by omega)];exact h.wf i dX
 ·show(ar.set st.h l ej).get b=some o;rw[ar.hY _ _ (fun e=>by rw[e,eB]at hb;cases hb)];exact h.le b o hb
 ·show mR H ids o ((ar.set st.h l ej).get b)∧_;rw[ar.hY _ _ (by intro e;subst e;exact hi (zaA hb))];exact h.own k o b ab hb
def di.eq{i j:ac Nat}(h:di i j)(hl:i.length=j.length):i=j:=by
 apply zbJ;intro k;by_cases ab:k<i.length
 ·rw[bV ab,h k _ (bV ab)]
 ·rw[zbK (by omega),zbK (by omega)]
def Og:ac Tmp->ac ah->bX->bX
 |t::ts,a::as,e=>Og ts as ((t,a)::e)
 |_,_,e=>e
def c9.par{c7:ac Deferred}{bk:am be}{eE:Bool}{Jm:am Nat}:∀{ts:ac Tmp} {as:ac ah} {vs:ac be} {t:ar be} {e:bX},dj H as ids vs->c9 ⟨t,c7,bk,eE,Jm⟩ H ids e->c9 ⟨nR ts vs t,c7,bk,eE,Jm⟩ H ids (Og ts as e)
 |[],[],_,_,_,_,h=>h
 |[],_::_,_,_,_,_,h=>h
 |_::_,[],vs,t,e,d,h=>by cases d;exact h
 |p::ts,a::as,_,t,e,⟨v,ws,rfl,d1,d2⟩,h=>by
  have J:=h.put p d1;have aw:(⟨t,c7,bk,eE,Jm⟩:aR).put (some p) v=⟨t.set p v,c7,bk,eE,Jm⟩:=by
   rw[Oo]
  rw[aw]at J;have:=c9.par (ts:=ts) (as:=as) (vs:=ws) d2 J;have e2:nR (p::ts) (v::ws) t=nR ts ws (t.set p v):=by
   show ar.h9 (Nat.succ p) t p v (fun m=>nR ts ws m)=_;rw[ar.yR]
  rw[e2];exact this
def aqp(aq:fr.c7=[]){s:LoopState}{gh:am dT}{fn:ci}{t:ar be}{ps:ac Tmp}{a b:dq}{d:Nat}(aO:st.h.get l=some (.loop s gh fn t ps a b d)):qz l (.out .norm fr st)= .ret (.bool true) ⟨st.h.set l (.loop .ready none fn t ps a b d),st.al⟩ false:=by
 have e:qz l (.out .norm fr st)=List.rec (motive:=fun _=>dM) (mu (st.h.get l) (fun _ _ fn t ps a b d=>st.g3 l (.loop .ready none fn t ps a b d) fun st=>.ret (.bool true) st false) .no) (fun _ _ _=>.no) fr.c7:=rfl;rw[e,aq,aO];show(st.g3 l (.loop .ready none fn t ps a b d) fun st=>dM.ret (.bool true) st false)=_;rw[jT]
section
variable{X:Ctx}{bB:ar dv}{da:ci->gN}{cB n:Nat}{fn:ci}{cA:bJ}{i0:ac Nat}{aH:ay}{Q:dT->cW->Prop}{K:ac e4}{own:ac bp}{aP:Nat}{e:bX}
def adj(aE:fL)(K:ac e4)(xs:ac bK)(d:am Tmp)(e:bX)(aP:Nat)(x:dT)(s:cW):Prop:=x= .norm∧∃bP f,f.length=aP∧Sub aP f s ⟨bP,aP,[]⟩∧a1.ok aE ⟨K,.o xs,⟨bP,aP,fI d (.b true) e⟩⟩
def aqb{lv:Nat}{nz:ci}{pB:ar be}{ps:ac Tmp}{dn body:dq}{o0 e2:bX}{y:bi}{c0:ac bi}{as:ac ah}{d:am Tmp}{xs:ac bK}
 (hl:aH.h.get l=some (.loop .ready none nz pB ps dn body lv)) (q7:l<aH.al) (gS:l∉i0) (eB:cA l=none) (aV:c9 ⟨pB,[],none,false,some l⟩ cA i0 o0)
 (am2:∀H1 i1 s1,a1.ok ⟨dc bB (dz X da) (n+1),n+1,nz,H1,i1,s1,fun x s=>x= .norm∧s=⟨own,aP,e2⟩⟩ ⟨[],.c dn,⟨own,aP,Og ps as o0⟩⟩)
 (am3:∀H1 i1 s1,i1.length=own.length->dp cA H1->a1.ok ⟨dc bB (dz X da) (n+1),n+1,nz,H1,i1,s1,adj ⟨dc bB (dz X da) (n+2),cB,fn,cA,i0,aH,Q⟩ K xs d e aP⟩ ⟨[],.c body,⟨own,aP,e2⟩⟩)
 (aF:bw e y=some (.v (.func (.yield l) #[] #[])):=by rfl) (aY:mr e c0=some as:=by rfl) (hlen:as.length=ps.length:=by rfl):
 a1.ok ⟨dc bB (dz X da) (n+2),cB,fn,cA,i0,aH,Q⟩ ⟨K,.o (⟨d,.call y c0,none⟩::xs),⟨own,aP,e⟩⟩:=by
 intro H ids st fr bb az ae;have bb:eh cA i0 aH H ids st:=bb;have aq:=ae.eA aY;have fR:fr.aj y= .func (.yield l) #[] #[]:=ae.aj aF;have z9:l∉ids:=fun hm=>(bb.new l hm).elim gS (fun h=>by have h:aH.al<=l:=h;omega);have Mn:l<st.al:=fy q7 bb.al;have j9:st.h.get l=some (.loop .ready none nz pB ps dn body lv):=(bb.h5 l q7 gS).trans hl;have CV:H l=none:=(bb.hold l q7 gS).trans eB;have G8:ids.length=aP:=az.len;obtain⟨dR,en,cl,aM,H1,Xh,s1,oe,p3,tK,rfl,rfl⟩:=am2 H ids st H ids st ⟨nR ps (eA fr c0) pB,[],none,false,some l⟩ (eh.refl _ _ _) az ((aV.mono bb.hle bb.mn).par aq);have aw:ids=Xh:=oe.mn.eq (G8.trans p3.len.symm);subst aw;have oe:eh H ids st H1 ids cl:=oe;have G1:cl.h.get l=some (.loop .ready none nz pB ps dn body lv):=(oe.h5 l Mn z9).trans j9;have Wd:H1 l=none:=(oe.hold l Mn z9).trans CV;have jH:l<cl.al:=fy Mn oe.al;have xB:=p3.other jH z9 Wd (.loop .busy none nz pB ps dn body lv);obtain⟨avr,LF,gK,bf,rX,sq,yP,vy,CS,akN,rfl,bP,f,tM,Dr,ab⟩:=am3 H1 ids ⟨cl.h.set l (.loop .busy none nz pB ps dn body lv),cl.al⟩ (p3.len.trans p3.cI.symm) (bb.hle.trans oe.hle) H1 ids _ en (eh.refl _ _ _) xB tK;have ak3:gK.h.get l=some (.loop .busy none nz pB ps dn body lv):=(vy.h5 l jH z9).trans (ar.q0 _ _ _);have aj6:rX l=none:=(vy.hold l jH z9).trans Wd;have Mj:l<gK.al:=fy jH vy.al;have xY:Sub ids.length f yP ⟨bP,aP,[]⟩:=by rw[G8];exact Dr
 have Dl:=Oi (by omega) xY.Iv vy.mn;have CT:=xY.fit CS;have kN:=xY.bU CS vy;rw[Dl]at CT kN;have kN:eh H1 ids ⟨cl.h.set l (.loop .busy none nz pB ps dn body lv),cl.al⟩ rX ids gK:=kN;have aj3:=CT.other Mj z9 aj6 (.loop .ready none nz pB ps dn body lv);have L4:dc bB (dz X da) (n+2) (.func (.yield l) #[] #[]) (eA fr c0) none st= .ret (.bool true) ⟨gK.h.set l (.loop .ready none nz pB ps dn body lv),gK.al⟩ false:=by
  have a7:dc bB (dz X da) (n+2) (.func (.yield l) #[] #[]) (eA fr c0) none st=y6 (dc bB (dz X da) (n+1)) (n+1) l (eA fr c0) st:=rfl;rw[a7];unfold y6;rw[j9];show dV (dk (eA fr c0)) (dk ps) _ _=_;rw[jC (by rw[fo,fo,hW aq,hlen]),aM];show Bl (dc bB (dz X da) (n+1)) (n+1) l nz body en cl=_;unfold Bl;rw[G1];show(cl.g3 l (.loop .busy none nz pB ps dn body lv) fun st=>qz l (dD (dc bB (dz X da) (n+1)) (n+1) nz body en st))=_;rw[jT,bf];exact aqp akN.pl.c7 ak3
 refine uY (v:=.bool true) (st':=⟨gK.h.set l (.loop .ready none nz pB ps dn body lv),gK.al⟩) ?_ (ab rX ids _ _ ?_ aj3 ((ae.mono (oe.hle.trans kN.hle) (di.refl _)).fI d rfl))
 ·rw[AZ,fR];show xw (dc bB (dz X da) (n+2) (.func (.yield l) #[] #[]) (eA fr c0) none st) _ _=_;rw[L4];rfl
 ·have hle:dp H rX:=oe.hle.trans kN.hle;refine⟨bb.hle.trans hle,fun b hb hi=> ?_,fun b hb hi=> ?_,zaj bb.al (zaj oe.al kN.al),bb.mn,bb.new⟩
  ·have hb:b<aH.al:=hb;have zZ:b∉ids:=fun hm=>(bb.new b hm).elim hi (fun h=>by have h:aH.al<=b:=h;omega);have gR:b<st.al:=fy hb bb.al;exact(kN.hold b (fy gR oe.al) zZ).trans ((oe.hold b gR zZ).trans (bb.hold b hb hi))
  ·have hb:b<aH.al:=hb;have zZ:b∉ids:=fun hm=>(bb.new b hm).elim hi (fun h=>by have h:aH.al<=b:=h;omega);have gR:b<st.al:=fy hb bb.al;show(ar.set gK.h l _).get b=aH.h.get b;by_cases nA:b=l
   ·subst nA;rw[ar.q0];exact hl.symm
   ·rw[ar.hY _ _ nA];refine(kN.h5 b (fy gR oe.al) zZ).trans ?_;show(ar.set cl.h l _).get b=aH.h.get b;rw[ar.hY _ _ nA];exact(oe.h5 b gR zZ).trans (bb.h5 b hb hi)
def adb(Post:ac bp->Prop)(aP:Nat)(res:ac iI)(x:dT)(s:cW):Prop:=(x= .norm∨x= .ret)∧(∃r,Fin.wI s res=some r)∧∃bP f,f.length=aP∧Sub aP f s ⟨bP,aP,[]⟩∧Post bP
def atD(qc:fr.b7=none)(az:Fit H ids st own aP)(ae:c9 fr H ids e){f:bi}{ps:ac Tmp}{dn body:dq}{g:ci}{xf:dv}{caps:ac ah}(Post:ac bp->Prop)(aa:bB.get g=some xf)(fG:bw e f=some (.fn (.func g) [] caps))(ec:da g=gN.no)(Mw:caps.length+1<=xf.aQ)
 (am4:∀(s1:ay) (l:Nat),ids.length=own.length->s1.h.get l=some (.loop .ready none fn fr.t ps dn body st.al)->l<s1.al->l∉ids->H l=none->c9 ⟨fr.t,[],none,false,some l⟩ H ids e->
  a1.ok ⟨dc bB (dz X da) (n+2),n+2,g,H,ids,s1,adb Post aP xf.res⟩ ⟨[],.c xf.body,⟨own,aP,oa 0 (.v (.func (.yield l) #[] #[])::caps)⟩⟩):
 ∃aK st' bF bP,dD (dc bB (dz X da) (n+3)) cB fn (.Jn f ps dn body) fr st= .out .norm aK st'∧aK.t=fr.t∧aK.c7={target:=.collected st.al,args:= #[]}::fr.c7∧aK.cM=fr.cM∧
  eh H ids st bF ids st'∧Fit bF ids st' bP aP∧Post bP∧st'.h.get st.al=some (.iJ (some []))∧st.al<st'.al∧bF st.al=none:=by
 obtain⟨vs,ws,aI,d1,d2⟩:=ae.aj fG;have d1:vs=[]:=d1;subst d1;have a4:∀b∈ids,b<st.al:=az.lt;have LU:∀b,st.al<=b->H b=none:=fun b hb=>by
  cases h:H b with
  |none=>rfl
  |some o=>have:=az.a4 h;omega
 have aj4:=az.extra (.iJ (some []));have Wc:=aj4.extra (.loop .ready none fn fr.t ps dn body st.al);have ald:=am4 ⟨(ar.set st.h st.al (.iJ (some []))).set (st.al+1) (.loop .ready none fn fr.t ps dn body st.al),st.al+1+1⟩ (st.al+1) (az.len.trans az.cI.symm) (show(ar.set (ar.set st.h st.al (.iJ (some []))) (st.al+1) (.loop .ready none fn fr.t ps dn body st.al)).get (st.al+1)=_ from ar.q0 _ _ _) (zce _) (fun hm=>by have:=a4 _ hm;omega) (LU _ (zbo _)) ⟨⟨rfl,rfl,rfl⟩,ae.get⟩;have Wq:dj H (.v (.func (.yield (st.al+1)) #[] #[])::caps) ids (.func (.yield (st.al+1)) #[] #[]::ws):=⟨_,ws,rfl,rfl,d2⟩;obtain⟨v,gK,J,rX,sq,yP,bP,zS,vy,CS,tM,Dr,alI⟩:=FI (n:=n+2) (f:=g) (Post:=fun v st'=>∃(bF:bJ) (dd:ac Nat) (s:cW) (bP:ac bp) (zS:ac Nat),eh H ids _ bF dd st'∧Fit bF dd st' s.own s.n∧zS.length=aP∧Sub aP zS s ⟨bP,aP,[]⟩∧Post bP)
  (by rw[hW Wq];exact Mw) ((ald H ids _ (gm _) (eh.refl _ _ _) Wc (c9.zero Wq)).mono (by
   rintro x en cl ⟨bF,dd,s,et,ef,eU,aa,⟨r,hr⟩,bP,zS,J,U,af⟩;obtain⟨v,ax,a0⟩:=Jp (call:=dc bB (dz X da) (n+2)) ef eU hr;exact⟨aa,v,a0,bF,dd,s,bP,zS,et,ef,J,U,af⟩))
 have G8:ids.length=aP:=az.len;have xY:Sub ids.length zS yP ⟨bP,aP,[]⟩:=by rw[G8];exact Dr
 have Dl:=Oi (by omega) xY.Iv vy.mn;have CT:=xY.fit CS;have kN:=xY.bU CS vy;rw[Dl]at CT kN;have kN:eh H ids ⟨(ar.set st.h st.al (.iJ (some []))).set (st.al+1) (.loop .ready none fn fr.t ps dn body st.al),st.al+1+1⟩ rX ids gK:=kN;have auN:st.al+1+1<=gK.al:=kN.al;have vI:∀b,st.al<=b->b∉ids:=fun b hb hm=>by have:=a4 _ hm;omega
 have C4:gK.h.get (st.al+1)=some (.loop .ready none fn fr.t ps dn body st.al):=(kN.h5 _ (zce _) (vI _ (zbo _))).trans (show(ar.set (ar.set st.h st.al (.iJ (some []))) (st.al+1) (.loop .ready none fn fr.t ps dn body st.al)).get (st.al+1)=_ from ar.q0 _ _ _);have vB:gK.h.get st.al=some (.iJ (some [])):=by
  refine(kN.h5 st.al (by show st.al<st.al+1+1;omega) (vI _ (b5 _))).trans ?_;show(ar.set _ (st.al+1) _).get st.al=_;rw[ar.hY _ _ (by omega),ar.q0]
 have CV:rX (st.al+1)=none:=(kN.hold _ (zce _) (vI _ (zbo _))).trans (LU _ (zbo _));have aj7:rX st.al=none:=(kN.hold _ (by show st.al<st.al+1+1;omega) (vI _ (b5 _))).trans (LU _ (b5 _));refine⟨⟨fr.t,{target:=.collected st.al,args:= #[]}::fr.c7,fr.bk,fr.cM,fr.b7⟩,⟨gK.h.set (st.al+1) (.loop .exhausted none fn fr.t ps dn body st.al),gK.al⟩,rX,bP,?_,rfl,rfl,rfl,?_,CT.other (by omega) (vI _ (zbo _)) CV _,alI,?_,by show st.al<gK.al;omega,aj7⟩
 ·show CE (dc bB (dz X da) (n+3)) fn f ps dn body fr st=_;unfold CE;rw[qc,Sym.hR,gw,gw,aI,zr];have a7:gC (#[]:ap be).toList (gC [Value.func (.yield (st.al+1)) #[] #[]] (⟨ws⟩:ap be).toList)=Value.func (.yield (st.al+1)) #[] #[]::ws:=by simp
  show Jo _ _ (bm none _ (bm (dz X da g (gC (#[]:ap be).toList (gC [Value.func (.yield (st.al+1)) #[] #[]] (⟨ws⟩:ap be).toList)) _) _ (bm (bB.get g) _ _)))=_;rw[a7,Zl ec,Sym.hR,Sym.hR,aa,Sym.eJ,J];show mu (gK.h.get (st.al+1)) _ _=_;rw[C4];show(gK.g3 (st.al+1) (.loop .exhausted none fn fr.t ps dn body st.al) fun st'=>bm none (fun e=>cZ.out e _ st') (cZ.out .norm _ st'))=_;rw[jT];rfl
 ·refine⟨kN.hle,fun b hb hi=>kN.hold b (by show b<st.al+1+1;omega) hi,fun b hb hi=> ?_,by show st.al<=gK.al;omega,di.refl _,fun b hb=>.inl hb⟩;show(ar.set gK.h (st.al+1) _).get b=_;rw[ar.hY _ _ (by omega),kN.h5 b (by show b<st.al+1+1;omega) hi];show(ar.set (ar.set st.h st.al _) (st.al+1) _).get b=_;rw[ar.hY _ _ (by omega),ar.hY _ _ (by omega)]
 ·show(ar.set gK.h (st.al+1) _).get st.al=_;rw[ar.hY _ _ (by omega)];exact vB
end
variable{cB:Nat}{a:dq}{en:aR}{cl:ay}{b:dq}{r:Nat}{f:ci}{xf:dv}{el:ce}
def J1{fn:ci}{Q:dT->aR->ay->Prop}(h:dD call cB fn a fr st= .out .norm en cl)(k:W (dD call cB fn b en cl) Q):W (dD call cB fn (.seq a b) fr st) Q:=by
 rw[Ls,h];exact k
def aqI{fn:ci}{ly:aR}{dB:ay}(h:dD call cB fn a fr st= .out .norm en cl)(k:dD call cB fn b en cl= .out .norm ly dB):dD call cB fn (.seq a b) fr st= .out .norm ly dB:=by
 rw[Ls,h];exact k
def ad5{fn:ci}{i:Nat}(h:dD call cB fn a fr st= .out .norm en cl):dD call cB fn (.block i a) fr st= .out .norm en cl:=by
 rw[Sd,h];rfl
def eh.other{cA:bJ}{i0:ac Nat}{aH:ay}(h:eh cA i0 aH H ids st)(hr:aH.al<=r)(ej:bH):eh cA i0 aH H ids ⟨st.h.set r ej,st.al⟩:=⟨h.hle,h.hold,fun b hb hi=>by
 show(ar.set st.h r ej).get b=_;rw[ar.hY _ _ (by omega)];exact h.h5 b hb hi,h.al,h.mn,h.new⟩
def Q8{as:ac be}{Post:be->ay->Prop}(hl:as.length<=xf.aQ)
 (h:W (dD call n f xf.body (gm as) st) (fun e fr cl=>(e= .norm∨e= .ret)∧∃v st',oc call xf.res none fr cl= .ret v st' false∧Post v st')):
 ∃v st',pP call n f xf as none st= .ret v st' false∧Post v st':=by
 obtain⟨e,fr,cl,J,he,v,st',U,af⟩:=h;refine⟨v,st',?_,af⟩;unfold pP;rw[qi,zab (by rw[fo];exact hl)];show cZ.rec (motive:=fun _=>dM) _ _ (dD call n f xf.body (gm as) st)=_;rw[J];rcases he with rfl|rfl
 ·exact U
 ·exact U
def afg{X:Ctx}{bB:ar dv}(dE:Good X)(iQ:n4 X bB)(K:ci->gN)(aa:bB.get f=some xf){S:Spec}(hl:∀l as st,S.pre l as st->as.length<=xf.aQ)
 (h:∀l as st,S.pre l as st->W (dD (dc bB (dz X K) (bT+1)) (bT+1) f xf.body (gm as) st)
  (fun e fr cl=>(e= .norm∨e= .ret)∧∃v st',oc (dc bB (dz X K) (bT+1)) xf.res none fr cl= .ret v st' false∧S.post l as st v st')):a6 X f S:=by
 intro as st ⟨l,hp⟩;obtain⟨v,st',J,U⟩:=Q8 (Post:=S.post l as st) (hl l as st hp) (h l as st hp);refine⟨v,st',fun l' k6=> ?_,aaW dE iQ aa J⟩;obtain⟨v2,dB,aM,aN⟩:=Q8 (Post:=S.post l' as st) (hl l' as st k6) (h l' as st k6);rw[J]at aM;cases aM;exact aN
def agM{t:Nat}(aq:fr.c7=[{target:=.collected r,args:= #[]}])(aV:fr.cM=false)(hr:st.h.get r=some (.iJ (some []))):oc call [.tmp t] none fr st= .ret (fr.tmp t) ⟨st.h.set r (.iJ none),st.al⟩ false:=by
 have e:jV call fr.c7 none st=some (none,⟨st.h.set r (.iJ none),st.al⟩):=by
  rw[aq];simp only[jV,hr];rw[jT]
 unfold oc;rw[e,aV];rfl
def apX{aE:fL}{K:ac e4}{own bP:ac bp}{aP:Nat}{e:bX}{p:ac bK}(k:Nat){cs:ac ah}(cs':ac ah)(hl:kD cs cs')(cp:a1.ok aE ⟨K,.o p,⟨bP,aP,e⟩⟩)(ab:own[k]? =some (.c el cs):=by rfl)(ao:kB own k (.c el cs') some=some bP:=by rfl):a1.ok aE ⟨K,.o p,⟨own,aP,e⟩⟩:=fun H ids st fr bb az ae=>by
 have:=l2 ao;cases this;refine cp H ids st fr bb ⟨az.wf,az.le,by simp[az.cI],az.len,az.de,az.lt,?_⟩ ae;intro j q c hj hc;by_cases mi:k=j
 ·subst mi;rw[zbu,zab rfl]at hj;split at hj<;>cases hj;obtain⟨⟨vs,af,ax⟩,ck⟩:=az.own k _ c ab hc;exact⟨⟨vs,af,hl.den ax⟩,fun _=>ck rfl⟩
 ·rw[zbu,zaa mi]at hj;exact az.own j q c hj hc
def ar1{s:cW}{x:bi}{k z p q:Nat}{α:Type}{R:α->ac ah}{l:ac α}{aL hi:am bi}(aa:bw s.env x=some (.p k 0))(ab:s.own[k]? =some (.a el false z α R l))(fH:e8 s aL 0 p)(gu:e8 s hi n q)(hp:p<=q)(hq:q<=n):fA call (.Bt n z x aL hi none) s (.bj k z (if n=p then 0 else p) (q-p) (n-p)) s.own s.n:=jO fun H ids st fr az ae=>by
 obtain⟨b,J,U⟩:=ae.aj aa;obtain⟨vs,bf,cb,cQ⟩:=pK az ab J;refine⟨_,⟨b,J,rfl⟩,?_⟩;show A1 n z x aL hi none call fr st=_;unfold A1 ay.gE;rw[U,qC,Sym.eJ,Sym.hR,bf,kI,cond_false,Cc,e8.aj gu ae hq,e8.aj fH ae hp];congr 2;by_cases k7:n=p
 ·subst k7;rw[jC rfl,zab rfl,zas]
 ·rw[r5 k7,pI,zav,zaa k7];rfl
section
variable{aE:fL}{K:ac e4}{own:ac bp}{aP:Nat}{e:bX}{d:Tmp}{xs:ac bK}{x y:bi}
variable{z:Nat}
def ap5{α:Type}{R:α->ac ah}{l:ac α}{neg:Bool}(a5:a1.ok aE ⟨K,.o xs,⟨own,aP,(d,.b neg)::e⟩⟩)(bD:l=[]->a1.ok aE ⟨K,.o xs,⟨own,aP,(d,.b (!neg))::e⟩⟩)(aa:bw e x=some (.c5 z α R l):=by rfl)(aF:bw e y=some .nl:=by rfl):
 a1.ok aE ⟨K,.o (⟨some d,.eqv neg .kA x y,none⟩::xs),⟨own,aP,e⟩⟩:=fun H ids st fr bb az ae=>by
 have U:fr.aj y= .slice none 0 0:=ae.aj aF;have af:den H (.c5 z α R l) ids (fr.aj x):=ae.aj aa;rcases af with⟨hn,J⟩|⟨b,o,c,vs,el,bd,a3,J,_⟩
 ·have aw:bR aE.call (.eqv neg .kA x y) fr st= .ok (.bool (!neg)) fr st:=by
   have e:bR aE.call (.eqv neg .kA x y) fr st=bm (o2 (fr.aj x) (fr.aj y)) (fun b=>.ok (.bool (cond neg (!b) b)) fr st) .no:=rfl;rw[e,J,U];cases neg<;>rfl
  exact uY aw (bD hn H ids st _ bb az (ae.fI (some d) rfl))
 ·have aw:bR aE.call (.eqv neg .kA x y) fr st= .ok (.bool neg) fr st:=by
   have e:bR aE.call (.eqv neg .kA x y) fr st=bm (o2 (fr.aj x) (fr.aj y)) (fun b=>.ok (.bool (cond neg (!b) b)) fr st) .no:=rfl;rw[e,J,U];cases neg<;>rfl
  exact uY aw (a5 H ids st _ bb az (ae.fI (some d) rfl))
def EB{g j:Nat}{cp:d7}{vs:ac be}{bd:Nat×Nat}{a3:Bool}{cs:ac ah}(aO:aE.cA g=some (.cells vs el bd a3))(aq:∀H,dj H cs [] vs)(k:a1.ok aE ⟨K,.o xs,⟨own,aP,(d,.ip (cs.drop (j*z)))::e⟩⟩)(aa:bw e x=some (.v (.pointer (some ⟨g,0,none⟩))):=by rfl)(hi:bw e y=some (.i cp (j:Int)):=by rfl)(hj:j<n:=by omega):a1.ok aE ⟨K,.o (⟨some d,.so n z x y,none⟩::xs),⟨own,aP,e⟩⟩:=
 EC (d:=some d) (Xc (call:=aE.call) (s:=⟨own,aP,e⟩) (z:=z) aa aO aq hi hj) k
end
def Rg{X:Ctx}{bB:ar dv}{da:ci->gN}{g:ci}{S:bc}(hc:a6 X g S.spec)(ec:da g=S.spec.K){s:cW}{f:bi}{c0:ac bi}{as bG cs:ac ah}(l:S.L)(mY:bw s.env f=some (.fn (.func g) bG cs))(aY:mr s.env c0=some as)(q8:iU (bG++(as++cs))=true)(he:kD (bG++(as++cs)) (S.args l))(hp:S.pre l){cA:bJ}(hh:S.hp cA):
 zf cA (dc bB (dz X da) (n+1)) (.call f c0) s (S.res l) s.own s.n:=fun H ids st fr eB az ae=>by
 have tK:den H (.fn (.func g) bG cs) ids (fr.aj f):=ae.aj mY;obtain⟨vs,ws,aI,d1,d2⟩:=tK;have aq:=he.den (pV _ q8 (zF d1 (zF (ae.eA aY) d2)) []);obtain⟨v,st',J,U⟩:=hc _ st ⟨(l,H),hp,S.hm eB hh,az.less,aq⟩;obtain⟨v1,cl,aM,aN⟩:=Oc (X:=X) (K:=da) (f:=g) ⟨v,st',by rw[ec];exact J,U⟩;rw[ec]at aN;obtain⟨bF,ef,et,g6⟩:=aN (l,H) ⟨hp,S.hm eB hh,az.less,aq⟩;have bf:dc bB (dz X da) (n+1) (fr.aj f) (eA fr c0) none st= .ret v1 cl false:=by
  rw[aI,zr];have e:gC (⟨vs⟩:ap be).toList (gC (eA fr c0) (⟨ws⟩:ap be).toList)=vs++(eA fr c0++ws):=by simp
  rw[e,aM];rfl
 have hle:dp H bF:=et.hle;refine⟨v1,cl,ids,bF,?_,?_,vl (dp.refl _) _ (di.nil _) g6,hle,di.refl _,?_,et.al,fun b hb _=>et.h5 b hb (by simp)⟩
 ·rw[AZ];rw[bf];rfl
 ·refine⟨ef.wf,ef.le,az.cI,az.len,az.de,fun b hb=>fy (az.lt b hb) et.al,fun k o b ab hb=> ?_⟩;obtain⟨af,ax⟩:=az.own k o b ab hb;have a4:=az.lt b (zaA hb);rw[et.h5 b a4 (by simp)];exact⟨xk hle (di.refl _) af,fun hl=>by rw[et.hold b a4 (by simp)];exact ax hl⟩
 ·intro cA i0 aH B;refine⟨B.hle.trans hle,fun b hb hn=> ?_,fun b hb hn=> ?_,zaj B.al et.al,B.mn,B.new⟩
  ·rw[et.hold b (fy hb B.al) (by simp)];exact B.hold b hb hn
  ·rw[et.h5 b (fy hb B.al) (by simp)];exact B.h5 b hb hn
section
variable{X:Ctx}{bB:ar dv}{da:ci->gN}{cB n:Nat}{fn:ci}{cA:bJ}{i0:ac Nat}{aH:ay}{Q:dT->cW->Prop}{K:ac e4}{own:ac bp}{aP:Nat}{e:bX}
def Ez{g:ci}{S:bc}(hc:a6 X g S.spec){f:bi}{c0:ac bi}{as bG cs:ac ah}{d:Tmp}{xs:ac bK}(l:S.L)(hp:S.pre l)(k:a1.ok ⟨dc bB (dz X da) (n+1),cB,fn,cA,i0,aH,Q⟩ ⟨K,.o xs,⟨own,aP,(d,S.res l)::e⟩⟩)
 (ae:bw e f=some (.fn (.func g) bG cs):=by rfl) (aY:mr e c0=some as:=by rfl) (he:kD (bG++(as++cs)) (S.args l):=by exact kD.refl _) (q8:iU (bG++(as++cs))=true:=by rfl) (ec:da g=S.spec.K:=by rfl) (hh:S.hp cA:=by exact trivial):
 a1.ok ⟨dc bB (dz X da) (n+1),cB,fn,cA,i0,aH,Q⟩ ⟨K,.o (⟨some d,.call f c0,none⟩::xs),⟨own,aP,e⟩⟩:=EC (d:=some d) (s:=⟨own,aP,e⟩) (Rg hc ec l ae aY q8 he hp hh) k
end
section
variable{aE:fL}{K:ac e4}{own bP:ac bp}{aP:Nat}{e:bX}
variable{k:Nat}{cs:ac ah}
def ag4{t:Nat}(aV:dZ e t=some (.p k 0))(ab:own[k]? =some (.c el cs))(hp:iU cs=true)
 {H:bJ} {ids:ac Nat} {st:ay} {fr:aR} (bb:eh aE.cA aE.i0 aE.aH H ids st) (az:Fit H ids st own aP) (ae:c9 fr H ids e):
 ∃bF,eh aE.cA aE.i0 aE.aH bF ids st∧Fit bF ids st (own.set k .x) aP∧c9 fr bF ids ((t,.ip cs)::e):=by
 obtain⟨b,aM,aN⟩:=ae.get t _ aV;obtain⟨⟨vs,bf,d⟩,_⟩:=az.own k _ b ab aM;have hle:=CL az ab rfl aM;refine⟨kp H st b,bb.kp az ab rfl aM,az.kp ab rfl aM,(ae.mono hle (di.refl _)).pl,fun j q hj=> ?_⟩;rw[rn]at hj;cases hb:Nat.beq t j with
 |false=>rw[hb]at hj;exact(ae.mono hle (di.refl _)).get j q hj
 |true=>
  rw[hb]at hj;cases hj;rw[<-eL hb];refine⟨b,0,vs,el,(0,0),_,aN,by unfold kp;rw[zab rfl];exact bf,?_⟩;have hl:=hW d;rw[zap,zaF (by omega)];exact l9 hle _ (di.refl _) (pV _ hp d [])
def aay(t:Nat){p:ac bK}(cp:a1.ok aE ⟨K,.o p,⟨bP,aP,(t,.ip cs)::e⟩⟩)(aV:dZ e t=some (.p k 0):=by rfl)(ab:own[k]? =some (.c el cs):=by rfl)(hp:iU cs=true:=by rfl)(ao:kB own k .x some=some bP:=by rfl):a1.ok aE ⟨K,.o p,⟨own,aP,e⟩⟩:=by
 have J:=l2 ao;cases J;exact fun H ids st fr bb az ae=>let⟨bF,J,U,af⟩:=ag4 aV ab hp bb az ae;cp bF ids st fr J U af
end
end Go.ak
namespace Go.ak
open Sym
variable{X:Ctx}
end Go.ak
namespace Go.ak
open Sym
section
variable{aE:fL}{K:ac e4}{own bP bZ ij:ac bp}{aP bn cj back:Nat}{e a7:bX}{d:Tmp}{ts:ac Tmp}{xs:ac bK}{av:ac (bK×cE)}{x y:bi}
variable{c:bA}
variable{P:Prop}{a:Int}{aq:Decidable P}
def v1(t:Nat)(h:P)(k:a1.ok aE ⟨K,c,⟨own,aP,(t,.b true)::e⟩⟩)(hl:dZ e t=some (.b (decide P)):=by rfl)(hc:c.vU=false:=by rfl):a1.ok aE ⟨K,c,⟨own,aP,e⟩⟩:=ag t (.b true) hl (by rw[zad h]) k hc
def v0(t:Nat)(h:¬P)(k:a1.ok aE ⟨K,c,⟨own,aP,(t,.b false)::e⟩⟩)(hl:dZ e t=some (.b (decide P)):=by rfl)(hc:c.vU=false:=by rfl):a1.ok aE ⟨K,c,⟨own,aP,e⟩⟩:=ag t (.b false) hl (by rw[zac h]) k hc
def nZ(t:Nat){a b:Bool}(h:a=b)(k:a1.ok aE ⟨K,c,⟨own,aP,(t,.b b)::e⟩⟩)(hl:dZ e t=some (.b a):=by rfl)(hc:c.vU=false:=by rfl):a1.ok aE ⟨K,c,⟨own,aP,e⟩⟩:=ag t (.b b) hl (by rw[h]) k hc
def nh(t:Nat)(b:Int)(k:a1.ok aE ⟨K,c,⟨own,aP,(t,.i .i64 b)::e⟩⟩)(hl:dZ e t=some (.i .i64 (IntKind.i64.wrap a)):=by rfl)(h:a=b:=by omega)(J: -9223372036854775808<=a:=by omega)(U:a<9223372036854775808:=by omega)(hc:c.vU=false:=by rfl):a1.ok aE ⟨K,c,⟨own,aP,e⟩⟩:=ag t (.i .i64 b) hl (bo h J U) k hc
def gX(t:Nat)(h:P)(k:a1.ok aE ⟨K,.d av bZ ((t,.b true)::a7) bn cj,⟨own,aP,(t,.b true)::e⟩⟩)(hl:dZ e t=some (.b (decide P)):=by rfl)(h0:dZ a7 t=some (.b (decide P)):=by rfl):a1.ok aE ⟨K,.d av bZ a7 bn cj,⟨own,aP,e⟩⟩:=cm t (.b true) hl h0 (by rw[zad h]) k
def iX(t:Nat)(h:¬P)(k:a1.ok aE ⟨K,.d av bZ ((t,.b false)::a7) bn cj,⟨own,aP,(t,.b false)::e⟩⟩)(hl:dZ e t=some (.b (decide P)):=by rfl)(h0:dZ a7 t=some (.b (decide P)):=by rfl):a1.ok aE ⟨K,.d av bZ a7 bn cj,⟨own,aP,e⟩⟩:=cm t (.b false) hl h0 (by rw[zac h]) k
def ww(t:Nat)(b:Int)(k:a1.ok aE ⟨K,.d av bZ ((t,.i .i64 b)::a7) bn cj,⟨own,aP,(t,.i .i64 b)::e⟩⟩)(hl:dZ e t=some (.i .i64 (IntKind.i64.wrap a)):=by rfl)(h:a=b:=by omega)(J: -9223372036854775808<=a:=by omega)(U:a<9223372036854775808:=by omega)(h0:dZ a7 t=some (.i .i64 (IntKind.i64.wrap a)):=by rfl):a1.ok aE ⟨K,.d av bZ a7 bn cj,⟨own,aP,e⟩⟩:=cm t (.i .i64 b) hl h0 (bo h J U) k
end
end Go.ak
namespace Go.ak
open Sym
variable{X:Ctx}
def gI{p:Prop}(h:p):¬¬p:=fun k=>k h
end Go.ak
namespace Go.ak
open Sym
set_option maxRecDepth 10000
section
variable{aE:fL}{K:ac e4}{own:ac bp}{aP:Nat}{e:bX}{d:Tmp}{xs:ac bK}{x y:bi}
variable{α:Type}{a9 c1:Nat}{el:ce}{R:α->ac ah}{l:ac α}
def ap4{z:Nat}{neg:Bool}(a5:a1.ok aE ⟨K,.o xs,⟨own,aP,(d,.b neg)::e⟩⟩)(bD:l=[]->a1.ok aE ⟨K,.o xs,⟨own,aP,(d,.b (!neg))::e⟩⟩)(aa:bw e x=some (.cw z α R l):=by rfl)(aF:bw e y=some .nl:=by rfl):
 a1.ok aE ⟨K,.o (⟨some d,.eqv neg .kA x y,none⟩::xs),⟨own,aP,e⟩⟩:=fun H ids st fr bb az ae=>by
 have U:fr.aj y= .slice none 0 0:=ae.aj aF;have af:den H (.cw z α R l) ids (fr.aj x):=ae.aj aa;have a7:bR aE.call (.eqv neg .kA x y) fr st=bm (o2 (fr.aj x) (fr.aj y)) (fun b=>.ok (.bool (cond neg (!b) b)) fr st) .no:=rfl;rcases af with⟨hn,J⟩|⟨hn,J⟩|⟨b,o,c,vs,el,bd,a3,J,_⟩
 ·have aw:bR aE.call (.eqv neg .kA x y) fr st= .ok (.bool neg) fr st:=by
   rw[a7,J,U];cases neg<;>rfl
  exact uY aw (a5 H ids st _ bb az (ae.fI (some d) rfl))
 ·have aw:bR aE.call (.eqv neg .kA x y) fr st= .ok (.bool (!neg)) fr st:=by
   rw[a7,J,U];cases neg<;>rfl
  exact uY aw (bD hn H ids st _ bb az (ae.fI (some d) rfl))
 ·have aw:bR aE.call (.eqv neg .kA x y) fr st= .ok (.bool neg) fr st:=by
   rw[a7,J,U];cases neg<;>rfl
  exact uY aw (a5 H ids st _ bb az (ae.fI (some d) rfl))
def adz{call:bO}{s:cW}(aF:bw s.env y=some (.cw a9 α R [])):u7 call el c1 s y R a9 ([]:ac α):=fun H ids st fr az ae x p n c aa=>by
 have e:bR call (.app el a9 c1 x y) fr st=hD (fr.aj x) (fun base len cap=>hD (fr.aj y) (fun b n _=>bm b (fun b=>st.load b (Nat.mul n a9) (fun new=>cond (gZ new) (iK fr st el a9 c1 base len cap n new) .no) .no) (dV n 0 (iK fr st el a9 c1 base len cap 0 []) .no)) (s3 (fr.aj y) (iK fr st el a9 c1 base len cap 0 []) (hE (fr.aj y) (fun s=>dV a9 1 (iK fr st el a9 c1 base len cap (dk s.data.toList) (kZ s.data.toList)) .no) .no))) .no:=rfl;have af:den H (.cw a9 α R []) ids (fr.aj y):=ae.aj aF;refine⟨[],zw _ _ _ _,rfl,?_⟩;rw[e,aa,nY];rcases af with⟨_,J⟩|⟨_,J⟩|⟨b,o,b6,vs,R3,bd,a3,J,_,U,_⟩
 ·have aw:∀(k:am Addr->Nat->Nat->aX) (z:aX),hD (.chan none) k z=z:=fun _ _=>rfl;have e2:∀a z:aX,s3 (.chan none) a z=a:=fun _ _=>rfl;simp only[J,aw,e2];rfl
 ·rw[J,nY,Sym.hR,jC rfl];rfl
 ·rw[J,nY,Sym.eJ];show st.load ⟨b,o,none⟩ (0*a9) _ _=_;unfold ay.load ay.gE;rw[Sym.hR,az.le _ _ U,kI,zas,r1 (zaf _),List.take_zero];have bW:∀a z:aX,cond (gZ []) a z=a:=fun _ _=>rfl;simp only[bW]
def apT{bL n c:Nat}{a3:Bool}(k:a1.ok aE ⟨K,.o xs,⟨own,aP,(d,.bj bL a9 0 n c)::e⟩⟩)(aF:bw e y=some (.cw a9 α R []):=by rfl)(aa:bw e x=some (.bj bL a9 0 n c):=by rfl)(ab:own[bL]? =some (.a el a3 a9 α R l):=by rfl)
 (kv:n<=c:=by omega) (hc:c<=l.length:=by first|omega|(simp;done)|(simp;omega)) (hb:(5*n+1792)*(c1+1)<=1125899906842624:=by omega):a1.ok aE ⟨K,.o (⟨some d,.app el a9 c1 x y,none⟩::xs),⟨own,aP,e⟩⟩:=e7 (Qu (s:=⟨own,aP,e⟩) aa ab (adz aF) kv hc hb) k
end
def agx{call:bO}{fr:aR}{H:bJ}{ids:ac Nat}{e:bX}{x y:bi}{neg:Bool}{k:d7}{a b c d:Int}(ae:c9 fr H ids e)(aa:bw e x=some (.agg [.i k a,.i k b]))(aF:bw e y=some (.agg [.i k c,.i k d]))(st:ay):
 bR call (.ext (.qW neg 2 x y)) fr st= .ok (.bool (j2 neg (a==c&&b==d))) fr st:=by
 obtain⟨vs,J,d1⟩:=ae.aj aa;obtain⟨ws,U,d2⟩:=ae.aj aF;obtain⟨v1,us,rfl,aw,v2,ata,rfl,e2,bW⟩:=d1;obtain⟨gX,xs,rfl,f1,wT,at6,rfl,f2,f3⟩:=d2;have aw:v1= .int k a:=aw;have e2:v2= .int k b:=e2;have bW:ata=[]:=bW;have f1:gX= .int k c:=f1;have f2:wT= .int k d:=f2;have f3:at6=[]:=f3;subst aw e2 bW f1 f2 f3;have g0:kL 2 [Value.int k a,Value.int k b] [Value.int k c,Value.int k d]=some (a==c&&b==d):=by
  unfold kL kL kL;simp only[Lo,Gd,if_true];generalize(a==c)=u;generalize(b==d)=v;cases u<;>cases v<;>rfl
 show rR (fr.aj x) (fun xs=>rR (fr.aj y) (fun av=>dV (dk xs.toList) 2 (dV (dk av.toList) 2 (bm (kL 2 xs.toList av.toList) (fun b=>aX.ok (.bool (cond neg (!b) b)) fr st) .no) .no) .no) .no) .no=_;rw[J,U];show bm (kL 2 [Value.int k a,Value.int k b] [Value.int k c,Value.int k d]) (fun b=>aX.ok (.bool (cond neg (!b) b)) fr st) .no=_;rw[g0];rfl
section
variable{aE:fL}{K:ac e4}{own bP bZ ij:ac bp}{aP bn cj back:Nat}{e a7:bX}{d:Tmp}{ts:ac Tmp}{xs:ac bK}{av:ac (bK×cE)}{x y:bi}
variable{a5:d7}{n:Nat}{m:Int}
def EA(r:Bool){neg:Bool}{k:d7}{a b c j4:Int}(cp:a1.ok aE ⟨K,.o xs,⟨own,aP,(d,.b r)::e⟩⟩)(aa:bw e x=some (.agg [.i k a,.i k b]):=by rfl)(aF:bw e y=some (.agg [.i k c,.i k j4]):=by rfl)(hr:j2 neg (a==c&&b==j4)=r:=by rfl):
 a1.ok aE ⟨K,.o (⟨some d,.ext (.qW neg 2 x y),none⟩::xs),⟨own,aP,e⟩⟩:=by
 subst hr;exact e7 (a:=.b (j2 neg (a==c&&b==j4))) (jO (s:=⟨own,aP,e⟩) fun H ids st fr az ae=>⟨.bool (j2 neg (a==c&&b==j4)),rfl,agx ae aa aF st⟩) cp
def Le{bL:d7}{m:Nat}(k:a1.ok aE ⟨K,.d av bZ ((d,.i bL ((m/2^n:Nat):Int))::a7) bn cj,⟨own,aP,(d,.i bL ((m/2^n:Nat):Int))::e⟩⟩)(aa:bw (eV ts a7) x=some (.i bL (m:Int)):=by rfl)(aF:bw (eV ts a7) y=some (.i a5 (n:Int)):=by rfl)(hn:n<=bL.bits:=by first|decide|(show _<=64;omega))(hb:back<bn:=by decide):
 a1.ok aE ⟨K,.d ((⟨some d,.bin .shr x y,none⟩,.read back ts)::av) bZ a7 bn cj,⟨own,aP,e⟩⟩:=
 oX (d:=some d) (a:=.i bL ((m/2^n:Nat):Int)) hb (fun H ids st fr ae _ _=>by
  obtain⟨v,J,U⟩:=KO (call:=aE.call) (k:=bL) (a:=(m:Int)) (b:=(n:Int)) (r:=.i bL ((m/2^n:Nat):Int)) (by show(match Nat.ble n bL.bits with|true=>_|false=>_)=_;rw[zcR hn]) (ae.aj aa) (ae.aj aF);exact⟨v,J H ids,fun dB _ _=>U dB⟩) k
def aaA(v:Int){bL:d7}(k:a1.ok aE ⟨K,.o xs,⟨own,aP,(d,.i bL v)::e⟩⟩)(aI:bL.wrap (m*2^n)=v)(aa:bw e x=some (.i bL m):=by rfl)(aF:bw e y=some (.i a5 (n:Int)):=by rfl)(hn:n<=bL.bits:=by first|decide|(show _<=64;omega)):
 a1.ok aE ⟨K,.o (⟨some d,.bin .shl x y,none⟩::xs),⟨own,aP,e⟩⟩:=by
 subst aI;exact e7 (aqU (s:=⟨own,aP,e⟩) aa aF hn) k
def RJ(v:Int){bL:d7}(k:a1.ok aE ⟨K,.d av bZ ((d,.i bL v)::a7) bn cj,⟨own,aP,(d,.i bL v)::e⟩⟩)(aI:bL.wrap (m*2^n)=v)(aa:bw (eV ts a7) x=some (.i bL m):=by rfl)(aF:bw (eV ts a7) y=some (.i a5 (n:Int)):=by rfl)(hn:n<=bL.bits:=by first|decide|(show _<=64;omega))(hb:back<bn:=by decide):
 a1.ok aE ⟨K,.d ((⟨some d,.bin .shl x y,none⟩,.read back ts)::av) bZ a7 bn cj,⟨own,aP,e⟩⟩:=by
 subst aI;refine oX (d:=some d) (a:=.i bL (bL.wrap (m*2^n))) hb (fun H ids st fr ae _ _=>⟨.int bL (bL.wrap (m*2^n)),rfl,fun dB _ _=> ?_⟩) k;have h:=JB (call:=aE.call) (ae.aj aa) (ae.aj aF) dB;rw[zaB hn]at h;exact h
end
section
variable{X:Ctx}{bB:ar dv}{da:ci->gN}{cB n:Nat}{fn:ci}{cA:bJ}{i0:ac Nat}{aH:ay}{Q:dT->cW->Prop}{K:ac e4}{own:ac bp}{aP:Nat}{e:bX}
def RH{g:ci}{S:bc}(hc:a6 X g S.spec){f:bi}{c0:ac bi}{as bG cs:ac ah}{d:Tmp}{xs:ac (bK×cE)}{bZ:ac bp}{a7:bX}{bn cj:Nat}(l:S.L)(hp:S.pre l)(k:a1.ok ⟨dc bB (dz X da) (n+1),cB,fn,cA,i0,aH,Q⟩ ⟨K,.d xs bZ (oZ d a7) (bn+1) aP,⟨own,aP,(d,S.res l)::e⟩⟩)
 (ae:bw e f=some (.fn (.func g) bG cs):=by rfl) (aY:mr e c0=some as:=by rfl) (he:kD (bG++(as++cs)) (S.args l):=by exact kD.refl _) (q8:iU (bG++(as++cs))=true:=by rfl) (ec:da g=S.spec.K:=by rfl) (hh:S.hp cA:=by exact trivial):
 a1.ok ⟨dc bB (dz X da) (n+1),cB,fn,cA,i0,aH,Q⟩ ⟨K,.d ((⟨some d,.call f c0,none⟩,.eH)::xs) bZ a7 bn cj,⟨own,aP,e⟩⟩:=
 Ld (d:=some d) (s:=⟨own,aP,e⟩) (Rg hc ec l ae aY q8 he hp hh) rfl (fun _ _ ab _=>⟨ab,by simp[ky]⟩) k
end
end Go.ak
namespace Go.ak
variable{X:Ctx}
variable{b:Nat}{gs:ac (Nat×bH)}{g:Nat}{p:Nat×bH}
def m3(g n:Nat):bC:=fun i=>if i<g then some ⟨i,0,0,ix⟩else if n<=i∧i<2*n then some ⟨i-n,0,0,ix⟩else none
def Aq(W:co)(b:Nat):Bool:=match W.heap[b]? with
 |some (.cells _ _ _)=>true
 |_=>false
def amR{W:co}(h:Aq W b=true):∃C el bd,W.heap[b]? =some (.cells C el bd):=by
 unfold Aq at h;split at h
 ·rename_i C el bd hC;exact⟨C,el,bd,hC⟩
 ·cases h
def toA(W:co):be->be
 |.bool b=>.bool b
 |.int k m=>.int k m
 |.string s=>.string s
 |.slice none l c=>.slice none l c
 |.slice (some a) l c=>if Aq W a.block=true∧a.spot=none then .slice (some ⟨W.heap.size+a.block,a.off,none⟩) l c else(match l with|0=>.chan none|_=>h7)
 |.pointer none=>.pointer none
 |.pointer (some a)=>if a.block<W.heap.size∧a.spot=none then .pointer (some ⟨W.heap.size+a.block,a.off,none⟩)else h7
 |_=>h7
def M0{n:Nat}(aO:g<=n)(hb:b<n):m3 g n (n+b)=some ⟨b,0,0,ix⟩:=by
 unfold m3;rw[zaa (by omega),zab (by omega),zeU]
def ab1{W:co}(aO:g<=W.heap.size)(v:be):bs (m3 g W.heap.size) (toA W v) v:=by
 cases v with
 |slice a l c=>
  cases a with
  |none=>exact .nU _ _
  |some a=>
   show bs _ (if Aq W a.block=true∧a.spot=none then Value.slice (some ⟨W.heap.size+a.block,a.off,none⟩) l c else(match l with|0=>.chan none|_=>h7)) _;split
   ·rename_i h;obtain⟨b,o,sp⟩:=a;obtain⟨J,U⟩:=h;simp only at J U;subst U;obtain⟨_,_,_,af⟩:=amR J;have:=bs.gx (ι:=m3 g W.heap.size) ⟨W.heap.size+b,o,none⟩ ⟨b,0,0,ix⟩ o l c (M0 aO (zbk.1 af).1) rfl (.inl (by simp));exact this
   ·split
    ·exact .emp _ _
    ·exact .top _
 |pointer a=>
  cases a with
  |none=>exact .nQ
  |some a=>
   show bs _ (if a.block<W.heap.size∧a.spot=none then Value.pointer (some ⟨W.heap.size+a.block,a.off,none⟩)else h7) _;split
   ·rename_i h;obtain⟨b,o,sp⟩:=a;obtain⟨J,U⟩:=h;simp only at J U;subst U;have:=bs.ptr (ι:=m3 g W.heap.size) ⟨W.heap.size+b,o,none⟩ ⟨b,0,0,ix⟩ (M0 aO J) rfl;simpa using this
   ·exact .top _
 |bool b=>exact .bool b
 |int k m=>exact .int k m
 |string s=>exact .string s
 |_=>exact .top _
theorem ab2{g:Nat}{W:co}(aO:g<=W.heap.size):∀vs:ac be,bM (m3 g W.heap.size) (vs.map (toA W)) vs
 |[]=>.nil _
 |v::vs=>.cons (ab1 aO v) (ab2 aO vs)
theorem PL:∀(us:ac (Nat×bH)) (h:ar bH) (k:Nat),(∀p∈us,p.1≠k)->(kh us h).get k=h.get k
 |[],_,_,_=>rfl
 |u::us,h,k,hn=>by
  rw[JW,PL us _ k (fun p hp=>hn p (zaM _ hp)),ar.eo,zaa (fun e=>hn u zbB e.symm)]
theorem acs:∀(us:ac (Nat×bH)) (h:ar bH) (k:Nat) (o:bH),(us.map (·.1)).Nodup->(k,o)∈us->(kh us h).get k=some o
 |u::us,h,k,o,aq,hm=>by
  rw[zaR,List.nodup_cons]at aq;rw[JW];rcases zar.1 hm with rfl|hm
  ·rw[PL us _ k (fun p hp e=>aq.1 (e▸List.mem_map.2 ⟨p,hp,rfl⟩)),ar.eo,zab rfl]
  ·exact acs us _ k o aq.2 hm
def yu(W:co)(b:Nat):am Obj->am (Nat×bH)
 |some (.cells C el _)=>some (W.heap.size+b,.cells (C.toList.map (toA W)) el (0,C.size+1) false)
 |_=>none
def D4(W:co):ac (Nat×bH):=(List.range W.heap.size).filterMap fun b=>yu W b W.heap[b]?
def kt(gs:ac (Nat×bH))(W:co):ar bH:=kh (D4 W) (kh gs .nil)
def Ic{W:co}:p∈D4 W↔∃b,b<W.heap.size∧yu W b W.heap[b]? =some p:=by
 unfold D4;simp only[List.mem_filterMap,zcY]
def D3{W:co}{o:am Obj}(h:yu W b o=some p):p.1=W.heap.size+b:=by
 unfold yu at h;split at h
 ·cases h;rfl
 ·cases h
def aow(W:co):((D4 W).map (·.1)).Nodup:=by
 unfold D4;rw[List.map_filterMap];have hr:(List.range W.heap.size).Nodup:=List.nodup_range;refine List.Pairwise.filterMap (R:=fun a b=>a≠b) _ ?_ hr;intro a b iN x aa y aF e;obtain⟨p,J,rfl⟩:=zbm.1 aa;obtain⟨q,U,rfl⟩:=zbm.1 aF;rw[D3 J,D3 U]at e;omega
def akJ{W:co}{C:ap be}{el:ce}{bd:Nat×Nat}(h:W.heap[b]? =some (.cells C el bd)):(kt gs W).get (W.heap.size+b)=some (.cells (C.toList.map (toA W)) el (0,C.size+1) false):=
 acs _ _ _ _ (aow W) (Ic.2 ⟨b,(zbk.1 h).1,by rw[h];rfl⟩)
def akI{W:co}(h:g<W.heap.size):(kt gs W).get g=(kh gs .nil).get g:=
 PL _ _ _ fun p hp=>by
  obtain⟨b,_,e⟩:=Ic.1 hp;rw[D3 e];omega
def atX{W:co}(eI:X.aD<=W.heap.size)(h:∀p∈gs,td X.aD W p):bx X (m3 X.aD W.heap.size) ⟨kt gs W,2*W.heap.size⟩ W:=by
 have hle:(Hz X.aD).le (m3 X.aD W.heap.size):=fun i l hl=>by
  unfold Hz at hl;unfold m3;split at hl
  ·rename_i hi;cases hl;rw[zab hi]
  ·cases hl
 have nC:∀i l,m3 X.aD W.heap.size i=some l->l.ca=ix∧l.cG<W.heap.size∧i<2*W.heap.size:=by
  intro i l hl;unfold m3 at hl;split at hl
  ·cases hl;exact⟨rfl,by simp only;omega,by omega⟩
  ·split at hl
   ·cases hl;exact⟨rfl,by simp only;omega,by omega⟩
   ·cases hl
 have xP:∀i o,(kt gs W).get i=some o->td X.aD W (i,o)∨∃b,b<W.heap.size∧i=W.heap.size+b∧yu W b W.heap[b]? =some (i,o):=by
  intro i o ao;rcases BE _ _ _ _ ao with hm|hm
  ·obtain⟨b,hb,e⟩:=Ic.1 hm;exact .inr ⟨b,hb,D3 e,e⟩
  ·rcases BE _ _ _ _ hm with hm|hm
   ·exact .inl (h _ hm)
   ·simp at hm
 refine⟨fun i o ao aq=> ?_,fun i j o p l m hi _ hj _ hl hm ai e=> ?_,fun i hi=> ?_,fun i l hl=>(nC i l hl).2.1,fun g aO=> ?_,?_,fun i l o hl _ ao _=> ?_⟩
 ·rcases xP i o ao with⟨a4,cs,el,m,C,bd,aw,e2,bW,e6⟩|⟨b,hb,rfl,e⟩
  ·simp only at a4 aw bW;refine⟨⟨i,0,0,ix⟩,by unfold m3;rw[zab a4],?_⟩;subst aw;have hlen:cs.length=C.size:=by rw[e6.1];simp
   have e6:=e6.mono hle;refine⟨C,bd,bW,by simp[hlen],fun k ab=> ?_,fun ae=> ?_,fun _=>⟨rfl,rfl,hlen.symm⟩⟩
   ·have fh:k<C.size:=by omega
    refine⟨C[k],by simp[fh],?_⟩;have:=e6.2 k ab (by simpa using fh)
    rwa [zaC]at this
   ·simp only at ae;omega
  ·refine⟨⟨b,0,0,ix⟩,M0 eI hb,?_⟩;unfold yu at e;split at e
   ·rename_i C el bd hC;cases e;have hr:=ab2 eI C.toList;refine⟨C,bd,hC,by simp,fun k ab=> ?_,fun ae=> ?_,fun _=>⟨rfl,rfl,by simp⟩⟩
    ·have fh:k<C.size:=by simpa using ab
     refine⟨C[k],by simp[fh],?_⟩;have:=hr.2 k ab (by simpa using fh)
     rwa [zaC]at this
    ·simp only at ae;omega
   ·cases e
 ·exact(ai.elim (fun h=>h (nC i l hl).1) (fun h=>h (nC j m hm).1)).elim
 ·have hi:2*W.heap.size<=i:=hi;refine⟨?_,?_⟩
  ·cases e:m3 X.aD W.heap.size i with
   |none=>rfl
   |some l=>have:=(nC i l e).2.2;omega
  ·cases e:(kt gs W).get i with
   |none=>rfl
   |some o=>
    rcases xP i o e with h|⟨b,hb,rfl,_⟩
    ·have:=h.1;simp only at this;omega
    ·omega
 ·exact hle _ _ (by unfold Hz;rw[zab aO])
 ·show X.aD<=2*W.heap.size;omega
 ·rcases xP i o ao with⟨_,cs,el,m,C,bd,aw,e2,_,_⟩|⟨b,hb,rfl,e⟩
  ·simp only at aw;subst aw;exact⟨rfl,e2⟩
  ·unfold yu at e;split at e
   ·cases e;exact⟨rfl,Nat.succ_pos _⟩
   ·cases e
def akK{W:co}(h:∀p∈gs,p.1<W.heap.size)(b:Nat)(hb:2*W.heap.size<=b):(kt gs W).get b=none:=by
 cases e:(kt gs W).get b with
 |none=>rfl
 |some o=>
  rcases BE _ _ _ _ e with hm|hm
  ·obtain⟨c,hc,e⟩:=Ic.1 hm;have:=D3 e;simp only at this;omega
  ·rcases BE _ _ _ _ hm with hm|hm
   ·have:=h _ hm;simp only at this;omega
   ·simp at hm
inductive rW
 |i (k:IntKind)
 |b
 |s
 |bj (z w:Nat) (cs:List rW)
mutual
def aaG(B:Nat)(W:co):rW->be->Prop
 |.i k,v=>∃m,v= .int k m∧(Lit.int k m).wf=true
 |.b,v=>∃t,v= .bool t
 |.s,v=>∃s:f5,v= .string s∧s.data.toList.length<=B
 |.bj z w cs,v=>v= .slice none 0 0∨∃(a:Addr) (n c:Nat),v= .slice (some a) n c∧n<=c∧c<=B∧c*w<=B∧∀i,i<n->∃vs,W.cells? 0 (a.add (i*z)) z=some vs∧oD B W cs vs
def oD(B:Nat)(W:co):ac rW->ac be->Prop
 |[],vs=>vs=[]
 |c::cs,vs=>∃v ws,vs=v::ws∧aaG B W c v∧oD B W cs ws
end
theorem aaH{B:Nat}{W:co}:∀{cs ds:ac rW} {vs ws:ac be},oD B W cs vs->oD B W ds ws->oD B W (cs++ds) (vs++ws)
 |[],ds,vs,ws,h,aB=>by
  have h:vs=[]:=h;subst h;exact aB
 |c::cs,ds,vs,ws,⟨v,us,e,J,U⟩,aB=>by
  subst e;exact⟨v,us++ws,rfl,J,aaH U aB⟩
def Cg(P:d9):Nat->ce->am (ac rW)
 |0,_=>none
 |n+1,t=>
  match P.underlying t with
  |some .bool=>some [.b]
  |some (.int k)=>some [.i k]
  |some .string=>some [.s]
  |some (.slice e)=>if P.bytesOf e=0 then none else(Cg P n e).map fun cs=>[.bj (P.cellsOf e) (P.bytesOf e) cs]
  |some (.struct bG)=>if zB 0 (bG.toList.map fun f=>(f.offset,P.cellsOf f.type)) (P.cellsOf t)then(bG.toList.mapM fun(f:Field)=>Cg P n f.type).map List.flatten else none
  |_=>none
theorem acM{H:Type}{P:d9}{e:ce}{x:Nat}:∀{l:ac (DataW H)} {d:DataW H},d∈l->x∈d.weights P e->x∈DataW.weightsAll P e l
 |y::l,d,aq,aa=>by
  unfold DataW.weightsAll;rcases zar.1 aq with rfl|aq
  ·exact zdd _ aa
  ·exact zer _ (acM aq aa)
theorem PY{H:Type}{P:d9}{x:Nat}:∀{ts:ac ce} {l:ac (DataW H)} {i:Nat} {t:ce} {d:DataW H},ts[i]? =some t->l[i]? =some d->x∈d.weights P t->x∈DataW.weightsEach P ts l
 |[],_,_,_,_,h,_,_=>by simp at h
 |_::_,[],_,_,_,_,h,_=>by simp at h
 |u::ts,y::l,0,t,d,h,aB,aa=>by
  simp at h aB;subst h;subst aB;unfold DataW.weightsEach;exact zdd _ aa
 |u::ts,y::l,i+1,t,d,h,aB,aa=>by
  unfold DataW.weightsEach;exact zer _ (PY (i:=i) (by simpa using h) (by simpa using aB) aa)
theorem abb{B:Nat}{W:co}{α:Type}{seg:α->ac be}{dw:α->am (ac rW)}:∀(as:ac α) (cks:ac (ac rW)),as.mapM dw=some cks->(∀a∈as,∀cs,dw a=some cs->oD B W cs (seg a))->oD B W cks.flatten (as.map seg).flatten
 |[],cks,h,_=>by
  simp at h;subst h;exact rfl
 |a::as,cks,h,ab=>by
  rw[zdy]at h;obtain⟨cs,aa,h⟩:=zcr.1 h;obtain⟨av,aF,h⟩:=zcr.1 h;cases h;rw[zaR,zel,zel];exact aaH (ab a zbB cs aa) (abb as av aF (fun a aY=>ab a (zaM _ aY)))
theorem KI{H:Type}{enc:ce×be->H}{P:d9}{W:co}{B:Nat}:∀(n fuel:Nat) (t:ce) (cs:ac be) (d:DataW H) (p:ac MemPlace) (cks:ac rW),
 DataW.trod enc P W 0 (fun _=>true) true fuel t cs=some (d,p)->Cg P n t=some cks->(∀x∈d.weights P t,x<=B)->oD B W cks cs
 |0,_,_,_,_,_,_,_,h,_=>by cases h
 |n+1,fuel,t,cs,d,p,cks,h,hc,bb=>by
  unfold Cg at hc;cases fuel with
  |zero=>simp[DataW.trod]at h
  |succ fuel=>
  split at hc
  ·rename_i hu;cases hc;simp only[DataW.trod,hu]at h;split at h<;>first|(rename_i hq;cases hq)|skip
   all_goals first|(exact⟨_,_,rfl,⟨_,rfl⟩,rfl⟩)|(simp at h)
  ·rename_i k hu;cases hc;simp only[DataW.trod,hu]at h;split at h<;>first|(rename_i hq;cases hq)|skip
   all_goals first
    |(split at h
      ·rename_i hc;exact⟨_,_,rfl,⟨_,by rw[hc.1],hc.2⟩,rfl⟩
      ·cases h)
    |(simp at h)
  ·rename_i hu;cases hc;simp only[DataW.trod,hu]at h;split at h<;>first|(rename_i hq;cases hq)|skip
   all_goals first
    |(split at h
      ·cases h;exact⟨_,_,rfl,⟨_,rfl,bb _ (by unfold DataW.weights;exact zbB)⟩,rfl⟩
      ·cases h)
    |(simp at h)
  ·rename_i e hu;split at hc
   ·cases hc
   rename_i auB;obtain⟨aep,aku,rfl⟩:=zbm.1 hc;rcases DataW.trod_slice hu h with⟨rfl,_⟩|⟨a,len,cap,elems,rest,m,aw,rfl,e2,_,J,U,af,ax,a0,_⟩
   ·exact⟨_,_,rfl,.inl rfl,rfl⟩
   ·have aq:d= .slice (elems.map (·.1)) (rest.map (·.1)):=congrArg Prod.fst e2;subst aq;have hw:∀x,x∈(elems.length+rest.length)*P.bytesOf e::(DataW.weightsAll P e (elems.map (·.1))++DataW.weightsAll P e (rest.map (·.1)))->x<=B:=fun x aa=>bb x (by
     unfold DataW.weights;rw[hu];simp only[zbA];exact aa)
    have ai:=hw _ zbB;have kx:(elems.length+rest.length)*1<=(elems.length+rest.length)*P.bytesOf e:=Nat.mul_le_mul_left _ (by omega);have hr:=(a0 rfl).1;refine⟨_,_,rfl,.inr ⟨a,len,cap,rfl,J,by omega,zaj (zdX _ (by omega)) ai,fun i hi=> ?_⟩,rfl⟩;have ax:=ax i hi;have WC:i<elems.length:=by omega
    rw[zdr WC]at ax;obtain⟨vs,cP,cT⟩:=zcr.1 ax;refine⟨vs,cP,KI n m e vs _ _ aep cT aku (fun x aa=>hw x (zaM _ (zdd _ (acM (List.mem_map.2 ⟨_,zdY WC,rfl⟩) aa))))⟩
  ·rename_i bG hu;split at hc
   ·rename_i Wo;obtain⟨aet,hm,rfl⟩:=zbm.1 hc;obtain⟨xs,m,aw,e2,bW,e6,ma⟩:=DataW.trod_struct hu h;have aq:d= .agg (xs.map (·.1)):=congrArg Prod.fst e2;subst aq;rw[<-bW]at Wo;have Gb:=FR cs _ 0 Wo;rw[zap,zcp]at Gb;rw[Gb];refine abb (seg:=fun(f:Field)=>(cs.drop f.offset).take (P.cellsOf f.type)) bG.toList aet hm (fun f ae cs' ic=> ?_);obtain⟨i,hi,rfl⟩:=List.mem_iff_getElem.1 ae;have dX:i<bG.size:=by simpa using hi
    have ma:=ma i bG.toList[i] (by simp[dX]);have ku:i<xs.length:=by omega
    rw[zdr ku]at ma;exact KI n m _ _ _ _ cs' ma ic (fun x aa=>bb x (by
     unfold DataW.weights;rw[hu];exact PY (i:=i) (t:=bG.toList[i].type) (d:=xs[i].1) (by simp[dX]) (by simp[ku]) aa))
   ·cases hc
  ·cases hc
def GP(W:co)(v:be):Prop:=∀a l c,v= .slice (some a) l c->a.spot=none∧∃C el bd,W.heap[a.block]? =some (.cells C el bd)
variable{v:be}{z:Nat}{α:Type}
def GR{P:d9}{W:co}{u e:ce}(hu:P.underlying u=some (.slice e))(h:Cell.okWide P W .any 0 u v):GP W v:=by
 intro a l c aI;subst aI;unfold Cell.okWide at h;rw[hu]at h;simp only[Cell.ok,hu]at h;obtain⟨_,_,_,J,row,cells,U,_⟩:=h;refine⟨J,?_⟩;unfold World.shape? at U;split at U
 ·rename_i C el bd hC;exact⟨C,el,bd,hC⟩
 ·cases U
def aem{W:co}{a:Addr}{vs:ac be}{C:ap be}{el:ce}{bd:Nat×Nat}{o:Nat}(ai:a=⟨b,o,none⟩)(h:W.cells? 0 a z=some vs)(hC:W.heap[b]? =some (.cells C el bd)):vs=(C.toList.drop o).take z:=by
 unfold World.cells? at h;rw[zab (zaf _)]at h;have hl:=mapM_some_length h;rw[zes]at hl;have aO:∀i,i<z->C[o+i]? =vs[i]? :=fun i hi=>by
  have:=mapM_some_get h i i (by simp[hi]);unfold World.cell? at this;rw[ai,pI]at this;simp only[hC]at this;exact this
 apply zbJ;intro i;rw[zaK];split
 ·rename_i hi;rw[zaI,<-aO i hi];simp
 ·rw[zbK (by omega)]
def anD{n:Nat}{p:Nat->α->Prop}(h:∀i,i<n->∃x,p i x):∃l:ac α,l.length=n∧∀(i:Nat) (x:α),l[i]? =some x->p i x:=by
 induction n with
 |zero=>exact⟨[],rfl,fun i x aa=>by simp at aa⟩
 |succ n a8=>
  obtain⟨l,J,U⟩:=a8 (fun i hi=>h i (by omega));obtain⟨y,aF⟩:=h n (zce _);refine⟨l++[y],by simp[J],fun i x aa=> ?_⟩;by_cases hi:i<n
  ·rw[zbc (by omega)]at aa;exact U i x aa
  ·rw[zaQ (by omega)]at aa;have:i=n:=by
    have:=(zah.1 aa).1;simp at this;omega
   subst this;rw[J,Nat.sub_self]at aa;simp at aa;subst aa;exact aF
def JE{B:Nat}{W:co}{w:Nat}{cks:ac rW}{R:α->ac ah}{Q:α->Prop}(xH:∀vs,oD B W cks vs->∃x:α,dj (fun b=>(kt gs W).get b) (R x) [] (vs.map (toA W))∧Q x)
 (h:aaG B W (.bj z w cks) v) (hh:GP W v):∃l:ac α,l.length<=B∧l.length*w<=B∧(∀x∈l,Q x)∧den (fun b=>(kt gs W).get b) (.c5 z α R l) [] (toA W v):=by
 rcases h with rfl|⟨a,n,c,rfl,J,U,hw,af⟩
 ·exact⟨[],zaf _,by simp,(fun x aa=>by cases aa),.inl ⟨rfl,rfl⟩⟩
 ·obtain⟨aM,C,el,bd,aN⟩:=hh a n c rfl;obtain⟨b,o,sp⟩:=a;simp only at aM aN;subst aM;have Wm:=(zbk.1 aN).1;obtain⟨l,aw,e2⟩:=anD (p:=fun i x=>dj (fun b=>(kt gs W).get b) (R x) [] ((((C.toList.map (toA W)).drop (o+i*z)).take z))∧Q x) (n:=n) (fun i hi=>by
   obtain⟨vs,cP,cT⟩:=af i hi;obtain⟨x,ek,jR⟩:=xH vs cT;have:=aem (pI b o (i*z)) cP aN;rw[this]at ek;refine⟨x,?_,jR⟩;rw[<-zet,<-List.map_take];exact ek)
  refine⟨l,by omega,zaj (zdX _ (by omega)) hw,fun x aa=> ?_,.inr ⟨W.heap.size+b,o,c,C.toList.map (toA W),el,(0,C.size+1),false,?_,by omega,akJ aN,fun i x aa=>(e2 i x aa).1⟩⟩
  ·obtain⟨i,hi⟩:=zcG.1 aa;exact(e2 i x hi).2
  ·show(if Aq W b=true∧(none:am Nat)=none then Value.slice (some ⟨W.heap.size+b,o,none⟩) n c else _)=_;rw[zab ⟨by unfold Aq;rw[aN],rfl⟩,aw]
