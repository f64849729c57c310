/- Rules for what a function computes on abstract states (part 2); no condition. -/
import Derived.Carry
import Derived.Test.YtoepefenkpijoaaGreatDoorS1
import Derived.Test.YtoepefenkpijoaaGreatDoorM3
noncomputable section
set_option linter.all false
namespace Go.ar
open Sym
def apd{k z j q o:Nat}(h:o=j*z+q):bS (.p k o) (.gX k z j q):=fun _ _ _ d=>by subst h;exact d
section
variable{call:bG}{s:cz}{x y i:bi}
variable{n k:Nat}{el:ce}{z:Nat}{cs:ac aj}{j o:Nat}{a8:Bool}{l:ac bv}
def wP{b5:d7}(aa:bu s.env x=some (.p k o))(af:bu s.env i=some (.i b5 (j:Int)))(hj:j<n):gq call (.qU n z x i) s (.p k (o+j*z)) s.own s.n:=ln fun H ids st fr aw ae=>by
 obtain⟨b,J,U⟩:=ae.ak aa;have ag:fr.ak i= .int b5 (j:Int):=ae.ak af;refine⟨_,⟨b,J,rfl⟩,?_⟩;show th n z x i call fr st=_;unfold th;rw[U,n7,Sym.en,ag,nA,pn,gz (by omega),pJ];rfl
def an8{b5:d7}(aa:bu s.env x=some (.ip cs))(af:bu s.env i=some (.i b5 (j:Int)))(hj:j<n):gq call (.qU n z x i) s (.ip (cs.drop (j*z))) s.own s.n:=ln fun H ids st fr aw ae=>by
 obtain⟨b,o,vs,el,bg,a8,J,U,d⟩:=ae.ak aa;have ag:fr.ak i= .int b5 (j:Int):=ae.ak af;refine⟨.pointer (some ⟨b,o+j*z,none⟩),⟨b,o+j*z,vs,el,bg,a8,rfl,U,?_⟩,?_⟩
 ·have:=pR (j*z) d;rw[zdZ,zbp,<-zaA]at this;exact this
 ·show th n z x i call fr st=_;unfold th;rw[J,n7,Sym.en,ag,nA,pn,gz (by omega),pJ];rfl
def XN{b1:bC}{g:Nat}{vs:ac be}{bg:Nat×Nat}{b5:d7}(aa:bu s.env x=some (.v (.pointer (some ⟨g,0,none⟩))))(aR:b1 g=some (.cells vs el bg a8))(aA:∀H,de H cs [] vs)(af:bu s.env i=some (.i b5 (j:Int)))(hj:j<n):xI b1 call (.qU n z x i) s (.ip (cs.drop (j*z))) s.own s.n:=fun H ids st fr e5 aw ae=>by
 have J:fr.ak x= .pointer (some ⟨g,0,none⟩):=ae.ak aa;have ag:fr.ak i= .int b5 (j:Int):=ae.ak af;refine⟨.pointer (some ⟨g,0+j*z,none⟩),st,ids,H,?_,aw,⟨g,0+j*z,vs,el,bg,a8,rfl,e5 _ _ aR,?_⟩,du.refl _,da.refl _,fun _ _ _ B=>B,b8 _,fun _ _ _=>rfl⟩
 ·show th n z x i call fr st=_;unfold th;rw[J,n7,Sym.en,ag,nA,pn,gz (by omega),pJ];rfl
 ·have:=pR (j*z) (aA H);have hl:=h9 this;rw[zaC,<-hl,zbx];exact this
def afr(aa:bu s.env x=some (.p k o))(ab:s.own[k]? =some (.c el cs))(al:o<cs.length):gq call (.C5 x) s (.p k o) s.own s.n:=ln fun H ids st fr aw ae=>by
 obtain⟨b,J,U⟩:=ae.ak aa;obtain⟨⟨vs,ag,d⟩,_⟩:=aw.own k _ b ab J;refine⟨_,⟨b,J,rfl⟩,?_⟩;show IY x call fr st=_;unfold IY ay.gC;rw[U,n7,Sym.en,Sym.gK,ag,kA,gz (by rw[fg,h9 d];exact al)]
def agu(aa:bu s.env x=some (.p k 0))(ab:s.own[k]? =some (.c el cs))(hn:cs.length=n):gq call (.C6 el n x) s (.p k 0) s.own s.n:=ln fun H ids st fr aw ae=>by
 obtain⟨b,J,U⟩:=ae.ak aa;obtain⟨⟨vs,ag,d⟩,_⟩:=aw.own k _ b ab J;refine⟨_,⟨b,J,rfl⟩,?_⟩;show IZ el n x call fr st=_;unfold IZ ay.gC;rw[U,n7,Sym.en,Sym.gK,ag,kA,cond_false,j0 rfl,j0 rfl,j0 (by rw[fg,h9 d];exact hn)]
def Ke{p q:Nat}{α:Type}{R:α->ac aj}{l:ac α}{aQ af:am bi}(aa:bu s.env x=some (.p k 0))(ab:s.own[k]? =some (.a el false z α R l))(gU:fO s aQ 0 p)(ht:fO s af n q)(hp:p<=q)(hq:q<=n)(h0:p<n∨p=0):gq call (.Ce n z x aQ af none) s (.a5 k z p (q-p) (n-p)) s.own s.n:=ln fun H ids st fr aw ae=>by
 obtain⟨b,J,U⟩:=ae.ak aa;obtain⟨vs,bc,cf,cL⟩:=qp aw ab J;refine⟨_,⟨b,J,rfl⟩,?_⟩;show BI n z x aQ af none call fr st=_;unfold BI ay.gC;rw[U,n7,Sym.en,Sym.gK,bc,kA,cond_false,CW,fO.ak ht ae hq,fO.ak gU ae hp];congr 2;by_cases nU:n=p
 ·subst nU;rcases h0 with h0|h0
  ·omega
  ·subst h0;rw[j0 rfl];simp
 ·rw[sM nU,pJ,zaC];rfl
def avf{b5:d7}(aa:bu s.env x=some (.p k 0))(aL:bu s.env y=some (.i b5 (n:Int)))(ab:s.own[k]? =some (.a el a8 1 bv lu l))(hn:n=l.length)(h0:n≠0)(hb:n<=1099511627776):gq call (.tD el x y) s (.s l) (s.own.set k .x) s.n:=fun H ids st fr aw ae=>by
 obtain⟨b,J,U⟩:=ae.ak aa;have ag:fr.ak y= .int b5 (n:Int):=ae.ak aL;obtain⟨vs,bc,cf,cL⟩:=qp aw ab J;have cK:=Lw (⟨cf,cL⟩:kf H ids lu 1 l vs);refine⟨_,_,ids,H,?_,aw.hd ab rfl J (eI:=.cells vs el (0,0+n) a8) trivial,rfl,du.refl _,da.refl _,fun _ _ _ B=>B.hd (zav J) _,b8 _,?_⟩
 ·show I5 el x y call fr st=_;unfold I5 ay.gC;rw[U,n7,ag,nA,pn,sM h0,Sym.en,gz (show n<=2^40 from hb),Sym.gK,bc,kA,gz (b8 _),j0 rfl,qw (by show n<=(vs.drop 0).length;rw[zap,cf];omega)];show bk (bytesOf ((vs.drop 0).take n)) _ _=_;rw[zap,zas (by rw[cf];omega),cK,Sym.en,ks];rfl
 ·intro eW _ cd;exact ao.gf _ _ (fun e=>cd k (by simp[jh,aa]) (e▸J))
def uI(c:bv)(l:ac bv):Int:=match qV c l with
 |some i=>i
 |none=> -1
def aob{c:bv}(aa:bu s.env x=some (.s l))(aL:bu s.env y=some (.i .u8 (c.toNat:Int))):gq call (.kV x y) s (.i .i64 (uI c l)) s.own s.n:=ln fun H ids st fr aw ae=>by
 have J:fr.ak x= .string ⟨⟨l⟩⟩:=ae.ak aa;have U:fr.ak y= .int .u8 (c.toNat:Int):=ae.ak aL;refine⟨_,rfl,?_⟩;show I0 x y call fr st=_;unfold I0;rw[J,Cr,U,nA,show kn .u8 .u8=true from rfl,cond_true,pn,UInt8.ofNat_toNat];unfold uI;show aV.ok (.int .i64 (bk (qV c l) (fun i=>.ofNat i) (.negSucc 0))) fr st=_;cases qV c l<;>rfl
end
set_option maxRecDepth 10000
def EZ{X:Ctx}{K:ci->eY}{f:ci}(h:K f=eY.no)(as:ac be)(st:ay):cg X K f as st=none:=by
 unfold cg;rw[h,dif_neg (fun⟨p,J,_⟩=>J),dif_neg (fun⟨p,J,_⟩=>J)]
def dN.trans{b1 H bn:bC}{i0 ids c6:ac Nat}{aK st st':ay}(h:dN b1 i0 aK H ids st)(aG:dN H ids st bn c6 st'):dN b1 i0 aK bn c6 st':=by
 have hn:∀b,b<aK.ai->b∉i0->b<st.ai∧b∉ids:=fun b hb af=>⟨fM hb h.ai,fun hm=>(h.new b hm).elim af (fun h=>by omega)⟩;refine⟨h.hle.trans aG.hle,fun b hb af=> ?_,fun b hb af=> ?_,zag h.ai aG.ai,fun k b ab=>aG.lI k b (h.lI k b ab),fun b hb=> ?_⟩
 ·obtain⟨J,U⟩:=hn b hb af;rw[aG.hold b J U,h.hold b hb af]
 ·obtain⟨J,U⟩:=hn b hb af;rw[aG.hA b J U,h.hA b hb af]
 ·rcases aG.new b hb with J|J
  ·exact h.new b J
  ·exact .inr (zag h.ai J)
section
variable{X:Ctx}{aZ:ao cM}{bY:ci->eY}{b4 n:Nat}{fn:ci}{b1:bC}{i0:ac Nat}{aK:ay}{Q:dv->cz->Prop}{K:ac eE}{own:ac bj}{aH:Nat}{e:bO}
def adL(aB:fl)(K:ac eE)(xs:ac bz)(d:am Tmp)(e:bO)(res:ac h6)(x:dv)(s:cz):Prop:=(x= .norm∨x= .ret)∧∃r,Fin.tu s res=some r∧aU.ok aB ⟨K,.o xs,⟨s.own,s.n,fj d r e⟩⟩
def zl{g:ci}(xf:cM)(aa:aZ.get g=some xf){cq:ac bi}{as:ac aj}{d:am Tmp}{xs:ac bz}
 (k:∀H1 i1 s1,i1.length=own.length->du b1 H1->aU.ok ⟨b9 aZ (cg X bY) (n+1),n+1,g,H1,i1,s1,adL ⟨b9 aZ (cg X bY) (n+2),b4,fn,b1,i0,aK,Q⟩ K xs d e xf.res⟩ ⟨[],.c xf.body,⟨own,aH,mA 0 as⟩⟩)
 (ha:kG e cq=some as:=by rfl) (hl:as.length<=xf.aJ:=by exact jF rfl) (dw:bY g=eY.no:=by rfl):aU.ok ⟨b9 aZ (cg X bY) (n+2),b4,fn,b1,i0,aK,Q⟩ ⟨K,.o (⟨d,.call (.func g) cq,none⟩::xs),⟨own,aH,e⟩⟩:=by
 intro H ids st fr a0 aw ae;have aA:=ae.ey ha;have gS:=k H ids st (aw.len.trans aw.cE.symm) a0.hle H ids st (eL (ey fr cq)) (dN.refl _ _ _) aw (c9.zero aA);obtain⟨v,st',J,r,bn,c6,s,cX,dp,hH,ab⟩:=Ge (n:=n+1) (f:=g) (Post:=fun v st'=>∃(r:aj) (bn:bC) (c6:ac Nat) (s:cz),dN H ids st bn c6 st'∧Fit bn c6 st' s.own s.n∧den bn r c6 v∧aU.ok ⟨b9 aZ (cg X bY) (n+2),b4,fn,b1,i0,aK,Q⟩ ⟨K,.o xs,⟨s.own,s.n,fj d r e⟩⟩)
  (by rw[h9 aA];exact hl) (gS.mono (by
   rintro x dC cu ⟨bn,c6,s,cX,dp,ef,aa,r,aE,ab⟩;obtain⟨v,ag,az⟩:=Fk (call:=b9 aZ (cg X bY) (n+1)) dp ef aE;exact⟨aa,v,az,r,bn,c6,s,cX,dp,ag,ab⟩))
 refine su (v:=v) (st':=st') ?_ (ab bn c6 st' _ (a0.trans cX) dp ((ae.mono cX.hle cX.lI).fj d hH));rw[u9];show nN (b9 aZ (cg X bY) (n+2) (.func (.func g) #[] #[]) (ey fr cq) none st) _ _=_;rw[rD];have a3:fS (#[]:ap be).toList (fS (ey fr cq) (#[]:ap be).toList)=ey fr cq:=by simp
 rw[a3,EZ dw,Sym.gK,Sym.gK,aa,Sym.en,J];rfl
end
theorem Lx{H:bC}{ids:ac Nat}{α:Type}{R:α->ac aj}{z:Nat}(an:∀w,(R w).length=z):∀{l:ac α} {vs:ac be},kf H ids R z l vs->de H (l.flatMap R) ids vs
 |[],vs,h=>by
  have:vs=[]:=zbu (by rw[h.1];simp);exact this
 |w::l,vs,h=>by
  rw[<-zbl z vs,zcQ];have J:=h.2 0 w (by simp);rw[zau,zap]at J;have U:=z3 h 1;rw[zbf]at U;exact Ae J (Lx an (l:=l) U)
section
variable{aB:fl}{K:ac eE}{own bF:ac bj}{aH ck:Nat}{e:bO}{d:Tmp}{xs:ac bz}{x y i:bi}
variable{el:ce}{cr:Nat}{l:ac bv}{n z:Nat}{α:Type}{p:ac bz}{a8:Bool}{j:Nat}{R:α->ac aj}
def arL(k:Nat){l:ac α}(b5:aU.ok aB ⟨K,.o p,⟨bF,aH,e⟩⟩)(ab:own[k]? =some (.a el false z α R l):=by rfl)(an:∀w,(R w).length=z:=by exact fun _=>rfl)(al:jk own k (.c el (l.flatMap R)) some=some bF:=by rfl):aU.ok aB ⟨K,.o p,⟨own,aH,e⟩⟩:=fun H ids st fr a0 aw ae=>by
 have:=kc al;cases this;refine b5 H ids st fr a0 ⟨aw.wf,aw.le,by simp[aw.cE],aw.len,aw.c8,aw.lt,?_⟩ ae;intro j q c hj hc;by_cases je:k=j
 ·subst je;rw[zaQ,zab rfl]at hj;split at hj<;>cases hj;obtain⟨⟨vs,ag,az,a4⟩,cl⟩:=aw.own k _ c ab hc;exact⟨⟨vs,ag,Lx an ⟨az,a4⟩⟩,fun _=>cl rfl⟩
 ·rw[zaQ,zaa je]at hj;exact aw.own j q c hj hc
def arQ(t:Nat){k:Nat}{l:ac α}(b5:aU.ok aB ⟨K,.o p,⟨bF,aH,(t,.ip (l.flatMap R))::e⟩⟩)(aW:eb e t=some (.p k 0):=by rfl)(ab:own[k]? =some (.a el a8 z α R l):=by rfl)(hp:∀x,hQ (R x)=true:=by exact fun _=>rfl)(an:∀w,(R w).length=z:=by exact fun _=>rfl)(al:jk own k .x some=some bF:=by rfl):aU.ok aB ⟨K,.o p,⟨own,aH,e⟩⟩:=fun H ids st fr a0 aw ae=>by
 have:=kc al;cases this;obtain⟨b,g1,aM⟩:=ae.get t _ aW;obtain⟨⟨vs,bc,cf,cL⟩,_⟩:=aw.own k _ b ab g1;have hle:=Ay aw ab rfl g1;refine b5 (j1 H st b) ids st fr (a0.j1 aw ab rfl g1) (aw.j1 ab rfl g1) ⟨(ae.mono hle (da.refl _)).pl,fun j q hj=> ?_⟩;rw[r8]at hj;cases hb:Nat.beq t j with
 |false=>rw[hb]at hj;exact(ae.mono hle (da.refl _)).get j q hj
 |true=>
  rw[hb]at hj;cases hj;rw[<-dD hb];have hc:kf H [] R z l vs:=⟨cf,fun i x aa=>o2 _ (hp x) (cL i x aa) []⟩;have aA:=Lx an hc;have hl:=h9 aA;refine⟨b,0,vs,el,(0,0),a8,aM,by unfold j1;rw[zab rfl];exact bc,?_⟩;rw[zap,<-hl,zbx];exact my hle _ (da.refl _) aA
def acB{call:bG}{s:cz}(aL:bu s.env y=some (.s l)):vL call el cr s y lu 1 l:=fun H ids st fr aw ae x p n c aa=>by
 have J:fr.ak y= .string ⟨⟨l⟩⟩:=ae.ak aL;obtain⟨U,ag⟩:=R4 H ids l;refine⟨lQ l,U,ag,?_⟩;have e:bK call (.app el 1 cr x y) fr st=il (fr.ak x) (fun base len cap=>il (fr.ak y) (fun b n _=>bk b (fun b=>st.load b (Nat.mul n 1) (fun new=>cond (hf new) (jJ fr st el 1 cr base len cap n new) .no) .no) (dQ n 0 (jJ fr st el 1 cr base len cap 0 []) .no)) (tE (fr.ak y) (jJ fr st el 1 cr base len cap 0 []) (im (fr.ak y) (fun s=>dQ 1 1 (jJ fr st el 1 cr base len cap (db s.data.toList) (lQ s.data.toList)) .no) .no))) .no:=rfl;rw[e,aa,oS,J];show dQ 1 1 (jJ fr st el 1 cr p n c (db l) (lQ l)) .no=_;rw[j0 rfl,fg]
def arI(k:aU.ok aB ⟨K,.o xs,⟨bF,ck,(d,.a5 aH 1 0 l.length l.length)::e⟩⟩)(aa:bu e x=some .nl:=by rfl)(aL:bu e y=some (.s l):=by rfl)
 (al:oQ own (.a el true 1 bv lu l) some=some bF:=by rfl) (ju:mS aH some=some ck:=by rfl) (h0:l≠[]:=by first|rfl|simp) (hb:(5*l.length+1792)*(cr+1)<=1125899906842624:=by first|omega|(simp;done)|(simp;omega)):aU.ok aB ⟨K,.o (⟨some d,.app el 1 cr x y,none⟩::xs),⟨own,aH,e⟩⟩:=by
 have J:=py al;have U:=nZ ju;cases J;cases U;exact fJ (K7 (s:=⟨own,aH,e⟩) aa (acB aL) h0 hb) k
def arH{k0 c:Nat}{m:ac bv}{g8:ac bj}(k:aU.ok aB ⟨K,.o xs,⟨bF,ck,(d,.a5 aH 1 0 (n+m.length) (n+m.length))::e⟩⟩)(aa:bu e x=some (.a5 k0 1 0 n c):=by rfl)(aL:bu e y=some (.s m):=by rfl)(ab:own[k0]? =some (.a el true 1 bv lu l):=by rfl)
 (kD:jk own k0 .x some=some g8:=by rfl) (al:oQ g8 (.a el true 1 bv lu (l++m)) some=some bF:=by rfl) (ju:mS aH some=some ck:=by rfl) (h0:m≠[]:=by first|rfl|simp) (hn:n=l.length:=by first|omega|(simp;done)|(simp;omega)) (jf:n=c:=by omega) (hb:(5*(n+m.length)+1792)*(cr+1)<=1125899906842624:=by first|omega|(simp;done)|(simp;omega)):aU.ok aB ⟨K,.o (⟨some d,.app el 1 cr x y,none⟩::xs),⟨own,aH,e⟩⟩:=by
 have jK:=kc kD;cases jK;have J:=py al;have U:=nZ ju;cases J;cases U;have:=F5 (call:=aB.call) (s:=⟨own,aH,e⟩) (cr:=cr) aa ab (acB aL) h0 (by omega) (by omega) (by omega) hb;rw[hn,zbx]at this;rw[hn]at k;exact fJ this k
def JV{k0:Nat}{b5:d7}(k:aU.ok aB ⟨K,.o xs,⟨own,aH,(d,.gX k0 1 j 0)::e⟩⟩)(aa:bu e x=some (.p k0 0):=by rfl)(af:bu e i=some (.i b5 (j:Int)):=by rfl)(hj:j<n:=by omega):aU.ok aB ⟨K,.o (⟨some d,.qU n 1 x i,none⟩::xs),⟨own,aH,e⟩⟩:=
 fJ (fun H ids st fr aw ae=>let⟨v,st',c6,bn,J,U,ag,az⟩:=wP (call:=aB.call) (s:=⟨own,aH,e⟩) (z:=1) aa af hj H ids st fr aw ae;⟨v,st',c6,bn,J,U,apd (by omega) _ _ _ ag,az⟩) k
def arR{g:Nat}{b5:d7}{vs:ac be}{bg:Nat×Nat}{cs:ac aj}(aR:aB.b1 g=some (.cells vs el bg a8))(aA:∀H,de H cs [] vs)(k:aU.ok aB ⟨K,.o xs,⟨own,aH,(d,.ip (cs.drop j))::e⟩⟩)(aa:bu e x=some (.v (.pointer (some ⟨g,0,none⟩))):=by rfl)(af:bu e i=some (.i b5 (j:Int)):=by rfl)(hj:j<n:=by omega):aU.ok aB ⟨K,.o (⟨some d,.qU n 1 x i,none⟩::xs),⟨own,aH,e⟩⟩:=by
 have:=XN (call:=aB.call) (s:=⟨own,aH,e⟩) (z:=1) aa aR aA af hj;rw[zaZ]at this;exact BY (d:=some d) this k
end
section
variable{call:bG}{s:cz}{x y:bi}
variable{neg:Bool}
def S3{c:Bool}{t:pE}{fr:aP}{st:ay}(hc:ly 8 t (fr.ak x) (fr.ak y)=some c):bK call (.eqv neg t x y) fr st= .ok (.bool (mr neg c)) fr st:=by
 show bk (ly 8 t (fr.ak x) (fr.ak y)) (fun b=>aV.ok (.bool (cond neg (!b) b)) fr st) .no=_;rw[hc];rfl
def ahO(aa:bu s.env x=some (.v (.pointer none)))(aL:bu s.env y=some (.v (.pointer none))):gq call (.eqv neg .ptr x y) s (.b (mr neg true)) s.own s.n:=ln fun H ids st fr aw ae=>
 ⟨_,rfl,S3 (by rw[show fr.ak x=_ from ae.ak aa,show fr.ak y=_ from ae.ak aL];simp[ly,sN])⟩
def ahP{k o:Nat}(aa:bu s.env x=some (.p k o))(aL:bu s.env y=some (.p k o)):gq call (.eqv neg .ptr x y) s (.b (mr neg true)) s.own s.n:=ln fun H ids st fr aw ae=>by
 obtain⟨b,J,U⟩:=ae.ak aa;obtain⟨eW,lz,ag⟩:=ae.ak aL;rw[J]at lz;cases lz;exact⟨_,rfl,S3 (by rw[U,ag];simp[ly,sN])⟩
end
section
variable{aB:fl}{K:ac eE}{own bF bA g8:ac bj}{aH bd ca back:Nat}{e a3:bO}{d:Tmp}{ts:ac Tmp}{xs:ac (bz×cw)}{x y i:bi}
variable{n:Nat}
def agI{k0 z c:Nat}(k:aU.ok aB ⟨K,.d xs bA ((d,.p k0 0)::a3) bd ca,⟨own,aH,(d,.p k0 0)::e⟩⟩)(aa:bu (ff ts a3) x=some (.a5 k0 z 0 n c):=by rfl)(hc:c≠0:=by omega)(hb:back<bd:=by decide):aU.ok aB ⟨K,.d ((⟨some d,.B9 x,none⟩,.read back ts)::xs) bA a3 bd ca,⟨own,aH,e⟩⟩:=
 qx (d:=some d) (a:=.p k0 0) hb (fun H ids st fr ae _ _=>by
  obtain⟨b,J,U⟩:=ae.ak aa;refine⟨_,⟨b,J,rfl⟩,fun ch _ _=> ?_⟩;show I4 x aB.call fr ch=_;unfold I4;rw[U,oS,zau,Sym.en,sM hc]) k
def agK{k0:Nat}{el:ce}{a8:Bool}{l:ac bv}{b5:d7}{aC:bO}(k:aU.ok aB ⟨K,.d xs g8 aC (bd+1) aH,⟨bF,aH,(d,.s l)::e⟩⟩)(aa:bu e x=some (.p k0 0):=by rfl)(aL:bu e y=some (.i b5 (n:Int)):=by rfl)(ab:own[k0]? =some (.a el a8 1 bv lu l):=by rfl)(al:jk own k0 .x some=some bF:=by rfl)(kD:E0 bA (some k0) some=some g8:=by rfl)(amv:k9 d a3=aC:=by rfl)
 (hn:n=l.length:=by first|rfl|omega|(simp;done)) (h0:n≠0:=by omega) (hb:n<=1099511627776:=by omega):aU.ok aB ⟨K,.d ((⟨some d,.tD el x y,none⟩,.dX)::xs) bA a3 bd ca,⟨own,aH,e⟩⟩:=by
 have h:=kc al;cases h;obtain⟨Ja,g1,aM,bc⟩:=OV kD;cases g1;subst amv;exact v8 (d:=some d) (s:=⟨own,aH,e⟩) (avf (s:=⟨own,aH,e⟩) aa aL ab hn h0 hb) aM (fun k o fF hl=>by
  have:=bc k o fF hl;simp only[jh,aa];exact this) k
end
variable{st:ay}{H:bC}{ids:ac Nat}{n:Nat}{fr:aP}{call:bG}{l:Nat}
def auM{own:ac bj}{p:Nat}{e bL:bO}{o q:bj}(h:k5 [0,2] bL e)(al:∃bh,own[0]? =some bh∧gQ [0,2] o bh)(hq:∃bh,own[2]? =some bh∧gQ [0,2] q bh)(hp:pinned p [0,2] 0=true:=by rfl):Sub p [0,2] ⟨own,n,e⟩ ⟨[o,q],2,bL⟩:=⟨by simp,rfl,⟨al,hq,trivial⟩,h,hp⟩
def plainO:dd->Bool
 |.ie _=>true
 |.alloc _ _=>true
 |.call _ _=>true
 |_=>false
def aqw{o:dd}{aI:aP}{st':ay}{v:be}(al:plainO o=true)(h:bK call o fr st= .ok v aI st'):aI=fr:=by
 cases o<;>first|cases al|skip
 ·cases h;rfl
 ·rename_i z el;have e:bK call (.alloc z el) fr st=st.jB (.cells z el (0,0) false) fun id st=>.ok (.pointer (some ⟨id,0,none⟩)) fr st:=rfl;rw[e,gV]at h;cases h;rfl
 ·rename_i f as;rw[u9]at h;cases hc:call (fr.ak f) (ey fr as) none st with
  |ret v1 cu eK=>rw[hc,Tu]at h;cases h;rfl
  |a1 v1 cu eK=>rw[hc,Tt]at h;cases h
  |no=>rw[hc]at h;cases h
theorem ZZ{call:bG}:∀{ops:ac bz} {fr aI:aP} {st st':ay} {e:dv},(ops.all fun x=>x.g.isNone&&plainO x.o)=true->gG call ops fr st= .out e aI st'->aI.b0=fr.b0
 |[],_,_,_,_,_,_,h=>by cases h;rfl
 |⟨d,o,g⟩::ops,fr,aI,st,st',e,ha,h=>by
  rw[List.all_cons,bW,bW]at ha;obtain⟨⟨aR,al⟩,ha⟩:=ha;cases g with
  |some p=>cases aR
  |none=>
   have h:u7 (bK call o fr st) (fun v fr st=>gG call ops (fr.put d v) st) (fun v st=>cond o.k7 (.out (.a1 v) fr st) .no)= .out e aI st':=h;have al:plainO o=true:=al;cases dM:bK call o fr st with
   |ok v dC cu=>
    have aC:=aqw al dM;subst aC;rw[dM,tg]at h;rw[ZZ ha h];exact(tm _ _ _).2.2.2
   |a1 v cu=>
    rw[dM,Zx]at h;cases hp:o.k7 with
    |true=>rw[hp,cond_true]at h;cases h;rfl
    |false=>rw[hp,cond_false]at h;cases h
   |no=>rw[dM,aqp]at h;cases h
def seg{b4:Nat}{fn:ci}{ops:ac bz}{s t:cz}(hp:(ops.all fun x=>x.g.isNone&&plainO x.o)=true)(h:∀H1 i1 s1,i1.length=s.own.length->du H H1->aU.ok ⟨call,b4,fn,H1,i1,s1,fun x bq=>x= .norm∧bq=t⟩ ⟨[],.o ops,s⟩)
 (aw:Fit H ids st s.own s.n) (ae:c9 fr H ids s.env):∃aI st' bn c6,c1 call b4 fn (.hR ops) fr st= .out .norm aI st'∧dN H ids st bn c6 st'∧Fit bn c6 st' t.own t.n∧c9 aI bn c6 t.env∧aI.b0=fr.b0:=by
 obtain⟨e,aI,st',J,bn,c6,bq,a0,dp,ef,rfl,rfl⟩:=h H ids st (aw.len.trans aw.cE.symm) (du.refl _) H ids st fr (dN.refl _ _ _) aw ae;exact⟨aI,st',bn,c6,J,a0,dp,ef,ZZ hp J⟩
def Fit.extra{own:ac bj}(h:Fit H ids st own n)(eI:bt):Fit H ids ⟨st.h.set st.ai eI,st.ai+1⟩ own n:=by
 have cd:∀b,b<st.ai->(ao.set st.h st.ai eI).get b=st.h.get b:=fun b hb=>ao.gf _ _ (by omega);refine⟨fun i af=> ?_,fun b o hb=> ?_,h.cE,h.len,h.c8,fun b hb=>zcU (h.lt b hb),fun k o b ab hb=> ?_⟩
 ·show(ao.set st.h st.ai eI).get i=none;have af:st.ai+1<=i:=af;rw[ao.gf _ _ (by omega)];exact h.wf i (by omega)
 ·show(ao.set st.h st.ai eI).get b=some o;rw[cd b (h.aN hb)];exact h.le b o hb
 ·show mx H ids o ((ao.set st.h st.ai eI).get b)∧_;rw[cd b (h.lt b (zav hb))];exact h.own k o b ab hb
def Fit.other{own:ac bj}(h:Fit H ids st own n)(hl:l<st.ai)(af:l∉ids)(e5:H l=none)(eI:bt):Fit H ids ⟨st.h.set l eI,st.ai⟩ own n:=by
 refine⟨fun i dG=> ?_,fun b o hb=> ?_,h.cE,h.len,h.c8,h.lt,fun k o b ab hb=> ?_⟩
 ·show(ao.set st.h l eI).get i=none;have dG:st.ai<=i:=dG;rw[ao.gf _ _ (by omega)];exact h.wf i dG
 ·show(ao.set st.h l eI).get b=some o;rw[ao.gf _ _ (fun e=>by rw[e,e5]at hb;cases hb)];exact h.le b o hb
 ·show mx H ids o ((ao.set st.h l eI).get b)∧_;rw[ao.gf _ _ (by intro e;subst e;exact af (zav hb))];exact h.own k o b ab hb
def da.eq{i j:ac Nat}(h:da i j)(hl:i.length=j.length):i=j:=by
 apply zbw;intro k;by_cases ab:k<i.length
 ·rw[bm ab,h k _ (bm ab)]
 ·rw[zbz (by omega),zbz (by omega)]
def OW:ac Tmp->ac aj->bO->bO
 |t::ts,a::as,e=>OW ts as ((t,a)::e)
 |_,_,e=>e
def c9.par{cS:ac Deferred}{a1:am be}{eK:Bool}{J0:am Nat}:∀{ts:ac Tmp} {as:ac aj} {vs:ac be} {t:ao be} {e:bO},de H as ids vs->c9 ⟨t,cS,a1,eK,J0⟩ H ids e->c9 ⟨oJ ts vs t,cS,a1,eK,J0⟩ H ids (OW ts as e)
 |[],[],_,_,_,_,h=>h
 |[],_::_,_,_,_,_,h=>h
 |_::_,[],vs,t,e,d,h=>by cases d;exact h
 |p::ts,a::as,_,t,e,⟨v,ws,rfl,d1,d2⟩,h=>by
  have J:=h.put p d1;have aC:(⟨t,cS,a1,eK,J0⟩:aP).put (some p) v=⟨t.set p v,cS,a1,eK,J0⟩:=by
   rw[O4]
  rw[aC]at J;have:=c9.par (ts:=ts) (as:=as) (vs:=ws) d2 J;have e2:oJ (p::ts) (v::ws) t=oJ ts ws (t.set p v):=by
   show ao.iV (Nat.succ p) t p v (fun m=>oJ ts ws m)=_;rw[ao.zp]
  rw[e2];exact this
def asp(aA:fr.cS=[]){s:LoopState}{gM:am dv}{fn:ci}{t:ao be}{ps:ac Tmp}{a b:dm}{d:Nat}(aR:st.h.get l=some (.loop s gM fn t ps a b d)):re l (.out .norm fr st)= .ret (.bool true) ⟨st.h.set l (.loop .ready none fn t ps a b d),st.ai⟩ false:=by
 have e:re l (.out .norm fr st)=List.rec (motive:=fun _=>dh) (nk (st.h.get l) (fun _ _ fn t ps a b d=>st.hI l (.loop .ready none fn t ps a b d) fun st=>.ret (.bool true) st false) .no) (fun _ _ _=>.no) fr.cS:=rfl;rw[e,aA,aR];show(st.hI l (.loop .ready none fn t ps a b d) fun st=>dh.ret (.bool true) st false)=_;rw[ks]
section
variable{X:Ctx}{aZ:ao cM}{bY:ci->eY}{b4 n:Nat}{fn:ci}{b1:bC}{i0:ac Nat}{aK:ay}{Q:dv->cz->Prop}{K:ac eE}{own:ac bj}{aH:Nat}{e:bO}
def adU(aB:fl)(K:ac eE)(xs:ac bz)(d:am Tmp)(e:bO)(aH:Nat)(x:dv)(s:cz):Prop:=x= .norm∧∃bF f,f.length=aH∧Sub aH f s ⟨bF,aH,[]⟩∧aU.ok aB ⟨K,.o xs,⟨bF,aH,fj d (.b true) e⟩⟩
def ar6{mw:Nat}{oo:ci}{qm:ao be}{ps:ac Tmp}{dB body:dm}{pU e2:bO}{y:bi}{cq:ac bi}{as:ac aj}{d:am Tmp}{xs:ac bz}
 (hl:aK.h.get l=some (.loop .ready none oo qm ps dB body mw)) (p5:l<aK.ai) (hv:l∉i0) (e5:b1 l=none) (aW:c9 ⟨qm,[],none,false,some l⟩ b1 i0 pU)
 (aoH:∀H1 i1 s1,aU.ok ⟨b9 aZ (cg X bY) (n+1),n+1,oo,H1,i1,s1,fun x s=>x= .norm∧s=⟨own,aH,e2⟩⟩ ⟨[],.c dB,⟨own,aH,OW ps as pU⟩⟩)
 (aoI:∀H1 i1 s1,i1.length=own.length->du b1 H1->aU.ok ⟨b9 aZ (cg X bY) (n+1),n+1,oo,H1,i1,s1,adU ⟨b9 aZ (cg X bY) (n+2),b4,fn,b1,i0,aK,Q⟩ K xs d e aH⟩ ⟨[],.c body,⟨own,aH,e2⟩⟩)
 (aL:bu e y=some (.v (.func (.yield l) #[] #[])):=by rfl) (ha:kG e cq=some as:=by rfl) (hlen:as.length=ps.length:=by rfl):
 aU.ok ⟨b9 aZ (cg X bY) (n+2),b4,fn,b1,i0,aK,Q⟩ ⟨K,.o (⟨d,.call y cq,none⟩::xs),⟨own,aH,e⟩⟩:=by
 intro H ids st fr a0 aw ae;have a0:dN b1 i0 aK H ids st:=a0;have aA:=ae.ey ha;have gy:fr.ak y= .func (.yield l) #[] #[]:=ae.ak aL;have AV:l∉ids:=fun hm=>(a0.new l hm).elim hv (fun h=>by have h:aK.ai<=l:=h;omega);have M6:l<st.ai:=fM p5 a0.ai;have kl:st.h.get l=some (.loop .ready none oo qm ps dB body mw):=(a0.hA l p5 hv).trans hl;have DE:H l=none:=(a0.hold l p5 hv).trans e5;have HK:ids.length=aH:=aw.len;obtain⟨cC,dC,cu,g1,H1,XT,s1,o7,o8,uw,rfl,rfl⟩:=aoH H ids st H ids st ⟨oJ ps (ey fr cq) qm,[],none,false,some l⟩ (dN.refl _ _ _) aw ((aW.mono a0.hle a0.lI).par aA);have aC:ids=XT:=o7.lI.eq (HK.trans o8.len.symm);subst aC;have o7:dN H ids st H1 ids cu:=o7;have HB:cu.h.get l=some (.loop .ready none oo qm ps dB body mw):=(o7.hA l M6 AV).trans kl;have Hp:H1 l=none:=(o7.hold l M6 AV).trans DE;have kT:l<cu.ai:=fM M6 o7.ai;have ye:=o8.other kT AV Hp (.loop .busy none oo qm ps dB body mw);obtain⟨hD,wq,fk,bc,sz,sZ,vo,sP,rP,amB,rfl,bF,f,rT,Ed,ab⟩:=aoI H1 ids ⟨cu.h.set l (.loop .busy none oo qm ps dB body mw),cu.ai⟩ (o8.len.trans o8.cE.symm) (a0.hle.trans o7.hle) H1 ids _ dC (dN.refl _ _ _) ye uw;have amK:fk.h.get l=some (.loop .busy none oo qm ps dB body mw):=(sP.hA l kT AV).trans (ao.nP _ _ _);have alU:sz l=none:=(sP.hold l kT AV).trans Hp;have M3:l<fk.ai:=fM kT sP.ai;have yH:Sub ids.length f vo ⟨bF,aH,[]⟩:=by rw[HK];exact Ed
 have D8:=OZ (by omega) yH.Jd sP.lI;have DC:=yH.fit rP;have lA:=yH.bT rP sP;rw[D8]at DC lA;have lA:dN H1 ids ⟨cu.h.set l (.loop .busy none oo qm ps dB body mw),cu.ai⟩ sz ids fk:=lA;have alQ:=DC.other M3 AV alU (.loop .ready none oo qm ps dB body mw);have MI:b9 aZ (cg X bY) (n+2) (.func (.yield l) #[] #[]) (ey fr cq) none st= .ret (.bool true) ⟨fk.h.set l (.loop .ready none oo qm ps dB body mw),fk.ai⟩ false:=by
  have a3:b9 aZ (cg X bY) (n+2) (.func (.yield l) #[] #[]) (ey fr cq) none st=zG (b9 aZ (cg X bY) (n+1)) (n+1) l (ey fr cq) st:=rfl;rw[a3];unfold zG;rw[kl];show dQ (db (ey fr cq)) (db ps) _ _=_;rw[j0 (by rw[fg,fg,h9 aA,hlen]),g1];show B6 (b9 aZ (cg X bY) (n+1)) (n+1) l oo body dC cu=_;unfold B6;rw[HB];show(cu.hI l (.loop .busy none oo qm ps dB body mw) fun st=>re l (c1 (b9 aZ (cg X bY) (n+1)) (n+1) oo body dC st))=_;rw[ks,bc];exact asp amB.pl.cS amK
 refine su (v:=.bool true) (st':=⟨fk.h.set l (.loop .ready none oo qm ps dB body mw),fk.ai⟩) ?_ (ab sz ids _ _ ?_ alQ ((ae.mono (o7.hle.trans lA.hle) (da.refl _)).fj d rfl))
 ·rw[u9,gy];show nN (b9 aZ (cg X bY) (n+2) (.func (.yield l) #[] #[]) (ey fr cq) none st) _ _=_;rw[MI];rfl
 ·have hle:du H sz:=o7.hle.trans lA.hle;refine⟨a0.hle.trans hle,fun b hb af=> ?_,fun b hb af=> ?_,zag a0.ai (zag o7.ai lA.ai),a0.lI,a0.new⟩
  ·have hb:b<aK.ai:=hb;have AH:b∉ids:=fun hm=>(a0.new b hm).elim af (fun h=>by have h:aK.ai<=b:=h;omega);have hL:b<st.ai:=fM hb a0.ai;exact(lA.hold b (fM hL o7.ai) AH).trans ((o7.hold b hL AH).trans (a0.hold b hb af))
  ·have hb:b<aK.ai:=hb;have AH:b∉ids:=fun hm=>(a0.new b hm).elim af (fun h=>by have h:aK.ai<=b:=h;omega);have hL:b<st.ai:=fM hb a0.ai;show(ao.set fk.h l _).get b=aK.h.get b;by_cases ot:b=l
   ·subst ot;rw[ao.nP];exact hl.symm
   ·rw[ao.gf _ _ ot];refine(lA.hA b (fM hL o7.ai) AH).trans ?_;show(ao.set cu.h l _).get b=aK.h.get b;rw[ao.gf _ _ ot];exact(o7.hA b hL AH).trans (a0.hA b hb af)
def adP(Post:ac bj->Prop)(aH:Nat)(res:ac h6)(x:dv)(s:cz):Prop:=(x= .norm∨x= .ret)∧(∃r,Fin.tu s res=some r)∧∃bF f,f.length=aH∧Sub aH f s ⟨bF,aH,[]⟩∧Post bF
def avE(qQ:fr.b0=none)(aw:Fit H ids st own aH)(ae:c9 fr H ids e){f:bi}{ps:ac Tmp}{dB body:dm}{g:ci}{xf:cM}{caps:ac aj}(Post:ac bj->Prop)(aa:aZ.get g=some xf)(gv:bu e f=some (.fn (.func g) [] caps))(dw:bY g=eY.no)(Nf:caps.length+1<=xf.aJ)
 (aoK:∀(s1:ay) (l:Nat),ids.length=own.length->s1.h.get l=some (.loop .ready none fn fr.t ps dB body st.ai)->l<s1.ai->l∉ids->H l=none->c9 ⟨fr.t,[],none,false,some l⟩ H ids e->
  aU.ok ⟨b9 aZ (cg X bY) (n+2),n+2,g,H,ids,s1,adP Post aH xf.res⟩ ⟨[],.c xf.body,⟨own,aH,mA 0 (.v (.func (.yield l) #[] #[])::caps)⟩⟩):
 ∃aI st' bn bF,c1 (b9 aZ (cg X bY) (n+3)) b4 fn (.B5 f ps dB body) fr st= .out .norm aI st'∧aI.t=fr.t∧aI.cS={target:=.collected st.ai,args:= #[]}::fr.cS∧aI.cB=fr.cB∧
  dN H ids st bn ids st'∧Fit bn ids st' bF aH∧Post bF∧st'.h.get st.ai=some (.jI (some []))∧st.ai<st'.ai∧bn st.ai=none:=by
 obtain⟨vs,ws,aD,d1,d2⟩:=ae.ak gv;have d1:vs=[]:=d1;subst d1;have aN:∀b∈ids,b<st.ai:=aw.lt;have Mu:∀b,st.ai<=b->H b=none:=fun b hb=>by
  cases h:H b with
  |none=>rfl
  |some o=>have:=aw.aN h;omega
 have alR:=aw.extra (.jI (some []));have alS:=alR.extra (.loop .ready none fn fr.t ps dB body st.ai);have amT:=aoK ⟨(ao.set st.h st.ai (.jI (some []))).set (st.ai+1) (.loop .ready none fn fr.t ps dB body st.ai),st.ai+1+1⟩ (st.ai+1) (aw.len.trans aw.cE.symm) (show(ao.set (ao.set st.h st.ai (.jI (some []))) (st.ai+1) (.loop .ready none fn fr.t ps dB body st.ai)).get (st.ai+1)=_ from ao.nP _ _ _) (zbo _) (fun hm=>by have:=aN _ hm;omega) (Mu _ (zbb _)) ⟨⟨rfl,rfl,rfl⟩,ae.get⟩;have W2:de H (.v (.func (.yield (st.ai+1)) #[] #[])::caps) ids (.func (.yield (st.ai+1)) #[] #[]::ws):=⟨_,ws,rfl,rfl,d2⟩;obtain⟨v,fk,J,sz,sZ,vo,bF,Av,sP,rP,rT,Ed,ank⟩:=Ge (n:=n+2) (f:=g) (Post:=fun v st'=>∃(bn:bC) (c6:ac Nat) (s:cz) (bF:ac bj) (Av:ac Nat),dN H ids _ bn c6 st'∧Fit bn c6 st' s.own s.n∧Av.length=aH∧Sub aH Av s ⟨bF,aH,[]⟩∧Post bF)
  (by rw[h9 W2];exact Nf) ((amT H ids _ (eL _) (dN.refl _ _ _) alS (c9.zero W2)).mono (by
   rintro x dC cu ⟨bn,c6,s,cX,dp,ef,aa,⟨r,aE⟩,bF,Av,J,U,ag⟩;obtain⟨v,az,a4⟩:=Fk (call:=b9 aZ (cg X bY) (n+2)) dp ef aE;exact⟨aa,v,a4,bn,c6,s,bF,Av,cX,dp,J,U,ag⟩))
 have HK:ids.length=aH:=aw.len;have yH:Sub ids.length Av vo ⟨bF,aH,[]⟩:=by rw[HK];exact Ed
 have D8:=OZ (by omega) yH.Jd sP.lI;have DC:=yH.fit rP;have lA:=yH.bT rP sP;rw[D8]at DC lA;have lA:dN H ids ⟨(ao.set st.h st.ai (.jI (some []))).set (st.ai+1) (.loop .ready none fn fr.t ps dB body st.ai),st.ai+1+1⟩ sz ids fk:=lA;have awH:st.ai+1+1<=fk.ai:=lA.ai;have wI:∀b,st.ai<=b->b∉ids:=fun b hb hm=>by have:=aN _ hm;omega
 have DP:fk.h.get (st.ai+1)=some (.loop .ready none fn fr.t ps dB body st.ai):=(lA.hA _ (zbo _) (wI _ (zbb _))).trans (show(ao.set (ao.set st.h st.ai (.jI (some []))) (st.ai+1) (.loop .ready none fn fr.t ps dB body st.ai)).get (st.ai+1)=_ from ao.nP _ _ _);have AP:fk.h.get st.ai=some (.jI (some [])):=by
  refine(lA.hA st.ai (by show st.ai<st.ai+1+1;omega) (wI _ (b8 _))).trans ?_;show(ao.set _ (st.ai+1) _).get st.ai=_;rw[ao.gf _ _ (by omega),ao.nP]
 have DE:sz (st.ai+1)=none:=(lA.hold _ (zbo _) (wI _ (zbb _))).trans (Mu _ (zbb _));have alV:sz st.ai=none:=(lA.hold _ (by show st.ai<st.ai+1+1;omega) (wI _ (b8 _))).trans (Mu _ (b8 _));refine⟨⟨fr.t,{target:=.collected st.ai,args:= #[]}::fr.cS,fr.a1,fr.cB,fr.b0⟩,⟨fk.h.set (st.ai+1) (.loop .exhausted none fn fr.t ps dB body st.ai),fk.ai⟩,sz,bF,?_,rfl,rfl,rfl,?_,DC.other (by omega) (wI _ (zbb _)) DE _,ank,?_,by show st.ai<fk.ai;omega,alV⟩
 ·show Dr (b9 aZ (cg X bY) (n+3)) fn f ps dB body fr st=_;unfold Dr;rw[qQ,Sym.gK,gV,gV,aD,rD];have a3:fS (#[]:ap be).toList (fS [Value.func (.yield (st.ai+1)) #[] #[]] (⟨ws⟩:ap be).toList)=Value.func (.yield (st.ai+1)) #[] #[]::ws:=by simp
  show J1 _ _ (bk none _ (bk (cg X bY g (fS (#[]:ap be).toList (fS [Value.func (.yield (st.ai+1)) #[] #[]] (⟨ws⟩:ap be).toList)) _) _ (bk (aZ.get g) _ _)))=_;rw[a3,EZ dw,Sym.gK,Sym.gK,aa,Sym.en,J];show nk (fk.h.get (st.ai+1)) _ _=_;rw[DP];show(fk.hI (st.ai+1) (.loop .exhausted none fn fr.t ps dB body st.ai) fun st'=>bk none (fun e=>cm.out e _ st') (cm.out .norm _ st'))=_;rw[ks];rfl
 ·refine⟨lA.hle,fun b hb af=>lA.hold b (by show b<st.ai+1+1;omega) af,fun b hb af=> ?_,by show st.ai<=fk.ai;omega,da.refl _,fun b hb=>.inl hb⟩;show(ao.set fk.h (st.ai+1) _).get b=_;rw[ao.gf _ _ (by omega),lA.hA b (by show b<st.ai+1+1;omega) af];show(ao.set (ao.set st.h st.ai _) (st.ai+1) _).get b=_;rw[ao.gf _ _ (by omega),ao.gf _ _ (by omega)]
 ·show(ao.set fk.h (st.ai+1) _).get st.ai=_;rw[ao.gf _ _ (by omega)];exact AP
end
variable{b4:Nat}{a:dm}{dC:aP}{cu:ay}{b:dm}{r:Nat}{f:ci}{xf:cM}{el:ce}
def Kv{fn:ci}{Q:dv->aP->ay->Prop}(h:c1 call b4 fn a fr st= .out .norm dC cu)(k:W (c1 call b4 fn b dC cu) Q):W (c1 call b4 fn (.seq a b) fr st) Q:=by
 rw[G0,h];exact k
def asR{fn:ci}{lb:aP}{ch:ay}(h:c1 call b4 fn a fr st= .out .norm dC cu)(k:c1 call b4 fn b dC cu= .out .norm lb ch):c1 call b4 fn (.seq a b) fr st= .out .norm lb ch:=by
 rw[G0,h];exact k
def aeO{fn:ci}{i:Nat}(h:c1 call b4 fn a fr st= .out .norm dC cu):c1 call b4 fn (.block i a) fr st= .out .norm dC cu:=by
 rw[S5,h];rfl
def dN.other{b1:bC}{i0:ac Nat}{aK:ay}(h:dN b1 i0 aK H ids st)(aE:aK.ai<=r)(eI:bt):dN b1 i0 aK H ids ⟨st.h.set r eI,st.ai⟩:=⟨h.hle,h.hold,fun b hb af=>by
 show(ao.set st.h r eI).get b=_;rw[ao.gf _ _ (by omega)];exact h.hA b hb af,h.ai,h.lI,h.new⟩
def RJ{as:ac be}{Post:be->ay->Prop}(hl:as.length<=xf.aJ)
 (h:W (c1 call n f xf.body (eL as) st) (fun e fr cu=>(e= .norm∨e= .ret)∧∃v st',gl call xf.res none fr cu= .ret v st' false∧Post v st')):
 ∃v st',iX call n f xf as none st= .ret v st' false∧Post v st':=by
 obtain⟨e,fr,cu,J,he,v,st',U,ag⟩:=h;refine⟨v,st',?_,ag⟩;unfold iX;rw[oE,zab (by rw[fg];exact hl)];show cm.rec (motive:=fun _=>dh) _ _ (c1 call n f xf.body (eL as) st)=_;rw[J];rcases he with rfl|rfl
 ·exact U
 ·exact U
def ago{X:Ctx}{aZ:ao cM}(c5:Good X)(gJ:lU X aZ)(K:ci->eY)(aa:aZ.get f=some xf){S:Spec}(hl:∀l as st,S.pre l as st->as.length<=xf.aJ)
 (h:∀l as st,S.pre l as st->W (c1 (b9 aZ (cg X K) (bV+1)) (bV+1) f xf.body (eL as) st)
  (fun e fr cu=>(e= .norm∨e= .ret)∧∃v st',gl (b9 aZ (cg X K) (bV+1)) xf.res none fr cu= .ret v st' false∧S.post l as st v st')):bl X f S:=by
 intro as st ⟨l,hp⟩;obtain⟨v,st',J,U⟩:=RJ (Post:=S.post l as st) (hl l as st hp) (h l as st hp);refine⟨v,st',fun l' iR=> ?_,PM c5 gJ aa J⟩;obtain⟨v2,ch,g1,aM⟩:=RJ (Post:=S.post l' as st) (hl l' as st iR) (h l' as st iR);rw[J]at g1;cases g1;exact aM
def aih{t:Nat}(aA:fr.cS=[{target:=.collected r,args:= #[]}])(aW:fr.cB=false)(aE:st.h.get r=some (.jI (some []))):gl call [.tmp t] none fr st= .ret (fr.tmp t) ⟨st.h.set r (.jI none),st.ai⟩ false:=by
 have e:jD call fr.cS none st=some (none,⟨st.h.set r (.jI none),st.ai⟩):=by
  rw[aA];simp only[jD,aE];rw[ks]
 unfold gl;rw[e,aW];rfl
def arM{aB:fl}{K:ac eE}{own bF:ac bj}{aH:Nat}{e:bO}{p:ac bz}(k:Nat){cs:ac aj}(cs':ac aj)(hl:hV cs cs')(b5:aU.ok aB ⟨K,.o p,⟨bF,aH,e⟩⟩)(ab:own[k]? =some (.c el cs):=by rfl)(al:jk own k (.c el cs') some=some bF:=by rfl):aU.ok aB ⟨K,.o p,⟨own,aH,e⟩⟩:=fun H ids st fr a0 aw ae=>by
 have:=kc al;cases this;refine b5 H ids st fr a0 ⟨aw.wf,aw.le,by simp[aw.cE],aw.len,aw.c8,aw.lt,?_⟩ ae;intro j q c hj hc;by_cases je:k=j
 ·subst je;rw[zaQ,zab rfl]at hj;split at hj<;>cases hj;obtain⟨⟨vs,ag,az⟩,cl⟩:=aw.own k _ c ab hc;exact⟨⟨vs,ag,hl.den az⟩,fun _=>cl rfl⟩
 ·rw[zaQ,zaa je]at hj;exact aw.own j q c hj hc
def aua{s:cz}{x:bi}{k z p q:Nat}{α:Type}{R:α->ac aj}{l:ac α}{aQ af:am bi}(aa:bu s.env x=some (.p k 0))(ab:s.own[k]? =some (.a el false z α R l))(gU:fO s aQ 0 p)(ht:fO s af n q)(hp:p<=q)(hq:q<=n):gq call (.Ce n z x aQ af none) s (.a5 k z (if n=p then 0 else p) (q-p) (n-p)) s.own s.n:=ln fun H ids st fr aw ae=>by
 obtain⟨b,J,U⟩:=ae.ak aa;obtain⟨vs,bc,cf,cL⟩:=qp aw ab J;refine⟨_,⟨b,J,rfl⟩,?_⟩;show BI n z x aQ af none call fr st=_;unfold BI ay.gC;rw[U,n7,Sym.en,Sym.gK,bc,kA,cond_false,CW,fO.ak ht ae hq,fO.ak gU ae hp];congr 2;by_cases nU:n=p
 ·subst nU;rw[j0 rfl,zab rfl,zau]
 ·rw[sM nU,pJ,zaC,zaa nU];rfl
section
variable{aB:fl}{K:ac eE}{own:ac bj}{aH:Nat}{e:bO}{d:Tmp}{xs:ac bz}{x y:bi}
variable{z:Nat}
def arX{α:Type}{R:α->ac aj}{l:ac α}{neg:Bool}(ba:aU.ok aB ⟨K,.o xs,⟨own,aH,(d,.b neg)::e⟩⟩)(bx:l=[]->aU.ok aB ⟨K,.o xs,⟨own,aH,(d,.b (!neg))::e⟩⟩)(aa:bu e x=some (.cc z α R l):=by rfl)(aL:bu e y=some .nl:=by rfl):
 aU.ok aB ⟨K,.o (⟨some d,.eqv neg .lk x y,none⟩::xs),⟨own,aH,e⟩⟩:=fun H ids st fr a0 aw ae=>by
 have U:fr.ak y= .slice none 0 0:=ae.ak aL;have ag:den H (.cc z α R l) ids (fr.ak x):=ae.ak aa;rcases ag with⟨hn,J⟩|⟨b,o,c,vs,el,bg,a8,J,_⟩
 ·have aC:bK aB.call (.eqv neg .lk x y) fr st= .ok (.bool (!neg)) fr st:=by
   have e:bK aB.call (.eqv neg .lk x y) fr st=bk (pX (fr.ak x) (fr.ak y)) (fun b=>.ok (.bool (cond neg (!b) b)) fr st) .no:=rfl;rw[e,J,U];cases neg<;>rfl
  exact su aC (bx hn H ids st _ a0 aw (ae.fj (some d) rfl))
 ·have aC:bK aB.call (.eqv neg .lk x y) fr st= .ok (.bool neg) fr st:=by
   have e:bK aB.call (.eqv neg .lk x y) fr st=bk (pX (fr.ak x) (fr.ak y)) (fun b=>.ok (.bool (cond neg (!b) b)) fr st) .no:=rfl;rw[e,J,U];cases neg<;>rfl
  exact su aC (ba H ids st _ a0 aw (ae.fj (some d) rfl))
def abc{g j:Nat}{b5:d7}{vs:ac be}{bg:Nat×Nat}{a8:Bool}{cs:ac aj}(aR:aB.b1 g=some (.cells vs el bg a8))(aA:∀H,de H cs [] vs)(k:aU.ok aB ⟨K,.o xs,⟨own,aH,(d,.ip (cs.drop (j*z)))::e⟩⟩)(aa:bu e x=some (.v (.pointer (some ⟨g,0,none⟩))):=by rfl)(af:bu e y=some (.i b5 (j:Int)):=by rfl)(hj:j<n:=by omega):aU.ok aB ⟨K,.o (⟨some d,.qU n z x y,none⟩::xs),⟨own,aH,e⟩⟩:=
 BY (d:=some d) (XN (call:=aB.call) (s:=⟨own,aH,e⟩) (z:=z) aa aR aA af hj) k
end
def aeZ{X:Ctx}{aZ:ao cM}{bY:ci->eY}{g:ci}{S:bD}(hc:bl X g S.spec)(dw:bY g=S.spec.K){s:cz}{f:bi}{cq:ac bi}{as bB cs:ac aj}(l:S.L)(uv:bu s.env f=some (.fn (.func g) bB cs))(ha:kG s.env cq=some as)(kE:hQ (bB++(as++cs))=true)(he:hV (bB++(as++cs)) (S.args l))(hp:S.pre l){b1:bC}(hh:S.hp b1):
 xI b1 (b9 aZ (cg X bY) (n+1)) (.call f cq) s (S.res l) s.own s.n:=fun H ids st fr e5 aw ae=>by
 have uw:den H (.fn (.func g) bB cs) ids (fr.ak f):=ae.ak uv;obtain⟨vs,ws,aD,d1,d2⟩:=uw;have aA:=he.den (o2 _ kE (Ae d1 (Ae (ae.ey ha) d2)) []);obtain⟨v,st',J,U⟩:=hc _ st ⟨(l,H),hp,S.hm e5 hh,aw.less,aA⟩;obtain⟨v1,cu,g1,aM⟩:=I8 (X:=X) (K:=bY) (f:=g) ⟨v,st',by rw[dw];exact J,U⟩;rw[dw]at aM;obtain⟨bn,dp,cX,hH⟩:=aM (l,H) ⟨hp,S.hm e5 hh,aw.less,aA⟩;have bc:b9 aZ (cg X bY) (n+1) (fr.ak f) (ey fr cq) none st= .ret v1 cu false:=by
  rw[aD,rD];have e:fS (⟨vs⟩:ap be).toList (fS (ey fr cq) (⟨ws⟩:ap be).toList)=vs++(ey fr cq++ws):=by simp
  rw[e,g1];rfl
 have hle:du H bn:=cX.hle;refine⟨v1,cu,ids,bn,?_,?_,ub (du.refl _) _ (da.nil _) hH,hle,da.refl _,?_,cX.ai,fun b hb _=>cX.hA b hb (by simp)⟩
 ·rw[u9];rw[bc];rfl
 ·refine⟨dp.wf,dp.le,aw.cE,aw.len,aw.c8,fun b hb=>fM (aw.lt b hb) cX.ai,fun k o b ab hb=> ?_⟩;obtain⟨ag,az⟩:=aw.own k o b ab hb;have aN:=aw.lt b (zav hb);rw[cX.hA b aN (by simp)];exact⟨v9 hle (da.refl _) ag,fun hl=>by rw[cX.hold b aN (by simp)];exact az hl⟩
 ·intro b1 i0 aK B;refine⟨B.hle.trans hle,fun b hb hn=> ?_,fun b hb hn=> ?_,zag B.ai cX.ai,B.lI,B.new⟩
  ·rw[cX.hold b (fM hb B.ai) (by simp)];exact B.hold b hb hn
  ·rw[cX.hA b (fM hb B.ai) (by simp)];exact B.hA b hb hn
section
variable{X:Ctx}{aZ:ao cM}{bY:ci->eY}{b4 n:Nat}{fn:ci}{b1:bC}{i0:ac Nat}{aK:ay}{Q:dv->cz->Prop}{K:ac eE}{own:ac bj}{aH:Nat}{e:bO}
def vi{g:ci}{S:bD}(hc:bl X g S.spec){f:bi}{cq:ac bi}{as bB cs:ac aj}{d:Tmp}{xs:ac bz}(l:S.L)(hp:S.pre l)(k:aU.ok ⟨b9 aZ (cg X bY) (n+1),b4,fn,b1,i0,aK,Q⟩ ⟨K,.o xs,⟨own,aH,(d,S.res l)::e⟩⟩)
 (ae:bu e f=some (.fn (.func g) bB cs):=by rfl) (ha:kG e cq=some as:=by rfl) (he:hV (bB++(as++cs)) (S.args l):=by exact hV.refl _) (kE:hQ (bB++(as++cs))=true:=by rfl) (dw:bY g=S.spec.K:=by rfl) (hh:S.hp b1:=by exact trivial):
 aU.ok ⟨b9 aZ (cg X bY) (n+1),b4,fn,b1,i0,aK,Q⟩ ⟨K,.o (⟨some d,.call f cq,none⟩::xs),⟨own,aH,e⟩⟩:=BY (d:=some d) (s:=⟨own,aH,e⟩) (aeZ hc dw l ae ha kE he hp hh) k
end
section
variable{aB:fl}{K:ac eE}{own bF:ac bj}{aH:Nat}{e:bO}
variable{k:Nat}{cs:ac aj}
def aiz{t:Nat}(aW:eb e t=some (.p k 0))(ab:own[k]? =some (.c el cs))(hp:hQ cs=true)
 {H:bC} {ids:ac Nat} {st:ay} {fr:aP} (a0:dN aB.b1 aB.i0 aB.aK H ids st) (aw:Fit H ids st own aH) (ae:c9 fr H ids e):
 ∃bn,dN aB.b1 aB.i0 aB.aK bn ids st∧Fit bn ids st (own.set k .x) aH∧c9 fr bn ids ((t,.ip cs)::e):=by
 obtain⟨b,g1,aM⟩:=ae.get t _ aW;obtain⟨⟨vs,bc,d⟩,_⟩:=aw.own k _ b ab g1;have hle:=Ay aw ab rfl g1;refine⟨j1 H st b,a0.j1 aw ab rfl g1,aw.j1 ab rfl g1,(ae.mono hle (da.refl _)).pl,fun j q hj=> ?_⟩;rw[r8]at hj;cases hb:Nat.beq t j with
 |false=>rw[hb]at hj;exact(ae.mono hle (da.refl _)).get j q hj
 |true=>
  rw[hb]at hj;cases hj;rw[<-dD hb];refine⟨b,0,vs,el,(0,0),_,aM,by unfold j1;rw[zab rfl];exact bc,?_⟩;have hl:=h9 d;rw[zap,zas (by omega)];exact my hle _ (da.refl _) (o2 _ hp d [])
def aba(t:Nat){p:ac bz}(b5:aU.ok aB ⟨K,.o p,⟨bF,aH,(t,.ip cs)::e⟩⟩)(aW:eb e t=some (.p k 0):=by rfl)(ab:own[k]? =some (.c el cs):=by rfl)(hp:hQ cs=true:=by rfl)(al:jk own k .x some=some bF:=by rfl):aU.ok aB ⟨K,.o p,⟨own,aH,e⟩⟩:=by
 have J:=kc al;cases J;exact fun H ids st fr a0 aw ae=>let⟨bn,J,U,ag⟩:=aiz aW ab hp a0 aw ae;b5 bn ids st fr J U ag
end
end Go.ar
namespace Go.ar
open Sym
variable{X:Ctx}
end Go.ar
namespace Go.ar
open Sym
section
variable{aB:fl}{K:ac eE}{own bF bA g8:ac bj}{aH bd ca back:Nat}{e a3:bO}{d:Tmp}{ts:ac Tmp}{xs:ac bz}{av:ac (bz×cw)}{x y:bi}
variable{c:bb}
variable{P:Prop}{a b:Bool}{aA:Decidable P}
def v1(t:Nat)(h:P)(k:aU.ok aB ⟨K,c,⟨own,aH,(t,.b true)::e⟩⟩)(hl:eb e t=some (.b (decide P)):=by rfl)(hc:c.wR=false:=by rfl):aU.ok aB ⟨K,c,⟨own,aH,e⟩⟩:=ax t (.b true) hl (by rw[zac h]) k hc
def v0(t:Nat)(h:¬P)(k:aU.ok aB ⟨K,c,⟨own,aH,(t,.b false)::e⟩⟩)(hl:eb e t=some (.b (decide P)):=by rfl)(hc:c.wR=false:=by rfl):aU.ok aB ⟨K,c,⟨own,aH,e⟩⟩:=ax t (.b false) hl (by rw[zad h]) k hc
def g3(t:Nat)(h:a=b)(k:aU.ok aB ⟨K,c,⟨own,aH,(t,.b b)::e⟩⟩)(hl:eb e t=some (.b a):=by rfl)(hc:c.wR=false:=by rfl):aU.ok aB ⟨K,c,⟨own,aH,e⟩⟩:=ax t (.b b) hl (by rw[h]) k hc
def e8(t:Nat){a:Int}(b:Int)(k:aU.ok aB ⟨K,c,⟨own,aH,(t,.i .i64 b)::e⟩⟩)(hl:eb e t=some (.i .i64 (IntKind.i64.wrap a)):=by rfl)(h:a=b:=by omega)(J: -9223372036854775808<=a:=by omega)(U:a<9223372036854775808:=by omega)(hc:c.wR=false:=by rfl):aU.ok aB ⟨K,c,⟨own,aH,e⟩⟩:=ax t (.i .i64 b) hl (ct h J U) k hc
def e9(t:Nat)(h:P)(k:aU.ok aB ⟨K,.d av bA ((t,.b true)::a3) bd ca,⟨own,aH,(t,.b true)::e⟩⟩)(hl:eb e t=some (.b (decide P)):=by rfl)(h0:eb a3 t=some (.b (decide P)):=by rfl):aU.ok aB ⟨K,.d av bA a3 bd ca,⟨own,aH,e⟩⟩:=di t (.b true) hl h0 (by rw[zac h]) k
def hK(t:Nat)(h:¬P)(k:aU.ok aB ⟨K,.d av bA ((t,.b false)::a3) bd ca,⟨own,aH,(t,.b false)::e⟩⟩)(hl:eb e t=some (.b (decide P)):=by rfl)(h0:eb a3 t=some (.b (decide P)):=by rfl):aU.ok aB ⟨K,.d av bA a3 bd ca,⟨own,aH,e⟩⟩:=di t (.b false) hl h0 (by rw[zad h]) k
def adp(t:Nat)(h:a=b)(k:aU.ok aB ⟨K,.d av bA ((t,.b b)::a3) bd ca,⟨own,aH,(t,.b b)::e⟩⟩)(hl:eb e t=some (.b a):=by rfl)(h0:eb a3 t=some (.b a):=by rfl):aU.ok aB ⟨K,.d av bA a3 bd ca,⟨own,aH,e⟩⟩:=di t (.b b) hl h0 (by rw[h]) k
def ww(t:Nat){a:Int}(b:Int)(k:aU.ok aB ⟨K,.d av bA ((t,.i .i64 b)::a3) bd ca,⟨own,aH,(t,.i .i64 b)::e⟩⟩)(hl:eb e t=some (.i .i64 (IntKind.i64.wrap a)):=by rfl)(h:a=b:=by omega)(J: -9223372036854775808<=a:=by omega)(U:a<9223372036854775808:=by omega)(h0:eb a3 t=some (.i .i64 (IntKind.i64.wrap a)):=by rfl):aU.ok aB ⟨K,.d av bA a3 bd ca,⟨own,aH,e⟩⟩:=di t (.i .i64 b) hl h0 (ct h J U) k
end
end Go.ar
namespace Go.ar
open Sym
variable{X:Ctx}
def fi{p:Prop}(h:p):¬¬p:=fun k=>k h
mutual
def Mb(k z n:Nat)(b:aj):aj->aj
 |.a5 k' zI o ck c=>match Nat.beq k k'&&(Nat.beq z zI&&(Nat.beq 0 o&&(Nat.beq n ck&&Nat.beq n c)))with
  |true=>b
  |false=>.a5 k' zI o ck c
 |.agg cs=>.agg (Ax k z n b cs)
 |.bP cs=>.bP (Ax k z n b cs)
 |.fn f bB cs=>.fn f bB cs
 |.p k o=>.p k o
 |.gX k z j o=>.gX k z j o
 |.i k n=>.i k n
 |.b t=>.b t
 |.s l=>.s l
 |.nl=>.nl
 |.v x=>.v x
 |.cc z α R l=>.cc z α R l
 |.jP z α R l=>.jP z α R l
 |.a6 z α R l=>.a6 z α R l
 |.ip cs=>.ip cs
 |.bad=>.bad
def Ax(k z n:Nat)(b:aj):ac aj->ac aj
 |[]=>[]
 |a::as=>Mb k z n b a::Ax k z n b as
end
mutual
theorem aix{H:bC}{ids:ac Nat}{k z n:Nat}{b:aj}(hb:∀v,den H (.a5 k z 0 n n) ids v->den H b ids v):∀(a:aj) {v:be},den H a ids v->den H (Mb k z n b a) ids v
 |.a5 k' zI o ck c,v,d=>by
  unfold Mb;split
  ·rename_i h;simp only[bW]at h;obtain⟨J,U,ag,az,a4⟩:=h;have:=dD J;have:=dD U;have:=dD ag;have:=dD az;have:=dD a4
   subst_vars
   exact hb v d
  ·exact d
 |.agg cs,_,⟨vs,e,d⟩=>⟨vs,e,Hb hb cs d⟩
 |.bP cs,_,⟨vs,e,d⟩=>⟨vs,e,Hb hb cs d⟩
 |.fn _ _ _,_,d=>d
 |.p _ _,_,d=>d
 |.gX _ _ _ _,_,d=>d
 |.i _ _,_,d=>d
 |.b _,_,d=>d
 |.s _,_,d=>d
 |.nl,_,d=>d
 |.v _,_,d=>d
 |.cc _ _ _ _,_,d=>d
 |.jP _ _ _ _,_,d=>d
 |.a6 _ _ _ _,_,d=>d
 |.ip _,_,d=>d
 |.bad,_,d=>d
theorem Hb{H:bC}{ids:ac Nat}{k z n:Nat}{b:aj}(hb:∀v,den H (.a5 k z 0 n n) ids v->den H b ids v):∀(a:ac aj) {v:ac be},de H a ids v->de H (Ax k z n b a) ids v
 |[],_,d=>d
 |a::as,_,⟨v,ws,e,d1,d2⟩=>⟨v,ws,e,aix hb a d1,Hb hb as d2⟩
end
end Go.ar
namespace Go.ar
open Sym
section
variable{aB:fl}{K:ac eE}{own bF g8:ac bj}{aH:Nat}{e:bO}
def JT{p:dm}{s:cz}(h:aU.ok aB ⟨.seq p::K,.o [],s⟩):aU.ok aB ⟨K,.c p,s⟩:=fun H ids st fr a0 aw ae=>by
 obtain⟨x,f1,s1,g1,bn,iz,bq,J,U,ag,az⟩:=h H ids st fr a0 aw ae;have g1:cm.out .norm fr st= .out x f1 s1:=g1;cases g1;exact az bn iz st fr J U ag
def xm(j k:Nat){z:Nat}{el Al:ce}{a8:Bool}{α:Type}{R:α->ac aj}{l:ac α}{cs cs':ac aj}{p:ac bz}(b5:aU.ok aB ⟨K,.o p,⟨bF,aH,e⟩⟩)(hj:own[j]? =some (.c Al cs):=by rfl)(ab:own[k]? =some (.a el a8 z α R l):=by rfl)(ha:Ax k z l.length (.cc z α R l) cs=cs':=by rfl)(hp:∀x,hQ (R x)=true:=by exact fun _=>rfl)
 (je:j≠k:=by decide) (kD:jk own k .x some=some g8:=by rfl) (al:jk g8 j (.c Al cs') some=some bF:=by rfl):aU.ok aB ⟨K,.o p,⟨own,aH,e⟩⟩:=fun H ids st fr a0 aw ae=>by
 have J:=kc kD;cases J;have U:=kc al;cases U;have MY:k<ids.length:=by rw[aw.len,<-aw.cE];exact(zaf.1 ab).1
 obtain⟨b,g1⟩:∃b,ids[k]? =some b:=⟨_,bm MY⟩;obtain⟨⟨vs,bc,cf,cL⟩,_⟩:=aw.own k _ b ab g1;have hle:=Ay aw ab rfl g1;have rm:=aw.j1 ab rfl g1;refine b5 (j1 H st b) ids st fr (a0.j1 aw ab rfl g1) ⟨rm.wf,rm.le,by rw[zbV];exact rm.cE,rm.len,rm.c8,rm.lt,fun i o c af hc=> ?_⟩ (ae.mono hle (da.refl _));rw[zaQ]at af;by_cases mK:j=i
 ·subst mK;rw[zab rfl]at af;split at af<;>cases af;have nc:(own.set k .x)[j]? =some (.c Al cs):=by rw[zaQ,zaa (fun h=>je h.symm)];exact hj
  obtain⟨⟨ws,cv,cF⟩,dU⟩:=rm.own j _ c nc hc;refine⟨⟨ws,cv,?_⟩,fun _=>dU rfl⟩;rw[<-ha];refine Hb (fun v aD=> ?_) cs cF;obtain⟨eW,n1,qj⟩:=aD;rw[g1]at n1;cases n1;refine .inr ⟨b,0*z,l.length,vs,el,(0,0),a8,qj,zaK _,by unfold j1;rw[zab rfl];exact bc,fun i x aa=> ?_⟩;rw[zau,zaC];exact my hle _ (da.refl _) (o2 _ (hp x) (cL _ x aa) [])
 ·rw[zaa mK]at af;exact rm.own i o c af hc
end
section
variable{aB:fl}{K:ac eE}
def tZ(t:Nat){a:aj}(b:aj){own bA:ac bj}{aH bd ca:Nat}{e a3:bO}{l:ac (bz×cw)}(h:eb e t=some a)(h0:eb a3 t=some a)(ib:bS a b)(b5:aU.ok aB ⟨K,.d l bA ((t,b)::a3) bd ca,⟨own,aH,(t,b)::e⟩⟩):aU.ok aB ⟨K,.d l bA a3 bd ca,⟨own,aH,e⟩⟩:=
 fun c0 hG H ids st fr fP ah a0 aw aG cp=>b5 c0 hG H ids st fr fP ah a0 aw (oD h ib aG) ⟨cp.len,cp.hle,(oD (fr:=fr) h0 ib ⟨aG.pl,cp.eL⟩).get,cp.qf,cp.w1,cp.bA,cp.old,cp.top⟩
end
set_option maxRecDepth 10000
inductive Cw where
 |ret (a:aj)
 |a1 (v:Value)
structure PP where
 L:Type
 args:L->ac aj
 pre:L->Prop
 out:L->Cw
 hp:bC->Prop:=fun _=>True
 hm:∀{H bn:bC},du H bn->hp H->hp bn:=by exact fun _ _=>trivial
def PP.spec(S:PP):xN where
 L:=S.L×bC
 pre:=fun l vs st=>S.pre l.1∧S.hp l.2∧Fit l.2 [] st [] 0∧de l.2 (S.args l.1) [] vs
 post:=fun l vs st v st'=>∃a bn,S.out l.1= .ret a∧Fit bn [] st' [] 0∧dN l.2 [] st bn [] st'∧den bn a [] v
 BL:=fun l vs st v st'=>∃bn,S.out l.1= .a1 v∧Fit bn [] st' [] 0∧dN l.2 [] st bn [] st'
def FQ(S:PP)(l:S.L)(res:ac h6)(x:dv)(s:cz):Prop:=
 ((x= .norm∨x= .ret)∧∃r a,Fin.tu s res=some r∧pt r=true∧S.out l= .ret a∧bS r a)∨∃v,x= .a1 v∧S.out l= .a1 v
variable{S:PP}{s:cz}{v:be}{l:S.L}
def G6{res:ac h6}{r a:aj}{e:dv}(J:Fin.tu s res=some r)(U:pt r=true)(ag:S.out l= .ret a)(az:bS r a)(he:e= .ret∨e= .norm:=by first|exact .inl rfl|exact .inr rfl):FQ S l res e s:=.inl ⟨he.symm,r,a,J,U,ag,az⟩
def wk{res:ac h6}(h:S.out l= .a1 v):FQ S l res (.a1 v) s:=.inr ⟨v,rfl,h⟩
def Ti{call:bG}{res:ac h6}{fr:aP}{st:ay}(hp:vK fr):gl call res (some v) fr st= .a1 v st false:=by
 unfold gl;rw[hp.cS,hp.cB];simp only[jD];rfl
section
variable{X:Ctx}{aZ:ao cM}{bY:ci->eY}
def ags(c5:Good X)(gJ:lU X aZ)(bY:ci->eY){f:ci}{xf:cM}(aa:aZ.get f=some xf)(hl:∀l,(S.args l).length<=xf.aJ)
 (h:∀l,S.pre l->∀H aK,S.hp H->aU.ok ⟨b9 aZ (cg X bY) (bV+1),bV+1,f,H,[],aK,FQ S l xf.res⟩ ⟨[],.c xf.body,⟨[],0,mA 0 (S.args l)⟩⟩):oV X f S.spec:=by
 refine agp c5 gJ bY aa (fun l vs st ⟨_,_,_,d⟩=>by rw[h9 d];exact hl l.1) ?_;rintro⟨l,H⟩ vs st ⟨hp,hh,aw,d⟩;refine(h l hp H st hh H [] st (eL vs) (dN.refl _ _ _) aw (c9.zero d)).mono ?_;rintro x fr st' ⟨bn,ids,s,a0,dp,ae,aa⟩;rcases aa with⟨aa,r,a,J,U,al,hle⟩|⟨v,rfl,al⟩
 ·obtain⟨v,ag,az⟩:=Fk (call:=b9 aZ (cg X bY) (bV+1)) dp ae J;exact .inl ⟨aa,v,az,a,bn,al,dp.less,a0.less,hle _ _ _ (Db _ U ag _)⟩
 ·exact .inr ⟨v,rfl,Ti ae.pl,bn,al,dp.less,a0.less⟩
def Tl{H bn:bC}{ids:ac Nat}{st st':ay}{own:ac bj}{n:Nat}(aw:Fit H ids st own n)(dp:Fit bn [] st' [] 0)(cX:dN H [] st bn [] st'):
 Fit bn ids st' own n∧∀b1 i0 aK,dN b1 i0 aK H ids st->dN b1 i0 aK bn ids st':=by
 have hle:du H bn:=cX.hle;refine⟨⟨dp.wf,dp.le,aw.cE,aw.len,aw.c8,fun b hb=>fM (aw.lt b hb) cX.ai,fun k o b ab hb=> ?_⟩,fun b1 i0 aK B=>⟨B.hle.trans hle,fun b hb hn=> ?_,fun b hb hn=> ?_,zag B.ai cX.ai,B.lI,B.new⟩⟩
 ·obtain⟨ag,az⟩:=aw.own k o b ab hb;have aN:=aw.lt b (zav hb);rw[cX.hA b aN (by simp)];exact⟨v9 hle (da.refl _) ag,fun hl=>by rw[cX.hold b aN (by simp)];exact az hl⟩
 ·rw[cX.hold b (fM hb B.ai) (by simp)];exact B.hold b hb hn
 ·rw[cX.hA b (fM hb B.ai) (by simp)];exact B.hA b hb hn
def KN(b1:bC)(call:bG)(o:dd)(s:cz)(v:be):Prop:=
 ∀(H:bC) (ids:ac Nat) (st:ay) (fr:aP),du b1 H->Fit H ids st s.own s.n->c9 fr H ids s.env->
  ∃st' bn,bK call o fr st= .a1 v st'∧Fit bn ids st' s.own s.n∧du H bn∧∀b1 i0 aK,dN b1 i0 aK H ids st->dN b1 i0 aK bn ids st'
variable{g:ci}{cq:ac bi}{as:ac aj}{n:Nat}{b1:bC}
def RR(hc:oV X g S.spec)(dw:bY g=S.spec.K)(l:S.L)(ha:kG s.env cq=some as)(kE:hQ as=true)(he:hV as (S.args l))(hp:S.pre l)(hh:S.hp b1)
 {H:bC} {ids:ac Nat} {st:ay} {fr:aP} (e5:du b1 H) (aw:Fit H ids st s.own s.n) (ae:c9 fr H ids s.env):
 ∃v st' bn,Fit bn [] st' [] 0∧dN H [] st bn [] st'∧((∃a,S.out l= .ret a∧den bn a [] v∧bK (b9 aZ (cg X bY) (n+1)) (.call (.func g) cq) fr st= .ok v fr st')∨(S.out l= .a1 v∧bK (b9 aZ (cg X bY) (n+1)) (.call (.func g) cq) fr st= .a1 v st')):=by
 have aA:=he.den (o2 _ kE (ae.ey ha) []);have rX:S.spec.pre (l,H) (ey fr cq) st:=⟨hp,S.hm e5 hh,aw.less,aA⟩;have yp:=aqI (X:=X) (K:=bY) (f:=g) (as:=ey fr cq) (st:=st) (by rw[dw];exact hc _ st ⟨(l,H),rX⟩);rw[dw]at yp;have e:fS (#[]:ap be).toList (fS (ey fr cq) (#[]:ap be).toList)=ey fr cq:=by simp
 rcases yp with⟨v1,cu,g1,aM⟩|⟨v1,cu,g1,aM⟩
 ·obtain⟨a,bn,al,dp,cX,hH⟩:=aM (l,H) rX;have bc:b9 aZ (cg X bY) (n+1) (.func (.func g) #[] #[]) (ey fr cq) none st= .ret v1 cu false:=by
   rw[rD,e,g1];rfl
  refine⟨v1,cu,bn,dp,cX,.inl ⟨a,al,hH,?_⟩⟩;rw[u9];show nN (b9 aZ (cg X bY) (n+1) (.func (.func g) #[] #[]) (ey fr cq) none st) _ _=_;rw[bc];rfl
 ·obtain⟨bn,al,dp,cX⟩:=aM (l,H) rX;have bc:b9 aZ (cg X bY) (n+1) (.func (.func g) #[] #[]) (ey fr cq) none st= .a1 v1 cu false:=by
   rw[rD,e,g1];rfl
  refine⟨v1,cu,bn,dp,cX,.inr ⟨al,?_⟩⟩;rw[u9];show nN (b9 aZ (cg X bY) (n+1) (.func (.func g) #[] #[]) (ey fr cq) none st) _ _=_;rw[bc];rfl
def RS(hc:oV X g S.spec)(dw:bY g=S.spec.K)(l:S.L)(ha:kG s.env cq=some as)(kE:hQ as=true)(he:hV as (S.args l))(hp:S.pre l)(hh:S.hp b1){a:aj}(al:S.out l= .ret a):
 xI b1 (b9 aZ (cg X bY) (n+1)) (.call (.func g) cq) s a s.own s.n:=fun H ids st fr e5 aw ae=>by
 obtain⟨v,st',bn,dp,cX,h⟩:=RR (n:=n) hc dw l ha kE he hp hh e5 aw ae;rcases h with⟨a',hx,hH,hM⟩|⟨hx,_⟩
 ·rw[al]at hx;cases hx;obtain⟨J,U⟩:=Tl aw dp cX;exact⟨v,st',ids,bn,hM,J,ub (du.refl _) _ (da.nil _) hH,cX.hle,da.refl _,U,cX.ai,fun b hb _=>cX.hA b hb (by simp)⟩
 ·rw[al]at hx;cases hx
def RT(hc:oV X g S.spec)(dw:bY g=S.spec.K)(l:S.L)(ha:kG s.env cq=some as)(kE:hQ as=true)(he:hV as (S.args l))(hp:S.pre l)(hh:S.hp b1)(al:S.out l= .a1 v):
 KN b1 (b9 aZ (cg X bY) (n+1)) (.call (.func g) cq) s v:=fun H ids st fr e5 aw ae=>by
 obtain⟨v',st',bn,dp,cX,h⟩:=RR (n:=n) hc dw l ha kE he hp hh e5 aw ae;rcases h with⟨a',hx,hH,hM⟩|⟨hx,hM⟩
 ·rw[al]at hx;cases hx
 ·rw[al]at hx;cases hx;obtain⟨J,U⟩:=Tl aw dp cX;exact⟨st',bn,hM,J,cX.hle,U⟩
end
section
variable{aB:fl}{K:ac eE}{s:cz}
variable{xs:ac bz}{d:am Tmp}{x:bi}{t:ce}{aH:Nat}{e:bO}
def abd{o:dd}(h:KN aB.b1 aB.call o s v)(hc:o.k7=true)(k:aU.ok aB ⟨K,.x (.a1 v),s⟩):aU.ok aB ⟨K,.o (⟨d,o,none⟩::xs),s⟩:=by
 intro H ids st fr a0 aw ae;obtain⟨st',bn,J,U,ag,az⟩:=h H ids st fr a0.hle aw ae;refine⟨.a1 v,fr,st',?_,bn,ids,s,az _ _ _ a0,U,ae.mono ag (da.refl _),k⟩;show u7 (bK aB.call o fr st) _ (fun v st=>cond o.k7 (.out (.a1 v) fr st) .no)=_;rw[J];show cond o.k7 _ _=_;rw[hc];rfl
def ar1{w:be}{own:ac bj}(k:aU.ok aB ⟨K,.x (.a1 (.iface t w)),⟨own,aH,e⟩⟩)(aa:bu e x=some (.v (.iface t w)):=by rfl):aU.ok aB ⟨K,.o (⟨d,.oI x,none⟩::xs),⟨own,aH,e⟩⟩:=
 abd (fun H ids st fr e5 aw ae=>by
  have J:fr.ak x= .iface t w:=ae.ak aa;refine⟨st,H,?_,aw,du.refl _,fun _ _ _ B=>B⟩;show xD (fr.ak x) (fun t v=>aV.a1 (.iface t v) st) .no=_;rw[J];rfl) rfl k
def agT{H:bC}{ids:ac Nat}{k:d7}{c:Int}(h:den H (.agg [.i k c]) ids v):v= .agg ⟨[.int k c]⟩:=by
 obtain⟨vs,rfl,u,us,rfl,J,U⟩:=h;cases J;cases U;rfl
def arV{d:Tmp}{a:aj}{own:ac bj}(w:be)(k:aU.ok aB ⟨K,.o xs,⟨own,aH,(d,.v (.iface t w))::e⟩⟩)(aa:bu e x=some a:=by rfl)(hw:∀H ids v,den H a ids v->v=w:=by exact fun _ _ _=>agT):aU.ok aB ⟨K,.o (⟨some d,.EF t x,none⟩::xs),⟨own,aH,e⟩⟩:=fun H ids st fr a0 aw ae=>
 su (v:=.iface t (fr.ak x)) rfl (k H ids st _ a0 aw (ae.fj (some d) (show Value.iface t (fr.ak x)= .iface t w by rw[hw H ids _ (ae.ak aa)])))
end
def Dv(ms:ac Nat)(n:Nat):Nat->ac (bz×cw)->am (ac (bz×cw))
 |_,[]=>some []
 |p,(x,c)::l=>match Dv ms n (p+1) l with
  |none=>none
  |some l'=>match Nat.testBit (ms.getD p 0) n with
   |true=>match c with
    |.dX=>some ((⟨x.d,.ie (.const undef),none⟩,.dX)::l')
    |_=>some ((⟨x.d,.ie (.const undef),none⟩,.read 0 [])::l')
   |false=>match c with
    |.dX=>none
    |c=>some ((x,c)::l')
def adn{T:aP}{g:am (Tmp×Bool)}{a b:cm}{a' eW:Bool}{e:dv}{f:aP}{s:ay}(h:gB T g a b .no= .out e f s)(ha:a= .out e f s->a'=true)(hb:b= .out e f s->eW=true):gB T g a' eW false=true:=by
 unfold gB at h⊢;cases g with
 |none=>exact ha h
 |some p=>
  rw[Sym.en]at h⊢;cases aD:T.tmp p.1<;>rw[aD]at h<;>first|(cases h;done)|skip
  ·rename_i c;show cond c (cond p.2 a' eW) (cond p.2 eW a')=true;have h:cond c (cond p.2 a b) (cond p.2 b a)=_:=h;cases c<;>cases hp:p.2<;>rw[hp]at h<;>first|exact ha h|exact hb h
  ·exact hb h
theorem R1{call:bG}{c0:sy}{ms:ac Nat}{n:Nat}:∀{l l':ac (bz×cw)} {p:Nat} {ah:ac (ao bt)} {fr:aP} {st:ay} {na:aP} {bq:ay},Dv ms n p l=some l'->gF call c0 l' ah fr st= .out .norm na bq->kh call ms n l p ah fr st=true
 |[],_,_,_,_,_,_,_,_,_=>rfl
 |(x,c)::l,l',p,ah,fr,st,na,bq,ae,h=>by
  unfold Dv at ae;split at ae
  ·cases ae
  rename_i e6 J;have a7:∀{ah:ac (ao bt)} {fr:aP} {st:ay},gF call c0 e6 ah fr st= .out .norm na bq->kh call ms n l (p+1) ah fr st=true:=fun h=>R1 J h;have a3:kh call ms n ((x,c)::l) p ah fr st=cond (Nat.testBit (ms.getD p 0) n)
   (cw.rec (motive:=fun _=>Bool) (kh call ms n l (Nat.succ p) (st.h::ah) (fr.put x.d undef) st) (fun _=>kh call ms n l (Nat.succ p) ah (fr.put x.d undef) st) (fun _ _=>kh call ms n l (Nat.succ p) ah (fr.put x.d undef) st) c)
   (cw.rec (motive:=fun _=>Bool) false
    (fun ts=>kp fr.t ts fun t=>gB ⟨t,[],none,false,none⟩ x.g
     (aV.rec (motive:=fun _=>Bool) (fun v _ st'=>kh call ms n l (Nat.succ p) ah (fr.put x.d v) st') (fun _ _=>false) false (bK call x.o ⟨t,[],none,false,none⟩ st))
     (kh call ms n l (Nat.succ p) ah (fr.put x.d undef) st) false)
    (fun back ts=>kp fr.t ts fun t=>gB ⟨t,[],none,false,none⟩ x.g
     (aV.rec (motive:=fun _=>Bool) (fun v _ _=>cond (sameAt call x.o ⟨t,[],none,false,none⟩ v st.ai (Nat.succ back) ah) (kh call ms n l (Nat.succ p) ah (fr.put x.d v) st) false) (fun _ _=>false) false (bK call x.o ⟨t,[],none,false,none⟩ st))
     (kh call ms n l (Nat.succ p) ah (fr.put x.d undef) st) false)
    c):=rfl
  rw[a3];split at ae
  ·rename_i hb;rw[hb];split at ae
   ·cases ae;have h:ek st.ai st.ai (gF call c0 e6 (st.h::ah) (aP.put ⟨fr.t,fr.cS,fr.a1,fr.cB,fr.b0⟩ x.d undef) st) .no=_:=h;rw[gz (zaK _)]at h;exact a7 h
   ·rename_i hc;cases ae;have h:cond (sameAt call (.ie (.const undef)) ⟨.nil,[],none,false,none⟩ undef st.ai (Nat.succ 0) ah) (gF call c0 e6 ah (fr.put x.d undef) st) .no=_:=h;cases eB:sameAt call (.ie (.const undef)) ⟨.nil,[],none,false,none⟩ undef st.ai (Nat.succ 0) ah with
    |false=>rw[eB]at h;cases h
    |true=>
     rw[eB]at h;cases c with
     |dX=>exact absurd rfl hc
     |hX ts=>exact a7 h
     |read b ts=>exact a7 h
  ·rename_i hb;rw[hb];split at ae
   ·cases ae
   ·rename_i hc;cases ae;cases c with
    |dX=>exact absurd rfl hc
    |hX ts=>
     have h:kp fr.t ts (fun t=>gB ⟨t,[],none,false,none⟩ x.g
      (aV.rec (motive:=fun _=>cm) (fun v _ st'=>gF call c0 e6 ah (fr.put x.d v) st') (fun _ _=>.no) .no (bK call x.o ⟨t,[],none,false,none⟩ st))
      (gF call c0 e6 ah (fr.put x.d undef) st) .no)=_:=h
     show kp fr.t ts _=true;rw[pq]at h⊢;refine adn h (fun h=> ?_) (fun h=>a7 h);generalize bK call x.o _ st=r at h⊢;cases r with
     |ok v f2 s2=>exact a7 h
     |a1 v s2=>cases h
     |no=>cases h
    |read back ts=>
     have h:kp fr.t ts (fun t=>gB ⟨t,[],none,false,none⟩ x.g
      (aV.rec (motive:=fun _=>cm) (fun v _ _=>cond (sameAt call x.o ⟨t,[],none,false,none⟩ v st.ai (Nat.succ back) ah) (gF call c0 e6 ah (fr.put x.d v) st) .no) (fun _ _=>.no) .no (bK call x.o ⟨t,[],none,false,none⟩ st))
      (gF call c0 e6 ah (fr.put x.d undef) st) .no)=_:=h
     show kp fr.t ts _=true;rw[pq]at h⊢;refine adn h (fun h=> ?_) (fun h=>a7 h);generalize bK call x.o _ st=r at h⊢;cases r with
     |ok v f2 s2=>
      show cond (sameAt call x.o _ v st.ai (Nat.succ back) ah) _ false=true;have h:cond (sameAt call x.o _ v st.ai (Nat.succ back) ah) (gF call c0 e6 ah (fr.put x.d v) st) .no=_:=h;cases eB:sameAt call x.o _ v st.ai (Nat.succ back) ah with
      |false=>rw[eB]at h;cases h
      |true=>rw[eB]at h;exact a7 h
     |a1 v s2=>cases h
     |no=>cases h
def QJ(x:dv)(_:cz):Prop:=x= .norm
section
variable{aB:fl}{K:ac eE}{s:cz}
def agE{d:am Tmp}{o:dd}{l l':ac (bz×cw)}{bA:ac bj}{a3:bO}{bd ca m:Nat}{ms:ac Nat}(h:KN aB.b1 aB.call o s v)(hc:o.k7=true)(ae:Dv ms (m-(db l+1)) (m-db l) l=some l')
 (b5:aU.ok ⟨aB.call,aB.b4,aB.fn,aB.b1,aB.i0,aB.aK,QJ⟩ ⟨[],.d l' bA (ud d a3) (bd+1) s.n,⟨s.own,s.n,fj d (.bP []) s.env⟩⟩) (k:aU.ok aB ⟨K,.x (.a1 v),s⟩):hW aB (.x5 ms m::K) (.d ((⟨d,o,none⟩,.dX)::l) bA a3 bd ca) s:=by
 intro c0 hG H ids st fr fP ah a0 aw ef cp;have hG:c0=rE aB.call ms m:=hG;obtain⟨st',bn,J,U,ag,az⟩:=h H ids st fr a0.hle aw ef;have gS:=b5 (rE aB.call ms m) trivial H ids st (fr.put d undef) fP (st.h::ah) a0 aw (ef.fj d ⟨[],rfl,rfl⟩) ⟨by simp[cp.len],cp.hle,xZ cp.eL d _,cp.qf,by rw[aw.len];exact b8 _,fun k o b ab hl hb=>by
  obtain⟨J,U⟩:=cp.bA k o b ab hl hb;refine⟨J,fun h hm=> ?_⟩;rcases zak.1 hm with rfl|hm
  ·rfl
  ·exact U h hm,fun h hm=>by
  rcases zak.1 hm with rfl|hm
  ·exact fun b o hb=>aw.le _ _ (cp.hle _ _ hb)
  ·exact cp.old h hm,fun h hm=>by
  simp at hm;subst hm;exact⟨aw.le,fun _ _ _ _=>rfl⟩⟩
 obtain⟨x,f1,s1,g1,H1,i1,t1,_,_,_,aM⟩:=gS;have aM:x= .norm:=aM;subst aM;have bc:=R1 ae g1;refine⟨.a1 v,fr,st',?_,bn,ids,s,az _ _ _ a0,U,ef.mono ag (da.refl _),k⟩;show aV.rec (motive:=fun _=>cm) (fun v aI st'=>ek st.ai st'.ai (gF aB.call c0 l (st'.h::ah) (aP.put ⟨fr.t,aI.cS,aI.a1,aI.cB,aI.b0⟩ d v) st') .no) (fun v st'=>cond o.k7 (cond (c0 l (st.h::ah) (fr.put d undef) st) (.out (.a1 v) fr st') .no) .no) .no (bK aB.call o fr st)=_;rw[J,hG];show cond (α:=cm) o.k7 (cond (kh aB.call ms (Nat.sub m (Nat.succ (db l))) l (Nat.sub m (db l)) (st.h::ah) (fr.put d undef) st) (cm.out (.a1 v) fr st') cm.no) cm.no=_;have bc:kh aB.call ms (Nat.sub m (Nat.succ (db l))) l (Nat.sub m (db l)) (st.h::ah) (fr.put d undef) st=true:=bc;rw[bc,hc];rfl
end
section
variable{X:Ctx}{aZ:ao cM}{bY:ci->eY}{b4 n:Nat}{fn:ci}{b1:bC}{i0:ac Nat}{aK:ay}{Q:dv->cz->Prop}{K:ac eE}{own:ac bj}{aH:Nat}{e:bO}
variable{g:ci}{cq:ac bi}{as:ac aj}{d:am Tmp}{xs:ac bz}{bA:ac bj}{a3:bO}{ca:Nat}
def BW(hc:oV X g S.spec)(l:S.L)(hp:S.pre l)(a:aj)(al:S.out l= .ret a)(k:aU.ok ⟨b9 aZ (cg X bY) (n+1),b4,fn,b1,i0,aK,Q⟩ ⟨K,.o xs,⟨own,aH,fj d a e⟩⟩)
 (ha:kG e cq=some as:=by rfl) (he:hV as (S.args l):=by exact hV.refl _) (kE:hQ as=true:=by rfl) (dw:bY g=S.spec.K:=by rfl) (hh:S.hp b1:=by exact trivial):
 aU.ok ⟨b9 aZ (cg X bY) (n+1),b4,fn,b1,i0,aK,Q⟩ ⟨K,.o (⟨d,.call (.func g) cq,none⟩::xs),⟨own,aH,e⟩⟩:=BY (d:=d) (s:=⟨own,aH,e⟩) (RS hc dw l ha kE he hp hh al) k
def BV(hc:oV X g S.spec)(l:S.L)(hp:S.pre l)(v:be)(al:S.out l= .a1 v)(NX:aU.ok ⟨b9 aZ (cg X bY) (n+1),b4,fn,b1,i0,aK,Q⟩ ⟨K,.x (.a1 v),⟨own,aH,e⟩⟩)
 (ha:kG e cq=some as:=by rfl) (he:hV as (S.args l):=by exact hV.refl _) (kE:hQ as=true:=by rfl) (dw:bY g=S.spec.K:=by rfl) (hh:S.hp b1:=by exact trivial):
 aU.ok ⟨b9 aZ (cg X bY) (n+1),b4,fn,b1,i0,aK,Q⟩ ⟨K,.o (⟨d,.call (.func g) cq,none⟩::xs),⟨own,aH,e⟩⟩:=abd (s:=⟨own,aH,e⟩) (RT hc dw l ha kE he hp hh al) rfl NX
def sJ(hc:oV X g S.spec){d:Tmp}{xs:ac (bz×cw)}{bd:Nat}(l:S.L)(hp:S.pre l)(a:aj)(al:S.out l= .ret a)
 (k:aU.ok ⟨b9 aZ (cg X bY) (n+1),b4,fn,b1,i0,aK,Q⟩ ⟨K,.d xs bA (k9 d a3) (bd+1) aH,⟨own,aH,(d,a)::e⟩⟩)
 (ha:kG e cq=some as:=by rfl) (he:hV as (S.args l):=by exact hV.refl _) (kE:hQ as=true:=by rfl) (dw:bY g=S.spec.K:=by rfl) (hh:S.hp b1:=by exact trivial):
 aU.ok ⟨b9 aZ (cg X bY) (n+1),b4,fn,b1,i0,aK,Q⟩ ⟨K,.d ((⟨some d,.call (.func g) cq,none⟩,.dX)::xs) bA a3 bd ca,⟨own,aH,e⟩⟩:=
 LJ (d:=some d) (s:=⟨own,aH,e⟩) (RS hc dw l ha kE he hp hh al) rfl (fun _ _ ab _=>⟨ab,by simp[jh]⟩) k
def rG(hc:oV X g S.spec){d:Tmp}{xs l':ac (bz×cw)}{bd m:Nat}{ms:ac Nat}(l:S.L)(hp:S.pre l)(v:be)(al:S.out l= .a1 v)
 (NX:aU.ok ⟨b9 aZ (cg X bY) (n+1),b4,fn,b1,i0,aK,Q⟩ ⟨K,.x (.a1 v),⟨own,aH,e⟩⟩)
 (b5:aU.ok ⟨b9 aZ (cg X bY) (n+1),b4,fn,b1,i0,aK,QJ⟩ ⟨[],.d l' bA (k9 d a3) (bd+1) aH,⟨own,aH,(d,.bP [])::e⟩⟩)
 (ae:Dv ms (m-(db xs+1)) (m-db xs) xs=some l':=by rfl)
 (ha:kG e cq=some as:=by rfl) (he:hV as (S.args l):=by exact hV.refl _) (kE:hQ as=true:=by rfl) (dw:bY g=S.spec.K:=by rfl) (hh:S.hp b1:=by exact trivial):
 aU.ok ⟨b9 aZ (cg X bY) (n+1),b4,fn,b1,i0,aK,Q⟩ ⟨.x5 ms m::K,.d ((⟨some d,.call (.func g) cq,none⟩,.dX)::xs) bA a3 bd ca,⟨own,aH,e⟩⟩:=
 agE (d:=some d) (s:=⟨own,aH,e⟩) (RT hc dw l ha kE he hp hh al) rfl ae b5 NX
end
def yQ(g1 t:Nat):cM:=⟨6,[.cell 2 false 1],.seq (.hR [⟨some 2,.alloc [.int .i64 0] t,none⟩]) (.seq (.hR [⟨some 3,.sa (.func g1) [] [.tmp 2],none⟩,⟨none,.pS (.tmp 3) [],none⟩]) (.seq (.hR [⟨some 4,.ie (.tmp 0),none⟩,⟨some 5,.call (.tmp 4) [],none⟩]) (.seq (.hR [⟨none,.store 1 (.tmp 2) (.const (.int .i64 0)),none⟩]) .ret)))⟩
def xn(ts:Nat):cM:=⟨12,[],.seq (.hR [⟨some 4,.vl,none⟩]) (.block 0 (.seq (.hR [⟨some 6,.eqv false .wZ (.tmp 4) (.const .nilIface),none⟩]) (.cond (.tmp 6) (.hR [⟨some 1,.ie (.tmp 4),none⟩]) (.seq (.hR [⟨some 7,.Fz ts (.agg #[.int .i64 0]) true (.tmp 4),none⟩,⟨some 8,.rL (.tmp 7) 1,none⟩,⟨some 9,.rL (.tmp 7) 0,none⟩]) (.cond (.tmp 8) (.seq (.hR [⟨some 2,.alloc [.int .i64 0] ts,none⟩,⟨none,.store 1 (.tmp 2) (.tmp 9),none⟩]) (.hR [⟨some 10,.qB 0 (.tmp 2),none⟩,⟨some 11,.j8 (.tmp 10),none⟩,⟨none,.store 1 (.tmp 0) (.tmp 11),none⟩])) (.seq (.hR [⟨some 3,.ie (.tmp 4),none⟩]) (.hR [⟨some 5,.ie (.tmp 3),none⟩,⟨none,.oI (.tmp 5),none⟩])))))))⟩
section
variable{call:bG}{fr:aP}{st:ay}
variable{el:ce}{x:bi}
def S9{z:ac be}:bK call (.alloc z el) fr st= .ok (.pointer (some ⟨st.ai,0,none⟩)) fr ⟨st.h.set st.ai (.cells z el (0,0) false),st.ai+1⟩:=by
 show st.jB (.cells z el (0,0) false) (fun id st=>aV.ok (.pointer (some ⟨id,0,none⟩)) fr st)=_;rw[gV]
def L2{y:bi}{id:Nat}{old:be}(h:fr.ak x= .pointer (some ⟨id,0,none⟩))(aD:h8 (fr.ak y)=[v])(hp:hf [v]=true)(al:st.h.get id=some (.cells [old] el (0,0) false)):
 bK call (.store 1 x y) fr st= .ok undef fr ⟨st.h.set id (.cells [v] el (0,0) false),st.ai⟩:=by
 have:bK call (.store 1 x y) fr st=ik (fr.ak x) (fun p=>bk p (fun a=>dQ (db (h8 (fr.ak y))) 1 (cond (hf (h8 (fr.ak y))) (st.store a (h8 (fr.ak y)) (fun st=>aV.ok undef fr st) .no) .no) .no) .no) .no:=rfl;rw[this,h,aD,n7,Sym.en,fg,j0 (show[v].length=1 from rfl),hp,cond_true];unfold ay.store ay.gC;rw[Sym.gK,al,kA,gz (b8 _),q5,zab (by simp),ks];rfl
def ahY{id:Nat}(h:fr.ak x= .pointer (some ⟨id,0,none⟩))(al:st.h.get id=some (.cells [v] el (0,0) false)):bK call (.j8 x) fr st= .ok v fr st:=by
 rw[ZL,h,n7,Sym.en];unfold ay.load ay.gC;rw[Sym.gK,al,kA,qw (by simp)];rfl
end
variable{n:Nat}{st:ay}{call:bG}{f b t:Nat}{H:bC}{ids:ac Nat}
def asb{ts:Nat}:iX call n f (xn ts) [.pointer (some ⟨b,0,none⟩)] none st= .ret (.tuple #[]) st false:=rfl
def asc{ts:Nat}{c:Int}(hb:st.h.get b=some (.cells [.int .i64 0] t (0,0) false))(aN:b<st.ai):
 iX call n f (xn ts) [.pointer (some ⟨b,0,none⟩)] (some (.iface ts (.agg #[.int .i64 c]))) st=
  .ret (.tuple #[]) ⟨((st.h.set st.ai (.cells [.int .i64 0] ts (0,0) false)).set st.ai (.cells [.int .i64 c] ts (0,0) false)).set b (.cells [.int .i64 c] t (0,0) false),st.ai+1⟩ true:=by
 let eL:aP:=⟨lV [.pointer (some ⟨b,0,none⟩)] 0 .nil,[],some (.iface ts (.agg #[.int .i64 c])),true,none⟩
 let f1:=(((eL.put (some 4) (.iface ts (.agg #[.int .i64 c]))).put (some 6) (.bool false)).put (some 7) (.tuple #[.agg #[.int .i64 c],.bool true])).put (some 8) (.bool true)
 let dC:=f1.put (some 9) (.agg #[.int .i64 c])
 have aC:c1 call n f (xn ts).body ⟨lV [.pointer (some ⟨b,0,none⟩)] 0 .nil,[],some (.iface ts (.agg #[.int .i64 c])),false,none⟩ st=
  rC 0 (Gz (dC.ak (.tmp 8)) (lP (gG call [⟨some 2,.alloc [.int .i64 0] ts,none⟩,⟨none,.store 1 (.tmp 2) (.tmp 9),none⟩] dC st) (c1 call n f (.hR [⟨some 10,.qB 0 (.tmp 2),none⟩,⟨some 11,.j8 (.tmp 10),none⟩,⟨none,.store 1 (.tmp 0) (.tmp 11),none⟩]))) (c1 call n f (.seq (.hR [⟨some 3,.ie (.tmp 4),none⟩]) (.hR [⟨some 5,.ie (.tmp 3),none⟩,⟨none,.oI (.tmp 5),none⟩])) dC st)):=by
  have LV:dQ ts ts (aV.ok (.tuple #[.agg #[.int .i64 c],.bool true]) ((eL.put (some 4) (.iface ts (.agg #[.int .i64 c]))).put (some 6) (.bool false)) st) (aV.ok (.tuple #[.agg #[.int .i64 0],.bool false]) ((eL.put (some 4) (.iface ts (.agg #[.int .i64 c]))).put (some 6) (.bool false)) st)=aV.ok (.tuple #[.agg #[.int .i64 c],.bool true]) ((eL.put (some 4) (.iface ts (.agg #[.int .i64 c]))).put (some 6) (.bool false)) st:=j0 rfl _ _;show rC 0 (lP (u7 (dQ ts ts (aV.ok (.tuple #[.agg #[.int .i64 c],.bool true]) ((eL.put (some 4) (.iface ts (.agg #[.int .i64 c]))).put (some 6) (.bool false)) st) (aV.ok (.tuple #[.agg #[.int .i64 0],.bool false]) ((eL.put (some 4) (.iface ts (.agg #[.int .i64 c]))).put (some 6) (.bool false)) st)) (fun v fr st=>gG call [⟨some 8,.rL (.tmp 7) 1,none⟩,⟨some 9,.rL (.tmp 7) 0,none⟩] (fr.put (some 7) v) st) (fun v st=>.no)) _)=_;rw[LV];rfl
 have fa:gG call [⟨some 2,.alloc [.int .i64 0] ts,none⟩,⟨none,.store 1 (.tmp 2) (.tmp 9),none⟩] dC st= .out .norm (dC.put (some 2) (.pointer (some ⟨st.ai,0,none⟩))) ⟨(st.h.set st.ai (.cells [.int .i64 0] ts (0,0) false)).set st.ai (.cells [.int .i64 c] ts (0,0) false),st.ai+1⟩:=by
  rw[rK,S9,tg,rK,L2 (id:=st.ai) (old:=.int .i64 0) (v:=.int .i64 c) (el:=ts) rfl rfl rfl (ao.nP _ _ _),tg];rfl
 have cd:b≠st.ai:=by omega
 have fR:gG call [⟨some 10,.qB 0 (.tmp 2),none⟩,⟨some 11,.j8 (.tmp 10),none⟩,⟨none,.store 1 (.tmp 0) (.tmp 11),none⟩] (dC.put (some 2) (.pointer (some ⟨st.ai,0,none⟩))) ⟨(st.h.set st.ai (.cells [.int .i64 0] ts (0,0) false)).set st.ai (.cells [.int .i64 c] ts (0,0) false),st.ai+1⟩=
  .out .norm (((dC.put (some 2) (.pointer (some ⟨st.ai,0,none⟩))).put (some 10) (.pointer (some ⟨st.ai,0,none⟩))).put (some 11) (.int .i64 c)) ⟨((st.h.set st.ai (.cells [.int .i64 0] ts (0,0) false)).set st.ai (.cells [.int .i64 c] ts (0,0) false)).set b (.cells [.int .i64 c] t (0,0) false),st.ai+1⟩:=by
  rw[rK];show gG call [⟨some 11,.j8 (.tmp 10),none⟩,⟨none,.store 1 (.tmp 0) (.tmp 11),none⟩] ((dC.put (some 2) (.pointer (some ⟨st.ai,0,none⟩))).put (some 10) (.pointer (some ⟨st.ai,0,none⟩))) _=_;rw[rK,ahY (id:=st.ai) (v:=.int .i64 c) (el:=ts) rfl (ao.nP _ _ _),tg,rK,L2 (id:=b) (old:=.int .i64 0) (v:=.int .i64 c) (el:=t) rfl rfl rfl (by
   show(ao.set _ st.ai _).get b=_;rw[ao.gf _ _ cd,ao.gf _ _ cd];exact hb),tg]
  rfl
 have e2:iX call n f (xn ts) [.pointer (some ⟨b,0,none⟩)] (some (.iface ts (.agg #[.int .i64 c]))) st=cm.rec (motive:=fun _=>dh) (fun e fr st=>dv.rec (motive:=fun _=>dh) (gl call [] none fr st) (fun _=>.no) (gl call [] none fr st) (fun v=>gl call [] (some v) fr st) e) .no (c1 call n f (xn ts).body ⟨lV [.pointer (some ⟨b,0,none⟩)] 0 .nil,[],some (.iface ts (.agg #[.int .i64 c])),false,none⟩ st):=rfl;have b3:Gz (dC.ak (.tmp 8)) (lP (gG call [⟨some 2,.alloc [.int .i64 0] ts,none⟩,⟨none,.store 1 (.tmp 2) (.tmp 9),none⟩] dC st) (c1 call n f (.hR [⟨some 10,.qB 0 (.tmp 2),none⟩,⟨some 11,.j8 (.tmp 10),none⟩,⟨none,.store 1 (.tmp 0) (.tmp 11),none⟩]))) (c1 call n f (.seq (.hR [⟨some 3,.ie (.tmp 4),none⟩]) (.hR [⟨some 5,.ie (.tmp 3),none⟩,⟨none,.oI (.tmp 5),none⟩])) dC st)=lP (gG call [⟨some 2,.alloc [.int .i64 0] ts,none⟩,⟨none,.store 1 (.tmp 2) (.tmp 9),none⟩] dC st) (c1 call n f (.hR [⟨some 10,.qB 0 (.tmp 2),none⟩,⟨some 11,.j8 (.tmp 10),none⟩,⟨none,.store 1 (.tmp 0) (.tmp 11),none⟩])):=rfl;rw[e2,aC,b3,fa,Sym.Ck,S6,fR,aeQ];rfl
def Tm{own:ac bj}(aw:Fit H ids st own n)(o:bt):Fit H ids ⟨st.h.set st.ai o,st.ai+1⟩ own n:=by
 refine⟨fun i af=> ?_,fun b bh hb=> ?_,aw.cE,aw.len,aw.c8,fun b hb=>zcU (aw.lt b hb),fun k bh b ab hb=> ?_⟩
 ·have af:st.ai+1<=i:=af;show(ao.set st.h st.ai o).get i=none;rw[ao.gf _ _ (by omega)];exact aw.wf i (by omega)
 ·show(ao.set st.h st.ai o).get b=_;have:=aw.aN hb;rw[ao.gf _ _ (by omega)];exact aw.le b bh hb
 ·have aN:=aw.lt b (zav hb);show mx H ids bh ((ao.set st.h st.ai o).get b)∧_;rw[ao.gf _ _ (by omega)];exact aw.own k bh b ab hb
def L7{own:ac bj}(aw:Fit H ids st own n)(hb:b∉ids)(e5:H b=none)(aN:b<st.ai)(o:bt):Fit H ids ⟨st.h.set b o,st.ai⟩ own n:=by
 refine⟨fun i af=> ?_,fun eW bh cK=> ?_,aw.cE,aw.len,aw.c8,aw.lt,fun k bh eW ab cK=> ?_⟩
 ·have af:st.ai<=i:=af;show(ao.set st.h b o).get i=none;rw[ao.gf _ _ (by omega)];exact aw.wf i af
 ·show(ao.set st.h b o).get eW=_;rw[ao.gf _ _ (fun e=>by rw[e,e5]at cK;cases cK)];exact aw.le eW bh cK
 ·show mx H ids bh ((ao.set st.h b o).get eW)∧_;rw[ao.gf _ _ (fun e=>hb (by rw[<-e];exact zav cK))];exact aw.own k bh eW ab cK
def ape{g1:Nat}{fv:be}:∃fr:aP,fr.cS=[{target:=.fn (.func g1) #[.pointer (some ⟨st.ai,0,none⟩)],args:= #[]}]∧fr.cB=false∧fr.tmp 2= .pointer (some ⟨st.ai,0,none⟩)∧
 c1 call n f (yQ g1 t).body (eL [fv]) st=lP (u7 (nN (call fv [] none ⟨st.h.set st.ai (.cells [.int .i64 0] t (0,0) false),st.ai+1⟩) (fun v st=>.ok v fr st) (fun v st=>.a1 v st)) (fun v fr st=>.out .norm (fr.put (some 5) v) st) (fun v st=>.out (.a1 v) fr st)) (c1 call n f (.seq (.hR [⟨none,.store 1 (.tmp 2) (.const (.int .i64 0)),none⟩]) .ret)):=by
 refine⟨(aP.mk ((((eL [fv]).put (some 2) (.pointer (some ⟨st.ai,0,none⟩))).put (some 3) (.func (.func g1) #[] #[.pointer (some ⟨st.ai,0,none⟩)])).t) [{target:=.fn (.func g1) #[.pointer (some ⟨st.ai,0,none⟩)],args:= #[]}] none false none).put (some 4) fv,rfl,rfl,rfl,?_⟩;have e:c1 call n f (yQ g1 t).body (eL [fv]) st=lP (gG call [⟨some 2,.alloc [.int .i64 0] t,none⟩] (eL [fv]) st) (c1 call n f (.seq (.hR [⟨some 3,.sa (.func g1) [] [.tmp 2],none⟩,⟨none,.pS (.tmp 3) [],none⟩]) (.seq (.hR [⟨some 4,.ie (.tmp 0),none⟩,⟨some 5,.call (.tmp 4) [],none⟩]) (.seq (.hR [⟨none,.store 1 (.tmp 2) (.const (.int .i64 0)),none⟩]) .ret)))):=rfl;rw[e,rK,S9,tg,S8,Sym.Ck];rfl
section
variable{X:Ctx}{aZ:ao cM}{bY:ci->eY}{b4 n:Nat}{fn:ci}{b1:bC}{i0:ac Nat}{aK:ay}{Q:dv->cz->Prop}{K:ac eE}{own:ac bj}{aH:Nat}{e:bO}
def QI(aB:fl)(K:ac eE)(xs:ac bz)(d:am Tmp)(e:bO)(ts:Nat)(x:dv)(s:cz):Prop:=
 ((x= .norm∨x= .ret)∧aU.ok aB ⟨K,.o xs,⟨s.own,s.n,fj d (.i .i64 0) e⟩⟩)∨∃c:Int,x= .a1 (.iface ts (.agg #[.int .i64 c]))∧aU.ok aB ⟨K,.o xs,⟨s.own,s.n,fj d (.i .i64 c) e⟩⟩
def arS{g g1 f:ci}{ts:Nat}(xf:cM)(aa:aZ.get f=some xf)(aR:aZ.get g=some (yQ g1 t))(AO:aZ.get g1=some (xn ts)){x:bi}{caps:ac aj}{d:am Tmp}{xs:ac bz}
 (k:∀H1 i1 s1,i1.length=own.length->du b1 H1->aU.ok ⟨b9 aZ (cg X bY) (n+1),n+1,f,H1,i1,s1,QI ⟨b9 aZ (cg X bY) (n+3),b4,fn,b1,i0,aK,Q⟩ K xs d e ts⟩ ⟨[],.c xf.body,⟨own,aH,mA 0 caps⟩⟩)
 (gv:bu e x=some (.fn (.func f) [] caps):=by rfl) (aE:xf.res=[]:=by rfl) (hl:caps.length<=xf.aJ:=by exact jF rfl) (dw:bY f=eY.no:=by rfl) (Mw:bY g=eY.no:=by rfl) (Mv:bY g1=eY.no:=by rfl):
 aU.ok ⟨b9 aZ (cg X bY) (n+3),b4,fn,b1,i0,aK,Q⟩ ⟨K,.o (⟨d,.call (.func g) [x],none⟩::xs),⟨own,aH,e⟩⟩:=by
 intro H ids st fr a0 aw ae;obtain⟨bB,cs,aD,MR,dR⟩:=ae.ak gv;cases MR;have aD:fr.ak x= .func (.func f) #[] ⟨cs⟩:=aD;have o8:=Tm aw (.cells [.int .i64 0] t (0,0) false);obtain⟨cC,dC,ch,hM,bn,c6,s,cX,dp,ef,hq⟩:=k H ids _ (aw.len.trans aw.cE.symm) a0.hle H ids _ (eL cs) (dN.refl _ _ _) o8 (c9.zero dR);have Nd:st.ai∉ids:=fun h=>by have:=aw.lt _ h;omega
 have e5:bn st.ai=none:=by
  rw[cX.hold st.ai (zbo _) Nd];cases hh:H st.ai with
  |none=>exact hh
  |some o=>have:=aw.aN hh;omega
 have Xr:st.ai∉c6:=fun h=>by
  rcases cX.new _ h with h|h
  ·exact Nd h
  ·have h:st.ai+1<=st.ai:=h;omega
 have lf:ch.h.get st.ai=some (.cells [.int .i64 0] t (0,0) false):=by
  rw[cX.hA st.ai (zbo _) Nd];exact ao.nP _ _ _
 have Ng:st.ai<ch.ai:=cX.ai;have fin:∀(c:Int) (fk:ay),Fit bn c6 fk s.own s.n->ch.ai<=fk.ai->(∀b,b<ch.ai->b≠st.ai->fk.h.get b=ch.h.get b)->
  bK (b9 aZ (cg X bY) (n+3)) (.call (.func g) [x]) fr st= .ok (.int .i64 c) fr fk->aU.ok ⟨b9 aZ (cg X bY) (n+3),b4,fn,b1,i0,aK,Q⟩ ⟨K,.o xs,⟨s.own,s.n,fj d (.i .i64 c) e⟩⟩->
  W (gG (b9 aZ (cg X bY) (n+3)) (⟨d,.call (.func g) [x],none⟩::xs) fr st) (tL ⟨b9 aZ (cg X bY) (n+3),b4,fn,b1,i0,aK,Q⟩ (Sem ⟨b9 aZ (cg X bY) (n+3),b4,fn,b1,i0,aK,Q⟩ K)):=fun c fk rP ov ab hM hc=>by
  have sP:dN H ids st bn c6 fk:=by
   refine⟨cX.hle,fun b hb hn=>cX.hold b (zcU hb) hn,fun b hb hn=> ?_,by omega,cX.lI,fun b hb=> ?_⟩
   ·rw[ab b (by omega) (by omega),cX.hA b (zcU hb) hn];show(ao.set st.h st.ai _).get b=_;exact ao.gf _ _ (by omega)
   ·rcases cX.new b hb with h|h
    ·exact .inl h
    ·have h:st.ai+1<=b:=h;exact .inr (by omega)
  exact su hM (hc bn c6 fk _ (a0.trans sP) rP ((ae.mono cX.hle cX.lI).fj d rfl))
 have SL:bK (b9 aZ (cg X bY) (n+3)) (.call (.func g) [x]) fr st=nN (iX (b9 aZ (cg X bY) (n+2)) (n+2) g (yQ g1 t) [fr.ak x] none st) (fun v st=>.ok v fr st) (fun v st=>.a1 v st):=by
  rw[u9];show nN (b9 aZ (cg X bY) (n+3) (.func (.func g) #[] #[]) (ey fr [x]) none st) _ _=_;rw[rD];have a3:fS (#[]:ap be).toList (fS (ey fr [x]) (#[]:ap be).toList)=[fr.ak x]:=by simp[ahZ,ah0]
  rw[a3,EZ Mw,Sym.gK,Sym.gK,aR,Sym.en]
 obtain⟨lb,mE,sY,Ee,Xj⟩:=ape (call:=b9 aZ (cg X bY) (n+2)) (n:=n+2) (f:=g) (g1:=g1) (t:=t) (fv:=fr.ak x) (st:=st);have SK:iX (b9 aZ (cg X bY) (n+2)) (n+2) g (yQ g1 t) [fr.ak x] none st=cm.rec (motive:=fun _=>dh) (fun e fr st=>dv.rec (motive:=fun _=>dh) (gl (b9 aZ (cg X bY) (n+2)) [.cell 2 false 1] none fr st) (fun _=>.no) (gl (b9 aZ (cg X bY) (n+2)) [.cell 2 false 1] none fr st) (fun v=>gl (b9 aZ (cg X bY) (n+2)) [.cell 2 false 1] (some v) fr st) e) .no (c1 (b9 aZ (cg X bY) (n+2)) (n+2) g (yQ g1 t).body (eL [fr.ak x]) st):=rfl;have SO:∀r,iX (b9 aZ (cg X bY) (n+1)) (n+1) f xf cs none ⟨st.h.set st.ai (.cells [.int .i64 0] t (0,0) false),st.ai+1⟩=r->b9 aZ (cg X bY) (n+2) (fr.ak x) [] none ⟨st.h.set st.ai (.cells [.int .i64 0] t (0,0) false),st.ai+1⟩=r:=fun r h=>by
  rw[aD,rD];have a3:fS (#[]:ap be).toList (fS ([]:ac be) (⟨cs⟩:ap be).toList)=cs:=by simp
  rw[a3,EZ dw,Sym.gK,Sym.gK,aa,Sym.en,h]
 have SM:∀(b:Nat) (m:am be) (st:ay),b9 aZ (cg X bY) (n+2) (.func (.func g1) #[] #[.pointer (some ⟨b,0,none⟩)]) [] m st=iX (b9 aZ (cg X bY) (n+1)) (n+1) g1 (xn ts) [.pointer (some ⟨b,0,none⟩)] m st:=fun b m st=>by
  rw[rD];have a3:fS (#[]:ap be).toList (fS ([]:ac be) (#[.pointer (some ⟨b,0,none⟩)]:ap be).toList)=[.pointer (some ⟨b,0,none⟩)]:=by simp
  rw[a3,EZ Mv,Sym.gK];cases m with
  |none=>rw[Sym.gK,AO,Sym.en]
  |some v=>rw[Sym.en,AO,Sym.en]
 have W7:iX (b9 aZ (cg X bY) (n+1)) (n+1) f xf cs none ⟨st.h.set st.ai (.cells [.int .i64 0] t (0,0) false),st.ai+1⟩=cm.rec (motive:=fun _=>dh) (fun e fr st=>dv.rec (motive:=fun _=>dh) (gl (b9 aZ (cg X bY) (n+1)) [] none fr st) (fun _=>.no) (gl (b9 aZ (cg X bY) (n+1)) [] none fr st) (fun v=>gl (b9 aZ (cg X bY) (n+1)) [] (some v) fr st) e) .no (.out cC dC ch):=by
  rw[<-hM];unfold iX;rw[oE,zab (by rw[fg,h9 dR];exact hl),aE];rfl
 have W6:gl (b9 aZ (cg X bY) (n+1)) [] none dC ch= .ret (.tuple #[]) ch false:=by
  unfold gl;rw[ef.pl.cS,ef.pl.cB];simp only[jD];rfl
 have uz:∀(c:Int) (fk:ay) (wq:aP),wq.tmp 2= .pointer (some ⟨st.ai,0,none⟩)->fk.h.get st.ai=some (.cells [.int .i64 c] t (0,0) false)->o4 wq fk [.cell 2 false 1]=some [.int .i64 c]:=fun c fk wq J U=>by
  show ik (wq.tmp 2) (fun p=>bk p (fun ad=>fk.load ad 1 (fun cs=>cond false (some [.agg ⟨cs⟩]) (one cs (fun v=>some [v]) none)) none) none) none=_;rw[J,n7,Sym.en];unfold ay.load ay.gC;rw[Sym.gK,U,kA,qw (by simp)];rfl
 rcases hq with⟨NB,hc⟩|⟨c,rfl,hc⟩
 ·have J:iX (b9 aZ (cg X bY) (n+1)) (n+1) f xf cs none ⟨st.h.set st.ai (.cells [.int .i64 0] t (0,0) false),st.ai+1⟩= .ret (.tuple #[]) ch false:=by
   rw[W7];rcases NB with rfl|rfl
   ·exact W6
   ·exact W6
  have U:=SO _ J;have rP:=L7 dp Xr e5 Ng (.cells [.int .i64 0] t (0,0) false);refine fin 0 ⟨ch.h.set st.ai (.cells [.int .i64 0] t (0,0) false),ch.ai⟩ rP (zaK _) (fun b hb cd=>ao.gf _ _ (by omega)) ?_ hc;rw[SL,SK,Xj,U,Tu,tg,Sym.Ck,G0,S6,rK,L2 (id:=st.ai) (old:=.int .i64 0) (v:=.int .i64 0) (el:=t) (by rw[Ds,xA,zaa (by decide)];exact Ee) rfl rfl lf,tg,S8,Sym.Ck,ahS];show nN (gl (b9 aZ (cg X bY) (n+2)) [.cell 2 false 1] none ((lb.put (some 5) (.tuple #[])).put none undef) _) _ _=_;unfold gl;rw[aqW,agW,mE,auX,sY];simp only[jD];rw[SM,asb];show nN (bk (o4 _ _ _) _ _) _ _=_;rw[uz 0 _ _ (by rw[xA,zaa (by decide)];exact Ee) (ao.nP _ _ _)];rfl
 ·have J:iX (b9 aZ (cg X bY) (n+1)) (n+1) f xf cs none ⟨st.h.set st.ai (.cells [.int .i64 0] t (0,0) false),st.ai+1⟩= .a1 (.iface ts (.agg #[.int .i64 c])) ch false:=by
   rw[W7];exact Ti ef.pl
  have U:=SO _ J;have rP:=L7 (L7 (Tm dp (.cells [.int .i64 0] ts (0,0) false)) (b:=ch.ai) (fun h=>by have:=dp.lt _ h;omega) (by
   cases hh:bn ch.ai with
   |none=>rfl
   |some o=>have:=dp.aN hh;omega) (zbo _) (.cells [.int .i64 c] ts (0,0) false)) Xr e5 (zcU Ng) (.cells [.int .i64 c] t (0,0) false)
  refine fin c _ rP (zbb _) (fun b hb cd=> ?_) ?_ hc
  ·show(ao.set (ao.set (ao.set ch.h ch.ai _) ch.ai _) st.ai _).get b=_;rw[ao.gf _ _ (by omega),ao.gf _ _ (by omega),ao.gf _ _ (by omega)]
  rw[SL,SK,Xj,U,Tt,Zx,auU];show nN (gl (b9 aZ (cg X bY) (n+2)) [.cell 2 false 1] (some _) lb ch) _ _=_;unfold gl;rw[mE,sY];simp only[jD];rw[SM,asc lf Ng];show nN (bk (o4 _ _ _) _ _) _ _=_;rw[uz c _ _ Ee (ao.nP _ _ _)];rfl
end
section
variable{aB:fl}{K:ac eE}{own:ac bj}{aH:Nat}{e:bO}{d:Tmp}{xs:ac bz}{x y:bi}
variable{α:Type}{a2 cr:Nat}{el:ce}{R:α->ac aj}
def arW{z:Nat}{l:ac α}{neg:Bool}(ba:aU.ok aB ⟨K,.o xs,⟨own,aH,(d,.b neg)::e⟩⟩)(bx:l=[]->aU.ok aB ⟨K,.o xs,⟨own,aH,(d,.b (!neg))::e⟩⟩)(aa:bu e x=some (.a6 z α R l):=by rfl)(aL:bu e y=some .nl:=by rfl):
 aU.ok aB ⟨K,.o (⟨some d,.eqv neg .lk x y,none⟩::xs),⟨own,aH,e⟩⟩:=fun H ids st fr a0 aw ae=>by
 have U:fr.ak y= .slice none 0 0:=ae.ak aL;have ag:den H (.a6 z α R l) ids (fr.ak x):=ae.ak aa;have a3:bK aB.call (.eqv neg .lk x y) fr st=bk (pX (fr.ak x) (fr.ak y)) (fun b=>.ok (.bool (cond neg (!b) b)) fr st) .no:=rfl;rcases ag with⟨hn,J⟩|⟨hn,J⟩|⟨b,o,c,vs,el,bg,a8,J,_⟩
 ·have aC:bK aB.call (.eqv neg .lk x y) fr st= .ok (.bool neg) fr st:=by
   rw[a3,J,U];cases neg<;>rfl
  exact su aC (ba H ids st _ a0 aw (ae.fj (some d) rfl))
 ·have aC:bK aB.call (.eqv neg .lk x y) fr st= .ok (.bool (!neg)) fr st:=by
   rw[a3,J,U];cases neg<;>rfl
  exact su aC (bx hn H ids st _ a0 aw (ae.fj (some d) rfl))
 ·have aC:bK aB.call (.eqv neg .lk x y) fr st= .ok (.bool neg) fr st:=by
   rw[a3,J,U];cases neg<;>rfl
  exact su aC (ba H ids st _ a0 aw (ae.fj (some d) rfl))
def ad9(aL:bu s.env y=some (.a6 a2 α R [])):vL call el cr s y R a2 ([]:ac α):=fun H ids st fr aw ae x p n c aa=>by
 have e:bK call (.app el a2 cr x y) fr st=il (fr.ak x) (fun base len cap=>il (fr.ak y) (fun b n _=>bk b (fun b=>st.load b (Nat.mul n a2) (fun new=>cond (hf new) (jJ fr st el a2 cr base len cap n new) .no) .no) (dQ n 0 (jJ fr st el a2 cr base len cap 0 []) .no)) (tE (fr.ak y) (jJ fr st el a2 cr base len cap 0 []) (im (fr.ak y) (fun s=>dQ a2 1 (jJ fr st el a2 cr base len cap (db s.data.toList) (lQ s.data.toList)) .no) .no))) .no:=rfl;have ag:den H (.a6 a2 α R []) ids (fr.ak y):=ae.ak aL;refine⟨[],z4 _ _ _ _,rfl,?_⟩;rw[e,aa,oS];rcases ag with⟨_,J⟩|⟨_,J⟩|⟨b,o,bE,vs,Al,bg,a8,J,_,U,_⟩
 ·have aC:∀(k:am Addr->Nat->Nat->aV) (z:aV),il (.chan none) k z=z:=fun _ _=>rfl;have e2:∀a z:aV,tE (.chan none) a z=a:=fun _ _=>rfl;simp only[J,aC,e2];rfl
 ·rw[J,oS,Sym.gK,j0 rfl];rfl
 ·rw[J,oS,Sym.en];show st.load ⟨b,o,none⟩ (0*a2) _ _=_;unfold ay.load ay.gC;rw[Sym.gK,aw.le _ _ U,kA,zau,qw (zae _),List.take_zero];have b3:∀a z:aV,cond (hf []) a z=a:=fun _ _=>rfl;simp only[b3]
def arG{k0 c:Nat}{a8:Bool}{l:ac α}(k:aU.ok aB ⟨K,.o xs,⟨own,aH,(d,.a5 k0 a2 0 n c)::e⟩⟩)(aL:bu e y=some (.a6 a2 α R []):=by rfl)(aa:bu e x=some (.a5 k0 a2 0 n c):=by rfl)(ab:own[k0]? =some (.a el a8 a2 α R l):=by rfl)
 (jf:n<=c:=by omega) (hc:c<=l.length:=by first|omega|(simp;done)|(simp;omega)) (hb:(5*n+1792)*(cr+1)<=1125899906842624:=by omega):aU.ok aB ⟨K,.o (⟨some d,.app el a2 cr x y,none⟩::xs),⟨own,aH,e⟩⟩:=fJ (K6 (s:=⟨own,aH,e⟩) aa ab (ad9 aL) jf hc hb) k
end
section
variable{aB:fl}{K:ac eE}{own bF bA:ac bj}{aH bd ca:Nat}{e a3:bO}{d:Tmp}{xs:ac (bz×cw)}{x y:bi}
variable{el:ce}{a2 cr:Nat}{α:Type}{c ck z:Nat}{g8:ac bj}{R:α->ac aj}
def K8{k0 o:Nat}(aa:bu s.env x=some (.a5 k0 z o n c))(j:Nat)(bh:bj)(hj:(bA.set k0 .x)[j]? =some bh)(hl:bh.live=true):bA[j]? =some bh∧jh s.env (.app el a2 cr x y)≠some j:=by
 have je:j≠k0:=fun bL=>by
  subst bL;rw[zaQ]at hj;rw[zab rfl]at hj;split at hj
  ·cases hj;cases hl
  ·cases hj
 rw[zbc (fun bL=>je bL.symm)]at hj;refine⟨hj,fun hm=> ?_⟩;have:jh s.env (.app el a2 cr x y)=some k0:=by
  unfold jh;dsimp only;rw[aa]
 rw[this]at hm;cases hm;exact je rfl
def Fit.Zu{k0:Nat}{cs cs':ac aj}(aw:Fit H ids st own n)(ab:own[k0]? =some (.c el cs))(hle:hV cs cs'):Fit H ids st (own.set k0 (.c el cs')) n:=by
 refine⟨aw.wf,aw.le,by rw[zbV];exact aw.cE,aw.len,aw.c8,aw.lt,fun j o c hj hc=> ?_⟩;rw[zaQ]at hj;by_cases je:k0=j
 ·subst je;obtain⟨J,U⟩:=aw.own k0 _ c ab hc;rw[zab rfl]at hj;split at hj
  ·cases hj;obtain⟨vs,ag,az⟩:=J;exact⟨⟨vs,ag,hle.den az⟩,fun _=>U rfl⟩
  ·cases hj
 ·rw[zaa je]at hj;exact aw.own j o c hj hc
def agC{back:Nat}{ts:ac Tmp}{j:Nat}{l:ac α}(q:α){b5:d7}{i:bi}(hj:l[j]? =some q)(k:aU.ok aB ⟨K,.d xs bA (k9 d a3) bd ca,⟨own,aH,(d,.ip (R q))::e⟩⟩)(aa:bu (ff ts e) x=some (.cc z α R l):=by rfl)(af:bu (ff ts e) i=some (.i b5 (j:Int)):=by rfl)(hb:back<bd:=by decide):aU.ok aB ⟨K,.d ((⟨some d,.l8 z x i,none⟩,.read back ts)::xs) bA a3 bd ca,⟨own,aH,e⟩⟩:=
 Ss (d:=some d) (s:=⟨own,aH,e⟩) hb (fun H ids fr ae=>XO ae aa af hj) k
def Sq(R:α->ac aj)(m:ac α)(ah:m4 ⟨own,aH,e⟩ y R a2 m)(b5:aU.ok aB ⟨K,.d xs bA (k9 d a3) (bd+1) ck,⟨bF,ck,(d,.a5 aH a2 0 m.length m.length)::e⟩⟩)(aa:bu e x=some .nl:=by rfl)
 (al:oQ own (.a el true a2 α R m) some=some bF:=by rfl) (ju:mS aH some=some ck:=by rfl) (h0:m≠[]:=by first|rfl|simp) (hb:(5*m.length+1792)*(cr+1)<=1125899906842624:=by first|omega|(simp;done)|(simp;omega)):
 aU.ok aB ⟨K,.d ((⟨some d,.app el a2 cr x y,none⟩,.dX)::xs) bA a3 bd ca,⟨own,aH,e⟩⟩:=by
 have J:=py al;have U:=nZ ju;cases J;cases U;refine v8 (d:=some d) (s:=⟨own,aH,e⟩) (K7 (s:=⟨own,aH,e⟩) aa (sD ah) h0 hb) rfl (fun j bh hj _=>⟨hj,fun hm=> ?_⟩) b5;have:jh e (.app el a2 cr x y)=none:=by
  unfold jh;dsimp only;rw[aa]
 rw[this]at hm;cases hm
def So{k0:Nat}{l:ac α}{Ja:ac bj}(m:ac α)(ah:m4 ⟨own,aH,e⟩ y R a2 m)(b5:aU.ok aB ⟨K,.d xs Ja (k9 d a3) (bd+1) ck,⟨bF,ck,(d,.a5 aH a2 0 (n+m.length) (n+m.length))::e⟩⟩)(aa:bu e x=some (.a5 k0 a2 0 n c):=by rfl)(ab:own[k0]? =some (.a el true a2 α R l):=by rfl)
 (kD:jk own k0 .x some=some g8:=by rfl) (al:oQ g8 (.a el true a2 α R (l++m)) some=some bF:=by rfl) (ju:mS aH some=some ck:=by rfl) (mM:Ja=bA.set k0 .x:=by rfl) (h0:m≠[]:=by first|rfl|simp) (hn:n=l.length:=by first|omega|(simp;done)|(simp;omega)) (jf:n=c:=by omega) (hb:(5*(n+m.length)+1792)*(cr+1)<=1125899906842624:=by first|omega|(simp;done)|(simp;omega)):
 aU.ok aB ⟨K,.d ((⟨some d,.app el a2 cr x y,none⟩,.dX)::xs) bA a3 bd ca,⟨own,aH,e⟩⟩:=by
 have jK:=kc kD;cases jK;have J:=py al;have U:=nZ ju;cases J;cases U;subst mM;have:=F5 (call:=aB.call) (s:=⟨own,aH,e⟩) (cr:=cr) aa ab (sD ah) h0 (by omega) (by omega) (by omega) hb;rw[hn,zbx]at this;rw[hn]at b5;refine v8 (d:=some d) (s:=⟨own,aH,e⟩) this (by rw[zbV]) (fun j bh hj hl=> ?_) b5;have je:j≠k0:=fun bL=>by
  subst bL;rw[zaQ]at hj;rw[zab rfl]at hj;split at hj
  ·cases hj;cases hl
  ·cases hj
 rw[zbc (fun bL=>je bL.symm)]at hj;refine⟨hj,fun hm=> ?_⟩;have:jh e (.app el a2 cr x y)=some k0:=by
  unfold jh;dsimp only;rw[aa]
 rw[this]at hm;cases hm;exact je rfl
def agA{k0:Nat}{a8:Bool}{l:ac α}(ah:m4 ⟨own,aH,e⟩ y R a2 ([]:ac α))(b5:aU.ok aB ⟨K,.d xs (bA.set k0 .x) (k9 d a3) (bd+1) aH,⟨own,aH,(d,.a5 k0 a2 0 n c)::e⟩⟩)(aa:bu e x=some (.a5 k0 a2 0 n c):=by rfl)(ab:own[k0]? =some (.a el a8 a2 α R l):=by rfl)
 (jf:n<=c:=by omega) (hc:c<=l.length:=by first|omega|(simp;done)|(simp;omega)) (hb:(5*n+1792)*(cr+1)<=1125899906842624:=by first|omega|(simp;done)|(simp;omega)):
 aU.ok aB ⟨K,.d ((⟨some d,.app el a2 cr x y,none⟩,.dX)::xs) bA a3 bd ca,⟨own,aH,e⟩⟩:=
 v8 (d:=some d) (s:=⟨own,aH,e⟩) (K6 (s:=⟨own,aH,e⟩) aa ab (sD ah) jf hc hb) (by rw[zbV]) (K8 aa) b5
def GI{k0:Nat}{l:ac α}(m l':ac α)(ah:m4 ⟨own,aH,e⟩ y R a2 m)(b5:aU.ok aB ⟨K,.d xs (bA.set k0 .x) (k9 d a3) (bd+1) ck,⟨bF,ck,(d,.a5 aH a2 0 l'.length l'.length)::e⟩⟩)(h0:m≠[])(HR:c<n+m.length)(hl:l.take n++m=l')(hb:(5*(n+m.length)+1792)*(cr+1)<=1125899906842624)(aa:bu e x=some (.a5 k0 a2 0 n c):=by rfl)(ab:own[k0]? =some (.a el false a2 α R l):=by rfl)
 (al:oQ own (.a el true a2 α R l') some=some bF:=by rfl) (ju:mS aH some=some ck:=by rfl) (jf:n<=c:=by omega) (hc:c<=l.length:=by first|omega|(simp;done)|(simp;omega)):
 aU.ok aB ⟨K,.d ((⟨some d,.app el a2 cr x y,none⟩,.dX)::xs) bA a3 bd ca,⟨own,aH,e⟩⟩:=by
 have J:=py al;have U:=nZ ju;cases J;cases U;have hlen:n+m.length=l'.length:=by
  rw[<-hl,zay,zao];omega
 have:=Q2 (call:=aB.call) (s:=⟨own,aH,e⟩) (cr:=cr) aa ab (sD ah) h0 jf HR hc hb;rw[hl,hlen]at this;exact v8 (d:=some d) (s:=⟨own,aH,e⟩) this (by rw[zbV]) (K8 aa) b5
def Sp{k0:Nat}{l:ac α}(m l':ac α)(ah:m4 ⟨own,aH,e⟩ y R a2 m)(b5:aU.ok aB ⟨K,.d xs (bA.set k0 .x) (k9 d a3) (bd+1) ck,⟨bF,ck,(d,.a5 aH a2 0 l'.length l'.length)::e⟩⟩)(h0:m≠[])(hl:l++m=l')(hb:(5*(l.length+m.length)+1792)*(cr+1)<=1125899906842624)(aa:bu e x=some (.a5 k0 a2 0 l.length l.length):=by rfl)(ab:own[k0]? =some (.a el true a2 α R l):=by rfl)
 (kD:jk own k0 .x some=some g8:=by rfl) (al:oQ g8 (.a el true a2 α R l') some=some bF:=by rfl) (ju:mS aH some=some ck:=by rfl):
 aU.ok aB ⟨K,.d ((⟨some d,.app el a2 cr x y,none⟩,.dX)::xs) bA a3 bd ca,⟨own,aH,e⟩⟩:=by
 have jK:=kc kD;cases jK;have J:=py al;have U:=nZ ju;cases J;cases U;have hlen:l.length+m.length=l'.length:=by rw[<-hl,zay]
 have:=F5 (call:=aB.call) (s:=⟨own,aH,e⟩) (cr:=cr) aa ab (sD ah) h0 (zaK _) (zaK _) (zaK _) hb;rw[zbx,hl,hlen]at this;exact v8 (d:=some d) (s:=⟨own,aH,e⟩) this (by rw[zbV]) (K8 aa) b5
end
section
variable{aB:fl}{K:ac eE}{own bF:ac bj}{aH:Nat}{e:bO}
variable{el:ce}{cs:ac aj}
def arZ(k0:Nat)(cs':ac aj){p:dm}(k:aU.ok aB ⟨K,.c p,⟨bF,aH,e⟩⟩)(hle:hV cs cs')(ab:own[k0]? =some (.c el cs):=by rfl)(al:jk own k0 (.c el cs') some=some bF:=by rfl):aU.ok aB ⟨K,.c p,⟨own,aH,e⟩⟩:=by
 have J:=kc al;cases J;exact fun H ids st fr a0 aw ae=>k H ids st fr a0 (aw.Zu ab hle) ae
def arY(k0:Nat)(cs':ac aj){xs:ac bz}(k:aU.ok aB ⟨K,.o xs,⟨bF,aH,e⟩⟩)(hle:hV cs cs')(ab:own[k0]? =some (.c el cs):=by rfl)(al:jk own k0 (.c el cs') some=some bF:=by rfl):aU.ok aB ⟨K,.o xs,⟨own,aH,e⟩⟩:=by
 have J:=kc al;cases J;exact fun H ids st fr a0 aw ae=>k H ids st fr a0 (aw.Zu ab hle) ae
end
end Go.ar
namespace Go.ar
variable{X:Ctx}
variable{b:Nat}{gs:ac (Nat×bt)}{g:Nat}{p:Nat×bt}
def nX(g n:Nat):bs:=fun i=>if i<g then some ⟨i,0,0,h1⟩else if n<=i∧i<2*n then some ⟨i-n,0,0,h1⟩else none
def s0(W:co)(b:Nat):Bool:=match W.heap[b]? with
 |some (.cells _ _ _)=>true
 |_=>false
def X1{W:co}(h:s0 W b=true):∃C el bg,W.heap[b]? =some (.cells C el bg):=by
 unfold s0 at h;split at h
 ·rename_i C el bg hC;exact⟨C,el,bg,hC⟩
 ·cases h
def toA(W:co):be->be
 |.bool b=>.bool b
 |.int k m=>.int k m
 |.string s=>.string s
 |.slice none l c=>.slice none l c
 |.slice (some a) l c=>if s0 W a.block=true∧a.spot=none then .slice (some ⟨W.heap.size+a.block,a.off,none⟩) l c else(match l with|0=>.chan none|_=>iD)
 |.pointer none=>.pointer none
 |.pointer (some a)=>if a.block<W.heap.size∧a.spot=none then .pointer (some ⟨W.heap.size+a.block,a.off,none⟩)else iD
 |_=>iD
def NP{n:Nat}(aR:g<=n)(hb:b<n):nX g n (n+b)=some ⟨b,0,0,h1⟩:=by
 unfold nX;rw[zaa (by omega),zab (by omega),zey]
def acP{W:co}(aR:g<=W.heap.size)(v:be):bp (nX g W.heap.size) (toA W v) v:=by
 cases v with
 |slice a l c=>
  cases a with
  |none=>exact .nw _ _
  |some a=>
   show bp _ (if s0 W a.block=true∧a.spot=none then Value.slice (some ⟨W.heap.size+a.block,a.off,none⟩) l c else(match l with|0=>.chan none|_=>iD)) _;split
   ·rename_i h;obtain⟨b,o,sp⟩:=a;obtain⟨J,U⟩:=h;simp only at J U;subst U;obtain⟨_,_,_,ag⟩:=X1 J;have:=bp.gN (ι:=nX g W.heap.size) ⟨W.heap.size+b,o,none⟩ ⟨b,0,0,h1⟩ o l c (NP aR (zbd.1 ag).1) rfl (.inl (by simp));exact this
   ·split
    ·exact .emp _ _
    ·exact .top _
 |pointer a=>
  cases a with
  |none=>exact .ns
  |some a=>
   show bp _ (if a.block<W.heap.size∧a.spot=none then Value.pointer (some ⟨W.heap.size+a.block,a.off,none⟩)else iD) _;split
   ·rename_i h;obtain⟨b,o,sp⟩:=a;obtain⟨J,U⟩:=h;simp only at J U;subst U;have:=bp.ptr (ι:=nX g W.heap.size) ⟨W.heap.size+b,o,none⟩ ⟨b,0,0,h1⟩ (NP aR J) rfl;simpa using this
   ·exact .top _
 |bool b=>exact .bool b
 |int k m=>exact .int k m
 |string s=>exact .string s
 |_=>exact .top _
theorem acQ{g:Nat}{W:co}(aR:g<=W.heap.size):∀vs:ac be,bJ (nX g W.heap.size) (vs.map (toA W)) vs
 |[]=>.nil _
 |v::vs=>.cons (acP aR v) (acQ aR vs)
theorem Ql:∀(us:ac (Nat×bt)) (h:ao bt) (k:Nat),(∀p∈us,p.1≠k)->(kL us h).get k=h.get k
 |[],_,_,_=>rfl
 |u::us,h,k,hn=>by
  rw[Kr,Ql us _ k (fun p hp=>hn p (zaI _ hp)),ao.eJ,zaa (fun e=>hn u zby e.symm)]
theorem ade:∀(us:ac (Nat×bt)) (h:ao bt) (k:Nat) (o:bt),(us.map (·.1)).Nodup->(k,o)∈us->(kL us h).get k=some o
 |u::us,h,k,o,aA,hm=>by
  rw[zaM,List.nodup_cons]at aA;rw[Kr];rcases zak.1 hm with rfl|hm
  ·rw[Ql us _ k (fun p hp e=>aA.1 (e▸zba.2 ⟨p,hp,rfl⟩)),ao.eJ,zab rfl]
  ·exact ade us _ k o aA.2 hm
def y5(W:co)(b:Nat):am Obj->am (Nat×bt)
 |some (.cells C el _)=>some (W.heap.size+b,.cells (C.toList.map (toA W)) el (0,C.size+1) false)
 |_=>none
def ER(W:co):ac (Nat×bt):=(List.range W.heap.size).filterMap fun b=>y5 W b W.heap[b]?
def jc(gs:ac (Nat×bt))(W:co):ao bt:=kL (ER W) (kL gs .nil)
def IU{W:co}:p∈ER W↔∃b,b<W.heap.size∧y5 W b W.heap[b]? =some p:=by
 unfold ER;simp only[List.mem_filterMap,zcO]
def EP{W:co}{o:am Obj}(h:y5 W b o=some p):p.1=W.heap.size+b:=by
 unfold y5 at h;split at h
 ·cases h;rfl
 ·cases h
def aqj(W:co):((ER W).map (·.1)).Nodup:=by
 unfold ER;rw[List.map_filterMap];have aE:(List.range W.heap.size).Nodup:=List.nodup_range;refine List.Pairwise.filterMap (R:=fun a b=>a≠b) _ ?_ aE;intro a b ib x aa y aL e;obtain⟨p,J,rfl⟩:=zaO.1 aa;obtain⟨q,U,rfl⟩:=zaO.1 aL;rw[EP J,EP U]at e;omega
def amx{W:co}{C:ap be}{el:ce}{bg:Nat×Nat}(h:W.heap[b]? =some (.cells C el bg)):(jc gs W).get (W.heap.size+b)=some (.cells (C.toList.map (toA W)) el (0,C.size+1) false):=
 ade _ _ _ _ (aqj W) (IU.2 ⟨b,(zbd.1 h).1,by rw[h];rfl⟩)
def amw{W:co}(h:g<W.heap.size):(jc gs W).get g=(kL gs .nil).get g:=
 Ql _ _ _ fun p hp=>by
  obtain⟨b,_,e⟩:=IU.1 hp;rw[EP e];omega
def avU{W:co}(ep:X.aF<=W.heap.size)(h:∀p∈gs,vH X.aF W p):bo X (nX X.aF W.heap.size) ⟨jc gs W,2*W.heap.size⟩ W:=by
 have hle:(Ie X.aF).le (nX X.aF W.heap.size):=fun i l hl=>by
  unfold Ie at hl;unfold nX;split at hl
  ·rename_i af;cases hl;rw[zab af]
  ·cases hl
 have mI:∀i l,nX X.aF W.heap.size i=some l->l.bR=h1∧l.cH<W.heap.size∧i<2*W.heap.size:=by
  intro i l hl;unfold nX at hl;split at hl
  ·cases hl;exact⟨rfl,by simp only;omega,by omega⟩
  ·split at hl
   ·cases hl;exact⟨rfl,by simp only;omega,by omega⟩
   ·cases hl
 have uA:∀i o,(jc gs W).get i=some o->vH X.aF W (i,o)∨∃b,b<W.heap.size∧i=W.heap.size+b∧y5 W b W.heap[b]? =some (i,o):=by
  intro i o al;rcases Cp _ _ _ _ al with hm|hm
  ·obtain⟨b,hb,e⟩:=IU.1 hm;exact .inr ⟨b,hb,EP e,e⟩
  ·rcases Cp _ _ _ _ hm with hm|hm
   ·exact .inl (h _ hm)
   ·simp at hm
 refine⟨fun i o al aA=> ?_,fun i j o p l m af _ hj _ hl hm ah e=> ?_,fun i af=> ?_,fun i l hl=>(mI i l hl).2.1,fun g aR=> ?_,?_,fun i l o hl _ al _=> ?_⟩
 ·rcases uA i o al with⟨aN,cs,el,m,C,bg,aC,e2,b3,fo⟩|⟨b,hb,rfl,e⟩
  ·simp only at aN aC b3;refine⟨⟨i,0,0,h1⟩,by unfold nX;rw[zab aN],?_⟩;subst aC;have hlen:cs.length=C.size:=by rw[fo.1];simp
   have fo:=fo.mono hle;refine⟨C,bg,b3,by simp[hlen],fun k ab=> ?_,fun ae=> ?_,fun _=>⟨rfl,rfl,hlen.symm⟩⟩
   ·have fF:k<C.size:=by omega
    refine⟨C[k],by simp[fF],?_⟩;have:=fo.2 k ab (by simpa using fF)
    rwa [zaw]at this
   ·simp only at ae;omega
  ·refine⟨⟨b,0,0,h1⟩,NP ep hb,?_⟩;unfold y5 at e;split at e
   ·rename_i C el bg hC;cases e;have aE:=acQ ep C.toList;refine⟨C,bg,hC,by simp,fun k ab=> ?_,fun ae=> ?_,fun _=>⟨rfl,rfl,by simp⟩⟩
    ·have fF:k<C.size:=by simpa using ab
     refine⟨C[k],by simp[fF],?_⟩;have:=aE.2 k ab (by simpa using fF)
     rwa [zaw]at this
    ·simp only at ae;omega
   ·cases e
 ·exact(ah.elim (fun h=>h (mI i l hl).1) (fun h=>h (mI j m hm).1)).elim
 ·have af:2*W.heap.size<=i:=af;refine⟨?_,?_⟩
  ·cases e:nX X.aF W.heap.size i with
   |none=>rfl
   |some l=>have:=(mI i l e).2.2;omega
  ·cases e:(jc gs W).get i with
   |none=>rfl
   |some o=>
    rcases uA i o e with h|⟨b,hb,rfl,_⟩
    ·have:=h.1;simp only at this;omega
    ·omega
 ·exact hle _ _ (by unfold Ie;rw[zab aR])
 ·show X.aF<=2*W.heap.size;omega
 ·rcases uA i o al with⟨_,cs,el,m,C,bg,aC,e2,_,_⟩|⟨b,hb,rfl,e⟩
  ·simp only at aC;subst aC;exact⟨rfl,e2⟩
  ·unfold y5 at e;split at e
   ·cases e;exact⟨rfl,Nat.succ_pos _⟩
   ·cases e
def amy{W:co}(h:∀p∈gs,p.1<W.heap.size)(b:Nat)(hb:2*W.heap.size<=b):(jc gs W).get b=none:=by
 cases e:(jc gs W).get b with
 |none=>rfl
 |some o=>
  rcases Cp _ _ _ _ e with hm|hm
  ·obtain⟨c,hc,e⟩:=IU.1 hm;have:=EP e;simp only at this;omega
  ·rcases Cp _ _ _ _ hm with hm|hm
   ·have:=h _ hm;simp only at this;omega
   ·simp at hm
inductive n9
 |i (k:IntKind)
 |b
 |s
 |a5 (z w:Nat) (cs:List n9)
mutual
def PG(B:Nat)(W:co):n9->be->Prop
 |.i k,v=>∃m,v= .int k m∧(Lit.int k m).wf=true
 |.b,v=>∃t,v= .bool t
 |.s,v=>∃s:f5,v= .string s∧s.data.toList.length<=B
 |.a5 z w cs,v=>v= .slice none 0 0∨∃(a:Addr) (n c:Nat),v= .slice (some a) n c∧n<=c∧c<=B∧c*w<=B∧∀i,i<n->∃vs,W.cells? 0 (a.add (i*z)) z=some vs∧lO B W cs vs
def lO(B:Nat)(W:co):ac n9->ac be->Prop
 |[],vs=>vs=[]
 |c::cs,vs=>∃v ws,vs=v::ws∧PG B W c v∧lO B W cs ws
end
theorem abj{B:Nat}{W:co}:∀{cs ds:ac n9} {vs ws:ac be},lO B W cs vs->lO B W ds ws->lO B W (cs++ds) (vs++ws)
 |[],ds,vs,ws,h,aG=>by
  have h:vs=[]:=h;subst h;exact aG
 |c::cs,ds,vs,ws,⟨v,us,e,J,U⟩,aG=>by
  subst e;exact⟨v,us++ws,rfl,J,abj U aG⟩
def C1(P:d9):Nat->ce->am (ac n9)
 |0,_=>none
 |n+1,t=>
  match P.underlying t with
  |some .bool=>some [.b]
  |some (.int k)=>some [.i k]
  |some .string=>some [.s]
  |some (.slice e)=>if P.bytesOf e=0 then none else(C1 P n e).map fun cs=>[.a5 (P.cellsOf e) (P.bytesOf e) cs]
  |some (.struct bB)=>if Ab 0 (bB.toList.map fun f=>(f.offset,P.cellsOf f.type)) (P.cellsOf t)then(bB.toList.mapM fun(f:Field)=>C1 P n f.type).map List.flatten else none
  |_=>none
theorem adt{H:Type}{P:d9}{e:ce}{x:Nat}:∀{l:ac (DataW H)} {d:DataW H},d∈l->x∈d.weights P e->x∈DataW.weightsAll P e l
 |y::l,d,aA,aa=>by
  unfold DataW.weightsAll;rcases zak.1 aA with rfl|aA
  ·exact zcV _ aa
  ·exact zed _ (adt aA aa)
theorem Qv{H:Type}{P:d9}{x:Nat}:∀{ts:ac ce} {l:ac (DataW H)} {i:Nat} {t:ce} {d:DataW H},ts[i]? =some t->l[i]? =some d->x∈d.weights P t->x∈DataW.weightsEach P ts l
 |[],_,_,_,_,h,_,_=>by simp at h
 |_::_,[],_,_,_,_,h,_=>by simp at h
 |u::ts,y::l,0,t,d,h,aG,aa=>by
  simp at h aG;subst h;subst aG;unfold DataW.weightsEach;exact zcV _ aa
 |u::ts,y::l,i+1,t,d,h,aG,aa=>by
  unfold DataW.weightsEach;exact zed _ (Qv (i:=i) (by simpa using h) (by simpa using aG) aa)
theorem abI{B:Nat}{W:co}{α:Type}{seg:α->ac be}{c0:α->am (ac n9)}:∀(as:ac α) (mq:ac (ac n9)),as.mapM c0=some mq->(∀a∈as,∀cs,c0 a=some cs->lO B W cs (seg a))->lO B W mq.flatten (as.map seg).flatten
 |[],mq,h,_=>by
  simp at h;subst h;exact rfl
 |a::as,mq,h,ab=>by
  rw[zdk]at h;obtain⟨cs,aa,h⟩:=zbG.1 h;obtain⟨av,aL,h⟩:=zbG.1 h;cases h;rw[zaM,zdY,zdY];exact abj (ab a zby cs aa) (abI as av aL (fun a ha=>ab a (zaI _ ha)))
theorem Lb{H:Type}{enc:ce×be->H}{P:d9}{W:co}{B:Nat}:∀(n fuel:Nat) (t:ce) (cs:ac be) (d:DataW H) (p:ac MemPlace) (mq:ac n9),
 DataW.trod enc P W 0 (fun _=>true) true fuel t cs=some (d,p)->C1 P n t=some mq->(∀x∈d.weights P t,x<=B)->lO B W mq cs
 |0,_,_,_,_,_,_,_,h,_=>by cases h
 |n+1,fuel,t,cs,d,p,mq,h,hc,a0=>by
  unfold C1 at hc;cases fuel with
  |zero=>simp[DataW.trod]at h
  |succ fuel=>
  split at hc
  ·rename_i hu;cases hc;simp only[DataW.trod,hu]at h;split at h<;>first|(rename_i hq;cases hq)|skip
   all_goals first|(exact⟨_,_,rfl,⟨_,rfl⟩,rfl⟩)|(simp at h)
  ·rename_i k hu;cases hc;simp only[DataW.trod,hu]at h;split at h<;>first|(rename_i hq;cases hq)|skip
   all_goals first
    |(split at h
      ·rename_i hc;exact⟨_,_,rfl,⟨_,by rw[hc.1],hc.2⟩,rfl⟩
      ·cases h)
    |(simp at h)
  ·rename_i hu;cases hc;simp only[DataW.trod,hu]at h;split at h<;>first|(rename_i hq;cases hq)|skip
   all_goals first
    |(split at h
      ·cases h;exact⟨_,_,rfl,⟨_,rfl,a0 _ (by unfold DataW.weights;exact zby)⟩,rfl⟩
      ·cases h)
    |(simp at h)
  ·rename_i e hu;split at hc
   ·cases hc
   rename_i awu;obtain⟨afd,amj,rfl⟩:=zaO.1 hc;rcases DataW.trod_slice hu h with⟨rfl,_⟩|⟨a,len,cap,elems,rest,m,aC,rfl,e2,_,J,U,ag,az,a4,_⟩
   ·exact⟨_,_,rfl,.inl rfl,rfl⟩
   ·have aA:d= .slice (elems.map (·.1)) (rest.map (·.1)):=congrArg Prod.fst e2;subst aA;have hw:∀x,x∈(elems.length+rest.length)*P.bytesOf e::(DataW.weightsAll P e (elems.map (·.1))++DataW.weightsAll P e (rest.map (·.1)))->x<=B:=fun x aa=>a0 x (by
     unfold DataW.weights;rw[hu];simp only[zbS];exact aa)
    have ah:=hw _ zby;have jN:(elems.length+rest.length)*1<=(elems.length+rest.length)*P.bytesOf e:=Nat.mul_le_mul_left _ (by omega);have aE:=(a4 rfl).1;refine⟨_,_,rfl,.inr ⟨a,len,cap,rfl,J,by omega,zag (zdI _ (by omega)) ah,fun i af=> ?_⟩,rfl⟩;have az:=az i af;have Xf:i<elems.length:=by omega
    rw[zcF Xf]at az;obtain⟨vs,cv,cF⟩:=zbG.1 az;refine⟨vs,cv,Lb n m e vs _ _ afd cF amj (fun x aa=>hw x (zaI _ (zcV _ (adt (zba.2 ⟨_,zdJ Xf,rfl⟩) aa))))⟩
  ·rename_i bB hu;split at hc
   ·rename_i WZ;obtain⟨afj,hm,rfl⟩:=zaO.1 hc;obtain⟨xs,m,aC,e2,b3,fo,lY⟩:=DataW.trod_struct hu h;have aA:d= .agg (xs.map (·.1)):=congrArg Prod.fst e2;subst aA;rw[<-b3]at WZ;have GU:=GA cs _ 0 WZ;rw[zap,zcm]at GU;rw[GU];refine abI (seg:=fun(f:Field)=>(cs.drop f.offset).take (P.cellsOf f.type)) bB.toList afj hm (fun f ae cs' hG=> ?_);obtain⟨i,af,rfl⟩:=List.mem_iff_getElem.1 ae;have dG:i<bB.size:=by simpa using af
    have lY:=lY i bB.toList[i] (by simp[dG]);have lg:i<xs.length:=by omega
    rw[zcF lg]at lY;exact Lb n m _ _ _ _ cs' lY hG (fun x aa=>a0 x (by
     unfold DataW.weights;rw[hu];exact Qv (i:=i) (t:=bB.toList[i].type) (d:=xs[i].1) (by simp[dG]) (by simp[lg]) aa))
   ·cases hc
  ·cases hc
def DI(W:co)(v:be):Prop:=∀a l c,v= .slice (some a) l c->a.spot=none∧∃C el bg,W.heap[a.block]? =some (.cells C el bg)
variable{z:Nat}{v:be}{α:Type}{a:Addr}{vs:ac be}{B w:Nat}{R:α->ac aj}{Q:α->Prop}
def AD{P:d9}{W:co}{u e:ce}(hu:P.underlying u=some (.slice e))(h:Cell.okWide P W .any 0 u v):DI W v:=by
 intro a l c aD;subst aD;unfold Cell.okWide at h;rw[hu]at h;simp only[Cell.ok,hu]at h;obtain⟨_,_,_,J,row,cells,U,_⟩:=h;refine⟨J,?_⟩;unfold World.shape? at U;split at U
 ·rename_i C el bg hC;exact⟨C,el,bg,hC⟩
 ·cases U
def ae9{W:co}{C:ap be}{el:ce}{bg:Nat×Nat}{o:Nat}(ah:a=⟨b,o,none⟩)(h:W.cells? 0 a z=some vs)(hC:W.heap[b]? =some (.cells C el bg)):vs=(C.toList.drop o).take z:=by
 unfold World.cells? at h;rw[zab (zae _)]at h;have hl:=mapM_some_length h;rw[zdx]at hl;have aR:∀i,i<z->C[o+i]? =vs[i]? :=fun i af=>by
  have:=mapM_some_get h i i (by simp[af]);unfold World.cell? at this;rw[ah,pJ]at this;simp only[hC]at this;exact this
 apply zbw;intro i;rw[zaG];split
 ·rename_i af;rw[zaB,<-aR i af];simp
 ·rw[zbz (by omega)]
def afa{W:co}(an:0<z)(h:W.cells? 0 (a.add (0*z)) z=some vs):s0 W a.block=true∧a.spot=none:=by
 unfold World.cells? at h;rw[zab (zae _)]at h;have hl:=mapM_some_length h;rw[zdx]at hl;have h0:=mapM_some_get h 0 0 (by simp[an]);have aD:vs[0]? =some (vs[0]'(by omega)):=zcF (by omega);have e:(a.add (0*z)).add 0=a:=by simp[Addr.add]
 rw[aD,e]at h0;unfold World.cell? at h0;split at h0
 ·rename_i c el bg hc;split at h0
  ·cases h0
  ·rename_i ah;refine⟨by unfold s0;rw[hc],?_⟩;cases qS:a.spot with
   |none=>rfl
   |some _=>rw[qS]at ah;exact absurd rfl ah
 ·cases h0
def apl{n:Nat}{p:Nat->α->Prop}(h:∀i,i<n->∃x,p i x):∃l:ac α,l.length=n∧∀(i:Nat) (x:α),l[i]? =some x->p i x:=by
 induction n with
 |zero=>exact⟨[],rfl,fun i x aa=>by simp at aa⟩
 |succ n a7=>
  obtain⟨l,J,U⟩:=a7 (fun i af=>h i (by omega));obtain⟨y,aL⟩:=h n (zbo _);refine⟨l++[y],by simp[J],fun i x aa=> ?_⟩;by_cases af:i<n
  ·rw[zaW (by omega)]at aa;exact U i x aa
  ·rw[zaL (by omega)]at aa;have:i=n:=by
    have:=(zaf.1 aa).1;simp at this;omega
   subst this;rw[J,zdo]at aa;simp at aa;subst aa;exact aL
def zt{W:co}{mq:ac n9}(rR:∀vs,lO B W mq vs->∃x:α,de (fun b=>(jc gs W).get b) (R x) [] (vs.map (toA W))∧Q x)
 (h:PG B W (.a5 z w mq) v) (hh:DI W v):∃l:ac α,l.length<=B∧l.length*w<=B∧(∀x∈l,Q x)∧den (fun b=>(jc gs W).get b) (.cc z α R l) [] (toA W v):=by
 rcases h with rfl|⟨a,n,c,rfl,J,U,hw,ag⟩
 ·exact⟨[],zae _,by simp,(fun x aa=>by cases aa),.inl ⟨rfl,rfl⟩⟩
 ·obtain⟨g1,C,el,bg,aM⟩:=hh a n c rfl;obtain⟨b,o,sp⟩:=a;simp only at g1 aM;subst g1;have WX:=(zbd.1 aM).1;obtain⟨l,aC,e2⟩:=apl (p:=fun i x=>de (fun b=>(jc gs W).get b) (R x) [] ((((C.toList.map (toA W)).drop (o+i*z)).take z))∧Q x) (n:=n) (fun i af=>by
   obtain⟨vs,cv,cF⟩:=ag i af;obtain⟨x,dU,iE⟩:=rR vs cF;have:=ae9 (pJ b o (i*z)) cv aM;rw[this]at dU;refine⟨x,?_,iE⟩;rw[<-zee,<-List.map_take];exact dU)
  refine⟨l,by omega,zag (zdI _ (by omega)) hw,fun x aa=> ?_,.inr ⟨W.heap.size+b,o,c,C.toList.map (toA W),el,(0,C.size+1),false,?_,by omega,amx aM,fun i x aa=>(e2 i x aa).1⟩⟩
  ·obtain⟨i,af⟩:=zcu.1 aa;exact(e2 i x af).2
  ·show(if s0 W b=true∧(none:am Nat)=none then Value.slice (some ⟨W.heap.size+b,o,none⟩) n c else _)=_;rw[zab ⟨by unfold s0;rw[aM],rfl⟩,aC]
def Cd{W:co}{mq:ac n9}(an:0<z)(rR:∀vs,lO B W mq vs->∃x:α,de (fun b=>(jc gs W).get b) (R x) [] (vs.map (toA W))∧Q x)
 (h:PG B W (.a5 z w mq) v):∃l:ac α,l.length*w<=B∧(∀x∈l,Q x)∧den (fun b=>(jc gs W).get b) (.a6 z α R l) [] (toA W v):=by
 by_cases hh:DI W v
 ·obtain⟨l,_,J,U,d⟩:=zt (gs:=gs) rR h hh;exact⟨l,J,U,.inr d⟩
 ·rcases h with rfl|⟨a,n,c,rfl,J,U,_,ag⟩
  ·exact absurd (fun a l c e=>by cases e) hh
  ·refine⟨[],by simp,(fun x aa=>by cases aa),.inl ⟨rfl,?_⟩⟩;have hb:¬(s0 W a.block=true∧a.spot=none):=fun⟨az,a4⟩=>hh fun a' l' bE e=>by
    cases e;exact⟨a4,X1 az⟩
   cases n with
   |zero=>
    show(if s0 W a.block=true∧a.spot=none then Value.slice (some ⟨W.heap.size+a.block,a.off,none⟩) 0 c else .chan none)=_;rw[zaa hb]
   |succ n=>
    obtain⟨vs,cv,_⟩:=ag 0 (Nat.succ_pos n);exact absurd (afa an (by simpa using cv)) hb
