/- Rules for what a function computes on abstract states (part 2); no condition. -/
import Derived.Carry
import Derived.Test.YthdlbilidpgknaaGreatDoorS1
import Derived.Test.YthdlbilidpgknaaGreatDoorM3
noncomputable section
set_option linter.all false
namespace Go.aj
open Sym
def anD{k z j q o:Nat}(h:o=j*z+q):bZ (.p k o) (.gA k z j q):=fun _ _ _ d=>by subst h;exact d
section
variable{call:bL}{s:cG}{x y i:bi}
variable{n k:Nat}{el:ce}{z:Nat}{cs:ac ab}{j o:Nat}{aX:Bool}{l:ac bv}
def nh{cf:d7}(J:bj s.env x=some (.p k o))(hi:bj s.env i=some (.i cf (j:Int)))(hj:j<n):fE call (.si n z x i) s (.p k (o+j*z)) s.own s.n:=j0 fun H ids st fr av aa=>by
 obtain⟨b,h1,h2⟩:=aa.af J;have h3:fr.af i= .int cf (j:Int):=aa.af hi;refine⟨_,⟨b,h1,rfl⟩,?_⟩;show wc n z x i call fr st=_;unfold wc;rw[h2,qE,Sym.eO,h3,mb,nW,fW (by omega),pJ];rfl
def amw{cf:d7}(J:bj s.env x=some (.ip cs))(hi:bj s.env i=some (.i cf (j:Int)))(hj:j<n):fE call (.si n z x i) s (.ip (cs.drop (j*z))) s.own s.n:=j0 fun H ids st fr av aa=>by
 obtain⟨b,o,vs,el,a8,aX,h1,h2,d⟩:=aa.af J;have h3:fr.af i= .int cf (j:Int):=aa.af hi;refine⟨.pointer (some ⟨b,o+j*z,none⟩),⟨b,o+j*z,vs,el,a8,aX,rfl,h2,?_⟩,?_⟩
 ·have:=o2 (j*z) d;rw[zek,zbu,<-zaE]at this;exact this
 ·show wc n z x i call fr st=_;unfold wc;rw[h1,qE,Sym.eO,h3,mb,nW,fW (by omega),pJ];rfl
def Wp{cd:bz}{g:Nat}{vs:ac be}{a8:Nat×Nat}{cf:d7}(J:bj s.env x=some (.v (.pointer (some ⟨g,0,none⟩))))(aJ:cd g=some (.cells vs el a8 aX))(al:∀H,db H cs [] vs)(hi:bj s.env i=some (.i cf (j:Int)))(hj:j<n):y7 cd call (.si n z x i) s (.ip (cs.drop (j*z))) s.own s.n:=fun H ids st fr dv av aa=>by
 have h1:fr.af x= .pointer (some ⟨g,0,none⟩):=aa.af J;have h3:fr.af i= .int cf (j:Int):=aa.af hi;refine⟨.pointer (some ⟨g,0+j*z,none⟩),st,ids,H,?_,av,⟨g,0+j*z,vs,el,a8,aX,rfl,dv _ _ aJ,?_⟩,dg.refl _,c5.refl _,fun _ _ _ B=>B,bY _,fun _ _ _=>rfl⟩
 ·show wc n z x i call fr st=_;unfold wc;rw[h1,qE,Sym.eO,h3,mb,nW,fW (by omega),pJ];rfl
 ·have:=o2 (j*z) (al H);have hl:=h6 this;rw[zaw,<-hl,zbY];exact this
def ad4(J:bj s.env x=some (.p k o))(U:s.own[k]? =some (.c el cs))(ai:o<cs.length):fE call (.BW x) s (.p k o) s.own s.n:=j0 fun H ids st fr av aa=>by
 obtain⟨b,h1,h2⟩:=aa.af J;obtain⟨⟨vs,h3,d⟩,_⟩:=av.own k _ b U h1;refine⟨_,⟨b,h1,rfl⟩,?_⟩;show H5 x call fr st=_;unfold H5 aw.gH;rw[h2,qE,Sym.eO,Sym.hZ,h3,kO,fW (by rw[fs,h6 d];exact ai)]
def aeJ(J:bj s.env x=some (.p k 0))(U:s.own[k]? =some (.c el cs))(hn:cs.length=n):fE call (.BX el n x) s (.p k 0) s.own s.n:=j0 fun H ids st fr av aa=>by
 obtain⟨b,h1,h2⟩:=aa.af J;obtain⟨⟨vs,h3,d⟩,_⟩:=av.own k _ b U h1;refine⟨_,⟨b,h1,rfl⟩,?_⟩;show H6 el n x call fr st=_;unfold H6 aw.gH;rw[h2,qE,Sym.eO,Sym.hZ,h3,kO,cond_false,jU rfl,jU rfl,jU (by rw[fs,h6 d];exact hn)]
def Ji{p q:Nat}{α:Type}{R:α->ac ab}{l:ac α}{aM hi:am bi}(J:bj s.env x=some (.p k 0))(U:s.own[k]? =some (.a el false z α R l))(fo:fc s aM 0 p)(fI:fc s hi n q)(hp:p<=q)(hq:q<=n)(h0:p<n∨p=0):fE call (.A7 n z x aM hi none) s (.aY k z p (q-p) (n-p)) s.own s.n:=j0 fun H ids st fr av aa=>by
 obtain⟨b,h1,h2⟩:=aa.af J;obtain⟨vs,a4,b2,cx⟩:=pL av U h1;refine⟨_,⟨b,h1,rfl⟩,?_⟩;show AI n z x aM hi none call fr st=_;unfold AI aw.gH;rw[h2,qE,Sym.eO,Sym.hZ,a4,kO,cond_false,BM,fc.af fI aa hq,fc.af fo aa hp];congr 2;by_cases ll:n=p
 ·subst ll;rcases h0 with h0|h0
  ·omega
  ·subst h0;rw[jU rfl];simp
 ·rw[r2 ll,pJ,zaw];rfl
def atv{cf:d7}(J:bj s.env x=some (.p k 0))(aA:bj s.env y=some (.i cf (n:Int)))(U:s.own[k]? =some (.a el aX 1 bv kK l))(hn:n=l.length)(h0:n≠0)(hb:n<=1099511627776):fE call (.sO el x y) s (.s l) (s.own.set k .x) s.n:=fun H ids st fr av aa=>by
 obtain⟨b,h1,h2⟩:=aa.af J;have h3:fr.af y= .int cf (n:Int):=aa.af aA;obtain⟨vs,a4,b2,cx⟩:=pL av U h1;have cU:=KI (⟨b2,cx⟩:jw H ids kK 1 l vs);refine⟨_,_,ids,H,?_,av.gP U rfl h1 (ej:=.cells vs el (0,0+n) aX) trivial,rfl,dg.refl _,c5.refl _,fun _ _ _ B=>B.gP (zaz h1) _,bY _,?_⟩
 ·show Ic el x y call fr st=_;unfold Ic aw.gH;rw[h2,qE,h3,mb,nW,r2 h0,Sym.eO,fW (show n<=2^40 from hb),Sym.hZ,a4,kO,fW (bY _),jU rfl,rY (by show n<=(vs.drop 0).length;rw[zaq,b2];omega)];show bd (bytesOf ((vs.drop 0).take n)) _ _=_;rw[zaq,zay (by rw[b2];omega),cU,Sym.eO,j5];rfl
 ·intro dN _ cl;exact an.h7 _ _ (fun e=>cl k (by simp[kE,J]) (e▸h1))
def tQ(c:bv)(l:ac bv):Int:=match qf c l with
 |some i=>i
 |none=> -1
def amA{c:bv}(J:bj s.env x=some (.s l))(aA:bj s.env y=some (.i .u8 (c.toNat:Int))):fE call (.kl x y) s (.i .i64 (tQ c l)) s.own s.n:=j0 fun H ids st fr av aa=>by
 have h1:fr.af x= .string ⟨⟨l⟩⟩:=aa.af J;have h2:fr.af y= .int .u8 (c.toNat:Int):=aa.af aA;refine⟨_,rfl,?_⟩;show H7 x y call fr st=_;unfold H7;rw[h1,Bj,h2,mb,show jE .u8 .u8=true from rfl,cond_true,nW,UInt8.ofNat_toNat];unfold tQ;show aS.ok (.int .i64 (bd (qf c l) (fun i=>.ofNat i) (.negSucc 0))) fr st=_;cases qf c l<;>rfl
end
set_option maxRecDepth 10000
def YG{X:Ctx}{K:ci->gu}{f:ci}(h:K f=gu.no)(as:ac be)(st:aw):dc X K f as st=none:=by
 unfold dc;rw[h,dif_neg (fun⟨p,h1,_⟩=>h1),dif_neg (fun⟨p,h1,_⟩=>h1)]
def ed.trans{cd H br:bz}{i0 ids cY:ac Nat}{aH st st':aw}(h:ed cd i0 aH H ids st)(az:ed H ids st br cY st'):ed cd i0 aH br cY st':=by
 have hn:∀b,b<aH.ag->b∉i0->b<st.ag∧b∉ids:=fun b hb hi=>⟨fC hb h.ag,fun hm=>(h.new b hm).elim hi (fun h=>by omega)⟩;refine⟨h.hle.trans az.hle,fun b hb hi=> ?_,fun b hb hi=> ?_,zai h.ag az.ag,fun k b U=>az.mB k b (h.mB k b U),fun b hb=> ?_⟩
 ·obtain⟨h1,h2⟩:=hn b hb hi;rw[az.hold b h1 h2,h.hold b hb hi]
 ·obtain⟨h1,h2⟩:=hn b hb hi;rw[az.ie b h1 h2,h.ie b hb hi]
 ·rcases az.new b hb with h1|h1
  ·exact h.new b h1
  ·exact .inr (zai h.ag h1)
section
variable{X:Ctx}{bl:an dh}{cP:ci->gu}{cm n:Nat}{fn:ci}{cd:bz}{i0:ac Nat}{aH:aw}{Q:dM->cG->Prop}{K:ac eH}{own:ac ay}{aK:Nat}{e:bO}
def acp(ax:fu)(K:ac eH)(xs:ac bE)(d:am Tmp)(e:bO)(res:ac iU)(x:dM)(s:cG):Prop:=(x= .norm∨x= .ret)∧∃r,Fin.wC s res=some r∧aU.ok ax ⟨K,.o xs,⟨s.own,s.n,fx d r e⟩⟩
def wy{g:ci}(xf:dh)(J:bl.get g=some xf){cH:ac bi}{as:ac ab}{d:am Tmp}{xs:ac bE}
 (k:∀H1 i1 s1,i1.length=own.length->dg cd H1->aU.ok ⟨cX bl (dc X cP) (n+1),n+1,g,H1,i1,s1,acp ⟨cX bl (dc X cP) (n+2),cm,fn,cd,i0,aH,Q⟩ K xs d e xf.res⟩ ⟨[],.c xf.body,⟨own,aK,nI 0 as⟩⟩)
 (ha:k4 e cH=some as:=by rfl) (hl:as.length<=xf.aO:=by exact jN rfl) (dO:cP g=gu.no:=by rfl):aU.ok ⟨cX bl (dc X cP) (n+2),cm,fn,cd,i0,aH,Q⟩ ⟨K,.o (⟨d,.call (.func g) cH,none⟩::xs),⟨own,aK,e⟩⟩:=by
 intro H ids st fr a5 av aa;have al:=aa.eC ha;have gx:=k H ids st (av.len.trans av.cE.symm) a5.hle H ids st (gf (eC fr cH)) (ed.refl _ _ _) av (c3.zero al);obtain⟨v,st',h1,r,br,cY,s,et,eh,g6,U⟩:=Ft (n:=n+1) (f:=g) (Post:=fun v st'=>∃(r:ab) (br:bz) (cY:ac Nat) (s:cG),ed H ids st br cY st'∧Fit br cY st' s.own s.n∧den br r cY v∧aU.ok ⟨cX bl (dc X cP) (n+2),cm,fn,cd,i0,aH,Q⟩ ⟨K,.o xs,⟨s.own,s.n,fx d r e⟩⟩)
  (by rw[h6 al];exact hl) (gx.mono (by
   rintro x eo cg ⟨br,cY,s,et,eh,eD,J,r,hr,U⟩;obtain⟨v,h3,au⟩:=I4 (call:=cX bl (dc X cP) (n+1)) eh eD hr;exact⟨J,v,au,r,br,cY,s,et,eh,h3,U⟩))
 refine uL (v:=v) (st':=st') ?_ (U br cY st' _ (a5.trans et) eh ((aa.mono et.hle et.mB).fx d g6));rw[AG];show xr (cX bl (dc X cP) (n+2) (.func (.func g) #[] #[]) (eC fr cH) none st) _ _=_;rw[zl];have a0:gG (#[]:ap be).toList (gG (eC fr cH) (#[]:ap be).toList)=eC fr cH:=by simp
 rw[a0,YG dO,Sym.hZ,Sym.hZ,J,Sym.eO,h1];rfl
end
theorem KJ{H:bz}{ids:ac Nat}{α:Type}{R:α->ac ab}{z:Nat}(aE:∀w,(R w).length=z):∀{l:ac α} {vs:ac be},jw H ids R z l vs->db H (l.flatMap R) ids vs
 |[],vs,h=>by
  have:vs=[]:=zbB (by rw[h.1];simp);exact this
 |w::l,vs,h=>by
  rw[<-zbn z vs,zdF];have h1:=h.2 0 w (by simp);rw[zav,zaq]at h1;have h2:=zp h 1;rw[zaH]at h2;exact zy h1 (KJ aE (l:=l) h2)
section
variable{ax:fu}{K:ac eH}{own bC:ac ay}{aK b0:Nat}{e:bO}{d:Tmp}{xs:ac bE}{x y i:bi}
variable{el:ce}{cJ:Nat}{l:ac bv}{n z:Nat}{α:Type}{p:ac bE}{aX:Bool}{j:Nat}{R:α->ac ab}
def ap5(k:Nat){l:ac α}(cf:aU.ok ax ⟨K,.o p,⟨bC,aK,e⟩⟩)(U:own[k]? =some (.a el false z α R l):=by rfl)(aE:∀w,(R w).length=z:=by exact fun _=>rfl)(ai:kq own k (.c el (l.flatMap R)) some=some bC:=by rfl):aU.ok ax ⟨K,.o p,⟨own,aK,e⟩⟩:=fun H ids st fr a5 av aa=>by
 have:=lB ai;cases this;refine cf H ids st fr a5 ⟨av.wf,av.le,by simp[av.cE],av.len,av.bU,av.lt,?_⟩ aa;intro j q c hj hc;by_cases mv:k=j
 ·subst mv;rw[zbr,zab rfl]at hj;split at hj<;>cases hj;obtain⟨⟨vs,h3,au,aW⟩,ch⟩:=av.own k _ c U hc;exact⟨⟨vs,h3,KJ aE ⟨au,aW⟩⟩,fun _=>ch rfl⟩
 ·rw[zbr,zaa mv]at hj;exact av.own j q c hj hc
def aqc(t:Nat){k:Nat}{l:ac α}(cf:aU.ok ax ⟨K,.o p,⟨bC,aK,(t,.ip (l.flatMap R))::e⟩⟩)(aN:dZ e t=some (.p k 0):=by rfl)(U:own[k]? =some (.a el aX z α R l):=by rfl)(hp:∀x,iN (R x)=true:=by exact fun _=>rfl)(aE:∀w,(R w).length=z:=by exact fun _=>rfl)(ai:kq own k .x some=some bC:=by rfl):aU.ok ax ⟨K,.o p,⟨own,aK,e⟩⟩:=fun H ids st fr a5 av aa=>by
 have:=lB ai;cases this;obtain⟨b,aG,aI⟩:=aa.get t _ aN;obtain⟨⟨vs,a4,b2,cx⟩,_⟩:=av.own k _ b U aG;have hle:=zN av U rfl aG;refine cf (jo H st b) ids st fr (a5.jo av U rfl aG) (av.jo U rfl aG) ⟨(aa.mono hle (c5.refl _)).pl,fun j q hj=> ?_⟩;rw[qj]at hj;cases hb:Nat.beq t j with
 |false=>rw[hb]at hj;exact(aa.mono hle (c5.refl _)).get j q hj
 |true=>
  rw[hb]at hj;cases hj;rw[<-ek hb];have hc:jw H [] R z l vs:=⟨b2,fun i x J=>o3 _ (hp x) (cx i x J) []⟩;have al:=KJ aE hc;have hl:=h6 al;refine⟨b,0,vs,el,(0,0),aX,aI,by unfold jo;rw[zab rfl];exact a4,?_⟩;rw[zaq,<-hl,zbY];exact lL hle _ (c5.refl _) al
def aaW{call:bL}{s:cG}(aA:bj s.env y=some (.s l)):uW call el cJ s y kK 1 l:=fun H ids st fr av aa x p n c J=>by
 have h1:fr.af y= .string ⟨⟨l⟩⟩:=aa.af aA;obtain⟨h2,h3⟩:=QW H ids l;refine⟨lb l,h2,h3,?_⟩;have e:bP call (.app el 1 cJ x y) fr st=hL (fr.af x) (fun base len cap=>hL (fr.af y) (fun b n _=>bd b (fun b=>st.load b (Nat.mul n 1) (fun new=>cond (gZ new) (iX fr st el 1 cJ base len cap n new) .no) .no) (dW n 0 (iX fr st el 1 cJ base len cap 0 []) .no)) (sP (fr.af y) (iX fr st el 1 cJ base len cap 0 []) (hM (fr.af y) (fun s=>dW 1 1 (iX fr st el 1 cJ base len cap (df s.data.toList) (lb s.data.toList)) .no) .no))) .no:=rfl;rw[e,J,oe,h1];show dW 1 1 (iX fr st el 1 cJ p n c (df l) (lb l)) .no=_;rw[jU rfl,fs]
def ap4(k:aU.ok ax ⟨K,.o xs,⟨bC,b0,(d,.aY aK 1 0 l.length l.length)::e⟩⟩)(J:bj e x=some .nl:=by rfl)(aA:bj e y=some (.s l):=by rfl)
 (ai:qC own (.a el true 1 bv kK l) some=some bC:=by rfl) (iF:nX aK some=some b0:=by rfl) (h0:l≠[]:=by first|rfl|simp) (hb:(5*l.length+1792)*(cJ+1)<=1125899906842624:=by first|omega|(simp;done)|(simp;omega)):aU.ok ax ⟨K,.o (⟨some d,.app el 1 cJ x y,none⟩::xs),⟨own,aK,e⟩⟩:=by
 have h1:=rK ai;have h2:=pr iF;cases h1;cases h2;exact er (P5 (s:=⟨own,aK,e⟩) J (aaW aA) h0 hb) k
def ap3{bK c:Nat}{m:ac bv}{iw:ac ay}(k:aU.ok ax ⟨K,.o xs,⟨bC,b0,(d,.aY aK 1 0 (n+m.length) (n+m.length))::e⟩⟩)(J:bj e x=some (.aY bK 1 0 n c):=by rfl)(aA:bj e y=some (.s m):=by rfl)(U:own[bK]? =some (.a el true 1 bv kK l):=by rfl)
 (mx:kq own bK .x some=some iw:=by rfl) (ai:qC iw (.a el true 1 bv kK (l++m)) some=some bC:=by rfl) (iF:nX aK some=some b0:=by rfl) (h0:m≠[]:=by first|rfl|simp) (hn:n=l.length:=by first|omega|(simp;done)|(simp;omega)) (kD:n=c:=by omega) (hb:(5*(n+m.length)+1792)*(cJ+1)<=1125899906842624:=by first|omega|(simp;done)|(simp;omega)):aU.ok ax ⟨K,.o (⟨some d,.app el 1 cJ x y,none⟩::xs),⟨own,aK,e⟩⟩:=by
 have kh:=lB mx;cases kh;have h1:=rK ai;have h2:=pr iF;cases h1;cases h2;have:=P4 (call:=ax.call) (s:=⟨own,aK,e⟩) (cJ:=cJ) J U (aaW aA) h0 (by omega) (by omega) (by omega) hb;rw[hn,zbY]at this;rw[hn]at k;exact er this k
def IZ{bK:Nat}{cf:d7}(k:aU.ok ax ⟨K,.o xs,⟨own,aK,(d,.gA bK 1 j 0)::e⟩⟩)(J:bj e x=some (.p bK 0):=by rfl)(hi:bj e i=some (.i cf (j:Int)):=by rfl)(hj:j<n:=by omega):aU.ok ax ⟨K,.o (⟨some d,.si n 1 x i,none⟩::xs),⟨own,aK,e⟩⟩:=
 er (fun H ids st fr av aa=>let⟨v,st',cY,br,h1,h2,h3,au⟩:=nh (call:=ax.call) (s:=⟨own,aK,e⟩) (z:=1) J hi hj H ids st fr av aa;⟨v,st',cY,br,h1,h2,anD (by omega) _ _ _ h3,au⟩) k
def aqd{g:Nat}{cf:d7}{vs:ac be}{a8:Nat×Nat}{cs:ac ab}(aJ:ax.cd g=some (.cells vs el a8 aX))(al:∀H,db H cs [] vs)(k:aU.ok ax ⟨K,.o xs,⟨own,aK,(d,.ip (cs.drop j))::e⟩⟩)(J:bj e x=some (.v (.pointer (some ⟨g,0,none⟩))):=by rfl)(hi:bj e i=some (.i cf (j:Int)):=by rfl)(hj:j<n:=by omega):aU.ok ax ⟨K,.o (⟨some d,.si n 1 x i,none⟩::xs),⟨own,aK,e⟩⟩:=by
 have:=Wp (call:=ax.call) (s:=⟨own,aK,e⟩) (z:=1) J aJ al hi hj;rw[zaI]at this;exact Ek (d:=some d) this k
end
section
variable{call:bL}{s:cG}{x y:bi}
variable{neg:Bool}
def RK{c:Bool}{t:oP}{fr:aP}{st:aw}(hc:kS 8 t (fr.af x) (fr.af y)=some c):bP call (.eqv neg t x y) fr st= .ok (.bool (kd neg c)) fr st:=by
 show bd (kS 8 t (fr.af x) (fr.af y)) (fun b=>aS.ok (.bool (cond neg (!b) b)) fr st) .no=_;rw[hc];rfl
def afY(J:bj s.env x=some (.v (.pointer none)))(aA:bj s.env y=some (.v (.pointer none))):fE call (.eqv neg .ptr x y) s (.b (kd neg true)) s.own s.n:=j0 fun H ids st fr av aa=>
 ⟨_,rfl,RK (by rw[show fr.af x=_ from aa.af J,show fr.af y=_ from aa.af aA];simp[kS,r3])⟩
def afZ{k o:Nat}(J:bj s.env x=some (.p k o))(aA:bj s.env y=some (.p k o)):fE call (.eqv neg .ptr x y) s (.b (kd neg true)) s.own s.n:=j0 fun H ids st fr av aa=>by
 obtain⟨b,h1,h2⟩:=aa.af J;obtain⟨dN,kV,h3⟩:=aa.af aA;rw[h1]at kV;cases kV;exact⟨_,rfl,RK (by rw[h2,h3];simp[kS,r3])⟩
end
section
variable{ax:fu}{K:ac eH}{own bC bN iw:ac ay}{aK bb b7 back:Nat}{e a0:bO}{d:Tmp}{ts:ac Tmp}{xs:ac (bE×cw)}{x y i:bi}
variable{n:Nat}
def aeV{bK z c:Nat}(k:aU.ok ax ⟨K,.d xs bN ((d,.p bK 0)::a0) bb b7,⟨own,aK,(d,.p bK 0)::e⟩⟩)(J:bj (eN ts a0) x=some (.aY bK z 0 n c):=by rfl)(hc:c≠0:=by omega)(hb:back<bb:=by decide):aU.ok ax ⟨K,.d ((⟨some d,.A1 x,none⟩,.read back ts)::xs) bN a0 bb b7,⟨own,aK,e⟩⟩:=
 o1 (d:=some d) (a:=.p bK 0) hb (fun H ids st fr aa _ _=>by
  obtain⟨b,h1,h2⟩:=aa.af J;refine⟨_,⟨b,h1,rfl⟩,fun dz _ _=> ?_⟩;show Ib x ax.call fr dz=_;unfold Ib;rw[h2,oe,zav,Sym.eO,r2 hc]) k
def aeX{bK:Nat}{el:ce}{aX:Bool}{l:ac bv}{cf:d7}{aq:bO}(k:aU.ok ax ⟨K,.d xs iw aq (bb+1) aK,⟨bC,aK,(d,.s l)::e⟩⟩)(J:bj e x=some (.p bK 0):=by rfl)(aA:bj e y=some (.i cf (n:Int)):=by rfl)(U:own[bK]? =some (.a el aX 1 bv kK l):=by rfl)(ai:kq own bK .x some=some bC:=by rfl)(mx:DW bN (some bK) some=some iw:=by rfl)(akM:nF d a0=aq:=by rfl)
 (hn:n=l.length:=by first|rfl|omega|(simp;done)) (h0:n≠0:=by omega) (hb:n<=1099511627776:=by omega):aU.ok ax ⟨K,.d ((⟨some d,.sO el x y,none⟩,.ez)::xs) bN a0 bb b7,⟨own,aK,e⟩⟩:=by
 have h:=lB ai;cases h;obtain⟨ao5,aG,aI,a4⟩:=N2 mx;cases aG;subst akM;exact KU (d:=some d) (s:=⟨own,aK,e⟩) (atv (s:=⟨own,aK,e⟩) J aA U hn h0 hb) aI (fun k o fi hl=>by
  have:=a4 k o fi hl;simp only[kE,J];exact this) k
end
variable{st:aw}{H:bz}{ids:ac Nat}{n:Nat}{fr:aP}{call:bL}{l:Nat}
def as1{own:ac ay}{p:Nat}{e cj:bO}{o q:ay}(h:kM [0,2] cj e)(ai:∃bf,own[0]? =some bf∧e8 [0,2] o bf)(hq:∃bf,own[2]? =some bf∧e8 [0,2] q bf)(hp:pinned p [0,2] 0=true:=by rfl):Sub p [0,2] ⟨own,n,e⟩ ⟨[o,q],2,cj⟩:=⟨by simp,rfl,⟨ai,hq,trivial⟩,h,hp⟩
def plainO:c7->Bool
 |.l1 _=>true
 |.alloc _ _=>true
 |.call _ _=>true
 |_=>false
def aoR{o:c7}{aC:aP}{st':aw}{v:be}(ai:plainO o=true)(h:bP call o fr st= .ok v aC st'):aC=fr:=by
 cases o<;>first|cases ai|skip
 ·cases h;rfl
 ·rename_i z el;have e:bP call (.alloc z el) fr st=st.jg (.cells z el (0,0) false) fun id st=>.ok (.pointer (some ⟨id,0,none⟩)) fr st:=rfl;rw[e,gz]at h;cases h;rfl
 ·rename_i f as;rw[AG]at h;cases hc:call (fr.af f) (eC fr as) none st with
  |ret v1 cg eF=>rw[hc,agD]at h;cases h;rfl
  |ba v1 cg eF=>rw[hc,agC]at h;cases h
  |no=>rw[hc]at h;cases h
theorem YE{call:bL}:∀{ops:ac bE} {fr aC:aP} {st st':aw} {e:dM},(ops.all fun x=>x.g.isNone&&plainO x.o)=true->iY call ops fr st= .out e aC st'->aC.b3=fr.b3
 |[],_,_,_,_,_,_,h=>by cases h;rfl
 |⟨d,o,g⟩::ops,fr,aC,st,st',e,ha,h=>by
  rw[List.all_cons,bX,bX]at ha;obtain⟨⟨aJ,ai⟩,ha⟩:=ha;cases g with
  |some p=>cases aJ
  |none=>
   have h:AD (bP call o fr st) (fun v fr st=>iY call ops (fr.put d v) st) (fun v st=>cond o.mX (.out (.ba v) fr st) .no)= .out e aC st':=h;have ai:plainO o=true:=ai;cases dq:bP call o fr st with
   |ok v eo cg=>
    have aq:=aoR ai dq;subst aq;rw[dq,NM]at h;rw[YE ha h];exact(wk _ _ _).2.2.2
   |ba v cg=>
    rw[dq,aoK]at h;cases hp:o.mX with
    |true=>rw[hp,cond_true]at h;cases h;rfl
    |false=>rw[hp,cond_false]at h;cases h
   |no=>rw[dq,aoJ]at h;cases h
def seg{cm:Nat}{fn:ci}{ops:ac bE}{s t:cG}(hp:(ops.all fun x=>x.g.isNone&&plainO x.o)=true)(h:∀H1 i1 s1,i1.length=s.own.length->dg H H1->aU.ok ⟨call,cm,fn,H1,i1,s1,fun x bm=>x= .norm∧bm=t⟩ ⟨[],.o ops,s⟩)
 (av:Fit H ids st s.own s.n) (aa:c3 fr H ids s.env):∃aC st' br cY,dB call cm fn (.yD ops) fr st= .out .norm aC st'∧ed H ids st br cY st'∧Fit br cY st' t.own t.n∧c3 aC br cY t.env∧aC.b3=fr.b3:=by
 obtain⟨e,aC,st',h1,br,cY,bm,a5,eh,eD,rfl,rfl⟩:=h H ids st (av.len.trans av.cE.symm) (dg.refl _) H ids st fr (ed.refl _ _ _) av aa;exact⟨aC,st',br,cY,h1,a5,eh,eD,YE hp h1⟩
def Fit.extra{own:ac ay}(h:Fit H ids st own n)(ej:bD):Fit H ids ⟨st.h.set st.ag ej,st.ag+1⟩ own n:=by
 have cl:∀b,b<st.ag->(an.set st.h st.ag ej).get b=st.h.get b:=fun b hb=>an.h7 _ _ (by omega);refine⟨fun i hi=> ?_,fun b o hb=> ?_,h.cE,h.len,h.bU,fun b hb=>Nat.lt_succ_of_lt (h.lt b hb),fun k o b U hb=> ?_⟩
 ·show(an.set st.h st.ag ej).get i=none;have hi:st.ag+1<=i:=hi;rw[an.h7 _ _ (by omega)];exact h.wf i (by omega)
 ·show(an.set st.h st.ag ej).get b=some o;rw[cl b (h.aV hb)];exact h.le b o hb
 ·show m1 H ids o ((an.set st.h st.ag ej).get b)∧_;rw[cl b (h.lt b (zaz hb))];exact h.own k o b U hb
def Fit.other{own:ac ay}(h:Fit H ids st own n)(hl:l<st.ag)(hi:l∉ids)(dv:H l=none)(ej:bD):Fit H ids ⟨st.h.set l ej,st.ag⟩ own n:=by
 refine⟨fun i ec=> ?_,fun b o hb=> ?_,h.cE,h.len,h.bU,h.lt,fun k o b U hb=> ?_⟩
 ·show(an.set st.h l ej).get i=none;have ec:st.ag<=i:=ec;rw[an.h7 _ _ (by omega)];exact h.wf i ec
 ·show(an.set st.h l ej).get b=some o;rw[an.h7 _ _ (fun e=>by rw[e,dv]at hb;cases hb)];exact h.le b o hb
 ·show m1 H ids o ((an.set st.h l ej).get b)∧_;rw[an.h7 _ _ (by intro e;subst e;exact hi (zaz hb))];exact h.own k o b U hb
def c5.eq{i j:ac Nat}(h:c5 i j)(hl:i.length=j.length):i=j:=by
 apply zbD;intro k;by_cases U:k<i.length
 ·rw[bF U,h k _ (bF U)]
 ·rw[zbG (by omega),zbG (by omega)]
def N4:ac Tmp->ac ab->bO->bO
 |t::ts,a::as,e=>N4 ts as ((t,a)::e)
 |_,_,e=>e
def c3.par{c1:ac Deferred}{ba:am be}{eF:Bool}{I1:am Nat}:∀{ts:ac Tmp} {as:ac ab} {vs:ac be} {t:an be} {e:bO},db H as ids vs->c3 ⟨t,c1,ba,eF,I1⟩ H ids e->c3 ⟨n2 ts vs t,c1,ba,eF,I1⟩ H ids (N4 ts as e)
 |[],[],_,_,_,_,h=>h
 |[],_::_,_,_,_,_,h=>h
 |_::_,[],vs,t,e,d,h=>by cases d;exact h
 |p::ts,a::as,_,t,e,⟨v,ws,rfl,d1,d2⟩,h=>by
  have h1:=h.put p d1;have aq:(⟨t,c1,ba,eF,I1⟩:aP).put (some p) v=⟨t.set p v,c1,ba,eF,I1⟩:=by
   rw[Oc]
  rw[aq]at h1;have:=c3.par (ts:=ts) (as:=as) (vs:=ws) d2 h1;have e2:n2 (p::ts) (v::ws) t=n2 ts ws (t.set p v):=by
   show an.ik (Nat.succ p) t p v (fun m=>n2 ts ws m)=_;rw[an.yG]
  rw[e2];exact this
def aqB(al:fr.c1=[]){s:LoopState}{gm:am dM}{fn:ci}{t:an be}{ps:ac Tmp}{a b:dp}{d:Nat}(aJ:st.h.get l=some (.loop s gm fn t ps a b d)):qA l (.out .norm fr st)= .ret (.bool true) ⟨st.h.set l (.loop .ready none fn t ps a b d),st.ag⟩ false:=by
 have e:qA l (.out .norm fr st)=List.rec (motive:=fun _=>dL) (mE (st.h.get l) (fun _ _ fn t ps a b d=>st.g2 l (.loop .ready none fn t ps a b d) fun st=>.ret (.bool true) st false) .no) (fun _ _ _=>.no) fr.c1:=rfl;rw[e,al,aJ];show(st.g2 l (.loop .ready none fn t ps a b d) fun st=>dL.ret (.bool true) st false)=_;rw[j5]
section
variable{X:Ctx}{bl:an dh}{cP:ci->gu}{cm n:Nat}{fn:ci}{cd:bz}{i0:ac Nat}{aH:aw}{Q:dM->cG->Prop}{K:ac eH}{own:ac ay}{aK:Nat}{e:bO}
def acE(ax:fu)(K:ac eH)(xs:ac bE)(d:am Tmp)(e:bO)(aK:Nat)(x:dM)(s:cG):Prop:=x= .norm∧∃bC f,f.length=aK∧Sub aK f s ⟨bC,aK,[]⟩∧aU.ok ax ⟨K,.o xs,⟨bC,aK,fx d (.b true) e⟩⟩
def aql{lK:Nat}{nK:ci}{pD:an be}{ps:ac Tmp}{dk body:dp}{o4 e2:bO}{y:bi}{cH:ac bi}{as:ac ab}{d:am Tmp}{xs:ac bE}
 (hl:aH.h.get l=some (.loop .ready none nK pD ps dk body lK)) (q5:l<aH.ag) (gR:l∉i0) (dv:cd l=none) (aN:c3 ⟨pD,[],none,false,some l⟩ cd i0 o4)
 (ana:∀H1 i1 s1,aU.ok ⟨cX bl (dc X cP) (n+1),n+1,nK,H1,i1,s1,fun x s=>x= .norm∧s=⟨own,aK,e2⟩⟩ ⟨[],.c dk,⟨own,aK,N4 ps as o4⟩⟩)
 (anb:∀H1 i1 s1,i1.length=own.length->dg cd H1->aU.ok ⟨cX bl (dc X cP) (n+1),n+1,nK,H1,i1,s1,acE ⟨cX bl (dc X cP) (n+2),cm,fn,cd,i0,aH,Q⟩ K xs d e aK⟩ ⟨[],.c body,⟨own,aK,e2⟩⟩)
 (aA:bj e y=some (.v (.func (.yield l) #[] #[])):=by rfl) (ha:k4 e cH=some as:=by rfl) (hlen:as.length=ps.length:=by rfl):
 aU.ok ⟨cX bl (dc X cP) (n+2),cm,fn,cd,i0,aH,Q⟩ ⟨K,.o (⟨d,.call y cH,none⟩::xs),⟨own,aK,e⟩⟩:=by
 intro H ids st fr a5 av aa;have a5:ed cd i0 aH H ids st:=a5;have al:=aa.eC ha;have fV:fr.af y= .func (.yield l) #[] #[]:=aa.af aA;have z1:l∉ids:=fun hm=>(a5.new l hm).elim gR (fun h=>by have h:aH.ag<=l:=h;omega);have Mg:l<st.ag:=fC q5 a5.ag;have kj:st.h.get l=some (.loop .ready none nK pD ps dk body lK):=(a5.ie l q5 gR).trans hl;have Cx:H l=none:=(a5.hold l q5 gR).trans dv;have GV:ids.length=aK:=av.len;obtain⟨dQ,eo,cg,aG,H1,Wu,s1,ow,p2,tD,rfl,rfl⟩:=ana H ids st H ids st ⟨n2 ps (eC fr cH) pD,[],none,false,some l⟩ (ed.refl _ _ _) av ((aN.mono a5.hle a5.mB).par al);have aq:ids=Wu:=ow.mB.eq (GV.trans p2.len.symm);subst aq;have ow:ed H ids st H1 ids cg:=ow;have GL:cg.h.get l=some (.loop .ready none nK pD ps dk body lK):=(ow.ie l Mg z1).trans kj;have Vt:H1 l=none:=(ow.hold l Mg z1).trans Cx;have hx:l<cg.ag:=fC Mg ow.ag;have xv:=p2.other hx z1 Vt (.loop .busy none nK pD ps dk body lK);obtain⟨avX,Lo,gO,a4,rU,sj,yF,vp,Cu,akS,rfl,bC,f,tF,C5,U⟩:=anb H1 ids ⟨cg.h.set l (.loop .busy none nK pD ps dk body lK),cg.ag⟩ (p2.len.trans p2.cE.symm) (a5.hle.trans ow.hle) H1 ids _ eo (ed.refl _ _ _) xv tD;have ak7:gO.h.get l=some (.loop .busy none nK pD ps dk body lK):=(vp.ie l hx z1).trans (an.q0 _ _ _);have akd:rU l=none:=(vp.hold l hx z1).trans Vt;have Mb:l<gO.ag:=fC hx vp.ag;have xU:Sub ids.length f yF ⟨bC,aK,[]⟩:=by rw[GV];exact C5
 have CZ:=N5 (by omega) xU.Ij vp.mB;have Cv:=xU.fit Cu;have kW:=xU.bS Cu vp;rw[CZ]at Cv kW;have kW:ed H1 ids ⟨cg.h.set l (.loop .busy none nK pD ps dk body lK),cg.ag⟩ rU ids gO:=kW;have aka:=Cv.other Mb z1 akd (.loop .ready none nK pD ps dk body lK);have LV:cX bl (dc X cP) (n+2) (.func (.yield l) #[] #[]) (eC fr cH) none st= .ret (.bool true) ⟨gO.h.set l (.loop .ready none nK pD ps dk body lK),gO.ag⟩ false:=by
  have a0:cX bl (dc X cP) (n+2) (.func (.yield l) #[] #[]) (eC fr cH) none st=yW (cX bl (dc X cP) (n+1)) (n+1) l (eC fr cH) st:=rfl;rw[a0];unfold yW;rw[kj];show dW (df (eC fr cH)) (df ps) _ _=_;rw[jU (by rw[fs,fs,h6 al,hlen]),aG];show AZ (cX bl (dc X cP) (n+1)) (n+1) l nK body eo cg=_;unfold AZ;rw[GL];show(cg.g2 l (.loop .busy none nK pD ps dk body lK) fun st=>qA l (dB (cX bl (dc X cP) (n+1)) (n+1) nK body eo st))=_;rw[j5,a4];exact aqB akS.pl.c1 ak7
 refine uL (v:=.bool true) (st':=⟨gO.h.set l (.loop .ready none nK pD ps dk body lK),gO.ag⟩) ?_ (U rU ids _ _ ?_ aka ((aa.mono (ow.hle.trans kW.hle) (c5.refl _)).fx d rfl))
 ·rw[AG,fV];show xr (cX bl (dc X cP) (n+2) (.func (.yield l) #[] #[]) (eC fr cH) none st) _ _=_;rw[LV];rfl
 ·have hle:dg H rU:=ow.hle.trans kW.hle;refine⟨a5.hle.trans hle,fun b hb hi=> ?_,fun b hb hi=> ?_,zai a5.ag (zai ow.ag kW.ag),a5.mB,a5.new⟩
  ·have hb:b<aH.ag:=hb;have zS:b∉ids:=fun hm=>(a5.new b hm).elim hi (fun h=>by have h:aH.ag<=b:=h;omega);have gh:b<st.ag:=fC hb a5.ag;exact(kW.hold b (fC gh ow.ag) zS).trans ((ow.hold b gh zS).trans (a5.hold b hb hi))
  ·have hb:b<aH.ag:=hb;have zS:b∉ids:=fun hm=>(a5.new b hm).elim hi (fun h=>by have h:aH.ag<=b:=h;omega);have gh:b<st.ag:=fC hb a5.ag;show(an.set gO.h l _).get b=aH.h.get b;by_cases kA:b=l
   ·subst kA;rw[an.q0];exact hl.symm
   ·rw[an.h7 _ _ kA];refine(kW.ie b (fC gh ow.ag) zS).trans ?_;show(an.set cg.h l _).get b=aH.h.get b;rw[an.h7 _ _ kA];exact(ow.ie b gh zS).trans (a5.ie b hb hi)
def acw(Post:ac ay->Prop)(aK:Nat)(res:ac iU)(x:dM)(s:cG):Prop:=(x= .norm∨x= .ret)∧(∃r,Fin.wC s res=some r)∧∃bC f,f.length=aK∧Sub aK f s ⟨bC,aK,[]⟩∧Post bC
def at1(qb:fr.b3=none)(av:Fit H ids st own aK)(aa:c3 fr H ids e){f:bi}{ps:ac Tmp}{dk body:dp}{g:ci}{xf:dh}{caps:ac ab}(Post:ac ay->Prop)(J:bl.get g=some xf)(fH:bj e f=some (.fn (.func g) [] caps))(dO:cP g=gu.no)(Mn:caps.length+1<=xf.aO)
 (anc:∀(s1:aw) (l:Nat),ids.length=own.length->s1.h.get l=some (.loop .ready none fn fr.t ps dk body st.ag)->l<s1.ag->l∉ids->H l=none->c3 ⟨fr.t,[],none,false,some l⟩ H ids e->
  aU.ok ⟨cX bl (dc X cP) (n+2),n+2,g,H,ids,s1,acw Post aK xf.res⟩ ⟨[],.c xf.body,⟨own,aK,nI 0 (.v (.func (.yield l) #[] #[])::caps)⟩⟩):
 ∃aC st' br bC,dB (cX bl (dc X cP) (n+3)) cm fn (.I2 f ps dk body) fr st= .out .norm aC st'∧aC.t=fr.t∧aC.c1={target:=.collected st.ag,args:= #[]}::fr.c1∧aC.cF=fr.cF∧
  ed H ids st br ids st'∧Fit br ids st' bC aK∧Post bC∧st'.h.get st.ag=some (.iV (some []))∧st.ag<st'.ag∧br st.ag=none:=by
 obtain⟨vs,ws,aF,d1,d2⟩:=aa.af fH;have d1:vs=[]:=d1;subst d1;have aV:∀b∈ids,b<st.ag:=av.lt;have LF:∀b,st.ag<=b->H b=none:=fun b hb=>by
  cases h:H b with
  |none=>rfl
  |some o=>have:=av.aV h;omega
 have akb:=av.extra (.iV (some []));have Vs:=akb.extra (.loop .ready none fn fr.t ps dk body st.ag);have ali:=anc ⟨(an.set st.h st.ag (.iV (some []))).set (st.ag+1) (.loop .ready none fn fr.t ps dk body st.ag),st.ag+1+1⟩ (st.ag+1) (av.len.trans av.cE.symm) (show(an.set (an.set st.h st.ag (.iV (some []))) (st.ag+1) (.loop .ready none fn fr.t ps dk body st.ag)).get (st.ag+1)=_ from an.q0 _ _ _) (zbZ _) (fun hm=>by have:=aV _ hm;omega) (LF _ (zbh _)) ⟨⟨rfl,rfl,rfl⟩,aa.get⟩;have VH:db H (.v (.func (.yield (st.ag+1)) #[] #[])::caps) ids (.func (.yield (st.ag+1)) #[] #[]::ws):=⟨_,ws,rfl,rfl,d2⟩;obtain⟨v,gO,h1,rU,sj,yF,bC,zL,vp,Cu,tF,C5,alN⟩:=Ft (n:=n+2) (f:=g) (Post:=fun v st'=>∃(br:bz) (cY:ac Nat) (s:cG) (bC:ac ay) (zL:ac Nat),ed H ids _ br cY st'∧Fit br cY st' s.own s.n∧zL.length=aK∧Sub aK zL s ⟨bC,aK,[]⟩∧Post bC)
  (by rw[h6 VH];exact Mn) ((ali H ids _ (gf _) (ed.refl _ _ _) Vs (c3.zero VH)).mono (by
   rintro x eo cg ⟨br,cY,s,et,eh,eD,J,⟨r,hr⟩,bC,zL,h1,h2,h3⟩;obtain⟨v,au,aW⟩:=I4 (call:=cX bl (dc X cP) (n+2)) eh eD hr;exact⟨J,v,aW,br,cY,s,bC,zL,et,eh,h1,h2,h3⟩))
 have GV:ids.length=aK:=av.len;have xU:Sub ids.length zL yF ⟨bC,aK,[]⟩:=by rw[GV];exact C5
 have CZ:=N5 (by omega) xU.Ij vp.mB;have Cv:=xU.fit Cu;have kW:=xU.bS Cu vp;rw[CZ]at Cv kW;have kW:ed H ids ⟨(an.set st.h st.ag (.iV (some []))).set (st.ag+1) (.loop .ready none fn fr.t ps dk body st.ag),st.ag+1+1⟩ rU ids gO:=kW;have avj:st.ag+1+1<=gO.ag:=kW.ag;have vC:∀b,st.ag<=b->b∉ids:=fun b hb hm=>by have:=aV _ hm;omega
 have CF:gO.h.get (st.ag+1)=some (.loop .ready none fn fr.t ps dk body st.ag):=(kW.ie _ (zbZ _) (vC _ (zbh _))).trans (show(an.set (an.set st.h st.ag (.iV (some []))) (st.ag+1) (.loop .ready none fn fr.t ps dk body st.ag)).get (st.ag+1)=_ from an.q0 _ _ _);have vu:gO.h.get st.ag=some (.iV (some [])):=by
  refine(kW.ie st.ag (by show st.ag<st.ag+1+1;omega) (vC _ (bY _))).trans ?_;show(an.set _ (st.ag+1) _).get st.ag=_;rw[an.h7 _ _ (by omega),an.q0]
 have Cx:rU (st.ag+1)=none:=(kW.hold _ (zbZ _) (vC _ (zbh _))).trans (LF _ (zbh _));have ake:rU st.ag=none:=(kW.hold _ (by show st.ag<st.ag+1+1;omega) (vC _ (bY _))).trans (LF _ (bY _));refine⟨⟨fr.t,{target:=.collected st.ag,args:= #[]}::fr.c1,fr.ba,fr.cF,fr.b3⟩,⟨gO.h.set (st.ag+1) (.loop .exhausted none fn fr.t ps dk body st.ag),gO.ag⟩,rU,bC,?_,rfl,rfl,rfl,?_,Cv.other (by omega) (vC _ (zbh _)) Cx _,alN,?_,by show st.ag<gO.ag;omega,ake⟩
 ·show Ch (cX bl (dc X cP) (n+3)) fn f ps dk body fr st=_;unfold Ch;rw[qb,Sym.hZ,gz,gz,aF,zl];have a0:gG (#[]:ap be).toList (gG [Value.func (.yield (st.ag+1)) #[] #[]] (⟨ws⟩:ap be).toList)=Value.func (.yield (st.ag+1)) #[] #[]::ws:=by simp
  show I3 _ _ (bd none _ (bd (dc X cP g (gG (#[]:ap be).toList (gG [Value.func (.yield (st.ag+1)) #[] #[]] (⟨ws⟩:ap be).toList)) _) _ (bd (bl.get g) _ _)))=_;rw[a0,YG dO,Sym.hZ,Sym.hZ,J,Sym.eO,h1];show mE (gO.h.get (st.ag+1)) _ _=_;rw[CF];show(gO.g2 (st.ag+1) (.loop .exhausted none fn fr.t ps dk body st.ag) fun st'=>bd none (fun e=>cW.out e _ st') (cW.out .norm _ st'))=_;rw[j5];rfl
 ·refine⟨kW.hle,fun b hb hi=>kW.hold b (by show b<st.ag+1+1;omega) hi,fun b hb hi=> ?_,by show st.ag<=gO.ag;omega,c5.refl _,fun b hb=>.inl hb⟩;show(an.set gO.h (st.ag+1) _).get b=_;rw[an.h7 _ _ (by omega),kW.ie b (by show b<st.ag+1+1;omega) hi];show(an.set (an.set st.h st.ag _) (st.ag+1) _).get b=_;rw[an.h7 _ _ (by omega),an.h7 _ _ (by omega)]
 ·show(an.set gO.h (st.ag+1) _).get st.ag=_;rw[an.h7 _ _ (by omega)];exact vu
end
variable{cm:Nat}{a:dp}{eo:aP}{cg:aw}{b:dp}{r:Nat}{f:ci}{xf:dh}{el:ce}
def JD{fn:ci}{Q:dM->aP->aw->Prop}(h:dB call cm fn a fr st= .out .norm eo cg)(k:W (dB call cm fn b eo cg) Q):W (dB call cm fn (.seq a b) fr st) Q:=by
 rw[Lb,h];exact k
def aqW{fn:ci}{lN:aP}{dz:aw}(h:dB call cm fn a fr st= .out .norm eo cg)(k:dB call cm fn b eo cg= .out .norm lN dz):dB call cm fn (.seq a b) fr st= .out .norm lN dz:=by
 rw[Lb,h];exact k
def adv{fn:ci}{i:Nat}(h:dB call cm fn a fr st= .out .norm eo cg):dB call cm fn (.block i a) fr st= .out .norm eo cg:=by
 rw[RM,h];rfl
def ed.other{cd:bz}{i0:ac Nat}{aH:aw}(h:ed cd i0 aH H ids st)(hr:aH.ag<=r)(ej:bD):ed cd i0 aH H ids ⟨st.h.set r ej,st.ag⟩:=⟨h.hle,h.hold,fun b hb hi=>by
 show(an.set st.h r ej).get b=_;rw[an.h7 _ _ (by omega)];exact h.ie b hb hi,h.ag,h.mB,h.new⟩
def QI{as:ac be}{Post:be->aw->Prop}(hl:as.length<=xf.aO)
 (h:W (dB call n f xf.body (gf as) st) (fun e fr cg=>(e= .norm∨e= .ret)∧∃v st',ov call xf.res none fr cg= .ret v st' false∧Post v st')):
 ∃v st',pQ call n f xf as none st= .ret v st' false∧Post v st':=by
 obtain⟨e,fr,cg,h1,he,v,st',h2,h3⟩:=h;refine⟨v,st',?_,h3⟩;unfold pQ;rw[qi,zab (by rw[fs];exact hl)];show cW.rec (motive:=fun _=>dL) _ _ (dB call n f xf.body (gf as) st)=_;rw[h1];rcases he with rfl|rfl
 ·exact h2
 ·exact h2
def aeG{X:Ctx}{bl:an dh}(du:Good X)(jd:oo X bl)(K:ci->gu)(J:bl.get f=some xf){S:Spec}(hl:∀l as st,S.pre l as st->as.length<=xf.aO)
 (h:∀l as st,S.pre l as st->W (dB (cX bl (dc X K) (bQ+1)) (bQ+1) f xf.body (gf as) st)
  (fun e fr cg=>(e= .norm∨e= .ret)∧∃v st',ov (cX bl (dc X K) (bQ+1)) xf.res none fr cg= .ret v st' false∧S.post l as st v st')):a9 X f S:=by
 intro as st ⟨l,hp⟩;obtain⟨v,st',h1,h2⟩:=QI (Post:=S.post l as st) (hl l as st hp) (h l as st hp);refine⟨v,st',fun l' lk=> ?_,Z9 du jd J h1⟩;obtain⟨v2,dz,aG,aI⟩:=QI (Post:=S.post l' as st) (hl l' as st lk) (h l' as st lk);rw[h1]at aG;cases aG;exact aI
def agm{t:Nat}(al:fr.c1=[{target:=.collected r,args:= #[]}])(aN:fr.cF=false)(hr:st.h.get r=some (.iV (some []))):ov call [.tmp t] none fr st= .ret (fr.tmp t) ⟨st.h.set r (.iV none),st.ag⟩ false:=by
 have e:j6 call fr.c1 none st=some (none,⟨st.h.set r (.iV none),st.ag⟩):=by
  rw[al];simp only[j6,hr];rw[j5]
 unfold ov;rw[e,aN];rfl
def ap8{ax:fu}{K:ac eH}{own bC:ac ay}{aK:Nat}{e:bO}{p:ac bE}(k:Nat){cs:ac ab}(cs':ac ab)(hl:kJ cs cs')(cf:aU.ok ax ⟨K,.o p,⟨bC,aK,e⟩⟩)(U:own[k]? =some (.c el cs):=by rfl)(ai:kq own k (.c el cs') some=some bC:=by rfl):aU.ok ax ⟨K,.o p,⟨own,aK,e⟩⟩:=fun H ids st fr a5 av aa=>by
 have:=lB ai;cases this;refine cf H ids st fr a5 ⟨av.wf,av.le,by simp[av.cE],av.len,av.bU,av.lt,?_⟩ aa;intro j q c hj hc;by_cases mv:k=j
 ·subst mv;rw[zbr,zab rfl]at hj;split at hj<;>cases hj;obtain⟨⟨vs,h3,au⟩,ch⟩:=av.own k _ c U hc;exact⟨⟨vs,h3,hl.den au⟩,fun _=>ch rfl⟩
 ·rw[zbr,zaa mv]at hj;exact av.own j q c hj hc
def asi{s:cG}{x:bi}{k z p q:Nat}{α:Type}{R:α->ac ab}{l:ac α}{aM hi:am bi}(J:bj s.env x=some (.p k 0))(U:s.own[k]? =some (.a el false z α R l))(fo:fc s aM 0 p)(fI:fc s hi n q)(hp:p<=q)(hq:q<=n):fE call (.A7 n z x aM hi none) s (.aY k z (if n=p then 0 else p) (q-p) (n-p)) s.own s.n:=j0 fun H ids st fr av aa=>by
 obtain⟨b,h1,h2⟩:=aa.af J;obtain⟨vs,a4,b2,cx⟩:=pL av U h1;refine⟨_,⟨b,h1,rfl⟩,?_⟩;show AI n z x aM hi none call fr st=_;unfold AI aw.gH;rw[h2,qE,Sym.eO,Sym.hZ,a4,kO,cond_false,BM,fc.af fI aa hq,fc.af fo aa hp];congr 2;by_cases ll:n=p
 ·subst ll;rw[jU rfl,zab rfl,zav]
 ·rw[r2 ll,pJ,zaw,zaa ll];rfl
section
variable{ax:fu}{K:ac eH}{own:ac ay}{aK:Nat}{e:bO}{d:Tmp}{xs:ac bE}{x y:bi}
variable{z:Nat}
def aqg{α:Type}{R:α->ac ab}{l:ac α}{neg:Bool}(a2:aU.ok ax ⟨K,.o xs,⟨own,aK,(d,.b neg)::e⟩⟩)(bw:l=[]->aU.ok ax ⟨K,.o xs,⟨own,aK,(d,.b (!neg))::e⟩⟩)(J:bj e x=some (.cc z α R l):=by rfl)(aA:bj e y=some .nl:=by rfl):
 aU.ok ax ⟨K,.o (⟨some d,.eqv neg .kF x y,none⟩::xs),⟨own,aK,e⟩⟩:=fun H ids st fr a5 av aa=>by
 have h2:fr.af y= .slice none 0 0:=aa.af aA;have h3:den H (.cc z α R l) ids (fr.af x):=aa.af J;rcases h3 with⟨hn,h1⟩|⟨b,o,c,vs,el,a8,aX,h1,_⟩
 ·have aq:bP ax.call (.eqv neg .kF x y) fr st= .ok (.bool (!neg)) fr st:=by
   have e:bP ax.call (.eqv neg .kF x y) fr st=bd (o6 (fr.af x) (fr.af y)) (fun b=>.ok (.bool (cond neg (!b) b)) fr st) .no:=rfl;rw[e,h1,h2];cases neg<;>rfl
  exact uL aq (bw hn H ids st _ a5 av (aa.fx (some d) rfl))
 ·have aq:bP ax.call (.eqv neg .kF x y) fr st= .ok (.bool neg) fr st:=by
   have e:bP ax.call (.eqv neg .kF x y) fr st=bd (o6 (fr.af x) (fr.af y)) (fun b=>.ok (.bool (cond neg (!b) b)) fr st) .no:=rfl;rw[e,h1,h2];cases neg<;>rfl
  exact uL aq (a2 H ids st _ a5 av (aa.fx (some d) rfl))
def Ei{g j:Nat}{cf:d7}{vs:ac be}{a8:Nat×Nat}{aX:Bool}{cs:ac ab}(aJ:ax.cd g=some (.cells vs el a8 aX))(al:∀H,db H cs [] vs)(k:aU.ok ax ⟨K,.o xs,⟨own,aK,(d,.ip (cs.drop (j*z)))::e⟩⟩)(J:bj e x=some (.v (.pointer (some ⟨g,0,none⟩))):=by rfl)(hi:bj e y=some (.i cf (j:Int)):=by rfl)(hj:j<n:=by omega):aU.ok ax ⟨K,.o (⟨some d,.si n z x y,none⟩::xs),⟨own,aK,e⟩⟩:=
 Ek (d:=some d) (Wp (call:=ax.call) (s:=⟨own,aK,e⟩) (z:=z) J aJ al hi hj) k
end
def QP{X:Ctx}{bl:an dh}{cP:ci->gu}{g:ci}{S:bh}(hc:a9 X g S.spec)(dO:cP g=S.spec.K){s:cG}{f:bi}{cH:ac bi}{as bB cs:ac ab}(l:S.L)(q2:bj s.env f=some (.fn (.func g) bB cs))(ha:k4 s.env cH=some as)(q8:iN (bB++(as++cs))=true)(he:kJ (bB++(as++cs)) (S.args l))(hp:S.pre l){cd:bz}(hh:S.hp cd):
 y7 cd (cX bl (dc X cP) (n+1)) (.call f cH) s (S.res l) s.own s.n:=fun H ids st fr dv av aa=>by
 have tD:den H (.fn (.func g) bB cs) ids (fr.af f):=aa.af q2;obtain⟨vs,ws,aF,d1,d2⟩:=tD;have al:=he.den (o3 _ q8 (zy d1 (zy (aa.eC ha) d2)) []);obtain⟨v,st',h1,h2⟩:=hc _ st ⟨(l,H),hp,S.hm dv hh,av.less,al⟩;obtain⟨v1,cg,aG,aI⟩:=N0 (X:=X) (K:=cP) (f:=g) ⟨v,st',by rw[dO];exact h1,h2⟩;rw[dO]at aI;obtain⟨br,eh,et,g6⟩:=aI (l,H) ⟨hp,S.hm dv hh,av.less,al⟩;have a4:cX bl (dc X cP) (n+1) (fr.af f) (eC fr cH) none st= .ret v1 cg false:=by
  rw[aF,zl];have e:gG (⟨vs⟩:ap be).toList (gG (eC fr cH) (⟨ws⟩:ap be).toList)=vs++(eC fr cH++ws):=by simp
  rw[e,aG];rfl
 have hle:dg H br:=et.hle;refine⟨v1,cg,ids,br,?_,?_,ti (dg.refl _) _ (c5.nil _) g6,hle,c5.refl _,?_,et.ag,fun b hb _=>et.ie b hb (by simp)⟩
 ·rw[AG];rw[a4];rfl
 ·refine⟨eh.wf,eh.le,av.cE,av.len,av.bU,fun b hb=>fC (av.lt b hb) et.ag,fun k o b U hb=> ?_⟩;obtain⟨h3,au⟩:=av.own k o b U hb;have aV:=av.lt b (zaz hb);rw[et.ie b aV (by simp)];exact⟨xe hle (c5.refl _) h3,fun hl=>by rw[et.hold b aV (by simp)];exact au hl⟩
 ·intro cd i0 aH B;refine⟨B.hle.trans hle,fun b hb hn=> ?_,fun b hb hn=> ?_,zai B.ag et.ag,B.mB,B.new⟩
  ·rw[et.hold b (fC hb B.ag) (by simp)];exact B.hold b hb hn
  ·rw[et.ie b (fC hb B.ag) (by simp)];exact B.ie b hb hn
section
variable{X:Ctx}{bl:an dh}{cP:ci->gu}{cm n:Nat}{fn:ci}{cd:bz}{i0:ac Nat}{aH:aw}{Q:dM->cG->Prop}{K:ac eH}{own:ac ay}{aK:Nat}{e:bO}
def Ef{g:ci}{S:bh}(hc:a9 X g S.spec){f:bi}{cH:ac bi}{as bB cs:ac ab}{d:Tmp}{xs:ac bE}(l:S.L)(hp:S.pre l)(k:aU.ok ⟨cX bl (dc X cP) (n+1),cm,fn,cd,i0,aH,Q⟩ ⟨K,.o xs,⟨own,aK,(d,S.res l)::e⟩⟩)
 (aa:bj e f=some (.fn (.func g) bB cs):=by rfl) (ha:k4 e cH=some as:=by rfl) (he:kJ (bB++(as++cs)) (S.args l):=by exact kJ.refl _) (q8:iN (bB++(as++cs))=true:=by rfl) (dO:cP g=S.spec.K:=by rfl) (hh:S.hp cd:=by exact trivial):
 aU.ok ⟨cX bl (dc X cP) (n+1),cm,fn,cd,i0,aH,Q⟩ ⟨K,.o (⟨some d,.call f cH,none⟩::xs),⟨own,aK,e⟩⟩:=Ek (d:=some d) (s:=⟨own,aK,e⟩) (QP hc dO l aa ha q8 he hp hh) k
end
section
variable{ax:fu}{K:ac eH}{own bC:ac ay}{aK:Nat}{e:bO}
variable{k:Nat}{cs:ac ab}
def agF{t:Nat}(aN:dZ e t=some (.p k 0))(U:own[k]? =some (.c el cs))(hp:iN cs=true)
 {H:bz} {ids:ac Nat} {st:aw} {fr:aP} (a5:ed ax.cd ax.i0 ax.aH H ids st) (av:Fit H ids st own aK) (aa:c3 fr H ids e):
 ∃br,ed ax.cd ax.i0 ax.aH br ids st∧Fit br ids st (own.set k .x) aK∧c3 fr br ids ((t,.ip cs)::e):=by
 obtain⟨b,aG,aI⟩:=aa.get t _ aN;obtain⟨⟨vs,a4,d⟩,_⟩:=av.own k _ b U aG;have hle:=zN av U rfl aG;refine⟨jo H st b,a5.jo av U rfl aG,av.jo U rfl aG,(aa.mono hle (c5.refl _)).pl,fun j q hj=> ?_⟩;rw[qj]at hj;cases hb:Nat.beq t j with
 |false=>rw[hb]at hj;exact(aa.mono hle (c5.refl _)).get j q hj
 |true=>
  rw[hb]at hj;cases hj;rw[<-ek hb];refine⟨b,0,vs,el,(0,0),_,aI,by unfold jo;rw[zab rfl];exact a4,?_⟩;have hl:=h6 d;rw[zaq,zay (by omega)];exact lL hle _ (c5.refl _) (o3 _ hp d [])
def ZI(t:Nat){p:ac bE}(cf:aU.ok ax ⟨K,.o p,⟨bC,aK,(t,.ip cs)::e⟩⟩)(aN:dZ e t=some (.p k 0):=by rfl)(U:own[k]? =some (.c el cs):=by rfl)(hp:iN cs=true:=by rfl)(ai:kq own k .x some=some bC:=by rfl):aU.ok ax ⟨K,.o p,⟨own,aK,e⟩⟩:=by
 have h1:=lB ai;cases h1;exact fun H ids st fr a5 av aa=>let⟨br,h1,h2,h3⟩:=agF aN U hp a5 av aa;cf br ids st fr h1 h2 h3
end
end Go.aj
namespace Go.aj
open Sym
variable{X:Ctx}
section
variable{ax:fu}{K:ac eH}{s:cG}
def aeP{d:am Tmp}{o:c7}{l:ac (bE×cw)}{bN:ac ay}{a0:bO}{bb b7 b0:Nat}{bC:ac ay}{a:ab}
 (h:∀(H:bz) (ids:ac Nat) (st:aw) (fr:aP),ed ax.cd ax.i0 ax.aH H ids st->Fit H ids st s.own s.n->c3 fr H ids s.env->∃v st' cY br,bP ax.call o fr st= .ok v fr st'∧Fit br cY st' bC b0∧den br a cY v∧dg H br∧c5 ids cY∧ed ax.cd ax.i0 ax.aH br cY st'∧st.ag<=st'.ag)
 (k:g3 ax K (.d l (bN.map fun _=>.x) (tl d a0) (bb+1) b0) ⟨bC,b0,fx d a s.env⟩):g3 ax K (.d ((⟨d,o,none⟩,.ez)::l) bN a0 bb b7) s:=by
 intro dd hV H ids st fr fy ae a5 av aa cb;obtain⟨v,st',cY,br,aG,aI,a4,b2,cx,ef,fR⟩:=h H ids st fr a5 av aa;have gx:=k dd hV br cY st' (fr.put d v) fy (st'.h::ae) ef aI ((aa.mono b2 cx).fx d a4) ⟨by simp[cb.len],cb.hle.trans b2,xg (fun j a hj=>ti (dg.refl _) _ cx (cb.gf j a hj)) d v,?_,by rw[aI.len];exact bY _,?_,?_,?_⟩
 ·refine W.of_eq ?_ gx;show aS.rec (motive:=fun _=>cW) (fun v aC st'=>dY st.ag st'.ag (hT ax.call dd l (st'.h::ae) (aP.put ⟨fr.t,aC.c1,aC.ba,aC.cF,aC.b3⟩ d v) st') .no) (fun v st'=>cond o.mX (cond (dd l (st.h::ae) (fr.put d undef) st) (.out (.ba v) fr st') .no) .no) .no (bP ax.call o fr st)=_;rw[aG];show dY st.ag st'.ag _ _=_;rw[fW fR]
 ·rw[zaN];exact zai cb.qq (MO cx)
 ·intro k bf b U vB hb;rw[zco]at U;cases ai:bN[k]? with
  |none=>rw[ai]at U;cases U
  |some q=>rw[ai]at U;cases U;cases vB
 ·intro h hm b bf hb;rcases zao.1 hm with rfl|hm
  ·exact aI.le _ _ (b2 _ _ (cb.hle _ _ hb))
  ·exact cb.old h hm b bf hb
 ·intro h hm;simp at hm;subst hm;exact⟨aI.le,fun _ _ _ _=>rfl⟩
end
def Qp{a b c a' dN bT:ay}{rest:ac ay}(h1:me [0,1,2] a' a')(h2:me [0,1,2] dN dN)(h3:me [0,1,2] bT bT):y1 [0,1,2] (a::b::c::rest) (a'::dN::bT::rest) [a',dN,bT]:=by
 refine⟨rfl,fun j hj=> ?_,fun i k bf U ai=> ?_⟩
 ·match j with
  |0=>exact absurd (by simp) hj
  |1=>exact absurd (by simp) hj
  |2=>exact absurd (by simp) hj
  |j+3=>rfl
 ·match i with
  |0=>cases U;cases ai;exact⟨_,rfl,h1⟩
  |1=>cases U;cases ai;exact⟨_,rfl,h2⟩
  |2=>cases U;cases ai;exact⟨_,rfl,h3⟩
  |i+3=>simp at U
section
variable{bl:an dh}{cP:ci->gu}{cm n:Nat}{fn:ci}{cd:bz}{i0:ac Nat}{aH:aw}{Q:dM->cG->Prop}{K:ac eH}{rest:ac ay}{aK:Nat}{e:bO}{g:ci}{S:ht}{a b c a' dN bT nY oF sx:ay}
variable{cH:ac bi}{as:ac ab}{d:Tmp}
def aa2(h1:e8 [0,1,2] nY a)(h2:e8 [0,1,2] oF b)(h3:e8 [0,1,2] sx c):Sub 0 [0,1,2] ⟨a::b::c::rest,aK,e⟩ ⟨[nY,oF,sx],3,[]⟩:=
 ⟨by simp,rfl,⟨⟨_,rfl,h1⟩,⟨_,rfl,h2⟩,⟨_,rfl,h3⟩,trivial⟩,trivial,rfl⟩
def ap6(hc:a9 X g S.spec){xs:ac bE}(l:S.L)(hp:S.pre l)
 (k:aU.ok ⟨cX bl (dc X cP) (n+1),cm,fn,cd,i0,aH,Q⟩ ⟨K,.o xs,⟨a'::dN::bT::rest,aK,(d,lA [0,1,2] (S.res l))::e⟩⟩) (ai:S.own l=[nY,oF,sx]:=by rfl) (iH:S.bC l=[a',dN,bT]:=by rfl)
 (h1:e8 [0,1,2] nY a:=by exact rfl) (h2:e8 [0,1,2] oF b:=by exact⟨rfl,fun _=>rfl⟩) (h3:e8 [0,1,2] sx c:=by exact⟨rfl,fun _=>rfl⟩)
 (aG:me [0,1,2] a' a':=by exact rfl) (aI:me [0,1,2] dN dN:=by exact⟨rfl,fun _=>rfl⟩) (a4:me [0,1,2] bT bT:=by exact⟨rfl,fun _=>rfl⟩)
 (ha:k4 e cH=some as:=by rfl) (he:as=n7 [0,1,2] (S.args l):=by rfl) (dO:cP g=S.spec.K:=by rfl) (hh:S.hp cd:=by first|exact trivial|assumption):
 aU.ok ⟨cX bl (dc X cP) (n+1),cm,fn,cd,i0,aH,Q⟩ ⟨K,.o (⟨some d,.call (.func g) cH,none⟩::xs),⟨a::b::c::rest,aK,e⟩⟩:=
 KF (d:=some d) hc [0,1,2] l hp (by rw[ai];exact aa2 h1 h2 h3) (by rw[iH];exact Qp aG aI a4) k ha he dO hh
def Rg(hc:a9 X g S.spec){xs:ac (bE×cw)}{bN:ac ay}{a0:bO}{bb b7:Nat}(l:S.L)(hp:S.pre l)
 (k:aU.ok ⟨cX bl (dc X cP) (n+1),cm,fn,cd,i0,aH,Q⟩ ⟨K,.d xs (bN.map fun _=>.x) (nF d a0) (bb+1) aK,⟨a'::dN::bT::rest,aK,(d,lA [0,1,2] (S.res l))::e⟩⟩) (ai:S.own l=[nY,oF,sx]:=by rfl) (iH:S.bC l=[a',dN,bT]:=by rfl)
 (h1:e8 [0,1,2] nY a:=by exact rfl) (h2:e8 [0,1,2] oF b:=by exact⟨rfl,fun _=>rfl⟩) (h3:e8 [0,1,2] sx c:=by exact⟨rfl,fun _=>rfl⟩)
 (aG:me [0,1,2] a' a':=by exact rfl) (aI:me [0,1,2] dN dN:=by exact⟨rfl,fun _=>rfl⟩) (a4:me [0,1,2] bT bT:=by exact⟨rfl,fun _=>rfl⟩)
 (ha:k4 e cH=some as:=by rfl) (he:as=n7 [0,1,2] (S.args l):=by rfl) (dO:cP g=S.spec.K:=by rfl) (hh:S.hp cd:=by first|exact trivial|assumption):
 aU.ok ⟨cX bl (dc X cP) (n+1),cm,fn,cd,i0,aH,Q⟩ ⟨K,.d ((⟨some d,.call (.func g) cH,none⟩,.ez)::xs) bN a0 bb b7,⟨a::b::c::rest,aK,e⟩⟩:=
 aeP (d:=some d) (s:=⟨a::b::c::rest,aK,e⟩) (fun H ids st fr a5 av aa=>QQ hc [0,1,2] l hp hh (by rw[ai];exact aa2 h1 h2 h3) (by rw[iH];exact Qp aG aI a4) ha he dO a5 av aa) k
end
end Go.aj
namespace Go.aj
abbrev acj:=ht
open Sym
section
variable{call:bL}{s:cG}{x y:bi}
def anU{el:ce}{cJ z n c:Nat}{gq:ac be}{k k':d7}{α:Type}(R:α->ac ab)(w:α)(J:bj s.env x=some (.i k (n:Int)))(aA:bj s.env y=some (.i k' (c:Int)))(aE:gq.length=z)(cL:v8 gq=R w)(hn:n<=c)(hc:c*(cJ+1)<=1099511627776):
 y8 call (.po el cJ gq x y) s (.aY s.n z 0 n c) (s.own++[.a el false z α R (List.replicate c w)]) (s.n+1):=fun H ids st fr av aa=>by
 have h1:fr.af x= .int k (n:Int):=aa.af J;have h2:fr.af y= .int k' (c:Int):=aa.af aA;subst aE;have al:=vc H (ids++[st.ag]) gq;rw[cL]at al;have ja:=KK al c;refine⟨_,_,_,?_,av.add (ej:=.cells (kQ gq c) el (0,0) false) ⟨_,rfl,ja.1,ja.2⟩,⟨st.ag,by rw[<-av.len,zaM (bY _)];simp,rfl⟩,c5.app _ _,fun _ _ _ B=>B.add _,zbh _,fun b hb _=>yn hb⟩;show sB el cJ gq x y call fr st=_;unfold sB;rw[h1,h2,mb,mb,nW,nW,fW hn,fW (show Nat.mul c (Nat.succ cJ)<=2^40 from hc),gz,zav]
end
section
variable{ax:fu}{K:ac eH}{own bN bC:ac ay}{aK b0 bb b7:Nat}{e a0:bO}{d:Tmp}{ts:ac Tmp}{xs:ac (bE×cw)}{x y:bi}
def Ri{el:ce}{cJ z n c:Nat}{gq:ac be}{bK k':d7}{α:Type}(R:α->ac ab)(w:α)(k:aU.ok ax ⟨K,.d xs bN (nF d a0) bb b7,⟨bC,b0,(d,.aY aK z 0 n c)::e⟩⟩)(J:bj (eN ts e) x=some (.i bK (n:Int)):=by rfl)(aA:bj (eN ts e) y=some (.i k' (c:Int)):=by rfl)(aE:HA gq=some z:=by rfl)(cL:v8 gq=R w:=by rfl)
 (ai:qC own (.a el false z α R (List.replicate c w)) some=some bC:=by rfl) (iF:nX aK some=some b0:=by rfl) (hn:n<=c:=by omega) (hc:c*(cJ+1)<=1099511627776:=by omega):aU.ok ax ⟨K,.d ((⟨some d,.po el cJ gq x y,none⟩,.hG ts)::xs) bN a0 bb b7,⟨own,aK,e⟩⟩:=by
 have h1:=rK ai;have h2:=pr iF;cases h1;cases h2;exact Rf (d:=some d) (s:=⟨own,aK,e⟩) (anU (s:=⟨own,aK,eN ts e⟩) R w J aA (W4 aE) cL hn hc) rfl k
end
section
variable{X:Ctx}{bl:an dh}{cP:ci->gu}{cm n:Nat}{fn:ci}{cd:bz}{i0:ac Nat}{aH:aw}{Q:dM->cG->Prop}{K:ac eH}{own bC:ac ay}{aK:Nat}{e:bO}{g:ci}{S:ht}
def ap7(hc:a9 X g S.spec){cH:ac bi}{as:ac ab}{d:Tmp}{xs:ac bE}(f:ac Nat)(l:S.L)(hp:S.pre l)
 (k:aU.ok ⟨cX bl (dc X cP) (n+1),cm,fn,cd,i0,aH,Q⟩ ⟨K,.o xs,⟨bC,aK,(d,lA f (S.res l))::e⟩⟩) (ae:Sub 0 f ⟨own,aK,e⟩ ⟨S.own l,(S.own l).length,[]⟩) (hb:y1 f own bC (S.bC l)) (hh:S.hp cd)
 (ha:k4 e cH=some as:=by rfl) (he:as=n7 f (S.args l):=by rfl) (dO:cP g=S.spec.K:=by rfl):
 aU.ok ⟨cX bl (dc X cP) (n+1),cm,fn,cd,i0,aH,Q⟩ ⟨K,.o (⟨some d,.call (.func g) cH,none⟩::xs),⟨own,aK,e⟩⟩:=
 KF (d:=some d) hc f l hp ae hb k ha he dO hh
end
section
variable{ax:fu}{K:ac eH}{own bC bN iw:ac ay}{aK bb b7 back:Nat}{e a0:bO}{d:Tmp}{ts:ac Tmp}{xs:ac bE}{ao:ac (bE×cw)}{x y:bi}
variable{c:bq}
variable{P:Prop}{a:Int}{al:Decidable P}
def v1(t:Nat)(h:P)(k:aU.ok ax ⟨K,c,⟨own,aK,(t,.b true)::e⟩⟩)(hl:dZ e t=some (.b (decide P)):=by rfl)(hc:c.vO=false:=by rfl):aU.ok ax ⟨K,c,⟨own,aK,e⟩⟩:=ah t (.b true) hl (by rw[zad h]) k hc
def v0(t:Nat)(h:¬P)(k:aU.ok ax ⟨K,c,⟨own,aK,(t,.b false)::e⟩⟩)(hl:dZ e t=some (.b (decide P)):=by rfl)(hc:c.vO=false:=by rfl):aU.ok ax ⟨K,c,⟨own,aK,e⟩⟩:=ah t (.b false) hl (by rw[zac h]) k hc
def og(t:Nat){a b:Bool}(h:a=b)(k:aU.ok ax ⟨K,c,⟨own,aK,(t,.b b)::e⟩⟩)(hl:dZ e t=some (.b a):=by rfl)(hc:c.vO=false:=by rfl):aU.ok ax ⟨K,c,⟨own,aK,e⟩⟩:=ah t (.b b) hl (by rw[h]) k hc
def nu(t:Nat)(b:Int)(k:aU.ok ax ⟨K,c,⟨own,aK,(t,.i .i64 b)::e⟩⟩)(hl:dZ e t=some (.i .i64 (IntKind.i64.wrap a)):=by rfl)(h:a=b:=by omega)(h1: -9223372036854775808<=a:=by omega)(h2:a<9223372036854775808:=by omega)(hc:c.vO=false:=by rfl):aU.ok ax ⟨K,c,⟨own,aK,e⟩⟩:=ah t (.i .i64 b) hl (bx h h1 h2) k hc
def gE(t:Nat)(h:P)(k:aU.ok ax ⟨K,.d ao bN ((t,.b true)::a0) bb b7,⟨own,aK,(t,.b true)::e⟩⟩)(hl:dZ e t=some (.b (decide P)):=by rfl)(h0:dZ a0 t=some (.b (decide P)):=by rfl):aU.ok ax ⟨K,.d ao bN a0 bb b7,⟨own,aK,e⟩⟩:=cu t (.b true) hl h0 (by rw[zad h]) k
def hA(t:Nat)(h:¬P)(k:aU.ok ax ⟨K,.d ao bN ((t,.b false)::a0) bb b7,⟨own,aK,(t,.b false)::e⟩⟩)(hl:dZ e t=some (.b (decide P)):=by rfl)(h0:dZ a0 t=some (.b (decide P)):=by rfl):aU.ok ax ⟨K,.d ao bN a0 bb b7,⟨own,aK,e⟩⟩:=cu t (.b false) hl h0 (by rw[zac h]) k
def ww(t:Nat)(b:Int)(k:aU.ok ax ⟨K,.d ao bN ((t,.i .i64 b)::a0) bb b7,⟨own,aK,(t,.i .i64 b)::e⟩⟩)(hl:dZ e t=some (.i .i64 (IntKind.i64.wrap a)):=by rfl)(h:a=b:=by omega)(h1: -9223372036854775808<=a:=by omega)(h2:a<9223372036854775808:=by omega)(h0:dZ a0 t=some (.i .i64 (IntKind.i64.wrap a)):=by rfl):aU.ok ax ⟨K,.d ao bN a0 bb b7,⟨own,aK,e⟩⟩:=cu t (.i .i64 b) hl h0 (bx h h1 h2) k
end
end Go.aj
namespace Go.aj
open Sym
variable{X:Ctx}
def jf{p:Prop}(h:p):¬¬p:=fun k=>k h
mutual
def eA(k z n:Nat)(b:ab):ab->ab
 |.aY k' yY o b0 c=>match Nat.beq k k'&&(Nat.beq z yY&&(Nat.beq 0 o&&(Nat.beq n b0&&Nat.beq n c)))with
  |true=>b
  |false=>.aY k' yY o b0 c
 |.agg cs=>.agg (Ge k z n b cs)
 |.bu cs=>.bu (Ge k z n b cs)
 |.fn f bB cs=>.fn f bB cs
 |.p k o=>.p k o
 |.gA k z j o=>.gA k z j o
 |.i k n=>.i k n
 |.b t=>.b t
 |.s l=>.s l
 |.nl=>.nl
 |.v x=>.v x
 |.cc z α R l=>.cc z α R l
 |.hK z α R l=>.hK z α R l
 |.cn z α R l=>.cn z α R l
 |.ip cs=>.ip cs
 |.bad=>.bad
def Ge(k z n:Nat)(b:ab):ac ab->ac ab
 |[]=>[]
 |a::as=>eA k z n b a::Ge k z n b as
end
mutual
theorem RZ{H:bz}{ids:ac Nat}{k z n:Nat}{b:ab}(hb:∀v,den H (.aY k z 0 n n) ids v->den H b ids v):∀(a:ab) {v:be},den H a ids v->den H (eA k z n b a) ids v
 |.aY k' yY o b0 c,v,d=>by
  unfold eA;split
  ·rename_i h;simp only[bX]at h;obtain⟨h1,h2,h3,au,aW⟩:=h;have:=ek h1;have:=ek h2;have:=ek h3;have:=ek au;have:=ek aW
   subst_vars
   exact hb v d
  ·exact d
 |.agg cs,_,⟨vs,e,d⟩=>⟨vs,e,Lp hb cs d⟩
 |.bu cs,_,⟨vs,e,d⟩=>⟨vs,e,Lp hb cs d⟩
 |.fn _ _ _,_,d=>d
 |.p _ _,_,d=>d
 |.gA _ _ _ _,_,d=>d
 |.i _ _,_,d=>d
 |.b _,_,d=>d
 |.s _,_,d=>d
 |.nl,_,d=>d
 |.v _,_,d=>d
 |.cc _ _ _ _,_,d=>d
 |.hK _ _ _ _,_,d=>d
 |.cn _ _ _ _,_,d=>d
 |.ip _,_,d=>d
 |.bad,_,d=>d
theorem Lp{H:bz}{ids:ac Nat}{k z n:Nat}{b:ab}(hb:∀v,den H (.aY k z 0 n n) ids v->den H b ids v):∀(a:ac ab) {v:ac be},db H a ids v->db H (Ge k z n b a) ids v
 |[],_,d=>d
 |a::as,_,⟨v,ws,e,d1,d2⟩=>⟨v,ws,e,RZ hb a d1,Lp hb as d2⟩
end
section
variable{ax:fu}{K:ac eH}{own bC:ac ay}{aK:Nat}{e:bO}
def pz(t k:Nat){z:Nat}{el:ce}{aX:Bool}{α:Type}{R:α->ac ab}{l:ac α}{a a':ab}{p:ac bE}(cf:aU.ok ax ⟨K,.o p,⟨bC,aK,(t,a')::e⟩⟩)(aN:dZ e t=some a:=by rfl)(U:own[k]? =some (.a el aX z α R l):=by rfl)(ha:eA k z l.length (.cc z α R l) a=a':=by rfl)(hp:∀x,iN (R x)=true:=by exact fun _=>rfl)
 (ai:kq own k .x some=some bC:=by rfl):aU.ok ax ⟨K,.o p,⟨own,aK,e⟩⟩:=fun H ids st fr a5 av aa=>by
 have h1:=lB ai;cases h1;have GS:k<ids.length:=by rw[av.len,<-av.cE];exact(zae.1 U).1
 obtain⟨b,aG⟩:∃b,ids[k]? =some b:=⟨_,bF GS⟩;obtain⟨⟨vs,a4,b2,cx⟩,_⟩:=av.own k _ b U aG;have hle:=zN av U rfl aG;have eD:=aa.mono hle (c5.refl _);refine cf (jo H st b) ids st fr (a5.jo av U rfl aG) (av.jo U rfl aG) ⟨eD.pl,fun j q hj=> ?_⟩;rw[qj]at hj;cases hb:Nat.beq t j with
 |false=>rw[hb]at hj;exact eD.get j q hj
 |true=>
  rw[hb]at hj;cases hj;rw[<-ek hb,<-ha];refine RZ (fun v aF=> ?_) a (eD.get t a aN);obtain⟨dN,cr,cz⟩:=aF;rw[aG]at cr;cases cr;refine .inr ⟨b,0*z,l.length,vs,el,(0,0),aX,cz,zch _,by unfold jo;rw[zab rfl];exact a4,fun i x J=> ?_⟩;rw[zav,zaw];exact lL hle _ (c5.refl _) (o3 _ (hp x) (cx _ x J) [])
end
end Go.aj
namespace Go.aj
open Sym
set_option maxRecDepth 10000
section
variable{ax:fu}{K:ac eH}{own:ac ay}{aK:Nat}{e:bO}{d:Tmp}{xs:ac bE}{x y:bi}
variable{α:Type}{a7 cJ:Nat}{el:ce}{R:α->ac ab}{l:ac α}
def aqf{z:Nat}{neg:Bool}(a2:aU.ok ax ⟨K,.o xs,⟨own,aK,(d,.b neg)::e⟩⟩)(bw:l=[]->aU.ok ax ⟨K,.o xs,⟨own,aK,(d,.b (!neg))::e⟩⟩)(J:bj e x=some (.cn z α R l):=by rfl)(aA:bj e y=some .nl:=by rfl):
 aU.ok ax ⟨K,.o (⟨some d,.eqv neg .kF x y,none⟩::xs),⟨own,aK,e⟩⟩:=fun H ids st fr a5 av aa=>by
 have h2:fr.af y= .slice none 0 0:=aa.af aA;have h3:den H (.cn z α R l) ids (fr.af x):=aa.af J;have a0:bP ax.call (.eqv neg .kF x y) fr st=bd (o6 (fr.af x) (fr.af y)) (fun b=>.ok (.bool (cond neg (!b) b)) fr st) .no:=rfl;rcases h3 with⟨hn,h1⟩|⟨hn,h1⟩|⟨b,o,c,vs,el,a8,aX,h1,_⟩
 ·have aq:bP ax.call (.eqv neg .kF x y) fr st= .ok (.bool neg) fr st:=by
   rw[a0,h1,h2];cases neg<;>rfl
  exact uL aq (a2 H ids st _ a5 av (aa.fx (some d) rfl))
 ·have aq:bP ax.call (.eqv neg .kF x y) fr st= .ok (.bool (!neg)) fr st:=by
   rw[a0,h1,h2];cases neg<;>rfl
  exact uL aq (bw hn H ids st _ a5 av (aa.fx (some d) rfl))
 ·have aq:bP ax.call (.eqv neg .kF x y) fr st= .ok (.bool neg) fr st:=by
   rw[a0,h1,h2];cases neg<;>rfl
  exact uL aq (a2 H ids st _ a5 av (aa.fx (some d) rfl))
def acU{call:bL}{s:cG}(aA:bj s.env y=some (.cn a7 α R [])):uW call el cJ s y R a7 ([]:ac α):=fun H ids st fr av aa x p n c J=>by
 have e:bP call (.app el a7 cJ x y) fr st=hL (fr.af x) (fun base len cap=>hL (fr.af y) (fun b n _=>bd b (fun b=>st.load b (Nat.mul n a7) (fun new=>cond (gZ new) (iX fr st el a7 cJ base len cap n new) .no) .no) (dW n 0 (iX fr st el a7 cJ base len cap 0 []) .no)) (sP (fr.af y) (iX fr st el a7 cJ base len cap 0 []) (hM (fr.af y) (fun s=>dW a7 1 (iX fr st el a7 cJ base len cap (df s.data.toList) (lb s.data.toList)) .no) .no))) .no:=rfl;have h3:den H (.cn a7 α R []) ids (fr.af y):=aa.af aA;refine⟨[],zq _ _ _ _,rfl,?_⟩;rw[e,J,oe];rcases h3 with⟨_,h1⟩|⟨_,h1⟩|⟨b,o,bT,vs,RC,a8,aX,h1,_,h2,_⟩
 ·have aq:∀(k:am Addr->Nat->Nat->aS) (z:aS),hL (.chan none) k z=z:=fun _ _=>rfl;have e2:∀a z:aS,sP (.chan none) a z=a:=fun _ _=>rfl;simp only[h1,aq,e2];rfl
 ·rw[h1,oe,Sym.hZ,jU rfl];rfl
 ·rw[h1,oe,Sym.eO];show st.load ⟨b,o,none⟩ (0*a7) _ _=_;unfold aw.load aw.gH;rw[Sym.hZ,av.le _ _ h2,kO,zav,rY (zag _),List.take_zero];have bV:∀a z:aS,cond (gZ []) a z=a:=fun _ _=>rfl;simp only[bV]
def ap2{bK n c:Nat}{aX:Bool}(k:aU.ok ax ⟨K,.o xs,⟨own,aK,(d,.aY bK a7 0 n c)::e⟩⟩)(aA:bj e y=some (.cn a7 α R []):=by rfl)(J:bj e x=some (.aY bK a7 0 n c):=by rfl)(U:own[bK]? =some (.a el aX a7 α R l):=by rfl)
 (kD:n<=c:=by omega) (hc:c<=l.length:=by first|omega|(simp;done)|(simp;omega)) (hb:(5*n+1792)*(cJ+1)<=1125899906842624:=by omega):aU.ok ax ⟨K,.o (⟨some d,.app el a7 cJ x y,none⟩::xs),⟨own,aK,e⟩⟩:=er (P3 (s:=⟨own,aK,e⟩) J U (acU aA) kD hc hb) k
end
def af0{call:bL}{fr:aP}{H:bz}{ids:ac Nat}{e:bO}{x y:bi}{neg:Bool}{k:d7}{a b c d:Int}(aa:c3 fr H ids e)(J:bj e x=some (.agg [.i k a,.i k b]))(aA:bj e y=some (.agg [.i k c,.i k d]))(st:aw):
 bP call (.ext (.qV neg 2 x y)) fr st= .ok (.bool (kd neg (a==c&&b==d))) fr st:=by
 obtain⟨vs,h1,d1⟩:=aa.af J;obtain⟨ws,h2,d2⟩:=aa.af aA;obtain⟨v1,us,rfl,aq,v2,att,rfl,e2,bV⟩:=d1;obtain⟨gE,xs,rfl,f1,EM,auv,rfl,f2,f3⟩:=d2;have aq:v1= .int k a:=aq;have e2:v2= .int k b:=e2;have bV:att=[]:=bV;have f1:gE= .int k c:=f1;have f2:EM= .int k d:=f2;have f3:auv=[]:=f3;subst aq e2 bV f1 f2 f3;have g0:kT 2 [Value.int k a,Value.int k b] [Value.int k c,Value.int k d]=some (a==c&&b==d):=by
  unfold kT kT kT;simp only[K7,FZ,if_true];generalize(a==c)=u;generalize(b==d)=v;cases u<;>cases v<;>rfl
 show rO (fr.af x) (fun xs=>rO (fr.af y) (fun ao=>dW (df xs.toList) 2 (dW (df ao.toList) 2 (bd (kT 2 xs.toList ao.toList) (fun b=>aS.ok (.bool (cond neg (!b) b)) fr st) .no) .no) .no) .no) .no=_;rw[h1,h2];show bd (kT 2 [Value.int k a,Value.int k b] [Value.int k c,Value.int k d]) (fun b=>aS.ok (.bool (cond neg (!b) b)) fr st) .no=_;rw[g0];rfl
section
variable{ax:fu}{K:ac eH}{own bC bN iw:ac ay}{aK bb b7 back:Nat}{e a0:bO}{d:Tmp}{ts:ac Tmp}{xs:ac bE}{ao:ac (bE×cw)}{x y:bi}
variable{a2:d7}{n:Nat}{m:Int}
def Eg(r:Bool){neg:Bool}{k:d7}{a b c kf:Int}(cf:aU.ok ax ⟨K,.o xs,⟨own,aK,(d,.b r)::e⟩⟩)(J:bj e x=some (.agg [.i k a,.i k b]):=by rfl)(aA:bj e y=some (.agg [.i k c,.i k kf]):=by rfl)(hr:kd neg (a==c&&b==kf)=r:=by rfl):
 aU.ok ax ⟨K,.o (⟨some d,.ext (.qV neg 2 x y),none⟩::xs),⟨own,aK,e⟩⟩:=by
 subst hr;exact er (a:=.b (kd neg (a==c&&b==kf))) (j0 (s:=⟨own,aK,e⟩) fun H ids st fr av aa=>⟨.bool (kd neg (a==c&&b==kf)),rfl,af0 aa J aA st⟩) cf
def KW{bK:d7}{m:Nat}(k:aU.ok ax ⟨K,.d ao bN ((d,.i bK ((m/2^n:Nat):Int))::a0) bb b7,⟨own,aK,(d,.i bK ((m/2^n:Nat):Int))::e⟩⟩)(J:bj (eN ts a0) x=some (.i bK (m:Int)):=by rfl)(aA:bj (eN ts a0) y=some (.i a2 (n:Int)):=by rfl)(hn:n<=bK.bits:=by first|decide|(show _<=64;omega))(hb:back<bb:=by decide):
 aU.ok ax ⟨K,.d ((⟨some d,.bin .shr x y,none⟩,.read back ts)::ao) bN a0 bb b7,⟨own,aK,e⟩⟩:=
 o1 (d:=some d) (a:=.i bK ((m/2^n:Nat):Int)) hb (fun H ids st fr aa _ _=>by
  obtain⟨v,h1,h2⟩:=Kp (call:=ax.call) (k:=bK) (a:=(m:Int)) (b:=(n:Int)) (r:=.i bK ((m/2^n:Nat):Int)) (by show(match Nat.ble n bK.bits with|true=>_|false=>_)=_;rw[zcQ hn]) (aa.af J) (aa.af aA);exact⟨v,h1 H ids,fun dz _ _=>h2 dz⟩) k
def ZL(v:Int){bK:d7}(k:aU.ok ax ⟨K,.o xs,⟨own,aK,(d,.i bK v)::e⟩⟩)(aF:bK.wrap (m*2^n)=v)(J:bj e x=some (.i bK m):=by rfl)(aA:bj e y=some (.i a2 (n:Int)):=by rfl)(hn:n<=bK.bits:=by first|decide|(show _<=64;omega)):
 aU.ok ax ⟨K,.o (⟨some d,.bin .shl x y,none⟩::xs),⟨own,aK,e⟩⟩:=by
 subst aF;exact er (arb (s:=⟨own,aK,e⟩) J aA hn) k
def Rk(v:Int){bK:d7}(k:aU.ok ax ⟨K,.d ao bN ((d,.i bK v)::a0) bb b7,⟨own,aK,(d,.i bK v)::e⟩⟩)(aF:bK.wrap (m*2^n)=v)(J:bj (eN ts a0) x=some (.i bK m):=by rfl)(aA:bj (eN ts a0) y=some (.i a2 (n:Int)):=by rfl)(hn:n<=bK.bits:=by first|decide|(show _<=64;omega))(hb:back<bb:=by decide):
 aU.ok ax ⟨K,.d ((⟨some d,.bin .shl x y,none⟩,.read back ts)::ao) bN a0 bb b7,⟨own,aK,e⟩⟩:=by
 subst aF;refine o1 (d:=some d) (a:=.i bK (bK.wrap (m*2^n))) hb (fun H ids st fr aa _ _=>⟨.int bK (bK.wrap (m*2^n)),rfl,fun dz _ _=> ?_⟩) k;have h:=Jg (call:=ax.call) (aa.af J) (aa.af aA) dz;rw[zaA hn]at h;exact h
end
section
variable{X:Ctx}{bl:an dh}{cP:ci->gu}{cm n:Nat}{fn:ci}{cd:bz}{i0:ac Nat}{aH:aw}{Q:dM->cG->Prop}{K:ac eH}{own:ac ay}{aK:Nat}{e:bO}
def Rh{g:ci}{S:bh}(hc:a9 X g S.spec){f:bi}{cH:ac bi}{as bB cs:ac ab}{d:Tmp}{xs:ac (bE×cw)}{bN:ac ay}{a0:bO}{bb b7:Nat}(l:S.L)(hp:S.pre l)(k:aU.ok ⟨cX bl (dc X cP) (n+1),cm,fn,cd,i0,aH,Q⟩ ⟨K,.d xs bN (nF d a0) (bb+1) aK,⟨own,aK,(d,S.res l)::e⟩⟩)
 (aa:bj e f=some (.fn (.func g) bB cs):=by rfl) (ha:k4 e cH=some as:=by rfl) (he:kJ (bB++(as++cs)) (S.args l):=by exact kJ.refl _) (q8:iN (bB++(as++cs))=true:=by rfl) (dO:cP g=S.spec.K:=by rfl) (hh:S.hp cd:=by exact trivial):
 aU.ok ⟨cX bl (dc X cP) (n+1),cm,fn,cd,i0,aH,Q⟩ ⟨K,.d ((⟨some d,.call f cH,none⟩,.ez)::xs) bN a0 bb b7,⟨own,aK,e⟩⟩:=
 KV (d:=some d) (s:=⟨own,aK,e⟩) (QP hc dO l aa ha q8 he hp hh) rfl (fun _ _ U _=>⟨U,by simp[kE]⟩) k
end
end Go.aj
namespace Go.aj
variable{X:Ctx}
variable{b:Nat}{gs:ac (Nat×bD)}{g:Nat}{p:Nat×bD}
def ni(g n:Nat):bt:=fun i=>if i<g then some ⟨i,0,0,iE⟩else if n<=i∧i<2*n then some ⟨i-n,0,0,iE⟩else none
def Af(W:co)(b:Nat):Bool:=match W.heap[b]? with
 |some (.cells _ _ _)=>true
 |_=>false
def amY{W:co}(h:Af W b=true):∃C el a8,W.heap[b]? =some (.cells C el a8):=by
 unfold Af at h;split at h
 ·rename_i C el a8 hC;exact⟨C,el,a8,hC⟩
 ·cases h
def toA(W:co):be->be
 |.bool b=>.bool b
 |.int k m=>.int k m
 |.string s=>.string s
 |.slice none l c=>.slice none l c
 |.slice (some a) l c=>if Af W a.block=true∧a.spot=none then .slice (some ⟨W.heap.size+a.block,a.off,none⟩) l c else(match l with|0=>.chan none|_=>ih)
 |.pointer none=>.pointer none
 |.pointer (some a)=>if a.block<W.heap.size∧a.spot=none then .pointer (some ⟨W.heap.size+a.block,a.off,none⟩)else ih
 |_=>ih
def MQ{n:Nat}(aJ:g<=n)(hb:b<n):ni g n (n+b)=some ⟨b,0,0,iE⟩:=by
 unfold ni;rw[zaa (by omega),zab (by omega),zeT]
def abc{W:co}(aJ:g<=W.heap.size)(v:be):bk (ni g W.heap.size) (toA W v) v:=by
 cases v with
 |slice a l c=>
  cases a with
  |none=>exact .ob _ _
  |some a=>
   show bk _ (if Af W a.block=true∧a.spot=none then Value.slice (some ⟨W.heap.size+a.block,a.off,none⟩) l c else(match l with|0=>.chan none|_=>ih)) _;split
   ·rename_i h;obtain⟨b,o,sp⟩:=a;obtain⟨h1,h2⟩:=h;simp only at h1 h2;subst h2;obtain⟨_,_,_,h3⟩:=amY h1;have:=bk.gD (ι:=ni g W.heap.size) ⟨W.heap.size+b,o,none⟩ ⟨b,0,0,iE⟩ o l c (MQ aJ (zbk.1 h3).1) rfl (.inl (by simp));exact this
   ·split
    ·exact .emp _ _
    ·exact .top _
 |pointer a=>
  cases a with
  |none=>exact .n1
  |some a=>
   show bk _ (if a.block<W.heap.size∧a.spot=none then Value.pointer (some ⟨W.heap.size+a.block,a.off,none⟩)else ih) _;split
   ·rename_i h;obtain⟨b,o,sp⟩:=a;obtain⟨h1,h2⟩:=h;simp only at h1 h2;subst h2;have:=bk.ptr (ι:=ni g W.heap.size) ⟨W.heap.size+b,o,none⟩ ⟨b,0,0,iE⟩ (MQ aJ h1) rfl;simpa using this
   ·exact .top _
 |bool b=>exact .bool b
 |int k m=>exact .int k m
 |string s=>exact .string s
 |_=>exact .top _
theorem abd{g:Nat}{W:co}(aJ:g<=W.heap.size):∀vs:ac be,bM (ni g W.heap.size) (vs.map (toA W)) vs
 |[]=>.nil _
 |v::vs=>.cons (abc aJ v) (abd aJ vs)
theorem Pj:∀(us:ac (Nat×bD)) (h:an bD) (k:Nat),(∀p∈us,p.1≠k)->(ks us h).get k=h.get k
 |[],_,_,_=>rfl
 |u::us,h,k,hn=>by
  rw[Jz,Pj us _ k (fun p hp=>hn p (zaK _ hp)),an.ep,zaa (fun e=>hn u zbt e.symm)]
theorem abG:∀(us:ac (Nat×bD)) (h:an bD) (k:Nat) (o:bD),(us.map (·.1)).Nodup->(k,o)∈us->(ks us h).get k=some o
 |u::us,h,k,o,al,hm=>by
  rw[zaP,List.nodup_cons]at al;rw[Jz];rcases zao.1 hm with rfl|hm
  ·rw[Pj us _ k (fun p hp e=>al.1 (e▸List.mem_map.2 ⟨p,hp,rfl⟩)),an.ep,zab rfl]
  ·exact abG us _ k o al.2 hm
def ym(W:co)(b:Nat):am Obj->am (Nat×bD)
 |some (.cells C el _)=>some (W.heap.size+b,.cells (C.toList.map (toA W)) el (0,C.size+1) false)
 |_=>none
def DP(W:co):ac (Nat×bD):=(List.range W.heap.size).filterMap fun b=>ym W b W.heap[b]?
def kB(gs:ac (Nat×bD))(W:co):an bD:=ks (DP W) (ks gs .nil)
def H0{W:co}:p∈DP W↔∃b,b<W.heap.size∧ym W b W.heap[b]? =some p:=by
 unfold DP;simp only[List.mem_filterMap,zcW]
def DO{W:co}{o:am Obj}(h:ym W b o=some p):p.1=W.heap.size+b:=by
 unfold ym at h;split at h
 ·cases h;rfl
 ·cases h
def aoE(W:co):((DP W).map (·.1)).Nodup:=by
 unfold DP;rw[List.map_filterMap];have hr:(List.range W.heap.size).Nodup:=List.nodup_range;refine List.Pairwise.filterMap (R:=fun a b=>a≠b) _ ?_ hr;intro a b iu x J y aA e;obtain⟨p,h1,rfl⟩:=zbm.1 J;obtain⟨q,h2,rfl⟩:=zbm.1 aA;rw[DO h1,DO h2]at e;omega
def akO{W:co}{C:ap be}{el:ce}{a8:Nat×Nat}(h:W.heap[b]? =some (.cells C el a8)):(kB gs W).get (W.heap.size+b)=some (.cells (C.toList.map (toA W)) el (0,C.size+1) false):=
 abG _ _ _ _ (aoE W) (H0.2 ⟨b,(zbk.1 h).1,by rw[h];rfl⟩)
def akN{W:co}(h:g<W.heap.size):(kB gs W).get g=(ks gs .nil).get g:=
 Pj _ _ _ fun p hp=>by
  obtain⟨b,_,e⟩:=H0.1 hp;rw[DO e];omega
def aum{W:co}(eM:X.aB<=W.heap.size)(h:∀p∈gs,s0 X.aB W p):bn X (ni X.aB W.heap.size) ⟨kB gs W,2*W.heap.size⟩ W:=by
 have hle:(Hl X.aB).le (ni X.aB W.heap.size):=fun i l hl=>by
  unfold Hl at hl;unfold ni;split at hl
  ·rename_i hi;cases hl;rw[zab hi]
  ·cases hl
 have k0:∀i l,ni X.aB W.heap.size i=some l->l.b5=iE∧l.cC<W.heap.size∧i<2*W.heap.size:=by
  intro i l hl;unfold ni at hl;split at hl
  ·cases hl;exact⟨rfl,by simp only;omega,by omega⟩
  ·split at hl
   ·cases hl;exact⟨rfl,by simp only;omega,by omega⟩
   ·cases hl
 have xL:∀i o,(kB gs W).get i=some o->s0 X.aB W (i,o)∨∃b,b<W.heap.size∧i=W.heap.size+b∧ym W b W.heap[b]? =some (i,o):=by
  intro i o ai;rcases Bh _ _ _ _ ai with hm|hm
  ·obtain⟨b,hb,e⟩:=H0.1 hm;exact .inr ⟨b,hb,DO e,e⟩
  ·rcases Bh _ _ _ _ hm with hm|hm
   ·exact .inl (h _ hm)
   ·simp at hm
 refine⟨fun i o ai al=> ?_,fun i j o p l m hi _ hj _ hl hm ae e=> ?_,fun i hi=> ?_,fun i l hl=>(k0 i l hl).2.1,fun g aJ=> ?_,?_,fun i l o hl _ ai _=> ?_⟩
 ·rcases xL i o ai with⟨aV,cs,el,m,C,a8,aq,e2,bV,eQ⟩|⟨b,hb,rfl,e⟩
  ·simp only at aV aq bV;refine⟨⟨i,0,0,iE⟩,by unfold ni;rw[zab aV],?_⟩;subst aq;have hlen:cs.length=C.size:=by rw[eQ.1];simp
   have eQ:=eQ.mono hle;refine⟨C,a8,bV,by simp[hlen],fun k U=> ?_,fun aa=> ?_,fun _=>⟨rfl,rfl,hlen.symm⟩⟩
   ·have fi:k<C.size:=by omega
    refine⟨C[k],by simp[fi],?_⟩;have:=eQ.2 k U (by simpa using fi)
    rwa [zaD]at this
   ·simp only at aa;omega
  ·refine⟨⟨b,0,0,iE⟩,MQ eM hb,?_⟩;unfold ym at e;split at e
   ·rename_i C el a8 hC;cases e;have hr:=abd eM C.toList;refine⟨C,a8,hC,by simp,fun k U=> ?_,fun aa=> ?_,fun _=>⟨rfl,rfl,by simp⟩⟩
    ·have fi:k<C.size:=by simpa using U
     refine⟨C[k],by simp[fi],?_⟩;have:=hr.2 k U (by simpa using fi)
     rwa [zaD]at this
    ·simp only at aa;omega
   ·cases e
 ·exact(ae.elim (fun h=>h (k0 i l hl).1) (fun h=>h (k0 j m hm).1)).elim
 ·have hi:2*W.heap.size<=i:=hi;refine⟨?_,?_⟩
  ·cases e:ni X.aB W.heap.size i with
   |none=>rfl
   |some l=>have:=(k0 i l e).2.2;omega
  ·cases e:(kB gs W).get i with
   |none=>rfl
   |some o=>
    rcases xL i o e with h|⟨b,hb,rfl,_⟩
    ·have:=h.1;simp only at this;omega
    ·omega
 ·exact hle _ _ (by unfold Hl;rw[zab aJ])
 ·show X.aB<=2*W.heap.size;omega
 ·rcases xL i o ai with⟨_,cs,el,m,C,a8,aq,e2,_,_⟩|⟨b,hb,rfl,e⟩
  ·simp only at aq;subst aq;exact⟨rfl,e2⟩
  ·unfold ym at e;split at e
   ·cases e;exact⟨rfl,Nat.succ_pos _⟩
   ·cases e
def akP{W:co}(h:∀p∈gs,p.1<W.heap.size)(b:Nat)(hb:2*W.heap.size<=b):(kB gs W).get b=none:=by
 cases e:(kB gs W).get b with
 |none=>rfl
 |some o=>
  rcases Bh _ _ _ _ e with hm|hm
  ·obtain⟨c,hc,e⟩:=H0.1 hm;have:=DO e;simp only at this;omega
  ·rcases Bh _ _ _ _ hm with hm|hm
   ·have:=h _ hm;simp only at this;omega
   ·simp at hm
inductive rT
 |i (k:IntKind)
 |b
 |s
 |aY (z w:Nat) (cs:List rT)
mutual
def ZS(B:Nat)(W:co):rT->be->Prop
 |.i k,v=>∃m,v= .int k m∧(Lit.int k m).wf=true
 |.b,v=>∃t,v= .bool t
 |.s,v=>∃s:f5,v= .string s∧s.data.toList.length<=B
 |.aY z w cs,v=>v= .slice none 0 0∨∃(a:Addr) (n c:Nat),v= .slice (some a) n c∧n<=c∧c<=B∧c*w<=B∧∀i,i<n->∃vs,W.cells? 0 (a.add (i*z)) z=some vs∧oK B W cs vs
def oK(B:Nat)(W:co):ac rT->ac be->Prop
 |[],vs=>vs=[]
 |c::cs,vs=>∃v ws,vs=v::ws∧ZS B W c v∧oK B W cs ws
end
theorem ZT{B:Nat}{W:co}:∀{cs ds:ac rT} {vs ws:ac be},oK B W cs vs->oK B W ds ws->oK B W (cs++ds) (vs++ws)
 |[],ds,vs,ws,h,az=>by
  have h:vs=[]:=h;subst h;exact az
 |c::cs,ds,vs,ws,⟨v,us,e,h1,h2⟩,az=>by
  subst e;exact⟨v,us++ws,rfl,h1,ZT h2 az⟩
def BR(P:d9):Nat->ce->am (ac rT)
 |0,_=>none
 |n+1,t=>
  match P.underlying t with
  |some .bool=>some [.b]
  |some (.int k)=>some [.i k]
  |some .string=>some [.s]
  |some (.slice e)=>if P.bytesOf e=0 then none else(BR P n e).map fun cs=>[.aY (P.cellsOf e) (P.bytesOf e) cs]
  |some (.struct bB)=>if zv 0 (bB.toList.map fun f=>(f.offset,P.cellsOf f.type)) (P.cellsOf t)then(bB.toList.mapM fun(f:Field)=>BR P n f.type).map List.flatten else none
  |_=>none
theorem ab1{H:Type}{P:d9}{e:ce}{x:Nat}:∀{l:ac (DataW H)} {d:DataW H},d∈l->x∈d.weights P e->x∈DataW.weightsAll P e l
 |y::l,d,al,J=>by
  unfold DataW.weightsAll;rcases zao.1 al with rfl|al
  ·exact zdb _ J
  ·exact zep _ (ab1 al J)
theorem Py{H:Type}{P:d9}{x:Nat}:∀{ts:ac ce} {l:ac (DataW H)} {i:Nat} {t:ce} {d:DataW H},ts[i]? =some t->l[i]? =some d->x∈d.weights P t->x∈DataW.weightsEach P ts l
 |[],_,_,_,_,h,_,_=>by simp at h
 |_::_,[],_,_,_,_,h,_=>by simp at h
 |u::ts,y::l,0,t,d,h,az,J=>by
  simp at h az;subst h;subst az;unfold DataW.weightsEach;exact zdb _ J
 |u::ts,y::l,i+1,t,d,h,az,J=>by
  unfold DataW.weightsEach;exact zep _ (Py (i:=i) (by simpa using h) (by simpa using az) J)
theorem aan{B:Nat}{W:co}{α:Type}{seg:α->ac be}{dd:α->am (ac rT)}:∀(as:ac α) (nA:ac (ac rT)),as.mapM dd=some nA->(∀a∈as,∀cs,dd a=some cs->oK B W cs (seg a))->oK B W nA.flatten (as.map seg).flatten
 |[],nA,h,_=>by
  simp at h;subst h;exact rfl
 |a::as,nA,h,U=>by
  rw[zdu]at h;obtain⟨cs,J,h⟩:=zcm.1 h;obtain⟨ao,aA,h⟩:=zcm.1 h;cases h;rw[zaP,zei,zei];exact ZT (U a zbt cs J) (aan as ao aA (fun a ha=>U a (zaK _ ha)))
theorem Kj{H:Type}{enc:ce×be->H}{P:d9}{W:co}{B:Nat}:∀(n fuel:Nat) (t:ce) (cs:ac be) (d:DataW H) (p:ac MemPlace) (nA:ac rT),
 DataW.trod enc P W 0 (fun _=>true) true fuel t cs=some (d,p)->BR P n t=some nA->(∀x∈d.weights P t,x<=B)->oK B W nA cs
 |0,_,_,_,_,_,_,_,h,_=>by cases h
 |n+1,fuel,t,cs,d,p,nA,h,hc,a5=>by
  unfold BR at hc;cases fuel with
  |zero=>simp[DataW.trod]at h
  |succ fuel=>
  split at hc
  ·rename_i hu;cases hc;simp only[DataW.trod,hu]at h;split at h<;>first|(rename_i hq;cases hq)|skip
   all_goals first|(exact⟨_,_,rfl,⟨_,rfl⟩,rfl⟩)|(simp at h)
  ·rename_i k hu;cases hc;simp only[DataW.trod,hu]at h;split at h<;>first|(rename_i hq;cases hq)|skip
   all_goals first
    |(split at h
      ·rename_i hc;exact⟨_,_,rfl,⟨_,by rw[hc.1],hc.2⟩,rfl⟩
      ·cases h)
    |(simp at h)
  ·rename_i hu;cases hc;simp only[DataW.trod,hu]at h;split at h<;>first|(rename_i hq;cases hq)|skip
   all_goals first
    |(split at h
      ·cases h;exact⟨_,_,rfl,⟨_,rfl,a5 _ (by unfold DataW.weights;exact zbt)⟩,rfl⟩
      ·cases h)
    |(simp at h)
  ·rename_i e hu;split at hc
   ·cases hc
   rename_i au2;obtain⟨adN,akz,rfl⟩:=zbm.1 hc;rcases DataW.trod_slice hu h with⟨rfl,_⟩|⟨a,len,cap,elems,rest,m,aq,rfl,e2,_,h1,h2,h3,au,aW,_⟩
   ·exact⟨_,_,rfl,.inl rfl,rfl⟩
   ·have al:d= .slice (elems.map (·.1)) (rest.map (·.1)):=congrArg Prod.fst e2;subst al;have hw:∀x,x∈(elems.length+rest.length)*P.bytesOf e::(DataW.weightsAll P e (elems.map (·.1))++DataW.weightsAll P e (rest.map (·.1)))->x<=B:=fun x J=>a5 x (by
     unfold DataW.weights;rw[hu];simp only[zaN];exact J)
    have ae:=hw _ zbt;have ln:(elems.length+rest.length)*1<=(elems.length+rest.length)*P.bytesOf e:=Nat.mul_le_mul_left _ (by omega);have hr:=(aW rfl).1;refine⟨_,_,rfl,.inr ⟨a,len,cap,rfl,h1,by omega,zai (zdT _ (by omega)) ae,fun i hi=> ?_⟩,rfl⟩;have au:=au i hi;have GO:i<elems.length:=by omega
    rw[zdn GO]at au;obtain⟨vs,cr,cz⟩:=zcm.1 au;refine⟨vs,cr,Kj n m e vs _ _ adN cz akz (fun x J=>hw x (zaK _ (zdb _ (ab1 (List.mem_map.2 ⟨_,zdU GO,rfl⟩) J))))⟩
  ·rename_i bB hu;split at hc
   ·rename_i VF;obtain⟨adT,hm,rfl⟩:=zbm.1 hc;obtain⟨xs,m,aq,e2,bV,eQ,kR⟩:=DataW.trod_struct hu h;have al:d= .agg (xs.map (·.1)):=congrArg Prod.fst e2;subst al;rw[<-bV]at VF;have FX:=FD cs _ 0 VF;rw[zaq,zck]at FX;rw[FX];refine aan (seg:=fun(f:Field)=>(cs.drop f.offset).take (P.cellsOf f.type)) bB.toList adT hm (fun f aa cs' hV=> ?_);obtain⟨i,hi,rfl⟩:=List.mem_iff_getElem.1 aa;have ec:i<bB.size:=by simpa using hi
    have kR:=kR i bB.toList[i] (by simp[ec]);have kC:i<xs.length:=by omega
    rw[zdn kC]at kR;exact Kj n m _ _ _ _ cs' kR hV (fun x J=>a5 x (by
     unfold DataW.weights;rw[hu];exact Py (i:=i) (t:=bB.toList[i].type) (d:=xs[i].1) (by simp[ec]) (by simp[kC]) J))
   ·cases hc
  ·cases hc
def Gx(W:co)(v:be):Prop:=∀a l c,v= .slice (some a) l c->a.spot=none∧∃C el a8,W.heap[a.block]? =some (.cells C el a8)
variable{v:be}{z:Nat}{α:Type}
def GA{P:d9}{W:co}{u e:ce}(hu:P.underlying u=some (.slice e))(h:Cell.okWide P W .any 0 u v):Gx W v:=by
 intro a l c aF;subst aF;unfold Cell.okWide at h;rw[hu]at h;simp only[Cell.ok,hu]at h;obtain⟨_,_,_,h1,row,cells,h2,_⟩:=h;refine⟨h1,?_⟩;unfold World.shape? at h2;split at h2
 ·rename_i C el a8 hC;exact⟨C,el,a8,hC⟩
 ·cases h2
def adK{W:co}{a:Addr}{vs:ac be}{C:ap be}{el:ce}{a8:Nat×Nat}{o:Nat}(ae:a=⟨b,o,none⟩)(h:W.cells? 0 a z=some vs)(hC:W.heap[b]? =some (.cells C el a8)):vs=(C.toList.drop o).take z:=by
 unfold World.cells? at h;rw[zab (zag _)]at h;have hl:=mapM_some_length h;rw[zeq]at hl;have aJ:∀i,i<z->C[o+i]? =vs[i]? :=fun i hi=>by
  have:=mapM_some_get h i i (by simp[hi]);unfold World.cell? at this;rw[ae,pJ]at this;simp only[hC]at this;exact this
 apply zbD;intro i;rw[zaJ];split
 ·rename_i hi;rw[zaF,<-aJ i hi];simp
 ·rw[zbG (by omega)]
def anI{n:Nat}{p:Nat->α->Prop}(h:∀i,i<n->∃x,p i x):∃l:ac α,l.length=n∧∀(i:Nat) (x:α),l[i]? =some x->p i x:=by
 induction n with
 |zero=>exact⟨[],rfl,fun i x J=>by simp at J⟩
 |succ n aZ=>
  obtain⟨l,h1,h2⟩:=aZ (fun i hi=>h i (by omega));obtain⟨y,aA⟩:=h n (zbZ _);refine⟨l++[y],by simp[h1],fun i x J=> ?_⟩;by_cases hi:i<n
  ·rw[zaV (by omega)]at J;exact h2 i x J
  ·rw[zaM (by omega)]at J;have:i=n:=by
    have:=(zae.1 J).1;simp at this;omega
   subst this;rw[h1,Nat.sub_self]at J;simp at J;subst J;exact aA
def Jj{B:Nat}{W:co}{w:Nat}{nA:ac rT}{R:α->ac ab}{Q:α->Prop}(xC:∀vs,oK B W nA vs->∃x:α,db (fun b=>(kB gs W).get b) (R x) [] (vs.map (toA W))∧Q x)
 (h:ZS B W (.aY z w nA) v) (hh:Gx W v):∃l:ac α,l.length<=B∧l.length*w<=B∧(∀x∈l,Q x)∧den (fun b=>(kB gs W).get b) (.cc z α R l) [] (toA W v):=by
 rcases h with rfl|⟨a,n,c,rfl,h1,h2,hw,h3⟩
 ·exact⟨[],zag _,by simp,(fun x J=>by cases J),.inl ⟨rfl,rfl⟩⟩
 ·obtain⟨aG,C,el,a8,aI⟩:=hh a n c rfl;obtain⟨b,o,sp⟩:=a;simp only at aG aI;subst aG;have VD:=(zbk.1 aI).1;obtain⟨l,aq,e2⟩:=anI (p:=fun i x=>db (fun b=>(kB gs W).get b) (R x) [] ((((C.toList.map (toA W)).drop (o+i*z)).take z))∧Q x) (n:=n) (fun i hi=>by
   obtain⟨vs,cr,cz⟩:=h3 i hi;obtain⟨x,dT,jI⟩:=xC vs cz;have:=adK (pJ b o (i*z)) cr aI;rw[this]at dT;refine⟨x,?_,jI⟩;rw[<-zer,<-List.map_take];exact dT)
  refine⟨l,by omega,zai (zdT _ (by omega)) hw,fun x J=> ?_,.inr ⟨W.heap.size+b,o,c,C.toList.map (toA W),el,(0,C.size+1),false,?_,by omega,akO aI,fun i x J=>(e2 i x J).1⟩⟩
  ·obtain⟨i,hi⟩:=zcp.1 J;exact(e2 i x hi).2
  ·show(if Af W b=true∧(none:am Nat)=none then Value.slice (some ⟨W.heap.size+b,o,none⟩) n c else _)=_;rw[zab ⟨by unfold Af;rw[aI],rfl⟩,aq]
