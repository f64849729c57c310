/- Rules for what a function computes on abstract states (part 2); no condition. -/
import Derived.Carry
import Derived.Test.YtdinjknpilkilaaGreatDoorS1
import Derived.Test.YtdinjknpilkilaaGreatDoorM3
noncomputable section
set_option linter.all false
namespace Go.ah
open Sym
def aof{k z j q o:Nat}(h:o=j*z+q):bV (.p k o) (.gp k z j q):=fun _ _ _ d=>by subst h;exact d
section
variable{call:bG}{s:cr}{x y i:bi}
variable{n k:Nat}{el:ce}{z:Nat}{cs:ac ae}{j o:Nat}{a3:Bool}{l:ac bv}
def ang{b8:d8}(J:br s.env x=some (.p k o))(aa:br s.env i=some (.i b8 (j:Int)))(hj:j<n):gI call (.uT n z x i) s (.p k (o+j*z)) s.own s.n:=l5 fun H ids st fr ar U=>by
 obtain⟨b,h1,h2⟩:=U.ai J;have ab:fr.ai i= .int b8 (j:Int):=U.ai aa;refine⟨_,⟨b,h1,rfl⟩,?_⟩;show w0 n z x i call fr st=_;unfold w0;rw[h2,sA,Sym.e6,ab,na,oI,gn (by omega),rD];rfl
def anf{b8:d8}(J:br s.env x=some (.ip cs))(aa:br s.env i=some (.i b8 (j:Int)))(hj:j<n):gI call (.uT n z x i) s (.ip (cs.drop (j*z))) s.own s.n:=l5 fun H ids st fr ar U=>by
 obtain⟨b,o,vs,el,bk,a3,h1,h2,d⟩:=U.ai J;have ab:fr.ai i= .int b8 (j:Int):=U.ai aa;refine⟨.pointer (some ⟨b,o+j*z,none⟩),⟨b,o+j*z,vs,el,bk,a3,rfl,h2,?_⟩,?_⟩
 ·have:=o6 (j*z) d;rw[zdR,zbC,<-zaF]at this;exact this
 ·show w0 n z x i call fr st=_;unfold w0;rw[h1,sA,Sym.e6,ab,na,oI,gn (by omega),rD];rfl
def ane{bY:bu}{g:Nat}{vs:ac be}{bk:Nat×Nat}{b8:d8}(J:br s.env x=some (.v (.pointer (some ⟨g,0,none⟩))))(aO:bY g=some (.cells vs el bk a3))(ao:∀H,dH H cs [] vs)(aa:br s.env i=some (.i b8 (j:Int)))(hj:j<n):Ae bY call (.uT n z x i) s (.ip (cs.drop (j*z))) s.own s.n:=fun H ids st fr gx ar U=>by
 have h1:fr.ai x= .pointer (some ⟨g,0,none⟩):=U.ai J;have ab:fr.ai i= .int b8 (j:Int):=U.ai aa;refine⟨.pointer (some ⟨g,0+j*z,none⟩),st,ids,H,?_,ar,⟨g,0+j*z,vs,el,bk,a3,rfl,gx _ _ aO,?_⟩,dj.refl _,dk.refl _,fun _ _ _ B=>B,b6 _,fun _ _ _=>rfl⟩
 ·show w0 n z x i call fr st=_;unfold w0;rw[h1,sA,Sym.e6,ab,na,oI,gn (by omega),rD];rfl
 ·have:=o6 (j*z) (ao H);have hl:=iF this;rw[zaP,<-hl,zaX];exact this
def afq(J:br s.env x=some (.p k o))(hk:s.own[k]? =some (.c el cs))(ak:o<cs.length):gI call (.C6 x) s (.p k o) s.own s.n:=l5 fun H ids st fr ar U=>by
 obtain⟨b,h1,h2⟩:=U.ai J;obtain⟨⟨vs,ab,d⟩,_⟩:=ar.own k _ b hk h1;refine⟨_,⟨b,h1,rfl⟩,?_⟩;show Jg x call fr st=_;unfold Jg au.hz;rw[h2,sA,Sym.e6,Sym.jc,ab,mK,gn (by rw[fC,iF d];exact ak)]
def af2(J:br s.env x=some (.p k 0))(hk:s.own[k]? =some (.c el cs))(hn:cs.length=n):gI call (.C7 el n x) s (.p k 0) s.own s.n:=l5 fun H ids st fr ar U=>by
 obtain⟨b,h1,h2⟩:=U.ai J;obtain⟨⟨vs,ab,d⟩,_⟩:=ar.own k _ b hk h1;refine⟨_,⟨b,h1,rfl⟩,?_⟩;show Jh el n x call fr st=_;unfold Jh au.hz;rw[h2,sA,Sym.e6,Sym.jc,ab,mK,cond_false,lv rfl,lv rfl,lv (by rw[fC,iF d];exact hn)]
def QK{p q:Nat}{α:Type}{R:α->ac ae}{l:ac α}{lo aa:am bi}(J:br s.env x=some (.p k 0))(hk:s.own[k]? =some (.a el false z α R l))(fG:fV s lo 0 p)(g6:fV s aa n q)(hp:p<=q)(hq:q<=n)(h0:p<n∨p=0):gI call (.FC n z x lo aa none) s (.aN k z p (q-p) (n-p)) s.own s.n:=l5 fun H ids st fr ar U=>by
 obtain⟨b,h1,h2⟩:=U.ai J;obtain⟨vs,bj,cn,cT⟩:=rG ar hk h1;refine⟨_,⟨b,h1,rfl⟩,?_⟩;show Jn n z x lo aa none call fr st=_;unfold Jn au.hz;rw[h2,sA,Sym.e6,Sym.jc,bj,mK,cond_false,Gm,fV.ai g6 U hq,fV.ai fG U hp];congr 2;by_cases qO:n=p
 ·subst qO;rcases h0 with h0|h0
  ·omega
  ·subst h0;rw[lv rfl];simp
 ·rw[ur qO,rD,zaP];rfl
def auc{b8:d8}(J:br s.env x=some (.p k 0))(ay:br s.env y=some (.i b8 (n:Int)))(hk:s.own[k]? =some (.a el a3 1 bv lP l))(hn:n=l.length)(h0:n≠0)(hb:n<=1099511627776):gI call (.tE el x y) s (.s l) (s.own.set k .x) s.n:=fun H ids st fr ar U=>by
 obtain⟨b,h1,h2⟩:=U.ai J;have ab:fr.ai y= .int b8 (n:Int):=U.ai ay;obtain⟨vs,bj,cn,cT⟩:=rG ar hk h1;have cZ:=LX (⟨cn,cT⟩:j9 H ids lP 1 l vs);refine⟨_,_,ids,H,?_,ar.hI hk rfl h1 (eK:=.cells vs el (0,0+n) a3) trivial,rfl,dj.refl _,dk.refl _,fun _ _ _ B=>B.hI (zau h1) _,b6 _,?_⟩
 ·show Jo el x y call fr st=_;unfold Jo au.hz;rw[h2,sA,ab,na,oI,ur h0,Sym.e6,gn (show n<=2^40 from hb),Sym.jc,bj,mK,gn (b6 _),lv rfl,uc (by show n<=(vs.drop 0).length;rw[zar,cn];omega)];show bm (bytesOf ((vs.drop 0).take n)) _ _=_;rw[zar,zaV (by rw[cn];omega),cZ,Sym.e6,lk];rfl
 ·intro gw _ cb;exact an.ji _ _ (fun e=>cb k (by simp[iM,J]) (e▸h1))
def uU(c:bv)(l:ac bv):Int:=match qU c l with
 |some i=>i
 |none=> -1
def ank{c:bv}(J:br s.env x=some (.s l))(ay:br s.env y=some (.i .u8 (c.toNat:Int))):gI call (.k4 x y) s (.i .i64 (uU c l)) s.own s.n:=l5 fun H ids st fr ar U=>by
 have h1:fr.ai x= .string ⟨⟨l⟩⟩:=U.ai J;have h2:fr.ai y= .int .u8 (c.toNat:Int):=U.ai ay;refine⟨_,rfl,?_⟩;show Ji x y call fr st=_;unfold Ji;rw[h1,Cs,h2,na,show kG .u8 .u8=true from rfl,cond_true,oI,zeF];unfold uU;show aV.ok (.int .i64 (bm (qU c l) (fun i=>.ofNat i) (.negSucc 0))) fr st=_;cases qU c l<;>rfl
end
set_option maxRecDepth 10000
def Pt{X:Ctx}{K:ci->fX}{f:ci}(h:K f=fX.no)(as:ac be)(st:au):c0 X K f as st=none:=by
 unfold c0;rw[h,dif_neg (fun⟨p,h1,_⟩=>h1),dif_neg (fun⟨p,h1,_⟩=>h1)]
def dv.trans{bY H a5:bu}{i0 ids bO:ac Nat}{aK st st':au}(h:dv bY i0 aK H ids st)(aC:dv H ids st a5 bO st'):dv bY i0 aK a5 bO st':=by
 have hn:∀b,b<aK.aj->b∉i0->b<st.aj∧b∉ids:=fun b hb aa=>⟨gH hb h.aj,fun hm=>(h.new b hm).elim aa (fun h=>by omega)⟩;refine⟨h.hle.trans aC.hle,fun b hb aa=> ?_,fun b hb aa=> ?_,zag h.aj aC.aj,fun k b hk=>aC.l2 k b (h.l2 k b hk),fun b hb=> ?_⟩
 ·obtain⟨h1,h2⟩:=hn b hb aa;rw[aC.hold b h1 h2,h.hold b hb aa]
 ·obtain⟨h1,h2⟩:=hn b hb aa;rw[aC.gN b h1 h2,h.gN b hb aa]
 ·rcases aC.new b hb with h1|h1
  ·exact h.new b h1
  ·exact .inr (zag h.aj h1)
section
variable{X:Ctx}{bn:an dy}{cq:ci->fX}{cc n:Nat}{fn:ci}{bY:bu}{i0:ac Nat}{aK:au}{Q:dM->cr->Prop}{K:ac eS}{own:ac bd}{aG:Nat}{e:bJ}
def Rx(aw:fI)(K:ac eS)(xs:ac bA)(d:am Tmp)(e:bJ)(res:ac jq)(x:dM)(s:cr):Prop:=(x= .norm∨x= .ret)∧∃r,Fin.xn s res=some r∧aS.ok aw ⟨K,.o xs,⟨s.own,s.n,fO d r e⟩⟩
def xi{g:ci}(xf:dy)(J:bn.get g=some xf){cz:ac bi}{as:ac ae}{d:am Tmp}{xs:ac bA}
 (k:∀H1 i1 s1,i1.length=own.length->dj bY H1->aS.ok ⟨cG bn (c0 X cq) (n+1),n+1,g,H1,i1,s1,Rx ⟨cG bn (c0 X cq) (n+2),cc,fn,bY,i0,aK,Q⟩ K xs d e xf.res⟩ ⟨[],.c xf.body,⟨own,aG,ov 0 as⟩⟩)
 (ha:k6 e cz=some as:=by rfl) (hl:as.length<=xf.aP:=by exact kv rfl) (dJ:cq g=fX.no:=by rfl):aS.ok ⟨cG bn (c0 X cq) (n+2),cc,fn,bY,i0,aK,Q⟩ ⟨K,.o (⟨d,.call (.func g) cz,none⟩::xs),⟨own,aG,e⟩⟩:=by
 intro H ids st fr a8 ar U;have ao:=U.er ha;have fm:=k H ids st (ar.len.trans ar.ct.symm) a8.hle H ids st (fS (er fr cz)) (dv.refl _ _ _) ar (c1.zero ao);obtain⟨v,st',h1,r,a5,bO,s,du,dG,g5,hk⟩:=Gl (n:=n+1) (f:=g) (Post:=fun v st'=>∃(r:ae) (a5:bu) (bO:ac Nat) (s:cr),dv H ids st a5 bO st'∧Fit a5 bO st' s.own s.n∧den a5 r bO v∧aS.ok ⟨cG bn (c0 X cq) (n+2),cc,fn,bY,i0,aK,Q⟩ ⟨K,.o xs,⟨s.own,s.n,fO d r e⟩⟩)
  (by rw[iF ao];exact hl) (fm.mono (by
   rintro x eH cm ⟨a5,bO,s,du,dG,eJ,J,r,aL,hk⟩;obtain⟨v,ab,aD⟩:=Ft (call:=cG bn (c0 X cq) (n+1)) dG eJ aL;exact⟨J,v,aD,r,a5,bO,s,du,dG,ab,hk⟩))
 refine Cw (v:=v) (st':=st') ?_ (hk a5 bO st' _ (a8.trans du) dG ((U.mono du.hle du.l2).fO d g5));rw[vn];show wi (cG bn (c0 X cq) (n+2) (.func (.func g) #[] #[]) (er fr cz) none st) _ _=_;rw[vU];have a7:gJ (#[]:ap be).toList (gJ (er fr cz) (#[]:ap be).toList)=er fr cz:=by simp
 rw[a7,Pt dJ,Sym.jc,Sym.jc,J,Sym.e6,h1];rfl
end
theorem LY{H:bu}{ids:ac Nat}{α:Type}{R:α->ac ae}{z:Nat}(av:∀w,(R w).length=z):∀{l:ac α} {vs:ac be},j9 H ids R z l vs->dH H (l.flatMap R) ids vs
 |[],vs,h=>by
  have:vs=[]:=zbz (by rw[h.1];simp);exact this
 |w::l,vs,h=>by
  rw[<-zbD z vs,zdk];have h1:=h.2 0 w (by simp);rw[zaA,zar]at h1;have h2:=Ax h 1;rw[zaw]at h2;exact sM h1 (LY av (l:=l) h2)
section
variable{aw:fI}{K:ac eS}{own bl:ac bd}{aG b1:Nat}{e:bJ}{d:Tmp}{xs:ac bA}{x y i:bi}
variable{el:ce}{cu:Nat}{l:ac bv}{n z:Nat}{α:Type}{p:ac bA}{a3:Bool}{j:Nat}{R:α->ac ae}
def aqR(k:Nat){l:ac α}(b8:aS.ok aw ⟨K,.o p,⟨bl,aG,e⟩⟩)(hk:own[k]? =some (.a el false z α R l):=by rfl)(av:∀w,(R w).length=z:=by exact fun _=>rfl)(ak:jm own k (.c el (l.flatMap R)) some=some bl:=by rfl):aS.ok aw ⟨K,.o p,⟨own,aG,e⟩⟩:=fun H ids st fr a8 ar U=>by
 have:=j5 ak;cases this;refine b8 H ids st fr a8 ⟨ar.wf,ar.le,by simp[ar.ct],ar.len,ar.dg,ar.lt,?_⟩ U;intro j q c hj hc;by_cases hE:k=j
 ·subst hE;rw[zbb,zab rfl]at hj;split at hj<;>cases hj;obtain⟨⟨vs,ab,aD,bg⟩,cv⟩:=ar.own k _ c hk hc;exact⟨⟨vs,ab,LY av ⟨aD,bg⟩⟩,fun _=>cv rfl⟩
 ·rw[zbb,zaa hE]at hj;exact ar.own j q c hj hc
def aqY(t:Nat){k:Nat}{l:ac α}(b8:aS.ok aw ⟨K,.o p,⟨bl,aG,(t,.ip (l.flatMap R))::e⟩⟩)(aF:dR e t=some (.p k 0):=by rfl)(hk:own[k]? =some (.a el a3 z α R l):=by rfl)(hp:∀x,jk (R x)=true:=by exact fun _=>rfl)(av:∀w,(R w).length=z:=by exact fun _=>rfl)(ak:jm own k .x some=some bl:=by rfl):aS.ok aw ⟨K,.o p,⟨own,aG,e⟩⟩:=fun H ids st fr a8 ar U=>by
 have:=j5 ak;cases this;obtain⟨b,aH,aI⟩:=U.get t _ aF;obtain⟨⟨vs,bj,cn,cT⟩,_⟩:=ar.own k _ b hk aH;have hle:=Dx ar hk rfl aH;refine b8 (lz H st b) ids st fr (a8.lz ar hk rfl aH) (ar.lz hk rfl aH) ⟨(U.mono hle (dk.refl _)).pl,fun j q hj=> ?_⟩;rw[tg]at hj;cases hb:Nat.beq t j with
 |false=>rw[hb]at hj;exact(U.mono hle (dk.refl _)).get j q hj
 |true=>
  rw[hb]at hj;cases hj;rw[<-eo hb];have hc:j9 H [] R z l vs:=⟨cn,fun i x J=>sN _ (hp x) (cT i x J) []⟩;have ao:=LY av hc;have hl:=iF ao;refine⟨b,0,vs,el,(0,0),a3,aI,by unfold lz;rw[zab rfl];exact bj,?_⟩;rw[zar,<-hl,zaX];exact ni hle _ (dk.refl _) ao
def acL{call:bG}{s:cr}(ay:br s.env y=some (.s l)):xK call el cu s y lP 1 l:=fun H ids st fr ar U x p n c J=>by
 have h1:fr.ai y= .string ⟨⟨l⟩⟩:=U.ai ay;obtain⟨h2,ab⟩:=SU H ids l;refine⟨mD l,h2,ab,?_⟩;have e:bK call (.app el 1 cu x y) fr st=j8 (fr.ai x) (fun base len cap=>j8 (fr.ai y) (fun b n _=>bm b (fun b=>st.load b (Nat.mul n 1) (fun new=>cond (h8 new) (kV fr st el 1 cu base len cap n new) .no) .no) (eQ n 0 (kV fr st el 1 cu base len cap 0 []) .no)) (xx (fr.ai y) (kV fr st el 1 cu base len cap 0 []) (jE (fr.ai y) (fun s=>eQ 1 1 (kV fr st el 1 cu base len cap (dL s.data.toList) (mD s.data.toList)) .no) .no))) .no:=rfl;rw[e,J,rq,h1];show eQ 1 1 (kV fr st el 1 cu p n c (dL l) (mD l)) .no=_;rw[lv rfl,fC]
def aqQ(k:aS.ok aw ⟨K,.o xs,⟨bl,b1,(d,.aN aG 1 0 l.length l.length)::e⟩⟩)(J:br e x=some .nl:=by rfl)(ay:br e y=some (.s l):=by rfl)
 (ak:oa own (.a el true 1 bv lP l) some=some bl:=by rfl) (jx:mx aG some=some b1:=by rfl) (h0:l≠[]:=by first|rfl|simp) (hb:(5*l.length+1792)*(cu+1)<=1125899906842624:=by first|omega|(simp;done)|(simp;omega)):aS.ok aw ⟨K,.o (⟨some d,.app el 1 cu x y,none⟩::xs),⟨own,aG,e⟩⟩:=by
 have h1:=oY ak;have h2:=nC jx;cases h1;cases h2;exact g9 (Lh (s:=⟨own,aG,e⟩) J (acL ay) h0 hb) k
def aqP{k0 c:Nat}{m:ac bv}{gY:ac bd}(k:aS.ok aw ⟨K,.o xs,⟨bl,b1,(d,.aN aG 1 0 (n+m.length) (n+m.length))::e⟩⟩)(J:br e x=some (.aN k0 1 0 n c):=by rfl)(ay:br e y=some (.s m):=by rfl)(hk:own[k0]? =some (.a el true 1 bv lP l):=by rfl)
 (oB:jm own k0 .x some=some gY:=by rfl) (ak:oa gY (.a el true 1 bv lP (l++m)) some=some bl:=by rfl) (jx:mx aG some=some b1:=by rfl) (h0:m≠[]:=by first|rfl|simp) (hn:n=l.length:=by first|omega|(simp;done)|(simp;omega)) (k3:n=c:=by omega) (hb:(5*(n+m.length)+1792)*(cu+1)<=1125899906842624:=by first|omega|(simp;done)|(simp;omega)):aS.ok aw ⟨K,.o (⟨some d,.app el 1 cu x y,none⟩::xs),⟨own,aG,e⟩⟩:=by
 have kh:=j5 oB;cases kh;have h1:=oY ak;have h2:=nC jx;cases h1;cases h2;have:=Gf (call:=aw.call) (s:=⟨own,aG,e⟩) (cu:=cu) J hk (acL ay) h0 (by omega) (by omega) (by omega) hb;rw[hn,zaX]at this;rw[hn]at k;exact g9 this k
def aq1{k0:Nat}{b8:d8}(k:aS.ok aw ⟨K,.o xs,⟨own,aG,(d,.gp k0 1 j 0)::e⟩⟩)(J:br e x=some (.p k0 0):=by rfl)(aa:br e i=some (.i b8 (j:Int)):=by rfl)(hj:j<n:=by omega):aS.ok aw ⟨K,.o (⟨some d,.uT n 1 x i,none⟩::xs),⟨own,aG,e⟩⟩:=
 g9 (fun H ids st fr ar U=>let⟨v,st',bO,a5,h1,h2,ab,aD⟩:=ang (call:=aw.call) (s:=⟨own,aG,e⟩) (z:=1) J aa hj H ids st fr ar U;⟨v,st',bO,a5,h1,h2,aof (by omega) _ _ _ ab,aD⟩) k
def aqZ{g:Nat}{b8:d8}{vs:ac be}{bk:Nat×Nat}{cs:ac ae}(aO:aw.bY g=some (.cells vs el bk a3))(ao:∀H,dH H cs [] vs)(k:aS.ok aw ⟨K,.o xs,⟨own,aG,(d,.ip (cs.drop j))::e⟩⟩)(J:br e x=some (.v (.pointer (some ⟨g,0,none⟩))):=by rfl)(aa:br e i=some (.i b8 (j:Int)):=by rfl)(hj:j<n:=by omega):aS.ok aw ⟨K,.o (⟨some d,.uT n 1 x i,none⟩::xs),⟨own,aG,e⟩⟩:=by
 have:=ane (call:=aw.call) (s:=⟨own,aG,e⟩) (z:=1) J aO ao aa hj;rw[zbc]at this;exact Kb (d:=some d) this k
end
section
variable{call:bG}{s:cr}{x y:bi}
variable{neg:Bool}
def T2{c:Bool}{t:pC}{fr:aJ}{st:au}(hc:lX 8 t (fr.ai x) (fr.ai y)=some c):bK call (.eqv neg t x y) fr st= .ok (.bool (ng neg c)) fr st:=by
 show bm (lX 8 t (fr.ai x) (fr.ai y)) (fun b=>aV.ok (.bool (cond neg (!b) b)) fr st) .no=_;rw[hc];rfl
def ahu(J:br s.env x=some (.v (.pointer none)))(ay:br s.env y=some (.v (.pointer none))):gI call (.eqv neg .ptr x y) s (.b (ng neg true)) s.own s.n:=l5 fun H ids st fr ar U=>
 ⟨_,rfl,T2 (by rw[show fr.ai x=_ from U.ai J,show fr.ai y=_ from U.ai ay];simp[lX,sS])⟩
def ahv{k o:Nat}(J:br s.env x=some (.p k o))(ay:br s.env y=some (.p k o)):gI call (.eqv neg .ptr x y) s (.b (ng neg true)) s.own s.n:=l5 fun H ids st fr ar U=>by
 obtain⟨b,h1,h2⟩:=U.ai J;obtain⟨gw,lZ,ab⟩:=U.ai ay;rw[h1]at lZ;cases lZ;exact⟨_,rfl,T2 (by rw[h2,ab];simp[lX,sS])⟩
end
section
variable{aw:fI}{K:ac eS}{own bl bp gY:ac bd}{aG a6 bU back:Nat}{e a7:bJ}{d:Tmp}{ts:ac Tmp}{xs:ac (bA×cx)}{x y i:bi}
variable{n:Nat}
def agk{k0 z c:Nat}(k:aS.ok aw ⟨K,.d xs bp ((d,.p k0 0)::a7) a6 bU,⟨own,aG,(d,.p k0 0)::e⟩⟩)(J:br (fh ts a7) x=some (.aN k0 z 0 n c):=by rfl)(hc:c≠0:=by omega)(hb:back<a6:=by decide):aS.ok aw ⟨K,.d ((⟨some d,.Ce x,none⟩,.read back ts)::xs) bp a7 a6 bU,⟨own,aG,e⟩⟩:=
 qz (d:=some d) (a:=.p k0 0) hb (fun H ids st fr U _ _=>by
  obtain⟨b,h1,h2⟩:=U.ai J;refine⟨_,⟨b,h1,rfl⟩,fun ef _ _=> ?_⟩;show Jm x aw.call fr ef=_;unfold Jm;rw[h2,rq,zaA,Sym.e6,ur hc]) k
def agm{k0:Nat}{el:ce}{a3:Bool}{l:ac bv}{b8:d8}{aq:bJ}(k:aS.ok aw ⟨K,.d xs gY aq (a6+1) aG,⟨bl,aG,(d,.s l)::e⟩⟩)(J:br e x=some (.p k0 0):=by rfl)(ay:br e y=some (.i b8 (n:Int)):=by rfl)(hk:own[k0]? =some (.a el a3 1 bv lP l):=by rfl)(ak:jm own k0 .x some=some bl:=by rfl)(oB:BU bp (some k0) some=some gY:=by rfl)(alA:lV d a7=aq:=by rfl)
 (hn:n=l.length:=by first|rfl|omega|(simp;done)) (h0:n≠0:=by omega) (hb:n<=1099511627776:=by omega):aS.ok aw ⟨K,.d ((⟨some d,.tE el x y,none⟩,.ep)::xs) bp a7 a6 bU,⟨own,aG,e⟩⟩:=by
 have h:=j5 ak;cases h;obtain⟨EZ,aH,aI,bj⟩:=Jr oB;cases aH;subst alA;exact v3 (d:=some d) (s:=⟨own,aG,e⟩) (auc (s:=⟨own,aG,e⟩) J ay hk hn h0 hb) aI (fun k o fs hl=>by
  have:=bj k o fs hl;simp only[iM,J];exact this) k
end
variable{st:au}{call:bG}{fr:aJ}{n:Nat}{H:bu}{ids:ac Nat}{cc:Nat}{a b:dw}{eH:aJ}{cm:au}{e:bJ}{s:cr}{l:Nat}{bY:bu}{r:Nat}{f:ci}{xf:dy}{X:Ctx}{cs:ac ae}
def atI{own:ac bd}{p:Nat}{cK:bJ}{o q:bd}(h:mH [0,2] cK e)(ak:∃bD,own[0]? =some bD∧jT [0,2] o bD)(hq:∃bD,own[2]? =some bD∧jT [0,2] q bD)(hp:pinned p [0,2] 0=true:=by rfl):Sub p [0,2] ⟨own,n,e⟩ ⟨[o,q],2,cK⟩:=⟨by simp,rfl,⟨ak,hq,trivial⟩,h,hp⟩
def plainO:de->Bool
 |.m3 _=>true
 |.alloc _ _=>true
 |.call _ _=>true
 |_=>false
def apI{o:de}{aA:aJ}{st':au}{v:be}(ak:plainO o=true)(h:bK call o fr st= .ok v aA st'):aA=fr:=by
 cases o<;>first|cases ak|skip
 ·cases h;rfl
 ·rename_i z el;have e:bK call (.alloc z el) fr st=st.j1 (.cells z el (0,0) false) fun id st=>.ok (.pointer (some ⟨id,0,none⟩)) fr st:=rfl;rw[e,g8]at h;cases h;rfl
 ·rename_i f as;rw[vn]at h;cases hc:call (fr.ai f) (er fr as) none st with
  |ret v1 cm e7=>rw[hc,Uj]at h;cases h;rfl
  |a9 v1 cm e7=>rw[hc,Ui]at h;cases h
  |no=>rw[hc]at h;cases h
theorem aag{call:bG}:∀{ops:ac bA} {fr aA:aJ} {st st':au} {e:dM},(ops.all fun x=>x.g.isNone&&plainO x.o)=true->jh call ops fr st= .out e aA st'->aA.bR=fr.bR
 |[],_,_,_,_,_,_,h=>by cases h;rfl
 |⟨d,o,g⟩::ops,fr,aA,st,st',e,ha,h=>by
  rw[zeB,b4,b4]at ha;obtain⟨⟨aO,ak⟩,ha⟩:=ha;cases g with
  |some p=>cases aO
  |none=>
   have h:zr (bK call o fr st) (fun v fr st=>jh call ops (fr.put d v) st) (fun v st=>cond o.mh (.out (.a9 v) fr st) .no)= .out e aA st':=h;have ak:plainO o=true:=ak;cases dB:bK call o fr st with
   |ok v eH cm=>
    have aq:=apI ak dB;subst aq;rw[dB,Je]at h;rw[aag ha h];exact(vt _ _ _).2.2.2
   |a9 v cm=>
    rw[dB,ZO]at h;cases hp:o.mh with
    |true=>rw[hp,cond_true]at h;cases h;rfl
    |false=>rw[hp,cond_false]at h;cases h
   |no=>rw[dB,ZN]at h;cases h
def seg{fn:ci}{ops:ac bA}{t:cr}(hp:(ops.all fun x=>x.g.isNone&&plainO x.o)=true)(h:∀H1 i1 s1,i1.length=s.own.length->dj H H1->aS.ok ⟨call,cc,fn,H1,i1,s1,fun x bh=>x= .norm∧bh=t⟩ ⟨[],.o ops,s⟩)
 (ar:Fit H ids st s.own s.n) (U:c1 fr H ids s.env):∃aA st' a5 bO,dA call cc fn (.vz ops) fr st= .out .norm aA st'∧dv H ids st a5 bO st'∧Fit a5 bO st' t.own t.n∧c1 aA a5 bO t.env∧aA.bR=fr.bR:=by
 obtain⟨e,aA,st',h1,a5,bO,bh,a8,dG,eJ,rfl,rfl⟩:=h H ids st (ar.len.trans ar.ct.symm) (dj.refl _) H ids st fr (dv.refl _ _ _) ar U;exact⟨aA,st',a5,bO,h1,a8,dG,eJ,aag hp h1⟩
def Fit.extra{own:ac bd}(h:Fit H ids st own n)(eK:bt):Fit H ids ⟨st.h.set st.aj eK,st.aj+1⟩ own n:=by
 have cb:∀b,b<st.aj->(an.set st.h st.aj eK).get b=st.h.get b:=fun b hb=>an.ji _ _ (by omega);refine⟨fun i aa=> ?_,fun b o hb=> ?_,h.ct,h.len,h.dg,fun b hb=>Nat.lt_succ_of_lt (h.lt b hb),fun k o b hk hb=> ?_⟩
 ·show(an.set st.h st.aj eK).get i=none;have aa:st.aj+1<=i:=aa;rw[an.ji _ _ (by omega)];exact h.wf i (by omega)
 ·show(an.set st.h st.aj eK).get b=some o;rw[cb b (h.aE hb)];exact h.le b o hb
 ·show nS H ids o ((an.set st.h st.aj eK).get b)∧_;rw[cb b (h.lt b (zau hb))];exact h.own k o b hk hb
def Fit.other{own:ac bd}(h:Fit H ids st own n)(hl:l<st.aj)(aa:l∉ids)(gx:H l=none)(eK:bt):Fit H ids ⟨st.h.set l eK,st.aj⟩ own n:=by
 refine⟨fun i eC=> ?_,fun b o hb=> ?_,h.ct,h.len,h.dg,h.lt,fun k o b hk hb=> ?_⟩
 ·show(an.set st.h l eK).get i=none;have eC:st.aj<=i:=eC;rw[an.ji _ _ (by omega)];exact h.wf i eC
 ·show(an.set st.h l eK).get b=some o;rw[an.ji _ _ (fun e=>by rw[e,gx]at hb;cases hb)];exact h.le b o hb
 ·show nS H ids o ((an.set st.h l eK).get b)∧_;rw[an.ji _ _ (by intro e;subst e;exact aa (zau hb))];exact h.own k o b hk hb
def dk.eq{i j:ac Nat}(h:dk i j)(hl:i.length=j.length):i=j:=by
 apply zbA;intro k;by_cases hk:k<i.length
 ·rw[bE hk,h k _ (bE hk)]
 ·rw[zbi (by omega),zbi (by omega)]
def Pv:ac Tmp->ac ae->bJ->bJ
 |t::ts,a::as,e=>Pv ts as ((t,a)::e)
 |_,_,e=>e
def c1.par{cW:ac Deferred}{a9:am be}{e7:Bool}{Kd:am Nat}:∀{ts:ac Tmp} {as:ac ae} {vs:ac be} {t:an be} {e:bJ},dH H as ids vs->c1 ⟨t,cW,a9,e7,Kd⟩ H ids e->c1 ⟨oR ts vs t,cW,a9,e7,Kd⟩ H ids (Pv ts as e)
 |[],[],_,_,_,_,h=>h
 |[],_::_,_,_,_,_,h=>h
 |_::_,[],vs,t,e,d,h=>by cases d;exact h
 |p::ts,a::as,_,t,e,⟨v,ws,rfl,d1,d2⟩,h=>by
  have h1:=h.put p d1;have aq:(⟨t,cW,a9,e7,Kd⟩:aJ).put (some p) v=⟨t.set p v,cW,a9,e7,Kd⟩:=by
   rw[PJ]
  rw[aq]at h1;have:=c1.par (ts:=ts) (as:=as) (vs:=ws) d2 h1;have e2:oR (p::ts) (v::ws) t=oR ts ws (t.set p v):=by
   show an.jl (Nat.succ p) t p v (fun m=>oR ts ws m)=_;rw[an.zM]
  rw[e2];exact this
def art(ao:fr.cW=[]){s:LoopState}{gP:am dM}{fn:ci}{t:an be}{ps:ac Tmp}{d:Nat}(aO:st.h.get l=some (.loop s gP fn t ps a b d)):rj l (.out .norm fr st)= .ret (.bool true) ⟨st.h.set l (.loop .ready none fn t ps a b d),st.aj⟩ false:=by
 have e:rj l (.out .norm fr st)=List.rec (motive:=fun _=>eb) (nA (st.h.get l) (fun _ _ fn t ps a b d=>st.h3 l (.loop .ready none fn t ps a b d) fun st=>.ret (.bool true) st false) .no) (fun _ _ _=>.no) fr.cW:=rfl;rw[e,ao,aO];show(st.h3 l (.loop .ready none fn t ps a b d) fun st=>eb.ret (.bool true) st false)=_;rw[lk]
def KK{fn:ci}{Q:dM->aJ->au->Prop}(h:dA call cc fn a fr st= .out .norm eH cm)(k:W (dA call cc fn b eH cm) Q):W (dA call cc fn (.seq a b) fr st) Q:=by
 rw[Mv,h];exact k
def arV{fn:ci}{mP:aJ}{ef:au}(h:dA call cc fn a fr st= .out .norm eH cm)(k:dA call cc fn b eH cm= .out .norm mP ef):dA call cc fn (.seq a b) fr st= .out .norm mP ef:=by
 rw[Mv,h];exact k
def aeM{fn:ci}{i:Nat}(h:dA call cc fn a fr st= .out .norm eH cm):dA call cc fn (.block i a) fr st= .out .norm eH cm:=by
 rw[T6,h];rfl
def dv.other{i0:ac Nat}{aK:au}(h:dv bY i0 aK H ids st)(aL:aK.aj<=r)(eK:bt):dv bY i0 aK H ids ⟨st.h.set r eK,st.aj⟩:=⟨h.hle,h.hold,fun b hb aa=>by
 show(an.set st.h r eK).get b=_;rw[an.ji _ _ (by omega)];exact h.gN b hb aa,h.aj,h.l2,h.new⟩
def SA{as:ac be}{Post:be->au->Prop}(hl:as.length<=xf.aP)
 (h:W (dA call n f xf.body (fS as) st) (fun e fr cm=>(e= .norm∨e= .ret)∧∃v st',lx call xf.res none fr cm= .ret v st' false∧Post v st')):
 ∃v st',mJ call n f xf as none st= .ret v st' false∧Post v st':=by
 obtain⟨e,fr,cm,h1,he,v,st',h2,ab⟩:=h;refine⟨v,st',?_,ab⟩;unfold mJ;rw[p7,zab (by rw[fC];exact hl)];show cU.rec (motive:=fun _=>eb) _ _ (dA call n f xf.body (fS as) st)=_;rw[h1];rcases he with rfl|rfl
 ·exact h2
 ·exact h2
def afY{bn:an dy}(eh:Good X)(kn:pF X bn)(K:ci->fX)(J:bn.get f=some xf){S:Spec}(hl:∀l as st,S.pre l as st->as.length<=xf.aP)
 (h:∀l as st,S.pre l as st->W (dA (cG bn (c0 X K) (bc+1)) (bc+1) f xf.body (fS as) st)
  (fun e fr cm=>(e= .norm∨e= .ret)∧∃v st',lx (cG bn (c0 X K) (bc+1)) xf.res none fr cm= .ret v st' false∧S.post l as st v st')):bw X f S:=by
 intro as st ⟨l,hp⟩;obtain⟨v,st',h1,h2⟩:=SA (Post:=S.post l as st) (hl l as st hp) (h l as st hp);refine⟨v,st',fun l' mq=> ?_,abP eh kn J h1⟩;obtain⟨v2,ef,aH,aI⟩:=SA (Post:=S.post l' as st) (hl l' as st mq) (h l' as st mq);rw[h1]at aH;cases aH;exact aI
def ahT{t:Nat}(ao:fr.cW=[{target:=.collected r,args:= #[]}])(aF:fr.cD=false)(aL:st.h.get r=some (.jJ (some []))):lx call [.tmp t] none fr st= .ret (fr.tmp t) ⟨st.h.set r (.jJ none),st.aj⟩ false:=by
 have e:kt call fr.cW none st=some (none,⟨st.h.set r (.jJ none),st.aj⟩):=by
  rw[ao];simp only[kt,aL];rw[lk]
 unfold lx;rw[e,aF];rfl
def aqT{aw:fI}{K:ac eS}{own bl:ac bd}{aG:Nat}{p:ac bA}(k:Nat){el:ce}(cs':ac ae)(hl:ik cs cs')(b8:aS.ok aw ⟨K,.o p,⟨bl,aG,e⟩⟩)(hk:own[k]? =some (.c el cs):=by rfl)(ak:jm own k (.c el cs') some=some bl:=by rfl):aS.ok aw ⟨K,.o p,⟨own,aG,e⟩⟩:=fun H ids st fr a8 ar U=>by
 have:=j5 ak;cases this;refine b8 H ids st fr a8 ⟨ar.wf,ar.le,by simp[ar.ct],ar.len,ar.dg,ar.lt,?_⟩ U;intro j q c hj hc;by_cases hE:k=j
 ·subst hE;rw[zbb,zab rfl]at hj;split at hj<;>cases hj;obtain⟨⟨vs,ab,aD⟩,cv⟩:=ar.own k _ c hk hc;exact⟨⟨vs,ab,hl.den aD⟩,fun _=>cv rfl⟩
 ·rw[zbb,zaa hE]at hj;exact ar.own j q c hj hc
def SH{bn:an dy}{cq:ci->fX}{g:ci}{S:bN}(hc:bw X g S.spec)(dJ:cq g=S.spec.K){f:bi}{cz:ac bi}{as cj:ac ae}(l:S.L)(nr:br s.env f=some (.fn (.func g) cj cs))(ha:k6 s.env cz=some as)(oD:jk (cj++(as++cs))=true)(he:ik (cj++(as++cs)) (S.args l))(hp:S.pre l)(hh:S.hp bY):
 Ae bY (cG bn (c0 X cq) (n+1)) (.call f cz) s (S.res l) s.own s.n:=fun H ids st fr gx ar U=>by
 have uI:den H (.fn (.func g) cj cs) ids (fr.ai f):=U.ai nr;obtain⟨vs,ws,aB,d1,d2⟩:=uI;have ao:=he.den (sN _ oD (sM d1 (sM (U.er ha) d2)) []);obtain⟨v,st',h1,h2⟩:=hc _ st ⟨(l,H),hp,S.hm gx hh,ar.less,ao⟩;obtain⟨v1,cm,aH,aI⟩:=Jq (X:=X) (K:=cq) (f:=g) ⟨v,st',by rw[dJ];exact h1,h2⟩;rw[dJ]at aI;obtain⟨a5,dG,du,g5⟩:=aI (l,H) ⟨hp,S.hm gx hh,ar.less,ao⟩;have bj:cG bn (c0 X cq) (n+1) (fr.ai f) (er fr cz) none st= .ret v1 cm false:=by
  rw[aB,vU];have e:gJ (⟨vs⟩:ap be).toList (gJ (er fr cz) (⟨ws⟩:ap be).toList)=vs++(er fr cz++ws):=by simp
  rw[e,aH];rfl
 have hle:dj H a5:=du.hle;refine⟨v1,cm,ids,a5,?_,?_,sL (dj.refl _) _ (dk.nil _) g5,hle,dk.refl _,?_,du.aj,fun b hb _=>du.gN b hb (by simp)⟩
 ·rw[vn];rw[bj];rfl
 ·refine⟨dG.wf,dG.le,ar.ct,ar.len,ar.dg,fun b hb=>gH (ar.lt b hb) du.aj,fun k o b hk hb=> ?_⟩;obtain⟨ab,aD⟩:=ar.own k o b hk hb;have aE:=ar.lt b (zau hb);rw[du.gN b aE (by simp)];exact⟨ug hle (dk.refl _) ab,fun hl=>by rw[du.hold b aE (by simp)];exact aD hl⟩
 ·intro bY i0 aK B;refine⟨B.hle.trans hle,fun b hb hn=> ?_,fun b hb hn=> ?_,zag B.aj du.aj,B.l2,B.new⟩
  ·rw[du.hold b (gH hb B.aj) (by simp)];exact B.hold b hb hn
  ·rw[du.gN b (gH hb B.aj) (by simp)];exact B.gN b hb hn
section
variable{X:Ctx}{bn:an dy}{cq:ci->fX}{cc n:Nat}{fn:ci}{bY:bu}{i0:ac Nat}{aK:au}{Q:dM->cr->Prop}{K:ac eS}{own:ac bd}{aG:Nat}{e:bJ}
def Qh{g:ci}{S:bN}(hc:bw X g S.spec){f:bi}{cz:ac bi}{as cj:ac ae}{d:Tmp}{xs:ac bA}(l:S.L)(hp:S.pre l)(k:aS.ok ⟨cG bn (c0 X cq) (n+1),cc,fn,bY,i0,aK,Q⟩ ⟨K,.o xs,⟨own,aG,(d,S.res l)::e⟩⟩)
 (U:br e f=some (.fn (.func g) cj cs):=by rfl) (ha:k6 e cz=some as:=by rfl) (he:ik (cj++(as++cs)) (S.args l):=by exact ik.refl _) (oD:jk (cj++(as++cs))=true:=by rfl) (dJ:cq g=S.spec.K:=by rfl) (hh:S.hp bY:=by exact trivial):
 aS.ok ⟨cG bn (c0 X cq) (n+1),cc,fn,bY,i0,aK,Q⟩ ⟨K,.o (⟨some d,.call f cz,none⟩::xs),⟨own,aG,e⟩⟩:=Kb (d:=some d) (s:=⟨own,aG,e⟩) (SH hc dJ l U ha oD he hp hh) k
end
end Go.ah
namespace Go.ah
open Sym
variable{X:Ctx}
section
variable{aw:fI}{K:ac eS}{s:cr}
def agd{d:am Tmp}{o:de}{l:ac (bA×cx)}{bp:ac bd}{a7:bJ}{a6 bU b1:Nat}{bl:ac bd}{a:ae}
 (h:∀(H:bu) (ids:ac Nat) (st:au) (fr:aJ),dv aw.bY aw.i0 aw.aK H ids st->Fit H ids st s.own s.n->c1 fr H ids s.env->∃v st' bO a5,bK aw.call o fr st= .ok v fr st'∧Fit a5 bO st' bl b1∧den a5 a bO v∧dj H a5∧dk ids bO∧dv aw.bY aw.i0 aw.aK a5 bO st'∧st.aj<=st'.aj)
 (k:hy aw K (.d l (bp.map fun _=>.x) (sQ d a7) (a6+1) b1) ⟨bl,b1,fO d a s.env⟩):hy aw K (.d ((⟨d,o,none⟩,.ep)::l) bp a7 a6 bU) s:=by
 intro dh hP H ids st fr fz af a8 ar U bX;obtain⟨v,st',bO,a5,aH,aI,bj,cn,cT,eB,gb⟩:=h H ids st fr a8 ar U;have fm:=k dh hP a5 bO st' (fr.put d v) fz (st'.h::af) eB aI ((U.mono cn cT).fO d bj) ⟨by simp[bX.len],bX.hle.trans cn,v7 (fun j a hj=>sL (dj.refl _) _ cT (bX.fS j a hj)) d v,?_,by rw[aI.len];exact b6 _,?_,?_,?_⟩
 ·refine W.of_eq ?_ fm;show aV.rec (motive:=fun _=>cU) (fun v aA st'=>ey st.aj st'.aj (iv aw.call dh l (st'.h::af) (aJ.put ⟨fr.t,aA.cW,aA.a9,aA.cD,aA.bR⟩ d v) st') .no) (fun v st'=>cond o.mh (cond (dh l (st.h::af) (fr.put d undef) st) (.out (.a9 v) fr st') .no) .no) .no (bK aw.call o fr st)=_;rw[aH];show ey st.aj st'.aj _ _=_;rw[gn gb]
 ·rw[zbu];exact zag bX.oM (Ie cT)
 ·intro k bD b hk s4 hb;rw[zdf]at hk;cases ak:bp[k]? with
  |none=>rw[ak]at hk;cases hk
  |some q=>rw[ak]at hk;cases hk;cases s4
 ·intro h hm b bD hb;rcases zap.1 hm with rfl|hm
  ·exact aI.le _ _ (cn _ _ (bX.hle _ _ hb))
  ·exact bX.old h hm b bD hb
 ·intro h hm;simp at hm;subst hm;exact⟨aI.le,fun _ _ _ _=>rfl⟩
end
end Go.ah
namespace Go.ah
open Sym
section
variable{call:bG}{s:cr}{x y:bi}
def aoK{el:ce}{cu z n c:Nat}{gS:ac be}{k k':d8}{α:Type}(R:α->ac ae)(w:α)(J:br s.env x=some (.i k (n:Int)))(ay:br s.env y=some (.i k' (c:Int)))(av:gS.length=z)(dY:vk gS=R w)(hn:n<=c)(hc:c*(cu+1)<=1099511627776):
 Af call (.qc el cu gS x y) s (.aN s.n z 0 n c) (s.own++[.a el false z α R (List.replicate c w)]) (s.n+1):=fun H ids st fr ar U=>by
 have h1:fr.ai x= .int k (n:Int):=U.ai J;have h2:fr.ai y= .int k' (c:Int):=U.ai ay;subst av;have ao:=v9 H (ids++[st.aj]) gS;rw[dY]at ao;have jK:=LZ ao c;refine⟨_,_,_,?_,ar.add (eK:=.cells (nR gS c) el (0,0) false) ⟨_,rfl,jK.1,jK.2⟩,⟨st.aj,by rw[<-ar.len,zaW (b6 _)];simp,rfl⟩,dk.app _ _,fun _ _ _ B=>B.add _,zba _,fun b hb _=>zq hb⟩;show tq el cu gS x y call fr st=_;unfold tq;rw[h1,h2,na,na,oI,oI,gn hn,gn (show Nat.mul c (Nat.succ cu)<=2^40 from hc),g8,zaA]
end
section
variable{aw:fI}{K:ac eS}{own bp bl:ac bd}{aG b1 a6 bU:Nat}{e a7:bJ}{d:Tmp}{ts:ac Tmp}{xs:ac (bA×cx)}{x y:bi}
def v5{el:ce}{cu z n c:Nat}{gS:ac be}{k0 k':d8}{α:Type}(R:α->ac ae)(w:α)(k:aS.ok aw ⟨K,.d xs bp (lV d a7) a6 bU,⟨bl,b1,(d,.aN aG z 0 n c)::e⟩⟩)(J:br (fh ts e) x=some (.i k0 (n:Int)):=by rfl)(ay:br (fh ts e) y=some (.i k' (c:Int)):=by rfl)(av:Iy gS=some z:=by rfl)(dY:vk gS=R w:=by rfl)
 (ak:oa own (.a el false z α R (List.replicate c w)) some=some bl:=by rfl) (jx:mx aG some=some b1:=by rfl) (hn:n<=c:=by omega) (hc:c*(cu+1)<=1099511627776:=by omega):aS.ok aw ⟨K,.d ((⟨some d,.qc el cu gS x y,none⟩,.im ts)::xs) bp a7 a6 bU,⟨own,aG,e⟩⟩:=by
 have h1:=oY ak;have h2:=nC jx;cases h1;cases h2;exact Tj (d:=some d) (s:=⟨own,aG,e⟩) (aoK (s:=⟨own,aG,fh ts e⟩) R w J ay (YB av) dY hn hc) rfl k
end
section
variable{aw:fI}{K:ac eS}{own bl bp gY:ac bd}{aG a6 bU back:Nat}{e a7:bJ}{d:Tmp}{ts:ac Tmp}{xs:ac bA}{al:ac (bA×cx)}{x y:bi}
def sK{k0 z j q m:Nat}{el:ce}{a3:Bool}{α:Type}{R:α->ac ae}{l:ac α}{a:ae}{w:α}(w':α){ds:ac ae}(hj:l[j]? =some w)(k:aS.ok aw ⟨K,.d al gY a7 (a6+1) aG,⟨bl,aG,e⟩⟩)(J:br e x=some (.gp k0 z j q):=by rfl)(ay:br e y=some a:=by rfl)(hk:own[k0]? =some (.a el a3 z α R l):=by rfl)(hc:tX a=some ds:=by rfl)(hl:ds.length=m:=by rfl)(eT:rH ds=true:=by rfl)
 (dY:R w'=(R w).take q++(ds++(R w).drop (q+ds.length)):=by rfl) (ak:jm own k0 (.a el a3 z α R (l.set j w')) some=some bl:=by rfl) (oB:BU bp (some k0) some=some gY:=by rfl) (av:q+m<=z:=by decide):aS.ok aw ⟨K,.d ((⟨none,.store m x y,none⟩,.ep)::al) bp a7 a6 bU,⟨own,aG,e⟩⟩:=by
 have h:=j5 ak;cases h;obtain⟨EZ,aH,aI,bj⟩:=Jr oB;cases aH;exact v3 (d:=none) (s:=⟨own,aG,e⟩) (acH (s:=⟨own,aG,e⟩) w' J ay hc hl eT hk hj dY av) aI (fun k o fs hl=>by
  have:=bj k o fs hl;simp only[iM,J];exact this)
  k
variable{c:bB}
variable{P:Prop}{a:Int}{b:Bool}{ao:Decidable P}
def v1(t:Nat)(h:P)(k:aS.ok aw ⟨K,c,⟨own,aG,(t,.b true)::e⟩⟩)(hl:dR e t=some (.b (decide P)):=by rfl)(hc:c.uX=false:=by rfl):aS.ok aw ⟨K,c,⟨own,aG,e⟩⟩:=ax t (.b true) hl (by rw[zad h]) k hc
def v0(t:Nat)(h:¬P)(k:aS.ok aw ⟨K,c,⟨own,aG,(t,.b false)::e⟩⟩)(hl:dR e t=some (.b (decide P)):=by rfl)(hc:c.uX=false:=by rfl):aS.ok aw ⟨K,c,⟨own,aG,e⟩⟩:=ax t (.b false) hl (by rw[zai h]) k hc
def ev(t:Nat){a:Bool}(h:a=b)(k:aS.ok aw ⟨K,c,⟨own,aG,(t,.b b)::e⟩⟩)(hl:dR e t=some (.b a):=by rfl)(hc:c.uX=false:=by rfl):aS.ok aw ⟨K,c,⟨own,aG,e⟩⟩:=ax t (.b b) hl (by rw[h]) k hc
def tF(t:Nat){b8:d8}(b:Int)(k:aS.ok aw ⟨K,c,⟨own,aG,(t,.i b8 b)::e⟩⟩)(hl:dR e t=some (.i b8 a):=by rfl)(h:a=b:=by omega)(hc:c.uX=false:=by rfl):aS.ok aw ⟨K,c,⟨own,aG,e⟩⟩:=ax t (.i b8 b) hl (by rw[h]) k hc
def b3(t:Nat)(b:Int)(k:aS.ok aw ⟨K,c,⟨own,aG,(t,.i .i64 b)::e⟩⟩)(hl:dR e t=some (.i .i64 (IntKind.i64.wrap a)):=by rfl)(h:a=b:=by omega)(h1: -9223372036854775808<=a:=by omega)(h2:a<9223372036854775808:=by omega)(hc:c.uX=false:=by rfl):aS.ok aw ⟨K,c,⟨own,aG,e⟩⟩:=ax t (.i .i64 b) hl (cS h h1 h2) k hc
def hJ(t:Nat)(h:P)(k:aS.ok aw ⟨K,.d al bp ((t,.b true)::a7) a6 bU,⟨own,aG,(t,.b true)::e⟩⟩)(hl:dR e t=some (.b (decide P)):=by rfl)(h0:dR a7 t=some (.b (decide P)):=by rfl):aS.ok aw ⟨K,.d al bp a7 a6 bU,⟨own,aG,e⟩⟩:=dO t (.b true) hl h0 (by rw[zad h]) k
def ij(t:Nat)(h:¬P)(k:aS.ok aw ⟨K,.d al bp ((t,.b false)::a7) a6 bU,⟨own,aG,(t,.b false)::e⟩⟩)(hl:dR e t=some (.b (decide P)):=by rfl)(h0:dR a7 t=some (.b (decide P)):=by rfl):aS.ok aw ⟨K,.d al bp a7 a6 bU,⟨own,aG,e⟩⟩:=dO t (.b false) hl h0 (by rw[zai h]) k
def adH(t:Nat){a:Bool}(h:a=b)(k:aS.ok aw ⟨K,.d al bp ((t,.b b)::a7) a6 bU,⟨own,aG,(t,.b b)::e⟩⟩)(hl:dR e t=some (.b a):=by rfl)(h0:dR a7 t=some (.b a):=by rfl):aS.ok aw ⟨K,.d al bp a7 a6 bU,⟨own,aG,e⟩⟩:=dO t (.b b) hl h0 (by rw[h]) k
def auK(t:Nat){b8:d8}(b:Int)(k:aS.ok aw ⟨K,.d al bp ((t,.i b8 b)::a7) a6 bU,⟨own,aG,(t,.i b8 b)::e⟩⟩)(hl:dR e t=some (.i b8 a):=by rfl)(h:a=b:=by omega)(h0:dR a7 t=some (.i b8 a):=by rfl):aS.ok aw ⟨K,.d al bp a7 a6 bU,⟨own,aG,e⟩⟩:=dO t (.i b8 b) hl h0 (by rw[h]) k
def ww(t:Nat)(b:Int)(k:aS.ok aw ⟨K,.d al bp ((t,.i .i64 b)::a7) a6 bU,⟨own,aG,(t,.i .i64 b)::e⟩⟩)(hl:dR e t=some (.i .i64 (IntKind.i64.wrap a)):=by rfl)(h:a=b:=by omega)(h1: -9223372036854775808<=a:=by omega)(h2:a<9223372036854775808:=by omega)(h0:dR a7 t=some (.i .i64 (IntKind.i64.wrap a)):=by rfl):aS.ok aw ⟨K,.d al bp a7 a6 bU,⟨own,aG,e⟩⟩:=dO t (.i .i64 b) hl h0 (cS h h1 h2) k
end
end Go.ah
namespace Go.ah
open Sym
variable{X:Ctx}
def fc{p:Prop}(h:p):¬¬p:=fun k=>k h
mutual
def MC(k z n:Nat)(b:ae):ae->ae
 |.aN k' z5 o b1 c=>match Nat.beq k k'&&(Nat.beq z z5&&(Nat.beq 0 o&&(Nat.beq n b1&&Nat.beq n c)))with
  |true=>b
  |false=>.aN k' z5 o b1 c
 |.agg cs=>.agg (wg k z n b cs)
 |.bM cs=>.bM (wg k z n b cs)
 |.fn f cj cs=>.fn f cj cs
 |.p k o=>.p k o
 |.gp k z j o=>.gp k z j o
 |.i k n=>.i k n
 |.b t=>.b t
 |.s l=>.s l
 |.nl=>.nl
 |.v x=>.v x
 |.aZ z α R l=>.aZ z α R l
 |.ko z α R l=>.ko z α R l
 |.bb z α R l=>.bb z α R l
 |.ip cs=>.ip cs
 |.bad=>.bad
def wg(k z n:Nat)(b:ae):ac ae->ac ae
 |[]=>[]
 |a::as=>MC k z n b a::wg k z n b as
end
mutual
theorem ah3{H:bu}{ids:ac Nat}{k z n:Nat}{b:ae}(hb:∀v,den H (.aN k z 0 n n) ids v->den H b ids v):∀(a:ae) {v:be},den H a ids v->den H (MC k z n b a) ids v
 |.aN k' z5 o b1 c,v,d=>by
  unfold MC;split
  ·rename_i h;simp only[b4]at h;obtain⟨h1,h2,ab,aD,bg⟩:=h;have:=eo h1;have:=eo h2;have:=eo ab;have:=eo aD;have:=eo bg
   subst_vars
   exact hb v d
  ·exact d
 |.agg cs,_,⟨vs,e,d⟩=>⟨vs,e,Hh hb cs d⟩
 |.bM cs,_,⟨vs,e,d⟩=>⟨vs,e,Hh hb cs d⟩
 |.fn _ _ _,_,d=>d
 |.p _ _,_,d=>d
 |.gp _ _ _ _,_,d=>d
 |.i _ _,_,d=>d
 |.b _,_,d=>d
 |.s _,_,d=>d
 |.nl,_,d=>d
 |.v _,_,d=>d
 |.aZ _ _ _ _,_,d=>d
 |.ko _ _ _ _,_,d=>d
 |.bb _ _ _ _,_,d=>d
 |.ip _,_,d=>d
 |.bad,_,d=>d
theorem Hh{H:bu}{ids:ac Nat}{k z n:Nat}{b:ae}(hb:∀v,den H (.aN k z 0 n n) ids v->den H b ids v):∀(a:ac ae) {v:ac be},dH H a ids v->dH H (wg k z n b a) ids v
 |[],_,d=>d
 |a::as,_,⟨v,ws,e,d1,d2⟩=>⟨v,ws,e,ah3 hb a d1,Hh hb as d2⟩
end
end Go.ah
namespace Go.ah
open Sym
section
variable{aw:fI}{K:ac eS}{own bl gY:ac bd}{aG:Nat}{e:bJ}
def aqV{p:dw}{s:cr}(h:aS.ok aw ⟨.seq p::K,.o [],s⟩):aS.ok aw ⟨K,.c p,s⟩:=fun H ids st fr a8 ar U=>by
 obtain⟨x,f1,s1,aH,a5,c4,bh,h1,h2,ab,aD⟩:=h H ids st fr a8 ar U;have aH:cU.out .norm fr st= .out x f1 s1:=aH;cases aH;exact aD a5 c4 st fr h1 h2 ab
def rh(j k:Nat){z:Nat}{el Dj:ce}{a3:Bool}{α:Type}{R:α->ac ae}{l:ac α}{cs cs':ac ae}{p:ac bA}(b8:aS.ok aw ⟨K,.o p,⟨bl,aG,e⟩⟩)(hj:own[j]? =some (.c Dj cs):=by rfl)(hk:own[k]? =some (.a el a3 z α R l):=by rfl)(ha:wg k z l.length (.aZ z α R l) cs=cs':=by rfl)(hp:∀x,jk (R x)=true:=by exact fun _=>rfl)
 (hE:j≠k:=by decide) (oB:jm own k .x some=some gY:=by rfl) (ak:jm gY j (.c Dj cs') some=some bl:=by rfl):aS.ok aw ⟨K,.o p,⟨own,aG,e⟩⟩:=fun H ids st fr a8 ar U=>by
 have h1:=j5 oB;cases h1;have h2:=j5 ak;cases h2;have jv:k<ids.length:=by rw[ar.len,<-ar.ct];exact(zaf.1 hk).1
 obtain⟨b,aH⟩:∃b,ids[k]? =some b:=⟨_,bE jv⟩;obtain⟨⟨vs,bj,cn,cT⟩,_⟩:=ar.own k _ b hk aH;have hle:=Dx ar hk rfl aH;have ry:=ar.lz hk rfl aH;refine b8 (lz H st b) ids st fr (a8.lz ar hk rfl aH) ⟨ry.wf,ry.le,by rw[zbj];exact ry.ct,ry.len,ry.dg,ry.lt,fun i o c aa hc=> ?_⟩ (U.mono hle (dk.refl _));rw[zbb]at aa;by_cases mS:j=i
 ·subst mS;rw[zab rfl]at aa;split at aa<;>cases aa;have ns:(own.set k .x)[j]? =some (.c Dj cs):=by rw[zbb,zaa (fun h=>hE h.symm)];exact hj
  obtain⟨⟨ws,eD,eU⟩,fT⟩:=ry.own j _ c ns hc;refine⟨⟨ws,eD,?_⟩,fun _=>fT rfl⟩;rw[<-ha];refine Hh (fun v aB=> ?_) cs eU;obtain⟨gw,lh,n7⟩:=aB;rw[aH]at lh;cases lh;refine .inr ⟨b,0*z,l.length,vs,el,(0,0),a3,n7,zae _,by unfold lz;rw[zab rfl];exact bj,fun i x J=> ?_⟩;rw[zaA,zaP];exact ni hle _ (dk.refl _) (sN _ (hp x) (cT _ x J) [])
 ·rw[zaa mS]at aa;exact ry.own i o c aa hc
end
section
variable{aw:fI}{K:ac eS}
def Tm(t:Nat){a:ae}(b:ae){own bp:ac bd}{aG a6 bU:Nat}{e a7:bJ}{l:ac (bA×cx)}(h:dR e t=some a)(h0:dR a7 t=some a)(iT:bV a b)(b8:aS.ok aw ⟨K,.d l bp ((t,b)::a7) a6 bU,⟨own,aG,(t,b)::e⟩⟩):aS.ok aw ⟨K,.d l bp a7 a6 bU,⟨own,aG,e⟩⟩:=
 fun dh hP H ids st fr fz af a8 ar aC bX=>b8 dh hP H ids st fr fz af a8 ar (r7 h iT aC) ⟨bX.len,bX.hle,(r7 (fr:=fr) h0 iT ⟨aC.pl,bX.fS⟩).get,bX.oM,bX.wS,bX.bp,bX.old,bX.top⟩
end
set_option maxRecDepth 10000
inductive adZ where
 |ret (a:ae)
 |a9 (v:Value)
structure PP where
 L:Type
 args:L->ac ae
 pre:L->Prop
 out:L->adZ
 hp:bu->Prop:=fun _=>True
 hm:∀{H a5:bu},dj H a5->hp H->hp a5:=by exact fun _ _=>trivial
def PP.spec(S:PP):CH where
 L:=S.L×bu
 pre:=fun l vs st=>S.pre l.1∧S.hp l.2∧Fit l.2 [] st [] 0∧dH l.2 (S.args l.1) [] vs
 post:=fun l vs st v st'=>∃a a5,S.out l.1= .ret a∧Fit a5 [] st' [] 0∧dv l.2 [] st a5 [] st'∧den a5 a [] v
 aax:=fun l vs st v st'=>∃a5,S.out l.1= .a9 v∧Fit a5 [] st' [] 0∧dv l.2 [] st a5 [] st'
def ahS{call:bG}{res:ac jq}{v:be}{fr:aJ}{st:au}(hp:sG fr):lx call res (some v) fr st= .a9 v st false:=by
 unfold lx;rw[hp.cW,hp.cD];simp only[kt];rfl
section
variable{aw:fI}{K:ac eS}{own bl bp:ac bd}{aG a6 bU:Nat}{e a7:bJ}{d:Tmp}{xs:ac (bA×cx)}{x y:bi}
variable{el:ce}{a2 cu b1:Nat}{α:Type}{n c:Nat}{gY:ac bd}{R:α->ac ae}{l:ac α}
def RR{s:cr}{k0 z o:Nat}(J:br s.env x=some (.aN k0 z o n c))(j:Nat)(bD:bd)(hj:(bp.set k0 .x)[j]? =some bD)(hl:bD.live=true):bp[j]? =some bD∧iM s.env (.app el a2 cu x y)≠some j:=by
 have hE:j≠k0:=fun cK=>by
  subst cK;rw[zbb]at hj;rw[zab rfl]at hj;split at hj
  ·cases hj;cases hl
  ·cases hj
 rw[zbq (fun cK=>hE cK.symm)]at hj;refine⟨hj,fun hm=> ?_⟩;have:iM s.env (.app el a2 cu x y)=some k0:=by
  unfold iM;dsimp only;rw[J]
 rw[this]at hm;cases hm;exact hE rfl
def L9(R:α->ac ae)(m:ac α)(af:oh ⟨own,aG,e⟩ y R a2 m)(b8:aS.ok aw ⟨K,.d xs bp (lV d a7) (a6+1) b1,⟨bl,b1,(d,.aN aG a2 0 m.length m.length)::e⟩⟩)(J:br e x=some .nl:=by rfl)
 (ak:oa own (.a el true a2 α R m) some=some bl:=by rfl) (jx:mx aG some=some b1:=by rfl) (h0:m≠[]:=by first|rfl|simp) (hb:(5*m.length+1792)*(cu+1)<=1125899906842624:=by first|omega|(simp;done)|(simp;omega)):
 aS.ok aw ⟨K,.d ((⟨some d,.app el a2 cu x y,none⟩,.ep)::xs) bp a7 a6 bU,⟨own,aG,e⟩⟩:=by
 have h1:=oY ak;have h2:=nC jx;cases h1;cases h2;refine v3 (d:=some d) (s:=⟨own,aG,e⟩) (Lh (s:=⟨own,aG,e⟩) J (tS af) h0 hb) rfl (fun j bD hj _=>⟨hj,fun hm=> ?_⟩) b8;have:iM e (.app el a2 cu x y)=none:=by
  unfold iM;dsimp only;rw[J]
 rw[this]at hm;cases hm
def L8{k0:Nat}{EZ:ac bd}(m:ac α)(af:oh ⟨own,aG,e⟩ y R a2 m)(b8:aS.ok aw ⟨K,.d xs EZ (lV d a7) (a6+1) b1,⟨bl,b1,(d,.aN aG a2 0 (n+m.length) (n+m.length))::e⟩⟩)(J:br e x=some (.aN k0 a2 0 n c):=by rfl)(hk:own[k0]? =some (.a el true a2 α R l):=by rfl)
 (oB:jm own k0 .x some=some gY:=by rfl) (ak:oa gY (.a el true a2 α R (l++m)) some=some bl:=by rfl) (jx:mx aG some=some b1:=by rfl) (amd:EZ=bp.set k0 .x:=by rfl) (h0:m≠[]:=by first|rfl|simp) (hn:n=l.length:=by first|omega|(simp;done)|(simp;omega)) (k3:n=c:=by omega) (hb:(5*(n+m.length)+1792)*(cu+1)<=1125899906842624:=by first|omega|(simp;done)|(simp;omega)):
 aS.ok aw ⟨K,.d ((⟨some d,.app el a2 cu x y,none⟩,.ep)::xs) bp a7 a6 bU,⟨own,aG,e⟩⟩:=by
 have kh:=j5 oB;cases kh;have h1:=oY ak;have h2:=nC jx;cases h1;cases h2;subst amd;have:=Gf (call:=aw.call) (s:=⟨own,aG,e⟩) (cu:=cu) J hk (tS af) h0 (by omega) (by omega) (by omega) hb;rw[hn,zaX]at this;rw[hn]at b8;refine v3 (d:=some d) (s:=⟨own,aG,e⟩) this (by rw[zbj]) (fun j bD hj hl=> ?_) b8;have hE:j≠k0:=fun cK=>by
  subst cK;rw[zbb]at hj;rw[zab rfl]at hj;split at hj
  ·cases hj;cases hl
  ·cases hj
 rw[zbq (fun cK=>hE cK.symm)]at hj;refine⟨hj,fun hm=> ?_⟩;have:iM e (.app el a2 cu x y)=some k0:=by
  unfold iM;dsimp only;rw[J]
 rw[this]at hm;cases hm;exact hE rfl
def agb{k0:Nat}(m l':ac α)(af:oh ⟨own,aG,e⟩ y R a2 m)(b8:aS.ok aw ⟨K,.d xs (bp.set k0 .x) (lV d a7) (a6+1) b1,⟨bl,b1,(d,.aN aG a2 0 l'.length l'.length)::e⟩⟩)(h0:m≠[])(HU:c<n+m.length)(hl:l.take n++m=l')(hb:(5*(n+m.length)+1792)*(cu+1)<=1125899906842624)(J:br e x=some (.aN k0 a2 0 n c):=by rfl)(hk:own[k0]? =some (.a el false a2 α R l):=by rfl)
 (ak:oa own (.a el true a2 α R l') some=some bl:=by rfl) (jx:mx aG some=some b1:=by rfl) (k3:n<=c:=by omega) (hc:c<=l.length:=by first|omega|(simp;done)|(simp;omega)):
 aS.ok aw ⟨K,.d ((⟨some d,.app el a2 cu x y,none⟩,.ep)::xs) bp a7 a6 bU,⟨own,aG,e⟩⟩:=by
 have h1:=oY ak;have h2:=nC jx;cases h1;cases h2;have hlen:n+m.length=l'.length:=by
  rw[<-hl,zaE,zay];omega
 have:=RS (call:=aw.call) (s:=⟨own,aG,e⟩) (cu:=cu) J hk (tS af) h0 k3 HU hc hb;rw[hl,hlen]at this;exact v3 (d:=some d) (s:=⟨own,aG,e⟩) this (by rw[zbj]) (RR J) b8
def aga{k0:Nat}(m l':ac α)(af:oh ⟨own,aG,e⟩ y R a2 m)(b8:aS.ok aw ⟨K,.d xs (bp.set k0 .x) (lV d a7) (a6+1) b1,⟨bl,b1,(d,.aN aG a2 0 l'.length l'.length)::e⟩⟩)(h0:m≠[])(hl:l++m=l')(hb:(5*(l.length+m.length)+1792)*(cu+1)<=1125899906842624)(J:br e x=some (.aN k0 a2 0 l.length l.length):=by rfl)(hk:own[k0]? =some (.a el true a2 α R l):=by rfl)
 (oB:jm own k0 .x some=some gY:=by rfl) (ak:oa gY (.a el true a2 α R l') some=some bl:=by rfl) (jx:mx aG some=some b1:=by rfl):
 aS.ok aw ⟨K,.d ((⟨some d,.app el a2 cu x y,none⟩,.ep)::xs) bp a7 a6 bU,⟨own,aG,e⟩⟩:=by
 have kh:=j5 oB;cases kh;have h1:=oY ak;have h2:=nC jx;cases h1;cases h2;have hlen:l.length+m.length=l'.length:=by rw[<-hl,zaE]
 have:=Gf (call:=aw.call) (s:=⟨own,aG,e⟩) (cu:=cu) J hk (tS af) h0 (zae _) (zae _) (zae _) hb;rw[zaX,hl,hlen]at this;exact v3 (d:=some d) (s:=⟨own,aG,e⟩) this (by rw[zbj]) (RR J) b8
end
section
variable{X:Ctx}{bn:an dy}{cq:ci->fX}{cc n:Nat}{fn:ci}{bY:bu}{i0:ac Nat}{aK:au}{Q:dM->cr->Prop}{K:ac eS}{own:ac bd}{aG:Nat}{e:bJ}
def Tk{g:ci}{S:bN}(hc:bw X g S.spec){f:bi}{cz:ac bi}{as cj cs:ac ae}{d:Tmp}{xs:ac (bA×cx)}{bp:ac bd}{a7:bJ}{a6 bU:Nat}(l:S.L)(hp:S.pre l)(k:aS.ok ⟨cG bn (c0 X cq) (n+1),cc,fn,bY,i0,aK,Q⟩ ⟨K,.d xs bp (lV d a7) (a6+1) aG,⟨own,aG,(d,S.res l)::e⟩⟩)
 (U:br e f=some (.fn (.func g) cj cs):=by rfl) (ha:k6 e cz=some as:=by rfl) (he:ik (cj++(as++cs)) (S.args l):=by exact ik.refl _) (oD:jk (cj++(as++cs))=true:=by rfl) (dJ:cq g=S.spec.K:=by rfl) (hh:S.hp bY:=by exact trivial):
 aS.ok ⟨cG bn (c0 X cq) (n+1),cc,fn,bY,i0,aK,Q⟩ ⟨K,.d ((⟨some d,.call f cz,none⟩,.ep)::xs) bp a7 a6 bU,⟨own,aG,e⟩⟩:=
 Ma (d:=some d) (s:=⟨own,aG,e⟩) (SH hc dJ l U ha oD he hp hh) rfl (fun _ _ hk _=>⟨hk,by simp[iM]⟩) k
end
structure vM(l:Nat)(ly:ci)(mA:an be)(ps:ac Tmp)(dr body:dw)(kd:Nat)(kC:bJ)(bY:bu)(i0:ac Nat)(aK:au):Prop where
 get:aK.h.get l=some (.loop .ready none ly mA ps dr body kd)
 lt:l<aK.aj
 oJ:l∉i0
 hn:bY l=none
 env:c1 ⟨mA,[],none,false,some l⟩ bY i0 kC
def vM.up{l:Nat}{ly:ci}{mA:an be}{ps:ac Tmp}{dr body:dw}{kd:Nat}{kC:bJ}{bY H1:bu}{i0 i1:ac Nat}{aK s1:au}(h:vM l ly mA ps dr body kd kC bY i0 aK)(a8:dv bY i0 aK H1 i1 s1):vM l ly mA ps dr body kd kC H1 i1 s1:=
 ⟨(a8.gN l h.lt h.oJ).trans h.get,gH h.lt a8.aj,fun hm=>(a8.new l hm).elim h.oJ fun g=>absurd h.lt (Nat.not_lt.2 g),(a8.hold l h.lt h.oJ).trans h.hn,h.env.mono a8.hle a8.l2⟩
section
variable{X:Ctx}{bn:an dy}{cq:ci->fX}{cc n:Nat}{fn:ci}{bY:bu}{i0:ac Nat}{aK:au}{Q:dM->cr->Prop}{K:ac eS}{own:ac bd}{aG:Nat}{e:bJ}
variable{l kd:Nat}{ly:ci}{mA:an be}{ps:ac Tmp}{dr body:dw}{kC:bJ}
def aq9{e2:bJ}{y:bi}{cz:ac bi}{as:ac ae}{d:am Tmp}{xs:ac bA}(gy:vM l ly mA ps dr body kd kC bY i0 aK)
 (anR:∀H1 i1 s1,aS.ok ⟨cG bn (c0 X cq) (n+1),n+1,ly,H1,i1,s1,fun x s=>x= .norm∧s=⟨own,aG,e2⟩⟩ ⟨[],.c dr,⟨own,aG,Pv ps as kC⟩⟩)
 (anS:∀H1 i1 s1,i1.length=own.length->dj bY H1->aS.ok ⟨cG bn (c0 X cq) (n+1),n+1,ly,H1,i1,s1,fun x s=>x= .norm∧aS.ok ⟨cG bn (c0 X cq) (n+2),cc,fn,bY,i0,aK,Q⟩ ⟨K,.o xs,⟨s.own,s.n,fO d (.b true) e⟩⟩⟩ ⟨[],.c body,⟨own,aG,e2⟩⟩)
 (ay:br e y=some (.v (.func (.yield l) #[] #[])):=by rfl) (ha:k6 e cz=some as:=by rfl) (hlen:as.length=ps.length:=by rfl):
 aS.ok ⟨cG bn (c0 X cq) (n+2),cc,fn,bY,i0,aK,Q⟩ ⟨K,.o (⟨d,.call y cz,none⟩::xs),⟨own,aG,e⟩⟩:=by
 intro H ids st fr a8 ar U;have a8:dv bY i0 aK H ids st:=a8;have ao:=U.er ha;have gC:fr.ai y= .func (.yield l) #[] #[]:=U.ai ay;have sW:=gy.up a8;obtain⟨eF,eH,cm,aH,H1,X2,s1,rS,ow,uI,rfl,rfl⟩:=anR H ids st H ids st ⟨oR ps (er fr cz) mA,[],none,false,some l⟩ (dv.refl _ _ _) ar (sW.env.par ao);have aq:ids=X2:=rS.l2.eq (ar.len.trans ow.len.symm);subst aq;have rS:dv H ids st H1 ids cm:=rS;have qJ:=sW.up rS;have yl:=ow.other qJ.lt qJ.oJ qJ.hn (.loop .busy none ly mA ps dr body kd);obtain⟨awd,rQ,fx,bj,CD,Ic,Ki,pP,ak1,alG,rfl,hk⟩:=anS H1 ids ⟨cm.h.set l (.loop .busy none ly mA ps dr body kd),cm.aj⟩ (ow.len.trans ow.ct.symm) (a8.hle.trans rS.hle) H1 ids _ eH (dv.refl _ _ _) yl uI;have pP:dv H1 ids ⟨cm.h.set l (.loop .busy none ly mA ps dr body kd),cm.aj⟩ CD Ic fx:=pP;have alT:fx.h.get l=some (.loop .busy none ly mA ps dr body kd):=(pP.gN l qJ.lt qJ.oJ).trans (an.uz _ _ _);have ak4:CD l=none:=(pP.hold l qJ.lt qJ.oJ).trans qJ.hn;have Nm:l<fx.aj:=gH qJ.lt pP.aj;have al2:l∉Ic:=fun hm=>(pP.new l hm).elim qJ.oJ fun g=>absurd qJ.lt (Nat.not_lt.2 g);have ak2:=ak1.other Nm al2 ak4 (.loop .ready none ly mA ps dr body kd);have M6:cG bn (c0 X cq) (n+2) (.func (.yield l) #[] #[]) (er fr cz) none st= .ret (.bool true) ⟨fx.h.set l (.loop .ready none ly mA ps dr body kd),fx.aj⟩ false:=by
  have a7:cG bn (c0 X cq) (n+2) (.func (.yield l) #[] #[]) (er fr cz) none st=z3 (cG bn (c0 X cq) (n+1)) (n+1) l (er fr cz) st:=rfl;rw[a7];unfold z3;rw[sW.get];show eQ (dL (er fr cz)) (dL ps) _ _=_;rw[lv (by rw[fC,fC,iF ao,hlen]),aH];show Cc (cG bn (c0 X cq) (n+1)) (n+1) l ly body eH cm=_;unfold Cc;rw[qJ.get];show(cm.h3 l (.loop .busy none ly mA ps dr body kd) fun st=>rj l (dA (cG bn (c0 X cq) (n+1)) (n+1) ly body eH st))=_;rw[lk,bj];exact art alG.pl.cW alT
 have hle:dj H CD:=rS.hle.trans pP.hle;refine Cw (v:=.bool true) (st':=⟨fx.h.set l (.loop .ready none ly mA ps dr body kd),fx.aj⟩) ?_ (hk CD Ic _ _ (a8.trans ?_) ak2 ((U.mono hle pP.l2).fO d rfl))
 ·rw[vn,gC];show wi (cG bn (c0 X cq) (n+2) (.func (.yield l) #[] #[]) (er fr cz) none st) _ _=_;rw[M6];rfl
 ·have D3:st.aj<=cm.aj:=rS.aj;have XF:cm.aj<=fx.aj:=pP.aj;refine⟨hle,fun b hb aa=>(pP.hold b (gH hb D3) aa).trans (rS.hold b hb aa),fun b hb aa=> ?_,zag D3 XF,pP.l2,fun b hb=>(pP.new b hb).imp id fun g=>zag D3 g⟩;show(an.set fx.h l _).get b=st.h.get b;by_cases mn:b=l
  ·subst mn;rw[an.uz];exact sW.get.symm
  ·rw[an.ji _ _ mn];refine(pP.gN b (gH hb D3) aa).trans ?_;show(an.set cm.h l _).get b=st.h.get b;rw[an.ji _ _ mn];exact rS.gN b hb aa
def vM.frame{TK:bJ}{H1:bu}{i1:ac Nat}{s1:au}(h:vM l ly mA ps dr body kd kC bY i0 aK)(a8:dv bY i0 aK H1 i1 s1)(f:ac Nat)(af:mH f TK kC)(U:∀m∈f,m<i1.length):vM l ly mA ps dr body kd TK H1 (pick f i1) s1:=by
 have h1:=h.up a8;refine⟨h1.get,h1.lt,fun hm=> ?_,h1.hn,⟨h1.env.pl,fun j a hj=>Mc f a (h1.env.get j _ (af.get hj))⟩⟩;obtain⟨k,hk⟩:=zbP.1 hm;obtain⟨m,_,aD⟩:=w4 (fun i k h=>U k (zau h)) hk;exact h1.oJ (zau aD)
def ad3(Post:am be->ac bd->Prop)(res:ac jq)(x:dM)(s:cr):Prop:=((x= .norm∨x= .ret)∧(∃r,Fin.xn s res=some r)∧Post none s.own)∨∃v,x= .a9 v∧Post (some v) s.own
def auA{H:bu}{ids:ac Nat}{st:au}{fr:aJ}(qR:fr.bR=none)(ar:Fit H ids st own aG)(U:c1 fr H ids e){f:bi}{g:ci}{xf:dy}{caps:ac ae}(Post:am be->ac bd->Prop)(J:bn.get g=some xf)(iI:br e f=some (.fn (.func g) [] caps))(dJ:cq g=fX.no)(Ny:caps.length+1<=xf.aP)
 (r6:∀(s1:au) (l:Nat),ids.length=own.length->vM l fn fr.t ps dr body st.aj e H ids s1->
  aS.ok ⟨cG bn (c0 X cq) (n+2),n+2,g,H,ids,s1,ad3 Post xf.res⟩ ⟨[],.c xf.body,⟨own,aG,ov 0 (.v (.func (.yield l) #[] #[])::caps)⟩⟩):
 ∃(o:am be) (st':au) (a5:bu) (bO:ac Nat) (bl:ac bd),dA (cG bn (c0 X cq) (n+3)) cc fn (.Ca f ps dr body) fr st= .out (match o with|none=>.norm|some v=>.a9 v) ⟨fr.t,{target:=.collected st.aj,args:= #[]}::fr.cW,fr.a9,fr.cD,fr.bR⟩ st'∧
  dv H ids st a5 bO st'∧Fit a5 bO st' bl bl.length∧Post o bl∧st'.h.get st.aj=some (.jJ (some []))∧st.aj<st'.aj∧a5 st.aj=none∧st.aj∉bO:=by
 obtain⟨vs,ws,aB,d1,d2⟩:=U.ai iI;have d1:vs=[]:=d1;subst d1;have aE:∀b∈ids,b<st.aj:=ar.lt;have MS:∀b,st.aj<=b->H b=none:=fun b hb=>by
  cases h:H b with
  |none=>rfl
  |some o=>have:=ar.aE h;omega
 have ak3:=(ar.extra (.jJ (some []))).extra (.loop .ready none fn fr.t ps dr body st.aj);have s5:∀b,st.aj<=b->b∉ids:=fun b hb hm=>by have:=aE _ hm;omega
 generalize mr:(⟨(an.set st.h st.aj (.jJ (some []))).set (st.aj+1) (.loop .ready none fn fr.t ps dr body st.aj),st.aj+1+1⟩:au)=s1 at *;have W4:s1.h.get (st.aj+1)=some (.loop .ready none fn fr.t ps dr body st.aj):=by rw[<-mr];show(an.set _ (st.aj+1) _).get (st.aj+1)=_;exact an.uz _ _ _
 have akX:s1.h.get st.aj=some (.jJ (some [])):=by
  rw[<-mr];show(an.set _ (st.aj+1) _).get st.aj=_;rw[an.ji _ _ (by omega),an.uz]
 have akW:∀b,b<st.aj->s1.h.get b=st.h.get b:=fun b hb=>by
  rw[<-mr];show(an.set (an.set st.h st.aj _) (st.aj+1) _).get b=_;rw[an.ji _ _ (by omega),an.ji _ _ (by omega)]
 have avb:s1.aj=st.aj+2:=by rw[<-mr]
 have al0:=r6 s1 (st.aj+1) (ar.len.trans ar.ct.symm) ⟨W4,by omega,s5 _ (zba _),MS _ (zba _),⟨⟨rfl,rfl,rfl⟩,U.get⟩⟩;have Xo:dH H (.v (.func (.yield (st.aj+1)) #[] #[])::caps) ids (.func (.yield (st.aj+1)) #[] #[]::ws):=⟨_,ws,rfl,rfl,d2⟩;have fin:∀(o:am be) (fx:au) (a5:bu) (bO:ac Nat) (s:cr) (r:eb),mJ (cG bn (c0 X cq) (n+2)) (n+2) g xf (.func (.yield (st.aj+1)) #[] #[]::ws) none s1=r->dv H ids s1 a5 bO fx->Fit a5 bO fx s.own s.n->Post o s.own->
  (∃v,(o=none∧r= .ret v fx false)∨(o=some v∧r= .a9 v fx false))->∃(o:am be) (st':au) (a5:bu) (bO:ac Nat) (bl:ac bd),dA (cG bn (c0 X cq) (n+3)) cc fn (.Ca f ps dr body) fr st= .out (match o with|none=>.norm|some v=>.a9 v) ⟨fr.t,{target:=.collected st.aj,args:= #[]}::fr.cW,fr.a9,fr.cD,fr.bR⟩ st'∧
  dv H ids st a5 bO st'∧Fit a5 bO st' bl bl.length∧Post o bl∧st'.h.get st.aj=some (.jJ (some []))∧st.aj<st'.aj∧a5 st.aj=none∧st.aj∉bO:=by
  intro o fx a5 bO s r aL qI DD hp ak;have XF:s1.aj<=fx.aj:=qI.aj;have DD:Fit a5 bO fx s.own s.own.length:=by rw[DD.ct];exact DD
  have ph:st.aj+1∉bO:=fun hm=>(qI.new _ hm).elim (s5 _ (zba _)) fun g=>by omega
  have XI:st.aj∉bO:=fun hm=>(qI.new _ hm).elim (s5 _ (zae _)) fun g=>by omega
  have pV:fx.h.get (st.aj+1)=some (.loop .ready none fn fr.t ps dr body st.aj):=(qI.gN _ (by omega) (s5 _ (zba _))).trans W4;have yA:fx.h.get st.aj=some (.jJ (some [])):=(qI.gN _ (by omega) (s5 _ (zae _))).trans akX;have ak5:a5 (st.aj+1)=none:=(qI.hold _ (by omega) (s5 _ (zba _))).trans (MS _ (zba _));have Xa:a5 st.aj=none:=(qI.hold _ (by omega) (s5 _ (zae _))).trans (MS _ (zae _));have W6:dv H ids st a5 bO fx:=⟨qI.hle,fun b hb aa=>qI.hold b (by omega) aa,fun b hb aa=>(qI.gN b (by omega) aa).trans (akW b hb),by omega,qI.l2,fun b hb=>(qI.new b hb).imp id fun g=>by omega⟩;have iH:dA (cG bn (c0 X cq) (n+3)) cc fn (.Ca f ps dr body) fr st=Cb (st.aj+1) ⟨fr.t,{target:=.collected st.aj,args:= #[]}::fr.cW,fr.a9,fr.cD,fr.bR⟩ r:=by
   show Dr (cG bn (c0 X cq) (n+3)) fn f ps dr body fr st=_;unfold Dr;rw[qR,Sym.jc,g8,g8,aB,vU];have a7:gJ (#[]:ap be).toList (gJ [Value.func (.yield (st.aj+1)) #[] #[]] (⟨ws⟩:ap be).toList)=Value.func (.yield (st.aj+1)) #[] #[]::ws:=by simp
   show Cb _ _ (bm none _ (bm (c0 X cq g (gJ (#[]:ap be).toList (gJ [Value.func (.yield (st.aj+1)) #[] #[]] (⟨ws⟩:ap be).toList)) _) _ (bm (bn.get g) _ _)))=_;rw[a7,Pt dJ,Sym.jc,Sym.jc,J,Sym.e6];show Cb _ _ (mJ _ _ _ _ _ _ (⟨(an.set st.h st.aj (.jJ (some []))).set (st.aj+1) (.loop .ready none fn fr.t ps dr body st.aj),st.aj+1+1⟩:au))=_;rw[mr,aL]
  obtain⟨v,⟨rfl,rfl⟩|⟨rfl,rfl⟩⟩:=ak
  ·refine⟨none,⟨fx.h.set (st.aj+1) (.loop .exhausted none fn fr.t ps dr body st.aj),fx.aj⟩,a5,bO,s.own,?_,W6.other (by omega) _,DD.other (by omega) ph ak5 _,hp,?_,by show st.aj<fx.aj;omega,Xa,XI⟩
   ·rw[iH];show nA (fx.h.get (st.aj+1)) _ _=_;rw[pV];show(fx.h3 (st.aj+1) (.loop .exhausted none fn fr.t ps dr body st.aj) fun st'=>bm none (fun e=>cU.out e _ st') (cU.out .norm _ st'))=_;rw[lk];rfl
   ·show(an.set fx.h (st.aj+1) _).get st.aj=_;rw[an.ji _ _ (by omega)];exact yA
  ·exact⟨some v,fx,a5,bO,s.own,iH,W6,DD,hp,yA,by omega,Xa,XI⟩
 rcases aeP (n:=n+2) (f:=g) (Post:=fun v st'=>∃(a5:bu) (bO:ac Nat) (s:cr),dv H ids s1 a5 bO st'∧Fit a5 bO st' s.own s.n∧Post none s.own)
  (K0:=fun v st'=>∃(a5:bu) (bO:ac Nat) (s:cr),dv H ids s1 a5 bO st'∧Fit a5 bO st' s.own s.n∧Post (some v) s.own)
  (by rw[iF Xo];exact Ny) ((al0 H ids s1 (fS _) (dv.refl _ _ _) ak3 (c1.zero Xo)).mono (by
   rintro x eH cm ⟨a5,bO,s,du,dG,eJ,⟨J,⟨r,aL⟩,hp⟩|⟨v,rfl,hp⟩⟩
   ·obtain⟨v,aD,bg⟩:=Ft (call:=cG bn (c0 X cq) (n+2)) dG eJ aL;exact .inl ⟨J,v,bg,a5,bO,s,du,dG,hp⟩
   ·exact .inr ⟨v,rfl,ahS eJ.pl,a5,bO,s,du,dG,hp⟩))with⟨v,fx,h1,a5,bO,s,du,dG,hp⟩|⟨v,fx,h1,a5,bO,s,du,dG,hp⟩
 ·exact fin none fx a5 bO s _ h1 du dG hp ⟨v,.inl ⟨rfl,rfl⟩⟩
 ·exact fin (some v) fx a5 bO s _ h1 du dG hp ⟨v,.inr ⟨rfl,rfl⟩⟩
end
variable{call:bG}{fr:aJ}{st:au}{cc:Nat}{ops:ac bA}{s:cr}{H:bu}{ids:ac Nat}
def E1:de->Bool
 |.m3 _=>true
 |.alloc _ _=>true
 |.call _ _=>true
 |.lE _=>true
 |_=>false
def an9{a:bi}:bK call (.lE a) fr st= .no∨∃v,bK call (.lE a) fr st= .ok v fr st:=by
 rw[Z2];cases fr.ai a<;>first|exact .inl rfl|skip
 rename_i p;cases p with
 |none=>exact .inl rfl
 |some ad=>
  obtain⟨b,o,sp⟩:=ad;show au.load st ⟨b,o,sp⟩ 1 _ _=_∨∃v,au.load st ⟨b,o,sp⟩ 1 _ _=_;unfold au.load au.hz;cases sp with
  |some _=>exact .inl rfl
  |none=>
   show xQ (st.h.get b) _ _=_∨∃v,xQ (st.h.get b) _ _=_;cases st.h.get b with
   |none=>exact .inl rfl
   |some q=>
    cases q<;>first|exact .inl rfl|skip
    rename_i cs _ _ _;show iE cs o 1 _ _=_∨∃v,iE cs o 1 _ _=_;unfold iE;cases Kx 1 (GY o cs)with
    |none=>exact .inl rfl
    |some vs=>
     cases vs with
     |nil=>exact .inl rfl
     |cons v vs=>
      cases vs with
      |nil=>exact .inr ⟨v,rfl⟩
      |cons _ _=>exact .inl rfl
def apJ{o:de}{aA:aJ}{st':au}{v:be}(ak:E1 o=true)(h:bK call o fr st= .ok v aA st'):aA=fr:=by
 cases o<;>first|cases ak|skip
 ·cases h;rfl
 ·rename_i z el;have e:bK call (.alloc z el) fr st=st.j1 (.cells z el (0,0) false) fun id st=>.ok (.pointer (some ⟨id,0,none⟩)) fr st:=rfl;rw[e,g8]at h;cases h;rfl
 ·rename_i a;rcases an9 (call:=call) (a:=a) (fr:=fr) (st:=st)with g|⟨v1,g⟩
  ·rw[g]at h;cases h
  ·rw[g]at h;cases h;rfl
 ·rename_i f as;rw[vn]at h;cases hc:call (fr.ai f) (er fr as) none st with
  |ret v1 cm e7=>rw[hc,Uj]at h;cases h;rfl
  |a9 v1 cm e7=>rw[hc,Ui]at h;cases h
  |no=>rw[hc]at h;cases h
theorem aah{call:bG}:∀{ops:ac bA} {fr aA:aJ} {st st':au} {e:dM},(ops.all fun x=>x.g.isNone&&E1 x.o)=true->jh call ops fr st= .out e aA st'->aA.bR=fr.bR
 |[],_,_,_,_,_,_,h=>by cases h;rfl
 |⟨d,o,g⟩::ops,fr,aA,st,st',e,ha,h=>by
  rw[zeB,b4,b4]at ha;obtain⟨⟨aO,ak⟩,ha⟩:=ha;cases g with
  |some p=>cases aO
  |none=>
   have h:zr (bK call o fr st) (fun v fr st=>jh call ops (fr.put d v) st) (fun v st=>cond o.mh (.out (.a9 v) fr st) .no)= .out e aA st':=h;have ak:E1 o=true:=ak;cases dB:bK call o fr st with
   |ok v eH cm=>
    have aq:=apJ ak dB;subst aq;rw[dB,Je]at h;rw[aah ha h];exact(vt _ _ _).2.2.2
   |a9 v cm=>
    rw[dB,ZO]at h;cases hp:o.mh with
    |true=>rw[hp,cond_true]at h;cases h;rfl
    |false=>rw[hp,cond_false]at h;cases h
   |no=>rw[dB,ZN]at h;cases h
def arU{fn:ci}(Q:dM->cr->Prop)(hp:(ops.all fun x=>x.g.isNone&&E1 x.o)=true)(h:∀H1 i1 s1,i1.length=s.own.length->dj H H1->aS.ok ⟨call,cc,fn,H1,i1,s1,Q⟩ ⟨[],.o ops,s⟩)
 (ar:Fit H ids st s.own s.n) (U:c1 fr H ids s.env):∃x aA st' a5 bO bh,dA call cc fn (.vz ops) fr st= .out x aA st'∧dv H ids st a5 bO st'∧Fit a5 bO st' bh.own bh.n∧c1 aA a5 bO bh.env∧aA.bR=fr.bR∧Q x bh:=by
 obtain⟨e,aA,st',h1,a5,bO,bh,a8,dG,eJ,hq⟩:=h H ids st (ar.len.trans ar.ct.symm) (dj.refl _) H ids st fr (dv.refl _ _ _) ar U;exact⟨e,aA,st',a5,bO,bh,h1,a8,dG,eJ,aah hp h1,hq⟩
def QC{fn:ci}{t:cr}(hp:(ops.all fun x=>x.g.isNone&&E1 x.o)=true)(h:∀H1 i1 s1,i1.length=s.own.length->dj H H1->aS.ok ⟨call,cc,fn,H1,i1,s1,fun x bh=>x= .norm∧bh=t⟩ ⟨[],.o ops,s⟩)
 (ar:Fit H ids st s.own s.n) (U:c1 fr H ids s.env):∃aA st' a5 bO,dA call cc fn (.vz ops) fr st= .out .norm aA st'∧dv H ids st a5 bO st'∧Fit a5 bO st' t.own t.n∧c1 aA a5 bO t.env∧aA.bR=fr.bR:=by
 obtain⟨_,aA,st',a5,bO,_,h1,h2,ab,aD,bg,rfl,rfl⟩:=arU _ hp h ar U;exact⟨aA,st',a5,bO,h1,h2,ab,aD,bg⟩
def bo{own os:ac bd}{n p aP:Nat}{f:ac Nat}{e cK:bJ}(hp:pinned p f 0=true:=by rfl)(h1:tQ f own f os:=by repeat first|exact trivial|refine⟨⟨_,rfl,rfl⟩,?_⟩|refine⟨⟨_,rfl,rfl,fun _=>rfl⟩,?_⟩|refine⟨⟨_,rfl,trivial⟩,?_⟩)(h2:mH f cK e:=by repeat first|exact trivial|refine⟨rfl,?_⟩)(ao:f.Nodup:=by decide)(hl:aP=f.length:=by rfl):Sub p f ⟨own,n,e⟩ ⟨os,aP,cK⟩:=⟨ao,hl,h1,h2,hp⟩
section
variable{aw:fI}{K:ac eS}{own bp:ac bd}{aG a6 bU back:Nat}{e a7:bJ}{d:Tmp}{ts:ac Tmp}{xs:ac (bA×cx)}{x:bi}
def rJ{k0 z j q m:Nat}{el:ce}{a3:Bool}{α:Type}{R:α->ac ae}{l:ac α}(w:α){cs:ac ae}(hj:l[j]? =some w)(k:aS.ok aw ⟨K,.d xs bp ((d,.agg cs)::a7) a6 bU,⟨own,aG,(d,.agg cs)::e⟩⟩)(J:br (fh ts a7) x=some (.gp k0 z j q):=by rfl)(hk:bp[k0]? =some (.a el a3 z α R l):=by rfl)(hq:vY (R w) q m (fun l=>some l)=some cs:=by rfl)(hb:back<a6:=by decide):aS.ok aw ⟨K,.d ((⟨some d,.p9 m x,none⟩,.read back ts)::xs) bp a7 a6 bU,⟨own,aG,e⟩⟩:=
 qz (d:=some d) hb (fun H ids st fr U hl ak=>by
  obtain⟨b,h1,h2⟩:=U.ai J;obtain⟨vs,ab,aD,bg⟩:=ak k0 _ b hk rfl h1;have ao:=bg j w hj;obtain⟨hc,he⟩:=AF hq;cases he;have g5:=uj m (o6 q ao);have hl:=iF ao;rw[zay]at hl;rw[zaF]at hc;have e:((List.take z (List.drop (j*z) vs)).drop q).take m=(vs.drop (j*z+q)).take m:=by
   rw[zdR,zbC,zdi,zaC (by omega)]
  rw[e]at g5;exact⟨_,⟨_,rfl,g5⟩,fun ef _ af=>Iu h2 ((af k0 _ b hk rfl h1).trans ab) (by rw[zaF]at hl ⊢;omega)⟩) k
end
section
variable{X:Ctx}{bn:an dy}{cq:ci->fX}{cc n:Nat}{fn:ci}{bY:bu}{i0:ac Nat}{aK:au}{Q:dM->cr->Prop}{K:ac eS}{own bl:ac bd}{aG:Nat}{e:bJ}
def Tl{g:ci}{S:bN}(hc:bw X g S.spec){cz:ac bi}{as:ac ae}{d:Tmp}{xs:ac (bA×cx)}{bp:ac bd}{a7:bJ}{a6 bU z m c:Nat}{el:ce}{cs:ac ae}{α:Type}(R:α->ac ae)(t k0:Nat)(ws:ac α)(l:S.L)(hp:S.pre l)
 (k:aS.ok ⟨cG bn (c0 X cq) (n+1),cc,fn,bY,i0,aK,Q⟩ ⟨K,.d xs (bp.map fun _=>.x) (lV d a7) (a6+1) aG,⟨bl,aG,(d,S.res l)::e⟩⟩)
 (aF:dR e t=some (.aN k0 z 0 m c):=by rfl) (hk:own[k0]? =some (.c el cs):=by rfl) (eT:cs=ws.flatMap R:=by rfl) (hm:ws.length=m:=by rfl) (HN:m<=c:=by exact zae _) (av:∀w,(R w).length=z:=by exact fun _=>rfl) (dY:∀x,jk (R x)=true:=by exact fun _=>rfl) (ak:jm own k0 .x some=some bl:=by rfl)
 (ha:k6 ((t,.aZ z α R ws)::e) cz=some as:=by rfl) (he:ik as (S.args l):=by exact ik.refl _) (oD:jk as=true:=by rfl) (dJ:cq g=S.spec.K:=by rfl) (hh:S.hp bY:=by first|exact trivial|assumption):
 aS.ok ⟨cG bn (c0 X cq) (n+1),cc,fn,bY,i0,aK,Q⟩ ⟨K,.d ((⟨some d,.call (.func g) cz,none⟩,.ep)::xs) bp a7 a6 bU,⟨own,aG,e⟩⟩:=by
 have h1:=j5 ak;cases h1;refine agd (d:=some d) (s:=⟨own,aG,e⟩) (fun H ids st fr a8 ar U=> ?_) k;have aE:=(zaf.1 hk).1;obtain⟨H1,c3,f1,aH,hle⟩:=MG (aw:=⟨cG bn (c0 X cq) (n+1),cc,fn,bY,i0,aK,Q⟩) (a3:=false) (l:=ws) ws aF (zcN aE) (by rw[zar,zaV (by omega)]) hm HN dY a8 (Lm ws hk eT av ar) U;rw[List.set_set]at f1;obtain⟨v,st',bO,a5,eD,eU,fT,j2,vv,zA,PM,_⟩:=Gq (s:=⟨own.set k0 .x,aG,(t,.aZ z α R ws)::e⟩) (n:=n) hc dJ l ha oD he hp hh H1 ids st fr c3.hle f1 aH;exact⟨v,st',bO,a5,eD,eU,fT,hle.trans j2,vv,zA _ _ _ c3,PM⟩
end
section
variable{aw:fI}{K:ac eS}{own bl:ac bd}{aG:Nat}{e:bJ}
def Fm(k0:Nat){z:Nat}{el:ce}{a3:Bool}{α β:Type}{R:α->ac ae}{l:ac α}(S:β->ac ae)(m:ac β){p:ac bA}(b8:aS.ok aw ⟨K,.o p,⟨bl,aG,e⟩⟩)(hl:m.length=l.length)(hle:∀(i:Nat) (x:α) (y:β),l[i]? =some x->m[i]? =some y->ik (R x) (S y))
 (hk:own[k0]? =some (.a el a3 z α R l):=by rfl) (ak:jm own k0 (.a el a3 z β S m) some=some bl:=by rfl):aS.ok aw ⟨K,.o p,⟨own,aG,e⟩⟩:=fun H ids st fr a8 ar U=>by
 have h1:=j5 ak;cases h1;refine b8 H ids st fr a8 ⟨ar.wf,ar.le,by simp[ar.ct],ar.len,ar.dg,ar.lt,?_⟩ U;intro j q c hj hc;rw[zbb]at hj;by_cases hE:k0=j
 ·subst hE;rw[zab rfl]at hj;split at hj<;>cases hj;obtain⟨⟨vs,ab,aD,bg⟩,cv⟩:=ar.own k0 _ c hk hc;refine⟨⟨vs,ab,by rw[hl];exact aD,fun i y ay=> ?_⟩,fun _=>cv rfl⟩;have aa:i<l.length:=by rw[<-hl];exact(zaf.1 ay).1
  exact(hle i l[i] y (bE aa) ay).den (bg i l[i] (bE aa))
 ·rw[zaa hE]at hj;exact ar.own j q c hj hc
end
section
variable{X:Ctx}{bn:an dy}{cq:ci->fX}{cc n:Nat}{fn:ci}{bY:bu}{i0:ac Nat}{aK:au}{Q:dM->cr->Prop}{K:ac eS}{own:ac bd}{aG:Nat}{e:bJ}
def aq0{g:ci}(xf:dy)(J:bn.get g=some xf){f:bi}{cz:ac bi}{as cj cs:ac ae}{d:am Tmp}{xs:ac bA}
 (k:∀H1 i1 s1,i1.length=own.length->dj bY H1->aS.ok ⟨cG bn (c0 X cq) (n+1),n+1,g,H1,i1,s1,Rx ⟨cG bn (c0 X cq) (n+2),cc,fn,bY,i0,aK,Q⟩ K xs d e xf.res⟩ ⟨[],.c xf.body,⟨own,aG,ov 0 (cj++(as++cs))⟩⟩)
 (U:br e f=some (.fn (.func g) cj cs):=by rfl) (ha:k6 e cz=some as:=by rfl) (hl:(cj++(as++cs)).length<=xf.aP:=by exact kv rfl) (dJ:cq g=fX.no:=by rfl):aS.ok ⟨cG bn (c0 X cq) (n+2),cc,fn,bY,i0,aK,Q⟩ ⟨K,.o (⟨d,.call f cz,none⟩::xs),⟨own,aG,e⟩⟩:=by
 intro H ids st fr a8 ar eJ;have uI:den H (.fn (.func g) cj cs) ids (fr.ai f):=eJ.ai U;obtain⟨vs,ws,aB,d1,d2⟩:=uI;have ao:=sM d1 (sM (eJ.er ha) d2);have fm:=k H ids st (ar.len.trans ar.ct.symm) a8.hle H ids st (fS (vs++(er fr cz++ws))) (dv.refl _ _ _) ar (c1.zero ao);obtain⟨v,st',h1,r,a5,bO,s,du,dG,g5,hk⟩:=Gl (n:=n+1) (f:=g) (Post:=fun v st'=>∃(r:ae) (a5:bu) (bO:ac Nat) (s:cr),dv H ids st a5 bO st'∧Fit a5 bO st' s.own s.n∧den a5 r bO v∧aS.ok ⟨cG bn (c0 X cq) (n+2),cc,fn,bY,i0,aK,Q⟩ ⟨K,.o xs,⟨s.own,s.n,fO d r e⟩⟩)
  (by rw[iF ao];exact hl) (fm.mono (by
   rintro x eH cm ⟨a5,bO,s,du,dG,eJ,J,r,aL,hk⟩;obtain⟨v,ab,aD⟩:=Ft (call:=cG bn (c0 X cq) (n+1)) dG eJ aL;exact⟨J,v,aD,r,a5,bO,s,du,dG,ab,hk⟩))
 refine Cw (v:=v) (st':=st') ?_ (hk a5 bO st' _ (a8.trans du) dG ((eJ.mono du.hle du.l2).fO d g5));rw[vn,aB];show wi (cG bn (c0 X cq) (n+2) (.func (.func g) ⟨vs⟩ ⟨ws⟩) (er fr cz) none st) _ _=_;rw[vU];have a7:gJ (⟨vs⟩:ap be).toList (gJ (er fr cz) (⟨ws⟩:ap be).toList)=vs++(er fr cz++ws):=by simp
 rw[a7,Pt dJ,Sym.jc,Sym.jc,J,Sym.e6,h1];rfl
end
variable{f:ac Nat}{bl:ac bd}
def CA(f:ac Nat)(bl:ac bd):ac Nat->ac bd->Prop
 |[],[]=>True
 |k::cX,o::os=>(∃bD,bl[k]? =some bD∧xG f o bD)∧CA f bl cX os
 |_,_=>False
def CA.get:∀{cX:ac Nat} {os:ac bd},CA f bl cX os->∀{i k:Nat} {bD:bd},cX[i]? =some k->bl[k]? =some bD->∃o,os[i]? =some o∧xG f o bD
 |[],[],_,i,_,_,h,_=>by simp at h
 |[],_::_,h,_,_,_,_,_=>h.elim
 |_::_,[],h,_,_,_,_,_=>h.elim
 |k::cX,o::os,⟨⟨q,h1,h2⟩,_⟩,0,_,_,h,aC=>by
  cases h;rw[h1]at aC;cases aC;exact⟨o,rfl,h2⟩
 |k::cX,o::os,⟨_,ab⟩,i+1,_,_,h,aC=>CA.get ab (by simpa using h) aC
def aeF{own os:ac bd}(h1:∀j,j<own.length->j∉f->bl[j]? =own[j]?)(h2:CA f bl f os:=by repeat first|exact trivial|refine⟨⟨_,rfl,rfl⟩,?_⟩|refine⟨⟨_,rfl,rfl,fun _=>rfl⟩,?_⟩)(hl:bl.length=own.length:=by rfl):z8 f own bl os:=by
 refine⟨hl,fun j hj=> ?_,fun i k bD h aC=>h2.get h aC⟩;by_cases aE:j<own.length
 ·exact h1 j aE hj
 ·rw[zbi (by omega),zbi (by omega)]
section
variable{X:Ctx}{bn:an dy}{cq:ci->fX}{cc n:Nat}{fn:ci}{bY:bu}{i0:ac Nat}{aK:au}{Q:dM->cr->Prop}{K:ac eS}{own bl:ac bd}{aG:Nat}{e:bJ}{g:ci}{S:ka}
variable{yf:bi}{cz:ac bi}{as cj cs:ac ae}
def ae2(hc:bw X g S.spec)(f:ac Nat)(l:S.L)(hp:S.pre l)(hh:S.hp bY)
 (af:Sub 0 f ⟨own,aG,e⟩ ⟨S.own l,(S.own l).length,[]⟩) (hb:z8 f own bl (S.bl l)) (nr:br e yf=some (.fn (.func g) cj cs))
 (ha:k6 e cz=some as) (he:cj++(as++cs)=n8 f (S.args l)) (dJ:cq g=S.spec.K) {H:bu} {ids:ac Nat} {st:au} {fr:aJ} (a8:dv bY i0 aK H ids st) (ar:Fit H ids st own aG) (U:c1 fr H ids e):
 ∃v st' bO a5,bK (cG bn (c0 X cq) (n+1)) (.call yf cz) fr st= .ok v fr st'∧Fit a5 bO st' bl aG∧den a5 (m8 f (S.res l)) bO v∧dj H a5∧dk ids bO∧dv bY i0 aK a5 bO st'∧st.aj<=st'.aj:=by
 have ow:=af.fit ar;have uI:den H (.fn (.func g) cj cs) ids (fr.ai yf):=U.ai nr;obtain⟨vs,ws,aB,d1,d2⟩:=uI;have sY:=sM d1 (sM (U.er ha) d2);rw[he]at sY;have ao:=ui f _ sY;obtain⟨v,st',h1,h2⟩:=hc _ st ⟨(l,H,pick f ids),hp,S.hm a8.hle hh,ow,ao⟩;obtain⟨v1,cm,aH,aI⟩:=Jq (X:=X) (K:=cq) (f:=g) ⟨v,st',by rw[dJ];exact h1,h2⟩;rw[dJ]at aI;obtain⟨a5,dG,du,g5⟩:=aI (l,H,pick f ids) ⟨hp,S.hm a8.hle hh,ow,ao⟩;simp only at dG du g5;have aE:∀k m:Nat,f[k]? =some m->m<ids.length:=fun k m hk=>by
  have hl:(S.own l).length=f.length:=af.own.len;have h1:=(zaf.1 hk).1;obtain⟨gF,bD,h2,ab,_⟩:=af.own.get (bE (show k<(S.own l).length by omega));rw[hk]at h2;cases h2;rw[ar.len,<-ar.ct];exact(zaf.1 ab).1
 have D4:∀(j b:Nat),j∉f->ids[j]? =some b->b∉pick f ids:=fun j b hj hb hm=>by
  obtain⟨k,hk⟩:=zbP.1 hm;obtain⟨m,ab,aD⟩:=w4 aE hk;have aq:=zaf.1 hb;have e2:=zaf.1 aD;have:=(zcw (h₀:=aq.1) (h₁:=e2.1) ar.dg).1 (aq.2.trans e2.2.symm);exact hj (this▸zau ab)
 have bj:cG bn (c0 X cq) (n+1) (fr.ai yf) (er fr cz) none st= .ret v1 cm false:=by
  rw[aB,vU];have e:gJ (⟨vs⟩:ap be).toList (gJ (er fr cz) (⟨ws⟩:ap be).toList)=vs++(er fr cz++ws):=by simp
  rw[e,aH];rfl
 have hle:dj H a5:=du.hle;refine⟨v1,cm,ids,a5,?_,?_,Md aE _ g5,hle,dk.refl _,?_,du.aj⟩
 ·rw[vn,bj];rfl
 ·obtain⟨iU,mm,M4⟩:=hb;refine⟨dG.wf,dG.le,by rw[iU];exact ar.ct,ar.len,ar.dg,fun b hb=>gH (ar.lt b hb) du.aj,fun j o b hj jt=> ?_⟩;by_cases yD:j∈f
  ·obtain⟨i,aa⟩:=zbP.1 yD;obtain⟨q5,Nz,uM⟩:=M4 i j o aa hj;have D8:=w3 aa jt;obtain⟨ab,aD⟩:=dG.own i q5 b Nz D8;obtain⟨bg,cv⟩:=uM.den aE ab;exact⟨bg,fun hl=>aD (by rw[<-cv];exact hl)⟩
  ·have hj:bl[j]? =some o:=hj;rw[mm j yD]at hj;obtain⟨ab,aD⟩:=ar.own j o b hj jt;have DZ:=ar.lt b (zau jt);have yL:=D4 j b yD jt;rw[du.gN b DZ yL];exact⟨ug hle (dk.refl _) ab,fun hl=>by rw[du.hold b DZ yL];exact aD hl⟩
 ·have s0:∀b,b∈pick f ids->b∈ids:=fun b hb=>by
   obtain⟨k,hk⟩:=zbP.1 hb;obtain⟨m,_,aD⟩:=w4 aE hk;exact zau aD
  have pZ:∀b,b<aK.aj->b∉i0->b∉pick f ids:=fun b hb hn hm=>by
   rcases a8.new b (s0 b hm)with h|h
   ·exact hn h
   ·have h:aK.aj<=b:=h;omega
  refine⟨a8.hle.trans hle,fun b hb hn=> ?_,fun b hb hn=> ?_,zag a8.aj du.aj,a8.l2,a8.new⟩
  ·rw[du.hold b (gH hb a8.aj) (pZ b hb hn)];exact a8.hold b hb hn
  ·rw[du.gN b (gH hb a8.aj) (pZ b hb hn)];exact a8.gN b hb hn
def aqS(hc:bw X g S.spec){d:am Tmp}{xs:ac bA}(f:ac Nat)(l:S.L)(hp:S.pre l)
 (k:aS.ok ⟨cG bn (c0 X cq) (n+1),cc,fn,bY,i0,aK,Q⟩ ⟨K,.o xs,⟨bl,aG,fO d (m8 f (S.res l)) e⟩⟩) (af:Sub 0 f ⟨own,aG,e⟩ ⟨S.own l,(S.own l).length,[]⟩) (hb:z8 f own bl (S.bl l)) (nr:br e yf=some (.fn (.func g) cj cs):=by rfl)
 (ha:k6 e cz=some as:=by rfl) (he:cj++(as++cs)=n8 f (S.args l):=by rfl) (dJ:cq g=S.spec.K:=by rfl) (hh:S.hp bY:=by first|exact trivial|assumption):
 aS.ok ⟨cG bn (c0 X cq) (n+1),cc,fn,bY,i0,aK,Q⟩ ⟨K,.o (⟨d,.call yf cz,none⟩::xs),⟨own,aG,e⟩⟩:=fun H ids st fr a8 ar U=>by
 obtain⟨v,st',bO,a5,eD,eU,fT,j2,vv,zA,_⟩:=ae2 (n:=n) hc f l hp hh af hb nr ha he dJ a8 ar U;exact Cw eD (k a5 bO st' _ zA eU ((U.mono j2 vv).fO d fT))
end
section
variable{aw:fI}{K:ac eS}{s:cr}
def agc{d:am Tmp}{o:de}{l:ac (bA×cx)}{bp:ac bd}{a7:bJ}{a6 bU b1:Nat}{a:ae}
 (h:∀(H:bu) (ids:ac Nat) (st:au) (fr:aJ),dv aw.bY aw.i0 aw.aK H ids st->Fit H ids st s.own s.n->c1 fr H ids s.env->∃v st' bO a5,bK aw.call o fr st= .ok v fr st'∧Fit a5 bO st' bl b1∧den a5 a bO v∧dj H a5∧dk ids bO∧dv aw.bY aw.i0 aw.aK a5 bO st'∧st.aj<=st'.aj∧∀b,b<st.aj->st'.h.get b=st.h.get b)
 (k:hy aw K (.d l bp (sQ d a7) (a6+1) b1) ⟨bl,b1,fO d a s.env⟩):hy aw K (.d ((⟨d,o,none⟩,.ep)::l) bp a7 a6 bU) s:=by
 intro dh hP H ids st fr fz af a8 ar U bX;obtain⟨v,st',bO,a5,aH,aI,bj,cn,cT,eB,gb,nV⟩:=h H ids st fr a8 ar U;have s0:∀(k:Nat) (b:Nat),k<ids.length->bO[k]? =some b->ids[k]? =some b:=fun k b hk hb=>by
  have:=cT k _ (bE hk);rw[hb]at this;rw[bE hk,this]
 have A9:∀(k:Nat) (b:Nat),ids[k]? =some b->st'.h.get b=st.h.get b:=fun k b hb=>nV b (ar.lt b (zau hb));have fm:=k dh hP a5 bO st' (fr.put d v) fz (st'.h::af) eB aI ((U.mono cn cT).fO d bj) ⟨by simp[bX.len],bX.hle.trans cn,v7 (fun j a hj=>sL (dj.refl _) _ cT (bX.fS j a hj)) d v,?_,by rw[aI.len];exact b6 _,?_,?_,?_⟩
 ·refine W.of_eq ?_ fm;show aV.rec (motive:=fun _=>cU) (fun v aA st'=>ey st.aj st'.aj (iv aw.call dh l (st'.h::af) (aJ.put ⟨fr.t,aA.cW,aA.a9,aA.cD,aA.bR⟩ d v) st') .no) (fun v st'=>cond o.mh (cond (dh l (st.h::af) (fr.put d undef) st) (.out (.a9 v) fr st') .no) .no) .no (bK aw.call o fr st)=_;rw[aH];show ey st.aj st'.aj _ _=_;rw[gn gb]
 ·exact zag bX.oM (Ie cT)
 ·intro k bD b hk s4 hb;have DU:k<ids.length:=gH (zaf.1 hk).1 bX.oM;have hb:=s0 k b DU hb;obtain⟨aD,bg⟩:=bX.bp k bD b hk s4 hb;have e:=A9 k b hb;rw[e];refine⟨ug (dj.refl _) cT aD,fun h hm=> ?_⟩;rcases zap.1 hm with rfl|hm
  ·exact e
  ·exact bg h hm
 ·intro h hm b bD hb;rcases zap.1 hm with rfl|hm
  ·exact aI.le _ _ (cn _ _ (bX.hle _ _ hb))
  ·exact bX.old h hm b bD hb
 ·intro h hm;simp at hm;subst hm;exact⟨aI.le,fun _ _ _ _=>rfl⟩
end
section
variable{X:Ctx}{bn:an dy}{cq:ci->fX}{cc n:Nat}{fn:ci}{bY:bu}{i0:ac Nat}{aK:au}{Q:dM->cr->Prop}{K:ac eS}{own bl:ac bd}{aG:Nat}{e:bJ}
def GM{g:ci}{S:bN}(hc:bw X g S.spec){cz:ac bi}{as:ac ae}{d:Tmp}{xs:ac (bA×cx)}{bp:ac bd}{a7:bJ}{a6 bU z m c:Nat}{el:ce}{cs:ac ae}{α:Type}(R:α->ac ae)(t k0:Nat)(ws:ac α)(l:S.L)(hp:S.pre l)
 (k:aS.ok ⟨cG bn (c0 X cq) (n+1),cc,fn,bY,i0,aK,Q⟩ ⟨K,.d xs bp (lV d a7) (a6+1) aG,⟨bl,aG,(d,S.res l)::e⟩⟩)
 (aF:dR e t=some (.aN k0 z 0 m c):=by rfl) (hk:own[k0]? =some (.c el cs):=by rfl) (eT:cs=ws.flatMap R:=by rfl) (hm:ws.length=m:=by rfl) (HN:m<=c:=by exact zae _) (av:∀w,(R w).length=z:=by exact fun _=>rfl) (dY:∀x,jk (R x)=true:=by exact fun _=>rfl) (ak:jm own k0 .x some=some bl:=by rfl)
 (ha:k6 ((t,.aZ z α R ws)::e) cz=some as:=by rfl) (he:ik as (S.args l):=by exact ik.refl _) (oD:jk as=true:=by rfl) (dJ:cq g=S.spec.K:=by rfl) (hh:S.hp bY:=by first|exact trivial|assumption):
 aS.ok ⟨cG bn (c0 X cq) (n+1),cc,fn,bY,i0,aK,Q⟩ ⟨K,.d ((⟨some d,.call (.func g) cz,none⟩,.ep)::xs) bp a7 a6 bU,⟨own,aG,e⟩⟩:=by
 have h1:=j5 ak;cases h1;refine agc (d:=some d) (s:=⟨own,aG,e⟩) (fun H ids st fr a8 ar U=> ?_) k;have aE:=(zaf.1 hk).1;obtain⟨H1,c3,f1,aH,hle⟩:=MG (aw:=⟨cG bn (c0 X cq) (n+1),cc,fn,bY,i0,aK,Q⟩) (a3:=false) (l:=ws) ws aF (zcN aE) (by rw[zar,zaV (by omega)]) hm HN dY a8 (Lm ws hk eT av ar) U;rw[List.set_set]at f1;obtain⟨v,st',bO,a5,eD,eU,fT,j2,vv,zA,PM,aqg⟩:=Gq (s:=⟨own.set k0 .x,aG,(t,.aZ z α R ws)::e⟩) (n:=n) hc dJ l ha oD he hp hh H1 ids st fr c3.hle f1 aH;exact⟨v,st',bO,a5,eD,eU,fT,hle.trans j2,vv,zA _ _ _ c3,PM,fun b hb=>aqg b hb (fun k hk=>by simp[iM]at hk)⟩
end
end Go.ah
namespace Go.ah
variable{X:Ctx}
variable{b:Nat}{gs:ac (Nat×bt)}{g:Nat}{p:Nat×bt}
def n2(g n:Nat):bx:=fun i=>if i<g then some ⟨i,0,0,js⟩else if n<=i∧i<2*n then some ⟨i-n,0,0,js⟩else none
def ta(W:d7)(b:Nat):Bool:=match W.heap[b]? with
 |some (.cells _ _ _)=>true
 |_=>false
def X7{W:d7}(h:ta W b=true):∃C el bk,W.heap[b]? =some (.cells C el bk):=by
 unfold ta at h;split at h
 ·rename_i C el bk hC;exact⟨C,el,bk,hC⟩
 ·cases h
def toA(W:d7):be->be
 |.bool b=>.bool b
 |.int k m=>.int k m
 |.string s=>.string s
 |.slice none l c=>.slice none l c
 |.slice (some a) l c=>if ta W a.block=true∧a.spot=none then .slice (some ⟨W.heap.size+a.block,a.off,none⟩) l c else(match l with|0=>.chan none|_=>jB)
 |.pointer none=>.pointer none
 |.pointer (some a)=>if a.block<W.heap.size∧a.spot=none then .pointer (some ⟨W.heap.size+a.block,a.off,none⟩)else jB
 |_=>jB
def N6{n:Nat}(aO:g<=n)(hb:b<n):n2 g n (n+b)=some ⟨b,0,0,js⟩:=by
 unfold n2;rw[zaa (by omega),zab (by omega),zfb]
def Q1{W:d7}(aO:g<=W.heap.size)(v:be):bq (n2 g W.heap.size) (toA W v) v:=by
 cases v with
 |slice a l c=>
  cases a with
  |none=>exact .oW _ _
  |some a=>
   show bq _ (if ta W a.block=true∧a.spot=none then Value.slice (some ⟨W.heap.size+a.block,a.off,none⟩) l c else(match l with|0=>.chan none|_=>jB)) _;split
   ·rename_i h;obtain⟨b,o,sp⟩:=a;obtain⟨h1,h2⟩:=h;simp only at h1 h2;subst h2;obtain⟨_,_,_,ab⟩:=X7 h1;have:=bq.hv (ι:=n2 g W.heap.size) ⟨W.heap.size+b,o,none⟩ ⟨b,0,0,js⟩ o l c (N6 aO (zbs.1 ab).1) rfl (.inl (by simp));exact this
   ·split
    ·exact .emp _ _
    ·exact .top _
 |pointer a=>
  cases a with
  |none=>exact .oQ
  |some a=>
   show bq _ (if a.block<W.heap.size∧a.spot=none then Value.pointer (some ⟨W.heap.size+a.block,a.off,none⟩)else jB) _;split
   ·rename_i h;obtain⟨b,o,sp⟩:=a;obtain⟨h1,h2⟩:=h;simp only at h1 h2;subst h2;have:=bq.ptr (ι:=n2 g W.heap.size) ⟨W.heap.size+b,o,none⟩ ⟨b,0,0,js⟩ (N6 aO h1) rfl;simpa using this
   ·exact .top _
 |bool b=>exact .bool b
 |int k m=>exact .int k m
 |string s=>exact .string s
 |_=>exact .top _
theorem ac2{g:Nat}{W:d7}(aO:g<=W.heap.size):∀vs:ac be,bI (n2 g W.heap.size) (vs.map (toA W)) vs
 |[]=>.nil _
 |v::vs=>.cons (Q1 aO v) (ac2 aO vs)
theorem Rc:∀(us:ac (Nat×bt)) (h:an bt) (k:Nat),(∀p∈us,p.1≠k)->(lL us h).get k=h.get k
 |[],_,_,_=>rfl
 |u::us,h,k,hn=>by
  rw[KC,Rc us _ k (fun p hp=>hn p (zaB _ hp)),an.e8,zaa (fun e=>hn u zbF e.symm)]
theorem adw:∀(us:ac (Nat×bt)) (h:an bt) (k:Nat) (o:bt),(us.map (·.1)).Nodup->(k,o)∈us->(lL us h).get k=some o
 |u::us,h,k,o,ao,hm=>by
  rw[zaZ,List.nodup_cons]at ao;rw[KC];rcases zap.1 hm with rfl|hm
  ·rw[Rc us _ k (fun p hp e=>ao.1 (e▸zbX.2 ⟨p,hp,rfl⟩)),an.e8,zab rfl]
  ·exact adw us _ k o ao.2 hm
def zo(W:d7)(b:Nat):am Obj->am (Nat×bt)
 |some (.cells C el _)=>some (W.heap.size+b,.cells (C.toList.map (toA W)) el (0,C.size+1) false)
 |_=>none
def EU(W:d7):ac (Nat×bt):=(List.range W.heap.size).filterMap fun b=>zo W b W.heap[b]?
def jX(gs:ac (Nat×bt))(W:d7):an bt:=lL (EU W) (lL gs .nil)
def Ja{W:d7}:p∈EU W↔∃b,b<W.heap.size∧zo W b W.heap[b]? =some p:=by
 unfold EU;simp only[List.mem_filterMap,zcv]
def ET{W:d7}{o:am Obj}(h:zo W b o=some p):p.1=W.heap.size+b:=by
 unfold zo at h;split at h
 ·cases h;rfl
 ·cases h
def apu(W:d7):((EU W).map (·.1)).Nodup:=by
 unfold EU;rw[List.map_filterMap];have aL:(List.range W.heap.size).Nodup:=List.nodup_range;refine List.Pairwise.filterMap (R:=fun a b=>a≠b) _ ?_ aL;intro a b iT x J y ay e;obtain⟨p,h1,rfl⟩:=zbv.1 J;obtain⟨q,h2,rfl⟩:=zbv.1 ay;rw[ET h1,ET h2]at e;omega
def alC{W:d7}{C:ap be}{el:ce}{bk:Nat×Nat}(h:W.heap[b]? =some (.cells C el bk)):(jX gs W).get (W.heap.size+b)=some (.cells (C.toList.map (toA W)) el (0,C.size+1) false):=
 adw _ _ _ _ (apu W) (Ja.2 ⟨b,(zbs.1 h).1,by rw[h];rfl⟩)
def alB{W:d7}(h:g<W.heap.size):(jX gs W).get g=(lL gs .nil).get g:=
 Rc _ _ _ fun p hp=>by
  obtain⟨b,_,e⟩:=Ja.1 hp;rw[ET e];omega
def auR{W:d7}(et:X.az<=W.heap.size)(h:∀p∈gs,Aa X.az W p):bz X (n2 X.az W.heap.size) ⟨jX gs W,2*W.heap.size⟩ W:=by
 have hle:(Ii X.az).le (n2 X.az W.heap.size):=fun i l hl=>by
  unfold Ii at hl;unfold n2;split at hl
  ·rename_i aa;cases hl;rw[zab aa]
  ·cases hl
 have gA:∀i l,n2 X.az W.heap.size i=some l->l.ch=js∧l.cJ<W.heap.size∧i<2*W.heap.size:=by
  intro i l hl;unfold n2 at hl;split at hl
  ·cases hl;exact⟨rfl,by simp only;omega,by omega⟩
  ·split at hl
   ·cases hl;exact⟨rfl,by simp only;omega,by omega⟩
   ·cases hl
 have uM:∀i o,(jX gs W).get i=some o->Aa X.az W (i,o)∨∃b,b<W.heap.size∧i=W.heap.size+b∧zo W b W.heap[b]? =some (i,o):=by
  intro i o ak;rcases Cq _ _ _ _ ak with hm|hm
  ·obtain⟨b,hb,e⟩:=Ja.1 hm;exact .inr ⟨b,hb,ET e,e⟩
  ·rcases Cq _ _ _ _ hm with hm|hm
   ·exact .inl (h _ hm)
   ·simp at hm
 refine⟨fun i o ak ao=> ?_,fun i j o p l m aa _ hj _ hl hm af e=> ?_,fun i aa=> ?_,fun i l hl=>(gA i l hl).2.1,fun g aO=> ?_,?_,fun i l o hl _ ak _=> ?_⟩
 ·rcases uM i o ak with⟨aE,cs,el,m,C,bk,aq,e2,bS,gK⟩|⟨b,hb,rfl,e⟩
  ·simp only at aE aq bS;refine⟨⟨i,0,0,js⟩,by unfold n2;rw[zab aE],?_⟩;subst aq;have hlen:cs.length=C.size:=by rw[gK.1];simp
   have gK:=gK.mono hle;refine⟨C,bk,bS,by simp[hlen],fun k hk=> ?_,fun U=> ?_,fun _=>⟨rfl,rfl,hlen.symm⟩⟩
   ·have fs:k<C.size:=by omega
    refine⟨C[k],by simp[fs],?_⟩;have:=gK.2 k hk (by simpa using fs)
    rwa [zaO]at this
   ·simp only at U;omega
  ·refine⟨⟨b,0,0,js⟩,N6 et hb,?_⟩;unfold zo at e;split at e
   ·rename_i C el bk hC;cases e;have aL:=ac2 et C.toList;refine⟨C,bk,hC,by simp,fun k hk=> ?_,fun U=> ?_,fun _=>⟨rfl,rfl,by simp⟩⟩
    ·have fs:k<C.size:=by simpa using hk
     refine⟨C[k],by simp[fs],?_⟩;have:=aL.2 k hk (by simpa using fs)
     rwa [zaO]at this
    ·simp only at U;omega
   ·cases e
 ·exact(af.elim (fun h=>h (gA i l hl).1) (fun h=>h (gA j m hm).1)).elim
 ·have aa:2*W.heap.size<=i:=aa;refine⟨?_,?_⟩
  ·cases e:n2 X.az W.heap.size i with
   |none=>rfl
   |some l=>have:=(gA i l e).2.2;omega
  ·cases e:(jX gs W).get i with
   |none=>rfl
   |some o=>
    rcases uM i o e with h|⟨b,hb,rfl,_⟩
    ·have:=h.1;simp only at this;omega
    ·omega
 ·exact hle _ _ (by unfold Ii;rw[zab aO])
 ·show X.az<=2*W.heap.size;omega
 ·rcases uM i o ak with⟨_,cs,el,m,C,bk,aq,e2,_,_⟩|⟨b,hb,rfl,e⟩
  ·simp only at aq;subst aq;exact⟨rfl,e2⟩
  ·unfold zo at e;split at e
   ·cases e;exact⟨rfl,zcO _⟩
   ·cases e
def alD{W:d7}(h:∀p∈gs,p.1<W.heap.size)(b:Nat)(hb:2*W.heap.size<=b):(jX gs W).get b=none:=by
 cases e:(jX gs W).get b with
 |none=>rfl
 |some o=>
  rcases Cq _ _ _ _ e with hm|hm
  ·obtain⟨c,hc,e⟩:=Ja.1 hm;have:=ET e;simp only at this;omega
  ·rcases Cq _ _ _ _ hm with hm|hm
   ·have:=h _ hm;simp only at this;omega
   ·simp at hm
inductive sE
 |i (k:IntKind)
 |b
 |s
 |aN (z w:Nat) (cs:List sE)
mutual
def Qn(B:Nat)(W:d7):sE->be->Prop
 |.i k,v=>∃m,v= .int k m∧(Lit.int k m).wf=true
 |.b,v=>∃t,v= .bool t
 |.s,v=>∃s:f6,v= .string s∧s.data.toList.length<=B
 |.aN z w cs,v=>v= .slice none 0 0∨∃(a:Addr) (n c:Nat),v= .slice (some a) n c∧n<=c∧c<=B∧c*w<=B∧∀i,i<n->∃vs,W.cells? 0 (a.add (i*z)) z=some vs∧oV B W cs vs
def oV(B:Nat)(W:d7):ac sE->ac be->Prop
 |[],vs=>vs=[]
 |c::cs,vs=>∃v ws,vs=v::ws∧Qn B W c v∧oV B W cs ws
end
theorem abF{B:Nat}{W:d7}:∀{cs ds:ac sE} {vs ws:ac be},oV B W cs vs->oV B W ds ws->oV B W (cs++ds) (vs++ws)
 |[],ds,vs,ws,h,aC=>by
  have h:vs=[]:=h;subst h;exact aC
 |c::cs,ds,vs,ws,⟨v,us,e,h1,h2⟩,aC=>by
  subst e;exact⟨v,us++ws,rfl,h1,abF h2 aC⟩
theorem ab2{B:Nat}{W:d7}{α:Type}{seg:α->ac be}{dh:α->am (ac sE)}:∀(as:ac α) (o2:ac (ac sE)),as.mapM dh=some o2->(∀a∈as,∀cs,dh a=some cs->oV B W cs (seg a))->oV B W o2.flatten (as.map seg).flatten
 |[],o2,h,_=>by
  simp at h;subst h;exact rfl
 |a::as,o2,h,hk=>by
  rw[zdI]at h;obtain⟨cs,J,h⟩:=zcu.1 h;obtain⟨al,ay,h⟩:=zcu.1 h;cases h;rw[zaZ,zeA,zeA];exact abF (hk a zbF cs J) (ab2 as al ay (fun a ha=>hk a (zaB _ ha)))
def Xg(W:d7)(v:be):Prop:=∀a l c,v= .slice (some a) l c->a.spot=none∧∃C el bk,W.heap[a.block]? =some (.cells C el bk)
variable{z:Nat}{α:Type}{a:Addr}{vs:ac be}{B w:Nat}{o2:ac sE}{v:be}{R:α->ac ae}{Q:α->Prop}
def ae7{W:d7}{C:ap be}{el:ce}{bk:Nat×Nat}{o:Nat}(af:a=⟨b,o,none⟩)(h:W.cells? 0 a z=some vs)(hC:W.heap[b]? =some (.cells C el bk)):vs=(C.toList.drop o).take z:=by
 unfold World.cells? at h;rw[zab (zac _)]at h;have hl:=mapM_some_length h;rw[zdn]at hl;have aO:∀i,i<z->C[o+i]? =vs[i]? :=fun i aa=>by
  have:=mapM_some_get h i i (by simp[aa]);unfold World.cell? at this;rw[af,rD]at this;simp only[hC]at this;exact this
 apply zbA;intro i;rw[zaT];split
 ·rename_i aa;rw[zaR,<-aO i aa];simp
 ·rw[zbi (by omega)]
def ae8{W:d7}(av:0<z)(h:W.cells? 0 (a.add (0*z)) z=some vs):ta W a.block=true∧a.spot=none:=by
 unfold World.cells? at h;rw[zab (zac _)]at h;have hl:=mapM_some_length h;rw[zdn]at hl;have h0:=mapM_some_get h 0 0 (by simp[av]);have aB:vs[0]? =some (vs[0]'(by omega)):=zcd (by omega);have e:(a.add (0*z)).add 0=a:=by simp[Addr.add]
 rw[aB,e]at h0;unfold World.cell? at h0;split at h0
 ·rename_i c el bk hc;split at h0
  ·cases h0
  ·rename_i af;refine⟨by unfold ta;rw[hc],?_⟩;cases s8:a.spot with
   |none=>rfl
   |some _=>rw[s8]at af;exact absurd rfl af
 ·cases h0
def aom{n:Nat}{p:Nat->α->Prop}(h:∀i,i<n->∃x,p i x):∃l:ac α,l.length=n∧∀(i:Nat) (x:α),l[i]? =some x->p i x:=by
 induction n with
 |zero=>exact⟨[],rfl,fun i x J=>by simp at J⟩
 |succ n a1=>
  obtain⟨l,h1,h2⟩:=a1 (fun i aa=>h i (by omega));obtain⟨y,ay⟩:=h n (zbp _);refine⟨l++[y],by simp[h1],fun i x J=> ?_⟩;by_cases aa:i<n
  ·rw[zbm (by omega)]at J;exact h2 i x J
  ·rw[zaW (by omega)]at J;have:i=n:=by
    have:=(zaf.1 J).1;simp at this;omega
   subst this;rw[h1,zcL]at J;simp at J;subst J;exact ay
def as1{W:d7}(uG:∀vs,oV B W o2 vs->∃x:α,dH (fun b=>(jX gs W).get b) (R x) [] (vs.map (toA W))∧Q x)
 (h:Qn B W (.aN z w o2) v) (hh:Xg W v):∃l:ac α,l.length<=B∧l.length*w<=B∧(∀x∈l,Q x)∧den (fun b=>(jX gs W).get b) (.aZ z α R l) [] (toA W v):=by
 rcases h with rfl|⟨a,n,c,rfl,h1,h2,hw,ab⟩
 ·exact⟨[],zac _,by simp,(fun x J=>by cases J),.inl ⟨rfl,rfl⟩⟩
 ·obtain⟨aH,C,el,bk,aI⟩:=hh a n c rfl;obtain⟨b,o,sp⟩:=a;simp only at aH aI;subst aH;have Xk:=(zbs.1 aI).1;obtain⟨l,aq,e2⟩:=aom (p:=fun i x=>dH (fun b=>(jX gs W).get b) (R x) [] ((((C.toList.map (toA W)).drop (o+i*z)).take z))∧Q x) (n:=n) (fun i aa=>by
   obtain⟨vs,eD,eU⟩:=ab i aa;obtain⟨x,fT,j2⟩:=uG vs eU;have:=ae7 (rD b o (i*z)) eD aI;rw[this]at fT;refine⟨x,?_,j2⟩;rw[<-zeG,<-List.map_take];exact fT)
  refine⟨l,by omega,zag (zaD _ (by omega)) hw,fun x J=> ?_,.inr ⟨W.heap.size+b,o,c,C.toList.map (toA W),el,(0,C.size+1),false,?_,by omega,alC aI,fun i x J=>(e2 i x J).1⟩⟩
  ·obtain⟨i,aa⟩:=zbP.1 J;exact(e2 i x aa).2
  ·show(if ta W b=true∧(none:am Nat)=none then Value.slice (some ⟨W.heap.size+b,o,none⟩) n c else _)=_;rw[zab ⟨by unfold ta;rw[aI],rfl⟩,aq]
def QL{W:d7}(av:0<z)(uG:∀vs,oV B W o2 vs->∃x:α,dH (fun b=>(jX gs W).get b) (R x) [] (vs.map (toA W))∧Q x)
 (h:Qn B W (.aN z w o2) v):∃l:ac α,l.length*w<=B∧(∀x∈l,Q x)∧den (fun b=>(jX gs W).get b) (.bb z α R l) [] (toA W v):=by
 by_cases hh:Xg W v
 ·obtain⟨l,_,h1,h2,d⟩:=as1 (gs:=gs) uG h hh;exact⟨l,h1,h2,.inr d⟩
 ·rcases h with rfl|⟨a,n,c,rfl,h1,h2,_,ab⟩
  ·exact absurd (fun a l c e=>by cases e) hh
  ·refine⟨[],by simp,(fun x J=>by cases J),.inl ⟨rfl,?_⟩⟩;have hb:¬(ta W a.block=true∧a.spot=none):=fun⟨aD,bg⟩=>hh fun a' l' bW e=>by
    cases e;exact⟨bg,X7 aD⟩
   cases n with
   |zero=>
    show(if ta W a.block=true∧a.spot=none then Value.slice (some ⟨W.heap.size+a.block,a.off,none⟩) 0 c else .chan none)=_;rw[zaa hb]
   |succ n=>
    obtain⟨vs,eD,_⟩:=ab 0 (zcO n);exact absurd (ae8 av (by simpa using eD)) hb
