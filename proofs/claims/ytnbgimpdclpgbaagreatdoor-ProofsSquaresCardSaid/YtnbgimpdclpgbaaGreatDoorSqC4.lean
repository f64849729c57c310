/- What the functions of the program and of the document compute, for every input, and the plain laws of it (part 4); conditions as in the statements. -/
import Derived.Sort.Defs
import Derived.Sort.AssemblyPlain
import Derived.Test.YtnbgimpdclpgbaaGreatDoorSqC3
import Derived.Test.YtnbgimpdclpgbaaGreatDoorSqS3
import Derived.Test.YtnbgimpdclpgbaaGreatDoorSqC2
import Derived.Test.YtnbgimpdclpgbaaGreatDoorSqS2
noncomputable section
set_option linter.all false
namespace Go.bC.dg
open Go.bC Sym
set_option maxRecDepth 100000
set_option maxHeartbeats 4000000
section
variable{an:eR}{K:ac dA}{own:ac aZ}{ax:Nat}{e:bP}
def Zy{n z a8:Nat}{el:co}{α:Type}{ah:α->ac ag}{w:ac α}{x:ce}{d:Tmp}{aA:ac Tmp}{back:Nat}{l:ac (bj×cn)}{a9:ac aZ}{E:bP}{aT F:Nat}(I:dx an K l a9 ((d,.aH a8 z 0 n n)::E) aT F own ax ((d,.aH a8 z 0 n n)::e))
 (eF:a5 (dZ aA E) x=some (.p a8 0):=by rfl) (aw:a9[a8]? =some (.a el false z α ah w):=by rfl) (aj:0<n:=by decide) (ay:back<aT:=by decide):dx an K ((⟨some d,.wc n z x none none none,none⟩,.read back aA)::l) a9 E aT F own ax e:=
 l2 ay (λN u st o D _ Z=>by
  obtain⟨b,Y,G⟩:=D.ar eF;obtain⟨ab,a0,cJ⟩:=Z a8 _ b aw j Y;refine⟨_,arP,λL _ T=>?_⟩;show s4 n z x none none none an.call o L=_;unfold s4 ak.fI;rw[G,lx,Sym.ed,((T a8 _ b aw j Y).trans a0),su,su,su];congr 2;rw[o9 R,nB,hU]
  first|rfl|exact U (λk=>some<|Addr.mk b k none) R) I
end
def Zz{a b dm oN:aZ}{rest:ac aZ}(aC:pf [0,1] dm dm)(aI:pf [0,1] oN oN):Cj [0,1] (a::b::rest) (dm::oN::rest) [dm,oN]:=by
 refine⟨j,λJ V=>?_,λi k W N E=>?_⟩
 .match J with
  |0=>exact absurd au V
  |1=>exact absurd au V
  |J+2=>rfl
 .match i with
  |0=>cases N;cases E;exact⟨_,j,aC⟩
  |1=>cases N;cases E;exact⟨_,j,aI⟩
  |i+2=>simp at N
section
variable{X:Ctx}{aL:ao cX}{br:d7->dV}{a6 n:Nat}{fn:d7}{a1:bb}{i0:ac Nat}{aq:ak}{Q:c6->cb->Prop}{K:ac dA}{rest:ac aZ}{ax:Nat}{e:bP}{g:d7}{S:gv}{a b dm oN gw e7:aZ}
def ZA(aC:kG [0,1] gw a)(aI:kG [0,1] e7 b):Sub 0 [0,1] ⟨a::b::rest,ax,e⟩ ⟨[gw,e7],2,[]⟩:=
 ⟨au,j,⟨⟨_,j,aC⟩,⟨_,j,aI⟩,az⟩,az,j⟩
theorem amG(aQ:et X g S.spec){bO:ac ce}{T:ac ag}{d:Tmp}{xs:ac (bj×cn)}{a9:ac aZ}{E:bP}{aT G:Nat}(l:S.L)(hp:S.pre l)
 (k:dx (gI X aL br n a6 fn a1 i0 aq Q) K xs (a9.map λ_=>.x) (jb d E) (aT+1) ax (dm::oN::rest) ax ((d,j7 [0,1]<|S.res l)::e)) (j:S.own l=[gw,e7]:=by rfl) (M:S.bg l=[dm,oN]:=by rfl)
 (aC:kG [0,1] gw a:=by exact sx) (aI:kG [0,1] e7 b:=by exact sx)
 (cu:pf [0,1] dm dm:=by exact sx) (I:pf [0,1] oN oN:=by exact sx)
 (bR:hr e bO=some T:=by rfl) (he:T=lA [0,1] (S.args l):=by rfl) (O:br g=S.spec.K:=by rfl) (cK:S.hp a1:=by first|exact az|assumption):
 dx (gI X aL br n a6 fn a1 i0 aq Q) K ((⟨some d,.call (.func g) bO,none⟩,.dI)::xs) a9 E aT G (a::b::rest) ax e:=
 Lk (λN u st o F Z D=>RT aQ [0,1] l hp cK (by rw[j];exact ZA aC aI) (by rw[M];exact Zz cu I) bR he O F Z D) k
end
def ZB:bl 109 (kJ λ((l,m):ac Nat×ac Nat)=>([.a 197 false 1 Nat jB l,.a 197 false 1 Nat jB m],[.aH 0 1 0 l.length l.length,.aH 1 1 0 m.length m.length],l.length=m.length/\l.length<=1000000,[.a 197 false 1 Nat jB l,.a 197 false 1 Nat jB m],.aa<|h8 l m)):=by
 refine k9 [Zw] Tk.1 ?_;intro⟨l,m⟩ ⟨V,aB⟩ H i0 aq af;obtain⟨G,o,rfl⟩:∃b c,i0=[b,c]:=by
  match i0,af with
  |[b,c],_=>exact⟨b,c,j⟩
 refine rf (λi=>i<=l.length/\h8 (l.drop i) (m.drop i)=h8 l m) (λ(i:Nat)=>⟨[.a 197 false 1 Nat jB l,.a 197 false 1 Nat jB m],2,[(0,.aH 0 1 0 l.length l.length),(1,.aH 1 1 0 m.length m.length),(9,.aH 0 1 0 l.length l.length),(10,.aa l.length),(11,.aa i)]⟩) (λi=>l.length-i) [0,1] 0 apR ?_;rintro i ⟨af,W⟩;have fin:∀{c:Int},c=h8 l m->ag.aa c=ag.aa (h8 l m):=λh=>by rw[h]
 refine I 3 ?_;by_cases h:i<l.length
 .have hm:i<m.length:=by omega
  rw[fj h,fj hm]at W;replace W:(if lf l[i] m[i]=0 then h8 (l.drop<|i+1) (m.drop<|i+1)else lf l[i] m[i])=h8 l m:=W;refine cM 12<|I 11<|nE ?_;refine oy l[i] (show l[0+i]? =some l[i] by rw[hU];exact aO h) ?_;refine I 11<|cI 19<|I 9<|nE ?_;refine oy m[i] (show m[0+i]? =some m[i] by rw[hU];exact aO hm) ?_;refine I 7<|aS Zw ((l[i]:Int),(m[i]:Int)) az<|I 7 ?_;by_cases F:lf l[i] m[i]=0
  .rw[aD F]at W;exact cI 28<|I 10<|bB [0,1] (i+1) ⟨R,h,W⟩ bk
  .rw[av F]at W;exact cM 28<|I 15<|bn att
 .refine cI 12 ?_;rw[kX R]at W;exact I 17<|cI 35<|I 11<|bn att
def kR:bl 108 (bV λ((a,b):aE×aE)=>([mF a,mF b],True,.aa<|h8 a.n b.n)):=by
 apply bL [ZB] Tj.1;intro⟨a,b⟩ _ H aq
 repeat(first|(refine ks 0 jB a.n ?_)|(refine ks 1 jB b.n ?_)|refine fE j ?_)
 refine Zy ?_;refine Zy ?_;exact amG ZB (a.n,b.n) ⟨j,by show 6<=1000000;decide⟩<|I 4<|eD
end Go.bC.dg
namespace Go.bC.dg
open Go.bC
set_option maxRecDepth 100000
set_option maxHeartbeats 4000000
def Nz:bl 188 xI:=by
 refine bL [(305,xI)] VM.1 ?_;intro x eF N aq;exact I 12<|aS Ys x eF<|I 4<|eD
def hg(k:aE):ac ag:=k.n.flatMap jB
instance:Inhabited aE:=⟨aE.zero⟩
abbrev c3(d:bi aE):aZ:=.a 197 true 6 aE hg d.toList
variable{J:Nat}{c:bi aE}{i a af f r:Nat}{d:bi aE}
def eN:ag:=.fn (.func 108) [] []
def swp_size(c:bi aE)(i J:Nat):(Go.Sort.swp c i J).size=c.size:=by rw[Go.Sort.swp];simp
def nV(af:i<c.toList.length)(ba:J<c.toList.length):(c.toList.set i c.toList[J]).set J c.toList[i]=(Go.Sort.swp c i J).toList:=by
 have A:i<c.size:=by rwa [<-hS]
 have L:J<c.size:=by rwa [<-hS]
 rw[Go.Sort.swp,Ov,Ov,getElem!_pos c J L,getElem!_pos c i A];rfl
def amH(h:i<J):Go.Sort.reverseLoop i J c=Go.Sort.reverseLoop (i+1) (J-1) (Go.Sort.swp c i J):=by
 rw[Go.Sort.reverseLoop.eq_def i J c,aD h]
def amI(h:¬i<J):Go.Sort.reverseLoop i J c=c:=by
 rw[Go.Sort.reverseLoop.eq_def i J c,av h]
def ZC:bl 300 (kJ λ((d,a,b):bi aE×Nat×Nat)=>([c3 d],[.aH 0 6 0 d.size d.size,.aa (a:Nat),.aa (b:Nat),eN],a<b/\b<=d.size/\d.size<=1000000,[c3<|Go.Sort.reverseRange d a b],.bc [])):=by
 refine k9 [] Ui.1 ?_;intro⟨d,a,b⟩ ⟨(Y:a<b),(C:b<=d.size),(bZ:d.size<=_)⟩ H i0 aq af;obtain⟨G,rfl⟩:∃b,i0=[b]:=mU.1 af;show bM.ok _ ⟨_,_,⟨[c3 d],1,[(0,.aH 0 6 0 d.size d.size),(1,.aa (a:Nat)),(2,.aa (b:Nat)),(3,eN)]⟩⟩;refine I 10<|cj 12 ((b-1:Nat):Int)<|rf (L:=Nat×Nat×bi aE) (λ(i,J,c)=>i<=d.size/\J<d.size/\c.size=d.size/\Go.Sort.reverseLoop i J c=Go.Sort.reverseRange d a b) (λ((i:Nat),(J:Nat),(c:bi aE))=>⟨[c3 c],1,[(0,.aH 0 6 0 d.size d.size),(8,.aa (i:Nat)),(9,.aa (J:Nat))]⟩) (λx=>x.2.1-x.1) [0] (a,b-1,d) ⟨R,R,j,j⟩ ?_;rintro⟨i,J,c⟩ ⟨t,V,W,o⟩;refine I 6 ?_;by_cases h:i<J
 .refine cM 15 ?_;have q:c.toList.length=d.size:=by rw[hS];exact W
  refine I 12<|cP j j<|ey c.toList[J] (aO R) ?_;refine I 2<|cP j j<|ey c.toList[i] (aO R) ?_;refine cP j j (il c.toList[J] (w:=c.toList[i]) (aO R) ?_) (ba:=R);refine I 2<|cP j j (il (l:=c.toList.set i c.toList[J]) (ah:=hg) c.toList[i] (w:=c.toList[J]) (show(c.toList.set i c.toList[J])[J]? =some c.toList[J] by rw[nq R];exact aO R) ?_) (ba:=R);refine I 15 ?_;have M:=nV (c:=c) (i:=i) (J:=J) R R;refine bB [0] (i+1,J-1,Go.Sort.swp c i J) ⟨by show J-1-(i+1)<J-i;omega,R,R,by rw[swp_size];exact W,(amH h).symm.trans o⟩ atX
 .refine cI 15 ?_;have o:c=Go.Sort.reverseRange d a b:=(amI h).symm.trans o;subst o;exact I 7<|bn aqn
def aY(x y:aE):Bool:=decide (aE.lt x y)
def ZD{b:Nat}(h:i<b):Go.Sort.insOuter aY a b i c=Go.Sort.insOuter aY a b (i+1) (Go.Sort.insInner aY a i c):=by
 rw[Go.Sort.insOuter.eq_def,aD h]
def amJ{w:bi aE}(h:J<=a):Go.Sort.insInner aY a J w=w:=by
 cases J with
 |zero=>rfl
 |succ J=>rw[Go.Sort.insInner];rw[av];intro g;rw[c1]at g;exact absurd (iY g.1) R
def amK{w:bi aE}(h:0<J)(aI:aY w[J]! w[J-1]! =false):Go.Sort.insInner aY a J w=w:=by
 obtain⟨J,rfl⟩:∃k,J=k+1:=⟨J-1,R⟩;replace aI:aY w[J+1]! w[J]! =false:=aI;rw[Go.Sort.insInner,aI,ym,av ai]
def amL{w:bi aE}(h:a<J)(aI:aY w[J]! w[J-1]! =true):Go.Sort.insInner aY a J w=Go.Sort.insInner aY a (J-1) (Go.Sort.swp w J<|J-1):=by
 obtain⟨J,rfl⟩:∃k,J=k+1:=⟨J-1,R⟩;replace aI:aY w[J+1]! w[J]! =true:=aI;rw[Go.Sort.insInner,aI,DV,aD<|cm h];rfl
def HO:bl 296 (kJ λ((d,a,b):bi aE×Nat×Nat)=>([c3 d],[.aH 0 6 0 d.size d.size,.aa (a:Nat),.aa (b:Nat),eN],a<=b/\b<=d.size/\d.size<=1000000,[c3<|Go.Sort.insertionSort aY d a b],.bc [])):=by
 refine k9 [kR] L6.1 ?_;intro⟨d,a,b⟩ ⟨(D:a<=b),(C:b<=d.size),(bZ:d.size<=_)⟩ H i0 aq af;obtain⟨E,rfl⟩:∃b,i0=[b]:=mU.1 af;show bM.ok _ ⟨_,_,⟨[c3 d],1,[(0,.aH 0 6 0 d.size d.size),(1,.aa (a:Nat)),(2,.aa (b:Nat)),(3,eN)]⟩⟩;refine I 4<|cj 11 ((a+1:Nat):Int)<|rf (L:=Nat×bi aE) (λ(i,c)=>i<=d.size+1/\c.size=d.size/\Go.Sort.insOuter aY a b i c=Go.Sort.insertionSort aY d a b) (λ((i:Nat),(c:bi aE))=>⟨[c3 c],1,[(0,.aH 0 6 0 d.size d.size),(1,.aa (a:Nat)),(2,.aa (b:Nat)),(3,eN),(8,.aa (i:Nat))]⟩) (λx=>d.size+1-x.1) [0] (a+1,d) ⟨R,j,j⟩ ?_;rintro⟨i,c⟩ ⟨af,W,q⟩;refine I 6 ?_;by_cases h:i<b
 .refine cM 14<|rf (L:=Nat×bi aE) (λ(J,w)=>J<=i/\w.size=d.size/\Go.Sort.insInner aY a J w=Go.Sort.insInner aY a i c) (λ((J:Nat),(w:bi aE))=>⟨[c3 w],1,[(0,.aH 0 6 0 d.size d.size),(1,.aa (a:Nat)),(2,.aa (b:Nat)),(3,eN),(8,.aa (i:Nat)),(9,.aa (J:Nat))]⟩) (λx=>x.1) [0] (i,c) ⟨c5 _,W,j⟩ ?_;rintro⟨J,w⟩ ⟨V,F,A⟩;refine I 7 ?_;by_cases Y:a<J
  .refine dF 21 (.b true) j j (bK<|cm R) ?_;have T:w.toList.length=d.size:=by rw[hS];exact F
   refine I 7<|cP j j (I 1<|ey w.toList[J] (aO R) ?_) (ba:=R);refine I 7<|dF 29 (.aa ((J-1:Nat):Int)) j j (eV R)<|cP j j (I 1<|ey w.toList[J-1] (aO R) ?_) (ba:=R);refine I 1<|oz kR (w.toList[J],w.toList[J-1]) az<|I 5 ?_;have o:w[J]! =w.toList[J]:=(getElem!_pos w J R).trans j;have t:w[J-1]! =w.toList[J-1]:=(getElem!_pos w (J-1) R).trans j;by_cases G:h8 w.toList[J].n w.toList[J-1].n<0
   .refine v1 34 G<|I 11<|dF 44 (.aa ((J-1:Nat):Int)) j j (eV R)<|cP j j (ey w.toList[J-1] (aO R) ?_) (ba:=R);refine I 2<|cP j j (ey w.toList[J] (aO R) ?_) (ba:=R);refine cP j j (il w.toList[J-1] (w:=w.toList[J]) (aO R) ?_) (ba:=R);refine I 3<|dF 41 (.aa ((J-1:Nat):Int)) j j (eV R)<|cP j j (il (l:=w.toList.set J w.toList[J-1]) (ah:=hg) w.toList[J] (w:=w.toList[J-1]) (show(w.toList.set J w.toList[J-1])[J-1]? =some w.toList[J-1] by rw[nq R];exact aO R) ?_) (ba:=R);refine I 8 ?_;have M:=nV (c:=w) (i:=J) (J:=J-1) R R;refine bB [0] (J-1,Go.Sort.swp w J<|J-1) ⟨by show J-1<J;omega,R,by rw[swp_size];exact F,by rw[<-A,amL (J:=J) Y<|by rw[o,t];exact cm<|(C9 _ _).1 G]⟩ atX
   .refine v0 34 G ?_;have u:Go.Sort.insInner aY a i c=w:=by
     rw[<-A,amK R<|by rw[o,t];exact cp λg=>G<|(C9 _ _).2 g]
    exact I 12<|bB [0] (i+1,w) ar2 bk
  .refine dF 21 (.b false) j j (bK<|cp R)<|I 27 ?_;have u:Go.Sort.insInner aY a i c=w:=by rw[<-A,amJ R]
   exact bB [0] (i+1,w) ar2 bk
 .refine cI 14 ?_;have q:c=Go.Sort.insertionSort aY d a b:=by rw[<-q,Go.Sort.insOuter.eq_def,av h]
  subst q;exact I 7<|bn aqn
def NA(h:¬2*r+1<af):Go.Sort.siftDown aY af f r d=d:=by
 rw[Go.Sort.siftDown.eq_def,sR R]
theorem NB{ff:Nat}(h:2*r+1<af)(F:(ff=2*r+2/\2*r+2<af/\aY d[f+(2*r+1)]! d[f+(2*r+2)]! =true)\/(ff=2*r+1/\¬(2*r+2<af/\aY d[f+(2*r+1)]! d[f+(2*r+2)]! =true))):
 Go.Sort.siftDown aY af f r d=if aY d[f+r]! d[f+ff]! =true then Go.Sort.siftDown aY af f ff (Go.Sort.swp d (f+r)<|f+ff)else d:=by
 rw[Go.Sort.siftDown.eq_def,dif_neg R];obtain⟨rfl,Y,G⟩|⟨rfl,Y⟩:=F
 .rw[aD apt,sR Y];cases aY d[f+r]! d[f+(2*r+2)]! <;>rfl
 .rw[av apt];cases aY d[f+r]! d[f+(2*r+1)]! <;>rfl
section
variable{p:aE->Bool}{d:bi aE}{i J:Nat}
def NC(h:i<=J)(hp:p d[i]! =true):Go.Sort.scanUp p d J i=Go.Sort.scanUp p d J (i+1):=by
 rw[Go.Sort.scanUp.eq_def p d J i,hp,DV,aD<|cm h]
def ND(h:¬i<=J):Go.Sort.scanUp p d J i=i:=by
 rw[Go.Sort.scanUp.eq_def p d J i,av];rw[c1];exactλg=>h<|iY g.1
def NF(hp:p d[i]! =false):Go.Sort.scanUp p d J i=i:=by
 rw[Go.Sort.scanUp.eq_def p d J i,hp,ym,av ai]
def NG(bX:0<i)(h:i<=J)(hp:p d[J]! =true):Go.Sort.scanDown p d i J=Go.Sort.scanDown p d i (J-1):=by
 obtain⟨J,rfl⟩:∃k,J=k+1:=⟨J-1,R⟩;rw[Go.Sort.scanDown,hp,DV,aD<|cm h];rfl
def NH(h:¬i<=J):Go.Sort.scanDown p d i J=J:=by
 cases J with
 |zero=>rfl
 |succ J=>
  rw[Go.Sort.scanDown,av];rw[c1];exactλg=>h<|iY g.1
def NI(hp:p d[J]! =false):Go.Sort.scanDown p d i J=J:=by
 cases J with
 |zero=>rfl
 |succ J=>rw[Go.Sort.scanDown,hp,ym,av ai]
end
section
variable{a i J i2 gd:Nat}{d:bi aE}
def amM(aC:Go.Sort.scanUp (λx=>aY x d[a]!) d J i=i2)(aI:Go.Sort.scanDown (λx=> !aY x d[a]!) d i2 J=gd)(h:¬i2<=gd):Go.Sort.partLoop aY a i J d=(gd,d):=by
 rw[Go.Sort.partLoop.eq_def];dsimp only;rw[aC,aI,aD R]
def amN(aC:Go.Sort.scanUp (λx=>aY x d[a]!) d J i=i2)(aI:Go.Sort.scanDown (λx=> !aY x d[a]!) d i2 J=gd)(h:i2<=gd)(af:i<=i2)(ba:gd<=J)(bX:0<i):Go.Sort.partLoop aY a i J d=Go.Sort.partLoop aY a (i2+1) (gd-1) (Go.Sort.swp d i2 gd):=by
 rw[Go.Sort.partLoop.eq_def aY a i J d];dsimp only;rw[aC,aI,av R,sR R]
def amO(aC:Go.Sort.scanUp (λx=> !aY d[a]! x) d J i=i2)(aI:Go.Sort.scanDown (λx=>aY d[a]! x) d i2 J=gd)(h:¬i2<=gd):Go.Sort.partEqLoop aY a i J d=(i2,d):=by
 rw[Go.Sort.partEqLoop.eq_def];dsimp only;rw[aC,aI,aD R]
def amP(aC:Go.Sort.scanUp (λx=> !aY d[a]! x) d J i=i2)(aI:Go.Sort.scanDown (λx=>aY d[a]! x) d i2 J=gd)(h:i2<=gd)(af:i<=i2)(ba:gd<=J)(bX:0<i):Go.Sort.partEqLoop aY a i J d=Go.Sort.partEqLoop aY a (i2+1) (gd-1) (Go.Sort.swp d i2 gd):=by
 rw[Go.Sort.partEqLoop.eq_def aY a i J d];dsimp only;rw[aC,aI,av R,sR R]
end
section
variable{b i:Nat}{d:bi aE}
def amQ(h:i<b)(hp:aY d[i]! d[i-1]! =false):Go.Sort.scanSorted aY d b i=Go.Sort.scanSorted aY d b (i+1):=by
 rw[Go.Sort.scanSorted.eq_def aY d b i,hp,aD];rw[c1];exact⟨cm h,j⟩
def amR(h:¬i<b):Go.Sort.scanSorted aY d b i=i:=by
 rw[Go.Sort.scanSorted.eq_def aY d b i,av];rw[c1];exactλg=>h<|iY g.1
def amS(hp:aY d[i]! d[i-1]! =true):Go.Sort.scanSorted aY d b i=i:=by
 rw[Go.Sort.scanSorted.eq_def aY d b i,hp,av];rw[c1];exactλg=>by cases g.2
def amT(bX:0<i)(hp:aY d[i]! d[i-1]! =false):Go.Sort.shiftDown aY i d=d:=by
 obtain⟨i,rfl⟩:∃k,i=k+1:=⟨i-1,R⟩;have hp:aY d[i+1]! d[i]! =false:=hp;rw[Go.Sort.shiftDown,hp];rfl
def amU(bX:0<i)(hp:aY d[i]! d[i-1]! =true):Go.Sort.shiftDown aY i d=Go.Sort.shiftDown aY (i-1) (Go.Sort.swp d i<|i-1):=by
 obtain⟨i,rfl⟩:∃k,i=k+1:=⟨i-1,R⟩;have hp:aY d[i+1]! d[i]! =true:=hp;rw[Go.Sort.shiftDown,hp];rfl
def amV(h:¬i<b):Go.Sort.shiftUp aY b i d=d:=by
 rw[Go.Sort.shiftUp.eq_def aY b i d,av h]
def amW(hp:aY d[i]! d[i-1]! =false):Go.Sort.shiftUp aY b i d=d:=by
 rw[Go.Sort.shiftUp.eq_def aY b i d,hp];split<;>rfl
def amX(h:i<b)(hp:aY d[i]! d[i-1]! =true):Go.Sort.shiftUp aY b i d=Go.Sort.shiftUp aY b (i+1) (Go.Sort.swp d i<|i-1):=by
 rw[Go.Sort.shiftUp.eq_def aY b i d,aD h,hp,av ai]
end
variable{x y:aE}
def pv(h:h8 x.n y.n<0):aY x y=true:=cm<|(C9 _ _).1 h
def pw(h:¬h8 x.n y.n<0):aY x y=false:=cp λg=>h<|(C9 _ _).2 g
def eI(h:i<c.toList.length):c[i]! =c.toList[i]:=(getElem!_pos c i R).trans j
def z8:Go.Sort.SWO aY where
 irrefl:=λx=>cp (aE.nK x)
 trans:=λx y z h D=>cm (aE.xt (iY h)<|iY D)
 ntrans:=λx y z h D=>cp λg=>by
  have D:=of_decide_eq_false D;by_cases e:x=y
  .subst e;exact D g
  .have Y:=aE.CD (of_decide_eq_false h) e;exact D<|aE.xt Y g
def amY{u:ac aE}{f:Poly}(M:f.dU)(hp:u.Perm (f.map (·.1))):Go.Sort.sort aY u.toArray=(f.map (·.1)).toArray:=by
 have⟨⟨Y,_,G⟩,A⟩:=Go.Sort.sort_sorts aY z8 u.toArray;generalize Go.Sort.sort aY u.toArray=d at *;rw[Array.extract_size,<-Y,Array.extract_size]at G;rw[<-Y]at A;have e:d.toList=f.map (·.1):=by
  refine List.Perm.eq_of_pairwise (le:=λx y=>aY y x=false) (λa b _ _ h D=>?_) ?_ ?_ (G.trans hp)
  .have h:=of_decide_eq_false h;by_cases e:a=b
   .exact e
   .exact absurd (aE.CD (of_decide_eq_false D) e) h
  .rw[lk];intro i J af V O;have o:i<d.size:=by rwa [<-hS]
   have L:J<d.size:=by rwa [<-hS]
   have:=A i J (c8 _) O L
   rwa [eI af,eI V]at this
  .refine oS.2<|M.imp λ{p q} h=>cp λg=>aE.nK _<|aE.xt h g
 rw[<-e]
def mN(c:bi aE)(a b:Nat)(dp:Bool):bi aE:=if(!dp)=true then Go.Sort.breakPatterns c a b else c
def px(l:Nat)(dp:Bool):Nat:=if(!dp)=true then l-1 else l
def ma(d:bi aE)(a b:Nat):bi aE×Nat×Go.Sort.Hint:=
 (if(Go.Sort.choosePivot aY d a b).2= .decreasing then Go.Sort.reverseRange d a b else d,
  if(Go.Sort.choosePivot aY d a b).2= .decreasing then(b-1)-((Go.Sort.choosePivot aY d a b).1-a)else(Go.Sort.choosePivot aY d a b).1,
  if(Go.Sort.choosePivot aY d a b).2= .decreasing then Go.Sort.Hint.increasing else(Go.Sort.choosePivot aY d a b).2)
def lg(x:bi aE×Nat×Go.Sort.Hint)(a b:Nat)(dp wp:Bool):bi aE×Bool:=
 if(dp&&wp&&decide (x.2.2= .increasing))=true then Go.Sort.partialInsertionSort aY x.1 a b else(x.1,false)
section
variable{c:bi aE}{a b l:Nat}{dp wp:Bool}
def ZE(h:b-a<=12):Go.Sort.pdq aY c a b l dp wp=Go.Sort.insertionSort aY c a b:=by
 rw[Go.Sort.pdq.eq_def,aD h]
def amZ(h:¬b-a<=12)(aB:l=0):Go.Sort.pdq aY c a b l dp wp=Go.Sort.heapSort aY c a b:=by
 rw[Go.Sort.pdq.eq_def,av h,aD aB]
def HP(h:¬b-a<=12)(aB:¬l=0):Go.Sort.pdq aY c a b l dp wp=
 if(lg (ma (mN c a b dp) a b) a b dp wp).2=true then(lg (ma (mN c a b dp) a b) a b dp wp).1 else
 if(decide (a>0)&& !aY (lg (ma (mN c a b dp) a b) a b dp wp).1[a-1]! (lg (ma (mN c a b dp) a b) a b dp wp).1[(ma (mN c a b dp) a b).2.1]!)=true then
  match Go.Sort.partitionEqual aY (lg (ma (mN c a b dp) a b) a b dp wp).1 a b (ma (mN c a b dp) a b).2.1 with
  |(ef,d4)=>if U:a<ef/\ef<=b then Go.Sort.pdq aY d4 ef b (px l dp) dp wp else d4
 else
  match Go.Sort.partition aY (lg (ma (mN c a b dp) a b) a b dp wp).1 a b (ma (mN c a b dp) a b).2.1 with
  |(ef,ap,d4)=>if U:a<=ef/\ef<b then
   if ef-a<b-ef then
    Go.Sort.pdq aY (Go.Sort.pdq aY d4 a ef (px l dp) true true) (ef+1) b (px l dp) (decide (ef-a>=(b-a)/8)) ap
   else
    Go.Sort.pdq aY (Go.Sort.pdq aY d4 (ef+1) b (px l dp) true true) a ef (px l dp) (decide (b-ef>=(b-a)/8)) ap
   else d4:=by
 rw[Go.Sort.pdq.eq_def aY c a b l dp wp,av h,av aB];rfl
section
variable{d2 d3 d4:bi aE}{gN ef:Nat}{jE:Go.Sort.Hint}{ap:Bool}(h:¬b-a<=12)(aB:¬l=0)(eF:ma (mN c a b dp) a b=(d2,gN,jE))
include h aB eF
def am0(hp:lg (d2,gN,jE) a b dp wp=(d3,true)):Go.Sort.pdq aY c a b l dp wp=d3:=by
 rw[HP h aB,eF,hp];rfl
theorem am1(hp:lg (d2,gN,jE) a b dp wp=(d3,false))(bR:0<a)(aw:aY d3[a-1]! d3[gN]! =false)(he:Go.Sort.partitionEqual aY d3 a b gN=(ef,d4))(I:a<ef/\ef<=b):Go.Sort.pdq aY c a b l dp wp=Go.Sort.pdq aY d4 ef b (px l dp) dp wp:=by
 rw[HP h aB,eF,hp];dsimp only;rw[av ai,aw,aD apt,he,sR I]
theorem am2(hp:lg (d2,gN,jE) a b dp wp=(d3,false))(aj:¬(0<a/\aY d3[a-1]! d3[gN]! =false))(he:Go.Sort.partition aY d3 a b gN=(ef,ap,d4))(I:a<=ef/\ef<b)(aW:ef-a<b-ef):Go.Sort.pdq aY c a b l dp wp=Go.Sort.pdq aY (Go.Sort.pdq aY d4 a ef (px l dp) true true) (ef+1) b (px l dp) (decide (ef-a>=(b-a)/8)) ap:=by
 rw[HP h aB,eF,hp];dsimp only;rw[av ai,av apt,he,sR I,aD aW]
theorem am3(hp:lg (d2,gN,jE) a b dp wp=(d3,false))(aj:¬(0<a/\aY d3[a-1]! d3[gN]! =false))(he:Go.Sort.partition aY d3 a b gN=(ef,ap,d4))(I:a<=ef/\ef<b)(aW:¬ef-a<b-ef):Go.Sort.pdq aY c a b l dp wp=Go.Sort.pdq aY (Go.Sort.pdq aY d4 (ef+1) b (px l dp) true true) a ef (px l dp) (decide (b-ef>=(b-a)/8)) ap:=by
 rw[HP h aB,eF,hp];dsimp only;rw[av ai,av apt,he,sR I,av aW]
end
open Go.Sort in
def am4(Y:a<=b)(ay:b<=c.size):PermIn a b c (mN c a b dp):=by
 rw[mN];split
 .exact breakPatterns_holds c a b Y ay
 .exact permIn_refl c a b
open Go.Sort in
def am5(Y:a<b)(ay:b<=c.size):PermIn a b c (ma c a b).1/\a<=(ma c a b).2.1/\(ma c a b).2.1<b:=by
 have F:=choosePivot_holds aY c a b Y;rw[ma];dsimp only;split
 .exact⟨reverseRange_holds c a b R ay,R,R⟩
 .exact⟨permIn_refl c a b,F⟩
open Go.Sort in
def am6{x:bi aE×Nat×Hint}(Y:a<b)(ay:b<=x.1.size)(F:Below aY a b x.1):PermIn a b x.1 (lg x a b dp wp).1:=by
 rw[lg];split
 .exact(partialInsertionSort_holds z8 x.1 a b Y ay F).1
 .exact permIn_refl x.1 a b
end
section
variable{an:eR}{K:ac dA}{own:ac aZ}{ax:Nat}{e:bP}{c:bf}
variable{P:Prop}{bZ:Decidable P}
theorem vC(t:Nat)(h:¬P)(k:bM.ok an ⟨K,c,⟨own,ax,(t,.b true)::e⟩⟩)(aB:dn e t=some (.b<|!decide P):=by rfl)(aQ:c.nD=false:=by rfl):bM.ok an ⟨K,c,⟨own,ax,e⟩⟩:=aJ t (.b true) aB apt k aQ
theorem vD(t:Nat)(h:P)(k:bM.ok an ⟨K,c,⟨own,ax,(t,.b false)::e⟩⟩)(aB:dn e t=some (.b<|!decide P):=by rfl)(aQ:c.nD=false:=by rfl):bM.ok an ⟨K,c,⟨own,ax,e⟩⟩:=aJ t (.b false) aB apt k aQ
def xY(t n:Nat){m:Nat}{b:Int}(k:bM.ok an ⟨K,c,⟨own,ax,(t,.aa ((m/n:Nat):Int))::e⟩⟩)(aB:dn e t=some (.aa<|IntKind.i64.wrap<|Int.tdiv (m:Int) b):=by rfl)(ay:b=(n:Int):=by rfl)(hm:m<9223372036854775808:=by omega)(aQ:c.nD=false:=by rfl):bM.ok an ⟨K,c,⟨own,ax,e⟩⟩:=aJ t _ aB (by
 subst ay;have Y:Int.tdiv (m:Int) n=↑(m/n):=rfl;have G:=ki m n;obtain⟨q,E⟩:∃q,q=m/n:=dN;rw[Y];rw[gn R R]) k aQ
end
variable{b s p i2:Nat}
def NJ:bl 376 (kJ λ((d,bm,af,f):bi aE×Nat×Nat×Nat)=>([c3 d],[.aH 0 6 0 d.size d.size,.aa (bm:Nat),.aa (af:Nat),.aa (f:Nat),eN],bm<=d.size/\f+af<=d.size/\d.size<=1000000,[c3<|Go.Sort.siftDown aY af f bm d],.bc [])):=by
 refine k9 [kR] Uv.1 ?_;intro⟨d,bm,af,f⟩ ⟨(T:bm<=d.size),(u:f+af<=d.size),(bZ:d.size<=_)⟩ H i0 aq o;obtain⟨O,rfl⟩:∃b,i0=[b]:=mU.1 o;show bM.ok _ ⟨_,_,⟨[c3 d],1,[(0,.aH 0 6 0 d.size d.size),(1,.aa (bm:Nat)),(2,.aa (af:Nat)),(3,.aa (f:Nat)),(4,eN)]⟩⟩;refine rf (L:=Nat×bi aE) (λ(r,c)=>r<=d.size/\c.size=d.size/\Go.Sort.siftDown aY af f r c=Go.Sort.siftDown aY af f bm d) (λ((r:Nat),(c:bi aE))=>⟨[c3 c],1,[(0,.aH 0 6 0 d.size d.size),(2,.aa (af:Nat)),(3,.aa (f:Nat)),(4,eN),(10,.aa (r:Nat))]⟩) (λx=>af-x.1) [0] (bm,d) ⟨T,j,j⟩ ?_;rintro⟨r,c⟩ ⟨D,W,E⟩;have q:c.toList.length=d.size:=by rw[hS];exact W
 refine I 5<|cj 14 ((2*r:Nat):Int)<|I 1<|cj 15 ((2*r+1:Nat):Int)<|I 9 ?_;by_cases h:2*r+1<af
 case neg=>
  refine cM 18 ?_;have E:c=Go.Sort.siftDown aY af f bm d:=(NA h).symm.trans E;subst E;exact I 8<|bn aqn
 refine cI 18 ?_
 iterate 4 refine fE j ?_
 refine zn (L:=Nat) (λff=>(ff=2*r+2/\2*r+2<af/\aY c[f+(2*r+1)]! c[f+(2*r+2)]! =true)\/(ff=2*r+1/\¬(2*r+2<af/\aY c[f+(2*r+1)]! c[f+(2*r+2)]! =true))) (λ(ff:Nat)=>⟨[c3 c],1,[(0,.aH 0 6 0 d.size d.size),(2,.aa (af:Nat)),(3,.aa (f:Nat)),(4,eN),(10,.aa (r:Nat)),(11,.aa (ff:Nat))]⟩) ?_ ?_
 .refine I 4<|ww 20 ((2*r+2:Nat):Int)<|I 3 ?_;by_cases G:2*r+2<af
  .refine eJ 23 (show((2*r+2:Nat):Int)<(af:Int) by omega)<|I 10 (ww 28 ((f+(2*r+1):Nat):Int)<|I 1<|cP j j (I 1<|ey c.toList[f+(2*r+1)] (aO R) ?_) (ba:=R));refine I 8<|ww 34 ((f+(2*r+1):Nat):Int)<|I 2 (ww 35 ((f+(2*r+2):Nat):Int)<|I 1<|cP j j (I 1<|ey c.toList[f+(2*r+2)] (aO R) ?_) (ba:=R));refine I 1<|oz kR (c.toList[f+(2*r+1)],c.toList[f+(2*r+2)]) az<|I 5 ?_;by_cases A:h8 c.toList[f+(2*r+1)].n c.toList[f+(2*r+2)].n<0
   .exact v1 40 A<|I 4<|cj 42 ((2*r+2:Nat):Int)<|I 2<|dD [0] (2*r+2) (.inl ⟨j,G,by rw[eI R,eI R];exact pv A⟩)
   .exact v0 40 A<|I 2<|dD [0] (2*r+1) (.inr ⟨j,λg=>by have:=g.2;rw[eI R,eI R,pw A]at this;cases this⟩)
  .exact dJ 23 (show¬((2*r+2:Nat):Int)<(af:Int) by omega)<|I 21<|dD [0] (2*r+1) (.inr ⟨j,λg=>G g.1⟩)
 rintro ff C;have F:=NB h C;have t:r<ff/\ff<af:=R
 refine I 8<|ww 47 ((f+r:Nat):Int)<|cP j j (ey c.toList[f+r] (aO R) ?_) (ba:=R);refine I 4<|ww 53 ((f+ff:Nat):Int)<|cP j j (ey c.toList[f+ff] (aO R) ?_) (ba:=R);refine oz kR (c.toList[f+r],c.toList[f+ff]) az<|I 4 ?_;by_cases A:h8 c.toList[f+r].n c.toList[f+ff].n<0
 .have N:aY c[f+r]! c[f+ff]! =true:=by rw[eI R,eI R];exact pv A
  rw[aD N]at F;refine vD 58 A ?_;refine I 9<|ww 62 ((f+r:Nat):Int)<|I 4 (ww 70 ((f+ff:Nat):Int)<|cP j j (ey c.toList[f+ff] (aO R) ?_) (ba:=R));refine I 4<|ww 76 ((f+r:Nat):Int)<|cP j j (ey c.toList[f+r] (aO R) ?_) (ba:=R);refine cP j j (il c.toList[f+ff] (w:=c.toList[f+r]) (aO R) ?_) (ba:=R);refine I 4<|ww 66 ((f+ff:Nat):Int)<|cP j j (il (l:=c.toList.set (f+r) c.toList[f+ff]) (ah:=hg) c.toList[f+r] (J:=f+ff) (aO dM) ?_) (ba:=R);refine I 7 ?_;have M:=nV (c:=c) (i:=f+r) (J:=f+ff) R R;exact bB [0] (ff,Go.Sort.swp c (f+r)<|f+ff) ⟨by show af-ff<af-r;omega,R,by rw[swp_size];exact W,F.symm.trans E⟩ atX
 .have N:¬aY c[f+r]! c[f+ff]! =true:=by rw[eI R,eI R,pw A];decide
  rw[av N]at F;have E:c=Go.Sort.siftDown aY af f bm d:=F.symm.trans E;subst E;refine vC 58 A ?_;exact I 6<|bn asH
def ZF(af f:Nat):∀(n r:Nat) (d:bi aE),af-r<=n->(Go.Sort.siftDown aY af f r d).size=d.size:=by
 intro n
 induction n with
 |zero=>intro r d h;rw[NA R]
 |succ n I=>
  intro r d h;by_cases Y:2*r+1<af
  .by_cases G:2*r+2<af/\aY d[f+(2*r+1)]! d[f+(2*r+2)]! =true
   .rw[NB Y<|.inl ⟨j,G⟩];split
    .rw[I _ _ R,swp_size]
    .rfl
   .rw[NB Y<|.inr ⟨j,G⟩];split
    .rw[I _ _ R,swp_size]
    .rfl
  .rw[NA Y]
def z9{n:Nat}{x y z w:ag}(h:c.size=n):[ag.aH 0 6 0 n n,x,y,z,w]=[ag.aH 0 6 0 c.size c.size,x,y,z,w]:=by rw[h]
def ZG:bl 297 (kJ λ((d,a,b):bi aE×Nat×Nat)=>([c3 d],[.aH 0 6 0 d.size d.size,.aa (a:Nat),.aa (b:Nat),eN],a<b/\b<=d.size/\d.size<=1000000,[c3<|Go.Sort.heapSort aY d a b],.bc [])):=by
 refine k9 [NJ] Tx.1 ?_;intro⟨d,a,b⟩ ⟨(Y:a<b),(C:b<=d.size),(bZ:d.size<=_)⟩ H i0 aq af;obtain⟨G,rfl⟩:∃b,i0=[b]:=mU.1 af;show bM.ok _ ⟨_,_,⟨[c3 d],1,[(0,.aH 0 6 0 d.size d.size),(1,.aa (a:Nat)),(2,.aa (b:Nat)),(3,eN)]⟩⟩;refine I 16<|cj 16 ((b-a:Nat):Int)<|I 8<|cj 18 ((b-a-1:Nat):Int)<|I 1 (xY 19 2 (m:=b-a-1)<|I 4<|ea (L:=Nat×bi aE) (λ(k,c)=>k<=b-a/\c.size=d.size/\Go.Sort.heapBuild aY (b-a) a k c=Go.Sort.heapBuild aY (b-a) a ((b-a-1)/2+1) d) (λ((k:Nat),(c:bi aE))=>⟨[c3 c],1,[(0,.aH 0 6 0 d.size d.size),(3,eN),(8,.aa (a:Nat)),(9,.aa 0),(10,.aa ((b-a:Nat):Int)),(11,.aa<|(k:Int)-1)]⟩) (λx=>x.1) [0] ((b-a-1)/2+1,d) ⟨R,j,j⟩ (by show(b-a-1)/2+1<bs+1;unfold bs;omega) bk ?_);rintro⟨k,c⟩ ⟨N,W,F⟩;refine I 5 ?_;by_cases q:k=0
 case neg=>
  obtain⟨m,rfl⟩:∃m,k=m+1:=⟨k-1,R⟩;refine cM 21<|R8 11 ((m:Nat):Int)<|I 13<|lC NJ 0 (c,m,b-a,a) aro ?_ (he:=z9 W);exact I 8<|bB [0] (m,Go.Sort.siftDown aY (b-a) a m c) ⟨yb _,R,by rw[ZF _ _ _ _ _<|c5 _];exact W,F⟩ bk
 subst q;refine cI 21 ?_;have F:c=Go.Sort.heapBuild aY (b-a) a ((b-a-1)/2+1) d:=F;refine I 12<|cj 31 ((b-a:Nat)-1:Int)<|I 4<|ea (L:=Nat×bi aE) (λ(k,w)=>k<=b-a/\w.size=d.size/\Go.Sort.heapPop aY a k w=Go.Sort.heapSort aY d a b) (λ((k:Nat),(c:bi aE))=>⟨[c3 c],1,[(0,.aH 0 6 0 d.size d.size),(3,eN),(8,.aa (a:Nat)),(9,.aa 0),(12,.aa<|(k:Int)-1)]⟩) (λx=>x.1) [0] (b-a,c) ⟨c5 _,W,by rw[F];rfl⟩ (by show b-a<bs+1;unfold bs;omega) bk ?_;clear F W;rintro⟨k,w⟩ ⟨N,u,Z⟩;have T:w.toList.length=d.size:=by rw[hS];exact u
 refine I 5 ?_;by_cases q:k=0
 case neg=>
  obtain⟨m,rfl⟩:∃m,k=m+1:=⟨k-1,R⟩;refine cM 33<|R8 12 ((m:Nat):Int) ?_;refine I 15<|ww 45 ((a+m:Nat):Int)<|cP j j (ey w.toList[a+m] (aO R) ?_) (ba:=R);refine I 2<|cP j j (ey w.toList[a] (aO R) ?_) (ba:=R);refine cP j j (il w.toList[a+m] (w:=w.toList[a]) (aO R) ?_) (ba:=R);refine I 4<|ww 41 ((a+m:Nat):Int)<|cP j j (il (l:=w.toList.set (a) w.toList[a+m]) (ah:=hg) w.toList[a] (J:=a+m) (aO dM) ?_) (ba:=R);refine I 8 ?_;have M:=nV (c:=w) (i:=a) (J:=a+m) R R;have t:(Go.Sort.swp w a<|a+m).size=d.size:=by rw[swp_size];exact u
  refine lC NJ 0 (Go.Sort.swp w a<|a+m,0,m,a) aro ?_ (U:=c3<|Go.Sort.swp w a<|a+m) (aw:=⟨_,j,congrArg (aZ.a 197 true 6 aE hg) M,λ_=>j⟩) (he:=z9 t);exact I 8<|bB [0] (m,Go.Sort.siftDown aY m a 0<|Go.Sort.swp w a<|a+m) ⟨yb _,R,by rw[ZF _ _ _ _ _<|c5 _];exact t,Z⟩ bk
 subst q;refine cI 33 ?_;have Z:w=Go.Sort.heapSort aY d a b:=Z;subst Z;exact I 7<|bn aqn
def am7(aC:Go.Sort.scanUp (λx=>aY x (Go.Sort.swp d a p)[a]!) (Go.Sort.swp d a p) (b-1) (a+1)=i)(aI:Go.Sort.scanDown (λx=> !aY x (Go.Sort.swp d a p)[a]!) (Go.Sort.swp d a p) i (b-1)=J)(h:¬i<=J):Go.Sort.partition aY d a b p=(J,true,Go.Sort.swp (Go.Sort.swp d a p) J a):=by
 unfold Go.Sort.partition;dsimp only;rw[aC,aI,aD R]
def am8{r:Nat×bi aE}(aC:Go.Sort.scanUp (λx=>aY x (Go.Sort.swp d a p)[a]!) (Go.Sort.swp d a p) (b-1) (a+1)=i)(aI:Go.Sort.scanDown (λx=> !aY x (Go.Sort.swp d a p)[a]!) (Go.Sort.swp d a p) i (b-1)=J)(h:i<=J)(u:Go.Sort.partLoop aY a (i+1) (J-1) (Go.Sort.swp (Go.Sort.swp d a p) i J)=r):Go.Sort.partition aY d a b p=(r.1,false,Go.Sort.swp r.2 r.1 a):=by
 unfold Go.Sort.partition;dsimp only;rw[aC,aI,av R,u]
def ZH{x y:Nat×Bool×bi aE}(h:x=y):ag.bc [.aa (y.1:Nat),.b y.2.1]=ag.bc [.aa (x.1:Nat),.b x.2.1]:=by rw[h]
def ZI{x y:Nat×Bool×bi aE}{l:ac aE}(h:x=y)(aB:l=y.2.2.toList):some (aZ.a 197 true 6 aE hg l)=some (c3 x.2.2):=by rw[h,aB]
def ZJ:bl 303 (kJ λ((d,a,b,p):bi aE×Nat×Nat×Nat)=>([c3 d],[.aH 0 6 0 d.size d.size,.aa (a:Nat),.aa (b:Nat),.aa (p:Nat),eN],a<b/\b<=d.size/\p<d.size/\d.size<=1000000,[c3 (Go.Sort.partition aY d a b p).2.2],.bc [.aa ((Go.Sort.partition aY d a b p).1:Nat),.b (Go.Sort.partition aY d a b p).2.1])):=by
 refine k9 [kR] Uk.1 ?_;intro⟨d,a,b,p⟩ ⟨(Y:a<b),(C:b<=d.size),(hp:p<d.size),(bZ:d.size<=_)⟩ H i0 aq af;obtain⟨G,rfl⟩:∃b,i0=[b]:=mU.1 af;have aA:d.toList.length=d.size:=hS;show bM.ok _ ⟨_,_,⟨[c3 d],1,[(0,.aH 0 6 0 d.size d.size),(1,.aa (a:Nat)),(2,.aa (b:Nat)),(3,.aa (p:Nat)),(4,eN)]⟩⟩;refine I 12<|cP j j (ey d.toList[p] (aO R) ?_) (ba:=R);refine I 2<|cP j j (ey d.toList[a] (aO R) ?_) (ba:=R);refine cP j j (il d.toList[p] (w:=d.toList[a]) (aO R) ?_) (ba:=R);refine I 2<|cP j j (il (l:=d.toList.set (a) d.toList[p]) (ah:=hg) d.toList[a] (J:=p) (aO dM) ?_) (ba:=R);refine I 14 ?_;have M:=nV (c:=d) (i:=a) (J:=p) R R;refine cj 12 ((a+1:Nat):Int)<|cj 13 ((b-1:Nat):Int) ?_;have W:(Go.Sort.swp d a p).size=d.size:=swp_size _ _ _;obtain⟨c,N⟩:∃c,c=Go.Sort.swp d a p:=dN;rw[<-N]at M W;have al:c.toList.length=d.size:=by rw[hS];exact W
 refine iI (L:=Nat) (λt=>Go.Sort.scanUp (λx=>aY x c[a]!) c (b-1) (a+1)=t/\(a+1)<=t/\t<=d.size+2) (λ(t:Nat)=>⟨[c3 c],1,[(0,.aH 0 6 0 d.size d.size),(1,.aa (a:Nat)),(4,eN),(12,.aa ((t:Nat):Int)),(13,.aa ((b-1:Nat):Int))]⟩) ?_ ?_
 .refine ea (L:=Nat) (λt=>Go.Sort.scanUp (λx=>aY x c[a]!) c (b-1) t=Go.Sort.scanUp (λx=>aY x c[a]!) c (b-1) (a+1)/\(a+1)<=t/\t<=d.size+2) (λ(t:Nat)=>⟨[c3 c],1,[(0,.aH 0 6 0 d.size d.size),(1,.aa (a:Nat)),(4,eN),(12,.aa ((t:Nat):Int)),(13,.aa ((b-1:Nat):Int))]⟩) (λt=>b-1+1-t) [0] (a+1) Aa as8 at3 ?_;rintro(t:Nat) ⟨E,Z,u⟩;refine I 7 ?_;by_cases h:t<=b-1
  .refine eJ 35 (show((t:Nat):Int)<=((b-1:Nat):Int) by omega)<|I 7<|cP j j (I 1<|ey c.toList[t] (aO R) ?_) (ba:=R);refine I 5<|cP j j (I 1<|ey c.toList[a] (aO R) ?_) (ba:=R);refine I 1<|oz kR (c.toList[t],c.toList[a]) az<|I 5 ?_;by_cases A:h8 c.toList[t].n c.toList[a].n<0
   .exact v1 47 A<|I 10<|bB [0] (t+1) ⟨by show b-1+1-(t+1)<b-1+1-t;omega,(NC h<|by show aY c[t]! c[a]! =true;rw[eI R,eI R,pv A]).symm.trans E,R,R⟩ bk
   .exact v0 47 A<|I 5<|dD [0] t ⟨E.symm.trans (NF<|by show aY c[t]! c[a]! =false;rw[eI R,eI R,pw A]),Z,u⟩
  .exact dJ 35 (show¬((t:Nat):Int)<=((b-1:Nat):Int) by omega)<|I 19<|dD [0] t ⟨E.symm.trans<|ND h,Z,u⟩
 rintro(i:Nat) ⟨hu,ai,ao⟩;refine I 2<|iI (L:=Nat) (λq=>Go.Sort.scanDown (λx=> !aY x c[a]!) c i (b-1)=q/\q<=(b-1)/\a<=q) (λ(q:Nat)=>⟨[c3 c],1,[(0,.aH 0 6 0 d.size d.size),(1,.aa (a:Nat)),(4,eN),(12,.aa ((i:Nat):Int)),(13,.aa ((q:Nat):Int))]⟩) ?_ ?_
 .refine eS (L:=Nat) (λq=>Go.Sort.scanDown (λx=> !aY x c[a]!) c i q=Go.Sort.scanDown (λx=> !aY x c[a]!) c i (b-1)/\q<=(b-1)/\a<=q) (λ(q:Nat)=>⟨[c3 c],1,[(0,.aH 0 6 0 d.size d.size),(1,.aa (a:Nat)),(4,eN),(12,.aa ((i:Nat):Int)),(13,.aa ((q:Nat):Int))]⟩) (λq=>q) [0] (b-1) Aa ?_;rintro(q:Nat) ⟨E,Z,u⟩;refine I 7 ?_;by_cases h:i<=q
  .refine eJ 53 (show((i:Nat):Int)<=((q:Nat):Int) by omega)<|I 7<|cP j j (I 1<|ey c.toList[q] (aO R) ?_) (ba:=R);refine I 5<|cP j j (I 1<|ey c.toList[a] (aO R) ?_) (ba:=R);refine I 1<|oz kR (c.toList[q],c.toList[a]) az<|I 7 ?_;by_cases A:h8 c.toList[q].n c.toList[a].n<0
   .refine vD 66 A ?_;exact I 5<|dD [0] q ⟨E.symm.trans (NI<|by show(!aY c[q]! c[a]!)=false;rw[eI R,eI R,pv A];rfl),Z,u⟩
   .refine vC 66 A ?_;exact I 10<|bB [0] (q-1) ⟨by show(q-1)<q;omega,(NG R h<|by show(!aY c[q]! c[a]!)=true;rw[eI R,eI R,pw A];rfl).symm.trans E,R,R⟩ bk
  .exact dJ 53 (show¬((i:Nat):Int)<=((q:Nat):Int) by omega)<|I 20<|dD [0] q ⟨E.symm.trans<|NH h,Z,u⟩
 rintro(J:Nat) ⟨a',ak,o⟩;refine I 6 ?_;by_cases O:i<=J
 case neg=>
  refine cM 71<|I 9<|cP j j (ey c.toList[a] (aO R) ?_) (ba:=R);refine I 2<|cP j j (ey c.toList[J] (aO R) ?_) (ba:=R);refine cP j j (il c.toList[a] (w:=c.toList[J]) (aO R) ?_) (ba:=R);refine I 2<|cP j j (il (l:=c.toList.set (J) c.toList[a]) (ah:=hg) c.toList[J] (J:=a) (aO dM) ?_) (ba:=R);refine I 11 ?_;have M:=nV (c:=c) (i:=J) (J:=a) R R;have D:Go.Sort.partition aY d a b p=(J,true,Go.Sort.swp c J a):=by
   rw[N]at hu a'⊢;exact am7 hu a' O
  exact arM
 refine cI 71<|I 11<|cP j j (ey c.toList[J] (aO R) ?_) (ba:=R);refine I 2<|cP j j (ey c.toList[i] (aO R) ?_) (ba:=R);refine cP j j (il c.toList[J] (w:=c.toList[i]) (aO R) ?_) (ba:=R);refine I 2<|cP j j (il (l:=c.toList.set (i) c.toList[J]) (ah:=hg) c.toList[i] (J:=J) (aO dM) ?_) (ba:=R);refine I 18 ?_;have M:=nV (c:=c) (i:=i) (J:=J) R R;refine cj 12 ((i+1:Nat):Int)<|cj 13 ((J-1:Nat):Int) ?_;have D:∀r,Go.Sort.partLoop aY a (i+1) (J-1) (Go.Sort.swp c i J)=r->Go.Sort.partition aY d a b p=(r.1,false,Go.Sort.swp r.2 r.1 a):=λr h=>by
  rw[N]at hu a' h;exact am8 hu a' O h
 have ae:(Go.Sort.swp c i J).size=d.size:=by rw[swp_size];exact W
 obtain⟨V,aj⟩:∃V,V=Go.Sort.swp c i J:=dN;rw[<-aj]at M ae D;refine ea (L:=Nat×Nat×bi aE) (λ(i,J,w)=>a<i/\i<=d.size+2/\a<=J/\J<b/\w.size=d.size/\∀r,Go.Sort.partLoop aY a i J w=r->Go.Sort.partition aY d a b p=(r.1,false,Go.Sort.swp r.2 r.1 a)) (λ((i:Nat),(J:Nat),(w:bi aE))=>⟨[c3 w],1,[(0,.aH 0 6 0 d.size d.size),(1,.aa (a:Nat)),(4,eN),(12,.aa ((i:Nat):Int)),(13,.aa ((J:Nat):Int))]⟩) (λx=>x.2.1+1-x.1) [0] (i+1,J-1,V) ⟨R,R,R,R,ae,D⟩ (by show J-1+1-(i+1)<bs+1;unfold bs;omega) at3 ?_;clear D ae M aj hu a' al N W;rintro⟨i,J,w⟩ ⟨ar,aw,au,ay,F,D⟩;have T:w.toList.length=d.size:=by rw[hS];exact F
 refine I 3<|iI (L:=Nat) (λt=>Go.Sort.scanUp (λx=>aY x w[a]!) w J i=t/\i<=t/\t<=d.size+2) (λ(t:Nat)=>⟨[c3 w],1,[(0,.aH 0 6 0 d.size d.size),(1,.aa (a:Nat)),(4,eN),(12,.aa ((t:Nat):Int)),(13,.aa ((J:Nat):Int))]⟩) ?_ ?_
 .refine eS (L:=Nat) (λt=>Go.Sort.scanUp (λx=>aY x w[a]!) w J t=Go.Sort.scanUp (λx=>aY x w[a]!) w J i/\i<=t/\t<=d.size+2) (λ(t:Nat)=>⟨[c3 w],1,[(0,.aH 0 6 0 d.size d.size),(1,.aa (a:Nat)),(4,eN),(12,.aa ((t:Nat):Int)),(13,.aa ((J:Nat):Int))]⟩) (λt=>J+1-t) [0] i Aa ?_;rintro(t:Nat) ⟨E,Z,u⟩;refine I 7 ?_;by_cases h:t<=J
  .refine eJ 108 (show((t:Nat):Int)<=((J:Nat):Int) by omega)<|I 7<|cP j j (I 1<|ey w.toList[t] (aO R) ?_) (ba:=R);refine I 5<|cP j j (I 1<|ey w.toList[a] (aO R) ?_) (ba:=R);refine I 1<|oz kR (w.toList[t],w.toList[a]) az<|I 5 ?_;by_cases A:h8 w.toList[t].n w.toList[a].n<0
   .exact v1 120 A<|I 10<|bB [0] (t+1) ⟨by show J+1-(t+1)<J+1-t;omega,(NC h<|by show aY w[t]! w[a]! =true;rw[eI R,eI R,pv A]).symm.trans E,R,R⟩ bk
   .exact v0 120 A<|I 5<|dD [0] t ⟨E.symm.trans (NF<|by show aY w[t]! w[a]! =false;rw[eI R,eI R,pw A]),Z,u⟩
  .exact dJ 108 atG<|I 19<|dD [0] t ⟨E.symm.trans<|ND h,Z,u⟩
 rintro(i2:Nat) ⟨hu,ai,ao⟩;refine I 2<|iI (L:=Nat) (λq=>Go.Sort.scanDown (λx=> !aY x w[a]!) w i2 J=q/\q<=J/\a<=q) (λ(q:Nat)=>⟨[c3 w],1,[(0,.aH 0 6 0 d.size d.size),(1,.aa (a:Nat)),(4,eN),(12,.aa ((i2:Nat):Int)),(13,.aa ((q:Nat):Int))]⟩) ?_ ?_
 .refine eS (L:=Nat) (λq=>Go.Sort.scanDown (λx=> !aY x w[a]!) w i2 q=Go.Sort.scanDown (λx=> !aY x w[a]!) w i2 J/\q<=J/\a<=q) (λ(q:Nat)=>⟨[c3 w],1,[(0,.aH 0 6 0 d.size d.size),(1,.aa (a:Nat)),(4,eN),(12,.aa ((i2:Nat):Int)),(13,.aa ((q:Nat):Int))]⟩) (λq=>q) [0] J Aa ?_;rintro(q:Nat) ⟨E,Z,u⟩;refine I 7 ?_;by_cases h:i2<=q
  .refine eJ 126 atQ<|I 7<|cP j j (I 1<|ey w.toList[q] (aO R) ?_) (ba:=R);refine I 5<|cP j j (I 1<|ey w.toList[a] (aO R) ?_) (ba:=R);refine I 1<|oz kR (w.toList[q],w.toList[a]) az<|I 7 ?_;by_cases A:h8 w.toList[q].n w.toList[a].n<0
   .refine vD 139 A ?_;exact I 5<|dD [0] q ⟨E.symm.trans (NI<|by show(!aY w[q]! w[a]!)=false;rw[eI R,eI R,pv A];rfl),Z,u⟩
   .refine vC 139 A ?_;exact I 10<|bB [0] (q-1) ⟨by show(q-1)<q;omega,(NG R h<|by show(!aY w[q]! w[a]!)=true;rw[eI R,eI R,pw A];rfl).symm.trans E,R,R⟩ bk
  .exact dJ 126 atA<|I 20<|dD [0] q ⟨E.symm.trans<|NH h,Z,u⟩
 rintro(gd:Nat) ⟨a',ak,o⟩;refine I 6 ?_;by_cases O:i2<=gd
 case neg=>
  refine cM 144 ?_;have D:=D _<|amM hu a' O;refine I 15<|cP j j (ey w.toList[a] (aO R) ?_) (ba:=R);refine I 2<|cP j j (ey w.toList[gd] (aO R) ?_) (ba:=R);refine cP j j (il w.toList[a] (w:=w.toList[gd]) (aO R) ?_) (ba:=R);refine I 2<|cP j j (il (l:=w.toList.set (gd) w.toList[a]) (ah:=hg) w.toList[gd] (J:=a) (aO dM) ?_) (ba:=R);refine I 10 ?_;have M:=nV (c:=w) (i:=gd) (J:=a) R R;exact arM
 refine cI 144<|I 11<|cP j j (ey w.toList[gd] (aO R) ?_) (ba:=R);refine I 2<|cP j j (ey w.toList[i2] (aO R) ?_) (ba:=R);refine cP j j (il w.toList[gd] (w:=w.toList[i2]) (aO R) ?_) (ba:=R);refine I 2<|cP j j (il (l:=w.toList.set (i2) w.toList[gd]) (ah:=hg) w.toList[i2] (J:=gd) (aO dM) ?_) (ba:=R);refine I 15 ?_;have M:=nV (c:=w) (i:=i2) (J:=gd) R R;exact bB [0] (i2+1,gd-1,Go.Sort.swp w i2 gd) ⟨by show gd-1+1-(i2+1)<J+1-i;omega,R,R,R,R,by rw[swp_size];exact F,λr h=>D r<|(amN hu a' O ai ak R).trans h⟩ atX
def ZK:bl 302 (kJ λ((d,a,b,p):bi aE×Nat×Nat×Nat)=>([c3 d],[.aH 0 6 0 d.size d.size,.aa (a:Nat),.aa (b:Nat),.aa (p:Nat),eN],a<b/\b<=d.size/\p<d.size/\d.size<=1000000,[c3 (Go.Sort.partitionEqual aY d a b p).2],.aa ((Go.Sort.partitionEqual aY d a b p).1:Nat))):=by
 refine k9 [kR] Ty.1 ?_;intro⟨d,a,b,p⟩ ⟨(Y:a<b),(C:b<=d.size),(hp:p<d.size),(bZ:d.size<=_)⟩ H i0 aq af;obtain⟨G,rfl⟩:∃b,i0=[b]:=mU.1 af;have ao:d.toList.length=d.size:=hS;show bM.ok _ ⟨_,_,⟨[c3 d],1,[(0,.aH 0 6 0 d.size d.size),(1,.aa (a:Nat)),(2,.aa (b:Nat)),(3,.aa (p:Nat)),(4,eN)]⟩⟩;refine I 11<|cP j j (ey d.toList[p] (aO R) ?_) (ba:=R);refine I 2<|cP j j (ey d.toList[a] (aO R) ?_) (ba:=R);refine cP j j (il d.toList[p] (w:=d.toList[a]) (aO R) ?_) (ba:=R);refine I 2<|cP j j (il (l:=d.toList.set (a) d.toList[p]) (ah:=hg) d.toList[a] (J:=p) (aO dM) ?_) (ba:=R);refine I 14 ?_;have M:=nV (c:=d) (i:=a) (J:=p) R R;refine cj 11 ((a+1:Nat):Int)<|cj 12 ((b-1:Nat):Int) ?_;have W:(Go.Sort.swp d a p).size=d.size:=swp_size _ _ _;refine ea (L:=Nat×Nat×bi aE) (λ(i,J,w)=>a<i/\i<=d.size+2/\a<=J/\J<b/\w.size=d.size/\Go.Sort.partEqLoop aY a i J w=Go.Sort.partitionEqual aY d a b p) (λ((i:Nat),(J:Nat),(w:bi aE))=>⟨[c3 w],1,[(0,.aH 0 6 0 d.size d.size),(1,.aa (a:Nat)),(4,eN),(11,.aa ((i:Nat):Int)),(12,.aa ((J:Nat):Int))]⟩) (λx=>x.2.1+1-x.1) [0] (a+1,b-1,Go.Sort.swp d a p) ⟨R,R,R,R,W,j⟩ as8 at3 ?_;clear W M;rintro⟨i,J,w⟩ ⟨V,aj,ai,ak,F,D⟩;have T:w.toList.length=d.size:=by rw[hS];exact F
 refine I 3<|iI (L:=Nat) (λt=>Go.Sort.scanUp (λx=> !aY w[a]! x) w J i=t/\i<=t/\t<=d.size+2) (λ(t:Nat)=>⟨[c3 w],1,[(0,.aH 0 6 0 d.size d.size),(1,.aa (a:Nat)),(4,eN),(11,.aa ((t:Nat):Int)),(12,.aa ((J:Nat):Int))]⟩) ?_ ?_
 .refine eS (L:=Nat) (λt=>Go.Sort.scanUp (λx=> !aY w[a]! x) w J t=Go.Sort.scanUp (λx=> !aY w[a]! x) w J i/\i<=t/\t<=d.size+2) (λ(t:Nat)=>⟨[c3 w],1,[(0,.aH 0 6 0 d.size d.size),(1,.aa (a:Nat)),(4,eN),(11,.aa ((t:Nat):Int)),(12,.aa ((J:Nat):Int))]⟩) (λt=>J+1-t) [0] i Aa ?_;rintro(t:Nat) ⟨E,Z,u⟩;refine I 7 ?_;by_cases h:t<=J
  .refine eJ 34 (show((t:Nat):Int)<=((J:Nat):Int) by omega)<|I 7<|cP j j (I 1<|ey w.toList[a] (aO R) ?_) (ba:=R);refine I 5<|cP j j (I 1<|ey w.toList[t] (aO R) ?_) (ba:=R);refine I 1<|oz kR (w.toList[a],w.toList[t]) az<|I 7 ?_;by_cases A:h8 w.toList[a].n w.toList[t].n<0
   .refine vD 47 A ?_;exact I 5<|dD [0] t ⟨E.symm.trans (NF<|by show(!aY w[a]! w[t]!)=false;rw[eI R,eI R,pv A];rfl),Z,u⟩
   .refine vC 47 A ?_;exact I 10<|bB [0] (t+1) ⟨by show J+1-(t+1)<J+1-t;omega,(NC h<|by show(!aY w[a]! w[t]!)=true;rw[eI R,eI R,pw A];rfl).symm.trans E,R,R⟩ bk
  .exact dJ 34 atG<|I 20<|dD [0] t ⟨E.symm.trans<|ND h,Z,u⟩
 rintro(i2:Nat) ⟨hu,N,al⟩;refine I 2<|iI (L:=Nat) (λq=>Go.Sort.scanDown (λx=>aY w[a]! x) w i2 J=q/\q<=J/\a<=q) (λ(q:Nat)=>⟨[c3 w],1,[(0,.aH 0 6 0 d.size d.size),(1,.aa (a:Nat)),(4,eN),(11,.aa ((i2:Nat):Int)),(12,.aa ((q:Nat):Int))]⟩) ?_ ?_
 .refine eS (L:=Nat) (λq=>Go.Sort.scanDown (λx=>aY w[a]! x) w i2 q=Go.Sort.scanDown (λx=>aY w[a]! x) w i2 J/\q<=J/\a<=q) (λ(q:Nat)=>⟨[c3 w],1,[(0,.aH 0 6 0 d.size d.size),(1,.aa (a:Nat)),(4,eN),(11,.aa ((i2:Nat):Int)),(12,.aa ((q:Nat):Int))]⟩) (λq=>q) [0] J Aa ?_;rintro(q:Nat) ⟨E,Z,u⟩;refine I 7 ?_;by_cases h:i2<=q
  .refine eJ 53 atQ<|I 7<|cP j j (I 1<|ey w.toList[a] (aO R) ?_) (ba:=R);refine I 5<|cP j j (I 1<|ey w.toList[q] (aO R) ?_) (ba:=R);refine I 1<|oz kR (w.toList[a],w.toList[q]) az<|I 5 ?_;by_cases A:h8 w.toList[a].n w.toList[q].n<0
   .exact v1 65 A<|I 10<|bB [0] (q-1) ⟨by show(q-1)<q;omega,(NG R h<|by show aY w[a]! w[q]! =true;rw[eI R,eI R,pv A]).symm.trans E,R,R⟩ bk
   .exact v0 65 A<|I 5<|dD [0] q ⟨E.symm.trans (NI<|by show aY w[a]! w[q]! =false;rw[eI R,eI R,pw A]),Z,u⟩
  .exact dJ 53 atA<|I 19<|dD [0] q ⟨E.symm.trans<|NH h,Z,u⟩
 rintro(gd:Nat) ⟨a',ae,o⟩;refine I 6 ?_;by_cases O:i2<=gd
 case neg=>
  refine cM 70 ?_;have D:(i2,w)=Go.Sort.partitionEqual aY d a b p:=(amO hu a' O).symm.trans D;refine I 16<|bn ⟨.inr j,⟨_,j,j,.of ?_⟩,[0],j,ik az ⟨_,?_,j,λ_=>j⟩⟩
  .show ag.aa ((i2:Nat):Int)=ag.aa ((Go.Sort.partitionEqual aY d a b p).1:Nat);rw[<-D]
  .show some (c3 w)=some (c3 (Go.Sort.partitionEqual aY d a b p).2);rw[<-D]
 refine cI 70<|I 11<|cP j j (ey w.toList[gd] (aO R) ?_) (ba:=R);refine I 2<|cP j j (ey w.toList[i2] (aO R) ?_) (ba:=R);refine cP j j (il w.toList[gd] (w:=w.toList[i2]) (aO R) ?_) (ba:=R);refine I 2<|cP j j (il (l:=w.toList.set (i2) w.toList[gd]) (ah:=hg) w.toList[i2] (J:=gd) (aO dM) ?_) (ba:=R);refine I 15 ?_;have M:=nV (c:=w) (i:=i2) (J:=gd) R R;exact bB [0] (i2+1,gd-1,Go.Sort.swp w i2 gd) ⟨by show gd-1+1-(i2+1)<J+1-i;omega,R,R,R,R,by rw[swp_size];exact F,(amP hu a' O N ae R).symm.trans D⟩ atX
def Da(a b i:Nat)(d:bi aE):bi aE:=if 2<=i-a then Go.Sort.shiftDown aY (i-1) d else d
def Db(b i:Nat)(d:bi aE):bi aE:=if 2<=b-i then Go.Sort.shiftUp aY b (i+1) d else d
def am9(aC:Go.Sort.scanSorted aY d b i=b):Go.Sort.partialIns aY a b (s+1) i d=(d,true):=by
 rw[Go.Sort.partialIns];rw[aC,aD j]
def ana(aC:Go.Sort.scanSorted aY d b i=i2)(aI:i2≠b)(j:b-a<50):Go.Sort.partialIns aY a b (s+1) i d=(d,false):=by
 rw[Go.Sort.partialIns];rw[aC,av aI,aD j]
def anb(aC:Go.Sort.scanSorted aY d b i=i2)(aI:i2≠b)(j:¬b-a<50):Go.Sort.partialIns aY a b (s+1) i d=Go.Sort.partialIns aY a b s i2 (Db b i2<|Da a b i2<|Go.Sort.swp d i2<|i2-1):=by
 rw[Go.Sort.partialIns];rw[aC,av aI,av j];rfl
def NK{x y:bi aE×Bool}(h:x=y):ag.b y.2=ag.b x.2:=by rw[h]
def NL{x y:bi aE×Bool}(h:x=y):some (c3 y.1)=some (c3 x.1):=by rw[h]
def ZL:bl 301 (kJ λ((d,a,b):bi aE×Nat×Nat)=>([c3 d],[.aH 0 6 0 d.size d.size,.aa (a:Nat),.aa (b:Nat),eN],a<b/\b<=d.size/\d.size<=1000000,[c3 (Go.Sort.partialInsertionSort aY d a b).1],.b (Go.Sort.partialInsertionSort aY d a b).2)):=by
 refine k9 [kR] Uj.1 ?_;intro⟨d,a,b⟩ ⟨(Y:a<b),(C:b<=d.size),(bZ:d.size<=_)⟩ H i0 aq af;obtain⟨aI,rfl⟩:∃b,i0=[b]:=mU.1 af;show bM.ok _ ⟨_,_,⟨[c3 d],1,[(0,.aH 0 6 0 d.size d.size),(1,.aa (a:Nat)),(2,.aa (b:Nat)),(3,eN)]⟩⟩;refine I 9<|cj 14 ((a+1:Nat):Int)<|I 10<|eS (L:=Nat×Nat×bi aE) (λ(J,i,w)=>J<=5/\a<i/\i<=b/\w.size=d.size/\Go.Sort.partialIns aY a b (5-J) i w=Go.Sort.partialInsertionSort aY d a b) (λ((J:Nat),(i:Nat),(w:bi aE))=>⟨[c3 w],1,[(0,.aH 0 6 0 d.size d.size),(1,.aa (a:Nat)),(2,.aa (b:Nat)),(3,eN),(9,.aa (i:Nat)),(10,.aa (J:Nat))]⟩) (λx=>5-x.1) [0] (0,a+1,d) ⟨R,R,R,j,j⟩ ?_;rintro⟨J,i,w⟩ ⟨ay,V,aw,F,D⟩;have T:w.toList.length=d.size:=by rw[hS];exact F
 refine I 5 ?_;by_cases aG:J<5
 case neg=>
  refine cI 16 ?_;have D:(w,false)=Go.Sort.partialInsertionSort aY d a b:=by
   rw[<-D,show 5-J=0 by omega];rfl
  exact I 14<|bn ⟨.inr j,⟨_,j,j,.of<|NK D.symm⟩,[0],j,ik az ⟨_,NL D.symm,j,λ_=>j⟩⟩
 refine cM 16 ?_;obtain⟨s,ar⟩:∃s,5-J=s+1:=⟨4-J,R⟩;rw[ar]at D;refine I 9<|iI (L:=Nat) (λk=>Go.Sort.scanSorted aY w b i=k/\i<=k/\k<=b) (λ(k:Nat)=>⟨[c3 w],1,[(0,.aH 0 6 0 d.size d.size),(1,.aa (a:Nat)),(2,.aa (b:Nat)),(3,eN),(9,.aa (k:Nat)),(10,.aa (J:Nat))]⟩) ?_ ?_
 .refine eS (L:=Nat) (λk=>Go.Sort.scanSorted aY w b k=Go.Sort.scanSorted aY w b i/\i<=k/\k<=b) (λ(k:Nat)=>⟨[c3 w],1,[(0,.aH 0 6 0 d.size d.size),(1,.aa (a:Nat)),(2,.aa (b:Nat)),(3,eN),(9,.aa (k:Nat)),(10,.aa (J:Nat))]⟩) (λk=>b-k) [0] i Aa ?_;rintro(k:Nat) ⟨E,Z,O⟩;refine I 7 ?_;by_cases h:k<b
  .refine eJ 22 (show((k:Nat):Int)<(b:Int) by omega)<|I 7<|cP j j (I 1<|ey w.toList[k] (aO R) ?_) (ba:=R);refine I 6<|ww 30 ((k-1:Nat):Int)<|I 1<|cP j j (I 1<|ey w.toList[k-1] (aO R) ?_) (ba:=R);refine I 1<|oz kR (w.toList[k],w.toList[k-1]) az<|I 7 ?_;by_cases A:h8 w.toList[k].n w.toList[k-1].n<0
   .refine vD 36 A ?_;exact I 5<|dD [0] k ⟨E.symm.trans<|amS asm,Z,O⟩
   .refine vC 36 A ?_;exact I 10<|bB [0] (k+1) ⟨by show b-(k+1)<b-k;omega,(amQ h asl).symm.trans E,R,R⟩ bk
  .exact dJ 22 (show¬((k:Nat):Int)<(b:Int) by omega)<|I 21<|dD [0] k ⟨E.symm.trans<|amR h,Z,O⟩
 rintro(k:Nat) ⟨E,Z,O⟩;refine I 6 ?_;by_cases t:k=b
 .refine cM 41 ?_;rw[t]at E;have D:Go.Sort.partialInsertionSort aY d a b=(w,true):=D.symm.trans<|am9 E;exact arA
 refine cI 41<|I 11<|cj 44 ((b-a:Nat):Int)<|I 1 ?_;by_cases q:b-a<50
 .refine cM 45 ?_;have D:Go.Sort.partialInsertionSort aY d a b=(w,false):=D.symm.trans<|ana E t q;exact arA
 refine cI 45 ?_;replace D:=(anb E t q).symm.trans D;refine I 12<|ww 53 ((k-1:Nat):Int)<|cP j j (ey w.toList[k-1] (aO R) ?_) (ba:=R);refine I 2<|cP j j (ey w.toList[k] (aO R) ?_) (ba:=R);refine cP j j (il w.toList[k-1] (w:=w.toList[k]) (aO R) ?_) (ba:=R);refine I 3<|ww 50 ((k-1:Nat):Int)<|cP j j (il (l:=w.toList.set (k) w.toList[k-1]) (ah:=hg) w.toList[k] (w:=(w.toList.set (k) w.toList[k-1])[k-1]'art) (aO art) ?_) (ba:=R);refine I 8 ?_;have M:=nV (c:=w) (i:=k) (J:=k-1) R R;have W:(Go.Sort.swp w k<|k-1).size=d.size:=by rw[swp_size];exact F
 obtain⟨c,N⟩:∃c,c=Go.Sort.swp w k (k-1):=dN;rw[<-N]at M W D;refine cj 64 ((k-a:Nat):Int)<|I 3<|gZ (L:=bi aE) (λv=>v=Da a b k c/\v.size=d.size) (λ(v:bi aE)=>⟨[c3 v],1,[(0,.aH 0 6 0 d.size d.size),(1,.aa (a:Nat)),(2,.aa (b:Nat)),(3,eN),(9,.aa (k:Nat)),(10,.aa (J:Nat))]⟩) ?_ ?_
 .by_cases G:2<=k-a
  .have aj:Da a b k c=Go.Sort.shiftDown aY (k-1) c:=aD G;refine cM 65<|I 5<|cj 67 ((k-1:Nat):Int)<|I 4<|ea (L:=Nat×bi aE) (λ(m,v)=>m<=k-1/\v.size=d.size/\Go.Sort.shiftDown aY m v=Da a b k c) (λ((m:Nat),(v:bi aE))=>⟨[c3 v],1,[(0,.aH 0 6 0 d.size d.size),(1,.aa (a:Nat)),(2,.aa (b:Nat)),(3,eN),(9,.aa (k:Nat)),(10,.aa (J:Nat)),(11,.aa (m:Nat))]⟩) (λx=>x.1) [0] (k-1,c) ⟨c5 _,W,aj.symm⟩ (by show k-1<bs+1;unfold bs;omega) at3 ?_;rintro⟨m,v⟩ ⟨hm,a',o⟩;have ao:v.toList.length=d.size:=by rw[hS];exact a'
   refine I 5 ?_;by_cases ai:m=0
   .exact cI 69<|I 7<|dD [0] v ⟨by rw[<-o,ai];rfl,a'⟩
   refine cM 69<|I 13<|cP j j (ey v.toList[m] (aO R) ?_) (ba:=R);refine I 3<|ww 79 ((m-1:Nat):Int)<|cP j j (ey v.toList[m-1] (aO R) ?_) (ba:=R);refine oz kR (v.toList[m],v.toList[m-1]) az<|I 4 ?_;by_cases A:h8 v.toList[m].n v.toList[m-1].n<0
   .refine vD 84 A ?_;refine I 9<|ww 92 ((m-1:Nat):Int)<|cP j j (ey v.toList[m-1] (aO R) ?_) (ba:=R);refine I 2<|cP j j (ey v.toList[m] (aO R) ?_) (ba:=R);refine cP j j (il v.toList[m-1] (w:=v.toList[m]) (aO R) ?_) (ba:=R);refine I 3<|ww 89 ((m-1:Nat):Int)<|cP j j (il (l:=v.toList.set (m) v.toList[m-1]) (ah:=hg) v.toList[m] (w:=(v.toList.set (m) v.toList[m-1])[m-1]'art) (aO art) ?_) (ba:=R);refine I 8 ?_;have M:=nV (c:=v) (i:=m) (J:=m-1) R R;exact bB [0] (m-1,Go.Sort.swp v m<|m-1) ⟨by show m-1<m;omega,R,by rw[swp_size];exact a',(amU R asm).symm.trans o⟩ atX
   .refine vC 84 A ?_;exact I 7<|dD [0] v ⟨(amT R asl).symm.trans o,a'⟩
  .have aj:Da a b k c=c:=av G;exact cI 65<|I 2<|bB [0] c ⟨aj.symm,W⟩ at3
 rintro v ⟨al,a'⟩;rw[<-al]at D;clear M N W al;have ao:v.toList.length=d.size:=by rw[hS];exact a'
 refine I 5<|cj 103 ((b-k:Nat):Int)<|I 3<|iI (L:=bi aE) (λu=>u=Db b k v/\u.size=d.size) (λ(v:bi aE)=>⟨[c3 v],1,[(0,.aH 0 6 0 d.size d.size),(1,.aa (a:Nat)),(2,.aa (b:Nat)),(3,eN),(9,.aa (k:Nat)),(10,.aa (J:Nat))]⟩) ?_ ?_
 .by_cases G:2<=b-k
  .have ak:Db b k v=Go.Sort.shiftUp aY b (k+1) v:=aD G;refine cM 104<|I 5<|cj 106 ((k+1:Nat):Int)<|I 4<|eS (L:=Nat×bi aE) (λ(m,u)=>1<=m/\m<=b/\u.size=d.size/\Go.Sort.shiftUp aY b m u=Db b k v) (λ((m:Nat),(v:bi aE))=>⟨[c3 v],1,[(0,.aH 0 6 0 d.size d.size),(1,.aa (a:Nat)),(2,.aa (b:Nat)),(3,eN),(9,.aa (k:Nat)),(10,.aa (J:Nat)),(12,.aa (m:Nat))]⟩) (λx=>b-x.1) [0] (k+1,v) ⟨R,R,a',ak.symm⟩ ?_;rintro⟨m,u⟩ ⟨aF,aJ,ae,o⟩;have aA:u.toList.length=d.size:=by rw[hS];exact ae
   refine I 6 ?_;by_cases ai:m<b
   case neg=>
    exact cI 109<|I 8<|dD [0] u ⟨(amV ai).symm.trans o,ae⟩
   refine cM 109<|I 13<|cP j j (ey u.toList[m] (aO R) ?_) (ba:=R);refine I 3<|ww 119 ((m-1:Nat):Int)<|cP j j (ey u.toList[m-1] (aO R) ?_) (ba:=R);refine oz kR (u.toList[m],u.toList[m-1]) az<|I 4 ?_;by_cases A:h8 u.toList[m].n u.toList[m-1].n<0
   .refine vD 124 A ?_;refine I 9<|ww 132 ((m-1:Nat):Int)<|cP j j (ey u.toList[m-1] (aO R) ?_) (ba:=R);refine I 2<|cP j j (ey u.toList[m] (aO R) ?_) (ba:=R);refine cP j j (il u.toList[m-1] (w:=u.toList[m]) (aO R) ?_) (ba:=R);refine I 3<|ww 129 ((m-1:Nat):Int)<|cP j j (il (l:=u.toList.set (m) u.toList[m-1]) (ah:=hg) u.toList[m] (w:=(u.toList.set (m) u.toList[m-1])[m-1]'art) (aO art) ?_) (ba:=R);refine I 8 ?_;have M:=nV (c:=u) (i:=m) (J:=m-1) R R;exact bB [0] (m+1,Go.Sort.swp u m<|m-1) ⟨by show b-(m+1)<b-m;omega,R,R,by rw[swp_size];exact ae,(amX ai asm).symm.trans o⟩ atX
   .refine vC 124 A ?_;exact I 8<|dD [0] u ⟨(amW asl).symm.trans o,ae⟩
  .have ak:Db b k v=v:=av G;exact cI 104<|I 3<|dD [0] v ⟨ak.symm,a'⟩
 rintro u ⟨au,ae⟩;rw[<-au]at D;exact I 3<|cj 18 ((J+1:Nat):Int)<|I 2<|iV [0] (J+1,k,u) ⟨R,R,R,ae,by rw[show 5-(J+1)=s by omega];exact D⟩
section
variable{X:Ctx}{aL:ao cX}{br:d7->dV}{a6 n:Nat}{fn:d7}{a1:bb}{i0:ac Nat}{aq:ak}{Q:c6->cb->Prop}{K:ac dA}{rest:ac aZ}{ax:Nat}{e:bP}{g:d7}{S:gv}{a b dm oN gw e7:aZ}
theorem tM(aQ:et X g S.spec){bO:ac ce}{T:ac ag}{d:be Tmp}{xs:ac bj}(l:S.L)(hp:S.pre l)
 (k:cL (gI X aL br n a6 fn a1 i0 aq Q) K xs (dm::oN::rest) ax (ee d (j7 [0,1]<|S.res l) e)) (E:S.own l=[gw,e7]:=by rfl) (u:S.bg l=[dm,oN]:=by rfl)
 (aC:kG [0,1] gw a:=by exact sx) (aI:kG [0,1] e7 b:=by first|exact j|exact sx)
 (cu:pf [0,1] dm dm:=by exact sx) (I:pf [0,1] oN oN:=by first|exact j|exact sx)
 (bR:hr e bO=some T:=by rfl) (he:T=lA [0,1] (S.args l):=by rfl) (O:br g=S.spec.K:=by rfl) (cK:S.hp a1:=by first|exact az|assumption):
 cL (gI X aL br n a6 fn a1 i0 aq Q) K (⟨d,.call (.func g) bO,none⟩::xs) (a::b::rest) ax e:=
 RU aQ [0,1] l hp (by rw[E];exact ZA aC aI) (by rw[u];exact Zz cu I) k bR he O cK
end
abbrev tN(s:Nat):aZ:=.c 3 [.aa (s:Nat)]
variable{n m:Nat}
def ZM{x y:Nat×Nat×Nat}(h:x=y):ag.bc [.aa (y.1:Nat),.aa (y.2.1:Nat)]=ag.bc [.aa (x.1:Nat),.aa (x.2.1:Nat)]:=by rw[h]
def ZN{x y:Nat×Nat×Nat}(h:x=y):some (tN y.2.2)=some (tN x.2.2):=by rw[h]
def HQ:bl 405 (kJ λ((d,a,b,s):bi aE×Nat×Nat×Nat)=>([c3 d,tN s],[.aH 0 6 0 d.size d.size,.aa (a:Nat),.aa (b:Nat),.p 1 0,eN],a<d.size/\b<d.size/\s<=1000/\d.size<=1000000,[c3 d,tN (Go.Sort.order2 aY d a b s).2.2],.bc [.aa ((Go.Sort.order2 aY d a b s).1:Nat),.aa ((Go.Sort.order2 aY d a b s).2.1:Nat)])):=by
 refine k9 [kR] Vj.1 ?_;intro⟨d,a,b,s⟩ ⟨o,C,M,bZ⟩ H i0 aq af;refine I 12<|cP j j (ey d.toList[b] (aO R) ?_);refine I 2<|cP j j (ey d.toList[a] (aO R) ?_);refine oz kR (d.toList[b],d.toList[a]) az<|I 3 ?_;by_cases A:h8 d.toList[b].n d.toList[a].n<0
 .have e:Go.Sort.order2 aY d a b s=(b,a,s+1):=by unfold Go.Sort.order2;rw[eI R,eI R,pv A];rfl
  exact v1 22 A<|I 7<|cj 26 ((s+1:Nat):Int)<|I 14<|bn arz
 .have e:Go.Sort.order2 aY d a b s=(a,b,s):=by unfold Go.Sort.order2;rw[eI R,eI R,pw A];rfl
  exact v0 22 A<|I 12<|bn arz
def Dc(bR:a<n)(ay:b<n)(M:s<=m):(Go.Sort.order2 aY d a b s).1<n/\(Go.Sort.order2 aY d a b s).2.1<n/\(Go.Sort.order2 aY d a b s).2.2<=m+1:=by
 rw[Go.Sort.order2];split<;>(dsimp only;omega)
def NM{c:Nat}(bR:a<n)(ay:b<n)(aQ:c<n)(M:s<=m):(Go.Sort.median aY d a b c s).1<n/\(Go.Sort.median aY d a b c s).2<=m+3:=by
 rw[Go.Sort.median];have Y:=Dc (d:=d) bR ay M;have G:=Dc (d:=d) Y.2.1 aQ Y.2.2;have A:=Dc (d:=d) Y.1 G.1 G.2.2;exact⟨A.2.1,A.2.2⟩
def Dd:bl 380 (kJ λ((d,a,b,c,s):bi aE×Nat×Nat×Nat×Nat)=>([c3 d,tN s],[.aH 0 6 0 d.size d.size,.aa (a:Nat),.aa (b:Nat),.aa (c:Nat),.p 1 0,eN],a<d.size/\b<d.size/\c<d.size/\s<=500/\d.size<=1000000,[c3 d,tN (Go.Sort.median aY d a b c s).2],.aa ((Go.Sort.median aY d a b c s).1:Nat))):=by
 refine k9 [HQ] V4.1 ?_;intro⟨d,a,b,c,s⟩ ⟨A,C,W,M,bZ⟩ H i0 aq af;have Y:=Dc (d:=d) A C M;have G:=Dc (d:=d) Y.2.1 W Y.2.2;refine I 12<|tM HQ (d,a,b,s) ⟨A,C,R,bZ⟩ ?_;refine I 14<|tM HQ (d,_,c,_) ⟨Y.2.1,W,ch Y.2.2 R,bZ⟩ ?_;exact I 14<|tM HQ (d,_,_,_) ⟨Y.1,G.1,ch G.2.2 R,bZ⟩ (I 14<|bn ⟨.inr j,l7,[0,1],j,fU (aC:=⟨jS,gJ,az⟩)⟩)
def HR:bl 379 (kJ λ((d,a,s):bi aE×Nat×Nat)=>([c3 d,tN s],[.aH 0 6 0 d.size d.size,.aa (a:Nat),.p 1 0,eN],0<a/\a+1<d.size/\s<=500/\d.size<=1000000,[c3 d,tN (Go.Sort.medianAdjacent aY d a s).2],.aa ((Go.Sort.medianAdjacent aY d a s).1:Nat))):=by
 refine k9 [Dd] Vd.1 ?_;intro⟨d,a,s⟩ ⟨F,A,M,bZ⟩ H i0 aq af;refine I 10<|cj 11 ↑(a-1)<|I 3<|cj 14 ↑(a+1)<|I 2<|tM Dd (d,a-1,a,a+1,s) ⟨R,R,A,M,bZ⟩ ?_;exact I 4<|bn ⟨.inr j,l7,[0,1],j,fU⟩
def De(d:bi aE)(a b:Nat):Nat×Nat:=
 if 8<=b-a then
  if 50<=b-a then
   let u:=Go.Sort.medianAdjacent aY d (a+(b-a)/4*1) 0
   let V:=Go.Sort.medianAdjacent aY d (a+(b-a)/4*2) u.2
   let o:=Go.Sort.medianAdjacent aY d (a+(b-a)/4*3) V.2
   Go.Sort.median aY d u.1 V.1 o.1 o.2
  else Go.Sort.median aY d (a+(b-a)/4*1) (a+(b-a)/4*2) (a+(b-a)/4*3) 0
 else(a+(b-a)/4*2,0)
def anc(d:bi aE)(a b:Nat):Go.Sort.choosePivot aY d a b=((De d a b).1,if(De d a b).2=0 then .increasing else if(De d a b).2=12 then .decreasing else .unknown):=rfl
def xZ:Go.Sort.Hint->Int
 |.unknown=>0
 |.increasing=>1
 |.decreasing=>2
def NN{h:Go.Sort.Hint}{z:Int}(e:Go.Sort.choosePivot aY d a b=(J,h))(Z:z=xZ h):ag.bc [.aa (J:Nat),.aa z]=ag.bc [.aa ((Go.Sort.choosePivot aY d a b).1:Nat),.aa<|xZ (Go.Sort.choosePivot aY d a b).2]:=by rw[e,Z]
def ZO:bl 299 (kJ λ((d,a,b):bi aE×Nat×Nat)=>([c3 d],[.aH 0 6 0 d.size d.size,.aa (a:Nat),.aa (b:Nat),eN],a<b/\b<=d.size/\d.size<=1000000,[c3 d],.bc [.aa ((Go.Sort.choosePivot aY d a b).1:Nat),.aa<|xZ (Go.Sort.choosePivot aY d a b).2])):=by
 refine k9 [HR,Dd] V0.1 ?_;intro⟨d,a,b⟩ ⟨(M:a<b),(C:b<=d.size),(bZ:d.size<=_)⟩ H i0 aq af;obtain⟨N,rfl⟩:∃b,i0=[b]:=mU.1 af;show fB _ _ _ [c3 d] 1 [(0,.aH 0 6 0 d.size d.size),(1,.aa (a:Nat)),(2,.aa (b:Nat)),(3,eN)];refine I 11<|cj 17 ((b-a:Nat):Int)<|I 13 (xY 20 4 (m:=b-a)<|I 1<|cj 21 (((b-a)/4*1:Nat):Int)<|I 1<|cj 22 ((a+(b-a)/4*1:Nat):Int)<|I 8 (xY 25 4 (m:=b-a)<|I 1<|cj 26 (((b-a)/4*2:Nat):Int)<|I 1<|cj 27 ((a+(b-a)/4*2:Nat):Int)<|I 8 (xY 30 4 (m:=b-a)<|I 1<|cj 31 (((b-a)/4*3:Nat):Int)<|I 1<|cj 32 ((a+(b-a)/4*3:Nat):Int)<|I 10 ?_)));have D:De d a b=(if 8<=b-a then
  if 50<=b-a then
   let u:=Go.Sort.medianAdjacent aY d (a+(b-a)/4*1) 0
   let V:=Go.Sort.medianAdjacent aY d (a+(b-a)/4*2) u.2
   let o:=Go.Sort.medianAdjacent aY d (a+(b-a)/4*3) V.2
   Go.Sort.median aY d u.1 V.1 o.1 o.2
  else Go.Sort.median aY d (a+(b-a)/4*1) (a+(b-a)/4*2) (a+(b-a)/4*3) 0
 else(a+(b-a)/4*2,0)):=rfl
 refine gZ (L:=Nat×Nat) (λx=>De d a b=x) (λx=>⟨[c3 d,tN x.2],2,[(11,.p 1 0),(13,.aa (x.1:Nat))]⟩) ?_ ?_
 .by_cases W:8<=b-a
  .rw[aD W]at D;refine cM 34<|I 6 ?_;by_cases q:50<=b-a
   .rw[aD q]at D;dsimp only at D;have E:12<=(b-a)/4:=by omega
    have F:=NM (d:=d) (a:=a+(b-a)/4*1-1) (b:=a+(b-a)/4*1) (c:=a+(b-a)/4*1+1) (s:=0) (n:=d.size) (m:=0) R R R<|c5 _;have t:=NM (d:=d) (a:=a+(b-a)/4*2-1) (b:=a+(b-a)/4*2) (c:=a+(b-a)/4*2+1) (n:=d.size) R R R F.2;have w:=NM (d:=d) (a:=a+(b-a)/4*3-1) (b:=a+(b-a)/4*3) (c:=a+(b-a)/4*3+1) (n:=d.size) R R R t.2;refine cM 36<|I 8<|tM HR (d,a+(b-a)/4*1,0) ⟨R,R,R,bZ⟩ ?_;refine I 8<|tM HR (d,a+(b-a)/4*2,_) ⟨R,R,ch F.2 R,bZ⟩ ?_;refine I 7<|tM HR (d,a+(b-a)/4*3,_) ⟨R,R,ch t.2 R,bZ⟩ ?_;refine I 9<|tM Dd (d,_,_,_,_) ⟨F.1,t.1,w.1,ch w.2 R,bZ⟩ ?_;exact I 2<|bB [0,1] _ D bk
   .rw[av q]at D;refine cI 36<|I 11<|tM Dd (d,a+(b-a)/4*1,a+(b-a)/4*2,a+(b-a)/4*3,0) ⟨R,R,R,R,bZ⟩ ?_;exact I 2<|bB [0,1] _ D bk
  .rw[av W]at D;exact cI 34<|I 2<|bB [0,1] _ D bk
 rintro⟨J,s⟩ eF;have A:=anc d a b;rw[eF]at A;dsimp only at A;refine I 9 ?_;by_cases Y:s=0
 .rw[aD Y]at A;exact cM 58<|I 13<|bn aqA
 rw[av Y]at A;refine cI 58<|I 7 ?_;by_cases G:s=12
 .rw[aD G]at A;exact cM 61<|I 13<|bn aqA
 .rw[av G]at A;exact cI 61<|I 13<|bn aqA
theorem ZP(hm:m<18446744073709551616)(aj:n<18446744073709551616):IntKind.u64.wrap (BitVec.ofInt 64 (m:Int)^^^BitVec.ofInt 64 (n:Int)).toNat=((m^^^n:Nat):Int):=by
 have h:=Nat.xor_lt_two_pow (n:=64) hm aj
 grind [Ks]
def HS(r:UInt64):r.toNat<18446744073709551616:=r.toNat_lt
def ZQ(r:UInt64)(k:Nat)(aw:k<64)(aj:n=r.toNat*2^k%18446744073709551616):ag.i .u64 (IntKind.u64.wrap (BitVec.ofInt 64 (r.toNat:Int)^^^BitVec.ofInt 64 (n:Int)).toNat)= .i .u64 ((r^^^(r<<<UInt64.ofNat k)).toNat:Nat):=by
 have h:n=(r<<<UInt64.ofNat k).toNat:=by
  rw[UInt64.toNat_shiftLeft,UInt64.toNat_ofNat',oP (show k<2^64 by omega),oP aw,IP,aj]
 rw[ZP (HS r) R,h,<-UInt64.toNat_xor]
def ane(r:UInt64)(k:Nat)(aw:k<64)(aj:n=r.toNat/2^k):ag.i .u64 (IntKind.u64.wrap (BitVec.ofInt 64 (r.toNat:Int)^^^BitVec.ofInt 64 (n:Int)).toNat)= .i .u64 ((r^^^(r>>>UInt64.ofNat k)).toNat:Nat):=by
 have h:n=(r>>>UInt64.ofNat k).toNat:=by
  rw[UInt64.toNat_shiftRight,UInt64.toNat_ofNat',oP (show k<2^64 by omega),oP aw,Nat.shiftRight_eq_div_pow,aj]
 rw[ZP (HS r)<|by rw[h];exact HS _,h,<-UInt64.toNat_xor]
abbrev Ab(r:UInt64):aZ:=.c 418 [.i .u64 (r.toNat:Nat)]
def ZR:bl 378 (kJ λ(r:UInt64)=>([Ab r],[.p 0 0],True,[Ab<|Go.Sort.xorNext r],.i .u64 ((Go.Sort.xorNext r).toNat:Nat))):=by
 refine k9 [] Ux.1 ?_;intro(r:UInt64) _ H i0 aq af;refine I 15<|dF 10 _ j j (ZQ r 13 ai j) ?_;obtain⟨eG,Y⟩:∃eG,eG=r^^^(r<<<UInt64.ofNat 13):=dN;rw[<-Y];refine I 14<|dF 19 _ j j (ane eG 7 ai j) ?_;obtain⟨fD,G⟩:∃fD,fD=eG^^^(eG>>>UInt64.ofNat 7):=dN;rw[<-G];refine I 14<|dF 28 _ j j (ZQ fD 17 ai j) ?_;obtain⟨m5,A⟩:∃m5,m5=fD^^^(fD<<<UInt64.ofNat 17):=dN;rw[<-A];have e:m5=Go.Sort.xorNext r:=by rw[A,G,Y];rfl
 subst e;exact I 13<|bn ⟨.inr j,l7,[0],j,fU⟩
def HT(n:Nat):Go.Sort.bitsLen n=bG n:=by rfl
def anf(bX:0<n):1<<<Go.Sort.bitsLen n<=2*n/\n<1<<<Go.Sort.bitsLen n:=by
 rw[Go.Sort.bitsLen,av R,IP];have Y:=Nat.log2_self_le (n:=n) R;have G:n<2^(Nat.log2 n+1):=Nat.lt_log2_self;omega
theorem ZS:bl 377 (bV λ(n:Nat)=>([.aa (n:Nat)],n<=1000000,.i .u64 ((1<<<Go.Sort.bitsLen n:Nat):Int))):=by
 apply bL [(188,xI)] Uw.1;intro(n:Nat) (aj:n<=1000000) H aq;refine I 9<|aJ 4 (.i .u64 n) j apt<|aS Nz n (by show n<_;omega) ?_;have C:bG n<=20:=by
  rw[<-HT];unfold Go.Sort.bitsLen;split
  .omega
  .have:=(Nat.log2_lt (k:=20) R).2 R;omega
 refine u6 ?_;have h:(2:Nat)^bG n<=2^20:=j0 ai C;show ag.i .u64 ((1*2^bG n%18446744073709551616:Nat):Int)= .i .u64 ↑(1<<<Go.Sort.bitsLen n);rw[HT,IP,oP R]
def HU(d:bi aE)(a b:Nat):Nat->UInt64×bi aE
 |0=>(UInt64.ofNat<|b-a,d)
 |k+1=>Go.Sort.breakStep a (b-a) (1<<<Go.Sort.bitsLen (b-a)) (HU d a b k)<|a+(b-a)/4*2-1+k
def ang(h:8<=b-a):Go.Sort.breakPatterns d a b=(HU d a b 3).2:=by
 rw[Go.Sort.breakPatterns,aD h];rfl
def ZT:bl 298 (kJ λ((d,a,b):bi aE×Nat×Nat)=>([c3 d],[.aH 0 6 0 d.size d.size,.aa (a:Nat),.aa (b:Nat),eN],a+8<=b/\b<=d.size/\d.size<=1000000,[c3<|Go.Sort.breakPatterns d a b],.bc [])):=by
 refine k9 [ZS,ZR] U7.1 ?_;intro⟨d,a,b⟩ ⟨(Y:a+8<=b),(C:b<=d.size),(bZ:d.size<=_)⟩ H i0 aq af;obtain⟨G,rfl⟩:∃b,i0=[b]:=mU.1 af;show bM.ok _ ⟨_,_,⟨[c3 d],1,[(0,.aH 0 6 0 d.size d.size),(1,.aa (a:Nat)),(2,.aa (b:Nat)),(3,eN)]⟩⟩;refine I 5<|cj 15 ((b-a:Nat):Int)<|I 7<|cM 17<|I 7<|aJ 19 (.i .u64 ((UInt64.ofNat<|b-a).toNat:Nat)) j (by show ag.i .u64 (((b-a)%18446744073709551616:Nat):Int)=_;rw[UInt64.toNat_ofNat'])<|I 7<|aS ZS (b-a) (by show b-a<=_;omega) ?_;obtain⟨m,hm⟩:∃m,m=1<<<Go.Sort.bitsLen (b-a):=dN;have u:=anf (n:=b-a) R;rw[<-hm]at u;refine aJ 21 (.i .u64 (m:Nat)) j (by rw[hm])<|I 8 (xY 24 4 (m:=b-a)<|I 1<|cj 25 (((b-a)/4*2:Nat):Int)<|I 1<|cj 26 ((a+(b-a)/4*2:Nat):Int)<|I 1<|cj 27 ((a+(b-a)/4*2-1:Nat):Int)<|I 4<|ea (L:=Nat×UInt64×bi aE) (λ(k,r,w)=>k<=3/\w.size=d.size/\HU d a b k=(r,w)) (λ((k:Nat),(r:UInt64),(w:bi aE))=>⟨[c3 w,Ab r],2,[(0,.aH 0 6 0 d.size d.size),(1,.aa (a:Nat)),(8,.aa ((b-a:Nat):Int)),(9,.p 1 0),(10,.i .u64 (m:Nat)),(11,.aa ((a+(b-a)/4*2-1+k:Nat):Int))]⟩) (λx=>3-x.1) [0,1] (0,UInt64.ofNat<|b-a,d) ⟨R,j,j⟩ (by show 3-0<bs+1;unfold bs;omega) bk ?_);rintro⟨k,r,w⟩ ⟨N,F,Z⟩;have T:w.toList.length=d.size:=by rw[hS];exact F
 refine I 7<|xY 31 4 (m:=b-a)<|I 1<|cj 32 (((b-a)/4*2:Nat):Int)<|I 1<|cj 33 ((a+(b-a)/4*2:Nat):Int)<|I 1<|cj 34 ((a+(b-a)/4*2+1:Nat):Int)<|I 1 ?_;by_cases A:k<3
 case neg=>
  refine cI 35 ?_;have e:w=Go.Sort.breakPatterns d a b:=by
   rw[ang R,show 3=k by omega,Z]
  subst e;exact I 7<|bn aqn
 refine cM 35<|I 9<|lC ZR 1 r az ?_ (U:=Ab r) (cv:=Ab<|Go.Sort.xorNext r) (aw:=gJ) (ay:=j);obtain⟨q,D⟩:∃q,q=Go.Sort.xorNext r:=dN;rw[<-D];refine I 2 ?_;refine aJ 40 (.i .u64 ((m-1:Nat):Int)) j (by
  show ag.i .u64 (((m+(18446744073709551616*1-1))%18446744073709551616:Nat):Int)=_;rw[show(m+(18446744073709551616*1-1))%18446744073709551616=m-1 by omega]) ?_
 have t:q.toNat&&&(m-1)<=m-1:=Nat.and_le_right;obtain⟨U,E⟩:∃U,U=q.toNat&&&(m-1):=dN;rw[<-E]at t;refine I 1 ?_;refine aJ 41 (.i .u64 (U:Nat)) j (by
  have M:=HS q;rw[E];rw[D]at M⊢;show ag.i .u64 ((((Go.Sort.xorNext r).toNat%18446744073709551616)&&&((m-1)%18446744073709551616):Nat):Int)=_;rw[oP M,oP (show m-1<18446744073709551616 by omega)]) ?_
 refine I 1<|cj 42 ((U:Nat):Int)<|I 11<|gZ (L:=Nat) (λp=>p=if b-a<=U then U-(b-a)else U) (λ(p:Nat)=>⟨[c3 w,Ab q],2,[(0,.aH 0 6 0 d.size d.size),(1,.aa (a:Nat)),(8,.aa ((b-a:Nat):Int)),(9,.p 1 0),(10,.i .u64 (m:Nat)),(11,.aa ((a+(b-a)/4*2-1+k:Nat):Int)),(12,.aa (p:Nat))]⟩) ?_ ?_
 .by_cases O:b-a<=U
  .exact cM 45<|I 5<|cj 48 ((U-(b-a):Nat):Int)<|I 2<|bB [0,1] (U-(b-a)) (by rw[aD O]) bk
  .exact cI 45<|I 2<|bB [0,1] U (by rw[av O]) bk
 rintro(p:Nat) (hp:p=_);have W:p<b-a:=by rw[hp];split<;>omega
 obtain⟨x,eF⟩:∃x,x=a+(b-a)/4*2-1+k:=dN;have V:x<d.size:=R
 rw[<-eF];refine I 7<|ww 58 ((a+p:Nat):Int)<|cP j j (ey w.toList[a+p] (aO R) ?_) (ba:=R);refine I 2<|cP j j (ey w.toList[x] (aO R) ?_) (ba:=R);refine cP j j (il w.toList[a+p] (w:=w.toList[x]) (aO R) ?_) (ba:=R);refine I 4<|ww 54 ((a+p:Nat):Int)<|cP j j (il (l:=w.toList.set (x) w.toList[a+p]) (ah:=hg) w.toList[x] (J:=a+p) (aO dM) ?_) (ba:=R);refine I 8 ?_;have a':=nV (c:=w) (i:=x) (J:=a+p) R R;refine bB [0,1] (k+1,q,Go.Sort.swp w x<|a+p) ⟨by show 3-(k+1)<3-k;omega,R,by rw[swp_size];exact F,?_⟩<|bk (aC:=⟨⟨_,congrArg (λw=>some<|aZ.a 197 true 6 aE hg w) a',j,λ_=>j⟩,gJ,az⟩);show Go.Sort.breakStep a (b-a) (1<<<Go.Sort.bitsLen (b-a)) (HU d a b k) (a+(b-a)/4*2-1+k)=_;rw[Z,<-eF,<-hm];unfold Go.Sort.breakStep;dsimp only;rw[<-D,<-E,hp]
set_option maxHeartbeats 8000000
def Ac(n:Nat):gv:=kJ λ((d,a,b,l):bi aE×Nat×Nat×Nat)=>([c3 d],[.aH 0 6 0 d.size d.size,.aa (a:Nat),.aa (b:Nat),.aa (l:Nat),eN],b-a<=n+12/\a<=b/\b<=d.size/\l<=64/\Go.Sort.Below aY a b d/\d.size<=1000000,[c3<|Go.Sort.pdq aY d a b l true true],.bc [])
def Ad{x y z:ag}(h:c.size=n):[ag.aH 0 6 0 n n,x,y,z]=[ag.aH 0 6 0 c.size c.size,x,y,z]:=by rw[h]
abbrev ZU(n:Nat)(c:bi aE)(a b l:Nat)(dp wp:Bool):cb:=⟨[c3 c],1,[(0,.aH 0 6 0 n n),(1,.aa (a:Nat)),(2,.aa (b:Nat)),(3,.aa (l:Nat)),(4,eN),(10,.b dp),(11,.b wp)]⟩
def HV{h:Go.Sort.Hint}{z:Int}{g:Go.Sort.Hint}(Z:z=xZ g):(xZ h=z)↔h=g:=by subst Z;cases h<;>cases g<;>simp[xZ]
def ZV{x y:Nat}:decide (((x:Nat):Int)>=((y:Nat):Int))=decide (x>=y):=by
 by_cases h:x>=y
 .rw[cm h,cm R]
 .rw[cp h,cp R]
def anh:et b5.ctx 187 (Ac 0).spec:=by
 refine k9 [HO] Gk.1 ?_;intro⟨d,a,b,l⟩ ⟨aj,Y,C,aB,F,bZ⟩ H i0 aq af;obtain⟨G,rfl⟩:∃b,i0=[b]:=mU.1 af;refine I 11<|eS (λ_=>True) (λ_=>ZU d.size d a b l true true) (λ_=>0) [0] () az ?_;rintro⟨⟩ _;refine I 6<|cj 23 ((b-a:Nat):Int)<|I 8<|cM 25<|I 9<|lC HO 0 (d,a,b) ⟨Y,C,bZ⟩ ?_;exact I 7<|bn ⟨.inr j,l7,[0],j,ik az ⟨_,by show some (c3 _)=some (c3 _);rw[ZE aj],j,λ_=>j⟩⟩
def ani(n:Nat)(aP:et b5.ctx 187 (Ac n).spec):et b5.ctx 187 (Ac<|n+1).spec:=by
 refine k9 [HO,ZG,ZT,ZO,ZC,ZL,ZK,ZJ,kR,(187,(Ac n).spec)] Gk.1 ?_;intro⟨d,ae,a',N⟩ ⟨(bf:a'-ae<=n+1+12),(bb:ae<=a'),(bd:a'<=d.size),(bh:N<=64),b',(bZ:d.size<=_)⟩ H i0 aq af;obtain⟨bo,rfl⟩:∃b,i0=[b]:=mU.1 af;show bM.ok _ ⟨_,_,⟨[c3 d],1,[(0,.aH 0 6 0 d.size d.size),(1,.aa (ae:Nat)),(2,.aa (a':Nat)),(3,.aa (N:Nat)),(4,eN)]⟩⟩;refine I 11<|eS (L:=bi aE×Nat×Nat×Nat×Bool×Bool) (λ(c,a,b,l,dp,wp)=>b-a<=n+1+12/\a<=b/\b<=d.size/\l<=64/\Go.Sort.Below aY a b c/\c.size=d.size/\Go.Sort.pdq aY c a b l dp wp=Go.Sort.pdq aY d ae a' N true true) (λ(c,a,b,l,dp,wp)=>ZU d.size c a b l dp wp) (λx=>x.2.2.1-x.2.1) [0] (d,ae,a',N,true,true) ⟨bf,bb,bd,bh,b',j,j⟩ ?_;rintro⟨c,a,b,l,dp,wp⟩ ⟨aj,Y,a0,aB,F,W,ai⟩;have fin:∀{w:bi aE},w=Go.Sort.pdq aY d ae a' N true true->some (c3 w)=some (c3<|Go.Sort.pdq aY d ae a' N true true):=λh=>by rw[h]
 refine I 6<|cj 23 ((b-a:Nat):Int)<|I 8 ?_;by_cases ak:b-a<=12
 .refine cM 25<|I 9<|lC HO 0 (c,a,b) ⟨Y,R,R⟩ ?_ (he:=Ad W);exact I 7<|bn ⟨.inr j,l7,[0],j,ik az ⟨_,fin<|(ZE ak).symm.trans ai,j,λ_=>j⟩⟩
 refine cI 25<|I 10 ?_;by_cases al:l=0
 .refine cM 32<|I 9<|lC ZG 0 (c,a,b) aro ?_ (he:=Ad W);exact I 7<|bn ⟨.inr j,l7,[0],j,ik az ⟨_,fin<|(amZ ak al).symm.trans ai,j,λ_=>j⟩⟩
 refine cI 32 ?_;have aK:=am4 (dp:=dp) Y (show b<=c.size by omega);have a7:=F.perm (show b<=c.size by omega) aK;have T:(mN c a b dp).size=d.size:=by rw[aK.1];exact W
 have M:=am5 (c:=mN c a b dp) (show a<b by omega) (show b<=(mN c a b dp).size by omega);have bj:px l dp<=64:=by unfold px;split<;>omega
 refine I 12<|gZ (L:=bi aE×Nat) (λx=>x.1=mN c a b dp/\x.2=px l dp) (λx=>⟨[c3 x.1],1,[(0,.aH 0 6 0 d.size d.size),(1,.aa (a:Nat)),(2,.aa (b:Nat)),(3,.aa (x.2:Nat)),(4,eN),(10,.b dp),(11,.b wp),(12,.aa ((b-a:Nat):Int))]⟩) ?_ ?_
 .cases dp with
  |true=>
   exact I 2<|dD [0] (c,l) fe
  |false=>
   refine I 7<|lC ZT 0 (c,a,b) aro ?_ (he:=Ad W);exact I 7<|bB [0] (Go.Sort.breakPatterns c a b,l-1) fe bk
 rintro⟨O,Z⟩ ⟨(aU:O=_),(G:Z=_)⟩;rw[<-aU]at aK a7 T M;refine I 6<|lC ZO 0 (O,a,b) aro ?_ (he:=Ad T);have bp:=Go.Sort.choosePivot_holds aY O a b (show a<b by omega);refine I 14<|gZ (L:=bi aE×Nat×Go.Sort.Hint) (λx=>ma O a b=x) (λx=>⟨[c3 x.1],1,[(0,.aH 0 6 0 d.size d.size),(1,.aa (a:Nat)),(2,.aa (b:Nat)),(3,.aa (Z:Nat)),(4,eN),(10,.b dp),(11,.b wp),(12,.aa ((b-a:Nat):Int)),(13,.aa (x.2.1:Nat)),(14,.aa<|xZ x.2.2)]⟩) ?_ ?_
 .by_cases V:(Go.Sort.choosePivot aY O a b).2= .decreasing
  .refine v1 56 ((HV (g:=.decreasing) j).2 V)<|I 7<|lC ZC 0 (O,a,b) aro ?_ (he:=Ad T);exact I 6<|cj 63 ((b-1:Nat):Int)<|I 3<|cj 66 (((Go.Sort.choosePivot aY O a b).1-a:Nat):Int)<|I 1<|cj 67 ((b-1-((Go.Sort.choosePivot aY O a b).1-a):Nat):Int)<|I 6<|dD [0] (Go.Sort.reverseRange O a b,b-1-((Go.Sort.choosePivot aY O a b).1-a),.increasing) (by unfold ma;rw[aD V,aD V,aD V])
  .refine v0 56 (λg=>V<|(HV (g:=.decreasing) j).1 g) ?_;exact I 2<|dD [0] (O,(Go.Sort.choosePivot aY O a b).1,(Go.Sort.choosePivot aY O a b).2) (by unfold ma;rw[av V,av V,av V])
 rintro⟨d2,gN,jE⟩ eF;have ay:ma (mN c a b dp) a b=(d2,gN,jE):=by rw[<-aU];exact eF
 rw[eF]at M;obtain⟨(M:Go.Sort.PermIn a b O d2),(a8:a<=gN),(aM:gN<b)⟩:=M;have a3:d2.size=d.size:=by rw[M.1];exact T
 have C:=a7.perm (show b<=O.size by omega) M;have aR:=am6 (x:=(d2,gN,jE)) (dp:=dp) (wp:=wp) (show a<b by omega) (show b<=d2.size by omega) C;have ah:(lg (d2,gN,jE) a b dp wp).1.size=d.size:=by rw[aR.1];exact a3
 have ar:=C.perm (show b<=d2.size by omega) aR;have a9:∀{d3},lg (d2,gN,jE) a b dp wp=(d3,true)->d3=Go.Sort.pdq aY d ae a' N true true:=λh=>(am0 ak al ay h).symm.trans ai;refine zn (L:=bi aE) (λd3=>lg (d2,gN,jE) a b dp wp=(d3,false)) (λd3=>⟨[c3 d3],1,[(0,.aH 0 6 0 d.size d.size),(1,.aa (a:Nat)),(2,.aa (b:Nat)),(3,.aa (Z:Nat)),(4,eN),(10,.b dp),(11,.b wp),(12,.aa ((b-a:Nat):Int)),(13,.aa (gN:Nat))]⟩) ?_ ?_
 .have no:(dp&&wp&&decide (jE= .increasing))=false->lg (d2,gN,jE) a b dp wp=(d2,false):=λh=>by
   unfold lg;dsimp only;rw[h];rfl
  cases dp with
  |false=>
   exact I 14<|dD [0] d2 (no j)
  |true=>
   cases wp with
   |false=>
    exact I 15<|dD [0] d2 (no j)
   |true=>
    refine I 15 ?_;by_cases V:jE= .increasing
    .have E:lg (d2,gN,jE) a b true true=Go.Sort.partialInsertionSort aY d2 a b:=by
      unfold lg;dsimp only;rw[V];rfl
     refine v1 75 ((HV (g:=.increasing) j).2 V)<|I 7<|lC ZL 0 (d2,a,b) aro ?_ (he:=Ad a3);cases u:(Go.Sort.partialInsertionSort aY d2 a b).2 with
     |true=>
      exact aJ 80 (.b true) j (by show ag.b _=_;rw[u])<|I 8<|bn ⟨.inr j,l7,[0],j,ik az ⟨_,fin<|a9<|E.trans<|by rw[<-u],j,λ_=>j⟩⟩
     |false=>
      exact aJ 80 (.b false) j (by show ag.b _=_;rw[u])<|I 4<|dD [0] (Go.Sort.partialInsertionSort aY d2 a b).1 (E.trans<|by rw[<-u])
    .refine v0 75 (λg=>V<|(HV (g:=.increasing) j).1 g) ?_;exact I 2<|dD [0] d2 (no<|by rw[cp V];rfl)
 rintro d3 (E:lg (d2,gN,jE) a b dp wp=(d3,false));rw[E]at ah ar;replace ah:d3.size=d.size:=ah;replace ar:Go.Sort.Below aY a b d3:=ar;have bl:d3.toList.length=d.size:=by rw[hS];exact ah
 refine zn (L:=Unit) (λ_=>¬(0<a/\aY d3[a-1]! d3[gN]! =false)) (λ_=>⟨[c3 d3],1,[(0,.aH 0 6 0 d.size d.size),(1,.aa (a:Nat)),(2,.aa (b:Nat)),(3,.aa (Z:Nat)),(4,eN),(10,.b dp),(12,.aa ((b-a:Nat):Int)),(13,.aa (gN:Nat))]⟩) ?_ ?_
 .refine I 5 ?_;by_cases aG:0<a
  .refine eJ 83 (show(((a:Nat):Int)>0) by omega)<|I 8 (ww 87 ((a-1:Nat):Int)<|I 1<|cP j j (I 1<|ey d3.toList[a-1] (aO R) ?_) (ba:=R));refine I 5<|cP j j (I 1<|ey d3.toList[gN] (aO R) ?_) (ba:=R);refine I 1<|oz kR (d3.toList[a-1],d3.toList[gN]) az<|I 7 ?_;by_cases A:h8 d3.toList[a-1].n d3.toList[gN].n<0
   .refine vD 97 A ?_;exact I 2<|dD [0] () λg=>by have:=g.2;rw[eI R,eI R,pv A]at this;cases this
   .have a2:aY d3[a-1]! d3[gN]! =false:=by rw[eI R,eI R];exact pw A
    refine vC 97 A ?_;refine I 8<|lC ZK 0 (d3,a,b,gN) ⟨R,R,R,R⟩ ?_ (he:=z9 ah);obtain⟨ef,d4,D⟩:∃ef d4,Go.Sort.partitionEqual aY d3 a b gN=(ef,d4):=⟨_,_,j⟩;obtain⟨eG,fD,m5,u7,_⟩:=Go.Sort.round_eq z8 (Go.Sort.partitionEqual_holds aY) aG a8 aM (show b<=d3.size by omega) ar a2 D;have q:=(am1 ak al ay E aG a2 D ⟨eG,fD⟩).symm.trans ai;rw[<-G]at q;exact I 12<|bB [0] (d4,ef,b,Z,dp,wp) ⟨by show b-ef<b-a;omega,R,fD,a0,R,u7,R,q⟩ (fU (aC:=⟨⟨_,by show some (c3 (Go.Sort.partitionEqual aY d3 a b gN).2)=some (c3 d4);rw[D],j,λ_=>j⟩,az⟩) (aI:=⟨j,by show some (ag.aa ((Go.Sort.partitionEqual aY d3 a b gN).1:Nat))=some (.aa (ef:Nat));rw[D],j,j,j,j,j,az⟩))
  .exact dJ 83 (show¬(((a:Nat):Int)>0) by omega)<|I 18<|dD [0] () λg=>aG g.1
 rintro⟨⟩ aT;obtain⟨ef,ap,d4,D⟩:∃ef ap d4,Go.Sort.partition aY d3 a b gN=(ef,ap,d4):=⟨_,_,_,j⟩;obtain⟨eG,fD,m5,u7,zD,zE,zF⟩:=Go.Sort.round_part z8 (Go.Sort.partition_holds aY) a8 aM (show b<=d3.size by omega) ar D;have au:d4.size=d.size:=m5.trans ah;refine I 7<|lC ZJ 0 (d3,a,b,gN) ⟨R,R,R,R⟩ ?_ (he:=z9 ah);refine aJ 111 (.bc [.aa (ef:Nat),.b ap]) j (by show ag.bc [.aa ((Go.Sort.partition aY d3 a b gN).1:Nat),.b (Go.Sort.partition aY d3 a b gN).2.1]=_;rw[D])<|I 18<|cj 117 ((ef-a:Nat):Int)<|I 3<|cj 120 ((b-ef:Nat):Int)<|I 8 (xY 122 8 (m:=b-a)<|I 8 ?_);have aS:∃gw,[aZ.a 197 true 6 aE hg (Go.Sort.partition aY d3 a b gN).2.2.toList][0]? =some gw/\kG [0] (c3 d4) gw:=⟨_,j,by rw[D],λ_=>j⟩;by_cases aW:ef-a<b-ef
 .have q:=(am2 ak al ay E aT D ⟨eG,fD⟩ aW).symm.trans ai;rw[<-G]at q;obtain⟨ao,aF⟩:=Go.Sort.pdq_sorts aY z8 d4 a ef Z true true R R u7;obtain⟨aA,_⟩:=zE _ ao aF;refine cM 125<|I 18<|lC aP 0 (d4,a,ef,Z) ⟨R,R,R,R,u7,R⟩ ?_ (U:=c3 d4) (aw:=aS) (he:=z9 au);exact I 5<|cj 136 ((ef+1:Nat):Int)<|I 3<|bB [0] (Go.Sort.pdq aY d4 a ef Z true true,ef+1,b,Z,decide (ef-a>=(b-a)/8),ap) ⟨by show b-(ef+1)<b-a;omega,R,R,a0,R,aA,by rw[ao.1];exact au,q⟩ asq
 .have q:=(am3 ak al ay E aT D ⟨eG,fD⟩ aW).symm.trans ai;rw[<-G]at q;obtain⟨ao,aF⟩:=Go.Sort.pdq_sorts aY z8 d4 (ef+1) b Z true true R R zD;obtain⟨aA,_⟩:=zF _ ao aF;refine cI 125<|I 16<|cj 142 ((ef+1:Nat):Int)<|I 3<|lC aP 0 (d4,ef+1,b,Z) ⟨R,R,R,R,zD,R⟩ ?_ (U:=c3 d4) (aw:=aS) (he:=z9 au);exact I 7<|bB [0] (Go.Sort.pdq aY d4 (ef+1) b Z true true,a,ef,Z,decide (b-ef>=(b-a)/8),ap) ⟨by show ef-a<b-a;omega,R,R,R,R,aA,by rw[ao.1];exact au,q⟩ asq
def anj(n:Nat):et b5.ctx 187 (Ac n).spec:=by
 induction n with
 |zero=>exact anh
 |succ n I=>exact ani n I
end Go.bC.dg
namespace Go.bC.dg
open Go.bC
open Sym
variable{X:Ctx}
variable{b:Nat}{cs ab:ac bv}
def NO(ck:Nat)(l:ac Int):B1:=⟨λN v=>∃b U c ab el I aR,v= .slice (some ⟨b,U,none⟩) l.length c/\l.length<=c/\ck<=b/\N b=some (.cells ab el I aR)/\∀i x,l[i]? =some x->ab[U+i]? =some (.int .i64 x),
 λh _ ⟨b,U,c,ab,el,I,aR,e,W,aj,j,d⟩=>⟨b,U,c,ab,el,I,aR,e,W,aj,h _ _ j,d⟩,true,λ_ _ _ ⟨_,_,_,_,_,_,_,e,_⟩=>by rw[e];rfl⟩
def vE(ck:Nat)(t:cV):ac ag:=[.s t.b3,.g<|NO ck t.dO]
def lh(st:ak)(cs:ac bv):ak:=match cs with
 |[]=>⟨st.h,st.ae+1⟩
 |cs=>st.new<|.cells cs 0 (0,cs.length) true
def Ae(st:ak)(cs:ac bv):(lh st cs).ae=st.ae+1:=by cases cs<;>rfl
def HW(st:ak)(cs:ac bv)(ay:b≠st.ae):(lh st cs).h.get b=st.h.get b:=by
 cases cs with
 |nil=>rfl
 |cons d j=>exact ao.fk _ _ ay
def ZW(st:ak)(h:cs≠[]):(lh st cs).h.get st.ae=some (.cells cs 0 (0,cs.length) true):=by
 cases cs with
 |nil=>exact absurd j h
 |cons d o=>exact ao.mm _ _ _
def ZX{st:ak}(h:∀i,st.ae<=i->st.h.get i=none):∀i,(lh st cs).ae<=i->(lh st cs).h.get i=none:=λi af=>by
 rw[Ae]at af;rw[HW _ _ R];exact h i R
theorem ZY{ad T aF:bH}{st b8 a':ak}{dJ w:f5}(Z:eb ad T dJ w)(ai:bQ X T b8 w)(D:∀i,st.ae<=i->ad i=none)(hold:∀b,b<st.ae->b8.h.get b=st.h.get b)(h:Way X ad st b8 T dJ w a' aF){n U c:Nat}(al:cs≠[])(ay:st.ae<=b){el:co}{I:Nat×Nat}{aR:Bool}(O:b8.h.get b=some (.cells ab el I aR))
 (bZ:∀i (h:i<cs.length),∃x,ab[U+i]? =some x/\∀u,bd T x u->bd aF cs[i] u) (aQ:n<=c) (aj:0<n):
 ∃ah,Way X ad st b8 T dJ w (lh a' cs) ah/\aF.le ah/\∀u,bd T (.slice (some ⟨b,U,none⟩) n c) u->bd ah (.slice (some ⟨a'.ae,0,none⟩) n n) u:=by
 obtain⟨l,aB,C,aE,L⟩:=ai.eB _ _ O au;have aJ:=oV.2 al;have aO:U+cs.length<=ab.length:=by
  obtain⟨x,eF,_⟩:=bZ (cs.length-1) R;have:=(dP.1 eF).1;omega
 have aT:=L.jK;have hle:aF.le (gD aF a'.ae ⟨l.cx,l.de+U,c+l.ex-n,eU⟩):=λi aS af=>by
  show(if i=_ then _ else aF i)=_;rw[av];exact af;intro e;subst e;rw[(h.wr.fresh _<|c5 _).1]at af;cases af
 have H:∀i p m,a'.h.get i=some p->p≠.dead->aF i=some m->(m.bF≠eU\/eU≠eU)->m.cx≠l.cx:=λi p m hp t hm V e=>by
  have V:=V.elim id λh=>absurd j h;rcases h.obj i p m hp t hm with⟨Y,aI,A⟩|⟨Y,_⟩
  .have:=ai.inj i b p _ m l (by rw[hold i Y];exact A) t O au (Z.le _ _ aI) aB (.inl V) e;omega
  .exact V Y
 have aK:hz X (gD aF a'.ae ⟨l.cx,l.de+U,c+l.ex-n,eU⟩) w (.cells cs 0 (0,cs.length) true) ⟨l.cx,l.de+U,c+l.ex-n,eU⟩:=by
  have aa:¬((0,cs.length).2<=(0,cs.length).1\/true=false):=λh=>by
   rcases h with h|h
   .have h:=h;omega
   .cases h
  obtain⟨G,Y,_⟩:=L.there;refine⟨C,aE,⟨G,Y,λh=>absurd h aa⟩,?_,λh=>absurd h aa,λi af=>?_,λh=>absurd (.inl h) aa,λh=>by cases h⟩
  .show l.de+U+cs.length<=_;omega
  .obtain⟨x,eF,az⟩:=bZ i af;obtain⟨u,aM,ar⟩:=L.cell (U+i) R;have aA:ab[U+i]'R=x:=by grind
   rw[aA]at ar;refine⟨u,?_,(az u ar).mono hle⟩;rw[<-aM];rw[rM]
 obtain⟨bJ,aC⟩:=bQ.name h.wr aK (ai.fK b l aB) H λ_=>aJ;have F:lh a' cs=⟨a'.h.set a'.ae<|.cells cs 0 (0,cs.length) true,a'.ae+1⟩:=by cases cs<;>first|exact absurd j al|rfl
 have aH:=D _ h.ae;have aw:=D _ ay;rw[F];refine⟨_,⟨bJ,h.sy.name aH ?_,sO h.ae,λi p m hp t hm=>?_⟩,aC,λu M=>?_⟩
 .rcases Z.new b l aB with q|q|q
  .rw[aw]at q;cases q
  .exact .inl q
  .exact .inr q
 .rw[ao.eo]at hp;have hm:(if i=a'.ae then some _ else aF i)=some m:=hm;by_cases e:i=a'.ae
  .rw[aD e]at hm;cases hm;exact .inr ⟨j,b,ab,el,I,aR,l,O,aB,j⟩
  .rw[av e]at hp hm;exact h.obj i p m hp t hm
 .cases M with
  |ft _ aP N _ _ W aN E=>
   rw[aB]at W;cases W;have E:=E.elim id λh=>R
   subst E;have e:c+l.ex=n+(c+l.ex-n):=R
   have q:bd (gD aF a'.ae ⟨l.cx,l.de+U,c+l.ex-n,eU⟩) (.slice (some ⟨a'.ae,0,none⟩) n n) (.slice (some ⟨l.cx,l.de+U,none⟩) n<|n+(c+l.ex-n)):=
    .ft ⟨a'.ae,0,none⟩ ⟨l.cx,l.de+U,c+l.ex-n,eU⟩ (l.de+U) _ _ (aD j) j m2
   rw[<-e]at q;exact q
def kS(l:ac Int):ac bv:=l.map λn=>.int .i64 n
def ZZ(n:Nat)(l:ac Int):bv:=match l with
 |[]=>.chan none
 |l=>.slice (some ⟨n,0,none⟩) l.length l.length
def hE:ac cV->ak->ac bv×ak
 |[],st=>([],st)
 |t::l,st=>(.string ⟨⟨t.b3⟩⟩::ZZ st.ae t.dO::(hE l<|lh st<|kS t.dO).1,(hE l<|lh st<|kS t.dO).2)
theorem Z0:∀(l:ac cV) (st:ak),st.ae<=(hE l st).2.ae
 |[],_=>c5 _
 |t::l,st=>by have:=Z0 l<|lh st<|kS t.dO;rw[Ae]at this;show _<=(hE l<|lh st<|kS t.dO).2.ae;omega
theorem NP:∀(l:ac cV) (st:ak) {b:Nat},b<st.ae->(hE l st).2.h.get b=st.h.get b
 |[],_,_,_=>rfl
 |t::l,st,b,ay=>by
  show(hE l<|lh st<|kS t.dO).2.h.get b=_;rw[NP l _<|by rw[Ae];omega,HW _ _ R]
theorem NQ:∀(l:ac cV) (st:ak),(∀b,st.ae<=b->st.h.get b=none)->∀b,(hE l st).2.ae<=b->(hE l st).2.h.get b=none
 |[],_,h=>h
 |t::l,st,h=>NQ l (lh st<|kS t.dO)<|ZX h
def ank{g:bb}{l:ac Int}(h:g b=some (.cells (kS l) 0 (0,(kS l).length) true)):den g (.cd 1 Int er l) [] (.slice (some ⟨b,0,none⟩) l.length l.length):=by
 refine .inr<|.inr ⟨b,0,l.length,kS l,0,(0,(kS l).length),true,j,c5 _,h,λi x eF=>?_⟩;have af:=(dP.1 eF).1;have eF:=(dP.1 eF).2;have aB:(kS l).length=l.length:=by simp[kS]
 have e:((kS l).drop<|0+i*1).take 1=[.int .i64 x]:=by
  rw[show 0+i*1=i by omega,fj R];simp[IB,DE,kS,sP,eF]
 rw[e];exact ar4 ar4
theorem Z1:∀(l:ac cV) (st:ak) (J:Nat) (t:cV),l[J]? =some t->∀{g:bb},(∀b U,st.ae<=b->(hE l st).2.h.get b=some U->g b=some U)->cG g (h7 t) [] (((hE l st).1.drop<|J*2).take 2)
 |[],_,_,_,h,_,_=>by simp at h
 |t::l,st,0,I,h,g,O=>by
  cases h;refine⟨_,_,j,j,_,_,j,?_,j⟩;cases hp:t.dO with
  |nil=>exact .inl fe
  |cons p a7=>
   refine ank<|O _ _ (c5 _) ?_;show(hE l<|lh st<|kS t.dO).2.h.get st.ae=_;rw[NP _ _<|by rw[Ae];omega,ZW _<|by rw[hp];simp[kS],hp]
 |t::l,st,J+1,I,h,g,O=>by
  have e:((hE (t::l) st).1.drop<|(J+1)*2).take 2=((hE l<|lh st<|kS t.dO).1.drop<|J*2).take 2:=by
   rw[show(J+1)*2=J*2+1+1 by omega];rfl
  rw[e];exact Z1 l _ J I h λb U C E=>O b U (by rw[Ae]at C;omega) E
def anl{a b:bv}(h:ab.take 2=[a,b]):∃r,ab=a::b::r:=by
 match ab,h with
 |x::y::r,h=>cases h;exact⟨r,j⟩
theorem Z2{ad T:bH}{st b8:ak}{dJ w:f5}(Z:eb ad T dJ w)(E:bQ X T b8 w)(D:∀i,st.ae<=i->ad i=none)(hold:∀b,b<st.ae->b8.h.get b=st.h.get b){H1:bb}(N:∀b U,H1 b=some U->b8.h.get b=some U):
 ∀(l:ac cV) (ab:ac bv) {R:ak} {aF:bH},Way X ad st b8 T dJ w R aF->(∀i t,l[i]? =some t->cG H1 (vE st.ae t) [] ((ab.drop<|i*2).take 2))->
  ∃O,Way X ad st b8 T dJ w (hE l R).2 O/\aF.le O/\∀(J:Nat) (h:J<(hE l R).1.length),∃x,ab[J]? =some x/\∀u,bd T x u->bd O (hE l R).1[J] u
 |[],_,R,aF,h,_=>⟨aF,h,bH.le.refl _,λJ aC=>by simp[hE]at aC⟩
 |t::l,ab,R,aF,h,bZ=>by
  obtain⟨v1,az,H,aC,aA,q,jt,aI,A⟩:=bZ 0 t j;subst A jt;obtain⟨ai,rfl⟩:=anl (by exact H);subst aC;obtain⟨b,U,c,F,el,ay,aR,rfl,al,C,a',aa⟩:=aI;have one:∃Y,Way X ad st b8 T dJ w (lh R<|kS t.dO) Y/\aF.le Y/\∀u,bd T (.slice (some ⟨b,U,none⟩) t.dO.length c) u->bd Y (ZZ R.ae t.dO) u:=by
   cases hp:t.dO with
   |nil=>exact asw asw
   |cons p ar=>
    refine ZY Z E D hold h (by simp[kS]) C (N _ _ a') (λi af=>?_) (by rw[<-hp];exact al) au;have aj:i<(p::ar).length:=by simpa[kS]using af
    refine⟨_,aa i _<|by rw[hp];exact aO aj,λu M=>?_⟩;cases M;simp only[kS,sP];exact .int _ _
  obtain⟨Y,W,I,a0⟩:=one;obtain⟨aw,L,G,ah⟩:=Z2 Z E D hold N l ai W λi ao jE=>by
   have:=bZ (i+1) ao jE;rw[show(i+1)*2=i*2+1+1 by omega]at this;exact this
  refine⟨aw,L,I.trans G,λJ V=>?_⟩
  match J,V with
  |0,_=>exact⟨_,j,λu M=>by cases M;exact .string _⟩
  |1,_=>exact⟨_,j,λu M=>(a0 u M).mono G⟩
  |J+2,V=>exact ah J<|by simp[hE,hQ]at V;omega
structure Af(st:ak)(l:ac cV)(v:bv)(b8:ak)(H1:bb):Prop where
 val:(l=[]∧v= .slice none 0 0)∨l≠[]∧∃b c ab el aR,v= .slice (some ⟨b,0,none⟩) l.length c∧l.length<=c∧st.ae<=b∧b8.h.get b=some (.cells ab el (0,0) aR)∧∀i t,l[i]? =some t->cG H1 (vE st.ae t) [] ((ab.drop (i*2)).take 2)
 le:∀b U,H1 b=some U->b8.h.get b=some U
 eK:∀b,b<st.ae->b8.h.get b=st.h.get b
variable{l:ac cV}{ad:bH}{v:bv}{b8:ak}{H1:bb}
def HX(l:ac cV)(st:ak):bv:=match l with
 |[]=>.slice none 0 0
 |l=>.slice (some ⟨(hE l st).2.ae,0,none⟩) l.length l.length
def Df(l:ac cV)(st:ak):ak:=match l with
 |[]=>st
 |l=>lh (hE l st).2 (hE l st).1
def Z3{st:ak}(h:l≠[]):(hE l st).1≠[]:=by
 cases l with
 |nil=>exact absurd j h
 |cons=>simp[hE]
def Z4{st:ak}(h:l≠[]):Df l st=lh (hE l st).2 (hE l st).1:=by
 cases l with
 |nil=>exact absurd j h
 |cons=>rfl
def Z5{st:ak}(h:l≠[]):HX l st= .slice (some ⟨(hE l st).2.ae,0,none⟩) l.length l.length:=by
 cases l with
 |nil=>exact absurd j h
 |cons=>rfl
def Z6{T:bH}{w w':f5}(h:eb ad T w w'):eb ad ad w w':=⟨bH.le.refl _,h.size,h.kept,λ_ _ q=>.inl q,h.fQ⟩
theorem Af.can{st:ak}{w:f5}{b:dR}{bf:Bool->ac Frame}{s:Machine}(h:Af st l v b8 H1)(R:bQ X ad st w)(D:hn X ad w b bf s (.ret v b8 false)):hn X ad w b bf s (.ret (HX l st) (Df l st) false):=by
 obtain⟨A,j,w',F,Y,E,Z,T,C,H,M⟩:=D;rcases h.val with⟨rfl,rfl⟩|⟨u,b,c,ab,el,aR,rfl,aa,a',O,bZ⟩
 .exact⟨ad,j,w',F,by cases Y;exact .kl _ _,bQ.back Z.le R E h.eK,Z6 Z,T,C,H,M⟩
 have aW:∀{i:Nat} {p:bx},st.h.get i=some p->i<st.ae:=λ{i p} hp=>by
  rcases gf i st.ae with q|q
  .exact q
  .rw[(R.fresh i q).2]at hp;cases hp
 have U:∀i,st.ae<=i->ad i=none:=λi af=>(R.fresh i af).1;have V:Way X ad st b8 A w w' st ad:=⟨bQ.back Z.le R E h.eK,Z6 Z,c5 _,λi p m hp t hm=>.inl ⟨aW hp,hm,hp⟩⟩;obtain⟨o,W,I,a0⟩:=Z2 Z E U h.eK h.le l ab V bZ;obtain⟨ah,L,G,N⟩:=ZY Z E U h.eK W (Z3 u) a' O (λi af=>by rw[hU];exact a0 i af) aa<|oV.2 u;rw[Z5 u,Z4 u];exact⟨ah,j,w',F,N j Y,L.wr,L.sy,T,C,H,M⟩
theorem Af.uniq{st:ak}{R:ac cV}{G:bb}(h:Af st l v b8 H1)(aI:Af st R v b8 G):l=R:=by
 rcases h.val with⟨rfl,rfl⟩|⟨u,b,c,ab,el,aR,rfl,aA,az,O,bZ⟩
 .rcases aI.val with⟨rfl,_⟩|⟨_,_,_,_,_,_,e,_⟩
  .rfl
  .cases e
 .rcases aI.val with⟨_,e⟩|⟨_,t,V,au,w,H,e,_,_,aj,al⟩
  .cases e
  simp at e;obtain⟨rfl,D,rfl⟩:=e;have ah:=O.symm.trans aj;obtain⟨rfl,_⟩:=ah;refine Au D λi a C=>?_;obtain⟨v1,aC,aa,Y,aD,q,cA,aI,A⟩:=bZ i _<|aO a;obtain⟨M,ao,L,bJ,ay,ar,a',ae,ai⟩:=al i _<|aO C;subst A cA ai a';rw[aa]at L;cases L;have bJ:v1= .string ⟨⟨R[i].b3⟩⟩:=bJ;obtain⟨b,U,c,F,el,aw,aR,rfl,_,_,W,eG⟩:=aI;obtain⟨t,e7,V,q,w,Z,H,e,_,_,I,fD⟩:=ae;simp at e;obtain⟨⟨rfl,rfl⟩,N,rfl⟩:=e;have E:=(h.le _ _ W).symm.trans<|aI.le _ _ I;obtain⟨rfl,_⟩:=E;rw[Y]at bJ;simp at bJ;have hp:=Au N λJ ag t=>by
   have:=(eG J _<|aO ag).symm.trans<|fD J _<|aO t;exact apE
  cases eF:l[i]with
  |mk c p=>cases T:R[i]with
   |mk V a'=>rw[eF,T]at bJ hp;simp only at bJ hp;rw[bJ,hp]
def anm{st:ak}(M:∀b,st.ae<=b->st.h.get b=none){Y:bb}(l:ac cV)(D:∀b U,Y b=some U->st.h.get b=some U):
 ∃t,Fit t [] (Df l st) [] 0/\cW Y [] st t [] (Df l st)/\den t (.hq 2 cV h7 l) [] (HX l st):=by
 have F:∀b U,Y b=some U->b<st.ae:=λb U e=>by
  rcases gf b st.ae with q|q
  .exact q
  .have:=D b U e;rw[M b q]at this;cases this
 by_cases u:l=[]
 .subst u;exact aq2 aq2
 have G:=Z0 l st;rw[Z4 u,Z5 u];have A:∀b,b<st.ae->(lh (hE l st).2 (hE l st).1).h.get b=st.h.get b:=λb C=>by rw[HW _ _ R,NP l st C]
 obtain⟨t,w⟩:∃t:bb,∀b,t b=if b<st.ae then Y b else(lh (hE l st).2 (hE l st).1).h.get b:=⟨_,λ_=>j⟩;have hle:cH Y t:=λb U e=>by rw[w,aD<|F b U e];exact e
 refine⟨t,⟨ZX<|NQ l st M,λb U e=>?_,j,j,oU,λb C=>by simp at C,λk U b N=>by simp at N⟩,⟨hle,λb C _=>by rw[w,aD C],λb C _=>A b C,by rw[Ae];omega,b9.refl _,λb C=>.inl C⟩,.inr ⟨u,(hE l st).2.ae,0,l.length,(hE l st).1,0,(0,(hE l st).1.length),true,j,c5 _,?_,λi x eF=>?_⟩⟩
 .rw[w]at e;split at e
  .rename_i C;rw[A b C];exact D b U e
  .exact e
 .rw[w,av R];exact ZW _<|Z3 u
 .rw[hU];refine Z1 l st i x eF λb U C E=>?_;rw[w,av R];by_cases e:b=(hE l st).2.ae
  .subst e;rw[NQ l st M _<|c5 _]at E;cases E
  .rw[HW _ _ e];exact E
def HY(l:ac cV)(ck:Nat)(res:ac gS)(x:c6)(s:cb):Prop:=(x= .norm\/x= .ret)/\((l=[]/\Fin.kH s res=some .nl)\/l≠[]/\∃k c el aR,Fin.kH s res=some (.aH k 2 0 l.length c)/\l.length<=c/\s.own[k]? =some (.a el aR 2 cV (vE ck) l))
variable{f:d7}{a4:cX}
def Z7{call:bN}{n:Nat}{st:ak}{H:bb}{O:ac cV}{bO:ac ag}(aB:ab.length<=a4.aN)(bZ:cG H bO [] ab)(Z:Fit H [] st [] 0)
 (h:jd ⟨call,n,f,H,[],st,HY O st.ae a4.res⟩ a4.body ⟨[],0,iT 0 bO⟩):mu call n f a4 ab st≠[]/\∀q∈mu call n f a4 ab st,∃v b8 H1,q= .ret v b8 false/\Af st O v b8 H1:=by
 have e:mu call n f a4 ab st=(gU call n f a4.body (eg ab) st).map (wR call a4.res):=by
  unfold mu;rw[lR,e4,aD aB];rfl
 rw[e];refine⟨λh=>LH a4.body (eg ab) st<|vV.1 h,λq aa=>?_⟩;obtain⟨r,I,rfl⟩:=da.1 aa;obtain⟨x,o,b8,rfl,H1,u,s,F,L,D,eF,W⟩:=h H [] st (eg ab) aqd Z (cS.zero bZ) r I;rcases W with⟨U,M⟩|⟨U,k,c,el,aR,M,W,N⟩
 .obtain⟨v,T,w⟩:=sv L D M;exact⟨v,b8,H1,by rw[Gg eF,w],.inl ⟨U,T⟩,L.le,λc W=>F.eK c W au⟩
 .obtain⟨v,T,w⟩:=sv L D M;obtain⟨b,C,rfl⟩:=T;obtain⟨⟨ai,E,_,hm⟩,_⟩:=L.own k _ b N C;refine⟨_,b8,H1,by rw[Gg eF,w],.inr ⟨U,b,c,ai,el,aR,j,W,?_,E,λi t jE=>?_⟩,L.le,λc W=>F.eK c W au⟩
  .rcases F.new b (hh C)with h|h
   .simp at h
   .exact h
  .obtain⟨v1,R,a',Y,V,ah,cA,G,A⟩:=hm i t jE;exact⟨v1,R,a',Y,V,ah,cA,G,A⟩
def ann{aL:ao cX}(D:Good X)(j:k0 X aL)(br:d7->dV)(eF:aL.get f=some a4){S:df}(O:S.L->ac cV)(N:∀l,S.res l= .hq 2 cV h7 (O l))(aB:∀l,(S.args l).length<=a4.aN)
 (h:∀l,S.pre l->∀H aq ab,S.hp H->Fit H [] aq [] 0->cG H (S.args l) [] ab->∃bO:ac ag,cG H bO [] ab/\jd ⟨cg aL (cw X br)<|bs+1,bs+1,f,H,[],aq,HY (O l) aq.ae a4.res⟩ a4.body ⟨[],0,iT 0 bO⟩):et X f S.spec:=by
 rintro ab st ⟨⟨l,H⟩,hp,V,Z,bZ⟩;obtain⟨bO,aa,au⟩:=h l hp H st ab V Z bZ;have T:ab.length<=a4.aN:=by rw[gq bZ];exact aB l
 obtain⟨u,a'⟩:=Z7 T aa Z au;refine⟨HX (O l) st,Df (O l) st,?_,?_⟩
 .rintro⟨R,Y⟩ ⟨M,t,U,ar⟩;obtain⟨aC,ai,o⟩:=h R M Y st ab t U ar;obtain⟨_,ah⟩:=Z7 T ai U o;obtain⟨q,E⟩:=DH _ u;obtain⟨v,b8,H1,rfl,gw⟩:=a' q E;obtain⟨aF,aE,az,e,e7⟩:=ah _ E;cases e;obtain⟨ak,W,aj,a0⟩:=anm Z.wf (O l) U.le;exact atE atE
 .obtain⟨aA,c,ok⟩:=j f a4 eF;obtain⟨al,C⟩:=uK D j (BZ br)<|bs+1;intro ad aD w A F;refine⟨ok.enters,λK bf I=>?_⟩;obtain⟨q,aw,ay⟩:=E9 D C al (λb aN bf _=>uJ C b aN bf) ok (bs+1) A F I (λr I e=>by
   obtain⟨v,b8,_,G,_⟩:=a' r I;subst e;cases G)
  obtain⟨v,b8,H1,rfl,gw⟩:=a' q aw;exact gw.can F ay
end Go.bC.dg
namespace Go.bC.dg
open Go.bC Sym
set_option maxRecDepth 100000
set_option maxHeartbeats 4000000
variable{α:Type}{z:Nat}
def Dg:ag:=.v<|.func (.func 108) #[] #[]
theorem Z8:bl 107 (kJ λ(d:bi aE)=>([c3 d],[.aH 0 6 0 d.size d.size,Dg],d.size<=1000000,[c3<|Go.Sort.sort aY d],.bc [])):=by
 apply k9 [(188,xI),(187,(Ac 1000000).spec)] LS.1;intro d (bZ:d.size<=_) N i0 aq af;refine e5 1 eN j (λN u v d=>⟨[],[],d,j,j⟩) ?_;refine I 12<|aJ 10 (.i .u64 d.size) j apt<|aS Nz d.size (by show d.size<_;omega)<|I 1<|lC (anj 1000000) 0 (d,0,d.size,bG d.size) ⟨R,c8 _,c5 _,(by
  rw[<-HT];unfold Go.Sort.bitsLen;split
  .omega
  .have:=(Nat.log2_lt (k:=20) R).2 R;omega),.inl j,bZ⟩ ?_
 exact I 1<|bn ⟨.inl j,l7,[0],j,ik az ⟨_,by show some (c3 _)=some (c3<|Go.Sort.sort aY d);unfold Go.Sort.sort;rw[HT],j,λ_=>j⟩⟩
theorem ano{H:bb}{u:ac Nat}{ah:α->ac ag}(Z:∀w,(ah w).length=z){ab:ac bv}:∀{l:ac α},(∀i x,l[i]? =some x->cG H (ah x) u ((ab.drop<|i*z).take z))->∀n,n<=l.length->n*z<=ab.length/\jQ H u ah z (l.take n) (ab.take<|n*z):=by
 intro l h n
 induction n with
 |zero=>intro _;exact aqH aqH
 |succ n I=>
  intro aj;have⟨Y,G⟩:=I R;have A:=h n _<|aO R;have aB:=gq A;have hle:(n+1)*z<=ab.length:=by grind
  refine⟨hle,?_⟩;rw[hR R];have e:ab.take ((n+1)*z)=ab.take (n*z)++(ab.drop<|n*z).take z:=by
   rw[fb,sS,List.take_add]
  rw[e];exact sr G<|Cf A<|Z _
theorem Z9{s:cb}{x:ce}{k n c:Nat}{el:co}{aR:Bool}{ah:α->ac ag}{l:ac α}(eF:a5 s.env x=some (.aH k z 0 n c))(aw:s.own[k]? =some (.a el aR z α ah l))(aj:n<=l.length)(Z:∀w,(ah w).length=z)(aQ:∀w,pa (ah w)=true):ox s x ah z (l.take n):=by
 intro N u st o j D;have⟨b,Y,G⟩:=D.ar eF;have⟨⟨ab,A,T,C⟩,_⟩:=j.own k _ b aw Y;have⟨W,I⟩:=ano Z C n aj
 grind [FU]
section
variable{an:eR}{K:ac dA}{own bg:ac aZ}{ax:Nat}{e:bP}
variable{n:Nat}{el:co}
def a'{a8 q:Nat}{cs:ac ag}{x i:ce}{bD:f6}{d:Tmp}{aA:ac Tmp}{back:Nat}{l:ac (bj×cn)}{a9:ac aZ}{E:bP}{aT F:Nat}(I:bM.ok an ⟨K,.d l a9 ((d,.aH a8 z 0 q n)::E) aT F,⟨own,ax,(d,.aH a8 z 0 q n)::e⟩⟩)
 (eF:a5 (dZ aA E) x=some (.p a8 0):=by rfl) (af:a5 (dZ aA E) i=some (.i bD (q:Int)):=by rfl) (aw:a9[a8]? =some (.c el cs):=by rfl) (aj:0<n:=by decide) (cD:q<=n:=by omega) (ay:back<aT:=by decide):bM.ok an ⟨K,.d ((⟨some d,.wc n z x none (some i) none,none⟩,.read back aA)::l) a9 E aT F,⟨own,ax,e⟩⟩:=
 l2 ay (λN u st o D _ Z=>by
  have⟨b,Y,G⟩:=D.ar eF;obtain⟨ab,a0,cJ⟩:=Z a8 _ b aw j Y;refine⟨_,arP,λL _ T=>?_⟩;have c2:=(T a8 _ b aw j Y).trans a0;have H:∀(k:Nat->a2),fs o (some i) n n k=k q:=λk=>by
   show fX (o.ar i) (λ_ M=>hJ M (λM=>ev M n (k M) .no) .no) .no=_;rw[(D.ar af),l1,ou,fo cD]
  show s4 n z x none (some i) none an.call o L=_;unfold s4 ak.fI;rw[G,lx,Sym.ed,c2,su,H,su];congr 2;rw[o9 R,nB,hU]
  first|rfl|exact U (λk=>some<|Addr.mk b k none) R) I
def b'{call:bN}{a6:Nat}{fn:d7}{a1:bb}{G:Nat}{aq:ak}{Q:c6->cb->Prop}{xs:ac bj}{a8 c:Nat}(t ck:Nat){aR:Bool}{l:ac Nat}(ah:ck<=aq.ae)(k:bM.ok ⟨call,a6,fn,a1,[G],aq,Q⟩ ⟨K,.U xs,⟨bg,ax,(t,.g<|NO ck<|l.map Int.ofNat)::e⟩⟩)(jE:dn e t=some (.aH a8 1 0 n c):=by rfl)(aw:own[a8]? =some (.a el aR 1 Nat jB l):=by rfl)
 (aj:l.length=n:=by first|rfl|omega) (aQ:n<=c:=by first|exact c5 _|omega) (T:0<a8:=by decide) (E:g9 own a8 .x some=some bg:=by rfl):bM.ok ⟨call,a6,fn,a1,[G],aq,Q⟩ ⟨K,.U xs,⟨own,ax,e⟩⟩:=by
 cases h4 E;intro N u st a' F Z D;obtain⟨b,W,I⟩:=D.get t _ jE;obtain⟨⟨ab,a0,cJ,c2⟩,_⟩:=Z.own a8 _ b aw W;have hle:=pe Z aw j W;have M:aq.ae<=b:=by
  rcases F.new b (hh W)with h|h
  .rw[gC]at h;have aa:=F.jx 0 G j;have w:=(dP.1 aa);obtain⟨Y,L⟩:=(dP.1 W);obtain⟨cA,A⟩:=w;have:=(vR (h₀:=Y) (h₁:=cA) Z.cY).1 R;omega
  .exact h
 refine k (eP N st b) u st a' (F.eP Z aw j W) (Z.eP aw j W) ⟨(D.mono hle apu).pl,λJ q V=>?_⟩;rw[lB]at V;cases C:Nat.beq t J with
 |false=>exact atS
 |true=>
  rw[C]at V;cases V;rw[<-dB C];refine⟨b,0,c,ab,el,(0,0),aR,by rw[I,hI,aj],by rw[hI];omega,R,by unfold eP;rw[aD j];exact a0,λi x eF=>?_⟩;have af:=(dP.1 eF).1;rw[hI]at af;obtain⟨v,ai,O,w,H⟩:=c2 i _<|aO af;subst w H;rw[aO<|by rwa [hI]]at eF;cases eF;have:=congrArg (λl=>l[0]?) O;exact apE
end
def NR:gv:=kJ λ((ck,l,q):Nat×ac Nat×Nat)=>([.c 197<|l.flatMap jB],[.aH 0 1 0 q l.length],q<=l.length/\l.length<=1000,[.a 197 false 1 Nat jB l],.g<|NO ck<|(l.take q).map Int.ofNat)
def c'(l:NR.L):Nat:=l.1
def d':et b5.ctx 110 (NR.jR c'):=by
 apply Xg [] LZ.1;intro⟨ck,l,q⟩ ⟨E,aB⟩ H i0 aq af w;obtain⟨G,rfl⟩:∃b,i0=[b]:=mU.1 af;show bM.ok _ ⟨_,_,⟨[.c 197<|l.flatMap jB],1,[(0,.aH 0 1 0 q l.length)]⟩⟩;refine I 19<|ks 0 jB l ?_;apply ks 1 jB ([]:ac Nat);by_cases F:q=0
 .subst F;refine xc (Z9 j j (c8 _) fL fL) ?_;exact b' 7 ck w<|I 4<|bn ⟨.inr j,l7,[0],j,ik az ⟨_,rfl,rfl,λ_=>rfl⟩⟩
 .refine zr (l.take q) (Z9 j j E fL fL) (l.take q) ?_ (bX:=by intro g;have h:=congrArg List.length g;rw[gQ]at h;have h:min q l.length=0:=h;omega);exact b' 7 ck w<|I 4<|bn ⟨.inr j,l7,[0],j,ik az ⟨_,rfl,rfl,λ_=>rfl⟩⟩
set_option maxHeartbeats 8000000
def e'(K:ac (Nat×dV)){f:d7}(a4:cX){S:df}(O:S.L->ac cV)(N:∀l,S.res l= .hq 2 cV h7 (O l))
 (h:∀l,S.pre l->∀H aq ab,S.hp H->Fit H [] aq [] 0->cG H (S.args l) [] ab->∃bO:ac ag,cG H bO [] ab/\jd ⟨cg aL (cw b5.ctx<|bD K)<|bs+1,bs+1,f,H,[],aq,HY (O l) aq.ae a4.res⟩ a4.body ⟨[],0,iT 0 bO⟩)
 (eF:aL.get f=some a4:=by kernel_rfl) (aB:∀l,(S.args l).length<=a4.aN:=by exactλ_=>ib j):bl f S:=ann b5.eh ez (bD K) eF O N aB h
def gO(n:Nat)(k:aE):ac Int:=(k.n.take n).map Int.ofNat
def nW(n:Nat)(p:aE×Rat):cV:=⟨kc p.2,gO n p.1⟩
def jm(n:Nat)(f:Poly):ac cV:=f.map<|nW n
def anp(f:Poly)(n:Nat):Prop:=f.dU/\f.iS/\(∀p∈f,p.1.fP/\cq 268435456 p.2)/\f.length<=1000/\n<=6
variable{f:Poly}
def Dh(Q:Poly->Prop):df:=q5 ni ni.up λ((f,n):Poly×Nat)=>([.g<|fO<|e9 f,.aa (n:Nat)],anp f n/\Q f,.hq 2 cV h7<|jm n f)
def anq(eG j n:Nat)(seen:ac Nat):ac aE->cb
 |[]=>⟨[.g<|mB eG j seen],1,[(0,.v<|.map<|some eG),(1,.aa (n:Nat)),(4,.nl),(5,.nl),(10,.p 0 0)]⟩
 |k::W=>⟨[.g<|mB eG j seen,c3 (k::W).toArray],2,[(0,.v<|.map<|some eG),(1,.aa (n:Nat)),(4,.nl),(5,.aH 1 6 0 (W.length+1)<|W.length+1),(10,.p 0 0)]⟩
def anr(ck:Nat)(f:Poly)(n k:Nat):ac cV->cb
 |[]=>⟨[c3 (f.map (·.1)).toArray],1,[(0,.g<|fO<|e9 f),(1,.aa (n:Nat)),(4,.nl),(21,.aH 0 6 0 f.length f.length),(22,.aa (f.length:Nat)),(23,.aa (k:Nat))]⟩
 |t::aA=>⟨[c3 (f.map (·.1)).toArray,.a 80 true 2 cV (vE ck)<|t::aA],2,[(0,.g<|fO<|e9 f),(1,.aa (n:Nat)),(4,.aH 1 2 0 (aA.length+1)<|aA.length+1),(21,.aH 0 6 0 f.length f.length),(22,.aa (f.length:Nat)),(23,.aa (k:Nat))]⟩
def f'(M:f.dU){p:aE×Rat}(hp:p∈f):iU (e9 f) (eE p.1)=some (cU p.2):=by
 refine SB ?_ (da.2 ⟨p,hp,j⟩);rw[e9,qq];refine oS.2<|M.imp λ{p q} h e=>?_;rw[(key_inj e)]at h;exact aE.nK _ h
def ans:et b5.ctx 34 (Dh (· ≠[])).spec:=by
 refine e' [Z8,M1,(110,NR.jR c')] Gl.1 (λl=>jm l.2 l.1) fL ?_;rintro⟨f,n⟩ ⟨⟨D,bj,aG,bq,aj⟩,(aU:f≠[])⟩ H aq ab aY bl bZ;obtain⟨v1,bp,rfl,O,bu,bh,rfl,d2,d4⟩:=bZ;have d4:bh=[]:=d4;subst d4;obtain⟨eG,ak,o,rfl,aw,ai⟩:=O;have bm:(e9 f).length=f.length:=by unfold e9;rw[hI]
 refine⟨[.v<|.map<|some eG,.aa (n:Nat)],⟨_,_,j,j,_,_,j,d2,j⟩,?_⟩;show jd _ (.seq _<|.seq _<|.seq (.seq _<|.block _<|.loop _) _) _;refine im<|gK ?_;refine I 3<|bn ?_;refine im<|gK ?_;refine I 3<|bn ?_;refine zv (L:=aE×ac aE) (λx=>(x.1::x.2).Perm (f.map (·.1))) (λx=>⟨[c3 (x.1::x.2).toArray],1,[(0,.v<|.map<|some eG),(1,.aa (n:Nat)),(4,.nl),(5,.aH 0 6 0 (x.2.length+1)<|x.2.length+1)]⟩) ?_ ?_
 .refine im<|gK ?_;refine I 2<|xo aw ?_;refine I 1<|bn ?_;refine uY ?_;refine xj (L:=ac Nat×ac aE) (λ(V,W)=>(∀s∈V,s<o)/\(∀m∈ak,m.born∈V↔∃k∈W,m.key=eE k)/\W.Nodup/\∀k∈W,k∈f.map (·.1)) (λ(V,W)=>anq eG o n V W)
   (λl=>left ak l.1) [0] ([],[]) ⟨aqI,(λm _=>apB),oU,λk h=>by cases h⟩ ?_ bk ?_
  .show left ak []<bs+1;have Y:=z0 ak [];have G:=ai.len;unfold bs;omega
  rintro⟨V,W⟩ ⟨aT,aJ,A,aM⟩;have a0:W.length<=f.length:=by
   have:=Nd A aM;rw[hI]at this;exact this
  have new:∀{m:f7},m∈ak->m.born∉V->∀{p:aE×Rat},p∈f->m.key=eE p.1->(W++[p.1]).Nodup/\∀k∈W++[p.1],k∈f.map (·.1):=λ{m} hm ao {p} hp Y=>by
   have b':p.1∉W:=λh=>ao<|(aJ m hm).2 ⟨_,h,Y⟩;refine⟨Ay.2 ⟨A,au,λa aZ b C e=>?_⟩,λk N=>?_⟩
   .rw[gC]at C;rw[e,C]at aZ;exact b' aZ
   .rcases gA.1 N with N|N
    .exact aM k N
    .rw[gC]at N;rw[N];exact da.2 ⟨p,hp,j⟩
  have up:∀{m:f7},m∈ak->∀s∈V++[m.born],s<o:=λ{m} hm s M=>by
   rcases gA.1 M with M|M
   .exact aT s M
   .rw[gC]at M;rw[M];exact ai.born m hm
  cases W with
  |nil=>
   refine im<|uZ (k:=0) (r:=eG) (clock:=o) (seen:=V) (es:=ak) j j aw aT (λm hm ao=>?_) λaS=>?_
   .refine I 2<|bn ?_;refine gK ?_;refine I 7 ?_;obtain⟨p,hp,u,v,w,Y,G,a9,T⟩:=vh ai hm;obtain⟨aR,iG⟩:=new hm ao hp Y;refine xp (mF p.1) (cU p.2) aw hm ai.jM (ai.born m hm) (λaK _=>?_) (λaK hle=>?_) ?_
    .exact aqp
    .exact iR hle _ apu T
    refine I 9<|w8 hg [p.1] (iH (ah:=hg) [p.1] j) ?_;refine I 3 ?_;refine bn ⟨[0,3],(V++[m.born],[p.1]),ast,fU (aC:=⟨gJ,jS,az⟩)⟩
   .exfalso;obtain⟨p,hp⟩:=DH _ aU;obtain⟨m,hm,a3⟩:=vi ai hp;obtain⟨k,N,_⟩:=(aJ m hm).1<|aS m hm;cases N
  |cons a8 W=>
   refine im<|uZ (k:=0) (r:=eG) (clock:=o) (seen:=V) (es:=ak) j j aw aT (λm hm ao=>?_) λaS=>?_
   .refine I 2<|bn ?_;refine gK ?_;refine I 7 ?_;obtain⟨p,hp,u,v,w,Y,G,a9,T⟩:=vh ai hm;obtain⟨aR,iG⟩:=new hm ao hp Y;refine xp (mF p.1) (cU p.2) aw hm ai.jM (ai.born m hm) (λaK _=>?_) (λaK hle=>?_) ?_
    .exact aqp
    .exact iR hle _ apu T
    refine I 9 ?_;have a0:W.length+1<=f.length:=a0;refine q6 (ah:=hg) [p.1] (iH (ah:=hg) [p.1] j) ?_ (aj:=au) (ay:=by show(5*(W.length+1+1)+1792)*49<=1125899906842624;omega);refine I 3 ?_;refine bn ⟨[0,4],(V++[m.born],a8::(W++[p.1])),ast,fU (aC:=⟨gJ,jS,az⟩) (aI:=⟨j,j,j,congrArg (λk=>some<|ag.aH 4 6 0 k k) au,j,az⟩)⟩
   .have Z:(a8::W).Perm (f.map (·.1)):=(DA A<|vg D).2 λk=>⟨aM k,λN=>by
     obtain⟨p,hp,rfl⟩:=da.1 N;obtain⟨m,hm,a3⟩:=vi ai hp;obtain⟨k,N,bc⟩:=(aJ m hm).1<|aS m hm;rw[key_inj<|a3.symm.trans bc];exact N⟩
    refine I 2<|bn ?_;refine gK ?_;refine I 4<|bn ?_;show k2 0 _ _ _;exact⟨[1],(a8,W),Z,fU⟩
 rintro⟨a8,W⟩ Z;replace Z:(a8::W).Perm (f.map (·.1)):=Z;have a5:W.length+1=f.length:=by have:=Z.length_eq;rw[hI]at this;exact this
 have E:=amY D Z;refine gK ?_;refine I 3<|lC Z8 0 (a8::W).toArray (by show(a8::W).toArray.size<=1000000;simp;omega) ?_;refine aga 0 (.g<|fO<|e9 f) j (λaK hle bo v aP=>?_) ?_
 .have aP:v= .map (some eG):=aP;subst aP;exact⟨eG,ak,o,j,hle _ _ aw,ai.mono hle⟩
 have aX:∀p∈e9 f,(fH.arr .i64 6).ok p.1=true:=λp hp=>by
  obtain⟨q,bd,rfl⟩:=da.1 hp;exact qe (aG q bd).1
 have a2:(jm n f).length=f.length:=by unfold jm;rw[hI]
 refine I 11<|ea (L:=Nat×ac cV) (λ(k,r)=>k<=f.length/\r=(jm n f).take k) (λ(k,r)=>anr aq.ae f n k r) (λx=>f.length-x.1) [0] (0,[]) apR atg (fU (aC:=⟨⟨_,congrArg (λw=>some<|c3 w) E,j,λ_=>j⟩,az⟩) (aI:=⟨j,j,j,congrArg (λm=>some<|ag.aH 0 6 0 m m) a5,congrArg (λm:Nat=>some<|ag.aa (m:Int)) a5,j,az⟩)) ?_;rintro⟨k,r⟩ ⟨N,al⟩;replace al:r=(jm n f).take k:=al;have a7:r.length=k:=by rw[al,gQ];omega
 by_cases aW:k<f.length
 .have ar:f[k]∈f:=hv aW;have F:(jm n f).take (k+1)=r++[nW n f[k]]:=by
   rw[hR<|by rw[a2];exact aW,al];congr 1;unfold jm;rw[sP]
  rcases r with _|⟨t,aA⟩
  .refine I 3<|cM 24<|I 10<|lF j j (FW f[k].1 (show(f.map (·.1))[k]? =some f[k].1 by rw[x8,aO aW];rfl) ?_) (ba:=aW);refine I 7<|LO (cU f[k].2) SC (xw f[k].1) aX (by rw[f' D ar]) ?_ (jz:=qe (aG _ ar).1);refine ca M1 f[k].2 (aG _ ar).2 (I 1<|a' (q:=n) ?_ (cD:=aj)) (cK:=aY);refine zz d' 1 (aq.ae,f[k].1.n,n) ⟨aj,by show 6<=1000;decide⟩ (c5 _) ?_ (cv:=.a 197 false 1 Nat jB f[k].1.n) (ay:=sx);refine I 3<|Lr (vE aq.ae) [nW n f[k]] (iH (ah:=vE aq.ae) [nW n f[k]] j) ?_;exact I 8<|bB [0,3] (k+1,[nW n f[k]]) ⟨by show f.length-(k+1)<f.length-k;omega,R,F.symm⟩ bk
  .refine I 3<|cM 24<|I 10<|lF j j (FW f[k].1 (show(f.map (·.1))[k]? =some f[k].1 by rw[x8,aO aW];rfl) ?_) (ba:=aW);refine I 7<|LO (cU f[k].2) SC (xw f[k].1) aX (by rw[f' D ar]) ?_ (jz:=qe (aG _ ar).1);refine ca M1 f[k].2 (aG _ ar).2 (I 1<|a' (q:=n) ?_ (cD:=aj)) (cK:=aY);refine zz d' 2 (aq.ae,f[k].1.n,n) ⟨aj,by show 6<=1000;decide⟩ (c5 _) ?_ (cv:=.a 197 false 1 Nat jB f[k].1.n) (ay:=sx);refine I 3<|Ls (ah:=vE aq.ae) [nW n f[k]] (iH (ah:=vE aq.ae) [nW n f[k]] j) ?_ (aj:=au) (ay:=by show(5*(aA.length+1+1)+1792)*41<=1125899906842624;simp only[hQ]at a7;omega);exact I 8<|bB [0,4] (k+1,t::(aA++[nW n f[k]])) ⟨by show f.length-(k+1)<f.length-k;omega,R,F.symm⟩ (bk (aI:=⟨j,j,congrArg (λk=>some<|ag.aH 4 2 0 k k) au,j,j,kt,az⟩))
 .have al:r=jm n f:=by rw[al,gB R]
  rcases r with _|⟨t,aA⟩
  .exfalso;have bb:f.length=0:=by rw[<-a2,<-al];rfl
   exact aU<|nZ bb
  .refine I 3<|cI 24<|I 16<|bn ?_;show HY (jm n f) _ _ _ _;rw[<-al];exact⟨.inr j,.inr ⟨au,1,_,_,_,j,c5 _,j⟩⟩
def g':bl 296 (bV λ(_:Unit)=>([.nl,.aa 0,.aa 0,Dg],True,.bc [])):=by
 refine bL [] L6.1 ?_;intro _ _ N aq;refine I 8<|eS (λ_=>True) (λ_=>⟨[],0,[(1,.aa 0),(2,.aa 0),(8,.aa 1)]⟩) (λ_=>0) [] () az ?_;intro _ _;exact I 6<|cI 14<|I 7<|eD
def h':bl 187 (bV λ(l:Int)=>([.nl,.aa 0,.aa 0,.aa l,Dg],True,.bc [])):=by
 apply bL [g'] Gk.1;intro l _ N aq;refine I 11<|eS (λ_=>True) (λ_=>⟨[],0,[(0,.nl),(1,.aa 0),(2,.aa 0),(3,.aa l),(4,Dg)]⟩) (λ_=>0) [] () az ?_;intro _ _;exact I 6<|cj 23 0<|I 8<|cM 25<|I 9<|aS g' () az<|I 7<|eD
def i':bl 107 (bV λ(_:Unit)=>([.nl,Dg],True,.bc [])):=by
 apply bL [(188,xI),h'] LS.1;intro _ _ N aq;exact I 12<|aS Nz (0:Nat) (by show 0<_;decide)<|I 1<|aS h' ↑(bG 0) az<|I 1<|eD
def ant:et b5.ctx 34 (Dh (· =[])).spec:=by
 refine e' [i'] Gl.1 (λl=>jm l.2 l.1) fL ?_;rintro⟨f,n⟩ ⟨⟨D,Z,E,M,aj⟩,u⟩ N aq ab T A bZ;subst u;obtain⟨v1,H,rfl,O,V,G,rfl,d2,d4⟩:=bZ;subst d4;obtain⟨eG,C,o,rfl,t,w⟩:=O;cases nZ w.len;refine⟨[.v<|.map<|some eG,.aa n],⟨_,_,j,j,_,_,j,d2,j⟩,?_⟩;refine im<|gK ?_;refine I 3<|bn ?_;refine im<|gK ?_;refine I 3<|bn ?_;refine zv (L:=Unit) (λ_=>True) (λ_=>⟨[],0,[(4,.nl),(5,.nl)]⟩) ?_ ?_
 .refine im<|gK ?_;refine I 2<|xo t ?_;refine I 1<|bn ?_;refine uY ?_;refine xj (λ_=>True) (λ_=>⟨[.g<|mB eG o []],1,[(4,.nl),(5,.nl),(10,.p 0 0)]⟩) (λ_=>0) [0] () az R bk ?_;intro _ _;refine im<|uZ j j t aqI (λm hm q=>by cases hm) λF=>?_;refine I 2<|bn ?_;refine gK ?_;exact I 4<|bn (⟨[],(),az,k3 ⟨j,j,az⟩⟩)
 intro _ _;refine gK ?_;refine I 3<|aS i' () az<|I 11<|eS (λ_=>True) (λ_=>⟨[],0,[(4,.nl),(22,.aa 0),(23,.aa 0)]⟩) (λ_=>0) [] () az ?_;intro _ _;exact I 3<|cI 24<|I 16<|bn ⟨.inr j,.inl fe⟩
def j'{H Y:bb}{st:ak}(aC:∀b U,H b=some U->st.h.get b=some U)(aI:∀b U,Y b=some U->st.h.get b=some U){G:Poly}{v:bv}(d:den H (.g<|fO<|e9 f) [] v)(d2:den Y (.g<|fO<|e9 G) [] v)(h:f=[]):G=[]:=by
 obtain⟨r,t,c,rfl,j,u⟩:=d;have⟨fD,I,V,e,q,F⟩:=d2;cases e;have:=(aC _ _ j).symm.trans<|aI _ _ q;cases this;have Z:=u.len;have R:=F.len;unfold e9 at Z R;rw[hI]at Z R;rw[h]at Z;exact nZ<|by rw[<-R,Z];rfl
def anu:et b5.ctx 34 (Dh λ_=>True).spec:=by
 rintro ab st ⟨⟨l,N⟩,⟨hp,_⟩,V,Z,bZ⟩;have w:∀R o,(Dh λ_=>True).spec.pre (R,o) ab st->(l.1=[]↔R.1=[]):=λR o ⟨_,_,U,u⟩=>by
  have⟨v1,A,t,d1,_⟩:=bZ;have⟨v2,q,j,d2,_⟩:=u;rw[t]at j;cases j;exact⟨j' Z.le U.le d1 d2,j' U.le Z.le d2 d1⟩
 by_cases h:l.1=[]
 .have⟨v,al,Y,G⟩:=ant ab st ⟨(l,N),⟨hp,h⟩,V,Z,bZ⟩;exact⟨v,al,λR M=>Y R ⟨⟨M.1.1,(w R.1 R.2 M).1 h⟩,M.2⟩,G⟩
 .have⟨v,al,Y,G⟩:=ans ab st ⟨(l,N),⟨hp,h⟩,V,Z,bZ⟩;exact⟨v,al,λR M=>Y R ⟨⟨M.1.1,λg=>h<|(w R.1 R.2 M).2 g⟩,M.2⟩,G⟩
end Go.bC.dg
namespace Go.bC.dg
open Go.bC
set_option maxRecDepth 100000
set_option maxHeartbeats 4000000
def k':bl 110 (bV λ(l:ac Int)=>([.cd 1 Int er l],l.length<=17592186044416,.b6 1 Int er l)):=by
 refine bL [] LZ.1 ?_;intro l aB N aq;by_cases u:l=[]
 .subst u;refine I 9<|afF ?_ λ_=>(I 10<|bp .nl)
  .refine I 9<|ks 0 er ([]:ac Int) ?_;refine afG (ah:=er) ?_;refine h5 7 ?_;exact I 4<|eD
 refine e5 0 (.b6 1 Int er l) j (.h0 u)<|I 9<|afo ?_ λh=>(absurd h u)
 .refine I 9<|ks 0 er ([]:ac Int) ?_;have T:=oV.2 u;refine zr (ah:=er) l atu l ?_ (bX:=u);refine h5 7 ?_;exact I 4<|eD
def h9(n:g3):ac Int:=if 1<=n.op/\n.op<=15 then(fa n).take (nU n.op.toNat)else[]
def l':df:=q5 oJ oJ.up λ(n:g3)=>([.agg<|lb n],True,.b6 1 Int er<|h9 n)
def m':bl 182 l':=by
 refine sC [Ht,k'] VK.1 ?_;intro n _ N aq ⟨ab,el,t,aR,O,bZ⟩;have q:∀{l},h9 n=l->bz (.b6 1 Int er l) (l'.res n):=λh=>.of apJ;refine I 11<|aS Ht n.op az ?_;by_cases h:1<=n.op/\n.op<=15
 .refine cl 6 (bK<|cm h) ?_;obtain⟨Y,G⟩:=h;obtain⟨U,E⟩:∃U:Nat,n.op=(U:Int):=atb;have D:n.op.toNat=U:=by omega
  have aW:U<16:=R
  obtain⟨M,_⟩:=Hv U aW;have jE:=YO U aW;have F:h9 n=(fa n).take (nU U):=by unfold h9;rw[D];exact aD ⟨Y,G⟩
  generalize nU U=u at *;refine I 25<|aJ 18 (.aa U) j (by rw[<-E])<|R5 O bZ ?_;refine aJ 19 (.ip<|.aa u:: .aa (tI U:Int)::C1.drop (U*2+2)) j (by rw[jE])<|I 2<|ks 1 er (fa n) ?_;refine e0 (zs j j j dN (c8 _) R tb) ?_;exact FY 22 ((fa n).take u) (aS k' ((fa n).take u) (by show(List.take _ _).length<=_;rw[gQ];omega) (I 4<|bp (q F)) (he:=by exact⟨.cd,az⟩)) (aj:=by rw[gQ];show min u 4=u-0;omega)
 .exact cl 6 (bK<|cp h)<|I 11<|bp (bz.trans .nl<|q<|av h)
def kf(n:Int)(m:Nat):Prop:=0<=n/\n<(m:Int)
instance(n:Int)(m:Nat):Decidable (kf n m):=by unfold kf;infer_instance
def tO(p:dX)(i:Nat)(n:g3):Int:=
 if¬(1<=n.op/\n.op<=15)\/rB n=false then 2
 else if¬kf n.f p.bS.length then 7
 else if n.op=1/\¬kf n.a p.ins.length then 7
 else if n.op=1/\(p.ins[n.a.toNat]?).map oI.f≠some n.f then 143
 else if n.op=2/\((i:Int)<p.head\/¬kf n.a p.hc.length)then 7
 else if n.op=3 then rz n.v
 else if(h9 n).all (λk=>vv p i k)then 0 else 7
def n':df:=q5 oJ oJ.up λ((p,i,n):dX×Nat×g3)=>([iy p,.aa (i:Int)],p.bT[i]? =some n/\n.v.length<=2000,.aa<|tO p i n)
def o'(n:g3):(h9 n).length<=4:=by
 rw[h9];split
 .rw[gQ];exact Nat.min_le_right _ 4
 .exact c8 _
def p':bl 94 n':=by
 refine sC [Ht,YQ,(96,sI),YM,m',(183,vw)] Vy.1 ?_;intro⟨p,i,n⟩ ⟨V,aj⟩ H aq ae;have E:∀{c:Int},tO p i n=c->bz (.aa c) (n'.res (p,i,n)):=λh=>.of apJ;refine I 12<|eW n V j ?_
 iterate 7 refine fE j ?_
 refine iI (L:=Unit) (λ_=>tO p i n=if(h9 n).all (λk=>vv p i k)then 0 else 7) (λ_=>⟨[.c 184<|g4 p,.c 172<|lb n],2,[(1,.aa (i:Int)),(2,.p 0 0),(4,.aa 0),(5,.p 1 0)]⟩) ?_ ?_
 .refine I 4<|aS Ht n.op az ?_;by_cases Y:1<=n.op/\n.op<=15
  case neg=>
   exact cl 17 (bK<|cp Y)<|I 18<|bp (E<|aD as4)
  refine cl 17 (bK<|cm Y)<|I 5<|aS YQ n Y ?_ (cK:=ae);cases G:rB n with
  |false=>
   exact cl 21 (bK G)<|I 15<|bp (E<|aD<|.inr G)
  |true=>
  refine cl 21 (bK G) ?_;have F:¬(¬(1<=n.op/\n.op<=15)\/rB n=false):=λh=>h.elim (λh=>h Y) λh=>Bool.noConfusion<|G.symm.trans h;refine I 15<|aS xM (n.f,(p.bS.length:Int)) az ?_;by_cases A:kf n.f p.bS.length
  case neg=>
   exact cl 31 (bK (cp A))<|I 13<|bp (E<|(av F).trans<|aD A)
  refine cl 31 asK ?_;have a':¬¬kf n.f p.bS.length:=λh=>h A;have D:=λ{c} h=> @E c<|(av F).trans<|(av a').trans h;have ah:=λ{c} h=>((av F).trans ((av a').trans h):tO p i n=c);clear E;refine I 10 ?_;by_cases af:n.op=1
  .refine cl 36 (bK<|cm af)<|I 14<|aS xM (n.a,(p.ins.length:Int)) az ?_;by_cases T:kf n.a p.ins.length
   case neg=>
    exact cl 44 (bK<|cp T)<|I 15<|bp (D<|aD ⟨af,T⟩)
   refine cl 44 (bK<|cm T) ?_;have a0:¬(n.op=1/\¬kf n.a p.ins.length):=λh=>h.2 T;refine I 12<|dF 50 (.b true) j j (bK<|cm af) ?_;obtain⟨a,al⟩:∃a:Nat,n.a=(a:Int):=⟨n.a.toNat,by have:=T.1;omega⟩;have w:n.a.toNat=a:=R
   have u:a<p.ins.length:=by have:=T.2;omega
   refine I 11<|dF 56 (.aa (a:Int)) j j (by rw[al])<|I 1<|fy p.ins[a] (aO u) j<|I 10 ?_;by_cases C:(p.ins[a]).f=n.f
   case neg=>
    exact dF 62 (.b true) j j (bK<|cm C)<|I 13<|bp (D<|(av a0).trans<|aD ⟨af,by rw[w,aO u];simpa using C⟩)
   refine dF 62 (.b false) j j (bK<|cp λh=>h C) ?_;refine I 10<|cI 67<|I 26<|cI 88<|I 6<|bB [0,1] () (ah<|(av a0).trans<|(av ?_).trans<|(av R).trans<|av R) bk;rintro⟨_,h⟩;exact h<|by rw[w,aO u];simp[C]
  .refine cl 36 (bK<|cp af) ?_;have ai:=λ{c} h=> @ah c<|(av λh=>af h.1).trans<|(av λh=>af h.1).trans h;have t:=λ{c} h=> @D c<|(av λh=>af h.1).trans<|(av λh=>af h.1).trans h;refine I 19<|dF 50 (.b false) j j (bK<|cp af)<|I 22 ?_;by_cases M:n.op=2
   .refine cl 67 (bK<|cm M)<|I 11 ?_;by_cases T:(i:Int)<p.head
    .exact cl 73 (bK<|cm T)<|I 25<|bp (t<|aD ⟨M,.inl T⟩)
    refine cl 73 (bK<|cp T)<|I 15<|aS xM (n.a,(p.hc.length:Int)) az ?_;by_cases C:kf n.a p.hc.length
    case neg=>
     exact cl 81 (bK<|cp C)<|I 17<|bp (t<|aD ⟨M,.inr C⟩)
    exact v1 81 C<|I 14<|cI 88<|I 6<|bB [0,1] () (ai<|(av λh=>h.2.elim T λh=>h C).trans<|av R) bk
   .refine cl 67 (bK<|cp M) ?_;have o:=λ{c} h=> @ai c<|(av λh=>M h.1).trans h;have ak:=λ{c} h=> @t c<|(av λh=>M h.1).trans h;refine I 26 ?_;by_cases W:n.op=3
    .exact cl 88 (bK<|cm W)<|I 8<|aS YM n.v aj<|I 6<|bp (ak<|aD W)
    .exact cl 88 (bK<|cp W)<|I 6<|dD [0,1] () (o<|av W)
 intro _ q;have N:=o' n;refine I 4<|aS m' n az (I 5<|eS (L:=Nat) (λk=>k<=(h9 n).length/\((h9 n).take k).all (λk=>vv p i k)=true) (λ(k:Nat)=>⟨[.c 184<|g4 p,.c 172<|lb n],2,[(1,.aa (i:Int)),(2,.p 0 0),(4,.aa 0),(93,.b6 1 Int er<|h9 n),(94,.aa ((h9 n).length:Int)),(95,.aa (k:Int))]⟩) (λk=>(h9 n).length-k) [0,1] 0 apR ?_) (cK:=ae);rintro(k:Nat) ⟨O,Z⟩;refine I 3 ?_;by_cases aB:k<(h9 n).length
 .refine cM 96<|I 10<|eW (h9 n)[k] (aO aB) j<|I 9<|aS al2 (p,(i:Int),(h9 n)[k]) az ?_;cases M:vv p i (h9 n)[k]with
  |false=>
   refine cl 102 (bK M)<|I 15<|bp (E<|q.trans<|av ?_);intro h;rw[ia]at h;have:=h _<|dH aB;rw[M]at this;cases this
  |true=>
   exact cl 102 (bK M)<|I 9<|cj 104 ((k+1:Nat):Int)<|I 2<|iV [0,1] (k+1) ⟨aB,by rw[hR aB,yl,Z];simp[M]⟩
 .exact cI 96<|I 15<|bp (E<|q.trans<|aD arD)
def rD(e q:Int)(x:oI):Int:=
 match dK x.bm,dK x.af with
 |some a,some b=>if kO e q a/\kO e q b/\¬b<a then 0 else 7
 |_,_=>6
def x0(p:dX)(x:oI):Int:=
 if kf x.f p.bS.length then(match p.bS[x.f.toNat]? with|some f=>rD f.1 f.2 x|none=>7)else 7
def q'{v k:Nat}(h:v<10^k)(aw:k<=2000):ei 250 v:=rl atI
def r'{s:ac ci}(M:s.length<=2000){x:Rat}(h:dK s=some x):cq 250 x:=by
 have⟨P,q,w,_,_,Z,E,o,hint,V⟩:=C0 M;by_cases D:jV (dk s).1 P q w
 .have⟨W,I,a0⟩:=D;have U:=q' (mH W.2.1) R;cases w with
  |false=>
   exact aqK
  |true=>
   have⟨A,T,C⟩:=a0 j;have e:=V ⟨W,I,a0⟩ j;rw[h]at e;split at e
   .cases e;exact pq asC (q' (mH A.2.1) R) λh=>T<|sG A h
   .cases e
 .rw[o D]at h;cases h
def iz(s:ac ci):Rat:=(dK s).getD 0
def anv(x:oI):Nat->ac ag
 |0=>[.b false,.nl,.nl,.b false,.nl,.nl]
 |1=>jU (iz x.bm)++[.b false,.nl,.nl]
 |_=>jU (iz x.bm)++jU (iz x.af)
def HZ:df:=bV λ((p,i,x):dX×Nat×oI)=>([iy p,.aa (i:Int)],p.ins[i]? =some x/\x.bm.length<=2000/\x.af.length<=2000,.aa<|x0 p x)
def s':bl 93 HZ:=by
 refine bL [(96,sI),vs,M8,zM] Vx.1 ?_;intro⟨p,i,x⟩ ⟨V,T,N⟩ H aq;have E:∀{c:Int},x0 p x=c->bz (.aa c) (HZ.res (p,i,x)):=λh=>.of apJ;refine I 12<|eW x V j<|I 14<|aS xM (x.f,(p.bS.length:Int)) az ?_;by_cases A:kf x.f p.bS.length
 case neg=>
  exact cl 24 (bK (cp A))<|I 11<|bp (E<|av A)
 refine cl 24 asK ?_;obtain⟨f,ah⟩:∃f:Nat,x.f=(f:Int):=⟨x.f.toNat,by have:=A.1;omega⟩;have Y:x.f.toNat=f:=R
 have aj:f<p.bS.length:=by have:=A.2;omega
 obtain⟨⟨q,C⟩,ae⟩:∃w,p.bS[f]? =some w:=⟨_,aO aj⟩;have O:∀{c:Int},rD q C x=c->bz (.aa c) (HZ.res (p,i,x)):=λh=>E (by unfold x0;rw[aD A,Y,ae];exact h);refine I 24<|eS (L:=Nat) (λk=>k<=2/\(1<=k->dK x.bm=some (iz x.bm))/\(2<=k->dK x.af=some (iz x.af))) (λ(k:Nat)=>⟨[.c 184<|g4 p,.c 283<|Hs x,.c 284<|anv x k,.c 48 [.s x.bm,.s x.af]],4,[(2,.p 0 0),(4,.aa 0),(5,.p 1 0),(6,.p 2 0),(30,.aH 3 1 0 2 2),(31,.aa 2),(32,.aa (k:Int))]⟩) (λk=>2-k) [0,1,2,3] 0 ⟨R,λh=>absurd h ai,λh=>absurd h ai⟩ ?_;rintro(k:Nat) ⟨ak,t,M⟩;rcases(show k=0\/k=1\/k=2 by omega)with rfl|rfl|rfl
 .refine I 14<|lF (J:=0) j j<|I 8<|aS vs x.bm T ?_;cases h:dK x.bm with
  |none=>
   exact aJ 39 (.bc [cU 0,.aa 6]) j (by show lL x.bm=_;unfold lL;rw[h])<|I 29<|bp (O<|by unfold rD;rw[h])
  |some X=>
  have D:dK x.bm=some (iz x.bm):=by unfold iz;rw[h];rfl
  refine aJ 39 (.bc [cU<|iz x.bm,.aa 0]) j (by show lL x.bm=_;unfold lL;rw[D])<|I 21<|e0 (tq (J:=0) j j ai) ?_;exact I 8<|dD [0,1,2,3] 1 ⟨ai,ai,λ_=>h.symm.trans D,λh=>absurd h ai⟩
 .have o:=t ai;refine I 14<|lF (J:=1) j j<|I 8<|aS vs x.af N ?_;cases h:dK x.af with
  |none=>
   exact aJ 39 (.bc [cU 0,.aa 6]) j (by show lL x.af=_;unfold lL;rw[h])<|I 29<|bp (O<|by unfold rD;rw[h,o])
  |some X=>
  have D:dK x.af=some (iz x.af):=by unfold iz;rw[h];rfl
  refine aJ 39 (.bc [cU<|iz x.af,.aa 0]) j (by show lL x.af=_;unfold lL;rw[D])<|I 21<|e0 (tq (J:=1) j j ai) ?_;exact I 8<|dD [0,1,2,3] 2 ⟨ai,ai,λ_=>o,λ_=>h.symm.trans D⟩
 .have o:=t ai;have F:=M ai;have u:rD q C x=if kO q C (iz x.bm)/\kO q C (iz x.af)/\¬iz x.af<iz x.bm then 0 else 7:=by unfold rD;rw[o,F]
  refine I 19<|aJ 53 (.aa (f:Int)) j (by rw[ah])<|eW (q,C) ae j<|I 9 ?_;have G:=r' T o;have Z:=r' N F;have no:¬(kO q C (iz x.bm)/\kO q C (iz x.af)/\¬iz x.af<iz x.bm)->bz (.aa 7) (HZ.res (p,i,x)):=λh=>O<|u.trans<|av h;refine e0 (tq (J:=0) j j ai) ?_;refine I 1<|aS M8 (q,C,iz x.bm) G ?_;by_cases W:kO q C (iz x.bm)
  case neg=>
   exact cl 59 (bK<|cp W)<|I 26<|bp (no λh=>W h.1)
  refine cl 59 (bK<|cm W)<|I 5<|e0 (tq (J:=1) j j ai) ?_;refine I 3<|aS M8 (q,C,iz x.af) Z ?_;by_cases cA:kO q C (iz x.af)
  case neg=>
   exact cl 65 (bK<|cp cA)<|I 21<|bp (no λh=>cA h.2.1)
  refine cl 65 (bK<|cm cA)<|I 5<|e0 (tq (J:=0) j j ai) ?_;refine I 3<|e0 (tq (J:=1) j j ai) ?_;refine I 3<|aS zM (iz x.bm,iz x.af) ⟨eL G,eL Z⟩<|I 2 ?_;by_cases dG:iz x.af<iz x.bm
  .have a':=xy.2 dG;exact cl 74 (bK<|cm a')<|I 11<|bp (no λh=>h.2.2 dG)
  .have a':¬0<ji (iz x.bm) (iz x.af):=λh=>dG<|xy.1 h;exact cl 74 (bK<|cp a')<|I 12<|bp (O<|u.trans<|aD ⟨W,cA,dG⟩)
def jW(i f:Int)(n:g3):Bool:=decide (n.op=2)&&(decide (n.a=i)&&decide (n.f≠f))
def t':bl 184 (bV λ((n,i,f):g3×Int×Int)=>([.agg<|lb n,.ip [.aa i],.ip [.aa f]],True,.b<|jW i f n)):=by
 refine bL [] UU.1 ?_;intro⟨n,i,f⟩ _ H aq;refine I 11 ?_;by_cases Y:n.op=2
 .refine cl 7 (bK<|cm Y)<|I 9 ?_;by_cases G:n.a=i
  .exact cl 12 (bK (cm G))<|I 15<|bn (ep j j<|.of (bK<|by unfold jW;rw[cm Y,cm G];rfl))
  .exact cl 12 (bK (cp G))<|I 11<|bn (ep j j<|.of (bK<|by unfold jW;rw[cm Y,cp G];rfl))
 .exact cl 7 (bK<|cp Y)<|I 16<|bn (ep j j<|.of (bK<|by unfold jW;rw[cp Y];rfl))
def rE(q:g3->Bool):ac g3->Nat->Int
 |[],_=> -1
 |n::l,k=>if q n=true then k else rE q l (k+1)
theorem u'(q:g3->Bool):∀(l:ac g3) (k:Nat),decide (0<=rE q l k)=l.any q
 |[],_=>rfl
 |n::l,k=>by
  rw[rE,List.any_cons];cases h:q n with
  |true=>simp
  |false=>simpa using u' q l (k+1)
def NS(i f:Int):ag:=.fn (.func 184) [] [.ip [.aa i],.ip [.aa f]]
def v':bl 295 (bV λ((l,i,f):ac g3×Int×Int)=>([.b6 7 g3 lb l,NS i f],l.length<=1000000,.aa<|rE (jW i f) l 0)):=by
 refine bL [t'] U6.1 ?_;intro⟨l,i,f⟩ (aB:l.length<=1000000) H aq;refine I 14<|eS (λk=>k<=l.length/\rE (jW i f) (l.drop k) k=rE (jW i f) l 0) (λ(k:Nat)=>⟨[],0,[(0,.b6 7 g3 lb l),(1,NS i f),(4,.aa 0),(7,.aa l.length),(8,.aa k)]⟩) (λk=>l.length-k) [] 0 apR ?_;rintro k ⟨N,Z⟩;refine I 3 ?_;by_cases aW:k<l.length
 .refine cM 9<|I 19<|eW l[k] aqB j<|I 1 ?_;rw[(fj aW)]at Z;refine Cl t' (l[k],i,f) az ?_;cases h:jW i f l[k]with
  |true=>
   exact cl 16 (bK h)<|I 15<|bn (ep j j (.of<|by show ag.i _ _=ag.aa (rE (jW i f) l 0);rw[<-Z];unfold rE;rw[aD h]))
  |false=>
   refine cl 16 (bK h)<|I 8<|cj 18 ↑(k+1)<|I 2<|iV [] (k+1) ⟨aW,?_⟩;rw[<-Z];conv=>rhs;unfold rE
   rw[av<|by rw[h];decide]
 .exact cI 9<|I 15<|bn (ep j j (.of<|by show ag.i _ _=ag.aa (rE (jW i f) l 0);rw[<-Z,kX R];rfl))
def x':bl 185 (bV λ((l,i,f):ac g3×Int×Int)=>([.b6 7 g3 lb l,NS i f],l.length<=1000000,.b<|l.any<|jW i f)):=by
 apply bL [v'] VL.1;intro⟨l,i,f⟩ aB H aq;exact I 9<|aS v' (l,i,f) aB<|aJ 7 (.aa<|rE (jW i f) l 0) j j<|I 5<|cC (bK<|u' _ l 0)
def Ag(p:dX)(i:Nat)(s:xL):Int:=
 if¬(0<=s.i/\s.i<p.head)\/¬(0<=s.n/\s.n<p.tail)then 7
 else match p.bT[s.i.toNat]?,p.bT[s.n.toNat]? with
  |some a,some b=>if b.f≠a.f\/p.bT.any (jW i a.f)=true then 143 else 0
  |_,_=>0
def tP:df:=bV λ((p,i,s):dX×Nat×xL)=>([iy p,.aa (i:Int)],p.hc[i]? =some s/\p.head<=(p.bT.length:Int)/\p.tail<=(p.bT.length:Int)/\p.bT.length<=1000000,.aa<|Ag p i s)
def anw:bl 95 tP:=by
 refine bL [(96,sI),x'] T1.1 ?_;intro⟨p,i,s⟩ ⟨V,D,jE,aB⟩ H aq;have E:∀{c:Int},Ag p i s=c->bz (.aa c) (tP.res (p,i,s)):=λh=>.of apJ;refine I 13<|eW s V j<|I 13<|aS xM (s.i,p.head) az ?_;by_cases Y:0<=s.i/\s.i<p.head
 case neg=>
  exact cl 19 (bK<|cp Y)<|I 20<|bp (E<|aD as4)
 refine cl 19 (bK<|cm Y)<|I 13<|aS xM (s.n,p.tail) az ?_;by_cases G:0<=s.n/\s.n<p.tail
 case neg=>
  exact cl 27 (bK (cp G))<|I 13<|bp (E<|aD<|.inr G)
 refine cl 27 atf ?_;obtain⟨a,t⟩:∃a:Nat,s.i=(a:Int):=⟨s.i.toNat,R⟩;obtain⟨b,C⟩:∃b:Nat,s.n=(b:Int):=⟨s.n.toNat,R⟩;have w:s.i.toNat=a:=R
 have Z:s.n.toNat=b:=R
 have u:a<p.bT.length:=R
 have q:b<p.bT.length:=R
 have o:∀{c:Int},(if(p.bT[b]).f≠(p.bT[a]).f\/p.bT.any (jW i (p.bT[a]).f)=true then 143 else 0)=c->bz (.aa c) (tP.res (p,i,s)):=λh=>E (by
  unfold Ag;rw[av λh=>h.elim (λh=>h Y) λh=>h G,w,Z,aO u,aO q];exact h)
 refine I 15<|aJ 34 (.aa (a:Int)) j (by rw[t])<|eW p.bT[a] (aO u) j ?_;refine dW 37 ?_
 iterate 2 refine fE j ?_
 refine R7 3 ?_;refine R7 6 ?_;refine I 16<|dF 43 (.aa (b:Int)) j j (by rw[C])<|fy p.bT[b] (aO q) j<|I 4 ?_;by_cases A:(p.bT[b]).f≠(p.bT[a]).f
 .exact dF 48 (.b true) j j asK<|I 17<|bp (o<|aD<|.inl A)
 refine dF 48 (.b false) j j asJ<|I 10<|ca x' (p.bT,(i:Int),(p.bT[a]).f) aB ?_;cases T:p.bT.any (jW i (p.bT[a]).f)with
 |true=>
  exact cl 54 (bK T)<|I 11<|bp (o<|aD<|.inr T)
 |false=>
  exact cl 54 (bK T)<|I 12<|bp (o<|av λh=>h.elim A λh=>Bool.noConfusion<|T.symm.trans h)
def jn{α:Type}(g:Nat->α->Int):ac α->Nat->be (Nat×Int)
 |[],_=>none
 |x::l,k=>if g k x=0 then jn g l (k+1)else some (k,g k x)
def Di{α:Type}{g:Nat->α->Int}{l:ac α}{J:Nat}(ba:J<l.length):jn g (l.drop J) J=if g J l[J]=0 then jn g (l.drop<|J+1) (J+1)else some (J,g J l[J]):=by
 rw[fj ba];rfl
def tQ(_:dX)(_:Nat)(x:Int×Int):Int:=if hD x.1 x.2 then 0 else 2
def tR(p:dX)(_:Nat)(x:oI):Int:=x0 p x
def tS(p:dX)(i:Nat)(n:g3):Int:=tO p i n
def tT(p:dX)(i:Nat)(s:xL):Int:=Ag p i s
def qm(p:dX):Int×Int×Int:=
 match jn (tQ p) p.bS 0 with
 |some x=>(1,x.1,x.2)
 |none=>match jn (tR p) p.ins 0 with
  |some x=>(2,x.1,x.2)
  |none=>match jn (tS p) p.bT 0 with
   |some x=>(3,x.1,x.2)
   |none=>match jn (tT p) p.hc 0 with
    |some x=>(4,x.1,x.2)
    |none=>if¬kf p.out p.bT.length\/hd p p.out=1 then(5,0,7)else(0,0,0)
def ew(p:dX):Int×Int×Int:=if qj p=0 then qm p else(0,0,qj p)
def Ah(x:Int×Int×Int):ag:=.bc [.aa x.1,.aa x.2.1,.aa x.2.2]
def vF(p:dX):Prop:=(∀x∈p.ins,x.bm.length<=2000/\x.af.length<=2000)/\∀n∈p.bT,n.v.length<=2000
variable{n:Nat}{b1:ac eH}
def H0:df where
 L:=dX
 args:=λp=>[iy p]
 pre:=vF
 res:=λp=>Ah (ew p)
 hp:=oJ
 hm:=oJ.up
def y'(p:dX):ac ag:=[.aa (p.bS.length:Int),.fn (.func 92) [iy p] [],.aa (p.ins.length:Int),.fn (.func 93) [iy p] [],.aa (p.bT.length:Int),.fn (.func 94) [iy p] [],.aa (p.hc.length:Int),.fn (.func 95) [iy p] []]
theorem NT{p:dX}(h:qj p=0):p.bS.length<=6/\p.ins.length<=6/\p.bT.length<=64/\p.hc.length<=4/\p.tail<=(p.bT.length:Int)/\p.head<=p.tail/\0<=p.head:=by
 grind [qj]
def anx:bl 30 H0:=by
 refine sC [(91,zZ),YN,s',p',(95,tP),(96,sI),(97,vu)] TO.1 ?_;intro(p:dX) ⟨I,q⟩ H aq T;have E:∀{c:Int×Int×Int},ew p=c->bz (Ah c) (H0.res p):=λh=>.of apJ;refine st ?_;refine aS al4 p az ?_;refine aJ 15 (.aa<|qj p) j j<|dW 17 ?_;by_cases O:qj p=0
 case neg=>
  refine v1 17 O<|st ?_;exact bp<|E<|av O
 refine aJ 17 (.b false) j (bK<|cp λh=>h O) ?_;have A:∀{c:Int×Int×Int},qm p=c->bz (Ah c) (H0.res p):=λh=>E<|(aD O).trans h;obtain⟨al,ao,au,aj,ae,ah,ak⟩:=NT O;refine st ?_;refine ea (L:=Nat) (λk=>k<=4/\(1<=k->jn (tQ p) p.bS 0=none)/\(2<=k->jn (tR p) p.ins 0=none)/\(3<=k->jn (tS p) p.bT 0=none)/\(4<=k->jn (tT p) p.hc 0=none)) (λ(k:Nat)=>⟨[.c 27<|g4 p,.c 184<|g4 p,.c 187<|y' p],3,[(1,.p 0 0),(5,.p 1 0),(44,.aH 2 2 0 4 4),(45,.aa 4),(46,.aa (k:Int))]⟩) (λk=>4-k) [0,1,2] 0 ⟨R,λh=>absurd h ai,λh=>absurd h ai,λh=>absurd h ai,λh=>absurd h ai⟩ (by show 4-0<bs+1;unfold bs;omega) bk ?_;rintro(k:Nat) ⟨N,W,C,u,a'⟩;rcases(show k=0\/k=1\/k=2\/k=3\/k=4 by omega)with rfl|rfl|rfl|rfl|rfl
 rotate_left 4
 .have ag:=W ai;have t:=C ai;have w:=u ai;have o:=a' ai;have M:qm p=if¬kf p.out p.bT.length\/hd p p.out=1 then(5,0,7)else(0,0,0):=by unfold qm;simp only[ag,t,w,o]
  refine st ?_;refine aS xM (p.out,(p.bT.length:Int)) az ?_;by_cases Y:kf p.out p.bT.length
  case neg=>
   refine v0 73 Y<|st ?_;exact bp<|A (c:=(5,0,7))<|M.trans<|aD as4
  refine v1 73 Y<|st ?_;refine aS M6 (p,p.out) az ?_;refine aJ 79 (.aa<|hd p p.out) j j<|dW 80 ?_;by_cases G:hd p p.out=1
  .refine v1 80 G<|st ?_;exact bp<|A (c:=(5,0,7))<|M.trans<|aD<|.inr G
  .refine v0 80 G<|st ?_;exact bp<|A (c:=(0,0,0))<|M.trans<|av λh=>h.elim (λh=>h Y) G
 let l:=p.bS;let g:=tQ p;let F:=92;let k:=0;rotate_left
 let l:=p.ins;let g:=tR p;let F:=93;let k:=1;rotate_left
 let l:=p.bT;let g:=tS p;let F:=94;let k:=2;rotate_left
 let l:=p.hc;let g:=tT p;let F:=95;let k:=3;rotate_left
 all_goals
  have aB:l.length<=64:=by simp only[l];omega
  refine st ?_;refine zp ?_;refine st ?_;refine ea (L:=Nat) (λJ=>J<=l.length/\jn (g) (l.drop J) J=jn (g) l 0) (λ(J:Nat)=>⟨[.c 27<|g4 p,.c 184<|g4 p,.c 187<|y' p,.c 187 [.aa (l.length:Int),.fn (.func F) [iy p] []]],4,[(1,.p 0 0),(5,.p 1 0),(44,.aH 2 2 0 4 4),(45,.aa 4),(46,.aa (k:Nat)),(8,.aa (k:Nat)),(9,.p 3 0),(52,.aa (l.length:Int)),(53,.aa (J:Int))]⟩) (λJ=>l.length-J) [0,1,2,3] 0 apR (by show _-0<bs+1;unfold bs;omega) bk ?_;rintro(J:Nat) ⟨ar,Z⟩;refine dW 54 ?_;by_cases V:J<l.length
  .refine cM 54<|st ?_;rw[Di V]at Z
   first
   |(have:F=92:=rfl;refine Cl YN (p,J,(p.bS[J]).1,(p.bS[J]).2) (aO V) ?_)
   |(have:F=93:=rfl;refine Cl s' (p,J,p.ins[J]) ⟨aO V,I _<|dH V⟩ ?_)
   |(have:F=94:=rfl;refine Cl p' (p,J,p.bT[J]) ⟨aO V,q _<|dH V⟩ ?_ (cK:=T))
   |refine Cl anw (p,J,p.hc[J]) ⟨aO V,R,ae,R⟩ ?_
   refine aJ 59 (.aa<|g J l[J]) j j<|dW 61 ?_;by_cases D:g J l[J]=0
   .rw[aD D]at Z;refine aJ 61 (.b false) j (bK<|cp λh=>h D)<|dW 66 ?_;refine cj 66 ((J+1:Nat):Int)<|st ?_;exact bB [0,1,2,3] (J+1) ⟨R,V,Z⟩ bk
   .rw[av D]at Z;refine v1 61 D<|st ?_;refine bp<|A (c:=(_,(J:Int),g J l[J])) ?_;simp only[g,l]at Z;simp[qm,<-Z,W,C,u,k,g,l];rfl
  .refine cI 54<|st ?_;have Z:jn g l 0=none:=by rw[<-Z,kX R];rfl
   refine bB [0,1,2] (k+1) ⟨ai,ai,?_,?_,?_,?_⟩ bk<;>intro h<;>first|exact Z|exact absurd h ai|exact W ai|exact C ai|exact u ai
def rF{M m R a dm:Nat}{f:Poly}(h:eM n m a f)(aC:n<=M)(aI:m<=R)(j:a<=dm):eM M R dm f:=aqt
def Ai:cq 2 (-1:Rat):=ats
theorem anz{x:hP}{g:Poly}(eF:p4 n x)(aB:b1.length=n)(u:∀v∈b1,cq 250 v.1/\cq 250 v.2)(h:ld b1 x=some g):eM 200 16 1608158 g:=by
 unfold ld at h;dsimp only at h;split at h
 case isFalse=>cases h
 rename_i Y;have D:=eF.f.fit Y;have O:=D.ek D;split at h
 case isFalse=>cases h
 rename_i G;have O:=O.fit G;split at h
 .rename_i A;have hm:x.k.toNat<b1.length:=by have:=eF.bJ;omega
  have C:=u _<|hv hm;have e:b1.getD x.k.toNat (0,0)=b1[x.k.toNat]:=by grind
  rw[e]at h;have I:=eM.var x.k.toNat;have o:=eM.nil.put ai xX C.1;have F:=eM.nil.put ai xX C.2;have N:=F.oM I ai ai Ai;have j:=(I.oM o ai ai Ai).ek N;split at h
  .rename_i T;cases h;exact rF ((O.ek j).fit T) (c5 _) (c5 _) ai
  .cases h
 .cases h;exact rF O (c5 _) (c5 _) ai
theorem z'{n:Nat}{b1:ac eH}(aB:b1.length=n)(u:∀v∈b1,cq 250 v.1/\cq 250 v.2):∀{xs:ac hP} {S j:Poly} {a:Nat},(∀x∈xs,p4 n x)->eM 200 16 a S->2<=a->ke b1 S xs=some j->eM 200 16 (a+xs.length*1700000) j
 |[],S,j,a,_,E,_,h=>by cases h;exact rF E (c5 _) (c5 _) R
 |x::xs,S,j,a,eF,E,bR,h=>by
  rw[HN]at h;cases O:ld b1 x with
  |none=>exact ap1
  |some g=>
   rw[O]at h;dsimp only at h;split at h
   .rename_i D;have bX:=eF x hT;have G:=rF ((E.oM (anz bX aB u O) bR ai bX.c).fit D) (c5 _) (c5 _) (show 1608158+250+a+1<=a+1700000 by omega);exact rF (z' aB u (λy T=>eF y<|fq _ T) G R h) (c5 _) (c5 _) apt
   .cases h
def lM(n:Nat)(l:ac e1):Except Int (ac eH):=if l.length=n then(match g5 l with
 |some ab=>if ql ab=true then .ok ab else .error 7
 |none=>.error 6)else .error 2
def anA(n:Nat)(l:ac e1):xW n l=match lM n l with
 |.ok ab=>.ret (.b6 6 eH l9 ab)
 |.error e=>.aV (eu e):=by
 unfold xW lM;split
 .cases g5 l with
  |none=>rfl
  |some ab=>dsimp only;split<;>rfl
 .rfl
def py(n:Nat)(b1:ac eH)(l:ac dz):Except Int Poly:=
 if l.length<=20/\(∀s∈l,s.cr.length<=200)then(match hf n l with
  |.ok xs=>(match ke b1 [] xs with
   |some S=>.ok S
   |none=>.error 3)
  |.error e=>.error e)else .error 3
def anB(n:Nat)(b1:ac eH)(l:ac dz):vB n b1 l=match py n b1 l with
 |.ok S=>.ret (.g<|fO<|e9 S)
 |.error e=>.aV (eu e):=by
 unfold vB py;split
 .cases hf n l with
  |error e=>rfl
  |ok xs=>dsimp only;cases ke b1 [] xs<;>rfl
 .rfl
def iL(p:dX)(box:ac e1)(l:ac dz):ac cV×Int:=
 if(ew p).2.2=0 then(match lM p.ins.length box with
  |.ok ab=>(match py p.ins.length ab l with
   |.ok S=>(jm p.ins.length S,0)
   |.error e=>([],e))
  |.error e=>([],e))else([],(ew p).2.2)
def NU{l:ac e1}{ab:ac eH}(M:∀s∈l,s.1.length<=2000/\s.2.length<=2000)(h:lM n l= .ok ab):ab.length=n/\∀v∈ab,cq 250 v.1/\cq 250 v.2:=by
 rw[lM]at h;split at h
 case isFalse=>cases h
 rename_i aB;cases aj:g5 l with
 |none=>rw[aj]at h;cases h
 |some j=>
  rw[aj]at h;dsimp only at h;split at h
  .cases h;refine⟨?_,HG M aj⟩;rw[<-aB];clear aB M
   induction l generalizing ab with
   |nil=>cases aj;rfl
   |cons s l I=>
    cases A:dK s.1 with
    |none=>rw[HE A]at aj;cases aj
    |some a=>
     cases C:dK s.2 with
     |none=>rw[HF A C]at aj;cases aj
     |some b=>
      have e:g5 (s::l)=(g5 l).map ((a,b)::·):=by
       show(match dK s.1 with|some a=>(match dK s.2 with|some b=>(g5 l).map ((a,b)::·)|none=>none)|none=>none)=_;rw[A,C]
      rw[e]at aj;cases F:g5 l with
      |none=>rw[F]at aj;cases aj
      |some w=>
       rw[F]at aj;cases aj;have:=I F (by rename_i V;unfold ql at V ⊢;rw[vQ,c1]at V;exact V.2);rw[hQ,hQ,this]
  .cases h
def A'{l:ac dz}{S:Poly}(aB:b1.length=n)(u:∀v∈b1,cq 250 v.1/\cq 250 v.2)(M:∀s∈l,s.b3.length<=3000/\jl s.cr<=1000)(h:py n b1 l= .ok S):eM 200 16 40000000 S:=by
 rw[py]at h;split at h
 case isFalse=>cases h
 rename_i W;cases I:hf n l with
 |error e=>rw[I]at h;cases h
 |ok xs=>
  rw[I]at h;dsimp only at h;cases E:ke b1 [] xs with
  |none=>rw[E]at h;cases h
  |some T=>
   rw[E]at h;cases h;have Y:=HJ (λs hm=>⟨(M s hm).1,(M s hm).2,W.2 s hm⟩) I;have G:xs.length=l.length:=by
    clear E Y W M
    induction l generalizing xs with
    |nil=>cases I;rfl
    |cons s l q=>
     rw[hf]at I;cases o:jD n s with
     |error e=>rw[o]at I;cases I
     |ok x=>
      rw[o]at I;cases j:hf n l with
      |error e=>rw[j]at I;cases I
      |ok Z=>
       rw[j]at I;cases I;rw[hQ,hQ,q _ j]
   exact rF (z' aB u Y (rF eM.nil ai ai<|c5 _) (c5 _) E) (c5 _) (c5 _) R
end Go.bC.dg
namespace Go.bC.dg
open Go.bC Sym
set_option maxRecDepth 100000
set_option maxHeartbeats 8000000
def NV{p:dX}(h:(ew p).2.2=0):p.ins.length<=6:=by
 by_cases O:qj p=0
 .exact(NT O).2.1
 .unfold ew at h;rw[av O]at h;exact absurd h O
def B':df:=q5 (λN=>oJ N/\ni N) (λh D=>⟨D.1.up h,D.2.up h⟩) λ((p,b1,l):dX×ac e1×ac dz)=>([iy p,.cd 2 e1 mL b1,.cd 3 dz ht l],vF p/\(∀s∈b1,s.1.length<=2000/\s.2.length<=2000)/\∀s∈l,s.b3.length<=3000/\(∀t∈s.cr,t.b3.length<=3000)/\jl s.cr<=1000,.bc [.hq 2 cV h7 (iL p b1 l).1,.aa (iL p b1 l).2])
def C':bl 7 B':=by
 refine sC [(30,H0),(31,HB),(33,Zc),(32,Nu),(34,(Dh λ_=>True).spec)] fv.1 ?_;intro⟨p,b1,l⟩ ⟨hp,u,aB⟩ H aq ⟨A,q⟩;have bad:∀{c:Int},iL p b1 l=([],c)->bz (.bc [.nl,.aa c]) (B'.res (p,b1,l)):=λ{c} h=>by
  show bz _ (.bc [.hq 2 cV h7 (iL p b1 l).1,.aa (iL p b1 l).2]);rw[h];exact .bc ⟨.iS,.refl _,az⟩
 refine I 12<|afE (n:=4611686018427387902) (by unfold bs;rfl) (cu:=90) (t:=35) (aA:=182) S7.1 bu bu bu ?_;intro H1 O G D hle;have V:=A.up hle;have W:=q.up hle;refine I 3<|aS anx p hp (aJ 9 (.bc [.aa (ew p).1,.aa (ew p).2.1,.aa (ew p).2.2]) j j<|I 12 ?_) (cK:=V);by_cases F:(ew p).2.2=0
 case neg=>
  refine kK z4 (ew p).2.2 az (eu (ew p).2.2) (av F)<|I 1<|bn (.inr ⟨(ew p).2.2,j,?_⟩);exact I 12<|bp (bad<|av F)
 refine l4 z4 (ew p).2.2 az (.bc []) (aD F) ?_;have w:=NV F;have o:iL p b1 l=(match lM p.ins.length b1 with
  |.ok ab=>(match py p.ins.length ab l with
   |.ok S=>(jm p.ins.length S,0)
   |.error e=>([],e))
  |.error e=>([],e)):=aD F
 have Z:=anA p.ins.length b1;refine st ?_;cases C:lM p.ins.length b1 with
 |error e=>
  rw[C]at Z o;refine xf Zd (p,b1) ⟨w,u⟩ (eu e) Z<|bn (.inr ⟨e,j,?_⟩);exact I 12<|bp (bad o)
 |ok ab=>
 rw[C]at Z o;obtain⟨T,L⟩:=NU u C;refine xe Zd (p,b1) ⟨w,u⟩ (.b6 6 eH l9 ab) Z<|I 2 ?_;have R:=anB p.ins.length ab l;have N:Nu.pre (p,ab,l):=⟨w,T,L,aB⟩;cases M:py p.ins.length ab l with
 |error e=>
  rw[M]at R;dsimp only at o;rw[M]at o;refine xf Zv (p,ab,l) N (eu e) R<|bn (.inr ⟨e,j,?_⟩);exact I 12<|bp (bad o)
 |ok S=>
 rw[M]at R;dsimp only at o;rw[M]at o;refine xe Zv (p,ab,l) N (.g<|fO<|e9 S) R ?_;have E:=A' T L (λs hm=>⟨(aB s hm).1,(aB s hm).2.2⟩) M;refine I 3<|ca anu (S,p.ins.length) ⟨(⟨E.s,E.z,λp hp=>⟨xS<|C6 (E.k p hp) ai,eL (E.b p hp) ai⟩,ch E.l ai,w⟩),az⟩ (I 2<|bn (.inl ⟨.inl j,?_⟩)) (cK:=W);refine I 12<|bp ?_;show bz _ (.bc [.hq 2 cV h7 (iL p b1 l).1,.aa (iL p b1 l).2]);rw[o];exact .refl _
set_option maxHeartbeats 4000000
def mb:ac Int->ac Int->Int
 |a::l,b::m=>if a<b then -1 else if b<a then 1 else mb l m
 |_,_=>0
def aE.jX(n:Nat)(k:aE):Prop:=∀i,n<=i->k.n.getD i 0=0
variable{n:Nat}{k J:aE}{x:Rat}
theorem NW:∀(n:Nat) (l m:ac Nat),l.length=m.length->(∀i,n<=i->l.getD i 0=0)->(∀i,n<=i->m.getD i 0=0)->mb ((l.take n).map Int.ofNat) ((m.take n).map Int.ofNat)=h8 l m
 |n,[],[],_,_,_=>by simp[mb,h8]
 |0,a::l,b::m,h,aC,aI=>by
  have bR:a=0:=aC 0<|c5 _;have C:b=0:=aI 0<|c5 _;have:=NW 0 l m apH (λi _=>aC (i+1)<|c8 _) λi _=>aI (i+1)<|c8 _;subst bR C;show(0:Int)=if lf ((0:Nat):Int) ((0:Nat):Int)=0 then h8 l m else _;rw[aD<|Zx.2 j,<-this];rfl
 |n+1,a::l,b::m,h,aC,aI=>by
  have:=NW n l m apH (λi af=>aC (i+1) R) λi af=>aI (i+1) R;show(if(a:Int)<(b:Int)then(-1:Int)else if(b:Int)<(a:Int)then 1 else mb ((l.take n).map Int.ofNat) ((m.take n).map Int.ofNat))=if lf (a:Int) (b:Int)=0 then h8 l m else lf (a:Int) (b:Int);rw[this];unfold lf;split
  .rfl
  .split
   .rfl
   .rfl
 |_,[],_::_,h,_,_=>by simp at h
 |_,_::_,[],h,_,_=>by simp at h
def H2(aw:k.jX n)(ba:J.jX n):mb (gO n k) (gO n J)<0↔aE.lt k J:=by
 unfold gO;rw[NW n k.n J.n j aw ba];exact C9 k J
theorem H3:∀l:ac Int,mb l l=0
 |[]=>rfl
 |a::l=>by
  show(if a<a then(-1:Int)else if a<a then 1 else mb l l)=0;rw[av R,av R];exact H3 l
theorem D':∀{l m:ac Int},l.length=m.length->(mb l m=0↔l=m)
 |[],[],_=>by simp[mb]
 |a::l,b::m,h=>by
  have:=D' (l:=l) (m:=m) apH;show(if a<b then(-1:Int)else if b<a then 1 else mb l m)=0↔_;split
  .rename_i aB;simp;intro e;omega
  .split
   .simp;intro e;omega
   .rw[this];have:a=b:=by omega
    simp[this]
 |[],_::_,h=>by simp at h
 |_::_,[],h=>by simp at h
def E'(aw:k.jX n)(ba:J.jX n):mb (gO n k) (gO n J)=0↔k=J:=by
 constructor
 .intro h;by_cases e:k=J
  .exact e
  .have G:=aE.CD (λg=>by have:=(H2 aw ba).2 g;omega) e;have A:=(H2 ba aw).2 G;rw[((D'<|by unfold gO;simp[aE.n]).1 h),H3]at A;omega
 .intro h;rw[h];exact H3 _
def Dj:bl 49 (bV λ((l,m):ac Int×ac Int)=>([.cd 1 Int er l,.cd 1 Int er m],l.length=m.length/\l.length<=1000000,.aa<|mb l m)):=by
 refine bL [] Tc.1 ?_;intro⟨l,m⟩ ⟨(V:l.length=m.length),(aB:l.length<=_)⟩ H aq;refine I 12<|eS (L:=Nat) (λi=>i<=l.length/\mb (l.drop i) (m.drop i)=mb l m) (λ(i:Nat)=>⟨[],0,[(0,.cd 1 Int er l),(1,.cd 1 Int er m),(5,.aa (i:Nat))]⟩) (λi=>l.length-i) [] 0 apR ?_;rintro(i:Nat) ⟨af,W⟩;refine I 7 ?_;by_cases h:i<l.length
 .have hm:i<m.length:=by omega
  rw[fj h,fj hm]at W;replace W:(if l[i]<m[i]then(-1:Int)else if m[i]<l[i]then 1 else mb (l.drop<|i+1) (m.drop<|i+1))=mb l m:=W;refine cM 9<|e5 0 (.b6 1 Int er l) j (.h0 λe=>by rw[e]at h;exact kV _ h) ?_;refine e5 1 (.b6 1 Int er m) j (.h0 λe=>by rw[e]at hm;exact kV _ hm) ?_;refine I 12<|fy l[i] (aO h) j<|I 3<|fy m[i] (aO hm) j<|I 4 ?_;by_cases Y:l[i]<m[i]
  .rw[aD Y]at W;exact cM 20<|I 13<|cC (congrArg (ag.aa) W)
  rw[av Y]at W;refine cI 20<|I 7<|fy l[i] (aO h) j<|I 3<|fy m[i] (aO hm) j<|I 4 ?_;by_cases G:m[i]<l[i]
  .rw[aD G]at W;exact cM 29<|I 12<|cC (congrArg (ag.aa) W)
  rw[av G]at W;exact cI 29<|I 7<|cj 11 ((i+1:Nat):Int)<|e5 0 (.cd 1 Int er l) rfl .cd<|e5 1 (.cd 1 Int er m) rfl .cd<|I 2<|iV [] (i+1) ⟨h,W⟩
 .refine cI 9 ?_;rw[kX R]at W;exact I 14<|cC (congrArg (ag.aa) W)
def jo(n:Nat)(p:aE×Rat):ac ag:=oF p.2++[.b6 1 Int er<|gO n p.1]
def dT(n:Nat)(P:Poly):ag:=.b6 4 (aE×Rat) (jo n) P
def anC{A B:Poly}(j:∀p∈A,aE.lt p.1 k):dc (A++B) k x=A++dc B k x:=by
 induction A with
 |nil=>rfl
 |cons p A I=>
  have h:=j p hT;have Y:p.1≠k:=λe=>by rw[e]at h;exact aE.nK _ h
  show dc (p::(A++B)) k x=p::(A++dc B k x)
  conv=>lhs;unfold dc
  rw[av Y,av λg=>aE.nK _<|aE.xt h g,I λq E=>j q<|fq _ E]
def R9{k z D c:Nat}:bz (.aH k z 0 n c) (.aH k D 0 n c):=λ_ _ _ ⟨b,Y,G⟩=>⟨b,Y,by rw[G,hF,hF]⟩
def H4:x.num.sign=0↔x=0:=by
 simp[vZ,IJ]
abbrev Aj(n:Nat)(p:aE×Rat):aZ:=.c 214<|jo n p
variable{B:Poly}
def anD(n:Nat)(p:aE×Rat)(e:bP):Poly->cb
 |[]=>⟨[Aj n p,.a 214 false 4 (aE×Rat) (jo n) []],2,(6,.aH 1 4 0 0 0)::e⟩
 |a::l=>⟨[Aj n p,.a 214 true 4 (aE×Rat) (jo n)<|a::l],2,(6,.aH 1 4 0 (l.length+1)<|l.length+1)::e⟩
def anE{P:Poly}{i:Nat}(j:∀q∈P.take i,aE.lt q.1 k):dc P k x=P.take i++dc (P.drop i) k x:=by
 conv=>lhs;rw[<-np i P]
 exact anC j
def anF{p:aE×Rat}:dc (p::B) p.1 x=if x+p.2=0 then B else(p.1,x+p.2)::B:=by
 conv=>lhs;rw[dc]
 rw[aD j]
def F'(h:∀p,B.head?=some p->aE.lt k p.1):dc B k x=if x=0 then B else(k,x)::B:=by
 cases B with
 |nil=>
  conv=>lhs;rw[dc]
  rw[AN]
 |cons p B=>
  have h:=h p j
  conv=>lhs;unfold dc
  rw[av λe=>by rw[e]at h;exact aE.nK _ h,aD h,AN]
def sM:bl 115 (bV λ((n,P,k,x):Nat×Poly×aE×Rat)=>([dT n P,.agg<|jo n (k,x)],P.dU/\(∀q∈P,q.1.jX n/\cq 33554432 q.2)/\k.jX n/\cq 33554432 x/\P.length<=1000000,dT n<|dc P k x)):=by
 refine bL [Dj,Hf,CQ] VD.1 ?_;intro⟨n,P,k,x⟩ ⟨(M:P.dU),Z,(N:k.jX n),(eF:cq _ x),(aB:P.length<=_)⟩ H aq;have G:∀q:aE,(gO n q).length=(gO n k).length:=λq=>by unfold gO;simp[aE.n]
 have D:(gO n k).length<=1000000:=by unfold gO;simp[aE.n];omega
 refine I 13<|iI (L:=Nat) (λi=>i<=P.length/\(∀q∈P.take i,aE.lt q.1 k)/\∀h:i<P.length,¬aE.lt P[i].1 k) (λ(i:Nat)=>⟨[Aj n (k,x)],1,[(0,dT n P),(3,.p 0 0),(5,.aa (i:Nat))]⟩) ?_ ?_
 .refine eS (L:=Nat) (λi=>i<=P.length/\∀q∈P.take i,aE.lt q.1 k) (λ(i:Nat)=>⟨[Aj n (k,x)],1,[(0,dT n P),(3,.p 0 0),(5,.aa (i:Nat))]⟩) (λi=>P.length-i) [0] 0 ⟨c8 _,λq h=>by simp at h⟩ ?_;rintro(i:Nat) ⟨af,o⟩;refine I 8 ?_;by_cases h:i<P.length
  .have hm:=Z _<|hv h;refine eJ 11 (show(i:Int)<(P.length:Int) by omega)<|I 5<|F7 P[i] (aO h) ?_;refine I 9<|ca Dj (gO n P[i].1,gO n k) ⟨G _,by rw[G];exact D⟩ (I 5 ?_) (he:=by exact⟨.cd,.cd,az⟩);by_cases Y:mb (gO n P[i].1) (gO n k)<0
   .refine v1 21 Y<|I 10<|bB [0] (i+1) ⟨by show P.length-(i+1)<P.length-i;omega,h,λq E=>?_⟩ bk;rw[hR h]at E;rcases gA.1 E with E|E
    .exact o q E
    .rw[gC]at E;rw[E];exact(H2 hm.1 N).1 Y
   .exact v0 21 Y<|I 5<|dD [0] i ⟨af,o,λ_ g=>Y<|(H2 hm.1 N).2 g⟩
  .exact dJ 11 (show¬(i:Int)<(P.length:Int) by omega)<|I 17<|dD [0] i ⟨af,o,λg=>absurd g h⟩
 rintro(i:Nat) ⟨af,o,W⟩;have w:=anE (x:=x) o;have V:(P.take i).length=i:=by rw[gQ];omega
 obtain⟨A,u⟩:∃A,A=P.take i:=dN;rw[<-u]at w V;refine zn (L:=Unit) (λ_=>True) (λ_=>anD n (k,x) [(0,dT n P),(3,.p 0 0),(5,.aa (i:Nat))] A) ?_ ?_
 .refine I 4<|Ch (p:=0) (q:=i) A ?_ (aB:=by rw[iB,u];rfl);refine ks 1 (z:=4) (jo n) ([]:Poly) ?_;refine e5 24 (.aH 1 4 0 0 0) j R9 ?_;cases A with
  |nil=>
   refine xc (ah:=jo n) apZ ?_;exact I 2<|bB [0,1] () az bk
  |cons a l=>
   refine zr (ah:=jo n) (a::l) apZ (a::l) ?_ (ay:=by simp only[hQ]at V ⊢;omega);exact I 2<|bB [0,2] () az (bk (aI:=⟨congrArg (λk=>some<|ag.aH 2 4 0 k k) au,j,j,j,az⟩))
 rintro⟨⟩ _;rcases A with _|⟨a,l⟩;have O:([]:Poly).length<=1000000:=by rw[V];omega
 refine zn (L:=Rat×Nat) (λy=>y.2<=P.length/\dc (P.drop i) k x=(if y.1=0 then P.drop y.2 else(k,y.1)::P.drop y.2)) (λy=>⟨[Aj n (k,y.1),.a 214 false 4 (aE×Rat) (jo n) []],2,[(0,dT n P),(3,.p 0 0),(5,.aa (y.2:Nat)),(6,.aH 1 4 0 0 0)]⟩) ?_ ?_
 rotate_left 2
 have O:(a::l:Poly).length<=1000000:=by rw[V];omega
 replace O:l.length+1<=1000000:=O;refine zn (L:=Rat×Nat) (λy=>y.2<=P.length/\dc (P.drop i) k x=(if y.1=0 then P.drop y.2 else(k,y.1)::P.drop y.2)) (λy=>⟨[Aj n (k,y.1),.a 214 true 4 (aE×Rat) (jo n)<|a::l],2,[(0,dT n P),(3,.p 0 0),(5,.aa (y.2:Nat)),(6,.aH 1 4 0 (l.length+1)<|l.length+1)]⟩) ?_ ?_
 iterate 2
  focus
   refine I 7 ?_;by_cases h:i<P.length
   .have hm:=Z _<|hv h;refine eJ 33 (show(i:Int)<(P.length:Int) by omega)<|I 5<|F7 P[i] (aO h) ?_;refine I 9<|ca Dj (gO n P[i].1,gO n k) ⟨G _,by rw[G];exact D⟩ (I 5 ?_) (he:=by exact⟨.cd,.cd,az⟩);by_cases Y:mb (gO n P[i].1) (gO n k)=0
    .have e:P[i].1=k:=(E' hm.1 N).1 Y;refine v1 43 Y<|I 7<|F7 P[i] (aO h) ?_;refine I 2<|ca Hf (x,P[i].2) ⟨sJ eF,sJ hm.2⟩<|I 9<|bB [0,1] (x+P[i].2,i+1) ⟨h,?_⟩ bk;rw[fj h,<-e,anF]
    .refine v0 43 Y<|I 2<|bB [0,1] (x,i) ⟨af,F' λp hp=>?_⟩ bk;rw[fj h]at hp;cases hp;exact aE.CD (W h) λe=>Y<|(E' hm.1 N).2 e
   .refine dJ 33 (show¬(i:Int)<(P.length:Int) by omega)<|I 14<|bB [0,1] (x,i) ⟨af,F' λp hp=>?_⟩ bk;rw[kX R]at hp;cases hp
  rotate_left
 .rintro⟨y,i2⟩ ⟨t,T⟩;replace T:dc (P.drop i) k x=(if y=0 then P.drop i2 else(k,y)::P.drop i2):=T;replace t:i2<=P.length:=t;rw[T]at w;refine I 5<|aS CQ y az<|I 1 ?_;by_cases F:y=0
  .rw[aD F]at w;refine v0 58 (show¬(y.num.sign≠0)fromλg=>g<|H4.2 F) ?_;refine I 10<|Ch (p:=i2) (q:=P.length) (P.drop i2) ?_ (aB:=by rw[gB asZ]);have C:(P.drop i2).length<=1000000:=by rw[iX];omega
   generalize P.drop i2=ah at *;cases ah with
   |nil=>
    refine xc (ah:=jo n) apZ ?_ (m9:=c5 _) (aQ:=au) (ay:=by show(5*(l.length+1)+1792)*81<=1125899906842624;omega);refine h5 67 ?_ (aj:=au);exact I 4<|cC (congrArg (dT n) (show(a::l:Poly)=dc P k x by first|(rw[w];done)|(rw[w];simp)))
   |cons r ah=>
    refine q6 (ah:=jo n) (r::ah) apZ ?_ (aj:=au) (ay:=by show(5*(l.length+1+(r::ah).length)+1792)*81<=1125899906842624;omega);refine h5 67 ?_ (aj:=by simp;try omega);exact I 4<|cC (congrArg (dT n) (show((a::l)++(r::ah):Poly)=dc P k x by first|(rw[w];done)|(rw[w];simp)))
  .rw[av F]at w;refine v1 58 (show y.num.sign≠0 fromλg=>F<|H4.1 g) ?_;refine I 7<|q6 (ah:=jo n) [(k,y)] (iH (ah:=jo n) [(k,y)] j) ?_ (aj:=au) (ay:=by show(5*(l.length+1+1)+1792)*81<=1125899906842624;omega);refine I 8<|Ch (p:=i2) (q:=P.length) (P.drop i2) ?_ (aB:=by rw[gB asZ]);have C:(P.drop i2).length<=1000000:=by rw[iX];omega
   generalize P.drop i2=ah at *;cases ah with
   |nil=>
    refine xc (ah:=jo n) apZ ?_ (m9:=c5 _) (aQ:=au) (ay:=by show(5*(l.length+1+1)+1792)*81<=1125899906842624;omega);refine h5 67 ?_ (aj:=au);exact I 4<|cC (congrArg (dT n) (show((a::l)++[(k,y)]:Poly)=dc P k x by first|(rw[w];done)|(rw[w];simp)))
   |cons r ah=>
    refine q6 (ah:=jo n) (r::ah) apZ ?_ (aj:=au) (ay:=by show(5*(l.length+1+1+(r::ah).length)+1792)*81<=1125899906842624;omega);refine h5 67 ?_ (aj:=by simp;try omega);exact I 4<|cC (congrArg (dT n) (show(((a::l)++[(k,y)])++(r::ah):Poly)=dc P k x by first|(rw[w];done)|(rw[w];simp)))
 .rintro⟨y,i2⟩ ⟨t,T⟩;replace T:dc (P.drop i) k x=(if y=0 then P.drop i2 else(k,y)::P.drop i2):=T;replace t:i2<=P.length:=t;rw[T]at w;refine I 5<|aS CQ y az<|I 1 ?_;by_cases F:y=0
  .rw[aD F]at w;refine v0 58 (show¬(y.num.sign≠0)fromλg=>g<|H4.2 F) ?_;refine I 10<|Ch (p:=i2) (q:=P.length) (P.drop i2) ?_ (aB:=by rw[gB asZ]);have C:(P.drop i2).length<=1000000:=by rw[iX];omega
   generalize P.drop i2=ah at *;cases ah with
   |nil=>
    refine xc (ah:=jo n) apZ ?_;refine h5 67 ?_;exact I 4<|cC (congrArg (dT n) (show([]:Poly)=dc P k x by first|(rw[w];done)|(rw[w];simp)))
   |cons r ah=>
    refine zr (ah:=jo n) (r::ah) apZ (r::ah) ?_ (ay:=by simp only[hQ]at C ⊢;omega);refine h5 67 ?_ (aj:=au);exact I 4<|cC (congrArg (dT n) (show((r::ah):Poly)=dc P k x by first|(rw[w];done)|(rw[w];simp)))
  .rw[av F]at w;refine v1 58 (show y.num.sign≠0 fromλg=>F<|H4.1 g) ?_;refine I 7<|zr (ah:=jo n) [(k,y)] (iH (ah:=jo n) [(k,y)] j) [(k,y)] ?_;refine I 8<|Ch (p:=i2) (q:=P.length) (P.drop i2) ?_ (aB:=by rw[gB asZ]);have C:(P.drop i2).length<=1000000:=by rw[iX];omega
   generalize P.drop i2=ah at *;cases ah with
   |nil=>
    refine xc (ah:=jo n) apZ ?_ (m9:=c5 _) (aQ:=au) (ay:=by show(5*(0+1)+1792)*81<=1125899906842624;omega);refine h5 67 ?_ (aj:=au);exact I 4<|cC (congrArg (dT n) (show([(k,y)]:Poly)=dc P k x by first|(rw[w];done)|(rw[w];simp)))
   |cons r ah=>
    refine q6 (ah:=jo n) (r::ah) apZ ?_ (aj:=au) (ay:=by show(5*(0+1+(r::ah).length)+1792)*81<=1125899906842624;omega);refine h5 67 ?_ (aj:=by simp;try omega);exact I 4<|cC (congrArg (dT n) (show(([(k,y)])++(r::ah):Poly)=dc P k x by first|(rw[w];done)|(rw[w];simp)))
structure kg(n b:Nat)(P:Poly):Prop where
 s:P.dU
 z:P.iS
 k:∀p∈P,p.1.jX n
 b:∀p∈P,cq b p.2
variable{P:Poly}{a b:Nat}
def anG(h:P.dU)(i:Nat):Poly.dU (P.take i):=List.Pairwise.sublist (List.take_sublist i P) h
def anH:cq 1 (1:Rat):=⟨rl ai,rl ai⟩
def kg.oM{c:Nat}{W:Poly}(h:kg n a P)(D:kg n b W)(bR:2<=a)(ay:2<=b)(eF:cq c x)(i:Nat):kg n (b+c+a+1) (dS P x<|W.take i):=
 ⟨nN h.s,rq h.s h.z,HI h.s h.k λp hp=>D.k p<|mR hp,Zj bR ay h.s (anG D.s i) h.b (λp hp=>D.b p<|mR hp) eF⟩
def kg.nil:kg n 2 []:=⟨List.Pairwise.nil,apF,apF,apF⟩
def kg.up(h:kg n a P)(Y:a<=b):kg n b P:=⟨h.s,h.z,h.k,λp hp=>eL (h.b p hp) Y⟩
def kg.w(h:kg n a P)(bR:a<=33554432):P.dU/\∀q∈P,q.1.jX n/\cq 33554432 q.2:=⟨h.s,λq E=>⟨h.k q E,eL (h.b q E) bR⟩⟩
theorem G'{W:Poly}(i:Nat):(dS P x<|W.take i).length<=P.length+W.length:=by grind [C5]
def H'{W:Poly}{i:Nat}(h:i<W.length):dS P x (W.take<|i+1)=dc (dS P x<|W.take i) W[i].1 (W[i].2*x):=by
 rw[hR h,Mv]
def H5:bl 42 (bV λ((n,c,d,a,b):Nat×Nat×Nat×Poly×Poly)=>([dT n a,dT n b],kg n c a/\kg n d b/\2<=c/\2<=d/\c+d+2<=33554432/\a.length+b.length<=1000000,dT n<|dS a 1 b)):=by
 refine bL [sM] Vt.1 ?_;intro⟨n,c,d,a,b⟩ ⟨A,C,E,o,t,aB⟩ H aq;refine I 18<|eS (L:=Nat) (λi=>i<=b.length) (λ(i:Nat)=>⟨[],0,[(1,dT n b),(5,dT n<|dS a 1<|b.take i),(6,.aa (i:Nat))]⟩) (λi=>b.length-i) [] 0 (c8 _) ?_;rintro(i:Nat) af;refine I 7 ?_;by_cases h:i<b.length
 .have hm:=hv h;have F:=(A.oM C E o anH i).w R;have u:=G' (P:=a) (W:=b) (x:=1) i;refine cM 11<|I 11<|eW b[i] (aO h) j<|I 1<|aS sM (n,dS a 1<|b.take i,b[i].1,b[i].2) ⟨F.1,F.2,C.k _ hm,eL (C.b _ hm) R,R⟩<|I 9 ?_;have e:=H' (P:=a) (x:=1) h;rw[Rat.mul_one]at e;exact bB [] (i+1) ⟨by show b.length-(i+1)<b.length-i;omega,h⟩<|k3 ⟨j,congrArg (λq=>some<|dT n q) e.symm,kt,az⟩
 .refine cI 11<|I 15<|cC (congrArg (dT n) ?_);rw[gB R]
def NX:bl 45 (bV λ((n,c,d,a,x):Nat×Nat×Nat×Poly×Rat)=>([dT n a,.agg<|oF x],kg n c a/\cq d x/\2<=c/\c+d+3<=33554432/\a.length<=1000000,dT n<|dS [] x a)):=by
 refine bL [Hw,sM] TR.1 ?_;intro⟨n,c,d,a,x⟩ ⟨A,eF,E,t,aB⟩ H aq;refine I 18<|e5 5 (dT n []) rfl .nl<|eS (L:=Nat) (λi=>i<=a.length) (λ(i:Nat)=>⟨[.c 105<|oF x],1,[(0,dT n a),(3,.p 0 0),(5,dT n<|dS [] x<|a.take i),(6,.aa (i:Nat))]⟩) (λi=>a.length-i) [0] 0 (c8 _) ?_;rintro(i:Nat) af;refine I 7 ?_;by_cases h:i<a.length
 .have hm:=hv h;have F:=(kg.nil.oM A (c5 _) E eF i).w R;have u:=G' (P:=[]) (W:=a) (x:=x) i;replace u:(dS [] x<|a.take i).length<=0+a.length:=u;refine cM 10<|I 10<|fy a[i] (aO h) j<|I 3<|ca Hw (a[i].2,x) ⟨jj (sJ<|A.b _ hm) R,jj (sJ eF) R⟩<|I 3<|fy a[i] (aO h) j<|I 3<|ca sM (n,dS [] x<|a.take i,a[i].1,a[i].2*x) ⟨F.1,F.2,A.k _ hm,eL (xO (A.b _ hm) eF) R,R⟩<|I 9 ?_;exact bB [0] (i+1) ⟨by show a.length-(i+1)<a.length-i;omega,h⟩<|bk (aI:=⟨j,j,congrArg (λq=>some<|dT n q) (H' (P:=[]) (x:=x) h).symm,kt,az⟩)
 .refine cI 10<|I 15<|cC (congrArg (dT n) ?_);rw[gB R]
