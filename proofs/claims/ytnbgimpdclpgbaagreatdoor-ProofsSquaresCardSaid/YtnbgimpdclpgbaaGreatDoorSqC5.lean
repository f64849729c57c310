/- What the functions of the program and of the document compute, for every input, and the plain laws of it (part 5); conditions as in the statements. -/
import Derived.Test.YtnbgimpdclpgbaaGreatDoorSqC4
import Derived.Test.YtnbgimpdclpgbaaGreatDoorSqS2
import Derived.Test.YtnbgimpdclpgbaaGreatDoorSqS3
import Derived.Test.YtnbgimpdclpgbaaGreatDoorSqC2
import Derived.Test.YtnbgimpdclpgbaaGreatDoorSqZ
noncomputable section
set_option linter.all false
namespace Go.bC.dg
open Go.bC Sym
set_option maxRecDepth 100000
set_option maxHeartbeats 8000000
section
variable{X:Ctx}{aL:ao cX}{br:d7->dV}{a6 n:Nat}{fn:d7}{a1:bb}{i0:ac Nat}{aq:ak}{Q:c6->cb->Prop}{K:ac dA}{own bg:ac aZ}{ax:Nat}{e:bP}
theorem I'{g:d7}{S:df}(aQ:et X g S.spec){bO:ac ce}{T:ac ag}{d:Tmp}{xs:ac (bj×cn)}{a9:ac aZ}{aX:bP}{aT bU z m:Nat}{el:co}{aR:Bool}{α:Type}{ah:α->ac ag}{F:ac α}{a:ag}(t a8:Nat)(dm:ag)(l:S.L)(hp:S.pre l)
 (k:bM.ok (gI X aL br n a6 fn a1 i0 aq Q) ⟨K,.d xs a9 (jb d aX) (aT+1) ax,⟨bg,ax,(d,S.res l)::e⟩⟩)
 (Bq:zt a8 z m (.b6 z α ah F) a=dm) (hm:F.length=m) (aw:own[a8]? =some (.a el aR z α ah F):=by rfl) (N:dn e t=some a:=by rfl) (ae:∀x,gp (ah x)=true:=by exactλ_=>j) (E:g9 own a8 .x some=some bg:=by rfl)
 (bR:hr ((t,dm)::e) bO=some T:=by rfl) (he:fT T (S.args l):=by exact fT.refl _) (fF:gp T=true:=by rfl) (ai:br g=S.spec.K:=by rfl) (cK:S.hp a1:=by first|exact az|assumption):
 bM.ok (gI X aL br n a6 fn a1 i0 aq Q) ⟨K,.d ((⟨some d,.call (.func g) bO,none⟩,.dI)::xs) a9 aX aT bU,⟨own,ax,e⟩⟩:=by
 cases h4 E;subst hm;refine afN (d:=some d) (s:=⟨own,ax,e⟩) (λH u st o Y Z D=>?_) k;have G:a8<u.length:=by rw[Z.len,<-Z.cZ];exact(dP.1 aw).1
 obtain⟨b,W⟩:∃b,u[a8]? =some b:=⟨_,aO G⟩;obtain⟨⟨aj,a0,cJ,c2⟩,_⟩:=Z.own a8 _ b aw W;have hle:=pe Z aw j W;have A:=D.mono hle apu;have w:=Y.eP Z aw j W;have aa:cS o (eP H st b) u ((t,dm)::e):=⟨A.pl,λJ q V=>by
  rw[lB]at V;cases C:Nat.beq t J with
  |false=>rw[C]at V;exact A.get J q V
  |true=>
   rw[C]at V;cases V;rw[<-dB C,<-Bq];refine Ll (λv ab=>?_) a<|A.get t a N;obtain⟨ak,h,cA⟩:=ab;rw[W]at h;cases h;refine .inr ⟨b,0*z,F.length,aj,el,(0,0),aR,cA,c5 _,by unfold eP;rw[aD j];exact a0,λi x O=>?_⟩;rw[hF,hU];exact kF hle _ apu<|nz _ (ae x) (c2 _ x O) []⟩
 obtain⟨v,al,ad,B,h,cA,dG,gT,nb,I,r,U⟩:=Lc (s:=⟨own.set a8 .x,ax,(t,dm)::e⟩) (n:=n) aQ ai l bR fF he hp cK (eP H st b) u st o w.hle (Z.eP aw j W) aa;exact⟨v,al,ad,B,h,cA,dG,hle.trans gT,nb,I _ _ _ w,r,λb C=>U b C λk aw=>by simp[gr]at aw⟩
end
variable{n J:Nat}{k:aE}{i:Nat}
def NY{k z m:Nat}{b:ag}{x:Rat}:zt k z m b (.agg<|oF x++[.aH k z 0 m m])= .agg (oF x++[b]):=by
 show ag.agg [_,_,_,(match Nat.beq k k&&(Nat.beq z z&&(Nat.beq 0 0&&(Nat.beq m m&&Nat.beq m m)))with|true=>b|false=>ag.aH k z 0 m m)]=_;simp only[kT];rfl
def anI(h:n<=6):gO n aE.zero=List.replicate n (0:Int):=by
 match n,h with
 |0,_=>rfl
 |1,_=>rfl
 |2,_=>rfl
 |3,_=>rfl
 |4,_=>rfl
 |5,_=>rfl
 |6,_=>rfl
def H6(n:Nat):aE.zero.jX n:=λi _=>by
 match i with
 |0=>rfl
 |1=>rfl
 |2=>rfl
 |3=>rfl
 |4=>rfl
 |5=>rfl
 |i+6=>rfl
def NZ:bl 43 (bV λ((p,x):dX×Rat)=>([iy p,.agg<|oF x],p.ins.length<=6/\cq 33554432 x,dT p.ins.length<|dc [] aE.zero x)):=by
 refine bL [sM] TQ.1 ?_;intro⟨p,x⟩ ⟨(hp:p.ins.length<=6),O⟩ H aq;refine I 13<|afr er 0 ?_;exact I 1<|I' sM 10 2 (.agg<|jo p.ins.length (aE.zero,x)) (p.ins.length,[],aE.zero,x) ⟨List.Pairwise.nil,(λq h=>by cases h),H6 _,O,c8 _⟩ (I 4<|eD) (m:=p.ins.length) (Bq:=NY.trans<|by rw[<-anI hp];rfl) (hm:=qt) (he:=by exact⟨.nl,.refl _,az⟩)
theorem sN(k:aE)(h:n<=6):(gO n k).length=n:=by unfold gO;simp[aE.n];omega
theorem Ak(k:aE)(aj:n<=6)(h:J<n):(gO n k)[J]? =some ((k.n.getD J 0:Nat):Int):=by
 rw[gO];have V:J<k.n.length:=by show J<6;omega
 grind
def add_get(k J:aE)(i:Nat):(k.add J).n.getD i 0=k.n.getD i 0+J.n.getD i 0:=by
 match i with
 |0=>rfl
 |1=>rfl
 |2=>rfl
 |3=>rfl
 |4=>rfl
 |5=>rfl
 |i+6=>rfl
def N0{J:aE}(h:k.jX n)(D:J.jX n):(k.add J).jX n:=λi af=>by rw[add_get,h i af,D i af]
def anJ(h:i<n):(aE.var i).jX n:=λJ V=>by
 match J with
 |0=>show(if i=0 then 1 else 0)=0;rw[av R]
 |1=>show(if i=1 then 1 else 0)=0;rw[av R]
 |2=>show(if i=2 then 1 else 0)=0;rw[av R]
 |3=>show(if i=3 then 1 else 0)=0;rw[av R]
 |4=>show(if i=4 then 1 else 0)=0;rw[av R]
 |5=>show(if i=5 then 1 else 0)=0;rw[av R]
 |J+6=>rfl
theorem anK(i J:Nat)(h:J<6):(aE.var i).n.getD J 0=if i=J then 1 else 0:=by
 match J,h with
 |0,_=>rfl
 |1,_=>rfl
 |2,_=>rfl
 |3,_=>rfl
 |4,_=>rfl
 |5,_=>rfl
theorem anL(aj:n<=6)(af:i<n):(List.replicate n (0:Int)).set i 1=gO n (aE.var i):=by
 apply nY
 grind [Ak,anK,sN]
def J':bl 41 (bV λ((p,i):dX×Nat)=>([iy p,.aa (i:Nat)],p.ins.length<=6/\i<p.ins.length,dT p.ins.length [(aE.var i,1)])):=by
 refine bL [vm] Ta.1 ?_;intro⟨p,i⟩ ⟨hp,af⟩ H aq;refine I 11<|nF er 0 ?_;refine I 7<|lF j j<|kI (1:Int) ?_ (ba:=by rwa [qt]);refine I 4<|aS vm 1 aqq<|aJ 13 (.agg<|oF 1) j (by show c0 (mkRat 1 1)=c0 1;rw[show mkRat 1 1=1 by decide +kernel])<|I 2 ?_;refine afs 15 1 (dm:=.agg<|jo p.ins.length (aE.var i,1)) ?_ (bR:=by
  rw[sT,qt,anL hp af];exact NY)
 refine I 1<|ks 2 (z:=4) (jo p.ins.length) [(aE.var i,1)] ?_;exact h5 16<|I 4<|eD
theorem K'{g:Poly}:∀{f:Poly} {i k:Nat} (af:i<f.length) (aw:k<g.length),(gy f g)[i*g.length+k]? =some (f[i],g[k])
 |[],i,k,af,_=>absurd af (kV _)
 |p::f,0,k,_,aw=>by
  show(g.map (λq=>(p,q))++gy f g)[0*g.length+k]? =_;rw[hF,hU,oQ<|by rw[hI];exact aw,x8,aO aw];rfl
 |p::f,i+1,k,af,aw=>by
  show(g.map (λq=>(p,q))++gy f g)[(i+1)*g.length+k]? =_;have e:(i+1)*g.length+k=g.length+(i*g.length+k):=by rw[fb,sS];omega
  rw[e,qw<|by rw[hI];omega,hI,Ou,K' (f:=f) atK aw];rfl
def anM{f g:Poly}{k:Nat}(af:i<f.length)(aw:k<g.length):ek ((gy f g).take<|i*g.length+k+1)=dc (ek<|(gy f g).take<|i*g.length+k) (f[i].1.add g[k].1) (f[i].2*g[k].2):=by
 have h:=K' af aw;obtain⟨B,D⟩:=dP.1 h;rw[hR B,D,vx]
def tU(n:Nat)(k:aE)(J:Nat):ac Int:=(gO n k).take J++List.replicate (n-J) 0
def anN(k:aE)(aj:n<=6)(h:J<=n):(tU n k J).length=n:=by
 unfold tU;rw[me,gQ,qt,sN k aj];omega
def anO(k:aE)(aj:n<=6)(h:J<n):(tU n k J).set J ((k.n.getD J 0:Nat):Int)=tU n k (J+1):=by
 have B:=sN k aj;apply nY;intro i;unfold tU;rw[oT];by_cases e:J=i
 .subst e;rw[aD j,aD<|by rw[me,gQ,qt,B];omega,oQ arK,nn,aD R,Ak k aj h]
 .rw[av e];by_cases Y:i<J
  .rw[oQ arK,oQ arK,nn,nn,aD Y,aD R]
  .rw[qw arK,qw arK,AE,AE,gQ,gQ,B];by_cases G:i<n
   .rw[aD R,aD R]
   .rw[av R,av R]
def anP(k:aE)(aj:n<=6):tU n k n=gO n k:=by
 unfold tU;rw[Nat.sub_self,gB<|by rw[sN k aj];exact c5 _];simp
def L'(h:k.hO)(i:Nat):k.n.getD i 0<2048:=by
 obtain⟨Y,G,A,T,C,b⟩:=h
 match i with
 |0=>exact Y
 |1=>exact G
 |2=>exact A
 |3=>exact T
 |4=>exact C
 |5=>exact b
 |i+6=>show 0<2048;decide
def H7:bl 39 (bV λ((n,c,d,f,g):Nat×Nat×Nat×Poly×Poly)=>([dT n f,dT n g],n<=6/\kg n c f/\kg n d g/\(∀p∈f,p.1.hO)/\(∀p∈g,p.1.hO)/\c+d<=33554432/\g.length*(c+d+1)+2<=33554432/\f.length<=1000/\g.length<=1000,dT n<|ek<|gy f g)):=by
 refine bL [Hw,sM] Vs.1 ?_;intro⟨n,c,d,f,g⟩ ⟨aj,D,O,z,N1,B,a',r,o⟩ H aq;have ad:=z2 D.s;have p3:=z2 O.s;have v:f.length*g.length<=1000*1000:=ye r o;have ab:∀m,(ek<|(gy f g).take m).dU/\(∀q∈ek ((gy f g).take m),q.1.jX n/\cq 33554432 q.2)/\(ek<|(gy f g).take m).length<=1000000:=λm=>by
  have S:∀w∈(gy f g).take m,w.1∈f/\w.2∈g:=λw F=>sL.1<|mR F;have ae:((gy f g).take m).Nodup:=List.Pairwise.sublist (List.take_sublist m _)<|Nc ad p3;refine⟨sK _,λq E=>⟨Nw (Q:=λk=>k.jX n) _ (λw F=>N0 (D.k _ (S w F).1)<|O.k _ (S w F).2) q E,eL (Nf D.s ae S D.b O.b q E) a'⟩,?_⟩;have Y:=Zi<|(gy f g).take m;rw[gQ,Nv]at Y;omega
 refine I 17<|e5 5 (dT n []) rfl .nl<|ea (L:=Nat) (λi=>i<=f.length) (λ(i:Nat)=>⟨[],0,[(0,dT n f),(1,dT n g),(5,dT n<|ek<|(gy f g).take<|i*g.length),(6,.aa (i:Nat))]⟩) (λi=>f.length-i) [] 0 (c8 _) atg (k3 ⟨j,j,(by rw[hF];rfl),j,az⟩) ?_;rintro(i:Nat) af;refine I 7 ?_;by_cases h:i<f.length
 case neg=>
  refine cI 13<|I 15<|cC (congrArg (dT n) ?_);rw[gB<|by rw[Nv,show i=f.length by omega];exact c5 _]
 refine cM 13 ?_;have u:f[i]∈f:=hv h;refine I 13<|eS (L:=Nat) (λk=>k<=g.length) (λ(k:Nat)=>⟨[],0,[(0,dT n f),(1,dT n g),(5,dT n<|ek<|(gy f g).take<|i*g.length+k),(6,.aa (i:Nat)),(7,.aa (k:Nat))]⟩) (λk=>g.length-k) [] 0 (c8 _) ?_;rintro(k:Nat) N;refine I 7 ?_;by_cases G:k<g.length
 case neg=>
  exact cI 19<|I 14<|bB [] (i+1) ⟨by show f.length-(i+1)<f.length-i;omega,h⟩ (k3 ⟨j,j,congrArg (λm=>some<|dT n<|ek<|(gy f g).take m)<|by rw[fb,sS];omega,kt,az⟩)
 refine cM 19 ?_;have Z:g[k]∈g:=hv G;have W:=sN f[i].1 aj;refine I 11<|eW f[i] (aO h) j<|I 3<|aJ 27 (.aa (n:Nat)) j asf<|nF er 0 ?_;refine I 10<|iI (L:=Unit) (λ_=>True) (λ_=>⟨[.a 3 false 1 Int er<|gO n<|f[i].1.add g[k].1],1,[(0,dT n f),(1,dT n g),(5,dT n<|ek<|(gy f g).take<|i*g.length+k),(6,.aa (i:Nat)),(7,.aa (k:Nat)),(8,.aH 0 1 0 n n)]⟩) ?_ ?_
 .refine ea (L:=Nat) (λJ=>J<=n) (λ(J:Nat)=>⟨[.a 3 false 1 Int er<|tU n (f[i].1.add g[k].1) J],1,[(0,dT n f),(1,dT n g),(5,dT n<|ek<|(gy f g).take<|i*g.length+k),(6,.aa (i:Nat)),(7,.aa (k:Nat)),(8,.aH 0 1 0 n n),(9,.aa (J:Nat))]⟩) (λJ=>n-J) [0] 0 (c8 _) (by show n-0<bs+1;unfold bs;omega) bk ?_;rintro(J:Nat) V;refine I 7 ?_;by_cases A:J<n
  case neg=>
   exact cI 32<|I 7<|bB [0] () az (fU (aC:=⟨⟨_,congrArg (λl=>some<|aZ.a 3 false 1 Int er l) (show tU n (f[i].1.add g[k].1) J=gO n (f[i].1.add g[k].1) by rw[show J=n by omega,anP _ aj]),j,λ_=>j⟩,az⟩))
  refine cM 32 ?_;have T:=L' (z _ u) J;have C:=L' (N1 _ Z) J;refine I 12<|fy f[i] (aO h) j<|I 3<|fy ((f[i].1.n.getD J 0:Nat):Int) (Ak _ aj A) j<|I 3<|fy g[k] (aO G) j<|I 3<|fy ((g[k].1.n.getD J 0:Nat):Int) (Ak _ aj A) j<|I 2 (ww 53 (((f[i].1.add g[k].1).n.getD J 0:Nat):Int) (cP j j (nG (ah:=er) (((f[i].1.add g[k].1).n.getD J 0:Nat):Int) ?_ (ba:=by rw[anN _ aj V];exact A)) (ba:=A)) (h:=by rw[add_get];omega));exact I 8<|bB [0] (J+1) ⟨by show n-(J+1)<n-J;omega,A⟩ (bk (aC:=⟨⟨_,congrArg (λl=>some<|aZ.a 3 false 1 Int er l)<|anO _ aj A,j,λ_=>j⟩,az⟩))
 rintro⟨⟩ _;have F:=ab<|i*g.length+k;refine I 3<|fy f[i] (aO h) j<|I 4<|fy g[k] (aO G) j<|I 2<|ca Hw (f[i].2,g[k].2) ⟨jj (sJ<|D.b _ u) R,jj (sJ<|O.b _ Z) R⟩<|I 3<|I' sM 68 0 (.agg<|jo n (f[i].1.add g[k].1,f[i].2*g[k].2)) (n,ek<|(gy f g).take<|i*g.length+k,f[i].1.add g[k].1,f[i].2*g[k].2) ⟨F.1,F.2.1,N0 (D.k _ u)<|O.k _ Z,eL (xO (D.b _ u)<|O.b _ Z) B,F.2.2⟩ ?_ (m:=n) (Bq:=NY) (hm:=sN _ aj);exact I 9<|bB [] (k+1) ⟨by show g.length-(k+1)<g.length-k;omega,G⟩ (k3 ⟨j,j,congrArg (λP=>some<|dT n P) (anM h G).symm,j,kt,az⟩)
def anQ(aj:n<=6)(aw:k.jX n):en (k.n.take n)=k.kP:=by
 have F:∀i,n<=i->k.n.getD i 0=0:=aw;have e:k.kP=en (k.n.take n)+en (k.n.drop n):=by
  show en k.n=_;rw[<-z5,np]
 have Z:en (k.n.drop n)=0:=by
  have:∀l:ac Nat,(∀i,l.getD i 0=0)->en l=0:=by
   intro l
   induction l with
   |nil=>intro _;rfl
   |cons a l I=>
    intro h;have Y:a=0:=h 0;show a+en l=0;rw[Y,I λi=>h<|i+1]
  refine this _ λi=>?_;rw[ue,n2];have:=F (n+i) R;rw[ue]at this;exact this
 omega
def Dk:bl 40 (bV λ((n,f):Nat×Poly)=>([dT n f],n<=6/\(∀p∈f,p.1.jX n/\p.1.fP)/\f.length<=1000000,.b<|!gM f)):=by
 refine bL [] S9.1 ?_;intro⟨n,f⟩ ⟨aj,D,q⟩ H aq;refine I 12<|eS (L:=Nat) (λi=>i<=f.length/\∀p∈f.take i,p.1.kP<=16) (λ(i:Nat)=>⟨[],0,[(0,dT n f),(3,.aa (i:Nat))]⟩) (λi=>f.length-i) [] 0 ⟨c8 _,λp h=>by simp at h⟩ ?_;rintro(i:Nat) ⟨af,o⟩;refine I 7 ?_;by_cases h:i<f.length
 case neg=>
  rw[gB R]at o;have e:gM f=decide (f.length<=200):=by
   unfold gM;rw[ia.2 λp hp=>cm<|o p hp,DV]
  refine cI 9<|I 17<|cC ?_;show ag.b (decide ((200:Int)<(f.length:Int)))=ag.b (!gM f);rw[e];by_cases G:f.length<=200
  .rw[cm G,cp R];rfl
  .rw[cp G,cm R];rfl
 refine cM 9 ?_;have hm:=D _<|hv h;have W:=sN f[i].1 aj;have S:(f[i].1.n.take n).length=n:=by rw[gQ];show min n 6=n;omega
 have C:∀J,en ((f[i].1.n.take n).take J)<=1000000:=λJ=>by
  have Y:=xU (B:=4096) (l:=(f[i].1.n.take n).take J) λm g=>by
   have G:=mR<|mR g;have C:=hm.2;unfold aE.fP at C;unfold aE.n at G;simp only[fh,IM,or_false]at G;omega
  have A:((f[i].1.n.take n).take J).length<=6:=by rw[gQ,S];omega
  have:=lN 4096 A;omega
 refine I 19<|iI (L:=Unit) (λ_=>True) (λ_=>⟨[],0,[(0,dT n f),(3,.aa (i:Nat)),(4,.aa (f[i].1.kP:Nat))]⟩) ?_ ?_
 .refine eS (L:=Nat) (λJ=>J<=n) (λ(J:Nat)=>⟨[],0,[(0,dT n f),(3,.aa (i:Nat)),(4,.aa (en ((f[i].1.n.take n).take J):Nat)),(5,.aa (J:Nat))]⟩) (λJ=>n-J) [] 0 (c8 _) ?_;rintro(J:Nat) V;refine I 6<|eW f[i] (aO h) j<|I 3<|aJ 18 (.aa (n:Nat)) j asf<|I 1 ?_;by_cases A:J<n
  case neg=>
   refine cI 19<|I 7<|bB [] () az (k3 ⟨j,j,?_,az⟩);show some (ag.aa _)=some (ag.aa _);rw[gB<|by rw[S];omega,anQ aj hm.1]
  refine cM 19 ?_;have Z:=C J;have u:=C<|J+1;have F:en ((f[i].1.n.take n).take<|J+1)=en ((f[i].1.n.take n).take J)+f[i].1.n.getD J 0:=by
   have v:J<f[i].1.n.length:=by show J<6;omega
   rw[hR<|by rw[S];exact A,z5,Ip,ue,aO v];show en _+(f[i].1.n[J]+0)=_;rw[pD];rfl
  exact I 11<|eW f[i] (aO h) j<|I 3<|eW ((f[i].1.n.getD J 0:Nat):Int) (Ak _ aj A) j<|I 11<|bB [] (J+1) ⟨by show n-(J+1)<n-J;omega,A⟩ bk
 rintro⟨⟩ _;refine I 4 ?_;by_cases T:f[i].1.kP<=16
 .refine cI 33<|I 11<|bB [] (i+1) ⟨by show f.length-(i+1)<f.length-i;omega,h,λp hp=>?_⟩ bk;rw[hR h]at hp;rcases gA.1 hp with hp|hp
  .exact o p hp
  .rw[gC]at hp;rw[hp];exact T
 .refine cM 33 ?_;have e:gM f=false:=by
   unfold gM;rw[show(f.all λp=>decide (p.1.kP<=16))=false from ?_,ym];rw[DU];exact⟨f[i],hv h,by rw[cp T];decide⟩
  refine I 14<|cC ?_;show ag.b true=ag.b (!gM f);rw[e];rfl
section
variable{an:eR}{K:ac dA}{own bg a9:ac aZ}{ax aT bU:Nat}{e aX:bP}{d:Tmp}{xs:ac (bj×cn)}{x y:ce}
variable{el:co}{c4:Nat}{α:Type}
def anR{call:bN}{z:Nat}{s:cb}{ah:α->ac ag}{l:ac α}(T:a5 s.env y=some (.cd z α ah l))(Z:∀w,(ah w).length=z)(aQ:∀w,pa (ah w)=true):q4 call el c4 s y ah z l:=by
 by_cases h:l=[]
 .subst h;exact Sk T
 .refine ss λH u st q g D=>?_;rcases D.ar T with⟨Y,_⟩|⟨Y,_⟩|⟨b,U,c,V,el,m,aR,Y,G,j,C⟩
  .exact absurd Y h
  .exact absurd Y h
  .obtain⟨W,I⟩:=RE Z C l.length<|cf _;rw[mS]at I;exact .inr ⟨b,U,c,V,el,m,aR,Y,g.le _ _ j,W,Cg ap8 (b9.nil _) I,FU Z aQ I⟩
theorem N2{S D k:Nat}(ah:α->ac ag)(m:ac α)(u:q4 an.call el c4 ⟨own,ax,e⟩ y ah S m)(bD:bM.ok an ⟨K,.d xs a9 (jb d aX) (aT+1) ax,⟨bg,ax,(d,.b6 S α ah m)::e⟩⟩)(O:a5 e x=some (.aH k D 0 0 0):=by rfl)(aw:own[k]? =some (.c el []):=by rfl)
 (E:g9 own k .x some=some bg:=by rfl) (bX:a9[k]? =none:=by rfl) (Z:∀w,(ah w).length=S:=by exactλ_=>j) (hp:∀w,gp (ah w)=true:=by exactλ_=>j) (ay:(5*m.length+1792)*(c4+1)<=1125899906842624:=by omega):
 bM.ok an ⟨K,.d ((⟨some d,.app el S c4 x y,none⟩,.dI)::xs) a9 aX aT bU,⟨own,ax,e⟩⟩:=by
 cases h4 E;refine w5 (afu O aw u Z hp ay) j (λJ W V _=>⟨V,λhm=>?_⟩) bD;have:gr e (.app el S c4 x y)=some k\/gr e (.app el S c4 x y)=none:=by
  unfold gr;dsimp only;rw[O];exact .inl j
 grind
end
variable{l:ac Int}{s:ac ci}{t:cV}
theorem M'(l:ac Int)(J:Nat)(h:J<6):(kQ l).n.getD J 0=(l.getD J 0).toNat:=by
 match J,h with
 |0,_=>rfl
 |1,_=>rfl
 |2,_=>rfl
 |3,_=>rfl
 |4,_=>rfl
 |5,_=>rfl
theorem anS(aB:l.length=n)(aj:n<=6)(I:nk l=true):gO n (kQ l)=l:=by
 apply nY;intro J;by_cases V:J<n
 .have h:=iY<|ia.1 I l[J]<|hv R;rw[Ak _ aj V,M' l J R,ue,aO R];show some (↑(l[J].toNat))=some l[J];rw[Int.toNat_of_nonneg h.1]
 .grind [sN]
theorem N'(aB:l.length=n):(kQ l).jX n:=λJ V=>by
 by_cases b:J<6
 .grind [M']
 .rw[ue,yc<|by show 6<=J;omega];rfl
def O'{x:Rat}(h:dK s=some x):mI s= .bc [c0 x,.aa 0]:=by rw[mI];rw[h]
def P'(h:dK s=none):mI s= .bc [c0 0,.aa 6]:=by rw[mI];rw[h]
theorem Q'{T:aE×Rat}(h:jk n t= .ok T):gb t.b3=some T.2/\T.1=kQ t.dO/\t.dO.length=n/\nk t.dO=true/\T.1.kP<=16:=by
 rw[jk]at h;cases O:gb t.b3 with
 |none=>exact ap1
 |some x=>
  rw[O]at h;dsimp only at h;split at h
  .rename_i e;cases h;rw[mM]at e
   grind
  .cases h
def R'{P f:Poly}{l:ac cV}(h:iK n P (t::l)= .ok f):∃T,jk n t= .ok T/\iK n (dc P T.1 T.2) l= .ok f:=by
 cases N:jk n t with
 |error e=>rw[HL N]at h;cases h
 |ok T=>exact⟨T,j,(HM N).symm.trans h⟩
def S':bl 38 (bV λ((n,l,f):Nat×ac cV×Poly)=>([.cd 2 cV h7 l],n<=6/\iK n [] l=Except.ok f/\l.length<=200/\(∀t∈l,t.b3.length<=3000)/\jl l<=1000,dT n f)):=by
 refine bL [vt,sM] Vr.1 ?_;intro⟨n,l,f⟩ ⟨aj,D,O,v,B⟩ H aq;refine I 17<|e5 3 (dT n []) rfl .nl<|eS (L:=Nat×Poly) (λ(i,P)=>i<=l.length/\iK n P (l.drop i)= .ok f/\kg n (2+jl (l.take i)) P/\P.length<=i) (λ((i:Nat),(P:Poly))=>⟨[],0,[(0,.cd 2 cV h7 l),(3,dT n P),(4,.aa (i:Nat))]⟩) (λx=>l.length-x.1) [] (0,[]) ⟨c8 _,D,kg.nil,c5 _⟩ ?_;rintro⟨i,P⟩ ⟨af,Z,o,V⟩;refine I 7 ?_;by_cases h:i<l.length
 case neg=>
  rw[kX R]at Z;have Z:P=f:=by
   have Z:Except.ok P=Except.ok f:=Z;cases Z;rfl
  subst Z;exact cI 10<|I 15<|eD
 have u:l≠[]:=λe=>by exact apW
 have hm:=hv h;rw[fj h]at Z;obtain⟨T,r,Z⟩:=R' Z;obtain⟨S,Y,G,A,N⟩:=Q' r;have C:=Zp h;have ab:=Nx l<|i+1;have m:=Zf<|Y4 S;refine cM 10<|e5 0 (.b6 2 cV h7 l) j (.h0 u)<|I 11<|eW l[i] (aO h) j<|I 2<|aS vt l[i].b3 (ch (v _ hm) ai)<|aJ 19 (.bc [c0 T.2,.aa 0]) j (Nm S)<|I 12<|F7 l[i] (aO h) ?_;refine I 2<|N2 er l[i].dO (anR j fL fL) ?_;refine I 3 ?_;have g:T.1.jX n:=by rw[Y];exact N' G
 have F:=o.w (show 2+jl (l.take i)<=33554432 by omega);refine ca sM (n,P,T.1,T.2) ⟨F.1,F.2,g,eL m R,R⟩ (I 7<|cj 12 ((i+1:Nat):Int)<|e5 0 (.cd 2 cV h7 l) rfl .cd<|I 2<|iV [] (i+1,dc P T.1 T.2) ⟨h,Z,⟨lH o.s _ _,zI o.s o.z _ _,λq E=>?_,λq E=>?_⟩,?_⟩) (he:=by exact⟨.refl _,.agg ⟨.refl _,.refl _,.refl _,.of<|by show ag.b6 1 Int er l[i].dO= .b6 1 Int er (gO n T.1);rw[Y,anS G aj A],az⟩,az⟩)
 .rcases(lG o.s _ _ q).1 E with⟨W,_⟩|⟨W,_⟩
  .rw[W];exact g
  .exact o.k q W
 .rcases(lG o.s _ _ q).1 E with⟨_,a',_⟩|⟨W,_⟩
  .rw[a'];exact eL (xx m<|C4 R o.b _) R
  .exact eL (o.b q W) R
 .have:=z6 P T.1 T.2;omega
end Go.bC.dg
namespace Go.bC.dg
open Go.bC
set_option maxRecDepth 100000
set_option maxHeartbeats 4000000
variable{x:Rat}
theorem N3(x:Rat)(k:Int):mkRat (x.num*((eQ (mkRat 1 1) k).den:Int)) (x.den*(eQ (mkRat 1 1) k).num.natAbs)=eQ x (-k):=by
 obtain⟨S,z⟩:=xE k;rw[S,z];unfold eQ
 grind
theorem anT(h:x.num=0)(k:Int):(eQ x k).den=1:=by
 rw[eQ,h]
 simp_all
theorem anU(h:0<=x.num)(k:Int):0<=(eQ x k).num:=by
 rw[eQ];split
 .rw[(xv _ _<|n6 x.den_nz au).1];exact Int.ediv_nonneg h R
 .rw[(xv _ _ x.den_nz).1];exact Int.ediv_nonneg (Int.mul_nonneg h apt) R
def anV{e p:Int}(h:hD e p):0<=(nO e p).num:=by
 rw[nO];apply anU;have:mkRat 1 1<=eQ (mkRat 1 1) p:=by
  rw[Rat.le_iff,(xE p).1,(xE p).2,show(-p).toNat=0 by have:=h.2.2.1;omega];have:(1:Int)<=2^p.toNat:=by have:=n4 p.toNat;have G:((2^p.toNat:Nat):Int)=2^p.toNat:=by simp
                                                                                                       omega
  show(1:Int)*↑(2^0)<=2^p.toNat*1;omega
 exact IN.2<|(Rat.le_iff_sub_nonneg _ _).1 this
def H8(e p:Int)(x:Rat):Prop:=hD e p/\¬nO e p<jh x/\(mkRat (x.num*((eQ (mkRat 1 1)<|nh e p x).den:Int))<|x.den*(eQ (mkRat 1 1)<|nh e p x).num.natAbs).den=1
theorem has_eq(e p:Int)(x:Rat):H8 e p x↔kO e p x:=by
 unfold H8 kO;constructor
 .rintro⟨Y,G,A⟩;rw[N3]at A;by_cases F:x.num=0
  .exact⟨Y,.inl F⟩
  .rw[<-X6 F]at A;rw[G2]at A;rw[av F]at A;exact⟨Y,.inr ⟨A,G⟩⟩
 .rintro⟨Y,F|⟨A,G⟩⟩
  .refine⟨Y,?_,by rw[N3];exact anT F _⟩;intro h;rw[Rat.lt_iff,(rp x).1,(rp x).2,F]at h;have:0<=(nO e p).num*(x.den:Int):=Int.mul_nonneg (anV Y) R;simp at h;omega
  .by_cases F:x.num=0
   .simp_all
   .refine⟨Y,G,?_⟩;rw[N3,<-X6 F];rw[G2,av F];exact A
def iN(N:ac Bool)(l:ac Int):ac Bool:=l.foldl (λN (k:Int)=>N.set k.toNat true) N
def T':bl 114 (bV λ(s:ac ci)=>([.s s],s.length<=2000,.aa<|rz s)):=by
 refine bL [vo] L2.1 ?_;intro s b H aq;refine I 8<|aS vo s b ?_;cases h:dK s with
 |some x=>
  exact aJ 7 (.bc [c0 x,.aa 0]) j (by show mI s=_;unfold mI;rw[h])<|I 15<|bn apU
 |none=>
  exact aJ 7 (.bc [c0 0,.aa 6]) j (by show mI s=_;unfold mI;rw[h])<|I 15<|bn apU
def tV(x y:Rat):Rat:=mkRat (x.num*(y.den:Int))<|x.den*y.num.natAbs
def U':bl 408 (bV λ((x,y):Rat×Rat)=>([c0 x,c0 y],eT 60000 x/\eT 60000 y/\0<y.num,.bc [c0<|tV x y,.aa 0])):=by
 refine bL [kN,la,l8] Vl.1 ?_;intro⟨x,y⟩ ⟨O,T,hp⟩ H aq;have z:=xA x.num;have S:=sW hp;have b:y.num≠0:=R
 refine I 14<|cI 8<|I 11<|dF 18 (dj y.den) j j (by rw[av b];rfl)<|ca kN (x.num.natAbs,y.den) ⟨c7 O.1,c7 T.2⟩<|I 1<|ca la x az<|I 2<|ca kN (x.den,y.num.natAbs) ⟨c7 O.2,c7 T.1⟩<|I 5<|aJ 14 (.aa x.num.sign) j (by rw[S,Int.mul_one];exact eV j R R)<|ca l8 (x.num.sign,x.num.natAbs*y.den,x.den*y.num.natAbs) ⟨z.1,z.2,c7<|lK O.1 T.2,c7<|lK O.2 T.1,n6 x.den_nz R⟩ ?_;have e:mkRat (x.num.sign*((x.num.natAbs*y.den:Nat):Int)) (x.den*y.num.natAbs)=tV x y:=by
  unfold tV;rw[n1,<-rS,AJ]
 exact aJ 25 (c0<|tV x y) j (congrArg c0 e)<|I 5<|eD
def V':bl 382 (bV λ((x,y):Rat×Rat)=>([c0 x,c0 y],eT 60000 x/\eT 60000 y/\0<y.num,c0<|tV x y)):=by
 apply bL [U'] Uy.1;intro⟨x,y⟩ hp H aq;exact I 11<|aS U' (x,y) hp<|aJ 10 (.bc [c0<|tV x y,.aa 0]) j j<|I 15<|eD
def W':bl 381 (bV λ((e,p,x):Int×Int×Rat)=>([qf e p,c0 x],hD e p/\eT 60000 x,.b<|decide (nO e p<jh x))):=by
 refine bL [zS,X2,sF] Ve.1 ?_;intro⟨e,p,x⟩ ⟨Z,O⟩ H aq;exact I 10<|ca zS x az<|I 1<|ca X2 (e,p) Z<|ca sF (jh x,nO e p) ⟨jj<|MN O,jj<|alq Z⟩<|I 5<|cC (bK<|decide_eq_decide.2 xy)
theorem X':bl 206 (bV λ(x:Rat)=>([c0 x],ej 268435456 x.den,.b<|decide (x.den=1))):=by
 apply bL [la,ng,lJ] L5.1;intro x O H aq;refine I 9<|aS la x az<|aS ng () az<|aS lJ (x.den,1) ⟨c7 O,CU⟩<|I 5<|cC (bK<|decide_eq_decide.2 ?_)
 grind [jf]
def anW{e p:Int}(h:hD e p)(O:eT 300 x): -20000<=nh e p x/\nh e p x<=20000:=by
 have⟨Y,G,A,T,C⟩:=h;have⟨S,b⟩:=rv Y G;have w:=G3 x.num.natAbs x.den;have o:=qg O.1;have g:=qg O.2;rw[nh];split<;>omega
def N4:df:=bV λ((e,p,x):Int×Int×Rat)=>([qf e p,c0 x],eT 300 x,.b<|hasB e p x)
def N5:bl 307 N4:=by
 refine bL [G5,W',X4,V',X'] U8.1 ?_;intro⟨e,p,x⟩ (O:eT 300 x) H aq;have no:¬H8 e p x->bz (.b false) (N4.res (e,p,x)):=λh=>.of (bK<|by unfold hasB;exact(cp λD=>h<|(has_eq e p x).2 D).symm);have E:H8 e p x->bz (.b true) (N4.res (e,p,x)):=λh=>.of (bK<|by unfold hasB;exact(cm<|(has_eq e p x).1 h).symm);refine I 10<|ca G5 (e,p) az ?_;by_cases Y:hD e p
 case neg=>
  exact aJ 6 (.aa 2) j (congrArg (ag.aa)<|av Y)<|I 19<|bp (no λh=>Y h.1)
 refine aJ 6 (.aa 0) j (congrArg (ag.aa)<|aD Y)<|I 7<|ca W' (e,p,x) ⟨Y,jj O⟩ ?_;by_cases G:nO e p<jh x
 .exact cl 11 (bK (cm G))<|I 15<|bp (no λh=>h.2.1 G)
 refine cl 11 atd ?_;obtain⟨bJ,g⟩:=anW Y O;have v:=MO (c:=20000) (k:=nh e p x) R R;have m:0<(eQ (mkRat 1 1)<|nh e p x).num:=by
  rw[(xE _).1];exact Int.pow_pos ai
 refine I 9<|ca X4 (e,p,x) ⟨Y,jj O⟩<|I 3<|ca V' (x,eQ (mkRat 1 1)<|nh e p x) ⟨jj O,jj v,m⟩ ?_;have cY:eT 60000 (tV x<|eQ (mkRat 1 1)<|nh e p x):=by
  refine vn ?_ (c7<|lK O.2 v.1) (n6 x.den_nz R);rw[sX,Int.natAbs_natCast];exact c7<|lK O.1 v.2
 refine I 1<|ca X' (tV x<|eQ (mkRat 1 1)<|nh e p x) (c7 cY.2) ?_;by_cases A:(tV x<|eQ (mkRat 1 1)<|nh e p x).den=1
 .exact cl 20 asK<|I 5<|bp (E ⟨Y,G,A⟩)
 .exact cl 20 asJ<|I 5<|bp (no λh=>A h.2.2)
end Go.bC.dg
namespace Go.bC.dg
open Go.bC Sym
set_option maxRecDepth 100000
set_option maxHeartbeats 8000000
variable{n:Nat}{t:cV}{s:dz}{c x:Rat}
def Y'{own:ac aZ}{p:Nat}{e G:bP}{m:Nat}{U:aZ}(h:pd [m] G e)(E:∃cv,own[m]? =some cv/\kG [m] U cv)(hp:pinned p [m] 0=true:=by rfl):Sub p [m] ⟨own,n,e⟩ ⟨[U],1,G⟩:=⟨au,j,⟨E,az⟩,h,hp⟩
def nm(t:cV):ac ag:=[.s t.b3,.b6 1 Int er t.dO]
def anX(n:Nat)(f:Poly)(i:Nat):ac cV->cb
 |[]=>⟨[],0,[(0,dT n f),(3,.nl),(4,.aa (i:Nat))]⟩
 |t::aA=>⟨[.a 80 true 2 cV nm<|t::aA],1,[(0,dT n f),(3,.aH 0 2 0 (aA.length+1)<|aA.length+1),(4,.aa (i:Nat))]⟩
def Z':bl 48 (bV λ((n,f):Nat×Poly)=>([dT n f],n<=6/\(∀p∈f,cq 33554432 p.2)/\f.length<=1000,.b6 2 cV nm<|jm n f)):=by
 refine bL [xF] UG.1 ?_;intro⟨n,f⟩ ⟨aj,D,B⟩ H aq;have g:(jm n f).length=f.length:=by unfold jm;rw[hI]
 refine I 17<|eS (L:=Nat×ac cV) (λ(i,r)=>i<=f.length/\r=(jm n f).take i) (λ(i,r)=>anX n f i r) (λx=>f.length-x.1) [] (0,[]) apR ?_;rintro⟨i,r⟩ ⟨af,b⟩;replace b:r=(jm n f).take i:=b;have o:r.length=i:=by rw[b,gQ];omega
 by_cases h:i<f.length
 .have hm:=hv h;have F:(jm n f).take (i+1)=r++[nW n f[i]]:=by
   rw[hR<|by rw[g];exact h,b];congr 1;unfold jm;rw[sP]
  have W:=sN f[i].1 aj;rcases r with _|⟨t,aA⟩
  .refine I 7<|cM 8<|I 10<|fy f[i] (aO h) j<|I 2<|ca xF f[i].2 (sJ<|D _ hm)<|I 3<|fy f[i] (aO h) j<|I 2<|N2 (k:=0) er (gO n f[i].1) (ss atu) ?_ (ay:=by rw[W];omega);refine I 3<|Lr nm [nW n f[i]] (iH (ah:=nm) [nW n f[i]] j) ?_;exact I 9<|bB [2] (i+1,[nW n f[i]]) ⟨by show f.length-(i+1)<f.length-i;omega,R,F.symm⟩ (Y' ⟨j,j,kt,az⟩ jS)
  .refine I 7<|cM 8<|I 10<|fy f[i] (aO h) j<|I 2<|ca xF f[i].2 (sJ<|D _ hm)<|I 3<|fy f[i] (aO h) j<|I 2<|N2 (k:=1) er (gO n f[i].1) (ss atu) ?_ (ay:=by rw[W];omega);refine I 3<|Ls (ah:=nm) [nW n f[i]] (iH (ah:=nm) [nW n f[i]] j) ?_ (aj:=au) (ay:=by show(5*(aA.length+1+1)+1792)*41<=1125899906842624;simp only[hQ]at o;omega);exact I 9<|bB [3] (i+1,t::(aA++[nW n f[i]])) ⟨by show f.length-(i+1)<f.length-i;omega,R,F.symm⟩ (Y' ⟨j,congrArg (λk=>some<|ag.aH 3 2 0 k k) au,kt,az⟩ jS)
 .have b:r=jm n f:=by rw[b,gB R]
  rcases r with _|⟨t,aA⟩
  .refine I 7<|cI 8<|I 15<|bp ?_;show bz .nl (.b6 2 cV nm<|jm n f);rw[<-b];exact .nl
  .refine I 7<|cI 8<|I 11<|h5 28 ?_;refine I 4<|cC ?_;show ag.b6 2 cV nm (t::aA)= .b6 2 cV nm (jm n f);rw[b]
def lj(n:Nat)(t:cV):Int:=match jk n t with
 |.ok _=>0
 |.error e=>e
def rG(n:Nat):ac cV->Int
 |[]=>0
 |t::l=>if lj n t=0 then rG n l else lj n t
def aaa{α:Type}:Except Int α->Int
 |.ok _=>0
 |.error e=>e
def aab{e:Int}(h:jk n t= .error e):e≠0:=by
 rw[jk]at h;cases O:gb t.b3 with
 |none=>rw[O]at h;cases h;exact vz O
 |some x=>
  rw[O]at h;dsimp only at h;split at h
  .cases h
  .cases h;decide
theorem aac{n:Nat}:∀(l:ac cV) (P:Poly),aaa (iK n P l)=rG n l
 |[],_=>rfl
 |t::l,P=>by
  cases N:jk n t with
  |ok T=>
   rw[HM N,aac l];show rG n l=if lj n t=0 then rG n l else lj n t;have:lj n t=0:=by rw[lj];rw[N]
   rw[aD this]
  |error e=>
   rw[HL N];show e=if lj n t=0 then rG n l else lj n t;have:lj n t=e:=by rw[lj];rw[N]
   rw[this,av<|aab N]
def jY(n:Nat)(s:dz):Int:=aaa<|jD n s
def anY(h:gb s.b3=none):jY n s=fA s.b3:=by rw[jY];rw[Zm h];rfl
def N6(h:gb s.b3=some c)(aI:¬(¬c<0/\-1<=s.gL/\s.gL<(n:Int))):jY n s=7:=by rw[jY];rw[HK h aI];rfl
def anZ(h:gb s.b3=some c)(aI:¬c<0/\-1<=s.gL/\s.gL<(n:Int)):jY n s=rG n s.cr:=by
 rw[jY,Zn h aI,<-aac s.cr []];cases iK n [] s.cr<;>rfl
def an0:∀{l:ac Int},l.length<=6->(kQ l).kP=en (l.map Int.toNat)
 |[],_=>rfl
 |[a],_=>rfl
 |[a,b],_=>rfl
 |[a,b,c],_=>rfl
 |[a,b,c,d],_=>rfl
 |[a,b,c,d,e],_=>rfl
 |[a,b,c,d,e,f],_=>rfl
 |_::_::_::_::_::_::_::_,h=>by simp at h
def an1(h:gb t.b3=none):lj n t=fA t.b3:=by unfold lj jk;rw[h]
def an2(h:gb t.b3=some x)(aI:mM n t=false):lj n t=7:=by unfold lj jk;rw[h,aI];rfl
def an3(h:gb t.b3=some x)(aI:mM n t=true):lj n t=0:=by unfold lj jk;rw[h,aI];rfl
def aad:bl 37 (bV λ((p,s):dX×dz)=>([iy p,.agg<|ht s],p.ins.length<=6/\s.b3.length<=3000/\(∀t∈s.cr,t.b3.length<=3000)/\s.cr.length<=1000,.aa<|jY p.ins.length s)):=by
 refine bL [vt,CQ,Y5] UE.1 ?_;intro⟨p,s⟩ ⟨hp,v,I,aw⟩ H aq;have fin:∀{c:Int},jY p.ins.length s=c->bz (.aa c) (.aa<|jY p.ins.length s):=λh=>.of atv;refine st ?_;refine aS vt s.b3 (ch v ai) ?_;cases W:gb s.b3 with
 |none=>
  refine aJ 15 (.bc [c0 0,.aa<|fA s.b3]) j (amr W)<|dW 19 ?_;refine v1 19 (show fA s.b3≠0 from vz W)<|st ?_;exact bp (fin<|anY W)
 |some c=>
 refine aJ 15 (.bc [c0 c,.aa 0]) j (Nm W)<|st ?_;refine aS CQ c az<|dW 24 ?_;by_cases ab:c<0
 .refine v1 24 (Int.not_le.1 λg=>Zu g ab)<|st ?_;exact bp<|fin<|N6 W λg=>g.1 ab
 refine v0 24 (DS.2<|Zt ab)<|dW 29 ?_;by_cases Y: -1<=s.gL
 case neg=>
  refine cM 29<|st ?_;exact bp<|fin<|N6 W λg=>Y g.2.1
 refine cI 29<|dW 36 ?_;by_cases G:s.gL<(p.ins.length:Int)
 case neg=>
  refine cM 36<|st ?_;exact bp<|fin<|N6 W λg=>G g.2.2
 refine cI 36 ?_;have aj:jY p.ins.length s=rG p.ins.length s.cr:=anZ W ⟨ab,Y,G⟩;refine st ?_;refine ea (L:=Nat) (λi=>i<=s.cr.length/\rG p.ins.length s.cr=rG p.ins.length (s.cr.drop i)) (λ(i:Nat)=>⟨[.c 27<|g4 p,.c 95<|ht s],2,[(2,.p 0 0),(3,.p 1 0),(7,.aa (i:Nat))]⟩) (λi=>s.cr.length-i) [0,1] 0 apR (by show s.cr.length-0<bs+1;unfold bs;omega) bk ?_;rintro(i:Nat) ⟨af,a'⟩;refine dW 41 ?_;by_cases h:i<s.cr.length
 case neg=>
  rw[kX R]at a';refine cI 41<|st ?_;exact bp<|fin<|aj.trans a'
 have u:s.cr≠[]:=λe=>by exact apW
 have hm:=hv h;rw[fj h]at a';replace a':rG p.ins.length s.cr=if lj p.ins.length s.cr[i]=0 then rG p.ins.length (s.cr.drop<|i+1)else lj p.ins.length s.cr[i]:=a';refine cM 41 ?_;have u:s.cr≠[]:=λe=>by exact apW
 have bad:∀{c:Int},c≠0->lj p.ins.length s.cr[i]=c->jY p.ins.length s=c:=λ{c} Y G=>by rw[aj,a',G,av Y]
 refine st ?_;refine e5 45 (.b6 2 cV h7 s.cr) j (.h0 u) ?_;refine l3 s.cr[i] (aO h) ?_;refine st ?_;refine aS Y5 s.cr[i].b3 (ch (I _ hm) ai) ?_;cases O:gb s.cr[i].b3 with
 |none=>
  refine dW 52 ?_;refine v1 52 (show fA s.cr[i].b3≠0 from vz O)<|st ?_;exact bp (fin<|bad (vz O)<|an1 O)
 |some x=>
 refine aJ 50 (.aa 0) j (congrArg (ag.aa) (xV O).1) ?_;have r:mM p.ins.length s.cr[i]=false->jY p.ins.length s=7:=λg=>bad ai<|an2 O g;refine st ?_;refine F5 55 (.b6 2 cV h7 s.cr) j j (.h0 u) ?_;refine w9 s.cr[i] (aO h) ?_;refine dW 64 ?_;by_cases ah:s.cr[i].dO.length=p.ins.length
 case neg=>
  refine cM 64<|st ?_;exact bp<|fin (r<|by unfold mM;rw[cp ah];rfl)
 refine cI 64 ?_;have E:s.cr[i].dO.length<=6:=R
 have N:=an0 E;generalize F:s.cr[i].dO=w at *;have b:∀J,nk (w.take J)=true->en ((w.take J).map Int.toNat)<=96:=λJ V=>by
  have Y:=xU (B:=16) (l:=(w.take J).map Int.toNat) λm ao=>by
   obtain⟨z,Z,rfl⟩:=da.1 ao;have:=iY<|ia.1 V z Z;omega
  have G:((w.take J).map Int.toNat).length<=6:=by rw[hI,gQ];omega
  have:=lN 16 G;omega
 refine st ?_;refine ea (L:=Nat) (λJ=>J<=w.length/\nk (w.take J)=true) (λ(J:Nat)=>⟨[.c 27<|g4 p,.c 95<|ht s],2,[(2,.p 0 0),(3,.p 1 0),(7,.aa (i:Nat)),(9,.aa (en ((w.take J).map Int.toNat):Nat)),(10,.aa (J:Nat))]⟩) (λJ=>w.length-J) [0,1] 0 apR (by show w.length-0<bs+1;unfold bs;omega) bk ?_;rintro(J:Nat) ⟨V,D⟩;refine st ?_;refine e5 67 (.b6 2 cV h7 s.cr) j (.h0 u) ?_;refine l3 s.cr[i] (aO h) ?_;refine dW 71 ?_;refine aJ 71 (.cd 1 Int er w) j (by rw[F])<|dW 73 ?_;by_cases A:J<w.length
 case neg=>
  have ae:J=w.length:=R
  rw[ae,mS]at D;have ak:=b w.length (by rw[mS];exact D);rw[mS]at ak;refine cI 73<|dW 94 ?_;refine aJ 94 (.aa (en (w.map Int.toNat):Nat)) j (by show ag.aa _=_;rw[ae,mS])<|dW 95 ?_;by_cases T:en (w.map Int.toNat)<=16
  .have e:lj p.ins.length s.cr[i]=0:=an3 O (by unfold mM;rw[F,cm ah,D,cm<|by rw[N];exact T];rfl);refine cI 95<|st ?_;exact bB [0,1] (i+1) ⟨by show s.cr.length-(i+1)<s.cr.length-i;omega,h,by rw[a',aD e]⟩ bk
  .refine cM 95<|st ?_;exact bp<|fin (r<|by unfold mM;rw[F,show decide ((kQ w).kP<=16)=false from cp<|by rw[N];exact T,ym])
 refine cM 73 ?_;have q:w≠[]:=λe=>by rw[e]at A;exact kV _ A
 have o:=hv A;refine st ?_;refine e5 77 (.b6 2 cV h7 s.cr) j (.h0 u) ?_;refine l3 s.cr[i] (aO h) ?_;refine dW 81 ?_;refine aJ 81 (.cd 1 Int er w) j (by rw[F]) ?_;refine e5 81 (.b6 1 Int er w) j (.h0 q)<|st ?_;refine l3 w[J] (aO A) ?_;refine dW 87 ?_;have ad:¬(0<=w[J]/\w[J]<=16)->mM p.ins.length s.cr[i]=false:=λg=>by
  unfold mM;rw[F,show nk w=false from ?_,ym,Bool.false_and];unfold nk;rw[DU];exact⟨w[J],o,by rw[cp g];decide⟩
 by_cases C:w[J]<0
 .refine v1 87 C<|st ?_;exact bp<|fin<|r<|ad λg=>R
 refine v0 87 C<|dW 90 ?_;by_cases al:w[J]<=16
 case neg=>
  refine cM 90<|st ?_;exact bp<|fin<|r<|ad λg=>al g.2
 refine cI 90 ?_;have S:nk (w.take<|J+1)=true:=by
  unfold nk at D⊢;rw[hR A,yl,D,vQ,List.all_nil,cm R];rfl
 have ar:en ((w.take<|J+1).map Int.toNat)=en ((w.take J).map Int.toNat)+w[J].toNat:=by
  rw[hR A,rL,z5];simp[en]
 have au:=b J D;refine st ?_;exact bB [0,1] (J+1) ⟨by show w.length-(J+1)<w.length-J;omega,A,S⟩ bk
def kx(s:eH):ac ag:=oF s.1++oF s.2
def pz(n:Nat)(l:ac e1):ac eH×Int:=match lM n l with
 |.ok V=>(V,0)
 |.error e=>([],e)
def N7:df:=bV λ((p,l):dX×ac e1)=>([iy p,.cd 2 e1 mL l],(∀s∈l,s.1.length<=2000/\s.2.length<=2000)/\l.length<=1000,.bc [.b6 6 eH kx (pz p.ins.length l).1,.aa (pz p.ins.length l).2])
def an4(p:dX)(l:ac e1)(k:Nat):ac eH->cb
 |[]=>⟨[.c 27<|g4 p],1,[(1,.cd 2 e1 mL l),(2,.p 0 0),(6,.nl),(7,.aa (k:Nat))]⟩
 |v::ab=>⟨[.c 27<|g4 p,.a 108 true 6 eH kx<|v::ab],2,[(1,.cd 2 e1 mL l),(2,.p 0 0),(6,.aH 1 6 0 (ab.length+1)<|ab.length+1),(7,.aa (k:Nat))]⟩
def aae:bl 36 N7:=by
 refine bL [vo,sF] TP.1 ?_;intro⟨p,l⟩ ⟨w,B⟩ H aq;have fin:∀{V:ac eH} {c:Int},pz p.ins.length l=(V,c)->bz (.bc [.b6 6 eH kx V,.aa c]) (N7.res (p,l)):=λ{V c} h=>by
  show bz _ (.bc [.b6 6 eH kx (pz p.ins.length l).1,.aa (pz p.ins.length l).2]);rw[h];exact .refl _
 have bad:∀{c:Int},lM p.ins.length l= .error c->bz (.bc [.nl,.aa c]) (N7.res (p,l)):=λ{c} h=>(show bz (.bc [.nl,.aa c]) (.bc [.b6 6 eH kx [],.aa c])from .bc ⟨.nl,.refl _,az⟩).trans (fin (V:=[])<|by unfold pz;rw[h]);refine dW 17 ?_;by_cases z:l.length=p.ins.length
 case neg=>
  refine cM 17<|st ?_;exact bp (bad<|by unfold lM;rw[av z])
 refine cI 17 ?_;have u:lM p.ins.length l=(match g5 l with
  |some V=>if ql V=true then .ok V else .error 7
  |none=>.error 6):=by unfold lM;exact aD z
 have aj:g5 l=none->lM p.ins.length l= .error 6:=λh=>by rw[u,h]
 refine st ?_;refine iI (L:=ac eH) (λV=>g5 l=some V/\V.length<=1000) (λV=>⟨[],0,[(6,.b6 6 eH kx V)]⟩) ?_ ?_
 .refine ea (L:=Nat×ac eH) (λ(k,V)=>k<=l.length/\V.length=k/\g5 l=(g5<|l.drop k).map (V++·)) (λ(k,V)=>an4 p l k V) (λx=>l.length-x.1) [0] (0,[]) ⟨c8 _,j,by rw[iB];cases g5 l<;>rfl⟩ aqc fU ?_;rintro⟨k,V⟩ ⟨N,T,q⟩;by_cases h:k<l.length
  .have D:l≠[]:=λe=>by rw[e]at h;exact kV _ h
   have hm:=w _<|hv h;rw[fj h]at q;rcases V with _|⟨v,V⟩
   all_goals
    refine dW 21 ?_;refine cM 21 ?_;refine e5 1 (.b6 2 e1 mL l) j (.h0 D)<|st ?_;refine l3 l[k] (aO h) ?_;refine st ?_;refine aS vo l[k].1 hm.1 ?_;rcases A:dK l[k].1 with _|a
    .refine aJ 30 (.bc [c0 0,.aa 6]) j (P' A)<|st ?_;exact bp<|bad<|aj (q.trans<|by rw[HE A];rfl)
    refine aJ 30 (.bc [c0 a,.aa 0]) j (O' A)<|st ?_;refine l3 l[k] (aO h) ?_;refine st ?_;refine aS vo l[k].2 hm.2 ?_;rcases C:dK l[k].2 with _|b
    .refine aJ 42 (.bc [c0 0,.aa 6]) j (P' C)<|st ?_;exact bp<|bad<|aj (q.trans<|by rw[HF A C];rfl)
    refine aJ 42 (.bc [c0 b,.aa 0]) j (O' C)<|st ?_
   .refine w8 kx [(a,b)] (iH (ah:=kx) [(a,b)] j)<|dW 23 ?_;refine cj 23 ((k+1:Nat):Int) ?_;refine e5 1 (.cd 2 e1 mL l) rfl .cd<|st ?_;exact bB [0,4] (k+1,[(a,b)]) ⟨by show l.length-(k+1)<l.length-k;omega,h,by have:=T;simp at this ⊢;omega,q.trans<|Ns A C⟩ bk
   .refine q6 (ah:=kx) [(a,b)] (iH (ah:=kx) [(a,b)] j) ?_ (aj:=au) (ay:=by show(5*(V.length+1+1)+1792)*113<=1125899906842624;simp only[hQ]at T;omega);refine dW 23 ?_;refine cj 23 ((k+1:Nat):Int) ?_;refine e5 1 (.cd 2 e1 mL l) rfl .cd<|st ?_;exact bB [0,5] (k+1,v::(V++[(a,b)])) ⟨by show l.length-(k+1)<l.length-k;omega,h,by have:=T;simp at this ⊢;omega,q.trans<|Ns A C⟩<|bk (aI:=⟨j,j,congrArg (λk=>some<|ag.aH 5 6 0 k k) au,j,az⟩)
  .rw[kX R]at q;have q:g5 l=some V:=q.trans (by show some (V++[])=_;rw[rP]);rcases V with _|⟨v,V⟩
   .refine dW 21 ?_;refine cI 21 ?_;refine e5 6 (.b6 6 eH kx []) rfl .nl<|st ?_;exact bB [] [] ⟨q,ai⟩ bk
   .refine dW 21 ?_;refine cI 21 ?_;refine h5 6<|st ?_;exact bB [] (v::V) ⟨q,R⟩ bk
 rintro V ⟨W,T⟩;have m:=HG w W;have r:lM p.ins.length l=if ql V=true then .ok V else .error 7:=by rw[u,W]
 refine st ?_;refine ea (L:=Nat) (λi=>i<=V.length/\∀v∈V.take i,¬v.2<v.1) (λ(i:Nat)=>⟨[],0,[(6,.b6 6 eH kx V),(11,.aa (i:Nat))]⟩) (λi=>V.length-i) [] 0 ⟨c8 _,λv h=>by simp at h⟩ (by show V.length-0<bs+1;unfold bs;omega) bk ?_;rintro(i:Nat) ⟨af,o⟩;refine dW 57 ?_;by_cases h:i<V.length
 case neg=>
  rw[gB R]at o;have F:ql V=true:=ia.2 λv S=>cm<|o v S;rw[aD F]at r;refine cI 57<|st ?_;exact bp (fin<|by unfold pz;rw[r])
 have hm:=hv h;refine cM 57<|st ?_;refine w9 V[i] (aO h) ?_;refine st ?_;refine w9 V[i] (aO h) ?_;refine st ?_;refine ca sF (V[i].1,V[i].2) ⟨jj (sJ (m _ hm).1) ai,jj (sJ (m _ hm).2) ai⟩<|st ?_;by_cases G:V[i].2<V[i].1
 .have F:¬ql V=true:=λg=>iY (ia.1 g _ hm) G;rw[av F]at r;refine v1 71 (show ji V[i].1 V[i].2>0 from Int.not_le.1 λg=>HH.1 g G)<|st ?_;exact bp<|bad r
 .refine v0 71 (show¬ji V[i].1 V[i].2>0 from DS.2<|HH.2 G)<|st ?_;refine bB [] (i+1) ⟨by show V.length-(i+1)<V.length-i;omega,h,λv S=>?_⟩ bk;rw[hR h]at S;rcases gA.1 S with S|S
  .exact o v S
  .rw[gC]at S;rw[S];exact G
end Go.bC.dg
namespace Go.bC.dg
open Go.bC
variable{n:Nat}{s:dz}{e:Int}{x:hP}
def an5{l:ac e1}(h:lM n l= .error e):e≠0:=by
 unfold lM at h;split at h
 .cases aj:g5 l with
  |none=>rw[aj]at h;cases h;decide
  |some V=>
   rw[aj]at h;dsimp only at h;split at h
   .cases h
   .cases h;decide
 .cases h;decide
def an6(h:jD n s= .ok x):jY n s=0:=by rw[jY];rw[h];rfl
theorem aaf{n:Nat}:∀{l:ac cV} {P:Poly} {e:Int},iK n P l= .error e->e≠0
 |[],_,_,h=>by cases h
 |t::l,P,e,h=>by
  cases N:jk n t with
  |ok T=>rw[HM N]at h;exact aaf h
  |error c=>rw[HL N]at h;cases h;exact aab N
def an7(h:jD n s= .error e):e≠0:=by
 rw[jD]at h;cases W:gb s.b3 with
 |none=>rw[W]at h;cases h;exact vz W
 |some c=>
  rw[W]at h;dsimp only at h;split at h
  .cases I:iK n [] s.cr with
   |ok f=>rw[I]at h;cases h
   |error c=>rw[I]at h;cases h;exact aaf I
  .cases h;decide
def aag(h:jD n s= .error e):jY n s=e:=by rw[jY];rw[h];rfl
def an8{l:ac dz}{xs:ac hP}(h:hf n (s::l)= .ok xs):∃x Z,xs=x::Z/\jD n s= .ok x/\hf n l= .ok Z:=by
 rw[hf]at h;cases S:jD n s with
 |error e=>rw[S]at h;cases h
 |ok x=>
  rw[S]at h;dsimp only at h;cases z:hf n l with
  |error e=>rw[z]at h;cases h
  |ok Z=>rw[z]at h;cases h;exact⟨x,Z,j,j,j⟩
theorem aah{n:Nat}:∀{l:ac dz} {i:Nat},i<=l.length->(∀s∈l.take i,jY n s=0)->(∀h:i<l.length,jY n l[i]≠0->hf n l= .error (jY n l[i]))/\(i=l.length->∃xs,hf n l= .ok xs)
 |[],i,af,_=>⟨λh=>absurd h<|kV _,λ_=>⟨[],j⟩⟩
 |s::l,0,_,_=>⟨λh he=>by
  cases b:jD n s with
  |ok x=>exact absurd (an6 b) he
  |error e=>
   show hf n (s::l)= .error (jY n s);rw[aag b];rw[hf];rw[b],λh=>by cases h⟩
 |s::l,i+1,af,o=>by
  have bX:=o s au;cases b:jD n s with
  |error e=>rw[aag b]at bX;exact absurd bX (an7 b)
  |ok x=>
   have I:=aah (n:=n) (l:=l) (i:=i) atK λq E=>o q (by simp only[IB,fh];exact .inr E);refine⟨λh he=>?_,λh=>?_⟩
   .have:=I.1 apH he;show hf n (s::l)=_;rw[hf,b];dsimp only;rw[this];rfl
   .have⟨xs,O⟩:=I.2 apH;refine⟨x::xs,?_⟩;rw[hf,b];dsimp only;rw[O]
def an9(h:jD n s= .ok x):gb s.b3=some x.c/\x.k=s.gL/\iK n [] s.cr= .ok x.f:=by
 rw[jD]at h;cases W:gb s.b3 with
 |none=>rw[W]at h;cases h
 |some c=>
  rw[W]at h;dsimp only at h;split at h
  .cases I:iK n [] s.cr with
   |error e=>rw[I]at h;cases h
   |ok f=>rw[I]at h;cases h;exact sa
  .cases h
def mO(n:Nat)(f:Poly):Prop:=∀p∈f,p.1.jX n
variable{f:Poly}{M a:Nat}{P:Poly}
def H9{k:aE}{x:Rat}(j:P.dU)(h:mO n P)(aw:k.jX n):mO n (dc P k x):=λq E=>by
 obtain⟨W,_⟩|⟨W,_⟩:=(lG j k x q).1 E
 .rw[W];exact aw
 .exact h q W
def N8{W:Poly}{x:Rat}(j:P.dU)(h:mO n P)(F:mO n W):mO n (dS P x W):=HI j h F
def N9{g:Poly}(h:mO n f)(D:mO n g):mO n (ek<|gy f g):=Nw (Q:=λk=>k.jX n) _ λw F=>N0 (h _ (sL.1 F).1)<|D _ (sL.1 F).2
theorem aai{n:Nat}:∀{l:ac cV} {P f:Poly},P.dU->mO n P->iK n P l= .ok f->mO n f
 |[],P,f,_,Z,h=>by cases h;exact Z
 |t::l,P,f,b,Z,h=>by
  have⟨T,r,h⟩:=R' h;have⟨S,z,g,_⟩:=Q' r;exact aai (lH b _ _) (H9 b Z<|by rw[z];exact N' g) h
def Dl(n:Nat):mO n []:=λp hp=>by cases hp
def oO{N:Nat}(h:eM N M a f)(Z:mO n f):kg n a f:=⟨h.s,h.z,Z,h.b⟩
def Ia{N:Nat}(h:eM N M a f)(Z:mO n f)(E:M<4096):∀p∈f,p.1.jX n/\p.1.fP:=λp hp=>⟨Z p hp,by have:=h.k p hp;rw[aE.le]at this;rw[aE.fP];omega⟩
def Al{N:Nat}(h:eM N M a f)(E:M<2048):∀p∈f,p.1.hO:=λp hp=>C6 (h.k p hp) E
set_option maxRecDepth 100000
set_option maxHeartbeats 4000000
def x1:bl 195 sI:=by
 refine bL [] T8.1 ?_;intro⟨n,m⟩ _ H aq;refine I 9 ?_;by_cases h:0<=n
 .exact v1 6 h<|I 12<|cC (bK (decide_eq_decide.2 ⟨λD=>⟨h,D⟩,λD=>D.2⟩))
 .exact v0 6 h<|I 9<|cC ate
def Ib:bl 196 vu:=by
 refine bL [] UX.1 ?_;intro⟨p,i⟩ _ H aq;have S:∀{c:Int},hd p i=c->bz (.aa c) (vu.res (p,i)):=λh=>.of apJ;refine I 13 ?_;by_cases h:i<p.head
 .exact v1 8 h<|I 10<|bp (S<|aD h)
 refine v0 8 h<|I 12 ?_;by_cases G:i<p.tail
 .exact v1 12 G<|I 10<|bp (S<|(av h).trans<|aD G)
 exact v0 12 G<|I 11<|bp (S<|(av h).trans<|av G)
def aoa:bl 311 vw:=by
 refine bL [(196,vu)] Va.1 ?_;intro⟨p,i,k⟩ _ H aq;have no:¬(0<=k/\k<i/\(hd p k=0\/hd p k=hd p i))->bz (.b false) (vw.res (p,i,k)):=λh=>.of<|bK (cp h).symm;have E:(0<=k/\k<i/\(hd p k=0\/hd p k=hd p i))->bz (.b true) (vw.res (p,i,k)):=λh=>.of<|bK (cm h).symm;refine I 10 ?_;by_cases h:0<=k
 case neg=>
  exact dJ 8 h<|I 24<|bp (no R)
 refine eJ 8 h<|I 7 ?_;by_cases G:k<i
 case neg=>
  exact dJ 12 G<|I 20<|bp (no R)
 refine eJ 12 G<|I 7<|ca Ib (p,k) az<|aJ 17 (.aa<|hd p k) j j<|I 2 ?_;by_cases A:hd p k=0
 .exact v1 18 A<|I 16<|bp (E ⟨h,G,.inl A⟩)
 refine v0 18 A<|I 7<|ca Ib (p,k) az<|aJ 22 (.aa<|hd p k) j j<|I 5<|ca Ib (p,i) az<|aJ 25 (.aa<|hd p i) j j<|I 2 ?_;by_cases T:hd p k=hd p i
 .exact v1 26 T<|I 7<|bp (E ⟨h,G,.inr T⟩)
 exact v0 26 T<|I 7<|bp (no λh=>h.2.2.elim A T)
def rH(op:Int):Int:=if 1<=op/\op<=15 then(nU op.toNat:Int)else -1
def Oa:df:=bV λ(n:Int)=>([.aa n],True,.aa<|rH n)
def aob:∀U,U<16->1<=U->nU U=if U<=3 then 0 else if U<=7 then 1 else if U<=13 then 2 else if U=14 then 3 else 4:=by decide +kernel
def aoc:∀U,U<16->1<=U->tI U=if U=1\/U=2 then 1 else nU U:=by decide +kernel
def tW:bl 308 Oa:=by
 refine bL [] Un.1 ?_;intro(n:Int) _ H aq;have S:∀{c:Int},rH n=c->bz (.aa c) (Oa.res n):=λh=>.of apJ;refine I 11 ?_;by_cases Y:n<1
 .exact v1 5 Y<|I 16<|bp (S<|av R)
 refine v0 5 Y<|I 5 ?_;by_cases G:15<n
 .exact v1 8 G<|I 13<|bp (S<|av R)
 refine v0 8 G ?_;obtain⟨U,E⟩:∃U:Nat,n=(U:Int):=⟨n.toNat,R⟩;have N:=aob U R R;have z:∀{c:Nat},nU U=c->bz (.aa (c:Int)) (Oa.res n):=λh=>S (by unfold rH;rw[aD R,E,vP,h]);refine I 9 ?_;by_cases A:n<=3
 .exact v1 12 A<|I 12<|bp (z (c:=0)<|N.trans<|aD R)
 refine v0 12 A ?_;rw[av R]at N;refine I 8 ?_;by_cases T:n<=7
 .exact v1 15 T<|I 12<|bp (z (c:=1)<|N.trans<|aD R)
 refine v0 15 T ?_;rw[av R]at N;refine I 8 ?_;by_cases C:n<=13
 .exact v1 18 C<|I 12<|bp (z (c:=2)<|N.trans<|aD R)
 refine v0 18 C ?_;rw[av R]at N;refine I 8 ?_;by_cases b:n=14
 .exact v1 21 b<|I 12<|bp (z (c:=3)<|N.trans<|aD R)
 exact v0 21 b<|I 13<|bp (z (c:=4)<|N.trans<|av R)
def Ob(n:g3):ac ag:=[.aa n.a,.aa n.b,.aa n.c,.aa n.d]
def Ic:bl 384 (bV λ(n:g3)=>([.agg<|lb n],True,.agg<|Ob n)):=by
 refine bL [] V5.1 ?_;intro(n:g3) _ H aq;exact I 21<|eD
def aod(n:g3):Nat×ac Int->cb
 |(k,[])=>⟨[.c 172<|lb n,.a 368 false 1 Int er<|fa n],2,[(1,.p 0 0),(3,.p 1 0),(4,.nl),(5,.aa (k:Int))]⟩
 |(k,d::aM)=>⟨[.c 172<|lb n,.a 368 false 1 Int er<|fa n,.a 3 true 1 Int er<|d::aM],3,[(1,.p 0 0),(3,.p 1 0),(4,.aH 2 1 0 (aM.length+1)<|aM.length+1),(5,.aa (k:Int))]⟩
def aaj:bl 310 (bV λ(n:g3)=>([.agg<|lb n],1<=n.op/\n.op<=15,.b6 1 Int er<|h9 n)):=by
 refine bL [Ic,tW] U9.1 ?_;intro(n:g3) ⟨(Y:1<=n.op),(G:n.op<=15)⟩ H aq;obtain⟨U,E⟩:∃U:Nat,n.op=(U:Int):=atb;have D:n.op.toNat=U:=R
 obtain⟨m,_⟩:=Hv U R;have h:h9 n=(fa n).take (nU U):=by unfold h9;rw[D];exact aD ⟨Y,G⟩
 have g:rH n.op=(nU U:Int):=by unfold rH;rw[aD ⟨Y,G⟩,D]
 generalize nU U=u at *;refine I 9<|aS Ic n az<|aJ 7 (.agg<|Ob n) j j<|I 13<|ks 1 er (fa n) ?_;refine I 3<|eS (L:=Nat×ac Int) (λ(k,l)=>k<=u/\l=(fa n).take k) (aod n) (λl=>u-l.1) [0,1] (0,[]) apR ?_;rintro⟨k,l⟩ ⟨N,Z⟩;have r:(fa n).length=4:=rfl;have O:l.length=k:=by rw[Z,gQ];omega
 by_cases aW:k<u
 .have b:k<(fa n).length:=by omega
  have F:(fa n).take (k+1)=l++[(fa n)[k]]:=by rw[hR b,Z]
  cases l with
  |nil=>
   refine I 6<|aS tW n.op az<|aJ 11 (.aa (u:Int)) j as2<|I 1<|cM 12<|I 10<|F2 (J:=k) ?_;refine oy (fa n)[k] (aO b) ?_;refine I 1<|w8 er [(fa n)[k]] (iH (ah:=er) [(fa n)[k]] j) ?_;exact I 7<|cj 14 ((k+1:Nat):Int)<|I 2<|iV [0,1,3] (k+1,[(fa n)[k]]) ⟨aW,F.symm⟩
  |cons d z=>
   have A:z.length+1=k:=O;refine I 6<|aS tW n.op az<|aJ 11 (.aa (u:Int)) j as2<|I 1<|cM 12<|I 10<|F2 (J:=k) ?_;refine oy (fa n)[k] (aO b) ?_;refine I 1<|q6 (ah:=er) [(fa n)[k]] (iH (ah:=er) [(fa n)[k]] j) ?_;exact I 7<|cj 14 ((k+1:Nat):Int)<|I 2<|bB [0,1,4] (k+1,d::(z++[(fa n)[k]])) ⟨by show u-(k+1)<u-k;omega,aW,F.symm⟩ (bk (aI:=⟨j,j,congrArg (λk=>some<|ag.aH 4 1 0 k k) au,j,az⟩))
 .obtain rfl:k=u:=by omega
  rw[<-h]at Z;cases l with
  |nil=>
   exact I 6<|aS tW n.op az<|aJ 11 (.aa (k:Int)) j as2<|I 1<|cI 12<|I 15<|bp (bz.nl.trans (.of<|by show ag.b6 1 Int er []=ag.b6 1 Int er (h9 n);rw[<-Z]))
  |cons d z=>
   refine I 6<|aS tW n.op az<|aJ 11 (.aa (k:Int)) j as2<|I 1<|cI 12<|I 11<|h5 21 ?_;exact I 4<|cC (by show ag.b6 1 Int er (d::z)=ag.b6 1 Int er (h9 n);rw[<-Z])
def aak:bl 309 (bV λ(n:g3)=>([.agg<|lb n],1<=n.op/\n.op<=15,.b<|!rB n)):=by
 refine bL [Ic,tW] V2.1 ?_;intro(n:g3) ⟨(Y:1<=n.op),(G:n.op<=15)⟩ H aq;obtain⟨U,E⟩:∃U:Nat,n.op=(U:Int):=atb;have D:n.op.toNat=U:=R
 obtain⟨_,z⟩:=Hv U R;have N:=aoc U R R;have w:rH n.op=(nU U:Int):=by unfold rH;rw[aD ⟨Y,G⟩,D]
 have F:rB n=(((fa n).drop<|tI U).all (λx=>x==0)&&(n.v.isEmpty||decide (n.op=3))):=by unfold rB;rw[D]
 generalize tI U=u at *;refine I 10<|aS tW n.op az<|aJ 8 (.aa (nU U:Int)) j (congrArg (ag.aa) w) ?_;refine dW 3 ?_
 iterate 3 refine fE j ?_
 refine gZ (L:=Unit) (λ_=>True) (λ_=>⟨[.c 172<|lb n],1,[(1,.p 0 0),(3,.aa (u:Int))]⟩) ?_ ?_
 .refine I 5 ?_;by_cases q:n.op=1
  .refine v1 11 q ?_;rw[aD<|.inl R]at N;subst N;exact I 11<|dD [0] () az
  refine v0 11 q<|I 7 ?_;by_cases V:n.op=2
  .refine v1 15 V ?_;rw[aD<|.inr R]at N;subst N;exact I 7<|dD [0] () az
  refine v0 15 V ?_;rw[av R]at N;subst N;exact I 5<|dD [0] () az
 intro _ _;refine I 3<|aS Ic n az<|aJ 18 (.agg<|Ob n) j j<|I 8<|ks 1 er (fa n) ?_;refine I 4<|eS (L:=Nat) (λk=>u<=k/\k<=4/\(((fa n).drop u).take<|k-u).all (λx=>x==0)=true) (λ(k:Nat)=>⟨[.c 172<|lb n,.a 368 false 1 Int er<|fa n],2,[(1,.p 0 0),(4,.p 1 0),(5,.aa (k:Int))]⟩) (λk=>4-k) [0,1] u ⟨c5 _,z,by rw[Nat.sub_self];rfl⟩ ?_;rintro(k:Nat) ⟨T,C,Z⟩;have r:(fa n).length=4:=rfl;have W:((fa n).drop u).length=4-u:=by rw[iX];rfl
 refine I 5 ?_;by_cases B:k<4
 .refine cM 21 ?_;have m:k-u<((fa n).drop u).length:=by omega
  have g:(fa n)[k]? =some ((fa n).drop u)[k-u]:=by
   rw[<-aO m,n2,show u+(k-u)=k by omega]
  refine I 10<|F2 (J:=k) ?_;refine oy ((fa n).drop u)[k-u] g ?_;refine I 1 ?_;by_cases O:((fa n).drop u)[k-u]=0
  .exact v0 27 (iG O)<|I 9<|cj 23 ((k+1:Nat):Int)<|I 2<|iV [0,1] (k+1) ⟨R,B,by rw[show k+1-u=(k-u)+1 by omega];exact YP m Z O⟩
  .refine v1 27 O<|I 14<|cC (bK ?_);have:((fa n).drop u).all (λx=>x==0)=false:=by
    rw[DU];exact atm atm
   rw[F,this];rfl
 .refine cI 21 ?_;have h:((fa n).drop u).all (λx=>x==0)=true:=by
   exact arD
  refine I 13 ?_;by_cases A:n.op=3
  .exact v0 30 (iG A)<|I 9<|bn (ep j j<|.of (bK<|by rw[F,h,cm A];simp))
  .refine v1 30 A<|dW 34 ?_;cases S:n.v with
   |nil=>
    exact aJ 34 (.b false) j j<|I 5<|bn (ep j j<|.of (bK<|by rw[F,h,S];rfl))
   |cons c v=>
    exact aJ 34 (.b true) j j<|I 5<|bn (ep j j<|.of (bK<|by rw[F,h,S,cp A];rfl))
def aoe:bl 190 zZ:=by
 refine bL [] Ts.1 ?_;intro(p:dX) _ H aq;have aX:∀{c:Int},qj p=c->bz (.aa c) (zZ.res p):=λh=>.of apJ;refine I 21 ?_;by_cases Y:6<(p.bS.length:Int)
 .exact v1 10 Y<|I 26<|bp (aX<|aD as4)
 refine v0 10 Y<|I 9 ?_;by_cases G:6<(p.ins.length:Int)
 .exact v1 15 G<|I 21<|bp (aX<|aD<|.inr<|.inl G)
 refine v0 15 G<|I 6 ?_;by_cases A:64<(p.bT.length:Int)
 .exact v1 19 A<|I 17<|bp (aX<|aD<|.inr<|.inr<|.inl A)
 refine v0 19 A<|I 10 ?_;by_cases T:4<(p.hc.length:Int)
 .exact v1 25 T<|I 11<|bp (aX<|aD<|.inr<|.inr<|.inr T)
 refine v0 25 T ?_;have N:¬(6<(p.bS.length:Int)\/6<(p.ins.length:Int)\/64<(p.bT.length:Int)\/4<(p.hc.length:Int)):=λh=>h.elim Y λh=>h.elim G λh=>h.elim A T;have S:=λ{c} h=> @aX c<|(av N).trans h;refine I 13 ?_;by_cases W:(p.bS.length:Int)=0
 .exact v1 30 W<|I 24<|bp (S<|aD<|.inl W)
 refine v0 30 W<|I 5 ?_;by_cases b:(p.bT.length:Int)=0
 .exact v1 33 b<|I 21<|bp (S<|aD<|.inr<|.inl b)
 refine v0 33 b<|I 8 ?_;by_cases a0:p.mode<0
 .exact v1 38 a0<|I 16<|bp (S<|aD<|.inr<|.inr<|.inl a0)
 refine v0 38 a0<|I 8 ?_;by_cases cJ:4<p.mode
 .exact v1 43 cJ<|I 11<|bp (S<|aD<|.inr<|.inr<|.inr cJ)
 refine v0 43 cJ ?_;have iG:¬((p.bS.length:Int)=0\/(p.bT.length:Int)=0\/p.mode<0\/4<p.mode):=λh=>h.elim W λh=>h.elim b λh=>h.elim a0 cJ;have z:=λ{c} h=> @S c<|(av iG).trans h;refine I 12 ?_;by_cases bJ:p.head<0
 .exact v1 47 bJ<|I 35<|bp (z<|aD<|.inl bJ)
 refine v0 47 bJ<|I 11 ?_;by_cases g:p.tail<p.head
 .exact v1 53 g<|I 29<|bp (z<|aD<|.inr<|.inl g)
 refine v0 53 g<|I 10 ?_;by_cases kJ:(p.bT.length:Int)<p.tail
 .exact v1 59 kJ<|I 23<|bp (z<|aD<|.inr<|.inr kJ)
 refine v0 59 kJ ?_;have v:¬(p.head<0\/p.tail<p.head\/(p.bT.length:Int)<p.tail):=λh=>h.elim bJ λh=>h.elim g kJ;have m:=λ{c} h=> @z c<|(av v).trans h;refine I 10 ?_;by_cases Z:(p.hc.length:Int)=0
 .refine v1 65 Z<|I 10 ?_;by_cases F:p.head<(p.bT.length:Int)
  .exact v1 70 F<|I 13<|bp (m<|aD ⟨Z,R⟩)
  .exact v0 70 F<|I 14<|bp (m<|av λh=>h.2 R)
 .exact v0 65 Z<|I 20<|bp (m<|av λh=>Z h.1)
def aal{v k:Nat}(h:v<10^k)(aw:k<=2000):ej 300 v:=by
 refine je ai<|vM h<|ch (j0 ai aw) ?_;decide +kernel
def aam{s:ac ci}(u:s.length<=2000){x:Rat}(h:dK s=some x):eT 300 x:=by
 have⟨P,q,w,_,_,Z,E,o,hint,V⟩:=C0 u;by_cases D:jV (dk s).1 P q w
 .have⟨W,I,a0⟩:=D;have U:=aal (mH W.2.1) R;cases w with
  |false=>
   have e:=hint ⟨W,I,a0⟩ j;rw[h]at e;cases e;exact vn (by rwa [nP]) aqQ ai
  |true=>
   have⟨A,T,C⟩:=a0 j;have e:=V ⟨W,I,a0⟩ j;rw[h]at e;split at e
   .cases e;exact vn asC (aal (mH A.2.1) R) λh=>T<|sG A h
   .cases e
 .rw[o D]at h;cases h
def Ie:df:=bV λ((p,x):dX×oI)=>([iy p,.agg<|Hs x],x.bm.length<=2000/\x.af.length<=2000,.aa<|x0 p x)
def aan:bl 192 Ie:=by
 refine bL [(195,sI),vo,N5,sF] VO.1 ?_;intro⟨p,x⟩ ⟨T,N⟩ H aq;have aX:∀{c:Int},x0 p x=c->bz (.aa c) (Ie.res (p,x)):=λh=>.of apJ;refine I 15<|aS x1 (x.f,(p.bS.length:Int)) az ?_;by_cases A:kf x.f p.bS.length
 case neg=>
  exact cl 14 (bK (cp A))<|I 11<|bp (aX<|av A)
 refine cl 14 asK ?_;obtain⟨f,D⟩:∃f:Nat,x.f=(f:Int):=⟨x.f.toNat,by have:=A.1;omega⟩;have Y:x.f.toNat=f:=R
 have r:f<p.bS.length:=by have:=A.2;omega
 obtain⟨⟨q,C⟩,E⟩:∃w,p.bS[f]? =some w:=⟨_,aO r⟩;have S:∀{c:Int},rD q C x=c->bz (.aa c) (Ie.res (p,x)):=λh=>aX (by unfold x0;rw[aD A,Y,E];exact h);refine I 10<|aS vo x.bm T ?_;cases o:dK x.bm with
 |none=>
  exact aJ 19 (.bc [c0 0,.aa 6]) j atN<|I 24<|bp (S<|by unfold rD;rw[o])
 |some X=>
 refine aJ 19 (.bc [c0 X,.aa 0]) j atN<|I 22<|aS vo x.af N ?_;cases F:dK x.af with
 |none=>
  exact aJ 28 (.bc [c0 0,.aa 6]) j atO<|I 24<|bp (S<|by unfold rD;rw[o,F])
 |some v=>
 refine aJ 28 (.bc [c0 v,.aa 0]) j atO ?_;have G:=aam T o;have Z:=aam N F;have u:rD q C x=if kO q C X/\kO q C v/\¬v<X then 0 else 7:=by unfold rD;rw[o,F]
 have no:¬(kO q C X/\kO q C v/\¬v<X)->bz (.aa 7) (Ie.res (p,x)):=λh=>S<|u.trans<|av h;refine I 24<|aJ 37 (.aa (f:Int)) j (by rw[D])<|eW (q,C) E j<|I 10<|aS N5 (q,C,X) G ?_;by_cases W:kO q C X
 case neg=>
  exact cl 42 (bK<|cp W)<|I 23<|bp (no λh=>W h.1)
 refine cl 42 (bK<|cm W)<|I 7<|aS N5 (q,C,v) Z ?_;by_cases cA:kO q C v
 case neg=>
  exact cl 47 (bK<|cp cA)<|I 19<|bp (no λh=>cA h.2.1)
 refine cl 47 (bK<|cm cA)<|I 9<|aS sF (X,v) ⟨jj G,jj Z⟩<|I 2 ?_;by_cases dG:v<X
 .exact v1 54 (xy.2 dG)<|I 11<|bp (no λh=>h.2.2 dG)
 .refine v0 54 (λh=>dG<|xy.1 h) ?_;exact I 12<|bp (S<|u.trans<|aD ⟨W,cA,dG⟩)
def aao:df:=bV λ((p,i,n):dX×Nat×g3)=>([iy p,.aa (i:Int)],p.bT[i]? =some n/\n.v.length<=2000,.aa<|tO p i n)
def aap:bl 193 aao:=by
 refine bL [tW,aak,(195,sI),T',aaj,(311,vw)] Tt.1 ?_;intro⟨p,i,n⟩ ⟨V,S⟩ H aq;have aX:∀{c:Int},tO p i n=c->bz (.aa c) (aao.res (p,i,n)):=λh=>.of apJ;refine I 11<|eW n V j<|I 10<|aS tW n.op az<|I 1 ?_;by_cases Y:1<=n.op/\n.op<=15
 case neg=>
  exact v1 16 (show rH n.op<0 by unfold rH;rw[av Y];decide)<|I 14<|bp (aX<|aD as4)
 refine v0 16 (show¬rH n.op<0 by unfold rH;rw[aD Y];omega)<|I 4<|aS aak n Y ?_;cases G:rB n with
 |false=>
  exact aJ 19 (.b true) j (bK<|by rw[G];rfl)<|I 11<|bp (aX<|aD<|.inr G)
 |true=>
 refine aJ 19 (.b false) j (bK<|by rw[G];rfl) ?_;have D:¬(¬(1<=n.op/\n.op<=15)\/rB n=false):=λh=>h.elim (λh=>h Y) λh=>Bool.noConfusion<|G.symm.trans h;refine I 14<|aS x1 (n.f,(p.bS.length:Int)) az ?_;by_cases A:kf n.f p.bS.length
 case neg=>
  exact cl 26 (bK (cp A))<|I 11<|bp (aX<|(av D).trans<|aD A)
 refine cl 26 asK ?_;have E:¬¬kf n.f p.bS.length:=λh=>h A;have z:=λ{c} h=> @aX c<|(av D).trans<|(av E).trans h;have F:=λ{c} h=>((av D).trans ((av E).trans h):tO p i n=c);refine dW 29 ?_
 iterate 3 refine fE j ?_
 refine iI (L:=Unit) (λ_=>tO p i n=if(h9 n).all (λk=>vv p i k)then 0 else 7) (λ_=>⟨[.c 27<|g4 p,.c 172<|lb n],2,[(1,.aa (i:Int)),(2,.p 0 0),(4,.aa 0),(5,.p 1 0)]⟩) ?_ ?_
 .clear aX;refine I 3 ?_;by_cases af:n.op=1
  .refine v1 31 af<|I 12<|aS x1 (n.a,(p.ins.length:Int)) az ?_;by_cases T:kf n.a p.ins.length
   case neg=>
    exact cl 37 (bK<|cp T)<|I 13<|bp (z<|aD ⟨af,T⟩)
   refine cl 37 (bK<|cm T) ?_;have a0:¬(n.op=1/\¬kf n.a p.ins.length):=λh=>h.2 T;obtain⟨a,ab⟩:∃a:Nat,n.a=(a:Int):=⟨n.a.toNat,by have:=T.1;omega⟩;have w:n.a.toNat=a:=R
   have u:a<p.ins.length:=by have:=T.2;omega
   refine I 12<|dF 42 (.aa (a:Int)) j j (by rw[ab])<|fy p.ins[a] (aO u) j<|I 5 ?_;by_cases C:(p.ins[a]).f=n.f
   case neg=>
    exact eJ 48 C<|I 11<|bp (z<|(av a0).trans<|aD ⟨af,by rw[w,aO u];simpa using C⟩)
   refine dJ 48 (iG C)<|I 5<|dD [0,1] () (F<|(av a0).trans<|(av ?_).trans<|(av R).trans<|av R);rintro⟨_,h⟩;exact h<|by rw[w,aO u];simp[C]
  .refine v0 31 af ?_;have r:=λ{c} h=> @F c<|(av λh=>af h.1).trans<|(av λh=>af h.1).trans h;have m:=λ{c} h=> @z c<|(av λh=>af h.1).trans<|(av λh=>af h.1).trans h;refine I 7 ?_;by_cases g:n.op=2
   .refine v1 50 g<|I 10 ?_;by_cases T:(i:Int)<p.head
    .exact v1 54 T<|I 20<|bp (m<|aD ⟨g,.inl T⟩)
    refine v0 54 T<|I 12<|aS x1 (n.a,(p.hc.length:Int)) az ?_;by_cases C:kf n.a p.hc.length
    case neg=>
     exact cl 61 (bK<|cp C)<|I 14<|bp (m<|aD ⟨g,.inr C⟩)
    exact cl 61 (bK<|cm C)<|I 8<|dD [0,1] () (r<|(av λh=>h.2.elim T λh=>h C).trans<|av R)
   .refine v0 50 g ?_;have o:=λ{c} h=> @r c<|(av λh=>g h.1).trans h;have a':=λ{c} h=> @m c<|(av λh=>g h.1).trans h;refine I 7 ?_;by_cases W:n.op=3
    .exact v1 65 W<|I 8<|aS T' n.v S<|I 6<|bp (a'<|aD W)
    .exact v0 65 W<|I 6<|dD [0,1] () (o<|av W)
 intro _ q;have N:=o' n;refine I 3<|aS aaj n Y<|I 10<|eS (L:=Nat) (λk=>k<=(h9 n).length/\((h9 n).take k).all (λk=>vv p i k)=true) (λ(k:Nat)=>⟨[.c 27<|g4 p,.c 172<|lb n],2,[(1,.aa (i:Int)),(2,.p 0 0),(4,.aa 0),(6,.b6 1 Int er<|h9 n),(7,.aa (k:Int))]⟩) (λk=>(h9 n).length-k) [0,1] 0 apR ?_;rintro(k:Nat) ⟨O,Z⟩;refine I 7 ?_;by_cases B:k<(h9 n).length
 .refine cM 74<|I 13<|fy (h9 n)[k] (aO B) j<|I 1<|ca aoa (p,(i:Int),(h9 n)[k]) az ?_;cases g:vv p i (h9 n)[k]with
  |false=>
   refine cl 83 (bK g)<|I 15<|bp (aX<|q.trans<|av ?_);intro h;rw[ia]at h;have:=h _<|dH B;rw[g]at this;cases this
  |true=>
   exact cl 83 (bK g)<|I 10<|cj 76 ((k+1:Nat):Int)<|I 2<|iV [0,1] (k+1) ⟨B,by rw[hR B,yl,Z];simp[g]⟩
 .exact cI 74<|I 14<|bp (aX<|q.trans<|aD arD)
def aof:bl 194 tP:=by
 refine bL [(195,sI)] UW.1 ?_;intro⟨p,i,s⟩ ⟨V,r,o,B⟩ H aq;have aX:∀{c:Int},Ag p i s=c->bz (.aa c) (tP.res (p,i,s)):=λh=>.of apJ;refine I 11<|eW s V j<|I 12<|aS x1 (s.i,p.head) az ?_;by_cases Y:0<=s.i/\s.i<p.head
 case neg=>
  exact cl 18 (bK<|cp Y)<|I 19<|bp (aX<|aD as4)
 refine cl 18 (bK<|cm Y)<|I 11<|aS x1 (s.n,p.tail) az ?_;by_cases G:0<=s.n/\s.n<p.tail
 case neg=>
  exact cl 25 (bK (cp G))<|I 13<|bp (aX<|aD<|.inr G)
 refine cl 25 atf ?_;obtain⟨a,m⟩:∃a:Nat,s.i=(a:Int):=⟨s.i.toNat,R⟩;obtain⟨b,C⟩:∃b:Nat,s.n=(b:Int):=⟨s.n.toNat,R⟩;have w:s.i.toNat=a:=R
 have g:s.n.toNat=b:=R
 have u:a<p.bT.length:=R
 have q:b<p.bT.length:=R
 have S:∀{c:Int},(if(p.bT[b]).f≠(p.bT[a]).f\/p.bT.any (jW i (p.bT[a]).f)=true then 143 else 0)=c->bz (.aa c) (tP.res (p,i,s)):=λh=>aX (by
  unfold Ag;rw[av λh=>h.elim (λh=>h Y) λh=>h G,w,g,aO u,aO q];exact h)
 refine I 14<|aJ 31 (.aa (a:Int)) j (by rw[m])<|eW p.bT[a] (aO u) j<|I 12<|aJ 38 (.aa (b:Int)) j (by rw[C])<|eW p.bT[b] (aO q) j<|I 4 ?_;by_cases A:(p.bT[b]).f≠(p.bT[a]).f
 .exact v1 43 A<|I 10<|bp (S<|aD<|.inl A)
 refine v0 43 A<|I 12<|eS (L:=Nat) (λk=>k<=p.bT.length/\(p.bT.take k).any (jW i (p.bT[a]).f)=false) (λ(k:Nat)=>⟨[.c 27<|g4 p],1,[(1,.aa (i:Int)),(2,.p 0 0),(6,.aa (p.bT[a]).f),(7,.aa (k:Int))]⟩) (λk=>p.bT.length-k) [0] 0 apR ?_;rintro(k:Nat) ⟨O,Z⟩;refine I 8 ?_;by_cases N:k<p.bT.length
 .refine cM 48<|I 12<|eW p.bT[k] (aO N) j ?_;have o5:jW i (p.bT[a]).f p.bT[k]=true->bz (.aa 143) (tP.res (p,i,s)):=λh=>S<|aD<|.inr<|List.any_eq_true.2 ⟨_,dH N,h⟩;have n7:jW i (p.bT[a]).f p.bT[k]=false->k+1<=p.bT.length/\(p.bT.take<|k+1).any (jW i (p.bT[a]).f)=false:=λh=>⟨N,(by
   rw[hR N,List.any_append,Z];simp[h])⟩
  refine I 10 ?_;by_cases W:(p.bT[k]).op=2
  case neg=>
   exact v0 58 W<|I 21<|cj 50 ((k+1:Nat):Int)<|I 2<|iV [0] (k+1) (n7<|by unfold jW;rw[cp W];rfl)
  refine v1 58 W<|I 9 ?_;by_cases cA:(p.bT[k]).a=(i:Int)
  case neg=>
   exact v0 63 cA<|I 16<|cj 50 ((k+1:Nat):Int)<|I 2<|iV [0] (k+1) (n7<|by unfold jW;rw[cm W,cp cA];rfl)
  refine v1 63 cA<|I 10 ?_;by_cases dG:(p.bT[k]).f≠(p.bT[a]).f
  .exact v1 69 dG<|I 15<|bp (o5<|by unfold jW;rw[cm W,cm cA,cm dG];rfl)
  .exact v0 69 dG<|I 10<|cj 50 ((k+1:Nat):Int)<|I 2<|iV [0] (k+1) (n7<|by unfold jW;rw[cm W,cm cA,cp dG];rfl)
 .refine cI 48 ?_;rw[gB R]at Z;exact I 14<|bp (S<|av λh=>h.elim A λh=>Bool.noConfusion<|Z.symm.trans h)
def Ig:df where
 L:=dX
 args:=λp=>[iy p]
 pre:=vF
 res:=λp=>Ah<|ew p
def aog:bl 111 Ig:=by
 refine bL [(190,zZ),G5,aan,aap,(194,tP),(195,sI),(196,vu)] T3.1 ?_;intro(p:dX) ⟨o,q⟩ H aq;have aX:∀{c:Int×Int×Int},ew p=c->bz (Ah c) (Ig.res p):=λh=>.of apJ;refine I 11<|aS aoe p az<|aJ 15 (.aa<|qj p) j j<|I 8 ?_;by_cases O:qj p=0
 case neg=>
  exact v1 17 O<|I 13<|bp (aX<|av O)
 refine v0 17 (iG O) ?_;have S:∀{c:Int×Int×Int},qm p=c->bz (Ah c) (Ig.res p):=λh=>aX<|(aD O).trans h;obtain⟨u,w,C,v,b,m,r⟩:=NT O;refine I 12<|eS (L:=Nat) (λJ=>J<=p.bS.length/\jn (tQ p) (p.bS.drop J) J=jn (tQ p) p.bS 0) (λ(J:Nat)=>⟨[.c 27<|g4 p],1,[(1,.p 0 0),(6,.aa (J:Int))]⟩) (λJ=>p.bS.length-J) [0] 0 apR ?_;rintro(J:Nat) ⟨B,Z⟩;refine I 8 ?_;by_cases V:J<p.bS.length
 .refine cM 23<|st ?_;rw[Di V]at Z;refine eW p.bS[J] (aO V) j<|I 1<|aS G5 p.bS[J] az<|aJ 31 (.aa<|tQ p J p.bS[J]) j j<|I 7 ?_;by_cases D:tQ p J p.bS[J]=0
  .rw[aD D]at Z;exact v0 33 (iG D)<|I 9<|cj 25 ((J+1:Nat):Int)<|I 2<|iV [0] (J+1) ⟨V,Z⟩
  .rw[av D]at Z;refine v1 33 D<|I 18<|bp (S (c:=(1,(J:Int),tQ p J p.bS[J])) ?_);unfold qm;simp only[<-Z]
 refine cI 23 ?_;have Y:jn (tQ p) p.bS 0=none:=by rw[<-Z,kX R];rfl
 clear Z V B;refine I 15<|eS (L:=Nat) (λJ=>J<=p.ins.length/\jn (tR p) (p.ins.drop J) J=jn (tR p) p.ins 0) (λ(J:Nat)=>⟨[.c 27<|g4 p],1,[(1,.p 0 0),(8,.aa (J:Int))]⟩) (λJ=>p.ins.length-J) [0] 0 apR ?_;rintro(J:Nat) ⟨B,Z⟩;refine I 8 ?_;by_cases V:J<p.ins.length
 .refine cM 40<|st ?_;rw[Di V]at Z;refine fy p.ins[J] (aO V) j<|I 1<|ca aan (p,p.ins[J]) (o _<|dH V)<|aJ 49 (.aa<|tR p J p.ins[J]) j j<|I 7 ?_;by_cases D:tR p J p.ins[J]=0
  .rw[aD D]at Z;exact v0 51 (iG D)<|I 9<|cj 42 ((J+1:Nat):Int)<|I 2<|iV [0] (J+1) ⟨V,Z⟩
  .rw[av D]at Z;refine v1 51 D<|I 18<|bp (S (c:=(2,(J:Int),tR p J p.ins[J])) ?_);unfold qm;simp only[Y,<-Z]
 refine cI 40 ?_;have G:jn (tR p) p.ins 0=none:=by rw[<-Z,kX R];rfl
 clear Z V B;refine I 15<|eS (L:=Nat) (λJ=>J<=p.bT.length/\jn (tS p) (p.bT.drop J) J=jn (tS p) p.bT 0) (λ(J:Nat)=>⟨[.c 27<|g4 p],1,[(1,.p 0 0),(10,.aa (J:Int))]⟩) (λJ=>p.bT.length-J) [0] 0 apR ?_;rintro(J:Nat) ⟨B,Z⟩;refine I 8 ?_;by_cases V:J<p.bT.length
 .refine cM 58<|st ?_;rw[Di V]at Z;refine aS aap (p,J,p.bT[J]) ⟨aO V,q _<|dH V⟩<|aJ 63 (.aa<|tS p J p.bT[J]) j j<|I 7 ?_;by_cases D:tS p J p.bT[J]=0
  .rw[aD D]at Z;exact v0 65 (iG D)<|I 9<|cj 60 ((J+1:Nat):Int)<|I 2<|iV [0] (J+1) ⟨V,Z⟩
  .rw[av D]at Z;refine v1 65 D<|I 18<|bp (S (c:=(3,(J:Int),tS p J p.bT[J])) ?_);unfold qm;simp only[Y,G,<-Z]
 refine cI 58 ?_;have A:jn (tS p) p.bT 0=none:=by rw[<-Z,kX R];rfl
 clear Z V B;refine I 15<|eS (L:=Nat) (λJ=>J<=p.hc.length/\jn (tT p) (p.hc.drop J) J=jn (tT p) p.hc 0) (λ(J:Nat)=>⟨[.c 27<|g4 p],1,[(1,.p 0 0),(12,.aa (J:Int))]⟩) (λJ=>p.hc.length-J) [0] 0 apR ?_;rintro(J:Nat) ⟨B,Z⟩;refine I 8 ?_;by_cases V:J<p.hc.length
 .refine cM 72<|st ?_;rw[Di V]at Z;refine aS aof (p,J,p.hc[J]) ⟨aO V,R,b,R⟩<|aJ 77 (.aa<|tT p J p.hc[J]) j j<|I 7 ?_;by_cases D:tT p J p.hc[J]=0
  .rw[aD D]at Z;exact v0 79 (iG D)<|I 9<|cj 74 ((J+1:Nat):Int)<|I 2<|iV [0] (J+1) ⟨V,Z⟩
  .rw[av D]at Z;refine v1 79 D<|I 18<|bp (S (c:=(4,(J:Int),tT p J p.hc[J])) ?_);unfold qm;simp only[Y,G,A,<-Z]
 refine cI 72 ?_;have T:jn (tT p) p.hc 0=none:=by rw[<-Z,kX R];rfl
 clear Z V B;have g:qm p=if¬kf p.out p.bT.length\/hd p p.out=1 then(5,0,7)else(0,0,0):=by unfold qm;simp only[Y,G,A,T]
 refine I 16<|aS x1 (p.out,(p.bT.length:Int)) az ?_;by_cases W:kf p.out p.bT.length
 case neg=>
  exact cl 87 (bK<|cp W)<|I 20<|bp (S (c:=(5,0,7))<|g.trans<|aD<|.inl W)
 refine cl 87 (bK<|cm W)<|I 9<|aS Ib (p,p.out) az<|aJ 93 (.aa<|hd p p.out) j j<|I 2 ?_;by_cases cA:hd p p.out=1
 .exact v1 94 cA<|I 13<|bp (S (c:=(5,0,7))<|g.trans<|aD<|.inr cA)
 .exact v0 94 cA<|I 14<|bp (S (c:=(0,0,0))<|g.trans<|av λh=>h.elim (λh=>h W) cA)
def Oc:df where
 L:=dX
 args:=λp=>[iy p]
 pre:=vF
 res:=λp=>.aa (ew p).2.2
def aaq:bl 35 Oc:=by
 refine bL [(111,Ig)] Vq.1 ?_;intro p hp H aq;exact I 9<|aS aog p hp<|aJ 8 (.bc [.aa (ew p).1,.aa (ew p).2.1,.aa (ew p).2.2]) j j<|I 16<|cC j
end Go.bC.dg
namespace Go.bC.dg
open Go.bC Sym
set_option maxRecDepth 100000
set_option maxHeartbeats 8000000
def Od:df:=bV λ((p,b1,l):dX×ac e1×ac dz)=>([iy p,.cd 2 e1 mL b1,.cd 3 dz ht l],vF p/\((∀s∈b1,s.1.length<=2000/\s.2.length<=2000)/\b1.length<=1000)/\l.length<=1000/\∀s∈l,s.b3.length<=3000/\(∀t∈s.cr,t.b3.length<=3000)/\jl s.cr<=1000,.bc [.b6 2 cV nm (iL p b1 l).1,.aa (iL p b1 l).2])
def aar:bl 8 Od:=by
 refine bL [(35,Oc),aae,aad,S',H7,Dk,J',G4,NZ,H5,vm,NX,vt,Z'] lu.1 ?_;intro⟨p,b1,l⟩ ⟨hp,⟨bn,bV⟩,bY,aG⟩ H aq;have bad:∀{c:Int},iL p b1 l=([],c)->bz (.bc [.nl,.aa c]) (Od.res (p,b1,l)):=λ{c} h=>by
  show bz _ (.bc [.b6 2 cV nm (iL p b1 l).1,.aa (iL p b1 l).2]);rw[h];exact .bc ⟨.nl,.refl _,az⟩
 refine I 10<|aS aaq p hp<|I 8 ?_;by_cases aw:(ew p).2.2=0
 case neg=>
  exact v1 26 (show(ew p).2.2≠0 from aw)<|I 12<|bp (bad<|av aw)
 refine v0 26 (show¬((ew p).2.2≠0)fromλg=>g aw) ?_;have w:=NV aw;have o:iL p b1 l=(match lM p.ins.length b1 with
  |.ok V=>(match py p.ins.length V l with
   |.ok S=>(jm p.ins.length S,0)
   |.error e=>([],e))
  |.error e=>([],e)):=aD aw
 refine I 9<|aS aae (p,b1) ⟨bn,bV⟩ ?_;cases C:lM p.ins.length b1 with
 |error e=>
  rw[C]at o;exact aJ 31 (.bc [.b6 6 eH kx [],.aa e]) j aqx<|I 12<|v1 35 (show e≠0 from an5 C)<|I 12<|bp (bad o)
 |ok V=>
 rw[C]at o;dsimp only at o;obtain⟨bX,bu⟩:=NU bn C;refine aJ 31 (.bc [.b6 6 eH kx V,.aa 0]) j aqx ?_;have a5:¬(l.length<=20/\(∀s∈l,s.cr.length<=200))->iL p b1 l=([],3):=λg=>by
  rw[o];unfold py;rw[av g]
 refine I 23 ?_;by_cases B:l.length<=20
 case neg=>
  exact cM 39<|I 11<|bp (bad<|a5 λg=>B g.1)
 refine cI 39<|I 12<|iI (L:=Unit) (λ_=>∀s∈l,s.cr.length<=200) (λ_=>⟨[.c 27<|g4 p],1,[(2,.cd 3 dz ht l),(3,.p 0 0),(9,.b6 6 eH kx V)]⟩) ?_ ?_
 .refine eS (L:=Nat) (λk=>k<=l.length/\∀s∈l.take k,s.cr.length<=200) (λ(k:Nat)=>⟨[.c 27<|g4 p],1,[(2,.cd 3 dz ht l),(3,.p 0 0),(9,.b6 6 eH kx V),(10,.aa (k:Nat))]⟩) (λk=>l.length-k) [0] 0 ⟨c8 _,λs h=>by simp at h⟩ ?_;rintro(k:Nat) ⟨bh,E⟩;refine I 7 ?_;by_cases h:k<l.length
  case neg=>
   rw[gB R]at E;exact cI 43<|I 7<|dD [0] () E
  have u:l≠[]:=λe=>by exact apW
  refine cM 43<|e5 2 (.b6 3 dz ht l) j (.h0 u)<|I 11<|eW l[k] (aO h) j<|I 4 ?_;by_cases aU:l[k].cr.length<=200
  case neg=>
   exact cM 52<|I 15<|bp (bad<|a5 λg=>aU<|g.2 _<|hv h)
  refine cI 52<|e5 2 (.cd 3 dz ht l) rfl .cd<|I 11<|bB [0] (k+1) ⟨by show l.length-(k+1)<l.length-k;omega,h,λs hm=>?_⟩ bk;rw[hR h]at hm;rcases gA.1 hm with hm|hm
  .exact E s hm
  .rw[gC]at hm;rw[hm];exact aU
 rintro⟨⟩ E;have bD:∀{e:Int},hf p.ins.length l= .error e->iL p b1 l=([],e):=λh=>by rw[o];unfold py;rw[aD ⟨B,E⟩,h]
 refine I 7<|iI (L:=Unit) (λ_=>∃xs,hf p.ins.length l= .ok xs) (λ_=>⟨[.c 27<|g4 p],1,[(2,.cd 3 dz ht l),(3,.p 0 0),(9,.b6 6 eH kx V)]⟩) ?_ ?_
 .refine eS (L:=Nat) (λk=>k<=l.length/\∀s∈l.take k,jY p.ins.length s=0) (λ(k:Nat)=>⟨[.c 27<|g4 p],1,[(2,.cd 3 dz ht l),(3,.p 0 0),(9,.b6 6 eH kx V),(11,.aa (k:Nat))]⟩) (λk=>l.length-k) [0] 0 ⟨c8 _,λs h=>by simp at h⟩ ?_;rintro(k:Nat) ⟨bh,au⟩;have a4:=aah bh au;refine I 7 ?_;by_cases h:k<l.length
  case neg=>
   exact cI 56<|I 7<|dD [0] () (a4.2 R)
  have u:l≠[]:=λe=>by exact apW
  have hm:=hv h;have al:=aG _ hm;refine cM 56<|e5 2 (.b6 3 dz ht l) j (.h0 u)<|I 12<|fy l[k] (aO h) j<|I 1<|ca aad (p,l[k]) ⟨w,al.1,al.2.1,ch (E _ hm) ai⟩<|I 7 ?_;by_cases aI:jY p.ins.length l[k]=0
  case neg=>
   exact v1 66 (show jY p.ins.length l[k]≠0 from aI)<|I 16<|bp (bad<|bD<|a4.1 h aI)
  refine v0 66 (show¬(jY p.ins.length l[k]≠0)fromλg=>g aI) ?_;refine e5 2 (.cd 3 dz ht l) rfl .cd<|I 11<|bB [0] (k+1) ⟨by show l.length-(k+1)<l.length-k;omega,h,λs aj=>?_⟩ bk;rw[hR h]at aj;rcases gA.1 aj with aj|aj
  .exact au s aj
  .rw[gC]at aj;rw[aj];exact aI
 rintro⟨⟩ ⟨aF,aC⟩;have bf:ke V [] aF=none->iL p b1 l=([],3):=λh=>by exact asa
 have bS:∀{S},ke V [] aF=some S->iL p b1 l=(jm p.ins.length S,0):=λ{S} h=>by exact asa
 have bI:=HJ (λs hm=>⟨(aG s hm).1,(aG s hm).2.2,E s hm⟩) aC;refine I 12<|e5 13 (dT p.ins.length []) rfl .nl<|eS (L:=Nat×Poly×ac hP) (λ(i,S,Z)=>i<=l.length/\hf p.ins.length (l.drop i)= .ok Z/\(∀y∈Z,p4 p.ins.length y)/\ke V [] aF=ke V S Z/\eM 200 16 (2+i*1608409) S/\mO p.ins.length S) (λ((i:Nat),(S:Poly),_)=>⟨[.c 27<|g4 p],1,[(2,.cd 3 dz ht l),(3,.p 0 0),(9,.b6 6 eH kx V),(13,dT p.ins.length S),(14,.aa (i:Nat))]⟩) (λx=>l.length-x.1) [0] (0,[],aF) ⟨c8 _,aC,bI,j,rF eM.nil ai ai ai,Dl _⟩ ?_;rintro⟨i,S,Z⟩ ⟨af,v,aZ,A,ae,a8⟩;refine I 7 ?_;by_cases h:i<l.length
 case neg=>
  rw[kX R]at v;have v:Z=[]:=by
   have v:Except.ok []=Except.ok Z:=v;cases v;rfl
  subst v;have bM:=bS<|A.trans j;refine cI 71<|I 11<|aS Z' (p.ins.length,S) ⟨w,λq E=>eL (ae.b q E) R,ch ae.l ai⟩ ?_;refine I 5<|bp ?_;show bz _ (.bc [.b6 2 cV nm (iL p b1 l).1,.aa (iL p b1 l).2]);rw[bM];exact .refl _
 have u:l≠[]:=λe=>by exact apW
 have hm:=hv h;have al:=aG _ hm;rw[fj h]at v;obtain⟨y,Z,rfl,aR,bR⟩:=an8 v;have bQ:=aZ y hT;obtain⟨a0,a2,aP⟩:=an9 aR;obtain⟨c,z,f⟩:=y;obtain⟨D,W,bw,bA⟩:=bQ;dsimp only at D W bw bA a0 a2 aP;subst a2;have ay:mO p.ins.length f:=aai List.Pairwise.nil (Dl _) aP;have aN:ld V ⟨c,l[i].gL,f⟩=none->bz (.bc [.nl,.aa 3]) (Od.res (p,b1,l)):=λg=>bad<|bf<|A.trans<|Zs g;refine cM 71<|e5 2 (.b6 3 dz ht l) j (.h0 u)<|I 11<|eW l[i] (aO h) j<|I 2<|aS S' (p.ins.length,l[i].cr,f) ⟨w,aP,E _ hm,al.2.1,al.2.2⟩<|I 7 ?_;have O:=D.ek D;have aB:=N9 ay ay;refine aS H7 (p.ins.length,1002,1002,f,f) ⟨w,oO D ay,oO D ay,Al D ai,Al D ai,ai,by have:=D.l;omega,ch D.l ai,ch D.l ai⟩ ?_;generalize aK:ek (gy f f)=g at *;refine aJ 82 (dT p.ins.length g) j (by rw[<-aK])<|I 7<|aS Dk (p.ins.length,f) ⟨w,Ia D ay ai,ch D.l ai⟩ ?_;by_cases f0:gM f=true
 case neg=>
  exact aJ 84 (.b true) j (by show ag.b (!gM f)=_;rw[DW _ |>.mp f0];rfl)<|I 20<|bp (aN<|by unfold ld;rw[av f0])
 refine aJ 84 (.b false) j (by show ag.b (!gM f)=_;rw[f0];rfl)<|I 4<|aS Dk (p.ins.length,g) ⟨w,Ia O aB ai,ch O.l ai⟩ ?_;by_cases ah:gM g=true
 case neg=>
  exact aJ 87 (.b true) j (by show ag.b (!gM g)=_;rw[DW _ |>.mp ah];rfl)<|I 17<|bp (aN<|by unfold ld;rw[aD f0];dsimp only;rw[aK,av ah])
 refine aJ 87 (.b false) j (by show ag.b (!gM g)=_;rw[ah];rfl) ?_;have O:=O.fit ah;refine I 10<|eW l[i] (aO h) j<|I 12<|gZ (L:=Poly) (λa'=>(eM 800 18 1608158 a'/\mO p.ins.length a')/\ld V ⟨c,l[i].gL,f⟩=if gM a'=true then some a' else none) (λa'=>⟨[.c 27<|g4 p],1,[(2,.b6 3 dz ht l),(3,.p 0 0),(9,.b6 6 eH kx V),(13,dT p.ins.length S),(14,.aa (i:Nat)),(16,dT p.ins.length a')]⟩) ?_ ?_
 .by_cases ar:0<=l[i].gL
  .obtain⟨m,bq⟩:=Iu ar;have a3:m<p.ins.length:=by omega
   have aM:m<V.length:=R
   have C:=bu _<|hv aM;have ad:=eM.var m;have ao:mO p.ins.length [(aE.var m,(1:Rat))]:=λq E=>by rw[gC]at E;rw[E];exact anJ a3
   have bo:cq 250 (-V[m].1):=GW C.1;have au:=eM.nil.put ai xX bo;have bt:=eM.nil.put ai xX C.1;have F:=eM.nil.put ai xX C.2;have bG:=H9 (x:= -V[m].1) List.Pairwise.nil (Dl p.ins.length)<|H6 _;have bH:=H9 (x:=V[m].1) List.Pairwise.nil (Dl p.ins.length)<|H6 _;have b':=H9 (x:=V[m].2) List.Pairwise.nil (Dl p.ins.length)<|H6 _;have T:=ad.oM bt ai ai Ai;have N:=F.oM ad ai ai Ai;have bd:=N8 (x:= -1) ad.s ao bH;have bb:=N8 (x:= -1) F.s b' ao;have bF:=amC (x:=V[m].1) ad.s ad.z;have bE:=Zl (c:= -1) F.s F.z ad.s;have aA:=T.ek N;have ba:=N9 bd bb;have ab:=O.ek aA;have ak:=N9 aB ba;refine v1 95 (show l[i].gL>=0 from ar)<|aJ 17 (.aa (m:Nat)) j (congrArg (ag.aa) bq)<|I 5<|aS J' (p,m) ⟨w,a3⟩<|I 7<|fy V[m] (aO aM) j<|I 2<|ca G4 V[m].1 az<|I 1<|ca NZ (p,-V[m].1) ⟨w,eL bo⟩<|I 1<|ca H5 (p.ins.length,2,253,[(aE.var m,1)],dc [] aE.zero<|-V[m].1) ⟨oO ad ao,oO au bG,ai,ai,ai,by have:=au.l;have:=ad.l;omega⟩<|I 8<|fy V[m] (aO aM) j<|I 2<|ca NZ (p,V[m].2) ⟨w,eL C.2⟩<|ca vm (-1:Int) aqq<|I 1<|ca NX (p.ins.length,2,2,[(aE.var m,1)],-1) ⟨oO ad ao,Ai,ai,ai,by have:=ad.l;omega⟩ ?_ (he:=by exact⟨.refl _,.of<|by show c0 (mkRat (-1) 1)=c0 (-1);rw[show mkRat (-1) 1=(-1:Rat) by decide +kernel],az⟩);have bP:=kg.nil.oM (oO ad ao) (c5 _) ai Ai 1;refine ca H5 (p.ins.length,253,7,dc [] aE.zero V[m].2,dS [] (-1) [(aE.var m,1)]) ⟨oO F b',bP,ai,ai,ai,by have:=F.l;have:=C5 (x:= -1) [(aE.var m,(1:Rat))] [];have Y:([(aE.var m,(1:Rat))]:Poly).length=1:=rfl;have aU:([]:Poly).length=0:=rfl;omega⟩<|I 7<|aS H7 (p.ins.length,258,258,dS [(aE.var m,1)] (-1)<|dc [] aE.zero V[m].1,dS (dc [] aE.zero V[m].2) (-1) [(aE.var m,1)]) ⟨w,oO T bd,oO N bb,Al T ai,Al N ai,ai,by have:=N.l;omega,ch T.l ai,ch N.l ai⟩ (aS H7 (p.ins.length,401002,1036,g,ek<|gy (dS [(aE.var m,1)] (-1)<|dc [] aE.zero V[m].1)<|dS (dc [] aE.zero V[m].2) (-1) [(aE.var m,1)]) ⟨w,oO O aB,oO aA ba,Al O ai,Al aA ai,ai,by have:=aA.l;omega,ch O.l ai,ch aA.l ai⟩<|I 2<|dD [0] _ ⟨⟨rF ab ai ai ai,ak⟩,?_⟩) (he:=by exact⟨.of<|congrArg (dT p.ins.length) bF,.of<|congrArg (dT p.ins.length) bE,az⟩);have bC:V.getD m (0,0)=V[m]:=by rw[ue,vK aM];rfl
   unfold ld;dsimp only;rw[aD f0,aK,aD ah,aD ar,bq,vP,bC]
  .exact v0 95 (show¬l[i].gL>=0 from ar)<|I 2<|dD [0] g ⟨⟨rF O ai ai ai,aB⟩,by unfold ld;dsimp only;rw[aD f0,aK,aD ah,av ar,aD ah]⟩
 rintro a' ⟨⟨ab,ak⟩,aH⟩;refine I 4<|aS Dk (p.ins.length,a') ⟨w,Ia ab ak ai,ch ab.l ai⟩ ?_;by_cases G:gM a'=true
 case neg=>
  exact aJ 126 (.b true) j (by show ag.b (!gM a')=_;rw[DW _ |>.mp G];rfl)<|I 16<|bp (aN<|aH.trans<|av G)
 refine aJ 126 (.b false) j (by show ag.b (!gM a')=_;rw[G];rfl) ?_;rw[aD G]at aH;replace ab:=ab.fit G;refine I 9<|eW l[i] (aO h) j<|I 2<|aS vt l[i].b3 (ch al.1 ai)<|aJ 133 (.bc [c0 c,.aa 0]) j (Nm a0)<|I 13<|aS NX (p.ins.length,1608158,250,a',c) ⟨oO ab ak,W,ai,ai,ch ab.l ai⟩ ?_;have bN:kg p.ins.length 1608411 (dS [] c a'):=by
  have:=kg.nil.oM (oO ab ak) (c5 _) ai W a'.length;rw[mS]at this;exact this
 have bO:=C5 (x:=c) a' [];have bW:=Zl (c:=c) ae.s ae.z ab.s;have aW:=ae.oM ab R ai W;have a7:=N8 (x:=c) ae.s a8 ak;refine aS H5 (p.ins.length,2+i*1608409,1608411,S,dS [] c a') ⟨oO ae a8,bN,R,ai,R,by have:=ae.l;have:=ab.l;rw[Az]at bO;omega⟩<|aJ 140 (dT p.ins.length<|dS S c a') j (congrArg (dT p.ins.length) bW)<|I 6<|aS Dk (p.ins.length,dS S c a') ⟨w,Ia aW a7 ai,ch aW.l ai⟩ ?_;by_cases r:gM (dS S c a')=true
 case neg=>
  exact aJ 142 (.b true) j (by show ag.b (!gM (dS S c a'))=_;rw[DW _ |>.mp r];rfl)<|I 15<|bp (bad<|bf<|A.trans<|Zr aH j r)
 exact aJ 142 (.b false) j (by show ag.b (!gM (dS S c a'))=_;rw[r];rfl)<|e5 2 (.cd 3 dz ht l) rfl .cd<|I 11<|bB [0] (i+1,dS S c a',Z) ⟨by show l.length-(i+1)<l.length-i;omega,h,bR,λy aR=>aZ y<|fq _ aR,A.trans<|Zq aH j r,rF (aW.fit r) (c5 _) (c5 _) R,a7⟩ bk
end Go.bC.dg
namespace Go.bC.dg
open Go.bC
set_option maxRecDepth 100000
set_option maxHeartbeats 4000000
def nX(l:ac oI):Nat:=(l.map λx=>x.bm.length+x.af.length).sum
def mc(l:ac g3):Nat:=(l.map λn=>n.v.length).sum
def vG(p:dX):Prop:=100<(p.bS.length:Int)\/100<(p.ins.length:Int)\/100<(p.bT.length:Int)\/100<(p.hc.length:Int)\/2000<((nX p.ins+mc p.bT:Nat):Int)
instance(p:dX):Decidable (vG p):=by unfold vG;infer_instance
def Dm(p:dX):Prop:=(∀x∈p.ins,x.bm.length<=140737488355328/\x.af.length<=140737488355328)/\∀n∈p.bT,n.v.length<=140737488355328
def Ih:df where
 L:=dX
 args:=λp=>[iy p]
 pre:=Dm
 res:=λp=>.b<|decide (vG p)
def aoh:bl 129 Ih:=by
 refine bL [] Tq.1 ?_;intro(p:dX) ⟨g,m⟩ H aq;have E:vG p->bz (.b true) (Ih.res p):=λh=>.of<|bK (cm h).symm;have no:¬vG p->bz (.b false) (Ih.res p):=λh=>.of<|bK (cp h).symm;refine I 13 ?_;by_cases Y:100<(p.bS.length:Int)
 .exact v1 9 Y<|k5 (E as4)
 refine v0 9 Y<|I 9 ?_;by_cases G:100<(p.ins.length:Int)
 .exact v1 14 G<|k5 (E<|.inr<|.inl G)
 refine v0 14 G<|I 10 ?_;by_cases A:100<(p.bT.length:Int)
 .exact v1 20 A<|k5 (E<|.inr<|.inr<|.inl A)
 refine v0 20 A<|I 10 ?_;by_cases T:100<(p.hc.length:Int)
 .exact v1 26 T<|k5 (E<|.inr<|.inr<|.inr<|.inl T)
 refine v0 26 T<|rf (L:=Nat×Nat) (λ(k,a)=>k<=p.ins.length/\a<=300000000000000*k/\a+nX (p.ins.drop k)=nX p.ins) (λ(k,a)=>⟨[.c 27<|g4 p],1,[(1,.p 0 0),(3,.aa (a:Int)),(4,.aa (k:Int))]⟩) (λq=>p.ins.length-q.1) [0] (0,0) ⟨c8 _,c8 _,hU _⟩ ?_;rintro⟨k,a⟩ ⟨N,o,Z⟩;refine I 8 ?_;by_cases aW:k<p.ins.length
 .refine cM 32 ?_;obtain⟨S,r⟩:=g _<|dH aW;rw[fj aW]at Z;have Z:a+((p.ins[k].bm.length+p.ins[k].af.length)+nX (p.ins.drop<|k+1))=nX p.ins:=Z;exact I 12<|fy p.ins[k] aqB j<|I 4 (ww 43 ((a+p.ins[k].bm.length:Nat):Int)<|I 3<|fy p.ins[k] aqB j<|I 4 (ww 51 ((a+p.ins[k].bm.length+p.ins[k].af.length:Nat):Int)<|I 7<|cj 34 ((k+1:Nat):Int)<|I 2<|iV [0] (k+1,a+p.ins[k].bm.length+p.ins[k].af.length) ⟨aW,R,R⟩))
 refine cI 32 ?_;rw[kX R]at Z;have Z:a=nX p.ins:=Z;have u:nX p.ins<=30000000000000000:=R
 rw[Z];refine rf (L:=Nat×Nat) (λ(k,a)=>k<=p.bT.length/\a<=30000000000000000+300000000000000*k/\a+mc (p.bT.drop k)=nX p.ins+mc p.bT) (λ(k,a)=>⟨[.c 27<|g4 p],1,[(1,.p 0 0),(3,.aa (a:Int)),(5,.aa (k:Int))]⟩) (λq=>p.bT.length-q.1) [0] (0,nX p.ins) ⟨c8 _,R,j⟩ ?_;rintro⟨k,a⟩ ⟨N,o,Z⟩;refine I 8 ?_;by_cases aW:k<p.bT.length
 .refine cM 56 ?_;have S:=m _<|dH aW;rw[fj aW]at Z;have Z:a+(p.bT[k].v.length+mc (p.bT.drop<|k+1))=nX p.ins+mc p.bT:=Z;exact I 12<|eW p.bT[k] aqB j<|I 4<|cj 67 ((a+p.bT[k].v.length:Nat):Int)<|I 7<|cj 58 ((k+1:Nat):Int)<|I 2<|iV [0] (k+1,a+p.bT[k].v.length) ⟨aW,R,R⟩
 refine cI 56 ?_;rw[kX R]at Z;have Z:a=nX p.ins+mc p.bT:=Z;rw[Z];refine I 12 ?_;by_cases C:2000<((nX p.ins+mc p.bT:Nat):Int)
 .exact v1 69 C<|k5 (E<|.inr<|.inr<|.inr<|.inr C)
 .exact v0 69 C<|k5 (no λh=>h.elim Y λh=>h.elim G λh=>h.elim A λh=>h.elim T C)
theorem aas:∀{l:ac oI} {x:oI},x∈l->x.bm.length+x.af.length<=nX l
 |y::l,x,h=>by
  show _<=(y.bm.length+y.af.length)+nX l;obtain rfl|h:=fh.1 h
  .omega
  .have:=aas h;omega
theorem aat:∀{l:ac g3} {x:g3},x∈l->x.v.length<=mc l
 |y::l,x,h=>by
  show _<=y.v.length+mc l;rcases fh.1 h with rfl|h
  .omega
  .have:=aat h;omega
def aau{p:dX}(h:¬vG p):vF p:=by
 have C:¬2000<((nX p.ins+mc p.bT:Nat):Int):=λD=>h<|.inr<|.inr<|.inr<|.inr D;exact asn asn
def vH(p:dX):Int:=if(ew p).2.2=0 then 7 else(ew p).2.2
def aav:df where
 L:=dX
 args:=λp=>[iy p,.aa<|-1]
 pre:=vF
 res:=λp=>.bc [.aa 0,.aa<|vH p]
def aoi:bl 130 aav:=by
 refine bL [(35,Oc)] VI.1 ?_;intro p hp H aq;refine I 10<|aS aaq p hp<|aJ 8 (.aa (ew p).2.2) j j<|I 8 ?_;by_cases F:(ew p).2.2=0
 .exact cM 10<|I 5<|cM 13<|I 19<|cM 20<|u6 (by show _=ag.bc [.aa 0,.aa<|vH p];unfold vH;rw[aD F])
 .exact cI 10<|I 18<|cM 20<|u6 (by show _=ag.bc [.aa 0,.aa<|vH p];unfold vH;rw[av F])
def vI(p:dX):Prop:=vG p\/400<(mc p.bT:Int)
variable{l:ac dz}{α:Type}{k n:Nat}{p:dX}{b1:ac e1}
instance(p:dX):Decidable (vI p):=by unfold vI;infer_instance
def Oe:df where
 L:=dX
 args:=λp=>[.agg<|g4 p++[.nl,.aa<|-1]]
 pre:=Dm
 res:=λp=>.b<|decide (vI p)
theorem aoj:bl 68 Oe:=by
 refine bL [(129,Ih),(130,aav)] UI.1 ?_;intro(p:dX) hp H aq;have E:vI p->bz (.b true) (Oe.res p):=λh=>.of<|bK (cm h).symm;refine I 11<|aS aoh p hp ?_;by_cases Y:vG p
 .exact cl 10 (bK<|cm Y)<|k5 (E as4)
 refine cl 10 (bK<|cp Y) ?_;have u:=aau Y;have B:¬100<(p.bT.length:Int):=λh=>Y<|.inr<|.inr<|.inl h;refine I 9<|v0 15 (show¬(20:Int)<0 by decide)<|rf (L:=Nat×Nat) (λ(k,a)=>k<=p.bT.length/\a<=2000*k/\a+mc (p.bT.drop k)=mc p.bT) (λ(k,a)=>⟨[.c 137<|g4 p++[ag.nl,ag.aa<|-1]],1,[(1,.p 0 0),(3,.aa (a:Int)),(4,.aa (k:Int))]⟩) (λq=>p.bT.length-q.1) [0] (0,0) ⟨c8 _,c8 _,hU _⟩ ?_;rintro⟨k,a⟩ ⟨N,C,Z⟩;refine I 9 ?_;by_cases aW:k<p.bT.length
 .refine cM 22 ?_;have S:=u.2 _<|dH aW;rw[fj aW]at Z;have Z:a+(p.bT[k].v.length+mc (p.bT.drop<|k+1))=mc p.bT:=Z;exact I 13<|eW p.bT[k] aqB j<|I 4<|cj 34 ((a+p.bT[k].v.length:Nat):Int)<|I 7<|cj 24 ((k+1:Nat):Int)<|I 2<|iV [0] (k+1,a+p.bT[k].v.length) ⟨aW,R,R⟩
 refine cI 22 ?_;rw[kX R]at Z;have Z:a=mc p.bT:=Z;rw[Z];refine rf (L:=Unit) (λ_=>True) (λ_=>⟨[.c 137<|g4 p++[ag.nl,ag.aa<|-1]],1,[(1,.p 0 0),(3,.aa (mc p.bT:Int)),(5,.aa 0)]⟩) (λ_=>0) [0] () az ?_;intro _ _;refine I 8<|v0 39 (show¬(0:Int)<0 by decide)<|I 13 ?_;by_cases g:400<(mc p.bT:Int)
 .exact v1 50 g<|k5 (E<|.inr g)
 refine v0 50 g ?_;have W:¬vH p=0:=by
  unfold vH;split
  .decide
  .assumption
 exact I 11<|aS aoi p u<|aJ 56 (.bc [.aa 0,.aa<|vH p]) j j<|I 11<|v0 60 W<|k5 ((λh=>.of<|bK (cp h).symm) λh=>h.elim Y g)
def aaw:df where
 L:=dX
 args:=λp=>[iy p]
 pre:=Dm
 res:=λp=>.b<|decide (vI p)
def aok:bl 18 aaw:=by
 apply bL [(68,Oe)] Vo.1;intro p hp H aq;exact I 10<|aS aoj p hp<|Go.bC.SZ
def wr(n:Int):Int:=IntKind.i64.wrap n
def rI(n:Int)(t:cV):Int:=wr<|wr (wr (n+t.b3.length)+t.dO.length)+1
def mP(n:Int)(s:dz):Int:=(s.cr.take 1000).foldl rI<|wr<|wr (n+s.b3.length)+1
def rJ(l:ac dz):Int:=(l.take 1000).foldl mP 0
def tX(s:dz):Bool:=decide (60<(s.cr.length:Int))
def qn(l:ac dz):Bool:= !((l.take 31).any tX)&&decide ((l.length:Int)<=30)
theorem Ii{l:ac α}(h:k<l.length)(aj:k<n):(l.take n).drop k=l[k]::(l.take n).drop (k+1):=by
 have D:k<(l.take n).length:=by grind
 rw[Am D,Ip]
theorem vJ{l:ac α}(h:¬(k<l.length/\k<n)):(l.take n).drop k=[]:=kX apt
def aax:bl 20 (bV λ(l:ac dz)=>([.cd 3 dz ht l],True,.b<|qn l)):=by
 refine bL [] TL.1 ?_;intro l _ H aq;refine I 12<|eS (λk=>((l.take 31).drop k).any tX=(l.take 31).any tX) (λ(k:Nat)=>⟨[],0,[(0,.cd 3 dz ht l),(3,.aa (k:Int))]⟩) (λk=>31-k) [] 0 j ?_;rintro(k:Nat) Z;refine I 7 ?_;by_cases aW:k<l.length
 .refine cM 7<|I 5 ?_;by_cases r:k<31
  .refine cM 10 ?_;rw[Ii aW r]at Z;have Z:(tX l[k]||((l.take 31).drop<|k+1).any tX)=(l.take 31).any tX:=Z;refine I 12<|Cw l[k] aqB j<|I 4 ?_;by_cases hp:60<(l[k].cr.length:Int)
   .refine v1 20 hp ?_;have E:tX l[k]=true:=cm hp;rw[E]at Z;exact I 14<|cC (by show ag.b false= .b (qn l);unfold qn;rw[<-Z];rfl)
   .refine v0 20 hp ?_;have E:tX l[k]=false:=cp hp;rw[E]at Z;exact I 9<|cj 13 ↑(k+1)<|I 2<|iV [] (k+1) Z
  .refine cI 10 ?_;rw[vJ R]at Z;exact I 18<|cC ard
 .refine cI 7 ?_;rw[vJ R]at Z;exact I 21<|cC ard
def aay:bl 21 (bV λ(l:ac dz)=>([.cd 3 dz ht l],True,.aa<|rJ l)):=by
 refine bL [] TM.1 ?_;intro(l:ac dz) _ H aq;refine I 17<|eS (L:=Nat×Int) (λ(k,n)=>((l.take 1000).drop k).foldl mP n=rJ l) (λ(k,n)=>⟨[],0,[(0,.cd 3 dz ht l),(3,.aa n),(4,.aa (k:Int))]⟩) (λq=>1000-q.1) [] (0,0) j ?_;rintro⟨k,n⟩ Z;have fin:((l.take 1000).drop k=[])->n=rJ l:=λh=>by
  have Z:((l.take 1000).drop k).foldl mP n=rJ l:=Z;rw[h]at Z;exact Z
 refine I 7 ?_;by_cases aW:k<l.length
 .refine cM 9<|I 5 ?_;by_cases N:k<1000
  .refine cM 12 ?_;have Z:((l.take 1000).drop k).foldl mP n=rJ l:=Z;rw[Ii aW N]at Z;have Z:((l.take 1000).drop<|k+1).foldl mP (mP n l[k])=rJ l:=Z;refine I 13<|Cw l[k] aqB j<|I 14<|eS (L:=Nat×Int) (λ(J,m)=>((l[k].cr.take 1000).drop J).foldl rI m=mP n l[k]) (λ(J,m)=>⟨[],0,[(0,.cd 3 dz ht l),(3,.aa m),(4,.aa (k:Int)),(5,.aa (J:Int))]⟩) (λq=>1000-q.1) [] (0,wr<|wr (n+l[k].b3.length)+1) j ?_;rintro⟨J,m⟩ V;have V:((l[k].cr.take 1000).drop J).foldl rI m=mP n l[k]:=V;have up:((l[k].cr.take 1000).drop J=[])->m=mP n l[k]:=λh=>by rw[h]at V;exact V
   refine I 6<|Cw l[k] aqB j<|I 4 ?_;by_cases B:J<l[k].cr.length
   .refine cM 32<|I 5 ?_;by_cases b:J<1000
    .refine cM 35 ?_;rw[Ii B b]at V;have V:((l[k].cr.take 1000).drop<|J+1).foldl rI (rI m l[k].cr[J])=mP n l[k]:=V;exact I 12<|Gi l[k] aqB j<|I 3<|Gi l[k].cr[J] (aO B) j<|I 6<|Gi l[k] aqB j<|I 3<|Gi l[k].cr[J] (aO B) j<|I 12<|cj 38 ((J+1:Nat):Int)<|I 2<|iV [] (J+1,rI m l[k].cr[J]) V
    .refine cI 35 ?_;rw[up<|vJ R];exact I 13<|cj 15 ((k+1:Nat):Int)<|I 2<|iV [] (k+1,mP n l[k]) Z
   .refine cI 32 ?_;rw[up<|vJ R];exact I 16<|cj 15 ((k+1:Nat):Int)<|I 2<|iV [] (k+1,mP n l[k]) Z
  .refine cI 12 ?_;rw[fin<|vJ R];exact I 16<|eD
 .refine cI 9 ?_;rw[fin<|vJ R];exact I 19<|eD
def pA(s:e1):Bool:=decide (300<(s.1.length:Int))||decide (300<(s.2.length:Int))
def qo(l:ac e1):Bool:= !((l.take 21).any pA)&&decide ((l.length:Int)<=20)
def aaz:df:=bV λ(l:ac e1)=>([.cd 2 e1 mL l],True,.b<|qo l)
def aaA:bl 19 aaz:=by
 refine bL [] TK.1 ?_;intro(l:ac e1) _ H aq;refine I 12<|eS (L:=Nat) (λk=>((l.take 21).drop k).any pA=(l.take 21).any pA) (λ(k:Nat)=>⟨[],0,[(0,.cd 2 e1 mL l),(3,.aa (k:Int))]⟩) (λk=>21-k) [] 0 j ?_;rintro(k:Nat) Z;refine I 7 ?_;by_cases aW:k<l.length
 .refine cM 7<|I 5 ?_;by_cases r:k<21
  .refine cM 10 ?_;rw[Ii aW r]at Z;have Z:(pA l[k]||((l.take 21).drop<|k+1).any pA)=(l.take 21).any pA:=Z;have bad:pA l[k]=true->bz (.b false) (aaz.res l):=λE=>by
    rw[E,Bool.true_or]at Z;exact .of<|by show ag.b false= .b (qo l);unfold qo;rw[<-Z];rfl
   refine I 12<|Cw l[k] aqB j<|I 4 ?_;by_cases hp:300<(l[k].1.length:Int)
   .exact v1 20 hp<|I 23<|bp (bad<|by unfold pA;rw[cm hp];rfl)
   .refine v0 20 hp<|I 6<|Cw l[k] aqB j<|I 8 ?_;by_cases g:300<(l[k].2.length:Int)
    .exact v1 28 g<|I 15<|bp (bad<|by unfold pA;rw[cm g,DX])
    .refine v0 28 g ?_;have E:pA l[k]=false:=by unfold pA;rw[cp hp,cp g];rfl
     rw[E,Bool.false_or]at Z;exact I 10<|cj 13 ((k+1:Nat):Int)<|I 2<|iV [] (k+1) Z
  .refine cI 10 ?_;rw[vJ R]at Z;exact I 18<|cC are
 .refine cI 7 ?_;rw[vJ R]at Z;exact I 21<|cC are
def Dn:dX×ac e1×ac dz->ac ag:=λ(p,b1,l)=>g4 p++[.cd 2 e1 mL b1,.cd 3 dz ht l]
def tY:dX×ac e1×ac dz->Bool:=λ(p,b1,l)=>decide (vI p)|| !qo b1|| !qn l||decide (3000<rJ l)
def aaB:df:=bV λ(x:dX×ac e1×ac dz)=>([.agg<|Dn x],Dm x.1,.b<|tY x)
def aaC:bl 5 aaB:=by
 refine bL [(18,aaw),aaA,aax,aay] c2.1 ?_;intro⟨p,b1,l⟩ hp H aq;have E:tY (p,b1,l)=true->bz (.b true) (aaB.res (p,b1,l)):=λh=>.of<|bK h.symm;refine I 10<|aS aok p hp ?_;by_cases Y:vI p
 .exact v1 5 Y<|I 22<|bp (E<|by unfold tY;dsimp only;rw[cm Y];rfl)
 refine v0 5 Y<|I 6<|aS aaA b1 az ?_;cases G:qo b1 with
 |false=>
  exact aJ 9 (.b false) j (bK G)<|I 19<|bp (E<|by unfold tY;dsimp only;rw[G,Dv,DX];rfl)
 |true=>
 refine aJ 9 (.b true) j (bK G)<|I 9<|aS aax l az ?_;cases A:qn l with
 |false=>
  exact aJ 15 (.b false) j (bK A)<|I 13<|bp (E<|by unfold tY;dsimp only;rw[A,Dv,DX];rfl)
 |true=>
 exact aJ 15 (.b true) j (bK A)<|I 9<|aS aay l az<|I 7<|cC (by show ag.b (decide (3000<rJ l))= .b (tY (p,b1,l));unfold tY;dsimp only;rw[G,A,cp Y];rfl)
def aaD:bl 9 (bV λ(l:ac cV)=>([.hq 2 cV h7 l,.b6 2 cV nm l],l.length<=1000/\∀t∈l,t.dO.length<=1000,.b true)):=by
 refine bL [Dj] oh.1 ?_;intro(l:ac cV) ⟨(O:l.length<=1000),(B:∀t∈l,t.dO.length<=1000)⟩ H aq;refine I 13<|v0 10 (iG (rfl:(l.length:Int)=l.length))<|I 12<|eS (L:=Nat) (λk=>k<=l.length) (λ(k:Nat)=>⟨[],0,[(0,.hq 2 cV h7 l),(1,.b6 2 cV nm l),(5,.aa (k:Int))]⟩) (λk=>l.length-k) [] 0 (c8 _) ?_;rintro(k:Nat) N;refine I 7 ?_;by_cases aW:k<l.length
 case neg=>
  exact cI 14<|I 14<|eD
 refine cM 14 ?_;have hm:=B _<|hv aW;exact I 11<|F5 17 (.b6 2 cV h7 l) j rfl .Fy<|fy l[k] aqB j<|I 4<|fy l[k] aqB j<|I 3<|dF 27 (.b false) j j (by show ag.b (!(l[k].b3==l[k].b3))=_;rw[beq_self_eq_true];rfl)<|I 6<|F5 29 (.b6 2 cV h7 l) j rfl .Fy<|fy l[k] aqB j<|I 11<|fy l[k] aqB j<|I 8<|dF 41 (.b false) j j (bK<|cp<|iG j)<|I 7<|F5 44 (.b6 2 cV h7 l) j rfl .Fy<|fy l[k] aqB j<|I 9<|fy l[k] aqB j<|I 5<|ca Dj (l[k].dO,l[k].dO) ⟨j,ch hm ai⟩ (aJ 54 (.aa 0) j (congrArg (ag.aa)<|H3 _)<|I 14<|bB [] (k+1) ⟨by show l.length-(k+1)<l.length-k;omega,aW⟩ bk) (he:=by exact⟨.refl _,.cd,az⟩)
def Dp:dX×ac e1×ac dz->Prop:=λ(p,b1,l)=>Dm p/\∀s∈l,s.b3.length<=140737488355328/\∀t∈s.cr,t.b3.length<=140737488355328/\t.dO.length<=140737488355328
def iw(t:cV):Nat:=t.b3.length+t.dO.length+1
def pB(s:dz):Nat:=s.b3.length+1+en (s.cr.map iw)
theorem Of{n:Int}(h:0<=n)(aI:n<=4611686018427387904):wr n=n:=gn R R
theorem aaE:∀{l:ac cV} {n:Nat},n+en (l.map iw)<=4611686018427387904->l.foldl rI (n:Int)=((n+en (l.map iw):Nat):Int)
 |[],n,_=>rfl
 |t::l,n,h=>by
  have h:n+(iw t+en (l.map iw))<=4611686018427387904:=h;have e:rI (n:Int) t=↑(n+iw t):=by
   rw[rI]
   grind [iw,Of]
  show l.foldl rI (rI n t)=((n+(iw t+en (l.map iw)):Nat):Int);rw[e,aaE R];omega
theorem aaF:∀{l:ac dz} {n:Nat},(∀s∈l,s.cr.length<=60)->n+en (l.map pB)<=4611686018427387904->l.foldl mP (n:Int)=((n+en (l.map pB):Nat):Int)
 |[],n,_,_=>rfl
 |s::l,n,hp,h=>by
  have h:n+(pB s+en (l.map pB))<=4611686018427387904:=h;have m:=hp s hT;have e:mP (n:Int) s=↑(n+pB s):=by
   unfold mP;unfold pB at h⊢;rw[gB R,Of (n:=n+s.b3.length) R R,Of R R,show n+s.b3.length+1=((n+s.b3.length+1:Nat):Int) by omega,aaE R];omega
  show l.foldl mP (mP n s)=((n+(pB s+en (l.map pB)):Nat):Int);rw[e,aaF (λt N=>hp t<|fq _ N) R];omega
theorem Og{α:Type}{f:α->Nat}:∀{l:ac α} {x:α},x∈l->f x<=en (l.map f)
 |y::l,x,h=>by
  show f x<=f y+en (l.map f);obtain rfl|h:=fh.1 h
  .omega
  .have:=Og (f:=f) h;omega
theorem aaG:∀l:ac cV,9*jl l<=en (l.map iw)+27*l.length
 |[]=>c5 _
 |t::l=>by
  have h:=aaG l
  grind [jl,iw,en]
theorem aol(h:qn l=true):l.length<=30/\∀s∈l,s.cr.length<=60:=by
 rw[qn]at h;rw[c1]at h;have Y:=iY h.2;refine⟨R,λs b=>?_⟩;have G:(l.take 31).any tX=false:=by grind
 rw[gB R,Iz]at G;have:¬60<(s.cr.length:Int):=λg=>(G s b)<|cm g;omega
theorem aom{l:ac e1}(h:qo l=true):l.length<=20/\∀s∈l,s.1.length<=300/\s.2.length<=300:=by
 rw[qo]at h;rw[c1]at h;have Y:=iY h.2;refine⟨R,λs b=>?_⟩;have G:(l.take 21).any pA=false:=by grind
 rw[gB R,Iz]at G;have A:=G s b;rw[pA]at A;exact⟨v7 λg=>A<|by rw[cm R];rfl,v7 λg=>A<|by rw[cm (show 300<(s.2.length:Int) by omega),DX]⟩
theorem aon(N:Dp (p,b1,l))(h:tY (p,b1,l)=false):
 vF p/\(b1.length<=20/\∀s∈b1,s.1.length<=300/\s.2.length<=300)/\l.length<=30/\∀s∈l,s.b3.length<=3000/\(∀t∈s.cr,t.b3.length<=3000)/\jl s.cr<=1000:=by
 have h:(decide (vI p)|| !qo b1|| !qn l||decide (3000<rJ l))=false:=h;rw[Dz,Dz,Dz]at h;obtain⟨⟨⟨Y,G⟩,A⟩,T⟩:=h;have Y:=of_decide_eq_false Y;have T:=of_decide_eq_false T;have G:=aom (l:=b1) apt;have A:=aol (l:=l) apt;have C:∀s∈l,pB s<=20000000000000000:=λs b=>by
  obtain⟨o,V⟩:=N.2 s b;have:=xU (B:=281474976710657) (l:=s.cr.map iw) λn aj=>by
   obtain⟨t,hm,rfl⟩:=da.1 aj;have:=V t hm;unfold iw;omega
  grind [pB]
 have j:=xU λn aj=>by
  obtain⟨s,hm,rfl⟩:=da.1 aj;exact C s hm
 rw[hI]at j;have Z:rJ l=↑(en<|l.map pB):=by
  have:=aaF (n:=0) A.2 R;rw[rJ,gB R]
  rwa [hU]at this
 refine⟨aau λg=>Y<|.inl g,G,A.1,λs b=>?_⟩;have m:=Og (f:=pB) b;have q:=A.2 s b;have C:=aaG s.cr
 grind [pB,en,iw,Og]
def aoo(j:∀s∈b1,s.1.length<=2000/\s.2.length<=2000)(aB:∀s∈l,s.b3.length<=3000/\(∀t∈s.cr,t.b3.length<=3000)/\jl s.cr<=1000):(iL p b1 l).1.length<=1000/\∀t∈(iL p b1 l).1,t.dO.length<=1000:=by
 have z:([]:ac cV).length<=1000/\∀t∈([]:ac cV),t.dO.length<=1000:=⟨ai,λt h=>by cases h⟩;rw[iL];split
 case isFalse=>exact z
 rename_i F;have w:=NV F;cases C:lM p.ins.length b1 with
 |error e=>exact z
 |ok V=>
  dsimp only;have⟨T,L⟩:=NU j C;cases E:py p.ins.length V l with
  |error e=>exact z
  |ok S=>
   unfold jm;refine⟨by rw[hI];exact ch (A' T L (λs hm=>⟨(aB s hm).1,(aB s hm).2.2⟩) E).l ai,λt N=>?_⟩;obtain⟨q,_,rfl⟩:=da.1 N;show(gO p.ins.length q.1).length<=1000;rw[sN _ w];omega
def Oh(G:bb->Prop)(D:∀{H B:bb},cH H B->G H->G B):df:=q5 G D λ(_:Unit)=>([],True,.b true)
def Oi(G:bb->Prop)(D:∀{H B:bb},cH H B->G H->G B):df where
 L:=dX×ac e1×ac dz
 args:=λx=>[.agg<|Dn x]
 pre:=Dp
 res:=λ_=>.b true
 hp:=G
 hm:=D
def aop{G:bb->Prop}{D:∀{H B:bb},cH H B->G H->G B}(Z:∀{H},G H->oJ H/\ni H)(E:et b5.ctx 6 (Oh G D).spec):et b5.ctx 3 (Oi G D).spec:=by
 refine Lb b5.eh ez (bD [aaC,(6,(Oh G D).spec),C',aar,aaD]) (a4:=a0.1) bu (λl=>ib j) ?_;intro⟨p,b1,l⟩ A H aq T;refine I 10<|aS aaC (p,b1,l) A.1 ?_;cases S:tY (p,b1,l)with
 |true=>
  exact aJ 8 (.b true) j (bK S)<|I 5<|aS E () az (I 5<|eD) (cK:=T)
 |false=>
 refine aJ 8 (.b false) j (bK S) ?_;obtain⟨N,⟨iG,v⟩,m,w⟩:=aon A S;have h:∀s∈b1,s.1.length<=2000/\s.2.length<=2000:=λs o=>⟨ch (v s o).1 ai,ch (v s o).2 ai⟩;have F:=aoo (p:=p) h w;obtain⟨⟨r,c⟩,g⟩:∃r,r=iL p b1 l:=dN;rw[<-g]at F;exact I 13<|aS C' (p,b1,l) ⟨N,h,w⟩ (aJ 17 (.bc [.hq 2 cV h7 r,.aa c]) j (by show ag.bc [.hq 2 cV h7 (iL p b1 l).1,.aa (iL p b1 l).2]=_;rw[<-g])<|I 15<|aS aar (p,b1,l) ⟨N,⟨h,R⟩,R,w⟩<|aJ 27 (.bc [.b6 2 cV nm r,.aa c]) j (by show ag.bc [.b6 2 cV nm (iL p b1 l).1,.aa (iL p b1 l).2]=_;rw[<-g])<|I 11<|aS aaD r F<|I 7<|cM 36<|I 3<|aS E () az (I 5<|eD) (cK:=T)) (cK:=Z T)
end Go.bC.dg
namespace Go.bC.dg
open Go.bC Go.bC.kL
set_option maxRecDepth 100000
theorem aaH{h:ao bx}{s:dv}:∀(os:ac (Nat×bx)),(∀U∈os,s.cB.get U.1=some U.1/\h.get U.1=some U.2/\wT U.2 U.2 s=some s)->y2 h os s=some s
 |[],_=>rfl
 |U::os,cK=>by
  obtain⟨aC,aI,A⟩:=cK U au;show bq (s.cB.get U.1) (λJ=>bq (h.get J) (λp=>bq (wT U.2 p s) (y2 h os) none) none) none=_;rw[aC,Sym.ed,aI,Sym.ed,A];exact aaH os λp hp=>cK p<|fq _ hp
theorem Ij{Q:Nat×bx->Prop}(bX:Q jw)(aI:Q cA)(j:Q dG)(T:Q gT)(u:Q nb):∀p∈k7.gs,Q p:=λp hp=>by
 have hp:p∈[jw,cA,dG,gT,nb]:=hp;simp at hp;rcases hp with rfl|rfl|rfl|rfl|rfl<;>assumption
def gv(H:bb):Prop:=∀p∈k7.gs,H p.1=some p.2
variable{H:bb}
def gv.up{j:bb}(h:cH H j)(O:gv H):gv j:=λp hp=>h _ _<|O p hp
def aaI:∀p∈k7.gs,k6.cB.get p.1=some p.1/\wT p.2 p.2 k6=some k6:=
 Ij ⟨bu,bu⟩ ⟨bu,bu⟩ ⟨bu,bu⟩ ⟨bu,bu⟩ ⟨bu,bu⟩
def aoq{s:dv}{gs:ac (Nat×bx)}{ax:Nat}{st:ak}{t:Bool}(aQ:s.aT<=ax)(h:y2 st.h gs s=some s):(⟨[],gs,[],.bool t,[],ax⟩:dr).app s [] st=some (.ret (.bool t) ⟨st.h,st.ae+(ax-s.aT)⟩ false):=by
 show bq (y2 st.h gs s) _ none=_;rw[h];show cond (Nat.beq s.aT<|Nat.add s.aT 0) (cond (Nat.ble s.aT ax) (fW (Nat.add st.ae<|Nat.sub ax s.aT) λn=>some<|dY.ret (.bool t) ⟨st.h,n⟩ false) none) none=_;rw[show Nat.beq s.aT (Nat.add s.aT 0)=true from kT _,show Nat.ble s.aT ax=true from Dr aQ];rw[fW,kT];rfl
def aor{st:ak}(h:∀p∈k7.gs,st.h.get p.1=some p.2):k7.app k6 [] st=some (.ret (.bool true) ⟨st.h,st.ae+(8180-k6.aT)⟩ false):=
 aoq (by exact ib bu)<|aaH k7.gs λU E=>⟨(aaI U E).1,h U E,(aaI U E).2⟩
def aos:et b5.ctx 6 (Oh gv gv.up).spec:=by
 rintro V st ⟨⟨l,H⟩,_,m,Z,T⟩;subst T;refine⟨.bool true,⟨st.h,st.ae+(8180-k6.aT)⟩,?_,?_⟩
 .rintro⟨q,B⟩ ⟨_,r,W,_⟩;have F:∀b,st.ae+(8180-k6.aT)<=b->st.h.get b=none:=λb C=>W.wf b R;exact ap2 ap2
 .intro g Y w A F;exact QL aki pk.1 pk.2.1 pk.2.2 (aor λp hp=>Z.le _ _<|m p hp) g Y w A F
theorem zx{H:bb}{k:f6}:∀l:ac Int,cG H (l.map λn=>.i k n) [] (l.map λn=>Value.int k n)
 |[]=>rfl
 |n::l=>⟨_,_,j,j,zx l⟩
def aot(h:gv H):ni H:=by
 refine⟨_,_,_,_,(h nb<|by show nb∈[jw,cA,dG,gT,nb];simp),λB=>?_⟩;have:=zx (H:=B) (k:=.u64)<|(List.range 20).map λk=>↑(10^k);exact this
def aou:ac Int:=Hu.flatMap λp=>[(p.1:Int),(p.2:Int)]
def aov(h:gv H):oJ H:=by
 exact arZ arZ
def aow:et b5.ctx 3 (Oi gv gv.up).spec:=aop (λh=>⟨aov h,aot h⟩) aos
