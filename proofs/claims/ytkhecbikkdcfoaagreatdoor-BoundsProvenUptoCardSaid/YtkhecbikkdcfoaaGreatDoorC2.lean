/- What the functions of the program and of the document compute, for every input, and the plain laws of it (part 2); conditions as in the statements. -/
import Derived.Test.YtkhecbikkdcfoaaGreatDoorC1
import Derived.Test.YtkhecbikkdcfoaaGreatDoorS3
import Derived.Test.YtkhecbikkdcfoaaGreatDoorS2
import Derived.Test.YtkhecbikkdcfoaaGreatDoorX
noncomputable section
set_option linter.all false
namespace Go.bI.ds
open Go.bI
set_option maxRecDepth 100000
set_option maxHeartbeats 4000000
def mS:ac ci:=[48,48,48,49,48,50,48,51,48,52,48,53,48,54,48,55,48,56,48,57,49,48,49,49,49,50,49,51,49,52,49,53,49,54,49,55,49,56,49,57,50,48,50,49,50,50,50,51,50,52,50,53,50,54,50,55,50,56,50,57,51,48,51,49,51,50,51,51,51,52,51,53,51,54,51,55,51,56,51,57,52,48,52,49,52,50,52,51,52,52,52,53,52,54,52,55,52,56,52,57,53,48,53,49,53,50,53,51,53,52,53,53,53,54,53,55,53,56,53,57,54,48,54,49,54,50,54,51,54,52,54,53,54,54,54,55,54,56,54,57,55,48,55,49,55,50,55,51,55,52,55,53,55,54,55,55,55,56,55,57,56,48,56,49,56,50,56,51,56,52,56,53,56,54,56,55,56,56,56,57,57,48,57,49,57,50,57,51,57,52,57,53,57,54,57,55,57,56,57,57]
def od:∀k,k<100->mS[2*k]? =some (UInt8.ofNat<|48+k/10)/\mS[2*k+1]? =some (UInt8.ofNat<|48+k%10)/\(mS.drop<|2*k).take 2=[UInt8.ofNat<|48+k/10,UInt8.ofNat<|48+k%10]:=by decide +kernel
def d36:ac ci:=[48,49,50,51,52,53,54,55,56,57,97,98,99,100,101,102,103,104,105,106,107,108,109,110,111,112,113,114,115,116,117,118,119,120,121,122]
def ajH:∀k,k<10->(d36.drop k).take 1=[UInt8.ofNat<|48+k]:=by decide +kernel
def ajI{n:Nat}(aE:10<=n)(aK:n<100):dec n=[n/10,n%10]:=by
 unfold dec;rw[au J,rS av J,rS av J,show n/10/10=0 by omega,iX,show n/10%10=n/10 by omega];rfl
def W9:b4 216 (cR λ(n:Nat)=>([.ae n],n<100,.s<|ez n)):=by
 refine cJ [] Ul.1 ?_;intro(n:Nat) (aj:n<100) H ax;refine U 12<|eC (λh=>?_) λh=>?_
 .have h:n<10:=by omega
  refine U 5<|b5 7 ((n+1:Nat):Int)<|tN [UInt8.ofNat<|48+n] ?_ (aI:=by rw[show n+1-n=1 by omega];exact ajH n h) (aD:=by show n+1<=36;omega);exact U 5<|bh (dc o o (.of<|by show ai.s _=ai.s (ez n);unfold ez;rw[ajs h];rfl))
 .refine U 6<|b5 10 ((2*n:Nat):Int)<|U 2<|b5 12 ((2*n:Nat):Int)<|U 1<|b5 13 ((2*n+2:Nat):Int)<|tN [UInt8.ofNat<|48+n/10,UInt8.ofNat<|48+n%10] ?_ (aI:=by rw[show 2*n+2-2*n=2 by omega];exact(od n aj).2.2) (aD:=by show 2*n+2<=200;omega);exact U 4<|bh (dc o o (.of<|by show ai.s _=ai.s (ez n);unfold ez;rw[ajI J aj];rfl))
def G6(n c2 j:Nat):ci:=UInt8.ofNat<|48+n/10^(c2-1-j)%10
structure ke(n c2 i:Nat)(l:ac ci)(u:Nat):Prop where
 u:u=n/10^(c2-i)
 len:l.length=24
 le:i<=c2
 nr:∀j,i<=j->j<c2->l[j]? =some (G6 n c2 j)
variable{u n k:Nat}{l:ac ci}{r c2 q:Nat}
def ke.two{i:Nat}(h:ke n c2 (i+2) l u)(Q:c2<=24):ke n c2 i ((l.set (i+1)<|UInt8.ofNat<|48+u%100%10).set i<|UInt8.ofNat<|48+u%100/10) (u/100):=by
 obtain⟨Y,G,C,N⟩:=h;have U:c2-(i+2)=c2-1-(i+1):=J
 have T:c2-1-i=c2-(i+2)+1:=J
 refine⟨?_,by simp[G],J,λj z V=>?_⟩
 .rw[Y,show c2-i=c2-(i+2)+2 by omega,nJ,ya]
 .rcases(show j=i\/j=i+1\/i+2<=j by omega)with rfl|rfl|h
  .rw[AD ep];unfold G6;rw[T,hZ,<-Nat.div_div_eq_div_mul];congr 2;omega
  .rw[nH J,AD J];unfold G6;rw[<-U];congr 2;omega
  .rw[nH J,nH J];exact N j h V
def ke.one(h:ke n c2 1 l u)(E:u<10):ke n c2 0 (l.set 0<|UInt8.ofNat<|48+u) 0:=by
 obtain⟨Y,G,C,N⟩:=h;refine⟨?_,by simp[G],J,λj z V=>?_⟩
 .rw[show c2-0=c2-1+1 by omega,hZ,<-Nat.div_div_eq_div_mul];omega
 .rcases(show j=0\/1<=j by omega)with rfl|h
  .rw[AD J];unfold G6;rw[show c2-1-0=c2-1 by omega,<-Y,hb E]
  .rw[nH J];exact N j h V
def ke.fin(h:ke n c2 0 l u)(bS:n≠0)(Q:c2=(b9 10 n).length)(e:c2<=24):l.take c2=ez n:=by
 obtain⟨Y,G,C,N⟩:=h;unfold ez dec;rw[au bS];apply pf;intro j;by_cases d:j<c2
 .rw[pe,aA d,N j (dg _) d];unfold oa;rw[we,List.getElem?_reverse J,<-Q,Mi av J];rfl
 .rw[td ep,td<|by rw[G0,yd];omega]
def xK(x:Nat):(2*(x%100)+1)%4294967296=2*(x%100)+1:=J
def vQ(h:u<1000000000):(u%100000000%4294967296=u%100000000)/\(u/100000000%18446744073709551616=u/100000000)/\(u%100000000/10000%4294967296=u/10000%10000)/\(u%100000000%10000=u%10000)/\(u%10000/100%4294967296*2%4294967296=2*(u/100%100))/\(u%10000%100*2%4294967296=2*(u%100))/\(u/10000%10000/100%4294967296*2%4294967296=2*(u/100/100/100%100))/\(u/10000%10000%100*2%4294967296=2*(u/100/100%100)):=by
 have O:u/10000=u/100/100:=J
 have N:u%100000000/10000=u/10000%10000:=J
 have f:∀x:Nat,x%10000/100%4294967296*2%4294967296=2*(x/100%100)/\x%10000%100*2%4294967296=2*(x%100):=λx=>J
 refine⟨J,J,?_,J,(f u).1,(f u).2,?_,?_⟩
 .rw[N];omega
 .rw[O];exact(f _).1
 .rw[O];exact(f _).2
def Mp(h:u<1000000000):u/10000%4294967296=u/10000/\u%10000/100%4294967296*2%4294967296=2*(u/100%100)/\u%10000%100*2%4294967296=2*(u%100):=J
def Xa(h:u<1000000000):u%100*2%4294967296=2*(u%100)/\u/100%4294967296=u/100:=J
def oY{an:e2}{K:ac dC}{own bl:ac a0}{aC a4 S back:Nat}{e Q:bV}{d:Tmp}{aF:ac Tmp}{xs:ac (bt×cz)}{x i:ce}{j:Nat}{bE:f5}(bF:ci)(a3:l[j]? =some bF)(k:bP.ok an ⟨K,.d xs bl ((d,.i .u8 (bF.toNat:Int))::Q) a4 S,⟨own,aC,(d,.i .u8 (bF.toNat:Int))::e⟩⟩)(O:bb (eF aF Q) x=some (.s l):=by rfl)(af:bb (eF aF Q) i=some (.i bE (j:Int)):=by rfl)(aa:back<a4:=by decide):bP.ok an ⟨K,.d ((⟨some d,.u0 x i,none⟩,.read back aF)::xs) bl Q a4 S,⟨own,aC,e⟩⟩:=
 mF (a:=.i .u8 bF.toNat) aa (λH g st I D _ _=>⟨.int .u8 (bF.toNat:Int),o,λL _ _=>by
  have Y:=D.aq O;have G:=D.aq af;obtain⟨aT,Z⟩:=dG.1 a3;show h1 (I.aq x) (λs=>gk (I.aq i) (λ_ j=>hW j (λj=>hX s.data.toList j 1 (λbH=>one bH (λb=>a2.ok (.int .u8<|.ofNat b.toNat) I L) a2.no) a2.no) a2.no) a2.no) a2.no=_;rw[Y,Sym.yZ,G];show hX l j 1 _ _=_;rw[Sym.y0 J,hL aT,Z];rfl⟩) k
def G7:da:=n0 im im.up λ(n:Nat)=>([.i .u64 n,.ae 10],n<1000000000,.s<|ez n)
def ajJ:b4 180 G7:=by
 refine mM [W9,W8] Vr.1 ?_;intro(n:Nat) (aj:n<1000000000) H ax O;refine U 20<|eC (λh=>?_) λh=>?_
 .have h:n<100:=by omega
  exact U 4<|b5 14 (n:Nat)<|bn W9 n h<|U 6<|fc
 have C:n≠0:=J
 obtain⟨c2,Q⟩:∃c2,c2=(b9 10 n).length:=dq;have d:c2<=9:=by rw[Q];exact pM av aj
 have X:2<c2:=by rw[Q];exact Cu av J
 refine U 10<|bn W8 n ⟨C,aj⟩ (a9 17 (.ae (c2:Nat)) o (by rw[Q])<|U 6<|kb 0 lO (List.replicate 24 0) ?_) (cl:=O);refine e6 aqV ?_;refine a9 19 (.aL 0 1 0 c2 24) o az<|U 1<|vv TJ.1 cw ?_;intro S Z T af _;have af:Z.length=1:=af;refine U 9<|qD (L:=Nat×ac ci×Nat) (λ(i,l,u)=>ke n c2 i l u/\i<8) (λ(i,l,u)=>⟨[.a 309 false 1 ci lO l],1,[(0,.aL 0 1 0 c2 24),(1,.i .u64 (u:Nat)),(4,.ae (i:Nat))]⟩) ?_ ?_
 .refine dN (L:=Nat×ac ci×Nat) (λ(i,l,u)=>ke n c2 i l u) (λ(i,l,u)=>⟨[.a 309 false 1 ci lO l],1,[(0,.aL 0 1 0 c2 24),(1,.i .u64 (u:Nat)),(4,.ae (i:Nat))]⟩) (λl=>l.1) [0] (c2,List.replicate 24 0,n) ⟨az,az,c4 _,λj Y G=>J⟩ (by show c2<4611686018427387904;omega) aoP ?_;rintro⟨i,l,u⟩ V;have V:ke n c2 i l u:=V;have v:=V.le;have E:u<=n:=by rw[V.u];exact mr _ _
  refine U 7<|eC (λK=>?_) λK=>?_
  .obtain⟨ae,rfl⟩:∃ae,i=ae+8:=⟨i-8,J⟩;have e:u<1000000000:=by omega
   have W:=ke.two (i:=ae+6) V J;have F:=ke.two (i:=ae+4) W J;have R:=ke.two (i:=ae+2) F J;have P:=ke.two (i:=ae) R J;have z:=V.len;refine U 8<|a9 23 (.i .u32 ((u%100000000:Nat):Int)) o (congrArg (λn:Nat=>ai.i .u32 (n:Int)) (vQ e).1) ?_;refine U 7<|a9 25 (.i .u64 ((u/100000000:Nat):Int)) o (congrArg (λn:Nat=>ai.i .u64 (n:Int)) (vQ e).2.1) ?_;refine U 7<|a9 27 (.i .u32 ((u/10000%10000:Nat):Int)) o (congrArg (λn:Nat=>ai.i .u32 (n:Int)) (vQ e).2.2.1) ?_;refine U 2<|a9 29 (.i .u32 ((u%10000:Nat):Int)) o (congrArg (λn:Nat=>ai.i .u32 (n:Int)) (vQ e).2.2.2.1) ?_;refine U 9<|a9 32 (.i .u32 ((2*(u/100%100):Nat):Int)) o (congrArg (λn:Nat=>ai.i .u32 (n:Int)) (vQ e).2.2.2.2.1) ?_;refine U 3<|a9 35 (.i .u32 ((2*(u%100):Nat):Int)) o (congrArg (λn:Nat=>ai.i .u32 (n:Int)) (vQ e).2.2.2.2.2.1) ?_;refine U 9<|a9 38 (.i .u32 ((2*(u/100/100/100%100):Nat):Int)) o (congrArg (λn:Nat=>ai.i .u32 (n:Int)) (vQ e).2.2.2.2.2.2.1) ?_;refine U 3<|a9 41 (.i .u32 ((2*(u/100/100%100):Nat):Int)) o (congrArg (λn:Nat=>ai.i .u32 (n:Int)) (vQ e).2.2.2.2.2.2.2) ?_;refine U 9<|ea 44 (.ae (((ae+6)+1:Nat):Int)) o o gg<|U 2<|ea 49 (.i .u32 ((2*(u%100)+1:Nat):Int)) o o aql ?_;refine oY (l:=mS) _ (od _<|fo u av).2.1 ?_;refine c0 o o<|oP (UInt8.ofNat<|48+u%100%10) ?_;refine U 3<|ea 47 (.ae ((ae+6):Nat)) o o gg<|U 1<|oY (l:=mS) _ (od _<|fo u av).1 ?_;refine c0 o o<|oP (UInt8.ofNat<|48+u%100/10) ?_;refine U 7<|ea 57 (.ae (((ae+4)+1:Nat):Int)) o o gg<|U 2<|ea 62 (.i .u32 ((2*((u/100)%100)+1:Nat):Int)) o o asv ?_;refine oY (l:=mS) _ (od _<|fo (u/100) av).2.1 ?_;refine c0 o o<|oP (UInt8.ofNat<|48+(u/100)%100%10) ?_;refine U 3<|ea 60 (.ae ((ae+4):Nat)) o o gg<|U 1<|oY (l:=mS) _ (od _<|fo (u/100) av).1 ?_;refine c0 o o<|oP (UInt8.ofNat<|48+(u/100)%100/10) ?_;refine U 7<|ea 70 (.ae (((ae+2)+1:Nat):Int)) o o gg<|U 2<|ea 75 (.i .u32 ((2*((u/100/100)%100)+1:Nat):Int)) o o (congrArg (λn:Nat=>ai.i .u32 (n:Int))<|xK<|u/100/100) ?_;refine oY (l:=mS) _ (od _<|fo (u/100/100) av).2.1 ?_;refine c0 o o<|oP (UInt8.ofNat<|48+(u/100/100)%100%10) ?_;refine U 3<|ea 73 (.ae ((ae+2):Nat)) o o gg<|U 1<|oY (l:=mS) _ (od _<|fo (u/100/100) av).1 ?_;refine c0 o o<|oP (UInt8.ofNat<|48+(u/100/100)%100/10) ?_;refine U 7<|ea 83 (.ae ((ae+1:Nat):Int)) o o gg<|U 2<|ea 88 (.i .u32 ((2*((u/100/100/100)%100)+1:Nat):Int)) o o (congrArg (λn:Nat=>ai.i .u32 (n:Int))<|xK<|u/100/100/100) ?_;refine oY (l:=mS) _ (od _<|fo (u/100/100/100) av).2.1 ?_;refine c0 o o<|oP (UInt8.ofNat<|48+(u/100/100/100)%100%10) ?_;refine U 3<|ea 86 (.ae (ae:Nat)) o o gg<|U 1<|oY (l:=mS) _ (od _<|fo (u/100/100/100) av).1 ?_;refine c0 o o<|oP (UInt8.ofNat<|48+(u/100/100/100)%100/10) ?_;exact U 8<|bL [0] (ae,_,u/100/100/100/100) ⟨by show ae<ae+8;omega,P⟩ aoP
  .exact U 4<|bL [0] (i,l,u) ⟨V,J⟩ aoP
 rintro⟨i,l,u⟩ ⟨V,K⟩;have V:ke n c2 i l u:=V;have K:i<8:=K;have E:u<=n:=by rw[V.u];exact mr _ _
 refine U 14<|a9 12 (.i .u32 (u:Nat)) o ht<|jS (L:=Nat×ac ci×Nat) (λ(i,l,u)=>ke n c2 i l u/\i<4/\u<=n) (λ(i,l,u)=>⟨[.a 309 false 1 ci lO l],1,[(0,.aL 0 1 0 c2 24),(12,.i .u32 (u:Nat)),(4,.ae (i:Nat))]⟩) ?_ ?_
 .refine eC (λN=>?_) λN=>?_
  .obtain⟨ae,rfl⟩:∃ae,i=ae+4:=⟨i-4,J⟩;have W:=ke.two (i:=ae+2) V J;have F:=ke.two (i:=ae) W J;have z:=V.len;have e:u<1000000000:=by omega
   have v:=V.le;refine U 11<|a9 103 (.i .u32 ((u/10000:Nat):Int)) o (congrArg (λn:Nat=>ai.i .u32 (n:Int)) (Mp e).1) ?_;refine U 8<|a9 106 (.i .u32 ((2*(u/100%100):Nat):Int)) o (congrArg (λn:Nat=>ai.i .u32 (n:Int)) (Mp e).2.1) ?_;refine U 3<|a9 109 (.i .u32 ((2*(u%100):Nat):Int)) o (congrArg (λn:Nat=>ai.i .u32 (n:Int)) (Mp e).2.2) ?_;refine U 9<|ea 112 (.ae (((ae+2)+1:Nat):Int)) o o gg<|U 2<|ea 117 (.i .u32 ((2*(u%100)+1:Nat):Int)) o o aql ?_;refine oY (l:=mS) _ (od _<|fo u av).2.1 ?_;refine c0 o o<|oP (UInt8.ofNat<|48+u%100%10) ?_;refine U 3<|ea 115 (.ae ((ae+2):Nat)) o o gg<|U 1<|oY (l:=mS) _ (od _<|fo u av).1 ?_;refine c0 o o<|oP (UInt8.ofNat<|48+u%100/10) ?_;refine U 7<|ea 125 (.ae ((ae+1:Nat):Int)) o o gg<|U 2<|ea 130 (.i .u32 ((2*((u/100)%100)+1:Nat):Int)) o o asv ?_;refine oY (l:=mS) _ (od _<|fo (u/100) av).2.1 ?_;refine c0 o o<|oP (UInt8.ofNat<|48+(u/100)%100%10) ?_;refine U 3<|ea 128 (.ae (ae:Nat)) o o gg<|U 1<|oY (l:=mS) _ (od _<|fo (u/100) av).1 ?_;refine c0 o o<|oP (UInt8.ofNat<|48+(u/100)%100/10) ?_;exact U 7<|bL [0] (ae,_,u/100/100) ⟨F,by show ae<4;omega,cN (mr _ _)<|cN (mr _ _) E⟩ aoP
  .exact U 1<|bL [0] (i,l,u) ⟨V,by show i<4;omega,E⟩ aoP
 rintro⟨i,l,u⟩ ⟨V,N,E⟩;have V:ke n c2 i l u:=V;have N:i<4:=N;refine U 7<|jS (L:=Nat×ac ci×Nat) (λ(i,l,u)=>ke n c2 i l u/\i<2/\u<=n) (λ(i,l,u)=>⟨[.a 309 false 1 ci lO l],1,[(0,.aL 0 1 0 c2 24),(12,.i .u32 (u:Nat)),(4,.ae (i:Nat))]⟩) ?_ ?_
 .refine eC (λG=>?_) λG=>?_
  .obtain⟨ae,rfl⟩:∃ae,i=ae+2:=⟨i-2,J⟩;have W:=ke.two (i:=ae) V J;have z:=V.len;have e:u<1000000000:=by omega
   have v:=V.le;refine U 5<|a9 142 (.i .u32 ((2*(u%100):Nat):Int)) o (congrArg (λn:Nat=>ai.i .u32 (n:Int)) (Xa e).1) ?_;refine U 7<|a9 144 (.i .u32 ((u/100:Nat):Int)) o (congrArg (λn:Nat=>ai.i .u32 (n:Int)) (Xa e).2) ?_;refine U 8<|ea 147 (.ae ((ae+1:Nat):Int)) o o gg<|U 2<|ea 152 (.i .u32 ((2*(u%100)+1:Nat):Int)) o o aql ?_;refine oY (l:=mS) _ (od _<|fo u av).2.1 ?_;refine c0 o o<|oP (UInt8.ofNat<|48+u%100%10) ?_;refine U 3<|ea 150 (.ae (ae:Nat)) o o gg<|U 1<|oY (l:=mS) _ (od _<|fo u av).1 ?_;refine c0 o o<|oP (UInt8.ofNat<|48+u%100/10) ?_;exact U 7<|bL [0] (ae,_,u/100) ⟨W,by show ae<2;omega,cN (mr _ _) E⟩ aoP
  .exact U 1<|bL [0] (i,l,u) ⟨V,by show i<2;omega,E⟩ aoP
 rintro⟨i,l,u⟩ ⟨V,G,E⟩;have V:ke n c2 i l u:=V;have G:i<2:=G;have z:=V.len;refine U 6<|eC (λY=>?_) λY=>?_
 .have D:i=1:=by omega
  subst D;have e:u<10:=by
   rw[V.u];refine Nat.div_lt_of_lt_mul ?_;have:=WM (b:=10) (n:=n) (k:=c2) av J
   rwa [show c2=(c2-1)+1 by omega,hZ]at this
  have g:=V.one e;refine U 4<|a9 164 (.i .u32 ((48+u:Nat):Int)) o (congrArg (λn:Nat=>ai.i .u32 (n:Int)) (show(48+u)%4294967296=48+u by omega)) ?_;refine U 1<|a9 165 (.i .u8 ((UInt8.ofNat<|48+u).toNat:Int)) o (by rw[UInt8.toNat_ofNat'])<|n7 (j:=0) o o<|mc (UInt8.ofNat<|48+u) ?_;refine U 1 ?_;exact bh ⟨.inl o,_,o,by
   refine U 5<|e6 aqV ?_;refine a9 23 (.aL 0 1 0 c2 24) o az<|R5 (ez n) ?_ (aj:=by rw[g.len];omega) (aI:=g.fin C Q J);refine U 5 ?_;exact fc⟩
 .have D:i=0:=by omega
  subst D;have g:=V;refine U 1 ?_;exact bh ⟨.inl o,_,o,by
   refine U 5<|e6 aqV ?_;refine a9 23 (.aL 0 1 0 c2 24) o az<|R5 (ez n) ?_ (aj:=by rw[g.len];omega) (aI:=g.fin C Q J);refine U 5 ?_;exact fc⟩
def G8:da where
 L:=Nat
 args:=λk=>[.i .u64 1,.i .u64 k]
 pre:=λk=>k<9
 res:=λk=>.br [.i .u64 0,.i .u64 k]
def Xb(h:k<9):k=0\/k=1\/k=2\/k=3\/k=4\/k=5\/k=6\/k=7\/k=8:=J
def ajK:eb cv.ctx 221 G8.spec:=by
 refine cJ [] Vw.1 ?_;intro(k:Nat) (E:k<9) H ax;rcases Xb E with rfl|rfl|rfl|rfl|rfl|rfl|rfl|rfl|rfl
 all_goals
  exact U 99<|fc
def ajL:eb cv.ctx 181 G8.spec:=by
 apply cJ [(221,G8.spec)] UT.1;intro(k:Nat) E H ax;exact U 14<|bn ajK k E<|U 16<|fc
def G9:da:=cR λ((a,t,c):ci×ac ci×ci)=>([.s<|a::t,.s [c]],t.length<=1073741824,.b<|[a]==[c])
def ajM:b4 146 G9:=by
 apply cJ [] LK.1;intro⟨a,t,c⟩ aN H ax;exact U 13<|a9 10 (.b true) o ep<|U 7<|tN (p:=0) (q:=1) [a] (U 9<|fc) (aD:=az)
def Mq:b4 182 G9:=by
 apply cJ [(146,G9)] TE.1;intro⟨a,t,c⟩ aN H ax;exact U 9<|bn ajM (a,t,c) aN<|U 4<|fc
def Mr:b4 135 (cR λ(k:Nat)=>([.s [48],.ae k],k<9,.s<|List.replicate k 48)):=by
 refine cJ [(181,G8.spec),(182,G9)] Tw.1 ?_;intro(k:Nat) (E:k<9) H ax;rcases Xb E with rfl|rfl|rfl|rfl|rfl|rfl|rfl|rfl|rfl
 .exact U 27<|fc
 .exact U 35<|fc
 all_goals
  refine U 46<|bn ajL _ E<|U 45<|tM 48 (j:=0) o<|U 37<|bn Mq (32,List.replicate 127 32,48) (jb o)<|U 13<|bn Mq (45,List.replicate 127 45,48) (jb o)<|U 13<|bn Mq (48,List.replicate 63 48,48) (jb o)<|U 8<|tN (p:=0) (l:=List.replicate 64 48) _ ?_ (aI:=o) (aD:=av);exact U 7<|fc
def ajN:b4 134 G7:=by
 refine mM [(180,G7)] Vh.1 ?_;intro n aj H ax F;exact U 9<|bn ajJ n aj (U 4<|fc) (cl:=F)
def ajO(aw:r<1000000000)(aD:q≠0):b9 10 (r+1000000000*q)=mQ 9 r++b9 10 q:=by
 have ok:=λd S=>(ie.1 S).elim ((WO 9 r) d)<|(ji av q) d;have Z:val 10 (mQ 9 r++b9 10 q)=r+1000000000*q:=by
  rw[pL,aji,Mj,iL av];have:=hb J;rw[this]
 have aN:hr (mQ 9 r++b9 10 q)=mQ 9 r++b9 10 q:=by
  have h:=xG (b:=10) av q;rcases q0 (b9 10 q)with T|⟨eH,d,T⟩
  .exact absurd ((qG av).1 T) aD
  .rw[tf]at T;have S:d≠0:=by rw[T]at h;exact(zv (b:=10) h).2
   rw[T,<-List.append_assoc,vJ,au S]
 rw[<-Z];exact Ct av ok aN
def ajP(aw:r<1000000000):(mQ 9 r).reverse=List.replicate (9-(dec r).length) 0++dec r:=by
 have W:(b9 10 r).length<=9:=pM av J;by_cases T:r=0
 .subst T;decide +kernel
 have e:mQ 9 r=b9 10 r++List.replicate (9-(b9 10 r).length) 0:=by
  apply pf;intro j;have g:∀j,j<9->(mQ 9 r)[j]? =some (r/10^j%10):=λj d=>by simp[mQ,d]
  by_cases d:j<9
  .rw[g j d];by_cases Y:j<(b9 10 r).length
   .rw[ta Y,Mi av Y]
   .have aH:=Decidable.not_not.1 λh=>Y<|(ajf av).2 h;rw[wh J,DP,aA J,aH]
  .rw[td<|by rw[Mj];omega,td ep]
 have o:dec r=(b9 10 r).reverse:=by unfold dec;rw[au T]
 rw[e,AG,List.reverse_replicate,o,yd]
def Xc(aw:r<1000000000)(aD:q≠0):ez (r+1000000000*q)=ez q++(List.replicate (9-(ez r).length) 48++ez r):=by
 have e:dec (r+1000000000*q)=dec q++(List.replicate (9-(dec r).length) 0++dec r):=by
  rw[<-ajP aw];have Y:dec (r+1000000000*q)=(b9 10<|r+1000000000*q).reverse:=by unfold dec;rw[au J]
  have G:dec q=(b9 10 q).reverse:=by unfold dec;rw[au aD]
  rw[Y,G,ajO aw aD,AG]
 unfold ez;rw[e,WN,WN,G0];congr 2;unfold oa;rw[List.map_replicate];rfl
def uf(s:ac ci):ac ai:=[.s s]
def mT(bd:ac (ac ci)):ac ci:=bd.reverse.flatten
def Xd(bd:ac (ac ci))(s:ac ci):mT (bd++[s])=s++mT bd:=by unfold mT;rw[AG];rfl
def ajQ{bd:ac (ac ci)}(h:k<bd.length):mT (bd.drop k)=mT (bd.drop<|k+1)++bd[k]:=by
 unfold mT;rw[hL h,List.reverse_cons];simp
def ajR(m:Nat):ac (ac ci)->cg
 |[]=>⟨[],0,[(0,dw m),(3,.nl)]⟩
 |p::bd=>⟨[.a 9 true 1 (ac ci) uf<|p::bd],1,[(0,dw m),(3,.aL 0 1 0 (p::bd).length (p::bd).length)]⟩
def ajS(bd:ac (ac ci))(k:Nat):ac ci->cg
 |[]=>⟨[.c 228 [.v<|.pointer none,.nl]],1,[(3,.bs 1 (ac ci) uf bd),(7,.p 0 0),(8,.ae<|(k:Int)-1)]⟩
 |c::cs=>⟨[.c 228 [.p 0 0,.aL 1 1 0 (c::cs).length (c::cs).length],.a 5 true 1 ci lO<|c::cs],2,[(3,.bs 1 (ac ci) uf bd),(7,.p 0 0),(8,.ae<|(k:Int)-1)]⟩
def ajT:∀{bd:ac (ac ci)},(∀p∈bd,p.length<=9)->(mT bd).length<=9*bd.length:=λ{bd} h=>by
 unfold mT
 induction bd with
 |nil=>simp
 |cons p bd U=>
  have Y:=h p az;have G:=U λq aD=>h q<|e3 _ aD;simp at G⊢;omega
def Ms(h:dU k n):(b9 10 n).length<=10*k:=pM av (by
 refine fG (ub h) ?_;rw[yb];exact D1 av k)
def ajU{m:Nat}(h:m≠0):(b9 10<|m/1000000000).length<(b9 10 m).length:=by
 rw[rS av h];refine Nat.lt_succ_of_le<|pM av<|iR ?_ (WM av<|c4 _);omega
def ajV(h:r<1000000000):(ez r).length<=9:=by
 unfold ez dec;rw[G0];split
 .simp
 .rw[yd];exact pM av J
def zA:b4 103 (n0 im im.up λ(n:Nat)=>([dw n],dU 1073741823 n,.s<|ez n)):=by
 refine mM [GL,(134,G7),Mr] UI.1 ?_;intro(n:Nat) (aj:dU _ n) H ax F;refine U 13<|eC (λh=>?_) λh=>?_
 .have T:n=0:=uc.1 J;subst T;exact U 7<|fc
 have C:n≠0:=λe=>h (by rw[e,iX];rfl);refine U 9<|qD (L:=ac<|ac ci) (λN=>mT N=ez n/\N≠[]/\N.length<=10737418230/\∀p∈N,p≠[]/\p.length<=9) (λN=>⟨[],0,[(3,.bs 1 (ac ci) uf N)]⟩) ?_ ?_
 .refine dN (L:=Nat×ac (ac ci)) (λ(m,N)=>dU 1073741823 m/\N.length+(b9 10 m).length<=10737418230/\ez n=(if m=0 then[]else ez m)++mT N/\(m=0->N≠[])/\∀p∈N,p≠[]/\p.length<=9) (λ(m,N)=>ajR m N) (λl=>(b9 10 l.1).length) [] (n,[]) ?_ ?_ cr ?_
  .exact apE apE
  .show(b9 10 n).length<bz+1;have:=Ms aj;unfold bz;omega
  rintro⟨m,N⟩ ⟨V,D,bj,dj,dp⟩;rcases N with _|⟨p,N⟩
  all_goals
   refine U 8<|eC (λhm=>?_) (λhm=>?_)
   rotate_left
   .have hm:m=0:=uc.1 J;subst hm
    first
    |exact absurd o (dj o)
    |refine Gb 3 ?_
     exact U 4<|fk [] (p::N) ⟨by rw[bj,aA o];rfl,az,by simp at D ⊢;omega,dp⟩
   have hm:m≠0:=λe=>by rw[e,iX]at hm;simp at hm
   have aw:m%1000000000<1000000000:=fo _ av;have X:=ajU hm;have d:=ajV aw;have G:0<(ez<|m%1000000000).length:=qY.2<|vP _;refine U 6<|bn GL (m,1000000000) ⟨c1 V,by show 0<1000000000;decide,by show 1000000000<4294967296;decide⟩<|U 11<|a9 21 (.i .u64 ((m%1000000000:Nat):Int)) o (congrArg (λn:Nat=>ai.i .u64 (n:Int))<|hb<|Nat.lt_trans aw av) ?_;refine bn ajN (m%1000000000) aw ?_ (cl:=F);have v:m%1000000000+1000000000*(m/1000000000)=m:=DM _ _;generalize m%1000000000=r at *;generalize aD:m/1000000000=q at *;refine bf 6 ?_
   iterate 3 refine gF o ?_
  .refine jS (L:=ac ci) (λQ=>Q≠[]/\Q.length<=9/\ez m=(if q=0 then[]else ez q)++Q) (λQ=>⟨[],0,[(3,.nl),(4,dw q),(6,.s Q)]⟩) ?_ ?_
   .refine U 7<|eC (λS=>?_) λS=>?_
    .have S:q≠0:=λe=>by rw[e,iX]at S;simp at S
     obtain⟨z,aH⟩:∃z:Nat,z=9-(ez r).length:=dq;refine U 4<|b5 28 (z:Nat)<|bn Mr z (by show z<9;omega)<|U 1<|Cg ?_ (aI:=by rw[nF];omega);refine U 2 ?_;refine bL [] (List.replicate z 48++ez r) arh cr
    .have S:q=0:=uc.1 J;exact U 1<|fk [] (ez r) ⟨vP _,d,by rw[aA S,<-v,S];rfl⟩
   rintro Q ⟨bU,Y,Z⟩;refine U 5<|rL uf [Q] (hg (ak:=uf) [Q] o) ?_;refine U 8<|fk [1] (q,[Q]) ⟨by show(b9 10 q).length<(b9 10 m).length;exact X,ua V<|by rw[<-aD];exact mr _ _,by show 1+(b9 10 q).length<=_;simp at D;omega,by rw[bj,au hm,Z,D2,show mT [Q]=Q++mT []from Xd [] Q],λ_=>az,?_⟩;intro x O;have:x=Q:=by simpa using O
   subst this;exact⟨bU,Y⟩
  .refine jS (L:=ac ci) (λQ=>Q≠[]/\Q.length<=9/\ez m=(if q=0 then[]else ez q)++Q) (λQ=>⟨[.a 9 true 1 (ac ci) uf<|p::N],1,[(3,.aL 0 1 0 (p::N).length (p::N).length),(4,dw q),(6,.s Q)]⟩) ?_ ?_
   .refine U 7<|eC (λS=>?_) λS=>?_
    .have S:q≠0:=λe=>by rw[e,iX]at S;simp at S
     obtain⟨z,aH⟩:∃z:Nat,z=9-(ez r).length:=dq;refine U 4<|b5 28 (z:Nat)<|bn Mr z (by show z<9;omega)<|U 1<|Cg ?_ (aI:=by rw[nF];omega);refine U 2 ?_;refine bL [0] (List.replicate z 48++ez r) arh cr
    .have S:q=0:=uc.1 J;exact U 1<|fk [0] (ez r) ⟨vP _,d,by rw[aA S,<-v,S];rfl⟩
   rintro Q ⟨bU,Y,Z⟩;refine U 5 ?_;have ar:N.length<=10737418230:=by simp at D;omega
   refine qB (ak:=uf) [Q] (hg (ak:=uf) [Q] o) ?_;refine U 8<|bL [2] (q,p::(N++[Q])) ⟨by show(b9 10 q).length<(b9 10 m).length;exact X,ua V<|by rw[<-aD];exact mr _ _,by simp at D ⊢;omega,by rw[bj,au hm,Z,D2,show mT (p::(N++[Q]))=Q++mT (p::N)from Xd (p::N) Q],λ_=>az,?_⟩ (cr (aK:=⟨o,congrArg (λk=>some<|ai.aL 2 1 0 k k) az,aP⟩));intro x O;rcases ie.1 (show x∈(p::N)++[Q]from O)with h|h
   .exact dp x h
   .have:x=Q:=by simpa using h
    subst this;exact⟨bU,Y⟩
 rintro N ⟨V,D,bj,dj⟩;have dp:0<N.length:=qY.2 D;have K:∀k,(mT<|N.drop k).length<=9*N.length:=λk=>cN (ajT λp hp=>(dj p<|DQ hp).2)<|q1 _ az;refine U 15<|dN (L:=Nat×ac ci) (λ(k,bH)=>k<=N.length/\mT (N.drop k)=bH) (λ(k,bH)=>ajS N k bH) (λl=>l.1) [0] (N.length,[]) ⟨c4 _,by rw[wm];rfl⟩ (by show N.length<bz+1;unfold bz;omega) cr ?_;rintro⟨k,bH⟩ ⟨E,aa⟩;cases k with
 |zero=>
  rw[kC,V]at aa;cases bH with
  |nil=>exact absurd aa (vP n)
  |cons c cs=>
   have g:=K 0;rw[kC,V,aa]at g;refine U 15<|vv UN.1 cw ?_;intro ab ad al _ _;refine U 11<|aeH ?_ (ah:=az);refine U 5<|aeI ?_ (bS:=az) (aa:=J);refine U 4<|bh ⟨.inr o,_,o,?_⟩;exact U 4<|eK (by show ai.s (c::cs)=ai.s (ez n);rw[aa])
 |succ m=>
  have hm:m<N.length:=J
  obtain⟨bU,Y⟩:=dj _<|eO hm;have a':=ajQ hm;rw[aa]at a';have g:=K<|m+1;rw[aa]at g;have af:N[m]? =some N[m]:=ba hm;generalize N[m]=s at *;cases bH with
  |nil=>
   obtain⟨c,cs,rfl⟩:∃c cs,s=c::cs:=by cases s with
    |nil=>exact absurd o bU
    |cons c cs=>exact⟨c,cs,o⟩
   refine a9 8 (.ae (m:Nat)) o ht<|U 15<|a9 41 (.b true) o az<|iW (c::cs) af o<|U 1<|vv LQ.1 cw ?_;intro ab ad al _ _;refine U 9<|vv LL.1 cw ?_;intro an j P _ _;refine U 6<|e6 (aeF o o) ?_;refine U 6<|e6 (aew o o av) ?_;refine U 1<|e6 (aex o o o) ?_;refine U 4<|bh ⟨.inl o,_,o,?_⟩;refine U 10<|aeB ?_;refine U 14<|bh ⟨.inr o,_,o,?_⟩;exact U 8<|bL [0,1] (m,c::cs) ⟨az,J,a'⟩ cr
  |cons ao bH=>
   have aq:bH.length<=96636764070:=by simp at g;omega
   have W:s.length<=9:=Y;refine a9 8 (.ae (m:Nat)) o ht<|U 15<|a9 41 (.b true) o az<|iW s af o<|U 1<|vv LQ.1 cw ?_;intro ab ad al _ _;refine U 9<|vv LL.1 cw ?_;intro an j P _ _;refine U 17<|e6 (aeG o o) ?_;refine U 4<|bh ⟨.inl o,_,o,?_⟩;refine U 10<|aeC ?_ (bS:=bU);refine U 14<|bh ⟨.inr o,_,o,?_⟩;exact U 8<|bL [0,2] (m,ao::(bH++s)) ⟨az,J,a'⟩ (cr (aE:=⟨⟨_,o,congrArg (λk=>a0.c 228 [.p 0 0,.aL 2 1 0 k k]) ep⟩,jU,aP⟩))
theorem zB(h:dU k n):(ez n).length<=10*k+1:=by
 have:=Ms h;unfold ez dec;rw[G0]
 grind
theorem zC:b4 58 (n0 im im.up λ(x:Rat)=>([bQ x],bg 268435456 x,.s<|gu x)):=by
 refine mM [zA] Uz.1 ?_;intro x O H ax F;have d:=zB O.1;have Z:=zB O.2;refine U 10<|bn zA x.num.natAbs (c1 O.1) ?_ (cl:=F);refine bf 3 ?_
 iterate 3 refine gF o ?_
 obtain⟨u,E⟩:∃u,u=(if x.num<0 then[45]else[])++ez x.num.natAbs:=dq;have C:u.length<=10*268435456+2:=by
  grind
 refine jS (L:=Unit) (λ_=>True) (λ_=>⟨[.c 27<|cc x],1,[(1,.p 0 0),(3,.s u)]⟩) ?_ ?_
 .refine U 6<|eC (λh=>?_) λh=>?_
  .exact U 2<|Cg (U 2<|bL [0] () aP (cr (aK:=⟨o,by rw[E,aA h];rfl,aP⟩))) (aI:=by show 1+(ez _).length<=_;omega)
  .exact U 1<|bL [0] () aP (cr (aK:=⟨o,by rw[E,au h];rfl,aP⟩))
 intro _ _;refine U 5 ?_;by_cases S:x.den=1
 .refine a9 12 (.gq 1 Nat gi []) o as0<|U 13<|eK ?_;show ai.s u=ai.s (gu x);rw[gu,<-E,aA S,wi]
 .refine c3 12 (CA S) ?_;refine U 3<|RC o (by show nm true _=true;rw[(Is.2 asj)];rfl) ?_;refine U 4<|fI 16 (dw x.den) o (Ws S)<|bn zA x.den (c1 O.2) (Cg ?_) (cl:=F);refine Cg ?_;refine U 10<|eK ?_;show ai.s (u++([47]++ez x.den))=ai.s (gu x);rw[gu,<-E,au S];rfl
def CI(v:Nat)(rest:ac ci):ac a0:=[.c 25 [dw v],.c 9 [.s rest]]
def CJ{v K:Nat}(h:v<10^k)(aB:k<=K):dU K v:=sZ<|fG h<|cN (D1 av k)<|k5 av aB
def ug:d8->dT:=bE [mO,oV,GI]
def Ha:b4 71 (cR λ(s:ac ci)=>([.s s],mR s/\s.length<=2100,dw<|dI s)):=by
 refine aeN cv.gP hv ug (a7:=TV.1) cw (λl aZ st ⟨_,_,_,d⟩=>by rw[gr d];exact jb o) ?_;rintro⟨s,aC⟩ aZ st ⟨⟨ay,aN⟩,_,au,S⟩;have ay:mR s:=ay;have aN:s.length<=2100:=aN;have au:Fit aC [] st [] 0:=au;have S:cT aC [.s s] [] aZ:=S;have bb:=cY.zero S;obtain⟨Q,cn,ar,cl,bx,aE,b3,bH,dX⟩:=Lh (call:=cf aV (cm cv.ctx ug)<|bz+1) (a8:=bz+1) (fn:=71) (ops:=[C.m 2 C.dH]) (s:=⟨[],0,iJ 0 [.s s]⟩) (t:=⟨[],0,[(2,.nl),(0,.s s)]⟩) o (by
  intro ar Z aB _ _;refine U 2 ?_;exact bh e9) au bb
 obtain⟨cx,ct,bP,cg,T,aF,js,bI,e5⟩:=Lh (call:=cf aV (cm cv.ctx ug)<|bz+1) (a8:=bz+1) (fn:=71) (ops:=[C.hM 3 [C.N] 25]) (s:=⟨[],0,[(2,.nl),(0,.s s)]⟩) (t:=⟨[.c 25 [dw 0]],1,[(3,.p 0 0),(2,.nl),(0,.s s)]⟩) o (by
  intro ar Z aB _ _
  iterate 1 refine gF o ?_
  refine aeP 0 (cs:=[.nl]) [dw 0] ⟨bX.nl.trans (.of<|by show dr []=dr (b9 _ 0);rw[iX]),aP⟩ ?_;refine U 1 ?_;exact bh e9) b3 bH
 obtain⟨F,al,cc,ab,z,aG,bc,an,ni⟩:=Lh (call:=cf aV (cm cv.ctx ug)<|bz+1) (a8:=bz+1) (fn:=71) (ops:=[C.m 6 0,C.c 7 119 [6]]) (s:=⟨[.c 25 [dw 0]],1,[(3,.p 0 0),(2,.nl),(0,.s s)]⟩) (t:=⟨CI 0 s,2,[(7,.fn (.func 160) [] [.p 1 0]),(6,.s s),(3,.p 0 0),(2,.nl),(0,.s s)]⟩) o (by
  intro ar Z aB _ _;refine U 1<|vv UJ.1 cw ?_;intro bP cu cy _ _;refine U 13<|bh ⟨.inr o,_,o,?_⟩;refine U 1 ?_;exact bh e9) js bI
 have b1:F.b7=none:=ni.trans<|e5.trans dX;obtain⟨LS,a',bg,ck,cd,aU,aH,aJ,⟨bT,bw⟩,dj,a0,a1,a3⟩:=afe (X:=cv.ctx) (aV:=aV) (bp:=ug) (a8:=bz+1) (n:=4611686018427387902) (fn:=71) b1 bc an (f:=7) (bd:=[8,9]) (ek:=C.q (C.ak [C.m 4 8])<|C.ak [C.m 5 9]) (body:=C.K 1<|.q5 [C.D (C.m 11 5) [5],C.D (C.jN 12 .u64 11) [11],C.E<|C.c 13 72 [12],C.J6 (C.l 10 3) 1 [3],C.E<|C.c 14 40 [10,13],C.J6 (C.m 15 4) 2 [4],C.J6 (C.jN 16 .u64 15) 2 [15],C.E<|C.c 17 72 [16],C.E<|C.c 18 75 [14,17],C.E<|C.st 1 3 18] [1,2,3,0,4,5,6,7,8,9] [10,15,16] [0,1,3,0,15,0,32,127,255,511]) (g:=160) (a7:=Ub.1) (rN:=[.p 1 0]) (λr R=>r=none/\R=CI (dI s) []) cw o o (jb o) (by
  intro aB l V bG;have V:ab.length=2:=V;refine U 1<|dN (L:=ac ci×Nat) (λ(rest,v)=>mR rest/\rest.length<=s.length/\v<10^(s.length-rest.length)/\dI s=dI rest+10^rest.length*v) (λ(rest,v)=>⟨CI v rest,2,[(0,.v<|.func (.yield l) #[] #[]),(1,.p 1 0)]⟩) (λl=>l.1.length) [0,1] (s,0) ⟨ay,c4 _,az,az⟩ (by show List.length s<4611686018427387904;omega) ao4 ?_;rintro⟨rest,v⟩ ⟨ao,ch,bj,dj⟩;refine U 8<|eC (λaw=>?_) λaw=>?_
  .have aw:0<rest.length:=by omega
   refine U 16<|qD (L:=ac ci×ac ci) (λ(w,Y)=>rest=w++Y/\w.length<=9/\w≠[]) (λ(w,Y)=>⟨CI v Y,2,[(0,.v<|.func (.yield l) #[] #[]),(1,.p 1 0),(3,.i .u32 (dI w:Nat)),(4,.i .u32 ((10^w.length:Nat):Int))]⟩) ?_ ?_
   .refine dN (L:=ac ci×ac ci) (λ(w,Y)=>rest=w++Y/\w.length<=9) (λ(w,Y)=>⟨CI v Y,2,[(0,.v<|.func (.yield l) #[] #[]),(1,.p 1 0),(3,.i .u32 (dI w:Nat)),(4,.i .u32 ((10^w.length:Nat):Int)),(5,.ae (w.length:Nat))]⟩) (λl=>9-l.1.length) [0,1] ([],rest) ⟨o,av⟩ (by show 9-0<4611686018427387904;decide) ao4 ?_;rintro⟨w,Y⟩ ⟨bU,H⟩;have hw:mR w:=λc ah=>ao c (by rw[bU];exact p5 _ ah);have aj:=s4 hw;refine U 6 ?_;by_cases W:w.length<9
    .refine a9 11 (.b true) o (congrArg ai.b<|c9 J) ?_;cases Y with
     |nil=>
      exact U 14<|bL [0,1] (w,[]) ⟨bU,H,λe=>by rw[e]at bU;rw[bU]at aw;simp at aw⟩ ao4
     |cons c Y=>
      have ah:=ao c (by rw[bU];simp);have ad:10^w.length<=100000000:=cN (k5 av (show w.length<=8 by omega)) av;have a4:=aju w c;have bW:10^(w++[c]).length=10*10^w.length:=by rw[k4,List.length_singleton,hZ,hK]
      refine U 7<|a9 15 (.b true) o az<|U 12<|tM c (j:=0) o ?_;have bm:(c.toNat+(256*48-48))%256=c.toNat-48:=J
      have bn:(10*dI w%4294967296+(c.toNat-48)%4294967296)%4294967296=dI (w++[c]):=by rw[a4];generalize dI w=x at *;generalize 10^w.length=P at *;omega
      have bo:10*10^w.length%4294967296=10^(w++[c]).length:=by rw[bW];generalize 10^w.length=P at *;omega
      refine U 1<|LF 22 .u8 bm ?_;refine U 2<|LF 24 .u32 bn ?_;refine U 2<|LF 26 .u32 bo ?_;refine U 6<|tN (p:=1) Y ?_ (hp:=az) (aD:=az);exact U 9<|bL [0,1] (w++[c],Y) ⟨by simp;omega,by rw[bU];simp,by simp;omega⟩ (cr (aK:=⟨o,o,o,o,congrArg (λn=>some<|ai.ae n)<|aiD az J J,aP⟩) (hp:=by show pinned ab.length _ _=_;rw[V];rfl))
    .exact a9 11 (.b false) o (congrArg ai.b<|dk J)<|U 11<|bL [0,1] (w,Y) ⟨bU,H,λe=>by rw[e]at W;simp at W⟩ ao4
   rintro⟨w,Y⟩ ⟨bU,H,bJ⟩;refine U 5 ?_;have hw:mR w:=λc ah=>ao c (by rw[bU];exact p5 _ ah);have aj:=s4 hw;have ad:10^w.length<=1000000000:=cN (k5 av H) av;have aM:rest.length=w.length+Y.length:=by rw[bU,k4]
   have bY:dI rest=dI Y+10^Y.length*dI w:=by rw[bU,ajt]
   have b':v*10^w.length+dI w<10^(s.length-Y.length):=by
    rw[show s.length-Y.length=(s.length-rest.length)+w.length by omega,nJ];refine fG (Nat.add_lt_add_left aj _) ?_;rw[<-Nat.succ_mul];exact jE _ bj
   have b2:dI s=dI Y+10^Y.length*(v*10^w.length+dI w):=by
    rw[dj,bY,aM,nJ,ki];rw[hK (10^w.length)<|10^Y.length,lX,hK (10^w.length) v];omega
   have aS:dU 2100 v:=CJ bj J;have aR:dU 2100 (10^w.length):=CJ (k:=w.length+1) (Iw av<|nI _) J;have bS:dU 2100 (dI w):=CJ aj J;have cbq:10^w.length%18446744073709551616=10^w.length:=hb<|iR ad av;have c':dI w%18446744073709551616=dI w:=hb<|fG aj<|cN ad av;refine afc bG (h4:=[(5,.i .u32 ((10^w.length:Nat):Int)),(4,.i .u32 (dI w:Nat)),(9,.i .u32 ((10^w.length:Nat):Int)),(8,.i .u32 (dI w:Nat)),(7,.fn (.func 160) [] [.p 1 0]),(6,.s s),(3,.p 0 0),(2,.nl),(0,.s s)]) ?_ ?_
   .intro bl aW bA;exact U 8<|bh e9
   .intro bl aW bA aL _;have aL:aW.length=2:=aL;refine U 4<|wn 12 .u64 cbq ?_;refine cS mO (10^w.length:Nat) (iR ad av)<|U 1<|cS oV (v,10^w.length) ⟨c1 aS,c1 aR⟩<|U 2<|wn 16 .u64 c' ?_;refine cS mO (dI w) (fG aj<|cN ad av)<|cS GI (v*10^w.length,dI w) ⟨c1<|jZ aS aR,c1 bS⟩<|U 3<|bh ⟨o,?_⟩;exact U 6<|bL [0,1] (Y,v*10^w.length+dI w) ⟨by rw[aM];have:=qY.2 bJ;show Y.length<_;omega,λc ah=>ao c<|by rw[bU];exact List.mem_append_right _ ah,J,b',b2⟩ ao4
  .have aw:rest=[]:=OA.1 J;subst aw;have bq:dI s=v:=by rw[dj];simp[dI,rW,val]
   refine U 4 ?_;exact bh<|.inl ⟨.inl o,dq,o,by rw[bq]⟩)
 subst bT;subst bw;obtain⟨mU,aq⟩:∃bM,bM=(⟨F.t,{target:=.collected al.ag,args:= #[]}::F.di,F.aY,F.cU,F.b7⟩:aO):=dq;rw[<-aq]at aU;have b0:mU.t=F.t:=by rw[aq]
 have bC:mU.di={target:=.collected al.ag,args:= #[]}::F.di:=by rw[aq]
 have a2:mU.cU=F.cU:=by rw[aq]
 obtain⟨b,bO,bN⟩:=an.get 3 (.p 0 0) o;have bs:mU.tmp 3= .pointer (some ⟨b,0,none⟩):=by
  have e:mU.tmp 3=F.tmp 3:=by unfold aO.tmp;rw[b0]
  rw[e];exact bN
 obtain⟨⟨cz,bB,v,b5,rfl,bE,ax⟩,_⟩:=aJ.own 0 (.c 25 [dw<|dI s]) b o<|aH.jf 0 b bO;have ax:b5=[]:=ax;subst ax;have G:bD (cf aV (cm cv.ctx ug)<|bz+1) (.ix<|.tmp 3) mU a'= .ok v mU a':=y7 (by show mU.tmp 3=_;exact bs) bB o;have O:=((aE.trans aF).trans aG).trans aH;have bV:st.ag<=al.ag:=((aE.trans aF).trans aG).ag;refine Gc bx<|Gc T<|Gc (aeL z<|aeM aU) ?_;refine Gc (e4:=(mU.put (some 19) v).put (some 2) v) (ca:=a') ?_ ?_
 .show gz (cf aV (cm cv.ctx ug)<|bz+1) (⟨some 19,.ix<|.tmp 3,none⟩::[⟨some 2,.jF<|.tmp 19,none⟩]) mU a'=_;rw[Sym.tC,G,Sym.xc,Sym.tC];show gz (cf aV (cm cv.ctx ug)<|bz+1) [] ((mU.put (some 19) v).put (some 2)<|(mU.put (some 19) v).tmp 19) a'=_;rw[su,aA o];rfl
 .refine⟨.ret,(mU.put (some 19) v).put (some 2) v,a',o,.inr o,v,⟨a'.h.set al.ag<|.j3 none,a'.ag⟩,?_,bg,?_,?_,?_⟩
  .have ba:((mU.put (some 19) v).put (some 2) v).di=[{target:=.collected al.ag,args:= #[]}]:=by
    rw[(re _ _ _).1,(re _ _ _).1,bC,an.pl.di]
   have br:((mU.put (some 19) v).put (some 2) v).cU=false:=by
    rw[(re _ _ _).2.2.1,(re _ _ _).2.2.1,a2,an.pl.cU]
   have:=aeO (call:=cf aV (cm cv.ctx ug)<|bz+1) (t:=2) ba br dj;rw[su,aA o]at this;exact this
  .exact(aJ.other a0 a3 a1<|.j3 none).less
  .exact(O.other bV<|.j3 none).less
  .exact tF _ o bE _
def kt(n:Bool)(P q:ac ci)(Z:Bool):Prop:=nt P/\¬(n=true/\P=[48])/\(Z=true->nt q/\q≠[48]/\q≠[49])
instance(n:Bool)(P q:ac ci)(Z:Bool):Decidable (kt n P q Z):=by unfold kt;infer_instance
theorem Mt{N:Nat}{s:ac ci}(O:s.length<=N):∃P q Z,oc (eR s).2= .br [.s P,.s q,.b Z]/\(eR s).2.length<=N/\P.length<=N/\q.length<=N/\(¬kt (eR s).1 P q Z->hF s=none)/\
 (kt (eR s).1 P q Z->Z=false->hF s=some (mkRat (pP (eR s).1<|dI P) 1))/\(kt (eR s).1 P q Z->Z=true->hF s=if Nat.gcd (dI P) (dI q)=1 then some (mkRat (pP (eR s).1<|dI P)<|dI q)else none):=by
 have v:=ajv s;unfold hF oc;obtain⟨⟨n,t⟩,F⟩:∃g,g=eR s:=dq;rw[<-F]at v⊢;have K:t.length<=N:=by grind
 obtain⟨d,E,pK⟩:=WT t;obtain⟨⟨P,Q⟩,aD⟩:∃g,g=cutAt t:=dq;rw[<-aD]at d E pK⊢;simp only at d E pK⊢;cases Q with
 |none=>
  cases pK o;refine⟨t,[],false,o,K,K,by exact dg _,λh=>au λD=>h ⟨D.1,D.2,λe=>by cases e⟩,λh _=>aA ⟨h.1,h.2.1⟩,λ_ h=>by cases h⟩
 |some q=>
  have R:P.length+q.length<=N:=by have:=congrArg List.length<|E q o;rw[k4,iQ]at this;omega
  refine⟨P,q,true,o,K,J,J,λh=>?_,(λ_ h=>by cases h),λh _=>?_⟩
  .by_cases Y:nt P/\¬(n=true/\P=[48])
   .rw[aA Y];exact au λD=>h ⟨Y.1,Y.2,λ_=>⟨D.1,D.2.1,D.2.2.1⟩⟩
   .rw[au Y]
  .obtain⟨Y,G,C⟩:=h
   grind
def oe(s:ac ci):ai:=match hF s with
 |some x=>.br [bQ x,.ae 0]
 |none=>.br [bQ 0,.ae 6]
def Xe{v:Nat}(h:v<10^k)(aB:k<=2000):dU 250 v:=sZ<|fG h<|cN (k5 av aB) J
def xL(s:ac ci):ac ci:=(cutAt (eR s).2).1
def uh(s:ac ci):be (ac ci):=(cutAt (eR s).2).2
def vR(s:ac ci):Prop:=nt (xL s)/\¬((eR s).1=true/\xL s=[48])/\∀q,uh s=some q->nt q/\q≠[48]/\q≠[49]
def ui(s:ac ci):Prop:=2000<(xL s).length\/∃q,uh s=some q/\2000<q.length
variable{s:ac ci}{x:Rat}
open Classical in
def dO(s:ac ci):Int:=if vR s then(if ui s then 3 else if(hF s).isSome then 0 else 6)else 6
def eI(s:ac ci):Rat:=if dO s=0 then(hF s).getD 0 else 0
theorem ajW(h:¬vR s):dO s=6:=au h
theorem Xf(h:vR s)(aI:ui s):dO s=3:=(aA h).trans<|aA aI
theorem Mu(h:vR s)(aI:¬ui s)(hp:hF s=some x):dO s=0/\eI s=x:=by
 have e:dO s=0:=(aA h).trans ((au aI).trans<|by rw[hp];rfl);exact⟨e,(aA e).trans<|by rw[hp];rfl⟩
theorem ajX(h:vR s)(aI:¬ui s)(hp:hF s=none):dO s=6:=(aA h).trans ((au aI).trans<|by rw[hp];rfl)
def Hb(h:dO s≠0):eI s=0:=au h
def Xg(s:ac ci):dO s=0\/dO s=3\/dO s=6:=by
 unfold dO;split
 .split
  .exact .inr nQ
  .split
   .exact .inl o
   .exact .inr qo
 .exact .inr qo
def Xh(h:hF s=some x):vR s:=by
 unfold hF at h;split at h
 .rename_i Y;split at h
  .rename_i G;exact arV arV
  .rename_i q G;split at h
   .rename_i C;exact aqk aqk
   .cases h
 .cases h
def uj(s:ac ci):bg 250 (eI s):=by
 rw[eI];split
 case isFalse=>exact b0<|pO 0 av av
 rename_i h;rw[dO]at h;split at h
 case isFalse=>cases h
 rename_i E;split at h
 case isTrue=>cases h
 rename_i W;split at h
 case isFalse=>cases h
 rename_i e;have⟨x,O⟩:=Am.1 e;rw[O];have R:=Xe (s4 E.1.2.1)<|Nat.le_of_not_lt λh=>W<|.inl h;rw[hF]at O;split at O
 case isFalse=>cases O
 split at O
 .cases O;exact n9 (by rwa [xH]) (c1<|iM av) av
 .rename_i q aD;have g:=Nat.le_of_not_lt λh=>W<|.inr ⟨q,aD,h⟩;obtain⟨Z,S,d⟩:=E.2.2 q aD;split at O
  .cases O;exact n9 (by rw[xH];exact R) (Xe (s4 Z.2.1) g) λT=>S<|G3 Z T
  .cases O
theorem Xi{N:Nat}(e:s.length<=N):∃P q Z,oc (eR s).2= .br [.s P,.s q,.b Z]/\(eR s).2.length<=N/\P.length<=N/\q.length<=N/\(¬kt (eR s).1 P q Z->dO s=6/\hF s=none)/\
 (kt (eR s).1 P q Z->2000<P.length\/2000<q.length->dO s=3)/\
 (kt (eR s).1 P q Z->¬(2000<P.length\/2000<q.length)->∀x,hF s=some x->dO s=0/\eI s=x)/\(kt (eR s).1 P q Z->¬(2000<P.length\/2000<q.length)->hF s=none->dO s=6)/\
 (kt (eR s).1 P q Z->Z=false->hF s=some (mkRat (pP (eR s).1<|dI P) 1))/\(kt (eR s).1 P q Z->Z=true->hF s=if Nat.gcd (dI P) (dI q)=1 then some (mkRat (pP (eR s).1<|dI P)<|dI q)else none):=by
 have⟨P,q,Z,Y,G,C,d,J,j,E⟩:=Mt e;have key:P=xL s/\((Z=false/\uh s=none/\q=[])\/(Z=true/\uh s=some q)):=by
  grind [oc,xL,uh,WT]
 have⟨bU,H⟩:=key;have v:kt (eR s).1 P q Z↔vR s:=by
  unfold kt vR;rw[bU];obtain⟨U,T,z⟩|⟨U,T⟩:=H
  .rw[U,T];exact aqF aqF
  .rw[U,T];exact⟨λh=>⟨h.1,h.2.1,λ_ D=>by cases D;exact h.2.2 o⟩,λh=>⟨h.1,h.2.1,λ_=>h.2.2 _ o⟩⟩
 have g:(2000<P.length\/2000<q.length)↔ui s:=by
  rw[ui,bU];obtain⟨U,T,z⟩|⟨U,T⟩:=H
  .rw[T,z];exact aqr aqr
  .rw[T];exact apS apS
 grind [ajW,Xf,Mu,ajX]
def nu(s:ac ci):ai:=.br [bQ<|eI s,.ae<|dO s]
def Mv:da:=cR λ(s:ac ci)=>([.s s],s.length<=1073741824,nu s)
def Hc:b4 28 Mv:=by
 refine cJ [(67,Mo),(68,CH.spec),Mn,Ha,mO,lk,GQ,zw] UZ.1 ?_;intro(s:ac ci) (af:s.length<=1073741824) H ax;have fail:∀c,c≠0->dO s=c->bX (.br [.agg [.b false,.nl,.nl],.ae c]) (Mv.res s):=λc al h=>ajd.trans (.of<|by show _=nu s;unfold nu;rw[Hb J,h]);have hp:∀{x},dO s=0/\eI s=x->bX (.br [bQ x,.ae 0]) (Mv.res s):=λ⟨Y,G⟩=>.of (by show _=nu s;unfold nu;rw[Y,G]);obtain⟨P,q,Z,ah,aN,ak,aD,R,g,j,nS,d,D⟩:=Xi af;obtain⟨n,aj⟩:∃n,n=(eR s).1:=dq;rw[<-aj]at R g j nS d D;refine U 9<|bn ajz s (by show s.length<=_;omega)<|a9 13 (.br [.s (eR s).2,.b n]) o (by rw[aj];rfl)<|U 10<|bn ajB (eR s).2 (by show(eR s).2.length<=_;omega)<|a9 18 _ o ah<|U 14<|jS (L:=Bool) (λb=>b= !decide (kt n P q Z)) (λb=>⟨[.c 27 [.b false,.nl,.nl]],1,[(2,.p 0 0),(3,.ae 0),(5,.b n),(6,.s P),(7,.s q),(8,.b Z),(22,.b b)]⟩) ?_ ?_
 .have bad:¬kt n P q Z->true= !decide (kt n P q Z):=λh=>by rw[dk h];rfl
  have gP:kt n P q Z->false= !decide (kt n P q Z):=λh=>by rw[c9 h];rfl
  refine bn Mn P (by show P.length<=_;omega)<|U 2 ?_;by_cases Y:nt P
  .refine a9 26 (.b false) o (by show ai.b (!decide _)=_;rw[c9 Y];rfl)<|U 4 ?_;by_cases G:n=true/\P=[48]
   .obtain⟨rfl,rfl⟩:=G;exact U 25<|fk [0] true (bad λh=>h.2.1 e9)
   .cases n
    rotate_left
    have z:P≠[48]:=λe=>G ⟨o,e⟩;refine U 4<|a9 30 (.b false) o (by rw[AH.2 z]) ?_
    all_goals
     cases Z with
     |false=>
      refine zn [0] false (gP ⟨Y,G,λe=>by cases e⟩)
     |true=>
      refine st ?_;refine bn Mn q (by show q.length<=_;omega)<|U 4 ?_;by_cases C:nt q
      .refine a9 39 (.b false) o (by show ai.b (!decide _)=_;rw[c9 C];rfl)<|U 8 ?_;by_cases N:q=[48]
       .exact a9 43 (.b true) o (by rw[N];rfl)<|zn [0] true (bad λh=>(h.2.2 o).2.1 N)
       refine a9 43 (.b false) o (by rw[AH.2 N])<|U 4 ?_;by_cases S:q=[49]
       .exact a9 45 (.b true) o as0<|zn [0] true (bad λh=>(h.2.2 o).2.2 S)
       exact a9 45 (.b false) o (by rw[AH.2 S])<|zn [0] false (gP ⟨Y,G,λ_=>⟨C,N,S⟩⟩)
      .exact a9 39 (.b true) o (by show ai.b (!decide _)=_;rw[dk C];rfl)<|zn [0] true (bad λh=>C (h.2.2 o).1)
  .exact a9 26 (.b true) o (by show ai.b (!decide _)=_;rw[dk Y];rfl)<|zn [0] true (bad λh=>Y h.1)
 intro b aa;by_cases O:kt n P q Z
 .have aa:b=false:=by rw[aa,c9 O];rfl
  subst aa;by_cases W:2000<P.length\/2000<q.length
  .exact U 9<|a9 56 (.b true) o (congrArg ai.b<|c9 J)<|zl (fail 3 av<|g O W)
  have v:=j O W;have X:=nS O W;obtain⟨V,a',bj⟩:=O;have E:=CJ (K:=2000) (s4 V.2.1) J;refine U 9<|a9 56 (.b false) o (congrArg ai.b<|dk J)<|U 14 ?_;cases Z with
  |false=>
   exact U 5<|bn Ha P ⟨V.2.1,by show P.length<=_;omega⟩<|bn mO (1:Nat) ap5<|bn lk (n,dI P,1) ⟨c1 E,c1<|iM av,av⟩<|zl (hp<|v _<|d ⟨V,a',bj⟩ o)
  |true=>
   obtain⟨C,N,S⟩:=bj o;have Q:=CJ (K:=2000) (s4 C.2.1) J;have gX:dI q≠0:=λh=>N<|G3 C h;have ad:dI q≠1:=λh=>S<|ajq C h;have aw:=D ⟨V,a',bj⟩ o;refine U 6<|bn Ha P ⟨V.2.1,by show P.length<=_;omega⟩<|U 1<|bn Ha q ⟨C.2.1,by show q.length<=_;omega⟩<|U 9<|bn GQ (dI P,dI q) ⟨c1 E,c1 Q⟩<|bn zw (Nat.gcd (dI P)<|dI q) aP<|U 3<|K1 (λF=>?_) λF=>?_
   .exact zl<|fail 6 av<|X<|by rw[aw,au F]
   .refine st ?_;rw[aA F]at aw;obtain⟨ab,T⟩:=ajr (pP n<|dI P) (dI q) gX;rw[xH,F]at ab T;have hle:bX (.agg [.b n,dw<|dI P,dw<|dI q]) (bQ<|mkRat (pP n<|dI P)<|dI q):=Mb (q:=dI q) (by rw[ab];exact Int.ediv_one _) (by rw[T,yc]) (λh=>ad<|by rw[h,Nat.gcd_zero_left]at F;exact F)<|Wr ad gX;exact du<|(show bX (.br [.agg [.b n,dw<|dI P,dw<|dI q],.ae 0]) (.br [bQ<|mkRat (pP n<|dI P)<|dI q,.ae 0])from .br ⟨hle,.refl _,aP⟩).trans<|hp<|v _ aw
 .have aa:b=true:=by rw[aa,dk O];rfl
  subst aa;exact zl<|fail 6 av<|(R O).1
def eb.pre{X:Ctx}{f:d8}{L:Type}{args:L->ac ai}{res o:L->ai}{p Q:L->Prop}{hp:bm->Prop}{hm:∀{H Z:bm},cL H Z->hp H->hp Z}(e:∀l,Q l->p l)(h:eb X f (da.mk L args p res hp hm).spec)(aw:∀l,Q l->res l=o l:=by intros;rfl):eb X f (da.mk L args Q o hp hm).spec:=λd st ⟨l,Y,G⟩=>
 let⟨v,al,C,N⟩:=h d st ⟨l,e _ Y,G⟩
 ⟨v,al,λl W=>let⟨Z,a,b,c⟩:=C l ⟨e _ W.1,W.2⟩;⟨Z,a,b,by show den _ (o l.1) _ _;rw[<-aw l.1 W.1];exact c⟩,N⟩
def ajY(e:s.length<=2000):nu s=oe s:=by
 obtain⟨P,q,Z,-,-,Y,aD,R,-,j,nS,-⟩:=Xi e;unfold nu oe;by_cases d:kt (eR s).1 P q Z
 .cases h:hF s with
  |none=>rw[Hb<|by rw[nS d J h];decide,nS d J h]
  |some x=>rw[(j d J x h).1,(j d J x h).2]
 .rw[Hb<|by rw[(R d).1];decide,(R d).1,(R d).2]
def CK:b4 28 (cR λ(s:ac ci)=>([.s s],s.length<=2000,oe s)):=eb.pre (λ_ (h:_<=2000)=>cN h av) Hc λ_=>ajY
def s5:b4 28 (cR λ(s:ac ci)=>([.s s],s.length<=1048576,nu s)):=eb.pre (λ_ (h:_<=1048576)=>cN h av) Hc
structure iA where
 op:Int
 a:Int
 b:Int
 c:Int
 d:Int
 f:Int
 v:ac ci
structure nv where
 f:Int
 aQ:ac ci
 af:ac ci
structure zD where
 i:Int
 n:Int
structure hx where
 b6:ac (Int×Int)
 mode:Int
 ins:ac nv
 dH:ac iA
 head:Int
 tail:Int
 nw:ac zD
 out:Int
def og(n:iA):ac ai:=[.ae n.op,.ae n.a,.ae n.b,.ae n.c,.ae n.d,.ae n.f,.s n.v]
def s6(x:nv):ac ai:=[.ae x.f,.s x.aQ,.s x.af]
def zE(x:Int×Int):ac ai:=[.ae x.1,.ae x.2]
def ajZ(x:zD):ac ai:=[.ae x.i,.ae x.n]
def oZ(p:hx):ac ai:=[.bs 2 (Int×Int) zE p.b6,.ae p.mode,.bs 3 nv s6 p.ins,.bs 7 iA og p.dH,.ae p.head,.ae p.tail,.bs 2 zD ajZ p.nw,.ae p.out]
def ll(p:hx):ai:=.agg<|oZ p
def cj{a b:Bool}(h:a=b):ai.b a=ai.b b:=by rw[h]
def Xj:b4 165 (cR λ(x:Rat)=>([bQ x],True,.b<|decide (x.den=1))):=by
 apply cJ [] Ud.1;intro x _ H ax;apply U 10;by_cases S:x.den=1
 .exact a9 4 (.gq 1 Nat gi []) o as0<|U 5<|eK (cj (c9 S).symm)
 .apply c3 4 (CA S);exact U 5<|bh (dc o o<|.of (cj<|by rw[dk S];rw[(Is.2 asj)];rfl))
def zF(s:ac ci):Int:=if(hF s).isSome then 0 else 6
def Xk:b4 43 (cR λ(s:ac ci)=>([.s s],s.length<=2000,.ae<|zF s)):=by
 apply cJ [CK] LM.1;intro s d H ax;refine U 8<|bn CK s d ?_;cases h:hF s with
 |some x=>
  exact a9 7 (.br [bQ x,.ae 0]) o (by show oe s=_;unfold oe;rw[h])<|U 15<|bh ar2
 |none=>
  exact a9 7 (.br [bQ 0,.ae 6]) o (by show oe s=_;unfold oe;rw[h])<|U 15<|bh ar2
def CL:da:=cR λ((n,m):Int×Int)=>([.ae n,.ae m],True,.b<|decide (0<=n/\n<m))
def xM:b4 85 CL:=by
 apply cJ [] T1.1;intro⟨n,m⟩ _ H ax;apply U 9;by_cases h:0<=n
 .exact c3 6 (cj<|c9 h)<|U 12<|eK<|cj (decide_eq_decide.2 ⟨λD=>⟨h,D⟩,λD=>D.2⟩)
 .exact c3 6 (cj<|dk h)<|U 9<|eK (cj (dk λD=>h D.1).symm)
def Hd:b4 122 (cR λ(n:Int)=>([.ae n],True,.b<|decide (1<=n/\n<=15))):=by
 apply cJ [] Vf.1;intro(n:Int) _ H ax;apply U 9;by_cases h:1<=n
 .exact c3 4 (cj<|c9 h)<|U 10<|eK<|cj (decide_eq_decide.2 ⟨λD=>⟨h,D⟩,λD=>D.2⟩)
 .exact c3 4 (cj<|dk h)<|U 8<|eK (cj (dk λD=>h D.1).symm)
def ln(p:hx)(i:Int):Int:=if i<p.head then 0 else if i<p.tail then 1 else 2
def He:da:=cR λ((p,i):hx×Int)=>([ll p,.ae i],True,.ae<|ln p i)
def Mw:b4 86 He:=by
 refine cJ [] Vc.1 ?_;intro⟨p,i⟩ _ H ax;have d:∀{c:Int},ln p i=c->bX (.ae c) (He.res (p,i)):=λh=>.of apD;refine U 16 ?_;by_cases h:i<p.head
 .exact c3 5 (cj<|c9 h)<|U 11<|du (d<|aA h)
 refine c3 5 (cj<|dk h)<|U 11 ?_;by_cases G:i<p.tail
 .exact c3 11 (cj<|c9 G)<|U 11<|du (d<|(au h).trans<|aA G)
 exact c3 11 (cj<|dk G)<|U 12<|du (d<|(au h).trans<|au G)
def CM(p:hx)(i k:Int):Bool:=decide (0<=k/\k<i/\(ln p k=0\/ln p k=ln p i))
def Hf:da:=cR λ((p,i,k):hx×Int×Int)=>([ll p,.ae i,.ae k],True,.b<|CM p i k)
def aj0:b4 125 Hf:=by
 refine cJ [(86,He)] Ts.1 ?_;intro⟨p,i,k⟩ _ H ax;have no:¬(0<=k/\k<i/\(ln p k=0\/ln p k=ln p i))->bX (.b false) (Hf.res (p,i,k)):=λh=>.of<|cj (dk h).symm;have S:(0<=k/\k<i/\(ln p k=0\/ln p k=ln p i))->bX (.b true) (Hf.res (p,i,k)):=λh=>.of<|cj (c9 h).symm;refine U 11 ?_;by_cases h:k<0
 .exact c3 9 (cj<|c9 h)<|U 15<|du (no J)
 refine c3 9 (cj<|dk h)<|U 7 ?_;by_cases G:i<=k
 .exact c3 13 (cj<|c9 G)<|U 11<|du (no J)
 refine c3 13 (cj<|dk G)<|U 10<|bn Mw (p,k) aP<|a9 17 (.ae<|ln p k) o o<|U 7 ?_;by_cases C:ln p k=0
 .exact c3 19 (cj<|c9 C)<|U 11<|du (S ⟨J,J,.inl C⟩)
 refine c3 19 (cj<|dk C)<|U 8<|bn Mw (p,i) aP<|a9 24 (.ae<|ln p i) o o<|U 2 ?_;by_cases N:ln p k=ln p i
 .exact c3 25 (cj<|c9 N)<|U 5<|du (S ⟨J,J,.inr N⟩)
 exact c3 25 (cj<|dk N)<|U 5<|du (no λh=>h.2.2.elim C N)
def rX(e p:Int)(x:Rat):Int:=max (oX x.num.natAbs x.den) (1-ns e)-p+1
def pQ(e p:Int)(x:Rat):Prop:=kV e p/\(x.num=0\/(mP x<|-rX e p x).den=1/\¬zy e p<ud x)
instance(e p:Int)(x:Rat):Decidable (pQ e p x):=by unfold pQ;infer_instance
def hasB(e p:Int)(x:Rat):Bool:=decide (pQ e p x)
def aj1{e p:Int}(h:kV e p)(O:bg 250 x): -9000<=rX e p x/\rX e p x<=9000:=by
 have Z:=WL x.num.natAbs x.den;have S:=Cz O.1;have⟨Y,G,C,N,J⟩:=h;have:=CC Y G;rw[rX];omega
def Mx:da:=cR λ((e,p,x):Int×Int×Rat)=>([Mf e p,bQ x],bg 250 x,.b<|hasB e p x)
def My:b4 121 Mx:=by
 refine cJ [WE,kU,WH,WK,GY,Xj,Wt,WJ,lR] T9.1 ?_;intro⟨e,p,x⟩ (O:bg 250 x) H ax;have no:¬pQ e p x->bX (.b false) (Mx.res (e,p,x)):=λh=>.of (cj<|by unfold hasB;exact(dk h).symm);have g:pQ e p x->bX (.b true) (Mx.res (e,p,x)):=λh=>.of (cj<|by unfold hasB;exact(c9 h).symm);refine U 10<|bn WE (e,p) aP ?_;by_cases h:kV e p
 .refine a9 9 (.br [vO e p 0<|ns e,.ae 0]) o (aA h)<|U 21<|bn kU x aP<|U 4<|eC (λT=>?_) λT=>?_
  .have T:x.num=0:=wo.1 T;exact U 8<|du (g ⟨h,.inl T⟩)
  have T:x.num≠0:=λe=>T (by rw[e];rfl);have Z:=WL x.num.natAbs x.den;have j:=Cz O.1;have d:=Cz O.2;obtain⟨v,P⟩:=aj1 h O;refine U 6<|cS WH x ⟨b0 O,T⟩<|U 1<|cS WK (e,p,oX x.num.natAbs x.den,0) ⟨h,by show _<=oX _ _;omega,by show oX _ _<=_;omega⟩<|U 2<|a9 24 (.ae<|-rX e p x) o (by show ai.ae (IntKind.i64.wrap<|-rX e p x)=_;exact gg o J J)<|cS GY (x,-rX e p x) ⟨b0 O,by show _<= -rX e p x;omega,by show -rX e p x<=_;omega⟩<|cS Xj (mP x<|-rX e p x) aP ?_;by_cases S:(mP x<|-rX e p x).den=1
  .refine c3 26 (cj<|c9 S)<|U 4<|cS Wt x aP<|U 3<|cS WJ (e,p,0) h<|U 1<|cS lR (ud x,zy e p) ⟨b0 (by
    unfold ud;split
    .exact GV O
    .exact O),b0<|aje h⟩<|U 2 ?_
   by_cases F:zy e p<ud x
   .have ah:=ue.2 F;exact ee 33<|U 5<|du (no λD=>D.2.elim T λD=>D.2 F)
   .have ah:¬0<jY (ud x) (zy e p):=λh=>F<|ue.1 h;exact eD 33<|U 5<|du (g ⟨h,.inr ⟨S,F⟩⟩)
  .exact c3 26 (cj<|dk S)<|U 12<|du (no λD=>D.2.elim T λD=>S D.1)
 .exact c3 9 (au h)<|U 26<|bh (dc o o<|no λD=>h D.1)
def uk(p:hx):Int:=
 if(6<(p.b6.length:Int)\/6<(p.ins.length:Int)\/64<(p.dH.length:Int)\/4<(p.nw.length:Int))then 3
 else if((p.b6.length:Int)=0\/(p.dH.length:Int)=0\/p.mode<0\/4<p.mode)then 2
 else if(p.head<0\/p.tail<p.head\/(p.dH.length:Int)<p.tail)then 2
 else if((p.nw.length:Int)=0/\p.head≠(p.dH.length:Int))then 2 else 0
def Mz:da:=cR λ(p:hx)=>([ll p],True,.ae<|uk p)
def aj2:b4 80 Mz:=by
 refine cJ [] UC.1 ?_;intro(p:hx) _ H ax;have Q:∀{c:Int},uk p=c->bX (.ae c) (Mz.res p):=λh=>.of apD;refine U 25 ?_;by_cases Y:6<(p.b6.length:Int)
 .exact c3 13 (cj<|c9 Y)<|U 15<|du (Q<|aA<|.inl Y)
 refine c3 13 (cj<|dk Y)<|U 11 ?_;by_cases G:6<(p.ins.length:Int)
 .exact c3 18 (cj<|c9 G)<|U 15<|du (Q<|aA<|.inr<|.inl G)
 refine c3 18 (cj<|dk G)<|U 8 ?_;by_cases C:64<(p.dH.length:Int)
 .exact c3 20 (cj<|c9 C)<|U 15<|du (Q<|aA<|.inr<|.inr<|.inl C)
 refine c3 20 (cj<|dk C)<|U 10 ?_;by_cases N:4<(p.nw.length:Int)
 .exact c3 25 (cj<|c9 N)<|U 12<|du (Q<|aA<|.inr<|.inr<|.inr N)
 refine c3 25 (cj<|dk N) ?_;have hD:¬(6<(p.b6.length:Int)\/6<(p.ins.length:Int)\/64<(p.dH.length:Int)\/4<(p.nw.length:Int)):=λh=>h.elim Y λh=>h.elim G λh=>h.elim C N;have d:=λ{c} h=> @Q c<|(au hD).trans h;refine U 12 ?_;by_cases V:(p.b6.length:Int)=0
 .exact c3 31 (cj<|c9 V)<|U 15<|du (d<|aA<|.inl V)
 refine c3 31 (cj<|dk V)<|U 8 ?_;by_cases e:(p.dH.length:Int)=0
 .exact c3 33 (cj<|c9 e)<|U 15<|du (d<|aA<|.inr<|.inl e)
 refine c3 33 (cj<|dk e)<|U 10 ?_;by_cases bj:p.mode<0
 .exact c3 37 (cj<|c9 bj)<|U 15<|du (d<|aA<|.inr<|.inr<|.inl bj)
 refine c3 37 (cj<|dk bj)<|U 9 ?_;by_cases dj:4<p.mode
 .exact c3 41 (cj<|c9 dj)<|U 12<|du (d<|aA<|.inr<|.inr<|.inr dj)
 refine c3 41 (cj<|dk dj) ?_;have hY:¬((p.b6.length:Int)=0\/(p.dH.length:Int)=0\/p.mode<0\/4<p.mode):=λh=>h.elim V λh=>h.elim e λh=>h.elim bj dj;have T:=λ{c} h=> @d c<|(au hY).trans h;refine U 11 ?_;by_cases bU:p.head<0
 .exact c3 46 (cj<|c9 bU)<|U 15<|du (T<|aA<|.inl bU)
 refine c3 46 (cj<|dk bU)<|U 13 ?_;by_cases g:p.tail<p.head
 .exact c3 53 (cj<|c9 g)<|U 15<|du (T<|aA<|.inr<|.inl g)
 refine c3 53 (cj<|dk g)<|U 10 ?_;by_cases Z:(p.dH.length:Int)<p.tail
 .exact c3 58 (cj<|c9 Z)<|U 12<|du (T<|aA<|.inr<|.inr Z)
 refine c3 58 (cj<|dk Z) ?_;have P:¬(p.head<0\/p.tail<p.head\/(p.dH.length:Int)<p.tail):=λh=>h.elim bU λh=>h.elim g Z;have z:=λ{c} h=> @T c<|(au P).trans h;refine U 11 ?_;by_cases ey:(p.nw.length:Int)=0
 .refine c3 64 (cj<|c9 ey)<|U 11 ?_;by_cases eW:p.head≠(p.dH.length:Int)
  .exact c3 70 (cj<|c9 eW)<|U 13<|du (z<|aA ⟨ey,eW⟩)
  .exact c3 70 (cj<|dk eW)<|U 14<|du (z<|au λh=>eW h.2)
 .exact c3 64 (cj<|dk ey)<|U 20<|du (z<|au λh=>ey h.1)
def Xl:b4 81 (cR λ((p,j,e,q):hx×Nat×Int×Int)=>([ll p,.ae (j:Int)],p.b6[j]? =some (e,q),.ae (if kV e q then 0 else 2))):=by
 apply cJ [GX] TZ.1;intro⟨p,j,e,q⟩ d H ax;exact U 12<|iW (e,q) d o<|U 1<|bn GX (e,q) aP<|U 4<|fc
def Hg:ac (Nat×Nat):=[(0,0),(0,1),(0,1),(0,0),(1,1),(1,1),(1,1),(1,1),(2,2),(2,2),(2,2),(2,2),(2,2),(2,2),(3,3),(4,4)]
def CN:ac ai:=Hg.flatMap λp=>[.ae (p.1:Int),.ae (p.2:Int)]
def zG(R:Nat):Nat:=(Hg.getD R (0,0)).1
def zH(R:Nat):Nat:=(Hg.getD R (0,0)).2
def Xm:∀R,R<16->CN.drop (R*2)= .ae (zG R:Int):: .ae (zH R:Int)::CN.drop (R*2+2):=by
 intro R h;rcases(show R=0\/R=1\/R=2\/R=3\/R=4\/R=5\/R=6\/R=7\/R=8\/R=9\/R=10\/R=11\/R=12\/R=13\/R=14\/R=15 by omega)with h|h|h|h|h|h|h|h|h|h|h|h|h|h|h|h<;>subst h<;>rfl
def Xn:∀R,R<16->zG R<=4/\zH R<=4:=by decide +kernel
def o0(H:bm):Prop:=∃K el D aW,H 0=some (.cells K el D aW)/\∀Z,cT Z CN [] K
def o0.up{H Z:bm}(h:cL H Z):o0 H->o0 Z:=λ⟨K,el,D,aW,Y,G⟩=>⟨K,el,D,aW,h _ _ Y,G⟩
def h9(n:Int):ac ai:=[.ae n]
def mf(n:iA):ac Int:=[n.a,n.b,n.c,n.d]
def zI(n:iA):Bool:=((mf n).drop<|zH n.op.toNat).all (λx=>x==0)&&(n.v.isEmpty||decide (n.op=3))
def aj3{l:ac Int}(aB:k<l.length)(h:(l.take k).all (λx=>x==0)=true)(aK:l[k]=0):(l.take<|k+1).all (λx=>x==0)=true:=by
 rw[om aB,D3,h,aK];rfl
def Xo:b4 123 (n0 o0 o0.up λ(n:iA)=>([.agg<|og n],1<=n.op/\n.op<=15,.b<|zI n)):=by
 refine mM [] UK.1 ?_;intro(n:iA) ⟨(Y:1<=n.op),(G:n.op<=15)⟩ H ax ⟨K,el,D,aW,F,S⟩;obtain⟨R,ay⟩:∃R:Nat,n.op=(R:Int):=⟨n.op.toNat,J⟩;have E:n.op.toNat=R:=J
 have aT:R<16:=J
 obtain⟨_,z⟩:=Xn R aT;have aN:=Xm R aT;have O:zI n=(((mf n).drop<|zH R).all (λx=>x==0)&&(n.v.isEmpty||decide (n.op=3))):=by unfold zI;rw[E]
 generalize zH R=u at *;refine U 26<|a9 16 (.ae (R:Int)) o (by rw[<-ay])<|Se F S (j:=R) ?_;refine a9 17 (.ip<|.ae (zG R:Int):: .ae (u:Int)::CN.drop (R*2+2)) o (by rw[aN])<|U 2<|kb 1 h9 (mf n) ?_;refine e6 (aeQ (p:=u) (q:=4) o o dq o J av) ?_;obtain⟨C,N⟩:∃C,C=if 4=u then 0 else u:=dq;rw[<-N];refine U 5<|jh (L:=Nat) (λk=>k<=4-u/\(((mf n).drop u).take k).all (λx=>x==0)=true) (λ(k:Nat)=>⟨[.c 42<|og n,.a 260 false 1 Int h9<|mf n],2,[(1,.p 0 0),(2,.b false),(20,.aL 1 1 C (4-u)<|4-u),(21,.ae ((4-u:Nat):Int)),(22,.ae (k:Int))]⟩) (λk=>4-u-k) [0,1] 0 apl ?_;rintro(k:Nat) ⟨h,aH⟩;have V:((mf n).drop u).length=4-u:=by rw[m5];rfl
 refine U 3 ?_;by_cases W:k<4-u
 .refine eD 23<|U 10<|n1 ?_;rw[au J]at N;have N:=N.symm;subst N;have g:(mf n)[u+k]? =some ((mf n).drop u)[k]:=by rw[<-List.getElem?_drop,qV J]
  refine n2 ((mf n).drop u)[k] g ?_;refine U 7 ?_;by_cases d:((mf n).drop u)[k]=0
  .exact ee 27<|U 8<|b5 28 ((k+1:Nat):Int)<|U 2<|bL [0,1] (k+1) ⟨J,J,aj3 J aH d⟩ cr
  .refine c3 27 (cj<|c9 d)<|U 14<|eK (cj ?_);rw[O];have:((mf n).drop u).all (λx=>x==0)=false:=by
    rw[List.all_eq_false];exact arJ arJ
   rw[this];rfl
 .refine ee 23 ?_;have e:((mf n).drop u).all (λx=>x==0)=true:=by
   rw[pn J]at aH;exact aH
  rw[e,Ix]at O;refine U 14 ?_;by_cases Z:n.v=[]
  .exact a9 31 (.b true) o (by rw[Z];rfl)<|U 9<|bh (dc o o<|.of (cj<|by rw[O,Z];rfl))
  .exact a9 31 (.b false) o (cj<|by simpa using Z)<|U 12<|bh (dc o o<|.of<|cj (by rw[O];cases aD:n.v with|nil=>exact absurd aD Z|cons a l=>rfl))
structure bT where
 bY:ac ci
 cF:ac Int
def ef(t:bT):ac ai:=[.s t.bY,.b8 1 Int h9 t.cF]
structure dV where
 bY:ac ci
 jl:Int
 ej:ac bT
def fC(s:dV):ac ai:=[.s s.bY,.ae s.jl,.b8 2 bT ef s.ej]
structure MA where
 Xp:Int
 aQ:ac ci
 af:ac ci
 err:ac ci
 low:ac dV
 high:ac dV
structure aj4 where
 kind:Int
 jl:Int
 cut:ac ci
 gn:ac MA
 st:ac MA
def xN{α:Type}(f:α->α->Bool):ac α->ac α->Bool
 |[],[]=>true
 |x::a,y::b=>f x y&&xN f a b
 |_,_=>false
def aj5(m n:Int):Bool:=decide (m=n)
def Gq(s t:bT):Bool:=decide (s.bY=t.bY)&&xN aj5 s.cF t.cF
def Xq(s t:dV):Bool:=decide (s.bY=t.bY)&&(decide (s.jl=t.jl)&&xN Gq s.ej t.ej)
def Xr(x y:MA):Bool:=decide (x.Xp=y.Xp)&&(decide (x.aQ=y.aQ)&&(decide (x.af=y.af)&&(decide (x.err=y.err)&&(xN Xq x.low y.low&&xN Xq x.high y.high))))
def vo(x y:aj4):Bool:=decide (x.kind=y.kind)&&(decide (x.jl=y.jl)&&(decide (x.cut=y.cut)&&(xN Xr x.gn y.gn&&xN Xr x.st y.st)))
abbrev c8:=ac ci×ac ci
def hG(x:c8):ac ai:=[.s x.1,.s x.2]
def ne_of_lt{α:Type}{l:ac α}(h:k<l.length):l≠[]:=λe=>by rw[e]at h;exact m6 _ h
abbrev fD:=Rat×Rat
variable{c w:Int}
def e7(x:fD):ac ai:=cc x.1++cc x.2
def zJ(x:fD):fD:=if x.2<x.1 then(0,0)else x
def CO(x:fD):Int:=if x.2<x.1 then 7 else 0
def aj6:fy [.b false,.nl,.nl,.b false,.nl,.nl] (e7 (0,0)):=by
 have h:fy [.b false,.nl,.nl] (cc 0):=apg;exact⟨h.1,h.2.1,h.2.2.1,h⟩
def Xs{z:Nat}{α:Type}{ak:α->ac ai}:bX (.br [.nl,.ae c]) (.br [.bs z α ak [],.ae c]):=.br ⟨bX.nl,.refl _,aP⟩
def MB:bX (.br [.agg [.b false,.nl,.nl,.b false,.nl,.nl],.ae c]) (.br [.agg<|e7 (0,0),.ae c]):=.br ⟨.agg aj6,.refl _,aP⟩
def aj7:da:=cR λ(x:fD)=>([bQ x.1,bQ x.2],bg 250 x.1/\bg 250 x.2,.br [.agg<|e7<|zJ x,.ae<|CO x])
def Xt:b4 50 aj7:=by
 refine cJ [lR] Ux.1 ?_;intro⟨x,y⟩ ⟨(O:bg 250 x),(N:bg 250 y)⟩ H ax;refine st ?_;refine bn lR (x,y) ⟨b0 O,b0 N⟩ ?_;refine bf 9 ?_;by_cases h:y<x
 .refine v1 9 (ue.2 h) ?_;refine st ?_;exact bh<|dc o o<|MB.trans (.of<|by show _=ai.br [.agg<|e7 (if y<x then _ else _),.i .i64 (if y<x then _ else _)];rw[aA h,aA h])
 .refine v0 9 (λD=>h<|ue.1 D) ?_;refine st ?_;exact bh<|dc o o (.of<|by show _=ai.br [.agg<|e7 (if y<x then _ else _),.i .i64 (if y<x then _ else _)];rw[au h,au h];rfl)
def g5(s:c8):Int:=if dO s.1=0 then if dO s.2=0 then CO (eI s.1,eI s.2)else dO s.2 else dO s.1
def fr(s:c8):fD:=if dO s.1=0 then if dO s.2=0 then zJ (eI s.1,eI s.2)else(0,0)else(0,0)
def aj8:da:=cR λ(s:c8)=>([.agg<|hG s],s.1.length<=1048576/\s.2.length<=1048576,.br [.agg<|e7<|fr s,.ae<|g5 s])
def aj9{s:c8}(h:dO s.1≠0):g5 s=dO s.1/\fr s=(0,0):=⟨au h,au h⟩
def aka{s:c8}(h:dO s.1=0)(aK:dO s.2≠0):g5 s=dO s.2/\fr s=(0,0):=⟨(aA h).trans<|au aK,(aA h).trans<|au aK⟩
def akb{s:c8}(h:dO s.1=0)(aK:dO s.2=0):g5 s=CO (eI s.1,eI s.2)/\fr s=zJ (eI s.1,eI s.2):=⟨(aA h).trans<|aA aK,(aA h).trans<|aA aK⟩
def zK:b4 13 aj8:=by
 refine cJ [s5,Xt] Up.1 ?_;intro⟨a,b⟩ ⟨(D:a.length<=1048576),(aa:b.length<=1048576)⟩ H ax;refine st ?_;refine bn s5 a D ?_;refine bf 14 ?_;by_cases Y:dO a=0
 case neg=>
  obtain⟨U,T⟩:=aj9 (s:=(a,b)) Y;refine v1 14 Y ?_;refine st ?_;exact ap2
 refine v0 14 (hY Y) ?_;refine st ?_;refine bn s5 b aa ?_;refine bf 24 ?_;by_cases G:dO b=0
 case neg=>
  obtain⟨U,T⟩:=aka (s:=(a,b)) Y G;refine v1 24 G ?_;refine st ?_;exact ap2
 refine v0 24 (hY G) ?_;refine st ?_;obtain⟨U,T⟩:=akb (s:=(a,b)) Y G;refine bn Xt (eI a,eI b) ⟨uj a,uj b⟩ ?_;refine st ?_;exact bh<|dc o o (.of<|by show _=ai.br [.agg<|e7<|fr (a,b),.i .i64<|g5 (a,b)];rw[U,T];rfl)
def Xu(s:c8):g5 s=0\/g5 s=3\/g5 s=6\/g5 s=7:=by
 unfold g5 CO;have Y:=Xg s.1;have G:=Xg s.2;split
 .split
  .split
   .exact .inr<|.inr qo
   .exact .inl o
  .omega
 .omega
def qJ(w e:Int):Int:=if e≠0/\e≠7 then e else if w=7\/e=7 then 7 else 0
def g6:ac c8->Int
 |[]=>0
 |s::l=>if g5 s≠0/\g5 s≠7 then g5 s else qJ (g5 s) (g6 l)
def iq(l:ac c8):ac fD:=if g6 l=0 then l.map fr else[]
theorem CP:∀l,g6 l=0\/g6 l=3\/g6 l=6\/g6 l=7
 |[]=>.inl o
 |s::l=>by
  have aE:=Xu s;have G:=CP l;unfold g6 qJ;split
  .exact aE
  .split
   .exact G
   .split<;>omega
def akc(e:Int)(h:e=0\/e=3\/e=6\/e=7):qJ 0 e=e:=by
 unfold qJ;split
 .rfl
 .split<;>omega
def Xv:da:=cR λ(l:ac c8)=>([.b8 2 c8 hG l],l.length<=1048576/\∀s,s∈l->s.1.length<=1048576/\s.2.length<=1048576,.br [.bs 6 fD e7<|iq l,.ae<|g6 l])
def akd(l:ac c8)(k:Nat)(w:Int):ac fD->cg
 |[]=>⟨[],0,[(0,.b8 2 c8 hG l),(10,.b8 2 c8 hG l),(11,.ae (l.length:Int)),(12,.ae (k:Int)),(4,.nl),(5,.ae w)]⟩
 |v::ab=>⟨[.a 60 true 6 fD e7<|v::ab],1,[(0,.b8 2 c8 hG l),(10,.b8 2 c8 hG l),(11,.ae (l.length:Int)),(12,.ae (k:Int)),(4,.aL 0 6 0 (ab.length+1)<|ab.length+1),(5,.ae w)]⟩
theorem ake{s:c8}{l:ac c8}(h:g5 s=0\/g5 s=7):qJ w (g6<|s::l)=qJ (if g5 s=7 then 7 else w) (g6 l):=by
 have G:=CP l;have e:g6 (s::l)=qJ (g5 s) (g6 l):=au J;rw[e];unfold qJ;rcases h with h|h<;>rw[h]<;>simp<;>split<;>(try split)<;>simp_all
def akf{s:c8}{l:ac c8}(h:¬(g5 s=0\/g5 s=7)):qJ w (g6<|s::l)=g5 s:=by
 have e:g6 (s::l)=g5 s:=aA J;rw[e];exact aA J
def Xw:b4 26 Xv:=by
 refine cJ [zK] TO.1 ?_;intro(l:ac c8) ⟨(W:l.length<=1048576),(j:∀s,s∈l->s.1.length<=1048576/\s.2.length<=1048576)⟩ H ax;have bad:g6 l≠0->bX (.br [.nl,.i .i64<|g6 l]) (Xv.res l):=λh=>Xs.trans (.of<|by show _=ai.br [.bs 6 fD e7<|iq l,_];unfold iq;rw[au h]);refine st ?_;refine dN (L:=Nat×Int×ac fD) (λ(k,w,K)=>k<=l.length/\K=(l.take k).map fr/\(w=0\/w=7)/\qJ w (g6<|l.drop k)=g6 l) (λ(k,w,K)=>akd l k w K) (λx=>l.length-x.1) [] (0,0,[]) ⟨dg _,o,.inl o,akc _<|CP l⟩ aoT (Cd ⟨o,o,o,o,o,o,aP⟩) ?_;rintro⟨k,w,K⟩ ⟨E,N,hw,ah⟩;have Y:K.length<=1048576:=by rw[N,hV,kD];omega
 by_cases aT:k<l.length
 .have hm:=j l[k]<|ha aT;rw[hL aT]at ah;have P:(l.take<|k+1).map fr=K++[fr l[k]]:=by rw[N,<-List.take_append_getElem aT,oq];rfl
  have O:l≠[]:=λe=>by rw[e]at aT;exact m6 _ aT
  by_cases S:g5 l[k]=0\/g5 l[k]=7
  case neg=>
   rw[akf S]at ah;rcases K with _|⟨v,K⟩<;>(
    refine bf 13 ?_;refine v1 13 aoQ ?_;refine fI 10 (.bs 2 c8 hG l) o (.iH O) ?_;refine st ?_;refine hh l[k] aq6 ?_;refine st ?_;refine bn zK l[k] hm ?_;refine bf 22 ?_;refine v0 22 (show¬g5 l[k]=7 by omega) ?_;refine bf 25 ?_;refine v1 25 (show g5 l[k]≠0 by omega) ?_;refine st ?_;exact bh (dc o o<|by rw[ah];exact bad J))
  rw[ake S]at ah;have d:(if g5 l[k]=7 then(7:Int)else w)=0\/(if g5 l[k]=7 then(7:Int)else w)=7:=by split<;>omega
  by_cases g:g5 l[k]=7
  .rw[aA g]at ah d;rcases K with _|⟨v,K⟩<;>(
    refine bf 13 ?_;refine v1 13 aoQ ?_;refine fI 10 (.bs 2 c8 hG l) o (.iH O) ?_;refine st ?_;refine hh l[k] aq6 ?_;refine st ?_;refine bn zK l[k] hm ?_;refine bf 22 ?_;refine v1 22 g ?_;refine bf 23 ?_;refine a9 23 (.i .i64 7) o (by rw[g]) ?_;refine st ?_
    first|refine rL e7 [fr l[k]] (hg (ak:=e7) [fr l[k]] o) ?_|(refine qB [fr l[k]] (hg (ak:=e7) [fr l[k]] o) ?_ (aj:=az) (aa:=by simp at Y ⊢;omega);refine a9 30 (.aL 4 6 0 ((K++[fr l[k]]).length+1)<|(K++[fr l[k]]).length+1) o az ?_)
    refine bf 31 ?_;refine b5 31 ((k+1:Nat):Int) ?_;refine fI 10 (.b8 2 c8 hG l) rfl .b8 ?_;refine st ?_
    first|exact bL [3] (k+1,7,[fr l[k]]) ⟨J,aT,P.symm,d,ah⟩ cb|exact bL [4] (k+1,7,v::(K++[fr l[k]])) ⟨J,aT,P.symm,d,ah⟩ cb)
  .rw[au g]at ah d;rcases K with _|⟨v,K⟩<;>(
    refine bf 13 ?_;refine v1 13 aoQ ?_;refine fI 10 (.bs 2 c8 hG l) o (.iH O) ?_;refine st ?_;refine hh l[k] aq6 ?_;refine st ?_;refine bn zK l[k] hm ?_;refine bf 22 ?_;refine v0 22 g ?_;refine bf 25 ?_;refine v0 25 (hY (show g5 l[k]=0 by omega)) ?_;refine st ?_
    first|refine rL e7 [fr l[k]] (hg (ak:=e7) [fr l[k]] o) ?_|(refine qB [fr l[k]] (hg (ak:=e7) [fr l[k]] o) ?_ (aj:=az) (aa:=by simp at Y ⊢;omega);refine a9 30 (.aL 4 6 0 ((K++[fr l[k]]).length+1)<|(K++[fr l[k]]).length+1) o az ?_)
    refine bf 31 ?_;refine b5 31 ((k+1:Nat):Int) ?_;refine fI 10 (.b8 2 c8 hG l) rfl .b8 ?_;refine st ?_
    first|exact bL [3] (k+1,w,[fr l[k]]) ⟨J,aT,P.symm,d,ah⟩ cb|exact bL [4] (k+1,w,v::(K++[fr l[k]])) ⟨J,aT,P.symm,d,ah⟩ cb)
 .have V:k=l.length:=by omega
  subst V;rw[wm]at ah;rw[nG]at N;have ah:qJ w 0=g6 l:=ah;rcases hw with rfl|rfl
  .have ah:0=g6 l:=ah;rcases K with _|⟨v,K⟩<;>(
    refine bf 13 ?_;refine v0 13 aoY ?_;refine bf 35 ?_
    try refine ju 35 ?_
    refine st ?_
    first|exact bh (dc o o<|Xs.trans (.of<|by show ai.br [.bs 6 fD e7 [],.i .i64 0]=ai.br [.bs 6 fD e7<|iq l,.i .i64<|g6 l];unfold iq;rw[<-ah,aA o,<-N]))|exact bh<|dc o o (.of<|by show ai.br [.bs 6 fD e7<|v::K,.i .i64 0]=ai.br [.bs 6 fD e7<|iq l,.i .i64<|g6 l];unfold iq;rw[<-ah,aA o,<-N]))
  .have ah:7=g6 l:=ah;rcases K with _|⟨v,K⟩<;>(
    refine bf 13 ?_;refine v0 13 aoY ?_;refine st ?_;exact bh (dc o o<|by rw[ah];exact bad J))
def akg:da:=cR λ(s:ac ci)=>([.s s],s.length<=1048576,.ae<|dO s)
def MC:b4 43 (cR λ(s:ac ci)=>([.s s],s.length<=1073741824,.ae<|dO s)):=by
 refine cJ [Hc] LM.1 ?_;intro s d H ax;exact U 8<|bn Hc s d<|U 15<|fc
def Xx:b4 43 akg:=eb.pre (λ_ (h:_<=1048576)=>cN h av) MC
def lo:Int->ac Int->Bool
 |_,[]=>true
 |m,k::l=>decide (0<=k/\k<=m)&&lo (m-k) l
def rY(n:Nat)(t:bT):Int:=if dO t.bY=0 then if lo 16 t.cF=true/\t.cF.length=n then 0 else 7 else dO t.bY
def rZ(n:Nat):ac bT->Int
 |[]=>0
 |t::l=>if rY n t=0 then rZ n l else rY n t
def ku(n:Nat)(l:ac bT):Int:=if 200<(l.length:Int)then 3 else rZ n l
def o1(l:ac bT):Prop:=l.length<=1048576/\∀t,t∈l->t.bY.length<=1048576/\t.cF.length<=1048576
variable{t:bT}{m:Nat}
def Xy:da:=cR λ((l,n):ac bT×Nat)=>([.b8 2 bT ef l,.ae (n:Int)],o1 l/\n<=1048576,.ae<|ku n l)
def akh(h:dO t.bY≠0):rY n t=dO t.bY:=au h
def MD(h:dO t.bY=0)(aK:¬(lo 16 t.cF=true/\t.cF.length=n)):rY n t=7:=(aA h).trans<|au aK
def Xz(h:dO t.bY=0)(aK:lo 16 t.cF=true/\t.cF.length=n):rY n t=0:=(aA h).trans<|aA aK
def XA{m k:Int}{l:ac Int}:lo m (k::l)=(decide (0<=k/\k<=m)&&lo (m-k) l):=rfl
def Hh:b4 27 Xy:=by
 refine cJ [Xx] TP.1 ?_;intro⟨l,n⟩ ⟨⟨(W:l.length<=1048576),(z:∀t,t∈l->t.bY.length<=1048576/\t.cF.length<=1048576)⟩,(aj:n<=1048576)⟩ H ax;refine bf 13 ?_;by_cases G:200<(l.length:Int)
 .refine v1 13 G ?_;refine st ?_;exact bh<|dc o o (.of<|by show ai.i .i64 3=ai.i .i64 (ku n l);unfold ku;rw[aA G])
 refine v0 13 G ?_;have fin:∀c,rZ n l=c->bX (.i .i64 c) (Xy.res (l,n)):=λc h=>.of (by show _=ai.i .i64 (ku n l);unfold ku;rw[au G,h]);refine st ?_;refine dN (L:=Nat) (λk=>k<=l.length/\rZ n (l.drop k)=rZ n l) (λk=>⟨[],0,[(0,.b8 2 bT ef l),(1,.i .i64 (n:Int)),(14,.b8 2 bT ef l),(15,.i .i64 (l.length:Int)),(16,.i .i64 (k:Nat))]⟩) (λk=>l.length-k) [] 0 apl aoT cb ?_;rintro(k:Nat) ⟨E,aH⟩;refine bf 17 ?_;by_cases aT:k<l.length
 case neg=>
  refine v0 17 aq5 ?_;rw[th J]at aH;refine st ?_;exact bh<|dc o o<|fin 0 aH.symm
 obtain⟨R,V⟩:=z l[k]<|ha aT;rw[hL aT]at aH;obtain⟨t,aN⟩:∃t,t=l[k]:=dq;rw[<-aN]at aH R V;have aH:(if rY n t=0 then rZ n (l.drop<|k+1)else rY n t)=rZ n l:=aH;have O:l≠[]:=λe=>by rw[e]at aT;exact m6 _ aT
 refine v1 17 aoQ ?_;refine fI 14 (.bs 2 bT ef l) o (.iH O) ?_;refine st ?_;refine hh t (by rw[aN];exact ba aT) ?_;refine st ?_;refine bn Xx t.bY R ?_;refine bf 24 ?_;by_cases v:dO t.bY=0
 case neg=>
  rw[akh v,au v]at aH;refine v1 24 v ?_;refine st ?_;exact aqI
 refine v0 24 (hY v) ?_;refine st ?_;refine dN (L:=Nat×Int) (λ(j,m)=>j<=t.cF.length/\0<=m/\m<=16/\lo m (t.cF.drop j)=lo 16 t.cF) (λ(j,m)=>⟨[.c 90<|ef t],1,[(0,.b8 2 bT ef l),(1,.i .i64 (n:Int)),(14,.bs 2 bT ef l),(15,.i .i64 (l.length:Int)),(16,.i .i64 (k:Nat)),(6,.p 0 0),(8,.i .i64 m),(27,.b8 1 Int h9 t.cF),(28,.i .i64 (t.cF.length:Int)),(29,.i .i64 (j:Nat))]⟩) (λx=>t.cF.length-x.1) [0] (0,16) ⟨dg _,av,av,o⟩ asq cb ?_;rintro⟨j,m⟩ ⟨C,Z,ey,hp⟩;refine bf 30 ?_;by_cases g:j<t.cF.length
 case neg=>
  rw[th J]at hp;have hp:true=lo 16 t.cF:=hp;refine v0 30 (show¬(j:Int)<(t.cF.length:Int) by omega) ?_;refine bf 48 ?_;by_cases d:t.cF.length=n
  case neg=>
   rw[MD v λh=>d h.2,au av]at aH;refine v1 48 (show(t.cF.length:Int)≠(n:Int) by omega) ?_;refine st ?_;exact aqI
  rw[Xz v ⟨hp.symm,d⟩,aA o]at aH;refine v0 48 (hY (show(t.cF.length:Int)=(n:Int) by omega)) ?_;refine bf 49 ?_;refine b5 49 ((k+1:Nat):Int) ?_;refine fI 14 (.b8 2 bT ef l) rfl .b8 ?_;refine st ?_;exact asc
 have Q:t.cF≠[]:=λe=>by rw[e]at g;exact m6 _ g
 rw[hL g,XA]at hp;refine v1 30 (show(j:Int)<(t.cF.length:Int) by omega) ?_;refine fI 27 (.bs 1 Int h9 t.cF) o (.iH Q) ?_;refine st ?_;refine hh t.cF[j] (ba g) ?_;refine bf 34 ?_;by_cases F:t.cF[j]<0
 .rw[dk J,Iy]at hp;rw[MD v (λh=>by rw[<-hp]at h;cases h.1),au av]at aH;refine v1 34 F ?_;refine st ?_;exact aqI
 refine v0 34 F ?_;refine bf 38 ?_;by_cases T:m<t.cF[j]
 .rw[dk J,Iy]at hp;rw[MD v (λh=>by rw[<-hp]at h;cases h.1),au av]at aH;refine v1 38 T ?_;refine st ?_;exact aqI
 rw[c9 J,Ix]at hp;refine v0 38 T ?_;refine bf 42 ?_;refine b5 42 (m-t.cF[j]) ?_;refine bf 43 ?_;refine b5 43 ((j+1:Nat):Int) ?_;refine fI 27 (.b8 1 Int h9 t.cF) rfl .b8 ?_;refine st ?_;exact bL [0] (j+1,m-t.cF[j]) ⟨by show t.cF.length-(j+1)<t.cF.length-j;omega,g,J,J,hp⟩ cb
def CQ{g:d8}:bX (.v<|.func (.func g) #[] #[]) (.fn (.func g) [] []):=λ_ _ _ d=>⟨[],[],d,o,o⟩
def Hi(n:Nat):nt (ez n):=by
 refine⟨vP n,CE n,?_⟩;unfold ez dec;split
 .exact .inl o
 .right;rename_i T;have aN:=xG (b:=10) av n;have ay:=ji (b:=10) av n;rcases q0 (b9 10 n)with h|⟨eH,d,h⟩
  .exact absurd ((qG av).1 h) T
  .rw[tf]at h;rw[h]at aN ay;have S:=(zv (b:=10) aN).2;have N:=ay d az;rw[h,AG];intro e;have:=congrArg UInt8.toNat<|Option.some.inj e;rw[G1 N]at this;have:48+d=48:=this;omega
def ME(h:ez n=ez m):n=m:=by rw[<-CD n,h,CD]
def XB(b:Prop)[Decidable b](n:Nat)(t:ac ci):eR ((if b then[45]else[])++ez n++t)=(decide b,ez n++t):=by
 by_cases aa:b
 .rw[aA aa,c9 aa];rfl
 .rw[au aa,dk aa];have Y:=Hi n;cases S:ez n with
  |nil=>exact absurd S (vP n)
  |cons c l=>
   have:=Y.2.1 c (by rw[S];simp);show(if c=45 then _ else _)=_;rw[au λe=>by subst e;simp at this];rfl
def XC(x:Rat):hF (gu x)=some x:=by
 have hm:mkRat (pP (decide (x.num<0)) x.num.natAbs) x.den=x:=by
  have:pP (decide (x.num<0)) x.num.natAbs=x.num:=(zx x).symm;rw[this];exact DY x
 have O:¬(decide (x.num<0)=true/\ez x.num.natAbs=[48]):=λ⟨Y,G⟩=>by
  have Y:=jD Y;have:=ME (m:=0) G;omega
 unfold gu hF;rw[XB];by_cases S:x.den=1
 .rw[aA S,wi,Ml<|G2<|CE _];rw[aA ⟨Hi _,O⟩,CD];rw[S]at hm;rw[hm]
 .rw[au S,Mk (G2<|CE _) o];simp only;rw[aA ⟨Hi _,O⟩,CD,CD,aA ⟨Hi _,λh=>x.den_nz<|ME h,λh=>S<|ME<|h.trans MF,x.reduced⟩,hm]
def XD(h:n<2^m)(aB:m<=32*k):dU k n:=sZ<|by rw[show(4294967296:Nat)=2^32 from rfl,<-Nat.pow_mul];exact r8 h<|k5 av aB
theorem MG(h:bg k x):(gu x).length<=20*k+4:=by
 have d:=zB h.1;have Z:=zB h.2;unfold gu;rw[k4,k4];have:(if x.num<0 then([45]:ac ci)else[]).length<=1:=by grind
 have:(if x.den=1 then([]:ac ci)else 47::ez x.den).length<=1+(ez x.den).length:=by grind
 omega
end Go.bI.ds
namespace Go.bI.ds
def bF:Nat->Nat->Nat
 |_,0=>1
 |0,_+1=>0
 |n+1,k+1=>bF n k+bF n (k+1)
theorem zL:∀n k,(k+1)*bF (n+1) (k+1)=(n+1)*bF n k
 |0,0=>rfl
 |0,k+1=>by simp[bF]
 |n+1,0=>by
  have:=zL n 0;simp only[bF]at *;omega
 |n+1,j+1=>by
  have Y:=zL n<|j+1;have G:=zL n j;simp only[bF]at *
  grind
theorem um:∀n k,n<k->bF n k=0
 |_,0,h=>by omega
 |0,k+1,_=>rfl
 |n+1,k+1,h=>by
  have aE:=um n k J;have G:=um n (k+1) J;simp only[bF];omega
theorem zM:∀n,bF n n=1
 |0=>rfl
 |n+1=>by
  have aE:=zM n;have G:=um n (n+1) J;simp only[bF];omega
theorem CR:∀n a b,a+b=n->bF n a=bF n b
 |0,0,0,_=>rfl
 |0,0,b+1,h=>by omega
 |0,a+1,b,h=>by omega
 |n+1,0,b,h=>by
  have:b=n+1:=J
  subst this;rw[zM];rfl
 |n+1,a+1,0,h=>by
  have:a=n:=J
  subst this;rw[zM];rfl
 |n+1,a+1,b+1,h=>by
  have Y:=CR n a (b+1) J;have G:=CR n (a+1) b J;simp only[bF];omega
theorem zN:∀n k,k<=n->0<bF n k
 |_,0,_=>by simp[bF]
 |0,k+1,h=>by omega
 |n+1,k+1,h=>by
  have aE:=zN n k J;simp only[bF];omega
theorem Hj:∀n k,bF n k<=2^n
 |n,0=>by
  have:0<2^n:=k6 av;simp only[bF];omega
 |0,k+1=>by simp[bF]
 |n+1,k+1=>by
  have Y:=Hj n k;have G:=Hj n<|k+1;simp only[bF,hZ];omega
def hy(aQ:Rat)(n:Nat)(c:Nat->Rat)(p:Nat):Nat->Rat
 |0=>c p
 |j+1=>if p<n then hy aQ n c p j+aQ*hy aQ n c (p+1) (j+1)else c p
termination_by j=>(n-p,j)
variable{aQ:Rat}{n:Nat}{c:Nat->Rat}{p:Nat}
def pR(h:n<=p):∀j,hy aQ n c p j=c p
 |0=>by rw[hy]
 |j+1=>by rw[hy,au J]
def vS{j:Nat}(h:p<n):hy aQ n c p (j+1)=hy aQ n c p j+aQ*hy aQ n c (p+1) (j+1):=by
 rw[hy,aA h]
def zO:hy aQ n c p 0=c p:=by rw[hy]
theorem XE(aQ:Rat)(n:Nat)(c d:Nat->Rat)(p j:Nat):hy aQ n (λi=>c i+d i) p j=hy aQ n c p j+hy aQ n d p j:=by
 by_cases h:p<n
 .induction j with
  |zero=>simp only[zO]
  |succ j U=>
   have:=XE aQ n c d (p+1)<|j+1;rw[vS h,vS h,vS h,U,this]
   grind
 .rw[pR J,pR J,pR J]
termination_by n-p
theorem XF{aQ:Rat}{n:Nat}{c d:Nat->Rat}(e:∀i,i<=n->c i=d i)(p j:Nat)(hp:p<=n):hy aQ n c p j=hy aQ n d p j:=by
 by_cases h:p<n
 .induction j with
  |zero=>rw[zO,zO];exact e p hp
  |succ j U=>
   have:=XF e (p+1) (j+1) J (aQ:=aQ);rw[vS h,vS h,U,this]
 .rw[pR J,pR J];exact e p hp
termination_by n-p
def qK:Nat->Nat->Nat
 |_,0=>1
 |0,_+1=>0
 |j+1,i+1=>qK j (i+1)+qK (j+1) i
theorem Hk:∀i j,qK (j+1) i=bF (i+j) j
 |0,j=>by rw[qK];rw[jn,zM]
 |i+1,0=>by
  have:=Hk i 0;simp only[qK,bF]at *;omega
 |i+1,j+1=>by
  have Y:=Hk (i+1) j;have G:=Hk i<|j+1;have e:i+1+(j+1)=(i+1+j)+1:=J
  have T:i+(j+1)=i+1+j:=J
  rw[e,bF,qK,Y,G,T]
def j0(e:Nat)(a:Rat)(i:Nat):Rat:=if i=e then a else 0
theorem MH(aQ a:Rat)(n e:Nat)(he:e<=n)(p j:Nat)(hp:p<=n):hy aQ n (j0 e a) p j=if p<=e then a*(qK j (e-p):Rat)*aQ^(e-p)else 0:=by
 by_cases h:p<n
 .induction j with
  |zero=>
   rw[zO];unfold j0;rcases p2 p e with Y|Y|Y
   .obtain⟨d,S⟩:∃d,e-p=d+1:=⟨e-p-1,J⟩;rw[au J,aA J,S,qK];grind
   .subst Y;simp[qK]
   .rw[au J,au J]
  |succ j U=>
   have:=MH aQ a n e he (p+1) (j+1) J;rw[vS h,U,this];rcases p2 p e with Y|Y|Y
   .obtain⟨d,S⟩:∃d,e-p=d+1:=⟨e-p-1,J⟩;have N:e-(p+1)=d:=by omega
    rw[aA J,aA J,aA J,S,N,qK]
    push_cast
    grind
   .subst Y;rw[aA<|ct _,au J,aA<|ct _,Ax];simp only[qK];grind
   .rw[au J,au J,au J];grind
 .have:p=n:=by omega
  subst this;rw[pR<|ct _];unfold j0;by_cases Y:p=e
  .subst Y;simp[qK]
  .rw[au Y,au J]
termination_by n-p
theorem aki(aQ a:Rat)(n e:Nat)(he:e<=n)(p:Nat)(hp:p<=n):hy aQ n (j0 e a) p (p+1)=if p<=e then a*((bF e p:Rat)*aQ^(e-p))else 0:=by
 rw[MH aQ a n e he p (p+1) hp];split
 .rw[Hk,show e-p+p=e by omega];grind
 .rfl
def bH(g:Nat->Rat):Nat->Nat->Rat
 |p,0=>g p
 |0,_+1=>g 0
 |p+1,r+1=>bH g (p+1) r+bH g p r
def XG(g:Nat->Rat):∀r,bH g 0 r=g 0
 |0=>rfl
 |_+1=>rfl
theorem MI(g h:Nat->Rat):∀r p,bH (λi=>g i+h i) p r=bH g p r+bH h p r
 |0,p=>by simp[bH]
 |r+1,0=>by simp[bH]
 |r+1,p+1=>by
  have aE:=MI g h r<|p+1;have G:=MI g h r p;simp only[bH]at *
  grind
theorem zP{g h:Nat->Rat}{n:Nat}(F:∀i,i<=n->g i=h i):∀r p,p<=n->bH g p r=bH h p r
 |0,p,hp=>by simp only[bH];exact F p hp
 |r+1,0,hp=>by simp only[bH];exact F 0 hp
 |r+1,p+1,hp=>by
  have aE:=zP F r (p+1) hp;have G:=zP F r p J;simp only[bH,aE,G]
theorem Hl(e:Nat)(a:Rat):∀r p,bH (j0 e a) p r=if e<=p then a*(bF r (p-e):Rat)else 0
 |0,p=>by
  simp only[bH];unfold j0;rcases p2 p e with aE|aE|aE
  .rw[au J,au J]
  .subst aE;simp[bF]
  .obtain⟨d,S⟩:∃d,p-e=d+1:=⟨p-e-1,J⟩;rw[au J,aA J,S,bF];grind
 |r+1,0=>by
  simp only[bH];unfold j0;by_cases h:e=0
  .subst h;simp[bF]
  .rw[au J,au J]
 |r+1,p+1=>by
  have aE:=Hl e a r<|p+1;have G:=Hl e a r p;simp only[bH,aE,G];rcases p2 (p+1) e with h|h|h
  .rw[au J,au J,au J];grind
  .subst h;rw[aA<|ct _,au J,aA<|ct _,Ax];simp only[bF];grind
  .obtain⟨d,S⟩:∃d,p+1-e=d+1:=⟨p-e,J⟩;have N:p-e=d:=by omega
   rw[aA J,aA J,aA J,S,N,bF]
   push_cast
   grind
def cK(f:Nat->Rat):Nat->Rat
 |0=>0
 |n+1=>cK f n+f n
theorem kf{f g:Nat->Rat}:∀n,(∀i,i<n->f i=g i)->cK f n=cK g n
 |0,_=>rfl
 |n+1,h=>by
  have:=kf n λi af=>h i J;simp only[cK,this,h n J]
theorem XH(g:Nat->Rat)(p:Nat):∀t,bH (λi=>if i<t then g i else 0) p p=cK (λi=>if i<=p then g i*(bF p i:Rat)else 0) t
 |0=>by
  have:=Hl 0 0 p p;have e:bH (λi=>if i<0 then g i else 0) p p=bH (j0 0 0) p p:=zP (n:=p) (λi _=>by unfold j0;simp) p p<|ct _;rw[e,this];simp[cK]
 |t+1=>by
  have U:=XH g p t;have e:bH (λi=>if i<t+1 then g i else 0) p p=bH (λi=>(if i<t then g i else 0)+j0 t (g t) i) p p:=zP (n:=p) (λi _=>by
   unfold j0;rcases p2 i t with h|h|h
   .rw[aA J,aA h,au J];grind
   .subst h;simp;grind
   .rw[au J,au J,au J];grind) p p<|ct _
  rw[e,MI,U,Hl];simp only[cK];congr 1;split
  .rename_i h;rw[CR p (p-t) t J]
  .rfl
def akj(g:Nat->Rat)(n p:Nat)(hp:p<=n):bH g p p=cK (λi=>if i<=p then g i*(bF p i:Rat)else 0) (n+1):=by
 rw[<-XH];exact zP (n:=p) (λi af=>by rw[aA J]) p p<|ct _
open Go.bI
def Fr(M B:Nat)(x:Rat):Prop:=0<M/\∃n:Int,x*(M:Rat)=(n:Rat)/\n.natAbs<=B*M
variable{M A:Nat}{x:Rat}{B:Nat}{y:Rat}
def qL(h:0<M):(M:Rat)≠0:=λe=>by
 have:M=0:=by exact_mod_cast e
 omega
theorem Hm:Fr M A x->Fr M B y->Fr M (A+B) (x+y)
 |⟨h,n,U,Z⟩,⟨_,m,h4,S⟩=>⟨h,n+m,by push_cast;grind,by rw[fP];omega⟩
theorem akk:Fr M A x->Fr M A (-x)
 |⟨h,n,U,Z⟩=>⟨h,-n,by push_cast;grind,J⟩
def akl(aE:Fr M A x)(aK:Fr M B y):Fr M (A+B) (x-y):=by
 rw[Iv];exact Hm aE<|akk aK
theorem Hn{N:Nat}:Fr M A x->Fr N B y->Fr (M*N) (A*B) (x*y)
 |⟨h,n,U,Z⟩,⟨aK,m,h4,S⟩=>⟨pq h aK,n*m,by push_cast;grind,by
  rw[wq];refine cN (po Z S) ?_;rw[show A*M*(B*N)=A*B*(M*N) by grind];exact ct _⟩
def mV(O:A<=B):Fr M A x->Fr M B x
 |⟨h,n,U,Z⟩=>⟨h,n,U,cN Z<|iZ _ O⟩
theorem xO{N:Nat}(S:M∣N)(dY:0<N):Fr M A x->Fr N A x
 |⟨h,n,U,Z⟩=>by
  obtain⟨k,rfl⟩:=S;refine⟨dY,n*(k:Int),by push_cast;grind,?_⟩;rw[wq,show A*(M*k)=A*M*k by grind];exact po Z J
def akm(h:0<M):Fr M 0 0:=⟨h,0,az,az⟩
def akn:Fr 1 1 1:=⟨av,1,az,az⟩
theorem Ho(x:Rat):x*(x.den:Rat)=(x.num:Rat):=by
 have h:(x.den:Rat)≠0:=qL<|p4 x.den_nz;have:=DY x;rw[ye]at this
 grind
theorem ako(h:0<n):Fr n 1 (1/(n:Rat)):=⟨h,1,by have:=qL h;push_cast;grind,by simp;omega⟩
theorem akp(h:0<n)(O:Fr M A x):Fr (M*n) A (x/(n:Rat)):=by
 have:=Hn O<|ako h;rw[ph]at this;rw[show x/(n:Rat)=x*(1/(n:Rat)) by grind];exact this
theorem XI{M A:Nat}{x:Rat}(h:Fr M A x):∀n:Nat,Fr (M^n) (A^n) (x^n)
 |0=>by simp;exact akn
 |n+1=>by rw[hZ,hZ,m8];exact Hn (XI h n) h
def MJ(x:Rat):Fr x.den x.num.natAbs x:=by
 refine⟨p4 x.den_nz,x.num,?_,?_⟩
 .exact Ho x
 .have:=p4 x.den_nz;exact At _ this
theorem akq:Fr M A x->∃n:Int,x=mkRat n M/\n.natAbs<=A*M/\M≠0
 |⟨h,n,U,Z⟩=>⟨n,by rw[ye];have:=qL h;grind,Z,J⟩
def zQ{a b k:Nat}(h:Fr M A x)(bK:M<2^a)(aa:A<=2^b)(aB:a+b<=32*k):bg k x:=by
 obtain⟨n,e,Y,G⟩:=akq h;rw[e];have z:A*M<2^(a+b):=by
  rw[nJ,hK];exact iR (m4 M aa)<|Ir bK<|k6 av
 exact n9 (XD (iR Y z) aB) (XD bK J) G
set_option maxRecDepth 100000
set_option maxHeartbeats 4000000
variable{α:Type}{f:Rat->Rat->Rat}{l:ac Rat}{i a b:Nat}
def jX(n:Int):Rat:=mkRat n 1
def MK(n:Int):(jX n).num=n/\(jX n).den=1:=by
 obtain⟨a,b⟩:=Ma n 1 av;unfold jX;rw[a,b];simp
def ML(n m:Bool)(a b:Nat):bM (n != m) (a*b)=bM n a*bM m b:=by cases n<;>cases m<;>simp[bM,Int.neg_mul,Int.mul_neg]
def mg:b4 52 (cR λ((x,y):Rat×Rat)=>([bQ x,bQ y],bg 268435456 x/\bg 268435456 y,bQ<|x*y)):=by
 refine cJ [kd,oV,lk] U6.1 ?_;intro⟨x,y⟩ ⟨(O:bg _ x),(N:bg _ y)⟩ H ax;refine U 13<|cS oV (x.num.natAbs,y.num.natAbs) ⟨c1 O.1,c1 N.1⟩<|U 1<|cS kd x aP<|U 1<|cS kd y aP<|cS oV (x.den,y.den) ⟨c1 O.2,c1 N.2⟩<|U 5<|cS lk (decide (x.num<0) != decide (y.num<0),x.num.natAbs*y.num.natAbs,x.den*y.den) ⟨c1<|jZ O.1 N.1,c1<|jZ O.2 N.2,uT x.den_nz y.den_nz⟩<|U 4<|eK (congrArg bQ ?_);show mkRat (bM _ _) _=x*y;rw[ML,<-zx,<-zx,Rat.mul_def']
def zR:b4 101 (cR λ((x,y):Rat×Rat)=>([bQ x,bQ y],bg 268435456 x/\bg 268435456 y/\0<y.num,.br [bQ<|mkRat (x.num*(y.den:Int))<|x.den*y.num.natAbs,.ae 0])):=by
 refine cJ [kU,kd,oV,lk] Tp.1 ?_;intro⟨x,y⟩ ⟨(O:bg _ x),(N:bg _ y),(T:0<y.num)⟩ H ax;refine U 12<|bn kU y aP<|U 3<|eC (λh=>?_) λh=>?_
 .have h:y.num=0:=wo.1 h;omega
 refine U 5<|cS kd y aP<|U 2<|cS oV (x.num.natAbs,y.den) ⟨c1 O.1,c1 N.2⟩<|U 1<|cS kd x aP<|U 2<|cS oV (x.den,y.num.natAbs) ⟨c1 O.2,c1 N.1⟩<|U 5<|cS lk (decide (x.num<0) != decide (y.num<0),x.num.natAbs*y.den,x.den*y.num.natAbs) ⟨c1<|jZ O.1 N.2,c1<|jZ O.2 N.1,uT x.den_nz J⟩<|U 5<|eK (congrArg (λq=>ai.br [bQ q,.ae 0]) ?_);show mkRat (bM (decide (x.num<0) != decide (y.num<0)) _) _=_;rw[dk (show¬y.num<0 by omega),ML,<-zx];rfl
def akr:da:=cR λ(x:fD)=>([.agg<|e7 x],True,bQ x.1)
def aks:da:=cR λ(x:fD)=>([.agg<|e7 x],True,bQ x.2)
def CS:b4 14 akr:=by
 refine cJ [] TM.1 ?_;intro x _ H ax;refine st ?_;exact apo
def CT:b4 15 aks:=by
 refine cJ [] UY.1 ?_;intro x _ H ax;refine st ?_;exact apo
def akt:da:=cR λ(x:fD)=>([.agg<|e7 x],bg 250 x.1/\bg 250 x.2,bQ<|x.2-x.1)
def XJ:b4 78 akt:=by
 refine cJ [oW] UB.1 ?_;intro x ⟨(Y:bg 250 x.1),(G:bg 250 x.2)⟩ H ax;refine st ?_;refine bn oW (x.2,x.1) ⟨b0 G,b0 Y⟩ ?_;refine st ?_;exact apo
theorem Hp(h:0<y.num):mkRat (x.num*(y.den:Int)) (x.den*y.num.natAbs)=x/y:=by
 have O:=Ho x;have N:=Ho y;have W:=qL<|p4 x.den_nz;have F:=qL<|p4 y.den_nz;have e:((y.num.natAbs:Nat):Rat)=(y.num:Rat):=by
  have:((y.num.natAbs:Nat):Int)=y.num:=Int.natAbs_of_nonneg J
  exact_mod_cast congrArg (λz:Int=>(z:Rat)) this
 have aj:(y.num:Rat)≠0:=λT=>by
  have:y.num=0:=by exact_mod_cast T
  omega
 have v:y≠0:=λT=>aj (by rw[<-N,T];grind);rw[ye]
 push_cast
 rw[e,<-O,<-N]
 grind
def XK:da where
 L:=Rat×Rat
 args:=λ(x,y)=>[bQ x,bQ y]
 pre:=λ(x,y)=>bg 268435456 x/\bg 268435456 y/\0<y.num
 res:=λ(x,y)=>bQ<|x/y
def XL:eb cv.ctx 77 XK.spec:=by
 refine cJ [zR] Tm.1 ?_;intro⟨x,y⟩ ⟨(Y:bg _ x),(G:bg _ y),(C:0<y.num)⟩ H ax;refine st ?_;refine bn zR (x,y) ⟨Y,G,C⟩ ?_;refine a9 10 (.br [bQ<|x/y,.i .i64 0]) o asm ?_;refine st ?_;exact apo
def MM:eb cv.ctx 57 XK.spec:=by
 refine cJ [zR] TT.1 ?_;intro⟨x,y⟩ ⟨(Y:bg _ x),(G:bg _ y),(C:0<y.num)⟩ H ax;refine st ?_;refine bn zR (x,y) ⟨Y,G,C⟩ ?_;refine a9 10 (.br [bQ<|x/y,.i .i64 0]) o asm ?_;refine st ?_;exact apo
theorem mW(n:Int):jX n=(n:Rat):=by unfold jX;rw[ye];grind
def s7{n:Int}(aE: -9223372036854775808<=n)(aK:n<9223372036854775808):bg 2 (jX n):=pO n aE aK
def XM:b4 51 (cR λ((a,b):Nat×Nat)=>([.ae (a:Int),.ae (b:Int)],a<9223372036854775808/\b<9223372036854775808/\0<b,.br [bQ<|(a:Rat)/(b:Rat),.ae 0])):=by
 refine cJ [jk,zR] U5.1 ?_;intro⟨a,b⟩ ⟨(Y:a<_),(G:b<_),(C:0<b)⟩ H ax;refine U 9<|bn jk (a:Int) ⟨by show -9223372036854775808<=(a:Int);omega,by show(a:Int)<9223372036854775808;omega⟩<|U 1<|bn jk (b:Int) ⟨by show -9223372036854775808<=(b:Int);omega,by show(b:Int)<9223372036854775808;omega⟩ ?_;have aa:(jX (b:Int)).num=(b:Int):=(MK _).1;exact bn zR (jX (a:Int),jX (b:Int)) ⟨b0<|s7 J J,b0<|s7 J J,by rw[aa];omega⟩<|a9 10 (.br [bQ<|(a:Rat)/(b:Rat),.ae 0]) o (by show ai.br [bQ<|mkRat _ _,_]=_;rw[Hp<|by rw[aa];omega,mW,mW];push_cast;rfl)<|U 7<|fc
def Hq(x:Rat):Nat:=max (ez x.num.natAbs).length (ez x.den).length
def aku:da:=n0 im im.up λ(x:Rat)=>([bQ x],bg 268435456 x,.ae (Hq x:Nat))
def akv(a b:Nat):max (a:Int) (b:Int)=((max a b:Nat):Int):=J
def XN:b4 55 aku:=by
 refine mM [zA,kd] Tj.1 ?_;intro(x:Rat) (O:bg _ x) H ax F;have d:=zB O.1;have Z:=zB O.2;refine st ?_;refine cS zA x.num.natAbs (c1 O.1) ?_ (cl:=F);refine st ?_;refine cS kd x aP ?_;refine st ?_;refine cS zA x.den (c1 O.2) ?_ (cl:=F);refine st ?_;exact bh<|dc o o (.of<|by show ai.i .i64 _=ai.i .i64 _;unfold Hq;congr 1;omega)
def gj(x:Rat):Bool:=decide (2000<(Hq x:Int))
def akw:da:=n0 im im.up λ(x:Rat)=>([bQ x],bg 268435456 x,.b<|gj x)
def XO:b4 54 akw:=by
 refine mM [XN] Uy.1 ?_;intro(x:Rat) (O:bg _ x) H ax F;refine st ?_;refine bn XN x O ?_ (cl:=F);refine st ?_;exact apo
def MN:ai:=.fn (.func 54) [] []
def gG{α:Type}(q:α->Bool):ac α->Nat->Int
 |[],_=> -1
 |x::l,k=>if q x=true then(k:Int)else gG q l (k+1)
theorem XP{α:Type}(q:α->Bool):∀(l:ac α) (k:Nat),decide (0<=gG q l k)=l.any q
 |[],_=>rfl
 |x::l,k=>by
  unfold gG;cases h:q x with
  |true=>simp[h]
  |false=>
   rw[au av,XP q l<|k+1];simp[h]
def akx:da where
 L:=ac Rat
 args:=λl=>[.bs 3 Rat cc l,MN]
 pre:=λl=>l.length<=1048576/\∀x,x∈l->bg 268435456 x
 res:=λl=>.i .i64 (gG gj l 0)
 hp:=im
 hm:=im.up
def XQ:b4 102 akx:=by
 refine mM [XO] T7.1 ?_;intro(l:ac Rat) ⟨(W:l.length<=1048576),(d:∀x,x∈l->bg _ x)⟩ H ax F;refine st ?_;refine dN (L:=Nat) (λk=>k<=l.length/\gG gj (l.drop k) k=gG gj l 0) (λ(k:Nat)=>⟨[],0,[(0,.bs 3 Rat cc l),(1,MN),(6,.bs 3 Rat cc l),(7,.i .i64 (l.length:Int)),(8,.i .i64 (k:Int))]⟩) (λk=>l.length-k) [] 0 apl aq9 cb ?_;rintro(k:Nat) ⟨E,aH⟩;refine bf 9 ?_;by_cases aT:k<l.length
 .refine v1 9 aoQ ?_;refine st ?_;refine hh l[k] aq6 ?_;refine st ?_;rw[hL aT]at aH;refine vw XO l[k] (d _<|ha aT) ?_ (cl:=F);cases h:gj l[k]with
  |true=>
   refine jv 16 h ?_;refine st ?_;exact bh (dc o o (.of<|by show ai.i _ _=ai.i .i64 (gG gj l 0);rw[<-aH];unfold gG;rw[aA h]))
  |false=>
   refine jv 16 h ?_;refine bf 18 ?_;refine b5 18 ((k+1:Nat):Int) ?_;refine st ?_;refine bL [] (k+1) ⟨J,aT,?_⟩ cb;rw[<-aH];conv=>rhs;unfold gG
   rw[au asn]
 .refine v0 9 aq5 ?_;refine st ?_;exact bh<|dc o o (.of<|by show ai.i _ _=ai.i .i64 (gG gj l 0);rw[<-aH,th J];rfl)
def aky:da where
 L:=ac Rat
 args:=λl=>[.bs 3 Rat cc l,MN]
 pre:=λl=>l.length<=1048576/\∀x,x∈l->bg 268435456 x
 res:=λl=>.b (l.any gj)
 hp:=im
 hm:=im.up
def XR:b4 53 aky:=by
 refine mM [XQ] Ti.1 ?_;intro(l:ac Rat) W H ax F;refine st ?_;refine bn XQ l W ?_ (cl:=F);refine st ?_;exact bh<|dc o o<|.of<|cj<|XP gj l 0
def akz:da:=n0 im im.up λ(l:ac Rat)=>([.bs 3 Rat cc l],l.length<=1048576/\∀x,x∈l->bg 268435456 x,.b<|!l.any gj)
def CU:b4 19 akz:=by
 refine mM [XR] Us.1 ?_;intro(l:ac Rat) W H ax F;refine st ?_;refine bn XR l W ?_ (cl:=F) (he:=by exact arf);refine st ?_;exact apo
def fL(n:Nat):ac ai:=[.ae (n:Int)]
def iu(n:Nat):Bool:=decide (0<(n:Int))
def XS:da:=cR λ(n:Nat)=>([.ae (n:Int)],True,.b<|iu n)
def XT:b4 48 XS:=by
 refine cJ [] U4.1 ?_;intro(n:Nat) _ H ax;refine st ?_;exact apo
def XU:b4 49 XS:=by
 refine cJ [] Th.1 ?_;intro(n:Nat) _ H ax;refine st ?_;exact apo
def XV:Bool->ai
 |true=>.fn (.func 48) [] []
 |false=>.fn (.func 49) [] []
def akA:da where
 L:=ac Nat×Bool
 args:=λ(l,b)=>[.bs 1 Nat fL l,XV b]
 pre:=λ(l,_)=>l.length<=1048576
 res:=λ(l,_)=>.i .i64<|gG iu l 0
def MO:b4 47 akA:=by
 refine cJ [XT,XU] U3.1 ?_;intro⟨l,b⟩ (W:l.length<=1048576) H ax;refine st ?_;refine dN (L:=Nat) (λk=>k<=l.length/\gG iu (l.drop k) k=gG iu l 0) (λ(k:Nat)=>⟨[],0,[(0,.bs 1 Nat fL l),(1,XV b),(6,.bs 1 Nat fL l),(7,.i .i64 (l.length:Int)),(8,.i .i64 (k:Int))]⟩) (λk=>l.length-k) [] 0 apl aq9 (by cases b<;>exact cb) ?_;rintro(k:Nat) ⟨E,aH⟩;refine bf 9 ?_;by_cases aT:k<l.length
 .refine v1 9 aoQ ?_;refine st ?_;refine hh l[k] aq6 ?_;refine st ?_;rw[hL aT]at aH;have bU:gG iu (l[k]::l.drop (k+1)) k=if iu l[k]=true then(k:Int)else gG iu (l.drop<|k+1) (k+1):=rfl;rw[bU]at aH;cases b with
  |true=>
   refine vw XT l[k] aP ?_;cases h:iu l[k]with
   |true=>
    rw[aA h]at aH;refine jv 16 h ?_;refine st ?_;exact ap0
   |false=>
    rw[au asn]at aH;refine jv 16 h ?_;refine bf 18 ?_;refine b5 18 ((k+1:Nat):Int) ?_;refine st ?_;exact asc
  |false=>
   refine vw XU l[k] aP ?_;cases h:iu l[k]with
   |true=>
    rw[aA h]at aH;refine jv 16 h ?_;refine st ?_;exact ap0
   |false=>
    rw[au asn]at aH;refine jv 16 h ?_;refine bf 18 ?_;refine b5 18 ((k+1:Nat):Int) ?_;refine st ?_;exact asc
 .refine v0 9 aq5 ?_;refine st ?_;rw[th J]at aH;exact bh<|dc o o (.of<|by show ai.i .i64 _=ai.i .i64 (gG iu l 0);rw[<-aH];rfl)
def lS(d:ac Nat):Int:=if 0<=gG iu d 0/\0<=gG iu (d.drop<|(gG iu d 0).toNat+1) 0 then -1 else gG iu d 0
theorem XW{α:Type}(q:α->Bool):∀(l:ac α) (k:Nat),-1<=gG q l k/\gG q l k<((k+l.length:Nat):Int)\/gG q l k= -1
 |[],k=>.inr o
 |x::l,k=>by
  have:=XW q l<|k+1;unfold gG;split
  .left;simp;omega
  .simp only[iQ];omega
def akB:da:=cR λ(d:ac Nat)=>([.bs 1 Nat fL d],d.length<=1048576,.ae<|lS d)
def XX:b4 12 akB:=by
 refine cJ [MO] TL.1 ?_;intro(d:ac Nat) (S:d.length<=1048576) H ax;refine st ?_;refine bn MO (d,true) S ?_ (he:=by exact arf);have aw:=XW iu d 0;refine bf 7 ?_;by_cases h:0<=gG iu d 0
 case neg=>
  refine v0 7 h ?_;refine st ?_;exact bh<|dc o o (.of<|by show _=ai.i .i64 (lS d);unfold lS;rw[au λD=>h D.1];rfl)
 obtain⟨a,g⟩:∃a:Nat,gG iu d 0=(a:Int):=⟨(gG iu d 0).toNat,J⟩;have P:a<d.length:=J
 refine v1 7 h ?_;refine bf 11 ?_;refine a9 11 (.i .i64 ((a+1:Nat):Int)) o (by rw[g];exact gg o J J) ?_;refine st ?_;refine aea (p:=a+1) (d.drop<|a+1) ?_ (aI:=by rw[pn<|by rw[m5];omega]);refine st ?_;refine bn MO (d.drop<|a+1,false) (by show(d.drop<|a+1).length<=_;rw[m5];omega) ?_ (he:=by exact arf);refine bf 14 ?_;have e:lS d=if 0<=gG iu (d.drop<|a+1) 0 then -1 else gG iu d 0:=by
  unfold lS;rw[g,tb];by_cases G:0<=gG iu (d.drop<|a+1) 0
  .rw[aA ⟨J,G⟩,aA G]
  .rw[au λD=>G D.2,au G]
 by_cases G:0<=gG iu (d.drop<|a+1) 0
 .rw[aA G]at e;refine v1 14 G ?_;refine st ?_;exact ark
 .rw[au G]at e;refine v0 14 G ?_;refine st ?_;exact ark
def o2(m x:Rat):Rat:=if x<m then x else m
def o3(m x:Rat):Rat:=if m<x then x else m
def zS(l:ac Rat):Rat:=l.tail.foldl o2<|l.headD 0
def zT(l:ac Rat):Rat:=l.tail.foldl o3<|l.headD 0
theorem XY{f:Rat->Rat->Rat}(D:∀a b,f a b=a\/f a b=b):∀(l:ac Rat) (a:Rat),l.foldl f a=a\/l.foldl f a∈l
 |[],a=>.inl o
 |x::l,a=>by
  rcases XY D l (f a x)with h|h
  .rcases D a x with g|g
   .left;show l.foldl f (f a x)=a;rw[h,g]
   .right;show l.foldl f (f a x)∈x::l;rw[h,g];exact gT
  .right;exact e3 _ h
def XZ(a b:Rat):o2 a b=a\/o2 a b=b:=by unfold o2;split<;>simp
def X0(a b:Rat):o3 a b=a\/o3 a b=b:=by unfold o3;split<;>simp
def Hr(D:∀a b,f a b=a\/f a b=b)(h:l≠[]):l.tail.foldl f (l.headD 0)∈l:=by
 cases l with
 |nil=>exact absurd o h
 |cons x l=>
  rcases XY D l x with g|g
  .show l.foldl f x∈_;rw[g];exact gT
  .exact e3 _ g
def X1{k:Nat}(bS:0<k)(aB:k<l.length):(l.take<|k+1).tail.foldl f ((l.take<|k+1).headD 0)=f ((l.take k).tail.foldl f<|(l.take k).headD 0) l[k]:=by
 cases l with
 |nil=>simp at aB
 |cons x l=>
  obtain⟨j,rfl⟩:∃j,k=j+1:=⟨k-1,J⟩;have d:j<l.length:=by simpa using aB
  show(l.take<|j+1).foldl f x=f ((l.take j).foldl f x) l[j];rw[<-List.take_append_getElem d,D4];rfl
def Hs:ai:=.fn (.func 8) [] []
def X2:da:=cR λ(l:ac Rat)=>([.bs 3 Rat cc l,Hs],l≠[]/\l.length<=1048576/\∀x,x∈l->bg 268435456 x,bQ<|zS l)
def akC:eb cv.ctx 17 X2.spec:=by
 refine cJ [lR] Ta.1 ?_;intro(l:ac Rat) ⟨(O:l≠[]),(W:l.length<=1048576),(d:∀x,x∈l->bg _ x)⟩ H ax;have T:0<l.length:=qY.2 O;refine bf 9 ?_;refine v0 9 (show¬(l.length:Int)<1 by omega) ?_;refine st ?_;refine hh (j:=0) l[0] (ba T) ?_;refine st ?_;refine dN (L:=Nat×Rat) (λ(k,m)=>1<=k/\k<=l.length/\m∈l/\m=(l.take k).tail.foldl o2 ((l.take k).headD 0)) (λ(k,m)=>⟨[.c 27 [.b false,.nl,.nl],.c 27<|cc m],2,[(0,.bs 3 Rat cc l),(1,Hs),(4,.p 0 0),(5,.p 1 0),(6,.i .i64 (k:Int))]⟩) (λx=>l.length-x.1) [0,1] (1,l[0]) arM asA cb ?_;rintro⟨k,m⟩ ⟨a5,E,hm,aH⟩;refine bf 17 ?_;by_cases aT:k<l.length
 .have F:=X1 (f:=o2) a5 aT;rw[<-aH]at F;refine v1 17 aoQ ?_;refine st ?_;refine tP l[k] aq6 ?_;refine st ?_;refine np lR (l[k],m) ⟨d _<|ha aT,d _ hm⟩ ?_;refine bf 27 ?_;by_cases ah:l[k]<m
  .rw[show o2 m l[k]=l[k]from aA ah]at F;refine a9 27 (.b true) o (cj<|c9<|Mm.2 ah) ?_;refine st ?_;refine hh l[k] aq6 ?_;refine bf 19 ?_;refine b5 19 ((k+1:Nat):Int) ?_;refine st ?_;exact aqp
  .rw[show o2 m l[k]=m from au ah]at F;refine a9 27 (.b false) o (cj<|dk λh=>ah<|Mm.1 h) ?_;refine bf 19 ?_;refine b5 19 ((k+1:Nat):Int) ?_;refine st ?_;exact aqG
 .have V:k=l.length:=by omega
  subst V;rw[nG]at aH;refine v0 17 aoY ?_;refine st ?_;exact ap0
def X3:da:=cR λ(l:ac Rat)=>([.bs 3 Rat cc l,Hs],l≠[]/\l.length<=1048576/\∀x,x∈l->bg 268435456 x,bQ<|zT l)
def akD:eb cv.ctx 18 X3.spec:=by
 refine cJ [lR] Ur.1 ?_;intro(l:ac Rat) ⟨(O:l≠[]),(W:l.length<=1048576),(d:∀x,x∈l->bg _ x)⟩ H ax;have T:0<l.length:=qY.2 O;refine bf 9 ?_;refine v0 9 (show¬(l.length:Int)<1 by omega) ?_;refine st ?_;refine hh (j:=0) l[0] (ba T) ?_;refine st ?_;refine dN (L:=Nat×Rat) (λ(k,m)=>1<=k/\k<=l.length/\m∈l/\m=(l.take k).tail.foldl o3 ((l.take k).headD 0)) (λ(k,m)=>⟨[.c 27 [.b false,.nl,.nl],.c 27<|cc m],2,[(0,.bs 3 Rat cc l),(1,Hs),(4,.p 0 0),(5,.p 1 0),(6,.i .i64 (k:Int))]⟩) (λx=>l.length-x.1) [0,1] (1,l[0]) arM asA cb ?_;rintro⟨k,m⟩ ⟨a5,E,hm,aH⟩;refine bf 17 ?_;by_cases aT:k<l.length
 .have F:=X1 (f:=o3) a5 aT;rw[<-aH]at F;refine v1 17 aoQ ?_;refine st ?_;refine tP l[k] aq6 ?_;refine st ?_;refine np lR (l[k],m) ⟨d _<|ha aT,d _ hm⟩ ?_;refine bf 27 ?_;by_cases ah:m<l[k]
  .rw[show o3 m l[k]=l[k]from aA ah]at F;refine a9 27 (.b true) o (cj<|c9<|ue.2 ah) ?_;refine st ?_;refine hh l[k] aq6 ?_;refine bf 19 ?_;refine b5 19 ((k+1:Nat):Int) ?_;refine st ?_;exact aqp
  .rw[show o3 m l[k]=m from au ah]at F;refine a9 27 (.b false) o (cj<|dk λh=>ah<|ue.1 h) ?_;refine bf 19 ?_;refine b5 19 ((k+1:Nat):Int) ?_;refine st ?_;exact aqG
 .have V:k=l.length:=by omega
  subst V;rw[nG]at aH;refine v0 17 aoY ?_;refine st ?_;exact ap0
def bW(n:Nat)(f:Nat->α):ac α:=(List.range n).map f
def iv(n:Nat)(f:Nat->α):(bW n f).length=n:=by unfold bW;simp
def iN(f:Nat->α)(h:i<n):(bW n f)[i]? =some (f i):=by unfold bW;simp[h]
def uo(f:Nat->α)(v:α):(bW n f).set i v=bW n (λj=>if j=i then v else f j):=by
 apply pf;intro j;unfold bW;rw[mq];by_cases d:i=j
 .subst d;simp;by_cases aj:i<n
  .simp[aj]
  .simp[aj]
 .simp[d];by_cases aj:j<n<;>simp[aj,Ne.symm d]
def mh{f g:Nat->α}(h:∀i,i<n->f i=g i):bW n f=bW n g:=Dt λi af=>h i<|Dz.1 af
def X4(n:Nat)(f:Nat->α):bW (n+1) f=bW n f++[f n]:=by unfold bW;rw[Ij,oq];rfl
def MP{f:Nat->α}{x:α}(h:x∈bW n f):∃i,i<n/\x=f i:=by
 unfold bW at h;obtain⟨i,af,e⟩:=db.1 h;exact⟨i,Dz.1 af,e.symm⟩
def akE(n:Nat)(a:α):List.replicate n a=bW n (λ_=>a):=by
 apply pf;intro j;unfold bW;by_cases h:j<n<;>simp[h]
def gH(c:Nat->Rat)(n k:Nat):Rat:=if k=0 then c 0 else if k=n then c (n-1)else c k+(k:Rat)/(n:Rat)*(c (k-1)-c k)
def lT(aE:bg a x)(aK:bg b y):bg (a+b) (x*y):=by
 rw[Rat.mul_def'];exact n9 (by rw[wq];exact jZ aE.1 aK.1) (jZ aE.2 aK.2)<|uT x.den_nz y.den_nz
def MQ(bK:a<18446744073709551616)(aa:b<18446744073709551616)(bS:0<b):bg 2 ((a:Rat)/(b:Rat)):=by
 have:=n9 (n:=a) (iM J) (iM aa) J;rw[ye]at this;exact this
def akF:da:=cR λ((n,c):Nat×(Nat->Rat))=>([.bs 3 Rat cc<|bW n c],1<=n/\n<=1048576/\∀i,i<n->bg 60000000 (c i),.bs 3 Rat cc<|bW (n+1)<|gH c n)
def X5:b4 16 akF:=by
 refine cJ [XM,oW,mg,pN] Uq.1 ?_;intro⟨n,c⟩ ⟨(aj:1<=n),(W:n<=1048576),(d:∀i,i<n->bg 60000000 (c i))⟩ H ax;refine bf 9 ?_;refine a9 9 (.i .i64 (n:Int)) o (by rw[iv]) ?_;refine st ?_;refine hh (j:=0) (c 0) (iN c aj) ?_;refine bf 13 ?_;refine kb (z:=3) 0 cc [c 0] ?_;refine st ?_;refine dN (L:=Nat×Bool) (λ(k,g)=>1<=k/\k<=n) (λ(k,g)=>⟨[.a 27 g 3 Rat cc<|bW k<|gH c n],1,[(0,.bs 3 Rat cc<|bW n c),(3,.i .i64 (n:Int)),(4,.aL 0 3 0 (bW k<|gH c n).length (bW k<|gH c n).length),(5,.i .i64 (k:Int))]⟩) (λx=>n-x.1) [0] (1,false) ⟨ct _,aj⟩ (by show n-1<bz+1;unfold bz;omega) cb ?_;rintro⟨k,g⟩ ⟨a5,E⟩;have V:=iv k<|gH c n;have v:=X4 k<|gH c n;refine bf 16 ?_;by_cases aT:k<n
 .have e:gH c n k=c k+(k:Rat)/(n:Rat)*(c (k-1)-c k):=by unfold gH;rw[au J,au J]
  have hD:=d k aT;have hY:=d (k-1) J;have P:=s3 hY hD;have h:=lT (MQ (a:=k) (b:=n) J J J) P;refine v1 16 (show(k:Int)<(n:Int) by omega) ?_;refine st ?_;refine bn XM (k,n) ⟨by show k<_;omega,by show n<_;omega,by show 0<n;omega⟩ ?_;refine bf 33 ?_;refine ww 33 ((k-1:Nat):Int) ?_;refine st ?_;refine tP (c<|k-1) (iN (n:=n) (i:=k-1) c J) ?_;refine st ?_;refine tP (c k) (iN c aT) ?_;refine st ?_;refine cS oW (c<|k-1,c k) ⟨b0 hY,b0 hD⟩ ?_;refine st ?_;refine cS mg ((k:Rat)/(n:Rat),c (k-1)-c k) ⟨b0<|MQ J J J,b0 P⟩ ?_;refine st ?_;refine tP (c k) (iN c aT) ?_;refine st ?_;refine cS pN (c k,(k:Rat)/(n:Rat)*(c (k-1)-c k)) ⟨b0 hD,b0 h⟩ ?_;refine st ?_;cases g with
  |false=>
   refine afa (ak:=cc) (a5:=0) (n:=(bW k<|gH c n).length) (c:=(bW k<|gH c n).length) (l:=bW k<|gH c n) [gH c n k] (bW (k+1)<|gH c n) (hg (ak:=cc) [gH c n k] arT) ?_ az az (by rw[nG,v]) as6;refine bf 18 ?_;refine b5 18 ((k+1:Nat):Int) ?_;refine st ?_;exact ar3
  |true=>
   refine afb (ak:=cc) (a5:=0) (l:=bW k<|gH c n) [gH c n k] (bW (k+1)<|gH c n) (hg (ak:=cc) [gH c n k] arT) ?_ az v.symm as6;refine bf 18 ?_;refine b5 18 ((k+1:Nat):Int) ?_;refine st ?_;exact ar3
 .have D:k=n:=by omega
  subst D;have e:gH c k k=c (k-1):=by unfold gH;rw[au J,aA o]
  refine v0 16 (show¬(k:Int)<(k:Int) by omega) ?_;refine bf 48 ?_;refine b5 48 ((k-1:Nat):Int) ?_;refine st ?_;refine hh (c<|k-1) (iN (n:=k) (i:=k-1) c J) ?_;refine st ?_;cases g with
  |false=>
   refine K5 (ak:=cc) (a5:=0) (n:=(bW k<|gH c k).length) (c:=(bW k<|gH c k).length) (l:=bW k<|gH c k) [gH c k k] (hg (ak:=cc) [gH c k k] arT) (bW (k+1)<|gH c k) ?_ (aI:=by rw[nG,v]) (aa:=by first|(simp;done)|(simp;omega));refine ju 52 ?_ (aj:=by rw[v];first|(simp;done)|(simp;omega));refine st ?_;exact apo
  |true=>
   refine qB (ak:=cc) (l:=bW k<|gH c k) [gH c k k] (hg (ak:=cc) [gH c k k] arT) ?_ (aa:=by first|(simp;done)|(simp;omega));refine ju 52 ?_ (aj:=az);refine st ?_;exact bh<|dc o o (.of<|by show ai.bs 3 Rat cc (_++_)=ai.bs 3 Rat cc (bW (k+1)<|gH c k);rw[v])
