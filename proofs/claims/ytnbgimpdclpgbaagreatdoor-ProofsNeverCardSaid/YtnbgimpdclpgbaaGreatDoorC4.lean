/- What the functions of the program and of the document compute, for every input, and the plain laws of it (part 4); conditions as in the statements. -/
import Derived.Sort.Defs
import Derived.Sort.AssemblyPlain
import Derived.Test.YtnbgimpdclpgbaaGreatDoorC3
import Derived.Test.YtnbgimpdclpgbaaGreatDoorS3
import Derived.Test.YtnbgimpdclpgbaaGreatDoorC2
import Derived.Test.YtnbgimpdclpgbaaGreatDoorS2
noncomputable section
set_option linter.all false
namespace Go.bA.c3
open Go.bA
set_option maxRecDepth 100000
set_option maxHeartbeats 4000000
variable{n:Nat}{s:dR}{x:iO}{c:Rat}{m a:Nat}{f:Poly}{bL:ac gm}{l:ac iO}{e:Int}{P:Poly}{t:dj}{b:Nat}{g qZ:Poly}{y:Int}
def aog(p:ec)(bL:ac gm)(l:ac dR)(k:Nat):ac iO->cl
 |[]=>⟨[.c 27<|iB p],1,[(1,.cU 6 gm lF bL),(3,.p 0 0),(38,.c6 3 dR k6 l),(39,.aa l.length),(40,.aa (k:Nat)),(9,.nl)]⟩
 |x::xs=>⟨[.c 27<|iB p,.a 194 true 5 iO vc<|x::xs],2,[(1,.cU 6 gm lF bL),(3,.p 0 0),(38,.c6 3 dR k6 l),(39,.aa l.length),(40,.aa (k:Nat)),(9,.aK 1 5 0 (xs.length+1)<|xs.length+1)]⟩
def CL(r:ac iO):Except Int (ac iO)->Except Int (ac iO)
 |.ok xs=>.ok (r++xs)
 |.error e=>.error e
def CM{l:ac dR}(h:kL n s= .error e)(r:ac iO):CL r (h0 n<|s::l)= .error e:=by
 unfold h0;rw[h];rfl
def aoh{l:ac dR}(h:kL n s= .ok x)(r:ac iO):CL r (h0 n<|s::l)=CL (r++[x]) (h0 n l):=by
 show CL r (match kL n s with
  |.ok x=>(match h0 n l with
   |.ok xs=>.ok (x::xs)
   |.error e=>.error e)
  |.error e=>.error e)=_
 rw[h];cases h0 n l with
 |error e=>rfl
 |ok xs=>show Except.ok (r++x::xs)=Except.ok ((r++[x])++xs);rw[rh];rfl
def aoi(h:hy s.b8=none):kL n s= .error (g3 s.b8):=by unfold kL;rw[h]
def Nd(h:hy s.b8=some c)(aL:¬(¬c<0/\-1<=s.iN/\s.iN<(n:Int))):kL n s= .error 7:=by unfold kL;rw[h];exact aw aL
def aoj(h:hy s.b8=some c)(aL:¬c<0/\-1<=s.iN/\s.iN<(n:Int)):kL n s=(match kK n [] s.dr with
 |.ok f=>.ok ⟨c,s.iN,f⟩
 |.error e=>.error e):=by unfold kL;rw[h];exact aE aL
def Zc{l:ac dj}(h:l7 n t= .error e):kK n P (t::l)= .error e:=by
 show(match l7 n t with
  |.ok j=>kK n (eC P j.1 j.2) l
  |.error c=>.error c)=_
 rw[h]
def Zd{l:ac dj}{j:aO×Rat}(h:l7 n t= .ok j):kK n P (t::l)=kK n (eC P j.1 j.2) l:=by
 show(match l7 n t with
  |.ok j=>kK n (eC P j.1 j.2) l
  |.error c=>.error c)=_
 rw[h]
def Ze(l m:ac dj):jD (l++m)=jD l+jD m:=by unfold jD;rw[oY,M1]
def aok{l:ac dj}{J:Nat}(h:J<l.length):jD (l.take<|J+1)=jD (l.take J)+(l[J].b8.length/9+3):=by
 rw[kd h,Ze];rfl
def Zf(l:ac dj)(J:Nat):jD (l.take J)<=jD l:=by
 have h:=Ze (l.take J)<|l.drop J;rw[ob]at h;omega
def e9.up{j u l9:Nat}(h:e9 n m a f)(aF:n<=j)(aL:m<=u)(D:a<=l9):e9 j u l9 f:=⟨h.s,h.z,cC h.l aF,(λp hp=>by have:=h.k p hp;unfold aO.le at this ⊢;omega),λp hp=>eb (h.b p hp) D⟩
def e9.gB(h:e9 n m a f)(hm:m<2048):∀p∈f,p.1.gB:=λp hp=>xv<|Hq (h.k p hp) hm
def e9.ik(h:e9 n m a f)(hm:m<2048)(aA:a<=b):∀p∈f,p.1.ik/\b9 b p.2:=λp hp=>⟨Hq (h.k p hp) hm,eb (h.b p hp) aA⟩
def e9.zH(h:e9 n m a f)(hm:m<2048)(aA:a<=b):∀p∈f,p.1.gB/\b9 b p.2:=λp hp=>⟨xv<|Hq (h.k p hp) hm,eb (h.b p hp) aA⟩
def CN{S:Poly}:kb bL S (x::l)=(match l8 bL x with
 |some g=>if lE (fC S x.c g)=true then kb bL (fC S x.c g) l else none
 |none=>none):=rfl
def aol{S:Poly}(cz:l8 bL x=some g)(j:fC S x.c g=qZ)(h:lE qZ=true):kb bL S (x::l)=kb bL qZ l:=by
 rw[CN,cz];subst j;exact aE h
def aom{S:Poly}(cz:l8 bL x=some g)(j:fC S x.c g=qZ)(h:¬lE qZ=true):kb bL S (x::l)=none:=by
 rw[CN,cz];subst j;exact aw h
def aon{S:Poly}(cz:l8 bL x=none):kb bL S (x::l)=none:=by
 rw[CN,cz]
def aoo(h:¬c<0):0<=c.num.sign:=Int.sign_nonneg_iff.2<|Dw.2<|so.1 h
def aop(h:0<=c.num.sign):¬c<0:=so.2<|Dw.1<|Int.sign_nonneg_iff.1 h
def Zg:kD bS.ctx 32 Nc.spec:=by
 refine xw [(88,zE),(98,M7),(17,uO),(100,YV),(99,zu.jb Ci),(59,w4),(101,YO),(102,YL),(103,YS),(105,YQ),(104,YG)] UQ.1 ?_;rintro⟨p,bL,l⟩ ⟨(hp:p.ins.length<=6),(bI:bL.length=p.ins.length),(bz:∀v∈bL,b9 250 v.1/\b9 250 v.2),(aY:∀s∈l,s.b8.length<=3000/\(∀t∈s.dr,t.b8.length<=3000)/\jD s.dr<=1000)⟩ H au _;have ba:¬(l.length<=20/\(∀s∈l,s.dr.length<=200))->vd p.ins.length bL l= .aR (ed 3):=λh=>aw h;refine st ?_;by_cases aD:l.length<=20
 case neg=>
  refine c2 24<|st ?_;refine kp jh (false,3) aC (ed 3) j<|st ?_;exact an<|jz<|ba λh=>aD h.1
 refine dd 24<|st ?_;refine lz jh (true,3) aC (.bq []) j<|st ?_;refine eu (L:=Nat) (λk=>k<=l.length/\∀s∈l.take k,s.dr.length<=200) (λ(k:Nat)=>⟨[.c 27<|iB p],1,[(1,.cU 6 gm lF bL),(2,.c6 3 dR k6 l),(3,.p 0 0),(26,.c6 3 dR k6 l),(27,.aa l.length),(28,.aa (k:Nat))]⟩) (λk=>l.length-k) [0] 0 ⟨dw _,λs h=>by cases h⟩ (by show l.length-0<bx+1;unfold bx;omega) g1 ?_;rintro(k:Nat) ⟨N,G⟩;refine e4 29 ?_;by_cases aT:k<l.length
 ·have a1:l≠[]:=λe=>by rw[e]at aT;exact p2 _ aT
  refine dd 29 ?_;refine ix 26 (.cU 3 dR k6 l) j (.kW a1)<|st ?_;refine pG l[k] (a0 aT) ?_;refine ix 26 (.c6 3 dR k6 l) rfl .c6<|st ?_;by_cases ay:l[k].dr.length<=200
  case neg=>
   refine c2 35<|st ?_;refine kp jh (false,3) aC (ed 3) j<|st ?_;exact an<|jz<|ba λh=>ay<|h.2 _<|kc aT
  refine dd 35<|st ?_;refine lz jh (true,3) aC (.bq []) j<|st ?_;refine bW [0] (k+1) ⟨by show l.length-(k+1)<l.length-k;omega,R,λs hm=>?_⟩ bB;rw[kd aT]at hm;rcases hf.1 hm with hm|hm
  ·exact G s hm
  ·rw[hh]at hm;rw[hm];exact ay
 have a3:k=l.length:=R
 rw[a3,o1]at G;have V:vd p.ins.length bL l=(match h0 p.ins.length l with
  |.ok xs=>(match kb bL [] xs with
   |some S=>.ret (.g<|fB<|eZ S)
   |none=>.aR<|ed 3)
  |.error e=>.aR<|ed e):=aE ⟨aD,G⟩
 refine c2 29<|st ?_;have aF:∀{e:Int},h0 p.ins.length l= .error e->vd p.ins.length bL l= .aR (ed e):=λh=>by rw[V,h]
 refine eu (L:=Nat×ac iO) (λ(k,r)=>k<=l.length/\r.length=k/\h0 p.ins.length l=CL r (h0 p.ins.length<|l.drop k)) (λ(k,r)=>aog p bL l k r) (λx=>l.length-x.1) [0] (0,[]) ⟨dw _,j,by rw[iQ];cases h0 p.ins.length l<;>rfl⟩ (by show l.length-0<bx+1;unfold bx;omega) g1 ?_;rintro⟨k,r⟩ ⟨N,aG,I⟩;by_cases aT:k<l.length
 ·have a1:l≠[]:=λe=>by rw[e]at aT;exact p2 _ aT
  have hm:=aY l[k]<|kc aT;have bH:=G l[k]<|kc aT;rw[gp aT]at I;rcases r with _|⟨x,xs⟩
  all_goals
   refine e4 41 ?_;refine dd 41 ?_;refine ix 38 (.cU 3 dR k6 l) j (.kW a1)<|st ?_;refine pG l[k] (a0 aT) ?_;refine ix 38 (.c6 3 dR k6 l) rfl .c6<|st ?_;cases D:hy l[k].b8 with
   |none=>
    refine wN Hm l[k].b8 (cC hm.1 al) (ed<|g3 l[k].b8) (M6 D) ?_ (bG:=by
     refine st ?_;refine M4 ?_;refine st ?_;exact an j)
    refine st ?_;exact an (jz<|aF<|I.trans<|CM (aoi D) _)
   |some c=>
   refine wM Hm l[k].b8 (cC hm.1 al) (cc c) (M5 D)<|st ?_;refine M4 ?_;refine st ?_;refine aV uP c aC<|e4 54 ?_;by_cases aP:c<0
   ·refine v0 54 (λg=>aop g aP)<|st ?_;refine kp jh (false,7) aC (ed 7) j<|st ?_;exact an<|jz<|aF<|I.trans<|CM (Nd D λg=>g.1 aP) _
   refine v1 54 (aoo aP)<|e4 58 ?_;by_cases bh: -1<=l[k].iN
   case neg=>
    refine c2 58<|st ?_;refine kp jh (false,7) aC (ed 7) j<|st ?_;exact an<|jz<|aF<|I.trans<|CM (Nd D λg=>bh g.2.1) _
   refine dd 58<|e4 66 ?_;by_cases ay:l[k].iN<(p.ins.length:Int)
   case neg=>
    refine c2 66<|st ?_;refine kp jh (false,7) aC (ed 7) j<|st ?_;exact an<|jz<|aF<|I.trans<|CM (Nd D λg=>ay g.2.2) _
   refine dd 66<|st ?_;refine lz jh (true,7) aC (.bq []) j<|st ?_;have bf:=aoj D ⟨aP,bh,ay⟩
   first
   |refine eu (L:=Nat×gu×Poly) (λ(J,L,P)=>J<=l[k].dr.length/\P.eB/\P.jx/\(∀w∈P,w.1.ik/\b9 (2+jD (l[k].dr.take J)) w.2)/\kK p.ins.length [] l[k].dr=kK p.ins.length P (l[k].dr.drop J)) (λ((J:Nat),(L:gu),(P:Poly))=>⟨[.c 27<|iB p,.a 194 true 5 iO vc<|x::xs,.g<|ho<|eY au.ae L P,.c 194<|gA c++[.aa l[k].iN,.mp 2]],4,[(1,.cU 6 gm lF bL),(3,.p 0 0),(38,.c6 3 dR k6 l),(39,.aa l.length),(40,.aa (k:Nat)),(9,.aK 1 5 0 (xs.length+1)<|xs.length+1),(12,.p (2+1) 0),(70,.c6 2 dj iC l[k].dr),(71,.aa l[k].dr.length),(72,.aa (J:Nat))]⟩) (λx=>l[k].dr.length-x.1) [0,1,3,4] (0,(λ_=>none),[]) ⟨dw _,List.Pairwise.nil,(λw h=>by cases h),(λw h=>by cases h),j⟩ (by show l[k].dr.length-0<bx+1;unfold bx;omega) g1 ?_
   |refine eu (L:=Nat×gu×Poly) (λ(J,L,P)=>J<=l[k].dr.length/\P.eB/\P.jx/\(∀w∈P,w.1.ik/\b9 (2+jD (l[k].dr.take J)) w.2)/\kK p.ins.length [] l[k].dr=kK p.ins.length P (l[k].dr.drop J)) (λ((J:Nat),(L:gu),(P:Poly))=>⟨[.c 27<|iB p,.g<|ho<|eY au.ae L P,.c 194<|gA c++[.aa l[k].iN,.mp 1]],3,[(1,.cU 6 gm lF bL),(3,.p 0 0),(38,.c6 3 dR k6 l),(39,.aa l.length),(40,.aa (k:Nat)),(9,.nl),(12,.p (1+1) 0),(70,.c6 2 dj iC l[k].dr),(71,.aa l[k].dr.length),(72,.aa (J:Nat))]⟩) (λx=>l[k].dr.length-x.1) [0,2,3] (0,(λ_=>none),[]) ⟨dw _,List.Pairwise.nil,(λw h=>by cases h),(λw h=>by cases h),j⟩ (by show l[k].dr.length-0<bx+1;unfold bx;omega) g1 ?_
   rintro⟨J,L,P⟩ ⟨bD,Y,br,aJ,W⟩;refine e4 73 ?_;by_cases F:J<l[k].dr.length
   ·have bw:l[k].dr≠[]:=λe=>by rw[e]at F;exact p2 _ F
    rw[gp F]at W;refine dd 73 ?_;refine ix 70 (.cU 2 dj iC l[k].dr) j (.kW bw)<|st ?_;refine pG l[k].dr[J] (a0 F) ?_;refine ix 70 (.c6 2 dj iC l[k].dr) rfl .c6<|st ?_;have bj:=hm.2.1 _<|kc F;have bC:=aok F;have bM:=Zf l[k].dr J;have bA:=Zf l[k].dr<|J+1;cases Z:l7 p.ins.length l[k].dr[J]with
    |error e=>
     refine wN YX (p,l[k].dr[J]) ⟨bj,hp⟩ (ed e) (an7 Z)<|st ?_;exact an (jz<|aF<|I.trans<|CM (bf.trans<|by rw[W,Zc Z]) _)
    |ok C=>
    have N:=Y6 Z;refine wM YX (p,l[k].dr[J]) ⟨bj,hp⟩ (.bq [l0 C.1,cc C.2]) (an6 Z)<|st ?_
    first|(have:=xs;refine zg Cj 2 (au.ae,L,P,C.1,C.2) ?_ (dt _) ?_)|refine zg Cj 1 (au.ae,L,P,C.1,C.2) ?_ (dt _) ?_
    ·exact⟨Y,λw az=>⟨xv (aJ w az).1,eb (aJ w az).2 R⟩,xv N.1,eb N.2 R⟩
    refine st ?_
    first|(have:=xs;refine bW [0,1,2,3] (J+1,L.jQ C.1,eC P C.1 C.2) ?_ bB)|refine bW [0,1,2] (J+1,L.jQ C.1,eC P C.1 C.2) ?_ bB
    exact⟨by show l[k].dr.length-(J+1)<l[k].dr.length-J;omega,F,mK Y _ _,Ca Y br _ _,λw az=>⟨(Nb R Y aJ N.1 N.2 w az).1,eb (Nb R Y aJ N.1 N.2 w az).2 R⟩,W.trans<|Zd Z⟩
   ·have F:J=l[k].dr.length:=by omega
    rw[F,sn]at W;have bl:kL p.ins.length l[k]= .ok ⟨c,l[k].iN,P⟩:=bf.trans (by rw[W];rfl);have a6:=I.trans<|aoh bl _;refine c2 73<|e4 86 ?_;refine ags 86 4 ?_;refine ix 86 (.agg<|vc ⟨c,l[k].iN,P⟩) j (.agg ⟨.refl _,.refl _,.refl _,.refl _,bJ.YP<|M3 _,aC⟩)<|st ?_
    first
    |have:=xs
     refine y5 (ai:=vc) [(⟨c,l[k].iN,P⟩:iO)] (jt (ai:=vc) [⟨c,l[k].iN,P⟩] j) ?_ (ah:=av) (aA:=by show(5*(xs.length+1+1)+1792)*73<=1125899906842624;have:=aG;simp only[hN]at this;omega);refine e4 89 ?_;refine cd 89 ((k+1:Nat):Int)<|st ?_;exact bW [0,5] (k+1,x::(xs++[⟨c,l[k].iN,P⟩])) ⟨by show l.length-(k+1)<l.length-k;omega,aT,by have:=aG;simp at this ⊢;omega,a6.trans j⟩ (bB (aL:=⟨j,j,j,j,j,congrArg (λk=>some<|ag.aK 5 5 0 k k) av,aC⟩))
    |refine y4 vc [⟨c,l[k].iN,P⟩] (jt (ai:=vc) [⟨c,l[k].iN,P⟩] j)<|e4 89 ?_
     refine cd 89 ((k+1:Nat):Int)<|st ?_;exact bW [0,4] (k+1,[⟨c,l[k].iN,P⟩]) ⟨by show l.length-(k+1)<l.length-k;omega,aT,by have:=aG;simp at this ⊢;omega,a6.trans j⟩ bB
 ·have a3:k=l.length:=by omega
  have bg:h0 p.ins.length l= .ok r:=by
   rw[I,a3,sn];show Except.ok (r++[])=_;rw[rb]
  have bt:=Hs (λs hm=>⟨(aY s hm).1,(aY s hm).2.2,G s hm⟩) bg;have V:vd p.ins.length bL l=(match kb bL [] r with
   |some S=>.ret (.g<|fB<|eZ S)
   |none=>.aR<|ed 3):=by rw[V,bg]
  rcases r with _|⟨x,xs⟩
  ·refine e4 41 ?_;refine c2 41<|st ?_;refine B1 ?_;refine Lb 90<|st ?_;refine aV uQ (-1:Int) ⟨al,al⟩<|st ?_;refine eu (L:=Unit) (λ_=>True) (λ_=>⟨[],0,[(94,.aa 0),(93,.aa 0),(15,.g<|fB [])]⟩) (λ_=>0) [] () aC (by show 0<bx+1;unfold bx;decide) g1 ?_;rintro _ _;refine st ?_;exact an<|sR j j V<|bJ.refl _
  ·refine e4 41 ?_;refine c2 41<|st ?_;refine B1 ?_;refine Lb 90<|st ?_;refine aV uQ (-1:Int) ⟨al,al⟩<|st ?_;have aU:kb bL [] (x::xs)=none->vd p.ins.length bL l= .aR (ed 3):=λh=>by rw[V,h]
   refine eu (L:=Nat×Poly) (λ(i,S)=>i<=xs.length+1/\kb bL [] (x::xs)=kb bL S ((x::xs).drop i)/\e9 200 16 (2+i*1700000) S)
    (λ((i:Nat),(S:Poly))=>⟨[.a 194 true 5 iO vc<|x::xs,.c 45<|gA<|mkRat (-1) 1],2,[(1,.cU 6 gm lF bL),(92,.aK 0 5 0 (xs.length+1)<|xs.length+1),(93,.aa ((xs.length+1:Nat):Int)),(94,.aa (i:Nat)),(16,.p 1 0),(15,.g<|fB<|eZ S)]⟩)
    (λq=>xs.length+1-q.1) [1,3] (0,[]) ⟨dw _,j,e9.nil.up al al al⟩ (by show xs.length+1-0<bx+1;have:=aG;simp only[hN]at this;unfold bx;omega) g1 ?_
   rintro⟨i,S⟩ ⟨af,M,ak⟩;have bE:xs.length+1<=20:=by have:=aG;simp only[hN]at this;omega
   refine e4 95 ?_;by_cases h:i<(x::xs).length
   ·rw[gp h]at M;refine v1 95 (show(i:Int)<((xs.length+1:Nat):Int) by have:i<xs.length+1:=h;omega)<|st ?_;refine mG ?_;refine Fx (x::xs)[i] (show(x::xs)[0+i]? =some (x::xs)[i] by rw[iE];exact a0 h) ?_;have bm:=bt _<|kc h;generalize(x::xs)[i]=y at *;obtain⟨c,z,f⟩:=y;obtain⟨o,D,a9,b'⟩:=bm;replace o:e9 200 2047 1002 f:=o;replace D:b9 250 c:=D;replace a9: -1<=z:=a9;replace b':z<(p.ins.length:Int):=b';refine st ?_;by_cases f0:lE f=true
    case neg=>
     refine kp u9 f ⟨o.s,o.gB al,cC o.l al⟩ (ed 3) (aw f0)<|st ?_;exact an<|jz<|aU (M.trans<|by unfold kb l8;rw[aw f0])
    refine lz u9 f ⟨o.s,o.gB al,cC o.l al⟩ (.g<|fB<|eZ f) (aE f0) ?_;have o:=o.fit f0;refine st ?_;refine aV MZ (f,f,1002,1002) ⟨o.s,o.s,o.ik al<|dt _,o.ik al<|dt _,al,by have:=o.l;omega,cC o.l al,cC o.l al⟩ ?_;have u:=o.e8 o;refine ix 103 (.g<|fB<|eZ<|e8<|kJ f f) j dO ?_;generalize aW:e8 (kJ f f)=g at *;by_cases T:lE g=true
    case neg=>
     refine kp u9 g ⟨u.s,u.gB al,cC u.l al⟩ (ed 3) (aw T)<|st ?_;exact an<|jz<|aU (M.trans<|by unfold kb l8;rw[aE f0];dsimp only;rw[aW,aw T])
    refine lz u9 g ⟨u.s,u.gB al,cC u.l al⟩ (.g<|fB<|eZ g) (aE T) ?_;have u:=u.fit T;refine e4 107 ?_;by_cases a':0<=z;obtain⟨m,rfl⟩:=NX a';refine v1 107 a'<|st ?_;refine cm anW m (by show m<6;omega)<|st ?_;have aX:m<bL.length:=R
    have aQ:=bz _<|kc aX;refine Fz bL[m] (a0 aX) ?_;generalize bp:bL[m]=b at *;refine st ?_;refine cm YR b.1 (eb aQ.1) ?_;have E:=e9.var m;have aM:=e9.nil.put al Hr aQ.1;have aj:=e9.nil.put al Hr aQ.2;have aS:b9 2 (mkRat (-1) 1):=⟨h5 al,h5 al⟩;refine st ?_;refine cm MU ([(aO.var m,1)],eC [] aO.zero b.1,mkRat (-1) 1) ⟨E.s,aM.s,E.z,E.zH al al,aM.zH al al,eb aS,cC E.l al,cC aM.l al⟩ ?_;have aN:=E.zG aM al al aS;refine st ?_;refine cm YR b.2 (eb aQ.2)<|st ?_;refine cm MU (eC [] aO.zero b.2,[(aO.var m,1)],mkRat (-1) 1) ⟨aj.s,E.s,aj.z,aj.zH al al,E.zH al al,eb aS,cC aj.l al,cC E.l al⟩ ?_;have ax:=aj.zG E al al aS;refine st ?_;refine cm MZ (fC [(aO.var m,1)] (mkRat (-1) 1)<|eC [] aO.zero b.1,fC (eC [] aO.zero b.2) (mkRat (-1) 1) [(aO.var m,1)],258,258) ⟨aN.s,ax.s,aN.ik al al,ax.ik al al,al,by have:=ax.l;omega,cC aN.l al,cC ax.l al⟩ ?_;have aH:=aN.e8 ax;generalize a7:e8 (kJ (fC [(aO.var m,1)] (mkRat (-1) 1)<|eC [] aO.zero b.1)<|fC (eC [] aO.zero b.2) (mkRat (-1) 1) [(aO.var m,1)])=Q at *;refine ix 129 (.g<|fB<|eZ Q) j (.of<|by rw[<-a7];rfl)<|st ?_;refine cm MZ (g,Q,401002,1036) ⟨u.s,aH.s,u.ik al al,aH.ik al al,al,by have:=aH.l;omega,cC u.l al,cC aH.l al⟩ ?_;have A:=u.e8 aH;generalize bd:e8 (kJ g Q)=B at *;refine ix 130 (.g<|fB<|eZ B) j (.of<|by rw[<-bd];rfl)<|st ?_;have bu:mkRat (-1) 1=(-1:Rat):=by decide +kernel
    have a4:l8 bL ⟨c,(m:Int),f⟩=if lE B=true then some B else none:=by
     have bn:bL.getD m (0,0)=b:=by rw[sq,nq aX];exact bp
     unfold l8;dsimp only;rw[aE f0,aW,aE T,aE a',xK,bn,<-bu,a7,bd]
    by_cases ao:lE B=true
    rotate_left
    ·refine wN u9 B ⟨A.s,A.gB al,cC A.l al⟩ (ed 3) (aw ao)<|st ?_;exact an (jz<|aU<|M.trans<|aon<|a4.trans<|aw ao)
    rotate_left
    refine wM u9 B ⟨A.s,A.gB al,cC A.l al⟩ (.g<|fB<|eZ B) (aE ao) ?_;replace A:e9 200 16 1608158 B:=(A.fit ao).up (dt _) (dt _) al;have G:=a4.trans (aE ao)
    rotate_left
    refine v0 107 a' ?_;have G:l8 bL ⟨c,z,f⟩=some g:=by
     unfold l8;dsimp only;rw[aE f0,aW,aE T,aw a']
    have A:e9 200 16 1608158 g:=u.up (dt _) (dt _) al;generalize g=B at *
    all_goals
     refine st ?_;refine aV MU (S,B,c) ⟨ak.s,A.s,ak.z,ak.zH al R,A.zH al al,eb D,cC ak.l al,cC A.l al⟩ ?_;have O:=ak.zG A R al D;refine ix 136 (.g<|fB<|eZ<|fC S c B) j dO ?_;generalize bc:fC S c B=qZ at *;by_cases ar:lE qZ=true
     case neg=>
      refine kp u9 qZ ⟨O.s,O.gB al,cC O.l al⟩ (ed 3) (aw ar)<|st ?_;exact an<|jz<|aU<|M.trans<|aom G bc ar
     refine lz u9 qZ ⟨O.s,O.gB al,cC O.l al⟩ (.g<|fB<|eZ qZ) (aE ar) ?_;have bs:=O.fit ar;refine st ?_;refine bW [0,1] (i+1,qZ) ⟨by show xs.length+1-(i+1)<xs.length+1-i;have:i<xs.length+1:=h;omega,h,M.trans<|aol G bc ar,bs.up (dt _) (dt _) R⟩ bB
   ·refine v0 95 (show¬(i:Int)<((xs.length+1:Nat):Int) by have:¬i<xs.length+1:=h;omega) ?_;rw[mh R]at M;refine st ?_;exact an<|sR j j (V.trans<|by rw[M];rfl)<|bJ.refl _
def Zh:bl:=b3 λ(x:Int)=>([.aa x],True,.b false)
def Zi:bt 306 Zh:=by
 refine bR [] TQ.1 ?_;intro(x:Int) _ H au;exact I 14<|an (az j j<|.of<|bK<|cq λh=>h j)
def mQ(x y:Int):Int:=if x<y then -1 else if y<x then 1 else 0
def Zj:bl:=b3 λ((x,y):Int×Int)=>([.aa x,.aa y],True,.aa<|mQ x y)
def aoq:bt 189 Zj:=by
 refine bR [(306,Zh)] Vb.1 ?_;intro⟨x,y⟩ _ H au;refine I 8<|aV Zi x aC<|I 6<|aV Zi y aC<|I 27 ?_;by_cases h:x<y
 ·exact v1 16 h<|I 10<|an (az j j (.of<|by show ag.aa (-1)=ag.aa (mQ x y);unfold mQ;rw[aE h]))
 ·refine v0 16 h<|I 11 ?_;by_cases k:y<x
  ·exact v1 19 (show x>y from k)<|I 10<|an (az j j (.of<|by show ag.aa 1=ag.aa (mQ x y);unfold mQ;rw[aw h,aE k]))
  ·exact v0 19 (show¬x>y from k)<|I 11<|an (az j j (.of<|by show ag.aa 0=ag.aa (mQ x y);unfold mQ;rw[aw h,aw k]))
def iD:ac Nat->ac Nat->Int
 |a::l,b::m=>if mQ a b=0 then iD l m else mQ a b
 |_,_=>0
def aor{x:Int}:mQ x y<0↔x<y:=by unfold mQ;split<;>(try split)<;>omega
def aos{x:Int}:mQ x y=0↔x=y:=by unfold mQ;split<;>(try split)<;>omega
def Ht(k J:aO):iD k.n J.n<0↔aO.lt k J:=by
 unfold aO.n aO.lt;simp only[iD,aos]
 repeat' split
 all_goals first|(rw[aor];omega)|omega
def ve:bl:=b3 λ((a,b):aO×aO)=>([l0 a,l0 b],True,.aa<|iD a.n b.n)
end Go.bA.c3
namespace Go.bA.c3
open Go.bA Sym
set_option maxRecDepth 100000
set_option maxHeartbeats 4000000
section
variable{aq:eX}{K:ac dH}{own:ac a4}{aB:Nat}{e:bU}
def Zk{n z a9:Nat}{el:co}{α:Type}{ai:α->ac ag}{w:ac α}{x:ce}{d:Tmp}{ay:ac Tmp}{back:Nat}{l:ac (bm×cr)}{bf:ac a4}{u:bU}{aX D:Nat}(E:dy aq K l bf ((d,.aK a9 z 0 n n)::u) aX D own aB ((d,.aK a9 z 0 n n)::e))
 (fq:a6 (dZ ay u) x=some (.p a9 0):=by rfl) (ax:bf[a9]? =some (.a el false z α ai w):=by rfl) (ah:0<n:=by decide) (aA:back<aX:=by decide):dy aq K ((⟨some d,.vJ n z x none none none,none⟩,.read back ay)::l) bf u aX D own aB e:=
 k2 aA (λH L st C A _ G=>by
  obtain⟨b,o,F⟩:=A.ar fq;obtain⟨ad,a2,cD⟩:=G a9 _ b ax j o;refine⟨_,⟨b,o,j⟩,λB _ q=>?_⟩;have cX:=(q a9 _ b ax j o).trans a2;show sv n z x none none none aq.call C B=_;unfold sv aj.fM;rw[F,kZ,Sym.eg,cX,r0,r0,r0];congr 2;rw[pt R,m1,iE]
  first|rfl|exact I (λk=>some<|Addr.mk b k none) R) E
end
def Zl{a b l9 n3:a4}{rest:ac a4}(aF:oF [0,1] l9 l9)(aL:oF [0,1] n3 n3):BR [0,1] (a::b::rest) (l9::n3::rest) [l9,n3]:=by
 refine⟨j,λJ u=>?_,λi k A o q=>?_⟩
 ·match J with
  |0=>exact absurd av u
  |1=>exact absurd av u
  |J+2=>rfl
 ·match i with
  |0=>cases o;cases q;exact⟨_,j,aF⟩
  |1=>cases o;cases q;exact⟨_,j,aL⟩
  |i+2=>simp at o
section
variable{X:Ctx}{aI:ao cJ}{bk:d7->dL}{bb n:Nat}{fn:d7}{a5:bh}{i0:ac Nat}{au:aj}{Q:c1->cl->Prop}{K:ac dH}{rest:ac a4}{aB:Nat}{e:bU}{g:d7}{S:ev}{a b l9 n3 gi eV:a4}
def Zm(aF:km [0,1] gi a)(aL:km [0,1] eV b):Sub 0 [0,1] ⟨a::b::rest,aB,e⟩ ⟨[gi,eV],2,[]⟩:=
 ⟨av,j,⟨⟨_,j,aF⟩,⟨_,j,aL⟩,aC⟩,aC,j⟩
theorem aot(aS:dY X g S.spec){bP:ac ce}{j:ac ag}{d:Tmp}{xs:ac (bm×cr)}{bf:ac a4}{u:bU}{aX G:Nat}(l:S.L)(hp:S.pre l)
 (k:dy (gP X aI bk n bb fn a5 i0 au Q) K xs (bf.map λ_=>.x) (j6 d u) (aX+1) aB (l9::n3::rest) aB ((d,jL [0,1]<|S.res l)::e)) (F:S.own l=[gi,eV]:=by rfl) (M:S.bo l=[l9,n3]:=by rfl)
 (aF:km [0,1] gi a:=by exact r4) (aL:km [0,1] eV b:=by exact r4)
 (cE:oF [0,1] l9 l9:=by exact r4) (E:oF [0,1] n3 n3:=by exact r4)
 (D:ha e bP=some j:=by rfl) (he:j=k1 [0,1] (S.args l):=by rfl) (I:bk g=S.spec.K:=by rfl) (cA:S.hp a5:=by first|exact aC|assumption):
 dy (gP X aI bk n bb fn a5 i0 au Q) K ((⟨some d,.call (.func g) bP,none⟩,.dF)::xs) bf u aX G (a::b::rest) aB e:=
 KW (λB H st C o A q=>Rp aS [0,1] l hp cA (by rw[F];exact Zm aF aL) (by rw[M];exact Zl cE E) D he I o A q) k
end
def Zn:ev:=ko λ((l,m):ac Nat×ac Nat)=>([.a 197 false 1 Nat jg l,.a 197 false 1 Nat jg m],[.aK 0 1 0 l.length l.length,.aK 1 1 0 m.length m.length],l.length=m.length/\l.length<=1000000,[.a 197 false 1 Nat jg l,.a 197 false 1 Nat jg m],.aa<|iD l m)
def aou:bt 109 Zn:=by
 refine kH [(189,Zj)] SN.1 ?_;intro⟨l,m⟩ ⟨q,aD⟩ H i0 au af;obtain⟨A,u,rfl⟩:∃b c,i0=[b,c]:=by
  match i0,af with
  |[b,c],_=>exact⟨b,c,j⟩
 refine I 14<|eA (λi=>i<=l.length/\iD (l.drop i) (m.drop i)=iD l m) (λ(i:Nat)=>⟨[.a 197 false 1 Nat jg l,.a 197 false 1 Nat jg m],2,[(0,.aK 0 1 0 l.length l.length),(1,.aK 1 1 0 m.length m.length),(9,.aK 0 1 0 l.length l.length),(10,.aa l.length),(11,.aa i)]⟩) (λi=>l.length-i) [0,1] 0 ⟨dw _,j⟩ ?_;rintro i ⟨af,k⟩;have fin:∀{c:Int},c=iD l m->ag.aa c=ag.aa (iD l m):=λh=>by rw[h]
 refine I 3 ?_;by_cases h:i<l.length
 ·have hm:i<m.length:=by omega
  rw[gp h,gp hm]at k;replace k:(if mQ l[i] m[i]=0 then iD (l.drop<|i+1) (m.drop<|i+1)else mQ l[i] m[i])=iD l m:=k;refine dd 12<|I 11<|mG ?_;refine nP l[i] (show l[0+i]? =some l[i] by rw[iE];exact a0 h) ?_;refine I 11<|c2 19<|I 9<|mG ?_;refine nP m[i] (show m[0+i]? =some m[i] by rw[iE];exact a0 hm) ?_;refine I 7<|aV aoq ((l[i]:Int),(m[i]:Int)) aC<|I 7 ?_;by_cases o:mQ l[i] m[i]=0
  ·rw[aE o]at k;exact c2 28<|I 10<|bW [0,1] (i+1) ⟨R,h,k⟩ bB
  ·rw[aw o]at k;exact dd 28<|I 15<|an ⟨.inr j,⟨_,j,j,.of<|fin k⟩,[0,1],j,g1⟩
 ·refine c2 12 ?_;rw[mh R]at k;exact I 17<|c2 35<|I 11<|an ⟨.inr j,⟨_,j,j,.of<|fin k⟩,[0,1],j,g1⟩
def n4:bt 108 ve:=by
 refine bR [(109,Zn)] SM.1 ?_;intro⟨a,b⟩ _ H au
 repeat(first|(refine kF 0 jg a.n ?_)|(refine kF 1 jg b.n ?_)|refine fz j ?_)
 refine Zk ?_;refine Zk ?_;refine aot aou (a.n,b.n) ⟨j,by show 6<=1000000;decide⟩ ?_;exact I 4<|an (az j j dO)
end Go.bA.c3
namespace Go.bA.c3
open Go.bA
set_option maxRecDepth 100000
set_option maxHeartbeats 4000000
def Nf:bt 188 xh:=by
 refine bR [(305,xh)] Va.1 ?_;intro x fq k au;exact I 12<|aV X1 x fq<|I 4<|an (az j j dO)
def gT(k:aO):ac ag:=k.n.flatMap jg
instance:Inhabited aO:=⟨aO.zero⟩
abbrev cS(d:bi aO):a4:=.a 197 true 6 aO gT d.toList
variable{J:Nat}{c:bi aO}{i a:Nat}{w:bi aO}{af f r:Nat}{d:bi aO}
def ep:ag:=.fn (.func 108) [] []
def Zo:ev:=ko λ((d,a,b):bi aO×Nat×Nat)=>([cS d],[.aK 0 6 0 d.size d.size,.aa (a:Nat),.aa (b:Nat),ep],a<b/\b<=d.size/\d.size<=1000000,[cS<|Go.Sort.reverseRange d a b],.bq [])
def swp_size(c:bi aO)(i J:Nat):(Go.Sort.swp c i J).size=c.size:=by unfold Go.Sort.swp;simp
def nm(af:i<c.toList.length)(ba:J<c.toList.length):(c.toList.set i c.toList[J]).set J c.toList[i]=(Go.Sort.swp c i J).toList:=by
 have k:i<c.size:=by rw[<-hs];exact af
 have o:J<c.size:=by rw[<-hs];exact ba
 unfold Go.Sort.swp;rw[N1,N1,getElem!_pos c J o,getElem!_pos c i k];rfl
def aov(h:i<J):Go.Sort.reverseLoop i J c=Go.Sort.reverseLoop (i+1) (J-1) (Go.Sort.swp c i J):=by
 rw[Go.Sort.reverseLoop.eq_def i J c,aE h]
def aow(h:¬i<J):Go.Sort.reverseLoop i J c=c:=by
 rw[Go.Sort.reverseLoop.eq_def i J c,aw h]
def aox:bt 300 Zo:=by
 refine kH [] TM.1 ?_;intro⟨d,a,b⟩ ⟨(u:a<b),(A:b<=d.size),(bV:d.size<=_)⟩ H i0 au af;obtain⟨C,rfl⟩:∃b,i0=[b]:=mg.1 af;show b5.ok _ ⟨_,_,⟨[cS d],1,[(0,.aK 0 6 0 d.size d.size),(1,.aa (a:Nat)),(2,.aa (b:Nat)),(3,ep)]⟩⟩;refine I 10<|cd 12 ((b-1:Nat):Int)<|I 4<|eA (L:=Nat×Nat×bi aO) (λ(i,J,c)=>i<=d.size/\J<d.size/\c.size=d.size/\Go.Sort.reverseLoop i J c=Go.Sort.reverseRange d a b) (λ((i:Nat),(J:Nat),(c:bi aO))=>⟨[cS c],1,[(0,.aK 0 6 0 d.size d.size),(8,.aa (i:Nat)),(9,.aa (J:Nat))]⟩) (λx=>x.2.1-x.1) [0] (a,b-1,d) ⟨R,R,j,j⟩ ?_;rintro⟨i,J,c⟩ ⟨E,B,o,k⟩;refine I 6 ?_;by_cases h:i<J
 ·refine dd 15 ?_;have D:c.toList.length=d.size:=by rw[hs];exact o
  refine I 12<|cK j j<|en c.toList[J] (a0 R) ?_;refine I 2<|cK j j<|en c.toList[i] (a0 R) ?_;refine cK j j (hW c.toList[J] (w:=c.toList[i]) (a0 R) ?_) (ba:=R);refine I 2<|cK j j (hW (l:=c.toList.set i c.toList[J]) (ai:=gT) c.toList[i] (w:=c.toList[J]) (show(c.toList.set i c.toList[J])[J]? =some c.toList[J] by rw[mU R];exact a0 R) ?_) (ba:=R);refine I 15 ?_;have q:=nm (c:=c) (i:=i) (J:=J) R R;refine bW [0] (i+1,J-1,Go.Sort.swp c i J) ⟨by show J-1-(i+1)<J-i;omega,R,R,by rw[swp_size];exact o,(aov h).symm.trans k⟩<|bB (aF:=⟨⟨_,congrArg (λw=>some<|a4.a 197 true 6 aO gT w) q,j,λ_=>j⟩,aC⟩)
 ·refine c2 15 ?_;have k:c=Go.Sort.reverseRange d a b:=(aow h).symm.trans k;subst k;exact I 7<|an ⟨.inl j,lD,[0],j,hV aC jN⟩
def aY(x y:aO):Bool:=decide (aO.lt x y)
def Zp{b:Nat}(h:i<b):Go.Sort.insOuter aY a b i c=Go.Sort.insOuter aY a b (i+1) (Go.Sort.insInner aY a i c):=by
 rw[Go.Sort.insOuter.eq_def,aE h]
def aoy(h:J<=a):Go.Sort.insInner aY a J w=w:=by
 cases J with
 |zero=>rfl
 |succ J=>unfold Go.Sort.insInner;rw[aw];intro g;rw[cO]at g;exact absurd (hO g.1) R
def aoz(h:0<J)(aL:aY w[J]! w[J-1]! =false):Go.Sort.insInner aY a J w=w:=by
 obtain⟨J,rfl⟩:∃k,J=k+1:=⟨J-1,R⟩;replace aL:aY w[J+1]! w[J]! =false:=aL;unfold Go.Sort.insInner;rw[aL,Ik,aw al]
def aoA(h:a<J)(aL:aY w[J]! w[J-1]! =true):Go.Sort.insInner aY a J w=Go.Sort.insInner aY a (J-1) (Go.Sort.swp w J<|J-1):=by
 obtain⟨J,rfl⟩:∃k,J=k+1:=⟨J-1,R⟩;replace aL:aY w[J+1]! w[J]! =true:=aL;rw[Go.Sort.insInner,aL,Il,aE<|ck h];rfl
def Ng:ev:=ko λ((d,a,b):bi aO×Nat×Nat)=>([cS d],[.aK 0 6 0 d.size d.size,.aa (a:Nat),.aa (b:Nat),ep],a<=b/\b<=d.size/\d.size<=1000000,[cS<|Go.Sort.insertionSort aY d a b],.bq [])
def Zq:bt 296 Ng:=by
 refine kH [(108,ve)] LC.1 ?_;intro⟨d,a,b⟩ ⟨(M:a<=b),(N:b<=d.size),(bV:d.size<=_)⟩ H i0 au af;obtain⟨T,rfl⟩:∃b,i0=[b]:=mg.1 af;show b5.ok _ ⟨_,_,⟨[cS d],1,[(0,.aK 0 6 0 d.size d.size),(1,.aa (a:Nat)),(2,.aa (b:Nat)),(3,ep)]⟩⟩;refine I 4<|cd 11 ((a+1:Nat):Int)<|I 4<|eA (L:=Nat×bi aO) (λ(i,c)=>i<=d.size+1/\c.size=d.size/\Go.Sort.insOuter aY a b i c=Go.Sort.insertionSort aY d a b) (λ((i:Nat),(c:bi aO))=>⟨[cS c],1,[(0,.aK 0 6 0 d.size d.size),(1,.aa (a:Nat)),(2,.aa (b:Nat)),(3,ep),(8,.aa (i:Nat))]⟩) (λx=>d.size+1-x.1) [0] (a+1,d) ⟨R,j,j⟩ ?_;rintro⟨i,c⟩ ⟨af,F,k⟩;refine I 6 ?_;by_cases h:i<b
 ·refine dd 14<|I 14<|eA (L:=Nat×bi aO) (λ(J,w)=>J<=i/\w.size=d.size/\Go.Sort.insInner aY a J w=Go.Sort.insInner aY a i c) (λ((J:Nat),(w:bi aO))=>⟨[cS w],1,[(0,.aK 0 6 0 d.size d.size),(1,.aa (a:Nat)),(2,.aa (b:Nat)),(3,ep),(8,.aa (i:Nat)),(9,.aa (J:Nat))]⟩) (λx=>x.1) [0] (i,c) ⟨dt _,F,j⟩ ?_;rintro⟨J,w⟩ ⟨O,q,A⟩;refine I 7 ?_;by_cases E:a<J
  ·refine dD 21 (.b true) j j (bK<|ck R) ?_;have G:w.toList.length=d.size:=by rw[hs];exact q
   refine I 7<|cK j j (I 1<|en w.toList[J] (a0 R) ?_) (ba:=R);refine I 7<|dD 29 (.aa ((J-1:Nat):Int)) j j (eM R)<|cK j j (I 1<|en w.toList[J-1] (a0 R) ?_) (ba:=R);refine I 1<|nT n4 (w.toList[J],w.toList[J-1]) aC<|I 5 ?_;have B:w[J]! =w.toList[J]:=(getElem!_pos w J R).trans j;have C:w[J-1]! =w.toList[J-1]:=(getElem!_pos w (J-1) R).trans j;by_cases o:iD w.toList[J].n w.toList[J-1].n<0
   ·refine v1 34 o<|I 11<|dD 44 (.aa ((J-1:Nat):Int)) j j (eM R)<|cK j j (en w.toList[J-1] (a0 R) ?_) (ba:=R);refine I 2<|cK j j (en w.toList[J] (a0 R) ?_) (ba:=R);refine cK j j (hW w.toList[J-1] (w:=w.toList[J]) (a0 R) ?_) (ba:=R);refine I 3<|dD 41 (.aa ((J-1:Nat):Int)) j j (eM R)<|cK j j (hW (l:=w.toList.set J w.toList[J-1]) (ai:=gT) w.toList[J] (w:=w.toList[J-1]) (show(w.toList.set J w.toList[J-1])[J-1]? =some w.toList[J-1] by rw[mU R];exact a0 R) ?_) (ba:=R);refine I 8 ?_;have D:=nm (c:=w) (i:=J) (J:=J-1) R R;refine bW [0] (J-1,Go.Sort.swp w J<|J-1) ⟨by show J-1<J;omega,R,by rw[swp_size];exact q,by rw[<-A,aoA (J:=J) E<|by rw[B,C];exact ck<|(Ht _ _).1 o]⟩<|bB (aF:=⟨⟨_,congrArg (λw=>some<|a4.a 197 true 6 aO gT w) D,j,λ_=>j⟩,aC⟩)
   ·refine v0 34 o ?_;have u:Go.Sort.insInner aY a i c=w:=by
     rw[<-A,aoz R<|by rw[B,C];exact cq λg=>o<|(Ht _ _).2 g]
    exact I 12<|bW [0] (i+1,w) ⟨by show d.size+1-(i+1)<d.size+1-i;omega,R,q,by rw[<-k,Zp h,u]⟩ bB
  ·refine dD 21 (.b false) j j (bK<|cq R)<|I 27 ?_;have u:Go.Sort.insInner aY a i c=w:=by rw[<-A,aoy R]
   exact bW [0] (i+1,w) ⟨by show d.size+1-(i+1)<d.size+1-i;omega,R,q,by rw[<-k,Zp h,u]⟩ bB
 ·refine c2 14 ?_;have k:c=Go.Sort.insertionSort aY d a b:=by rw[<-k,Go.Sort.insOuter.eq_def,aw h]
  subst k;exact I 7<|an ⟨.inl j,lD,[0],j,hV aC jN⟩
def Nh(h:¬2*r+1<af):Go.Sort.siftDown aY af f r d=d:=by
 rw[Go.Sort.siftDown.eq_def,ra R]
theorem Ni{eW:Nat}(h:2*r+1<af)(u:(eW=2*r+2/\2*r+2<af/\aY d[f+(2*r+1)]! d[f+(2*r+2)]! =true)\/(eW=2*r+1/\¬(2*r+2<af/\aY d[f+(2*r+1)]! d[f+(2*r+2)]! =true))):
 Go.Sort.siftDown aY af f r d=if aY d[f+r]! d[f+eW]! =true then Go.Sort.siftDown aY af f eW (Go.Sort.swp d (f+r)<|f+eW)else d:=by
 rw[Go.Sort.siftDown.eq_def,dif_neg R];rcases u with⟨rfl,j,k⟩|⟨rfl,j⟩
 ·rw[aE<|by grind,ra j];cases aY d[f+r]! d[f+(2*r+2)]! <;>rfl
 ·rw[aw<|by grind];cases aY d[f+r]! d[f+(2*r+1)]! <;>rfl
section
variable{p:aO->Bool}{d:bi aO}{i J:Nat}
def Nj(h:i<=J)(hp:p d[i]! =true):Go.Sort.scanUp p d J i=Go.Sort.scanUp p d J (i+1):=by
 rw[Go.Sort.scanUp.eq_def p d J i,hp,Il,aE<|ck h]
def Nk(h:¬i<=J):Go.Sort.scanUp p d J i=i:=by
 rw[Go.Sort.scanUp.eq_def p d J i,aw];rw[cO];exactλg=>h<|hO g.1
def Nl(hp:p d[i]! =false):Go.Sort.scanUp p d J i=i:=by
 rw[Go.Sort.scanUp.eq_def p d J i,hp,Ik,aw al]
def Nm(bX:0<i)(h:i<=J)(hp:p d[J]! =true):Go.Sort.scanDown p d i J=Go.Sort.scanDown p d i (J-1):=by
 obtain⟨J,rfl⟩:∃k,J=k+1:=⟨J-1,R⟩;rw[Go.Sort.scanDown,hp,Il,aE<|ck h];rfl
def Nn(h:¬i<=J):Go.Sort.scanDown p d i J=J:=by
 cases J with
 |zero=>rfl
 |succ J=>
  rw[Go.Sort.scanDown,aw];rw[cO];exactλg=>h<|hO g.1
def No(hp:p d[J]! =false):Go.Sort.scanDown p d i J=J:=by
 cases J with
 |zero=>rfl
 |succ J=>rw[Go.Sort.scanDown,hp,Ik,aw al]
end
section
variable{a i J i2 fR:Nat}{d:bi aO}
def aoB(aF:Go.Sort.scanUp (λx=>aY x d[a]!) d J i=i2)(aL:Go.Sort.scanDown (λx=> !aY x d[a]!) d i2 J=fR)(h:¬i2<=fR):Go.Sort.partLoop aY a i J d=(fR,d):=by
 rw[Go.Sort.partLoop.eq_def];dsimp only;rw[aF,aL,aE R]
def aoC(aF:Go.Sort.scanUp (λx=>aY x d[a]!) d J i=i2)(aL:Go.Sort.scanDown (λx=> !aY x d[a]!) d i2 J=fR)(h:i2<=fR)(af:i<=i2)(ba:fR<=J)(bX:0<i):Go.Sort.partLoop aY a i J d=Go.Sort.partLoop aY a (i2+1) (fR-1) (Go.Sort.swp d i2 fR):=by
 rw[Go.Sort.partLoop.eq_def aY a i J d];dsimp only;rw[aF,aL,aw R,ra R]
def aoD(aF:Go.Sort.scanUp (λx=> !aY d[a]! x) d J i=i2)(aL:Go.Sort.scanDown (λx=>aY d[a]! x) d i2 J=fR)(h:¬i2<=fR):Go.Sort.partEqLoop aY a i J d=(i2,d):=by
 rw[Go.Sort.partEqLoop.eq_def];dsimp only;rw[aF,aL,aE R]
def aoE(aF:Go.Sort.scanUp (λx=> !aY d[a]! x) d J i=i2)(aL:Go.Sort.scanDown (λx=>aY d[a]! x) d i2 J=fR)(h:i2<=fR)(af:i<=i2)(ba:fR<=J)(bX:0<i):Go.Sort.partEqLoop aY a i J d=Go.Sort.partEqLoop aY a (i2+1) (fR-1) (Go.Sort.swp d i2 fR):=by
 rw[Go.Sort.partEqLoop.eq_def aY a i J d];dsimp only;rw[aF,aL,aw R,ra R]
end
section
variable{b i:Nat}{d:bi aO}
def aoF(h:i<b)(hp:aY d[i]! d[i-1]! =false):Go.Sort.scanSorted aY d b i=Go.Sort.scanSorted aY d b (i+1):=by
 rw[Go.Sort.scanSorted.eq_def aY d b i,hp,aE];rw[cO];exact⟨ck h,j⟩
def aoG(h:¬i<b):Go.Sort.scanSorted aY d b i=i:=by
 rw[Go.Sort.scanSorted.eq_def aY d b i,aw];rw[cO];exactλg=>h<|hO g.1
def aoH(hp:aY d[i]! d[i-1]! =true):Go.Sort.scanSorted aY d b i=i:=by
 rw[Go.Sort.scanSorted.eq_def aY d b i,hp,aw];rw[cO];exactλg=>by cases g.2
def aoI(bX:0<i)(hp:aY d[i]! d[i-1]! =false):Go.Sort.shiftDown aY i d=d:=by
 obtain⟨i,rfl⟩:∃k,i=k+1:=⟨i-1,R⟩;have hp:aY d[i+1]! d[i]! =false:=hp;rw[Go.Sort.shiftDown,hp];rfl
def aoJ(bX:0<i)(hp:aY d[i]! d[i-1]! =true):Go.Sort.shiftDown aY i d=Go.Sort.shiftDown aY (i-1) (Go.Sort.swp d i<|i-1):=by
 obtain⟨i,rfl⟩:∃k,i=k+1:=⟨i-1,R⟩;have hp:aY d[i+1]! d[i]! =true:=hp;rw[Go.Sort.shiftDown,hp];rfl
def aoK(h:¬i<b):Go.Sort.shiftUp aY b i d=d:=by
 rw[Go.Sort.shiftUp.eq_def aY b i d,aw h]
def aoL(hp:aY d[i]! d[i-1]! =false):Go.Sort.shiftUp aY b i d=d:=by
 rw[Go.Sort.shiftUp.eq_def aY b i d,hp];split<;>rfl
def aoM(h:i<b)(hp:aY d[i]! d[i-1]! =true):Go.Sort.shiftUp aY b i d=Go.Sort.shiftUp aY b (i+1) (Go.Sort.swp d i<|i-1):=by
 rw[Go.Sort.shiftUp.eq_def aY b i d,aE h,hp,aw al]
end
variable{x y:aO}
def oR(h:iD x.n y.n<0):aY x y=true:=ck<|(Ht _ _).1 h
def oS(h:¬iD x.n y.n<0):aY x y=false:=cq λg=>h<|(Ht _ _).2 g
def eD(h:i<c.toList.length):c[i]! =c.toList[i]:=(getElem!_pos c i R).trans j
def zI:Go.Sort.SWO aY where
 irrefl:=λx=>cq (aO.oL x)
 trans:=λx y z h j=>ck (aO.zl (hO h)<|hO j)
 ntrans:=λx y z h j=>cq λg=>by
  have h:=of_decide_eq_false h;have j:=of_decide_eq_false j;by_cases e:x=y
  ·subst e;exact j g
  ·have k:=aO.LS h e;exact j<|aO.zl k g
def aoN{u:ac aO}{f:Poly}(D:f.eB)(hp:u.Perm (f.map (·.1))):Go.Sort.sort aY u.toArray=(f.map (·.1)).toArray:=by
 obtain⟨⟨A,_,B⟩,o⟩:=Go.Sort.sort_sorts aY zI u.toArray;generalize Go.Sort.sort aY u.toArray=d at *;rw[Array.extract_size,<-A,Array.extract_size]at B;rw[<-A]at o;have e:d.toList=f.map (·.1):=by
  refine List.Perm.eq_of_pairwise (le:=λx y=>aY y x=false) (λa b _ _ h k=>?_) ?_ ?_ (B.trans hp)
  ·have h:=of_decide_eq_false h;have k:=of_decide_eq_false k;by_cases e:a=b
   ·exact e
   ·exact absurd (aO.LS k e) h
  ·rw[kP];intro i J af C E;have G:i<d.size:=by rw[<-hs];exact af
   have F:J<d.size:=by rw[<-hs];exact C
   have:=o i J (dw _) E F;rw[eD af,eD C]at this;exact this
  ·refine n9.2<|D.imp λ{p q} h=>cq λg=>aO.oL _<|aO.zl h g
 rw[<-e]
def ma(c:bi aO)(a b:Nat)(de:Bool):bi aO:=if(!de)=true then Go.Sort.breakPatterns c a b else c
def oT(l:Nat)(de:Bool):Nat:=if(!de)=true then l-1 else l
def lG(d:bi aO)(a b:Nat):bi aO×Nat×Go.Sort.Hint:=
 (if(Go.Sort.choosePivot aY d a b).2= .decreasing then Go.Sort.reverseRange d a b else d,
  if(Go.Sort.choosePivot aY d a b).2= .decreasing then(b-1)-((Go.Sort.choosePivot aY d a b).1-a)else(Go.Sort.choosePivot aY d a b).1,
  if(Go.Sort.choosePivot aY d a b).2= .decreasing then Go.Sort.Hint.increasing else(Go.Sort.choosePivot aY d a b).2)
def kM(x:bi aO×Nat×Go.Sort.Hint)(a b:Nat)(de wp:Bool):bi aO×Bool:=
 if(de&&wp&&decide (x.2.2= .increasing))=true then Go.Sort.partialInsertionSort aY x.1 a b else(x.1,false)
section
variable{c:bi aO}{a b l:Nat}{de wp:Bool}
def Zr(h:b-a<=12):Go.Sort.pdq aY c a b l de wp=Go.Sort.insertionSort aY c a b:=by
 rw[Go.Sort.pdq.eq_def,aE h]
def aoO(h:¬b-a<=12)(aD:l=0):Go.Sort.pdq aY c a b l de wp=Go.Sort.heapSort aY c a b:=by
 rw[Go.Sort.pdq.eq_def,aw h,aE aD]
def Hu(h:¬b-a<=12)(aD:¬l=0):Go.Sort.pdq aY c a b l de wp=
 if(kM (lG (ma c a b de) a b) a b de wp).2=true then(kM (lG (ma c a b de) a b) a b de wp).1 else
 if(decide (a>0)&& !aY (kM (lG (ma c a b de) a b) a b de wp).1[a-1]! (kM (lG (ma c a b de) a b) a b de wp).1[(lG (ma c a b de) a b).2.1]!)=true then
  match Go.Sort.partitionEqual aY (kM (lG (ma c a b de) a b) a b de wp).1 a b (lG (ma c a b de) a b).2.1 with
  |(dX,d4)=>if j:a<dX/\dX<=b then Go.Sort.pdq aY d4 dX b (oT l de) de wp else d4
 else
  match Go.Sort.partition aY (kM (lG (ma c a b de) a b) a b de wp).1 a b (lG (ma c a b de) a b).2.1 with
  |(dX,ap,d4)=>if j:a<=dX/\dX<b then
   if dX-a<b-dX then
    Go.Sort.pdq aY (Go.Sort.pdq aY d4 a dX (oT l de) true true) (dX+1) b (oT l de) (decide (dX-a>=(b-a)/8)) ap
   else
    Go.Sort.pdq aY (Go.Sort.pdq aY d4 (dX+1) b (oT l de) true true) a dX (oT l de) (decide (b-dX>=(b-a)/8)) ap
   else d4:=by
 rw[Go.Sort.pdq.eq_def aY c a b l de wp,aw h,aw aD];rfl
section
variable{d2 d3 d4:bi aO}{gE dX:Nat}{ji:Go.Sort.Hint}{ap:Bool}(h:¬b-a<=12)(aD:¬l=0)(fq:lG (ma c a b de) a b=(d2,gE,ji))
include h aD fq
def aoP(hp:kM (d2,gE,ji) a b de wp=(d3,true)):Go.Sort.pdq aY c a b l de wp=d3:=by
 rw[Hu h aD,fq,hp];rfl
theorem aoQ(hp:kM (d2,gE,ji) a b de wp=(d3,false))(u:0<a)(ax:aY d3[a-1]! d3[gE]! =false)(he:Go.Sort.partitionEqual aY d3 a b gE=(dX,d4))(j:a<dX/\dX<=b):Go.Sort.pdq aY c a b l de wp=Go.Sort.pdq aY d4 dX b (oT l de) de wp:=by
 rw[Hu h aD,fq,hp];dsimp only;rw[aw al,ax,aE<|by grind,he];rw[ra j]
theorem aoR(hp:kM (d2,gE,ji) a b de wp=(d3,false))(ah:¬(0<a/\aY d3[a-1]! d3[gE]! =false))(he:Go.Sort.partition aY d3 a b gE=(dX,ap,d4))(j:a<=dX/\dX<b)(aT:dX-a<b-dX):Go.Sort.pdq aY c a b l de wp=Go.Sort.pdq aY (Go.Sort.pdq aY d4 a dX (oT l de) true true) (dX+1) b (oT l de) (decide (dX-a>=(b-a)/8)) ap:=by
 rw[Hu h aD,fq,hp];dsimp only;rw[aw al,aw<|by grind,he];rw[ra j,aE aT]
theorem aoS(hp:kM (d2,gE,ji) a b de wp=(d3,false))(ah:¬(0<a/\aY d3[a-1]! d3[gE]! =false))(he:Go.Sort.partition aY d3 a b gE=(dX,ap,d4))(j:a<=dX/\dX<b)(aT:¬dX-a<b-dX):Go.Sort.pdq aY c a b l de wp=Go.Sort.pdq aY (Go.Sort.pdq aY d4 (dX+1) b (oT l de) true true) a dX (oT l de) (decide (b-dX>=(b-a)/8)) ap:=by
 rw[Hu h aD,fq,hp];dsimp only;rw[aw al,aw<|by grind,he];rw[ra j,aw aT]
end
open Go.Sort in
def aoT(j:a<=b)(aA:b<=c.size):PermIn a b c (ma c a b de):=by
 unfold ma;split
 ·exact breakPatterns_holds c a b j aA
 ·exact permIn_refl c a b
open Go.Sort in
def aoU(j:a<b)(aA:b<=c.size):PermIn a b c (lG c a b).1/\a<=(lG c a b).2.1/\(lG c a b).2.1<b:=by
 have k:=choosePivot_holds aY c a b j;unfold lG;dsimp only;split
 ·exact⟨reverseRange_holds c a b R aA,R,R⟩
 ·exact⟨permIn_refl c a b,k⟩
open Go.Sort in
def aoV{x:bi aO×Nat×Hint}(u:a<b)(aA:b<=x.1.size)(j:Below aY a b x.1):PermIn a b x.1 (kM x a b de wp).1:=by
 unfold kM;split
 ·exact(partialInsertionSort_holds zI x.1 a b u aA j).1
 ·exact permIn_refl x.1 a b
end
section
variable{aq:eX}{K:ac dH}{own:ac a4}{aB:Nat}{e:bU}{c:bd}
variable{P:Prop}{bV:Decidable P}
theorem vf(t:Nat)(h:¬P)(k:b5.ok aq ⟨K,c,⟨own,aB,(t,.b true)::e⟩⟩)(aD:dp e t=some (.b<|!decide P):=by rfl)(aS:c.m3=false:=by rfl):b5.ok aq ⟨K,c,⟨own,aB,e⟩⟩:=aP t (.b true) aD (by grind) k aS
theorem vg(t:Nat)(h:P)(k:b5.ok aq ⟨K,c,⟨own,aB,(t,.b false)::e⟩⟩)(aD:dp e t=some (.b<|!decide P):=by rfl)(aS:c.m3=false:=by rfl):b5.ok aq ⟨K,c,⟨own,aB,e⟩⟩:=aP t (.b false) aD (by grind) k aS
def xy(t n:Nat){m:Nat}{b:Int}(k:b5.ok aq ⟨K,c,⟨own,aB,(t,.aa ((m/n:Nat):Int))::e⟩⟩)(aD:dp e t=some (.aa<|IntKind.i64.wrap<|Int.tdiv (m:Int) b):=by rfl)(aA:b=(n:Int):=by rfl)(hm:m<9223372036854775808:=by omega)(aS:c.m3=false:=by rfl):b5.ok aq ⟨K,c,⟨own,aB,e⟩⟩:=aP t _ aD (by
 subst aA;have j:Int.tdiv (m:Int) n=((m/n:Nat):Int):=rfl;have o:=jW m n;obtain⟨q,u⟩:∃q,q=m/n:=dC;rw[j];rw[fP R R]) k aS
end
variable{b s p i2:Nat}
def Zs:ev:=ko λ((d,bg,af,f):bi aO×Nat×Nat×Nat)=>([cS d],[.aK 0 6 0 d.size d.size,.aa (bg:Nat),.aa (af:Nat),.aa (f:Nat),ep],bg<=d.size/\f+af<=d.size/\d.size<=1000000,[cS<|Go.Sort.siftDown aY af f bg d],.bq [])
def Zt:bt 376 Zs:=by
 refine kH [(108,ve)] TZ.1 ?_;intro⟨d,bg,af,f⟩ ⟨(E:bg<=d.size),(M:f+af<=d.size),(bV:d.size<=_)⟩ H i0 au C;obtain⟨O,rfl⟩:∃b,i0=[b]:=mg.1 C;show b5.ok _ ⟨_,_,⟨[cS d],1,[(0,.aK 0 6 0 d.size d.size),(1,.aa (bg:Nat)),(2,.aa (af:Nat)),(3,.aa (f:Nat)),(4,ep)]⟩⟩;refine I 7<|eA (L:=Nat×bi aO) (λ(r,c)=>r<=d.size/\c.size=d.size/\Go.Sort.siftDown aY af f r c=Go.Sort.siftDown aY af f bg d) (λ((r:Nat),(c:bi aO))=>⟨[cS c],1,[(0,.aK 0 6 0 d.size d.size),(2,.aa (af:Nat)),(3,.aa (f:Nat)),(4,ep),(10,.aa (r:Nat))]⟩) (λx=>af-x.1) [0] (bg,d) ⟨E,j,j⟩ ?_;rintro⟨r,c⟩ ⟨N,B,o⟩;have T:c.toList.length=d.size:=by rw[hs];exact B
 refine I 5<|cd 14 ((2*r:Nat):Int)<|I 1<|cd 15 ((2*r+1:Nat):Int)<|I 9 ?_;by_cases h:2*r+1<af
 case neg=>
  refine dd 18 ?_;have o:c=Go.Sort.siftDown aY af f bg d:=(Nh h).symm.trans o;subst o;exact I 8<|an ⟨.inl j,lD,[0],j,hV aC jN⟩
 refine c2 18 ?_
 iterate 4 refine fz j ?_
 refine KD (L:=Nat) (λeW=>(eW=2*r+2/\2*r+2<af/\aY c[f+(2*r+1)]! c[f+(2*r+2)]! =true)\/(eW=2*r+1/\¬(2*r+2<af/\aY c[f+(2*r+1)]! c[f+(2*r+2)]! =true))) (λ(eW:Nat)=>⟨[cS c],1,[(0,.aK 0 6 0 d.size d.size),(2,.aa (af:Nat)),(3,.aa (f:Nat)),(4,ep),(10,.aa (r:Nat)),(11,.aa (eW:Nat))]⟩) ?_ ?_
 ·refine I 4<|ww 20 ((2*r+2:Nat):Int)<|I 3 ?_;by_cases A:2*r+2<af
  ·refine eE 23 (show((2*r+2:Nat):Int)<(af:Int) by omega)<|I 10 (ww 28 ((f+(2*r+1):Nat):Int)<|I 1<|cK j j (I 1<|en c.toList[f+(2*r+1)] (a0 R) ?_) (ba:=R));refine I 8<|ww 34 ((f+(2*r+1):Nat):Int)<|I 2 (ww 35 ((f+(2*r+2):Nat):Int)<|I 1<|cK j j (I 1<|en c.toList[f+(2*r+2)] (a0 R) ?_) (ba:=R));refine I 1<|nT n4 (c.toList[f+(2*r+1)],c.toList[f+(2*r+2)]) aC<|I 5 ?_;by_cases k:iD c.toList[f+(2*r+1)].n c.toList[f+(2*r+2)].n<0
   ·exact v1 40 k<|I 4<|cd 42 ((2*r+2:Nat):Int)<|I 2<|dv [0] (2*r+2) (.inl ⟨j,A,by rw[eD R,eD R];exact oR k⟩)
   ·exact v0 40 k<|I 2<|dv [0] (2*r+1) (.inr ⟨j,λg=>by have:=g.2;rw[eD R,eD R,oS k]at this;cases this⟩)
  ·exact dG 23 (show¬((2*r+2:Nat):Int)<(af:Int) by omega)<|I 21<|dv [0] (2*r+1) (.inr ⟨j,λg=>A g.1⟩)
 rintro eW F;have q:=Ni h F;have G:r<eW/\eW<af:=R
 refine I 8<|ww 47 ((f+r:Nat):Int)<|cK j j (en c.toList[f+r] (a0 R) ?_) (ba:=R);refine I 4<|ww 53 ((f+eW:Nat):Int)<|cK j j (en c.toList[f+eW] (a0 R) ?_) (ba:=R);refine nT n4 (c.toList[f+r],c.toList[f+eW]) aC<|I 4 ?_;by_cases k:iD c.toList[f+r].n c.toList[f+eW].n<0
 ·have u:aY c[f+r]! c[f+eW]! =true:=by rw[eD R,eD R];exact oR k
  rw[aE u]at q;refine vg 58 k ?_;refine I 9<|ww 62 ((f+r:Nat):Int)<|I 4 (ww 70 ((f+eW:Nat):Int)<|cK j j (en c.toList[f+eW] (a0 R) ?_) (ba:=R));refine I 4<|ww 76 ((f+r:Nat):Int)<|cK j j (en c.toList[f+r] (a0 R) ?_) (ba:=R);refine cK j j (hW c.toList[f+eW] (w:=c.toList[f+r]) (a0 R) ?_) (ba:=R);refine I 4<|ww 66 ((f+eW:Nat):Int)<|cK j j (hW (l:=c.toList.set (f+r) c.toList[f+eW]) (ai:=gT) c.toList[f+r] (J:=f+eW) (a0 dA) ?_) (ba:=R);refine I 7 ?_;have D:=nm (c:=c) (i:=f+r) (J:=f+eW) R R;exact bW [0] (eW,Go.Sort.swp c (f+r)<|f+eW) ⟨by show af-eW<af-r;omega,R,by rw[swp_size];exact B,q.symm.trans o⟩<|bB (aF:=⟨⟨_,congrArg (λw=>some<|a4.a 197 true 6 aO gT w) D,j,λ_=>j⟩,aC⟩)
 ·have u:¬aY c[f+r]! c[f+eW]! =true:=by rw[eD R,eD R,oS k];decide
  rw[aw u]at q;have o:c=Go.Sort.siftDown aY af f bg d:=q.symm.trans o;subst o;refine vf 58 k ?_;exact I 6<|an ⟨.inr j,lD,[0],j,hV aC jN⟩
def Zu:ev:=ko λ((d,a,b):bi aO×Nat×Nat)=>([cS d],[.aK 0 6 0 d.size d.size,.aa (a:Nat),.aa (b:Nat),ep],a<b/\b<=d.size/\d.size<=1000000,[cS<|Go.Sort.heapSort aY d a b],.bq [])
def Zv(af f:Nat):∀(n r:Nat) (d:bi aO),af-r<=n->(Go.Sort.siftDown aY af f r d).size=d.size:=by
 intro n
 induction n with
 |zero=>intro r d h;rw[Nh R]
 |succ n o=>
  intro r d h;by_cases k:2*r+1<af
  ·by_cases q:2*r+2<af/\aY d[f+(2*r+1)]! d[f+(2*r+2)]! =true
   ·rw[Ni k<|.inl ⟨j,q⟩];split
    ·rw[o _ _ R,swp_size]
    ·rfl
   ·rw[Ni k<|.inr ⟨j,q⟩];split
    ·rw[o _ _ R,swp_size]
    ·rfl
  ·rw[Nh k]
def zJ{n:Nat}{x y z w:ag}(h:c.size=n):[ag.aK 0 6 0 n n,x,y,z,w]=[ag.aK 0 6 0 c.size c.size,x,y,z,w]:=by rw[h]
def aoW:bt 297 Zu:=by
 refine kH [(376,Zs)] S1.1 ?_;intro⟨d,a,b⟩ ⟨(M:a<b),(N:b<=d.size),(bV:d.size<=_)⟩ H i0 au af;obtain⟨O,rfl⟩:∃b,i0=[b]:=mg.1 af;show b5.ok _ ⟨_,_,⟨[cS d],1,[(0,.aK 0 6 0 d.size d.size),(1,.aa (a:Nat)),(2,.aa (b:Nat)),(3,ep)]⟩⟩;refine I 16<|cd 16 ((b-a:Nat):Int)<|I 8<|cd 18 ((b-a-1:Nat):Int)<|I 1 (xy 19 2 (m:=b-a-1)<|I 4<|eu (L:=Nat×bi aO) (λ(k,c)=>k<=b-a/\c.size=d.size/\Go.Sort.heapBuild aY (b-a) a k c=Go.Sort.heapBuild aY (b-a) a ((b-a-1)/2+1) d) (λ((k:Nat),(c:bi aO))=>⟨[cS c],1,[(0,.aK 0 6 0 d.size d.size),(3,ep),(8,.aa (a:Nat)),(9,.aa 0),(10,.aa ((b-a:Nat):Int)),(11,.aa<|(k:Int)-1)]⟩) (λx=>x.1) [0] ((b-a-1)/2+1,d) ⟨R,j,j⟩ (by show(b-a-1)/2+1<bx+1;unfold bx;omega) bB ?_);rintro⟨k,c⟩ ⟨F,A,q⟩;refine I 5 ?_;by_cases B:k=0
 case neg=>
  obtain⟨m,rfl⟩:∃m,k=m+1:=⟨k-1,R⟩;refine dd 21<|FF 11 ((m:Nat):Int)<|I 13<|k3 Zt 0 (c,m,b-a,a) ⟨R,R,R⟩ ?_ (he:=zJ A);exact I 8<|bW [0] (m,Go.Sort.siftDown aY (b-a) a m c) ⟨vw _,R,by rw[Zv _ _ _ _ _<|dt _];exact A,q⟩ bB
 subst B;refine c2 21 ?_;have q:c=Go.Sort.heapBuild aY (b-a) a ((b-a-1)/2+1) d:=q;refine I 12<|cd 31 ((b-a:Nat)-1:Int)<|I 4<|eu (L:=Nat×bi aO) (λ(k,w)=>k<=b-a/\w.size=d.size/\Go.Sort.heapPop aY a k w=Go.Sort.heapSort aY d a b) (λ((k:Nat),(c:bi aO))=>⟨[cS c],1,[(0,.aK 0 6 0 d.size d.size),(3,ep),(8,.aa (a:Nat)),(9,.aa 0),(12,.aa<|(k:Int)-1)]⟩) (λx=>x.1) [0] (b-a,c) ⟨dt _,A,by rw[q];rfl⟩ (by show b-a<bx+1;unfold bx;omega) bB ?_;clear q A;rintro⟨k,w⟩ ⟨F,D,u⟩;have G:w.toList.length=d.size:=by rw[hs];exact D
 refine I 5 ?_;by_cases B:k=0
 case neg=>
  obtain⟨m,rfl⟩:∃m,k=m+1:=⟨k-1,R⟩;refine dd 33<|FF 12 ((m:Nat):Int) ?_;refine I 15<|ww 45 ((a+m:Nat):Int)<|cK j j (en w.toList[a+m] (a0 R) ?_) (ba:=R);refine I 2<|cK j j (en w.toList[a] (a0 R) ?_) (ba:=R);refine cK j j (hW w.toList[a+m] (w:=w.toList[a]) (a0 R) ?_) (ba:=R);refine I 4<|ww 41 ((a+m:Nat):Int)<|cK j j (hW (l:=w.toList.set (a) w.toList[a+m]) (ai:=gT) w.toList[a] (J:=a+m) (a0 dA) ?_) (ba:=R);refine I 8 ?_;have E:=nm (c:=w) (i:=a) (J:=a+m) R R;have C:(Go.Sort.swp w a<|a+m).size=d.size:=by rw[swp_size];exact D
  refine k3 Zt 0 (Go.Sort.swp w a<|a+m,0,m,a) ⟨R,R,R⟩ ?_ (U:=cS<|Go.Sort.swp w a<|a+m) (ax:=⟨_,j,congrArg (a4.a 197 true 6 aO gT) E,λ_=>j⟩) (he:=zJ C);exact I 8<|bW [0] (m,Go.Sort.siftDown aY m a 0<|Go.Sort.swp w a<|a+m) ⟨vw _,R,by rw[Zv _ _ _ _ _<|dt _];exact C,u⟩ bB
 subst B;refine c2 33 ?_;have u:w=Go.Sort.heapSort aY d a b:=u;subst u;exact I 7<|an ⟨.inl j,lD,[0],j,hV aC jN⟩
def aoX(aF:Go.Sort.scanUp (λx=>aY x (Go.Sort.swp d a p)[a]!) (Go.Sort.swp d a p) (b-1) (a+1)=i)(aL:Go.Sort.scanDown (λx=> !aY x (Go.Sort.swp d a p)[a]!) (Go.Sort.swp d a p) i (b-1)=J)(h:¬i<=J):Go.Sort.partition aY d a b p=(J,true,Go.Sort.swp (Go.Sort.swp d a p) J a):=by
 unfold Go.Sort.partition;dsimp only;rw[aF,aL,aE R]
def aoY{r:Nat×bi aO}(aF:Go.Sort.scanUp (λx=>aY x (Go.Sort.swp d a p)[a]!) (Go.Sort.swp d a p) (b-1) (a+1)=i)(aL:Go.Sort.scanDown (λx=> !aY x (Go.Sort.swp d a p)[a]!) (Go.Sort.swp d a p) i (b-1)=J)(h:i<=J)(u:Go.Sort.partLoop aY a (i+1) (J-1) (Go.Sort.swp (Go.Sort.swp d a p) i J)=r):Go.Sort.partition aY d a b p=(r.1,false,Go.Sort.swp r.2 r.1 a):=by
 unfold Go.Sort.partition;dsimp only;rw[aF,aL,aw R,u]
def Zw:ev:=ko λ((d,a,b,p):bi aO×Nat×Nat×Nat)=>([cS d],[.aK 0 6 0 d.size d.size,.aa (a:Nat),.aa (b:Nat),.aa (p:Nat),ep],a<b/\b<=d.size/\p<d.size/\d.size<=1000000,[cS (Go.Sort.partition aY d a b p).2.2],.bq [.aa ((Go.Sort.partition aY d a b p).1:Nat),.b (Go.Sort.partition aY d a b p).2.1])
def Zx{x y:Nat×Bool×bi aO}(h:x=y):ag.bq [.aa (y.1:Nat),.b y.2.1]=ag.bq [.aa (x.1:Nat),.b x.2.1]:=by rw[h]
def Zy{x y:Nat×Bool×bi aO}{l:ac aO}(h:x=y)(aD:l=y.2.2.toList):some (a4.a 197 true 6 aO gT l)=some (cS x.2.2):=by rw[h,aD]
def aoZ:bt 303 Zw:=by
 refine kH [(108,ve)] TO.1 ?_;intro⟨d,a,b,p⟩ ⟨(av:a<b),(ax:b<=d.size),(hp:p<d.size),(bV:d.size<=_)⟩ H i0 au af;obtain⟨ay,rfl⟩:∃b,i0=[b]:=mg.1 af;have az:d.toList.length=d.size:=hs;show b5.ok _ ⟨_,_,⟨[cS d],1,[(0,.aK 0 6 0 d.size d.size),(1,.aa (a:Nat)),(2,.aa (b:Nat)),(3,.aa (p:Nat)),(4,ep)]⟩⟩;refine I 12<|cK j j (en d.toList[p] (a0 R) ?_) (ba:=R);refine I 2<|cK j j (en d.toList[a] (a0 R) ?_) (ba:=R);refine cK j j (hW d.toList[p] (w:=d.toList[a]) (a0 R) ?_) (ba:=R);refine I 2<|cK j j (hW (l:=d.toList.set (a) d.toList[p]) (ai:=gT) d.toList[a] (J:=p) (a0 dA) ?_) (ba:=R);refine I 14 ?_;have A:=nm (c:=d) (i:=a) (J:=p) R R;refine cd 12 ((a+1:Nat):Int)<|cd 13 ((b-1:Nat):Int) ?_;have M:(Go.Sort.swp d a p).size=d.size:=swp_size _ _ _;obtain⟨c,G⟩:∃c,c=Go.Sort.swp d a p:=dC;rw[<-G]at A M;have Z:c.toList.length=d.size:=by rw[hs];exact M
 refine j7 (L:=Nat) (λo=>Go.Sort.scanUp (λx=>aY x c[a]!) c (b-1) (a+1)=o/\(a+1)<=o/\o<=d.size+2) (λ(o:Nat)=>⟨[cS c],1,[(0,.aK 0 6 0 d.size d.size),(1,.aa (a:Nat)),(4,ep),(12,.aa ((o:Nat):Int)),(13,.aa ((b-1:Nat):Int))]⟩) ?_ ?_
 ·refine eu (L:=Nat) (λo=>Go.Sort.scanUp (λx=>aY x c[a]!) c (b-1) o=Go.Sort.scanUp (λx=>aY x c[a]!) c (b-1) (a+1)/\(a+1)<=o/\o<=d.size+2) (λ(o:Nat)=>⟨[cS c],1,[(0,.aK 0 6 0 d.size d.size),(1,.aa (a:Nat)),(4,ep),(12,.aa ((o:Nat):Int)),(13,.aa ((b-1:Nat):Int))]⟩) (λo=>b-1+1-o) [0] (a+1) zK (by show b-1+1-(a+1)<bx+1;unfold bx;omega) (g1 (aF:=⟨⟨_,congrArg (λw=>some<|a4.a 197 true 6 aO gT w) A,j,λ_=>j⟩,aC⟩)) ?_;rintro(o:Nat) ⟨u,C,D⟩;refine I 7 ?_;by_cases h:o<=b-1
  ·refine eE 35 (show((o:Nat):Int)<=((b-1:Nat):Int) by omega)<|I 7<|cK j j (I 1<|en c.toList[o] (a0 R) ?_) (ba:=R);refine I 5<|cK j j (I 1<|en c.toList[a] (a0 R) ?_) (ba:=R);refine I 1<|nT n4 (c.toList[o],c.toList[a]) aC<|I 5 ?_;by_cases q:iD c.toList[o].n c.toList[a].n<0
   ·exact v1 47 q<|I 10<|bW [0] (o+1) ⟨by show b-1+1-(o+1)<b-1+1-o;omega,(Nj h<|by show aY c[o]! c[a]! =true;rw[eD R,eD R,oR q]).symm.trans u,R,R⟩ bB
   ·exact v0 47 q<|I 5<|dv [0] o ⟨u.symm.trans (Nl<|by show aY c[o]! c[a]! =false;rw[eD R,eD R,oS q]),C,D⟩
  ·exact dG 35 (show¬((o:Nat):Int)<=((b-1:Nat):Int) by omega)<|I 19<|dv [0] o ⟨u.symm.trans<|Nk h,C,D⟩
 rintro(i:Nat) ⟨hu,T,a'⟩;refine I 2<|j7 (L:=Nat) (λk=>Go.Sort.scanDown (λx=> !aY x c[a]!) c i (b-1)=k/\k<=(b-1)/\a<=k) (λ(k:Nat)=>⟨[cS c],1,[(0,.aK 0 6 0 d.size d.size),(1,.aa (a:Nat)),(4,ep),(12,.aa ((i:Nat):Int)),(13,.aa ((k:Nat):Int))]⟩) ?_ ?_
 ·refine eA (L:=Nat) (λk=>Go.Sort.scanDown (λx=> !aY x c[a]!) c i k=Go.Sort.scanDown (λx=> !aY x c[a]!) c i (b-1)/\k<=(b-1)/\a<=k) (λ(k:Nat)=>⟨[cS c],1,[(0,.aK 0 6 0 d.size d.size),(1,.aa (a:Nat)),(4,ep),(12,.aa ((i:Nat):Int)),(13,.aa ((k:Nat):Int))]⟩) (λk=>k) [0] (b-1) zK ?_;rintro(k:Nat) ⟨u,C,D⟩;refine I 7 ?_;by_cases h:i<=k
  ·refine eE 53 (show((i:Nat):Int)<=((k:Nat):Int) by omega)<|I 7<|cK j j (I 1<|en c.toList[k] (a0 R) ?_) (ba:=R);refine I 5<|cK j j (I 1<|en c.toList[a] (a0 R) ?_) (ba:=R);refine I 1<|nT n4 (c.toList[k],c.toList[a]) aC<|I 7 ?_;by_cases q:iD c.toList[k].n c.toList[a].n<0
   ·refine vg 66 q ?_;exact I 5<|dv [0] k ⟨u.symm.trans (No<|by show(!aY c[k]! c[a]!)=false;rw[eD R,eD R,oR q];rfl),C,D⟩
   ·refine vf 66 q ?_;exact I 10<|bW [0] (k-1) ⟨by show(k-1)<k;omega,(Nm R h<|by show(!aY c[k]! c[a]!)=true;rw[eD R,eD R,oS q];rfl).symm.trans u,R,R⟩ bB
  ·exact dG 53 (show¬((i:Nat):Int)<=((k:Nat):Int) by omega)<|I 20<|dv [0] k ⟨u.symm.trans<|Nn h,C,D⟩
 rintro(J:Nat) ⟨E,Y,ae⟩;refine I 6 ?_;by_cases F:i<=J
 case neg=>
  refine dd 71<|I 9<|cK j j (en c.toList[a] (a0 R) ?_) (ba:=R);refine I 2<|cK j j (en c.toList[J] (a0 R) ?_) (ba:=R);refine cK j j (hW c.toList[a] (w:=c.toList[J]) (a0 R) ?_) (ba:=R);refine I 2<|cK j j (hW (l:=c.toList.set (J) c.toList[a]) (ai:=gT) c.toList[J] (J:=a) (a0 dA) ?_) (ba:=R);refine I 11 ?_;have A:=nm (c:=c) (i:=J) (J:=a) R R;have B:Go.Sort.partition aY d a b p=(J,true,Go.Sort.swp c J a):=by
   rw[G]at hu E⊢;exact aoX hu E F
  exact an ⟨.inr j,⟨_,j,j,.of<|Zx B⟩,[0],j,hV aC ⟨_,Zy B A,j,λ_=>j⟩⟩
 refine c2 71<|I 11<|cK j j (en c.toList[J] (a0 R) ?_) (ba:=R);refine I 2<|cK j j (en c.toList[i] (a0 R) ?_) (ba:=R);refine cK j j (hW c.toList[J] (w:=c.toList[i]) (a0 R) ?_) (ba:=R);refine I 2<|cK j j (hW (l:=c.toList.set (i) c.toList[J]) (ai:=gT) c.toList[i] (J:=J) (a0 dA) ?_) (ba:=R);refine I 18 ?_;have A:=nm (c:=c) (i:=i) (J:=J) R R;refine cd 12 ((i+1:Nat):Int)<|cd 13 ((J-1:Nat):Int) ?_;have B:∀r,Go.Sort.partLoop aY a (i+1) (J-1) (Go.Sort.swp c i J)=r->Go.Sort.partition aY d a b p=(r.1,false,Go.Sort.swp r.2 r.1 a):=λr h=>by
  rw[G]at hu E h;exact aoY hu E F h
 have O:(Go.Sort.swp c i J).size=d.size:=by rw[swp_size];exact M
 obtain⟨N,V⟩:∃N,N=Go.Sort.swp c i J:=dC;rw[<-V]at A O B;refine eu (L:=Nat×Nat×bi aO) (λ(i,J,w)=>a<i/\i<=d.size+2/\a<=J/\J<b/\w.size=d.size/\∀r,Go.Sort.partLoop aY a i J w=r->Go.Sort.partition aY d a b p=(r.1,false,Go.Sort.swp r.2 r.1 a)) (λ((i:Nat),(J:Nat),(w:bi aO))=>⟨[cS w],1,[(0,.aK 0 6 0 d.size d.size),(1,.aa (a:Nat)),(4,ep),(12,.aa ((i:Nat):Int)),(13,.aa ((J:Nat):Int))]⟩) (λx=>x.2.1+1-x.1) [0] (i+1,J-1,N) ⟨R,R,R,R,O,B⟩ (by show J-1+1-(i+1)<bx+1;unfold bx;omega) (g1 (aF:=⟨⟨_,congrArg (λw=>some<|a4.a 197 true 6 aO gT w) A,j,λ_=>j⟩,aC⟩)) ?_;clear B O A V hu E Z G M;rintro⟨i,J,w⟩ ⟨ah,al,ak,ao,W,B⟩;have aj:w.toList.length=d.size:=by rw[hs];exact W
 refine I 3<|j7 (L:=Nat) (λo=>Go.Sort.scanUp (λx=>aY x w[a]!) w J i=o/\i<=o/\o<=d.size+2) (λ(o:Nat)=>⟨[cS w],1,[(0,.aK 0 6 0 d.size d.size),(1,.aa (a:Nat)),(4,ep),(12,.aa ((o:Nat):Int)),(13,.aa ((J:Nat):Int))]⟩) ?_ ?_
 ·refine eA (L:=Nat) (λo=>Go.Sort.scanUp (λx=>aY x w[a]!) w J o=Go.Sort.scanUp (λx=>aY x w[a]!) w J i/\i<=o/\o<=d.size+2) (λ(o:Nat)=>⟨[cS w],1,[(0,.aK 0 6 0 d.size d.size),(1,.aa (a:Nat)),(4,ep),(12,.aa ((o:Nat):Int)),(13,.aa ((J:Nat):Int))]⟩) (λo=>J+1-o) [0] i zK ?_;rintro(o:Nat) ⟨u,C,D⟩;refine I 7 ?_;by_cases h:o<=J
  ·refine eE 108 (show((o:Nat):Int)<=((J:Nat):Int) by omega)<|I 7<|cK j j (I 1<|en w.toList[o] (a0 R) ?_) (ba:=R);refine I 5<|cK j j (I 1<|en w.toList[a] (a0 R) ?_) (ba:=R);refine I 1<|nT n4 (w.toList[o],w.toList[a]) aC<|I 5 ?_;by_cases q:iD w.toList[o].n w.toList[a].n<0
   ·exact v1 120 q<|I 10<|bW [0] (o+1) ⟨by show J+1-(o+1)<J+1-o;omega,(Nj h<|by show aY w[o]! w[a]! =true;rw[eD R,eD R,oR q]).symm.trans u,R,R⟩ bB
   ·exact v0 120 q<|I 5<|dv [0] o ⟨u.symm.trans (Nl<|by show aY w[o]! w[a]! =false;rw[eD R,eD R,oS q]),C,D⟩
  ·exact dG 108 (show¬((o:Nat):Int)<=((J:Nat):Int) by omega)<|I 19<|dv [0] o ⟨u.symm.trans<|Nk h,C,D⟩
 rintro(i2:Nat) ⟨hu,T,a'⟩;refine I 2<|j7 (L:=Nat) (λk=>Go.Sort.scanDown (λx=> !aY x w[a]!) w i2 J=k/\k<=J/\a<=k) (λ(k:Nat)=>⟨[cS w],1,[(0,.aK 0 6 0 d.size d.size),(1,.aa (a:Nat)),(4,ep),(12,.aa ((i2:Nat):Int)),(13,.aa ((k:Nat):Int))]⟩) ?_ ?_
 ·refine eA (L:=Nat) (λk=>Go.Sort.scanDown (λx=> !aY x w[a]!) w i2 k=Go.Sort.scanDown (λx=> !aY x w[a]!) w i2 J/\k<=J/\a<=k) (λ(k:Nat)=>⟨[cS w],1,[(0,.aK 0 6 0 d.size d.size),(1,.aa (a:Nat)),(4,ep),(12,.aa ((i2:Nat):Int)),(13,.aa ((k:Nat):Int))]⟩) (λk=>k) [0] J zK ?_;rintro(k:Nat) ⟨u,C,D⟩;refine I 7 ?_;by_cases h:i2<=k
  ·refine eE 126 (show((i2:Nat):Int)<=((k:Nat):Int) by omega)<|I 7<|cK j j (I 1<|en w.toList[k] (a0 R) ?_) (ba:=R);refine I 5<|cK j j (I 1<|en w.toList[a] (a0 R) ?_) (ba:=R);refine I 1<|nT n4 (w.toList[k],w.toList[a]) aC<|I 7 ?_;by_cases q:iD w.toList[k].n w.toList[a].n<0
   ·refine vg 139 q ?_;exact I 5<|dv [0] k ⟨u.symm.trans (No<|by show(!aY w[k]! w[a]!)=false;rw[eD R,eD R,oR q];rfl),C,D⟩
   ·refine vf 139 q ?_;exact I 10<|bW [0] (k-1) ⟨by show(k-1)<k;omega,(Nm R h<|by show(!aY w[k]! w[a]!)=true;rw[eD R,eD R,oS q];rfl).symm.trans u,R,R⟩ bB
  ·exact dG 126 (show¬((i2:Nat):Int)<=((k:Nat):Int) by omega)<|I 20<|dv [0] k ⟨u.symm.trans<|Nn h,C,D⟩
 rintro(fR:Nat) ⟨E,Y,ae⟩;refine I 6 ?_;by_cases F:i2<=fR
 case neg=>
  refine dd 144 ?_;have B:=B _<|aoB hu E F;refine I 15<|cK j j (en w.toList[a] (a0 R) ?_) (ba:=R);refine I 2<|cK j j (en w.toList[fR] (a0 R) ?_) (ba:=R);refine cK j j (hW w.toList[a] (w:=w.toList[fR]) (a0 R) ?_) (ba:=R);refine I 2<|cK j j (hW (l:=w.toList.set (fR) w.toList[a]) (ai:=gT) w.toList[fR] (J:=a) (a0 dA) ?_) (ba:=R);refine I 10 ?_;have A:=nm (c:=w) (i:=fR) (J:=a) R R;exact an ⟨.inr j,⟨_,j,j,.of<|Zx B⟩,[0],j,hV aC ⟨_,Zy B A,j,λ_=>j⟩⟩
 refine c2 144<|I 11<|cK j j (en w.toList[fR] (a0 R) ?_) (ba:=R);refine I 2<|cK j j (en w.toList[i2] (a0 R) ?_) (ba:=R);refine cK j j (hW w.toList[fR] (w:=w.toList[i2]) (a0 R) ?_) (ba:=R);refine I 2<|cK j j (hW (l:=w.toList.set (i2) w.toList[fR]) (ai:=gT) w.toList[i2] (J:=fR) (a0 dA) ?_) (ba:=R);refine I 15 ?_;have A:=nm (c:=w) (i:=i2) (J:=fR) R R;exact bW [0] (i2+1,fR-1,Go.Sort.swp w i2 fR) ⟨by show fR-1+1-(i2+1)<J+1-i;omega,R,R,R,R,by rw[swp_size];exact W,λr h=>B r<|(aoC hu E F T Y R).trans h⟩<|bB (aF:=⟨⟨_,congrArg (λw=>some<|a4.a 197 true 6 aO gT w) A,j,λ_=>j⟩,aC⟩)
def Zz:ev:=ko λ((d,a,b,p):bi aO×Nat×Nat×Nat)=>([cS d],[.aK 0 6 0 d.size d.size,.aa (a:Nat),.aa (b:Nat),.aa (p:Nat),ep],a<b/\b<=d.size/\p<d.size/\d.size<=1000000,[cS (Go.Sort.partitionEqual aY d a b p).2],.aa ((Go.Sort.partitionEqual aY d a b p).1:Nat))
def ao0:bt 302 Zz:=by
 refine kH [(108,ve)] S2.1 ?_;intro⟨d,a,b,p⟩ ⟨(a':a<b),(ae:b<=d.size),(hp:p<d.size),(bV:d.size<=_)⟩ H i0 au af;obtain⟨aj,rfl⟩:∃b,i0=[b]:=mg.1 af;have ao:d.toList.length=d.size:=hs;show b5.ok _ ⟨_,_,⟨[cS d],1,[(0,.aK 0 6 0 d.size d.size),(1,.aa (a:Nat)),(2,.aa (b:Nat)),(3,.aa (p:Nat)),(4,ep)]⟩⟩;refine I 11<|cK j j (en d.toList[p] (a0 R) ?_) (ba:=R);refine I 2<|cK j j (en d.toList[a] (a0 R) ?_) (ba:=R);refine cK j j (hW d.toList[p] (w:=d.toList[a]) (a0 R) ?_) (ba:=R);refine I 2<|cK j j (hW (l:=d.toList.set (a) d.toList[p]) (ai:=gT) d.toList[a] (J:=p) (a0 dA) ?_) (ba:=R);refine I 14 ?_;have D:=nm (c:=d) (i:=a) (J:=p) R R;refine cd 11 ((a+1:Nat):Int)<|cd 12 ((b-1:Nat):Int) ?_;have G:(Go.Sort.swp d a p).size=d.size:=swp_size _ _ _;refine eu (L:=Nat×Nat×bi aO) (λ(i,J,w)=>a<i/\i<=d.size+2/\a<=J/\J<b/\w.size=d.size/\Go.Sort.partEqLoop aY a i J w=Go.Sort.partitionEqual aY d a b p) (λ((i:Nat),(J:Nat),(w:bi aO))=>⟨[cS w],1,[(0,.aK 0 6 0 d.size d.size),(1,.aa (a:Nat)),(4,ep),(11,.aa ((i:Nat):Int)),(12,.aa ((J:Nat):Int))]⟩) (λx=>x.2.1+1-x.1) [0] (a+1,b-1,Go.Sort.swp d a p) ⟨R,R,R,R,G,j⟩ (by show b-1+1-(a+1)<bx+1;unfold bx;omega) (g1 (aF:=⟨⟨_,congrArg (λw=>some<|a4.a 197 true 6 aO gT w) D,j,λ_=>j⟩,aC⟩)) ?_;clear G D;rintro⟨i,J,w⟩ ⟨T,Y,W,Z,F,A⟩;have V:w.toList.length=d.size:=by rw[hs];exact F
 refine I 3<|j7 (L:=Nat) (λo=>Go.Sort.scanUp (λx=> !aY w[a]! x) w J i=o/\i<=o/\o<=d.size+2) (λ(o:Nat)=>⟨[cS w],1,[(0,.aK 0 6 0 d.size d.size),(1,.aa (a:Nat)),(4,ep),(11,.aa ((o:Nat):Int)),(12,.aa ((J:Nat):Int))]⟩) ?_ ?_
 ·refine eA (L:=Nat) (λo=>Go.Sort.scanUp (λx=> !aY w[a]! x) w J o=Go.Sort.scanUp (λx=> !aY w[a]! x) w J i/\i<=o/\o<=d.size+2) (λ(o:Nat)=>⟨[cS w],1,[(0,.aK 0 6 0 d.size d.size),(1,.aa (a:Nat)),(4,ep),(11,.aa ((o:Nat):Int)),(12,.aa ((J:Nat):Int))]⟩) (λo=>J+1-o) [0] i zK ?_;rintro(o:Nat) ⟨u,B,C⟩;refine I 7 ?_;by_cases h:o<=J
  ·refine eE 34 (show((o:Nat):Int)<=((J:Nat):Int) by omega)<|I 7<|cK j j (I 1<|en w.toList[a] (a0 R) ?_) (ba:=R);refine I 5<|cK j j (I 1<|en w.toList[o] (a0 R) ?_) (ba:=R);refine I 1<|nT n4 (w.toList[a],w.toList[o]) aC<|I 7 ?_;by_cases q:iD w.toList[a].n w.toList[o].n<0
   ·refine vg 47 q ?_;exact I 5<|dv [0] o ⟨u.symm.trans (Nl<|by show(!aY w[a]! w[o]!)=false;rw[eD R,eD R,oR q];rfl),B,C⟩
   ·refine vf 47 q ?_;exact I 10<|bW [0] (o+1) ⟨by show J+1-(o+1)<J+1-o;omega,(Nj h<|by show(!aY w[a]! w[o]!)=true;rw[eD R,eD R,oS q];rfl).symm.trans u,R,R⟩ bB
  ·exact dG 34 (show¬((o:Nat):Int)<=((J:Nat):Int) by omega)<|I 20<|dv [0] o ⟨u.symm.trans<|Nk h,B,C⟩
 rintro(i2:Nat) ⟨hu,N,ak⟩;refine I 2<|j7 (L:=Nat) (λk=>Go.Sort.scanDown (λx=>aY w[a]! x) w i2 J=k/\k<=J/\a<=k) (λ(k:Nat)=>⟨[cS w],1,[(0,.aK 0 6 0 d.size d.size),(1,.aa (a:Nat)),(4,ep),(11,.aa ((i2:Nat):Int)),(12,.aa ((k:Nat):Int))]⟩) ?_ ?_
 ·refine eA (L:=Nat) (λk=>Go.Sort.scanDown (λx=>aY w[a]! x) w i2 k=Go.Sort.scanDown (λx=>aY w[a]! x) w i2 J/\k<=J/\a<=k) (λ(k:Nat)=>⟨[cS w],1,[(0,.aK 0 6 0 d.size d.size),(1,.aa (a:Nat)),(4,ep),(11,.aa ((i2:Nat):Int)),(12,.aa ((k:Nat):Int))]⟩) (λk=>k) [0] J zK ?_;rintro(k:Nat) ⟨u,B,C⟩;refine I 7 ?_;by_cases h:i2<=k
  ·refine eE 53 (show((i2:Nat):Int)<=((k:Nat):Int) by omega)<|I 7<|cK j j (I 1<|en w.toList[a] (a0 R) ?_) (ba:=R);refine I 5<|cK j j (I 1<|en w.toList[k] (a0 R) ?_) (ba:=R);refine I 1<|nT n4 (w.toList[a],w.toList[k]) aC<|I 5 ?_;by_cases q:iD w.toList[a].n w.toList[k].n<0
   ·exact v1 65 q<|I 10<|bW [0] (k-1) ⟨by show(k-1)<k;omega,(Nm R h<|by show aY w[a]! w[k]! =true;rw[eD R,eD R,oR q]).symm.trans u,R,R⟩ bB
   ·exact v0 65 q<|I 5<|dv [0] k ⟨u.symm.trans (No<|by show aY w[a]! w[k]! =false;rw[eD R,eD R,oS q]),B,C⟩
  ·exact dG 53 (show¬((i2:Nat):Int)<=((k:Nat):Int) by omega)<|I 19<|dv [0] k ⟨u.symm.trans<|Nn h,B,C⟩
 rintro(fR:Nat) ⟨E,O,al⟩;refine I 6 ?_;by_cases M:i2<=fR
 case neg=>
  refine dd 70 ?_;have A:(i2,w)=Go.Sort.partitionEqual aY d a b p:=(aoD hu E M).symm.trans A;refine I 16<|an ⟨.inr j,⟨_,j,j,.of ?_⟩,[0],j,hV aC ⟨_,?_,j,λ_=>j⟩⟩
  ·show ag.aa ((i2:Nat):Int)=ag.aa ((Go.Sort.partitionEqual aY d a b p).1:Nat);rw[<-A]
  ·show some (cS w)=some (cS (Go.Sort.partitionEqual aY d a b p).2);rw[<-A]
 refine c2 70<|I 11<|cK j j (en w.toList[fR] (a0 R) ?_) (ba:=R);refine I 2<|cK j j (en w.toList[i2] (a0 R) ?_) (ba:=R);refine cK j j (hW w.toList[fR] (w:=w.toList[i2]) (a0 R) ?_) (ba:=R);refine I 2<|cK j j (hW (l:=w.toList.set (i2) w.toList[fR]) (ai:=gT) w.toList[i2] (J:=fR) (a0 dA) ?_) (ba:=R);refine I 15 ?_;have D:=nm (c:=w) (i:=i2) (J:=fR) R R;exact bW [0] (i2+1,fR-1,Go.Sort.swp w i2 fR) ⟨by show fR-1+1-(i2+1)<J+1-i;omega,R,R,R,R,by rw[swp_size];exact F,(aoE hu E M N O R).symm.trans A⟩<|bB (aF:=⟨⟨_,congrArg (λw=>some<|a4.a 197 true 6 aO gT w) D,j,λ_=>j⟩,aC⟩)
def CO(a b i:Nat)(d:bi aO):bi aO:=if 2<=i-a then Go.Sort.shiftDown aY (i-1) d else d
def CP(b i:Nat)(d:bi aO):bi aO:=if 2<=b-i then Go.Sort.shiftUp aY b (i+1) d else d
def ao1(aF:Go.Sort.scanSorted aY d b i=b):Go.Sort.partialIns aY a b (s+1) i d=(d,true):=by
 rw[Go.Sort.partialIns];rw[aF,aE j]
def ao2(aF:Go.Sort.scanSorted aY d b i=i2)(aL:i2≠b)(j:b-a<50):Go.Sort.partialIns aY a b (s+1) i d=(d,false):=by
 rw[Go.Sort.partialIns];rw[aF,aw aL,aE j]
def ao3(aF:Go.Sort.scanSorted aY d b i=i2)(aL:i2≠b)(j:¬b-a<50):Go.Sort.partialIns aY a b (s+1) i d=Go.Sort.partialIns aY a b s i2 (CP b i2<|CO a b i2<|Go.Sort.swp d i2<|i2-1):=by
 rw[Go.Sort.partialIns];rw[aF,aw aL,aw j];rfl
def ZA:ev:=ko λ((d,a,b):bi aO×Nat×Nat)=>([cS d],[.aK 0 6 0 d.size d.size,.aa (a:Nat),.aa (b:Nat),ep],a<b/\b<=d.size/\d.size<=1000000,[cS (Go.Sort.partialInsertionSort aY d a b).1],.b (Go.Sort.partialInsertionSort aY d a b).2)
def Np{x y:bi aO×Bool}(h:x=y):ag.b y.2=ag.b x.2:=by rw[h]
def Nq{x y:bi aO×Bool}(h:x=y):some (cS y.1)=some (cS x.1):=by rw[h]
def ao4:bt 301 ZA:=by
 refine kH [(108,ve)] TN.1 ?_;intro⟨d,a,b⟩ ⟨(aA:a<b),(aH:b<=d.size),(bV:d.size<=_)⟩ H i0 au af;obtain⟨aL,rfl⟩:∃b,i0=[b]:=mg.1 af;show b5.ok _ ⟨_,_,⟨[cS d],1,[(0,.aK 0 6 0 d.size d.size),(1,.aa (a:Nat)),(2,.aa (b:Nat)),(3,ep)]⟩⟩;refine I 9<|cd 14 ((a+1:Nat):Int)<|I 10<|eA (L:=Nat×Nat×bi aO) (λ(J,i,w)=>J<=5/\a<i/\i<=b/\w.size=d.size/\Go.Sort.partialIns aY a b (5-J) i w=Go.Sort.partialInsertionSort aY d a b) (λ((J:Nat),(i:Nat),(w:bi aO))=>⟨[cS w],1,[(0,.aK 0 6 0 d.size d.size),(1,.aa (a:Nat)),(2,.aa (b:Nat)),(3,ep),(9,.aa (i:Nat)),(10,.aa (J:Nat))]⟩) (λx=>5-x.1) [0] (0,a+1,d) ⟨R,R,R,j,j⟩ ?_;rintro⟨J,i,w⟩ ⟨az,al,ay,ae,o⟩;have ao:w.toList.length=d.size:=by rw[hs];exact ae
 refine I 5 ?_;by_cases aJ:J<5
 case neg=>
  refine c2 16 ?_;have o:(w,false)=Go.Sort.partialInsertionSort aY d a b:=by
   rw[<-o,show 5-J=0 by omega];rfl
  exact I 14<|an ⟨.inr j,⟨_,j,j,.of<|Np o.symm⟩,[0],j,hV aC ⟨_,Nq o.symm,j,λ_=>j⟩⟩
 refine dd 16 ?_;obtain⟨s,ak⟩:∃s,5-J=s+1:=⟨4-J,R⟩;rw[ak]at o;refine I 9<|j7 (L:=Nat) (λk=>Go.Sort.scanSorted aY w b i=k/\i<=k/\k<=b) (λ(k:Nat)=>⟨[cS w],1,[(0,.aK 0 6 0 d.size d.size),(1,.aa (a:Nat)),(2,.aa (b:Nat)),(3,ep),(9,.aa (k:Nat)),(10,.aa (J:Nat))]⟩) ?_ ?_
 ·refine eA (L:=Nat) (λk=>Go.Sort.scanSorted aY w b k=Go.Sort.scanSorted aY w b i/\i<=k/\k<=b) (λ(k:Nat)=>⟨[cS w],1,[(0,.aK 0 6 0 d.size d.size),(1,.aa (a:Nat)),(2,.aa (b:Nat)),(3,ep),(9,.aa (k:Nat)),(10,.aa (J:Nat))]⟩) (λk=>b-k) [0] i zK ?_;rintro(k:Nat) ⟨C,T,V⟩;refine I 7 ?_;by_cases h:k<b
  ·refine eE 22 (show((k:Nat):Int)<(b:Int) by omega)<|I 7<|cK j j (I 1<|en w.toList[k] (a0 R) ?_) (ba:=R);refine I 6<|ww 30 ((k-1:Nat):Int)<|I 1<|cK j j (I 1<|en w.toList[k-1] (a0 R) ?_) (ba:=R);refine I 1<|nT n4 (w.toList[k],w.toList[k-1]) aC<|I 7 ?_;by_cases q:iD w.toList[k].n w.toList[k-1].n<0
   ·refine vg 36 q ?_;exact I 5<|dv [0] k ⟨C.symm.trans (aoH<|by rw[eD R,eD R];exact oR q),T,V⟩
   ·refine vf 36 q ?_;exact I 10<|bW [0] (k+1) ⟨by show b-(k+1)<b-k;omega,(aoF h<|by rw[eD R,eD R];exact oS q).symm.trans C,R,R⟩ bB
  ·exact dG 22 (show¬((k:Nat):Int)<(b:Int) by omega)<|I 21<|dv [0] k ⟨C.symm.trans<|aoG h,T,V⟩
 rintro(k:Nat) ⟨C,T,V⟩;refine I 6 ?_;by_cases W:k=b
 ·refine dd 41 ?_;rw[W]at C;have o:Go.Sort.partialInsertionSort aY d a b=(w,true):=o.symm.trans<|ao1 C;exact I 15<|an ⟨.inr j,⟨_,j,j,.of<|Np o⟩,[0],j,hV aC ⟨_,Nq o,j,λ_=>j⟩⟩
 refine c2 41<|I 11<|cd 44 ((b-a:Nat):Int)<|I 1 ?_;by_cases Z:b-a<50
 ·refine dd 45 ?_;have o:Go.Sort.partialInsertionSort aY d a b=(w,false):=o.symm.trans<|ao2 C W Z;exact I 15<|an ⟨.inr j,⟨_,j,j,.of<|Np o⟩,[0],j,hV aC ⟨_,Nq o,j,λ_=>j⟩⟩
 refine c2 45 ?_;replace o:=(ao3 C W Z).symm.trans o;refine I 12<|ww 53 ((k-1:Nat):Int)<|cK j j (en w.toList[k-1] (a0 R) ?_) (ba:=R);refine I 2<|cK j j (en w.toList[k] (a0 R) ?_) (ba:=R);refine cK j j (hW w.toList[k-1] (w:=w.toList[k]) (a0 R) ?_) (ba:=R);refine I 3<|ww 50 ((k-1:Nat):Int)<|cK j j (hW (l:=w.toList.set (k) w.toList[k-1]) (ai:=gT) w.toList[k] (w:=(w.toList.set (k) w.toList[k-1])[k-1]'(by rw[vE];omega)) (a0<|by rw[vE];omega) ?_) (ba:=R);refine I 8 ?_;have A:=nm (c:=w) (i:=k) (J:=k-1) R R;have G:(Go.Sort.swp w k<|k-1).size=d.size:=by rw[swp_size];exact ae
 obtain⟨c,Y⟩:∃c,c=Go.Sort.swp w k (k-1):=dC;rw[<-Y]at A G o;refine cd 64 ((k-a:Nat):Int)<|I 3<|gQ (L:=bi aO) (λv=>v=CO a b k c/\v.size=d.size) (λ(v:bi aO)=>⟨[cS v],1,[(0,.aK 0 6 0 d.size d.size),(1,.aa (a:Nat)),(2,.aa (b:Nat)),(3,ep),(9,.aa (k:Nat)),(10,.aa (J:Nat))]⟩) ?_ ?_
 ·by_cases F:2<=k-a
  ·have N:CO a b k c=Go.Sort.shiftDown aY (k-1) c:=aE F;refine dd 65<|I 5<|cd 67 ((k-1:Nat):Int)<|I 4<|eu (L:=Nat×bi aO) (λ(m,v)=>m<=k-1/\v.size=d.size/\Go.Sort.shiftDown aY m v=CO a b k c) (λ((m:Nat),(v:bi aO))=>⟨[cS v],1,[(0,.aK 0 6 0 d.size d.size),(1,.aa (a:Nat)),(2,.aa (b:Nat)),(3,ep),(9,.aa (k:Nat)),(10,.aa (J:Nat)),(11,.aa (m:Nat))]⟩) (λx=>x.1) [0] (k-1,c) ⟨dt _,G,N.symm⟩ (by show k-1<bx+1;unfold bx;omega) (g1 (aF:=⟨⟨_,congrArg (λw=>some<|a4.a 197 true 6 aO gT w) A,j,λ_=>j⟩,aC⟩)) ?_;rintro⟨m,v⟩ ⟨hm,B,D⟩;have ah:v.toList.length=d.size:=by rw[hs];exact B
   refine I 5 ?_;by_cases M:m=0
   ·exact c2 69<|I 7<|dv [0] v ⟨by rw[<-D,M];rfl,B⟩
   refine dd 69<|I 13<|cK j j (en v.toList[m] (a0 R) ?_) (ba:=R);refine I 3<|ww 79 ((m-1:Nat):Int)<|cK j j (en v.toList[m-1] (a0 R) ?_) (ba:=R);refine nT n4 (v.toList[m],v.toList[m-1]) aC<|I 4 ?_;by_cases q:iD v.toList[m].n v.toList[m-1].n<0
   ·refine vg 84 q ?_;refine I 9<|ww 92 ((m-1:Nat):Int)<|cK j j (en v.toList[m-1] (a0 R) ?_) (ba:=R);refine I 2<|cK j j (en v.toList[m] (a0 R) ?_) (ba:=R);refine cK j j (hW v.toList[m-1] (w:=v.toList[m]) (a0 R) ?_) (ba:=R);refine I 3<|ww 89 ((m-1:Nat):Int)<|cK j j (hW (l:=v.toList.set (m) v.toList[m-1]) (ai:=gT) v.toList[m] (w:=(v.toList.set (m) v.toList[m-1])[m-1]'(by rw[vE];omega)) (a0<|by rw[vE];omega) ?_) (ba:=R);refine I 8 ?_;have A:=nm (c:=v) (i:=m) (J:=m-1) R R;exact bW [0] (m-1,Go.Sort.swp v m<|m-1) ⟨by show m-1<m;omega,R,by rw[swp_size];exact B,(aoJ R<|by rw[eD R,eD R];exact oR q).symm.trans D⟩<|bB (aF:=⟨⟨_,congrArg (λw=>some<|a4.a 197 true 6 aO gT w) A,j,λ_=>j⟩,aC⟩)
   ·refine vf 84 q ?_;exact I 7<|dv [0] v ⟨(aoI R<|by rw[eD R,eD R];exact oS q).symm.trans D,B⟩
  ·have N:CO a b k c=c:=aw F;exact c2 65<|I 2<|bW [0] c ⟨N.symm,G⟩ (g1 (aF:=⟨⟨_,congrArg (λw=>some<|a4.a 197 true 6 aO gT w) A,j,λ_=>j⟩,aC⟩))
 rintro v ⟨a',B⟩;rw[<-a']at o;clear A Y G a';have ah:v.toList.length=d.size:=by rw[hs];exact B
 refine I 5<|cd 103 ((b-k:Nat):Int)<|I 3<|j7 (L:=bi aO) (λu=>u=CP b k v/\u.size=d.size) (λ(v:bi aO)=>⟨[cS v],1,[(0,.aK 0 6 0 d.size d.size),(1,.aa (a:Nat)),(2,.aa (b:Nat)),(3,ep),(9,.aa (k:Nat)),(10,.aa (J:Nat))]⟩) ?_ ?_
 ·by_cases F:2<=b-k
  ·have O:CP b k v=Go.Sort.shiftUp aY b (k+1) v:=aE F;refine dd 104<|I 5<|cd 106 ((k+1:Nat):Int)<|I 4<|eA (L:=Nat×bi aO) (λ(m,u)=>1<=m/\m<=b/\u.size=d.size/\Go.Sort.shiftUp aY b m u=CP b k v) (λ((m:Nat),(v:bi aO))=>⟨[cS v],1,[(0,.aK 0 6 0 d.size d.size),(1,.aa (a:Nat)),(2,.aa (b:Nat)),(3,ep),(9,.aa (k:Nat)),(10,.aa (J:Nat)),(12,.aa (m:Nat))]⟩) (λx=>b-x.1) [0] (k+1,v) ⟨R,R,B,O.symm⟩ ?_;rintro⟨m,u⟩ ⟨aG,av,E,D⟩;have ax:u.toList.length=d.size:=by rw[hs];exact E
   refine I 6 ?_;by_cases M:m<b
   case neg=>
    exact c2 109<|I 8<|dv [0] u ⟨(aoK M).symm.trans D,E⟩
   refine dd 109<|I 13<|cK j j (en u.toList[m] (a0 R) ?_) (ba:=R);refine I 3<|ww 119 ((m-1:Nat):Int)<|cK j j (en u.toList[m-1] (a0 R) ?_) (ba:=R);refine nT n4 (u.toList[m],u.toList[m-1]) aC<|I 4 ?_;by_cases q:iD u.toList[m].n u.toList[m-1].n<0
   ·refine vg 124 q ?_;refine I 9<|ww 132 ((m-1:Nat):Int)<|cK j j (en u.toList[m-1] (a0 R) ?_) (ba:=R);refine I 2<|cK j j (en u.toList[m] (a0 R) ?_) (ba:=R);refine cK j j (hW u.toList[m-1] (w:=u.toList[m]) (a0 R) ?_) (ba:=R);refine I 3<|ww 129 ((m-1:Nat):Int)<|cK j j (hW (l:=u.toList.set (m) u.toList[m-1]) (ai:=gT) u.toList[m] (w:=(u.toList.set (m) u.toList[m-1])[m-1]'(by rw[vE];omega)) (a0<|by rw[vE];omega) ?_) (ba:=R);refine I 8 ?_;have A:=nm (c:=u) (i:=m) (J:=m-1) R R;exact bW [0] (m+1,Go.Sort.swp u m<|m-1) ⟨by show b-(m+1)<b-m;omega,R,R,by rw[swp_size];exact E,(aoM M<|by rw[eD R,eD R];exact oR q).symm.trans D⟩<|bB (aF:=⟨⟨_,congrArg (λw=>some<|a4.a 197 true 6 aO gT w) A,j,λ_=>j⟩,aC⟩)
   ·refine vf 124 q ?_;exact I 8<|dv [0] u ⟨(aoL<|by rw[eD R,eD R];exact oS q).symm.trans D,E⟩
  ·have O:CP b k v=v:=aw F;exact c2 104<|I 3<|dv [0] v ⟨O.symm,B⟩
 rintro u ⟨aj,E⟩;rw[<-aj]at o;exact I 3<|cd 18 ((J+1:Nat):Int)<|I 2<|h4 [0] (J+1,k,u) ⟨R,R,R,E,by rw[show 5-(J+1)=s by omega];exact o⟩
section
variable{X:Ctx}{aI:ao cJ}{bk:d7->dL}{bb n:Nat}{fn:d7}{a5:bh}{i0:ac Nat}{au:aj}{Q:c1->cl->Prop}{K:ac dH}{rest:ac a4}{aB:Nat}{e:bU}{g:d7}{S:ev}{a b l9 n3 gi eV:a4}
theorem ti(aS:dY X g S.spec){bP:ac ce}{u:ac ag}{d:be Tmp}{xs:ac bm}(l:S.L)(hp:S.pre l)
 (k:cI (gP X aI bk n bb fn a5 i0 au Q) K xs (l9::n3::rest) aB (dU d (jL [0,1]<|S.res l) e)) (F:S.own l=[gi,eV]:=by rfl) (I:S.bo l=[l9,n3]:=by rfl)
 (aF:km [0,1] gi a:=by exact r4) (aL:km [0,1] eV b:=by first|exact j|exact r4)
 (cE:oF [0,1] l9 l9:=by exact r4) (E:oF [0,1] n3 n3:=by first|exact j|exact r4)
 (D:ha e bP=some u:=by rfl) (he:u=k1 [0,1] (S.args l):=by rfl) (G:bk g=S.spec.K:=by rfl) (cA:S.hp a5:=by first|exact aC|assumption):
 cI (gP X aI bk n bb fn a5 i0 au Q) K (⟨d,.call (.func g) bP,none⟩::xs) (a::b::rest) aB e:=
 Rq aS [0,1] l hp (by rw[F];exact Zm aF aL) (by rw[I];exact Zl cE E) k D he G cA
end
abbrev pU(s:Nat):a4:=.c 3 [.aa (s:Nat)]
variable{n m:Nat}
def ZB:ev:=ko λ((d,a,b,s):bi aO×Nat×Nat×Nat)=>([cS d,pU s],[.aK 0 6 0 d.size d.size,.aa (a:Nat),.aa (b:Nat),.p 1 0,ep],a<d.size/\b<d.size/\s<=1000/\d.size<=1000000,[cS d,pU (Go.Sort.order2 aY d a b s).2.2],.bq [.aa ((Go.Sort.order2 aY d a b s).1:Nat),.aa ((Go.Sort.order2 aY d a b s).2.1:Nat)])
def ZC{x y:Nat×Nat×Nat}(h:x=y):ag.bq [.aa (y.1:Nat),.aa (y.2.1:Nat)]=ag.bq [.aa (x.1:Nat),.aa (x.2.1:Nat)]:=by rw[h]
def ZD{x y:Nat×Nat×Nat}(h:x=y):some (pU y.2.2)=some (pU x.2.2):=by rw[h]
def Nr:bt 405 ZB:=by
 refine kH [(108,ve)] UK.1 ?_;intro⟨d,a,b,s⟩ ⟨(o:a<d.size),(A:b<d.size),(q:s<=_),(bV:d.size<=_)⟩ H i0 au af;obtain⟨B,u,rfl⟩:∃b c,i0=[b,c]:=by
  match i0,af with
  |[b,c],_=>exact⟨b,c,j⟩
 show eQ _ _ _ [cS d,pU s] 2 [(0,.aK 0 6 0 d.size d.size),(1,.aa (a:Nat)),(2,.aa (b:Nat)),(3,.p 1 0),(4,ep)];have C:d.toList.length=d.size:=hs;refine I 12<|cK j j (en d.toList[b] (a0 R) ?_) (ba:=R);refine I 2<|cK j j (en d.toList[a] (a0 R) ?_) (ba:=R);refine nT n4 (d.toList[b],d.toList[a]) aC<|I 3 ?_;by_cases k:iD d.toList[b].n d.toList[a].n<0
 ·have e:Go.Sort.order2 aY d a b s=(b,a,s+1):=by unfold Go.Sort.order2;rw[eD R,eD R,oR k];rfl
  exact v1 22 k<|I 7<|cd 26 ((s+1:Nat):Int)<|I 14<|an ⟨.inr j,⟨_,j,j,.of<|ZC e⟩,[0,1],j,g1 (aF:=⟨jN,⟨_,ZD e,j⟩,aC⟩)⟩
 ·have e:Go.Sort.order2 aY d a b s=(a,b,s):=by unfold Go.Sort.order2;rw[eD R,eD R,oS k];rfl
  exact v0 22 k<|I 12<|an ⟨.inr j,⟨_,j,j,.of<|ZC e⟩,[0,1],j,g1 (aF:=⟨jN,⟨_,ZD e,j⟩,aC⟩)⟩
def zL(j:a<n)(aA:b<n)(u:s<=m):(Go.Sort.order2 aY d a b s).1<n/\(Go.Sort.order2 aY d a b s).2.1<n/\(Go.Sort.order2 aY d a b s).2.2<=m+1:=by
 unfold Go.Sort.order2;split<;>(dsimp only;omega)
def Ns:ev:=ko λ((d,a,b,c,s):bi aO×Nat×Nat×Nat×Nat)=>([cS d,pU s],[.aK 0 6 0 d.size d.size,.aa (a:Nat),.aa (b:Nat),.aa (c:Nat),.p 1 0,ep],a<d.size/\b<d.size/\c<d.size/\s<=500/\d.size<=1000000,[cS d,pU (Go.Sort.median aY d a b c s).2],.aa ((Go.Sort.median aY d a b c s).1:Nat))
def Nt{c:Nat}(u:a<n)(aA:b<n)(aS:c<n)(D:s<=m):(Go.Sort.median aY d a b c s).1<n/\(Go.Sort.median aY d a b c s).2<=m+3:=by
 unfold Go.Sort.median;dsimp only;have j:=zL (d:=d) u aA D;have o:=zL (d:=d) j.2.1 aS j.2.2;have k:=zL (d:=d) j.1 o.1 o.2.2;exact⟨k.2.1,k.2.2⟩
def Nu:bt 380 Ns:=by
 refine kH [(405,ZB)] Vs.1 ?_;intro⟨d,a,b,c,s⟩ ⟨(q:a<d.size),(u:b<d.size),(A:c<d.size),(B:s<=_),(bV:d.size<=_)⟩ H i0 au af;obtain⟨E,D,rfl⟩:∃b c,i0=[b,c]:=by
  match i0,af with
  |[b,c],_=>exact⟨b,c,j⟩
 show eQ _ _ _ [cS d,pU s] 2 [(0,.aK 0 6 0 d.size d.size),(1,.aa (a:Nat)),(2,.aa (b:Nat)),(3,.aa (c:Nat)),(4,.p 1 0),(5,ep)];have k:=zL (d:=d) q u B;have o:=zL (d:=d) k.2.1 A k.2.2;have C:=zL (d:=d) k.1 o.1 o.2.2;refine I 12<|ti Nr (d,a,b,s) ⟨q,u,R,bV⟩ ?_;refine I 14<|ti Nr (d,_,c,_) ⟨k.2.1,A,cC k.2.2 R,bV⟩ ?_;refine I 14<|ti Nr (d,_,_,_) ⟨k.1,o.1,cC o.2.2 R,bV⟩ ?_;exact I 14<|an ⟨.inr j,lD,[0,1],j,g1 (aF:=⟨jN,gj,aC⟩)⟩
def ZE:ev:=ko λ((d,a,s):bi aO×Nat×Nat)=>([cS d,pU s],[.aK 0 6 0 d.size d.size,.aa (a:Nat),.p 1 0,ep],0<a/\a+1<d.size/\s<=500/\d.size<=1000000,[cS d,pU (Go.Sort.medianAdjacent aY d a s).2],.aa ((Go.Sort.medianAdjacent aY d a s).1:Nat))
def Nv:bt 379 ZE:=by
 refine kH [(380,Ns)] UE.1 ?_;intro⟨d,a,s⟩ ⟨(u:0<a),(k:a+1<d.size),(o:s<=_),(bV:d.size<=_)⟩ H i0 au af;obtain⟨A,q,rfl⟩:∃b c,i0=[b,c]:=by
  match i0,af with
  |[b,c],_=>exact⟨b,c,j⟩
 show eQ _ _ _ [cS d,pU s] 2 [(0,.aK 0 6 0 d.size d.size),(1,.aa (a:Nat)),(2,.p 1 0),(3,ep)];refine I 10<|cd 11 ((a-1:Nat):Int)<|I 3<|cd 14 ((a+1:Nat):Int)<|I 2<|ti Nu (d,a-1,a,a+1,s) ⟨R,R,k,o,bV⟩ ?_;exact I 4<|an ⟨.inr j,lD,[0,1],j,g1 (aF:=⟨jN,gj,aC⟩)⟩
def CQ(d:bi aO)(a b:Nat):Nat×Nat:=
 if 8<=b-a then
  if 50<=b-a then
   let j:=Go.Sort.medianAdjacent aY d (a+(b-a)/4*1) 0
   let k:=Go.Sort.medianAdjacent aY d (a+(b-a)/4*2) j.2
   let o:=Go.Sort.medianAdjacent aY d (a+(b-a)/4*3) k.2
   Go.Sort.median aY d j.1 k.1 o.1 o.2
  else Go.Sort.median aY d (a+(b-a)/4*1) (a+(b-a)/4*2) (a+(b-a)/4*3) 0
 else(a+(b-a)/4*2,0)
def ao5(d:bi aO)(a b:Nat):Go.Sort.choosePivot aY d a b=((CQ d a b).1,if(CQ d a b).2=0 then .increasing else if(CQ d a b).2=12 then .decreasing else .unknown):=rfl
def xz:Go.Sort.Hint->Int
 |.unknown=>0
 |.increasing=>1
 |.decreasing=>2
def ZF:ev:=ko λ((d,a,b):bi aO×Nat×Nat)=>([cS d],[.aK 0 6 0 d.size d.size,.aa (a:Nat),.aa (b:Nat),ep],a<b/\b<=d.size/\d.size<=1000000,[cS d],.bq [.aa ((Go.Sort.choosePivot aY d a b).1:Nat),.aa<|xz (Go.Sort.choosePivot aY d a b).2])
def Nw{h:Go.Sort.Hint}{z:Int}(e:Go.Sort.choosePivot aY d a b=(J,h))(u:z=xz h):ag.bq [.aa (J:Nat),.aa z]=ag.bq [.aa ((Go.Sort.choosePivot aY d a b).1:Nat),.aa<|xz (Go.Sort.choosePivot aY d a b).2]:=by rw[e,u]
def ao6:bt 299 ZF:=by
 refine kH [(379,ZE),(380,Ns)] Vo.1 ?_;intro⟨d,a,b⟩ ⟨(N:a<b),(O:b<=d.size),(bV:d.size<=_)⟩ H i0 au af;obtain⟨V,rfl⟩:∃b,i0=[b]:=mg.1 af;show eQ _ _ _ [cS d] 1 [(0,.aK 0 6 0 d.size d.size),(1,.aa (a:Nat)),(2,.aa (b:Nat)),(3,ep)];refine I 11<|cd 17 ((b-a:Nat):Int)<|I 13 (xy 20 4 (m:=b-a)<|I 1<|cd 21 (((b-a)/4*1:Nat):Int)<|I 1<|cd 22 ((a+(b-a)/4*1:Nat):Int)<|I 8 (xy 25 4 (m:=b-a)<|I 1<|cd 26 (((b-a)/4*2:Nat):Int)<|I 1<|cd 27 ((a+(b-a)/4*2:Nat):Int)<|I 8 (xy 30 4 (m:=b-a)<|I 1<|cd 31 (((b-a)/4*3:Nat):Int)<|I 1<|cd 32 ((a+(b-a)/4*3:Nat):Int)<|I 10 ?_)));have o:CQ d a b=(if 8<=b-a then
  if 50<=b-a then
   let B:=Go.Sort.medianAdjacent aY d (a+(b-a)/4*1) 0
   let C:=Go.Sort.medianAdjacent aY d (a+(b-a)/4*2) B.2
   let D:=Go.Sort.medianAdjacent aY d (a+(b-a)/4*3) C.2
   Go.Sort.median aY d B.1 C.1 D.1 D.2
  else Go.Sort.median aY d (a+(b-a)/4*1) (a+(b-a)/4*2) (a+(b-a)/4*3) 0
 else(a+(b-a)/4*2,0)):=rfl
 refine gQ (L:=Nat×Nat) (λx=>CQ d a b=x) (λx=>⟨[cS d,pU x.2],2,[(11,.p 1 0),(13,.aa (x.1:Nat))]⟩) ?_ ?_
 ·by_cases G:8<=b-a
  ·rw[aE G]at o;refine dd 34<|I 6 ?_;by_cases A:50<=b-a
   ·rw[aE A]at o;dsimp only at o;have T:12<=(b-a)/4:=by omega
    have q:=Nt (d:=d) (a:=a+(b-a)/4*1-1) (b:=a+(b-a)/4*1) (c:=a+(b-a)/4*1+1) (s:=0) (n:=d.size) (m:=0) R R R<|dt _;have u:=Nt (d:=d) (a:=a+(b-a)/4*2-1) (b:=a+(b-a)/4*2) (c:=a+(b-a)/4*2+1) (n:=d.size) R R R q.2;have M:=Nt (d:=d) (a:=a+(b-a)/4*3-1) (b:=a+(b-a)/4*3) (c:=a+(b-a)/4*3+1) (n:=d.size) R R R u.2;refine dd 36<|I 8<|ti Nv (d,a+(b-a)/4*1,0) ⟨R,R,R,bV⟩ ?_;refine I 8<|ti Nv (d,a+(b-a)/4*2,_) ⟨R,R,cC q.2 R,bV⟩ ?_;refine I 7<|ti Nv (d,a+(b-a)/4*3,_) ⟨R,R,cC u.2 R,bV⟩ ?_;refine I 9<|ti Nu (d,_,_,_,_) ⟨q.1,u.1,M.1,cC M.2 R,bV⟩ ?_;exact I 2<|bW [0,1] _ o bB
   ·rw[aw A]at o;refine c2 36<|I 11<|ti Nu (d,a+(b-a)/4*1,a+(b-a)/4*2,a+(b-a)/4*3,0) ⟨R,R,R,R,bV⟩ ?_;exact I 2<|bW [0,1] _ o bB
  ·rw[aw G]at o;exact c2 34<|I 2<|bW [0,1] _ o bB
 rintro⟨J,s⟩ fq;have k:=ao5 d a b;rw[fq]at k;dsimp only at k;refine I 9 ?_;by_cases E:s=0
 ·rw[aE E]at k;exact dd 58<|I 13<|an ⟨.inr j,⟨_,j,j,.of<|Nw k j⟩,[0],j,hV aC jN⟩
 rw[aw E]at k;refine c2 58<|I 7 ?_;by_cases F:s=12
 ·rw[aE F]at k;exact dd 61<|I 13<|an ⟨.inr j,⟨_,j,j,.of<|Nw k j⟩,[0],j,hV aC jN⟩
 ·rw[aw F]at k;exact c2 61<|I 13<|an ⟨.inr j,⟨_,j,j,.of<|Nw k j⟩,[0],j,hV aC jN⟩
def ZG(hm:m<18446744073709551616)(ah:n<18446744073709551616):IntKind.u64.wrap (BitVec.ofInt 64 (m:Int)^^^BitVec.ofInt 64 (n:Int)).toNat=((m^^^n:Nat):Int):=by
 have h:=Nat.xor_lt_two_pow (n:=64) hm ah;rw[BitVec.toNat_xor,xP,xP,xQ,xQ,mS hm,mS ah];exact J3 R R
def Hv(r:UInt64):r.toNat<18446744073709551616:=r.toNat_lt
def ZH(r:UInt64)(k:Nat)(ax:k<64)(ah:n=r.toNat*2^k%18446744073709551616):ag.i .u64 (IntKind.u64.wrap (BitVec.ofInt 64 (r.toNat:Int)^^^BitVec.ofInt 64 (n:Int)).toNat)= .i .u64 ((r^^^(r<<<UInt64.ofNat k)).toNat:Nat):=by
 have h:n=(r<<<UInt64.ofNat k).toNat:=by
  rw[UInt64.toNat_shiftLeft,UInt64.toNat_ofNat',mS (show k<2^64 by omega),mS ax,Im,ah]
 rw[ZG (Hv r) R,h,<-UInt64.toNat_xor]
def ao7(r:UInt64)(k:Nat)(ax:k<64)(ah:n=r.toNat/2^k):ag.i .u64 (IntKind.u64.wrap (BitVec.ofInt 64 (r.toNat:Int)^^^BitVec.ofInt 64 (n:Int)).toNat)= .i .u64 ((r^^^(r>>>UInt64.ofNat k)).toNat:Nat):=by
 have h:n=(r>>>UInt64.ofNat k).toNat:=by
  rw[UInt64.toNat_shiftRight,UInt64.toNat_ofNat',mS (show k<2^64 by omega),mS ax,Nat.shiftRight_eq_div_pow,ah]
 rw[ZG (Hv r)<|by rw[h];exact Hv _,h,<-UInt64.toNat_xor]
abbrev zM(r:UInt64):a4:=.c 418 [.i .u64 (r.toNat:Nat)]
def ZI:ev:=ko λ(r:UInt64)=>([zM r],[.p 0 0],True,[zM<|Go.Sort.xorNext r],.i .u64 ((Go.Sort.xorNext r).toNat:Nat))
def ao8:bt 378 ZI:=by
 refine kH [] T1.1 ?_;intro(r:UInt64) _ H i0 au af;refine I 15<|dD 10 _ j j (ZH r 13 al j) ?_;obtain⟨ew,o⟩:∃ew,ew=r^^^(r<<<UInt64.ofNat 13):=dC;rw[<-o];refine I 14<|dD 19 _ j j (ao7 ew 7 al j) ?_;obtain⟨ft,q⟩:∃ft,ft=ew^^^(ew>>>UInt64.ofNat 7):=dC;rw[<-q];refine I 14<|dD 28 _ j j (ZH ft 17 al j) ?_;obtain⟨mA,k⟩:∃mA,mA=ft^^^(ft<<<UInt64.ofNat 17):=dC;rw[<-k];have e:mA=Go.Sort.xorNext r:=by rw[k,q,o];rfl
 subst e;exact I 13<|an ⟨.inr j,lD,[0],j,g1⟩
def ZJ:bl:=b3 λ(n:Nat)=>([.aa (n:Nat)],n<=1000000,.i .u64 ((1<<<Go.Sort.bitsLen n:Nat):Int))
def Hw(n:Nat):Go.Sort.bitsLen n=bE n:=by rfl
def ao9(bX:0<n):1<<<Go.Sort.bitsLen n<=2*n/\n<1<<<Go.Sort.bitsLen n:=by
 unfold Go.Sort.bitsLen;rw[aw R,Im];have j:=Nat.log2_self_le (n:=n) R;have k:n<2^(Nat.log2 n+1):=Nat.lt_log2_self;omega
theorem apa:bt 377 ZJ:=by
 refine bR [(188,xh)] T0.1 ?_;intro(n:Nat) (ah:n<=1000000) H au;refine I 9<|aP 4 (.i .u64 n) j (by grind)<|aV Nf n (by show n<_;omega) ?_;have o:bE n<=20:=by
  rw[<-Hw];unfold Go.Sort.bitsLen;split
  ·omega
  ·have:=(Nat.log2_lt (k:=20) R).2 R;omega
 refine I 5<|an (az j j<|.of ?_);have h:(2:Nat)^bE n<=2^20:=jG al o;show ag.i .u64 ((1*2^bE n%18446744073709551616:Nat):Int)= .i .u64 ((1<<<Go.Sort.bitsLen n:Nat):Int);rw[Hw,Im,mS R]
def Hx(d:bi aO)(a b:Nat):Nat->UInt64×bi aO
 |0=>(UInt64.ofNat<|b-a,d)
 |k+1=>Go.Sort.breakStep a (b-a) (1<<<Go.Sort.bitsLen (b-a)) (Hx d a b k)<|a+(b-a)/4*2-1+k
def apb(h:8<=b-a):Go.Sort.breakPatterns d a b=(Hx d a b 3).2:=by
 unfold Go.Sort.breakPatterns;rw[aE h];rfl
def ZK:ev:=ko λ((d,a,b):bi aO×Nat×Nat)=>([cS d],[.aK 0 6 0 d.size d.size,.aa (a:Nat),.aa (b:Nat),ep],a+8<=b/\b<=d.size/\d.size<=1000000,[cS<|Go.Sort.breakPatterns d a b],.bq [])
def apc:bt 298 ZK:=by
 refine kH [(377,ZJ),(378,ZI)] Uy.1 ?_;intro⟨d,a,b⟩ ⟨(V:a+8<=b),(W:b<=d.size),(bV:d.size<=_)⟩ H i0 au af;obtain⟨Z,rfl⟩:∃b,i0=[b]:=mg.1 af;show b5.ok _ ⟨_,_,⟨[cS d],1,[(0,.aK 0 6 0 d.size d.size),(1,.aa (a:Nat)),(2,.aa (b:Nat)),(3,ep)]⟩⟩;refine I 5<|cd 15 ((b-a:Nat):Int)<|I 7<|dd 17<|I 7<|aP 19 (.i .u64 ((UInt64.ofNat<|b-a).toNat:Nat)) j (by show ag.i .u64 (((b-a)%18446744073709551616:Nat):Int)=_;rw[UInt64.toNat_ofNat'])<|I 7<|aV apa (b-a) (by show b-a<=_;omega) ?_;obtain⟨m,hm⟩:∃m,m=1<<<Go.Sort.bitsLen (b-a):=dC;have G:=ao9 (n:=b-a) R;rw[<-hm]at G;refine aP 21 (.i .u64 (m:Nat)) j (by rw[hm];rfl)<|I 8 (xy 24 4 (m:=b-a)<|I 1<|cd 25 (((b-a)/4*2:Nat):Int)<|I 1<|cd 26 ((a+(b-a)/4*2:Nat):Int)<|I 1<|cd 27 ((a+(b-a)/4*2-1:Nat):Int)<|I 4<|eu (L:=Nat×UInt64×bi aO) (λ(k,r,w)=>k<=3/\w.size=d.size/\Hx d a b k=(r,w)) (λ((k:Nat),(r:UInt64),(w:bi aO))=>⟨[cS w,zM r],2,[(0,.aK 0 6 0 d.size d.size),(1,.aa (a:Nat)),(8,.aa ((b-a:Nat):Int)),(9,.p 1 0),(10,.i .u64 (m:Nat)),(11,.aa ((a+(b-a)/4*2-1+k:Nat):Int))]⟩) (λx=>3-x.1) [0,1] (0,UInt64.ofNat<|b-a,d) ⟨R,j,j⟩ (by show 3-0<bx+1;unfold bx;omega) bB ?_);rintro⟨k,r,w⟩ ⟨Y,E,C⟩;have N:w.toList.length=d.size:=by rw[hs];exact E
 refine I 7<|xy 31 4 (m:=b-a)<|I 1<|cd 32 (((b-a)/4*2:Nat):Int)<|I 1<|cd 33 ((a+(b-a)/4*2:Nat):Int)<|I 1<|cd 34 ((a+(b-a)/4*2+1:Nat):Int)<|I 1 ?_;by_cases T:k<3
 case neg=>
  refine c2 35 ?_;have e:w=Go.Sort.breakPatterns d a b:=by
   rw[apb R,show 3=k by omega,C]
  subst e;exact I 7<|an ⟨.inl j,lD,[0],j,hV aC jN⟩
 refine dd 35<|I 9<|k3 ao8 1 r aC ?_ (U:=zM r) (cy:=zM<|Go.Sort.xorNext r) (ax:=gj) (aA:=j);obtain⟨q,A⟩:∃q,q=Go.Sort.xorNext r:=dC;rw[<-A];refine I 2 ?_;refine aP 40 (.i .u64 ((m-1:Nat):Int)) j (by
  show ag.i .u64 (((m+(18446744073709551616*1-1))%18446744073709551616:Nat):Int)=_;rw[show(m+(18446744073709551616*1-1))%18446744073709551616=m-1 by omega]) ?_
 have M:q.toNat&&&(m-1)<=m-1:=Nat.and_le_right;obtain⟨U,u⟩:∃U,U=q.toNat&&&(m-1):=dC;rw[<-u]at M;refine I 1 ?_;refine aP 41 (.i .u64 (U:Nat)) j (by
  have D:=Hv q;rw[u];rw[A]at D⊢;show ag.i .u64 ((((Go.Sort.xorNext r).toNat%18446744073709551616)&&&((m-1)%18446744073709551616):Nat):Int)=_;rw[mS D,mS (show m-1<18446744073709551616 by omega)]) ?_
 refine I 1<|cd 42 ((U:Nat):Int)<|I 11<|gQ (L:=Nat) (λp=>p=if b-a<=U then U-(b-a)else U) (λ(p:Nat)=>⟨[cS w,zM q],2,[(0,.aK 0 6 0 d.size d.size),(1,.aa (a:Nat)),(8,.aa ((b-a:Nat):Int)),(9,.p 1 0),(10,.i .u64 (m:Nat)),(11,.aa ((a+(b-a)/4*2-1+k:Nat):Int)),(12,.aa (p:Nat))]⟩) ?_ ?_
 ·by_cases B:b-a<=U
  ·exact dd 45<|I 5<|cd 48 ((U-(b-a):Nat):Int)<|I 2<|bW [0,1] (U-(b-a)) (by rw[aE B]) bB
  ·exact c2 45<|I 2<|bW [0,1] U (by rw[aw B]) bB
 rintro(p:Nat) (hp:p=_);have a':p<b-a:=by rw[hp];split<;>omega
 obtain⟨x,fq⟩:∃x,x=a+(b-a)/4*2-1+k:=dC;have O:x<d.size:=R
 rw[<-fq];refine I 7<|ww 58 ((a+p:Nat):Int)<|cK j j (en w.toList[a+p] (a0 R) ?_) (ba:=R);refine I 2<|cK j j (en w.toList[x] (a0 R) ?_) (ba:=R);refine cK j j (hW w.toList[a+p] (w:=w.toList[x]) (a0 R) ?_) (ba:=R);refine I 4<|ww 54 ((a+p:Nat):Int)<|cK j j (hW (l:=w.toList.set (x) w.toList[a+p]) (ai:=gT) w.toList[x] (J:=a+p) (a0 dA) ?_) (ba:=R);refine I 8 ?_;have F:=nm (c:=w) (i:=x) (J:=a+p) R R;refine bW [0,1] (k+1,q,Go.Sort.swp w x<|a+p) ⟨by show 3-(k+1)<3-k;omega,R,by rw[swp_size];exact E,?_⟩<|bB (aF:=⟨⟨_,congrArg (λw=>some<|a4.a 197 true 6 aO gT w) F,j,λ_=>j⟩,gj,aC⟩);show Go.Sort.breakStep a (b-a) (1<<<Go.Sort.bitsLen (b-a)) (Hx d a b k) (a+(b-a)/4*2-1+k)=_;rw[C,<-fq,<-hm];unfold Go.Sort.breakStep;dsimp only;rw[<-A,<-u,hp]
set_option maxHeartbeats 8000000
def zN(n:Nat):ev:=ko λ((d,a,b,l):bi aO×Nat×Nat×Nat)=>([cS d],[.aK 0 6 0 d.size d.size,.aa (a:Nat),.aa (b:Nat),.aa (l:Nat),ep],b-a<=n+12/\a<=b/\b<=d.size/\l<=64/\Go.Sort.Below aY a b d/\d.size<=1000000,[cS<|Go.Sort.pdq aY d a b l true true],.bq [])
def zO{x y z:ag}(h:c.size=n):[ag.aK 0 6 0 n n,x,y,z]=[ag.aK 0 6 0 c.size c.size,x,y,z]:=by rw[h]
abbrev ZL(n:Nat)(c:bi aO)(a b l:Nat)(de wp:Bool):cl:=⟨[cS c],1,[(0,.aK 0 6 0 n n),(1,.aa (a:Nat)),(2,.aa (b:Nat)),(3,.aa (l:Nat)),(4,ep),(10,.b de),(11,.b wp)]⟩
def Hy{h:Go.Sort.Hint}{z:Int}{g:Go.Sort.Hint}(j:z=xz g):(xz h=z)↔h=g:=by subst j;cases h<;>cases g<;>simp[xz]
def ZM{x y:Nat}:decide (((x:Nat):Int)>=((y:Nat):Int))=decide (x>=y):=by
 by_cases h:x>=y
 ·rw[ck h,ck R]
 ·rw[cq h,cq R]
def apd:dY bS.ctx 187 (zN 0).spec:=by
 refine kH [(296,Ng)] FY.1 ?_;intro⟨d,a,b,l⟩ ⟨ah,k,o,aD,q,bV⟩ H i0 au af;obtain⟨u,rfl⟩:∃b,i0=[b]:=mg.1 af;refine I 11<|eA (λ_=>True) (λ_=>ZL d.size d a b l true true) (λ_=>0) [0] () aC ?_;rintro⟨⟩ _;refine I 6<|cd 23 ((b-a:Nat):Int)<|I 8<|dd 25<|I 9<|k3 Zq 0 (d,a,b) ⟨k,o,bV⟩ ?_;exact I 7<|an ⟨.inr j,lD,[0],j,hV aC ⟨_,by show some (cS _)=some (cS _);rw[Zr ah],j,λ_=>j⟩⟩
def ape(n:Nat)(aJ:dY bS.ctx 187 (zN n).spec):dY bS.ctx 187 (zN<|n+1).spec:=by
 refine kH [(296,Ng),(297,Zu),(298,ZK),(299,ZF),(300,Zo),(301,ZA),(302,Zz),(303,Zw),(108,ve),(187,(zN n).spec)] FY.1 ?_;intro⟨d,D,B,F⟩ ⟨(bd:B-D<=n+1+12),(a9:D<=B),(bc:B<=d.size),(bf:F<=64),b',(bV:d.size<=_)⟩ H i0 au af;obtain⟨bl,rfl⟩:∃b,i0=[b]:=mg.1 af;show b5.ok _ ⟨_,_,⟨[cS d],1,[(0,.aK 0 6 0 d.size d.size),(1,.aa (D:Nat)),(2,.aa (B:Nat)),(3,.aa (F:Nat)),(4,ep)]⟩⟩;refine I 11<|eA (L:=bi aO×Nat×Nat×Nat×Bool×Bool) (λ(c,a,b,l,de,wp)=>b-a<=n+1+12/\a<=b/\b<=d.size/\l<=64/\Go.Sort.Below aY a b c/\c.size=d.size/\Go.Sort.pdq aY c a b l de wp=Go.Sort.pdq aY d D B F true true) (λ(c,a,b,l,de,wp)=>ZL d.size c a b l de wp) (λx=>x.2.2.1-x.2.1) [0] (d,D,B,F,true,true) ⟨bd,a9,bc,bf,b',j,j⟩ ?_;rintro⟨c,a,b,l,de,wp⟩ ⟨ah,aN,aU,aD,a7,ai,M⟩;have fin:∀{w:bi aO},w=Go.Sort.pdq aY d D B F true true->some (cS w)=some (cS<|Go.Sort.pdq aY d D B F true true):=λh=>by rw[h]
 refine I 6<|cd 23 ((b-a:Nat):Int)<|I 8 ?_;by_cases O:b-a<=12
 ·refine dd 25<|I 9<|k3 Zq 0 (c,a,b) ⟨aN,R,R⟩ ?_ (he:=zO ai);exact I 7<|an ⟨.inr j,lD,[0],j,hV aC ⟨_,fin<|(Zr O).symm.trans M,j,λ_=>j⟩⟩
 refine c2 25<|I 10 ?_;by_cases T:l=0
 ·refine dd 32<|I 9<|k3 aoW 0 (c,a,b) ⟨R,R,R⟩ ?_ (he:=zO ai);exact I 7<|an ⟨.inr j,lD,[0],j,hV aC ⟨_,fin<|(aoO O T).symm.trans M,j,λ_=>j⟩⟩
 refine c2 32 ?_;have ay:=aoT (de:=de) aN (show b<=c.size by omega);have a1:=a7.perm (show b<=c.size by omega) ay;have ae:(ma c a b de).size=d.size:=by rw[ay.1];exact ai
 have N:=aoU (c:=ma c a b de) (show a<b by omega) (show b<=(ma c a b de).size by omega);have bg:oT l de<=64:=by unfold oT;split<;>omega
 refine I 12<|gQ (L:=bi aO×Nat) (λx=>x.1=ma c a b de/\x.2=oT l de) (λx=>⟨[cS x.1],1,[(0,.aK 0 6 0 d.size d.size),(1,.aa (a:Nat)),(2,.aa (b:Nat)),(3,.aa (x.2:Nat)),(4,ep),(10,.b de),(11,.b wp),(12,.aa ((b-a:Nat):Int))]⟩) ?_ ?_
 ·cases de with
  |true=>
   exact I 2<|dv [0] (c,l) eT
  |false=>
   refine I 7<|k3 apc 0 (c,a,b) ⟨R,R,R⟩ ?_ (he:=zO ai);exact I 7<|bW [0] (Go.Sort.breakPatterns c a b,l-1) eT bB
 rintro⟨k,q⟩ ⟨(aS:k=_),(av:q=_)⟩;rw[<-aS]at ay a1 ae N;refine I 6<|k3 ao6 0 (k,a,b) ⟨R,R,R⟩ ?_ (he:=zO ae);have bj:=Go.Sort.choosePivot_holds aY k a b (show a<b by omega);refine I 14<|gQ (L:=bi aO×Nat×Go.Sort.Hint) (λx=>lG k a b=x) (λx=>⟨[cS x.1],1,[(0,.aK 0 6 0 d.size d.size),(1,.aa (a:Nat)),(2,.aa (b:Nat)),(3,.aa (q:Nat)),(4,ep),(10,.b de),(11,.b wp),(12,.aa ((b-a:Nat):Int)),(13,.aa (x.2.1:Nat)),(14,.aa<|xz x.2.2)]⟩) ?_ ?_
 ·by_cases u:(Go.Sort.choosePivot aY k a b).2= .decreasing
  ·refine v1 56 ((Hy (g:=.decreasing) j).2 u)<|I 7<|k3 aox 0 (k,a,b) ⟨R,R,R⟩ ?_ (he:=zO ae);exact I 6<|cd 63 ((b-1:Nat):Int)<|I 3<|cd 66 (((Go.Sort.choosePivot aY k a b).1-a:Nat):Int)<|I 1<|cd 67 ((b-1-((Go.Sort.choosePivot aY k a b).1-a):Nat):Int)<|I 6<|dv [0] (Go.Sort.reverseRange k a b,b-1-((Go.Sort.choosePivot aY k a b).1-a),.increasing) (by unfold lG;rw[aE u,aE u,aE u])
  ·refine v0 56 (λg=>u<|(Hy (g:=.decreasing) j).1 g) ?_;exact I 2<|dv [0] (k,(Go.Sort.choosePivot aY k a b).1,(Go.Sort.choosePivot aY k a b).2) (by unfold lG;rw[aw u,aw u,aw u])
 rintro⟨d2,gE,ji⟩ fq;have a':lG (ma c a b de) a b=(d2,gE,ji):=by rw[<-aS];exact fq
 rw[fq]at N;obtain⟨(N:Go.Sort.PermIn a b k d2),(az:a<=gE),(aG:gE<b)⟩:=N;have aV:d2.size=d.size:=by rw[N.1];exact ae
 have aA:=a1.perm (show b<=k.size by omega) N;have aH:=aoV (x:=(d2,gE,ji)) (de:=de) (wp:=wp) (show a<b by omega) (show b<=d2.size by omega) aA;have E:(kM (d2,gE,ji) a b de wp).1.size=d.size:=by rw[aH.1];exact aV
 have W:=aA.perm (show b<=d2.size by omega) aH;have a2:∀{d3},kM (d2,gE,ji) a b de wp=(d3,true)->d3=Go.Sort.pdq aY d D B F true true:=λh=>(aoP O T a' h).symm.trans M;refine KD (L:=bi aO) (λd3=>kM (d2,gE,ji) a b de wp=(d3,false)) (λd3=>⟨[cS d3],1,[(0,.aK 0 6 0 d.size d.size),(1,.aa (a:Nat)),(2,.aa (b:Nat)),(3,.aa (q:Nat)),(4,ep),(10,.b de),(11,.b wp),(12,.aa ((b-a:Nat):Int)),(13,.aa (gE:Nat))]⟩) ?_ ?_
 ·have no:(de&&wp&&decide (ji= .increasing))=false->kM (d2,gE,ji) a b de wp=(d2,false):=λh=>by
   unfold kM;dsimp only;rw[h];rfl
  cases de with
  |false=>
   exact I 14<|dv [0] d2 (no j)
  |true=>
   cases wp with
   |false=>
    exact I 15<|dv [0] d2 (no j)
   |true=>
    refine I 15 ?_;by_cases u:ji= .increasing
    ·have G:kM (d2,gE,ji) a b true true=Go.Sort.partialInsertionSort aY d2 a b:=by
      unfold kM;dsimp only;rw[u];rfl
     refine v1 75 ((Hy (g:=.increasing) j).2 u)<|I 7<|k3 ao4 0 (d2,a,b) ⟨R,R,R⟩ ?_ (he:=zO aV);cases aj:(Go.Sort.partialInsertionSort aY d2 a b).2 with
     |true=>
      exact aP 80 (.b true) j (by show ag.b _=_;rw[aj])<|I 8<|an ⟨.inr j,lD,[0],j,hV aC ⟨_,fin<|a2<|G.trans<|by rw[<-aj],j,λ_=>j⟩⟩
     |false=>
      exact aP 80 (.b false) j (by show ag.b _=_;rw[aj])<|I 4<|dv [0] (Go.Sort.partialInsertionSort aY d2 a b).1 (G.trans<|by rw[<-aj])
    ·refine v0 75 (λg=>u<|(Hy (g:=.increasing) j).1 g) ?_;exact I 2<|dv [0] d2 (no<|by rw[cq u];rfl)
 rintro d3 (G:kM (d2,gE,ji) a b de wp=(d3,false));rw[G]at E W;replace E:d3.size=d.size:=E;replace W:Go.Sort.Below aY a b d3:=W;have bh:d3.toList.length=d.size:=by rw[hs];exact E
 refine KD (L:=Unit) (λ_=>¬(0<a/\aY d3[a-1]! d3[gE]! =false)) (λ_=>⟨[cS d3],1,[(0,.aK 0 6 0 d.size d.size),(1,.aa (a:Nat)),(2,.aa (b:Nat)),(3,.aa (q:Nat)),(4,ep),(10,.b de),(12,.aa ((b-a:Nat):Int)),(13,.aa (gE:Nat))]⟩) ?_ ?_
 ·refine I 5 ?_;by_cases ak:0<a
  ·refine eE 83 (show(((a:Nat):Int)>0) by omega)<|I 8 (ww 87 ((a-1:Nat):Int)<|I 1<|cK j j (I 1<|en d3.toList[a-1] (a0 R) ?_) (ba:=R));refine I 5<|cK j j (I 1<|en d3.toList[gE] (a0 R) ?_) (ba:=R);refine I 1<|nT n4 (d3.toList[a-1],d3.toList[gE]) aC<|I 7 ?_;by_cases Z:iD d3.toList[a-1].n d3.toList[gE].n<0
   ·refine vg 97 Z ?_;exact I 2<|dv [0] () λg=>by have:=g.2;rw[eD R,eD R,oR Z]at this;cases this
   ·have aX:aY d3[a-1]! d3[gE]! =false:=by rw[eD R,eD R];exact oS Z
    refine vf 97 Z ?_;refine I 8<|k3 ao0 0 (d3,a,b,gE) ⟨R,R,R,R⟩ ?_ (he:=zJ E);obtain⟨dX,d4,A⟩:∃dX d4,Go.Sort.partitionEqual aY d3 a b gE=(dX,d4):=⟨_,_,j⟩;obtain⟨ew,ft,mA,sU,_⟩:=Go.Sort.round_eq zI (Go.Sort.partitionEqual_holds aY) ak az aG (show b<=d3.size by omega) W aX A;have C:=(aoQ O T a' G ak aX A ⟨ew,ft⟩).symm.trans M;rw[<-av]at C;exact I 12<|bW [0] (d4,dX,b,q,de,wp) ⟨by show b-dX<b-a;omega,R,ft,aU,R,sU,R,C⟩ (g1 (aF:=⟨⟨_,by show some (cS (Go.Sort.partitionEqual aY d3 a b gE).2)=some (cS d4);rw[A],j,λ_=>j⟩,aC⟩) (aL:=⟨j,by show some (ag.aa ((Go.Sort.partitionEqual aY d3 a b gE).1:Nat))=some (.aa (dX:Nat));rw[A],j,j,j,j,j,aC⟩))
  ·exact dG 83 (show¬(((a:Nat):Int)>0) by omega)<|I 18<|dv [0] () λg=>ak g.1
 rintro⟨⟩ aQ;obtain⟨dX,ap,d4,A⟩:∃dX ap d4,Go.Sort.partition aY d3 a b gE=(dX,ap,d4):=⟨_,_,_,j⟩;obtain⟨ew,ft,mA,sU,wZ,zh,zi⟩:=Go.Sort.round_part zI (Go.Sort.partition_holds aY) az aG (show b<=d3.size by omega) W A;have Y:d4.size=d.size:=mA.trans E;refine I 7<|k3 aoZ 0 (d3,a,b,gE) ⟨R,R,R,R⟩ ?_ (he:=zJ E);refine aP 111 (.bq [.aa (dX:Nat),.b ap]) j (by show ag.bq [.aa ((Go.Sort.partition aY d3 a b gE).1:Nat),.b (Go.Sort.partition aY d3 a b gE).2.1]=_;rw[A])<|I 18<|cd 117 ((dX-a:Nat):Int)<|I 3<|cd 120 ((b-dX:Nat):Int)<|I 8 (xy 122 8 (m:=b-a)<|I 8 ?_);have aM:∃gi,[a4.a 197 true 6 aO gT (Go.Sort.partition aY d3 a b gE).2.2.toList][0]? =some gi/\km [0] (cS d4) gi:=⟨_,j,by rw[A],λ_=>j⟩;by_cases aT:dX-a<b-dX
 ·have C:=(aoR O T a' G aQ A ⟨ew,ft⟩ aT).symm.trans M;rw[<-av]at C;obtain⟨V,ao⟩:=Go.Sort.pdq_sorts aY zI d4 a dX q true true R R sU;obtain⟨al,_⟩:=zh _ V ao;refine dd 125<|I 18<|k3 aJ 0 (d4,a,dX,q) ⟨R,R,R,R,sU,R⟩ ?_ (U:=cS d4) (ax:=aM) (he:=zJ Y);exact I 5<|cd 136 ((dX+1:Nat):Int)<|I 3<|bW [0] (Go.Sort.pdq aY d4 a dX q true true,dX+1,b,q,decide (dX-a>=(b-a)/8),ap) ⟨by show b-(dX+1)<b-a;omega,R,R,aU,R,al,by rw[V.1];exact Y,C⟩ (g1 (aL:=⟨j,j,j,j,j,congrArg (λt=>some<|ag.b t) ZM,j,aC⟩))
 ·have C:=(aoS O T a' G aQ A ⟨ew,ft⟩ aT).symm.trans M;rw[<-av]at C;obtain⟨V,ao⟩:=Go.Sort.pdq_sorts aY zI d4 (dX+1) b q true true R R wZ;obtain⟨al,_⟩:=zi _ V ao;refine c2 125<|I 16<|cd 142 ((dX+1:Nat):Int)<|I 3<|k3 aJ 0 (d4,dX+1,b,q) ⟨R,R,R,R,wZ,R⟩ ?_ (U:=cS d4) (ax:=aM) (he:=zJ Y);exact I 7<|bW [0] (Go.Sort.pdq aY d4 (dX+1) b q true true,a,dX,q,decide (b-dX>=(b-a)/8),ap) ⟨by show dX-a<b-a;omega,R,R,R,R,al,by rw[V.1];exact Y,C⟩ (g1 (aL:=⟨j,j,j,j,j,congrArg (λt=>some<|ag.b t) ZM,j,aC⟩))
def apf(n:Nat):dY bS.ctx 187 (zN n).spec:=by
 induction n with
 |zero=>exact apd
 |succ n j=>exact ape n j
end Go.bA.c3
namespace Go.bA.c3
open Go.bA
open Sym
variable{X:Ctx}
variable{b:Nat}{cs ad:ac bv}
def Nx(cb:Nat)(l:ac Int):BB:=⟨λk v=>∃b U c ad el j aU,v= .slice (some ⟨b,U,none⟩) l.length c/\l.length<=c/\cb<=b/\k b=some (.cells ad el j aU)/\∀i x,l[i]? =some x->ad[U+i]? =some (.int .i64 x),
 λh _ ⟨b,U,c,ad,el,j,aU,e,u,ah,q,d⟩=>⟨b,U,c,ad,el,j,aU,e,u,ah,h _ _ q,d⟩,true,λ_ _ _ ⟨_,_,_,_,_,_,_,e,_⟩=>by rw[e];rfl⟩
def vh(cb:Nat)(t:dj):ac ag:=[.s t.b8,.g<|Nx cb t.eh]
def kN(st:aj)(cs:ac bv):aj:=match cs with
 |[]=>⟨st.h,st.ae+1⟩
 |cs=>st.new<|.cells cs 0 (0,cs.length) true
def zP(st:aj)(cs:ac bv):(kN st cs).ae=st.ae+1:=by cases cs<;>rfl
def Hz(st:aj)(cs:ac bv)(aA:b≠st.ae):(kN st cs).h.get b=st.h.get b:=by
 cases cs with
 |nil=>rfl
 |cons d j=>exact ao.fa _ _ aA
def ZN(st:aj)(h:cs≠[]):(kN st cs).h.get st.ae=some (.cells cs 0 (0,cs.length) true):=by
 cases cs with
 |nil=>exact absurd j h
 |cons d k=>exact ao.mn _ _ _
def ZO{st:aj}(h:∀i,st.ae<=i->st.h.get i=none):∀i,(kN st cs).ae<=i->(kN st cs).h.get i=none:=λi af=>by
 rw[zP]at af;rw[Hz _ _ R];exact h i R
theorem ZP{ab k aG:bF}{st b4 D:aj}{dG w:f5}(Y:dS ab k dG w)(M:bN X k b4 w)(N:∀i,st.ae<=i->ab i=none)(hold:∀b,b<st.ae->b4.h.get b=st.h.get b)(h:Way X ab st b4 k dG w D aG){n U c:Nat}(O:cs≠[])(aA:st.ae<=b){el:co}{T:Nat×Nat}{aU:Bool}(F:b4.h.get b=some (.cells ad el T aU))
 (bV:∀i (h:i<cs.length),∃x,ad[U+i]? =some x/\∀u,bc k x u->bc aG cs[i] u) (aS:n<=c) (ah:0<n):
 ∃I,Way X ab st b4 k dG w (kN D cs) I/\aG.le I/\∀u,bc k (.slice (some ⟨b,U,none⟩) n c) u->bc I (.slice (some ⟨D.ae,0,none⟩) n n) u:=by
 obtain⟨l,aD,C,an,L⟩:=M.er _ _ F av;have az:=o2.2 O;have aO:U+cs.length<=ad.length:=by
  obtain⟨x,fq,_⟩:=bV (cs.length-1) R;have:=(dN.1 fq).1;omega
 have aR:=L.iU;have hle:aG.le (gr aG D.ae ⟨l.ct,l.c5+U,c+l.ex-n,eH⟩):=λi aQ af=>by
  show(if i=_ then _ else aG i)=_;rw[aw];exact af;intro e;subst e;rw[(h.wr.fresh _<|dt _).1]at af;cases af
 have aL:∀i p m,D.h.get i=some p->p≠.dead->aG i=some m->(m.bu≠eH\/eH≠eH)->m.ct≠l.ct:=λi p m hp E hm B e=>by
  have B:=B.elim id λh=>absurd j h;rcases h.obj i p m hp E hm with⟨A,ay,Z⟩|⟨A,_⟩
  ·have:=M.inj i b p _ m l (by rw[hold i A];exact Z) E F av (Y.le _ _ ay) aD (.inl B) e;omega
  ·exact B A
 have aJ:g6 X (gr aG D.ae ⟨l.ct,l.c5+U,c+l.ex-n,eH⟩) w (.cells cs 0 (0,cs.length) true) ⟨l.ct,l.c5+U,c+l.ex-n,eH⟩:=by
  have H:¬((0,cs.length).2<=(0,cs.length).1\/true=false):=λh=>by
   rcases h with h|h
   ·have h:=h;omega
   ·cases h
  obtain⟨al,A,_⟩:=L.there;refine⟨C,an,⟨al,A,λh=>absurd h H⟩,?_,λh=>absurd h H,λi af=>?_,λh=>absurd (.inl h) H,λh=>by cases h⟩
  ·show l.c5+U+cs.length<=_;omega
  ·obtain⟨x,fq,a'⟩:=bV i af;obtain⟨u,aK,W⟩:=L.cell (U+i) R;have aa:ad[U+i]'R=x:=by grind
   rw[aa]at W;refine⟨u,?_,(a' u W).mono hle⟩;rw[<-aK];rw[q7]
 obtain⟨bH,ai⟩:=bN.name h.wr aJ (M.fw b l aD) aL λ_=>az;have ax:kN D cs=⟨D.h.set D.ae<|.cells cs 0 (0,cs.length) true,D.ae+1⟩:=by cases cs<;>first|exact absurd j O|rfl
 have aF:=N _ h.ae;have aM:=N _ aA;rw[ax];refine⟨_,⟨bH,h.r5.name aF ?_,sj h.ae,λi p m hp E hm=>?_⟩,ai,λu aC=>?_⟩
 ·rcases Y.new b l aD with q|q|q
  ·rw[aM]at q;cases q
  ·exact .inl q
  ·exact .inr q
 ·rw[ao.ee]at hp;have hm:(if i=D.ae then some _ else aG i)=some m:=hm;by_cases e:i=D.ae
  ·rw[aE e]at hm;cases hm;exact .inr ⟨j,b,ad,el,T,aU,l,F,aD,j⟩
  ·rw[aw e]at hp hm;exact h.obj i p m hp E hm
 ·cases aC with
  |fg _ aP aT _ _ V aN G=>
   rw[aD]at V;cases V;have G:=G.elim id λh=>R
   subst G;have e:c+l.ex=n+(c+l.ex-n):=R
   have q:bc (gr aG D.ae ⟨l.ct,l.c5+U,c+l.ex-n,eH⟩) (.slice (some ⟨D.ae,0,none⟩) n n) (.slice (some ⟨l.ct,l.c5+U,none⟩) n<|n+(c+l.ex-n)):=
    .fg ⟨D.ae,0,none⟩ ⟨l.ct,l.c5+U,c+l.ex-n,eH⟩ (l.c5+U) _ _ (aE j) j mw
   rw[<-e]at q;exact q
def kx(l:ac Int):ac bv:=l.map λn=>.int .i64 n
def ZQ(n:Nat)(l:ac Int):bv:=match l with
 |[]=>.chan none
 |l=>.slice (some ⟨n,0,none⟩) l.length l.length
def hd:ac dj->aj->ac bv×aj
 |[],st=>([],st)
 |t::l,st=>(.string ⟨⟨t.b8⟩⟩::ZQ st.ae t.eh::(hd l<|kN st<|kx t.eh).1,(hd l<|kN st<|kx t.eh).2)
theorem ZR:∀(l:ac dj) (st:aj),st.ae<=(hd l st).2.ae
 |[],_=>dt _
 |t::l,st=>by have:=ZR l<|kN st<|kx t.eh;rw[zP]at this;show _<=(hd l<|kN st<|kx t.eh).2.ae;omega
theorem Ny:∀(l:ac dj) (st:aj) {b:Nat},b<st.ae->(hd l st).2.h.get b=st.h.get b
 |[],_,_,_=>rfl
 |t::l,st,b,aA=>by
  show(hd l<|kN st<|kx t.eh).2.h.get b=_;rw[Ny l _<|by rw[zP];omega,Hz _ _ R]
theorem Nz:∀(l:ac dj) (st:aj),(∀b,st.ae<=b->st.h.get b=none)->∀b,(hd l st).2.ae<=b->(hd l st).2.h.get b=none
 |[],_,h=>h
 |t::l,st,h=>Nz l (kN st<|kx t.eh)<|ZO h
def apg{g:bh}{l:ac Int}(h:g b=some (.cells (kx l) 0 (0,(kx l).length) true)):den g (.c6 1 Int g4 l) [] (.slice (some ⟨b,0,none⟩) l.length l.length):=by
 refine .inr<|.inr ⟨b,0,l.length,kx l,0,(0,(kx l).length),true,j,dt _,h,λi x fq=>?_⟩;have af:=(dN.1 fq).1;have fq:=(dN.1 fq).2;have aD:(kx l).length=l.length:=by simp[kx]
 have e:((kx l).drop<|0+i*1).take 1=[.int .i64 x]:=by
  rw[show 0+i*1=i by omega,gp R];simp[List.take_succ_cons,HZ,kx,tw,fq]
 rw[e];exact⟨_,_,j,j,j⟩
theorem ZS:∀(l:ac dj) (st:aj) (J:Nat) (t:dj),l[J]? =some t->∀{g:bh},(∀b U,st.ae<=b->(hd l st).2.h.get b=some U->g b=some U)->cB g (iC t) [] (((hd l st).1.drop<|J*2).take 2)
 |[],_,_,_,h,_,_=>by simp at h
 |t::l,st,0,k,h,g,u=>by
  cases h;refine⟨_,_,j,j,_,_,j,?_,j⟩;cases hp:t.eh with
  |nil=>exact .inl eT
  |cons p a8=>
   refine apg<|u _ _ (dt _) ?_;show(hd l<|kN st<|kx t.eh).2.h.get st.ae=_;rw[Ny _ _<|by rw[zP];omega,ZN _<|by rw[hp];simp[kx],hp]
 |t::l,st,J+1,k,h,g,u=>by
  have e:((hd (t::l) st).1.drop<|(J+1)*2).take 2=((hd l<|kN st<|kx t.eh).1.drop<|J*2).take 2:=by
   rw[show(J+1)*2=J*2+1+1 by omega];rfl
  rw[e];exact ZS l _ J k h λb U A q=>u b U (by rw[zP]at A;omega) q
def aph{a b:bv}(h:ad.take 2=[a,b]):∃r,ad=a::b::r:=by
 match ad,h with
 |x::y::r,h=>cases h;exact⟨r,j⟩
theorem ZT{ab k:bF}{st b4:aj}{dG w:f5}(G:dS ab k dG w)(I:bN X k b4 w)(E:∀i,st.ae<=i->ab i=none)(hold:∀b,b<st.ae->b4.h.get b=st.h.get b){H1:bh}(M:∀b U,H1 b=some U->b4.h.get b=some U):
 ∀(l:ac dj) (ad:ac bv) {D:aj} {aG:bF},Way X ab st b4 k dG w D aG->(∀i t,l[i]? =some t->cB H1 (vh st.ae t) [] ((ad.drop<|i*2).take 2))->
  ∃B,Way X ab st b4 k dG w (hd l D).2 B/\aG.le B/\∀(J:Nat) (h:J<(hd l D).1.length),∃x,ad[J]? =some x/\∀u,bc k x u->bc B (hd l D).1[J] u
 |[],_,D,aG,h,_=>⟨aG,h,bF.le.refl _,λJ aF=>by simp[hd]at aF⟩
 |t::l,ad,D,aG,h,bV=>by
  obtain⟨v1,aw,H,aF,ax,ao,iW,aL,O⟩:=bV 0 t j;subst O iW;obtain⟨W,rfl⟩:=aph (by exact H);subst aF;obtain⟨b,U,c,ay,el,an,aU,rfl,ah,aa,L,R⟩:=aL;have one:∃A,Way X ab st b4 k dG w (kN D<|kx t.eh) A/\aG.le A/\∀u,bc k (.slice (some ⟨b,U,none⟩) t.eh.length c) u->bc A (ZQ D.ae t.eh) u:=by
   cases hp:t.eh with
   |nil=>exact⟨aG,h.skip,bF.le.refl _,λu q=>by cases q;exact .emp _ _⟩
   |cons p ai=>
    refine ZP G I E hold h (by simp[kx]) aa (M _ _ L) (λi af=>?_) (by rw[<-hp];exact ah) av;have a':i<(p::ai).length:=by simpa[kx]using af
    refine⟨_,R i _<|by rw[hp];exact a0 a',λu q=>?_⟩;cases q;simp only[kx,tw];exact .int _ _
  obtain⟨A,Y,N,a2⟩:=one;obtain⟨al,T,F,V⟩:=ZT G I E hold M l W Y λi Z ji=>by
   have:=bV (i+1) Z ji;rw[show(i+1)*2=i*2+1+1 by omega]at this;exact this
  refine⟨al,T,N.trans F,λJ C=>?_⟩
  match J,C with
  |0,_=>exact⟨_,j,λu q=>by cases q;exact .string _⟩
  |1,_=>exact⟨_,j,λu q=>(a2 u q).mono F⟩
  |J+2,C=>exact V J<|by simp[hd,hN]at C;omega
structure zQ(st:aj)(l:ac dj)(v:bv)(b4:aj)(H1:bh):Prop where
 val:(l=[]∧v= .slice none 0 0)∨l≠[]∧∃b c ad el aU,v= .slice (some ⟨b,0,none⟩) l.length c∧l.length<=c∧st.ae<=b∧b4.h.get b=some (.cells ad el (0,0) aU)∧∀i t,l[i]? =some t->cB H1 (vh st.ae t) [] ((ad.drop (i*2)).take 2)
 le:∀b U,H1 b=some U->b4.h.get b=some U
 eF:∀b,b<st.ae->b4.h.get b=st.h.get b
variable{l:ac dj}{ab:bF}{w:f5}{v:bv}{b4:aj}{H1:bh}
def HA(l:ac dj)(st:aj):bv:=match l with
 |[]=>.slice none 0 0
 |l=>.slice (some ⟨(hd l st).2.ae,0,none⟩) l.length l.length
def CR(l:ac dj)(st:aj):aj:=match l with
 |[]=>st
 |l=>kN (hd l st).2 (hd l st).1
def ZU{st:aj}(h:l≠[]):(hd l st).1≠[]:=by
 cases l with
 |nil=>exact absurd j h
 |cons=>simp[hd]
def ZV{st:aj}(h:l≠[]):CR l st=kN (hd l st).2 (hd l st).1:=by
 cases l with
 |nil=>exact absurd j h
 |cons=>rfl
def ZW{st:aj}(h:l≠[]):HA l st= .slice (some ⟨(hd l st).2.ae,0,none⟩) l.length l.length:=by
 cases l with
 |nil=>exact absurd j h
 |cons=>rfl
def ZX{j:bF}{w':f5}(h:dS ab j w w'):dS ab ab w w':=⟨bF.le.refl _,h.size,h.kept,λ_ _ q=>.inl q,h.fE⟩
def zQ.can{st:aj}{b:dK}{bd:Bool->ac Frame}{s:Machine}(h:zQ st l v b4 H1)(u:bN X ab st w)(M:gZ X ab w b bd s (.ret v b4 false)):gZ X ab w b bd s (.ret (HA l st) (CR l st) false):=by
 obtain⟨N,A,w',F,H,o,j,B,C,D,E⟩:=M;rcases h.val with⟨rfl,rfl⟩|⟨k,b,c,ad,el,aU,rfl,V,U,L,bV⟩
 ·exact⟨ab,A,w',F,by cases H;exact .jZ _ _,bN.back j.le u o h.eF,ZX j,B,C,D,E⟩
 have aT:∀{i:Nat} {p:bz},st.h.get i=some p->i<st.ae:=λ{i p} hp=>by
  rcases fS i st.ae with q|q
  ·exact q
  ·rw[(u.fresh i q).2]at hp;cases hp
 have I:∀i,st.ae<=i->ab i=none:=λi af=>(u.fresh i af).1;have T:Way X ab st b4 N w w' st ab:=⟨bN.back j.le u o h.eF,ZX j,dt _,λi p m hp aa hm=>.inl ⟨aT hp,hm,hp⟩⟩;obtain⟨Y,R,Z,a2⟩:=ZT j o I h.eF h.le l ad T bV;obtain⟨W,G,a',O⟩:=ZP j o I h.eF R (ZU k) U L (λi af=>by rw[iE];exact a2 i af) V<|o2.2 k;rw[ZW k,ZV k];exact⟨W,A,w',F,O A H,G.wr,G.r5,B,C,D,E⟩
def zQ.uniq{st:aj}{u:ac dj}{D:bh}(h:zQ st l v b4 H1)(aL:zQ st u v b4 D):l=u:=by
 rcases h.val with⟨rfl,rfl⟩|⟨ao,b,c,ad,el,aU,rfl,ay,ax,G,bV⟩
 ·rcases aL.val with⟨rfl,_⟩|⟨_,_,_,_,_,_,e,_⟩
  ·rfl
  ·cases e
 ·rcases aL.val with⟨_,e⟩|⟨_,k,q,an,C,E,e,_,_,Z,a'⟩
  ·cases e
  simp at e;obtain⟨rfl,M,rfl⟩:=e;have T:=G.symm.trans Z;obtain⟨rfl,_⟩:=T;refine z5 M λi a R=>?_;obtain⟨v1,aA,F,Y,aC,aa,cw,aL,L⟩:=bV i _<|a0 a;obtain⟨az,ai,A,bH,aw,al,B,N,V⟩:=a' i _<|a0 R;subst L cw V B;rw[F]at A;cases A;have bH:v1= .string ⟨⟨u[i].b8⟩⟩:=bH;obtain⟨b,U,c,aE,el,av,aU,rfl,_,_,W,ew⟩:=aL;obtain⟨k,eV,q,aa,C,ah,E,e,_,_,H,ft⟩:=N;simp at e;obtain⟨⟨rfl,rfl⟩,ae,rfl⟩:=e;have ag:=(h.le _ _ W).symm.trans<|aL.le _ _ H;obtain⟨rfl,_⟩:=ag;rw[Y]at bH;simp at bH;have hp:=z5 ae λJ O k=>by
   have:=(ew J _<|a0 O).symm.trans<|ft J _<|a0 k;simpa using this
  cases fq:l[i]with
  |mk c p=>cases I:u[i]with
   |mk q B=>rw[fq,I]at bH hp;simp only at bH hp;rw[bH,hp]
def api{st:aj}(E:∀b,st.ae<=b->st.h.get b=none){D:bh}(l:ac dj)(I:∀b U,D b=some U->st.h.get b=some U):
 ∃A,Fit A [] (CR l st) [] 0/\cQ D [] st A [] (CR l st)/\den A (.gb 2 dj iC l) [] (HA l st):=by
 have L:∀b U,D b=some U->b<st.ae:=λb U e=>by
  rcases fS b st.ae with q|q
  ·exact q
  ·have:=I b U e;rw[E b q]at this;cases this
 by_cases B:l=[]
 ·subst B;exact⟨D,⟨E,I,j,j,oc,λb u=>by simp at u,λk U b G=>by simp at G⟩,cQ.refl _ _ _,.inl eT⟩
 have M:=ZR l st;rw[ZV B,ZW B];have H:∀b,b<st.ae->(kN (hd l st).2 (hd l st).1).h.get b=st.h.get b:=λb u=>by rw[Hz _ _ R,Ny l st u]
 obtain⟨A,C⟩:∃A:bh,∀b,A b=if b<st.ae then D b else(kN (hd l st).2 (hd l st).1).h.get b:=⟨_,λ_=>j⟩;have hle:cF D A:=λb U e=>by rw[C,aE<|L b U e];exact e
 refine⟨A,⟨ZO<|Nz l st E,λb U e=>?_,j,j,oc,λb u=>by simp at u,λk U b G=>by simp at G⟩,⟨hle,λb u _=>by rw[C,aE u],λb u _=>H b u,by rw[zP];omega,cf.refl _,λb u=>.inl u⟩,.inr ⟨B,(hd l st).2.ae,0,l.length,(hd l st).1,0,(0,(hd l st).1.length),true,j,dt _,?_,λi x fq=>?_⟩⟩
 ·rw[C]at e;split at e
  ·rename_i u;rw[H b u];exact I b U e
  ·exact e
 ·rw[C,aw R];exact ZN _<|ZU B
 ·rw[iE];refine ZS l st i x fq λb U u F=>?_;rw[C,aw R];by_cases e:b=(hd l st).2.ae
  ·subst e;rw[Nz l st E _<|dt _]at F;cases F
  ·rw[Hz _ _ e];exact F
def HB(l:ac dj)(cb:Nat)(res:ac gU)(x:c1)(s:cl):Prop:=(x= .norm\/x= .ret)/\((l=[]/\Fin.m5 s res=some .nl)\/l≠[]/\∃k c el aU,Fin.m5 s res=some (.aK k 2 0 l.length c)/\l.length<=c/\s.own[k]? =some (.a el aU 2 dj (vh cb) l))
variable{f:d7}{aZ:cJ}
def ZY{call:bM}{n:Nat}{st:aj}{H:bh}{I:ac dj}{bP:ac ag}(aD:ad.length<=aZ.aM)(bV:cB H bP [] ad)(N:Fit H [] st [] 0)
 (h:iJ ⟨call,n,f,H,[],st,HB I st.ae aZ.res⟩ aZ.body ⟨[],0,hJ 0 bP⟩):lS call n f aZ ad st≠[]/\∀q∈lS call n f aZ ad st,∃v b4 H1,q= .ret v b4 false/\zQ st I v b4 H1:=by
 have e:lS call n f aZ ad st=(gH call n f aZ.body (dT ad) st).map (wj call aZ.res):=by
  unfold lS;rw[lg,eP,aE aD];rfl
 rw[e];refine⟨λh=>Le aZ.body (dT ad) st<|vx.1 h,λq W=>?_⟩;obtain⟨r,O,rfl⟩:=cW.1 W;obtain⟨x,ai,b4,rfl,H1,al,s,B,u,F,fq,o⟩:=h H [] st (dT ad) (cQ.refl _ _ _) N (cN.zero bV) r O;rcases o with⟨E,A⟩|⟨E,k,c,el,aU,A,o,V⟩
 ·obtain⟨v,C,D⟩:=r2 u F A;exact⟨v,b4,H1,by rw[FU fq,D],.inl ⟨E,C⟩,u.le,λc o=>B.eF c o av⟩
 ·obtain⟨v,C,D⟩:=r2 u F A;obtain⟨b,G,rfl⟩:=C;obtain⟨⟨aa,R,_,hm⟩,_⟩:=u.own k _ b V G;refine⟨_,b4,H1,by rw[FU fq,D],.inr ⟨E,b,c,aa,el,aU,j,o,?_,R,λi t ji=>?_⟩,u.le,λc o=>B.eF c o av⟩
  ·rcases B.new b (hg G)with h|h
   ·simp at h
   ·exact h
  ·obtain⟨v1,Z,L,T,a',Y,cw,U,M⟩:=hm i t ji;exact⟨v1,Z,L,T,a',Y,cw,U,M⟩
def apj{aI:ao cJ}(D:Good X)(E:iZ X aI)(bk:d7->dL)(fq:aI.get f=some aZ){S:bl}(j:S.L->ac dj)(ay:∀l,S.res l= .gb 2 dj iC (j l))(aD:∀l,(S.args l).length<=aZ.aM)
 (h:∀l,S.pre l->∀H au ad,S.hp H->Fit H [] au [] 0->cB H (S.args l) [] ad->∃bP:ac ag,cB H bP [] ad/\iJ ⟨b7 aI (cj X bk)<|bx+1,bx+1,f,H,[],au,HB (j l) au.ae aZ.res⟩ aZ.body ⟨[],0,hJ 0 bP⟩):dY X f S.spec:=by
 rintro ad st ⟨⟨l,H⟩,hp,aj,k,bV⟩;obtain⟨bP,M,an⟩:=h l hp H st ad aj k bV;have G:ad.length<=aZ.aM:=by rw[gd bV];exact aD l
 obtain⟨W,A⟩:=ZY G M k an;refine⟨HA (j l) st,CR (j l) st,?_,?_⟩
 ·rintro⟨Z,aa⟩ ⟨al,O,u,ak⟩;obtain⟨aC,N,I⟩:=h Z al aa st ad O u ak;obtain⟨_,R⟩:=ZY G N u I;obtain⟨q,C⟩:=Df _ W;obtain⟨v,b4,H1,rfl,gi⟩:=A q C;obtain⟨aG,aF,az,e,eV⟩:=R _ C;cases e;obtain⟨U,a',V,a2⟩:=api k.wf (j l) u.le;exact⟨U,a',V,by rw[ay,<-gi.uniq eV];exact a2⟩
 ·obtain⟨aA,c,ok⟩:=E f aZ fq;obtain⟨ai,B⟩:=uh D E (Bz bk)<|bx+1;intro ab aE w T F;refine⟨ok.enters,λK bd o=>?_⟩;obtain⟨q,av,ax⟩:=EK D B ai (λb aM bd _=>ug B b aM bd) ok (bx+1) T F o (λr o e=>by
   obtain⟨v,b4,_,Y,_⟩:=A r o;subst e;cases Y)
  obtain⟨v,b4,H1,rfl,gi⟩:=A q av;exact gi.can F ax
end Go.bA.c3
namespace Go.bA.c3
open Go.bA Sym
set_option maxRecDepth 100000
set_option maxHeartbeats 4000000
variable{n:Nat}{α:Type}{z:Nat}
def CS:ag:=.v<|.func (.func 108) #[] #[]
def ZZ:ev:=ko λ(d:bi aO)=>([cS d],[.aK 0 6 0 d.size d.size,CS],d.size<=1000000,[cS<|Go.Sort.sort aY d],.bq [])
def apk(h:n<=1000000):bE n<=64:=by
 rw[<-Hw];unfold Go.Sort.bitsLen;split
 ·omega
 ·have:=(Nat.log2_lt (k:=20) R).2 R;omega
theorem apl:bt 107 ZZ:=by
 refine kH [(188,xh),(187,(zN 1000000).spec)] Lq.1 ?_;intro d (bV:d.size<=_) k i0 au af;refine ix 1 ep j (λk o v d=>⟨[],[],d,j,j⟩) ?_;refine I 12<|aP 10 (.i .u64 d.size) j (by grind)<|aV Nf d.size (by show d.size<_;omega)<|I 1<|k3 (apf 1000000) 0 (d,0,d.size,bE d.size) ⟨R,dw _,dt _,apk bV,.inl j,bV⟩ ?_;exact I 1<|an ⟨.inl j,lD,[0],j,hV aC ⟨_,by show some (cS _)=some (cS<|Go.Sort.sort aY d);unfold Go.Sort.sort;rw[Hw],j,λ_=>j⟩⟩
theorem apm{H:bh}{u:ac Nat}{ai:α->ac ag}(D:∀w,(ai w).length=z){ad:ac bv}:∀{l:ac α},(∀i x,l[i]? =some x->cB H (ai x) u ((ad.drop<|i*z).take z))->∀n,n<=l.length->n*z<=ad.length/\ja H u ai z (l.take n) (ad.take<|n*z):=by
 intro l h n
 induction n with
 |zero=>intro _;exact⟨av,by simpa using wH _ _ _ _⟩
 |succ n o=>
  intro ah;obtain⟨A,q⟩:=o R;have k:l[n]? =some l[n]:=a0 R;have j:=h n _ k;have aD:=gd j;have hle:(n+1)*z<=ad.length:=by grind
  refine⟨hle,?_⟩;rw[kd R];have e:ad.take ((n+1)*z)=ad.take (n*z)++(ad.drop<|n*z).take z:=by
   rw[e2,vv,List.take_add]
  rw[e];exact rZ q<|BQ j<|D _
theorem Z0{s:cl}{x:ce}{k c:Nat}{el:co}{aU:Bool}{ai:α->ac ag}{l:ac α}(fq:a6 s.env x=some (.aK k z 0 n c))(ax:s.own[k]? =some (.a el aU z α ai l))(ah:n<=l.length)(j:∀w,(ai w).length=z)(aS:∀w,py (ai w)=true):nO s x ai z (l.take n):=by
 intro F I st H A q;obtain⟨b,D,E⟩:=q.ar fq;obtain⟨⟨ad,u,G,B⟩,_⟩:=A.own k _ b ax D;obtain⟨C,o⟩:=apm j B n ah;have aD:(l.take n).length=n:=by grind
 refine .inr ⟨b,0,c,ad,el,_,_,by rw[aD,E,jk],u,?_,?_,?_⟩
 ·rw[aD];exact C
 ·rw[aD];exact o
 ·rw[aD];exact KG j aS o
section
variable{aq:eX}{K:ac dH}{own bo:ac a4}{aB:Nat}{e:bU}
variable{el:co}
def Z1{a9 q:Nat}{cs:ac ag}{x i:ce}{bG:f6}{d:Tmp}{ay:ac Tmp}{back:Nat}{l:ac (bm×cr)}{bf:ac a4}{u:bU}{aX D:Nat}(E:b5.ok aq ⟨K,.d l bf ((d,.aK a9 z 0 q n)::u) aX D,⟨own,aB,(d,.aK a9 z 0 q n)::e⟩⟩)
 (fq:a6 (dZ ay u) x=some (.p a9 0):=by rfl) (af:a6 (dZ ay u) i=some (.i bG (q:Int)):=by rfl) (ax:bf[a9]? =some (.c el cs):=by rfl) (ah:0<n:=by decide) (cz:q<=n:=by omega) (aA:back<aX:=by decide):b5.ok aq ⟨K,.d ((⟨some d,.vJ n z x none (some i) none,none⟩,.read back ay)::l) bf u aX D,⟨own,aB,e⟩⟩:=
 k2 aA (λN T st A C _ L=>by
  obtain⟨b,B,I⟩:=C.ar fq;have G:=C.ar af;obtain⟨ad,a2,cD⟩:=L a9 _ b ax j B;refine⟨_,⟨b,B,j⟩,λH _ F=>?_⟩;have cX:=(F a9 _ b ax j B).trans a2;have M:∀(k:Nat->a1),ff A (some i) n n k=k q:=λk=>by
   show fL (A.ar i) (λ_ o=>ht o (λo=>ek o n (k o) .no) .no) .no=_;rw[G,mB,pv,ga cz]
  show sv n z x none (some i) none aq.call A H=_;unfold sv aj.fM;rw[I,kZ,Sym.eg,cX,r0,M,r0];congr 2;rw[pt R,m1,iE]
  first|rfl|exact O (λk=>some<|Addr.mk b k none) R) E
def Z2{call:bM}{bb:Nat}{fn:d7}{a5:bh}{G:Nat}{au:aj}{Q:c1->cl->Prop}{xs:ac bm}{a9 c:Nat}(t cb:Nat){aU:Bool}{l:ac Nat}(al:cb<=au.ae)(k:b5.ok ⟨call,bb,fn,a5,[G],au,Q⟩ ⟨K,.U xs,⟨bo,aB,(t,.g<|Nx cb<|l.map Int.ofNat)::e⟩⟩)(ji:dp e t=some (.aK a9 1 0 n c):=by rfl)(ax:own[a9]? =some (.a el aU 1 Nat jg l):=by rfl)
 (ah:l.length=n:=by first|rfl|omega) (aS:n<=c:=by first|exact dt _|omega) (Z:0<a9:=by decide) (M:hn own a9 .x some=some bo:=by rfl):b5.ok ⟨call,bb,fn,a5,[G],au,Q⟩ ⟨K,.U xs,⟨own,aB,e⟩⟩:=by
 have W:=ih M;cases W;intro I Y st T D A E;obtain⟨b,u,L⟩:=E.get t _ ji;obtain⟨⟨ad,a2,cD,cX⟩,_⟩:=A.own a9 _ b ax u;have hle:=r1 A ax j u;have ai:au.ae<=b:=by
  rcases D.new b (hg u)with h|h
  ·rw[hh]at h;have V:=D.jy 0 G j;have C:=(dN.1 u);have F:=(dN.1 V);obtain⟨N,a'⟩:=C;obtain⟨cw,aa⟩:=F;have:=(vs (h₀:=N) (h₁:=cw) A.cT).1 R;omega
  ·exact h
 refine k (fA I st b) Y st T (D.fA A ax j u) (A.fA ax j u) ⟨(E.mono hle<|cf.refl _).pl,λJ q B=>?_⟩;rw[lW]at B;cases H:Nat.beq t J with
 |false=>rw[H]at B;exact(E.mono hle<|cf.refl _).get J q B
 |true=>
  rw[H]at B;cases B;rw[<-dM H];refine⟨b,0,c,ad,el,(0,0),aU,by rw[L,hz,ah],by rw[hz];omega,R,by unfold fA;rw[aE j];exact a2,λi x fq=>?_⟩;have af:=(dN.1 fq).1;rw[hz]at af;obtain⟨v,an,C,F,O⟩:=cX i _<|a0 af;subst F O;rw[a0<|by rw[hz];exact af]at fq;cases fq;have:=congrArg (λl=>l[0]?) C;simpa using this
end
def NA:ev:=ko λ((cb,l,q):Nat×ac Nat×Nat)=>([.c 197<|l.flatMap jg],[.aK 0 1 0 q l.length],q<=l.length/\l.length<=1000,[.a 197 false 1 Nat jg l],.g<|Nx cb<|(l.take q).map Int.ofNat)
def Z3(l:NA.L):Nat:=l.1
def Z4:dY bS.ctx 110 (NA.jb Z3):=by
 refine Wz [] Lx.1 ?_;intro⟨cb,l,q⟩ ⟨u,aD⟩ H i0 au af k;obtain⟨A,rfl⟩:∃b,i0=[b]:=mg.1 af;show b5.ok _ ⟨_,_,⟨[.c 197<|l.flatMap jg],1,[(0,.aK 0 1 0 q l.length)]⟩⟩;refine I 19<|kF 0 jg l ?_;refine kF 1 jg ([]:ac Nat) ?_;by_cases o:q=0
 ·subst o;refine Rs (Z0 j j (dw _) mx mx) ?_;refine Z2 7 cb k ?_;exact I 4<|an ⟨.inr j,lD,[0],j,hV aC jN⟩
 ·refine KR (l.take q) (Z0 j j u mx mx) (l.take q) ?_ (bX:=by intro g;have h:=congrArg List.length g;rw[iF]at h;have h:min q l.length=0:=h;omega);refine Z2 7 cb k ?_;exact I 4<|an ⟨.inr j,lD,[0],j,hV aC jN⟩
set_option maxHeartbeats 8000000
def Z5(K:ac (Nat×dL)){f:d7}(aZ:cJ){S:bl}(u:S.L->ac dj)(D:∀l,S.res l= .gb 2 dj iC (u l))
 (h:∀l,S.pre l->∀H au ad,S.hp H->Fit H [] au [] 0->cB H (S.args l) [] ad->∃bP:ac ag,cB H bP [] ad/\iJ ⟨b7 aI (cj bS.ctx<|bG K)<|bx+1,bx+1,f,H,[],au,HB (u l) au.ae aZ.res⟩ aZ.body ⟨[],0,hJ 0 bP⟩)
 (fq:aI.get f=some aZ:=by kernel_rfl) (aD:∀l,(S.args l).length<=aZ.aM:=by exactλ_=>hP j):bt f S:=apj bS.ea eo (bG K) fq u D aD h
def tj(n:Nat)(k:aO):ac Int:=(k.n.take n).map Int.ofNat
def oU(n:Nat)(p:aO×Rat):dj:=⟨hc p.2,tj n p.1⟩
def jU(n:Nat)(f:Poly):ac dj:=f.map<|oU n
def Z6(f:Poly)(n:Nat):Prop:=f.eB/\f.jx/\(∀p∈f,p.1.gB/\b9 268435456 p.2)/\f.length<=1000/\n<=6
variable{f:Poly}
def CT(Q:Poly->Prop):bl:=pF mO mO.up λ((f,n):Poly×Nat)=>([.g<|fB<|eZ f,.aa (n:Nat)],Z6 f n/\Q f,.gb 2 dj iC<|jU n f)
def apn(ew u n:Nat)(seen:ac Nat):ac aO->cl
 |[]=>⟨[.g<|lB ew u seen],1,[(0,.v<|.map<|some ew),(1,.aa (n:Nat)),(4,.nl),(5,.nl),(10,.p 0 0)]⟩
 |k::j=>⟨[.g<|lB ew u seen,cS (k::j).toArray],2,[(0,.v<|.map<|some ew),(1,.aa (n:Nat)),(4,.nl),(5,.aK 1 6 0 (j.length+1)<|j.length+1),(10,.p 0 0)]⟩
def apo(cb:Nat)(f:Poly)(n k:Nat):ac dj->cl
 |[]=>⟨[cS (f.map (·.1)).toArray],1,[(0,.g<|fB<|eZ f),(1,.aa (n:Nat)),(4,.nl),(21,.aK 0 6 0 f.length f.length),(22,.aa (f.length:Nat)),(23,.aa (k:Nat))]⟩
 |t::ay=>⟨[cS (f.map (·.1)).toArray,.a 80 true 2 dj (vh cb)<|t::ay],2,[(0,.g<|fB<|eZ f),(1,.aa (n:Nat)),(4,.aK 1 2 0 (ay.length+1)<|ay.length+1),(21,.aK 0 6 0 f.length f.length),(22,.aa (f.length:Nat)),(23,.aa (k:Nat))]⟩
def Z7(u:f.eB){p:aO×Rat}(hp:p∈f):iz (eZ f) (ei p.1)=some (cc p.2):=by
 refine R3 ?_ (cW.2 ⟨p,hp,j⟩);unfold eZ;rw[pZ];refine n9.2<|u.imp λ{p q} h e=>?_;have e:=key_inj e;rw[e]at h;exact aO.oL _ h
def apq:dY bS.ctx 34 (CT (· ≠[])).spec:=by
 refine Z5 [(107,ZZ),(26,Ye),(110,NA.jb Z3)] FZ.1 (λl=>jU l.2 l.1) mx ?_;rintro⟨f,n⟩ ⟨⟨aj,bf,Y,bn,ah⟩,(aM:f≠[])⟩ H au ad aP bg bV;obtain⟨v1,bl,rfl,a4,bm,bd,rfl,d2,d4⟩:=bV;have d4:bd=[]:=d4;subst d4;obtain⟨ew,E,O,rfl,V,A⟩:=a4;have bh:(eZ f).length=f.length:=by unfold eZ;rw[hz]
 refine⟨[.v<|.map<|some ew,.aa (n:Nat)],⟨_,_,j,j,_,_,j,d2,j⟩,?_⟩;show iJ _ (.seq _<|.seq _<|.seq (.seq _<|.block _<|.loop _) _) _;refine hX<|gz ?_;refine I 3<|an ?_;refine hX<|gz ?_;refine I 3<|an ?_;refine zc (L:=aO×ac aO) (λx=>(x.1::x.2).Perm (f.map (·.1))) (λx=>⟨[cS (x.1::x.2).toArray],1,[(0,.v<|.map<|some ew),(1,.aa (n:Nat)),(4,.nl),(5,.aK 0 6 0 (x.2.length+1)<|x.2.length+1)]⟩) ?_ ?_
 ·refine hX<|gz ?_;refine I 2<|wV V ?_;refine I 1<|an ?_;refine uy ?_;refine wS (L:=ac Nat×ac aO) (λ(C,o)=>(∀s∈C,s<O)/\(∀m∈E,m.born∈C↔∃k∈o,m.key=ei k)/\o.Nodup/\∀k∈o,k∈f.map (·.1)) (λ(C,o)=>apn ew O n C o)
   (λl=>left E l.1) [0] ([],[]) ⟨(λs h=>by cases h),(λm _=>⟨(λh=>by cases h),λ⟨k,h,_⟩=>by cases h⟩),oc,λk h=>by cases h⟩ ?_ bB ?_
  ·show left E []<bx+1;have D:=zD E [];have aS:=A.len;unfold bx;omega
  rintro⟨C,o⟩ ⟨aH,Z,az,ak⟩;have aV:o.length<=f.length:=by
   have:=MW az ak;rw[hz]at this;exact this
  have new:∀{m:f7},m∈E->m.born∉C->∀{p:aO×Rat},p∈f->m.key=ei p.1->(o++[p.1]).Nodup/\∀k∈o++[p.1],k∈f.map (·.1):=λ{m} hm G {p} hp D=>by
   have a6:p.1∉o:=λh=>G<|(Z m hm).2 ⟨_,h,D⟩;refine⟨z9.2 ⟨az,av,λa aJ b aU e=>?_⟩,λk B=>?_⟩
   ·rw[hh]at aU;rw[e,aU]at aJ;exact a6 aJ
   ·rcases hf.1 B with B|B
    ·exact ak k B
    ·rw[hh]at B;rw[B];exact cW.2 ⟨p,hp,j⟩
  have up:∀{m:f7},m∈E->∀s∈C++[m.born],s<O:=λ{m} hm s N=>by
   rcases hf.1 N with N|N
   ·exact aH s N
   ·rw[hh]at N;rw[N];exact A.born m hm
  cases o with
  |nil=>
   refine hX<|uz (k:=0) (r:=ew) (clock:=O) (seen:=C) (es:=E) j j V aH (λm hm G=>?_) λaG=>?_
   ·refine I 2<|an ?_;refine gz ?_;refine I 7 ?_;obtain⟨p,hp,u,v,w,D,aS,a2,al⟩:=uR A hm;obtain⟨aE,hk⟩:=new hm G hp D;refine wW (l0 p.1) (cc p.2) V hm A.js (A.born m hm) (λa' _=>?_) (λa' hle=>?_) ?_
    ·rw[D];exact xq p.1
    ·exact iw hle _ (cf.refl _) al
    refine I 9<|y4 gT [p.1] (jt (ai:=gT) [p.1] j) ?_;refine I 3 ?_;refine an ⟨[0,3],(C++[m.born],[p.1]),⟨xp hm G,up hm,(λax W=>xr A hm W D<|Z ax W),aE,hk⟩,g1 (aF:=⟨gj,jN,aC⟩)⟩
   ·exfalso;obtain⟨p,hp⟩:=Df _ aM;obtain⟨m,hm,aX⟩:=uS A hp;obtain⟨k,B,_⟩:=(Z m hm).1<|aG m hm;cases B
  |cons a9 o=>
   refine hX<|uz (k:=0) (r:=ew) (clock:=O) (seen:=C) (es:=E) j j V aH (λm hm G=>?_) λaG=>?_
   ·refine I 2<|an ?_;refine gz ?_;refine I 7 ?_;obtain⟨p,hp,u,v,w,D,aS,a2,al⟩:=uR A hm;obtain⟨aE,hk⟩:=new hm G hp D;refine wW (l0 p.1) (cc p.2) V hm A.js (A.born m hm) (λa' _=>?_) (λa' hle=>?_) ?_
    ·rw[D];exact xq p.1
    ·exact iw hle _ (cf.refl _) al
    refine I 9 ?_;have aV:o.length+1<=f.length:=aV;refine y5 (ai:=gT) [p.1] (jt (ai:=gT) [p.1] j) ?_ (ah:=av) (aA:=by show(5*(o.length+1+1)+1792)*49<=1125899906842624;omega);refine I 3 ?_;refine an ⟨[0,4],(C++[m.born],a9::(o++[p.1])),⟨xp hm G,up hm,(λax W=>xr A hm W D<|Z ax W),aE,hk⟩,g1 (aF:=⟨gj,jN,aC⟩) (aL:=⟨j,j,j,congrArg (λk=>some<|ag.aK 4 6 0 k k) av,j,aC⟩)⟩
   ·have T:(a9::o).Perm (f.map (·.1)):=(C9 az<|Mf aj).2 λk=>⟨ak k,λB=>by
     obtain⟨p,hp,rfl⟩:=cW.1 B;obtain⟨m,hm,aX⟩:=uS A hp;obtain⟨k,B,a7⟩:=(Z m hm).1<|aG m hm;rw[key_inj<|aX.symm.trans a7];exact B⟩
    refine I 2<|an ?_;refine gz ?_;refine I 4<|an ?_;show ly 0 _ _ _;exact⟨[1],(a9,o),T,g1⟩
 rintro⟨a9,o⟩ T;replace T:(a9::o).Perm (f.map (·.1)):=T;have aY:o.length+1=f.length:=by have:=T.length_eq;rw[hz]at this;exact this
 have a3:=aoN aj T;refine gz ?_;refine I 3<|k3 apl 0 (a9::o).toArray (by show(a9::o).toArray.size<=1000000;simp;omega) ?_;refine aga 0 (.g<|fB<|eZ f) j (λa' hle bj v ao=>?_) ?_
 ·have ao:v= .map (some ew):=ao;subst ao;exact⟨ew,E,O,j,hle _ _ V,A.mono hle⟩
 have aN:∀p∈eZ f,(fr.arr .i64 6).ok p.1=true:=λp hp=>by
  obtain⟨q,bc,rfl⟩:=cW.1 hp;exact pL (Y q bc).1
 have aW:(jU n f).length=f.length:=by unfold jU;rw[hz]
 refine I 11<|eu (L:=Nat×ac dj) (λ(k,r)=>k<=f.length/\r=(jU n f).take k) (λ(k,r)=>apo au.ae f n k r) (λx=>f.length-x.1) [0] (0,[]) ⟨dw _,j⟩ (by show f.length-0<bx+1;unfold bx;omega) (g1 (aF:=⟨⟨_,congrArg (λw=>some<|cS w) a3,j,λ_=>j⟩,aC⟩) (aL:=⟨j,j,j,congrArg (λm=>some<|ag.aK 0 6 0 m m) aY,congrArg (λm:Nat=>some<|ag.aa (m:Int)) aY,j,aC⟩)) ?_;rintro⟨k,r⟩ ⟨B,F⟩;replace F:r=(jU n f).take k:=F;have a1:r.length=k:=by rw[F,iF];omega
 by_cases aT:k<f.length
 ·have M:f[k]∈f:=kc aT;have aQ:(jU n f).take (k+1)=r++[oU n f[k]]:=by
   rw[kd<|by rw[aW];exact aT,F];congr 1;unfold jU;rw[tw]
  rcases r with _|⟨t,ay⟩
  ·refine I 3<|dd 24<|I 10<|k4 j j (Fx f[k].1 (show(f.map (·.1))[k]? =some f[k].1 by rw[vr,a0 aT];rfl) ?_) (ba:=aT);refine I 7<|Ll (cc f[k].2) R4 (w5 f[k].1) aN (by rw[Z7 aj M]) ?_ (jd:=pL (Y _ M).1);refine cm Yf f[k].2 (Y _ M).2 (I 1<|Z1 (q:=n) ?_ (cz:=ah)) (cA:=aP);refine zg Z4 1 (au.ae,f[k].1.n,n) ⟨ah,by show 6<=1000;decide⟩ (dt _) ?_ (cy:=.a 197 false 1 Nat jg f[k].1.n) (aA:=r4);refine I 3<|K0 (vh au.ae) [oU n f[k]] (jt (ai:=vh au.ae) [oU n f[k]] j) ?_;exact I 8<|bW [0,3] (k+1,[oU n f[k]]) ⟨by show f.length-(k+1)<f.length-k;omega,R,aQ.symm⟩ bB
  ·refine I 3<|dd 24<|I 10<|k4 j j (Fx f[k].1 (show(f.map (·.1))[k]? =some f[k].1 by rw[vr,a0 aT];rfl) ?_) (ba:=aT);refine I 7<|Ll (cc f[k].2) R4 (w5 f[k].1) aN (by rw[Z7 aj M]) ?_ (jd:=pL (Y _ M).1);refine cm Yf f[k].2 (Y _ M).2 (I 1<|Z1 (q:=n) ?_ (cz:=ah)) (cA:=aP);refine zg Z4 2 (au.ae,f[k].1.n,n) ⟨ah,by show 6<=1000;decide⟩ (dt _) ?_ (cy:=.a 197 false 1 Nat jg f[k].1.n) (aA:=r4);refine I 3<|K1 (ai:=vh au.ae) [oU n f[k]] (jt (ai:=vh au.ae) [oU n f[k]] j) ?_ (ah:=av) (aA:=by show(5*(ay.length+1+1)+1792)*41<=1125899906842624;simp only[hN]at a1;omega);exact I 8<|bW [0,4] (k+1,t::(ay++[oU n f[k]])) ⟨by show f.length-(k+1)<f.length-k;omega,R,aQ.symm⟩ (bB (aL:=⟨j,j,congrArg (λk=>some<|ag.aK 4 2 0 k k) av,j,j,nQ,aC⟩))
 ·have F:r=jU n f:=by rw[F,iG R]
  rcases r with _|⟨t,ay⟩
  ·exfalso;have b':f.length=0:=by rw[<-aW,<-F];rfl
   exact aM<|nr b'
  ·refine I 3<|c2 24<|I 16<|an ?_;show HB (jU n f) _ _ _ _;rw[<-F];exact⟨.inr j,.inr ⟨av,1,_,_,_,j,dt _,j⟩⟩
def Z8:bl:=b3 λ(_:Unit)=>([.nl,.aa 0,.aa 0,CS],True,.bq [])
def apr:bt 296 Z8:=by
 refine bR [] LC.1 ?_;intro _ _ k au;refine I 8<|eA (λ_=>True) (λ_=>⟨[],0,[(1,.aa 0),(2,.aa 0),(8,.aa 1)]⟩) (λ_=>0) [] () aC ?_;intro _ _;exact I 6<|c2 14<|I 7<|an (az j j dO)
def Z9:bl:=b3 λ(l:Int)=>([.nl,.aa 0,.aa 0,.aa l,CS],True,.bq [])
def aps:bt 187 Z9:=by
 refine bR [(296,Z8)] FY.1 ?_;intro l _ k au;refine I 11<|eA (λ_=>True) (λ_=>⟨[],0,[(0,.nl),(1,.aa 0),(2,.aa 0),(3,.aa l),(4,CS)]⟩) (λ_=>0) [] () aC ?_;intro _ _;exact I 6<|cd 23 0<|I 8<|dd 25<|I 9<|aV apr () aC<|I 7<|an (az j j dO)
def a':bl:=b3 λ(_:Unit)=>([.nl,CS],True,.bq [])
def apt:bt 107 a':=by
 refine bR [(188,xh),(187,Z9)] Lq.1 ?_;intro _ _ k au;exact I 12<|aV Nf (0:Nat) (by show 0<_;decide)<|I 1<|aV aps ((bE 0:Nat):Int) aC<|I 1<|an (az j j dO)
def apu:dY bS.ctx 34 (CT (· =[])).spec:=by
 refine Z5 [(107,a')] FZ.1 (λl=>jU l.2 l.1) mx ?_;rintro⟨f,n⟩ ⟨⟨E,D,N,Y,ah⟩,o⟩ C au ad G F bV;subst o;obtain⟨v1,V,rfl,q,W,T,rfl,d2,d4⟩:=bV;subst d4;obtain⟨ew,H,u,rfl,k,A⟩:=q;have B:=nr A.len;subst B;refine⟨[.v<|.map<|some ew,.aa n],⟨_,_,j,j,_,_,j,d2,j⟩,?_⟩;refine hX<|gz ?_;refine I 3<|an ?_;refine hX<|gz ?_;refine I 3<|an ?_;refine zc (L:=Unit) (λ_=>True) (λ_=>⟨[],0,[(4,.nl),(5,.nl)]⟩) ?_ ?_
 ·refine hX<|gz ?_;refine I 2<|wV k ?_;refine I 1<|an ?_;refine uy ?_;refine wS (λ_=>True) (λ_=>⟨[.g<|lB ew u []],1,[(4,.nl),(5,.nl),(10,.p 0 0)]⟩) (λ_=>0) [0] () aC R bB ?_;intro _ _;refine hX<|uz j j k (λs h=>by cases h) (λm hm M=>by cases hm) λO=>?_;refine I 2<|an ?_;refine gz ?_;refine I 4<|an ?_;exact⟨[],(),aC,m4 ⟨j,j,aC⟩⟩
 intro _ _;refine gz ?_;refine I 3<|aV apt () aC<|I 11<|eA (λ_=>True) (λ_=>⟨[],0,[(4,.nl),(22,.aa 0),(23,.aa 0)]⟩) (λ_=>0) [] () aC ?_;intro _ _;exact I 3<|c2 24<|I 16<|an ⟨.inr j,.inl eT⟩
def b'{H q:bh}{st:aj}(aF:∀b U,H b=some U->st.h.get b=some U)(aL:∀b U,q b=some U->st.h.get b=some U){u:Poly}{v:bv}(d:den H (.g<|fB<|eZ f) [] v)(d2:den q (.g<|fB<|eZ u) [] v)(h:f=[]):u=[]:=by
 obtain⟨r,F,c,rfl,A,D⟩:=d;obtain⟨ft,G,E,e,B,C⟩:=d2;cases e;have:=(aF _ _ A).symm.trans<|aL _ _ B;cases this;have j:=D.len;have k:=C.len;unfold eZ at j k;rw[hz]at j k;rw[h]at j;exact nr<|by rw[<-k,j];rfl
def apv:dY bS.ctx 34 (CT λ_=>True).spec:=by
 rintro ad st ⟨⟨l,A⟩,⟨hp,_⟩,E,o,bV⟩;have G:∀j D,(CT λ_=>True).spec.pre (j,D) ad st->(l.1=[]↔j.1=[]):=λj D ⟨_,_,F,I⟩=>by
  obtain⟨v1,M,H,B,_⟩:=bV;obtain⟨N,L,C,d2,_⟩:=I;rw[H]at C;cases C;exact⟨b' o.le F.le B d2,b' F.le o.le d2 B⟩
 by_cases h:l.1=[]
 ·obtain⟨v,ak,q,u⟩:=apu ad st ⟨(l,A),⟨hp,h⟩,E,o,bV⟩;exact⟨v,ak,λj k=>q j ⟨⟨k.1.1,(G j.1 j.2 k).1 h⟩,k.2⟩,u⟩
 ·obtain⟨v,ak,q,u⟩:=apq ad st ⟨(l,A),⟨hp,h⟩,E,o,bV⟩;exact⟨v,ak,λj k=>q j ⟨⟨k.1.1,λg=>h<|(G j.1 j.2 k).2 g⟩,k.2⟩,u⟩
end Go.bA.c3
namespace Go.bA.c3
open Go.bA
set_option maxRecDepth 100000
set_option maxHeartbeats 4000000
def c':bl:=b3 λ(l:ac Int)=>([.c6 1 Int g4 l],l.length<=17592186044416,.cU 1 Int g4 l)
def apw:bt 110 c':=by
 refine bR [] Lx.1 ?_;intro(l:ac Int) (aD:l.length<=17592186044416) H au;by_cases k:l=[]
 ·subst k;refine I 9<|afD ?_ λ_=>?_
  ·refine I 9<|kF 0 g4 ([]:ac Int) ?_;refine afF (ai:=g4) ?_;refine kn 7 ?_;exact I 4<|an (az j j dO)
  ·exact I 10<|an (az j rfl .nl)
 refine ix 0 (.cU 1 Int g4 l) j (.kW k)<|I 9<|afq ?_ λh=>?_
 ·refine I 9<|kF 0 g4 ([]:ac Int) ?_;have o:=o2.2 k;refine KR (ai:=g4) l (Fv j mx mx) l ?_ (bX:=k);refine kn 7 ?_;exact I 4<|an (az j j dO)
 ·exact absurd h k
def hM(n:gD):ac Int:=if 1<=n.op/\n.op<=15 then(e0 n).take (nj n.op.toNat)else[]
def NB:bl:=pF n1 n1.up λ(n:gD)=>([.agg<|kI n],True,.cU 1 Int g4<|hM n)
def apx:bt 182 NB:=by
 refine sa [(180,ML),(110,c')] U8.1 ?_;intro(n:gD) _ H au ⟨ad,el,G,aU,A,bV⟩;have k:∀{l},hM n=l->bJ (.cU 1 Int g4 l) (NB.res n):=λh=>.of (by rw[<-h];rfl);refine I 11<|aV Yr n.op aC ?_;by_cases h:1<=n.op/\n.op<=15
 ·refine cg 6 (bK<|ck h) ?_;obtain⟨D,E⟩:=h;obtain⟨U,C⟩:∃U:Nat,n.op=(U:Int):=⟨n.op.toNat,R⟩;have F:n.op.toNat=U:=by omega
  have aT:U<16:=R
  obtain⟨L,_⟩:=Hb U aT;have ji:=Yu U aT;have B:hM n=(e0 n).take (nj U):=by unfold hM;rw[F];exact aE ⟨D,E⟩
  generalize nj U=u at *;refine I 25<|aP 18 (.aa (U:Int)) j (by rw[<-C])<|RC A bV (J:=U) ?_;refine aP 19 (.ip<|.aa (u:Int):: .aa (tc U:Int)::CF.drop (U*2+2)) j (by rw[ji])<|I 2<|kF 1 g4 (e0 n) ?_;refine eL (y8 (p:=0) (q:=u) j j j dC (dw _) R sC) ?_;refine Fy 22 ((e0 n).take u) ?_ (ah:=by rw[iF];show min u 4=u-0;omega);exact aV apw ((e0 n).take u) (by show(List.take _ _).length<=_;rw[iF];omega) (I 4<|an (az j j<|k B)) (he:=by exact⟨.c6,aC⟩)
 ·exact cg 6 (bK<|cq h)<|I 11<|an (az j j<|bJ.trans .nl<|k<|aw h)
def jV(n:Int)(m:Nat):Prop:=0<=n/\n<(m:Int)
instance(n:Int)(m:Nat):Decidable (jV n m):=by unfold jV;infer_instance
def tk(p:ec)(i:Nat)(n:gD):Int:=
 if¬(1<=n.op/\n.op<=15)\/qX n=false then 2
 else if¬jV n.f p.bO.length then 7
 else if n.op=1/\¬jV n.a p.ins.length then 7
 else if n.op=1/\(p.ins[n.a.toNat]?).map n0.f≠some n.f then 143
 else if n.op=2/\((i:Int)<p.head\/¬jV n.a p.hr.length)then 7
 else if n.op=3 then qV n.v
 else if(hM n).all (λk=>u4 p i k)then 0 else 7
def NC:bl:=pF n1 n1.up λ((p,i,n):ec×Nat×gD)=>([jC p,.aa (i:Int)],p.bQ[i]? =some n/\n.v.length<=2000,.aa<|tk p i n)
def d'(n:gD):(hM n).length<=4:=by
 unfold hM;split
 ·rw[iF];exact Nat.min_le_right _ 4
 ·exact dw _
def apy:bt 94 NC:=by
 refine sa [(180,ML),(181,Yv),(96,sh),(50,Yq),(182,NB),(183,u5)] UX.1 ?_;intro⟨p,i,n⟩ ⟨ak,ah⟩ H au V;have A:∀{c:Int},tk p i n=c->bJ (.aa c) (NC.res (p,i,n)):=λh=>.of (by rw[<-h];rfl);refine I 12<|fc n ak j ?_
 iterate 7 refine fz j ?_
 refine j7 (L:=Unit) (λ_=>tk p i n=if(hM n).all (λk=>u4 p i k)then 0 else 7) (λ_=>⟨[.c 184<|iB p,.c 172<|kI n],2,[(1,.aa (i:Int)),(2,.p 0 0),(4,.aa 0),(5,.p 1 0)]⟩) ?_ ?_
 ·refine I 4<|aV Yr n.op aC ?_;by_cases B:1<=n.op/\n.op<=15
  case neg=>
   exact cg 17 (bK<|cq B)<|I 18<|an (az j j<|A<|aE<|.inl B)
  refine cg 17 (bK<|ck B)<|I 5<|aV ann n B ?_ (cA:=V);cases D:qX n with
  |false=>
   exact cg 21 (bK D)<|I 15<|an (az j j<|A<|aE<|.inr D)
  |true=>
  refine cg 21 (bK D) ?_;have N:¬(¬(1<=n.op/\n.op<=15)\/qX n=false):=λh=>h.elim (λh=>h B) λh=>Bool.noConfusion<|D.symm.trans h;refine I 15<|aV xn (n.f,(p.bO.length:Int)) aC ?_;by_cases C:jV n.f p.bO.length
  case neg=>
   exact cg 31 (bK<|cq C)<|I 13<|an (az j j<|A<|(aw N).trans<|aE C)
  refine cg 31 (bK<|ck C) ?_;have T:¬¬jV n.f p.bO.length:=λh=>h C;have M:=λ{c} h=> @A c<|(aw N).trans<|(aw T).trans h;have W:=λ{c} h=>((aw N).trans ((aw T).trans h):tk p i n=c);clear A;refine I 10 ?_;by_cases af:n.op=1
  ·refine cg 36 (bK<|ck af)<|I 14<|aV xn (n.a,(p.ins.length:Int)) aC ?_;by_cases o:jV n.a p.ins.length
   case neg=>
    exact cg 44 (bK<|cq o)<|I 15<|an (az j j<|M<|aE ⟨af,o⟩)
   refine cg 44 (bK<|ck o) ?_;have a2:¬(n.op=1/\¬jV n.a p.ins.length):=λh=>h.2 o;refine I 12<|dD 50 (.b true) j j (bK<|ck af) ?_;obtain⟨a,ae⟩:∃a:Nat,n.a=(a:Int):=⟨n.a.toNat,by have:=o.1;omega⟩;have a':n.a.toNat=a:=R
   have O:a<p.ins.length:=by have:=o.2;omega
   refine I 11<|dD 56 (.aa (a:Int)) j j (by rw[ae])<|I 1<|ks p.ins[a] (a0 O) j<|I 10 ?_;by_cases u:(p.ins[a]).f=n.f
   case neg=>
    exact dD 62 (.b true) j j (bK<|ck u)<|I 13<|an (az j j (M<|(aw a2).trans<|aE ⟨af,by rw[a',a0 O];simpa using u⟩))
   refine dD 62 (.b false) j j (bK<|cq λh=>h u) ?_;refine I 10<|c2 67<|I 26<|c2 88<|I 6<|bW [0,1] () (W<|(aw a2).trans<|(aw ?_).trans<|(aw R).trans<|aw R) bB;rintro⟨_,h⟩;exact h<|by rw[a',a0 O];simp[u]
  ·refine cg 36 (bK<|cq af) ?_;have Y:=λ{c} h=> @W c<|(aw λh=>af h.1).trans<|(aw λh=>af h.1).trans h;have G:=λ{c} h=> @M c<|(aw λh=>af h.1).trans<|(aw λh=>af h.1).trans h;refine I 19<|dD 50 (.b false) j j (bK<|cq af)<|I 22 ?_;by_cases q:n.op=2
   ·refine cg 67 (bK<|ck q)<|I 11 ?_;by_cases o:(i:Int)<p.head
    ·exact cg 73 (bK<|ck o)<|I 25<|an (az j j<|G<|aE ⟨q,.inl o⟩)
    refine cg 73 (bK<|cq o)<|I 15<|aV xn (n.a,(p.hr.length:Int)) aC ?_;by_cases u:jV n.a p.hr.length
    case neg=>
     exact cg 81 (bK<|cq u)<|I 17<|an (az j j<|G<|aE ⟨q,.inr u⟩)
    exact v1 81 u<|I 14<|c2 88<|I 6<|bW [0,1] () (Y<|(aw λh=>h.2.elim o λh=>h u).trans<|aw R) bB
   ·refine cg 67 (bK<|cq q) ?_;have ai:=λ{c} h=> @Y c<|(aw λh=>q h.1).trans h;have aj:=λ{c} h=> @G c<|(aw λh=>q h.1).trans h;refine I 26 ?_;by_cases E:n.op=3
    ·exact cg 88 (bK<|ck E)<|I 8<|aV ani n.v ah<|I 6<|an (az j j<|aj<|aE E)
    ·exact cg 88 (bK<|cq E)<|I 6<|dv [0,1] () (ai<|aw E)
 intro _ Z;have al:=d' n;refine I 4<|aV apx n aC (I 5<|eA (L:=Nat) (λk=>k<=(hM n).length/\((hM n).take k).all (λk=>u4 p i k)=true) (λ(k:Nat)=>⟨[.c 184<|iB p,.c 172<|kI n],2,[(1,.aa (i:Int)),(2,.p 0 0),(4,.aa 0),(93,.cU 1 Int g4<|hM n),(94,.aa ((hM n).length:Int)),(95,.aa (k:Int))]⟩) (λk=>(hM n).length-k) [0,1] 0 ⟨dw _,j⟩ ?_) (cA:=V);rintro(k:Nat) ⟨ao,F⟩;refine I 3 ?_;by_cases aD:k<(hM n).length
 ·refine dd 96<|I 10<|fc (hM n)[k] (a0 aD) j<|I 9<|aV anj (p,(i:Int),(hM n)[k]) aC ?_;cases q:u4 p i (hM n)[k]with
  |false=>
   refine cg 102 (bK q)<|I 15<|an (az j j<|A<|Z.trans<|aw ?_);intro h;rw[il]at h;have:=h _<|dx aD;rw[q]at this;cases this
  |true=>
   exact cg 102 (bK q)<|I 9<|cd 104 ((k+1:Nat):Int)<|I 2<|h4 [0,1] (k+1) ⟨aD,by rw[kd aD,An,F];simp[q]⟩
 ·exact c2 96<|I 15<|an (az j j<|A<|Z.trans (aE<|by rw[iG R]at F;exact F))
def q0(e q:Int)(x:n0):Int:=
 match dq x.bg,dq x.af with
 |some a,some b=>if ku e q a/\ku e q b/\¬b<a then 0 else 7
 |_,_=>6
def xA(p:ec)(x:n0):Int:=
 if jV x.f p.bO.length then(match p.bO[x.f.toNat]? with|some f=>q0 f.1 f.2 x|none=>7)else 7
def e'{v k:Nat}(h:v<10^k)(ax:k<=2000):dP 250 v:=sb<|eR h<|cC (jG al ax) R
def f'{s:ac ci}(E:s.length<=2000){x:Rat}(h:dq s=some x):b9 250 x:=by
 obtain⟨P,q,B,_,_,L,M,G,F,H⟩:=CB E;by_cases A:jB (df s).1 P q B
 ·obtain⟨k,o,a2⟩:=A;have C:=e' (l3 k.2.1) R;cases B with
  |false=>
   have e:=F ⟨k,o,a2⟩ j;rw[h]at e;cases e;exact nc (by rw[nf];exact C) (cP<|h5 al) al
  |true=>
   obtain⟨u,D,I⟩:=a2 j;have g8:b6 q≠0:=λh=>D<|sf u h;have e:=H ⟨k,o,a2⟩ j;rw[h]at e;split at e
   ·cases e;exact nc (by rw[nf];exact C) (e' (l3 u.2.1) R) g8
   ·cases e
 ·rw[G A]at h;cases h
def h7(s:ac ci):Rat:=(dq s).getD 0
def apz(x:n0):Nat->ac ag
 |0=>[.b false,.nl,.nl,.b false,.nl,.nl]
 |1=>gA (h7 x.bg)++[.b false,.nl,.nl]
 |_=>gA (h7 x.bg)++gA (h7 x.af)
def CU:bl:=b3 λ((p,i,x):ec×Nat×n0)=>([jC p,.aa (i:Int)],p.ins[i]? =some x/\x.bg.length<=2000/\x.af.length<=2000,.aa<|xA p x)
def apA:bt 93 CU:=by
 refine bR [(96,sh),(11,CC),(179,G9),(106,Gv)] UW.1 ?_;intro⟨p,i,x⟩ ⟨ae,V,T⟩ H au;have O:∀{c:Int},xA p x=c->bJ (.aa c) (CU.res (p,i,x)):=λh=>.of (by rw[<-h];rfl);refine I 12<|fc x ae j<|I 14<|aV xn (x.f,(p.bO.length:Int)) aC ?_;by_cases u:jV x.f p.bO.length
 case neg=>
  exact cg 24 (bK<|cq u)<|I 11<|an (az j j<|O<|aw u)
 refine cg 24 (bK<|ck u) ?_;obtain⟨f,Z⟩:∃f:Nat,x.f=(f:Int):=⟨x.f.toNat,by have:=u.1;omega⟩;have ai:x.f.toNat=f:=R
 have ah:f<p.bO.length:=by have:=u.2;omega
 obtain⟨⟨o,q⟩,W⟩:∃w,p.bO[f]? =some w:=⟨_,a0 ah⟩;have C:∀{c:Int},q0 o q x=c->bJ (.aa c) (CU.res (p,i,x)):=λh=>O (by unfold xA;rw[aE u,ai,W];exact h);refine I 24<|eA (L:=Nat) (λk=>k<=2/\(1<=k->dq x.bg=some (h7 x.bg))/\(2<=k->dq x.af=some (h7 x.af))) (λ(k:Nat)=>⟨[.c 184<|iB p,.c 283<|G8 x,.c 284<|apz x k,.c 48 [.s x.bg,.s x.af]],4,[(2,.p 0 0),(4,.aa 0),(5,.p 1 0),(6,.p 2 0),(30,.aK 3 1 0 2 2),(31,.aa 2),(32,.aa (k:Int))]⟩) (λk=>2-k) [0,1,2,3] 0 ⟨R,λh=>absurd h al,λh=>absurd h al⟩ ?_;rintro(k:Nat) ⟨aj,M,a'⟩;rcases(show k=0\/k=1\/k=2 by omega)with rfl|rfl|rfl
 ·refine I 14<|k4 (J:=0) j j<|I 8<|aV xl x.bg V ?_;cases h:dq x.bg with
  |none=>
   exact aP 39 (.bq [cc 0,.aa 6]) j (by show jT x.bg=_;unfold jT;rw[h])<|I 29<|an (az j j (C<|by unfold q0;rw[h]))
  |some X=>
  have A:dq x.bg=some (h7 x.bg):=by unfold h7;rw[h];rfl
  refine aP 39 (.bq [cc<|h7 x.bg,.aa 0]) j (by show jT x.bg=_;unfold jT;rw[A])<|I 21<|eL (sQ (J:=0) j j al) ?_;exact I 8<|dv [0,1,2,3] 1 ⟨al,al,λ_=>h.symm.trans A,λh=>absurd h al⟩
 ·have B:=M al;refine I 14<|k4 (J:=1) j j<|I 8<|aV xl x.af T ?_;cases h:dq x.af with
  |none=>
   exact aP 39 (.bq [cc 0,.aa 6]) j (by show jT x.af=_;unfold jT;rw[h])<|I 29<|an (az j j (C<|by unfold q0;rw[h,B]))
  |some X=>
  have A:dq x.af=some (h7 x.af):=by unfold h7;rw[h];rfl
  refine aP 39 (.bq [cc<|h7 x.af,.aa 0]) j (by show jT x.af=_;unfold jT;rw[A])<|I 21<|eL (sQ (J:=1) j j al) ?_;exact I 8<|dv [0,1,2,3] 2 ⟨al,al,λ_=>B,λ_=>h.symm.trans A⟩
 ·have B:=M al;have N:=a' al;have Y:q0 o q x=if ku o q (h7 x.bg)/\ku o q (h7 x.af)/\¬h7 x.af<h7 x.bg then 0 else 7:=by unfold q0;rw[B,N]
  refine I 19<|aP 53 (.aa (f:Int)) j (by rw[Z])<|fc (o,q) W j<|I 9 ?_;have F:=f' V B;have G:=f' T N;have no:¬(ku o q (h7 x.bg)/\ku o q (h7 x.af)/\¬h7 x.af<h7 x.bg)->bJ (.aa 7) (CU.res (p,i,x)):=λh=>C<|Y.trans<|aw h;refine eL (sQ (J:=0) j j al) ?_;refine I 1<|aV Ys (o,q,h7 x.bg) F ?_;by_cases D:ku o q (h7 x.bg)
  case neg=>
   exact cg 59 (bK<|cq D)<|I 26<|an (az j j<|no λh=>D h.1)
  refine cg 59 (bK<|ck D)<|I 5<|eL (sQ (J:=1) j j al) ?_;refine I 3<|aV Ys (o,q,h7 x.af) G ?_;by_cases cw:ku o q (h7 x.af)
  case neg=>
   exact cg 65 (bK<|cq cw)<|I 21<|an (az j j<|no λh=>cw h.2.1)
  refine cg 65 (bK<|ck cw)<|I 5<|eL (sQ (J:=0) j j al) ?_;refine I 3<|eL (sQ (J:=1) j j al) ?_;refine I 3<|aV L9 (h7 x.bg,h7 x.af) ⟨eb F,eb G⟩<|I 2 ?_;by_cases dg:h7 x.af<h7 x.bg
  ·have E:=w6.2 dg;exact cg 74 (bK<|ck E)<|I 11<|an (az j j<|no λh=>h.2.2 dg)
  ·have E:¬0<jA (h7 x.bg) (h7 x.af):=λh=>dg<|w6.1 h;exact cg 74 (bK<|cq E)<|I 12<|an (az j j<|C<|Y.trans<|aE ⟨D,cw,dg⟩)
def jE(i f:Int)(n:gD):Bool:=decide (n.op=2)&&(decide (n.a=i)&&decide (n.f≠f))
def g':bl:=b3 λ((n,i,f):gD×Int×Int)=>([.agg<|kI n,.ip [.aa i],.ip [.aa f]],True,.b<|jE i f n)
def apB:bt 184 g':=by
 refine bR [] Um.1 ?_;intro⟨n,i,f⟩ _ H au;refine I 11 ?_;by_cases k:n.op=2
 ·refine cg 7 (bK<|ck k)<|I 9 ?_;by_cases o:n.a=i
  ·exact cg 12 (bK<|ck o)<|I 15<|an (az j j<|.of (bK<|by unfold jE;rw[ck k,ck o];rfl))
  ·exact cg 12 (bK<|cq o)<|I 11<|an (az j j<|.of (bK<|by unfold jE;rw[ck k,cq o];rfl))
 ·exact cg 7 (bK<|cq k)<|I 16<|an (az j j<|.of (bK<|by unfold jE;rw[cq k];rfl))
def q1(q:gD->Bool):ac gD->Nat->Int
 |[],_=> -1
 |n::l,k=>if q n=true then k else q1 q l (k+1)
theorem h'(q:gD->Bool):∀(l:ac gD) (k:Nat),decide (0<=q1 q l k)=l.any q
 |[],_=>rfl
 |n::l,k=>by
  unfold q1;rw[List.any_cons];cases h:q n with
  |true=>simp
  |false=>simpa using h' q l (k+1)
def ND(i f:Int):ag:=.fn (.func 184) [] [.ip [.aa i],.ip [.aa f]]
def i':bl:=b3 λ((l,i,f):ac gD×Int×Int)=>([.cU 7 gD kI l,ND i f],l.length<=1000000,.aa<|q1 (jE i f) l 0)
def apC:bt 295 i':=by
 refine bR [(184,g')] Ux.1 ?_;intro⟨l,i,f⟩ (aD:l.length<=1000000) H au;refine I 14<|eA (λk=>k<=l.length/\q1 (jE i f) (l.drop k) k=q1 (jE i f) l 0) (λ(k:Nat)=>⟨[],0,[(0,.cU 7 gD kI l),(1,ND i f),(4,.aa 0),(7,.aa l.length),(8,.aa k)]⟩) (λk=>l.length-k) [] 0 ⟨dw _,j⟩ ?_;rintro k ⟨q,o⟩;refine I 3 ?_;by_cases aT:k<l.length
 ·refine dd 9<|I 19<|fc l[k] (a0 aT) j<|I 1 ?_;have bV:=gp aT;rw[bV]at o;refine BU apB (l[k],i,f) aC ?_;cases h:jE i f l[k]with
  |true=>
   exact cg 16 (bK h)<|I 15<|an (az j j (.of<|by show ag.i _ _=ag.aa (q1 (jE i f) l 0);rw[<-o];unfold q1;rw[aE h]))
  |false=>
   refine cg 16 (bK h)<|I 8<|cd 18 ((k+1:Nat):Int)<|I 2<|h4 [] (k+1) ⟨aT,?_⟩;rw[<-o];conv=>rhs;unfold q1
   rw[aw<|by rw[h];decide]
 ·exact c2 9<|I 15<|an (az j j (.of<|by show ag.i _ _=ag.aa (q1 (jE i f) l 0);rw[<-o,mh R];rfl))
def j':bl:=b3 λ((l,i,f):ac gD×Int×Int)=>([.cU 7 gD kI l,ND i f],l.length<=1000000,.b<|l.any<|jE i f)
def apD:bt 185 j':=by
 refine bR [(295,i')] U9.1 ?_;intro⟨l,i,f⟩ aD H au;exact I 9<|aV apC (l,i,f) aD<|aP 7 (.aa<|q1 (jE i f) l 0) j j<|I 5<|an (az j j<|.of<|bK<|h' _ l 0)
def zR(p:ec)(i:Nat)(s:xm):Int:=
 if¬(0<=s.i/\s.i<p.head)\/¬(0<=s.n/\s.n<p.tail)then 7
 else match p.bQ[s.i.toNat]?,p.bQ[s.n.toNat]? with
  |some a,some b=>if b.f≠a.f\/p.bQ.any (jE i a.f)=true then 143 else 0
  |_,_=>0
def tl:bl:=b3 λ((p,i,s):ec×Nat×xm)=>([jC p,.aa (i:Int)],p.hr[i]? =some s/\p.head<=(p.bQ.length:Int)/\p.tail<=(p.bQ.length:Int)/\p.bQ.length<=1000000,.aa<|zR p i s)
def apE:bt 95 tl:=by
 refine bR [(96,sh),(185,j')] Tu.1 ?_;intro⟨p,i,s⟩ ⟨L,N,ji,aD⟩ H au;have B:∀{c:Int},zR p i s=c->bJ (.aa c) (tl.res (p,i,s)):=λh=>.of (by rw[<-h];rfl);refine I 13<|fc s L j<|I 13<|aV xn (s.i,p.head) aC ?_;by_cases q:0<=s.i/\s.i<p.head
 case neg=>
  exact cg 19 (bK<|cq q)<|I 20<|an (az j j<|B<|aE<|.inl q)
 refine cg 19 (bK<|ck q)<|I 13<|aV xn (s.n,p.tail) aC ?_;by_cases u:0<=s.n/\s.n<p.tail
 case neg=>
  exact cg 27 (bK<|cq u)<|I 13<|an (az j j<|B<|aE<|.inr u)
 refine cg 27 (bK<|ck u) ?_;obtain⟨a,E⟩:∃a:Nat,s.i=(a:Int):=⟨s.i.toNat,R⟩;obtain⟨b,G⟩:∃b:Nat,s.n=(b:Int):=⟨s.n.toNat,R⟩;have M:s.i.toNat=a:=R
 have F:s.n.toNat=b:=R
 have C:a<p.bQ.length:=R
 have D:b<p.bQ.length:=R
 have A:∀{c:Int},(if(p.bQ[b]).f≠(p.bQ[a]).f\/p.bQ.any (jE i (p.bQ[a]).f)=true then 143 else 0)=c->bJ (.aa c) (tl.res (p,i,s)):=λh=>B (by
  unfold zR;rw[aw λh=>h.elim (λh=>h q) λh=>h u,M,F,a0 C,a0 D];exact h)
 refine I 15<|aP 34 (.aa (a:Int)) j (by rw[E])<|fc p.bQ[a] (a0 C) j ?_;refine e4 37 ?_
 iterate 2 refine fz j ?_
 refine RE 3 ?_;refine RE 6 ?_;refine I 16<|dD 43 (.aa (b:Int)) j j (by rw[G])<|ks p.bQ[b] (a0 D) j<|I 4 ?_;by_cases o:(p.bQ[b]).f≠(p.bQ[a]).f
 ·exact dD 48 (.b true) j j (bK<|ck o)<|I 17<|an (az j j<|A<|aE<|.inl o)
 refine dD 48 (.b false) j j (bK<|cq o)<|I 10<|cm apD (p.bQ,(i:Int),(p.bQ[a]).f) aD ?_;cases k:p.bQ.any (jE i (p.bQ[a]).f)with
 |true=>
  exact cg 54 (bK k)<|I 11<|an (az j j<|A<|aE<|.inr k)
 |false=>
  exact cg 54 (bK k)<|I 12<|an (az j j<|A<|aw λh=>h.elim o λh=>Bool.noConfusion<|k.symm.trans h)
def iP{α:Type}(g:Nat->α->Int):ac α->Nat->be (Nat×Int)
 |[],_=>none
 |x::l,k=>if g k x=0 then iP g l (k+1)else some (k,g k x)
def CV{α:Type}{g:Nat->α->Int}{l:ac α}{J:Nat}(ba:J<l.length):iP g (l.drop J) J=if g J l[J]=0 then iP g (l.drop<|J+1) (J+1)else some (J,g J l[J]):=by
 rw[gp ba];rfl
def tm(_:ec)(_:Nat)(x:Int×Int):Int:=if fJ x.1 x.2 then 0 else 2
def tn(p:ec)(_:Nat)(x:n0):Int:=xA p x
def tp(p:ec)(i:Nat)(n:gD):Int:=tk p i n
def tq(p:ec)(i:Nat)(s:xm):Int:=zR p i s
def pV(p:ec):Int×Int×Int:=
 match iP (tm p) p.bO 0 with
 |some x=>(1,x.1,x.2)
 |none=>match iP (tn p) p.ins 0 with
  |some x=>(2,x.1,x.2)
  |none=>match iP (tp p) p.bQ 0 with
   |some x=>(3,x.1,x.2)
   |none=>match iP (tq p) p.hr 0 with
    |some x=>(4,x.1,x.2)
    |none=>if¬jV p.out p.bQ.length\/gS p p.out=1 then(5,0,7)else(0,0,0)
def ez(p:ec):Int×Int×Int:=if pR p=0 then pV p else(0,0,pR p)
def zS(x:Int×Int×Int):ag:=.bq [.aa x.1,.aa x.2.1,.aa x.2.2]
def xB(p:ec):Prop:=(∀x∈p.ins,x.bg.length<=2000/\x.af.length<=2000)/\∀n∈p.bQ,n.v.length<=2000
def HC:bl where
 L:=ec
 args:=λp=>[jC p]
 pre:=xB
 res:=λp=>zS (ez p)
 hp:=n1
 hm:=n1.up
def k'(p:ec):ac ag:=[.aa (p.bO.length:Int),.fn (.func 92) [jC p] [],.aa (p.ins.length:Int),.fn (.func 93) [jC p] [],.aa (p.bQ.length:Int),.fn (.func 94) [jC p] [],.aa (p.hr.length:Int),.fn (.func 95) [jC p] []]
def NF{p:ec}(h:pR p=0):p.bO.length<=6/\p.ins.length<=6/\p.bQ.length<=64/\p.hr.length<=4/\p.tail<=(p.bQ.length:Int)/\p.head<=p.tail/\0<=p.head:=by
 unfold pR at h;split at h
 ·cases h
 split at h
 ·cases h
 split at h
 ·cases h
 omega
def apF:bt 30 HC:=by
 refine sa [(91,zC),(92,Yt),(93,CU),(94,NC),(95,tl),(96,sh),(97,u3)] Ti.1 ?_;intro(p:ec) ⟨V,Z⟩ H au Y;have N:∀{c:Int×Int×Int},ez p=c->bJ (zS c) (HC.res p):=λh=>.of (by rw[<-h];rfl);refine st ?_;refine aV anl p aC ?_;refine aP 15 (.aa<|pR p) j j<|e4 17 ?_;by_cases u:pR p=0
 case neg=>
  refine v1 17 u<|st ?_;exact an<|az j j<|N<|aw u
 refine aP 17 (.b false) j (bK<|cq λh=>h u) ?_;have A:∀{c:Int×Int×Int},pV p=c->bJ (zS c) (HC.res p):=λh=>N<|(aE u).trans h;obtain⟨ak,ao,ax,ai,O,ah,aj⟩:=NF u;refine st ?_;refine eu (L:=Nat) (λk=>k<=4/\(1<=k->iP (tm p) p.bO 0=none)/\(2<=k->iP (tn p) p.ins 0=none)/\(3<=k->iP (tp p) p.bQ 0=none)/\(4<=k->iP (tq p) p.hr 0=none)) (λ(k:Nat)=>⟨[.c 27<|iB p,.c 184<|iB p,.c 187<|k' p],3,[(1,.p 0 0),(5,.p 1 0),(44,.aK 2 2 0 4 4),(45,.aa 4),(46,.aa (k:Int))]⟩) (λk=>4-k) [0,1,2] 0 ⟨R,λh=>absurd h al,λh=>absurd h al,λh=>absurd h al,λh=>absurd h al⟩ (by show 4-0<bx+1;unfold bx;omega) bB ?_;rintro(k:Nat) ⟨av,I,G,M,ag⟩;rcases(show k=0\/k=1\/k=2\/k=3\/k=4 by omega)with rfl|rfl|rfl|rfl|rfl
 rotate_left 4
 ·have T:=I al;have W:=G al;have a':=M al;have ae:=ag al;have E:pV p=if¬jV p.out p.bQ.length\/gS p p.out=1 then(5,0,7)else(0,0,0):=by unfold pV;simp only[T,W,a',ae]
  refine st ?_;refine aV xn (p.out,(p.bQ.length:Int)) aC ?_;by_cases B:jV p.out p.bQ.length
  case neg=>
   refine v0 73 B<|st ?_;exact an<|az j j<|A (c:=(5,0,7))<|E.trans<|aE<|.inl B
  refine v1 73 B<|st ?_;refine aV MM (p,p.out) aC ?_;refine aP 79 (.aa<|gS p p.out) j j<|e4 80 ?_;by_cases C:gS p p.out=1
  ·refine v1 80 C<|st ?_;exact an<|az j j<|A (c:=(5,0,7))<|E.trans<|aE<|.inr C
  ·refine v0 80 C<|st ?_;exact an<|az j j<|A (c:=(0,0,0))<|E.trans<|aw λh=>h.elim (λh=>h B) C
 let l:=p.bO;let g:=tm p;let F:=92;let k:=0;rotate_left
 let l:=p.ins;let g:=tn p;let F:=93;let k:=1;rotate_left
 let l:=p.bQ;let g:=tp p;let F:=94;let k:=2;rotate_left
 let l:=p.hr;let g:=tq p;let F:=95;let k:=3;rotate_left
 all_goals
  have aD:l.length<=64:=by simp only[l];omega
  refine st ?_;refine y3 ?_;refine st ?_;refine eu (L:=Nat) (λJ=>J<=l.length/\iP (g) (l.drop J) J=iP (g) l 0) (λ(J:Nat)=>⟨[.c 27<|iB p,.c 184<|iB p,.c 187<|k' p,.c 187 [.aa (l.length:Int),.fn (.func F) [jC p] []]],4,[(1,.p 0 0),(5,.p 1 0),(44,.aK 2 2 0 4 4),(45,.aa 4),(46,.aa (k:Nat)),(8,.aa (k:Nat)),(9,.p 3 0),(52,.aa (l.length:Int)),(53,.aa (J:Int))]⟩) (λJ=>l.length-J) [0,1,2,3] 0 ⟨dw _,j⟩ (by show _-0<bx+1;unfold bx;omega) bB ?_;rintro(J:Nat) ⟨ar,o⟩;refine e4 54 ?_;by_cases q:J<l.length
  ·refine dd 54<|st ?_;rw[CV q]at o
   first
   |(have:F=92:=rfl;refine BU anm (p,J,(p.bO[J]).1,(p.bO[J]).2) (a0 q) ?_)
   |(have:F=93:=rfl;refine BU apA (p,J,p.ins[J]) ⟨a0 q,V _<|dx q⟩ ?_)
   |(have:F=94:=rfl;refine BU apy (p,J,p.bQ[J]) ⟨a0 q,Z _<|dx q⟩ ?_ (cA:=Y))
   |refine BU apE (p,J,p.hr[J]) ⟨a0 q,R,O,R⟩ ?_
   refine aP 59 (.aa<|g J l[J]) j j<|e4 61 ?_;by_cases D:g J l[J]=0
   ·rw[aE D]at o;refine aP 61 (.b false) j (bK<|cq λh=>h D)<|e4 66 ?_;refine cd 66 ((J+1:Nat):Int)<|st ?_;exact bW [0,1,2,3] (J+1) ⟨R,q,o⟩ bB
   ·rw[aw D]at o;refine v1 61 D<|st ?_;refine an<|az j j<|A (c:=(_,(J:Int),g J l[J])) ?_;simp only[g,l]at o;simp[pV,<-o,I,G,M,k,g,l];rfl
  ·refine c2 54<|st ?_;have o:iP g l 0=none:=by rw[<-o,mh R];rfl
   refine bW [0,1,2] (k+1) ⟨al,al,?_,?_,?_,?_⟩ bB<;>intro h<;>first|exact o|exact absurd h al|exact I al|exact G al|exact M al
