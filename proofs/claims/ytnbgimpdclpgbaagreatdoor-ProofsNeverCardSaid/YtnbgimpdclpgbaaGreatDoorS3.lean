/- Rules for what a function computes on abstract states (part 3); no condition. -/
import Derived.Test.YtnbgimpdclpgbaaGreatDoorS2
import Derived.Test.YtnbgimpdclpgbaaGreatDoorS1
noncomputable section
set_option linter.all false
namespace Go.bA
open Sym
variable{X:Ctx}
variable{H:bh}{ch:ac fm}{call:bM}{f:d7}{aZ:cJ}{es:ac f7}{a:ag}
def FU{res:ac gU}{x:c1}{o:aJ}{st:aj}(h:x= .norm\/x= .ret):wj call res (.out x o st)=fv call res none o st:=by
 rcases h with rfl|rfl<;>rfl
def Sh{n:Nat}{ad:ac bv}{st:aj}{as:ac ag}(aD:ad.length<=aZ.aM)(bV:cB H as [] ad)(E:Fit H [] st [] 0)
 (h:iJ ⟨call,n,f,H,[],st,Lf ch st.ae aZ.res⟩ aZ.body ⟨[],0,hJ 0 as⟩):lS call n f aZ ad st≠[]/\∀q∈lS call n f aZ ad st,∃v b4 r es clock u,q= .ret v b4 false/\Out st H ch v b4 r es clock u:=by
 have e:lS call n f aZ ad st=(gH call n f aZ.body (dT ad) st).map (wj call aZ.res):=by
  unfold lS;rw[lg,eP,aE aD];rfl
 rw[e];refine⟨λh=>Le aZ.body (dT ad) st<|vx.1 h,λq N=>?_⟩;obtain⟨r,F,rfl⟩:=cW.1 N;obtain⟨x,V,b4,rfl,u,W,s,o,w,D,C,k,A,T,R,M,B,hp⟩:=h H [] st (dT ad) (cQ.refl _ _ _) E (cN.zero bV) r F;obtain⟨v,I,O⟩:=r2 w D A;obtain⟨b,y,rfl⟩:=I;obtain⟨⟨es,clock,G,hm⟩,_⟩:=w.own k _ b M y;refine⟨_,b4,b,es,clock,u,by rw[FU C,O],j,?_,G,(hm.Sa B).perm hp,w.le,o.hle,λc L=>o.eF c L av,o.ae⟩;rcases o.new b (hg y)with h|h
 ·simp at h
 ·exact h
def agj{ms:ac (bv×ag)}(h:mI H ch ms){p:bv×ag}(hp:p∈ms):∃e∈ch,e.key=p.1/\BZ H e p.2:=by
 induction ch generalizing ms with
 |nil=>
  cases ms with
  |nil=>cases hp
  |cons=>exact h.elim
 |cons e ch j=>
  cases ms with
  |nil=>exact h.elim
  |cons q ms=>
   rcases e1.1 hp with rfl|hp
   ·exact⟨e,g5,h.1,h.2.1⟩
   ·obtain⟨o,u,v⟩:=j h.2.2 hp;exact⟨o,e5 _ u,v⟩
theorem agk{st:aj}(av:∀b,st.ae<=b->st.h.get b=none){D:bh}{aD:ac fm}{v:bv}{b4:aj}{r ft:Nat}{aG:ac f7}{clock aO:Nat}{aC az:bh}(h:Out st H ch v b4 r es clock aC)(aL:Out st D aD v b4 ft aG aO az)
 (a0:∀b U,H b=some U->b<st.ae) (br:∀b U,D b=some U->st.h.get b=some U) {ms ab:ac (bv×ag)} (a6:mI H ch ms) (O:mI D aD ab):
 ∃B,Fit B [] (sT ch st) [] 0/\cQ D [] st B [] (sT ch st)/\den B (.g<|fB ab) [] (Lh ch st):=by
 have ax:∀b U,D b=some U->b<st.ae:=λb U e=>by
  grind
 have bp:=R9 ch st 0;have aV:(sT ch st).ae=(e7 ch st 0).2.ae+1:=rfl;have a3:∀b,b<st.ae->(sT ch st).h.get b=st.h.get b:=λb w=>by rw[Li R,FT ch st 0 w]
 obtain⟨B,aa⟩:∃B:bh,∀b,B b=if b<st.ae then D b else(sT ch st).h.get b:=⟨_,λ_=>j⟩;have hle:cF D B:=λb U e=>by rw[aa,aE<|ax b U e];exact e
 have aW:=h.val.symm.trans aL.val;cases aW;have L:=h.obj.symm.trans aL.obj;cases L;have aM:(ab.map (·.1)).Nodup:=by
  have:=aL.md.cT;rw[pZ]at this;rw[<-O.keys];exact this
 have bn:=Lc ch st 0;have a8:(ch.map fm.key).Nodup:=by
  have:=h.md.cT;rw[pZ]at this;exact this
 refine⟨B,⟨λb w=>?_,λb U e=>?_,j,j,oc,λb w=>by simp at w,λk U b C=>by simp at C⟩,⟨hle,λb w _=>by rw[aa,aE w],λb w _=>a3 b w,R,cf.refl _,λb w=>.inl w⟩,?_⟩
 ·rw[aV]at w;rw[Li R];exact Lg ch st 0 av b R
 ·grind
 ·refine⟨(e7 ch st 0).2.ae,(e7 ch st 0).1,ch.length,j,?_,⟨λe ao=>?_,?_,?_,aM,λe ao=>?_,λp hp=>?_,?_⟩⟩
  ·rw[aa,aw R];exact agi
  ·obtain⟨J,y,rfl⟩:=k8 ao;have:=(oJ ch st 0 J y R).2;omega
  ·rw[kP];intro i J af y aF;have Y:=(oJ ch st 0 i af R).2;have A:=(oJ ch st 0 J y R).2;omega
  ·rw[kP];intro i J af y aF e;rw[(oJ ch st 0 i af R).1,(oJ ch st 0 J y R).1]at e;have C:=n9.1 a8;rw[kP]at C;exact C i J R R aF e
  ·obtain⟨J,y,rfl⟩:=k8 ao;have M:J<ch.length:=by omega
   have C:=(oJ ch st 0 J y M).1;have aA:(ch[J].key,ch[J].j1 st.ae)∈ch.map λe=>(e.key,e.j1 st.ae):=cW.2 ⟨_,dx M,j⟩;obtain⟨x,T,F⟩:=h.md.to _ aA;have F:x.key=ch[J].key:=F;obtain⟨a,Z,E⟩:=h.md.jc x T;rw[F]at Z;have:=La h.md.cT Z aA;subst this;obtain⟨aY,aN,I⟩:=aL.md.jc x T;obtain⟨A,ad,V⟩:=cW.1 aN;have ar:A.key=x.key:=congrArg Prod.fst V;have aS:A.j1 st.ae=aY:=congrArg Prod.snd V;subst aS;obtain⟨p,hp,aK,bt,bd,aG,aJ,al,N⟩:=O.get ad;obtain⟨bj,bq,ba,bs,bc,bl,b',W,a'⟩:=a6.get<|dx M;refine⟨p.2,?_,?_⟩
   ·rw[C,<-F,<-ar,aK];exact hp
   ·rw[aJ];cases G:ch[J]with
    |lit k u=>
     rw[G]at a' E;rw[Se ch st 0 J y M G];cases A with
     |lit an a2=>
      rw[<-E,I];exact iw hle _ (cf.refl _) N
     |num an a9 aP aR=>
      obtain⟨rfl,rfl,rfl⟩:=N;rw[E]at I;exact(Sb a0 W al a'<|B0 I).elim
    |num k t bg es=>
     rw[G]at a' E;obtain⟨rfl,rfl,rfl⟩:=a';cases A with
     |lit an a2=>
      rw[<-I]at N;exact(Sb ax al W N<|B0 E).elim
     |num an a9 aP aR=>
      obtain⟨rfl,rfl,rfl⟩:=N;have aT:∀b U,kr st.ae aC b=some U->b4.h.get b=some U:=λb U e=>h.le b U (lY.1 e).2;have aH:∀b U,kr st.ae az b=some U->b4.h.get b=some U:=λb U e=>aL.le b U (lY.1 e).2;obtain⟨rfl,rfl,rfl⟩:=agd aT aH W al (B0 E)<|B0 I;refine Sd ch st 0 J y M G W λb U w L=>?_;rw[aa,aw R];by_cases e:b=(e7 ch st 0).2.ae
      ·subst e;rw[Lg ch st 0 av _<|dt _]at L;cases L
      ·rw[Li e];exact L
  ·obtain⟨A,ad,ar,_⟩:=agj O hp;obtain⟨x,T,F⟩:=aL.md.to _<|cW.2 ⟨A,ad,j⟩;obtain⟨a,Z,_⟩:=h.md.jc x T;obtain⟨Y,G,V⟩:=cW.1 Z;have a1:Y.key=x.key:=congrArg Prod.fst V;obtain⟨J,y,rfl⟩:=k8 G;exact⟨_,dx (show J<(e7 ch st 0).1.length by omega),by rw[(oJ ch st 0 J R y).1,a1,F,ar]⟩
  ·have Y:=h.md.len;have A:=aL.md.len;rw[hz]at Y A;rw[<-O.len];omega
theorem agl{aI:ao cJ}(E:Good X)(F:iZ X aI)(bk:d7->dL)(Z:aI.get f=some aZ){S:bl}(ms:S.L->ac (bv×ag))(aH:∀l,S.res l= .g (fB<|ms l))(aD:∀l,(S.args l).length<=aZ.aM)(jd:∀l,S.pre l->∀p∈ms l,∃cp:fr,cp.ok p.1=true)
 (h:∀l,S.pre l->∀H au ad,S.hp H->Fit H [] au [] 0->cB H (S.args l) [] ad->∃(as:ac ag) (ch:ac fm),cB H as [] ad/\mI H ch (ms l)/\iJ ⟨b7 aI (cj X bk)<|bx+1,bx+1,f,H,[],au,Lf ch au.ae aZ.res⟩ aZ.body ⟨[],0,hJ 0 as⟩):dY X f S.spec:=by
 rintro ad st ⟨⟨l,H⟩,hp,az,j,bV⟩;obtain⟨as,ch,R,C,aE⟩:=h l hp H st ad az j bV;have N:ad.length<=aZ.aM:=by rw[gd bV];exact aD l
 obtain⟨aj,B⟩:=Sh N R j aE;refine⟨Lh ch st,sT ch st,?_,?_⟩
 ·rintro⟨al,av⟩ ⟨aC,W,A,aA⟩;obtain⟨aR,aN,V,T,O⟩:=h al aC av st ad W A aA;obtain⟨_,a'⟩:=Sh N V A O;obtain⟨q,I⟩:=Df _ aj;obtain⟨v,D,r,es,clock,Y,rfl,gi⟩:=B q I;obtain⟨a3,aW,ft,a1,aO,aK,e,eV⟩:=a' _ I;cases e;obtain⟨ab,an,af,a2⟩:=agk j.wf gi eV (λb U e=>j.aT e) A.le C T;exact⟨ab,an,af,by rw[aH];exact a2⟩
 ·obtain⟨aL,c,ok⟩:=F f aZ Z;obtain⟨ax,G⟩:=uh E F (Bz bk)<|bx+1;intro a4 aS w aa M;refine⟨ok.enters,λK bd u=>?_⟩;obtain⟨q,aF,aG⟩:=EK E G ax (λb aM bd _=>ug G b aM bd) ok (bx+1) aa M u (λr u e=>by
   obtain⟨v,D,_,_,_,_,ak,_⟩:=B r u;subst e;cases ak)
  obtain⟨v,D,r,es,clock,Y,rfl,gi⟩:=B q aF;refine gi.can M j.le (λe y=>?_) (λe y=>?_) aG
  ·obtain⟨p,_,_,h⟩:=C.get y;exact⟨_,h⟩
  ·obtain⟨p,aJ,aY,_⟩:=C.get y
   grind
def bJ.Lj{cb j:Nat}(h:cb<=j):bJ (gk j a) (gk cb a):=λ_ _ _ d=>iw (RZ h) a (cf.refl _) d
def agm(a b:ag):BB:=⟨λH v=>den H a [] v/\den H b [] v,λh _ d=>⟨iw h a (cf.refl _) d.1,iw h b (cf.refl _) d.2⟩,qz b,λh _ _ d=>E5 h d.2⟩
def r7(a b:ag):ag:=.g<|agm a b
def bJ.Lk{b:ag}:bJ (r7 a b) b:=λ_ _ _ d=>iw (cF.refl _) b (cf.nil _) d.2
def agn(l:ac Nat)(b:Nat):DS (l++[b])=some b:=by
 induction l with
 |nil=>rfl
 |cons a l h=>
  cases l with
  |nil=>rfl
  |cons c l=>exact h
def find_born(h:es.Pairwise λa b=>a.born≠b.born){m:f7}(hm:m∈es):es.find? (λe=>Nat.beq e.born m.born)=some m:=by
 cases j:es.find? (λe=>Nat.beq e.born m.born)with
 |none=>
  have:=List.find?_eq_none.1 j m hm;exact absurd (kO _) this
 |some e=>
  have o:=z3 j;have u:=z2 j;rw[Jv h u hm<|dM o]
section
variable{call:bM}{a5:bh}{s:cl}
def ago{E:ce}{k r clock:Nat}{seen:ac Nat}{m:f7}{F D:ag}(oy:a6 s.env E=some (.p k 0))(ax:s.own[k]? =some (.g<|lB r clock<|seen++[m.born]))(G:a5 r=some (.map es clock))(hm:m∈es)(aA:es.Pairwise λa b=>a.born≠b.born)(aS:m.born<clock)
 (aF:∀H,cF a5 H->den H F [] m.key) (aL:∀H,cF a5 H->den H D [] m.val) (N:iV F=true) (M:iV D=true):pA a5 call (.ext<|.vH E) s (.bq [F,D]) s.own s.n:=λH w st o v u A=>by
 obtain⟨b,I,C⟩:=A.ar oy;obtain⟨O,_⟩:=u.own k _ b ax I;have y:=u.le _ _<|v _ _ G;refine⟨.tuple #[m.key,m.val],st,w,H,?_,u,⟨_,j,_,_,j,sK _ N (aF H v) w,_,_,j,sK _ M (aL H v) w,j⟩,cF.refl _,cf.refl _,λ_ _ _ B=>B,dt _,λ_ _ _=>j⟩;show hi (o.ar E) (λp=>bn p (λa=>bn a.spot (λ_=>.no) (dz a.off 0 (AE (st.h.get a.block) (λm _ seen L=>
  bn m (λid=>bn (DS seen) (λs=>jo (st.h.get id) (λes clock=>dz clock L (ek (Nat.succ s) clock (bn (es.find? λe=>Nat.beq e.born s) (λe=>a1.ok (.tuple #[e.key,e.val]) o st) .no) .no) .no) .no) .no) .no) .no) .no)) .no) .no=_
 rw[C,kZ,Sym.eg,O];show bn (DS<|seen++[m.born]) (λs=>jo (st.h.get r) (λes c=>dz c clock (ek (Nat.succ s) c (bn (es.find? λe=>Nat.beq e.born s) (λe=>a1.ok (.tuple #[e.key,e.val]) o st) .no) .no) .no) .no) .no=_;rw[agn,y];show dz clock clock (ek (Nat.succ m.born) clock (bn (es.find? λe=>Nat.beq e.born m.born) (λe=>a1.ok (.tuple #[e.key,e.val]) o st) .no) .no) .no=_;rw[ig j,ga R,find_born aA hm];rfl
end
section
variable{aq:eX}{K:ac dH}{own bo:ac a4}{aB:Nat}{e:bU}{xs:ac bm}{d:be Tmp}
variable{m:ce}{ms:ac (bv×ag)}{cp:fr}{k:ce}{qG:ag}{ij:bv}{r clock J:Nat}{am:ag}
def B1(k:cI aq K xs bo (aB+1) (dU d (.mp aB) e))(j:mE own (.g<|ho []) some=some bo:=by rfl):cI aq K (⟨d,.o4,none⟩::xs) own aB e:=by
 have:=m2 j;cases this;exact wD af5 k
def wV(j:aq.a5 r=some (.map es clock))(k:cI aq K xs bo (aB+1) (dU d (.p aB 0) e))(hm:a6 e m=some (.v<|.map<|some r):=by rfl)(u:mE own (.g<|lB r clock []) some=some bo:=by rfl):cI aq K (⟨d,.ext<|.tH m,none⟩::xs) own aB e:=by
 have:=m2 u;cases this;exact sP (af9 hm j) k
def wW{D:ce}{a9:Nat}{seen:ac Nat}{m:f7}(u j:ag)(E:aq.a5 r=some (.map es clock))(hm:m∈es)(aA:es.Pairwise λa b=>a.born≠b.born)(aS:m.born<clock)(aF:∀H,cF aq.a5 H->den H u [] m.key)(aL:∀H,cF aq.a5 H->den H j [] m.val)
 (k:cI aq K xs own aB (dU d (.bq [u,j]) e)) (oy:a6 e D=some (.p a9 0):=by rfl) (ax:own[a9]? =some (.g<|lB r clock<|seen++[m.born]):=by rfl) (G:iV u=true:=by rfl) (F:iV j=true:=by rfl):cI aq K (⟨d,.ext<|.vH D,none⟩::xs) own aB e:=
 sP (ago oy ax E hm aA aS aF aL G F) k
def Si{v:ce}(u:ac (bv×ag))(G:uB ms ij a u)(I:uD qG ij)(F:∀p∈ms,cp.ok p.1=true)(bG:cI aq K xs bo aB (dU d (.bq []) e))(hm:a6 e m=some (.mp J):=by rfl)(ba:own[J]? =some (.g<|ho ms):=by rfl)
 (ax:a6 e k=some qG:=by rfl) (E:a6 e v=some a:=by rfl) (fH:iV a=true:=by rfl) (jd:cp.ok ij=true:=by rfl) (D:hn own J (.g<|ho u) some=some bo:=by rfl):cI aq K (⟨d,.ext<|.eO cp m k v,none⟩::xs) own aB e:=by
 have:=ih D;cases this;exact wD (R7 hm ba ax I E fH jd F G) bG
def agp(u:ac (bv×ag))(F:FP ms ij u)(G:uD qG ij)(E:∀p∈ms,cp.ok p.1=true)(bG:cI aq K xs bo aB (dU d (.bq []) e))(hm:a6 e m=some (.mp J):=by rfl)(ba:own[J]? =some (.g<|ho ms):=by rfl)
 (ax:a6 e k=some qG:=by rfl) (jd:cp.ok ij=true:=by rfl) (D:hn own J (.g<|ho u) some=some bo:=by rfl):cI aq K (⟨d,.ext<|.del cp m k,none⟩::xs) own aB e:=by
 have:=ih D;cases this;exact wD (af8 hm ba ax G jd E F) bG
def Sj(j:uC aq.a5 own am ms)(k:cI aq K xs own aB (dU d (.i .i64 (ms.length:Nat)) e))(hm:a6 e m=some am:=by rfl):cI aq K (⟨d,.ext<|.vG m,none⟩::xs) own aB e:=sP (af7 hm j) k
def Ll{z:bv}{ok:Bool}{d:Tmp}{ay:ac Tmp}{back:Nat}{l:ac (bm×cr)}{bf:ac a4}{a7:bU}{aX b0:Nat}(r:ag)(M:uC (λ_=>none) bf am ms)(I:uD qG ij)(E:∀p∈ms,cp.ok p.1=true)
 (D:match iz ms ij with|some a=>r=a|none=>∀H j,den H r j z) (bG:dy aq K l bf ((d,cond ok (.bq [r,.b (iz ms ij).isSome]) r)::a7) aX b0 own aB ((d,cond ok (.bq [r,.b (iz ms ij).isSome]) r)::e)) (aA:back<aX:=by first|decide|omega)
 (hm:a6 (dZ ay a7) m=some am:=by rfl) (ax:a6 (dZ ay a7) k=some qG:=by rfl) (fH:iV r=true:=by rfl) (jd:cp.ok ij=true:=by rfl):dy aq K ((⟨some d,.ext<|.look cp z ok m k,none⟩,.read back ay)::l) bf a7 aX b0 own aB e:=
 k2 aA (λH j st L o _ y=>by
  obtain⟨id,es,clock,A,bV,B⟩:=M H j st _ (λ_ _ h=>by cases h) y<|o.ar hm;obtain⟨v,F,G⟩:=af6 A (I _ _ _<|o.ar ax) bV jd E r D fH j;exact⟨v,F,λu C w=>G u<|B u C w⟩) bG
end
section
variable{aI:ao cJ}{bk:d7->dL}{bb n:Nat}{fn:d7}{a5:bh}{i0:ac Nat}{au:aj}{Q:c1->cl->Prop}{K:ac dH}{own bo:ac a4}{aB:Nat}{e:bU}{g:d7}{S:ev}{ae:S.L->Nat}
variable{bP:ac ce}{as:ac ag}{U cy:a4}
theorem agq(aS:dY X g (S.jb ae)){d:be Tmp}{xs:ac bm}(a9:Nat)(l:S.L)(hp:S.pre l)(ah:ae l<=au.ae)
 (k:cI (gP X aI bk n bb fn a5 i0 au Q) K xs bo aB (dU d (jL [a9]<|S.res l) e)) (D:S.own l=[U]:=by rfl) (M:S.bo l=[cy]:=by rfl)
 (ax:∃gi,own[a9]? =some gi/\km [a9] U gi:=by exact gj) (F:hn own a9 cy some=some bo:=by rfl) (aA:oF [a9] cy cy:=by exact j)
 (E:ha e bP=some as:=by rfl) (he:as=k1 [a9] (S.args l):=by rfl) (I:bk g=(S.jb ae).K:=by rfl) (cA:S.hp a5:=by first|exact aC|assumption):
 cI (gP X aI bk n bb fn a5 i0 au Q) K (⟨d,.call (.func g) bP,none⟩::xs) own aB e:=λH O st N A B u=>by
 obtain⟨v,ak,C,y,G,cw,dg,fY,nS,w,_⟩:=KP aS [a9] l (λ_ _ _ st h p=>⟨p,cC ah h⟩) hp cA ⟨av,by rw[D];rfl,by rw[D];exact⟨ax,aC⟩,aC,j⟩ (by rw[M];exact KO F aA) E he I A B u;exact pw G<|k y C ak _ w cw<|(u.mono fY nS).dU d dg
theorem zg(aS:dY X g (S.jb ae)){d:Tmp}{xs:ac (bm×cr)}{bf:ac a4}{a7:bU}{aX b0:Nat}(a9:Nat)(l:S.L)(hp:S.pre l)(ah:ae l<=au.ae)
 (k:dy (gP X aI bk n bb fn a5 i0 au Q) K xs (bf.map λ_=>.x) (j6 d a7) (aX+1) aB bo aB ((d,jL [a9]<|S.res l)::e)) (u:S.own l=[U]:=by rfl) (G:S.bo l=[cy]:=by rfl)
 (ax:∃gi,own[a9]? =some gi/\km [a9] U gi:=by exact gj) (E:hn own a9 cy some=some bo:=by rfl) (aA:oF [a9] cy cy:=by exact j)
 (D:ha e bP=some as:=by rfl) (he:as=k1 [a9] (S.args l):=by rfl) (F:bk g=(S.jb ae).K:=by rfl) (cA:S.hp a5:=by first|exact aC|assumption):
 dy (gP X aI bk n bb fn a5 i0 au Q) K ((⟨some d,.call (.func g) bP,none⟩,.dF)::xs) bf a7 aX b0 own aB e:=
 KW (λH B st A v y w=>KP aS [a9] l (λ_ _ _ st h p=>⟨p,cC ah h⟩) hp cA ⟨av,by rw[u];rfl,by rw[u];exact⟨ax,aC⟩,aC,j⟩ (by rw[G];exact KO E aA) D he F v y w) k
end
def Lm(S:PP)(l:S.L)(ad:ac bv)(i:Nat)(H:bh)(res:ac gU)(x:c1)(s:cl):Prop:=
 ((x= .norm\/x= .ret)/\∃u a,ad[i]? =some u/\Fin.m5 s res=some (.v u)/\S.out l= .ret a/\den H a [] u)\/∃v,x= .aR v/\S.out l= .aR v
def Sk(S:PP)(l:S.L)(ad:ac bv)(i:Nat)(H:bh)(st:aj)(q:dQ):Prop:=
 ∃j,(∀b,b<st.ae->j.h.get b=st.h.get b)/\((∃u a,ad[i]? =some u/\q= .ret u j false/\S.out l= .ret a/\den H a [] u)\/∃v,q= .aR v j false/\S.out l= .aR v)
def Sl{n:Nat}{ad:ac bv}{st:aj}{S:PP}{l:S.L}{i:Nat}{bP:ac ag}(aD:ad.length<=aZ.aM)(bV:cB H bP [] ad)(D:Fit H [] st [] 0)
 (h:iJ ⟨call,n,f,H,[],st,Lm S l ad i H aZ.res⟩ aZ.body ⟨[],0,hJ 0 bP⟩):lS call n f aZ ad st≠[]/\∀q∈lS call n f aZ ad st,Sk S l ad i H st q:=by
 have e:lS call n f aZ ad st=(gH call n f aZ.body (dT ad) st).map (wj call aZ.res):=by
  unfold lS;rw[lg,eP,aE aD];rfl
 rw[e];refine⟨λh=>Le aZ.body (dT ad) st<|vx.1 h,λq M=>?_⟩;obtain⟨r,C,rfl⟩:=cW.1 M;obtain⟨x,T,F,rfl,R,V,s,A,N,w,j⟩:=h H [] st (dT ad) (cQ.refl _ _ _) D (cN.zero bV) r C;refine⟨F,λc I=>A.eF c I av,?_⟩;rcases j with⟨j,u,a,G,y,o,B⟩|⟨v,rfl,o⟩
 ·obtain⟨v,E,O⟩:=r2 N w y;subst E;exact .inl ⟨v,a,G,by rw[FU j,O],o,B⟩
 ·exact .inr ⟨v,FH w.pl,o⟩
def dS.self{ab j:bF}{w w':f5}(h:dS ab j w w'):dS ab ab w w':=⟨bF.le.refl _,h.size,h.kept,λ_ _ q=>.inl q,h.fE⟩
def agr{aI:ao cJ}(aE:Good X)(aF:iZ X aI)(bk:d7->dL)(aO:aI.get f=some aZ){S:PP}(i:Nat)(aD:∀l,(S.args l).length<=aZ.aM)(a4:∀l v,S.out l= .aR v->∀(ab aT:bF) (u:bv),bc aT v u->bc ab v u)
 (h:∀l,S.pre l->∀H au ad,S.hp H->Fit H [] au [] 0->cB H (S.args l) [] ad->∃bP:ac ag,cB H bP [] ad/\iJ ⟨b7 aI (cj X bk)<|bx+1,bx+1,f,H,[],au,Lm S l ad i H aZ.res⟩ aZ.body ⟨[],0,hJ 0 bP⟩):kD X f S.spec:=by
 rintro ad st ⟨⟨l,H⟩,hp,R,az,bV⟩;obtain⟨bP,aK,b'⟩:=h l hp H st ad R az bV;have aH:ad.length<=aZ.aM:=by rw[gd bV];exact aD l
 obtain⟨aY,N⟩:=Sl aH aK az b';obtain⟨g8,al⟩:=Df _ aY;obtain⟨bg,c,ok⟩:=aF f aZ aO;obtain⟨a0,aG⟩:=uh aE aF (Bz bk)<|bx+1;have ym:=λ{ab:bF} {Z:ac bv} {w:f5} (B:bI ab ad Z) (G:bN X ab st w) {K:CallKind} {bd:Bool->ac Frame} (D:iX ⟨f,K,none⟩ none ab bd)=>EK aE aG a0 (λb aM bd _=>ug aG b aM bd) ok (bx+1) B G D (λr D e=>by
  obtain⟨aC,_,h⟩:=N r D;subst e;rcases h with⟨_,_,_,e,_⟩|⟨_,e,_⟩<;>cases e)
 have aA:∀A o,S.spec.pre (A,o) ad st->Sk S A ad i o st g8:=λA o ⟨a8,aN,L,a6⟩=>by
  obtain⟨Ln,aL,aJ⟩:=h A a8 o st ad aN L a6;exact(Sl aH aL L aJ).2 g8 al
 cases E:S.out l with
 |ret a=>
  obtain⟨aC,a3,aj⟩:=N g8 al;rcases aj with⟨u,aW,T,e,_,_⟩|⟨v,_,j⟩
  ·refine .inl ⟨u,st,?_,?_⟩
   ·rintro⟨A,o⟩ M;have L:=M.2.2.1;obtain⟨Y,_,j⟩:=aA A o M;rcases j with⟨aa,O,I,y,C,ax⟩|⟨v,y,_⟩
    ·rw[T]at I;cases I;exact⟨O,o,C,L,cQ.refl _ _ _,ax⟩
    ·rw[e]at y;cases y
   ·intro ab Z w B G;refine⟨ok.enters,λK bd D=>?_⟩;obtain⟨q,an,av⟩:=ym B G D;obtain⟨Y,ak,j⟩:=N q an;rcases j with⟨aa,O,I,rfl,_,_⟩|⟨v,_,j⟩
    ·rw[T]at I;cases I;obtain⟨aS,V,w',F,a',W,a2,cD,cX,et,fs⟩:=av;have af:=(dN.1 T).1;have R:=B.2 i af (by rw[<-B.1];exact af);have a1:=(dN.1 T).2;rw[a1]at R;exact⟨ab,V,w',F,a'.back a2.le R,bN.back a2.le G W ak,a2.self,cD,cX,et,fs⟩
    ·rw[E]at j;cases j
  ·rw[E]at j;cases j
 |aR v=>
  obtain⟨aC,a3,aj⟩:=N g8 al;rcases aj with⟨u,aW,_,_,j,_⟩|⟨V,e,j⟩
  ·rw[E]at j;cases j
  ·rw[E]at j;cases j;refine .inr ⟨v,st,?_,?_⟩
   ·rintro⟨A,o⟩ M;have L:=M.2.2.1;obtain⟨Y,_,j⟩:=aA A o M;rcases j with⟨aa,O,I,y,C,ax⟩|⟨ba,y,C⟩
    ·rw[e]at y;cases y
    ·rw[e]at y;cases y;exact⟨o,C,L,cQ.refl _ _ _⟩
   ·intro ab Z w B G;refine⟨ok.enters,λK bd D=>?_⟩;obtain⟨q,an,av⟩:=ym B G D;obtain⟨Y,ak,j⟩:=N q an;rcases j with⟨aa,O,I,_,C,_⟩|⟨ba,rfl,j⟩
    ·rw[E]at C;cases C
    ·rw[E]at j;cases j;obtain⟨aS,V,w',F,a',W,a2,cD,cX,et,fs⟩:=av;exact⟨ab,V,w',F,a4 l v E _ _ _ a',bN.back a2.le G W ak,a2.self,cD,cX,et,fs⟩
end Go.bA
namespace Go.bA
section
variable{aq:eX}{K:ac dH}{own bo:ac a4}{aB:Nat}{e:bU}{xs:ac bm}
def ags(t i:Nat){k:Nat}{cs D:ac ag}{ms:ac (bv×ag)}(bG:cI aq K xs bo aB ((t,.agg D)::e))(M:dp e t=some (.agg cs):=by rfl)(af:cs[i]? =some (.mp k):=by rfl)(T:D=cs.set i (.g<|fB ms):=by rfl)(ax:own[k]? =some (.g<|ho ms):=by rfl)(N:hn own k .x some=some bo:=by rfl):cI aq K xs own aB e:=by
 subst T;have W:=ih N;cases W;intro H E st V I u y;obtain⟨B,F,wq⟩:=y.get t _ M;obtain⟨w,L,b,v,G⟩:=sL wq af;obtain⟨⟨es,clock,a2,d⟩,_⟩:=u.own k _ b ax v;have hle:=r1 u ax j v;refine bG (fA H st b) E st V (I.fA u ax j v) (u.fA ax j v) ⟨(y.mono hle<|cf.refl _).pl,λJ q o=>?_⟩;rw[lW]at o;cases A:Nat.beq t J with
 |false=>rw[A]at o;exact(y.mono hle<|cf.refl _).get J q o
 |true=>
  rw[A]at o;cases o;rw[<-dM A];refine⟨B,F,?_⟩;have hm:den (fA H st b) (.g<|fB ms) E w:=⟨b,es,clock,G,by unfold fA;rw[aE j];exact a2,d.mono hle⟩;have C:=QK i (lx hle cs (cf.refl _) wq) hm;have O:B.set i w=B:=by
   apply p0;intro J;rw[o0];split
   ·rename_i h;subst h;split
    ·exact L.symm
    ·rename_i h;rw[sm R]
   ·rfl
  rw[O]at C;exact C
end
def FV:Nat->b5->b5
 |0,g=>g
 |n+1,g=>match BO g with
  |some h=>FV n h
  |none=>g
theorem Sm{aq:eX}:∀{n:Nat} {g:b5},b5.ok aq (FV n g)->b5.ok aq g
 |0,_,k=>k
 |n+1,g,k=>by
  unfold FV at k;split at k
  ·rename_i h;exact fz h<|Sm k
  ·exact k
def I(n:Nat){aq:eX}{g:b5}(k:b5.ok aq (FV n g)):b5.ok aq g:=Sm k
theorem FW{call:bM}{H:bh}{D:ac Nat}{o:aJ}{e:bU}{x i:ce}{z J:Nat}{α:Type}{ai:α->ac ag}{l:ac α}{q:α}{bG:f6}{a:ag}(u:cN o H D e)(h:l≠[]->bJ a (.cU z α ai l))(E:a6 e x=some a)(af:a6 e i=some (.i bG (J:Int)))(ba:l[J]? =some q):∃v,den H (.ip<|ai q) D v/\∀st,bw call (.h3 z x i) o st= .ok v o st:=by
 have y:=u.ar af;have aT:=(dN.1 ba).1;rcases h (λe=>by rw[e]at aT;exact p2 _ aT) _ _ _ (u.ar E)with⟨F,_⟩|⟨b,U,c,G,el,A,aU,C,I,w,B⟩
 ·grind
 ·refine⟨_,⟨b,U+J*z,G,el,A,aU,j,w,?_⟩,λst=>BA C y aT⟩;have bV:=B J q ba;have F:=gd bV
  grind
section
variable{aq:eX}{K:ac dH}{own:ac a4}{aB:Nat}{e:bU}{d:Tmp}{x i:ce}
variable{z J:Nat}{α:Type}{xs:ac bm}{l:ac α}
def Lo{call:bM}{s:cl}{ai:α->ac ag}{q:α}{bG:f6}{a:ag}(h:l≠[]->bJ a (.cU z α ai l))(u:a6 s.env x=some a)(af:a6 s.env i=some (.i bG (J:Int)))(ba:l[J]? =some q):fj call (.h3 z x i) s (.ip<|ai q) s.own s.n:=jM λH C st B A o=>by
 obtain⟨v,w,y⟩:=FW o h u af ba;exact⟨v,w,y st⟩
def fc{ai:α->ac ag}(q:α){bG:f6}(ba:l[J]? =some q)(u:a6 e x=some (.cU z α ai l))(k:cI aq K xs own aB ((d,.ip<|ai q)::e))(af:a6 e i=some (.i bG (J:Int)):=by rfl):gx aq K d (.h3 z x i) xs own aB e:=eL (Lo (λ_=>bJ.refl _) u af ba) k
def agt{ai:α->ac ag}(q:α){bG:f6}(ba:l[J]? =some q)(u:a6 e x=some (.gb z α ai l))(k:cI aq K xs own aB ((d,.ip<|ai q)::e))(af:a6 e i=some (.i bG (J:Int)):=by rfl):gx aq K d (.h3 z x i) xs own aB e:=eL (Lo (λ_=>.BD) u af ba) k
def wX{ai:α->ac ag}(q:α){bG:f6}(ba:l[J]? =some q)(u:a6 e x=some (.c6 z α ai l))(k:cI aq K xs own aB ((d,.ip<|ai q)::e))(af:a6 e i=some (.i bG (J:Int)):=by rfl):gx aq K d (.h3 z x i) xs own aB e:=eL (Lo .kW u af ba) k
def k4{a9 n c:Nat}{bG:f6}(u:a6 e x=some (.aK a9 z 0 n c))(af:a6 e i=some (.i bG (J:Int)))(k:cI aq K xs own aB ((d,.fk a9 z J 0)::e))(ba:J<n:=by omega):gx aq K d (.h3 z x i) xs own aB e:=y3 k u af ba
variable{bf:ac a4}{a7:bU}{aX b0 back:Nat}{ay:ac Tmp}{xs:ac (bm×cr)}
def ks{ai:α->ac ag}(q:α){bG:f6}(ba:l[J]? =some q)(u:a6 (dZ ay a7) x=some (.cU z α ai l))(k:dy aq K xs bf ((d,.ip<|ai q)::a7) aX b0 own aB ((d,.ip<|ai q)::e))(af:a6 (dZ ay a7) i=some (.i bG (J:Int)):=by rfl)(aA:back<aX:=by decide):dy aq K ((⟨some d,.h3 z x i,none⟩,.read back ay)::xs) bf a7 aX b0 own aB e:=
 k2 aA (λH B st A h _ _=>let⟨v,w,y⟩:=FW h (λ_=>bJ.refl _) u af ba;⟨v,w,λo _ _=>y o⟩) k
def agu{ai:α->ac ag}(q:α){bG:f6}(ba:l[J]? =some q)(u:a6 (dZ ay a7) x=some (.gb z α ai l))(k:dy aq K xs bf ((d,.ip<|ai q)::a7) aX b0 own aB ((d,.ip<|ai q)::e))(af:a6 (dZ ay a7) i=some (.i bG (J:Int)):=by rfl)(aA:back<aX:=by decide):dy aq K ((⟨some d,.h3 z x i,none⟩,.read back ay)::xs) bf a7 aX b0 own aB e:=
 k2 aA (λH B st A h _ _=>let⟨v,w,y⟩:=FW h (λ_=>.BD) u af ba;⟨v,w,λo _ _=>y o⟩) k
def B2{ai:α->ac ag}(q:α){bG:f6}(ba:l[J]? =some q)(u:a6 (dZ ay a7) x=some (.c6 z α ai l))(k:dy aq K xs bf ((d,.ip<|ai q)::a7) aX b0 own aB ((d,.ip<|ai q)::e))(af:a6 (dZ ay a7) i=some (.i bG (J:Int)):=by rfl)(aA:back<aX:=by decide):dy aq K ((⟨some d,.h3 z x i,none⟩,.read back ay)::xs) bf a7 aX b0 own aB e:=
 k2 aA (λH B st A h _ _=>let⟨v,w,y⟩:=FW h .kW u af ba;⟨v,w,λo _ _=>y o⟩) k
def cK{a9 n c:Nat}{bG:f6}(u:a6 (dZ ay a7) x=some (.aK a9 z 0 n c))(af:a6 (dZ ay a7) i=some (.i bG (J:Int)))(k:dy aq K xs bf ((d,.fk a9 z J 0)::a7) aX b0 own aB ((d,.fk a9 z J 0)::e))(ba:J<n:=by omega)(aA:back<aX:=by decide):dy aq K ((⟨some d,.h3 z x i,none⟩,.read back ay)::xs) bf a7 aX b0 own aB e:=FA k u af ba aA
variable{c:bd}
variable{P:Prop}{bV:Decidable P}
def dd(t:Nat)(k:eQ aq K c own aB ((t,.b true)::e))(aD:dp e t=some (.b<|decide P):=by rfl)(h:P:=by omega)(aS:c.m3=false:=by rfl):eQ aq K c own aB e:=v1 t h k aD aS
def c2(t:Nat)(k:eQ aq K c own aB ((t,.b false)::e))(aD:dp e t=some (.b<|decide P):=by rfl)(h:¬P:=by omega)(aS:c.m3=false:=by rfl):eQ aq K c own aB e:=v0 t h k aD aS
def cg(t:Nat){a b:ag}(j:a=b)(k:eQ aq K c own aB ((t,b)::e))(h:dp e t=some a:=by rfl)(aS:c.m3=false:=by rfl):eQ aq K c own aB e:=aP t b h j k aS
variable{s:cl}
variable{p:Nat}
def dv{L:Type _}{P:L->Prop}{T:L->cl}(f:ac Nat)(l:L)(u:P l)(h:Sub p f s (T l):=by first|exact g1|exact g1 (aL:=by repeat first|exact aC|refine⟨j,?_⟩|refine⟨nQ,?_⟩|refine⟨rL,?_⟩)):b5.ok aq ⟨.b1 (ly p P T)::K,.x .norm,s⟩:=bW f l u h
def h4{L:Type _}{P:L->Prop}{u:L->Nat}{m:Nat}{T:L->cl}(f:ac Nat)(l:L)(D:P l)(hm:u l<m:=by first|omega|(dsimp only;omega))(h:Sub p f s (T l):=by first|exact g1|exact g1 (aL:=by repeat first|exact aC|refine⟨j,?_⟩|refine⟨nQ,?_⟩|refine⟨rL,?_⟩)):b5.ok aq ⟨.b1 (ly p (λbp=>u bp<m/\P bp) T)::K,.x .norm,s⟩:=bW f l ⟨hm,D⟩ h
def eA{L:Type _}{b:dk}(P:L->Prop)(T:L->cl)(u:L->Nat)(f0:ac Nat)(D:L)(E:P D)
 (h:∀l,P l->b5.ok aq ⟨.b1 (ly aq.i0.length (λbp=>u bp<u l/\P bp) T)::K,.c b,T l⟩) (hm:u D<aq.bb:=by(show _<bx+1;unfold bx;first|omega|(dsimp only;omega))) (bX:Sub aq.i0.length f0 s (T D):=by first|exact g1|exact g1 (aL:=by repeat first|exact aC|refine⟨j,?_⟩|refine⟨nQ,?_⟩|refine⟨rL,?_⟩)):b5.ok aq ⟨K,.c<|.loop b,s⟩:=eu P T u f0 D E hm bX h
end
def Lp(_:Nat):Type:=Unit
@[match_pattern] abbrev ag.aa (n:Int):ag:=.i .i64 n
variable{P Q:Prop}
def Sn{aq:eX}{d:Nat}(_:Lp d){g j:b5}(h:KN d g=some j)(k:j.ok aq):g.ok aq:=aeM d h k
def st(k:Q)(h:Q->P:=by intro k;(repeat refine fz j ?_);exact k):P:=h k
def e4(d:Nat)(k:Q)(h:Lp d->Q->P:=by intro a k;(repeat refine Sn a j ?_);exact k):P:=h () k
def bB{own os:ac a4}{n p aM:Nat}{f:ac Nat}{e u:bU}(aF:rY f own f os:=by repeat first|exact aC|refine⟨gj,?_⟩|refine⟨jN,?_⟩|refine⟨⟨_,j,λ_=>j⟩,?_⟩|refine⟨⟨_,j,aC⟩,?_⟩)(aL:pE f u e:=by repeat first|exact aC|refine⟨j,?_⟩|refine⟨nQ,?_⟩|refine⟨rL,?_⟩)(hp:pinned p f 0=true:=by rfl)(bV:f.Nodup:=by decide)(aD:aM=f.length:=by rfl):Sub p f ⟨own,n,e⟩ ⟨os,aM,u⟩:=⟨bV,aD,aF,aL,hp⟩
section
variable{aq:eX}{K:ac dH}{own bf:ac a4}{aB aX b0:Nat}{e a7:bU}{c:bd}{l:ac (bm×cr)}{a b:Nat}
def wY(t:Nat)(bG:f6)(h:a=b)(k:eQ aq K c own aB ((t,.i bG (b:Int))::e))(aD:dp e t=some (.i bG (a:Int)):=by rfl)(aS:c.m3=false:=by rfl):eQ aq K c own aB e:=aP t (.i bG (b:Int)) aD (by rw[h]) k aS
def wn(t:Nat)(bG:f6)(h:a=b)(k:dy aq K l bf ((t,.i bG (b:Int))::a7) aX b0 own aB ((t,.i bG (b:Int))::e))(aD:dp e t=some (.i bG (a:Int)):=by rfl)(bX:dp a7 t=some (.i bG (a:Int)):=by rfl):dy aq K l bf a7 aX b0 own aB e:=dD t (.i bG (b:Int)) aD bX (by rw[h]) k
end
def bd.wq:bd->be Tmp
 |.c (.cond (.tmp t) _ _)=>some t
 |.U (⟨_,_,some (t,_)⟩::_)=>some t
 |.d ((⟨_,_,some (t,_)⟩,_)::_) _ _ _ _=>some t
 |_=>none
section
variable{aq:eX}{K:ac dH}{own bf:ac a4}{aB aX b0 back:Nat}{e a7:bU}{c:bd}{d t:Tmp}{xs:ac bm}{aQ:ac (bm×cr)}{x i:ce}{ay:ac Tmp}{P:Prop}{bV:Decidable P}{z J:Nat}{α:Type}{ai:α->ac ag}{l:ac α}{bG:f6}
variable{q:Nat}{el:co}{aU:Bool}
def So(j:c.wq=some t)(aD:dp e t=some (.b<|decide P))(h:P)(k:b5.ok aq ⟨K,c,⟨own,aB,(t,.b true)::e⟩⟩):b5.ok aq ⟨K,c,⟨own,aB,e⟩⟩:=v1 t h k aD<|by cases c<;>first|rfl|cases j
def aH(j:c.wq=some t)(aD:dp e t=some (.b<|decide P))(h:¬P)(k:b5.ok aq ⟨K,c,⟨own,aB,(t,.b false)::e⟩⟩):b5.ok aq ⟨K,c,⟨own,aB,e⟩⟩:=v0 t h k aD<|by cases c<;>first|rfl|cases j
def Sp(u:a6 e x=some (.cU z α ai l))(af:a6 e i=some (.i bG (J:Int)))(ba:J<l.length)(k:b5.ok aq ⟨K,.U xs,⟨own,aB,(d,.ip<|ai l[J])::e⟩⟩):b5.ok aq ⟨K,.U<|⟨some d,.h3 z x i,none⟩::xs,⟨own,aB,e⟩⟩:=fc l[J] (a0 ba) u k af
def Sq(u:a6 (dZ ay a7) x=some (.cU z α ai l))(af:a6 (dZ ay a7) i=some (.i bG (J:Int)))(ba:J<l.length)(k:b5.ok aq ⟨K,.d aQ bf ((d,.ip<|ai l[J])::a7) aX b0,⟨own,aB,(d,.ip<|ai l[J])::e⟩⟩)(aA:back<aX:=by decide):b5.ok aq ⟨K,.d ((⟨some d,.h3 z x i,none⟩,.read back ay)::aQ) bf a7 aX b0,⟨own,aB,e⟩⟩:=ks l[J] (a0 ba) u k af aA
def Sr{a9:Nat}{a:ag}(u:a6 e x=some (.fk a9 z J q))(ax:own[a9]? =some (.a el aU z α ai l))(ba:J<l.length)(cz:(ai l[J])[q]? =some a)(k:b5.ok aq ⟨K,.U xs,⟨own,aB,(d,a)::e⟩⟩):b5.ok aq ⟨K,.U<|⟨some d,.h2 x,none⟩::xs,⟨own,aB,e⟩⟩:=nP l[J] (a0 ba) k u ax cz
def Ss{a9 m:Nat}{cs:ac ag}(u:a6 (dZ ay a7) x=some (.fk a9 z J q))(ax:bf[a9]? =some (.a el aU z α ai l))(ba:J<l.length)(cz:qB (ai l[J]) q m (λl=>some l)=some cs)(k:b5.ok aq ⟨K,.d aQ bf ((d,.agg cs)::a7) aX b0,⟨own,aB,(d,.agg cs)::e⟩⟩)(aA:back<aX:=by decide):b5.ok aq ⟨K,.d ((⟨some d,.mi m x,none⟩,.read back ay)::aQ) bf a7 aX b0,⟨own,aB,e⟩⟩:=en l[J] (a0 ba) k u ax cz aA
structure St(Q:Prop):Prop where
 k:Q
theorem Jn(k:Q)(h:St Q->P:=by
 intro k
 repeat first
  |refine fz j ?_
  |refine So j j (by first|assumption|omega) ?_
  |refine aH j j (by first|assumption|omega) ?_
  |refine Sp j j (by first|assumption|omega) ?_
  |refine Sq j j (by first|assumption|omega) ?_
  |refine k4 j j ?_
  |refine cK j j ?_
  |refine mG ?_
  |refine Sr j j (by first|assumption|omega|(simp;omega)) j ?_
  |refine Ss j j (by first|assumption|omega|(simp;omega)) j ?_
 exact k.k):P:=h ⟨k⟩
theorem arP(d:Nat)(k:Q)(h:Lp d->St Q->P:=by
 intro a k
 repeat first
  |refine Sn a j ?_
  |refine So j j (by first|assumption|omega) ?_
  |refine aH j j (by first|assumption|omega) ?_
  |refine Sp j j (by first|assumption|omega) ?_
  |refine Sq j j (by first|assumption|omega) ?_
  |refine k4 j j ?_
  |refine cK j j ?_
  |refine mG ?_
  |refine Sr j j (by first|assumption|omega|(simp;omega)) j ?_
  |refine Ss j j (by first|assumption|omega|(simp;omega)) j ?_
 exact k.k):P:=h () ⟨k⟩
end
