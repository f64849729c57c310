/- Rules for what a function computes on abstract states (part 3); no condition. -/
import Derived.Test.YtkhecbikkdcfoaaGreatDoorS2
import Derived.Test.YtkhecbikkdcfoaaGreatDoorS1
noncomputable section
set_option linter.all false
namespace Go.bI
open Sym
variable{X:Ctx}
variable{H:bm}{cH:ac fK}{call:bR}{f:d8}{a7:c7}{es:ac f6}{a:ai}
def Gn{res:ac gU}{x:c6}{I:aO}{st:ao}(h:x= .norm\/x= .ret):w6 call res (.out x I st)=fS call res none I st:=by
 rcases h with rfl|rfl<;>rfl
def SW{n:Nat}{ab:ac bv}{st:ao}{as:ac ai}(aI:ab.length<=a7.aR)(cd:cT H as [] ab)(U:Fit H [] st [] 0)
 (h:jg ⟨call,n,f,H,[],st,Lw cH st.ag a7.res⟩ a7.body ⟨[],0,iJ 0 as⟩):nU call n f a7 ab st≠[]/\∀q∈nU call n f a7 ab st,∃v ca r es clock y,q= .ret v ca false/\Out st H cH v ca r es clock y:=by
 have e:nU call n f a7 ab st=(eg call n f a7.body (en ab) st).map (w6 call a7.res):=by
  rw[nU,l0,fi,aA aI];rfl
 rw[e];refine⟨λh=>Lv a7.body (en ab) st<|wj.1 h,λq aD=>?_⟩;obtain⟨r,aw,rfl⟩:=db.1 aD;obtain⟨x,I,ca,rfl,y,u,s,O,F,D,w,k,B,W,J,E,V,hp⟩:=h H [] st (en ab) apk U (cY.zero cd) r aw;obtain⟨v,Z,C⟩:=rK F D B;obtain⟨b,aa,rfl⟩:=Z;have⟨⟨es,clock,ay,hm⟩,_⟩:=F.own k _ b E aa;refine⟨_,ca,b,es,clock,y,by rw[Gn w,C],o,?_,ay,(hm.SO V).perm hp,F.le,O.hle,λc ah=>O.dZ c ah az,O.ag⟩;obtain h|h:=O.new b<|fQ aa
 .simp at h
 .exact h
def afR{ms:ac (bv×ai)}(h:nq H cH ms){p:bv×ai}(hp:p∈ms):∃e∈cH,e.key=p.1/\Co H e p.2:=by
 induction cH generalizing ms with
 |nil=>
  cases ms with
  |nil=>cases hp
  |cons=>exact h.elim
 |cons e cH U=>
  cases ms with
  |nil=>exact h.elim
  |cons q ms=>
   obtain rfl|hp:=fg.1 hp
   .exact⟨e,gT,h.1,h.2.1⟩
   .have⟨o,Y,G⟩:=U h.2.2 hp;exact⟨o,e3 _ Y,G⟩
theorem afS{st:ao}(aM:∀b,st.ag<=b->st.h.get b=none){M:bm}{aL:ac fK}{v:bv}{ca:ao}{r e5:Nat}{G:ac f6}{clock aQ:Nat}{y aO:bm}(h:Out st H cH v ca r es clock y)(aK:Out st M aL v ca e5 G aQ aO)
 (F:∀b R,H b=some R->b<st.ag) (bq:∀b R,M b=some R->st.h.get b=some R) {ms az:ac (bv×ai)} (a5:nq H cH ms) (av:nq M aL az):
 ∃Z,Fit Z [] (vG cH st) [] 0/\cZ M [] st Z [] (vG cH st)/\den Z (.g<|fU az) [] (Ly cH st):=by
 have I:∀b R,M b=some R->b<st.ag:=λb R e=>by
  grind
 have bj:=SN cH st 0;have aZ:(vG cH st).ag=(fB cH st 0).2.ag+1:=rfl;have Y:∀b,b<st.ag->(vG cH st).h.get b=st.h.get b:=λb aa=>by rw[Lz J,Gm cH st 0 aa]
 obtain⟨Z,aI⟩:∃Z:bm,∀b,Z b=if b<st.ag then M b else(vG cH st).h.get b:=⟨_,λ_=>o⟩;have hle:cL M Z:=λb R e=>by rwa [aI,aA<|I b R e]
 cases h.val.symm.trans aK.val;cases h.obj.symm.trans aK.obj;have aP:(az.map (·.1)).Nodup:=by
  have:=aK.md.c2;rw[qW]at this;rw[<-av.keys];exact this
 have V:=Lt cH st 0;have a9:(cH.map fK.key).Nodup:=by
  have:=h.md.c2
  rwa [qW]at this
 refine⟨Z,⟨λb aa=>?_,λb R e=>?_,o,o,pk,λb aa=>by simp at aa,λk R b E=>by simp at E⟩,⟨hle,λb aa _=>by rw[aI,aA aa],λb aa _=>Y b aa,J,ck.refl _,λb aa=>.inl aa⟩,?_⟩
 .rw[aZ]at aa;rw[Lz J];exact Lx cH st 0 aM b J
 .grind
 .refine⟨(fB cH st 0).2.ag,(fB cH st 0).1,cH.length,o,?_,⟨λe aH=>?_,?_,?_,aP,λe aH=>?_,λp hp=>?_,?_⟩⟩
  .rw[aI,au J];exact ar.nO _ _ _
  .obtain⟨j,ad,rfl⟩:=mo aH;have:=(rP cH st 0 j ad J).2;omega
  .rw[lA]
   grind [rP]
  .rw[lA];intro i j af ad a3 e;rw[(rP cH st 0 i af J).1,(rP cH st 0 j ad J).1]at e;have E:=pj.1 a9;rw[lA]at E;exact E i j J J a3 e
  .obtain⟨j,ad,rfl⟩:=mo aH;have ay:j<cH.length:=by omega
   have aJ:(cH[j].key,cH[j].km st.ag)∈cH.map λe=>(e.key,e.km st.ag):=db.2 ⟨_,eO ay,o⟩;obtain⟨x,O,ah⟩:=h.md.to _ aJ;have ah:x.key=cH[j].key:=ah;obtain⟨a,D,ae⟩:=h.md.jw x O;rw[ah]at D;have:=Lq h.md.c2 D aJ;subst this;obtain⟨ew,b',aq⟩:=aK.md.jw x O;obtain⟨a',aE,aw⟩:=db.1 b';have N:a'.key=x.key:=congrArg Prod.fst aw;have aY:a'.km st.ag=ew:=congrArg Prod.snd aw;subst aY;obtain⟨p,hp,a0,bo,bb,G,aN,aD,w⟩:=av.get aE;obtain⟨bg,W,bf,bn,ba,bh,bd,aB,B⟩:=a5.get<|eO ay;refine⟨p.2,?_,?_⟩
   .rw[((rP cH st 0 j ad ay).1),<-ah,<-N,a0];exact hp
   .rw[aN];cases aj:cH[j]with
    |lit k u=>
     rw[aj]at B ae;rw[SS cH st 0 j ad ay aj];cases a' with
     |lit aG a2=>
      rw[<-ae,aq];exact iU hle _ aoN w
     |num aG a6 aR aT=>
      obtain⟨rfl,rfl,rfl⟩:=w;rw[ae]at aq;exact(SP F aB aD B<|Cp aq).elim
    |num k t C es=>
     rw[aj]at B ae;obtain⟨rfl,rfl,rfl⟩:=B;cases a' with
     |lit aG a2=>
      rw[<-aq]at w;exact(SP I aD aB w<|Cp ae).elim
     |num aG a6 aR aT=>
      obtain⟨rfl,rfl,rfl⟩:=w;have aU:∀b R,lP st.ag y b=some R->ca.h.get b=some R:=λb R e=>h.le b R (mK.1 e).2;obtain⟨rfl,rfl,rfl⟩:=afN aU (λb R e=>aK.le b R (mK.1 e).2) aB aD (Cp ae)<|Cp aq
      grind [SR,fB,Lx,Lz]
  .obtain⟨a',aE,N,_⟩:=afR av hp;obtain⟨x,O,ah⟩:=aK.md.to _<|db.2 ⟨a',aE,o⟩;obtain⟨a,D,_⟩:=h.md.jw x O;obtain⟨U,aj,aw⟩:=db.1 D;have a1:U.key=x.key:=congrArg Prod.fst aw;obtain⟨j,ad,rfl⟩:=mo aj;exact aqn aqn
  .have U:=h.md.len;have a':=aK.md.len;rw[hV]at U a';rw[<-av.len];omega
theorem afT{aV:ar c7}(J:Good X)(ad:l8 X aV)(bp:d8->dT)(O:aV.get f=some a7){S:da}(ms:S.L->ac (bv×ai))(E:∀l,S.res l= .g (fU<|ms l))(aI:∀l,(S.args l).length<=a7.aR)(jx:∀l,S.pre l->∀p∈ms l,∃cn:fR,cn.ok p.1=true)
 (h:∀l,S.pre l->∀H ax ab,S.hp H->Fit H [] ax [] 0->cT H (S.args l) [] ab->∃(as:ac ai) (cH:ac fK),cT H as [] ab/\nq H cH (ms l)/\jg ⟨cf aV (cm X bp)<|bz+1,bz+1,f,H,[],ax,Lw cH ax.ag a7.res⟩ a7.body ⟨[],0,iJ 0 as⟩):eb X f S.spec:=by
 rintro ab st ⟨⟨l,H⟩,hp,aE,U,cd⟩;have⟨as,cH,ae,aa,aH⟩:=h l hp H st ab aE U cd;have Y:ab.length<=a7.aR:=by rw[gr cd];exact aI l
 have⟨az,I⟩:=SW Y ae U aH;refine⟨Ly cH st,vG cH st,?_,?_⟩
 .rintro⟨aB,M⟩ ⟨u,al,F,N⟩;have⟨aP,aN,ay,ah,aj⟩:=h aB u M st ab al F N;have⟨_,aq⟩:=SW Y ay F aj;have⟨q,aD⟩:=DK _ az;obtain⟨v,W,r,es,clock,y,rfl,g3⟩:=I q aD;have⟨v2,aY,e5,G,aO,aM,e,eX⟩:=aq _ aD;cases e;have⟨Z,V,B,bj⟩:=afS U.wf g3 eX (λb R e=>U.aT e) F.le aa ah;exact⟨Z,V,B,by rwa [E]⟩
 .have⟨Fn,c,ok⟩:=ad f a7 O;have⟨aG,C⟩:=w3 J ad (BX bp)<|bz+1;intro a0 aU w D hw;refine⟨ok.enters,λK bu aw=>?_⟩;have⟨q,aJ,aK⟩:=JK J C aG (λb aR bu _=>w1 C b aR bu) ok (bz+1) D hw aw (λr aw e=>by
   have⟨v,W,_,_,_,_,aA,_⟩:=I r aw;subst e;cases aA)
  obtain⟨v,W,r,es,clock,y,rfl,g3⟩:=I q aJ;refine g3.can hw U.le (λe a'=>?_) (λe a'=>?_) aK
  .have⟨p,_,_,h⟩:=aa.get a';exact⟨_,h⟩
  .have⟨p,aL,aZ,_⟩:=aa.get a'
   grind
def bX.LA{cp hD:Nat}(h:cp<=hD):bX (g4 hD a) (g4 cp a):=λ_ _ _ d=>iU (SC h) a aoN d
def afU(a b:ai):BZ:=⟨λH v=>den H a [] v/\den H b [] v,λh _ d=>⟨iU h a aoN d.1,iU h b aoN d.2⟩,rD b,λh _ _ d=>FL h d.2⟩
def xC(a b:ai):ai:=.g<|afU a b
def bX.LB{b:ai}:bX (xC a b) b:=λ_ _ _ d=>iU apv b (ck.nil _) d.2
def afV(l:ac Nat)(b:Nat):Ew (l++[b])=some b:=by
 induction l with
 |nil=>rfl
 |cons a l U=>
  cases l with
  |nil=>rfl
  |cons c l=>exact U
def find_born(h:es.Pairwise λa b=>a.born≠b.born){m:f6}(hm:m∈es):es.find? (λe=>Nat.beq e.born m.born)=some m:=by
 cases D:es.find? (λe=>Nat.beq e.born m.born)with
 |none=>
  have:=List.find?_eq_none.1 D m hm;exact absurd (kA _) this
 |some e=>
  have Y:=Aq D;rw[JI h (Ap D) hm<|dy Y]
section
variable{call:bR}{aX:bm}{s:cg}
def afW{G:ce}{k r clock:Nat}{seen:ac Nat}{m:f6}{y M:ai}(ru:bb s.env G=some (.p k 0))(aB:s.own[k]? =some (.g<|mJ r clock<|seen++[m.born]))(aw:aX r=some (.map es clock))(hm:m∈es)(aa:es.Pairwise λa b=>a.born≠b.born)(ah:m.born<clock)
 (aE:∀H,cL aX H->den H y [] m.key) (aK:∀H,cL aX H->den H M [] m.val) (O:h3 y=true) (E:h3 M=true):qw aX call (.ext<|.wy G) s (.br [y,M]) s.own s.n:=λH u st I v U D=>by
 have⟨b,W,Z⟩:=D.aq ru;have⟨N,_⟩:=U.own k _ b aB W;refine⟨.tuple #[m.key,m.val],st,u,H,?_,U,⟨_,o,_,_,o,tF _ O (aE H v) u,_,_,o,tF _ E (aK H v) u,o⟩,cL.refl _,ck.refl _,λ_ _ _ B=>B,ct _,λ_ _ _=>o⟩;show hN (I.aq G) (λp=>bx p (λa=>bx a.spot (λ_=>.no) (dL a.off 0 (A0 (st.h.get a.block) (λm _ seen w=>
  bx m (λid=>bx (Ew seen) (λs=>jH (st.h.get id) (λes clock=>dL clock w (eB (Nat.succ s) clock (bx (es.find? λe=>Nat.beq e.born s) (λe=>a2.ok (.tuple #[e.key,e.val]) I st) .no) .no) .no) .no) .no) .no) .no) .no)) .no) .no=_
 rw[Z,lL,Sym.et,N];show bx (Ew<|seen++[m.born]) (λs=>jH (st.h.get r) (λes c=>dL c clock (eB (Nat.succ s) c (bx (es.find? λe=>Nat.beq e.born s) (λe=>a2.ok (.tuple #[e.key,e.val]) I st) .no) .no) .no) .no) .no=_;rw[afV,(U.le _ _<|v _ _ aw)];show dL clock clock (eB (Nat.succ m.born) clock (bx (es.find? λe=>Nat.beq e.born m.born) (λe=>a2.ok (.tuple #[e.key,e.val]) I st) .no) .no) .no=_;rw[je o,h7 J,find_born aa hm];rfl
end
section
variable{an:e2}{K:ac dC}{own bk:ac a0}{aC:Nat}{e:bV}{xs:ac bt}{d:be Tmp}
variable{m:ce}{ms:ac (bv×ai)}{cn:fR}{k:ce}{rO:ai}{iK:bv}{r clock j:Nat}{am:ai}
def Cq(k:cE an K xs bk (aC+1) (ec d (.mp aC) e))(ay:ma own (.g<|h8 []) some=some bk:=by rfl):cE an K (⟨d,.p6,none⟩::xs) own aC e:=by
 have:=mE ay;cases this;exact xm afF k
def xD(aw:an.aX r=some (.map es clock))(k:cE an K xs bk (aC+1) (ec d (.p aC 0) e))(hm:bb e m=some (.v<|.map<|some r):=by rfl)(ay:ma own (.g<|mJ r clock []) some=some bk:=by rfl):cE an K (⟨d,.ext<|.uW m,none⟩::xs) own aC e:=by
 have:=mE ay;cases this;exact tL (afJ hm aw) k
def xE{G:ce}{a5:Nat}{seen:ac Nat}{m:f6}(y M:ai)(aw:an.aX r=some (.map es clock))(hm:m∈es)(aa:es.Pairwise λa b=>a.born≠b.born)(ah:m.born<clock)(aE:∀H,cL an.aX H->den H y [] m.key)(aK:∀H,cL an.aX H->den H M [] m.val)
 (k:cE an K xs own aC (ec d (.br [y,M]) e)) (ru:bb e G=some (.p a5 0):=by rfl) (aB:own[a5]? =some (.g<|mJ r clock<|seen++[m.born]):=by rfl) (O:h3 y=true:=by rfl) (o:h3 M=true:=by rfl):cE an K (⟨d,.ext<|.wy G,none⟩::xs) own aC e:=
 tL (afW ru aB aw hm aa ah aE aK O o) k
def SX{v:ce}(o:ac (bv×ai))(E:xA ms iK a o)(M:vD rO iK)(J:∀p∈ms,cn.ok p.1=true)(bE:cE an K xs bk aC (ec d (.br []) e))(hm:bb e m=some (.mp j):=by rfl)(a3:own[j]? =some (.g<|h8 ms):=by rfl)
 (aB:bb e k=some rO:=by rfl) (Z:bb e v=some a:=by rfl) (fO:h3 a=true:=by rfl) (jx:cn.ok iK=true:=by rfl) (ay:gN own j (.g<|h8 o) some=some bk:=by rfl):cE an K (⟨d,.ext<|.fl cn m k v,none⟩::xs) own aC e:=by
 have:=hR ay;cases this;exact xm (SL hm a3 aB M Z fO jx J E) bE
def afX(o:ac (bv×ai))(E:Lr ms iK o)(M:vD rO iK)(J:∀p∈ms,cn.ok p.1=true)(bE:cE an K xs bk aC (ec d (.br []) e))(hm:bb e m=some (.mp j):=by rfl)(a3:own[j]? =some (.g<|h8 ms):=by rfl)
 (aB:bb e k=some rO:=by rfl) (jx:cn.ok iK=true:=by rfl) (ay:gN own j (.g<|h8 o) some=some bk:=by rfl):cE an K (⟨d,.ext<|.del cn m k,none⟩::xs) own aC e:=by
 have:=hR ay;cases this;exact xm (afI hm a3 aB M jx J E) bE
def SY(N:vC an.aX own am ms)(k:cE an K xs own aC (ec d (.i .i64 (ms.length:Nat)) e))(hm:bb e m=some am:=by rfl):cE an K (⟨d,.ext<|.wx m,none⟩::xs) own aC e:=tL (afH hm N) k
def LC{z:bv}{ok:Bool}{d:Tmp}{aF:ac Tmp}{back:Nat}{l:ac (bt×cz)}{bl:ac a0}{bc:bV}{a4 b3:Nat}(r:ai)(N:vC (λ_=>none) bl am ms)(M:vD rO iK)(J:∀p∈ms,cn.ok p.1=true)
 (aw:match iV ms iK with|some a=>r=a|none=>∀H u,den H r u z) (bE:dB an K l bl ((d,cond ok (.br [r,.b (iV ms iK).isSome]) r)::bc) a4 b3 own aC ((d,cond ok (.br [r,.b (iV ms iK).isSome]) r)::e)) (aa:back<a4:=by first|decide|omega)
 (hm:bb (eF aF bc) m=some am:=by rfl) (aB:bb (eF aF bc) k=some rO:=by rfl) (fO:h3 r=true:=by rfl) (jx:cn.ok iK=true:=by rfl):dB an K ((⟨some d,.ext<|.look cn z ok m k,none⟩,.read back aF)::l) bl bc a4 b3 own aC e:=
 mF aa (λH u st I D _ ay=>by
  have⟨id,es,clock,Z,cd,F⟩:=N H u st _ (λ_ _ h=>by cases h) ay<|D.aq hm;obtain⟨v,Y,G⟩:=afG Z (M _ _ _<|D.aq aB) cd jx J r aw fO u;exact⟨v,Y,λo V B=>G o<|F o V B⟩) bE
end
section
variable{aV:ar c7}{bp:d8->dT}{a8 n:Nat}{fn:d8}{aX:bm}{i0:ac Nat}{ax:ao}{Q:c6->cg->Prop}{K:ac dC}{own bk:ac a0}{aC:Nat}{e:bV}{g:d8}{S:gh}{ag:S.L->Nat}
variable{bJ:ac ce}{as:ac ai}{R cq:a0}
theorem afY(ah:eb X g (S.jT ag)){d:be Tmp}{xs:ac bt}(a5:Nat)(l:S.L)(hp:S.pre l)(aj:ag l<=ax.ag)
 (k:cE (gf X aV bp n a8 fn aX i0 ax Q) K xs bk aC (ec d (jQ [a5]<|S.res l) e)) (ay:S.own l=[R]:=by rfl) (N:S.bk l=[cq]:=by rfl)
 (aB:∃g3,own[a5]? =some g3/\lg [a5] R g3:=by exact fJ) (M:gN own a5 cq some=some bk:=by rfl) (aa:n3 [a5] cq cq:=by exact o)
 (bK:gM e bJ=some as:=by rfl) (he:as=kM [a5] (S.args l):=by rfl) (J:bp g=(S.jT ag).K:=by rfl) (cl:S.hp aX:=by first|exact aP|assumption):
 cE (gf X aV bp n a8 fn aX i0 ax Q) K (⟨d,.call (.func g) bJ,none⟩::xs) own aC e:=λH u st I O U D=>by
 obtain⟨v,al,F,Z,W,cW,w,C,y,E,_⟩:=K4 ah [a5] l (λ_ _ _ st h p=>⟨p,cN aj h⟩) hp cl apO (by rw[N];exact K3 M aa) bK he J O U D;exact oM W<|k Z F al _ E cW<|(D.mono C y).ec d w
theorem zk(ah:eb X g (S.jT ag)){d:Tmp}{xs:ac (bt×cz)}{bl:ac a0}{bc:bV}{a4 b3:Nat}(a5:Nat)(l:S.L)(hp:S.pre l)(aj:ag l<=ax.ag)
 (k:dB (gf X aV bp n a8 fn aX i0 ax Q) K xs (bl.map λ_=>.x) (jt d bc) (a4+1) aC bk aC ((d,jQ [a5]<|S.res l)::e)) (ay:S.own l=[R]:=by rfl) (N:S.bk l=[cq]:=by rfl)
 (aB:∃g3,own[a5]? =some g3/\lg [a5] R g3:=by exact fJ) (M:gN own a5 cq some=some bk:=by rfl) (aa:n3 [a5] cq cq:=by exact o)
 (bK:gM e bJ=some as:=by rfl) (he:as=kM [a5] (S.args l):=by rfl) (J:bp g=(S.jT ag).K:=by rfl) (cl:S.hp aX:=by first|exact aP|assumption):
 dB (gf X aV bp n a8 fn aX i0 ax Q) K ((⟨some d,.call (.func g) bJ,none⟩,.dJ)::xs) bl bc a4 b3 own aC e:=
 Gd (λH u st I O U D=>K4 ah [a5] l (λ_ _ _ st h p=>⟨p,cN aj h⟩) hp cl apO (by rw[N];exact K3 M aa) bK he J O U D) k
end
def LD(S:PP)(l:S.L)(ab:ac bv)(i:Nat)(H:bm)(res:ac gU)(x:c6)(s:cg):Prop:=
 ((x= .norm\/x= .ret)/\∃u a,ab[i]? =some u/\Fin.kO s res=some (.v u)/\S.out l= .ret a/\den H a [] u)\/∃v,x= .aY v/\S.out l= .aY v
def SZ(S:PP)(l:S.L)(ab:ac bv)(i:Nat)(H:bm)(st:ao)(q:ev):Prop:=
 ∃W,(∀b,b<st.ag->W.h.get b=st.h.get b)/\((∃u a,ab[i]? =some u/\q= .ret u W false/\S.out l= .ret a/\den H a [] u)\/∃v,q= .aY v W false/\S.out l= .aY v)
theorem S0{n:Nat}{ab:ac bv}{st:ao}{S:PP}{l:S.L}{i:Nat}{bJ:ac ai}(aI:ab.length<=a7.aR)(cd:cT H bJ [] ab)(U:Fit H [] st [] 0)
 (h:jg ⟨call,n,f,H,[],st,LD S l ab i H a7.res⟩ a7.body ⟨[],0,iJ 0 bJ⟩):nU call n f a7 ab st≠[]/\∀q∈nU call n f a7 ab st,SZ S l ab i H st q:=by
 have e:nU call n f a7 ab st=(eg call n f a7.body (en ab) st).map (w6 call a7.res):=by
  rw[nU,l0,fi,aA aI];rfl
 rw[e];refine⟨λh=>Lv a7.body (en ab) st<|wj.1 h,λq aD=>?_⟩;obtain⟨r,aw,rfl⟩:=db.1 aD;obtain⟨x,I,W,rfl,y,E,s,o,F,D,O⟩:=h H [] st (en ab) apk U (cY.zero cd) r aw;refine⟨W,λc ah=>o.dZ c ah az,?_⟩;obtain⟨O,u,a,Y,B,G,C⟩|⟨v,rfl,G⟩:=O
 .obtain⟨v,Z,w⟩:=rK F D B;subst Z;exact .inl ⟨v,a,Y,by rw[Gn O,w],G,C⟩
 .exact .inr ⟨v,Gf D.pl,G⟩
def ei.self{ad cP:bN}{w aG:d9}(h:ei ad cP w aG):ei ad ad w aG:=⟨bN.le.refl _,h.size,h.kept,λ_ _ q=>.inl q,h.fZ⟩
theorem afZ{aV:ar c7}(J:Good X)(aG:l8 X aV)(bp:d8->dT)(O:aV.get f=some a7){S:PP}(i:Nat)(aI:∀l,(S.args l).length<=a7.aR)(aP:∀l v,S.out l= .aY v->∀(ad cP:bN) (u:bv),bo cP v u->bo ad v u)
 (h:∀l,S.pre l->∀H ax ab,S.hp H->Fit H [] ax [] 0->cT H (S.args l) [] ab->∃bJ:ac ai,cT H bJ [] ab/\jg ⟨cf aV (cm X bp)<|bz+1,bz+1,f,H,[],ax,LD S l ab i H a7.res⟩ a7.body ⟨[],0,iJ 0 bJ⟩):l9 X f S.spec:=by
 rintro ab st ⟨⟨l,H⟩,hp,V,aB,cd⟩;have⟨bJ,aK,aZ⟩:=h l hp H st ab V aB cd;have Y:ab.length<=a7.aR:=by rw[gr cd];exact aI l
 have⟨aN,I⟩:=S0 Y aK aB aZ;have⟨gX,aJ⟩:=DK _ aN;have⟨Fn,c,ok⟩:=aG f a7 O;have⟨aU,aH⟩:=w3 J aG (BX bp)<|bz+1;have yC:=λ{ad:bN} {W:ac bv} {w:d9} (D:bO ad ab W) (hw:bZ X ad st w) {K:CallKind} {bu:Bool->ac Frame} (aw:jO ⟨f,K,none⟩ none ad bu)=>JK J aH aU (λb aR bu _=>w1 aH b aR bu) ok (bz+1) D hw aw (λr aw e=>by
  have⟨aE,_,h⟩:=I r aw;subst e;rcases h with⟨_,_,_,e,_⟩|⟨_,e,_⟩<;>cases e)
 have aD:∀Z M,S.spec.pre (Z,M) ab st->SZ S Z ab i M st gX:=λZ M ⟨a3,a1,a5,a2⟩=>by
  grind [S0]
 cases ay:S.out l with
 |ret a=>
  have⟨aE,aO,al⟩:=I gX aJ;obtain⟨u,aM,aa,e,_,_⟩|⟨v,_,G⟩:=al
  .refine .inl ⟨u,st,?_,?_⟩
   .rintro⟨Z,M⟩ E;obtain⟨ae,_,G⟩:=aD Z M E;rcases G with⟨aj,ew,o,a',C,aA⟩|⟨v,a',_⟩
    .rw[aa]at o;cases o;exact⟨ew,M,C,E.2.2.1,cZ.refl _ _ _,aA⟩
    .rw[e]at a';cases a'
   .intro ad W w D hw;refine⟨ok.enters,λK bu aw=>?_⟩;have⟨q,aq,U⟩:=yC D hw aw;have⟨ae,N,G⟩:=I q aq;obtain⟨aj,ew,o,rfl,_,_⟩|⟨v,_,G⟩:=G
    .rw[aa]at o;cases o;have⟨aL,y,az,F,ah,B,bj,dj,dp,fa,gC⟩:=U;have af:=(dG.1 aa).1;have V:=D.2 i af (by rwa [<-D.1]);rw[((dG.1 aa).2)]at V;exact⟨ad,y,az,F,ah.back bj.le V,bZ.back bj.le hw B N,bj.self,dj,dp,fa,gC⟩
    .rw[ay]at G;cases G
  .rw[ay]at G;cases G
 |aY v=>
  have⟨aE,aO,al⟩:=I gX aJ;obtain⟨u,aM,_,_,G,_⟩|⟨y,e,G⟩:=al
  .rw[ay]at G;cases G
  .rw[ay]at G;cases G;refine .inr ⟨v,st,?_,?_⟩
   .rintro⟨Z,M⟩ E;obtain⟨ae,_,G⟩:=aD Z M E;rcases G with⟨aj,ew,o,a',C,aA⟩|⟨a0,a',C⟩
    .rw[e]at a';cases a'
    .rw[e]at a';cases a';exact⟨M,C,E.2.2.1,cZ.refl _ _ _⟩
   .intro ad W w D hw;refine⟨ok.enters,λK bu aw=>?_⟩;have⟨q,aq,U⟩:=yC D hw aw;have⟨ae,N,G⟩:=I q aq;obtain⟨aj,ew,o,_,C,_⟩|⟨a0,rfl,G⟩:=G
    .rw[ay]at C;cases C
    .rw[ay]at G;cases G;have⟨aL,y,az,F,ah,B,bj,dj,dp,fa,gC⟩:=U;exact⟨ad,y,az,F,aP l v ay _ _ _ ah,bZ.back bj.le hw B N,bj.self,dj,dp,fa,gC⟩
end Go.bI
namespace Go.bI
section
variable{an:e2}{K:ac dC}{own bk:ac a0}{aC:Nat}{e:bV}{xs:ac bt}
def af0(t i:Nat){k:Nat}{cs dP:ac ai}{ms:ac (bv×ai)}(bE:cE an K xs bk aC ((t,.agg dP)::e))(aN:dx e t=some (.agg cs):=by rfl)(af:cs[i]? =some (.mp k):=by rfl)(Y:dP=cs.set i (.g<|fU ms):=by rfl)(aB:own[k]? =some (.g<|h8 ms):=by rfl)(ay:gN own k .x some=some bk:=by rfl):cE an K xs own aC e:=by
 subst Y;cases hR ay;intro H u st I O U D;have⟨C,F,xb⟩:=D.get t _ aN;have⟨w,v,b,V,B⟩:=tG xb af;have⟨⟨es,clock,bj,d⟩,_⟩:=U.own k _ b aB V;have hle:=rJ U aB o V;refine bE (fs H st b) u st I (O.fs U aB o V) (U.fs aB o V) ⟨(D.mono hle aoN).pl,λj q y=>?_⟩;rw[mD]at y;cases E:Nat.beq t j with
 |false=>rw[E]at y;exact(D.mono hle aoN).get j q y
 |true=>
  rw[E]at y;cases y;rw[<-dy E];refine⟨C,F,?_⟩;have hm:den (fs H st b) (.g<|fU ms) u w:=⟨b,es,clock,B,by rw[fs];rw[aA o];exact bj,d.mono hle⟩;have M:=Rf i (lM hle cs aoN xb) hm;have Z:C.set i w=C:=by
   apply pf;intro j;rw[mq];split
   .rename_i h;subst h;split
    .exact v.symm
    .rename_i h;rw[td J]
   .rfl
  rwa [Z]at M
end
def S1(_:Nat):Type:=Unit
@[match_pattern] abbrev ai.ae (n:Int):ai:=.i .i64 n
variable{P Q:Prop}
def af1{an:e2}{d:Nat}(_:S1 d){g V:bP}(h:RW d g=some V)(k:V.ok an):g.ok an:=by
 unfold RW at h;split at h
 .split at h
  .cases h
  .exact gF h k
 .exact gF h k
def st(k:Q)(h:Q->P:=by intro k;(repeat refine gF o ?_);exact k):P:=h k
def bf(d:Nat)(k:Q)(h:S1 d->Q->P:=by intro a k;(repeat refine af1 a o ?_);exact k):P:=h () k
def cr{own os:ac a0}{n p aR:Nat}{f:ac Nat}{e U:bV}(aE:sS f own f os:=by repeat first|exact aP|refine⟨fJ,?_⟩|refine⟨jU,?_⟩|refine⟨⟨_,o,λ_=>o⟩,?_⟩|refine⟨⟨_,o,aP⟩,?_⟩)(aK:qz f U e:=by repeat first|exact aP|refine⟨o,?_⟩|refine⟨tO,?_⟩|refine⟨rv,?_⟩)(hp:pinned p f 0=true:=by rfl)(cd:f.Nodup:=by decide)(aI:aR=f.length:=by rfl):Sub p f ⟨own,n,e⟩ ⟨os,aR,U⟩:=⟨cd,aI,aE,aK,hp⟩
section
variable{an:e2}{K:ac dC}{own bl:ac a0}{aC a4 b3:Nat}{e bc:bV}{c:bu}{l:ac (bt×cz)}{a b:Nat}
def LF(t:Nat)(bE:f5)(h:a=b)(k:fz an K c own aC ((t,.i bE (b:Int))::e))(aI:dx e t=some (.i bE (a:Int)):=by rfl)(ah:c.nY=false:=by rfl):fz an K c own aC e:=a9 t (.i bE (b:Int)) aI asO k ah
def wn(t:Nat)(bE:f5)(h:a=b)(k:dB an K l bl ((t,.i bE (b:Int))::bc) a4 b3 own aC ((t,.i bE (b:Int))::e))(aI:dx e t=some (.i bE (a:Int)):=by rfl)(bS:dx bc t=some (.i bE (a:Int)):=by rfl):dB an K l bl bc a4 b3 own aC e:=ea t (.i bE (b:Int)) aI bS asO k
end
def Gp:Nat->bP->bP
 |0,g=>g
 |n+1,g=>match Ca g with
  |some V=>Gp n V
  |none=>g
theorem S2{an:e2}:∀{n:Nat} {g:bP},bP.ok an (Gp n g)->bP.ok an g
 |0,_,k=>k
 |n+1,g,k=>by
  rw[Gp]at k;split at k
  .rename_i h;exact gF h<|S2 k
  .exact k
def U(n:Nat){an:e2}{g:bP}(k:bP.ok an (Gp n g)):bP.ok an g:=S2 k
theorem S3{call:bR}{H:bm}{u:ac Nat}{I:aO}{e:bV}{x i:ce}{z j:Nat}{α:Type}{ak:α->ac ai}{l:ac α}{q:α}{bE:f5}{a:ai}(D:cY I H u e)(h:l≠[]->bX a (.bs z α ak l))(O:bb e x=some a)(af:bb e i=some (.i bE (j:Int)))(a3:l[j]? =some q):∃v,den H (.ip<|ak q) u v/\∀st,bD call (.jd z x i) I st= .ok v I st:=by
 have aT:=(dG.1 a3).1;rcases h (λe=>by rw[e]at aT;exact m6 _ aT) _ _ _ (D.aq O)with⟨W,_⟩|⟨b,R,c,y,el,w,aW,Y,G,N,J⟩
 .grind
 .refine⟨_,⟨b,R+j*z,y,el,w,aW,o,N,?_⟩,λst=>BY Y (D.aq af) aT⟩;have W:=gr<|J j q a3
  grind
section
variable{an:e2}{K:ac dC}{own:ac a0}{aC:Nat}{e:bV}{d:Tmp}{x i:ce}
variable{z j:Nat}{α:Type}{xs:ac bt}{l:ac α}
def LG{call:bR}{s:cg}{ak:α->ac ai}{q:α}{bE:f5}{a:ai}(h:l≠[]->bX a (.bs z α ak l))(O:bb s.env x=some a)(af:bb s.env i=some (.i bE (j:Int)))(a3:l[j]? =some q):fH call (.jd z x i) s (.ip<|ak q) s.own s.n:=ka λH u st I U D=>by
 obtain⟨v,Y,G⟩:=S3 D h O af a3;exact⟨v,Y,G st⟩
def iW{ak:α->ac ai}(q:α){bE:f5}(a3:l[j]? =some q)(O:bb e x=some (.bs z α ak l))(k:cE an K xs own aC ((d,.ip<|ak q)::e))(af:bb e i=some (.i bE (j:Int)):=by rfl):g2 an K d (.jd z x i) xs own aC e:=e6 (LG (λ_=>bX.refl _) O af a3) k
def af2{ak:α->ac ai}(q:α){bE:f5}(a3:l[j]? =some q)(O:bb e x=some (.gq z α ak l))(k:cE an K xs own aC ((d,.ip<|ak q)::e))(af:bb e i=some (.i bE (j:Int)):=by rfl):g2 an K d (.jd z x i) xs own aC e:=e6 (LG (λ_=>.FM) O af a3) k
def S4{ak:α->ac ai}(q:α){bE:f5}(a3:l[j]? =some q)(O:bb e x=some (.b8 z α ak l))(k:cE an K xs own aC ((d,.ip<|ak q)::e))(af:bb e i=some (.i bE (j:Int)):=by rfl):g2 an K d (.jd z x i) xs own aC e:=e6 (LG .iH O af a3) k
def n7{a5 n c:Nat}{bE:f5}(O:bb e x=some (.aL a5 z 0 n c))(af:bb e i=some (.i bE (j:Int)))(k:cE an K xs own aC ((d,.fb a5 z j 0)::e))(a3:j<n:=by omega):g2 an K d (.jd z x i) xs own aC e:=pF k O af a3
variable{bl:ac a0}{bc:bV}{a4 b3 back:Nat}{aF:ac Tmp}{xs:ac (bt×cz)}
def tW{ak:α->ac ai}(q:α){bE:f5}(a3:l[j]? =some q)(O:bb (eF aF bc) x=some (.bs z α ak l))(k:dB an K xs bl ((d,.ip<|ak q)::bc) a4 b3 own aC ((d,.ip<|ak q)::e))(af:bb (eF aF bc) i=some (.i bE (j:Int)):=by rfl)(aa:back<a4:=by decide):dB an K ((⟨some d,.jd z x i,none⟩,.read back aF)::xs) bl bc a4 b3 own aC e:=
 mF aa (λH u st I D _ _=>let⟨v,Y,G⟩:=S3 D (λ_=>bX.refl _) O af a3;⟨v,Y,λh _ _=>G h⟩) k
def c0{a5 n c:Nat}{bE:f5}(O:bb (eF aF bc) x=some (.aL a5 z 0 n c))(af:bb (eF aF bc) i=some (.i bE (j:Int)))(k:dB an K xs bl ((d,.fb a5 z j 0)::bc) a4 b3 own aC ((d,.fb a5 z j 0)::e))(a3:j<n:=by omega)(aa:back<a4:=by decide):dB an K ((⟨some d,.jd z x i,none⟩,.read back aF)::xs) bl bc a4 b3 own aC e:=mG k O af a3 aa
variable{c:bu}
variable{cd:Decidable P}
def eD(t:Nat)(k:fz an K c own aC ((t,.b true)::e))(aI:dx e t=some (.b<|decide P):=by rfl)(h:P:=by omega)(ah:c.nY=false:=by rfl):fz an K c own aC e:=v1 t h k aI ah
def ee(t:Nat)(k:fz an K c own aC ((t,.b false)::e))(aI:dx e t=some (.b<|decide P):=by rfl)(h:¬P:=by omega)(ah:c.nY=false:=by rfl):fz an K c own aC e:=v0 t h k aI ah
def c3(t:Nat){a b:ai}(F:a=b)(k:fz an K c own aC ((t,b)::e))(h:dx e t=some a:=by rfl)(ah:c.nY=false:=by rfl):fz an K c own aC e:=a9 t b h F k ah
variable{s:cg}
variable{p:Nat}
def fk{L:Type _}{P:L->Prop}{T:L->cg}(f:ac Nat)(l:L)(Y:P l)(h:Sub p f s (T l):=by first|exact cb|exact cb (aK:=by repeat first|exact aP|refine⟨o,?_⟩|refine⟨tO,?_⟩|refine⟨rv,?_⟩)):bP.ok an ⟨.b7 (kN p P T)::K,.x .norm,s⟩:=bL f l Y h
def pJ{L:Type _}{P:L->Prop}{cP:L->Nat}{m:Nat}{T:L->cg}(f:ac Nat)(l:L)(Y:P l)(hm:cP l<m:=by first|omega|(dsimp only;omega))(h:Sub p f s (T l):=by first|exact cb|exact cb (aK:=by repeat first|exact aP|refine⟨o,?_⟩|refine⟨tO,?_⟩|refine⟨rv,?_⟩)):bP.ok an ⟨.b7 (kN p (λbq=>cP bq<m/\P bq) T)::K,.x .norm,s⟩:=bL f l ⟨hm,Y⟩ h
def jh{L:Type _}{b:dz}(P:L->Prop)(T:L->cg)(cP:L->Nat)(f0:ac Nat)(E:L)(Y:P E)
 (h:∀l,P l->bP.ok an ⟨.b7 (kN an.i0.length (λbq=>cP bq<cP l/\P bq) T)::K,.c b,T l⟩) (hm:cP E<an.a8:=by(show _<bz+1;unfold bz;first|omega|(dsimp only;omega))) (bS:Sub an.i0.length f0 s (T E):=by first|exact cb|exact cb (aK:=by repeat first|exact aP|refine⟨o,?_⟩|refine⟨tO,?_⟩|refine⟨rv,?_⟩)):bP.ok an ⟨K,.c<|.loop b,s⟩:=dN P T cP f0 E Y hm bS h
end
def bu.xb:bu->be Tmp
 |.c (.cond (.tmp t) _ _)=>some t
 |.R (⟨_,_,some (t,_)⟩::_)=>some t
 |.d ((⟨_,_,some (t,_)⟩,_)::_) _ _ _ _=>some t
 |_=>none
section
variable{an:e2}{K:ac dC}{own bl:ac a0}{aC a4 b3 back:Nat}{e bc:bV}{c:bu}{d t:Tmp}{xs:ac bt}{aS:ac (bt×cz)}{x i:ce}{aF:ac Tmp}{P:Prop}{cd:Decidable P}{z j:Nat}{α:Type}{ak:α->ac ai}{l:ac α}{bE:f5}
variable{q:Nat}{el:d7}{aW:Bool}
def af3(F:c.xb=some t)(aI:dx e t=some (.b<|decide P))(h:P)(k:bP.ok an ⟨K,c,⟨own,aC,(t,.b true)::e⟩⟩):bP.ok an ⟨K,c,⟨own,aC,e⟩⟩:=v1 t h k aI<|by cases c<;>first|rfl|cases F
def af4(F:c.xb=some t)(aI:dx e t=some (.b<|decide P))(h:¬P)(k:bP.ok an ⟨K,c,⟨own,aC,(t,.b false)::e⟩⟩):bP.ok an ⟨K,c,⟨own,aC,e⟩⟩:=v0 t h k aI<|by cases c<;>first|rfl|cases F
def af5(O:bb e x=some (.bs z α ak l))(af:bb e i=some (.i bE (j:Int)))(a3:j<l.length)(k:bP.ok an ⟨K,.R xs,⟨own,aC,(d,.ip<|ak l[j])::e⟩⟩):bP.ok an ⟨K,.R<|⟨some d,.jd z x i,none⟩::xs,⟨own,aC,e⟩⟩:=iW l[j] (ba a3) O k af
def af6(O:bb (eF aF bc) x=some (.bs z α ak l))(af:bb (eF aF bc) i=some (.i bE (j:Int)))(a3:j<l.length)(k:bP.ok an ⟨K,.d aS bl ((d,.ip<|ak l[j])::bc) a4 b3,⟨own,aC,(d,.ip<|ak l[j])::e⟩⟩)(aa:back<a4:=by decide):bP.ok an ⟨K,.d ((⟨some d,.jd z x i,none⟩,.read back aF)::aS) bl bc a4 b3,⟨own,aC,e⟩⟩:=tW l[j] (ba a3) O k af aa
def af7{a5:Nat}{a:ai}(O:bb e x=some (.fb a5 z j q))(aB:own[a5]? =some (.a el aW z α ak l))(a3:j<l.length)(aD:(ak l[j])[q]? =some a)(k:bP.ok an ⟨K,.R xs,⟨own,aC,(d,a)::e⟩⟩):bP.ok an ⟨K,.R<|⟨some d,.ix x,none⟩::xs,⟨own,aC,e⟩⟩:=n2 l[j] (ba a3) k O aB aD
def af8{a5 m:Nat}{cs:ac ai}(O:bb (eF aF bc) x=some (.fb a5 z j q))(aB:bl[a5]? =some (.a el aW z α ak l))(a3:j<l.length)(aD:rF (ak l[j]) q m (λl=>some l)=some cs)(k:bP.ok an ⟨K,.d aS bl ((d,.agg cs)::bc) a4 b3,⟨own,aC,(d,.agg cs)::e⟩⟩)(aa:back<a4:=by decide):bP.ok an ⟨K,.d ((⟨some d,.m9 m x,none⟩,.read back aF)::aS) bl bc a4 b3,⟨own,aC,e⟩⟩:=ed l[j] (ba a3) k O aB aD aa
structure S5(Q:Prop):Prop where
 k:Q
theorem Jz(k:Q)(h:S5 Q->P:=by
 intro k
 repeat first
  |refine gF o ?_
  |refine af3 o o (by first|assumption|omega) ?_
  |refine af4 o o (by first|assumption|omega) ?_
  |refine af5 o o (by first|assumption|omega) ?_
  |refine af6 o o (by first|assumption|omega) ?_
  |refine n7 o o ?_
  |refine c0 o o ?_
  |refine n1 ?_
  |refine af7 o o (by first|assumption|omega|(simp;omega)) o ?_
  |refine af8 o o (by first|assumption|omega|(simp;omega)) o ?_
 exact k.k):P:=h ⟨k⟩
def xF(h:S5 Q->P:=by intro k;(repeat refine gF o ?_);exact k.k):Q->P:=λk=>h ⟨k⟩
variable{S:da}{l:S.L}{res:ac gU}{s:cg}{r:ai}{x:c6}{call:bR}{a8:Nat}{fn:d8}{aX:bm}{i0:ac Nat}{ax:ao}{g:bP}
def zl(u:bX r (S.res l))(z:bP.ok ⟨call,a8,fn,aX,i0,ax,Fin S l res⟩ ⟨[],.x x,s⟩->bP.ok ⟨call,a8,fn,aX,i0,ax,Fin S l res⟩ g:=by exact xF)(aE:Fin.kO s res=some r:=by rfl)(aK:h3 r=true:=by rfl)(he:x= .ret\/x= .norm:=by first|exact .inl o|exact .inr o):bP.ok ⟨call,a8,fn,aX,i0,ax,Fin S l res⟩ g:=z<|du u aE aK he
def zm(h:r=S.res l)(z:bP.ok ⟨call,a8,fn,aX,i0,ax,Fin S l res⟩ ⟨[],.x x,s⟩->bP.ok ⟨call,a8,fn,aX,i0,ax,Fin S l res⟩ g:=by exact xF)(aE:Fin.kO s res=some r:=by rfl)(aK:h3 r=true:=by rfl)(he:x= .ret\/x= .norm:=by first|exact .inl o|exact .inr o):bP.ok ⟨call,a8,fn,aX,i0,ax,Fin S l res⟩ g:=zl (.of h) z aE aK he
def jX(z:bP.ok ⟨call,a8,fn,aX,i0,ax,Fin S l res⟩ ⟨[],.x x,s⟩->bP.ok ⟨call,a8,fn,aX,i0,ax,Fin S l res⟩ g:=by exact xF)(aE:Fin.kO s res=some (S.res l):=by rfl)(aK:h3 (S.res l)=true:=by rfl)(he:x= .ret\/x= .norm:=by first|exact .inl o|exact .inr o):bP.ok ⟨call,a8,fn,aX,i0,ax,Fin S l res⟩ g:=zm o z aE aK he
variable{L:Type _}{A:L->Prop}{T:L->cg}{p m:Nat}{cP:L->Nat}
def zn(f:ac Nat)(w:L)(Y:A w)(z:bP.ok an ⟨.b7 (kN p A T)::K,.x .norm,s⟩->bP.ok an g:=by exact xF)(h:Sub p f s (T w):=by first|exact cb|exact cb (aK:=by repeat first|exact aP|refine⟨o,?_⟩|refine⟨tO,?_⟩|refine⟨rv,?_⟩)):bP.ok an g:=z<|bL f w Y h
def af9(f:ac Nat)(w:L)(Y:A w)(z:bP.ok an ⟨.b7 (kN p (λv=>cP v<m/\A v) T)::K,.x .norm,s⟩->bP.ok an g:=by exact xF)(hm:cP w<m:=by first|omega|(dsimp only;omega))(h:Sub p f s (T w):=by first|exact cb|exact cb (aK:=by repeat first|exact aP|refine⟨o,?_⟩|refine⟨tO,?_⟩|refine⟨rv,?_⟩)):bP.ok an g:=z<|bL f w ⟨hm,Y⟩ h
variable{a b:dz}{R:ce}
def Cr(bK:P->bP.ok an ⟨K,.c a,s⟩)(aa:¬P->bP.ok an ⟨K,.c b,s⟩)(z:bP.ok an ⟨K,.c<|.cond R a b,s⟩->bP.ok an g:=by exact xF)(ah:bb s.env R=some (.b<|decide P):=by rfl):bP.ok an g:=z<|eC bK aa ah
def vH(P:L->Prop)(T:L->cg)(cP:L->Nat)(f0:ac Nat)(E:L)(Y:P E)(h:∀l,P l->bP.ok an ⟨.b7 (kN an.i0.length (λbq=>cP bq<cP l/\P bq) T)::K,.c b,T l⟩)(z:bP.ok an ⟨K,.c<|.loop b,s⟩->bP.ok an g:=by exact xF)(hm:cP E<an.a8:=by(show _<bz+1;unfold bz;first|omega|(dsimp only;omega)))(bS:Sub an.i0.length f0 s (T E):=by first|exact cb|exact cb (aK:=by repeat first|exact aP|refine⟨o,?_⟩|refine⟨tO,?_⟩|refine⟨rv,?_⟩)):bP.ok an g:=z<|dN P T cP f0 E Y hm bS h
end
