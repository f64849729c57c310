/- Rules for what a function computes on abstract states (part 3); no condition. -/
import Derived.Test.YtnbgimpdclpgbaaGreatDoorSqS2
import Derived.Test.YtnbgimpdclpgbaaGreatDoorSqS1
noncomputable section
set_option linter.all false
namespace Go.bC
open Sym
variable{X:Ctx}
variable{H:bb}{cE:ac fC}{call:bN}{f:d7}{a4:cX}{es:ac f7}{a:ag}
def Gg{res:ac gS}{x:c6}{o:aK}{st:ak}(h:x= .norm\/x= .ret):wR call res (.out x o st)=fJ call res none o st:=by
 rcases h with rfl|rfl<;>rfl
def SP{n:Nat}{ab:ac bv}{st:ak}{as:ac ag}(aB:ab.length<=a4.aN)(bZ:cG H as [] ab)(Z:Fit H [] st [] 0)
 (h:jd ⟨call,n,f,H,[],st,LI cE st.ae a4.res⟩ a4.body ⟨[],0,iT 0 as⟩):mu call n f a4 ab st≠[]/\∀q∈mu call n f a4 ab st,∃v b8 r es clock M,q= .ret v b8 false/\Out st H cE v b8 r es clock M:=by
 have e:mu call n f a4 ab st=(gU call n f a4.body (eg ab) st).map (wR call a4.res):=by
  rw[mu,lR,e4,aD aB];rfl
 rw[e];refine⟨λh=>LH a4.body (eg ab) st<|vV.1 h,λq a'=>?_⟩;obtain⟨r,I,rfl⟩:=da.1 a';obtain⟨x,o,b8,rfl,M,u,s,F,B,D,O,k,y,Y,R,N,V,hp⟩:=h H [] st (eg ab) aqd Z (cS.zero bZ) r I;obtain⟨v,G,w⟩:=sv B D y;obtain⟨b,C,rfl⟩:=G;have⟨⟨es,clock,E,hm⟩,_⟩:=B.own k _ b N C;refine⟨_,b8,b,es,clock,M,by rw[Gg O,w],j,?_,E,(hm.SI V).perm hp,B.le,F.hle,λc W=>F.eK c W au,F.ae⟩;obtain h|h:=F.new b<|hh C
 .simp at h
 .exact h
def agi{ms:ac (bv×ag)}(h:nc H cE ms){p:bv×ag}(hp:p∈ms):∃e∈cE,e.key=p.1/\Ct H e p.2:=by
 induction cE generalizing ms with
 |nil=>
  cases ms with
  |nil=>cases hp
  |cons=>exact h.elim
 |cons e cE I=>
  cases ms with
  |nil=>exact h.elim
  |cons q ms=>
   obtain rfl|hp:=fh.1 hp
   .exact⟨e,hT,h.1,h.2.1⟩
   .have⟨G,Y,j⟩:=I h.2.2 hp;exact⟨G,fq _ Y,j⟩
theorem agj{st:ak}(aJ:∀b,st.ae<=b->st.h.get b=none){Y:bb}{aG:ac fC}{v:bv}{b8:ak}{r fD:Nat}{I:ac f7}{clock aN:Nat}{M G:bb}(h:Out st H cE v b8 r es clock M)(aI:Out st Y aG v b8 fD I aN G)
 (aY:∀b U,H b=some U->b<st.ae) (bo:∀b U,Y b=some U->st.h.get b=some U) {ms au:ac (bv×ag)} (a5:nc H cE ms) (ai:nc Y aG au):
 ∃B,Fit B [] (u5 cE st) [] 0/\cW Y [] st B [] (u5 cE st)/\den B (.g<|fO au) [] (LK cE st):=by
 have aF:∀b U,Y b=some U->b<st.ae:=λb U e=>by
  grind
 have bn:=SH cE st 0;have aW:(u5 cE st).ae=(fx cE st 0).2.ae+1:=rfl;have a3:∀b,b<st.ae->(u5 cE st).h.get b=st.h.get b:=λb C=>by rw[LL R,Gf cE st 0 C]
 obtain⟨B,w⟩:∃B:bb,∀b,B b=if b<st.ae then Y b else(u5 cE st).h.get b:=⟨_,λ_=>j⟩;have hle:cH Y B:=λb U e=>by rwa [w,aD<|aF b U e]
 cases h.val.symm.trans aI.val;cases h.obj.symm.trans aI.obj;have aK:(au.map (·.1)).Nodup:=by
  have:=aI.md.cY;rw[qq]at this;rw[<-ai.keys];exact this
 have bl:=LF cE st 0;have a8:(cE.map fC.key).Nodup:=by
  have:=h.md.cY
  rwa [qq]at this
 refine⟨B,⟨λb C=>?_,λb U e=>?_,j,j,oU,λb C=>by simp at C,λk U b N=>by simp at N⟩,⟨hle,λb C _=>by rw[w,aD C],λb C _=>a3 b C,R,b9.refl _,λb C=>.inl C⟩,?_⟩
 .rw[aW]at C;rw[LL R];exact LJ cE st 0 aJ b R
 .grind
 .refine⟨(fx cE st 0).2.ae,(fx cE st 0).1,cE.length,j,?_,⟨λe D=>?_,?_,?_,aK,λe D=>?_,λp hp=>?_,?_⟩⟩
  .rw[w,av R];exact ao.mm _ _ _
  .obtain⟨J,V,rfl⟩:=mf D;have:=(rb cE st 0 J V R).2;omega
  .rw[lk]
   grind [rb]
  .rw[lk];intro i J af V a2 e;rw[(rb cE st 0 i af R).1,(rb cE st 0 J V R).1]at e;have N:=oS.1 a8;rw[lk]at N;exact N i J R R a2 e
  .obtain⟨J,V,rfl⟩:=mf D;have ar:J<cE.length:=by omega
   have aH:(cE[J].key,cE[J].kn st.ae)∈cE.map λe=>(e.key,e.kn st.ae):=da.2 ⟨_,dH ar,j⟩;obtain⟨x,O,aa⟩:=h.md.to _ aH;have aa:x.key=cE[J].key:=aa;obtain⟨a,al,F⟩:=h.md.jy x O;rw[aa]at al;have:=LB h.md.cY al aH;subst this;obtain⟨a0,aM,ad⟩:=aI.md.jy x O;obtain⟨a',az,aj⟩:=da.1 aM;have aE:a'.key=x.key:=congrArg Prod.fst aj;have aS:a'.kn st.ae=a0:=congrArg Prod.snd aj;subst aS;obtain⟨p,hp,aU,bs,bf,I,b',ay,E⟩:=ai.get az;obtain⟨bk,bp,bc,bq,bd,bm,ba,aw,W⟩:=a5.get<|dH ar;refine⟨p.2,?_,?_⟩
   .rw[((rb cE st 0 J V ar).1),<-aa,<-aE,aU];exact hp
   .rw[b'];cases ab:cE[J]with
    |lit k u=>
     rw[ab]at W F;rw[SM cE st 0 J V ar ab];cases a' with
     |lit aC y=>
      rw[<-F,ad];exact iR hle _ apu E
     |num aC a7 aO aQ=>
      obtain⟨rfl,rfl,rfl⟩:=E;rw[F]at ad;exact(SJ aY aw ay W<|Cu ad).elim
    |num k t bh es=>
     rw[ab]at W F;obtain⟨rfl,rfl,rfl⟩:=W;cases a' with
     |lit aC y=>
      rw[<-ad]at E;exact(SJ aF ay aw E<|Cu F).elim
     |num aC a7 aO aQ=>
      obtain⟨rfl,rfl,rfl⟩:=E;have aV:∀b U,lE st.ae M b=some U->b8.h.get b=some U:=λb U e=>h.le b U (mC.1 e).2;obtain⟨rfl,rfl,rfl⟩:=agd aV (λb U e=>aI.le b U (mC.1 e).2) aw ay (Cu F)<|Cu ad
      grind [SL,fx,LJ,LL]
  .obtain⟨a',az,aE,_⟩:=agi ai hp;obtain⟨x,O,aa⟩:=aI.md.to _<|da.2 ⟨a',az,j⟩;obtain⟨a,al,_⟩:=h.md.jy x O;obtain⟨aB,ab,aj⟩:=da.1 al;have Z:aB.key=x.key:=congrArg Prod.fst aj;obtain⟨J,V,rfl⟩:=mf ab;exact arc arc
  .have aB:=h.md.len;have a':=aI.md.len;rw[hI]at aB a';rw[<-ai.len];omega
theorem agk{aL:ao cX}(ad:Good X)(j:k0 X aL)(br:d7->dV)(O:aL.get f=some a4){S:df}(ms:S.L->ac (bv×ag))(N:∀l,S.res l= .g (fO<|ms l))(aB:∀l,(S.args l).length<=a4.aN)(jz:∀l,S.pre l->∀p∈ms l,∃ct:fH,ct.ok p.1=true)
 (h:∀l,S.pre l->∀H aq ab,S.hp H->Fit H [] aq [] 0->cG H (S.args l) [] ab->∃(as:ac ag) (cE:ac fC),cG H as [] ab/\nc H cE (ms l)/\jd ⟨cg aL (cw X br)<|bs+1,bs+1,f,H,[],aq,LI cE aq.ae a4.res⟩ a4.body ⟨[],0,iT 0 as⟩):et X f S.spec:=by
 rintro ab st ⟨⟨l,H⟩,hp,V,Z,bZ⟩;have⟨as,cE,al,C,aG⟩:=h l hp H st ab V Z bZ;have aj:ab.length<=a4.aN:=by rw[gq bZ];exact aB l
 have⟨u,y⟩:=SP aj al Z aG;refine⟨LK cE st,u5 cE st,?_,?_⟩
 .rintro⟨R,Y⟩ ⟨aF,au,a',aE⟩;have⟨aQ,aM,ay,ar,ak⟩:=h R aF Y st ab au a' aE;have⟨_,aw⟩:=SP aj ay a' ak;have⟨q,E⟩:=DH _ u;obtain⟨v,aa,r,es,clock,M,rfl,gw⟩:=y q E;have⟨v2,aU,fD,aY,aO,aK,e,e7⟩:=aw _ E;cases e;have⟨B,W,az,a0⟩:=agj Z.wf gw e7 (λb U e=>Z.aW e) a'.le C ar;exact⟨B,W,az,by rwa [N]⟩
 .have⟨Fn,c,ok⟩:=j f a4 O;have⟨aC,ai⟩:=uK ad j (BZ br)<|bs+1;intro aZ aS w aD F;refine⟨ok.enters,λK bf I=>?_⟩;have⟨q,aH,aI⟩:=E9 ad ai aC (λb aN bf _=>uJ ai b aN bf) ok (bs+1) aD F I (λr I e=>by
   have⟨v,aa,_,_,_,_,G,_⟩:=y r I;subst e;cases G)
  obtain⟨v,aa,r,es,clock,M,rfl,gw⟩:=y q aH;refine gw.can F Z.le (λe D=>?_) (λe D=>?_) aI
  .have⟨p,_,_,h⟩:=C.get D;exact⟨_,h⟩
  .have⟨p,aJ,aV,_⟩:=C.get D
   grind
def bz.LM{ck N:Nat}(h:ck<=N):bz (g0 N a) (g0 ck a):=λ_ _ _ d=>iR (Sw h) a apu d
def agl(a b:ag):B1:=⟨λH v=>den H a [] v/\den H b [] v,λh _ d=>⟨iR h a apu d.1,iR h b apu d.2⟩,qX b,λh _ _ d=>Fx h d.2⟩
def xn(a b:ag):ag:=.g<|agl a b
def bz.LN{b:ag}:bz (xn a b) b:=λ_ _ _ d=>iR ap8 b (b9.nil _) d.2
def agm(l:ac Nat)(b:Nat):Eh (l++[b])=some b:=by
 induction l with
 |nil=>rfl
 |cons a l I=>
  cases l with
  |nil=>rfl
  |cons c l=>exact I
def find_born(h:es.Pairwise λa b=>a.born≠b.born){m:f7}(hm:m∈es):es.find? (λe=>Nat.beq e.born m.born)=some m:=by
 cases D:es.find? (λe=>Nat.beq e.born m.born)with
 |none=>
  have:=List.find?_eq_none.1 D m hm;exact absurd (kT _) this
 |some e=>
  have Y:=As D;rw[JU h (Ar D) hm<|dB Y]
section
variable{call:bN}{a1:bb}{s:cb}
def agn{Y:ce}{k r clock:Nat}{seen:ac Nat}{m:f7}{N M:ag}(o5:a5 s.env Y=some (.p k 0))(aw:s.own[k]? =some (.g<|mB r clock<|seen++[m.born]))(I:a1 r=some (.map es clock))(hm:m∈es)(ay:es.Pairwise λa b=>a.born≠b.born)(aQ:m.born<clock)
 (aC:∀H,cH a1 H->den H N [] m.key) (aI:∀H,cH a1 H->den H M [] m.val) (G:h1 N=true) (E:h1 M=true):p8 a1 call (.ext<|.wa Y) s (.bc [N,M]) s.own s.n:=λH u st o F Z D=>by
 have⟨b,w,v⟩:=D.ar o5;have⟨y,_⟩:=Z.own k _ b aw w;refine⟨.tuple #[m.key,m.val],st,u,H,?_,Z,⟨_,j,_,_,j,tk _ G (aC H F) u,_,_,j,tk _ E (aI H F) u,j⟩,cH.refl _,b9.refl _,λ_ _ _ B=>B,c5 _,λ_ _ _=>j⟩;show hG (o.ar Y) (λp=>bq p (λa=>bq a.spot (λ_=>.no) (dL a.off 0 (A2 (st.h.get a.block) (λm _ seen O=>
  bq m (λid=>bq (Eh seen) (λs=>jH (st.h.get id) (λes clock=>dL clock O (ev (Nat.succ s) clock (bq (es.find? λe=>Nat.beq e.born s) (λe=>a2.ok (.tuple #[e.key,e.val]) o st) .no) .no) .no) .no) .no) .no) .no) .no)) .no) .no=_
 rw[v,lx,Sym.ed,y];show bq (Eh<|seen++[m.born]) (λs=>jH (st.h.get r) (λes c=>dL c clock (ev (Nat.succ s) c (bq (es.find? λe=>Nat.beq e.born s) (λe=>a2.ok (.tuple #[e.key,e.val]) o st) .no) .no) .no) .no) .no=_;rw[agm,(Z.le _ _<|F _ _ I)];show dL clock clock (ev (Nat.succ m.born) clock (bq (es.find? λe=>Nat.beq e.born m.born) (λe=>a2.ok (.tuple #[e.key,e.val]) o st) .no) .no) .no=_;rw[ij j,fo R,find_born ay hm];rfl
end
section
variable{an:eR}{K:ac dA}{own bg:ac aZ}{ax:Nat}{e:bP}{xs:ac bj}{d:be Tmp}
variable{m:ce}{ms:ac (bv×ag)}{ct:fH}{k:ce}{ra:ag}{iJ:bv}{r clock J:Nat}{am:ag}
def Cv(k:cL an K xs bg (ax+1) (ee d (.mp ax) e))(E:my own (.g<|h6 []) some=some bg:=by rfl):cL an K (⟨d,.pG,none⟩::xs) own ax e:=by
 have:=m7 E;cases this;exact w2 af5 k
def xo(I:an.a1 r=some (.map es clock))(k:cL an K xs bg (ax+1) (ee d (.p ax 0) e))(hm:a5 e m=some (.v<|.map<|some r):=by rfl)(E:my own (.g<|mB r clock []) some=some bg:=by rfl):cL an K (⟨d,.ext<|.ug m,none⟩::xs) own ax e:=by
 have:=m7 E;cases this;exact tp (af9 hm I) k
def xp{Y:ce}{a8:Nat}{seen:ac Nat}{m:f7}(N M:ag)(I:an.a1 r=some (.map es clock))(hm:m∈es)(ay:es.Pairwise λa b=>a.born≠b.born)(aQ:m.born<clock)(aC:∀H,cH an.a1 H->den H N [] m.key)(aI:∀H,cH an.a1 H->den H M [] m.val)
 (k:cL an K xs own ax (ee d (.bc [N,M]) e)) (o5:a5 e Y=some (.p a8 0):=by rfl) (aw:own[a8]? =some (.g<|mB r clock<|seen++[m.born]):=by rfl) (u:h1 N=true:=by rfl) (j:h1 M=true:=by rfl):cL an K (⟨d,.ext<|.wa Y,none⟩::xs) own ax e:=
 tp (agn o5 aw I hm ay aQ aC aI u j) k
def SQ{v:ce}(I:ac (bv×ag))(M:xl ms iJ a I)(N:u2 ra iJ)(R:∀p∈ms,ct.ok p.1=true)(bD:cL an K xs bg ax (ee d (.bc []) e))(hm:a5 e m=some (.mp J):=by rfl)(ba:own[J]? =some (.g<|h6 ms):=by rfl)
 (aw:a5 e k=some ra:=by rfl) (u:a5 e v=some a:=by rfl) (fF:h1 a=true:=by rfl) (jz:ct.ok iJ=true:=by rfl) (E:g9 own J (.g<|h6 I) some=some bg:=by rfl):cL an K (⟨d,.ext<|.e3 ct m k v,none⟩::xs) own ax e:=by
 have:=h4 E;cases this;exact w2 (SF hm ba aw N u fF jz R M) bD
def ago(I:ac (bv×ag))(M:LC ms iJ I)(N:u2 ra iJ)(R:∀p∈ms,ct.ok p.1=true)(bD:cL an K xs bg ax (ee d (.bc []) e))(hm:a5 e m=some (.mp J):=by rfl)(ba:own[J]? =some (.g<|h6 ms):=by rfl)
 (aw:a5 e k=some ra:=by rfl) (jz:ct.ok iJ=true:=by rfl) (E:g9 own J (.g<|h6 I) some=some bg:=by rfl):cL an K (⟨d,.ext<|.del ct m k,none⟩::xs) own ax e:=by
 have:=h4 E;cases this;exact w2 (af8 hm ba aw N jz R M) bD
def SR(M:u1 an.a1 own am ms)(k:cL an K xs own ax (ee d (.i .i64 (ms.length:Nat)) e))(hm:a5 e m=some am:=by rfl):cL an K (⟨d,.ext<|.v9 m,none⟩::xs) own ax e:=tp (af7 hm M) k
def LO{z:bv}{ok:Bool}{d:Tmp}{aA:ac Tmp}{back:Nat}{l:ac (bj×cn)}{a9:ac aZ}{aX:bP}{aT bU:Nat}(r:ag)(M:u1 (λ_=>none) a9 am ms)(N:u2 ra iJ)(R:∀p∈ms,ct.ok p.1=true)
 (O:match iU ms iJ with|some a=>r=a|none=>∀H u,den H r u z) (bD:dx an K l a9 ((d,cond ok (.bc [r,.b (iU ms iJ).isSome]) r)::aX) aT bU own ax ((d,cond ok (.bc [r,.b (iU ms iJ).isSome]) r)::e)) (ay:back<aT:=by first|decide|omega)
 (hm:a5 (dZ aA aX) m=some am:=by rfl) (aw:a5 (dZ aA aX) k=some ra:=by rfl) (fF:h1 r=true:=by rfl) (jz:ct.ok iJ=true:=by rfl):dx an K ((⟨some d,.ext<|.look ct z ok m k,none⟩,.read back aA)::l) a9 aX aT bU own ax e:=
 l2 ay (λH u st o D _ E=>by
  have⟨id,es,clock,w,bZ,F⟩:=M H u st _ (λ_ _ h=>by cases h) E<|D.ar hm;obtain⟨v,Y,G⟩:=af6 w (N _ _ _<|D.ar aw) bZ jz R r O fF u;exact⟨v,Y,λj W I=>G j<|F j W I⟩) bD
end
section
variable{aL:ao cX}{br:d7->dV}{a6 n:Nat}{fn:d7}{a1:bb}{i0:ac Nat}{aq:ak}{Q:c6->cb->Prop}{K:ac dA}{own bg:ac aZ}{ax:Nat}{e:bP}{g:d7}{S:gv}{ae:S.L->Nat}
variable{bO:ac ce}{as:ac ag}{U cv:aZ}
theorem agp(aQ:et X g (S.jR ae)){d:be Tmp}{xs:ac bj}(a8:Nat)(l:S.L)(hp:S.pre l)(aj:ae l<=aq.ae)
 (k:cL (gI X aL br n a6 fn a1 i0 aq Q) K xs bg ax (ee d (j7 [a8]<|S.res l) e)) (E:S.own l=[U]:=by rfl) (G:S.bg l=[cv]:=by rfl)
 (aw:∃gw,own[a8]? =some gw/\kG [a8] U gw:=by exact gJ) (M:g9 own a8 cv some=some bg:=by rfl) (ay:pf [a8] cv cv:=by exact j)
 (bR:hr e bO=some as:=by rfl) (he:as=lA [a8] (S.args l):=by rfl) (O:br g=(S.jR ae).K:=by rfl) (cK:S.hp a1:=by first|exact az|assumption):
 cL (gI X aL br n a6 fn a1 i0 aq Q) K (⟨d,.call (.func g) bO,none⟩::xs) own ax e:=λH u st w F Z D=>by
 obtain⟨v,al,V,B,W,cA,dG,gT,nb,I,_⟩:=Le aQ [a8] l (λ_ _ _ st h p=>⟨p,ch aj h⟩) hp cK aqz (by rw[G];exact Ld M ay) bR he O F Z D;exact atn
theorem zz(aQ:et X g (S.jR ae)){d:Tmp}{xs:ac (bj×cn)}{a9:ac aZ}{aX:bP}{aT bU:Nat}(a8:Nat)(l:S.L)(hp:S.pre l)(aj:ae l<=aq.ae)
 (k:dx (gI X aL br n a6 fn a1 i0 aq Q) K xs (a9.map λ_=>.x) (jb d aX) (aT+1) ax bg ax ((d,j7 [a8]<|S.res l)::e)) (E:S.own l=[U]:=by rfl) (G:S.bg l=[cv]:=by rfl)
 (aw:∃gw,own[a8]? =some gw/\kG [a8] U gw:=by exact gJ) (M:g9 own a8 cv some=some bg:=by rfl) (ay:pf [a8] cv cv:=by exact j)
 (bR:hr e bO=some as:=by rfl) (he:as=lA [a8] (S.args l):=by rfl) (O:br g=(S.jR ae).K:=by rfl) (cK:S.hp a1:=by first|exact az|assumption):
 dx (gI X aL br n a6 fn a1 i0 aq Q) K ((⟨some d,.call (.func g) bO,none⟩,.dI)::xs) a9 aX aT bU own ax e:=
 Lk (λH u st v F Z D=>Le aQ [a8] l (λ_ _ _ st h p=>⟨p,ch aj h⟩) hp cK aqz (by rw[G];exact Ld M ay) bR he O F Z D) k
end
def LP(S:PP)(l:S.L)(ab:ac bv)(i:Nat)(H:bb)(res:ac gS)(x:c6)(s:cb):Prop:=
 ((x= .norm\/x= .ret)/\∃u a,ab[i]? =some u/\Fin.kH s res=some (.v u)/\S.out l= .ret a/\den H a [] u)\/∃v,x= .aV v/\S.out l= .aV v
def SS(S:PP)(l:S.L)(ab:ac bv)(i:Nat)(H:bb)(st:ak)(q:dY):Prop:=
 ∃C,(∀b,b<st.ae->C.h.get b=st.h.get b)/\((∃u a,ab[i]? =some u/\q= .ret u C false/\S.out l= .ret a/\den H a [] u)\/∃v,q= .aV v C false/\S.out l= .aV v)
theorem SU{n:Nat}{ab:ac bv}{st:ak}{S:PP}{l:S.L}{i:Nat}{bO:ac ag}(aB:ab.length<=a4.aN)(bZ:cG H bO [] ab)(Z:Fit H [] st [] 0)
 (h:jd ⟨call,n,f,H,[],st,LP S l ab i H a4.res⟩ a4.body ⟨[],0,iT 0 bO⟩):mu call n f a4 ab st≠[]/\∀q∈mu call n f a4 ab st,SS S l ab i H st q:=by
 have e:mu call n f a4 ab st=(gU call n f a4.body (eg ab) st).map (wR call a4.res):=by
  rw[mu,lR,e4,aD aB];rfl
 rw[e];refine⟨λh=>LH a4.body (eg ab) st<|vV.1 h,λq E=>?_⟩;obtain⟨r,I,rfl⟩:=da.1 E;obtain⟨x,o,C,rfl,M,R,s,F,N,D,O⟩:=h H [] st (eg ab) aqd Z (cS.zero bZ) r I;refine⟨C,λc W=>F.eK c W au,?_⟩;obtain⟨O,u,a,Y,y,G,j⟩|⟨v,rfl,G⟩:=O
 .obtain⟨v,B,w⟩:=sv N D y;subst B;exact .inl ⟨v,a,Y,by rw[Gg O,w],G,j⟩
 .exact .inr ⟨v,F6 D.pl,G⟩
def eb.self{ad cO:bH}{w w':f5}(h:eb ad cO w w'):eb ad ad w w':=⟨bH.le.refl _,h.size,h.kept,λ_ _ q=>.inl q,h.fQ⟩
theorem agq{aL:ao cX}(D:Good X)(aF:k0 X aL)(br:d7->dV)(aI:aL.get f=some a4){S:PP}(i:Nat)(aB:∀l,(S.args l).length<=a4.aN)(aS:∀l v,S.out l= .aV v->∀(ad cO:bH) (u:bv),bd cO v u->bd ad v u)
 (h:∀l,S.pre l->∀H aq ab,S.hp H->Fit H [] aq [] 0->cG H (S.args l) [] ab->∃bO:ac ag,cG H bO [] ab/\jd ⟨cg aL (cw X br)<|bs+1,bs+1,f,H,[],aq,LP S l ab i H a4.res⟩ a4.body ⟨[],0,iT 0 bO⟩):ly X f S.spec:=by
 rintro ab st ⟨⟨l,H⟩,hp,V,Z,bZ⟩;have⟨bO,aH,aU⟩:=h l hp H st ab V Z bZ;have aW:ab.length<=a4.aN:=by rw[gq bZ];exact aB l
 have⟨aM,y⟩:=SU aW aH Z aU;have⟨jw,o⟩:=DH _ aM;have⟨Fn,c,ok⟩:=aF f a4 aI;have⟨aO,aG⟩:=uK D aF (BZ br)<|bs+1;have yK:=λ{ad:bH} {B:ac bv} {w:f5} (ai:bI ad ab B) (aj:bQ X ad st w) {K:CallKind} {bf:Bool->ac Frame} (I:ju ⟨f,K,none⟩ none ad bf)=>E9 D aG aO (λb aN bf _=>uJ aG b aN bf) ok (bs+1) ai aj I (λr I e=>by
  have⟨aE,_,h⟩:=y r I;subst e;rcases h with⟨_,_,_,e,_⟩|⟨_,e,_⟩<;>cases e)
 have aC:∀R Y,S.spec.pre (R,Y) ab st->SS S R ab i Y st jw:=λR Y ⟨a5,aZ,a7,a3⟩=>by
  grind [SU]
 cases E:S.out l with
 |ret a=>
  have⟨aE,aQ,aw⟩:=y jw o;obtain⟨u,aJ,M,e,_,_⟩|⟨v,_,G⟩:=aw
  .refine .inl ⟨u,st,?_,?_⟩
   .rintro⟨R,Y⟩ N;obtain⟨ar,_,G⟩:=aC R Y N;rcases G with⟨au,C,j,a',aa,aD⟩|⟨v,a',_⟩
    .rw[M]at j;cases j;exact⟨C,Y,aa,N.2.2.1,cW.refl _ _ _,aD⟩
    .rw[e]at a';cases a'
   .intro ad B w ai aj;refine⟨ok.enters,λK bf I=>?_⟩;have⟨q,ay,az⟩:=yK ai aj I;have⟨ar,O,G⟩:=y q ay;obtain⟨au,C,j,rfl,_,_⟩|⟨v,_,G⟩:=G
    .rw[M]at j;cases j;have⟨aK,ak,w',F,W,al,a0,cJ,c2,eC,fv⟩:=az;have af:=(dP.1 M).1;have V:=ai.2 i af (by rwa [<-ai.1]);rw[((dP.1 M).2)]at V;exact⟨ad,ak,w',F,W.back a0.le V,bQ.back a0.le aj al O,a0.self,cJ,c2,eC,fv⟩
    .rw[E]at G;cases G
  .rw[E]at G;cases G
 |aV v=>
  have⟨aE,aQ,aw⟩:=y jw o;obtain⟨u,aJ,_,_,G,_⟩|⟨ak,e,G⟩:=aw
  .rw[E]at G;cases G
  .rw[E]at G;cases G;refine .inr ⟨v,st,?_,?_⟩
   .rintro⟨R,Y⟩ N;obtain⟨ar,_,G⟩:=aC R Y N;rcases G with⟨au,C,j,a',aa,aD⟩|⟨aY,a',aa⟩
    .rw[e]at a';cases a'
    .rw[e]at a';cases a';exact⟨Y,aa,N.2.2.1,cW.refl _ _ _⟩
   .intro ad B w ai aj;refine⟨ok.enters,λK bf I=>?_⟩;have⟨q,ay,az⟩:=yK ai aj I;have⟨ar,O,G⟩:=y q ay;obtain⟨au,C,j,_,aa,_⟩|⟨aY,rfl,G⟩:=G
    .rw[E]at aa;cases aa
    .rw[E]at G;cases G;have⟨aK,ak,w',F,W,al,a0,cJ,c2,eC,fv⟩:=az;exact⟨ad,ak,w',F,aS l v E _ _ _ W,bQ.back a0.le aj al O,a0.self,cJ,c2,eC,fv⟩
end Go.bC
namespace Go.bC
section
variable{an:eR}{K:ac dA}{own bg:ac aZ}{ax:Nat}{e:bP}{xs:ac bj}
def agr(t i:Nat){k:Nat}{cs B:ac ag}{ms:ac (bv×ag)}(bD:cL an K xs bg ax ((t,.agg B)::e))(N:dn e t=some (.agg cs):=by rfl)(af:cs[i]? =some (.mp k):=by rfl)(Y:B=cs.set i (.g<|fO ms):=by rfl)(aw:own[k]? =some (.g<|h6 ms):=by rfl)(E:g9 own k .x some=some bg:=by rfl):cL an K xs own ax e:=by
 subst Y;cases h4 E;intro H u st o F Z D;have⟨y,O,wV⟩:=D.get t _ N;have⟨w,v,b,W,I⟩:=tl wV af;have⟨⟨es,clock,a0,d⟩,_⟩:=Z.own k _ b aw W;have hle:=pe Z aw j W;refine bD (eP H st b) u st o (F.eP Z aw j W) (Z.eP aw j W) ⟨(D.mono hle apu).pl,λJ q V=>?_⟩;rw[lB]at V;cases C:Nat.beq t J with
 |false=>exact atS
 |true=>
  rw[C]at V;cases V;rw[<-dB C];refine⟨y,O,?_⟩;have hm:den (eP H st b) (.g<|fO ms) u w:=⟨b,es,clock,I,by rw[eP];rw[aD j];exact a0,d.mono hle⟩;have M:=Rb i (kF hle cs apu wV) hm;have G:y.set i w=y:=by
   apply nY;intro J;rw[oT];split
   .rename_i h;subst h;split
    .exact v.symm
    .rename_i h;rw[yc R]
   .rfl
  rwa [G]at M
end
def Gh:Nat->bM->bM
 |0,g=>g
 |n+1,g=>match Cd g with
  |some I=>Gh n I
  |none=>g
theorem SV{an:eR}:∀{n:Nat} {g:bM},bM.ok an (Gh n g)->bM.ok an g
 |0,_,k=>k
 |n+1,g,k=>by
  rw[Gh]at k;split at k
  .rename_i h;exact fE h<|SV k
  .exact k
def I(n:Nat){an:eR}{g:bM}(k:bM.ok an (Gh n g)):bM.ok an g:=SV k
theorem LQ{call:bN}{H:bb}{u:ac Nat}{o:aK}{e:bP}{x i:ce}{z J:Nat}{α:Type}{ah:α->ac ag}{l:ac α}{q:α}{bD:f6}{a:ag}(D:cS o H u e)(h:l≠[]->bz a (.b6 z α ah l))(O:a5 e x=some a)(af:a5 e i=some (.i bD (J:Int)))(ba:l[J]? =some q):∃v,den H (.ip<|ah q) u v/\∀st,bw call (.iC z x i) o st= .ok v o st:=by
 have aW:=(dP.1 ba).1;rcases h (λe=>by rw[e]at aW;exact kV _ aW) _ _ _ (D.ar O)with⟨B,_⟩|⟨b,U,c,V,el,I,aR,Y,G,w,C⟩
 .grind
 .refine⟨_,⟨b,U+J*z,V,el,I,aR,j,w,?_⟩,λst=>B0 Y (D.ar af) aW⟩;have B:=gq<|C J q ba
  grind
section
variable{an:eR}{K:ac dA}{own:ac aZ}{ax:Nat}{e:bP}{d:Tmp}{x i:ce}
variable{z J:Nat}{α:Type}{xs:ac bj}{l:ac α}
def SW{call:bN}{s:cb}{ah:α->ac ag}{q:α}{bD:f6}{a:ag}(h:l≠[]->bz a (.b6 z α ah l))(O:a5 s.env x=some a)(af:a5 s.env i=some (.i bD (J:Int)))(ba:l[J]? =some q):fp call (.iC z x i) s (.ip<|ah q) s.own s.n:=j8 λH u st o Z D=>by
 obtain⟨v,Y,G⟩:=LQ D h O af ba;exact⟨v,Y,G st⟩
def eW{ah:α->ac ag}(q:α){bD:f6}(ba:l[J]? =some q)(O:a5 e x=some (.b6 z α ah l))(k:cL an K xs own ax ((d,.ip<|ah q)::e))(af:a5 e i=some (.i bD (J:Int)):=by rfl):gY an K d (.iC z x i) xs own ax e:=e0 (SW (λ_=>bz.refl _) O af ba) k
def Cw{ah:α->ac ag}(q:α){bD:f6}(ba:l[J]? =some q)(O:a5 e x=some (.cd z α ah l))(k:cL an K xs own ax ((d,.ip<|ah q)::e))(af:a5 e i=some (.i bD (J:Int)):=by rfl):gY an K d (.iC z x i) xs own ax e:=e0 (SW .h0 O af ba) k
def lF{a8 n c:Nat}{bD:f6}(O:a5 e x=some (.aH a8 z 0 n c))(af:a5 e i=some (.i bD (J:Int)))(k:cL an K xs own ax ((d,.fi a8 z J 0)::e))(ba:J<n:=by omega):gY an K d (.iC z x i) xs own ax e:=zp k O af ba
variable{a9:ac aZ}{aX:bP}{aT bU back:Nat}{aA:ac Tmp}{xs:ac (bj×cn)}
def fy{ah:α->ac ag}(q:α){bD:f6}(ba:l[J]? =some q)(O:a5 (dZ aA aX) x=some (.b6 z α ah l))(k:dx an K xs a9 ((d,.ip<|ah q)::aX) aT bU own ax ((d,.ip<|ah q)::e))(af:a5 (dZ aA aX) i=some (.i bD (J:Int)):=by rfl)(ay:back<aT:=by decide):dx an K ((⟨some d,.iC z x i,none⟩,.read back aA)::xs) a9 aX aT bU own ax e:=
 l2 ay (λH u st o D _ _=>let⟨v,Y,G⟩:=LQ D (λ_=>bz.refl _) O af ba;⟨v,Y,λh _ _=>G h⟩) k
def Gi{ah:α->ac ag}(q:α){bD:f6}(ba:l[J]? =some q)(O:a5 (dZ aA aX) x=some (.cd z α ah l))(k:dx an K xs a9 ((d,.ip<|ah q)::aX) aT bU own ax ((d,.ip<|ah q)::e))(af:a5 (dZ aA aX) i=some (.i bD (J:Int)):=by rfl)(ay:back<aT:=by decide):dx an K ((⟨some d,.iC z x i,none⟩,.read back aA)::xs) a9 aX aT bU own ax e:=
 l2 ay (λH u st o D _ _=>let⟨v,Y,G⟩:=LQ D .h0 O af ba;⟨v,Y,λh _ _=>G h⟩) k
def cP{a8 n c:Nat}{bD:f6}(O:a5 (dZ aA aX) x=some (.aH a8 z 0 n c))(af:a5 (dZ aA aX) i=some (.i bD (J:Int)))(k:dx an K xs a9 ((d,.fi a8 z J 0)::aX) aT bU own ax ((d,.fi a8 z J 0)::e))(ba:J<n:=by omega)(ay:back<aT:=by decide):dx an K ((⟨some d,.iC z x i,none⟩,.read back aA)::xs) a9 aX aT bU own ax e:=FZ k O af ba ay
variable{c:bf}
variable{P:Prop}{bZ:Decidable P}
def cM(t:Nat)(k:fB an K c own ax ((t,.b true)::e))(aB:dn e t=some (.b<|decide P):=by rfl)(h:P:=by omega)(aQ:c.nD=false:=by rfl):fB an K c own ax e:=v1 t h k aB aQ
def cI(t:Nat)(k:fB an K c own ax ((t,.b false)::e))(aB:dn e t=some (.b<|decide P):=by rfl)(h:¬P:=by omega)(aQ:c.nD=false:=by rfl):fB an K c own ax e:=v0 t h k aB aQ
def cl(t:Nat){a b:ag}(Y:a=b)(k:fB an K c own ax ((t,b)::e))(h:dn e t=some a:=by rfl)(aQ:c.nD=false:=by rfl):fB an K c own ax e:=aJ t b h Y k aQ
variable{s:cb}
variable{p:Nat}
def dD{L:Type _}{P:L->Prop}{T:L->cb}(f:ac Nat)(l:L)(Z:P l)(h:Sub p f s (T l):=by first|exact fU|exact fU (aI:=by repeat first|exact az|refine⟨j,?_⟩|refine⟨kt,?_⟩|refine⟨p0,?_⟩)):bM.ok an ⟨.b4 (k2 p P T)::K,.x .norm,s⟩:=bB f l Z h
def iV{L:Type _}{P:L->Prop}{cO:L->Nat}{m:Nat}{T:L->cb}(f:ac Nat)(l:L)(Z:P l)(hm:cO l<m:=by first|omega|(dsimp only;omega))(h:Sub p f s (T l):=by first|exact fU|exact fU (aI:=by repeat first|exact az|refine⟨j,?_⟩|refine⟨kt,?_⟩|refine⟨p0,?_⟩)):bM.ok an ⟨.b4 (k2 p (λbo=>cO bo<m/\P bo) T)::K,.x .norm,s⟩:=bB f l ⟨hm,Z⟩ h
def eS{L:Type _}{b:du}(P:L->Prop)(T:L->cb)(cO:L->Nat)(f0:ac Nat)(N:L)(Z:P N)
 (h:∀l,P l->bM.ok an ⟨.b4 (k2 an.i0.length (λbo=>cO bo<cO l/\P bo) T)::K,.c b,T l⟩) (hm:cO N<an.a6:=by(show _<bs+1;unfold bs;first|omega|(dsimp only;omega))) (bX:Sub an.i0.length f0 s (T N):=by first|exact fU|exact fU (aI:=by repeat first|exact az|refine⟨j,?_⟩|refine⟨kt,?_⟩|refine⟨p0,?_⟩)):bM.ok an ⟨K,.c<|.loop b,s⟩:=ea P T cO f0 N Z hm bX h
end
def SX(_:Nat):Type:=Unit
@[match_pattern] abbrev ag.aa (n:Int):ag:=.i .i64 n
variable{P Q:Prop}
def ags{an:eR}{d:Nat}(_:SX d){g I:bM}(h:RO d g=some I)(k:I.ok an):g.ok an:=by
 unfold RO at h;split at h
 .split at h
  .cases h
  .exact fE h k
 .exact fE h k
def st(k:Q)(h:Q->P:=by intro k;(repeat refine fE j ?_);exact k):P:=h k
def dW(d:Nat)(k:Q)(h:SX d->Q->P:=by intro a k;(repeat refine ags a j ?_);exact k):P:=h () k
def bk{own os:ac aZ}{n p aN:Nat}{f:ac Nat}{e G:bP}(aC:sq f own f os:=by repeat first|exact az|refine⟨gJ,?_⟩|refine⟨jS,?_⟩|refine⟨⟨_,j,λ_=>j⟩,?_⟩|refine⟨⟨_,j,az⟩,?_⟩)(aI:pd f G e:=by repeat first|exact az|refine⟨j,?_⟩|refine⟨kt,?_⟩|refine⟨p0,?_⟩)(hp:pinned p f 0=true:=by rfl)(bZ:f.Nodup:=by decide)(aB:aN=f.length:=by rfl):Sub p f ⟨own,n,e⟩ ⟨os,aN,G⟩:=⟨bZ,aB,aC,aI,hp⟩
section
variable{an:eR}{K:ac dA}{own a9:ac aZ}{ax aT bU:Nat}{e aX:bP}{c:bf}{l:ac (bj×cn)}{a b:Nat}
def xq(t:Nat)(bD:f6)(h:a=b)(k:fB an K c own ax ((t,.i bD (b:Int))::e))(aB:dn e t=some (.i bD (a:Int)):=by rfl)(aQ:c.nD=false:=by rfl):fB an K c own ax e:=aJ t (.i bD (b:Int)) aB atv k aQ
def wn(t:Nat)(bD:f6)(h:a=b)(k:dx an K l a9 ((t,.i bD (b:Int))::aX) aT bU own ax ((t,.i bD (b:Int))::e))(aB:dn e t=some (.i bD (a:Int)):=by rfl)(bX:dn aX t=some (.i bD (a:Int)):=by rfl):dx an K l a9 aX aT bU own ax e:=dF t (.i bD (b:Int)) aB bX atv k
end
def bf.wV:bf->be Tmp
 |.c (.cond (.tmp t) _ _)=>some t
 |.U (⟨_,_,some (t,_)⟩::_)=>some t
 |.d ((⟨_,_,some (t,_)⟩,_)::_) _ _ _ _=>some t
 |_=>none
section
variable{an:eR}{K:ac dA}{own a9:ac aZ}{ax aT bU back:Nat}{e aX:bP}{c:bf}{d t:Tmp}{xs:ac bj}{aP:ac (bj×cn)}{x i:ce}{aA:ac Tmp}{P:Prop}{bZ:Decidable P}{z J:Nat}{α:Type}{ah:α->ac ag}{l:ac α}{bD:f6}
variable{q:Nat}{el:co}{aR:Bool}
def agt(O:c.wV=some t)(aB:dn e t=some (.b<|decide P))(h:P)(k:bM.ok an ⟨K,c,⟨own,ax,(t,.b true)::e⟩⟩):bM.ok an ⟨K,c,⟨own,ax,e⟩⟩:=v1 t h k aB<|by cases c<;>first|rfl|cases O
def agu(O:c.wV=some t)(aB:dn e t=some (.b<|decide P))(h:¬P)(k:bM.ok an ⟨K,c,⟨own,ax,(t,.b false)::e⟩⟩):bM.ok an ⟨K,c,⟨own,ax,e⟩⟩:=v0 t h k aB<|by cases c<;>first|rfl|cases O
def agv(O:a5 e x=some (.b6 z α ah l))(af:a5 e i=some (.i bD (J:Int)))(ba:J<l.length)(k:bM.ok an ⟨K,.U xs,⟨own,ax,(d,.ip<|ah l[J])::e⟩⟩):bM.ok an ⟨K,.U<|⟨some d,.iC z x i,none⟩::xs,⟨own,ax,e⟩⟩:=eW l[J] (aO ba) O k af
def agw(O:a5 (dZ aA aX) x=some (.b6 z α ah l))(af:a5 (dZ aA aX) i=some (.i bD (J:Int)))(ba:J<l.length)(k:bM.ok an ⟨K,.d aP a9 ((d,.ip<|ah l[J])::aX) aT bU,⟨own,ax,(d,.ip<|ah l[J])::e⟩⟩)(ay:back<aT:=by decide):bM.ok an ⟨K,.d ((⟨some d,.iC z x i,none⟩,.read back aA)::aP) a9 aX aT bU,⟨own,ax,e⟩⟩:=fy l[J] (aO ba) O k af ay
def agx{a8:Nat}{a:ag}(O:a5 e x=some (.fi a8 z J q))(aw:own[a8]? =some (.a el aR z α ah l))(ba:J<l.length)(cD:(ah l[J])[q]? =some a)(k:bM.ok an ⟨K,.U xs,⟨own,ax,(d,a)::e⟩⟩):bM.ok an ⟨K,.U<|⟨some d,.iv x,none⟩::xs,⟨own,ax,e⟩⟩:=oy l[J] (aO ba) k O aw cD
def agy{a8 m:Nat}{cs:ac ag}(O:a5 (dZ aA aX) x=some (.fi a8 z J q))(aw:a9[a8]? =some (.a el aR z α ah l))(ba:J<l.length)(cD:qZ (ah l[J]) q m (λl=>some l)=some cs)(k:bM.ok an ⟨K,.d aP a9 ((d,.agg cs)::aX) aT bU,⟨own,ax,(d,.agg cs)::e⟩⟩)(ay:back<aT:=by decide):bM.ok an ⟨K,.d ((⟨some d,.mV m x,none⟩,.read back aA)::aP) a9 aX aT bU,⟨own,ax,e⟩⟩:=ey l[J] (aO ba) k O aw cD ay
structure SY(Q:Prop):Prop where
 k:Q
theorem JL(k:Q)(h:SY Q->P:=by
 intro k
 repeat first
  |refine fE j ?_
  |refine agt j j (by first|assumption|omega) ?_
  |refine agu j j (by first|assumption|omega) ?_
  |refine agv j j (by first|assumption|omega) ?_
  |refine agw j j (by first|assumption|omega) ?_
  |refine lF j j ?_
  |refine cP j j ?_
  |refine nE ?_
  |refine agx j j (by first|assumption|omega|(simp;omega)) j ?_
  |refine agy j j (by first|assumption|omega|(simp;omega)) j ?_
 exact k.k):P:=h ⟨k⟩
def zA(h:SY Q->P:=by intro k;(repeat refine fE j ?_);exact k.k):Q->P:=λk=>h ⟨k⟩
variable{S:df}{l:S.L}{res:ac gS}{s:cb}{r:ag}{x:c6}{call:bN}{a6:Nat}{fn:d7}{a1:bb}{i0:ac Nat}{aq:ak}{g:bM}
def k5(u:bz r (S.res l))(z:bM.ok ⟨call,a6,fn,a1,i0,aq,Fin S l res⟩ ⟨[],.x x,s⟩->bM.ok ⟨call,a6,fn,a1,i0,aq,Fin S l res⟩ g:=by exact zA)(aC:Fin.kH s res=some r:=by rfl)(aI:h1 r=true:=by rfl)(he:x= .ret\/x= .norm:=by first|exact .inl j|exact .inr j):bM.ok ⟨call,a6,fn,a1,i0,aq,Fin S l res⟩ g:=z<|bp u aC aI he
def u6(h:r=S.res l)(z:bM.ok ⟨call,a6,fn,a1,i0,aq,Fin S l res⟩ ⟨[],.x x,s⟩->bM.ok ⟨call,a6,fn,a1,i0,aq,Fin S l res⟩ g:=by exact zA)(aC:Fin.kH s res=some r:=by rfl)(aI:h1 r=true:=by rfl)(he:x= .ret\/x= .norm:=by first|exact .inl j|exact .inr j):bM.ok ⟨call,a6,fn,a1,i0,aq,Fin S l res⟩ g:=k5 (.of h) z aC aI he
def SZ(z:bM.ok ⟨call,a6,fn,a1,i0,aq,Fin S l res⟩ ⟨[],.x x,s⟩->bM.ok ⟨call,a6,fn,a1,i0,aq,Fin S l res⟩ g:=by exact zA)(aC:Fin.kH s res=some (S.res l):=by rfl)(aI:h1 (S.res l)=true:=by rfl)(he:x= .ret\/x= .norm:=by first|exact .inl j|exact .inr j):bM.ok ⟨call,a6,fn,a1,i0,aq,Fin S l res⟩ g:=u6 j z aC aI he
variable{L:Type _}{A:L->Prop}{T:L->cb}{p m:Nat}{cO:L->Nat}
def zB(f:ac Nat)(w:L)(Z:A w)(z:bM.ok an ⟨.b4 (k2 p A T)::K,.x .norm,s⟩->bM.ok an g:=by exact zA)(h:Sub p f s (T w):=by first|exact fU|exact fU (aI:=by repeat first|exact az|refine⟨j,?_⟩|refine⟨kt,?_⟩|refine⟨p0,?_⟩)):bM.ok an g:=z<|bB f w Z h
variable{a b:du}{U:ce}
def zC(bR:P->bM.ok an ⟨K,.c a,s⟩)(ay:¬P->bM.ok an ⟨K,.c b,s⟩)(z:bM.ok an ⟨K,.c<|.cond U a b,s⟩->bM.ok an g:=by exact zA)(aQ:a5 s.env U=some (.b<|decide P):=by rfl):bM.ok an g:=z<|cT bR ay aQ
def rf(P:L->Prop)(T:L->cb)(cO:L->Nat)(f0:ac Nat)(N:L)(Z:P N)(h:∀l,P l->bM.ok an ⟨.b4 (k2 an.i0.length (λbo=>cO bo<cO l/\P bo) T)::K,.c b,T l⟩)(z:bM.ok an ⟨K,.c<|.loop b,s⟩->bM.ok an g:=by exact zA)(hm:cO N<an.a6:=by(show _<bs+1;unfold bs;first|omega|(dsimp only;omega)))(bX:Sub an.i0.length f0 s (T N):=by first|exact fU|exact fU (aI:=by repeat first|exact az|refine⟨j,?_⟩|refine⟨kt,?_⟩|refine⟨p0,?_⟩)):bM.ok an g:=z<|ea P T cO f0 N Z hm bX h
end
