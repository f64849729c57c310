/- Rules for what a function computes on abstract states (part 2); no condition. -/
import Derived.Test.YtcfbdmddggcjgaaGreatDoorS1
set_option linter.all false
namespace Go.az
open Sym
set_option maxRecDepth 10000
theorem Rk{X:Ctx}{K:FuncId->List Value->aw->Value->aw->Prop}{f:FuncId}(h:K f=fun _ _ _ _=>False)(as:List Value)(st:aw):en X K f as st=none:=by
 unfold en;rw[dif_neg];rintro⟨p,J,_⟩;rw[h]at J;exact J
theorem eL.trans{dc H cc:bY}{i0 ids dA:List Nat}{a4 st st':aw}(h:eL dc i0 a4 H ids st)(aL:eL H ids st cc dA st'):eL dc i0 a4 cc dA st':=by
 have hn:∀b,b<a4.aj->b∉i0->b<st.aj∧b∉ids:=fun b hb ag=>⟨gf hb h.aj,fun hm=>(h.new b hm).elim ag (fun h=>by omega)⟩;refine⟨h.hle.trans aL.hle,fun b hb ag=> ?_,fun b hb ag=> ?_,Nat.le_trans h.aj aL.aj,fun k b ae=>aL.l0 k b (h.l0 k b ae),fun b hb=> ?_⟩
 ·obtain⟨J,U⟩:=hn b hb ag;rw[aL.hold b J U,h.hold b hb ag]
 ·obtain⟨J,U⟩:=hn b hb ag;rw[aL.iB b J U,h.iB b hb ag]
 ·rcases aL.new b hb with J|J
  ·exact h.new b J
  ·exact .inr (Nat.le_trans h.aj J)
section
variable{X:Ctx}{a7:au aK}{eh:FuncId->List Value->aw->Value->aw->Prop}{a9 n:Nat}{fn:FuncId}{dc:bY}{i0:List Nat}{a4:aw}{Q:ee->di->Prop}{K:List gg}{own:List bJ}{a3:Nat}{e:cf}
def UN(aP:hR)(K:List gg)(xs:List bB)(d:Option Tmp)(e:cf)(res:List iu)(x:ee)(s:di):Prop:=(x= .norm∨x= .ret)∧∃r,Fin.vZ s res=some r∧bl.ok aP ⟨K,.o xs,⟨s.own,s.n,gv d r e⟩⟩
theorem vV{g:FuncId}(xf:aK)(aa:a7.get g=some xf){fZ:List Operand}{as:List al}{d:Option Tmp}{xs:List bB}
 (k:∀H1 i1 s1,i1.length=own.length->dZ dc H1->bl.ok ⟨dx a7 (en X eh) (n+1),n+1,g,H1,i1,s1,UN ⟨dx a7 (en X eh) (n+2),a9,fn,dc,i0,a4,Q⟩ K xs d e xf.res⟩ ⟨[],.c xf.body,⟨own,a3,nB 0 as⟩⟩)
 (a2:nR e fZ=some as:=by rfl) (hl:as.length<=xf.ay:=by exact jk rfl) (eZ:eh g=fun _ _ _ _=>False:=by rfl):bl.ok ⟨dx a7 (en X eh) (n+2),a9,fn,dc,i0,a4,Q⟩ ⟨K,.o (⟨d,.call (.func g) fZ,none⟩::xs),⟨own,a3,e⟩⟩:=by
 intro H ids st fr bC aA af;have ax:=af.fv a2;have gr:=k H ids st (aA.len.trans aA.cQ.symm) bC.hle H ids st (gq (fv fr fZ)) (eL.refl _ _ _) aA (dk.zero ax);obtain⟨v,st',J,r,cc,dA,s,fl,eC,hX,ae⟩:=Cx (n:=n+1) (f:=g) (Post:=fun v st'=>∃(r:al) (cc:bY) (dA:List Nat) (s:di),eL H ids st cc dA st'∧Fit cc dA st' s.own s.n∧den cc r dA v∧bl.ok ⟨dx a7 (en X eh) (n+2),a9,fn,dc,i0,a4,Q⟩ ⟨K,.o xs,⟨s.own,s.n,gv d r e⟩⟩)
  (by rw[hH ax];exact hl) (gr.mono (by
   rintro x eX cR ⟨cc,dA,s,fl,eC,eD,aa,r,aF,ae⟩;obtain⟨v,ah,aC⟩:=FZ (call:=dx a7 (en X eh) (n+1)) eC eD aF;exact⟨aa,v,aC,r,cc,dA,s,fl,eC,ah,ae⟩))
 refine Gr (v:=v) (st':=st') ?_ (ae cc dA st' _ (bC.trans fl) eC ((af.mono fl.hle fl.l0).gv d hX));rw[Bf];show uH (dx a7 (en X eh) (n+2) (.func (.func g) #[] #[]) (fv fr fZ) none st) _ _=_;rw[zp];have bR:gL (#[]:Array Value).toList (gL (fv fr fZ) (#[]:Array Value).toList)=fv fr fZ:=by simp
 rw[bR,Rk eZ,Sym.h3,Sym.h3,aa,Sym.eU,J];rfl
end
theorem He{H:bY}{ids:List Nat}{α:Type}{R:α->List al}{z:Nat}(a8:∀w,(R w).length=z):∀{l:List α} {vs:List Value},iH H ids R z l vs->ei H (l.flatMap R) ids vs
 |[],vs,h=>by
  have:vs=[]:=List.eq_nil_of_length_eq_zero (by rw[h.1];simp);exact this
 |w::l,vs,h=>by
  rw[<-List.take_append_drop z vs,List.flatMap_cons];have J:=h.2 0 w (by simp);rw[Nat.zero_mul,List.drop_zero]at J;have U:=wJ h 1;rw[Nat.one_mul]at U;exact CU J (He a8 (l:=l) U)
section
variable{aP:hR}{K:List gg}{own bZ:List bJ}{a3 cI:Nat}{e:cf}{d:Tmp}{xs:List bB}{x y i:Operand}
theorem ajI(k:Nat){z:Nat}{el:TypeId}{α:Type}{R:α->List al}{l:List α}{p:List bB}(cH:bl.ok aP ⟨K,.o p,⟨bZ,a3,e⟩⟩)(ae:own[k]? =some (.a el false z α R l):=by rfl)(a8:∀w,(R w).length=z:=by exact fun _=>rfl)(ao:kb own k (.c el (l.flatMap R)) some=some bZ:=by rfl):bl.ok aP ⟨K,.o p,⟨own,a3,e⟩⟩:=fun H ids st fr bC aA af=>by
 have:=lJ ao;cases this;refine cH H ids st fr bC ⟨aA.wf,aA.le,by simp[aA.cQ],aA.len,aA.dr,aA.lt,?_⟩ af;intro j q c hj hc;by_cases ln:k=j
 ·subst ln;rw[List.getElem?_set,if_pos rfl]at hj;split at hj<;>cases hj;obtain⟨⟨vs,ah,aC,a5⟩,ch⟩:=aA.own k _ c ae hc;exact⟨⟨vs,ah,He a8 ⟨aC,a5⟩⟩,fun _=>ch rfl⟩
 ·rw[List.getElem?_set,if_neg ln]at hj;exact aA.own j q c hj hc
theorem ajN(t:Nat){k z:Nat}{el:TypeId}{aR:Bool}{α:Type}{R:α->List al}{l:List α}{p:List bB}(cH:bl.ok aP ⟨K,.o p,⟨bZ,a3,(t,.ip (l.flatMap R))::e⟩⟩)(aX:fc e t=some (.p k 0):=by rfl)(ae:own[k]? =some (.a el aR z α R l):=by rfl)(hp:∀x,jL (R x)=true:=by exact fun _=>rfl)(a8:∀w,(R w).length=z:=by exact fun _=>rfl)(ao:kb own k .x some=some bZ:=by rfl):bl.ok aP ⟨K,.o p,⟨own,a3,e⟩⟩:=fun H ids st fr bC aA af=>by
 have:=lJ ao;cases this;obtain⟨b,aW,a0⟩:=af.get t _ aX;obtain⟨⟨vs,bx,cK,dn⟩,_⟩:=aA.own k _ b ae aW;have hle:=Dc aA ae rfl aW;refine cH (lk H st b) ids st fr (bC.lk aA ae rfl aW) (aA.lk ae rfl aW) ⟨(af.mono hle (dO.refl _)).pl,fun j q hj=> ?_⟩;rw[qx]at hj;cases hb:Nat.beq t j with
 |false=>rw[hb]at hj;exact(af.mono hle (dO.refl _)).get j q hj
 |true=>
  rw[hb]at hj;cases hj;rw[<-dY hb];have hc:iH H [] R z l vs:=⟨cK,fun i x aa=>qa _ (hp x) (dn i x aa) []⟩;have ax:=He a8 hc;have hl:=hH ax;refine⟨b,0,vs,el,(0,0),aR,a0,by unfold lk;rw[if_pos rfl];exact bx,?_⟩;rw[List.drop_zero,<-hl,List.take_length];exact mn hle _ (dO.refl _) ax
theorem Tk{call:bP}{el:TypeId}{dw:Nat}{s:di}{l:List UInt8}(aJ:bN s.env y=some (.s l)):uc call el dw s y jP 1 l:=fun H ids st fr aA af x p n c aa=>by
 have J:fr.an y= .string ⟨⟨l⟩⟩:=af.an aJ;obtain⟨U,ah⟩:=Nb H ids l;refine⟨kx l,U,ah,?_⟩;have e:cb call (.app el 1 dw x y) fr st=jh (fr.an x) (fun base len cap=>jh (fr.an y) (fun b n _=>bo b (fun b=>st.load b (Nat.mul n 1) (fun new=>cond (gS new) (ki fr st el 1 dw base len cap n new) .no) .no) (ea n 0 (ki fr st el 1 dw base len cap 0 []) .no)) (ik (fr.an y) (fun s=>ea 1 1 (ki fr st el 1 dw base len cap (ef s.data.toList) (kx s.data.toList)) .no) .no)) .no:=rfl;rw[e,aa,o6,J];show ea 1 1 (ki fr st el 1 dw p n c (ef l) (kx l)) .no=_;rw[jE rfl,fx]
theorem ajG{dw:Nat}{el:TypeId}{l:List UInt8}(k:bl.ok aP ⟨K,.o xs,⟨bZ,cI,(d,.bH a3 1 0 l.length l.length)::e⟩⟩)(aa:bN e x=some .nl:=by rfl)(aJ:bN e y=some (.s l):=by rfl)
 (ao:pV own (.a el true 1 UInt8 jP l) some=some bZ:=by rfl) (lp:nV a3 some=some cI:=by rfl) (h0:l≠[]:=by first|rfl|simp) (hb:(2*l.length+768)*(dw+1)<=1099511627776:=by first|omega|(simp;done)|(simp;omega)):bl.ok aP ⟨K,.o (⟨some d,.app el 1 dw x y,none⟩::xs),⟨own,a3,e⟩⟩:=by
 have J:=qN ao;have U:=pI lp;cases J;cases U;exact gH (L2 (s:=⟨own,a3,e⟩) aa (Tk aJ) h0 hb) k
theorem ajF{dw bu n c:Nat}{el:TypeId}{l m:List UInt8}{ig:List bJ}(k:bl.ok aP ⟨K,.o xs,⟨bZ,cI,(d,.bH a3 1 0 (n+m.length) (n+m.length))::e⟩⟩)(aa:bN e x=some (.bH bu 1 0 n c):=by rfl)(aJ:bN e y=some (.s m):=by rfl)(ae:own[bu]? =some (.a el true 1 UInt8 jP l):=by rfl)
 (uZ:kb own bu .x some=some ig:=by rfl) (ao:pV ig (.a el true 1 UInt8 jP (l++m)) some=some bZ:=by rfl) (lp:nV a3 some=some cI:=by rfl) (h0:m≠[]:=by first|rfl|simp) (hn:n=l.length:=by first|omega|(simp;done)|(simp;omega)) (ko:n=c:=by omega) (hb:(2*(n+m.length)+768)*(dw+1)<=1099511627776:=by first|omega|(simp;done)|(simp;omega)):bl.ok aP ⟨K,.o (⟨some d,.app el 1 dw x y,none⟩::xs),⟨own,a3,e⟩⟩:=by
 have jo:=lJ uZ;cases jo;have J:=qN ao;have U:=pI lp;cases J;cases U;have:=L1 (call:=aP.call) (s:=⟨own,a3,e⟩) (dw:=dw) aa ae (Tk aJ) h0 (by omega) (by omega) (by omega) hb;rw[hn,List.take_length]at this;rw[hn]at k;exact gH this k
theorem ajP{n bu j:Nat}{cH:IntKind}(k:bl.ok aP ⟨K,.o xs,⟨own,a3,(d,.gG bu 1 j 0)::e⟩⟩)(aa:bN e x=some (.p bu 0):=by rfl)(ag:bN e i=some (.i cH (j:Int)):=by rfl)(hj:j<n:=by omega):bl.ok aP ⟨K,.o (⟨some d,.tc n 1 x i,none⟩::xs),⟨own,a3,e⟩⟩:=
 gH (fun H ids st fr aA af=>let⟨v,st',dA,cc,J,U,ah,aC⟩:=ack (call:=aP.call) (s:=⟨own,a3,e⟩) (z:=1) aa ag hj H ids st fr aA af;⟨v,st',dA,cc,J,U,ahH (by omega) _ _ _ ah,aC⟩) k
theorem ajO{n g j:Nat}{cH:IntKind}{vs:List Value}{el:TypeId}{bt:Nat×Nat}{aR:Bool}{cs:List al}(aZ:aP.dc g=some (.cells vs el bt aR))(ax:∀H,ei H cs [] vs)(k:bl.ok aP ⟨K,.o xs,⟨own,a3,(d,.ip (cs.drop j))::e⟩⟩)(aa:bN e x=some (.v (.pointer (some ⟨g,0,none⟩))):=by rfl)(ag:bN e i=some (.i cH (j:Int)):=by rfl)(hj:j<n:=by omega):bl.ok aP ⟨K,.o (⟨some d,.tc n 1 x i,none⟩::xs),⟨own,a3,e⟩⟩:=by
 have:=aci (call:=aP.call) (s:=⟨own,a3,e⟩) (z:=1) aa aZ ax ag hj;rw[Nat.mul_one]at this;exact KA (d:=some d) this k
end
section
variable{call:bP}{s:di}{x y:Operand}
theorem NQ{neg c:Bool}{t:n8}{fr:aQ}{st:aw}(hc:jV 8 t (fr.an x) (fr.an y)=some c):cb call (.eqv neg t x y) fr st= .ok (.bool (lf neg c)) fr st:=by
 show bo (jV 8 t (fr.an x) (fr.an y)) (fun b=>aY.ok (.bool (cond neg (!b) b)) fr st) .no=_;rw[hc];rfl
theorem Y0{neg:Bool}(aa:bN s.env x=some (.v (.pointer none)))(aJ:bN s.env y=some (.v (.pointer none))):fT call (.eqv neg .ptr x y) s (.b (lf neg true)) s.own s.n:=j6 fun H ids st fr aA af=>
 ⟨_,rfl,NQ (by rw[show fr.an x=_ from af.an aa,show fr.an y=_ from af.an aJ];simp[jV,qe])⟩
theorem Y1{neg:Bool}{k o:Nat}(aa:bN s.env x=some (.p k o))(aJ:bN s.env y=some (.p k o)):fT call (.eqv neg .ptr x y) s (.b (lf neg true)) s.own s.n:=j6 fun H ids st fr aA af=>by
 obtain⟨b,J,U⟩:=af.an aa;obtain⟨fF,jY,ah⟩:=af.an aJ;rw[J]at jY;cases jY;exact⟨_,rfl,NQ (by rw[U,ah];simp[jV,qe])⟩
end
section
variable{aP:hR}{K:List gg}{own bZ b9 ig:List bJ}{a3 bw cJ back:Nat}{e bR:cf}{d:Tmp}{ts:List Tmp}{xs:List (bB×c0)}{x y i:Operand}
theorem Ya{bu z n c:Nat}(k:bl.ok aP ⟨K,.d xs b9 ((d,.p bu 0)::bR) bw cJ,⟨own,a3,(d,.p bu 0)::e⟩⟩)(aa:bN (fg ts bR) x=some (.bH bu z 0 n c):=by rfl)(hc:c≠0:=by omega)(hb:back<bw:=by decide):bl.ok aP ⟨K,.d ((⟨some d,.BH x,none⟩,.read back ts)::xs) b9 bR bw cJ,⟨own,a3,e⟩⟩:=
 ph (d:=some d) (a:=.p bu 0) hb (fun H ids st fr af _ _=>by
  obtain⟨b,J,U⟩:=af.an aa;refine⟨_,⟨b,J,rfl⟩,fun cS _ _=> ?_⟩;show EM x aP.call fr cS=_;unfold EM;rw[U,o6,Nat.zero_mul,Sym.eU,ri hc]) k
theorem Yc{bu n:Nat}{el:TypeId}{aR:Bool}{l:List UInt8}{cH:IntKind}{aG:cf}(k:bl.ok aP ⟨K,.d xs ig aG (bw+1) a3,⟨bZ,a3,(d,.s l)::e⟩⟩)(aa:bN e x=some (.p bu 0):=by rfl)(aJ:bN e y=some (.i cH (n:Int)):=by rfl)(ae:own[bu]? =some (.a el aR 1 UInt8 jP l):=by rfl)(ao:kb own bu .x some=some bZ:=by rfl)(uZ:Bh b9 (some bu) some=some ig:=by rfl)(Dy:ot d bR=aG:=by rfl)
 (hn:n=l.length:=by first|rfl|omega|(simp;done)) (h0:n≠0:=by omega) (hb:n<=1099511627776:=by omega):bl.ok aP ⟨K,.d ((⟨some d,.tT el x y,none⟩,.fe)::xs) b9 bR bw cJ,⟨own,a3,e⟩⟩:=by
 have h:=lJ ao;cases h;obtain⟨ai2,aW,a0,bx⟩:=JP uZ;cases aW;subst Dy;exact Hk (d:=some d) (s:=⟨own,a3,e⟩) (amx (s:=⟨own,a3,e⟩) aa aJ ae hn h0 hb) a0 (fun k o fJ hl=>by
  have:=bx k o fJ hl;simp only[j3,aa];exact this) k
end
theorem al9{own:List bJ}{n p:Nat}{e cj:cf}{o q:bJ}(h:pb [0,2] cj e)(ao:∃cg,own[0]? =some cg∧me [0,2] o cg)(hq:∃cg,own[2]? =some cg∧me [0,2] q cg)(hp:pinned p [0,2] 0=true:=by rfl):Sub p [0,2] ⟨own,n,e⟩ ⟨[o,q],2,cj⟩:=⟨by simp,rfl,⟨ao,hq,trivial⟩,h,hp⟩
def plainO:dH->Bool
 |.na _=>true
 |.alloc _ _=>true
 |.call _ _=>true
 |_=>false
theorem aiO{call:bP}{o:dH}{fr aE:aQ}{st st':aw}{v:Value}(ao:plainO o=true)(h:cb call o fr st= .ok v aE st'):aE=fr:=by
 cases o<;>first|cases ao|skip
 ·cases h;rfl
 ·rename_i z el;have e:cb call (.alloc z el) fr st=st.iS (.cells z el (0,0) false) fun id st=>.ok (.pointer (some ⟨id,0,none⟩)) fr st:=rfl;rw[e,gF]at h;cases h;rfl
 ·rename_i f as;rw[Bf]at h;cases hc:call (fr.an f) (fv fr as) none st with
  |ret v1 cR eB=>rw[hc,Zt]at h;cases h;rfl
  |bh v1 cR eB=>rw[hc,Zs]at h;cases h
  |no=>rw[hc]at h;cases h
theorem Rh{call:bP}:∀{ops:List bB} {fr aE:aQ} {st st':aw} {e:ee},(ops.all fun x=>x.g.isNone&&plainO x.o)=true->hJ call ops fr st= .out e aE st'->aE.b3=fr.b3
 |[],_,_,_,_,_,_,h=>by cases h;rfl
 |⟨d,o,g⟩::ops,fr,aE,st,st',e,a2,h=>by
  rw[List.all_cons,b2,b2]at a2;obtain⟨⟨aZ,ao⟩,a2⟩:=a2;cases g with
  |some p=>cases aZ
  |none=>
   have h:yc (cb call o fr st) (fun v fr st=>hJ call ops (fr.put d v) st) (fun v st=>cond o.mT (.out (.bh v) fr st) .no)= .out e aE st':=h;have ao:plainO o=true:=ao;cases dK:cb call o fr st with
   |ok v eX cR=>
    have aG:=aiO ao dK;subst aG;rw[dK,JF]at h;rw[Rh a2 h];exact(tB _ _ _).2.2.2
   |bh v cR=>
    rw[dK,aiH]at h;cases hp:o.mT with
    |true=>rw[hp,cond_true]at h;cases h;rfl
    |false=>rw[hp,cond_false]at h;cases h
   |no=>rw[dK,aiG]at h;cases h
theorem seg{call:bP}{a9:Nat}{fn:FuncId}{ops:List bB}{s t:di}{H:bY}{ids:List Nat}{st:aw}{fr:aQ}(hp:(ops.all fun x=>x.g.isNone&&plainO x.o)=true)(h:∀H1 i1 s1,i1.length=s.own.length->dZ H H1->bl.ok ⟨call,a9,fn,H1,i1,s1,fun x br=>x= .norm∧br=t⟩ ⟨[],.o ops,s⟩)
 (aA:Fit H ids st s.own s.n) (af:dk fr H ids s.env):∃aE st' cc dA,dD call a9 fn (.r9 ops) fr st= .out .norm aE st'∧eL H ids st cc dA st'∧Fit cc dA st' t.own t.n∧dk aE cc dA t.env∧aE.b3=fr.b3:=by
 obtain⟨e,aE,st',J,cc,dA,br,bC,eC,eD,rfl,rfl⟩:=h H ids st (aA.len.trans aA.cQ.symm) (dZ.refl _) H ids st fr (eL.refl _ _ _) aA af;exact⟨aE,st',cc,dA,J,bC,eC,eD,Rh hp J⟩
theorem Fit.extra{H:bY}{ids:List Nat}{st:aw}{own:List bJ}{n:Nat}(h:Fit H ids st own n)(ez:bL):Fit H ids ⟨st.h.set st.aj ez,st.aj+1⟩ own n:=by
 have cx:∀b,b<st.aj->(au.set st.h st.aj ez).get b=st.h.get b:=fun b hb=>au.ht _ _ (by omega);refine⟨fun i ag=> ?_,fun b o hb=> ?_,h.cQ,h.len,h.dr,fun b hb=>Nat.lt_succ_of_lt (h.lt b hb),fun k o b ae hb=> ?_⟩
 ·show(au.set st.h st.aj ez).get i=none;have ag:st.aj+1<=i:=ag;rw[au.ht _ _ (by omega)];exact h.wf i (by omega)
 ·show(au.set st.h st.aj ez).get b=some o;rw[cx b (h.bO hb)];exact h.le b o hb
 ·show lR H ids o ((au.set st.h st.aj ez).get b)∧_;rw[cx b (h.lt b (List.mem_of_getElem? hb))];exact h.own k o b ae hb
theorem Fit.other{H:bY}{ids:List Nat}{st:aw}{own:List bJ}{n l:Nat}(h:Fit H ids st own n)(hl:l<st.aj)(ag:l∉ids)(gT:H l=none)(ez:bL):Fit H ids ⟨st.h.set l ez,st.aj⟩ own n:=by
 refine⟨fun i dS=> ?_,fun b o hb=> ?_,h.cQ,h.len,h.dr,h.lt,fun k o b ae hb=> ?_⟩
 ·show(au.set st.h l ez).get i=none;have dS:st.aj<=i:=dS;rw[au.ht _ _ (by omega)];exact h.wf i dS
 ·show(au.set st.h l ez).get b=some o;rw[au.ht _ _ (fun e=>by rw[e,gT]at hb;cases hb)];exact h.le b o hb
 ·show lR H ids o ((au.set st.h l ez).get b)∧_;rw[au.ht _ _ (by intro e;subst e;exact ag (List.mem_of_getElem? hb))];exact h.own k o b ae hb
theorem dO.eq{i j:List Nat}(h:dO i j)(hl:i.length=j.length):i=j:=by
 apply List.ext_getElem?;intro k;by_cases ae:k<i.length
 ·rw[cA ae,h k _ (cA ae)]
 ·rw[List.getElem?_eq_none (by omega),List.getElem?_eq_none (by omega)]
def JQ:List Tmp->List al->cf->cf
 |t::ts,a::as,e=>JQ ts as ((t,a)::e)
 |_,_,e=>e
theorem dk.par{H:bY}{ids:List Nat}{c8:List Deferred}{bh:Option Value}{eB:Bool}{FV:Option Nat}:∀{ts:List Tmp} {as:List al} {vs:List Value} {t:au Value} {e:cf},ei H as ids vs->dk ⟨t,c8,bh,eB,FV⟩ H ids e->dk ⟨mJ ts vs t,c8,bh,eB,FV⟩ H ids (JQ ts as e)
 |[],[],_,_,_,_,h=>h
 |[],_::_,_,_,_,_,h=>h
 |_::_,[],vs,t,e,d,h=>by cases d;exact h
 |p::ts,a::as,_,t,e,⟨v,ws,rfl,d1,d2⟩,h=>by
  have J:=h.put p d1;have aG:(⟨t,c8,bh,eB,FV⟩:aQ).put (some p) v=⟨t.set p v,c8,bh,eB,FV⟩:=by
   rw[JX]
  rw[aG]at J;have:=dk.par (ts:=ts) (as:=as) (vs:=ws) d2 J;have e2:mJ (p::ts) (v::ws) t=mJ ts ws (t.set p v):=by
   show au.hM (Nat.succ p) t p v (fun m=>mJ ts ws m)=_;rw[au.v5]
  rw[e2];exact this
theorem akc{l:Nat}{fr:aQ}{st:aw}(ax:fr.c8=[]){s:LoopState}{fO:Option ee}{fn:FuncId}{t:au Value}{ps:List Tmp}{a b:du}{d:Nat}(aZ:st.h.get l=some (.loop s fO fn t ps a b d)):o3 l (.out .norm fr st)= .ret (.bool true) ⟨st.h.set l (.loop .ready none fn t ps a b d),st.aj⟩ false:=by
 have e:o3 l (.out .norm fr st)=List.rec (motive:=fun _=>dC) (lz (st.h.get l) (fun _ _ fn t ps a b d=>st.gN l (.loop .ready none fn t ps a b d) fun st=>.ret (.bool true) st false) .no) (fun _ _ _=>.no) fr.c8:=rfl;rw[e,ax,aZ];show(st.gN l (.loop .ready none fn t ps a b d) fun st=>dC.ret (.bool true) st false)=_;rw[jy]
section
variable{X:Ctx}{a7:au aK}{eh:FuncId->List Value->aw->Value->aw->Prop}{a9 n:Nat}{fn:FuncId}{dc:bY}{i0:List Nat}{a4:aw}{Q:ee->di->Prop}{K:List gg}{own:List bJ}{a3:Nat}{e:cf}
def UW(aP:hR)(K:List gg)(xs:List bB)(d:Option Tmp)(e:cf)(a3:Nat)(x:ee)(s:di):Prop:=x= .norm∧∃bZ f,f.length=a3∧Sub a3 f s ⟨bZ,a3,[]⟩∧bl.ok aP ⟨K,.o xs,⟨bZ,a3,gv d (.b true) e⟩⟩
theorem ajW{l kJ:Nat}{mr:FuncId}{n4:au Value}{ps:List Tmp}{dy body:du}{ny e2:cf}{y:Operand}{fZ:List Operand}{as:List al}{d:Option Tmp}{xs:List bB}
 (hl:a4.h.get l=some (.loop .ready none mr n4 ps dy body kJ)) (pw:l<a4.aj) (gA:l∉i0) (gT:dc l=none) (aX:dk ⟨n4,[],none,false,some l⟩ dc i0 ny)
 (ahj:∀H1 i1 s1,bl.ok ⟨dx a7 (en X eh) (n+1),n+1,mr,H1,i1,s1,fun x s=>x= .norm∧s=⟨own,a3,e2⟩⟩ ⟨[],.c dy,⟨own,a3,JQ ps as ny⟩⟩)
 (ahk:∀H1 i1 s1,i1.length=own.length->dZ dc H1->bl.ok ⟨dx a7 (en X eh) (n+1),n+1,mr,H1,i1,s1,UW ⟨dx a7 (en X eh) (n+2),a9,fn,dc,i0,a4,Q⟩ K xs d e a3⟩ ⟨[],.c body,⟨own,a3,e2⟩⟩)
 (aJ:bN e y=some (.v (.func (.yield l) #[] #[])):=by rfl) (a2:nR e fZ=some as:=by rfl) (hlen:as.length=ps.length:=by rfl):
 bl.ok ⟨dx a7 (en X eh) (n+2),a9,fn,dc,i0,a4,Q⟩ ⟨K,.o (⟨d,.call y fZ,none⟩::xs),⟨own,a3,e⟩⟩:=by
 intro H ids st fr bC aA af;have bC:eL dc i0 a4 H ids st:=bC;have ax:=af.fv a2;have fK:fr.an y= .func (.yield l) #[] #[]:=af.an aJ;have xu:l∉ids:=fun hm=>(bC.new l hm).elim gA (fun h=>by have h:a4.aj<=l:=h;omega);have Ih:l<st.aj:=gf pw bC.aj;have j0:st.h.get l=some (.loop .ready none mr n4 ps dy body kJ):=(bC.iB l pw gA).trans hl;have z0:H l=none:=(bC.hold l pw gA).trans gT;have DL:ids.length=a3:=aA.len;obtain⟨ev,eX,cR,aW,H1,Pq,s1,m0,ox,H3,rfl,rfl⟩:=ahj H ids st H ids st ⟨mJ ps (fv fr fZ) n4,[],none,false,some l⟩ (eL.refl _ _ _) aA ((aX.mono bC.hle bC.l0).par ax);have aG:ids=Pq:=m0.l0.eq (DL.trans ox.len.symm);subst aG;have m0:eL H ids st H1 ids cR:=m0;have DD:cR.h.get l=some (.loop .ready none mr n4 ps dy body kJ):=(m0.iB l Ih xu).trans j0;have On:H1 l=none:=(m0.hold l Ih xu).trans z0;have jt:l<cR.aj:=gf Ih m0.aj;have uK:=ox.other jt xu On (.loop .busy none mr n4 ps dy body kJ);obtain⟨aor,HF,gx,bx,p2,qq,v3,sS,zX,aaJ,rfl,bZ,f,aaM,AB,ae⟩:=ahk H1 ids ⟨cR.h.set l (.loop .busy none mr n4 ps dy body kJ),cR.aj⟩ (ox.len.trans ox.cQ.symm) (bC.hle.trans m0.hle) H1 ids _ eX (eL.refl _ _ _) uK H3;have aaW:gx.h.get l=some (.loop .busy none mr n4 ps dy body kJ):=(sS.iB l jt xu).trans (au.pn _ _ _);have Z9:p2 l=none:=(sS.hold l jt xu).trans On;have Ic:l<gx.aj:=gf jt sS.aj;have vb:Sub ids.length f v3 ⟨bZ,a3,[]⟩:=by rw[DL];exact AB
 have Av:=JT (by omega) vb.EV sS.l0;have zY:=vb.fit zX;have jZ:=vb.bn zX sS;rw[Av]at zY jZ;have jZ:eL H1 ids ⟨cR.h.set l (.loop .busy none mr n4 ps dy body kJ),cR.aj⟩ p2 ids gx:=jZ;have Z6:=zY.other Ic xu Z9 (.loop .ready none mr n4 ps dy body kJ);have HW:dx a7 (en X eh) (n+2) (.func (.yield l) #[] #[]) (fv fr fZ) none st= .ret (.bool true) ⟨gx.h.set l (.loop .ready none mr n4 ps dy body kJ),gx.aj⟩ false:=by
  have bR:dx a7 (en X eh) (n+2) (.func (.yield l) #[] #[]) (fv fr fZ) none st=wu (dx a7 (en X eh) (n+1)) (n+1) l (fv fr fZ) st:=rfl;rw[bR];unfold wu;rw[j0];show ea (ef (fv fr fZ)) (ef ps) _ _=_;rw[jE (by rw[fx,fx,hH ax,hlen]),aW];show yF (dx a7 (en X eh) (n+1)) (n+1) l mr body eX cR=_;unfold yF;rw[DD];show(cR.gN l (.loop .busy none mr n4 ps dy body kJ) fun st=>o3 l (dD (dx a7 (en X eh) (n+1)) (n+1) mr body eX st))=_;rw[jy,bx];exact akc aaJ.pl.c8 aaW
 refine Gr (v:=.bool true) (st':=⟨gx.h.set l (.loop .ready none mr n4 ps dy body kJ),gx.aj⟩) ?_ (ae p2 ids _ _ ?_ Z6 ((af.mono (m0.hle.trans jZ.hle) (dO.refl _)).gv d rfl))
 ·rw[Bf,fK];show uH (dx a7 (en X eh) (n+2) (.func (.yield l) #[] #[]) (fv fr fZ) none st) _ _=_;rw[HW];rfl
 ·have hle:dZ H p2:=m0.hle.trans jZ.hle;refine⟨bC.hle.trans hle,fun b hb ag=> ?_,fun b hb ag=> ?_,Nat.le_trans bC.aj (Nat.le_trans m0.aj jZ.aj),bC.l0,bC.new⟩
  ·have hb:b<a4.aj:=hb;have xg:b∉ids:=fun hm=>(bC.new b hm).elim ag (fun h=>by have h:a4.aj<=b:=h;omega);have hv:b<st.aj:=gf hb bC.aj;exact(jZ.hold b (gf hv m0.aj) xg).trans ((m0.hold b hv xg).trans (bC.hold b hb ag))
  ·have hb:b<a4.aj:=hb;have xg:b∉ids:=fun hm=>(bC.new b hm).elim ag (fun h=>by have h:a4.aj<=b:=h;omega);have hv:b<st.aj:=gf hb bC.aj;show(au.set gx.h l _).get b=a4.h.get b;by_cases ru:b=l
   ·subst ru;rw[au.pn];exact hl.symm
   ·rw[au.ht _ _ ru];refine(jZ.iB b (gf hv m0.aj) xg).trans ?_;show(au.set cR.h l _).get b=a4.h.get b;rw[au.ht _ _ ru];exact(m0.iB b hv xg).trans (bC.iB b hb ag)
def UQ(Post:List bJ->Prop)(a3:Nat)(res:List iu)(x:ee)(s:di):Prop:=(x= .norm∨x= .ret)∧(∃r,Fin.vZ s res=some r)∧∃bZ f,f.length=a3∧Sub a3 f s ⟨bZ,a3,[]⟩∧Post bZ
theorem amT{H:bY}{ids:List Nat}{st:aw}{fr:aQ}(oK:fr.b3=none)(aA:Fit H ids st own a3)(af:dk fr H ids e){f:Operand}{ps:List Tmp}{dy body:du}{g:FuncId}{xf:aK}{caps:List al}(Post:List bJ->Prop)(aa:a7.get g=some xf)(gu:bN e f=some (.fn (.func g) [] caps))(eZ:eh g=fun _ _ _ _=>False)(Ip:caps.length+1<=xf.ay)
 (ahm:∀(s1:aw) (l:Nat),ids.length=own.length->s1.h.get l=some (.loop .ready none fn fr.t ps dy body st.aj)->l<s1.aj->l∉ids->H l=none->dk ⟨fr.t,[],none,false,some l⟩ H ids e->
  bl.ok ⟨dx a7 (en X eh) (n+2),n+2,g,H,ids,s1,UQ Post a3 xf.res⟩ ⟨[],.c xf.body,⟨own,a3,nB 0 (.v (.func (.yield l) #[] #[])::caps)⟩⟩):
 ∃aE st' cc bZ,dD (dx a7 (en X eh) (n+3)) a9 fn (.vY f ps dy body) fr st= .out .norm aE st'∧aE.t=fr.t∧aE.c8={target:=.collected st.aj,args:= #[]}::fr.c8∧aE.cL=fr.cL∧
  eL H ids st cc ids st'∧Fit cc ids st' bZ a3∧Post bZ∧st'.h.get st.aj=some (.h9 (some []))∧st.aj<st'.aj∧cc st.aj=none:=by
 obtain⟨vs,ws,aD,d1,d2⟩:=af.an gu;have d1:vs=[]:=d1;subst d1;have bO:∀b∈ids,b<st.aj:=aA.lt;have HM:∀b,st.aj<=b->H b=none:=fun b hb=>by
  cases h:H b with
  |none=>rfl
  |some o=>have:=aA.bO h;omega
 have Z7:=aA.extra (.h9 (some []));have Z8:=Z7.extra (.loop .ready none fn fr.t ps dy body st.aj);have aa5:=ahm ⟨(au.set st.h st.aj (.h9 (some []))).set (st.aj+1) (.loop .ready none fn fr.t ps dy body st.aj),st.aj+1+1⟩ (st.aj+1) (aA.len.trans aA.cQ.symm) (show(au.set (au.set st.h st.aj (.h9 (some []))) (st.aj+1) (.loop .ready none fn fr.t ps dy body st.aj)).get (st.aj+1)=_ from au.pn _ _ _) (Nat.lt_succ_self _) (fun hm=>by have:=bO _ hm;omega) (HM _ (Nat.le_succ _)) ⟨⟨rfl,rfl,rfl⟩,af.get⟩;have OD:ei H (.v (.func (.yield (st.aj+1)) #[] #[])::caps) ids (.func (.yield (st.aj+1)) #[] #[]::ws):=⟨_,ws,rfl,rfl,d2⟩;obtain⟨v,gx,J,p2,qq,v3,bZ,w8,sS,zX,aaM,AB,abv⟩:=Cx (n:=n+2) (f:=g) (Post:=fun v st'=>∃(cc:bY) (dA:List Nat) (s:di) (bZ:List bJ) (w8:List Nat),eL H ids _ cc dA st'∧Fit cc dA st' s.own s.n∧w8.length=a3∧Sub a3 w8 s ⟨bZ,a3,[]⟩∧Post bZ)
  (by rw[hH OD];exact Ip) ((aa5 H ids _ (gq _) (eL.refl _ _ _) Z8 (dk.zero OD)).mono (by
   rintro x eX cR ⟨cc,dA,s,fl,eC,eD,aa,⟨r,aF⟩,bZ,w8,J,U,ah⟩;obtain⟨v,aC,a5⟩:=FZ (call:=dx a7 (en X eh) (n+2)) eC eD aF;exact⟨aa,v,a5,cc,dA,s,bZ,w8,fl,eC,J,U,ah⟩))
 have DL:ids.length=a3:=aA.len;have vb:Sub ids.length w8 v3 ⟨bZ,a3,[]⟩:=by rw[DL];exact AB
 have Av:=JT (by omega) vb.EV sS.l0;have zY:=vb.fit zX;have jZ:=vb.bn zX sS;rw[Av]at zY jZ;have jZ:eL H ids ⟨(au.set st.h st.aj (.h9 (some []))).set (st.aj+1) (.loop .ready none fn fr.t ps dy body st.aj),st.aj+1+1⟩ p2 ids gx:=jZ;have anQ:st.aj+1+1<=gx.aj:=jZ.aj;have s4:∀b,st.aj<=b->b∉ids:=fun b hb hm=>by have:=bO _ hm;omega
 have Ac:gx.h.get (st.aj+1)=some (.loop .ready none fn fr.t ps dy body st.aj):=(jZ.iB _ (Nat.lt_succ_self _) (s4 _ (Nat.le_succ _))).trans (show(au.set (au.set st.h st.aj (.h9 (some []))) (st.aj+1) (.loop .ready none fn fr.t ps dy body st.aj)).get (st.aj+1)=_ from au.pn _ _ _);have xn:gx.h.get st.aj=some (.h9 (some [])):=by
  refine(jZ.iB st.aj (by show st.aj<st.aj+1+1;omega) (s4 _ (cd _))).trans ?_;show(au.set _ (st.aj+1) _).get st.aj=_;rw[au.ht _ _ (by omega),au.pn]
 have z0:p2 (st.aj+1)=none:=(jZ.hold _ (Nat.lt_succ_self _) (s4 _ (Nat.le_succ _))).trans (HM _ (Nat.le_succ _));have aaa:p2 st.aj=none:=(jZ.hold _ (by show st.aj<st.aj+1+1;omega) (s4 _ (cd _))).trans (HM _ (cd _));refine⟨⟨fr.t,{target:=.collected st.aj,args:= #[]}::fr.c8,fr.bh,fr.cL,fr.b3⟩,⟨gx.h.set (st.aj+1) (.loop .exhausted none fn fr.t ps dy body st.aj),gx.aj⟩,p2,bZ,?_,rfl,rfl,rfl,?_,zY.other (by omega) (s4 _ (Nat.le_succ _)) z0 _,abv,?_,by show st.aj<gx.aj;omega,aaa⟩
 ·show zM (dx a7 (en X eh) (n+3)) fn f ps dy body fr st=_;unfold zM;rw[oK,Sym.h3,gF,gF,aD,zp];have bR:gL (#[]:Array Value).toList (gL [Value.func (.yield (st.aj+1)) #[] #[]] (⟨ws⟩:Array Value).toList)=Value.func (.yield (st.aj+1)) #[] #[]::ws:=by simp
  show FW _ _ (bo none _ (bo (en X eh g (gL (#[]:Array Value).toList (gL [Value.func (.yield (st.aj+1)) #[] #[]] (⟨ws⟩:Array Value).toList)) _) _ (bo (a7.get g) _ _)))=_;rw[bR,Rk eZ,Sym.h3,Sym.h3,aa,Sym.eU,J];show lz (gx.h.get (st.aj+1)) _ _=_;rw[Ac];show(gx.gN (st.aj+1) (.loop .exhausted none fn fr.t ps dy body st.aj) fun st'=>bo none (fun e=>cC.out e _ st') (cC.out .norm _ st'))=_;rw[jy];rfl
 ·refine⟨jZ.hle,fun b hb ag=>jZ.hold b (by show b<st.aj+1+1;omega) ag,fun b hb ag=> ?_,by show st.aj<=gx.aj;omega,dO.refl _,fun b hb=>.inl hb⟩;show(au.set gx.h (st.aj+1) _).get b=_;rw[au.ht _ _ (by omega),jZ.iB b (by show b<st.aj+1+1;omega) ag];show(au.set (au.set st.h st.aj _) (st.aj+1) _).get b=_;rw[au.ht _ _ (by omega),au.ht _ _ (by omega)]
 ·show(au.set gx.h (st.aj+1) _).get st.aj=_;rw[au.ht _ _ (by omega)];exact xn
end
theorem Gq{call:bP}{a9:Nat}{fn:FuncId}{a b:du}{fr eX:aQ}{st cR:aw}{Q:ee->aQ->aw->Prop}(h:dD call a9 fn a fr st= .out .norm eX cR)(k:W (dD call a9 fn b eX cR) Q):W (dD call a9 fn (.seq a b) fr st) Q:=by
 rw[Hy,h];exact k
theorem akx{call:bP}{a9:Nat}{fn:FuncId}{a b:du}{fr eX mu:aQ}{st cR cS:aw}(h:dD call a9 fn a fr st= .out .norm eX cR)(k:dD call a9 fn b eX cR= .out .norm mu cS):dD call a9 fn (.seq a b) fr st= .out .norm mu cS:=by
 rw[Hy,h];exact k
theorem VR{call:bP}{a9:Nat}{fn:FuncId}{a:du}{i:Nat}{fr eX:aQ}{st cR:aw}(h:dD call a9 fn a fr st= .out .norm eX cR):dD call a9 fn (.block i a) fr st= .out .norm eX cR:=by
 rw[NS,h];rfl
theorem eL.other{dc H:bY}{i0 ids:List Nat}{a4 st:aw}(h:eL dc i0 a4 H ids st){r:Nat}(aF:a4.aj<=r)(ez:bL):eL dc i0 a4 H ids ⟨st.h.set r ez,st.aj⟩:=⟨h.hle,h.hold,fun b hb ag=>by
 show(au.set st.h r ez).get b=_;rw[au.ht _ _ (by omega)];exact h.iB b hb ag,h.aj,h.l0,h.new⟩
theorem MW{call:bP}{n:Nat}{f:FuncId}{xf:aK}{as:List Value}{st:aw}{Post:Value->aw->Prop}(hl:as.length<=xf.ay)
 (h:W (dD call n f xf.body (gq as) st) (fun e fr cR=>(e= .norm∨e= .ret)∧∃v st',lj call xf.res none fr cR= .ret v st' false∧Post v st')):
 ∃v st',oi call n f xf as none st= .ret v st' false∧Post v st':=by
 obtain⟨e,fr,cR,J,he,v,st',U,ah⟩:=h;refine⟨v,st',?_,ah⟩;unfold oi;rw[nQ,if_pos (by rw[fx];exact hl)];show cC.rec (motive:=fun _=>dC) _ _ (dD call n f xf.body (gq as) st)=_;rw[J];rcases he with rfl|rfl
 ·exact U
 ·exact U
theorem XU{X:Ctx}{a7:au aK}(dE:Good X)(hA:mi X a7)(K:FuncId->List Value->aw->Value->aw->Prop){f:FuncId}{xf:aK}(aa:a7.get f=some xf){S:Spec}(hl:∀l as st,S.pre l as st->as.length<=xf.ay)
 (h:∀l as st,S.pre l as st->W (dD (dx a7 (en X K) (cp+1)) (cp+1) f xf.body (gq as) st)
  (fun e fr cR=>(e= .norm∨e= .ret)∧∃v st',lj (dx a7 (en X K) (cp+1)) xf.res none fr cR= .ret v st' false∧S.post l as st v st')):ca X f S:=by
 intro as st ⟨l,hp⟩;obtain⟨v,st',J,U⟩:=MW (Post:=S.post l as st) (hl l as st hp) (h l as st hp);refine⟨v,st',fun l' jb=> ?_,Ss dE hA aa J⟩;obtain⟨v2,cS,aW,a0⟩:=MW (Post:=S.post l' as st) (hl l' as st jb) (h l' as st jb);rw[J]at aW;cases aW;exact a0
theorem Zh{call:bP}{t r:Nat}{fr:aQ}{st:aw}(ax:fr.c8=[{target:=.collected r,args:= #[]}])(aX:fr.cL=false)(aF:st.h.get r=some (.h9 (some []))):lj call [.tmp t] none fr st= .ret (fr.tmp t) ⟨st.h.set r (.h9 none),st.aj⟩ false:=by
 have e:jg call fr.c8 none st=some (none,⟨st.h.set r (.h9 none),st.aj⟩):=by
  rw[ax];simp only[jg,aF];rw[jy]
 unfold lj;rw[e,aX];rfl
theorem ajJ{aP:hR}{K:List gg}{own bZ:List bJ}{a3:Nat}{e:cf}{p:List bB}(k:Nat){el:TypeId}{cs:List al}(cs':List al)(hl:mc cs cs')(cH:bl.ok aP ⟨K,.o p,⟨bZ,a3,e⟩⟩)(ae:own[k]? =some (.c el cs):=by rfl)(ao:kb own k (.c el cs') some=some bZ:=by rfl):bl.ok aP ⟨K,.o p,⟨own,a3,e⟩⟩:=fun H ids st fr bC aA af=>by
 have:=lJ ao;cases this;refine cH H ids st fr bC ⟨aA.wf,aA.le,by simp[aA.cQ],aA.len,aA.dr,aA.lt,?_⟩ af;intro j q c hj hc;by_cases ln:k=j
 ·subst ln;rw[List.getElem?_set,if_pos rfl]at hj;split at hj<;>cases hj;obtain⟨⟨vs,ah,aC⟩,ch⟩:=aA.own k _ c ae hc;exact⟨⟨vs,ah,hl.den aC⟩,fun _=>ch rfl⟩
 ·rw[List.getElem?_set,if_neg ln]at hj;exact aA.own j q c hj hc
