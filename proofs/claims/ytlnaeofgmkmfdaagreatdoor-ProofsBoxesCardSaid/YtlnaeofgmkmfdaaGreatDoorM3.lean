/- An abstract machine, and that its evaluations stand for runs of the model (part 3); no condition. -/
import Derived.KernelRfl
import Derived.LaidLaws
import Derived.Test.YtlnaeofgmkmfdaaGreatDoorM2
import Derived.Test.YtlnaeofgmkmfdaaGreatDoorM1
noncomputable section
set_option linter.all false
namespace Go.an
variable{X:Ctx}
variable{es:ac d9}{cb:Nat->am Nat}{aU dF:bu}{fs:ac d9}{c kh:Nat}{α:Type}
def OD(cb:Nat->am Nat)(es:ac d9)(c:Nat)(fs:ac d9):Bool:=
 Nat.beq c es.length&&(es.zipIdx.all fun p=>Nat.beq p.1.born p.2)&&(fs.all fun e=>(ko e.key es).isSome)&&
 (es.all fun e=>(match ko e.key fs with|some bS=>fK cb e.key bS.key&&fK cb e.val bS.val|none=>false))&&
 (es.zipIdx.all fun p=>es.zipIdx.all fun q=>Nat.beq p.2 q.2|| !dM p.1.key q.1.key)
def F6(es fs:ac d9)(s:Nat):Nat:=((es[s]?).bind fun e=>(ko e.key fs).map (·.born)).getD 0
def BW(bY:Nat->Nat)(es:ac d9)(c:Nat)(fs:ac d9)(bL:Nat):Nat->Nat:=fun s=>if s<c then bY (F6 es fs s)else bY bL+(s-c)
def avs(h:es.Pairwise (fun a b=>a.born≠b.born)){a b:d9}(ha:a∈es)(hb:b∈es)(e:a.born=b.born):a=b:=by
 induction es with
 |nil=>cases ha
 |cons x xs ba=>
  rw[zdk]at h;rcases zah.1 ha with rfl|qY<;>rcases zah.1 hb with rfl|cP
  ·rfl
  ·exact absurd e (h.1 b cP)
  ·exact absurd e.symm (h.1 a qY)
  ·exact ba h.2 qY cP
def ap5{k:bi}(h:es.Pairwise (fun a b=>a.key≠b.key)){e:d9}(he:e∈es)(ab:e.key=k):ko k es=some e:=by
 cases af:ko k es with
 |none=>exact absurd ab (I3 af e he)
 |some bS=>
  obtain⟨I,U⟩:=E4 af;rw[uniq h I he (U.trans ab.symm)]
def nodup_keys(h:es.Pairwise (fun a b=>a.key≠b.key)):es.Nodup:=
 h.imp (fun{a b} fM e=>fM (by rw[e]))
def Y7(cZ:GB cb aU dF){bL:Nat}{bY:Nat->Nat}{C:ac d9}(hb:OD cb es c fs=true)(h:jM dF bY fs bL C kh):
 jM aU (BW bY es c fs bL) es c C kh:=by
 unfold OD at hb;simp only[b1,zaN]at hb;obtain⟨⟨⟨⟨I,U⟩,ag⟩,au⟩,a0⟩:=hb;have hc:c=es.length:=dI I;have uO:∀(i:Nat) (ae:i<es.length),es[i].born=i:=by
  intro i ae;have:=U (es[i],i) (by rw[zdU];simp[ae]);exact dI this
 have yR:es.Pairwise (fun a b=>a.key≠b.key):=by
  rw[zbk];intro i j ae hj mM e;have:=a0 (es[i],i) (by rw[zdU];simp[ae]) (es[j],j) (by rw[zdU];simp[hj]);rw[zcs]at this;rcases this with hh|hh
  ·have:=dI hh;simp at this;omega
  ·simp only[e,z1]at hh;cases hh
 have No:∀e∈es,∃bS,bS∈fs∧bS.key=e.key∧ko e.key fs=some bS∧fK cb e.key bS.key=true∧fK cb e.val bS.val=true:=by
  intro e he;have:=au e he;split at this
  ·rename_i bS af;rw[b1]at this;obtain⟨eK,fV⟩:=E4 af;exact⟨bS,eK,fV,af,this.1,this.2⟩
  ·cases this
 have Ir:∀(s:Nat) (ah:s<es.length),∃bS,bS∈fs∧bS.key=es[s].key∧F6 es fs s=bS.born:=by
  intro s ah;obtain⟨bS,eK,fV,m0,_⟩:=No es[s] (dp ah);refine⟨bS,eK,fV,?_⟩;unfold F6;rw[bg ah];simp[m0]
 have aT:∀s,s<c->F6 es fs s<bL:=by
  intro s ah;obtain⟨bS,eK,_,m0⟩:=Ir s (by omega);rw[m0];exact h.born bS eK
 have td:∀s,s<c->BW bY es c fs bL s=bY (F6 es fs s):=fun s ah=>zab ah;have Iu:∀s,c<=s->BW bY es c fs bL s=bY bL+(s-c):=fun s ah=>zaa (by omega);obtain⟨L,hp,hlen,ft⟩:=h.same;have uG:∀bS∈fs,∃e,e∈es∧e.key=bS.key∧ko bS.key es=some e:=by
  intro bS j6;have:=ag bS j6;obtain⟨e,he⟩:=zbH.1 this;obtain⟨eK,fV⟩:=E4 he;exact⟨e,eK,fV,he⟩
 let g:d9->d9:=fun bS=>(ko bS.key es).getD bS
 have aM:∀bS∈fs,g bS∈es∧(g bS).key=bS.key:=by
  intro bS j6;obtain⟨e,eK,fV,m0⟩:=uG bS j6;have:g bS=e:=by show(ko bS.key es).getD bS=e;rw[m0];rfl
  rw[this];exact⟨eK,fV⟩
 refine⟨?_,⟨fun s t ah aV e=> ?_,fun s ah=> ?_,fun j=> ?_⟩,fun e he=> ?_,yR,?_,L.map g,?_,by simp[hlen],?_⟩
 ·rw[Iu c (cf _),zbZ,zba];exact h.kh
 ·rw[td s ah,td t aV]at e;have e2:=h.qo.inj _ _ (aT s ah) (aT t aV) e;obtain⟨a',eW,eQ,nd⟩:=Ir s (by omega);obtain⟨eR,c1,dx,j1⟩:=Ir t (by omega);rw[nd,j1]at e2;have b8:=avs h.wg eW c1 e2;subst b8;have fa:es[s]=es[t]:=uniq yR (dp _) (dp _) (by rw[<-eQ,<-dx]);rw[<-uO s (by omega),<-uO t (by omega),fa]
 ·rw[td s ah,Iu c (cf _)];have:=h.qo.lt _ (aT s ah);omega
 ·rw[Iu (c+j) (by omega),Iu c (cf _)];omega
 ·obtain⟨i,ae,rfl⟩:=zbt he;rw[uO i ae];omega
 ·rw[zbk];intro i j ae hj mM;rw[uO i ae,uO j hj];omega
 ·have yY:(L.map g).Perm (fs.map g):=hp.map g;refine yY.trans ?_;have po:(fs.map g).Nodup:=by
   have:(fs.map g).Pairwise (fun a b=>a.key≠b.key):=by
    rw[zdR];rw[zbk];intro i j ae hj mM e;rw[(aM _ (dp ae)).2,(aM _ (dp hj)).2]at e;exact zbk.1 h.keys i j ae hj mM e
   exact nodup_keys this
  rw[List.perm_ext_iff_of_nodup po (nodup_keys yR)];intro x;constructor
  ·intro aa;obtain⟨bS,j6,rfl⟩:=zbc.1 aa;exact(aM bS j6).1
  ·intro aa;obtain⟨bS,eK,fV,_⟩:=No x aa;refine zbc.2 ⟨bS,eK,?_⟩;exact uniq yR (aM bS eK).1 aa (by rw[(aM bS eK).2,fV])
 ·intro i a b;have a':i<L.length:=by simpa using a
  rw[zcp];have mV:=ft i a' b;have MR:L[i]∈fs:=hp.mem_iff.1 (dp a');obtain⟨g1,aP⟩:=aM L[i] MR;obtain⟨bS,eK,fV,m0,oe,tt⟩:=No (g L[i]) g1;have az:bS=L[i]:=uniq h.keys eK MR (by rw[fV,aP]);subst az;refine⟨Cu cZ mV.1 _ oe,Cu cZ mV.2.1 _ tt,?_⟩;obtain⟨s,ah,y2⟩:=zbt g1;rw[mV.2.2,<-y2,uO s ah,td s (by omega)];obtain⟨ahJ,cO,cS,et⟩:=Ir s ah;rw[et];have:ahJ=L[i]:=uniq h.keys cO MR (by rw[cS,y2,aP]);rw[this]
def zp(cb:Nat->am Nat):ac d9->ac d9->Bool
 |[],[]=>true
 |e::es,f::bJ=>dM e.key f.key&&fK cb e.key f.key&&fK cb e.val f.val&&Nat.beq e.born f.born&&zp cb es bJ
 |_,_=>false
theorem Y8{cb:Nat->am Nat}:∀(es bJ:ac d9),zp cb es bJ=true->es.length=bJ.length∧∀(i:Nat) (h:i<es.length) (aG:i<bJ.length),es[i].key=bJ[i].key∧fK cb es[i].key bJ[i].key=true∧fK cb es[i].val bJ[i].val=true∧es[i].born=bJ[i].born
 |[],[],_=>⟨rfl,fun i h=>by simp at h⟩
 |e::es,f::bJ,h=>by
  simp only[zp,b1]at h;obtain⟨⟨⟨⟨I,U⟩,ag⟩,au⟩,a0⟩:=h;obtain⟨bl,bK⟩:=Y8 es bJ a0;refine⟨by simp[bl],fun i a b=> ?_⟩;cases i with
  |zero=>exact⟨nO _ _ I,U,ag,dI au⟩
  |succ i=>exact bK i (by simpa using a) (by simpa using b)
 |[],_::_,h=>by simp[zp]at h
 |_::_,[],h=>by simp[zp]at h
def ap6(cZ:GB cb aU dF){bY:Nat->Nat}{C:ac d9}(hb:zp cb es fs=true)(h:jM dF bY fs c C kh):jM aU bY es c C kh:=by
 obtain⟨bl,bK⟩:=Y8 es fs hb;obtain⟨L,hp,hlen,ft⟩:=h.same
 let g:d9->d9:=fun bS=>(ko bS.key es).getD bS
 have yR:es.Pairwise (fun a b=>a.key≠b.key):=by
  rw[zbk];intro i j ae hj mM;rw[(bK i ae (by omega)).1,(bK j hj (by omega)).1];exact zbk.1 h.keys i j (by omega) (by omega) mM
 have aM:∀(i:Nat) (ae:i<fs.length) (dE:i<es.length),g fs[i]=es[i]:=by
  intro i ae dE;show(ko fs[i].key es).getD fs[i]=es[i];rw[ap5 yR (dp dE) (bK i dE ae).1];rfl
 have anu:fs.map g=es:=by
  apply List.ext_getElem
  ·simp[bl]
  ·intro i a b;rw[zcp];exact aM i (by simpa using a) b
 refine⟨h.kh,h.qo,fun e he=> ?_,yR,?_,L.map g,by rw[<-anu];exact hp.map g,by simp[hlen],?_⟩
 ·obtain⟨i,ae,rfl⟩:=zbt he;rw[(bK i ae (by omega)).2.2.2];exact h.born _ (dp _)
 ·rw[zbk];intro i j ae hj mM;rw[(bK i ae (by omega)).2.2.2,(bK j hj (by omega)).2.2.2];exact zbk.1 h.wg i j (by omega) (by omega) mM
 ·intro i a b;have a':i<L.length:=by simpa using a
  rw[zcp];have mV:=ft i a' b;obtain⟨s,ah,y2⟩:=zbt (hp.mem_iff.1 (dp a'));have dP:s<es.length:=by omega
  have az:g L[i]=es[s]:=by rw[<-y2];exact aM s ah dP
  obtain⟨cO,cS,et,kr⟩:=bK s dP ah;rw[y2]at cO cS et kr;rw[az];exact⟨Cu cZ mV.1 _ cS,Cu cZ mV.2.1 _ et,by rw[mV.2.2,kr]⟩
def pG(ai:Nat)(l:ac (Nat×Nat))(i:Nat):am Nat:=if i<ai then some i else(l.find? (fun p=>Nat.beq p.1 i)).map (·.2)
def oV(old:Bool)(cb:Nat->am Nat):bB->bB->Bool
 |.cells cs e bk bc,.cells cs' bS eA uB=>Nat.beq e bS&&Nat.beq bk.1 eA.1&&Nat.beq bk.2 eA.2&&(bc==uB)&&zO cb cs cs'
 |.map es c,.map fs bL=>if old then Nat.beq c bL&&zp cb es fs else OD cb es c fs
 |_,_=>false
def aq.Dd(q:Nat->α->Bool):aq α->(Nat->Nat)->Bool
 |.nil,_=>true
 |.node l v r,g=>(match v with|some x=>q (g 0) x|none=>true)&&aq.Dd q l (fun n=>g (2*n+1))&&aq.Dd q r (fun n=>g (2*n+2))
def aq.Ll{q:Nat->α->Bool}:∀(t:aq α) (g:Nat->Nat),aq.Dd q t g=true->∀n x,t.get n=some x->q (g n) x=true
 |.nil,_,_,n,x,h=>by simp at h
 |.node l v r,g,ha,n,x,h=>by
  simp only[aq.Dd,b1]at ha;obtain⟨⟨I,U⟩,ag⟩:=ha;cases n with
  |zero=>rw[aq.wN]at h;subst h;exact I
  |succ m=>
   rw[aq.p5]at h;split at h
   ·have:=aq.Ll l _ U _ x h;have e:2*(m/2)+1=m+1:=by omega
    simp only[e]at this;exact this
   ·have:=aq.Ll r _ ag _ x h;have e:2*(m/2)+2=m+1:=by omega
    simp only[e]at this;exact this
def yg(ai:Nat)(l:ac (Nat×Nat))(v:bi)(st:ar)(v2:bi)(cc:ar):Bool:=
 fK (pG ai l) v v2&&Nat.ble ai st.ai&&(l.all fun p=>Nat.ble ai p.1&&Nat.ble (Nat.succ p.1) st.ai&&Nat.ble ai p.2)&&(l.all fun p=>l.all fun q=> !Nat.beq p.2 q.2||Nat.beq p.1 q.1)&&
 aq.Dd (fun i o=>match pG ai l i with
  |some j=>(match cc.h.get j with|some fP=>oV (decide (i<ai)) (pG ai l) o fP|none=>false)
  |none=>false) st.h id
section
variable(ai:Nat)(l:ac (Nat×Nat))(st cc:ar)(dF:bu)
def tQ(i j:Nat)(lc:Loc):Nat->Nat:=
 match st.h.get i,cc.h.get j with
 |some (.map es c),some (.map fs bL)=>BW lc.bY es c fs bL
 |_,_=>lc.bY
def rr:bu:=fun i=>
 if i<ai then dF i else((l.find? (fun p=>Nat.beq p.1 i)).map (·.2)).bind fun j=>(dF j).map fun lc=>{lc with bY:=tQ st cc i j lc}
end
variable{st:ar}{w:d7}{l:ac (Nat×Nat)}{cc:ar}{ι:bu}{ai:Nat}{v v2:bi}
def abP(ai:Nat)(l:ac (Nat×Nat))(st cc:ar)(dF:bu):GB (pG ai l) (rr ai l st cc dF) dF:=by
 intro i j lc aD hm;unfold pG at aD;unfold rr;split at aD
 ·rename_i h;cases aD;rw[zab h];exact⟨lc.bY,hm⟩
 ·rename_i h;rw[zaa h,aD];simp[hm]
def bx.can(hc:yg ai l v st v2 cc=true)(aw3:X.aH<=ai)(h:bx X dF cc w):bx X (rr ai l st cc dF) st w:=by
 have Ip:=abP ai l st cc dF;unfold yg at hc;simp only[b1]at hc;obtain⟨⟨⟨⟨_,oM⟩,nq⟩,mQ⟩,qa⟩:=hc;have oM:=mA.1 oM;have hl:∀p∈l,ai<=p.1∧p.1<st.ai∧ai<=p.2:=by
  intro p hp;have:=zaN.1 nq p hp;simp only[b1]at this;exact⟨mA.1 this.1.1,mA.1 this.1.2,mA.1 this.2⟩
 have q2:∀p∈l,∀q∈l,p.2=q.2->p.1=q.1:=by
  intro p hp q hq e;have:=zaN.1 (zaN.1 mQ p hp) q hq;rw[zcs]at this;rcases this with hh|hh
  ·rw[e]at hh;simp at hh
  ·exact dI hh
 have wS:∀i j,¬i<ai->(l.find? (fun p=>Nat.beq p.1 i)).map (·.2)=some j->(i,j)∈l:=by
  intro i j _ af;obtain⟨p,hp,rfl⟩:=zaR.1 af;have I:=zco hp;have U:=zcM hp;have ag:=dI U;subst ag;exact I
 have yW:∀i o,st.h.get i=some o->∃j fP,pG ai l i=some j∧cc.h.get j=some fP∧oV (decide (i<ai)) (pG ai l) o fP=true:=by
  intro i o al;have:=aq.Ll st.h id qa i o al;simp only[id]at this;split at this
  ·rename_i j hj;split at this
   ·rename_i fP mT;exact⟨j,fP,hj,mT,this⟩
   ·cases this
  ·cases this
 have yH:∀{old:Bool} {o fP:bB},oV old (pG ai l) o fP=true->fP≠.dead:=by
  intro old o fP h e;subst e;cases o<;>simp[oV]at h
 have mX:∀i j lc,pG ai l i=some j->dF j=some lc->rr ai l st cc dF i=some {lc with bY:=if i<ai then lc.bY else tQ st cc i j lc}:=by
  intro i j lc aD hm;unfold pG at aD;unfold rr;split at aD
  ·rename_i ae;cases aD;rw[zab ae,zab ae];exact hm
  ·rename_i ae;rw[zaa ae,aD,zaa ae];simp[hm]
 have X0:∀i j o fP lc,st.h.get i=some o->cc.h.get j=some fP->oV (decide (i<ai)) (pG ai l) o fP=true->dF j=some lc->(if i<ai then lc.bY else tQ st cc i j lc)≠h3->lc.bY≠h3:=by
  intro i j o fP lc al mT jC pk hne e;have af:=h.mn j lc fP pk e mT (yH jC);apply hne;split
  ·exact e
  ·unfold tQ;rw[al,mT];cases fP<;>first|exact af.elim|(cases o<;>exact e)
 refine⟨fun i o al ay=> ?_,fun i k o p a b ae h5 ab M8 Xe jP aM e=> ?_,fun i ae=> ?_,fun i a ha=> ?_,fun g aM=> ?_,by omega,fun i a o ha ah al ay=> ?_⟩
 ·obtain⟨j,fP,aD,mT,jC⟩:=yW i o al;obtain⟨lc,pk,hm⟩:=h.eC j fP mT (yH jC);refine⟨_,mX i j lc aD pk,?_⟩;cases o with
  |cells cs e bk bc=>
   cases fP with
   |cells cs' bS eA uB=>
    simp only[oV,b1]at jC;obtain⟨⟨⟨⟨I,U⟩,ag⟩,au⟩,a0⟩:=jC;have az:=dI I;have e2:bk=eA:=Prod.ext (dI U) (dI ag);have b8:=zbL au;subst az e2 b8;obtain⟨bl,bK⟩:=Qa _ _ _ a0;obtain⟨C,eA,hC⟩:=hm;exact⟨C,eA,hC.there,by rw[bl];exact hC.room,fun i ae=>by
     obtain⟨c,eF,e5⟩:=hC.cell i (by omega);exact⟨c,eF,Cu Ip e5 _ (bK i ae (by omega))⟩,by rw[bl];exact hC.xY,by rw[bl];exact hC.plain⟩
   |_=>simp[oV]at jC
  |map es c=>
   cases fP with
   |map fs bL=>
    obtain⟨eK,fV,C,kh,m0,oe⟩:=hm;simp only[oV]at jC;by_cases ae:i<ai
    ·simp only[ae,decide_true,if_true,b1]at jC;have az:=dI jC.1;subst az;refine⟨eK,fV,C,kh,m0,?_⟩;simp only[ae,if_true];exact ap6 Ip jC.2 oe
    ·simp only[ae,decide_false,zaW,if_false]at jC;refine⟨eK,fV,C,kh,m0,?_⟩;simp only[ae,if_false];have:tQ st cc i j lc=BW lc.bY es c fs bL:=by unfold tQ;rw[al,mT]
     rw[this];exact Y7 Ip jC oe
   |_=>simp[oV]at jC
  |_=>cases fP<;>simp[oV]at jC
 ·obtain⟨i2,fP,jR,mT,NB⟩:=yW i o ae;obtain⟨bK,fW,oO,yY,NC⟩:=yW k p ab;obtain⟨kn,mR,_⟩:=h.eC i2 fP mT (yH NB);obtain⟨mh,Bk,_⟩:=h.eC bK fW yY (yH NC);rw[mX i i2 kn jR mR]at Xe;rw[mX k bK mh oO Bk]at jP;cases Xe;cases jP;have e2:i2=bK:=h.inj i2 bK fP fW kn mh mT (yH NB) yY (yH NC) mR Bk (aM.imp (X0 i i2 o fP kn ae mT NB mR) (X0 k bK p fW mh ab yY NC Bk)) e;subst e2;unfold pG at jR oO;split at jR<;>split at oO
  ·cases jR;cases oO;rfl
  ·rename_i cO cS;cases jR;have:=hl _ (wS k i cS oO);simp only at this;omega
  ·rename_i cO cS;cases oO;have:=hl _ (wS i k cO jR);simp only at this;omega
  ·rename_i cO cS;exact q2 _ (wS i i2 cO jR) _ (wS k i2 cS oO) rfl
 ·constructor
  ·unfold rr;rw[zaa (by omega)];cases af:(l.find? (fun p=>Nat.beq p.1 i)).map (·.2)with
   |none=>rfl
   |some j=>
    have:=hl _ (wS i j (by omega) af);simp only at this;omega
  ·cases aM:st.h.get i with
   |none=>rfl
   |some o=>
    obtain⟨j,_,aD,_⟩:=yW i o aM;unfold pG at aD;rw[zaa (by omega)]at aD;have:=hl _ (wS i j (by omega) aD);simp only at this;omega
 ·unfold rr at ha;split at ha
  ·exact h.gY i a ha
  ·obtain⟨j,_,ha⟩:=zbK.1 ha;obtain⟨lc,pk,rfl⟩:=zaR.1 ha;exact h.gY j lc pk
 ·unfold rr;rw[zab (by omega)];exact h.mG g aM
 ·obtain⟨j,fP,aD,mT,jC⟩:=yW i o al;obtain⟨lc,pk,hm⟩:=h.eC j fP mT (yH jC);have wD:=mX i j lc aD pk;rw[ha]at wD;cases wD;simp only at ah;cases o with
  |cells cs e bk bc=>
   cases fP with
   |cells cs' bS eA uB=>
    have j8:lc.bY=h3:=by
     by_cases ae:i<ai
     ·rw[zab ae]at ah;exact ah
     ·rw[zaa ae]at ah;have:tQ st cc i j lc=lc.bY:=by unfold tQ;rw[al,mT]
      rw[<-this];exact ah
    have oK:=h.mn j lc _ pk j8 mT (by simp);simp only[oV,b1]at jC;obtain⟨⟨⟨⟨_,U⟩,ag⟩,au⟩,_⟩:=jC;have b8:=zbL au;have fa:=dI U;have l9:=dI ag;exact⟨by rw[b8];exact oK.1,by rw[fa,l9];exact oK.2⟩
   |_=>simp[oV]at jC
  |map es c=>
   cases fP with
   |map fs bL=>
    exfalso;obtain⟨eK,fV,C,kh,m0,oe⟩:=hm;have hne:∀{bY:Nat->Nat} {clock:Nat},Rg bY clock->bY≠h3:=by
     intro bY clock aob e;have I:=aob.up 1;rw[e]at I;simp[h3]at I
    by_cases ae:i<ai
    ·rw[zab ae]at ah;exact hne oe.qo ah
    ·rw[zaa ae]at ah;simp only[oV,ae,decide_false,zaW,if_false]at jC;have:tQ st cc i j lc=BW lc.bY es c fs bL:=by unfold tQ;rw[al,mT]
     rw[this]at ah;exact hne (Y7 Ip jC oe).qo ah
   |_=>simp[oV]at jC
  |_=>cases fP<;>simp[oV]at jC
def e4.can{w':d7}(Yc:∀i,ai<=i->ι i=none)(h:e4 ι dF w w')(hl:∀p∈l,ai<=p.2):e4 ι (rr ai l st cc dF) w w':=by
 refine⟨fun i a ha=> ?_,h.size,h.kept,fun i a ha=> ?_,h.g4⟩
 ·have ae:i<ai:=by
   rcases zaj i ai with q|q
   ·exact q
   ·rw[Yc i q]at ha;cases ha
  unfold rr;rw[zab ae];exact h.le i a ha
 ·unfold rr at ha;split at ha
  ·exact h.new i a ha
  ·obtain⟨j,hj,ha⟩:=zbK.1 ha;obtain⟨lc,pk,rfl⟩:=zaR.1 ha;rcases h.new j lc pk with q|q|⟨k,m,cO,o1,cS⟩
   ·obtain⟨p,hp,rfl⟩:=zaR.1 hj;rw[Yc _ (hl p (zco hp))]at q;cases q
   ·exact .inr (.inl q)
   ·exact .inr (.inr ⟨k,m,cO,o1,cS⟩)
def ic.can{b:dK}{bf:Bool->ac Frame}{s:Machine}{F5:ar}{eD:Bool}(hw:bx X ι F5 w)(hc:yg F5.ai l v st v2 cc=true)
 (h:ic X ι w b bf s (.ret v2 cc eD)):ic X ι w b bf s (.ret v st eD):=by
 obtain⟨aU,v',w',F,I,U,ag,au,a0,b5,cY⟩:=h;have aE:fK (pG F5.ai l) v v2=true:=by
  unfold yg at hc;simp only[b1]at hc;exact hc.1.1.1.1
 have hl:∀p∈l,F5.ai<=p.2:=by
  unfold yg at hc;simp only[b1]at hc;intro p hp;have:=zaN.1 hc.1.1.2 p hp;simp only[b1]at this;exact mA.1 this.2
 exact⟨rr F5.ai l st cc aU,v',w',F,Cu (abP _ _ _ _ _) I _ aE,bx.can hc hw.p6 U,e4.can (fun i ae=>(hw.fresh i ae).1) ag hl,au,a0,b5,cY⟩
def Mn(call:bF)(res:ac hB)(r:ct):dk:=
 ct.rec (motive:=fun _=>dk)
  (fun e fr st=>dq.rec (motive:=fun _=>dk) (ff call res none fr st) (fun _=>.no) (ff call res none fr st) (fun v=>ff call res (some v) fr st) e) .no r
def Dn(call:bF)(n:Nat)(f:co)(xf:cJ)(as:ac bi)(st:ar):ac dk:=
 eh (dd as) xf.aI ((nZ call n f xf.body ⟨l7 as 0 .nil,[],none,false,none⟩ st).map (Mn call xf.res)) [.no]
def afd{call:bF}{bf:Bool->ac Frame}(db:Good X)(dJ:mw X call)(gw:vR X call)(te:∀b aI bf,b.bW=none->Ah X call b aI bf){f:co}{xf:cJ}{Fn:Func}{body:Code}(ok:vQ X f xf Fn body)(n:Nat){K:CallKind}{as as':ac bi}
 (has:bP ι as as') (hw:bx X ι st w) (aD:j0 ⟨f,K,none⟩ none ι bf) (hne:∀r∈Dn call n f xf as st,r≠.no):
 ∃r∈Dn call n f xf as st,ic X ι w ⟨f,K,none⟩ bf (lone (Frame.enter X.P f as'.toArray K) (bf false) w) r:=by
 unfold Dn at hne⊢;rw[od]at hne⊢;split
 ·rename_i hlen;rw[zab hlen]at hne;rw[fe]at hlen
  let b:dK:=⟨f,K,none⟩
  have r0:Frame.enter X.P f as'.toArray K=b.at ⟨as'.toArray++Array.replicate (xf.aI-as'.toArray.size) undef,[]⟩ [.code body]:=by
   simp[Frame.enter,dK.at,ok.fn,ok.body,ok.aI,b]
  rw[r0];have Bt:=afT (b:=b) (bf:=bf) db dJ (te b xf.aI bf rfl) ⟨Fn,ok.fn,ok.aI⟩ n xf.body body ι ⟨l7 as 0 .nil,[],none,false,none⟩ ⟨as'.toArray++Array.replicate (xf.aI-as'.toArray.size) undef,[]⟩ st w [] ok.code (Tu has hlen) hw (.inl ⟨rfl,rfl⟩) aD;obtain⟨r,jR,oO⟩:=Bt (fun r aD e=>by subst e;exact hne (Mn call xf.res .no) (zbc.2 ⟨_,aD,rfl⟩) rfl);refine⟨Mn call xf.res r,zbc.2 ⟨r,jR,rfl⟩,?_⟩;cases r with
  |no=>trivial
  |out e aF st'=>
   obtain⟨aU,a',w',I,U,ag,_,_,b5⟩:=oO;cases e with
   |norm=>
    refine ic.head (Steps.trans b5 (.one (acN rfl))) ag ?_;exact A0 (b:=b) (a:=a') (F:=b.returns a' []) (aI:=xf.aI) gw ok.fn ok.res I U rfl rfl rfl rfl (show pc aU none .returning from rfl)
   |exit id=>trivial
   |ret=>
    obtain⟨hW,cY⟩:=b5;refine ic.head (Steps.trans cY (.one (acV rfl))) ag ?_;exact A0 (b:=b) (a:=a') (F:=b.returns a' (.code .ret::hW)) (aI:=xf.aI) gw ok.fn ok.res I U rfl rfl rfl rfl (show pc aU none .returning from rfl)
   |aQ v=>
    obtain⟨v',hW,aE,cY⟩:=b5;refine ic.head cY ag ?_;exact A0 (b:=b) (a:=a') (F:=b.panics a' hW v') (aI:=xf.aI) gw ok.fn ok.res I U rfl rfl rfl rfl ⟨v',aE,rfl⟩
 ·rename_i hlen;rw[zaa hlen]at hne;exact absurd rfl (hne .no (by simp))
mutual
def Cs:bi->ac Nat
 |.pointer (some a)=>[a.block]
 |.slice (some a) _ _=>[a.block]
 |.map (some r)=>[r]
 |.func _ x y=>Kd x++Kd y
 |.iface _ v=>Cs v
 |.agg a=>Kd a
 |.tuple a=>Kd a
 |_=>[]
def Kd:be bi->ac Nat
 |⟨a⟩=>Ke a
def Ke:ac bi->ac Nat
 |[]=>[]
 |a::as=>Cs a++Ke as
end
variable{olds:ac Nat}
def aas:am bB->am bB->ac (Nat×Nat)
 |some (.cells cs _ _ _),some (.cells cs' _ _ _)=>(Ke cs).zip (Ke cs')
 |some (.map es _),some (.map fs _)=>es.flatMap fun e=>match ko e.key fs with|some bS=>(Cs e.val).zip (Cs bS.val)|none=>[]
 |_,_=>[]
def mb(ai:Nat)(h aG:aq bB):Nat->ac (Nat×Nat)->ac (Nat×Nat)->ac (Nat×Nat)
 |0,_,acc=>acc
 |_,[],acc=>acc
 |n+1,(a,b)::todo,acc=>
  cond (Nat.ble (Nat.succ a) ai||acc.any (fun p=>Nat.beq p.1 a)) (mb ai h aG n todo acc) (mb ai h aG n (aas (h.get a) (aG.get b)++todo) ((a,b)::acc))
def asU(_nx:Nat)(h aG:aq bB)(olds:ac Nat):ac (Nat×Nat):=olds.flatMap fun i=>aas (h.get i) (aG.get i)
def Jq(ai:Nat)(olds:ac Nat)(v:bi)(st:ar)(r:dk):Bool:=
 dk.rec (motive:=fun _=>Bool) (fun v2 cc eD=>cond eD false (yg ai (mb ai st.h cc.h 1000 ((Cs v).zip (Cs v2)++asU ai st.h cc.h olds) []) v st v2 cc)) (fun _ _ _=>false) false r
def pR(olds:ac Nat)(ai:Nat)(v:bi)(st:ar)(L:ac dk):Bool:=
 List.rec (motive:=fun _=>Bool) true (fun r _ ba=>cond (Jq ai olds v st r) ba false) L
theorem Sz{olds:ac Nat}{ai:Nat}{v:bi}{st:ar}:∀{L:ac dk},pR olds ai v st L=true->∀r∈L,Jq ai olds v st r=true
 |[],_,r,aD=>by cases aD
 |x::xs,h,r,aD=>by
  have aG:cond (Jq ai olds v st x) (pR olds ai v st xs) false=true:=h;obtain⟨I,U⟩:=jj aG (by simp);rcases zah.1 aD with rfl|aD
  ·exact I
  ·exact Sz U r aD
def ara{r:dk}(h:Jq ai olds v st r=true):∃v2 cc l,r= .ret v2 cc false∧yg ai l v st v2 cc=true:=by
 cases r with
 |no=>cases h
 |aQ a b c=>cases h
 |ret v2 cc eD=>
  cases eD with
  |true=>cases h
  |false=>exact⟨v2,cc,_,rfl,h⟩
def as0{aS:aq cJ}{fm:na}(db:Good X)(gf:lK X aS)(pr:sM X fm){n:Nat}{f:co}{xf:cJ}{r:Row}(aa:aS.get f=some xf)
 (h:pR olds r.st.ai r.v r.st' (Dn (bH aS fm n) n f xf r.as r.st)=true):ei X f r:=by
 obtain⟨Fn,c,ok⟩:=gf f xf aa;obtain⟨kJ,j8⟩:=Du db gf pr n;have dZ:=Sz h;intro ι as' w ha hw;refine⟨ok.enters,fun K bf aD=> ?_⟩;obtain⟨q,qc,uV⟩:=afd db j8 kJ (fun b aI bf _=>FQ j8 b aI bf) ok n ha hw aD (fun r aD e=>by
  have:=dZ r aD;subst e;cases this)
 obtain⟨v2,cc,l,rfl,hc⟩:=ara (dZ q qc);exact ic.can hw hc uV
end Go.an
namespace Go.an
variable{X:Ctx}{α:Type}
def Mu(X:Ctx)(xf:cJ)(Fn:Func):Bool:=
 match Fn.body with
 |some c=>Nat.beq Fn.ntmps xf.aI&&codeOk X xf.aI xf.body c&&vz X xf.res Fn.results.toList&& !(Fn.name== "runtime.NumGoroutine")
 |none=>false
def aiR{f:co}{xf:cJ}{Fn:Func}(af:X.P.funcs[f]? =some Fn)(h:Mu X xf Fn=true):∃Fn c,vQ X f xf Fn c:=by
 unfold Mu at h;split at h
 ·rename_i c hc;simp only[b1]at h;obtain⟨⟨⟨I,U⟩,ag⟩,au⟩:=h;exact⟨Fn,c,af,hc,dI I,U,ag,by simpa using au⟩
 ·cases h
def aq.CS(Q:Nat->α->Prop):aq α->(Nat->Nat)->Prop
 |.nil,_=>True
 |.node l v r,g=>(match v with|some x=>Q (g 0) x|none=>True)∧aq.CS Q l (fun n=>g (2*n+1))∧aq.CS Q r (fun n=>g (2*n+2))
def aq.Lm{Q:Nat->α->Prop}:∀(t:aq α) (g:Nat->Nat),aq.CS Q t g->∀n x,t.get n=some x->Q (g n) x
 |.nil,_,_,n,x,h=>by simp at h
 |.node l v r,g,ha,n,x,h=>by
  obtain⟨I,U,ag⟩:=ha;cases n with
  |zero=>rw[aq.wN]at h;subst h;exact I
  |succ m=>
   rw[aq.p5]at h;split at h
   ·rename_i hm;have:=aq.Lm l _ U _ x h;have e:2*(m/2)+1=m+1:=by omega
    simp only[e]at this;exact this
   ·rename_i hm;have:=aq.Lm r _ ag _ x h;have e:2*(m/2)+2=m+1:=by omega
    simp only[e]at this;exact this
def awk{aS:aq cJ}(h:aq.CS (fun f xf=>∃Fn c,vQ X f xf Fn c) aS id):lK X aS:=
 fun f xf aa=>aq.Lm aS id h f xf aa
def gJ:na:=fun _ _ _=>none
def gT(X:Ctx):sM X gJ:=fun _ _ _ _ h=>by cases h
structure Aa where
 P:f5
 aH:Nat
 kM:co->Bool
 la:co->Bool
 Fe:∀f,kM f=true->∀x w,(callFunc f #[x]).run P w= .ok (.value x) w
 EP:∀f,la f=true->∀s c w,(callFunc f #[.string s,.int .u8 c]).run P w= .ok (.value (goInt (match(List.range s.size).find? (fun i=>s[i]! ==c.toNat.toUInt8)with|some i=>(i:Int)|none=> -1))) w
 keys:ci->am fQ
 tp:∀k c2,keys k=some c2->Maps.Keyed P k∧∀v,c2.ok v=true->∃l,keyOf P k v=some l
 pU:co->Bool
 DA:∀f,pU f=true->∀s c w,(callFunc f #[.string s,.int .u8 c]).run P w= .ok (.value (goInt (s.data.toList.countP (fun b=>b==c.toNat.toUInt8):Nat))) w
 qf:co->Bool
 mj:Nat
 E8:mj<aH
 ES:∀f,qf f=true->∀(s b:f6) (m:Int) w,(load ⟨mj,0,none⟩).run P w= .ok (.int .i64 m) w->2<=b.size->(b.size:Int)<=m->s.size<=1000000->
  (callFunc f #[.string s,.string b]).run P w= .ok (.value (goInt (match pH b.data.toList s.data.toList with|some i=>(i:Int)|none=> -1))) w
 eqs:ci->am Nat
 yw:∀t n,eqs t=some n->P.eqGuardType P.depth t=false∧∀xs aw b w,xs.size=n%100+n/100->aw.size=n%100+n/100->lN (n%100) xs.toList aw.toList=some b->(Op.equalIn 10000 t (.agg xs) (.agg aw)).run P w= .ok b w
def Aa.with(B:Aa)(ok:co->Code->du->Prop):Ctx:=
 {P:=B.P,ok:=ok,aH:=B.aH,kM:=B.kM,la:=B.la,Fe:=B.Fe,EP:=B.EP,keys:=B.keys,tp:=B.tp,pU:=B.pU,DA:=B.DA,qf:=B.qf,mj:=B.mj,E8:=B.E8,ES:=B.ES,eqs:=B.eqs,yw:=B.yw}
def mkCtx(B:Aa):Ctx:=B.with fun fn c l4=>∃F,B.P.funcs[fn]? =some F∧codeOk (B.with fun _ _ _=>False) F.ntmps l4 c=true
def afU(B:Aa)(ok xo:co->Code->du->Prop):codeOk (B.with ok)=codeOk (B.with xo):=by kernel_rfl
def ap8(B:Aa)(hi:B.P.follows .mixedOrders=true):Good (mkCtx B):=by
 refine⟨hi,fun fn c l4=> ?_⟩;have e:codeOk (mkCtx B)=codeOk (B.with fun _ _ _=>False):=afU B _ _;rw[e];exact Iff.rfl
section
variable{X:Ctx}
variable{st:ar}
def bx.abO{ι:bu}{w:d7}(h:bx X ι st w){g:Nat}{u:bi}{el:ci}{bk:Nat×Nat}{bc:Bool}(aM:st.h.get g=some (.cells [u] el bk bc)):
 ∃c,bw ι u c∧∀zW,bw ι zW c->bx X ι ⟨st.h.set g (.cells [zW] el bk bc),st.ai⟩ w:=by
 obtain⟨l,hl,C,eA,hC⟩:=h.eC _ _ aM (by simp);obtain⟨c,qZ,mc⟩:=hC.cell 0 (by simp);refine⟨c,by simpa using mc,fun zW EI=>⟨fun i o al ay=> ?_,fun i j o p a b ae h5 hj iF ha hb Nf e=> ?_,fun i ae=> ?_,h.gY,h.mG,h.p6,fun i a o ha ah al ay=> ?_⟩⟩
 ·rw[aq.eI]at al;by_cases e:i=g
  ·rw[zab e]at al;cases al;subst e;refine⟨l,hl,C,eA,hC.there,hC.room,fun j hj=> ?_,hC.xY,hC.plain⟩;have:j=0:=by simpa using hj
   subst this;exact⟨c,qZ,by simpa using EI⟩
  ·rw[zaa e]at al;exact h.eC i o al ay
 ·have hh:∀k q,(st.h.set g (.cells [zW] el bk bc)).get k=some q->q≠.dead->∃gl,st.h.get k=some gl∧gl≠.dead:=by
   intro k q ab hq;rw[aq.eI]at ab;by_cases e:k=g
   ·subst e;exact⟨_,aM,by simp⟩
   ·rw[zaa e]at ab;exact⟨q,ab,hq⟩
  obtain⟨a8,I,U⟩:=hh i o ae h5;obtain⟨gK,ag,au⟩:=hh j p hj iF;exact h.inj i j a8 gK a b I U ag au ha hb Nf e
 ·have:=h.fresh i ae;refine⟨this.1,?_⟩;rw[aq.eI,zaa]
  ·exact this.2
  ·intro e;subst e;rw[this.2]at aM;cases aM
 ·rw[aq.eI]at al;by_cases e:i=g
  ·rw[zab e]at al;cases al;subst e;show bc=false∧bk.1<bk.2;exact h.mn i a _ ha ah aM (by simp)
  ·rw[zaa e]at al;exact h.mn i a o ha ah al ay
def Row.oT(r:Row)(g:Nat)(el:ci)(c:Nat):Row:=
 ⟨r.as,⟨r.st.h.set g (.cells [.chan (some c)] el (0,1) false),r.st.ai⟩,r.v,⟨r.st'.h.set g (.cells [.chan (some c)] el (0,1) false),r.st'.ai⟩⟩
def atl{g:Nat}{o a8:bB}(h:st.h.get g=some o):ar.le st ⟨(st.h.set g a8).set g o,st.ai⟩:=by
 refine⟨rfl,fun n x aa=> ?_⟩;show((st.h.set g a8).set g o).get n=some x;rw[aq.eI];by_cases e:n=g
 ·subst e;rw[zab rfl];rw[h]at aa;exact aa
 ·rw[zaa e,aq.eI,zaa e];exact aa
def vA{f:co}{r:Row}{g n:Nat}{el:ci}(h0:r.st.h.get g=some (.cells [.chan (some 1)] el (0,1) false))(k6:r.st'.h.get g=some (.cells [.chan (some 1)] el (0,1) false))
 (I:ei X f (r.oT g el (2*n+2))) (U:ei X f (r.oT g el (2*n+3))):ei X f r:=by
 intro ι as' w ha hw;obtain⟨c,hc,r4⟩:=hw.abO h0;obtain⟨m,rfl,_⟩:=hc.Fq (by decide);have key:∀k,QM k m->ei X f (r.oT g el k)->(∀as w,(callFunc f as).run X.P w= .ok (.enter f as) w)∧
  ∀(K:CallKind) (bf:Bool->ac Frame),j0 ⟨f,K,none⟩ none ι bf->ic X ι w ⟨f,K,none⟩ bf (lone (Frame.enter X.P f as'.toArray K) (bf false) w) (.ret r.v r.st' false):=by
  intro k ab kI;obtain⟨cO,cS⟩:=kI ι as' w ha (r4 _ (.je k m ab));refine⟨cO,fun K bf aD=> ?_⟩;obtain⟨aU,v',w',F,g1,aP,bd,cu⟩:=cS K bf aD;obtain⟨e5,mc,an8⟩:=bx.abO (u:=.chan (some k)) aP (by show(r.st'.h.set g _).get g=_;rw[aq.oF]);obtain⟨fV,rfl,_⟩:=mc.Fq (by intro e;subst e;rcases ab with h|⟨_,h,_⟩|⟨_,h,_⟩<;>omega);have dh:=an8 (.chan (some 1)) (.je 1 fV (.inl rfl));exact⟨aU,v',w',F,g1,bx.less (atl k6) dh,bd,cu⟩
 by_cases hm:(n:Int)<=m
 ·exact key _ (.inr (.inl ⟨n,rfl,hm⟩)) I
 ·exact key _ (.inr (.inr ⟨n,rfl,by omega⟩)) U
end
end Go.an
namespace Go.an
variable{P:f5}
def Sy(i:Nat)(d:am TypeDesc):Bool:=match i,d with
 |0,some .string=>true
 |_+1,some (.int _)=>true
 |_,_=>false
def HC(P:f5):ac Field->Nat->Nat->Bool
 |[],_,_=>true
 |f::bJ,i,o=>Nat.beq f.offset o&&f.name != "_"&&Sy i (P.underlying f.type)&&HC P bJ (i-1) (o+1)
def HB(P:f5)(t n:Nat):Bool:=match P.underlying t with
 |some (.struct bJ)=> !P.stoodInHeld t&&Nat.beq bJ.size (n%100+n/100)&&HC P bJ.toList (n%100) 0&& !P.eqGuardType P.depth t
 |_=>false
theorem TL(w:d7)(d:Nat)(xs aw:be bi):∀(bJ:ac Field) (i o:Nat) (b:Bool),HC P bJ i o=true->lN i (xs.toList.drop o) (aw.toList.drop o)=some b->xs.size=o+bJ.length->aw.size=o+bJ.length->
 (Op.eqFields (d+1) xs aw bJ).run P w= .ok b w
 |[],i,o,b,_,he,aa,aJ=>by
  rw[zbS (by simp;simpa using zdm aa),zbS (by simp;simpa using zdm aJ)]at he;cases he;simp[Op.eqFields]
 |f::bJ,i,o,b,af,he,aa,aJ=>by
  unfold HC at af;simp only[b1]at af;obtain⟨⟨⟨I,U⟩,ag⟩,au⟩:=af;have I:=dI I;have hn:f.name≠ "_":=by simpa using U
  rw[zay]at aa aJ;have zk:o<xs.toList.length:=by simp;omega
  have ap1:o<aw.toList.length:=by simp;omega
  rw[zcI zk,zcI ap1]at he;unfold lN at he;obtain⟨lq,h0,he⟩:=gA (z:=none) (r:=some b) he (by simp);have anZ:∃c1,lN (i-1) (xs.toList.drop (o+1)) (aw.toList.drop (o+1))=some c1∧b=(lq&&c1):=by
   cases lq
   ·obtain⟨c1,jn,oH⟩:=gA (z:=none) (r:=some b) he (by simp);cases oH;exact⟨c1,jn,rfl⟩
   ·exact⟨b,he,by simp⟩
  obtain⟨c1,jn,hb⟩:=anZ;have ba:=TL w d xs aw bJ (i-1) (o+1) c1 au jn (by omega) (by omega);have ame:xs[f.offset]? =some xs.toList[o]:=by rw[I];simp
  have amf:aw[f.offset]? =some aw.toList[o]:=by rw[I];simp
  generalize xs.toList[o]=x at *;generalize aw.toList[o]=y at *;have ab:(i=0∧P.underlying f.type=some .string)∨(i≠0∧∃k,P.underlying f.type=some (.int k)):=by
   unfold Sy at ag;split at ag
   ·exact .inl ⟨rfl,by assumption⟩
   ·exact .inr ⟨by omega,_,by assumption⟩
   ·cases ag
  have hp:∀(cs:be bi) (v:bi),cs[f.offset]? =some v->(part f.type cs f.offset).run P w= .ok v w:=by
   intro cs v h;rcases ab with⟨_,hu⟩|⟨_,k,hu⟩
   ·simp[part,isAgg,run_underlying hu,h]
   ·simp[part,isAgg,run_underlying hu,h]
  have hq:(Op.equalIn (d+1) f.type x y).run P w= .ok lq w:=by
   rcases ab with⟨ae,hu⟩|⟨ae,k,hu⟩
   ·subst ae;have h0:DN x y=some lq:=h0;unfold DN at h0;split at h0
    ·cases h0;rw[run_equalIn_string w d f.type _ _ hu,toList_eq]
    ·cases h0
   ·obtain⟨j,rfl⟩:∃j,i=j+1:=⟨i-1,by omega⟩;have a0:Hr x y=some lq:=h0;clear h0;cases x<;>cases y<;>try (cases a0;done)
    rename_i bl m bK n;have h0:=a0;clear a0;have h0:(if bl=bK then some (m==n)else none)=some lq:=h0;by_cases e:bl=bK
    ·subst e;rw[zab rfl]at h0;cases h0;exact run_equalIn_int w d f.type _ k _ _ hu
    ·rw[zaa e]at h0;cases h0
  have az:=hp xs x ame;have e2:=hp aw y amf;simp only[Op.eqFields,hn,ne_eq,not_false_eq_true,if_true,Sem.run_bind,az,e2,hq,Result.andThen_ok];rw[hb];cases lq
  ·simp
  ·simpa using ba
def aiO{t n:Nat}(h:HB P t n=true):P.eqGuardType P.depth t=false∧∀xs aw b w,xs.size=n%100+n/100->aw.size=n%100+n/100->lN (n%100) xs.toList aw.toList=some b->(Op.equalIn 10000 t (.agg xs) (.agg aw)).run P w= .ok b w:=by
 unfold HB at h;split at h
 ·rename_i bJ hu;simp only[b1]at h;obtain⟨⟨⟨I,U⟩,ag⟩,au⟩:=h;have U:=dI U;have af:P.fieldsOf t=bJ:=by simp[Program.fieldsOf,hu]
  refine⟨by simpa using au,fun xs aw b w aa aJ he=> ?_⟩;rw[show(10000:Nat)=9998+1+1 from rfl,run_equalIn_struct w (9998+1) t xs aw (by rw[af];exact hu) (by simpa using I),af];exact TL w 9998 xs aw bJ.toList _ 0 b ag (by simpa using he) (by simp;omega) (by simp;omega)
 ·cases h
end Go.an
namespace Go.an
inductive fZ(R:Nat->Nat->Prop):Value->Value->Prop
 |bool (b:Bool):fZ R (.bool b) (.bool b)
 |int (k:IntKind) (n:Int):fZ R (.int k n) (.int k n)
 |string (s:ByteArray):fZ R (.string s) (.string s)
 |nF:fZ R (.pointer none) (.pointer none)
 |ptr (a b:Addr) (h:R a.block b.block) (al:a.off=b.off) (ha:a.spot=none) (hb:b.spot=none):fZ R (.pointer (some a)) (.pointer (some b))
 |nJ (n c:Nat):fZ R (.slice none n c) (.slice none n c)
 |gV (a b:Addr) (n c:Nat) (h:R a.block b.block) (al:a.off=b.off) (ha:a.spot=none) (hb:b.spot=none):fZ R (.slice (some a) n c) (.slice (some b) n c)
 |px:fZ R (.map none) (.map none)
 |map (i j:Nat) (h:R i j):fZ R (.map (some i)) (.map (some j))
 |func (f:FuncId) (xs aw us vs:Array Value) (I:xs.size=aw.size) (U:∀i (h:i<xs.size) (aG:i<aw.size),fZ R xs[i] aw[i])
  (ag:us.size=vs.size) (au:∀i (h:i<us.size) (aG:i<vs.size),fZ R us[i] vs[i]):fZ R (.func (.func f) xs us) (.func (.func f) aw vs)
 |nilFunc:fZ R .nilFunc .nilFunc
 |iface (t:TypeId) (v w:Value) (h:fZ R v w):fZ R (.iface t v) (.iface t w)
 |nilIface:fZ R .nilIface .nilIface
 |agg (xs aw:Array Value) (I:xs.size=aw.size) (U:∀i (h:i<xs.size) (aG:i<aw.size),fZ R xs[i] aw[i]):fZ R (.agg xs) (.agg aw)
 |tuple (xs aw:Array Value) (I:xs.size=aw.size) (U:∀i (h:i<xs.size) (aG:i<aw.size),fZ R xs[i] aw[i]):fZ R (.tuple xs) (.tuple aw)
 |chan (c:Nat):fZ R (.chan (some c)) (.chan (some c))
variable{v w:bi}
def fZ.mono{R S:Nat->Nat->Prop}(hle:∀i j,R i j->S i j)(h:fZ R v w):fZ S v w:=by
 induction h with
 |bool b=>exact .bool b
 |int k n=>exact .int k n
 |string s=>exact .string s
 |nF=>exact .nF
 |ptr a b h al ha hb=>exact .ptr a b (hle _ _ h) al ha hb
 |nJ n c=>exact .nJ n c
 |gV a b n c h al ha hb=>exact .gV a b n c (hle _ _ h) al ha hb
 |px=>exact .px
 |map i j h=>exact .map i j (hle _ _ h)
 |func f xs aw us vs I _ ag _ nu u2=>exact .func f xs aw us vs I nu ag u2
 |nilFunc=>exact .nilFunc
 |iface t v w _ ba=>exact .iface t v w ba
 |nilIface=>exact .nilIface
 |agg xs aw I _ ba=>exact .agg xs aw I ba
 |tuple xs aw I _ ba=>exact .tuple xs aw I ba
 |chan c=>exact .chan c
def fZ.symm{R:Nat->Nat->Prop}(h:fZ R v w):fZ (fun j i=>R i j) w v:=by
 induction h with
 |bool b=>exact .bool b
 |int k n=>exact .int k n
 |string s=>exact .string s
 |nF=>exact .nF
 |ptr a b h al ha hb=>exact .ptr b a h al.symm hb ha
 |nJ n c=>exact .nJ n c
 |gV a b n c h al ha hb=>exact .gV b a n c h al.symm hb ha
 |px=>exact .px
 |map i j h=>exact .map j i h
 |func f xs aw us vs I _ ag _ nu u2=>exact .func f aw xs vs us I.symm (fun i a b=>nu i b a) ag.symm (fun i a b=>u2 i b a)
 |nilFunc=>exact .nilFunc
 |iface t v w _ ba=>exact .iface t w v ba
 |nilIface=>exact .nilIface
 |agg xs aw I _ ba=>exact .agg aw xs I.symm (fun i a b=>ba i b a)
 |tuple xs aw I _ ba=>exact .tuple aw xs I.symm (fun i a b=>ba i b a)
 |chan c=>exact .chan c
def fZ.Gj{R:Nat->Nat->Prop}{ln aU:bu}(cZ:∀i j l,R i j->ln i=some l->aU j=some l){c:bi}(h:fZ R v c):∀{x:bi},bw ln v x->bw aU c x:=by
 induction h with
 |bool b=>intro x aa;cases aa;exact .bool b
 |int k n=>intro x aa;cases aa;exact .int k n
 |string s=>intro x aa;cases aa;exact .string s
 |nF=>intro x aa;cases aa;exact .nF
 |ptr a b h al ha hb=>
  intro x aa;cases aa with
  |ptr a l hl ah=>rw[al];exact .ptr b l (cZ _ _ _ h hl) hb
 |nJ n c=>intro x aa;cases aa;exact .nJ n c
 |gV a b n c h al ha hb=>
  intro x aa;cases aa with
  |gV a l o n c hl ah ag=>exact .gV b l o n c (cZ _ _ _ h hl) hb (by rw[<-al];exact ag)
 |px=>intro x aa;cases aa;exact .px
 |map i j h=>intro x aa;cases aa with|map r b bY hl=>exact .map j b bY (cZ _ _ _ h hl)
 |func f xs aw us vs I _ ag _ nu u2=>
  intro x aa;cases aa with
  |func nk g vK jY avw gB af g1 aP bd cu=>
   refine .func _ _ aw jY vs gB ?_ (I.symm.trans g1) (fun i a b=>nu i (by omega) a (aP i (by omega) b)) (ag.symm.trans bd) (fun i a b=>u2 i (by omega) a (cu i (by omega) b));rcases af with⟨e,aJ⟩|⟨l,b,e,_⟩
   ·exact .inl ⟨e,aJ⟩
   ·cases e
 |nilFunc=>intro x aa;cases aa;exact .nilFunc
 |iface t v w _ ba=>intro x aa;cases aa with|iface t v y aE=>exact .iface t w y (ba aE)
 |nilIface=>intro x aa;cases aa;exact .nilIface
 |agg xs aw I _ ba=>intro x aa;cases aa with|agg vK jY g1 aP=>exact .agg aw jY (I.symm.trans g1) (fun i a b=>ba i (by omega) a (aP i (by omega) b))
 |tuple xs aw I _ ba=>intro x aa;cases aa with|tuple vK jY g1 aP=>exact .tuple aw jY (I.symm.trans g1) (fun i a b=>ba i (by omega) a (aP i (by omega) b))
 |chan c=>
  intro x aa;by_cases hc:c=0
  ·subst hc;exact .top x
  ·obtain⟨m,rfl,hu⟩:=aa.Fq hc;exact .je c m hu
def k0(R:Nat->Nat->Prop)(xs aw:ac bi):Prop:=xs.length=aw.length∧∀(i:Nat) (h:i<xs.length) (aG:i<aw.length),fZ R xs[i] aw[i]
variable{xs:ac bi}{aw:be bi}
def k0.mono{R S:Nat->Nat->Prop}(hle:∀i j,R i j->S i j){aw:ac bi}(h:k0 R xs aw):k0 S xs aw:=⟨h.1,fun i a b=>(h.2 i a b).mono hle⟩
def k0.symm{R:Nat->Nat->Prop}{aw:ac bi}(h:k0 R xs aw):k0 (fun j i=>R i j) aw xs:=⟨h.1.symm,fun i a b=>(h.2 i b a).symm⟩
def k0.nil(R:Nat->Nat->Prop):k0 R [] []:=⟨rfl,fun i h=>by simp at h⟩
def k0.cons{R:Nat->Nat->Prop}{x y:bi}{xs aw:ac bi}(h:fZ R x y)(ah:k0 R xs aw):k0 R (x::xs) (y::aw):=by
 refine⟨by simp[ah.1],fun i a b=> ?_⟩;cases i with
 |zero=>exact h
 |succ i=>exact ah.2 i (by simpa using a) (by simpa using b)
def k0.avH{R:Nat->Nat->Prop}{ln aU:bu}(cZ:∀i j l,R i j->ln i=some l->aU j=some l){vs cs:ac bi}(h:k0 R vs cs)(aa:bP ln vs xs):bP aU cs xs:=
 ⟨h.1.symm.trans aa.1,fun i a b=>(h.2 i (by have:=h.1;omega) a).Gj cZ (aa.2 i (by have:=h.1;omega) b)⟩
def fZ.Rs{R:Nat->Nat->Prop}{xs:be bi}(h:k0 R xs.toList aw.toList):fZ R (.agg xs) (.agg aw):=
 .agg xs aw (by simpa using h.1) fun i a b=>by have:=h.2 i (by simpa using a) (by simpa using b);rwa [zaB,zaB]at this
def fZ.tuple'{R:Nat->Nat->Prop}{xs:be bi}(h:k0 R xs.toList aw.toList):fZ R (.tuple xs) (.tuple aw):=
 .tuple xs aw (by simpa using h.1) fun i a b=>by have:=h.2 i (by simpa using a) (by simpa using b);rwa [zaB,zaB]at this
def fZ.T6{R:Nat->Nat->Prop}{f:co}{xs us vs:be bi}(h:k0 R xs.toList aw.toList)(aG:k0 R us.toList vs.toList):fZ R (.func (.func f) xs us) (.func (.func f) aw vs):=
 .func f xs aw us vs (by simpa using h.1) (fun i a b=>by have:=h.2 i (by simpa using a) (by simpa using b);rwa [zaB,zaB]at this) (by simpa using aG.1) (fun i a b=>by have:=aG.2 i (by simpa using a) (by simpa using b);rwa [zaB,zaB]at this)
inductive jg{α β:Type}(R:α->β->Prop):List α->List β->Prop
 |nil:jg R [] []
 |cons {a:α} {b:β} {as:List α} {bh:List β} (h:R a b) (ah:jg R as bh):jg R (a::as) (b::bh)
variable{α β:Type}{as:ac α}{bh:ac β}
def jg.mono{R S:α->β->Prop}(hle:∀a b,R a b->S a b)(h:jg R as bh):jg S as bh:=by
 induction h with
 |nil=>exact .nil
 |cons h _ ba=>exact .cons (hle _ _ h) ba
def jg.flip{R:α->β->Prop}(h:jg R as bh):jg (fun b a=>R a b) bh as:=by
 induction h with
 |nil=>exact .nil
 |cons h _ ba=>exact .cons h ba
def jg.perm{R:α->β->Prop}{l es:ac α}(hp:l.Perm es):∀{bJ:ac β},jg R es bJ->∃m:ac β,m.Perm bJ∧jg R l m:=by
 induction hp with
 |nil=>intro bJ h;cases h;exact⟨[],.refl _,.nil⟩
 |cons x _ ba=>
  intro bJ h;cases h with
  |cons h ah=>obtain⟨m,I,U⟩:=ba ah;exact⟨_::m,.cons _ I,.cons h U⟩
 |swap x y l=>
  intro bJ h;cases h with
  |cons h ah=>cases ah with|cons aG ah=>exact⟨_::_::_,.swap _ _ _,.cons aG (.cons h ah)⟩
 |trans _ _ ET nu=>
  intro bJ h;obtain⟨m,I,U⟩:=nu h;obtain⟨n,ag,au⟩:=ET U;exact⟨n,ag.trans I,au⟩
def jg.len{R:α->β->Prop}(h:jg R as bh):as.length=bh.length:=by
 induction h with
 |nil=>rfl
 |cons _ _ ba=>simp[ba]
theorem jg.at{α β:Type}{R:α->β->Prop}{as:ac α}{bh:ac β}(h:jg R as bh):∀(i:Nat) (a:i<as.length) (b:i<bh.length),R as[i] bh[i]:=by
 induction h with
 |nil=>intro i a;simp at a
 |cons h _ ba=>
  intro i a b;cases i with
  |zero=>exact h
  |succ i=>exact ba i (by simpa using a) (by simpa using b)
structure pJ(R:Nat->Nat->Prop)(e f:d9):Prop where
 key:e.key=f.key
 Od:fZ R e.key f.key
 val:fZ R e.val f.val
 born:e.born=f.born
variable{e f:d9}
def pJ.mono{R S:Nat->Nat->Prop}(hle:∀i j,R i j->S i j)(h:pJ R e f):pJ S e f:=⟨h.key,h.Od.mono hle,h.val.mono hle,h.born⟩
def pJ.symm{R:Nat->Nat->Prop}(h:pJ R e f):pJ (fun j i=>R i j) f e:=⟨h.key.symm,h.Od.symm,h.val.symm,h.born.symm⟩
inductive lp(R:Nat->Nat->Prop):bB->bB->Prop
 |cells (cs ds:List Value) (e:TypeId) (bk:Nat×Nat) (bc:Bool) (h:k0 R cs ds):lp R (.cells cs e bk bc) (.cells ds e bk bc)
 |map (es bJ:List MapEntry) (c:Nat) (h:jg (pJ R) es bJ):lp R (.map es c) (.map bJ c)
variable{o p:bB}
def lp.mono{R S:Nat->Nat->Prop}(hle:∀i j,R i j->S i j)(h:lp R o p):lp S o p:=by
 cases h with
 |cells cs ds e bk bc h=>exact .cells cs ds e bk bc (h.mono hle)
 |map es bJ c h=>exact .map es bJ c (h.mono fun _ _ h=>h.mono hle)
def lp.symm{R:Nat->Nat->Prop}(h:lp R o p):lp (fun j i=>R i j) p o:=by
 cases h with
 |cells cs ds e bk bc h=>exact .cells ds cs e bk bc h.symm
 |map es bJ c h=>exact .map bJ es c (h.flip.mono fun _ _ h=>h.symm)
def lp.live{R:Nat->Nat->Prop}(h:lp R o p):o≠.dead∧p≠.dead:=by cases h<;>simp
def lp.wJ{R:Nat->Nat->Prop}(h:lp R o p):o.wJ↔p.wJ:=by cases h<;>exact Iff.rfl
variable{X:Ctx}
def lp.ZO{R:Nat->Nat->Prop}{ln aU:bu}(cZ:∀i j l,R i j->ln i=some l->aU j=some l)(h:lp R o p){w:d7}{l:Loc}(hm:kf X ln w o l):kf X aU w p l:=by
 cases h with
 |cells cs ds e bk bc h=>
  obtain⟨C,eA,hC⟩:=hm;refine⟨C,eA,hC.there,by rw[<-h.1];exact hC.room,fun i ae=> ?_,by rw[<-h.1];exact hC.xY,by rw[<-h.1];exact hC.plain⟩;have dE:i<cs.length:=by rw[h.1];exact ae
  obtain⟨c,I,U⟩:=hC.cell i dE;exact⟨c,I,(h.2 i dE ae).Gj cZ U⟩
 |map es bJ c h=>
  obtain⟨h0,k6,C,bL,I,U⟩:=hm;have dZ:∀f∈bJ,∃e∈es,pJ R e f:=by
   clear I U;intro f af
   induction h with
   |nil=>cases af
   |cons h _ ba=>
    rcases zah.1 af with rfl|af
    ·exact⟨_,by simp,h⟩
    ·obtain⟨e,he,aG⟩:=ba af;exact⟨e,zaC _ he,aG⟩
  have JD:∀(Q:d9->d9->Prop),(∀a b c d,pJ R a c->pJ R b d->Q a b->Q c d)->es.Pairwise Q->bJ.Pairwise Q:=by
   intro Q p7 hp;clear I U dZ
   induction h with
   |nil=>exact .nil
   | @cons a b as bh h ah ba=>
    rw[zdk]at hp⊢;refine⟨fun d ay=> ?_,ba hp.2⟩;have:∃e∈as,pJ R e d:=by
     clear ba hp
     induction ah with
     |nil=>cases ay
     |cons aG _ N4=>
      rcases zah.1 ay with rfl|ay
      ·exact⟨_,by simp,aG⟩
      ·obtain⟨e,he,rW⟩:=N4 ay;exact⟨e,zaC _ he,rW⟩
    obtain⟨e,he,am1⟩:=this;exact p7 a e b d h am1 (hp.1 e he)
  refine⟨h0,k6,C,bL,I,U.kh,U.qo,fun f af=> ?_,JD _ (fun a b c d I U ab=>by rw[<-I.key,<-U.key];exact ab) U.keys,JD _ (fun a b c d I U ab=>by rw[<-I.born,<-U.born];exact ab) U.wg,?_⟩
  ·obtain⟨e,he,Na⟩:=dZ f af;rw[<-Na.born];exact U.born e he
  ·obtain⟨fO,g1,aP,bd⟩:=U.same;obtain⟨m,bl,bK⟩:=h.perm g1;refine⟨m,bl,bK.len.symm.trans aP,fun i a b=> ?_⟩;have a':i<fO.length:=by rw[bK.len];exact a
   obtain⟨cO,cS,et⟩:=bd i a' b;have q:=bK.at i a' a;exact⟨q.Od.Gj cZ cO,q.val.Gj cZ cS,by rw[et,q.born]⟩
end Go.an
namespace Go.an
structure dn where
 cb:aq Nat
 inv:aq Nat
 bj:Nat
def dn.R(s:dn)(i j:Nat):Prop:=s.cb.get i=some j
structure dn.dg(s:dn):Prop where
 iff:∀i j,s.cb.get i=some j↔s.inv.get j=some i
 mE:∀i j,s.cb.get i=some j->i<s.bj
def dn.le(s t:dn):Prop:=∀i j,s.cb.get i=some j->t.cb.get i=some j
def dn.le.refl(s:dn):s.le s:=fun _ _ h=>h
def dn.le.trans{s t u:dn}(h:s.le t)(aG:t.le u):s.le u:=fun i j e=>aG i j (h i j e)
def zn(i j:Nat)(s:dn):am dn:=
 bp (s.inv.get j) (fun hJ=>cond (Nat.beq i hJ) (some s) none)
  (cond (Nat.beq i s.bj) (aq.fin (aq.lg (Nat.succ i) s.cb i j) fun cb=>aq.fin (aq.lg (Nat.succ j) s.inv j i) fun inv=>gb (Nat.succ i) fun c=>some ⟨cb,inv,c⟩) none)
def OC{i j:Nat}{s bo:dn}(ah:s.dg)(h:zn i j s=some bo):bo.dg∧s.le bo∧bo.R i j:=by
 unfold zn at h;cases hj:s.inv.get j with
 |some hJ=>
  rw[hj]at h;have h:cond (Nat.beq i hJ) (some s) none=some bo:=h;cases hb:Nat.beq i hJ with
  |false=>rw[hb]at h;cases h
  |true=>
   rw[hb]at h;cases h;have:=dI hb;subst this;exact⟨ah,.refl s,(ah.iff i j).2 hj⟩
 |none=>
  rw[hj]at h;have h:cond (Nat.beq i s.bj) (aq.fin (aq.lg (Nat.succ i) s.cb i j) fun cb=>aq.fin (aq.lg (Nat.succ j) s.inv j i) fun inv=>gb (Nat.succ i) fun c=>some ⟨cb,inv,c⟩) none=some bo:=h;cases hb:Nat.beq i s.bj with
  |false=>rw[hb]at h;cases h
  |true=>
   rw[hb]at h;have e:=dI hb;simp only[cond_true,aq.p1,aq.xw]at h;unfold gb at h;rw[zax]at h;simp only[cond_true,Option.some.injEq]at h;subst h;have gG:∀b,s.cb.get i≠some b:=fun b hb=>by have:=ah.mE _ _ hb;omega
   refine⟨⟨fun a b=> ?_,fun a b fM=> ?_⟩,fun a b fM=> ?_,?_⟩
   ·show(s.cb.set i j).get a=some b↔(s.inv.set j i).get b=some a;rw[aq.eI,aq.eI];by_cases ha:a=i<;>by_cases mI:b=j
    ·rw[zab ha,zab mI,ha,mI];simp
    ·rw[zab ha,zaa mI];subst ha;constructor
     ·intro e;exact absurd (Option.some.inj e).symm mI
     ·intro e;exact absurd ((ah.iff _ _).2 e) (gG b)
    ·rw[zaa ha,zab mI];subst mI;constructor
     ·intro e;rw[(ah.iff _ _).1 e]at hj;cases hj
     ·intro e;exact absurd (Option.some.inj e).symm ha
    ·rw[zaa ha,zaa mI];exact ah.iff a b
   ·have fM:(s.cb.set i j).get a=some b:=fM;show a<Nat.succ i;rw[aq.eI]at fM;by_cases ha:a=i
    ·omega
    ·rw[zaa ha]at fM;have:=ah.mE _ _ fM;omega
   ·show(s.cb.set i j).get a=some b;rw[aq.eI,zaa]
    ·exact fM
    ·intro ha;subst ha;exact gG b fM
   ·show(s.cb.set i j).get i=some j;rw[aq.oF]
def Oz(a b:am Addr)(s:dn):am dn:=
 Option.rec (motive:=fun _=>am dn) (Option.rec (motive:=fun _=>am dn) (some s) (fun _=>none) b)
  (fun a=>Option.rec (motive:=fun _=>am dn) none
   (fun b=>cond (Nat.beq a.off b.off) (Option.rec (motive:=fun _=>am dn) (Option.rec (motive:=fun _=>am dn) (zn a.block b.block s) (fun _=>none) b.spot) (fun _=>none) a.spot) none) b) a
def YX{a b:am Addr}{s bo:dn}(h:Oz a b s=some bo):
 (a=none∧b=none∧bo=s)∨∃p q,a=some p∧b=some q∧p.off=q.off∧p.spot=none∧q.spot=none∧zn p.block q.block s=some bo:=by
 cases a with
 |none=>
  cases b with
  |none=>left;exact⟨rfl,rfl,(Option.some.inj h).symm⟩
  |some q=>cases h
 |some p=>
  cases b with
  |none=>cases h
  |some q=>
   right;obtain⟨Pj,zB,ps⟩:=p;obtain⟨arA,FF,dA⟩:=q;cases al:Nat.beq zB FF with
   |false=>
    have h:cond (Nat.beq zB FF) _ none=some bo:=h;rw[al]at h;cases h
   |true=>
    cases ps with
    |some x=>
     have h:cond (Nat.beq zB FF) none none=some bo:=h;rw[al]at h;cases h
    |none=>
     cases dA with
     |some x=>
      have h:cond (Nat.beq zB FF) none none=some bo:=h;rw[al]at h;cases h
     |none=>
      have h:cond (Nat.beq zB FF) (zn Pj arA s) none=some bo:=h;rw[al]at h;exact⟨_,_,rfl,rfl,dI al,rfl,rfl,h⟩
def OB(f g:Fn)(k:am dn):am dn:=
 match f,g with
 |.func a,.func b=>cond (Nat.beq a b) k none
 |_,_=>none
def ap4{f g:Fn}{k:am dn}{s:dn}(h:OB f g k=some s):∃a,f= .func a∧g= .func a∧k=some s:=by
 unfold OB at h;split at h
 ·rename_i a b;cases hb:Nat.beq a b with
  |false=>rw[hb]at h;cases h
  |true=>rw[hb]at h;exact⟨a,rfl,by rw[dI hb],h⟩
 ·cases h
def afn(a b:ac ce):Bool:=a==b
def LJ(a b:Bool):Bool:=cond a b (cond b false true)
def Sj{a b:Bool}(h:LJ a b=true):a=b:=by cases a<;>cases b<;>first|rfl|cases h
def Y3(w:bi)(s:dn):am dn:=match w with|.nilFunc=>some s|_=>none
def Y4(w:bi)(s:dn):am dn:=match w with|.nilIface=>some s|_=>none
def YY(c:am Nat)(w:bi)(s:dn):am dn:=match c,w with|some a,.chan (some b)=>cond (Nat.beq a b) (some s) none|_,_=>none
def abw(f:Fn)(k:co->am bi):am bi:=match f with|.func g=>k g|_=>none
def abu(c:am Nat):am bi:=match c with|some c=>some (.chan (some c))|none=>none
mutual
def kL:bi->bi->dn->am dn
 |.bool a,w,s=>mu w (fun b=>cond (LJ a b) (some s) none) none
 |.int k a,w,s=>g6 w (fun k' b=>cond (kK k k') (cond (sZ a b) (some s) none) none) none
 |.string a,w,s=>jv w (fun b=>cond (afn a.data.toList b.data.toList) (some s) none) none
 |.pointer a,w,s=>iM w (fun b=>Oz a b s) none
 |.slice a n c,w,s=>ju w (fun b ch bL=>cond (Nat.beq n ch) (cond (Nat.beq c bL) (Oz a b s) none) none) none
 |.map a,w,s=>zZ w (fun b=>Option.rec (motive:=fun _=>am dn) (Option.rec (motive:=fun _=>am dn) (some s) (fun _=>none) b) (fun i=>Option.rec (motive:=fun _=>am dn) none (fun j=>zn i j s) b) a) none
 |.func f xs us,w,s=>CN w (fun g aw vs=>OB f g (bp (BK xs aw s) (fun s=>BK us vs s) none)) none
 |.nilFunc,w,s=>Y3 w s
 |.nilIface,w,s=>Y4 w s
 |.iface t v,w,s=>xV w (fun u y=>cond (Nat.beq t u) (kL v y s) none) none
 |.agg xs,w,s=>sH w (fun aw=>BK xs aw s) none
 |.tuple xs,w,s=>rD w (fun aw=>BK xs aw s) none
 |.chan c,w,s=>YY c w s
 |_,_,_=>none
def BK:be bi->be bi->dn->am dn
 |⟨xs⟩,aw,s=>zm xs aw.toList s
def zm:ac bi->ac bi->dn->am dn
 |[],aw,s=>List.rec (motive:=fun _=>am dn) (some s) (fun _ _ _=>none) aw
 |x::xs,aw,s=>List.rec (motive:=fun _=>am dn) none (fun y jY _=>bp (kL x y s) (fun bo=>zm xs jY bo) none) aw
end
def oz{b:Bool}{o:am dn}{s:dn}(h:cond b o none=some s):b=true∧o=some s:=by
 cases b
 ·cases h
 ·exact⟨rfl,h⟩
def tz{α:Type}{o:am α}{k:α->am dn}{s:dn}(h:bp o k none=some s):∃a,o=some a∧k a=some s:=gA h (by simp)
mutual
theorem I2:∀(v w:bi) (s bo:dn),s.dg->kL v w s=some bo->bo.dg∧s.le bo∧fZ bo.R v w
 |.bool a,w,s,bo,ah,h=>by
  rw[kL]at h;obtain⟨b,rfl,h⟩:=QQ h (by simp);obtain⟨I,U⟩:=oz h;cases U;rw[Sj I];exact⟨ah,.refl s,.bool _⟩
 |.int k a,w,s,bo,ah,h=>by
  rw[kL]at h;obtain⟨k',b,rfl,h⟩:=ke h (by simp);obtain⟨I,h⟩:=oz h;obtain⟨U,h⟩:=oz h;cases h;rw[DO]at U;rw[vb I,zbL U];exact⟨ah,.refl s,.int _ _⟩
 |.float k n,w,s,bo,ah,h=>by rw[kL]at h<;>first|cases h|simp
 |.complex k n m,w,s,bo,ah,h=>by rw[kL]at h<;>first|cases h|simp
 |.string a,w,s,bo,ah,h=>by
  rw[kL]at h;obtain⟨b,rfl,h⟩:=qu h (by simp);obtain⟨I,U⟩:=oz h;cases U;have I:(a.data.toList==b.data.toList)=true:=I;have e:=zbL I;have:a=b:=by cases a;cases b;simp only at e;rw[Array.toList_inj.1 e]
  rw[this];exact⟨ah,.refl s,.string _⟩
 |.pointer a,w,s,bo,ah,h=>by
  rw[kL]at h;obtain⟨b,rfl,h⟩:=qs h (by simp);rcases YX h with⟨rfl,rfl,rfl⟩|⟨p,q,rfl,rfl,I,U,ag,au⟩
  ·exact⟨ah,.refl _,.nF⟩
  ·obtain⟨g1,aP,bd⟩:=OC ah au;exact⟨g1,aP,.ptr p q bd I U ag⟩
 |.slice a n c,w,s,bo,ah,h=>by
  rw[kL]at h;obtain⟨b,ch,bL,rfl,h⟩:=xW h (by simp);obtain⟨az,h⟩:=oz h;obtain⟨e2,h⟩:=oz h;rw[dI az,dI e2];rcases YX h with⟨rfl,rfl,rfl⟩|⟨p,q,rfl,rfl,I,U,ag,au⟩
  ·exact⟨ah,.refl _,.nJ _ _⟩
  ·obtain⟨g1,aP,bd⟩:=OC ah au;exact⟨g1,aP,.gV p q _ _ bd I U ag⟩
 |.map a,w,s,bo,ah,h=>by
  rw[kL]at h;have:∃b,w= .map b∧Option.rec (motive:=fun _=>am dn) (Option.rec (motive:=fun _=>am dn) (some s) (fun _=>none) b) (fun i=>Option.rec (motive:=fun _=>am dn) none (fun j=>zn i j s) b) a=some bo:=by
   cases w<;>first|cases h|exact⟨_,rfl,h⟩
  obtain⟨b,rfl,h⟩:=this;cases a with
  |none=>
   cases b with
   |none=>cases h;exact⟨ah,.refl _,.px⟩
   |some j=>cases h
  |some i=>
   cases b with
   |none=>cases h
   |some j=>
    obtain⟨g1,aP,bd⟩:=OC ah h;exact⟨g1,aP,.map i j bd⟩
 |.func f xs us,w,s,bo,ah,h=>by
  rw[kL]at h;obtain⟨g,aw,vs,rfl,h⟩:=QR h (by simp);obtain⟨a,rfl,rfl,ag⟩:=ap4 h;obtain⟨s1,I,U⟩:=tz ag;obtain⟨hL,fW,lf⟩:=IZ xs aw s s1 ah I;obtain⟨cO,cS,et⟩:=IZ us vs s1 bo hL U;exact⟨cO,fW.trans cS,.T6 (lf.mono cS) et⟩
 |.nilFunc,w,s,bo,ah,h=>by
  rw[kL]at h;unfold Y3 at h;split at h
  ·cases h;exact⟨ah,.refl _,.nilFunc⟩
  ·cases h
 |.nilIface,w,s,bo,ah,h=>by
  rw[kL]at h;unfold Y4 at h;split at h
  ·cases h;exact⟨ah,.refl _,.nilIface⟩
  ·cases h
 |.iface t v,w,s,bo,ah,h=>by
  rw[kL]at h;obtain⟨u,y,rfl,h⟩:=QS h (by simp);obtain⟨az,h⟩:=oz h;obtain⟨hL,fW,lf⟩:=I2 v y s bo ah h;rw[dI az];exact⟨hL,fW,.iface _ _ _ lf⟩
 |.agg xs,w,s,bo,ah,h=>by
  rw[kL]at h;obtain⟨aw,rfl,h⟩:=zY h (by simp);obtain⟨hL,fW,lf⟩:=IZ xs aw s bo ah h;exact⟨hL,fW,.Rs lf⟩
 |.tuple xs,w,s,bo,ah,h=>by
  rw[kL]at h;obtain⟨aw,rfl,h⟩:=adL h (by simp);obtain⟨hL,fW,lf⟩:=IZ xs aw s bo ah h;exact⟨hL,fW,.tuple' lf⟩
 |.chan c,w,s,bo,ah,h=>by
  rw[kL]at h;unfold YY at h;split at h
  ·obtain⟨az,h⟩:=oz h;cases h;rw[dI az];exact⟨ah,.refl _,.chan _⟩
  ·cases h
theorem IZ:∀(xs aw:be bi) (s bo:dn),s.dg->BK xs aw s=some bo->bo.dg∧s.le bo∧k0 bo.R xs.toList aw.toList
 |⟨xs⟩,aw,s,bo,ah,h=>by rw[BK]at h;exact I1 xs aw.toList s bo ah h
theorem I1:∀(xs aw:ac bi) (s bo:dn),s.dg->zm xs aw s=some bo->bo.dg∧s.le bo∧k0 bo.R xs aw
 |[],aw,s,bo,ah,h=>by
  rw[zm]at h;cases aw with
  |nil=>cases h;exact⟨ah,.refl _,.nil _⟩
  |cons y aw=>cases h
 |x::xs,aw,s,bo,ah,h=>by
  rw[zm]at h;cases aw with
  |nil=>cases h
  |cons y aw=>
   obtain⟨s1,I,U⟩:=tz (o:=kL x y s) h;obtain⟨hL,fW,lf⟩:=I2 x y s s1 ah I;obtain⟨cO,cS,et⟩:=I1 xs aw s1 bo hL U;exact⟨cO,fW.trans cS,.cons (lf.mono cS) et⟩
end
def OA(es:ac d9):ac d9->dn->am dn:=
 List.rec (motive:=fun _=>ac d9->dn->am dn) (fun bJ s=>List.rec (motive:=fun _=>am dn) (some s) (fun _ _ _=>none) bJ)
  (fun e _ ba bJ s=>List.rec (motive:=fun _=>am dn) none
   (fun f ai2 _=>cond (Nat.beq e.born f.born) (cond (dM e.key f.key) (bp (kL e.key f.key s) (fun s=>bp (kL e.val f.val s) (fun s=>ba ai2 s) none) none) none) none) bJ) es
theorem YZ:∀(es bJ:ac d9) (s bo:dn),s.dg->OA es bJ s=some bo->bo.dg∧s.le bo∧jg (pJ bo.R) es bJ
 |[],[],s,bo,ah,h=>by cases h;exact⟨ah,.refl _,.nil⟩
 |[],_::_,s,bo,ah,h=>by cases h
 |_::_,[],s,bo,ah,h=>by cases h
 |e::es,f::bJ,s,bo,ah,h=>by
  have h:cond (Nat.beq e.born f.born) (cond (dM e.key f.key) (bp (kL e.key f.key s) (fun s=>bp (kL e.val f.val s) (fun s=>OA es bJ s) none) none) none) none=some bo:=h;obtain⟨az,h⟩:=oz h;obtain⟨e2,h⟩:=oz h;obtain⟨s1,I,h⟩:=tz h;obtain⟨s2,U,h⟩:=tz h;obtain⟨hL,fW,lf⟩:=I2 _ _ _ _ ah I;obtain⟨cO,cS,et⟩:=I2 _ _ _ _ hL U;obtain⟨g2,kO,vv⟩:=YZ es bJ s2 bo cO h;exact⟨g2,(fW.trans cS).trans kO,.cons ⟨nO _ _ e2,lf.mono (cS.trans kO),et.mono kO,dI az⟩ vv⟩
def ve(o p:bB)(s:dn):am dn:=
 match o,p with
 |.cells cs e bk bc,.cells ds bS eA uB=>cond (Nat.beq e bS) (cond (Nat.beq bk.1 eA.1) (cond (Nat.beq bk.2 eA.2) (cond (LJ bc uB) (zm cs ds s) none) none) none) none
 |.map es c,.map bJ bL=>cond (Nat.beq c bL) (OA es bJ s) none
 |_,_=>none
def Y5{o p:bB}{s bo:dn}(ah:s.dg)(h:ve o p s=some bo):bo.dg∧s.le bo∧lp bo.R o p:=by
 unfold ve at h;split at h
 ·rename_i cs e bk bc ds bS eA uB;obtain⟨az,h⟩:=oz h;obtain⟨e2,h⟩:=oz h;obtain⟨b8,h⟩:=oz h;obtain⟨fa,h⟩:=oz h;obtain⟨hL,fW,lf⟩:=I1 _ _ _ _ ah h;have:bk=eA:=Prod.ext (dI e2) (dI b8);subst this;rw[dI az,Sj fa];exact⟨hL,fW,.cells _ _ _ _ _ lf⟩
 ·obtain⟨az,h⟩:=oz h;obtain⟨hL,fW,lf⟩:=YZ _ _ _ _ ah h;rw[dI az];exact⟨hL,fW,.map _ _ _ lf⟩
 ·cases h
def I0(h:aq bB)(os:ac bB):Nat->dn->am dn:=
 List.rec (motive:=fun _=>Nat->dn->am dn) (fun _ s=>some s)
  (fun o _ ba i s=>bp (s.cb.get i) (fun j=>bp (h.get j) (fun p=>bp (ve o p s) (fun s=>gb (Nat.succ i) fun hJ=>ba hJ s) none) none) none) os
theorem Y0{H:aq bB}:∀(os:ac bB) (i:Nat) (s bo:dn),s.dg->I0 H os i s=some bo->
 bo.dg∧s.le bo∧∀k (ab:k<os.length),∃j p,bo.R (i+k) j∧H.get j=some p∧lp bo.R os[k] p
 |[],i,s,bo,ah,h=>by cases h;exact⟨ah,.refl _,fun k ab=>by simp at ab⟩
 |o::os,i,s,bo,ah,h=>by
  have h:bp (s.cb.get i) (fun j=>bp (H.get j) (fun p=>bp (ve o p s) (fun s=>gb (Nat.succ i) fun hJ=>I0 H os hJ s) none) none) none=some bo:=h;obtain⟨j,I,h⟩:=tz h;obtain⟨p,U,h⟩:=tz h;obtain⟨s1,ag,h⟩:=tz h;unfold gb at h;rw[zax]at h;have h:I0 H os (i+1) s1=some bo:=h;obtain⟨hL,fW,lf⟩:=Y5 ah ag;obtain⟨cO,cS,et⟩:=Y0 os (i+1) s1 bo hL h;refine⟨cO,fW.trans cS,fun k ab=> ?_⟩;cases k with
  |zero=>exact⟨j,p,(fW.trans cS) _ _ I,U,lf.mono cS⟩
  |succ k=>
   obtain⟨BE,gK,g1,aP,bd⟩:=et k (by simpa using ab);exact⟨BE,gK,by rw[show i+(k+1)=i+1+k by omega];exact g1,aP,by simpa using bd⟩
def lY(cb:aq Nat)(fA dR i:Nat):Nat:=bp (cb.get i) (fun j=>j) (Nat.add dR (Nat.sub i fA))
section
variable(cb:aq Nat)(fA dR:Nat)
def PZ{β:Type}(a:am Addr)(k:am Addr->am β):am β:=
 Option.rec (motive:=fun _=>am β) (k none) (fun a=>Option.rec (motive:=fun _=>am β) (gb (lY cb fA dR a.block) fun b=>k (some ⟨b,a.off,none⟩)) (fun _=>none) a.spot) a
mutual
def kd:bi->am bi
 |.pointer a=>PZ cb fA dR a fun b=>some (.pointer b)
 |.slice a n c=>PZ cb fA dR a fun b=>some (.slice b n c)
 |.map a=>Option.rec (motive:=fun _=>am bi) (some (.map none)) (fun i=>gb (lY cb fA dR i) fun j=>some (.map (some j))) a
 |.func f xs us=>abw f fun g=>bp (Ck xs) (fun aw=>bp (Ck us) (fun vs=>some (.func (.func g) ⟨aw⟩ ⟨vs⟩)) none) none
 |.iface t v=>bp (kd v) (fun w=>some (.iface t w)) none
 |.agg xs=>bp (Ck xs) (fun aw=>some (.agg ⟨aw⟩)) none
 |.tuple xs=>bp (Ck xs) (fun aw=>some (.tuple ⟨aw⟩)) none
 |.bool b=>some (.bool b)
 |.int k n=>some (.int k n)
 |.string s=>some (.string s)
 |.nilFunc=>some .nilFunc
 |.nilIface=>some .nilIface
 |.chan c=>abu c
 |_=>none
def Ck:be bi->am (ac bi)
 |⟨xs⟩=>Cl xs
def Cl:ac bi->am (ac bi)
 |[]=>some []
 |x::xs=>bp (kd x) (fun y=>bp (Cl xs) (fun aw=>some (y::aw)) none) none
end
variable{β:Type}
def eB{α:Type}{o:am α}{k:α->am β}{b:β}(h:bp o k none=some b):∃a,o=some a∧k a=some b:=gA h (by simp)
def abt{a:am Addr}{k:am Addr->am β}{b:β}(h:PZ cb fA dR a k=some b):
 (a=none∧k none=some b)∨∃p,a=some p∧p.spot=none∧k (some ⟨lY cb fA dR p.block,p.off,none⟩)=some b:=by
 cases a with
 |none=>exact .inl ⟨rfl,h⟩
 |some p=>
  obtain⟨Pj,zB,ps⟩:=p;cases ps with
  |some x=>cases h
  |none=>
   have h:gb (lY cb fA dR Pj) (fun b=>k (some ⟨b,zB,none⟩))=some b:=h;unfold gb at h;rw[zax]at h;exact .inr ⟨_,rfl,rfl,h⟩
mutual
theorem FJ:∀(v w:bi),kd cb fA dR v=some w->fZ (fun i j=>j=lY cb fA dR i) v w
 |.bool b,w,h=>by rw[kd]at h;cases h;exact .bool b
 |.int k n,w,h=>by rw[kd]at h;cases h;exact .int k n
 |.float k n,w,h=>by rw[kd]at h<;>first|cases h|simp
 |.complex k n m,w,h=>by rw[kd]at h<;>first|cases h|simp
 |.string s,w,h=>by rw[kd]at h;cases h;exact .string s
 |.pointer a,w,h=>by
  rw[kd]at h;rcases abt cb fA dR h with⟨rfl,h⟩|⟨p,rfl,ah,h⟩
  ·cases h;exact .nF
  ·cases h;exact .ptr _ _ rfl rfl ah rfl
 |.slice a n c,w,h=>by
  rw[kd]at h;rcases abt cb fA dR h with⟨rfl,h⟩|⟨p,rfl,ah,h⟩
  ·cases h;exact .nJ _ _
  ·cases h;exact .gV _ _ _ _ rfl rfl ah rfl
 |.map a,w,h=>by
  rw[kd]at h;cases a with
  |none=>cases h;exact .px
  |some i=>
   have h:gb (lY cb fA dR i) (fun j=>some (Value.map (some j)))=some w:=h;unfold gb at h;rw[zax]at h;cases h;exact .map _ _ rfl
 |.func f xs us,w,h=>by
  rw[kd]at h;unfold abw at h;split at h
  ·obtain⟨aw,I,h⟩:=eB h;obtain⟨vs,U,h⟩:=eB h;cases h;exact .T6 (J7 xs aw I) (J7 us vs U)
  ·cases h
 |.nilFunc,w,h=>by rw[kd]at h;cases h;exact .nilFunc
 |.nilIface,w,h=>by rw[kd]at h;cases h;exact .nilIface
 |.iface t v,w,h=>by
  rw[kd]at h;obtain⟨y,I,h⟩:=eB h;cases h;exact .iface _ _ _ (FJ v y I)
 |.agg xs,w,h=>by
  rw[kd]at h;obtain⟨aw,I,h⟩:=eB h;cases h;exact .Rs (J7 xs aw I)
 |.tuple xs,w,h=>by
  rw[kd]at h;obtain⟨aw,I,h⟩:=eB h;cases h;exact .tuple' (J7 xs aw I)
 |.chan c,w,h=>by
  rw[kd]at h;unfold abu at h;split at h
  ·cases h;exact .chan _
  ·cases h
theorem J7:∀(xs:be bi) (aw:ac bi),Ck cb fA dR xs=some aw->k0 (fun i j=>j=lY cb fA dR i) xs.toList aw
 |⟨xs⟩,aw,h=>by rw[Ck]at h;exact P1 xs aw h
theorem P1:∀(xs aw:ac bi),Cl cb fA dR xs=some aw->k0 (fun i j=>j=lY cb fA dR i) xs aw
 |[],aw,h=>by rw[Cl]at h;cases h;exact .nil _
 |x::xs,aw,h=>by
  rw[Cl]at h;obtain⟨y,I,h⟩:=eB h;obtain⟨jx,U,h⟩:=eB h;cases h;exact .cons (FJ x y I) (P1 xs jx U)
end
def P0(es:ac d9):am (ac d9):=
 List.rec (motive:=fun _=>am (ac d9)) (some [])
  (fun e _ r=>bp (kd cb fA dR e.key) (fun k=>cond (dM e.key k) (bp (kd cb fA dR e.val) (fun v=>bp r (fun es=>some (⟨k,v,e.born⟩::es)) none) none) none) none) es
theorem abv:∀(es bJ:ac d9),P0 cb fA dR es=some bJ->jg (pJ (fun i j=>j=lY cb fA dR i)) es bJ
 |[],bJ,h=>by cases h;exact .nil
 |e::es,bJ,h=>by
  have h:bp (kd cb fA dR e.key) (fun k=>cond (dM e.key k) (bp (kd cb fA dR e.val) (fun v=>bp (P0 cb fA dR es) (fun es=>some (⟨k,v,e.born⟩::es)) none) none) none) none=some bJ:=h;obtain⟨k,I,h⟩:=eB h;cases ab:dM e.key k with
  |false=>rw[ab]at h;cases h
  |true=>
   rw[ab]at h;obtain⟨v,U,h⟩:=eB (o:=kd cb fA dR e.val) h;obtain⟨gs,ag,h⟩:=eB h;cases h;exact .cons ⟨nO _ _ ab,FJ _ _ _ _ _ I,FJ _ _ _ _ _ U,rfl⟩ (abv es gs ag)
def Cm(o:bB):am bB:=
 match o with
 |.cells cs e bk bc=>bp (Cl cb fA dR cs) (fun ds=>some (.cells ds e bk bc)) none
 |.map es c=>bp (P0 cb fA dR es) (fun bJ=>some (.map bJ c)) none
 |.dead=>some .dead
 |_=>none
def asd{o p:bB}(h:Cm cb fA dR o=some p):(o= .dead∧p= .dead)∨lp (fun i j=>j=lY cb fA dR i) o p:=by
 unfold Cm at h;split at h
 ·obtain⟨ds,I,h⟩:=eB h;cases h;exact .inr (.cells _ _ _ _ _ (P1 _ _ _ _ _ I))
 ·obtain⟨bJ,I,h⟩:=eB h;cases h;exact .inr (.map _ _ _ (abv _ _ _ _ _ I))
 ·cases h;exact .inl ⟨rfl,rfl⟩
 ·cases h
def FI(aH:Nat)(us:ac (Nat×bB)):aq bB->am (aq bB):=
 List.rec (motive:=fun _=>aq bB->am (aq bB)) (fun h=>some h)
  (fun u _ ba h=>cond (Nat.ble aH u.1) (gb (lY cb fA dR u.1) fun j=>bp (Cm cb fA dR u.2) (fun p=>aq.fin (aq.lg (Nat.succ j) h j p) ba) none) none) us
end
def kT(us:ac (Nat×bB)):aq bB->aq bB:=
 List.rec (motive:=fun _=>aq bB->aq bB) (fun h=>h) (fun u _ ba h=>aq.fin (aq.lg (Nat.succ u.1) h u.1 u.2) ba) us
def B2(os:ac bB):Nat->aq bB->aq bB:=
 List.rec (motive:=fun _=>Nat->aq bB->aq bB) (fun _ h=>h) (fun o _ ba i h=>gb (Nat.succ i) fun hJ=>aq.fin (aq.lg hJ h i o) fun aG=>ba hJ aG) os
def zl(h:aq bB)(os:ac (Nat×bB)):dn->am dn:=
 List.rec (motive:=fun _=>dn->am dn) (fun s=>some s)
  (fun o _ ba s=>bp (s.cb.get o.1) (fun j=>bp (h.get j) (fun p=>bp (ve o.2 p s) ba none) none) none) os
theorem Y1{H:aq bB}:∀(os:ac (Nat×bB)) (s bo:dn),s.dg->zl H os s=some bo->
 bo.dg∧s.le bo∧∀o∈os,∃j p,bo.R o.1 j∧H.get j=some p∧lp bo.R o.2 p
 |[],s,bo,ah,h=>by cases h;exact⟨ah,.refl _,fun o al=>by cases al⟩
 |o::os,s,bo,ah,h=>by
  have h:bp (s.cb.get o.1) (fun j=>bp (H.get j) (fun p=>bp (ve o.2 p s) (zl H os) none) none) none=some bo:=h;obtain⟨j,I,h⟩:=tz h;obtain⟨p,U,h⟩:=tz h;obtain⟨s1,ag,h⟩:=tz h;obtain⟨hL,fW,lf⟩:=Y5 ah ag;obtain⟨cO,cS,et⟩:=Y1 os s1 bo hL h;refine⟨cO,fW.trans cS,fun a8 hk=> ?_⟩;rcases zah.1 hk with rfl|hk
  ·exact⟨j,p,(fW.trans cS) _ _ I,U,lf.mono cS⟩
  ·exact et a8 hk
theorem OX:∀(os:ac bB) (i:Nat) (h:aq bB) (k:Nat),(B2 os i h).get k=if i<=k∧k<i+os.length then os[k-i]? else h.get k
 |[],i,h,k=>by rw[zaa (by simp)];rfl
 |o::os,i,h,k=>by
  have e:B2 (o::os) i h=B2 os (i+1) (h.set i o):=by
   show gb (Nat.succ i) (fun hJ=>aq.fin (aq.lg hJ h i o) fun aG=>B2 os hJ aG)=_;unfold gb;rw[zax];show aq.fin (aq.lg (Nat.succ i) h i o) (fun aG=>B2 os (i+1) aG)=_;rw[aq.p1,aq.xw]
  rw[e,OX os (i+1) _ k,aq.eI];by_cases ab:k=i
  ·subst ab;rw[zaa (by omega),zab rfl,zab (by simp)];simp
  ·rw[zaa ab];by_cases I:i+1<=k∧k<i+1+os.length
   ·rw[zab I,zab (by simp;omega)];have:k-i=(k-(i+1))+1:=by omega
    rw[this];simp
   ·rw[zaa I,zaa (by simp;omega)]
def KH(u:Nat×bB)(us:ac (Nat×bB))(h:aq bB):kT (u::us) h=kT us (h.set u.1 u.2):=by
 show aq.fin (aq.lg (Nat.succ u.1) h u.1 u.2) (kT us)=_;rw[aq.p1,aq.xw]
theorem CM:∀(us:ac (Nat×bB)) (h:aq bB) (k:Nat) (o:bB),(kT us h).get k=some o->(k,o)∈us∨h.get k=some o
 |[],_,_,_,e=>.inr e
 |u::us,h,k,o,e=>by
  rw[KH]at e;rcases CM us _ k o e with hm|hm
  ·exact .inl (zaC _ hm)
  ·rw[aq.eI]at hm;by_cases ab:k=u.1
   ·rw[zab ab]at hm;cases hm;subst ab;exact .inl (by simp)
   ·rw[zaa ab]at hm;exact .inr hm
structure c3 where
 as:ac bi
 gs:ac (Nat×bB)
 pY:ac bB
 v:bi
 hv:ac (Nat×bB)
 aL:Nat
def c3.dj(r:c3)(aH:Nat):aq bB:=B2 r.pY aH (kT r.gs .nil)
def c3.row(r:c3)(aH:Nat):Row:=⟨r.as,⟨r.dj aH,Nat.add aH (dd r.pY)⟩,r.v,⟨kT r.hv (r.dj aH),r.aL⟩⟩
def c3.app(aN:dn)(r:c3)(as:ac bi)(st:ar):am dk:=
 bp (zm r.as as aN) (fun s=>bp (zl st.h r.gs s) (fun s=>bp (I0 st.h r.pY aN.bj s) (fun s=>cond (Nat.beq s.bj (Nat.add aN.bj (dd r.pY))) (cond (Nat.ble s.bj r.aL)
  (bp (kd s.cb s.bj st.ai r.v) (fun v=>bp (FI s.cb s.bj st.ai aN.bj r.hv st.h) (fun h=>gb (Nat.add st.ai (Nat.sub r.aL s.bj)) fun n=>some (.ret v ⟨h,n⟩ false)) none) none) none) none) none) none) none
structure KZ(pa:Nat->Nat)(H:aq bB)(ai aH:Nat)(h0 aD hc:aq bB):Prop where
 obj:∀j o,hc.get j=some o->o≠.dead->(∃i p,j=pa i∧aD.get i=some p∧lp (fun i j=>j=pa i) p o)∨((∀i,aD.get i≠none->pa i≠j)∧H.get j=some o)
 mE:∀j,hc.get j≠none->j<ai∨∃i,j=pa i∧aD.get i≠none
 pY:∀i,h0.get i≠none->aD.get i≠none
 WR:∀i,i<aH->aD.get i≠none->h0.get i≠none
theorem abx{cb:aq Nat}{fA dR:Nat}{H:aq bB}{ai aH:Nat}{h0:aq bB}:∀(us:ac (Nat×bB)) (aD hc n4:aq bB),KZ (lY cb fA dR) H ai aH h0 aD hc->
 FI cb fA dR aH us hc=some n4->KZ (lY cb fA dR) H ai aH h0 (kT us aD) n4
 |[],aD,hc,n4,ph,h=>by cases h;exact ph
 |u::us,aD,hc,n4,ph,h=>by
  have h:cond (Nat.ble aH u.1) (gb (lY cb fA dR u.1) (fun j=>bp (Cm cb fA dR u.2) (fun p=>aq.fin (aq.lg (Nat.succ j) hc j p) (FI cb fA dR aH us)) none)) none=some n4:=h;cases hu:Nat.ble aH u.1 with
  |false=>rw[hu]at h;cases h
  |true=>
  rw[hu]at h;have hu:=jw hu;have h:gb (lY cb fA dR u.1) (fun j=>bp (Cm cb fA dR u.2) (fun p=>aq.fin (aq.lg (Nat.succ j) hc j p) (FI cb fA dR aH us)) none)=some n4:=h;unfold gb at h;rw[zax]at h;obtain⟨p,I,h⟩:=eB (o:=Cm cb fA dR u.2) h;rw[aq.p1,aq.xw]at h;rw[KH];refine abx us _ _ _ ⟨fun j o hj ay=> ?_,fun j hj=> ?_,fun i ae=> ?_,fun i ae hh=> ?_⟩ h
  ·rw[aq.eI]at hj;by_cases kj:j=lY cb fA dR u.1
   ·rw[zab kj]at hj;cases hj;rcases asd _ _ _ I with⟨_,gF⟩|anL
    ·exact absurd gF ay
    ·exact .inl ⟨u.1,u.2,kj,by rw[aq.oF],anL⟩
   ·rw[zaa kj]at hj;rcases ph.obj j o hj ay with⟨i,q,az,e2,b8⟩|⟨az,e2⟩
    ·refine .inl ⟨i,q,az,?_,b8⟩;rw[aq.eI,zaa]
     ·exact e2
     ·intro e;subst e;exact kj az
    ·refine .inr ⟨fun i ae ah=> ?_,e2⟩;rw[aq.eI]at ae;by_cases iQ:i=u.1
     ·subst iQ;exact kj ah.symm
     ·rw[zaa iQ]at ae;exact az i ae ah
  ·rw[aq.eI]at hj;by_cases kj:j=lY cb fA dR u.1
   ·exact .inr ⟨u.1,kj,by rw[aq.oF];simp⟩
   ·rw[zaa kj]at hj;rcases ph.mE j hj with aT|⟨i,az,e2⟩
    ·exact .inl aT
    ·refine .inr ⟨i,az,?_⟩;rw[aq.eI];split
     ·simp
     ·exact e2
  ·rw[aq.eI];split
   ·simp
   ·exact ph.pY i ae
  ·rw[aq.eI,zaa (by omega)]at hh;exact ph.WR i ae hh
variable{X:Ctx}
def RA{f:co}{r:c3}(aD:ei X f (r.row X.aH)){aN:dn}(tf:aN.dg)(j4:aN.bj=X.aH)(aM:∀g,g<X.aH->aN.cb.get g=some g){as:ac bi}{st:ar}{fr:dk}(h:r.app aN as st=some fr)
 (ι:bu) (as':ac bi) (w:d7) (ha:bP ι as as') (hw:bx X ι st w):
 (∀as w,(callFunc f as).run X.P w= .ok (.enter f as) w)∧
 ∀(K:CallKind) (bf:Bool->ac Frame),j0 ⟨f,K,none⟩ none ι bf->ic X ι w ⟨f,K,none⟩ bf (lone (Frame.enter X.P f as'.toArray K) (bf false) w) fr:=by
 unfold c3.app at h;obtain⟨s1,I,h⟩:=eB h;obtain⟨s2,ami,h⟩:=eB h;obtain⟨s,U,h⟩:=eB h;obtain⟨eW,eQ,nd⟩:=I1 _ _ _ _ tf I;obtain⟨d1,d2,d3⟩:=Y1 _ _ _ eW ami;obtain⟨c1,dx,j1⟩:=Y0 _ _ _ _ d1 U;rw[j4]at h j1;cases hc:Nat.beq s.bj (Nat.add X.aH (dd r.pY))with
 |false=>rw[hc]at h;cases h
 |true=>
 cases mc:Nat.ble s.bj r.aL with
 |false=>rw[hc,mc]at h;cases h
 |true=>
 rw[hc,mc]at h;have D8:s.bj=X.aH+r.pY.length:=by rw[<-fe];exact dI hc
 have aw5:s.bj<=r.aL:=jw mc;obtain⟨v,ag,h⟩:=eB (o:=kd s.cb s.bj st.ai r.v) h;obtain⟨hp,au,h⟩:=eB (o:=FI s.cb s.bj st.ai X.aH r.hv st.h) h;unfold gb at h;rw[zax]at h;have h:some (dk.ret v ⟨hp,st.ai+(r.aL-s.bj)⟩ false)=some fr:=h;cases h;have wT:∀g,g<X.aH->s.cb.get g=some g:=fun g s8=>dx _ _ (d2 _ _ (eQ _ _ (aM g s8)));have aT:∀j l,ι j=some l->j<st.ai:=by
  intro j l e;rcases zaj j st.ai with aT|mL
  ·exact aT
  ·rw[(hw.fresh j mL).1]at e;cases e
 have wU:∀i o,(r.dj X.aH).get i=some o->∃j p,s.cb.get i=some j∧st.h.get j=some p∧lp s.R o p:=by
  intro i o al;unfold c3.dj at al;rw[OX]at al;split at al
  ·rename_i ae;obtain⟨uR,rfl⟩:=zac.1 al;obtain⟨j,p,az,e2,b8⟩:=j1 (i-X.aH) uR;rw[show X.aH+(i-X.aH)=i by omega]at az;exact⟨j,p,az,e2,b8⟩
  ·rcases CM _ _ _ _ al with hm|hm
   ·obtain⟨j,p,az,e2,b8⟩:=d3 _ hm;exact⟨j,p,dx _ _ az,e2,b8.mono dx⟩
   ·simp at hm
 have Nd:∀i,X.aH<=i->i<s.bj->∃o,(r.dj X.aH).get i=some o:=by
  intro i ae q1;unfold c3.dj;rw[OX,zab (by omega),bg (by omega)];exact⟨_,rfl⟩
 have XZ:∀i,i<s.bj->∃j l,s.cb.get i=some j∧ι j=some l:=by
  intro i ae;rcases zaj i X.aH with hn|hn
  ·exact⟨i,_,wT i hn,hw.mG i hn⟩
  ·obtain⟨o,al⟩:=Nd i hn ae;obtain⟨j,p,az,e2,b8⟩:=wU i o al;obtain⟨l,fa,_⟩:=hw.eC j p e2 b8.live.2;exact⟨j,l,az,fa⟩
 have aw4:X.aH<=s.bj:=by omega
 let fX:bu:=fun i=>match s.cb.get i with|some j=>ι j|none=>none
 have y6:∀i j,s.cb.get i=some j->fX i=ι j:=by
  intro i j e;show(match s.cb.get i with|some j=>ι j|none=>none)=_;rw[e]
 have y7:∀i l,fX i=some l->∃j,s.cb.get i=some j∧ι j=some l:=by
  intro i l e;have e:(match s.cb.get i with|some j=>ι j|none=>none)=some l:=e;split at e
  ·rename_i j hj;exact⟨j,hj,e⟩
  ·cases e
 have uG:∀j i l,(fun j i=>s.R i j) j i->ι j=some l->fX i=some l:=fun j i l cZ hl=>by rw[y6 i j cZ];exact hl
 have amB:bx X fX (r.row X.aH).st w:=by
  refine⟨fun i o al ay=> ?_,fun i j o p l m ae h5 hj iF iV hS aM e=> ?_,fun i ae=> ?_,fun i l hl=> ?_,fun g s8=> ?_,?_,fun i l o hl ah al ay=> ?_⟩
  ·obtain⟨j,p,az,e2,b8⟩:=wU i o al;obtain⟨l,fa,l9⟩:=hw.eC j p e2 b8.live.2;exact⟨l,by rw[y6 i j az];exact fa,b8.symm.ZO uG l9⟩
  ·obtain⟨i2,hL,az,e2,b8⟩:=wU i o ae;obtain⟨hs,fW,g1,aP,bd⟩:=wU j p hj;rw[y6 i i2 az]at iV;rw[y6 j hs g1]at hS;have:=hw.inj i2 hs hL fW l m e2 b8.live.2 aP bd.live.2 iV hS aM e;subst this;have cO:=(c1.iff _ _).1 az;have cS:=(c1.iff _ _).1 g1;rw[cO]at cS;exact Option.some.inj cS
  ·have ae:X.aH+dd r.pY<=i:=ae;rw[fe,<-D8]at ae;refine⟨?_,?_⟩
   ·cases e:fX i with
    |none=>rfl
    |some l=>
     obtain⟨j,hj,_⟩:=y7 i l e;have:=c1.mE _ _ hj;omega
   ·cases e:(r.row X.aH).st.h.get i with
    |none=>rfl
    |some o=>
     obtain⟨j,_,az,_⟩:=wU i o e;have:=c1.mE _ _ az;omega
  ·obtain⟨j,_,cC⟩:=y7 i l hl;exact hw.gY j l cC
  ·rw[y6 g g (wT g s8)];exact hw.mG g s8
  ·exact zci _ _
  ·obtain⟨j,p,az,e2,b8⟩:=wU i o al;rw[y6 i j az]at hl;exact b8.wJ.2 (hw.mn j l p hl ah e2 b8.live.2)
 have HS:bP fX r.as as':=((nd.mono d2).mono dx).symm.avH uG ha;obtain⟨cO,cS⟩:=aD fX as' w HS amB;refine⟨cO,fun K bf pt=> ?_⟩;obtain⟨ln,v',w',F,bl,bK,ee,va,IK,apb,apc⟩:=cS K bf pt;have bK:bx X ln ⟨kT r.hv (r.dj X.aH),r.aL⟩ w':=bK
 let pa:Nat->Nat:=lY s.cb s.bj st.ai
 have Bz:∀i j,s.cb.get i=some j->pa i=j:=by
  intro i j e;show bp (s.cb.get i) (fun j=>j) _=j;rw[e];rfl
 have Yd:∀i,s.bj<=i->pa i=st.ai+(i-s.bj):=by
  intro i ae;show bp (s.cb.get i) (fun j=>j) _=_;cases e:s.cb.get i with
  |none=>rfl
  |some j=>have:=c1.mE _ _ e;omega
 let aU:bu:=fun j=>if j<st.ai then ι j else ln (s.bj+(j-st.ai))
 have IB:∀j,j<st.ai->aU j=ι j:=fun j hj=>zab hj;have IC:∀j,st.ai<=j->aU j=ln (s.bj+(j-st.ai)):=fun j hj=>zaa (by omega);have hle:ι.le aU:=fun j l e=>by rw[IB j (aT j l e)];exact e
 have yF:∀i j l,(fun i j=>j=pa i) i j->ln i=some l->aU j=some l:=by
  intro i j l e hl;have e:j=pa i:=e;subst e;rcases zaj i s.bj with ae|ae
  ·obtain⟨j,lb,az,fa⟩:=XZ i ae;have:=ee.le i lb (by rw[y6 i j az];exact fa);rw[hl]at this;cases this;rw[Bz i j az,IB j (aT j _ fa)];exact fa
  ·rw[Yd i ae,IC _ (by omega),show s.bj+(st.ai+(i-s.bj)-st.ai)=i by omega];exact hl
 have amv:KZ pa st.h st.ai X.aH (r.dj X.aH) (r.dj X.aH) st.h:=by
  refine⟨fun j o hj ay=> ?_,fun j hj=> ?_,fun i ae=>ae,fun i _ ae=>ae⟩
  ·by_cases hex:∃i,(r.dj X.aH).get i≠none∧pa i=j
   ·obtain⟨i,ae,e⟩:=hex;cases iQ:(r.dj X.aH).get i with
    |none=>exact absurd iQ ae
    |some a8=>
     obtain⟨hs,p,az,e2,b8⟩:=wU i a8 iQ;have:hs=j:=by rw[<-e];exact(Bz i hs az).symm
     subst this;rw[hj]at e2;cases e2;exact .inl ⟨i,a8,e.symm,iQ,b8.mono fun a b fM=>(Bz a b fM).symm⟩
   ·exact .inr ⟨fun i ae e=>hex ⟨i,ae,e⟩,hj⟩
  ·left;rcases zaj j st.ai with uR|mL
   ·exact uR
   ·exact absurd (hw.fresh j mL).2 hj
 have ph:=abx r.hv _ _ _ amv au;have hold:∀a l,(kT r.hv (r.dj X.aH)).get a≠none->fX a=some l->∃j p,s.cb.get a=some j∧st.h.get j=some p∧p≠.dead∧ι j=some l:=by
  intro a l qY hl;obtain⟨j,az,e2⟩:=y7 a l hl;have MX:=c1.mE _ _ az;have:∃o,(r.dj X.aH).get a=some o:=by
   rcases zaj a X.aH with hn|hn
   ·cases iQ:(r.dj X.aH).get a with
    |none=>exact absurd iQ (ph.WR a hn qY)
    |some o=>exact⟨o,rfl⟩
   ·exact Nd a hn MX
  obtain⟨o,al⟩:=this;obtain⟨hs,p,g1,aP,bd⟩:=wU a o al;rw[az]at g1;cases g1;exact⟨j,p,az,aP,bd.live.2,e2⟩
 have Xj:∀j o l,st.h.get j=some o->o≠.dead->ι j=some l->(∀i,(kT r.hv (r.dj X.aH)).get i≠none->pa i≠j)->∀i l',fX i=some l'->l'.bY≠h3->l'.cK≠l.cK:=by
  intro j o l al ay hl af i l' cC ah e;have hH:(kT r.hv (r.dj X.aH)).get i≠none:=by
   obtain⟨hs,az,e2⟩:=y7 i l' cC;have MX:=c1.mE _ _ az;rcases zaj i X.aH with hn|hn
   ·exfalso;rw[wT i hn]at az;cases az;rw[hw.mG i hn]at e2;cases e2;exact ah rfl
   ·obtain⟨a8,hk⟩:=Nd i hn MX;exact ph.pY i (by rw[hk];simp)
  obtain⟨hs,p,az,e2,b8,fa⟩:=hold i l' hH cC;have:=hw.inj hs j p o l' l e2 b8 al ay fa hl (.inl ah) e;subst this;exact af i hH (Bz i hs az)
 refine⟨aU,v',w',F,(FJ _ _ _ _ _ ag).Gj yF bl,⟨fun j o hj ay=> ?_,fun i j o p l m ae h5 hj iF iV hS aM e=> ?_,fun j hj=> ?_,fun j l hl=> ?_,fun g s8=> ?_,?_,fun j l o hl ah hj ay=> ?_⟩,⟨hle,ee.size,fun b hb gG=> ?_,fun j l hl=> ?_,ee.g4⟩,va,IK,apb,apc⟩
 ·rcases ph.obj j o hj ay with⟨i,p,az,e2,b8⟩|⟨az,e2⟩
  ·obtain⟨l,g1,aP⟩:=bK.eC i p e2 b8.live.1;exact⟨l,yF i j l az g1,b8.ZO yF aP⟩
  ·obtain⟨l,g1,aP⟩:=hw.eC j o e2 ay;refine⟨l,hle j l g1,kf.mono X aP hle ?_⟩;exact ee.kept l.cK (hw.gY j l g1) (Xj j o l e2 ay g1 az)
 ·have key:∀i j o p l m,hp.get i=some o->o≠.dead->hp.get j=some p->p≠.dead->aU i=some l->aU j=some m->(l.bY≠h3∨m.bY≠h3)->l.cK=m.cK->
   (∃a q,i=pa a∧(kT r.hv (r.dj X.aH)).get a=some q∧lp (fun i j=>j=pa i) q o)->((∀a,(kT r.hv (r.dj X.aH)).get a≠none->pa a≠j)∧st.h.get j=some p)->False:=by
   intro i j o p l m ae h5 hj iF iV hS aM e ⟨a,q,az,e2,b8⟩ ⟨g1,aP⟩;obtain⟨fO,eF,_⟩:=bK.eC a q e2 b8.live.1;have:=yF a i fO az eF;rw[iV]at this;cases this;obtain⟨eK,e5,_⟩:=hw.eC j p aP iF;have:=hle j eK e5;rw[hS]at this;cases this;rcases ee.new a l eF with hn|hn|⟨b,eG,jn,kF,oH⟩
   ·obtain⟨hs,fW,f1,f2,f3,f4⟩:=hold a l (by rw[e2];simp) hn;have:=hw.inj hs j fW p l m f2 f3 aP iF f4 e5 aM e;subst this;exact g1 a (by rw[e2];simp) (Bz a hs f1)
   ·have:=hw.gY j m e5;omega
   ·exact Xj j p m aP iF e5 g1 b eG jn kF (by omega)
  rcases ph.obj i o ae h5 with aa|aa<;>rcases ph.obj j p hj iF with aJ|aJ
  ·obtain⟨a,q,az,e2,b8⟩:=aa;obtain⟨b,gl,g1,aP,bd⟩:=aJ;obtain⟨fO,eF,_⟩:=bK.eC a q e2 b8.live.1;obtain⟨eK,e5,_⟩:=bK.eC b gl aP bd.live.1;have t1:=yF a i fO az eF;rw[iV]at t1;cases t1;have t2:=yF b j eK g1 e5;rw[hS]at t2;cases t2;have:=bK.inj a b q gl l m e2 b8.live.1 aP bd.live.1 eF e5 aM e;rw[az,g1,this]
  ·exact(key i j o p l m ae h5 hj iF iV hS aM e aa aJ).elim
  ·exact(key j i p o m l hj iF ae h5 hS iV aM.symm e.symm aJ aa).elim
  ·obtain⟨fO,eF,_⟩:=hw.eC i o aa.2 h5;obtain⟨eK,e5,_⟩:=hw.eC j p aJ.2 iF;have t1:=hle i fO eF;rw[iV]at t1;cases t1;have t2:=hle j eK e5;rw[hS]at t2;cases t2;exact hw.inj i j o p l m aa.2 h5 aJ.2 iF eF e5 aM e
 ·have hj:st.ai+(r.aL-s.bj)<=j:=hj;have uL:∀i,r.aL<=i->ln i=none∧(kT r.hv (r.dj X.aH)).get i=none:=fun i ae=>bK.fresh i ae;refine⟨by rw[IC j (by omega)];exact(uL _ (by omega)).1,?_⟩;show hp.get j=none;cases e:hp.get j with
  |none=>rfl
  |some o=>
   exfalso;rcases ph.mE j (by rw[e];simp)with uR|⟨i,az,e2⟩
   ·omega
   ·rcases zaj i s.bj with ae|ae
    ·obtain⟨hs,lb,g1,cu⟩:=XZ i ae;rw[show lY s.cb s.bj st.ai i=hs from Bz i hs g1]at az;have:=aT hs lb cu;omega
    ·rw[show lY s.cb s.bj st.ai i=st.ai+(i-s.bj)from Yd i ae]at az;rcases zaj i r.aL with q1|q1
     ·omega
     ·exact e2 (uL i q1).2
 ·rcases zaj j st.ai with hj|hj
  ·rw[IB j hj]at hl;exact fx (hw.gY j l hl) ee.size
  ·rw[IC j hj]at hl;exact bK.gY _ l hl
 ·exact hle _ _ (hw.mG g s8)
 ·exact zag hw.p6 (zci _ _)
 ·rcases ph.obj j o hj ay with⟨a,q,az,e2,b8⟩|⟨az,e2⟩
  ·obtain⟨fO,eF,_⟩:=bK.eC a q e2 b8.live.1;have t1:=yF a j fO az eF;rw[hl]at t1;cases t1;exact b8.wJ.1 (bK.mn a l q eF ah e2 b8.live.1)
  ·obtain⟨fO,eF,_⟩:=hw.eC j o e2 ay;have t1:=hle j fO eF;rw[hl]at t1;cases t1;exact hw.mn j l o eF ah e2 ay
 ·refine ee.kept b hb fun i l hl ah=> ?_;obtain⟨j,_,cC⟩:=y7 i l hl;exact gG j l cC ah
 ·rcases zaj j st.ai with hj|hj
  ·rw[IB j hj]at hl;exact .inl hl
  ·rw[IC j hj]at hl;rcases ee.new _ l hl with hn|hn|⟨b,m,jn,kF,oH⟩
   ·obtain⟨hs,az,_⟩:=y7 _ l hn;have:=c1.mE _ _ az;omega
   ·exact .inr (.inl hn)
   ·obtain⟨hs,_,e2⟩:=y7 b m jn;exact .inr (.inr ⟨hs,m,e2,kF,oH⟩)
def yy(aN:dn)(as:ac bi)(st:ar)(rs:ac (Nat×c3)):am dk:=
 List.rec (motive:=fun _=>am dk) none (fun r _ ba=>cond (Nat.beq r.1 st.ai) (bp (r.2.app aN as st) some ba) (cond (Nat.beq r.1 0) (bp (r.2.app aN as st) some ba) ba)) rs
theorem TN{aN:dn}{as:ac bi}{st:ar}:∀{rs:ac (Nat×c3)} {fr:dk},yy aN as st rs=some fr->∃r∈rs,r.2.app aN as st=some fr
 |[],fr,h=>by cases h
 |r::rs,fr,h=>by
  have h:cond (Nat.beq r.1 st.ai) (bp (r.2.app aN as st) some (yy aN as st rs)) (cond (Nat.beq r.1 0) (bp (r.2.app aN as st) some (yy aN as st rs)) (yy aN as st rs))=some fr:=h;have Gc:yy aN as st rs=some fr->∃dV∈r::rs,dV.2.app aN as st=some fr:=fun h=>by
   obtain⟨dV,I,U⟩:=TN h;exact⟨dV,zaC _ I,U⟩
  have ay:bp (r.2.app aN as st) some (yy aN as st rs)=some fr->∃dV∈r::rs,dV.2.app aN as st=some fr:=fun h=>by
   cases ha:r.2.app aN as st with
   |none=>rw[ha]at h;exact Gc h
   |some x=>rw[ha]at h;cases h;exact⟨r,by simp,ha⟩
  cases hb:Nat.beq r.1 st.ai with
  |true=>rw[hb]at h;exact ay h
  |false=>
   rw[hb]at h;cases hc:Nat.beq r.1 0 with
   |true=>rw[hc]at h;exact ay h
   |false=>rw[hc]at h;exact Gc h
end Go.an
namespace Go.an
variable{X:Ctx}
variable{n:Nat}{fm:na}{aH:Nat}{f:co}{r:c3}
def BA(n:Nat):aq Nat:=Nat.rec (motive:=fun _=>aq Nat) .nil (fun m t=>aq.fin t fun t=>aq.lg (Nat.succ m) t m m) n
theorem ER:∀(n i:Nat),(BA n).get i=if i<n then some i else none
 |0,i=>by rw[zaa (by omega)];rfl
 |n+1,i=>by
  have e:BA (n+1)=(BA n).set n n:=by
   show aq.fin (BA n) (fun t=>aq.lg (Nat.succ n) t n n)=_;rw[aq.p1,aq.xw]
  rw[e,aq.eI,ER n i];by_cases h:i=n
  ·subst h;rw[zab rfl,zab (by omega)]
  ·rw[zaa h];by_cases aG:i<n
   ·rw[zab aG,zab (by omega)]
   ·rw[zaa aG,zaa (by omega)]
def asO{s:dn}(I:s.cb=BA n)(U:s.inv=BA n)(ag:s.bj=n):s.dg∧s.bj=n∧∀g,g<n->s.cb.get g=some g:=by
 refine⟨⟨fun i j=> ?_,fun i j h=> ?_⟩,ag,fun g aM=> ?_⟩
 ·rw[I,U,ER,ER];by_cases ae:i<n<;>by_cases hj:j<n<;>simp[ae,hj]<;>omega
 ·rw[I,ER]at h;rw[ag];by_cases ae:i<n
  ·exact ae
  ·rw[zaa ae]at h;cases h
 ·rw[I,ER,zab aM]
def c3.dU(r:c3)(aH:Nat)(aS:aq cJ)(fm:na)(n f:Nat):Bool:=
 aq.fin (r.dj aH) fun h=>aq.fin (kT r.hv h) fun aG=>gb (Nat.add aH (dd r.pY)) fun m=>an.dU (bH aS fm n (.func (.func f) #[] #[]) r.as none ⟨h,m⟩) r.v ⟨aG,r.aL⟩
def ku{aS:aq cJ}(db:Good X)(gf:lK X aS)(pr:sM X fm)(h:r.dU aH aS fm n f=true):ei X f (r.row aH):=by
 refine abZ db gf pr (n:=n) ?_;unfold c3.dU gb at h;rw[aq.p1,aq.p1,zax]at h;exact h
def c3.lL(r:c3)(aH g:Nat)(el:ci)(c:Nat)(aS:aq cJ)(fm:na)(n f:Nat):Bool:=
 aq.fin ((r.dj aH).set g (.cells [.chan (some c)] el (0,1) false)) fun h=>aq.fin ((kT r.hv (r.dj aH)).set g (.cells [.chan (some c)] el (0,1) false)) fun aG=>gb (Nat.add aH (dd r.pY)) fun m=>
  an.dU (bH aS fm n (.func (.func f) #[] #[]) r.as none ⟨h,m⟩) r.v ⟨aG,r.aL⟩
def m5{aS:aq cJ}(db:Good X)(gf:lK X aS)(pr:sM X fm){g:Nat}{el:ci}{c:Nat}(h:r.lL aH g el c aS fm n f=true):ei X f ((r.row aH).oT g el c):=by
 refine abZ db gf pr (n:=n) ?_;unfold c3.lL gb at h;rw[aq.p1,aq.p1,zax]at h;exact h
def c3.pR(r:c3)(aH:Nat)(olds:ac Nat)(aS:aq cJ)(fm:na)(n f:Nat)(xf:cJ):Bool:=
 aq.fin (r.dj aH) fun h=>aq.fin (kT r.hv h) fun aG=>gb (Nat.add aH (dd r.pY)) fun m=>an.pR olds m r.v ⟨aG,r.aL⟩ (Dn (bH aS fm n) n f xf r.as ⟨h,m⟩)
def Cx{aS:aq cJ}(db:Good X)(gf:lK X aS)(pr:sM X fm){xf:cJ}{olds:ac Nat}(aa:aS.get f=some xf)(h:r.pR aH olds aS fm n f xf=true):ei X f (r.row aH):=by
 refine as0 db gf pr (n:=n) (olds:=olds) aa ?_;unfold c3.pR gb at h;rw[aq.p1,aq.p1,zax]at h;exact h
def assoc(t:ac (Nat×ac (Nat×c3)))(f:Nat):ac (Nat×c3):=
 List.rec (motive:=fun _=>ac (Nat×c3)) [] (fun p _ ba=>cond (Nat.beq p.1 f) p.2 ba) t
def sm(aN:dn)(t:ac (Nat×ac (Nat×c3))):na:=fun f as st=>yy aN as st (assoc t f)
def x8(X:Ctx)(f:Nat)(l:ac (Nat×c3)):Prop:=∀r∈l,ei X f (r.2.row X.aH)
def C6(X:Ctx)(t:ac (Nat×ac (Nat×c3))):Prop:=∀p∈t,x8 X p.1 p.2
variable{l:ac (Nat×c3)}{t:ac (Nat×ac (Nat×c3))}
def iq{f:Nat}:x8 X f []:=fun _ h=>by cases h
def c7{f:Nat}(h:ei X f (r.row X.aH))(ah:x8 X f l):x8 X f ((n,r)::l):=List.forall_mem_cons.2 ⟨h,ah⟩
def bV:C6 X []:=fun _ h=>by cases h
def iJ{f:Nat}(h:x8 X f l)(ah:C6 X t):C6 X ((f,l)::t):=List.forall_mem_cons.2 ⟨h,ah⟩
theorem RX:∀{t:ac (Nat×ac (Nat×c3))},C6 X t->∀f,x8 X f (assoc t f)
 |[],_,f=>iq
 |p::t,h,f=>by
  show x8 X f (cond (Nat.beq p.1 f) p.2 (assoc t f));cases hb:Nat.beq p.1 f with
  |true=>rw[<-dI hb];exact h p (by simp)
  |false=>exact RX (fun q hq=>h q (zaC _ hq)) f
def tD{aN:dn}(tf:aN.dg∧aN.bj=X.aH∧∀g,g<X.aH->aN.cb.get g=some g)(aV:C6 X t):sM X (sm aN t):=by
 intro f as st r aD ι as' w ha hw _;obtain⟨row,hm,hh⟩:=TN aD;exact RA (RX aV f row hm) tf.1 tf.2.1 tf.2.2 hh ι as' w ha hw
def afv{r:Row}(aD:ei X f r){ι:bu}{as':ac bi}{w:d7}(ha:bP ι r.as as')(hw:bx X ι r.st w):
 Calls X.P f as'.toArray w (fun e w'=>∃aU v',e= .returned v'∧bw aU r.v v'∧bx X aU r.st' w'∧e4 ι aU w w'):=by
 intro cs;obtain⟨_,U⟩:=aD ι as' w ha hw;obtain⟨aU,v',w',F,I,U,ag,au,a0,b5,cY⟩:=U .normal (fun _=>cs) (fun F eD ao=>by
  have cl:F.kind= .normal:=ao;simp[tryRecover,cl])
 obtain⟨g1,aP,fn,bd,cu⟩:=b5;exact⟨.returned v',w',F,⟨aU,v',rfl,I,U,ag⟩,cY,a0,g1,aP,au,fn,bd,cu⟩
def IG(n:Nat):bu:=fun i=>if i<n then some ⟨i,0,0,h3⟩else none
def vS(n:Nat)(W:d7)(p:Nat×bB):Prop:=
 p.1<n∧∃cs el m C bk,p.2= .cells cs el (0,m) false∧0<m∧W.heap[p.1]? =some (.cells C el bk)∧bP (IG n) cs C.toList
def KQ{α β Gn:Type}(f:α->β->am Gn):ac α->ac β->am (ac Gn)
 |[],[]=>some []
 |a::as,b::bh=>(f a b).bind fun c=>(KQ f as bh).map fun cs=>c::cs
 |_,_=>none
def AH:Nat->ac (Nat×Nat)->Nat->Bool
 |o,[],n=>Nat.beq o n
 |o,p::r,n=>Nat.beq p.1 o&&AH (o+p.2) r n
def A1(P:f5):Nat->ci->DataW Unit->am (ac bi)
 |0,_,_=>none
 |n+1,t,d=>
  match P.underlying t,d with
  |some .bool,.lit (.bool b)=>some [.bool b]
  |some (.int _),.lit (.int k m)=>some [.int k m]
  |some .string,.lit (.string s)=>some [.string ⟨⟨s⟩⟩]
  |some (.struct bJ),.agg ds=>if AH 0 (bJ.toList.map fun f=>(f.offset,P.cellsOf f.type)) (P.cellsOf t)then(KQ (fun(f:Field) d=>A1 P n f.type d) bJ.toList ds).map List.flatten else none
  |some (.array m e),.agg ds=>if AH 0 ((List.range m).map fun i=>(i*P.cellsOf e,P.cellsOf e)) (P.cellsOf t)then(KQ (fun(_:Nat) d=>A1 P n e d) (List.range m) ds).map List.flatten else none
  |_,_=>none
theorem G7(cs:ac bi):∀(l:ac (Nat×Nat)) (o:Nat),AH o l cs.length=true->cs.drop o=(l.map fun p=>(cs.drop p.1).take p.2).flatten
 |[],o,h=>by
  have:=dI h;rw[this];simp
 |p::r,o,h=>by
  unfold AH at h;rw[b1]at h;have e:=dI h.1;rw[zaQ,zdV,<-G7 cs r (o+p.2) h.2,e,<-zbu,zbp]
theorem Q0{α:Type}{g:α->am (DataW Unit×ac MemPlace)}{k:α->DataW Unit->am (ac bi)}{seg:α->ac bi}
 (ab:∀a d p vs,g a=some (d,p)->k a d=some vs->seg a=vs):∀(as:ac α) (xs:ac (DataW Unit×ac MemPlace)) (CO:ac (ac bi)),as.mapM g=some xs->KQ k as (xs.map (·.1))=some CO->as.map seg=CO
 |[],xs,CO,h,aG=>by
  simp at h;subst h;cases aG;rfl
 |a::as,xs,CO,h,aG=>by
  rw[zdi]at h;obtain⟨x,aa,h⟩:=zbK.1 h;obtain⟨aw,aJ,h⟩:=zbK.1 h;cases h;obtain⟨vs,az,aG⟩:=zbK.1 aG;obtain⟨awg,e2,rfl⟩:=zaR.1 aG;rw[zaQ,ab a x.1 x.2 vs aa az,Q0 ab as aw awg aJ e2]
theorem DX{P:f5}{w:d7}{base:Nat}{sp:Nat->Bool}{held:Bool}:∀(fuel n:Nat) (t:ci) (cs:ac bi) (d:DataW Unit) (p:ac MemPlace) (vs:ac bi),
 DataW.trod (fun _=>()) P w base sp held fuel t cs=some (d,p)->A1 P n t d=some vs->cs=vs
 |0,_,_,_,_,_,_,h,_=>by simp[DataW.trod]at h
 |_+1,0,_,_,_,_,_,_,h=>by simp[A1]at h
 |fuel+1,n+1,t,cs,d,p,vs,h,aG=>by
  unfold A1 at aG;split at aG
  ·rename_i b hu;cases aG;simp only[DataW.trod,hu]at h;split at h<;>first|(rename_i hq;cases hq)|skip
   all_goals first|(cases h;rfl)|(simp at h)
  ·rename_i k k' m hu;cases aG;simp only[DataW.trod,hu]at h;split at h<;>first|(rename_i hq;cases hq)|skip
   all_goals first
    |(split at h
      ·rename_i hc;cases h;rw[hc.1]
      ·cases h)
    |(simp at h)
  ·rename_i s hu;cases aG;simp only[DataW.trod,hu]at h;split at h<;>first|(rename_i hq;cases hq)|skip
   all_goals first
    |(split at h
      ·cases h;rfl
      ·cases h)
    |(simp at h)
  ·rename_i bJ ds hu;split at aG
   ·rename_i hc;obtain⟨CO,az,rfl⟩:=zaR.1 aG;simp only[DataW.trod,hu]at h;split at h
    ·rename_i hl;obtain⟨xs,e2,b8⟩:=zaR.1 h;cases b8;rw[<-hl]at hc;have fa:=G7 cs _ 0 hc;rw[zaq,zcl]at fa;have l9:=Q0 (seg:=fun(f:Field)=>(cs.drop f.offset).take (P.cellsOf f.type)) (fun f d p vs I U=>DX fuel n f.type _ d p vs I U) _ _ _ e2 az;rw[<-l9];exact fa
    ·cases h
   ·cases aG
  ·rename_i m e ds hu;split at aG
   ·rename_i hc;obtain⟨CO,az,rfl⟩:=zaR.1 aG;simp only[DataW.trod,hu]at h;split at h
    ·rename_i hl;obtain⟨xs,e2,b8⟩:=zaR.1 h;cases b8;rw[<-hl]at hc;have fa:=G7 cs _ 0 hc;rw[zaq,zcl]at fa;have l9:=Q0 (seg:=fun(i:Nat)=>(cs.drop (i*P.cellsOf e)).take (P.cellsOf e)) (fun i d p vs I U=>DX fuel n e _ d p vs I U) _ _ _ e2 az;rw[<-l9];exact fa
    ·cases h
   ·cases aG
  ·cases aG
theorem YH{P:f5}{w:d7}:∀{l:ac (String×DataW Unit)} {ps:ac MemPlace},DataW.LaidVars P w l ps->∀x∈l,∃g t cs fuel p,P.globalNamed x.1=some g∧(P.globals[g]?).map (·.type)=some t∧w.var? P x.1=some cs∧
 DataW.trod (fun _=>()) P w 0 (fun _=>true) false fuel t cs.toList=some (x.2,p)
 |[],_,_,x,aa=>by cases aa
 |(n,d)::r,ps,h,x,aa=>by
  obtain⟨g,t,cs,fuel,p,q,I,U,ag,au,a0,_⟩:=h;rcases zah.1 aa with rfl|aa
  ·exact⟨g,t,cs,fuel,p,I,U,ag,au⟩
  ·exact YH a0 x aa
def Jw:bi->Bool
 |.bool _|.int _ _|.string _=>true
 |_=>false
def arf{ι:bu}{v:bi}(h:Jw v=true):bw ι v v:=by
 cases v<;>first|(simp[Jw]at h;done)|constructor
theorem aaB{ι:bu}:∀{vs:ac bi},vs.all Jw=true->bP ι vs vs
 |[],_=>.nil ι
 |v::vs,h=>by
  rw[zdn,b1]at h;exact .cons (arf h.1) (aaB h.2)
def HL{P:f5}{W:d7}{l:ac (String×DataW Unit)}{ps:ac MemPlace}(hl:DataW.LaidVars P W l ps){g N:Nat}{name:String}{d:DataW Unit}{t el:ci}{vs:ac bi}{m:Nat}
 (aa:(name,d)∈l) (aM:P.globalNamed name=some g) (aV:(P.globals[g]?).map (·.type)=some t) (af:A1 P n t d=some vs) (s8:g<N) (hm:0<m) (hp:vs.all Jw=true)
 (Bs:∃cs,W.heap[g]? =some (.cells cs el)):vS N W (g,.cells vs el (0,m) false):=by
 obtain⟨gD,hM,cs,fuel,p,I,U,ag,au⟩:=YH hl _ aa;simp only at I ag au;rw[aM]at I;cases I;rw[aV]at U;cases U;obtain⟨C,hC⟩:=Bs;have aE:C=cs:=by
  simp only[World.var?,aM,Option.bind_some,hC]at ag;exact Option.some.inj ag
 subst aE;refine⟨s8,vs,el,m,C,_,rfl,hm,hC,?_⟩;rw[DX fuel n t _ d p vs au af];exact aaB hp
end Go.an
namespace Go.an
variable{Q:Nat->cJ->Prop}
variable{i:Nat}
def adb(t:aq {p:Nat×cJ //Q p.1 p.2}):aq cJ:=
 aq.rec (motive:=fun _=>aq cJ) .nil (fun _ v _ l r=>.node l (Option.rec (motive:=fun _=>am cJ) none (fun p=>some p.1.2) v) r) t
def keyed:aq {p:Nat×cJ //Q p.1 p.2}->(Nat->Nat)->Bool
 |.nil,_=>true
 |.node l v r,g=>(match v with|some p=>Nat.beq p.1.1 (g 0)|none=>true)&&(keyed l (fun n=>g (2*n+1))&&keyed r (fun n=>g (2*n+2)))
theorem Qz:∀(t:aq {p:Nat×cJ //Q p.1 p.2}) (g:Nat->Nat),keyed t g=true->aq.CS Q (adb t) g
 |.nil,_,_=>trivial
 |.node l v r,g,h=>by
  unfold keyed at h;rw[b1,b1]at h;refine⟨?_,Qz l _ h.2.1,Qz r _ h.2.2⟩;cases v with
  |none=>trivial
  |some p=>
   have e:=dI h.1;show Q (g 0) p.1.2;rw[<-e];exact p.2
def b6(g:{b:cJ //Q i b}):aq {p:Nat×cJ //Q p.1 p.2}:=.node .nil (some ⟨(i,g.1),g.2⟩) .nil
def bz(a:aq {p:Nat×cJ //Q p.1 p.2})(g:{b:cJ //Q i b})(b:aq {p:Nat×cJ //Q p.1 p.2}):aq {p:Nat×cJ //Q p.1 p.2}:=.node a (some ⟨(i,g.1),g.2⟩) b
def ia(a b:aq {p:Nat×cJ //Q p.1 p.2}):aq {p:Nat×cJ //Q p.1 p.2}:=.node a none b
end Go.an
namespace Go.an.KU
inductive K8 where
 |bool|int (k:IntKind)|str|a5 (e:Nat)|b9 (n e:Nat)|st (l:List (Nat×Nat))|nE (e:Nat)|mp (k v:Nat)|fn|N3|up
inductive C5 where
 |l
 |n (a:C5) (k:Nat) (d:K8) (s b:Nat) (c:C5)
def C5.get:C5->Nat->K8×Nat×Nat
 |.l,_=>(.up,0,0)
 |.n a k d s b c,t=>match Nat.blt t k with
  |true=>a.get t
  |false=>match Nat.beq t k with
   |true=>(d,s,b)
   |false=>c.get t
structure Env where
 kM:Nat
 la:Nat
 bj:Nat
 idx:Nat
 mj:Nat
 ty:C5
 mt:ac (String×ac (Nat×co)):=[]
 aqa:am (Nat×Nat):=none
namespace Env
def Zg(C:Env)(n:String):ac (Nat×co):=match C.mt.find? (fun p=>p.1==n)with
 |some p=>p.2
 |none=>[]
def d(C:Env)(t:Nat):K8:=(C.ty.get t).1
def s(C:Env)(t:Nat):Nat:=(C.ty.get t).2.1
def b(C:Env)(t:Nat):Nat:=(C.ty.get t).2.2
def g(C:Env)(t:Nat):Bool:=match C.d t with
 |.st _=>true
 |.b9 _ _=>true
 |_=>false
def Ts(C:Env)(t:Nat):Nat:=match C.d t with
 |.st l=>l.foldl (fun n p=>match C.d p.2 with
  |.str=>n+100
  |_=>n+1) 0
 |_=>C.s t
def QZ(C:Env):Nat->Nat->ac bi
 |0,_=>[]
 |f+1,t=>match C.d t with
  |.bool=>[.bool false]
  |.int k=>[.int k 0]
  |.str=>[.string ⟨#[]⟩]
  |.a5 _=>[.slice none 0 0]
  |.b9 n e=>(List.replicate n (C.QZ f e)).flatten
  |.st l=>l.flatMap fun p=>C.QZ f p.2
  |.nE _=>[.pointer none]
  |.mp _ _=>[.map none]
  |.fn=>[.nilFunc]
  |.N3=>[.nilIface]
  |.up=>[]
def z(C:Env)(t:Nat):ac bi:=C.QZ 20 t
def tX(C:Env)(t:Nat):bi:=match C.g t with
 |true=>.agg ⟨C.z t⟩
 |false=>(C.z t).headD .nilIface
def c2(C:Env)(t:Nat):fQ:=match C.d t with
 |.int k=>.int k
 |.b9 n e=>match C.d e with
  |.int k=>.arr k n
  |_=>.str
 |_=>.str
def TA(C:Env)(t:Nat):qw:=match C.d t with
 |.a5 _=>.lD
 |.mp _ _=>.zu
 |.fn=>.xh
 |.N3=>.xi
 |.nE _=>.ptr
 |_=>.tG
def bin(C:Env)(je:ac Nat)(o:BinOp)(t:Nat)(a b:bv):da:=
 let u:=match b with
  |.tmp j=>je.any (Nat.beq j)
  |_=>false
 match C.d t,o,u with
 |.int _,.leq,true=>.ext (.yl false a b)
 |.int _,.gtr,true=>.ext (.yl true a b)
 |.int _,o,_=>.bin o a b
 |.str,o,_=>.bin o a b
 |.st _,.neq,_=>.ext (.rR true (C.Ts t) a b)
 |.b9 _ _,.neq,_=>.ext (.rR true (C.s t) a b)
 |.st _,_,_=>.ext (.rR false (C.Ts t) a b)
 |.b9 _ _,_,_=>.ext (.rR false (C.s t) a b)
 |_,.neq,_=>.eqv true (C.TA t) a b
 |_,_,_=>.eqv false (C.TA t) a b
def conv(C:Env)(s t:Nat)(a:bv):da:=match C.d s,C.d t with
 |.int _,.int k=>.uk k a
 |.str,.str=>.yj a
 |.a5 _,.str=>.Aw a
 |.str,.a5 e=>.wq e a
 |.nE _,.up=>.G9 a
 |.up,.nE e=>.Hb e (C.s e) a
 |_,_=>.refuse
def parts(C:Env)(e:Nat)(ps:ac (Nat×bv)):ac (Nat×Nat×bv):=ps.map fun p=>(p.1*C.s e,C.s e,p.2)
def aiC(C:Env)(f:Nat)(as:ac bv):da:=
 match as,Nat.beq f C.kM,Nat.beq f C.la,Nat.beq f C.bj,Nat.beq f C.idx with
 |[a],true,_,_,_=>.kM a
 |[a,b],_,true,_,_=>.la a b
 |[a,b],_,_,true,_=>.ext (.bj a b)
 |[a,b],_,_,_,true=>.ext (.idxs C.mj a b)
 |as,_,_,_,_=>match as,C.aqa with
  |[a],some (g,e)=>match Nat.beq f g with
   |true=>.ext (.I5 e a)
   |false=>.call (.func f) [a]
  |as,_=>.call (.func f) as
def len(C:Env)(t:Nat)(a:bv):da:=match C.d t with
 |.a5 _=>.pw a
 |.str=>.vd a
 |.b9 n _=>.zh n
 |.mp _ _=>.ext (.BO a)
 |.nE e=>match C.d e with
  |.b9 n _=>.zh n
  |_=>.refuse
 |_=>.refuse
def el(C:Env)(t:Nat):Nat:=match C.d t with
 |.a5 e=>e
 |.b9 _ e=>e
 |.nE e=>e
 |_=>0
def aeY(C:Env)(f:Builtin)(as:ac bv)(ts:ac Nat):da:=
 match f,as,ts with
 |.len,[a],t::_=>C.len t a
 |.cap,[a],t::_=>match C.d t with
  |.a5 _=>.ext (.LN a)
  |_=>.refuse
 |.delete,[a,b],t::_=>match C.d t with
  |.mp k _=>.ext (.del (C.c2 k) a b)
  |_=>.refuse
 |.append,[a,b],t::_=>.app (C.el t) (C.s (C.el t)) (C.b (C.el t)) a b
 |.max,a::as,_=>.e8 a as
 |.min,a::as,_=>.zs a as
 |.copy,[a,b],t::_=>.rN (C.s (C.el t)) a b
 |.recover,_,_=>.vy
 |.unsafeSliceData,[a],_=>.FZ a
 |.unsafeString,[a,b],t::_=>.xU (C.el t) a b
 |_,_,_=>.refuse
def p3(C:Env)(t f:Nat):Nat×Nat:=match C.d t with
 |.st l=>l.getD f (0,0)
 |_=>(0,0)
def awi(C:Env)(je:ac Nat):Op->da
 |.move a=>.iu a
 |.assign a=>.iu a
 |.pick a b c=>.pick a b c
 |.alloc t=>.alloc (C.z t) t
 |.box t a=>.box t a
 |.build t ps=>.build (C.z t) (match C.d t with
  |.st l=>ps.toList.map fun p=>((l.getD p.1 (0,0)).1,C.s (l.getD p.1 (0,0)).2,p.2)
  |.b9 _ e=>C.parts e ps.toList
  |_=>[])
 |.buildSlice t n ps=>.pO (C.el t) n ((List.replicate n (C.z (C.el t))).flatten) (C.parts (C.el t) ps.toList)
 |.load t a=>match C.g t with
  |true=>.rf (C.s t) a
  |false=>.jr a
 |.store t a x=>.store (C.s t) a x
 |.nilCheck a=>.tw a
 |.binOp o t a b _=>C.bin je o t a b
 |.unOp o _ a=>.un o a
 |.convert s t a=>C.conv s t a
 |.makeInterface t a=>.E7 t a
 |.makeFunc f a b=>.sh f a.toList b.toList
 |.makeMap _ _=>.vg
 |.makeSlice t l c=>.si (C.el t) (C.b (C.el t)) (C.z (C.el t)) l c
 |.slice t a aK ae e8=>match C.d t with
  |.str=>.tR a aK ae
  |.b9 n e=>.CD n (C.s e) a aK ae e8
  |.a5 e=>.oj (C.s e) a aK ae e8
  |_=>.refuse
 |.fieldAddr t a f=>.qS (C.p3 t f).1 a
 |.field t a f=>.p3 (C.p3 t f).1 (C.s (C.p3 t f).2) (C.g (C.p3 t f).2) a
 |.indexAddr t a i=>match C.d t with
  |.b9 n e=>.u0 n (C.s e) a i
  |.a5 e=>.mY (C.s e) a i
  |_=>.refuse
 |.index t a i=>match C.d t with
  |.str=>.xa a i
  |.b9 n e=>.IJ n (C.s e) (C.g e) a i
  |_=>.refuse
 |.typeAssert a _ t ok=>.Gb t (C.tX t) ok a
 |.extract a i=>.rT a i
 |.call c=>match c.callee with
  |.value f=>match f with
   |.func f=>C.aiC f c.args.toList
   |f=>.call f c.args.toList
  |.builtin b=>C.aeY b c.args.toList c.argTypes.toList
  |.invoke r n=>.inv (C.Zg n) r c.args.toList
 |.defer c=>match c.callee with
  |.value f=>.pX f c.args.toList
  |_=>.refuse
 |.panic a=>.oX a
 |.lookup t m k ok=>match C.d t with
  |.mp a v=>.ext (.look (C.c2 a) (C.tX v) ok m k)
  |_=>.refuse
 |.mapUpdate t m k v=>match C.d t with
  |.mp a _=>.ext (.hv (C.c2 a) m k v)
  |_=>.refuse
 |.insert t m k v=>match C.d t with
  |.mp a _=>.ext (.hv (C.c2 a) m k v)
  |_=>.refuse
 |.range t m=>match C.d t with
  |.str=>.ext (.Ks m)
  |_=>.ext (.BP m)
 |.next i s=>match s with
  |true=>.ext (.Kr i)
  |false=>.ext (.ri i)
 |.entry i=>.ext (.BN i)
 |_=>.refuse
end Env
def ol:am bv->ac bv
 |none=>[]
 |some a=>[a]
def awo:v5->ac bv
 |.look _ _ _ a b=>[a,b]
 |.hv _ a b c=>[a,b,c]
 |.del _ a b=>[a,b]
 |.BO a=>[a]
 |.BP a=>[a]
 |.BN a=>[a]
 |.bj a b=>[a,b]
 |.rR _ _ a b=>[a,b]
 |.ri a=>[a]
 |.yl _ a b=>[a,b]
 |.idxs _ a b=>[a,b]
 |.Ks a=>[a]
 |.Kr a=>[a]
 |.I5 _ a=>[a]
 |.LN a=>[a]
def Gc:da->ac bv
 |.iu a=>[a]
 |.pick a b c=>[a,b,c]
 |.alloc _ _=>[]
 |.box _ a=>[a]
 |.build _ l=>l.map fun p=>p.2.2
 |.pO _ _ _ l=>l.map fun p=>p.2.2
 |.jr a=>[a]
 |.rf _ a=>[a]
 |.store _ a b=>[a,b]
 |.tw a=>[a]
 |.bin _ a b=>[a,b]
 |.eqv _ _ a b=>[a,b]
 |.un _ a=>[a]
 |.uk _ a=>[a]
 |.yj a=>[a]
 |.Aw a=>[a]
 |.wq _ a=>[a]
 |.E7 _ a=>[a]
 |.sh _ a b=>a++b
 |.vg=>[]
 |.si _ _ _ a b=>[a,b]
 |.tR a b c=>a::(ol b++ol c)
 |.CD _ _ a b c e=>a::(ol b++(ol c++ol e))
 |.oj _ a b c e=>a::(ol b++(ol c++ol e))
 |.qS _ a=>[a]
 |.p3 _ _ _ a=>[a]
 |.u0 _ _ a b=>[a,b]
 |.mY _ a b=>[a,b]
 |.xa a b=>[a,b]
 |.IJ _ _ _ a b=>[a,b]
 |.Gb _ _ _ a=>[a]
 |.rT a _=>[a]
 |.call f l=>f::l
 |.inv _ f l=>f::l
 |.OL _ _ a=>[a]
 |.pw a=>[a]
 |.vd a=>[a]
 |.xe a=>[a]
 |.app _ _ _ a b=>[a,b]
 |.e8 a l=>a::l
 |.zs a l=>a::l
 |.rN _ a b=>[a,b]
 |.pX f l=>f::l
 |.oX a=>[a]
 |.G9 a=>[a]
 |.Hb _ _ a=>[a]
 |.FZ a=>[a]
 |.xU _ a b=>[a,b]
 |.la a b=>[a,b]
 |.kM a=>[a]
 |.ext y=>awo y
 |_=>[]
def vE(l:ac bv):ac Nat:=l.filterMap fun
 |.tmp j=>some j
 |_=>none
def bI:da->Nat
 |.ext y=>match y with
  |.hv _ _ _ _=>0
  |.del _ _ _=>0
  |.BP _=>0
  |.ri _=>0
  |.Ks _=>0
  |.Kr _=>0
  |.I5 _ _=>0
  |_=>2
 |.call _ _=>0
 |.inv _ _ _=>0
 |.app _ _ _ _ _=>0
 |.rN _ _ _=>0
 |.vy=>0
 |.pX _ _=>0
 |.oX _=>0
 |.store _ _ _=>0
 |.refuse=>0
 |.xU _ _ _=>0
 |.xe _=>0
 |.alloc _ _=>1
 |.box _ _=>1
 |.pO _ _ _ _=>1
 |.wq _ _=>1
 |.vg=>1
 |.si _ _ _ _ _=>1
 |_=>2
def mem(l:ac Nat)(t:Nat):Bool:=l.any (Nat.beq t)
def add(l:ac Nat)(t:Nat):ac Nat:=match mem l t with
 |true=>l
 |false=>l++[t]
def alK(ops:ac Oper)(o:Oper):am (Nat×Bool):=match o.guard with
 |none=>none
 |some (j,w)=>match(ops[j]?).bind (·.dst)with
  |some t=>some (t,w)
  |none=>none
def OE(t:Nat):ac Oper->am String
 |[]=>none
 |o::os=>match o.op,o.dst with
  |.makeFunc (.method n) _ _,some d=>(match Nat.beq d t with
   |true=>some n
   |false=>OE t os)
  |_,_=>OE t os
def adY(C:Env)(je:ac Nat)(ops:ac Oper)(o:Oper):bA:=⟨o.dst,(match o.op with
 |.nilCheck (.tmp t)=>(match OE t ops with
  |some n=>.OL n (C.Zg n) (.tmp t)
  |none=>.tw (.tmp t))
 |_=>C.awi je o.op),alK ops o⟩
def binds(e:Edge):Bool:=match e.ground with
 |.textOnly _=>false
 |.gcOnly _=>false
 |_=>true
def RY:ac Nat->ac Oper->ac Nat
 |B,[]=>B
 |B,o::os=>RY (B++[(o.after.toList.filter binds).foldl (fun m e=>m|||(2^e.on|||B.getD e.on 0)) 0]) os
def ord(n:Nat)(B K:ac Nat):ac Nat:=
 let es:=(List.range n).filter fun i=>Nat.beq (K.getD i 2) 0
 let l:=es.foldl (fun l e=>add (((List.range n).filter fun i=>(B.getD e 0).testBit i).foldl add l) e) []
 (List.range n).foldl add l
def maskAt(m:Nat):Nat->ac Nat->Nat
 |_,[]=>0
 |p,i::l=>(match m.testBit i with
  |true=>2^p
  |false=>0)+maskAt m (p+1) l
def rP(C:Env)(je:ac Nat)(ops:ac Oper):du:=
 let xs:=ops.map (adY C je ops)
 let K:=xs.map fun x=>bI x.o
 let L:=xs.map fun x=>vE (Gc x.o)++(match x.g with
  |some (t,_)=>[t]
  |none=>[])
 let B:=RY [] ops
 let tA:=ord ops.length B K
 let row (p:Nat) (i:Nat):bA×cD:=(xs.getD i ⟨none,.refuse,none⟩,match K.getD i 0 with
  |0=>.dY
  |1=>.hZ (L.getD i [])
  |_=>.read (((tA.take p).filter fun j=>Nat.beq (K.getD j 2) 0&& !(B.getD i 0).testBit j).length) (L.getD i []))
 let eb:=(List.range tA.length).foldl (fun l p=>match(xs.getD (tA.getD p 0) ⟨none,.refuse,none⟩).d with
  |none=>l
  |some t=>match(tA.take p).any fun j=>(Nat.beq (K.getD j 2) 0||mem (L.getD j []) t)&& !(B.getD (tA.getD p 0) 0).testBit j with
   |true=>add l t
   |false=>l) []
 .rP ((List.range tA.length).map fun p=>row p (tA.getD p 0)) tA eb (tA.map fun i=>maskAt (B.getD i 0) 0 tA)
def code(C:Env)(je:ac Nat):Code->du
 |.skip=>.skip
 |.label _=>.skip
 |.region _ ops ahA=>match ahA with
  |true=>rP C je ops.toList
  |false=>.g3 (ops.toList.map (adY C je ops.toList))
 |.seq a b=>.seq (code C je a) (code C je b)
 |.cond x a b=>.cond x (code C je a) (code C je b)
 |.block n a=>.block n (code C je a)
 |.loop a=>.loop (code C je a)
 |.rangeFunc x ps a b=>.tP x ps.toList (code C je a) (code C je b)
 |.scope a=>.scope (code C je a)
 |.exit n=>.exit n
 |.ret=>.ret
 |_=>.refuse
def avt(g:Nat)(o:Oper):ac Nat:=match o.op,o.dst with
 |.load _ (.global h),some t=>match Nat.beq g h with
  |true=>[t]
  |false=>[]
 |_,_=>[]
def tU(g:Nat):Code->ac Nat
 |.region _ ops _=>ops.toList.flatMap (avt g)
 |.seq a b=>tU g a++tU g b
 |.cond _ a b=>tU g a++tU g b
 |.block _ a=>tU g a
 |.loop a=>tU g a
 |.rangeFunc _ _ a b=>tU g a++tU g b
 |.scope a=>tU g a
 |_=>[]
def res(C:Env):ResultVar->hB
 |.tmp t=>.tmp t
 |.cell t k=>.cell t (C.g k) (C.s k)
def fn(C:Env)(f:Func):cJ:=match f.body with
 |none=>⟨0,[],.refuse⟩
 |some c=>⟨f.ntmps,f.results.toList.map (res C),code C (tU C.mj c) c⟩
end Go.an.KU
