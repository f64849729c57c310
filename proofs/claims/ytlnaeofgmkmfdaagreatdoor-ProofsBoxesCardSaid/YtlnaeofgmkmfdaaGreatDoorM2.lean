/- An abstract machine, and that its evaluations stand for runs of the model (part 2); no condition. -/
import Derived.Laws.StructEq
import Derived.Recover
import Derived.Orders
import Derived.Defers
import Derived.RangeFuncLeaves
import Derived.RangeFuncRecord
import Derived.Test.YtlnaeofgmkmfdaaGreatDoorM1
noncomputable section
set_option linter.all false
namespace Go.an
variable{X:Ctx}
section
variable{ι:bu}{fr aF:aO}{a:Act}{aI:Nat}{st st':ar}{w:d7}{o:Oper}{v:bi}{call:bF}
variable{fu:ci}{c2:fQ}{t:ci}{m x:bv}{kk:ci}{k:bv}{u:ci}{P:f5}{r:Nat}{s:be Nat}{b:Nat}{y:bv}
def auY(c6:X.keys fu=some c2){k:bi}(ab:c2.ok k=true)(w:d7):(Instr.keyThatStays k k).run X.P w= .ok k w:=by
 obtain⟨K,bR⟩:=X.tp fu c2 c6;obtain⟨zk,nr⟩:=bR k ab;exact K.stays w nr
def toList_modify(C:be d9)(j:Nat)(f:d9->d9){c:d9}(h:C.toList[j]? =some c):(C.modify j f).toList=C.toList.set j (f c):=by
 obtain⟨hj,hc⟩:=zac.1 h;apply List.ext_getElem
 ·simp
 ·intro i I U;rw[List.getElem_set];simp only[zaB,Array.getElem_modify];by_cases e:j=i
  ·subst e;simp only[if_true];rw[<-hc];rfl
  ·rw[zaa e,zaa e]
def fQ.pure{v':bi}(h:c2.ok v=true)(aD:bw ι v v'):bw ι v v:=by
 have:=fQ.same h aD;rw[this]at aD;exact aD
def acx(hm:cN X.aH m=true)(ab:cN X.aH k=true)(aa:cN X.aH x=true)(al:o.op= .mapUpdate t m k x∨o.op= .insert t m k x)(hu:X.P.underlying t=some (.map fu kk))
 (c6:X.keys fu=some c2) (af:cE ι fr a aI) (hw:bx X ι st w) (h:qR fr st (.hv c2 m k x)= .ok v aF st'):aF=fr∧lI X ι w v st' (execOp a.eval o):=by
 obtain⟨iU,h⟩:=jj h (by simp);obtain⟨r,aD,h⟩:=Gg h (by simp);obtain⟨id,rfl,h⟩:=gA h (by simp);obtain⟨es,c,aM,h⟩:=zo h (by simp);obtain⟨p9,h⟩:=jj h (by simp);have Ib:=af.ak hw ab;have wY:a.eval k=fr.ak k:=fQ.same iU Ib;have k9:=af.ak hw hm;have di:=af.ak hw aa;rw[aD]at k9;generalize pn:a.eval m=iu at k9;obtain⟨l,hl,h0,k6,C,bL,hC,cZ⟩:=hw.eC _ _ aM (by simp);cases k9 with
 |map _ b bY hb=>
  rw[hl]at hb;cases hb;have hC:w.heap[b]? =some (.map C bL):=hC;have cZ:jM ι bY es c C.toList bL:=cZ;have hex:∀w',(Instr.mapUpdate t (.map (some b)) (fr.ak k) (a.eval x)).run X.P w= .ok () w'->(execOp a.eval o).run X.P w= .ok .skip w':=by
   intro w' fU;unfold execOp;rcases al with al|al<;>(rw[al];simp only[pn,wY];simp[fU,Result.andThen])
  rcases cZ.find (X:=X) c6 iU p9 w with⟨I,U,_⟩|⟨e,j,wh,I,U,ag,au,a0,b5,cY,h4⟩
  ·rw[U]at h;have h:st.hU id (.map (es++[⟨fr.ak k,fr.ak x,c⟩]) (Nat.succ c)) (fun st=>a1.ok undef fr st)= .ok v aF st':=h;rw[kR]at h;cases h;have fU:(Instr.mapUpdate t (.map (some b)) (fr.ak k) (a.eval x)).run X.P w= .ok () {w with heap:=w.heap.setIfInBounds b (.map (C.push {key:=fr.ak k,val:=a.eval x,born:=bL}) (bL+1))}:=by
    simp only[Instr.mapUpdate,Sem.run_bind,run_underlying hu,Result.andThen,MapKept.run_getObj_map hC,yi c6 iU,I,MapKept.run_setObj_map _ hC]
   obtain⟨bl,bK⟩:=bx.vF X hw aM (by simp) (fun af=>af) hl (.map (es++[⟨fr.ak k,fr.ak x,c⟩]) (Nat.succ c)) (.map (C.push {key:=fr.ak k,val:=a.eval x,born:=bL}) (bL+1)) {w with heap:=w.heap.setIfInBounds b (.map (C.push {key:=fr.ak k,val:=a.eval x,born:=bL}) (bL+1))} rfl
    (fun _ aV=>⟨rfl,rfl,_,_,aV,by
     have:=cZ.push (fQ.pure iU Ib) U di;simpa using this⟩)
   exact⟨rfl,ι,.skip,_,hex _ fU,.inr ⟨rfl,rfl⟩,bl,bK⟩
  ·rw[au]at h;have h:st.hU id (.map (BM (fr.ak k) (fr.ak x) es) c) (fun st=>a1.ok undef fr st)= .ok v aF st':=h;rw[kR]at h;cases h;have hj:C[j]? =some wh:=by rw[<-Array.getElem?_toList];exact U
   have fU:(Instr.mapUpdate t (.map (some b)) (fr.ak k) (a.eval x)).run X.P w= .ok () {w with heap:=w.heap.setIfInBounds b (.map (C.modify j fun e=>{e with key:=fr.ak k,val:=a.eval x}) bL)}:=by
    simp only[Instr.mapUpdate,Sem.run_bind,run_underlying hu,Result.andThen,MapKept.run_getObj_map hC,yi c6 iU,I,MapKept.run_setObj_map _ hC,hj,Option.map_some,zdK,ag,auY c6 iU]
   obtain⟨bl,bK⟩:=bx.vF X hw aM (by simp) (fun af=>af) hl (.map (BM (fr.ak k) (fr.ak x) es) c) (.map (C.modify j fun e=>{e with key:=fr.ak k,val:=a.eval x}) bL) {w with heap:=w.heap.setIfInBounds b (.map (C.modify j fun e=>{e with key:=fr.ak k,val:=a.eval x}) bL)} rfl
    (fun _ aV=>⟨rfl,rfl,_,_,aV,by
     rw[toList_modify C j _ U];exact cZ.put p9 U ag di⟩)
   exact⟨rfl,ι,.skip,_,hex _ fU,.inr ⟨rfl,rfl⟩,bl,bK⟩
def atQ(hm:cN X.aH m=true)(ab:cN X.aH k=true)(al:o.op= .call {callee:=.builtin .delete,args:= #[m,k],argTypes:= #[t,u]})(hu:X.P.underlying t=some (.map fu kk))
 (c6:X.keys fu=some c2) (af:cE ι fr a aI) (hw:bx X ι st w) (h:qR fr st (.del c2 m k)= .ok v aF st'):aF=fr∧lI X ι w v st' (execOp a.eval o):=by
 obtain⟨iU,h⟩:=jj h (by simp);obtain⟨r,aD,h⟩:=Gg h (by simp);obtain⟨id,rfl,h⟩:=gA h (by simp);obtain⟨es,c,aM,h⟩:=zo h (by simp);obtain⟨p9,h⟩:=jj h (by simp);rw[kR]at h;cases h;have Ib:=af.ak hw ab;have wY:a.eval k=fr.ak k:=fQ.same iU Ib;have k9:=af.ak hw hm;rw[aD]at k9;generalize pn:a.eval m=iu at k9;obtain⟨l,hl,h0,k6,C,bL,hC,cZ⟩:=hw.eC _ _ aM (by simp);cases k9 with
 |map _ b bY hb=>
  rw[hl]at hb;cases hb;have hC:w.heap[b]? =some (.map C bL):=hC;have cZ:jM ι bY es c C.toList bL:=cZ;rcases cZ.find (X:=X) c6 iU p9 w with⟨I,U,_⟩|⟨e,j,wh,I,U,ag,au,a0,b5,cY,h4⟩
  ·have pj:BL (fr.ak k) es=es:=by
    unfold BL;rw[List.filter_eq_self];intro e he;have:=I3 U e he;cases aE:dM (fr.ak k) e.key
    ·rfl
    ·exact absurd (nO _ _ aE).symm this
   obtain⟨bl,bK⟩:=bx.vF X hw aM (by simp) (fun af=>af) hl (.map (BL (fr.ak k) es) c) (.map C bL) {w with heap:=w.heap.setIfInBounds b (.map C bL)} rfl (fun _ aV=>⟨rfl,rfl,_,_,aV,by rw[pj];exact cZ⟩);refine⟨rfl,ι,.value (.tuple #[]),_,?_,.inl ⟨_,rfl,bw.pB (bP.nil ι)⟩,bl,bK⟩;unfold execOp;rw[al];simp[resolve,invoke,builtin,pn,wY,Builtin.delete_,run_underlying hu,Result.andThen,MapKept.run_getObj_map hC,yi c6 iU,I,MapKept.run_setObj_map _ hC]
  ·obtain⟨bl,bK⟩:=bx.vF X hw aM (by simp) (fun af=>af) hl (.map (BL (fr.ak k) es) c) (.map (C.eraseIdxIfInBounds j) bL) {w with heap:=w.heap.setIfInBounds b (.map (C.eraseIdxIfInBounds j) bL)} rfl (fun _ aV=>⟨rfl,rfl,_,_,aV,by
    have:=cZ.del p9 U ag;rw[Array.toList_eraseIdxIfInBounds];exact this⟩)
   refine⟨rfl,ι,.value (.tuple #[]),_,?_,.inl ⟨_,rfl,bw.pB (bP.nil ι)⟩,bl,bK⟩;unfold execOp;rw[al];simp[resolve,invoke,builtin,pn,wY,Builtin.delete_,run_underlying hu,Result.andThen,MapKept.run_getObj_map hC,yi c6 iU,I,MapKept.run_setObj_map _ hC]
def aug(hm:cN X.aH m=true)(al:o.op= .range t m)(hu:X.P.underlying t=some (.map fu kk))(af:cE ι fr a aI)(hw:bx X ι st w)
 (h:qR fr st (.BP m)= .ok v aF st'):aF=fr∧lI X ι w v st' (execOp a.eval o):=by
 obtain⟨r,aD,h⟩:=Gg h (by simp);have k9:=af.ak hw hm;rw[aD]at k9;generalize pn:a.eval m=iu at k9;cases r with
 |none=>
  cases k9;have h:st.jU (.rh none 0 [] 0) (fun id st=>a1.ok (.pointer (some ⟨id,0,none⟩)) fr st)= .ok v aF st':=h;rw[gR]at h;cases h;obtain⟨aU,bl,bK,ee,mX⟩:=bx.alloc X hw (.rh none 0 [] 0) (.mapIter none 0 #[] 0) 0 (fun aU w' _ _ aV=>⟨rfl,rfl,_,_,_,_,aV,.inl ⟨rfl,rfl⟩⟩) {w with heap:=w.heap.push (.mapIter none 0 #[] 0)} rfl;refine⟨rfl,aU,.value (.pointer (some ⟨w.heap.size,0,none⟩)),_,?_,.inl ⟨_,rfl,?_⟩,bl,bK⟩
  ·unfold execOp;rw[al];simp[pn,Instr.range,run_underlying hu,Result.andThen]
  ·exact bw.ptr ⟨st.ai,0,none⟩ _ ee rfl
 |some id=>
  have h:qg (st.h.get id) (fun _ clock=>st.jU (.rh (some id) clock [] clock) fun id st=>a1.ok (.pointer (some ⟨id,0,none⟩)) fr st) .no= .ok v aF st':=h;obtain⟨es,c,aM,h⟩:=zo h (by simp);rw[gR]at h;cases h;obtain⟨l,hl,h0,k6,C,bL,hC,cZ⟩:=hw.eC _ _ aM (by simp);cases k9 with
  |map _ b bY hb=>
   rw[hl]at hb;cases hb;have hC:w.heap[b]? =some (.map C bL):=hC;have cZ:jM ι bY es c C.toList bL:=cZ;obtain⟨aU,bl,bK,ee,mX⟩:=bx.alloc X hw (.rh (some id) c [] c) (.mapIter (some b) bL #[] bL) 0
    (fun aU w' hle _ aV=>⟨rfl,rfl,_,_,_,_,aV,.inr ⟨id,b,bY,rfl,rfl,hle _ _ hl,cZ.kh,rfl,cZ.kh⟩⟩) {w with heap:=w.heap.push (.mapIter (some b) bL #[] bL)} rfl
   refine⟨rfl,aU,.value (.pointer (some ⟨w.heap.size,0,none⟩)),_,?_,.inl ⟨_,rfl,?_⟩,bl,bK⟩
   ·unfold execOp;rw[al];simp[pn,Instr.range,run_underlying hu,Result.andThen,MapKept.run_getObj_map hC]
   ·exact bw.ptr ⟨st.ai,0,none⟩ _ ee rfl
def jM.auW{bY:Nat->Nat}{es:ac d9}{clock:Nat}{C:ac d9}{lu:Nat}(h:jM ι bY es clock C lu){s:Nat}(ah:s<clock){e:d9}(he:es.find? (fun e=>Nat.beq e.born s)=some e):
 ∃c,C.find? (fun c=>c.born==bY s)=some c∧bw ι e.key c.key∧bw ι e.val c.val:=by
 obtain⟨l,hp,hlen,hl⟩:=h.same;have hq:=zcM he;have hb:e.born=s:=dI hq;have hm:=zco he;obtain⟨i,ae,fN⟩:=zbt (hp.mem_iff.2 hm);have dE:i<C.length:=by omega
 cases af:C.find? (fun c=>c.born==bY s)with
 |none=>
  exfalso;have:=List.find?_eq_none.1 af C[i] (dp dE);have ag:=(hl i ae dE).2.2;rw[fN,hb]at ag;rw[ag]at this;simp at this
 |some c=>
  have Xl:c.born=bY s:=by simpa using zcM af
  obtain⟨k,ab,XC⟩:=zbt (zco af);have fF:k<l.length:=by omega
  have ag:=hl k fF ab;have au:l[k].born<clock:=h.born _ (hp.mem_iff.1 (dp fF));have a0:bY l[k].born=bY s:=by rw[<-ag.2.2,XC,Xl]
  have b5:=h.qo.inj _ _ au ah a0;have q6:l.Pairwise (fun a b=>a.born≠b.born):=(hp.symm.pairwise_iff (R:=fun a b:d9=>a.born≠b.born) (fun{a b} h=>h.symm)).1 h.wg;have uP:i=k:=by
   rcases zcq i k with g|g|g
   ·exact absurd (by rw[fN,hb,b5]) (zbk.1 q6 i k ae fF g)
   ·exact g
   ·exact absurd (by rw[fN,hb,b5]) (zbk.1 q6 k i fF ae g)
  subst uP;rw[fN,XC]at ag;exact⟨c,rfl,ag.1,ag.2.1⟩
def Qj{m:am Nat}{a:Nat}(hb:w.heap[r]? =some (.mapIter m a s b)):(getObj r).run P w= .ok (.mapIter m a s b) w:=by
 simp[getObj,Sem.run,hb]
def as7{m:am Nat}{a:Nat}(o:Obj)(hb:w.heap[r]? =some (.mapIter m a s b)):(setObj r o).run P w= .ok () {w with heap:=w.heap.setIfInBounds r o}:=by
 simp[setObj,Sem.run,hb]
def aub{i:bv}(ae:cN X.aH i=true)(al:o.op= .entry i)(af:cE ι fr a aI)(hw:bx X ι st w)
 (h:qR fr st (.BN i)= .ok v aF st'):aF=fr∧cy X ι w v st st' (execOp a.eval o):=by
 obtain⟨p,hp,g1⟩:=qs h (by simp);obtain⟨ad,NF,aP⟩:=gA g1 (by simp);obtain⟨ah,bd⟩:=BY aP (fun _=>by simp);obtain⟨h0,cu⟩:=lv bd (by simp);obtain⟨m,since,seen,oo,aM,dh⟩:=Yx cu (by simp);obtain⟨id,anw,ey⟩:=gA dh (by simp);obtain⟨s,j8,gp⟩:=gA ey (by simp);obtain⟨es,clock,mK,n1⟩:=zo gp (by simp);obtain⟨I,qV⟩:=lv n1 (by simp);obtain⟨U,qU⟩:=kb qV (by simp);obtain⟨e,he,wK⟩:=gA qU (by simp);clear h g1 aP bd cu dh ey gp n1 qV qU;subst NF anw;cases wK;have oL:=af.ak hw ae;rw[hp]at oL;generalize k8:a.eval i=mZ at oL;obtain⟨l,hl,lb,fO,eG,F3,m6,BF,cj,HY⟩:=hw.eC _ _ aM (by simp);rcases HY with⟨hh,_⟩|⟨r,b,bY,az,e2,b8,fa,l9,Ho⟩
 ·cases hh
 ·cases az;subst e2;obtain⟨lm,Ie,Oy,eK,C,bL,hC,cZ⟩:=hw.eC _ _ mK (by simp);rw[Ie]at b8;cases b8;have hC:w.heap[b]? =some (.map C bL):=hC;have cZ:jM ι bY es clock C.toList bL:=cZ;cases oL with
  |ptr _ l' cC dP=>
   rw[hl]at cC;cases cC;obtain⟨c,qZ,mc,M1⟩:=cZ.auW U he;have uG:m6.back?=some (bY s):=by
    have:m6.back?=m6.toList.getLast?:=by simp
    rw[this,l9,List.getLast?_map];rw[show seen.getLast?=some s from j8];rfl
   have n5:bL=BF:=by rw[cZ.kh,Ho,I]
   have wS:C.find? (fun x=>x.born==bY s)=some c:=by rw[<-Array.find?_toList];exact qZ
   refine⟨rfl,cy.same (v':=.tuple #[c.key,c.val]) hw ?_ (bw.pB (bP.cons mc (bP.cons M1 (bP.nil ι))))⟩;unfold execOp;rw[al];have iW:l.cW+ad.off=0:=by rw[lb,h0]
   simp only[k8,iW,Instr.entry,Sem.run_bind,Qj cj,Result.andThen,uG,Sem.run_pure,MapKept.run_getObj_map hC];simp[n5,wS]
def atL{f:co}{ts:be ci}(aa:cN X.aH x=true)(aJ:cN X.aH y=true)(dN:X.pU f=true)(al:o.op= .call {callee:=.value (.func f),args:= #[x,y],argTypes:=ts})(af:cE ι fr a aI)(hw:bx X ι st w)
 (h:qR fr st (.bj x y)= .ok v aF st'):aF=fr∧cy X ι w v st st' (execOp a.eval o):=by
 obtain⟨s,ah,g1⟩:=qu h (by simp);obtain⟨k,wh,hc,aP⟩:=ke g1 (by simp);obtain⟨ab,bd⟩:=jj aP (by simp);obtain⟨c,az,cu⟩:=nx bd (by simp);have fF:=vb ab;clear h g1 aP bd;subst az fF;have di:=af.ak hw aa;rw[ah]at di;generalize cI:a.eval x=fB at di;have fH:=af.ak hw aJ;rw[hc]at fH;generalize gy:a.eval y=rF at fH;cases di;cases fH;cases cu;refine⟨rfl,cy.same (v':=.int .i64 (.ofNat (s.data.toList.countP (fun b=>b==UInt8.ofNat c)))) hw ?_ (.int _ _)⟩;rw[Hu al];have:=X.DA f dN s (c:Int) w;simp only[zcm,zaQ,zbX,cI,gy];rw[this];rfl
def atS{neg:Bool}{n:Nat}(aa:cN X.aH x=true)(aJ:cN X.aH y=true)(iS:X.eqs t=some n)(al:o.op= .binOp (if neg then .neq else .eql) t x y u)(af:cE ι fr a aI)(hw:bx X ι st w)
 (h:qR fr st (.rR neg n x y)= .ok v aF st'):aF=fr∧cy X ι w v st st' (execOp a.eval o):=by
 obtain⟨xs,nt,h⟩:=zY h (by simp);obtain⟨aw,w7,h⟩:=zY h (by simp);obtain⟨I,h⟩:=lv h (by simp);obtain⟨U,h⟩:=lv h (by simp);obtain⟨b,hb,h⟩:=gA h (by simp);cases h;rw[fe]at I U;have I:xs.toList.length=n%100+n/100:=I;have U:aw.toList.length=n%100+n/100:=U;have hb:lN (n%100) xs.toList aw.toList=some b:=hb;have plain:∀(l m:ac bi) (j:Nat) (b:Bool),lN j l m=some b->∀(i:Nat) (ae:i<l.length) (hj:i<m.length) (u v:bi),(bw ι l[i] u->u=l[i])∧(bw ι m[i] v->v=m[i]):=by
  intro l
  induction l with
  |nil=>intro m j b _ i ae;simp at ae
  |cons p ps ba=>
   intro m j b hb i ae hj u v;cases m with
   |nil=>simp at hj
   |cons q dA=>
    unfold lN at hb;obtain⟨c1,jn,oH⟩:=gA (z:=none) (r:=some b) hb (by simp);cases i with
    |zero=>
     simp only[List.getElem_cons_zero];unfold Hp DN Hr at jn;split at jn<;>split at jn<;>first|(cases jn;done)|exact⟨fun aD=>by cases aD;rfl,fun aD=>by cases aD;rfl⟩
    |succ i=>
     simp only[List.getElem_cons_succ];have:∃eR,lN (j-1) ps dA=some eR:=by
      cases c1
      ·obtain⟨eR,cP,_⟩:=gA (z:=none) (r:=some b) oH (by simp);exact⟨eR,cP⟩
      ·exact⟨b,oH⟩
     obtain⟨eR,cP⟩:=this;exact ba dA _ eR cP i (by simpa using ae) (by simpa using hj) u v
 have iX:=plain _ _ _ _ hb;have di:=af.ak hw aa;rw[nt]at di;generalize cI:a.eval x=fB at di;have fH:=af.ak hw aJ;rw[w7]at fH;generalize gy:a.eval y=rF at fH;cases di with
 |agg _ vK eW eQ=>
  cases fH with
  |agg _ jY c1 dx=>
   have aov:vK=xs:=by
    apply Array.ext
    ·exact eW.symm
    ·intro i c d;have:=(iX i (by simpa using d) (by simp;simp at I U;omega) vK[i] vK[i]).1 (by simpa using eQ i d c);simpa using this
   have aoy:jY=aw:=by
    apply Array.ext
    ·exact c1.symm
    ·intro i c d;have:=(iX i (by simp;simp at I U;omega) (by simpa using d) jY[i] jY[i]).2 (by simpa using dx i d c);simpa using this
   subst aov aoy;obtain⟨Xv,heq⟩:=X.yw t n iS;have hq:=heq vK jY b w (by simpa using I) (by simpa using U) hb;refine⟨rfl,cy.same (v':=.bool (cond neg (!b) b)) hw ?_ (.bool _)⟩;unfold execOp;rw[al];cases neg
   ·simp only[cI,gy,zaW,if_false];have aM:(eqGuard .eql t x y (.agg vK) (.agg jY)).run X.P w= .ok () w:=by
     simp[eqGuard,program,Sem.run,Xv]
    simp[aM,run_eql_struct,hq,Result.andThen]
   ·simp only[cI,gy,if_true];have aM:(eqGuard .neq t x y (.agg vK) (.agg jY)).run X.P w= .ok () w:=by
     simp[eqGuard,program,Sem.run,Xv]
    simp[aM,run_neq_struct,hq,Result.andThen]
end
variable{ι:bu}{y:bi}
def bw.Fq{c:Nat}(h:bw ι (.chan (some c)) y)(hc:c≠0):∃m,y= .int .i64 m∧QM c m:=by
 generalize aE:Value.chan (some c)=v at h;cases h with
 |je bL m h=>cases aE;exact⟨m,rfl,h⟩
 |top _=>unfold js at aE;cases aE;exact absurd rfl hc
 |_=>cases aE
def SM{n:Nat}{v:bi}{b:Bool}(h:Dz n v=some b)(aD:bw ι v y):∃m:Int,y= .int .i64 m∧b=decide ((n:Int)<=m):=by
 unfold Dz at h;split at h
 ·rename_i c;split at h
  ·rename_i U;split at h
   ·rename_i ag;cases h;obtain⟨m,rfl,hu⟩:=aD.Fq (by omega);refine⟨m,rfl,?_⟩;have:(n:Int)<=m:=by
     rcases hu with hu|⟨k,ab,hm⟩|⟨k,ab,hm⟩<;>omega
    simp[this]
   ·cases h
  ·rename_i U;split at h
   ·rename_i ag;cases h;obtain⟨m,rfl,hu⟩:=aD.Fq (by omega);refine⟨m,rfl,?_⟩;have:¬(n:Int)<=m:=by
     rcases hu with hu|⟨k,ab,hm⟩|⟨k,ab,hm⟩<;>omega
    simp[this]
   ·cases h
 ·cases h
section
variable{ι:bu}{fr aF:aO}{a:Act}{aI:Nat}{st st':ar}{w:d7}{o:Oper}{v:bi}{call:bF}
variable{x:bv}
def atK{gt:Bool}{y:bv}{t u:ci}(aa:cN X.aH x=true)(aJ:cN X.aH y=true)(al:o.op= .binOp (if gt then .gtr else .leq) t x y u)(af:cE ι fr a aI)(hw:bx X ι st w)
 (h:qR fr st (.yl gt x y)= .ok v aF st'):aF=fr∧cy X ι w v st st' (execOp a.eval o):=by
 obtain⟨k,tu,nt,I⟩:=ke h (by simp);obtain⟨ab,U⟩:=jj I (by simp);obtain⟨n,hn,ag⟩:=nx U (by simp);obtain⟨b,hb,au⟩:=gA ag (by simp);have fF:=vb ab;subst fF hn;cases au;have di:=af.ak hw aa;rw[nt]at di;generalize cI:a.eval x=fB at di;cases di;obtain⟨m,gy,wQ⟩:=SM hb (af.ak hw aJ);refine⟨rfl,cy.same (v':=.bool (cond gt (!b) b)) hw ?_ (.bool _)⟩;unfold execOp;rw[al,wQ];cases gt
 ·simp[cI,gy,eqGuard,binOp,Op.intCmp]
 ·simp only[cI,gy,if_true];have:(!decide ((n:Int)<=m))=decide (m<(n:Int)):=by rw[zaU];simp
  simp[eqGuard,binOp,Op.intCmp,this]
def at1{f:co}{y:bv}{ts:be ci}(aa:cN X.aH x=true)(aJ:cN X.aH y=true)(dN:X.qf f=true)(al:o.op= .call {callee:=.value (.func f),args:= #[x,y],argTypes:=ts})(af:cE ι fr a aI)(hw:bx X ι st w)
 (h:qR fr st (.idxs X.mj x y)= .ok v aF st'):aF=fr∧cy X ι w v st st' (execOp a.eval o):=by
 obtain⟨s,ah,g1⟩:=qu h (by simp);obtain⟨b,hb,aP⟩:=qu g1 (by simp);unfold yh at aP;obtain⟨eH,qa,bd⟩:=gA aP (by simp);cases eH with
 |cells cs el bk bc=>
  have cu:cond bc a1.no (one cs (fun c=>cond (N2 (dd b.data.toList) c) (eh 2 (dd b.data.toList) (eh (dd s.data.toList) 1000000
   (.ok (.int .i64 (bp (pH b.data.toList s.data.toList) (fun i=>.ofNat i) (.negSucc 0))) fr st) .no) .no) .no) .no)= .ok v aF st':=bd
  obtain⟨iG,dh⟩:=BU cu (by simp);obtain⟨c,hc,ey⟩:=B5 dh (by simp);obtain⟨ae,gp⟩:=jj ey (by simp);obtain⟨U,n1⟩:=kb gp (by simp);obtain⟨ag,qV⟩:=kb n1 (by simp);rw[fe]at ae U ag;cases qV;have di:=af.ak hw aa;rw[ah]at di;generalize cI:a.eval x=fB at di;have fH:=af.ak hw aJ;rw[hb]at fH;generalize gy:a.eval y=rF at fH;cases di;cases fH;obtain⟨l,hl,C,eA,hC⟩:=hw.eC _ _ qa (by simp);rw[hw.mG _ X.E8]at hl;cases hl;subst hc;obtain⟨bL,qZ,mc⟩:=hC.cell 0 (by simp);have oI:Dz b.data.toList.length c=some true:=by
   unfold N2 at ae;split at ae
   ·assumption
   ·cases ae
  obtain⟨m,rfl,wQ⟩:=SM oI mc;have hle:((b.data.toList.length:Nat):Int)<=m:=by simpa using wQ.symm
  have ans:(load ⟨X.mj,0,none⟩).run X.P w= .ok (.int .i64 m) w:=by
   have M1:C[0]? =some (.int .i64 m):=by simpa using qZ
   rw[run_load,cell_of hC.there];simp[M1]
  refine⟨rfl,cy.same (v':=.int .i64 (bp (pH b.data.toList s.data.toList) (fun i=>.ofNat i) (.negSucc 0))) hw ?_ (.int _ _)⟩;rw[Hu al];have:=X.ES f dN s b m w ans (by simpa using U) (by simpa using hle) (by simpa using ag);simp only[zcm,zaQ,zbX,cI,gy];rw[this];cases pH b.data.toList s.data.toList<;>rfl
 |_=>cases bd
end
variable{P:f5}{t:ci}{a:Nat}
def da.inPlace:da->Bool
 |.call _ _|.inv _ _ _|.vy|.pX _ _|.oX _=>false
 |_=>true
def Ctx.ld(X:Ctx)(op:Op)(x:da):Bool:=awj X.P X.aH X.kM X.la X.keys X.pU X.eqs X.qf X.mj op x
def nM{n:Nat}(h:gW P t=some n):∃i,P.info? t=some i∧i.size=n:=by
 unfold gW at h;exact zaR.1 h
def Gm{v:bi}(h:sJ P t=some v):∃i,P.info? t=some i∧i.zero=some v:=by
 unfold sJ at h;exact zbK.1 h
def Dc{g:Bool}(h:qA P t=some g):∃d,P.underlying t=some d∧rL d=g:=by
 unfold qA at h;exact zaR.1 h
def eZ{b:Nat}(h:Nat.beq a b=true):a=b:=dI h
def I9(h:(!Nat.beq a 0)=true):a≠0:=by intro e;subst e;simp at h
def v5.tm:v5->Bool
 |.look _ _ _ _ _|.BO _|.BN _|.bj _ _|.rR _ _ _ _|.yl _ _ _|.idxs _ _ _=>true
 |_=>false
def da.tm:da->Bool
 |.ext y=>y.tm
 |.alloc _ _|.box _ _|.pO _ _ _ _|.store _ _ _|.wq _ _|.vg|.si _ _ _ _ _|.call _ _|.inv _ _ _|.xe _|.app _ _ _ _ _|.rN _ _ _|.vy|.pX _ _|.oX _|.xU _ _ _|.refuse=>false
 |_=>true
def da.u5:da->Bool
 |.alloc _ _|.box _ _|.pO _ _ _ _|.wq _ _|.si _ _ _ _ _|.vg=>true
 |_=>false
def x9(X:Ctx)(x:da)(ι:bu)(w:d7)(v:bi)(st st':ar)(s:Sem Next):Prop:=
 lI X ι w v st' s∧(x.tm=true->cy X ι w v st st' s)∧(x.u5=true->ue X ι w v st st' s)
section
variable{p:Prop}{x:da}{ι:bu}{w:d7}{v:bi}{st st':ar}{s:Sem Next}
def fw(h:p∧cy X ι w v st st' s)(aa:x.u5=false):p∧x9 X x ι w v st st' s:=⟨h.1,h.2.Qs,fun _=>h.2,fun e=>by rw[aa]at e;cases e⟩
def An(h:p∧ue X ι w v st st' s)(aa:x.tm=false):p∧x9 X x ι w v st st' s:=⟨h.1,h.2.Qs,fun e=>(by rw[aa]at e;cases e),fun _=>h.2⟩
def xZ(h:p∧lI X ι w v st' s)(aa:x.tm=false)(b4:x.u5=false):p∧x9 X x ι w v st st' s:=⟨h.1,h.2,fun e=>(by rw[aa]at e;cases e),fun e=>by rw[b4]at e;cases e⟩
end
def ML:da->Bool
 |.iu _|.pick _ _ _|.alloc _ _|.box _ _|.build _ _|.pO _ _ _ _|.jr _|.rf _ _|.store _ _ _|.tw _|.bin _ _ _|.eqv _ _ _ _|.un _ _|.vg|.refuse|.xe _=>true
 |_=>false
section
variable{ι:bu}{fr aF:aO}{a:Act}{aI:Nat}{st st':ar}{w:d7}{o:Oper}{v:bi}{call:bF}
def aqP{x:da}(ab:X.ld o.op x=true)(af:cE ι fr a aI)(hw:bx X ι st w)(h:bG call x fr st= .ok v aF st')
 (aa:ML x=true):
 aF=fr∧x9 X x ι w v st st' (execOp a.eval o):=by
 generalize al:o.op=op at ab;cases x with
 |iu p=>
  cases op with
  |move q=>obtain⟨rfl,U⟩:=dc ab;exact fw (acw (call:=call) U (.inl al) af hw h) rfl
  |assign q=>obtain⟨rfl,U⟩:=dc ab;exact fw (acw (call:=call) U (.inr al) af hw h) rfl
  |_=>cases ab
 |pick c p q=>
  cases op with
  |pick bL gK gl=>
   have ab:(ca X.aH c bL&&ca X.aH p gK&&ca X.aH q gl)=true:=ab;simp only[b1]at ab;obtain⟨⟨I,U⟩,ag⟩:=ab;obtain⟨rfl,bl⟩:=dc I;obtain⟨rfl,bK⟩:=dc U;obtain⟨rfl,ee⟩:=dc ag;exact fw (aul (call:=call) bl bK ee al af hw h) rfl
  |_=>cases ab
 |alloc z e=>
  cases op with
  |alloc t=>
   have ab:(Nat.beq e t&&(match sJ X.P t with|some v=>mv z v.cells.toList&&nP z|none=>false))=true:=ab;rw[b1]at ab;obtain⟨I,U⟩:=ab;have az:=eZ I;subst az;split at U
   ·rename_i tX r9;rw[b1]at U;have e2:=z0 _ _ U.1;subst e2;obtain⟨i,ae,ax⟩:=Gm r9;exact An (atA (call:=call) al ae ax U.2 hw h) rfl
   ·cases U
  |_=>cases ab
 |box e p=>
  cases op with
  |box t q=>
   have ab:(Nat.beq e t&&ca X.aH p q)=true:=ab;rw[b1]at ab;have az:=eZ ab.1;subst az;obtain⟨rfl,U⟩:=dc ab.2;exact An (atD (call:=call) U al af hw h) rfl
  |_=>cases ab
 |build z ps=>
  cases op with
  |build t parts=>
   have ab:((match sJ X.P t with|some v=>mv z v.cells.toList&&nP z|none=>false)&&
    (match X.P.underlying t with
     |some (.struct fields)=>fields.toList.all (fun f=>(X.P.info? f.type).isSome)&&sn X.aH (fun j=>(fields.map fun f=>(f.offset,X.P.cellsOf f.type))[j]?) ps parts.toList
     |some (.array _ e)=>(match gW X.P e with|some s=>sn X.aH (fun j=>some (j*s,s)) ps parts.toList|none=>false)
     |_=>false))=true:=ab
   rw[b1]at ab;obtain⟨I,U⟩:=ab;split at I
   ·rename_i tX r9;rw[b1]at I;have e2:=z0 _ _ I.1;subst e2;obtain⟨i,ae,ax⟩:=Gm r9;split at U
    ·rename_i fields hu;rw[b1,zaN]at U;obtain⟨bl,bK⟩:=Ju U.2;exact fw (atG (call:=call) al hu ae ax I.2 U.1 bl bK af hw h) rfl
    ·rename_i n e hu;split at U
     ·rename_i s ah;obtain⟨cw,fN,rfl⟩:=nM ah;obtain⟨bl,bK⟩:=Ju U;exact fw (atF (call:=call) al hu ae ax I.2 fN (by rw[bl];simp) (fun p hp=>(bK p hp).2) af hw h) rfl
     ·cases U
    ·cases U
   ·cases I
  |_=>cases ab
 |pO e n z ps=>
  cases op with
  |buildSlice t m parts=>
   have ab:(Nat.beq n m&&(match X.P.underlying t with
    |some (.slice el)=>Nat.beq e el&&(match gW X.P el,sJ X.P el with
     |some s,some v=>Nat.ble (m*s) (2^24)&&mv z ((List.range (m*s)).map (fun j=>(if m*s=0 then(#[]:be bi)else v.cells)[j%(if m*s=0 then(#[]:be bi)else v.cells).size]!))&&nP z&&
      sn X.aH (fun j=>some (j*s,s)) ps parts.toList
     |_,_=>false)
    |_=>false))=true:=ab
   rw[b1]at ab;obtain⟨I,U⟩:=ab;have az:=eZ I;subst az;split at U
   ·rename_i el hu;rw[b1]at U;obtain⟨ag,au⟩:=U;have e2:=eZ ag;subst e2;split at au
    ·rename_i s tX ah r9;simp only[b1]at au;obtain⟨⟨⟨a0,b5⟩,cY⟩,h4⟩:=au;obtain⟨cw,fN,rfl⟩:=nM ah;obtain⟨axi,Xz,ax⟩:=Gm r9;rw[fN]at Xz;cases Xz;obtain⟨bl,bK⟩:=Ju h4;exact An (atE (call:=call) al hu fN ax (mA.1 a0) (z0 _ _ b5) cY (by rw[bl];simp) (fun p hp=>(bK p hp).2) af hw h) rfl
    ·cases au
   ·cases U
  |_=>cases ab
 |jr p=>
  cases op with
  |load t q=>
   have ab:(ca X.aH p q&&(match qA X.P t with|some g=> !g|none=>false))=true:=ab;rw[b1]at ab;obtain⟨I,U⟩:=ab;obtain⟨rfl,bl⟩:=dc I;split at U
   ·rename_i g aM;obtain⟨d,ay,e⟩:=Dc aM;exact fw (acs (call:=call) bl al ay (by rw[e];simpa using U) af hw h) rfl
   ·cases U
  |_=>cases ab
 |rf n p=>
  cases op with
  |load t q=>
   have ab:(ca X.aH p q&&(match qA X.P t,gW X.P t with|some g,some s=>g&&Nat.beq n s|_,_=>false))=true:=ab;rw[b1]at ab;obtain⟨I,U⟩:=ab;obtain⟨rfl,bl⟩:=dc I;split at U
   ·rename_i g s aM ah;rw[b1]at U;obtain⟨d,ay,e⟩:=Dc aM;obtain⟨i,ae,rfl⟩:=nM ah;have az:=eZ U.2;subst az;exact fw (acu (call:=call) bl al ay (by rw[e];exact U.1) ae af hw h) rfl
   ·cases U
  |_=>cases ab
 |store n p q=>
  cases op with
  |store t gK gl=>
   have ab:(ca X.aH p gK&&ca X.aH q gl&&(match gW X.P t with|some s=>Nat.beq n s|none=>false))=true:=ab;simp only[b1]at ab;obtain⟨⟨I,U⟩,ag⟩:=ab;obtain⟨rfl,bl⟩:=dc I;obtain⟨rfl,bK⟩:=dc U;split at ag
   ·rename_i s ah;obtain⟨i,ae,rfl⟩:=nM ah;have az:=eZ ag;subst az;exact xZ (auq (call:=call) bl bK al ae af hw h) rfl rfl
   ·cases ag
  |_=>cases ab
 |tw p=>
  cases op with
  |nilCheck q=>obtain⟨rfl,U⟩:=dc ab;exact fw (auj (call:=call) U al af hw h) rfl
  |_=>cases ab
 |bin afc p q=>
  cases op with
  |binOp LF t gK gl z8=>
   have ab:(decide (afc=LF)&&ca X.aH p gK&&ca X.aH q gl)=true:=ab;simp only[b1,decide_eq_true_eq]at ab;obtain⟨⟨I,U⟩,ag⟩:=ab;subst I;obtain⟨rfl,bl⟩:=dc U;obtain⟨rfl,bK⟩:=dc ag;exact fw (atC (call:=call) bl bK al af hw h) rfl
  |_=>cases ab
 |eqv neg e p q=>
  cases op with
  |binOp LF t gK gl z8=>
   have ab:(decide (LF=(if neg then .neq else .eql))&&ca X.aH p gK&&ca X.aH q gl&&Ht X.P t e gK gl)=true:=ab;simp only[b1,decide_eq_true_eq]at ab;obtain⟨⟨⟨I,U⟩,ag⟩,au⟩:=ab;subst I;obtain⟨rfl,bl⟩:=dc U;obtain⟨rfl,bK⟩:=dc ag;exact fw (atT (call:=call) bl bK al (aif _ au) af hw h) rfl
  |_=>cases ab
 |un avu p=>
  cases op with
  |unOp avv t q=>
   have ab:(decide (avu=avv)&&ca X.aH p q)=true:=ab;simp only[b1,decide_eq_true_eq]at ab;obtain⟨I,U⟩:=ab;subst I;obtain⟨rfl,bl⟩:=dc U;exact fw (aus (call:=call) bl al af hw h) rfl
  |_=>cases ab
 |vg=>
  cases op with
  |makeMap t r=>
   cases r with
   |none=>
    have h:zz call fr st= .ok v aF st':=h;unfold zz at h;rw[gR]at h;cases h;obtain⟨aU,bl,bK,ee,mX⟩:=bx.alloc X hw (.map [] 0) (.map #[] 0) 0 (fun aU w' _ _ aV=>⟨rfl,rfl,#[],0,aV,rfl,⟨fun s t h _ _=>absurd h (zcr _),fun s h=>absurd h (zcr _),fun j=>by simp⟩,by simp,.nil,.nil,[],.nil,rfl,fun i ae=>by simp at ae⟩) {w with heap:=w.heap.push (.map #[] 0)} rfl;rw[mX]at bl bK ee;refine An ⟨rfl,_,_,_,.map (some w.heap.size),_,rfl,by simp,?_,rfl,.map _ _ _ ee,bl,bK⟩ rfl;unfold execOp;rw[al];simp[Instr.makeMap,Result.andThen]
   |some r=>cases ab
  |_=>cases ab
 |refuse=>cases h
 |xe p=>cases h
 |_=>cases aa
end
def apt{a b:fQ}(h:Oh a b=true):a=b:=by
 cases a<;>cases b<;>simp[Oh]at h<;>first|rfl|(rw[h])|(rw[h.1,h.2])
def IM{keys:ci->am fQ}{c2:fQ}(h:EX P keys t c2=true):∃fu kk,P.underlying t=some (.map fu kk)∧keys fu=some c2:=by
 unfold EX at h;split at h
 ·rename_i fu kk hu;split at h
  ·rename_i YF ab;exact⟨fu,kk,hu,by rw[ab,apt h]⟩
  ·cases h
 ·cases h
def isMap(h:(match P.underlying t with|some (.map _ _)=>true|_=>false)=true):∃fu kk,P.underlying t=some (.map fu kk):=by
 split at h
 ·rename_i fu kk hu;exact⟨fu,kk,hu⟩
 ·cases h
section
variable{ι:bu}{fr aF:aO}{a:Act}{aI:Nat}{st st':ar}{w:d7}{o:Oper}{v:bi}{call:bF}
def atU{y:v5}(ab:X.ld o.op (.ext y)=true)(af:cE ι fr a aI)(hw:bx X ι st w)(h:bG call (.ext y) fr st= .ok v aF st'):
 aF=fr∧x9 X (.ext y) ι w v st st' (execOp a.eval o):=by
 generalize al:o.op=op at ab;have ab:Gl X.P X.aH X.keys X.pU X.eqs X.qf X.mj op y=true:=ab;have h:qR fr st y= .ok v aF st':=h;unfold Gl at ab;split at ab
 ·simp only[b1]at ab;obtain⟨⟨⟨⟨I,U⟩,ag⟩,au⟩,a0⟩:=ab;obtain⟨rfl,bl⟩:=dc I;obtain⟨rfl,bK⟩:=dc U;have b8:=zbL ag;subst b8;obtain⟨fu,kk,hu,c6⟩:=IM au;rw[hu]at a0;simp only at a0;split at a0
  ·rename_i tX r9;rw[b1]at a0;have l9:=nO _ _ a0.1;subst l9;obtain⟨i,ae,ax⟩:=Gm r9;exact fw (aua bl bK al hu c6 ae ax a0.2 af hw h) rfl
  ·cases a0
 ·simp only[b1]at ab;obtain⟨⟨⟨I,U⟩,ag⟩,au⟩:=ab;obtain⟨rfl,bl⟩:=dc I;obtain⟨rfl,bK⟩:=dc U;obtain⟨rfl,ee⟩:=dc ag;obtain⟨fu,kk,hu,c6⟩:=IM au;exact xZ (acx bl bK ee (.inl al) hu c6 af hw h) rfl rfl
 ·simp only[b1]at ab;obtain⟨⟨⟨I,U⟩,ag⟩,au⟩:=ab;obtain⟨rfl,bl⟩:=dc I;obtain⟨rfl,bK⟩:=dc U;obtain⟨rfl,ee⟩:=dc ag;obtain⟨fu,kk,hu,c6⟩:=IM au;exact xZ (acx bl bK ee (.inr al) hu c6 af hw h) rfl rfl
 ·simp only[b1]at ab;obtain⟨⟨I,U⟩,au⟩:=ab;obtain⟨rfl,bl⟩:=dc I;obtain⟨rfl,bK⟩:=dc U;obtain⟨fu,kk,hu,c6⟩:=IM au;exact xZ (atQ bl bK al hu c6 af hw h) rfl rfl
 ·rw[b1]at ab;obtain⟨rfl,bl⟩:=dc ab.1;obtain⟨fu,kk,hu⟩:=isMap ab.2;exact fw (aue bl al hu af hw h) rfl
 ·rw[b1]at ab;obtain⟨rfl,bl⟩:=dc ab.1;obtain⟨fu,kk,hu⟩:=isMap ab.2;exact xZ (aug bl al hu af hw h) rfl rfl
 ·obtain⟨rfl,bl⟩:=dc ab;exact fw (aub bl al af hw h) rfl
 ·cases h
 ·simp only[b1,decide_eq_true_eq]at ab;obtain⟨⟨⟨h0,I⟩,U⟩,_⟩:=ab;obtain⟨rfl,bl⟩:=dc I;obtain⟨rfl,bK⟩:=dc U;subst h0;exact fw (atK bl bK al af hw h) rfl
 ·simp only[b1]at ab;obtain⟨⟨⟨I,U⟩,ag⟩,au⟩:=ab;obtain⟨rfl,bl⟩:=dc I;obtain⟨rfl,bK⟩:=dc U;have e:=eZ au;subst e;exact fw (at1 bl bK ag al af hw h) rfl
 ·simp only[b1]at ab;obtain⟨⟨I,U⟩,ag⟩:=ab;obtain⟨rfl,bl⟩:=dc I;obtain⟨rfl,bK⟩:=dc U;exact fw (atL bl bK ag al af hw h) rfl
 ·simp only[b1,decide_eq_true_eq]at ab;obtain⟨⟨⟨h0,I⟩,U⟩,ag⟩:=ab;obtain⟨rfl,bl⟩:=dc I;obtain⟨rfl,bK⟩:=dc U;subst h0;split at ag
  ·rename_i ch hn;have e:=eZ ag;subst e;exact fw (atS bl bK hn al af hw h) rfl
  ·cases ag
 ·cases ab
end
variable{op:Op}{p:bv}{ps:ac bv}{e a4:Nat}{s f:bv}
def aoX(ab:X.ld op (.pw p)=true):∃q t,op= .call {callee:=.builtin .len,args:= #[q],argTypes:= #[t]}∧(ca X.aH p q&&(match X.P.underlying t with|some (.slice _)=>true|_=>false))=true:=by
 cases op with
 |call c=>
  obtain⟨callee,⟨args⟩,⟨ts⟩⟩:=c;cases callee with
  |builtin b=>
   cases b with
   |len=>
    match args,ts,ab with
    |[q],[t],ab=>exact⟨q,t,rfl,ab⟩
    |[],_,ab=>cases ab
    |_::_::_,_,ab=>cases ab
    |[_],[],ab=>cases ab
    |[_],_::_::_,ab=>cases ab
   |_=>cases ab
  |_=>cases ab
 |_=>cases ab
def aoY(ab:X.ld op (.vd p)=true):∃q t,op= .call {callee:=.builtin .len,args:= #[q],argTypes:= #[t]}∧(ca X.aH p q&&(match X.P.underlying t with|some .string=>true|_=>false))=true:=by
 cases op with
 |call c=>
  obtain⟨callee,⟨args⟩,⟨ts⟩⟩:=c;cases callee with
  |builtin b=>
   cases b with
   |len=>
    match args,ts,ab with
    |[q],[t],ab=>exact⟨q,t,rfl,ab⟩
    |[],_,ab=>cases ab
    |_::_::_,_,ab=>cases ab
    |[_],[],ab=>cases ab
    |[_],_::_::_,ab=>cases ab
   |_=>cases ab
  |_=>cases ab
 |_=>cases ab
def aoW{n:Nat}(ab:X.ld op (.zh n)=true):∃q t,op= .call {callee:=.builtin .len,args:= #[q],argTypes:= #[t]}∧(match X.P.underlying t with|some (.array m _)=>Nat.beq n m|some (.pointer u)=>(match X.P.underlying u with|some (.array m _)=>Nat.beq n m|_=>false)|_=>false)=true:=by
 cases op with
 |call c=>
  obtain⟨callee,⟨args⟩,⟨ts⟩⟩:=c;cases callee with
  |builtin b=>
   cases b with
   |len=>
    match args,ts,ab with
    |[q],[t],ab=>exact⟨q,t,rfl,ab⟩
    |[],_,ab=>cases ab
    |_::_::_,_,ab=>cases ab
    |[_],[],ab=>cases ab
    |[_],_::_::_,ab=>cases ab
   |_=>cases ab
  |_=>cases ab
 |_=>cases ab
def aoS{bh:Nat}(ab:X.ld op (.app e a4 bh s p)=true):∃bo q t u,op= .call {callee:=.builtin .append,args:= #[bo,q],argTypes:= #[t,u]}∧
 (ca X.aH s bo&&ca X.aH p q&&(match X.P.underlying t,X.P.underlying u with
  |some (.slice el),some d=>Nat.beq e el&&(match d with|.int _=>false|_=>true)&&(match X.P.info? el with
   |some i=>Nat.beq a4 i.size&&Nat.beq bh i.bytes&&(match i.zero with|some v=>Nat.beq v.cells.size i.size|none=>false)
   |none=>false)
  |_,_=>false))=true:=by
 cases op with
 |call c=>
  obtain⟨callee,⟨args⟩,⟨ts⟩⟩:=c;cases callee with
  |builtin b=>
   cases b with
   |append=>
    match args,ts,ab with
    |[bo,q],[t,u],ab=>exact⟨bo,q,t,u,rfl,ab⟩
    |[],_,ab=>cases ab
    |[_],_,ab=>cases ab
    |_::_::_::_,_,ab=>cases ab
    |[_,_],[],ab=>cases ab
    |[_,_],[_],ab=>cases ab
    |[_,_],_::_::_::_,ab=>cases ab
   |_=>cases ab
  |_=>cases ab
 |_=>cases ab
def ao0(ab:X.ld op (.e8 p ps)=true):∃q dA ts,op= .call {callee:=.builtin .max,args:=(q::dA).toArray,argTypes:=ts}∧(ca X.aH p q&&lF X.aH ps dA)=true:=by
 cases op with
 |call c=>
  obtain⟨callee,⟨args⟩,ts⟩:=c;cases callee with
  |builtin b=>
   cases b with
   |max=>
    match args,ab with
    |q::dA,ab=>exact⟨q,dA,ts,rfl,ab⟩
    |[],ab=>cases ab
   |_=>cases ab
  |_=>cases ab
 |_=>cases ab
def aoZ(ab:X.ld op (.zs p ps)=true):∃q dA ts,op= .call {callee:=.builtin .min,args:=(q::dA).toArray,argTypes:=ts}∧(ca X.aH p q&&lF X.aH ps dA)=true:=by
 cases op with
 |call c=>
  obtain⟨callee,⟨args⟩,ts⟩:=c;cases callee with
  |builtin b=>
   cases b with
   |min=>
    match args,ab with
    |q::dA,ab=>exact⟨q,dA,ts,rfl,ab⟩
    |[],ab=>cases ab
   |_=>cases ab
  |_=>cases ab
 |_=>cases ab
def aoT{d:bv}(ab:X.ld op (.rN a4 d s)=true):∃hO bo t u,op= .call {callee:=.builtin .copy,args:= #[hO,bo],argTypes:= #[t,u]}∧
 (ca X.aH d hO&&ca X.aH s bo&&(match X.P.underlying t with|some (.slice e)=>(match gW X.P e with|some n=>Nat.beq a4 n|none=>false)|_=>false))=true:=by
 cases op with
 |call c=>
  obtain⟨callee,⟨args⟩,⟨ts⟩⟩:=c;cases callee with
  |builtin b=>
   cases b with
   |copy=>
    match args,ts,ab with
    |[bo,q],[t,u],ab=>exact⟨bo,q,t,u,rfl,ab⟩
    |[],_,ab=>cases ab
    |[_],_,ab=>cases ab
    |_::_::_::_,_,ab=>cases ab
    |[_,_],[],ab=>cases ab
    |[_,_],[_],ab=>cases ab
    |[_,_],_::_::_::_,ab=>cases ab
   |_=>cases ab
  |_=>cases ab
 |_=>cases ab
def ao4(ab:X.ld op (.FZ p)=true):∃q t,op= .call {callee:=.builtin .unsafeSliceData,args:= #[q],argTypes:= #[t]}∧ca X.aH p q=true:=by
 cases op with
 |call c=>
  obtain⟨callee,⟨args⟩,⟨ts⟩⟩:=c;cases callee with
  |builtin b=>
   cases b with
   |unsafeSliceData=>
    match args,ts,ab with
    |[q],[t],ab=>exact⟨q,t,rfl,ab⟩
    |[],_,ab=>cases ab
    |_::_::_,_,ab=>cases ab
    |[_],[],ab=>cases ab
    |[_],_::_::_,ab=>cases ab
   |_=>cases ab
  |_=>cases ab
 |_=>cases ab
def ao5{n:bv}(ab:X.ld op (.xU e p n)=true):∃q m t u,op= .call {callee:=.builtin .unsafeString,args:= #[q,m],argTypes:= #[t,u]}∧
 (ca X.aH p q&&ca X.aH n m&&(match X.P.underlying t with|some (.pointer bS)=>Nat.beq e bS&&(match gW X.P bS with|some 1=>true|_=>false)|_=>false))=true:=by
 cases op with
 |call c=>
  obtain⟨callee,⟨args⟩,⟨ts⟩⟩:=c;cases callee with
  |builtin b=>
   cases b with
   |unsafeString=>
    match args,ts,ab with
    |[bo,q],[t,u],ab=>exact⟨bo,q,t,u,rfl,ab⟩
    |[],_,ab=>cases ab
    |[_],_,ab=>cases ab
    |_::_::_::_,_,ab=>cases ab
    |[_,_],[],ab=>cases ab
    |[_,_],[_],ab=>cases ab
    |[_,_],_::_::_::_,ab=>cases ab
   |_=>cases ab
  |_=>cases ab
 |_=>cases ab
def aoV{c:bv}(ab:X.ld op (.la p c)=true):∃f q d ts,op= .call {callee:=.value (.func f),args:= #[q,d],argTypes:=ts}∧(ca X.aH p q&&ca X.aH c d&&X.la f)=true:=by
 cases op with
 |call c=>
  obtain⟨callee,⟨args⟩,ts⟩:=c;cases callee with
  |value g=>
   cases g with
   |func f=>
    match args,ab with
    |[q,d],ab=>exact⟨f,q,d,ts,rfl,ab⟩
    |[],ab=>cases ab
    |[_],ab=>cases ab
    |_::_::_::_,ab=>cases ab
   |_=>cases ab
  |_=>cases ab
 |_=>cases ab
def ao1(ab:X.ld op (.kM p)=true):∃f q ts,op= .call {callee:=.value (.func f),args:= #[q],argTypes:=ts}∧(ca X.aH p q&&X.kM f)=true:=by
 cases op with
 |call c=>
  obtain⟨callee,⟨args⟩,ts⟩:=c;cases callee with
  |value g=>
   cases g with
   |func f=>
    match args,ab with
    |[q],ab=>exact⟨f,q,ts,rfl,ab⟩
    |[],ab=>cases ab
    |_::_::_,ab=>cases ab
   |_=>cases ab
  |_=>cases ab
 |_=>cases ab
def ao3(ab:X.ld op .vy=true):∃ts,op= .call {callee:=.builtin .recover,args:= #[],argTypes:=ts}:=by
 cases op with
 |call c=>
  obtain⟨callee,⟨args⟩,ts⟩:=c;cases callee with
  |builtin b=>
   cases b with
   |recover=>
    match args,ab with
    |[],_=>exact⟨ts,rfl⟩
    |_::_,ab=>cases ab
   |_=>cases ab
  |_=>cases ab
 |_=>cases ab
def Yt(ab:X.ld op (.call f ps)=true):∃g args ts,op= .call {callee:=.value g,args:=args,argTypes:=ts}∧
 (ca X.aH f g&&lF X.aH ps args.toList&&(match g with|.func k=>((X.P.funcs[k]?).map (fun fn=>fn.body.isSome&& !(fn.name== "runtime.NumGoroutine"))).getD false|_=>true))=true:=by
 cases op with
 |call c=>
  obtain⟨callee,args,ts⟩:=c;cases callee with
  |value g=>exact⟨g,args,ts,rfl,ab⟩
  |_=>cases ab
 |_=>cases ab
def aoU(ab:X.ld op (.pX f ps)=true):∃g args ts,op= .defer {callee:=.value g,args:=args,argTypes:=ts}∧(ca X.aH f g&&lF X.aH ps args.toList)=true:=by
 cases op with
 |defer c=>
  obtain⟨callee,args,ts⟩:=c;cases callee with
  |value g=>exact⟨g,args,ts,rfl,ab⟩
  |_=>cases ab
 |_=>cases ab
def ao2(ab:X.ld op (.oX p)=true):∃q,op= .panic q∧ca X.aH p q=true:=by
 cases op with
 |panic q=>exact⟨q,rfl,ab⟩
 |_=>cases ab
section
variable{ι:bu}{fr aF:aO}{a:Act}{aI:Nat}{st st':ar}{w:d7}{o:Oper}{v:bi}{call:bF}
variable{x:da}
def aqQ(ab:X.ld o.op x=true)(af:cE ι fr a aI)(hw:bx X ι st w)(h:bG call x fr st= .ok v aF st')(aa:ML x=false)(hp:x.inPlace=true):
 aF=fr∧x9 X x ι w v st st' (execOp a.eval o):=by
 generalize al:o.op=op at ab;cases x with
 |uk k p=>
  cases op with
  |convert s t q=>
   have ab:(ca X.aH p q&&(match X.P.underlying s,X.P.underlying t with|some _,some (.int k')=>decide (k=k')|_,_=>false))=true:=ab;rw[b1]at ab;obtain⟨I,U⟩:=ab;obtain⟨rfl,bl⟩:=dc I;split at U
   ·rename_i FY k' ah aV;have e:=zbd U;subst e;exact fw (atJ (call:=call) bl al ah aV af hw h) rfl
   ·cases U
  |_=>cases ab
 |yj p=>
  cases op with
  |convert s t q=>
   have ab:(ca X.aH p q&&(match X.P.underlying s,X.P.underlying t with|some _,some .string=>true|_,_=>false))=true:=ab;rw[b1]at ab;obtain⟨I,U⟩:=ab;obtain⟨rfl,bl⟩:=dc I;split at U
   ·rename_i FY ah aV;exact fw (atI (call:=call) bl al ah aV af hw h) rfl
   ·cases U
  |_=>cases ab
 |Aw p=>
  cases op with
  |convert s t q=>
   have ab:(ca X.aH p q&&(match X.P.underlying s,X.P.underlying t with|some (.slice e),some .string=>(match X.P.underlying e with|some (.int .u8)=>true|_=>false)|_,_=>false))=true:=ab;rw[b1]at ab;obtain⟨I,U⟩:=ab;obtain⟨rfl,bl⟩:=dc I;split at U
   ·rename_i e ah aV;split at U
    ·rename_i he;exact fw (atH (call:=call) bl al ah aV he af hw h) rfl
    ·cases U
   ·cases U
  |_=>cases ab
 |wq e p=>
  cases op with
  |convert s t q=>
   have ab:(ca X.aH p q&&(match X.P.underlying s,X.P.underlying t with|some .string,some (.slice bS)=>Nat.beq e bS&&(match X.P.underlying bS,gW X.P bS with|some (.int .u8),some 1=>true|_,_=>false)|_,_=>false))=true:=ab;rw[b1]at ab;obtain⟨I,U⟩:=ab;obtain⟨rfl,bl⟩:=dc I;split at U
   ·rename_i bS ah aV;rw[b1]at U;have az:=eZ U.1;subst az;have ag:=U.2;split at ag
    ·rename_i he ax;obtain⟨i,ae,qe⟩:=nM ax;exact An (atO (call:=call) bl al ah aV he ae qe af hw h) rfl
    ·cases ag
   ·cases U
  |_=>cases ab
 |E7 t p=>
  cases op with
  |makeInterface hM q=>
   have ab:(Nat.beq t hM&&ca X.aH p q&&(match X.P.underlying hM with|some (.interface _)=>false|some _=>true|none=>false))=true:=ab;simp only[b1]at ab;obtain⟨⟨I,U⟩,ag⟩:=ab;have az:=eZ I;subst az;obtain⟨rfl,bl⟩:=dc U;split at ag
   ·cases ag
   ·rename_i d hne ay;exact fw (auc (call:=call) bl al ay (fun ms e=>hne ms (by rw[e])) af hw h) rfl
   ·cases ag
  |_=>cases ab
 |sh fn p c=>
  cases fn with
  |func f=>
   cases op with
   |makeFunc rV q d=>
    cases rV with
    |func g=>
     have ab:(Nat.beq f g&&lF X.aH p q.toList&&lF X.aH c d.toList)=true:=ab;simp only[b1]at ab;obtain⟨⟨I,U⟩,ag⟩:=ab;have az:=eZ I;subst az;obtain⟨rfl,bl⟩:=tC U;obtain⟨rfl,bK⟩:=tC ag;exact fw (acv (call:=call) (by simp) bl bK al af hw h) rfl
    |_=>cases ab
   |_=>cases ab
  |method f=>
   cases op with
   |makeFunc rV q d=>
    cases rV with
    |method g=>
     have ab:(f==g&&lF X.aH p q.toList&&lF X.aH c d.toList)=true:=ab;simp only[b1]at ab;obtain⟨⟨I,U⟩,ag⟩:=ab;have az:=zbL I;subst az;obtain⟨rfl,bl⟩:=tC U;obtain⟨rfl,bK⟩:=tC ag;exact fw (acv (call:=call) (by simp) bl bK al af hw h) rfl
    |_=>cases ab
   |_=>cases ab
  |_=>cases op<;>cases ab
 |OL name CG p=>cases op<;>cases ab
 |si e bh z l c=>
  cases op with
  |makeSlice t l' bL=>
   have ab:(ca X.aH l l'&&ca X.aH c bL&&(match X.P.underlying t with
    |some (.slice el)=>Nat.beq e el&&(match X.P.info? el with
     |some i=>Nat.beq bh i.bytes&& !Nat.beq i.size 0&&(match i.zero with|some v=>mv z v.cells.toList&&nP z&&Nat.beq v.cells.toList.length i.size|none=>false)
     |none=>false)
    |_=>false))=true:=ab
   simp only[b1]at ab;obtain⟨⟨I,U⟩,ag⟩:=ab;obtain⟨rfl,bl⟩:=dc I;obtain⟨rfl,bK⟩:=dc U;split at ag
   ·rename_i el hu;rw[b1]at ag;obtain⟨au,a0⟩:=ag;have az:=eZ au;subst az;split at a0
    ·rename_i i ae;simp only[b1]at a0;obtain⟨⟨b5,cY⟩,h4⟩:=a0;have e2:=eZ b5;subst e2;split at h4
     ·rename_i tX ax;simp only[b1]at h4;obtain⟨⟨jl,rX⟩,HR⟩:=h4;have b8:=z0 _ _ jl;subst b8;exact An (aud (call:=call) bl bK al hu ae ax (eZ HR) (I9 cY) rX af hw h) rfl
     ·cases h4
    ·cases a0
   ·cases ag
  |_=>cases ab
 |tR p aK ae=>
  cases op with
  |slice t q sg dE qi=>
   cases qi with
   |none=>
    have ab:(ca X.aH p q&&m3 X.aH aK sg&&m3 X.aH ae dE&&(match X.P.underlying t with|some .string=>true|_=>false))=true:=ab;simp only[b1]at ab;obtain⟨⟨⟨I,U⟩,ag⟩,au⟩:=ab;obtain⟨rfl,bl⟩:=dc I;obtain⟨rfl,bK⟩:=xu U;obtain⟨rfl,ee⟩:=xu ag;split at au
    ·rename_i hu;exact fw (aup (call:=call) bl bK ee al hu af hw h) rfl
    ·cases au
   |some m=>cases ab
  |_=>cases ab
 |CD n s p aK ae e8=>
  cases op with
  |slice t q sg dE qi=>
   have ab:(ca X.aH p q&&m3 X.aH aK sg&&m3 X.aH ae dE&&m3 X.aH e8 qi&&(qi.isNone||dE.isSome)&&
    (match X.P.underlying t with|some (.array ch e)=>Nat.beq n ch&&(match gW X.P e with|some bo=>Nat.beq s bo|none=>false)|_=>false))=true:=ab
   simp only[b1]at ab;obtain⟨⟨⟨⟨⟨I,U⟩,ag⟩,au⟩,a0⟩,b5⟩:=ab;obtain⟨rfl,bl⟩:=dc I;obtain⟨rfl,bK⟩:=xu U;obtain⟨rfl,ee⟩:=xu ag;obtain⟨rfl,va⟩:=xu au;have Nq:e8≠none->ae≠none:=by
    intro hm he;subst he;cases e8
    ·exact hm rfl
    ·simp at a0
   split at b5
   ·rename_i ch e hu;rw[b1]at b5;obtain⟨cY,h4⟩:=b5;have az:=eZ cY;subst az;split at h4
    ·rename_i bo ah;obtain⟨cw,fN,rfl⟩:=nM ah;have e2:=eZ h4;subst e2;exact fw (aun (call:=call) bl bK ee va Nq al hu fN af hw h) rfl
    ·cases h4
   ·cases b5
  |_=>cases ab
 |oj s p aK ae e8=>
  cases op with
  |slice t q sg dE qi=>
   have ab:(ca X.aH p q&&m3 X.aH aK sg&&m3 X.aH ae dE&&m3 X.aH e8 qi&&(qi.isNone||dE.isSome)&&
    (match X.P.underlying t with|some (.slice e)=>(match gW X.P e with|some bo=>Nat.beq s bo|none=>false)|_=>false))=true:=ab
   simp only[b1]at ab;obtain⟨⟨⟨⟨⟨I,U⟩,ag⟩,au⟩,a0⟩,b5⟩:=ab;obtain⟨rfl,bl⟩:=dc I;obtain⟨rfl,bK⟩:=xu U;obtain⟨rfl,ee⟩:=xu ag;obtain⟨rfl,va⟩:=xu au;have Nq:e8≠none->ae≠none:=by
    intro hm he;subst he;cases e8
    ·exact hm rfl
    ·simp at a0
   split at b5
   ·rename_i e hu;split at b5
    ·rename_i bo ah;obtain⟨cw,fN,rfl⟩:=nM ah;have e2:=eZ b5;subst e2;exact fw (auo (call:=call) bl bK ee va Nq al hu fN af hw h) rfl
    ·cases b5
   ·cases b5
  |_=>cases ab
 |qS off p=>
  cases op with
  |fieldAddr t q f=>
   have ab:(ca X.aH p q&&(match X.P.underlying t with
    |some (.struct fields)=>(match fields[f]? with|some fd=>Nat.beq off fd.offset&&(match gW X.P fd.type with|some s=> !Nat.beq s 0|none=>false)|none=>false)
    |_=>false))=true:=ab
   rw[b1]at ab;obtain⟨I,U⟩:=ab;obtain⟨rfl,bl⟩:=dc I;split at U
   ·rename_i fields hu;split at U
    ·rename_i fd uK;rw[b1]at U;obtain⟨ag,au⟩:=U;have az:=eZ ag;subst az;split at au
     ·rename_i s ah;obtain⟨i,ae,rfl⟩:=nM ah;exact fw (atW (call:=call) bl al hu uK ae (I9 au) af hw h) rfl
     ·cases au
    ·cases U
   ·cases U
  |_=>cases ab
 |p3 off a4 ig p=>
  cases op with
  |field t q f=>
   have ab:(ca X.aH p q&&(match X.P.underlying t with
    |some (.struct fields)=>(match fields[f]? with|some fd=>Nat.beq off fd.offset&&(match gW X.P fd.type,qA X.P fd.type with|some s,some g=>Nat.beq a4 s&&(ig==g)|_,_=>false)|none=>false)
    |_=>false))=true:=ab
   rw[b1]at ab;obtain⟨I,U⟩:=ab;obtain⟨rfl,bl⟩:=dc I;split at U
   ·rename_i fields hu;split at U
    ·rename_i fd uK;rw[b1]at U;obtain⟨ag,au⟩:=U;have az:=eZ ag;subst az;split at au
     ·rename_i s g ah aM;rw[b1]at au;obtain⟨i,ae,rfl⟩:=nM ah;obtain⟨d,ay,e⟩:=Dc aM;have e2:=eZ au.1;subst e2;have b8:ig=rL d:=by rw[e];simpa using au.2
      subst b8;exact fw (atX (call:=call) bl al hu uK ay ae af hw h) rfl
     ·cases au
    ·cases U
   ·cases U
  |_=>cases ab
 |u0 n a4 p i=>
  cases op with
  |indexAddr t q j=>
   have ab:(ca X.aH p q&&ca X.aH i j&&(match X.P.underlying t with|some (.array ch e)=>Nat.beq n ch&&(match gW X.P e with|some s=>Nat.beq a4 s|none=>false)|_=>false))=true:=ab;simp only[b1]at ab;obtain⟨⟨I,U⟩,ag⟩:=ab;obtain⟨rfl,bl⟩:=dc I;obtain⟨rfl,bK⟩:=dc U;split at ag
   ·rename_i ch e hu;rw[b1]at ag;obtain⟨au,a0⟩:=ag;have az:=eZ au;subst az;split at a0
    ·rename_i s ah;obtain⟨cw,fN,rfl⟩:=nM ah;have e2:=eZ a0;subst e2;exact fw (atY (call:=call) bl bK al hu fN af hw h) rfl
    ·cases a0
   ·cases ag
  |_=>cases ab
 |mY a4 p i=>
  cases op with
  |indexAddr t q j=>
   have ab:(ca X.aH p q&&ca X.aH i j&&(match X.P.underlying t with|some (.slice e)=>(match gW X.P e with|some s=>Nat.beq a4 s|none=>false)|_=>false))=true:=ab;simp only[b1]at ab;obtain⟨⟨I,U⟩,ag⟩:=ab;obtain⟨rfl,bl⟩:=dc I;obtain⟨rfl,bK⟩:=dc U;split at ag
   ·rename_i e hu;split at ag
    ·rename_i s ah;obtain⟨cw,fN,rfl⟩:=nM ah;have e2:=eZ ag;subst e2;exact fw (atZ (call:=call) bl bK al hu fN af hw h) rfl
    ·cases ag
   ·cases ag
  |_=>cases ab
 |xa p i=>
  cases op with
  |index t q j=>
   have ab:(ca X.aH p q&&ca X.aH i j&&(match X.P.underlying t with|some .string=>true|_=>false))=true:=ab;simp only[b1]at ab;obtain⟨⟨I,U⟩,ag⟩:=ab;obtain⟨rfl,bl⟩:=dc I;obtain⟨rfl,bK⟩:=dc U;split at ag
   ·rename_i hu;exact fw (at3 (call:=call) bl bK al hu af hw h) rfl
   ·cases ag
  |_=>cases ab
 |IJ n a4 ig p i=>
  cases op with
  |index t q j=>
   have ab:(ca X.aH p q&&ca X.aH i j&&(match X.P.underlying t with|some (.array ch e)=>Nat.beq n ch&&(match gW X.P e,qA X.P e with|some s,some g=>Nat.beq a4 s&&(ig==g)|_,_=>false)|_=>false))=true:=ab;simp only[b1]at ab;obtain⟨⟨I,U⟩,ag⟩:=ab;obtain⟨rfl,bl⟩:=dc I;obtain⟨rfl,bK⟩:=dc U;split at ag
   ·rename_i ch e hu;rw[b1]at ag;obtain⟨au,a0⟩:=ag;have az:=eZ au;subst az;split at a0
    ·rename_i s g ah aM;rw[b1]at a0;obtain⟨cw,fN,rfl⟩:=nM ah;obtain⟨d,ay,e⟩:=Dc aM;have e2:=eZ a0.1;subst e2;have b8:ig=rL d:=by rw[e];simpa using a0.2
     subst b8;exact fw (at2 (call:=call) bl bK al hu ay fN af hw h) rfl
    ·cases a0
   ·cases ag
  |_=>cases ab
 |Gb t z ok p=>
  cases op with
  |typeAssert q lH hM xo=>
   have ab:(ca X.aH p q&&Nat.beq t hM&&(ok==xo)&&(match X.P.underlying hM with|some (.interface _)=>false|some _=>true|none=>false)&&(match sJ X.P hM with|some v=>dM z v&&kV z|none=>false))=true:=ab;simp only[b1]at ab;obtain⟨⟨⟨⟨I,U⟩,ag⟩,au⟩,a0⟩:=ab;obtain⟨rfl,bl⟩:=dc I;have az:=eZ U;subst az;have e2:ok=xo:=by simpa using ag
   subst e2;split at au
   ·cases au
   ·rename_i d hne ay;split at a0
    ·rename_i tX r9;rw[b1]at a0;have b8:=nO _ _ a0.1;subst b8;obtain⟨i,ae,ax⟩:=Gm r9;exact fw (aur (call:=call) bl al ay (fun ms e=>hne ms (by rw[e])) ae ax a0.2 af hw h) rfl
    ·cases a0
   ·cases au
  |_=>cases ab
 |rT p i=>
  cases op with
  |extract q j=>
   have ab:(ca X.aH p q&&Nat.beq i j)=true:=ab;rw[b1]at ab;obtain⟨rfl,bl⟩:=dc ab.1;have az:=eZ ab.2;subst az;exact fw (atV (call:=call) bl al af hw h) rfl
  |_=>cases ab
 |G9 p=>
  cases op with
  |convert s t q=>
   have ab:(ca X.aH p q&&(match X.P.underlying s,X.P.underlying t with|some (.pointer e),some .unsafePointer=>(match gW X.P e with|some n=> !Nat.beq n 0|none=>false)|_,_=>false))=true:=ab;rw[b1]at ab;obtain⟨I,U⟩:=ab;obtain⟨rfl,bl⟩:=dc I;split at U
   ·rename_i e ah aV;split at U
    ·rename_i n hn;obtain⟨i,ae,rfl⟩:=nM hn;exact fw (atM (call:=call) bl al ah aV ae (I9 U) af hw h) rfl
    ·cases U
   ·cases U
  |_=>cases ab
 |Hb e n p=>
  cases op with
  |convert s t q=>
   have ab:(ca X.aH p q&&(match X.P.underlying s,X.P.underlying t with|some .unsafePointer,some (.pointer bS)=>Nat.beq e bS&&(match gW X.P bS with|some m=>Nat.beq n m&& !Nat.beq m 0|none=>false)|_,_=>false))=true:=ab;rw[b1]at ab;obtain⟨I,U⟩:=ab;obtain⟨rfl,bl⟩:=dc I;split at U
   ·rename_i bS ah aV;rw[b1]at U;obtain⟨ag,au⟩:=U;have az:=eZ ag;subst az;split at au
    ·rename_i m hm;rw[b1]at au;obtain⟨i,ae,rfl⟩:=nM hm;have e2:=eZ au.1;subst e2;exact fw (atP (call:=call) bl al ah aV ae (I9 au.2) af hw h) rfl
    ·cases au
   ·cases U
  |_=>cases ab
 |call f as=>cases hp
 |inv _ _ _=>cases hp
 |vy=>cases hp
 |pX f as=>cases hp
 |oX p=>cases hp
 |pw p=>
  obtain⟨q,t,rfl,hj⟩:=aoX ab;rw[b1]at hj;obtain⟨rfl,bl⟩:=dc hj.1;have U:=hj.2;split at U
  ·rename_i e hu;exact fw (at6 (call:=call) bl al hu af hw h) rfl
  ·cases U
 |vd p=>
  obtain⟨q,t,rfl,hj⟩:=aoY ab;rw[b1]at hj;obtain⟨rfl,bl⟩:=dc hj.1;have U:=hj.2;split at U
  ·rename_i hu;exact fw (at7 (call:=call) bl al hu af hw h) rfl
  ·cases U
 |zh n=>
  obtain⟨q,t,rfl,hj⟩:=aoW ab;split at hj
  ·rename_i m d hu;have e:=eZ hj;subst e;exact fw (at4 (call:=call) al hu hw h) rfl
  ·rename_i u hu;split at hj
   ·rename_i m d EI;have e:=eZ hj;subst e;exact fw (at5 (call:=call) al hu EI hw h) rfl
   ·cases hj
  ·cases hj
 |app e a4 bh s p=>
  obtain⟨bo,q,t,u,rfl,hj⟩:=aoS ab;simp only[b1]at hj;obtain⟨⟨I,U⟩,ag⟩:=hj;obtain⟨rfl,bl⟩:=dc I;obtain⟨rfl,bK⟩:=dc U;split at ag
  ·rename_i el d hu ay;simp only[b1]at ag;obtain⟨⟨au,a0⟩,b5⟩:=ag;have az:=eZ au;subst az;split at b5
   ·rename_i i ae;simp only[b1]at b5;obtain⟨⟨cY,h4⟩,jl⟩:=b5;have e2:=eZ cY;have b8:=eZ h4;subst e2 b8;split at jl
    ·rename_i tX ax;exact xZ (atB (call:=call) bl bK al hu ay (fun k e=>by subst e;cases a0) ae ax (eZ jl) af hw h) rfl rfl
    ·cases jl
   ·cases b5
  ·cases ag
 |e8 p ps=>
  obtain⟨q,dA,ts,rfl,hj⟩:=ao0 ab;rw[b1]at hj;obtain⟨rfl,bl⟩:=dc hj.1;obtain⟨rfl,bK⟩:=tC hj.2;exact fw (auh (call:=call) (fun y aJ=>by rcases zah.1 aJ with rfl|aJ;exact bl;exact bK y aJ) al af hw h) rfl
 |zs p ps=>
  obtain⟨q,dA,ts,rfl,hj⟩:=aoZ ab;rw[b1]at hj;obtain⟨rfl,bl⟩:=dc hj.1;obtain⟨rfl,bK⟩:=tC hj.2;exact fw (auf (call:=call) (fun y aJ=>by rcases zah.1 aJ with rfl|aJ;exact bl;exact bK y aJ) al af hw h) rfl
 |rN a4 d s=>
  obtain⟨hO,bo,t,u,rfl,hj⟩:=aoT ab;simp only[b1]at hj;obtain⟨⟨I,U⟩,ag⟩:=hj;obtain⟨rfl,bl⟩:=dc I;obtain⟨rfl,bK⟩:=dc U;split at ag
  ·rename_i e hu;split at ag
   ·rename_i n hn;obtain⟨i,ae,rfl⟩:=nM hn;have e2:=eZ ag;subst e2;exact xZ (atN (call:=call) bl bK al hu ae af hw h) rfl rfl
   ·cases ag
  ·cases ag
 |FZ p=>
  obtain⟨q,t,rfl,hj⟩:=ao4 ab;obtain⟨rfl,bl⟩:=dc hj;exact fw (aum (call:=call) bl al af hw h) rfl
 |xU e p n=>
  obtain⟨q,m,t,u,rfl,hj⟩:=ao5 ab;simp only[b1]at hj;obtain⟨⟨I,U⟩,ag⟩:=hj;obtain⟨rfl,bl⟩:=dc I;obtain⟨rfl,bK⟩:=dc U;split at ag
  ·rename_i bS hu;rw[b1]at ag;obtain⟨au,a0⟩:=ag;have az:=eZ au;subst az;split at a0
   ·rename_i ax;obtain⟨i,ae,qe⟩:=nM ax;exact xZ (aut (call:=call) bl bK al hu ae qe af hw h) rfl rfl
   ·cases a0
  ·cases ag
 |la p c=>
  obtain⟨f,q,d,ts,rfl,hj⟩:=aoV ab;simp only[b1]at hj;obtain⟨⟨I,U⟩,ag⟩:=hj;obtain⟨rfl,bl⟩:=dc I;obtain⟨rfl,bK⟩:=dc U;exact fw (at0 (call:=call) bl bK ag al af hw h) rfl
 |kM p=>
  obtain⟨f,q,ts,rfl,hj⟩:=ao1 ab;rw[b1]at hj;obtain⟨rfl,bl⟩:=dc hj.1;exact fw (auk (call:=call) bl hj.2 al af hw h) rfl
 |ext y=>exact atU (by rw[al];exact ab) af hw h
 |_=>exact absurd aa.symm Bool.false_ne_true
def O4(ab:X.ld o.op x=true)(af:cE ι fr a aI)(hw:bx X ι st w)(h:bG call x fr st= .ok v aF st')(hp:x.inPlace=true):
 aF=fr∧x9 X x ι w v st st' (execOp a.eval o):=by
 cases aa:ML x
 ·exact aqQ ab af hw h aa hp
 ·exact aqP ab af hw h aa
end
end Go.an
namespace Go.an
structure dK where
 fn:co
 kind:CallKind
 bW:am Nat
def dK.at(b:dK)(a:Act)(todo:ac Item):Frame:=
 {fn:=b.fn,tmps:=a.tmps,todo:=todo,defers:=a.defers,mode:=.run,kind:=b.kind,roundOf:=b.bW}
def eval_at(b:dK)(a:Act)(todo:ac Item):(b.at a todo).eval=a.eval:=by
 funext x;cases x<;>rfl
section
variable{P:f5}{b:dK}{a:Act}{k:ac Item}{cs:ac Frame}{w:d7}{ops:be Oper}
variable{o:Oper}{i:Nat}{rest:ac Nat}{w':d7}{c:Code}{l:Nat}{x y:Code}{v:bi}{f:co}
def auU:step P (lone (b.at a (.code .skip::k)) cs w)= .next (lone (b.at a k) cs w):=step_lone_go (by simp[stepG,stepG.exec,dK.at])
def auJ:step P (lone (b.at a (.code (.label l)::k)) cs w)= .next (lone (b.at a k) cs w):=step_lone_go (by simp[stepG,stepG.exec,dK.at])
def auI{id:Nat}:step P (lone (b.at a (.inBlock id::k)) cs w)= .next (lone (b.at a k) cs w):=step_lone_go (by simp[stepG,stepG.exec,dK.at])
def acP:step P (lone (b.at a (.inScope c::k)) cs w)= .next (lone (b.at a k) cs w):=step_lone_go (by simp[stepG,stepG.exec,dK.at])
def acY:step P (lone (b.at a (.code (.seq x y)::k)) cs w)= .next (lone (b.at a (.code x:: .code y::k)) cs w):=step_lone_go (by simp[stepG,stepG.exec,dK.at])
def Kv{c:bv}{t:Bool}(h:a.eval c= .bool t):
 step P (lone (b.at a (.code (.cond c x y)::k)) cs w)= .next (lone (b.at a (.code (if t then x else y)::k)) cs w):=
 step_lone_go (by
  have:=eval_at b a (.code (.cond c x y)::k);simp only[dK.at]at this;simp[stepG,stepG.exec,dK.at,this,h])
def acM{id:Nat}:step P (lone (b.at a (.code (.block id c)::k)) cs w)= .next (lone (b.at a (.code c:: .inBlock id::k)) cs w):=step_lone_go (by simp[stepG,stepG.exec,dK.at])
def acQ:step P (lone (b.at a (.code (.loop c)::k)) cs w)= .next (lone (b.at a (.code c:: .inLoop c::k)) cs w):=step_lone_go (by simp[stepG,stepG.exec,dK.at])
def acO:step P (lone (b.at a (.inLoop c::k)) cs w)= .next (lone (b.at a (.code c:: .inLoop c::k)) cs w):=step_lone_go (by simp[stepG,stepG.exec,dK.at])
def acX:step P (lone (b.at a (.code (.scope c)::k)) cs w)= .next (lone (b.at a (.code c:: .inScope c::k)) cs w):=step_lone_go (by simp[stepG,stepG.exec,dK.at])
def auH{id:Nat}{k':ac Item}(h:exitTo id k=some k'):step P (lone (b.at a (.code (.exit id)::k)) cs w)= .next (lone (b.at a k') cs w):=step_lone_go (by simp[stepG,stepG.exec,dK.at,h])
def acT{id:Nat}:step P (lone (b.at a (.code (.region id ops false)::k)) cs w)= .next (lone (b.at a (.inRegion ops (List.range ops.size)::k)) cs w):=step_lone_go (by simp[stepG,stepG.exec,dK.at])
def auO{id:Nat}:step P (lone (b.at a (.code (.region id ops true)::k)) cs w)=
 .next (lone (b.at a (.inRegion ops (Region.schedule (P.follows .mixedOrders) ops (w.tape w.drawn (.order b.fn id)))::k)) cs {w with drawn:=w.drawn+1}):=
 step_lone_go (by simp[stepG,stepG.exec,dK.at,choose,Sem.run,Question.forced,Question.cut])
def acU:step P (lone (b.at a (.inRegion ops []::k)) cs w)= .next (lone (b.at a k) cs w):=step_lone_go (by simp[stepG,stepG.exec,dK.at])
def finish_at(i:Nat)(rest:ac Nat)(v:bi)(al:ops[i]? =some o):
 (b.at a (.inRegion ops (i::rest)::k)).finish v=b.at (a.put o.dst v) (.inRegion ops rest::k):=by
 cases h:o.dst<;>simp[Frame.finish,dK.at,Act.put,al,h]
def Kw(al:ops[i]? =some o)(h:Region.wanted o (yielded ops a.tmps)=false):
 step P (lone (b.at a (.inRegion ops (i::rest)::k)) cs w)= .next (lone (b.at (a.put o.dst undef) (.inRegion ops rest::k)) cs w):=by
 rw[<-finish_at i rest undef al];exact step_lone_go (by simp only[dK.at];simp[stepG,stepG.exec,al,h])
def xN(al:ops[i]? =some o)(hw:Region.wanted o (yielded ops a.tmps)=true)(ay:b.bW=none∨∀c,o.op≠.defer c):
 stepG P true {frame:=b.at a (.inRegion ops (i::rest)::k),callers:=cs,status:=.running,dying:=none} w=
  stepG.apply P true (b.at a (.inRegion ops (i::rest)::k)) cs none (execOp a.eval o) w:=by
 have he:=eval_at b a (.inRegion ops (i::rest)::k);simp only[dK.at]at he;simp only[stepG,stepG.exec,dK.at,al,Option.map_some,hw,zdK,if_true,stepG.oper,Frame.oper?];rcases ay with ay|ay
 ·simp only[ay]at he⊢;rw[he]
 ·cases aD:b.bW with
  |none=>simp only[aD]at he ⊢;rw[he]
  |some l=>
   rw[aD]at he;cases dD:o.op<;>simp only[]<;>first|(exact absurd dD (ay _))|(rw[he])
def Kx(al:ops[i]? =some o)(hw:Region.wanted o (yielded ops a.tmps)=true)(ay:b.bW=none∨∀c,o.op≠.defer c)
 (aD:(execOp a.eval o).run P w= .ok (.value v) w'):step P (lone (b.at a (.inRegion ops (i::rest)::k)) cs w)= .next (lone (b.at (a.put o.dst v) (.inRegion ops rest::k)) cs w'):=by
 refine step_lone_go ?_;rw[xN al hw ay,<-finish_at i rest v al];simp[stepG.apply,aD]
def auL(al:ops[i]? =some o)(hw:Region.wanted o (yielded ops a.tmps)=true)(ay:b.bW=none∨∀c,o.op≠.defer c)
 (aD:(execOp a.eval o).run P w= .ok .skip w'):step P (lone (b.at a (.inRegion ops (i::rest)::k)) cs w)= .next (lone (b.at (a.put o.dst undef) (.inRegion ops rest::k)) cs w'):=by
 refine step_lone_go ?_;rw[xN al hw ay,<-finish_at i rest undef al];simp[stepG.apply,aD]
def auK{d:Deferred}(al:ops[i]? =some o)(hw:Region.wanted o (yielded ops a.tmps)=true)(ay:b.bW=none)
 (aD:(execOp a.eval o).run P w= .ok (.defer d) w'):step P (lone (b.at a (.inRegion ops (i::rest)::k)) cs w)= .next (lone (b.at ({a with defers:=d::a.defers}.put o.dst undef) (.inRegion ops rest::k)) cs w'):=by
 refine step_lone_go ?_;rw[xN al hw (.inl ay)];have:=finish_at (b:=b) (a:={a with defers:=d::a.defers}) (k:=k) i rest undef al;rw[<-this];simp[stepG.apply,aD,dK.at]
def acR{args:be bi}(al:ops[i]? =some o)(hw:Region.wanted o (yielded ops a.tmps)=true)(ay:b.bW=none∨∀c,o.op≠.defer c)
 (aD:(execOp a.eval o).run P w= .ok (.enter f args) w'):step P (lone (b.at a (.inRegion ops (i::rest)::k)) cs w)= .next (lone (Frame.enter P f args .normal) (b.at a (.inRegion ops (i::rest)::k)::cs) w'):=by
 refine step_lone_go ?_;rw[xN al hw ay];simp[stepG.apply,aD,dK.at]
def acS{ts:be bi}{dt body:Code}(al:ops[i]? =some o)(hw:Region.wanted o (yielded ops a.tmps)=true)(ay:b.bW=none∨∀c,o.op≠.defer c)
 (aD:(execOp a.eval o).run P w= .ok (.round l f ts dt body) w'):step P (lone (b.at a (.inRegion ops (i::rest)::k)) cs w)= .next (lone (Frame.round l f ts dt body .normal) (b.at a (.inRegion ops (i::rest)::k)::cs) w'):=by
 refine step_lone_go ?_;rw[xN al hw ay];simp[stepG.apply,aD,dK.at]
def auN(al:ops[i]? =some o)(hw:Region.wanted o (yielded ops a.tmps)=true)(ay:b.bW=none)
 (aD:(execOp a.eval o).run P w= .ok .recover w'):
 step P (lone (b.at a (.inRegion ops (i::rest)::k)) cs w)=match tryRecover (b.at a (.inRegion ops (i::rest)::k)) cs with
  |some (v,cs')=>.next (lone (b.at (a.put o.dst v) (.inRegion ops rest::k)) cs' w')
  |none=>.next (lone (b.at (a.put o.dst .nilIface) (.inRegion ops rest::k)) cs w'):=by
 have EC:(b.at a (.inRegion ops (i::rest)::k)).roundOf=none:=ay;cases aV:tryRecover (b.at a (.inRegion ops (i::rest)::k)) cs with
 |none=>
  refine step_lone_go ?_;rw[xN al hw (.inl ay),<-finish_at i rest _ al];simp[stepG.apply,aD,EC,aV]
 |some p=>
  obtain⟨v,cs'⟩:=p;refine step_lone_go ?_;rw[xN al hw (.inl ay),<-finish_at i rest _ al];simp[stepG.apply,aD,EC,aV]
def auM(al:ops[i]? =some o)(hw:Region.wanted o (yielded ops a.tmps)=true)(ay:b.bW=none∨∀c,o.op≠.defer c)
 (aD:(execOp a.eval o).run P w= .halt (.panic v) w'):step P (lone (b.at a (.inRegion ops (i::rest)::k)) cs w)= .next (lone {b.at a (.inRegion ops (i::rest)::k)with mode:=.panicking [{v,recovered:=false}]} cs w'):=by
 refine step_lone_go ?_;rw[xN al hw ay];simp[stepG.apply,aD,dK.at,Frame.raise]
end
inductive K4(P:Program)(fv:Value)(args:List Value)(w:World):Frame->Prop
 |enter (f:FuncId) (as:Array Value) (h:((do let d<-Deferred.ofValue fv args.toArray;invoke d.target d.args):Sem Next).run P w= .ok (.enter f as) w):K4 P fv args w (Frame.enter P f as .normal)
 |round (l:Nat) (f:FuncId) (ts:Array Value) (dt body:Code) (h:((do let d<-Deferred.ofValue fv args.toArray;invoke d.target d.args):Sem Next).run P w= .ok (.round l f ts dt body) w):K4 P fv args w (Frame.round l f ts dt body .normal)
def C0(X:Ctx)(ι:bu)(w:d7)(er c:Frame)(cs:ac Frame):dk->Prop
 |.ret v st' _=>∃aU v' w',bw aU v v'∧bx X aU st' w'∧e4 ι aU w w'∧Steps X.P (lone er (c::cs) w) (lone (c.finish v') cs w')
 |.aQ v st' _=>∃aU v' w',bw aU v v'∧bx X aU st' w'∧e4 ι aU w w'∧Steps X.P (lone er (c::cs) w) (lone (c.raise [{v:=v',recovered:=false}]) cs w')
 |.no=>True
def mw(X:Ctx)(call:bF):Prop:=
 ∀ι fv args st HG kB w,bw ι fv HG->bP ι args kB->bx X ι st w->call fv args none st≠.no->
  ∃er,K4 X.P HG kB w er∧∀c cs,C0 X ι w er c cs (call fv args none st)
def j0(b:dK)(aQ:am bi)(ι:bu)(bf:Bool->ac Frame):Prop:=
 match aQ with
 |none=>∀(F:Frame) (eD:Bool),F.kind=b.kind->tryRecover F (bf eD)=none
 |some tK=>∃o0,bw ι tK o0∧(∀F:Frame,F.kind=b.kind->tryRecover F (bf false)=some (o0,bf true))∧∀F:Frame,F.kind=b.kind->tryRecover F (bf true)=none
def j0.mono{b:dK}{aQ:am bi}{ι aU:bu}{bf:Bool->ac Frame}(hle:ι.le aU)(h:j0 b aQ ι bf):j0 b aQ aU bf:=by
 cases aQ with
 |none=>exact h
 |some tK=>obtain⟨o0,I,U,ag⟩:=h;exact⟨o0,I.mono hle,U,ag⟩
def ow(ι:bu)(x:am Nat)(y:am Nat):Prop:=(x=none∧y=none)∨∃l l',x=some l∧y=some l'∧ι l=some ⟨l',0,0,id⟩
def ow.mono{ι aU:bu}(hle:ι.le aU){x y:am Nat}(h:ow ι x y):ow aU x y:=by
 rcases h with h|⟨l,l',I,U,ag⟩
 ·exact .inl h
 ·exact .inr ⟨l,l',I,U,hle _ _ ag⟩
variable{X:Ctx}
def m4(X:Ctx)(aI:Nat)(ops:be Oper)(x:bA)(o:Oper):Bool:=
 (match x.d,o.dst with
  |none,none=>true
  |some a,some b=>Nat.beq a b&&Nat.ble (Nat.succ b) aI
  |_,_=>false)&&X.ld o.op x.o&&
 (match x.g,o.guard with
  |none,none=>true
  |some (t,want),some (j,QT)=>(want==QT)&&(match(ops[j]?).bind (·.dst)with|some hM=>Nat.beq t hM&&Nat.ble (Nat.succ t) aI|none=>false)
  |_,_=>false)
section
variable{aI:Nat}{ops:be Oper}{x:bA}{o:Oper}
def Jo(h:m4 X aI ops x o=true):x.d=o.dst∧∀t,x.d=some t->t<aI:=by
 unfold m4 at h;simp only[b1]at h;have I:=h.1.1;split at I
 ·rename_i az e2;rw[az,e2];exact⟨rfl,by simp⟩
 ·rename_i a b az e2;rw[b1]at I;have:=eZ I.1;subst this;rw[az,e2];exact⟨rfl,fun t aV=>by cases aV;exact mA.1 I.2⟩
 ·cases I
def Fu(h:m4 X aI ops x o=true):X.ld o.op x.o=true:=by
 unfold m4 at h;simp only[b1]at h;exact h.1.2
variable{ι:bu}{fr aF:aO}{a:Act}{st st':ar}{w:d7}{v:bi}{call:bF}{b:dK}{bf:Bool->ac Frame}{k:ac Item}{i:Nat}{rest:ac Nat}
def adT{α:Type}{yes h7 z r:α}(h:m4 X aI ops x o=true)(af:cE ι fr a aI)(ab:gC fr x.g yes h7 z=r)(ax:z≠r):
 (yes=r∧Region.wanted o (yielded ops a.tmps)=true)∨(h7=r∧Region.wanted o (yielded ops a.tmps)=false):=by
 unfold m4 at h;simp only[b1]at h;have I:=h.2;split at I
 ·rename_i az e2;rw[az]at ab;exact .inl ⟨ab,by simp[Region.wanted,e2]⟩
 ·rename_i t want j QT az e2;rw[az]at ab;rw[b1]at I;obtain⟨hw,ag⟩:=I;have en:want=QT:=by simpa using hw
  subst en;split at ag
  ·rename_i hM ti;rw[b1]at ag;have b8:=eZ ag.1;subst b8;have aT:t<a.tmps.size:=by rw[af.size];exact mA.1 ag.2
   have Bu:=af.tmp t;have aM:a.tmps[t]? =some (a.tmps.getD t undef):=by simp[Array.getD,aT]
   have aJ:yielded ops a.tmps j=match a.tmps.getD t undef with|.bool b=>some b|_=>none:=by
    unfold yielded;rw[ti];simp only[Option.bind_some,aM];cases a.tmps.getD t undef<;>rfl
   have ob:Region.wanted o (yielded ops a.tmps)=(yielded ops a.tmps j==some want):=by simp[Region.wanted,e2]
   have fF:mu (fr.tmp t) (fun b=>cond b (cond want yes h7) (cond want h7 yes)) (rD (fr.tmp t) (fun _=>h7) z)=r:=ab;generalize hc:a.tmps.getD t undef=Hd at Bu aJ;generalize aV:fr.tmp t=QF at fF Bu;cases QF with
   |bool qE=>
    cases Bu;have hI:cond qE (cond want yes h7) (cond want h7 yes)=r:=fF;rw[ob,aJ];cases qE<;>cases want
    ·exact .inl ⟨hI,rfl⟩
    ·exact .inr ⟨hI,rfl⟩
    ·exact .inr ⟨hI,rfl⟩
    ·exact .inl ⟨hI,rfl⟩
   |tuple xs=>
    cases Bu;exact .inr ⟨fF,by rw[ob,aJ];rfl⟩
   |_=>exact absurd fF ax
  ·cases ag
 ·cases I
def art(a:Act)(d:am Tmp)(v:bi){ds:ac Deferred}:({a with defers:=ds}.put d v).tmps=(a.put d v).tmps:=by cases d<;>rfl
def aaj(bR:m4 X aI ops x o=true)(dJ:mw X call)(al:ops[i]? =some o)(gd:Region.wanted o (yielded ops a.tmps)=true)(af:cE ι fr a aI)(hw:bx X ι st w)(hb:ow ι fr.bW b.bW)
 (aD:j0 b fr.aQ ι bf) (h:bG call x.o fr st= .ok v aF st'):
 ∃aU a' w',Steps X.P (lone (b.at a (.inRegion ops (i::rest)::k)) (bf fr.cx) w) (lone (b.at a' (.inRegion ops rest::k)) (bf aF.cx) w')∧cE aU (aF.put x.d v) a' aI∧bx X aU st' w'∧e4 ι aU w w'∧
  aF.aQ=fr.aQ∧aF.bW=fr.bW∧∃v',a'.tmps=(a.put o.dst v').tmps:=by
 obtain⟨k7,lz⟩:=Jo bR;have dD:=Fu bR;have pv:∀{q:Prop},(b.bW=none->q)->(fr.bW=none->q):=by
  intro q hq hn;rcases hb with⟨_,U⟩|⟨l,l',I,_,_⟩
  ·exact hq U
  ·rw[hn]at I;cases I
 by_cases hp:x.o.inPlace=true
 ·obtain⟨rfl,⟨aU,n,w',fU,hn,en,ab⟩,_⟩:=O4 dD af hw h hp;have po:b.bW=none∨∀c,o.op≠.defer c:=by
   right;intro c hc;rw[hc]at dD;cases aa:x.o with
   |sh fn p q=>rw[aa]at dD;cases fn<;>cases dD
   |xe p=>rw[aa]at h;cases h
   |refuse=>rw[aa]at h;cases h
   |pX p q=>rw[aa]at hp;cases hp
   |ext y=>rw[aa]at dD;cases y<;>cases dD
   |_=>rw[aa]at dD;cases dD
  rcases hn with⟨v',rfl,aE⟩|⟨rfl,rfl⟩
  ·refine⟨aU,a.put o.dst v',w',.one (Kx al gd po fU),?_,en,ab,rfl,rfl,_,rfl⟩;rw[<-k7];exact(af.mono ab.le).put lz aE
  ·refine⟨aU,a.put o.dst undef,w',.one (auL al gd po fU),?_,en,ab,rfl,rfl,_,rfl⟩;rw[<-k7];exact(af.mono ab.le).put lz (bw.undef aU)
 ·cases aa:x.o with
  |call f ps=>
   rw[aa]at h dD;obtain⟨g,args,ts,pq,hj⟩:=Yt dD;simp only[b1]at hj;obtain⟨rfl,bl⟩:=dc hj.1.1;obtain⟨rfl,bK⟩:=tC hj.1.2;have aG:dk.rec (motive:=fun _=>a1) (fun v st _=>.ok v fr st) (fun v st _=>.aQ v st) .no (call (fr.ak f) (dG fr args.toList) none st)=a1.ok v aF st':=h;have po:b.bW=none∨∀c,o.op≠.defer c:=.inr (by rw[pq];simp);obtain⟨er,eJ,uU⟩:=dJ ι (fr.ak f) (dG fr args.toList) st (a.eval f) (args.toList.map a.eval) w (af.ak hw bl) (AY af hw _ bK) hw (by intro e;rw[e]at aG;cases aG);have Ea:(execOp a.eval o).run X.P w=((do let d<-Deferred.ofValue (a.eval f) (args.toList.map a.eval).toArray;invoke d.target d.args):Sem Next).run X.P w:=by
    unfold execOp;rw[pq];simp[resolve,<-Array.toList_map]
   cases hc:call (fr.ak f) (dG fr args.toList) none st with
   |ret v1 cp eD=>
    rw[hc]at aG uU;have rW:a1.ok v1 fr cp=a1.ok v aF st':=aG;obtain⟨az,e2,b8⟩:=xq rW;subst az e2 b8;obtain⟨aU,v',w',aE,en,ab,y4⟩:=uU (b.at a (.inRegion ops (i::rest)::k)) (bf fr.cx);have mJ:=finish_at (b:=b) (a:=a) (k:=k) i rest v' al;rw[mJ]at y4;refine⟨aU,a.put o.dst v',w',?_,?_,en,ab,rfl,rfl,_,rfl⟩
    ·cases eJ with
     |enter nk as ah=>exact .head (acR al gd po (by rw[Ea];exact ah)) y4
     |round l nk QE dt body ah=>exact .head (acS al gd po (by rw[Ea];exact ah)) y4
    ·rw[<-k7];exact(af.mono ab.le).put lz aE
   |aQ v1 cp eD=>rw[hc]at aG;cases aG
   |no=>rw[hc]at aG;cases aG
  |inv CG f ps=>rw[aa]at h;cases h
  |vy=>
   rw[aa]at h dD;obtain⟨ts,pq⟩:=ao3 dD;obtain⟨hn,I⟩:=BY (h:bp fr.bW _ _=_) (fun _=>by simp);have Bc:b.bW=none:=pv id hn;have fU:(execOp a.eval o).run X.P w= .ok .recover w:=by
    unfold execOp;rw[pq];simp[resolve,invoke,builtin]
   have ah:=auN (b:=b) (k:=k) (cs:=bf fr.cx) al gd Bc fU (rest:=rest);cases iH:fr.aQ with
   |none=>
    rw[iH]at I aD;have U:a1.ok .nilIface fr st=a1.ok v aF st':=I;obtain⟨az,e2,b8⟩:=xq U;subst az e2 b8;rw[aD _ _ rfl]at ah;refine⟨ι,_,w,.one ah,?_,hw,.refl _ _,iH,rfl,_,rfl⟩;rw[<-k7];exact af.put lz .nilIface
   |some tK=>
    rw[iH]at I aD;obtain⟨o0,Bp,jR,oO⟩:=aD;have U:cond fr.cx (a1.ok .nilIface fr st) (.ok tK ⟨fr.t,fr.cL,fr.aQ,true,fr.bW⟩ st)=a1.ok v aF st':=by rw[iH];exact I
    cases tj:fr.cx with
    |true=>
     rw[tj]at U ah;obtain⟨az,e2,b8⟩:=xq (U:a1.ok .nilIface fr st=a1.ok v aF st');subst az e2 b8;rw[oO _ rfl]at ah;refine⟨ι,_,w,by rw[tj];exact .one ah,?_,hw,.refl _ _,iH,rfl,_,rfl⟩;rw[<-k7];exact af.put lz .nilIface
    |false=>
     rw[tj]at U ah;obtain⟨az,e2,b8⟩:=xq (U:a1.ok tK ⟨fr.t,fr.cL,fr.aQ,true,fr.bW⟩ st=a1.ok v aF st');subst az e2 b8;rw[jR _ rfl]at ah;refine⟨ι,_,w,.one ah,?_,hw,.refl _ _,iH,rfl,_,rfl⟩;rw[<-k7];exact cE.put (fr:=⟨fr.t,fr.cL,fr.aQ,true,fr.bW⟩) ⟨af.tmp,af.size,af.cL⟩ lz Bp
  |pX f ps=>
   rw[aa]at h dD;obtain⟨g,args,ts,pq,hj⟩:=aoU dD;simp only[b1]at hj;obtain⟨rfl,bl⟩:=dc hj.1;obtain⟨rfl,bK⟩:=tC hj.2;obtain⟨hn,I⟩:=BY (h:bp fr.bW _ _=_) (fun _=>by simp);have Bc:b.bW=none:=pv id hn;obtain⟨fn,first,fE,Bg,U⟩:=QR I (by simp);have aE:=af.ak hw bl;rw[Bg]at aE;cases fn with
   |func WN=>
    obtain⟨az,e2,b8⟩:=xq (U:a1.ok undef ⟨fr.t,{target:=.fn (.func WN) fE,args:=⟨fk first.toList (dG fr args.toList)⟩}::fr.cL,fr.aQ,fr.cx,fr.bW⟩ st=a1.ok v aF st');subst az e2 b8;generalize lR:a.eval f=v9 at aE;cases aE with
    |func _ gD _ aw _ vs gw eW eQ nd C7=>
     have gv:=AY af hw _ bK;have fU:(execOp a.eval o).run X.P w= .ok (.defer {target:=.fn gD vs,args:=aw++args.map a.eval}) w:=by
      unfold execOp;rw[pq];simp[resolve,lR,Deferred.ofValue]
     have ah:=auK (b:=b) (k:=k) (cs:=bf fr.cx) al gd Bc fU (rest:=rest);refine⟨ι,_,w,.one ah,?_,hw,.refl _ _,rfl,rfl,undef,art _ _ _⟩;rw[<-k7];refine cE.put (fr:=⟨fr.t,{target:=.fn (.func WN) fE,args:=⟨fk first.toList (dG fr args.toList)⟩}::fr.cL,fr.aQ,fr.cx,fr.bW⟩) (a:={a with defers:={target:=.fn gD vs,args:=aw++args.map a.eval}::a.defers}) ⟨af.tmp,af.size,⟨⟨?_,gw,bP.xn nd C7⟩,af.cL⟩⟩ lz (bw.undef ι);have:=(bP.xn eW eQ).append gv;simpa using this
   |_=>cases U
  |oX p=>
   rw[aa]at h;obtain⟨t,adO,_,I⟩:=QS (h:xV (fr.ak p) _ _=_) (by simp);cases I
  |_=>rw[aa]at hp;exact absurd rfl hp
end
end Go.an
namespace Go.an
variable{X:Ctx}
section
variable{aI:Nat}{ops:be Oper}{x:bA}{o:Oper}{ι:bu}{fr aF:aO}{a:Act}{st st':ar}{w:d7}{v:bi}{call:bF}{b:dK}{bf:Bool->ac Frame}{k:ac Item}{i:Nat}{rest:ac Nat}
variable{cs:ac Frame}{s bo:Machine}{aU:bu}
def dK.panics(b:dK)(a:Act)(todo:ac Item)(v:bi):Frame:={b.at a todo with mode:=.panicking [{v,recovered:=false}]}
def aak(bR:m4 X aI ops x o=true)(dJ:mw X call)(al:ops[i]? =some o)(gd:Region.wanted o (yielded ops a.tmps)=true)(af:cE ι fr a aI)(hw:bx X ι st w)
 (gE:x.o.jh=true) (h:bG call x.o fr st= .aQ v st'):
 ∃aU v' w',Steps X.P (lone (b.at a (.inRegion ops (i::rest)::k)) cs w) (lone (b.panics a (.inRegion ops (i::rest)::k) v') cs w')∧bw aU v v'∧bx X aU st' w'∧e4 ι aU w w':=by
 have dD:=Fu bR;cases aa:x.o with
 |call f ps=>
  rw[aa]at h dD;obtain⟨g,args,ts,pq,hj⟩:=Yt dD;simp only[b1]at hj;obtain⟨rfl,bl⟩:=dc hj.1.1;obtain⟨rfl,bK⟩:=tC hj.1.2;have aG:dk.rec (motive:=fun _=>a1) (fun v st _=>.ok v fr st) (fun v st _=>.aQ v st) .no (call (fr.ak f) (dG fr args.toList) none st)=a1.aQ v st':=h;have po:b.bW=none∨∀c,o.op≠.defer c:=.inr (by rw[pq];simp);obtain⟨er,eJ,uU⟩:=dJ ι (fr.ak f) (dG fr args.toList) st (a.eval f) (args.toList.map a.eval) w (af.ak hw bl) (AY af hw _ bK) hw (by intro e;rw[e]at aG;cases aG);have Ea:(execOp a.eval o).run X.P w=((do let d<-Deferred.ofValue (a.eval f) (args.toList.map a.eval).toArray;invoke d.target d.args):Sem Next).run X.P w:=by
   unfold execOp;rw[pq];simp[resolve,<-Array.toList_map]
  cases hc:call (fr.ak f) (dG fr args.toList) none st with
  |aQ v1 cp eD=>
   rw[hc]at aG uU;have rW:a1.aQ v1 cp=a1.aQ v st':=aG;cases rW;obtain⟨aU,v',w',aE,en,ab,y4⟩:=uU (b.at a (.inRegion ops (i::rest)::k)) cs;have an5:(b.at a (.inRegion ops (i::rest)::k)).raise [{v:=v',recovered:=false}]=b.panics a (.inRegion ops (i::rest)::k) v':=rfl;rw[an5]at y4;refine⟨aU,v',w',?_,aE,en,ab⟩;cases eJ with
   |enter nk as ah=>exact .head (acR al gd po (by rw[Ea];exact ah)) y4
   |round l nk QE dt body ah=>exact .head (acS al gd po (by rw[Ea];exact ah)) y4
  |ret v1 cp eD=>rw[hc]at aG;cases aG
  |no=>rw[hc]at aG;cases aG
 |inv CG f ps=>rw[aa]at h;cases h
 |oX p=>
  rw[aa]at h dD;obtain⟨q,pq,hj⟩:=ao2 dD;obtain⟨rfl,bl⟩:=dc hj;obtain⟨t,adO,hp,I⟩:=QS (h:xV (fr.ak p) _ _=_) (by simp);have U:a1.aQ (.iface t adO) st=a1.aQ v st':=I;cases U;have aE:=af.ak hw bl;rw[hp]at aE;generalize lR:a.eval p=v9 at aE;cases aE with
  |iface _ _ avJ aoq=>
   refine⟨ι,.iface t avJ,w,.one (auM al gd (.inr (by rw[pq];simp)) ?_),.iface _ _ _ aoq,hw,.refl _ _⟩;unfold execOp;rw[pq];simp[lR,Instr.panic,Result.andThen]
 |_=>rw[aa]at gE;cases gE
def Gv(P:f5)(s:Machine)(b:dK)(a:Act)(k:ac Item)(cs:ac Frame)(w:d7)(aU:bu):dq->Prop
 |.norm=>Steps P s (lone (b.at a k) cs w)
 |.exit id=>∃hW,exitTo id hW=exitTo id k∧Steps P s (lone (b.at a (.code (.exit id)::hW)) cs w)
 |.ret=>∃hW,Steps P s (lone (b.at a (.code .ret::hW)) cs w)
 |.aQ v=>∃v' hW,bw aU v v'∧Steps P s (lone (b.panics a hW v') cs w)
def fD(X:Ctx)(b:dK)(aI:Nat)(bf:Bool->ac Frame)(s:Machine)(k:ac Item)(fr:aO)(ι:bu)(w:d7):ct->Prop
 |.out e aF st'=>∃aU a' w',cE aU aF a' aI∧bx X aU st' w'∧e4 ι aU w w'∧aF.aQ=fr.aQ∧aF.bW=fr.bW∧Gv X.P s b a' k (bf aF.cx) w' aU e
 |.no=>True
def Gv.head{P:f5}{e:dq}(h:Steps P s bo)(aG:Gv P bo b a k cs w aU e):Gv P s b a k cs w aU e:=by
 cases e with
 |norm=>exact h.trans aG
 |exit id=>obtain⟨hW,I,U⟩:=aG;exact⟨hW,I,h.trans U⟩
 |ret=>obtain⟨hW,U⟩:=aG;exact⟨hW,h.trans U⟩
 |aQ v=>obtain⟨v',hW,I,U⟩:=aG;exact⟨v',hW,I,h.trans U⟩
def fD.head{w':d7}{r:ct}(h:Steps X.P s bo)(ab:e4 ι aU w w')(hp:aF.aQ=fr.aQ)(aD:aF.bW=fr.bW)(aG:fD X b aI bf bo k aF aU w' r):fD X b aI bf s k fr ι w r:=by
 cases r with
 |no=>trivial
 |out e awz axv=>
  obtain⟨dF,a',ky,I,U,ag,au,a0,b5⟩:=aG;exact⟨dF,a',ky,I,U,ab.trans ag,au.trans hp,a0.trans aD,b5.head h⟩
def aio(x:bA)(xs:ac bA)(fr:aO)(st:ar):fT call (x::xs) fr st=
 gC fr x.g (a1.rec (motive:=fun _=>ct) (fun v fr st=>fT call xs (fr.put x.d v) st) (fun v st=>cond x.o.jh (.out (.aQ v) fr st) .no) .no (bG call x.o fr st))
  (fT call xs (fr.put x.d undef) st) .no:=rfl
def tJ(fr:aO)(d:am Tmp)(v:bi):(fr.put d v).aQ=fr.aQ∧(fr.put d v).bW=fr.bW∧(fr.put d v).cx=fr.cx∧(fr.put d v).cL=fr.cL:=by
 obtain⟨I,U,ag,au⟩:=sq fr d v;exact⟨U,au,ag,I⟩
theorem Jp(dJ:mw X call):∀(xs:ac bA) (l:ac Nat) (ι:bu) (fr:aO) (a:Act) (st:ar) (w:d7),xs.length=l.length->
 (∀(j:Nat) (x:bA) (i:Nat),xs[j]? =some x->l[j]? =some i->∃o,ops[i]? =some o∧m4 X aI ops x o=true)->
 cE ι fr a aI->bx X ι st w->ow ι fr.bW b.bW->j0 b fr.aQ ι bf->
 fD X b aI bf (lone (b.at a (.inRegion ops l::k)) (bf fr.cx) w) k fr ι w (fT call xs fr st)
 |[],[],ι,fr,a,st,w,_,_,af,hw,_,_=>⟨ι,a,w,af,hw,.refl _ _,rfl,rfl,.one acU⟩
 |[],_::_,_,_,_,_,_,h,_,_,_,_,_=>by simp at h
 |_::_,[],_,_,_,_,_,h,_,_,_,_,_=>by simp at h
 |x::xs,i::l,ι,fr,a,st,w,hl,dZ,af,hw,hb,aD=>by
  obtain⟨o,al,bR⟩:=dZ 0 x i rfl rfl;have HV:∀(j:Nat) (x:bA) (i:Nat),xs[j]? =some x->l[j]? =some i->∃o,ops[i]? =some o∧m4 X aI ops x o=true:=fun j x i I U=>dZ (j+1) x i I U;have cC:xs.length=l.length:=by simpa using hl
  obtain⟨k7,lz⟩:=Jo bR;rw[aio];generalize aM:gC fr x.g _ _ _=r;by_cases gG:r= .no
  ·rw[gG];trivial
  rcases adT bR af aM (fun e=>gG e.symm)with⟨e,gd⟩|⟨e,gd⟩
  ·cases gv:bG call x.o fr st with
   |ok v dC cp=>
    rw[gv]at e;have bS:fT call xs (dC.put x.d v) cp=r:=e;obtain⟨aU,a',w',ah,dN,en,ab,hp,pv,_⟩:=aaj (k:=k) (rest:=l) bR dJ al gd af hw hb aD gv;obtain⟨cO,cS,et,kr⟩:=tJ dC x.d v;have pt:=Jp dJ xs l aU (dC.put x.d v) a' cp w' cC HV dN en (by rw[cS,pv];exact hb.mono ab.le) (by rw[cO,hp];exact aD.mono ab.le);rw[<-bS];rw[et]at pt;exact fD.head ah ab (cO.trans hp) (cS.trans pv) pt
   |aQ v cp=>
    rw[gv]at e;have bS:cond x.o.jh (.out (.aQ v) fr cp) .no=r:=e;obtain⟨gE,e2⟩:=jj bS (fun e=>gG e.symm);obtain⟨aU,v',w',ah,aE,en,ab⟩:=aak (b:=b) (k:=k) (rest:=l) (cs:=bf fr.cx) bR dJ al gd af hw gE gv;rw[<-e2];exact⟨aU,a,w',af.mono ab.le,en,ab,rfl,rfl,v',_,aE,ah⟩
   |no=>rw[gv]at e;exact absurd (e:ct.no=r).symm gG
  ·obtain⟨cO,cS,et,kr⟩:=tJ fr x.d undef;have pt:=Jp dJ xs l ι (fr.put x.d undef) (a.put o.dst undef) st w cC HV (by rw[<-k7];exact af.put lz (bw.undef ι)) hw (by rw[cS];exact hb) (by rw[cO];exact aD);rw[<-e];rw[et]at pt;exact fD.head (.one (Kw al gd)) (.refl _ _) cO cS pt
end
end Go.an
namespace Go.an
variable{X:Ctx}{call:bF}
def lJ(fr:aO)(g:am (Tmp×Bool))(b:Bool):Prop:=gC fr g (some true) (some false) none=some b
variable{β:Type}
def Gk{α:Type}{fr:aO}{g:am (Tmp×Bool)}{yes h7 z r:α}(h:gC fr g yes h7 z=r)(ax:z≠r):(lJ fr g true∧yes=r)∨(lJ fr g false∧h7=r):=by
 unfold lJ;cases g with
 |none=>exact .inl ⟨rfl,h⟩
 |some p=>
  have aG:mu (fr.tmp p.1) (fun b=>cond b (cond p.2 yes h7) (cond p.2 h7 yes)) (rD (fr.tmp p.1) (fun _=>h7) z)=r:=h;show(mu (fr.tmp p.1) (fun b=>cond b (cond p.2 (some true) (some false)) (cond p.2 (some false) (some true))) (rD (fr.tmp p.1) (fun _=>some false) none)=some true∧_)∨
   (mu (fr.tmp p.1) (fun b=>cond b (cond p.2 (some true) (some false)) (cond p.2 (some false) (some true))) (rD (fr.tmp p.1) (fun _=>some false) none)=some false∧_)
  generalize fr.tmp p.1=QF at aG;cases QF with
  |bool qE=>
   have U:cond qE (cond p.2 yes h7) (cond p.2 h7 yes)=r:=aG;show(cond qE (cond p.2 (some true) (some false)) (cond p.2 (some false) (some true))=some true∧_)∨(cond qE (cond p.2 (some true) (some false)) (cond p.2 (some false) (some true))=some false∧_);cases qE<;>cases hp:p.2<;>rw[hp]at U
   ·exact .inl ⟨rfl,U⟩
   ·exact .inr ⟨rfl,U⟩
   ·exact .inr ⟨rfl,U⟩
   ·exact .inl ⟨rfl,U⟩
  |tuple xs=>exact .inr ⟨rfl,aG⟩
  |_=>exact absurd aG ax
def Fs(t:aq bi)(ts:ac Tmp):aq bi:=kp t ts fun m=>m
def aO.only(fr:aO)(ts:ac Tmp):aO:=⟨Fs fr.t ts,[],none,false,none⟩
def pD(t:aq bi)(ts:ac Tmp)(k:aq bi->β)(m:aq bi):β:=
 List.rec (motive:=fun _=>aq bi->β) (fun m=>k m) (fun x _ ba m=>bp (t.get x) (fun v=>aq.jd (Nat.succ x) m x v ba) (ba m)) ts m
theorem O1{β:Type}(t:aq bi)(k:aq bi->β):∀(ts:ac Tmp) (m:aq bi),pD t ts k m=k (pD t ts (fun m=>m) m)
 |[],_=>rfl
 |x::ts,m=>by
  show bp (t.get x) (fun v=>aq.jd (Nat.succ x) m x v (pD t ts k)) (pD t ts k m)=k (bp (t.get x) (fun v=>aq.jd (Nat.succ x) m x v (pD t ts fun m=>m)) (pD t ts (fun m=>m) m));cases t.get x with
  |none=>exact O1 t k ts m
  |some v=>
   show aq.jd (Nat.succ x) m x v (pD t ts k)=k (aq.jd (Nat.succ x) m x v (pD t ts fun m=>m));rw[aq.zQ,aq.zQ];exact O1 t k ts _
def pC(t:aq bi)(ts:ac Tmp)(k:aq bi->β):kp t ts k=k (Fs t ts):=O1 t k ts .nil
theorem O2(t:aq bi):∀(ts:ac Tmp) (m:aq bi) (j:Nat),(pD t ts (fun m=>m) m).get j=if j∈ts∧(t.get j).isSome then t.get j else m.get j
 |[],m,j=>by rw[zaa (by simp)];rfl
 |x::ts,m,j=>by
  show(bp (t.get x) (fun v=>aq.jd (Nat.succ x) m x v (pD t ts fun m=>m)) (pD t ts (fun m=>m) m)).get j=_;cases aa:t.get x with
  |none=>
   show(pD t ts (fun m=>m) m).get j=_;rw[O2 t ts m j];by_cases hj:j=x
   ·subst hj;simp[aa]
   ·simp[zah,hj]
  |some v=>
   show(aq.jd (Nat.succ x) m x v (pD t ts fun m=>m)).get j=_;rw[aq.zQ,O2 t ts _ j,aq.eI];by_cases hj:j=x
   ·subst hj;simp[aa]
   ·simp[zah,hj]
def ZP(fr:aO)(ts:ac Tmp)(j:Nat):(fr.only ts).tmp j=if j∈ts then fr.tmp j else js:=by
 have h:=O2 fr.t ts .nil j;have e:(fr.only ts).t.get j=(pD fr.t ts (fun m=>m) .nil).get j:=rfl;show Option.rec (motive:=fun _=>bi) (.chan (some 0)) (fun v=>v) ((fr.only ts).t.get j)=_;rw[e,h];by_cases hj:j∈ts
 ·rw[zab hj];cases aM:fr.t.get j with
  |none=>rw[zaa (by simp),aq.get_nil];simp[aO.tmp,aM]
  |some v=>rw[zab ⟨hj,rfl⟩];simp[aO.tmp,aM]
 ·rw[zaa (fun h=>hj h.1),zaa hj,aq.get_nil];rfl
theorem aaD:∀(ts:ac Tmp) (fr:aO),(∀j,(ql fr ts).tmp j=if j∈ts then js else fr.tmp j)∧(ql fr ts).aQ=fr.aQ∧(ql fr ts).bW=fr.bW∧(ql fr ts).cx=fr.cx∧(ql fr ts).cL=fr.cL
 |[],fr=>⟨fun j=>by simp[ql],rfl,rfl,rfl,rfl⟩
 |t::ts,fr=>by
  obtain⟨I,U,ag,au,a0⟩:=aaD ts (fr.put (some t) js);obtain⟨cO,cS,et,kr⟩:=tJ fr (some t) js;refine⟨fun j=> ?_,U.trans cO,ag.trans cS,au.trans et,a0.trans kr⟩;show(ql (fr.put (some t) js) ts).tmp j=_;rw[I j,sG];by_cases hj:j∈ts
  ·rw[zab hj,zab (zaC _ hj)]
  ·rw[zaa hj];by_cases e:t=j
   ·subst e;simp
   ·have:j≠t:=fun h=>e h.symm;simp[e,hj,this]
theorem ab6{o:da}{fr:aO}{v:bi}{ai:Nat}:∀(n:Nat) (ah:ac (aq bB)),sameAt call o fr v ai n ah=true->∀j,j<n->∃h aF st',ah[j]? =some h∧bG call o fr ⟨h,ai⟩= .ok v aF st'
 |0,_,_,j,hj=>by omega
 |n+1,[],h,_,_=>by cases h
 |n+1,h::ah,hh,j,hj=>by
  have Bi:a1.rec (motive:=fun _=>Bool) (fun v' _ _=>cond (dM v v') (sameAt call o fr v ai n ah) false) (fun _ _=>false) false (bG call o fr ⟨h,ai⟩)=true:=hh;cases he:bG call o fr ⟨h,ai⟩with
  |ok v' aF st'=>
   rw[he]at Bi;have U:cond (dM v v') (sameAt call o fr v ai n ah) false=true:=Bi;obtain⟨ag,au⟩:=jj U (by simp);have:=nO _ _ ag;subst this;cases j with
   |zero=>exact⟨h,aF,st',rfl,he⟩
   |succ j=>
    obtain⟨aG,nk,bo,a0,b5⟩:=ab6 n ah au j (by omega);exact⟨aG,nk,bo,by simpa using a0,b5⟩
  |aQ _ _=>rw[he]at Bi;cases Bi
  |no=>rw[he]at Bi;cases Bi
def DStep(call:bF)(x:bA)(c:cD)(fr:aO)(st:ar)(N:ac (aq bB))(v:bi)(dC:aO)(cp:ar)(m9:ac (aq bB)):Prop:=
 match c with
 |.dY=>((lJ fr x.g false∨(lJ fr x.g true∧∃u bo,bG call x.o fr st= .aQ u bo))∧v=undef∧dC=fr.put x.d undef∧cp=st∧m9=st.h::N)∨
  (lJ fr x.g true∧∃aF,bG call x.o fr st= .ok v aF cp∧st.ai<=cp.ai∧dC=aO.put ⟨fr.t,aF.cL,aF.aQ,aF.cx,aF.bW⟩ x.d v∧m9=cp.h::N)
 |.hZ ts=>dC=fr.put x.d v∧m9=N∧((lJ (fr.only ts) x.g false∧v=undef∧cp=st)∨(lJ (fr.only ts) x.g true∧∃aF,bG call x.o (fr.only ts) st= .ok v aF cp))
 |.read back ts=>dC=fr.put x.d v∧m9=N∧cp=st∧((lJ (fr.only ts) x.g false∧v=undef)∨(lJ (fr.only ts) x.g true∧sameAt call x.o (fr.only ts) v st.ai (Nat.succ back) N=true))
def Ae(call:bF)(x:bA)(c:cD)(fr:aO)(st:ar):Prop:=c= .dY->lJ fr x.g true->∀u bo,bG call x.o fr st≠.aQ u bo
variable{fr:aO}
def av4{g:am (Tmp×Bool)}(h:lJ fr g false)(aG:lJ fr g true):False:=by
 unfold lJ at h aG;rw[h]at aG;cases aG
def aik{x:bA}{c:cD}{L:ac (bA×cD)}{N:ac (aq bB)}{st:ar}{e:dq}{aF:aO}{st':ar}{cQ:sK}(h:ga call cQ ((x,c)::L) N fr st= .out e aF st'):
 (∃v dC cp m9,DStep call x c fr st N v dC cp m9∧Ae call x c fr st∧ga call cQ L m9 dC cp= .out e aF st')∨
 (c= .dY∧lJ fr x.g true∧x.o.jh=true∧aF=fr∧cQ L (st.h::N) (fr.put x.d undef) st=true∧∃u,e= .aQ u∧bG call x.o fr st= .aQ u st'):=by
 cases c with
 |dY=>
  have aG:gC fr x.g (a1.rec (motive:=fun _=>ct) (fun v aF st'=>eh st.ai st'.ai (ga call cQ L (st'.h::N) (aO.put ⟨fr.t,aF.cL,aF.aQ,aF.cx,aF.bW⟩ x.d v) st') .no) (fun v st'=>cond x.o.jh (cond (cQ L (st.h::N) (fr.put x.d undef) st) (.out (.aQ v) fr st') .no) .no) .no (bG call x.o fr st))
   (ga call cQ L (st.h::N) (fr.put x.d undef) st) .no= .out e aF st':=h
  rcases Gk aG (by simp)with⟨I,U⟩|⟨I,U⟩
  ·cases he:bG call x.o fr st with
   |ok v j2 cc=>
    rw[he]at U;obtain⟨ag,au⟩:=kb (U:eh st.ai cc.ai _ _=_) (by simp);exact .inl ⟨v,aO.put ⟨fr.t,j2.cL,j2.aQ,j2.cx,j2.bW⟩ x.d v,cc,cc.h::N,.inr ⟨I,j2,he,ag,rfl,rfl⟩,(fun _ _ u bo hu=>by rw[he]at hu;cases hu),au⟩
   |aQ u bo=>
    rw[he]at U;obtain⟨ag,au⟩:=jj (U:cond _ _ _=_) (by simp);obtain⟨a0,b5⟩:=jj (au:cond _ _ _=_) (by simp);have b5:ct.out (.aQ u) fr bo= .out e aF st':=b5;cases b5;exact .inr ⟨rfl,I,ag,rfl,a0,u,rfl,rfl⟩
   |no=>rw[he]at U;cases U
  ·exact .inl ⟨undef,fr.put x.d undef,st,st.h::N,.inl ⟨.inl I,rfl,rfl,rfl,rfl⟩,(fun _ aV=>(av4 I aV).elim),U⟩
 |hZ ts=>
  have aG:kp fr.t ts (fun t=>gC ⟨t,[],none,false,none⟩ x.g
   (a1.rec (motive:=fun _=>ct) (fun v _ st'=>ga call cQ L N (fr.put x.d v) st') (fun _ _=>.no) .no (bG call x.o ⟨t,[],none,false,none⟩ st))
   (ga call cQ L N (fr.put x.d undef) st) .no)= .out e aF st':=h
  rw[pC]at aG;have rW:gC (fr.only ts) x.g (a1.rec (motive:=fun _=>ct) (fun v _ st'=>ga call cQ L N (fr.put x.d v) st') (fun _ _=>.no) .no (bG call x.o (fr.only ts) st))
   (ga call cQ L N (fr.put x.d undef) st) .no= .out e aF st':=aG
  rcases Gk rW (by simp)with⟨I,U⟩|⟨I,U⟩
  ·cases he:bG call x.o (fr.only ts) st with
   |ok v j2 cc=>
    rw[he]at U;exact .inl ⟨v,fr.put x.d v,cc,N,⟨rfl,rfl,.inr ⟨I,j2,he⟩⟩,(fun h=>by cases h),U⟩
   |aQ _ _=>rw[he]at U;cases U
   |no=>rw[he]at U;cases U
  ·exact .inl ⟨undef,fr.put x.d undef,st,N,⟨rfl,rfl,.inl ⟨I,rfl,rfl⟩⟩,(fun h=>by cases h),U⟩
 |read back ts=>
  have aG:kp fr.t ts (fun t=>gC ⟨t,[],none,false,none⟩ x.g
   (a1.rec (motive:=fun _=>ct) (fun v _ _=>cond (sameAt call x.o ⟨t,[],none,false,none⟩ v st.ai (Nat.succ back) N) (ga call cQ L N (fr.put x.d v) st) .no) (fun _ _=>.no) .no (bG call x.o ⟨t,[],none,false,none⟩ st))
   (ga call cQ L N (fr.put x.d undef) st) .no)= .out e aF st':=h
  rw[pC]at aG;have rW:gC (fr.only ts) x.g (a1.rec (motive:=fun _=>ct) (fun v _ _=>cond (sameAt call x.o (fr.only ts) v st.ai (Nat.succ back) N) (ga call cQ L N (fr.put x.d v) st) .no) (fun _ _=>.no) .no (bG call x.o (fr.only ts) st))
   (ga call cQ L N (fr.put x.d undef) st) .no= .out e aF st':=aG
  rcases Gk rW (by simp)with⟨I,U⟩|⟨I,U⟩
  ·cases he:bG call x.o (fr.only ts) st with
   |ok v j2 cc=>
    rw[he]at U;obtain⟨ag,au⟩:=jj (U:cond _ _ _=_) (by simp);exact .inl ⟨v,fr.put x.d v,st,N,⟨rfl,rfl,rfl,.inr ⟨I,ag⟩⟩,(fun h=>by cases h),au⟩
   |aQ _ _=>rw[he]at U;cases U
   |no=>rw[he]at U;cases U
  ·exact .inl ⟨undef,fr.put x.d undef,st,N,⟨rfl,rfl,rfl,.inl ⟨I,rfl⟩⟩,(fun h=>by cases h),U⟩
def Gt(x:bA)(c:cD)(fr:aO)(st:ar)(N:ac (aq bB))(v:bi)(dC:aO)(cp:ar)(m9:ac (aq bB)):Prop:=v=undef∧dC=fr.put x.d undef∧cp=st∧m9=(match c with|.dY=>st.h::N|_=>N)
structure kz(call:bF)(Z:Nat->Bool)(L:ac (bA×cD))(fq:ac (aq bB))(fr:aO)(st:ar)(aF:aO)(st':ar)(F:Nat->aO)(T:Nat->ar)(N:Nat->ac (aq bB))(V:Nat->bi):Prop where
 f0:F 0=fr
 t0:T 0=st
 tu:N 0=fq
 fn:F L.length=aF
 axz:T L.length=st'
 step:∀p x c,L[p]? =some (x,c)->(Z p=false∧DStep call x c (F p) (T p) (N p) (V p) (F (p+1)) (T (p+1)) (N (p+1)))∨(Z p=true∧Gt x c (F p) (T p) (N p) (V p) (F (p+1)) (T (p+1)) (N (p+1)))
def K2(call:bF)(Z:Nat->Bool)(L:ac (bA×cD))(F:Nat->aO)(T:Nat->ar)(n:Nat):Prop:=∀p x c,p≠n->Z p=false->L[p]? =some (x,c)->Ae call x c (F p) (T p)
def ad3(call:bF)(ms:ac Nat)(Z:Nat->Bool)(L:ac (bA×cD))(F:Nat->aO)(T:Nat->ar)(e:dq)(aF:aO)(st':ar):Prop:=
 (e= .norm∧(∀p,Z p=false)∧K2 call Z L F T L.length∧F L.length=aF∧T L.length=st')∨
 (∃n x u,L[n]? =some (x,.dY)∧(∀p,Z p=true->n<p∧(ms.getD p 0).testBit n=true)∧K2 call Z L F T n∧lJ (F n) x.g true∧x.o.jh=true∧aF=F n∧e= .aQ u∧bG call x.o (F n) (T n)= .aQ u st')
theorem TD{cQ:sK}{e:dq}{aF:aO}{st':ar}:∀(L:ac (bA×cD)) (fq:ac (aq bB)) (fr:aO) (st:ar),ga call cQ L fq fr st= .out e aF st'->∃(F:Nat->aO) (T:Nat->ar) (N:Nat->ac (aq bB)) (V:Nat->bi),(F 0=fr∧T 0=st∧N 0=fq)∧
 ((e= .norm∧F L.length=aF∧T L.length=st'∧∀p x c,L[p]? =some (x,c)->DStep call x c (F p) (T p) (N p) (V p) (F (p+1)) (T (p+1)) (N (p+1))∧Ae call x c (F p) (T p))∨
  (∃n x u,L[n]? =some (x,.dY)∧(∀p x c,p<n->L[p]? =some (x,c)->DStep call x c (F p) (T p) (N p) (V p) (F (p+1)) (T (p+1)) (N (p+1))∧Ae call x c (F p) (T p))∧lJ (F n) x.g true∧x.o.jh=true∧aF=F n∧e= .aQ u∧bG call x.o (F n) (T n)= .aQ u st'∧
   cQ (L.drop (n+1)) ((T n).h::N n) ((F n).put x.d undef) (T n)=true))
 |[],fq,fr,st,h=>by
  have aG:ct.out .norm fr st= .out e aF st':=h;cases aG;exact⟨fun _=>aF,fun _=>st',fun _=>fq,fun _=>undef,⟨rfl,rfl,rfl⟩,.inl ⟨rfl,rfl,rfl,fun p x c hp=>by simp at hp⟩⟩
 |(x,c)::L,fq,fr,st,h=>by
  rcases aik h with⟨v,dC,cp,m9,ay,n8,I⟩|⟨rfl,hw,gE,rfl,gu,u,rfl,gv⟩
  ·obtain⟨F,T,N,V,⟨f0,t0,tu⟩,yM⟩:=TD L m9 dC cp I;refine⟨fun p=>Nat.casesOn p fr F,fun p=>Nat.casesOn p st T,fun p=>Nat.casesOn p fq N,fun p=>Nat.casesOn p v V,⟨rfl,rfl,rfl⟩,?_⟩;have h0:∀eT bL,((x,c)::L)[0]? =some (eT,bL)->DStep call eT bL fr st fq v (F 0) (T 0) (N 0)∧Ae call eT bL fr st:=fun eT bL hp=>by
    have:(x,c)=(eT,bL):=by simpa using hp
    cases this;rw[f0,t0,tu];exact⟨ay,n8⟩
   rcases yM with⟨he,az,e2,ah⟩|⟨n,y,w,g1,ah,aP,bd,cu,dh,ey,gp⟩
   ·refine .inl ⟨he,az,e2,fun p eT bL hp=> ?_⟩;cases p with
    |zero=>exact h0 eT bL hp
    |succ p=>exact ah p eT bL (by simpa using hp)
   ·refine .inr ⟨n+1,y,w,by simpa using g1,fun p eT bL n9 hp=> ?_,aP,bd,cu,dh,ey,by simpa using gp⟩;cases p with
    |zero=>exact h0 eT bL hp
    |succ p=>exact ah p eT bL (by omega) (by simpa using hp)
  ·exact⟨fun _=>aF,fun _=>st,fun _=>fq,fun _=>undef,⟨rfl,rfl,rfl⟩,.inr ⟨0,x,u,rfl,fun p _ _ hp=>by omega,hw,gE,rfl,rfl,gv,gu⟩⟩
def SQ{a b c:Bool}(h:cond a b c=true):(a=true∧b=true)∨(a=false∧c=true):=by
 cases a
 ·exact .inr ⟨rfl,h⟩
 ·exact .inl ⟨rfl,h⟩
theorem SF{ms:ac Nat}{n:Nat}:∀(M:ac (bA×cD)) (p:Nat) (fq:ac (aq bB)) (fr:aO) (st:ar),kg call ms n M p fq fr st=true->∃(F:Nat->aO) (T:Nat->ar) (N:Nat->ac (aq bB)) (V:Nat->bi),(F 0=fr∧T 0=st∧N 0=fq)∧
 ∀q x c,M[q]? =some (x,c)->((ms.getD (p+q) 0).testBit n=false∧DStep call x c (F q) (T q) (N q) (V q) (F (q+1)) (T (q+1)) (N (q+1))∧c≠.dY)∨((ms.getD (p+q) 0).testBit n=true∧Gt x c (F q) (T q) (N q) (V q) (F (q+1)) (T (q+1)) (N (q+1)))
 |[],p,fq,fr,st,_=>⟨fun _=>fr,fun _=>st,fun _=>fq,fun _=>undef,⟨rfl,rfl,rfl⟩,fun q x c hq=>by simp at hq⟩
 |(x,c)::M,p,fq,fr,st,h=>by
  have key:∃v dC cp m9,kg call ms n M (p+1) m9 dC cp=true∧(((ms.getD p 0).testBit n=false∧DStep call x c fr st fq v dC cp m9∧c≠.dY)∨((ms.getD p 0).testBit n=true∧Gt x c fr st fq v dC cp m9)):=by
   rcases SQ (h:cond _ _ _=true)with⟨hb,I⟩|⟨hb,I⟩
   ·cases c with
    |dY=>exact⟨undef,_,_,_,I,.inr ⟨hb,rfl,rfl,rfl,rfl⟩⟩
    |hZ ts=>exact⟨undef,_,_,_,I,.inr ⟨hb,rfl,rfl,rfl,rfl⟩⟩
    |read back ts=>exact⟨undef,_,_,_,I,.inr ⟨hb,rfl,rfl,rfl,rfl⟩⟩
   ·cases c with
    |dY=>cases I
    |hZ ts=>
     have U:kp fr.t ts (fun t=>gC ⟨t,[],none,false,none⟩ x.g
      (a1.rec (motive:=fun _=>Bool) (fun v _ st'=>kg call ms n M (p+1) fq (fr.put x.d v) st') (fun _ _=>false) false (bG call x.o ⟨t,[],none,false,none⟩ st))
      (kg call ms n M (p+1) fq (fr.put x.d undef) st) false)=true:=I
     rw[pC]at U;rcases Gk U (by simp)with⟨g1,aP⟩|⟨g1,aP⟩
     ·cases he:bG call x.o (fr.only ts) st with
      |ok v j2 cc=>
       have aP:a1.rec (motive:=fun _=>Bool) (fun v _ st'=>kg call ms n M (p+1) fq (fr.put x.d v) st') (fun _ _=>false) false (bG call x.o (fr.only ts) st)=true:=aP;rw[he]at aP;exact⟨v,_,cc,fq,aP,.inl ⟨hb,⟨rfl,rfl,.inr ⟨g1,j2,he⟩⟩,by simp⟩⟩
      |aQ _ _=>
       have aP:a1.rec (motive:=fun _=>Bool) (fun v _ st'=>kg call ms n M (p+1) fq (fr.put x.d v) st') (fun _ _=>false) false (bG call x.o (fr.only ts) st)=true:=aP;rw[he]at aP;cases aP
      |no=>
       have aP:a1.rec (motive:=fun _=>Bool) (fun v _ st'=>kg call ms n M (p+1) fq (fr.put x.d v) st') (fun _ _=>false) false (bG call x.o (fr.only ts) st)=true:=aP;rw[he]at aP;cases aP
     ·exact⟨undef,_,st,fq,aP,.inl ⟨hb,⟨rfl,rfl,.inl ⟨g1,rfl,rfl⟩⟩,by simp⟩⟩
    |read back ts=>
     have U:kp fr.t ts (fun t=>gC ⟨t,[],none,false,none⟩ x.g
      (a1.rec (motive:=fun _=>Bool) (fun v _ _=>cond (sameAt call x.o ⟨t,[],none,false,none⟩ v st.ai (Nat.succ back) fq) (kg call ms n M (p+1) fq (fr.put x.d v) st) false) (fun _ _=>false) false (bG call x.o ⟨t,[],none,false,none⟩ st))
      (kg call ms n M (p+1) fq (fr.put x.d undef) st) false)=true:=I
     rw[pC]at U;rcases Gk U (by simp)with⟨g1,aP⟩|⟨g1,aP⟩
     ·have aP:a1.rec (motive:=fun _=>Bool) (fun v _ _=>cond (sameAt call x.o (fr.only ts) v st.ai (Nat.succ back) fq) (kg call ms n M (p+1) fq (fr.put x.d v) st) false) (fun _ _=>false) false (bG call x.o (fr.only ts) st)=true:=aP;cases he:bG call x.o (fr.only ts) st with
      |ok v j2 cc=>
       rw[he]at aP;rcases SQ (aP:cond _ _ _=true)with⟨bd,cu⟩|⟨_,cu⟩
       ·exact⟨v,_,st,fq,cu,.inl ⟨hb,⟨rfl,rfl,rfl,.inr ⟨g1,bd⟩⟩,by simp⟩⟩
       ·cases cu
      |aQ _ _=>rw[he]at aP;cases aP
      |no=>rw[he]at aP;cases aP
     ·exact⟨undef,_,st,fq,aP,.inl ⟨hb,⟨rfl,rfl,rfl,.inl ⟨g1,rfl⟩⟩,by simp⟩⟩
  obtain⟨v,dC,cp,m9,I,ah⟩:=key;obtain⟨F,T,N,V,⟨f0,t0,tu⟩,eJ⟩:=SF M (p+1) m9 dC cp I;refine⟨fun p=>Nat.casesOn p fr F,fun p=>Nat.casesOn p st T,fun p=>Nat.casesOn p fq N,fun p=>Nat.casesOn p v V,⟨rfl,rfl,rfl⟩,fun q eT bL hq=> ?_⟩;cases q with
  |zero=>
   have:(x,c)=(eT,bL):=by simpa using hq
   cases this;show(_∧DStep call x c fr st fq v (F 0) (T 0) (N 0)∧_)∨(_∧Gt x c fr st fq v (F 0) (T 0) (N 0));rw[f0,t0,tu];exact ah
  |succ q=>
   have:=eJ q eT bL (by simpa using hq);rw[show p+(q+1)=p+1+q by omega];exact this
def ail{ms:ac Nat}(L:ac (bA×cD))(fq:ac (aq bB))(fr:aO)(st:ar)(e:dq)(aF:aO)(st':ar)(h:ga call (qK call ms (dd L)) L fq fr st= .out e aF st'):∃Z F T N V,kz call Z L fq fr st (F L.length) (T L.length) F T N V∧ad3 call ms Z L F T e aF st':=by
 obtain⟨F,T,N,V,⟨f0,t0,tu⟩,yM⟩:=TD L fq fr st h;rcases yM with⟨he,az,e2,ah⟩|⟨n,x,u,g1,ah,aP,bd,cu,dh,ey,gp⟩
 ·exact⟨fun _=>false,F,T,N,V,⟨f0,t0,tu,rfl,rfl,fun p x c hp=>.inl ⟨rfl,(ah p x c hp).1⟩⟩,.inl ⟨he,fun _=>rfl,fun p x c _ _ hp=>(ah p x c hp).2,az,e2⟩⟩
 ·have hn:=(zac.1 g1).1;have gp:kg call ms (L.length-(L.drop (n+1)).length.succ) (L.drop (n+1)) (L.length-(L.drop (n+1)).length) ((T n).h::N n) ((F n).put x.d undef) (T n)=true:=by
   have:=gp;unfold qK at this;rw[fe,fe]at this;exact this
  rw[zaz,show L.length-(L.length-(n+1)).succ=n by omega,show L.length-(L.length-(n+1))=n+1 by omega]at gp;obtain⟨jg,K7,K0,Lb,⟨f2,t2,gH⟩,j8⟩:=SF _ _ _ _ _ gp
  let Z:Nat->Bool:=fun p=>decide (n<p)&&(ms.getD p 0).testBit n
  let KX:Nat->aO:=fun p=>if p<=n then F p else jg (p-(n+1))
  let K9:Nat->ar:=fun p=>if p<=n then T p else K7 (p-(n+1))
  let K1:Nat->ac (aq bB):=fun p=>if p<=n then N p else K0 (p-(n+1))
  let GF:Nat->bi:=fun p=>if p<n then V p else if p=n then undef else Lb (p-(n+1))
  have aK:∀p,p<=n->KX p=F p∧K9 p=T p∧K1 p=N p:=fun p hp=>⟨zab hp,zab hp,zab hp⟩;have ae:∀r,KX (n+1+r)=jg r∧K9 (n+1+r)=K7 r∧K1 (n+1+r)=K0 r:=fun r=>by
   have e:n+1+r-(n+1)=r:=by omega
   refine⟨?_,?_,?_⟩
   ·show(if n+1+r<=n then _ else jg (n+1+r-(n+1)))=_;rw[zaa (by omega),e]
   ·show(if n+1+r<=n then _ else K7 (n+1+r-(n+1)))=_;rw[zaa (by omega),e]
   ·show(if n+1+r<=n then _ else K0 (n+1+r-(n+1)))=_;rw[zaa (by omega),e]
  have ad1:∀p,p<=n->Z p=false:=fun p hp=>by
   show(decide (n<p)&&_)=false;rw[zad (by omega)];rfl
  have ad0:∀r,Z (n+1+r)=(ms.getD (n+1+r) 0).testBit n:=fun r=>by
   show(decide (n<n+1+r)&&_)=_;rw[zae (by omega)];rfl
  refine⟨Z,KX,K9,K1,GF,⟨(aK 0 (zaf _)).1.trans f0,(aK 0 (zaf _)).2.1.trans t0,(aK 0 (zaf _)).2.2.trans tu,rfl,rfl,fun p y c hp=> ?_⟩,.inr ⟨n,x,u,g1,fun p hp=> ?_,fun p y c n9 ax hp=> ?_,?_,bd,?_,dh,?_⟩⟩
  ·rcases zcq p n with aT|rfl|ani
   ·obtain⟨eW,eQ,nd⟩:=aK p (by omega);obtain⟨c1,dx,j1⟩:=aK (p+1) (by omega);have aE:GF p=V p:=zab aT;rw[eW,eQ,nd,c1,dx,j1,aE];exact .inl ⟨ad1 p (by omega),(ah p y c aT hp).1⟩
   ·obtain⟨eW,eQ,nd⟩:=aK p (cf _);obtain⟨c1,dx,j1⟩:=ae 0;have aE:GF p=undef:=by
     show(if p<p then _ else if p=p then _ else _)=_;rw[zaa (Nat.lt_irrefl p),zab rfl]
    rw[g1]at hp;cases hp;rw[show p+1+0=p+1 from rfl]at c1 dx j1;rw[eW,eQ,nd,c1,dx,j1,aE,f2,t2,gH];exact .inl ⟨ad1 p (cf _),.inl ⟨.inr ⟨aP,u,_,ey⟩,rfl,rfl,rfl,rfl⟩⟩
   ·obtain⟨r,rfl⟩:∃r,p=n+1+r:=⟨p-(n+1),by omega⟩;obtain⟨eW,eQ,nd⟩:=ae r;obtain⟨c1,dx,j1⟩:=ae (r+1);have aE:GF (n+1+r)=Lb r:=by
     show(if n+1+r<n then _ else if n+1+r=n then _ else Lb (n+1+r-(n+1)))=_;rw[zaa (by omega),zaa (by omega),show n+1+r-(n+1)=r by omega]
    rw[show n+1+(r+1)=n+1+r+1 from rfl]at c1 dx j1;rw[eW,eQ,nd,c1,dx,j1,aE,ad0 r];rcases j8 r y c (by rw[zaw];exact hp)with⟨rG,vL,_⟩|⟨rG,vL⟩
    ·exact .inl ⟨rG,vL⟩
    ·exact .inr ⟨rG,vL⟩
  ·have hp:(decide (n<p)&&(ms.getD p 0).testBit n)=true:=hp;rw[zcg,decide_eq_true_eq]at hp;exact hp
  ·rcases zcq p n with aT|rfl|ani
   ·obtain⟨eW,eQ,_⟩:=aK p (by omega);rw[eW,eQ];exact(ah p y c aT hp).2
   ·exact absurd rfl n9
   ·obtain⟨r,rfl⟩:∃r,p=n+1+r:=⟨p-(n+1),by omega⟩;rw[ad0 r]at ax;rcases j8 r y c (by rw[zaw];exact hp)with⟨_,_,z9⟩|⟨rG,_⟩
    ·exact fun hc=>absurd hc z9
    ·rw[ax]at rG;cases rG
  ·rw[(aK n (cf _)).1];exact aP
  ·rw[(aK n (cf _)).1];exact cu
  ·rw[(aK n (cf _)).1,(aK n (cf _)).2.1];exact ey
def aru{α:Type}(l:ac α)(n:Nat)(vs:ac α):(∃out,∀(k:ac α->a1),rm l n vs k .no=k out)∨(∀k:ac α->a1,rm l n vs k .no= .no):=by
 by_cases h:n+vs.length<=l.length
 ·exact .inl ⟨_,fun k=>by rw[rn,zab h]⟩
 ·by_cases U:vs=[]
  ·exact .inl ⟨l,fun k=>by rw[rn,zaa h,zab U]⟩
  ·exact .inr fun k=>by rw[rn,zaa h,zaa U]
theorem TM(fr:aO):∀(ps:ac (Nat×Nat×bv)) (cs:ac bi),(∃out,∀c,pe fr ps cs c=c out)∨(∀c,pe fr ps cs c= .no)
 |[],cs=>.inl ⟨cs,fun _=>rfl⟩
 |p::ps,cs=>by
  have hu:∀c,pe fr (p::ps) cs c=cond (u6 (fr.ak p.2.2)) .no (dQ (dd (ih (fr.ak p.2.2))) p.2.1 (eh (Nat.add p.1 p.2.1) (dd cs) (rm cs p.1 (ih (fr.ak p.2.2)) (fun cs'=>pe fr ps cs' c) .no) .no) .no):=fun _=>rfl;simp only[hu];cases u6 (fr.ak p.2.2)with
  |true=>exact .inr fun _=>rfl
  |false=>
   simp only[cond_false,pZ,od];split
   ·split
    ·rcases aru cs p.1 (ih (fr.ak p.2.2))with⟨out,al⟩|hn
     ·rcases TM fr ps out with⟨oW,hk⟩|lB
      ·exact .inl ⟨oW,fun c=>by rw[al];exact hk c⟩
      ·exact .inr fun c=>by rw[al];exact lB c
     ·exact .inr fun c=>hn _
    ·exact .inr fun _=>rfl
   ·exact .inr fun _=>rfl
def Rt{x:da}{aF:aO}{h0:aq bB}{ai:Nat}{v:bi}{st':ar}(aa:x.u5=true)(h:bG call x fr ⟨h0,ai⟩= .ok v aF st'):
 ∃o,o≠.dead∧aF=fr∧st'=⟨h0.set ai o,ai+1⟩∧∀aG,bG call x fr ⟨aG,ai⟩= .ok v fr ⟨aG.set ai o,ai+1⟩:=by
 cases x with
 |alloc z e=>
  have h:zy z e call fr ⟨h0,ai⟩= .ok v aF st':=h;unfold zy at h;rw[gR]at h;cases h;exact⟨_,by simp,rfl,rfl,fun aG=>by show zy z e call fr ⟨aG,ai⟩=_;unfold zy;rw[gR]⟩
 |box e p=>
  have h:B6 e p call fr ⟨h0,ai⟩= .ok v aF st':=h;unfold B6 at h;obtain⟨I,U⟩:=BU h (by simp);rw[gR]at U;cases U;exact⟨_,by simp,rfl,rfl,fun aG=>by show B6 e p call fr ⟨aG,ai⟩=_;unfold B6;simp only[I,cond_false];rw[gR]⟩
 |pO e n z ps=>
  have h:B7 e n z ps call fr ⟨h0,ai⟩= .ok v aF st':=h;unfold B7 at h;rcases TM fr ps z with⟨out,al⟩|hn
  ·rw[al,gR]at h;cases h;exact⟨_,by simp,rfl,rfl,fun aG=>by show B7 e n z ps call fr ⟨aG,ai⟩=_;unfold B7;rw[al,gR]⟩
  ·rw[hn]at h;cases h
 |wq e p=>
  have h:B8 e p call fr ⟨h0,ai⟩= .ok v aF st':=h;unfold B8 at h;obtain⟨s,ah,I⟩:=qu h (by simp);obtain⟨hle,U⟩:=kb I (by simp);rw[gR]at U;cases U;exact⟨_,by simp,rfl,rfl,fun aG=>by
   show B8 e p call fr ⟨aG,ai⟩=_;unfold B8;rw[ah];show eh (dd s.data.toList) (2^40) _ _=_;rw[od,zab hle,gR]⟩
 |si e bh z l c=>
  have h:xt e bh z l c call fr ⟨h0,ai⟩= .ok v aF st':=h;unfold xt at h;obtain⟨bl,lb,hl,I⟩:=ke h (by simp);obtain⟨bK,wh,hc,U⟩:=ke I (by simp);obtain⟨cr,q4,ag⟩:=nx U (by simp);obtain⟨h1,Be,au⟩:=nx ag (by simp);obtain⟨hle,a0⟩:=kb au (by simp);obtain⟨Nn,b5⟩:=kb a0 (by simp);rw[gR]at b5;cases b5;exact⟨_,by simp,rfl,rfl,fun aG=>by
   show xt e bh z l c call fr ⟨aG,ai⟩=_;unfold xt;rw[hl,hc,q4,Be];show eh cr h1 (eh (Nat.mul h1 (Nat.succ bh)) (2^40) _ _) _=_;rw[od,zab hle,od,zab Nn,gR]⟩
 |vg=>
  have h:zz call fr ⟨h0,ai⟩= .ok v aF st':=h;unfold zz at h;rw[gR]at h;cases h;exact⟨_,by simp,rfl,rfl,fun aG=>by show zz call fr ⟨aG,ai⟩=_;unfold zz;rw[gR]⟩
 |_=>cases aa
end Go.an
namespace Go.an
def cD.za:cD->Bool
 |.dY=>true
 |_=>false
def cD.looks:cD->ac Tmp
 |.dY=>[]
 |.hZ ts=>ts
 |.read _ ts=>ts
def ux(L:ac (bA×cD))(q:Nat):Bool:=((L[q]?).map (·.2.za)).getD false
structure my(X:Ctx)(aI:Nat)(ops:be Oper)(L:ac (bA×cD))(cm:ac Nat)(eb:ac Tmp)(ms:ac Nat):Prop where
 vc:L.length=ops.size
 zi:cm.length=ops.size
 op:∀(p i:Nat) x c,cm[p]? =some i->L[p]? =some (x,c)->∃o,ops[i]? =some o∧m4 X aI ops x o=true
 hZ:∀(p:Nat) x ts,L[p]? =some (x,.hZ ts)->x.o.u5=true
 rd:∀(p:Nat) x n ts,L[p]? =some (x,.read n ts)->x.o.tm=true
 inj:∀(p q i:Nat),cm[p]? =some i->cm[q]? =some i->p=q
 au7:∀i,i<ops.size->∃p:Nat,cm[p]? =some i
 ahS:∀(p i:Nat) o,cm[p]? =some i->ops[i]? =some o->∀e∈o.after,Region.binds .any e=true->∃q,q<p∧cm[q]? =some e.on
 mask:∀(p i:Nat) o q,cm[p]? =some i->ops[i]? =some o->(ms.getD p 0).testBit q=true->∃e∈o.after,Region.binds .any e=true∧∃r,r<p∧cm[r]? =some e.on∧(q=r∨(ms.getD r 0).testBit q=true)
 dY:∀(p:Nat) x q,L[p]? =some (x,.dY)->q<p->(ms.getD p 0).testBit q=true
 back:∀(p:Nat) x n ts,L[p]? =some (x,.read n ts)->(List.range p).countP (fun q=>ux L q&& !(ms.getD p 0).testBit q)<=n
 dst:∀(p q:Nat) x y c d t,L[p]? =some (x,c)->L[q]? =some (y,d)->x.d=some t->y.d=some t->p=q
 aep:∀(p q:Nat) x y c d t,L[p]? =some (x,c)->L[q]? =some (y,d)->p<q->y.d=some t->t∉eb->(c= .dY∨t∈c.looks)->(ms.getD q 0).testBit p=true
 dep:∀(p q:Nat) x y c d t,L[p]? =some (x,c)->L[q]? =some (y,d)->q<p->y.d=some t->t∈c.looks->(ms.getD p 0).testBit q=true
section
variable{X:Ctx}{aI:Nat}{ops:be Oper}{L:ac (bA×cD)}{cm:ac Nat}{eb:ac Tmp}{ms:ac Nat}{call:bF}
def ov(ops:be Oper)(cm:ac Nat)(E:Nat->Prop)(p:Nat):Prop:=∀i o,cm[p]? =some i->ops[i]? =some o->∀e∈o.after,Region.binds .any e=true->∀r:Nat,cm[r]? =some e.on->E r
def my.before(D:my X aI ops L cm eb ms){E:Nat->Prop}(iS:∀p,E p->ov ops cm E p)(p:Nat):ov ops cm E p->p<ops.size->∀q,(ms.getD p 0).testBit q=true->E q:=by
 induction p using Nat.strongRecOn with
 |_ p ba=>
  intro aD hp q hq;have NH:p<cm.length:=by rw[D.zi];exact hp
  have ae:cm[p]? =some cm[p]:=bg NH;obtain⟨x,aa⟩:∃x,L[p]? =some x:=⟨_,bg (by rw[D.vc];exact hp)⟩;obtain⟨o,al,_⟩:=D.op p _ x.1 x.2 ae aa;obtain⟨e,he,hb,r,ED,y1,jC⟩:=D.mask p _ o q ae al hq;have W4:E r:=aD _ o ae al e he hb r y1;rcases jC with rfl|jC
  ·exact W4
  ·exact ba r ED (iS r W4) (by omega) q jC
variable{Z:Nat->Bool}{fq:ac (aq bB)}{fr aF:aO}{st st':ar}{F:Nat->aO}{T:Nat->ar}{N:Nat->ac (aq bB)}{V:Nat->bi}
variable{p q:Nat}{x:bA}{c:cD}
def kz.ZE(aV:kz call Z L fq fr st aF st' F T N V)(D:my X aI ops L cm eb ms)(hp:p<L.length):(T p).ai<=(T (p+1)).ai:=by
 obtain⟨⟨x,c⟩,aa⟩:∃x,L[p]? =some x:=⟨_,bg hp⟩;rcases aV.step p x c aa with⟨_,ah⟩|⟨_,ah⟩
 case inr=>rw[ah.2.2.1];exact cf _
 cases c with
 |dY=>
  rcases ah with⟨_,_,_,h,_⟩|⟨_,_,_,h,_⟩
  ·rw[h];exact cf _
  ·exact h
 |hZ ts=>
  obtain⟨_,_,h⟩:=ah;rcases h with⟨_,_,h⟩|⟨_,j2,h⟩
  ·rw[h];exact cf _
  ·have b4:=D.hZ p x ts aa;obtain⟨o,_,_,U,_⟩:=Rt (h0:=(T p).h) (ai:=(T p).ai) b4 h;rw[U];exact zaZ _
 |read n ts=>obtain⟨_,_,h,_⟩:=ah;rw[h];exact cf _
def kz.m2(aV:kz call Z L fq fr st aF st' F T N V)(D:my X aI ops L cm eb ms)(h:p<=q)(hq:q<=L.length):(T p).ai<=(T q).ai:=by
 induction q with
 |zero=>have:p=0:=by omega
        subst this;exact cf _
 |succ q ba=>
  by_cases e:p=q+1
  ·subst e;exact cf _
  ·exact zag (ba (by omega) (by omega)) (aV.ZE D (by omega))
def kz.adf(aV:kz call Z L fq fr st aF st' F T N V)(aa:L[p]? =some (x,c))(t:Nat):(F (p+1)).tmp t=if x.d=some t then V p else(F p).tmp t:=by
 rcases aV.step p x c aa with⟨_,ah⟩|⟨_,ah⟩
 case inr=>rw[ah.2.1,sG,ah.1]
 cases c with
 |dY=>
  rcases ah with⟨_,I,h,_⟩|⟨_,j2,_,_,h,_⟩
  ·rw[h,sG,I]
  ·rw[h,sG];rfl
 |hZ ts=>obtain⟨h,_⟩:=ah;rw[h,sG]
 |read n ts=>obtain⟨h,_⟩:=ah;rw[h,sG]
def kz.KE(aV:kz call Z L fq fr st aF st' F T N V)(t:Nat):∀p,p<=L.length->(∀(q:Nat) x c,q<p->L[q]? =some (x,c)->x.d≠some t)->(F p).tmp t=(F 0).tmp t
 |0,_,_=>rfl
 |p+1,hp,h=>by
  obtain⟨⟨x,c⟩,aa⟩:∃x,L[p]? =some x:=⟨_,bg (by omega)⟩;rw[aV.adf aa,zaa (h p x c (by omega) aa)];exact aV.KE t p (by omega) (fun q x c hq=>h q x c (by omega))
def kz.QA(aV:kz call Z L fq fr st aF st' F T N V)(D:my X aI ops L cm eb ms){y:bA}{d:cD}{t:Nat}(aJ:L[q]? =some (y,d))(ay:y.d=some t):∀p,q<p->p<=L.length->(F p).tmp t=V q
 |0,h,_=>by omega
 |p+1,h,hp=>by
  obtain⟨⟨x,c⟩,aa⟩:∃x,L[p]? =some x:=⟨_,bg (by omega)⟩;rw[aV.adf aa];by_cases e:p=q
  ·subst e;rw[aa]at aJ;cases aJ;rw[zab ay]
  ·rw[zaa (fun h=>e (D.dst p q x y c d t aa aJ h ay))];exact aV.QA D aJ ay p (by omega) (by omega)
def kz.same(aV:kz call Z L fq fr st aF st' F T N V)(aa:L[p]? =some (x,c))(hc:c≠.dY):(F (p+1)).cL=(F p).cL∧(F (p+1)).cx=(F p).cx∧(F (p+1)).aQ=(F p).aQ∧(F (p+1)).bW=(F p).bW:=by
 rcases aV.step p x c aa with⟨_,ah⟩|⟨_,ah⟩
 case inr=>obtain⟨cO,cS,et,kr⟩:=tJ (F p) x.d undef;rw[ah.2.1];exact⟨kr,et,cO,cS⟩
 cases c with
 |dY=>exact absurd rfl hc
 |hZ ts=>obtain⟨h,_⟩:=ah;obtain⟨cO,cS,et,kr⟩:=tJ (F p) x.d (V p);rw[h];exact⟨kr,et,cO,cS⟩
 |read n ts=>obtain⟨h,_⟩:=ah;obtain⟨cO,cS,et,kr⟩:=tJ (F p) x.d (V p);rw[h];exact⟨kr,et,cO,cS⟩
def kz.snap(aV:kz call Z L [st.h] fr st aF st' F T N V){c:Nat}(hc:c=0∨∃p x,c=p+1∧L[p]? =some (x,cD.dY)):∀p,c<=p->p<=L.length->
 (N p)[(List.range p).countP (fun q=>decide (c<=q)&&ux L q)]? =some (T c).h
 |0,h,_=>by
  have:c=0:=by omega
  subst this;simp[aV.tu,aV.t0]
 |p+1,h,hp=>by
  obtain⟨⟨x,k⟩,aa⟩:∃x,L[p]? =some x:=⟨_,bg (by omega)⟩;have dP:=aV.step p x k aa;by_cases e:c=p+1
  ·subst e;have ax:(List.range (p+1)).countP (fun q=>decide (p+1<=q)&&ux L q)=0:=by
    rw[List.countP_eq_zero];intro q hq;have:=zcN.1 hq;simp;omega
   rw[ax];rcases hc with hc|⟨gK,eT,hc,b4⟩
   ·omega
   ·have:gK=p:=by omega
    subst this;rw[aa]at b4;cases b4;rcases dP with⟨_,⟨_,_,_,I,U⟩|⟨_,_,_,_,_,U⟩⟩|⟨_,_,_,I,U⟩
    ·rw[U,I];rfl
    ·rw[U];rfl
    ·rw[U,I];rfl
  ·have ba:=aV.snap hc p (by omega) (by omega);rw[List.range_succ,List.countP_append,List.countP_singleton];have gE:decide (c<=p)=true:=by simp;omega
   have Na:ux L p=k.za:=by simp[ux,aa]
   simp only[gE,Bool.true_and,Na];cases k with
   |dY=>
    have:∃h,N (p+1)=h::N p:=by
     rcases dP with⟨_,⟨_,_,_,_,U⟩|⟨_,_,_,_,_,U⟩⟩|⟨_,_,_,_,U⟩
     ·exact⟨_,U⟩
     ·exact⟨_,U⟩
     ·exact⟨_,U⟩
    obtain⟨h,gP⟩:=this;rw[gP];simpa[cD.za]using ba
   |hZ ts=>
    have U:N (p+1)=N p:=by
     rcases dP with⟨_,_,U,_⟩|⟨_,_,_,_,U⟩
     ·exact U
     ·exact U
    rw[U];simpa[cD.za]using ba
   |read n ts=>
    have U:N (p+1)=N p:=by
     rcases dP with⟨_,_,U,_⟩|⟨_,_,_,_,U⟩
     ·exact U
     ·exact U
    rw[U];simpa[cD.za]using ba
end
end Go.an
namespace Go.an
variable{X:Ctx}
variable{ι:bu}{n:Nat}{l:Loc}{aU:bu}{m:Nat}{w:d7}
def fL(ι:bu)(n:Nat):bu:=fun id=>if id<n then ι id else none
def k2{id:Nat}:fL ι n id=some l↔id<n∧ι id=some l:=by
 unfold fL;by_cases h:id<n<;>simp[h]
def S2(ι:bu)(n:Nat):(fL ι n).le ι:=fun _ _ h=>(k2.1 h).2
def sU(h:ι.le aU)(hn:m<=n):(fL ι m).le (fL aU n):=fun _ _ hl=>k2.2 ⟨fx (k2.1 hl).1 hn,h _ _ (k2.1 hl).2⟩
def S1(h:∀id,n<=id->ι id=none):fL ι n=ι:=by
 funext id;unfold fL;by_cases ae:id<n
 ·simp[ae]
 ·simp[ae,h id (by omega)]
def bx.look{h:aq bB}(hw:bx X ι ⟨h,n⟩ w)(hle:ι.le aU)(af:∀id,m<=id->aU id=none)(hn:n<=m)(hb:∀id l,aU id=some l->l.cK<w.heap.size):bx X aU ⟨h,m⟩ w:=by
 refine⟨fun id o al ay=> ?_,fun i j o p l eG ae h5 hj iF iV hS aM e=> ?_,fun id pj=>⟨af id pj,(hw.fresh id (zag hn pj)).2⟩,hb,fun g aM=>hle _ _ (hw.mG g aM),zag hw.p6 hn,fun i l o hl ah al ay=> ?_⟩
 ·obtain⟨l,hl,hm⟩:=hw.eC id o al ay;exact⟨l,hle _ _ hl,kf.mono X hm hle rfl⟩
 ·obtain⟨l',cC,_⟩:=hw.eC i o ae h5;obtain⟨axk,XD,_⟩:=hw.eC j p hj iF;have az:=(hle _ _ cC).symm.trans iV;have e2:=(hle _ _ XD).symm.trans hS;cases az;cases e2;exact hw.inj i j o p _ _ ae h5 hj iF cC XD aM e
 ·obtain⟨l',cC,_⟩:=hw.eC i o al ay;have az:=(hle _ _ cC).symm.trans hl;cases az;exact hw.mn i _ o cC ah al ay
def bx.aek{st:ar}(hw:bx X ι st w){o:bB}(al:kf X (iD ι st.ai l) w o l)(hb:l.cK<w.heap.size)(oP:l.bY≠h3)(hne:∀id l',ι id=some l'->l'.cK≠l.cK):
 bx X (iD ι st.ai l) ⟨st.h.set st.ai o,st.ai+1⟩ w:=by
 have hle:ι.le (iD ι st.ai l):=by
  intro id l' hl;show(if id=st.ai then some l else ι id)=some l';rw[zaa];exact hl;intro e;subst e;rw[(hw.fresh _ (cf _)).1]at hl;cases hl
 have rY:iD ι st.ai l st.ai=some l:=zab rfl;have oN:∀id,id≠st.ai->iD ι st.ai l id=ι id:=fun id h=>zaa h;refine⟨fun id p hp ay=> ?_,fun i j p q fO ja ae h5 hj iF iV hS aM e=> ?_,fun id pj=> ?_,fun id l' cC=> ?_,fun g aM=>hle _ _ (hw.mG g aM),zbe hw.p6,fun i fO p nq ah hp ay=> ?_⟩
 ·rw[aq.eI]at hp;by_cases e:id=st.ai
  ·rw[zab e]at hp;cases hp;subst e;exact⟨l,rY,al⟩
  ·rw[zaa e]at hp;obtain⟨l',cC,hm⟩:=hw.eC id p hp ay;exact⟨l',hle _ _ cC,kf.mono X hm hle rfl⟩
 ·rw[aq.eI]at ae hj;by_cases az:i=st.ai
  ·by_cases e2:j=st.ai
   ·rw[az,e2]
   ·subst az;rw[rY]at iV;cases iV;rw[oN j e2]at hS;exact absurd e.symm (hne _ _ hS)
  ·by_cases e2:j=st.ai
   ·subst e2;rw[rY]at hS;cases hS;rw[oN i az]at iV;exact absurd e (hne _ _ iV)
   ·rw[zaa az]at ae;rw[zaa e2]at hj;rw[oN i az]at iV;rw[oN j e2]at hS;exact hw.inj i j p q fO ja ae h5 hj iF iV hS aM e
 ·have anl:st.ai+1<=id:=pj;refine⟨?_,?_⟩
  ·rw[oN id (by omega)];exact(hw.fresh id (by omega)).1
  ·show(st.h.set st.ai o).get id=none;rw[aq.eI,zaa (by omega)];exact(hw.fresh id (by omega)).2
 ·by_cases e:id=st.ai
  ·subst e;rw[rY]at cC;cases cC;exact hb
  ·rw[oN id e]at cC;exact hw.gY id l' cC
 ·rw[aq.eI]at hp;by_cases e:i=st.ai
  ·subst e;rw[rY]at nq;cases nq;exact absurd ah oP
  ·rw[zaa e]at hp;rw[oN i e]at nq;exact hw.mn i fO p nq ah hp ay
def vN(L:ac (bA×cD))(F:Nat->aO)(p:Nat):Prop:=∃x ts,L[p]? =some (x,cD.hZ ts)∧lJ ((F p).only ts) x.g true
structure kX(X:Ctx)(aI:Nat)(L:ac (bA×cD))(F:Nat->aO)(T:Nat->ar)(V:Nat->bi)(hz:bu)(fi:d7)(E:Nat->Prop)(c:Nat)(ι:bu)(a:Act)(w:d7):Prop where
 low:∀p,p<c->E p
 G0:c<=L.length
 start:c=0∨∃p x,c=p+1∧L[p]? =some (x,cD.dY)
 Fc:∀(p:Nat) x,c<=p->E p->L[p]? ≠some (x,cD.dY)
 wr:bx X (fL ι (T c).ai) (T c) w
 mE:∀id l,ι id=some l->id<(T c).ai∨∃p,c<=p∧p<L.length∧E p∧vN L F p∧id=(T p).ai
 gL:∀p,c<=p->E p->vN L F p->∃o l,T (p+1)=⟨(T p).h.set (T p).ai o,(T p).ai+1⟩∧ι (T p).ai=some l∧kf X (fL ι ((T p).ai+1)) w o l∧
  l.bY≠h3∧∀id l',ι id=some l'->id≠(T p).ai->l'.cK≠l.cK
 gY:∀id l,ι id=some l->l.cK<w.heap.size
 keeps:e4 hz ι fi w
 size:a.tmps.size=aI
 cL:tZ (fL ι (T c).ai) (F c).cL a.defers
 Gd:∀(p:Nat) x bI t,L[p]? =some (x,bI)->x.d=some t->E p->bw (fL ι (max (T (p+1)).ai (T c).ai)) (V p) (a.tmps.getD t undef)
 CI:∀t,(∀(p:Nat) x bI,L[p]? =some (x,bI)->x.d=some t->¬E p)->bw hz ((F 0).tmp t) (a.tmps.getD t undef)
section
variable{aI:Nat}{ops:be Oper}{L:ac (bA×cD)}{cm:ac Nat}{eb:ac Tmp}{ms:ac Nat}{call:bF}
variable{Z:Nat->Bool}{fr aF:aO}{st st':ar}{F:Nat->aO}{T:Nat->ar}{N:Nat->ac (aq bB)}{V:Nat->bi}{hz:bu}{fi:d7}{E:Nat->Prop}{c:Nat}{ι:bu}{a:Act}{w:d7}
def kX.look(cj:kX X aI L F T V hz fi E c ι a w)(aV:kz call Z L [st.h] fr st aF st' F T N V)(D:my X aI ops L cm eb ms)(h0:∀id,st.ai<=id->hz id=none)(ax:∀t∈eb,(F 0).tmp t=js)
 (iS:∀p,E p->ov ops cm E p) {p:Nat} {x:bA} {bI:cD} (aa:L[p]? =some (x,bI)) (aD:ov ops cm E p) (hn:¬E p) {t:Nat} (hl:bI= .dY∨t∈bI.looks):
 bw (fL ι (T p).ai) ((F p).tmp t) (a.tmps.getD t undef):=by
 have iX:p<L.length:=(zac.1 aa).1;have gE:c<=p:=by
  rcases zaj p c with h|h
  ·exact absurd (cj.low p h) hn
  ·exact h
 have km:p<ops.size:=by rw[<-D.vc];exact iX
 have yD:hz.le (fL ι (T p).ai):=by
  intro id l hl;refine k2.2 ⟨?_,cj.keeps.le _ _ hl⟩;rcases zaj id st.ai with h|h
  ·have:=aV.m2 D (zaf p) (by omega);rw[aV.t0]at this;omega
  ·rw[h0 id h]at hl;cases hl
 by_cases hw:∃(q:Nat) (y:bA) (d:cD),L[q]? =some (y,d)∧y.d=some t
 ·obtain⟨q,y,d,aJ,ay⟩:=hw;rcases zaj q p with y0|y0
  ·have hb:(ms.getD p 0).testBit q=true:=by
    rcases hl with rfl|hl
    ·exact D.dY p x q aa y0
    ·exact D.dep p q x y bI d t aa aJ y0 ay hl
   have fg:=D.before iS p aD km q hb;rw[aV.QA D aJ ay p y0 (by omega)];refine(cj.Gd q y d t aJ ay fg).mono (sU (.refl ι) ?_);have I:=aV.m2 D (p:=q+1) (q:=p) y0 (by omega);have U:=aV.m2 D gE (by omega);omega
  ·have hold:(F p).tmp t=(F 0).tmp t:=aV.KE t p (by omega) fun gl eT bL NK b4 gF=>by
    have:=D.dst gl q eT y bL d t b4 aJ gF ay;omega
   rw[hold];by_cases It:t∈eb
   ·rw[ax t It];exact .top _
   ·refine(cj.CI t fun gl eT bL b4 gF W3=> ?_).mono yD;have anW:=D.dst gl q eT y bL d t b4 aJ gF ay;subst anW;by_cases e:gl=p
    ·subst e;exact hn W3
    ·have hb:=D.aep p gl x y bI d t aa aJ (by omega) ay It hl;exact hn (D.before iS gl (iS gl W3) (by rw[<-D.vc];exact(zac.1 aJ).1) p hb)
 ·have gG:∀(q:Nat) eT bL,L[q]? =some (eT,bL)->eT.d≠some t:=fun q eT bL b4 gF=>hw ⟨q,eT,bL,b4,gF⟩;rw[aV.KE t p (by omega) fun q eT bL _ b4=>gG q eT bL b4];exact(cj.CI t fun q eT bL b4 gF=>absurd gF (gG q eT bL b4)).mono yD
def kX.upto(cj:kX X aI L F T V hz fi E c ι a w)(aV:kz call Z L [st.h] fr st aF st' F T N V)(_D:my X aI ops L cm eb ms):∀q,c<=q->q<=L.length->(∀r,c<=r->r<q->E r)->
 bx X (fL ι (T q).ai) (T q) w∧(F q).cL=(F c).cL∧(F q).cx=(F c).cx∧(F q).aQ=(F c).aQ∧(F q).bW=(F c).bW:=by
 intro q awO
 induction q with
 |zero=>
  intro _ _;have:c=0:=by omega
  subst this;exact⟨cj.wr,rfl,rfl,rfl,rfl⟩
 |succ q ba=>
  intro hq dZ;by_cases e:c=q+1
  ·subst e;exact⟨cj.wr,rfl,rfl,rfl,rfl⟩
  obtain⟨i1,i2,i3,i4,i5⟩:=ba (by omega) (by omega) (fun r I U=>dZ r I (by omega));obtain⟨⟨x,bI⟩,aa⟩:∃x,L[q]? =some x:=⟨_,bg (by omega)⟩;have fg:=dZ q (by omega) (by omega);have hne:bI≠.dY:=fun h=>cj.Fc q x (by omega) fg (by rw[aa,h]);obtain⟨s1,s2,sz,Ql⟩:=aV.same aa hne;refine⟨?_,s1.trans i2,s2.trans i3,sz.trans i4,Ql.trans i5⟩;rcases aV.step q x bI aa with⟨_,ah⟩|⟨_,ah⟩
  case inr=>rw[ah.2.2.1];exact i1
  cases bI with
  |dY=>exact absurd rfl hne
  |read n ts=>obtain⟨_,_,h,_⟩:=ah;rw[h];exact i1
  |hZ ts=>
   obtain⟨_,_,h⟩:=ah;rcases h with⟨_,_,h⟩|⟨gd,_⟩
   ·rw[h];exact i1
   ·obtain⟨o,l,I,U,ag,h0,au⟩:=cj.gL q (by omega) fg ⟨x,ts,aa,gd⟩;have iE:fL ι ((T q).ai+1)=iD (fL ι (T q).ai) (T q).ai l:=by
     funext id;unfold fL iD;by_cases az:id=(T q).ai
     ·subst az;simp[U]
     ·by_cases e2:id<(T q).ai
      ·simp[az,e2];omega
      ·simp[az,e2];omega
    rw[I];show bx X (fL ι ((T q).ai+1)) _ w;rw[iE]at ag⊢;refine i1.aek ag (cj.gY _ _ U) h0 fun id l' cC=> ?_;obtain⟨g1,aP⟩:=k2.1 cC;exact au id l' aP (by omega)
end
def C8(E:Nat->Prop)(p:Nat):Nat->Prop:=fun q=>E q∨q=p
def yA(a:Act)(d:am Tmp)(v:bi)(t:Nat):(a.put d v).tmps.getD t undef=if d=some t∧t<a.tmps.size then v else a.tmps.getD t undef:=by
 cases d with
 |none=>simp[Act.put]
 |some d=>
  by_cases e:d=t
  ·subst e;by_cases h:d<a.tmps.size
   ·simp[Act.put,h]
   ·simp[Act.put,h]
  ·simp only[Option.some.injEq,e,false_and,if_false];simp[Act.put,zby e]
section
variable{aI:Nat}{ops:be Oper}{L:ac (bA×cD)}{cm:ac Nat}{eb:ac Tmp}{ms:ac Nat}{call:bF}
variable{Z:Nat->Bool}{fr aF:aO}{st st':ar}{F:Nat->aO}{T:Nat->ar}{N:Nat->ac (aq bB)}{V:Nat->bi}{hz:bu}{fi:d7}{E:Nat->Prop}{c:Nat}{ι:bu}{a:Act}{w:d7}
variable{p:Nat}{x:bA}
def kX.float(cj:kX X aI L F T V hz fi E c ι a w)(D:my X aI ops L cm eb ms){bI:cD}(aa:L[p]? =some (x,bI))(hc:bI≠.dY)(gE:c<=p)(lQ:¬vN L F p){v':bi}
 (ay:∀t,x.d=some t->t<aI) (aE:bw (fL ι (T (p+1)).ai) (V p) v'):kX X aI L F T V hz fi (C8 E p) c ι (a.put x.d v') w:=by
 have e0:(a.put x.d v').tmps.size=aI:=by rw[<-cj.size];cases x.d<;>simp[Act.put]
 refine⟨fun q hq=>.inl (cj.low q hq),cj.G0,cj.start,fun q y hq fg=> ?_,cj.wr,fun id l hl=> ?_,fun q hq fg e6=> ?_,cj.gY,cj.keeps,e0,?_,fun q y k t aJ jF fg=> ?_,fun t gG=> ?_⟩
 ·rcases fg with fg|rfl
  ·exact cj.Fc q y hq fg
  ·intro h;rw[aa]at h;cases h;exact hc rfl
 ·rcases cj.mE id l hl with h|⟨q,I,U,ag,au⟩
  ·exact .inl h
  ·exact .inr ⟨q,I,U,.inl ag,au⟩
 ·rcases fg with fg|rfl
  ·exact cj.gL q hq fg e6
  ·exact absurd e6 lQ
 ·have:(a.put x.d v').defers=a.defers:=by cases x.d<;>rfl
  rw[this];exact cj.cL
 ·rw[yA];by_cases e:q=p
  ·subst e;rw[aa]at aJ;cases aJ;rw[zab ⟨jF,by rw[cj.size];exact ay t jF⟩];exact aE.mono (sU (.refl ι) (Nat.le_max_left _ _))
  ·rw[zaa (fun h=>e (D.dst q p y x k bI t aJ aa jF h.1))];rcases fg with fg|h
   ·exact cj.Gd q y k t aJ jF fg
   ·exact absurd h e
 ·rw[yA,zaa (fun h=>gG p x bI aa h.1 (.inr rfl))];exact cj.CI t fun q y k aJ jF fg=>gG q y k aJ jF (.inl fg)
def kX.aiP(cj:kX X aI L F T V hz fi E c ι a w)(aV:kz call Z L [st.h] fr st aF st' F T N V)(D:my X aI ops L cm eb ms){ts:ac Tmp}(aa:L[p]? =some (x,.hZ ts))(gE:c<=p)(n8:¬E p)
 {v':bi} {o:bB} {O:Obj} {l:Loc} {w':d7} (ay:∀t,x.d=some t->t<aI) (jm:T (p+1)=⟨(T p).h.set (T p).ai o,(T p).ai+1⟩) (hl:l.cK=w.heap.size) (ant:l.bY≠h3) (hh:w'.heap=w.heap.push O) (g4:rI w w')
 (aE:bw (iD (fL ι (T p).ai) (T p).ai l) (V p) v') (al:kf X (iD (fL ι (T p).ai) (T p).ai l) w' o l):kX X aI L F T V hz fi (C8 E p) c (iD ι (T p).ai l) (a.put x.d v') w':=by
 have iX:p<L.length:=(zac.1 aa).1;have tb:ι (T p).ai=none:=by
  cases hn:ι (T p).ai with
  |none=>rfl
  |some m=>
   rcases cj.mE _ _ hn with h|⟨q,I,U,ag,au,a0⟩
   ·have:=aV.m2 D gE (by omega);omega
   ·obtain⟨a8,l',b5,_⟩:=cj.gL q I ag au;have cY:(T (q+1)).ai=(T q).ai+1:=by rw[b5]
    have MT:(T (p+1)).ai=(T p).ai+1:=by rw[jm]
    rcases zcq q p with h|h|h
    ·have:=aV.m2 D (p:=q+1) (q:=p) h (by omega);omega
    ·subst h;exact absurd ag n8
    ·have:=aV.m2 D (p:=p+1) (q:=q) h (by omega);omega
 have hle:ι.le (iD ι (T p).ai l):=by
  intro id l' cC;show(if id=(T p).ai then some l else ι id)=some l';rw[zaa];exact cC;intro e;subst e;rw[tb]at cC;cases cC
 have rY:iD ι (T p).ai l (T p).ai=some l:=zab rfl;have oN:∀id,id≠(T p).ai->iD ι (T p).ai l id=ι id:=fun id h=>zaa h;have iE:∀n,(T p).ai<n->(iD (fL ι (T p).ai) (T p).ai l).le (fL (iD ι (T p).ai l) n):=by
  intro n hn id l' cC;unfold iD at cC;by_cases e:id=(T p).ai
  ·rw[zab e]at cC;cases cC;subst e;exact k2.2 ⟨hn,rY⟩
  ·rw[zaa e]at cC;obtain⟨I,U⟩:=k2.1 cC;exact k2.2 ⟨by omega,by rw[oN id e];exact U⟩
 have hold:∀b,b<w.heap.size->w'.heap[b]? =w.heap[b]? :=fun b hb=>by rw[hh,zcJ,zaa (by omega)]
 have axd:w'.heap.size=w.heap.size+1:=by rw[hh];simp
 have e0:(a.put x.d v').tmps.size=aI:=by rw[<-cj.size];cases x.d<;>simp[Act.put]
 have j7:=aV.m2 D gE (by omega);have Xc:fL (iD ι (T p).ai l) (T c).ai=fL ι (T c).ai:=by
  funext id;unfold fL;by_cases h:id<(T c).ai
  ·rw[zab h,zab h,oN id (by omega)]
  ·rw[zaa h,zaa h]
 have MT:(T (p+1)).ai=(T p).ai+1:=by rw[jm]
 refine⟨fun q hq=>.inl (cj.low q hq),cj.G0,cj.start,fun q y hq fg=> ?_,?_,fun id l' cC=> ?_,fun q hq fg e6=> ?_,fun id l' cC=> ?_,?_,e0,?_,fun q y k t aJ jF fg=> ?_,fun t gG=> ?_⟩
 ·rcases fg with fg|rfl
  ·exact cj.Fc q y hq fg
  ·intro h;rw[aa]at h;cases h
 ·rw[Xc];refine⟨fun id a8 hk gF=> ?_,cj.wr.inj,cj.wr.fresh,fun id l' cC=> ?_,cj.wr.mG,cj.wr.p6,cj.wr.mn⟩
  ·obtain⟨l',I,U⟩:=cj.wr.eC id a8 hk gF;exact⟨l',I,kf.mono X U (.refl _) (hold _ (cj.wr.gY id l' I))⟩
  ·have:=cj.wr.gY id l' cC;omega
 ·by_cases e:id=(T p).ai
  ·by_cases e6:vN L F p
   ·exact .inr ⟨p,gE,iX,.inr rfl,e6,e⟩
   ·exfalso;rcases aV.step p x (.hZ ts) aa with⟨_,ah⟩|⟨_,ah⟩
    case inr=>rw[ah.2.2.1]at MT;omega
    obtain⟨_,_,h⟩:=ah;rcases h with⟨_,_,h⟩|⟨h,_⟩
    ·rw[h]at MT;omega
    ·exact e6 ⟨x,ts,aa,h⟩
  ·rw[oN id e]at cC;rcases cj.mE id l' cC with h|⟨q,I,U,ag,au⟩
   ·exact .inl h
   ·exact .inr ⟨q,I,U,.inl ag,au⟩
 ·by_cases e:q=p
  ·subst e;refine⟨o,l,jm,rY,kf.mono X al (iE _ (zbJ _)) rfl,ant,fun id l' cC hne=> ?_⟩;rw[oN id hne]at cC;have:=cj.gY id l' cC;omega
  ·rcases fg with fg|h
   ·obtain⟨a8,l',I,U,ag,h0,au⟩:=cj.gL q hq fg e6;refine⟨a8,l',I,hle _ _ U,kf.mono X ag (sU hle (cf _)) (hold _ (cj.gY _ _ U)),h0,fun id m hm hne=> ?_⟩;by_cases bS:id=(T p).ai
    ·subst bS;rw[rY]at hm;cases hm;have:=cj.gY _ _ U;omega
    ·rw[oN id bS]at hm;exact au id m hm hne
   ·exact absurd h e
 ·by_cases e:id=(T p).ai
  ·subst e;rw[rY]at cC;cases cC;omega
  ·rw[oN id e]at cC;have:=cj.gY id l' cC;omega
 ·refine cj.keeps.trans ⟨hle,by omega,fun b hb _=>hold b hb,fun id l' cC=> ?_,g4⟩;by_cases e:id=(T p).ai
  ·subst e;rw[rY]at cC;cases cC;exact .inr (.inl (by omega))
  ·rw[oN id e]at cC;exact .inl cC
 ·have:(a.put x.d v').defers=a.defers:=by cases x.d<;>rfl
  rw[this,Xc];exact cj.cL
 ·rw[yA];by_cases e:q=p
  ·subst e;rw[aa]at aJ;cases aJ;rw[zab ⟨jF,by rw[cj.size];exact ay t jF⟩];exact aE.mono (iE _ (by omega))
  ·rw[zaa (fun h=>e (D.dst q p y x k _ t aJ aa jF h.1))];rcases fg with fg|h
   ·exact(cj.Gd q y k t aJ jF fg).mono (sU hle (cf _))
   ·exact absurd h e
 ·rw[yA,zaa (fun h=>gG p x _ aa h.1 (.inr rfl))];exact cj.CI t fun q y k aJ jF fg=>gG q y k aJ jF (.inl fg)
def kX.effect(cj:kX X aI L F T V hz fi E c ι a w)(aV:kz call Z L [st.h] fr st aF st' F T N V)(D:my X aI ops L cm eb ms)(aa:L[p]? =some (x,.dY))(gE:c<=p)(yI:∀q,q<p->E q)
 {aU:bu} {a':Act} {w':d7} {v':bi} (ay:∀t,x.d=some t->t<aI) (hw:bx X aU (T (p+1)) w') (ab:e4 (fL ι (T p).ai) aU w w') (ha:a'.tmps=(a.put x.d v').tmps) (aE:bw aU (V p) v'∨x.d=none) (lA:tZ aU (F (p+1)).cL a'.defers):
 ∃fX,kX X aI L F T V hz fi (C8 E p) (p+1) fX a' w':=by
 have iX:p<L.length:=(zac.1 aa).1;have Ew:=aV.ZE D iX;have j7:=aV.m2 D gE (by omega);have anE:¬vN L F p:=fun⟨y,ts,aJ,_⟩=>by rw[aa]at aJ;cases aJ
 have X1:∀q,c<=q->q<L.length->E q->vN L F q->(q<p∧(T q).ai<(T p).ai)∨(p<q∧(T (p+1)).ai<=(T q).ai):=by
  intro q I U ag au;obtain⟨a8,l',b5,_⟩:=cj.gL q I ag au;have cY:(T (q+1)).ai=(T q).ai+1:=by rw[b5]
  rcases zcq q p with h|h|h
  ·left;have:=aV.m2 D (p:=q+1) (q:=p) h (by omega);exact⟨h,by omega⟩
  ·subst h;exact absurd au anE
  ·right;exact⟨h,aV.m2 D (p:=p+1) (q:=q) h (by omega)⟩
 let fX:bu:=fun id=>if id<(T (p+1)).ai then aU id else ι id
 have Er:∀id,id<(T (p+1)).ai->fX id=aU id:=fun id h=>zab h;have Ef:∀id,(T (p+1)).ai<=id->fX id=ι id:=fun id h=>zaa (by omega);have hle:ι.le fX:=by
  intro id l hl;rcases zaj id (T (p+1)).ai with h|h
  ·rw[Er id h];apply ab.le;refine k2.2 ⟨?_,hl⟩;rcases cj.mE id l hl with I|⟨q,I,U,ag,au,a0⟩
   ·omega
   ·rcases X1 q I U ag au with⟨_,b5⟩|⟨_,b5⟩<;>omega
  ·rw[Ef id h];exact hl
 have iE:fL fX (T (p+1)).ai=aU:=by
  funext id;unfold fL;by_cases h:id<(T (p+1)).ai
  ·rw[zab h,Er id h]
  ·rw[zaa h,(hw.fresh id (by omega)).1]
 have aoD:∀n,(T (p+1)).ai<=n->aU.le (fL fX n):=by
  intro n hn;rw[<-iE];exact sU (.refl _) hn
 have iU:e4 ι fX w w':=by
  refine⟨hle,ab.size,fun b hb ae=>ab.kept b hb fun id l hl ah=>ae id l (k2.1 hl).2 ah,fun id l hl=> ?_,ab.g4⟩;rcases zaj id (T (p+1)).ai with h|h
  ·rw[Er id h]at hl;rcases ab.new id l hl with I|I|⟨j,m,I,U,ag⟩
   ·exact .inl (k2.1 I).2
   ·exact .inr (.inl I)
   ·exact .inr (.inr ⟨j,m,(k2.1 I).2,U,ag⟩)
  ·rw[Ef id h]at hl;exact .inl hl
 have e0:a'.tmps.size=aI:=by rw[ha,<-cj.size];cases x.d<;>simp[Act.put]
 refine⟨fX,fun q hq=> ?_,iX,.inr ⟨p,x,rfl,aa⟩,fun q y hq fg=> ?_,by rw[iE];exact hw,fun id l hl=> ?_,fun q hq fg e6=> ?_,fun id l hl=> ?_,cj.keeps.trans iU,e0,by rw[iE];exact lA,fun q y k t aJ jF fg=> ?_,fun t gG=> ?_⟩
 ·by_cases e:q=p
  ·exact .inr e
  ·exact .inl (yI q (by omega))
 ·rcases fg with fg|h
  ·exact cj.Fc q y (by omega) fg
  ·omega
 ·rcases zaj id (T (p+1)).ai with h|h
  ·exact .inl h
  ·rw[Ef id h]at hl;rcases cj.mE id l hl with I|⟨q,I,U,ag,au,a0⟩
   ·omega
   ·rcases X1 q I U ag au with⟨_,b5⟩|⟨b5,_⟩
    ·omega
    ·exact .inr ⟨q,b5,U,.inl ag,au,a0⟩
 ·rcases fg with fg|h
  ·have anS:=e6;obtain⟨a8,l',I,U,ag,h0,au⟩:=cj.gL q (by omega) fg e6;have Bq:q<L.length:=by obtain⟨y,ts,aJ,_⟩:=anS;exact(zac.1 aJ).1
   have NK:(T (p+1)).ai<=(T q).ai:=aV.m2 D hq (by omega);refine⟨a8,l',I,hle _ _ U,kf.mono X ag (sU hle (cf _)) ?_,h0,fun id m hm hne=> ?_⟩
   ·exact ab.kept l'.cK (cj.gY _ _ U) fun id m hm _=>au id m (k2.1 hm).2 (by have:=(k2.1 hm).1;omega)
   ·rcases zaj id (T (p+1)).ai with h|h
    ·rw[Er id h]at hm;rcases ab.new id m hm with g1|g1|⟨j,eG,g1,_,aP⟩
     ·exact au id m (k2.1 g1).2 hne
     ·have:=cj.gY _ _ U;omega
     ·have:=au j eG (k2.1 g1).2 (by have:=(k2.1 g1).1;omega);omega
    ·rw[Ef id h]at hm;exact au id m hm hne
  ·omega
 ·rcases zaj id (T (p+1)).ai with h|h
  ·rw[Er id h]at hl;exact hw.gY id l hl
  ·rw[Ef id h]at hl;exact fx (cj.gY id l hl) ab.size
 ·rw[ha,yA];by_cases e:q=p
  ·subst e;rw[aa]at aJ;cases aJ;rw[zab ⟨jF,by rw[cj.size];exact ay t jF⟩];rcases aE with aE|aE
   ·exact aE.mono (aoD _ (Nat.le_max_left _ _))
   ·rw[jF]at aE;cases aE
  ·rw[zaa (fun h=>e (D.dst q p y x k _ t aJ aa jF h.1))];rcases fg with fg|h
   ·refine(cj.Gd q y k t aJ jF fg).mono (sU hle ?_);omega
   ·exact absurd h e
 ·rw[ha,yA,zaa (fun h=>gG p x _ aa h.1 (.inr rfl))];exact cj.CI t fun q y k aJ jF fg=>gG q y k aJ jF (.inl fg)
end
end Go.an
namespace Go.an
variable{X:Ctx}{call:bF}
variable{x:da}
def asF(h:x.tm=true):x.inPlace=true:=by cases x<;>first|rfl|cases h
def aem(h:x.u5=true):x.inPlace=true:=by cases x<;>first|rfl|cases h
def Zv{op:Op}(dD:X.ld op x=true)(aa:x.tm=true∨x.u5=true)(c:Call):op≠.defer c:=by
 intro hc;rw[hc]at dD;cases Bw:x with
 |sh fn p q=>rw[Bw]at dD;cases fn<;>cases dD
 |xe p=>rw[Bw]at aa;rcases aa with h|h<;>cases h
 |refuse=>rw[Bw]at aa;rcases aa with h|h<;>cases h
 |pX p q=>rw[Bw]at aa;rcases aa with h|h<;>cases h
 |ext y=>rw[Bw]at dD;cases y<;>cases dD
 |_=>rw[Bw]at dD;cases dD
section
variable{aI:Nat}{ops:be Oper}{L:ac (bA×cD)}{cm:ac Nat}{eb:ac Tmp}{ms:ac Nat}
variable{Z:Nat->Bool}{fr aF:aO}{st st':ar}{F:Nat->aO}{T:Nat->ar}{N:Nat->ac (aq bB)}{V:Nat->bi}{hz:bu}{fi:d7}{E:Nat->Prop}{c:Nat}{ι:bu}{a:Act}{w:d7}
variable{b:dK}{bf:Bool->ac Frame}{k:ac Item}{i:Nat}{rest:ac Nat}
def z5{x:bA}{o:Oper}{t:Bool}(h:m4 X aI ops x o=true)(af:cE ι fr a aI)(ab:lJ fr x.g t):Region.wanted o (yielded ops a.tmps)=t:=by
 rcases adT h af ab (by simp)with⟨e,hw⟩|⟨e,hw⟩
 ·cases e;exact hw
 ·cases e;exact hw
def kX.ab9(cj:kX X aI L F T V hz fi E c ι a w)(aV:kz call Z L [st.h] fr st aF st' F T N V)(D:my X aI ops L cm eb ms)(h0:∀id,st.ai<=id->hz id=none)(ax:∀t∈eb,(F 0).tmp t=js)
 (iS:∀p,E p->ov ops cm E p) {p:Nat} {x:bA} {bI:cD} (aa:L[p]? =some (x,bI)) (aD:ov ops cm E p) (hn:¬E p) (gE:c<=p):
 cE (fL ι (T p).ai) ((F p).only bI.looks) ⟨a.tmps,[]⟩ aI∧bx X (fL ι (T p).ai) ⟨(T c).h,(T p).ai⟩ w:=by
 have iX:p<L.length:=(zac.1 aa).1;refine⟨⟨fun t=> ?_,cj.size,trivial⟩,?_⟩
 ·rw[ZP];by_cases h:t∈bI.looks
  ·rw[zab h];exact cj.look aV D h0 ax iS aa aD hn (.inr h)
  ·rw[zaa h];exact .top _
 ·have j7:=aV.m2 D gE (by omega);refine bx.look (n:=(T c).ai) (ι:=fL ι (T c).ai) cj.wr (sU (.refl ι) j7) (fun id pj=> ?_) j7 (fun id l hl=>cj.gY id l (k2.1 hl).2);show(if id<(T p).ai then ι id else none)=none;rw[zaa (by omega)]
def ahF(dJ:mw X call)(cj:kX X aI L F T V hz fi E c ι a w)(aV:kz call Z L [st.h] fr st aF st' F T N V)(D:my X aI ops L cm eb ms)(h0:∀id,st.ai<=id->hz id=none)(ax:∀t∈eb,(F 0).tmp t=js)
 (iS:∀p,E p->ov ops cm E p) {p:Nat} (hp:p<L.length) (Bx:Z p=false) (n8:∀x c,L[p]? =some (x,c)->Ae call x c (F p) (T p)) (ae:cm[p]? =some i) (aD:ov ops cm E p) (hn:¬E p) (hb:ow hz (F 0).bW b.bW) (pt:j0 b (F 0).aQ hz bf) (iH:(F c).aQ=(F 0).aQ) (jE:(F c).bW=(F 0).bW):
 ∃bL fX a' w',Steps X.P (lone (b.at a (.inRegion ops (i::rest)::k)) (bf (F c).cx) w) (lone (b.at a' (.inRegion ops rest::k)) (bf (F bL).cx) w')∧kX X aI L F T V hz fi (C8 E p) bL fX a' w'∧
  (F bL).aQ=(F 0).aQ∧(F bL).bW=(F 0).bW:=by
 obtain⟨⟨x,bI⟩,aa⟩:∃x,L[p]? =some x:=⟨_,bg hp⟩;obtain⟨o,al,bR⟩:=D.op p i x bI ae aa;obtain⟨k7,lz⟩:=Jo bR;have km:p<ops.size:=by rw[<-D.vc];exact hp
 have gE:c<=p:=by
  rcases zaj p c with h|h
  ·exact absurd (cj.low p h) hn
  ·exact h
 have ah:DStep call x bI (F p) (T p) (N p) (V p) (F (p+1)) (T (p+1)) (N (p+1)):=by
  rcases aV.step p x bI aa with⟨_,ah⟩|⟨h,_⟩
  ·exact ah
  ·rw[Bx]at h;cases h
 have oM:=aV.m2 D (zaf p) (by omega);rw[aV.t0]at oM;have yD:hz.le (fL ι (T p).ai):=by
  intro id l hl;refine k2.2 ⟨?_,cj.keeps.le _ _ hl⟩;rcases zaj id st.ai with h|h
  ·omega
  ·rw[h0 id h]at hl;cases hl
 cases bI with
 |dY=>
  have yI:∀q,q<p->E q:=fun q hq=>D.before iS p aD km q (D.dY p x q aa hq);obtain⟨jW,hX,zX,xS,xT⟩:=cj.upto aV D p gE (by omega) (fun r _ h=>yI r h);have af:cE (fL ι (T p).ai) (F p) a aI:=⟨fun t=>cj.look aV D h0 ax iS aa aD hn (.inl rfl),cj.size,by rw[hX];exact cj.cL.mono (sU (.refl ι) (aV.m2 D gE (by omega)))⟩;rcases ah with⟨gd|⟨gd,u,bo,n9⟩,aE,ao,jm,_⟩|⟨gd,dC,gv,_,ao,_⟩
  ·have ob:=z5 bR af gd;have eJ:=Kw (P:=X.P) (b:=b) (k:=k) (cs:=bf (F c).cx) (w:=w) (rest:=rest) al ob;obtain⟨cO,cS,et,kr⟩:=tJ (F p) x.d undef;obtain⟨fX,kl⟩:=cj.effect aV D aa gE yI (aU:=fL ι (T p).ai) (a':=a.put x.d undef) (w':=w) (v':=undef) lz (by rw[jm];exact jW) (.refl _ _) rfl (.inl (by rw[aE];exact bw.undef _)) (by
    rw[ao,kr];have:(a.put x.d undef).defers=a.defers:=by cases x.d<;>rfl
    rw[this];exact af.cL)
   refine⟨p+1,fX,_,w,?_,kl,?_,?_⟩
   ·rw[ao,et,zX,k7];exact .one eJ
   ·rw[ao,cO,xS,iH]
   ·rw[ao,cS,xT,jE]
  ·exact absurd n9 (n8 x .dY aa rfl gd u bo)
  ·have ob:=z5 bR af gd;obtain⟨aU,a',w',eJ,dN,en,ab,anP,an4,v',qY⟩:=aaj (b:=b) (bf:=bf) (k:=k) (rest:=rest) bR dJ al ob af jW (by rw[xT,jE];exact hb.mono yD) (by rw[xS,iH];exact pt.mono yD) gv;have Io:=tJ ⟨(F p).t,dC.cL,dC.aQ,dC.cx,dC.bW⟩ x.d (V p);have aE:bw aU (V p) v'∨x.d=none:=by
    cases EM:x.d with
    |none=>exact .inr rfl
    |some t=>
     left;have:=dN.tmp t;rw[sG,zab EM,qY,<-k7,yA,zab ⟨EM,by rw[cj.size];exact lz t EM⟩]at this;exact this
   obtain⟨fX,kl⟩:=cj.effect aV D aa gE yI (aU:=aU) (a':=a') (w':=w') (v':=v') lz en ab (by rw[qY,k7]) aE (by
    rw[ao,Io.2.2.2];have:=dN.cL;rw[(tJ dC x.d (V p)).2.2.2]at this;exact this)
   refine⟨p+1,fX,a',w',?_,kl,?_,?_⟩
   ·rw[ao,Io.2.2.1,<-zX];exact eJ
   ·rw[ao,Io.1];exact anP.trans (xS.trans iH)
   ·rw[ao,Io.2.1];exact an4.trans (xT.trans jE)
 |read n ts=>
  obtain⟨g1,aP⟩:=cj.ab9 aV D h0 ax iS aa aD hn gE;have Ii:¬vN L F p:=fun⟨y,QE,aJ,_⟩=>by rw[aa]at aJ;cases aJ
  obtain⟨_,_,jm,j8⟩:=ah;rcases j8 with⟨gd,aE⟩|⟨gd,ns⟩
  ·have ob:=z5 bR g1 gd;have eJ:=Kw (P:=X.P) (b:=b) (a:=a) (k:=k) (cs:=bf (F c).cx) (w:=w) (rest:=rest) al ob;exact⟨c,ι,_,w,.one eJ,by rw[<-k7];exact cj.float D aa (by simp) gE Ii lz (by rw[aE];exact bw.undef _),iH,jE⟩
  ·have ob:=z5 bR g1 gd;have amT:(List.range p).countP (fun q=>decide (c<=q)&&ux L q)<n+1:=by
    refine Nat.lt_succ_of_le (zag (List.countP_mono_left fun q hq hh=> ?_) (D.back p x n ts aa));simp only[b1,decide_eq_true_eq]at hh⊢;refine⟨hh.2,?_⟩;cases Is:(ms.getD p 0).testBit q with
    |false=>rfl
    |true=>
     exfalso;have fg:=D.before iS p aD km q Is;have he:=hh.2;unfold ux at he;cases aJ:L[q]? with
     |none=>rw[aJ]at he;cases he
     |some y=>
      obtain⟨fC,adZ⟩:=y;rw[aJ]at he;cases adZ with
      |dY=>exact cj.Fc q fC hh.1 fg aJ
      |hZ _=>cases he
      |read _ _=>cases he
   obtain⟨hh,j2,cc,az,e2⟩:=ab6 _ _ ns _ amT;have b8:=aV.snap cj.start p gE (by omega);rw[b8]at az;cases az;have dD:=Fu bR;have r3:=D.rd p x n ts aa;obtain⟨_,_,cZ,_⟩:=O4 dD g1 aP e2 (asF r3);obtain⟨_,_,v',fU,aE⟩:=cZ r3;have EE:(execOp a.eval o).run X.P w= .ok (.value v') w:=fU;have eJ:=Kx (b:=b) (a:=a) (k:=k) (cs:=bf (F c).cx) (rest:=rest) al ob (.inr (Zv dD (.inl r3))) EE;exact⟨c,ι,_,w,.one eJ,by rw[<-k7];exact cj.float D aa (by simp) gE Ii lz (by rw[jm];exact aE),iH,jE⟩
 |hZ ts=>
  obtain⟨g1,aP⟩:=cj.ab9 aV D h0 ax iS aa aD hn gE;obtain⟨_,_,j8⟩:=ah;rcases j8 with⟨gd,aE,jm⟩|⟨gd,dC,gv⟩
  ·have ob:=z5 bR g1 gd;have eJ:=Kw (P:=X.P) (b:=b) (a:=a) (k:=k) (cs:=bf (F c).cx) (w:=w) (rest:=rest) al ob;have Ii:¬vN L F p:=fun⟨y,QE,aJ,en⟩=>by
    rw[aa]at aJ;cases aJ;have I:gC ((F p).only ts) x.g (some true) (some false) none=some false:=gd;have U:gC ((F p).only ts) x.g (some true) (some false) none=some true:=en;rw[I]at U;cases U
   exact⟨c,ι,_,w,.one eJ,by rw[<-k7];exact cj.float D aa (by simp) gE Ii lz (by rw[aE];exact bw.undef _),iH,jE⟩
  ·have ob:=z5 bR g1 gd;have lQ:=D.hZ p x ts aa;have dD:=Fu bR;obtain⟨Ji,anH,_,jm,dZ⟩:=Rt (h0:=(T p).h) (ai:=(T p).ai) lQ gv;obtain⟨_,_,_,e6⟩:=O4 dD g1 aP (dZ (T c).h) (aem lQ);obtain⟨fP,O,ex,v',w',az,e2,fU,Ng,aE,en,ab⟩:=e6 lQ;have pq:(some Ji:am bB)=some fP:=by
    have:=congrArg (fun s:ar=>s.h.get (T p).ai) az;simp only[aq.eI,if_true]at this;exact this
   cases pq;have yW:kf X (iD (fL ι (T p).ai) (T p).ai ⟨w.heap.size,0,ex,id⟩) w' Ji ⟨w.heap.size,0,ex,id⟩:=by
    obtain⟨l,hl,hm⟩:=en.eC (T p).ai Ji (by show((T c).h.set (T p).ai Ji).get (T p).ai=_;rw[aq.eI,zab rfl]) anH;have:iD (fL ι (T p).ai) (T p).ai ⟨w.heap.size,0,ex,id⟩ (T p).ai=some ⟨w.heap.size,0,ex,id⟩:=zab rfl;have e:=this.symm.trans hl;cases e;exact hm
   have EE:(execOp a.eval o).run X.P w= .ok (.value v') w':=fU;have eJ:=Kx (b:=b) (a:=a) (k:=k) (cs:=bf (F c).cx) (rest:=rest) al ob (.inr (Zv dD (.inr lQ))) EE;exact⟨c,_,_,w',.one eJ,by rw[<-k7];exact cj.aiP aV D aa gE hn lz jm (by rfl) (by exact N1) Ng ab.g4 aE yW,iH,jE⟩
def ahD(dJ:mw X call)(cj:kX X aI L F T V hz fi E c ι a w)(aV:kz call Z L [st.h] fr st aF st' F T N V)(D:my X aI ops L cm eb ms)(h0:∀id,st.ai<=id->hz id=none)(ax:∀t∈eb,(F 0).tmp t=js)
 (iS:∀p,E p->ov ops cm E p) {p:Nat} (hp:p<L.length) {x:bA} (aa:L[p]? =some (x,.dY)) (ae:cm[p]? =some i) (aD:ov ops cm E p) (hn:¬E p) (iH:(F c).aQ=(F 0).aQ) (jE:(F c).bW=(F 0).bW)
 (gd:lJ (F p) x.g true) (Be:x.o.jh=true) {u:bi} {ac2:ar} (gv:bG call x.o (F p) (T p)= .aQ u ac2):
 ∃aU v' w',Steps X.P (lone (b.at a (.inRegion ops (i::rest)::k)) (bf (F p).cx) w) (lone (b.panics a (.inRegion ops (i::rest)::k) v') (bf (F p).cx) w')∧bw aU u v'∧bx X aU ac2 w'∧e4 hz aU fi w'∧cE aU (F p) a aI∧
  (F c).cx=(F p).cx∧(F p).aQ=(F 0).aQ∧(F p).bW=(F 0).bW:=by
 obtain⟨o,al,bR⟩:=D.op p i x .dY ae aa;have km:p<ops.size:=by rw[<-D.vc];exact hp
 have gE:c<=p:=by
  rcases zaj p c with h|h
  ·exact absurd (cj.low p h) hn
  ·exact h
 have yI:∀q,q<p->E q:=fun q hq=>D.before iS p aD km q (D.dY p x q aa hq);obtain⟨jW,hX,zX,xS,xT⟩:=cj.upto aV D p gE (by omega) (fun r _ h=>yI r h);have af:cE (fL ι (T p).ai) (F p) a aI:=⟨fun t=>cj.look aV D h0 ax iS aa aD hn (.inl rfl),cj.size,by rw[hX];exact cj.cL.mono (sU (.refl ι) (aV.m2 D gE (by omega)))⟩;have ob:=z5 bR af gd;obtain⟨aU,v',w',ah,aE,en,ab⟩:=aak (b:=b) (k:=k) (rest:=rest) (cs:=bf (F p).cx) bR dJ al ob af jW Be gv;have oM:=aV.m2 D (zaf p) (by omega);rw[aV.t0]at oM;have yD:hz.le (fL ι (T p).ai):=by
  intro id l hl;refine k2.2 ⟨?_,cj.keeps.le _ _ hl⟩;rcases zaj id st.ai with h|h
  ·omega
  ·rw[h0 id h]at hl;cases hl
 have XB:e4 hz (fL ι (T p).ai) fi w:=⟨yD,cj.keeps.size,cj.keeps.kept,fun id l hl=>cj.keeps.new id l (k2.1 hl).2,cj.keeps.g4⟩;exact⟨aU,v',w',ah,aE,en,XB.trans ab,af.mono ab.le,zX.symm,xS.trans iH,xT.trans jE⟩
end
theorem SU{α:Type}{p q:α->Bool}:∀{l:ac α},(∀x∈l,p x=true->q x=true)->(∃x∈l,q x=true∧p x=false)->l.countP p<l.countP q
 |[],_,⟨x,aa,_⟩=>by cases aa
 |y::l,h,⟨x,aa,I,U⟩=>by
  have hle:l.countP p<=l.countP q:=List.countP_mono_left fun z ax=>h z (zaC _ ax);rw[zdS,zdS];rcases zah.1 aa with rfl|aa
  ·simp only[I,U,if_true];simp;omega
  ·have:=SU (fun z ax=>h z (zaC _ ax)) ⟨x,aa,I,U⟩;have aJ:=h y zbf;cases hp:p y with
   |false=>simp;split<;>omega
   |true=>simp[aJ hp];omega
section
variable{aI:Nat}{ops:be Oper}{L:ac (bA×cD)}{cm:ac Nat}{eb:ac Tmp}{ms:ac Nat}
variable{Z:Nat->Bool}{fr aF:aO}{st st':ar}{F:Nat->aO}{T:Nat->ar}{N:Nat->ac (aq bB)}{V:Nat->bi}{hz:bu}{fi:d7}
variable{b:dK}{bf:Bool->ac Frame}{k:ac Item}
variable{listed:be Bool}{i:Nat}
def mx(cm:ac Nat)(listed:be Bool):Nat->Prop:=fun p=>∃i,cm[p]? =some i∧listed.getD i false=true
def alM:listed.getD i false=true->listed.getD i true=true:=by
 intro h;rcases zaj i listed.size with ae|ae
 ·simpa[ae]using h
 ·simp[ae]at h
def WM(ae:i<listed.size)(h:listed.getD i false≠true):listed.getD i true=false:=by
 simpa[ae]using h
def my.aen(D:my X aI ops L cm eb ms)(e0:listed.size=ops.size)(h:Region.ready .any ops listed=[]):∀p,p<L.length->mx cm listed p:=by
 intro p
 induction p using Nat.strongRecOn with
 |_ p ba=>
  intro hp;have km:p<ops.size:=by rw[<-D.vc];exact hp
  have ae:cm[p]? =some (cm[p]'(by rw[D.zi];exact km)):=bg _;obtain⟨⟨x,bI⟩,aa⟩:∃x,L[p]? =some x:=⟨_,bg hp⟩;obtain⟨o,al,_⟩:=D.op p _ x bI ae aa;refine⟨_,ae,?_⟩;by_cases hl:listed.getD (cm[p]'(by rw[D.zi];exact km)) false=true
  ·exact hl
  ·exfalso;have aT:=(zbh.1 al).1;have w0:(cm[p]'(by rw[D.zi];exact km))∈Region.ready .any ops listed:=by
    rw[mem_ready];refine⟨WM (by rw[e0];exact aT) hl,o,al,fun e he hb=> ?_⟩;obtain⟨q,hq,anV⟩:=D.ahS p _ o ae al e he hb;obtain⟨j,hj,hR⟩:=ba q hq (by omega);rw[anV]at hj;cases hj;exact hR
   rw[h]at w0;cases w0
def ahC(dJ:mw X call)(aV:kz call Z L [st.h] fr st aF st' F T N V)(D:my X aI ops L cm eb ms)(h0:∀id,st.ai<=id->hz id=none)(ax:∀t∈eb,(F 0).tmp t=js)
 (hb:ow hz (F 0).bW b.bW) (pt:j0 b (F 0).aQ hz bf) (n:Nat) (n8:K2 call Z L F T n) (MW:∀p,Z p=true->n<L.length∧(ms.getD p 0).testBit n=true):∀(fuel t:Nat) (listed:be Bool) (c:Nat) (ι:bu) (a:Act) (w:d7),listed.size=ops.size->(List.range ops.size).countP (fun i=> !listed.getD i true)<=fuel->
 (∀p,mx cm listed p->ov ops cm (mx cm listed) p)->¬mx cm listed n->kX X aI L F T V hz fi (mx cm listed) c ι a w->(F c).aQ=(F 0).aQ->(F c).bW=(F 0).bW->
 (∃l5 bL fX a' w',Steps X.P (lone (b.at a (.inRegion ops (Region.linearise.go .any ops fuel t listed [])::k)) (bf (F c).cx) w) (lone (b.at a' (.inRegion ops []::k)) (bf (F bL).cx) w')∧
  (∀p,p<L.length->l5 p)∧kX X aI L F T V hz fi l5 bL fX a' w'∧(F bL).aQ=(F 0).aQ∧(F bL).bW=(F 0).bW∧(l5 n->mx cm listed n))∨
 (∃l5 bL fX a' w' i rest,Steps X.P (lone (b.at a (.inRegion ops (Region.linearise.go .any ops fuel t listed [])::k)) (bf (F c).cx) w) (lone (b.at a' (.inRegion ops (i::rest)::k)) (bf (F bL).cx) w')∧
  n<L.length∧cm[n]? =some i∧(∀p,l5 p->ov ops cm l5 p)∧ov ops cm l5 n∧¬l5 n∧kX X aI L F T V hz fi l5 bL fX a' w'∧(F bL).aQ=(F 0).aQ∧(F bL).bW=(F 0).bW):=by
 intro fuel
 induction fuel with
 |zero=>
  intro t listed c ι a w e0 D8 n5 M9 cj iH jE;refine .inl ⟨mx cm listed,c,ι,a,w,.refl _ _,fun p hp=> ?_,cj,iH,jE,id⟩;have km:p<ops.size:=by rw[<-D.vc];exact hp
  have ae:cm[p]? =some (cm[p]'(by rw[D.zi];exact km)):=bg _;obtain⟨⟨x,bI⟩,aa⟩:∃x,L[p]? =some x:=⟨_,bg hp⟩;obtain⟨o,al,_⟩:=D.op p _ x bI ae aa;have aT:=(zbh.1 al).1;refine⟨_,ae,?_⟩;have I:=List.countP_eq_zero.1 (Nat.le_zero.1 D8) _ (zcN.2 aT);by_cases hl:listed.getD (cm[p]'(by rw[D.zi];exact km)) false=true
  ·exact hl
  ·rw[WM (by rw[e0];exact aT) hl]at I;simp at I
 |succ fuel ba=>
  intro t listed c ι a w e0 D8 n5 M9 cj iH jE;simp only[Region.linearise.go];change(∃l5 bL fX a' w',Steps X.P (lone (b.at a (.inRegion ops (match(Region.ready .any ops listed)[t%(Region.ready .any ops listed).length]? with
   |some i=>Region.linearise.go .any ops fuel (t/(Region.ready .any ops listed).length) (listed.setIfInBounds i true) [i]
   |none=>[].reverse)::k)) (bf (F c).cx) w) _∧_)∨(∃l5 bL fX a' w' i rest,Steps X.P (lone (b.at a (.inRegion ops (match(Region.ready .any ops listed)[t%(Region.ready .any ops listed).length]? with
   |some i=>Region.linearise.go .any ops fuel (t/(Region.ready .any ops listed).length) (listed.setIfInBounds i true) [i]
   |none=>[].reverse)::k)) (bf (F c).cx) w) _∧_)
  cases oL:(Region.ready .any ops listed)[t%(Region.ready .any ops listed).length]? with
  |none=>
   have Ex:Region.ready .any ops listed=[]:=by
    cases r3:Region.ready .any ops listed with
    |nil=>rfl
    |cons x xs=>
     rw[r3]at oL;have aT:t%(x::xs).length<(x::xs).length:=zai _ (by simp);simp at oL;simp at aT;omega
   exact .inl ⟨mx cm listed,c,ι,a,w,.refl _ _,D.aen e0 Ex,cj,iH,jE,id⟩
  |some i=>
   simp only[];rw[linearise_go_acc,List.reverse_singleton,List.singleton_append];obtain⟨NS,o,al,dZ⟩:=mem_ready.1 (zal oL);have aT:=(zbh.1 al).1;obtain⟨p,hp⟩:=D.au7 i aT;have ND:p<L.length:=by rw[D.vc,<-D.zi];exact(zac.1 hp).1
   have hn:¬mx cm listed p:=by
    rintro⟨j,hj,hR⟩;rw[hp]at hj;cases hj;rw[alM hR]at NS;cases NS
   have aD:ov ops cm (mx cm listed) p:=by
    intro hJ a8 dE hk e he Bb r uW;rw[hp]at dE;cases dE;rw[al]at hk;cases hk;exact⟨_,uW,dZ e he Bb⟩
   by_cases n9:p=n
   ·subst n9;exact .inr ⟨mx cm listed,c,ι,a,w,i,_,.refl _ _,ND,hp,n5,aD,hn,cj,iH,jE⟩
   have Bx:Z p=false:=by
    cases aoA:Z p with
    |false=>rfl
    |true=>exact absurd (D.before n5 p aD (by rw[<-D.vc];exact ND) n (MW p aoA).2) M9
   obtain⟨bL,fX,a',w',ah,kl,anO,an3⟩:=ahF (b:=b) (bf:=bf) (k:=k) (rest:=Region.linearise.go .any ops fuel (t/(Region.ready .any ops listed).length) (listed.setIfInBounds i true) []) dJ cj aV D h0 ax n5 ND Bx (fun x c aa=>n8 p x c n9 Bx aa) hp aD hn hb pt iH jE;have iS:C8 (mx cm listed) p=mx cm (listed.setIfInBounds i true):=by
    funext q;apply propext;constructor
    ·rintro(⟨j,hj,hR⟩|rfl)
     ·exact⟨j,hj,getD_set_true hR⟩
     ·exact⟨i,hp,by simp[e0,aT]⟩
    ·rintro⟨j,hj,hR⟩;by_cases e:j=i
     ·subst e;exact .inr (D.inj q p j hj hp)
     ·left;refine⟨j,hj,?_⟩;rw[getD_set_ne false (Ne.symm e)]at hR;exact hR
   rw[iS]at kl;have amR:∀p,mx cm (listed.setIfInBounds i true) p->ov ops cm (mx cm (listed.setIfInBounds i true)) p:=by
    rw[<-iS];rintro q (hq|rfl) hJ a8 dE hk e he Bb r uW
    ·exact .inl (n5 q hq hJ a8 dE hk e he Bb r uW)
    ·exact .inl (aD hJ a8 dE hk e he Bb r uW)
   have amW:¬mx cm (listed.setIfInBounds i true) n:=by
    rw[<-iS];rintro(h|h)
    ·exact M9 h
    ·exact n9 h.symm
   have amS:(List.range ops.size).countP (fun j=> !(listed.setIfInBounds i true).getD j true)<=fuel:=by
    refine Nat.le_of_lt_succ (fx (SU (fun j _ hj=> ?_) ⟨i,zcN.2 aT,?_,?_⟩) D8)
    ·by_cases e:j=i
     ·subst e;simp[e0,aT]at hj
     ·rw[getD_set_ne true (Ne.symm e)]at hj;exact hj
    ·rw[NS];rfl
    ·simp[e0,aT]
   rcases ba (t/(Region.ready .any ops listed).length) (listed.setIfInBounds i true) bL fX a' w' (by simp[e0]) amS amR amW kl anO an3 with⟨l5,LM,Q1,Lc,ky,dP,HV,amt,anM,anX,amU⟩|⟨l5,LM,Q1,Lc,ky,hJ,asQ,dP,an0⟩
   ·refine .inl ⟨l5,LM,Q1,Lc,ky,ah.trans dP,HV,amt,anM,anX,fun h=> ?_⟩;have:=amU h;rw[<-iS]at this;rcases this with h|h
    ·exact h
    ·exact absurd h.symm n9
   ·exact .inr ⟨l5,LM,Q1,Lc,ky,hJ,asQ,ah.trans dP,an0⟩
def ahE{ι:bu}{a:Act}{w:d7}{id:Nat}(hm:X.P.follows .mixedOrders=true)(dJ:mw X call)(D:my X aI ops L cm eb ms)(af:cE ι fr a aI)(hw:bx X ι st w)(hb:ow ι fr.bW b.bW)(aD:j0 b fr.aQ ι bf):
 fD X b aI bf (lone (b.at a (.code (.region id ops true)::k)) (bf fr.cx) w) k fr ι w (ga call (qK call ms (dd L)) L [st.h] (ql fr eb) st):=by
 cases gv:ga call (qK call ms (dd L)) L [st.h] (ql fr eb) st with
 |no=>trivial
 |out e aF st'=>
  obtain⟨Z,F,T,N,V,aV,yM⟩:=ail _ _ _ _ _ _ _ gv;obtain⟨rG,vL,z9,QX,awp⟩:=aaD eb fr
  let dT:d7:={w with drawn:=w.drawn+1}
  have j9:bx X ι st dT:=hw.xH X rfl;have nn:F 0=ql fr eb:=aV.f0;have H4:∀id,st.ai<=id->ι id=none:=fun id h=>(hw.fresh id h).1;have j4:fL ι (T 0).ai=ι:=by rw[aV.t0];exact S1 H4
  have tb:∀p,¬mx cm (Array.replicate ops.size false) p:=by
   rintro p ⟨i,_,ae⟩;by_cases h:i<ops.size<;>simp[h]at ae
  have cj:kX X aI L F T V ι dT (mx cm (Array.replicate ops.size false)) 0 ι a dT:=by
   refine⟨fun p hp=>by omega,zaf _,.inl rfl,fun p x _ h=>absurd h (tb p),by rw[j4,aV.t0];exact j9,fun id l hl=>.inl ?_,fun p _ h=>absurd h (tb p),j9.gY,.refl _ _,af.size,by rw[j4,nn,awp];exact af.cL,fun p x bI t _ _ h=>absurd h (tb p),fun t _=> ?_⟩
   ·rw[aV.t0];rcases zaj id st.ai with h|h
    ·exact h
    ·rw[H4 id h]at hl;cases hl
   ·rw[nn,rG];by_cases h:t∈eb
    ·rw[zab h];exact .top _
    ·rw[zaa h];exact af.tmp t
  have oQ:=auO (P:=X.P) (b:=b) (a:=a) (k:=k) (cs:=bf fr.cx) (w:=w) (ops:=ops) (id:=id);have an6:Region.schedule (X.P.follows .mixedOrders) ops (w.tape w.drawn (.order b.fn id))=Region.linearise.go .any ops ops.size (w.tape w.drawn (.order b.fn id)) (Array.replicate ops.size false) []:=by
   simp only[Region.schedule,hm,zcO,if_true];rfl
  rw[an6]at oQ;have tj:bf (F 0).cx=bf fr.cx:=by rw[nn,QX]
  have uM:=fun n n8 MW=>ahC (b:=b) (bf:=bf) (k:=k) dJ aV D H4 (fun t h=>by rw[nn,rG,zab h]) (by rw[nn,z9];exact hb) (by rw[nn,vL];exact aD) n n8 MW ops.size (w.tape w.drawn (.order b.fn id)) (Array.replicate ops.size false) 0 ι a dT (by simp) (by
   refine zag List.countP_le_length ?_;simp) (fun p h=>absurd h (tb p)) (tb n) cj rfl rfl
  rw[tj]at uM;rcases yM with⟨rfl,Iz,n8,gw,aoj⟩|⟨n,x,u,aa,aoC,n8,gd,Be,rfl,rfl,Bp⟩
  case inr=>
   have XP:=(zac.1 aa).1;rcases uM n n8 (fun p hp=>⟨XP,(aoC p hp).2⟩)with⟨l5,bL,fX,a',w',ah,dZ,kl,fG,mU,gF⟩|⟨l5,bL,fX,a',w',i,rest,ah,n7,ae,n5,r3,anD,kl,fG,mU⟩
   ·exact absurd (gF (dZ n XP)) (tb n)
   ·obtain⟨aU,v',ky,j8,aE,oR,hI,Eb,az,e2,b8⟩:=ahD (b:=b) (bf:=bf) (k:=k) (rest:=rest) dJ kl aV D H4 (fun t h=>by rw[nn,rG,zab h]) n5 n7 aa ae r3 anD fG mU gd Be Bp;rw[az]at ah;exact⟨aU,a',ky,Eb,oR,e4.trans (w':=dT) (e4.xH ι rfl) hI,by rw[e2,nn,vL],by rw[b8,nn,z9],v',_,aE,(Steps.head oQ ah).trans j8⟩
  obtain⟨l5,bL,fX,a',w',ah,dZ,kl,fG,mU,_⟩:∃l5 bL fX a' w',_:=by
   rcases uM L.length n8 (fun p hp=>by rw[Iz p]at hp;cases hp)with h|⟨_,_,_,_,_,_,_,_,n7,_⟩
   ·exact h
   ·exact absurd n7 (Nat.lt_irrefl _)
  obtain⟨jW,hX,zX,xS,xT⟩:=kl.upto aV D L.length kl.G0 (cf _) (fun r _ h=>dZ r h);have EH:fL fX (T L.length).ai=fX:=by
   refine S1 fun id pj=> ?_;cases hl:fX id with
   |none=>rfl
   |some l=>
    exfalso;rcases kl.mE id l hl with h|⟨p,I,U,ag,au,a0⟩
    ·have:=aV.m2 D kl.G0 (cf _);omega
    ·obtain⟨o,l',b5,_⟩:=kl.gL p I ag au;have cY:(T (p+1)).ai=(T p).ai+1:=by rw[b5]
     have:=aV.m2 D (p:=p+1) (q:=L.length) U (cf _);omega
  rw[EH,aoj]at jW;rw[gw]at hX zX xS xT;have dN:cE fX aF a' aI:=by
   refine⟨fun t=> ?_,kl.size,by rw[hX];exact kl.cL.mono (S2 _ _)⟩;rw[<-gw];by_cases X9:∃(q:Nat) (y:bA) (d:cD),L[q]? =some (y,d)∧y.d=some t
   ·obtain⟨q,y,d,aJ,ay⟩:=X9;have hq:=(zac.1 aJ).1;rw[aV.QA D aJ ay L.length hq (cf _)];exact(kl.Gd q y d t aJ ay (dZ q hq)).mono (S2 _ _)
   ·have gG:∀(q:Nat) eT bL,L[q]? =some (eT,bL)->eT.d≠some t:=fun q eT bL b4 gF=>X9 ⟨q,eT,bL,b4,gF⟩;rw[aV.KE t L.length (cf _) fun q eT bL _ b4=>gG q eT bL b4];exact(kl.CI t fun q eT bL b4 gF=>absurd gF (gG q eT bL b4)).mono kl.keeps.le
  refine⟨fX,a',w',dN,jW,e4.trans (w':=dT) (e4.xH ι rfl) kl.keeps,?_,?_,?_⟩
  ·rw[xS,fG,nn,vL]
  ·rw[xT,mU,nn,z9]
  ·rw[<-zX]at ah;exact(Steps.head oQ ah).trans (.one acU)
end
end Go.an
namespace Go.an
variable{X:Ctx}
abbrev vO:=Nat×(bA×cD)×Nat×Nat
def rv:Nat->ac (bA×cD)->ac Nat->ac Nat->ac vO
 |p,a::L,i::cm,m::ms=>(p,a,i,m)::rv (p+1) L cm ms
 |_,_,_,_=>[]
theorem ab1:∀(L:ac (bA×cD)) (cm ms:ac Nat) (nB p:Nat) {a:bA×cD} {i m:Nat},L[p]? =some a->cm[p]? =some i->ms[p]? =some m->(nB+p,a,i,m)∈rv nB L cm ms
 |[],_,_,_,p,_,_,_,h,_,_=>by simp at h
 |_::_,[],_,_,p,_,_,_,_,h,_=>by simp at h
 |_::_,_::_,[],_,p,_,_,_,_,_,h=>by simp at h
 |a'::L,hJ::cm,eG::ms,nB,p,a,i,m,I,U,ag=>by
  cases p with
  |zero=>
   simp at I U ag;subst I U ag;exact zbf
  |succ p=>
   have:=ab1 L cm ms (nB+1) p (a:=a) (i:=i) (m:=m) (by simpa using I) (by simpa using U) (by simpa using ag);rw[show nB+(p+1)=nB+1+p by omega];exact zaC _ this
theorem ab0:∀(L:ac (bA×cD)) (cm ms:ac Nat) (nB:Nat) {r:vO},r∈rv nB L cm ms->∃p:Nat,r.1=nB+p∧L[p]? =some r.2.1∧cm[p]? =some r.2.2.1∧ms[p]? =some r.2.2.2
 |[],_,_,_,_,h=>by simp[rv]at h
 |_::_,[],_,_,_,h=>by simp[rv]at h
 |_::_,_::_,[],_,_,h=>by simp[rv]at h
 |a'::L,hJ::cm,eG::ms,nB,r,h=>by
  simp only[rv]at h;rcases zah.1 h with rfl|h
  ·exact⟨0,rfl,rfl,rfl,rfl⟩
  ·obtain⟨p,I,U,ag,au⟩:=ab0 L cm ms (nB+1) h;exact⟨p+1,by omega,U,ag,au⟩
def zq(rows:ac vO)(p:Nat):ac Edge->am Nat
 |[]=>some 0
 |e::es=>if Region.binds .any e then
  match rows.find? (fun r=>Nat.beq r.2.2.1 e.on),zq rows p es with
  |some r,some m=>if Nat.ble (Nat.succ r.1) p then some (m|||((1<<<r.1)|||r.2.2.2))else none
  |_,_=>none
  else zq rows p es
theorem I4{rows:ac vO}{p:Nat}:∀(es:ac Edge) (m:Nat),zq rows p es=some m->
 (∀e∈es,Region.binds .any e=true->∃r∈rows,r.2.2.1=e.on∧r.1<p)∧
 (∀q,m.testBit q=true->∃e∈es,Region.binds .any e=true∧∃r∈rows,r.2.2.1=e.on∧r.1<p∧(q=r.1∨r.2.2.2.testBit q=true))
 |[],m,h=>by
  simp only[zq,Option.some.injEq]at h;subst h;exact⟨fun e he=>by simp at he,fun q hq=>by simp at hq⟩
 |e::es,m,h=>by
  simp only[zq]at h;by_cases hb:Region.binds .any e=true
  ·rw[zab hb]at h;split at h
   ·rename_i r eG aD kG;split at h
    ·rename_i aT;cases h;obtain⟨i1,i2⟩:=I4 es eG kG;have NP:=zco aD;have y1:r.2.2.1=e.on:=by
      have:=zcM aD;exact dI this
     have ED:r.1<p:=mA.1 aT;refine⟨fun bS j6 cP=> ?_,fun q hq=> ?_⟩
     ·rcases zah.1 j6 with rfl|j6
      ·exact⟨r,NP,y1,ED⟩
      ·exact i1 bS j6 cP
     ·rw[Nat.testBit_or,Nat.testBit_or,zcs,zcs]at hq;rcases hq with hq|hq|hq
      ·obtain⟨bS,j6,I,U⟩:=i2 q hq;exact⟨bS,zaC _ j6,I,U⟩
      ·rw[Nat.one_shiftLeft,Nat.testBit_two_pow]at hq;exact⟨e,zbf,hb,r,NP,y1,ED,.inl (zbd hq).symm⟩
      ·exact⟨e,zbf,hb,r,NP,y1,ED,.inr hq⟩
    ·cases h
   ·cases h
  ·rw[zaa hb]at h;obtain⟨i1,i2⟩:=I4 es m h;refine⟨fun bS j6 cP=> ?_,fun q hq=> ?_⟩
   ·rcases zah.1 j6 with rfl|j6
    ·exact absurd cP hb
    ·exact i1 bS j6 cP
   ·obtain⟨bS,j6,I,U⟩:=i2 q hq;exact⟨bS,zaC _ j6,I,U⟩
def Th(d:am Tmp)(t:Tmp):Bool:=match d with|some u=>Nat.beq u t|none=>false
def uF(ts:ac Tmp)(t:Tmp):Bool:=ts.any (Nat.beq t)
def HW{ts:ac Tmp}{t:Tmp}:uF ts t=true↔t∈ts:=by
 unfold uF;rw[zcP];constructor
 ·rintro⟨u,hu,h⟩;rw[eZ h];exact hu
 ·intro h;exact⟨t,h,zax t⟩
def FR(X:Ctx)(aI:Nat)(ops:be Oper)(L:ac (bA×cD))(rows:ac vO)(r:vO):Bool:=
 (match ops[r.2.2.1]? with
  |some o=>m4 X aI ops r.2.1.1 o&&(match zq rows r.1 o.after.toList with|some m=>Nat.beq m r.2.2.2|none=>false)
  |none=>false)&&
 (match r.2.1.2 with
  |.dY=>Nat.beq r.2.2.2 (2^r.1-1)
  |.hZ _=>r.2.1.1.o.u5
  |.read n _=>r.2.1.1.o.tm&&Nat.ble ((List.range r.1).countP (fun q=>ux L q&& !r.2.2.2.testBit q)) n)
def Cb(eb:ac Tmp)(r s:vO):Bool:=
 (!Nat.beq r.2.2.1 s.2.2.1||Nat.beq r.1 s.1)&&
 (match s.2.1.1.d with
  |none=>true
  |some t=>
   (!Th r.2.1.1.d t||Nat.beq r.1 s.1)&&
   (!Nat.ble (Nat.succ r.1) s.1||uF eb t|| !(r.2.1.2.za||uF r.2.1.2.looks t)||s.2.2.2.testBit r.1)&&
   (!Nat.ble (Nat.succ s.1) r.1|| !uF r.2.1.2.looks t||r.2.2.2.testBit s.1))
def Hk(X:Ctx)(aI:Nat)(ops:be Oper)(L:ac (bA×cD))(cm:ac Nat)(eb:ac Tmp)(ms:ac Nat):Bool:=
 (fun rows=>Nat.beq L.length ops.size&&Nat.beq cm.length ops.size&&Nat.beq ms.length ops.size&&(List.range ops.size).all (fun i=>uF cm i)&&rows.all (FR X aI ops L rows)&&rows.all (fun r=>rows.all (Cb eb r))) (rv 0 L cm ms)
def ahB{aI:Nat}{ops:be Oper}{L:ac (bA×cD)}{cm:ac Nat}{eb:ac Tmp}{ms:ac Nat}(h:Hk X aI ops L cm eb ms=true):my X aI ops L cm eb ms:=by
 unfold Hk at h;simp only[b1]at h;obtain⟨⟨⟨⟨⟨I,U⟩,ag⟩,au⟩,a0⟩,b5⟩:=h;have az:=eZ I;have e2:=eZ U;have b8:=eZ ag;rw[zaN]at au a0 b5;have kI:∀(p:Nat) a i,L[p]? =some a->cm[p]? =some i->(p,a,i,ms.getD p 0)∈rv 0 L cm ms:=by
  intro p a i ha ae;have hp:=(zac.1 ha).1;have hm:ms[p]? =some (ms.getD p 0):=by
   have:p<ms.length:=by omega
   simp[this]
  have:=ab1 L cm ms 0 p ha ae hm
  rwa [zas]at this
 have mN:∀p:Nat,p<L.length->∃i,cm[p]? =some i:=fun p hp=>⟨_,bg (by omega)⟩;have ft:∀p i:Nat,cm[p]? =some i->∃a,L[p]? =some a:=fun p i ae=>⟨_,bg (by have:=(zac.1 ae).1;omega)⟩;have bR:∀(p:Nat) a i,L[p]? =some a->cm[p]? =some i->FR X aI ops L (rv 0 L cm ms) (p,a,i,ms.getD p 0)=true:=fun p a i ha ae=>a0 _ (kI p a i ha ae);have Im:∀(p:Nat) a i (q:Nat) b j,L[p]? =some a->cm[p]? =some i->L[q]? =some b->cm[q]? =some j->Cb eb (p,a,i,ms.getD p 0) (q,b,j,ms.getD q 0)=true:=by
  intro p a i q b j ha ae hb hj;have:=b5 _ (kI p a i ha ae);rw[zaN]at this;exact this _ (kI q b j hb hj)
 have XL:∀(p i:Nat) a o,L[p]? =some a->cm[p]? =some i->ops[i]? =some o->m4 X aI ops a.1 o=true∧∃m,zq (rv 0 L cm ms) p o.after.toList=some m∧m=ms.getD p 0:=by
  intro p i a o ha ae al;have:=bR p a i ha ae;unfold FR at this;simp only[al,b1]at this;refine⟨this.1.1,?_⟩;have cY:=this.1.2;split at cY
  ·rename_i m hm;exact⟨m,hm,eZ cY⟩
  ·cases cY
 have uG:∀{r:vO} {p:Nat},r∈rv 0 L cm ms->∃q:Nat,r.1=q∧cm[q]? =some r.2.2.1∧ms.getD q 0=r.2.2.2:=by
  intro r p aD;obtain⟨q,g1,aP,bd,cu⟩:=ab0 L cm ms 0 aD;exact⟨q,by omega,bd,by simp[List.getD,cu]⟩
 have HZ:∀(p i:Nat) a,L[p]? =some a->cm[p]? =some i->(match a.2 with|.dY=>Nat.beq (ms.getD p 0) (2^p-1)|.hZ _=>a.1.o.u5|.read n _=>a.1.o.tm&&Nat.ble ((List.range p).countP (fun q=>ux L q&& !(ms.getD p 0).testBit q)) n)=true:=by
  intro p i a ha ae;have:=bR p a i ha ae;unfold FR at this;rw[b1]at this;exact this.2
 refine⟨az,e2,fun p i x c ae aa=> ?_,fun p x ts aa=> ?_,fun p x n ts aa=> ?_,fun p q i hp hq=> ?_,fun i ae=> ?_,fun p i o ae al e he hb=> ?_,fun p i o q ae al hq=> ?_,fun p x q aa hq=> ?_,fun p x n ts aa=> ?_,fun p q x y c d t aa aJ EM jF=> ?_,fun p q x y c d t aa aJ NJ jF It hl=> ?_,fun p q x y c d t aa aJ y0 jF hl=> ?_⟩
 ·have:=bR p (x,c) i aa ae;unfold FR at this;rw[b1]at this;have cY:=this.1;split at cY
  ·rename_i o al;rw[b1]at cY;exact⟨o,al,cY.1⟩
  ·cases cY
 ·obtain⟨i,ae⟩:=mN p (zac.1 aa).1;exact HZ p i _ aa ae
 ·obtain⟨i,ae⟩:=mN p (zac.1 aa).1;have:=HZ p i _ aa ae;simp only[b1]at this;exact this.1
 ·obtain⟨a,ha⟩:=ft p i hp;obtain⟨b,hb⟩:=ft q i hq;have:=Im p a i q b i ha hp hb hq;unfold Cb at this;simp only[b1,zcs]at this;rcases this.1 with h|h
  ·simp at h
  ·exact eZ h
 ·have:=au i (zcN.2 ae);have hm:=HW.1 this;obtain⟨p,hp,he⟩:=List.mem_iff_getElem.1 hm;exact⟨p,by rw[bg hp,he]⟩
 ·obtain⟨a,ha⟩:=ft p i ae;obtain⟨_,m,hm,_⟩:=XL p i a o ha ae al;obtain⟨r,aD,cY,h4⟩:=(I4 _ _ hm).1 e (by simpa using he) hb;obtain⟨q,g1,aP,_⟩:=uG (p:=0) aD;exact⟨q,by omega,by rw[aP,cY]⟩
 ·obtain⟨a,ha⟩:=ft p i ae;obtain⟨_,m,hm,rfl⟩:=XL p i a o ha ae al;obtain⟨e,he,hb,r,aD,cY,h4,jl⟩:=(I4 _ _ hm).2 q hq;obtain⟨gl,g1,aP,bd⟩:=uG (p:=0) aD;exact⟨e,by simpa using he,hb,gl,by omega,by rw[aP,cY],by rw[bd,<-g1];exact jl⟩
 ·obtain⟨i,ae⟩:=mN p (zac.1 aa).1;have:=eZ (HZ p i _ aa ae);rw[this,Nat.testBit_two_pow_sub_one];simpa using hq
 ·obtain⟨i,ae⟩:=mN p (zac.1 aa).1;have:=HZ p i _ aa ae;simp only[b1]at this;exact mA.1 this.2
 ·obtain⟨i,ae⟩:=mN p (zac.1 aa).1;obtain⟨j,hj⟩:=mN q (zac.1 aJ).1;have:=Im p _ i q _ j aa ae aJ hj;unfold Cb at this;simp only[jF,b1]at this;have cY:=this.2.1.1;simp[Th,EM]at cY;exact cY
 ·obtain⟨i,ae⟩:=mN p (zac.1 aa).1;obtain⟨j,hj⟩:=mN q (zac.1 aJ).1;have:=Im p _ i q _ j aa ae aJ hj;unfold Cb at this;simp only[jF,b1]at this;have cY:=this.2.1.2;have g1:Nat.ble (Nat.succ p) q=true:=mA.2 NJ;have aP:uF eb t=false:=by rw[zbG];intro h;exact It (HW.1 h)
  have bd:(c.za||uF c.looks t)=true:=by
   rcases hl with rfl|hl
   ·rfl
   ·rw[zcs];exact .inr (HW.2 hl)
  rw[g1,aP,bd]at cY;simpa using cY
 ·obtain⟨i,ae⟩:=mN p (zac.1 aa).1;obtain⟨j,hj⟩:=mN q (zac.1 aJ).1;have:=Im p _ i q _ j aa ae aJ hj;unfold Cb at this;simp only[jF,b1]at this;have cY:=this.2.2;have g1:Nat.ble (Nat.succ q) p=true:=mA.2 y0;have aP:uF c.looks t=true:=HW.2 hl;rw[g1,aP]at cY;simpa using cY
end Go.an
namespace Go.an
variable{X:Ctx}{call:bF}
def xG(X:Ctx)(aI:Nat)(ops:be Oper):ac bA->ac Oper->Bool
 |[],[]=>true
 |x::xs,o::os=>m4 X aI ops x o&&xG X aI ops xs os
 |_,_=>false
theorem P9{aI:Nat}{ops:be Oper}:∀{xs:ac bA} {os:ac Oper},xG X aI ops xs os=true->xs.length=os.length∧∀(j:Nat) x o,xs[j]? =some x->os[j]? =some o->m4 X aI ops x o=true
 |[],[],_=>⟨rfl,fun j x o h=>by simp at h⟩
 |x::xs,o::os,h=>by
  simp only[xG,b1]at h;obtain⟨I,U⟩:=P9 h.2;refine⟨by simp[I],fun j eT a8 aa al=> ?_⟩;cases j with
  |zero=>simp at aa al;subst aa al;exact h.1
  |succ j=>exact U j eT a8 (by simpa using aa) (by simpa using al)
 |[],_::_,h=>by simp[xG]at h
 |_::_,[],h=>by simp[xG]at h
def zt:ac Nat->ac Nat->Bool
 |[],[]=>true
 |a::as,b::bh=>Nat.beq a b&&zt as bh
 |_,_=>false
theorem Zj:∀{as bh:ac Nat},zt as bh=true->as=bh
 |[],[],_=>rfl
 |a::as,b::bh,h=>by
  simp only[zt,b1]at h;rw[eZ h.1,Zj h.2]
 |[],_::_,h=>by simp[zt]at h
 |_::_,[],h=>by simp[zt]at h
def codeOk(X:Ctx)(aI:Nat):du->Code->Bool
 |.skip,.skip=>true
 |.skip,.label _=>true
 |.g3 xs,.region _ ops false=>xG X aI ops xs ops.toList
 |.rP L cm eb ms,.region _ ops true=>Hk X aI ops L cm eb ms
 |.seq a b,.seq c d=>codeOk X aI a c&&codeOk X aI b d
 |.cond x a b,.cond y c d=>ca X.aH x y&&codeOk X aI a c&&codeOk X aI b d
 |.block i a,.block j c=>Nat.beq i j&&codeOk X aI a c
 |.loop a,.loop c=>codeOk X aI a c
 |.tP f ps dt body,.rangeFunc g dA qD qH=>ca X.aH f g&&zt ps dA.toList&&ps.all (fun t=>Nat.ble (Nat.succ t) aI)&&codeOk X aI dt qD&&codeOk X aI body qH
 |.exit i,.exit j=>Nat.beq i j
 |.scope a,.scope c=>codeOk X aI a c
 |.ret,.ret=>true
 |.refuse,_=>true
 |_,_=>false
def Good(X:Ctx):Prop:=X.P.follows .mixedOrders=true∧∀fn c l4,X.ok fn c l4↔∃F,X.P.funcs[fn]? =some F∧codeOk X F.ntmps l4 c=true
section
variable{b:dK}{aI:Nat}{bf:Bool->ac Frame}
def Ah(X:Ctx)(call:bF)(b:dK)(aI:Nat)(bf:Bool->ac Frame):Prop:=
 ∀(f:bv) (ps:be Tmp) (dt body:du) (qD qH:Code) (ι:bu) (fr:aO) (a:Act) (st:ar) (w:d7) (k:ac Item),cN X.aH f=true->(∀t∈ps.toList,t<aI)->(∃F,X.P.funcs[b.fn]? =some F∧F.ntmps=aI)->X.ok b.fn qD dt->X.ok b.fn qH body->
  cE ι fr a aI->bx X ι st w->ow ι fr.bW b.bW->j0 b fr.aQ ι bf->
  fD X b aI bf (lone (b.at a (.code (.rangeFunc f ps qD qH)::k)) (bf fr.cx) w) k fr ι w (DQ call b.fn f ps.toList dt body fr st)
theorem fD.l0{s:Machine}{k k':ac Item}{fr:aO}{ι:bu}{w:d7}{r:ct}{g:aO->ar->ct}(hex:∀id,exitTo id k=exitTo id k')(h:fD X b aI bf s k fr ι w r)
 (aM:∀aU a' w' aF st',cE aU aF a' aI->bx X aU st' w'->e4 ι aU w w'->aF.aQ=fr.aQ->aF.bW=fr.bW->fD X b aI bf (lone (b.at a' k) (bf aF.cx) w') k' aF aU w' (g aF st')):fD X b aI bf s k' fr ι w (l0 r g):=by
 cases r with
 |no=>trivial
 |out e aF st'=>
  obtain⟨aU,a',w',I,U,ag,au,a0,b5⟩:=h;cases e with
  |norm=>exact fD.head b5 ag au a0 (aM aU a' w' aF st' I U ag au a0)
  |exit id=>
   obtain⟨hW,cY,h4⟩:=b5;exact⟨aU,a',w',I,U,ag,au,a0,hW,cY.trans (hex id),h4⟩
  |ret=>exact⟨aU,a',w',I,U,ag,au,a0,b5⟩
  |aQ v=>exact⟨aU,a',w',I,U,ag,au,a0,b5⟩
def fD.cK{s:Machine}{k:ac Item}{fr:aO}{ι:bu}{w:d7}{r:ct}{i:Nat}(I:fD X b aI bf s (.inBlock i::k) fr ι w r):fD X b aI bf s k fr ι w (qG i r):=by
 cases r with
 |no=>trivial
 |out e aF st'=>
  obtain⟨aU,a',w',U,ag,au,a0,b5,cY⟩:=I;cases e with
  |norm=>exact⟨aU,a',w',U,ag,au,a0,b5,Steps.trans cY (.one auI)⟩
  |exit id=>
   obtain⟨hW,h4,jl⟩:=cY;show fD X b aI bf _ k fr ι w (dQ id i (.out .norm aF st') (.out (.exit id) aF st'));rw[pZ];by_cases e:id=i
   ·subst e;rw[zab rfl];have rX:exitTo id hW=some k:=by rw[h4];simp[exitTo]
    exact⟨aU,a',w',U,ag,au,a0,b5,Steps.trans jl (.one (auH rX))⟩
   ·rw[zaa e];refine⟨aU,a',w',U,ag,au,a0,b5,hW,?_,jl⟩;rw[h4];have:¬i=id:=fun h=>e h.symm;simp[exitTo,this]
  |ret=>exact⟨aU,a',w',U,ag,au,a0,b5,cY⟩
  |aQ v=>exact⟨aU,a',w',U,ag,au,a0,b5,cY⟩
def xO(r:ct):l0 r (fun fr st=>.out .norm fr st)=r:=by
 cases r with
 |no=>rfl
 |out e fr st=>cases e<;>rfl
def G5(db:Good X)(dJ:mw X call)(te:Ah X call b aI bf)(gw:∃F,X.P.funcs[b.fn]? =some F∧F.ntmps=aI)(bE:Nat):∀(l4:du) (c:Code) (ι:bu) (fr:aO) (a:Act) (st:ar) (w:d7) (k:ac Item),codeOk X aI l4 c=true->
 cE ι fr a aI->bx X ι st w->ow ι fr.bW b.bW->j0 b fr.aQ ι bf->
 fD X b aI bf (lone (b.at a (.code c::k)) (bf fr.cx) w) k fr ι w (cR call bE b.fn l4 fr st):=by
 obtain⟨Fn,ao,pg⟩:=gw;intro l4
 induction l4 with
 |skip=>
  intro c ι fr a st w k hc af hw hb aD;cases c with
  |skip=>exact⟨ι,a,w,af,hw,.refl _ _,rfl,rfl,.one auU⟩
  |label l=>exact⟨ι,a,w,af,hw,.refl _ _,rfl,rfl,.one auJ⟩
  |_=>cases hc
 |g3 xs=>
  intro c ι fr a st w k hc af hw hb aD;cases c with
  |region id ops draw=>
   cases draw with
   |true=>cases hc
   |false=>
    obtain⟨I,U⟩:=P9 (hc:xG X aI ops xs ops.toList=true);have:=Jp (b:=b) (bf:=bf) (k:=k) (ops:=ops) (aI:=aI) dJ xs (List.range ops.size) ι fr a st w (by simpa using I) (fun j x i aa ae=>by
     have mM:i=j:=by
      obtain⟨hj,he⟩:=zac.1 ae;simpa using he.symm
     subst mM;have aT:i<ops.size:=by simpa using(zac.1 ae).1
     exact⟨ops[i],zbQ aT,U i x _ aa (by simp[aT])⟩) af hw hb aD
    exact fD.head (.one acT) (.refl _ _) rfl rfl this
  |_=>cases hc
 |rP L cm eb ms=>
  intro c ι fr a st w k hc af hw hb aD;cases c with
  |region id ops draw=>
   cases draw with
   |false=>cases hc
   |true=>exact ahE db.1 dJ (ahB (hc:Hk X aI ops L cm eb ms=true)) af hw hb aD
  |_=>cases hc
 |seq x y N6 y9=>
  intro c ι fr a st w k hc af hw hb aD;cases c with
  |seq c d=>
   have hc:(codeOk X aI x c&&codeOk X aI y d)=true:=hc;rw[b1]at hc;have I:=N6 c ι fr a st w (.code d::k) hc.1 af hw hb aD;refine fD.head (.one acY) (.refl _ _) rfl rfl (fD.l0 (k:=.code d::k) (k':=k) (fun id=>rfl) I fun aU a' w' aF st' dN en ab hp hn=> ?_);exact y9 d aU aF a' st' w' k hc.2 dN en (by rw[hn];exact hb.mono ab.le) (by rw[hp];exact aD.mono ab.le)
  |_=>cases hc
 |cond x y z y9 N7=>
  intro c ι fr a st w k hc af hw hb aD;cases c with
  |cond o c d=>
   have hc:(ca X.aH x o&&codeOk X aI y c&&codeOk X aI z d)=true:=hc;simp only[b1]at hc;obtain⟨rfl,al⟩:=dc hc.1.1;show fD X b aI bf _ k fr ι w (mu (fr.ak x) (fun t=>_root_.cond t (cR call bE b.fn y fr st) (cR call bE b.fn z fr st)) .no);have aE:=af.ak hw al;generalize lR:a.eval x=v9 at aE;generalize fr.ak x=v at aE;cases v with
   |bool t=>
    cases aE;cases t with
    |true=>exact fD.head (.one (Kv lR)) (.refl _ _) rfl rfl (y9 c ι fr a st w k hc.1.2 af hw hb aD)
    |false=>exact fD.head (.one (Kv lR)) (.refl _ _) rfl rfl (N7 d ι fr a st w k hc.2 af hw hb aD)
   |_=>trivial
  |_=>cases hc
 |block i x ba=>
  intro c ι fr a st w k hc af hw hb aD;cases c with
  |block j c=>
   have hc:(Nat.beq i j&&codeOk X aI x c)=true:=hc;rw[b1]at hc;have e:=eZ hc.1;subst e;have I:=ba c ι fr a st w (.inBlock i::k) hc.2 af hw hb aD;refine fD.head (.one acM) (.refl _ _) rfl rfl ?_;exact I.cK
  |_=>cases hc
 |loop x ba=>
  intro c ι fr a st w k hc af hw hb aD;cases c with
  |loop c=>
   have hc:codeOk X aI x c=true:=hc;have key:∀(n:Nat) (ι:bu) (fr:aO) (a:Act) (st:ar) (w:d7),cE ι fr a aI->bx X ι st w->ow ι fr.bW b.bW->j0 b fr.aQ ι bf->
    fD X b aI bf (lone (b.at a (.code c:: .inLoop c::k)) (bf fr.cx) w) k fr ι w (Nat.rec (motive:=fun _=>aO->ar->ct) (fun _ _=>.no) (fun _ N4 fr st=>Go.an.l0 (cR call bE b.fn x fr st) N4) n fr st):=by
    intro n
    induction n with
    |zero=>intros;trivial
    |succ n N5=>
     intro ι fr a st w af hw hb aD;refine fD.l0 (k:=.inLoop c::k) (fun id=>rfl) (ba c ι fr a st w (.inLoop c::k) hc af hw hb aD) fun aU a' w' aF st' dN en ab hp hn=> ?_;exact fD.head (.one acO) (.refl _ _) rfl rfl (N5 aU aF a' st' w' dN en (by rw[hn];exact hb.mono ab.le) (by rw[hp];exact aD.mono ab.le))
   exact fD.head (.one acQ) (.refl _ _) rfl rfl (key bE ι fr a st w af hw hb aD)
  |_=>cases hc
 |tP f ps dt body _ _=>
  intro c ι fr a st w k hc af hw hb aD;cases c with
  |rangeFunc g dA qD qH=>
   have hc:(ca X.aH f g&&zt ps dA.toList&&ps.all (fun t=>Nat.ble (Nat.succ t) aI)&&codeOk X aI dt qD&&codeOk X aI body qH)=true:=hc;simp only[b1]at hc;obtain⟨⟨⟨⟨I,U⟩,a0⟩,ag⟩,au⟩:=hc;rw[zaN]at a0;obtain⟨rfl,al⟩:=dc I;have e:=Zj U;subst e;exact te f dA dt body qD qH ι fr a st w k al (fun t aV=>mA.1 (a0 t aV)) ⟨Fn,ao,pg⟩ ((db.2 _ _ _).2 ⟨Fn,ao,by rw[pg];exact ag⟩) ((db.2 _ _ _).2 ⟨Fn,ao,by rw[pg];exact au⟩) af hw hb aD
  |_=>cases hc
 |exit i=>
  intro c ι fr a st w k hc af hw hb aD;cases c with
  |exit j=>
   have e:=eZ (hc:Nat.beq i j=true);subst e;exact⟨ι,a,w,af,hw,.refl _ _,rfl,rfl,k,rfl,.refl _ _⟩
  |_=>cases hc
 |scope x ba=>
  intro c ι fr a st w k hc af hw hb aD;cases c with
  |scope c=>
   have I:=ba c ι fr a st w (.inScope c::k) hc af hw hb aD;refine fD.head (.one acX) (.refl _ _) rfl rfl ?_;show fD X b aI bf _ k fr ι w (cR call bE b.fn x fr st);rw[<-xO (cR call bE b.fn x fr st)];exact fD.l0 (k:=.inScope c::k) (fun id=>rfl) I fun aU a' w' aF st' dN en _ _ _=>⟨aU,a',w',dN,en,.refl _ _,rfl,rfl,.one acP⟩
  |_=>cases hc
 |ret=>
  intro c ι fr a st w k hc af hw hb aD;cases c with
  |ret=>exact⟨ι,a,w,af,hw,.refl _ _,rfl,rfl,k,.refl _ _⟩
  |_=>cases hc
 |refuse=>intros;trivial
end
def abQ(X:Ctx):hB->ResultVar->Bool
 |.tmp t,.tmp u=>Nat.beq t u
 |.cell a g n,.cell b t=>Nat.beq a b&&(match qA X.P t,gW X.P t with
  |some gD,some s=>(g==gD)&&(!g||Nat.beq n s)&&(g||Nat.beq n 1)
  |_,_=>false)
 |_,_=>false
def vz(X:Ctx):ac hB->ac ResultVar->Bool
 |[],[]=>true
 |x::xs,r::rs=>abQ X x r&&vz X xs rs
 |_,_=>false
def Cr(tmps:be bi):ResultVar->Sem bi
 |.tmp t=>pure (tmps.getD t undef)
 |.cell a t=>do loadVar t (<-asAddr (tmps.getD a undef))
section
variable{ι:bu}{fr:aO}{a:Act}{aI:Nat}{st:ar}{w:d7}
variable{out:ac bi}
def YS{α:Type}{a:Addr}{n:Nat}{k:ac bi->α}{z r:α}(h:st.load a n k z=r)(ax:z≠r):∃vs,k vs=r∧∀{Gn:Type} (k':ac bi->Gn) (qv:Gn),st.load a n k' qv=k' vs:=by
 obtain⟨I,cs,el,bk,bc,U,ag,au⟩:=BJ h ax;refine⟨_,au,fun k' qv=> ?_⟩;unfold ar.load ar.gN;rw[I,U];show iB cs a.off n k' qv=_;unfold iB;rw[DJ,Ga,zab ag];rfl
def apT{t:ci}{x:bv}{ad:Addr}{v:bi}(aa:a.eval x= .pointer (some ad))(h:(execOp a.eval {(default:Oper)with op:=.load t x}).run X.P w= .ok (.value v) w):(loadVar t ad).run X.P w= .ok v w:=by
 unfold execOp at h;simp only[aa,Instr.loadAt,Instr.sureAddr,Sem.run_bind,Sem.run_pure,Result.andThen]at h;generalize(loadVar t ad).run X.P w=r at h;cases r with
 |ok y w'=>simp only[Result.ok.injEq,Next.value.injEq]at h;obtain⟨rfl,rfl⟩:=h;rfl
 |halt e w'=>cases h
def asP{x:hB}{r:ResultVar}(bR:abQ X x r=true)(af:cE ι fr a aI)(hw:bx X ι st w){vs:ac bi}
 (h:hB.rec (motive:=fun _=>am (ac bi)) (fun t=>some (fr.tmp t::vs))
  (fun a agg n=>iM (fr.tmp a) (fun p=>bp p (fun ad=>st.load ad n (fun cs=>cond agg (some (.agg ⟨cs⟩::vs)) (one cs (fun v=>some (v::vs)) none)) none) none) none) x=some out):
 ∃v v',out=v::vs∧bw ι v v'∧(Cr a.tmps r).run X.P w= .ok v' w:=by
 cases x with
 |tmp t=>
  cases r with
  |tmp u=>
   have e:=eZ (bR:Nat.beq t u=true);subst e;have aG:some (fr.tmp t::vs)=some out:=h;cases aG;exact⟨_,_,rfl,af.tmp t,rfl⟩
  |cell b t=>cases bR
 |cell b g n=>
  cases r with
  |tmp u=>cases bR
  |cell eR t=>
   have bR:(Nat.beq b eR&&(match qA X.P t,gW X.P t with
    |some gD,some s=>(g==gD)&&(!g||Nat.beq n s)&&(g||Nat.beq n 1)
    |_,_=>false))=true:=bR
   rw[b1]at bR;have e:=eZ bR.1;subst e;have U:=bR.2;split at U
   ·rename_i gD s aM ah;simp only[b1]at U;obtain⟨⟨ag,au⟩,a0⟩:=U;have H6:g=gD:=by simpa using ag
    subst H6;obtain⟨d,ay,p8⟩:=Dc aM;obtain⟨i,ae,rfl⟩:=nM ah;have aG:iM (fr.tmp b) (fun p=>bp p (fun ad=>st.load ad n (fun cs=>cond g (some (.agg ⟨cs⟩::vs)) (one cs (fun v=>some (v::vs)) none)) none) none) none=some out:=h;obtain⟨p,hp,b5⟩:=qs aG (by simp);obtain⟨ad,rfl,cY⟩:=gA b5 (by simp);have gv:fr.ak (.tmp b)= .pointer (some ad):=hp;have mV:=af.tmp b;rw[hp]at mV;have amF:a.eval (.tmp b)=a.tmps.getD b undef:=rfl;generalize lR:a.tmps.getD b undef=v9 at mV;have fin:∀v v' l',a.tmps.getD b undef= .pointer (some l')->out=v::vs->bw ι v v'->(execOp a.eval {(default:Oper)with op:=.load t (.tmp b)}).run X.P w= .ok (.value v') w->∃v v',out=v::vs∧bw ι v v'∧(Cr a.tmps (.cell b t)).run X.P w= .ok v' w:=by
     intro v v' l' cC al aE fU;refine⟨v,v',al,aE,?_⟩;have hh:(loadVar t l').run X.P w= .ok v' w:=apT (a:=a) (x:=.tmp b) (by rw[amF,cC]) fU;simp only[Cr,cC,asAddr,Sem.run_bind,Sem.run_pure,Result.andThen];exact hh
    cases g with
    |true=>
     have hn:n=i.size:=by simpa using au
     subst hn;obtain⟨cs,h4,jl⟩:=YS cY (by simp);have amn:some (.agg ⟨cs⟩::vs)=some out:=h4;cases amn;have dD:Jn i.size (.tmp b) (fun _ _ _ _=>.no) fr st= .ok (.agg ⟨cs⟩) fr st:=by
      unfold Jn;rw[gv];exact jl (fun vs=>a1.ok (.agg ⟨vs⟩) fr st) .no
     obtain⟨_,_,_,v',fU,aE⟩:=acu (o:={(default:Oper)with op:=.load t (.tmp b)}) rfl rfl ay p8 ae af hw dD;cases mV with
     |ptr _ l hl dP=>exact fin _ v' _ lR rfl aE fU
    |false=>
     have hn:n=1:=by simpa using a0
     subst hn;obtain⟨cs,h4,jl⟩:=YS cY (by simp);obtain⟨v,rfl,rX⟩:=B5 (h4:one cs (fun v=>some (v::vs)) none=some out) (by simp);cases rX;have dD:Jm (.tmp b) (fun _ _ _ _=>.no) fr st= .ok v fr st:=by
      unfold Jm;rw[gv];exact jl (fun vs=>one vs (fun v=>a1.ok v fr st) .no) .no
     obtain⟨_,_,_,v',fU,aE⟩:=acs (o:={(default:Oper)with op:=.load t (.tmp b)}) rfl rfl ay p8 af hw dD;cases mV with
     |ptr _ l hl dP=>exact fin _ v' _ lR rfl aE fU
   ·cases U
theorem abR(af:cE ι fr a aI)(hw:bx X ι st w):∀(xs:ac hB) (rs:ac ResultVar) (out:ac bi),vz X xs rs=true->pd fr st xs=some out->
 ∃gB,bP ι out gB∧(rs.mapM (Cr a.tmps)).run X.P w= .ok gB w
 |[],[],out,_,h=>by
  have aG:some []=some out:=h;cases aG;exact⟨[],bP.nil ι,rfl⟩
 |x::xs,r::rs,out,bR,h=>by
  simp only[vz,b1]at bR;have aG:bp (pd fr st xs) (fun vs=>hB.rec (motive:=fun _=>am (ac bi)) (fun t=>some (fr.tmp t::vs))
   (fun a agg n=>iM (fr.tmp a) (fun p=>bp p (fun ad=>st.load ad n (fun cs=>cond agg (some (.agg ⟨cs⟩::vs)) (one cs (fun v=>some (v::vs)) none)) none) none) none) x) none=some out:=h
  obtain⟨vs,X8,I⟩:=gA aG (by simp);obtain⟨v,v',rfl,aE,fU⟩:=asP bR.1 af hw I;obtain⟨gB,aop,EE⟩:=abR af hw xs rs vs bR.2 X8;refine⟨v'::gB,bP.cons aE aop,?_⟩;rw[zdi];simp only[Sem.run_bind,fU,Result.andThen,EE,Sem.run_pure]
 |[],_::_,_,bR,_=>by simp[vz]at bR
 |_::_,[],_,bR,_=>by simp[vz]at bR
def asR{F:Func}{xs:ac hB}(bR:vz X xs F.results.toList=true)(af:cE ι fr a aI)(hw:bx X ι st w)(h:pd fr st xs=some out):
 ∃v',bw ι (one out (fun v=>v) (.tuple ⟨out⟩)) v'∧(results F a.tmps).run X.P w= .ok v' w:=by
 obtain⟨gB,aE,fU⟩:=abR af hw xs F.results.toList out bR h;have aD:(results F a.tmps)=(do let vs<-F.results.mapM (Cr a.tmps);pure (if h:vs.size=1 then vs[0]else .tuple vs)):=by
  unfold results;congr 2
 rw[aD];have hm:(F.results.mapM (Cr a.tmps)).run X.P w= .ok gB.toArray w:=by
  rw[zey];rw[Sem.run_map,fU];rfl
 simp only[Sem.run_bind,hm,Result.andThen,Sem.run_pure];refine⟨_,?_,rfl⟩;cases out with
 |nil=>rw[aE.xj];exact bw.pB (bP.nil ι)
 |cons v vs=>
  obtain⟨y,aw,rfl,I,U⟩:=aE.cons_inv;cases vs with
  |nil=>rw[U.xj];exact I
  |cons v2 avI=>
   obtain⟨adZ,axI,rfl,ag,au⟩:=U.cons_inv;rw[dif_neg (by simp)];exact bw.pB (xs:=⟨v::v2::avI⟩) (bP.cons I (bP.cons ag au))
end
def ic(X:Ctx)(ι:bu)(w:d7)(b:dK)(bf:Bool->ac Frame)(s:Machine):dk->Prop
 |.ret v st' eD=>∃aU v' w' F,bw aU v v'∧bx X aU st' w'∧e4 ι aU w w'∧F.kind=b.kind∧F.fn=b.fn∧Frame.going X.P F w' (.returned v')∧Steps X.P s (lone F (bf eD) w')
 |.aQ v st' eD=>∃aU v' w' F,bw aU v v'∧bx X aU st' w'∧e4 ι aU w w'∧F.kind=b.kind∧F.fn=b.fn∧Frame.going X.P F w' (.panicked [{v:=v',recovered:=false}])∧Steps X.P s (lone F (bf eD) w')
 |.no=>True
def ic.head{ι aU:bu}{w w':d7}{b:dK}{bf:Bool->ac Frame}{s bo:Machine}{r:dk}(h:Steps X.P s bo)(ab:e4 ι aU w w')(aG:ic X aU w' b bf bo r):ic X ι w b bf s r:=by
 cases r with
 |no=>trivial
 |ret v st eD=>obtain⟨dF,v',ky,F,I,U,ag,au,a0,b5,cY⟩:=aG;exact⟨dF,v',ky,F,I,U,ab.trans ag,au,a0,b5,h.trans cY⟩
 |aQ v st eD=>obtain⟨dF,v',ky,F,I,U,ag,au,a0,b5,cY⟩:=aG;exact⟨dF,v',ky,F,I,U,ab.trans ag,au,a0,b5,h.trans cY⟩
def vR(X:Ctx)(call:bF):Prop:=
 ∀(ι:bu) (f:co) (first fE:be bi) (args:ac bi) (aQ:am bi) (st:ar) (wG pQ:be bi) (kB:ac bi) (w:d7),
  bP ι first.toList wG.toList->bP ι args kB->bP ι fE.toList pQ.toList->bx X ι st w->call (.func (.func f) first fE) args aQ st≠.no->
  (∀as w,(callFunc f as).run X.P w= .ok (.enter f as) w)∧
  ∀(K:CallKind) (bf:Bool->ac Frame),j0 ⟨f,K,none⟩ aQ ι bf->ic X ι w ⟨f,K,none⟩ bf (lone (Frame.enter X.P f (wG++kB.toArray++pQ) K) (bf false) w) (call (.func (.func f) first fE) args aQ st)
variable{ι:bu}{m:am bi}{md:FrameMode}
def pc(aU:bu):am bi->FrameMode->Prop
 |none,m=>m= .returning
 |some v,m=>∃v',bw aU v v'∧m= .panicking [{v:=v',recovered:=false}]
def pc.mono{aU:bu}(hle:ι.le aU)(h:pc ι m md):pc aU m md:=by
 cases m with
 |none=>exact h
 |some v=>obtain⟨v',I,U⟩:=h;exact⟨v',I.mono hle,U⟩
def pc.Zw(h:pc ι m md):md≠.run:=by
 cases m with
 |none=>rw[show md= .returning from h];simp
 |some v=>obtain⟨v',_,U⟩:=h;rw[U];simp
theorem CL(gw:vR X call):∀(ds:ac Deferred) (m:am bi) (st:ar) (r:am bi×ar),jf call ds m st=some r->∀(ι:bu) (w:d7) (F:Frame) (cs:ac Frame),tZ ι ds F.defers->pc ι m F.mode->bx X ι st w->
 ∃aU w' md,Steps X.P (lone F cs w) (lone {F with defers:=[],mode:=md} cs w')∧pc aU r.1 md∧bx X aU r.2 w'∧e4 ι aU w w'
 |[],m,st,r,h,ι,w,F,cs,ay,hm,hw=>by
  have aG:some (m,st)=some r:=h;cases aG;have ao:F.defers=[]:=by
   cases lA:F.defers with
   |nil=>rfl
   |cons d ds=>rw[lA]at ay;exact ay.elim
  refine⟨ι,w,F.mode,?_,hm,hw,.refl _ _⟩;have:({F with defers:=[],mode:=F.mode}:Frame)=F:=by cases F;simp only at ao;subst ao;rfl
  rw[this];exact .refl _ _
 |⟨t,args⟩::ds,m,st,r,h,ι,w,F,cs,ay,hm,hw=>by
  cases lA:F.defers with
  |nil=>rw[lA]at ay;exact ay.elim
  |cons e es=>
   rw[lA]at ay;obtain⟨⟨amH,w3⟩,iT⟩:=ay;cases t with
   |collected ab2=>
    cases het:e.target with
    |collected qE=>
     rw[het]at w3;simp only[jf]at h;split at h
     ·rename_i me;rw[kR]at h;obtain⟨l,hl,_,_,XM⟩:=hw.eC _ _ me (by simp);have az:=w3.symm.trans hl;cases az;rcases XM with⟨_,Ng⟩|⟨hc,_⟩
      ·have aT:qE<w.heap.size:=hw.gY _ _ hl;have aoh:(Instr.takeDeferred qE).run X.P w= .ok [] (w.putObj qE (.deferred none)):=run_takeDeferred Ng;have oQ:=step_collected (P:=X.P) (cs:=cs) hm.Zw lA het aoh;obtain⟨en,fF⟩:=hw.vF X me (by simp) (fun af=>af) hl (.hG none) (.deferred none) (w.putObj qE (.deferred none)) rfl (fun _ aV=>⟨rfl,rfl,.inr ⟨rfl,aV⟩⟩);obtain⟨aU,w',md,ah,g1,aP,bd⟩:=CL gw ds m _ r h ι _ {F with defers:=[]++es} cs (by simpa using iT) hm en;exact⟨aU,w',md,.head oQ ah,g1,aP,fF.trans bd⟩
      ·cases hc
     ·cases h
    |_=>rw[het]at w3;exact w3.elim
   |fn fv fE=>
    cases het:e.target with
    |fn amc pQ=>
     rw[het]at w3;obtain⟨Bg,M4⟩:=w3;cases fv with
     |func g=>
      rcases Bg with⟨rfl,_⟩|⟨l,b,I,_⟩
      ·have hne:call (.func (.func g) #[] fE) args.toList m st≠.no:=by
        intro gG;simp only[jf,gG]at h;cases h
       obtain⟨M3,mJ⟩:=gw ι g #[] fE args.toList m st #[] pQ e.args.toList w (bP.nil ι) amH M4 hw hne;have hinv:(invoke e.target e.args).run X.P w= .ok (.enter g (e.args++pQ)) w:=by
        rw[het];exact M3 _ _
       have oQ:=step_defer (cs:=cs) hm.Zw lA het hinv;have amI:(#[]++e.args.toList.toArray++pQ:be bi)=e.args++pQ:=by simp
       rw[amI]at mJ;cases m with
       |none=>
        have Eu:F.mode= .returning:=hm;have wR:=mJ .deferred (fun _=>{F with defers:=es}::cs) (fun G eD db=>by
         show tryRecover G ({F with defers:=es}::cs)=none;have D3:G.kind= .deferred:=db;rw[tryRecover_deferred D3];simp[recoverD,Eu])
        cases hc:call (.func (.func g) #[] fE) args.toList none st with
        |no=>exact absurd hc hne
        |ret v cp eD=>
         rw[hc]at wR;have aG:jf call ds none cp=some r:=by
          simp only[jf,hc]at h;exact h
         obtain⟨aU,v',w',G,_,en,ab,Ia,_,uM,ah⟩:=wR;have q9:=step_going_returned (P:=X.P) (c:={F with defers:=es}) (cs:=cs) Ia uM;have r4:settle ({F with defers:=es}:Frame).mode= .returning:=by
          show settle F.mode=_;rw[Eu];rfl
         rw[r4]at q9;obtain⟨ln,ky,md,dP,g1,aP,bd⟩:=CL gw ds none cp r aG aU w' {{F with defers:=es}with mode:=.returning} cs (iT.mono ab.le) (show pc aU none .returning from rfl) en;exact⟨ln,ky,md,(Steps.head oQ ah).trans (.head q9 dP),g1,aP,ab.trans bd⟩
        |aQ v cp eD=>
         rw[hc]at wR;have aG:jf call ds (some v) cp=some r:=by
          simp only[jf,hc]at h;exact h
         obtain⟨aU,v',w',G,aE,en,ab,Ia,_,uM,ah⟩:=wR;have q9:=step_going_panicked (P:=X.P) (c:={F with defers:=es}) (cs:=cs) uM;have r4:raised ({F with defers:=es}:Frame).mode [{v:=v',recovered:=false}]= .panicking [{v:=v',recovered:=false}]:=by
          show raised F.mode _=_;rw[Eu];rfl
         rw[r4]at q9;obtain⟨ln,ky,md,dP,g1,aP,bd⟩:=CL gw ds (some v) cp r aG aU w' {{F with defers:=es}with mode:=.panicking [{v:=v',recovered:=false}]} cs (iT.mono ab.le) ⟨v',aE,rfl⟩ en;exact⟨ln,ky,md,(Steps.head oQ ah).trans (.head q9 dP),g1,aP,ab.trans bd⟩
       |some tK=>
        obtain⟨o0,Bp,Eu⟩:=hm;have wR:=mJ .deferred (fun eD=>{F with defers:=es,mode:=.panicking [{v:=o0,recovered:=eD}]}::cs) ⟨o0,Bp,fun G db=>by
         have D3:G.kind= .deferred:=db;rw[tryRecover_deferred D3];simp[recoverD],fun G db=>by
         have D3:G.kind= .deferred:=db;rw[tryRecover_deferred D3];simp[recoverD]⟩
        have nn:({F with defers:=es,mode:=.panicking [{v:=o0,recovered:=false}]}:Frame)={F with defers:=es}:=by rw[<-Eu]
        rw[nn]at wR;cases hc:call (.func (.func g) #[] fE) args.toList (some tK) st with
        |no=>exact absurd hc hne
        |ret v cp eD=>
         rw[hc]at wR;obtain⟨aU,v',w',G,_,en,ab,Ia,_,uM,ah⟩:=wR;have q9:=step_going_returned (P:=X.P) (c:={F with defers:=es,mode:=.panicking [{v:=o0,recovered:=eD}]}) (cs:=cs) Ia uM;cases eD with
         |true=>
          have aG:jf call ds none cp=some r:=by
           simp only[jf,hc]at h;exact h
          have r4:settle ({F with defers:=es,mode:=.panicking [{v:=o0,recovered:=true}]}:Frame).mode= .returning:=rfl;rw[r4]at q9;obtain⟨ln,ky,md,dP,g1,aP,bd⟩:=CL gw ds none cp r aG aU w' {{F with defers:=es}with mode:=.returning} cs (iT.mono ab.le) (show pc aU none .returning from rfl) en;exact⟨ln,ky,md,(Steps.head oQ ah).trans (.head q9 dP),g1,aP,ab.trans bd⟩
         |false=>
          have aG:jf call ds (some tK) cp=some r:=by
           simp only[jf,hc]at h;exact h
          have r4:settle ({F with defers:=es,mode:=.panicking [{v:=o0,recovered:=false}]}:Frame).mode= .panicking [{v:=o0,recovered:=false}]:=rfl;rw[r4]at q9;obtain⟨ln,ky,md,dP,g1,aP,bd⟩:=CL gw ds (some tK) cp r aG aU w' {{F with defers:=es}with mode:=.panicking [{v:=o0,recovered:=false}]} cs (iT.mono ab.le) ⟨o0,Bp.mono ab.le,rfl⟩ en;exact⟨ln,ky,md,(Steps.head oQ ah).trans (.head q9 dP),g1,aP,ab.trans bd⟩
        |aQ v cp eD=>
         exfalso;simp only[jf,hc]at h;cases h
      ·cases I
     |_=>simp[jf]at h
    |_=>rw[het]at w3;exact w3.elim
   |_=>simp[jf]at h
section
variable{P:f5}{b:dK}{a:Act}{k:ac Item}{cs:ac Frame}{w:d7}
def dK.returns(b:dK)(a:Act)(hW:ac Item):Frame:={b.at a hW with mode:=.returning}
def acN(hb:b.bW=none):step P (lone (b.at a []) cs w)= .next (lone (b.returns a []) cs w):=step_lone_go (by simp[stepG,stepG.exec,dK.at,dK.returns,hb])
def acV(hb:b.bW=none):step P (lone (b.at a (.code .ret::k)) cs w)= .next (lone (b.returns a (.code .ret::k)) cs w):=step_lone_go (by simp[stepG,stepG.exec,dK.at,dK.returns,hb])
end
theorem RT:∀(vs:ac bi) (i:Nat) (t:aq bi) (j:Nat),(l7 vs i t).get j=if i<=j∧j<i+vs.length then vs[j-i]? else t.get j
 |[],i,t,j=>by rw[zaa (by simp)];rfl
 |v::vs,i,t,j=>by
  show(aq.jd (Nat.succ i) t i v fun t=>l7 vs (Nat.succ i) t).get j=_;rw[aq.zQ,RT vs (Nat.succ i) _ j,aq.eI];by_cases e:j=i
  ·subst e;rw[zaa (by omega),zab rfl,zab (by simp)];simp
  ·by_cases h:Nat.succ i<=j∧j<Nat.succ i+vs.length
   ·rw[zab h,zab (by simp only[zay];omega)];obtain⟨I,_⟩:=h;have:j-i=(j-Nat.succ i)+1:=by omega
    rw[this];simp
   ·rw[zaa h,zaa e,zaa (by simp only[zay];omega)]
def Tu{as as':ac bi}{aI:Nat}{aQ:am bi}{eD:Bool}{bW:am Nat}(h:bP ι as as')(hn:as.length<=aI):
 cE ι ⟨l7 as 0 .nil,[],aQ,eD,bW⟩ ⟨as'.toArray++Array.replicate (aI-as'.toArray.size) undef,[]⟩ aI:=by
 refine⟨fun t=> ?_,by simp[<-h.1];omega,trivial⟩;show bw ι (Option.rec (motive:=fun _=>bi) (.chan (some 0)) (fun v=>v) ((l7 as 0 .nil).get t)) _;rw[RT];by_cases aV:t<as.length
 ·rw[zab ⟨zaf _,by omega⟩];have ti:t<as'.length:=by rw[<-h.1];exact aV
  have:=h.2 t aV ti;simp only[Nat.sub_zero,bg aV];have aM:(as'.toArray++Array.replicate (aI-as'.toArray.size) undef).getD t undef=as'[t]:=by
   simp[Array.getElem?_append,ti]
  rw[aM];exact this
 ·rw[zaa (by omega)];exact .top _
section
variable{b:dK}{bf:Bool->ac Frame}{ι:bu}{fr:aO}{a:Act}{aI:Nat}{st:ar}{w:d7}
def A0(gw:vR X call){Fn:Func}{res:ac hB}{F:Frame}(ao:X.P.funcs[b.fn]? =some Fn)(uX:vz X res Fn.results.toList=true)(af:cE ι fr a aI)(hw:bx X ι st w)
 (I:F.tmps=a.tmps) (U:F.defers=a.defers) (ag:F.kind=b.kind) (au:F.fn=b.fn) (hm:pc ι m F.mode):ic X ι w b bf (lone F (bf fr.cx) w) (ff call res m fr st):=by
 unfold ff;cases hu:jf call fr.cL m st with
 |none=>trivial
 |some p=>
  obtain⟨eG,st'⟩:=p;obtain⟨aU,w',md,ah,g1,aP,bd⟩:=CL gw fr.cL m st (eG,st') hu ι w F (bf fr.cx) (by rw[U];exact af.cL) hm hw;cases eG with
  |some v=>
   obtain⟨v',aE,Np⟩:=g1;exact⟨aU,v',w',{F with defers:=[],mode:=md},aE,aP,bd,ag,au,⟨Np,rfl,Fn,by show X.P.funcs[F.fn]? =_;rw[au];exact ao⟩,ah⟩
  |none=>
   have Np:md= .returning:=g1;show ic X ι w b bf _ (bp (pd fr st' res) (fun vs=>one vs (fun v=>.ret v st' fr.cx) (.ret (.tuple ⟨vs⟩) st' fr.cx)) .no);cases he:pd fr st' res with
   |none=>trivial
   |some out=>
    have dN:cE aU ⟨fr.t,[],fr.aQ,fr.cx,fr.bW⟩ ⟨a.tmps,[]⟩ aI:=⟨fun t=>(af.tmp t).mono bd.le,af.size,trivial⟩;obtain⟨v',aE,fU⟩:=asR (F:=Fn) uX dN aP (show pd ⟨fr.t,[],fr.aQ,fr.cx,fr.bW⟩ st' res=some out from he);have NA:bp (some out) (fun vs=>one vs (fun v=>dk.ret v st' fr.cx) (.ret (.tuple ⟨vs⟩) st' fr.cx)) .no= .ret (one out (fun v=>v) (.tuple ⟨out⟩)) st' fr.cx:=by
     cases out with
     |nil=>rfl
     |cons x xs=>cases xs<;>rfl
    rw[NA];refine⟨aU,v',w',{F with defers:=[],mode:=md},aE,aP,bd,ag,au,⟨Np,rfl,Fn,by show X.P.funcs[F.fn]? =_;rw[au];exact ao,?_⟩,ah⟩;show(results Fn F.tmps).run X.P w'=_;rw[I];exact fU
structure vQ(X:Ctx)(f:co)(xf:cJ)(Fn:Func)(c:Code):Prop where
 fn:X.P.funcs[f]? =some Fn
 body:Fn.body=some c
 aI:Fn.ntmps=xf.aI
 code:codeOk X xf.aI xf.body c=true
 res:vz X xf.res Fn.results.toList=true
 name:(Fn.name== "runtime.NumGoroutine")=false
variable{f:co}{xf:cJ}{Fn:Func}{body:Code}
def vQ.enters(h:vQ X f xf Fn body)(as:be bi)(w:d7):(callFunc f as).run X.P w= .ok (.enter f as) w:=by
 have hn:=h.name;simp only[callFunc,program,Sem.run_bind];simp[Sem.run,h.fn,h.body,hn,Result.andThen]
def LI(db:Good X)(dJ:mw X call)(gw:vR X call)(te:∀b aI bf,b.bW=none->Ah X call b aI bf)(ok:vQ X f xf Fn body)(n:Nat){K:CallKind}{as as':ac bi}{aQ:am bi}
 (has:bP ι as as') (hw:bx X ι st w) (aD:j0 ⟨f,K,none⟩ aQ ι bf):ic X ι w ⟨f,K,none⟩ bf (lone (Frame.enter X.P f as'.toArray K) (bf false) w) (hF call n f xf as aQ st):=by
 unfold hF;rw[od];split
 ·rename_i hlen;rw[fe]at hlen
  let b:dK:=⟨f,K,none⟩
  have r0:Frame.enter X.P f as'.toArray K=b.at ⟨as'.toArray++Array.replicate (xf.aI-as'.toArray.size) undef,[]⟩ [.code body]:=by
   simp[Frame.enter,dK.at,ok.fn,ok.body,ok.aI,b]
  rw[r0];have Bt:=G5 (b:=b) (bf:=bf) db dJ (te b xf.aI bf rfl) ⟨Fn,ok.fn,ok.aI⟩ n xf.body body ι ⟨l7 as 0 .nil,[],aQ,false,none⟩ ⟨as'.toArray++Array.replicate (xf.aI-as'.toArray.size) undef,[]⟩ st w [] ok.code (Tu has hlen) hw (.inl ⟨rfl,rfl⟩) aD;cases gv:cR call n f xf.body ⟨l7 as 0 .nil,[],aQ,false,none⟩ st with
  |no=>trivial
  |out e aF st'=>
   have am2:cR call n b.fn xf.body ⟨l7 as 0 .nil,[],aQ,false,none⟩ st= .out e aF st':=gv;rw[am2]at Bt;obtain⟨aU,a',w',I,U,ag,_,_,b5⟩:=Bt;cases e with
   |norm=>
    refine ic.head (Steps.trans b5 (.one (acN rfl))) ag ?_;exact A0 (b:=b) (a:=a') (F:=b.returns a' []) (aI:=xf.aI) gw ok.fn ok.res I U rfl rfl rfl rfl (show pc aU none .returning from rfl)
   |exit id=>trivial
   |ret=>
    obtain⟨hW,cY⟩:=b5;refine ic.head (Steps.trans cY (.one (acV rfl))) ag ?_;exact A0 (b:=b) (a:=a') (F:=b.returns a' (.code .ret::hW)) (aI:=xf.aI) gw ok.fn ok.res I U rfl rfl rfl rfl (show pc aU none .returning from rfl)
   |aQ v=>
    obtain⟨v',hW,aE,cY⟩:=b5;refine ic.head cY ag ?_;exact A0 (b:=b) (a:=a') (F:=b.panics a' hW v') (aI:=xf.aI) gw ok.fn ok.res I U rfl rfl rfl rfl ⟨v',aE,rfl⟩
 ·trivial
end
def IX{β:Type}{o:am bB}{k:LoopState->am dq->co->aq bi->ac Tmp->du->du->Nat->β}{z r:β}(h:nw o k z=r)(ax:z≠r):
 ∃s gL fn t ps a b d,o=some (.loop s gL fn t ps a b d)∧k s gL fn t ps a b d=r:=by
 unfold nw at h;obtain⟨eH,al,I⟩:=gA h ax;cases eH<;>first|exact absurd I ax|exact⟨_,_,_,_,_,_,_,_,al,I⟩
section
variable{P:f5}{b:dK}{a:Act}{k:ac Item}{c:Frame}{cs:ac Frame}{w w':d7}{l:Nat}
variable{v:bi}
def auF(hb:b.bW=some l)(h:(Instr.beginRound l).run P w= .ok () w'):step P (lone (b.at a (.beginRound::k)) cs w)= .next (lone (b.at a k) cs w'):=
 step_lone_go (by simp[stepG,stepG.exec,stepG.apply,dK.at,hb,h,Result.andThen,Frame.finish])
def auR(hb:b.bW=some l)(ab:b.kind= .normal)(h:(Instr.endRound l none).run P w= .ok v w'):step P (lone (b.at a []) (c::cs) w)= .next (lone (c.finish v) cs w'):=
 step_lone_go (by simp[stepG,stepG.exec,dK.at,hb,ab,h,doReturn])
def auT(hb:b.bW=some l)(ab:b.kind= .normal)(h:(Instr.endRound l (some .ret)).run P w= .ok v w'):step P (lone (b.at a (.code .ret::k)) (c::cs) w)= .next (lone (c.finish v) cs w'):=
 step_lone_go (by simp[stepG,stepG.exec,dK.at,hb,ab,h,doReturn])
def auS{i:Nat}(hb:b.bW=some l)(ab:b.kind= .normal)(aa:exitTo i k=none)(h:(Instr.endRound l (some (.exit i))).run P w= .ok v w'):step P (lone (b.at a (.code (.exit i)::k)) (c::cs) w)= .next (lone (c.finish v) cs w'):=
 step_lone_go (by simp[stepG,stepG.exec,dK.at,hb,ab,aa,h,doReturn])
end
variable{st:ar}{w:d7}{l l':Nat}{s:LoopState}{gL:am dq}{t:aq bi}{ps:ac Tmp}{dt body:du}{d:Nat}
theorem aau{ι:bu}:∀(ps:ac Tmp) (vs gB:ac bi) (m:aq bi) (arr:be bi),(∀n,bw ι (CJ m n) (arr.getD n undef))->bP ι vs gB->vs.length=ps.length->(∀t∈ps,t<arr.size)->
 (∀n,bw ι (CJ (oZ ps vs m) n) (((ps.zip gB).foldl (fun tmps (p:Tmp×bi)=>tmps.setIfInBounds p.1 p.2) arr).getD n undef))∧((ps.zip gB).foldl (fun tmps (p:Tmp×bi)=>tmps.setIfInBounds p.1 p.2) arr).size=arr.size
 |[],_,_,m,arr,h,_,_,_=>⟨h,rfl⟩
 |t::ps,[],_,_,_,_,_,hl,_=>by simp at hl
 |t::ps,v::vs,gB,m,arr,h,aE,hl,aT=>by
  obtain⟨y,aw,rfl,I,U⟩:=aE.cons_inv;have aV:t<arr.size:=aT t zbf;have oQ:∀n,bw ι (CJ (m.set t v) n) ((arr.setIfInBounds t y).getD n undef):=by
   intro n;have hn:=h n;unfold CJ at hn⊢;rw[aq.eI];by_cases e:n=t
   ·subst e;rw[zab rfl];have:(arr.setIfInBounds n y).getD n undef=y:=by simp[aV]
    rw[this];exact I
   ·rw[zaa e];have:(arr.setIfInBounds t y).getD n undef=arr.getD n undef:=by
     simp[zby (Ne.symm e)]
    rw[this];exact hn
  obtain⟨g1,aP⟩:=aau ps vs aw (m.set t v) (arr.setIfInBounds t y) oQ U (by simpa using hl) (fun u hu=>by simpa using aT u (zaC _ hu));have hp:oZ (t::ps) (v::vs) m=oZ ps vs (m.set t v):=by
   show aq.jd (Nat.succ t) m t v (fun m=>oZ ps vs m)=_;rw[aq.zQ]
  rw[hp];refine⟨g1,?_⟩;rw[List.zip_cons_cons,zdh,aP];simp
def bx.loop(hw:bx X ι st w){fn:co}(h:st.h.get l=some (.loop s gL fn t ps dt body d))(hl:ι l=some ⟨l',0,0,id⟩):
 ∃L:Loop,w.heap[l']? =some (.loop L)∧L.state=s∧Gz gL L.pending∧L.fn=fn∧(∀n,bw ι (CJ t n) (L.tmps.getD n undef))∧L.params.toList=ps∧X.ok fn L.assign dt∧X.ok fn L.body body∧ι d=some ⟨L.defers,0,0,id⟩∧
  (∃F,X.P.funcs[fn]? =some F∧L.tmps.size=F.ntmps)∧∀t∈ps,t<L.tmps.size:=by
 obtain⟨m,hm,_,_,L,ft⟩:=hw.eC _ _ h (by simp);have e:=hl.symm.trans hm;cases e;exact⟨L,ft⟩
def bx.Ov(hw:bx X ι st w){fn:co}(h:st.h.get l=some (.loop s gL fn t ps dt body d))(hl:ι l=some ⟨l',0,0,id⟩)
 {L:Loop} (ft:w.heap[l']? =some (.loop L)) (bo:LoopState) (aay:am dq) (jump:am Code) (hj:Gz aay jump):
 bx X ι ⟨st.h.set l (.loop bo aay fn t ps dt body d),st.ai⟩ (w.putObj l' (.loop {L with state:=bo,pending:=jump}))∧e4 ι ι w (w.putObj l' (.loop {L with state:=bo,pending:=jump})):=by
 obtain⟨awr,h0,I,U,ag,au,a0,b5,cY,h4,jl,rX⟩:=hw.loop h hl;rw[ft]at h0;cases h0;exact hw.vF X h (by simp) (fun af=>af) hl _ (.loop {L with state:=bo,pending:=jump}) _ rfl fun _ aV=>⟨rfl,rfl,{L with state:=bo,pending:=jump},aV,rfl,hj,ag,au,a0,b5,cY,h4,jl,rX⟩
section
variable{ι:bu}{st:ar}{w:d7}
def asW{b:dK}{aI:Nat}{Fn:Func}{c:Frame}{cs:ac Frame}{s:Machine}{dC:aO}{aU:bu}{dT:d7}{r:ct}(pg:X.P.funcs[b.fn]? =some Fn)(yJ:b.bW=some l')(jP:b.kind= .normal)(hl:aU l=some ⟨l',0,0,id⟩)
 (h:fD X b aI (fun _=>c::cs) s [] dC aU dT r):
 match ru l r with
 |.ret v st' _=>∃dF v' w',bw dF v v'∧bx X dF st' w'∧e4 aU dF dT w'∧Steps X.P s (lone (c.finish v') cs w')
 |.aQ v st' _=>∃dF v' w',bw dF v v'∧bx X dF st' w'∧e4 aU dF dT w'∧Steps X.P s (lone (c.raise [{v:=v',recovered:=false}]) cs w')
 |.no=>True:=by
 cases r with
 |no=>trivial
 |out e fr st=>
  obtain⟨dF,a,w,af,hw,ab,_,_,aa⟩:=h;have nq:=ab.le _ _ hl;cases lA:fr.cL with
  |cons d ds=>
   have:ru l (.out e fr st)= .no:=by show List.rec (motive:=fun _=>dk) _ _ fr.cL=_;rw[lA]
   rw[this];trivial
  |nil=>
   have amG:a.defers=[]:=by
    have:=af.cL;rw[lA]at this;cases ha:a.defers with
    |nil=>rfl
    |cons d ds=>rw[ha]at this;exact this.elim
   have key:∀(bo:LoopState) (gL:am dq) (jump:am Code) (v:bi),Gz gL jump->
    (∀L,w.heap[l']? =some (.loop L)->∃w',w'=w.putObj l' (.loop {L with state:=bo,pending:=jump})∧Steps X.P s (lone (c.finish v) cs w'))->bw dF v v->
    match nw (st.h.get l) (fun _ _ fn t ps a b d=>st.hU l (.loop bo gL fn t ps a b d) fun st=>dk.ret v st false) .no with
    |.ret v st' _=>∃dF v' w',bw dF v v'∧bx X dF st' w'∧e4 aU dF dT w'∧Steps X.P s (lone (c.finish v') cs w')
    |.aQ v st' _=>∃dF v' w',bw dF v v'∧bx X dF st' w'∧e4 aU dF dT w'∧Steps X.P s (lone (c.raise [{v:=v',recovered:=false}]) cs w')
    |.no=>True:=by
    intro bo gL jump v hj eJ aE;by_cases gG:nw (st.h.get l) (fun _ _ fn t ps a b d=>st.hU l (.loop bo gL fn t ps a b d) fun st=>dk.ret v st false) .no= .no
    ·rw[gG];trivial
    ·obtain⟨aN,nB,HD,t0,Jy,qy,lq,d0,me,I⟩:=IX rfl (fun e=>gG e.symm);rw[<-I,kR];obtain⟨L,ft,_⟩:=hw.loop me nq;obtain⟨w',en,dP⟩:=eJ L ft;obtain⟨g1,aP⟩:=hw.Ov me nq ft bo gL jump hj;exact⟨dF,v,w',aE,by rw[en];exact g1,by rw[en];exact ab.trans aP,dP⟩
   cases e with
   |norm=>
    have:ru l (.out .norm fr st)=nw (st.h.get l) (fun _ _ fn t ps a b d=>st.hU l (.loop .ready none fn t ps a b d) fun st=>dk.ret (.bool true) st false) .no:=by
     show List.rec (motive:=fun _=>dk) _ _ fr.cL=_;rw[lA]
    rw[this];exact key .ready none none (.bool true) trivial (fun L ft=>⟨_,rfl,Steps.trans aa (.one (auR yJ jP (run_endRound none ft)))⟩) (.bool true)
   |exit i=>
    have:ru l (.out (.exit i) fr st)=nw (st.h.get l) (fun _ _ fn t ps a b d=>st.hU l (.loop .done (some (.exit i)) fn t ps a b d) fun st=>dk.ret (.bool false) st false) .no:=by
     show List.rec (motive:=fun _=>dk) _ _ fr.cL=_;rw[lA]
    rw[this];obtain⟨hW,aoi,b4⟩:=aa;exact key .done (some (.exit i)) (some (.exit i)) (.bool false) rfl (fun L ft=>⟨_,rfl,Steps.trans b4 (.one (auS yJ jP (by rw[aoi];rfl) (run_endRound (some (.exit i)) ft)))⟩) (.bool false)
   |ret=>
    have:ru l (.out .ret fr st)=nw (st.h.get l) (fun _ _ fn t ps a b d=>st.hU l (.loop .done (some .ret) fn t ps a b d) fun st=>dk.ret (.bool false) st false) .no:=by
     show List.rec (motive:=fun _=>dk) _ _ fr.cL=_;rw[lA]
    rw[this];obtain⟨hW,b4⟩:=aa;exact key .done (some .ret) (some .ret) (.bool false) trivial (fun L ft=>⟨_,rfl,Steps.trans b4 (.one (auT yJ jP (run_endRound (some .ret) ft)))⟩) (.bool false)
   |aQ v=>
    have:ru l (.out (.aQ v) fr st)= .aQ v st false:=by
     show List.rec (motive:=fun _=>dk) _ _ fr.cL=_;rw[lA]
    rw[this];obtain⟨v',hW,aE,b4⟩:=aa;refine⟨dF,v',w,aE,hw,ab,Steps.trans b4 (.one (step_leave_panicked (fr:=b.panics a hW v') ⟨rfl,amG,Fn,pg⟩))⟩
def awm(db:Good X)(dJ:mw X call)(te:∀b aI bf,Ah X call b aI bf){n:Nat}{args kB:ac bi}(hl:ι l=some ⟨l',0,0,id⟩)(ha:bP ι args kB)(hw:bx X ι st w)(hne:z7 call n l args st≠.no):
 ∃fn ts dt body,(Instr.yield l' kB.toArray).run X.P w= .ok (.round l' fn ts dt body) w∧∀c cs,C0 X ι w (Frame.round l' fn ts dt body .normal) c cs (z7 call n l args st):=by
 unfold z7 at hne⊢;obtain⟨s,gL,fn,t,ps,dt,body,d,me,I⟩:=IX rfl (fun e=>hne e.symm);rw[<-I]at hne⊢;obtain⟨hlen,U⟩:=lv rfl (fun e=>hne e.symm);rw[<-U]at hne⊢;rw[fe,fe]at hlen;obtain⟨L,ft,ah,hj,gw,Bu,km,MZ,uH,ay,⟨Fn,pg,e0⟩,aT⟩:=hw.loop me hl;have aoa:kB.toArray.size=L.params.size:=by
  have:L.params.size=ps.length:=by rw[<-km];simp
  rw[this,<-hlen];simpa using ha.1.symm
 refine⟨L.fn,_,L.assign,L.body,run_yield ft aoa,fun c cs=> ?_⟩;subst gw;obtain⟨hL,fW⟩:=aau ps args kB t L.tmps Bu ha hlen aT;have X6:(L.params.zip kB.toArray).foldl (fun tmps (x:Tmp×bi)=>tmps.setIfInBounds x.1 x.2) L.tmps=(ps.zip kB).foldl (fun tmps (p:Tmp×bi)=>tmps.setIfInBounds p.1 p.2) L.tmps:=by
  rw[<-Array.foldl_toList,Array.toList_zip,km]
 let b:dK:=⟨L.fn,.normal,some l'⟩
 let vE:=(L.params.zip kB.toArray).foldl (fun tmps (x:Tmp×bi)=>tmps.setIfInBounds x.1 x.2) L.tmps
 have aw9:Frame.round l' L.fn vE L.assign L.body .normal=b.at ⟨vE,[]⟩ [.code L.assign,.beginRound,.code L.body]:=rfl;obtain⟨pb,lP,anK⟩:=(db.2 _ _ _).1 MZ;obtain⟨jg,yE,uT⟩:=(db.2 _ _ _).1 uH;rw[pg]at lP yE;cases lP;cases yE;have af:cE ι ⟨oZ ps args t,[],none,false,some l⟩ ⟨vE,[]⟩ Fn.ntmps:=by
  refine⟨fun u=> ?_,?_,trivial⟩
  ·have:=hL u;rw[<-X6]at this;exact this
  ·show vE.size=_;rw[<-e0,<-fW,<-X6]
 have XY:∀aQ:am bi,aQ=none->∀aU,j0 b aQ aU (fun _=>c::cs):=by
  rintro _ rfl aU F eD ao;have cl:F.kind= .normal:=ao;simp[tryRecover,cl]
 have Bt:=G5 (b:=b) (bf:=fun _=>c::cs) db dJ (te b Fn.ntmps _) ⟨Fn,pg,rfl⟩ n dt L.assign ι ⟨oZ ps args t,[],none,false,some l⟩ ⟨vE,[]⟩ st w [.beginRound,.code L.body] anK af hw (.inr ⟨l,l',rfl,rfl,hl⟩) (XY _ rfl ι);have X2:fD X b Fn.ntmps (fun _=>c::cs) (lone (Frame.round l' L.fn vE L.assign L.body .normal) (c::cs) w) [.beginRound,.code L.body] ⟨oZ ps args t,[],none,false,some l⟩ ι w (cR call n L.fn dt ⟨oZ ps args t,[],none,false,some l⟩ st):=Bt;generalize cR call n L.fn dt ⟨oZ ps args t,[],none,false,some l⟩ st=g2 at X2 hne⊢;cases g2 with
 |no=>exact absurd rfl hne
 |out e dC cp=>
  obtain⟨aU,eW,dT,uJ,j9,wW,w1,jR,NV⟩:=X2;cases e with
  |exit _=>exact absurd rfl hne
  |ret=>exact absurd rfl hne
  |aQ _=>exact absurd rfl hne
  |norm=>
   have Bn:Cw call n l L.fn body dC cp≠.no:=hne;show C0 X ι w _ c cs (Cw call n l L.fn body dC cp);unfold Cw at Bn⊢;obtain⟨s1,Cc,DY,t1,FC,Di,Dm,d1,Xw,ag⟩:=IX rfl (fun e=>Bn e.symm);rw[<-ag]at Bn⊢;cases s1 with
   |busy=>exact absurd rfl Bn
   |done=>exact absurd rfl Bn
   |exhausted=>exact absurd rfl Bn
   |ready=>
    have nq:=wW.le _ _ hl;obtain⟨sL,s4,kJ,np,awR,_⟩:=j9.loop Xw nq;have jn:(Instr.beginRound l').run X.P dT= .ok () (dT.putObj l' (.loop {sL with state:=.busy})):=run_beginRound s4 kJ;have aod:=auF (P:=X.P) (b:=b) (a:=eW) (k:=[.code L.body]) (cs:=c::cs) rfl jn;obtain⟨oR,hI⟩:=j9.Ov Xw nq s4 .busy Cc sL.pending np;have an9:=G5 (b:=b) (bf:=fun _=>c::cs) db dJ (te b Fn.ntmps _) ⟨Fn,pg,rfl⟩ n body L.body aU dC eW ⟨cp.h.set l (.loop .busy Cc DY t1 FC Di Dm d1),cp.ai⟩ (dT.putObj l' (.loop {sL with state:=.busy})) [] uT uJ oR (by rw[jR];exact .inr ⟨l,l',rfl,rfl,nq⟩) (XY _ w1 aU);have kH:Steps X.P (lone (Frame.round l' L.fn vE L.assign L.body .normal) (c::cs) w) (lone (b.at eW [.code L.body]) (c::cs) (dT.putObj l' (.loop {sL with state:=.busy}))):=Steps.trans NV (.one aod);have iU:=wW.trans hI;have uW:=asW (b:=b) (l:=l) pg rfl rfl nq an9;show C0 X ι w _ c cs (cp.hU l (.loop .busy Cc DY t1 FC Di Dm d1) fun st=>ru l (cR call n L.fn body dC st));rw[kR];have cP:cR call n b.fn body dC ⟨cp.h.set l (.loop .busy Cc DY t1 FC Di Dm d1),cp.ai⟩=cR call n L.fn body dC ⟨cp.h.set l (.loop .busy Cc DY t1 FC Di Dm d1),cp.ai⟩:=rfl;rw[cP]at uW;generalize ru l (cR call n L.fn body dC ⟨cp.h.set l (.loop .busy Cc DY t1 FC Di Dm d1),cp.ai⟩)=ab2 at uW⊢;cases ab2 with
    |no=>trivial
    |ret v st' eD=>obtain⟨dF,v',w',g1,aP,bd,cu⟩:=uW;exact⟨dF,v',w',g1,aP,iU.trans bd,kH.trans cu⟩
    |aQ v st' eD=>obtain⟨dF,v',w',g1,aP,bd,cu⟩:=uW;exact⟨dF,v',w',g1,aP,iU.trans bd,kH.trans cu⟩
end
section
variable{P:f5}{b:dK}{a:Act}{k:ac Item}{cs:ac Frame}{w dT:d7}{f:bv}{ps:be Tmp}{dt body:Code}{l:Nat}{mark:ac Deferred}
variable{g:co}
def abW(_hb:b.bW=none):(Frame.eval {fn:=b.fn,tmps:=a.tmps,todo:=.inRangeFunc l::k,defers:=mark++a.defers,mode:=.run,kind:=b.kind,roundOf:=none}) f=a.eval f:=by cases f<;>rfl
def abV{v:bi}:a.eval (.const v)=v:=rfl
def auP(hb:b.bW=none)(h:(Instr.enterLoop b.fn a.tmps ps dt body none).run P w= .ok (l,mark) dT){as:be bi}
 (aD:((do let d<-Deferred.ofValue (a.eval f) #[.func (.yield l) #[] #[]];invoke d.target d.args):Sem Next).run P dT= .ok (.enter g as) dT):
 step P (lone (b.at a (.code (.rangeFunc f ps dt body)::k)) cs w)= .next (lone (Frame.enter P g as .normal) (b.at {a with defers:=mark++a.defers} (.inRangeFunc l::k)::cs) dT):=by
 refine step_lone_go ?_;have mU:=aD;simp only[Sem.run_bind]at mU;simp[stepG,stepG.exec,stepG.apply,dK.at,hb,h,resolve,abW hb,abV,mU]
def auQ(hb:b.bW=none)(h:(Instr.enterLoop b.fn a.tmps ps dt body none).run P w= .ok (l,mark) dT){ja:Nat}{ts:be bi}{Ls LG:Code}
 (aD:((do let d<-Deferred.ofValue (a.eval f) #[.func (.yield l) #[] #[]];invoke d.target d.args):Sem Next).run P dT= .ok (.round ja g ts Ls LG) dT):
 step P (lone (b.at a (.code (.rangeFunc f ps dt body)::k)) cs w)= .next (lone (Frame.round ja g ts Ls LG .normal) (b.at {a with defers:=mark++a.defers} (.inRangeFunc l::k)::cs) dT):=by
 refine step_lone_go ?_;have mU:=aD;simp only[Sem.run_bind]at mU;simp[stepG,stepG.exec,stepG.apply,dK.at,hb,h,resolve,abW hb,abV,mU]
def auG{jump:am Code}(h:(Instr.endLoop l).run P w= .ok jump dT):step P (lone (b.at a (.endRangeFunc l::k)) cs w)= .next (lone (b.at a ((jump.map Item.code).toList++k)) cs dT):=
 step_lone_go (by simp[stepG,stepG.exec,dK.at,h])
end
def FQ(dJ:mw X call)(b:dK)(aI:Nat)(bf:Bool->ac Frame):Ah X call b aI bf:=by
 intro f ps dt body qD qH ι fr a st w k am8 aT pg MZ uH af hw hb aD;unfold DQ;cases pv:fr.bW with
 |some _=>trivial
 |none=>
  have Bc:b.bW=none:=by
   rcases hb with⟨_,h⟩|⟨l,l',h,_⟩
   ·exact h
   ·rw[pv]at h;cases h
  obtain⟨Fn,pg,Nu⟩:=pg;have r0:=run_enterLoop_outer (P:=X.P) (w:=w) b.fn a.tmps ps qD qH;obtain⟨axJ,j9,wW,I,_⟩:=bx.alloc X hw (.hG (some [])) (.deferred (some [])) 0 (fun aU w' _ _ aV=>⟨rfl,rfl,.inl ⟨rfl,aV⟩⟩) (w.alloc (.deferred (some []))) rfl;have aof:(w.alloc (.deferred (some []))).heap.size=w.heap.size+1:=World.size_alloc _ _
  let L:Loop:={state:=.ready,pending:=none,fn:=b.fn,tmps:=a.tmps,params:=ps,assign:=qD,body:=qH,defers:=w.heap.size}
  obtain⟨KR,oR,hI,U,_⟩:=bx.alloc X j9 (.loop .ready none b.fn fr.t ps.toList dt body st.ai) (.loop L) 0 (fun aU w' hle _ aV=>⟨rfl,rfl,L,aV,rfl,trivial,rfl,fun n=>(af.tmp n).mono (wW.le.trans hle),rfl,MZ,uH,hle _ _ I,⟨Fn,pg,by rw[Nu];exact af.size⟩,fun t aV=>by show t<a.tmps.size;rw[af.size];exact aT t aV⟩)
   ((w.alloc (.deferred (some []))).alloc (.loop L)) rfl
  show fD X b aI bf _ k fr ι w (st.jU (.hG (some [])) fun r st=>st.jU (.loop .ready none b.fn fr.t ps.toList dt body r) fun l st=>Cv l ⟨fr.t,{target:=.collected r,args:= #[]}::fr.cL,fr.aQ,fr.cx,none⟩ (call (fr.ak f) [.func (.yield l) #[] #[]] none st));rw[gR,gR];have iU:=wW.trans hI;rw[aof]at U
  let cc:ar:=⟨(st.h.set st.ai (.hG (some []))).set (st.ai+1) (.loop .ready none b.fn fr.t ps.toList dt body st.ai),st.ai+1+1⟩
  let aF:aO:=⟨fr.t,{target:=.collected st.ai,args:= #[]}::fr.cL,fr.aQ,fr.cx,none⟩
  let a':Act:={a with defers:=[{target:=.collected w.heap.size,args:= #[]}]++a.defers}
  have dN:cE KR aF a' aI:=⟨fun t=>(af.tmp t).mono iU.le,af.size,⟨⟨bP.nil _,hI.le _ _ I⟩,af.cL.mono iU.le⟩⟩;have aos:bx X KR cc ((w.alloc (.deferred (some []))).alloc (.loop L)):=oR;have gy:bw KR (.func (.yield (st.ai+1)) #[] #[]) (.func (.yield (w.heap.size+1)) #[] #[]):=bw.Jh (.inr ⟨_,_,rfl,rfl,U⟩) (bP.nil _) (bP.nil _);show fD X b aI bf _ k fr ι w (Cv (st.ai+1) aF (call (fr.ak f) [.func (.yield (st.ai+1)) #[] #[]] none cc));by_cases gG:call (fr.ak f) [.func (.yield (st.ai+1)) #[] #[]] none cc= .no
  ·rw[gG];trivial
  obtain⟨er,eJ,uU⟩:=dJ KR (fr.ak f) [.func (.yield (st.ai+1)) #[] #[]] cc (a.eval f) [.func (.yield (w.heap.size+1)) #[] #[]] _ ((af.ak hw am8).mono iU.le) (bP.cons gy (bP.nil _)) aos gG;have kH:step X.P (lone (b.at a (.code (.rangeFunc f ps qD qH)::k)) (bf fr.cx) w)= .next (lone er (b.at a' (.inRangeFunc (w.heap.size+1)::k)::bf fr.cx) ((w.alloc (.deferred (some []))).alloc (.loop L))):=by
   cases eJ with
   |enter g as ah=>exact auP Bc r0 ah
   |round ja g ts Ls LG ah=>exact auQ Bc r0 ah
  have al:=uU (b.at a' (.inRangeFunc (w.heap.size+1)::k)) (bf fr.cx);have iH:aF.aQ=fr.aQ:=rfl;have jE:aF.bW=fr.bW:=pv.symm;cases hc:call (fr.ak f) [.func (.yield (st.ai+1)) #[] #[]] none cc with
  |no=>exact absurd hc gG
  |aQ v dB eD=>
   rw[hc]at al;obtain⟨aU,v',w',aE,en,ab,ah⟩:=al;exact⟨aU,a',w',dN.mono ab.le,en,iU.trans ab,iH,jE,v',_,aE,Steps.head kH ah⟩
  |ret v dB eD=>
   rw[hc]at al;obtain⟨aU,v',w',aE,en,ab,ah⟩:=al;have mJ:(b.at a' (.inRangeFunc (w.heap.size+1)::k)).finish v'=b.at a' (.endRangeFunc (w.heap.size+1)::k):=rfl;rw[mJ]at ah;have hl:=ab.le _ _ U;show fD X b aI bf _ k fr ι w (nw (dB.h.get (st.ai+1)) (fun s gL rV t ps a b d=>
    LoopState.rec (motive:=fun _=>ct)
    (dB.hU (st.ai+1) (.loop .exhausted gL rV t ps a b d) fun st=>bp gL (fun e=>.out e aF st) (.out .norm aF st))
    .no
    (dB.hU (st.ai+1) (.loop .exhausted gL rV t ps a b d) fun st=>bp gL (fun e=>.out e aF st) (.out .norm aF st))
    .no s) .no)
   generalize uX:nw _ _ _=res;by_cases hn:res= .no
   ·rw[hn];trivial
   obtain⟨aN,nB,HD,t0,Jy,qy,lq,d0,me,ag⟩:=IX uX (fun e=>hn e.symm);obtain⟨sL,s4,kJ,np,_⟩:=en.loop me hl;have key:aN≠.busy->(dB.hU (st.ai+1) (.loop .exhausted nB HD t0 Jy qy lq d0) fun st=>bp nB (fun e=>ct.out e aF st) (.out .norm aF st))=res->fD X b aI bf (lone (b.at a (.code (.rangeFunc f ps qD qH)::k)) (bf fr.cx) w) k fr ι w res:=by
    intro Ij he;rw[kR]at he;have yM:(Instr.endLoop (w.heap.size+1)).run X.P w'= .ok sL.pending (w'.putObj (w.heap.size+1) (.loop {sL with state:=.exhausted})):=run_endLoop s4 (by rw[kJ];exact Ij);obtain⟨g1,aP⟩:=en.Ov me hl s4 .exhausted nB sL.pending np;have q9:=auG (P:=X.P) (b:=b) (a:=a') (k:=k) (cs:=bf fr.cx) yM;have dZ:=(Steps.head kH ah).trans (.one q9);have Ek:=(iU.trans ab).trans aP;have Eb:=dN.mono ab.le;cases nB with
    |none=>
     have j6:ct.out .norm aF ⟨dB.h.set (st.ai+1) (.loop .exhausted none HD t0 Jy qy lq d0),dB.ai⟩=res:=he;cases hp:sL.pending with
     |some _=>rw[hp]at np;exact np.elim
     |none=>
      rw[<-j6];rw[hp]at dZ g1 Ek;exact⟨aU,a',_,Eb,g1,Ek,iH,jE,dZ⟩
    |some e=>
     have j6:ct.out e aF ⟨dB.h.set (st.ai+1) (.loop .exhausted (some e) HD t0 Jy qy lq d0),dB.ai⟩=res:=he;rw[<-j6];cases hp:sL.pending with
     |none=>rw[hp]at np;cases e<;>exact np.elim
     |some c7=>
      rw[hp]at np dZ g1 Ek;cases e with
      |norm=>cases c7<;>exact np.elim
      |aQ v=>cases c7<;>exact np.elim
      |exit i=>
       cases c7 with
       |exit j=>
        have e:i=j:=np;subst e;exact⟨aU,a',_,Eb,g1,Ek,iH,jE,k,rfl,dZ⟩
       |_=>exact np.elim
      |ret=>
       cases c7 with
       |ret=>exact⟨aU,a',_,Eb,g1,Ek,iH,jE,k,dZ⟩
       |_=>exact np.elim
   cases aN with
   |ready=>exact key (by simp) ag
   |busy=>exact absurd (ag:ct.no=res).symm hn
   |done=>exact key (by simp) ag
   |exhausted=>exact absurd (ag:ct.no=res).symm hn
end Go.an
namespace Go.an
variable{X:Ctx}
def lK(X:Ctx)(aS:aq cJ):Prop:=∀f xf,aS.get f=some xf->∃Fn c,vQ X f xf Fn c
def sM(X:Ctx)(fm:na):Prop:=
 ∀(f:co) (as:ac bi) (st:ar) (r:dk),fm f as st=some r->∀(ι:bu) (as':ac bi) (w:d7),bP ι as as'->bx X ι st w->r≠.no->
  (∀as w,(callFunc f as).run X.P w= .ok (.enter f as) w)∧
  ∀(K:CallKind) (bf:Bool->ac Frame),j0 ⟨f,K,none⟩ none ι bf->ic X ι w ⟨f,K,none⟩ bf (lone (Frame.enter X.P f as'.toArray K) (bf false) w) r
variable{fm:na}{n:Nat}
def pP(aS:aq cJ)(fm:na)(n:Nat)(f:co)(first fE:be bi)(args:ac bi)(aQ:am bi)(st:ar):
 bH aS fm (n+1) (.func (.func f) first fE) args aQ st=
  bp aQ (fun _=>bp (aS.get f) (fun xf=>hF (bH aS fm n) n f xf (fk first.toList (fk args fE.toList)) aQ st) .no)
   (bp (fm f (fk first.toList (fk args fE.toList)) st) (fun r=>r) (bp (aS.get f) (fun xf=>hF (bH aS fm n) n f xf (fk first.toList (fk args fE.toList)) aQ st) .no)):=rfl
def aiS{aS:aq cJ}(db:Good X)(gf:lK X aS)(pr:sM X fm)(ET:vR X (bH aS fm n))(nu:mw X (bH aS fm n)):vR X (bH aS fm (n+1)):=by
 intro ι f first fE args aQ st wG pQ kB w I U ag hw hne
 rw[pP]at hne⊢;simp only[qB]at hne⊢;have has:bP ι (first.toList++(args++fE.toList)) (wG.toList++(kB++pQ.toList)):=I.append (U.append ag);have Xh:(wG.toList++(kB++pQ.toList)).toArray=wG++kB.toArray++pQ:=by
  apply Array.ext';simp
 have uH:∀{K:CallKind} {bf:Bool->ac Frame} (xf:cJ),aS.get f=some xf->j0 ⟨f,K,none⟩ aQ ι bf->
  ic X ι w ⟨f,K,none⟩ bf (lone (Frame.enter X.P f (wG++kB.toArray++pQ) K) (bf false) w) (hF (bH aS fm n) n f xf (first.toList++(args++fE.toList)) aQ st):=by
  intro K bf xf aa aD;obtain⟨Fn,c,ok⟩:=gf f xf aa;have:=LI db nu ET (fun b aI bf _=>FQ nu b aI bf) ok n (K:=K) (bf:=bf) has hw aD;rw[Xh]at this;exact this
 have r0:∀xf,aS.get f=some xf->∀as w,(callFunc f as).run X.P w= .ok (.enter f as) w:=by
  intro xf aa as w;obtain⟨Fn,c,ok⟩:=gf f xf aa;exact ok.enters as w
 cases aQ with
 |some tK=>
  cases aa:aS.get f with
  |none=>rw[aa]at hne;exact absurd rfl hne
  |some xf=>exact⟨r0 xf aa,fun K bf aD=>uH xf aa aD⟩
 |none=>
  cases al:fm f (first.toList++(args++fE.toList)) st with
  |some r=>
   rw[al]at hne;obtain⟨g1,aP⟩:=pr f _ st r al ι _ w has hw hne;refine⟨g1,fun K bf aD=> ?_⟩;have:=aP K bf aD;rw[Xh]at this;exact this
  |none=>
   cases aa:aS.get f with
   |none=>rw[al,aa]at hne;exact absurd rfl hne
   |some xf=>exact⟨r0 xf aa,fun K bf aD=>uH xf aa aD⟩
def ic.out{ι:bu}{w:d7}{f:co}{c:Frame}{cs:ac Frame}{er:Frame}{r:dk}(h:ic X ι w ⟨f,.normal,none⟩ (fun _=>c::cs) (lone er (c::cs) w) r):C0 X ι w er c cs r:=by
 cases r with
 |no=>trivial
 |ret v st eD=>
  obtain⟨aU,v',w',F,I,U,ag,au,a0,b5,cY⟩:=h;obtain⟨g1,aP,fn,bd,cu⟩:=b5;exact⟨aU,v',w',I,U,ag,Steps.trans cY (.one (step_leave_returned ⟨g1,aP,au,fn,bd,cu⟩))⟩
 |aQ v st eD=>
  obtain⟨aU,v',w',F,I,U,ag,au,a0,b5,cY⟩:=h;exact⟨aU,v',w',I,U,ag,Steps.trans cY (.one (step_leave_panicked b5))⟩
def afr{aS:aq cJ}(db:Good X)(ET:vR X (bH aS fm (n+1)))(nu:mw X (bH aS fm n)):mw X (bH aS fm (n+1)):=by
 intro ι fv args st HG kB w Bg ha hw hne;have Ns:=hne;obtain⟨fn,first,fE,rfl,_⟩:=QR (v:=fv) (r:=bH aS fm (n+1) fv args none st) (z:=dk.no) rfl (fun e=>hne e.symm);cases Bg with
 |func _ amc _ aw _ vs gw eW eQ nd C7=>
  cases fn with
  |func f=>
   rcases gw with⟨rfl,_⟩|⟨l,b,I,_⟩
   ·obtain⟨r0,mJ⟩:=ET ι f first fE args none st aw vs kB w (bP.xn eW eQ) ha (bP.xn nd C7) hw hne
    refine⟨Frame.enter X.P f (aw++kB.toArray++vs) .normal,.enter f _ ?_,fun c cs=>ic.out (mJ .normal (fun _=>c::cs) (fun F eD ao=> ?_))⟩
    ·simp only[Deferred.ofValue,Sem.run_bind,Sem.run_pure,Result.andThen,invoke];exact r0 _ _
    ·have cl:F.kind= .normal:=ao;simp[tryRecover,cl]
   ·cases I
  |yield l=>
   have q0:first.toList=[]:=by
    cases hl:first.toList with
    |nil=>rfl
    |cons x xs=>
     exfalso;apply Ns;show List.rec (motive:=fun _=>dk) _ _ first.toList=_
     rw[hl]
   have j4:fE.toList=[]:=by
    cases hl:fE.toList with
    |nil=>rfl
    |cons x xs=>
     exfalso;apply Ns;show List.rec (motive:=fun _=>dk) (List.rec (motive:=fun _=>dk) _ _ fE.toList) _ first.toList=_
     rw[q0,hl]
   have gv:bH aS fm (n+1) (.func (.yield l) first fE) args none st=z7 (bH aS fm n) n l args st:=by
    show List.rec (motive:=fun _=>dk) (List.rec (motive:=fun _=>dk) _ _ fE.toList) _ first.toList=_
    rw[q0,j4];rfl
   rcases gw with⟨_,gG⟩|⟨lb,b,I,U,ag⟩
   ·exact absurd rfl (gG l)
   ·cases I;subst U;rw[gv]at hne⊢;obtain⟨fn,ts,dt,body,aJ,uU⟩:=awm db nu (fun b aI bf=>FQ nu b aI bf) ag ha hw hne;refine⟨_,.round b fn ts dt body ?_,uU⟩;have w7:aw= #[]:=by
     have:=(bP.xn eW eQ).1;rw[q0]at this;have h0:aw.size=0:=by simpa using this.symm
     exact Array.eq_empty_of_size_eq_zero h0
    simp only[Deferred.ofValue,Sem.run_bind,Sem.run_pure,Result.andThen,invoke,w7];simpa using aJ
  |_=>exact absurd rfl Ns
theorem Du{aS:aq cJ}{fm:na}(db:Good X)(gf:lK X aS)(pr:sM X fm):∀n,vR X (bH aS fm n)∧mw X (bH aS fm n)
 |0=>⟨fun ι f first fE args aQ st wG pQ kB w _ _ _ _ hne=>absurd rfl hne,fun ι fv args st HG kB w _ _ _ hne=>absurd rfl hne⟩
 |n+1=>by
  obtain⟨I,U⟩:=Du db gf pr n;have ag:=aiS db gf pr I U;exact⟨ag,afr db ag U⟩
end Go.an
namespace Go.an
variable{α:Type}
def aq.sub(eq:α->α->Bool):aq α->aq α->Bool
 |.nil,_=>true
 |.node l v r,.nil=>v.isNone&&aq.sub eq l .nil&&aq.sub eq r .nil
 |.node l v r,.node l' v' dV=>(match v,v' with|none,_=>true|some x,some y=>eq x y|some _,none=>false)&&aq.sub eq l l'&&aq.sub eq r dV
def aq.F9{eq:α->α->Bool}(he:∀x y,eq x y=true->x=y):∀(a b:aq α),aq.sub eq a b=true->∀n x,a.get n=some x->b.get n=some x
 |.nil,_,_,n,x,h=>by simp at h
 |.node l v r,.nil,ah,n,x,h=>by
  simp only[aq.sub,b1]at ah;exfalso;cases n with
  |zero=>rw[aq.wN]at h;rw[h]at ah;simp at ah
  |succ m=>
   rw[aq.p5]at h;split at h
   ·have:=aq.F9 he l .nil ah.1.2 _ x h;simp at this
   ·have:=aq.F9 he r .nil ah.2 _ x h;simp at this
 |.node l v r,.node l' v' dV,ah,n,x,h=>by
  simp only[aq.sub,b1]at ah;cases n with
  |zero=>
   rw[aq.wN]at h⊢;subst h;cases v' with
   |none=>simp at ah
   |some y=>rw[he x y ah.1.1]
  |succ m=>
   rw[aq.p5]at h⊢;split at h
   ·rw[zab (by assumption)];exact aq.F9 he l l' ah.1.2 _ x h
   ·rw[zaa (by assumption)];exact aq.F9 he r dV ah.2 _ x h
def AR:ac d9->ac d9->Bool
 |[],[]=>true
 |e::es,f::bJ=>dM e.key f.key&&dM e.val f.val&&Nat.beq e.born f.born&&AR es bJ
 |_,_=>false
theorem Tt:∀(es bJ:ac d9),AR es bJ=true->es=bJ
 |[],[],_=>rfl
 |e::es,f::bJ,h=>by
  simp only[AR,b1]at h;obtain⟨⟨⟨I,U⟩,ag⟩,au⟩:=h;cases e;cases f;rw[Tt es bJ au];simp only at I U ag;rw[nO _ _ I,nO _ _ U,dI ag]
 |[],_::_,h=>by simp[AR]at h
 |_::_,[],h=>by simp[AR]at h
def GM:bB->bB->Bool
 |.map es c,.map fs bL=>Nat.beq c bL&&AR es fs
 |.cells cs e bk bc,.cells cs' bS eA uB=>Nat.beq e bS&&Nat.beq bk.1 eA.1&&Nat.beq bk.2 eA.2&&(bc==uB)&&mv cs cs'
 |.hG none,.hG none=>true
 |.hG (some []),.hG (some [])=>true
 |.dead,.dead=>true
 |_,_=>false
def aer(x y:bB)(h:GM x y=true):x=y:=by
 unfold GM at h;split at h
 ·rw[b1]at h;rw[dI h.1,Tt _ _ h.2]
 ·simp only[b1]at h;obtain⟨⟨⟨⟨I,U⟩,ag⟩,au⟩,a0⟩:=h;rename_i bk _ _ _ eA _;have az:bk=eA:=Prod.ext (dI U) (dI ag);rw[dI I,az,z0 _ _ a0,zbL au]
 ·rfl
 ·rfl
 ·rfl
 ·cases h
def ar.le(s t:ar):Prop:=s.ai=t.ai∧∀n o,s.h.get n=some o->t.h.get n=some o
variable{s t:ar}
def ar.IP(s t:ar):Bool:=Nat.beq s.ai t.ai&&aq.sub GM s.h t.h
def ar.apI(h:ar.IP s t=true):ar.le s t:=by
 unfold ar.IP at h;rw[b1]at h;exact⟨dI h.1,aq.F9 aer _ _ h.2⟩
def bx.less{X:Ctx}{ι:bu}{w:d7}(hl:ar.le s t)(h:bx X ι t w):bx X ι s w:=by
 refine⟨fun id o al ay=>h.eC id o (hl.2 _ _ al) ay,fun i j o p l m ae h5 hj iF=>h.inj i j o p l m (hl.2 _ _ ae) h5 (hl.2 _ _ hj) iF,fun id pj=> ?_,h.gY,h.mG,?_,fun i l o cC ah al ay=>h.mn i l o cC ah (hl.2 _ _ al) ay⟩
 ·have:=h.fresh id (by rw[<-hl.1];exact pj);refine⟨this.1,?_⟩;cases e:s.h.get id with
  |none=>rfl
  |some o=>rw[hl.2 _ _ e]at this;cases this.2
 ·rw[hl.1];exact h.p6
structure Row where
 as:ac bi
 st:ar
 v:bi
 st':ar
def Row.yO(r:Row)(as:ac bi)(st:ar):Bool:=Nat.beq r.st.ai st.ai&&mv r.as as&&aq.sub GM r.st.h st.h
variable{X:Ctx}
def ei(X:Ctx)(f:co)(r:Row):Prop:=
 ∀(ι:bu) (as':ac bi) (w:d7),bP ι r.as as'->bx X ι r.st w->
  (∀as w,(callFunc f as).run X.P w= .ok (.enter f as) w)∧
  ∀(K:CallKind) (bf:Bool->ac Frame),j0 ⟨f,K,none⟩ none ι bf->ic X ι w ⟨f,K,none⟩ bf (lone (Frame.enter X.P f as'.toArray K) (bf false) w) (.ret r.v r.st' false)
variable{v:bi}{st':ar}
def dU(r:dk)(v:bi)(st':ar):Bool:=
 dk.rec (motive:=fun _=>Bool) (fun v1 cp eD=>cond eD false (cond (dM v v1) (ar.IP st' cp) false)) (fun _ _ _=>false) false r
def ic.less{ι:bu}{w:d7}{b:dK}{bf:Bool->ac Frame}{s:Machine}{st:ar}{eD:Bool}(hl:ar.le st' st)(h:ic X ι w b bf s (.ret v st eD)):ic X ι w b bf s (.ret v st' eD):=by
 obtain⟨aU,v',w',F,I,U,ag,au,a0,b5,cY⟩:=h;exact⟨aU,v',w',F,I,bx.less hl U,ag,au,a0,b5,cY⟩
def afH{r:dk}(h:dU r v st'=true):∃cp,r= .ret v cp false∧ar.le st' cp:=by
 cases r with
 |no=>cases h
 |aQ a b c=>cases h
 |ret v1 cp eD=>
  cases eD with
  |true=>cases h
  |false=>
   have aG:cond (dM v v1) (ar.IP st' cp) false=true:=h;cases aE:dM v v1 with
   |false=>rw[aE]at aG;cases aG
   |true=>
    rw[aE]at aG;exact⟨cp,by rw[nO _ _ aE],ar.apI aG⟩
def abZ{aS:aq cJ}{fm:na}(db:Good X)(gf:lK X aS)(pr:sM X fm){n:Nat}{f:co}{r:Row}
 (h:dU (bH aS fm n (.func (.func f) #[] #[]) r.as none r.st) r.v r.st'=true):ei X f r:=by
 obtain⟨cp,he,hl⟩:=afH h;intro ι as' w ha hw;have ah:=(Du db gf pr n).1 ι f #[] #[] r.as none r.st #[] #[] as' w (bP.nil ι) ha (bP.nil ι) hw (by rw[he];intro e;cases e);refine⟨ah.1,fun K bf aD=> ?_⟩;have af:=ah.2 K bf aD;rw[he]at af;have e:(#[]++as'.toArray++ #[]:be bi)=as'.toArray:=by simp
 rw[e]at af;exact ic.less hl af
end Go.an
namespace Go.an
variable{X:Ctx}
def Pn(fr:aO)(st:ar)(it id since:Nat)(seen:ac Nat)(left:ac d9):ac a1:=
 match left with
 |[]=>[.ok (.tuple #[.bool false]) fr st]
 |left=>left.map fun e=>.ok (.tuple #[.bool true,e.key,e.val]) fr ⟨st.h.set it (.rh (some id) since (seen++[e.born]) since),st.ai⟩
def tv(fr:aO)(st:ar)(it:bv):ac a1:=
 iM (fr.ak it) (fun p=>bp p (fun a=>bp a.spot (fun _=>[.no]) (dQ a.off 0 (II (st.h.get a.block) (fun m since seen oo=>
  bp m (fun id=>qg (st.h.get id) (fun es clock=>dQ since clock (dQ oo clock (cond (seen.all (fun s=>Nat.ble (Nat.succ s) clock))
   (Pn fr st a.block id since seen (es.filter (fun e=> !seen.any (Nat.beq e.born)))) [.no]) [.no]) [.no]) [.no]) [.ok (.tuple #[.bool false]) fr st]) [.no]) [.no])) [.no]) [.no]
section
variable{ι:bu}{fr aF:aO}{a:Act}{aI:Nat}{st st':ar}{w:d7}{o:Oper}{v:bi}{call:bF}
def choose_lt(P:f5)(w:d7)(n:Nat)(hn:0<n):∃c w',(choose (.mapNext n)).run P w= .ok c w'∧c<n∧w'.heap=w.heap∧rI w w':=by
 rw[run_choose];by_cases h:(Question.mapNext n).forced=true
 ·rw[zab h];exact⟨0,w,rfl,hn,rfl,⟨rfl,rfl⟩⟩
 ·rw[zaa h];exact⟨_,_,rfl,zai _ hn,rfl,⟨rfl,rfl⟩⟩
def GW(left:be d9):be (am d9):=(if left.isEmpty then#[none]else#[])++(left++ #[]).map some
def afw(left:be d9):0<(GW left).size∧∀q∈GW left,(q=none∧left= #[])∨∃e∈left,q=some e:=by
 unfold GW;by_cases ax:left= #[]
 ·subst ax;refine⟨by simp,fun q hq=> ?_⟩;simp at hq;exact .inl ⟨hq,rfl⟩
 ·have hne:left.isEmpty=false:=by simpa using ax
  have td:0<left.size:=Array.size_pos_iff.2 ax;rw[hne];refine⟨by simpa using td,fun q hq=> ?_⟩;simp at hq;obtain⟨e,he,anU⟩:=hq;exact .inr ⟨e,he,anU.symm⟩
def aui{it:bv}(ae:cN X.aH it=true)(al:o.op= .next it false)(af:cE ι fr a aI)(hw:bx X ι st w)(h:∀r∈tv fr st it,r≠.no):
 ∃v st' v' w',a1.ok v fr st'∈tv fr st it∧(execOp a.eval o).run X.P w= .ok (.value v') w'∧bw ι v v'∧bx X ι st' w'∧e4 ι ι w w':=by
 have hne:[a1.no]≠tv fr st it:=fun e=>h .no (by rw[<-e];simp) rfl;obtain⟨p,hp,g1⟩:=qs (r:=tv fr st it) rfl hne;obtain⟨ad,NF,aP⟩:=gA g1 hne;obtain⟨ah,bd⟩:=BY aP (fun _=>hne);obtain⟨h0,cu⟩:=lv bd hne;obtain⟨m,since,seen,oo,aM,dh⟩:=Yx cu hne;have oL:=af.ak hw ae;rw[hp,NF]at oL;generalize k8:a.eval it=mZ at oL;obtain⟨l,hl,lb,fO,eG,F3,m6,BF,cj,HY⟩:=hw.eC _ _ aM (by simp);cases oL with
 |ptr _ l' cC dP=>
  rw[hl]at cC;cases cC;have iW:l.cW+ad.off=0:=by rw[lb,h0]
  cases m with
  |none=>
   rcases HY with⟨_,rfl⟩|⟨r,b,bY,az,_⟩
   ·have ey:[a1.ok (.tuple #[.bool false]) fr st]=tv fr st it:=dh;refine⟨.tuple #[.bool false],st,.tuple #[.bool false],w,by rw[<-ey];simp,?_,bw.pB (bP.cons (.bool _) (bP.nil ι)),hw,.refl ι w⟩;unfold execOp;rw[al];simp only[k8,iW,Instr.next,Sem.run_bind,Qj cj,Result.andThen,Sem.run_pure]
   ·cases az
  |some id=>
   have ey:qg (st.h.get id) (fun es clock=>dQ since clock (dQ oo clock (cond (seen.all (fun s=>Nat.ble (Nat.succ s) clock)) (Pn fr st ad.block id since seen (es.filter (fun e=> !seen.any (Nat.beq e.born)))) [.no]) [.no]) [.no]) [.no]=tv fr st it:=dh;obtain⟨es,clock,mK,gp⟩:=zo ey hne;obtain⟨az,n1⟩:=lv gp hne;obtain⟨e2,qV⟩:=lv n1 hne;obtain⟨b8,qU⟩:=jj qV hne;rcases HY with⟨hh,_⟩|⟨r,b,bY,d1,d2,d3,d4,d5,d6⟩
   ·cases hh
   cases d1;subst d2 az e2;obtain⟨lm,Ie,Oy,eK,C,bL,hC,cZ⟩:=hw.eC _ _ mK (by simp);rw[Ie]at d3;cases d3;have hC:w.heap[b]? =some (.map C bL):=hC;have cZ:jM ι bY es oo C.toList bL:=cZ;have qZ:bL=F3:=by rw[cZ.kh,d4]
   have mc:bL=BF:=by rw[cZ.kh,d6]
   subst qZ mc;obtain⟨L,fG,hlen,ft⟩:=cZ.same;have M0:∀x∈C.toList,x.born<bL:=by
    intro x aa;obtain⟨i,dE,rfl⟩:=zbt aa;have q1:i<L.length:=by omega
    rw[(ft i q1 dE).2.2,cZ.kh];exact cZ.qo.lt _ (cZ.born _ (fG.mem_iff.1 (dp q1)))
   have an7:∀s∈seen,s<oo:=by
    intro s ah;have:=zaN.1 b8 s ah;exact mA.1 this
   have Xn:∀e∈es,m6.contains (bY e.born)=seen.any (Nat.beq e.born):=by
    intro e he;rw[zaU,zcP];constructor
    ·intro hc;have:bY e.born∈m6.toList:=by simpa using hc
     rw[d5]at this;obtain⟨s,ah,y2⟩:=zbc.1 this;exact⟨s,ah,by rw[cZ.qo.inj _ _ (an7 s ah) (cZ.born e he) y2];exact zax _⟩
    ·rintro⟨s,ah,hb⟩;have bS:=dI hb;have:bY e.born∈m6.toList:=by rw[d5,bS];exact zbc.2 ⟨s,ah,rfl⟩
     simpa using this
   obtain⟨left,En⟩:∃left,left=C.filter (fun e=> !m6.contains e.born):=⟨_,rfl⟩;have hold:left.filter (fun e=>decide (e.born<bL))=left:=by
    rw[Array.filter_eq_self];intro x aa;rw[En]at aa;have:=(zdl.1 aa).1;simpa using M0 x (by simpa using this)
   have mS:left.filter (fun e=>decide (e.born>=bL))= #[]:=by
    rw[Array.filter_eq_empty_iff];intro x aa;rw[En]at aa;have:=(zdl.1 aa).1;have:=M0 x (by simpa using this);simp;omega
   have amQ:(!m6.isEmpty&& !C.isEmpty&&C.all (fun e=>decide (e.born>=bL)))=false:=by
    cases ax:C.toList with
    |nil=>have:C= #[]:=by simpa using ax
          subst this;simp
    |cons x xs=>
     have aa:=M0 x (by rw[ax];simp);have:C.all (fun e=>decide (e.born>=bL))=false:=by
      rw[Array.all_eq_false'];exact⟨x,by have:x∈C.toList:=by rw[ax];simp
                                         simpa using this,by simpa using aa⟩
     rw[this,zdT]
   obtain⟨td,dJ⟩:=afw left;generalize amM:GW left=uj at td dJ;obtain⟨qJ,dT,j5,aT,Ee,acF⟩:=choose_lt X.P w uj.size td;have amu:dT.heap[l.cK]? =some (.mapIter (some b) bL m6 bL):=by rw[Ee];exact cj
   have EF:(execOp a.eval o).run X.P w=(match uj[qJ]? with
    |some (some e)=>.ok (.value (.tuple #[.bool true,e.key,e.val])) {dT with heap:=dT.heap.setIfInBounds l.cK (.mapIter (some b) bL (m6.push e.born) bL)}
    |some none=>.ok (.value (.tuple #[.bool false])) dT
    |none=>.halt (.stuck "Next: no such candidate") dT):=by
    unfold execOp;rw[al];simp only[k8,iW,Instr.next,Sem.run_bind,Qj cj,Result.andThen,MapKept.run_getObj_map hC,amQ,zaW,if_false];rw[<-En,hold,mS];have amN:(if left.isEmpty then#[none]else#[])++(left++ #[]).map some=uj:=amM;simp only[amN,j5];cases hq:uj[qJ]? with
    |none=>simp[stuck]
    |some q=>
     cases q with
     |none=>simp
     |some e=>simp[as7 _ amu]
   have me:uj[qJ]? =some uj[qJ]:=zbQ aT;rw[me]at EF;have Ig:uj[qJ]∈uj:=Array.getElem_mem aT;cases hq:uj[qJ]with
   |none=>
    rw[hq]at EF Ig;have ax:left= #[]:=by
     rcases dJ none Ig with⟨_,h⟩|⟨e,_,h⟩
     ·exact h
     ·cases h
    have Nb:es.filter (fun e=> !seen.any (Nat.beq e.born))=[]:=by
     rw[List.filter_eq_nil_iff];intro e he;obtain⟨i,dE,fN⟩:=zbt (fG.mem_iff.2 he);have q1:i<C.toList.length:=by omega
     have awD:C.toList[i]∈C.toList:=dp q1;have Ey:C.toList[i]∉left.toList:=by
      rw[ax];simp
     have hb:=(ft i dE q1).2.2;rw[fN]at hb;have:m6.contains (C.toList[i].born)=true:=by
      by_cases hc:m6.contains (C.toList[i].born)=true
      ·exact hc
      ·exfalso;apply Ey;have:C.toList[i]∈left:=En▸zdl.2 ⟨by simp,by simpa using hc⟩;simpa using this
     rw[hb,Xn e he]at this;simp[this]
    rw[Nb]at qU;have wK:[a1.ok (.tuple #[.bool false]) fr st]=tv fr st it:=qU;exact⟨.tuple #[.bool false],st,.tuple #[.bool false],dT,by rw[<-wK];simp,EF,bw.pB (bP.cons (.bool _) (bP.nil ι)),hw.xH X Ee,.xH ι Ee acF⟩
   |some e=>
    rw[hq]at EF Ig;have rZ:e∈left:=by
     rcases dJ (some e) Ig with⟨h,_⟩|⟨bS,j6,h⟩
     ·cases h
     ·cases h;exact j6
    obtain⟨XJ,XK⟩:=zdl.1 (En▸rZ);obtain⟨i,dE,fN⟩:=zbt (show e∈C.toList by simpa using XJ);have q1:i<L.length:=by omega
    have mV:=ft i q1 dE;rw[fN]at mV;have W9:L[i]∈es:=fG.mem_iff.1 (dp q1);have hH:L[i]∈es.filter (fun e=> !seen.any (Nat.beq e.born)):=by
     rw[List.mem_filter];refine⟨W9,?_⟩;rw[<-Xn _ W9,<-mV.2.2];exact XK
    have wK:(es.filter (fun e=> !seen.any (Nat.beq e.born))).map (fun e=>a1.ok (.tuple #[.bool true,e.key,e.val]) fr ⟨st.h.set ad.block (.rh (some id) oo (seen++[e.born]) oo),st.ai⟩)=tv fr st it:=by
     rw[<-qU];unfold Pn;cases ax:es.filter (fun e=> !seen.any (Nat.beq e.born))with
     |nil=>rw[ax]at hH;cases hH
     |cons x xs=>rfl
    have j9:=hw.xH X Ee;obtain⟨bl,bK⟩:=bx.vF X j9 aM (by simp) (fun af=>af) hl (.rh (some id) oo (seen++[L[i].born]) oo) (.mapIter (some b) bL (m6.push e.born) bL)
     {dT with heap:=dT.heap.setIfInBounds l.cK (.mapIter (some b) bL (m6.push e.born) bL)} rfl
     (fun _ aV=>⟨lb,fO,_,_,_,_,aV,.inr ⟨id,b,bY,rfl,rfl,Ie,d4,by simp[d5,mV.2.2],d6⟩⟩)
    refine⟨.tuple #[.bool true,L[i].key,L[i].val],_,.tuple #[.bool true,e.key,e.val],_,?_,EF,bw.pB (bP.cons (.bool _) (bP.cons mV.1 (bP.cons mV.2.1 (bP.nil ι)))),bl,(e4.xH ι Ee acF).trans bK⟩;rw[<-wK];exact zbc.2 ⟨L[i],hH,rfl⟩
end
def xP(k:aO->ar->ac ct)(r:ct):ac ct:=
 ct.rec (motive:=fun _=>ac ct) (fun e fr st=>dq.rec (motive:=fun _=>ac ct) (k fr st) (fun i=>[.out (.exit i) fr st]) [.out .ret fr st] (fun v=>[.out (.aQ v) fr st]) e) [.no] r
def IY(e:aO->ar->ac ct):Nat->aO->ar->ac ct
 |0,_,_=>[.no]
 |n+1,fr,st=>(e fr st).flatMap (xP (IY e n))
def Lj(call:bF)(d:am Tmp)(ops:ac bA)(r:a1):ct:=
 a1.rec (motive:=fun _=>ct) (fun v fr st=>fT call ops (fr.put d v) st) (fun _ _=>.no) .no r
def nZ(call:bF)(bE:Nat)(fn:co):du->aO->ar->ac ct
 |.g3 (⟨d,.ext (.ri it),none⟩::ops),fr,st=>(tv fr st it).map (Lj call d ops)
 |.seq a b,fr,st=>(nZ call bE fn a fr st).flatMap (xP (nZ call bE fn b))
 |.cond c a b,fr,st=>mu (fr.ak c) (fun t=>cond t (nZ call bE fn a fr st) (nZ call bE fn b fr st)) [.no]
 |.block i a,fr,st=>(nZ call bE fn a fr st).map (qG i)
 |.loop a,fr,st=>IY (nZ call bE fn a) bE fr st
 |.scope a,fr,st=>nZ call bE fn a fr st
 |c,fr,st=>[cR call bE fn c fr st]
section
variable{aI:Nat}{ι:bu}{fr aF:aO}{a:Act}{st st':ar}{w:d7}{v:bi}{call:bF}{b:dK}{bf:Bool->ac Frame}
def iP(X:Ctx)(b:dK)(aI:Nat)(bf:Bool->ac Frame)(s:Machine)(k:ac Item)(fr:aO)(ι:bu)(w:d7)(L:ac ct):Prop:=
 (∀r∈L,r≠.no)->∃r∈L,fD X b aI bf s k fr ι w r
variable{k:ac Item}{s:Machine}{L:ac ct}
def iP.head{bo:Machine}{aU:bu}{w':d7}(h:Steps X.P s bo)(ab:e4 ι aU w w')(hp:aF.aQ=fr.aQ)(aD:aF.bW=fr.bW)(aG:iP X b aI bf bo k aF aU w' L):iP X b aI bf s k fr ι w L:=by
 intro hn;obtain⟨r,jR,oO⟩:=aG hn;exact⟨r,jR,fD.head h ab hp aD oO⟩
def iP.one{r:ct}(h:fD X b aI bf s k fr ι w r):iP X b aI bf s k fr ι w [r]:=fun _=>⟨r,by simp,h⟩
def iP.then{k':ac Item}{g:aO->ar->ac ct}(hex:∀id,exitTo id k=exitTo id k')(h:iP X b aI bf s k fr ι w L)
 (aM:∀aU a' w' aF st',cE aU aF a' aI->bx X aU st' w'->e4 ι aU w w'->aF.aQ=fr.aQ->aF.bW=fr.bW->iP X b aI bf (lone (b.at a' k) (bf aF.cx) w') k' aF aU w' (g aF st')):iP X b aI bf s k' fr ι w (L.flatMap (xP g)):=by
 intro hn;have ft:∀r∈L,r≠.no:=by
  intro r aD e;subst e;exact hn .no (zct.2 ⟨.no,aD,by simp[xP]⟩) rfl
 obtain⟨r,jR,oO⟩:=h ft;cases r with
 |no=>exact absurd rfl (ft _ jR)
 |out e aF st'=>
  obtain⟨aU,a',w',I,U,ag,au,a0,b5⟩:=oO;cases e with
  |norm=>
   obtain⟨q,qc,uV⟩:=aM aU a' w' aF st' I U ag au a0 (fun r aD=>hn r (zct.2 ⟨_,jR,aD⟩));exact⟨q,zct.2 ⟨_,jR,qc⟩,fD.head b5 ag au a0 uV⟩
  |exit id=>
   obtain⟨hW,cY,h4⟩:=b5;exact⟨.out (.exit id) aF st',zct.2 ⟨_,jR,by simp[xP]⟩,aU,a',w',I,U,ag,au,a0,hW,cY.trans (hex id),h4⟩
  |ret=>exact⟨.out .ret aF st',zct.2 ⟨_,jR,by simp[xP]⟩,aU,a',w',I,U,ag,au,a0,b5⟩
  |aQ v=>exact⟨.out (.aQ v) aF st',zct.2 ⟨_,jR,by simp[xP]⟩,aU,a',w',I,U,ag,au,a0,b5⟩
def ave(L:ac ct):L.flatMap (xP fun fr st=>[.out .norm fr st])=L:=by
 induction L with
 |nil=>rfl
 |cons r L ba=>
  rw[zcQ,ba];cases r with
  |no=>rfl
  |out e fr st=>cases e<;>rfl
def asL(dJ:mw X call){ops:be Oper}{d:am Tmp}{it:bv}{xs:ac bA}(hlen:xs.length+1=ops.size)(dZ:∀(j:Nat) (x:bA) (o:Oper),(⟨d,.ext (.ri it),none⟩::xs:ac bA)[j]? =some x->ops[j]? =some o->m4 X aI ops x o=true)
 (af:cE ι fr a aI) (hw:bx X ι st w) (hb:ow ι fr.bW b.bW) (aD:j0 b fr.aQ ι bf):
 iP X b aI bf (lone (b.at a (.inRegion ops (List.range ops.size)::k)) (bf fr.cx) w) k fr ι w ((tv fr st it).map (Lj call d xs)):=by
 intro hn;have aT:0<ops.size:=by omega
 have al:ops[0]? =some ops[0]:=zbQ aT;have bR:=dZ 0 _ ops[0] rfl al;have dD:=Fu bR;have aM:ops[0].guard=none:=by
  unfold m4 at bR;simp only[b1]at bR;have:=bR.2;split at this
  ·rename_i h;exact h
  ·rename_i h _;cases h
  ·cases this
 have gd:Region.wanted ops[0] (yielded ops a.tmps)=true:=by
  unfold Region.wanted;rw[aM]
 have oM:∃Ob,ops[0].op= .next Ob false∧ca X.aH it Ob=true:=by
  have ab:Gl X.P X.aH X.keys X.pU X.eqs X.qf X.mj ops[0].op (.ri it)=true:=dD;generalize ops[0].op=op at ab;unfold Gl at ab;split at ab<;>rename_i az<;>first|(cases az;done)|skip
  ·cases az;exact⟨_,rfl,ab⟩
  ·cases ab
 obtain⟨Ob,XS,yO⟩:=oM;obtain⟨rfl,ae⟩:=dc yO;obtain⟨v,st',v',w',w0,fU,aE,en,ab⟩:=aui ae XS af hw (fun r aD e=>by
  subst e;exact hn (Lj call d xs .no) (zbc.2 ⟨_,aD,rfl⟩) rfl)
 obtain⟨k7,lz⟩:=Jo bR;have anY:List.range ops.size=0::(List.range xs.length).map (· +1):=by
  rw[<-hlen,zdj]
 have po:b.bW=none∨∀c,ops[0].op≠.defer c:=.inr (by rw[XS];simp);have eJ:=Kx (P:=X.P) (b:=b) (k:=k) (cs:=bf fr.cx) (rest:=(List.range xs.length).map (· +1)) al gd po fU;refine⟨_,zbc.2 ⟨_,w0,rfl⟩,?_⟩;show fD X b aI bf _ k fr ι w (fT call xs (fr.put d v) st');rw[anY];obtain⟨cO,cS,et,kr⟩:=tJ fr d v;have pt:=Jp (b:=b) (bf:=bf) (k:=k) (ops:=ops) (aI:=aI) dJ xs ((List.range xs.length).map (· +1)) ι (fr.put d v) (a.put ops[0].dst v') st' w' (by simp) (fun j x i aa ae=>by
  have hR:j<xs.length:=(zac.1 aa).1;have e:i=j+1:=by
   rw[zcR,List.getElem?_range hR]at ae;simpa using ae.symm
  subst e;have uR:j+1<ops.size:=by omega
  exact⟨ops[j+1],zbQ uR,dZ (j+1) x _ (by simpa using aa) (zbQ uR)⟩)
  (by have:=af.put lz aE;rw[<-k7];exact this) en (by rw[cS];exact hb) (by rw[cO];exact aD)
 rw[et]at pt;exact fD.head (.one eJ) ab cO cS pt
def afT(db:Good X)(dJ:mw X call)(te:Ah X call b aI bf)(gw:∃F,X.P.funcs[b.fn]? =some F∧F.ntmps=aI)(bE:Nat):∀(l4:du) (c:Code) (ι:bu) (fr:aO) (a:Act) (st:ar) (w:d7) (k:ac Item),codeOk X aI l4 c=true->
 cE ι fr a aI->bx X ι st w->ow ι fr.bW b.bW->j0 b fr.aQ ι bf->
 iP X b aI bf (lone (b.at a (.code c::k)) (bf fr.cx) w) k fr ι w (nZ call bE b.fn l4 fr st):=by
 intro l4;have yL:∀(c:Code) (ι:bu) (fr:aO) (a:Act) (st:ar) (w:d7) (k:ac Item) (l4:du),codeOk X aI l4 c=true->cE ι fr a aI->bx X ι st w->ow ι fr.bW b.bW->j0 b fr.aQ ι bf->
  iP X b aI bf (lone (b.at a (.code c::k)) (bf fr.cx) w) k fr ι w [cR call bE b.fn l4 fr st]:=
  fun c ι fr a st w k l4 hc af hw hb aD=>iP.one (G5 db dJ te gw bE l4 c ι fr a st w k hc af hw hb aD)
 induction l4 with
 |skip=>intro c ι fr a st w k hc af hw hb aD;exact yL c ι fr a st w k .skip hc af hw hb aD
 |g3 xs=>
  intro c ι fr a st w k hc af hw hb aD;unfold nZ;split
  ·rename_i d it axq heq;cases heq;cases c with
   |region id ops draw=>
    cases draw with
    |true=>cases hc
    |false=>
     obtain⟨I,U⟩:=P9 (hc:xG X aI ops _ ops.toList=true);refine iP.head (.one acT) (.refl _ _) rfl rfl (asL dJ (by simpa using I) (fun j x o aa al=>U j x o aa (by simpa using al)) af hw hb aD)
   |_=>cases hc
  all_goals first
   |exact yL c ι _ a _ w k _ hc af hw hb aD
   |(rename_i heq;cases heq)
 |rP L cm eb ms=>intro c ι fr a st w k hc af hw hb aD;exact yL c ι fr a st w k (.rP L cm eb ms) hc af hw hb aD
 |seq x y N6 y9=>
  intro c ι fr a st w k hc af hw hb aD;cases c with
  |seq c d=>
   have hc:(codeOk X aI x c&&codeOk X aI y d)=true:=hc;rw[b1]at hc;have I:=N6 c ι fr a st w (.code d::k) hc.1 af hw hb aD;refine iP.head (.one acY) (.refl _ _) rfl rfl (iP.then (k:=.code d::k) (k':=k) (fun id=>rfl) I fun aU a' w' aF st' dN en ab hp hn=> ?_);exact y9 d aU aF a' st' w' k hc.2 dN en (by rw[hn];exact hb.mono ab.le) (by rw[hp];exact aD.mono ab.le)
  |_=>cases hc
 |cond x y z y9 N7=>
  intro c ι fr a st w k hc af hw hb aD;cases c with
  |cond o c d=>
   have hc:(ca X.aH x o&&codeOk X aI y c&&codeOk X aI z d)=true:=hc;simp only[b1]at hc;obtain⟨rfl,al⟩:=dc hc.1.1;show iP X b aI bf _ k fr ι w (mu (fr.ak x) (fun t=>_root_.cond t (nZ call bE b.fn y fr st) (nZ call bE b.fn z fr st)) [.no]);have aE:=af.ak hw al;generalize lR:a.eval x=v9 at aE;generalize fr.ak x=v at aE;cases v with
   |bool t=>
    cases aE;cases t with
    |true=>exact iP.head (.one (Kv lR)) (.refl _ _) rfl rfl (y9 c ι fr a st w k hc.1.2 af hw hb aD)
    |false=>exact iP.head (.one (Kv lR)) (.refl _ _) rfl rfl (N7 d ι fr a st w k hc.2 af hw hb aD)
   |_=>exact fun hn=>absurd rfl (hn .no (by simp[mu]))
  |_=>cases hc
 |block i x ba=>
  intro c ι fr a st w k hc af hw hb aD;cases c with
  |block j c=>
   have hc:(Nat.beq i j&&codeOk X aI x c)=true:=hc;rw[b1]at hc;have e:=eZ hc.1;subst e;have I:=ba c ι fr a st w (.inBlock i::k) hc.2 af hw hb aD;refine iP.head (.one acM) (.refl _ _) rfl rfl ?_;show iP X b aI bf _ k fr ι w ((nZ call bE b.fn x fr st).map (qG i));intro hn;obtain⟨r,jR,I⟩:=I (fun r aD e=>by subst e;exact hn (qG i .no) (zbc.2 ⟨_,aD,rfl⟩) rfl);exact⟨qG i r,zbc.2 ⟨_,jR,rfl⟩,I.cK⟩
  |_=>cases hc
 |loop x ba=>
  intro c ι fr a st w k hc af hw hb aD;cases c with
  |loop c=>
   have hc:codeOk X aI x c=true:=hc;have key:∀(n:Nat) (ι:bu) (fr:aO) (a:Act) (st:ar) (w:d7),cE ι fr a aI->bx X ι st w->ow ι fr.bW b.bW->j0 b fr.aQ ι bf->
    iP X b aI bf (lone (b.at a (.code c:: .inLoop c::k)) (bf fr.cx) w) k fr ι w (IY (nZ call bE b.fn x) n fr st):=by
    intro n
    induction n with
    |zero=>intros;exact fun hn=>absurd rfl (hn .no (by simp[IY]))
    |succ n N5=>
     intro ι fr a st w af hw hb aD;refine iP.then (k:=.inLoop c::k) (fun id=>rfl) (ba c ι fr a st w (.inLoop c::k) hc af hw hb aD) fun aU a' w' aF st' dN en ab hp hn=> ?_;exact iP.head (.one acO) (.refl _ _) rfl rfl (N5 aU aF a' st' w' dN en (by rw[hn];exact hb.mono ab.le) (by rw[hp];exact aD.mono ab.le))
   exact iP.head (.one acQ) (.refl _ _) rfl rfl (key bE ι fr a st w af hw hb aD)
  |_=>cases hc
 |tP f ps dt body _ _=>intro c ι fr a st w k hc af hw hb aD;exact yL c ι fr a st w k (.tP f ps dt body) hc af hw hb aD
 |exit i=>intro c ι fr a st w k hc af hw hb aD;exact yL c ι fr a st w k (.exit i) hc af hw hb aD
 |scope x ba=>
  intro c ι fr a st w k hc af hw hb aD;cases c with
  |scope c=>
   have I:=ba c ι fr a st w (.inScope c::k) hc af hw hb aD;refine iP.head (.one acX) (.refl _ _) rfl rfl ?_;show iP X b aI bf _ k fr ι w (nZ call bE b.fn x fr st);rw[<-ave (nZ call bE b.fn x fr st)];exact iP.then (k:=.inScope c::k) (fun id=>rfl) I fun aU a' w' aF st' dN en _ _ _=>iP.one ⟨aU,a',w',dN,en,.refl _ _,rfl,rfl,.one acP⟩
  |_=>cases hc
 |ret=>intro c ι fr a st w k hc af hw hb aD;exact yL c ι fr a st w k .ret hc af hw hb aD
 |refuse=>intro c ι fr a st w k hc af hw hb aD;exact yL c ι fr a st w k .refuse hc af hw hb aD
end
section
variable(cb:Nat->am Nat)
def GI(a b:Addr):Bool:=(cb a.block==some b.block)&&Nat.beq a.off b.off&&a.spot.isNone&&b.spot.isNone
mutual
def fK:bi->bi->Bool
 |.bool a,.bool b=>a==b
 |.int k a,.int k' b=>decide (k=k')&&a==b
 |.float k a,.float k' b=>decide (k=k')&&a==b
 |.string a,.string b=>a.data.toList==b.data.toList
 |.pointer none,.pointer none=>true
 |.pointer (some a),.pointer (some b)=>GI cb a b
 |.slice none l c,.slice none l' bL=>l==l'&&c==bL
 |.slice (some a) l c,.slice (some b) l' bL=>GI cb a b&&l==l'&&c==bL
 |.map none,.map none=>true
 |.map (some a),.map (some b)=>cb a==some b
 |.chan (some (c+1)),.chan (some (d+1))=>Nat.beq c d
 |.func (.func f) x y,.func (.func g) u v=>f==g&&Ct x u&&Ct y v
 |.nilFunc,.nilFunc=>true
 |.iface t v,.iface u w=>t==u&&fK v w
 |.nilIface,.nilIface=>true
 |.agg a,.agg b=>Ct a b
 |.tuple a,.tuple b=>Ct a b
 |_,_=>false
def Ct:be bi->be bi->Bool
 |⟨a⟩,⟨b⟩=>zO a b
def zO:ac bi->ac bi->Bool
 |[],[]=>true
 |a::as,b::bh=>fK a b&&zO as bh
 |_,_=>false
end
theorem Qa:∀(xs aw:ac bi),zO cb xs aw=true->xs.length=aw.length∧∀(i:Nat) (h:i<xs.length) (aG:i<aw.length),fK cb xs[i] aw[i]=true
 |[],[],_=>⟨rfl,fun i h=>by simp at h⟩
 |x::xs,y::aw,h=>by
  simp only[zO,b1]at h;obtain⟨I,U⟩:=Qa xs aw h.2;refine⟨by simp[I],fun i a b=> ?_⟩;cases i with
  |zero=>exact h.1
  |succ i=>exact U i (by simpa using a) (by simpa using b)
 |[],_::_,h=>by simp[zO]at h
 |_::_,[],h=>by simp[zO]at h
def Kf(xs aw:be bi)(h:Ct cb xs aw=true):xs.size=aw.size∧∀(i:Nat) (h:i<xs.size) (aG:i<aw.size),fK cb xs[i] aw[i]=true:=by
 obtain⟨xs⟩:=xs;obtain⟨aw⟩:=aw;simp only[Ct]at h;obtain⟨I,U⟩:=Qa cb xs aw h;exact⟨by simpa using I,fun i a b=>by simpa using U i (by simpa using a) (by simpa using b)⟩
end
def GB(cb:Nat->am Nat)(aU dF:bu):Prop:=∀i j l,cb i=some j->dF j=some l->∃bY,aU i=some {l with bY:=bY}
variable{cb:Nat->am Nat}
def Rq{a b:Addr}(h:GI cb a b=true):cb a.block=some b.block∧a.off=b.off∧a.spot=none∧b.spot=none:=by
 unfold GI at h;simp only[b1]at h;exact⟨zbL h.1.1.1,dI h.1.1.2,by simpa using h.1.2,by simpa using h.2⟩
def Cu{aU dF:bu}(cZ:GB cb aU dF){u c:bi}(h:bw dF u c):∀v,fK cb v u=true->bw aU v c:=by
 induction h with
 |bool b=>intro v aE;cases v<;>simp[fK]at aE;rw[aE];exact .bool _
 |int k n=>intro v aE;cases v<;>simp[fK]at aE;rw[aE.1,aE.2];exact .int _ _
 |float k n=>intro v aE;cases v<;>simp[fK]at aE;rw[aE.1,aE.2];exact .float _ _
 |string s=>
  intro v aE;cases v<;>simp[fK]at aE;rename_i bo;have:bo=s:=by cases s;cases bo;simp_all
  rw[this];exact .string _
 |nF=>
  intro v aE;cases v<;>first|(simp[fK]at aE;done)|skip
  rename_i p;cases p<;>simp[fK]at aE;exact .nF
 |ptr a l h ah=>
  intro v aE;cases v<;>first|(simp[fK]at aE;done)|skip
  rename_i p;cases p<;>simp[fK]at aE;rename_i a';obtain⟨I,U,ag,au⟩:=Rq aE;obtain⟨bY,ab⟩:=cZ _ _ _ I h;have:=bw.ptr (ι:=aU) a' _ ab ag;rw[U]at this;exact this
 |nJ n c=>
  intro v aE;cases v<;>first|(simp[fK]at aE;done)|skip
  rename_i p _ _;cases p<;>simp[fK]at aE;rw[aE.1,aE.2];exact .nJ _ _
 |gV a l o n c h ah al=>
  intro v aE;cases v<;>first|(simp[fK]at aE;done)|skip
  rename_i p _ _;cases p<;>simp[fK]at aE;rename_i a';obtain⟨⟨h0,az⟩,e2⟩:=aE;obtain⟨I,U,ag,au⟩:=Rq h0;obtain⟨bY,ab⟩:=cZ _ _ _ I h;subst az e2;exact bw.gV (ι:=aU) a' {l with bY:=bY} o _ _ ab ag (by rw[U];exact al)
 |px=>
  intro v aE;cases v<;>first|(simp[fK]at aE;done)|skip
  rename_i p;cases p<;>simp[fK]at aE;exact .px
 |map r b bY h=>
  intro v aE;cases v<;>first|(simp[fK]at aE;done)|skip
  rename_i p;cases p<;>simp[fK]at aE;obtain⟨atm,ab⟩:=cZ _ _ _ aE h;exact .map _ b atm ab
 |func f g xs aw us vs af I _ ag _ nu u2=>
  intro v aE;cases v<;>first|(simp[fK]at aE;done)|skip
  rename_i nk eT m8;cases nk<;>cases f<;>simp[fK]at aE;rename_i f1 f2;obtain⟨⟨e,aa⟩,aJ⟩:=aE;subst e;obtain⟨eW,eQ⟩:=Kf cb _ _ aa;obtain⟨c1,dx⟩:=Kf cb _ _ aJ;refine .func _ _ _ _ _ _ ?_ (eW.trans I) (fun i p q=>nu i (by omega) q _ (eQ i p (by omega))) (c1.trans ag) (fun i p q=>u2 i (by omega) q _ (dx i p (by omega)));rcases af with⟨rfl,h⟩|⟨l,b,h,_⟩
  ·exact .inl ⟨rfl,fun l e=>by cases e⟩
  ·cases h
 |nilFunc=>intro v aE;cases v<;>simp[fK]at aE;exact .nilFunc
 |iface t v w _ ba=>
  intro v' aE;cases v'<;>simp[fK]at aE;rw[aE.1];exact .iface _ _ _ (ba _ aE.2)
 |nilIface=>intro v aE;cases v<;>simp[fK]at aE;exact .nilIface
 |agg xs aw I _ ba=>
  intro v aE;cases v<;>simp[fK]at aE;obtain⟨eW,eQ⟩:=Kf cb _ _ aE;exact .agg _ _ (eW.trans I) (fun i p q=>ba i (by omega) q _ (eQ i p (by omega)))
 |tuple xs aw I _ ba=>
  intro v aE;cases v<;>simp[fK]at aE;obtain⟨eW,eQ⟩:=Kf cb _ _ aE;exact .tuple _ _ (eW.trans I) (fun i p q=>ba i (by omega) q _ (eQ i p (by omega)))
 |je c m h=>
  intro v aE;have hc:c≠0:=by intro e;subst e;rcases h with h|⟨k,h,_⟩|⟨k,h,_⟩<;>omega
  obtain⟨c,rfl⟩:∃d,c=d+1:=⟨c-1,by omega⟩;cases v<;>first|(simp[fK]at aE;done)|skip
  rename_i x;cases x with
  |none=>simp[fK]at aE
  |some x=>
   cases x with
   |zero=>simp[fK]at aE
   |succ d=>
    simp only[fK]at aE;rw[dI aE];exact .je _ _ h
 |emp p c=>intro v aE;cases v<;>simp[fK]at aE
 |top c=>intro v aE;cases v<;>simp[fK,js]at aE
