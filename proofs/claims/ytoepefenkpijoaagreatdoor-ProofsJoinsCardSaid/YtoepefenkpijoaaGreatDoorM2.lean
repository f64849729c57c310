/- An abstract machine, and that its evaluations stand for runs of the model (part 2); no condition. -/
import Derived.Laws.StructEq
import Derived.Recover
import Derived.Orders
import Derived.Defers
import Derived.RangeFuncLeaves
import Derived.RangeFuncRecord
import Derived.Test.YtoepefenkpijoaaGreatDoorM1
noncomputable section
set_option linter.all false
namespace Go.ar
variable{X:Ctx}
section
variable{ι:bs}{fr aI:aP}{a:Act}{aJ:Nat}{st st':ay}{w:co}{o:Oper}{v:be}{call:bG}
variable{fy:ce}{df:gb}{t:ce}{m x:bi}{kk:ce}{k:bi}{u:ce}{P:d9}{r:Nat}{s:ap Nat}{b:Nat}{y:bi}
def auE(dw:X.keys fy=some df){k:be}(ab:df.ok k=true)(w:co):(Instr.keyThatStays k k).run X.P w= .ok k w:=by
 obtain⟨K,bN⟩:=X.s4 fy df dw;obtain⟨EA,yv⟩:=bN k ab;exact K.stays w yv
def toList_modify(C:ap d8)(j:Nat)(f:d8->d8){c:d8}(h:C.toList[j]? =some c):(C.modify j f).toList=C.toList.set j (f c):=by
 obtain⟨hj,hc⟩:=zaf.1 h;apply List.ext_getElem
 ·simp
 ·intro i J U;rw[List.getElem_set];simp only[zaw,Array.getElem_modify];by_cases e:j=i
  ·subst e;simp only[if_true];rw[<-hc];rfl
  ·rw[zaa e,zaa e]
def gb.pure{v':be}(h:df.ok v=true)(aE:bp ι v v'):bp ι v v:=by
 have:=gb.same h aE;rw[this]at aE;exact aE
def ab1(hm:cI X.aF m=true)(ab:cI X.aF k=true)(aa:cI X.aF x=true)(al:o.op= .mapUpdate t m k x∨o.op= .insert t m k x)(hu:X.P.underlying t=some (.map fy kk))
 (dw:X.keys fy=some df) (ae:cy ι fr a aJ) (hw:bo X ι st w) (h:nM fr st (.hd df m k x)= .ok v aI st'):aI=fr∧ky X ι w v st' (execOp a.eval o):=by
 obtain⟨iO,h⟩:=iJ h (by simp);obtain⟨r,aE,h⟩:=FE h (by simp);obtain⟨id,rfl,h⟩:=gh h (by simp);obtain⟨es,c,aR,h⟩:=yX h (by simp);obtain⟨ys,h⟩:=iJ h (by simp);have HI:=ae.ak hw ab;have wG:a.eval k=fr.ak k:=gb.same iO HI;have jL:=ae.ak hw hm;have cU:=ae.ak hw aa;rw[aE]at jL;generalize nS:a.eval m=ie at jL;obtain⟨l,hl,h0,jK,C,bE,hC,cT⟩:=hw.ez _ _ aR (by simp);cases jL with
 |map _ b bR hb=>
  rw[hl]at hb;cases hb;have hC:w.heap[b]? =some (.map C bE):=hC;have cT:jH ι bR es c C.toList bE:=cT;have hex:∀w',(Instr.mapUpdate t (.map (some b)) (fr.ak k) (a.eval x)).run X.P w= .ok () w'->(execOp a.eval o).run X.P w= .ok .skip w':=by
   intro w' gg;unfold execOp;rcases al with al|al<;>(rw[al];simp only[nS,wG];simp[gg,Result.andThen])
  rcases cT.find (X:=X) dw iO ys w with⟨J,U,_⟩|⟨e,j,sE,J,U,ag,az,a4,cl,dn,g6⟩
  ·rw[U]at h;have h:st.hI id (.map (es++[⟨fr.ak k,fr.ak x,c⟩]) (Nat.succ c)) (fun st=>aV.ok undef fr st)= .ok v aI st':=h;rw[ks]at h;cases h;have gg:(Instr.mapUpdate t (.map (some b)) (fr.ak k) (a.eval x)).run X.P w= .ok () {w with heap:=w.heap.setIfInBounds b (.map (C.push {key:=fr.ak k,val:=a.eval x,born:=bE}) (bE+1))}:=by
    simp only[Instr.mapUpdate,Sem.run_bind,run_underlying hu,Result.andThen,MapKept.run_getObj_map hC,xS dw iO,J,MapKept.run_setObj_map _ hC]
   obtain⟨ba,bx⟩:=bo.tB X hw aR (by simp) (fun ae=>ae) hl (.map (es++[⟨fr.ak k,fr.ak x,c⟩]) (Nat.succ c)) (.map (C.push {key:=fr.ak k,val:=a.eval x,born:=bE}) (bE+1)) {w with heap:=w.heap.setIfInBounds b (.map (C.push {key:=fr.ak k,val:=a.eval x,born:=bE}) (bE+1))} rfl
    (fun _ aW=>⟨rfl,rfl,_,_,aW,by
     have:=cT.push (gb.pure iO HI) U cU;simpa using this⟩)
   exact⟨rfl,ι,.skip,_,hex _ gg,.inr ⟨rfl,rfl⟩,ba,bx⟩
  ·rw[az]at h;have h:st.hI id (.map (Bk (fr.ak k) (fr.ak x) es) c) (fun st=>aV.ok undef fr st)= .ok v aI st':=h;rw[ks]at h;cases h;have hj:C[j]? =some sE:=by rw[<-Array.getElem?_toList];exact U
   have gg:(Instr.mapUpdate t (.map (some b)) (fr.ak k) (a.eval x)).run X.P w= .ok () {w with heap:=w.heap.setIfInBounds b (.map (C.modify j fun e=>{e with key:=fr.ak k,val:=a.eval x}) bE)}:=by
    simp only[Instr.mapUpdate,Sem.run_bind,run_underlying hu,Result.andThen,MapKept.run_getObj_map hC,xS dw iO,J,MapKept.run_setObj_map _ hC,hj,Option.map_some,zdO,ag,auE dw iO]
   obtain⟨ba,bx⟩:=bo.tB X hw aR (by simp) (fun ae=>ae) hl (.map (Bk (fr.ak k) (fr.ak x) es) c) (.map (C.modify j fun e=>{e with key:=fr.ak k,val:=a.eval x}) bE) {w with heap:=w.heap.setIfInBounds b (.map (C.modify j fun e=>{e with key:=fr.ak k,val:=a.eval x}) bE)} rfl
    (fun _ aW=>⟨rfl,rfl,_,_,aW,by
     rw[toList_modify C j _ U];exact cT.put ys U ag cU⟩)
   exact⟨rfl,ι,.skip,_,hex _ gg,.inr ⟨rfl,rfl⟩,ba,bx⟩
def atr(hm:cI X.aF m=true)(ab:cI X.aF k=true)(al:o.op= .call {callee:=.builtin .delete,args:= #[m,k],argTypes:= #[t,u]})(hu:X.P.underlying t=some (.map fy kk))
 (dw:X.keys fy=some df) (ae:cy ι fr a aJ) (hw:bo X ι st w) (h:nM fr st (.del df m k)= .ok v aI st'):aI=fr∧ky X ι w v st' (execOp a.eval o):=by
 obtain⟨iO,h⟩:=iJ h (by simp);obtain⟨r,aE,h⟩:=FE h (by simp);obtain⟨id,rfl,h⟩:=gh h (by simp);obtain⟨es,c,aR,h⟩:=yX h (by simp);obtain⟨ys,h⟩:=iJ h (by simp);rw[ks]at h;cases h;have HI:=ae.ak hw ab;have wG:a.eval k=fr.ak k:=gb.same iO HI;have jL:=ae.ak hw hm;rw[aE]at jL;generalize nS:a.eval m=ie at jL;obtain⟨l,hl,h0,jK,C,bE,hC,cT⟩:=hw.ez _ _ aR (by simp);cases jL with
 |map _ b bR hb=>
  rw[hl]at hb;cases hb;have hC:w.heap[b]? =some (.map C bE):=hC;have cT:jH ι bR es c C.toList bE:=cT;rcases cT.find (X:=X) dw iO ys w with⟨J,U,_⟩|⟨e,j,sE,J,U,ag,az,a4,cl,dn,g6⟩
  ·have pb:Bj (fr.ak k) es=es:=by
    unfold Bj;rw[List.filter_eq_self];intro e he;have:=ID U e he;cases aD:dJ (fr.ak k) e.key
    ·rfl
    ·exact absurd (nB _ _ aD).symm this
   obtain⟨ba,bx⟩:=bo.tB X hw aR (by simp) (fun ae=>ae) hl (.map (Bj (fr.ak k) es) c) (.map C bE) {w with heap:=w.heap.setIfInBounds b (.map C bE)} rfl (fun _ aW=>⟨rfl,rfl,_,_,aW,by rw[pb];exact cT⟩);refine⟨rfl,ι,.value (.tuple #[]),_,?_,.inl ⟨_,rfl,bp.n0 (bJ.nil ι)⟩,ba,bx⟩;unfold execOp;rw[al];simp[resolve,invoke,builtin,nS,wG,Builtin.delete_,run_underlying hu,Result.andThen,MapKept.run_getObj_map hC,xS dw iO,J,MapKept.run_setObj_map _ hC]
  ·obtain⟨ba,bx⟩:=bo.tB X hw aR (by simp) (fun ae=>ae) hl (.map (Bj (fr.ak k) es) c) (.map (C.eraseIdxIfInBounds j) bE) {w with heap:=w.heap.setIfInBounds b (.map (C.eraseIdxIfInBounds j) bE)} rfl (fun _ aW=>⟨rfl,rfl,_,_,aW,by
    have:=cT.del ys U ag;rw[Array.toList_eraseIdxIfInBounds];exact this⟩)
   refine⟨rfl,ι,.value (.tuple #[]),_,?_,.inl ⟨_,rfl,bp.n0 (bJ.nil ι)⟩,ba,bx⟩;unfold execOp;rw[al];simp[resolve,invoke,builtin,nS,wG,Builtin.delete_,run_underlying hu,Result.andThen,MapKept.run_getObj_map hC,xS dw iO,J,MapKept.run_setObj_map _ hC]
def atP(hm:cI X.aF m=true)(al:o.op= .range t m)(hu:X.P.underlying t=some (.map fy kk))(ae:cy ι fr a aJ)(hw:bo X ι st w)
 (h:nM fr st (.Bo m)= .ok v aI st'):aI=fr∧ky X ι w v st' (execOp a.eval o):=by
 obtain⟨r,aE,h⟩:=FE h (by simp);have jL:=ae.ak hw hm;rw[aE]at jL;generalize nS:a.eval m=ie at jL;cases r with
 |none=>
  cases jL;have h:st.jB (.qZ none 0 [] 0) (fun id st=>aV.ok (.pointer (some ⟨id,0,none⟩)) fr st)= .ok v aI st':=h;rw[gV]at h;cases h;obtain⟨aS,ba,bx,dE,lH⟩:=bo.alloc X hw (.qZ none 0 [] 0) (.mapIter none 0 #[] 0) 0 (fun aS w' _ _ aW=>⟨rfl,rfl,_,_,_,_,aW,.inl ⟨rfl,rfl⟩⟩) {w with heap:=w.heap.push (.mapIter none 0 #[] 0)} rfl;refine⟨rfl,aS,.value (.pointer (some ⟨w.heap.size,0,none⟩)),_,?_,.inl ⟨_,rfl,?_⟩,ba,bx⟩
  ·unfold execOp;rw[al];simp[nS,Instr.range,run_underlying hu,Result.andThen]
  ·exact bp.ptr ⟨st.ai,0,none⟩ _ dE rfl
 |some id=>
  have h:qa (st.h.get id) (fun _ clock=>st.jB (.qZ (some id) clock [] clock) fun id st=>aV.ok (.pointer (some ⟨id,0,none⟩)) fr st) .no= .ok v aI st':=h;obtain⟨es,c,aR,h⟩:=yX h (by simp);rw[gV]at h;cases h;obtain⟨l,hl,h0,jK,C,bE,hC,cT⟩:=hw.ez _ _ aR (by simp);cases jL with
  |map _ b bR hb=>
   rw[hl]at hb;cases hb;have hC:w.heap[b]? =some (.map C bE):=hC;have cT:jH ι bR es c C.toList bE:=cT;obtain⟨aS,ba,bx,dE,lH⟩:=bo.alloc X hw (.qZ (some id) c [] c) (.mapIter (some b) bE #[] bE) 0
    (fun aS w' hle _ aW=>⟨rfl,rfl,_,_,_,_,aW,.inr ⟨id,b,bR,rfl,rfl,hle _ _ hl,cT.ki,rfl,cT.ki⟩⟩) {w with heap:=w.heap.push (.mapIter (some b) bE #[] bE)} rfl
   refine⟨rfl,aS,.value (.pointer (some ⟨w.heap.size,0,none⟩)),_,?_,.inl ⟨_,rfl,?_⟩,ba,bx⟩
   ·unfold execOp;rw[al];simp[nS,Instr.range,run_underlying hu,Result.andThen,MapKept.run_getObj_map hC]
   ·exact bp.ptr ⟨st.ai,0,none⟩ _ dE rfl
def jH.auC{bR:Nat->Nat}{es:ac d8}{clock:Nat}{C:ac d8}{k8:Nat}(h:jH ι bR es clock C k8){s:Nat}(ah:s<clock){e:d8}(he:es.find? (fun e=>Nat.beq e.born s)=some e):
 ∃c,C.find? (fun c=>c.born==bR s)=some c∧bp ι e.key c.key∧bp ι e.val c.val:=by
 obtain⟨l,hp,hlen,hl⟩:=h.same;have hq:=zcL he;have hb:e.born=s:=dD hq;have hm:=zco he;obtain⟨i,af,gw⟩:=zbn (hp.mem_iff.2 hm);have dG:i<C.length:=by omega
 cases ae:C.find? (fun c=>c.born==bR s)with
 |none=>
  exfalso;have:=List.find?_eq_none.1 ae C[i] (dy dG);have ag:=(hl i af dG).2.2;rw[gw,hb]at ag;rw[ag]at this;simp at this
 |some c=>
  have WY:c.born=bR s:=by simpa using zcL ae
  obtain⟨k,ab,Xh⟩:=zbn (zco ae);have fF:k<l.length:=by omega
  have ag:=hl k fF ab;have az:l[k].born<clock:=h.born _ (hp.mem_iff.1 (dy fF));have a4:bR l[k].born=bR s:=by rw[<-ag.2.2,Xh,WY]
  have cl:=h.ql.inj _ _ az ah a4;have qO:l.Pairwise (fun a b=>a.born≠b.born):=(hp.symm.pairwise_iff (R:=fun a b:d8=>a.born≠b.born) (fun{a b} h=>h.symm)).1 h.vW;have amR:i=k:=by
   rcases zcp i k with g|g|g
   ·exact absurd (by rw[gw,hb,cl]) (zbe.1 qO i k af fF g)
   ·exact g
   ·exact absurd (by rw[gw,hb,cl]) (zbe.1 qO k i fF af g)
  subst amR;rw[gw,Xh]at ag;exact⟨c,rfl,ag.1,ag.2.1⟩
def PU{m:am Nat}{a:Nat}(hb:w.heap[r]? =some (.mapIter m a s b)):(getObj r).run P w= .ok (.mapIter m a s b) w:=by
 simp[getObj,Sem.run,hb]
def asA{m:am Nat}{a:Nat}(o:Obj)(hb:w.heap[r]? =some (.mapIter m a s b)):(setObj r o).run P w= .ok () {w with heap:=w.heap.setIfInBounds r o}:=by
 simp[setObj,Sem.run,hb]
def atJ{i:bi}(af:cI X.aF i=true)(al:o.op= .entry i)(ae:cy ι fr a aJ)(hw:bo X ι st w)
 (h:nM fr st (.Bl i)= .ok v aI st'):aI=fr∧cn X ι w v st st' (execOp a.eval o):=by
 obtain⟨p,hp,g1⟩:=pB h (by simp);obtain⟨ad,D7,aM⟩:=gh g1 (by simp);obtain⟨ah,bc⟩:=w2 aM (fun _=>by simp);obtain⟨h0,cf⟩:=kS bc (by simp);obtain⟨m,since,seen,n5,aR,cL⟩:=X4 cf (by simp);obtain⟨id,amZ,ej⟩:=gh cL (by simp);obtain⟨s,jN,gu⟩:=gh ej (by simp);obtain⟨es,clock,qK,nO⟩:=yX gu (by simp);obtain⟨J,qF⟩:=kS nO (by simp);obtain⟨U,qE⟩:=jz qF (by simp);obtain⟨e,he,wx⟩:=gh qE (by simp);clear h g1 aM bc cf cL ej gu nO qF qE;subst D7 amZ;cases wx;have l4:=ae.ak hw af;rw[hp]at l4;generalize jd:a.eval i=l9 at l4;obtain⟨l,hl,j6,e6,fz,Fq,mW,Bd,cb,Ht⟩:=hw.ez _ _ aR (by simp);rcases Ht with⟨hh,_⟩|⟨r,b,bR,aC,e2,b3,fo,lY,GU⟩
 ·cases hh
 ·cases aC;subst e2;obtain⟨lm,HL,Oc,eg,C,bE,hC,cT⟩:=hw.ez _ _ qK (by simp);rw[HL]at b3;cases b3;have hC:w.heap[b]? =some (.map C bE):=hC;have cT:jH ι bR es clock C.toList bE:=cT;cases l4 with
  |ptr _ l' cx eB=>
   rw[hl]at cx;cases cx;obtain⟨c,qJ,l0,MH⟩:=cT.auC U he;have uq:mW.back?=some (bR s):=by
    have:mW.back?=mW.toList.getLast?:=by simp
    rw[this,lY,List.getLast?_map];rw[show seen.getLast?=some s from jN];rfl
   have ur:bE=Bd:=by rw[cT.ki,GU,J]
   have wC:C.find? (fun x=>x.born==bR s)=some c:=by rw[<-Array.find?_toList];exact qJ
   refine⟨rfl,cn.same (v':=.tuple #[c.key,c.val]) hw ?_ (bp.n0 (bJ.cons l0 (bJ.cons MH (bJ.nil ι))))⟩;unfold execOp;rw[al];have iQ:l.cP+ad.off=0:=by rw[j6,h0]
   simp only[jd,iQ,Instr.entry,Sem.run_bind,PU cb,Result.andThen,uq,Sem.run_pure,MapKept.run_getObj_map hC];simp[ur,wC]
def atm{f:ci}{ts:ap ce}(aa:cI X.aF x=true)(aL:cI X.aF y=true)(ef:X.pP f=true)(al:o.op= .call {callee:=.value (.func f),args:= #[x,y],argTypes:=ts})(ae:cy ι fr a aJ)(hw:bo X ι st w)
 (h:nM fr st (.bd x y)= .ok v aI st'):aI=fr∧cn X ι w v st st' (execOp a.eval o):=by
 obtain⟨s,ah,g1⟩:=pC h (by simp);obtain⟨k,sE,hc,aM⟩:=jT g1 (by simp);obtain⟨ab,bc⟩:=iJ aM (by simp);obtain⟨c,aC,cf⟩:=mP bc (by simp);have fF:=s5 ab;clear h g1 aM bc;subst aC fF;have cU:=ae.ak hw aa;rw[ah]at cU;generalize cD:a.eval x=fu at cU;have fW:=ae.ak hw aL;rw[hc]at fW;generalize gy:a.eval y=rl at fW;cases cU;cases fW;cases cf;refine⟨rfl,cn.same (v':=.int .i64 (.ofNat (s.data.toList.countP (fun b=>b==UInt8.ofNat c)))) hw ?_ (.int _ _)⟩;rw[Dt al];have:=X.C4 f ef s (c:Int) w;simp only[zca,zaM,zbQ,cD,gy];rw[this];rfl
def ats{neg:Bool}{n:Nat}(aa:cI X.aF x=true)(aL:cI X.aF y=true)(iM:X.eqs t=some n)(al:o.op= .binOp (if neg then .neq else .eql) t x y u)(ae:cy ι fr a aJ)(hw:bo X ι st w)
 (h:nM fr st (.ug neg n x y)= .ok v aI st'):aI=fr∧cn X ι w v st st' (execOp a.eval o):=by
 obtain⟨xs,ng,h⟩:=zy h (by simp);obtain⟨av,wO,h⟩:=zy h (by simp);obtain⟨J,h⟩:=kS h (by simp);obtain⟨U,h⟩:=kS h (by simp);obtain⟨b,hb,h⟩:=gh h (by simp);cases h;rw[fg]at J U;have J:xs.toList.length=n%100+n/100:=J;have U:av.toList.length=n%100+n/100:=U;have hb:o3 (n%100) xs.toList av.toList=some b:=hb;have plain:∀(l m:ac be) (j:Nat) (b:Bool),o3 j l m=some b->∀(i:Nat) (af:i<l.length) (hj:i<m.length) (u v:be),(bp ι l[i] u->u=l[i])∧(bp ι m[i] v->v=m[i]):=by
  intro l
  induction l with
  |nil=>intro m j b _ i af;simp at af
  |cons p ps a7=>
   intro m j b hb i af hj u v;cases m with
   |nil=>simp at hj
   |cons q dt=>
    unfold o3 at hb;obtain⟨c3,hL,p3⟩:=gh (z:=none) (r:=some b) hb (by simp);cases i with
    |zero=>
     simp only[List.getElem_cons_zero];unfold SY GX LW at hL;split at hL<;>split at hL<;>first|(cases hL;done)|exact⟨fun aE=>by cases aE;rfl,fun aE=>by cases aE;rfl⟩
    |succ i=>
     simp only[List.getElem_cons_succ];have:∃eW,o3 (j-1) ps dt=some eW:=by
      cases c3
      ·obtain⟨eW,cK,_⟩:=gh (z:=none) (r:=some b) p3 (by simp);exact⟨eW,cK⟩
      ·exact⟨b,p3⟩
     obtain⟨eW,cK⟩:=this;exact a7 dt _ eW cK i (by simpa using af) (by simpa using hj) u v
 have jg:=plain _ _ _ _ hb;have cU:=ae.ak hw aa;rw[ng]at cU;generalize cD:a.eval x=fu at cU;have fW:=ae.ak hw aL;rw[wO]at fW;generalize gy:a.eval y=rl at fW;cases cU with
 |agg _ vA fa fR=>
  cases fW with
  |agg _ jV c3 dP=>
   have anZ:vA=xs:=by
    apply Array.ext
    ·exact fa.symm
    ·intro i c d;have:=(jg i (by simpa using d) (by simp;simp at J U;omega) vA[i] vA[i]).1 (by simpa using fR i d c);simpa using this
   have an2:jV=av:=by
    apply Array.ext
    ·exact c3.symm
    ·intro i c d;have:=(jg i (by simp;simp at J U;omega) (by simpa using d) jV[i] jV[i]).2 (by simpa using dP i d c);simpa using this
   subst anZ an2;obtain⟨W9,heq⟩:=X.x8 t n iM;have hq:=heq vA jV b w (by simpa using J) (by simpa using U) hb;refine⟨rfl,cn.same (v':=.bool (cond neg (!b) b)) hw ?_ (.bool _)⟩;unfold execOp;rw[al];cases neg
   ·simp only[cD,gy,zaU,if_false];have aR:(eqGuard .eql t x y (.agg vA) (.agg jV)).run X.P w= .ok () w:=by
     simp[eqGuard,program,Sem.run,W9]
    simp[aR,run_eql_struct,hq,Result.andThen]
   ·simp only[cD,gy,if_true];have aR:(eqGuard .neq t x y (.agg vA) (.agg jV)).run X.P w= .ok () w:=by
     simp[eqGuard,program,Sem.run,W9]
    simp[aR,run_neq_struct,hq,Result.andThen]
end
variable{ι:bs}{y:be}
def bp.EV{c:Nat}(h:bp ι (.chan (some c)) y)(hc:c≠0):∃m,y= .int .i64 m∧Qk c m:=by
 generalize aD:Value.chan (some c)=v at h;cases h with
 |iW bE m h=>cases aD;exact⟨m,rfl,h⟩
 |top _=>unfold iD at aD;cases aD;exact absurd rfl hc
 |_=>cases aD
def R8{n:Nat}{v:be}{b:Bool}(h:C3 n v=some b)(aE:bp ι v y):∃m:Int,y= .int .i64 m∧b=decide ((n:Int)<=m):=by
 unfold C3 at h;split at h
 ·rename_i c;split at h
  ·rename_i U;split at h
   ·rename_i ag;cases h;obtain⟨m,rfl,hu⟩:=aE.EV (by omega);refine⟨m,rfl,?_⟩;have:(n:Int)<=m:=by
     rcases hu with hu|⟨k,ab,hm⟩|⟨k,ab,hm⟩<;>omega
    simp[this]
   ·cases h
  ·rename_i U;split at h
   ·rename_i ag;cases h;obtain⟨m,rfl,hu⟩:=aE.EV (by omega);refine⟨m,rfl,?_⟩;have:¬(n:Int)<=m:=by
     rcases hu with hu|⟨k,ab,hm⟩|⟨k,ab,hm⟩<;>omega
    simp[this]
   ·cases h
 ·cases h
section
variable{ι:bs}{fr aI:aP}{a:Act}{aJ:Nat}{st st':ay}{w:co}{o:Oper}{v:be}{call:bG}
variable{x:bi}
def atl{gt:Bool}{y:bi}{t u:ce}(aa:cI X.aF x=true)(aL:cI X.aF y=true)(al:o.op= .binOp (if gt then .gtr else .leq) t x y u)(ae:cy ι fr a aJ)(hw:bo X ι st w)
 (h:nM fr st (.xV gt x y)= .ok v aI st'):aI=fr∧cn X ι w v st st' (execOp a.eval o):=by
 obtain⟨k,ta,ng,J⟩:=jT h (by simp);obtain⟨ab,U⟩:=iJ J (by simp);obtain⟨n,hn,ag⟩:=mP U (by simp);obtain⟨b,hb,az⟩:=gh ag (by simp);have fF:=s5 ab;subst fF hn;cases az;have cU:=ae.ak hw aa;rw[ng]at cU;generalize cD:a.eval x=fu at cU;cases cU;obtain⟨m,gy,AJ⟩:=R8 hb (ae.ak hw aL);refine⟨rfl,cn.same (v':=.bool (cond gt (!b) b)) hw ?_ (.bool _)⟩;unfold execOp;rw[al,AJ];cases gt
 ·simp[cD,gy,eqGuard,binOp,Op.intCmp]
 ·simp only[cD,gy,if_true];have:(!decide ((n:Int)<=m))=decide (m<(n:Int)):=by rw[zaS];simp
  simp[eqGuard,binOp,Op.intCmp,this]
def atB{f:ci}{y:bi}{ts:ap ce}(aa:cI X.aF x=true)(aL:cI X.aF y=true)(ef:X.p9 f=true)(al:o.op= .call {callee:=.value (.func f),args:= #[x,y],argTypes:=ts})(ae:cy ι fr a aJ)(hw:bo X ι st w)
 (h:nM fr st (.idxs X.ma x y)= .ok v aI st'):aI=fr∧cn X ι w v st st' (execOp a.eval o):=by
 obtain⟨s,ah,g1⟩:=pC h (by simp);obtain⟨b,hb,aM⟩:=pC g1 (by simp);unfold CY at aM;obtain⟨eI,uA,bc⟩:=gh aM (by simp);cases eI with
 |cells cs el bg a8=>
  have cf:cond a8 aV.no (one cs (fun c=>cond (NJ (db b.data.toList) c) (ek 2 (db b.data.toList) (ek (db s.data.toList) 1000000
   (.ok (.int .i64 (bk (pA b.data.toList s.data.toList) (fun i=>.ofNat i) (.negSucc 0))) fr st) .no) .no) .no) .no)= .ok v aI st':=bc
  obtain⟨AP,cL⟩:=Bu cf (by simp);obtain⟨c,hc,ej⟩:=BE cL (by simp);obtain⟨af,gu⟩:=iJ ej (by simp);obtain⟨U,nO⟩:=jz gu (by simp);obtain⟨ag,qF⟩:=jz nO (by simp);rw[fg]at af U ag;cases qF;have cU:=ae.ak hw aa;rw[ah]at cU;generalize cD:a.eval x=fu at cU;have fW:=ae.ak hw aL;rw[hb]at fW;generalize gy:a.eval y=rl at fW;cases cU;cases fW;obtain⟨l,hl,C,eA,hC⟩:=hw.ez _ _ uA (by simp);rw[hw.mB _ X.EH]at hl;cases hl;subst hc;obtain⟨bE,qJ,l0⟩:=hC.cell 0 (by simp);have amp:C3 b.data.toList.length c=some true:=by
   unfold NJ at af;split at af
   ·assumption
   ·cases af
  obtain⟨m,rfl,AJ⟩:=R8 amp l0;have hle:((b.data.toList.length:Nat):Int)<=m:=by simpa using AJ.symm
  have amV:(load ⟨X.ma,0,none⟩).run X.P w= .ok (.int .i64 m) w:=by
   have MH:C[0]? =some (.int .i64 m):=by simpa using qJ
   rw[run_load,cell_of hC.there];simp[MH]
  refine⟨rfl,cn.same (v':=.int .i64 (bk (pA b.data.toList s.data.toList) (fun i=>.ofNat i) (.negSucc 0))) hw ?_ (.int _ _)⟩;rw[Dt al];have:=X.Er f ef s b m w amV (by simpa using U) (by simpa using hle) (by simpa using ag);simp only[zca,zaM,zbQ,cD,gy];rw[this];cases pA b.data.toList s.data.toList<;>rfl
 |_=>cases bc
end
variable{P:d9}{t:ce}{a:Nat}
def dd.inPlace:dd->Bool
 |.call _ _|.inv _ _ _|.vl|.pS _ _|.oI _=>false
 |_=>true
def Ctx.kX(X:Ctx)(op:Op)(x:dd):Bool:=avY X.P X.aF X.kJ X.kV X.keys X.pP X.eqs X.p9 X.ma X.qb op x
def nz{n:Nat}(h:g0 P t=some n):∃i,P.info? t=some i∧i.size=n:=by
 unfold g0 at h;exact zaO.1 h
def FK{v:be}(h:sx P t=some v):∃i,P.info? t=some i∧i.zero=some v:=by
 unfold sx at h;exact zbG.1 h
def CJ{g:Bool}(h:qo P t=some g):∃d,P.underlying t=some d∧ry d=g:=by
 unfold qo at h;exact zaO.1 h
def eT{b:Nat}(h:Nat.beq a b=true):a=b:=dD h
def IJ(h:(!Nat.beq a 0)=true):a≠0:=by intro e;subst e;simp at h
def vO.s3:vO->Bool
 |.look _ _ _ _ _|.Bn _|.Bl _|.bd _ _|.ug _ _ _ _|.xV _ _ _|.idxs _ _ _|.z0 _=>true
 |_=>false
def dd.s3:dd->Bool
 |.ext y=>y.s3
 |.alloc _ _|.box _ _|.pM _ _ _ _|.store _ _ _|.v5 _ _|.uY|.sb _ _ _ _ _|.call _ _|.inv _ _ _|.wV _|.app _ _ _ _ _|.rF _ _ _|.vl|.pS _ _|.oI _|.tD _ _ _|.refuse=>false
 |_=>true
def dd.uL:dd->Bool
 |.alloc _ _|.box _ _|.pM _ _ _ _|.v5 _ _|.sb _ _ _ _ _|.uY=>true
 |_=>false
def xM(X:Ctx)(x:dd)(ι:bs)(w:co)(v:be)(st st':ay)(s:Sem Next):Prop:=
 ky X ι w v st' s∧(x.s3=true->cn X ι w v st st' s)∧(x.uL=true->tN X ι w v st st' s)
section
variable{p:Prop}{x:dd}{ι:bs}{w:co}{v:be}{st st':ay}{s:Sem Next}
def ft(h:p∧cn X ι w v st st' s)(aa:x.uL=false):p∧xM X x ι w v st st' s:=⟨h.1,h.2.P0,fun _=>h.2,fun e=>by rw[aa]at e;cases e⟩
def zU(h:p∧tN X ι w v st st' s)(aa:x.s3=false):p∧xM X x ι w v st st' s:=⟨h.1,h.2.P0,fun e=>(by rw[aa]at e;cases e),fun _=>h.2⟩
def sw(h:p∧ky X ι w v st' s)(aa:x.s3=false)(bX:x.uL=false):p∧xM X x ι w v st st' s:=⟨h.1,h.2,fun e=>(by rw[aa]at e;cases e),fun e=>by rw[bX]at e;cases e⟩
end
def Mp:dd->Bool
 |.ie _|.pick _ _ _|.alloc _ _|.box _ _|.build _ _|.pM _ _ _ _|.j8 _|.qY _ _|.store _ _ _|.tc _|.bin _ _ _|.eqv _ _ _ _|.un _ _|.uY|.refuse|.wV _=>true
 |_=>false
section
variable{ι:bs}{fr aI:aP}{a:Act}{aJ:Nat}{st st':ay}{w:co}{o:Oper}{v:be}{call:bG}
def aqq{x:dd}(ab:X.kX o.op x=true)(ae:cy ι fr a aJ)(hw:bo X ι st w)(h:bK call x fr st= .ok v aI st')
 (aa:Mp x=true):
 aI=fr∧xM X x ι w v st st' (execOp a.eval o):=by
 generalize al:o.op=op at ab;cases x with
 |ie p=>
  cases op with
  |move q=>obtain⟨rfl,U⟩:=cQ ab;exact ft (ab0 (call:=call) U (.inl al) ae hw h) rfl
  |assign q=>obtain⟨rfl,U⟩:=cQ ab;exact ft (ab0 (call:=call) U (.inr al) ae hw h) rfl
  |_=>cases ab
 |pick c p q=>
  cases op with
  |pick bE dO gn=>
   have ab:(b2 X.aF c bE&&b2 X.aF p dO&&b2 X.aF q gn)=true:=ab;simp only[bW]at ab;obtain⟨⟨J,U⟩,ag⟩:=ab;obtain⟨rfl,ba⟩:=cQ J;obtain⟨rfl,bx⟩:=cQ U;obtain⟨rfl,dE⟩:=cQ ag;exact ft (atV (call:=call) ba bx dE al ae hw h) rfl
  |_=>cases ab
 |alloc z e=>
  cases op with
  |alloc t=>
   have ab:(Nat.beq e t&&(match sx X.P t with|some v=>mi z v.cells.toList&&nC z|none=>false))=true:=ab;rw[bW]at ab;obtain⟨J,U⟩:=ab;have aC:=eT J;subst aC;split at U
   ·rename_i tI r3;rw[bW]at U;have e2:=zA _ _ U.1;subst e2;obtain⟨i,af,an⟩:=FK r3;exact zU (ata (call:=call) al af an U.2 hw h) rfl
   ·cases U
  |_=>cases ab
 |box e p=>
  cases op with
  |box t q=>
   have ab:(Nat.beq e t&&b2 X.aF p q)=true:=ab;rw[bW]at ab;have aC:=eT ab.1;subst aC;obtain⟨rfl,U⟩:=cQ ab.2;exact zU (atd (call:=call) U al ae hw h) rfl
  |_=>cases ab
 |build z ps=>
  cases op with
  |build t parts=>
   have ab:((match sx X.P t with|some v=>mi z v.cells.toList&&nC z|none=>false)&&
    (match X.P.underlying t with
     |some (.struct fields)=>fields.toList.all (fun f=>(X.P.info? f.type).isSome)&&sd X.aF (fun j=>(fields.map fun f=>(f.offset,X.P.cellsOf f.type))[j]?) ps parts.toList
     |some (.array _ e)=>(match g0 X.P e with|some s=>sd X.aF (fun j=>some (j*s,s)) ps parts.toList|none=>false)
     |_=>false))=true:=ab
   rw[bW]at ab;obtain⟨J,U⟩:=ab;split at J
   ·rename_i tI r3;rw[bW]at J;have e2:=zA _ _ J.1;subst e2;obtain⟨i,af,an⟩:=FK r3;split at U
    ·rename_i fields hu;rw[bW,zaP]at U;obtain⟨ba,bx⟩:=Jc U.2;exact ft (atg (call:=call) al hu af an J.2 U.1 ba bx ae hw h) rfl
    ·rename_i n e hu;split at U
     ·rename_i s ah;obtain⟨a6,gw,rfl⟩:=nz ah;obtain⟨ba,bx⟩:=Jc U;exact ft (atf (call:=call) al hu af an J.2 gw (by rw[ba];simp) (fun p hp=>(bx p hp).2) ae hw h) rfl
     ·cases U
    ·cases U
   ·cases J
  |_=>cases ab
 |pM e n z ps=>
  cases op with
  |buildSlice t m parts=>
   have ab:(Nat.beq n m&&(match X.P.underlying t with
    |some (.slice el)=>Nat.beq e el&&(match g0 X.P el,sx X.P el with
     |some s,some v=>Nat.ble (m*s) (2^24)&&mi z ((List.range (m*s)).map (fun j=>(if m*s=0 then(#[]:ap be)else v.cells)[j%(if m*s=0 then(#[]:ap be)else v.cells).size]!))&&nC z&&
      sd X.aF (fun j=>some (j*s,s)) ps parts.toList
     |_,_=>false)
    |_=>false))=true:=ab
   rw[bW]at ab;obtain⟨J,U⟩:=ab;have aC:=eT J;subst aC;split at U
   ·rename_i el hu;rw[bW]at U;obtain⟨ag,az⟩:=U;have e2:=eT ag;subst e2;split at az
    ·rename_i s tI ah r3;simp only[bW]at az;obtain⟨⟨⟨a4,cl⟩,dn⟩,g6⟩:=az;obtain⟨a6,gw,rfl⟩:=nz ah;obtain⟨awZ,Xe,an⟩:=FK r3;rw[gw]at Xe;cases Xe;obtain⟨ba,bx⟩:=Jc g6;exact zU (ate (call:=call) al hu gw an (mn.1 a4) (zA _ _ cl) dn (by rw[ba];simp) (fun p hp=>(bx p hp).2) ae hw h) rfl
    ·cases az
   ·cases U
  |_=>cases ab
 |j8 p=>
  cases op with
  |load t q=>
   have ab:(b2 X.aF p q&&(match qo X.P t with|some g=> !g|none=>false))=true:=ab;rw[bW]at ab;obtain⟨J,U⟩:=ab;obtain⟨rfl,ba⟩:=cQ J;split at U
   ·rename_i g aR;obtain⟨d,aA,e⟩:=CJ aR;exact ft (abX (call:=call) ba al aA (by rw[e];simpa using U) ae hw h) rfl
   ·cases U
  |_=>cases ab
 |qY n p=>
  cases op with
  |load t q=>
   have ab:(b2 X.aF p q&&(match qo X.P t,g0 X.P t with|some g,some s=>g&&Nat.beq n s|_,_=>false))=true:=ab;rw[bW]at ab;obtain⟨J,U⟩:=ab;obtain⟨rfl,ba⟩:=cQ J;split at U
   ·rename_i g s aR ah;rw[bW]at U;obtain⟨d,aA,e⟩:=CJ aR;obtain⟨i,af,rfl⟩:=nz ah;have aC:=eT U.2;subst aC;exact ft (abY (call:=call) ba al aA (by rw[e];exact U.1) af ae hw h) rfl
   ·cases U
  |_=>cases ab
 |store n p q=>
  cases op with
  |store t dO gn=>
   have ab:(b2 X.aF p dO&&b2 X.aF q gn&&(match g0 X.P t with|some s=>Nat.beq n s|none=>false))=true:=ab;simp only[bW]at ab;obtain⟨⟨J,U⟩,ag⟩:=ab;obtain⟨rfl,ba⟩:=cQ J;obtain⟨rfl,bx⟩:=cQ U;split at ag
   ·rename_i s ah;obtain⟨i,af,rfl⟩:=nz ah;have aC:=eT ag;subst aC;exact sw (at2 (call:=call) ba bx al af ae hw h) rfl rfl
   ·cases ag
  |_=>cases ab
 |tc p=>
  cases op with
  |nilCheck q=>obtain⟨rfl,U⟩:=cQ ab;exact ft (atT (call:=call) U al ae hw h) rfl
  |_=>cases ab
 |bin aeR p q=>
  cases op with
  |binOp Lo t dO gn zH=>
   have ab:(decide (aeR=Lo)&&b2 X.aF p dO&&b2 X.aF q gn)=true:=ab;simp only[bW,decide_eq_true_eq]at ab;obtain⟨⟨J,U⟩,ag⟩:=ab;subst J;obtain⟨rfl,ba⟩:=cQ U;obtain⟨rfl,bx⟩:=cQ ag;exact ft (atc (call:=call) ba bx al ae hw h) rfl
  |_=>cases ab
 |eqv neg e p q=>
  cases op with
  |binOp Lo t dO gn zH=>
   have ab:(decide (Lo=(if neg then .neq else .eql))&&b2 X.aF p dO&&b2 X.aF q gn&&GY X.P t e dO gn)=true:=ab;simp only[bW,decide_eq_true_eq]at ab;obtain⟨⟨⟨J,U⟩,ag⟩,az⟩:=ab;subst J;obtain⟨rfl,ba⟩:=cQ U;obtain⟨rfl,bx⟩:=cQ ag;exact ft (att (call:=call) ba bx al (ahN _ az) ae hw h) rfl
  |_=>cases ab
 |un avb p=>
  cases op with
  |unOp avc t q=>
   have ab:(decide (avb=avc)&&b2 X.aF p q)=true:=ab;simp only[bW,decide_eq_true_eq]at ab;obtain⟨J,U⟩:=ab;subst J;obtain⟨rfl,ba⟩:=cQ U;exact ft (at4 (call:=call) ba al ae hw h) rfl
  |_=>cases ab
 |uY=>
  cases op with
  |makeMap t r=>
   cases r with
   |none=>
    have h:y7 call fr st= .ok v aI st':=h;unfold y7 at h;rw[gV]at h;cases h;obtain⟨aS,ba,bx,dE,lH⟩:=bo.alloc X hw (.map [] 0) (.map #[] 0) 0 (fun aS w' _ _ aW=>⟨rfl,rfl,#[],0,aW,rfl,⟨fun s t h _ _=>absurd h (zcN _),fun s h=>absurd h (zcN _),fun j=>by simp⟩,by simp,.nil,.nil,[],.nil,rfl,fun i af=>by simp at af⟩) {w with heap:=w.heap.push (.map #[] 0)} rfl;rw[lH]at ba bx dE;refine zU ⟨rfl,_,_,_,.map (some w.heap.size),_,rfl,by simp,?_,rfl,.map _ _ _ dE,ba,bx⟩ rfl;unfold execOp;rw[al];simp[Instr.makeMap,Result.andThen]
   |some r=>cases ab
  |_=>cases ab
 |refuse=>cases h
 |wV p=>cases h
 |_=>cases aa
end
variable{w:co}{r:Nat}{s:f5}{p:Nat}
def aoW{a b:gb}(h:NY a b=true):a=b:=by
 cases a<;>cases b<;>simp[NY]at h<;>first|rfl|(rw[h])|(rw[h.1,h.2])
def Io{keys:ce->am gb}{df:gb}(h:Ew P keys t df=true):∃fy kk,P.underlying t=some (.map fy kk)∧keys fy=some df:=by
 unfold Ew at h;split at h
 ·rename_i fy kk hu;split at h
  ·rename_i Yh ab;exact⟨fy,kk,hu,by rw[ab,aoW h]⟩
  ·cases h
 ·cases h
def isMap(h:(match P.underlying t with|some (.map _ _)=>true|_=>false)=true):∃fy kk,P.underlying t=some (.map fy kk):=by
 split at h
 ·rename_i fy kk hu;exact⟨fy,kk,hu⟩
 ·cases h
def isStr(h:(match P.underlying t with|some .string=>true|_=>false)=true):P.underlying t=some .string:=by
 split at h
 ·assumption
 ·cases h
def aow(h:(match P.underlying t with|some (.slice _)=>true|_=>false)=true):∃e,P.underlying t=some (.slice e):=by
 split at h
 ·exact⟨_,by assumption⟩
 ·cases h
theorem GB(v:be):∀n:Nat,lX [v] n=List.replicate n v
 |0=>rfl
 |n+1=>by
  show fS [v] (lX [v] n)=_;rw[GB v n];rfl
def abD(hb:w.heap[r]? =some (.stringIter s p)):(getObj r).run P w= .ok (.stringIter s p) w:=by
 simp[getObj,Sem.run,hb]
def asB(o:Obj)(hb:w.heap[r]? =some (.stringIter s p)):(setObj r o).run P w= .ok () {w with heap:=w.heap.setIfInBounds r o}:=by
 simp[setObj,Sem.run,hb]
section
variable{ι:bs}{fr aI:aP}{a:Act}{aJ:Nat}{st st':ay}{w:co}{o:Oper}{v:be}
variable{x:bi}{e:ce}
def at1{m:bi}(hm:cI X.aF m=true)(al:o.op= .range t m)(hu:X.P.underlying t=some .string)(ae:cy ι fr a aJ)(hw:bo X ι st w)
 (h:nM fr st (.Cg m)= .ok v aI st'):aI=fr∧ky X ι w v st' (execOp a.eval o):=by
 obtain⟨s,ah,h⟩:=pC h (by simp);have jL:=ae.ak hw hm;rw[ah]at jL;generalize nS:a.eval m=ie at jL;cases jL;rw[gV]at h;cases h;obtain⟨aS,ba,bx,dE,lH⟩:=bo.alloc X hw (.zs s 0) (.stringIter s 0) 0 (fun aS w' _ _ aW=>⟨rfl,rfl,aW⟩) {w with heap:=w.heap.push (.stringIter s 0)} rfl;refine⟨rfl,aS,.value (.pointer (some ⟨w.heap.size,0,none⟩)),_,?_,.inl ⟨_,rfl,?_⟩,ba,bx⟩
 ·unfold execOp;rw[al];simp[nS,Instr.range,run_underlying hu,Result.andThen]
 ·exact bp.ptr ⟨st.ai,0,none⟩ _ dE rfl
def atL{f:ci}{ts:ap ce}(aa:cI X.aF x=true)(hm:X.qb f=some e)(al:o.op= .call {callee:=.value (.func f),args:= #[x],argTypes:=ts})(ae:cy ι fr a aJ)(hw:bo X ι st w)
 (h:nM fr st (.Bm e x)= .ok v aI st'):aI=fr∧ky X ι w v st' (execOp a.eval o):=by
 obtain⟨k,m,hn,g1⟩:=jT h (by simp);obtain⟨ab,aM⟩:=iJ g1 (by simp);obtain⟨n,aC,bc⟩:=mP aM (by simp);obtain⟨hle,cf⟩:=jz bc (by simp);have fF:=s5 ab;clear h g1 aM bc;subst aC fF;have cU:=ae.ak hw aa;rw[hn]at cU;generalize cD:a.eval x=fu at cU;cases cU;rw[gV]at cf;cases cf;obtain⟨cs,w',J,an,U,ag,az⟩:=X.EG f e hm n w (by omega);obtain⟨aS,ba,bx,dE,lH⟩:=bo.alloc X hw (.cells (lX [iD] n) e (0,0) true) (.cells cs e) (cs.size-n) (fun aS ke _ _ aW=>⟨cs,_,aW,by simp only[GB,zbT,an];omega,fun i af=>by
  have dG:i<n:=by simpa only[GB,zbT]using af
  refine⟨cs[i]'(by omega),by rw[zaC];exact zbD _,?_⟩;simp only[GB,List.getElem_replicate];exact .top _,fun _ i _ _ h=>absurd h.2 (zcN _),fun aR=>by cases aR⟩) w' ag az
 refine⟨rfl,aS,.value (.slice (some ⟨w.heap.size,0,none⟩) n cs.size),w',?_,.inl ⟨_,rfl,?_⟩,ba,bx⟩
 ·rw[Dt al];simp only[zca,zaM,zbQ,cD];exact U
 ·have:=bp.gN (ι:=aS) ⟨st.ai,0,none⟩ _ 0 n n dE rfl (.inl rfl);rw[show n+(cs.size-n)=cs.size by omega]at this;exact this
def ath(aa:cI X.aF x=true)(al:o.op= .call {callee:=.builtin .cap,args:= #[x],argTypes:= #[t]})(hu:X.P.underlying t=some (.slice e))(ae:cy ι fr a aJ)(hw:bo X ι st w)
 (h:nM fr st (.z0 x)= .ok v aI st'):aI=fr∧cn X ι w v st st' (execOp a.eval o):=by
 obtain⟨b,n,c,hp,h⟩:=vy h (by simp);obtain⟨hb,h⟩:=w2 h (fun _=>by simp);subst hb;cases h;have bX:=ae.ak hw aa;rw[hp]at bX;generalize cD:a.eval x=fu at bX;cases bX;refine⟨rfl,cn.same (v':=.int .i64 (.ofNat c)) hw ?_ (.int _ _)⟩;unfold execOp;rw[al];simp[cD,resolve,invoke,builtin,Builtin.cap_,run_underlying hu,Result.andThen,goInt]
def agP{pos:Nat}{b:bv}(h:s.data.toList[pos]? =some b)(hb:b.toNat<128):pos<s.size∧Utf8.decode s pos=(b.toNat,1):=by
 obtain⟨aN,he⟩:=zaf.1 h;have qL:pos<s.data.size:=by simpa using aN
 refine⟨qL,?_⟩;have aR:s.get! (pos+0)=b:=by
  show s.data[pos]! =b;rw[getElem!_pos s.data pos qL,<-he,zaw]
 unfold Utf8.decode;simp only[aR];rw[zab hb]
def at0{i:bi}(af:cI X.aF i=true)(al:o.op= .next i true)(ae:cy ι fr a aJ)(hw:bo X ι st w)
 (h:nM fr st (.Cf i)= .ok v aI st'):aI=fr∧ky X ι w v st' (execOp a.eval o):=by
 obtain⟨p,hp,g1⟩:=pB h (by simp);obtain⟨ad,D7,aM⟩:=gh g1 (by simp);obtain⟨ah,bc⟩:=w2 aM (fun _=>by simp);obtain⟨h0,cf⟩:=kS bc (by simp);obtain⟨s,pos,aR,cL⟩:=at6 cf (by simp);clear h g1 aM bc cf;subst D7;have l4:=ae.ak hw af;rw[hp]at l4;generalize jd:a.eval i=l9 at l4;obtain⟨l,hl,j6,e6,cb⟩:=hw.ez _ _ aR (by simp);have cb:w.heap[l.cH]? =some (.stringIter s pos):=cb;cases l4 with
 |ptr _ l' aG eB=>
  rw[hl]at aG;cases aG;rw[j6,h0]at jd;have jd:a.eval i= .pointer (some ⟨l.cH,0,none⟩):=jd;rw[Ah,List.head?_drop]at cL;cases aA:s.data.toList[pos]? with
  |none=>
   rw[aA]at cL;have cL:aV.ok (.tuple #[.bool false]) fr st= .ok v aI st':=cL;cases cL;have hn:¬pos<s.size:=fun aN=>by
    rw[zex]at aA;have:s.data.toList.length=s.size:=zbj;omega
   refine⟨rfl,ι,.value (.tuple #[.bool false]),w,?_,.inl ⟨_,rfl,bp.n0 (.cons (.bool _) (.nil _))⟩,hw,.refl _ _⟩;unfold execOp;rw[al];simp[jd,Instr.next,abD cb,hn,Result.andThen]
  |some b=>
   rw[aA]at cL;obtain⟨hb,ej⟩:=jz (cL:ek (Nat.succ b.toNat) 128 _ _=_) (by simp);rw[ks]at ej;cases ej;obtain⟨aN,amr⟩:=agP aA (by omega);obtain⟨ba,bx⟩:=bo.tB X hw aR (by simp) (fun ae=>ae) hl (.zs s (pos+1)) (.stringIter s (pos+1)) {w with heap:=w.heap.setIfInBounds l.cH (.stringIter s (pos+1))} rfl (fun _ aW=>⟨j6,e6,aW⟩);refine⟨rfl,ι,.value (.tuple #[.bool true,.int .i64 (pos:Int),.int .i32 (b.toNat:Int)]),_,?_,.inl ⟨_,rfl,bp.n0 (.cons (.bool _) (.cons (.int _ _) (.cons (.int _ _) (.nil _))))⟩,ba,bx⟩;unfold execOp;rw[al];simp[jd,Instr.next,abD cb,aN,amr,asB _ cb,Result.andThen,goInt]
end
section
variable{ι:bs}{fr aI:aP}{a:Act}{aJ:Nat}{st st':ay}{w:co}{o:Oper}{v:be}{call:bG}
def atu{y:vO}(ab:X.kX o.op (.ext y)=true)(ae:cy ι fr a aJ)(hw:bo X ι st w)(h:bK call (.ext y) fr st= .ok v aI st'):
 aI=fr∧xM X (.ext y) ι w v st st' (execOp a.eval o):=by
 generalize al:o.op=op at ab;have ab:FI X.P X.aF X.keys X.pP X.eqs X.p9 X.ma X.qb op y=true:=ab;have h:nM fr st y= .ok v aI st':=h;unfold FI at ab;split at ab
 ·simp only[bW]at ab;obtain⟨⟨⟨⟨J,U⟩,ag⟩,az⟩,a4⟩:=ab;obtain⟨rfl,ba⟩:=cQ J;obtain⟨rfl,bx⟩:=cQ U;have b3:=zbH ag;subst b3;obtain⟨fy,kk,hu,dw⟩:=Io az;rw[hu]at a4;simp only at a4;split at a4
  ·rename_i tI r3;rw[bW]at a4;have lY:=nB _ _ a4.1;subst lY;obtain⟨i,af,an⟩:=FK r3;exact ft (atI ba bx al hu dw af an a4.2 ae hw h) rfl
  ·cases a4
 ·simp only[bW]at ab;obtain⟨⟨⟨J,U⟩,ag⟩,az⟩:=ab;obtain⟨rfl,ba⟩:=cQ J;obtain⟨rfl,bx⟩:=cQ U;obtain⟨rfl,dE⟩:=cQ ag;obtain⟨fy,kk,hu,dw⟩:=Io az;exact sw (ab1 ba bx dE (.inl al) hu dw ae hw h) rfl rfl
 ·simp only[bW]at ab;obtain⟨⟨⟨J,U⟩,ag⟩,az⟩:=ab;obtain⟨rfl,ba⟩:=cQ J;obtain⟨rfl,bx⟩:=cQ U;obtain⟨rfl,dE⟩:=cQ ag;obtain⟨fy,kk,hu,dw⟩:=Io az;exact sw (ab1 ba bx dE (.inr al) hu dw ae hw h) rfl rfl
 ·simp only[bW]at ab;obtain⟨⟨J,U⟩,az⟩:=ab;obtain⟨rfl,ba⟩:=cQ J;obtain⟨rfl,bx⟩:=cQ U;obtain⟨fy,kk,hu,dw⟩:=Io az;exact sw (atr ba bx al hu dw ae hw h) rfl rfl
 ·rw[bW]at ab;obtain⟨rfl,ba⟩:=cQ ab.1;obtain⟨fy,kk,hu⟩:=isMap ab.2;exact ft (atN ba al hu ae hw h) rfl
 ·rw[bW]at ab;obtain⟨rfl,ba⟩:=cQ ab.1;obtain⟨fy,kk,hu⟩:=isMap ab.2;exact sw (atP ba al hu ae hw h) rfl rfl
 ·obtain⟨rfl,ba⟩:=cQ ab;exact ft (atJ ba al ae hw h) rfl
 ·cases h
 ·rw[bW]at ab;obtain⟨rfl,ba⟩:=cQ ab.1;exact sw (at1 ba al (isStr ab.2) ae hw h) rfl rfl
 ·obtain⟨rfl,ba⟩:=cQ ab;exact sw (at0 ba al ae hw h) rfl rfl
 ·rw[bW]at ab;obtain⟨rfl,ba⟩:=cQ ab.1;have U:=ab.2;split at U
  ·rename_i bL he;have e:=eT U;subst e;exact sw (atL ba he al ae hw h) rfl rfl
  ·cases U
 ·rw[bW]at ab;obtain⟨rfl,ba⟩:=cQ ab.1;obtain⟨e,hu⟩:=aow ab.2;exact ft (ath ba al hu ae hw h) rfl
 ·simp only[bW,decide_eq_true_eq]at ab;obtain⟨⟨⟨h0,J⟩,U⟩,_⟩:=ab;obtain⟨rfl,ba⟩:=cQ J;obtain⟨rfl,bx⟩:=cQ U;subst h0;exact ft (atl ba bx al ae hw h) rfl
 ·simp only[bW]at ab;obtain⟨⟨⟨J,U⟩,ag⟩,az⟩:=ab;obtain⟨rfl,ba⟩:=cQ J;obtain⟨rfl,bx⟩:=cQ U;have e:=eT az;subst e;exact ft (atB ba bx ag al ae hw h) rfl
 ·simp only[bW]at ab;obtain⟨⟨J,U⟩,ag⟩:=ab;obtain⟨rfl,ba⟩:=cQ J;obtain⟨rfl,bx⟩:=cQ U;exact ft (atm ba bx ag al ae hw h) rfl
 ·simp only[bW,decide_eq_true_eq]at ab;obtain⟨⟨⟨h0,J⟩,U⟩,ag⟩:=ab;obtain⟨rfl,ba⟩:=cQ J;obtain⟨rfl,bx⟩:=cQ U;subst h0;split at ag
  ·rename_i ck hn;have e:=eT ag;subst e;exact ft (ats ba bx hn al ae hw h) rfl
  ·cases ag
 ·cases ab
end
variable{op:Op}{ps:ac bi}{e a2:Nat}{f:bi}
def aon{p:bi}(ab:X.kX op (.ph p)=true):∃q t,op= .call {callee:=.builtin .len,args:= #[q],argTypes:= #[t]}∧(b2 X.aF p q&&(match X.P.underlying t with|some (.slice _)=>true|_=>false))=true:=by
 cases op with
 |call c=>
  obtain⟨callee,⟨args⟩,⟨ts⟩⟩:=c;cases callee with
  |builtin b=>
   cases b with
   |len=>
    match args,ts,ab with
    |[q],[t],ab=>exact⟨q,t,rfl,ab⟩
    |[],_,ab=>cases ab
    |_::_::_,_,ab=>cases ab
    |[_],[],ab=>cases ab
    |[_],_::_::_,ab=>cases ab
   |_=>cases ab
  |_=>cases ab
 |_=>cases ab
def aoo{p:bi}(ab:X.kX op (.uV p)=true):∃q t,op= .call {callee:=.builtin .len,args:= #[q],argTypes:= #[t]}∧(b2 X.aF p q&&(match X.P.underlying t with|some .string=>true|_=>false))=true:=by
 cases op with
 |call c=>
  obtain⟨callee,⟨args⟩,⟨ts⟩⟩:=c;cases callee with
  |builtin b=>
   cases b with
   |len=>
    match args,ts,ab with
    |[q],[t],ab=>exact⟨q,t,rfl,ab⟩
    |[],_,ab=>cases ab
    |_::_::_,_,ab=>cases ab
    |[_],[],ab=>cases ab
    |[_],_::_::_,ab=>cases ab
   |_=>cases ab
  |_=>cases ab
 |_=>cases ab
def aom{n:Nat}(ab:X.kX op (.yR n)=true):∃q t,op= .call {callee:=.builtin .len,args:= #[q],argTypes:= #[t]}∧(match X.P.underlying t with|some (.array m _)=>Nat.beq n m|some (.pointer u)=>(match X.P.underlying u with|some (.array m _)=>Nat.beq n m|_=>false)|_=>false)=true:=by
 cases op with
 |call c=>
  obtain⟨callee,⟨args⟩,⟨ts⟩⟩:=c;cases callee with
  |builtin b=>
   cases b with
   |len=>
    match args,ts,ab with
    |[q],[t],ab=>exact⟨q,t,rfl,ab⟩
    |[],_,ab=>cases ab
    |_::_::_,_,ab=>cases ab
    |[_],[],ab=>cases ab
    |[_],_::_::_,ab=>cases ab
   |_=>cases ab
  |_=>cases ab
 |_=>cases ab
def aoi{bT:Nat}{s p:bi}(ab:X.kX op (.app e a2 bT s p)=true):∃bq q t u,op= .call {callee:=.builtin .append,args:= #[bq,q],argTypes:= #[t,u]}∧
 (b2 X.aF s bq&&b2 X.aF p q&&(match X.P.underlying t,X.P.underlying u with
  |some (.slice el),some d=>Nat.beq e el&&(match d with|.int _=>false|_=>true)&&(match X.P.info? el with
   |some i=>Nat.beq a2 i.size&&Nat.beq bT i.bytes&&(match i.zero with|some v=>Nat.beq v.cells.size i.size|none=>false)
   |none=>false)
  |_,_=>false))=true:=by
 cases op with
 |call c=>
  obtain⟨callee,⟨args⟩,⟨ts⟩⟩:=c;cases callee with
  |builtin b=>
   cases b with
   |append=>
    match args,ts,ab with
    |[bq,q],[t,u],ab=>exact⟨bq,q,t,u,rfl,ab⟩
    |[],_,ab=>cases ab
    |[_],_,ab=>cases ab
    |_::_::_::_,_,ab=>cases ab
    |[_,_],[],ab=>cases ab
    |[_,_],[_],ab=>cases ab
    |[_,_],_::_::_::_,ab=>cases ab
   |_=>cases ab
  |_=>cases ab
 |_=>cases ab
def aoq{p:bi}(ab:X.kX op (.e7 p ps)=true):∃q dt ts,op= .call {callee:=.builtin .max,args:=(q::dt).toArray,argTypes:=ts}∧(b2 X.aF p q&&lo X.aF ps dt)=true:=by
 cases op with
 |call c=>
  obtain⟨callee,⟨args⟩,ts⟩:=c;cases callee with
  |builtin b=>
   cases b with
   |max=>
    match args,ab with
    |q::dt,ab=>exact⟨q,dt,ts,rfl,ab⟩
    |[],ab=>cases ab
   |_=>cases ab
  |_=>cases ab
 |_=>cases ab
def aop{p:bi}(ab:X.kX op (.y1 p ps)=true):∃q dt ts,op= .call {callee:=.builtin .min,args:=(q::dt).toArray,argTypes:=ts}∧(b2 X.aF p q&&lo X.aF ps dt)=true:=by
 cases op with
 |call c=>
  obtain⟨callee,⟨args⟩,ts⟩:=c;cases callee with
  |builtin b=>
   cases b with
   |min=>
    match args,ab with
    |q::dt,ab=>exact⟨q,dt,ts,rfl,ab⟩
    |[],ab=>cases ab
   |_=>cases ab
  |_=>cases ab
 |_=>cases ab
def aoj{d s:bi}(ab:X.kX op (.rF a2 d s)=true):∃nG bq t u,op= .call {callee:=.builtin .copy,args:= #[nG,bq],argTypes:= #[t,u]}∧
 (b2 X.aF d nG&&b2 X.aF s bq&&(match X.P.underlying t with|some (.slice e)=>(match g0 X.P e with|some n=>Nat.beq a2 n|none=>false)|_=>false))=true:=by
 cases op with
 |call c=>
  obtain⟨callee,⟨args⟩,⟨ts⟩⟩:=c;cases callee with
  |builtin b=>
   cases b with
   |copy=>
    match args,ts,ab with
    |[bq,q],[t,u],ab=>exact⟨bq,q,t,u,rfl,ab⟩
    |[],_,ab=>cases ab
    |[_],_,ab=>cases ab
    |_::_::_::_,_,ab=>cases ab
    |[_,_],[],ab=>cases ab
    |[_,_],[_],ab=>cases ab
    |[_,_],_::_::_::_,ab=>cases ab
   |_=>cases ab
  |_=>cases ab
 |_=>cases ab
def aou{p:bi}(ab:X.kX op (.B9 p)=true):∃q t,op= .call {callee:=.builtin .unsafeSliceData,args:= #[q],argTypes:= #[t]}∧b2 X.aF p q=true:=by
 cases op with
 |call c=>
  obtain⟨callee,⟨args⟩,⟨ts⟩⟩:=c;cases callee with
  |builtin b=>
   cases b with
   |unsafeSliceData=>
    match args,ts,ab with
    |[q],[t],ab=>exact⟨q,t,rfl,ab⟩
    |[],_,ab=>cases ab
    |_::_::_,_,ab=>cases ab
    |[_],[],ab=>cases ab
    |[_],_::_::_,ab=>cases ab
   |_=>cases ab
  |_=>cases ab
 |_=>cases ab
def aov{p n:bi}(ab:X.kX op (.tD e p n)=true):∃q m t u,op= .call {callee:=.builtin .unsafeString,args:= #[q,m],argTypes:= #[t,u]}∧
 (b2 X.aF p q&&b2 X.aF n m&&(match X.P.underlying t with|some (.pointer bL)=>Nat.beq e bL&&(match g0 X.P bL with|some 1=>true|_=>false)|_=>false))=true:=by
 cases op with
 |call c=>
  obtain⟨callee,⟨args⟩,⟨ts⟩⟩:=c;cases callee with
  |builtin b=>
   cases b with
   |unsafeString=>
    match args,ts,ab with
    |[bq,q],[t,u],ab=>exact⟨bq,q,t,u,rfl,ab⟩
    |[],_,ab=>cases ab
    |[_],_,ab=>cases ab
    |_::_::_::_,_,ab=>cases ab
    |[_,_],[],ab=>cases ab
    |[_,_],[_],ab=>cases ab
    |[_,_],_::_::_::_,ab=>cases ab
   |_=>cases ab
  |_=>cases ab
 |_=>cases ab
def aol{p c:bi}(ab:X.kX op (.kV p c)=true):∃f q d ts,op= .call {callee:=.value (.func f),args:= #[q,d],argTypes:=ts}∧(b2 X.aF p q&&b2 X.aF c d&&X.kV f)=true:=by
 cases op with
 |call c=>
  obtain⟨callee,⟨args⟩,ts⟩:=c;cases callee with
  |value g=>
   cases g with
   |func f=>
    match args,ab with
    |[q,d],ab=>exact⟨f,q,d,ts,rfl,ab⟩
    |[],ab=>cases ab
    |[_],ab=>cases ab
    |_::_::_::_,ab=>cases ab
   |_=>cases ab
  |_=>cases ab
 |_=>cases ab
def aor{p:bi}(ab:X.kX op (.kJ p)=true):∃f q ts,op= .call {callee:=.value (.func f),args:= #[q],argTypes:=ts}∧(b2 X.aF p q&&X.kJ f)=true:=by
 cases op with
 |call c=>
  obtain⟨callee,⟨args⟩,ts⟩:=c;cases callee with
  |value g=>
   cases g with
   |func f=>
    match args,ab with
    |[q],ab=>exact⟨f,q,ts,rfl,ab⟩
    |[],ab=>cases ab
    |_::_::_,ab=>cases ab
   |_=>cases ab
  |_=>cases ab
 |_=>cases ab
def aot(ab:X.kX op .vl=true):∃ts,op= .call {callee:=.builtin .recover,args:= #[],argTypes:=ts}:=by
 cases op with
 |call c=>
  obtain⟨callee,⟨args⟩,ts⟩:=c;cases callee with
  |builtin b=>
   cases b with
   |recover=>
    match args,ab with
    |[],_=>exact⟨ts,rfl⟩
    |_::_,ab=>cases ab
   |_=>cases ab
  |_=>cases ab
 |_=>cases ab
def X0(ab:X.kX op (.call f ps)=true):∃g args ts,op= .call {callee:=.value g,args:=args,argTypes:=ts}∧
 (b2 X.aF f g&&lo X.aF ps args.toList&&(match g with|.func k=>((X.P.funcs[k]?).map (fun fn=>fn.body.isSome&& !(fn.name== "runtime.NumGoroutine"))).getD false|_=>true))=true:=by
 cases op with
 |call c=>
  obtain⟨callee,args,ts⟩:=c;cases callee with
  |value g=>exact⟨g,args,ts,rfl,ab⟩
  |_=>cases ab
 |_=>cases ab
def aok(ab:X.kX op (.pS f ps)=true):∃g args ts,op= .defer {callee:=.value g,args:=args,argTypes:=ts}∧(b2 X.aF f g&&lo X.aF ps args.toList)=true:=by
 cases op with
 |defer c=>
  obtain⟨callee,args,ts⟩:=c;cases callee with
  |value g=>exact⟨g,args,ts,rfl,ab⟩
  |_=>cases ab
 |_=>cases ab
def aos{p:bi}(ab:X.kX op (.oI p)=true):∃q,op= .panic q∧b2 X.aF p q=true:=by
 cases op with
 |panic q=>exact⟨q,rfl,ab⟩
 |_=>cases ab
section
variable{ι:bs}{fr aI:aP}{a:Act}{aJ:Nat}{st st':ay}{w:co}{o:Oper}{v:be}{call:bG}
variable{x:dd}
def aqr(ab:X.kX o.op x=true)(ae:cy ι fr a aJ)(hw:bo X ι st w)(h:bK call x fr st= .ok v aI st')(aa:Mp x=false)(hp:x.inPlace=true):
 aI=fr∧xM X x ι w v st st' (execOp a.eval o):=by
 generalize al:o.op=op at ab;cases x with
 |tW k p=>
  cases op with
  |convert s t q=>
   have ab:(b2 X.aF p q&&(match X.P.underlying s,X.P.underlying t with|some _,some (.int k')=>decide (k=k')|_,_=>false))=true:=ab;rw[bW]at ab;obtain⟨J,U⟩:=ab;obtain⟨rfl,ba⟩:=cQ J;split at U
   ·rename_i Fo k' ah aW;have e:=zbI U;subst e;exact ft (atk (call:=call) ba al ah aW ae hw h) rfl
   ·cases U
  |_=>cases ab
 |xT p=>
  cases op with
  |convert s t q=>
   have ab:(b2 X.aF p q&&(match X.P.underlying s,X.P.underlying t with|some _,some .string=>true|_,_=>false))=true:=ab;rw[bW]at ab;obtain⟨J,U⟩:=ab;obtain⟨rfl,ba⟩:=cQ J;split at U
   ·rename_i Fo ah aW;exact ft (atj (call:=call) ba al ah aW ae hw h) rfl
   ·cases U
  |_=>cases ab
 |z1 p=>
  cases op with
  |convert s t q=>
   have ab:(b2 X.aF p q&&(match X.P.underlying s,X.P.underlying t with|some (.slice e),some .string=>(match X.P.underlying e with|some (.int .u8)=>true|_=>false)|_,_=>false))=true:=ab;rw[bW]at ab;obtain⟨J,U⟩:=ab;obtain⟨rfl,ba⟩:=cQ J;split at U
   ·rename_i e ah aW;split at U
    ·rename_i he;exact ft (ati (call:=call) ba al ah aW he ae hw h) rfl
    ·cases U
   ·cases U
  |_=>cases ab
 |v5 e p=>
  cases op with
  |convert s t q=>
   have ab:(b2 X.aF p q&&(match X.P.underlying s,X.P.underlying t with|some .string,some (.slice bL)=>Nat.beq e bL&&(match X.P.underlying bL,g0 X.P bL with|some (.int .u8),some 1=>true|_,_=>false)|_,_=>false))=true:=ab;rw[bW]at ab;obtain⟨J,U⟩:=ab;obtain⟨rfl,ba⟩:=cQ J;split at U
   ·rename_i bL ah aW;rw[bW]at U;have aC:=eT U.1;subst aC;have ag:=U.2;split at ag
    ·rename_i he an;obtain⟨i,af,p8⟩:=nz an;exact zU (atp (call:=call) ba al ah aW he af p8 ae hw h) rfl
    ·cases ag
   ·cases U
  |_=>cases ab
 |EF t p=>
  cases op with
  |makeInterface hT q=>
   have ab:(Nat.beq t hT&&b2 X.aF p q&&(match X.P.underlying hT with|some (.interface _)=>false|some _=>true|none=>false))=true:=ab;simp only[bW]at ab;obtain⟨⟨J,U⟩,ag⟩:=ab;have aC:=eT J;subst aC;obtain⟨rfl,ba⟩:=cQ U;split at ag
   ·cases ag
   ·rename_i d cd aA;exact ft (atK (call:=call) ba al aA (fun ms e=>cd ms (by rw[e])) ae hw h) rfl
   ·cases ag
  |_=>cases ab
 |sa fn p c=>
  cases fn with
  |func f=>
   cases op with
   |makeFunc rN q d=>
    cases rN with
    |func g=>
     have ab:(Nat.beq f g&&lo X.aF p q.toList&&lo X.aF c d.toList)=true:=ab;simp only[bW]at ab;obtain⟨⟨J,U⟩,ag⟩:=ab;have aC:=eT J;subst aC;obtain⟨rfl,ba⟩:=ti U;obtain⟨rfl,bx⟩:=ti ag;exact ft (abZ (call:=call) (by simp) ba bx al ae hw h) rfl
    |_=>cases ab
   |_=>cases ab
  |method f=>
   cases op with
   |makeFunc rN q d=>
    cases rN with
    |method g=>
     have ab:(f==g&&lo X.aF p q.toList&&lo X.aF c d.toList)=true:=ab;simp only[bW]at ab;obtain⟨⟨J,U⟩,ag⟩:=ab;have aC:=zbH J;subst aC;obtain⟨rfl,ba⟩:=ti U;obtain⟨rfl,bx⟩:=ti ag;exact ft (abZ (call:=call) (by simp) ba bx al ae hw h) rfl
    |_=>cases ab
   |_=>cases ab
  |_=>cases op<;>cases ab
 |Ou name Cj p=>cases op<;>cases ab
 |sb e bT z l c=>
  cases op with
  |makeSlice t l' bE=>
   have ab:(b2 X.aF l l'&&b2 X.aF c bE&&(match X.P.underlying t with
    |some (.slice el)=>Nat.beq e el&&(match X.P.info? el with
     |some i=>Nat.beq bT i.bytes&& !Nat.beq i.size 0&&(match i.zero with|some v=>mi z v.cells.toList&&nC z&&Nat.beq v.cells.toList.length i.size|none=>false)
     |none=>false)
    |_=>false))=true:=ab
   simp only[bW]at ab;obtain⟨⟨J,U⟩,ag⟩:=ab;obtain⟨rfl,ba⟩:=cQ J;obtain⟨rfl,bx⟩:=cQ U;split at ag
   ·rename_i el hu;rw[bW]at ag;obtain⟨az,a4⟩:=ag;have aC:=eT az;subst aC;split at a4
    ·rename_i i af;simp only[bW]at a4;obtain⟨⟨cl,dn⟩,g6⟩:=a4;have e2:=eT cl;subst e2;split at g6
     ·rename_i tI an;simp only[bW]at g6;obtain⟨⟨iZ,rO⟩,Hn⟩:=g6;have b3:=zA _ _ iZ;subst b3;exact zU (atM (call:=call) ba bx al hu af an (eT Hn) (IJ dn) rO ae hw h) rfl
     ·cases g6
    ·cases a4
   ·cases ag
  |_=>cases ab
 |tw p aQ af=>
  cases op with
  |slice t q r9 dG qd=>
   cases qd with
   |none=>
    have ab:(b2 X.aF p q&&mT X.aF aQ r9&&mT X.aF af dG&&(match X.P.underlying t with|some .string=>true|_=>false))=true:=ab;simp only[bW]at ab;obtain⟨⟨⟨J,U⟩,ag⟩,az⟩:=ab;obtain⟨rfl,ba⟩:=cQ J;obtain⟨rfl,bx⟩:=w9 U;obtain⟨rfl,dE⟩:=w9 ag;split at az
    ·rename_i hu;exact ft (atZ (call:=call) ba bx dE al hu ae hw h) rfl
    ·cases az
   |some m=>cases ab
  |_=>cases ab
 |Ce n s p aQ af e7=>
  cases op with
  |slice t q r9 dG qd=>
   have ab:(b2 X.aF p q&&mT X.aF aQ r9&&mT X.aF af dG&&mT X.aF e7 qd&&(qd.isNone||dG.isSome)&&
    (match X.P.underlying t with|some (.array ck e)=>Nat.beq n ck&&(match g0 X.P e with|some bq=>Nat.beq s bq|none=>false)|_=>false))=true:=ab
   simp only[bW]at ab;obtain⟨⟨⟨⟨⟨J,U⟩,ag⟩,az⟩,a4⟩,cl⟩:=ab;obtain⟨rfl,ba⟩:=cQ J;obtain⟨rfl,bx⟩:=w9 U;obtain⟨rfl,dE⟩:=w9 ag;obtain⟨rfl,uR⟩:=w9 az;have M9:e7≠none->af≠none:=by
    intro hm he;subst he;cases e7
    ·exact hm rfl
    ·simp at a4
   split at cl
   ·rename_i ck e hu;rw[bW]at cl;obtain⟨dn,g6⟩:=cl;have aC:=eT dn;subst aC;split at g6
    ·rename_i bq ah;obtain⟨a6,gw,rfl⟩:=nz ah;have e2:=eT g6;subst e2;exact ft (atX (call:=call) ba bx dE uR M9 al hu gw ae hw h) rfl
    ·cases g6
   ·cases cl
  |_=>cases ab
 |oO s p aQ af e7=>
  cases op with
  |slice t q r9 dG qd=>
   have ab:(b2 X.aF p q&&mT X.aF aQ r9&&mT X.aF af dG&&mT X.aF e7 qd&&(qd.isNone||dG.isSome)&&
    (match X.P.underlying t with|some (.slice e)=>(match g0 X.P e with|some bq=>Nat.beq s bq|none=>false)|_=>false))=true:=ab
   simp only[bW]at ab;obtain⟨⟨⟨⟨⟨J,U⟩,ag⟩,az⟩,a4⟩,cl⟩:=ab;obtain⟨rfl,ba⟩:=cQ J;obtain⟨rfl,bx⟩:=w9 U;obtain⟨rfl,dE⟩:=w9 ag;obtain⟨rfl,uR⟩:=w9 az;have M9:e7≠none->af≠none:=by
    intro hm he;subst he;cases e7
    ·exact hm rfl
    ·simp at a4
   split at cl
   ·rename_i e hu;split at cl
    ·rename_i bq ah;obtain⟨a6,gw,rfl⟩:=nz ah;have e2:=eT cl;subst e2;exact ft (atY (call:=call) ba bx dE uR M9 al hu gw ae hw h) rfl
    ·cases cl
   ·cases cl
  |_=>cases ab
 |qB off p=>
  cases op with
  |fieldAddr t q f=>
   have ab:(b2 X.aF p q&&(match X.P.underlying t with
    |some (.struct fields)=>(match fields[f]? with|some fd=>Nat.beq off fd.offset&&(match g0 X.P fd.type with|some s=> !Nat.beq s 0|none=>false)|none=>false)
    |_=>false))=true:=ab
   rw[bW]at ab;obtain⟨J,U⟩:=ab;obtain⟨rfl,ba⟩:=cQ J;split at U
   ·rename_i fields hu;split at U
    ·rename_i fd ux;rw[bW]at U;obtain⟨ag,az⟩:=U;have aC:=eT ag;subst aC;split at az
     ·rename_i s ah;obtain⟨i,af,rfl⟩:=nz ah;exact ft (atw (call:=call) ba al hu ux af (IJ az) ae hw h) rfl
     ·cases az
    ·cases U
   ·cases U
  |_=>cases ab
 |pZ off a2 h7 p=>
  cases op with
  |field t q f=>
   have ab:(b2 X.aF p q&&(match X.P.underlying t with
    |some (.struct fields)=>(match fields[f]? with|some fd=>Nat.beq off fd.offset&&(match g0 X.P fd.type,qo X.P fd.type with|some s,some g=>Nat.beq a2 s&&(h7==g)|_,_=>false)|none=>false)
    |_=>false))=true:=ab
   rw[bW]at ab;obtain⟨J,U⟩:=ab;obtain⟨rfl,ba⟩:=cQ J;split at U
   ·rename_i fields hu;split at U
    ·rename_i fd ux;rw[bW]at U;obtain⟨ag,az⟩:=U;have aC:=eT ag;subst aC;split at az
     ·rename_i s g ah aR;rw[bW]at az;obtain⟨i,af,rfl⟩:=nz ah;obtain⟨d,aA,e⟩:=CJ aR;have e2:=eT az.1;subst e2;have b3:h7=ry d:=by rw[e];simpa using az.2
      subst b3;exact ft (atx (call:=call) ba al hu ux aA af ae hw h) rfl
     ·cases az
    ·cases U
   ·cases U
  |_=>cases ab
 |qU n a2 p i=>
  cases op with
  |indexAddr t q j=>
   have ab:(b2 X.aF p q&&b2 X.aF i j&&(match X.P.underlying t with|some (.array ck e)=>Nat.beq n ck&&(match g0 X.P e with|some s=>Nat.beq a2 s|none=>false)|_=>false))=true:=ab;simp only[bW]at ab;obtain⟨⟨J,U⟩,ag⟩:=ab;obtain⟨rfl,ba⟩:=cQ J;obtain⟨rfl,bx⟩:=cQ U;split at ag
   ·rename_i ck e hu;rw[bW]at ag;obtain⟨az,a4⟩:=ag;have aC:=eT az;subst aC;split at a4
    ·rename_i s ah;obtain⟨a6,gw,rfl⟩:=nz ah;have e2:=eT a4;subst e2;exact ft (aty (call:=call) ba bx al hu gw ae hw h) rfl
    ·cases a4
   ·cases ag
  |_=>cases ab
 |l8 a2 p i=>
  cases op with
  |indexAddr t q j=>
   have ab:(b2 X.aF p q&&b2 X.aF i j&&(match X.P.underlying t with|some (.slice e)=>(match g0 X.P e with|some s=>Nat.beq a2 s|none=>false)|_=>false))=true:=ab;simp only[bW]at ab;obtain⟨⟨J,U⟩,ag⟩:=ab;obtain⟨rfl,ba⟩:=cQ J;obtain⟨rfl,bx⟩:=cQ U;split at ag
   ·rename_i e hu;split at ag
    ·rename_i s ah;obtain⟨a6,gw,rfl⟩:=nz ah;have e2:=eT ag;subst e2;exact ft (atz (call:=call) ba bx al hu gw ae hw h) rfl
    ·cases ag
   ·cases ag
  |_=>cases ab
 |uP p i=>
  cases op with
  |index t q j=>
   have ab:(b2 X.aF p q&&b2 X.aF i j&&(match X.P.underlying t with|some .string=>true|_=>false))=true:=ab;simp only[bW]at ab;obtain⟨⟨J,U⟩,ag⟩:=ab;obtain⟨rfl,ba⟩:=cQ J;obtain⟨rfl,bx⟩:=cQ U;split at ag
   ·rename_i hu;exact ft (atD (call:=call) ba bx al hu ae hw h) rfl
   ·cases ag
  |_=>cases ab
 |Ii n a2 h7 p i=>
  cases op with
  |index t q j=>
   have ab:(b2 X.aF p q&&b2 X.aF i j&&(match X.P.underlying t with|some (.array ck e)=>Nat.beq n ck&&(match g0 X.P e,qo X.P e with|some s,some g=>Nat.beq a2 s&&(h7==g)|_,_=>false)|_=>false))=true:=ab;simp only[bW]at ab;obtain⟨⟨J,U⟩,ag⟩:=ab;obtain⟨rfl,ba⟩:=cQ J;obtain⟨rfl,bx⟩:=cQ U;split at ag
   ·rename_i ck e hu;rw[bW]at ag;obtain⟨az,a4⟩:=ag;have aC:=eT az;subst aC;split at a4
    ·rename_i s g ah aR;rw[bW]at a4;obtain⟨a6,gw,rfl⟩:=nz ah;obtain⟨d,aA,e⟩:=CJ aR;have e2:=eT a4.1;subst e2;have b3:h7=ry d:=by rw[e];simpa using a4.2
     subst b3;exact ft (atC (call:=call) ba bx al hu aA gw ae hw h) rfl
    ·cases a4
   ·cases ag
  |_=>cases ab
 |Fz t z ok p=>
  cases op with
  |typeAssert q lq hT w5=>
   have ab:(b2 X.aF p q&&Nat.beq t hT&&(ok==w5)&&(match X.P.underlying hT with|some (.interface _)=>false|some _=>true|none=>false)&&(match sx X.P hT with|some v=>dJ z v&&kN z|none=>false))=true:=ab;simp only[bW]at ab;obtain⟨⟨⟨⟨J,U⟩,ag⟩,az⟩,a4⟩:=ab;obtain⟨rfl,ba⟩:=cQ J;have aC:=eT U;subst aC;have e2:ok=w5:=by simpa using ag
   subst e2;split at az
   ·cases az
   ·rename_i d cd aA;split at a4
    ·rename_i tI r3;rw[bW]at a4;have b3:=nB _ _ a4.1;subst b3;obtain⟨i,af,an⟩:=FK r3;exact ft (at3 (call:=call) ba al aA (fun ms e=>cd ms (by rw[e])) af an a4.2 ae hw h) rfl
    ·cases a4
   ·cases az
  |_=>cases ab
 |rL p i=>
  cases op with
  |extract q j=>
   have ab:(b2 X.aF p q&&Nat.beq i j)=true:=ab;rw[bW]at ab;obtain⟨rfl,ba⟩:=cQ ab.1;have aC:=eT ab.2;subst aC;exact ft (atv (call:=call) ba al ae hw h) rfl
  |_=>cases ab
 |C5 p=>
  cases op with
  |convert s t q=>
   have ab:(b2 X.aF p q&&(match X.P.underlying s,X.P.underlying t with|some (.pointer e),some .unsafePointer=>(match g0 X.P e with|some n=> !Nat.beq n 0|none=>false)|_,_=>false))=true:=ab;rw[bW]at ab;obtain⟨J,U⟩:=ab;obtain⟨rfl,ba⟩:=cQ J;split at U
   ·rename_i e ah aW;split at U
    ·rename_i n hn;obtain⟨i,af,rfl⟩:=nz hn;exact ft (atn (call:=call) ba al ah aW af (IJ U) ae hw h) rfl
    ·cases U
   ·cases U
  |_=>cases ab
 |C6 e n p=>
  cases op with
  |convert s t q=>
   have ab:(b2 X.aF p q&&(match X.P.underlying s,X.P.underlying t with|some .unsafePointer,some (.pointer bL)=>Nat.beq e bL&&(match g0 X.P bL with|some m=>Nat.beq n m&& !Nat.beq m 0|none=>false)|_,_=>false))=true:=ab;rw[bW]at ab;obtain⟨J,U⟩:=ab;obtain⟨rfl,ba⟩:=cQ J;split at U
   ·rename_i bL ah aW;rw[bW]at U;obtain⟨ag,az⟩:=U;have aC:=eT ag;subst aC;split at az
    ·rename_i m hm;rw[bW]at az;obtain⟨i,af,rfl⟩:=nz hm;have e2:=eT az.1;subst e2;exact ft (atq (call:=call) ba al ah aW af (IJ az.2) ae hw h) rfl
    ·cases az
   ·cases U
  |_=>cases ab
 |call f as=>cases hp
 |inv _ _ _=>cases hp
 |vl=>cases hp
 |pS f as=>cases hp
 |oI p=>cases hp
 |ph p=>
  obtain⟨q,t,rfl,hj⟩:=aon ab;rw[bW]at hj;obtain⟨rfl,ba⟩:=cQ hj.1;have U:=hj.2;split at U
  ·rename_i e hu;exact ft (atG (call:=call) ba al hu ae hw h) rfl
  ·cases U
 |uV p=>
  obtain⟨q,t,rfl,hj⟩:=aoo ab;rw[bW]at hj;obtain⟨rfl,ba⟩:=cQ hj.1;have U:=hj.2;split at U
  ·rename_i hu;exact ft (atH (call:=call) ba al hu ae hw h) rfl
  ·cases U
 |yR n=>
  obtain⟨q,t,rfl,hj⟩:=aom ab;split at hj
  ·rename_i m d hu;have e:=eT hj;subst e;exact ft (atE (call:=call) al hu hw h) rfl
  ·rename_i u hu;split at hj
   ·rename_i m d Eg;have e:=eT hj;subst e;exact ft (atF (call:=call) al hu Eg hw h) rfl
   ·cases hj
  ·cases hj
 |app e a2 bT s p=>
  obtain⟨bq,q,t,u,rfl,hj⟩:=aoi ab;simp only[bW]at hj;obtain⟨⟨J,U⟩,ag⟩:=hj;obtain⟨rfl,ba⟩:=cQ J;obtain⟨rfl,bx⟩:=cQ U;split at ag
  ·rename_i el d hu aA;simp only[bW]at ag;obtain⟨⟨az,a4⟩,cl⟩:=ag;have aC:=eT az;subst aC;split at cl
   ·rename_i i af;simp only[bW]at cl;obtain⟨⟨dn,g6⟩,iZ⟩:=cl;have e2:=eT dn;have b3:=eT g6;subst e2 b3;split at iZ
    ·rename_i tI an;exact sw (atb (call:=call) ba bx al hu aA (fun k e=>by subst e;cases a4) af an (eT iZ) ae hw h) rfl rfl
    ·cases iZ
   ·cases cl
  ·cases ag
 |e7 p ps=>
  obtain⟨q,dt,ts,rfl,hj⟩:=aoq ab;rw[bW]at hj;obtain⟨rfl,ba⟩:=cQ hj.1;obtain⟨rfl,bx⟩:=ti hj.2;exact ft (atQ (call:=call) (fun y aL=>by rcases zak.1 aL with rfl|aL;exact ba;exact bx y aL) al ae hw h) rfl
 |y1 p ps=>
  obtain⟨q,dt,ts,rfl,hj⟩:=aop ab;rw[bW]at hj;obtain⟨rfl,ba⟩:=cQ hj.1;obtain⟨rfl,bx⟩:=ti hj.2;exact ft (atO (call:=call) (fun y aL=>by rcases zak.1 aL with rfl|aL;exact ba;exact bx y aL) al ae hw h) rfl
 |rF a2 d s=>
  obtain⟨nG,bq,t,u,rfl,hj⟩:=aoj ab;simp only[bW]at hj;obtain⟨⟨J,U⟩,ag⟩:=hj;obtain⟨rfl,ba⟩:=cQ J;obtain⟨rfl,bx⟩:=cQ U;split at ag
  ·rename_i e hu;split at ag
   ·rename_i n hn;obtain⟨i,af,rfl⟩:=nz hn;have e2:=eT ag;subst e2;exact sw (ato (call:=call) ba bx al hu af ae hw h) rfl rfl
   ·cases ag
  ·cases ag
 |B9 p=>
  obtain⟨q,t,rfl,hj⟩:=aou ab;obtain⟨rfl,ba⟩:=cQ hj;exact ft (atW (call:=call) ba al ae hw h) rfl
 |tD e p n=>
  obtain⟨q,m,t,u,rfl,hj⟩:=aov ab;simp only[bW]at hj;obtain⟨⟨J,U⟩,ag⟩:=hj;obtain⟨rfl,ba⟩:=cQ J;obtain⟨rfl,bx⟩:=cQ U;split at ag
  ·rename_i bL hu;rw[bW]at ag;obtain⟨az,a4⟩:=ag;have aC:=eT az;subst aC;split at a4
   ·rename_i an;obtain⟨i,af,p8⟩:=nz an;exact sw (at5 (call:=call) ba bx al hu af p8 ae hw h) rfl rfl
   ·cases a4
  ·cases ag
 |kV p c=>
  obtain⟨f,q,d,ts,rfl,hj⟩:=aol ab;simp only[bW]at hj;obtain⟨⟨J,U⟩,ag⟩:=hj;obtain⟨rfl,ba⟩:=cQ J;obtain⟨rfl,bx⟩:=cQ U;exact ft (atA (call:=call) ba bx ag al ae hw h) rfl
 |kJ p=>
  obtain⟨f,q,ts,rfl,hj⟩:=aor ab;rw[bW]at hj;obtain⟨rfl,ba⟩:=cQ hj.1;exact ft (atU (call:=call) ba hj.2 al ae hw h) rfl
 |ext y=>exact atu (by rw[al];exact ab) ae hw h
 |_=>exact absurd aa.symm Bool.false_ne_true
def OL(ab:X.kX o.op x=true)(ae:cy ι fr a aJ)(hw:bo X ι st w)(h:bK call x fr st= .ok v aI st')(hp:x.inPlace=true):
 aI=fr∧xM X x ι w v st st' (execOp a.eval o):=by
 cases aa:Mp x
 ·exact aqr ab ae hw h aa hp
 ·exact aqq ab ae hw h aa
end
end Go.ar
namespace Go.ar
structure dF where
 fn:ci
 kind:CallKind
 b0:am Nat
def dF.at(b:dF)(a:Act)(todo:ac Item):Frame:=
 {fn:=b.fn,tmps:=a.tmps,todo:=todo,defers:=a.defers,mode:=.run,kind:=b.kind,roundOf:=b.b0}
def eval_at(b:dF)(a:Act)(todo:ac Item):(b.at a todo).eval=a.eval:=by
 funext x;cases x<;>rfl
section
variable{P:d9}{b:dF}{a:Act}{k:ac Item}{cs:ac Frame}{w:co}{ops:ap Oper}
variable{o:Oper}{i:Nat}{rest:ac Nat}{w':co}{c:Code}{l:Nat}{x y:Code}{v:be}{f:ci}
def auA:step P (lone (b.at a (.code .skip::k)) cs w)= .next (lone (b.at a k) cs w):=step_lone_go (by simp[stepG,stepG.exec,dF.at])
def auo:step P (lone (b.at a (.code (.label l)::k)) cs w)= .next (lone (b.at a k) cs w):=step_lone_go (by simp[stepG,stepG.exec,dF.at])
def aun{id:Nat}:step P (lone (b.at a (.inBlock id::k)) cs w)= .next (lone (b.at a k) cs w):=step_lone_go (by simp[stepG,stepG.exec,dF.at])
def acn:step P (lone (b.at a (.inScope c::k)) cs w)= .next (lone (b.at a k) cs w):=step_lone_go (by simp[stepG,stepG.exec,dF.at])
def acx:step P (lone (b.at a (.code (.seq x y)::k)) cs w)= .next (lone (b.at a (.code x:: .code y::k)) cs w):=step_lone_go (by simp[stepG,stepG.exec,dF.at])
def Kh{c:bi}{t:Bool}(h:a.eval c= .bool t):
 step P (lone (b.at a (.code (.cond c x y)::k)) cs w)= .next (lone (b.at a (.code (if t then x else y)::k)) cs w):=
 step_lone_go (by
  have:=eval_at b a (.code (.cond c x y)::k);simp only[dF.at]at this;simp[stepG,stepG.exec,dF.at,this,h])
def acj{id:Nat}:step P (lone (b.at a (.code (.block id c)::k)) cs w)= .next (lone (b.at a (.code c:: .inBlock id::k)) cs w):=step_lone_go (by simp[stepG,stepG.exec,dF.at])
def aco:step P (lone (b.at a (.code (.loop c)::k)) cs w)= .next (lone (b.at a (.code c:: .inLoop c::k)) cs w):=step_lone_go (by simp[stepG,stepG.exec,dF.at])
def acm:step P (lone (b.at a (.inLoop c::k)) cs w)= .next (lone (b.at a (.code c:: .inLoop c::k)) cs w):=step_lone_go (by simp[stepG,stepG.exec,dF.at])
def acw:step P (lone (b.at a (.code (.scope c)::k)) cs w)= .next (lone (b.at a (.code c:: .inScope c::k)) cs w):=step_lone_go (by simp[stepG,stepG.exec,dF.at])
def aum{id:Nat}{k':ac Item}(h:exitTo id k=some k'):step P (lone (b.at a (.code (.exit id)::k)) cs w)= .next (lone (b.at a k') cs w):=step_lone_go (by simp[stepG,stepG.exec,dF.at,h])
def acr{id:Nat}:step P (lone (b.at a (.code (.region id ops false)::k)) cs w)= .next (lone (b.at a (.inRegion ops (List.range ops.size)::k)) cs w):=step_lone_go (by simp[stepG,stepG.exec,dF.at])
def aut{id:Nat}:step P (lone (b.at a (.code (.region id ops true)::k)) cs w)=
 .next (lone (b.at a (.inRegion ops (Region.schedule (P.follows .mixedOrders) ops (w.tape w.drawn (.order b.fn id)))::k)) cs {w with drawn:=w.drawn+1}):=
 step_lone_go (by simp[stepG,stepG.exec,dF.at,choose,Sem.run,Question.forced,Question.cut])
def acs:step P (lone (b.at a (.inRegion ops []::k)) cs w)= .next (lone (b.at a k) cs w):=step_lone_go (by simp[stepG,stepG.exec,dF.at])
def finish_at(i:Nat)(rest:ac Nat)(v:be)(al:ops[i]? =some o):
 (b.at a (.inRegion ops (i::rest)::k)).finish v=b.at (a.put o.dst v) (.inRegion ops rest::k):=by
 cases h:o.dst<;>simp[Frame.finish,dF.at,Act.put,al,h]
def Ki(al:ops[i]? =some o)(h:Region.wanted o (yielded ops a.tmps)=false):
 step P (lone (b.at a (.inRegion ops (i::rest)::k)) cs w)= .next (lone (b.at (a.put o.dst undef) (.inRegion ops rest::k)) cs w):=by
 rw[<-finish_at i rest undef al];exact step_lone_go (by simp only[dF.at];simp[stepG,stepG.exec,al,h])
def xw(al:ops[i]? =some o)(hw:Region.wanted o (yielded ops a.tmps)=true)(aA:b.b0=none∨∀c,o.op≠.defer c):
 stepG P true {frame:=b.at a (.inRegion ops (i::rest)::k),callers:=cs,status:=.running,dying:=none} w=
  stepG.apply P true (b.at a (.inRegion ops (i::rest)::k)) cs none (execOp a.eval o) w:=by
 have he:=eval_at b a (.inRegion ops (i::rest)::k);simp only[dF.at]at he;simp only[stepG,stepG.exec,dF.at,al,Option.map_some,hw,zdO,if_true,stepG.oper,Frame.oper?];rcases aA with aA|aA
 ·simp only[aA]at he⊢;rw[he]
 ·cases aE:b.b0 with
  |none=>simp only[aE]at he ⊢;rw[he]
  |some l=>
   rw[aE]at he;cases dM:o.op<;>simp only[]<;>first|(exact absurd dM (aA _))|(rw[he])
def Kj(al:ops[i]? =some o)(hw:Region.wanted o (yielded ops a.tmps)=true)(aA:b.b0=none∨∀c,o.op≠.defer c)
 (aE:(execOp a.eval o).run P w= .ok (.value v) w'):step P (lone (b.at a (.inRegion ops (i::rest)::k)) cs w)= .next (lone (b.at (a.put o.dst v) (.inRegion ops rest::k)) cs w'):=by
 refine step_lone_go ?_;rw[xw al hw aA,<-finish_at i rest v al];simp[stepG.apply,aE]
def auq(al:ops[i]? =some o)(hw:Region.wanted o (yielded ops a.tmps)=true)(aA:b.b0=none∨∀c,o.op≠.defer c)
 (aE:(execOp a.eval o).run P w= .ok .skip w'):step P (lone (b.at a (.inRegion ops (i::rest)::k)) cs w)= .next (lone (b.at (a.put o.dst undef) (.inRegion ops rest::k)) cs w'):=by
 refine step_lone_go ?_;rw[xw al hw aA,<-finish_at i rest undef al];simp[stepG.apply,aE]
def aup{d:Deferred}(al:ops[i]? =some o)(hw:Region.wanted o (yielded ops a.tmps)=true)(aA:b.b0=none)
 (aE:(execOp a.eval o).run P w= .ok (.defer d) w'):step P (lone (b.at a (.inRegion ops (i::rest)::k)) cs w)= .next (lone (b.at ({a with defers:=d::a.defers}.put o.dst undef) (.inRegion ops rest::k)) cs w'):=by
 refine step_lone_go ?_;rw[xw al hw (.inl aA)];have:=finish_at (b:=b) (a:={a with defers:=d::a.defers}) (k:=k) i rest undef al;rw[<-this];simp[stepG.apply,aE,dF.at]
def acp{args:ap be}(al:ops[i]? =some o)(hw:Region.wanted o (yielded ops a.tmps)=true)(aA:b.b0=none∨∀c,o.op≠.defer c)
 (aE:(execOp a.eval o).run P w= .ok (.enter f args) w'):step P (lone (b.at a (.inRegion ops (i::rest)::k)) cs w)= .next (lone (Frame.enter P f args .normal) (b.at a (.inRegion ops (i::rest)::k)::cs) w'):=by
 refine step_lone_go ?_;rw[xw al hw aA];simp[stepG.apply,aE,dF.at]
def acq{ts:ap be}{dB body:Code}(al:ops[i]? =some o)(hw:Region.wanted o (yielded ops a.tmps)=true)(aA:b.b0=none∨∀c,o.op≠.defer c)
 (aE:(execOp a.eval o).run P w= .ok (.round l f ts dB body) w'):step P (lone (b.at a (.inRegion ops (i::rest)::k)) cs w)= .next (lone (Frame.round l f ts dB body .normal) (b.at a (.inRegion ops (i::rest)::k)::cs) w'):=by
 refine step_lone_go ?_;rw[xw al hw aA];simp[stepG.apply,aE,dF.at]
def aus(al:ops[i]? =some o)(hw:Region.wanted o (yielded ops a.tmps)=true)(aA:b.b0=none)
 (aE:(execOp a.eval o).run P w= .ok .recover w'):
 step P (lone (b.at a (.inRegion ops (i::rest)::k)) cs w)=match tryRecover (b.at a (.inRegion ops (i::rest)::k)) cs with
  |some (v,cs')=>.next (lone (b.at (a.put o.dst v) (.inRegion ops rest::k)) cs' w')
  |none=>.next (lone (b.at (a.put o.dst .nilIface) (.inRegion ops rest::k)) cs w'):=by
 have D9:(b.at a (.inRegion ops (i::rest)::k)).roundOf=none:=aA;cases aW:tryRecover (b.at a (.inRegion ops (i::rest)::k)) cs with
 |none=>
  refine step_lone_go ?_;rw[xw al hw (.inl aA),<-finish_at i rest _ al];simp[stepG.apply,aE,D9,aW]
 |some p=>
  obtain⟨v,cs'⟩:=p;refine step_lone_go ?_;rw[xw al hw (.inl aA),<-finish_at i rest _ al];simp[stepG.apply,aE,D9,aW]
def aur(al:ops[i]? =some o)(hw:Region.wanted o (yielded ops a.tmps)=true)(aA:b.b0=none∨∀c,o.op≠.defer c)
 (aE:(execOp a.eval o).run P w= .halt (.panic v) w'):step P (lone (b.at a (.inRegion ops (i::rest)::k)) cs w)= .next (lone {b.at a (.inRegion ops (i::rest)::k)with mode:=.panicking [{v,recovered:=false}]} cs w'):=by
 refine step_lone_go ?_;rw[xw al hw aA];simp[stepG.apply,aE,dF.at,Frame.raise]
end
inductive KP(P:Program)(fv:Value)(args:List Value)(w:World):Frame->Prop
 |enter (f:FuncId) (as:Array Value) (h:((do let d<-Deferred.ofValue fv args.toArray;invoke d.target d.args):Sem Next).run P w= .ok (.enter f as) w):KP P fv args w (Frame.enter P f as .normal)
 |round (l:Nat) (f:FuncId) (ts:Array Value) (dB body:Code) (h:((do let d<-Deferred.ofValue fv args.toArray;invoke d.target d.args):Sem Next).run P w= .ok (.round l f ts dB body) w):KP P fv args w (Frame.round l f ts dB body .normal)
def Cy(X:Ctx)(ι:bs)(w:co)(eL c:Frame)(cs:ac Frame):dh->Prop
 |.ret v st' _=>∃aS v' w',bp aS v v'∧bo X aS st' w'∧e3 ι aS w w'∧Steps X.P (lone eL (c::cs) w) (lone (c.finish v') cs w')
 |.a1 v st' _=>∃aS v' w',bp aS v v'∧bo X aS st' w'∧e3 ι aS w w'∧Steps X.P (lone eL (c::cs) w) (lone (c.raise [{v:=v',recovered:=false}]) cs w')
 |.no=>True
def mj(X:Ctx)(call:bG):Prop:=
 ∀ι fv args st Hd kz w,bp ι fv Hd->bJ ι args kz->bo X ι st w->call fv args none st≠.no->
  ∃eL,KP X.P Hd kz w eL∧∀c cs,Cy X ι w eL c cs (call fv args none st)
def jX(b:dF)(a1:am be)(ι:bs)(bb:Bool->ac Frame):Prop:=
 match a1 with
 |none=>∀(F:Frame) (eK:Bool),F.kind=b.kind->tryRecover F (bb eK)=none
 |some tp=>∃oK,bp ι tp oK∧(∀F:Frame,F.kind=b.kind->tryRecover F (bb false)=some (oK,bb true))∧∀F:Frame,F.kind=b.kind->tryRecover F (bb true)=none
def jX.mono{b:dF}{a1:am be}{ι aS:bs}{bb:Bool->ac Frame}(hle:ι.le aS)(h:jX b a1 ι bb):jX b a1 aS bb:=by
 cases a1 with
 |none=>exact h
 |some tp=>obtain⟨oK,J,U,ag⟩:=h;exact⟨oK,J.mono hle,U,ag⟩
def oc(ι:bs)(x:am Nat)(y:am Nat):Prop:=(x=none∧y=none)∨∃l l',x=some l∧y=some l'∧ι l=some ⟨l',0,0,id⟩
def oc.mono{ι aS:bs}(hle:ι.le aS){x y:am Nat}(h:oc ι x y):oc aS x y:=by
 rcases h with h|⟨l,l',J,U,ag⟩
 ·exact .inl h
 ·exact .inr ⟨l,l',J,U,hle _ _ ag⟩
variable{X:Ctx}
def mU(X:Ctx)(aJ:Nat)(ops:ap Oper)(x:bz)(o:Oper):Bool:=
 (match x.d,o.dst with
  |none,none=>true
  |some a,some b=>Nat.beq a b&&Nat.ble (Nat.succ b) aJ
  |_,_=>false)&&X.kX o.op x.o&&
 (match x.g,o.guard with
  |none,none=>true
  |some (t,want),some (j,Qr)=>(want==Qr)&&(match(ops[j]?).bind (·.dst)with|some hT=>Nat.beq t hT&&Nat.ble (Nat.succ t) aJ|none=>false)
  |_,_=>false)
section
variable{aJ:Nat}{ops:ap Oper}{x:bz}{o:Oper}
def I6(h:mU X aJ ops x o=true):x.d=o.dst∧∀t,x.d=some t->t<aJ:=by
 unfold mU at h;simp only[bW]at h;have J:=h.1.1;split at J
 ·rename_i aC e2;rw[aC,e2];exact⟨rfl,by simp⟩
 ·rename_i a b aC e2;rw[bW]at J;have:=eT J.1;subst this;rw[aC,e2];exact⟨rfl,fun t aW=>by cases aW;exact mn.1 J.2⟩
 ·cases J
def EY(h:mU X aJ ops x o=true):X.kX o.op x.o=true:=by
 unfold mU at h;simp only[bW]at h;exact h.1.2
variable{ι:bs}{fr aI:aP}{a:Act}{st st':ay}{w:co}{v:be}{call:bG}{b:dF}{bb:Bool->ac Frame}{k:ac Item}{i:Nat}{rest:ac Nat}
def ado{α:Type}{yes h4 z r:α}(h:mU X aJ ops x o=true)(ae:cy ι fr a aJ)(ab:gB fr x.g yes h4 z=r)(an:z≠r):
 (yes=r∧Region.wanted o (yielded ops a.tmps)=true)∨(h4=r∧Region.wanted o (yielded ops a.tmps)=false):=by
 unfold mU at h;simp only[bW]at h;have J:=h.2;split at J
 ·rename_i aC e2;rw[aC]at ab;exact .inl ⟨ab,by simp[Region.wanted,e2]⟩
 ·rename_i t want j Qr aC e2;rw[aC]at ab;rw[bW]at J;obtain⟨hw,ag⟩:=J;have er:want=Qr:=by simpa using hw
  subst er;split at ag
  ·rename_i hT sX;rw[bW]at ag;have b3:=eT ag.1;subst b3;have aN:t<a.tmps.size:=by rw[ae.size];exact mn.1 ag.2
   have A5:=ae.tmp t;have aR:a.tmps[t]? =some (a.tmps.getD t undef):=by simp[Array.getD,aN]
   have aL:yielded ops a.tmps j=match a.tmps.getD t undef with|.bool b=>some b|_=>none:=by
    unfold yielded;rw[sX];simp only[Option.bind_some,aR];cases a.tmps.getD t undef<;>rfl
   have nW:Region.wanted o (yielded ops a.tmps)=(yielded ops a.tmps j==some want):=by simp[Region.wanted,e2]
   have fF:mh (fr.tmp t) (fun b=>cond b (cond want yes h4) (cond want h4 yes)) (rk (fr.tmp t) (fun _=>h4) z)=r:=ab;generalize hc:a.tmps.getD t undef=GH at A5 aL;generalize aW:fr.tmp t=Qd at fF A5;cases Qd with
   |bool qs=>
    cases A5;have km:cond qs (cond want yes h4) (cond want h4 yes)=r:=fF;rw[nW,aL];cases qs<;>cases want
    ·exact .inl ⟨km,rfl⟩
    ·exact .inr ⟨km,rfl⟩
    ·exact .inr ⟨km,rfl⟩
    ·exact .inl ⟨km,rfl⟩
   |tuple xs=>
    cases A5;exact .inr ⟨fF,by rw[nW,aL];rfl⟩
   |_=>exact absurd fF an
  ·cases ag
 ·cases J
def aqX(a:Act)(d:am Tmp)(v:be){ds:ac Deferred}:({a with defers:=ds}.put d v).tmps=(a.put d v).tmps:=by cases d<;>rfl
def ZX(bN:mU X aJ ops x o=true)(dR:mj X call)(al:ops[i]? =some o)(gx:Region.wanted o (yielded ops a.tmps)=true)(ae:cy ι fr a aJ)(hw:bo X ι st w)(hb:oc ι fr.b0 b.b0)
 (aE:jX b fr.a1 ι bb) (h:bK call x.o fr st= .ok v aI st'):
 ∃aS a' w',Steps X.P (lone (b.at a (.inRegion ops (i::rest)::k)) (bb fr.cB) w) (lone (b.at a' (.inRegion ops rest::k)) (bb aI.cB) w')∧cy aS (aI.put x.d v) a' aJ∧bo X aS st' w'∧e3 ι aS w w'∧
  aI.a1=fr.a1∧aI.b0=fr.b0∧∃v',a'.tmps=(a.put o.dst v').tmps:=by
 obtain⟨l1,l2⟩:=I6 bN;have dM:=EY bN;have qQ:∀{q:Prop},(b.b0=none->q)->(fr.b0=none->q):=by
  intro q hq hn;rcases hb with⟨_,U⟩|⟨l,l',J,_,_⟩
  ·exact hq U
  ·rw[hn]at J;cases J
 by_cases hp:x.o.inPlace=true
 ·obtain⟨rfl,⟨aS,n,w',gg,hn,er,ab⟩,_⟩:=OL dM ae hw h hp;have lh:b.b0=none∨∀c,o.op≠.defer c:=by
   right;intro c hc;rw[hc]at dM;cases aa:x.o with
   |sa fn p q=>rw[aa]at dM;cases fn<;>cases dM
   |wV p=>rw[aa]at h;cases h
   |refuse=>rw[aa]at h;cases h
   |pS p q=>rw[aa]at hp;cases hp
   |ext y=>rw[aa]at dM;cases y<;>cases dM
   |_=>rw[aa]at dM;cases dM
  rcases hn with⟨v',rfl,aD⟩|⟨rfl,rfl⟩
  ·refine⟨aS,a.put o.dst v',w',.one (Kj al gx lh gg),?_,er,ab,rfl,rfl,_,rfl⟩;rw[<-l1];exact(ae.mono ab.le).put l2 aD
  ·refine⟨aS,a.put o.dst undef,w',.one (auq al gx lh gg),?_,er,ab,rfl,rfl,_,rfl⟩;rw[<-l1];exact(ae.mono ab.le).put l2 (bp.undef aS)
 ·cases aa:x.o with
  |call f ps=>
   rw[aa]at h dM;obtain⟨g,args,ts,pd,hj⟩:=X0 dM;simp only[bW]at hj;obtain⟨rfl,ba⟩:=cQ hj.1.1;obtain⟨rfl,bx⟩:=ti hj.1.2;have aG:dh.rec (motive:=fun _=>aV) (fun v st _=>.ok v fr st) (fun v st _=>.a1 v st) .no (call (fr.ak f) (ey fr args.toList) none st)=aV.ok v aI st':=h;have lh:b.b0=none∨∀c,o.op≠.defer c:=.inr (by rw[pd];simp);obtain⟨eL,eH,uD⟩:=dR ι (fr.ak f) (ey fr args.toList) st (a.eval f) (args.toList.map a.eval) w (ae.ak hw ba) (Ar ae hw _ bx) hw (by intro e;rw[e]at aG;cases aG);have DN:(execOp a.eval o).run X.P w=((do let d<-Deferred.ofValue (a.eval f) (args.toList.map a.eval).toArray;invoke d.target d.args):Sem Next).run X.P w:=by
    unfold execOp;rw[pd];simp[resolve,<-Array.toList_map]
   cases hc:call (fr.ak f) (ey fr args.toList) none st with
   |ret v1 cu eK=>
    rw[hc]at aG uD;have uj:aV.ok v1 fr cu=aV.ok v aI st':=aG;obtain⟨aC,e2,b3⟩:=w7 uj;subst aC e2 b3;obtain⟨aS,v',w',aD,er,ab,yG⟩:=uD (b.at a (.inRegion ops (i::rest)::k)) (bb fr.cB);have mF:=finish_at (b:=b) (a:=a) (k:=k) i rest v' al;rw[mF]at yG;refine⟨aS,a.put o.dst v',w',?_,?_,er,ab,rfl,rfl,_,rfl⟩
    ·cases eH with
     |enter na as ah=>exact .head (acp al gx lh (by rw[DN];exact ah)) yG
     |round l na Qc dB body ah=>exact .head (acq al gx lh (by rw[DN];exact ah)) yG
    ·rw[<-l1];exact(ae.mono ab.le).put l2 aD
   |a1 v1 cu eK=>rw[hc]at aG;cases aG
   |no=>rw[hc]at aG;cases aG
  |inv Cj f ps=>rw[aa]at h;cases h
  |vl=>
   rw[aa]at h dM;obtain⟨ts,pd⟩:=aot dM;obtain⟨hn,J⟩:=w2 (h:bk fr.b0 _ _=_) (fun _=>by simp);have AK:b.b0=none:=qQ id hn;have gg:(execOp a.eval o).run X.P w= .ok .recover w:=by
    unfold execOp;rw[pd];simp[resolve,invoke,builtin]
   have ah:=aus (b:=b) (k:=k) (cs:=bb fr.cB) al gx AK gg (rest:=rest);cases jw:fr.a1 with
   |none=>
    rw[jw]at J aE;have U:aV.ok .nilIface fr st=aV.ok v aI st':=J;obtain⟨aC,e2,b3⟩:=w7 U;subst aC e2 b3;rw[aE _ _ rfl]at ah;refine⟨ι,_,w,.one ah,?_,hw,.refl _ _,jw,rfl,_,rfl⟩;rw[<-l1];exact ae.put l2 .nilIface
   |some tp=>
    rw[jw]at J aE;obtain⟨oK,AZ,jM,ox⟩:=aE;have U:cond fr.cB (aV.ok .nilIface fr st) (.ok tp ⟨fr.t,fr.cS,fr.a1,true,fr.b0⟩ st)=aV.ok v aI st':=by rw[jw];exact J
    cases sY:fr.cB with
    |true=>
     rw[sY]at U ah;obtain⟨aC,e2,b3⟩:=w7 (U:aV.ok .nilIface fr st=aV.ok v aI st');subst aC e2 b3;rw[ox _ rfl]at ah;refine⟨ι,_,w,by rw[sY];exact .one ah,?_,hw,.refl _ _,jw,rfl,_,rfl⟩;rw[<-l1];exact ae.put l2 .nilIface
    |false=>
     rw[sY]at U ah;obtain⟨aC,e2,b3⟩:=w7 (U:aV.ok tp ⟨fr.t,fr.cS,fr.a1,true,fr.b0⟩ st=aV.ok v aI st');subst aC e2 b3;rw[jM _ rfl]at ah;refine⟨ι,_,w,.one ah,?_,hw,.refl _ _,jw,rfl,_,rfl⟩;rw[<-l1];exact cy.put (fr:=⟨fr.t,fr.cS,fr.a1,true,fr.b0⟩) ⟨ae.tmp,ae.size,ae.cS⟩ l2 AZ
  |pS f ps=>
   rw[aa]at h dM;obtain⟨g,args,ts,pd,hj⟩:=aok dM;simp only[bW]at hj;obtain⟨rfl,ba⟩:=cQ hj.1;obtain⟨rfl,bx⟩:=ti hj.2;obtain⟨hn,J⟩:=w2 (h:bk fr.b0 _ _=_) (fun _=>by simp);have AK:b.b0=none:=qQ id hn;obtain⟨fn,first,fU,AN,U⟩:=Qp J (by simp);have aD:=ae.ak hw ba;rw[AN]at aD;cases fn with
   |func WB=>
    obtain⟨aC,e2,b3⟩:=w7 (U:aV.ok undef ⟨fr.t,{target:=.fn (.func WB) fU,args:=⟨fS first.toList (ey fr args.toList)⟩}::fr.cS,fr.a1,fr.cB,fr.b0⟩ st=aV.ok v aI st');subst aC e2 b3;generalize lD:a.eval f=vR at aD;cases aD with
    |func _ hk _ av _ vs gv fa fR m6 CE=>
     have hM:=Ar ae hw _ bx;have gg:(execOp a.eval o).run X.P w= .ok (.defer {target:=.fn hk vs,args:=av++args.map a.eval}) w:=by
      unfold execOp;rw[pd];simp[resolve,lD,Deferred.ofValue]
     have ah:=aup (b:=b) (k:=k) (cs:=bb fr.cB) al gx AK gg (rest:=rest);refine⟨ι,_,w,.one ah,?_,hw,.refl _ _,rfl,rfl,undef,aqX _ _ _⟩;rw[<-l1];refine cy.put (fr:=⟨fr.t,{target:=.fn (.func WB) fU,args:=⟨fS first.toList (ey fr args.toList)⟩}::fr.cS,fr.a1,fr.cB,fr.b0⟩) (a:={a with defers:={target:=.fn hk vs,args:=av++args.map a.eval}::a.defers}) ⟨ae.tmp,ae.size,⟨⟨?_,gv,bJ.w4 m6 CE⟩,ae.cS⟩⟩ l2 (bp.undef ι);have:=(bJ.w4 fa fR).append hM;simpa using this
   |_=>cases U
  |oI p=>
   rw[aa]at h;obtain⟨t,adj,_,J⟩:=Qq (h:xD (fr.ak p) _ _=_) (by simp);cases J
  |_=>rw[aa]at hp;exact absurd rfl hp
end
end Go.ar
namespace Go.ar
variable{X:Ctx}
section
variable{aJ:Nat}{ops:ap Oper}{x:bz}{o:Oper}{ι:bs}{fr aI:aP}{a:Act}{st st':ay}{w:co}{v:be}{call:bG}{b:dF}{bb:Bool->ac Frame}{k:ac Item}{i:Nat}{rest:ac Nat}
variable{cs:ac Frame}{s bq:Machine}{aS:bs}
def dF.panics(b:dF)(a:Act)(todo:ac Item)(v:be):Frame:={b.at a todo with mode:=.panicking [{v,recovered:=false}]}
def ZY(bN:mU X aJ ops x o=true)(dR:mj X call)(al:ops[i]? =some o)(gx:Region.wanted o (yielded ops a.tmps)=true)(ae:cy ι fr a aJ)(hw:bo X ι st w)
 (gH:x.o.k7=true) (h:bK call x.o fr st= .a1 v st'):
 ∃aS v' w',Steps X.P (lone (b.at a (.inRegion ops (i::rest)::k)) cs w) (lone (b.panics a (.inRegion ops (i::rest)::k) v') cs w')∧bp aS v v'∧bo X aS st' w'∧e3 ι aS w w':=by
 have dM:=EY bN;cases aa:x.o with
 |call f ps=>
  rw[aa]at h dM;obtain⟨g,args,ts,pd,hj⟩:=X0 dM;simp only[bW]at hj;obtain⟨rfl,ba⟩:=cQ hj.1.1;obtain⟨rfl,bx⟩:=ti hj.1.2;have aG:dh.rec (motive:=fun _=>aV) (fun v st _=>.ok v fr st) (fun v st _=>.a1 v st) .no (call (fr.ak f) (ey fr args.toList) none st)=aV.a1 v st':=h;have lh:b.b0=none∨∀c,o.op≠.defer c:=.inr (by rw[pd];simp);obtain⟨eL,eH,uD⟩:=dR ι (fr.ak f) (ey fr args.toList) st (a.eval f) (args.toList.map a.eval) w (ae.ak hw ba) (Ar ae hw _ bx) hw (by intro e;rw[e]at aG;cases aG);have DN:(execOp a.eval o).run X.P w=((do let d<-Deferred.ofValue (a.eval f) (args.toList.map a.eval).toArray;invoke d.target d.args):Sem Next).run X.P w:=by
   unfold execOp;rw[pd];simp[resolve,<-Array.toList_map]
  cases hc:call (fr.ak f) (ey fr args.toList) none st with
  |a1 v1 cu eK=>
   rw[hc]at aG uD;have uj:aV.a1 v1 cu=aV.a1 v st':=aG;cases uj;obtain⟨aS,v',w',aD,er,ab,yG⟩:=uD (b.at a (.inRegion ops (i::rest)::k)) cs;have anA:(b.at a (.inRegion ops (i::rest)::k)).raise [{v:=v',recovered:=false}]=b.panics a (.inRegion ops (i::rest)::k) v':=rfl;rw[anA]at yG;refine⟨aS,v',w',?_,aD,er,ab⟩;cases eH with
   |enter na as ah=>exact .head (acp al gx lh (by rw[DN];exact ah)) yG
   |round l na Qc dB body ah=>exact .head (acq al gx lh (by rw[DN];exact ah)) yG
  |ret v1 cu eK=>rw[hc]at aG;cases aG
  |no=>rw[hc]at aG;cases aG
 |inv Cj f ps=>rw[aa]at h;cases h
 |oI p=>
  rw[aa]at h dM;obtain⟨q,pd,hj⟩:=aos dM;obtain⟨rfl,ba⟩:=cQ hj;obtain⟨t,adj,hp,J⟩:=Qq (h:xD (fr.ak p) _ _=_) (by simp);have U:aV.a1 (.iface t adj) st=aV.a1 v st':=J;cases U;have aD:=ae.ak hw ba;rw[hp]at aD;generalize lD:a.eval p=vR at aD;cases aD with
  |iface _ _ avq anV=>
   refine⟨ι,.iface t avq,w,.one (aur al gx (.inr (by rw[pd];simp)) ?_),.iface _ _ _ anV,hw,.refl _ _⟩;unfold execOp;rw[pd];simp[lD,Instr.panic,Result.andThen]
 |_=>rw[aa]at gH;cases gH
def FP(P:d9)(s:Machine)(b:dF)(a:Act)(k:ac Item)(cs:ac Frame)(w:co)(aS:bs):dv->Prop
 |.norm=>Steps P s (lone (b.at a k) cs w)
 |.exit id=>∃hU,exitTo id hU=exitTo id k∧Steps P s (lone (b.at a (.code (.exit id)::hU)) cs w)
 |.ret=>∃hU,Steps P s (lone (b.at a (.code .ret::hU)) cs w)
 |.a1 v=>∃v' hU,bp aS v v'∧Steps P s (lone (b.panics a hU v') cs w)
def fN(X:Ctx)(b:dF)(aJ:Nat)(bb:Bool->ac Frame)(s:Machine)(k:ac Item)(fr:aP)(ι:bs)(w:co):cm->Prop
 |.out e aI st'=>∃aS a' w',cy aS aI a' aJ∧bo X aS st' w'∧e3 ι aS w w'∧aI.a1=fr.a1∧aI.b0=fr.b0∧FP X.P s b a' k (bb aI.cB) w' aS e
 |.no=>True
def FP.head{P:d9}{e:dv}(h:Steps P s bq)(aG:FP P bq b a k cs w aS e):FP P s b a k cs w aS e:=by
 cases e with
 |norm=>exact h.trans aG
 |exit id=>obtain⟨hU,J,U⟩:=aG;exact⟨hU,J,h.trans U⟩
 |ret=>obtain⟨hU,U⟩:=aG;exact⟨hU,h.trans U⟩
 |a1 v=>obtain⟨v',hU,J,U⟩:=aG;exact⟨v',hU,J,h.trans U⟩
def fN.head{w':co}{r:cm}(h:Steps X.P s bq)(ab:e3 ι aS w w')(hp:aI.a1=fr.a1)(aE:aI.b0=fr.b0)(aG:fN X b aJ bb bq k aI aS w' r):fN X b aJ bb s k fr ι w r:=by
 cases r with
 |no=>trivial
 |out e awi axb=>
  obtain⟨dA,a',ke,J,U,ag,az,a4,cl⟩:=aG;exact⟨dA,a',ke,J,U,ab.trans ag,az.trans hp,a4.trans aE,cl.head h⟩
def ahX(x:bz)(xs:ac bz)(fr:aP)(st:ay):gG call (x::xs) fr st=
 gB fr x.g (aV.rec (motive:=fun _=>cm) (fun v fr st=>gG call xs (fr.put x.d v) st) (fun v st=>cond x.o.k7 (.out (.a1 v) fr st) .no) .no (bK call x.o fr st))
  (gG call xs (fr.put x.d undef) st) .no:=rfl
def tn(fr:aP)(d:am Tmp)(v:be):(fr.put d v).a1=fr.a1∧(fr.put d v).b0=fr.b0∧(fr.put d v).cB=fr.cB∧(fr.put d v).cS=fr.cS:=by
 obtain⟨J,U,ag,az⟩:=tm fr d v;exact⟨U,az,ag,J⟩
theorem I7(dR:mj X call):∀(xs:ac bz) (l:ac Nat) (ι:bs) (fr:aP) (a:Act) (st:ay) (w:co),xs.length=l.length->
 (∀(j:Nat) (x:bz) (i:Nat),xs[j]? =some x->l[j]? =some i->∃o,ops[i]? =some o∧mU X aJ ops x o=true)->
 cy ι fr a aJ->bo X ι st w->oc ι fr.b0 b.b0->jX b fr.a1 ι bb->
 fN X b aJ bb (lone (b.at a (.inRegion ops l::k)) (bb fr.cB) w) k fr ι w (gG call xs fr st)
 |[],[],ι,fr,a,st,w,_,_,ae,hw,_,_=>⟨ι,a,w,ae,hw,.refl _ _,rfl,rfl,.one acs⟩
 |[],_::_,_,_,_,_,_,h,_,_,_,_,_=>by simp at h
 |_::_,[],_,_,_,_,_,h,_,_,_,_,_=>by simp at h
 |x::xs,i::l,ι,fr,a,st,w,hl,ea,ae,hw,hb,aE=>by
  obtain⟨o,al,bN⟩:=ea 0 x i rfl rfl;have Hr:∀(j:Nat) (x:bz) (i:Nat),xs[j]? =some x->l[j]? =some i->∃o,ops[i]? =some o∧mU X aJ ops x o=true:=fun j x i J U=>ea (j+1) x i J U;have cx:xs.length=l.length:=by simpa using hl
  obtain⟨l1,l2⟩:=I6 bN;rw[ahX];generalize aR:gB fr x.g _ _ _=r;by_cases gI:r= .no
  ·rw[gI];trivial
  rcases ado bN ae aR (fun e=>gI e.symm)with⟨e,gx⟩|⟨e,gx⟩
  ·cases hM:bK call x.o fr st with
   |ok v dC cu=>
    rw[hM]at e;have bL:gG call xs (dC.put x.d v) cu=r:=e;obtain⟨aS,a',w',ah,ef,er,ab,hp,qQ,_⟩:=ZX (k:=k) (rest:=l) bN dR al gx ae hw hb aE hM;obtain⟨cv,cF,dU,iE⟩:=tn dC x.d v;have pf:=I7 dR xs l aS (dC.put x.d v) a' cu w' cx Hr ef er (by rw[cF,qQ];exact hb.mono ab.le) (by rw[cv,hp];exact aE.mono ab.le);rw[<-bL];rw[dU]at pf;exact fN.head ah ab (cv.trans hp) (cF.trans qQ) pf
   |a1 v cu=>
    rw[hM]at e;have bL:cond x.o.k7 (.out (.a1 v) fr cu) .no=r:=e;obtain⟨gH,e2⟩:=iJ bL (fun e=>gI e.symm);obtain⟨aS,v',w',ah,aD,er,ab⟩:=ZY (b:=b) (k:=k) (rest:=l) (cs:=bb fr.cB) bN dR al gx ae hw gH hM;rw[<-e2];exact⟨aS,a,w',ae.mono ab.le,er,ab,rfl,rfl,v',_,aD,ah⟩
   |no=>rw[hM]at e;exact absurd (e:cm.no=r).symm gI
  ·obtain⟨cv,cF,dU,iE⟩:=tn fr x.d undef;have pf:=I7 dR xs l ι (fr.put x.d undef) (a.put o.dst undef) st w cx Hr (by rw[<-l1];exact ae.put l2 (bp.undef ι)) hw (by rw[cF];exact hb) (by rw[cv];exact aE);rw[<-e];rw[dU]at pf;exact fN.head (.one (Ki al gx)) (.refl _ _) cv cF pf
end
end Go.ar
namespace Go.ar
variable{X:Ctx}{call:bG}
def lv(fr:aP)(g:am (Tmp×Bool))(b:Bool):Prop:=gB fr g (some true) (some false) none=some b
variable{β:Type}
def FH{α:Type}{fr:aP}{g:am (Tmp×Bool)}{yes h4 z r:α}(h:gB fr g yes h4 z=r)(an:z≠r):(lv fr g true∧yes=r)∨(lv fr g false∧h4=r):=by
 unfold lv;cases g with
 |none=>exact .inl ⟨rfl,h⟩
 |some p=>
  have aG:mh (fr.tmp p.1) (fun b=>cond b (cond p.2 yes h4) (cond p.2 h4 yes)) (rk (fr.tmp p.1) (fun _=>h4) z)=r:=h;show(mh (fr.tmp p.1) (fun b=>cond b (cond p.2 (some true) (some false)) (cond p.2 (some false) (some true))) (rk (fr.tmp p.1) (fun _=>some false) none)=some true∧_)∨
   (mh (fr.tmp p.1) (fun b=>cond b (cond p.2 (some true) (some false)) (cond p.2 (some false) (some true))) (rk (fr.tmp p.1) (fun _=>some false) none)=some false∧_)
  generalize fr.tmp p.1=Qd at aG;cases Qd with
  |bool qs=>
   have U:cond qs (cond p.2 yes h4) (cond p.2 h4 yes)=r:=aG;show(cond qs (cond p.2 (some true) (some false)) (cond p.2 (some false) (some true))=some true∧_)∨(cond qs (cond p.2 (some true) (some false)) (cond p.2 (some false) (some true))=some false∧_);cases qs<;>cases hp:p.2<;>rw[hp]at U
   ·exact .inl ⟨rfl,U⟩
   ·exact .inr ⟨rfl,U⟩
   ·exact .inr ⟨rfl,U⟩
   ·exact .inl ⟨rfl,U⟩
  |tuple xs=>exact .inr ⟨rfl,aG⟩
  |_=>exact absurd aG an
def EW(t:ao be)(ts:ac Tmp):ao be:=kp t ts fun m=>m
def aP.only(fr:aP)(ts:ac Tmp):aP:=⟨EW fr.t ts,[],none,false,none⟩
def pr(t:ao be)(ts:ac Tmp)(k:ao be->β)(m:ao be):β:=
 List.rec (motive:=fun _=>ao be->β) (fun m=>k m) (fun x _ a7 m=>bk (t.get x) (fun v=>ao.iV (Nat.succ x) m x v a7) (a7 m)) ts m
theorem OJ{β:Type}(t:ao be)(k:ao be->β):∀(ts:ac Tmp) (m:ao be),pr t ts k m=k (pr t ts (fun m=>m) m)
 |[],_=>rfl
 |x::ts,m=>by
  show bk (t.get x) (fun v=>ao.iV (Nat.succ x) m x v (pr t ts k)) (pr t ts k m)=k (bk (t.get x) (fun v=>ao.iV (Nat.succ x) m x v (pr t ts fun m=>m)) (pr t ts (fun m=>m) m));cases t.get x with
  |none=>exact OJ t k ts m
  |some v=>
   show ao.iV (Nat.succ x) m x v (pr t ts k)=k (ao.iV (Nat.succ x) m x v (pr t ts fun m=>m));rw[ao.zp,ao.zp];exact OJ t k ts _
def pq(t:ao be)(ts:ac Tmp)(k:ao be->β):kp t ts k=k (EW t ts):=OJ t k ts .nil
theorem OK(t:ao be):∀(ts:ac Tmp) (m:ao be) (j:Nat),(pr t ts (fun m=>m) m).get j=if j∈ts∧(t.get j).isSome then t.get j else m.get j
 |[],m,j=>by rw[zaa (by simp)];rfl
 |x::ts,m,j=>by
  show(bk (t.get x) (fun v=>ao.iV (Nat.succ x) m x v (pr t ts fun m=>m)) (pr t ts (fun m=>m) m)).get j=_;cases aa:t.get x with
  |none=>
   show(pr t ts (fun m=>m) m).get j=_;rw[OK t ts m j];by_cases hj:j=x
   ·subst hj;simp[aa]
   ·simp[zak,hj]
  |some v=>
   show(ao.iV (Nat.succ x) m x v (pr t ts fun m=>m)).get j=_;rw[ao.zp,OK t ts _ j,ao.eJ];by_cases hj:j=x
   ·subst hj;simp[aa]
   ·simp[zak,hj]
def Zw(fr:aP)(ts:ac Tmp)(j:Nat):(fr.only ts).tmp j=if j∈ts then fr.tmp j else iD:=by
 have h:=OK fr.t ts .nil j;have e:(fr.only ts).t.get j=(pr fr.t ts (fun m=>m) .nil).get j:=rfl;show Option.rec (motive:=fun _=>be) (.chan (some 0)) (fun v=>v) ((fr.only ts).t.get j)=_;rw[e,h];by_cases hj:j∈ts
 ·rw[zab hj];cases aR:fr.t.get j with
  |none=>rw[zaa (by simp),ao.get_nil];simp[aP.tmp,aR]
  |some v=>rw[zab ⟨hj,rfl⟩];simp[aP.tmp,aR]
 ·rw[zaa (fun h=>hj h.1),zaa hj,ao.get_nil];rfl
theorem aad:∀(ts:ac Tmp) (fr:aP),(∀j,(qg fr ts).tmp j=if j∈ts then iD else fr.tmp j)∧(qg fr ts).a1=fr.a1∧(qg fr ts).b0=fr.b0∧(qg fr ts).cB=fr.cB∧(qg fr ts).cS=fr.cS
 |[],fr=>⟨fun j=>by simp[qg],rfl,rfl,rfl,rfl⟩
 |t::ts,fr=>by
  obtain⟨J,U,ag,az,a4⟩:=aad ts (fr.put (some t) iD);obtain⟨cv,cF,dU,iE⟩:=tn fr (some t) iD;refine⟨fun j=> ?_,U.trans cv,ag.trans cF,az.trans dU,a4.trans iE⟩;show(qg (fr.put (some t) iD) ts).tmp j=_;rw[J j,sr];by_cases hj:j∈ts
  ·rw[zab hj,zab (zaI _ hj)]
  ·rw[zaa hj];by_cases e:t=j
   ·subst e;simp
   ·have:j≠t:=fun h=>e h.symm;simp[e,hj,this]
theorem abF{o:dd}{fr:aP}{v:be}{ai:Nat}:∀(n:Nat) (ah:ac (ao bt)),sameAt call o fr v ai n ah=true->∀j,j<n->∃h aI st',ah[j]? =some h∧bK call o fr ⟨h,ai⟩= .ok v aI st'
 |0,_,_,j,hj=>by omega
 |n+1,[],h,_,_=>by cases h
 |n+1,h::ah,hh,j,hj=>by
  have AQ:aV.rec (motive:=fun _=>Bool) (fun v' _ _=>cond (dJ v v') (sameAt call o fr v ai n ah) false) (fun _ _=>false) false (bK call o fr ⟨h,ai⟩)=true:=hh;cases he:bK call o fr ⟨h,ai⟩with
  |ok v' aI st'=>
   rw[he]at AQ;have U:cond (dJ v v') (sameAt call o fr v ai n ah) false=true:=AQ;obtain⟨ag,az⟩:=iJ U (by simp);have:=nB _ _ ag;subst this;cases j with
   |zero=>exact⟨h,aI,st',rfl,he⟩
   |succ j=>
    obtain⟨aG,na,bq,a4,cl⟩:=abF n ah az j (by omega);exact⟨aG,na,bq,by simpa using a4,cl⟩
  |a1 _ _=>rw[he]at AQ;cases AQ
  |no=>rw[he]at AQ;cases AQ
def DStep(call:bG)(x:bz)(c:cw)(fr:aP)(st:ay)(N:ac (ao bt))(v:be)(dC:aP)(cu:ay)(m2:ac (ao bt)):Prop:=
 match c with
 |.dX=>((lv fr x.g false∨(lv fr x.g true∧∃u bq,bK call x.o fr st= .a1 u bq))∧v=undef∧dC=fr.put x.d undef∧cu=st∧m2=st.h::N)∨
  (lv fr x.g true∧∃aI,bK call x.o fr st= .ok v aI cu∧st.ai<=cu.ai∧dC=aP.put ⟨fr.t,aI.cS,aI.a1,aI.cB,aI.b0⟩ x.d v∧m2=cu.h::N)
 |.hX ts=>dC=fr.put x.d v∧m2=N∧((lv (fr.only ts) x.g false∧v=undef∧cu=st)∨(lv (fr.only ts) x.g true∧∃aI,bK call x.o (fr.only ts) st= .ok v aI cu))
 |.read back ts=>dC=fr.put x.d v∧m2=N∧cu=st∧((lv (fr.only ts) x.g false∧v=undef)∨(lv (fr.only ts) x.g true∧sameAt call x.o (fr.only ts) v st.ai (Nat.succ back) N=true))
def zM(call:bG)(x:bz)(c:cw)(fr:aP)(st:ay):Prop:=c= .dX->lv fr x.g true->∀u bq,bK call x.o fr st≠.a1 u bq
variable{fr:aP}
def avK{g:am (Tmp×Bool)}(h:lv fr g false)(aG:lv fr g true):False:=by
 unfold lv at h aG;rw[h]at aG;cases aG
def ahT{x:bz}{c:cw}{L:ac (bz×cw)}{N:ac (ao bt)}{st:ay}{e:dv}{aI:aP}{st':ay}{c0:sy}(h:gF call c0 ((x,c)::L) N fr st= .out e aI st'):
 (∃v dC cu m2,DStep call x c fr st N v dC cu m2∧zM call x c fr st∧gF call c0 L m2 dC cu= .out e aI st')∨
 (c= .dX∧lv fr x.g true∧x.o.k7=true∧aI=fr∧c0 L (st.h::N) (fr.put x.d undef) st=true∧∃u,e= .a1 u∧bK call x.o fr st= .a1 u st'):=by
 cases c with
 |dX=>
  have aG:gB fr x.g (aV.rec (motive:=fun _=>cm) (fun v aI st'=>ek st.ai st'.ai (gF call c0 L (st'.h::N) (aP.put ⟨fr.t,aI.cS,aI.a1,aI.cB,aI.b0⟩ x.d v) st') .no) (fun v st'=>cond x.o.k7 (cond (c0 L (st.h::N) (fr.put x.d undef) st) (.out (.a1 v) fr st') .no) .no) .no (bK call x.o fr st))
   (gF call c0 L (st.h::N) (fr.put x.d undef) st) .no= .out e aI st':=h
  rcases FH aG (by simp)with⟨J,U⟩|⟨J,U⟩
  ·cases he:bK call x.o fr st with
   |ok v lb ch=>
    rw[he]at U;obtain⟨ag,az⟩:=jz (U:ek st.ai ch.ai _ _=_) (by simp);exact .inl ⟨v,aP.put ⟨fr.t,lb.cS,lb.a1,lb.cB,lb.b0⟩ x.d v,ch,ch.h::N,.inr ⟨J,lb,he,ag,rfl,rfl⟩,(fun _ _ u bq hu=>by rw[he]at hu;cases hu),az⟩
   |a1 u bq=>
    rw[he]at U;obtain⟨ag,az⟩:=iJ (U:cond _ _ _=_) (by simp);obtain⟨a4,cl⟩:=iJ (az:cond _ _ _=_) (by simp);have cl:cm.out (.a1 u) fr bq= .out e aI st':=cl;cases cl;exact .inr ⟨rfl,J,ag,rfl,a4,u,rfl,rfl⟩
   |no=>rw[he]at U;cases U
  ·exact .inl ⟨undef,fr.put x.d undef,st,st.h::N,.inl ⟨.inl J,rfl,rfl,rfl,rfl⟩,(fun _ aW=>(avK J aW).elim),U⟩
 |hX ts=>
  have aG:kp fr.t ts (fun t=>gB ⟨t,[],none,false,none⟩ x.g
   (aV.rec (motive:=fun _=>cm) (fun v _ st'=>gF call c0 L N (fr.put x.d v) st') (fun _ _=>.no) .no (bK call x.o ⟨t,[],none,false,none⟩ st))
   (gF call c0 L N (fr.put x.d undef) st) .no)= .out e aI st':=h
  rw[pq]at aG;have uj:gB (fr.only ts) x.g (aV.rec (motive:=fun _=>cm) (fun v _ st'=>gF call c0 L N (fr.put x.d v) st') (fun _ _=>.no) .no (bK call x.o (fr.only ts) st))
   (gF call c0 L N (fr.put x.d undef) st) .no= .out e aI st':=aG
  rcases FH uj (by simp)with⟨J,U⟩|⟨J,U⟩
  ·cases he:bK call x.o (fr.only ts) st with
   |ok v lb ch=>
    rw[he]at U;exact .inl ⟨v,fr.put x.d v,ch,N,⟨rfl,rfl,.inr ⟨J,lb,he⟩⟩,(fun h=>by cases h),U⟩
   |a1 _ _=>rw[he]at U;cases U
   |no=>rw[he]at U;cases U
  ·exact .inl ⟨undef,fr.put x.d undef,st,N,⟨rfl,rfl,.inl ⟨J,rfl,rfl⟩⟩,(fun h=>by cases h),U⟩
 |read back ts=>
  have aG:kp fr.t ts (fun t=>gB ⟨t,[],none,false,none⟩ x.g
   (aV.rec (motive:=fun _=>cm) (fun v _ _=>cond (sameAt call x.o ⟨t,[],none,false,none⟩ v st.ai (Nat.succ back) N) (gF call c0 L N (fr.put x.d v) st) .no) (fun _ _=>.no) .no (bK call x.o ⟨t,[],none,false,none⟩ st))
   (gF call c0 L N (fr.put x.d undef) st) .no)= .out e aI st':=h
  rw[pq]at aG;have uj:gB (fr.only ts) x.g (aV.rec (motive:=fun _=>cm) (fun v _ _=>cond (sameAt call x.o (fr.only ts) v st.ai (Nat.succ back) N) (gF call c0 L N (fr.put x.d v) st) .no) (fun _ _=>.no) .no (bK call x.o (fr.only ts) st))
   (gF call c0 L N (fr.put x.d undef) st) .no= .out e aI st':=aG
  rcases FH uj (by simp)with⟨J,U⟩|⟨J,U⟩
  ·cases he:bK call x.o (fr.only ts) st with
   |ok v lb ch=>
    rw[he]at U;obtain⟨ag,az⟩:=iJ (U:cond _ _ _=_) (by simp);exact .inl ⟨v,fr.put x.d v,st,N,⟨rfl,rfl,rfl,.inr ⟨J,ag⟩⟩,(fun h=>by cases h),az⟩
   |a1 _ _=>rw[he]at U;cases U
   |no=>rw[he]at U;cases U
  ·exact .inl ⟨undef,fr.put x.d undef,st,N,⟨rfl,rfl,rfl,.inl ⟨J,rfl⟩⟩,(fun h=>by cases h),U⟩
def FO(x:bz)(c:cw)(fr:aP)(st:ay)(N:ac (ao bt))(v:be)(dC:aP)(cu:ay)(m2:ac (ao bt)):Prop:=v=undef∧dC=fr.put x.d undef∧cu=st∧m2=(match c with|.dX=>st.h::N|_=>N)
structure kv(call:bG)(Z:Nat->Bool)(L:ac (bz×cw))(fw:ac (ao bt))(fr:aP)(st:ay)(aI:aP)(st':ay)(F:Nat->aP)(T:Nat->ay)(N:Nat->ac (ao bt))(V:Nat->be):Prop where
 f0:F 0=fr
 t0:T 0=st
 ta:N 0=fw
 fn:F L.length=aI
 axf:T L.length=st'
 step:∀p x c,L[p]? =some (x,c)->(Z p=false∧DStep call x c (F p) (T p) (N p) (V p) (F (p+1)) (T (p+1)) (N (p+1)))∨(Z p=true∧FO x c (F p) (T p) (N p) (V p) (F (p+1)) (T (p+1)) (N (p+1)))
def KM(call:bG)(Z:Nat->Bool)(L:ac (bz×cw))(F:Nat->aP)(T:Nat->ay)(n:Nat):Prop:=∀p x c,p≠n->Z p=false->L[p]? =some (x,c)->zM call x c (F p) (T p)
def adI(call:bG)(ms:ac Nat)(Z:Nat->Bool)(L:ac (bz×cw))(F:Nat->aP)(T:Nat->ay)(e:dv)(aI:aP)(st':ay):Prop:=
 (e= .norm∧(∀p,Z p=false)∧KM call Z L F T L.length∧F L.length=aI∧T L.length=st')∨
 (∃n x u,L[n]? =some (x,.dX)∧(∀p,Z p=true->n<p∧(ms.getD p 0).testBit n=true)∧KM call Z L F T n∧lv (F n) x.g true∧x.o.k7=true∧aI=F n∧e= .a1 u∧bK call x.o (F n) (T n)= .a1 u st')
theorem S7{c0:sy}{e:dv}{aI:aP}{st':ay}:∀(L:ac (bz×cw)) (fw:ac (ao bt)) (fr:aP) (st:ay),gF call c0 L fw fr st= .out e aI st'->∃(F:Nat->aP) (T:Nat->ay) (N:Nat->ac (ao bt)) (V:Nat->be),(F 0=fr∧T 0=st∧N 0=fw)∧
 ((e= .norm∧F L.length=aI∧T L.length=st'∧∀p x c,L[p]? =some (x,c)->DStep call x c (F p) (T p) (N p) (V p) (F (p+1)) (T (p+1)) (N (p+1))∧zM call x c (F p) (T p))∨
  (∃n x u,L[n]? =some (x,.dX)∧(∀p x c,p<n->L[p]? =some (x,c)->DStep call x c (F p) (T p) (N p) (V p) (F (p+1)) (T (p+1)) (N (p+1))∧zM call x c (F p) (T p))∧lv (F n) x.g true∧x.o.k7=true∧aI=F n∧e= .a1 u∧bK call x.o (F n) (T n)= .a1 u st'∧
   c0 (L.drop (n+1)) ((T n).h::N n) ((F n).put x.d undef) (T n)=true))
 |[],fw,fr,st,h=>by
  have aG:cm.out .norm fr st= .out e aI st':=h;cases aG;exact⟨fun _=>aI,fun _=>st',fun _=>fw,fun _=>undef,⟨rfl,rfl,rfl⟩,.inl ⟨rfl,rfl,rfl,fun p x c hp=>by simp at hp⟩⟩
 |(x,c)::L,fw,fr,st,h=>by
  rcases ahT h with⟨v,dC,cu,m2,aA,nT,J⟩|⟨rfl,hw,gH,rfl,hG,u,rfl,hM⟩
  ·obtain⟨F,T,N,V,⟨f0,t0,ta⟩,ym⟩:=S7 L m2 dC cu J;refine⟨fun p=>Nat.casesOn p fr F,fun p=>Nat.casesOn p st T,fun p=>Nat.casesOn p fw N,fun p=>Nat.casesOn p v V,⟨rfl,rfl,rfl⟩,?_⟩;have h0:∀eM bE,((x,c)::L)[0]? =some (eM,bE)->DStep call eM bE fr st fw v (F 0) (T 0) (N 0)∧zM call eM bE fr st:=fun eM bE hp=>by
    have:(x,c)=(eM,bE):=by simpa using hp
    cases this;rw[f0,t0,ta];exact⟨aA,nT⟩
   rcases ym with⟨he,aC,e2,ah⟩|⟨n,y,w,g1,ah,aM,bc,cf,cL,ej,gu⟩
   ·refine .inl ⟨he,aC,e2,fun p eM bE hp=> ?_⟩;cases p with
    |zero=>exact h0 eM bE hp
    |succ p=>exact ah p eM bE (by simpa using hp)
   ·refine .inr ⟨n+1,y,w,by simpa using g1,fun p eM bE nU hp=> ?_,aM,bc,cf,cL,ej,by simpa using gu⟩;cases p with
    |zero=>exact h0 eM bE hp
    |succ p=>exact ah p eM bE (by omega) (by simpa using hp)
  ·exact⟨fun _=>aI,fun _=>st,fun _=>fw,fun _=>undef,⟨rfl,rfl,rfl⟩,.inr ⟨0,x,u,rfl,fun p _ _ hp=>by omega,hw,gH,rfl,rfl,hM,hG⟩⟩
def Sc{a b c:Bool}(h:cond a b c=true):(a=true∧b=true)∨(a=false∧c=true):=by
 cases a
 ·exact .inr ⟨rfl,h⟩
 ·exact .inl ⟨rfl,h⟩
theorem R3{ms:ac Nat}{n:Nat}:∀(M:ac (bz×cw)) (p:Nat) (fw:ac (ao bt)) (fr:aP) (st:ay),kh call ms n M p fw fr st=true->∃(F:Nat->aP) (T:Nat->ay) (N:Nat->ac (ao bt)) (V:Nat->be),(F 0=fr∧T 0=st∧N 0=fw)∧
 ∀q x c,M[q]? =some (x,c)->((ms.getD (p+q) 0).testBit n=false∧DStep call x c (F q) (T q) (N q) (V q) (F (q+1)) (T (q+1)) (N (q+1))∧c≠.dX)∨((ms.getD (p+q) 0).testBit n=true∧FO x c (F q) (T q) (N q) (V q) (F (q+1)) (T (q+1)) (N (q+1)))
 |[],p,fw,fr,st,_=>⟨fun _=>fr,fun _=>st,fun _=>fw,fun _=>undef,⟨rfl,rfl,rfl⟩,fun q x c hq=>by simp at hq⟩
 |(x,c)::M,p,fw,fr,st,h=>by
  have key:∃v dC cu m2,kh call ms n M (p+1) m2 dC cu=true∧(((ms.getD p 0).testBit n=false∧DStep call x c fr st fw v dC cu m2∧c≠.dX)∨((ms.getD p 0).testBit n=true∧FO x c fr st fw v dC cu m2)):=by
   rcases Sc (h:cond _ _ _=true)with⟨hb,J⟩|⟨hb,J⟩
   ·cases c with
    |dX=>exact⟨undef,_,_,_,J,.inr ⟨hb,rfl,rfl,rfl,rfl⟩⟩
    |hX ts=>exact⟨undef,_,_,_,J,.inr ⟨hb,rfl,rfl,rfl,rfl⟩⟩
    |read back ts=>exact⟨undef,_,_,_,J,.inr ⟨hb,rfl,rfl,rfl,rfl⟩⟩
   ·cases c with
    |dX=>cases J
    |hX ts=>
     have U:kp fr.t ts (fun t=>gB ⟨t,[],none,false,none⟩ x.g
      (aV.rec (motive:=fun _=>Bool) (fun v _ st'=>kh call ms n M (p+1) fw (fr.put x.d v) st') (fun _ _=>false) false (bK call x.o ⟨t,[],none,false,none⟩ st))
      (kh call ms n M (p+1) fw (fr.put x.d undef) st) false)=true:=J
     rw[pq]at U;rcases FH U (by simp)with⟨g1,aM⟩|⟨g1,aM⟩
     ·cases he:bK call x.o (fr.only ts) st with
      |ok v lb ch=>
       have aM:aV.rec (motive:=fun _=>Bool) (fun v _ st'=>kh call ms n M (p+1) fw (fr.put x.d v) st') (fun _ _=>false) false (bK call x.o (fr.only ts) st)=true:=aM;rw[he]at aM;exact⟨v,_,ch,fw,aM,.inl ⟨hb,⟨rfl,rfl,.inr ⟨g1,lb,he⟩⟩,by simp⟩⟩
      |a1 _ _=>
       have aM:aV.rec (motive:=fun _=>Bool) (fun v _ st'=>kh call ms n M (p+1) fw (fr.put x.d v) st') (fun _ _=>false) false (bK call x.o (fr.only ts) st)=true:=aM;rw[he]at aM;cases aM
      |no=>
       have aM:aV.rec (motive:=fun _=>Bool) (fun v _ st'=>kh call ms n M (p+1) fw (fr.put x.d v) st') (fun _ _=>false) false (bK call x.o (fr.only ts) st)=true:=aM;rw[he]at aM;cases aM
     ·exact⟨undef,_,st,fw,aM,.inl ⟨hb,⟨rfl,rfl,.inl ⟨g1,rfl,rfl⟩⟩,by simp⟩⟩
    |read back ts=>
     have U:kp fr.t ts (fun t=>gB ⟨t,[],none,false,none⟩ x.g
      (aV.rec (motive:=fun _=>Bool) (fun v _ _=>cond (sameAt call x.o ⟨t,[],none,false,none⟩ v st.ai (Nat.succ back) fw) (kh call ms n M (p+1) fw (fr.put x.d v) st) false) (fun _ _=>false) false (bK call x.o ⟨t,[],none,false,none⟩ st))
      (kh call ms n M (p+1) fw (fr.put x.d undef) st) false)=true:=J
     rw[pq]at U;rcases FH U (by simp)with⟨g1,aM⟩|⟨g1,aM⟩
     ·have aM:aV.rec (motive:=fun _=>Bool) (fun v _ _=>cond (sameAt call x.o (fr.only ts) v st.ai (Nat.succ back) fw) (kh call ms n M (p+1) fw (fr.put x.d v) st) false) (fun _ _=>false) false (bK call x.o (fr.only ts) st)=true:=aM;cases he:bK call x.o (fr.only ts) st with
      |ok v lb ch=>
       rw[he]at aM;rcases Sc (aM:cond _ _ _=true)with⟨bc,cf⟩|⟨_,cf⟩
       ·exact⟨v,_,st,fw,cf,.inl ⟨hb,⟨rfl,rfl,rfl,.inr ⟨g1,bc⟩⟩,by simp⟩⟩
       ·cases cf
      |a1 _ _=>rw[he]at aM;cases aM
      |no=>rw[he]at aM;cases aM
     ·exact⟨undef,_,st,fw,aM,.inl ⟨hb,⟨rfl,rfl,rfl,.inl ⟨g1,rfl⟩⟩,by simp⟩⟩
  obtain⟨v,dC,cu,m2,J,ah⟩:=key;obtain⟨F,T,N,V,⟨f0,t0,ta⟩,eH⟩:=R3 M (p+1) m2 dC cu J;refine⟨fun p=>Nat.casesOn p fr F,fun p=>Nat.casesOn p st T,fun p=>Nat.casesOn p fw N,fun p=>Nat.casesOn p v V,⟨rfl,rfl,rfl⟩,fun q eM bE hq=> ?_⟩;cases q with
  |zero=>
   have:(x,c)=(eM,bE):=by simpa using hq
   cases this;show(_∧DStep call x c fr st fw v (F 0) (T 0) (N 0)∧_)∨(_∧FO x c fr st fw v (F 0) (T 0) (N 0));rw[f0,t0,ta];exact ah
  |succ q=>
   have:=eH q eM bE (by simpa using hq);rw[show p+(q+1)=p+1+q by omega];exact this
def ahU{ms:ac Nat}(L:ac (bz×cw))(fw:ac (ao bt))(fr:aP)(st:ay)(e:dv)(aI:aP)(st':ay)(h:gF call (rE call ms (db L)) L fw fr st= .out e aI st'):∃Z F T N V,kv call Z L fw fr st (F L.length) (T L.length) F T N V∧adI call ms Z L F T e aI st':=by
 obtain⟨F,T,N,V,⟨f0,t0,ta⟩,ym⟩:=S7 L fw fr st h;rcases ym with⟨he,aC,e2,ah⟩|⟨n,x,u,g1,ah,aM,bc,cf,cL,ej,gu⟩
 ·exact⟨fun _=>false,F,T,N,V,⟨f0,t0,ta,rfl,rfl,fun p x c hp=>.inl ⟨rfl,(ah p x c hp).1⟩⟩,.inl ⟨he,fun _=>rfl,fun p x c _ _ hp=>(ah p x c hp).2,aC,e2⟩⟩
 ·have hn:=(zaf.1 g1).1;have gu:kh call ms (L.length-(L.drop (n+1)).length.succ) (L.drop (n+1)) (L.length-(L.drop (n+1)).length) ((T n).h::N n) ((F n).put x.d undef) (T n)=true:=by
   have:=gu;unfold rE at this;rw[fg,fg]at this;exact this
  rw[zaA,show L.length-(L.length-(n+1)).succ=n by omega,show L.length-(L.length-(n+1))=n+1 by omega]at gu;obtain⟨jG,KQ,KK,KU,⟨f2,t2,fi⟩,jN⟩:=R3 _ _ _ _ _ gu
  let Z:Nat->Bool:=fun p=>decide (n<p)&&(ms.getD p 0).testBit n
  let KE:Nat->aP:=fun p=>if p<=n then F p else jG (p-(n+1))
  let KS:Nat->ay:=fun p=>if p<=n then T p else KQ (p-(n+1))
  let KL:Nat->ac (ao bt):=fun p=>if p<=n then N p else KK (p-(n+1))
  let FX:Nat->be:=fun p=>if p<n then V p else if p=n then undef else KU (p-(n+1))
  have aQ:∀p,p<=n->KE p=F p∧KS p=T p∧KL p=N p:=fun p hp=>⟨zab hp,zab hp,zab hp⟩;have af:∀r,KE (n+1+r)=jG r∧KS (n+1+r)=KQ r∧KL (n+1+r)=KK r:=fun r=>by
   have e:n+1+r-(n+1)=r:=by omega
   refine⟨?_,?_,?_⟩
   ·show(if n+1+r<=n then _ else jG (n+1+r-(n+1)))=_;rw[zaa (by omega),e]
   ·show(if n+1+r<=n then _ else KQ (n+1+r-(n+1)))=_;rw[zaa (by omega),e]
   ·show(if n+1+r<=n then _ else KK (n+1+r-(n+1)))=_;rw[zaa (by omega),e]
  have adF:∀p,p<=n->Z p=false:=fun p hp=>by
   show(decide (n<p)&&_)=false;rw[zad (by omega)];rfl
  have adE:∀r,Z (n+1+r)=(ms.getD (n+1+r) 0).testBit n:=fun r=>by
   show(decide (n<n+1+r)&&_)=_;rw[zac (by omega)];rfl
  refine⟨Z,KE,KS,KL,FX,⟨(aQ 0 (zae _)).1.trans f0,(aQ 0 (zae _)).2.1.trans t0,(aQ 0 (zae _)).2.2.trans ta,rfl,rfl,fun p y c hp=> ?_⟩,.inr ⟨n,x,u,g1,fun p hp=> ?_,fun p y c nU an hp=> ?_,?_,bc,?_,cL,?_⟩⟩
  ·rcases zcp p n with aN|rfl|amN
   ·obtain⟨fa,fR,m6⟩:=aQ p (by omega);obtain⟨c3,dP,jY⟩:=aQ (p+1) (by omega);have aD:FX p=V p:=zab aN;rw[fa,fR,m6,c3,dP,jY,aD];exact .inl ⟨adF p (by omega),(ah p y c aN hp).1⟩
   ·obtain⟨fa,fR,m6⟩:=aQ p (b8 _);obtain⟨c3,dP,jY⟩:=af 0;have aD:FX p=undef:=by
     show(if p<p then _ else if p=p then _ else _)=_;rw[zaa (Nat.lt_irrefl p),zab rfl]
    rw[g1]at hp;cases hp;rw[show p+1+0=p+1 from rfl]at c3 dP jY;rw[fa,fR,m6,c3,dP,jY,aD,f2,t2,fi];exact .inl ⟨adF p (b8 _),.inl ⟨.inr ⟨aM,u,_,ej⟩,rfl,rfl,rfl,rfl⟩⟩
   ·obtain⟨r,rfl⟩:∃r,p=n+1+r:=⟨p-(n+1),by omega⟩;obtain⟨fa,fR,m6⟩:=af r;obtain⟨c3,dP,jY⟩:=af (r+1);have aD:FX (n+1+r)=KU r:=by
     show(if n+1+r<n then _ else if n+1+r=n then _ else KU (n+1+r-(n+1)))=_;rw[zaa (by omega),zaa (by omega),show n+1+r-(n+1)=r by omega]
    rw[show n+1+(r+1)=n+1+r+1 from rfl]at c3 dP jY;rw[fa,fR,m6,c3,dP,jY,aD,adE r];rcases jN r y c (by rw[zaB];exact hp)with⟨tH,zJ,_⟩|⟨tH,zJ⟩
    ·exact .inl ⟨tH,zJ⟩
    ·exact .inr ⟨tH,zJ⟩
  ·have hp:(decide (n<p)&&(ms.getD p 0).testBit n)=true:=hp;rw[zch,decide_eq_true_eq]at hp;exact hp
  ·rcases zcp p n with aN|rfl|amN
   ·obtain⟨fa,fR,_⟩:=aQ p (by omega);rw[fa,fR];exact(ah p y c aN hp).2
   ·exact absurd rfl nU
   ·obtain⟨r,rfl⟩:∃r,p=n+1+r:=⟨p-(n+1),by omega⟩;rw[adE r]at an;rcases jN r y c (by rw[zaB];exact hp)with⟨_,_,FJ⟩|⟨tH,_⟩
    ·exact fun hc=>absurd hc FJ
    ·rw[an]at tH;cases tH
  ·rw[(aQ n (b8 _)).1];exact aM
  ·rw[(aQ n (b8 _)).1];exact cf
  ·rw[(aQ n (b8 _)).1,(aQ n (b8 _)).2.1];exact ej
def aqY{α:Type}(l:ac α)(n:Nat)(vs:ac α):(∃out,∀(k:ac α->aV),q4 l n vs k .no=k out)∨(∀k:ac α->aV,q4 l n vs k .no= .no):=by
 by_cases h:n+vs.length<=l.length
 ·exact .inl ⟨_,fun k=>by rw[q5,zab h]⟩
 ·by_cases U:vs=[]
  ·exact .inl ⟨l,fun k=>by rw[q5,zaa h,zab U]⟩
  ·exact .inr fun k=>by rw[q5,zaa h,zaa U]
theorem Th(fr:aP):∀(ps:ac (Nat×Nat×bi)) (cs:ac be),(∃out,∀c,o5 fr ps cs c=c out)∨(∀c,o5 fr ps cs c= .no)
 |[],cs=>.inl ⟨cs,fun _=>rfl⟩
 |p::ps,cs=>by
  have hu:∀c,o5 fr (p::ps) cs c=cond (uM (fr.ak p.2.2)) .no (dQ (db (h8 (fr.ak p.2.2))) p.2.1 (ek (Nat.add p.1 p.2.1) (db cs) (q4 cs p.1 (h8 (fr.ak p.2.2)) (fun cs'=>o5 fr ps cs' c) .no) .no) .no):=fun _=>rfl;simp only[hu];cases uM (fr.ak p.2.2)with
  |true=>exact .inr fun _=>rfl
  |false=>
   simp only[cond_false,pW,oE];split
   ·split
    ·rcases aqY cs p.1 (h8 (fr.ak p.2.2))with⟨out,al⟩|hn
     ·rcases Th fr ps out with⟨oH,hx⟩|ju
      ·exact .inl ⟨oH,fun c=>by rw[al];exact hx c⟩
      ·exact .inr fun c=>by rw[al];exact ju c
     ·exact .inr fun c=>hn _
    ·exact .inr fun _=>rfl
   ·exact .inr fun _=>rfl
def QW{x:dd}{aI:aP}{h0:ao bt}{ai:Nat}{v:be}{st':ay}(aa:x.uL=true)(h:bK call x fr ⟨h0,ai⟩= .ok v aI st'):
 ∃o,o≠.dead∧aI=fr∧st'=⟨h0.set ai o,ai+1⟩∧∀aG,bK call x fr ⟨aG,ai⟩= .ok v fr ⟨aG.set ai o,ai+1⟩:=by
 cases x with
 |alloc z e=>
  have h:y6 z e call fr ⟨h0,ai⟩= .ok v aI st':=h;unfold y6 at h;rw[gV]at h;cases h;exact⟨_,by simp,rfl,rfl,fun aG=>by show y6 z e call fr ⟨aG,ai⟩=_;unfold y6;rw[gV]⟩
 |box e p=>
  have h:BF e p call fr ⟨h0,ai⟩= .ok v aI st':=h;unfold BF at h;obtain⟨J,U⟩:=Bu h (by simp);rw[gV]at U;cases U;exact⟨_,by simp,rfl,rfl,fun aG=>by show BF e p call fr ⟨aG,ai⟩=_;unfold BF;simp only[J,cond_false];rw[gV]⟩
 |pM e n z ps=>
  have h:BG e n z ps call fr ⟨h0,ai⟩= .ok v aI st':=h;unfold BG at h;rcases Th fr ps z with⟨out,al⟩|hn
  ·rw[al,gV]at h;cases h;exact⟨_,by simp,rfl,rfl,fun aG=>by show BG e n z ps call fr ⟨aG,ai⟩=_;unfold BG;rw[al,gV]⟩
  ·rw[hn]at h;cases h
 |v5 e p=>
  have h:BH e p call fr ⟨h0,ai⟩= .ok v aI st':=h;unfold BH at h;obtain⟨s,ah,J⟩:=pC h (by simp);obtain⟨hle,U⟩:=jz J (by simp);rw[gV]at U;cases U;exact⟨_,by simp,rfl,rfl,fun aG=>by
   show BH e p call fr ⟨aG,ai⟩=_;unfold BH;rw[ah];show ek (db s.data.toList) (2^40) _ _=_;rw[oE,zab hle,gV]⟩
 |sb e bT z l c=>
  have h:w8 e bT z l c call fr ⟨h0,ai⟩= .ok v aI st':=h;unfold w8 at h;obtain⟨ba,j6,hl,J⟩:=jT h (by simp);obtain⟨bx,sE,hc,U⟩:=jT J (by simp);obtain⟨cE,p5,ag⟩:=mP U (by simp);obtain⟨hY,AM,az⟩:=mP ag (by simp);obtain⟨hle,a4⟩:=jz az (by simp);obtain⟨M5,cl⟩:=jz a4 (by simp);rw[gV]at cl;cases cl;exact⟨_,by simp,rfl,rfl,fun aG=>by
   show w8 e bT z l c call fr ⟨aG,ai⟩=_;unfold w8;rw[hl,hc,p5,AM];show ek cE hY (ek (Nat.mul hY (Nat.succ bT)) (2^40) _ _) _=_;rw[oE,zab hle,oE,zab M5,gV]⟩
 |uY=>
  have h:y7 call fr ⟨h0,ai⟩= .ok v aI st':=h;unfold y7 at h;rw[gV]at h;cases h;exact⟨_,by simp,rfl,rfl,fun aG=>by show y7 call fr ⟨aG,ai⟩=_;unfold y7;rw[gV]⟩
 |_=>cases aa
end Go.ar
namespace Go.ar
def cw.yN:cw->Bool
 |.dX=>true
 |_=>false
def cw.looks:cw->ac Tmp
 |.dX=>[]
 |.hX ts=>ts
 |.read _ ts=>ts
def uf(L:ac (bz×cw))(q:Nat):Bool:=((L[q]?).map (·.2.yN)).getD false
structure mm(X:Ctx)(aJ:Nat)(ops:ap Oper)(L:ac (bz×cw))(cj:ac Nat)(ec:ac Tmp)(ms:ac Nat):Prop where
 uU:L.length=ops.size
 yS:cj.length=ops.size
 op:∀(p i:Nat) x c,cj[p]? =some i->L[p]? =some (x,c)->∃o,ops[i]? =some o∧mU X aJ ops x o=true
 hX:∀(p:Nat) x ts,L[p]? =some (x,.hX ts)->x.o.uL=true
 rd:∀(p:Nat) x n ts,L[p]? =some (x,.read n ts)->x.o.s3=true
 inj:∀(p q i:Nat),cj[p]? =some i->cj[q]? =some i->p=q
 auN:∀i,i<ops.size->∃p:Nat,cj[p]? =some i
 ahr:∀(p i:Nat) o,cj[p]? =some i->ops[i]? =some o->∀e∈o.after,Region.binds .any e=true->∃q,q<p∧cj[q]? =some e.on
 mask:∀(p i:Nat) o q,cj[p]? =some i->ops[i]? =some o->(ms.getD p 0).testBit q=true->∃e∈o.after,Region.binds .any e=true∧∃r,r<p∧cj[r]? =some e.on∧(q=r∨(ms.getD r 0).testBit q=true)
 dX:∀(p:Nat) x q,L[p]? =some (x,.dX)->q<p->(ms.getD p 0).testBit q=true
 back:∀(p:Nat) x n ts,L[p]? =some (x,.read n ts)->(List.range p).countP (fun q=>uf L q&& !(ms.getD p 0).testBit q)<=n
 dst:∀(p q:Nat) x y c d t,L[p]? =some (x,c)->L[q]? =some (y,d)->x.d=some t->y.d=some t->p=q
 ad4:∀(p q:Nat) x y c d t,L[p]? =some (x,c)->L[q]? =some (y,d)->p<q->y.d=some t->t∉ec->(c= .dX∨t∈c.looks)->(ms.getD q 0).testBit p=true
 dep:∀(p q:Nat) x y c d t,L[p]? =some (x,c)->L[q]? =some (y,d)->q<p->y.d=some t->t∈c.looks->(ms.getD p 0).testBit q=true
section
variable{X:Ctx}{aJ:Nat}{ops:ap Oper}{L:ac (bz×cw)}{cj:ac Nat}{ec:ac Tmp}{ms:ac Nat}{call:bG}
def ob(ops:ap Oper)(cj:ac Nat)(E:Nat->Prop)(p:Nat):Prop:=∀i o,cj[p]? =some i->ops[i]? =some o->∀e∈o.after,Region.binds .any e=true->∀r:Nat,cj[r]? =some e.on->E r
def mm.before(D:mm X aJ ops L cj ec ms){E:Nat->Prop}(iM:∀p,E p->ob ops cj E p)(p:Nat):ob ops cj E p->p<ops.size->∀q,(ms.getD p 0).testBit q=true->E q:=by
 induction p using Nat.strongRecOn with
 |_ p a7=>
  intro aE hp q hq;have No:p<cj.length:=by rw[D.yS];exact hp
  have af:cj[p]? =some cj[p]:=bm No;obtain⟨x,aa⟩:∃x,L[p]? =some x:=⟨_,bm (by rw[D.uU];exact hp)⟩;obtain⟨o,al,_⟩:=D.op p _ x.1 x.2 af aa;obtain⟨e,he,hb,r,Ea,yD,jv⟩:=D.mask p _ o q af al hq;have WM:E r:=aE _ o af al e he hb r yD;rcases jv with rfl|jv
  ·exact WM
  ·exact a7 r Ea (iM r WM) (by omega) q jv
variable{Z:Nat->Bool}{fw:ac (ao bt)}{fr aI:aP}{st st':ay}{F:Nat->aP}{T:Nat->ay}{N:Nat->ac (ao bt)}{V:Nat->be}
variable{p q:Nat}{x:bz}{c:cw}
def kv.Zl(aW:kv call Z L fw fr st aI st' F T N V)(D:mm X aJ ops L cj ec ms)(hp:p<L.length):(T p).ai<=(T (p+1)).ai:=by
 obtain⟨⟨x,c⟩,aa⟩:∃x,L[p]? =some x:=⟨_,bm hp⟩;rcases aW.step p x c aa with⟨_,ah⟩|⟨_,ah⟩
 case inr=>rw[ah.2.2.1];exact b8 _
 cases c with
 |dX=>
  rcases ah with⟨_,_,_,h,_⟩|⟨_,_,_,h,_⟩
  ·rw[h];exact b8 _
  ·exact h
 |hX ts=>
  obtain⟨_,_,h⟩:=ah;rcases h with⟨_,_,h⟩|⟨_,lb,h⟩
  ·rw[h];exact b8 _
  ·have bX:=D.hX p x ts aa;obtain⟨o,_,_,U,_⟩:=QW (h0:=(T p).h) (ai:=(T p).ai) bX h;rw[U];exact zbb _
 |read n ts=>obtain⟨_,_,h,_⟩:=ah;rw[h];exact b8 _
def kv.mR(aW:kv call Z L fw fr st aI st' F T N V)(D:mm X aJ ops L cj ec ms)(h:p<=q)(hq:q<=L.length):(T p).ai<=(T q).ai:=by
 induction q with
 |zero=>have:p=0:=by omega
        subst this;exact b8 _
 |succ q a7=>
  by_cases e:p=q+1
  ·subst e;exact b8 _
  ·exact zag (a7 (by omega) (by omega)) (aW.Zl D (by omega))
def kv.acO(aW:kv call Z L fw fr st aI st' F T N V)(aa:L[p]? =some (x,c))(t:Nat):(F (p+1)).tmp t=if x.d=some t then V p else(F p).tmp t:=by
 rcases aW.step p x c aa with⟨_,ah⟩|⟨_,ah⟩
 case inr=>rw[ah.2.1,sr,ah.1]
 cases c with
 |dX=>
  rcases ah with⟨_,J,h,_⟩|⟨_,lb,_,_,h,_⟩
  ·rw[h,sr,J]
  ·rw[h,sr];rfl
 |hX ts=>obtain⟨h,_⟩:=ah;rw[h,sr]
 |read n ts=>obtain⟨h,_⟩:=ah;rw[h,sr]
def kv.Ko(aW:kv call Z L fw fr st aI st' F T N V)(t:Nat):∀p,p<=L.length->(∀(q:Nat) x c,q<p->L[q]? =some (x,c)->x.d≠some t)->(F p).tmp t=(F 0).tmp t
 |0,_,_=>rfl
 |p+1,hp,h=>by
  obtain⟨⟨x,c⟩,aa⟩:∃x,L[p]? =some x:=⟨_,bm (by omega)⟩;rw[aW.acO aa,zaa (h p x c (by omega) aa)];exact aW.Ko t p (by omega) (fun q x c hq=>h q x c (by omega))
def kv.Qa(aW:kv call Z L fw fr st aI st' F T N V)(D:mm X aJ ops L cj ec ms){y:bz}{d:cw}{t:Nat}(aL:L[q]? =some (y,d))(aA:y.d=some t):∀p,q<p->p<=L.length->(F p).tmp t=V q
 |0,h,_=>by omega
 |p+1,h,hp=>by
  obtain⟨⟨x,c⟩,aa⟩:∃x,L[p]? =some x:=⟨_,bm (by omega)⟩;rw[aW.acO aa];by_cases e:p=q
  ·subst e;rw[aa]at aL;cases aL;rw[zab aA]
  ·rw[zaa (fun h=>e (D.dst p q x y c d t aa aL h aA))];exact aW.Qa D aL aA p (by omega) (by omega)
def kv.same(aW:kv call Z L fw fr st aI st' F T N V)(aa:L[p]? =some (x,c))(hc:c≠.dX):(F (p+1)).cS=(F p).cS∧(F (p+1)).cB=(F p).cB∧(F (p+1)).a1=(F p).a1∧(F (p+1)).b0=(F p).b0:=by
 rcases aW.step p x c aa with⟨_,ah⟩|⟨_,ah⟩
 case inr=>obtain⟨cv,cF,dU,iE⟩:=tn (F p) x.d undef;rw[ah.2.1];exact⟨iE,dU,cv,cF⟩
 cases c with
 |dX=>exact absurd rfl hc
 |hX ts=>obtain⟨h,_⟩:=ah;obtain⟨cv,cF,dU,iE⟩:=tn (F p) x.d (V p);rw[h];exact⟨iE,dU,cv,cF⟩
 |read n ts=>obtain⟨h,_⟩:=ah;obtain⟨cv,cF,dU,iE⟩:=tn (F p) x.d (V p);rw[h];exact⟨iE,dU,cv,cF⟩
def kv.snap(aW:kv call Z L [st.h] fr st aI st' F T N V){c:Nat}(hc:c=0∨∃p x,c=p+1∧L[p]? =some (x,cw.dX)):∀p,c<=p->p<=L.length->
 (N p)[(List.range p).countP (fun q=>decide (c<=q)&&uf L q)]? =some (T c).h
 |0,h,_=>by
  have:c=0:=by omega
  subst this;simp[aW.ta,aW.t0]
 |p+1,h,hp=>by
  obtain⟨⟨x,k⟩,aa⟩:∃x,L[p]? =some x:=⟨_,bm (by omega)⟩;have eB:=aW.step p x k aa;by_cases e:c=p+1
  ·subst e;have an:(List.range (p+1)).countP (fun q=>decide (p+1<=q)&&uf L q)=0:=by
    rw[List.countP_eq_zero];intro q hq;have:=zcO.1 hq;simp;omega
   rw[an];rcases hc with hc|⟨dO,eM,hc,bX⟩
   ·omega
   ·have:dO=p:=by omega
    subst this;rw[aa]at bX;cases bX;rcases eB with⟨_,⟨_,_,_,J,U⟩|⟨_,_,_,_,_,U⟩⟩|⟨_,_,_,J,U⟩
    ·rw[U,J];rfl
    ·rw[U];rfl
    ·rw[U,J];rfl
  ·have a7:=aW.snap hc p (by omega) (by omega);rw[List.range_succ,List.countP_append,List.countP_singleton];have gH:decide (c<=p)=true:=by simp;omega
   have MP:uf L p=k.yN:=by simp[uf,aa]
   simp only[gH,zbk,MP];cases k with
   |dX=>
    have:∃h,N (p+1)=h::N p:=by
     rcases eB with⟨_,⟨_,_,_,_,U⟩|⟨_,_,_,_,_,U⟩⟩|⟨_,_,_,_,U⟩
     ·exact⟨_,U⟩
     ·exact⟨_,U⟩
     ·exact⟨_,U⟩
    obtain⟨h,lB⟩:=this;rw[lB];simpa[cw.yN]using a7
   |hX ts=>
    have U:N (p+1)=N p:=by
     rcases eB with⟨_,_,U,_⟩|⟨_,_,_,_,U⟩
     ·exact U
     ·exact U
    rw[U];simpa[cw.yN]using a7
   |read n ts=>
    have U:N (p+1)=N p:=by
     rcases eB with⟨_,_,U,_⟩|⟨_,_,_,_,U⟩
     ·exact U
     ·exact U
    rw[U];simpa[cw.yN]using a7
end
end Go.ar
namespace Go.ar
variable{X:Ctx}
variable{ι:bs}{n:Nat}{l:Loc}{aS:bs}{m:Nat}{w:co}
def fY(ι:bs)(n:Nat):bs:=fun id=>if id<n then ι id else none
def kR{id:Nat}:fY ι n id=some l↔id<n∧ι id=some l:=by
 unfold fY;by_cases h:id<n<;>simp[h]
def Sn(ι:bs)(n:Nat):(fY ι n).le ι:=fun _ _ h=>(kR.1 h).2
def sI(h:ι.le aS)(hn:m<=n):(fY ι m).le (fY aS n):=fun _ _ hl=>kR.2 ⟨fM (kR.1 hl).1 hn,h _ _ (kR.1 hl).2⟩
def Sm(h:∀id,n<=id->ι id=none):fY ι n=ι:=by
 funext id;unfold fY;by_cases af:id<n
 ·simp[af]
 ·simp[af,h id (by omega)]
def bo.look{h:ao bt}(hw:bo X ι ⟨h,n⟩ w)(hle:ι.le aS)(ae:∀id,m<=id->aS id=none)(hn:n<=m)(hb:∀id l,aS id=some l->l.cH<w.heap.size):bo X aS ⟨h,m⟩ w:=by
 refine⟨fun id o al aA=> ?_,fun i j o p l fz af h3 hj iy hv iP aR e=> ?_,fun id pb=>⟨ae id pb,(hw.fresh id (zag hn pb)).2⟩,hb,fun g aR=>hle _ _ (hw.mB g aR),zag hw.p1 hn,fun i l o hl ah al aA=> ?_⟩
 ·obtain⟨l,hl,hm⟩:=hw.ez id o al aA;exact⟨l,hle _ _ hl,kg.mono X hm hle rfl⟩
 ·obtain⟨l',cx,_⟩:=hw.ez i o af h3;obtain⟨aw1,Xi,_⟩:=hw.ez j p hj iy;have aC:=(hle _ _ cx).symm.trans hv;have e2:=(hle _ _ Xi).symm.trans iP;cases aC;cases e2;exact hw.inj i j o p _ _ af h3 hj iy cx Xi aR e
 ·obtain⟨l',cx,_⟩:=hw.ez i o al aA;have aC:=(hle _ _ cx).symm.trans hl;cases aC;exact hw.mc i _ o cx ah al aA
def bo.adZ{st:ay}(hw:bo X ι st w){o:bt}(al:kg X (iv ι st.ai l) w o l)(hb:l.cH<w.heap.size)(oy:l.bR≠h1)(cd:∀id l',ι id=some l'->l'.cH≠l.cH):
 bo X (iv ι st.ai l) ⟨st.h.set st.ai o,st.ai+1⟩ w:=by
 have hle:ι.le (iv ι st.ai l):=by
  intro id l' hl;show(if id=st.ai then some l else ι id)=some l';rw[zaa];exact hl;intro e;subst e;rw[(hw.fresh _ (b8 _)).1]at hl;cases hl
 have rQ:iv ι st.ai l st.ai=some l:=zab rfl;have ow:∀id,id≠st.ai->iv ι st.ai l id=ι id:=fun id h=>zaa h;refine⟨fun id p hp aA=> ?_,fun i j p q e6 iC af h3 hj iy hv iP aR e=> ?_,fun id pb=> ?_,fun id l' cx=> ?_,fun g aR=>hle _ _ (hw.mB g aR),zdf hw.p1,fun i e6 p kT ah hp aA=> ?_⟩
 ·rw[ao.eJ]at hp;by_cases e:id=st.ai
  ·rw[zab e]at hp;cases hp;subst e;exact⟨l,rQ,al⟩
  ·rw[zaa e]at hp;obtain⟨l',cx,hm⟩:=hw.ez id p hp aA;exact⟨l',hle _ _ cx,kg.mono X hm hle rfl⟩
 ·rw[ao.eJ]at af hj;by_cases aC:i=st.ai
  ·by_cases e2:j=st.ai
   ·rw[aC,e2]
   ·subst aC;rw[rQ]at hv;cases hv;rw[ow j e2]at iP;exact absurd e.symm (cd _ _ iP)
  ·by_cases e2:j=st.ai
   ·subst e2;rw[rQ]at iP;cases iP;rw[ow i aC]at hv;exact absurd e (cd _ _ hv)
   ·rw[zaa aC]at af;rw[zaa e2]at hj;rw[ow i aC]at hv;rw[ow j e2]at iP;exact hw.inj i j p q e6 iC af h3 hj iy hv iP aR e
 ·have amQ:st.ai+1<=id:=pb;refine⟨?_,?_⟩
  ·rw[ow id (by omega)];exact(hw.fresh id (by omega)).1
  ·show(st.h.set st.ai o).get id=none;rw[ao.eJ,zaa (by omega)];exact(hw.fresh id (by omega)).2
 ·by_cases e:id=st.ai
  ·subst e;rw[rQ]at cx;cases cx;exact hb
  ·rw[ow id e]at cx;exact hw.g5 id l' cx
 ·rw[ao.eJ]at hp;by_cases e:i=st.ai
  ·subst e;rw[rQ]at kT;cases kT;exact absurd ah oy
  ·rw[zaa e]at hp;rw[ow i e]at kT;exact hw.mc i e6 p kT ah hp aA
def vC(L:ac (bz×cw))(F:Nat->aP)(p:Nat):Prop:=∃x ts,L[p]? =some (x,cw.hX ts)∧lv ((F p).only ts) x.g true
structure kO(X:Ctx)(aJ:Nat)(L:ac (bz×cw))(F:Nat->aP)(T:Nat->ay)(V:Nat->be)(hE:bs)(hK:co)(E:Nat->Prop)(c:Nat)(ι:bs)(a:Act)(w:co):Prop where
 low:∀p,p<c->E p
 Gs:c<=L.length
 start:c=0∨∃p x,c=p+1∧L[p]? =some (x,cw.dX)
 EK:∀(p:Nat) x,c<=p->E p->L[p]? ≠some (x,cw.dX)
 wr:bo X (fY ι (T c).ai) (T c) w
 mz:∀id l,ι id=some l->id<(T c).ai∨∃p,c<=p∧p<L.length∧E p∧vC L F p∧id=(T p).ai
 gM:∀p,c<=p->E p->vC L F p->∃o l,T (p+1)=⟨(T p).h.set (T p).ai o,(T p).ai+1⟩∧ι (T p).ai=some l∧kg X (fY ι ((T p).ai+1)) w o l∧
  l.bR≠h1∧∀id l',ι id=some l'->id≠(T p).ai->l'.cH≠l.cH
 g5:∀id l,ι id=some l->l.cH<w.heap.size
 keeps:e3 hE ι hK w
 size:a.tmps.size=aJ
 cS:tK (fY ι (T c).ai) (F c).cS a.defers
 FC:∀(p:Nat) x c4 t,L[p]? =some (x,c4)->x.d=some t->E p->bp (fY ι (max (T (p+1)).ai (T c).ai)) (V p) (a.tmps.getD t undef)
 Cm:∀t,(∀(p:Nat) x c4,L[p]? =some (x,c4)->x.d=some t->¬E p)->bp hE ((F 0).tmp t) (a.tmps.getD t undef)
section
variable{aJ:Nat}{ops:ap Oper}{L:ac (bz×cw)}{cj:ac Nat}{ec:ac Tmp}{ms:ac Nat}{call:bG}
variable{Z:Nat->Bool}{fr aI:aP}{st st':ay}{F:Nat->aP}{T:Nat->ay}{N:Nat->ac (ao bt)}{V:Nat->be}{hE:bs}{hK:co}{E:Nat->Prop}{c:Nat}{ι:bs}{a:Act}{w:co}
def kO.look(cb:kO X aJ L F T V hE hK E c ι a w)(aW:kv call Z L [st.h] fr st aI st' F T N V)(D:mm X aJ ops L cj ec ms)(h0:∀id,st.ai<=id->hE id=none)(an:∀t∈ec,(F 0).tmp t=iD)
 (iM:∀p,E p->ob ops cj E p) {p:Nat} {x:bz} {c4:cw} (aa:L[p]? =some (x,c4)) (aE:ob ops cj E p) (hn:¬E p) {t:Nat} (hl:c4= .dX∨t∈c4.looks):
 bp (fY ι (T p).ai) ((F p).tmp t) (a.tmps.getD t undef):=by
 have jg:p<L.length:=(zaf.1 aa).1;have gH:c<=p:=by
  rcases zai p c with h|h
  ·exact absurd (cb.low p h) hn
  ·exact h
 have j4:p<ops.size:=by rw[<-D.uU];exact jg
 have yd:hE.le (fY ι (T p).ai):=by
  intro id l hl;refine kR.2 ⟨?_,cb.keeps.le _ _ hl⟩;rcases zai id st.ai with h|h
  ·have:=aW.mR D (zae p) (by omega);rw[aW.t0]at this;omega
  ·rw[h0 id h]at hl;cases hl
 by_cases hw:∃(q:Nat) (y:bz) (d:cw),L[q]? =some (y,d)∧y.d=some t
 ·obtain⟨q,y,d,aL,aA⟩:=hw;rcases zai q p with yB|yB
  ·have hb:(ms.getD p 0).testBit q=true:=by
    rcases hl with rfl|hl
    ·exact D.dX p x q aa yB
    ·exact D.dep p q x y c4 d t aa aL yB aA hl
   have fp:=D.before iM p aE j4 q hb;rw[aW.Qa D aL aA p yB (by omega)];refine(cb.FC q y d t aL aA fp).mono (sI (.refl ι) ?_);have J:=aW.mR D (p:=q+1) (q:=p) yB (by omega);have U:=aW.mR D gH (by omega);omega
  ·have hold:(F p).tmp t=(F 0).tmp t:=aW.Ko t p (by omega) fun gn eM bE Nq bX hH=>by
    have:=D.dst gn q eM y bE d t bX aL hH aA;omega
   rw[hold];by_cases H0:t∈ec
   ·rw[an t H0];exact .top _
   ·refine(cb.Cm t fun gn eM bE bX hH WL=> ?_).mono yd;have anr:=D.dst gn q eM y bE d t bX aL hH aA;subst anr;by_cases e:gn=p
    ·subst e;exact hn WL
    ·have hb:=D.ad4 p gn x y c4 d t aa aL (by omega) aA H0 hl;exact hn (D.before iM gn (iM gn WL) (by rw[<-D.uU];exact(zaf.1 aL).1) p hb)
 ·have gI:∀(q:Nat) eM bE,L[q]? =some (eM,bE)->eM.d≠some t:=fun q eM bE bX hH=>hw ⟨q,eM,bE,bX,hH⟩;rw[aW.Ko t p (by omega) fun q eM bE _ bX=>gI q eM bE bX];exact(cb.Cm t fun q eM bE bX hH=>absurd hH (gI q eM bE bX)).mono yd
def kO.upto(cb:kO X aJ L F T V hE hK E c ι a w)(aW:kv call Z L [st.h] fr st aI st' F T N V)(_D:mm X aJ ops L cj ec ms):∀q,c<=q->q<=L.length->(∀r,c<=r->r<q->E r)->
 bo X (fY ι (T q).ai) (T q) w∧(F q).cS=(F c).cS∧(F q).cB=(F c).cB∧(F q).a1=(F c).a1∧(F q).b0=(F c).b0:=by
 intro q awv
 induction q with
 |zero=>
  intro _ _;have:c=0:=by omega
  subst this;exact⟨cb.wr,rfl,rfl,rfl,rfl⟩
 |succ q a7=>
  intro hq ea;by_cases e:c=q+1
  ·subst e;exact⟨cb.wr,rfl,rfl,rfl,rfl⟩
  obtain⟨i1,i2,i3,i4,i5⟩:=a7 (by omega) (by omega) (fun r J U=>ea r J (by omega));obtain⟨⟨x,c4⟩,aa⟩:∃x,L[q]? =some x:=⟨_,bm (by omega)⟩;have fp:=ea q (by omega) (by omega);have cd:c4≠.dX:=fun h=>cb.EK q x (by omega) fp (by rw[aa,h]);obtain⟨s1,s2,vo,asI⟩:=aW.same aa cd;refine⟨?_,s1.trans i2,s2.trans i3,vo.trans i4,asI.trans i5⟩;rcases aW.step q x c4 aa with⟨_,ah⟩|⟨_,ah⟩
  case inr=>rw[ah.2.2.1];exact i1
  cases c4 with
  |dX=>exact absurd rfl cd
  |read n ts=>obtain⟨_,_,h,_⟩:=ah;rw[h];exact i1
  |hX ts=>
   obtain⟨_,_,h⟩:=ah;rcases h with⟨_,_,h⟩|⟨gx,_⟩
   ·rw[h];exact i1
   ·obtain⟨o,l,J,U,ag,h0,az⟩:=cb.gM q (by omega) fp ⟨x,ts,aa,gx⟩;have mD:fY ι ((T q).ai+1)=iv (fY ι (T q).ai) (T q).ai l:=by
     funext id;unfold fY iv;by_cases aC:id=(T q).ai
     ·subst aC;simp[U]
     ·by_cases e2:id<(T q).ai
      ·simp[aC,e2];omega
      ·simp[aC,e2];omega
    rw[J];show bo X (fY ι ((T q).ai+1)) _ w;rw[mD]at ag⊢;refine i1.adZ ag (cb.g5 _ _ U) h0 fun id l' cx=> ?_;obtain⟨g1,aM⟩:=kR.1 cx;exact az id l' aM (by omega)
end
def CF(E:Nat->Prop)(p:Nat):Nat->Prop:=fun q=>E q∨q=p
def yb(a:Act)(d:am Tmp)(v:be)(t:Nat):(a.put d v).tmps.getD t undef=if d=some t∧t<a.tmps.size then v else a.tmps.getD t undef:=by
 cases d with
 |none=>simp[Act.put]
 |some d=>
  by_cases e:d=t
  ·subst e;by_cases h:d<a.tmps.size
   ·simp[Act.put,h]
   ·simp[Act.put,h]
  ·simp only[Option.some.injEq,e,false_and,if_false];simp[Act.put,zbt e]
section
variable{aJ:Nat}{ops:ap Oper}{L:ac (bz×cw)}{cj:ac Nat}{ec:ac Tmp}{ms:ac Nat}{call:bG}
variable{Z:Nat->Bool}{fr aI:aP}{st st':ay}{F:Nat->aP}{T:Nat->ay}{N:Nat->ac (ao bt)}{V:Nat->be}{hE:bs}{hK:co}{E:Nat->Prop}{c:Nat}{ι:bs}{a:Act}{w:co}
variable{p:Nat}{x:bz}
def kO.float(cb:kO X aJ L F T V hE hK E c ι a w)(D:mm X aJ ops L cj ec ms){c4:cw}(aa:L[p]? =some (x,c4))(hc:c4≠.dX)(gH:c<=p)(lC:¬vC L F p){v':be}
 (aA:∀t,x.d=some t->t<aJ) (aD:bp (fY ι (T (p+1)).ai) (V p) v'):kO X aJ L F T V hE hK (CF E p) c ι (a.put x.d v') w:=by
 have ep:(a.put x.d v').tmps.size=aJ:=by rw[<-cb.size];cases x.d<;>simp[Act.put]
 refine⟨fun q hq=>.inl (cb.low q hq),cb.Gs,cb.start,fun q y hq fp=> ?_,cb.wr,fun id l hl=> ?_,fun q hq fp fE=> ?_,cb.g5,cb.keeps,ep,?_,fun q y k t aL jy fp=> ?_,fun t gI=> ?_⟩
 ·rcases fp with fp|rfl
  ·exact cb.EK q y hq fp
  ·intro h;rw[aa]at h;cases h;exact hc rfl
 ·rcases cb.mz id l hl with h|⟨q,J,U,ag,az⟩
  ·exact .inl h
  ·exact .inr ⟨q,J,U,.inl ag,az⟩
 ·rcases fp with fp|rfl
  ·exact cb.gM q hq fp fE
  ·exact absurd fE lC
 ·have:(a.put x.d v').defers=a.defers:=by cases x.d<;>rfl
  rw[this];exact cb.cS
 ·rw[yb];by_cases e:q=p
  ·subst e;rw[aa]at aL;cases aL;rw[zab ⟨jy,by rw[cb.size];exact aA t jy⟩];exact aD.mono (sI (.refl ι) (Nat.le_max_left _ _))
  ·rw[zaa (fun h=>e (D.dst q p y x k c4 t aL aa jy h.1))];rcases fp with fp|h
   ·exact cb.FC q y k t aL jy fp
   ·exact absurd h e
 ·rw[yb,zaa (fun h=>gI p x c4 aa h.1 (.inr rfl))];exact cb.Cm t fun q y k aL jy fp=>gI q y k aL jy (.inl fp)
def kO.air(cb:kO X aJ L F T V hE hK E c ι a w)(aW:kv call Z L [st.h] fr st aI st' F T N V)(D:mm X aJ ops L cj ec ms){ts:ac Tmp}(aa:L[p]? =some (x,.hX ts))(gH:c<=p)(nT:¬E p)
 {v':be} {o:bt} {O:Obj} {l:Loc} {w':co} (aA:∀t,x.d=some t->t<aJ) (jb:T (p+1)=⟨(T p).h.set (T p).ai o,(T p).ai+1⟩) (hl:l.cH=w.heap.size) (amW:l.bR≠h1) (hh:w'.heap=w.heap.push O) (g9:rp w w')
 (aD:bp (iv (fY ι (T p).ai) (T p).ai l) (V p) v') (al:kg X (iv (fY ι (T p).ai) (T p).ai l) w' o l):kO X aJ L F T V hE hK (CF E p) c (iv ι (T p).ai l) (a.put x.d v') w':=by
 have jg:p<L.length:=(zaf.1 aa).1;have sS:ι (T p).ai=none:=by
  cases hn:ι (T p).ai with
  |none=>rfl
  |some m=>
   rcases cb.mz _ _ hn with h|⟨q,J,U,ag,az,a4⟩
   ·have:=aW.mR D gH (by omega);omega
   ·obtain⟨bh,l',cl,_⟩:=cb.gM q J ag az;have dn:(T (q+1)).ai=(T q).ai+1:=by rw[cl]
    have Mz:(T (p+1)).ai=(T p).ai+1:=by rw[jb]
    rcases zcp q p with h|h|h
    ·have:=aW.mR D (p:=q+1) (q:=p) h (by omega);omega
    ·subst h;exact absurd ag nT
    ·have:=aW.mR D (p:=p+1) (q:=q) h (by omega);omega
 have hle:ι.le (iv ι (T p).ai l):=by
  intro id l' cx;show(if id=(T p).ai then some l else ι id)=some l';rw[zaa];exact cx;intro e;subst e;rw[sS]at cx;cases cx
 have rQ:iv ι (T p).ai l (T p).ai=some l:=zab rfl;have ow:∀id,id≠(T p).ai->iv ι (T p).ai l id=ι id:=fun id h=>zaa h;have mD:∀n,(T p).ai<n->(iv (fY ι (T p).ai) (T p).ai l).le (fY (iv ι (T p).ai l) n):=by
  intro n hn id l' cx;unfold iv at cx;by_cases e:id=(T p).ai
  ·rw[zab e]at cx;cases cx;subst e;exact kR.2 ⟨hn,rQ⟩
  ·rw[zaa e]at cx;obtain⟨J,U⟩:=kR.1 cx;exact kR.2 ⟨by omega,by rw[ow id e];exact U⟩
 have hold:∀b,b<w.heap.size->w'.heap[b]? =w.heap[b]? :=fun b hb=>by rw[hh,zcH,zaa (by omega)]
 have awT:w'.heap.size=w.heap.size+1:=by rw[hh];simp
 have ep:(a.put x.d v').tmps.size=aJ:=by rw[<-cb.size];cases x.d<;>simp[Act.put]
 have jf:=aW.mR D gH (by omega);have WR:fY (iv ι (T p).ai l) (T c).ai=fY ι (T c).ai:=by
  funext id;unfold fY;by_cases h:id<(T c).ai
  ·rw[zab h,zab h,ow id (by omega)]
  ·rw[zaa h,zaa h]
 have Mz:(T (p+1)).ai=(T p).ai+1:=by rw[jb]
 refine⟨fun q hq=>.inl (cb.low q hq),cb.Gs,cb.start,fun q y hq fp=> ?_,?_,fun id l' cx=> ?_,fun q hq fp fE=> ?_,fun id l' cx=> ?_,?_,ep,?_,fun q y k t aL jy fp=> ?_,fun t gI=> ?_⟩
 ·rcases fp with fp|rfl
  ·exact cb.EK q y hq fp
  ·intro h;rw[aa]at h;cases h
 ·rw[WR];refine⟨fun id bh hx hH=> ?_,cb.wr.inj,cb.wr.fresh,fun id l' cx=> ?_,cb.wr.mB,cb.wr.p1,cb.wr.mc⟩
  ·obtain⟨l',J,U⟩:=cb.wr.ez id bh hx hH;exact⟨l',J,kg.mono X U (.refl _) (hold _ (cb.wr.g5 id l' J))⟩
  ·have:=cb.wr.g5 id l' cx;omega
 ·by_cases e:id=(T p).ai
  ·by_cases fE:vC L F p
   ·exact .inr ⟨p,gH,jg,.inr rfl,fE,e⟩
   ·exfalso;rcases aW.step p x (.hX ts) aa with⟨_,ah⟩|⟨_,ah⟩
    case inr=>rw[ah.2.2.1]at Mz;omega
    obtain⟨_,_,h⟩:=ah;rcases h with⟨_,_,h⟩|⟨h,_⟩
    ·rw[h]at Mz;omega
    ·exact fE ⟨x,ts,aa,h⟩
  ·rw[ow id e]at cx;rcases cb.mz id l' cx with h|⟨q,J,U,ag,az⟩
   ·exact .inl h
   ·exact .inr ⟨q,J,U,.inl ag,az⟩
 ·by_cases e:q=p
  ·subst e;refine⟨o,l,jb,rQ,kg.mono X al (mD _ (zbo _)) rfl,amW,fun id l' cx cd=> ?_⟩;rw[ow id cd]at cx;have:=cb.g5 id l' cx;omega
  ·rcases fp with fp|h
   ·obtain⟨bh,l',J,U,ag,h0,az⟩:=cb.gM q hq fp fE;refine⟨bh,l',J,hle _ _ U,kg.mono X ag (sI hle (b8 _)) (hold _ (cb.g5 _ _ U)),h0,fun id m hm cd=> ?_⟩;by_cases bL:id=(T p).ai
    ·subst bL;rw[rQ]at hm;cases hm;have:=cb.g5 _ _ U;omega
    ·rw[ow id bL]at hm;exact az id m hm cd
   ·exact absurd h e
 ·by_cases e:id=(T p).ai
  ·subst e;rw[rQ]at cx;cases cx;omega
  ·rw[ow id e]at cx;have:=cb.g5 id l' cx;omega
 ·refine cb.keeps.trans ⟨hle,by omega,fun b hb _=>hold b hb,fun id l' cx=> ?_,g9⟩;by_cases e:id=(T p).ai
  ·subst e;rw[rQ]at cx;cases cx;exact .inr (.inl (by omega))
  ·rw[ow id e]at cx;exact .inl cx
 ·have:(a.put x.d v').defers=a.defers:=by cases x.d<;>rfl
  rw[this,WR];exact cb.cS
 ·rw[yb];by_cases e:q=p
  ·subst e;rw[aa]at aL;cases aL;rw[zab ⟨jy,by rw[cb.size];exact aA t jy⟩];exact aD.mono (mD _ (by omega))
  ·rw[zaa (fun h=>e (D.dst q p y x k _ t aL aa jy h.1))];rcases fp with fp|h
   ·exact(cb.FC q y k t aL jy fp).mono (sI hle (b8 _))
   ·exact absurd h e
 ·rw[yb,zaa (fun h=>gI p x _ aa h.1 (.inr rfl))];exact cb.Cm t fun q y k aL jy fp=>gI q y k aL jy (.inl fp)
def kO.effect(cb:kO X aJ L F T V hE hK E c ι a w)(aW:kv call Z L [st.h] fr st aI st' F T N V)(D:mm X aJ ops L cj ec ms)(aa:L[p]? =some (x,.dX))(gH:c<=p)(yi:∀q,q<p->E q)
 {aS:bs} {a':Act} {w':co} {v':be} (aA:∀t,x.d=some t->t<aJ) (hw:bo X aS (T (p+1)) w') (ab:e3 (fY ι (T p).ai) aS w w') (ha:a'.tmps=(a.put x.d v').tmps) (aD:bp aS (V p) v'∨x.d=none) (mE:tK aS (F (p+1)).cS a'.defers):
 ∃gi,kO X aJ L F T V hE hK (CF E p) (p+1) gi a' w':=by
 have jg:p<L.length:=(zaf.1 aa).1;have awG:=aW.Zl D jg;have jf:=aW.mR D gH (by omega);have am6:¬vC L F p:=fun⟨y,ts,aL,_⟩=>by rw[aa]at aL;cases aL
 have XB:∀q,c<=q->q<L.length->E q->vC L F q->(q<p∧(T q).ai<(T p).ai)∨(p<q∧(T (p+1)).ai<=(T q).ai):=by
  intro q J U ag az;obtain⟨bh,l',cl,_⟩:=cb.gM q J ag az;have dn:(T (q+1)).ai=(T q).ai+1:=by rw[cl]
  rcases zcp q p with h|h|h
  ·left;have:=aW.mR D (p:=q+1) (q:=p) h (by omega);exact⟨h,by omega⟩
  ·subst h;exact absurd az am6
  ·right;exact⟨h,aW.mR D (p:=p+1) (q:=q) h (by omega)⟩
 let gi:bs:=fun id=>if id<(T (p+1)).ai then aS id else ι id
 have DX:∀id,id<(T (p+1)).ai->gi id=aS id:=fun id h=>zab h;have DR:∀id,(T (p+1)).ai<=id->gi id=ι id:=fun id h=>zaa (by omega);have hle:ι.le gi:=by
  intro id l hl;rcases zai id (T (p+1)).ai with h|h
  ·rw[DX id h];apply ab.le;refine kR.2 ⟨?_,hl⟩;rcases cb.mz id l hl with J|⟨q,J,U,ag,az,a4⟩
   ·omega
   ·rcases XB q J U ag az with⟨_,cl⟩|⟨_,cl⟩<;>omega
  ·rw[DR id h];exact hl
 have mD:fY gi (T (p+1)).ai=aS:=by
  funext id;unfold fY;by_cases h:id<(T (p+1)).ai
  ·rw[zab h,DX id h]
  ·rw[zaa h,(hw.fresh id (by omega)).1]
 have an7:∀n,(T (p+1)).ai<=n->aS.le (fY gi n):=by
  intro n hn;rw[<-mD];exact sI (.refl _) hn
 have iO:e3 ι gi w w':=by
  refine⟨hle,ab.size,fun b hb af=>ab.kept b hb fun id l hl ah=>af id l (kR.1 hl).2 ah,fun id l hl=> ?_,ab.g9⟩;rcases zai id (T (p+1)).ai with h|h
  ·rw[DX id h]at hl;rcases ab.new id l hl with J|J|⟨j,m,J,U,ag⟩
   ·exact .inl (kR.1 J).2
   ·exact .inr (.inl J)
   ·exact .inr (.inr ⟨j,m,(kR.1 J).2,U,ag⟩)
  ·rw[DR id h]at hl;exact .inl hl
 have ep:a'.tmps.size=aJ:=by rw[ha,<-cb.size];cases x.d<;>simp[Act.put]
 refine⟨gi,fun q hq=> ?_,jg,.inr ⟨p,x,rfl,aa⟩,fun q y hq fp=> ?_,by rw[mD];exact hw,fun id l hl=> ?_,fun q hq fp fE=> ?_,fun id l hl=> ?_,cb.keeps.trans iO,ep,by rw[mD];exact mE,fun q y k t aL jy fp=> ?_,fun t gI=> ?_⟩
 ·by_cases e:q=p
  ·exact .inr e
  ·exact .inl (yi q (by omega))
 ·rcases fp with fp|h
  ·exact cb.EK q y (by omega) fp
  ·omega
 ·rcases zai id (T (p+1)).ai with h|h
  ·exact .inl h
  ·rw[DR id h]at hl;rcases cb.mz id l hl with J|⟨q,J,U,ag,az,a4⟩
   ·omega
   ·rcases XB q J U ag az with⟨_,cl⟩|⟨cl,_⟩
    ·omega
    ·exact .inr ⟨q,cl,U,.inl ag,az,a4⟩
 ·rcases fp with fp|h
  ·have ann:=fE;obtain⟨bh,l',J,U,ag,h0,az⟩:=cb.gM q (by omega) fp fE;have A0:q<L.length:=by obtain⟨y,ts,aL,_⟩:=ann;exact(zaf.1 aL).1
   have Nq:(T (p+1)).ai<=(T q).ai:=aW.mR D hq (by omega);refine⟨bh,l',J,hle _ _ U,kg.mono X ag (sI hle (b8 _)) ?_,h0,fun id m hm cd=> ?_⟩
   ·exact ab.kept l'.cH (cb.g5 _ _ U) fun id m hm _=>az id m (kR.1 hm).2 (by have:=(kR.1 hm).1;omega)
   ·rcases zai id (T (p+1)).ai with h|h
    ·rw[DX id h]at hm;rcases ab.new id m hm with g1|g1|⟨j,fz,g1,_,aM⟩
     ·exact az id m (kR.1 g1).2 cd
     ·have:=cb.g5 _ _ U;omega
     ·have:=az j fz (kR.1 g1).2 (by have:=(kR.1 g1).1;omega);omega
    ·rw[DR id h]at hm;exact az id m hm cd
  ·omega
 ·rcases zai id (T (p+1)).ai with h|h
  ·rw[DX id h]at hl;exact hw.g5 id l hl
  ·rw[DR id h]at hl;exact fM (cb.g5 id l hl) ab.size
 ·rw[ha,yb];by_cases e:q=p
  ·subst e;rw[aa]at aL;cases aL;rw[zab ⟨jy,by rw[cb.size];exact aA t jy⟩];rcases aD with aD|aD
   ·exact aD.mono (an7 _ (Nat.le_max_left _ _))
   ·rw[jy]at aD;cases aD
  ·rw[zaa (fun h=>e (D.dst q p y x k _ t aL aa jy h.1))];rcases fp with fp|h
   ·refine(cb.FC q y k t aL jy fp).mono (sI hle ?_);omega
   ·exact absurd h e
 ·rw[ha,yb,zaa (fun h=>gI p x _ aa h.1 (.inr rfl))];exact cb.Cm t fun q y k aL jy fp=>gI q y k aL jy (.inl fp)
end
end Go.ar
namespace Go.ar
variable{X:Ctx}{call:bG}
variable{x:dd}
def ar9(h:x.s3=true):x.inPlace=true:=by cases x<;>first|rfl|cases h
def ad1(h:x.uL=true):x.inPlace=true:=by cases x<;>first|rfl|cases h
def Zc{op:Op}(dM:X.kX op x=true)(aa:x.s3=true∨x.uL=true)(c:Call):op≠.defer c:=by
 intro hc;rw[hc]at dM;cases A7:x with
 |sa fn p q=>rw[A7]at dM;cases fn<;>cases dM
 |wV p=>rw[A7]at aa;rcases aa with h|h<;>cases h
 |refuse=>rw[A7]at aa;rcases aa with h|h<;>cases h
 |pS p q=>rw[A7]at aa;rcases aa with h|h<;>cases h
 |ext y=>rw[A7]at dM;cases y<;>cases dM
 |_=>rw[A7]at dM;cases dM
section
variable{aJ:Nat}{ops:ap Oper}{L:ac (bz×cw)}{cj:ac Nat}{ec:ac Tmp}{ms:ac Nat}
variable{Z:Nat->Bool}{fr aI:aP}{st st':ay}{F:Nat->aP}{T:Nat->ay}{N:Nat->ac (ao bt)}{V:Nat->be}{hE:bs}{hK:co}{E:Nat->Prop}{c:Nat}{ι:bs}{a:Act}{w:co}
variable{b:dF}{bb:Bool->ac Frame}{k:ac Item}{i:Nat}{rest:ac Nat}
def zE{x:bz}{o:Oper}{t:Bool}(h:mU X aJ ops x o=true)(ae:cy ι fr a aJ)(ab:lv fr x.g t):Region.wanted o (yielded ops a.tmps)=t:=by
 rcases ado h ae ab (by simp)with⟨e,hw⟩|⟨e,hw⟩
 ·cases e;exact hw
 ·cases e;exact hw
def kO.abG(cb:kO X aJ L F T V hE hK E c ι a w)(aW:kv call Z L [st.h] fr st aI st' F T N V)(D:mm X aJ ops L cj ec ms)(h0:∀id,st.ai<=id->hE id=none)(an:∀t∈ec,(F 0).tmp t=iD)
 (iM:∀p,E p->ob ops cj E p) {p:Nat} {x:bz} {c4:cw} (aa:L[p]? =some (x,c4)) (aE:ob ops cj E p) (hn:¬E p) (gH:c<=p):
 cy (fY ι (T p).ai) ((F p).only c4.looks) ⟨a.tmps,[]⟩ aJ∧bo X (fY ι (T p).ai) ⟨(T c).h,(T p).ai⟩ w:=by
 have jg:p<L.length:=(zaf.1 aa).1;refine⟨⟨fun t=> ?_,cb.size,trivial⟩,?_⟩
 ·rw[Zw];by_cases h:t∈c4.looks
  ·rw[zab h];exact cb.look aW D h0 an iM aa aE hn (.inr h)
  ·rw[zaa h];exact .top _
 ·have jf:=aW.mR D gH (by omega);refine bo.look (n:=(T c).ai) (ι:=fY ι (T c).ai) cb.wr (sI (.refl ι) jf) (fun id pb=> ?_) jf (fun id l hl=>cb.g5 id l (kR.1 hl).2);show(if id<(T p).ai then ι id else none)=none;rw[zaa (by omega)]
def ahc(dR:mj X call)(cb:kO X aJ L F T V hE hK E c ι a w)(aW:kv call Z L [st.h] fr st aI st' F T N V)(D:mm X aJ ops L cj ec ms)(h0:∀id,st.ai<=id->hE id=none)(an:∀t∈ec,(F 0).tmp t=iD)
 (iM:∀p,E p->ob ops cj E p) {p:Nat} (hp:p<L.length) (A8:Z p=false) (nT:∀x c,L[p]? =some (x,c)->zM call x c (F p) (T p)) (af:cj[p]? =some i) (aE:ob ops cj E p) (hn:¬E p) (hb:oc hE (F 0).b0 b.b0) (pf:jX b (F 0).a1 hE bb) (jw:(F c).a1=(F 0).a1) (jx:(F c).b0=(F 0).b0):
 ∃bE gi a' w',Steps X.P (lone (b.at a (.inRegion ops (i::rest)::k)) (bb (F c).cB) w) (lone (b.at a' (.inRegion ops rest::k)) (bb (F bE).cB) w')∧kO X aJ L F T V hE hK (CF E p) bE gi a' w'∧
  (F bE).a1=(F 0).a1∧(F bE).b0=(F 0).b0:=by
 obtain⟨⟨x,c4⟩,aa⟩:∃x,L[p]? =some x:=⟨_,bm hp⟩;obtain⟨o,al,bN⟩:=D.op p i x c4 af aa;obtain⟨l1,l2⟩:=I6 bN;have j4:p<ops.size:=by rw[<-D.uU];exact hp
 have gH:c<=p:=by
  rcases zai p c with h|h
  ·exact absurd (cb.low p h) hn
  ·exact h
 have ah:DStep call x c4 (F p) (T p) (N p) (V p) (F (p+1)) (T (p+1)) (N (p+1)):=by
  rcases aW.step p x c4 aa with⟨_,ah⟩|⟨h,_⟩
  ·exact ah
  ·rw[A8]at h;cases h
 have ov:=aW.mR D (zae p) (by omega);rw[aW.t0]at ov;have yd:hE.le (fY ι (T p).ai):=by
  intro id l hl;refine kR.2 ⟨?_,cb.keeps.le _ _ hl⟩;rcases zai id st.ai with h|h
  ·omega
  ·rw[h0 id h]at hl;cases hl
 cases c4 with
 |dX=>
  have yi:∀q,q<p->E q:=fun q hq=>D.before iM p aE j4 q (D.dX p x q aa hq);obtain⟨g2,fK,mg,xB,xC⟩:=cb.upto aW D p gH (by omega) (fun r _ h=>yi r h);have ae:cy (fY ι (T p).ai) (F p) a aJ:=⟨fun t=>cb.look aW D h0 an iM aa aE hn (.inl rfl),cb.size,by rw[fK];exact cb.cS.mono (sI (.refl ι) (aW.mR D gH (by omega)))⟩;rcases ah with⟨gx|⟨gx,u,bq,nU⟩,aD,aw,jb,_⟩|⟨gx,dC,hM,_,aw,_⟩
  ·have nW:=zE bN ae gx;have eH:=Ki (P:=X.P) (b:=b) (k:=k) (cs:=bb (F c).cB) (w:=w) (rest:=rest) al nW;obtain⟨cv,cF,dU,iE⟩:=tn (F p) x.d undef;obtain⟨gi,ld⟩:=cb.effect aW D aa gH yi (aS:=fY ι (T p).ai) (a':=a.put x.d undef) (w':=w) (v':=undef) l2 (by rw[jb];exact g2) (.refl _ _) rfl (.inl (by rw[aD];exact bp.undef _)) (by
    rw[aw,iE];have:(a.put x.d undef).defers=a.defers:=by cases x.d<;>rfl
    rw[this];exact ae.cS)
   refine⟨p+1,gi,_,w,?_,ld,?_,?_⟩
   ·rw[aw,dU,mg,l1];exact .one eH
   ·rw[aw,cv,xB,jw]
   ·rw[aw,cF,xC,jx]
  ·exact absurd nU (nT x .dX aa rfl gx u bq)
  ·have nW:=zE bN ae gx;obtain⟨aS,a',w',eH,ef,er,ab,anl,anz,v',qH⟩:=ZX (b:=b) (bb:=bb) (k:=k) (rest:=rest) bN dR al nW ae g2 (by rw[xC,jx];exact hb.mono yd) (by rw[xB,jw];exact pf.mono yd) hM;have HU:=tn ⟨(F p).t,dC.cS,dC.a1,dC.cB,dC.b0⟩ x.d (V p);have aD:bp aS (V p) v'∨x.d=none:=by
    cases El:x.d with
    |none=>exact .inr rfl
    |some t=>
     left;have:=ef.tmp t;rw[sr,zab El,qH,<-l1,yb,zab ⟨El,by rw[cb.size];exact l2 t El⟩]at this;exact this
   obtain⟨gi,ld⟩:=cb.effect aW D aa gH yi (aS:=aS) (a':=a') (w':=w') (v':=v') l2 er ab (by rw[qH,l1]) aD (by
    rw[aw,HU.2.2.2];have:=ef.cS;rw[(tn dC x.d (V p)).2.2.2]at this;exact this)
   refine⟨p+1,gi,a',w',?_,ld,?_,?_⟩
   ·rw[aw,HU.2.2.1,<-mg];exact eH
   ·rw[aw,HU.1];exact anl.trans (xB.trans jw)
   ·rw[aw,HU.2.1];exact anz.trans (xC.trans jx)
 |read n ts=>
  obtain⟨g1,aM⟩:=cb.abG aW D h0 an iM aa aE hn gH;have HO:¬vC L F p:=fun⟨y,Qc,aL,_⟩=>by rw[aa]at aL;cases aL
  obtain⟨_,_,jb,jN⟩:=ah;rcases jN with⟨gx,aD⟩|⟨gx,nd⟩
  ·have nW:=zE bN g1 gx;have eH:=Ki (P:=X.P) (b:=b) (a:=a) (k:=k) (cs:=bb (F c).cB) (w:=w) (rest:=rest) al nW;exact⟨c,ι,_,w,.one eH,by rw[<-l1];exact cb.float D aa (by simp) gH HO l2 (by rw[aD];exact bp.undef _),jw,jx⟩
  ·have nW:=zE bN g1 gx;have amo:(List.range p).countP (fun q=>decide (c<=q)&&uf L q)<n+1:=by
    refine Nat.lt_succ_of_le (zag (List.countP_mono_left fun q hq hh=> ?_) (D.back p x n ts aa));simp only[bW,decide_eq_true_eq]at hh⊢;refine⟨hh.2,?_⟩;cases HZ:(ms.getD p 0).testBit q with
    |false=>rfl
    |true=>
     exfalso;have fp:=D.before iM p aE j4 q HZ;have he:=hh.2;unfold uf at he;cases aL:L[q]? with
     |none=>rw[aL]at he;cases he
     |some y=>
      obtain⟨fL,adz⟩:=y;rw[aL]at he;cases adz with
      |dX=>exact cb.EK q fL hh.1 fp aL
      |hX _=>cases he
      |read _ _=>cases he
   obtain⟨hh,lb,ch,aC,e2⟩:=abF _ _ nd _ amo;have b3:=aW.snap cb.start p gH (by omega);rw[b3]at aC;cases aC;have dM:=EY bN;have rZ:=D.rd p x n ts aa;obtain⟨_,_,cT,_⟩:=OL dM g1 aM e2 (ar9 rZ);obtain⟨_,_,v',gg,aD⟩:=cT rZ;have Eb:(execOp a.eval o).run X.P w= .ok (.value v') w:=gg;have eH:=Kj (b:=b) (a:=a) (k:=k) (cs:=bb (F c).cB) (rest:=rest) al nW (.inr (Zc dM (.inl rZ))) Eb;exact⟨c,ι,_,w,.one eH,by rw[<-l1];exact cb.float D aa (by simp) gH HO l2 (by rw[jb];exact aD),jw,jx⟩
 |hX ts=>
  obtain⟨g1,aM⟩:=cb.abG aW D h0 an iM aa aE hn gH;obtain⟨_,_,jN⟩:=ah;rcases jN with⟨gx,aD,jb⟩|⟨gx,dC,hM⟩
  ·have nW:=zE bN g1 gx;have eH:=Ki (P:=X.P) (b:=b) (a:=a) (k:=k) (cs:=bb (F c).cB) (w:=w) (rest:=rest) al nW;have HO:¬vC L F p:=fun⟨y,Qc,aL,er⟩=>by
    rw[aa]at aL;cases aL;have J:gB ((F p).only ts) x.g (some true) (some false) none=some false:=gx;have U:gB ((F p).only ts) x.g (some true) (some false) none=some true:=er;rw[J]at U;cases U
   exact⟨c,ι,_,w,.one eH,by rw[<-l1];exact cb.float D aa (by simp) gH HO l2 (by rw[aD];exact bp.undef _),jw,jx⟩
  ·have nW:=zE bN g1 gx;have lC:=D.hX p x ts aa;have dM:=EY bN;obtain⟨IW,am9,_,jb,ea⟩:=QW (h0:=(T p).h) (ai:=(T p).ai) lC hM;obtain⟨_,_,_,fE⟩:=OL dM g1 aM (ea (T c).h) (ad1 lC);obtain⟨g7,O,ex,v',w',aC,e2,gg,MU,aD,er,ab⟩:=fE lC;have pd:(some IW:am bt)=some g7:=by
    have:=congrArg (fun s:ay=>s.h.get (T p).ai) aC;simp only[ao.eJ,if_true]at this;exact this
   cases pd;have yx:kg X (iv (fY ι (T p).ai) (T p).ai ⟨w.heap.size,0,ex,id⟩) w' IW ⟨w.heap.size,0,ex,id⟩:=by
    obtain⟨l,hl,hm⟩:=er.ez (T p).ai IW (by show((T c).h.set (T p).ai IW).get (T p).ai=_;rw[ao.eJ,zab rfl]) am9;have:iv (fY ι (T p).ai) (T p).ai ⟨w.heap.size,0,ex,id⟩ (T p).ai=some ⟨w.heap.size,0,ex,id⟩:=zab rfl;have e:=this.symm.trans hl;cases e;exact hm
   have Eb:(execOp a.eval o).run X.P w= .ok (.value v') w':=gg;have eH:=Kj (b:=b) (a:=a) (k:=k) (cs:=bb (F c).cB) (rest:=rest) al nW (.inr (Zc dM (.inr lC))) Eb;exact⟨c,_,_,w',.one eH,by rw[<-l1];exact cb.air aW D aa gH hn l2 jb (by rfl) (by exact NI) MU ab.g9 aD yx,jw,jx⟩
def aha(dR:mj X call)(cb:kO X aJ L F T V hE hK E c ι a w)(aW:kv call Z L [st.h] fr st aI st' F T N V)(D:mm X aJ ops L cj ec ms)(h0:∀id,st.ai<=id->hE id=none)(an:∀t∈ec,(F 0).tmp t=iD)
 (iM:∀p,E p->ob ops cj E p) {p:Nat} (hp:p<L.length) {x:bz} (aa:L[p]? =some (x,.dX)) (af:cj[p]? =some i) (aE:ob ops cj E p) (hn:¬E p) (jw:(F c).a1=(F 0).a1) (jx:(F c).b0=(F 0).b0)
 (gx:lv (F p) x.g true) (AM:x.o.k7=true) {u:be} {acD:ay} (hM:bK call x.o (F p) (T p)= .a1 u acD):
 ∃aS v' w',Steps X.P (lone (b.at a (.inRegion ops (i::rest)::k)) (bb (F p).cB) w) (lone (b.panics a (.inRegion ops (i::rest)::k) v') (bb (F p).cB) w')∧bp aS u v'∧bo X aS acD w'∧e3 hE aS hK w'∧cy aS (F p) a aJ∧
  (F c).cB=(F p).cB∧(F p).a1=(F 0).a1∧(F p).b0=(F 0).b0:=by
 obtain⟨o,al,bN⟩:=D.op p i x .dX af aa;have j4:p<ops.size:=by rw[<-D.uU];exact hp
 have gH:c<=p:=by
  rcases zai p c with h|h
  ·exact absurd (cb.low p h) hn
  ·exact h
 have yi:∀q,q<p->E q:=fun q hq=>D.before iM p aE j4 q (D.dX p x q aa hq);obtain⟨g2,fK,mg,xB,xC⟩:=cb.upto aW D p gH (by omega) (fun r _ h=>yi r h);have ae:cy (fY ι (T p).ai) (F p) a aJ:=⟨fun t=>cb.look aW D h0 an iM aa aE hn (.inl rfl),cb.size,by rw[fK];exact cb.cS.mono (sI (.refl ι) (aW.mR D gH (by omega)))⟩;have nW:=zE bN ae gx;obtain⟨aS,v',w',ah,aD,er,ab⟩:=ZY (b:=b) (k:=k) (rest:=rest) (cs:=bb (F p).cB) bN dR al nW ae g2 AM hM;have ov:=aW.mR D (zae p) (by omega);rw[aW.t0]at ov;have yd:hE.le (fY ι (T p).ai):=by
  intro id l hl;refine kR.2 ⟨?_,cb.keeps.le _ _ hl⟩;rcases zai id st.ai with h|h
  ·omega
  ·rw[h0 id h]at hl;cases hl
 have Xg:e3 hE (fY ι (T p).ai) hK w:=⟨yd,cb.keeps.size,cb.keeps.kept,fun id l hl=>cb.keeps.new id l (kR.1 hl).2,cb.keeps.g9⟩;exact⟨aS,v',w',ah,aD,er,Xg.trans ab,ae.mono ab.le,mg.symm,xB.trans jw,xC.trans jx⟩
end
theorem Sf{α:Type}{p q:α->Bool}:∀{l:ac α},(∀x∈l,p x=true->q x=true)->(∃x∈l,q x=true∧p x=false)->l.countP p<l.countP q
 |[],_,⟨x,aa,_⟩=>by cases aa
 |y::l,h,⟨x,aa,J,U⟩=>by
  have hle:l.countP p<=l.countP q:=List.countP_mono_left fun z an=>h z (zaI _ an);rw[zdW,zdW];rcases zak.1 aa with rfl|aa
  ·simp only[J,U,if_true];simp;omega
  ·have:=Sf (fun z an=>h z (zaI _ an)) ⟨x,aa,J,U⟩;have aL:=h y zby;cases hp:p y with
   |false=>simp;split<;>omega
   |true=>simp[aL hp];omega
section
variable{aJ:Nat}{ops:ap Oper}{L:ac (bz×cw)}{cj:ac Nat}{ec:ac Tmp}{ms:ac Nat}
variable{Z:Nat->Bool}{fr aI:aP}{st st':ay}{F:Nat->aP}{T:Nat->ay}{N:Nat->ac (ao bt)}{V:Nat->be}{hE:bs}{hK:co}
variable{b:dF}{bb:Bool->ac Frame}{k:ac Item}
variable{listed:ap Bool}{i:Nat}
def ml(cj:ac Nat)(listed:ap Bool):Nat->Prop:=fun p=>∃i,cj[p]? =some i∧listed.getD i false=true
def alb:listed.getD i false=true->listed.getD i true=true:=by
 intro h;rcases zai i listed.size with af|af
 ·simpa[af]using h
 ·simp[af]at h
def WA(af:i<listed.size)(h:listed.getD i false≠true):listed.getD i true=false:=by
 simpa[af]using h
def mm.ad2(D:mm X aJ ops L cj ec ms)(ep:listed.size=ops.size)(h:Region.ready .any ops listed=[]):∀p,p<L.length->ml cj listed p:=by
 intro p
 induction p using Nat.strongRecOn with
 |_ p a7=>
  intro hp;have j4:p<ops.size:=by rw[<-D.uU];exact hp
  have af:cj[p]? =some (cj[p]'(by rw[D.yS];exact j4)):=bm _;obtain⟨⟨x,c4⟩,aa⟩:∃x,L[p]? =some x:=⟨_,bm hp⟩;obtain⟨o,al,_⟩:=D.op p _ x c4 af aa;refine⟨_,af,?_⟩;by_cases hl:listed.getD (cj[p]'(by rw[D.yS];exact j4)) false=true
  ·exact hl
  ·exfalso;have aN:=(zbd.1 al).1;have wH:(cj[p]'(by rw[D.yS];exact j4))∈Region.ready .any ops listed:=by
    rw[mem_ready];refine⟨WA (by rw[ep];exact aN) hl,o,al,fun e he hb=> ?_⟩;obtain⟨q,hq,anq⟩:=D.ahr p _ o af al e he hb;obtain⟨j,hj,gT⟩:=a7 q hq (by omega);rw[anq]at hj;cases hj;exact gT
   rw[h]at wH;cases wH
def ag9(dR:mj X call)(aW:kv call Z L [st.h] fr st aI st' F T N V)(D:mm X aJ ops L cj ec ms)(h0:∀id,st.ai<=id->hE id=none)(an:∀t∈ec,(F 0).tmp t=iD)
 (hb:oc hE (F 0).b0 b.b0) (pf:jX b (F 0).a1 hE bb) (n:Nat) (nT:KM call Z L F T n) (MC:∀p,Z p=true->n<L.length∧(ms.getD p 0).testBit n=true):∀(fuel t:Nat) (listed:ap Bool) (c:Nat) (ι:bs) (a:Act) (w:co),listed.size=ops.size->(List.range ops.size).countP (fun i=> !listed.getD i true)<=fuel->
 (∀p,ml cj listed p->ob ops cj (ml cj listed) p)->¬ml cj listed n->kO X aJ L F T V hE hK (ml cj listed) c ι a w->(F c).a1=(F 0).a1->(F c).b0=(F 0).b0->
 (∃lT bE gi a' w',Steps X.P (lone (b.at a (.inRegion ops (Region.linearise.go .any ops fuel t listed [])::k)) (bb (F c).cB) w) (lone (b.at a' (.inRegion ops []::k)) (bb (F bE).cB) w')∧
  (∀p,p<L.length->lT p)∧kO X aJ L F T V hE hK lT bE gi a' w'∧(F bE).a1=(F 0).a1∧(F bE).b0=(F 0).b0∧(lT n->ml cj listed n))∨
 (∃lT bE gi a' w' i rest,Steps X.P (lone (b.at a (.inRegion ops (Region.linearise.go .any ops fuel t listed [])::k)) (bb (F c).cB) w) (lone (b.at a' (.inRegion ops (i::rest)::k)) (bb (F bE).cB) w')∧
  n<L.length∧cj[n]? =some i∧(∀p,lT p->ob ops cj lT p)∧ob ops cj lT n∧¬lT n∧kO X aJ L F T V hE hK lT bE gi a' w'∧(F bE).a1=(F 0).a1∧(F bE).b0=(F 0).b0):=by
 intro fuel
 induction fuel with
 |zero=>
  intro t listed c ι a w ep DK ur MO cb jw jx;refine .inl ⟨ml cj listed,c,ι,a,w,.refl _ _,fun p hp=> ?_,cb,jw,jx,id⟩;have j4:p<ops.size:=by rw[<-D.uU];exact hp
  have af:cj[p]? =some (cj[p]'(by rw[D.yS];exact j4)):=bm _;obtain⟨⟨x,c4⟩,aa⟩:∃x,L[p]? =some x:=⟨_,bm hp⟩;obtain⟨o,al,_⟩:=D.op p _ x c4 af aa;have aN:=(zbd.1 al).1;refine⟨_,af,?_⟩;have J:=List.countP_eq_zero.1 (Nat.le_zero.1 DK) _ (zcO.2 aN);by_cases hl:listed.getD (cj[p]'(by rw[D.yS];exact j4)) false=true
  ·exact hl
  ·rw[WA (by rw[ep];exact aN) hl]at J;simp at J
 |succ fuel a7=>
  intro t listed c ι a w ep DK ur MO cb jw jx;simp only[Region.linearise.go];change(∃lT bE gi a' w',Steps X.P (lone (b.at a (.inRegion ops (match(Region.ready .any ops listed)[t%(Region.ready .any ops listed).length]? with
   |some i=>Region.linearise.go .any ops fuel (t/(Region.ready .any ops listed).length) (listed.setIfInBounds i true) [i]
   |none=>[].reverse)::k)) (bb (F c).cB) w) _∧_)∨(∃lT bE gi a' w' i rest,Steps X.P (lone (b.at a (.inRegion ops (match(Region.ready .any ops listed)[t%(Region.ready .any ops listed).length]? with
   |some i=>Region.linearise.go .any ops fuel (t/(Region.ready .any ops listed).length) (listed.setIfInBounds i true) [i]
   |none=>[].reverse)::k)) (bb (F c).cB) w) _∧_)
  cases l4:(Region.ready .any ops listed)[t%(Region.ready .any ops listed).length]? with
  |none=>
   have D2:Region.ready .any ops listed=[]:=by
    cases rZ:Region.ready .any ops listed with
    |nil=>rfl
    |cons x xs=>
     rw[rZ]at l4;have aN:t%(x::xs).length<(x::xs).length:=zah _ (by simp);simp at l4;simp at aN;omega
   exact .inl ⟨ml cj listed,c,ι,a,w,.refl _ _,D.ad2 ep D2,cb,jw,jx,id⟩
  |some i=>
   simp only[];rw[linearise_go_acc,List.reverse_singleton,List.singleton_append];obtain⟨Ny,o,al,ea⟩:=mem_ready.1 (zav l4);have aN:=(zbd.1 al).1;obtain⟨p,hp⟩:=D.auN i aN;have Nn:p<L.length:=by rw[D.uU,<-D.yS];exact(zaf.1 hp).1
   have hn:¬ml cj listed p:=by
    rintro⟨j,hj,gT⟩;rw[hp]at hj;cases hj;rw[alb gT]at Ny;cases Ny
   have aE:ob ops cj (ml cj listed) p:=by
    intro iz bh dG hx e he AG r uE;rw[hp]at dG;cases dG;rw[al]at hx;cases hx;exact⟨_,uE,ea e he AG⟩
   by_cases nU:p=n
   ·subst nU;exact .inr ⟨ml cj listed,c,ι,a,w,i,_,.refl _ _,Nn,hp,ur,aE,hn,cb,jw,jx⟩
   have A8:Z p=false:=by
    cases an4:Z p with
    |false=>rfl
    |true=>exact absurd (D.before ur p aE (by rw[<-D.uU];exact Nn) n (MC p an4).2) MO
   obtain⟨bE,gi,a',w',ah,ld,ani,anx⟩:=ahc (b:=b) (bb:=bb) (k:=k) (rest:=Region.linearise.go .any ops fuel (t/(Region.ready .any ops listed).length) (listed.setIfInBounds i true) []) dR cb aW D h0 an ur Nn A8 (fun x c aa=>nT p x c nU A8 aa) hp aE hn hb pf jw jx;have iM:CF (ml cj listed) p=ml cj (listed.setIfInBounds i true):=by
    funext q;apply propext;constructor
    ·rintro(⟨j,hj,gT⟩|rfl)
     ·exact⟨j,hj,getD_set_true gT⟩
     ·exact⟨i,hp,by simp[ep,aN]⟩
    ·rintro⟨j,hj,gT⟩;by_cases e:j=i
     ·subst e;exact .inr (D.inj q p j hj hp)
     ·left;refine⟨j,hj,?_⟩;rw[getD_set_ne false (Ne.symm e)]at gT;exact gT
   rw[iM]at ld;have amm:∀p,ml cj (listed.setIfInBounds i true) p->ob ops cj (ml cj (listed.setIfInBounds i true)) p:=by
    rw[<-iM];rintro q (hq|rfl) iz bh dG hx e he AG r uE
    ·exact .inl (ur q hq iz bh dG hx e he AG r uE)
    ·exact .inl (aE iz bh dG hx e he AG r uE)
   have amt:¬ml cj (listed.setIfInBounds i true) n:=by
    rw[<-iM];rintro(h|h)
    ·exact MO h
    ·exact nU h.symm
   have amn:(List.range ops.size).countP (fun j=> !(listed.setIfInBounds i true).getD j true)<=fuel:=by
    refine Nat.le_of_lt_succ (fM (Sf (fun j _ hj=> ?_) ⟨i,zcO.2 aN,?_,?_⟩) DK)
    ·by_cases e:j=i
     ·subst e;simp[ep,aN]at hj
     ·rw[getD_set_ne true (Ne.symm e)]at hj;exact hj
    ·rw[Ny];rfl
    ·simp[ep,aN]
   rcases a7 (t/(Region.ready .any ops listed).length) (listed.setIfInBounds i true) bE gi a' w' (by simp[ep]) amn amm amt ld ani anx with⟨lT,Lu,Qz,KV,ke,eB,Hr,alW,anf,ans,amq⟩|⟨lT,Lu,Qz,KV,ke,iz,asj,eB,anv⟩
   ·refine .inl ⟨lT,Lu,Qz,KV,ke,ah.trans eB,Hr,alW,anf,ans,fun h=> ?_⟩;have:=amq h;rw[<-iM]at this;rcases this with h|h
    ·exact h
    ·exact absurd h.symm nU
   ·exact .inr ⟨lT,Lu,Qz,KV,ke,iz,asj,ah.trans eB,anv⟩
def ahb{ι:bs}{a:Act}{w:co}{id:Nat}(hm:X.P.follows .mixedOrders=true)(dR:mj X call)(D:mm X aJ ops L cj ec ms)(ae:cy ι fr a aJ)(hw:bo X ι st w)(hb:oc ι fr.b0 b.b0)(aE:jX b fr.a1 ι bb):
 fN X b aJ bb (lone (b.at a (.code (.region id ops true)::k)) (bb fr.cB) w) k fr ι w (gF call (rE call ms (db L)) L [st.h] (qg fr ec) st):=by
 cases hM:gF call (rE call ms (db L)) L [st.h] (qg fr ec) st with
 |no=>trivial
 |out e aI st'=>
  obtain⟨Z,F,T,N,V,aW,ym⟩:=ahU _ _ _ _ _ _ _ hM;obtain⟨tH,zJ,FJ,av4,av5⟩:=aad ec fr
  let e9:co:={w with drawn:=w.drawn+1}
  have oA:bo X ι st e9:=hw.xp X rfl;have p2:F 0=qg fr ec:=aW.f0;have Hz:∀id,st.ai<=id->ι id=none:=fun id h=>(hw.fresh id h).1;have pa:fY ι (T 0).ai=ι:=by rw[aW.t0];exact Sm Hz
  have sS:∀p,¬ml cj (Array.replicate ops.size false) p:=by
   rintro p ⟨i,_,af⟩;by_cases h:i<ops.size<;>simp[h]at af
  have cb:kO X aJ L F T V ι e9 (ml cj (Array.replicate ops.size false)) 0 ι a e9:=by
   refine⟨fun p hp=>by omega,zae _,.inl rfl,fun p x _ h=>absurd h (sS p),by rw[pa,aW.t0];exact oA,fun id l hl=>.inl ?_,fun p _ h=>absurd h (sS p),oA.g5,.refl _ _,ae.size,by rw[pa,p2,av5];exact ae.cS,fun p x c4 t _ _ h=>absurd h (sS p),fun t _=> ?_⟩
   ·rw[aW.t0];rcases zai id st.ai with h|h
    ·exact h
    ·rw[Hz id h]at hl;cases hl
   ·rw[p2,tH];by_cases h:t∈ec
    ·rw[zab h];exact .top _
    ·rw[zaa h];exact ae.tmp t
  have oz:=aut (P:=X.P) (b:=b) (a:=a) (k:=k) (cs:=bb fr.cB) (w:=w) (ops:=ops) (id:=id);have anB:Region.schedule (X.P.follows .mixedOrders) ops (w.tape w.drawn (.order b.fn id))=Region.linearise.go .any ops ops.size (w.tape w.drawn (.order b.fn id)) (Array.replicate ops.size false) []:=by
   simp only[Region.schedule,hm,zcP,if_true];rfl
  rw[anB]at oz;have sY:bb (F 0).cB=bb fr.cB:=by rw[p2,av4]
  have uy:=fun n nT MC=>ag9 (b:=b) (bb:=bb) (k:=k) dR aW D Hz (fun t h=>by rw[p2,tH,zab h]) (by rw[p2,FJ];exact hb) (by rw[p2,zJ];exact aE) n nT MC ops.size (w.tape w.drawn (.order b.fn id)) (Array.replicate ops.size false) 0 ι a e9 (by simp) (by
   refine zag List.countP_le_length ?_;simp) (fun p h=>absurd h (sS p)) (sS n) cb rfl rfl
  rw[sY]at uy;rcases ym with⟨rfl,H8,nT,gv,anO⟩|⟨n,x,u,aa,an6,nT,gx,AM,rfl,rfl,AZ⟩
  case inr=>
   have Xs:=(zaf.1 aa).1;rcases uy n nT (fun p hp=>⟨Xs,(an6 p hp).2⟩)with⟨lT,bE,gi,a',w',ah,ea,ld,iR,nV,hH⟩|⟨lT,bE,gi,a',w',i,rest,ah,qN,af,ur,rZ,am5,ld,iR,nV⟩
   ·exact absurd (hH (ea n Xs)) (sS n)
   ·obtain⟨aS,v',ke,jN,aD,Ei,km,DO,aC,e2,b3⟩:=aha (b:=b) (bb:=bb) (k:=k) (rest:=rest) dR ld aW D Hz (fun t h=>by rw[p2,tH,zab h]) ur qN aa af rZ am5 iR nV gx AM AZ;rw[aC]at ah;exact⟨aS,a',ke,DO,Ei,e3.trans (w':=e9) (e3.xp ι rfl) km,by rw[e2,p2,zJ],by rw[b3,p2,FJ],v',_,aD,(Steps.head oz ah).trans jN⟩
  obtain⟨lT,bE,gi,a',w',ah,ea,ld,iR,nV,_⟩:∃lT bE gi a' w',_:=by
   rcases uy L.length nT (fun p hp=>by rw[H8 p]at hp;cases hp)with h|⟨_,_,_,_,_,_,_,_,qN,_⟩
   ·exact h
   ·exact absurd qN (Nat.lt_irrefl _)
  obtain⟨g2,fK,mg,xB,xC⟩:=ld.upto aW D L.length ld.Gs (b8 _) (fun r _ h=>ea r h);have Ef:fY gi (T L.length).ai=gi:=by
   refine Sm fun id pb=> ?_;cases hl:gi id with
   |none=>rfl
   |some l=>
    exfalso;rcases ld.mz id l hl with h|⟨p,J,U,ag,az,a4⟩
    ·have:=aW.mR D ld.Gs (b8 _);omega
    ·obtain⟨o,l',cl,_⟩:=ld.gM p J ag az;have dn:(T (p+1)).ai=(T p).ai+1:=by rw[cl]
     have:=aW.mR D (p:=p+1) (q:=L.length) U (b8 _);omega
  rw[Ef,anO]at g2;rw[gv]at fK mg xB xC;have ef:cy gi aI a' aJ:=by
   refine⟨fun t=> ?_,ld.size,by rw[fK];exact ld.cS.mono (Sn _ _)⟩;rw[<-gv];by_cases XI:∃(q:Nat) (y:bz) (d:cw),L[q]? =some (y,d)∧y.d=some t
   ·obtain⟨q,y,d,aL,aA⟩:=XI;have hq:=(zaf.1 aL).1;rw[aW.Qa D aL aA L.length hq (b8 _)];exact(ld.FC q y d t aL aA (ea q hq)).mono (Sn _ _)
   ·have gI:∀(q:Nat) eM bE,L[q]? =some (eM,bE)->eM.d≠some t:=fun q eM bE bX hH=>XI ⟨q,eM,bE,bX,hH⟩;rw[aW.Ko t L.length (b8 _) fun q eM bE _ bX=>gI q eM bE bX];exact(ld.Cm t fun q eM bE bX hH=>absurd hH (gI q eM bE bX)).mono ld.keeps.le
  refine⟨gi,a',w',ef,g2,e3.trans (w':=e9) (e3.xp ι rfl) ld.keeps,?_,?_,?_⟩
  ·rw[xB,iR,p2,zJ]
  ·rw[xC,nV,p2,FJ]
  ·rw[<-mg]at ah;exact(Steps.head oz ah).trans (.one acs)
end
end Go.ar
namespace Go.ar
variable{X:Ctx}
abbrev vD:=Nat×(bz×cw)×Nat×Nat
def rf:Nat->ac (bz×cw)->ac Nat->ac Nat->ac vD
 |p,a::L,i::cj,m::ms=>(p,a,i,m)::rf (p+1) L cj ms
 |_,_,_,_=>[]
theorem aby:∀(L:ac (bz×cw)) (cj ms:ac Nat) (np p:Nat) {a:bz×cw} {i m:Nat},L[p]? =some a->cj[p]? =some i->ms[p]? =some m->(np+p,a,i,m)∈rf np L cj ms
 |[],_,_,_,p,_,_,_,h,_,_=>by simp at h
 |_::_,[],_,_,p,_,_,_,_,h,_=>by simp at h
 |_::_,_::_,[],_,p,_,_,_,_,_,h=>by simp at h
 |a'::L,iz::cj,fz::ms,np,p,a,i,m,J,U,ag=>by
  cases p with
  |zero=>
   simp at J U ag;subst J U ag;exact zby
  |succ p=>
   have:=aby L cj ms (np+1) p (a:=a) (i:=i) (m:=m) (by simpa using J) (by simpa using U) (by simpa using ag);rw[show np+(p+1)=np+1+p by omega];exact zaI _ this
theorem abx:∀(L:ac (bz×cw)) (cj ms:ac Nat) (np:Nat) {r:vD},r∈rf np L cj ms->∃p:Nat,r.1=np+p∧L[p]? =some r.2.1∧cj[p]? =some r.2.2.1∧ms[p]? =some r.2.2.2
 |[],_,_,_,_,h=>by simp[rf]at h
 |_::_,[],_,_,_,h=>by simp[rf]at h
 |_::_,_::_,[],_,_,h=>by simp[rf]at h
 |a'::L,iz::cj,fz::ms,np,r,h=>by
  simp only[rf]at h;rcases zak.1 h with rfl|h
  ·exact⟨0,rfl,rfl,rfl,rfl⟩
  ·obtain⟨p,J,U,ag,az⟩:=abx L cj ms (np+1) h;exact⟨p+1,by omega,U,ag,az⟩
def yZ(rows:ac vD)(p:Nat):ac Edge->am Nat
 |[]=>some 0
 |e::es=>if Region.binds .any e then
  match rows.find? (fun r=>Nat.beq r.2.2.1 e.on),yZ rows p es with
  |some r,some m=>if Nat.ble (Nat.succ r.1) p then some (m|||((1<<<r.1)|||r.2.2.2))else none
  |_,_=>none
  else yZ rows p es
theorem IE{rows:ac vD}{p:Nat}:∀(es:ac Edge) (m:Nat),yZ rows p es=some m->
 (∀e∈es,Region.binds .any e=true->∃r∈rows,r.2.2.1=e.on∧r.1<p)∧
 (∀q,m.testBit q=true->∃e∈es,Region.binds .any e=true∧∃r∈rows,r.2.2.1=e.on∧r.1<p∧(q=r.1∨r.2.2.2.testBit q=true))
 |[],m,h=>by
  simp only[yZ,Option.some.injEq]at h;subst h;exact⟨fun e he=>by simp at he,fun q hq=>by simp at hq⟩
 |e::es,m,h=>by
  simp only[yZ]at h;by_cases hb:Region.binds .any e=true
  ·rw[zab hb]at h;split at h
   ·rename_i r fz aE mL;split at h
    ·rename_i aN;cases h;obtain⟨i1,i2⟩:=IE es fz mL;have Nv:=zco aE;have yD:r.2.2.1=e.on:=by
      have:=zcL aE;exact dD this
     have Ea:r.1<p:=mn.1 aN;refine⟨fun bL j3 cK=> ?_,fun q hq=> ?_⟩
     ·rcases zak.1 j3 with rfl|j3
      ·exact⟨r,Nv,yD,Ea⟩
      ·exact i1 bL j3 cK
     ·rw[Nat.testBit_or,Nat.testBit_or,zcq,zcq]at hq;rcases hq with hq|hq|hq
      ·obtain⟨bL,j3,J,U⟩:=i2 q hq;exact⟨bL,zaI _ j3,J,U⟩
      ·rw[Nat.one_shiftLeft,Nat.testBit_two_pow]at hq;exact⟨e,zby,hb,r,Nv,yD,Ea,.inl (zbI hq).symm⟩
      ·exact⟨e,zby,hb,r,Nv,yD,Ea,.inr hq⟩
    ·cases h
   ·cases h
  ·rw[zaa hb]at h;obtain⟨i1,i2⟩:=IE es m h;refine⟨fun bL j3 cK=> ?_,fun q hq=> ?_⟩
   ·rcases zak.1 j3 with rfl|j3
    ·exact absurd cK hb
    ·exact i1 bL j3 cK
   ·obtain⟨bL,j3,J,U⟩:=i2 q hq;exact⟨bL,zaI _ j3,J,U⟩
def SH(d:am Tmp)(t:Tmp):Bool:=match d with|some u=>Nat.beq u t|none=>false
def uo(ts:ac Tmp)(t:Tmp):Bool:=ts.any (Nat.beq t)
def Hs{ts:ac Tmp}{t:Tmp}:uo ts t=true↔t∈ts:=by
 unfold uo;rw[zdp];constructor
 ·rintro⟨u,hu,h⟩;rw[eT h];exact hu
 ·intro h;exact⟨t,h,zaz t⟩
def Fh(X:Ctx)(aJ:Nat)(ops:ap Oper)(L:ac (bz×cw))(rows:ac vD)(r:vD):Bool:=
 (match ops[r.2.2.1]? with
  |some o=>mU X aJ ops r.2.1.1 o&&(match yZ rows r.1 o.after.toList with|some m=>Nat.beq m r.2.2.2|none=>false)
  |none=>false)&&
 (match r.2.1.2 with
  |.dX=>Nat.beq r.2.2.2 (2^r.1-1)
  |.hX _=>r.2.1.1.o.uL
  |.read n _=>r.2.1.1.o.s3&&Nat.ble ((List.range r.1).countP (fun q=>uf L q&& !r.2.2.2.testBit q)) n)
def BJ(ec:ac Tmp)(r s:vD):Bool:=
 (!Nat.beq r.2.2.1 s.2.2.1||Nat.beq r.1 s.1)&&
 (match s.2.1.1.d with
  |none=>true
  |some t=>
   (!SH r.2.1.1.d t||Nat.beq r.1 s.1)&&
   (!Nat.ble (Nat.succ r.1) s.1||uo ec t|| !(r.2.1.2.yN||uo r.2.1.2.looks t)||s.2.2.2.testBit r.1)&&
   (!Nat.ble (Nat.succ s.1) r.1|| !uo r.2.1.2.looks t||r.2.2.2.testBit s.1))
def GP(X:Ctx)(aJ:Nat)(ops:ap Oper)(L:ac (bz×cw))(cj:ac Nat)(ec:ac Tmp)(ms:ac Nat):Bool:=
 (fun rows=>Nat.beq L.length ops.size&&Nat.beq cj.length ops.size&&Nat.beq ms.length ops.size&&(List.range ops.size).all (fun i=>uo cj i)&&rows.all (Fh X aJ ops L rows)&&rows.all (fun r=>rows.all (BJ ec r))) (rf 0 L cj ms)
def ag8{aJ:Nat}{ops:ap Oper}{L:ac (bz×cw)}{cj:ac Nat}{ec:ac Tmp}{ms:ac Nat}(h:GP X aJ ops L cj ec ms=true):mm X aJ ops L cj ec ms:=by
 unfold GP at h;simp only[bW]at h;obtain⟨⟨⟨⟨⟨J,U⟩,ag⟩,az⟩,a4⟩,cl⟩:=h;have aC:=eT J;have e2:=eT U;have b3:=eT ag;rw[zaP]at az a4 cl;have kF:∀(p:Nat) a i,L[p]? =some a->cj[p]? =some i->(p,a,i,ms.getD p 0)∈rf 0 L cj ms:=by
  intro p a i ha af;have hp:=(zaf.1 ha).1;have hm:ms[p]? =some (ms.getD p 0):=by
   have:p<ms.length:=by omega
   simp[this]
  have:=aby L cj ms 0 p ha af hm
  rwa [zaC]at this
 have lg:∀p:Nat,p<L.length->∃i,cj[p]? =some i:=fun p hp=>⟨_,bm (by omega)⟩;have h2:∀p i:Nat,cj[p]? =some i->∃a,L[p]? =some a:=fun p i af=>⟨_,bm (by have:=(zaf.1 af).1;omega)⟩;have bN:∀(p:Nat) a i,L[p]? =some a->cj[p]? =some i->Fh X aJ ops L (rf 0 L cj ms) (p,a,i,ms.getD p 0)=true:=fun p a i ha af=>a4 _ (kF p a i ha af);have HT:∀(p:Nat) a i (q:Nat) b j,L[p]? =some a->cj[p]? =some i->L[q]? =some b->cj[q]? =some j->BJ ec (p,a,i,ms.getD p 0) (q,b,j,ms.getD q 0)=true:=by
  intro p a i q b j ha af hb hj;have:=cl _ (kF p a i ha af);rw[zaP]at this;exact this _ (kF q b j hb hj)
 have Xp:∀(p i:Nat) a o,L[p]? =some a->cj[p]? =some i->ops[i]? =some o->mU X aJ ops a.1 o=true∧∃m,yZ (rf 0 L cj ms) p o.after.toList=some m∧m=ms.getD p 0:=by
  intro p i a o ha af al;have:=bN p a i ha af;unfold Fh at this;simp only[al,bW]at this;refine⟨this.1.1,?_⟩;have dn:=this.1.2;split at dn
  ·rename_i m hm;exact⟨m,hm,eT dn⟩
  ·cases dn
 have uq:∀{r:vD} {p:Nat},r∈rf 0 L cj ms->∃q:Nat,r.1=q∧cj[q]? =some r.2.2.1∧ms.getD q 0=r.2.2.2:=by
  intro r p aE;obtain⟨q,g1,aM,bc,cf⟩:=abx L cj ms 0 aE;exact⟨q,by omega,bc,by simp[List.getD,cf]⟩
 have Hu:∀(p i:Nat) a,L[p]? =some a->cj[p]? =some i->(match a.2 with|.dX=>Nat.beq (ms.getD p 0) (2^p-1)|.hX _=>a.1.o.uL|.read n _=>a.1.o.s3&&Nat.ble ((List.range p).countP (fun q=>uf L q&& !(ms.getD p 0).testBit q)) n)=true:=by
  intro p i a ha af;have:=bN p a i ha af;unfold Fh at this;rw[bW]at this;exact this.2
 refine⟨aC,e2,fun p i x c af aa=> ?_,fun p x ts aa=> ?_,fun p x n ts aa=> ?_,fun p q i hp hq=> ?_,fun i af=> ?_,fun p i o af al e he hb=> ?_,fun p i o q af al hq=> ?_,fun p x q aa hq=> ?_,fun p x n ts aa=> ?_,fun p q x y c d t aa aL El jy=> ?_,fun p q x y c d t aa aL Np jy H0 hl=> ?_,fun p q x y c d t aa aL yB jy hl=> ?_⟩
 ·have:=bN p (x,c) i aa af;unfold Fh at this;rw[bW]at this;have dn:=this.1;split at dn
  ·rename_i o al;rw[bW]at dn;exact⟨o,al,dn.1⟩
  ·cases dn
 ·obtain⟨i,af⟩:=lg p (zaf.1 aa).1;exact Hu p i _ aa af
 ·obtain⟨i,af⟩:=lg p (zaf.1 aa).1;have:=Hu p i _ aa af;simp only[bW]at this;exact this.1
 ·obtain⟨a,ha⟩:=h2 p i hp;obtain⟨b,hb⟩:=h2 q i hq;have:=HT p a i q b i ha hp hb hq;unfold BJ at this;simp only[bW,zcq]at this;rcases this.1 with h|h
  ·simp at h
  ·exact eT h
 ·have:=az i (zcO.2 af);have hm:=Hs.1 this;obtain⟨p,hp,he⟩:=List.mem_iff_getElem.1 hm;exact⟨p,by rw[bm hp,he]⟩
 ·obtain⟨a,ha⟩:=h2 p i af;obtain⟨_,m,hm,_⟩:=Xp p i a o ha af al;obtain⟨r,aE,dn,g6⟩:=(IE _ _ hm).1 e (by simpa using he) hb;obtain⟨q,g1,aM,_⟩:=uq (p:=0) aE;exact⟨q,by omega,by rw[aM,dn]⟩
 ·obtain⟨a,ha⟩:=h2 p i af;obtain⟨_,m,hm,rfl⟩:=Xp p i a o ha af al;obtain⟨e,he,hb,r,aE,dn,g6,iZ⟩:=(IE _ _ hm).2 q hq;obtain⟨gn,g1,aM,bc⟩:=uq (p:=0) aE;exact⟨e,by simpa using he,hb,gn,by omega,by rw[aM,dn],by rw[bc,<-g1];exact iZ⟩
 ·obtain⟨i,af⟩:=lg p (zaf.1 aa).1;have:=eT (Hu p i _ aa af);rw[this,Nat.testBit_two_pow_sub_one];simpa using hq
 ·obtain⟨i,af⟩:=lg p (zaf.1 aa).1;have:=Hu p i _ aa af;simp only[bW]at this;exact mn.1 this.2
 ·obtain⟨i,af⟩:=lg p (zaf.1 aa).1;obtain⟨j,hj⟩:=lg q (zaf.1 aL).1;have:=HT p _ i q _ j aa af aL hj;unfold BJ at this;simp only[jy,bW]at this;have dn:=this.2.1.1;simp[SH,El]at dn;exact dn
 ·obtain⟨i,af⟩:=lg p (zaf.1 aa).1;obtain⟨j,hj⟩:=lg q (zaf.1 aL).1;have:=HT p _ i q _ j aa af aL hj;unfold BJ at this;simp only[jy,bW]at this;have dn:=this.2.1.2;have g1:Nat.ble (Nat.succ p) q=true:=mn.2 Np;have aM:uo ec t=false:=by rw[zbC];intro h;exact H0 (Hs.1 h)
  have bc:(c.yN||uo c.looks t)=true:=by
   rcases hl with rfl|hl
   ·rfl
   ·rw[zcq];exact .inr (Hs.2 hl)
  rw[g1,aM,bc]at dn;simpa using dn
 ·obtain⟨i,af⟩:=lg p (zaf.1 aa).1;obtain⟨j,hj⟩:=lg q (zaf.1 aL).1;have:=HT p _ i q _ j aa af aL hj;unfold BJ at this;simp only[jy,bW]at this;have dn:=this.2.2;have g1:Nat.ble (Nat.succ q) p=true:=mn.2 yB;have aM:uo c.looks t=true:=Hs.2 hl;rw[g1,aM]at dn;simpa using dn
end Go.ar
namespace Go.ar
variable{X:Ctx}{call:bG}
def xo(X:Ctx)(aJ:Nat)(ops:ap Oper):ac bz->ac Oper->Bool
 |[],[]=>true
 |x::xs,o::os=>mU X aJ ops x o&&xo X aJ ops xs os
 |_,_=>false
theorem PK{aJ:Nat}{ops:ap Oper}:∀{xs:ac bz} {os:ac Oper},xo X aJ ops xs os=true->xs.length=os.length∧∀(j:Nat) x o,xs[j]? =some x->os[j]? =some o->mU X aJ ops x o=true
 |[],[],_=>⟨rfl,fun j x o h=>by simp at h⟩
 |x::xs,o::os,h=>by
  simp only[xo,bW]at h;obtain⟨J,U⟩:=PK h.2;refine⟨by simp[J],fun j eM bh aa al=> ?_⟩;cases j with
  |zero=>simp at aa al;subst aa al;exact h.1
  |succ j=>exact U j eM bh (by simpa using aa) (by simpa using al)
 |[],_::_,h=>by simp[xo]at h
 |_::_,[],h=>by simp[xo]at h
def y2:ac Nat->ac Nat->Bool
 |[],[]=>true
 |a::as,b::bT=>Nat.beq a b&&y2 as bT
 |_,_=>false
theorem Y1:∀{as bT:ac Nat},y2 as bT=true->as=bT
 |[],[],_=>rfl
 |a::as,b::bT,h=>by
  simp only[y2,bW]at h;rw[eT h.1,Y1 h.2]
 |[],_::_,h=>by simp[y2]at h
 |_::_,[],h=>by simp[y2]at h
def codeOk(X:Ctx)(aJ:Nat):dm->Code->Bool
 |.skip,.skip=>true
 |.skip,.label _=>true
 |.hR xs,.region _ ops false=>xo X aJ ops xs ops.toList
 |.rH L cj ec ms,.region _ ops true=>GP X aJ ops L cj ec ms
 |.seq a b,.seq c d=>codeOk X aJ a c&&codeOk X aJ b d
 |.cond x a b,.cond y c d=>b2 X.aF x y&&codeOk X aJ a c&&codeOk X aJ b d
 |.block i a,.block j c=>Nat.beq i j&&codeOk X aJ a c
 |.loop a,.loop c=>codeOk X aJ a c
 |.B5 f ps dB body,.rangeFunc g dt qq qv=>b2 X.aF f g&&y2 ps dt.toList&&ps.all (fun t=>Nat.ble (Nat.succ t) aJ)&&codeOk X aJ dB qq&&codeOk X aJ body qv
 |.exit i,.exit j=>Nat.beq i j
 |.scope a,.scope c=>codeOk X aJ a c
 |.ret,.ret=>true
 |.refuse,_=>true
 |_,_=>false
def Good(X:Ctx):Prop:=X.P.follows .mixedOrders=true∧∀fn c lS,X.ok fn c lS↔∃F,X.P.funcs[fn]? =some F∧codeOk X F.ntmps lS c=true
section
variable{b:dF}{aJ:Nat}{bb:Bool->ac Frame}
def zO(X:Ctx)(call:bG)(b:dF)(aJ:Nat)(bb:Bool->ac Frame):Prop:=
 ∀(f:bi) (ps:ap Tmp) (dB body:dm) (qq qv:Code) (ι:bs) (fr:aP) (a:Act) (st:ay) (w:co) (k:ac Item),cI X.aF f=true->(∀t∈ps.toList,t<aJ)->(∃F,X.P.funcs[b.fn]? =some F∧F.ntmps=aJ)->X.ok b.fn qq dB->X.ok b.fn qv body->
  cy ι fr a aJ->bo X ι st w->oc ι fr.b0 b.b0->jX b fr.a1 ι bb->
  fN X b aJ bb (lone (b.at a (.code (.rangeFunc f ps qq qv)::k)) (bb fr.cB) w) k fr ι w (Dr call b.fn f ps.toList dB body fr st)
theorem fN.lP{s:Machine}{k k':ac Item}{fr:aP}{ι:bs}{w:co}{r:cm}{g:aP->ay->cm}(hex:∀id,exitTo id k=exitTo id k')(h:fN X b aJ bb s k fr ι w r)
 (aR:∀aS a' w' aI st',cy aS aI a' aJ->bo X aS st' w'->e3 ι aS w w'->aI.a1=fr.a1->aI.b0=fr.b0->fN X b aJ bb (lone (b.at a' k) (bb aI.cB) w') k' aI aS w' (g aI st')):fN X b aJ bb s k' fr ι w (lP r g):=by
 cases r with
 |no=>trivial
 |out e aI st'=>
  obtain⟨aS,a',w',J,U,ag,az,a4,cl⟩:=h;cases e with
  |norm=>exact fN.head cl ag az a4 (aR aS a' w' aI st' J U ag az a4)
  |exit id=>
   obtain⟨hU,dn,g6⟩:=cl;exact⟨aS,a',w',J,U,ag,az,a4,hU,dn.trans (hex id),g6⟩
  |ret=>exact⟨aS,a',w',J,U,ag,az,a4,cl⟩
  |a1 v=>exact⟨aS,a',w',J,U,ag,az,a4,cl⟩
def fN.cH{s:Machine}{k:ac Item}{fr:aP}{ι:bs}{w:co}{r:cm}{i:Nat}(J:fN X b aJ bb s (.inBlock i::k) fr ι w r):fN X b aJ bb s k fr ι w (rC i r):=by
 cases r with
 |no=>trivial
 |out e aI st'=>
  obtain⟨aS,a',w',U,ag,az,a4,cl,dn⟩:=J;cases e with
  |norm=>exact⟨aS,a',w',U,ag,az,a4,cl,Steps.trans dn (.one aun)⟩
  |exit id=>
   obtain⟨hU,g6,iZ⟩:=dn;show fN X b aJ bb _ k fr ι w (dQ id i (.out .norm aI st') (.out (.exit id) aI st'));rw[pW];by_cases e:id=i
   ·subst e;rw[zab rfl];have rO:exitTo id hU=some k:=by rw[g6];simp[exitTo]
    exact⟨aS,a',w',U,ag,az,a4,cl,Steps.trans iZ (.one (aum rO))⟩
   ·rw[zaa e];refine⟨aS,a',w',U,ag,az,a4,cl,hU,?_,iZ⟩;rw[g6];have:¬i=id:=fun h=>e h.symm;simp[exitTo,this]
  |ret=>exact⟨aS,a',w',U,ag,az,a4,cl,dn⟩
  |a1 v=>exact⟨aS,a',w',U,ag,az,a4,cl,dn⟩
def Ck(r:cm):lP r (fun fr st=>.out .norm fr st)=r:=by
 cases r with
 |no=>rfl
 |out e fr st=>cases e<;>rfl
def Gy(c5:Good X)(dR:mj X call)(sV:zO X call b aJ bb)(gv:∃F,X.P.funcs[b.fn]? =some F∧F.ntmps=aJ)(b4:Nat):∀(lS:dm) (c:Code) (ι:bs) (fr:aP) (a:Act) (st:ay) (w:co) (k:ac Item),codeOk X aJ lS c=true->
 cy ι fr a aJ->bo X ι st w->oc ι fr.b0 b.b0->jX b fr.a1 ι bb->
 fN X b aJ bb (lone (b.at a (.code c::k)) (bb fr.cB) w) k fr ι w (c1 call b4 b.fn lS fr st):=by
 obtain⟨Fn,aw,o9⟩:=gv;intro lS
 induction lS with
 |skip=>
  intro c ι fr a st w k hc ae hw hb aE;cases c with
  |skip=>exact⟨ι,a,w,ae,hw,.refl _ _,rfl,rfl,.one auA⟩
  |label l=>exact⟨ι,a,w,ae,hw,.refl _ _,rfl,rfl,.one auo⟩
  |_=>cases hc
 |hR xs=>
  intro c ι fr a st w k hc ae hw hb aE;cases c with
  |region id ops draw=>
   cases draw with
   |true=>cases hc
   |false=>
    obtain⟨J,U⟩:=PK (hc:xo X aJ ops xs ops.toList=true);have:=I7 (b:=b) (bb:=bb) (k:=k) (ops:=ops) (aJ:=aJ) dR xs (List.range ops.size) ι fr a st w (by simpa using J) (fun j x i aa af=>by
     have mH:i=j:=by
      obtain⟨hj,he⟩:=zaf.1 af;simpa using he.symm
     subst mH;have aN:i<ops.size:=by simpa using(zaf.1 af).1
     exact⟨ops[i],zbD aN,U i x _ aa (by simp[aN])⟩) ae hw hb aE
    exact fN.head (.one acr) (.refl _ _) rfl rfl this
  |_=>cases hc
 |rH L cj ec ms=>
  intro c ι fr a st w k hc ae hw hb aE;cases c with
  |region id ops draw=>
   cases draw with
   |false=>cases hc
   |true=>exact ahb c5.1 dR (ag8 (hc:GP X aJ ops L cj ec ms=true)) ae hw hb aE
  |_=>cases hc
 |seq x y NN yM=>
  intro c ι fr a st w k hc ae hw hb aE;cases c with
  |seq c d=>
   have hc:(codeOk X aJ x c&&codeOk X aJ y d)=true:=hc;rw[bW]at hc;have J:=NN c ι fr a st w (.code d::k) hc.1 ae hw hb aE;refine fN.head (.one acx) (.refl _ _) rfl rfl (fN.lP (k:=.code d::k) (k':=k) (fun id=>rfl) J fun aS a' w' aI st' ef er ab hp hn=> ?_);exact yM d aS aI a' st' w' k hc.2 ef er (by rw[hn];exact hb.mono ab.le) (by rw[hp];exact aE.mono ab.le)
  |_=>cases hc
 |cond x y z yM NO=>
  intro c ι fr a st w k hc ae hw hb aE;cases c with
  |cond o c d=>
   have hc:(b2 X.aF x o&&codeOk X aJ y c&&codeOk X aJ z d)=true:=hc;simp only[bW]at hc;obtain⟨rfl,al⟩:=cQ hc.1.1;show fN X b aJ bb _ k fr ι w (mh (fr.ak x) (fun t=>_root_.cond t (c1 call b4 b.fn y fr st) (c1 call b4 b.fn z fr st)) .no);have aD:=ae.ak hw al;generalize lD:a.eval x=vR at aD;generalize fr.ak x=v at aD;cases v with
   |bool t=>
    cases aD;cases t with
    |true=>exact fN.head (.one (Kh lD)) (.refl _ _) rfl rfl (yM c ι fr a st w k hc.1.2 ae hw hb aE)
    |false=>exact fN.head (.one (Kh lD)) (.refl _ _) rfl rfl (NO d ι fr a st w k hc.2 ae hw hb aE)
   |_=>trivial
  |_=>cases hc
 |block i x a7=>
  intro c ι fr a st w k hc ae hw hb aE;cases c with
  |block j c=>
   have hc:(Nat.beq i j&&codeOk X aJ x c)=true:=hc;rw[bW]at hc;have e:=eT hc.1;subst e;have J:=a7 c ι fr a st w (.inBlock i::k) hc.2 ae hw hb aE;refine fN.head (.one acj) (.refl _ _) rfl rfl ?_;exact J.cH
  |_=>cases hc
 |loop x a7=>
  intro c ι fr a st w k hc ae hw hb aE;cases c with
  |loop c=>
   have hc:codeOk X aJ x c=true:=hc;have key:∀(n:Nat) (ι:bs) (fr:aP) (a:Act) (st:ay) (w:co),cy ι fr a aJ->bo X ι st w->oc ι fr.b0 b.b0->jX b fr.a1 ι bb->
    fN X b aJ bb (lone (b.at a (.code c:: .inLoop c::k)) (bb fr.cB) w) k fr ι w (Nat.rec (motive:=fun _=>aP->ay->cm) (fun _ _=>.no) (fun _ NL fr st=>Go.ar.lP (c1 call b4 b.fn x fr st) NL) n fr st):=by
    intro n
    induction n with
    |zero=>intros;trivial
    |succ n NM=>
     intro ι fr a st w ae hw hb aE;refine fN.lP (k:=.inLoop c::k) (fun id=>rfl) (a7 c ι fr a st w (.inLoop c::k) hc ae hw hb aE) fun aS a' w' aI st' ef er ab hp hn=> ?_;exact fN.head (.one acm) (.refl _ _) rfl rfl (NM aS aI a' st' w' ef er (by rw[hn];exact hb.mono ab.le) (by rw[hp];exact aE.mono ab.le))
   exact fN.head (.one aco) (.refl _ _) rfl rfl (key b4 ι fr a st w ae hw hb aE)
  |_=>cases hc
 |B5 f ps dB body _ _=>
  intro c ι fr a st w k hc ae hw hb aE;cases c with
  |rangeFunc g dt qq qv=>
   have hc:(b2 X.aF f g&&y2 ps dt.toList&&ps.all (fun t=>Nat.ble (Nat.succ t) aJ)&&codeOk X aJ dB qq&&codeOk X aJ body qv)=true:=hc;simp only[bW]at hc;obtain⟨⟨⟨⟨J,U⟩,a4⟩,ag⟩,az⟩:=hc;rw[zaP]at a4;obtain⟨rfl,al⟩:=cQ J;have e:=Y1 U;subst e;exact sV f dt dB body qq qv ι fr a st w k al (fun t aW=>mn.1 (a4 t aW)) ⟨Fn,aw,o9⟩ ((c5.2 _ _ _).2 ⟨Fn,aw,by rw[o9];exact ag⟩) ((c5.2 _ _ _).2 ⟨Fn,aw,by rw[o9];exact az⟩) ae hw hb aE
  |_=>cases hc
 |exit i=>
  intro c ι fr a st w k hc ae hw hb aE;cases c with
  |exit j=>
   have e:=eT (hc:Nat.beq i j=true);subst e;exact⟨ι,a,w,ae,hw,.refl _ _,rfl,rfl,k,rfl,.refl _ _⟩
  |_=>cases hc
 |scope x a7=>
  intro c ι fr a st w k hc ae hw hb aE;cases c with
  |scope c=>
   have J:=a7 c ι fr a st w (.inScope c::k) hc ae hw hb aE;refine fN.head (.one acw) (.refl _ _) rfl rfl ?_;show fN X b aJ bb _ k fr ι w (c1 call b4 b.fn x fr st);rw[<-Ck (c1 call b4 b.fn x fr st)];exact fN.lP (k:=.inScope c::k) (fun id=>rfl) J fun aS a' w' aI st' ef er _ _ _=>⟨aS,a',w',ef,er,.refl _ _,rfl,rfl,.one acn⟩
  |_=>cases hc
 |ret=>
  intro c ι fr a st w k hc ae hw hb aE;cases c with
  |ret=>exact⟨ι,a,w,ae,hw,.refl _ _,rfl,rfl,k,.refl _ _⟩
  |_=>cases hc
 |refuse=>intros;trivial
end
def abo(X:Ctx):h6->ResultVar->Bool
 |.tmp t,.tmp u=>Nat.beq t u
 |.cell a g n,.cell b t=>Nat.beq a b&&(match qo X.P t,g0 X.P t with
  |some hk,some s=>(g==hk)&&(!g||Nat.beq n s)&&(g||Nat.beq n 1)
  |_,_=>false)
 |_,_=>false
def vm(X:Ctx):ac h6->ac ResultVar->Bool
 |[],[]=>true
 |x::xs,r::rs=>abo X x r&&vm X xs rs
 |_,_=>false
def B1(tmps:ap be):ResultVar->Sem be
 |.tmp t=>pure (tmps.getD t undef)
 |.cell a t=>do loadVar t (<-asAddr (tmps.getD a undef))
section
variable{ι:bs}{fr:aP}{a:Act}{aJ:Nat}{st:ay}{w:co}
variable{out:ac be}
def Yw{α:Type}{a:Addr}{n:Nat}{k:ac be->α}{z r:α}(h:st.load a n k z=r)(an:z≠r):∃vs,k vs=r∧∀{FL:Type} (k':ac be->FL) (zI:FL),st.load a n k' zI=k' vs:=by
 obtain⟨J,cs,el,bg,a8,U,ag,az⟩:=Bh h an;refine⟨_,az,fun k' zI=> ?_⟩;unfold ay.load ay.gC;rw[J,U];show jt cs a.off n k' zI=_;unfold jt;rw[Ah,Fy,zab ag];rfl
def apn{t:ce}{x:bi}{ad:Addr}{v:be}(aa:a.eval x= .pointer (some ad))(h:(execOp a.eval {(default:Oper)with op:=.load t x}).run X.P w= .ok (.value v) w):(loadVar t ad).run X.P w= .ok v w:=by
 unfold execOp at h;simp only[aa,Instr.loadAt,Instr.sureAddr,Sem.run_bind,Sem.run_pure,Result.andThen]at h;generalize(loadVar t ad).run X.P w=r at h;cases r with
 |ok y w'=>simp only[Result.ok.injEq,Next.value.injEq]at h;obtain⟨rfl,rfl⟩:=h;rfl
 |halt e w'=>cases h
def asi{x:h6}{r:ResultVar}(bN:abo X x r=true)(ae:cy ι fr a aJ)(hw:bo X ι st w){vs:ac be}
 (h:h6.rec (motive:=fun _=>am (ac be)) (fun t=>some (fr.tmp t::vs))
  (fun a agg n=>ik (fr.tmp a) (fun p=>bk p (fun ad=>st.load ad n (fun cs=>cond agg (some (.agg ⟨cs⟩::vs)) (one cs (fun v=>some (v::vs)) none)) none) none) none) x=some out):
 ∃v v',out=v::vs∧bp ι v v'∧(B1 a.tmps r).run X.P w= .ok v' w:=by
 cases x with
 |tmp t=>
  cases r with
  |tmp u=>
   have e:=eT (bN:Nat.beq t u=true);subst e;have aG:some (fr.tmp t::vs)=some out:=h;cases aG;exact⟨_,_,rfl,ae.tmp t,rfl⟩
  |cell b t=>cases bN
 |cell b g n=>
  cases r with
  |tmp u=>cases bN
  |cell eW t=>
   have bN:(Nat.beq b eW&&(match qo X.P t,g0 X.P t with
    |some hk,some s=>(g==hk)&&(!g||Nat.beq n s)&&(g||Nat.beq n 1)
    |_,_=>false))=true:=bN
   rw[bW]at bN;have e:=eT bN.1;subst e;have U:=bN.2;split at U
   ·rename_i hk s aR ah;simp only[bW]at U;obtain⟨⟨ag,az⟩,a4⟩:=U;have HC:g=hk:=by simpa using ag
    subst HC;obtain⟨d,aA,p4⟩:=CJ aR;obtain⟨i,af,rfl⟩:=nz ah;have aG:ik (fr.tmp b) (fun p=>bk p (fun ad=>st.load ad n (fun cs=>cond g (some (.agg ⟨cs⟩::vs)) (one cs (fun v=>some (v::vs)) none)) none) none) none=some out:=h;obtain⟨p,hp,cl⟩:=pB aG (by simp);obtain⟨ad,rfl,dn⟩:=gh cl (by simp);have hM:fr.ak (.tmp b)= .pointer (some ad):=hp;have mN:=ae.tmp b;rw[hp]at mN;have al9:a.eval (.tmp b)=a.tmps.getD b undef:=rfl;generalize lD:a.tmps.getD b undef=vR at mN;have fin:∀v v' l',a.tmps.getD b undef= .pointer (some l')->out=v::vs->bp ι v v'->(execOp a.eval {(default:Oper)with op:=.load t (.tmp b)}).run X.P w= .ok (.value v') w->∃v v',out=v::vs∧bp ι v v'∧(B1 a.tmps (.cell b t)).run X.P w= .ok v' w:=by
     intro v v' l' cx al aD gg;refine⟨v,v',al,aD,?_⟩;have hh:(loadVar t l').run X.P w= .ok v' w:=apn (a:=a) (x:=.tmp b) (by rw[al9,cx]) gg;simp only[B1,cx,asAddr,Sem.run_bind,Sem.run_pure,Result.andThen];exact hh
    cases g with
    |true=>
     have hn:n=i.size:=by simpa using az
     subst hn;obtain⟨cs,g6,iZ⟩:=Yw dn (by simp);have alN:some (.agg ⟨cs⟩::vs)=some out:=g6;cases alN;have dM:I3 i.size (.tmp b) (fun _ _ _ _=>.no) fr st= .ok (.agg ⟨cs⟩) fr st:=by
      unfold I3;rw[hM];exact iZ (fun vs=>aV.ok (.agg ⟨vs⟩) fr st) .no
     obtain⟨_,_,_,v',gg,aD⟩:=abY (o:={(default:Oper)with op:=.load t (.tmp b)}) rfl rfl aA p4 af ae hw dM;cases mN with
     |ptr _ l hl eB=>exact fin _ v' _ lD rfl aD gg
    |false=>
     have hn:n=1:=by simpa using a4
     subst hn;obtain⟨cs,g6,iZ⟩:=Yw dn (by simp);obtain⟨v,rfl,rO⟩:=BE (g6:one cs (fun v=>some (v::vs)) none=some out) (by simp);cases rO;have dM:I2 (.tmp b) (fun _ _ _ _=>.no) fr st= .ok v fr st:=by
      unfold I2;rw[hM];exact iZ (fun vs=>one vs (fun v=>aV.ok v fr st) .no) .no
     obtain⟨_,_,_,v',gg,aD⟩:=abX (o:={(default:Oper)with op:=.load t (.tmp b)}) rfl rfl aA p4 ae hw dM;cases mN with
     |ptr _ l hl eB=>exact fin _ v' _ lD rfl aD gg
   ·cases U
theorem abp(ae:cy ι fr a aJ)(hw:bo X ι st w):∀(xs:ac h6) (rs:ac ResultVar) (out:ac be),vm X xs rs=true->o4 fr st xs=some out->
 ∃gA,bJ ι out gA∧(rs.mapM (B1 a.tmps)).run X.P w= .ok gA w
 |[],[],out,_,h=>by
  have aG:some []=some out:=h;cases aG;exact⟨[],bJ.nil ι,rfl⟩
 |x::xs,r::rs,out,bN,h=>by
  simp only[vm,bW]at bN;have aG:bk (o4 fr st xs) (fun vs=>h6.rec (motive:=fun _=>am (ac be)) (fun t=>some (fr.tmp t::vs))
   (fun a agg n=>ik (fr.tmp a) (fun p=>bk p (fun ad=>st.load ad n (fun cs=>cond agg (some (.agg ⟨cs⟩::vs)) (one cs (fun v=>some (v::vs)) none)) none) none) none) x) none=some out:=h
  obtain⟨vs,XH,J⟩:=gh aG (by simp);obtain⟨v,v',rfl,aD,gg⟩:=asi bN.1 ae hw J;obtain⟨gA,anU,Eb⟩:=abp ae hw xs rs vs bN.2 XH;refine⟨v'::gA,bJ.cons aD anU,?_⟩;rw[zdk];simp only[Sem.run_bind,gg,Result.andThen,Eb,Sem.run_pure]
 |[],_::_,_,bN,_=>by simp[vm]at bN
 |_::_,[],_,bN,_=>by simp[vm]at bN
def asl{F:Func}{xs:ac h6}(bN:vm X xs F.results.toList=true)(ae:cy ι fr a aJ)(hw:bo X ι st w)(h:o4 fr st xs=some out):
 ∃v',bp ι (one out (fun v=>v) (.tuple ⟨out⟩)) v'∧(results F a.tmps).run X.P w= .ok v' w:=by
 obtain⟨gA,aD,gg⟩:=abp ae hw xs F.results.toList out bN h;have aE:(results F a.tmps)=(do let vs<-F.results.mapM (B1 a.tmps);pure (if h:vs.size=1 then vs[0]else .tuple vs)):=by
  unfold results;congr 2
 rw[aE];have hm:(F.results.mapM (B1 a.tmps)).run X.P w= .ok gA.toArray w:=by
  rw[zev];rw[Sem.run_map,gg];rfl
 simp only[Sem.run_bind,hm,Result.andThen,Sem.run_pure];refine⟨_,?_,rfl⟩;cases out with
 |nil=>rw[aD.w0];exact bp.n0 (bJ.nil ι)
 |cons v vs=>
  obtain⟨y,av,rfl,J,U⟩:=aD.cons_inv;cases vs with
  |nil=>rw[U.w0];exact J
  |cons v2 avp=>
   obtain⟨adz,axu,rfl,ag,az⟩:=U.cons_inv;rw[dif_neg (by simp)];exact bp.n0 (xs:=⟨v::v2::avp⟩) (bJ.cons J (bJ.cons ag az))
end
def h5(X:Ctx)(ι:bs)(w:co)(b:dF)(bb:Bool->ac Frame)(s:Machine):dh->Prop
 |.ret v st' eK=>∃aS v' w' F,bp aS v v'∧bo X aS st' w'∧e3 ι aS w w'∧F.kind=b.kind∧F.fn=b.fn∧Frame.going X.P F w' (.returned v')∧Steps X.P s (lone F (bb eK) w')
 |.a1 v st' eK=>∃aS v' w' F,bp aS v v'∧bo X aS st' w'∧e3 ι aS w w'∧F.kind=b.kind∧F.fn=b.fn∧Frame.going X.P F w' (.panicked [{v:=v',recovered:=false}])∧Steps X.P s (lone F (bb eK) w')
 |.no=>True
def h5.head{ι aS:bs}{w w':co}{b:dF}{bb:Bool->ac Frame}{s bq:Machine}{r:dh}(h:Steps X.P s bq)(ab:e3 ι aS w w')(aG:h5 X aS w' b bb bq r):h5 X ι w b bb s r:=by
 cases r with
 |no=>trivial
 |ret v st eK=>obtain⟨dA,v',ke,F,J,U,ag,az,a4,cl,dn⟩:=aG;exact⟨dA,v',ke,F,J,U,ab.trans ag,az,a4,cl,h.trans dn⟩
 |a1 v st eK=>obtain⟨dA,v',ke,F,J,U,ag,az,a4,cl,dn⟩:=aG;exact⟨dA,v',ke,F,J,U,ab.trans ag,az,a4,cl,h.trans dn⟩
def vG(X:Ctx)(call:bG):Prop:=
 ∀(ι:bs) (f:ci) (first fU:ap be) (args:ac be) (a1:am be) (st:ay) (wm pN:ap be) (kz:ac be) (w:co),
  bJ ι first.toList wm.toList->bJ ι args kz->bJ ι fU.toList pN.toList->bo X ι st w->call (.func (.func f) first fU) args a1 st≠.no->
  (∀as w,(callFunc f as).run X.P w= .ok (.enter f as) w)∧
  ∀(K:CallKind) (bb:Bool->ac Frame),jX ⟨f,K,none⟩ a1 ι bb->h5 X ι w ⟨f,K,none⟩ bb (lone (Frame.enter X.P f (wm++kz.toArray++pN) K) (bb false) w) (call (.func (.func f) first fU) args a1 st)
variable{ι:bs}{m:am be}{md:FrameMode}
def oW(aS:bs):am be->FrameMode->Prop
 |none,m=>m= .returning
 |some v,m=>∃v',bp aS v v'∧m= .panicking [{v:=v',recovered:=false}]
def oW.mono{aS:bs}(hle:ι.le aS)(h:oW ι m md):oW aS m md:=by
 cases m with
 |none=>exact h
 |some v=>obtain⟨v',J,U⟩:=h;exact⟨v',J.mono hle,U⟩
def oW.Zd(h:oW ι m md):md≠.run:=by
 cases m with
 |none=>rw[show md= .returning from h];simp
 |some v=>obtain⟨v',_,U⟩:=h;rw[U];simp
theorem Co(gv:vG X call):∀(ds:ac Deferred) (m:am be) (st:ay) (r:am be×ay),jD call ds m st=some r->∀(ι:bs) (w:co) (F:Frame) (cs:ac Frame),tK ι ds F.defers->oW ι m F.mode->bo X ι st w->
 ∃aS w' md,Steps X.P (lone F cs w) (lone {F with defers:=[],mode:=md} cs w')∧oW aS r.1 md∧bo X aS r.2 w'∧e3 ι aS w w'
 |[],m,st,r,h,ι,w,F,cs,aA,hm,hw=>by
  have aG:some (m,st)=some r:=h;cases aG;have aw:F.defers=[]:=by
   cases mE:F.defers with
   |nil=>rfl
   |cons d ds=>rw[mE]at aA;exact aA.elim
  refine⟨ι,w,F.mode,?_,hm,hw,.refl _ _⟩;have:({F with defers:=[],mode:=F.mode}:Frame)=F:=by cases F;simp only at aw;subst aw;rfl
  rw[this];exact .refl _ _
 |⟨t,args⟩::ds,m,st,r,h,ι,w,F,cs,aA,hm,hw=>by
  cases mE:F.defers with
  |nil=>rw[mE]at aA;exact aA.elim
  |cons e es=>
   rw[mE]at aA;obtain⟨⟨amb,wM⟩,iN⟩:=aA;cases t with
   |collected abz=>
    cases het:e.target with
    |collected qs=>
     rw[het]at wM;simp only[jD]at h;split at h
     ·rename_i kl;rw[ks]at h;obtain⟨l,hl,_,_,Xq⟩:=hw.ez _ _ kl (by simp);have aC:=wM.symm.trans hl;cases aC;rcases Xq with⟨_,MU⟩|⟨hc,_⟩
      ·have aN:qs<w.heap.size:=hw.g5 _ _ hl;have anM:(Instr.takeDeferred qs).run X.P w= .ok [] (w.putObj qs (.deferred none)):=run_takeDeferred MU;have oz:=step_collected (P:=X.P) (cs:=cs) hm.Zd mE het anM;obtain⟨er,fF⟩:=hw.tB X kl (by simp) (fun ae=>ae) hl (.jI none) (.deferred none) (w.putObj qs (.deferred none)) rfl (fun _ aW=>⟨rfl,rfl,.inr ⟨rfl,aW⟩⟩);obtain⟨aS,w',md,ah,g1,aM,bc⟩:=Co gv ds m _ r h ι _ {F with defers:=[]++es} cs (by simpa using iN) hm er;exact⟨aS,w',md,.head oz ah,g1,aM,fF.trans bc⟩
      ·cases hc
     ·cases h
    |_=>rw[het]at wM;exact wM.elim
   |fn fv fU=>
    cases het:e.target with
    |fn alD pN=>
     rw[het]at wM;obtain⟨AN,MJ⟩:=wM;cases fv with
     |func g=>
      rcases AN with⟨rfl,_⟩|⟨l,b,J,_⟩
      ·have cd:call (.func (.func g) #[] fU) args.toList m st≠.no:=by
        intro gI;simp only[jD,gI]at h;cases h
       obtain⟨MI,mF⟩:=gv ι g #[] fU args.toList m st #[] pN e.args.toList w (bJ.nil ι) amb MJ hw cd;have hinv:(invoke e.target e.args).run X.P w= .ok (.enter g (e.args++pN)) w:=by
        rw[het];exact MI _ _
       have oz:=step_defer (cs:=cs) hm.Zd mE het hinv;have amc:(#[]++e.args.toList.toArray++pN:ap be)=e.args++pN:=by simp
       rw[amc]at mF;cases m with
       |none=>
        have DZ:F.mode= .returning:=hm;have wB:=mF .deferred (fun _=>{F with defers:=es}::cs) (fun G eK c5=>by
         show tryRecover G ({F with defers:=es}::cs)=none;have DD:G.kind= .deferred:=c5;rw[tryRecover_deferred DD];simp[recoverD,DZ])
        cases hc:call (.func (.func g) #[] fU) args.toList none st with
        |no=>exact absurd hc cd
        |ret v cu eK=>
         rw[hc]at wB;have aG:jD call ds none cu=some r:=by
          simp only[jD,hc]at h;exact h
         obtain⟨aS,v',w',G,_,er,ab,HG,_,uy,ah⟩:=wB;have qT:=step_going_returned (P:=X.P) (c:={F with defers:=es}) (cs:=cs) HG uy;have r0:settle ({F with defers:=es}:Frame).mode= .returning:=by
          show settle F.mode=_;rw[DZ];rfl
         rw[r0]at qT;obtain⟨k2,ke,md,eB,g1,aM,bc⟩:=Co gv ds none cu r aG aS w' {{F with defers:=es}with mode:=.returning} cs (iN.mono ab.le) (show oW aS none .returning from rfl) er;exact⟨k2,ke,md,(Steps.head oz ah).trans (.head qT eB),g1,aM,ab.trans bc⟩
        |a1 v cu eK=>
         rw[hc]at wB;have aG:jD call ds (some v) cu=some r:=by
          simp only[jD,hc]at h;exact h
         obtain⟨aS,v',w',G,aD,er,ab,HG,_,uy,ah⟩:=wB;have qT:=step_going_panicked (P:=X.P) (c:={F with defers:=es}) (cs:=cs) uy;have r0:raised ({F with defers:=es}:Frame).mode [{v:=v',recovered:=false}]= .panicking [{v:=v',recovered:=false}]:=by
          show raised F.mode _=_;rw[DZ];rfl
         rw[r0]at qT;obtain⟨k2,ke,md,eB,g1,aM,bc⟩:=Co gv ds (some v) cu r aG aS w' {{F with defers:=es}with mode:=.panicking [{v:=v',recovered:=false}]} cs (iN.mono ab.le) ⟨v',aD,rfl⟩ er;exact⟨k2,ke,md,(Steps.head oz ah).trans (.head qT eB),g1,aM,ab.trans bc⟩
       |some tp=>
        obtain⟨oK,AZ,DZ⟩:=hm;have wB:=mF .deferred (fun eK=>{F with defers:=es,mode:=.panicking [{v:=oK,recovered:=eK}]}::cs) ⟨oK,AZ,fun G c5=>by
         have DD:G.kind= .deferred:=c5;rw[tryRecover_deferred DD];simp[recoverD],fun G c5=>by
         have DD:G.kind= .deferred:=c5;rw[tryRecover_deferred DD];simp[recoverD]⟩
        have p2:({F with defers:=es,mode:=.panicking [{v:=oK,recovered:=false}]}:Frame)={F with defers:=es}:=by rw[<-DZ]
        rw[p2]at wB;cases hc:call (.func (.func g) #[] fU) args.toList (some tp) st with
        |no=>exact absurd hc cd
        |ret v cu eK=>
         rw[hc]at wB;obtain⟨aS,v',w',G,_,er,ab,HG,_,uy,ah⟩:=wB;have qT:=step_going_returned (P:=X.P) (c:={F with defers:=es,mode:=.panicking [{v:=oK,recovered:=eK}]}) (cs:=cs) HG uy;cases eK with
         |true=>
          have aG:jD call ds none cu=some r:=by
           simp only[jD,hc]at h;exact h
          have r0:settle ({F with defers:=es,mode:=.panicking [{v:=oK,recovered:=true}]}:Frame).mode= .returning:=rfl;rw[r0]at qT;obtain⟨k2,ke,md,eB,g1,aM,bc⟩:=Co gv ds none cu r aG aS w' {{F with defers:=es}with mode:=.returning} cs (iN.mono ab.le) (show oW aS none .returning from rfl) er;exact⟨k2,ke,md,(Steps.head oz ah).trans (.head qT eB),g1,aM,ab.trans bc⟩
         |false=>
          have aG:jD call ds (some tp) cu=some r:=by
           simp only[jD,hc]at h;exact h
          have r0:settle ({F with defers:=es,mode:=.panicking [{v:=oK,recovered:=false}]}:Frame).mode= .panicking [{v:=oK,recovered:=false}]:=rfl;rw[r0]at qT;obtain⟨k2,ke,md,eB,g1,aM,bc⟩:=Co gv ds (some tp) cu r aG aS w' {{F with defers:=es}with mode:=.panicking [{v:=oK,recovered:=false}]} cs (iN.mono ab.le) ⟨oK,AZ.mono ab.le,rfl⟩ er;exact⟨k2,ke,md,(Steps.head oz ah).trans (.head qT eB),g1,aM,ab.trans bc⟩
        |a1 v cu eK=>
         exfalso;simp only[jD,hc]at h;cases h
      ·cases J
     |_=>simp[jD]at h
    |_=>rw[het]at wM;exact wM.elim
   |_=>simp[jD]at h
section
variable{P:d9}{b:dF}{a:Act}{k:ac Item}{cs:ac Frame}{w:co}
def dF.returns(b:dF)(a:Act)(hU:ac Item):Frame:={b.at a hU with mode:=.returning}
def ack(hb:b.b0=none):step P (lone (b.at a []) cs w)= .next (lone (b.returns a []) cs w):=step_lone_go (by simp[stepG,stepG.exec,dF.at,dF.returns,hb])
def acu(hb:b.b0=none):step P (lone (b.at a (.code .ret::k)) cs w)= .next (lone (b.returns a (.code .ret::k)) cs w):=step_lone_go (by simp[stepG,stepG.exec,dF.at,dF.returns,hb])
end
theorem Rj:∀(vs:ac be) (i:Nat) (t:ao be) (j:Nat),(lV vs i t).get j=if i<=j∧j<i+vs.length then vs[j-i]? else t.get j
 |[],i,t,j=>by rw[zaa (by simp)];rfl
 |v::vs,i,t,j=>by
  show(ao.iV (Nat.succ i) t i v fun t=>lV vs (Nat.succ i) t).get j=_;rw[ao.zp,Rj vs (Nat.succ i) _ j,ao.eJ];by_cases e:j=i
  ·subst e;rw[zaa (by omega),zab rfl,zab (by simp)];simp
  ·by_cases h:Nat.succ i<=j∧j<Nat.succ i+vs.length
   ·rw[zab h,zab (by simp only[zaq];omega)];obtain⟨J,_⟩:=h;have:j-i=(j-Nat.succ i)+1:=by omega
    rw[this];simp
   ·rw[zaa h,zaa e,zaa (by simp only[zaq];omega)]
def SV{as as':ac be}{aJ:Nat}{a1:am be}{eK:Bool}{b0:am Nat}(h:bJ ι as as')(hn:as.length<=aJ):
 cy ι ⟨lV as 0 .nil,[],a1,eK,b0⟩ ⟨as'.toArray++Array.replicate (aJ-as'.toArray.size) undef,[]⟩ aJ:=by
 refine⟨fun t=> ?_,by simp[<-h.1];omega,trivial⟩;show bp ι (Option.rec (motive:=fun _=>be) (.chan (some 0)) (fun v=>v) ((lV as 0 .nil).get t)) _;rw[Rj];by_cases aW:t<as.length
 ·rw[zab ⟨zae _,by omega⟩];have sX:t<as'.length:=by rw[<-h.1];exact aW
  have:=h.2 t aW sX;simp only[Nat.sub_zero,bm aW];have aR:(as'.toArray++Array.replicate (aJ-as'.toArray.size) undef).getD t undef=as'[t]:=by
   simp[Array.getElem?_append,sX]
  rw[aR];exact this
 ·rw[zaa (by omega)];exact .top _
section
variable{b:dF}{bb:Bool->ac Frame}{ι:bs}{fr:aP}{a:Act}{aJ:Nat}{st:ay}{w:co}
def At(gv:vG X call){Fn:Func}{res:ac h6}{F:Frame}(aw:X.P.funcs[b.fn]? =some Fn)(yC:vm X res Fn.results.toList=true)(ae:cy ι fr a aJ)(hw:bo X ι st w)
 (J:F.tmps=a.tmps) (U:F.defers=a.defers) (ag:F.kind=b.kind) (az:F.fn=b.fn) (hm:oW ι m F.mode):h5 X ι w b bb (lone F (bb fr.cB) w) (gl call res m fr st):=by
 unfold gl;cases hu:jD call fr.cS m st with
 |none=>trivial
 |some p=>
  obtain⟨fz,st'⟩:=p;obtain⟨aS,w',md,ah,g1,aM,bc⟩:=Co gv fr.cS m st (fz,st') hu ι w F (bb fr.cB) (by rw[U];exact ae.cS) hm hw;cases fz with
  |some v=>
   obtain⟨v',aD,M8⟩:=g1;exact⟨aS,v',w',{F with defers:=[],mode:=md},aD,aM,bc,ag,az,⟨M8,rfl,Fn,by show X.P.funcs[F.fn]? =_;rw[az];exact aw⟩,ah⟩
  |none=>
   have M8:md= .returning:=g1;show h5 X ι w b bb _ (bk (o4 fr st' res) (fun vs=>one vs (fun v=>.ret v st' fr.cB) (.ret (.tuple ⟨vs⟩) st' fr.cB)) .no);cases he:o4 fr st' res with
   |none=>trivial
   |some out=>
    have ef:cy aS ⟨fr.t,[],fr.a1,fr.cB,fr.b0⟩ ⟨a.tmps,[]⟩ aJ:=⟨fun t=>(ae.tmp t).mono bc.le,ae.size,trivial⟩;obtain⟨v',aD,gg⟩:=asl (F:=Fn) yC ef aM (show o4 ⟨fr.t,[],fr.a1,fr.cB,fr.b0⟩ st' res=some out from he);have Nj:bk (some out) (fun vs=>one vs (fun v=>dh.ret v st' fr.cB) (.ret (.tuple ⟨vs⟩) st' fr.cB)) .no= .ret (one out (fun v=>v) (.tuple ⟨out⟩)) st' fr.cB:=by
     cases out with
     |nil=>rfl
     |cons x xs=>cases xs<;>rfl
    rw[Nj];refine⟨aS,v',w',{F with defers:=[],mode:=md},aD,aM,bc,ag,az,⟨M8,rfl,Fn,by show X.P.funcs[F.fn]? =_;rw[az];exact aw,?_⟩,ah⟩;show(results Fn F.tmps).run X.P w'=_;rw[J];exact gg
structure vF(X:Ctx)(f:ci)(xf:cM)(Fn:Func)(c:Code):Prop where
 fn:X.P.funcs[f]? =some Fn
 body:Fn.body=some c
 aJ:Fn.ntmps=xf.aJ
 code:codeOk X xf.aJ xf.body c=true
 res:vm X xf.res Fn.results.toList=true
 name:(Fn.name== "runtime.NumGoroutine")=false
variable{f:ci}{xf:cM}{Fn:Func}{body:Code}
def vF.enters(h:vF X f xf Fn body)(as:ap be)(w:co):(callFunc f as).run X.P w= .ok (.enter f as) w:=by
 have hn:=h.name;simp only[callFunc,program,Sem.run_bind];simp[Sem.run,h.fn,h.body,hn,Result.andThen]
def Lr(c5:Good X)(dR:mj X call)(gv:vG X call)(sV:∀b aJ bb,b.b0=none->zO X call b aJ bb)(ok:vF X f xf Fn body)(n:Nat){K:CallKind}{as as':ac be}{a1:am be}
 (has:bJ ι as as') (hw:bo X ι st w) (aE:jX ⟨f,K,none⟩ a1 ι bb):h5 X ι w ⟨f,K,none⟩ bb (lone (Frame.enter X.P f as'.toArray K) (bb false) w) (iX call n f xf as a1 st):=by
 unfold iX;rw[oE];split
 ·rename_i hlen;rw[fg]at hlen
  let b:dF:=⟨f,K,none⟩
  have rS:Frame.enter X.P f as'.toArray K=b.at ⟨as'.toArray++Array.replicate (xf.aJ-as'.toArray.size) undef,[]⟩ [.code body]:=by
   simp[Frame.enter,dF.at,ok.fn,ok.body,ok.aJ,b]
  rw[rS];have A4:=Gy (b:=b) (bb:=bb) c5 dR (sV b xf.aJ bb rfl) ⟨Fn,ok.fn,ok.aJ⟩ n xf.body body ι ⟨lV as 0 .nil,[],a1,false,none⟩ ⟨as'.toArray++Array.replicate (xf.aJ-as'.toArray.size) undef,[]⟩ st w [] ok.code (SV has hlen) hw (.inl ⟨rfl,rfl⟩) aE;cases hM:c1 call n f xf.body ⟨lV as 0 .nil,[],a1,false,none⟩ st with
  |no=>trivial
  |out e aI st'=>
   have amA:c1 call n b.fn xf.body ⟨lV as 0 .nil,[],a1,false,none⟩ st= .out e aI st':=hM;rw[amA]at A4;obtain⟨aS,a',w',J,U,ag,_,_,cl⟩:=A4;cases e with
   |norm=>
    refine h5.head (Steps.trans cl (.one (ack rfl))) ag ?_;exact At (b:=b) (a:=a') (F:=b.returns a' []) (aJ:=xf.aJ) gv ok.fn ok.res J U rfl rfl rfl rfl (show oW aS none .returning from rfl)
   |exit id=>trivial
   |ret=>
    obtain⟨hU,dn⟩:=cl;refine h5.head (Steps.trans dn (.one (acu rfl))) ag ?_;exact At (b:=b) (a:=a') (F:=b.returns a' (.code .ret::hU)) (aJ:=xf.aJ) gv ok.fn ok.res J U rfl rfl rfl rfl (show oW aS none .returning from rfl)
   |a1 v=>
    obtain⟨v',hU,aD,dn⟩:=cl;refine h5.head dn ag ?_;exact At (b:=b) (a:=a') (F:=b.panics a' hU v') (aJ:=xf.aJ) gv ok.fn ok.res J U rfl rfl rfl rfl ⟨v',aD,rfl⟩
 ·trivial
end
def Ix{β:Type}{o:am bt}{k:LoopState->am dv->ci->ao be->ac Tmp->dm->dm->Nat->β}{z r:β}(h:nk o k z=r)(an:z≠r):
 ∃s gM fn t ps a b d,o=some (.loop s gM fn t ps a b d)∧k s gM fn t ps a b d=r:=by
 unfold nk at h;obtain⟨eI,al,J⟩:=gh h an;cases eI<;>first|exact absurd J an|exact⟨_,_,_,_,_,_,_,_,al,J⟩
section
variable{P:d9}{b:dF}{a:Act}{k:ac Item}{c:Frame}{cs:ac Frame}{w w':co}{l:Nat}
variable{v:be}
def auk(hb:b.b0=some l)(h:(Instr.beginRound l).run P w= .ok () w'):step P (lone (b.at a (.beginRound::k)) cs w)= .next (lone (b.at a k) cs w'):=
 step_lone_go (by simp[stepG,stepG.exec,stepG.apply,dF.at,hb,h,Result.andThen,Frame.finish])
def auw(hb:b.b0=some l)(ab:b.kind= .normal)(h:(Instr.endRound l none).run P w= .ok v w'):step P (lone (b.at a []) (c::cs) w)= .next (lone (c.finish v) cs w'):=
 step_lone_go (by simp[stepG,stepG.exec,dF.at,hb,ab,h,doReturn])
def auz(hb:b.b0=some l)(ab:b.kind= .normal)(h:(Instr.endRound l (some .ret)).run P w= .ok v w'):step P (lone (b.at a (.code .ret::k)) (c::cs) w)= .next (lone (c.finish v) cs w'):=
 step_lone_go (by simp[stepG,stepG.exec,dF.at,hb,ab,h,doReturn])
def auy{i:Nat}(hb:b.b0=some l)(ab:b.kind= .normal)(aa:exitTo i k=none)(h:(Instr.endRound l (some (.exit i))).run P w= .ok v w'):step P (lone (b.at a (.code (.exit i)::k)) (c::cs) w)= .next (lone (c.finish v) cs w'):=
 step_lone_go (by simp[stepG,stepG.exec,dF.at,hb,ab,aa,h,doReturn])
end
variable{st:ay}{w:co}{l l':Nat}{s:LoopState}{gM:am dv}{t:ao be}{ps:ac Tmp}{dB body:dm}{d:Nat}
theorem Z5{ι:bs}:∀(ps:ac Tmp) (vs gA:ac be) (m:ao be) (arr:ap be),(∀n,bp ι (Cn m n) (arr.getD n undef))->bJ ι vs gA->vs.length=ps.length->(∀t∈ps,t<arr.size)->
 (∀n,bp ι (Cn (oJ ps vs m) n) (((ps.zip gA).foldl (fun tmps (p:Tmp×be)=>tmps.setIfInBounds p.1 p.2) arr).getD n undef))∧((ps.zip gA).foldl (fun tmps (p:Tmp×be)=>tmps.setIfInBounds p.1 p.2) arr).size=arr.size
 |[],_,_,m,arr,h,_,_,_=>⟨h,rfl⟩
 |t::ps,[],_,_,_,_,_,hl,_=>by simp at hl
 |t::ps,v::vs,gA,m,arr,h,aD,hl,aN=>by
  obtain⟨y,av,rfl,J,U⟩:=aD.cons_inv;have aW:t<arr.size:=aN t zby;have oz:∀n,bp ι (Cn (m.set t v) n) ((arr.setIfInBounds t y).getD n undef):=by
   intro n;have hn:=h n;unfold Cn at hn⊢;rw[ao.eJ];by_cases e:n=t
   ·subst e;rw[zab rfl];have:(arr.setIfInBounds n y).getD n undef=y:=by simp[aW]
    rw[this];exact J
   ·rw[zaa e];have:(arr.setIfInBounds t y).getD n undef=arr.getD n undef:=by
     simp[zbt (Ne.symm e)]
    rw[this];exact hn
  obtain⟨g1,aM⟩:=Z5 ps vs av (m.set t v) (arr.setIfInBounds t y) oz U (by simpa using hl) (fun u hu=>by simpa using aN u (zaI _ hu));have hp:oJ (t::ps) (v::vs) m=oJ ps vs (m.set t v):=by
   show ao.iV (Nat.succ t) m t v (fun m=>oJ ps vs m)=_;rw[ao.zp]
  rw[hp];refine⟨g1,?_⟩;rw[List.zip_cons_cons,zdj,aM];simp
def bo.loop(hw:bo X ι st w){fn:ci}(h:st.h.get l=some (.loop s gM fn t ps dB body d))(hl:ι l=some ⟨l',0,0,id⟩):
 ∃L:Loop,w.heap[l']? =some (.loop L)∧L.state=s∧FT gM L.pending∧L.fn=fn∧(∀n,bp ι (Cn t n) (L.tmps.getD n undef))∧L.params.toList=ps∧X.ok fn L.assign dB∧X.ok fn L.body body∧ι d=some ⟨L.defers,0,0,id⟩∧
  (∃F,X.P.funcs[fn]? =some F∧L.tmps.size=F.ntmps)∧∀t∈ps,t<L.tmps.size:=by
 obtain⟨m,hm,_,_,L,h2⟩:=hw.ez _ _ h (by simp);have e:=hl.symm.trans hm;cases e;exact⟨L,h2⟩
def bo.N9(hw:bo X ι st w){fn:ci}(h:st.h.get l=some (.loop s gM fn t ps dB body d))(hl:ι l=some ⟨l',0,0,id⟩)
 {L:Loop} (h2:w.heap[l']? =some (.loop L)) (bq:LoopState) (Z9:am dv) (jump:am Code) (hj:FT Z9 jump):
 bo X ι ⟨st.h.set l (.loop bq Z9 fn t ps dB body d),st.ai⟩ (w.putObj l' (.loop {L with state:=bq,pending:=jump}))∧e3 ι ι w (w.putObj l' (.loop {L with state:=bq,pending:=jump})):=by
 obtain⟨awb,h0,J,U,ag,az,a4,cl,dn,g6,iZ,rO⟩:=hw.loop h hl;rw[h2]at h0;cases h0;exact hw.tB X h (by simp) (fun ae=>ae) hl _ (.loop {L with state:=bq,pending:=jump}) _ rfl fun _ aW=>⟨rfl,rfl,{L with state:=bq,pending:=jump},aW,rfl,hj,ag,az,a4,cl,dn,g6,iZ,rO⟩
section
variable{ι:bs}{st:ay}{w:co}
def asq{b:dF}{aJ:Nat}{Fn:Func}{c:Frame}{cs:ac Frame}{s:Machine}{dC:aP}{aS:bs}{e9:co}{r:cm}(o9:X.P.funcs[b.fn]? =some Fn)(yj:b.b0=some l')(AI:b.kind= .normal)(hl:aS l=some ⟨l',0,0,id⟩)
 (h:fN X b aJ (fun _=>c::cs) s [] dC aS e9 r):
 match re l r with
 |.ret v st' _=>∃dA v' w',bp dA v v'∧bo X dA st' w'∧e3 aS dA e9 w'∧Steps X.P s (lone (c.finish v') cs w')
 |.a1 v st' _=>∃dA v' w',bp dA v v'∧bo X dA st' w'∧e3 aS dA e9 w'∧Steps X.P s (lone (c.raise [{v:=v',recovered:=false}]) cs w')
 |.no=>True:=by
 cases r with
 |no=>trivial
 |out e fr st=>
  obtain⟨dA,a,w,ae,hw,ab,_,_,aa⟩:=h;have kT:=ab.le _ _ hl;cases mE:fr.cS with
  |cons d ds=>
   have:re l (.out e fr st)= .no:=by show List.rec (motive:=fun _=>dh) _ _ fr.cS=_;rw[mE]
   rw[this];trivial
  |nil=>
   have ama:a.defers=[]:=by
    have:=ae.cS;rw[mE]at this;cases ha:a.defers with
    |nil=>rfl
    |cons d ds=>rw[ha]at this;exact this.elim
   have key:∀(bq:LoopState) (gM:am dv) (jump:am Code) (v:be),FT gM jump->
    (∀L,w.heap[l']? =some (.loop L)->∃w',w'=w.putObj l' (.loop {L with state:=bq,pending:=jump})∧Steps X.P s (lone (c.finish v) cs w'))->bp dA v v->
    match nk (st.h.get l) (fun _ _ fn t ps a b d=>st.hI l (.loop bq gM fn t ps a b d) fun st=>dh.ret v st false) .no with
    |.ret v st' _=>∃dA v' w',bp dA v v'∧bo X dA st' w'∧e3 aS dA e9 w'∧Steps X.P s (lone (c.finish v') cs w')
    |.a1 v st' _=>∃dA v' w',bp dA v v'∧bo X dA st' w'∧e3 aS dA e9 w'∧Steps X.P s (lone (c.raise [{v:=v',recovered:=false}]) cs w')
    |.no=>True:=by
    intro bq gM jump v hj eH aD;by_cases gI:nk (st.h.get l) (fun _ _ fn t ps a b d=>st.hI l (.loop bq gM fn t ps a b d) fun st=>dh.ret v st false) .no= .no
    ·rw[gI];trivial
    ·obtain⟨aK,np,Ha,t0,Jg,qn,k6,d0,kl,J⟩:=Ix rfl (fun e=>gI e.symm);rw[<-J,ks];obtain⟨L,h2,_⟩:=hw.loop kl kT;obtain⟨w',er,eB⟩:=eH L h2;obtain⟨g1,aM⟩:=hw.N9 kl kT h2 bq gM jump hj;exact⟨dA,v,w',aD,by rw[er];exact g1,by rw[er];exact ab.trans aM,eB⟩
   cases e with
   |norm=>
    have:re l (.out .norm fr st)=nk (st.h.get l) (fun _ _ fn t ps a b d=>st.hI l (.loop .ready none fn t ps a b d) fun st=>dh.ret (.bool true) st false) .no:=by
     show List.rec (motive:=fun _=>dh) _ _ fr.cS=_;rw[mE]
    rw[this];exact key .ready none none (.bool true) trivial (fun L h2=>⟨_,rfl,Steps.trans aa (.one (auw yj AI (run_endRound none h2)))⟩) (.bool true)
   |exit i=>
    have:re l (.out (.exit i) fr st)=nk (st.h.get l) (fun _ _ fn t ps a b d=>st.hI l (.loop .done (some (.exit i)) fn t ps a b d) fun st=>dh.ret (.bool false) st false) .no:=by
     show List.rec (motive:=fun _=>dh) _ _ fr.cS=_;rw[mE]
    rw[this];obtain⟨hU,anN,bX⟩:=aa;exact key .done (some (.exit i)) (some (.exit i)) (.bool false) rfl (fun L h2=>⟨_,rfl,Steps.trans bX (.one (auy yj AI (by rw[anN];rfl) (run_endRound (some (.exit i)) h2)))⟩) (.bool false)
   |ret=>
    have:re l (.out .ret fr st)=nk (st.h.get l) (fun _ _ fn t ps a b d=>st.hI l (.loop .done (some .ret) fn t ps a b d) fun st=>dh.ret (.bool false) st false) .no:=by
     show List.rec (motive:=fun _=>dh) _ _ fr.cS=_;rw[mE]
    rw[this];obtain⟨hU,bX⟩:=aa;exact key .done (some .ret) (some .ret) (.bool false) trivial (fun L h2=>⟨_,rfl,Steps.trans bX (.one (auz yj AI (run_endRound (some .ret) h2)))⟩) (.bool false)
   |a1 v=>
    have:re l (.out (.a1 v) fr st)= .a1 v st false:=by
     show List.rec (motive:=fun _=>dh) _ _ fr.cS=_;rw[mE]
    rw[this];obtain⟨v',hU,aD,bX⟩:=aa;refine⟨dA,v',w,aD,hw,ab,Steps.trans bX (.one (step_leave_panicked (fr:=b.panics a hU v') ⟨rfl,ama,Fn,o9⟩))⟩
def av1(c5:Good X)(dR:mj X call)(sV:∀b aJ bb,zO X call b aJ bb){n:Nat}{args kz:ac be}(hl:ι l=some ⟨l',0,0,id⟩)(ha:bJ ι args kz)(hw:bo X ι st w)(cd:zG call n l args st≠.no):
 ∃fn ts dB body,(Instr.yield l' kz.toArray).run X.P w= .ok (.round l' fn ts dB body) w∧∀c cs,Cy X ι w (Frame.round l' fn ts dB body .normal) c cs (zG call n l args st):=by
 unfold zG at cd⊢;obtain⟨s,gM,fn,t,ps,dB,body,d,kl,J⟩:=Ix rfl (fun e=>cd e.symm);rw[<-J]at cd⊢;obtain⟨hlen,U⟩:=kS rfl (fun e=>cd e.symm);rw[<-U]at cd⊢;rw[fg,fg]at hlen;obtain⟨L,h2,ah,hj,gv,A5,j4,MF,AL,aA,⟨Fn,o9,ep⟩,aN⟩:=hw.loop kl hl;have anF:kz.toArray.size=L.params.size:=by
  have:L.params.size=ps.length:=by rw[<-j4];simp
  rw[this,<-hlen];simpa using ha.1.symm
 refine⟨L.fn,_,L.assign,L.body,run_yield h2 anF,fun c cs=> ?_⟩;subst gv;obtain⟨jC,hB⟩:=Z5 ps args kz t L.tmps A5 ha hlen aN;have XF:(L.params.zip kz.toArray).foldl (fun tmps (x:Tmp×be)=>tmps.setIfInBounds x.1 x.2) L.tmps=(ps.zip kz).foldl (fun tmps (p:Tmp×be)=>tmps.setIfInBounds p.1 p.2) L.tmps:=by
  rw[<-Array.foldl_toList,Array.toList_zip,j4]
 let b:dF:=⟨L.fn,.normal,some l'⟩
 let vv:=(L.params.zip kz.toArray).foldl (fun tmps (x:Tmp×be)=>tmps.setIfInBounds x.1 x.2) L.tmps
 have awP:Frame.round l' L.fn vv L.assign L.body .normal=b.at ⟨vv,[]⟩ [.code L.assign,.beginRound,.code L.body]:=rfl;obtain⟨rm,o8,anc⟩:=(c5.2 _ _ _).1 MF;obtain⟨jG,ye,uC⟩:=(c5.2 _ _ _).1 AL;rw[o9]at o8 ye;cases o8;cases ye;have ae:cy ι ⟨oJ ps args t,[],none,false,some l⟩ ⟨vv,[]⟩ Fn.ntmps:=by
  refine⟨fun u=> ?_,?_,trivial⟩
  ·have:=jC u;rw[<-XF]at this;exact this
  ·show vv.size=_;rw[<-ep,<-hB,<-XF]
 have Xy:∀a1:am be,a1=none->∀aS,jX b a1 aS (fun _=>c::cs):=by
  rintro _ rfl aS F eK aw;have dp:F.kind= .normal:=aw;simp[tryRecover,dp]
 have A4:=Gy (b:=b) (bb:=fun _=>c::cs) c5 dR (sV b Fn.ntmps _) ⟨Fn,o9,rfl⟩ n dB L.assign ι ⟨oJ ps args t,[],none,false,some l⟩ ⟨vv,[]⟩ st w [.beginRound,.code L.body] anc ae hw (.inr ⟨l,l',rfl,rfl,hl⟩) (Xy _ rfl ι);have XC:fN X b Fn.ntmps (fun _=>c::cs) (lone (Frame.round l' L.fn vv L.assign L.body .normal) (c::cs) w) [.beginRound,.code L.body] ⟨oJ ps args t,[],none,false,some l⟩ ι w (c1 call n L.fn dB ⟨oJ ps args t,[],none,false,some l⟩ st):=A4;generalize c1 call n L.fn dB ⟨oJ ps args t,[],none,false,some l⟩ st=n1 at XC cd⊢;cases n1 with
 |no=>exact absurd rfl cd
 |out e dC cu=>
  obtain⟨aS,fa,e9,uw,oA,AT,wJ,jM,NB⟩:=XC;cases e with
  |exit _=>exact absurd rfl cd
  |ret=>exact absurd rfl cd
  |a1 _=>exact absurd rfl cd
  |norm=>
   have AY:B6 call n l L.fn body dC cu≠.no:=cd;show Cy X ι w _ c cs (B6 call n l L.fn body dC cu);unfold B6 at AY⊢;obtain⟨s1,BK,Dy,t1,E5,CO,CT,d1,HB,ag⟩:=Ix rfl (fun e=>AY e.symm);rw[<-ag]at AY⊢;cases s1 with
   |busy=>exact absurd rfl AY
   |done=>exact absurd rfl AY
   |exhausted=>exact absurd rfl AY
   |ready=>
    have kT:=AT.le _ _ hl;obtain⟨sA,DF,lF,nc,awy,_⟩:=oA.loop HB kT;have hL:(Instr.beginRound l').run X.P e9= .ok () (e9.putObj l' (.loop {sA with state:=.busy})):=run_beginRound DF lF;have anI:=auk (P:=X.P) (b:=b) (a:=fa) (k:=[.code L.body]) (cs:=c::cs) rfl hL;obtain⟨Ei,km⟩:=oA.N9 HB kT DF .busy BK sA.pending nc;have anE:=Gy (b:=b) (bb:=fun _=>c::cs) c5 dR (sV b Fn.ntmps _) ⟨Fn,o9,rfl⟩ n body L.body aS dC fa ⟨cu.h.set l (.loop .busy BK Dy t1 E5 CO CT d1),cu.ai⟩ (e9.putObj l' (.loop {sA with state:=.busy})) [] uC uw Ei (by rw[jM];exact .inr ⟨l,l',rfl,rfl,kT⟩) (Xy _ wJ aS);have rX:Steps X.P (lone (Frame.round l' L.fn vv L.assign L.body .normal) (c::cs) w) (lone (b.at fa [.code L.body]) (c::cs) (e9.putObj l' (.loop {sA with state:=.busy}))):=Steps.trans NB (.one anI);have iO:=AT.trans km;have uE:=asq (b:=b) (l:=l) o9 rfl rfl kT anE;show Cy X ι w _ c cs (cu.hI l (.loop .busy BK Dy t1 E5 CO CT d1) fun st=>re l (c1 call n L.fn body dC st));rw[ks];have cK:c1 call n b.fn body dC ⟨cu.h.set l (.loop .busy BK Dy t1 E5 CO CT d1),cu.ai⟩=c1 call n L.fn body dC ⟨cu.h.set l (.loop .busy BK Dy t1 E5 CO CT d1),cu.ai⟩:=rfl;rw[cK]at uE;generalize re l (c1 call n L.fn body dC ⟨cu.h.set l (.loop .busy BK Dy t1 E5 CO CT d1),cu.ai⟩)=abz at uE⊢;cases abz with
    |no=>trivial
    |ret v st' eK=>obtain⟨dA,v',w',g1,aM,bc,cf⟩:=uE;exact⟨dA,v',w',g1,aM,iO.trans bc,rX.trans cf⟩
    |a1 v st' eK=>obtain⟨dA,v',w',g1,aM,bc,cf⟩:=uE;exact⟨dA,v',w',g1,aM,iO.trans bc,rX.trans cf⟩
end
section
variable{P:d9}{b:dF}{a:Act}{k:ac Item}{cs:ac Frame}{w e9:co}{f:bi}{ps:ap Tmp}{dB body:Code}{l:Nat}{mark:ac Deferred}
variable{g:ci}
def abt(_hb:b.b0=none):(Frame.eval {fn:=b.fn,tmps:=a.tmps,todo:=.inRangeFunc l::k,defers:=mark++a.defers,mode:=.run,kind:=b.kind,roundOf:=none}) f=a.eval f:=by cases f<;>rfl
def abr{v:be}:a.eval (.const v)=v:=rfl
def auu(hb:b.b0=none)(h:(Instr.enterLoop b.fn a.tmps ps dB body none).run P w= .ok (l,mark) e9){as:ap be}
 (aE:((do let d<-Deferred.ofValue (a.eval f) #[.func (.yield l) #[] #[]];invoke d.target d.args):Sem Next).run P e9= .ok (.enter g as) e9):
 step P (lone (b.at a (.code (.rangeFunc f ps dB body)::k)) cs w)= .next (lone (Frame.enter P g as .normal) (b.at {a with defers:=mark++a.defers} (.inRangeFunc l::k)::cs) e9):=by
 refine step_lone_go ?_;have nV:=aE;simp only[Sem.run_bind]at nV;simp[stepG,stepG.exec,stepG.apply,dF.at,hb,h,resolve,abt hb,abr,nV]
def auv(hb:b.b0=none)(h:(Instr.enterLoop b.fn a.tmps ps dB body none).run P w= .ok (l,mark) e9){iC:Nat}{ts:ap be}{Ld Lp:Code}
 (aE:((do let d<-Deferred.ofValue (a.eval f) #[.func (.yield l) #[] #[]];invoke d.target d.args):Sem Next).run P e9= .ok (.round iC g ts Ld Lp) e9):
 step P (lone (b.at a (.code (.rangeFunc f ps dB body)::k)) cs w)= .next (lone (Frame.round iC g ts Ld Lp .normal) (b.at {a with defers:=mark++a.defers} (.inRangeFunc l::k)::cs) e9):=by
 refine step_lone_go ?_;have nV:=aE;simp only[Sem.run_bind]at nV;simp[stepG,stepG.exec,stepG.apply,dF.at,hb,h,resolve,abt hb,abr,nV]
def aul{jump:am Code}(h:(Instr.endLoop l).run P w= .ok jump e9):step P (lone (b.at a (.endRangeFunc l::k)) cs w)= .next (lone (b.at a ((jump.map Item.code).toList++k)) cs e9):=
 step_lone_go (by simp[stepG,stepG.exec,dF.at,h])
end
def Fg(dR:mj X call)(b:dF)(aJ:Nat)(bb:Bool->ac Frame):zO X call b aJ bb:=by
 intro f ps dB body qq qv ι fr a st w k amG aN o9 MF AL ae hw hb aE;unfold Dr;cases qQ:fr.b0 with
 |some _=>trivial
 |none=>
  have AK:b.b0=none:=by
   rcases hb with⟨_,h⟩|⟨l,l',h,_⟩
   ·exact h
   ·rw[qQ]at h;cases h
  obtain⟨Fn,o9,Nf⟩:=o9;have rS:=run_enterLoop_outer (P:=X.P) (w:=w) b.fn a.tmps ps qq qv;obtain⟨axv,oA,AT,J,_⟩:=bo.alloc X hw (.jI (some [])) (.deferred (some [])) 0 (fun aS w' _ _ aW=>⟨rfl,rfl,.inl ⟨rfl,aW⟩⟩) (w.alloc (.deferred (some []))) rfl;have anK:(w.alloc (.deferred (some []))).heap.size=w.heap.size+1:=World.size_alloc _ _
  let L:Loop:={state:=.ready,pending:=none,fn:=b.fn,tmps:=a.tmps,params:=ps,assign:=qq,body:=qv,defers:=w.heap.size}
  obtain⟨Kz,Ei,km,U,_⟩:=bo.alloc X oA (.loop .ready none b.fn fr.t ps.toList dB body st.ai) (.loop L) 0 (fun aS w' hle _ aW=>⟨rfl,rfl,L,aW,rfl,trivial,rfl,fun n=>(ae.tmp n).mono (AT.le.trans hle),rfl,MF,AL,hle _ _ J,⟨Fn,o9,by rw[Nf];exact ae.size⟩,fun t aW=>by show t<a.tmps.size;rw[ae.size];exact aN t aW⟩)
   ((w.alloc (.deferred (some []))).alloc (.loop L)) rfl
  show fN X b aJ bb _ k fr ι w (st.jB (.jI (some [])) fun r st=>st.jB (.loop .ready none b.fn fr.t ps.toList dB body r) fun l st=>J1 l ⟨fr.t,{target:=.collected r,args:= #[]}::fr.cS,fr.a1,fr.cB,none⟩ (call (fr.ak f) [.func (.yield l) #[] #[]] none st));rw[gV,gV];have iO:=AT.trans km;rw[anK]at U
  let ch:ay:=⟨(st.h.set st.ai (.jI (some []))).set (st.ai+1) (.loop .ready none b.fn fr.t ps.toList dB body st.ai),st.ai+1+1⟩
  let aI:aP:=⟨fr.t,{target:=.collected st.ai,args:= #[]}::fr.cS,fr.a1,fr.cB,none⟩
  let a':Act:={a with defers:=[{target:=.collected w.heap.size,args:= #[]}]++a.defers}
  have ef:cy Kz aI a' aJ:=⟨fun t=>(ae.tmp t).mono iO.le,ae.size,⟨⟨bJ.nil _,km.le _ _ J⟩,ae.cS.mono iO.le⟩⟩;have anX:bo X Kz ch ((w.alloc (.deferred (some []))).alloc (.loop L)):=Ei;have gy:bp Kz (.func (.yield (st.ai+1)) #[] #[]) (.func (.yield (w.heap.size+1)) #[] #[]):=bp.IV (.inr ⟨_,_,rfl,rfl,U⟩) (bJ.nil _) (bJ.nil _);show fN X b aJ bb _ k fr ι w (J1 (st.ai+1) aI (call (fr.ak f) [.func (.yield (st.ai+1)) #[] #[]] none ch));by_cases gI:call (fr.ak f) [.func (.yield (st.ai+1)) #[] #[]] none ch= .no
  ·rw[gI];trivial
  obtain⟨eL,eH,uD⟩:=dR Kz (fr.ak f) [.func (.yield (st.ai+1)) #[] #[]] ch (a.eval f) [.func (.yield (w.heap.size+1)) #[] #[]] _ ((ae.ak hw amG).mono iO.le) (bJ.cons gy (bJ.nil _)) anX gI;have rX:step X.P (lone (b.at a (.code (.rangeFunc f ps qq qv)::k)) (bb fr.cB) w)= .next (lone eL (b.at a' (.inRangeFunc (w.heap.size+1)::k)::bb fr.cB) ((w.alloc (.deferred (some []))).alloc (.loop L))):=by
   cases eH with
   |enter g as ah=>exact auu AK rS ah
   |round iC g ts Ld Lp ah=>exact auv AK rS ah
  have al:=uD (b.at a' (.inRangeFunc (w.heap.size+1)::k)) (bb fr.cB);have jw:aI.a1=fr.a1:=rfl;have jx:aI.b0=fr.b0:=qQ.symm;cases hc:call (fr.ak f) [.func (.yield (st.ai+1)) #[] #[]] none ch with
  |no=>exact absurd hc gI
  |a1 v fk eK=>
   rw[hc]at al;obtain⟨aS,v',w',aD,er,ab,ah⟩:=al;exact⟨aS,a',w',ef.mono ab.le,er,iO.trans ab,jw,jx,v',_,aD,Steps.head rX ah⟩
  |ret v fk eK=>
   rw[hc]at al;obtain⟨aS,v',w',aD,er,ab,ah⟩:=al;have mF:(b.at a' (.inRangeFunc (w.heap.size+1)::k)).finish v'=b.at a' (.endRangeFunc (w.heap.size+1)::k):=rfl;rw[mF]at ah;have hl:=ab.le _ _ U;show fN X b aJ bb _ k fr ι w (nk (fk.h.get (st.ai+1)) (fun s gM rN t ps a b d=>
    LoopState.rec (motive:=fun _=>cm)
    (fk.hI (st.ai+1) (.loop .exhausted gM rN t ps a b d) fun st=>bk gM (fun e=>.out e aI st) (.out .norm aI st))
    .no
    (fk.hI (st.ai+1) (.loop .exhausted gM rN t ps a b d) fun st=>bk gM (fun e=>.out e aI st) (.out .norm aI st))
    .no s) .no)
   generalize yC:nk _ _ _=res;by_cases hn:res= .no
   ·rw[hn];trivial
   obtain⟨aK,np,Ha,t0,Jg,qn,k6,d0,kl,ag⟩:=Ix yC (fun e=>hn e.symm);obtain⟨sA,DF,lF,nc,_⟩:=er.loop kl hl;have key:aK≠.busy->(fk.hI (st.ai+1) (.loop .exhausted np Ha t0 Jg qn k6 d0) fun st=>bk np (fun e=>cm.out e aI st) (.out .norm aI st))=res->fN X b aJ bb (lone (b.at a (.code (.rangeFunc f ps qq qv)::k)) (bb fr.cB) w) k fr ι w res:=by
    intro kU he;rw[ks]at he;have ym:(Instr.endLoop (w.heap.size+1)).run X.P w'= .ok sA.pending (w'.putObj (w.heap.size+1) (.loop {sA with state:=.exhausted})):=run_endLoop DF (by rw[lF];exact kU);obtain⟨g1,aM⟩:=er.N9 kl hl DF .exhausted np sA.pending nc;have qT:=aul (P:=X.P) (b:=b) (a:=a') (k:=k) (cs:=bb fr.cB) ym;have ea:=(Steps.head rX ah).trans (.one qT);have DT:=(iO.trans ab).trans aM;have DO:=ef.mono ab.le;cases np with
    |none=>
     have j3:cm.out .norm aI ⟨fk.h.set (st.ai+1) (.loop .exhausted none Ha t0 Jg qn k6 d0),fk.ai⟩=res:=he;cases hp:sA.pending with
     |some _=>rw[hp]at nc;exact nc.elim
     |none=>
      rw[<-j3];rw[hp]at ea g1 DT;exact⟨aS,a',_,DO,g1,DT,jw,jx,ea⟩
    |some e=>
     have j3:cm.out e aI ⟨fk.h.set (st.ai+1) (.loop .exhausted (some e) Ha t0 Jg qn k6 d0),fk.ai⟩=res:=he;rw[<-j3];cases hp:sA.pending with
     |none=>rw[hp]at nc;cases e<;>exact nc.elim
     |some cY=>
      rw[hp]at nc ea g1 DT;cases e with
      |norm=>cases cY<;>exact nc.elim
      |a1 v=>cases cY<;>exact nc.elim
      |exit i=>
       cases cY with
       |exit j=>
        have e:i=j:=nc;subst e;exact⟨aS,a',_,DO,g1,DT,jw,jx,k,rfl,ea⟩
       |_=>exact nc.elim
      |ret=>
       cases cY with
       |ret=>exact⟨aS,a',_,DO,g1,DT,jw,jx,k,ea⟩
       |_=>exact nc.elim
   cases aK with
   |ready=>exact key (by simp) ag
   |busy=>exact absurd (ag:cm.no=res).symm hn
   |done=>exact key (by simp) ag
   |exhausted=>exact absurd (ag:cm.no=res).symm hn
end Go.ar
namespace Go.ar
variable{X:Ctx}
def lU(X:Ctx)(aZ:ao cM):Prop:=∀f xf,aZ.get f=some xf->∃Fn c,vF X f xf Fn c
def sB(X:Ctx)(fs:m3):Prop:=
 ∀(f:ci) (as:ac be) (st:ay) (r:dh),fs f as st=some r->∀(ι:bs) (as':ac be) (w:co),bJ ι as as'->bo X ι st w->r≠.no->
  (∀as w,(callFunc f as).run X.P w= .ok (.enter f as) w)∧
  ∀(K:CallKind) (bb:Bool->ac Frame),jX ⟨f,K,none⟩ none ι bb->h5 X ι w ⟨f,K,none⟩ bb (lone (Frame.enter X.P f as'.toArray K) (bb false) w) r
variable{fs:m3}{n:Nat}
def rD(aZ:ao cM)(fs:m3)(n:Nat)(f:ci)(first fU:ap be)(args:ac be)(a1:am be)(st:ay):
 b9 aZ fs (n+1) (.func (.func f) first fU) args a1 st=
  bk a1 (fun _=>bk (aZ.get f) (fun xf=>iX (b9 aZ fs n) n f xf (fS first.toList (fS args fU.toList)) a1 st) .no)
   (bk (fs f (fS first.toList (fS args fU.toList)) st) (fun r=>r) (bk (aZ.get f) (fun xf=>iX (b9 aZ fs n) n f xf (fS first.toList (fS args fU.toList)) a1 st) .no)):=rfl
def aiu{aZ:ao cM}(c5:Good X)(gJ:lU X aZ)(pe:sB X fs)(Es:vG X (b9 aZ fs n))(nh:mj X (b9 aZ fs n)):vG X (b9 aZ fs (n+1)):=by
 intro ι f first fU args a1 st wm pN kz w J U ag hw cd
 rw[rD]at cd⊢;simp only[rz]at cd⊢;have has:bJ ι (first.toList++(args++fU.toList)) (wm.toList++(kz++pN.toList)):=J.append (U.append ag);have WU:(wm.toList++(kz++pN.toList)).toArray=wm++kz.toArray++pN:=by
  apply Array.ext';simp
 have AL:∀{K:CallKind} {bb:Bool->ac Frame} (xf:cM),aZ.get f=some xf->jX ⟨f,K,none⟩ a1 ι bb->
  h5 X ι w ⟨f,K,none⟩ bb (lone (Frame.enter X.P f (wm++kz.toArray++pN) K) (bb false) w) (iX (b9 aZ fs n) n f xf (first.toList++(args++fU.toList)) a1 st):=by
  intro K bb xf aa aE;obtain⟨Fn,c,ok⟩:=gJ f xf aa;have:=Lr c5 nh Es (fun b aJ bb _=>Fg nh b aJ bb) ok n (K:=K) (bb:=bb) has hw aE;rw[WU]at this;exact this
 have rS:∀xf,aZ.get f=some xf->∀as w,(callFunc f as).run X.P w= .ok (.enter f as) w:=by
  intro xf aa as w;obtain⟨Fn,c,ok⟩:=gJ f xf aa;exact ok.enters as w
 cases a1 with
 |some tp=>
  cases aa:aZ.get f with
  |none=>rw[aa]at cd;exact absurd rfl cd
  |some xf=>exact⟨rS xf aa,fun K bb aE=>AL xf aa aE⟩
 |none=>
  cases al:fs f (first.toList++(args++fU.toList)) st with
  |some r=>
   rw[al]at cd;obtain⟨g1,aM⟩:=pe f _ st r al ι _ w has hw cd;refine⟨g1,fun K bb aE=> ?_⟩;have:=aM K bb aE;rw[WU]at this;exact this
  |none=>
   cases aa:aZ.get f with
   |none=>rw[al,aa]at cd;exact absurd rfl cd
   |some xf=>exact⟨rS xf aa,fun K bb aE=>AL xf aa aE⟩
def h5.out{ι:bs}{w:co}{f:ci}{c:Frame}{cs:ac Frame}{eL:Frame}{r:dh}(h:h5 X ι w ⟨f,.normal,none⟩ (fun _=>c::cs) (lone eL (c::cs) w) r):Cy X ι w eL c cs r:=by
 cases r with
 |no=>trivial
 |ret v st eK=>
  obtain⟨aS,v',w',F,J,U,ag,az,a4,cl,dn⟩:=h;obtain⟨g1,aM,fn,bc,cf⟩:=cl;exact⟨aS,v',w',J,U,ag,Steps.trans dn (.one (step_leave_returned ⟨g1,aM,az,fn,bc,cf⟩))⟩
 |a1 v st eK=>
  obtain⟨aS,v',w',F,J,U,ag,az,a4,cl,dn⟩:=h;exact⟨aS,v',w',J,U,ag,Steps.trans dn (.one (step_leave_panicked cl))⟩
def ae0{aZ:ao cM}(c5:Good X)(Es:vG X (b9 aZ fs (n+1)))(nh:mj X (b9 aZ fs n)):mj X (b9 aZ fs (n+1)):=by
 intro ι fv args st Hd kz w AN ha hw cd;have Nb:=cd;obtain⟨fn,first,fU,rfl,_⟩:=Qp (v:=fv) (r:=b9 aZ fs (n+1) fv args none st) (z:=dh.no) rfl (fun e=>cd e.symm);cases AN with
 |func _ alD _ av _ vs gv fa fR m6 CE=>
  cases fn with
  |func f=>
   rcases gv with⟨rfl,_⟩|⟨l,b,J,_⟩
   ·obtain⟨rS,mF⟩:=Es ι f first fU args none st av vs kz w (bJ.w4 fa fR) ha (bJ.w4 m6 CE) hw cd
    refine⟨Frame.enter X.P f (av++kz.toArray++vs) .normal,.enter f _ ?_,fun c cs=>h5.out (mF .normal (fun _=>c::cs) (fun F eK aw=> ?_))⟩
    ·simp only[Deferred.ofValue,Sem.run_bind,Sem.run_pure,Result.andThen,invoke];exact rS _ _
    ·have dp:F.kind= .normal:=aw;simp[tryRecover,dp]
   ·cases J
  |yield l=>
   have uv:first.toList=[]:=by
    cases hl:first.toList with
    |nil=>rfl
    |cons x xs=>
     exfalso;apply Nb;show List.rec (motive:=fun _=>dh) _ _ first.toList=_
     rw[hl]
   have pa:fU.toList=[]:=by
    cases hl:fU.toList with
    |nil=>rfl
    |cons x xs=>
     exfalso;apply Nb;show List.rec (motive:=fun _=>dh) (List.rec (motive:=fun _=>dh) _ _ fU.toList) _ first.toList=_
     rw[uv,hl]
   have hM:b9 aZ fs (n+1) (.func (.yield l) first fU) args none st=zG (b9 aZ fs n) n l args st:=by
    show List.rec (motive:=fun _=>dh) (List.rec (motive:=fun _=>dh) _ _ fU.toList) _ first.toList=_
    rw[uv,pa];rfl
   rcases gv with⟨_,gI⟩|⟨j6,b,J,U,ag⟩
   ·exact absurd rfl (gI l)
   ·cases J;subst U;rw[hM]at cd⊢;obtain⟨fn,ts,dB,body,aL,uD⟩:=av1 c5 nh (fun b aJ bb=>Fg nh b aJ bb) ag ha hw cd;refine⟨_,.round b fn ts dB body ?_,uD⟩;have wO:av= #[]:=by
     have:=(bJ.w4 fa fR).1;rw[uv]at this;have h0:av.size=0:=by simpa using this.symm
     exact Array.eq_empty_of_size_eq_zero h0
    simp only[Deferred.ofValue,Sem.run_bind,Sem.run_pure,Result.andThen,invoke,wO];simpa using aL
  |_=>exact absurd rfl Nb
theorem CX{aZ:ao cM}{fs:m3}(c5:Good X)(gJ:lU X aZ)(pe:sB X fs):∀n,vG X (b9 aZ fs n)∧mj X (b9 aZ fs n)
 |0=>⟨fun ι f first fU args a1 st wm pN kz w _ _ _ _ cd=>absurd rfl cd,fun ι fv args st Hd kz w _ _ _ cd=>absurd rfl cd⟩
 |n+1=>by
  obtain⟨J,U⟩:=CX c5 gJ pe n;have ag:=aiu c5 gJ pe J U;exact⟨ag,ae0 c5 ag U⟩
end Go.ar
namespace Go.ar
variable{α:Type}
def ao.sub(eq:α->α->Bool):ao α->ao α->Bool
 |.nil,_=>true
 |.node l v r,.nil=>v.isNone&&ao.sub eq l .nil&&ao.sub eq r .nil
 |.node l v r,.node l' v' dV=>(match v,v' with|none,_=>true|some x,some y=>eq x y|some _,none=>false)&&ao.sub eq l l'&&ao.sub eq r dV
def ao.Fx{eq:α->α->Bool}(he:∀x y,eq x y=true->x=y):∀(a b:ao α),ao.sub eq a b=true->∀n x,a.get n=some x->b.get n=some x
 |.nil,_,_,n,x,h=>by simp at h
 |.node l v r,.nil,ah,n,x,h=>by
  simp only[ao.sub,bW]at ah;exfalso;cases n with
  |zero=>rw[ao.wy]at h;rw[h]at ah;simp at ah
  |succ m=>
   rw[ao.p0]at h;split at h
   ·have:=ao.Fx he l .nil ah.1.2 _ x h;simp at this
   ·have:=ao.Fx he r .nil ah.2 _ x h;simp at this
 |.node l v r,.node l' v' dV,ah,n,x,h=>by
  simp only[ao.sub,bW]at ah;cases n with
  |zero=>
   rw[ao.wy]at h⊢;subst h;cases v' with
   |none=>simp at ah
   |some y=>rw[he x y ah.1.1]
  |succ m=>
   rw[ao.p0]at h⊢;split at h
   ·rw[zab (by assumption)];exact ao.Fx he l l' ah.1.2 _ x h
   ·rw[zaa (by assumption)];exact ao.Fx he r dV ah.2 _ x h
def Am:ac d8->ac d8->Bool
 |[],[]=>true
 |e::es,f::bB=>dJ e.key f.key&&dJ e.val f.val&&Nat.beq e.born f.born&&Am es bB
 |_,_=>false
theorem SU:∀(es bB:ac d8),Am es bB=true->es=bB
 |[],[],_=>rfl
 |e::es,f::bB,h=>by
  simp only[Am,bW]at h;obtain⟨⟨⟨J,U⟩,ag⟩,az⟩:=h;cases e;cases f;rw[SU es bB az];simp only at J U ag;rw[nB _ _ J,nB _ _ U,dD ag]
 |[],_::_,h=>by simp[Am]at h
 |_::_,[],h=>by simp[Am]at h
def F4:bt->bt->Bool
 |.map es c,.map fx bE=>Nat.beq c bE&&Am es fx
 |.cells cs e bg a8,.cells cs' bL eA ui=>Nat.beq e bL&&Nat.beq bg.1 eA.1&&Nat.beq bg.2 eA.2&&(a8==ui)&&mi cs cs'
 |.jI none,.jI none=>true
 |.jI (some []),.jI (some [])=>true
 |.dead,.dead=>true
 |_,_=>false
def ad6(x y:bt)(h:F4 x y=true):x=y:=by
 unfold F4 at h;split at h
 ·rw[bW]at h;rw[dD h.1,SU _ _ h.2]
 ·simp only[bW]at h;obtain⟨⟨⟨⟨J,U⟩,ag⟩,az⟩,a4⟩:=h;rename_i bg _ _ _ eA _;have aC:bg=eA:=Prod.ext (dD U) (dD ag);rw[dD J,aC,zA _ _ a4,zbH az]
 ·rfl
 ·rfl
 ·rfl
 ·cases h
def ay.le(s t:ay):Prop:=s.ai=t.ai∧∀n o,s.h.get n=some o->t.h.get n=some o
variable{s t:ay}
def ay.Iq(s t:ay):Bool:=Nat.beq s.ai t.ai&&ao.sub F4 s.h t.h
def ay.apa(h:ay.Iq s t=true):ay.le s t:=by
 unfold ay.Iq at h;rw[bW]at h;exact⟨dD h.1,ao.Fx ad6 _ _ h.2⟩
def bo.less{X:Ctx}{ι:bs}{w:co}(hl:ay.le s t)(h:bo X ι t w):bo X ι s w:=by
 refine⟨fun id o al aA=>h.ez id o (hl.2 _ _ al) aA,fun i j o p l m af h3 hj iy=>h.inj i j o p l m (hl.2 _ _ af) h3 (hl.2 _ _ hj) iy,fun id pb=> ?_,h.g5,h.mB,?_,fun i l o cx ah al aA=>h.mc i l o cx ah (hl.2 _ _ al) aA⟩
 ·have:=h.fresh id (by rw[<-hl.1];exact pb);refine⟨this.1,?_⟩;cases e:s.h.get id with
  |none=>rfl
  |some o=>rw[hl.2 _ _ e]at this;cases this.2
 ·rw[hl.1];exact h.p1
structure Row where
 as:ac be
 st:ay
 v:be
 st':ay
def Row.yp(r:Row)(as:ac be)(st:ay):Bool:=Nat.beq r.st.ai st.ai&&mi r.as as&&ao.sub F4 r.st.h st.h
variable{X:Ctx}
def eo(X:Ctx)(f:ci)(r:Row):Prop:=
 ∀(ι:bs) (as':ac be) (w:co),bJ ι r.as as'->bo X ι r.st w->
  (∀as w,(callFunc f as).run X.P w= .ok (.enter f as) w)∧
  ∀(K:CallKind) (bb:Bool->ac Frame),jX ⟨f,K,none⟩ none ι bb->h5 X ι w ⟨f,K,none⟩ bb (lone (Frame.enter X.P f as'.toArray K) (bb false) w) (.ret r.v r.st' false)
variable{v:be}{st':ay}
def dL(r:dh)(v:be)(st':ay):Bool:=
 dh.rec (motive:=fun _=>Bool) (fun v1 cu eK=>cond eK false (cond (dJ v v1) (ay.Iq st' cu) false)) (fun _ _ _=>false) false r
def h5.less{ι:bs}{w:co}{b:dF}{bb:Bool->ac Frame}{s:Machine}{st:ay}{eK:Bool}(hl:ay.le st' st)(h:h5 X ι w b bb s (.ret v st eK)):h5 X ι w b bb s (.ret v st' eK):=by
 obtain⟨aS,v',w',F,J,U,ag,az,a4,cl,dn⟩:=h;exact⟨aS,v',w',F,J,bo.less hl U,ag,az,a4,cl,dn⟩
def aff{r:dh}(h:dL r v st'=true):∃cu,r= .ret v cu false∧ay.le st' cu:=by
 cases r with
 |no=>cases h
 |a1 a b c=>cases h
 |ret v1 cu eK=>
  cases eK with
  |true=>cases h
  |false=>
   have aG:cond (dJ v v1) (ay.Iq st' cu) false=true:=h;cases aD:dJ v v1 with
   |false=>rw[aD]at aG;cases aG
   |true=>
    rw[aD]at aG;exact⟨cu,by rw[nB _ _ aD],ay.apa aG⟩
def abw{aZ:ao cM}{fs:m3}(c5:Good X)(gJ:lU X aZ)(pe:sB X fs){n:Nat}{f:ci}{r:Row}
 (h:dL (b9 aZ fs n (.func (.func f) #[] #[]) r.as none r.st) r.v r.st'=true):eo X f r:=by
 obtain⟨cu,he,hl⟩:=aff h;intro ι as' w ha hw;have ah:=(CX c5 gJ pe n).1 ι f #[] #[] r.as none r.st #[] #[] as' w (bJ.nil ι) ha (bJ.nil ι) hw (by rw[he];intro e;cases e);refine⟨ah.1,fun K bb aE=> ?_⟩;have ae:=ah.2 K bb aE;rw[he]at ae;have e:(#[]++as'.toArray++ #[]:ap be)=as'.toArray:=by simp
 rw[e]at ae;exact h5.less hl ae
end Go.ar
namespace Go.ar
variable{X:Ctx}
def OY(fr:aP)(st:ay)(it id since:Nat)(seen:ac Nat)(left:ac d8):ac aV:=
 match left with
 |[]=>[.ok (.tuple #[.bool false]) fr st]
 |left=>left.map fun e=>.ok (.tuple #[.bool true,e.key,e.val]) fr ⟨st.h.set it (.qZ (some id) since (seen++[e.born]) since),st.ai⟩
def tb(fr:aP)(st:ay)(it:bi):ac aV:=
 ik (fr.ak it) (fun p=>bk p (fun a=>bk a.spot (fun _=>[.no]) (dQ a.off 0 (Ih (st.h.get a.block) (fun m since seen n5=>
  bk m (fun id=>qa (st.h.get id) (fun es clock=>dQ since clock (dQ n5 clock (cond (seen.all (fun s=>Nat.ble (Nat.succ s) clock))
   (OY fr st a.block id since seen (es.filter (fun e=> !seen.any (Nat.beq e.born)))) [.no]) [.no]) [.no]) [.no]) [.ok (.tuple #[.bool false]) fr st]) [.no]) [.no])) [.no]) [.no]
section
variable{ι:bs}{fr aI:aP}{a:Act}{aJ:Nat}{st st':ay}{w:co}{o:Oper}{v:be}{call:bG}
def choose_lt(P:d9)(w:co)(n:Nat)(hn:0<n):∃c w',(choose (.mapNext n)).run P w= .ok c w'∧c<n∧w'.heap=w.heap∧rp w w':=by
 rw[run_choose];by_cases h:(Question.mapNext n).forced=true
 ·rw[zab h];exact⟨0,w,rfl,hn,rfl,⟨rfl,rfl⟩⟩
 ·rw[zaa h];exact⟨_,_,rfl,zah _ hn,rfl,⟨rfl,rfl⟩⟩
def Gg(left:ap d8):ap (am d8):=(if left.isEmpty then#[none]else#[])++(left++ #[]).map some
def ae4(left:ap d8):0<(Gg left).size∧∀q∈Gg left,(q=none∧left= #[])∨∃e∈left,q=some e:=by
 unfold Gg;by_cases an:left= #[]
 ·subst an;refine⟨by simp,fun q hq=> ?_⟩;simp at hq;exact .inl ⟨hq,rfl⟩
 ·have cd:left.isEmpty=false:=by simpa using an
  have sU:0<left.size:=Array.size_pos_iff.2 an;rw[cd];refine⟨by simpa using sU,fun q hq=> ?_⟩;simp at hq;obtain⟨e,he,anp⟩:=hq;exact .inr ⟨e,he,anp.symm⟩
def atS{it:bi}(af:cI X.aF it=true)(al:o.op= .next it false)(ae:cy ι fr a aJ)(hw:bo X ι st w)(h:∀r∈tb fr st it,r≠.no):
 ∃v st' v' w',aV.ok v fr st'∈tb fr st it∧(execOp a.eval o).run X.P w= .ok (.value v') w'∧bp ι v v'∧bo X ι st' w'∧e3 ι ι w w':=by
 have cd:[aV.no]≠tb fr st it:=fun e=>h .no (by rw[<-e];simp) rfl;obtain⟨p,hp,g1⟩:=pB (r:=tb fr st it) rfl cd;obtain⟨ad,D7,aM⟩:=gh g1 cd;obtain⟨ah,bc⟩:=w2 aM (fun _=>cd);obtain⟨h0,cf⟩:=kS bc cd;obtain⟨m,since,seen,n5,aR,cL⟩:=X4 cf cd;have l4:=ae.ak hw af;rw[hp,D7]at l4;generalize jd:a.eval it=l9 at l4;obtain⟨l,hl,j6,e6,fz,Fq,mW,Bd,cb,Ht⟩:=hw.ez _ _ aR (by simp);cases l4 with
 |ptr _ l' cx eB=>
  rw[hl]at cx;cases cx;have iQ:l.cP+ad.off=0:=by rw[j6,h0]
  cases m with
  |none=>
   rcases Ht with⟨_,rfl⟩|⟨r,b,bR,aC,_⟩
   ·have ej:[aV.ok (.tuple #[.bool false]) fr st]=tb fr st it:=cL;refine⟨.tuple #[.bool false],st,.tuple #[.bool false],w,by rw[<-ej];simp,?_,bp.n0 (bJ.cons (.bool _) (bJ.nil ι)),hw,.refl ι w⟩;unfold execOp;rw[al];simp only[jd,iQ,Instr.next,Sem.run_bind,PU cb,Result.andThen,Sem.run_pure]
   ·cases aC
  |some id=>
   have ej:qa (st.h.get id) (fun es clock=>dQ since clock (dQ n5 clock (cond (seen.all (fun s=>Nat.ble (Nat.succ s) clock)) (OY fr st ad.block id since seen (es.filter (fun e=> !seen.any (Nat.beq e.born)))) [.no]) [.no]) [.no]) [.no]=tb fr st it:=cL;obtain⟨es,clock,qK,gu⟩:=yX ej cd;obtain⟨aC,nO⟩:=kS gu cd;obtain⟨e2,qF⟩:=kS nO cd;obtain⟨b3,qE⟩:=iJ qF cd;rcases Ht with⟨hh,_⟩|⟨r,b,bR,d1,d2,d3,d4,d5,d6⟩
   ·cases hh
   cases d1;subst d2 aC e2;obtain⟨lm,HL,Oc,eg,C,bE,hC,cT⟩:=hw.ez _ _ qK (by simp);rw[HL]at d3;cases d3;have hC:w.heap[b]? =some (.map C bE):=hC;have cT:jH ι bR es n5 C.toList bE:=cT;have qJ:bE=Fq:=by rw[cT.ki,d4]
   have l0:bE=Bd:=by rw[cT.ki,d6]
   subst qJ l0;obtain⟨L,iR,hlen,h2⟩:=cT.same;have MG:∀x∈C.toList,x.born<bE:=by
    intro x aa;obtain⟨i,dG,rfl⟩:=zbn aa;have l3:i<L.length:=by omega
    rw[(h2 i l3 dG).2.2,cT.ki];exact cT.ql.lt _ (cT.born _ (iR.mem_iff.1 (dy l3)))
   have anC:∀s∈seen,s<n5:=by
    intro s ah;have:=zaP.1 b3 s ah;exact mn.1 this
   have W0:∀e∈es,mW.contains (bR e.born)=seen.any (Nat.beq e.born):=by
    intro e he;rw[zaS,zdp];constructor
    ·intro hc;have:bR e.born∈mW.toList:=by simpa using hc
     rw[d5]at this;obtain⟨s,ah,yE⟩:=zba.1 this;exact⟨s,ah,by rw[cT.ql.inj _ _ (anC s ah) (cT.born e he) yE];exact zaz _⟩
    ·rintro⟨s,ah,hb⟩;have bL:=dD hb;have:bR e.born∈mW.toList:=by rw[d5,bL];exact zba.2 ⟨s,ah,rfl⟩
     simpa using this
   obtain⟨left,DU⟩:∃left,left=C.filter (fun e=> !mW.contains e.born):=⟨_,rfl⟩;have hold:left.filter (fun e=>decide (e.born<bE))=left:=by
    rw[Array.filter_eq_self];intro x aa;rw[DU]at aa;have:=(zdq.1 aa).1;simpa using MG x (by simpa using this)
   have qM:left.filter (fun e=>decide (e.born>=bE))= #[]:=by
    rw[Array.filter_eq_empty_iff];intro x aa;rw[DU]at aa;have:=(zdq.1 aa).1;have:=MG x (by simpa using this);simp;omega
   have aml:(!mW.isEmpty&& !C.isEmpty&&C.all (fun e=>decide (e.born>=bE)))=false:=by
    cases an:C.toList with
    |nil=>have:C= #[]:=by simpa using an
          subst this;simp
    |cons x xs=>
     have aa:=MG x (by rw[an];simp);have:C.all (fun e=>decide (e.born>=bE))=false:=by
      rw[Array.all_eq_false'];exact⟨x,by have:x∈C.toList:=by rw[an];simp
                                         simpa using this,by simpa using aa⟩
     rw[this,Bool.and_false]
   obtain⟨sU,dR⟩:=ae4 left;generalize amh:Gg left=tT at sU dR;obtain⟨mo,e9,j2,aN,DQ,acb⟩:=choose_lt X.P w tT.size sU;have alX:e9.heap[l.cH]? =some (.mapIter (some b) bE mW bE):=by rw[DQ];exact cb
   have Ec:(execOp a.eval o).run X.P w=(match tT[mo]? with
    |some (some e)=>.ok (.value (.tuple #[.bool true,e.key,e.val])) {e9 with heap:=e9.heap.setIfInBounds l.cH (.mapIter (some b) bE (mW.push e.born) bE)}
    |some none=>.ok (.value (.tuple #[.bool false])) e9
    |none=>.halt (.stuck "Next: no such candidate") e9):=by
    unfold execOp;rw[al];simp only[jd,iQ,Instr.next,Sem.run_bind,PU cb,Result.andThen,MapKept.run_getObj_map hC,aml,zaU,if_false];rw[<-DU,hold,qM];have ami:(if left.isEmpty then#[none]else#[])++(left++ #[]).map some=tT:=amh;simp only[ami,j2];cases hq:tT[mo]? with
    |none=>simp[stuck]
    |some q=>
     cases q with
     |none=>simp
     |some e=>simp[asA _ alX]
   have kl:tT[mo]? =some tT[mo]:=zbD aN;rw[kl]at Ec;have HM:tT[mo]∈tT:=Array.getElem_mem aN;cases hq:tT[mo]with
   |none=>
    rw[hq]at Ec HM;have an:left= #[]:=by
     rcases dR none HM with⟨_,h⟩|⟨e,_,h⟩
     ·exact h
     ·cases h
    have MQ:es.filter (fun e=> !seen.any (Nat.beq e.born))=[]:=by
     rw[List.filter_eq_nil_iff];intro e he;obtain⟨i,dG,gw⟩:=zbn (iR.mem_iff.2 he);have l3:i<C.toList.length:=by omega
     have awm:C.toList[i]∈C.toList:=dy l3;have D3:C.toList[i]∉left.toList:=by
      rw[an];simp
     have hb:=(h2 i dG l3).2.2;rw[gw]at hb;have:mW.contains (C.toList[i].born)=true:=by
      by_cases hc:mW.contains (C.toList[i].born)=true
      ·exact hc
      ·exfalso;apply D3;have:C.toList[i]∈left:=DU▸zdq.2 ⟨by simp,by simpa using hc⟩;simpa using this
     rw[hb,W0 e he]at this;simp[this]
    rw[MQ]at qE;have wx:[aV.ok (.tuple #[.bool false]) fr st]=tb fr st it:=qE;exact⟨.tuple #[.bool false],st,.tuple #[.bool false],e9,by rw[<-wx];simp,Ec,bp.n0 (bJ.cons (.bool _) (bJ.nil ι)),hw.xp X DQ,.xp ι DQ acb⟩
   |some e=>
    rw[hq]at Ec HM;have rR:e∈left:=by
     rcases dR (some e) HM with⟨h,_⟩|⟨bL,j3,h⟩
     ·cases h
     ·cases h;exact j3
    obtain⟨Xn,Xo⟩:=zdq.1 (DU▸rR);obtain⟨i,dG,gw⟩:=zbn (show e∈C.toList by simpa using Xn);have l3:i<L.length:=by omega
    have mN:=h2 i l3 dG;rw[gw]at mN;have WN:L[i]∈es:=iR.mem_iff.1 (dy l3);have mI:L[i]∈es.filter (fun e=> !seen.any (Nat.beq e.born)):=by
     rw[List.mem_filter];refine⟨WN,?_⟩;rw[<-W0 _ WN,<-mN.2.2];exact Xo
    have wx:(es.filter (fun e=> !seen.any (Nat.beq e.born))).map (fun e=>aV.ok (.tuple #[.bool true,e.key,e.val]) fr ⟨st.h.set ad.block (.qZ (some id) n5 (seen++[e.born]) n5),st.ai⟩)=tb fr st it:=by
     rw[<-qE];unfold OY;cases an:es.filter (fun e=> !seen.any (Nat.beq e.born))with
     |nil=>rw[an]at mI;cases mI
     |cons x xs=>rfl
    have oA:=hw.xp X DQ;obtain⟨ba,bx⟩:=bo.tB X oA aR (by simp) (fun ae=>ae) hl (.qZ (some id) n5 (seen++[L[i].born]) n5) (.mapIter (some b) bE (mW.push e.born) bE)
     {e9 with heap:=e9.heap.setIfInBounds l.cH (.mapIter (some b) bE (mW.push e.born) bE)} rfl
     (fun _ aW=>⟨j6,e6,_,_,_,_,aW,.inr ⟨id,b,bR,rfl,rfl,HL,d4,by simp[d5,mN.2.2],d6⟩⟩)
    refine⟨.tuple #[.bool true,L[i].key,L[i].val],_,.tuple #[.bool true,e.key,e.val],_,?_,Ec,bp.n0 (bJ.cons (.bool _) (bJ.cons mN.1 (bJ.cons mN.2.1 (bJ.nil ι)))),ba,(e3.xp ι DQ acb).trans bx⟩;rw[<-wx];exact zba.2 ⟨L[i],mI,rfl⟩
end
def xy(k:aP->ay->ac cm)(r:cm):ac cm:=
 cm.rec (motive:=fun _=>ac cm) (fun e fr st=>dv.rec (motive:=fun _=>ac cm) (k fr st) (fun i=>[.out (.exit i) fr st]) [.out .ret fr st] (fun v=>[.out (.a1 v) fr st]) e) [.no] r
def Iy(e:aP->ay->ac cm):Nat->aP->ay->ac cm
 |0,_,_=>[.no]
 |n+1,fr,st=>(e fr st).flatMap (xy (Iy e n))
def K2(call:bG)(d:am Tmp)(ops:ac bz)(r:aV):cm:=
 aV.rec (motive:=fun _=>cm) (fun v fr st=>gG call ops (fr.put d v) st) (fun _ _=>.no) .no r
def nL(call:bG)(b4:Nat)(fn:ci):dm->aP->ay->ac cm
 |.hR (⟨d,.ext (.q1 it),none⟩::ops),fr,st=>(tb fr st it).map (K2 call d ops)
 |.seq a b,fr,st=>(nL call b4 fn a fr st).flatMap (xy (nL call b4 fn b))
 |.cond c a b,fr,st=>mh (fr.ak c) (fun t=>cond t (nL call b4 fn a fr st) (nL call b4 fn b fr st)) [.no]
 |.block i a,fr,st=>(nL call b4 fn a fr st).map (rC i)
 |.loop a,fr,st=>Iy (nL call b4 fn a) b4 fr st
 |.scope a,fr,st=>nL call b4 fn a fr st
 |c,fr,st=>[c1 call b4 fn c fr st]
section
variable{aJ:Nat}{ι:bs}{fr aI:aP}{a:Act}{st st':ay}{w:co}{v:be}{call:bG}{b:dF}{bb:Bool->ac Frame}
def iH(X:Ctx)(b:dF)(aJ:Nat)(bb:Bool->ac Frame)(s:Machine)(k:ac Item)(fr:aP)(ι:bs)(w:co)(L:ac cm):Prop:=
 (∀r∈L,r≠.no)->∃r∈L,fN X b aJ bb s k fr ι w r
variable{k:ac Item}{s:Machine}{L:ac cm}
def iH.head{bq:Machine}{aS:bs}{w':co}(h:Steps X.P s bq)(ab:e3 ι aS w w')(hp:aI.a1=fr.a1)(aE:aI.b0=fr.b0)(aG:iH X b aJ bb bq k aI aS w' L):iH X b aJ bb s k fr ι w L:=by
 intro hn;obtain⟨r,jM,ox⟩:=aG hn;exact⟨r,jM,fN.head h ab hp aE ox⟩
def iH.one{r:cm}(h:fN X b aJ bb s k fr ι w r):iH X b aJ bb s k fr ι w [r]:=fun _=>⟨r,by simp,h⟩
def iH.then{k':ac Item}{g:aP->ay->ac cm}(hex:∀id,exitTo id k=exitTo id k')(h:iH X b aJ bb s k fr ι w L)
 (aR:∀aS a' w' aI st',cy aS aI a' aJ->bo X aS st' w'->e3 ι aS w w'->aI.a1=fr.a1->aI.b0=fr.b0->iH X b aJ bb (lone (b.at a' k) (bb aI.cB) w') k' aI aS w' (g aI st')):iH X b aJ bb s k' fr ι w (L.flatMap (xy g)):=by
 intro hn;have h2:∀r∈L,r≠.no:=by
  intro r aE e;subst e;exact hn .no (zcr.2 ⟨.no,aE,by simp[xy]⟩) rfl
 obtain⟨r,jM,ox⟩:=h h2;cases r with
 |no=>exact absurd rfl (h2 _ jM)
 |out e aI st'=>
  obtain⟨aS,a',w',J,U,ag,az,a4,cl⟩:=ox;cases e with
  |norm=>
   obtain⟨q,rY,wK⟩:=aR aS a' w' aI st' J U ag az a4 (fun r aE=>hn r (zcr.2 ⟨_,jM,aE⟩));exact⟨q,zcr.2 ⟨_,jM,rY⟩,fN.head cl ag az a4 wK⟩
  |exit id=>
   obtain⟨hU,dn,g6⟩:=cl;exact⟨.out (.exit id) aI st',zcr.2 ⟨_,jM,by simp[xy]⟩,aS,a',w',J,U,ag,az,a4,hU,dn.trans (hex id),g6⟩
  |ret=>exact⟨.out .ret aI st',zcr.2 ⟨_,jM,by simp[xy]⟩,aS,a',w',J,U,ag,az,a4,cl⟩
  |a1 v=>exact⟨.out (.a1 v) aI st',zcr.2 ⟨_,jM,by simp[xy]⟩,aS,a',w',J,U,ag,az,a4,cl⟩
def auV(L:ac cm):L.flatMap (xy fun fr st=>[.out .norm fr st])=L:=by
 induction L with
 |nil=>rfl
 |cons r L a7=>
  rw[zcQ,a7];cases r with
  |no=>rfl
  |out e fr st=>cases e<;>rfl
def ase(dR:mj X call){ops:ap Oper}{d:am Tmp}{it:bi}{xs:ac bz}(hlen:xs.length+1=ops.size)(ea:∀(j:Nat) (x:bz) (o:Oper),(⟨d,.ext (.q1 it),none⟩::xs:ac bz)[j]? =some x->ops[j]? =some o->mU X aJ ops x o=true)
 (ae:cy ι fr a aJ) (hw:bo X ι st w) (hb:oc ι fr.b0 b.b0) (aE:jX b fr.a1 ι bb):
 iH X b aJ bb (lone (b.at a (.inRegion ops (List.range ops.size)::k)) (bb fr.cB) w) k fr ι w ((tb fr st it).map (K2 call d xs)):=by
 intro hn;have aN:0<ops.size:=by omega
 have al:ops[0]? =some ops[0]:=zbD aN;have bN:=ea 0 _ ops[0] rfl al;have dM:=EY bN;have aR:ops[0].guard=none:=by
  unfold mU at bN;simp only[bW]at bN;have:=bN.2;split at this
  ·rename_i h;exact h
  ·rename_i h _;cases h
  ·cases this
 have gx:Region.wanted ops[0] (yielded ops a.tmps)=true:=by
  unfold Region.wanted;rw[aR]
 have ov:∃NS,ops[0].op= .next NS false∧b2 X.aF it NS=true:=by
  have ab:FI X.P X.aF X.keys X.pP X.eqs X.p9 X.ma X.qb ops[0].op (.q1 it)=true:=dM;generalize ops[0].op=op at ab;unfold FI at ab;split at ab<;>rename_i aC<;>first|(cases aC;done)|skip
  ·cases aC;exact⟨_,rfl,ab⟩
  ·cases ab
 obtain⟨NS,Xt,yp⟩:=ov;obtain⟨rfl,af⟩:=cQ yp;obtain⟨v,st',v',w',wH,gg,aD,er,ab⟩:=atS af Xt ae hw (fun r aE e=>by
  subst e;exact hn (K2 call d xs .no) (zba.2 ⟨_,aE,rfl⟩) rfl)
 obtain⟨l1,l2⟩:=I6 bN;have ant:List.range ops.size=0::(List.range xs.length).map (· +1):=by
  rw[<-hlen,zdm]
 have lh:b.b0=none∨∀c,ops[0].op≠.defer c:=.inr (by rw[Xt];simp);have eH:=Kj (P:=X.P) (b:=b) (k:=k) (cs:=bb fr.cB) (rest:=(List.range xs.length).map (· +1)) al gx lh gg;refine⟨_,zba.2 ⟨_,wH,rfl⟩,?_⟩;show fN X b aJ bb _ k fr ι w (gG call xs (fr.put d v) st');rw[ant];obtain⟨cv,cF,dU,iE⟩:=tn fr d v;have pf:=I7 (b:=b) (bb:=bb) (k:=k) (ops:=ops) (aJ:=aJ) dR xs ((List.range xs.length).map (· +1)) ι (fr.put d v) (a.put ops[0].dst v') st' w' (by simp) (fun j x i aa af=>by
  have gT:j<xs.length:=(zaf.1 aa).1;have e:i=j+1:=by
   rw[zcs,List.getElem?_range gT]at af;simpa using af.symm
  subst e;have qL:j+1<ops.size:=by omega
  exact⟨ops[j+1],zbD qL,ea (j+1) x _ (by simpa using aa) (zbD qL)⟩)
  (by have:=ae.put l2 aD;rw[<-l1];exact this) er (by rw[cF];exact hb) (by rw[cv];exact aE)
 rw[dU]at pf;exact fN.head (.one eH) ab cv cF pf
def afk(c5:Good X)(dR:mj X call)(sV:zO X call b aJ bb)(gv:∃F,X.P.funcs[b.fn]? =some F∧F.ntmps=aJ)(b4:Nat):∀(lS:dm) (c:Code) (ι:bs) (fr:aP) (a:Act) (st:ay) (w:co) (k:ac Item),codeOk X aJ lS c=true->
 cy ι fr a aJ->bo X ι st w->oc ι fr.b0 b.b0->jX b fr.a1 ι bb->
 iH X b aJ bb (lone (b.at a (.code c::k)) (bb fr.cB) w) k fr ι w (nL call b4 b.fn lS fr st):=by
 intro lS;have yl:∀(c:Code) (ι:bs) (fr:aP) (a:Act) (st:ay) (w:co) (k:ac Item) (lS:dm),codeOk X aJ lS c=true->cy ι fr a aJ->bo X ι st w->oc ι fr.b0 b.b0->jX b fr.a1 ι bb->
  iH X b aJ bb (lone (b.at a (.code c::k)) (bb fr.cB) w) k fr ι w [c1 call b4 b.fn lS fr st]:=
  fun c ι fr a st w k lS hc ae hw hb aE=>iH.one (Gy c5 dR sV gv b4 lS c ι fr a st w k hc ae hw hb aE)
 induction lS with
 |skip=>intro c ι fr a st w k hc ae hw hb aE;exact yl c ι fr a st w k .skip hc ae hw hb aE
 |hR xs=>
  intro c ι fr a st w k hc ae hw hb aE;unfold nL;split
  ·rename_i d it aw7 heq;cases heq;cases c with
   |region id ops draw=>
    cases draw with
    |true=>cases hc
    |false=>
     obtain⟨J,U⟩:=PK (hc:xo X aJ ops _ ops.toList=true);refine iH.head (.one acr) (.refl _ _) rfl rfl (ase dR (by simpa using J) (fun j x o aa al=>U j x o aa (by simpa using al)) ae hw hb aE)
   |_=>cases hc
  all_goals first
   |exact yl c ι _ a _ w k _ hc ae hw hb aE
   |(rename_i heq;cases heq)
 |rH L cj ec ms=>intro c ι fr a st w k hc ae hw hb aE;exact yl c ι fr a st w k (.rH L cj ec ms) hc ae hw hb aE
 |seq x y NN yM=>
  intro c ι fr a st w k hc ae hw hb aE;cases c with
  |seq c d=>
   have hc:(codeOk X aJ x c&&codeOk X aJ y d)=true:=hc;rw[bW]at hc;have J:=NN c ι fr a st w (.code d::k) hc.1 ae hw hb aE;refine iH.head (.one acx) (.refl _ _) rfl rfl (iH.then (k:=.code d::k) (k':=k) (fun id=>rfl) J fun aS a' w' aI st' ef er ab hp hn=> ?_);exact yM d aS aI a' st' w' k hc.2 ef er (by rw[hn];exact hb.mono ab.le) (by rw[hp];exact aE.mono ab.le)
  |_=>cases hc
 |cond x y z yM NO=>
  intro c ι fr a st w k hc ae hw hb aE;cases c with
  |cond o c d=>
   have hc:(b2 X.aF x o&&codeOk X aJ y c&&codeOk X aJ z d)=true:=hc;simp only[bW]at hc;obtain⟨rfl,al⟩:=cQ hc.1.1;show iH X b aJ bb _ k fr ι w (mh (fr.ak x) (fun t=>_root_.cond t (nL call b4 b.fn y fr st) (nL call b4 b.fn z fr st)) [.no]);have aD:=ae.ak hw al;generalize lD:a.eval x=vR at aD;generalize fr.ak x=v at aD;cases v with
   |bool t=>
    cases aD;cases t with
    |true=>exact iH.head (.one (Kh lD)) (.refl _ _) rfl rfl (yM c ι fr a st w k hc.1.2 ae hw hb aE)
    |false=>exact iH.head (.one (Kh lD)) (.refl _ _) rfl rfl (NO d ι fr a st w k hc.2 ae hw hb aE)
   |_=>exact fun hn=>absurd rfl (hn .no (by simp[mh]))
  |_=>cases hc
 |block i x a7=>
  intro c ι fr a st w k hc ae hw hb aE;cases c with
  |block j c=>
   have hc:(Nat.beq i j&&codeOk X aJ x c)=true:=hc;rw[bW]at hc;have e:=eT hc.1;subst e;have J:=a7 c ι fr a st w (.inBlock i::k) hc.2 ae hw hb aE;refine iH.head (.one acj) (.refl _ _) rfl rfl ?_;show iH X b aJ bb _ k fr ι w ((nL call b4 b.fn x fr st).map (rC i));intro hn;obtain⟨r,jM,J⟩:=J (fun r aE e=>by subst e;exact hn (rC i .no) (zba.2 ⟨_,aE,rfl⟩) rfl);exact⟨rC i r,zba.2 ⟨_,jM,rfl⟩,J.cH⟩
  |_=>cases hc
 |loop x a7=>
  intro c ι fr a st w k hc ae hw hb aE;cases c with
  |loop c=>
   have hc:codeOk X aJ x c=true:=hc;have key:∀(n:Nat) (ι:bs) (fr:aP) (a:Act) (st:ay) (w:co),cy ι fr a aJ->bo X ι st w->oc ι fr.b0 b.b0->jX b fr.a1 ι bb->
    iH X b aJ bb (lone (b.at a (.code c:: .inLoop c::k)) (bb fr.cB) w) k fr ι w (Iy (nL call b4 b.fn x) n fr st):=by
    intro n
    induction n with
    |zero=>intros;exact fun hn=>absurd rfl (hn .no (by simp[Iy]))
    |succ n NM=>
     intro ι fr a st w ae hw hb aE;refine iH.then (k:=.inLoop c::k) (fun id=>rfl) (a7 c ι fr a st w (.inLoop c::k) hc ae hw hb aE) fun aS a' w' aI st' ef er ab hp hn=> ?_;exact iH.head (.one acm) (.refl _ _) rfl rfl (NM aS aI a' st' w' ef er (by rw[hn];exact hb.mono ab.le) (by rw[hp];exact aE.mono ab.le))
   exact iH.head (.one aco) (.refl _ _) rfl rfl (key b4 ι fr a st w ae hw hb aE)
  |_=>cases hc
 |B5 f ps dB body _ _=>intro c ι fr a st w k hc ae hw hb aE;exact yl c ι fr a st w k (.B5 f ps dB body) hc ae hw hb aE
 |exit i=>intro c ι fr a st w k hc ae hw hb aE;exact yl c ι fr a st w k (.exit i) hc ae hw hb aE
 |scope x a7=>
  intro c ι fr a st w k hc ae hw hb aE;cases c with
  |scope c=>
   have J:=a7 c ι fr a st w (.inScope c::k) hc ae hw hb aE;refine iH.head (.one acw) (.refl _ _) rfl rfl ?_;show iH X b aJ bb _ k fr ι w (nL call b4 b.fn x fr st);rw[<-auV (nL call b4 b.fn x fr st)];exact iH.then (k:=.inScope c::k) (fun id=>rfl) J fun aS a' w' aI st' ef er _ _ _=>iH.one ⟨aS,a',w',ef,er,.refl _ _,rfl,rfl,.one acn⟩
  |_=>cases hc
 |ret=>intro c ι fr a st w k hc ae hw hb aE;exact yl c ι fr a st w k .ret hc ae hw hb aE
 |refuse=>intro c ι fr a st w k hc ae hw hb aE;exact yl c ι fr a st w k .refuse hc ae hw hb aE
end
