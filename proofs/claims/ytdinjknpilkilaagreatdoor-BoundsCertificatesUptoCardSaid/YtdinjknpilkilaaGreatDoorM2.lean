/- An abstract machine, and that its evaluations stand for runs of the model (part 2); no condition. -/
import Derived.Laws.StructEq
import Derived.Recover
import Derived.Orders
import Derived.Defers
import Derived.RangeFuncLeaves
import Derived.RangeFuncRecord
import Derived.Test.YtdinjknpilkilaaGreatDoorM1
noncomputable section
set_option linter.all false
namespace Go.ah
variable{X:Ctx}
section
variable{ι:bx}{fr aA:aJ}{a:Act}{aP:Nat}{st st':au}{w:d7}{o:Oper}{v:be}{call:bG}
variable{fB:ce}{cX:fW}{t:ce}{m x:bi}{ew:ce}{k:bi}{u:ce}{y:bi}
def atD(dJ:X.keys fB=some cX){k:be}(hk:cX.ok k=true)(w:d7):(Instr.keyThatStays k k).run X.P w= .ok k w:=by
 obtain⟨K,bH⟩:=X.td fB cX dJ;obtain⟨EA,yH⟩:=bH k hk;exact K.stays w yH
def toList_modify(C:ap d9)(j:Nat)(f:d9->d9){c:d9}(h:C.toList[j]? =some c):(C.modify j f).toList=C.toList.set j (f c):=by
 obtain⟨hj,hc⟩:=zaf.1 h;apply List.ext_getElem
 ·simp
 ·intro i h1 h2;rw[List.getElem_set];simp only[zaO,Array.getElem_modify];by_cases e:j=i
  ·subst e;simp only[if_true];rw[<-hc];rfl
  ·rw[zaa e,zaa e]
def fW.pure{v':be}(h:cX.ok v=true)(aL:bq ι v v'):bq ι v v:=by
 have:=fW.same h aL;rw[this]at aL;exact aL
def acm(hm:cH X.az m=true)(hk:cH X.az k=true)(J:cH X.az x=true)(ak:o.op= .mapUpdate t m k x∨o.op= .insert t m k x)(hu:X.P.underlying t=some (.map fB ew))
 (dJ:X.keys fB=some cX) (U:cF ι fr a aP) (hw:bz X ι st w) (h:qF fr st (.hI cX m k x)= .ok v aA st'):aA=fr∧lQ X ι w v st' (execOp a.eval o):=by
 obtain⟨iW,h⟩:=jI h (by simp);obtain⟨r,aL,h⟩:=FQ h (by simp);obtain⟨id,rfl,h⟩:=gO h (by simp);obtain⟨es,c,aO,h⟩:=Bx h (by simp);obtain⟨yG,h⟩:=jI h (by simp);have HM:=U.ai hw hk;have wA:a.eval k=fr.ai k:=fW.same iW HM;have k2:=U.ai hw hm;have c7:=U.ai hw J;rw[aL]at k2;generalize pg:a.eval m=m3 at k2;obtain⟨l,hl,h0,kh,C,bW,hC,dY⟩:=hw.fe _ _ aO (by simp);cases k2 with
 |map _ b ch hb=>
  rw[hl]at hb;cases hb;have hC:w.heap[b]? =some (.map C bW):=hC;have dY:ln ι ch es c C.toList bW:=dY;have hex:∀w',(Instr.mapUpdate t (.map (some b)) (fr.ai k) (a.eval x)).run X.P w= .ok () w'->(execOp a.eval o).run X.P w= .ok .skip w':=by
   intro w' gB;unfold execOp;rcases ak with ak|ak<;>(rw[ak];simp only[pg,wA];simp[gB,Result.andThen])
  rcases dY.find (X:=X) dJ iW yG w with⟨h1,h2,_⟩|⟨e,j,o1,h1,h2,ab,aD,bg,cv,dq,hB⟩
  ·rw[h2]at h;have h:st.h3 id (.map (es++[⟨fr.ai k,fr.ai x,c⟩]) (Nat.succ c)) (fun st=>aV.ok undef fr st)= .ok v aA st':=h;rw[lk]at h;cases h;have gB:(Instr.mapUpdate t (.map (some b)) (fr.ai k) (a.eval x)).run X.P w= .ok () {w with heap:=w.heap.setIfInBounds b (.map (C.push {key:=fr.ai k,val:=a.eval x,born:=bW}) (bW+1))}:=by
    simp only[Instr.mapUpdate,Sem.run_bind,run_underlying hu,Result.andThen,MapKept.run_getObj_map hC,xU dJ iW,h1,MapKept.run_setObj_map _ hC]
   obtain⟨bf,bL⟩:=bz.xt X hw aO (by simp) (fun U=>U) hl (.map (es++[⟨fr.ai k,fr.ai x,c⟩]) (Nat.succ c)) (.map (C.push {key:=fr.ai k,val:=a.eval x,born:=bW}) (bW+1)) {w with heap:=w.heap.setIfInBounds b (.map (C.push {key:=fr.ai k,val:=a.eval x,born:=bW}) (bW+1))} rfl
    (fun _ aF=>⟨rfl,rfl,_,_,aF,by
     have:=dY.push (fW.pure iW HM) h2 c7;simpa using this⟩)
   exact⟨rfl,ι,.skip,_,hex _ gB,.inr ⟨rfl,rfl⟩,bf,bL⟩
  ·rw[aD]at h;have h:st.h3 id (.map (By (fr.ai k) (fr.ai x) es) c) (fun st=>aV.ok undef fr st)= .ok v aA st':=h;rw[lk]at h;cases h;have hj:C[j]? =some o1:=by rw[<-Array.getElem?_toList];exact h2
   have gB:(Instr.mapUpdate t (.map (some b)) (fr.ai k) (a.eval x)).run X.P w= .ok () {w with heap:=w.heap.setIfInBounds b (.map (C.modify j fun e=>{e with key:=fr.ai k,val:=a.eval x}) bW)}:=by
    simp only[Instr.mapUpdate,Sem.run_bind,run_underlying hu,Result.andThen,MapKept.run_getObj_map hC,xU dJ iW,h1,MapKept.run_setObj_map _ hC,hj,Option.map_some,zep,ab,atD dJ iW]
   obtain⟨bf,bL⟩:=bz.xt X hw aO (by simp) (fun U=>U) hl (.map (By (fr.ai k) (fr.ai x) es) c) (.map (C.modify j fun e=>{e with key:=fr.ai k,val:=a.eval x}) bW) {w with heap:=w.heap.setIfInBounds b (.map (C.modify j fun e=>{e with key:=fr.ai k,val:=a.eval x}) bW)} rfl
    (fun _ aF=>⟨rfl,rfl,_,_,aF,by
     rw[toList_modify C j _ h2];exact dY.put yG h2 ab c7⟩)
   exact⟨rfl,ι,.skip,_,hex _ gB,.inr ⟨rfl,rfl⟩,bf,bL⟩
def asr(hm:cH X.az m=true)(hk:cH X.az k=true)(ak:o.op= .call {callee:=.builtin .delete,args:= #[m,k],argTypes:= #[t,u]})(hu:X.P.underlying t=some (.map fB ew))
 (dJ:X.keys fB=some cX) (U:cF ι fr a aP) (hw:bz X ι st w) (h:qF fr st (.del cX m k)= .ok v aA st'):aA=fr∧lQ X ι w v st' (execOp a.eval o):=by
 obtain⟨iW,h⟩:=jI h (by simp);obtain⟨r,aL,h⟩:=FQ h (by simp);obtain⟨id,rfl,h⟩:=gO h (by simp);obtain⟨es,c,aO,h⟩:=Bx h (by simp);obtain⟨yG,h⟩:=jI h (by simp);rw[lk]at h;cases h;have HM:=U.ai hw hk;have wA:a.eval k=fr.ai k:=fW.same iW HM;have k2:=U.ai hw hm;rw[aL]at k2;generalize pg:a.eval m=m3 at k2;obtain⟨l,hl,h0,kh,C,bW,hC,dY⟩:=hw.fe _ _ aO (by simp);cases k2 with
 |map _ b ch hb=>
  rw[hl]at hb;cases hb;have hC:w.heap[b]? =some (.map C bW):=hC;have dY:ln ι ch es c C.toList bW:=dY;rcases dY.find (X:=X) dJ iW yG w with⟨h1,h2,_⟩|⟨e,j,o1,h1,h2,ab,aD,bg,cv,dq,hB⟩
  ·have pe:Bw (fr.ai k) es=es:=by
    unfold Bw;rw[List.filter_eq_self];intro e he;have:=OC h2 e he;cases aB:dU (fr.ai k) e.key
    ·rfl
    ·exact absurd (od _ _ aB).symm this
   obtain⟨bf,bL⟩:=bz.xt X hw aO (by simp) (fun U=>U) hl (.map (Bw (fr.ai k) es) c) (.map C bW) {w with heap:=w.heap.setIfInBounds b (.map C bW)} rfl (fun _ aF=>⟨rfl,rfl,_,_,aF,by rw[pe];exact dY⟩);refine⟨rfl,ι,.value (.tuple #[]),_,?_,.inl ⟨_,rfl,bq.sh (bI.nil ι)⟩,bf,bL⟩;unfold execOp;rw[ak];simp[resolve,invoke,builtin,pg,wA,Builtin.delete_,run_underlying hu,Result.andThen,MapKept.run_getObj_map hC,xU dJ iW,h1,MapKept.run_setObj_map _ hC]
  ·obtain⟨bf,bL⟩:=bz.xt X hw aO (by simp) (fun U=>U) hl (.map (Bw (fr.ai k) es) c) (.map (C.eraseIdxIfInBounds j) bW) {w with heap:=w.heap.setIfInBounds b (.map (C.eraseIdxIfInBounds j) bW)} rfl (fun _ aF=>⟨rfl,rfl,_,_,aF,by
    have:=dY.del yG h2 ab;rw[Array.toList_eraseIdxIfInBounds];exact this⟩)
   refine⟨rfl,ι,.value (.tuple #[]),_,?_,.inl ⟨_,rfl,bq.sh (bI.nil ι)⟩,bf,bL⟩;unfold execOp;rw[ak];simp[resolve,invoke,builtin,pg,wA,Builtin.delete_,run_underlying hu,Result.andThen,MapKept.run_getObj_map hC,xU dJ iW,h1,MapKept.run_setObj_map _ hC]
def asO(hm:cH X.az m=true)(ak:o.op= .range t m)(hu:X.P.underlying t=some (.map fB ew))(U:cF ι fr a aP)(hw:bz X ι st w)
 (h:qF fr st (.BB m)= .ok v aA st'):aA=fr∧lQ X ι w v st' (execOp a.eval o):=by
 obtain⟨r,aL,h⟩:=FQ h (by simp);have k2:=U.ai hw hm;rw[aL]at k2;generalize pg:a.eval m=m3 at k2;cases r with
 |none=>
  cases k2;have h:st.j1 (.va none 0 [] 0) (fun id st=>aV.ok (.pointer (some ⟨id,0,none⟩)) fr st)= .ok v aA st':=h;rw[g8]at h;cases h;obtain⟨aR,bf,bL,eM,p6⟩:=bz.alloc X hw (.va none 0 [] 0) (.mapIter none 0 #[] 0) 0 (fun aR w' _ _ aF=>⟨rfl,rfl,_,_,_,_,aF,.inl ⟨rfl,rfl⟩⟩) {w with heap:=w.heap.push (.mapIter none 0 #[] 0)} rfl;refine⟨rfl,aR,.value (.pointer (some ⟨w.heap.size,0,none⟩)),_,?_,.inl ⟨_,rfl,?_⟩,bf,bL⟩
  ·unfold execOp;rw[ak];simp[pg,Instr.range,run_underlying hu,Result.andThen]
  ·exact bq.ptr ⟨st.aj,0,none⟩ _ eM rfl
 |some id=>
  have h:sb (st.h.get id) (fun _ clock=>st.j1 (.va (some id) clock [] clock) fun id st=>aV.ok (.pointer (some ⟨id,0,none⟩)) fr st) .no= .ok v aA st':=h;obtain⟨es,c,aO,h⟩:=Bx h (by simp);rw[g8]at h;cases h;obtain⟨l,hl,h0,kh,C,bW,hC,dY⟩:=hw.fe _ _ aO (by simp);cases k2 with
  |map _ b ch hb=>
   rw[hl]at hb;cases hb;have hC:w.heap[b]? =some (.map C bW):=hC;have dY:ln ι ch es c C.toList bW:=dY;obtain⟨aR,bf,bL,eM,p6⟩:=bz.alloc X hw (.va (some id) c [] c) (.mapIter (some b) bW #[] bW) 0
    (fun aR w' hle _ aF=>⟨rfl,rfl,_,_,_,_,aF,.inr ⟨id,b,ch,rfl,rfl,hle _ _ hl,dY.ub,rfl,dY.ub⟩⟩) {w with heap:=w.heap.push (.mapIter (some b) bW #[] bW)} rfl
   refine⟨rfl,aR,.value (.pointer (some ⟨w.heap.size,0,none⟩)),_,?_,.inl ⟨_,rfl,?_⟩,bf,bL⟩
   ·unfold execOp;rw[ak];simp[pg,Instr.range,run_underlying hu,Result.andThen,MapKept.run_getObj_map hC]
   ·exact bq.ptr ⟨st.aj,0,none⟩ _ eM rfl
def ln.atC{ch:Nat->Nat}{es:ac d9}{clock:Nat}{C:ac d9}{lr:Nat}(h:ln ι ch es clock C lr){s:Nat}(af:s<clock){e:d9}(he:es.find? (fun e=>Nat.beq e.born s)=some e):
 ∃c,C.find? (fun c=>c.born==ch s)=some c∧bq ι e.key c.key∧bq ι e.val c.val:=by
 obtain⟨l,hp,hlen,hl⟩:=h.same;have hq:=zdM he;have hb:e.born=s:=eo hq;have hm:=zdL he;obtain⟨i,aa,hs⟩:=zdN (hp.mem_iff.2 hm);have eC:i<C.length:=by omega
 cases U:C.find? (fun c=>c.born==ch s)with
 |none=>
  exfalso;have:=List.find?_eq_none.1 U C[i] (fy eC);have ab:=(hl i aa eC).2.2;rw[hs,hb]at ab;rw[ab]at this;simp at this
 |some c=>
  have Xl:c.born=ch s:=by simpa using zdM U
  obtain⟨k,hk,Xy⟩:=zdN (zdL U);have fs:k<l.length:=by omega
  have ab:=hl k fs hk;have aD:l[k].born<clock:=h.born _ (hp.mem_iff.1 (fy fs));have bg:ch l[k].born=ch s:=by rw[<-ab.2.2,Xy,Xl]
  have cv:=h.Ci.inj _ _ aD af bg;have qP:l.Pairwise (fun a b=>a.born≠b.born):=(hp.symm.pairwise_iff (R:=fun a b:d9=>a.born≠b.born) (fun{a b} h=>h.symm)).1 h.Aq;have DQ:i=k:=by
   rcases zbo i k with g|g|g
   ·exact absurd (by rw[hs,hb,cv]) (zdc.1 qP i k aa fs g)
   ·exact g
   ·exact absurd (by rw[hs,hb,cv]) (zdc.1 qP k i fs aa g)
  subst DQ;rw[hs,Xy]at ab;exact⟨c,rfl,ab.1,ab.2.1⟩
def arH{P:f5}{r:Nat}{m:am Nat}{a:Nat}{s:ap Nat}{b:Nat}(hb:w.heap[r]? =some (.mapIter m a s b)):(getObj r).run P w= .ok (.mapIter m a s b) w:=by
 simp[getObj,Sem.run,hb]
def asJ{i:bi}(aa:cH X.az i=true)(ak:o.op= .entry i)(U:cF ι fr a aP)(hw:bz X ι st w)
 (h:qF fr st (.Bz i)= .ok v aA st'):aA=fr∧cl X ι w v st st' (execOp a.eval o):=by
 obtain⟨p,hp,aH⟩:=rp h (by simp);obtain⟨ad,amn,aI⟩:=gO aH (by simp);obtain⟨af,bj⟩:=ES aI (fun _=>by simp);obtain⟨h0,cn⟩:=mN bj (by simp);obtain⟨m,since,seen,Cj,aO,cT⟩:=anF cn (by simp);obtain⟨id,Ns,eB⟩:=gO cT (by simp);obtain⟨s,nZ,gb⟩:=gO eB (by simp);obtain⟨es,clock,qM,nV⟩:=Bx gb (by simp);obtain⟨h1,sV⟩:=mN nV (by simp);obtain⟨h2,yh⟩:=jZ sV (by simp);obtain⟨e,he,Hn⟩:=gO yh (by simp);clear h aH aI bj cn cT eB gb nV sV yh;subst amn Ns;cases Hn;have pX:=U.ai hw aa;rw[hp]at pX;generalize hD:a.eval i=nw at pX;obtain⟨l,hl,ny,gE,gF,QJ,Cf,Is,cg,alp⟩:=hw.fe _ _ aO (by simp);rcases alp with⟨hh,_⟩|⟨r,b,ch,aq,e2,bS,gK,o7,G1⟩
 ·cases hh
 ·cases aq;subst e2;obtain⟨lm,al3,aoF,jb,C,bW,hC,dY⟩:=hw.fe _ _ qM (by simp);rw[al3]at bS;cases bS;have hC:w.heap[b]? =some (.map C bW):=hC;have dY:ln ι ch es clock C.toList bW:=dY;cases pX with
  |ptr _ l' cy ft=>
   rw[hl]at cy;cases cy;obtain⟨c,wo,pT,M5⟩:=dY.atC h2 he;have yq:Cf.back?=some (ch s):=by
    have:Cf.back?=Cf.toList.getLast?:=by simp
    rw[this,o7,List.getLast?_map];rw[show seen.getLast?=some s from nZ];rfl
   have ox:bW=Is:=by rw[dY.ub,G1,h1]
   have alJ:C.find? (fun x=>x.born==ch s)=some c:=by rw[<-Array.find?_toList];exact wo
   refine⟨rfl,cl.same (v':=.tuple #[c.key,c.val]) hw ?_ (bq.sh (bI.cons pT (bI.cons M5 (bI.nil ι))))⟩;unfold execOp;rw[ak];have jL:l.cQ+ad.off=0:=by rw[ny,h0]
   simp only[hD,jL,Instr.entry,Sem.run_bind,arH cg,Result.andThen,yq,Sem.run_pure,MapKept.run_getObj_map hC];simp[ox,alJ]
def asm{f:ci}{ts:ap ce}(J:cH X.az x=true)(ay:cH X.az y=true)(eJ:X.qy f=true)(ak:o.op= .call {callee:=.value (.func f),args:= #[x,y],argTypes:=ts})(U:cF ι fr a aP)(hw:bz X ι st w)
 (h:qF fr st (.a6 x y)= .ok v aA st'):aA=fr∧cl X ι w v st st' (execOp a.eval o):=by
 obtain⟨s,af,aH⟩:=ql h (by simp);obtain⟨k,o1,hc,aI⟩:=j7 aH (by simp);obtain⟨hk,bj⟩:=jI aI (by simp);obtain⟨c,aq,cn⟩:=nB bj (by simp);have fs:=u0 hk;clear h aH aI bj;subst aq fs;have c7:=U.ai hw J;rw[af]at c7;generalize cB:a.eval x=fH at c7;have fM:=U.ai hw ay;rw[hc]at fM;generalize gC:a.eval y=ru at fM;cases c7;cases fM;cases cn;refine⟨rfl,cl.same (v':=.int .i64 (.ofNat (s.data.toList.countP (fun b=>b==UInt8.ofNat c)))) hw ?_ (.int _ _)⟩;rw[G9 ak];have:=X.C5 f eJ s (c:Int) w;simp only[zcK,zaZ,zcs,cB,gC];rw[this];rfl
def ass{neg:Bool}{n:Nat}(J:cH X.az x=true)(ay:cH X.az y=true)(dF:X.eqs t=some n)(ak:o.op= .binOp (if neg then .neq else .eql) t x y u)(U:cF ι fr a aP)(hw:bz X ι st w)
 (h:qF fr st (.uu neg n x y)= .ok v aA st'):aA=fr∧cl X ι w v st st' (execOp a.eval o):=by
 obtain⟨xs,r2,h⟩:=zV h (by simp);obtain⟨al,wJ,h⟩:=zV h (by simp);obtain⟨h1,h⟩:=mN h (by simp);obtain⟨h2,h⟩:=mN h (by simp);obtain⟨b,hb,h⟩:=gO h (by simp);cases h;rw[fC]at h1 h2;have h1:xs.toList.length=n%100+n/100:=h1;have h2:al.toList.length=n%100+n/100:=h2;have hb:o8 (n%100) xs.toList al.toList=some b:=hb;have plain:∀(l m:ac be) (j:Nat) (b:Bool),o8 j l m=some b->∀(i:Nat) (aa:i<l.length) (hj:i<m.length) (u v:be),(bq ι l[i] u->u=l[i])∧(bq ι m[i] v->v=m[i]):=by
  intro l
  induction l with
  |nil=>intro m j b _ i aa;simp at aa
  |cons p ps a1=>
   intro m j b hb i aa hj u v;cases m with
   |nil=>simp at hj
   |cons q dt=>
    unfold o8 at hb;obtain⟨c3,iU,mm⟩:=gO (z:=none) (r:=some b) hb (by simp);cases i with
    |zero=>
     simp only[List.getElem_cons_zero];unfold TX G5 Mq at iU;split at iU<;>split at iU<;>first|(cases iU;done)|exact⟨fun aL=>by cases aL;rfl,fun aL=>by cases aL;rfl⟩
    |succ i=>
     simp only[List.getElem_cons_succ];have:∃gw,o8 (j-1) ps dt=some gw:=by
      cases c3
      ·obtain⟨gw,cZ,_⟩:=gO (z:=none) (r:=some b) mm (by simp);exact⟨gw,cZ⟩
      ·exact⟨b,mm⟩
     obtain⟨gw,cZ⟩:=this;exact a1 dt _ gw cZ i (by simpa using aa) (by simpa using hj) u v
 have hQ:=plain _ _ _ _ hb;have c7:=U.ai hw J;rw[r2]at c7;generalize cB:a.eval x=fH at c7;have fM:=U.ai hw ay;rw[wJ]at fM;generalize gC:a.eval y=ru at fM;cases c7 with
 |agg _ vG gU hM=>
  cases fM with
  |agg _ jR c3 eP=>
   have am5:vG=xs:=by
    apply Array.ext
    ·exact gU.symm
    ·intro i c d;have:=(hQ i (by simpa using d) (by simp;simp at h1 h2;omega) vG[i] vG[i]).1 (by simpa using hM i d c);simpa using this
   have am8:jR=al:=by
    apply Array.ext
    ·exact c3.symm
    ·intro i c d;have:=(hQ i (by simp;simp at h1 h2;omega) (by simpa using d) jR[i] jR[i]).2 (by simpa using eP i d c);simpa using this
   subst am5 am8;obtain⟨DO,heq⟩:=X.ya t n dF;have hq:=heq vG jR b w (by simpa using h1) (by simpa using h2) hb;refine⟨rfl,cl.same (v':=.bool (cond neg (!b) b)) hw ?_ (.bool _)⟩;unfold execOp;rw[ak];cases neg
   ·simp only[cB,gC,zbt,if_false];have aO:(eqGuard .eql t x y (.agg vG) (.agg jR)).run X.P w= .ok () w:=by
     simp[eqGuard,program,Sem.run,DO]
    simp[aO,run_eql_struct,hq,Result.andThen]
   ·simp only[cB,gC,if_true];have aO:(eqGuard .neq t x y (.agg vG) (.agg jR)).run X.P w= .ok () w:=by
     simp[eqGuard,program,Sem.run,DO]
    simp[aO,run_neq_struct,hq,Result.andThen]
end
variable{ι:bx}{y:be}
def bq.O5{c:Nat}(h:bq ι (.chan (some c)) y)(hc:c≠0):∃m,y= .int .i64 m∧adv c m:=by
 generalize aB:Value.chan (some c)=v at h;cases h with
 |ks bW m h=>cases aB;exact⟨m,rfl,h⟩
 |top _=>unfold jB at aB;cases aB;exact absurd rfl hc
 |_=>cases aB
def S0{n:Nat}{v:be}{b:Bool}(h:C4 n v=some b)(aL:bq ι v y):∃m:Int,y= .int .i64 m∧b=decide ((n:Int)<=m):=by
 unfold C4 at h;split at h
 ·rename_i c;split at h
  ·rename_i h2;split at h
   ·rename_i ab;cases h;obtain⟨m,rfl,hu⟩:=aL.O5 (by omega);refine⟨m,rfl,?_⟩;have:(n:Int)<=m:=by
     rcases hu with hu|⟨k,hk,hm⟩|⟨k,hk,hm⟩<;>omega
    simp[this]
   ·cases h
  ·rename_i h2;split at h
   ·rename_i ab;cases h;obtain⟨m,rfl,hu⟩:=aL.O5 (by omega);refine⟨m,rfl,?_⟩;have:¬(n:Int)<=m:=by
     rcases hu with hu|⟨k,hk,hm⟩|⟨k,hk,hm⟩<;>omega
    simp[this]
   ·cases h
 ·cases h
section
variable{ι:bx}{fr aA:aJ}{a:Act}{aP:Nat}{st st':au}{w:d7}{o:Oper}{v:be}{call:bG}
variable{x:bi}
def asl{gt:Bool}{y:bi}{t u:ce}(J:cH X.az x=true)(ay:cH X.az y=true)(ak:o.op= .binOp (if gt then .gtr else .leq) t x y u)(U:cF ι fr a aP)(hw:bz X ι st w)
 (h:qF fr st (.xW gt x y)= .ok v aA st'):aA=fr∧cl X ι w v st st' (execOp a.eval o):=by
 obtain⟨k,th,r2,h1⟩:=j7 h (by simp);obtain⟨hk,h2⟩:=jI h1 (by simp);obtain⟨n,hn,ab⟩:=nB h2 (by simp);obtain⟨b,hb,aD⟩:=gO ab (by simp);have fs:=u0 hk;subst fs hn;cases aD;have c7:=U.ai hw J;rw[r2]at c7;generalize cB:a.eval x=fH at c7;cases c7;obtain⟨m,gC,A2⟩:=S0 hb (U.ai hw ay);refine⟨rfl,cl.same (v':=.bool (cond gt (!b) b)) hw ?_ (.bool _)⟩;unfold execOp;rw[ak,A2];cases gt
 ·simp[cB,gC,eqGuard,binOp,Op.intCmp]
 ·simp only[cB,gC,if_true];have:(!decide ((n:Int)<=m))=decide (m<(n:Int)):=by rw[zbl];simp
  simp[eqGuard,binOp,Op.intCmp,this]
def asB{f:ci}{y:bi}{ts:ap ce}(J:cH X.az x=true)(ay:cH X.az y=true)(eJ:X.qV f=true)(ak:o.op= .call {callee:=.value (.func f),args:= #[x,y],argTypes:=ts})(U:cF ι fr a aP)(hw:bz X ι st w)
 (h:qF fr st (.idxs X.m1 x y)= .ok v aA st'):aA=fr∧cl X ι w v st st' (execOp a.eval o):=by
 obtain⟨s,af,aH⟩:=ql h (by simp);obtain⟨b,hb,aI⟩:=ql aH (by simp);unfold xQ at aI;obtain⟨eK,uM,bj⟩:=gO aI (by simp);cases eK with
 |cells cs el bk a3=>
  have cn:cond a3 aV.no (one cs (fun c=>cond (N2 (dL b.data.toList) c) (ey 2 (dL b.data.toList) (ey (dL s.data.toList) 1000000
   (.ok (.int .i64 (bm (px b.data.toList s.data.toList) (fun i=>.ofNat i) (.negSucc 0))) fr st) .no) .no) .no) .no)= .ok v aA st':=bj
  obtain⟨yA,cT⟩:=BF cn (by simp);obtain⟨c,hc,eB⟩:=BP cT (by simp);obtain⟨aa,gb⟩:=jI eB (by simp);obtain⟨h2,nV⟩:=jZ gb (by simp);obtain⟨ab,sV⟩:=jZ nV (by simp);rw[fC]at aa h2 ab;cases sV;have c7:=U.ai hw J;rw[af]at c7;generalize cB:a.eval x=fH at c7;have fM:=U.ai hw ay;rw[hb]at fM;generalize gC:a.eval y=ru at fM;cases c7;cases fM;obtain⟨l,hl,C,fk,hC⟩:=hw.fe _ _ uM (by simp);rw[hw.nW _ X.EE]at hl;cases hl;subst hc;obtain⟨bW,wo,pT⟩:=hC.cell 0 (by simp);have alw:C4 b.data.toList.length c=some true:=by
   unfold N2 at aa;split at aa
   ·assumption
   ·cases aa
  obtain⟨m,rfl,A2⟩:=S0 alw pT;have hle:((b.data.toList.length:Nat):Int)<=m:=by simpa using A2.symm
  have al4:(load ⟨X.m1,0,none⟩).run X.P w= .ok (.int .i64 m) w:=by
   have M5:C[0]? =some (.int .i64 m):=by simpa using wo
   rw[run_load,cell_of hC.there];simp[M5]
  refine⟨rfl,cl.same (v':=.int .i64 (bm (px b.data.toList s.data.toList) (fun i=>.ofNat i) (.negSucc 0))) hw ?_ (.int _ _)⟩;rw[G9 ak];have:=X.Es f eJ s b m w al4 (by simpa using h2) (by simpa using hle) (by simpa using ab);simp only[zcK,zaZ,zcs,cB,gC];rw[this];cases px b.data.toList s.data.toList<;>rfl
 |_=>cases bj
end
variable{P:f5}{t:ce}{a:Nat}
def de.inPlace:de->Bool
 |.call _ _|.inv _ _ _|.xl|.rK _ _|.sk _=>false
 |_=>true
def Ctx.la(X:Ctx)(op:Op)(x:de):Bool:=auV X.P X.az X.kI X.k4 X.keys X.qy X.eqs X.qV X.m1 op x
def nM{n:Nat}(h:g1 P t=some n):∃i,P.info? t=some i∧i.size=n:=by
 unfold g1 at h;exact zbv.1 h
def FX{v:be}(h:sC P t=some v):∃i,P.info? t=some i∧i.zero=some v:=by
 unfold sC at h;exact zcu.1 h
def CQ{g:Bool}(h:qp P t=some g):∃d,P.underlying t=some d∧rE d=g:=by
 unfold qp at h;exact zbv.1 h
def e5{b:Nat}(h:Nat.beq a b=true):a=b:=eo h
def IZ(h:(!Nat.beq a 0)=true):a≠0:=by intro e;subst e;simp at h
def vQ.tb:vQ->Bool
 |.look _ _ _ _ _|.BA _|.Bz _|.a6 _ _|.uu _ _ _ _|.xW _ _ _|.idxs _ _ _=>true
 |_=>false
def de.tb:de->Bool
 |.ext y=>y.tb
 |.alloc _ _|.box _ _|.pJ _ _ _ _|.store _ _ _|.vX _ _|.vc|.qc _ _ _ _ _|.call _ _|.inv _ _ _|.wM _|.app _ _ _ _ _|.rI _ _ _|.xl|.rK _ _|.sk _|.tE _ _ _|.refuse=>false
 |_=>true
def de.uV:de->Bool
 |.alloc _ _|.box _ _|.pJ _ _ _ _|.vX _ _|.qc _ _ _ _ _|.vc=>true
 |_=>false
def xJ(X:Ctx)(x:de)(ι:bx)(w:d7)(v:be)(st st':au)(s:Sem Next):Prop:=
 lQ X ι w v st' s∧(x.tb=true->cl X ι w v st st' s)∧(x.uV=true->tP X ι w v st st' s)
section
variable{p:Prop}{x:de}{ι:bx}{w:d7}{v:be}{st st':au}{s:Sem Next}
def fD(h:p∧cl X ι w v st st' s)(J:x.uV=false):p∧xJ X x ι w v st st' s:=⟨h.1,h.2.QI,fun _=>h.2,fun e=>by rw[J]at e;cases e⟩
def Al(h:p∧tP X ι w v st st' s)(J:x.tb=false):p∧xJ X x ι w v st st' s:=⟨h.1,h.2.QI,fun e=>(by rw[J]at e;cases e),fun _=>h.2⟩
def xA(h:p∧lQ X ι w v st' s)(J:x.tb=false)(bP:x.uV=false):p∧xJ X x ι w v st st' s:=⟨h.1,h.2,fun e=>(by rw[J]at e;cases e),fun e=>by rw[bP]at e;cases e⟩
end
def MP:de->Bool
 |.m3 _|.pick _ _ _|.alloc _ _|.box _ _|.build _ _|.pJ _ _ _ _|.lE _|.p9 _ _|.store _ _ _|.tj _|.bin _ _ _|.eqv _ _ _ _|.un _ _|.vc|.refuse|.wM _=>true
 |_=>false
section
variable{ι:bx}{fr aA:aJ}{a:Act}{aP:Nat}{st st':au}{w:d7}{o:Oper}{v:be}{call:bG}
def apC{x:de}(hk:X.la o.op x=true)(U:cF ι fr a aP)(hw:bz X ι st w)(h:bK call x fr st= .ok v aA st')
 (J:MP x=true):
 aA=fr∧xJ X x ι w v st st' (execOp a.eval o):=by
 generalize ak:o.op=op at hk;cases x with
 |m3 p=>
  cases op with
  |move q=>obtain⟨rfl,h2⟩:=c9 hk;exact fD (ack (call:=call) h2 (.inl ak) U hw h) rfl
  |assign q=>obtain⟨rfl,h2⟩:=c9 hk;exact fD (ack (call:=call) h2 (.inr ak) U hw h) rfl
  |_=>cases hk
 |pick c p q=>
  cases op with
  |pick bW dZ gZ=>
   have hk:(bT X.az c bW&&bT X.az p dZ&&bT X.az q gZ)=true:=hk;simp only[b4]at hk;obtain⟨⟨h1,h2⟩,ab⟩:=hk;obtain⟨rfl,bf⟩:=c9 h1;obtain⟨rfl,bL⟩:=c9 h2;obtain⟨rfl,eM⟩:=c9 ab;exact fD (asS (call:=call) bf bL eM ak U hw h) rfl
  |_=>cases hk
 |alloc z e=>
  cases op with
  |alloc t=>
   have hk:(Nat.beq e t&&(match sC X.P t with|some v=>nb z v.cells.toList&&nO z|none=>false))=true:=hk;rw[b4]at hk;obtain⟨h1,h2⟩:=hk;have aq:=e5 h1;subst aq;split at h2
   ·rename_i tJ r4;rw[b4]at h2;have e2:=zY _ _ h2.1;subst e2;obtain⟨i,aa,av⟩:=FX r4;exact Al (asa (call:=call) ak aa av h2.2 hw h) rfl
   ·cases h2
  |_=>cases hk
 |box e p=>
  cases op with
  |box t q=>
   have hk:(Nat.beq e t&&bT X.az p q)=true:=hk;rw[b4]at hk;have aq:=e5 hk.1;subst aq;obtain⟨rfl,h2⟩:=c9 hk.2;exact Al (asd (call:=call) h2 ak U hw h) rfl
  |_=>cases hk
 |build z ps=>
  cases op with
  |build t parts=>
   have hk:((match sC X.P t with|some v=>nb z v.cells.toList&&nO z|none=>false)&&
    (match X.P.underlying t with
     |some (.struct fields)=>fields.toList.all (fun f=>(X.P.info? f.type).isSome)&&sj X.az (fun j=>(fields.map fun f=>(f.offset,X.P.cellsOf f.type))[j]?) ps parts.toList
     |some (.array _ e)=>(match g1 X.P e with|some s=>sj X.az (fun j=>some (j*s,s)) ps parts.toList|none=>false)
     |_=>false))=true:=hk
   rw[b4]at hk;obtain⟨h1,h2⟩:=hk;split at h1
   ·rename_i tJ r4;rw[b4]at h1;have e2:=zY _ _ h1.1;subst e2;obtain⟨i,aa,av⟩:=FX r4;split at h2
    ·rename_i fields hu;rw[b4,zck]at h2;obtain⟨bf,bL⟩:=Ju h2.2;exact fD (asg (call:=call) ak hu aa av h1.2 h2.1 bf bL U hw h) rfl
    ·rename_i n e hu;split at h2
     ·rename_i s af;obtain⟨bb,hs,rfl⟩:=nM af;obtain⟨bf,bL⟩:=Ju h2;exact fD (asf (call:=call) ak hu aa av h1.2 hs (by rw[bf];simp) (fun p hp=>(bL p hp).2) U hw h) rfl
     ·cases h2
    ·cases h2
   ·cases h1
  |_=>cases hk
 |pJ e n z ps=>
  cases op with
  |buildSlice t m parts=>
   have hk:(Nat.beq n m&&(match X.P.underlying t with
    |some (.slice el)=>Nat.beq e el&&(match g1 X.P el,sC X.P el with
     |some s,some v=>Nat.ble (m*s) (2^24)&&nb z ((List.range (m*s)).map (fun j=>(if m*s=0 then(#[]:ap be)else v.cells)[j%(if m*s=0 then(#[]:ap be)else v.cells).size]!))&&nO z&&
      sj X.az (fun j=>some (j*s,s)) ps parts.toList
     |_,_=>false)
    |_=>false))=true:=hk
   rw[b4]at hk;obtain⟨h1,h2⟩:=hk;have aq:=e5 h1;subst aq;split at h2
   ·rename_i el hu;rw[b4]at h2;obtain⟨ab,aD⟩:=h2;have e2:=e5 ab;subst e2;split at aD
    ·rename_i s tJ af r4;simp only[b4]at aD;obtain⟨⟨⟨bg,cv⟩,dq⟩,hB⟩:=aD;obtain⟨bb,hs,rfl⟩:=nM af;obtain⟨avR,Xx,av⟩:=FX r4;rw[hs]at Xx;cases Xx;obtain⟨bf,bL⟩:=Ju hB;exact Al (ase (call:=call) ak hu hs av (qt.1 bg) (zY _ _ cv) dq (by rw[bf];simp) (fun p hp=>(bL p hp).2) U hw h) rfl
    ·cases aD
   ·cases h2
  |_=>cases hk
 |lE p=>
  cases op with
  |load t q=>
   have hk:(bT X.az p q&&(match qp X.P t with|some g=> !g|none=>false))=true:=hk;rw[b4]at hk;obtain⟨h1,h2⟩:=hk;obtain⟨rfl,bf⟩:=c9 h1;split at h2
   ·rename_i g aO;obtain⟨d,ao,e⟩:=CQ aO;exact fD (ach (call:=call) bf ak ao (by rw[e];simpa using h2) U hw h) rfl
   ·cases h2
  |_=>cases hk
 |p9 n p=>
  cases op with
  |load t q=>
   have hk:(bT X.az p q&&(match qp X.P t,g1 X.P t with|some g,some s=>g&&Nat.beq n s|_,_=>false))=true:=hk;rw[b4]at hk;obtain⟨h1,h2⟩:=hk;obtain⟨rfl,bf⟩:=c9 h1;split at h2
   ·rename_i g s aO af;rw[b4]at h2;obtain⟨d,ao,e⟩:=CQ aO;obtain⟨i,aa,rfl⟩:=nM af;have aq:=e5 h2.2;subst aq;exact fD (aci (call:=call) bf ak ao (by rw[e];exact h2.1) aa U hw h) rfl
   ·cases h2
  |_=>cases hk
 |store n p q=>
  cases op with
  |store t dZ gZ=>
   have hk:(bT X.az p dZ&&bT X.az q gZ&&(match g1 X.P t with|some s=>Nat.beq n s|none=>false))=true:=hk;simp only[b4]at hk;obtain⟨⟨h1,h2⟩,ab⟩:=hk;obtain⟨rfl,bf⟩:=c9 h1;obtain⟨rfl,bL⟩:=c9 h2;split at ab
   ·rename_i s af;obtain⟨i,aa,rfl⟩:=nM af;have aq:=e5 ab;subst aq;exact xA (asX (call:=call) bf bL ak aa U hw h) rfl rfl
   ·cases ab
  |_=>cases hk
 |tj p=>
  cases op with
  |nilCheck q=>obtain⟨rfl,h2⟩:=c9 hk;exact fD (asQ (call:=call) h2 ak U hw h) rfl
  |_=>cases hk
 |bin aeO p q=>
  cases op with
  |binOp LA t dZ gZ z4=>
   have hk:(decide (aeO=LA)&&bT X.az p dZ&&bT X.az q gZ)=true:=hk;simp only[b4,decide_eq_true_eq]at hk;obtain⟨⟨h1,h2⟩,ab⟩:=hk;subst h1;obtain⟨rfl,bf⟩:=c9 h2;obtain⟨rfl,bL⟩:=c9 ab;exact fD (asc (call:=call) bf bL ak U hw h) rfl
  |_=>cases hk
 |eqv neg e p q=>
  cases op with
  |binOp LA t dZ gZ z4=>
   have hk:(decide (LA=(if neg then .neq else .eql))&&bT X.az p dZ&&bT X.az q gZ&&G6 X.P t e dZ gZ)=true:=hk;simp only[b4,decide_eq_true_eq]at hk;obtain⟨⟨⟨h1,h2⟩,ab⟩,aD⟩:=hk;subst h1;obtain⟨rfl,bf⟩:=c9 h2;obtain⟨rfl,bL⟩:=c9 ab;exact fD (ast (call:=call) bf bL ak (aht _ aD) U hw h) rfl
  |_=>cases hk
 |un at7 p=>
  cases op with
  |unOp aua t q=>
   have hk:(decide (at7=aua)&&bT X.az p q)=true:=hk;simp only[b4,decide_eq_true_eq]at hk;obtain⟨h1,h2⟩:=hk;subst h1;obtain⟨rfl,bf⟩:=c9 h2;exact fD (asZ (call:=call) bf ak U hw h) rfl
  |_=>cases hk
 |vc=>
  cases op with
  |makeMap t r=>
   cases r with
   |none=>
    have h:zt call fr st= .ok v aA st':=h;unfold zt at h;rw[g8]at h;cases h;obtain⟨aR,bf,bL,eM,p6⟩:=bz.alloc X hw (.map [] 0) (.map #[] 0) 0 (fun aR w' _ _ aF=>⟨rfl,rfl,#[],0,aF,rfl,⟨fun s t h _ _=>absurd h (zbd _),fun s h=>absurd h (zbd _),fun j=>by simp⟩,by simp,.nil,.nil,[],.nil,rfl,fun i aa=>by simp at aa⟩) {w with heap:=w.heap.push (.map #[] 0)} rfl;rw[p6]at bf bL eM;refine Al ⟨rfl,_,_,_,.map (some w.heap.size),_,rfl,by simp,?_,rfl,.map _ _ _ eM,bf,bL⟩ rfl;unfold execOp;rw[ak];simp[Instr.makeMap,Result.andThen]
   |some r=>cases hk
  |_=>cases hk
 |refuse=>cases h
 |wM p=>cases h
 |_=>cases J
end
def an3{a b:fW}(h:Oj a b=true):a=b:=by
 cases a<;>cases b<;>simp[Oj]at h<;>first|rfl|(rw[h])|(rw[h.1,h.2])
def Ir{keys:ce->am fW}{cX:fW}(h:Ev P keys t cX=true):∃fB ew,P.underlying t=some (.map fB ew)∧keys fB=some cX:=by
 unfold Ev at h;split at h
 ·rename_i fB ew hu;split at h
  ·rename_i Yp hk;exact⟨fB,ew,hu,by rw[hk,an3 h]⟩
  ·cases h
 ·cases h
def isMap(h:(match P.underlying t with|some (.map _ _)=>true|_=>false)=true):∃fB ew,P.underlying t=some (.map fB ew):=by
 split at h
 ·rename_i fB ew hu;exact⟨fB,ew,hu⟩
 ·cases h
section
variable{ι:bx}{fr aA:aJ}{a:Act}{aP:Nat}{st st':au}{w:d7}{o:Oper}{v:be}{call:bG}
def asu{y:vQ}(hk:X.la o.op (.ext y)=true)(U:cF ι fr a aP)(hw:bz X ι st w)(h:bK call (.ext y) fr st= .ok v aA st'):
 aA=fr∧xJ X (.ext y) ι w v st st' (execOp a.eval o):=by
 generalize ak:o.op=op at hk;have hk:Rl X.P X.az X.keys X.qy X.eqs X.qV X.m1 op y=true:=hk;have h:qF fr st y= .ok v aA st':=h;unfold Rl at hk;split at hk
 ·simp only[b4]at hk;obtain⟨⟨⟨⟨h1,h2⟩,ab⟩,aD⟩,bg⟩:=hk;obtain⟨rfl,bf⟩:=c9 h1;obtain⟨rfl,bL⟩:=c9 h2;have bS:=zcM ab;subst bS;obtain⟨fB,ew,hu,dJ⟩:=Ir aD;rw[hu]at bg;simp only at bg;split at bg
  ·rename_i tJ r4;rw[b4]at bg;have o7:=od _ _ bg.1;subst o7;obtain⟨i,aa,av⟩:=FX r4;exact fD (asI bf bL ak hu dJ aa av bg.2 U hw h) rfl
  ·cases bg
 ·simp only[b4]at hk;obtain⟨⟨⟨h1,h2⟩,ab⟩,aD⟩:=hk;obtain⟨rfl,bf⟩:=c9 h1;obtain⟨rfl,bL⟩:=c9 h2;obtain⟨rfl,eM⟩:=c9 ab;obtain⟨fB,ew,hu,dJ⟩:=Ir aD;exact xA (acm bf bL eM (.inl ak) hu dJ U hw h) rfl rfl
 ·simp only[b4]at hk;obtain⟨⟨⟨h1,h2⟩,ab⟩,aD⟩:=hk;obtain⟨rfl,bf⟩:=c9 h1;obtain⟨rfl,bL⟩:=c9 h2;obtain⟨rfl,eM⟩:=c9 ab;obtain⟨fB,ew,hu,dJ⟩:=Ir aD;exact xA (acm bf bL eM (.inr ak) hu dJ U hw h) rfl rfl
 ·simp only[b4]at hk;obtain⟨⟨h1,h2⟩,aD⟩:=hk;obtain⟨rfl,bf⟩:=c9 h1;obtain⟨rfl,bL⟩:=c9 h2;obtain⟨fB,ew,hu,dJ⟩:=Ir aD;exact xA (asr bf bL ak hu dJ U hw h) rfl rfl
 ·rw[b4]at hk;obtain⟨rfl,bf⟩:=c9 hk.1;obtain⟨fB,ew,hu⟩:=isMap hk.2;exact fD (asM bf ak hu U hw h) rfl
 ·rw[b4]at hk;obtain⟨rfl,bf⟩:=c9 hk.1;obtain⟨fB,ew,hu⟩:=isMap hk.2;exact xA (asO bf ak hu U hw h) rfl rfl
 ·obtain⟨rfl,bf⟩:=c9 hk;exact fD (asJ bf ak U hw h) rfl
 ·cases h
 ·simp only[b4,decide_eq_true_eq]at hk;obtain⟨⟨⟨h0,h1⟩,h2⟩,_⟩:=hk;obtain⟨rfl,bf⟩:=c9 h1;obtain⟨rfl,bL⟩:=c9 h2;subst h0;exact fD (asl bf bL ak U hw h) rfl
 ·simp only[b4]at hk;obtain⟨⟨⟨h1,h2⟩,ab⟩,aD⟩:=hk;obtain⟨rfl,bf⟩:=c9 h1;obtain⟨rfl,bL⟩:=c9 h2;have e:=e5 aD;subst e;exact fD (asB bf bL ab ak U hw h) rfl
 ·simp only[b4]at hk;obtain⟨⟨h1,h2⟩,ab⟩:=hk;obtain⟨rfl,bf⟩:=c9 h1;obtain⟨rfl,bL⟩:=c9 h2;exact fD (asm bf bL ab ak U hw h) rfl
 ·simp only[b4,decide_eq_true_eq]at hk;obtain⟨⟨⟨h0,h1⟩,h2⟩,ab⟩:=hk;obtain⟨rfl,bf⟩:=c9 h1;obtain⟨rfl,bL⟩:=c9 h2;subst h0;split at ab
  ·rename_i b1 hn;have e:=e5 ab;subst e;exact fD (ass bf bL hn ak U hw h) rfl
  ·cases ab
 ·cases hk
end
variable{op:Op}{p:bi}{ps:ac bi}{e a2:Nat}{s f:bi}
def anv(hk:X.la op (.p8 p)=true):∃q t,op= .call {callee:=.builtin .len,args:= #[q],argTypes:= #[t]}∧(bT X.az p q&&(match X.P.underlying t with|some (.slice _)=>true|_=>false))=true:=by
 cases op with
 |call c=>
  obtain⟨callee,⟨args⟩,⟨ts⟩⟩:=c;cases callee with
  |builtin b=>
   cases b with
   |len=>
    match args,ts,hk with
    |[q],[t],hk=>exact⟨q,t,rfl,hk⟩
    |[],_,hk=>cases hk
    |_::_::_,_,hk=>cases hk
    |[_],[],hk=>cases hk
    |[_],_::_::_,hk=>cases hk
   |_=>cases hk
  |_=>cases hk
 |_=>cases hk
def anw(hk:X.la op (.u7 p)=true):∃q t,op= .call {callee:=.builtin .len,args:= #[q],argTypes:= #[t]}∧(bT X.az p q&&(match X.P.underlying t with|some .string=>true|_=>false))=true:=by
 cases op with
 |call c=>
  obtain⟨callee,⟨args⟩,⟨ts⟩⟩:=c;cases callee with
  |builtin b=>
   cases b with
   |len=>
    match args,ts,hk with
    |[q],[t],hk=>exact⟨q,t,rfl,hk⟩
    |[],_,hk=>cases hk
    |_::_::_,_,hk=>cases hk
    |[_],[],hk=>cases hk
    |[_],_::_::_,hk=>cases hk
   |_=>cases hk
  |_=>cases hk
 |_=>cases hk
def anu{n:Nat}(hk:X.la op (.y7 n)=true):∃q t,op= .call {callee:=.builtin .len,args:= #[q],argTypes:= #[t]}∧(match X.P.underlying t with|some (.array m _)=>Nat.beq n m|some (.pointer u)=>(match X.P.underlying u with|some (.array m _)=>Nat.beq n m|_=>false)|_=>false)=true:=by
 cases op with
 |call c=>
  obtain⟨callee,⟨args⟩,⟨ts⟩⟩:=c;cases callee with
  |builtin b=>
   cases b with
   |len=>
    match args,ts,hk with
    |[q],[t],hk=>exact⟨q,t,rfl,hk⟩
    |[],_,hk=>cases hk
    |_::_::_,_,hk=>cases hk
    |[_],[],hk=>cases hk
    |[_],_::_::_,hk=>cases hk
   |_=>cases hk
  |_=>cases hk
 |_=>cases hk
def anq{bs:Nat}(hk:X.la op (.app e a2 bs s p)=true):∃bh q t u,op= .call {callee:=.builtin .append,args:= #[bh,q],argTypes:= #[t,u]}∧
 (bT X.az s bh&&bT X.az p q&&(match X.P.underlying t,X.P.underlying u with
  |some (.slice el),some d=>Nat.beq e el&&(match d with|.int _=>false|_=>true)&&(match X.P.info? el with
   |some i=>Nat.beq a2 i.size&&Nat.beq bs i.bytes&&(match i.zero with|some v=>Nat.beq v.cells.size i.size|none=>false)
   |none=>false)
  |_,_=>false))=true:=by
 cases op with
 |call c=>
  obtain⟨callee,⟨args⟩,⟨ts⟩⟩:=c;cases callee with
  |builtin b=>
   cases b with
   |append=>
    match args,ts,hk with
    |[bh,q],[t,u],hk=>exact⟨bh,q,t,u,rfl,hk⟩
    |[],_,hk=>cases hk
    |[_],_,hk=>cases hk
    |_::_::_::_,_,hk=>cases hk
    |[_,_],[],hk=>cases hk
    |[_,_],[_],hk=>cases hk
    |[_,_],_::_::_::_,hk=>cases hk
   |_=>cases hk
  |_=>cases hk
 |_=>cases hk
def anz(hk:X.la op (.fb p ps)=true):∃q dt ts,op= .call {callee:=.builtin .max,args:=(q::dt).toArray,argTypes:=ts}∧(bT X.az p q&&lG X.az ps dt)=true:=by
 cases op with
 |call c=>
  obtain⟨callee,⟨args⟩,ts⟩:=c;cases callee with
  |builtin b=>
   cases b with
   |max=>
    match args,hk with
    |q::dt,hk=>exact⟨q,dt,ts,rfl,hk⟩
    |[],hk=>cases hk
   |_=>cases hk
  |_=>cases hk
 |_=>cases hk
def anx(hk:X.la op (.zf p ps)=true):∃q dt ts,op= .call {callee:=.builtin .min,args:=(q::dt).toArray,argTypes:=ts}∧(bT X.az p q&&lG X.az ps dt)=true:=by
 cases op with
 |call c=>
  obtain⟨callee,⟨args⟩,ts⟩:=c;cases callee with
  |builtin b=>
   cases b with
   |min=>
    match args,hk with
    |q::dt,hk=>exact⟨q,dt,ts,rfl,hk⟩
    |[],hk=>cases hk
   |_=>cases hk
  |_=>cases hk
 |_=>cases hk
def anr{d:bi}(hk:X.la op (.rI a2 d s)=true):∃kB bh t u,op= .call {callee:=.builtin .copy,args:= #[kB,bh],argTypes:= #[t,u]}∧
 (bT X.az d kB&&bT X.az s bh&&(match X.P.underlying t with|some (.slice e)=>(match g1 X.P e with|some n=>Nat.beq a2 n|none=>false)|_=>false))=true:=by
 cases op with
 |call c=>
  obtain⟨callee,⟨args⟩,⟨ts⟩⟩:=c;cases callee with
  |builtin b=>
   cases b with
   |copy=>
    match args,ts,hk with
    |[bh,q],[t,u],hk=>exact⟨bh,q,t,u,rfl,hk⟩
    |[],_,hk=>cases hk
    |[_],_,hk=>cases hk
    |_::_::_::_,_,hk=>cases hk
    |[_,_],[],hk=>cases hk
    |[_,_],[_],hk=>cases hk
    |[_,_],_::_::_::_,hk=>cases hk
   |_=>cases hk
  |_=>cases hk
 |_=>cases hk
def anD(hk:X.la op (.Ce p)=true):∃q t,op= .call {callee:=.builtin .unsafeSliceData,args:= #[q],argTypes:= #[t]}∧bT X.az p q=true:=by
 cases op with
 |call c=>
  obtain⟨callee,⟨args⟩,⟨ts⟩⟩:=c;cases callee with
  |builtin b=>
   cases b with
   |unsafeSliceData=>
    match args,ts,hk with
    |[q],[t],hk=>exact⟨q,t,rfl,hk⟩
    |[],_,hk=>cases hk
    |_::_::_,_,hk=>cases hk
    |[_],[],hk=>cases hk
    |[_],_::_::_,hk=>cases hk
   |_=>cases hk
  |_=>cases hk
 |_=>cases hk
def anE{n:bi}(hk:X.la op (.tE e p n)=true):∃q m t u,op= .call {callee:=.builtin .unsafeString,args:= #[q,m],argTypes:= #[t,u]}∧
 (bT X.az p q&&bT X.az n m&&(match X.P.underlying t with|some (.pointer cK)=>Nat.beq e cK&&(match g1 X.P cK with|some 1=>true|_=>false)|_=>false))=true:=by
 cases op with
 |call c=>
  obtain⟨callee,⟨args⟩,⟨ts⟩⟩:=c;cases callee with
  |builtin b=>
   cases b with
   |unsafeString=>
    match args,ts,hk with
    |[bh,q],[t,u],hk=>exact⟨bh,q,t,u,rfl,hk⟩
    |[],_,hk=>cases hk
    |[_],_,hk=>cases hk
    |_::_::_::_,_,hk=>cases hk
    |[_,_],[],hk=>cases hk
    |[_,_],[_],hk=>cases hk
    |[_,_],_::_::_::_,hk=>cases hk
   |_=>cases hk
  |_=>cases hk
 |_=>cases hk
def ant{c:bi}(hk:X.la op (.k4 p c)=true):∃f q d ts,op= .call {callee:=.value (.func f),args:= #[q,d],argTypes:=ts}∧(bT X.az p q&&bT X.az c d&&X.k4 f)=true:=by
 cases op with
 |call c=>
  obtain⟨callee,⟨args⟩,ts⟩:=c;cases callee with
  |value g=>
   cases g with
   |func f=>
    match args,hk with
    |[q,d],hk=>exact⟨f,q,d,ts,rfl,hk⟩
    |[],hk=>cases hk
    |[_],hk=>cases hk
    |_::_::_::_,hk=>cases hk
   |_=>cases hk
  |_=>cases hk
 |_=>cases hk
def anA(hk:X.la op (.kI p)=true):∃f q ts,op= .call {callee:=.value (.func f),args:= #[q],argTypes:=ts}∧(bT X.az p q&&X.kI f)=true:=by
 cases op with
 |call c=>
  obtain⟨callee,⟨args⟩,ts⟩:=c;cases callee with
  |value g=>
   cases g with
   |func f=>
    match args,hk with
    |[q],hk=>exact⟨f,q,ts,rfl,hk⟩
    |[],hk=>cases hk
    |_::_::_,hk=>cases hk
   |_=>cases hk
  |_=>cases hk
 |_=>cases hk
def anC(hk:X.la op .xl=true):∃ts,op= .call {callee:=.builtin .recover,args:= #[],argTypes:=ts}:=by
 cases op with
 |call c=>
  obtain⟨callee,⟨args⟩,ts⟩:=c;cases callee with
  |builtin b=>
   cases b with
   |recover=>
    match args,hk with
    |[],_=>exact⟨ts,rfl⟩
    |_::_,hk=>cases hk
   |_=>cases hk
  |_=>cases hk
 |_=>cases hk
def X6(hk:X.la op (.call f ps)=true):∃g args ts,op= .call {callee:=.value g,args:=args,argTypes:=ts}∧
 (bT X.az f g&&lG X.az ps args.toList&&(match g with|.func k=>((X.P.funcs[k]?).map (fun fn=>fn.body.isSome&& !(fn.name== "runtime.NumGoroutine"))).getD false|_=>true))=true:=by
 cases op with
 |call c=>
  obtain⟨callee,args,ts⟩:=c;cases callee with
  |value g=>exact⟨g,args,ts,rfl,hk⟩
  |_=>cases hk
 |_=>cases hk
def ans(hk:X.la op (.rK f ps)=true):∃g args ts,op= .defer {callee:=.value g,args:=args,argTypes:=ts}∧(bT X.az f g&&lG X.az ps args.toList)=true:=by
 cases op with
 |defer c=>
  obtain⟨callee,args,ts⟩:=c;cases callee with
  |value g=>exact⟨g,args,ts,rfl,hk⟩
  |_=>cases hk
 |_=>cases hk
def anB(hk:X.la op (.sk p)=true):∃q,op= .panic q∧bT X.az p q=true:=by
 cases op with
 |panic q=>exact⟨q,rfl,hk⟩
 |_=>cases hk
section
variable{ι:bx}{fr aA:aJ}{a:Act}{aP:Nat}{st st':au}{w:d7}{o:Oper}{v:be}{call:bG}
variable{x:de}
def apD(hk:X.la o.op x=true)(U:cF ι fr a aP)(hw:bz X ι st w)(h:bK call x fr st= .ok v aA st')(J:MP x=false)(hp:x.inPlace=true):
 aA=fr∧xJ X x ι w v st st' (execOp a.eval o):=by
 generalize ak:o.op=op at hk;cases x with
 |tZ k p=>
  cases op with
  |convert s t q=>
   have hk:(bT X.az p q&&(match X.P.underlying s,X.P.underlying t with|some _,some (.int k')=>decide (k=k')|_,_=>false))=true:=hk;rw[b4]at hk;obtain⟨h1,h2⟩:=hk;obtain⟨rfl,bf⟩:=c9 h1;split at h2
   ·rename_i en k' af aF;have e:=zbB h2;subst e;exact fD (asj (call:=call) bf ak af aF U hw h) rfl
   ·cases h2
  |_=>cases hk
 |xV p=>
  cases op with
  |convert s t q=>
   have hk:(bT X.az p q&&(match X.P.underlying s,X.P.underlying t with|some _,some .string=>true|_,_=>false))=true:=hk;rw[b4]at hk;obtain⟨h1,h2⟩:=hk;obtain⟨rfl,bf⟩:=c9 h1;split at h2
   ·rename_i en af aF;exact fD (asi (call:=call) bf ak af aF U hw h) rfl
   ·cases h2
  |_=>cases hk
 |Av p=>
  cases op with
  |convert s t q=>
   have hk:(bT X.az p q&&(match X.P.underlying s,X.P.underlying t with|some (.slice e),some .string=>(match X.P.underlying e with|some (.int .u8)=>true|_=>false)|_,_=>false))=true:=hk;rw[b4]at hk;obtain⟨h1,h2⟩:=hk;obtain⟨rfl,bf⟩:=c9 h1;split at h2
   ·rename_i e af aF;split at h2
    ·rename_i he;exact fD (ash (call:=call) bf ak af aF he U hw h) rfl
    ·cases h2
   ·cases h2
  |_=>cases hk
 |vX e p=>
  cases op with
  |convert s t q=>
   have hk:(bT X.az p q&&(match X.P.underlying s,X.P.underlying t with|some .string,some (.slice cK)=>Nat.beq e cK&&(match X.P.underlying cK,g1 X.P cK with|some (.int .u8),some 1=>true|_,_=>false)|_,_=>false))=true:=hk;rw[b4]at hk;obtain⟨h1,h2⟩:=hk;obtain⟨rfl,bf⟩:=c9 h1;split at h2
   ·rename_i cK af aF;rw[b4]at h2;have aq:=e5 h2.1;subst aq;have ab:=h2.2;split at ab
    ·rename_i he av;obtain⟨i,aa,yX⟩:=nM av;exact Al (asp (call:=call) bf ak af aF he aa yX U hw h) rfl
    ·cases ab
   ·cases h2
  |_=>cases hk
 |IP t p=>
  cases op with
  |makeInterface cL q=>
   have hk:(Nat.beq t cL&&bT X.az p q&&(match X.P.underlying cL with|some (.interface _)=>false|some _=>true|none=>false))=true:=hk;simp only[b4]at hk;obtain⟨⟨h1,h2⟩,ab⟩:=hk;have aq:=e5 h1;subst aq;obtain⟨rfl,bf⟩:=c9 h2;split at ab
   ·cases ab
   ·rename_i d cb ao;exact fD (asK (call:=call) bf ak ao (fun ms e=>cb ms (by rw[e])) U hw h) rfl
   ·cases ab
  |_=>cases hk
 |vb fn p c=>
  cases fn with
  |func f=>
   cases op with
   |makeFunc ux q d=>
    cases ux with
    |func g=>
     have hk:(Nat.beq f g&&lG X.az p q.toList&&lG X.az c d.toList)=true:=hk;simp only[b4]at hk;obtain⟨⟨h1,h2⟩,ab⟩:=hk;have aq:=e5 h1;subst aq;obtain⟨rfl,bf⟩:=tr h2;obtain⟨rfl,bL⟩:=tr ab;exact fD (acj (call:=call) (by simp) bf bL ak U hw h) rfl
    |_=>cases hk
   |_=>cases hk
  |method f=>
   cases op with
   |makeFunc ux q d=>
    cases ux with
    |method g=>
     have hk:(f==g&&lG X.az p q.toList&&lG X.az c d.toList)=true:=hk;simp only[b4]at hk;obtain⟨⟨h1,h2⟩,ab⟩:=hk;have aq:=zcM h1;subst aq;obtain⟨rfl,bf⟩:=tr h2;obtain⟨rfl,bL⟩:=tr ab;exact fD (acj (call:=call) (by simp) bf bL ak U hw h) rfl
    |_=>cases hk
   |_=>cases hk
  |_=>cases op<;>cases hk
 |OS name aY p=>cases op<;>cases hk
 |qc e bs z l c=>
  cases op with
  |makeSlice t l' bW=>
   have hk:(bT X.az l l'&&bT X.az c bW&&(match X.P.underlying t with
    |some (.slice el)=>Nat.beq e el&&(match X.P.info? el with
     |some i=>Nat.beq bs i.bytes&& !Nat.beq i.size 0&&(match i.zero with|some v=>nb z v.cells.toList&&nO z&&Nat.beq v.cells.toList.length i.size|none=>false)
     |none=>false)
    |_=>false))=true:=hk
   simp only[b4]at hk;obtain⟨⟨h1,h2⟩,ab⟩:=hk;obtain⟨rfl,bf⟩:=c9 h1;obtain⟨rfl,bL⟩:=c9 h2;split at ab
   ·rename_i el hu;rw[b4]at ab;obtain⟨aD,bg⟩:=ab;have aq:=e5 aD;subst aq;split at bg
    ·rename_i i aa;simp only[b4]at bg;obtain⟨⟨cv,dq⟩,hB⟩:=bg;have e2:=e5 cv;subst e2;split at hB
     ·rename_i tJ av;simp only[b4]at hB;obtain⟨⟨jj,pa⟩,akR⟩:=hB;have bS:=zY _ _ jj;subst bS;exact Al (asL (call:=call) bf bL ak hu aa av (e5 akR) (IZ dq) pa U hw h) rfl
     ·cases hB
    ·cases bg
   ·cases ab
  |_=>cases hk
 |tA p lo aa=>
  cases op with
  |slice t q r9 eC qd=>
   cases qd with
   |none=>
    have hk:(bT X.az p q&&m6 X.az lo r9&&m6 X.az aa eC&&(match X.P.underlying t with|some .string=>true|_=>false))=true:=hk;simp only[b4]at hk;obtain⟨⟨⟨h1,h2⟩,ab⟩,aD⟩:=hk;obtain⟨rfl,bf⟩:=c9 h1;obtain⟨rfl,bL⟩:=w1 h2;obtain⟨rfl,eM⟩:=w1 ab;split at aD
    ·rename_i hu;exact fD (asW (call:=call) bf bL eM ak hu U hw h) rfl
    ·cases aD
   |some m=>cases hk
  |_=>cases hk
 |FC n s p lo aa fb=>
  cases op with
  |slice t q r9 eC qd=>
   have hk:(bT X.az p q&&m6 X.az lo r9&&m6 X.az aa eC&&m6 X.az fb qd&&(qd.isNone||eC.isSome)&&
    (match X.P.underlying t with|some (.array b1 e)=>Nat.beq n b1&&(match g1 X.P e with|some bh=>Nat.beq s bh|none=>false)|_=>false))=true:=hk
   simp only[b4]at hk;obtain⟨⟨⟨⟨⟨h1,h2⟩,ab⟩,aD⟩,bg⟩,cv⟩:=hk;obtain⟨rfl,bf⟩:=c9 h1;obtain⟨rfl,bL⟩:=w1 h2;obtain⟨rfl,eM⟩:=w1 ab;obtain⟨rfl,uZ⟩:=w1 aD;have Nr:fb≠none->aa≠none:=by
    intro hm he;subst he;cases fb
    ·exact hm rfl
    ·simp at bg
   split at cv
   ·rename_i b1 e hu;rw[b4]at cv;obtain⟨dq,hB⟩:=cv;have aq:=e5 dq;subst aq;split at hB
    ·rename_i bh af;obtain⟨bb,hs,rfl⟩:=nM af;have e2:=e5 hB;subst e2;exact fD (asU (call:=call) bf bL eM uZ Nr ak hu hs U hw h) rfl
    ·cases hB
   ·cases cv
  |_=>cases hk
 |n9 s p lo aa fb=>
  cases op with
  |slice t q r9 eC qd=>
   have hk:(bT X.az p q&&m6 X.az lo r9&&m6 X.az aa eC&&m6 X.az fb qd&&(qd.isNone||eC.isSome)&&
    (match X.P.underlying t with|some (.slice e)=>(match g1 X.P e with|some bh=>Nat.beq s bh|none=>false)|_=>false))=true:=hk
   simp only[b4]at hk;obtain⟨⟨⟨⟨⟨h1,h2⟩,ab⟩,aD⟩,bg⟩,cv⟩:=hk;obtain⟨rfl,bf⟩:=c9 h1;obtain⟨rfl,bL⟩:=w1 h2;obtain⟨rfl,eM⟩:=w1 ab;obtain⟨rfl,uZ⟩:=w1 aD;have Nr:fb≠none->aa≠none:=by
    intro hm he;subst he;cases fb
    ·exact hm rfl
    ·simp at bg
   split at cv
   ·rename_i e hu;split at cv
    ·rename_i bh af;obtain⟨bb,hs,rfl⟩:=nM af;have e2:=e5 cv;subst e2;exact fD (asV (call:=call) bf bL eM uZ Nr ak hu hs U hw h) rfl
    ·cases cv
   ·cases cv
  |_=>cases hk
 |yd off p=>
  cases op with
  |fieldAddr t q f=>
   have hk:(bT X.az p q&&(match X.P.underlying t with
    |some (.struct fields)=>(match fields[f]? with|some fd=>Nat.beq off fd.offset&&(match g1 X.P fd.type with|some s=> !Nat.beq s 0|none=>false)|none=>false)
    |_=>false))=true:=hk
   rw[b4]at hk;obtain⟨h1,h2⟩:=hk;obtain⟨rfl,bf⟩:=c9 h1;split at h2
   ·rename_i fields hu;split at h2
    ·rename_i fd uJ;rw[b4]at h2;obtain⟨ab,aD⟩:=h2;have aq:=e5 ab;subst aq;split at aD
     ·rename_i s af;obtain⟨i,aa,rfl⟩:=nM af;exact fD (asw (call:=call) bf ak hu uJ aa (IZ aD) U hw h) rfl
     ·cases aD
    ·cases h2
   ·cases h2
  |_=>cases hk
 |pO off a2 il p=>
  cases op with
  |field t q f=>
   have hk:(bT X.az p q&&(match X.P.underlying t with
    |some (.struct fields)=>(match fields[f]? with|some fd=>Nat.beq off fd.offset&&(match g1 X.P fd.type,qp X.P fd.type with|some s,some g=>Nat.beq a2 s&&(il==g)|_,_=>false)|none=>false)
    |_=>false))=true:=hk
   rw[b4]at hk;obtain⟨h1,h2⟩:=hk;obtain⟨rfl,bf⟩:=c9 h1;split at h2
   ·rename_i fields hu;split at h2
    ·rename_i fd uJ;rw[b4]at h2;obtain⟨ab,aD⟩:=h2;have aq:=e5 ab;subst aq;split at aD
     ·rename_i s g af aO;rw[b4]at aD;obtain⟨i,aa,rfl⟩:=nM af;obtain⟨d,ao,e⟩:=CQ aO;have e2:=e5 aD.1;subst e2;have bS:il=rE d:=by rw[e];simpa using aD.2
      subst bS;exact fD (asx (call:=call) bf ak hu uJ ao aa U hw h) rfl
     ·cases aD
    ·cases h2
   ·cases h2
  |_=>cases hk
 |uT n a2 p i=>
  cases op with
  |indexAddr t q j=>
   have hk:(bT X.az p q&&bT X.az i j&&(match X.P.underlying t with|some (.array b1 e)=>Nat.beq n b1&&(match g1 X.P e with|some s=>Nat.beq a2 s|none=>false)|_=>false))=true:=hk;simp only[b4]at hk;obtain⟨⟨h1,h2⟩,ab⟩:=hk;obtain⟨rfl,bf⟩:=c9 h1;obtain⟨rfl,bL⟩:=c9 h2;split at ab
   ·rename_i b1 e hu;rw[b4]at ab;obtain⟨aD,bg⟩:=ab;have aq:=e5 aD;subst aq;split at bg
    ·rename_i s af;obtain⟨bb,hs,rfl⟩:=nM af;have e2:=e5 bg;subst e2;exact fD (asy (call:=call) bf bL ak hu hs U hw h) rfl
    ·cases bg
   ·cases ab
  |_=>cases hk
 |mZ a2 p i=>
  cases op with
  |indexAddr t q j=>
   have hk:(bT X.az p q&&bT X.az i j&&(match X.P.underlying t with|some (.slice e)=>(match g1 X.P e with|some s=>Nat.beq a2 s|none=>false)|_=>false))=true:=hk;simp only[b4]at hk;obtain⟨⟨h1,h2⟩,ab⟩:=hk;obtain⟨rfl,bf⟩:=c9 h1;obtain⟨rfl,bL⟩:=c9 h2;split at ab
   ·rename_i e hu;split at ab
    ·rename_i s af;obtain⟨bb,hs,rfl⟩:=nM af;have e2:=e5 ab;subst e2;exact fD (asz (call:=call) bf bL ak hu hs U hw h) rfl
    ·cases ab
   ·cases ab
  |_=>cases hk
 |uY p i=>
  cases op with
  |index t q j=>
   have hk:(bT X.az p q&&bT X.az i j&&(match X.P.underlying t with|some .string=>true|_=>false))=true:=hk;simp only[b4]at hk;obtain⟨⟨h1,h2⟩,ab⟩:=hk;obtain⟨rfl,bf⟩:=c9 h1;obtain⟨rfl,bL⟩:=c9 h2;split at ab
   ·rename_i hu;exact fD (asD (call:=call) bf bL ak hu U hw h) rfl
   ·cases ab
  |_=>cases hk
 |Im n a2 il p i=>
  cases op with
  |index t q j=>
   have hk:(bT X.az p q&&bT X.az i j&&(match X.P.underlying t with|some (.array b1 e)=>Nat.beq n b1&&(match g1 X.P e,qp X.P e with|some s,some g=>Nat.beq a2 s&&(il==g)|_,_=>false)|_=>false))=true:=hk;simp only[b4]at hk;obtain⟨⟨h1,h2⟩,ab⟩:=hk;obtain⟨rfl,bf⟩:=c9 h1;obtain⟨rfl,bL⟩:=c9 h2;split at ab
   ·rename_i b1 e hu;rw[b4]at ab;obtain⟨aD,bg⟩:=ab;have aq:=e5 aD;subst aq;split at bg
    ·rename_i s g af aO;rw[b4]at bg;obtain⟨bb,hs,rfl⟩:=nM af;obtain⟨d,ao,e⟩:=CQ aO;have e2:=e5 bg.1;subst e2;have bS:il=rE d:=by rw[e];simpa using bg.2
     subst bS;exact fD (asC (call:=call) bf bL ak hu ao hs U hw h) rfl
    ·cases bg
   ·cases ab
  |_=>cases hk
 |Ky t z ok p=>
  cases op with
  |typeAssert q lO cL wX=>
   have hk:(bT X.az p q&&Nat.beq t cL&&(ok==wX)&&(match X.P.underlying cL with|some (.interface _)=>false|some _=>true|none=>false)&&(match sC X.P cL with|some v=>dU z v&&kN z|none=>false))=true:=hk;simp only[b4]at hk;obtain⟨⟨⟨⟨h1,h2⟩,ab⟩,aD⟩,bg⟩:=hk;obtain⟨rfl,bf⟩:=c9 h1;have aq:=e5 h2;subst aq;have e2:ok=wX:=by simpa using ab
   subst e2;split at aD
   ·cases aD
   ·rename_i d cb ao;split at bg
    ·rename_i tJ r4;rw[b4]at bg;have bS:=od _ _ bg.1;subst bS;obtain⟨i,aa,av⟩:=FX r4;exact fD (asY (call:=call) bf ak ao (fun ms e=>cb ms (by rw[e])) aa av bg.2 U hw h) rfl
    ·cases bg
   ·cases aD
  |_=>cases hk
 |yc p i=>
  cases op with
  |extract q j=>
   have hk:(bT X.az p q&&Nat.beq i j)=true:=hk;rw[b4]at hk;obtain⟨rfl,bf⟩:=c9 hk.1;have aq:=e5 hk.2;subst aq;exact fD (asv (call:=call) bf ak U hw h) rfl
  |_=>cases hk
 |C6 p=>
  cases op with
  |convert s t q=>
   have hk:(bT X.az p q&&(match X.P.underlying s,X.P.underlying t with|some (.pointer e),some .unsafePointer=>(match g1 X.P e with|some n=> !Nat.beq n 0|none=>false)|_,_=>false))=true:=hk;rw[b4]at hk;obtain⟨h1,h2⟩:=hk;obtain⟨rfl,bf⟩:=c9 h1;split at h2
   ·rename_i e af aF;split at h2
    ·rename_i n hn;obtain⟨i,aa,rfl⟩:=nM hn;exact fD (asn (call:=call) bf ak af aF aa (IZ h2) U hw h) rfl
    ·cases h2
   ·cases h2
  |_=>cases hk
 |C7 e n p=>
  cases op with
  |convert s t q=>
   have hk:(bT X.az p q&&(match X.P.underlying s,X.P.underlying t with|some .unsafePointer,some (.pointer cK)=>Nat.beq e cK&&(match g1 X.P cK with|some m=>Nat.beq n m&& !Nat.beq m 0|none=>false)|_,_=>false))=true:=hk;rw[b4]at hk;obtain⟨h1,h2⟩:=hk;obtain⟨rfl,bf⟩:=c9 h1;split at h2
   ·rename_i cK af aF;rw[b4]at h2;obtain⟨ab,aD⟩:=h2;have aq:=e5 ab;subst aq;split at aD
    ·rename_i m hm;rw[b4]at aD;obtain⟨i,aa,rfl⟩:=nM hm;have e2:=e5 aD.1;subst e2;exact fD (asq (call:=call) bf ak af aF aa (IZ aD.2) U hw h) rfl
    ·cases aD
   ·cases h2
  |_=>cases hk
 |call f as=>cases hp
 |inv _ _ _=>cases hp
 |xl=>cases hp
 |rK f as=>cases hp
 |sk p=>cases hp
 |p8 p=>
  obtain⟨q,t,rfl,hj⟩:=anv hk;rw[b4]at hj;obtain⟨rfl,bf⟩:=c9 hj.1;have h2:=hj.2;split at h2
  ·rename_i e hu;exact fD (asG (call:=call) bf ak hu U hw h) rfl
  ·cases h2
 |u7 p=>
  obtain⟨q,t,rfl,hj⟩:=anw hk;rw[b4]at hj;obtain⟨rfl,bf⟩:=c9 hj.1;have h2:=hj.2;split at h2
  ·rename_i hu;exact fD (asH (call:=call) bf ak hu U hw h) rfl
  ·cases h2
 |y7 n=>
  obtain⟨q,t,rfl,hj⟩:=anu hk;split at hj
  ·rename_i m d hu;have e:=e5 hj;subst e;exact fD (asE (call:=call) ak hu hw h) rfl
  ·rename_i u hu;split at hj
   ·rename_i m d yU;have e:=e5 hj;subst e;exact fD (asF (call:=call) ak hu yU hw h) rfl
   ·cases hj
  ·cases hj
 |app e a2 bs s p=>
  obtain⟨bh,q,t,u,rfl,hj⟩:=anq hk;simp only[b4]at hj;obtain⟨⟨h1,h2⟩,ab⟩:=hj;obtain⟨rfl,bf⟩:=c9 h1;obtain⟨rfl,bL⟩:=c9 h2;split at ab
  ·rename_i el d hu ao;simp only[b4]at ab;obtain⟨⟨aD,bg⟩,cv⟩:=ab;have aq:=e5 aD;subst aq;split at cv
   ·rename_i i aa;simp only[b4]at cv;obtain⟨⟨dq,hB⟩,jj⟩:=cv;have e2:=e5 dq;have bS:=e5 hB;subst e2 bS;split at jj
    ·rename_i tJ av;exact xA (asb (call:=call) bf bL ak hu ao (fun k e=>by subst e;cases bg) aa av (e5 jj) U hw h) rfl rfl
    ·cases jj
   ·cases cv
  ·cases ab
 |fb p ps=>
  obtain⟨q,dt,ts,rfl,hj⟩:=anz hk;rw[b4]at hj;obtain⟨rfl,bf⟩:=c9 hj.1;obtain⟨rfl,bL⟩:=tr hj.2;exact fD (asP (call:=call) (fun y ay=>by rcases zap.1 ay with rfl|ay;exact bf;exact bL y ay) ak U hw h) rfl
 |zf p ps=>
  obtain⟨q,dt,ts,rfl,hj⟩:=anx hk;rw[b4]at hj;obtain⟨rfl,bf⟩:=c9 hj.1;obtain⟨rfl,bL⟩:=tr hj.2;exact fD (asN (call:=call) (fun y ay=>by rcases zap.1 ay with rfl|ay;exact bf;exact bL y ay) ak U hw h) rfl
 |rI a2 d s=>
  obtain⟨kB,bh,t,u,rfl,hj⟩:=anr hk;simp only[b4]at hj;obtain⟨⟨h1,h2⟩,ab⟩:=hj;obtain⟨rfl,bf⟩:=c9 h1;obtain⟨rfl,bL⟩:=c9 h2;split at ab
  ·rename_i e hu;split at ab
   ·rename_i n hn;obtain⟨i,aa,rfl⟩:=nM hn;have e2:=e5 ab;subst e2;exact xA (aso (call:=call) bf bL ak hu aa U hw h) rfl rfl
   ·cases ab
  ·cases ab
 |Ce p=>
  obtain⟨q,t,rfl,hj⟩:=anD hk;obtain⟨rfl,bf⟩:=c9 hj;exact fD (asT (call:=call) bf ak U hw h) rfl
 |tE e p n=>
  obtain⟨q,m,t,u,rfl,hj⟩:=anE hk;simp only[b4]at hj;obtain⟨⟨h1,h2⟩,ab⟩:=hj;obtain⟨rfl,bf⟩:=c9 h1;obtain⟨rfl,bL⟩:=c9 h2;split at ab
  ·rename_i cK hu;rw[b4]at ab;obtain⟨aD,bg⟩:=ab;have aq:=e5 aD;subst aq;split at bg
   ·rename_i av;obtain⟨i,aa,yX⟩:=nM av;exact xA (as0 (call:=call) bf bL ak hu aa yX U hw h) rfl rfl
   ·cases bg
  ·cases ab
 |k4 p c=>
  obtain⟨f,q,d,ts,rfl,hj⟩:=ant hk;simp only[b4]at hj;obtain⟨⟨h1,h2⟩,ab⟩:=hj;obtain⟨rfl,bf⟩:=c9 h1;obtain⟨rfl,bL⟩:=c9 h2;exact fD (asA (call:=call) bf bL ab ak U hw h) rfl
 |kI p=>
  obtain⟨f,q,ts,rfl,hj⟩:=anA hk;rw[b4]at hj;obtain⟨rfl,bf⟩:=c9 hj.1;exact fD (asR (call:=call) bf hj.2 ak U hw h) rfl
 |ext y=>exact asu (by rw[ak];exact hk) U hw h
 |_=>exact absurd J.symm Bool.false_ne_true
def Ph(hk:X.la o.op x=true)(U:cF ι fr a aP)(hw:bz X ι st w)(h:bK call x fr st= .ok v aA st')(hp:x.inPlace=true):
 aA=fr∧xJ X x ι w v st st' (execOp a.eval o):=by
 cases J:MP x
 ·exact apD hk U hw h J hp
 ·exact apC hk U hw h J
end
end Go.ah
namespace Go.ah
structure ea where
 fn:ci
 kind:CallKind
 bR:am Nat
def ea.at(b:ea)(a:Act)(todo:ac Item):Frame:=
 {fn:=b.fn,tmps:=a.tmps,todo:=todo,defers:=a.defers,mode:=.run,kind:=b.kind,roundOf:=b.bR}
def eval_at(b:ea)(a:Act)(todo:ac Item):(b.at a todo).eval=a.eval:=by
 funext x;cases x<;>rfl
section
variable{P:f5}{b:ea}{a:Act}{k:ac Item}{cs:ac Frame}{w:d7}{ops:ap Oper}
variable{o:Oper}{i:Nat}{rest:ac Nat}{w':d7}{c:Code}{l:Nat}{x y:Code}{v:be}{f:ci}
def atB:step P (lone (b.at a (.code .skip::k)) cs w)= .next (lone (b.at a k) cs w):=step_lone_go (by simp[stepG,stepG.exec,ea.at])
def atl:step P (lone (b.at a (.code (.label l)::k)) cs w)= .next (lone (b.at a k) cs w):=step_lone_go (by simp[stepG,stepG.exec,ea.at])
def ati{id:Nat}:step P (lone (b.at a (.inBlock id::k)) cs w)= .next (lone (b.at a k) cs w):=step_lone_go (by simp[stepG,stepG.exec,ea.at])
def atk:step P (lone (b.at a (.inScope c::k)) cs w)= .next (lone (b.at a k) cs w):=step_lone_go (by simp[stepG,stepG.exec,ea.at])
def atA:step P (lone (b.at a (.code (.seq x y)::k)) cs w)= .next (lone (b.at a (.code x:: .code y::k)) cs w):=step_lone_go (by simp[stepG,stepG.exec,ea.at])
def acC{c:bi}{t:Bool}(h:a.eval c= .bool t):
 step P (lone (b.at a (.code (.cond c x y)::k)) cs w)= .next (lone (b.at a (.code (if t then x else y)::k)) cs w):=
 step_lone_go (by
  have:=eval_at b a (.code (.cond c x y)::k);simp only[ea.at]at this;simp[stepG,stepG.exec,ea.at,this,h])
def ate{id:Nat}:step P (lone (b.at a (.code (.block id c)::k)) cs w)= .next (lone (b.at a (.code c:: .inBlock id::k)) cs w):=step_lone_go (by simp[stepG,stepG.exec,ea.at])
def atm:step P (lone (b.at a (.code (.loop c)::k)) cs w)= .next (lone (b.at a (.code c:: .inLoop c::k)) cs w):=step_lone_go (by simp[stepG,stepG.exec,ea.at])
def atj:step P (lone (b.at a (.inLoop c::k)) cs w)= .next (lone (b.at a (.code c:: .inLoop c::k)) cs w):=step_lone_go (by simp[stepG,stepG.exec,ea.at])
def atz:step P (lone (b.at a (.code (.scope c)::k)) cs w)= .next (lone (b.at a (.code c:: .inScope c::k)) cs w):=step_lone_go (by simp[stepG,stepG.exec,ea.at])
def ath{id:Nat}{k':ac Item}(h:exitTo id k=some k'):step P (lone (b.at a (.code (.exit id)::k)) cs w)= .next (lone (b.at a k') cs w):=step_lone_go (by simp[stepG,stepG.exec,ea.at,h])
def atr{id:Nat}:step P (lone (b.at a (.code (.region id ops false)::k)) cs w)= .next (lone (b.at a (.inRegion ops (List.range ops.size)::k)) cs w):=step_lone_go (by simp[stepG,stepG.exec,ea.at])
def ats{id:Nat}:step P (lone (b.at a (.code (.region id ops true)::k)) cs w)=
 .next (lone (b.at a (.inRegion ops (Region.schedule (P.follows .mixedOrders) ops (w.tape w.drawn (.order b.fn id)))::k)) cs {w with drawn:=w.drawn+1}):=
 step_lone_go (by simp[stepG,stepG.exec,ea.at,choose,Sem.run,Question.forced,Question.cut])
def acG:step P (lone (b.at a (.inRegion ops []::k)) cs w)= .next (lone (b.at a k) cs w):=step_lone_go (by simp[stepG,stepG.exec,ea.at])
def finish_at(i:Nat)(rest:ac Nat)(v:be)(ak:ops[i]? =some o):
 (b.at a (.inRegion ops (i::rest)::k)).finish v=b.at (a.put o.dst v) (.inRegion ops rest::k):=by
 cases h:o.dst<;>simp[Frame.finish,ea.at,Act.put,ak,h]
def Kt(ak:ops[i]? =some o)(h:Region.wanted o (yielded ops a.tmps)=false):
 step P (lone (b.at a (.inRegion ops (i::rest)::k)) cs w)= .next (lone (b.at (a.put o.dst undef) (.inRegion ops rest::k)) cs w):=by
 rw[<-finish_at i rest undef ak];exact step_lone_go (by simp only[ea.at];simp[stepG,stepG.exec,ak,h])
def xr(ak:ops[i]? =some o)(hw:Region.wanted o (yielded ops a.tmps)=true)(ao:b.bR=none∨∀c,o.op≠.defer c):
 stepG P true {frame:=b.at a (.inRegion ops (i::rest)::k),callers:=cs,status:=.running,dying:=none} w=
  stepG.apply P true (b.at a (.inRegion ops (i::rest)::k)) cs none (execOp a.eval o) w:=by
 have he:=eval_at b a (.inRegion ops (i::rest)::k);simp only[ea.at]at he;simp only[stepG,stepG.exec,ea.at,ak,Option.map_some,hw,zep,if_true,stepG.oper,Frame.oper?];rcases ao with ao|ao
 ·simp only[ao]at he⊢;rw[he]
 ·cases aL:b.bR with
  |none=>simp only[aL]at he ⊢;rw[he]
  |some l=>
   rw[aL]at he;cases dB:o.op<;>simp only[]<;>first|(exact absurd dB (ao _))|(rw[he])
def QS(ak:ops[i]? =some o)(hw:Region.wanted o (yielded ops a.tmps)=true)(ao:b.bR=none∨∀c,o.op≠.defer c)
 (aL:(execOp a.eval o).run P w= .ok (.value v) w'):step P (lone (b.at a (.inRegion ops (i::rest)::k)) cs w)= .next (lone (b.at (a.put o.dst v) (.inRegion ops rest::k)) cs w'):=by
 refine step_lone_go ?_;rw[xr ak hw ao,<-finish_at i rest v ak];simp[stepG.apply,aL]
def ato(ak:ops[i]? =some o)(hw:Region.wanted o (yielded ops a.tmps)=true)(ao:b.bR=none∨∀c,o.op≠.defer c)
 (aL:(execOp a.eval o).run P w= .ok .skip w'):step P (lone (b.at a (.inRegion ops (i::rest)::k)) cs w)= .next (lone (b.at (a.put o.dst undef) (.inRegion ops rest::k)) cs w'):=by
 refine step_lone_go ?_;rw[xr ak hw ao,<-finish_at i rest undef ak];simp[stepG.apply,aL]
def atn{d:Deferred}(ak:ops[i]? =some o)(hw:Region.wanted o (yielded ops a.tmps)=true)(ao:b.bR=none)
 (aL:(execOp a.eval o).run P w= .ok (.defer d) w'):step P (lone (b.at a (.inRegion ops (i::rest)::k)) cs w)= .next (lone (b.at ({a with defers:=d::a.defers}.put o.dst undef) (.inRegion ops rest::k)) cs w'):=by
 refine step_lone_go ?_;rw[xr ak hw (.inl ao)];have:=finish_at (b:=b) (a:={a with defers:=d::a.defers}) (k:=k) i rest undef ak;rw[<-this];simp[stepG.apply,aL,ea.at]
def acE{args:ap be}(ak:ops[i]? =some o)(hw:Region.wanted o (yielded ops a.tmps)=true)(ao:b.bR=none∨∀c,o.op≠.defer c)
 (aL:(execOp a.eval o).run P w= .ok (.enter f args) w'):step P (lone (b.at a (.inRegion ops (i::rest)::k)) cs w)= .next (lone (Frame.enter P f args .normal) (b.at a (.inRegion ops (i::rest)::k)::cs) w'):=by
 refine step_lone_go ?_;rw[xr ak hw ao];simp[stepG.apply,aL,ea.at]
def acF{ts:ap be}{dr body:Code}(ak:ops[i]? =some o)(hw:Region.wanted o (yielded ops a.tmps)=true)(ao:b.bR=none∨∀c,o.op≠.defer c)
 (aL:(execOp a.eval o).run P w= .ok (.round l f ts dr body) w'):step P (lone (b.at a (.inRegion ops (i::rest)::k)) cs w)= .next (lone (Frame.round l f ts dr body .normal) (b.at a (.inRegion ops (i::rest)::k)::cs) w'):=by
 refine step_lone_go ?_;rw[xr ak hw ao];simp[stepG.apply,aL,ea.at]
def atq(ak:ops[i]? =some o)(hw:Region.wanted o (yielded ops a.tmps)=true)(ao:b.bR=none)
 (aL:(execOp a.eval o).run P w= .ok .recover w'):
 step P (lone (b.at a (.inRegion ops (i::rest)::k)) cs w)=match tryRecover (b.at a (.inRegion ops (i::rest)::k)) cs with
  |some (v,cs')=>.next (lone (b.at (a.put o.dst v) (.inRegion ops rest::k)) cs' w')
  |none=>.next (lone (b.at (a.put o.dst .nilIface) (.inRegion ops rest::k)) cs w'):=by
 have Ed:(b.at a (.inRegion ops (i::rest)::k)).roundOf=none:=ao;cases aF:tryRecover (b.at a (.inRegion ops (i::rest)::k)) cs with
 |none=>
  refine step_lone_go ?_;rw[xr ak hw (.inl ao),<-finish_at i rest _ ak];simp[stepG.apply,aL,Ed,aF]
 |some p=>
  obtain⟨v,cs'⟩:=p;refine step_lone_go ?_;rw[xr ak hw (.inl ao),<-finish_at i rest _ ak];simp[stepG.apply,aL,Ed,aF]
def atp(ak:ops[i]? =some o)(hw:Region.wanted o (yielded ops a.tmps)=true)(ao:b.bR=none∨∀c,o.op≠.defer c)
 (aL:(execOp a.eval o).run P w= .halt (.panic v) w'):step P (lone (b.at a (.inRegion ops (i::rest)::k)) cs w)= .next (lone {b.at a (.inRegion ops (i::rest)::k)with mode:=.panicking [{v,recovered:=false}]} cs w'):=by
 refine step_lone_go ?_;rw[xr ak hw ao];simp[stepG.apply,aL,ea.at,Frame.raise]
end
inductive K1(P:Program)(lY:Value)(args:List Value)(w:World):Frame->Prop
 |enter (f:FuncId) (as:Array Value) (h:((do let d<-Deferred.ofValue lY args.toArray;invoke d.target d.args):Sem Next).run P w= .ok (.enter f as) w):K1 P lY args w (Frame.enter P f as .normal)
 |round (l:Nat) (f:FuncId) (ts:Array Value) (dr body:Code) (h:((do let d<-Deferred.ofValue lY args.toArray;invoke d.target d.args):Sem Next).run P w= .ok (.round l f ts dr body) w):K1 P lY args w (Frame.round l f ts dr body .normal)
def CF(X:Ctx)(ι:bx)(w:d7)(fS c:Frame)(cs:ac Frame):eb->Prop
 |.ret v st' _=>∃aR v' w',bq aR v v'∧bz X aR st' w'∧fY ι aR w w'∧Steps X.P (lone fS (c::cs) w) (lone (c.finish v') cs w')
 |.a9 v st' _=>∃aR v' w',bq aR v v'∧bz X aR st' w'∧fY ι aR w w'∧Steps X.P (lone fS (c::cs) w) (lone (c.raise [{v:=v',recovered:=false}]) cs w')
 |.no=>True
def oe(X:Ctx)(call:bG):Prop:=
 ∀ι lY args st Hl kz w,bq ι lY Hl->bI ι args kz->bz X ι st w->call lY args none st≠.no->
  ∃fS,K1 X.P Hl kz w fS∧∀c cs,CF X ι w fS c cs (call lY args none st)
def mf(b:ea)(a9:am be)(ι:bx)(bB:Bool->ac Frame):Prop:=
 match a9 with
 |none=>∀(F:Frame) (e7:Bool),F.kind=b.kind->tryRecover F (bB e7)=none
 |some tv=>∃oS,bq ι tv oS∧(∀F:Frame,F.kind=b.kind->tryRecover F (bB false)=some (oS,bB true))∧∀F:Frame,F.kind=b.kind->tryRecover F (bB true)=none
def mf.mono{b:ea}{a9:am be}{ι aR:bx}{bB:Bool->ac Frame}(hle:ι.le aR)(h:mf b a9 ι bB):mf b a9 aR bB:=by
 cases a9 with
 |none=>exact h
 |some tv=>obtain⟨oS,h1,h2,ab⟩:=h;exact⟨oS,h1.mono hle,h2,ab⟩
def rA(ι:bx)(x:am Nat)(y:am Nat):Prop:=(x=none∧y=none)∨∃l l',x=some l∧y=some l'∧ι l=some ⟨l',0,0,id⟩
def rA.mono{ι aR:bx}(hle:ι.le aR){x y:am Nat}(h:rA ι x y):rA aR x y:=by
 rcases h with h|⟨l,l',h1,h2,ab⟩
 ·exact .inl h
 ·exact .inr ⟨l,l',h1,h2,hle _ _ ab⟩
variable{X:Ctx}
def n5(X:Ctx)(aP:Nat)(ops:ap Oper)(x:bA)(o:Oper):Bool:=
 (match x.d,o.dst with
  |none,none=>true
  |some a,some b=>Nat.beq a b&&Nat.ble (Nat.succ b) aP
  |_,_=>false)&&X.la o.op x.o&&
 (match x.g,o.guard with
  |none,none=>true
  |some (t,want),some (j,Rg)=>(want==Rg)&&(match(ops[j]?).bind (·.dst)with|some cL=>Nat.beq t cL&&Nat.ble (Nat.succ t) aP|none=>false)
  |_,_=>false)
section
variable{aP:Nat}{ops:ap Oper}{x:bA}{o:Oper}
def Pq(h:n5 X aP ops x o=true):x.d=o.dst∧∀t,x.d=some t->t<aP:=by
 unfold n5 at h;simp only[b4]at h;have h1:=h.1.1;split at h1
 ·rename_i aq e2;rw[aq,e2];exact⟨rfl,by simp⟩
 ·rename_i a b aq e2;rw[b4]at h1;have:=e5 h1.1;subst this;rw[aq,e2];exact⟨rfl,fun t aF=>by cases aF;exact qt.1 h1.2⟩
 ·cases h1
def Jp(h:n5 X aP ops x o=true):X.la o.op x.o=true:=by
 unfold n5 at h;simp only[b4]at h;exact h.1.2
variable{ι:bx}{fr aA:aJ}{a:Act}{st st':au}{w:d7}{v:be}{call:bG}{b:ea}{bB:Bool->ac Frame}{k:ac Item}{i:Nat}{rest:ac Nat}
def adG{α:Type}{yes ig z r:α}(h:n5 X aP ops x o=true)(U:cF ι fr a aP)(hk:h7 fr x.g yes ig z=r)(av:z≠r):
 (yes=r∧Region.wanted o (yielded ops a.tmps)=true)∨(ig=r∧Region.wanted o (yielded ops a.tmps)=false):=by
 unfold n5 at h;simp only[b4]at h;have h1:=h.2;split at h1
 ·rename_i aq e2;rw[aq]at hk;exact .inl ⟨hk,by simp[Region.wanted,e2]⟩
 ·rename_i t want j Rg aq e2;rw[aq]at hk;rw[b4]at h1;obtain⟨hw,ab⟩:=h1;have eL:want=Rg:=by simpa using hw
  subst eL;split at ab
  ·rename_i cL ib;rw[b4]at ab;have bS:=e5 ab.1;subst bS;have aE:t<a.tmps.size:=by rw[U.size];exact qt.1 ab.2
   have qT:=U.tmp t;have aO:a.tmps[t]? =some (a.tmps.getD t undef):=by simp[Array.getD,aE]
   have ay:yielded ops a.tmps j=match a.tmps.getD t undef with|.bool b=>some b|_=>none:=by
    unfold yielded;rw[ib];simp only[Option.bind_some,aO];cases a.tmps.getD t undef<;>rfl
   have n0:Region.wanted o (yielded ops a.tmps)=(yielded ops a.tmps j==some want):=by simp[Region.wanted,e2]
   have fs:oc (fr.tmp t) (fun b=>cond b (cond want yes ig) (cond want ig yes)) (rr (fr.tmp t) (fun _=>ig) z)=r:=hk;generalize hc:a.tmps.getD t undef=AH at qT ay;generalize aF:fr.tmp t=Q4 at fs qT;cases Q4 with
   |bool nf=>
    cases qT;have kl:cond nf (cond want yes ig) (cond want ig yes)=r:=fs;rw[n0,ay];cases nf<;>cases want
    ·exact .inl ⟨kl,rfl⟩
    ·exact .inr ⟨kl,rfl⟩
    ·exact .inr ⟨kl,rfl⟩
    ·exact .inl ⟨kl,rfl⟩
   |tuple xs=>
    cases qT;exact .inr ⟨fs,by rw[n0,ay];rfl⟩
   |_=>exact absurd fs av
  ·cases ab
 ·cases h1
def aqc(a:Act)(d:am Tmp)(v:be){ds:ac Deferred}:({a with defers:=ds}.put d v).tmps=(a.put d v).tmps:=by cases d<;>rfl
def aae(bH:n5 X aP ops x o=true)(eT:oe X call)(ak:ops[i]? =some o)(g7:Region.wanted o (yielded ops a.tmps)=true)(U:cF ι fr a aP)(hw:bz X ι st w)(hb:rA ι fr.bR b.bR)
 (aL:mf b fr.a9 ι bB) (h:bK call x.o fr st= .ok v aA st'):
 ∃aR a' w',Steps X.P (lone (b.at a (.inRegion ops (i::rest)::k)) (bB fr.cD) w) (lone (b.at a' (.inRegion ops rest::k)) (bB aA.cD) w')∧cF aR (aA.put x.d v) a' aP∧bz X aR st' w'∧fY ι aR w w'∧
  aA.a9=fr.a9∧aA.bR=fr.bR∧∃v',a'.tmps=(a.put o.dst v').tmps:=by
 obtain⟨nn,lB⟩:=Pq bH;have dB:=Jp bH;have qR:∀{q:Prop},(b.bR=none->q)->(fr.bR=none->q):=by
  intro q hq hn;rcases hb with⟨_,h2⟩|⟨l,l',h1,_,_⟩
  ·exact hq h2
  ·rw[hn]at h1;cases h1
 by_cases hp:x.o.inPlace=true
 ·obtain⟨rfl,⟨aR,n,w',gB,hn,eL,hk⟩,_⟩:=Ph dB U hw h hp;have nt:b.bR=none∨∀c,o.op≠.defer c:=by
   right;intro c hc;rw[hc]at dB;cases J:x.o with
   |vb fn p q=>rw[J]at dB;cases fn<;>cases dB
   |wM p=>rw[J]at h;cases h
   |refuse=>rw[J]at h;cases h
   |rK p q=>rw[J]at hp;cases hp
   |ext y=>rw[J]at dB;cases y<;>cases dB
   |_=>rw[J]at dB;cases dB
  rcases hn with⟨v',rfl,aB⟩|⟨rfl,rfl⟩
  ·refine⟨aR,a.put o.dst v',w',.one (QS ak g7 nt gB),?_,eL,hk,rfl,rfl,_,rfl⟩;rw[<-nn];exact(U.mono hk.le).put lB aB
  ·refine⟨aR,a.put o.dst undef,w',.one (ato ak g7 nt gB),?_,eL,hk,rfl,rfl,_,rfl⟩;rw[<-nn];exact(U.mono hk.le).put lB (bq.undef aR)
 ·cases J:x.o with
  |call f ps=>
   rw[J]at h dB;obtain⟨g,args,ts,pj,hj⟩:=X6 dB;simp only[b4]at hj;obtain⟨rfl,bf⟩:=c9 hj.1.1;obtain⟨rfl,bL⟩:=tr hj.1.2;have aC:eb.rec (motive:=fun _=>aV) (fun v st _=>.ok v fr st) (fun v st _=>.a9 v st) .no (call (fr.ai f) (er fr args.toList) none st)=aV.ok v aA st':=h;have nt:b.bR=none∨∀c,o.op≠.defer c:=.inr (by rw[pj];simp);obtain⟨fS,dz,uP⟩:=eT ι (fr.ai f) (er fr args.toList) st (a.eval f) (args.toList.map a.eval) w (U.ai hw bf) (AS U hw _ bL) hw (by intro e;rw[e]at aC;cases aC);have DM:(execOp a.eval o).run X.P w=((do let d<-Deferred.ofValue (a.eval f) (args.toList.map a.eval).toArray;invoke d.target d.args):Sem Next).run X.P w:=by
    unfold execOp;rw[pj];simp[resolve,<-Array.toList_map]
   cases hc:call (fr.ai f) (er fr args.toList) none st with
   |ret v1 cm e7=>
    rw[hc]at aC uP;have uA:aV.ok v1 fr cm=aV.ok v aA st':=aC;obtain⟨aq,e2,bS⟩:=wZ uA;subst aq e2 bS;obtain⟨aR,v',w',aB,eL,hk,yT⟩:=uP (b.at a (.inRegion ops (i::rest)::k)) (bB fr.cD);have ix:=finish_at (b:=b) (a:=a) (k:=k) i rest v' ak;rw[ix]at yT;refine⟨aR,a.put o.dst v',w',?_,?_,eL,hk,rfl,rfl,_,rfl⟩
    ·cases dz with
     |enter rP as af=>exact .head (acE ak g7 nt (by rw[DM];exact af)) yT
     |round l rP Q3 dr body af=>exact .head (acF ak g7 nt (by rw[DM];exact af)) yT
    ·rw[<-nn];exact(U.mono hk.le).put lB aB
   |a9 v1 cm e7=>rw[hc]at aC;cases aC
   |no=>rw[hc]at aC;cases aC
  |inv aY f ps=>rw[J]at h;cases h
  |xl=>
   rw[J]at h dB;obtain⟨ts,pj⟩:=anC dB;obtain⟨hn,h1⟩:=ES (h:bm fr.bR _ _=_) (fun _=>by simp);have A3:b.bR=none:=qR id hn;have gB:(execOp a.eval o).run X.P w= .ok .recover w:=by
    unfold execOp;rw[pj];simp[resolve,invoke,builtin]
   have af:=atq (b:=b) (k:=k) (cs:=bB fr.cD) ak g7 A3 gB (rest:=rest);cases jy:fr.a9 with
   |none=>
    rw[jy]at h1 aL;have h2:aV.ok .nilIface fr st=aV.ok v aA st':=h1;obtain⟨aq,e2,bS⟩:=wZ h2;subst aq e2 bS;rw[aL _ _ rfl]at af;refine⟨ι,_,w,.one af,?_,hw,.refl _ _,jy,rfl,_,rfl⟩;rw[<-nn];exact U.put lB .nilIface
   |some tv=>
    rw[jy]at h1 aL;obtain⟨oS,Bf,Ec,amz⟩:=aL;have h2:cond fr.cD (aV.ok .nilIface fr st) (.ok tv ⟨fr.t,fr.cW,fr.a9,true,fr.bR⟩ st)=aV.ok v aA st':=by rw[jy];exact h1
    cases r1:fr.cD with
    |true=>
     rw[r1]at h2 af;obtain⟨aq,e2,bS⟩:=wZ (h2:aV.ok .nilIface fr st=aV.ok v aA st');subst aq e2 bS;rw[amz _ rfl]at af;refine⟨ι,_,w,by rw[r1];exact .one af,?_,hw,.refl _ _,jy,rfl,_,rfl⟩;rw[<-nn];exact U.put lB .nilIface
    |false=>
     rw[r1]at h2 af;obtain⟨aq,e2,bS⟩:=wZ (h2:aV.ok tv ⟨fr.t,fr.cW,fr.a9,true,fr.bR⟩ st=aV.ok v aA st');subst aq e2 bS;rw[Ec _ rfl]at af;refine⟨ι,_,w,.one af,?_,hw,.refl _ _,jy,rfl,_,rfl⟩;rw[<-nn];exact cF.put (fr:=⟨fr.t,fr.cW,fr.a9,true,fr.bR⟩) ⟨U.tmp,U.size,U.cW⟩ lB Bf
  |rK f ps=>
   rw[J]at h dB;obtain⟨g,args,ts,pj,hj⟩:=ans dB;simp only[b4]at hj;obtain⟨rfl,bf⟩:=c9 hj.1;obtain⟨rfl,bL⟩:=tr hj.2;obtain⟨hn,h1⟩:=ES (h:bm fr.bR _ _=_) (fun _=>by simp);have A3:b.bR=none:=qR id hn;obtain⟨fn,first,fK,A5,h2⟩:=Re h1 (by simp);have aB:=U.ai hw bf;rw[A5]at aB;cases fn with
   |func mj=>
    obtain⟨aq,e2,bS⟩:=wZ (h2:aV.ok undef ⟨fr.t,{target:=.fn (.func mj) fK,args:=⟨gJ first.toList (er fr args.toList)⟩}::fr.cW,fr.a9,fr.cD,fr.bR⟩ st=aV.ok v aA st');subst aq e2 bS;generalize nm:a.eval f=xN at aB;cases aB with
    |func _ hr _ al _ vs iI gU hM pG CL=>
     have iH:=AS U hw _ bL;have gB:(execOp a.eval o).run X.P w= .ok (.defer {target:=.fn hr vs,args:=al++args.map a.eval}) w:=by
      unfold execOp;rw[pj];simp[resolve,nm,Deferred.ofValue]
     have af:=atn (b:=b) (k:=k) (cs:=bB fr.cD) ak g7 A3 gB (rest:=rest);refine⟨ι,_,w,.one af,?_,hw,.refl _ _,rfl,rfl,undef,aqc _ _ _⟩;rw[<-nn];refine cF.put (fr:=⟨fr.t,{target:=.fn (.func mj) fK,args:=⟨gJ first.toList (er fr args.toList)⟩}::fr.cW,fr.a9,fr.cD,fr.bR⟩) (a:={a with defers:={target:=.fn hr vs,args:=al++args.map a.eval}::a.defers}) ⟨U.tmp,U.size,⟨⟨?_,iI,bI.wW pG CL⟩,U.cW⟩⟩ lB (bq.undef ι);have:=(bI.wW gU hM).append iH;simpa using this
   |_=>cases h2
  |sk p=>
   rw[J]at h;obtain⟨t,adC,_,h1⟩:=Rf (h:zW (fr.ai p) _ _=_) (by simp);cases h1
  |_=>rw[J]at hp;exact absurd rfl hp
end
end Go.ah
namespace Go.ah
variable{X:Ctx}
section
variable{aP:Nat}{ops:ap Oper}{x:bA}{o:Oper}{ι:bx}{fr aA:aJ}{a:Act}{st st':au}{w:d7}{v:be}{call:bG}{b:ea}{bB:Bool->ac Frame}{k:ac Item}{i:Nat}{rest:ac Nat}
variable{cs:ac Frame}{s bh:Machine}{aR:bx}
def ea.panics(b:ea)(a:Act)(todo:ac Item)(v:be):Frame:={b.at a todo with mode:=.panicking [{v,recovered:=false}]}
def aaf(bH:n5 X aP ops x o=true)(eT:oe X call)(ak:ops[i]? =some o)(g7:Region.wanted o (yielded ops a.tmps)=true)(U:cF ι fr a aP)(hw:bz X ι st w)
 (ei:x.o.mh=true) (h:bK call x.o fr st= .a9 v st'):
 ∃aR v' w',Steps X.P (lone (b.at a (.inRegion ops (i::rest)::k)) cs w) (lone (b.panics a (.inRegion ops (i::rest)::k) v') cs w')∧bq aR v v'∧bz X aR st' w'∧fY ι aR w w':=by
 have dB:=Jp bH;cases J:x.o with
 |call f ps=>
  rw[J]at h dB;obtain⟨g,args,ts,pj,hj⟩:=X6 dB;simp only[b4]at hj;obtain⟨rfl,bf⟩:=c9 hj.1.1;obtain⟨rfl,bL⟩:=tr hj.1.2;have aC:eb.rec (motive:=fun _=>aV) (fun v st _=>.ok v fr st) (fun v st _=>.a9 v st) .no (call (fr.ai f) (er fr args.toList) none st)=aV.a9 v st':=h;have nt:b.bR=none∨∀c,o.op≠.defer c:=.inr (by rw[pj];simp);obtain⟨fS,dz,uP⟩:=eT ι (fr.ai f) (er fr args.toList) st (a.eval f) (args.toList.map a.eval) w (U.ai hw bf) (AS U hw _ bL) hw (by intro e;rw[e]at aC;cases aC);have DM:(execOp a.eval o).run X.P w=((do let d<-Deferred.ofValue (a.eval f) (args.toList.map a.eval).toArray;invoke d.target d.args):Sem Next).run X.P w:=by
   unfold execOp;rw[pj];simp[resolve,<-Array.toList_map]
  cases hc:call (fr.ai f) (er fr args.toList) none st with
  |a9 v1 cm e7=>
   rw[hc]at aC uP;have uA:aV.a9 v1 cm=aV.a9 v st':=aC;cases uA;obtain⟨aR,v',w',aB,eL,hk,yT⟩:=uP (b.at a (.inRegion ops (i::rest)::k)) cs;have amF:(b.at a (.inRegion ops (i::rest)::k)).raise [{v:=v',recovered:=false}]=b.panics a (.inRegion ops (i::rest)::k) v':=rfl;rw[amF]at yT;refine⟨aR,v',w',?_,aB,eL,hk⟩;cases dz with
   |enter rP as af=>exact .head (acE ak g7 nt (by rw[DM];exact af)) yT
   |round l rP Q3 dr body af=>exact .head (acF ak g7 nt (by rw[DM];exact af)) yT
  |ret v1 cm e7=>rw[hc]at aC;cases aC
  |no=>rw[hc]at aC;cases aC
 |inv aY f ps=>rw[J]at h;cases h
 |sk p=>
  rw[J]at h dB;obtain⟨q,pj,hj⟩:=anB dB;obtain⟨rfl,bf⟩:=c9 hj;obtain⟨t,adC,hp,h1⟩:=Rf (h:zW (fr.ai p) _ _=_) (by simp);have h2:aV.a9 (.iface t adC) st=aV.a9 v st':=h1;cases h2;have aB:=U.ai hw bf;rw[hp]at aB;generalize nm:a.eval p=xN at aB;cases aB with
  |iface _ _ aul am1=>
   refine⟨ι,.iface t aul,w,.one (atp ak g7 (.inr (by rw[pj];simp)) ?_),.iface _ _ _ am1,hw,.refl _ _⟩;unfold execOp;rw[pj];simp[nm,Instr.panic,Result.andThen]
 |_=>rw[J]at ei;cases ei
def F3(P:f5)(s:Machine)(b:ea)(a:Act)(k:ac Item)(cs:ac Frame)(w:d7)(aR:bx):dM->Prop
 |.norm=>Steps P s (lone (b.at a k) cs w)
 |.exit id=>∃jC,exitTo id jC=exitTo id k∧Steps P s (lone (b.at a (.code (.exit id)::jC)) cs w)
 |.ret=>∃jC,Steps P s (lone (b.at a (.code .ret::jC)) cs w)
 |.a9 v=>∃v' jC,bq aR v v'∧Steps P s (lone (b.panics a jC v') cs w)
def gT(X:Ctx)(b:ea)(aP:Nat)(bB:Bool->ac Frame)(s:Machine)(k:ac Item)(fr:aJ)(ι:bx)(w:d7):cU->Prop
 |.out e aA st'=>∃aR a' w',cF aR aA a' aP∧bz X aR st' w'∧fY ι aR w w'∧aA.a9=fr.a9∧aA.bR=fr.bR∧F3 X.P s b a' k (bB aA.cD) w' aR e
 |.no=>True
def F3.head{P:f5}{e:dM}(h:Steps P s bh)(aC:F3 P bh b a k cs w aR e):F3 P s b a k cs w aR e:=by
 cases e with
 |norm=>exact h.trans aC
 |exit id=>obtain⟨jC,h1,h2⟩:=aC;exact⟨jC,h1,h.trans h2⟩
 |ret=>obtain⟨jC,h2⟩:=aC;exact⟨jC,h.trans h2⟩
 |a9 v=>obtain⟨v',jC,h1,h2⟩:=aC;exact⟨v',jC,h1,h.trans h2⟩
def gT.head{w':d7}{r:cU}(h:Steps X.P s bh)(hk:fY ι aR w w')(hp:aA.a9=fr.a9)(aL:aA.bR=fr.bR)(aC:gT X b aP bB bh k aA aR w' r):gT X b aP bB s k fr ι w r:=by
 cases r with
 |no=>trivial
 |out e au9 av6=>
  obtain⟨fF,a',ku,h1,h2,ab,aD,bg,cv⟩:=aC;exact⟨fF,a',ku,h1,h2,hk.trans ab,aD.trans hp,bg.trans aL,cv.head h⟩
def ahF(x:bA)(xs:ac bA)(fr:aJ)(st:au):jh call (x::xs) fr st=
 h7 fr x.g (aV.rec (motive:=fun _=>cU) (fun v fr st=>jh call xs (fr.put x.d v) st) (fun v st=>cond x.o.mh (.out (.a9 v) fr st) .no) .no (bK call x.o fr st))
  (jh call xs (fr.put x.d undef) st) .no:=rfl
def vu(fr:aJ)(d:am Tmp)(v:be):(fr.put d v).a9=fr.a9∧(fr.put d v).bR=fr.bR∧(fr.put d v).cD=fr.cD∧(fr.put d v).cW=fr.cW:=by
 obtain⟨h1,h2,ab,aD⟩:=vt fr d v;exact⟨h2,aD,ab,h1⟩
theorem Pr(eT:oe X call):∀(xs:ac bA) (l:ac Nat) (ι:bx) (fr:aJ) (a:Act) (st:au) (w:d7),xs.length=l.length->
 (∀(j:Nat) (x:bA) (i:Nat),xs[j]? =some x->l[j]? =some i->∃o,ops[i]? =some o∧n5 X aP ops x o=true)->
 cF ι fr a aP->bz X ι st w->rA ι fr.bR b.bR->mf b fr.a9 ι bB->
 gT X b aP bB (lone (b.at a (.inRegion ops l::k)) (bB fr.cD) w) k fr ι w (jh call xs fr st)
 |[],[],ι,fr,a,st,w,_,_,U,hw,_,_=>⟨ι,a,w,U,hw,.refl _ _,rfl,rfl,.one acG⟩
 |[],_::_,_,_,_,_,_,h,_,_,_,_,_=>by simp at h
 |_::_,[],_,_,_,_,_,h,_,_,_,_,_=>by simp at h
 |x::xs,i::l,ι,fr,a,st,w,hl,eI,U,hw,hb,aL=>by
  obtain⟨o,ak,bH⟩:=eI 0 x i rfl rfl;have Hv:∀(j:Nat) (x:bA) (i:Nat),xs[j]? =some x->l[j]? =some i->∃o,ops[i]? =some o∧n5 X aP ops x o=true:=fun j x i h1 h2=>eI (j+1) x i h1 h2;have cy:xs.length=l.length:=by simpa using hl
  obtain⟨nn,lB⟩:=Pq bH;rw[ahF];generalize aO:h7 fr x.g _ _ _=r;by_cases gL:r= .no
  ·rw[gL];trivial
  rcases adG bH U aO (fun e=>gL e.symm)with⟨e,g7⟩|⟨e,g7⟩
  ·cases iH:bK call x.o fr st with
   |ok v eH cm=>
    rw[iH]at e;have cK:jh call xs (eH.put x.d v) cm=r:=e;obtain⟨aR,a',w',af,eJ,eL,hk,hp,qR,_⟩:=aae (k:=k) (rest:=l) bH eT ak g7 U hw hb aL iH;obtain⟨eD,eU,fT,j2⟩:=vu eH x.d v;have rZ:=Pr eT xs l aR (eH.put x.d v) a' cm w' cy Hv eJ eL (by rw[eU,qR];exact hb.mono hk.le) (by rw[eD,hp];exact aL.mono hk.le);rw[<-cK];rw[fT]at rZ;exact gT.head af hk (eD.trans hp) (eU.trans qR) rZ
   |a9 v cm=>
    rw[iH]at e;have cK:cond x.o.mh (.out (.a9 v) fr cm) .no=r:=e;obtain⟨ei,e2⟩:=jI cK (fun e=>gL e.symm);obtain⟨aR,v',w',af,aB,eL,hk⟩:=aaf (b:=b) (k:=k) (rest:=l) (cs:=bB fr.cD) bH eT ak g7 U hw ei iH;rw[<-e2];exact⟨aR,a,w',U.mono hk.le,eL,hk,rfl,rfl,v',_,aB,af⟩
   |no=>rw[iH]at e;exact absurd (e:cU.no=r).symm gL
  ·obtain⟨eD,eU,fT,j2⟩:=vu fr x.d undef;have rZ:=Pr eT xs l ι (fr.put x.d undef) (a.put o.dst undef) st w cy Hv (by rw[<-nn];exact U.put lB (bq.undef ι)) hw (by rw[eU];exact hb) (by rw[eD];exact aL);rw[<-e];rw[fT]at rZ;exact gT.head (.one (Kt ak g7)) (.refl _ _) eD eU rZ
end
end Go.ah
namespace Go.ah
variable{X:Ctx}{call:bG}
def lR(fr:aJ)(g:am (Tmp×Bool))(b:Bool):Prop:=h7 fr g (some true) (some false) none=some b
variable{β:Type}
def FV{α:Type}{fr:aJ}{g:am (Tmp×Bool)}{yes ig z r:α}(h:h7 fr g yes ig z=r)(av:z≠r):(lR fr g true∧yes=r)∨(lR fr g false∧ig=r):=by
 unfold lR;cases g with
 |none=>exact .inl ⟨rfl,h⟩
 |some p=>
  have aC:oc (fr.tmp p.1) (fun b=>cond b (cond p.2 yes ig) (cond p.2 ig yes)) (rr (fr.tmp p.1) (fun _=>ig) z)=r:=h;show(oc (fr.tmp p.1) (fun b=>cond b (cond p.2 (some true) (some false)) (cond p.2 (some false) (some true))) (rr (fr.tmp p.1) (fun _=>some false) none)=some true∧_)∨
   (oc (fr.tmp p.1) (fun b=>cond b (cond p.2 (some true) (some false)) (cond p.2 (some false) (some true))) (rr (fr.tmp p.1) (fun _=>some false) none)=some false∧_)
  generalize fr.tmp p.1=Q4 at aC;cases Q4 with
  |bool nf=>
   have h2:cond nf (cond p.2 yes ig) (cond p.2 ig yes)=r:=aC;show(cond nf (cond p.2 (some true) (some false)) (cond p.2 (some false) (some true))=some true∧_)∨(cond nf (cond p.2 (some true) (some false)) (cond p.2 (some false) (some true))=some false∧_);cases nf<;>cases hp:p.2<;>rw[hp]at h2
   ·exact .inl ⟨rfl,h2⟩
   ·exact .inr ⟨rfl,h2⟩
   ·exact .inr ⟨rfl,h2⟩
   ·exact .inl ⟨rfl,h2⟩
  |tuple xs=>exact .inr ⟨rfl,aC⟩
  |_=>exact absurd aC av
def EX(t:an be)(ts:ac Tmp):an be:=m5 t ts fun m=>m
def aJ.only(fr:aJ)(ts:ac Tmp):aJ:=⟨EX fr.t ts,[],none,false,none⟩
def pr(t:an be)(ts:ac Tmp)(k:an be->β)(m:an be):β:=
 List.rec (motive:=fun _=>an be->β) (fun m=>k m) (fun x _ a1 m=>bm (t.get x) (fun v=>an.jl (Nat.succ x) m x v a1) (a1 m)) ts m
theorem Pe{β:Type}(t:an be)(k:an be->β):∀(ts:ac Tmp) (m:an be),pr t ts k m=k (pr t ts (fun m=>m) m)
 |[],_=>rfl
 |x::ts,m=>by
  show bm (t.get x) (fun v=>an.jl (Nat.succ x) m x v (pr t ts k)) (pr t ts k m)=k (bm (t.get x) (fun v=>an.jl (Nat.succ x) m x v (pr t ts fun m=>m)) (pr t ts (fun m=>m) m));cases t.get x with
  |none=>exact Pe t k ts m
  |some v=>
   show an.jl (Nat.succ x) m x v (pr t ts k)=k (an.jl (Nat.succ x) m x v (pr t ts fun m=>m));rw[an.zM,an.zM];exact Pe t k ts _
def q7(t:an be)(ts:ac Tmp)(k:an be->β):m5 t ts k=k (EX t ts):=Pe t k ts .nil
theorem Pf(t:an be):∀(ts:ac Tmp) (m:an be) (j:Nat),(pr t ts (fun m=>m) m).get j=if j∈ts∧(t.get j).isSome then t.get j else m.get j
 |[],m,j=>by rw[zaa (by simp)];rfl
 |x::ts,m,j=>by
  show(bm (t.get x) (fun v=>an.jl (Nat.succ x) m x v (pr t ts fun m=>m)) (pr t ts (fun m=>m) m)).get j=_;cases J:t.get x with
  |none=>
   show(pr t ts (fun m=>m) m).get j=_;rw[Pf t ts m j];by_cases hj:j=x
   ·subst hj;simp[J]
   ·simp[zap,hj]
  |some v=>
   show(an.jl (Nat.succ x) m x v (pr t ts fun m=>m)).get j=_;rw[an.zM,Pf t ts _ j,an.e8];by_cases hj:j=x
   ·subst hj;simp[J]
   ·simp[zap,hj]
def ZM(fr:aJ)(ts:ac Tmp)(j:Nat):(fr.only ts).tmp j=if j∈ts then fr.tmp j else jB:=by
 have h:=Pf fr.t ts .nil j;have e:(fr.only ts).t.get j=(pr fr.t ts (fun m=>m) .nil).get j:=rfl;show Option.rec (motive:=fun _=>be) (.chan (some 0)) (fun v=>v) ((fr.only ts).t.get j)=_;rw[e,h];by_cases hj:j∈ts
 ·rw[zab hj];cases aO:fr.t.get j with
  |none=>rw[zaa (by simp),an.get_nil];simp[aJ.tmp,aO]
  |some v=>rw[zab ⟨hj,rfl⟩];simp[aJ.tmp,aO]
 ·rw[zaa (fun h=>hj h.1),zaa hj,an.get_nil];rfl
theorem aat:∀(ts:ac Tmp) (fr:aJ),(∀j,(qh fr ts).tmp j=if j∈ts then jB else fr.tmp j)∧(qh fr ts).a9=fr.a9∧(qh fr ts).bR=fr.bR∧(qh fr ts).cD=fr.cD∧(qh fr ts).cW=fr.cW
 |[],fr=>⟨fun j=>by simp[qh],rfl,rfl,rfl,rfl⟩
 |t::ts,fr=>by
  obtain⟨h1,h2,ab,aD,bg⟩:=aat ts (fr.put (some t) jB);obtain⟨eD,eU,fT,j2⟩:=vu fr (some t) jB;refine⟨fun j=> ?_,h2.trans eD,ab.trans eU,aD.trans fT,bg.trans j2⟩;show(qh (fr.put (some t) jB) ts).tmp j=_;rw[h1 j,sy];by_cases hj:j∈ts
  ·rw[zab hj,zab (zaB _ hj)]
  ·rw[zaa hj];by_cases e:t=j
   ·subst e;simp
   ·have:j≠t:=fun h=>e h.symm;simp[e,hj,this]
theorem abX{o:de}{fr:aJ}{v:be}{aj:Nat}:∀(n:Nat) (af:ac (an bt)),sameAt call o fr v aj n af=true->∀j,j<n->∃h aA st',af[j]? =some h∧bK call o fr ⟨h,aj⟩= .ok v aA st'
 |0,_,_,j,hj=>by omega
 |n+1,[],h,_,_=>by cases h
 |n+1,h::af,hh,j,hj=>by
  have A6:aV.rec (motive:=fun _=>Bool) (fun v' _ _=>cond (dU v v') (sameAt call o fr v aj n af) false) (fun _ _=>false) false (bK call o fr ⟨h,aj⟩)=true:=hh;cases he:bK call o fr ⟨h,aj⟩with
  |ok v' aA st'=>
   rw[he]at A6;have h2:cond (dU v v') (sameAt call o fr v aj n af) false=true:=A6;obtain⟨ab,aD⟩:=jI h2 (by simp);have:=od _ _ ab;subst this;cases j with
   |zero=>exact⟨h,aA,st',rfl,he⟩
   |succ j=>
    obtain⟨aC,rP,bh,bg,cv⟩:=abX n af aD j (by omega);exact⟨aC,rP,bh,by simpa using bg,cv⟩
  |a9 _ _=>rw[he]at A6;cases A6
  |no=>rw[he]at A6;cases A6
def DStep(call:bG)(x:bA)(c:cx)(fr:aJ)(st:au)(N:ac (an bt))(v:be)(eH:aJ)(cm:au)(nc:ac (an bt)):Prop:=
 match c with
 |.ep=>((lR fr x.g false∨(lR fr x.g true∧∃u bh,bK call x.o fr st= .a9 u bh))∧v=undef∧eH=fr.put x.d undef∧cm=st∧nc=st.h::N)∨
  (lR fr x.g true∧∃aA,bK call x.o fr st= .ok v aA cm∧st.aj<=cm.aj∧eH=aJ.put ⟨fr.t,aA.cW,aA.a9,aA.cD,aA.bR⟩ x.d v∧nc=cm.h::N)
 |.im ts=>eH=fr.put x.d v∧nc=N∧((lR (fr.only ts) x.g false∧v=undef∧cm=st)∨(lR (fr.only ts) x.g true∧∃aA,bK call x.o (fr.only ts) st= .ok v aA cm))
 |.read back ts=>eH=fr.put x.d v∧nc=N∧cm=st∧((lR (fr.only ts) x.g false∧v=undef)∨(lR (fr.only ts) x.g true∧sameAt call x.o (fr.only ts) v st.aj (Nat.succ back) N=true))
def Ad(call:bG)(x:bA)(c:cx)(fr:aJ)(st:au):Prop:=c= .ep->lR fr x.g true->∀u bh,bK call x.o fr st≠.a9 u bh
variable{fr:aJ}
def auG{g:am (Tmp×Bool)}(h:lR fr g false)(aC:lR fr g true):False:=by
 unfold lR at h aC;rw[h]at aC;cases aC
def ahB{x:bA}{c:cx}{L:ac (bA×cx)}{N:ac (an bt)}{st:au}{e:dM}{aA:aJ}{st':au}{dh:tL}(h:iv call dh ((x,c)::L) N fr st= .out e aA st'):
 (∃v eH cm nc,DStep call x c fr st N v eH cm nc∧Ad call x c fr st∧iv call dh L nc eH cm= .out e aA st')∨
 (c= .ep∧lR fr x.g true∧x.o.mh=true∧aA=fr∧dh L (st.h::N) (fr.put x.d undef) st=true∧∃u,e= .a9 u∧bK call x.o fr st= .a9 u st'):=by
 cases c with
 |ep=>
  have aC:h7 fr x.g (aV.rec (motive:=fun _=>cU) (fun v aA st'=>ey st.aj st'.aj (iv call dh L (st'.h::N) (aJ.put ⟨fr.t,aA.cW,aA.a9,aA.cD,aA.bR⟩ x.d v) st') .no) (fun v st'=>cond x.o.mh (cond (dh L (st.h::N) (fr.put x.d undef) st) (.out (.a9 v) fr st') .no) .no) .no (bK call x.o fr st))
   (iv call dh L (st.h::N) (fr.put x.d undef) st) .no= .out e aA st':=h
  rcases FV aC (by simp)with⟨h1,h2⟩|⟨h1,h2⟩
  ·cases he:bK call x.o fr st with
   |ok v mP ef=>
    rw[he]at h2;obtain⟨ab,aD⟩:=jZ (h2:ey st.aj ef.aj _ _=_) (by simp);exact .inl ⟨v,aJ.put ⟨fr.t,mP.cW,mP.a9,mP.cD,mP.bR⟩ x.d v,ef,ef.h::N,.inr ⟨h1,mP,he,ab,rfl,rfl⟩,(fun _ _ u bh hu=>by rw[he]at hu;cases hu),aD⟩
   |a9 u bh=>
    rw[he]at h2;obtain⟨ab,aD⟩:=jI (h2:cond _ _ _=_) (by simp);obtain⟨bg,cv⟩:=jI (aD:cond _ _ _=_) (by simp);have cv:cU.out (.a9 u) fr bh= .out e aA st':=cv;cases cv;exact .inr ⟨rfl,h1,ab,rfl,bg,u,rfl,rfl⟩
   |no=>rw[he]at h2;cases h2
  ·exact .inl ⟨undef,fr.put x.d undef,st,st.h::N,.inl ⟨.inl h1,rfl,rfl,rfl,rfl⟩,(fun _ aF=>(auG h1 aF).elim),h2⟩
 |im ts=>
  have aC:m5 fr.t ts (fun t=>h7 ⟨t,[],none,false,none⟩ x.g
   (aV.rec (motive:=fun _=>cU) (fun v _ st'=>iv call dh L N (fr.put x.d v) st') (fun _ _=>.no) .no (bK call x.o ⟨t,[],none,false,none⟩ st))
   (iv call dh L N (fr.put x.d undef) st) .no)= .out e aA st':=h
  rw[q7]at aC;have uA:h7 (fr.only ts) x.g (aV.rec (motive:=fun _=>cU) (fun v _ st'=>iv call dh L N (fr.put x.d v) st') (fun _ _=>.no) .no (bK call x.o (fr.only ts) st))
   (iv call dh L N (fr.put x.d undef) st) .no= .out e aA st':=aC
  rcases FV uA (by simp)with⟨h1,h2⟩|⟨h1,h2⟩
  ·cases he:bK call x.o (fr.only ts) st with
   |ok v mP ef=>
    rw[he]at h2;exact .inl ⟨v,fr.put x.d v,ef,N,⟨rfl,rfl,.inr ⟨h1,mP,he⟩⟩,(fun h=>by cases h),h2⟩
   |a9 _ _=>rw[he]at h2;cases h2
   |no=>rw[he]at h2;cases h2
  ·exact .inl ⟨undef,fr.put x.d undef,st,N,⟨rfl,rfl,.inl ⟨h1,rfl,rfl⟩⟩,(fun h=>by cases h),h2⟩
 |read back ts=>
  have aC:m5 fr.t ts (fun t=>h7 ⟨t,[],none,false,none⟩ x.g
   (aV.rec (motive:=fun _=>cU) (fun v _ _=>cond (sameAt call x.o ⟨t,[],none,false,none⟩ v st.aj (Nat.succ back) N) (iv call dh L N (fr.put x.d v) st) .no) (fun _ _=>.no) .no (bK call x.o ⟨t,[],none,false,none⟩ st))
   (iv call dh L N (fr.put x.d undef) st) .no)= .out e aA st':=h
  rw[q7]at aC;have uA:h7 (fr.only ts) x.g (aV.rec (motive:=fun _=>cU) (fun v _ _=>cond (sameAt call x.o (fr.only ts) v st.aj (Nat.succ back) N) (iv call dh L N (fr.put x.d v) st) .no) (fun _ _=>.no) .no (bK call x.o (fr.only ts) st))
   (iv call dh L N (fr.put x.d undef) st) .no= .out e aA st':=aC
  rcases FV uA (by simp)with⟨h1,h2⟩|⟨h1,h2⟩
  ·cases he:bK call x.o (fr.only ts) st with
   |ok v mP ef=>
    rw[he]at h2;obtain⟨ab,aD⟩:=jI (h2:cond _ _ _=_) (by simp);exact .inl ⟨v,fr.put x.d v,st,N,⟨rfl,rfl,rfl,.inr ⟨h1,ab⟩⟩,(fun h=>by cases h),aD⟩
   |a9 _ _=>rw[he]at h2;cases h2
   |no=>rw[he]at h2;cases h2
  ·exact .inl ⟨undef,fr.put x.d undef,st,N,⟨rfl,rfl,rfl,.inl ⟨h1,rfl⟩⟩,(fun h=>by cases h),h2⟩
def F2(x:bA)(c:cx)(fr:aJ)(st:au)(N:ac (an bt))(v:be)(eH:aJ)(cm:au)(nc:ac (an bt)):Prop:=v=undef∧eH=fr.put x.d undef∧cm=st∧nc=(match c with|.ep=>st.h::N|_=>N)
structure ky(call:bG)(Z:Nat->Bool)(L:ac (bA×cx))(fA:ac (an bt))(fr:aJ)(st:au)(aA:aJ)(st':au)(F:Nat->aJ)(T:Nat->au)(N:Nat->ac (an bt))(V:Nat->be):Prop where
 f0:F 0=fr
 t0:T 0=st
 th:N 0=fA
 fn:F L.length=aA
 av9:T L.length=st'
 step:∀p x c,L[p]? =some (x,c)->(Z p=false∧DStep call x c (F p) (T p) (N p) (V p) (F (p+1)) (T (p+1)) (N (p+1)))∨(Z p=true∧F2 x c (F p) (T p) (N p) (V p) (F (p+1)) (T (p+1)) (N (p+1)))
def KZ(call:bG)(Z:Nat->Bool)(L:ac (bA×cx))(F:Nat->aJ)(T:Nat->au)(n:Nat):Prop:=∀p x c,p≠n->Z p=false->L[p]? =some (x,c)->Ad call x c (F p) (T p)
def adT(call:bG)(ms:ac Nat)(Z:Nat->Bool)(L:ac (bA×cx))(F:Nat->aJ)(T:Nat->au)(e:dM)(aA:aJ)(st':au):Prop:=
 (e= .norm∧(∀p,Z p=false)∧KZ call Z L F T L.length∧F L.length=aA∧T L.length=st')∨
 (∃n x u,L[n]? =some (x,.ep)∧(∀p,Z p=true->n<p∧(ms.getD p 0).testBit n=true)∧KZ call Z L F T n∧lR (F n) x.g true∧x.o.mh=true∧aA=F n∧e= .a9 u∧bK call x.o (F n) (T n)= .a9 u st')
theorem T7{dh:tL}{e:dM}{aA:aJ}{st':au}:∀(L:ac (bA×cx)) (fA:ac (an bt)) (fr:aJ) (st:au),iv call dh L fA fr st= .out e aA st'->∃(F:Nat->aJ) (T:Nat->au) (N:Nat->ac (an bt)) (V:Nat->be),(F 0=fr∧T 0=st∧N 0=fA)∧
 ((e= .norm∧F L.length=aA∧T L.length=st'∧∀p x c,L[p]? =some (x,c)->DStep call x c (F p) (T p) (N p) (V p) (F (p+1)) (T (p+1)) (N (p+1))∧Ad call x c (F p) (T p))∨
  (∃n x u,L[n]? =some (x,.ep)∧(∀p x c,p<n->L[p]? =some (x,c)->DStep call x c (F p) (T p) (N p) (V p) (F (p+1)) (T (p+1)) (N (p+1))∧Ad call x c (F p) (T p))∧lR (F n) x.g true∧x.o.mh=true∧aA=F n∧e= .a9 u∧bK call x.o (F n) (T n)= .a9 u st'∧
   dh (L.drop (n+1)) ((T n).h::N n) ((F n).put x.d undef) (T n)=true))
 |[],fA,fr,st,h=>by
  have aC:cU.out .norm fr st= .out e aA st':=h;cases aC;exact⟨fun _=>aA,fun _=>st',fun _=>fA,fun _=>undef,⟨rfl,rfl,rfl⟩,.inl ⟨rfl,rfl,rfl,fun p x c hp=>by simp at hp⟩⟩
 |(x,c)::L,fA,fr,st,h=>by
  rcases ahB h with⟨v,eH,cm,nc,ao,l0,h1⟩|⟨rfl,hw,ei,rfl,hP,u,rfl,iH⟩
  ·obtain⟨F,T,N,V,⟨f0,t0,th⟩,yx⟩:=T7 L nc eH cm h1;refine⟨fun p=>Nat.casesOn p fr F,fun p=>Nat.casesOn p st T,fun p=>Nat.casesOn p fA N,fun p=>Nat.casesOn p v V,⟨rfl,rfl,rfl⟩,?_⟩;have h0:∀eY bW,((x,c)::L)[0]? =some (eY,bW)->DStep call eY bW fr st fA v (F 0) (T 0) (N 0)∧Ad call eY bW fr st:=fun eY bW hp=>by
    have:(x,c)=(eY,bW):=by simpa using hp
    cases this;rw[f0,t0,th];exact⟨ao,l0⟩
   rcases yx with⟨he,aq,e2,af⟩|⟨n,y,w,aH,af,aI,bj,cn,cT,eB,gb⟩
   ·refine .inl ⟨he,aq,e2,fun p eY bW hp=> ?_⟩;cases p with
    |zero=>exact h0 eY bW hp
    |succ p=>exact af p eY bW (by simpa using hp)
   ·refine .inr ⟨n+1,y,w,by simpa using aH,fun p eY bW qO hp=> ?_,aI,bj,cn,cT,eB,by simpa using gb⟩;cases p with
    |zero=>exact h0 eY bW hp
    |succ p=>exact af p eY bW (by omega) (by simpa using hp)
  ·exact⟨fun _=>aA,fun _=>st,fun _=>fA,fun _=>undef,⟨rfl,rfl,rfl⟩,.inr ⟨0,x,u,rfl,fun p _ _ hp=>by omega,hw,ei,rfl,rfl,iH,hP⟩⟩
def S8{a b c:Bool}(h:cond a b c=true):(a=true∧b=true)∨(a=false∧c=true):=by
 cases a
 ·exact .inr ⟨rfl,h⟩
 ·exact .inl ⟨rfl,h⟩
theorem SS{ms:ac Nat}{n:Nat}:∀(M:ac (bA×cx)) (p:Nat) (fA:ac (an bt)) (fr:aJ) (st:au),qx call ms n M p fA fr st=true->∃(F:Nat->aJ) (T:Nat->au) (N:Nat->ac (an bt)) (V:Nat->be),(F 0=fr∧T 0=st∧N 0=fA)∧
 ∀q x c,M[q]? =some (x,c)->((ms.getD (p+q) 0).testBit n=false∧DStep call x c (F q) (T q) (N q) (V q) (F (q+1)) (T (q+1)) (N (q+1))∧c≠.ep)∨((ms.getD (p+q) 0).testBit n=true∧F2 x c (F q) (T q) (N q) (V q) (F (q+1)) (T (q+1)) (N (q+1)))
 |[],p,fA,fr,st,_=>⟨fun _=>fr,fun _=>st,fun _=>fA,fun _=>undef,⟨rfl,rfl,rfl⟩,fun q x c hq=>by simp at hq⟩
 |(x,c)::M,p,fA,fr,st,h=>by
  have key:∃v eH cm nc,qx call ms n M (p+1) nc eH cm=true∧(((ms.getD p 0).testBit n=false∧DStep call x c fr st fA v eH cm nc∧c≠.ep)∨((ms.getD p 0).testBit n=true∧F2 x c fr st fA v eH cm nc)):=by
   rcases S8 (h:cond _ _ _=true)with⟨hb,h1⟩|⟨hb,h1⟩
   ·cases c with
    |ep=>exact⟨undef,_,_,_,h1,.inr ⟨hb,rfl,rfl,rfl,rfl⟩⟩
    |im ts=>exact⟨undef,_,_,_,h1,.inr ⟨hb,rfl,rfl,rfl,rfl⟩⟩
    |read back ts=>exact⟨undef,_,_,_,h1,.inr ⟨hb,rfl,rfl,rfl,rfl⟩⟩
   ·cases c with
    |ep=>cases h1
    |im ts=>
     have h2:m5 fr.t ts (fun t=>h7 ⟨t,[],none,false,none⟩ x.g
      (aV.rec (motive:=fun _=>Bool) (fun v _ st'=>qx call ms n M (p+1) fA (fr.put x.d v) st') (fun _ _=>false) false (bK call x.o ⟨t,[],none,false,none⟩ st))
      (qx call ms n M (p+1) fA (fr.put x.d undef) st) false)=true:=h1
     rw[q7]at h2;rcases FV h2 (by simp)with⟨aH,aI⟩|⟨aH,aI⟩
     ·cases he:bK call x.o (fr.only ts) st with
      |ok v mP ef=>
       have aI:aV.rec (motive:=fun _=>Bool) (fun v _ st'=>qx call ms n M (p+1) fA (fr.put x.d v) st') (fun _ _=>false) false (bK call x.o (fr.only ts) st)=true:=aI;rw[he]at aI;exact⟨v,_,ef,fA,aI,.inl ⟨hb,⟨rfl,rfl,.inr ⟨aH,mP,he⟩⟩,by simp⟩⟩
      |a9 _ _=>
       have aI:aV.rec (motive:=fun _=>Bool) (fun v _ st'=>qx call ms n M (p+1) fA (fr.put x.d v) st') (fun _ _=>false) false (bK call x.o (fr.only ts) st)=true:=aI;rw[he]at aI;cases aI
      |no=>
       have aI:aV.rec (motive:=fun _=>Bool) (fun v _ st'=>qx call ms n M (p+1) fA (fr.put x.d v) st') (fun _ _=>false) false (bK call x.o (fr.only ts) st)=true:=aI;rw[he]at aI;cases aI
     ·exact⟨undef,_,st,fA,aI,.inl ⟨hb,⟨rfl,rfl,.inl ⟨aH,rfl,rfl⟩⟩,by simp⟩⟩
    |read back ts=>
     have h2:m5 fr.t ts (fun t=>h7 ⟨t,[],none,false,none⟩ x.g
      (aV.rec (motive:=fun _=>Bool) (fun v _ _=>cond (sameAt call x.o ⟨t,[],none,false,none⟩ v st.aj (Nat.succ back) fA) (qx call ms n M (p+1) fA (fr.put x.d v) st) false) (fun _ _=>false) false (bK call x.o ⟨t,[],none,false,none⟩ st))
      (qx call ms n M (p+1) fA (fr.put x.d undef) st) false)=true:=h1
     rw[q7]at h2;rcases FV h2 (by simp)with⟨aH,aI⟩|⟨aH,aI⟩
     ·have aI:aV.rec (motive:=fun _=>Bool) (fun v _ _=>cond (sameAt call x.o (fr.only ts) v st.aj (Nat.succ back) fA) (qx call ms n M (p+1) fA (fr.put x.d v) st) false) (fun _ _=>false) false (bK call x.o (fr.only ts) st)=true:=aI;cases he:bK call x.o (fr.only ts) st with
      |ok v mP ef=>
       rw[he]at aI;rcases S8 (aI:cond _ _ _=true)with⟨bj,cn⟩|⟨_,cn⟩
       ·exact⟨v,_,st,fA,cn,.inl ⟨hb,⟨rfl,rfl,rfl,.inr ⟨aH,bj⟩⟩,by simp⟩⟩
       ·cases cn
      |a9 _ _=>rw[he]at aI;cases aI
      |no=>rw[he]at aI;cases aI
     ·exact⟨undef,_,st,fA,aI,.inl ⟨hb,⟨rfl,rfl,rfl,.inl ⟨aH,rfl⟩⟩,by simp⟩⟩
  obtain⟨v,eH,cm,nc,h1,af⟩:=key;obtain⟨F,T,N,V,⟨f0,t0,th⟩,dz⟩:=SS M (p+1) nc eH cm h1;refine⟨fun p=>Nat.casesOn p fr F,fun p=>Nat.casesOn p st T,fun p=>Nat.casesOn p fA N,fun p=>Nat.casesOn p v V,⟨rfl,rfl,rfl⟩,fun q eY bW hq=> ?_⟩;cases q with
  |zero=>
   have:(x,c)=(eY,bW):=by simpa using hq
   cases this;show(_∧DStep call x c fr st fA v (F 0) (T 0) (N 0)∧_)∨(_∧F2 x c fr st fA v (F 0) (T 0) (N 0));rw[f0,t0,th];exact af
  |succ q=>
   have:=dz q eY bW (by simpa using hq);rw[show p+(q+1)=p+1+q by omega];exact this
def ahC{ms:ac Nat}(L:ac (bA×cx))(fA:ac (an bt))(fr:aJ)(st:au)(e:dM)(aA:aJ)(st':au)(h:iv call (ua call ms (dL L)) L fA fr st= .out e aA st'):∃Z F T N V,ky call Z L fA fr st (F L.length) (T L.length) F T N V∧adT call ms Z L F T e aA st':=by
 obtain⟨F,T,N,V,⟨f0,t0,th⟩,yx⟩:=T7 L fA fr st h;rcases yx with⟨he,aq,e2,af⟩|⟨n,x,u,aH,af,aI,bj,cn,cT,eB,gb⟩
 ·exact⟨fun _=>false,F,T,N,V,⟨f0,t0,th,rfl,rfl,fun p x c hp=>.inl ⟨rfl,(af p x c hp).1⟩⟩,.inl ⟨he,fun _=>rfl,fun p x c _ _ hp=>(af p x c hp).2,aq,e2⟩⟩
 ·have hn:=(zaf.1 aH).1;have gb:qx call ms (L.length-(L.drop (n+1)).length.succ) (L.drop (n+1)) (L.length-(L.drop (n+1)).length) ((T n).h::N n) ((F n).put x.d undef) (T n)=true:=by
   have:=gb;unfold ua at this;rw[fC,fC]at this;exact this
  rw[zaF,show L.length-(L.length-(n+1)).succ=n by omega,show L.length-(L.length-(n+1))=n+1 by omega]at gb;obtain⟨jG,K3,KX,K7,⟨f2,t2,fc⟩,nZ⟩:=SS _ _ _ _ _ gb
  let Z:Nat->Bool:=fun p=>decide (n<p)&&(ms.getD p 0).testBit n
  let KT:Nat->aJ:=fun p=>if p<=n then F p else jG (p-(n+1))
  let K5:Nat->au:=fun p=>if p<=n then T p else K3 (p-(n+1))
  let KY:Nat->ac (an bt):=fun p=>if p<=n then N p else KX (p-(n+1))
  let F9:Nat->be:=fun p=>if p<n then V p else if p=n then undef else K7 (p-(n+1))
  have lo:∀p,p<=n->KT p=F p∧K5 p=T p∧KY p=N p:=fun p hp=>⟨zab hp,zab hp,zab hp⟩;have aa:∀r,KT (n+1+r)=jG r∧K5 (n+1+r)=K3 r∧KY (n+1+r)=KX r:=fun r=>by
   have e:n+1+r-(n+1)=r:=by omega
   refine⟨?_,?_,?_⟩
   ·show(if n+1+r<=n then _ else jG (n+1+r-(n+1)))=_;rw[zaa (by omega),e]
   ·show(if n+1+r<=n then _ else K3 (n+1+r-(n+1)))=_;rw[zaa (by omega),e]
   ·show(if n+1+r<=n then _ else KX (n+1+r-(n+1)))=_;rw[zaa (by omega),e]
  have adR:∀p,p<=n->Z p=false:=fun p hp=>by
   show(decide (n<p)&&_)=false;rw[zai (by omega)];rfl
  have adQ:∀r,Z (n+1+r)=(ms.getD (n+1+r) 0).testBit n:=fun r=>by
   show(decide (n<n+1+r)&&_)=_;rw[zad (by omega)];rfl
  refine⟨Z,KT,K5,KY,F9,⟨(lo 0 (zac _)).1.trans f0,(lo 0 (zac _)).2.1.trans t0,(lo 0 (zac _)).2.2.trans th,rfl,rfl,fun p y c hp=> ?_⟩,.inr ⟨n,x,u,aH,fun p hp=> ?_,fun p y c qO av hp=> ?_,?_,bj,?_,cT,?_⟩⟩
  ·rcases zbo p n with aE|rfl|alW
   ·obtain⟨gU,hM,pG⟩:=lo p (by omega);obtain⟨c3,eP,lq⟩:=lo (p+1) (by omega);have aB:F9 p=V p:=zab aE;rw[gU,hM,pG,c3,eP,lq,aB];exact .inl ⟨adR p (by omega),(af p y c aE hp).1⟩
   ·obtain⟨gU,hM,pG⟩:=lo p (b6 _);obtain⟨c3,eP,lq⟩:=aa 0;have aB:F9 p=undef:=by
     show(if p<p then _ else if p=p then _ else _)=_;rw[zaa (zaU p),zab rfl]
    rw[aH]at hp;cases hp;rw[show p+1+0=p+1 from rfl]at c3 eP lq;rw[gU,hM,pG,c3,eP,lq,aB,f2,t2,fc];exact .inl ⟨adR p (b6 _),.inl ⟨.inr ⟨aI,u,_,eB⟩,rfl,rfl,rfl,rfl⟩⟩
   ·obtain⟨r,rfl⟩:∃r,p=n+1+r:=⟨p-(n+1),by omega⟩;obtain⟨gU,hM,pG⟩:=aa r;obtain⟨c3,eP,lq⟩:=aa (r+1);have aB:F9 (n+1+r)=K7 r:=by
     show(if n+1+r<n then _ else if n+1+r=n then _ else K7 (n+1+r-(n+1)))=_;rw[zaa (by omega),zaa (by omega),show n+1+r-(n+1)=r by omega]
    rw[show n+1+(r+1)=n+1+r+1 from rfl]at c3 eP lq;rw[gU,hM,pG,c3,eP,lq,aB,adQ r];rcases nZ r y c (by rw[zaR];exact hp)with⟨tI,z6,_⟩|⟨tI,z6⟩
    ·exact .inl ⟨tI,z6⟩
    ·exact .inr ⟨tI,z6⟩
  ·have hp:(decide (n<p)&&(ms.getD p 0).testBit n)=true:=hp;rw[zcr,decide_eq_true_eq]at hp;exact hp
  ·rcases zbo p n with aE|rfl|alW
   ·obtain⟨gU,hM,_⟩:=lo p (by omega);rw[gU,hM];exact(af p y c aE hp).2
   ·exact absurd rfl qO
   ·obtain⟨r,rfl⟩:∃r,p=n+1+r:=⟨p-(n+1),by omega⟩;rw[adQ r]at av;rcases nZ r y c (by rw[zaR];exact hp)with⟨_,_,FW⟩|⟨tI,_⟩
    ·exact fun hc=>absurd hc FW
    ·rw[av]at tI;cases tI
  ·rw[(lo n (b6 _)).1];exact aI
  ·rw[(lo n (b6 _)).1];exact cn
  ·rw[(lo n (b6 _)).1,(lo n (b6 _)).2.1];exact eB
def aqd{α:Type}(l:ac α)(n:Nat)(vs:ac α):(∃out,∀(k:ac α->aV),ra l n vs k .no=k out)∨(∀k:ac α->aV,ra l n vs k .no= .no):=by
 by_cases h:n+vs.length<=l.length
 ·exact .inl ⟨_,fun k=>by rw[sl,zab h]⟩
 ·by_cases h2:vs=[]
  ·exact .inl ⟨l,fun k=>by rw[sl,zaa h,zab h2]⟩
  ·exact .inr fun k=>by rw[sl,zaa h,zaa h2]
theorem Ub(fr:aJ):∀(ps:ac (Nat×Nat×bi)) (cs:ac be),(∃out,∀c,o9 fr ps cs c=c out)∨(∀c,o9 fr ps cs c= .no)
 |[],cs=>.inl ⟨cs,fun _=>rfl⟩
 |p::ps,cs=>by
  have hu:∀c,o9 fr (p::ps) cs c=cond (uW (fr.ai p.2.2)) .no (eQ (dL (jr (fr.ai p.2.2))) p.2.1 (ey (Nat.add p.1 p.2.1) (dL cs) (ra cs p.1 (jr (fr.ai p.2.2)) (fun cs'=>o9 fr ps cs' c) .no) .no) .no):=fun _=>rfl;simp only[hu];cases uW (fr.ai p.2.2)with
  |true=>exact .inr fun _=>rfl
  |false=>
   simp only[cond_false,pN,p7];split
   ·split
    ·rcases aqd cs p.1 (jr (fr.ai p.2.2))with⟨out,ak⟩|hn
     ·rcases Ub fr ps out with⟨oN,lC⟩|jx
      ·exact .inl ⟨oN,fun c=>by rw[ak];exact lC c⟩
      ·exact .inr fun c=>by rw[ak];exact jx c
     ·exact .inr fun c=>hn _
    ·exact .inr fun _=>rfl
   ·exact .inr fun _=>rfl
def RL{x:de}{aA:aJ}{h0:an bt}{aj:Nat}{v:be}{st':au}(J:x.uV=true)(h:bK call x fr ⟨h0,aj⟩= .ok v aA st'):
 ∃o,o≠.dead∧aA=fr∧st'=⟨h0.set aj o,aj+1⟩∧∀aC,bK call x fr ⟨aC,aj⟩= .ok v fr ⟨aC.set aj o,aj+1⟩:=by
 cases x with
 |alloc z e=>
  have h:zs z e call fr ⟨h0,aj⟩= .ok v aA st':=h;unfold zs at h;rw[g8]at h;cases h;exact⟨_,by simp,rfl,rfl,fun aC=>by show zs z e call fr ⟨aC,aj⟩=_;unfold zs;rw[g8]⟩
 |box e p=>
  have h:BQ e p call fr ⟨h0,aj⟩= .ok v aA st':=h;unfold BQ at h;obtain⟨h1,h2⟩:=BF h (by simp);rw[g8]at h2;cases h2;exact⟨_,by simp,rfl,rfl,fun aC=>by show BQ e p call fr ⟨aC,aj⟩=_;unfold BQ;simp only[h1,cond_false];rw[g8]⟩
 |pJ e n z ps=>
  have h:BR e n z ps call fr ⟨h0,aj⟩= .ok v aA st':=h;unfold BR at h;rcases Ub fr ps z with⟨out,ak⟩|hn
  ·rw[ak,g8]at h;cases h;exact⟨_,by simp,rfl,rfl,fun aC=>by show BR e n z ps call fr ⟨aC,aj⟩=_;unfold BR;rw[ak,g8]⟩
  ·rw[hn]at h;cases h
 |vX e p=>
  have h:BS e p call fr ⟨h0,aj⟩= .ok v aA st':=h;unfold BS at h;obtain⟨s,af,h1⟩:=ql h (by simp);obtain⟨hle,h2⟩:=jZ h1 (by simp);rw[g8]at h2;cases h2;exact⟨_,by simp,rfl,rfl,fun aC=>by
   show BS e p call fr ⟨aC,aj⟩=_;unfold BS;rw[af];show ey (dL s.data.toList) (2^40) _ _=_;rw[p7,zab hle,g8]⟩
 |qc e bs z l c=>
  have h:tq e bs z l c call fr ⟨h0,aj⟩= .ok v aA st':=h;unfold tq at h;obtain⟨bf,ny,hl,h1⟩:=j7 h (by simp);obtain⟨bL,o1,hc,h2⟩:=j7 h1 (by simp);obtain⟨ct,pY,ab⟩:=nB h2 (by simp);obtain⟨h9,yv,aD⟩:=nB ab (by simp);obtain⟨hle,bg⟩:=jZ aD (by simp);obtain⟨Np,cv⟩:=jZ bg (by simp);rw[g8]at cv;cases cv;exact⟨_,by simp,rfl,rfl,fun aC=>by
   show tq e bs z l c call fr ⟨aC,aj⟩=_;unfold tq;rw[hl,hc,pY,yv];show ey ct h9 (ey (Nat.mul h9 (Nat.succ bs)) (2^40) _ _) _=_;rw[p7,zab hle,p7,zab Np,g8]⟩
 |vc=>
  have h:zt call fr ⟨h0,aj⟩= .ok v aA st':=h;unfold zt at h;rw[g8]at h;cases h;exact⟨_,by simp,rfl,rfl,fun aC=>by show zt call fr ⟨aC,aj⟩=_;unfold zt;rw[g8]⟩
 |_=>cases J
end Go.ah
namespace Go.ah
def cx.y2:cx->Bool
 |.ep=>true
 |_=>false
def cx.looks:cx->ac Tmp
 |.ep=>[]
 |.im ts=>ts
 |.read _ ts=>ts
def uq(L:ac (bA×cx))(q:Nat):Bool:=((L[q]?).map (·.2.y2)).getD false
structure mG(X:Ctx)(aP:Nat)(ops:ap Oper)(L:ac (bA×cx))(cd:ac Nat)(ek:ac Tmp)(ms:ac Nat):Prop where
 u6:L.length=ops.size
 y8:cd.length=ops.size
 op:∀(p i:Nat) x c,cd[p]? =some i->L[p]? =some (x,c)->∃o,ops[i]? =some o∧n5 X aP ops x o=true
 im:∀(p:Nat) x ts,L[p]? =some (x,.im ts)->x.o.uV=true
 rd:∀(p:Nat) x n ts,L[p]? =some (x,.read n ts)->x.o.tb=true
 inj:∀(p q i:Nat),cd[p]? =some i->cd[q]? =some i->p=q
 atJ:∀i,i<ops.size->∃p:Nat,cd[p]? =some i
 ag2:∀(p i:Nat) o,cd[p]? =some i->ops[i]? =some o->∀e∈o.after,Region.binds .any e=true->∃q,q<p∧cd[q]? =some e.on
 mask:∀(p i:Nat) o q,cd[p]? =some i->ops[i]? =some o->(ms.getD p 0).testBit q=true->∃e∈o.after,Region.binds .any e=true∧∃r,r<p∧cd[r]? =some e.on∧(q=r∨(ms.getD r 0).testBit q=true)
 ep:∀(p:Nat) x q,L[p]? =some (x,.ep)->q<p->(ms.getD p 0).testBit q=true
 back:∀(p:Nat) x n ts,L[p]? =some (x,.read n ts)->(List.range p).countP (fun q=>uq L q&& !(ms.getD p 0).testBit q)<=n
 dst:∀(p q:Nat) x y c d t,L[p]? =some (x,c)->L[q]? =some (y,d)->x.d=some t->y.d=some t->p=q
 ael:∀(p q:Nat) x y c d t,L[p]? =some (x,c)->L[q]? =some (y,d)->p<q->y.d=some t->t∉ek->(c= .ep∨t∈c.looks)->(ms.getD q 0).testBit p=true
 dep:∀(p q:Nat) x y c d t,L[p]? =some (x,c)->L[q]? =some (y,d)->q<p->y.d=some t->t∈c.looks->(ms.getD p 0).testBit q=true
section
variable{X:Ctx}{aP:Nat}{ops:ap Oper}{L:ac (bA×cx)}{cd:ac Nat}{ek:ac Tmp}{ms:ac Nat}{call:bG}
def og(ops:ap Oper)(cd:ac Nat)(E:Nat->Prop)(p:Nat):Prop:=∀i o,cd[p]? =some i->ops[i]? =some o->∀e∈o.after,Region.binds .any e=true->∀r:Nat,cd[r]? =some e.on->E r
def mG.before(D:mG X aP ops L cd ek ms){E:Nat->Prop}(dF:∀p,E p->og ops cd E p)(p:Nat):og ops cd E p->p<ops.size->∀q,(ms.getD p 0).testBit q=true->E q:=by
 induction p using Nat.strongRecOn with
 |_ p a1=>
  intro aL hp q hq;have D8:p<cd.length:=by rw[D.y8];exact hp
  have aa:cd[p]? =some cd[p]:=bE D8;obtain⟨x,J⟩:∃x,L[p]? =some x:=⟨_,bE (by rw[D.u6];exact hp)⟩;obtain⟨o,ak,_⟩:=D.op p _ x.1 x.2 aa J;obtain⟨e,he,hb,r,Ee,yQ,ND⟩:=D.mask p _ o q aa ak hq;have W9:E r:=aL _ o aa ak e he hb r yQ;rcases ND with rfl|ND
  ·exact W9
  ·exact a1 r Ee (dF r W9) (by omega) q ND
variable{Z:Nat->Bool}{fA:ac (an bt)}{fr aA:aJ}{st st':au}{F:Nat->aJ}{T:Nat->au}{N:Nat->ac (an bt)}{V:Nat->be}
variable{p q:Nat}{x:bA}{c:cx}
def ky.ZD(aF:ky call Z L fA fr st aA st' F T N V)(D:mG X aP ops L cd ek ms)(hp:p<L.length):(T p).aj<=(T (p+1)).aj:=by
 obtain⟨⟨x,c⟩,J⟩:∃x,L[p]? =some x:=⟨_,bE hp⟩;rcases aF.step p x c J with⟨_,af⟩|⟨_,af⟩
 case inr=>rw[af.2.2.1];exact b6 _
 cases c with
 |ep=>
  rcases af with⟨_,_,_,h,_⟩|⟨_,_,_,h,_⟩
  ·rw[h];exact b6 _
  ·exact h
 |im ts=>
  obtain⟨_,_,h⟩:=af;rcases h with⟨_,_,h⟩|⟨_,mP,h⟩
  ·rw[h];exact b6 _
  ·have bP:=D.im p x ts J;obtain⟨o,_,_,h2,_⟩:=RL (h0:=(T p).h) (aj:=(T p).aj) bP h;rw[h2];exact zba _
 |read n ts=>obtain⟨_,_,h,_⟩:=af;rw[h];exact b6 _
def ky.m4(aF:ky call Z L fA fr st aA st' F T N V)(D:mG X aP ops L cd ek ms)(h:p<=q)(hq:q<=L.length):(T p).aj<=(T q).aj:=by
 induction q with
 |zero=>have:p=0:=by omega
        subst this;exact b6 _
 |succ q a1=>
  by_cases e:p=q+1
  ·subst e;exact b6 _
  ·exact zag (a1 (by omega) (by omega)) (aF.ZD D (by omega))
def ky.ac1(aF:ky call Z L fA fr st aA st' F T N V)(J:L[p]? =some (x,c))(t:Nat):(F (p+1)).tmp t=if x.d=some t then V p else(F p).tmp t:=by
 rcases aF.step p x c J with⟨_,af⟩|⟨_,af⟩
 case inr=>rw[af.2.1,sy,af.1]
 cases c with
 |ep=>
  rcases af with⟨_,h1,h,_⟩|⟨_,mP,_,_,h,_⟩
  ·rw[h,sy,h1]
  ·rw[h,sy];rfl
 |im ts=>obtain⟨h,_⟩:=af;rw[h,sy]
 |read n ts=>obtain⟨h,_⟩:=af;rw[h,sy]
def ky.Kz(aF:ky call Z L fA fr st aA st' F T N V)(t:Nat):∀p,p<=L.length->(∀(q:Nat) x c,q<p->L[q]? =some (x,c)->x.d≠some t)->(F p).tmp t=(F 0).tmp t
 |0,_,_=>rfl
 |p+1,hp,h=>by
  obtain⟨⟨x,c⟩,J⟩:∃x,L[p]? =some x:=⟨_,bE (by omega)⟩;rw[aF.ac1 J,zaa (h p x c (by omega) J)];exact aF.Kz t p (by omega) (fun q x c hq=>h q x c (by omega))
def ky.Q0(aF:ky call Z L fA fr st aA st' F T N V)(D:mG X aP ops L cd ek ms){y:bA}{d:cx}{t:Nat}(ay:L[q]? =some (y,d))(ao:y.d=some t):∀p,q<p->p<=L.length->(F p).tmp t=V q
 |0,h,_=>by omega
 |p+1,h,hp=>by
  obtain⟨⟨x,c⟩,J⟩:∃x,L[p]? =some x:=⟨_,bE (by omega)⟩;rw[aF.ac1 J];by_cases e:p=q
  ·subst e;rw[J]at ay;cases ay;rw[zab ao]
  ·rw[zaa (fun h=>e (D.dst p q x y c d t J ay h ao))];exact aF.Q0 D ay ao p (by omega) (by omega)
def ky.same(aF:ky call Z L fA fr st aA st' F T N V)(J:L[p]? =some (x,c))(hc:c≠.ep):(F (p+1)).cW=(F p).cW∧(F (p+1)).cD=(F p).cD∧(F (p+1)).a9=(F p).a9∧(F (p+1)).bR=(F p).bR:=by
 rcases aF.step p x c J with⟨_,af⟩|⟨_,af⟩
 case inr=>obtain⟨eD,eU,fT,j2⟩:=vu (F p) x.d undef;rw[af.2.1];exact⟨j2,fT,eD,eU⟩
 cases c with
 |ep=>exact absurd rfl hc
 |im ts=>obtain⟨h,_⟩:=af;obtain⟨eD,eU,fT,j2⟩:=vu (F p) x.d (V p);rw[h];exact⟨j2,fT,eD,eU⟩
 |read n ts=>obtain⟨h,_⟩:=af;obtain⟨eD,eU,fT,j2⟩:=vu (F p) x.d (V p);rw[h];exact⟨j2,fT,eD,eU⟩
def ky.snap(aF:ky call Z L [st.h] fr st aA st' F T N V){c:Nat}(hc:c=0∨∃p x,c=p+1∧L[p]? =some (x,cx.ep)):∀p,c<=p->p<=L.length->
 (N p)[(List.range p).countP (fun q=>decide (c<=q)&&uq L q)]? =some (T c).h
 |0,h,_=>by
  have:c=0:=by omega
  subst this;simp[aF.th,aF.t0]
 |p+1,h,hp=>by
  obtain⟨⟨x,k⟩,J⟩:∃x,L[p]? =some x:=⟨_,bE (by omega)⟩;have ft:=aF.step p x k J;by_cases e:c=p+1
  ·subst e;have av:(List.range (p+1)).countP (fun q=>decide (p+1<=q)&&uq L q)=0:=by
    rw[List.countP_eq_zero];intro q hq;have:=zcv.1 hq;simp;omega
   rw[av];rcases hc with hc|⟨dZ,eY,hc,bP⟩
   ·omega
   ·have:dZ=p:=by omega
    subst this;rw[J]at bP;cases bP;rcases ft with⟨_,⟨_,_,_,h1,h2⟩|⟨_,_,_,_,_,h2⟩⟩|⟨_,_,_,h1,h2⟩
    ·rw[h2,h1];rfl
    ·rw[h2];rfl
    ·rw[h2,h1];rfl
  ·have a1:=aF.snap hc p (by omega) (by omega);rw[zew,List.countP_append,List.countP_singleton];have ei:decide (c<=p)=true:=by simp;omega
   have Nd:uq L p=k.y2:=by simp[uq,J]
   simp only[ei,zbx,Nd];cases k with
   |ep=>
    have:∃h,N (p+1)=h::N p:=by
     rcases ft with⟨_,⟨_,_,_,_,h2⟩|⟨_,_,_,_,_,h2⟩⟩|⟨_,_,_,_,h2⟩
     ·exact⟨_,h2⟩
     ·exact⟨_,h2⟩
     ·exact⟨_,h2⟩
    obtain⟨h,fq⟩:=this;rw[fq];simpa[cx.y2]using a1
   |im ts=>
    have h2:N (p+1)=N p:=by
     rcases ft with⟨_,_,h2,_⟩|⟨_,_,_,_,h2⟩
     ·exact h2
     ·exact h2
    rw[h2];simpa[cx.y2]using a1
   |read n ts=>
    have h2:N (p+1)=N p:=by
     rcases ft with⟨_,_,h2,_⟩|⟨_,_,_,_,h2⟩
     ·exact h2
     ·exact h2
    rw[h2];simpa[cx.y2]using a1
end
end Go.ah
namespace Go.ah
variable{X:Ctx}
variable{ι:bx}{n:Nat}{l:Loc}{aR:bx}{m:Nat}{w:d7}
def fR(ι:bx)(n:Nat):bx:=fun id=>if id<n then ι id else none
def kT{id:Nat}:fR ι n id=some l↔id<n∧ι id=some l:=by
 unfold fR;by_cases h:id<n<;>simp[h]
def Tg(ι:bx)(n:Nat):(fR ι n).le ι:=fun _ _ h=>(kT.1 h).2
def sI(h:ι.le aR)(hn:m<=n):(fR ι m).le (fR aR n):=fun _ _ hl=>kT.2 ⟨gH (kT.1 hl).1 hn,h _ _ (kT.1 hl).2⟩
def Tf(h:∀id,n<=id->ι id=none):fR ι n=ι:=by
 funext id;unfold fR;by_cases aa:id<n
 ·simp[aa]
 ·simp[aa,h id (by omega)]
def bz.look{h:an bt}(hw:bz X ι ⟨h,n⟩ w)(hle:ι.le aR)(U:∀id,m<=id->aR id=none)(hn:n<=m)(hb:∀id l,aR id=some l->l.cJ<w.heap.size):bz X aR ⟨h,m⟩ w:=by
 refine⟨fun id o ak ao=> ?_,fun i j o p l gF aa iV hj ia iX iY aO e=> ?_,fun id pe=>⟨U id pe,(hw.fresh id (zag hn pe)).2⟩,hb,fun g aO=>hle _ _ (hw.nW g aO),zag hw.rR hn,fun i l o hl af ak ao=> ?_⟩
 ·obtain⟨l,hl,hm⟩:=hw.fe id o ak ao;exact⟨l,hle _ _ hl,kb.mono X hm hle rfl⟩
 ·obtain⟨l',cy,_⟩:=hw.fe i o aa iV;obtain⟨avT,Xz,_⟩:=hw.fe j p hj ia;have aq:=(hle _ _ cy).symm.trans iX;have e2:=(hle _ _ Xz).symm.trans iY;cases aq;cases e2;exact hw.inj i j o p _ _ aa iV hj ia cy Xz aO e
 ·obtain⟨l',cy,_⟩:=hw.fe i o ak ao;have aq:=(hle _ _ cy).symm.trans hl;cases aq;exact hw.oO i _ o cy af ak ao
def bz.aeg{st:au}(hw:bz X ι st w){o:bt}(ak:kb X (iG ι st.aj l) w o l)(hb:l.cJ<w.heap.size)(oE:l.ch≠js)(cb:∀id l',ι id=some l'->l'.cJ≠l.cJ):
 bz X (iG ι st.aj l) ⟨st.h.set st.aj o,st.aj+1⟩ w:=by
 have hle:ι.le (iG ι st.aj l):=by
  intro id l' hl;show(if id=st.aj then some l else ι id)=some l';rw[zaa];exact hl;intro e;subst e;rw[(hw.fresh _ (b6 _)).1]at hl;cases hl
 have rT:iG ι st.aj l st.aj=some l:=zab rfl;have oC:∀id,id≠st.aj->iG ι st.aj l id=ι id:=fun id h=>zaa h;refine⟨fun id p hp ao=> ?_,fun i j p q gE iB aa iV hj ia iX iY aO e=> ?_,fun id pe=> ?_,fun id l' cy=> ?_,fun g aO=>hle _ _ (hw.nW g aO),zdC hw.rR,fun i gE p kZ af hp ao=> ?_⟩
 ·rw[an.e8]at hp;by_cases e:id=st.aj
  ·rw[zab e]at hp;cases hp;subst e;exact⟨l,rT,ak⟩
  ·rw[zaa e]at hp;obtain⟨l',cy,hm⟩:=hw.fe id p hp ao;exact⟨l',hle _ _ cy,kb.mono X hm hle rfl⟩
 ·rw[an.e8]at aa hj;by_cases aq:i=st.aj
  ·by_cases e2:j=st.aj
   ·rw[aq,e2]
   ·subst aq;rw[rT]at iX;cases iX;rw[oC j e2]at iY;exact absurd e.symm (cb _ _ iY)
  ·by_cases e2:j=st.aj
   ·subst e2;rw[rT]at iY;cases iY;rw[oC i aq]at iX;exact absurd e (cb _ _ iX)
   ·rw[zaa aq]at aa;rw[zaa e2]at hj;rw[oC i aq]at iX;rw[oC j e2]at iY;exact hw.inj i j p q gE iB aa iV hj ia iX iY aO e
 ·have alZ:st.aj+1<=id:=pe;refine⟨?_,?_⟩
  ·rw[oC id (by omega)];exact(hw.fresh id (by omega)).1
  ·show(st.h.set st.aj o).get id=none;rw[an.e8,zaa (by omega)];exact(hw.fresh id (by omega)).2
 ·by_cases e:id=st.aj
  ·subst e;rw[rT]at cy;cases cy;exact hb
  ·rw[oC id e]at cy;exact hw.hN id l' cy
 ·rw[an.e8]at hp;by_cases e:i=st.aj
  ·subst e;rw[rT]at kZ;cases kZ;exact absurd af oE
  ·rw[zaa e]at hp;rw[oC i e]at kZ;exact hw.oO i gE p kZ af hp ao
def vI(L:ac (bA×cx))(F:Nat->aJ)(p:Nat):Prop:=∃x ts,L[p]? =some (x,cx.im ts)∧lR ((F p).only ts) x.g true
structure kQ(X:Ctx)(aP:Nat)(L:ac (bA×cx))(F:Nat->aJ)(T:Nat->au)(V:Nat->be)(hK:bx)(ij:d7)(E:Nat->Prop)(c:Nat)(ι:bx)(a:Act)(w:d7):Prop where
 low:∀p,p<c->E p
 Gx:c<=L.length
 start:c=0∨∃p x,c=p+1∧L[p]? =some (x,cx.ep)
 EM:∀(p:Nat) x,c<=p->E p->L[p]? ≠some (x,cx.ep)
 wr:bz X (fR ι (T c).aj) (T c) w
 mM:∀id l,ι id=some l->id<(T c).aj∨∃p,c<=p∧p<L.length∧E p∧vI L F p∧id=(T p).aj
 gP:∀p,c<=p->E p->vI L F p->∃o l,T (p+1)=⟨(T p).h.set (T p).aj o,(T p).aj+1⟩∧ι (T p).aj=some l∧kb X (fR ι ((T p).aj+1)) w o l∧
  l.ch≠js∧∀id l',ι id=some l'->id≠(T p).aj->l'.cJ≠l.cJ
 hN:∀id l,ι id=some l->l.cJ<w.heap.size
 keeps:fY hK ι ij w
 size:a.tmps.size=aP
 cW:tM (fR ι (T c).aj) (F c).cW a.defers
 FM:∀(p:Nat) x fj t,L[p]? =some (x,fj)->x.d=some t->E p->bq (fR ι (max (T (p+1)).aj (T c).aj)) (V p) (a.tmps.getD t undef)
 Cm:∀t,(∀(p:Nat) x fj,L[p]? =some (x,fj)->x.d=some t->¬E p)->bq hK ((F 0).tmp t) (a.tmps.getD t undef)
section
variable{aP:Nat}{ops:ap Oper}{L:ac (bA×cx)}{cd:ac Nat}{ek:ac Tmp}{ms:ac Nat}{call:bG}
variable{Z:Nat->Bool}{fr aA:aJ}{st st':au}{F:Nat->aJ}{T:Nat->au}{N:Nat->ac (an bt)}{V:Nat->be}{hK:bx}{ij:d7}{E:Nat->Prop}{c:Nat}{ι:bx}{a:Act}{w:d7}
def kQ.look(cg:kQ X aP L F T V hK ij E c ι a w)(aF:ky call Z L [st.h] fr st aA st' F T N V)(D:mG X aP ops L cd ek ms)(h0:∀id,st.aj<=id->hK id=none)(av:∀t∈ek,(F 0).tmp t=jB)
 (dF:∀p,E p->og ops cd E p) {p:Nat} {x:bA} {fj:cx} (J:L[p]? =some (x,fj)) (aL:og ops cd E p) (hn:¬E p) {t:Nat} (hl:fj= .ep∨t∈fj.looks):
 bq (fR ι (T p).aj) ((F p).tmp t) (a.tmps.getD t undef):=by
 have hQ:p<L.length:=(zaf.1 J).1;have ei:c<=p:=by
  rcases zao p c with h|h
  ·exact absurd (cg.low p h) hn
  ·exact h
 have jY:p<ops.size:=by rw[<-D.u6];exact hQ
 have yk:hK.le (fR ι (T p).aj):=by
  intro id l hl;refine kT.2 ⟨?_,cg.keeps.le _ _ hl⟩;rcases zao id st.aj with h|h
  ·have:=aF.m4 D (zac p) (by omega);rw[aF.t0]at this;omega
  ·rw[h0 id h]at hl;cases hl
 by_cases hw:∃(q:Nat) (y:bA) (d:cx),L[q]? =some (y,d)∧y.d=some t
 ·obtain⟨q,y,d,ay,ao⟩:=hw;rcases zao q p with yP|yP
  ·have hb:(ms.getD p 0).testBit q=true:=by
    rcases hl with rfl|hl
    ·exact D.ep p x q J yP
    ·exact D.dep p q x y fj d t J ay yP ao hl
   have fl:=D.before dF p aL jY q hb;rw[aF.Q0 D ay ao p yP (by omega)];refine(cg.FM q y d t ay ao fl).mono (sI (.refl ι) ?_);have h1:=aF.m4 D (p:=q+1) (q:=p) yP (by omega);have h2:=aF.m4 D ei (by omega);omega
  ·have hold:(F p).tmp t=(F 0).tmp t:=aF.Kz t p (by omega) fun gZ eY bW NI bP g5=>by
    have:=D.dst gZ q eY y bW d t bP ay g5 ao;omega
   rw[hold];by_cases H4:t∈ek
   ·rw[av t H4];exact .top _
   ·refine(cg.Cm t fun gZ eY bW bP g5 W8=> ?_).mono yk;have amx:=D.dst gZ q eY y bW d t bP ay g5 ao;subst amx;by_cases e:gZ=p
    ·subst e;exact hn W8
    ·have hb:=D.ael p gZ x y fj d t J ay (by omega) ao H4 hl;exact hn (D.before dF gZ (dF gZ W8) (by rw[<-D.u6];exact(zaf.1 ay).1) p hb)
 ·have gL:∀(q:Nat) eY bW,L[q]? =some (eY,bW)->eY.d≠some t:=fun q eY bW bP g5=>hw ⟨q,eY,bW,bP,g5⟩;rw[aF.Kz t p (by omega) fun q eY bW _ bP=>gL q eY bW bP];exact(cg.Cm t fun q eY bW bP g5=>absurd g5 (gL q eY bW bP)).mono yk
def kQ.upto(cg:kQ X aP L F T V hK ij E c ι a w)(aF:ky call Z L [st.h] fr st aA st' F T N V)(_D:mG X aP ops L cd ek ms):∀q,c<=q->q<=L.length->(∀r,c<=r->r<q->E r)->
 bz X (fR ι (T q).aj) (T q) w∧(F q).cW=(F c).cW∧(F q).cD=(F c).cD∧(F q).a9=(F c).a9∧(F q).bR=(F c).bR:=by
 intro q avn
 induction q with
 |zero=>
  intro _ _;have:c=0:=by omega
  subst this;exact⟨cg.wr,rfl,rfl,rfl,rfl⟩
 |succ q a1=>
  intro hq eI;by_cases e:c=q+1
  ·subst e;exact⟨cg.wr,rfl,rfl,rfl,rfl⟩
  obtain⟨i1,i2,i3,i4,i5⟩:=a1 (by omega) (by omega) (fun r h1 h2=>eI r h1 (by omega));obtain⟨⟨x,fj⟩,J⟩:∃x,L[q]? =some x:=⟨_,bE (by omega)⟩;have fl:=eI q (by omega) (by omega);have cb:fj≠.ep:=fun h=>cg.EM q x (by omega) fl (by rw[J,h]);obtain⟨s1,s2,Ki,arL⟩:=aF.same J cb;refine⟨?_,s1.trans i2,s2.trans i3,Ki.trans i4,arL.trans i5⟩;rcases aF.step q x fj J with⟨_,af⟩|⟨_,af⟩
  case inr=>rw[af.2.2.1];exact i1
  cases fj with
  |ep=>exact absurd rfl cb
  |read n ts=>obtain⟨_,_,h,_⟩:=af;rw[h];exact i1
  |im ts=>
   obtain⟨_,_,h⟩:=af;rcases h with⟨_,_,h⟩|⟨g7,_⟩
   ·rw[h];exact i1
   ·obtain⟨o,l,h1,h2,ab,h0,aD⟩:=cg.gP q (by omega) fl ⟨x,ts,J,g7⟩;have qK:fR ι ((T q).aj+1)=iG (fR ι (T q).aj) (T q).aj l:=by
     funext id;unfold fR iG;by_cases aq:id=(T q).aj
     ·subst aq;simp[h2]
     ·by_cases e2:id<(T q).aj
      ·simp[aq,e2];omega
      ·simp[aq,e2];omega
    rw[h1];show bz X (fR ι ((T q).aj+1)) _ w;rw[qK]at ab⊢;refine i1.aeg ab (cg.hN _ _ h2) h0 fun id l' cy=> ?_;obtain⟨aH,aI⟩:=kT.1 cy;exact aD id l' aI (by omega)
end
def CM(E:Nat->Prop)(p:Nat):Nat->Prop:=fun q=>E q∨q=p
def yi(a:Act)(d:am Tmp)(v:be)(t:Nat):(a.put d v).tmps.getD t undef=if d=some t∧t<a.tmps.size then v else a.tmps.getD t undef:=by
 cases d with
 |none=>simp[Act.put]
 |some d=>
  by_cases e:d=t
  ·subst e;by_cases h:d<a.tmps.size
   ·simp[Act.put,h]
   ·simp[Act.put,h]
  ·simp only[Option.some.injEq,e,false_and,if_false];simp[Act.put,zbM e]
section
variable{aP:Nat}{ops:ap Oper}{L:ac (bA×cx)}{cd:ac Nat}{ek:ac Tmp}{ms:ac Nat}{call:bG}
variable{Z:Nat->Bool}{fr aA:aJ}{st st':au}{F:Nat->aJ}{T:Nat->au}{N:Nat->ac (an bt)}{V:Nat->be}{hK:bx}{ij:d7}{E:Nat->Prop}{c:Nat}{ι:bx}{a:Act}{w:d7}
variable{p:Nat}{x:bA}
def kQ.float(cg:kQ X aP L F T V hK ij E c ι a w)(D:mG X aP ops L cd ek ms){fj:cx}(J:L[p]? =some (x,fj))(hc:fj≠.ep)(ei:c<=p)(yp:¬vI L F p){v':be}
 (ao:∀t,x.d=some t->t<aP) (aB:bq (fR ι (T (p+1)).aj) (V p) v'):kQ X aP L F T V hK ij (CM E p) c ι (a.put x.d v') w:=by
 have et:(a.put x.d v').tmps.size=aP:=by rw[<-cg.size];cases x.d<;>simp[Act.put]
 refine⟨fun q hq=>.inl (cg.low q hq),cg.Gx,cg.start,fun q y hq fl=> ?_,cg.wr,fun id l hl=> ?_,fun q hq fl jW=> ?_,cg.hN,cg.keeps,et,?_,fun q y k t ay jA fl=> ?_,fun t gL=> ?_⟩
 ·rcases fl with fl|rfl
  ·exact cg.EM q y hq fl
  ·intro h;rw[J]at h;cases h;exact hc rfl
 ·rcases cg.mM id l hl with h|⟨q,h1,h2,ab,aD⟩
  ·exact .inl h
  ·exact .inr ⟨q,h1,h2,.inl ab,aD⟩
 ·rcases fl with fl|rfl
  ·exact cg.gP q hq fl jW
  ·exact absurd jW yp
 ·have:(a.put x.d v').defers=a.defers:=by cases x.d<;>rfl
  rw[this];exact cg.cW
 ·rw[yi];by_cases e:q=p
  ·subst e;rw[J]at ay;cases ay;rw[zab ⟨jA,by rw[cg.size];exact ao t jA⟩];exact aB.mono (sI (.refl ι) (zex _ _))
  ·rw[zaa (fun h=>e (D.dst q p y x k fj t ay J jA h.1))];rcases fl with fl|h
   ·exact cg.FM q y k t ay jA fl
   ·exact absurd h e
 ·rw[yi,zaa (fun h=>gL p x fj J h.1 (.inr rfl))];exact cg.Cm t fun q y k ay jA fl=>gL q y k ay jA (.inl fl)
def kQ.ah0(cg:kQ X aP L F T V hK ij E c ι a w)(aF:ky call Z L [st.h] fr st aA st' F T N V)(D:mG X aP ops L cd ek ms){ts:ac Tmp}(J:L[p]? =some (x,.im ts))(ei:c<=p)(l0:¬E p)
 {v':be} {o:bt} {O:Obj} {l:Loc} {w':d7} (ao:∀t,x.d=some t->t<aP) (gz:T (p+1)=⟨(T p).h.set (T p).aj o,(T p).aj+1⟩) (hl:l.cJ=w.heap.size) (al5:l.ch≠js) (hh:w'.heap=w.heap.push O) (hx:sH w w')
 (aB:bq (iG (fR ι (T p).aj) (T p).aj l) (V p) v') (ak:kb X (iG (fR ι (T p).aj) (T p).aj l) w' o l):kQ X aP L F T V hK ij (CM E p) c (iG ι (T p).aj l) (a.put x.d v') w':=by
 have hQ:p<L.length:=(zaf.1 J).1;have p0:ι (T p).aj=none:=by
  cases hn:ι (T p).aj with
  |none=>rfl
  |some m=>
   rcases cg.mM _ _ hn with h|⟨q,h1,h2,ab,aD,bg⟩
   ·have:=aF.m4 D ei (by omega);omega
   ·obtain⟨bD,l',cv,_⟩:=cg.gP q h1 ab aD;have dq:(T (q+1)).aj=(T q).aj+1:=by rw[cv]
    have MV:(T (p+1)).aj=(T p).aj+1:=by rw[gz]
    rcases zbo q p with h|h|h
    ·have:=aF.m4 D (p:=q+1) (q:=p) h (by omega);omega
    ·subst h;exact absurd ab l0
    ·have:=aF.m4 D (p:=p+1) (q:=q) h (by omega);omega
 have hle:ι.le (iG ι (T p).aj l):=by
  intro id l' cy;show(if id=(T p).aj then some l else ι id)=some l';rw[zaa];exact cy;intro e;subst e;rw[p0]at cy;cases cy
 have rT:iG ι (T p).aj l (T p).aj=some l:=zab rfl;have oC:∀id,id≠(T p).aj->iG ι (T p).aj l id=ι id:=fun id h=>zaa h;have qK:∀n,(T p).aj<n->(iG (fR ι (T p).aj) (T p).aj l).le (fR (iG ι (T p).aj l) n):=by
  intro n hn id l' cy;unfold iG at cy;by_cases e:id=(T p).aj
  ·rw[zab e]at cy;cases cy;subst e;exact kT.2 ⟨hn,rT⟩
  ·rw[zaa e]at cy;obtain⟨h1,h2⟩:=kT.1 cy;exact kT.2 ⟨by omega,by rw[oC id e];exact h2⟩
 have hold:∀b,b<w.heap.size->w'.heap[b]? =w.heap[b]? :=fun b hb=>by rw[hh,zda,zaa (by omega)]
 have avK:w'.heap.size=w.heap.size+1:=by rw[hh];simp
 have et:(a.put x.d v').tmps.size=aP:=by rw[<-cg.size];cases x.d<;>simp[Act.put]
 have k3:=aF.m4 D ei (by omega);have Xd:fR (iG ι (T p).aj l) (T c).aj=fR ι (T c).aj:=by
  funext id;unfold fR;by_cases h:id<(T c).aj
  ·rw[zab h,zab h,oC id (by omega)]
  ·rw[zaa h,zaa h]
 have MV:(T (p+1)).aj=(T p).aj+1:=by rw[gz]
 refine⟨fun q hq=>.inl (cg.low q hq),cg.Gx,cg.start,fun q y hq fl=> ?_,?_,fun id l' cy=> ?_,fun q hq fl jW=> ?_,fun id l' cy=> ?_,?_,et,?_,fun q y k t ay jA fl=> ?_,fun t gL=> ?_⟩
 ·rcases fl with fl|rfl
  ·exact cg.EM q y hq fl
  ·intro h;rw[J]at h;cases h
 ·rw[Xd];refine⟨fun id bD lC g5=> ?_,cg.wr.inj,cg.wr.fresh,fun id l' cy=> ?_,cg.wr.nW,cg.wr.rR,cg.wr.oO⟩
  ·obtain⟨l',h1,h2⟩:=cg.wr.fe id bD lC g5;exact⟨l',h1,kb.mono X h2 (.refl _) (hold _ (cg.wr.hN id l' h1))⟩
  ·have:=cg.wr.hN id l' cy;omega
 ·by_cases e:id=(T p).aj
  ·by_cases jW:vI L F p
   ·exact .inr ⟨p,ei,hQ,.inr rfl,jW,e⟩
   ·exfalso;rcases aF.step p x (.im ts) J with⟨_,af⟩|⟨_,af⟩
    case inr=>rw[af.2.2.1]at MV;omega
    obtain⟨_,_,h⟩:=af;rcases h with⟨_,_,h⟩|⟨h,_⟩
    ·rw[h]at MV;omega
    ·exact jW ⟨x,ts,J,h⟩
  ·rw[oC id e]at cy;rcases cg.mM id l' cy with h|⟨q,h1,h2,ab,aD⟩
   ·exact .inl h
   ·exact .inr ⟨q,h1,h2,.inl ab,aD⟩
 ·by_cases e:q=p
  ·subst e;refine⟨o,l,gz,rT,kb.mono X ak (qK _ (zbp _)) rfl,al5,fun id l' cy cb=> ?_⟩;rw[oC id cb]at cy;have:=cg.hN id l' cy;omega
  ·rcases fl with fl|h
   ·obtain⟨bD,l',h1,h2,ab,h0,aD⟩:=cg.gP q hq fl jW;refine⟨bD,l',h1,hle _ _ h2,kb.mono X ab (sI hle (b6 _)) (hold _ (cg.hN _ _ h2)),h0,fun id m hm cb=> ?_⟩;by_cases cK:id=(T p).aj
    ·subst cK;rw[rT]at hm;cases hm;have:=cg.hN _ _ h2;omega
    ·rw[oC id cK]at hm;exact aD id m hm cb
   ·exact absurd h e
 ·by_cases e:id=(T p).aj
  ·subst e;rw[rT]at cy;cases cy;omega
  ·rw[oC id e]at cy;have:=cg.hN id l' cy;omega
 ·refine cg.keeps.trans ⟨hle,by omega,fun b hb _=>hold b hb,fun id l' cy=> ?_,hx⟩;by_cases e:id=(T p).aj
  ·subst e;rw[rT]at cy;cases cy;exact .inr (.inl (by omega))
  ·rw[oC id e]at cy;exact .inl cy
 ·have:(a.put x.d v').defers=a.defers:=by cases x.d<;>rfl
  rw[this,Xd];exact cg.cW
 ·rw[yi];by_cases e:q=p
  ·subst e;rw[J]at ay;cases ay;rw[zab ⟨jA,by rw[cg.size];exact ao t jA⟩];exact aB.mono (qK _ (by omega))
  ·rw[zaa (fun h=>e (D.dst q p y x k _ t ay J jA h.1))];rcases fl with fl|h
   ·exact(cg.FM q y k t ay jA fl).mono (sI hle (b6 _))
   ·exact absurd h e
 ·rw[yi,zaa (fun h=>gL p x _ J h.1 (.inr rfl))];exact cg.Cm t fun q y k ay jA fl=>gL q y k ay jA (.inl fl)
def kQ.effect(cg:kQ X aP L F T V hK ij E c ι a w)(aF:ky call Z L [st.h] fr st aA st' F T N V)(D:mG X aP ops L cd ek ms)(J:L[p]? =some (x,.ep))(ei:c<=p)(yr:∀q,q<p->E q)
 {aR:bx} {a':Act} {w':d7} {v':be} (ao:∀t,x.d=some t->t<aP) (hw:bz X aR (T (p+1)) w') (hk:fY (fR ι (T p).aj) aR w w') (ha:a'.tmps=(a.put x.d v').tmps) (aB:bq aR (V p) v'∨x.d=none) (oy:tM aR (F (p+1)).cW a'.defers):
 ∃gi,kQ X aP L F T V hK ij (CM E p) (p+1) gi a' w':=by
 have hQ:p<L.length:=(zaf.1 J).1;have D3:=aF.ZD D hQ;have k3:=aF.m4 D ei (by omega);have amc:¬vI L F p:=fun⟨y,ts,ay,_⟩=>by rw[J]at ay;cases ay
 have XR:∀q,c<=q->q<L.length->E q->vI L F q->(q<p∧(T q).aj<(T p).aj)∨(p<q∧(T (p+1)).aj<=(T q).aj):=by
  intro q h1 h2 ab aD;obtain⟨bD,l',cv,_⟩:=cg.gP q h1 ab aD;have dq:(T (q+1)).aj=(T q).aj+1:=by rw[cv]
  rcases zbo q p with h|h|h
  ·left;have:=aF.m4 D (p:=q+1) (q:=p) h (by omega);exact⟨h,by omega⟩
  ·subst h;exact absurd aD amc
  ·right;exact⟨h,aF.m4 D (p:=p+1) (q:=q) h (by omega)⟩
 let gi:bx:=fun id=>if id<(T (p+1)).aj then aR id else ι id
 have DY:∀id,id<(T (p+1)).aj->gi id=aR id:=fun id h=>zab h;have DP:∀id,(T (p+1)).aj<=id->gi id=ι id:=fun id h=>zaa (by omega);have hle:ι.le gi:=by
  intro id l hl;rcases zao id (T (p+1)).aj with h|h
  ·rw[DY id h];apply hk.le;refine kT.2 ⟨?_,hl⟩;rcases cg.mM id l hl with h1|⟨q,h1,h2,ab,aD,bg⟩
   ·omega
   ·rcases XR q h1 h2 ab aD with⟨_,cv⟩|⟨_,cv⟩<;>omega
  ·rw[DP id h];exact hl
 have qK:fR gi (T (p+1)).aj=aR:=by
  funext id;unfold fR;by_cases h:id<(T (p+1)).aj
  ·rw[zab h,DY id h]
  ·rw[zaa h,(hw.fresh id (by omega)).1]
 have anc:∀n,(T (p+1)).aj<=n->aR.le (fR gi n):=by
  intro n hn;rw[<-qK];exact sI (.refl _) hn
 have iW:fY ι gi w w':=by
  refine⟨hle,hk.size,fun b hb aa=>hk.kept b hb fun id l hl af=>aa id l (kT.1 hl).2 af,fun id l hl=> ?_,hk.hx⟩;rcases zao id (T (p+1)).aj with h|h
  ·rw[DY id h]at hl;rcases hk.new id l hl with h1|h1|⟨j,m,h1,h2,ab⟩
   ·exact .inl (kT.1 h1).2
   ·exact .inr (.inl h1)
   ·exact .inr (.inr ⟨j,m,(kT.1 h1).2,h2,ab⟩)
  ·rw[DP id h]at hl;exact .inl hl
 have et:a'.tmps.size=aP:=by rw[ha,<-cg.size];cases x.d<;>simp[Act.put]
 refine⟨gi,fun q hq=> ?_,hQ,.inr ⟨p,x,rfl,J⟩,fun q y hq fl=> ?_,by rw[qK];exact hw,fun id l hl=> ?_,fun q hq fl jW=> ?_,fun id l hl=> ?_,cg.keeps.trans iW,et,by rw[qK];exact oy,fun q y k t ay jA fl=> ?_,fun t gL=> ?_⟩
 ·by_cases e:q=p
  ·exact .inr e
  ·exact .inl (yr q (by omega))
 ·rcases fl with fl|h
  ·exact cg.EM q y (by omega) fl
  ·omega
 ·rcases zao id (T (p+1)).aj with h|h
  ·exact .inl h
  ·rw[DP id h]at hl;rcases cg.mM id l hl with h1|⟨q,h1,h2,ab,aD,bg⟩
   ·omega
   ·rcases XR q h1 h2 ab aD with⟨_,cv⟩|⟨cv,_⟩
    ·omega
    ·exact .inr ⟨q,cv,h2,.inl ab,aD,bg⟩
 ·rcases fl with fl|h
  ·have amu:=jW;obtain⟨bD,l',h1,h2,ab,h0,aD⟩:=cg.gP q (by omega) fl jW;have Bg:q<L.length:=by obtain⟨y,ts,ay,_⟩:=amu;exact(zaf.1 ay).1
   have NI:(T (p+1)).aj<=(T q).aj:=aF.m4 D hq (by omega);refine⟨bD,l',h1,hle _ _ h2,kb.mono X ab (sI hle (b6 _)) ?_,h0,fun id m hm cb=> ?_⟩
   ·exact hk.kept l'.cJ (cg.hN _ _ h2) fun id m hm _=>aD id m (kT.1 hm).2 (by have:=(kT.1 hm).1;omega)
   ·rcases zao id (T (p+1)).aj with h|h
    ·rw[DY id h]at hm;rcases hk.new id m hm with aH|aH|⟨j,gF,aH,_,aI⟩
     ·exact aD id m (kT.1 aH).2 cb
     ·have:=cg.hN _ _ h2;omega
     ·have:=aD j gF (kT.1 aH).2 (by have:=(kT.1 aH).1;omega);omega
    ·rw[DP id h]at hm;exact aD id m hm cb
  ·omega
 ·rcases zao id (T (p+1)).aj with h|h
  ·rw[DY id h]at hl;exact hw.hN id l hl
  ·rw[DP id h]at hl;exact gH (cg.hN id l hl) hk.size
 ·rw[ha,yi];by_cases e:q=p
  ·subst e;rw[J]at ay;cases ay;rw[zab ⟨jA,by rw[cg.size];exact ao t jA⟩];rcases aB with aB|aB
   ·exact aB.mono (anc _ (zex _ _))
   ·rw[jA]at aB;cases aB
  ·rw[zaa (fun h=>e (D.dst q p y x k _ t ay J jA h.1))];rcases fl with fl|h
   ·refine(cg.FM q y k t ay jA fl).mono (sI hle ?_);omega
   ·exact absurd h e
 ·rw[ha,yi,zaa (fun h=>gL p x _ J h.1 (.inr rfl))];exact cg.Cm t fun q y k ay jA fl=>gL q y k ay jA (.inl fl)
end
end Go.ah
namespace Go.ah
variable{X:Ctx}{call:bG}
variable{x:de}
def arf(h:x.tb=true):x.inPlace=true:=by cases x<;>first|rfl|cases h
def aei(h:x.uV=true):x.inPlace=true:=by cases x<;>first|rfl|cases h
def Zr{op:Op}(dB:X.la op x=true)(J:x.tb=true∨x.uV=true)(c:Call):op≠.defer c:=by
 intro hc;rw[hc]at dB;cases Bl:x with
 |vb fn p q=>rw[Bl]at dB;cases fn<;>cases dB
 |wM p=>rw[Bl]at J;rcases J with h|h<;>cases h
 |refuse=>rw[Bl]at J;rcases J with h|h<;>cases h
 |rK p q=>rw[Bl]at J;rcases J with h|h<;>cases h
 |ext y=>rw[Bl]at dB;cases y<;>cases dB
 |_=>rw[Bl]at dB;cases dB
section
variable{aP:Nat}{ops:ap Oper}{L:ac (bA×cx)}{cd:ac Nat}{ek:ac Tmp}{ms:ac Nat}
variable{Z:Nat->Bool}{fr aA:aJ}{st st':au}{F:Nat->aJ}{T:Nat->au}{N:Nat->ac (an bt)}{V:Nat->be}{hK:bx}{ij:d7}{E:Nat->Prop}{c:Nat}{ι:bx}{a:Act}{w:d7}
variable{b:ea}{bB:Bool->ac Frame}{k:ac Item}{i:Nat}{rest:ac Nat}
def z1{x:bA}{o:Oper}{t:Bool}(h:n5 X aP ops x o=true)(U:cF ι fr a aP)(hk:lR fr x.g t):Region.wanted o (yielded ops a.tmps)=t:=by
 rcases adG h U hk (by simp)with⟨e,hw⟩|⟨e,hw⟩
 ·cases e;exact hw
 ·cases e;exact hw
def kQ.ab0(cg:kQ X aP L F T V hK ij E c ι a w)(aF:ky call Z L [st.h] fr st aA st' F T N V)(D:mG X aP ops L cd ek ms)(h0:∀id,st.aj<=id->hK id=none)(av:∀t∈ek,(F 0).tmp t=jB)
 (dF:∀p,E p->og ops cd E p) {p:Nat} {x:bA} {fj:cx} (J:L[p]? =some (x,fj)) (aL:og ops cd E p) (hn:¬E p) (ei:c<=p):
 cF (fR ι (T p).aj) ((F p).only fj.looks) ⟨a.tmps,[]⟩ aP∧bz X (fR ι (T p).aj) ⟨(T c).h,(T p).aj⟩ w:=by
 have hQ:p<L.length:=(zaf.1 J).1;refine⟨⟨fun t=> ?_,cg.size,trivial⟩,?_⟩
 ·rw[ZM];by_cases h:t∈fj.looks
  ·rw[zab h];exact cg.look aF D h0 av dF J aL hn (.inr h)
  ·rw[zaa h];exact .top _
 ·have k3:=aF.m4 D ei (by omega);refine bz.look (n:=(T c).aj) (ι:=fR ι (T c).aj) cg.wr (sI (.refl ι) k3) (fun id pe=> ?_) k3 (fun id l hl=>cg.hN id l (kT.1 hl).2);show(if id<(T p).aj then ι id else none)=none;rw[zaa (by omega)]
def agN(eT:oe X call)(cg:kQ X aP L F T V hK ij E c ι a w)(aF:ky call Z L [st.h] fr st aA st' F T N V)(D:mG X aP ops L cd ek ms)(h0:∀id,st.aj<=id->hK id=none)(av:∀t∈ek,(F 0).tmp t=jB)
 (dF:∀p,E p->og ops cd E p) {p:Nat} (hp:p<L.length) (Bm:Z p=false) (l0:∀x c,L[p]? =some (x,c)->Ad call x c (F p) (T p)) (aa:cd[p]? =some i) (aL:og ops cd E p) (hn:¬E p) (hb:rA hK (F 0).bR b.bR) (rZ:mf b (F 0).a9 hK bB) (jy:(F c).a9=(F 0).a9) (jz:(F c).bR=(F 0).bR):
 ∃bW gi a' w',Steps X.P (lone (b.at a (.inRegion ops (i::rest)::k)) (bB (F c).cD) w) (lone (b.at a' (.inRegion ops rest::k)) (bB (F bW).cD) w')∧kQ X aP L F T V hK ij (CM E p) bW gi a' w'∧
  (F bW).a9=(F 0).a9∧(F bW).bR=(F 0).bR:=by
 obtain⟨⟨x,fj⟩,J⟩:∃x,L[p]? =some x:=⟨_,bE hp⟩;obtain⟨o,ak,bH⟩:=D.op p i x fj aa J;obtain⟨nn,lB⟩:=Pq bH;have jY:p<ops.size:=by rw[<-D.u6];exact hp
 have ei:c<=p:=by
  rcases zao p c with h|h
  ·exact absurd (cg.low p h) hn
  ·exact h
 have af:DStep call x fj (F p) (T p) (N p) (V p) (F (p+1)) (T (p+1)) (N (p+1)):=by
  rcases aF.step p x fj J with⟨_,af⟩|⟨h,_⟩
  ·exact af
  ·rw[Bm]at h;cases h
 have p1:=aF.m4 D (zac p) (by omega);rw[aF.t0]at p1;have yk:hK.le (fR ι (T p).aj):=by
  intro id l hl;refine kT.2 ⟨?_,cg.keeps.le _ _ hl⟩;rcases zao id st.aj with h|h
  ·omega
  ·rw[h0 id h]at hl;cases hl
 cases fj with
 |ep=>
  have yr:∀q,q<p->E q:=fun q hq=>D.before dF p aL jY q (D.ep p x q J hq);obtain⟨jP,h6,zU,xv,xw⟩:=cg.upto aF D p ei (by omega) (fun r _ h=>yr r h);have U:cF (fR ι (T p).aj) (F p) a aP:=⟨fun t=>cg.look aF D h0 av dF J aL hn (.inl rfl),cg.size,by rw[h6];exact cg.cW.mono (sI (.refl ι) (aF.m4 D ei (by omega)))⟩;rcases af with⟨g7|⟨g7,u,bh,qO⟩,aB,ar,gz,_⟩|⟨g7,eH,iH,_,ar,_⟩
  ·have n0:=z1 bH U g7;have dz:=Kt (P:=X.P) (b:=b) (k:=k) (cs:=bB (F c).cD) (w:=w) (rest:=rest) ak n0;obtain⟨eD,eU,fT,j2⟩:=vu (F p) x.d undef;obtain⟨gi,ki⟩:=cg.effect aF D J ei yr (aR:=fR ι (T p).aj) (a':=a.put x.d undef) (w':=w) (v':=undef) lB (by rw[gz];exact jP) (.refl _ _) rfl (.inl (by rw[aB];exact bq.undef _)) (by
    rw[ar,j2];have:(a.put x.d undef).defers=a.defers:=by cases x.d<;>rfl
    rw[this];exact U.cW)
   refine⟨p+1,gi,_,w,?_,ki,?_,?_⟩
   ·rw[ar,fT,zU,nn];exact .one dz
   ·rw[ar,eD,xv,jy]
   ·rw[ar,eU,xw,jz]
  ·exact absurd qO (l0 x .ep J rfl g7 u bh)
  ·have n0:=z1 bH U g7;obtain⟨aR,a',w',dz,eJ,eL,hk,ams,amE,v',uC⟩:=aae (b:=b) (bB:=bB) (k:=k) (rest:=rest) bH eT ak n0 U jP (by rw[xw,jz];exact hb.mono yk) (by rw[xv,jy];exact rZ.mono yk) iH;have HY:=vu ⟨(F p).t,eH.cW,eH.a9,eH.cD,eH.bR⟩ x.d (V p);have aB:bq aR (V p) v'∨x.d=none:=by
    cases Em:x.d with
    |none=>exact .inr rfl
    |some t=>
     left;have:=eJ.tmp t;rw[sy,zab Em,uC,<-nn,yi,zab ⟨Em,by rw[cg.size];exact lB t Em⟩]at this;exact this
   obtain⟨gi,ki⟩:=cg.effect aF D J ei yr (aR:=aR) (a':=a') (w':=w') (v':=v') lB eL hk (by rw[uC,nn]) aB (by
    rw[ar,HY.2.2.2];have:=eJ.cW;rw[(vu eH x.d (V p)).2.2.2]at this;exact this)
   refine⟨p+1,gi,a',w',?_,ki,?_,?_⟩
   ·rw[ar,HY.2.2.1,<-zU];exact dz
   ·rw[ar,HY.1];exact ams.trans (xv.trans jy)
   ·rw[ar,HY.2.1];exact amE.trans (xw.trans jz)
 |read n ts=>
  obtain⟨aH,aI⟩:=cg.ab0 aF D h0 av dF J aL hn ei;have HR:¬vI L F p:=fun⟨y,Q3,ay,_⟩=>by rw[J]at ay;cases ay
  obtain⟨_,_,gz,nZ⟩:=af;rcases nZ with⟨g7,aB⟩|⟨g7,nu⟩
  ·have n0:=z1 bH aH g7;have dz:=Kt (P:=X.P) (b:=b) (a:=a) (k:=k) (cs:=bB (F c).cD) (w:=w) (rest:=rest) ak n0;exact⟨c,ι,_,w,.one dz,by rw[<-nn];exact cg.float D J (by simp) ei HR lB (by rw[aB];exact bq.undef _),jy,jz⟩
  ·have n0:=z1 bH aH g7;have alv:(List.range p).countP (fun q=>decide (c<=q)&&uq L q)<n+1:=by
    refine Nat.lt_succ_of_le (zag (List.countP_mono_left fun q hq hh=> ?_) (D.back p x n ts J));simp only[b4,decide_eq_true_eq]at hh⊢;refine⟨hh.2,?_⟩;cases amT:(ms.getD p 0).testBit q with
    |false=>rfl
    |true=>
     exfalso;have fl:=D.before dF p aL jY q amT;have he:=hh.2;unfold uq at he;cases ay:L[q]? with
     |none=>rw[ay]at he;cases he
     |some y=>
      obtain⟨fi,Rk⟩:=y;rw[ay]at he;cases Rk with
      |ep=>exact cg.EM q fi hh.1 fl ay
      |im _=>cases he
      |read _ _=>cases he
   obtain⟨hh,mP,ef,aq,e2⟩:=abX _ _ nu _ alv;have bS:=aF.snap cg.start p ei (by omega);rw[bS]at aq;cases aq;have dB:=Jp bH;have rY:=D.rd p x n ts J;obtain⟨_,_,dY,_⟩:=Ph dB aH aI e2 (arf rY);obtain⟨_,_,v',gB,aB⟩:=dY rY;have Ef:(execOp a.eval o).run X.P w= .ok (.value v') w:=gB;have dz:=QS (b:=b) (a:=a) (k:=k) (cs:=bB (F c).cD) (rest:=rest) ak n0 (.inr (Zr dB (.inl rY))) Ef;exact⟨c,ι,_,w,.one dz,by rw[<-nn];exact cg.float D J (by simp) ei HR lB (by rw[gz];exact aB),jy,jz⟩
 |im ts=>
  obtain⟨aH,aI⟩:=cg.ab0 aF D h0 av dF J aL hn ei;obtain⟨_,_,nZ⟩:=af;rcases nZ with⟨g7,aB,gz⟩|⟨g7,eH,iH⟩
  ·have n0:=z1 bH aH g7;have dz:=Kt (P:=X.P) (b:=b) (a:=a) (k:=k) (cs:=bB (F c).cD) (w:=w) (rest:=rest) ak n0;have HR:¬vI L F p:=fun⟨y,Q3,ay,eL⟩=>by
    rw[J]at ay;cases ay;have h1:h7 ((F p).only ts) x.g (some true) (some false) none=some false:=g7;have h2:h7 ((F p).only ts) x.g (some true) (some false) none=some true:=eL;rw[h1]at h2;cases h2
   exact⟨c,ι,_,w,.one dz,by rw[<-nn];exact cg.float D J (by simp) ei HR lB (by rw[aB];exact bq.undef _),jy,jz⟩
  ·have n0:=z1 bH aH g7;have yp:=D.im p x ts J;have dB:=Jp bH;obtain⟨Jd,amg,_,gz,eI⟩:=RL (h0:=(T p).h) (aj:=(T p).aj) yp iH;obtain⟨_,_,_,jW⟩:=Ph dB aH aI (eI (T c).h) (aei yp);obtain⟨tk,O,ex,v',w',aq,e2,gB,Ng,aB,eL,hk⟩:=jW yp;have pj:(some Jd:am bt)=some tk:=by
    have:=congrArg (fun s:au=>s.h.get (T p).aj) aq;simp only[an.e8,if_true]at this;exact this
   cases pj;have amf:kb X (iG (fR ι (T p).aj) (T p).aj ⟨w.heap.size,0,ex,id⟩) w' Jd ⟨w.heap.size,0,ex,id⟩:=by
    obtain⟨l,hl,hm⟩:=eL.fe (T p).aj Jd (by show((T c).h.set (T p).aj Jd).get (T p).aj=_;rw[an.e8,zab rfl]) amg;have:iG (fR ι (T p).aj) (T p).aj ⟨w.heap.size,0,ex,id⟩ (T p).aj=some ⟨w.heap.size,0,ex,id⟩:=zab rfl;have e:=this.symm.trans hl;cases e;exact hm
   have Ef:(execOp a.eval o).run X.P w= .ok (.value v') w':=gB;have dz:=QS (b:=b) (a:=a) (k:=k) (cs:=bB (F c).cD) (rest:=rest) ak n0 (.inr (Zr dB (.inr yp))) Ef;exact⟨c,_,_,w',.one dz,by rw[<-nn];exact cg.ah0 aF D J ei hn lB gz (by rfl) (by exact N1) Ng hk.hx aB amf,jy,jz⟩
def agL(eT:oe X call)(cg:kQ X aP L F T V hK ij E c ι a w)(aF:ky call Z L [st.h] fr st aA st' F T N V)(D:mG X aP ops L cd ek ms)(h0:∀id,st.aj<=id->hK id=none)(av:∀t∈ek,(F 0).tmp t=jB)
 (dF:∀p,E p->og ops cd E p) {p:Nat} (hp:p<L.length) {x:bA} (J:L[p]? =some (x,.ep)) (aa:cd[p]? =some i) (aL:og ops cd E p) (hn:¬E p) (jy:(F c).a9=(F 0).a9) (jz:(F c).bR=(F 0).bR)
 (g7:lR (F p) x.g true) (yv:x.o.mh=true) {u:be} {acN:au} (iH:bK call x.o (F p) (T p)= .a9 u acN):
 ∃aR v' w',Steps X.P (lone (b.at a (.inRegion ops (i::rest)::k)) (bB (F p).cD) w) (lone (b.panics a (.inRegion ops (i::rest)::k) v') (bB (F p).cD) w')∧bq aR u v'∧bz X aR acN w'∧fY hK aR ij w'∧cF aR (F p) a aP∧
  (F c).cD=(F p).cD∧(F p).a9=(F 0).a9∧(F p).bR=(F 0).bR:=by
 obtain⟨o,ak,bH⟩:=D.op p i x .ep aa J;have jY:p<ops.size:=by rw[<-D.u6];exact hp
 have ei:c<=p:=by
  rcases zao p c with h|h
  ·exact absurd (cg.low p h) hn
  ·exact h
 have yr:∀q,q<p->E q:=fun q hq=>D.before dF p aL jY q (D.ep p x q J hq);obtain⟨jP,h6,zU,xv,xw⟩:=cg.upto aF D p ei (by omega) (fun r _ h=>yr r h);have U:cF (fR ι (T p).aj) (F p) a aP:=⟨fun t=>cg.look aF D h0 av dF J aL hn (.inl rfl),cg.size,by rw[h6];exact cg.cW.mono (sI (.refl ι) (aF.m4 D ei (by omega)))⟩;have n0:=z1 bH U g7;obtain⟨aR,v',w',af,aB,eL,hk⟩:=aaf (b:=b) (k:=k) (rest:=rest) (cs:=bB (F p).cD) bH eT ak n0 U jP yv iH;have p1:=aF.m4 D (zac p) (by omega);rw[aF.t0]at p1;have yk:hK.le (fR ι (T p).aj):=by
  intro id l hl;refine kT.2 ⟨?_,cg.keeps.le _ _ hl⟩;rcases zao id st.aj with h|h
  ·omega
  ·rw[h0 id h]at hl;cases hl
 have yF:fY hK (fR ι (T p).aj) ij w:=⟨yk,cg.keeps.size,cg.keeps.kept,fun id l hl=>cg.keeps.new id l (kT.1 hl).2,cg.keeps.hx⟩;exact⟨aR,v',w',af,aB,eL,yF.trans hk,U.mono hk.le,zU.symm,xv.trans jy,xw.trans jz⟩
end
theorem Tb{α:Type}{p q:α->Bool}:∀{l:ac α},(∀x∈l,p x=true->q x=true)->(∃x∈l,q x=true∧p x=false)->l.countP p<l.countP q
 |[],_,⟨x,J,_⟩=>by cases J
 |y::l,h,⟨x,J,h1,h2⟩=>by
  have hle:l.countP p<=l.countP q:=List.countP_mono_left fun z av=>h z (zaB _ av);rw[List.countP_cons,List.countP_cons];rcases zap.1 J with rfl|J
  ·simp only[h1,h2,if_true];simp;omega
  ·have:=Tb (fun z av=>h z (zaB _ av)) ⟨x,J,h1,h2⟩;have ay:=h y zbF;cases hp:p y with
   |false=>simp;split<;>omega
   |true=>simp[ay hp];omega
section
variable{aP:Nat}{ops:ap Oper}{L:ac (bA×cx)}{cd:ac Nat}{ek:ac Tmp}{ms:ac Nat}
variable{Z:Nat->Bool}{fr aA:aJ}{st st':au}{F:Nat->aJ}{T:Nat->au}{N:Nat->ac (an bt)}{V:Nat->be}{hK:bx}{ij:d7}
variable{b:ea}{bB:Bool->ac Frame}{k:ac Item}
variable{listed:ap Bool}{i:Nat}
def mF(cd:ac Nat)(listed:ap Bool):Nat->Prop:=fun p=>∃i,cd[p]? =some i∧listed.getD i false=true
def aku:listed.getD i false=true->listed.getD i true=true:=by
 intro h;rcases zao i listed.size with aa|aa
 ·simpa[aa]using h
 ·simp[aa]at h
def WY(aa:i<listed.size)(h:listed.getD i false≠true):listed.getD i true=false:=by
 simpa[aa]using h
def mG.aej(D:mG X aP ops L cd ek ms)(et:listed.size=ops.size)(h:Region.ready .any ops listed=[]):∀p,p<L.length->mF cd listed p:=by
 intro p
 induction p using Nat.strongRecOn with
 |_ p a1=>
  intro hp;have jY:p<ops.size:=by rw[<-D.u6];exact hp
  have aa:cd[p]? =some (cd[p]'(by rw[D.y8];exact jY)):=bE _;obtain⟨⟨x,fj⟩,J⟩:∃x,L[p]? =some x:=⟨_,bE hp⟩;obtain⟨o,ak,_⟩:=D.op p _ x fj aa J;refine⟨_,aa,?_⟩;by_cases hl:listed.getD (cd[p]'(by rw[D.y8];exact jY)) false=true
  ·exact hl
  ·exfalso;have aE:=(zbs.1 ak).1;have Bd:(cd[p]'(by rw[D.y8];exact jY))∈Region.ready .any ops listed:=by
    rw[mem_ready];refine⟨WY (by rw[et];exact aE) hl,o,ak,fun e he hb=> ?_⟩;obtain⟨q,hq,amw⟩:=D.ag2 p _ o aa ak e he hb;obtain⟨j,hj,iJ⟩:=a1 q hq (by omega);rw[amw]at hj;cases hj;exact iJ
   rw[h]at Bd;cases Bd
def agK(eT:oe X call)(aF:ky call Z L [st.h] fr st aA st' F T N V)(D:mG X aP ops L cd ek ms)(h0:∀id,st.aj<=id->hK id=none)(av:∀t∈ek,(F 0).tmp t=jB)
 (hb:rA hK (F 0).bR b.bR) (rZ:mf b (F 0).a9 hK bB) (n:Nat) (l0:KZ call Z L F T n) (MY:∀p,Z p=true->n<L.length∧(ms.getD p 0).testBit n=true):∀(fuel t:Nat) (listed:ap Bool) (c:Nat) (ι:bx) (a:Act) (w:d7),listed.size=ops.size->(List.range ops.size).countP (fun i=> !listed.getD i true)<=fuel->
 (∀p,mF cd listed p->og ops cd (mF cd listed) p)->¬mF cd listed n->kQ X aP L F T V hK ij (mF cd listed) c ι a w->(F c).a9=(F 0).a9->(F c).bR=(F 0).bR->
 (∃mb bW gi a' w',Steps X.P (lone (b.at a (.inRegion ops (Region.linearise.go .any ops fuel t listed [])::k)) (bB (F c).cD) w) (lone (b.at a' (.inRegion ops []::k)) (bB (F bW).cD) w')∧
  (∀p,p<L.length->mb p)∧kQ X aP L F T V hK ij mb bW gi a' w'∧(F bW).a9=(F 0).a9∧(F bW).bR=(F 0).bR∧(mb n->mF cd listed n))∨
 (∃mb bW gi a' w' i rest,Steps X.P (lone (b.at a (.inRegion ops (Region.linearise.go .any ops fuel t listed [])::k)) (bB (F c).cD) w) (lone (b.at a' (.inRegion ops (i::rest)::k)) (bB (F bW).cD) w')∧
  n<L.length∧cd[n]? =some i∧(∀p,mb p->og ops cd mb p)∧og ops cd mb n∧¬mb n∧kQ X aP L F T V hK ij mb bW gi a' w'∧(F bW).a9=(F 0).a9∧(F bW).bR=(F 0).bR):=by
 intro fuel
 induction fuel with
 |zero=>
  intro t listed c ι a w et DJ ox Nb cg jy jz;refine .inl ⟨mF cd listed,c,ι,a,w,.refl _ _,fun p hp=> ?_,cg,jy,jz,id⟩;have jY:p<ops.size:=by rw[<-D.u6];exact hp
  have aa:cd[p]? =some (cd[p]'(by rw[D.y8];exact jY)):=bE _;obtain⟨⟨x,fj⟩,J⟩:∃x,L[p]? =some x:=⟨_,bE hp⟩;obtain⟨o,ak,_⟩:=D.op p _ x fj aa J;have aE:=(zbs.1 ak).1;refine⟨_,aa,?_⟩;have h1:=List.countP_eq_zero.1 (Nat.le_zero.1 DJ) _ (zcv.2 aE);by_cases hl:listed.getD (cd[p]'(by rw[D.y8];exact jY)) false=true
  ·exact hl
  ·rw[WY (by rw[et];exact aE) hl]at h1;simp at h1
 |succ fuel a1=>
  intro t listed c ι a w et DJ ox Nb cg jy jz;simp only[Region.linearise.go];change(∃mb bW gi a' w',Steps X.P (lone (b.at a (.inRegion ops (match(Region.ready .any ops listed)[t%(Region.ready .any ops listed).length]? with
   |some i=>Region.linearise.go .any ops fuel (t/(Region.ready .any ops listed).length) (listed.setIfInBounds i true) [i]
   |none=>[].reverse)::k)) (bB (F c).cD) w) _∧_)∨(∃mb bW gi a' w' i rest,Steps X.P (lone (b.at a (.inRegion ops (match(Region.ready .any ops listed)[t%(Region.ready .any ops listed).length]? with
   |some i=>Region.linearise.go .any ops fuel (t/(Region.ready .any ops listed).length) (listed.setIfInBounds i true) [i]
   |none=>[].reverse)::k)) (bB (F c).cD) w) _∧_)
  cases pX:(Region.ready .any ops listed)[t%(Region.ready .any ops listed).length]? with
  |none=>
   have Nx:Region.ready .any ops listed=[]:=by
    cases rY:Region.ready .any ops listed with
    |nil=>rfl
    |cons x xs=>
     rw[rY]at pX;have aE:t%(x::xs).length<(x::xs).length:=zaj _ (by simp);simp at pX;simp at aE;omega
   exact .inl ⟨mF cd listed,c,ι,a,w,.refl _ _,D.aej et Nx,cg,jy,jz,id⟩
  |some i=>
   simp only[];rw[linearise_go_acc,List.reverse_singleton,List.singleton_append];obtain⟨NR,o,ak,eI⟩:=mem_ready.1 (zau pX);have aE:=(zbs.1 ak).1;obtain⟨p,hp⟩:=D.atJ i aE;have NG:p<L.length:=by rw[D.u6,<-D.y8];exact(zaf.1 hp).1
   have hn:¬mF cd listed p:=by
    rintro⟨j,hj,iJ⟩;rw[hp]at hj;cases hj;rw[aku iJ]at NR;cases NR
   have aL:og ops cd (mF cd listed) p:=by
    intro c4 bD eC lC e he A0 r uQ;rw[hp]at eC;cases eC;rw[ak]at lC;cases lC;exact⟨_,uQ,eI e he A0⟩
   by_cases qO:p=n
   ·subst qO;exact .inr ⟨mF cd listed,c,ι,a,w,i,_,.refl _ _,NG,hp,ox,aL,hn,cg,jy,jz⟩
   have Bm:Z p=false:=by
    cases NY:Z p with
    |false=>rfl
    |true=>exact absurd (D.before ox p aL (by rw[<-D.u6];exact NG) n (MY p NY).2) Nb
   obtain⟨bW,gi,a',w',af,ki,amo,amD⟩:=agN (b:=b) (bB:=bB) (k:=k) (rest:=Region.linearise.go .any ops fuel (t/(Region.ready .any ops listed).length) (listed.setIfInBounds i true) []) eT cg aF D h0 av ox NG Bm (fun x c J=>l0 p x c qO Bm J) hp aL hn hb rZ jy jz;have dF:CM (mF cd listed) p=mF cd (listed.setIfInBounds i true):=by
    funext q;apply propext;constructor
    ·rintro(⟨j,hj,iJ⟩|rfl)
     ·exact⟨j,hj,getD_set_true iJ⟩
     ·exact⟨i,hp,by simp[et,aE]⟩
    ·rintro⟨j,hj,iJ⟩;by_cases e:j=i
     ·subst e;exact .inr (D.inj q p j hj hp)
     ·left;refine⟨j,hj,?_⟩;rw[getD_set_ne false (Ne.symm e)]at iJ;exact iJ
   rw[dF]at ki;have als:∀p,mF cd (listed.setIfInBounds i true) p->og ops cd (mF cd (listed.setIfInBounds i true)) p:=by
    rw[<-dF];rintro q (hq|rfl) c4 bD eC lC e he A0 r uQ
    ·exact .inl (ox q hq c4 bD eC lC e he A0 r uQ)
    ·exact .inl (aL c4 bD eC lC e he A0 r uQ)
   have alz:¬mF cd (listed.setIfInBounds i true) n:=by
    rw[<-dF];rintro(h|h)
    ·exact Nb h
    ·exact qO h.symm
   have alu:(List.range ops.size).countP (fun j=> !(listed.setIfInBounds i true).getD j true)<=fuel:=by
    refine zey (gH (Tb (fun j _ hj=> ?_) ⟨i,zcv.2 aE,?_,?_⟩) DJ)
    ·by_cases e:j=i
     ·subst e;simp[et,aE]at hj
     ·rw[getD_set_ne true (Ne.symm e)]at hj;exact hj
    ·rw[NR];rfl
    ·simp[et,aE]
   rcases a1 (t/(Region.ready .any ops listed).length) (listed.setIfInBounds i true) bW gi a' w' (by simp[et]) alu als alz ki amo amD with⟨mb,LK,Rq,K8,ku,ft,Hv,ak6,aml,amy,alx⟩|⟨mb,LK,Rq,K8,ku,c4,arp,ft,amB⟩
   ·refine .inl ⟨mb,LK,Rq,K8,ku,af.trans ft,Hv,ak6,aml,amy,fun h=> ?_⟩;have:=alx h;rw[<-dF]at this;rcases this with h|h
    ·exact h
    ·exact absurd h.symm qO
   ·exact .inr ⟨mb,LK,Rq,K8,ku,c4,arp,af.trans ft,amB⟩
def agM{ι:bx}{a:Act}{w:d7}{id:Nat}(hm:X.P.follows .mixedOrders=true)(eT:oe X call)(D:mG X aP ops L cd ek ms)(U:cF ι fr a aP)(hw:bz X ι st w)(hb:rA ι fr.bR b.bR)(aL:mf b fr.a9 ι bB):
 gT X b aP bB (lone (b.at a (.code (.region id ops true)::k)) (bB fr.cD) w) k fr ι w (iv call (ua call ms (dL L)) L [st.h] (qh fr ek) st):=by
 cases iH:iv call (ua call ms (dL L)) L [st.h] (qh fr ek) st with
 |no=>trivial
 |out e aA st'=>
  obtain⟨Z,F,T,N,V,aF,yx⟩:=ahC _ _ _ _ _ _ _ iH;obtain⟨tI,z6,FW,auZ,au0⟩:=aat ek fr
  let hJ:d7:={w with drawn:=w.drawn+1}
  have p4:bz X ι st hJ:=hw.Kj X rfl;have pQ:F 0=qh fr ek:=aF.f0;have HF:∀id,st.aj<=id->ι id=none:=fun id h=>(hw.fresh id h).1;have pd:fR ι (T 0).aj=ι:=by rw[aF.t0];exact Tf HF
  have p0:∀p,¬mF cd (Array.replicate ops.size false) p:=by
   rintro p ⟨i,_,aa⟩;by_cases h:i<ops.size<;>simp[h]at aa
  have cg:kQ X aP L F T V ι hJ (mF cd (Array.replicate ops.size false)) 0 ι a hJ:=by
   refine⟨fun p hp=>by omega,zac _,.inl rfl,fun p x _ h=>absurd h (p0 p),by rw[pd,aF.t0];exact p4,fun id l hl=>.inl ?_,fun p _ h=>absurd h (p0 p),p4.hN,.refl _ _,U.size,by rw[pd,pQ,au0];exact U.cW,fun p x fj t _ _ h=>absurd h (p0 p),fun t _=> ?_⟩
   ·rw[aF.t0];rcases zao id st.aj with h|h
    ·exact h
    ·rw[HF id h]at hl;cases hl
   ·rw[pQ,tI];by_cases h:t∈ek
    ·rw[zab h];exact .top _
    ·rw[zaa h];exact U.tmp t
  have oF:=ats (P:=X.P) (b:=b) (a:=a) (k:=k) (cs:=bB fr.cD) (w:=w) (ops:=ops) (id:=id);have amG:Region.schedule (X.P.follows .mixedOrders) ops (w.tape w.drawn (.order b.fn id))=Region.linearise.go .any ops ops.size (w.tape w.drawn (.order b.fn id)) (Array.replicate ops.size false) []:=by
   simp only[Region.schedule,hm,Bool.true_or,if_true];rfl
  rw[amG]at oF;have r1:bB (F 0).cD=bB fr.cD:=by rw[pQ,auZ]
  have uK:=fun n l0 MY=>agK (b:=b) (bB:=bB) (k:=k) eT aF D HF (fun t h=>by rw[pQ,tI,zab h]) (by rw[pQ,FW];exact hb) (by rw[pQ,z6];exact aL) n l0 MY ops.size (w.tape w.drawn (.order b.fn id)) (Array.replicate ops.size false) 0 ι a hJ (by simp) (by
   refine zag List.countP_le_length ?_;simp) (fun p h=>absurd h (p0 p)) (p0 n) cg rfl rfl
  rw[r1]at uK;rcases yx with⟨rfl,H8,l0,iI,amV⟩|⟨n,x,u,J,anb,l0,g7,yv,rfl,rfl,Bf⟩
  case inr=>
   have XG:=(zaf.1 J).1;rcases uK n l0 (fun p hp=>⟨XG,(anb p hp).2⟩)with⟨mb,bW,gi,a',w',af,eI,ki,mq,mW,g5⟩|⟨mb,bW,gi,a',w',i,rest,af,ph,aa,ox,rY,amb,ki,mq,mW⟩
   ·exact absurd (g5 (eI n XG)) (p0 n)
   ·obtain⟨aR,v',ku,nZ,aB,Ek,kl,DN,aq,e2,bS⟩:=agL (b:=b) (bB:=bB) (k:=k) (rest:=rest) eT ki aF D HF (fun t h=>by rw[pQ,tI,zab h]) ox ph J aa rY amb mq mW g7 yv Bf;rw[aq]at af;exact⟨aR,a',ku,DN,Ek,fY.trans (w':=hJ) (fY.Kj ι rfl) kl,by rw[e2,pQ,z6],by rw[bS,pQ,FW],v',_,aB,(Steps.head oF af).trans nZ⟩
  obtain⟨mb,bW,gi,a',w',af,eI,ki,mq,mW,_⟩:∃mb bW gi a' w',_:=by
   rcases uK L.length l0 (fun p hp=>by rw[H8 p]at hp;cases hp)with h|⟨_,_,_,_,_,_,_,_,ph,_⟩
   ·exact h
   ·exact absurd ph (zaU _)
  obtain⟨jP,h6,zU,xv,xw⟩:=ki.upto aF D L.length ki.Gx (b6 _) (fun r _ h=>eI r h);have Eg:fR gi (T L.length).aj=gi:=by
   refine Tf fun id pe=> ?_;cases hl:gi id with
   |none=>rfl
   |some l=>
    exfalso;rcases ki.mM id l hl with h|⟨p,h1,h2,ab,aD,bg⟩
    ·have:=aF.m4 D ki.Gx (b6 _);omega
    ·obtain⟨o,l',cv,_⟩:=ki.gP p h1 ab aD;have dq:(T (p+1)).aj=(T p).aj+1:=by rw[cv]
     have:=aF.m4 D (p:=p+1) (q:=L.length) h2 (b6 _);omega
  rw[Eg,amV]at jP;rw[iI]at h6 zU xv xw;have eJ:cF gi aA a' aP:=by
   refine⟨fun t=> ?_,ki.size,by rw[h6];exact ki.cW.mono (Tg _ _)⟩;rw[<-iI];by_cases XW:∃(q:Nat) (y:bA) (d:cx),L[q]? =some (y,d)∧y.d=some t
   ·obtain⟨q,y,d,ay,ao⟩:=XW;have hq:=(zaf.1 ay).1;rw[aF.Q0 D ay ao L.length hq (b6 _)];exact(ki.FM q y d t ay ao (eI q hq)).mono (Tg _ _)
   ·have gL:∀(q:Nat) eY bW,L[q]? =some (eY,bW)->eY.d≠some t:=fun q eY bW bP g5=>XW ⟨q,eY,bW,bP,g5⟩;rw[aF.Kz t L.length (b6 _) fun q eY bW _ bP=>gL q eY bW bP];exact(ki.Cm t fun q eY bW bP g5=>absurd g5 (gL q eY bW bP)).mono ki.keeps.le
  refine⟨gi,a',w',eJ,jP,fY.trans (w':=hJ) (fY.Kj ι rfl) ki.keeps,?_,?_,?_⟩
  ·rw[xv,mq,pQ,z6]
  ·rw[xw,mW,pQ,FW]
  ·rw[<-zU]at af;exact(Steps.head oF af).trans (.one acG)
end
end Go.ah
namespace Go.ah
variable{X:Ctx}
abbrev vJ:=Nat×(bA×cx)×Nat×Nat
def rk:Nat->ac (bA×cx)->ac Nat->ac Nat->ac vJ
 |p,a::L,i::cd,m::ms=>(p,a,i,m)::rk (p+1) L cd ms
 |_,_,_,_=>[]
theorem abR:∀(L:ac (bA×cx)) (cd ms:ac Nat) (nF p:Nat) {a:bA×cx} {i m:Nat},L[p]? =some a->cd[p]? =some i->ms[p]? =some m->(nF+p,a,i,m)∈rk nF L cd ms
 |[],_,_,_,p,_,_,_,h,_,_=>by simp at h
 |_::_,[],_,_,p,_,_,_,_,h,_=>by simp at h
 |_::_,_::_,[],_,p,_,_,_,_,_,h=>by simp at h
 |a'::L,c4::cd,gF::ms,nF,p,a,i,m,h1,h2,ab=>by
  cases p with
  |zero=>
   simp at h1 h2 ab;subst h1 h2 ab;exact zbF
  |succ p=>
   have:=abR L cd ms (nF+1) p (a:=a) (i:=i) (m:=m) (by simpa using h1) (by simpa using h2) (by simpa using ab);rw[show nF+(p+1)=nF+1+p by omega];exact zaB _ this
theorem abQ:∀(L:ac (bA×cx)) (cd ms:ac Nat) (nF:Nat) {r:vJ},r∈rk nF L cd ms->∃p:Nat,r.1=nF+p∧L[p]? =some r.2.1∧cd[p]? =some r.2.2.1∧ms[p]? =some r.2.2.2
 |[],_,_,_,_,h=>by simp[rk]at h
 |_::_,[],_,_,_,h=>by simp[rk]at h
 |_::_,_::_,[],_,_,h=>by simp[rk]at h
 |a'::L,c4::cd,gF::ms,nF,r,h=>by
  simp only[rk]at h;rcases zap.1 h with rfl|h
  ·exact⟨0,rfl,rfl,rfl,rfl⟩
  ·obtain⟨p,h1,h2,ab,aD⟩:=abQ L cd ms (nF+1) h;exact⟨p+1,by omega,h2,ab,aD⟩
def ze(rows:ac vJ)(p:Nat):ac Edge->am Nat
 |[]=>some 0
 |e::es=>if Region.binds .any e then
  match rows.find? (fun r=>Nat.beq r.2.2.1 e.on),ze rows p es with
  |some r,some m=>if Nat.ble (Nat.succ r.1) p then some (m|||((1<<<r.1)|||r.2.2.2))else none
  |_,_=>none
  else ze rows p es
theorem IJ{rows:ac vJ}{p:Nat}:∀(es:ac Edge) (m:Nat),ze rows p es=some m->
 (∀e∈es,Region.binds .any e=true->∃r∈rows,r.2.2.1=e.on∧r.1<p)∧
 (∀q,m.testBit q=true->∃e∈es,Region.binds .any e=true∧∃r∈rows,r.2.2.1=e.on∧r.1<p∧(q=r.1∨r.2.2.2.testBit q=true))
 |[],m,h=>by
  simp only[ze,Option.some.injEq]at h;subst h;exact⟨fun e he=>by simp at he,fun q hq=>by simp at hq⟩
 |e::es,m,h=>by
  simp only[ze]at h;by_cases hb:Region.binds .any e=true
  ·rw[zab hb]at h;split at h
   ·rename_i r gF aL k1;split at h
    ·rename_i aE;cases h;obtain⟨i1,i2⟩:=IJ es gF k1;have NN:=zdL aL;have yQ:r.2.2.1=e.on:=by
      have:=zdM aL;exact eo this
     have Ee:r.1<p:=qt.1 aE;refine⟨fun cK nq cZ=> ?_,fun q hq=> ?_⟩
     ·rcases zap.1 nq with rfl|nq
      ·exact⟨r,NN,yQ,Ee⟩
      ·exact i1 cK nq cZ
     ·rw[Nat.testBit_or,Nat.testBit_or,zdO,zdO]at hq;rcases hq with hq|hq|hq
      ·obtain⟨cK,nq,h1,h2⟩:=i2 q hq;exact⟨cK,zaB _ nq,h1,h2⟩
      ·rw[Nat.one_shiftLeft,Nat.testBit_two_pow]at hq;exact⟨e,zbF,hb,r,NN,yQ,Ee,.inl (zbB hq).symm⟩
      ·exact⟨e,zbF,hb,r,NN,yQ,Ee,.inr hq⟩
    ·cases h
   ·cases h
  ·rw[zaa hb]at h;obtain⟨i1,i2⟩:=IJ es m h;refine⟨fun cK nq cZ=> ?_,fun q hq=> ?_⟩
   ·rcases zap.1 nq with rfl|nq
    ·exact absurd cZ hb
    ·exact i1 cK nq cZ
   ·obtain⟨cK,nq,h1,h2⟩:=i2 q hq;exact⟨cK,zaB _ nq,h1,h2⟩
def TG(d:am Tmp)(t:Tmp):Bool:=match d with|some u=>Nat.beq u t|none=>false
def uD(ts:ac Tmp)(t:Tmp):Bool:=ts.any (Nat.beq t)
def Hw{ts:ac Tmp}{t:Tmp}:uD ts t=true↔t∈ts:=by
 unfold uD;rw[zez];constructor
 ·rintro⟨u,hu,h⟩;rw[e5 h];exact hu
 ·intro h;exact⟨t,h,zaN t⟩
def Fs(X:Ctx)(aP:Nat)(ops:ap Oper)(L:ac (bA×cx))(rows:ac vJ)(r:vJ):Bool:=
 (match ops[r.2.2.1]? with
  |some o=>n5 X aP ops r.2.1.1 o&&(match ze rows r.1 o.after.toList with|some m=>Nat.beq m r.2.2.2|none=>false)
  |none=>false)&&
 (match r.2.1.2 with
  |.ep=>Nat.beq r.2.2.2 (2^r.1-1)
  |.im _=>r.2.1.1.o.uV
  |.read n _=>r.2.1.1.o.tb&&Nat.ble ((List.range r.1).countP (fun q=>uq L q&& !r.2.2.2.testBit q)) n)
def BV(ek:ac Tmp)(r s:vJ):Bool:=
 (!Nat.beq r.2.2.1 s.2.2.1||Nat.beq r.1 s.1)&&
 (match s.2.1.1.d with
  |none=>true
  |some t=>
   (!TG r.2.1.1.d t||Nat.beq r.1 s.1)&&
   (!Nat.ble (Nat.succ r.1) s.1||uD ek t|| !(r.2.1.2.y2||uD r.2.1.2.looks t)||s.2.2.2.testBit r.1)&&
   (!Nat.ble (Nat.succ s.1) r.1|| !uD r.2.1.2.looks t||r.2.2.2.testBit s.1))
def GX(X:Ctx)(aP:Nat)(ops:ap Oper)(L:ac (bA×cx))(cd:ac Nat)(ek:ac Tmp)(ms:ac Nat):Bool:=
 (fun rows=>Nat.beq L.length ops.size&&Nat.beq cd.length ops.size&&Nat.beq ms.length ops.size&&(List.range ops.size).all (fun i=>uD cd i)&&rows.all (Fs X aP ops L rows)&&rows.all (fun r=>rows.all (BV ek r))) (rk 0 L cd ms)
def agJ{aP:Nat}{ops:ap Oper}{L:ac (bA×cx)}{cd:ac Nat}{ek:ac Tmp}{ms:ac Nat}(h:GX X aP ops L cd ek ms=true):mG X aP ops L cd ek ms:=by
 unfold GX at h;simp only[b4]at h;obtain⟨⟨⟨⟨⟨h1,h2⟩,ab⟩,aD⟩,bg⟩,cv⟩:=h;have aq:=e5 h1;have e2:=e5 h2;have bS:=e5 ab;rw[zck]at aD bg cv;have lD:∀(p:Nat) a i,L[p]? =some a->cd[p]? =some i->(p,a,i,ms.getD p 0)∈rk 0 L cd ms:=by
  intro p a i ha aa;have hp:=(zaf.1 ha).1;have hm:ms[p]? =some (ms.getD p 0):=by
   have:p<ms.length:=by omega
   simp[this]
  have:=abR L cd ms 0 p ha aa hm
  rwa [zaP]at this
 have kD:∀p:Nat,p<L.length->∃i,cd[p]? =some i:=fun p hp=>⟨_,bE (by omega)⟩;have gy:∀p i:Nat,cd[p]? =some i->∃a,L[p]? =some a:=fun p i aa=>⟨_,bE (by have:=(zaf.1 aa).1;omega)⟩;have bH:∀(p:Nat) a i,L[p]? =some a->cd[p]? =some i->Fs X aP ops L (rk 0 L cd ms) (p,a,i,ms.getD p 0)=true:=fun p a i ha aa=>bg _ (lD p a i ha aa);have HX:∀(p:Nat) a i (q:Nat) b j,L[p]? =some a->cd[p]? =some i->L[q]? =some b->cd[q]? =some j->BV ek (p,a,i,ms.getD p 0) (q,b,j,ms.getD q 0)=true:=by
  intro p a i q b j ha aa hb hj;have:=cv _ (lD p a i ha aa);rw[zck]at this;exact this _ (lD q b j hb hj)
 have XE:∀(p i:Nat) a o,L[p]? =some a->cd[p]? =some i->ops[i]? =some o->n5 X aP ops a.1 o=true∧∃m,ze (rk 0 L cd ms) p o.after.toList=some m∧m=ms.getD p 0:=by
  intro p i a o ha aa ak;have:=bH p a i ha aa;unfold Fs at this;simp only[ak,b4]at this;refine⟨this.1.1,?_⟩;have dq:=this.1.2;split at dq
  ·rename_i m hm;exact⟨m,hm,e5 dq⟩
  ·cases dq
 have yq:∀{r:vJ} {p:Nat},r∈rk 0 L cd ms->∃q:Nat,r.1=q∧cd[q]? =some r.2.2.1∧ms.getD q 0=r.2.2.2:=by
  intro r p aL;obtain⟨q,aH,aI,bj,cn⟩:=abQ L cd ms 0 aL;exact⟨q,by omega,bj,by simp[List.getD,cn]⟩
 have Hx:∀(p i:Nat) a,L[p]? =some a->cd[p]? =some i->(match a.2 with|.ep=>Nat.beq (ms.getD p 0) (2^p-1)|.im _=>a.1.o.uV|.read n _=>a.1.o.tb&&Nat.ble ((List.range p).countP (fun q=>uq L q&& !(ms.getD p 0).testBit q)) n)=true:=by
  intro p i a ha aa;have:=bH p a i ha aa;unfold Fs at this;rw[b4]at this;exact this.2
 refine⟨aq,e2,fun p i x c aa J=> ?_,fun p x ts J=> ?_,fun p x n ts J=> ?_,fun p q i hp hq=> ?_,fun i aa=> ?_,fun p i o aa ak e he hb=> ?_,fun p i o q aa ak hq=> ?_,fun p x q J hq=> ?_,fun p x n ts J=> ?_,fun p q x y c d t J ay Em jA=> ?_,fun p q x y c d t J ay NH jA H4 hl=> ?_,fun p q x y c d t J ay yP jA hl=> ?_⟩
 ·have:=bH p (x,c) i J aa;unfold Fs at this;rw[b4]at this;have dq:=this.1;split at dq
  ·rename_i o ak;rw[b4]at dq;exact⟨o,ak,dq.1⟩
  ·cases dq
 ·obtain⟨i,aa⟩:=kD p (zaf.1 J).1;exact Hx p i _ J aa
 ·obtain⟨i,aa⟩:=kD p (zaf.1 J).1;have:=Hx p i _ J aa;simp only[b4]at this;exact this.1
 ·obtain⟨a,ha⟩:=gy p i hp;obtain⟨b,hb⟩:=gy q i hq;have:=HX p a i q b i ha hp hb hq;unfold BV at this;simp only[b4,zdO]at this;rcases this.1 with h|h
  ·simp at h
  ·exact e5 h
 ·have:=aD i (zcv.2 aa);have hm:=Hw.1 this;obtain⟨p,hp,he⟩:=List.mem_iff_getElem.1 hm;exact⟨p,by rw[bE hp,he]⟩
 ·obtain⟨a,ha⟩:=gy p i aa;obtain⟨_,m,hm,_⟩:=XE p i a o ha aa ak;obtain⟨r,aL,dq,hB⟩:=(IJ _ _ hm).1 e (by simpa using he) hb;obtain⟨q,aH,aI,_⟩:=yq (p:=0) aL;exact⟨q,by omega,by rw[aI,dq]⟩
 ·obtain⟨a,ha⟩:=gy p i aa;obtain⟨_,m,hm,rfl⟩:=XE p i a o ha aa ak;obtain⟨e,he,hb,r,aL,dq,hB,jj⟩:=(IJ _ _ hm).2 q hq;obtain⟨gZ,aH,aI,bj⟩:=yq (p:=0) aL;exact⟨e,by simpa using he,hb,gZ,by omega,by rw[aI,dq],by rw[bj,<-aH];exact jj⟩
 ·obtain⟨i,aa⟩:=kD p (zaf.1 J).1;have:=e5 (Hx p i _ J aa);rw[this,Nat.testBit_two_pow_sub_one];simpa using hq
 ·obtain⟨i,aa⟩:=kD p (zaf.1 J).1;have:=Hx p i _ J aa;simp only[b4]at this;exact qt.1 this.2
 ·obtain⟨i,aa⟩:=kD p (zaf.1 J).1;obtain⟨j,hj⟩:=kD q (zaf.1 ay).1;have:=HX p _ i q _ j J aa ay hj;unfold BV at this;simp only[jA,b4]at this;have dq:=this.2.1.1;simp[TG,Em]at dq;exact dq
 ·obtain⟨i,aa⟩:=kD p (zaf.1 J).1;obtain⟨j,hj⟩:=kD q (zaf.1 ay).1;have:=HX p _ i q _ j J aa ay hj;unfold BV at this;simp only[jA,b4]at this;have dq:=this.2.1.2;have aH:Nat.ble (Nat.succ p) q=true:=qt.2 NH;have aI:uD ek t=false:=by rw[zbV];intro h;exact H4 (Hw.1 h)
  have bj:(c.y2||uD c.looks t)=true:=by
   rcases hl with rfl|hl
   ·rfl
   ·rw[zdO];exact .inr (Hw.2 hl)
  rw[aH,aI,bj]at dq;simpa using dq
 ·obtain⟨i,aa⟩:=kD p (zaf.1 J).1;obtain⟨j,hj⟩:=kD q (zaf.1 ay).1;have:=HX p _ i q _ j J aa ay hj;unfold BV at this;simp only[jA,b4]at this;have dq:=this.2.2;have aH:Nat.ble (Nat.succ q) p=true:=qt.2 yP;have aI:uD c.looks t=true:=Hw.2 hl;rw[aH,aI]at dq;simpa using dq
end Go.ah
namespace Go.ah
variable{X:Ctx}{call:bG}
def zK(X:Ctx)(aP:Nat)(ops:ap Oper):ac bA->ac Oper->Bool
 |[],[]=>true
 |x::xs,o::os=>n5 X aP ops x o&&zK X aP ops xs os
 |_,_=>false
theorem abG{aP:Nat}{ops:ap Oper}:∀{xs:ac bA} {os:ac Oper},zK X aP ops xs os=true->xs.length=os.length∧∀(j:Nat) x o,xs[j]? =some x->os[j]? =some o->n5 X aP ops x o=true
 |[],[],_=>⟨rfl,fun j x o h=>by simp at h⟩
 |x::xs,o::os,h=>by
  simp only[zK,b4]at h;obtain⟨h1,h2⟩:=abG h.2;refine⟨by simp[h1],fun j eY bD J ak=> ?_⟩;cases j with
  |zero=>simp at J ak;subst J ak;exact h.1
  |succ j=>exact h2 j eY bD (by simpa using J) (by simpa using ak)
 |[],_::_,h=>by simp[zK]at h
 |_::_,[],h=>by simp[zK]at h
def zj:ac Nat->ac Nat->Bool
 |[],[]=>true
 |a::as,b::bs=>Nat.beq a b&&zj as bs
 |_,_=>false
theorem Zd:∀{as bs:ac Nat},zj as bs=true->as=bs
 |[],[],_=>rfl
 |a::as,b::bs,h=>by
  simp only[zj,b4]at h;rw[e5 h.1,Zd h.2]
 |[],_::_,h=>by simp[zj]at h
 |_::_,[],h=>by simp[zj]at h
def codeOk(X:Ctx)(aP:Nat):dw->Code->Bool
 |.skip,.skip=>true
 |.skip,.label _=>true
 |.vz xs,.region _ ops false=>zK X aP ops xs ops.toList
 |.uo L cd ek ms,.region _ ops true=>GX X aP ops L cd ek ms
 |.seq a b,.seq c d=>codeOk X aP a c&&codeOk X aP b d
 |.cond x a b,.cond y c d=>bT X.az x y&&codeOk X aP a c&&codeOk X aP b d
 |.block i a,.block j c=>Nat.beq i j&&codeOk X aP a c
 |.loop a,.loop c=>codeOk X aP a c
 |.Ca f ps dr body,.rangeFunc g dt qq qu=>bT X.az f g&&zj ps dt.toList&&ps.all (fun t=>Nat.ble (Nat.succ t) aP)&&codeOk X aP dr qq&&codeOk X aP body qu
 |.exit i,.exit j=>Nat.beq i j
 |.scope a,.scope c=>codeOk X aP a c
 |.ret,.ret=>true
 |.refuse,_=>true
 |_,_=>false
def Good(X:Ctx):Prop:=X.P.follows .mixedOrders=true∧∀fn c tH,X.ok fn c tH↔∃F,X.P.funcs[fn]? =some F∧codeOk X F.ntmps tH c=true
section
variable{b:ea}{aP:Nat}{bB:Bool->ac Frame}
def F7(X:Ctx)(call:bG)(b:ea)(aP:Nat)(bB:Bool->ac Frame):Prop:=
 ∀(f:bi) (ps:ap Tmp) (dr body:dw) (qq qu:Code) (ι:bx) (fr:aJ) (a:Act) (st:au) (w:d7) (k:ac Item),cH X.az f=true->(∀t∈ps.toList,t<aP)->(∃F,X.P.funcs[b.fn]? =some F∧F.ntmps=aP)->X.ok b.fn qq dr->X.ok b.fn qu body->
  cF ι fr a aP->bz X ι st w->rA ι fr.bR b.bR->mf b fr.a9 ι bB->
  gT X b aP bB (lone (b.at a (.code (.rangeFunc f ps qq qu)::k)) (bB fr.cD) w) k fr ι w (Dr call b.fn f ps.toList dr body fr st)
theorem gT.qi{s:Machine}{k k':ac Item}{fr:aJ}{ι:bx}{w:d7}{r:cU}{g:aJ->au->cU}(hex:∀id,exitTo id k=exitTo id k')(h:gT X b aP bB s k fr ι w r)
 (aO:∀aR a' w' aA st',cF aR aA a' aP->bz X aR st' w'->fY ι aR w w'->aA.a9=fr.a9->aA.bR=fr.bR->gT X b aP bB (lone (b.at a' k) (bB aA.cD) w') k' aA aR w' (g aA st')):gT X b aP bB s k' fr ι w (qi r g):=by
 cases r with
 |no=>trivial
 |out e aA st'=>
  obtain⟨aR,a',w',h1,h2,ab,aD,bg,cv⟩:=h;cases e with
  |norm=>exact gT.head cv ab aD bg (aO aR a' w' aA st' h1 h2 ab aD bg)
  |exit id=>
   obtain⟨jC,dq,hB⟩:=cv;exact⟨aR,a',w',h1,h2,ab,aD,bg,jC,dq.trans (hex id),hB⟩
  |ret=>exact⟨aR,a',w',h1,h2,ab,aD,bg,cv⟩
  |a9 v=>exact⟨aR,a',w',h1,h2,ab,aD,bg,cv⟩
def gT.cJ{s:Machine}{k:ac Item}{fr:aJ}{ι:bx}{w:d7}{r:cU}{i:Nat}(h1:gT X b aP bB s (.inBlock i::k) fr ι w r):gT X b aP bB s k fr ι w (Gk i r):=by
 cases r with
 |no=>trivial
 |out e aA st'=>
  obtain⟨aR,a',w',h2,ab,aD,bg,cv,dq⟩:=h1;cases e with
  |norm=>exact⟨aR,a',w',h2,ab,aD,bg,cv,Steps.trans dq (.one ati)⟩
  |exit id=>
   obtain⟨jC,hB,jj⟩:=dq;show gT X b aP bB _ k fr ι w (eQ id i (.out .norm aA st') (.out (.exit id) aA st'));rw[pN];by_cases e:id=i
   ·subst e;rw[zab rfl];have pa:exitTo id jC=some k:=by rw[hB];simp[exitTo]
    exact⟨aR,a',w',h2,ab,aD,bg,cv,Steps.trans jj (.one (ath pa))⟩
   ·rw[zaa e];refine⟨aR,a',w',h2,ab,aD,bg,cv,jC,?_,jj⟩;rw[hB];have:¬i=id:=fun h=>e h.symm;simp[exitTo,this]
  |ret=>exact⟨aR,a',w',h2,ab,aD,bg,cv,dq⟩
  |a9 v=>exact⟨aR,a',w',h2,ab,aD,bg,cv,dq⟩
def acX(r:cU):qi r (fun fr st=>.out .norm fr st)=r:=by
 cases r with
 |no=>rfl
 |out e fr st=>cases e<;>rfl
def L4(eh:Good X)(eT:oe X call)(Bi:F7 X call b aP bB)(iI:∃F,X.P.funcs[b.fn]? =some F∧F.ntmps=aP)(cc:Nat):∀(tH:dw) (c:Code) (ι:bx) (fr:aJ) (a:Act) (st:au) (w:d7) (k:ac Item),codeOk X aP tH c=true->
 cF ι fr a aP->bz X ι st w->rA ι fr.bR b.bR->mf b fr.a9 ι bB->
 gT X b aP bB (lone (b.at a (.code c::k)) (bB fr.cD) w) k fr ι w (dA call cc b.fn tH fr st):=by
 obtain⟨Fn,ar,pb⟩:=iI;intro tH
 induction tH with
 |skip=>
  intro c ι fr a st w k hc U hw hb aL;cases c with
  |skip=>exact⟨ι,a,w,U,hw,.refl _ _,rfl,rfl,.one atB⟩
  |label l=>exact⟨ι,a,w,U,hw,.refl _ _,rfl,rfl,.one atl⟩
  |_=>cases hc
 |vz xs=>
  intro c ι fr a st w k hc U hw hb aL;cases c with
  |region id ops draw=>
   cases draw with
   |true=>cases hc
   |false=>
    obtain⟨h1,h2⟩:=abG (hc:zK X aP ops xs ops.toList=true);have:=Pr (b:=b) (bB:=bB) (k:=k) (ops:=ops) (aP:=aP) eT xs (List.range ops.size) ι fr a st w (by simpa using h1) (fun j x i J aa=>by
     have ju:i=j:=by
      obtain⟨hj,he⟩:=zaf.1 aa;simpa using he.symm
     subst ju;have aE:i<ops.size:=by simpa using(zaf.1 aa).1
     exact⟨ops[i],zdD aE,h2 i x _ J (by simp[aE])⟩) U hw hb aL
    exact gT.head (.one atr) (.refl _ _) rfl rfl this
  |_=>cases hc
 |uo L cd ek ms=>
  intro c ι fr a st w k hc U hw hb aL;cases c with
  |region id ops draw=>
   cases draw with
   |false=>cases hc
   |true=>exact agM eh.1 eT (agJ (hc:GX X aP ops L cd ek ms=true)) U hw hb aL
  |_=>cases hc
 |seq x y ann N5=>
  intro c ι fr a st w k hc U hw hb aL;cases c with
  |seq c d=>
   have hc:(codeOk X aP x c&&codeOk X aP y d)=true:=hc;rw[b4]at hc;have h1:=ann c ι fr a st w (.code d::k) hc.1 U hw hb aL;refine gT.head (.one atA) (.refl _ _) rfl rfl (gT.qi (k:=.code d::k) (k':=k) (fun id=>rfl) h1 fun aR a' w' aA st' eJ eL hk hp hn=> ?_);exact N5 d aR aA a' st' w' k hc.2 eJ eL (by rw[hn];exact hb.mono hk.le) (by rw[hp];exact aL.mono hk.le)
  |_=>cases hc
 |cond x y z N5 ano=>
  intro c ι fr a st w k hc U hw hb aL;cases c with
  |cond o c d=>
   have hc:(bT X.az x o&&codeOk X aP y c&&codeOk X aP z d)=true:=hc;simp only[b4]at hc;obtain⟨rfl,ak⟩:=c9 hc.1.1;show gT X b aP bB _ k fr ι w (oc (fr.ai x) (fun t=>_root_.cond t (dA call cc b.fn y fr st) (dA call cc b.fn z fr st)) .no);have aB:=U.ai hw ak;generalize nm:a.eval x=xN at aB;generalize fr.ai x=v at aB;cases v with
   |bool t=>
    cases aB;cases t with
    |true=>exact gT.head (.one (acC nm)) (.refl _ _) rfl rfl (N5 c ι fr a st w k hc.1.2 U hw hb aL)
    |false=>exact gT.head (.one (acC nm)) (.refl _ _) rfl rfl (ano d ι fr a st w k hc.2 U hw hb aL)
   |_=>trivial
  |_=>cases hc
 |block i x a1=>
  intro c ι fr a st w k hc U hw hb aL;cases c with
  |block j c=>
   have hc:(Nat.beq i j&&codeOk X aP x c)=true:=hc;rw[b4]at hc;have e:=e5 hc.1;subst e;have h1:=a1 c ι fr a st w (.inBlock i::k) hc.2 U hw hb aL;refine gT.head (.one ate) (.refl _ _) rfl rfl ?_;exact h1.cJ
  |_=>cases hc
 |loop x a1=>
  intro c ι fr a st w k hc U hw hb aL;cases c with
  |loop c=>
   have hc:codeOk X aP x c=true:=hc;have key:∀(n:Nat) (ι:bx) (fr:aJ) (a:Act) (st:au) (w:d7),cF ι fr a aP->bz X ι st w->rA ι fr.bR b.bR->mf b fr.a9 ι bB->
    gT X b aP bB (lone (b.at a (.code c:: .inLoop c::k)) (bB fr.cD) w) k fr ι w (Nat.rec (motive:=fun _=>aJ->au->cU) (fun _ _=>.no) (fun _ N4 fr st=>Go.ah.qi (dA call cc b.fn x fr st) N4) n fr st):=by
    intro n
    induction n with
    |zero=>intros;trivial
    |succ n anm=>
     intro ι fr a st w U hw hb aL;refine gT.qi (k:=.inLoop c::k) (fun id=>rfl) (a1 c ι fr a st w (.inLoop c::k) hc U hw hb aL) fun aR a' w' aA st' eJ eL hk hp hn=> ?_;exact gT.head (.one atj) (.refl _ _) rfl rfl (anm aR aA a' st' w' eJ eL (by rw[hn];exact hb.mono hk.le) (by rw[hp];exact aL.mono hk.le))
   exact gT.head (.one atm) (.refl _ _) rfl rfl (key cc ι fr a st w U hw hb aL)
  |_=>cases hc
 |Ca f ps dr body _ _=>
  intro c ι fr a st w k hc U hw hb aL;cases c with
  |rangeFunc g dt qq qu=>
   have hc:(bT X.az f g&&zj ps dt.toList&&ps.all (fun t=>Nat.ble (Nat.succ t) aP)&&codeOk X aP dr qq&&codeOk X aP body qu)=true:=hc;simp only[b4]at hc;obtain⟨⟨⟨⟨h1,h2⟩,bg⟩,ab⟩,aD⟩:=hc;rw[zck]at bg;obtain⟨rfl,ak⟩:=c9 h1;have e:=Zd h2;subst e;exact Bi f dt dr body qq qu ι fr a st w k ak (fun t aF=>qt.1 (bg t aF)) ⟨Fn,ar,pb⟩ ((eh.2 _ _ _).2 ⟨Fn,ar,by rw[pb];exact ab⟩) ((eh.2 _ _ _).2 ⟨Fn,ar,by rw[pb];exact aD⟩) U hw hb aL
  |_=>cases hc
 |exit i=>
  intro c ι fr a st w k hc U hw hb aL;cases c with
  |exit j=>
   have e:=e5 (hc:Nat.beq i j=true);subst e;exact⟨ι,a,w,U,hw,.refl _ _,rfl,rfl,k,rfl,.refl _ _⟩
  |_=>cases hc
 |scope x a1=>
  intro c ι fr a st w k hc U hw hb aL;cases c with
  |scope c=>
   have h1:=a1 c ι fr a st w (.inScope c::k) hc U hw hb aL;refine gT.head (.one atz) (.refl _ _) rfl rfl ?_;show gT X b aP bB _ k fr ι w (dA call cc b.fn x fr st);rw[<-acX (dA call cc b.fn x fr st)];exact gT.qi (k:=.inScope c::k) (fun id=>rfl) h1 fun aR a' w' aA st' eJ eL _ _ _=>⟨aR,a',w',eJ,eL,.refl _ _,rfl,rfl,.one atk⟩
  |_=>cases hc
 |ret=>
  intro c ι fr a st w k hc U hw hb aL;cases c with
  |ret=>exact⟨ι,a,w,U,hw,.refl _ _,rfl,rfl,k,.refl _ _⟩
  |_=>cases hc
 |refuse=>intros;trivial
end
def abJ(X:Ctx):jq->ResultVar->Bool
 |.tmp t,.tmp u=>Nat.beq t u
 |.cell a g n,.cell b t=>Nat.beq a b&&(match qp X.P t,g1 X.P t with
  |some hr,some s=>(g==hr)&&(!g||Nat.beq n s)&&(g||Nat.beq n 1)
  |_,_=>false)
 |_,_=>false
def vA(X:Ctx):ac jq->ac ResultVar->Bool
 |[],[]=>true
 |x::xs,r::rs=>abJ X x r&&vA X xs rs
 |_,_=>false
def B9(tmps:ap be):ResultVar->Sem be
 |.tmp t=>pure (tmps.getD t undef)
 |.cell a t=>do loadVar t (<-asAddr (tmps.getD a undef))
section
variable{ι:bx}{fr:aJ}{a:Act}{aP:Nat}{st:au}{w:d7}
variable{out:ac be}
def YJ{α:Type}{a:Addr}{n:Nat}{k:ac be->α}{z r:α}(h:st.load a n k z=r)(av:z≠r):∃vs,k vs=r∧∀{FY:Type} (k':ac be->FY) (z5:FY),st.load a n k' z5=k' vs:=by
 obtain⟨h1,cs,el,bk,a3,h2,ab,aD⟩:=Bu h av;refine⟨_,aD,fun k' z5=> ?_⟩;unfold au.load au.hz;rw[h1,h2];show iE cs a.off n k' z5=_;unfold iE;rw[Dg,FJ,zab ab];rfl
def aoA{t:ce}{x:bi}{ad:Addr}{v:be}(J:a.eval x= .pointer (some ad))(h:(execOp a.eval {(default:Oper)with op:=.load t x}).run X.P w= .ok (.value v) w):(loadVar t ad).run X.P w= .ok v w:=by
 unfold execOp at h;simp only[J,Instr.loadAt,Instr.sureAddr,Sem.run_bind,Sem.run_pure,Result.andThen]at h;generalize(loadVar t ad).run X.P w=r at h;cases r with
 |ok y w'=>simp only[Result.ok.injEq,Next.value.injEq]at h;obtain⟨rfl,rfl⟩:=h;rfl
 |halt e w'=>cases h
def aro{x:jq}{r:ResultVar}(bH:abJ X x r=true)(U:cF ι fr a aP)(hw:bz X ι st w){vs:ac be}
 (h:jq.rec (motive:=fun _=>am (ac be)) (fun t=>some (fr.tmp t::vs))
  (fun a agg n=>jD (fr.tmp a) (fun p=>bm p (fun ad=>st.load ad n (fun cs=>cond agg (some (.agg ⟨cs⟩::vs)) (one cs (fun v=>some (v::vs)) none)) none) none) none) x=some out):
 ∃v v',out=v::vs∧bq ι v v'∧(B9 a.tmps r).run X.P w= .ok v' w:=by
 cases x with
 |tmp t=>
  cases r with
  |tmp u=>
   have e:=e5 (bH:Nat.beq t u=true);subst e;have aC:some (fr.tmp t::vs)=some out:=h;cases aC;exact⟨_,_,rfl,U.tmp t,rfl⟩
  |cell b t=>cases bH
 |cell b g n=>
  cases r with
  |tmp u=>cases bH
  |cell gw t=>
   have bH:(Nat.beq b gw&&(match qp X.P t,g1 X.P t with
    |some hr,some s=>(g==hr)&&(!g||Nat.beq n s)&&(g||Nat.beq n 1)
    |_,_=>false))=true:=bH
   rw[b4]at bH;have e:=e5 bH.1;subst e;have h2:=bH.2;split at h2
   ·rename_i hr s aO af;simp only[b4]at h2;obtain⟨⟨ab,aD⟩,bg⟩:=h2;have HH:g=hr:=by simpa using ab
    subst HH;obtain⟨d,ao,pU⟩:=CQ aO;obtain⟨i,aa,rfl⟩:=nM af;have aC:jD (fr.tmp b) (fun p=>bm p (fun ad=>st.load ad n (fun cs=>cond g (some (.agg ⟨cs⟩::vs)) (one cs (fun v=>some (v::vs)) none)) none) none) none=some out:=h;obtain⟨p,hp,cv⟩:=rp aC (by simp);obtain⟨ad,rfl,dq⟩:=gO cv (by simp);have iH:fr.ai (.tmp b)= .pointer (some ad):=hp;have H0:=U.tmp b;rw[hp]at H0;have alj:a.eval (.tmp b)=a.tmps.getD b undef:=rfl;generalize nm:a.tmps.getD b undef=xN at H0;have fin:∀v v' l',a.tmps.getD b undef= .pointer (some l')->out=v::vs->bq ι v v'->(execOp a.eval {(default:Oper)with op:=.load t (.tmp b)}).run X.P w= .ok (.value v') w->∃v v',out=v::vs∧bq ι v v'∧(B9 a.tmps (.cell b t)).run X.P w= .ok v' w:=by
     intro v v' l' cy ak aB gB;refine⟨v,v',ak,aB,?_⟩;have hh:(loadVar t l').run X.P w= .ok v' w:=aoA (a:=a) (x:=.tmp b) (by rw[alj,cy]) gB;simp only[B9,cy,asAddr,Sem.run_bind,Sem.run_pure,Result.andThen];exact hh
    cases g with
    |true=>
     have hn:n=i.size:=by simpa using aD
     subst hn;obtain⟨cs,hB,jj⟩:=YJ dq (by simp);have akZ:some (.agg ⟨cs⟩::vs)=some out:=hB;cases akZ;have dB:Jl i.size (.tmp b) (fun _ _ _ _=>.no) fr st= .ok (.agg ⟨cs⟩) fr st:=by
      unfold Jl;rw[iH];exact jj (fun vs=>aV.ok (.agg ⟨vs⟩) fr st) .no
     obtain⟨_,_,_,v',gB,aB⟩:=aci (o:={(default:Oper)with op:=.load t (.tmp b)}) rfl rfl ao pU aa U hw dB;cases H0 with
     |ptr _ l hl ft=>exact fin _ v' _ nm rfl aB gB
    |false=>
     have hn:n=1:=by simpa using bg
     subst hn;obtain⟨cs,hB,jj⟩:=YJ dq (by simp);obtain⟨v,rfl,pa⟩:=BP (hB:one cs (fun v=>some (v::vs)) none=some out) (by simp);cases pa;have dB:Jk (.tmp b) (fun _ _ _ _=>.no) fr st= .ok v fr st:=by
      unfold Jk;rw[iH];exact jj (fun vs=>one vs (fun v=>aV.ok v fr st) .no) .no
     obtain⟨_,_,_,v',gB,aB⟩:=ach (o:={(default:Oper)with op:=.load t (.tmp b)}) rfl rfl ao pU U hw dB;cases H0 with
     |ptr _ l hl ft=>exact fin _ v' _ nm rfl aB gB
   ·cases h2
theorem abK(U:cF ι fr a aP)(hw:bz X ι st w):∀(xs:ac jq) (rs:ac ResultVar) (out:ac be),vA X xs rs=true->rN fr st xs=some out->
 ∃gG,bI ι out gG∧(rs.mapM (B9 a.tmps)).run X.P w= .ok gG w
 |[],[],out,_,h=>by
  have aC:some []=some out:=h;cases aC;exact⟨[],bI.nil ι,rfl⟩
 |x::xs,r::rs,out,bH,h=>by
  simp only[vA,b4]at bH;have aC:bm (rN fr st xs) (fun vs=>jq.rec (motive:=fun _=>am (ac be)) (fun t=>some (fr.tmp t::vs))
   (fun a agg n=>jD (fr.tmp a) (fun p=>bm p (fun ad=>st.load ad n (fun cs=>cond agg (some (.agg ⟨cs⟩::vs)) (one cs (fun v=>some (v::vs)) none)) none) none) none) x) none=some out:=h
  obtain⟨vs,jM,h1⟩:=gO aC (by simp);obtain⟨v,v',rfl,aB,gB⟩:=aro bH.1 U hw h1;obtain⟨gG,am0,Ef⟩:=abK U hw xs rs vs bH.2 jM;refine⟨v'::gG,bI.cons aB am0,?_⟩;rw[zdI];simp only[Sem.run_bind,gB,Result.andThen,Ef,Sem.run_pure]
 |[],_::_,_,bH,_=>by simp[vA]at bH
 |_::_,[],_,bH,_=>by simp[vA]at bH
def arq{F:Func}{xs:ac jq}(bH:vA X xs F.results.toList=true)(U:cF ι fr a aP)(hw:bz X ι st w)(h:rN fr st xs=some out):
 ∃v',bq ι (one out (fun v=>v) (.tuple ⟨out⟩)) v'∧(results F a.tmps).run X.P w= .ok v' w:=by
 obtain⟨gG,aB,gB⟩:=abK U hw xs F.results.toList out bH h;have aL:(results F a.tmps)=(do let vs<-F.results.mapM (B9 a.tmps);pure (if h:vs.size=1 then vs[0]else .tuple vs)):=by
  unfold results;congr 2
 rw[aL];have hm:(F.results.mapM (B9 a.tmps)).run X.P w= .ok gG.toArray w:=by
  rw[zeZ];rw[Sem.run_map,gB];rfl
 simp only[Sem.run_bind,hm,Result.andThen,Sem.run_pure];refine⟨_,?_,rfl⟩;cases out with
 |nil=>rw[aB.wR];exact bq.sh (bI.nil ι)
 |cons v vs=>
  obtain⟨y,al,rfl,h1,h2⟩:=aB.cons_inv;cases vs with
  |nil=>rw[h2.wR];exact h1
  |cons v2 auk=>
   obtain⟨Rk,awf,rfl,ab,aD⟩:=h2.cons_inv;rw[dif_neg (by simp)];exact bq.sh (xs:=⟨v::v2::auk⟩) (bI.cons h1 (bI.cons ab aD))
end
def kR(X:Ctx)(ι:bx)(w:d7)(b:ea)(bB:Bool->ac Frame)(s:Machine):eb->Prop
 |.ret v st' e7=>∃aR v' w' F,bq aR v v'∧bz X aR st' w'∧fY ι aR w w'∧F.kind=b.kind∧F.fn=b.fn∧Frame.going X.P F w' (.returned v')∧Steps X.P s (lone F (bB e7) w')
 |.a9 v st' e7=>∃aR v' w' F,bq aR v v'∧bz X aR st' w'∧fY ι aR w w'∧F.kind=b.kind∧F.fn=b.fn∧Frame.going X.P F w' (.panicked [{v:=v',recovered:=false}])∧Steps X.P s (lone F (bB e7) w')
 |.no=>True
def kR.head{ι aR:bx}{w w':d7}{b:ea}{bB:Bool->ac Frame}{s bh:Machine}{r:eb}(h:Steps X.P s bh)(hk:fY ι aR w w')(aC:kR X aR w' b bB bh r):kR X ι w b bB s r:=by
 cases r with
 |no=>trivial
 |ret v st e7=>obtain⟨fF,v',ku,F,h1,h2,ab,aD,bg,cv,dq⟩:=aC;exact⟨fF,v',ku,F,h1,h2,hk.trans ab,aD,bg,cv,h.trans dq⟩
 |a9 v st e7=>obtain⟨fF,v',ku,F,h1,h2,ab,aD,bg,cv,dq⟩:=aC;exact⟨fF,v',ku,F,h1,h2,hk.trans ab,aD,bg,cv,h.trans dq⟩
def xE(X:Ctx)(call:bG):Prop:=
 ∀(ι:bx) (f:ci) (first fK:ap be) (args:ac be) (a9:am be) (st:au) (we pL:ap be) (kz:ac be) (w:d7),
  bI ι first.toList we.toList->bI ι args kz->bI ι fK.toList pL.toList->bz X ι st w->call (.func (.func f) first fK) args a9 st≠.no->
  (∀as w,(callFunc f as).run X.P w= .ok (.enter f as) w)∧
  ∀(K:CallKind) (bB:Bool->ac Frame),mf ⟨f,K,none⟩ a9 ι bB->kR X ι w ⟨f,K,none⟩ bB (lone (Frame.enter X.P f (we++kz.toArray++pL) K) (bB false) w) (call (.func (.func f) first fK) args a9 st)
variable{ι:bx}{m:am be}{md:FrameMode}
def qm(aR:bx):am be->FrameMode->Prop
 |none,m=>m= .returning
 |some v,m=>∃v',bq aR v v'∧m= .panicking [{v:=v',recovered:=false}]
def qm.mono{aR:bx}(hle:ι.le aR)(h:qm ι m md):qm aR m md:=by
 cases m with
 |none=>exact h
 |some v=>obtain⟨v',h1,h2⟩:=h;exact⟨v',h1.mono hle,h2⟩
def qm.Zs(h:qm ι m md):md≠.run:=by
 cases m with
 |none=>rw[show md= .returning from h];simp
 |some v=>obtain⟨v',_,h2⟩:=h;rw[h2];simp
theorem Cp(iI:xE X call):∀(ds:ac Deferred) (m:am be) (st:au) (r:am be×au),kt call ds m st=some r->∀(ι:bx) (w:d7) (F:Frame) (cs:ac Frame),tM ι ds F.defers->qm ι m F.mode->bz X ι st w->
 ∃aR w' md,Steps X.P (lone F cs w) (lone {F with defers:=[],mode:=md} cs w')∧qm aR r.1 md∧bz X aR r.2 w'∧fY ι aR w w'
 |[],m,st,r,h,ι,w,F,cs,ao,hm,hw=>by
  have aC:some (m,st)=some r:=h;cases aC;have ar:F.defers=[]:=by
   cases oy:F.defers with
   |nil=>rfl
   |cons d ds=>rw[oy]at ao;exact ao.elim
  refine⟨ι,w,F.mode,?_,hm,hw,.refl _ _⟩;have:({F with defers:=[],mode:=F.mode}:Frame)=F:=by cases F;simp only at ar;subst ar;rfl
  rw[this];exact .refl _ _
 |⟨t,args⟩::ds,m,st,r,h,ι,w,F,cs,ao,hm,hw=>by
  cases oy:F.defers with
  |nil=>rw[oy]at ao;exact ao.elim
  |cons e es=>
   rw[oy]at ao;obtain⟨⟨alm,wG⟩,kj⟩:=ao;cases t with
   |collected abS=>
    cases het:e.target with
    |collected nf=>
     rw[het]at wG;simp only[kt]at h;split at h
     ·rename_i kX;rw[lk]at h;obtain⟨l,hl,_,_,HP⟩:=hw.fe _ _ kX (by simp);have aq:=wG.symm.trans hl;cases aq;rcases HP with⟨_,Ng⟩|⟨hc,_⟩
      ·have aE:nf<w.heap.size:=hw.hN _ _ hl;have amS:(Instr.takeDeferred nf).run X.P w= .ok [] (w.putObj nf (.deferred none)):=run_takeDeferred Ng;have oF:=step_collected (P:=X.P) (cs:=cs) hm.Zs oy het amS;obtain⟨eL,fs⟩:=hw.xt X kX (by simp) (fun U=>U) hl (.jJ none) (.deferred none) (w.putObj nf (.deferred none)) rfl (fun _ aF=>⟨rfl,rfl,.inr ⟨rfl,aF⟩⟩);obtain⟨aR,w',md,af,aH,aI,bj⟩:=Cp iI ds m _ r h ι _ {F with defers:=[]++es} cs (by simpa using kj) hm eL;exact⟨aR,w',md,.head oF af,aH,aI,fs.trans bj⟩
      ·cases hc
     ·cases h
    |_=>rw[het]at wG;exact wG.elim
   |fn lY fK=>
    cases het:e.target with
    |fn akN pL=>
     rw[het]at wG;obtain⟨A5,DI⟩:=wG;cases lY with
     |func g=>
      rcases A5 with⟨rfl,_⟩|⟨l,b,h1,_⟩
      ·have cb:call (.func (.func g) #[] fK) args.toList m st≠.no:=by
        intro gL;simp only[kt,gL]at h;cases h
       obtain⟨M6,ix⟩:=iI ι g #[] fK args.toList m st #[] pL e.args.toList w (bI.nil ι) alm DI hw cb;have hinv:(invoke e.target e.args).run X.P w= .ok (.enter g (e.args++pL)) w:=by
        rw[het];exact M6 _ _
       have oF:=step_defer (cs:=cs) hm.Zs oy het hinv;have aln:(#[]++e.args.toList.toArray++pL:ap be)=e.args++pL:=by simp
       rw[aln]at ix;cases m with
       |none=>
        have D1:F.mode= .returning:=hm;have wq:=ix .deferred (fun _=>{F with defers:=es}::cs) (fun G e7 eh=>by
         show tryRecover G ({F with defers:=es}::cs)=none;have DE:G.kind= .deferred:=eh;rw[tryRecover_deferred DE];simp[recoverD,D1])
        cases hc:call (.func (.func g) #[] fK) args.toList none st with
        |no=>exact absurd hc cb
        |ret v cm e7=>
         rw[hc]at wq;have aC:kt call ds none cm=some r:=by
          simp only[kt,hc]at h;exact h
         obtain⟨aR,v',w',G,_,eL,hk,HL,_,uK,af⟩:=wq;have qS:=step_going_returned (P:=X.P) (c:={F with defers:=es}) (cs:=cs) HL uK;have uR:settle ({F with defers:=es}:Frame).mode= .returning:=by
          show settle F.mode=_;rw[D1];rfl
         rw[uR]at qS;obtain⟨ll,ku,md,ft,aH,aI,bj⟩:=Cp iI ds none cm r aC aR w' {{F with defers:=es}with mode:=.returning} cs (kj.mono hk.le) (show qm aR none .returning from rfl) eL;exact⟨ll,ku,md,(Steps.head oF af).trans (.head qS ft),aH,aI,hk.trans bj⟩
        |a9 v cm e7=>
         rw[hc]at wq;have aC:kt call ds (some v) cm=some r:=by
          simp only[kt,hc]at h;exact h
         obtain⟨aR,v',w',G,aB,eL,hk,HL,_,uK,af⟩:=wq;have qS:=step_going_panicked (P:=X.P) (c:={F with defers:=es}) (cs:=cs) uK;have uR:raised ({F with defers:=es}:Frame).mode [{v:=v',recovered:=false}]= .panicking [{v:=v',recovered:=false}]:=by
          show raised F.mode _=_;rw[D1];rfl
         rw[uR]at qS;obtain⟨ll,ku,md,ft,aH,aI,bj⟩:=Cp iI ds (some v) cm r aC aR w' {{F with defers:=es}with mode:=.panicking [{v:=v',recovered:=false}]} cs (kj.mono hk.le) ⟨v',aB,rfl⟩ eL;exact⟨ll,ku,md,(Steps.head oF af).trans (.head qS ft),aH,aI,hk.trans bj⟩
       |some tv=>
        obtain⟨oS,Bf,D1⟩:=hm;have wq:=ix .deferred (fun e7=>{F with defers:=es,mode:=.panicking [{v:=oS,recovered:=e7}]}::cs) ⟨oS,Bf,fun G eh=>by
         have DE:G.kind= .deferred:=eh;rw[tryRecover_deferred DE];simp[recoverD],fun G eh=>by
         have DE:G.kind= .deferred:=eh;rw[tryRecover_deferred DE];simp[recoverD]⟩
        have pQ:({F with defers:=es,mode:=.panicking [{v:=oS,recovered:=false}]}:Frame)={F with defers:=es}:=by rw[<-D1]
        rw[pQ]at wq;cases hc:call (.func (.func g) #[] fK) args.toList (some tv) st with
        |no=>exact absurd hc cb
        |ret v cm e7=>
         rw[hc]at wq;obtain⟨aR,v',w',G,_,eL,hk,HL,_,uK,af⟩:=wq;have qS:=step_going_returned (P:=X.P) (c:={F with defers:=es,mode:=.panicking [{v:=oS,recovered:=e7}]}) (cs:=cs) HL uK;cases e7 with
         |true=>
          have aC:kt call ds none cm=some r:=by
           simp only[kt,hc]at h;exact h
          have uR:settle ({F with defers:=es,mode:=.panicking [{v:=oS,recovered:=true}]}:Frame).mode= .returning:=rfl;rw[uR]at qS;obtain⟨ll,ku,md,ft,aH,aI,bj⟩:=Cp iI ds none cm r aC aR w' {{F with defers:=es}with mode:=.returning} cs (kj.mono hk.le) (show qm aR none .returning from rfl) eL;exact⟨ll,ku,md,(Steps.head oF af).trans (.head qS ft),aH,aI,hk.trans bj⟩
         |false=>
          have aC:kt call ds (some tv) cm=some r:=by
           simp only[kt,hc]at h;exact h
          have uR:settle ({F with defers:=es,mode:=.panicking [{v:=oS,recovered:=false}]}:Frame).mode= .panicking [{v:=oS,recovered:=false}]:=rfl;rw[uR]at qS;obtain⟨ll,ku,md,ft,aH,aI,bj⟩:=Cp iI ds (some tv) cm r aC aR w' {{F with defers:=es}with mode:=.panicking [{v:=oS,recovered:=false}]} cs (kj.mono hk.le) ⟨oS,Bf.mono hk.le,rfl⟩ eL;exact⟨ll,ku,md,(Steps.head oF af).trans (.head qS ft),aH,aI,hk.trans bj⟩
        |a9 v cm e7=>
         exfalso;simp only[kt,hc]at h;cases h
      ·cases h1
     |_=>simp[kt]at h
    |_=>rw[het]at wG;exact wG.elim
   |_=>simp[kt]at h
section
variable{P:f5}{b:ea}{a:Act}{k:ac Item}{cs:ac Frame}{w:d7}
def ea.returns(b:ea)(a:Act)(jC:ac Item):Frame:={b.at a jC with mode:=.returning}
def atf(hb:b.bR=none):step P (lone (b.at a []) cs w)= .next (lone (b.returns a []) cs w):=step_lone_go (by simp[stepG,stepG.exec,ea.at,ea.returns,hb])
def att(hb:b.bR=none):step P (lone (b.at a (.code .ret::k)) cs w)= .next (lone (b.returns a (.code .ret::k)) cs w):=step_lone_go (by simp[stepG,stepG.exec,ea.at,ea.returns,hb])
end
theorem Sc:∀(vs:ac be) (i:Nat) (t:an be) (j:Nat),(oi vs i t).get j=if i<=j∧j<i+vs.length then vs[j-i]? else t.get j
 |[],i,t,j=>by rw[zaa (by simp)];rfl
 |v::vs,i,t,j=>by
  show(an.jl (Nat.succ i) t i v fun t=>oi vs (Nat.succ i) t).get j=_;rw[an.zM,Sc vs (Nat.succ i) _ j,an.e8];by_cases e:j=i
  ·subst e;rw[zaa (by omega),zab rfl,zab (by simp)];simp
  ·by_cases h:Nat.succ i<=j∧j<Nat.succ i+vs.length
   ·rw[zab h,zab (by simp only[zax];omega)];obtain⟨h1,_⟩:=h;have:j-i=(j-Nat.succ i)+1:=by omega
    rw[this];simp
   ·rw[zaa h,zaa e,zaa (by simp only[zax];omega)]
def ahc{as as':ac be}{aP:Nat}{a9:am be}{e7:Bool}{bR:am Nat}(h:bI ι as as')(hn:as.length<=aP):
 cF ι ⟨oi as 0 .nil,[],a9,e7,bR⟩ ⟨as'.toArray++Array.replicate (aP-as'.toArray.size) undef,[]⟩ aP:=by
 refine⟨fun t=> ?_,by simp[<-h.1];omega,trivial⟩;show bq ι (Option.rec (motive:=fun _=>be) (.chan (some 0)) (fun v=>v) ((oi as 0 .nil).get t)) _;rw[Sc];by_cases aF:t<as.length
 ·rw[zab ⟨zac _,by omega⟩];have ib:t<as'.length:=by rw[<-h.1];exact aF
  have:=h.2 t aF ib;simp only[Nat.sub_zero,bE aF];have aO:(as'.toArray++Array.replicate (aP-as'.toArray.size) undef).getD t undef=as'[t]:=by
   simp[Array.getElem?_append,ib]
  rw[aO];exact this
 ·rw[zaa (by omega)];exact .top _
section
variable{b:ea}{bB:Bool->ac Frame}{ι:bx}{fr:aJ}{a:Act}{aP:Nat}{st:au}{w:d7}
def MA(iI:xE X call){Fn:Func}{res:ac jq}{F:Frame}(ar:X.P.funcs[b.fn]? =some Fn)(NL:vA X res Fn.results.toList=true)(U:cF ι fr a aP)(hw:bz X ι st w)
 (h1:F.tmps=a.tmps) (h2:F.defers=a.defers) (ab:F.kind=b.kind) (aD:F.fn=b.fn) (hm:qm ι m F.mode):kR X ι w b bB (lone F (bB fr.cD) w) (lx call res m fr st):=by
 unfold lx;cases hu:kt call fr.cW m st with
 |none=>trivial
 |some p=>
  obtain⟨gF,st'⟩:=p;obtain⟨aR,w',md,af,aH,aI,bj⟩:=Cp iI fr.cW m st (gF,st') hu ι w F (bB fr.cD) (by rw[h2];exact U.cW) hm hw;cases gF with
  |some v=>
   obtain⟨v',aB,Nq⟩:=aH;exact⟨aR,v',w',{F with defers:=[],mode:=md},aB,aI,bj,ab,aD,⟨Nq,rfl,Fn,by show X.P.funcs[F.fn]? =_;rw[aD];exact ar⟩,af⟩
  |none=>
   have Nq:md= .returning:=aH;show kR X ι w b bB _ (bm (rN fr st' res) (fun vs=>one vs (fun v=>.ret v st' fr.cD) (.ret (.tuple ⟨vs⟩) st' fr.cD)) .no);cases he:rN fr st' res with
   |none=>trivial
   |some out=>
    have eJ:cF aR ⟨fr.t,[],fr.a9,fr.cD,fr.bR⟩ ⟨a.tmps,[]⟩ aP:=⟨fun t=>(U.tmp t).mono bj.le,U.size,trivial⟩;obtain⟨v',aB,gB⟩:=arq (F:=Fn) NL eJ aI (show rN ⟨fr.t,[],fr.a9,fr.cD,fr.bR⟩ st' res=some out from he);have NC:bm (some out) (fun vs=>one vs (fun v=>eb.ret v st' fr.cD) (.ret (.tuple ⟨vs⟩) st' fr.cD)) .no= .ret (one out (fun v=>v) (.tuple ⟨out⟩)) st' fr.cD:=by
     cases out with
     |nil=>rfl
     |cons x xs=>cases xs<;>rfl
    rw[NC];refine⟨aR,v',w',{F with defers:=[],mode:=md},aB,aI,bj,ab,aD,⟨Nq,rfl,Fn,by show X.P.funcs[F.fn]? =_;rw[aD];exact ar,?_⟩,af⟩;show(results Fn F.tmps).run X.P w'=_;rw[h1];exact gB
structure xD(X:Ctx)(f:ci)(xf:dy)(Fn:Func)(c:Code):Prop where
 fn:X.P.funcs[f]? =some Fn
 body:Fn.body=some c
 aP:Fn.ntmps=xf.aP
 code:codeOk X xf.aP xf.body c=true
 res:vA X xf.res Fn.results.toList=true
 name:(Fn.name== "runtime.NumGoroutine")=false
variable{f:ci}{xf:dy}{Fn:Func}{body:Code}
def xD.enters(h:xD X f xf Fn body)(as:ap be)(w:d7):(callFunc f as).run X.P w= .ok (.enter f as) w:=by
 have hn:=h.name;simp only[callFunc,program,Sem.run_bind];simp[Sem.run,h.fn,h.body,hn,Result.andThen]
def SB(eh:Good X)(eT:oe X call)(iI:xE X call)(Bi:∀b aP bB,b.bR=none->F7 X call b aP bB)(ok:xD X f xf Fn body)(n:Nat){K:CallKind}{as as':ac be}{a9:am be}
 (has:bI ι as as') (hw:bz X ι st w) (aL:mf ⟨f,K,none⟩ a9 ι bB):kR X ι w ⟨f,K,none⟩ bB (lone (Frame.enter X.P f as'.toArray K) (bB false) w) (mJ call n f xf as a9 st):=by
 unfold mJ;rw[p7];split
 ·rename_i hlen;rw[fC]at hlen
  let b:ea:=⟨f,K,none⟩
  have uH:Frame.enter X.P f as'.toArray K=b.at ⟨as'.toArray++Array.replicate (xf.aP-as'.toArray.size) undef,[]⟩ [.code body]:=by
   simp[Frame.enter,ea.at,ok.fn,ok.body,ok.aP,b]
  rw[uH];have H2:=L4 (b:=b) (bB:=bB) eh eT (Bi b xf.aP bB rfl) ⟨Fn,ok.fn,ok.aP⟩ n xf.body body ι ⟨oi as 0 .nil,[],a9,false,none⟩ ⟨as'.toArray++Array.replicate (xf.aP-as'.toArray.size) undef,[]⟩ st w [] ok.code (ahc has hlen) hw (.inl ⟨rfl,rfl⟩) aL;cases iH:dA call n f xf.body ⟨oi as 0 .nil,[],a9,false,none⟩ st with
  |no=>trivial
  |out e aA st'=>
   have alF:dA call n b.fn xf.body ⟨oi as 0 .nil,[],a9,false,none⟩ st= .out e aA st':=iH;rw[alF]at H2;obtain⟨aR,a',w',h1,h2,ab,_,_,cv⟩:=H2;cases e with
   |norm=>
    refine kR.head (Steps.trans cv (.one (atf rfl))) ab ?_;exact MA (b:=b) (a:=a') (F:=b.returns a' []) (aP:=xf.aP) iI ok.fn ok.res h1 h2 rfl rfl rfl rfl (show qm aR none .returning from rfl)
   |exit id=>trivial
   |ret=>
    obtain⟨jC,dq⟩:=cv;refine kR.head (Steps.trans dq (.one (att rfl))) ab ?_;exact MA (b:=b) (a:=a') (F:=b.returns a' (.code .ret::jC)) (aP:=xf.aP) iI ok.fn ok.res h1 h2 rfl rfl rfl rfl (show qm aR none .returning from rfl)
   |a9 v=>
    obtain⟨v',jC,aB,dq⟩:=cv;refine kR.head dq ab ?_;exact MA (b:=b) (a:=a') (F:=b.panics a' jC v') (aP:=xf.aP) iI ok.fn ok.res h1 h2 rfl rfl rfl rfl ⟨v',aB,rfl⟩
 ·trivial
end
def IC{β:Type}{o:am bt}{k:LoopState->am dM->ci->an be->ac Tmp->dw->dw->Nat->β}{z r:β}(h:nA o k z=r)(av:z≠r):
 ∃s gP fn t ps a b d,o=some (.loop s gP fn t ps a b d)∧k s gP fn t ps a b d=r:=by
 unfold nA at h;obtain⟨eK,ak,h1⟩:=gO h av;cases eK<;>first|exact absurd h1 av|exact⟨_,_,_,_,_,_,_,_,ak,h1⟩
section
variable{P:f5}{b:ea}{a:Act}{k:ac Item}{c:Frame}{cs:ac Frame}{w w':d7}{l:Nat}
variable{v:be}
def atd(hb:b.bR=some l)(h:(Instr.beginRound l).run P w= .ok () w'):step P (lone (b.at a (.beginRound::k)) cs w)= .next (lone (b.at a k) cs w'):=
 step_lone_go (by simp[stepG,stepG.exec,stepG.apply,ea.at,hb,h,Result.andThen,Frame.finish])
def atw(hb:b.bR=some l)(hk:b.kind= .normal)(h:(Instr.endRound l none).run P w= .ok v w'):step P (lone (b.at a []) (c::cs) w)= .next (lone (c.finish v) cs w'):=
 step_lone_go (by simp[stepG,stepG.exec,ea.at,hb,hk,h,doReturn])
def aty(hb:b.bR=some l)(hk:b.kind= .normal)(h:(Instr.endRound l (some .ret)).run P w= .ok v w'):step P (lone (b.at a (.code .ret::k)) (c::cs) w)= .next (lone (c.finish v) cs w'):=
 step_lone_go (by simp[stepG,stepG.exec,ea.at,hb,hk,h,doReturn])
def atx{i:Nat}(hb:b.bR=some l)(hk:b.kind= .normal)(J:exitTo i k=none)(h:(Instr.endRound l (some (.exit i))).run P w= .ok v w'):step P (lone (b.at a (.code (.exit i)::k)) (c::cs) w)= .next (lone (c.finish v) cs w'):=
 step_lone_go (by simp[stepG,stepG.exec,ea.at,hb,hk,J,h,doReturn])
end
variable{st:au}{w:d7}{l l':Nat}{s:LoopState}{gP:am dM}{t:an be}{ps:ac Tmp}{dr body:dw}{d:Nat}
theorem aaj{ι:bx}:∀(ps:ac Tmp) (vs gG:ac be) (m:an be) (arr:ap be),(∀n,bq ι (Cn m n) (arr.getD n undef))->bI ι vs gG->vs.length=ps.length->(∀t∈ps,t<arr.size)->
 (∀n,bq ι (Cn (oR ps vs m) n) (((ps.zip gG).foldl (fun tmps (p:Tmp×be)=>tmps.setIfInBounds p.1 p.2) arr).getD n undef))∧((ps.zip gG).foldl (fun tmps (p:Tmp×be)=>tmps.setIfInBounds p.1 p.2) arr).size=arr.size
 |[],_,_,m,arr,h,_,_,_=>⟨h,rfl⟩
 |t::ps,[],_,_,_,_,_,hl,_=>by simp at hl
 |t::ps,v::vs,gG,m,arr,h,aB,hl,aE=>by
  obtain⟨y,al,rfl,h1,h2⟩:=aB.cons_inv;have aF:t<arr.size:=aE t zbF;have oF:∀n,bq ι (Cn (m.set t v) n) ((arr.setIfInBounds t y).getD n undef):=by
   intro n;have hn:=h n;unfold Cn at hn⊢;rw[an.e8];by_cases e:n=t
   ·subst e;rw[zab rfl];have:(arr.setIfInBounds n y).getD n undef=y:=by simp[aF]
    rw[this];exact h1
   ·rw[zaa e];have:(arr.setIfInBounds t y).getD n undef=arr.getD n undef:=by
     simp[zbM (Ne.symm e)]
    rw[this];exact hn
  obtain⟨aH,aI⟩:=aaj ps vs al (m.set t v) (arr.setIfInBounds t y) oF h2 (by simpa using hl) (fun u hu=>by simpa using aE u (zaB _ hu));have hp:oR (t::ps) (v::vs) m=oR ps vs (m.set t v):=by
   show an.jl (Nat.succ t) m t v (fun m=>oR ps vs m)=_;rw[an.zM]
  rw[hp];refine⟨aH,?_⟩;rw[List.zip_cons_cons,List.foldl_cons,aI];simp
def bz.loop(hw:bz X ι st w){fn:ci}(h:st.h.get l=some (.loop s gP fn t ps dr body d))(hl:ι l=some ⟨l',0,0,id⟩):
 ∃L:Loop,w.heap[l']? =some (.loop L)∧L.state=s∧F5 gP L.pending∧L.fn=fn∧(∀n,bq ι (Cn t n) (L.tmps.getD n undef))∧L.params.toList=ps∧X.ok fn L.assign dr∧X.ok fn L.body body∧ι d=some ⟨L.defers,0,0,id⟩∧
  (∃F,X.P.funcs[fn]? =some F∧L.tmps.size=F.ntmps)∧∀t∈ps,t<L.tmps.size:=by
 obtain⟨m,hm,_,_,L,gy⟩:=hw.fe _ _ h (by simp);have e:=hl.symm.trans hm;cases e;exact⟨L,gy⟩
def bz.Ov(hw:bz X ι st w){fn:ci}(h:st.h.get l=some (.loop s gP fn t ps dr body d))(hl:ι l=some ⟨l',0,0,id⟩)
 {L:Loop} (gy:w.heap[l']? =some (.loop L)) (bh:LoopState) (aan:am dM) (jump:am Code) (hj:F5 aan jump):
 bz X ι ⟨st.h.set l (.loop bh aan fn t ps dr body d),st.aj⟩ (w.putObj l' (.loop {L with state:=bh,pending:=jump}))∧fY ι ι w (w.putObj l' (.loop {L with state:=bh,pending:=jump})):=by
 obtain⟨au2,h0,h1,h2,ab,aD,bg,cv,dq,hB,jj,pa⟩:=hw.loop h hl;rw[gy]at h0;cases h0;exact hw.xt X h (by simp) (fun U=>U) hl _ (.loop {L with state:=bh,pending:=jump}) _ rfl fun _ aF=>⟨rfl,rfl,{L with state:=bh,pending:=jump},aF,rfl,hj,ab,aD,bg,cv,dq,hB,jj,pa⟩
section
variable{ι:bx}{st:au}{w:d7}
def aru{b:ea}{aP:Nat}{Fn:Func}{c:Frame}{cs:ac Frame}{s:Machine}{eH:aJ}{aR:bx}{hJ:d7}{r:cU}(pb:X.P.funcs[b.fn]? =some Fn)(yt:b.bR=some l')(A1:b.kind= .normal)(hl:aR l=some ⟨l',0,0,id⟩)
 (h:gT X b aP (fun _=>c::cs) s [] eH aR hJ r):
 match rj l r with
 |.ret v st' _=>∃fF v' w',bq fF v v'∧bz X fF st' w'∧fY aR fF hJ w'∧Steps X.P s (lone (c.finish v') cs w')
 |.a9 v st' _=>∃fF v' w',bq fF v v'∧bz X fF st' w'∧fY aR fF hJ w'∧Steps X.P s (lone (c.raise [{v:=v',recovered:=false}]) cs w')
 |.no=>True:=by
 cases r with
 |no=>trivial
 |out e fr st=>
  obtain⟨fF,a,w,U,hw,hk,_,_,J⟩:=h;have kZ:=hk.le _ _ hl;cases oy:fr.cW with
  |cons d ds=>
   have:rj l (.out e fr st)= .no:=by show List.rec (motive:=fun _=>eb) _ _ fr.cW=_;rw[oy]
   rw[this];trivial
  |nil=>
   have alk:a.defers=[]:=by
    have:=U.cW;rw[oy]at this;cases ha:a.defers with
    |nil=>rfl
    |cons d ds=>rw[ha]at this;exact this.elim
   have key:∀(bh:LoopState) (gP:am dM) (jump:am Code) (v:be),F5 gP jump->
    (∀L,w.heap[l']? =some (.loop L)->∃w',w'=w.putObj l' (.loop {L with state:=bh,pending:=jump})∧Steps X.P s (lone (c.finish v) cs w'))->bq fF v v->
    match nA (st.h.get l) (fun _ _ fn t ps a b d=>st.h3 l (.loop bh gP fn t ps a b d) fun st=>eb.ret v st false) .no with
    |.ret v st' _=>∃fF v' w',bq fF v v'∧bz X fF st' w'∧fY aR fF hJ w'∧Steps X.P s (lone (c.finish v') cs w')
    |.a9 v st' _=>∃fF v' w',bq fF v v'∧bz X fF st' w'∧fY aR fF hJ w'∧Steps X.P s (lone (c.raise [{v:=v',recovered:=false}]) cs w')
    |.no=>True:=by
    intro bh gP jump v hj dz aB;by_cases gL:nA (st.h.get l) (fun _ _ fn t ps a b d=>st.h3 l (.loop bh gP fn t ps a b d) fun st=>eb.ret v st false) .no= .no
    ·rw[gL];trivial
    ·obtain⟨aK,nF,Hf,t0,JA,a0,b0,d0,kX,h1⟩:=IC rfl (fun e=>gL e.symm);rw[<-h1,lk];obtain⟨L,gy,_⟩:=hw.loop kX kZ;obtain⟨w',eL,ft⟩:=dz L gy;obtain⟨aH,aI⟩:=hw.Ov kX kZ gy bh gP jump hj;exact⟨fF,v,w',aB,by rw[eL];exact aH,by rw[eL];exact hk.trans aI,ft⟩
   cases e with
   |norm=>
    have:rj l (.out .norm fr st)=nA (st.h.get l) (fun _ _ fn t ps a b d=>st.h3 l (.loop .ready none fn t ps a b d) fun st=>eb.ret (.bool true) st false) .no:=by
     show List.rec (motive:=fun _=>eb) _ _ fr.cW=_;rw[oy]
    rw[this];exact key .ready none none (.bool true) trivial (fun L gy=>⟨_,rfl,Steps.trans J (.one (atw yt A1 (run_endRound none gy)))⟩) (.bool true)
   |exit i=>
    have:rj l (.out (.exit i) fr st)=nA (st.h.get l) (fun _ _ fn t ps a b d=>st.h3 l (.loop .done (some (.exit i)) fn t ps a b d) fun st=>eb.ret (.bool false) st false) .no:=by
     show List.rec (motive:=fun _=>eb) _ _ fr.cW=_;rw[oy]
    rw[this];obtain⟨jC,amU,bP⟩:=J;exact key .done (some (.exit i)) (some (.exit i)) (.bool false) rfl (fun L gy=>⟨_,rfl,Steps.trans bP (.one (atx yt A1 (by rw[amU];rfl) (run_endRound (some (.exit i)) gy)))⟩) (.bool false)
   |ret=>
    have:rj l (.out .ret fr st)=nA (st.h.get l) (fun _ _ fn t ps a b d=>st.h3 l (.loop .done (some .ret) fn t ps a b d) fun st=>eb.ret (.bool false) st false) .no:=by
     show List.rec (motive:=fun _=>eb) _ _ fr.cW=_;rw[oy]
    rw[this];obtain⟨jC,bP⟩:=J;exact key .done (some .ret) (some .ret) (.bool false) trivial (fun L gy=>⟨_,rfl,Steps.trans bP (.one (aty yt A1 (run_endRound (some .ret) gy)))⟩) (.bool false)
   |a9 v=>
    have:rj l (.out (.a9 v) fr st)= .a9 v st false:=by
     show List.rec (motive:=fun _=>eb) _ _ fr.cW=_;rw[oy]
    rw[this];obtain⟨v',jC,aB,bP⟩:=J;refine⟨fF,v',w,aB,hw,hk,Steps.trans bP (.one (step_leave_panicked (fr:=b.panics a jC v') ⟨rfl,alk,Fn,pb⟩))⟩
def auX(eh:Good X)(eT:oe X call)(Bi:∀b aP bB,F7 X call b aP bB){n:Nat}{args kz:ac be}(hl:ι l=some ⟨l',0,0,id⟩)(ha:bI ι args kz)(hw:bz X ι st w)(cb:z3 call n l args st≠.no):
 ∃fn ts dr body,(Instr.yield l' kz.toArray).run X.P w= .ok (.round l' fn ts dr body) w∧∀c cs,CF X ι w (Frame.round l' fn ts dr body .normal) c cs (z3 call n l args st):=by
 unfold z3 at cb⊢;obtain⟨s,gP,fn,t,ps,dr,body,d,kX,h1⟩:=IC rfl (fun e=>cb e.symm);rw[<-h1]at cb⊢;obtain⟨hlen,h2⟩:=mN rfl (fun e=>cb e.symm);rw[<-h2]at cb⊢;rw[fC,fC]at hlen;obtain⟨L,gy,af,hj,iI,qT,jY,M3,A4,ao,⟨Fn,pb,et⟩,aE⟩:=hw.loop kX hl;have amJ:kz.toArray.size=L.params.size:=by
  have:L.params.size=ps.length:=by rw[<-jY];simp
  rw[this,<-hlen];simpa using ha.1.symm
 refine⟨L.fn,_,L.assign,L.body,run_yield gy amJ,fun c cs=> ?_⟩;subst iI;obtain⟨jO,hZ⟩:=aaj ps args kz t L.tmps qT ha hlen aE;have XT:(L.params.zip kz.toArray).foldl (fun tmps (x:Tmp×be)=>tmps.setIfInBounds x.1 x.2) L.tmps=(ps.zip kz).foldl (fun tmps (p:Tmp×be)=>tmps.setIfInBounds p.1 p.2) L.tmps:=by
  rw[<-Array.foldl_toList,Array.toList_zip,jY]
 let b:ea:=⟨L.fn,.normal,some l'⟩
 let vD:=(L.params.zip kz.toArray).foldl (fun tmps (x:Tmp×be)=>tmps.setIfInBounds x.1 x.2) L.tmps
 have avE:Frame.round l' L.fn vD L.assign L.body .normal=b.at ⟨vD,[]⟩ [.code L.assign,.beginRound,.code L.body]:=rfl;obtain⟨ry,ow,amj⟩:=(eh.2 _ _ _).1 M3;obtain⟨jG,yl,uO⟩:=(eh.2 _ _ _).1 A4;rw[pb]at ow yl;cases ow;cases yl;have U:cF ι ⟨oR ps args t,[],none,false,some l⟩ ⟨vD,[]⟩ Fn.ntmps:=by
  refine⟨fun u=> ?_,?_,trivial⟩
  ·have:=jO u;rw[<-XT]at this;exact this
  ·show vD.size=_;rw[<-et,<-hZ,<-XT]
 have XO:∀a9:am be,a9=none->∀aR,mf b a9 aR (fun _=>c::cs):=by
  rintro _ rfl aR F e7 ar;have dG:F.kind= .normal:=ar;simp[tryRecover,dG]
 have H2:=L4 (b:=b) (bB:=fun _=>c::cs) eh eT (Bi b Fn.ntmps _) ⟨Fn,pb,rfl⟩ n dr L.assign ι ⟨oR ps args t,[],none,false,some l⟩ ⟨vD,[]⟩ st w [.beginRound,.code L.body] amj U hw (.inr ⟨l,l',rfl,rfl,hl⟩) (XO _ rfl ι);have XS:gT X b Fn.ntmps (fun _=>c::cs) (lone (Frame.round l' L.fn vD L.assign L.body .normal) (c::cs) w) [.beginRound,.code L.body] ⟨oR ps args t,[],none,false,some l⟩ ι w (dA call n L.fn dr ⟨oR ps args t,[],none,false,some l⟩ st):=H2;generalize dA call n L.fn dr ⟨oR ps args t,[],none,false,some l⟩ st=lh at XS cb⊢;cases lh with
 |no=>exact absurd rfl cb
 |out e eH cm=>
  obtain⟨aR,gU,hJ,uI,p4,uL,mV,Ec,am4⟩:=XS;cases e with
  |exit _=>exact absurd rfl cb
  |ret=>exact absurd rfl cb
  |a9 _=>exact absurd rfl cb
  |norm=>
   have Be:Cc call n l L.fn body eH cm≠.no:=cb;show CF X ι w _ c cs (Cc call n l L.fn body eH cm);unfold Cc at Be⊢;obtain⟨s1,BW,Dv,t1,E4,CT,CX,d1,Xt,ab⟩:=IC rfl (fun e=>Be e.symm);rw[<-ab]at Be⊢;cases s1 with
   |busy=>exact absurd rfl Be
   |done=>exact absurd rfl Be
   |exhausted=>exact absurd rfl Be
   |ready=>
    have kZ:=uL.le _ _ hl;obtain⟨sF,sW,mr,ns,avq,_⟩:=p4.loop Xt kZ;have iU:(Instr.beginRound l').run X.P hJ= .ok () (hJ.putObj l' (.loop {sF with state:=.busy})):=run_beginRound sW mr;have amM:=atd (P:=X.P) (b:=b) (a:=gU) (k:=[.code L.body]) (cs:=c::cs) rfl iU;obtain⟨Ek,kl⟩:=p4.Ov Xt kZ sW .busy BW sF.pending ns;have amI:=L4 (b:=b) (bB:=fun _=>c::cs) eh eT (Bi b Fn.ntmps _) ⟨Fn,pb,rfl⟩ n body L.body aR eH gU ⟨cm.h.set l (.loop .busy BW Dv t1 E4 CT CX d1),cm.aj⟩ (hJ.putObj l' (.loop {sF with state:=.busy})) [] uO uI Ek (by rw[Ec];exact .inr ⟨l,l',rfl,rfl,kZ⟩) (XO _ mV aR);have Eb:Steps X.P (lone (Frame.round l' L.fn vD L.assign L.body .normal) (c::cs) w) (lone (b.at gU [.code L.body]) (c::cs) (hJ.putObj l' (.loop {sF with state:=.busy}))):=Steps.trans am4 (.one amM);have iW:=uL.trans kl;have uQ:=aru (b:=b) (l:=l) pb rfl rfl kZ amI;show CF X ι w _ c cs (cm.h3 l (.loop .busy BW Dv t1 E4 CT CX d1) fun st=>rj l (dA call n L.fn body eH st));rw[lk];have cZ:dA call n b.fn body eH ⟨cm.h.set l (.loop .busy BW Dv t1 E4 CT CX d1),cm.aj⟩=dA call n L.fn body eH ⟨cm.h.set l (.loop .busy BW Dv t1 E4 CT CX d1),cm.aj⟩:=rfl;rw[cZ]at uQ;generalize rj l (dA call n L.fn body eH ⟨cm.h.set l (.loop .busy BW Dv t1 E4 CT CX d1),cm.aj⟩)=abS at uQ⊢;cases abS with
    |no=>trivial
    |ret v st' e7=>obtain⟨fF,v',w',aH,aI,bj,cn⟩:=uQ;exact⟨fF,v',w',aH,aI,iW.trans bj,Eb.trans cn⟩
    |a9 v st' e7=>obtain⟨fF,v',w',aH,aI,bj,cn⟩:=uQ;exact⟨fF,v',w',aH,aI,iW.trans bj,Eb.trans cn⟩
end
section
variable{P:f5}{b:ea}{a:Act}{k:ac Item}{cs:ac Frame}{w hJ:d7}{f:bi}{ps:ap Tmp}{dr body:Code}{l:Nat}{mark:ac Deferred}
variable{g:ci}
def abN(_hb:b.bR=none):(Frame.eval {fn:=b.fn,tmps:=a.tmps,todo:=.inRangeFunc l::k,defers:=mark++a.defers,mode:=.run,kind:=b.kind,roundOf:=none}) f=a.eval f:=by cases f<;>rfl
def abM{v:be}:a.eval (.const v)=v:=rfl
def atu(hb:b.bR=none)(h:(Instr.enterLoop b.fn a.tmps ps dr body none).run P w= .ok (l,mark) hJ){as:ap be}
 (aL:((do let d<-Deferred.ofValue (a.eval f) #[.func (.yield l) #[] #[]];invoke d.target d.args):Sem Next).run P hJ= .ok (.enter g as) hJ):
 step P (lone (b.at a (.code (.rangeFunc f ps dr body)::k)) cs w)= .next (lone (Frame.enter P g as .normal) (b.at {a with defers:=mark++a.defers} (.inRangeFunc l::k)::cs) hJ):=by
 refine step_lone_go ?_;have mW:=aL;simp only[Sem.run_bind]at mW;simp[stepG,stepG.exec,stepG.apply,ea.at,hb,h,resolve,abN hb,abM,mW]
def atv(hb:b.bR=none)(h:(Instr.enterLoop b.fn a.tmps ps dr body none).run P w= .ok (l,mark) hJ){iB:Nat}{ts:ap be}{Lo LB:Code}
 (aL:((do let d<-Deferred.ofValue (a.eval f) #[.func (.yield l) #[] #[]];invoke d.target d.args):Sem Next).run P hJ= .ok (.round iB g ts Lo LB) hJ):
 step P (lone (b.at a (.code (.rangeFunc f ps dr body)::k)) cs w)= .next (lone (Frame.round iB g ts Lo LB .normal) (b.at {a with defers:=mark++a.defers} (.inRangeFunc l::k)::cs) hJ):=by
 refine step_lone_go ?_;have mW:=aL;simp only[Sem.run_bind]at mW;simp[stepG,stepG.exec,stepG.apply,ea.at,hb,h,resolve,abN hb,abM,mW]
def atg{jump:am Code}(h:(Instr.endLoop l).run P w= .ok jump hJ):step P (lone (b.at a (.endRangeFunc l::k)) cs w)= .next (lone (b.at a ((jump.map Item.code).toList++k)) cs hJ):=
 step_lone_go (by simp[stepG,stepG.exec,ea.at,h])
end
def Qr(eT:oe X call)(b:ea)(aP:Nat)(bB:Bool->ac Frame):F7 X call b aP bB:=by
 intro f ps dr body qq qu ι fr a st w k alL aE pb M3 A4 U hw hb aL;unfold Dr;cases qR:fr.bR with
 |some _=>trivial
 |none=>
  have A3:b.bR=none:=by
   rcases hb with⟨_,h⟩|⟨l,l',h,_⟩
   ·exact h
   ·rw[qR]at h;cases h
  obtain⟨Fn,pb,Ny⟩:=pb;have uH:=run_enterLoop_outer (P:=X.P) (w:=w) b.fn a.tmps ps qq qu;obtain⟨awg,p4,uL,h1,_⟩:=bz.alloc X hw (.jJ (some [])) (.deferred (some [])) 0 (fun aR w' _ _ aF=>⟨rfl,rfl,.inl ⟨rfl,aF⟩⟩) (w.alloc (.deferred (some []))) rfl;have amP:(w.alloc (.deferred (some []))).heap.size=w.heap.size+1:=World.size_alloc _ _
  let L:Loop:={state:=.ready,pending:=none,fn:=b.fn,tmps:=a.tmps,params:=ps,assign:=qq,body:=qu,defers:=w.heap.size}
  obtain⟨KO,Ek,kl,h2,_⟩:=bz.alloc X p4 (.loop .ready none b.fn fr.t ps.toList dr body st.aj) (.loop L) 0 (fun aR w' hle _ aF=>⟨rfl,rfl,L,aF,rfl,trivial,rfl,fun n=>(U.tmp n).mono (uL.le.trans hle),rfl,M3,A4,hle _ _ h1,⟨Fn,pb,by rw[Ny];exact U.size⟩,fun t aF=>by show t<a.tmps.size;rw[U.size];exact aE t aF⟩)
   ((w.alloc (.deferred (some []))).alloc (.loop L)) rfl
  show gT X b aP bB _ k fr ι w (st.j1 (.jJ (some [])) fun r st=>st.j1 (.loop .ready none b.fn fr.t ps.toList dr body r) fun l st=>Cb l ⟨fr.t,{target:=.collected r,args:= #[]}::fr.cW,fr.a9,fr.cD,none⟩ (call (fr.ai f) [.func (.yield l) #[] #[]] none st));rw[g8,g8];have iW:=uL.trans kl;rw[amP]at h2
  let ef:au:=⟨(st.h.set st.aj (.jJ (some []))).set (st.aj+1) (.loop .ready none b.fn fr.t ps.toList dr body st.aj),st.aj+1+1⟩
  let aA:aJ:=⟨fr.t,{target:=.collected st.aj,args:= #[]}::fr.cW,fr.a9,fr.cD,none⟩
  let a':Act:={a with defers:=[{target:=.collected w.heap.size,args:= #[]}]++a.defers}
  have eJ:cF KO aA a' aP:=⟨fun t=>(U.tmp t).mono iW.le,U.size,⟨⟨bI.nil _,kl.le _ _ h1⟩,U.cW.mono iW.le⟩⟩;have am3:bz X KO ef ((w.alloc (.deferred (some []))).alloc (.loop L)):=Ek;have gC:bq KO (.func (.yield (st.aj+1)) #[] #[]) (.func (.yield (w.heap.size+1)) #[] #[]):=bq.Jb (.inr ⟨_,_,rfl,rfl,h2⟩) (bI.nil _) (bI.nil _);show gT X b aP bB _ k fr ι w (Cb (st.aj+1) aA (call (fr.ai f) [.func (.yield (st.aj+1)) #[] #[]] none ef));by_cases gL:call (fr.ai f) [.func (.yield (st.aj+1)) #[] #[]] none ef= .no
  ·rw[gL];trivial
  obtain⟨fS,dz,uP⟩:=eT KO (fr.ai f) [.func (.yield (st.aj+1)) #[] #[]] ef (a.eval f) [.func (.yield (w.heap.size+1)) #[] #[]] _ ((U.ai hw alL).mono iW.le) (bI.cons gC (bI.nil _)) am3 gL;have Eb:step X.P (lone (b.at a (.code (.rangeFunc f ps qq qu)::k)) (bB fr.cD) w)= .next (lone fS (b.at a' (.inRangeFunc (w.heap.size+1)::k)::bB fr.cD) ((w.alloc (.deferred (some []))).alloc (.loop L))):=by
   cases dz with
   |enter g as af=>exact atu A3 uH af
   |round iB g ts Lo LB af=>exact atv A3 uH af
  have ak:=uP (b.at a' (.inRangeFunc (w.heap.size+1)::k)) (bB fr.cD);have jy:aA.a9=fr.a9:=rfl;have jz:aA.bR=fr.bR:=qR.symm;cases hc:call (fr.ai f) [.func (.yield (st.aj+1)) #[] #[]] none ef with
  |no=>exact absurd hc gL
  |a9 v fx e7=>
   rw[hc]at ak;obtain⟨aR,v',w',aB,eL,hk,af⟩:=ak;exact⟨aR,a',w',eJ.mono hk.le,eL,iW.trans hk,jy,jz,v',_,aB,Steps.head Eb af⟩
  |ret v fx e7=>
   rw[hc]at ak;obtain⟨aR,v',w',aB,eL,hk,af⟩:=ak;have ix:(b.at a' (.inRangeFunc (w.heap.size+1)::k)).finish v'=b.at a' (.endRangeFunc (w.heap.size+1)::k):=rfl;rw[ix]at af;have hl:=hk.le _ _ h2;show gT X b aP bB _ k fr ι w (nA (fx.h.get (st.aj+1)) (fun s gP ux t ps a b d=>
    LoopState.rec (motive:=fun _=>cU)
    (fx.h3 (st.aj+1) (.loop .exhausted gP ux t ps a b d) fun st=>bm gP (fun e=>.out e aA st) (.out .norm aA st))
    .no
    (fx.h3 (st.aj+1) (.loop .exhausted gP ux t ps a b d) fun st=>bm gP (fun e=>.out e aA st) (.out .norm aA st))
    .no s) .no)
   generalize NL:nA _ _ _=res;by_cases hn:res= .no
   ·rw[hn];trivial
   obtain⟨aK,nF,Hf,t0,JA,a0,b0,d0,kX,ab⟩:=IC NL (fun e=>hn e.symm);obtain⟨sF,sW,mr,ns,_⟩:=eL.loop kX hl;have key:aK≠.busy->(fx.h3 (st.aj+1) (.loop .exhausted nF Hf t0 JA a0 b0 d0) fun st=>bm nF (fun e=>cU.out e aA st) (.out .norm aA st))=res->gT X b aP bB (lone (b.at a (.code (.rangeFunc f ps qq qu)::k)) (bB fr.cD) w) k fr ι w res:=by
    intro yL he;rw[lk]at he;have yx:(Instr.endLoop (w.heap.size+1)).run X.P w'= .ok sF.pending (w'.putObj (w.heap.size+1) (.loop {sF with state:=.exhausted})):=run_endLoop sW (by rw[mr];exact yL);obtain⟨aH,aI⟩:=eL.Ov kX hl sW .exhausted nF sF.pending ns;have qS:=atg (P:=X.P) (b:=b) (a:=a') (k:=k) (cs:=bB fr.cD) yx;have eI:=(Steps.head Eb af).trans (.one qS);have DS:=(iW.trans hk).trans aI;have DN:=eJ.mono hk.le;cases nF with
    |none=>
     have nq:cU.out .norm aA ⟨fx.h.set (st.aj+1) (.loop .exhausted none Hf t0 JA a0 b0 d0),fx.aj⟩=res:=he;cases hp:sF.pending with
     |some _=>rw[hp]at ns;exact ns.elim
     |none=>
      rw[<-nq];rw[hp]at eI aH DS;exact⟨aR,a',_,DN,aH,DS,jy,jz,eI⟩
    |some e=>
     have nq:cU.out e aA ⟨fx.h.set (st.aj+1) (.loop .exhausted (some e) Hf t0 JA a0 b0 d0),fx.aj⟩=res:=he;rw[<-nq];cases hp:sF.pending with
     |none=>rw[hp]at ns;cases e<;>exact ns.elim
     |some dK=>
      rw[hp]at ns eI aH DS;cases e with
      |norm=>cases dK<;>exact ns.elim
      |a9 v=>cases dK<;>exact ns.elim
      |exit i=>
       cases dK with
       |exit j=>
        have e:i=j:=ns;subst e;exact⟨aR,a',_,DN,aH,DS,jy,jz,k,rfl,eI⟩
       |_=>exact ns.elim
      |ret=>
       cases dK with
       |ret=>exact⟨aR,a',_,DN,aH,DS,jy,jz,k,eI⟩
       |_=>exact ns.elim
   cases aK with
   |ready=>exact key (by simp) ab
   |busy=>exact absurd (ab:cU.no=res).symm hn
   |done=>exact key (by simp) ab
   |exhausted=>exact absurd (ab:cU.no=res).symm hn
end Go.ah
namespace Go.ah
variable{X:Ctx}
def pF(X:Ctx)(bn:an dy):Prop:=∀f xf,bn.get f=some xf->∃Fn c,xD X f xf Fn c
def xH(X:Ctx)(hT:qn):Prop:=
 ∀(f:ci) (as:ac be) (st:au) (r:eb),hT f as st=some r->∀(ι:bx) (as':ac be) (w:d7),bI ι as as'->bz X ι st w->r≠.no->
  (∀as w,(callFunc f as).run X.P w= .ok (.enter f as) w)∧
  ∀(K:CallKind) (bB:Bool->ac Frame),mf ⟨f,K,none⟩ none ι bB->kR X ι w ⟨f,K,none⟩ bB (lone (Frame.enter X.P f as'.toArray K) (bB false) w) r
variable{hT:qn}{n:Nat}
def vU(bn:an dy)(hT:qn)(n:Nat)(f:ci)(first fK:ap be)(args:ac be)(a9:am be)(st:au):
 cG bn hT (n+1) (.func (.func f) first fK) args a9 st=
  bm a9 (fun _=>bm (bn.get f) (fun xf=>mJ (cG bn hT n) n f xf (gJ first.toList (gJ args fK.toList)) a9 st) .no)
   (bm (hT f (gJ first.toList (gJ args fK.toList)) st) (fun r=>r) (bm (bn.get f) (fun xf=>mJ (cG bn hT n) n f xf (gJ first.toList (gJ args fK.toList)) a9 st) .no)):=rfl
def ah1{bn:an dy}(eh:Good X)(kn:pF X bn)(wC:xH X hT)(Et:xE X (cG bn hT n))(oH:oe X (cG bn hT n)):xE X (cG bn hT (n+1)):=by
 intro ι f first fK args a9 st we pL kz w h1 h2 ab hw cb
 rw[vU]at cb⊢;simp only[rF]at cb⊢;have has:bI ι (first.toList++(args++fK.toList)) (we.toList++(kz++pL.toList)):=h1.append (h2.append ab);have Xf:(we.toList++(kz++pL.toList)).toArray=we++kz.toArray++pL:=by
  apply Array.ext';simp
 have A4:∀{K:CallKind} {bB:Bool->ac Frame} (xf:dy),bn.get f=some xf->mf ⟨f,K,none⟩ a9 ι bB->
  kR X ι w ⟨f,K,none⟩ bB (lone (Frame.enter X.P f (we++kz.toArray++pL) K) (bB false) w) (mJ (cG bn hT n) n f xf (first.toList++(args++fK.toList)) a9 st):=by
  intro K bB xf J aL;obtain⟨Fn,c,ok⟩:=kn f xf J;have:=SB eh oH Et (fun b aP bB _=>Qr oH b aP bB) ok n (K:=K) (bB:=bB) has hw aL;rw[Xf]at this;exact this
 have uH:∀xf,bn.get f=some xf->∀as w,(callFunc f as).run X.P w= .ok (.enter f as) w:=by
  intro xf J as w;obtain⟨Fn,c,ok⟩:=kn f xf J;exact ok.enters as w
 cases a9 with
 |some tv=>
  cases J:bn.get f with
  |none=>rw[J]at cb;exact absurd rfl cb
  |some xf=>exact⟨uH xf J,fun K bB aL=>A4 xf J aL⟩
 |none=>
  cases ak:hT f (first.toList++(args++fK.toList)) st with
  |some r=>
   rw[ak]at cb;obtain⟨aH,aI⟩:=wC f _ st r ak ι _ w has hw cb;refine⟨aH,fun K bB aL=> ?_⟩;have:=aI K bB aL;rw[Xf]at this;exact this
  |none=>
   cases J:bn.get f with
   |none=>rw[ak,J]at cb;exact absurd rfl cb
   |some xf=>exact⟨uH xf J,fun K bB aL=>A4 xf J aL⟩
def kR.out{ι:bx}{w:d7}{f:ci}{c:Frame}{cs:ac Frame}{fS:Frame}{r:eb}(h:kR X ι w ⟨f,.normal,none⟩ (fun _=>c::cs) (lone fS (c::cs) w) r):CF X ι w fS c cs r:=by
 cases r with
 |no=>trivial
 |ret v st e7=>
  obtain⟨aR,v',w',F,h1,h2,ab,aD,bg,cv,dq⟩:=h;obtain⟨aH,aI,fn,bj,cn⟩:=cv;exact⟨aR,v',w',h1,h2,ab,Steps.trans dq (.one (step_leave_returned ⟨aH,aI,aD,fn,bj,cn⟩))⟩
 |a9 v st e7=>
  obtain⟨aR,v',w',F,h1,h2,ab,aD,bg,cv,dq⟩:=h;exact⟨aR,v',w',h1,h2,ab,Steps.trans dq (.one (step_leave_panicked cv))⟩
def aeZ{bn:an dy}(eh:Good X)(Et:xE X (cG bn hT (n+1)))(oH:oe X (cG bn hT n)):oe X (cG bn hT (n+1)):=by
 intro ι lY args st Hl kz w A5 ha hw cb;have Nv:=cb;obtain⟨fn,first,fK,rfl,_⟩:=Re (v:=lY) (r:=cG bn hT (n+1) lY args none st) (z:=eb.no) rfl (fun e=>cb e.symm);cases A5 with
 |func _ akN _ al _ vs iI gU hM pG CL=>
  cases fn with
  |func f=>
   rcases iI with⟨rfl,_⟩|⟨l,b,h1,_⟩
   ·obtain⟨uH,ix⟩:=Et ι f first fK args none st al vs kz w (bI.wW gU hM) ha (bI.wW pG CL) hw cb
    refine⟨Frame.enter X.P f (al++kz.toArray++vs) .normal,.enter f _ ?_,fun c cs=>kR.out (ix .normal (fun _=>c::cs) (fun F e7 ar=> ?_))⟩
    ·simp only[Deferred.ofValue,Sem.run_bind,Sem.run_pure,Result.andThen,invoke];exact uH _ _
    ·have dG:F.kind= .normal:=ar;simp[tryRecover,dG]
   ·cases h1
  |yield l=>
   have nr:first.toList=[]:=by
    cases hl:first.toList with
    |nil=>rfl
    |cons x xs=>
     exfalso;apply Nv;show List.rec (motive:=fun _=>eb) _ _ first.toList=_
     rw[hl]
   have pd:fK.toList=[]:=by
    cases hl:fK.toList with
    |nil=>rfl
    |cons x xs=>
     exfalso;apply Nv;show List.rec (motive:=fun _=>eb) (List.rec (motive:=fun _=>eb) _ _ fK.toList) _ first.toList=_
     rw[nr,hl]
   have iH:cG bn hT (n+1) (.func (.yield l) first fK) args none st=z3 (cG bn hT n) n l args st:=by
    show List.rec (motive:=fun _=>eb) (List.rec (motive:=fun _=>eb) _ _ fK.toList) _ first.toList=_
    rw[nr,pd];rfl
   rcases iI with⟨_,gL⟩|⟨ny,b,h1,h2,ab⟩
   ·exact absurd rfl (gL l)
   ·cases h1;subst h2;rw[iH]at cb⊢;obtain⟨fn,ts,dr,body,ay,uP⟩:=auX eh oH (fun b aP bB=>Qr oH b aP bB) ab ha hw cb;refine⟨_,.round b fn ts dr body ?_,uP⟩;have wJ:al= #[]:=by
     have:=(bI.wW gU hM).1;rw[nr]at this;have h0:al.size=0:=by simpa using this.symm
     exact Array.eq_empty_of_size_eq_zero h0
    simp only[Deferred.ofValue,Sem.run_bind,Sem.run_pure,Result.andThen,invoke,wJ];simpa using ay
  |_=>exact absurd rfl Nv
theorem LO{bn:an dy}{hT:qn}(eh:Good X)(kn:pF X bn)(wC:xH X hT):∀n,xE X (cG bn hT n)∧oe X (cG bn hT n)
 |0=>⟨fun ι f first fK args a9 st we pL kz w _ _ _ _ cb=>absurd rfl cb,fun ι lY args st Hl kz w _ _ _ cb=>absurd rfl cb⟩
 |n+1=>by
  obtain⟨h1,h2⟩:=LO eh kn wC n;have ab:=ah1 eh kn wC h1 h2;exact⟨ab,aeZ eh ab h2⟩
end Go.ah
namespace Go.ah
variable{α:Type}
def an.sub(eq:α->α->Bool):an α->an α->Bool
 |.nil,_=>true
 |.node l v r,.nil=>v.isNone&&an.sub eq l .nil&&an.sub eq r .nil
 |.node l v r,.node l' v' ee=>(match v,v' with|none,_=>true|some x,some y=>eq x y|some _,none=>false)&&an.sub eq l l'&&an.sub eq r ee
def an.FG{eq:α->α->Bool}(he:∀x y,eq x y=true->x=y):∀(a b:an α),an.sub eq a b=true->∀n x,a.get n=some x->b.get n=some x
 |.nil,_,_,n,x,h=>by simp at h
 |.node l v r,.nil,af,n,x,h=>by
  simp only[an.sub,b4]at af;exfalso;cases n with
  |zero=>rw[an.yj]at h;rw[h]at af;simp at af
  |succ m=>
   rw[an.qH]at h;split at h
   ·have:=an.FG he l .nil af.1.2 _ x h;simp at this
   ·have:=an.FG he r .nil af.2 _ x h;simp at this
 |.node l v r,.node l' v' ee,af,n,x,h=>by
  simp only[an.sub,b4]at af;cases n with
  |zero=>
   rw[an.yj]at h⊢;subst h;cases v' with
   |none=>simp at af
   |some y=>rw[he x y af.1.1]
  |succ m=>
   rw[an.qH]at h⊢;split at h
   ·rw[zab (by assumption)];exact an.FG he l l' af.1.2 _ x h
   ·rw[zaa (by assumption)];exact an.FG he r ee af.2 _ x h
def AM:ac d9->ac d9->Bool
 |[],[]=>true
 |e::es,f::cj=>dU e.key f.key&&dU e.val f.val&&Nat.beq e.born f.born&&AM es cj
 |_,_=>false
theorem TT:∀(es cj:ac d9),AM es cj=true->es=cj
 |[],[],_=>rfl
 |e::es,f::cj,h=>by
  simp only[AM,b4]at h;obtain⟨⟨⟨h1,h2⟩,ab⟩,aD⟩:=h;cases e;cases f;rw[TT es cj aD];simp only at h1 h2 ab;rw[od _ _ h1,od _ _ h2,eo ab]
 |[],_::_,h=>by simp[AM]at h
 |_::_,[],h=>by simp[AM]at h
def Lg:bt->bt->Bool
 |.map es c,.map ahw bW=>Nat.beq c bW&&AM es ahw
 |.cells cs e bk a3,.cells cs' cK fk DC=>Nat.beq e cK&&Nat.beq bk.1 fk.1&&Nat.beq bk.2 fk.2&&(a3==DC)&&nb cs cs'
 |.jJ none,.jJ none=>true
 |.jJ (some []),.jJ (some [])=>true
 |.dead,.dead=>true
 |_,_=>false
def aem(x y:bt)(h:Lg x y=true):x=y:=by
 unfold Lg at h;split at h
 ·rw[b4]at h;rw[eo h.1,TT _ _ h.2]
 ·simp only[b4]at h;obtain⟨⟨⟨⟨h1,h2⟩,ab⟩,aD⟩,bg⟩:=h;rename_i bk _ _ _ fk _;have aq:bk=fk:=Prod.ext (eo h2) (eo ab);rw[eo h1,aq,zY _ _ bg,zcM aD]
 ·rfl
 ·rfl
 ·rfl
 ·cases h
def au.le(s t:au):Prop:=s.aj=t.aj∧∀n o,s.h.get n=some o->t.h.get n=some o
variable{s t:au}
def au.Iv(s t:au):Bool:=Nat.beq s.aj t.aj&&an.sub Lg s.h t.h
def au.aoc(h:au.Iv s t=true):au.le s t:=by
 unfold au.Iv at h;rw[b4]at h;exact⟨eo h.1,an.FG aem _ _ h.2⟩
def bz.less{X:Ctx}{ι:bx}{w:d7}(hl:au.le s t)(h:bz X ι t w):bz X ι s w:=by
 refine⟨fun id o ak ao=>h.fe id o (hl.2 _ _ ak) ao,fun i j o p l m aa iV hj ia=>h.inj i j o p l m (hl.2 _ _ aa) iV (hl.2 _ _ hj) ia,fun id pe=> ?_,h.hN,h.nW,?_,fun i l o cy af ak ao=>h.oO i l o cy af (hl.2 _ _ ak) ao⟩
 ·have:=h.fresh id (by rw[<-hl.1];exact pe);refine⟨this.1,?_⟩;cases e:s.h.get id with
  |none=>rfl
  |some o=>rw[hl.2 _ _ e]at this;cases this.2
 ·rw[hl.1];exact h.rR
structure Row where
 as:ac be
 st:au
 v:be
 st':au
variable{X:Ctx}
def hf(X:Ctx)(f:ci)(r:Row):Prop:=
 ∀(ι:bx) (as':ac be) (w:d7),bI ι r.as as'->bz X ι r.st w->
  (∀as w,(callFunc f as).run X.P w= .ok (.enter f as) w)∧
  ∀(K:CallKind) (bB:Bool->ac Frame),mf ⟨f,K,none⟩ none ι bB->kR X ι w ⟨f,K,none⟩ bB (lone (Frame.enter X.P f as'.toArray K) (bB false) w) (.ret r.v r.st' false)
variable{v:be}{st':au}
def iD(r:eb)(v:be)(st':au):Bool:=
 eb.rec (motive:=fun _=>Bool) (fun v1 cm e7=>cond e7 false (cond (dU v v1) (au.Iv st' cm) false)) (fun _ _ _=>false) false r
def kR.less{ι:bx}{w:d7}{b:ea}{bB:Bool->ac Frame}{s:Machine}{st:au}{e7:Bool}(hl:au.le st' st)(h:kR X ι w b bB s (.ret v st e7)):kR X ι w b bB s (.ret v st' e7):=by
 obtain⟨aR,v',w',F,h1,h2,ab,aD,bg,cv,dq⟩:=h;exact⟨aR,v',w',F,h1,bz.less hl h2,ab,aD,bg,cv,dq⟩
def afc{r:eb}(h:iD r v st'=true):∃cm,r= .ret v cm false∧au.le st' cm:=by
 cases r with
 |no=>cases h
 |a9 a b c=>cases h
 |ret v1 cm e7=>
  cases e7 with
  |true=>cases h
  |false=>
   have aC:cond (dU v v1) (au.Iv st' cm) false=true:=h;cases aB:dU v v1 with
   |false=>rw[aB]at aC;cases aC
   |true=>
    rw[aB]at aC;exact⟨cm,by rw[od _ _ aB],au.aoc aC⟩
def arz{bn:an dy}{hT:qn}(eh:Good X)(kn:pF X bn)(wC:xH X hT){n:Nat}{f:ci}{r:Row}
 (h:iD (cG bn hT n (.func (.func f) #[] #[]) r.as none r.st) r.v r.st'=true):hf X f r:=by
 obtain⟨cm,he,hl⟩:=afc h;intro ι as' w ha hw;have af:=(LO eh kn wC n).1 ι f #[] #[] r.as none r.st #[] #[] as' w (bI.nil ι) ha (bI.nil ι) hw (by rw[he];intro e;cases e);refine⟨af.1,fun K bB aL=> ?_⟩;have U:=af.2 K bB aL;rw[he]at U;have e:(#[]++as'.toArray++ #[]:ap be)=as'.toArray:=by simp
 rw[e]at U;exact kR.less hl U
end Go.ah
namespace Go.ah
variable{X:Ctx}
