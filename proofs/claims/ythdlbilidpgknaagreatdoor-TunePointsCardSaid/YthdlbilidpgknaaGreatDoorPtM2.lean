/- An abstract machine, and that its evaluations stand for runs of the model (part 2); no condition. -/
import Derived.Laws.StructEq
import Derived.Recover
import Derived.Orders
import Derived.Defers
import Derived.RangeFuncLeaves
import Derived.RangeFuncRecord
import Derived.Test.YthdlbilidpgknaaGreatDoorPtM1
noncomputable section
set_option linter.all false
namespace Go.ak
variable{X:Ctx}
section
variable{ι:bC}{fr aK:aR}{a:Act}{aQ:Nat}{st st':ay}{w:co}{o:Oper}{v:be}{call:bO}
variable{fb:ce}{c8:fN}{t:ce}{m x:bi}{jn:ce}{k:bi}{u:ce}{y:bi}
def asC(ec:X.keys fb=some c8){k:be}(ab:c8.ok k=true)(w:co):(Instr.keyThatStays k k).run X.P w= .ok k w:=by
 obtain⟨K,bE⟩:=X.su fb c8 ec;obtain⟨DQ,xN⟩:=bE k ab;exact K.stays w xN
def toList_modify(C:ap d8)(j:Nat)(f:d8->d8){c:d8}(h:C.toList[j]? =some c):(C.modify j f).toList=C.toList.set j (f c):=by
 obtain⟨hj,hc⟩:=zah.1 h;apply List.ext_getElem
 ·simp
 ·intro i J U;rw[List.getElem_set];simp only[zaC,Array.getElem_modify];by_cases e:j=i
  ·subst e;simp only[if_true];rw[<-hc];rfl
  ·rw[zaa e,zaa e]
def fN.pure{v':be}(h:c8.ok v=true)(hr:bs ι v v'):bs ι v v:=by
 have:=fN.same h hr;rw[this]at hr;exact hr
def abv(hm:cC X.aD m=true)(ab:cC X.aD k=true)(aa:cC X.aD x=true)(ao:o.op= .mapUpdate t m k x∨o.op= .insert t m k x)(hu:X.P.underlying t=some (.map fb jn))
 (ec:X.keys fb=some c8) (ae:cz ι fr a aQ) (hw:bx X ι st w) (h:mU fr st (.gL c8 m k x)= .ok v aK st'):aK=fr∧jA X ι w v st' (execOp a.eval o):=by
 obtain⟨h1,h⟩:=iv h (by simp);obtain⟨r,hr,h⟩:=E2 h (by simp);obtain⟨id,rfl,h⟩:=fp h (by simp);obtain⟨es,c,aO,h⟩:=Ax h (by simp);obtain⟨q6,h⟩:=iv h (by simp);have G7:=ae.aj hw ab;have vG:a.eval k=fr.aj k:=fN.same h1 G7;have iO:=ae.aj hw hm;have cV:=ae.aj hw aa;rw[hr]at iO;generalize k5:a.eval m=lR at iO;obtain⟨l,hl,h0,j7,C,b6,hC,dm⟩:=hw.eD _ _ aO (by simp);cases iO with
 |map _ b ca hb=>
  rw[hl]at hb;cases hb;have hC:w.heap[b]? =some (.map C b6):=hC;have dm:kk ι ca es c C.toList b6:=dm;have hex:∀w',(Instr.mapUpdate t (.map (some b)) (fr.aj k) (a.eval x)).run X.P w= .ok () w'->(execOp a.eval o).run X.P w= .ok .skip w':=by
   intro w' fQ;unfold execOp;rcases ao with ao|ao<;>(rw[ao];simp only[k5,vG];simp[fQ,Result.andThen])
  rcases dm.find (X:=X) ec h1 q6 w with⟨J,U,_⟩|⟨e,j,oU,J,U,af,ax,a0,ck,dx,gF⟩
  ·rw[U]at h;have h:st.g3 id (.map (es++[⟨fr.aj k,fr.aj x,c⟩]) (Nat.succ c)) (fun st=>aX.ok undef fr st)= .ok v aK st':=h;rw[jT]at h;cases h;have fQ:(Instr.mapUpdate t (.map (some b)) (fr.aj k) (a.eval x)).run X.P w= .ok () {w with heap:=w.heap.setIfInBounds b (.map (C.push {key:=fr.aj k,val:=a.eval x,born:=b6}) (b6+1))}:=by
    simp only[Instr.mapUpdate,Sem.run_bind,run_underlying hu,Result.andThen,MapKept.run_getObj_map hC,xb ec h1,J,MapKept.run_setObj_map _ hC]
   obtain⟨a5,bD⟩:=bx.uS X hw aO (by simp) (fun ae=>ae) hl (.map (es++[⟨fr.aj k,fr.aj x,c⟩]) (Nat.succ c)) (.map (C.push {key:=fr.aj k,val:=a.eval x,born:=b6}) (b6+1)) {w with heap:=w.heap.setIfInBounds b (.map (C.push {key:=fr.aj k,val:=a.eval x,born:=b6}) (b6+1))} rfl
    (fun _ aV=>⟨rfl,rfl,_,_,aV,by
     have:=dm.push (fN.pure h1 G7) U cV;simpa using this⟩)
   exact⟨rfl,ι,.skip,_,hex _ fQ,.inr ⟨rfl,rfl⟩,a5,bD⟩
  ·rw[ax]at h;have h:st.g3 id (.map (Ay (fr.aj k) (fr.aj x) es) c) (fun st=>aX.ok undef fr st)= .ok v aK st':=h;rw[jT]at h;cases h;have hj:C[j]? =some oU:=by rw[<-Array.getElem?_toList];exact U
   have fQ:(Instr.mapUpdate t (.map (some b)) (fr.aj k) (a.eval x)).run X.P w= .ok () {w with heap:=w.heap.setIfInBounds b (.map (C.modify j fun e=>{e with key:=fr.aj k,val:=a.eval x}) b6)}:=by
    simp only[Instr.mapUpdate,Sem.run_bind,run_underlying hu,Result.andThen,MapKept.run_getObj_map hC,xb ec h1,J,MapKept.run_setObj_map _ hC,hj,Option.map_some,zdx,af,asC ec h1]
   obtain⟨a5,bD⟩:=bx.uS X hw aO (by simp) (fun ae=>ae) hl (.map (Ay (fr.aj k) (fr.aj x) es) c) (.map (C.modify j fun e=>{e with key:=fr.aj k,val:=a.eval x}) b6) {w with heap:=w.heap.setIfInBounds b (.map (C.modify j fun e=>{e with key:=fr.aj k,val:=a.eval x}) b6)} rfl
    (fun _ aV=>⟨rfl,rfl,_,_,aV,by
     rw[toList_modify C j _ U];exact dm.put q6 U af cV⟩)
   exact⟨rfl,ι,.skip,_,hex _ fQ,.inr ⟨rfl,rfl⟩,a5,bD⟩
def ark(hm:cC X.aD m=true)(ab:cC X.aD k=true)(ao:o.op= .call {callee:=.builtin .delete,args:= #[m,k],argTypes:= #[t,u]})(hu:X.P.underlying t=some (.map fb jn))
 (ec:X.keys fb=some c8) (ae:cz ι fr a aQ) (hw:bx X ι st w) (h:mU fr st (.del c8 m k)= .ok v aK st'):aK=fr∧jA X ι w v st' (execOp a.eval o):=by
 obtain⟨h1,h⟩:=iv h (by simp);obtain⟨r,hr,h⟩:=E2 h (by simp);obtain⟨id,rfl,h⟩:=fp h (by simp);obtain⟨es,c,aO,h⟩:=Ax h (by simp);obtain⟨q6,h⟩:=iv h (by simp);rw[jT]at h;cases h;have G7:=ae.aj hw ab;have vG:a.eval k=fr.aj k:=fN.same h1 G7;have iO:=ae.aj hw hm;rw[hr]at iO;generalize k5:a.eval m=lR at iO;obtain⟨l,hl,h0,j7,C,b6,hC,dm⟩:=hw.eD _ _ aO (by simp);cases iO with
 |map _ b ca hb=>
  rw[hl]at hb;cases hb;have hC:w.heap[b]? =some (.map C b6):=hC;have dm:kk ι ca es c C.toList b6:=dm;rcases dm.find (X:=X) ec h1 q6 w with⟨J,U,_⟩|⟨e,j,oU,J,U,af,ax,a0,ck,dx,gF⟩
  ·have om:Aw (fr.aj k) es=es:=by
    unfold Aw;rw[List.filter_eq_self];intro e he;have:=Nx U e he;cases aI:dC (fr.aj k) e.key
    ·rfl
    ·exact absurd (ng _ _ aI).symm this
   obtain⟨a5,bD⟩:=bx.uS X hw aO (by simp) (fun ae=>ae) hl (.map (Aw (fr.aj k) es) c) (.map C b6) {w with heap:=w.heap.setIfInBounds b (.map C b6)} rfl (fun _ aV=>⟨rfl,rfl,_,_,aV,by rw[om];exact dm⟩);refine⟨rfl,ι,.value (.tuple #[]),_,?_,.inl ⟨_,rfl,bs.po (bM.nil ι)⟩,a5,bD⟩;unfold execOp;rw[ao];simp[resolve,invoke,builtin,k5,vG,Builtin.delete_,run_underlying hu,Result.andThen,MapKept.run_getObj_map hC,xb ec h1,J,MapKept.run_setObj_map _ hC]
  ·obtain⟨a5,bD⟩:=bx.uS X hw aO (by simp) (fun ae=>ae) hl (.map (Aw (fr.aj k) es) c) (.map (C.eraseIdxIfInBounds j) b6) {w with heap:=w.heap.setIfInBounds b (.map (C.eraseIdxIfInBounds j) b6)} rfl (fun _ aV=>⟨rfl,rfl,_,_,aV,by
    have:=dm.del q6 U af;rw[Array.toList_eraseIdxIfInBounds];exact this⟩)
   refine⟨rfl,ι,.value (.tuple #[]),_,?_,.inl ⟨_,rfl,bs.po (bM.nil ι)⟩,a5,bD⟩;unfold execOp;rw[ao];simp[resolve,invoke,builtin,k5,vG,Builtin.delete_,run_underlying hu,Result.andThen,MapKept.run_getObj_map hC,xb ec h1,J,MapKept.run_setObj_map _ hC]
def arK(hm:cC X.aD m=true)(ao:o.op= .range t m)(hu:X.P.underlying t=some (.map fb jn))(ae:cz ι fr a aQ)(hw:bx X ι st w)
 (h:mU fr st (.AD m)= .ok v aK st'):aK=fr∧jA X ι w v st' (execOp a.eval o):=by
 obtain⟨r,hr,h⟩:=E2 h (by simp);have iO:=ae.aj hw hm;rw[hr]at iO;generalize k5:a.eval m=lR at iO;cases r with
 |none=>
  cases iO;have h:st.iT (.uj none 0 [] 0) (fun id st=>aX.ok (.pointer (some ⟨id,0,none⟩)) fr st)= .ok v aK st':=h;rw[gw]at h;cases h;obtain⟨aU,a5,bD,dt,nJ⟩:=bx.alloc X hw (.uj none 0 [] 0) (.mapIter none 0 #[] 0) 0 (fun aU w' _ _ aV=>⟨rfl,rfl,_,_,_,_,aV,.inl ⟨rfl,rfl⟩⟩) {w with heap:=w.heap.push (.mapIter none 0 #[] 0)} rfl;refine⟨rfl,aU,.value (.pointer (some ⟨w.heap.size,0,none⟩)),_,?_,.inl ⟨_,rfl,?_⟩,a5,bD⟩
  ·unfold execOp;rw[ao];simp[k5,Instr.range,run_underlying hu,Result.andThen]
  ·exact bs.ptr ⟨st.al,0,none⟩ _ dt rfl
 |some id=>
  have h:rq (st.h.get id) (fun _ clock=>st.iT (.uj (some id) clock [] clock) fun id st=>aX.ok (.pointer (some ⟨id,0,none⟩)) fr st) .no= .ok v aK st':=h;obtain⟨es,c,aO,h⟩:=Ax h (by simp);rw[gw]at h;cases h;obtain⟨l,hl,h0,j7,C,b6,hC,dm⟩:=hw.eD _ _ aO (by simp);cases iO with
  |map _ b ca hb=>
   rw[hl]at hb;cases hb;have hC:w.heap[b]? =some (.map C b6):=hC;have dm:kk ι ca es c C.toList b6:=dm;obtain⟨aU,a5,bD,dt,nJ⟩:=bx.alloc X hw (.uj (some id) c [] c) (.mapIter (some b) b6 #[] b6) 0
    (fun aU w' hle _ aV=>⟨rfl,rfl,_,_,_,_,aV,.inr ⟨id,b,ca,rfl,rfl,hle _ _ hl,dm.tq,rfl,dm.tq⟩⟩) {w with heap:=w.heap.push (.mapIter (some b) b6 #[] b6)} rfl
   refine⟨rfl,aU,.value (.pointer (some ⟨w.heap.size,0,none⟩)),_,?_,.inl ⟨_,rfl,?_⟩,a5,bD⟩
   ·unfold execOp;rw[ao];simp[k5,Instr.range,run_underlying hu,Result.andThen,MapKept.run_getObj_map hC]
   ·exact bs.ptr ⟨st.al,0,none⟩ _ dt rfl
def kk.asA{ca:Nat->Nat}{es:ac d8}{clock:Nat}{C:ac d8}{ko:Nat}(h:kk ι ca es clock C ko){s:Nat}(ai:s<clock){e:d8}(he:es.find? (fun e=>Nat.beq e.born s)=some e):
 ∃c,C.find? (fun c=>c.born==ca s)=some c∧bs ι e.key c.key∧bs ι e.val c.val:=by
 obtain⟨l,hp,hlen,hl⟩:=h.same;have hq:=zdA he;have hb:e.born=s:=eL hq;have hm:=zdz he;obtain⟨i,hi,gH⟩:=zdB (hp.mem_iff.2 hm);have dX:i<C.length:=by omega
 cases ae:C.find? (fun c=>c.born==ca s)with
 |none=>
  exfalso;have:=List.find?_eq_none.1 ae C[i] (ea dX);have af:=(hl i hi dX).2.2;rw[gH,hb]at af;rw[af]at this;simp at this
 |some c=>
  have Wn:c.born=ca s:=by simpa using zdA ae
  obtain⟨k,ab,WH⟩:=zdB (zdz ae);have fh:k<l.length:=by omega
  have af:=hl k fh ab;have ax:l[k].born<clock:=h.born _ (hp.mem_iff.1 (ea fh));have a0:ca l[k].born=ca s:=by rw[<-af.2.2,WH,Wn]
  have ck:=h.Br.inj _ _ ax ai a0;have qb:l.Pairwise (fun a b=>a.born≠b.born):=(hp.symm.pairwise_iff (R:=fun a b:d8=>a.born≠b.born) (fun{a b} h=>h.symm)).1 h.zp;have ak9:i=k:=by
   rcases zcE i k with g|g|g
   ·exact absurd (by rw[gH,hb,ck]) (zcX.1 qb i k hi fh g)
   ·exact g
   ·exact absurd (by rw[gH,hb,ck]) (zcX.1 qb k i fh hi g)
  subst ak9;rw[gH,WH]at af;exact⟨c,rfl,af.1,af.2.1⟩
def aqw{P:d9}{r:Nat}{m:am Nat}{a:Nat}{s:ap Nat}{b:Nat}(hb:w.heap[r]? =some (.mapIter m a s b)):(getObj r).run P w= .ok (.mapIter m a s b) w:=by
 simp[getObj,Sem.run,hb]
def arE{i:bi}(hi:cC X.aD i=true)(ao:o.op= .entry i)(ae:cz ι fr a aQ)(hw:bx X ι st w)
 (h:mU fr st (.Az i)= .ok v aK st'):aK=fr∧cg X ι w v st st' (execOp a.eval o):=by
 obtain⟨p,hp,aM⟩:=pE h (by simp);obtain⟨ad,MD,aN⟩:=fp aM (by simp);obtain⟨ai,bf⟩:=yt aN (fun _=>by simp);obtain⟨h0,cb⟩:=k3 bf (by simp);obtain⟨m,since,seen,Bx,aO,cQ⟩:=amT cb (by simp);obtain⟨id,alm,ei⟩:=fp cQ (by simp);obtain⟨s,kx,gn⟩:=fp ei (by simp);obtain⟨es,clock,se,od⟩:=Ax gn (by simp);obtain⟨J,r9⟩:=k3 od (by simp);obtain⟨U,vw⟩:=iB r9 (by simp);obtain⟨e,he,Gw⟩:=fp vw (by simp);clear h aM aN bf cb cQ ei gn od r9 vw;subst MD alm;cases Gw;have nD:=ae.aj hw hi;rw[hp]at nD;generalize jb:a.eval i=lN at nD;obtain⟨l,hl,kd,eW,fi,Po,Bp,HJ,b8,aks⟩:=hw.eD _ _ aO (by simp);rcases aks with⟨hh,_⟩|⟨r,b,ca,aw,e2,bW,e6,ma,Gb⟩
 ·cases hh
 ·cases aw;subst e2;obtain⟨lm,alh,XZ,fc,C,b6,hC,dm⟩:=hw.eD _ _ se (by simp);rw[alh]at bW;cases bW;have hC:w.heap[b]? =some (.map C b6):=hC;have dm:kk ι ca es clock C.toList b6:=dm;cases nD with
  |ptr _ l' cn eZ=>
   rw[hl]at cn;cases cn;obtain⟨c,sd,mg,L3⟩:=dm.asA U he;have xE:Bp.back?=some (ca s):=by
    have:Bp.back?=Bp.toList.getLast?:=by simp
    rw[this,ma,List.getLast?_map];rw[show seen.getLast?=some s from kx];rfl
   have tF:b6=HJ:=by rw[dm.tq,Gb,J]
   have akT:C.find? (fun x=>x.born==ca s)=some c:=by rw[<-Array.find?_toList];exact sd
   refine⟨rfl,cg.same (v':=.tuple #[c.key,c.val]) hw ?_ (bs.po (bM.cons mg (bM.cons L3 (bM.nil ι))))⟩;unfold execOp;rw[ao];have iP:l.sh+ad.off=0:=by rw[kd,h0]
   simp only[jb,iP,Instr.entry,Sem.run_bind,aqw b8,Result.andThen,xE,Sem.run_pure,MapKept.run_getObj_map hC];simp[tF,akT]
def are{f:ci}{ts:ap ce}(aa:cC X.aD x=true)(aF:cC X.aD y=true)(eU:X.pS f=true)(ao:o.op= .call {callee:=.value (.func f),args:= #[x,y],argTypes:=ts})(ae:cz ι fr a aQ)(hw:bx X ι st w)
 (h:mU fr st (.bn x y)= .ok v aK st'):aK=fr∧cg X ι w v st st' (execOp a.eval o):=by
 obtain⟨s,ai,aM⟩:=oF h (by simp);obtain⟨k,oU,hc,aN⟩:=iW aM (by simp);obtain⟨ab,bf⟩:=iv aN (by simp);obtain⟨c,aw,cb⟩:=lS bf (by simp);have fh:=sv ab;clear h aM aN bf;subst aw fh;have cV:=ae.aj hw aa;rw[ai]at cV;generalize cu:a.eval x=e3 at cV;have fm:=ae.aj hw aF;rw[hc]at fm;generalize fR:a.eval y=qF at fm;cases cV;cases fm;cases cb;refine⟨rfl,cg.same (v':=.int .i64 (.ofNat (s.data.toList.countP (fun b=>b==UInt8.ofNat c)))) hw ?_ (.int _ _)⟩;rw[CF ao];have:=X.Cj f eU s (c:Int) w;simp only[zcq,zaR,zbY,cu,fR];rw[this];rfl
def arl{neg:Bool}{n:Nat}(aa:cC X.aD x=true)(aF:cC X.aD y=true)(g0:X.eqs t=some n)(ao:o.op= .binOp (if neg then .neq else .eql) t x y u)(ae:cz ι fr a aQ)(hw:bx X ι st w)
 (h:mU fr st (.qW neg n x y)= .ok v aK st'):aK=fr∧cg X ι w v st st' (execOp a.eval o):=by
 obtain⟨xs,x3,h⟩:=BF h (by simp);obtain⟨av,vS,h⟩:=BF h (by simp);obtain⟨J,h⟩:=k3 h (by simp);obtain⟨U,h⟩:=k3 h (by simp);obtain⟨b,hb,h⟩:=fp h (by simp);cases h;rw[fo]at J U;have J:xs.toList.length=n%100+n/100:=J;have U:av.toList.length=n%100+n/100:=U;have hb:kL (n%100) xs.toList av.toList=some b:=hb;have plain:∀(l m:ac be) (j:Nat) (b:Bool),kL j l m=some b->∀(i:Nat) (hi:i<l.length) (hj:i<m.length) (u v:be),(bs ι l[i] u->u=l[i])∧(bs ι m[i] v->v=m[i]):=by
  intro l
  induction l with
  |nil=>intro m j b _ i hi;simp at hi
  |cons p ps a8=>
   intro m j b hb i hi hj u v;cases m with
   |nil=>simp at hj
   |cons q dh=>
    unfold kL at hb;obtain⟨cD,gR,o7⟩:=fp (z:=none) (r:=some b) hb (by simp);cases i with
    |zero=>
     simp only[List.getElem_cons_zero];unfold Lo Ge Gd at gR;split at gR<;>split at gR<;>first|(cases gR;done)|exact⟨fun hr=>by cases hr;rfl,fun hr=>by cases hr;rfl⟩
    |succ i=>
     simp only[List.getElem_cons_succ];have:∃fU,kL (j-1) ps dh=some fU:=by
      cases cD
      ·obtain⟨fU,cY,_⟩:=fp (z:=none) (r:=some b) o7 (by simp);exact⟨fU,cY⟩
      ·exact⟨b,o7⟩
     obtain⟨fU,cY⟩:=this;exact a8 dh _ fU cY i (by simpa using hi) (by simpa using hj) u v
 have ie:=plain _ _ _ _ hb;have cV:=ae.aj hw aa;rw[x3]at cV;generalize cu:a.eval x=e3 at cV;have fm:=ae.aj hw aF;rw[vS]at fm;generalize fR:a.eval y=qF at fm;cases cV with
 |agg _ uZ fC gO=>
  cases fm with
  |agg _ iZ cD db=>
   have amh:uZ=xs:=by
    apply Array.ext
    ·exact fC.symm
    ·intro i c d;have:=(ie i (by simpa using d) (by simp;simp at J U;omega) uZ[i] uZ[i]).1 (by simpa using gO i d c);simpa using this
   have amk:iZ=av:=by
    apply Array.ext
    ·exact cD.symm
    ·intro i c d;have:=(ie i (by simp;simp at J U;omega) (by simpa using d) iZ[i] iZ[i]).2 (by simpa using db i d c);simpa using this
   subst amh amk;obtain⟨Ww,heq⟩:=X.xr t n g0;have hq:=heq uZ iZ b w (by simpa using J) (by simpa using U) hb;refine⟨rfl,cg.same (v':=.bool (cond neg (!b) b)) hw ?_ (.bool _)⟩;unfold execOp;rw[ao];cases neg
   ·simp only[cu,fR,zaU,if_false];have aO:(eqGuard .eql t x y (.agg uZ) (.agg iZ)).run X.P w= .ok () w:=by
     simp[eqGuard,program,Sem.run,Ww]
    simp[aO,run_eql_struct,hq,Result.andThen]
   ·simp only[cu,fR,if_true];have aO:(eqGuard .neq t x y (.agg uZ) (.agg iZ)).run X.P w= .ok () w:=by
     simp[eqGuard,program,Sem.run,Ww]
    simp[aO,run_neq_struct,hq,Result.andThen]
end
variable{ι:bC}{y:be}
def bs.D8{c:Nat}(h:bs ι (.chan (some c)) y)(hc:c≠0):∃m,y= .int .i64 m∧PK c m:=by
 generalize aI:Value.chan (some c)=v at h;cases h with
 |iE b6 m h=>cases aI;exact⟨m,rfl,h⟩
 |top _=>unfold h7 at aI;cases aI;exact absurd rfl hc
 |_=>cases aI
def Rq{n:Nat}{v:be}{b:Bool}(h:Ch n v=some b)(hr:bs ι v y):∃m:Int,y= .int .i64 m∧b=decide ((n:Int)<=m):=by
 unfold Ch at h;split at h
 ·rename_i c;split at h
  ·rename_i U;split at h
   ·rename_i af;cases h;obtain⟨m,rfl,hu⟩:=hr.D8 (by omega);refine⟨m,rfl,?_⟩;have:(n:Int)<=m:=by
     rcases hu with hu|⟨k,ab,hm⟩|⟨k,ab,hm⟩<;>omega
    simp[this]
   ·cases h
  ·rename_i U;split at h
   ·rename_i af;cases h;obtain⟨m,rfl,hu⟩:=hr.D8 (by omega);refine⟨m,rfl,?_⟩;have:¬(n:Int)<=m:=by
     rcases hu with hu|⟨k,ab,hm⟩|⟨k,ab,hm⟩<;>omega
    simp[this]
   ·cases h
 ·cases h
section
variable{ι:bC}{fr aK:aR}{a:Act}{aQ:Nat}{st st':ay}{w:co}{o:Oper}{v:be}{call:bO}
variable{x:bi}
def ard{gt:Bool}{y:bi}{t u:ce}(aa:cC X.aD x=true)(aF:cC X.aD y=true)(ao:o.op= .binOp (if gt then .gtr else .leq) t x y u)(ae:cz ι fr a aQ)(hw:bx X ι st w)
 (h:mU fr st (.xe gt x y)= .ok v aK st'):aK=fr∧cg X ι w v st st' (execOp a.eval o):=by
 obtain⟨k,sB,x3,J⟩:=iW h (by simp);obtain⟨ab,U⟩:=iv J (by simp);obtain⟨n,hn,af⟩:=lS U (by simp);obtain⟨b,hb,ax⟩:=fp af (by simp);have fh:=sv ab;subst fh hn;cases ax;have cV:=ae.aj hw aa;rw[x3]at cV;generalize cu:a.eval x=e3 at cV;cases cV;obtain⟨m,fR,z0⟩:=Rq hb (ae.aj hw aF);refine⟨rfl,cg.same (v':=.bool (cond gt (!b) b)) hw ?_ (.bool _)⟩;unfold execOp;rw[ao,z0];cases gt
 ·simp[cu,fR,eqGuard,binOp,Op.intCmp]
 ·simp only[cu,fR,if_true];have:(!decide ((n:Int)<=m))=decide (m<(n:Int)):=by rw[zbb];simp
  simp[eqGuard,binOp,Op.intCmp,this]
def arw{f:ci}{y:bi}{ts:ap ce}(aa:cC X.aD x=true)(aF:cC X.aD y=true)(eU:X.qg f=true)(ao:o.op= .call {callee:=.value (.func f),args:= #[x,y],argTypes:=ts})(ae:cz ι fr a aQ)(hw:bx X ι st w)
 (h:mU fr st (.idxs X.lQ x y)= .ok v aK st'):aK=fr∧cg X ι w v st st' (execOp a.eval o):=by
 obtain⟨s,ai,aM⟩:=oF h (by simp);obtain⟨b,hb,aN⟩:=oF aM (by simp);unfold Cd at aN;obtain⟨ej,xP,bf⟩:=fp aN (by simp);cases ej with
 |cells cs el bd a3=>
  have cb:cond a3 aX.no (one cs (fun c=>cond (MV (dk b.data.toList) c) (ed 2 (dk b.data.toList) (ed (dk s.data.toList) 1000000
   (.ok (.int .i64 (bm (oE b.data.toList s.data.toList) (fun i=>.ofNat i) (.negSucc 0))) fr st) .no) .no) .no) .no)= .ok v aK st':=bf
  obtain⟨vB,cQ⟩:=AH cb (by simp);obtain⟨c,hc,ei⟩:=AV cQ (by simp);obtain⟨hi,gn⟩:=iv ei (by simp);obtain⟨U,od⟩:=iB gn (by simp);obtain⟨af,r9⟩:=iB od (by simp);rw[fo]at hi U af;cases r9;have cV:=ae.aj hw aa;rw[ai]at cV;generalize cu:a.eval x=e3 at cV;have fm:=ae.aj hw aF;rw[hb]at fm;generalize fR:a.eval y=qF at fm;cases cV;cases fm;obtain⟨l,hl,C,eP,hC⟩:=hw.eD _ _ xP (by simp);rw[hw.me _ X.DV]at hl;cases hl;subst hc;obtain⟨b6,sd,mg⟩:=hC.cell 0 (by simp);have akz:Ch b.data.toList.length c=some true:=by
   unfold MV at hi;split at hi
   ·assumption
   ·cases hi
  obtain⟨m,rfl,z0⟩:=Rq akz mg;have hle:((b.data.toList.length:Nat):Int)<=m:=by simpa using z0.symm
  have ali:(load ⟨X.lQ,0,none⟩).run X.P w= .ok (.int .i64 m) w:=by
   have L3:C[0]? =some (.int .i64 m):=by simpa using sd
   rw[run_load,cell_of hC.there];simp[L3]
  refine⟨rfl,cg.same (v':=.int .i64 (bm (oE b.data.toList s.data.toList) (fun i=>.ofNat i) (.negSucc 0))) hw ?_ (.int _ _)⟩;rw[CF ao];have:=X.DD f eU s b m w ali (by simpa using U) (by simpa using hle) (by simpa using af);simp only[zcq,zaR,zbY,cu,fR];rw[this];cases oE b.data.toList s.data.toList<;>rfl
 |_=>cases bf
end
variable{P:d9}{t:ce}{a:Nat}
def dg.inPlace:dg->Bool
 |.call _ _|.inv _ _ _|.wH|.qS _ _|.rA _=>false
 |_=>true
def Ctx.jP(X:Ctx)(op:Op)(x:dg):Bool:=at4 X.P X.aD X.jN X.kc X.keys X.pS X.eqs X.qg X.lQ X.qm op x
def mK{n:Nat}(h:gq P t=some n):∃i,P.info? t=some i∧i.size=n:=by
 unfold gq at h;exact zbm.1 h
def Ff{v:be}(h:rV P t=some v):∃i,P.info? t=some i∧i.zero=some v:=by
 unfold rV at h;exact zcr.1 h
def B1{g:Bool}(h:pJ P t=some g):∃d,P.underlying t=some d∧qL d=g:=by
 unfold pJ at h;exact zbm.1 h
def eG{b:Nat}(h:Nat.beq a b=true):a=b:=eL h
def H3(h:(!Nat.beq a 0)=true):a≠0:=by intro e;subst e;simp at h
def vc.ss:vc->Bool
 |.look _ _ _ _ _|.AB _|.Az _|.bn _ _|.qW _ _ _ _|.xe _ _ _|.idxs _ _ _|.zs _=>true
 |_=>false
def dg.ss:dg->Bool
 |.ext y=>y.ss
 |.alloc _ _|.box _ _|.oS _ _ _ _|.store _ _ _|.vj _ _|.um|.rr _ _ _ _ _|.call _ _|.inv _ _ _|.v3 _|.app _ _ _ _ _|.qR _ _ _|.wH|.qS _ _|.rA _|.s0 _ _ _|.refuse=>false
 |_=>true
def dg.ua:dg->Bool
 |.alloc _ _|.box _ _|.oS _ _ _ _|.vj _ _|.rr _ _ _ _ _|.um=>true
 |_=>false
def w5(X:Ctx)(x:dg)(ι:bC)(w:co)(v:be)(st st':ay)(s:Sem Next):Prop:=
 jA X ι w v st' s∧(x.ss=true->cg X ι w v st st' s)∧(x.ua=true->te X ι w v st st' s)
section
variable{p:Prop}{x:dg}{ι:bC}{w:co}{v:be}{st st':ay}{s:Sem Next}
def e1(h:p∧cg X ι w v st st' s)(aa:x.ua=false):p∧w5 X x ι w v st st' s:=⟨h.1,h.2.Pn,fun _=>h.2,fun e=>by rw[aa]at e;cases e⟩
def zk(h:p∧te X ι w v st st' s)(aa:x.ss=false):p∧w5 X x ι w v st st' s:=⟨h.1,h.2.Pn,fun e=>(by rw[aa]at e;cases e),fun _=>h.2⟩
def rU(h:p∧jA X ι w v st' s)(aa:x.ss=false)(bS:x.ua=false):p∧w5 X x ι w v st st' s:=⟨h.1,h.2,fun e=>(by rw[aa]at e;cases e),fun e=>by rw[bS]at e;cases e⟩
end
def LQ:dg->Bool
 |.lR _|.pick _ _ _|.alloc _ _|.box _ _|.build _ _|.oS _ _ _ _|.lP _|.qj _ _|.store _ _ _|.sC _|.bin _ _ _|.eqv _ _ _ _|.un _ _|.um|.refuse|.v3 _=>true
 |_=>false
section
variable{ι:bC}{fr aK:aR}{a:Act}{aQ:Nat}{st st':ay}{w:co}{o:Oper}{v:be}{call:bO}
def aoD{x:dg}(ab:X.jP o.op x=true)(ae:cz ι fr a aQ)(hw:bx X ι st w)(h:bR call x fr st= .ok v aK st')
 (aa:LQ x=true):
 aK=fr∧w5 X x ι w v st st' (execOp a.eval o):=by
 generalize ao:o.op=op at ab;cases x with
 |lR p=>
  cases op with
  |move q=>obtain⟨rfl,U⟩:=cR ab;exact e1 (abu (call:=call) U (.inl ao) ae hw h) rfl
  |assign q=>obtain⟨rfl,U⟩:=cR ab;exact e1 (abu (call:=call) U (.inr ao) ae hw h) rfl
  |_=>cases ab
 |pick c p q=>
  cases op with
  |pick b6 dA fJ=>
   have ab:(b1 X.aD c b6&&b1 X.aD p dA&&b1 X.aD q fJ)=true:=ab;simp only[b3]at ab;obtain⟨⟨J,U⟩,af⟩:=ab;obtain⟨rfl,a5⟩:=cR J;obtain⟨rfl,bD⟩:=cR U;obtain⟨rfl,dt⟩:=cR af;exact e1 (arP (call:=call) a5 bD dt ao ae hw h) rfl
  |_=>cases ab
 |alloc z e=>
  cases op with
  |alloc t=>
   have ab:(Nat.beq e t&&(match rV X.P t with|some v=>lo z v.cells.toList&&mL z|none=>false))=true:=ab;rw[b3]at ab;obtain⟨J,U⟩:=ab;have aw:=eG J;subst aw;split at U
   ·rename_i s9 rf;rw[b3]at U;have e2:=yZ _ _ U.1;subst e2;obtain⟨i,hi,aJ⟩:=Ff rf;exact zk (aq2 (call:=call) ao hi aJ U.2 hw h) rfl
   ·cases U
  |_=>cases ab
 |box e p=>
  cases op with
  |box t q=>
   have ab:(Nat.beq e t&&b1 X.aD p q)=true:=ab;rw[b3]at ab;have aw:=eG ab.1;subst aw;obtain⟨rfl,U⟩:=cR ab.2;exact zk (aq5 (call:=call) U ao ae hw h) rfl
  |_=>cases ab
 |build z ps=>
  cases op with
  |build t parts=>
   have ab:((match rV X.P t with|some v=>lo z v.cells.toList&&mL z|none=>false)&&
    (match X.P.underlying t with
     |some (.struct fields)=>fields.toList.all (fun f=>(X.P.info? f.type).isSome)&&rz X.aD (fun j=>(fields.map fun f=>(f.offset,X.P.cellsOf f.type))[j]?) ps parts.toList
     |some (.array _ e)=>(match gq X.P e with|some s=>rz X.aD (fun j=>some (j*s,s)) ps parts.toList|none=>false)
     |_=>false))=true:=ab
   rw[b3]at ab;obtain⟨J,U⟩:=ab;split at J
   ·rename_i s9 rf;rw[b3]at J;have e2:=yZ _ _ J.1;subst e2;obtain⟨i,hi,aJ⟩:=Ff rf;split at U
    ·rename_i fields hu;rw[b3,zbn]at U;obtain⟨a5,bD⟩:=Iu U.2;exact e1 (aq8 (call:=call) ao hu hi aJ J.2 U.1 a5 bD ae hw h) rfl
    ·rename_i n e hu;split at U
     ·rename_i s ai;obtain⟨cw,gH,rfl⟩:=mK ai;obtain⟨a5,bD⟩:=Iu U;exact e1 (aq7 (call:=call) ao hu hi aJ J.2 gH (by rw[a5];simp) (fun p hp=>(bD p hp).2) ae hw h) rfl
     ·cases U
    ·cases U
   ·cases J
  |_=>cases ab
 |oS e n z ps=>
  cases op with
  |buildSlice t m parts=>
   have ab:(Nat.beq n m&&(match X.P.underlying t with
    |some (.slice el)=>Nat.beq e el&&(match gq X.P el,rV X.P el with
     |some s,some v=>Nat.ble (m*s) (2^24)&&lo z ((List.range (m*s)).map (fun j=>(if m*s=0 then(#[]:ap be)else v.cells)[j%(if m*s=0 then(#[]:ap be)else v.cells).size]!))&&mL z&&
      rz X.aD (fun j=>some (j*s,s)) ps parts.toList
     |_,_=>false)
    |_=>false))=true:=ab
   rw[b3]at ab;obtain⟨J,U⟩:=ab;have aw:=eG J;subst aw;split at U
   ·rename_i el hu;rw[b3]at U;obtain⟨af,ax⟩:=U;have e2:=eG af;subst e2;split at ax
    ·rename_i s s9 ai rf;simp only[b3]at ax;obtain⟨⟨⟨a0,ck⟩,dx⟩,gF⟩:=ax;obtain⟨cw,gH,rfl⟩:=mK ai;obtain⟨au6,WB,aJ⟩:=Ff rf;rw[gH]at WB;cases WB;obtain⟨a5,bD⟩:=Iu gF;exact zk (aq6 (call:=call) ao hu gH aJ (pN.1 a0) (yZ _ _ ck) dx (by rw[a5];simp) (fun p hp=>(bD p hp).2) ae hw h) rfl
    ·cases ax
   ·cases U
  |_=>cases ab
 |lP p=>
  cases op with
  |load t q=>
   have ab:(b1 X.aD p q&&(match pJ X.P t with|some g=> !g|none=>false))=true:=ab;rw[b3]at ab;obtain⟨J,U⟩:=ab;obtain⟨rfl,a5⟩:=cR J;split at U
   ·rename_i g aO;obtain⟨d,aq,e⟩:=B1 aO;exact e1 (abq (call:=call) a5 ao aq (by rw[e];simpa using U) ae hw h) rfl
   ·cases U
  |_=>cases ab
 |qj n p=>
  cases op with
  |load t q=>
   have ab:(b1 X.aD p q&&(match pJ X.P t,gq X.P t with|some g,some s=>g&&Nat.beq n s|_,_=>false))=true:=ab;rw[b3]at ab;obtain⟨J,U⟩:=ab;obtain⟨rfl,a5⟩:=cR J;split at U
   ·rename_i g s aO ai;rw[b3]at U;obtain⟨d,aq,e⟩:=B1 aO;obtain⟨i,hi,rfl⟩:=mK ai;have aw:=eG U.2;subst aw;exact e1 (abr (call:=call) a5 ao aq (by rw[e];exact U.1) hi ae hw h) rfl
   ·cases U
  |_=>cases ab
 |store n p q=>
  cases op with
  |store t dA fJ=>
   have ab:(b1 X.aD p dA&&b1 X.aD q fJ&&(match gq X.P t with|some s=>Nat.beq n s|none=>false))=true:=ab;simp only[b3]at ab;obtain⟨⟨J,U⟩,af⟩:=ab;obtain⟨rfl,a5⟩:=cR J;obtain⟨rfl,bD⟩:=cR U;split at af
   ·rename_i s ai;obtain⟨i,hi,rfl⟩:=mK ai;have aw:=eG af;subst aw;exact rU (arW (call:=call) a5 bD ao hi ae hw h) rfl rfl
   ·cases af
  |_=>cases ab
 |sC p=>
  cases op with
  |nilCheck q=>obtain⟨rfl,U⟩:=cR ab;exact e1 (arM (call:=call) U ao ae hw h) rfl
  |_=>cases ab
 |bin ad7 p q=>
  cases op with
  |binOp KV t dA fJ y7=>
   have ab:(decide (ad7=KV)&&b1 X.aD p dA&&b1 X.aD q fJ)=true:=ab;simp only[b3,decide_eq_true_eq]at ab;obtain⟨⟨J,U⟩,af⟩:=ab;subst J;obtain⟨rfl,a5⟩:=cR U;obtain⟨rfl,bD⟩:=cR af;exact e1 (aq4 (call:=call) a5 bD ao ae hw h) rfl
  |_=>cases ab
 |eqv neg e p q=>
  cases op with
  |binOp KV t dA fJ y7=>
   have ab:(decide (KV=(if neg then .neq else .eql))&&b1 X.aD p dA&&b1 X.aD q fJ&&Gf X.P t e dA fJ)=true:=ab;simp only[b3,decide_eq_true_eq]at ab;obtain⟨⟨⟨J,U⟩,af⟩,ax⟩:=ab;subst J;obtain⟨rfl,a5⟩:=cR U;obtain⟨rfl,bD⟩:=cR af;exact e1 (arn (call:=call) a5 bD ao (agu _ ax) ae hw h) rfl
  |_=>cases ab
 |un as7 p=>
  cases op with
  |unOp as8 t q=>
   have ab:(decide (as7=as8)&&b1 X.aD p q)=true:=ab;simp only[b3,decide_eq_true_eq]at ab;obtain⟨J,U⟩:=ab;subst J;obtain⟨rfl,a5⟩:=cR U;exact e1 (arY (call:=call) a5 ao ae hw h) rfl
  |_=>cases ab
 |um=>
  cases op with
  |makeMap t r=>
   cases r with
   |none=>
    have h:yw call fr st= .ok v aK st':=h;unfold yw at h;rw[gw]at h;cases h;obtain⟨aU,a5,bD,dt,nJ⟩:=bx.alloc X hw (.map [] 0) (.map #[] 0) 0 (fun aU w' _ _ aV=>⟨rfl,rfl,#[],0,aV,rfl,⟨fun s t h _ _=>absurd h (zdC _),fun s h=>absurd h (zdC _),fun j=>by simp⟩,by simp,.nil,.nil,[],.nil,rfl,fun i hi=>by simp at hi⟩) {w with heap:=w.heap.push (.map #[] 0)} rfl;rw[nJ]at a5 bD dt;refine zk ⟨rfl,_,_,_,.map (some w.heap.size),_,rfl,by simp,?_,rfl,.map _ _ _ dt,a5,bD⟩ rfl;unfold execOp;rw[ao];simp[Instr.makeMap,Result.andThen]
   |some r=>cases ab
  |_=>cases ab
 |refuse=>cases h
 |v3 p=>cases h
 |_=>cases aa
end
variable{w:co}{r:Nat}{s:f5}{p:Nat}
def anh{a b:fN}(h:Nb a b=true):a=b:=by
 cases a<;>cases b<;>simp[Nb]at h<;>first|rfl|(rw[h])|(rw[h.1,h.2])
def HI{keys:ce->am fN}{c8:fN}(h:DI P keys t c8=true):∃fb jn,P.underlying t=some (.map fb jn)∧keys fb=some c8:=by
 unfold DI at h;split at h
 ·rename_i fb jn hu;split at h
  ·rename_i XC ab;exact⟨fb,jn,hu,by rw[ab,anh h]⟩
  ·cases h
 ·cases h
def isMap(h:(match P.underlying t with|some (.map _ _)=>true|_=>false)=true):∃fb jn,P.underlying t=some (.map fb jn):=by
 split at h
 ·rename_i fb jn hu;exact⟨fb,jn,hu⟩
 ·cases h
def isStr(h:(match P.underlying t with|some .string=>true|_=>false)=true):P.underlying t=some .string:=by
 split at h
 ·assumption
 ·cases h
def amS(h:(match P.underlying t with|some (.slice _)=>true|_=>false)=true):∃e,P.underlying t=some (.slice e):=by
 split at h
 ·exact⟨_,by assumption⟩
 ·cases h
theorem FT(v:be):∀n:Nat,k2 [v] n=List.replicate n v
 |0=>rfl
 |n+1=>by
  show gC [v] (k2 [v] n)=_;rw[FT v n];rfl
def aa5(hb:w.heap[r]? =some (.stringIter s p)):(getObj r).run P w= .ok (.stringIter s p) w:=by
 simp[getObj,Sem.run,hb]
def aqx(o:Obj)(hb:w.heap[r]? =some (.stringIter s p)):(setObj r o).run P w= .ok () {w with heap:=w.heap.setIfInBounds r o}:=by
 simp[setObj,Sem.run,hb]
section
variable{ι:bC}{fr aK:aR}{a:Act}{aQ:Nat}{st st':ay}{w:co}{o:Oper}{v:be}
variable{x:bi}{e:ce}
def arV{m:bi}(hm:cC X.aD m=true)(ao:o.op= .range t m)(hu:X.P.underlying t=some .string)(ae:cz ι fr a aQ)(hw:bx X ι st w)
 (h:mU fr st (.Bv m)= .ok v aK st'):aK=fr∧jA X ι w v st' (execOp a.eval o):=by
 obtain⟨s,ai,h⟩:=oF h (by simp);have iO:=ae.aj hw hm;rw[ai]at iO;generalize k5:a.eval m=lR at iO;cases iO;rw[gw]at h;cases h;obtain⟨aU,a5,bD,dt,nJ⟩:=bx.alloc X hw (.yT s 0) (.stringIter s 0) 0 (fun aU w' _ _ aV=>⟨rfl,rfl,aV⟩) {w with heap:=w.heap.push (.stringIter s 0)} rfl;refine⟨rfl,aU,.value (.pointer (some ⟨w.heap.size,0,none⟩)),_,?_,.inl ⟨_,rfl,?_⟩,a5,bD⟩
 ·unfold execOp;rw[ao];simp[k5,Instr.range,run_underlying hu,Result.andThen]
 ·exact bs.ptr ⟨st.al,0,none⟩ _ dt rfl
def arG{f:ci}{ts:ap ce}(aa:cC X.aD x=true)(hm:X.qm f=some e)(ao:o.op= .call {callee:=.value (.func f),args:= #[x],argTypes:=ts})(ae:cz ι fr a aQ)(hw:bx X ι st w)
 (h:mU fr st (.AA e x)= .ok v aK st'):aK=fr∧jA X ι w v st' (execOp a.eval o):=by
 obtain⟨k,m,hn,aM⟩:=iW h (by simp);obtain⟨ab,aN⟩:=iv aM (by simp);obtain⟨n,aw,bf⟩:=lS aN (by simp);obtain⟨hle,cb⟩:=iB bf (by simp);have fh:=sv ab;clear h aM aN bf;subst aw fh;have cV:=ae.aj hw aa;rw[hn]at cV;generalize cu:a.eval x=e3 at cV;cases cV;rw[gw]at cb;cases cb;obtain⟨cs,w',J,aJ,U,af,ax⟩:=X.DU f e hm n w (by omega);obtain⟨aU,a5,bD,dt,nJ⟩:=bx.alloc X hw (.cells (k2 [h7] n) e (0,0) true) (.cells cs e) (cs.size-n) (fun aU jj _ _ aV=>⟨cs,_,aV,by simp only[FT,zcc,aJ];omega,fun i hi=>by
  have dX:i<n:=by simpa only[FT,zcc]using hi
  refine⟨cs[i]'(by omega),by rw[zav];exact zco _,?_⟩;simp only[FT,List.getElem_replicate];exact .top _,fun _ i _ _ h=>absurd h.2 (zdC _),fun aO=>by cases aO⟩) w' af ax
 refine⟨rfl,aU,.value (.slice (some ⟨w.heap.size,0,none⟩) n cs.size),w',?_,.inl ⟨_,rfl,?_⟩,a5,bD⟩
 ·rw[CF ao];simp only[zcq,zaR,zbY,cu];exact U
 ·have:=bs.gx (ι:=aU) ⟨st.al,0,none⟩ _ 0 n n dt rfl (.inl rfl);rw[show n+(cs.size-n)=cs.size by omega]at this;exact this
def aq9(aa:cC X.aD x=true)(ao:o.op= .call {callee:=.builtin .cap,args:= #[x],argTypes:= #[t]})(hu:X.P.underlying t=some (.slice e))(ae:cz ι fr a aQ)(hw:bx X ι st w)
 (h:mU fr st (.zs x)= .ok v aK st'):aK=fr∧cg X ι w v st st' (execOp a.eval o):=by
 obtain⟨b,n,c,hp,h⟩:=uU h (by simp);obtain⟨hb,h⟩:=yt h (fun _=>by simp);subst hb;cases h;have bS:=ae.aj hw aa;rw[hp]at bS;generalize cu:a.eval x=e3 at bS;cases bS;refine⟨rfl,cg.same (v':=.int .i64 (.ofNat c)) hw ?_ (.int _ _)⟩;unfold execOp;rw[ao];simp[cu,resolve,invoke,builtin,Builtin.cap_,run_underlying hu,Result.andThen,goInt]
def afF{pos:Nat}{b:bv}(h:s.data.toList[pos]? =some b)(hb:b.toNat<128):pos<s.size∧Utf8.decode s pos=(b.toNat,1):=by
 obtain⟨a4,he⟩:=zah.1 h;have tO:pos<s.data.size:=by simpa using a4
 refine⟨tO,?_⟩;have aO:s.get! (pos+0)=b:=by
  show s.data[pos]! =b;rw[getElem!_pos s.data pos tO,<-he,zaC]
 unfold Utf8.decode;simp only[aO];rw[zab hb]
def arU{i:bi}(hi:cC X.aD i=true)(ao:o.op= .next i true)(ae:cz ι fr a aQ)(hw:bx X ι st w)
 (h:mU fr st (.Bu i)= .ok v aK st'):aK=fr∧jA X ι w v st' (execOp a.eval o):=by
 obtain⟨p,hp,aM⟩:=pE h (by simp);obtain⟨ad,MD,aN⟩:=fp aM (by simp);obtain⟨ai,bf⟩:=yt aN (fun _=>by simp);obtain⟨h0,cb⟩:=k3 bf (by simp);obtain⟨s,pos,aO,cQ⟩:=ar0 cb (by simp);clear h aM aN bf cb;subst MD;have nD:=ae.aj hw hi;rw[hp]at nD;generalize jb:a.eval i=lN at nD;obtain⟨l,hl,kd,eW,b8⟩:=hw.eD _ _ aO (by simp);have b8:w.heap[l.cG]? =some (.stringIter s pos):=b8;cases nD with
 |ptr _ l' aB eZ=>
  rw[hl]at aB;cases aB;rw[kd,h0]at jb;have jb:a.eval i= .pointer (some ⟨l.cG,0,none⟩):=jb;rw[zI,List.head?_drop]at cQ;cases aq:s.data.toList[pos]? with
  |none=>
   rw[aq]at cQ;have cQ:aX.ok (.tuple #[.bool false]) fr st= .ok v aK st':=cQ;cases cQ;have hn:¬pos<s.size:=fun a4=>by
    rw[zeT]at aq;have:s.data.toList.length=s.size:=zbl;omega
   refine⟨rfl,ι,.value (.tuple #[.bool false]),w,?_,.inl ⟨_,rfl,bs.po (.cons (.bool _) (.nil _))⟩,hw,.refl _ _⟩;unfold execOp;rw[ao];simp[jb,Instr.next,aa5 b8,hn,Result.andThen]
  |some b=>
   rw[aq]at cQ;obtain⟨hb,ei⟩:=iB (cQ:ed (Nat.succ b.toNat) 128 _ _=_) (by simp);rw[jT]at ei;cases ei;obtain⟨a4,akC⟩:=afF aq (by omega);obtain⟨a5,bD⟩:=bx.uS X hw aO (by simp) (fun ae=>ae) hl (.yT s (pos+1)) (.stringIter s (pos+1)) {w with heap:=w.heap.setIfInBounds l.cG (.stringIter s (pos+1))} rfl (fun _ aV=>⟨kd,eW,aV⟩);refine⟨rfl,ι,.value (.tuple #[.bool true,.int .i64 (pos:Int),.int .i32 (b.toNat:Int)]),_,?_,.inl ⟨_,rfl,bs.po (.cons (.bool _) (.cons (.int _ _) (.cons (.int _ _) (.nil _))))⟩,a5,bD⟩;unfold execOp;rw[ao];simp[jb,Instr.next,aa5 b8,a4,akC,aqx _ b8,Result.andThen,goInt]
end
section
variable{ι:bC}{fr aK:aR}{a:Act}{aQ:Nat}{st st':ay}{w:co}{o:Oper}{v:be}{call:bO}
def aro{y:vc}(ab:X.jP o.op (.ext y)=true)(ae:cz ι fr a aQ)(hw:bx X ι st w)(h:bR call (.ext y) fr st= .ok v aK st'):
 aK=fr∧w5 X (.ext y) ι w v st st' (execOp a.eval o):=by
 generalize ao:o.op=op at ab;have ab:PZ X.P X.aD X.keys X.pS X.eqs X.qg X.lQ X.qm op y=true:=ab;have h:mU fr st y= .ok v aK st':=h;unfold PZ at ab;split at ab
 ·simp only[b3]at ab;obtain⟨⟨⟨⟨J,U⟩,af⟩,ax⟩,a0⟩:=ab;obtain⟨rfl,a5⟩:=cR J;obtain⟨rfl,bD⟩:=cR U;have bW:=zcs af;subst bW;obtain⟨fb,jn,hu,ec⟩:=HI ax;rw[hu]at a0;simp only at a0;split at a0
  ·rename_i s9 rf;rw[b3]at a0;have ma:=ng _ _ a0.1;subst ma;obtain⟨i,hi,aJ⟩:=Ff rf;exact e1 (arD a5 bD ao hu ec hi aJ a0.2 ae hw h) rfl
  ·cases a0
 ·simp only[b3]at ab;obtain⟨⟨⟨J,U⟩,af⟩,ax⟩:=ab;obtain⟨rfl,a5⟩:=cR J;obtain⟨rfl,bD⟩:=cR U;obtain⟨rfl,dt⟩:=cR af;obtain⟨fb,jn,hu,ec⟩:=HI ax;exact rU (abv a5 bD dt (.inl ao) hu ec ae hw h) rfl rfl
 ·simp only[b3]at ab;obtain⟨⟨⟨J,U⟩,af⟩,ax⟩:=ab;obtain⟨rfl,a5⟩:=cR J;obtain⟨rfl,bD⟩:=cR U;obtain⟨rfl,dt⟩:=cR af;obtain⟨fb,jn,hu,ec⟩:=HI ax;exact rU (abv a5 bD dt (.inr ao) hu ec ae hw h) rfl rfl
 ·simp only[b3]at ab;obtain⟨⟨J,U⟩,ax⟩:=ab;obtain⟨rfl,a5⟩:=cR J;obtain⟨rfl,bD⟩:=cR U;obtain⟨fb,jn,hu,ec⟩:=HI ax;exact rU (ark a5 bD ao hu ec ae hw h) rfl rfl
 ·rw[b3]at ab;obtain⟨rfl,a5⟩:=cR ab.1;obtain⟨fb,jn,hu⟩:=isMap ab.2;exact e1 (arI a5 ao hu ae hw h) rfl
 ·rw[b3]at ab;obtain⟨rfl,a5⟩:=cR ab.1;obtain⟨fb,jn,hu⟩:=isMap ab.2;exact rU (arK a5 ao hu ae hw h) rfl rfl
 ·obtain⟨rfl,a5⟩:=cR ab;exact e1 (arE a5 ao ae hw h) rfl
 ·cases h
 ·rw[b3]at ab;obtain⟨rfl,a5⟩:=cR ab.1;exact rU (arV a5 ao (isStr ab.2) ae hw h) rfl rfl
 ·obtain⟨rfl,a5⟩:=cR ab;exact rU (arU a5 ao ae hw h) rfl rfl
 ·rw[b3]at ab;obtain⟨rfl,a5⟩:=cR ab.1;have U:=ab.2;split at U
  ·rename_i cy he;have e:=eG U;subst e;exact rU (arG a5 he ao ae hw h) rfl rfl
  ·cases U
 ·rw[b3]at ab;obtain⟨rfl,a5⟩:=cR ab.1;obtain⟨e,hu⟩:=amS ab.2;exact e1 (aq9 a5 ao hu ae hw h) rfl
 ·simp only[b3,decide_eq_true_eq]at ab;obtain⟨⟨⟨h0,J⟩,U⟩,_⟩:=ab;obtain⟨rfl,a5⟩:=cR J;obtain⟨rfl,bD⟩:=cR U;subst h0;exact e1 (ard a5 bD ao ae hw h) rfl
 ·simp only[b3]at ab;obtain⟨⟨⟨J,U⟩,af⟩,ax⟩:=ab;obtain⟨rfl,a5⟩:=cR J;obtain⟨rfl,bD⟩:=cR U;have e:=eG ax;subst e;exact e1 (arw a5 bD af ao ae hw h) rfl
 ·simp only[b3]at ab;obtain⟨⟨J,U⟩,af⟩:=ab;obtain⟨rfl,a5⟩:=cR J;obtain⟨rfl,bD⟩:=cR U;exact e1 (are a5 bD af ao ae hw h) rfl
 ·simp only[b3,decide_eq_true_eq]at ab;obtain⟨⟨⟨h0,J⟩,U⟩,af⟩:=ab;obtain⟨rfl,a5⟩:=cR J;obtain⟨rfl,bD⟩:=cR U;subst h0;split at af
  ·rename_i cc hn;have e:=eG af;subst e;exact e1 (arl a5 bD hn ao ae hw h) rfl
  ·cases af
 ·cases ab
end
variable{op:Op}{ps:ac bi}{e a9:Nat}{f:bi}{name:String}{g:ci}
def amI{p:bi}(ab:X.jP op (.ot p)=true):∃q t,op= .call {callee:=.builtin .len,args:= #[q],argTypes:= #[t]}∧(b1 X.aD p q&&(match X.P.underlying t with|some (.slice _)=>true|_=>false))=true:=by
 cases op with
 |call c=>
  obtain⟨callee,⟨args⟩,⟨ts⟩⟩:=c;cases callee with
  |builtin b=>
   cases b with
   |len=>
    match args,ts,ab with
    |[q],[t],ab=>exact⟨q,t,rfl,ab⟩
    |[],_,ab=>cases ab
    |_::_::_,_,ab=>cases ab
    |[_],[],ab=>cases ab
    |[_],_::_::_,ab=>cases ab
   |_=>cases ab
  |_=>cases ab
 |_=>cases ab
def amJ{p:bi}(ab:X.jP op (.ug p)=true):∃q t,op= .call {callee:=.builtin .len,args:= #[q],argTypes:= #[t]}∧(b1 X.aD p q&&(match X.P.underlying t with|some .string=>true|_=>false))=true:=by
 cases op with
 |call c=>
  obtain⟨callee,⟨args⟩,⟨ts⟩⟩:=c;cases callee with
  |builtin b=>
   cases b with
   |len=>
    match args,ts,ab with
    |[q],[t],ab=>exact⟨q,t,rfl,ab⟩
    |[],_,ab=>cases ab
    |_::_::_,_,ab=>cases ab
    |[_],[],ab=>cases ab
    |[_],_::_::_,ab=>cases ab
   |_=>cases ab
  |_=>cases ab
 |_=>cases ab
def amH{n:Nat}(ab:X.jP op (.x9 n)=true):∃q t,op= .call {callee:=.builtin .len,args:= #[q],argTypes:= #[t]}∧(match X.P.underlying t with|some (.array m _)=>Nat.beq n m|some (.pointer u)=>(match X.P.underlying u with|some (.array m _)=>Nat.beq n m|_=>false)|_=>false)=true:=by
 cases op with
 |call c=>
  obtain⟨callee,⟨args⟩,⟨ts⟩⟩:=c;cases callee with
  |builtin b=>
   cases b with
   |len=>
    match args,ts,ab with
    |[q],[t],ab=>exact⟨q,t,rfl,ab⟩
    |[],_,ab=>cases ab
    |_::_::_,_,ab=>cases ab
    |[_],[],ab=>cases ab
    |[_],_::_::_,ab=>cases ab
   |_=>cases ab
  |_=>cases ab
 |_=>cases ab
def amD{bU:Nat}{s p:bi}(ab:X.jP op (.app e a9 bU s p)=true):∃bz q t u,op= .call {callee:=.builtin .append,args:= #[bz,q],argTypes:= #[t,u]}∧
 (b1 X.aD s bz&&b1 X.aD p q&&(match X.P.underlying t,X.P.underlying u with
  |some (.slice el),some d=>Nat.beq e el&&(match d with|.int _=>false|_=>true)&&(match X.P.info? el with
   |some i=>Nat.beq a9 i.size&&Nat.beq bU i.bytes&&(match i.zero with|some v=>Nat.beq v.cells.size i.size|none=>false)
   |none=>false)
  |_,_=>false))=true:=by
 cases op with
 |call c=>
  obtain⟨callee,⟨args⟩,⟨ts⟩⟩:=c;cases callee with
  |builtin b=>
   cases b with
   |append=>
    match args,ts,ab with
    |[bz,q],[t,u],ab=>exact⟨bz,q,t,u,rfl,ab⟩
    |[],_,ab=>cases ab
    |[_],_,ab=>cases ab
    |_::_::_::_,_,ab=>cases ab
    |[_,_],[],ab=>cases ab
    |[_,_],[_],ab=>cases ab
    |[_,_],_::_::_::_,ab=>cases ab
   |_=>cases ab
  |_=>cases ab
 |_=>cases ab
def amL{p:bi}(ab:X.jP op (.eR p ps)=true):∃q dh ts,op= .call {callee:=.builtin .max,args:=(q::dh).toArray,argTypes:=ts}∧(b1 X.aD p q&&jQ X.aD ps dh)=true:=by
 cases op with
 |call c=>
  obtain⟨callee,⟨args⟩,ts⟩:=c;cases callee with
  |builtin b=>
   cases b with
   |max=>
    match args,ab with
    |q::dh,ab=>exact⟨q,dh,ts,rfl,ab⟩
    |[],ab=>cases ab
   |_=>cases ab
  |_=>cases ab
 |_=>cases ab
def amK{p:bi}(ab:X.jP op (.yk p ps)=true):∃q dh ts,op= .call {callee:=.builtin .min,args:=(q::dh).toArray,argTypes:=ts}∧(b1 X.aD p q&&jQ X.aD ps dh)=true:=by
 cases op with
 |call c=>
  obtain⟨callee,⟨args⟩,ts⟩:=c;cases callee with
  |builtin b=>
   cases b with
   |min=>
    match args,ab with
    |q::dh,ab=>exact⟨q,dh,ts,rfl,ab⟩
    |[],ab=>cases ab
   |_=>cases ab
  |_=>cases ab
 |_=>cases ab
def amE{d s:bi}(ab:X.jP op (.qR a9 d s)=true):∃j4 bz t u,op= .call {callee:=.builtin .copy,args:= #[j4,bz],argTypes:= #[t,u]}∧
 (b1 X.aD d j4&&b1 X.aD s bz&&(match X.P.underlying t with|some (.slice e)=>(match gq X.P e with|some n=>Nat.beq a9 n|none=>false)|_=>false))=true:=by
 cases op with
 |call c=>
  obtain⟨callee,⟨args⟩,⟨ts⟩⟩:=c;cases callee with
  |builtin b=>
   cases b with
   |copy=>
    match args,ts,ab with
    |[bz,q],[t,u],ab=>exact⟨bz,q,t,u,rfl,ab⟩
    |[],_,ab=>cases ab
    |[_],_,ab=>cases ab
    |_::_::_::_,_,ab=>cases ab
    |[_,_],[],ab=>cases ab
    |[_,_],[_],ab=>cases ab
    |[_,_],_::_::_::_,ab=>cases ab
   |_=>cases ab
  |_=>cases ab
 |_=>cases ab
def amP{p:bi}(ab:X.jP op (.Bo p)=true):∃q t,op= .call {callee:=.builtin .unsafeSliceData,args:= #[q],argTypes:= #[t]}∧b1 X.aD p q=true:=by
 cases op with
 |call c=>
  obtain⟨callee,⟨args⟩,⟨ts⟩⟩:=c;cases callee with
  |builtin b=>
   cases b with
   |unsafeSliceData=>
    match args,ts,ab with
    |[q],[t],ab=>exact⟨q,t,rfl,ab⟩
    |[],_,ab=>cases ab
    |_::_::_,_,ab=>cases ab
    |[_],[],ab=>cases ab
    |[_],_::_::_,ab=>cases ab
   |_=>cases ab
  |_=>cases ab
 |_=>cases ab
def amQ{p n:bi}(ab:X.jP op (.s0 e p n)=true):∃q m t u,op= .call {callee:=.builtin .unsafeString,args:= #[q,m],argTypes:= #[t,u]}∧
 (b1 X.aD p q&&b1 X.aD n m&&(match X.P.underlying t with|some (.pointer cy)=>Nat.beq e cy&&(match gq X.P cy with|some 1=>true|_=>false)|_=>false))=true:=by
 cases op with
 |call c=>
  obtain⟨callee,⟨args⟩,⟨ts⟩⟩:=c;cases callee with
  |builtin b=>
   cases b with
   |unsafeString=>
    match args,ts,ab with
    |[bz,q],[t,u],ab=>exact⟨bz,q,t,u,rfl,ab⟩
    |[],_,ab=>cases ab
    |[_],_,ab=>cases ab
    |_::_::_::_,_,ab=>cases ab
    |[_,_],[],ab=>cases ab
    |[_,_],[_],ab=>cases ab
    |[_,_],_::_::_::_,ab=>cases ab
   |_=>cases ab
  |_=>cases ab
 |_=>cases ab
def amG{p c:bi}(ab:X.jP op (.kc p c)=true):∃f q d ts,op= .call {callee:=.value (.func f),args:= #[q,d],argTypes:=ts}∧(b1 X.aD p q&&b1 X.aD c d&&X.kc f)=true:=by
 cases op with
 |call c=>
  obtain⟨callee,⟨args⟩,ts⟩:=c;cases callee with
  |value g=>
   cases g with
   |func f=>
    match args,ab with
    |[q,d],ab=>exact⟨f,q,d,ts,rfl,ab⟩
    |[],ab=>cases ab
    |[_],ab=>cases ab
    |_::_::_::_,ab=>cases ab
   |_=>cases ab
  |_=>cases ab
 |_=>cases ab
def amM{p:bi}(ab:X.jP op (.jN p)=true):∃f q ts,op= .call {callee:=.value (.func f),args:= #[q],argTypes:=ts}∧(b1 X.aD p q&&X.jN f)=true:=by
 cases op with
 |call c=>
  obtain⟨callee,⟨args⟩,ts⟩:=c;cases callee with
  |value g=>
   cases g with
   |func f=>
    match args,ab with
    |[q],ab=>exact⟨f,q,ts,rfl,ab⟩
    |[],ab=>cases ab
    |_::_::_,ab=>cases ab
   |_=>cases ab
  |_=>cases ab
 |_=>cases ab
def amO(ab:X.jP op .wH=true):∃ts,op= .call {callee:=.builtin .recover,args:= #[],argTypes:=ts}:=by
 cases op with
 |call c=>
  obtain⟨callee,⟨args⟩,ts⟩:=c;cases callee with
  |builtin b=>
   cases b with
   |recover=>
    match args,ab with
    |[],_=>exact⟨ts,rfl⟩
    |_::_,ab=>cases ab
   |_=>cases ab
  |_=>cases ab
 |_=>cases ab
def Xo(ab:X.jP op (.call f ps)=true):∃g args ts,op= .call {callee:=.value g,args:=args,argTypes:=ts}∧
 (b1 X.aD f g&&jQ X.aD ps args.toList&&(match g with|.func k=>((X.P.funcs[k]?).map (fun fn=>fn.body.isSome&& !(fn.name== "runtime.NumGoroutine"))).getD false|_=>true))=true:=by
 cases op with
 |call c=>
  obtain⟨callee,args,ts⟩:=c;cases callee with
  |value g=>exact⟨g,args,ts,rfl,ab⟩
  |_=>cases ab
 |_=>cases ab
def inv_inv{hv:ac (Nat×ci)}(ab:X.jP op (.inv hv f ps)=true):∃g name args ts,op= .call {callee:=.invoke g name,args:=args,argTypes:=ts}∧
 (b1 X.aD f g&&jQ X.aD ps args.toList&&hv.all (fun p=>sy X.P p.1 name p.2))=true:=by
 cases op with
 |call c=>
  obtain⟨callee,args,ts⟩:=c;cases callee with
  |invoke g name=>exact⟨g,name,args,ts,rfl,ab⟩
  |_=>cases ab
 |_=>cases ab
theorem JQ{t:Nat}{g:ci}:∀{hv:ac (Nat×ci)},wO t hv=some g->(t,g)∈hv
 |[],h=>by cases h
 |p::hv,h=>by
  have h:cond (Nat.beq p.1 t) (some p.2) (wO t hv)=some g:=h;cases hb:Nat.beq p.1 t with
  |true=>rw[hb]at h;cases h;rw[<-zbQ hb];exact zbB
  |false=>rw[hb]at h;exact zaM _ (JQ h)
def anM{t:Nat}(h:sy P t name g=true)(v:be)(as:ap be)(w:co):
 (callMethod (.iface t v) name as).run P w=(callFunc g (#[v]++as)).run P w:=by
 unfold sy at h;split at h
 ·rename_i i d fn hi aq ae;simp only[b3]at h;obtain⟨_,h⟩:=h;split at h
  ·rename_i m hm;simp only[b3]at h;obtain⟨J,U⟩:=h;split at U
   ·rename_i f ptr fG;simp only[b3]at U;obtain⟨af,ax⟩:=U;have af:=zbQ af;subst af;have hp:m.path.toList=[]:=List.isEmpty_iff.1 J;have Ha:(method (P.types.size+Made.depth) t v name).run P w= .ok (f,v) w:=by
     have g6:P.types.size+Made.depth=(P.types.size+Made.depth-1)+1:=by unfold Made.depth;omega
     rw[g6];unfold method;simp only[typeInfo,program,Sem.run_bind];cases d<;>cases ptr<;>first|(cases ax;done)|(simp[Sem.run,Result.andThen,hi,hm,hp,follow,fG,receiverAt,underlying,aq,Place.get,program];done)
    unfold callMethod;simp only[Sem.run_bind,program];simp[Sem.run,Result.andThen,Ha]at Ha⊢
   ·cases U
  ·cases h
 ·cases h
def adp{t:Nat}(h:sy P t name g=true)(v:be)(w:co):(nilAhead (P.types.size+Made.depth) t v name).run P w= .ok (some false) w:=by
 unfold sy at h;split at h
 ·rename_i i d fn hi aq ae;simp only[b3]at h;obtain⟨_,h⟩:=h;split at h
  ·rename_i m hm;simp only[b3]at h;obtain⟨J,U⟩:=h;split at U
   ·rename_i f ptr fG;simp only[b3]at U;obtain⟨_,ax⟩:=U;have hp:m.path.toList=[]:=List.isEmpty_iff.1 J;have g6:P.types.size+Made.depth=(P.types.size+Made.depth-1)+1:=by unfold Made.depth;omega
    rw[g6];unfold nilAhead;simp only[typeInfo,program,Sem.run_bind];cases d<;>cases ptr<;>first|(cases ax;done)|(simp[Sem.run,Result.andThen,hi,hm,hp,followBlind,fG,underlying,aq,program];done)
   ·cases U
  ·cases h
 ·cases h
section
variable{ι:bC}{fr aK:aR}{a:Act}{aQ:Nat}{st st':ay}{w:co}{o:Oper}{v:be}{call:bO}
def arN{hv:ac (Nat×ci)}{x:bi}(aa:cC X.aD x=true)(aV:(hv.all fun p=>sy X.P p.1 name p.2)=true)(ao:o.op= .nilCheck x)(ae:cz ι fr a aQ)(hw:bx X ι st w)(h:N4 name hv x call fr st= .ok v aK st'):
 aK=fr∧cg X ι w v st st' (execOp a.eval o):=by
 have bS:=ae.aj hw aa;generalize cu:a.eval x=e3 at bS;unfold N4 at h;generalize q4:fr.aj x=j6 at h bS;cases j6 with
 |func f dR wW=>
  cases f with
  |method n=>
   have a0:cond (n==name) (match dR.toList with|[.iface t _]=>bm (wO t hv) (fun _=>aX.ok (.func (.method n) dR wW) fr st) .no|_=>.no) .no= .ok v aK st':=h;clear h;cases hn:n==name with
   |false=>rw[hn]at a0;cases a0
   |true=>
    rw[hn]at a0;have hn:=zcs hn;subst hn;have h:(match dR.toList with|[.iface t _]=>bm (wO t hv) (fun _=>aX.ok (.func (.method n) dR wW) fr st) .no|_=>.no)= .ok v aK st':=a0;split at h
    ·rename_i t u Hq;obtain⟨g,aO,h⟩:=fp h (by simp);cases h;have Dd:=zbn.1 aV _ (JQ aO);cases bS with
     |func _ gr _ av _ vs fG J U af ax=>
      rcases fG with⟨rfl,_⟩|⟨l,b,e,_⟩
      ·refine⟨rfl,cg.same (v':=.func (.method n) av vs) hw ?_ (.func _ _ _ _ _ _ (.inl ⟨rfl,by simp⟩) J U af ax)⟩;have eI:dR.size=1:=by rw[<-zbl,Hq];rfl
       have hr:=U 0 (by omega) (by omega);have x2:dR[0]= .iface t u:=by
        have:dR.toList[0]? =some (.iface t u):=by rw[Hq];rfl
        rw[Array.getElem?_toList,zco (by omega)]at this;exact Option.some.inj this
       rw[x2]at hr;generalize Dz:av[0]=acR at hr;cases hr with
       |iface _ _ sY hu=>
       have aF:av[0]? =some (.iface t sY):=by
        rw[zco (by omega),Dz]
       have aY:=adp Dd sY w;unfold execOp;rw[ao];simp only[cu,aF,program,Sem.run_bind];simp[Sem.run,Result.andThen,aY]at aY⊢
      ·cases e
    ·cases h
  |_=>cases h
 |_=>cases h
end
def amF(ab:X.jP op (.qS f ps)=true):∃g args ts,op= .defer {callee:=.value g,args:=args,argTypes:=ts}∧(b1 X.aD f g&&jQ X.aD ps args.toList)=true:=by
 cases op with
 |defer c=>
  obtain⟨callee,args,ts⟩:=c;cases callee with
  |value g=>exact⟨g,args,ts,rfl,ab⟩
  |_=>cases ab
 |_=>cases ab
def amN{p:bi}(ab:X.jP op (.rA p)=true):∃q,op= .panic q∧b1 X.aD p q=true:=by
 cases op with
 |panic q=>exact⟨q,rfl,ab⟩
 |_=>cases ab
section
variable{ι:bC}{fr aK:aR}{a:Act}{aQ:Nat}{st st':ay}{w:co}{o:Oper}{v:be}{call:bO}
variable{x:dg}
def aoE(ab:X.jP o.op x=true)(ae:cz ι fr a aQ)(hw:bx X ι st w)(h:bR call x fr st= .ok v aK st')(aa:LQ x=false)(hp:x.inPlace=true):
 aK=fr∧w5 X x ι w v st st' (execOp a.eval o):=by
 generalize ao:o.op=op at ab;cases x with
 |tn k p=>
  cases op with
  |convert s t q=>
   have ab:(b1 X.aD p q&&(match X.P.underlying s,X.P.underlying t with|some _,some (.int k')=>decide (k=k')|_,_=>false))=true:=ab;rw[b3]at ab;obtain⟨J,U⟩:=ab;obtain⟨rfl,a5⟩:=cR J;split at U
   ·rename_i EL k' ai aV;have e:=zbT U;subst e;exact e1 (arc (call:=call) a5 ao ai aV ae hw h) rfl
   ·cases U
  |_=>cases ab
 |xc p=>
  cases op with
  |convert s t q=>
   have ab:(b1 X.aD p q&&(match X.P.underlying s,X.P.underlying t with|some _,some .string=>true|_,_=>false))=true:=ab;rw[b3]at ab;obtain⟨J,U⟩:=ab;obtain⟨rfl,a5⟩:=cR J;split at U
   ·rename_i EL ai aV;exact e1 (arb (call:=call) a5 ao ai aV ae hw h) rfl
   ·cases U
  |_=>cases ab
 |zt p=>
  cases op with
  |convert s t q=>
   have ab:(b1 X.aD p q&&(match X.P.underlying s,X.P.underlying t with|some (.slice e),some .string=>(match X.P.underlying e with|some (.int .u8)=>true|_=>false)|_,_=>false))=true:=ab;rw[b3]at ab;obtain⟨J,U⟩:=ab;obtain⟨rfl,a5⟩:=cR J;split at U
   ·rename_i e ai aV;split at U
    ·rename_i he;exact e1 (ara (call:=call) a5 ao ai aV he ae hw h) rfl
    ·cases U
   ·cases U
  |_=>cases ab
 |vj e p=>
  cases op with
  |convert s t q=>
   have ab:(b1 X.aD p q&&(match X.P.underlying s,X.P.underlying t with|some .string,some (.slice cy)=>Nat.beq e cy&&(match X.P.underlying cy,gq X.P cy with|some (.int .u8),some 1=>true|_,_=>false)|_,_=>false))=true:=ab;rw[b3]at ab;obtain⟨J,U⟩:=ab;obtain⟨rfl,a5⟩:=cR J;split at U
   ·rename_i cy ai aV;rw[b3]at U;have aw:=eG U.1;subst aw;have af:=U.2;split at af
    ·rename_i he aJ;obtain⟨i,hi,pe⟩:=mK aJ;exact zk (ari (call:=call) a5 ao ai aV he hi pe ae hw h) rfl
    ·cases af
   ·cases U
  |_=>cases ab
 |HV t p=>
  cases op with
  |makeInterface hd q=>
   have ab:(Nat.beq t hd&&b1 X.aD p q&&(match X.P.underlying hd with|some (.interface _)=>false|some _=>true|none=>false))=true:=ab;simp only[b3]at ab;obtain⟨⟨J,U⟩,af⟩:=ab;have aw:=eG J;subst aw;obtain⟨rfl,a5⟩:=cR U;split at af
   ·cases af
   ·rename_i d cx aq;exact e1 (arF (call:=call) a5 ao aq (fun ms e=>cx ms (by rw[e])) ae hw h) rfl
   ·cases af
  |_=>cases ab
 |uk fn p c=>
  cases fn with
  |func f=>
   cases op with
   |makeFunc qZ q d=>
    cases qZ with
    |func g=>
     have ab:(Nat.beq f g&&jQ X.aD p q.toList&&jQ X.aD c d.toList)=true:=ab;simp only[b3]at ab;obtain⟨⟨J,U⟩,af⟩:=ab;have aw:=eG J;subst aw;obtain⟨rfl,a5⟩:=qs U;obtain⟨rfl,bD⟩:=qs af;exact e1 (abt (call:=call) (by simp) a5 bD ao ae hw h) rfl
    |_=>cases ab
   |_=>cases ab
  |method f=>
   cases op with
   |makeFunc qZ q d=>
    cases qZ with
    |method g=>
     have ab:(f==g&&jQ X.aD p q.toList&&jQ X.aD c d.toList)=true:=ab;simp only[b3]at ab;obtain⟨⟨J,U⟩,af⟩:=ab;have aw:=zcs J;subst aw;obtain⟨rfl,a5⟩:=qs U;obtain⟨rfl,bD⟩:=qs af;exact e1 (abt (call:=call) (by simp) a5 bD ao ae hw h) rfl
    |_=>cases ab
   |_=>cases ab
  |_=>cases op<;>cases ab
 |H9 name hv p=>
  cases op with
  |nilCheck q=>
   have ab:(b1 X.aD p q&&hv.all (fun z=>sy X.P z.1 name z.2))=true:=ab;rw[b3]at ab;obtain⟨rfl,U⟩:=cR ab.1;exact e1 (arN (call:=call) U ab.2 ao ae hw h) rfl
  |_=>cases ab
 |rr e bU z l c=>
  cases op with
  |makeSlice t l' b6=>
   have ab:(b1 X.aD l l'&&b1 X.aD c b6&&(match X.P.underlying t with
    |some (.slice el)=>Nat.beq e el&&(match X.P.info? el with
     |some i=>Nat.beq bU i.bytes&& !Nat.beq i.size 0&&(match i.zero with|some v=>lo z v.cells.toList&&mL z&&Nat.beq v.cells.toList.length i.size|none=>false)
     |none=>false)
    |_=>false))=true:=ab
   simp only[b3]at ab;obtain⟨⟨J,U⟩,af⟩:=ab;obtain⟨rfl,a5⟩:=cR J;obtain⟨rfl,bD⟩:=cR U;split at af
   ·rename_i el hu;rw[b3]at af;obtain⟨ax,a0⟩:=af;have aw:=eG ax;subst aw;split at a0
    ·rename_i i hi;simp only[b3]at a0;obtain⟨⟨ck,dx⟩,gF⟩:=a0;have e2:=eG ck;subst e2;split at gF
     ·rename_i s9 aJ;simp only[b3]at gF;obtain⟨⟨hZ,tB⟩,GH⟩:=gF;have bW:=yZ _ _ hZ;subst bW;exact zk (arH (call:=call) a5 bD ao hu hi aJ (eG GH) (H3 dx) tB ae hw h) rfl
     ·cases gF
    ·cases a0
   ·cases af
  |_=>cases ab
 |sV p aL hi=>
  cases op with
  |slice t q rp dX pj=>
   cases pj with
   |none=>
    have ab:(b1 X.aD p q&&lX X.aD aL rp&&lX X.aD hi dX&&(match X.P.underlying t with|some .string=>true|_=>false))=true:=ab;simp only[b3]at ab;obtain⟨⟨⟨J,U⟩,af⟩,ax⟩:=ab;obtain⟨rfl,a5⟩:=cR J;obtain⟨rfl,bD⟩:=wo U;obtain⟨rfl,dt⟩:=wo af;split at ax
    ·rename_i hu;exact e1 (arT (call:=call) a5 bD dt ao hu ae hw h) rfl
    ·cases ax
   |some m=>cases ab
  |_=>cases ab
 |Bt n s p aL hi eR=>
  cases op with
  |slice t q rp dX pj=>
   have ab:(b1 X.aD p q&&lX X.aD aL rp&&lX X.aD hi dX&&lX X.aD eR pj&&(pj.isNone||dX.isSome)&&
    (match X.P.underlying t with|some (.array cc e)=>Nat.beq n cc&&(match gq X.P e with|some bz=>Nat.beq s bz|none=>false)|_=>false))=true:=ab
   simp only[b3]at ab;obtain⟨⟨⟨⟨⟨J,U⟩,af⟩,ax⟩,a0⟩,ck⟩:=ab;obtain⟨rfl,a5⟩:=cR J;obtain⟨rfl,bD⟩:=wo U;obtain⟨rfl,dt⟩:=wo af;obtain⟨rfl,ud⟩:=wo ax;have Mq:eR≠none->hi≠none:=by
    intro hm he;subst he;cases eR
    ·exact hm rfl
    ·simp at a0
   split at ck
   ·rename_i cc e hu;rw[b3]at ck;obtain⟨dx,gF⟩:=ck;have aw:=eG dx;subst aw;split at gF
    ·rename_i bz ai;obtain⟨cw,gH,rfl⟩:=mK ai;have e2:=eG gF;subst e2;exact e1 (arR (call:=call) a5 bD dt ud Mq ao hu gH ae hw h) rfl
    ·cases gF
   ·cases ck
  |_=>cases ab
 |na s p aL hi eR=>
  cases op with
  |slice t q rp dX pj=>
   have ab:(b1 X.aD p q&&lX X.aD aL rp&&lX X.aD hi dX&&lX X.aD eR pj&&(pj.isNone||dX.isSome)&&
    (match X.P.underlying t with|some (.slice e)=>(match gq X.P e with|some bz=>Nat.beq s bz|none=>false)|_=>false))=true:=ab
   simp only[b3]at ab;obtain⟨⟨⟨⟨⟨J,U⟩,af⟩,ax⟩,a0⟩,ck⟩:=ab;obtain⟨rfl,a5⟩:=cR J;obtain⟨rfl,bD⟩:=wo U;obtain⟨rfl,dt⟩:=wo af;obtain⟨rfl,ud⟩:=wo ax;have Mq:eR≠none->hi≠none:=by
    intro hm he;subst he;cases eR
    ·exact hm rfl
    ·simp at a0
   split at ck
   ·rename_i e hu;split at ck
    ·rename_i bz ai;obtain⟨cw,gH,rfl⟩:=mK ai;have e2:=eG ck;subst e2;exact e1 (arS (call:=call) a5 bD dt ud Mq ao hu gH ae hw h) rfl
    ·cases ck
   ·cases ck
  |_=>cases ab
 |xu off p=>
  cases op with
  |fieldAddr t q f=>
   have ab:(b1 X.aD p q&&(match X.P.underlying t with
    |some (.struct fields)=>(match fields[f]? with|some fd=>Nat.beq off fd.offset&&(match gq X.P fd.type with|some s=> !Nat.beq s 0|none=>false)|none=>false)
    |_=>false))=true:=ab
   rw[b3]at ab;obtain⟨J,U⟩:=ab;obtain⟨rfl,a5⟩:=cR J;split at U
   ·rename_i fields hu;split at U
    ·rename_i fd tL;rw[b3]at U;obtain⟨af,ax⟩:=U;have aw:=eG af;subst aw;split at ax
     ·rename_i s ai;obtain⟨i,hi,rfl⟩:=mK ai;exact e1 (arq (call:=call) a5 ao hu tL hi (H3 ax) ae hw h) rfl
     ·cases ax
    ·cases U
   ·cases U
  |_=>cases ab
 |o3 off a9 hy p=>
  cases op with
  |field t q f=>
   have ab:(b1 X.aD p q&&(match X.P.underlying t with
    |some (.struct fields)=>(match fields[f]? with|some fd=>Nat.beq off fd.offset&&(match gq X.P fd.type,pJ X.P fd.type with|some s,some g=>Nat.beq a9 s&&(hy==g)|_,_=>false)|none=>false)
    |_=>false))=true:=ab
   rw[b3]at ab;obtain⟨J,U⟩:=ab;obtain⟨rfl,a5⟩:=cR J;split at U
   ·rename_i fields hu;split at U
    ·rename_i fd tL;rw[b3]at U;obtain⟨af,ax⟩:=U;have aw:=eG af;subst aw;split at ax
     ·rename_i s g ai aO;rw[b3]at ax;obtain⟨i,hi,rfl⟩:=mK ai;obtain⟨d,aq,e⟩:=B1 aO;have e2:=eG ax.1;subst e2;have bW:hy=qL d:=by rw[e];simpa using ax.2
      subst bW;exact e1 (ars (call:=call) a5 ao hu tL aq hi ae hw h) rfl
     ·cases ax
    ·cases U
   ·cases U
  |_=>cases ab
 |so n a9 p i=>
  cases op with
  |indexAddr t q j=>
   have ab:(b1 X.aD p q&&b1 X.aD i j&&(match X.P.underlying t with|some (.array cc e)=>Nat.beq n cc&&(match gq X.P e with|some s=>Nat.beq a9 s|none=>false)|_=>false))=true:=ab;simp only[b3]at ab;obtain⟨⟨J,U⟩,af⟩:=ab;obtain⟨rfl,a5⟩:=cR J;obtain⟨rfl,bD⟩:=cR U;split at af
   ·rename_i cc e hu;rw[b3]at af;obtain⟨ax,a0⟩:=af;have aw:=eG ax;subst aw;split at a0
    ·rename_i s ai;obtain⟨cw,gH,rfl⟩:=mK ai;have e2:=eG a0;subst e2;exact e1 (art (call:=call) a5 bD ao hu gH ae hw h) rfl
    ·cases a0
   ·cases af
  |_=>cases ab
 |lL a9 p i=>
  cases op with
  |indexAddr t q j=>
   have ab:(b1 X.aD p q&&b1 X.aD i j&&(match X.P.underlying t with|some (.slice e)=>(match gq X.P e with|some s=>Nat.beq a9 s|none=>false)|_=>false))=true:=ab;simp only[b3]at ab;obtain⟨⟨J,U⟩,af⟩:=ab;obtain⟨rfl,a5⟩:=cR J;obtain⟨rfl,bD⟩:=cR U;split at af
   ·rename_i e hu;split at af
    ·rename_i s ai;obtain⟨cw,gH,rfl⟩:=mK ai;have e2:=eG af;subst e2;exact e1 (aru (call:=call) a5 bD ao hu gH ae hw h) rfl
    ·cases af
   ·cases af
  |_=>cases ab
 |uc p i=>
  cases op with
  |index t q j=>
   have ab:(b1 X.aD p q&&b1 X.aD i j&&(match X.P.underlying t with|some .string=>true|_=>false))=true:=ab;simp only[b3]at ab;obtain⟨⟨J,U⟩,af⟩:=ab;obtain⟨rfl,a5⟩:=cR J;obtain⟨rfl,bD⟩:=cR U;split at af
   ·rename_i hu;exact e1 (ary (call:=call) a5 bD ao hu ae hw h) rfl
   ·cases af
  |_=>cases ab
 |HE n a9 hy p i=>
  cases op with
  |index t q j=>
   have ab:(b1 X.aD p q&&b1 X.aD i j&&(match X.P.underlying t with|some (.array cc e)=>Nat.beq n cc&&(match gq X.P e,pJ X.P e with|some s,some g=>Nat.beq a9 s&&(hy==g)|_,_=>false)|_=>false))=true:=ab;simp only[b3]at ab;obtain⟨⟨J,U⟩,af⟩:=ab;obtain⟨rfl,a5⟩:=cR J;obtain⟨rfl,bD⟩:=cR U;split at af
   ·rename_i cc e hu;rw[b3]at af;obtain⟨ax,a0⟩:=af;have aw:=eG ax;subst aw;split at a0
    ·rename_i s g ai aO;rw[b3]at a0;obtain⟨cw,gH,rfl⟩:=mK ai;obtain⟨d,aq,e⟩:=B1 aO;have e2:=eG a0.1;subst e2;have bW:hy=qL d:=by rw[e];simpa using a0.2
     subst bW;exact e1 (arx (call:=call) a5 bD ao hu aq gH ae hw h) rfl
    ·cases a0
   ·cases af
  |_=>cases ab
 |JS t z ok p=>
  cases op with
  |typeAssert q kC hd wi=>
   have ab:(b1 X.aD p q&&Nat.beq t hd&&(ok==wi)&&(match X.P.underlying hd with|some (.interface _)=>false|some _=>true|none=>false)&&(match rV X.P hd with|some v=>dC z v&&jX z|none=>false))=true:=ab;simp only[b3]at ab;obtain⟨⟨⟨⟨J,U⟩,af⟩,ax⟩,a0⟩:=ab;obtain⟨rfl,a5⟩:=cR J;have aw:=eG U;subst aw;have e2:ok=wi:=by simpa using af
   subst e2;split at ax
   ·cases ax
   ·rename_i d cx aq;split at a0
    ·rename_i s9 rf;rw[b3]at a0;have bW:=ng _ _ a0.1;subst bW;obtain⟨i,hi,aJ⟩:=Ff rf;exact e1 (arX (call:=call) a5 ao aq (fun ms e=>cx ms (by rw[e])) hi aJ a0.2 ae hw h) rfl
    ·cases a0
   ·cases ax
  |_=>cases ab
 |xt p i=>
  cases op with
  |extract q j=>
   have ab:(b1 X.aD p q&&Nat.beq i j)=true:=ab;rw[b3]at ab;obtain⟨rfl,a5⟩:=cR ab.1;have aw:=eG ab.2;subst aw;exact e1 (arp (call:=call) a5 ao ae hw h) rfl
  |_=>cases ab
 |Ck p=>
  cases op with
  |convert s t q=>
   have ab:(b1 X.aD p q&&(match X.P.underlying s,X.P.underlying t with|some (.pointer e),some .unsafePointer=>(match gq X.P e with|some n=> !Nat.beq n 0|none=>false)|_,_=>false))=true:=ab;rw[b3]at ab;obtain⟨J,U⟩:=ab;obtain⟨rfl,a5⟩:=cR J;split at U
   ·rename_i e ai aV;split at U
    ·rename_i n hn;obtain⟨i,hi,rfl⟩:=mK hn;exact e1 (arf (call:=call) a5 ao ai aV hi (H3 U) ae hw h) rfl
    ·cases U
   ·cases U
  |_=>cases ab
 |Cl e n p=>
  cases op with
  |convert s t q=>
   have ab:(b1 X.aD p q&&(match X.P.underlying s,X.P.underlying t with|some .unsafePointer,some (.pointer cy)=>Nat.beq e cy&&(match gq X.P cy with|some m=>Nat.beq n m&& !Nat.beq m 0|none=>false)|_,_=>false))=true:=ab;rw[b3]at ab;obtain⟨J,U⟩:=ab;obtain⟨rfl,a5⟩:=cR J;split at U
   ·rename_i cy ai aV;rw[b3]at U;obtain⟨af,ax⟩:=U;have aw:=eG af;subst aw;split at ax
    ·rename_i m hm;rw[b3]at ax;obtain⟨i,hi,rfl⟩:=mK hm;have e2:=eG ax.1;subst e2;exact e1 (arj (call:=call) a5 ao ai aV hi (H3 ax.2) ae hw h) rfl
    ·cases ax
   ·cases U
  |_=>cases ab
 |call f as=>cases hp
 |inv _ _ _=>cases hp
 |wH=>cases hp
 |qS f as=>cases hp
 |rA p=>cases hp
 |ot p=>
  obtain⟨q,t,rfl,hj⟩:=amI ab;rw[b3]at hj;obtain⟨rfl,a5⟩:=cR hj.1;have U:=hj.2;split at U
  ·rename_i e hu;exact e1 (arB (call:=call) a5 ao hu ae hw h) rfl
  ·cases U
 |ug p=>
  obtain⟨q,t,rfl,hj⟩:=amJ ab;rw[b3]at hj;obtain⟨rfl,a5⟩:=cR hj.1;have U:=hj.2;split at U
  ·rename_i hu;exact e1 (arC (call:=call) a5 ao hu ae hw h) rfl
  ·cases U
 |x9 n=>
  obtain⟨q,t,rfl,hj⟩:=amH ab;split at hj
  ·rename_i m d hu;have e:=eG hj;subst e;exact e1 (arz (call:=call) ao hu hw h) rfl
  ·rename_i u hu;split at hj
   ·rename_i m d Dt;have e:=eG hj;subst e;exact e1 (arA (call:=call) ao hu Dt hw h) rfl
   ·cases hj
  ·cases hj
 |app e a9 bU s p=>
  obtain⟨bz,q,t,u,rfl,hj⟩:=amD ab;simp only[b3]at hj;obtain⟨⟨J,U⟩,af⟩:=hj;obtain⟨rfl,a5⟩:=cR J;obtain⟨rfl,bD⟩:=cR U;split at af
  ·rename_i el d hu aq;simp only[b3]at af;obtain⟨⟨ax,a0⟩,ck⟩:=af;have aw:=eG ax;subst aw;split at ck
   ·rename_i i hi;simp only[b3]at ck;obtain⟨⟨dx,gF⟩,hZ⟩:=ck;have e2:=eG dx;have bW:=eG gF;subst e2 bW;split at hZ
    ·rename_i s9 aJ;exact rU (aq3 (call:=call) a5 bD ao hu aq (fun k e=>by subst e;cases a0) hi aJ (eG hZ) ae hw h) rfl rfl
    ·cases hZ
   ·cases ck
  ·cases af
 |eR p ps=>
  obtain⟨q,dh,ts,rfl,hj⟩:=amL ab;rw[b3]at hj;obtain⟨rfl,a5⟩:=cR hj.1;obtain⟨rfl,bD⟩:=qs hj.2;exact e1 (arL (call:=call) (fun y aF=>by rcases zar.1 aF with rfl|aF;exact a5;exact bD y aF) ao ae hw h) rfl
 |yk p ps=>
  obtain⟨q,dh,ts,rfl,hj⟩:=amK ab;rw[b3]at hj;obtain⟨rfl,a5⟩:=cR hj.1;obtain⟨rfl,bD⟩:=qs hj.2;exact e1 (arJ (call:=call) (fun y aF=>by rcases zar.1 aF with rfl|aF;exact a5;exact bD y aF) ao ae hw h) rfl
 |qR a9 d s=>
  obtain⟨j4,bz,t,u,rfl,hj⟩:=amE ab;simp only[b3]at hj;obtain⟨⟨J,U⟩,af⟩:=hj;obtain⟨rfl,a5⟩:=cR J;obtain⟨rfl,bD⟩:=cR U;split at af
  ·rename_i e hu;split at af
   ·rename_i n hn;obtain⟨i,hi,rfl⟩:=mK hn;have e2:=eG af;subst e2;exact rU (arh (call:=call) a5 bD ao hu hi ae hw h) rfl rfl
   ·cases af
  ·cases af
 |Bo p=>
  obtain⟨q,t,rfl,hj⟩:=amP ab;obtain⟨rfl,a5⟩:=cR hj;exact e1 (arQ (call:=call) a5 ao ae hw h) rfl
 |s0 e p n=>
  obtain⟨q,m,t,u,rfl,hj⟩:=amQ ab;simp only[b3]at hj;obtain⟨⟨J,U⟩,af⟩:=hj;obtain⟨rfl,a5⟩:=cR J;obtain⟨rfl,bD⟩:=cR U;split at af
  ·rename_i cy hu;rw[b3]at af;obtain⟨ax,a0⟩:=af;have aw:=eG ax;subst aw;split at a0
   ·rename_i aJ;obtain⟨i,hi,pe⟩:=mK aJ;exact rU (arZ (call:=call) a5 bD ao hu hi pe ae hw h) rfl rfl
   ·cases a0
  ·cases af
 |kc p c=>
  obtain⟨f,q,d,ts,rfl,hj⟩:=amG ab;simp only[b3]at hj;obtain⟨⟨J,U⟩,af⟩:=hj;obtain⟨rfl,a5⟩:=cR J;obtain⟨rfl,bD⟩:=cR U;exact e1 (arv (call:=call) a5 bD af ao ae hw h) rfl
 |jN p=>
  obtain⟨f,q,ts,rfl,hj⟩:=amM ab;rw[b3]at hj;obtain⟨rfl,a5⟩:=cR hj.1;exact e1 (arO (call:=call) a5 hj.2 ao ae hw h) rfl
 |ext y=>exact aro (by rw[ao];exact ab) ae hw h
 |_=>exact absurd aa.symm Bool.false_ne_true
def NZ(ab:X.jP o.op x=true)(ae:cz ι fr a aQ)(hw:bx X ι st w)(h:bR call x fr st= .ok v aK st')(hp:x.inPlace=true):
 aK=fr∧w5 X x ι w v st st' (execOp a.eval o):=by
 cases aa:LQ x
 ·exact aoE ab ae hw h aa hp
 ·exact aoD ab ae hw h aa
end
end Go.ak
namespace Go.ak
structure dL where
 fn:ci
 kind:CallKind
 b7:am Nat
def dL.at(b:dL)(a:Act)(todo:ac Item):Frame:=
 {fn:=b.fn,tmps:=a.tmps,todo:=todo,defers:=a.defers,mode:=.run,kind:=b.kind,roundOf:=b.b7}
def eval_at(b:dL)(a:Act)(todo:ac Item):(b.at a todo).eval=a.eval:=by
 funext x;cases x<;>rfl
section
variable{P:d9}{b:dL}{a:Act}{k:ac Item}{cs:ac Frame}{w:co}{ops:ap Oper}
variable{o:Oper}{i:Nat}{rest:ac Nat}{w':co}{c:Code}{l:Nat}{x y:Code}{v:be}{f:ci}
def asy:step P (lone (b.at a (.code .skip::k)) cs w)= .next (lone (b.at a k) cs w):=step_lone_go (by simp[stepG,stepG.exec,dL.at])
def ash:step P (lone (b.at a (.code (.label l)::k)) cs w)= .next (lone (b.at a k) cs w):=step_lone_go (by simp[stepG,stepG.exec,dL.at])
def ase{id:Nat}:step P (lone (b.at a (.inBlock id::k)) cs w)= .next (lone (b.at a k) cs w):=step_lone_go (by simp[stepG,stepG.exec,dL.at])
def asg:step P (lone (b.at a (.inScope c::k)) cs w)= .next (lone (b.at a k) cs w):=step_lone_go (by simp[stepG,stepG.exec,dL.at])
def asx:step P (lone (b.at a (.code (.seq x y)::k)) cs w)= .next (lone (b.at a (.code x:: .code y::k)) cs w):=step_lone_go (by simp[stepG,stepG.exec,dL.at])
def abH{c:bi}{t:Bool}(h:a.eval c= .bool t):
 step P (lone (b.at a (.code (.cond c x y)::k)) cs w)= .next (lone (b.at a (.code (if t then x else y)::k)) cs w):=
 step_lone_go (by
  have:=eval_at b a (.code (.cond c x y)::k);simp only[dL.at]at this;simp[stepG,stepG.exec,dL.at,this,h])
def asa{id:Nat}:step P (lone (b.at a (.code (.block id c)::k)) cs w)= .next (lone (b.at a (.code c:: .inBlock id::k)) cs w):=step_lone_go (by simp[stepG,stepG.exec,dL.at])
def asi:step P (lone (b.at a (.code (.loop c)::k)) cs w)= .next (lone (b.at a (.code c:: .inLoop c::k)) cs w):=step_lone_go (by simp[stepG,stepG.exec,dL.at])
def asf:step P (lone (b.at a (.inLoop c::k)) cs w)= .next (lone (b.at a (.code c:: .inLoop c::k)) cs w):=step_lone_go (by simp[stepG,stepG.exec,dL.at])
def asw:step P (lone (b.at a (.code (.scope c)::k)) cs w)= .next (lone (b.at a (.code c:: .inScope c::k)) cs w):=step_lone_go (by simp[stepG,stepG.exec,dL.at])
def asd{id:Nat}{k':ac Item}(h:exitTo id k=some k'):step P (lone (b.at a (.code (.exit id)::k)) cs w)= .next (lone (b.at a k') cs w):=step_lone_go (by simp[stepG,stepG.exec,dL.at,h])
def aso{id:Nat}:step P (lone (b.at a (.code (.region id ops false)::k)) cs w)= .next (lone (b.at a (.inRegion ops (List.range ops.size)::k)) cs w):=step_lone_go (by simp[stepG,stepG.exec,dL.at])
def asp{id:Nat}:step P (lone (b.at a (.code (.region id ops true)::k)) cs w)=
 .next (lone (b.at a (.inRegion ops (Region.schedule (P.follows .mixedOrders) ops (w.tape w.drawn (.order b.fn id)))::k)) cs {w with drawn:=w.drawn+1}):=
 step_lone_go (by simp[stepG,stepG.exec,dL.at,choose,Sem.run,Question.forced,Question.cut])
def abI:step P (lone (b.at a (.inRegion ops []::k)) cs w)= .next (lone (b.at a k) cs w):=step_lone_go (by simp[stepG,stepG.exec,dL.at])
def finish_at(i:Nat)(rest:ac Nat)(v:be)(ao:ops[i]? =some o):
 (b.at a (.inRegion ops (i::rest)::k)).finish v=b.at (a.put o.dst v) (.inRegion ops rest::k):=by
 cases h:o.dst<;>simp[Frame.finish,dL.at,Act.put,ao,h]
def JM(ao:ops[i]? =some o)(h:Region.wanted o (yielded ops a.tmps)=false):
 step P (lone (b.at a (.inRegion ops (i::rest)::k)) cs w)= .next (lone (b.at (a.put o.dst undef) (.inRegion ops rest::k)) cs w):=by
 rw[<-finish_at i rest undef ao];exact step_lone_go (by simp only[dL.at];simp[stepG,stepG.exec,ao,h])
def wN(ao:ops[i]? =some o)(hw:Region.wanted o (yielded ops a.tmps)=true)(aq:b.b7=none∨∀c,o.op≠.defer c):
 stepG P true {frame:=b.at a (.inRegion ops (i::rest)::k),callers:=cs,status:=.running,dying:=none} w=
  stepG.apply P true (b.at a (.inRegion ops (i::rest)::k)) cs none (execOp a.eval o) w:=by
 have he:=eval_at b a (.inRegion ops (i::rest)::k);simp only[dL.at]at he;simp only[stepG,stepG.exec,dL.at,ao,Option.map_some,hw,zdx,if_true,stepG.oper,Frame.oper?];rcases aq with aq|aq
 ·simp only[aq]at he⊢;rw[he]
 ·cases hr:b.b7 with
  |none=>simp only[hr]at he ⊢;rw[he]
  |some l=>
   rw[hr]at he;cases dr:o.op<;>simp only[]<;>first|(exact absurd dr (aq _))|(rw[he])
def Pu(ao:ops[i]? =some o)(hw:Region.wanted o (yielded ops a.tmps)=true)(aq:b.b7=none∨∀c,o.op≠.defer c)
 (hr:(execOp a.eval o).run P w= .ok (.value v) w'):step P (lone (b.at a (.inRegion ops (i::rest)::k)) cs w)= .next (lone (b.at (a.put o.dst v) (.inRegion ops rest::k)) cs w'):=by
 refine step_lone_go ?_;rw[wN ao hw aq,<-finish_at i rest v ao];simp[stepG.apply,hr]
def asl(ao:ops[i]? =some o)(hw:Region.wanted o (yielded ops a.tmps)=true)(aq:b.b7=none∨∀c,o.op≠.defer c)
 (hr:(execOp a.eval o).run P w= .ok .skip w'):step P (lone (b.at a (.inRegion ops (i::rest)::k)) cs w)= .next (lone (b.at (a.put o.dst undef) (.inRegion ops rest::k)) cs w'):=by
 refine step_lone_go ?_;rw[wN ao hw aq,<-finish_at i rest undef ao];simp[stepG.apply,hr]
def asj{d:Deferred}(ao:ops[i]? =some o)(hw:Region.wanted o (yielded ops a.tmps)=true)(aq:b.b7=none)
 (hr:(execOp a.eval o).run P w= .ok (.defer d) w'):step P (lone (b.at a (.inRegion ops (i::rest)::k)) cs w)= .next (lone (b.at ({a with defers:=d::a.defers}.put o.dst undef) (.inRegion ops rest::k)) cs w'):=by
 refine step_lone_go ?_;rw[wN ao hw (.inl aq)];have:=finish_at (b:=b) (a:={a with defers:=d::a.defers}) (k:=k) i rest undef ao;rw[<-this];simp[stepG.apply,hr,dL.at]
def JK{args:ap be}(ao:ops[i]? =some o)(hw:Region.wanted o (yielded ops a.tmps)=true)(aq:b.b7=none∨∀c,o.op≠.defer c)
 (hr:(execOp a.eval o).run P w= .ok (.enter f args) w'):step P (lone (b.at a (.inRegion ops (i::rest)::k)) cs w)= .next (lone (Frame.enter P f args .normal) (b.at a (.inRegion ops (i::rest)::k)::cs) w'):=by
 refine step_lone_go ?_;rw[wN ao hw aq];simp[stepG.apply,hr,dL.at]
def JL{ts:ap be}{dn body:Code}(ao:ops[i]? =some o)(hw:Region.wanted o (yielded ops a.tmps)=true)(aq:b.b7=none∨∀c,o.op≠.defer c)
 (hr:(execOp a.eval o).run P w= .ok (.round l f ts dn body) w'):step P (lone (b.at a (.inRegion ops (i::rest)::k)) cs w)= .next (lone (Frame.round l f ts dn body .normal) (b.at a (.inRegion ops (i::rest)::k)::cs) w'):=by
 refine step_lone_go ?_;rw[wN ao hw aq];simp[stepG.apply,hr,dL.at]
def asn(ao:ops[i]? =some o)(hw:Region.wanted o (yielded ops a.tmps)=true)(aq:b.b7=none)
 (hr:(execOp a.eval o).run P w= .ok .recover w'):
 step P (lone (b.at a (.inRegion ops (i::rest)::k)) cs w)=match tryRecover (b.at a (.inRegion ops (i::rest)::k)) cs with
  |some (v,cs')=>.next (lone (b.at (a.put o.dst v) (.inRegion ops rest::k)) cs' w')
  |none=>.next (lone (b.at (a.put o.dst .nilIface) (.inRegion ops rest::k)) cs w'):=by
 have Dn:(b.at a (.inRegion ops (i::rest)::k)).roundOf=none:=aq;cases aV:tryRecover (b.at a (.inRegion ops (i::rest)::k)) cs with
 |none=>
  refine step_lone_go ?_;rw[wN ao hw (.inl aq),<-finish_at i rest _ ao];simp[stepG.apply,hr,Dn,aV]
 |some p=>
  obtain⟨v,cs'⟩:=p;refine step_lone_go ?_;rw[wN ao hw (.inl aq),<-finish_at i rest _ ao];simp[stepG.apply,hr,Dn,aV]
def asm(ao:ops[i]? =some o)(hw:Region.wanted o (yielded ops a.tmps)=true)(aq:b.b7=none∨∀c,o.op≠.defer c)
 (hr:(execOp a.eval o).run P w= .halt (.panic v) w'):step P (lone (b.at a (.inRegion ops (i::rest)::k)) cs w)= .next (lone {b.at a (.inRegion ops (i::rest)::k)with mode:=.panicking [{v,recovered:=false}]} cs w'):=by
 refine step_lone_go ?_;rw[wN ao hw aq];simp[stepG.apply,hr,dL.at,Frame.raise]
end
inductive Kl(P:Program)(j6:Value)(args:List Value)(w:World):Frame->Prop
 |enter (f:FuncId) (as:Array Value) (h:((do let d<-Deferred.ofValue j6 args.toArray;invoke d.target d.args):Sem Next).run P w= .ok (.enter f as) w):Kl P j6 args w (Frame.enter P f as .normal)
 |round (l:Nat) (f:FuncId) (ts:Array Value) (dn body:Code) (h:((do let d<-Deferred.ofValue j6 args.toArray;invoke d.target d.args):Sem Next).run P w= .ok (.round l f ts dn body) w):Kl P j6 args w (Frame.round l f ts dn body .normal)
def BQ(X:Ctx)(ι:bC)(w:co)(gm c:Frame)(cs:ac Frame):dM->Prop
 |.ret v st' _=>∃aU v' w',bs aU v v'∧bx X aU st' w'∧fv ι aU w w'∧Steps X.P (lone gm (c::cs) w) (lone (c.finish v') cs w')
 |.bk v st' _=>∃aU v' w',bs aU v v'∧bx X aU st' w'∧fv ι aU w w'∧Steps X.P (lone gm (c::cs) w) (lone (c.raise [{v:=v',recovered:=false}]) cs w')
 |.no=>True
def nj(X:Ctx)(call:bO):Prop:=
 ∀ι j6 args st Gu jB w,bs ι j6 Gu->bM ι args jB->bx X ι st w->call j6 args none st≠.no->
  ∃gm,Kl X.P Gu jB w gm∧∀c cs,BQ X ι w gm c cs (call j6 args none st)
def kF(b:dL)(bk:am be)(ι:bC)(bA:Bool->ac Frame):Prop:=
 match bk with
 |none=>∀(F:Frame) (eE:Bool),F.kind=b.kind->tryRecover F (bA eE)=none
 |some sK=>∃nS,bs ι sK nS∧(∀F:Frame,F.kind=b.kind->tryRecover F (bA false)=some (nS,bA true))∧∀F:Frame,F.kind=b.kind->tryRecover F (bA true)=none
def kF.mono{b:dL}{bk:am be}{ι aU:bC}{bA:Bool->ac Frame}(hle:ι.le aU)(h:kF b bk ι bA):kF b bk aU bA:=by
 cases bk with
 |none=>exact h
 |some sK=>obtain⟨nS,J,U,af⟩:=h;exact⟨nS,J.mono hle,U,af⟩
def qI(ι:bC)(x:am Nat)(y:am Nat):Prop:=(x=none∧y=none)∨∃l l',x=some l∧y=some l'∧ι l=some ⟨l',0,0,id⟩
def qI.mono{ι aU:bC}(hle:ι.le aU){x y:am Nat}(h:qI ι x y):qI aU x y:=by
 rcases h with h|⟨l,l',J,U,af⟩
 ·exact .inl h
 ·exact .inr ⟨l,l',J,U,hle _ _ af⟩
variable{X:Ctx}
def m5(X:Ctx)(aQ:Nat)(ops:ap Oper)(x:bK)(o:Oper):Bool:=
 (match x.d,o.dst with
  |none,none=>true
  |some a,some b=>Nat.beq a b&&Nat.ble (Nat.succ b) aQ
  |_,_=>false)&&X.jP o.op x.o&&
 (match x.g,o.guard with
  |none,none=>true
  |some (t,want),some (j,PQ)=>(want==PQ)&&(match(ops[j]?).bind (·.dst)with|some hd=>Nat.beq t hd&&Nat.ble (Nat.succ t) aQ|none=>false)
  |_,_=>false)
section
variable{aQ:Nat}{ops:ap Oper}{x:bK}{o:Oper}
def N8(h:m5 X aQ ops x o=true):x.d=o.dst∧∀t,x.d=some t->t<aQ:=by
 unfold m5 at h;simp only[b3]at h;have J:=h.1.1;split at J
 ·rename_i aw e2;rw[aw,e2];exact⟨rfl,by simp⟩
 ·rename_i a b aw e2;rw[b3]at J;have:=eG J.1;subst this;rw[aw,e2];exact⟨rfl,fun t aV=>by cases aV;exact pN.1 J.2⟩
 ·cases J
def Ir(h:m5 X aQ ops x o=true):X.jP o.op x.o=true:=by
 unfold m5 at h;simp only[b3]at h;exact h.1.2
variable{ι:bC}{fr aK:aR}{a:Act}{st st':ay}{w:co}{v:be}{call:bO}{b:dL}{bA:Bool->ac Frame}{k:ac Item}{i:Nat}{rest:ac Nat}
def acE{α:Type}{yes ht z r:α}(h:m5 X aQ ops x o=true)(ae:cz ι fr a aQ)(ab:hg fr x.g yes ht z=r)(aJ:z≠r):
 (yes=r∧Region.wanted o (yielded ops a.tmps)=true)∨(ht=r∧Region.wanted o (yielded ops a.tmps)=false):=by
 unfold m5 at h;simp only[b3]at h;have J:=h.2;split at J
 ·rename_i aw e2;rw[aw]at ab;exact .inl ⟨ab,by simp[Region.wanted,e2]⟩
 ·rename_i t want j PQ aw e2;rw[aw]at ab;rw[b3]at J;obtain⟨hw,af⟩:=J;have eg:want=PQ:=by simpa using hw
  subst eg;split at af
  ·rename_i hd sn;rw[b3]at af;have bW:=eG af.1;subst bW;have a4:t<a.tmps.size:=by rw[ae.size];exact pN.1 af.2
   have Aj:=ae.tmp t;have aO:a.tmps[t]? =some (a.tmps.getD t undef):=by simp[Array.getD,a4]
   have aF:yielded ops a.tmps j=match a.tmps.getD t undef with|.bool b=>some b|_=>none:=by
    unfold yielded;rw[sn];simp only[Option.bind_some,aO];cases a.tmps.getD t undef<;>rfl
   have m2:Region.wanted o (yielded ops a.tmps)=(yielded ops a.tmps j==some want):=by simp[Region.wanted,e2]
   have fh:nd (fr.tmp t) (fun b=>cond b (cond want yes ht) (cond want ht yes)) (qD (fr.tmp t) (fun _=>ht) z)=r:=ab;generalize hc:a.tmps.getD t undef=FW at Aj aF;generalize aV:fr.tmp t=PC at fh Aj;cases PC with
   |bool pM=>
    cases Aj;have jq:cond pM (cond want yes ht) (cond want ht yes)=r:=fh;rw[m2,aF];cases pM<;>cases want
    ·exact .inl ⟨jq,rfl⟩
    ·exact .inr ⟨jq,rfl⟩
    ·exact .inr ⟨jq,rfl⟩
    ·exact .inl ⟨jq,rfl⟩
   |tuple xs=>
    cases Aj;exact .inr ⟨fh,by rw[m2,aF];rfl⟩
   |_=>exact absurd fh aJ
  ·cases af
 ·cases J
def ao9(a:Act)(d:am Tmp)(v:be){ds:ac Deferred}:({a with defers:=ds}.put d v).tmps=(a.put d v).tmps:=by cases d<;>rfl
def Xp{P:d9}{t:Nat}{name:String}{g:ci}(h:sy P t name g=true){f:bi}{args:ap bi}{ts:ap ce}(ao:o.op= .call {callee:=.invoke f name,args:=args,argTypes:=ts}){wY:bi->be}(aI:wY f= .iface t v):
 (execOp wY o).run P w=((do let d<-Deferred.ofValue (.func (.func g) #[] #[]) (v::args.toList.map wY).toArray;invoke d.target d.args):Sem Next).run P w:=by
 have a7:(#[Value.iface t v]++Array.map wY args)[0]? =some (Value.iface t v):=by rw[Array.getElem?_append_left (by simp)];rfl
 have aw:(execOp wY o).run P w=(callMethod (.iface t v) name (args.map wY)).run P w:=by
  unfold execOp;rw[ao];simp[resolve,aI,invoke,a7];congr 2;apply Array.ext';simp[zcV];exact zaF (by simp)
 rw[aw,anM h];have e2: #[v]++Array.map wY args=(v::args.toList.map wY).toArray:=by
  apply Array.ext';simp
 rw[e2];simp[Deferred.ofValue,invoke]
def Zh(bE:m5 X aQ ops x o=true)(eN:nj X call)(ao:ops[i]? =some o)(fw:Region.wanted o (yielded ops a.tmps)=true)(ae:cz ι fr a aQ)(hw:bx X ι st w)(hb:qI ι fr.b7 b.b7)
 (hr:kF b fr.bk ι bA) (h:bR call x.o fr st= .ok v aK st'):
 ∃aU a' w',Steps X.P (lone (b.at a (.inRegion ops (i::rest)::k)) (bA fr.cM) w) (lone (b.at a' (.inRegion ops rest::k)) (bA aK.cM) w')∧cz aU (aK.put x.d v) a' aQ∧bx X aU st' w'∧fv ι aU w w'∧
  aK.bk=fr.bk∧aK.b7=fr.b7∧∃v',a'.tmps=(a.put o.dst v').tmps:=by
 obtain⟨lB,lC⟩:=N8 bE;have dr:=Ir bE;have qc:∀{q:Prop},(b.b7=none->q)->(fr.b7=none->q):=by
  intro q hq hn;rcases hb with⟨_,U⟩|⟨l,l',J,_,_⟩
  ·exact hq U
  ·rw[hn]at J;cases J
 by_cases hp:x.o.inPlace=true
 ·obtain⟨rfl,⟨aU,n,w',fQ,hn,eg,ab⟩,_⟩:=NZ dr ae hw h hp;have jJ:b.b7=none∨∀c,o.op≠.defer c:=by
   right;intro c hc;rw[hc]at dr;cases aa:x.o with
   |uk fn p q=>rw[aa]at dr;cases fn<;>cases dr
   |v3 p=>rw[aa]at h;cases h
   |refuse=>rw[aa]at h;cases h
   |qS p q=>rw[aa]at hp;cases hp
   |ext y=>rw[aa]at dr;cases y<;>cases dr
   |_=>rw[aa]at dr;cases dr
  rcases hn with⟨v',rfl,aI⟩|⟨rfl,rfl⟩
  ·refine⟨aU,a.put o.dst v',w',.one (Pu ao fw jJ fQ),?_,eg,ab,rfl,rfl,_,rfl⟩;rw[<-lB];exact(ae.mono ab.le).put lC aI
  ·refine⟨aU,a.put o.dst undef,w',.one (asl ao fw jJ fQ),?_,eg,ab,rfl,rfl,_,rfl⟩;rw[<-lB];exact(ae.mono ab.le).put lC (bs.undef aU)
 ·cases aa:x.o with
  |call f ps=>
   rw[aa]at h dr;obtain⟨g,args,ts,kQ,hj⟩:=Xo dr;simp only[b3]at hj;obtain⟨rfl,a5⟩:=cR hj.1.1;obtain⟨rfl,bD⟩:=qs hj.1.2;have aB:dM.rec (motive:=fun _=>aX) (fun v st _=>.ok v fr st) (fun v st _=>.bk v st) .no (call (fr.aj f) (eA fr args.toList) none st)=aX.ok v aK st':=h;have jJ:b.b7=none∨∀c,o.op≠.defer c:=.inr (by rw[kQ];simp);obtain⟨gm,e0,nG⟩:=eN ι (fr.aj f) (eA fr args.toList) st (a.eval f) (args.toList.map a.eval) w (ae.aj hw a5) (vp ae hw _ bD) hw (by intro e;rw[e]at aB;cases aB);have q3:(execOp a.eval o).run X.P w=((do let d<-Deferred.ofValue (a.eval f) (args.toList.map a.eval).toArray;invoke d.target d.args):Sem Next).run X.P w:=by
    unfold execOp;rw[kQ];simp[resolve,<-Array.toList_map]
   cases hc:call (fr.aj f) (eA fr args.toList) none st with
   |ret v1 cl eE=>
    rw[hc]at aB nG;have o5:aX.ok v1 fr cl=aX.ok v aK st':=aB;obtain⟨aw,e2,bW⟩:=ux o5;subst aw e2 bW;obtain⟨aU,v',w',aI,eg,ab,nI⟩:=nG (b.at a (.inRegion ops (i::rest)::k)) (bA fr.cM);have kP:=finish_at (b:=b) (a:=a) (k:=k) i rest v' ao;rw[kP]at nI;refine⟨aU,a.put o.dst v',w',?_,?_,eg,ab,rfl,rfl,_,rfl⟩
    ·cases e0 with
     |enter ny as ai=>exact .head (JK ao fw jJ (by rw[q3];exact ai)) nI
     |round l ny EX dn body ai=>exact .head (JL ao fw jJ (by rw[q3];exact ai)) nI
    ·rw[<-lB];exact(ae.mono ab.le).put lC aI
   |bk v1 cl eE=>rw[hc]at aB;cases aB
   |no=>rw[hc]at aB;cases aB
  |inv hv f ps=>
   rw[aa]at h dr;obtain⟨g,name,args,ts,kQ,hj⟩:=inv_inv dr;simp only[b3]at hj;obtain⟨rfl,a5⟩:=cR hj.1.1;obtain⟨rfl,bD⟩:=qs hj.1.2;obtain⟨t,s5,hp,J⟩:=E1 (h:s4 (fr.aj f) _ _=_) (by simp);have oq:=ae.aj hw a5;rw[hp]at oq;generalize ks:a.eval f=th at oq;cases oq with
   |iface _ _ y0 Dv=>
   obtain⟨lz,aO,aB⟩:=fp (J:bm (wO t hv) _ _=_) (by simp);have Dd:=zbn.1 hj.2 _ (JQ aO);have q4:bs ι (.func (.func lz) #[] #[]) (.func (.func lz) #[] #[]):=.func _ _ _ _ _ _ (.inl ⟨rfl,by simp⟩) rfl (fun i h=>by simp at h) rfl (fun i h=>by simp at h);have aB:dM.rec (motive:=fun _=>aX) (fun v st _=>.ok v fr st) (fun v st _=>.bk v st) .no (call (.func (.func lz) #[] #[]) (s5::eA fr args.toList) none st)=aX.ok v aK st':=aB;have jJ:b.b7=none∨∀c,o.op≠.defer c:=.inr (by rw[kQ];simp);obtain⟨gm,e0,nG⟩:=eN ι (.func (.func lz) #[] #[]) (s5::eA fr args.toList) st (.func (.func lz) #[] #[]) (y0::args.toList.map a.eval) w q4 (.cons Dv (vp ae hw _ bD)) hw (by intro e;rw[e]at aB;cases aB);have q3:(execOp a.eval o).run X.P w=((do let d<-Deferred.ofValue (.func (.func lz) #[] #[]) (y0::args.toList.map a.eval).toArray;invoke d.target d.args):Sem Next).run X.P w:=Xp Dd kQ ks;cases hc:call (.func (.func lz) #[] #[]) (s5::eA fr args.toList) none st with
   |ret v1 cl eE=>
    rw[hc]at aB nG;have o5:aX.ok v1 fr cl=aX.ok v aK st':=aB;obtain⟨aw,e2,bW⟩:=ux o5;subst aw e2 bW;obtain⟨aU,v',w',aI,eg,ab,nI⟩:=nG (b.at a (.inRegion ops (i::rest)::k)) (bA fr.cM);have kP:=finish_at (b:=b) (a:=a) (k:=k) i rest v' ao;rw[kP]at nI;refine⟨aU,a.put o.dst v',w',?_,?_,eg,ab,rfl,rfl,_,rfl⟩
    ·cases e0 with
     |enter ny as ai=>exact .head (JK ao fw jJ (by rw[q3];exact ai)) nI
     |round l ny EX dn body ai=>exact .head (JL ao fw jJ (by rw[q3];exact ai)) nI
    ·rw[<-lB];exact(ae.mono ab.le).put lC aI
   |bk v1 cl eE=>rw[hc]at aB;cases aB
   |no=>rw[hc]at aB;cases aB
  |wH=>
   rw[aa]at h dr;obtain⟨ts,kQ⟩:=amO dr;obtain⟨hn,J⟩:=yt (h:bm fr.b7 _ _=_) (fun _=>by simp);have z1:b.b7=none:=qc id hn;have fQ:(execOp a.eval o).run X.P w= .ok .recover w:=by
    unfold execOp;rw[kQ];simp[resolve,invoke,builtin]
   have ai:=asn (b:=b) (k:=k) (cs:=bA fr.cM) ao fw z1 fQ (rest:=rest);cases iy:fr.bk with
   |none=>
    rw[iy]at J hr;have U:aX.ok .nilIface fr st=aX.ok v aK st':=J;obtain⟨aw,e2,bW⟩:=ux U;subst aw e2 bW;rw[hr _ _ rfl]at ai;refine⟨ι,_,w,.one ai,?_,hw,.refl _ _,iy,rfl,_,rfl⟩;rw[<-lB];exact ae.put lC .nilIface
   |some sK=>
    rw[iy]at J hr;obtain⟨nS,Af,Dm,vM⟩:=hr;have U:cond fr.cM (aX.ok .nilIface fr st) (.ok sK ⟨fr.t,fr.c7,fr.bk,true,fr.b7⟩ st)=aX.ok v aK st':=by rw[iy];exact J
    cases xZ:fr.cM with
    |true=>
     rw[xZ]at U ai;obtain⟨aw,e2,bW⟩:=ux (U:aX.ok .nilIface fr st=aX.ok v aK st');subst aw e2 bW;rw[vM _ rfl]at ai;refine⟨ι,_,w,by rw[xZ];exact .one ai,?_,hw,.refl _ _,iy,rfl,_,rfl⟩;rw[<-lB];exact ae.put lC .nilIface
    |false=>
     rw[xZ]at U ai;obtain⟨aw,e2,bW⟩:=ux (U:aX.ok sK ⟨fr.t,fr.c7,fr.bk,true,fr.b7⟩ st=aX.ok v aK st');subst aw e2 bW;rw[Dm _ rfl]at ai;refine⟨ι,_,w,.one ai,?_,hw,.refl _ _,iy,rfl,_,rfl⟩;rw[<-lB];exact cz.put (fr:=⟨fr.t,fr.c7,fr.bk,true,fr.b7⟩) ⟨ae.tmp,ae.size,ae.c7⟩ lC Af
  |qS f ps=>
   rw[aa]at h dr;obtain⟨g,args,ts,kQ,hj⟩:=amF dr;simp only[b3]at hj;obtain⟨rfl,a5⟩:=cR hj.1;obtain⟨rfl,bD⟩:=qs hj.2;obtain⟨hn,J⟩:=yt (h:bm fr.b7 _ _=_) (fun _=>by simp);have z1:b.b7=none:=qc id hn;obtain⟨fn,first,fl,q4,U⟩:=PN J (by simp);have aI:=ae.aj hw a5;rw[q4]at aI;cases fn with
   |func lz=>
    obtain⟨aw,e2,bW⟩:=ux (U:aX.ok undef ⟨fr.t,{target:=.fn (.func lz) fl,args:=⟨gC first.toList (eA fr args.toList)⟩}::fr.c7,fr.bk,fr.cM,fr.b7⟩ st=aX.ok v aK st');subst aw e2 bW;generalize ks:a.eval f=th at aI;cases aI with
    |func _ gr _ av _ vs fG fC gO nn BV=>
     have jo:=vp ae hw _ bD;have fQ:(execOp a.eval o).run X.P w= .ok (.defer {target:=.fn gr vs,args:=av++args.map a.eval}) w:=by
      unfold execOp;rw[kQ];simp[resolve,ks,Deferred.ofValue]
     have ai:=asj (b:=b) (k:=k) (cs:=bA fr.cM) ao fw z1 fQ (rest:=rest);refine⟨ι,_,w,.one ai,?_,hw,.refl _ _,rfl,rfl,undef,ao9 _ _ _⟩;rw[<-lB];refine cz.put (fr:=⟨fr.t,{target:=.fn (.func lz) fl,args:=⟨gC first.toList (eA fr args.toList)⟩}::fr.c7,fr.bk,fr.cM,fr.b7⟩) (a:={a with defers:={target:=.fn gr vs,args:=av++args.map a.eval}::a.defers}) ⟨ae.tmp,ae.size,⟨⟨?_,fG,bM.wh nn BV⟩,ae.c7⟩⟩ lC (bs.undef ι);have:=(bM.wh fC gO).append jo;simpa using this
   |_=>cases U
  |rA p=>
   rw[aa]at h;obtain⟨t,s5,_,J⟩:=E1 (h:s4 (fr.aj p) _ _=_) (by simp);cases J
  |_=>rw[aa]at hp;exact absurd rfl hp
end
end Go.ak
namespace Go.ak
variable{X:Ctx}
section
variable{aQ:Nat}{ops:ap Oper}{x:bK}{o:Oper}{ι:bC}{fr aK:aR}{a:Act}{st st':ay}{w:co}{v:be}{call:bO}{b:dL}{bA:Bool->ac Frame}{k:ac Item}{i:Nat}{rest:ac Nat}
variable{cs:ac Frame}{s bz:Machine}{aU:bC}
def dL.panics(b:dL)(a:Act)(todo:ac Item)(v:be):Frame:={b.at a todo with mode:=.panicking [{v,recovered:=false}]}
def Zi(bE:m5 X aQ ops x o=true)(eN:nj X call)(ao:ops[i]? =some o)(fw:Region.wanted o (yielded ops a.tmps)=true)(ae:cz ι fr a aQ)(hw:bx X ι st w)
 (fZ:x.o.nq=true) (h:bR call x.o fr st= .bk v st'):
 ∃aU v' w',Steps X.P (lone (b.at a (.inRegion ops (i::rest)::k)) cs w) (lone (b.panics a (.inRegion ops (i::rest)::k) v') cs w')∧bs aU v v'∧bx X aU st' w'∧fv ι aU w w':=by
 have dr:=Ir bE;cases aa:x.o with
 |call f ps=>
  rw[aa]at h dr;obtain⟨g,args,ts,kQ,hj⟩:=Xo dr;simp only[b3]at hj;obtain⟨rfl,a5⟩:=cR hj.1.1;obtain⟨rfl,bD⟩:=qs hj.1.2;have aB:dM.rec (motive:=fun _=>aX) (fun v st _=>.ok v fr st) (fun v st _=>.bk v st) .no (call (fr.aj f) (eA fr args.toList) none st)=aX.bk v st':=h;have jJ:b.b7=none∨∀c,o.op≠.defer c:=.inr (by rw[kQ];simp);obtain⟨gm,e0,nG⟩:=eN ι (fr.aj f) (eA fr args.toList) st (a.eval f) (args.toList.map a.eval) w (ae.aj hw a5) (vp ae hw _ bD) hw (by intro e;rw[e]at aB;cases aB);have q3:(execOp a.eval o).run X.P w=((do let d<-Deferred.ofValue (a.eval f) (args.toList.map a.eval).toArray;invoke d.target d.args):Sem Next).run X.P w:=by
   unfold execOp;rw[kQ];simp[resolve,<-Array.toList_map]
  cases hc:call (fr.aj f) (eA fr args.toList) none st with
  |bk v1 cl eE=>
   rw[hc]at aB nG;have o5:aX.bk v1 cl=aX.bk v st':=aB;cases o5;obtain⟨aU,v',w',aI,eg,ab,nI⟩:=nG (b.at a (.inRegion ops (i::rest)::k)) cs;have xW:(b.at a (.inRegion ops (i::rest)::k)).raise [{v:=v',recovered:=false}]=b.panics a (.inRegion ops (i::rest)::k) v':=rfl;rw[xW]at nI;refine⟨aU,v',w',?_,aI,eg,ab⟩;cases e0 with
   |enter ny as ai=>exact .head (JK ao fw jJ (by rw[q3];exact ai)) nI
   |round l ny EX dn body ai=>exact .head (JL ao fw jJ (by rw[q3];exact ai)) nI
  |ret v1 cl eE=>rw[hc]at aB;cases aB
  |no=>rw[hc]at aB;cases aB
 |inv hv f ps=>
  rw[aa]at h dr;obtain⟨g,name,args,ts,kQ,hj⟩:=inv_inv dr;simp only[b3]at hj;obtain⟨rfl,a5⟩:=cR hj.1.1;obtain⟨rfl,bD⟩:=qs hj.1.2;obtain⟨t,s5,hp,J⟩:=E1 (h:s4 (fr.aj f) _ _=_) (by simp);have oq:=ae.aj hw a5;rw[hp]at oq;generalize ks:a.eval f=th at oq;cases oq with
  |iface _ _ y0 Dv=>
  obtain⟨lz,aO,aB⟩:=fp (J:bm (wO t hv) _ _=_) (by simp);have Dd:=zbn.1 hj.2 _ (JQ aO);have q4:bs ι (.func (.func lz) #[] #[]) (.func (.func lz) #[] #[]):=.func _ _ _ _ _ _ (.inl ⟨rfl,by simp⟩) rfl (fun i h=>by simp at h) rfl (fun i h=>by simp at h);have aB:dM.rec (motive:=fun _=>aX) (fun v st _=>.ok v fr st) (fun v st _=>.bk v st) .no (call (.func (.func lz) #[] #[]) (s5::eA fr args.toList) none st)=aX.bk v st':=aB;have jJ:b.b7=none∨∀c,o.op≠.defer c:=.inr (by rw[kQ];simp);obtain⟨gm,e0,nG⟩:=eN ι (.func (.func lz) #[] #[]) (s5::eA fr args.toList) st (.func (.func lz) #[] #[]) (y0::args.toList.map a.eval) w q4 (.cons Dv (vp ae hw _ bD)) hw (by intro e;rw[e]at aB;cases aB);have q3:(execOp a.eval o).run X.P w=((do let d<-Deferred.ofValue (.func (.func lz) #[] #[]) (y0::args.toList.map a.eval).toArray;invoke d.target d.args):Sem Next).run X.P w:=Xp Dd kQ ks;cases hc:call (.func (.func lz) #[] #[]) (s5::eA fr args.toList) none st with
  |bk v1 cl eE=>
   rw[hc]at aB nG;have o5:aX.bk v1 cl=aX.bk v st':=aB;cases o5;obtain⟨aU,v',w',aI,eg,ab,nI⟩:=nG (b.at a (.inRegion ops (i::rest)::k)) cs;have xW:(b.at a (.inRegion ops (i::rest)::k)).raise [{v:=v',recovered:=false}]=b.panics a (.inRegion ops (i::rest)::k) v':=rfl;rw[xW]at nI;refine⟨aU,v',w',?_,aI,eg,ab⟩;cases e0 with
   |enter ny as ai=>exact .head (JK ao fw jJ (by rw[q3];exact ai)) nI
   |round l ny EX dn body ai=>exact .head (JL ao fw jJ (by rw[q3];exact ai)) nI
  |ret v1 cl eE=>rw[hc]at aB;cases aB
  |no=>rw[hc]at aB;cases aB
 |rA p=>
  rw[aa]at h dr;obtain⟨q,kQ,hj⟩:=amN dr;obtain⟨rfl,a5⟩:=cR hj;obtain⟨t,s5,hp,J⟩:=E1 (h:s4 (fr.aj p) _ _=_) (by simp);have U:aX.bk (.iface t s5) st=aX.bk v st':=J;cases U;have aI:=ae.aj hw a5;rw[hp]at aI;generalize ks:a.eval p=th at aI;cases aI with
  |iface _ _ y0 Dv=>
   refine⟨ι,.iface t y0,w,.one (asm ao fw (.inr (by rw[kQ];simp)) ?_),.iface _ _ _ Dv,hw,.refl _ _⟩;unfold execOp;rw[kQ];simp[ks,Instr.panic,Result.andThen]
 |_=>rw[aa]at fZ;cases fZ
def Fk(P:d9)(s:Machine)(b:dL)(a:Act)(k:ac Item)(cs:ac Frame)(w:co)(aU:bC):dT->Prop
 |.norm=>Steps P s (lone (b.at a k) cs w)
 |.exit id=>∃iD,exitTo id iD=exitTo id k∧Steps P s (lone (b.at a (.code (.exit id)::iD)) cs w)
 |.ret=>∃iD,Steps P s (lone (b.at a (.code .ret::iD)) cs w)
 |.bk v=>∃v' iD,bs aU v v'∧Steps P s (lone (b.panics a iD v') cs w)
def gk(X:Ctx)(b:dL)(aQ:Nat)(bA:Bool->ac Frame)(s:Machine)(k:ac Item)(fr:aR)(ι:bC)(w:co):cZ->Prop
 |.out e aK st'=>∃aU a' w',cz aU aK a' aQ∧bx X aU st' w'∧fv ι aU w w'∧aK.bk=fr.bk∧aK.b7=fr.b7∧Fk X.P s b a' k (bA aK.cM) w' aU e
 |.no=>True
def Fk.head{P:d9}{e:dT}(h:Steps P s bz)(aB:Fk P bz b a k cs w aU e):Fk P s b a k cs w aU e:=by
 cases e with
 |norm=>exact h.trans aB
 |exit id=>obtain⟨iD,J,U⟩:=aB;exact⟨iD,J,h.trans U⟩
 |ret=>obtain⟨iD,U⟩:=aB;exact⟨iD,h.trans U⟩
 |bk v=>obtain⟨v',iD,J,U⟩:=aB;exact⟨v',iD,J,h.trans U⟩
def gk.head{w':co}{r:cZ}(h:Steps X.P s bz)(ab:fv ι aU w w')(hp:aK.bk=fr.bk)(hr:aK.b7=fr.b7)(aB:gk X b aQ bA bz k aK aU w' r):gk X b aQ bA s k fr ι w r:=by
 cases r with
 |no=>trivial
 |out e auo avi=>
  obtain⟨ff,a',jj,J,U,af,ax,a0,ck⟩:=aB;exact⟨ff,a',jj,J,U,ab.trans af,ax.trans hp,a0.trans hr,ck.head h⟩
def agF(x:bK)(xs:ac bK)(fr:aR)(st:ay):iL call (x::xs) fr st=
 hg fr x.g (aX.rec (motive:=fun _=>cZ) (fun v fr st=>iL call xs (fr.put x.d v) st) (fun v st=>cond x.o.nq (.out (.bk v) fr st) .no) .no (bR call x.o fr st))
  (iL call xs (fr.put x.d undef) st) .no:=rfl
def uA(fr:aR)(d:am Tmp)(v:be):(fr.put d v).bk=fr.bk∧(fr.put d v).b7=fr.b7∧(fr.put d v).cM=fr.cM∧(fr.put d v).c7=fr.c7:=by
 obtain⟨J,U,af,ax⟩:=wx fr d v;exact⟨U,ax,af,J⟩
theorem N9(eN:nj X call):∀(xs:ac bK) (l:ac Nat) (ι:bC) (fr:aR) (a:Act) (st:ay) (w:co),xs.length=l.length->
 (∀(j:Nat) (x:bK) (i:Nat),xs[j]? =some x->l[j]? =some i->∃o,ops[i]? =some o∧m5 X aQ ops x o=true)->
 cz ι fr a aQ->bx X ι st w->qI ι fr.b7 b.b7->kF b fr.bk ι bA->
 gk X b aQ bA (lone (b.at a (.inRegion ops l::k)) (bA fr.cM) w) k fr ι w (iL call xs fr st)
 |[],[],ι,fr,a,st,w,_,_,ae,hw,_,_=>⟨ι,a,w,ae,hw,.refl _ _,rfl,rfl,.one abI⟩
 |[],_::_,_,_,_,_,_,h,_,_,_,_,_=>by simp at h
 |_::_,[],_,_,_,_,_,h,_,_,_,_,_=>by simp at h
 |x::xs,i::l,ι,fr,a,st,w,hl,eQ,ae,hw,hb,hr=>by
  obtain⟨o,ao,bE⟩:=eQ 0 x i rfl rfl;have GO:∀(j:Nat) (x:bK) (i:Nat),xs[j]? =some x->l[j]? =some i->∃o,ops[i]? =some o∧m5 X aQ ops x o=true:=fun j x i J U=>eQ (j+1) x i J U;have cn:xs.length=l.length:=by simpa using hl
  obtain⟨lB,lC⟩:=N8 bE;rw[agF];generalize aO:hg fr x.g _ _ _=r;by_cases gb:r= .no
  ·rw[gb];trivial
  rcases acE bE ae aO (fun e=>gb e.symm)with⟨e,fw⟩|⟨e,fw⟩
  ·cases jo:bR call x.o fr st with
   |ok v en cl=>
    rw[jo]at e;have cy:iL call xs (en.put x.d v) cl=r:=e;obtain⟨aU,a',w',ai,eU,eg,ab,hp,qc,_⟩:=Zh (k:=k) (rest:=l) bE eN ao fw ae hw hb hr jo;obtain⟨cP,cT,ek,jR⟩:=uA en x.d v;have q9:=N9 eN xs l aU (en.put x.d v) a' cl w' cn GO eU eg (by rw[cT,qc];exact hb.mono ab.le) (by rw[cP,hp];exact hr.mono ab.le);rw[<-cy];rw[ek]at q9;exact gk.head ai ab (cP.trans hp) (cT.trans qc) q9
   |bk v cl=>
    rw[jo]at e;have cy:cond x.o.nq (.out (.bk v) fr cl) .no=r:=e;obtain⟨fZ,e2⟩:=iv cy (fun e=>gb e.symm);obtain⟨aU,v',w',ai,aI,eg,ab⟩:=Zi (b:=b) (k:=k) (rest:=l) (cs:=bA fr.cM) bE eN ao fw ae hw fZ jo;rw[<-e2];exact⟨aU,a,w',ae.mono ab.le,eg,ab,rfl,rfl,v',_,aI,ai⟩
   |no=>rw[jo]at e;exact absurd (e:cZ.no=r).symm gb
  ·obtain⟨cP,cT,ek,jR⟩:=uA fr x.d undef;have q9:=N9 eN xs l ι (fr.put x.d undef) (a.put o.dst undef) st w cn GO (by rw[<-lB];exact ae.put lC (bs.undef ι)) hw (by rw[cT];exact hb) (by rw[cP];exact hr);rw[<-e];rw[ek]at q9;exact gk.head (.one (JM ao fw)) (.refl _ _) cP cT q9
end
end Go.ak
namespace Go.ak
variable{X:Ctx}{call:bO}
def kH(fr:aR)(g:am (Tmp×Bool))(b:Bool):Prop:=hg fr g (some true) (some false) none=some b
variable{β:Type}
def E6{α:Type}{fr:aR}{g:am (Tmp×Bool)}{yes ht z r:α}(h:hg fr g yes ht z=r)(aJ:z≠r):(kH fr g true∧yes=r)∨(kH fr g false∧ht=r):=by
 unfold kH;cases g with
 |none=>exact .inl ⟨rfl,h⟩
 |some p=>
  have aB:nd (fr.tmp p.1) (fun b=>cond b (cond p.2 yes ht) (cond p.2 ht yes)) (qD (fr.tmp p.1) (fun _=>ht) z)=r:=h;show(nd (fr.tmp p.1) (fun b=>cond b (cond p.2 (some true) (some false)) (cond p.2 (some false) (some true))) (qD (fr.tmp p.1) (fun _=>some false) none)=some true∧_)∨
   (nd (fr.tmp p.1) (fun b=>cond b (cond p.2 (some true) (some false)) (cond p.2 (some false) (some true))) (qD (fr.tmp p.1) (fun _=>some false) none)=some false∧_)
  generalize fr.tmp p.1=PC at aB;cases PC with
  |bool pM=>
   have U:cond pM (cond p.2 yes ht) (cond p.2 ht yes)=r:=aB;show(cond pM (cond p.2 (some true) (some false)) (cond p.2 (some false) (some true))=some true∧_)∨(cond pM (cond p.2 (some true) (some false)) (cond p.2 (some false) (some true))=some false∧_);cases pM<;>cases hp:p.2<;>rw[hp]at U
   ·exact .inl ⟨rfl,U⟩
   ·exact .inr ⟨rfl,U⟩
   ·exact .inr ⟨rfl,U⟩
   ·exact .inl ⟨rfl,U⟩
  |tuple xs=>exact .inr ⟨rfl,aB⟩
  |_=>exact absurd aB aJ
def D9(t:ar be)(ts:ac Tmp):ar be:=lW t ts fun m=>m
def aR.only(fr:aR)(ts:ac Tmp):aR:=⟨D9 fr.t ts,[],none,false,none⟩
def ox(t:ar be)(ts:ac Tmp)(k:ar be->β)(m:ar be):β:=
 List.rec (motive:=fun _=>ar be->β) (fun m=>k m) (fun x _ a8 m=>bm (t.get x) (fun v=>ar.h9 (Nat.succ x) m x v a8) (a8 m)) ts m
theorem NW{β:Type}(t:ar be)(k:ar be->β):∀(ts:ac Tmp) (m:ar be),ox t ts k m=k (ox t ts (fun m=>m) m)
 |[],_=>rfl
 |x::ts,m=>by
  show bm (t.get x) (fun v=>ar.h9 (Nat.succ x) m x v (ox t ts k)) (ox t ts k m)=k (bm (t.get x) (fun v=>ar.h9 (Nat.succ x) m x v (ox t ts fun m=>m)) (ox t ts (fun m=>m) m));cases t.get x with
  |none=>exact NW t k ts m
  |some v=>
   show ar.h9 (Nat.succ x) m x v (ox t ts k)=k (ar.h9 (Nat.succ x) m x v (ox t ts fun m=>m));rw[ar.yR,ar.yR];exact NW t k ts _
def qq(t:ar be)(ts:ac Tmp)(k:ar be->β):lW t ts k=k (D9 t ts):=NW t k ts .nil
theorem NX(t:ar be):∀(ts:ac Tmp) (m:ar be) (j:Nat),(ox t ts (fun m=>m) m).get j=if j∈ts∧(t.get j).isSome then t.get j else m.get j
 |[],m,j=>by rw[zaa (by simp)];rfl
 |x::ts,m,j=>by
  show(bm (t.get x) (fun v=>ar.h9 (Nat.succ x) m x v (ox t ts fun m=>m)) (ox t ts (fun m=>m) m)).get j=_;cases aa:t.get x with
  |none=>
   show(ox t ts (fun m=>m) m).get j=_;rw[NX t ts m j];by_cases hj:j=x
   ·subst hj;simp[aa]
   ·simp[zar,hj]
  |some v=>
   show(ar.h9 (Nat.succ x) m x v (ox t ts fun m=>m)).get j=_;rw[ar.yR,NX t ts _ j,ar.eo];by_cases hj:j=x
   ·subst hj;simp[aa]
   ·simp[zar,hj]
def YS(fr:aR)(ts:ac Tmp)(j:Nat):(fr.only ts).tmp j=if j∈ts then fr.tmp j else h7:=by
 have h:=NX fr.t ts .nil j;have e:(fr.only ts).t.get j=(ox fr.t ts (fun m=>m) .nil).get j:=rfl;show Option.rec (motive:=fun _=>be) (.chan (some 0)) (fun v=>v) ((fr.only ts).t.get j)=_;rw[e,h];by_cases hj:j∈ts
 ·rw[zab hj];cases aO:fr.t.get j with
  |none=>rw[zaa (by simp),ar.get_nil];simp[aR.tmp,aO]
  |some v=>rw[zab ⟨hj,rfl⟩];simp[aR.tmp,aO]
 ·rw[zaa (fun h=>hj h.1),zaa hj,ar.get_nil];rfl
theorem Zw:∀(ts:ac Tmp) (fr:aR),(∀j,(pq fr ts).tmp j=if j∈ts then h7 else fr.tmp j)∧(pq fr ts).bk=fr.bk∧(pq fr ts).b7=fr.b7∧(pq fr ts).cM=fr.cM∧(pq fr ts).c7=fr.c7
 |[],fr=>⟨fun j=>by simp[pq],rfl,rfl,rfl,rfl⟩
 |t::ts,fr=>by
  obtain⟨J,U,af,ax,a0⟩:=Zw ts (fr.put (some t) h7);obtain⟨cP,cT,ek,jR⟩:=uA fr (some t) h7;refine⟨fun j=> ?_,U.trans cP,af.trans cT,ax.trans ek,a0.trans jR⟩;show(pq (fr.put (some t) h7) ts).tmp j=_;rw[J j,rP];by_cases hj:j∈ts
  ·rw[zab hj,zab (zaM _ hj)]
  ·rw[zaa hj];by_cases e:t=j
   ·subst e;simp
   ·have:j≠t:=fun h=>e h.symm;simp[e,hj,this]
theorem aa8{o:dg}{fr:aR}{v:be}{al:Nat}:∀(n:Nat) (ai:ac (ar bH)),sameAt call o fr v al n ai=true->∀j,j<n->∃h aK st',ai[j]? =some h∧bR call o fr ⟨h,al⟩= .ok v aK st'
 |0,_,_,j,hj=>by omega
 |n+1,[],h,_,_=>by cases h
 |n+1,h::ai,hh,j,hj=>by
  have z5:aX.rec (motive:=fun _=>Bool) (fun v' _ _=>cond (dC v v') (sameAt call o fr v al n ai) false) (fun _ _=>false) false (bR call o fr ⟨h,al⟩)=true:=hh;cases he:bR call o fr ⟨h,al⟩with
  |ok v' aK st'=>
   rw[he]at z5;have U:cond (dC v v') (sameAt call o fr v al n ai) false=true:=z5;obtain⟨af,ax⟩:=iv U (by simp);have:=ng _ _ af;subst this;cases j with
   |zero=>exact⟨h,aK,st',rfl,he⟩
   |succ j=>
    obtain⟨aB,ny,bz,a0,ck⟩:=aa8 n ai ax j (by omega);exact⟨aB,ny,bz,by simpa using a0,ck⟩
  |bk _ _=>rw[he]at z5;cases z5
  |no=>rw[he]at z5;cases z5
def DStep(call:bO)(x:bK)(c:cE)(fr:aR)(st:ay)(N:ac (ar bH))(v:be)(en:aR)(cl:ay)(l5:ac (ar bH)):Prop:=
 match c with
 |.eH=>((kH fr x.g false∨(kH fr x.g true∧∃u bz,bR call x.o fr st= .bk u bz))∧v=undef∧en=fr.put x.d undef∧cl=st∧l5=st.h::N)∨
  (kH fr x.g true∧∃aK,bR call x.o fr st= .ok v aK cl∧st.al<=cl.al∧en=aR.put ⟨fr.t,aK.c7,aK.bk,aK.cM,aK.b7⟩ x.d v∧l5=cl.h::N)
 |.hI ts=>en=fr.put x.d v∧l5=N∧((kH (fr.only ts) x.g false∧v=undef∧cl=st)∨(kH (fr.only ts) x.g true∧∃aK,bR call x.o (fr.only ts) st= .ok v aK cl))
 |.read back ts=>en=fr.put x.d v∧l5=N∧cl=st∧((kH (fr.only ts) x.g false∧v=undef)∨(kH (fr.only ts) x.g true∧sameAt call x.o (fr.only ts) v st.al (Nat.succ back) N=true))
def ze(call:bO)(x:bK)(c:cE)(fr:aR)(st:ay):Prop:=c= .eH->kH fr x.g true->∀u bz,bR call x.o fr st≠.bk u bz
variable{fr:aR}
def atM{g:am (Tmp×Bool)}(h:kH fr g false)(aB:kH fr g true):False:=by
 unfold kH at h aB;rw[h]at aB;cases aB
def agB{x:bK}{c:cE}{L:ac (bK×cE)}{N:ac (ar bH)}{st:ay}{e:dT}{aK:aR}{st':ay}{dw:tb}(h:hX call dw ((x,c)::L) N fr st= .out e aK st'):
 (∃v en cl l5,DStep call x c fr st N v en cl l5∧ze call x c fr st∧hX call dw L l5 en cl= .out e aK st')∨
 (c= .eH∧kH fr x.g true∧x.o.nq=true∧aK=fr∧dw L (st.h::N) (fr.put x.d undef) st=true∧∃u,e= .bk u∧bR call x.o fr st= .bk u st'):=by
 cases c with
 |eH=>
  have aB:hg fr x.g (aX.rec (motive:=fun _=>cZ) (fun v aK st'=>ed st.al st'.al (hX call dw L (st'.h::N) (aR.put ⟨fr.t,aK.c7,aK.bk,aK.cM,aK.b7⟩ x.d v) st') .no) (fun v st'=>cond x.o.nq (cond (dw L (st.h::N) (fr.put x.d undef) st) (.out (.bk v) fr st') .no) .no) .no (bR call x.o fr st))
   (hX call dw L (st.h::N) (fr.put x.d undef) st) .no= .out e aK st':=h
  rcases E6 aB (by simp)with⟨J,U⟩|⟨J,U⟩
  ·cases he:bR call x.o fr st with
   |ok v ly dB=>
    rw[he]at U;obtain⟨af,ax⟩:=iB (U:ed st.al dB.al _ _=_) (by simp);exact .inl ⟨v,aR.put ⟨fr.t,ly.c7,ly.bk,ly.cM,ly.b7⟩ x.d v,dB,dB.h::N,.inr ⟨J,ly,he,af,rfl,rfl⟩,(fun _ _ u bz hu=>by rw[he]at hu;cases hu),ax⟩
   |bk u bz=>
    rw[he]at U;obtain⟨af,ax⟩:=iv (U:cond _ _ _=_) (by simp);obtain⟨a0,ck⟩:=iv (ax:cond _ _ _=_) (by simp);have ck:cZ.out (.bk u) fr bz= .out e aK st':=ck;cases ck;exact .inr ⟨rfl,J,af,rfl,a0,u,rfl,rfl⟩
   |no=>rw[he]at U;cases U
  ·exact .inl ⟨undef,fr.put x.d undef,st,st.h::N,.inl ⟨.inl J,rfl,rfl,rfl,rfl⟩,(fun _ aV=>(atM J aV).elim),U⟩
 |hI ts=>
  have aB:lW fr.t ts (fun t=>hg ⟨t,[],none,false,none⟩ x.g
   (aX.rec (motive:=fun _=>cZ) (fun v _ st'=>hX call dw L N (fr.put x.d v) st') (fun _ _=>.no) .no (bR call x.o ⟨t,[],none,false,none⟩ st))
   (hX call dw L N (fr.put x.d undef) st) .no)= .out e aK st':=h
  rw[qq]at aB;have o5:hg (fr.only ts) x.g (aX.rec (motive:=fun _=>cZ) (fun v _ st'=>hX call dw L N (fr.put x.d v) st') (fun _ _=>.no) .no (bR call x.o (fr.only ts) st))
   (hX call dw L N (fr.put x.d undef) st) .no= .out e aK st':=aB
  rcases E6 o5 (by simp)with⟨J,U⟩|⟨J,U⟩
  ·cases he:bR call x.o (fr.only ts) st with
   |ok v ly dB=>
    rw[he]at U;exact .inl ⟨v,fr.put x.d v,dB,N,⟨rfl,rfl,.inr ⟨J,ly,he⟩⟩,(fun h=>by cases h),U⟩
   |bk _ _=>rw[he]at U;cases U
   |no=>rw[he]at U;cases U
  ·exact .inl ⟨undef,fr.put x.d undef,st,N,⟨rfl,rfl,.inl ⟨J,rfl,rfl⟩⟩,(fun h=>by cases h),U⟩
 |read back ts=>
  have aB:lW fr.t ts (fun t=>hg ⟨t,[],none,false,none⟩ x.g
   (aX.rec (motive:=fun _=>cZ) (fun v _ _=>cond (sameAt call x.o ⟨t,[],none,false,none⟩ v st.al (Nat.succ back) N) (hX call dw L N (fr.put x.d v) st) .no) (fun _ _=>.no) .no (bR call x.o ⟨t,[],none,false,none⟩ st))
   (hX call dw L N (fr.put x.d undef) st) .no)= .out e aK st':=h
  rw[qq]at aB;have o5:hg (fr.only ts) x.g (aX.rec (motive:=fun _=>cZ) (fun v _ _=>cond (sameAt call x.o (fr.only ts) v st.al (Nat.succ back) N) (hX call dw L N (fr.put x.d v) st) .no) (fun _ _=>.no) .no (bR call x.o (fr.only ts) st))
   (hX call dw L N (fr.put x.d undef) st) .no= .out e aK st':=aB
  rcases E6 o5 (by simp)with⟨J,U⟩|⟨J,U⟩
  ·cases he:bR call x.o (fr.only ts) st with
   |ok v ly dB=>
    rw[he]at U;obtain⟨af,ax⟩:=iv (U:cond _ _ _=_) (by simp);exact .inl ⟨v,fr.put x.d v,st,N,⟨rfl,rfl,rfl,.inr ⟨J,af⟩⟩,(fun h=>by cases h),ax⟩
   |bk _ _=>rw[he]at U;cases U
   |no=>rw[he]at U;cases U
  ·exact .inl ⟨undef,fr.put x.d undef,st,N,⟨rfl,rfl,rfl,.inl ⟨J,rfl⟩⟩,(fun h=>by cases h),U⟩
def Fj(x:bK)(c:cE)(fr:aR)(st:ay)(N:ac (ar bH))(v:be)(en:aR)(cl:ay)(l5:ac (ar bH)):Prop:=v=undef∧en=fr.put x.d undef∧cl=st∧l5=(match c with|.eH=>st.h::N|_=>N)
structure jy(call:bO)(Z:Nat->Bool)(L:ac (bK×cE))(e9:ac (ar bH))(fr:aR)(st:ay)(aK:aR)(st':ay)(F:Nat->aR)(T:Nat->ay)(N:Nat->ac (ar bH))(V:Nat->be):Prop where
 f0:F 0=fr
 t0:T 0=st
 sB:N 0=e9
 fn:F L.length=aK
 avl:T L.length=st'
 step:∀p x c,L[p]? =some (x,c)->(Z p=false∧DStep call x c (F p) (T p) (N p) (V p) (F (p+1)) (T (p+1)) (N (p+1)))∨(Z p=true∧Fj x c (F p) (T p) (N p) (V p) (F (p+1)) (T (p+1)) (N (p+1)))
def Kk(call:bO)(Z:Nat->Bool)(L:ac (bK×cE))(F:Nat->aR)(T:Nat->ay)(n:Nat):Prop:=∀p x c,p≠n->Z p=false->L[p]? =some (x,c)->ze call x c (F p) (T p)
def ac1(call:bO)(ms:ac Nat)(Z:Nat->Bool)(L:ac (bK×cE))(F:Nat->aR)(T:Nat->ay)(e:dT)(aK:aR)(st':ay):Prop:=
 (e= .norm∧(∀p,Z p=false)∧Kk call Z L F T L.length∧F L.length=aK∧T L.length=st')∨
 (∃n x u,L[n]? =some (x,.eH)∧(∀p,Z p=true->n<p∧(ms.getD p 0).testBit n=true)∧Kk call Z L F T n∧kH (F n) x.g true∧x.o.nq=true∧aK=F n∧e= .bk u∧bR call x.o (F n) (T n)= .bk u st')
theorem Se{dw:tb}{e:dT}{aK:aR}{st':ay}:∀(L:ac (bK×cE)) (e9:ac (ar bH)) (fr:aR) (st:ay),hX call dw L e9 fr st= .out e aK st'->∃(F:Nat->aR) (T:Nat->ay) (N:Nat->ac (ar bH)) (V:Nat->be),(F 0=fr∧T 0=st∧N 0=e9)∧
 ((e= .norm∧F L.length=aK∧T L.length=st'∧∀p x c,L[p]? =some (x,c)->DStep call x c (F p) (T p) (N p) (V p) (F (p+1)) (T (p+1)) (N (p+1))∧ze call x c (F p) (T p))∨
  (∃n x u,L[n]? =some (x,.eH)∧(∀p x c,p<n->L[p]? =some (x,c)->DStep call x c (F p) (T p) (N p) (V p) (F (p+1)) (T (p+1)) (N (p+1))∧ze call x c (F p) (T p))∧kH (F n) x.g true∧x.o.nq=true∧aK=F n∧e= .bk u∧bR call x.o (F n) (T n)= .bk u st'∧
   dw (L.drop (n+1)) ((T n).h::N n) ((F n).put x.d undef) (T n)=true))
 |[],e9,fr,st,h=>by
  have aB:cZ.out .norm fr st= .out e aK st':=h;cases aB;exact⟨fun _=>aK,fun _=>st',fun _=>e9,fun _=>undef,⟨rfl,rfl,rfl⟩,.inl ⟨rfl,rfl,rfl,fun p x c hp=>by simp at hp⟩⟩
 |(x,c)::L,e9,fr,st,h=>by
  rcases agB h with⟨v,en,cl,l5,aq,m0,J⟩|⟨rfl,hw,fZ,rfl,ic,u,rfl,jo⟩
  ·obtain⟨F,T,N,V,⟨f0,t0,sB⟩,xI⟩:=Se L l5 en cl J;refine⟨fun p=>Nat.casesOn p fr F,fun p=>Nat.casesOn p st T,fun p=>Nat.casesOn p e9 N,fun p=>Nat.casesOn p v V,⟨rfl,rfl,rfl⟩,?_⟩;have h0:∀ez b6,((x,c)::L)[0]? =some (ez,b6)->DStep call ez b6 fr st e9 v (F 0) (T 0) (N 0)∧ze call ez b6 fr st:=fun ez b6 hp=>by
    have:(x,c)=(ez,b6):=by simpa using hp
    cases this;rw[f0,t0,sB];exact⟨aq,m0⟩
   rcases xI with⟨he,aw,e2,ai⟩|⟨n,y,w,aM,ai,aN,bf,cb,cQ,ei,gn⟩
   ·refine .inl ⟨he,aw,e2,fun p ez b6 hp=> ?_⟩;cases p with
    |zero=>exact h0 ez b6 hp
    |succ p=>exact ai p ez b6 (by simpa using hp)
   ·refine .inr ⟨n+1,y,w,by simpa using aM,fun p ez b6 k7 hp=> ?_,aN,bf,cb,cQ,ei,by simpa using gn⟩;cases p with
    |zero=>exact h0 ez b6 hp
    |succ p=>exact ai p ez b6 (by omega) (by simpa using hp)
  ·exact⟨fun _=>aK,fun _=>st,fun _=>e9,fun _=>undef,⟨rfl,rfl,rfl⟩,.inr ⟨0,x,u,rfl,fun p _ _ hp=>by omega,hw,fZ,rfl,rfl,jo,ic⟩⟩
def Rw{a b c:Bool}(h:cond a b c=true):(a=true∧b=true)∨(a=false∧c=true):=by
 cases a
 ·exact .inr ⟨rfl,h⟩
 ·exact .inl ⟨rfl,h⟩
theorem Rm{ms:ac Nat}{n:Nat}:∀(M:ac (bK×cE)) (p:Nat) (e9:ac (ar bH)) (fr:aR) (st:ay),pQ call ms n M p e9 fr st=true->∃(F:Nat->aR) (T:Nat->ay) (N:Nat->ac (ar bH)) (V:Nat->be),(F 0=fr∧T 0=st∧N 0=e9)∧
 ∀q x c,M[q]? =some (x,c)->((ms.getD (p+q) 0).testBit n=false∧DStep call x c (F q) (T q) (N q) (V q) (F (q+1)) (T (q+1)) (N (q+1))∧c≠.eH)∨((ms.getD (p+q) 0).testBit n=true∧Fj x c (F q) (T q) (N q) (V q) (F (q+1)) (T (q+1)) (N (q+1)))
 |[],p,e9,fr,st,_=>⟨fun _=>fr,fun _=>st,fun _=>e9,fun _=>undef,⟨rfl,rfl,rfl⟩,fun q x c hq=>by simp at hq⟩
 |(x,c)::M,p,e9,fr,st,h=>by
  have key:∃v en cl l5,pQ call ms n M (p+1) l5 en cl=true∧(((ms.getD p 0).testBit n=false∧DStep call x c fr st e9 v en cl l5∧c≠.eH)∨((ms.getD p 0).testBit n=true∧Fj x c fr st e9 v en cl l5)):=by
   rcases Rw (h:cond _ _ _=true)with⟨hb,J⟩|⟨hb,J⟩
   ·cases c with
    |eH=>exact⟨undef,_,_,_,J,.inr ⟨hb,rfl,rfl,rfl,rfl⟩⟩
    |hI ts=>exact⟨undef,_,_,_,J,.inr ⟨hb,rfl,rfl,rfl,rfl⟩⟩
    |read back ts=>exact⟨undef,_,_,_,J,.inr ⟨hb,rfl,rfl,rfl,rfl⟩⟩
   ·cases c with
    |eH=>cases J
    |hI ts=>
     have U:lW fr.t ts (fun t=>hg ⟨t,[],none,false,none⟩ x.g
      (aX.rec (motive:=fun _=>Bool) (fun v _ st'=>pQ call ms n M (p+1) e9 (fr.put x.d v) st') (fun _ _=>false) false (bR call x.o ⟨t,[],none,false,none⟩ st))
      (pQ call ms n M (p+1) e9 (fr.put x.d undef) st) false)=true:=J
     rw[qq]at U;rcases E6 U (by simp)with⟨aM,aN⟩|⟨aM,aN⟩
     ·cases he:bR call x.o (fr.only ts) st with
      |ok v ly dB=>
       have aN:aX.rec (motive:=fun _=>Bool) (fun v _ st'=>pQ call ms n M (p+1) e9 (fr.put x.d v) st') (fun _ _=>false) false (bR call x.o (fr.only ts) st)=true:=aN;rw[he]at aN;exact⟨v,_,dB,e9,aN,.inl ⟨hb,⟨rfl,rfl,.inr ⟨aM,ly,he⟩⟩,by simp⟩⟩
      |bk _ _=>
       have aN:aX.rec (motive:=fun _=>Bool) (fun v _ st'=>pQ call ms n M (p+1) e9 (fr.put x.d v) st') (fun _ _=>false) false (bR call x.o (fr.only ts) st)=true:=aN;rw[he]at aN;cases aN
      |no=>
       have aN:aX.rec (motive:=fun _=>Bool) (fun v _ st'=>pQ call ms n M (p+1) e9 (fr.put x.d v) st') (fun _ _=>false) false (bR call x.o (fr.only ts) st)=true:=aN;rw[he]at aN;cases aN
     ·exact⟨undef,_,st,e9,aN,.inl ⟨hb,⟨rfl,rfl,.inl ⟨aM,rfl,rfl⟩⟩,by simp⟩⟩
    |read back ts=>
     have U:lW fr.t ts (fun t=>hg ⟨t,[],none,false,none⟩ x.g
      (aX.rec (motive:=fun _=>Bool) (fun v _ _=>cond (sameAt call x.o ⟨t,[],none,false,none⟩ v st.al (Nat.succ back) e9) (pQ call ms n M (p+1) e9 (fr.put x.d v) st) false) (fun _ _=>false) false (bR call x.o ⟨t,[],none,false,none⟩ st))
      (pQ call ms n M (p+1) e9 (fr.put x.d undef) st) false)=true:=J
     rw[qq]at U;rcases E6 U (by simp)with⟨aM,aN⟩|⟨aM,aN⟩
     ·have aN:aX.rec (motive:=fun _=>Bool) (fun v _ _=>cond (sameAt call x.o (fr.only ts) v st.al (Nat.succ back) e9) (pQ call ms n M (p+1) e9 (fr.put x.d v) st) false) (fun _ _=>false) false (bR call x.o (fr.only ts) st)=true:=aN;cases he:bR call x.o (fr.only ts) st with
      |ok v ly dB=>
       rw[he]at aN;rcases Rw (aN:cond _ _ _=true)with⟨bf,cb⟩|⟨_,cb⟩
       ·exact⟨v,_,st,e9,cb,.inl ⟨hb,⟨rfl,rfl,rfl,.inr ⟨aM,bf⟩⟩,by simp⟩⟩
       ·cases cb
      |bk _ _=>rw[he]at aN;cases aN
      |no=>rw[he]at aN;cases aN
     ·exact⟨undef,_,st,e9,aN,.inl ⟨hb,⟨rfl,rfl,rfl,.inl ⟨aM,rfl⟩⟩,by simp⟩⟩
  obtain⟨v,en,cl,l5,J,ai⟩:=key;obtain⟨F,T,N,V,⟨f0,t0,sB⟩,e0⟩:=Rm M (p+1) l5 en cl J;refine⟨fun p=>Nat.casesOn p fr F,fun p=>Nat.casesOn p st T,fun p=>Nat.casesOn p e9 N,fun p=>Nat.casesOn p v V,⟨rfl,rfl,rfl⟩,fun q ez b6 hq=> ?_⟩;cases q with
  |zero=>
   have:(x,c)=(ez,b6):=by simpa using hq
   cases this;show(_∧DStep call x c fr st e9 v (F 0) (T 0) (N 0)∧_)∨(_∧Fj x c fr st e9 v (F 0) (T 0) (N 0));rw[f0,t0,sB];exact ai
  |succ q=>
   have:=e0 q ez b6 (by simpa using hq);rw[show p+(q+1)=p+1+q by omega];exact this
def agC{ms:ac Nat}(L:ac (bK×cE))(e9:ac (ar bH))(fr:aR)(st:ay)(e:dT)(aK:aR)(st':ay)(h:hX call (tp call ms (dk L)) L e9 fr st= .out e aK st'):∃Z F T N V,jy call Z L e9 fr st (F L.length) (T L.length) F T N V∧ac1 call ms Z L F T e aK st':=by
 obtain⟨F,T,N,V,⟨f0,t0,sB⟩,xI⟩:=Se L e9 fr st h;rcases xI with⟨he,aw,e2,ai⟩|⟨n,x,u,aM,ai,aN,bf,cb,cQ,ei,gn⟩
 ·exact⟨fun _=>false,F,T,N,V,⟨f0,t0,sB,rfl,rfl,fun p x c hp=>.inl ⟨rfl,(ai p x c hp).1⟩⟩,.inl ⟨he,fun _=>rfl,fun p x c _ _ hp=>(ai p x c hp).2,aw,e2⟩⟩
 ·have hn:=(zah.1 aM).1;have gn:pQ call ms (L.length-(L.drop (n+1)).length.succ) (L.drop (n+1)) (L.length-(L.drop (n+1)).length) ((T n).h::N n) ((F n).put x.d undef) (T n)=true:=by
   have:=gn;unfold tp at this;rw[fo,fo]at this;exact this
  rw[zaH,show L.length-(L.length-(n+1)).succ=n by omega,show L.length-(L.length-(n+1))=n+1 by omega]at gn;obtain⟨iG,Km,Ki,Kq,⟨f2,t2,gI⟩,kx⟩:=Rm _ _ _ _ _ gn
  let Z:Nat->Bool:=fun p=>decide (n<p)&&(ms.getD p 0).testBit n
  let Kd:Nat->aR:=fun p=>if p<=n then F p else iG (p-(n+1))
  let Ko:Nat->ay:=fun p=>if p<=n then T p else Km (p-(n+1))
  let Kj:Nat->ac (ar bH):=fun p=>if p<=n then N p else Ki (p-(n+1))
  let Fq:Nat->be:=fun p=>if p<n then V p else if p=n then undef else Kq (p-(n+1))
  have aL:∀p,p<=n->Kd p=F p∧Ko p=T p∧Kj p=N p:=fun p hp=>⟨zab hp,zab hp,zab hp⟩;have hi:∀r,Kd (n+1+r)=iG r∧Ko (n+1+r)=Km r∧Kj (n+1+r)=Ki r:=fun r=>by
   have e:n+1+r-(n+1)=r:=by omega
   refine⟨?_,?_,?_⟩
   ·show(if n+1+r<=n then _ else iG (n+1+r-(n+1)))=_;rw[zaa (by omega),e]
   ·show(if n+1+r<=n then _ else Km (n+1+r-(n+1)))=_;rw[zaa (by omega),e]
   ·show(if n+1+r<=n then _ else Ki (n+1+r-(n+1)))=_;rw[zaa (by omega),e]
  have acW:∀p,p<=n->Z p=false:=fun p hp=>by
   show(decide (n<p)&&_)=false;rw[zac (by omega)];rfl
  have acV:∀r,Z (n+1+r)=(ms.getD (n+1+r) 0).testBit n:=fun r=>by
   show(decide (n<n+1+r)&&_)=_;rw[zad (by omega)];rfl
  refine⟨Z,Kd,Ko,Kj,Fq,⟨(aL 0 (zaf _)).1.trans f0,(aL 0 (zaf _)).2.1.trans t0,(aL 0 (zaf _)).2.2.trans sB,rfl,rfl,fun p y c hp=> ?_⟩,.inr ⟨n,x,u,aM,fun p hp=> ?_,fun p y c k7 aJ hp=> ?_,?_,bf,?_,cQ,?_⟩⟩
  ·rcases zcE p n with a4|rfl|ak5
   ·obtain⟨fC,gO,nn⟩:=aL p (by omega);obtain⟨cD,db,hV⟩:=aL (p+1) (by omega);have aI:Fq p=V p:=zab a4;rw[fC,gO,nn,cD,db,hV,aI];exact .inl ⟨acW p (by omega),(ai p y c a4 hp).1⟩
   ·obtain⟨fC,gO,nn⟩:=aL p (b5 _);obtain⟨cD,db,hV⟩:=hi 0;have aI:Fq p=undef:=by
     show(if p<p then _ else if p=p then _ else _)=_;rw[zaa (Nat.lt_irrefl p),zab rfl]
    rw[aM]at hp;cases hp;rw[show p+1+0=p+1 from rfl]at cD db hV;rw[fC,gO,nn,cD,db,hV,aI,f2,t2,gI];exact .inl ⟨acW p (b5 _),.inl ⟨.inr ⟨aN,u,_,ei⟩,rfl,rfl,rfl,rfl⟩⟩
   ·obtain⟨r,rfl⟩:∃r,p=n+1+r:=⟨p-(n+1),by omega⟩;obtain⟨fC,gO,nn⟩:=hi r;obtain⟨cD,db,hV⟩:=hi (r+1);have aI:Fq (n+1+r)=Kq r:=by
     show(if n+1+r<n then _ else if n+1+r=n then _ else Kq (n+1+r-(n+1)))=_;rw[zaa (by omega),zaa (by omega),show n+1+r-(n+1)=r by omega]
    rw[show n+1+(r+1)=n+1+r+1 from rfl]at cD db hV;rw[fC,gO,nn,cD,db,hV,aI,acV r];rcases kx r y c (by rw[zaI];exact hp)with⟨s8,y8,_⟩|⟨s8,y8⟩
    ·exact .inl ⟨s8,y8⟩
    ·exact .inr ⟨s8,y8⟩
  ·have hp:(decide (n<p)&&(ms.getD p 0).testBit n)=true:=hp;rw[zcQ,decide_eq_true_eq]at hp;exact hp
  ·rcases zcE p n with a4|rfl|ak5
   ·obtain⟨fC,gO,_⟩:=aL p (by omega);rw[fC,gO];exact(ai p y c a4 hp).2
   ·exact absurd rfl k7
   ·obtain⟨r,rfl⟩:∃r,p=n+1+r:=⟨p-(n+1),by omega⟩;rw[acV r]at aJ;rcases kx r y c (by rw[zaI];exact hp)with⟨_,_,Fc⟩|⟨s8,_⟩
    ·exact fun hc=>absurd hc Fc
    ·rw[aJ]at s8;cases s8
  ·rw[(aL n (b5 _)).1];exact aN
  ·rw[(aL n (b5 _)).1];exact cb
  ·rw[(aL n (b5 _)).1,(aL n (b5 _)).2.1];exact ei
def apa{α:Type}(l:ac α)(n:Nat)(vs:ac α):(∃out,∀(k:ac α->aX),qv l n vs k .no=k out)∨(∀k:ac α->aX,qv l n vs k .no= .no):=by
 by_cases h:n+vs.length<=l.length
 ·exact .inl ⟨_,fun k=>by rw[rB,zab h]⟩
 ·by_cases U:vs=[]
  ·exact .inl ⟨l,fun k=>by rw[rB,zaa h,zab U]⟩
  ·exact .inr fun k=>by rw[rB,zaa h,zaa U]
theorem Sj(fr:aR):∀(ps:ac (Nat×Nat×bi)) (cs:ac be),(∃out,∀c,ob fr ps cs c=c out)∨(∀c,ob fr ps cs c= .no)
 |[],cs=>.inl ⟨cs,fun _=>rfl⟩
 |p::ps,cs=>by
  have hu:∀c,ob fr (p::ps) cs c=cond (ub (fr.aj p.2.2)) .no (dV (dk (iu (fr.aj p.2.2))) p.2.1 (ed (Nat.add p.1 p.2.1) (dk cs) (qv cs p.1 (iu (fr.aj p.2.2)) (fun cs'=>ob fr ps cs' c) .no) .no) .no):=fun _=>rfl;simp only[hu];cases ub (fr.aj p.2.2)with
  |true=>exact .inr fun _=>rfl
  |false=>
   simp only[cond_false,o1,qi];split
   ·split
    ·rcases apa cs p.1 (iu (fr.aj p.2.2))with⟨out,ao⟩|hn
     ·rcases Sj fr ps out with⟨nP,jK⟩|jI
      ·exact .inl ⟨nP,fun c=>by rw[ao];exact jK c⟩
      ·exact .inr fun c=>by rw[ao];exact jI c
     ·exact .inr fun c=>hn _
    ·exact .inr fun _=>rfl
   ·exact .inr fun _=>rfl
def Qp{x:dg}{aK:aR}{h0:ar bH}{al:Nat}{v:be}{st':ay}(aa:x.ua=true)(h:bR call x fr ⟨h0,al⟩= .ok v aK st'):
 ∃o,o≠.dead∧aK=fr∧st'=⟨h0.set al o,al+1⟩∧∀aB,bR call x fr ⟨aB,al⟩= .ok v fr ⟨aB.set al o,al+1⟩:=by
 cases x with
 |alloc z e=>
  have h:yv z e call fr ⟨h0,al⟩= .ok v aK st':=h;unfold yv at h;rw[gw]at h;cases h;exact⟨_,by simp,rfl,rfl,fun aB=>by show yv z e call fr ⟨aB,al⟩=_;unfold yv;rw[gw]⟩
 |box e p=>
  have h:AX e p call fr ⟨h0,al⟩= .ok v aK st':=h;unfold AX at h;obtain⟨J,U⟩:=AH h (by simp);rw[gw]at U;cases U;exact⟨_,by simp,rfl,rfl,fun aB=>by show AX e p call fr ⟨aB,al⟩=_;unfold AX;simp only[J,cond_false];rw[gw]⟩
 |oS e n z ps=>
  have h:AY e n z ps call fr ⟨h0,al⟩= .ok v aK st':=h;unfold AY at h;rcases Sj fr ps z with⟨out,ao⟩|hn
  ·rw[ao,gw]at h;cases h;exact⟨_,by simp,rfl,rfl,fun aB=>by show AY e n z ps call fr ⟨aB,al⟩=_;unfold AY;rw[ao,gw]⟩
  ·rw[hn]at h;cases h
 |vj e p=>
  have h:A0 e p call fr ⟨h0,al⟩= .ok v aK st':=h;unfold A0 at h;obtain⟨s,ai,J⟩:=oF h (by simp);obtain⟨hle,U⟩:=iB J (by simp);rw[gw]at U;cases U;exact⟨_,by simp,rfl,rfl,fun aB=>by
   show A0 e p call fr ⟨aB,al⟩=_;unfold A0;rw[ai];show ed (dk s.data.toList) (2^40) _ _=_;rw[qi,zab hle,gw]⟩
 |rr e bU z l c=>
  have h:wm e bU z l c call fr ⟨h0,al⟩= .ok v aK st':=h;unfold wm at h;obtain⟨a5,kd,hl,J⟩:=iW h (by simp);obtain⟨bD,oU,hc,U⟩:=iW J (by simp);obtain⟨cI,q7,af⟩:=lS U (by simp);obtain⟨hs,z3,ax⟩:=lS af (by simp);obtain⟨hle,a0⟩:=iB ax (by simp);obtain⟨Mm,ck⟩:=iB a0 (by simp);rw[gw]at ck;cases ck;exact⟨_,by simp,rfl,rfl,fun aB=>by
   show wm e bU z l c call fr ⟨aB,al⟩=_;unfold wm;rw[hl,hc,q7,z3];show ed cI hs (ed (Nat.mul hs (Nat.succ bU)) (2^40) _ _) _=_;rw[qi,zab hle,qi,zab Mm,gw]⟩
 |um=>
  have h:yw call fr ⟨h0,al⟩= .ok v aK st':=h;unfold yw at h;rw[gw]at h;cases h;exact⟨_,by simp,rfl,rfl,fun aB=>by show yw call fr ⟨aB,al⟩=_;unfold yw;rw[gw]⟩
 |_=>cases aa
end Go.ak
namespace Go.ak
def cE.x8:cE->Bool
 |.eH=>true
 |_=>false
def cE.looks:cE->ac Tmp
 |.eH=>[]
 |.hI ts=>ts
 |.read _ ts=>ts
def tz(L:ac (bK×cE))(q:Nat):Bool:=((L[q]?).map (·.2.x8)).getD false
structure lr(X:Ctx)(aQ:Nat)(ops:ap Oper)(L:ac (bK×cE))(cd:ac Nat)(dU:ac Tmp)(ms:ac Nat):Prop where
 uf:L.length=ops.size
 ya:cd.length=ops.size
 op:∀(p i:Nat) x c,cd[p]? =some i->L[p]? =some (x,c)->∃o,ops[i]? =some o∧m5 X aQ ops x o=true
 hI:∀(p:Nat) x ts,L[p]? =some (x,.hI ts)->x.o.ua=true
 rd:∀(p:Nat) x n ts,L[p]? =some (x,.read n ts)->x.o.ss=true
 inj:∀(p q i:Nat),cd[p]? =some i->cd[q]? =some i->p=q
 asK:∀i,i<ops.size->∃p:Nat,cd[p]? =some i
 agb:∀(p i:Nat) o,cd[p]? =some i->ops[i]? =some o->∀e∈o.after,Region.binds .any e=true->∃q,q<p∧cd[q]? =some e.on
 mask:∀(p i:Nat) o q,cd[p]? =some i->ops[i]? =some o->(ms.getD p 0).testBit q=true->∃e∈o.after,Region.binds .any e=true∧∃r,r<p∧cd[r]? =some e.on∧(q=r∨(ms.getD r 0).testBit q=true)
 eH:∀(p:Nat) x q,L[p]? =some (x,.eH)->q<p->(ms.getD p 0).testBit q=true
 back:∀(p:Nat) x n ts,L[p]? =some (x,.read n ts)->(List.range p).countP (fun q=>tz L q&& !(ms.getD p 0).testBit q)<=n
 dst:∀(p q:Nat) x y c d t,L[p]? =some (x,c)->L[q]? =some (y,d)->x.d=some t->y.d=some t->p=q
 adt:∀(p q:Nat) x y c d t,L[p]? =some (x,c)->L[q]? =some (y,d)->p<q->y.d=some t->t∉dU->(c= .eH∨t∈c.looks)->(ms.getD q 0).testBit p=true
 dep:∀(p q:Nat) x y c d t,L[p]? =some (x,c)->L[q]? =some (y,d)->q<p->y.d=some t->t∈c.looks->(ms.getD p 0).testBit q=true
section
variable{X:Ctx}{aQ:Nat}{ops:ap Oper}{L:ac (bK×cE)}{cd:ac Nat}{dU:ac Tmp}{ms:ac Nat}{call:bO}
def nk(ops:ap Oper)(cd:ac Nat)(E:Nat->Prop)(p:Nat):Prop:=∀i o,cd[p]? =some i->ops[i]? =some o->∀e∈o.after,Region.binds .any e=true->∀r:Nat,cd[r]? =some e.on->E r
def lr.before(D:lr X aQ ops L cd dU ms){E:Nat->Prop}(g0:∀p,E p->nk ops cd E p)(p:Nat):nk ops cd E p->p<ops.size->∀q,(ms.getD p 0).testBit q=true->E q:=by
 induction p using Nat.strongRecOn with
 |_ p a8=>
  intro hr hp q hq;have ME:p<cd.length:=by rw[D.ya];exact hp
  have hi:cd[p]? =some cd[p]:=bV ME;obtain⟨x,aa⟩:∃x,L[p]? =some x:=⟨_,bV (by rw[D.uf];exact hp)⟩;obtain⟨o,ao,_⟩:=D.op p _ x.1 x.2 hi aa;obtain⟨e,he,hb,r,Dp,xV,vJ⟩:=D.mask p _ o q hi ao hq;have Wb:E r:=hr _ o hi ao e he hb r xV;rcases vJ with rfl|vJ
  ·exact Wb
  ·exact a8 r Dp (g0 r Wb) (by omega) q vJ
variable{Z:Nat->Bool}{e9:ac (ar bH)}{fr aK:aR}{st st':ay}{F:Nat->aR}{T:Nat->ay}{N:Nat->ac (ar bH)}{V:Nat->be}
variable{p q:Nat}{x:bK}{c:cE}
def jy.YN(aV:jy call Z L e9 fr st aK st' F T N V)(D:lr X aQ ops L cd dU ms)(hp:p<L.length):(T p).al<=(T (p+1)).al:=by
 obtain⟨⟨x,c⟩,aa⟩:∃x,L[p]? =some x:=⟨_,bV hp⟩;rcases aV.step p x c aa with⟨_,ai⟩|⟨_,ai⟩
 case inr=>rw[ai.2.2.1];exact b5 _
 cases c with
 |eH=>
  rcases ai with⟨_,_,_,h,_⟩|⟨_,_,_,h,_⟩
  ·rw[h];exact b5 _
  ·exact h
 |hI ts=>
  obtain⟨_,_,h⟩:=ai;rcases h with⟨_,_,h⟩|⟨_,ly,h⟩
  ·rw[h];exact b5 _
  ·have bS:=D.hI p x ts aa;obtain⟨o,_,_,U,_⟩:=Qp (h0:=(T p).h) (al:=(T p).al) bS h;rw[U];exact zbo _
 |read n ts=>obtain⟨_,_,h,_⟩:=ai;rw[h];exact b5 _
def jy.lV(aV:jy call Z L e9 fr st aK st' F T N V)(D:lr X aQ ops L cd dU ms)(h:p<=q)(hq:q<=L.length):(T p).al<=(T q).al:=by
 induction q with
 |zero=>have:p=0:=by omega
        subst this;exact b5 _
 |succ q a8=>
  by_cases e:p=q+1
  ·subst e;exact b5 _
  ·exact zaj (a8 (by omega) (by omega)) (aV.YN D (by omega))
def jy.ab0(aV:jy call Z L e9 fr st aK st' F T N V)(aa:L[p]? =some (x,c))(t:Nat):(F (p+1)).tmp t=if x.d=some t then V p else(F p).tmp t:=by
 rcases aV.step p x c aa with⟨_,ai⟩|⟨_,ai⟩
 case inr=>rw[ai.2.1,rP,ai.1]
 cases c with
 |eH=>
  rcases ai with⟨_,J,h,_⟩|⟨_,ly,_,_,h,_⟩
  ·rw[h,rP,J]
  ·rw[h,rP];rfl
 |hI ts=>obtain⟨h,_⟩:=ai;rw[h,rP]
 |read n ts=>obtain⟨h,_⟩:=ai;rw[h,rP]
def jy.JT(aV:jy call Z L e9 fr st aK st' F T N V)(t:Nat):∀p,p<=L.length->(∀(q:Nat) x c,q<p->L[q]? =some (x,c)->x.d≠some t)->(F p).tmp t=(F 0).tmp t
 |0,_,_=>rfl
 |p+1,hp,h=>by
  obtain⟨⟨x,c⟩,aa⟩:∃x,L[p]? =some x:=⟨_,bV (by omega)⟩;rw[aV.ab0 aa,zaa (h p x c (by omega) aa)];exact aV.JT t p (by omega) (fun q x c hq=>h q x c (by omega))
def jy.PA(aV:jy call Z L e9 fr st aK st' F T N V)(D:lr X aQ ops L cd dU ms){y:bK}{d:cE}{t:Nat}(aF:L[q]? =some (y,d))(aq:y.d=some t):∀p,q<p->p<=L.length->(F p).tmp t=V q
 |0,h,_=>by omega
 |p+1,h,hp=>by
  obtain⟨⟨x,c⟩,aa⟩:∃x,L[p]? =some x:=⟨_,bV (by omega)⟩;rw[aV.ab0 aa];by_cases e:p=q
  ·subst e;rw[aa]at aF;cases aF;rw[zab aq]
  ·rw[zaa (fun h=>e (D.dst p q x y c d t aa aF h aq))];exact aV.PA D aF aq p (by omega) (by omega)
def jy.same(aV:jy call Z L e9 fr st aK st' F T N V)(aa:L[p]? =some (x,c))(hc:c≠.eH):(F (p+1)).c7=(F p).c7∧(F (p+1)).cM=(F p).cM∧(F (p+1)).bk=(F p).bk∧(F (p+1)).b7=(F p).b7:=by
 rcases aV.step p x c aa with⟨_,ai⟩|⟨_,ai⟩
 case inr=>obtain⟨cP,cT,ek,jR⟩:=uA (F p) x.d undef;rw[ai.2.1];exact⟨jR,ek,cP,cT⟩
 cases c with
 |eH=>exact absurd rfl hc
 |hI ts=>obtain⟨h,_⟩:=ai;obtain⟨cP,cT,ek,jR⟩:=uA (F p) x.d (V p);rw[h];exact⟨jR,ek,cP,cT⟩
 |read n ts=>obtain⟨h,_⟩:=ai;obtain⟨cP,cT,ek,jR⟩:=uA (F p) x.d (V p);rw[h];exact⟨jR,ek,cP,cT⟩
def jy.snap(aV:jy call Z L [st.h] fr st aK st' F T N V){c:Nat}(hc:c=0∨∃p x,c=p+1∧L[p]? =some (x,cE.eH)):∀p,c<=p->p<=L.length->
 (N p)[(List.range p).countP (fun q=>decide (c<=q)&&tz L q)]? =some (T c).h
 |0,h,_=>by
  have:c=0:=by omega
  subst this;simp[aV.sB,aV.t0]
 |p+1,h,hp=>by
  obtain⟨⟨x,k⟩,aa⟩:∃x,L[p]? =some x:=⟨_,bV (by omega)⟩;have eZ:=aV.step p x k aa;by_cases e:c=p+1
  ·subst e;have aJ:(List.range (p+1)).countP (fun q=>decide (p+1<=q)&&tz L q)=0:=by
    rw[List.countP_eq_zero];intro q hq;have:=zcY.1 hq;simp;omega
   rw[aJ];rcases hc with hc|⟨dA,ez,hc,bS⟩
   ·omega
   ·have:dA=p:=by omega
    subst this;rw[aa]at bS;cases bS;rcases eZ with⟨_,⟨_,_,_,J,U⟩|⟨_,_,_,_,_,U⟩⟩|⟨_,_,_,J,U⟩
    ·rw[U,J];rfl
    ·rw[U];rfl
    ·rw[U,J];rfl
  ·have a8:=aV.snap hc p (by omega) (by omega);rw[List.range_succ,List.countP_append,List.countP_singleton];have fZ:decide (c<=p)=true:=by simp;omega
   have Ma:tz L p=k.x8:=by simp[tz,aa]
   simp only[fZ,Bool.true_and,Ma];cases k with
   |eH=>
    have:∃h,N (p+1)=h::N p:=by
     rcases eZ with⟨_,⟨_,_,_,_,U⟩|⟨_,_,_,_,_,U⟩⟩|⟨_,_,_,_,U⟩
     ·exact⟨_,U⟩
     ·exact⟨_,U⟩
     ·exact⟨_,U⟩
    obtain⟨h,iM⟩:=this;rw[iM];simpa[cE.x8]using a8
   |hI ts=>
    have U:N (p+1)=N p:=by
     rcases eZ with⟨_,_,U,_⟩|⟨_,_,_,_,U⟩
     ·exact U
     ·exact U
    rw[U];simpa[cE.x8]using a8
   |read n ts=>
    have U:N (p+1)=N p:=by
     rcases eZ with⟨_,_,U,_⟩|⟨_,_,_,_,U⟩
     ·exact U
     ·exact U
    rw[U];simpa[cE.x8]using a8
end
end Go.ak
namespace Go.ak
variable{X:Ctx}
variable{ι:bC}{n:Nat}{l:Loc}{aU:bC}{m:Nat}{w:co}
def fs(ι:bC)(n:Nat):bC:=fun id=>if id<n then ι id else none
def j3{id:Nat}:fs ι n id=some l↔id<n∧ι id=some l:=by
 unfold fs;by_cases h:id<n<;>simp[h]
def RG(ι:bC)(n:Nat):(fs ι n).le ι:=fun _ _ h=>(j3.1 h).2
def r0(h:ι.le aU)(hn:m<=n):(fs ι m).le (fs aU n):=fun _ _ hl=>j3.2 ⟨fy (j3.1 hl).1 hn,h _ _ (j3.1 hl).2⟩
def RF(h:∀id,n<=id->ι id=none):fs ι n=ι:=by
 funext id;unfold fs;by_cases hi:id<n
 ·simp[hi]
 ·simp[hi,h id (by omega)]
def bx.look{h:ar bH}(hw:bx X ι ⟨h,n⟩ w)(hle:ι.le aU)(ae:∀id,m<=id->aU id=none)(hn:n<=m)(hb:∀id l,aU id=some l->l.cG<w.heap.size):bx X aU ⟨h,m⟩ w:=by
 refine⟨fun id o ao aq=> ?_,fun i j o p l fi hi hB hj hN gS h2 aO e=> ?_,fun id om=>⟨ae id om,(hw.fresh id (zaj hn om)).2⟩,hb,fun g aO=>hle _ _ (hw.me g aO),zaj hw.p2 hn,fun i l o hl ai ao aq=> ?_⟩
 ·obtain⟨l,hl,hm⟩:=hw.eD id o ao aq;exact⟨l,hle _ _ hl,jl.mono X hm hle rfl⟩
 ·obtain⟨l',cn,_⟩:=hw.eD i o hi hB;obtain⟨au8,WI,_⟩:=hw.eD j p hj hN;have aw:=(hle _ _ cn).symm.trans gS;have e2:=(hle _ _ WI).symm.trans h2;cases aw;cases e2;exact hw.inj i j o p _ _ hi hB hj hN cn WI aO e
 ·obtain⟨l',cn,_⟩:=hw.eD i o ao aq;have aw:=(hle _ _ cn).symm.trans hl;cases aw;exact hw.my i _ o cn ai ao aq
def bx.adn{st:ay}(hw:bx X ι st w){o:bH}(ao:jl X (hM ι st.al l) w o l)(hb:l.cG<w.heap.size)(k9:l.ca≠ix)(cx:∀id l',ι id=some l'->l'.cG≠l.cG):
 bx X (hM ι st.al l) ⟨st.h.set st.al o,st.al+1⟩ w:=by
 have hle:ι.le (hM ι st.al l):=by
  intro id l' hl;show(if id=st.al then some l else ι id)=some l';rw[zaa];exact hl;intro e;subst e;rw[(hw.fresh _ (b5 _)).1]at hl;cases hl
 have q2:hM ι st.al l st.al=some l:=zab rfl;have nF:∀id,id≠st.al->hM ι st.al l id=ι id:=fun id h=>zaa h;refine⟨fun id p hp aq=> ?_,fun i j p q eW g1 hi hB hj hN gS h2 aO e=> ?_,fun id om=> ?_,fun id l' cn=> ?_,fun g aO=>hle _ _ (hw.me g aO),zdt hw.p2,fun i eW p jH ai hp aq=> ?_⟩
 ·rw[ar.eo]at hp;by_cases e:id=st.al
  ·rw[zab e]at hp;cases hp;subst e;exact⟨l,q2,ao⟩
  ·rw[zaa e]at hp;obtain⟨l',cn,hm⟩:=hw.eD id p hp aq;exact⟨l',hle _ _ cn,jl.mono X hm hle rfl⟩
 ·rw[ar.eo]at hi hj;by_cases aw:i=st.al
  ·by_cases e2:j=st.al
   ·rw[aw,e2]
   ·subst aw;rw[q2]at gS;cases gS;rw[nF j e2]at h2;exact absurd e.symm (cx _ _ h2)
  ·by_cases e2:j=st.al
   ·subst e2;rw[q2]at h2;cases h2;rw[nF i aw]at gS;exact absurd e (cx _ _ gS)
   ·rw[zaa aw]at hi;rw[zaa e2]at hj;rw[nF i aw]at gS;rw[nF j e2]at h2;exact hw.inj i j p q eW g1 hi hB hj hN gS h2 aO e
 ·have ak8:st.al+1<=id:=om;refine⟨?_,?_⟩
  ·rw[nF id (by omega)];exact(hw.fresh id (by omega)).1
  ·show(st.h.set st.al o).get id=none;rw[ar.eo,zaa (by omega)];exact(hw.fresh id (by omega)).2
 ·by_cases e:id=st.al
  ·subst e;rw[q2]at cn;cases cn;exact hb
  ·rw[nF id e]at cn;exact hw.gP id l' cn
 ·rw[ar.eo]at hp;by_cases e:i=st.al
  ·subst e;rw[q2]at jH;cases jH;exact absurd ai k9
  ·rw[zaa e]at hp;rw[nF i e]at jH;exact hw.my i eW p jH ai hp aq
def u1(L:ac (bK×cE))(F:Nat->aR)(p:Nat):Prop:=∃x ts,L[p]? =some (x,cE.hI ts)∧kH ((F p).only ts) x.g true
structure jY(X:Ctx)(aQ:Nat)(L:ac (bK×cE))(F:Nat->aR)(T:Nat->ay)(V:Nat->be)(gY:bC)(iX:co)(E:Nat->Prop)(c:Nat)(ι:bC)(a:Act)(w:co):Prop where
 low:∀p,p<c->E p
 FO:c<=L.length
 start:c=0∨∃p x,c=p+1∧L[p]? =some (x,cE.eH)
 DZ:∀(p:Nat) x,c<=p->E p->L[p]? ≠some (x,cE.eH)
 wr:bx X (fs ι (T c).al) (T c) w
 lx:∀id l,ι id=some l->id<(T c).al∨∃p,c<=p∧p<L.length∧E p∧u1 L F p∧id=(T p).al
 gh:∀p,c<=p->E p->u1 L F p->∃o l,T (p+1)=⟨(T p).h.set (T p).al o,(T p).al+1⟩∧ι (T p).al=some l∧jl X (fs ι ((T p).al+1)) w o l∧
  l.ca≠ix∧∀id l',ι id=some l'->id≠(T p).al->l'.cG≠l.cG
 gP:∀id l,ι id=some l->l.cG<w.heap.size
 keeps:fv gY ι iX w
 size:a.tmps.size=aQ
 c7:tc (fs ι (T c).al) (F c).c7 a.defers
 EW:∀(p:Nat) x fV t,L[p]? =some (x,fV)->x.d=some t->E p->bs (fs ι (max (T (p+1)).al (T c).al)) (V p) (a.tmps.getD t undef)
 Bz:∀t,(∀(p:Nat) x fV,L[p]? =some (x,fV)->x.d=some t->¬E p)->bs gY ((F 0).tmp t) (a.tmps.getD t undef)
section
variable{aQ:Nat}{ops:ap Oper}{L:ac (bK×cE)}{cd:ac Nat}{dU:ac Tmp}{ms:ac Nat}{call:bO}
variable{Z:Nat->Bool}{fr aK:aR}{st st':ay}{F:Nat->aR}{T:Nat->ay}{N:Nat->ac (ar bH)}{V:Nat->be}{gY:bC}{iX:co}{E:Nat->Prop}{c:Nat}{ι:bC}{a:Act}{w:co}
def jY.look(b8:jY X aQ L F T V gY iX E c ι a w)(aV:jy call Z L [st.h] fr st aK st' F T N V)(D:lr X aQ ops L cd dU ms)(h0:∀id,st.al<=id->gY id=none)(aJ:∀t∈dU,(F 0).tmp t=h7)
 (g0:∀p,E p->nk ops cd E p) {p:Nat} {x:bK} {fV:cE} (aa:L[p]? =some (x,fV)) (hr:nk ops cd E p) (hn:¬E p) {t:Nat} (hl:fV= .eH∨t∈fV.looks):
 bs (fs ι (T p).al) ((F p).tmp t) (a.tmps.getD t undef):=by
 have ie:p<L.length:=(zah.1 aa).1;have fZ:c<=p:=by
  rcases zao p c with h|h
  ·exact absurd (b8.low p h) hn
  ·exact h
 have jc:p<ops.size:=by rw[<-D.uf];exact ie
 have xz:gY.le (fs ι (T p).al):=by
  intro id l hl;refine j3.2 ⟨?_,b8.keeps.le _ _ hl⟩;rcases zao id st.al with h|h
  ·have:=aV.lV D (zaf p) (by omega);rw[aV.t0]at this;omega
  ·rw[h0 id h]at hl;cases hl
 by_cases hw:∃(q:Nat) (y:bK) (d:cE),L[q]? =some (y,d)∧y.d=some t
 ·obtain⟨q,y,d,aF,aq⟩:=hw;rcases zao q p with xU|xU
  ·have hb:(ms.getD p 0).testBit q=true:=by
    rcases hl with rfl|hl
    ·exact D.eH p x q aa xU
    ·exact D.dep p q x y fV d t aa aF xU aq hl
   have eY:=D.before g0 p hr jc q hb;rw[aV.PA D aF aq p xU (by omega)];refine(b8.EW q y d t aF aq eY).mono (r0 (.refl ι) ?_);have J:=aV.lV D (p:=q+1) (q:=p) xU (by omega);have U:=aV.lV D fZ (by omega);omega
  ·have hold:(F p).tmp t=(F 0).tmp t:=aV.JT t p (by omega) fun fJ ez b6 MG bS g6=>by
    have:=D.dst fJ q ez y b6 d t bS aF g6 aq;omega
   rw[hold];by_cases Hn:t∈dU
   ·rw[aJ t Hn];exact .top _
   ·refine(b8.Bz t fun fJ ez b6 bS g6 Wa=> ?_).mono xz;have alO:=D.dst fJ q ez y b6 d t bS aF g6 aq;subst alO;by_cases e:fJ=p
    ·subst e;exact hn Wa
    ·have hb:=D.adt p fJ x y fV d t aa aF (by omega) aq Hn hl;exact hn (D.before g0 fJ (g0 fJ Wa) (by rw[<-D.uf];exact(zah.1 aF).1) p hb)
 ·have gb:∀(q:Nat) ez b6,L[q]? =some (ez,b6)->ez.d≠some t:=fun q ez b6 bS g6=>hw ⟨q,ez,b6,bS,g6⟩;rw[aV.JT t p (by omega) fun q ez b6 _ bS=>gb q ez b6 bS];exact(b8.Bz t fun q ez b6 bS g6=>absurd g6 (gb q ez b6 bS)).mono xz
def jY.upto(b8:jY X aQ L F T V gY iX E c ι a w)(aV:jy call Z L [st.h] fr st aK st' F T N V)(_D:lr X aQ ops L cd dU ms):∀q,c<=q->q<=L.length->(∀r,c<=r->r<q->E r)->
 bx X (fs ι (T q).al) (T q) w∧(F q).c7=(F c).c7∧(F q).cM=(F c).cM∧(F q).bk=(F c).bk∧(F q).b7=(F c).b7:=by
 intro q auC
 induction q with
 |zero=>
  intro _ _;have:c=0:=by omega
  subst this;exact⟨b8.wr,rfl,rfl,rfl,rfl⟩
 |succ q a8=>
  intro hq eQ;by_cases e:c=q+1
  ·subst e;exact⟨b8.wr,rfl,rfl,rfl,rfl⟩
  obtain⟨i1,i2,i3,i4,i5⟩:=a8 (by omega) (by omega) (fun r J U=>eQ r J (by omega));obtain⟨⟨x,fV⟩,aa⟩:∃x,L[q]? =some x:=⟨_,bV (by omega)⟩;have eY:=eQ q (by omega) (by omega);have cx:fV≠.eH:=fun h=>b8.DZ q x (by omega) eY (by rw[aa,h]);obtain⟨s1,s2,yP,aqz⟩:=aV.same aa cx;refine⟨?_,s1.trans i2,s2.trans i3,yP.trans i4,aqz.trans i5⟩;rcases aV.step q x fV aa with⟨_,ai⟩|⟨_,ai⟩
  case inr=>rw[ai.2.2.1];exact i1
  cases fV with
  |eH=>exact absurd rfl cx
  |read n ts=>obtain⟨_,_,h,_⟩:=ai;rw[h];exact i1
  |hI ts=>
   obtain⟨_,_,h⟩:=ai;rcases h with⟨_,_,h⟩|⟨fw,_⟩
   ·rw[h];exact i1
   ·obtain⟨o,l,J,U,af,h0,ax⟩:=b8.gh q (by omega) eY ⟨x,ts,aa,fw⟩;have p5:fs ι ((T q).al+1)=hM (fs ι (T q).al) (T q).al l:=by
     funext id;unfold fs hM;by_cases aw:id=(T q).al
     ·subst aw;simp[U]
     ·by_cases e2:id<(T q).al
      ·simp[aw,e2];omega
      ·simp[aw,e2];omega
    rw[J];show bx X (fs ι ((T q).al+1)) _ w;rw[p5]at af⊢;refine i1.adn af (b8.gP _ _ U) h0 fun id l' cn=> ?_;obtain⟨aM,aN⟩:=j3.1 cn;exact ax id l' aN (by omega)
end
def BW(E:Nat->Prop)(p:Nat):Nat->Prop:=fun q=>E q∨q=p
def xx(a:Act)(d:am Tmp)(v:be)(t:Nat):(a.put d v).tmps.getD t undef=if d=some t∧t<a.tmps.size then v else a.tmps.getD t undef:=by
 cases d with
 |none=>simp[Act.put]
 |some d=>
  by_cases e:d=t
  ·subst e;by_cases h:d<a.tmps.size
   ·simp[Act.put,h]
   ·simp[Act.put,h]
  ·simp only[Option.some.injEq,e,false_and,if_false];simp[Act.put,zbH e]
section
variable{aQ:Nat}{ops:ap Oper}{L:ac (bK×cE)}{cd:ac Nat}{dU:ac Tmp}{ms:ac Nat}{call:bO}
variable{Z:Nat->Bool}{fr aK:aR}{st st':ay}{F:Nat->aR}{T:Nat->ay}{N:Nat->ac (ar bH)}{V:Nat->be}{gY:bC}{iX:co}{E:Nat->Prop}{c:Nat}{ι:bC}{a:Act}{w:co}
variable{p:Nat}{x:bK}
def jY.float(b8:jY X aQ L F T V gY iX E c ι a w)(D:lr X aQ ops L cd dU ms){fV:cE}(aa:L[p]? =some (x,fV))(hc:fV≠.eH)(fZ:c<=p)(kO:¬u1 L F p){v':be}
 (aq:∀t,x.d=some t->t<aQ) (aI:bs (fs ι (T (p+1)).al) (V p) v'):jY X aQ L F T V gY iX (BW E p) c ι (a.put x.d v') w:=by
 have eI:(a.put x.d v').tmps.size=aQ:=by rw[<-b8.size];cases x.d<;>simp[Act.put]
 refine⟨fun q hq=>.inl (b8.low q hq),b8.FO,b8.start,fun q y hq eY=> ?_,b8.wr,fun id l hl=> ?_,fun q hq eY er=> ?_,b8.gP,b8.keeps,eI,?_,fun q y k t aF iA eY=> ?_,fun t gb=> ?_⟩
 ·rcases eY with eY|rfl
  ·exact b8.DZ q y hq eY
  ·intro h;rw[aa]at h;cases h;exact hc rfl
 ·rcases b8.lx id l hl with h|⟨q,J,U,af,ax⟩
  ·exact .inl h
  ·exact .inr ⟨q,J,U,.inl af,ax⟩
 ·rcases eY with eY|rfl
  ·exact b8.gh q hq eY er
  ·exact absurd er kO
 ·have:(a.put x.d v').defers=a.defers:=by cases x.d<;>rfl
  rw[this];exact b8.c7
 ·rw[xx];by_cases e:q=p
  ·subst e;rw[aa]at aF;cases aF;rw[zab ⟨iA,by rw[b8.size];exact aq t iA⟩];exact aI.mono (r0 (.refl ι) (Nat.le_max_left _ _))
  ·rw[zaa (fun h=>e (D.dst q p y x k fV t aF aa iA h.1))];rcases eY with eY|h
   ·exact b8.EW q y k t aF iA eY
   ·exact absurd h e
 ·rw[xx,zaa (fun h=>gb p x fV aa h.1 (.inr rfl))];exact b8.Bz t fun q y k aF iA eY=>gb q y k aF iA (.inl eY)
def jY.agW(b8:jY X aQ L F T V gY iX E c ι a w)(aV:jy call Z L [st.h] fr st aK st' F T N V)(D:lr X aQ ops L cd dU ms){ts:ac Tmp}(aa:L[p]? =some (x,.hI ts))(fZ:c<=p)(m0:¬E p)
 {v':be} {o:bH} {O:Obj} {l:Loc} {w':co} (aq:∀t,x.d=some t->t<aQ) (fY:T (p+1)=⟨(T p).h.set (T p).al o,(T p).al+1⟩) (hl:l.cG=w.heap.size) (alj:l.ca≠ix) (hh:w'.heap=w.heap.push O) (gJ:rY w w')
 (aI:bs (hM (fs ι (T p).al) (T p).al l) (V p) v') (ao:jl X (hM (fs ι (T p).al) (T p).al l) w' o l):jY X aQ L F T V gY iX (BW E p) c (hM ι (T p).al l) (a.put x.d v') w':=by
 have ie:p<L.length:=(zah.1 aa).1;have si:ι (T p).al=none:=by
  cases hn:ι (T p).al with
  |none=>rfl
  |some m=>
   rcases b8.lx _ _ hn with h|⟨q,J,U,af,ax,a0⟩
   ·have:=aV.lV D fZ (by omega);omega
   ·obtain⟨br,l',ck,_⟩:=b8.gh q J af ax;have dx:(T (q+1)).al=(T q).al+1:=by rw[ck]
    have LW:(T (p+1)).al=(T p).al+1:=by rw[fY]
    rcases zcE q p with h|h|h
    ·have:=aV.lV D (p:=q+1) (q:=p) h (by omega);omega
    ·subst h;exact absurd af m0
    ·have:=aV.lV D (p:=p+1) (q:=q) h (by omega);omega
 have hle:ι.le (hM ι (T p).al l):=by
  intro id l' cn;show(if id=(T p).al then some l else ι id)=some l';rw[zaa];exact cn;intro e;subst e;rw[si]at cn;cases cn
 have q2:hM ι (T p).al l (T p).al=some l:=zab rfl;have nF:∀id,id≠(T p).al->hM ι (T p).al l id=ι id:=fun id h=>zaa h;have p5:∀n,(T p).al<n->(hM (fs ι (T p).al) (T p).al l).le (fs (hM ι (T p).al l) n):=by
  intro n hn id l' cn;unfold hM at cn;by_cases e:id=(T p).al
  ·rw[zab e]at cn;cases cn;subst e;exact j3.2 ⟨hn,q2⟩
  ·rw[zaa e]at cn;obtain⟨J,U⟩:=j3.1 cn;exact j3.2 ⟨by omega,by rw[nF id e];exact U⟩
 have hold:∀b,b<w.heap.size->w'.heap[b]? =w.heap[b]? :=fun b hb=>by rw[hh,zcT,zaa (by omega)]
 have auZ:w'.heap.size=w.heap.size+1:=by rw[hh];simp
 have eI:(a.put x.d v').tmps.size=aQ:=by rw[<-b8.size];cases x.d<;>simp[Act.put]
 have kv:=aV.lV D fZ (by omega);have Wh:fs (hM ι (T p).al l) (T c).al=fs ι (T c).al:=by
  funext id;unfold fs;by_cases h:id<(T c).al
  ·rw[zab h,zab h,nF id (by omega)]
  ·rw[zaa h,zaa h]
 have LW:(T (p+1)).al=(T p).al+1:=by rw[fY]
 refine⟨fun q hq=>.inl (b8.low q hq),b8.FO,b8.start,fun q y hq eY=> ?_,?_,fun id l' cn=> ?_,fun q hq eY er=> ?_,fun id l' cn=> ?_,?_,eI,?_,fun q y k t aF iA eY=> ?_,fun t gb=> ?_⟩
 ·rcases eY with eY|rfl
  ·exact b8.DZ q y hq eY
  ·intro h;rw[aa]at h;cases h
 ·rw[Wh];refine⟨fun id br jK g6=> ?_,b8.wr.inj,b8.wr.fresh,fun id l' cn=> ?_,b8.wr.me,b8.wr.p2,b8.wr.my⟩
  ·obtain⟨l',J,U⟩:=b8.wr.eD id br jK g6;exact⟨l',J,jl.mono X U (.refl _) (hold _ (b8.wr.gP id l' J))⟩
  ·have:=b8.wr.gP id l' cn;omega
 ·by_cases e:id=(T p).al
  ·by_cases er:u1 L F p
   ·exact .inr ⟨p,fZ,ie,.inr rfl,er,e⟩
   ·exfalso;rcases aV.step p x (.hI ts) aa with⟨_,ai⟩|⟨_,ai⟩
    case inr=>rw[ai.2.2.1]at LW;omega
    obtain⟨_,_,h⟩:=ai;rcases h with⟨_,_,h⟩|⟨h,_⟩
    ·rw[h]at LW;omega
    ·exact er ⟨x,ts,aa,h⟩
  ·rw[nF id e]at cn;rcases b8.lx id l' cn with h|⟨q,J,U,af,ax⟩
   ·exact .inl h
   ·exact .inr ⟨q,J,U,.inl af,ax⟩
 ·by_cases e:q=p
  ·subst e;refine⟨o,l,fY,q2,jl.mono X ao (p5 _ (zce _)) rfl,alj,fun id l' cn cx=> ?_⟩;rw[nF id cx]at cn;have:=b8.gP id l' cn;omega
  ·rcases eY with eY|h
   ·obtain⟨br,l',J,U,af,h0,ax⟩:=b8.gh q hq eY er;refine⟨br,l',J,hle _ _ U,jl.mono X af (r0 hle (b5 _)) (hold _ (b8.gP _ _ U)),h0,fun id m hm cx=> ?_⟩;by_cases cy:id=(T p).al
    ·subst cy;rw[q2]at hm;cases hm;have:=b8.gP _ _ U;omega
    ·rw[nF id cy]at hm;exact ax id m hm cx
   ·exact absurd h e
 ·by_cases e:id=(T p).al
  ·subst e;rw[q2]at cn;cases cn;omega
  ·rw[nF id e]at cn;have:=b8.gP id l' cn;omega
 ·refine b8.keeps.trans ⟨hle,by omega,fun b hb _=>hold b hb,fun id l' cn=> ?_,gJ⟩;by_cases e:id=(T p).al
  ·subst e;rw[q2]at cn;cases cn;exact .inr (.inl (by omega))
  ·rw[nF id e]at cn;exact .inl cn
 ·have:(a.put x.d v').defers=a.defers:=by cases x.d<;>rfl
  rw[this,Wh];exact b8.c7
 ·rw[xx];by_cases e:q=p
  ·subst e;rw[aa]at aF;cases aF;rw[zab ⟨iA,by rw[b8.size];exact aq t iA⟩];exact aI.mono (p5 _ (by omega))
  ·rw[zaa (fun h=>e (D.dst q p y x k _ t aF aa iA h.1))];rcases eY with eY|h
   ·exact(b8.EW q y k t aF iA eY).mono (r0 hle (b5 _))
   ·exact absurd h e
 ·rw[xx,zaa (fun h=>gb p x _ aa h.1 (.inr rfl))];exact b8.Bz t fun q y k aF iA eY=>gb q y k aF iA (.inl eY)
def jY.effect(b8:jY X aQ L F T V gY iX E c ι a w)(aV:jy call Z L [st.h] fr st aK st' F T N V)(D:lr X aQ ops L cd dU ms)(aa:L[p]? =some (x,.eH))(fZ:c<=p)(xF:∀q,q<p->E q)
 {aU:bC} {a':Act} {w':co} {v':be} (aq:∀t,x.d=some t->t<aQ) (hw:bx X aU (T (p+1)) w') (ab:fv (fs ι (T p).al) aU w w') (aY:a'.tmps=(a.put x.d v').tmps) (aI:bs aU (V p) v'∨x.d=none) (nB:tc aU (F (p+1)).c7 a'.defers):
 ∃fz,jY X aQ L F T V gY iX (BW E p) (p+1) fz a' w':=by
 have ie:p<L.length:=(zah.1 aa).1;have o9:=aV.YN D ie;have kv:=aV.lV D fZ (by omega);have alu:¬u1 L F p:=fun⟨y,ts,aF,_⟩=>by rw[aa]at aF;cases aF
 have W0:∀q,c<=q->q<L.length->E q->u1 L F q->(q<p∧(T q).al<(T p).al)∨(p<q∧(T (p+1)).al<=(T q).al):=by
  intro q J U af ax;obtain⟨br,l',ck,_⟩:=b8.gh q J af ax;have dx:(T (q+1)).al=(T q).al+1:=by rw[ck]
  rcases zcE q p with h|h|h
  ·left;have:=aV.lV D (p:=q+1) (q:=p) h (by omega);exact⟨h,by omega⟩
  ·subst h;exact absurd ax alu
  ·right;exact⟨h,aV.lV D (p:=p+1) (q:=q) h (by omega)⟩
 let fz:bC:=fun id=>if id<(T (p+1)).al then aU id else ι id
 have xM:∀id,id<(T (p+1)).al->fz id=aU id:=fun id h=>zab h;have C5:∀id,(T (p+1)).al<=id->fz id=ι id:=fun id h=>zaa (by omega);have hle:ι.le fz:=by
  intro id l hl;rcases zao id (T (p+1)).al with h|h
  ·rw[xM id h];apply ab.le;refine j3.2 ⟨?_,hl⟩;rcases b8.lx id l hl with J|⟨q,J,U,af,ax,a0⟩
   ·omega
   ·rcases W0 q J U af ax with⟨_,ck⟩|⟨_,ck⟩<;>omega
  ·rw[C5 id h];exact hl
 have p5:fs fz (T (p+1)).al=aU:=by
  funext id;unfold fs;by_cases h:id<(T (p+1)).al
  ·rw[zab h,xM id h]
  ·rw[zaa h,(hw.fresh id (by omega)).1]
 have amp:∀n,(T (p+1)).al<=n->aU.le (fs fz n):=by
  intro n hn;rw[<-p5];exact r0 (.refl _) hn
 have h1:fv ι fz w w':=by
  refine⟨hle,ab.size,fun b hb hi=>ab.kept b hb fun id l hl ai=>hi id l (j3.1 hl).2 ai,fun id l hl=> ?_,ab.gJ⟩;rcases zao id (T (p+1)).al with h|h
  ·rw[xM id h]at hl;rcases ab.new id l hl with J|J|⟨j,m,J,U,af⟩
   ·exact .inl (j3.1 J).2
   ·exact .inr (.inl J)
   ·exact .inr (.inr ⟨j,m,(j3.1 J).2,U,af⟩)
  ·rw[C5 id h]at hl;exact .inl hl
 have eI:a'.tmps.size=aQ:=by rw[aY,<-b8.size];cases x.d<;>simp[Act.put]
 refine⟨fz,fun q hq=> ?_,ie,.inr ⟨p,x,rfl,aa⟩,fun q y hq eY=> ?_,by rw[p5];exact hw,fun id l hl=> ?_,fun q hq eY er=> ?_,fun id l hl=> ?_,b8.keeps.trans h1,eI,by rw[p5];exact nB,fun q y k t aF iA eY=> ?_,fun t gb=> ?_⟩
 ·by_cases e:q=p
  ·exact .inr e
  ·exact .inl (xF q (by omega))
 ·rcases eY with eY|h
  ·exact b8.DZ q y (by omega) eY
  ·omega
 ·rcases zao id (T (p+1)).al with h|h
  ·exact .inl h
  ·rw[C5 id h]at hl;rcases b8.lx id l hl with J|⟨q,J,U,af,ax,a0⟩
   ·omega
   ·rcases W0 q J U af ax with⟨_,ck⟩|⟨ck,_⟩
    ·omega
    ·exact .inr ⟨q,ck,U,.inl af,ax,a0⟩
 ·rcases eY with eY|h
  ·have alL:=er;obtain⟨br,l',J,U,af,h0,ax⟩:=b8.gh q (by omega) eY er;have Ag:q<L.length:=by obtain⟨y,ts,aF,_⟩:=alL;exact(zah.1 aF).1
   have MG:(T (p+1)).al<=(T q).al:=aV.lV D hq (by omega);refine⟨br,l',J,hle _ _ U,jl.mono X af (r0 hle (b5 _)) ?_,h0,fun id m hm cx=> ?_⟩
   ·exact ab.kept l'.cG (b8.gP _ _ U) fun id m hm _=>ax id m (j3.1 hm).2 (by have:=(j3.1 hm).1;omega)
   ·rcases zao id (T (p+1)).al with h|h
    ·rw[xM id h]at hm;rcases ab.new id m hm with aM|aM|⟨j,fi,aM,_,aN⟩
     ·exact ax id m (j3.1 aM).2 cx
     ·have:=b8.gP _ _ U;omega
     ·have:=ax j fi (j3.1 aM).2 (by have:=(j3.1 aM).1;omega);omega
    ·rw[C5 id h]at hm;exact ax id m hm cx
  ·omega
 ·rcases zao id (T (p+1)).al with h|h
  ·rw[xM id h]at hl;exact hw.gP id l hl
  ·rw[C5 id h]at hl;exact fy (b8.gP id l hl) ab.size
 ·rw[aY,xx];by_cases e:q=p
  ·subst e;rw[aa]at aF;cases aF;rw[zab ⟨iA,by rw[b8.size];exact aq t iA⟩];rcases aI with aI|aI
   ·exact aI.mono (amp _ (Nat.le_max_left _ _))
   ·rw[iA]at aI;cases aI
  ·rw[zaa (fun h=>e (D.dst q p y x k _ t aF aa iA h.1))];rcases eY with eY|h
   ·refine(b8.EW q y k t aF iA eY).mono (r0 hle ?_);omega
   ·exact absurd h e
 ·rw[aY,xx,zaa (fun h=>gb p x _ aa h.1 (.inr rfl))];exact b8.Bz t fun q y k aF iA eY=>gb q y k aF iA (.inl eY)
end
end Go.ak
namespace Go.ak
variable{X:Ctx}{call:bO}
variable{x:dg}
def aqe(h:x.ss=true):x.inPlace=true:=by cases x<;>first|rfl|cases h
def adq(h:x.ua=true):x.inPlace=true:=by cases x<;>first|rfl|cases h
def Yz{op:Op}(dr:X.jP op x=true)(aa:x.ss=true∨x.ua=true)(c:Call):op≠.defer c:=by
 intro hc;rw[hc]at dr;cases tX:x with
 |uk fn p q=>rw[tX]at dr;cases fn<;>cases dr
 |v3 p=>rw[tX]at aa;rcases aa with h|h<;>cases h
 |refuse=>rw[tX]at aa;rcases aa with h|h<;>cases h
 |qS p q=>rw[tX]at aa;rcases aa with h|h<;>cases h
 |ext y=>rw[tX]at dr;cases y<;>cases dr
 |_=>rw[tX]at dr;cases dr
section
variable{aQ:Nat}{ops:ap Oper}{L:ac (bK×cE)}{cd:ac Nat}{dU:ac Tmp}{ms:ac Nat}
variable{Z:Nat->Bool}{fr aK:aR}{st st':ay}{F:Nat->aR}{T:Nat->ay}{N:Nat->ac (ar bH)}{V:Nat->be}{gY:bC}{iX:co}{E:Nat->Prop}{c:Nat}{ι:bC}{a:Act}{w:co}
variable{b:dL}{bA:Bool->ac Frame}{k:ac Item}{i:Nat}{rest:ac Nat}
def y2{x:bK}{o:Oper}{t:Bool}(h:m5 X aQ ops x o=true)(ae:cz ι fr a aQ)(ab:kH fr x.g t):Region.wanted o (yielded ops a.tmps)=t:=by
 rcases acE h ae ab (by simp)with⟨e,hw⟩|⟨e,hw⟩
 ·cases e;exact hw
 ·cases e;exact hw
def jY.aa9(b8:jY X aQ L F T V gY iX E c ι a w)(aV:jy call Z L [st.h] fr st aK st' F T N V)(D:lr X aQ ops L cd dU ms)(h0:∀id,st.al<=id->gY id=none)(aJ:∀t∈dU,(F 0).tmp t=h7)
 (g0:∀p,E p->nk ops cd E p) {p:Nat} {x:bK} {fV:cE} (aa:L[p]? =some (x,fV)) (hr:nk ops cd E p) (hn:¬E p) (fZ:c<=p):
 cz (fs ι (T p).al) ((F p).only fV.looks) ⟨a.tmps,[]⟩ aQ∧bx X (fs ι (T p).al) ⟨(T c).h,(T p).al⟩ w:=by
 have ie:p<L.length:=(zah.1 aa).1;refine⟨⟨fun t=> ?_,b8.size,trivial⟩,?_⟩
 ·rw[YS];by_cases h:t∈fV.looks
  ·rw[zab h];exact b8.look aV D h0 aJ g0 aa hr hn (.inr h)
  ·rw[zaa h];exact .top _
 ·have kv:=aV.lV D fZ (by omega);refine bx.look (n:=(T c).al) (ι:=fs ι (T c).al) b8.wr (r0 (.refl ι) kv) (fun id om=> ?_) kv (fun id l hl=>b8.gP id l (j3.1 hl).2);show(if id<(T p).al then ι id else none)=none;rw[zaa (by omega)]
def af0(eN:nj X call)(b8:jY X aQ L F T V gY iX E c ι a w)(aV:jy call Z L [st.h] fr st aK st' F T N V)(D:lr X aQ ops L cd dU ms)(h0:∀id,st.al<=id->gY id=none)(aJ:∀t∈dU,(F 0).tmp t=h7)
 (g0:∀p,E p->nk ops cd E p) {p:Nat} (hp:p<L.length) (Al:Z p=false) (m0:∀x c,L[p]? =some (x,c)->ze call x c (F p) (T p)) (hi:cd[p]? =some i) (hr:nk ops cd E p) (hn:¬E p) (hb:qI gY (F 0).b7 b.b7) (q9:kF b (F 0).bk gY bA) (iy:(F c).bk=(F 0).bk) (iz:(F c).b7=(F 0).b7):
 ∃b6 fz a' w',Steps X.P (lone (b.at a (.inRegion ops (i::rest)::k)) (bA (F c).cM) w) (lone (b.at a' (.inRegion ops rest::k)) (bA (F b6).cM) w')∧jY X aQ L F T V gY iX (BW E p) b6 fz a' w'∧
  (F b6).bk=(F 0).bk∧(F b6).b7=(F 0).b7:=by
 obtain⟨⟨x,fV⟩,aa⟩:∃x,L[p]? =some x:=⟨_,bV hp⟩;obtain⟨o,ao,bE⟩:=D.op p i x fV hi aa;obtain⟨lB,lC⟩:=N8 bE;have jc:p<ops.size:=by rw[<-D.uf];exact hp
 have fZ:c<=p:=by
  rcases zao p c with h|h
  ·exact absurd (b8.low p h) hn
  ·exact h
 have ai:DStep call x fV (F p) (T p) (N p) (V p) (F (p+1)) (T (p+1)) (N (p+1)):=by
  rcases aV.step p x fV aa with⟨_,ai⟩|⟨h,_⟩
  ·exact ai
  ·rw[Al]at h;cases h
 have tP:=aV.lV D (zaf p) (by omega);rw[aV.t0]at tP;have xz:gY.le (fs ι (T p).al):=by
  intro id l hl;refine j3.2 ⟨?_,b8.keeps.le _ _ hl⟩;rcases zao id st.al with h|h
  ·omega
  ·rw[h0 id h]at hl;cases hl
 cases fV with
 |eH=>
  have xF:∀q,q<p->E q:=fun q hq=>D.before g0 p hr jc q (D.eH p x q aa hq);obtain⟨iV,hf,yW,wP,wQ⟩:=b8.upto aV D p fZ (by omega) (fun r _ h=>xF r h);have ae:cz (fs ι (T p).al) (F p) a aQ:=⟨fun t=>b8.look aV D h0 aJ g0 aa hr hn (.inl rfl),b8.size,by rw[hf];exact b8.c7.mono (r0 (.refl ι) (aV.lV D fZ (by omega)))⟩;rcases ai with⟨fw|⟨fw,u,bz,k7⟩,aI,az,fY,_⟩|⟨fw,en,jo,_,az,_⟩
  ·have m2:=y2 bE ae fw;have e0:=JM (P:=X.P) (b:=b) (k:=k) (cs:=bA (F c).cM) (w:=w) (rest:=rest) ao m2;obtain⟨cP,cT,ek,jR⟩:=uA (F p) x.d undef;obtain⟨fz,kr⟩:=b8.effect aV D aa fZ xF (aU:=fs ι (T p).al) (a':=a.put x.d undef) (w':=w) (v':=undef) lC (by rw[fY];exact iV) (.refl _ _) rfl (.inl (by rw[aI];exact bs.undef _)) (by
    rw[az,jR];have:(a.put x.d undef).defers=a.defers:=by cases x.d<;>rfl
    rw[this];exact ae.c7)
   refine⟨p+1,fz,_,w,?_,kr,?_,?_⟩
   ·rw[az,ek,yW,lB];exact .one e0
   ·rw[az,cP,wP,iy]
   ·rw[az,cT,wQ,iz]
  ·exact absurd k7 (m0 x .eH aa rfl fw u bz)
  ·have m2:=y2 bE ae fw;obtain⟨aU,a',w',e0,eU,eg,ab,alJ,alV,v',tD⟩:=Zh (b:=b) (bA:=bA) (k:=k) (rest:=rest) bE eN ao m2 ae iV (by rw[wQ,iz];exact hb.mono xz) (by rw[wP,iy];exact q9.mono xz) jo;have Hg:=uA ⟨(F p).t,en.c7,en.bk,en.cM,en.b7⟩ x.d (V p);have aI:bs aU (V p) v'∨x.d=none:=by
    cases Dx:x.d with
    |none=>exact .inr rfl
    |some t=>
     left;have:=eU.tmp t;rw[rP,zab Dx,tD,<-lB,xx,zab ⟨Dx,by rw[b8.size];exact lC t Dx⟩]at this;exact this
   obtain⟨fz,kr⟩:=b8.effect aV D aa fZ xF (aU:=aU) (a':=a') (w':=w') (v':=v') lC eg ab (by rw[tD,lB]) aI (by
    rw[az,Hg.2.2.2];have:=eU.c7;rw[(uA en x.d (V p)).2.2.2]at this;exact this)
   refine⟨p+1,fz,a',w',?_,kr,?_,?_⟩
   ·rw[az,Hg.2.2.1,<-yW];exact e0
   ·rw[az,Hg.1];exact alJ.trans (wP.trans iy)
   ·rw[az,Hg.2.1];exact alV.trans (wQ.trans iz)
 |read n ts=>
  obtain⟨aM,aN⟩:=b8.aa9 aV D h0 aJ g0 aa hr hn fZ;have Hb:¬u1 L F p:=fun⟨y,EX,aF,_⟩=>by rw[aa]at aF;cases aF
  obtain⟨_,_,fY,kx⟩:=ai;rcases kx with⟨fw,aI⟩|⟨fw,ml⟩
  ·have m2:=y2 bE aM fw;have e0:=JM (P:=X.P) (b:=b) (a:=a) (k:=k) (cs:=bA (F c).cM) (w:=w) (rest:=rest) ao m2;exact⟨c,ι,_,w,.one e0,by rw[<-lB];exact b8.float D aa (by simp) fZ Hb lC (by rw[aI];exact bs.undef _),iy,iz⟩
  ·have m2:=y2 bE aM fw;have aky:(List.range p).countP (fun q=>decide (c<=q)&&tz L q)<n+1:=by
    refine Nat.lt_succ_of_le (zaj (List.countP_mono_left fun q hq hh=> ?_) (D.back p x n ts aa));simp only[b3,decide_eq_true_eq]at hh⊢;refine⟨hh.2,?_⟩;cases Hl:(ms.getD p 0).testBit q with
    |false=>rfl
    |true=>
     exfalso;have eY:=D.before g0 p hr jc q Hl;have he:=hh.2;unfold tz at he;cases aF:L[q]? with
     |none=>rw[aF]at he;cases he
     |some y=>
      obtain⟨fk,acS⟩:=y;rw[aF]at he;cases acS with
      |eH=>exact b8.DZ q fk hh.1 eY aF
      |hI _=>cases he
      |read _ _=>cases he
   obtain⟨hh,ly,dB,aw,e2⟩:=aa8 _ _ ml _ aky;have bW:=aV.snap b8.start p fZ (by omega);rw[bW]at aw;cases aw;have dr:=Ir bE;have lI:=D.rd p x n ts aa;obtain⟨_,_,dm,_⟩:=NZ dr aM aN e2 (aqe lI);obtain⟨_,_,v',fQ,aI⟩:=dm lI;have Dq:(execOp a.eval o).run X.P w= .ok (.value v') w:=fQ;have e0:=Pu (b:=b) (a:=a) (k:=k) (cs:=bA (F c).cM) (rest:=rest) ao m2 (.inr (Yz dr (.inl lI))) Dq;exact⟨c,ι,_,w,.one e0,by rw[<-lB];exact b8.float D aa (by simp) fZ Hb lC (by rw[fY];exact aI),iy,iz⟩
 |hI ts=>
  obtain⟨aM,aN⟩:=b8.aa9 aV D h0 aJ g0 aa hr hn fZ;obtain⟨_,_,kx⟩:=ai;rcases kx with⟨fw,aI,fY⟩|⟨fw,en,jo⟩
  ·have m2:=y2 bE aM fw;have e0:=JM (P:=X.P) (b:=b) (a:=a) (k:=k) (cs:=bA (F c).cM) (w:=w) (rest:=rest) ao m2;have Hb:¬u1 L F p:=fun⟨y,EX,aF,eg⟩=>by
    rw[aa]at aF;cases aF;have J:hg ((F p).only ts) x.g (some true) (some false) none=some false:=fw;have U:hg ((F p).only ts) x.g (some true) (some false) none=some true:=eg;rw[J]at U;cases U
   exact⟨c,ι,_,w,.one e0,by rw[<-lB];exact b8.float D aa (by simp) fZ Hb lC (by rw[aI];exact bs.undef _),iy,iz⟩
  ·have m2:=y2 bE aM fw;have kO:=D.hI p x ts aa;have dr:=Ir bE;obtain⟨Ig,aly,_,fY,eQ⟩:=Qp (h0:=(T p).h) (al:=(T p).al) kO jo;obtain⟨_,_,_,er⟩:=NZ dr aM aN (eQ (T c).h) (adq kO);obtain⟨ys,O,ex,v',w',aw,e2,fQ,Md,aI,eg,ab⟩:=er kO;have kQ:(some Ig:am bH)=some ys:=by
    have:=congrArg (fun s:ay=>s.h.get (T p).al) aw;simp only[ar.eo,if_true]at this;exact this
   cases kQ;have alx:jl X (hM (fs ι (T p).al) (T p).al ⟨w.heap.size,0,ex,id⟩) w' Ig ⟨w.heap.size,0,ex,id⟩:=by
    obtain⟨l,hl,hm⟩:=eg.eD (T p).al Ig (by show((T c).h.set (T p).al Ig).get (T p).al=_;rw[ar.eo,zab rfl]) aly;have:hM (fs ι (T p).al) (T p).al ⟨w.heap.size,0,ex,id⟩ (T p).al=some ⟨w.heap.size,0,ex,id⟩:=zab rfl;have e:=this.symm.trans hl;cases e;exact hm
   have Dq:(execOp a.eval o).run X.P w= .ok (.value v') w':=fQ;have e0:=Pu (b:=b) (a:=a) (k:=k) (cs:=bA (F c).cM) (rest:=rest) ao m2 (.inr (Yz dr (.inr kO))) Dq;exact⟨c,_,_,w',.one e0,by rw[<-lB];exact b8.agW aV D aa fZ hn lC fY (by rfl) (by exact MU) Md ab.gJ aI alx,iy,iz⟩
def afY(eN:nj X call)(b8:jY X aQ L F T V gY iX E c ι a w)(aV:jy call Z L [st.h] fr st aK st' F T N V)(D:lr X aQ ops L cd dU ms)(h0:∀id,st.al<=id->gY id=none)(aJ:∀t∈dU,(F 0).tmp t=h7)
 (g0:∀p,E p->nk ops cd E p) {p:Nat} (hp:p<L.length) {x:bK} (aa:L[p]? =some (x,.eH)) (hi:cd[p]? =some i) (hr:nk ops cd E p) (hn:¬E p) (iy:(F c).bk=(F 0).bk) (iz:(F c).b7=(F 0).b7)
 (fw:kH (F p) x.g true) (z3:x.o.nq=true) {u:be} {abP:ay} (jo:bR call x.o (F p) (T p)= .bk u abP):
 ∃aU v' w',Steps X.P (lone (b.at a (.inRegion ops (i::rest)::k)) (bA (F p).cM) w) (lone (b.panics a (.inRegion ops (i::rest)::k) v') (bA (F p).cM) w')∧bs aU u v'∧bx X aU abP w'∧fv gY aU iX w'∧cz aU (F p) a aQ∧
  (F c).cM=(F p).cM∧(F p).bk=(F 0).bk∧(F p).b7=(F 0).b7:=by
 obtain⟨o,ao,bE⟩:=D.op p i x .eH hi aa;have jc:p<ops.size:=by rw[<-D.uf];exact hp
 have fZ:c<=p:=by
  rcases zao p c with h|h
  ·exact absurd (b8.low p h) hn
  ·exact h
 have xF:∀q,q<p->E q:=fun q hq=>D.before g0 p hr jc q (D.eH p x q aa hq);obtain⟨iV,hf,yW,wP,wQ⟩:=b8.upto aV D p fZ (by omega) (fun r _ h=>xF r h);have ae:cz (fs ι (T p).al) (F p) a aQ:=⟨fun t=>b8.look aV D h0 aJ g0 aa hr hn (.inl rfl),b8.size,by rw[hf];exact b8.c7.mono (r0 (.refl ι) (aV.lV D fZ (by omega)))⟩;have m2:=y2 bE ae fw;obtain⟨aU,v',w',ai,aI,eg,ab⟩:=Zi (b:=b) (k:=k) (rest:=rest) (cs:=bA (F p).cM) bE eN ao m2 ae iV z3 jo;have tP:=aV.lV D (zaf p) (by omega);rw[aV.t0]at tP;have xz:gY.le (fs ι (T p).al):=by
  intro id l hl;refine j3.2 ⟨?_,b8.keeps.le _ _ hl⟩;rcases zao id st.al with h|h
  ·omega
  ·rw[h0 id h]at hl;cases hl
 have WG:fv gY (fs ι (T p).al) iX w:=⟨xz,b8.keeps.size,b8.keeps.kept,fun id l hl=>b8.keeps.new id l (j3.1 hl).2,b8.keeps.gJ⟩;exact⟨aU,v',w',ai,aI,eg,WG.trans ab,ae.mono ab.le,yW.symm,wP.trans iy,wQ.trans iz⟩
end
theorem Rz{α:Type}{p q:α->Bool}:∀{l:ac α},(∀x∈l,p x=true->q x=true)->(∃x∈l,q x=true∧p x=false)->l.countP p<l.countP q
 |[],_,⟨x,aa,_⟩=>by cases aa
 |y::l,h,⟨x,aa,J,U⟩=>by
  have hle:l.countP p<=l.countP q:=List.countP_mono_left fun z aJ=>h z (zaM _ aJ);rw[zej,zej];rcases zar.1 aa with rfl|aa
  ·simp only[J,U,if_true];simp;omega
  ·have:=Rz (fun z aJ=>h z (zaM _ aJ)) ⟨x,aa,J,U⟩;have aF:=h y zbB;cases hp:p y with
   |false=>simp;split<;>omega
   |true=>simp[aF hp];omega
section
variable{aQ:Nat}{ops:ap Oper}{L:ac (bK×cE)}{cd:ac Nat}{dU:ac Tmp}{ms:ac Nat}
variable{Z:Nat->Bool}{fr aK:aR}{st st':ay}{F:Nat->aR}{T:Nat->ay}{N:Nat->ac (ar bH)}{V:Nat->be}{gY:bC}{iX:co}
variable{b:dL}{bA:Bool->ac Frame}{k:ac Item}
variable{listed:ap Bool}{i:Nat}
def lq(cd:ac Nat)(listed:ap Bool):Nat->Prop:=fun p=>∃i,cd[p]? =some i∧listed.getD i false=true
def ajw:listed.getD i false=true->listed.getD i true=true:=by
 intro h;rcases zao i listed.size with hi|hi
 ·simpa[hi]using h
 ·simp[hi]at h
def VZ(hi:i<listed.size)(h:listed.getD i false≠true):listed.getD i true=false:=by
 simpa[hi]using h
def lr.adr(D:lr X aQ ops L cd dU ms)(eI:listed.size=ops.size)(h:Region.ready .any ops listed=[]):∀p,p<L.length->lq cd listed p:=by
 intro p
 induction p using Nat.strongRecOn with
 |_ p a8=>
  intro hp;have jc:p<ops.size:=by rw[<-D.uf];exact hp
  have hi:cd[p]? =some (cd[p]'(by rw[D.ya];exact jc)):=bV _;obtain⟨⟨x,fV⟩,aa⟩:∃x,L[p]? =some x:=⟨_,bV hp⟩;obtain⟨o,ao,_⟩:=D.op p _ x fV hi aa;refine⟨_,hi,?_⟩;by_cases hl:listed.getD (cd[p]'(by rw[D.ya];exact jc)) false=true
  ·exact hl
  ·exfalso;have a4:=(zbk.1 ao).1;have Ac:(cd[p]'(by rw[D.ya];exact jc))∈Region.ready .any ops listed:=by
    rw[mem_ready];refine⟨VZ (by rw[eI];exact a4) hl,o,ao,fun e he hb=> ?_⟩;obtain⟨q,hq,alM⟩:=D.agb p _ o hi ao e he hb;obtain⟨j,hj,hO⟩:=a8 q hq (by omega);rw[alM]at hj;cases hj;exact hO
   rw[h]at Ac;cases Ac
def afX(eN:nj X call)(aV:jy call Z L [st.h] fr st aK st' F T N V)(D:lr X aQ ops L cd dU ms)(h0:∀id,st.al<=id->gY id=none)(aJ:∀t∈dU,(F 0).tmp t=h7)
 (hb:qI gY (F 0).b7 b.b7) (q9:kF b (F 0).bk gY bA) (n:Nat) (m0:Kk call Z L F T n) (LY:∀p,Z p=true->n<L.length∧(ms.getD p 0).testBit n=true):∀(fuel t:Nat) (listed:ap Bool) (c:Nat) (ι:bC) (a:Act) (w:co),listed.size=ops.size->(List.range ops.size).countP (fun i=> !listed.getD i true)<=fuel->
 (∀p,lq cd listed p->nk ops cd (lq cd listed) p)->¬lq cd listed n->jY X aQ L F T V gY iX (lq cd listed) c ι a w->(F c).bk=(F 0).bk->(F c).b7=(F 0).b7->
 (∃k1 b6 fz a' w',Steps X.P (lone (b.at a (.inRegion ops (Region.linearise.go .any ops fuel t listed [])::k)) (bA (F c).cM) w) (lone (b.at a' (.inRegion ops []::k)) (bA (F b6).cM) w')∧
  (∀p,p<L.length->k1 p)∧jY X aQ L F T V gY iX k1 b6 fz a' w'∧(F b6).bk=(F 0).bk∧(F b6).b7=(F 0).b7∧(k1 n->lq cd listed n))∨
 (∃k1 b6 fz a' w' i rest,Steps X.P (lone (b.at a (.inRegion ops (Region.linearise.go .any ops fuel t listed [])::k)) (bA (F c).cM) w) (lone (b.at a' (.inRegion ops (i::rest)::k)) (bA (F b6).cM) w')∧
  n<L.length∧cd[n]? =some i∧(∀p,k1 p->nk ops cd k1 p)∧nk ops cd k1 n∧¬k1 n∧jY X aQ L F T V gY iX k1 b6 fz a' w'∧(F b6).bk=(F 0).bk∧(F b6).b7=(F 0).b7):=by
 intro fuel
 induction fuel with
 |zero=>
  intro t listed c ι a w eI C1 tF GW b8 iy iz;refine .inl ⟨lq cd listed,c,ι,a,w,.refl _ _,fun p hp=> ?_,b8,iy,iz,id⟩;have jc:p<ops.size:=by rw[<-D.uf];exact hp
  have hi:cd[p]? =some (cd[p]'(by rw[D.ya];exact jc)):=bV _;obtain⟨⟨x,fV⟩,aa⟩:∃x,L[p]? =some x:=⟨_,bV hp⟩;obtain⟨o,ao,_⟩:=D.op p _ x fV hi aa;have a4:=(zbk.1 ao).1;refine⟨_,hi,?_⟩;have J:=List.countP_eq_zero.1 (Nat.le_zero.1 C1) _ (zcY.2 a4);by_cases hl:listed.getD (cd[p]'(by rw[D.ya];exact jc)) false=true
  ·exact hl
  ·rw[VZ (by rw[eI];exact a4) hl]at J;simp at J
 |succ fuel a8=>
  intro t listed c ι a w eI C1 tF GW b8 iy iz;simp only[Region.linearise.go];change(∃k1 b6 fz a' w',Steps X.P (lone (b.at a (.inRegion ops (match(Region.ready .any ops listed)[t%(Region.ready .any ops listed).length]? with
   |some i=>Region.linearise.go .any ops fuel (t/(Region.ready .any ops listed).length) (listed.setIfInBounds i true) [i]
   |none=>[].reverse)::k)) (bA (F c).cM) w) _∧_)∨(∃k1 b6 fz a' w' i rest,Steps X.P (lone (b.at a (.inRegion ops (match(Region.ready .any ops listed)[t%(Region.ready .any ops listed).length]? with
   |some i=>Region.linearise.go .any ops fuel (t/(Region.ready .any ops listed).length) (listed.setIfInBounds i true) [i]
   |none=>[].reverse)::k)) (bA (F c).cM) w) _∧_)
  cases nD:(Region.ready .any ops listed)[t%(Region.ready .any ops listed).length]? with
  |none=>
   have Dh:Region.ready .any ops listed=[]:=by
    cases lI:Region.ready .any ops listed with
    |nil=>rfl
    |cons x xs=>
     rw[lI]at nD;have a4:t%(x::xs).length<(x::xs).length:=zae _ (by simp);simp at nD;simp at a4;omega
   exact .inl ⟨lq cd listed,c,ι,a,w,.refl _ _,D.adr eI Dh,b8,iy,iz,id⟩
  |some i=>
   simp only[];rw[linearise_go_acc,List.reverse_singleton,List.singleton_append];obtain⟨MN,o,ao,eQ⟩:=mem_ready.1 (zaA nD);have a4:=(zbk.1 ao).1;obtain⟨p,hp⟩:=D.asK i a4;have MC:p<L.length:=by rw[D.uf,<-D.ya];exact(zah.1 hp).1
   have hn:¬lq cd listed p:=by
    rintro⟨j,hj,hO⟩;rw[hp]at hj;cases hj;rw[ajw hO]at MN;cases MN
   have hr:nk ops cd (lq cd listed) p:=by
    intro ig br dX jK e he oi r tS;rw[hp]at dX;cases dX;rw[ao]at jK;cases jK;exact⟨_,tS,eQ e he oi⟩
   by_cases k7:p=n
   ·subst k7;exact .inr ⟨lq cd listed,c,ι,a,w,i,_,.refl _ _,MC,hp,tF,hr,hn,b8,iy,iz⟩
   have Al:Z p=false:=by
    cases amm:Z p with
    |false=>rfl
    |true=>exact absurd (D.before tF p hr (by rw[<-D.uf];exact MC) n (LY p amm).2) GW
   obtain⟨b6,fz,a',w',ai,kr,alG,alU⟩:=af0 (b:=b) (bA:=bA) (k:=k) (rest:=Region.linearise.go .any ops fuel (t/(Region.ready .any ops listed).length) (listed.setIfInBounds i true) []) eN b8 aV D h0 aJ tF MC Al (fun x c aa=>m0 p x c k7 Al aa) hp hr hn hb q9 iy iz;have g0:BW (lq cd listed) p=lq cd (listed.setIfInBounds i true):=by
    funext q;apply propext;constructor
    ·rintro(⟨j,hj,hO⟩|rfl)
     ·exact⟨j,hj,getD_set_true hO⟩
     ·exact⟨i,hp,by simp[eI,a4]⟩
    ·rintro⟨j,hj,hO⟩;by_cases e:j=i
     ·subst e;exact .inr (D.inj q p j hj hp)
     ·left;refine⟨j,hj,?_⟩;rw[getD_set_ne false (Ne.symm e)]at hO;exact hO
   rw[g0]at kr;have akw:∀p,lq cd (listed.setIfInBounds i true) p->nk ops cd (lq cd (listed.setIfInBounds i true)) p:=by
    rw[<-g0];rintro q (hq|rfl) ig br dX jK e he oi r tS
    ·exact .inl (tF q hq ig br dX jK e he oi r tS)
    ·exact .inl (hr ig br dX jK e he oi r tS)
   have akE:¬lq cd (listed.setIfInBounds i true) n:=by
    rw[<-g0];rintro(h|h)
    ·exact GW h
    ·exact k7 h.symm
   have akx:(List.range ops.size).countP (fun j=> !(listed.setIfInBounds i true).getD j true)<=fuel:=by
    refine Nat.le_of_lt_succ (fy (Rz (fun j _ hj=> ?_) ⟨i,zcY.2 a4,?_,?_⟩) C1)
    ·by_cases e:j=i
     ·subst e;simp[eI,a4]at hj
     ·rw[getD_set_ne true (Ne.symm e)]at hj;exact hj
    ·rw[MN];rfl
    ·simp[eI,a4]
   rcases a8 (t/(Region.ready .any ops listed).length) (listed.setIfInBounds i true) b6 fz a' w' (by simp[eI]) akx akw akE kr alG alU with⟨k1,K1,P7,Kr,jj,eZ,GO,aj8,alD,alP,akA⟩|⟨k1,K1,P7,Kr,jj,ig,aqk,eZ,alR⟩
   ·refine .inl ⟨k1,K1,P7,Kr,jj,ai.trans eZ,GO,aj8,alD,alP,fun h=> ?_⟩;have:=akA h;rw[<-g0]at this;rcases this with h|h
    ·exact h
    ·exact absurd h.symm k7
   ·exact .inr ⟨k1,K1,P7,Kr,jj,ig,aqk,ai.trans eZ,alR⟩
def afZ{ι:bC}{a:Act}{w:co}{id:Nat}(hm:X.P.follows .mixedOrders=true)(eN:nj X call)(D:lr X aQ ops L cd dU ms)(ae:cz ι fr a aQ)(hw:bx X ι st w)(hb:qI ι fr.b7 b.b7)(hr:kF b fr.bk ι bA):
 gk X b aQ bA (lone (b.at a (.code (.region id ops true)::k)) (bA fr.cM) w) k fr ι w (hX call (tp call ms (dk L)) L [st.h] (pq fr dU) st):=by
 cases jo:hX call (tp call ms (dk L)) L [st.h] (pq fr dU) st with
 |no=>trivial
 |out e aK st'=>
  obtain⟨Z,F,T,N,V,aV,xI⟩:=agC _ _ _ _ _ _ _ jo;obtain⟨s8,y8,Fc,aub,auc⟩:=Zw dU fr
  let gX:co:={w with drawn:=w.drawn+1}
  have pd:bx X ι st gX:=hw.Js X rfl;have kq:F 0=pq fr dU:=aV.f0;have GZ:∀id,st.al<=id->ι id=none:=fun id h=>(hw.fresh id h).1;have oj:fs ι (T 0).al=ι:=by rw[aV.t0];exact RF GZ
  have si:∀p,¬lq cd (Array.replicate ops.size false) p:=by
   rintro p ⟨i,_,hi⟩;by_cases h:i<ops.size<;>simp[h]at hi
  have b8:jY X aQ L F T V ι gX (lq cd (Array.replicate ops.size false)) 0 ι a gX:=by
   refine⟨fun p hp=>by omega,zaf _,.inl rfl,fun p x _ h=>absurd h (si p),by rw[oj,aV.t0];exact pd,fun id l hl=>.inl ?_,fun p _ h=>absurd h (si p),pd.gP,.refl _ _,ae.size,by rw[oj,kq,auc];exact ae.c7,fun p x fV t _ _ h=>absurd h (si p),fun t _=> ?_⟩
   ·rw[aV.t0];rcases zao id st.al with h|h
    ·exact h
    ·rw[GZ id h]at hl;cases hl
   ·rw[kq,s8];by_cases h:t∈dU
    ·rw[zab h];exact .top _
    ·rw[zaa h];exact ae.tmp t
  have nH:=asp (P:=X.P) (b:=b) (a:=a) (k:=k) (cs:=bA fr.cM) (w:=w) (ops:=ops) (id:=id);have alW:Region.schedule (X.P.follows .mixedOrders) ops (w.tape w.drawn (.order b.fn id))=Region.linearise.go .any ops ops.size (w.tape w.drawn (.order b.fn id)) (Array.replicate ops.size false) []:=by
   simp only[Region.schedule,hm,Bool.true_or,if_true];rfl
  rw[alW]at nH;have xZ:bA (F 0).cM=bA fr.cM:=by rw[kq,aub]
  have tN:=fun n m0 LY=>afX (b:=b) (bA:=bA) (k:=k) eN aV D GZ (fun t h=>by rw[kq,s8,zab h]) (by rw[kq,Fc];exact hb) (by rw[kq,y8];exact hr) n m0 LY ops.size (w.tape w.drawn (.order b.fn id)) (Array.replicate ops.size false) 0 ι a gX (by simp) (by
   refine zaj List.countP_le_length ?_;simp) (fun p h=>absurd h (si p)) (si n) b8 rfl rfl
  rw[xZ]at tN;rcases xI with⟨rfl,Ht,m0,fG,al7⟩|⟨n,x,u,aa,amo,m0,fw,z3,rfl,rfl,Af⟩
  case inr=>
   have WO:=(zah.1 aa).1;rcases tN n m0 (fun p hp=>⟨WO,(amo p hp).2⟩)with⟨k1,b6,fz,a',w',ai,eQ,kr,k6,m1,g6⟩|⟨k1,b6,fz,a',w',i,rest,ai,qa,hi,tF,lI,als,kr,k6,m1⟩
   ·exact absurd (g6 (eQ n WO)) (si n)
   ·obtain⟨aU,v',jj,kx,aI,vQ,jq,C3,aw,e2,bW⟩:=afY (b:=b) (bA:=bA) (k:=k) (rest:=rest) eN kr aV D GZ (fun t h=>by rw[kq,s8,zab h]) tF qa aa hi lI als k6 m1 fw z3 Af;rw[aw]at ai;exact⟨aU,a',jj,C3,vQ,fv.trans (w':=gX) (fv.Js ι rfl) jq,by rw[e2,kq,y8],by rw[bW,kq,Fc],v',_,aI,(Steps.head nH ai).trans kx⟩
  obtain⟨k1,b6,fz,a',w',ai,eQ,kr,k6,m1,_⟩:∃k1 b6 fz a' w',_:=by
   rcases tN L.length m0 (fun p hp=>by rw[Ht p]at hp;cases hp)with h|⟨_,_,_,_,_,_,_,_,qa,_⟩
   ·exact h
   ·exact absurd qa (Nat.lt_irrefl _)
  obtain⟨iV,hf,yW,wP,wQ⟩:=kr.upto aV D L.length kr.FO (b5 _) (fun r _ h=>eQ r h);have Ds:fs fz (T L.length).al=fz:=by
   refine RF fun id om=> ?_;cases hl:fz id with
   |none=>rfl
   |some l=>
    exfalso;rcases kr.lx id l hl with h|⟨p,J,U,af,ax,a0⟩
    ·have:=aV.lV D kr.FO (b5 _);omega
    ·obtain⟨o,l',ck,_⟩:=kr.gh p J af ax;have dx:(T (p+1)).al=(T p).al+1:=by rw[ck]
     have:=aV.lV D (p:=p+1) (q:=L.length) U (b5 _);omega
  rw[Ds,al7]at iV;rw[fG]at hf yW wP wQ;have eU:cz fz aK a' aQ:=by
   refine⟨fun t=> ?_,kr.size,by rw[hf];exact kr.c7.mono (RG _ _)⟩;rw[<-fG];by_cases W8:∃(q:Nat) (y:bK) (d:cE),L[q]? =some (y,d)∧y.d=some t
   ·obtain⟨q,y,d,aF,aq⟩:=W8;have hq:=(zah.1 aF).1;rw[aV.PA D aF aq L.length hq (b5 _)];exact(kr.EW q y d t aF aq (eQ q hq)).mono (RG _ _)
   ·have gb:∀(q:Nat) ez b6,L[q]? =some (ez,b6)->ez.d≠some t:=fun q ez b6 bS g6=>W8 ⟨q,ez,b6,bS,g6⟩;rw[aV.JT t L.length (b5 _) fun q ez b6 _ bS=>gb q ez b6 bS];exact(kr.Bz t fun q ez b6 bS g6=>absurd g6 (gb q ez b6 bS)).mono kr.keeps.le
  refine⟨fz,a',w',eU,iV,fv.trans (w':=gX) (fv.Js ι rfl) kr.keeps,?_,?_,?_⟩
  ·rw[wP,k6,kq,y8]
  ·rw[wQ,m1,kq,Fc]
  ·rw[<-yW]at ai;exact(Steps.head nH ai).trans (.one abI)
end
end Go.ak
namespace Go.ak
variable{X:Ctx}
abbrev u2:=Nat×(bK×cE)×Nat×Nat
def qA:Nat->ac (bK×cE)->ac Nat->ac Nat->ac u2
 |p,a::L,i::cd,m::ms=>(p,a,i,m)::qA (p+1) L cd ms
 |_,_,_,_=>[]
theorem aaZ:∀(L:ac (bK×cE)) (cd ms:ac Nat) (mx p:Nat) {a:bK×cE} {i m:Nat},L[p]? =some a->cd[p]? =some i->ms[p]? =some m->(mx+p,a,i,m)∈qA mx L cd ms
 |[],_,_,_,p,_,_,_,h,_,_=>by simp at h
 |_::_,[],_,_,p,_,_,_,_,h,_=>by simp at h
 |_::_,_::_,[],_,p,_,_,_,_,_,h=>by simp at h
 |a'::L,ig::cd,fi::ms,mx,p,a,i,m,J,U,af=>by
  cases p with
  |zero=>
   simp at J U af;subst J U af;exact zbB
  |succ p=>
   have:=aaZ L cd ms (mx+1) p (a:=a) (i:=i) (m:=m) (by simpa using J) (by simpa using U) (by simpa using af);rw[show mx+(p+1)=mx+1+p by omega];exact zaM _ this
theorem aaY:∀(L:ac (bK×cE)) (cd ms:ac Nat) (mx:Nat) {r:u2},r∈qA mx L cd ms->∃p:Nat,r.1=mx+p∧L[p]? =some r.2.1∧cd[p]? =some r.2.2.1∧ms[p]? =some r.2.2.2
 |[],_,_,_,_,h=>by simp[qA]at h
 |_::_,[],_,_,_,h=>by simp[qA]at h
 |_::_,_::_,[],_,_,h=>by simp[qA]at h
 |a'::L,ig::cd,fi::ms,mx,r,h=>by
  simp only[qA]at h;rcases zar.1 h with rfl|h
  ·exact⟨0,rfl,rfl,rfl,rfl⟩
  ·obtain⟨p,J,U,af,ax⟩:=aaY L cd ms (mx+1) h;exact⟨p+1,by omega,U,af,ax⟩
def yi(rows:ac u2)(p:Nat):ac Edge->am Nat
 |[]=>some 0
 |e::es=>if Region.binds .any e then
  match rows.find? (fun r=>Nat.beq r.2.2.1 e.on),yi rows p es with
  |some r,some m=>if Nat.ble (Nat.succ r.1) p then some (m|||((1<<<r.1)|||r.2.2.2))else none
  |_,_=>none
  else yi rows p es
theorem HU{rows:ac u2}{p:Nat}:∀(es:ac Edge) (m:Nat),yi rows p es=some m->
 (∀e∈es,Region.binds .any e=true->∃r∈rows,r.2.2.1=e.on∧r.1<p)∧
 (∀q,m.testBit q=true->∃e∈es,Region.binds .any e=true∧∃r∈rows,r.2.2.1=e.on∧r.1<p∧(q=r.1∨r.2.2.2.testBit q=true))
 |[],m,h=>by
  simp only[yi,Option.some.injEq]at h;subst h;exact⟨fun e he=>by simp at he,fun q hq=>by simp at hq⟩
 |e::es,m,h=>by
  simp only[yi]at h;by_cases hb:Region.binds .any e=true
  ·rw[zab hb]at h;split at h
   ·rename_i r fi hr lH;split at h
    ·rename_i a4;cases h;obtain⟨i1,i2⟩:=HU es fi lH;have ML:=zdz hr;have xV:r.2.2.1=e.on:=by
      have:=zdA hr;exact eL this
     have Dp:r.1<p:=pN.1 a4;refine⟨fun cy mh cY=> ?_,fun q hq=> ?_⟩
     ·rcases zar.1 mh with rfl|mh
      ·exact⟨r,ML,xV,Dp⟩
      ·exact i1 cy mh cY
     ·rw[Nat.testBit_or,Nat.testBit_or,zdD,zdD]at hq;rcases hq with hq|hq|hq
      ·obtain⟨cy,mh,J,U⟩:=i2 q hq;exact⟨cy,zaM _ mh,J,U⟩
      ·rw[Nat.one_shiftLeft,Nat.testBit_two_pow]at hq;exact⟨e,zbB,hb,r,ML,xV,Dp,.inl (zbT hq).symm⟩
      ·exact⟨e,zbB,hb,r,ML,xV,Dp,.inr hq⟩
    ·cases h
   ·cases h
  ·rw[zaa hb]at h;obtain⟨i1,i2⟩:=HU es m h;refine⟨fun cy mh cY=> ?_,fun q hq=> ?_⟩
   ·rcases zar.1 mh with rfl|mh
    ·exact absurd cY hb
    ·exact i1 cy mh cY
   ·obtain⟨cy,mh,J,U⟩:=i2 q hq;exact⟨cy,zaM _ mh,J,U⟩
def RY(d:am Tmp)(t:Tmp):Bool:=match d with|some u=>Nat.beq u t|none=>false
def tE(ts:ac Tmp)(t:Tmp):Bool:=ts.any (Nat.beq t)
def GQ{ts:ac Tmp}{t:Tmp}:tE ts t=true↔t∈ts:=by
 unfold tE;rw[zek];constructor
 ·rintro⟨u,hu,h⟩;rw[eG h];exact hu
 ·intro h;exact⟨t,h,zaP t⟩
def EF(X:Ctx)(aQ:Nat)(ops:ap Oper)(L:ac (bK×cE))(rows:ac u2)(r:u2):Bool:=
 (match ops[r.2.2.1]? with
  |some o=>m5 X aQ ops r.2.1.1 o&&(match yi rows r.1 o.after.toList with|some m=>Nat.beq m r.2.2.2|none=>false)
  |none=>false)&&
 (match r.2.1.2 with
  |.eH=>Nat.beq r.2.2.2 (2^r.1-1)
  |.hI _=>r.2.1.1.o.ua
  |.read n _=>r.2.1.1.o.ss&&Nat.ble ((List.range r.1).countP (fun q=>tz L q&& !r.2.2.2.testBit q)) n)
def A2(dU:ac Tmp)(r s:u2):Bool:=
 (!Nat.beq r.2.2.1 s.2.2.1||Nat.beq r.1 s.1)&&
 (match s.2.1.1.d with
  |none=>true
  |some t=>
   (!RY r.2.1.1.d t||Nat.beq r.1 s.1)&&
   (!Nat.ble (Nat.succ r.1) s.1||tE dU t|| !(r.2.1.2.x8||tE r.2.1.2.looks t)||s.2.2.2.testBit r.1)&&
   (!Nat.ble (Nat.succ s.1) r.1|| !tE r.2.1.2.looks t||r.2.2.2.testBit s.1))
def F7(X:Ctx)(aQ:Nat)(ops:ap Oper)(L:ac (bK×cE))(cd:ac Nat)(dU:ac Tmp)(ms:ac Nat):Bool:=
 (fun rows=>Nat.beq L.length ops.size&&Nat.beq cd.length ops.size&&Nat.beq ms.length ops.size&&(List.range ops.size).all (fun i=>tE cd i)&&rows.all (EF X aQ ops L rows)&&rows.all (fun r=>rows.all (A2 dU r))) (qA 0 L cd ms)
def afW{aQ:Nat}{ops:ap Oper}{L:ac (bK×cE)}{cd:ac Nat}{dU:ac Tmp}{ms:ac Nat}(h:F7 X aQ ops L cd dU ms=true):lr X aQ ops L cd dU ms:=by
 unfold F7 at h;simp only[b3]at h;obtain⟨⟨⟨⟨⟨J,U⟩,af⟩,ax⟩,a0⟩,ck⟩:=h;have aw:=eG J;have e2:=eG U;have bW:=eG af;rw[zbn]at ax a0 ck;have jL:∀(p:Nat) a i,L[p]? =some a->cd[p]? =some i->(p,a,i,ms.getD p 0)∈qA 0 L cd ms:=by
  intro p a i aY hi;have hp:=(zah.1 aY).1;have hm:ms[p]? =some (ms.getD p 0):=by
   have:p<ms.length:=by omega
   simp[this]
  have:=aaZ L cd ms 0 p aY hi hm
  rwa [zav]at this
 have ku:∀p:Nat,p<L.length->∃i,cd[p]? =some i:=fun p hp=>⟨_,bV (by omega)⟩;have jF:∀p i:Nat,cd[p]? =some i->∃a,L[p]? =some a:=fun p i hi=>⟨_,bV (by have:=(zah.1 hi).1;omega)⟩;have bE:∀(p:Nat) a i,L[p]? =some a->cd[p]? =some i->EF X aQ ops L (qA 0 L cd ms) (p,a,i,ms.getD p 0)=true:=fun p a i aY hi=>a0 _ (jL p a i aY hi);have Hf:∀(p:Nat) a i (q:Nat) b j,L[p]? =some a->cd[p]? =some i->L[q]? =some b->cd[q]? =some j->A2 dU (p,a,i,ms.getD p 0) (q,b,j,ms.getD q 0)=true:=by
  intro p a i q b j aY hi hb hj;have:=ck _ (jL p a i aY hi);rw[zbn]at this;exact this _ (jL q b j hb hj)
 have WM:∀(p i:Nat) a o,L[p]? =some a->cd[p]? =some i->ops[i]? =some o->m5 X aQ ops a.1 o=true∧∃m,yi (qA 0 L cd ms) p o.after.toList=some m∧m=ms.getD p 0:=by
  intro p i a o aY hi ao;have:=bE p a i aY hi;unfold EF at this;simp only[ao,b3]at this;refine⟨this.1.1,?_⟩;have dx:=this.1.2;split at dx
  ·rename_i m hm;exact⟨m,hm,eG dx⟩
  ·cases dx
 have xE:∀{r:u2} {p:Nat},r∈qA 0 L cd ms->∃q:Nat,r.1=q∧cd[q]? =some r.2.2.1∧ms.getD q 0=r.2.2.2:=by
  intro r p hr;obtain⟨q,aM,aN,bf,cb⟩:=aaY L cd ms 0 hr;exact⟨q,by omega,bf,by simp[List.getD,cb]⟩
 have GU:∀(p i:Nat) a,L[p]? =some a->cd[p]? =some i->(match a.2 with|.eH=>Nat.beq (ms.getD p 0) (2^p-1)|.hI _=>a.1.o.ua|.read n _=>a.1.o.ss&&Nat.ble ((List.range p).countP (fun q=>tz L q&& !(ms.getD p 0).testBit q)) n)=true:=by
  intro p i a aY hi;have:=bE p a i aY hi;unfold EF at this;rw[b3]at this;exact this.2
 refine⟨aw,e2,fun p i x c hi aa=> ?_,fun p x ts aa=> ?_,fun p x n ts aa=> ?_,fun p q i hp hq=> ?_,fun i hi=> ?_,fun p i o hi ao e he hb=> ?_,fun p i o q hi ao hq=> ?_,fun p x q aa hq=> ?_,fun p x n ts aa=> ?_,fun p q x y c d t aa aF Dx iA=> ?_,fun p q x y c d t aa aF MF iA Hn hl=> ?_,fun p q x y c d t aa aF xU iA hl=> ?_⟩
 ·have:=bE p (x,c) i aa hi;unfold EF at this;rw[b3]at this;have dx:=this.1;split at dx
  ·rename_i o ao;rw[b3]at dx;exact⟨o,ao,dx.1⟩
  ·cases dx
 ·obtain⟨i,hi⟩:=ku p (zah.1 aa).1;exact GU p i _ aa hi
 ·obtain⟨i,hi⟩:=ku p (zah.1 aa).1;have:=GU p i _ aa hi;simp only[b3]at this;exact this.1
 ·obtain⟨a,aY⟩:=jF p i hp;obtain⟨b,hb⟩:=jF q i hq;have:=Hf p a i q b i aY hp hb hq;unfold A2 at this;simp only[b3,zdD]at this;rcases this.1 with h|h
  ·simp at h
  ·exact eG h
 ·have:=ax i (zcY.2 hi);have hm:=GQ.1 this;obtain⟨p,hp,he⟩:=List.mem_iff_getElem.1 hm;exact⟨p,by rw[bV hp,he]⟩
 ·obtain⟨a,aY⟩:=jF p i hi;obtain⟨_,m,hm,_⟩:=WM p i a o aY hi ao;obtain⟨r,hr,dx,gF⟩:=(HU _ _ hm).1 e (by simpa using he) hb;obtain⟨q,aM,aN,_⟩:=xE (p:=0) hr;exact⟨q,by omega,by rw[aN,dx]⟩
 ·obtain⟨a,aY⟩:=jF p i hi;obtain⟨_,m,hm,rfl⟩:=WM p i a o aY hi ao;obtain⟨e,he,hb,r,hr,dx,gF,hZ⟩:=(HU _ _ hm).2 q hq;obtain⟨fJ,aM,aN,bf⟩:=xE (p:=0) hr;exact⟨e,by simpa using he,hb,fJ,by omega,by rw[aN,dx],by rw[bf,<-aM];exact hZ⟩
 ·obtain⟨i,hi⟩:=ku p (zah.1 aa).1;have:=eG (GU p i _ aa hi);rw[this,Nat.testBit_two_pow_sub_one];simpa using hq
 ·obtain⟨i,hi⟩:=ku p (zah.1 aa).1;have:=GU p i _ aa hi;simp only[b3]at this;exact pN.1 this.2
 ·obtain⟨i,hi⟩:=ku p (zah.1 aa).1;obtain⟨j,hj⟩:=ku q (zah.1 aF).1;have:=Hf p _ i q _ j aa hi aF hj;unfold A2 at this;simp only[iA,b3]at this;have dx:=this.2.1.1;simp[RY,Dx]at dx;exact dx
 ·obtain⟨i,hi⟩:=ku p (zah.1 aa).1;obtain⟨j,hj⟩:=ku q (zah.1 aF).1;have:=Hf p _ i q _ j aa hi aF hj;unfold A2 at this;simp only[iA,b3]at this;have dx:=this.2.1.2;have aM:Nat.ble (Nat.succ p) q=true:=pN.2 MF;have aN:tE dU t=false:=by rw[zbR];intro h;exact Hn (GQ.1 h)
  have bf:(c.x8||tE c.looks t)=true:=by
   rcases hl with rfl|hl
   ·rfl
   ·rw[zdD];exact .inr (GQ.2 hl)
  rw[aM,aN,bf]at dx;simpa using dx
 ·obtain⟨i,hi⟩:=ku p (zah.1 aa).1;obtain⟨j,hj⟩:=ku q (zah.1 aF).1;have:=Hf p _ i q _ j aa hi aF hj;unfold A2 at this;simp only[iA,b3]at this;have dx:=this.2.2;have aM:Nat.ble (Nat.succ q) p=true:=pN.2 xU;have aN:tE c.looks t=true:=GQ.2 hl;rw[aM,aN]at dx;simpa using dx
end Go.ak
namespace Go.ak
variable{X:Ctx}{call:bO}
def yO(X:Ctx)(aQ:Nat)(ops:ap Oper):ac bK->ac Oper->Bool
 |[],[]=>true
 |x::xs,o::os=>m5 X aQ ops x o&&yO X aQ ops xs os
 |_,_=>false
theorem aaJ{aQ:Nat}{ops:ap Oper}:∀{xs:ac bK} {os:ac Oper},yO X aQ ops xs os=true->xs.length=os.length∧∀(j:Nat) x o,xs[j]? =some x->os[j]? =some o->m5 X aQ ops x o=true
 |[],[],_=>⟨rfl,fun j x o h=>by simp at h⟩
 |x::xs,o::os,h=>by
  simp only[yO,b3]at h;obtain⟨J,U⟩:=aaJ h.2;refine⟨by simp[J],fun j ez br aa ao=> ?_⟩;cases j with
  |zero=>simp at aa ao;subst aa ao;exact h.1
  |succ j=>exact U j ez br (by simpa using aa) (by simpa using ao)
 |[],_::_,h=>by simp[yO]at h
 |_::_,[],h=>by simp[yO]at h
def yo:ac Nat->ac Nat->Bool
 |[],[]=>true
 |a::as,b::bU=>Nat.beq a b&&yo as bU
 |_,_=>false
theorem Yq:∀{as bU:ac Nat},yo as bU=true->as=bU
 |[],[],_=>rfl
 |a::as,b::bU,h=>by
  simp only[yo,b3]at h;rw[eG h.1,Yq h.2]
 |[],_::_,h=>by simp[yo]at h
 |_::_,[],h=>by simp[yo]at h
def codeOk(X:Ctx)(aQ:Nat):dq->Code->Bool
 |.skip,.skip=>true
 |.skip,.label _=>true
 |.yN xs,.region _ ops false=>yO X aQ ops xs ops.toList
 |.tx L cd dU ms,.region _ ops true=>F7 X aQ ops L cd dU ms
 |.seq a b,.seq c d=>codeOk X aQ a c&&codeOk X aQ b d
 |.cond x a b,.cond y c d=>b1 X.aD x y&&codeOk X aQ a c&&codeOk X aQ b d
 |.block i a,.block j c=>Nat.beq i j&&codeOk X aQ a c
 |.loop a,.loop c=>codeOk X aQ a c
 |.Jn f ps dn body,.rangeFunc g dh pL pO=>b1 X.aD f g&&yo ps dh.toList&&ps.all (fun t=>Nat.ble (Nat.succ t) aQ)&&codeOk X aQ dn pL&&codeOk X aQ body pO
 |.exit i,.exit j=>Nat.beq i j
 |.scope a,.scope c=>codeOk X aQ a c
 |.ret,.ret=>true
 |.refuse,_=>true
 |_,_=>false
def Good(X:Ctx):Prop:=X.P.follows .mixedOrders=true∧∀fn c s7,X.ok fn c s7↔∃F,X.P.funcs[fn]? =some F∧codeOk X F.ntmps s7 c=true
section
variable{b:dL}{aQ:Nat}{bA:Bool->ac Frame}
def Fp(X:Ctx)(call:bO)(b:dL)(aQ:Nat)(bA:Bool->ac Frame):Prop:=
 ∀(f:bi) (ps:ap Tmp) (dn body:dq) (pL pO:Code) (ι:bC) (fr:aR) (a:Act) (st:ay) (w:co) (k:ac Item),cC X.aD f=true->(∀t∈ps.toList,t<aQ)->(∃F,X.P.funcs[b.fn]? =some F∧F.ntmps=aQ)->X.ok b.fn pL dn->X.ok b.fn pO body->
  cz ι fr a aQ->bx X ι st w->qI ι fr.b7 b.b7->kF b fr.bk ι bA->
  gk X b aQ bA (lone (b.at a (.code (.rangeFunc f ps pL pO)::k)) (bA fr.cM) w) k fr ι w (CE call b.fn f ps.toList dn body fr st)
theorem gk.pC{s:Machine}{k k':ac Item}{fr:aR}{ι:bC}{w:co}{r:cZ}{g:aR->ay->cZ}(hex:∀id,exitTo id k=exitTo id k')(h:gk X b aQ bA s k fr ι w r)
 (aO:∀aU a' w' aK st',cz aU aK a' aQ->bx X aU st' w'->fv ι aU w w'->aK.bk=fr.bk->aK.b7=fr.b7->gk X b aQ bA (lone (b.at a' k) (bA aK.cM) w') k' aK aU w' (g aK st')):gk X b aQ bA s k' fr ι w (pC r g):=by
 cases r with
 |no=>trivial
 |out e aK st'=>
  obtain⟨aU,a',w',J,U,af,ax,a0,ck⟩:=h;cases e with
  |norm=>exact gk.head ck af ax a0 (aO aU a' w' aK st' J U af ax a0)
  |exit id=>
   obtain⟨iD,dx,gF⟩:=ck;exact⟨aU,a',w',J,U,af,ax,a0,iD,dx.trans (hex id),gF⟩
  |ret=>exact⟨aU,a',w',J,U,af,ax,a0,ck⟩
  |bk v=>exact⟨aU,a',w',J,U,af,ax,a0,ck⟩
def gk.cG{s:Machine}{k:ac Item}{fr:aR}{ι:bC}{w:co}{r:cZ}{i:Nat}(J:gk X b aQ bA s (.inBlock i::k) fr ι w r):gk X b aQ bA s k fr ι w (FH i r):=by
 cases r with
 |no=>trivial
 |out e aK st'=>
  obtain⟨aU,a',w',U,af,ax,a0,ck,dx⟩:=J;cases e with
  |norm=>exact⟨aU,a',w',U,af,ax,a0,ck,Steps.trans dx (.one ase)⟩
  |exit id=>
   obtain⟨iD,gF,hZ⟩:=dx;show gk X b aQ bA _ k fr ι w (dV id i (.out .norm aK st') (.out (.exit id) aK st'));rw[o1];by_cases e:id=i
   ·subst e;rw[zab rfl];have tB:exitTo id iD=some k:=by rw[gF];simp[exitTo]
    exact⟨aU,a',w',U,af,ax,a0,ck,Steps.trans hZ (.one (asd tB))⟩
   ·rw[zaa e];refine⟨aU,a',w',U,af,ax,a0,ck,iD,?_,hZ⟩;rw[gF];have:¬i=id:=fun h=>e h.symm;simp[exitTo,this]
  |ret=>exact⟨aU,a',w',U,af,ax,a0,ck,dx⟩
  |bk v=>exact⟨aU,a',w',U,af,ax,a0,ck,dx⟩
def abY(r:cZ):pC r (fun fr st=>.out .norm fr st)=r:=by
 cases r with
 |no=>rfl
 |out e fr st=>cases e<;>rfl
def La(dE:Good X)(eN:nj X call)(Ai:Fp X call b aQ bA)(fG:∃F,X.P.funcs[b.fn]? =some F∧F.ntmps=aQ)(cB:Nat):∀(s7:dq) (c:Code) (ι:bC) (fr:aR) (a:Act) (st:ay) (w:co) (k:ac Item),codeOk X aQ s7 c=true->
 cz ι fr a aQ->bx X ι st w->qI ι fr.b7 b.b7->kF b fr.bk ι bA->
 gk X b aQ bA (lone (b.at a (.code c::k)) (bA fr.cM) w) k fr ι w (dD call cB b.fn s7 fr st):=by
 obtain⟨Fn,az,og⟩:=fG;intro s7
 induction s7 with
 |skip=>
  intro c ι fr a st w k hc ae hw hb hr;cases c with
  |skip=>exact⟨ι,a,w,ae,hw,.refl _ _,rfl,rfl,.one asy⟩
  |label l=>exact⟨ι,a,w,ae,hw,.refl _ _,rfl,rfl,.one ash⟩
  |_=>cases hc
 |yN xs=>
  intro c ι fr a st w k hc ae hw hb hr;cases c with
  |region id ops draw=>
   cases draw with
   |true=>cases hc
   |false=>
    obtain⟨J,U⟩:=aaJ (hc:yO X aQ ops xs ops.toList=true);have:=N9 (b:=b) (bA:=bA) (k:=k) (ops:=ops) (aQ:=aQ) eN xs (List.range ops.size) ι fr a st w (by simpa using J) (fun j x i aa hi=>by
     have sf:i=j:=by
      obtain⟨hj,he⟩:=zah.1 hi;simpa using he.symm
     subst sf;have a4:i<ops.size:=by simpa using(zah.1 hi).1
     exact⟨ops[i],zco a4,U i x _ aa (by simp[a4])⟩) ae hw hb hr
    exact gk.head (.one aso) (.refl _ _) rfl rfl this
  |_=>cases hc
 |tx L cd dU ms=>
  intro c ι fr a st w k hc ae hw hb hr;cases c with
  |region id ops draw=>
   cases draw with
   |false=>cases hc
   |true=>exact afZ dE.1 eN (afW (hc:F7 X aQ ops L cd dU ms=true)) ae hw hb hr
  |_=>cases hc
 |seq x y amy MX=>
  intro c ι fr a st w k hc ae hw hb hr;cases c with
  |seq c d=>
   have hc:(codeOk X aQ x c&&codeOk X aQ y d)=true:=hc;rw[b3]at hc;have J:=amy c ι fr a st w (.code d::k) hc.1 ae hw hb hr;refine gk.head (.one asx) (.refl _ _) rfl rfl (gk.pC (k:=.code d::k) (k':=k) (fun id=>rfl) J fun aU a' w' aK st' eU eg ab hp hn=> ?_);exact MX d aU aK a' st' w' k hc.2 eU eg (by rw[hn];exact hb.mono ab.le) (by rw[hp];exact hr.mono ab.le)
  |_=>cases hc
 |cond x y z MX amz=>
  intro c ι fr a st w k hc ae hw hb hr;cases c with
  |cond o c d=>
   have hc:(b1 X.aD x o&&codeOk X aQ y c&&codeOk X aQ z d)=true:=hc;simp only[b3]at hc;obtain⟨rfl,ao⟩:=cR hc.1.1;show gk X b aQ bA _ k fr ι w (nd (fr.aj x) (fun t=>_root_.cond t (dD call cB b.fn y fr st) (dD call cB b.fn z fr st)) .no);have aI:=ae.aj hw ao;generalize ks:a.eval x=th at aI;generalize fr.aj x=v at aI;cases v with
   |bool t=>
    cases aI;cases t with
    |true=>exact gk.head (.one (abH ks)) (.refl _ _) rfl rfl (MX c ι fr a st w k hc.1.2 ae hw hb hr)
    |false=>exact gk.head (.one (abH ks)) (.refl _ _) rfl rfl (amz d ι fr a st w k hc.2 ae hw hb hr)
   |_=>trivial
  |_=>cases hc
 |block i x a8=>
  intro c ι fr a st w k hc ae hw hb hr;cases c with
  |block j c=>
   have hc:(Nat.beq i j&&codeOk X aQ x c)=true:=hc;rw[b3]at hc;have e:=eG hc.1;subst e;have J:=a8 c ι fr a st w (.inBlock i::k) hc.2 ae hw hb hr;refine gk.head (.one asa) (.refl _ _) rfl rfl ?_;exact J.cG
  |_=>cases hc
 |loop x a8=>
  intro c ι fr a st w k hc ae hw hb hr;cases c with
  |loop c=>
   have hc:codeOk X aQ x c=true:=hc;have key:∀(n:Nat) (ι:bC) (fr:aR) (a:Act) (st:ay) (w:co),cz ι fr a aQ->bx X ι st w->qI ι fr.b7 b.b7->kF b fr.bk ι bA->
    gk X b aQ bA (lone (b.at a (.code c:: .inLoop c::k)) (bA fr.cM) w) k fr ι w (Nat.rec (motive:=fun _=>aR->ay->cZ) (fun _ _=>.no) (fun _ MW fr st=>Go.ak.pC (dD call cB b.fn x fr st) MW) n fr st):=by
    intro n
    induction n with
    |zero=>intros;trivial
    |succ n amx=>
     intro ι fr a st w ae hw hb hr;refine gk.pC (k:=.inLoop c::k) (fun id=>rfl) (a8 c ι fr a st w (.inLoop c::k) hc ae hw hb hr) fun aU a' w' aK st' eU eg ab hp hn=> ?_;exact gk.head (.one asf) (.refl _ _) rfl rfl (amx aU aK a' st' w' eU eg (by rw[hn];exact hb.mono ab.le) (by rw[hp];exact hr.mono ab.le))
   exact gk.head (.one asi) (.refl _ _) rfl rfl (key cB ι fr a st w ae hw hb hr)
  |_=>cases hc
 |Jn f ps dn body _ _=>
  intro c ι fr a st w k hc ae hw hb hr;cases c with
  |rangeFunc g dh pL pO=>
   have hc:(b1 X.aD f g&&yo ps dh.toList&&ps.all (fun t=>Nat.ble (Nat.succ t) aQ)&&codeOk X aQ dn pL&&codeOk X aQ body pO)=true:=hc;simp only[b3]at hc;obtain⟨⟨⟨⟨J,U⟩,a0⟩,af⟩,ax⟩:=hc;rw[zbn]at a0;obtain⟨rfl,ao⟩:=cR J;have e:=Yq U;subst e;exact Ai f dh dn body pL pO ι fr a st w k ao (fun t aV=>pN.1 (a0 t aV)) ⟨Fn,az,og⟩ ((dE.2 _ _ _).2 ⟨Fn,az,by rw[og];exact af⟩) ((dE.2 _ _ _).2 ⟨Fn,az,by rw[og];exact ax⟩) ae hw hb hr
  |_=>cases hc
 |exit i=>
  intro c ι fr a st w k hc ae hw hb hr;cases c with
  |exit j=>
   have e:=eG (hc:Nat.beq i j=true);subst e;exact⟨ι,a,w,ae,hw,.refl _ _,rfl,rfl,k,rfl,.refl _ _⟩
  |_=>cases hc
 |scope x a8=>
  intro c ι fr a st w k hc ae hw hb hr;cases c with
  |scope c=>
   have J:=a8 c ι fr a st w (.inScope c::k) hc ae hw hb hr;refine gk.head (.one asw) (.refl _ _) rfl rfl ?_;show gk X b aQ bA _ k fr ι w (dD call cB b.fn x fr st);rw[<-abY (dD call cB b.fn x fr st)];exact gk.pC (k:=.inScope c::k) (fun id=>rfl) J fun aU a' w' aK st' eU eg _ _ _=>⟨aU,a',w',eU,eg,.refl _ _,rfl,rfl,.one asg⟩
  |_=>cases hc
 |ret=>
  intro c ι fr a st w k hc ae hw hb hr;cases c with
  |ret=>exact⟨ι,a,w,ae,hw,.refl _ _,rfl,rfl,k,.refl _ _⟩
  |_=>cases hc
 |refuse=>intros;trivial
end
def aaM(X:Ctx):iI->ResultVar->Bool
 |.tmp t,.tmp u=>Nat.beq t u
 |.cell a g n,.cell b t=>Nat.beq a b&&(match pJ X.P t,gq X.P t with
  |some gr,some s=>(g==gr)&&(!g||Nat.beq n s)&&(g||Nat.beq n 1)
  |_,_=>false)
 |_,_=>false
def uI(X:Ctx):ac iI->ac ResultVar->Bool
 |[],[]=>true
 |x::xs,r::rs=>aaM X x r&&uI X xs rs
 |_,_=>false
def Bk(tmps:ap be):ResultVar->Sem be
 |.tmp t=>pure (tmps.getD t undef)
 |.cell a t=>do loadVar t (<-asAddr (tmps.getD a undef))
section
variable{ι:bC}{fr:aR}{a:Act}{aQ:Nat}{st:ay}{w:co}
variable{out:ac be}
def XQ{α:Type}{a:Addr}{n:Nat}{k:ac be->α}{z r:α}(h:st.load a n k z=r)(aJ:z≠r):∃vs,k vs=r∧∀{Fg:Type} (k':ac be->Fg) (P1:Fg),st.load a n k' P1=k' vs:=by
 obtain⟨J,cs,el,bd,a3,U,af,ax⟩:=As h aJ;refine⟨_,ax,fun k' P1=> ?_⟩;unfold ay.load ay.gE;rw[J,U];show iw cs a.off n k' P1=_;unfold iw;rw[zI,EU,zab af];rfl
def anF{t:ce}{x:bi}{ad:Addr}{v:be}(aa:a.eval x= .pointer (some ad))(h:(execOp a.eval {(default:Oper)with op:=.load t x}).run X.P w= .ok (.value v) w):(loadVar t ad).run X.P w= .ok v w:=by
 unfold execOp at h;simp only[aa,Instr.loadAt,Instr.sureAddr,Sem.run_bind,Sem.run_pure,Result.andThen]at h;generalize(loadVar t ad).run X.P w=r at h;cases r with
 |ok y w'=>simp only[Result.ok.injEq,Next.value.injEq]at h;obtain⟨rfl,rfl⟩:=h;rfl
 |halt e w'=>cases h
def aqj{x:iI}{r:ResultVar}(bE:aaM X x r=true)(ae:cz ι fr a aQ)(hw:bx X ι st w){vs:ac be}
 (h:iI.rec (motive:=fun _=>am (ac be)) (fun t=>some (fr.tmp t::vs))
  (fun a agg n=>il (fr.tmp a) (fun p=>bm p (fun ad=>st.load ad n (fun cs=>cond agg (some (.agg ⟨cs⟩::vs)) (one cs (fun v=>some (v::vs)) none)) none) none) none) x=some out):
 ∃v v',out=v::vs∧bs ι v v'∧(Bk a.tmps r).run X.P w= .ok v' w:=by
 cases x with
 |tmp t=>
  cases r with
  |tmp u=>
   have e:=eG (bE:Nat.beq t u=true);subst e;have aB:some (fr.tmp t::vs)=some out:=h;cases aB;exact⟨_,_,rfl,ae.tmp t,rfl⟩
  |cell b t=>cases bE
 |cell b g n=>
  cases r with
  |tmp u=>cases bE
  |cell fU t=>
   have bE:(Nat.beq b fU&&(match pJ X.P t,gq X.P t with
    |some gr,some s=>(g==gr)&&(!g||Nat.beq n s)&&(g||Nat.beq n 1)
    |_,_=>false))=true:=bE
   rw[b3]at bE;have e:=eG bE.1;subst e;have U:=bE.2;split at U
   ·rename_i gr s aO ai;simp only[b3]at U;obtain⟨⟨af,ax⟩,a0⟩:=U;have G2:g=gr:=by simpa using af
    subst G2;obtain⟨d,aq,o8⟩:=B1 aO;obtain⟨i,hi,rfl⟩:=mK ai;have aB:il (fr.tmp b) (fun p=>bm p (fun ad=>st.load ad n (fun cs=>cond g (some (.agg ⟨cs⟩::vs)) (one cs (fun v=>some (v::vs)) none)) none) none) none=some out:=h;obtain⟨p,hp,ck⟩:=pE aB (by simp);obtain⟨ad,rfl,dx⟩:=fp ck (by simp);have jo:fr.aj (.tmp b)= .pointer (some ad):=hp;have Hi:=ae.tmp b;rw[hp]at Hi;have akk:a.eval (.tmp b)=a.tmps.getD b undef:=rfl;generalize ks:a.tmps.getD b undef=th at Hi;have fin:∀v v' l',a.tmps.getD b undef= .pointer (some l')->out=v::vs->bs ι v v'->(execOp a.eval {(default:Oper)with op:=.load t (.tmp b)}).run X.P w= .ok (.value v') w->∃v v',out=v::vs∧bs ι v v'∧(Bk a.tmps (.cell b t)).run X.P w= .ok v' w:=by
     intro v v' l' cn ao aI fQ;refine⟨v,v',ao,aI,?_⟩;have hh:(loadVar t l').run X.P w= .ok v' w:=anF (a:=a) (x:=.tmp b) (by rw[akk,cn]) fQ;simp only[Bk,cn,asAddr,Sem.run_bind,Sem.run_pure,Result.andThen];exact hh
    cases g with
    |true=>
     have hn:n=i.size:=by simpa using ax
     subst hn;obtain⟨cs,gF,hZ⟩:=XQ dx (by simp);have aj1:some (.agg ⟨cs⟩::vs)=some out:=gF;cases aj1;have dr:Io i.size (.tmp b) (fun _ _ _ _=>.no) fr st= .ok (.agg ⟨cs⟩) fr st:=by
      unfold Io;rw[jo];exact hZ (fun vs=>aX.ok (.agg ⟨vs⟩) fr st) .no
     obtain⟨_,_,_,v',fQ,aI⟩:=abr (o:={(default:Oper)with op:=.load t (.tmp b)}) rfl rfl aq o8 hi ae hw dr;cases Hi with
     |ptr _ l hl eZ=>exact fin _ v' _ ks rfl aI fQ
    |false=>
     have hn:n=1:=by simpa using a0
     subst hn;obtain⟨cs,gF,hZ⟩:=XQ dx (by simp);obtain⟨v,rfl,tB⟩:=AV (gF:one cs (fun v=>some (v::vs)) none=some out) (by simp);cases tB;have dr:Im (.tmp b) (fun _ _ _ _=>.no) fr st= .ok v fr st:=by
      unfold Im;rw[jo];exact hZ (fun vs=>one vs (fun v=>aX.ok v fr st) .no) .no
     obtain⟨_,_,_,v',fQ,aI⟩:=abq (o:={(default:Oper)with op:=.load t (.tmp b)}) rfl rfl aq o8 ae hw dr;cases Hi with
     |ptr _ l hl eZ=>exact fin _ v' _ ks rfl aI fQ
   ·cases U
theorem aaN(ae:cz ι fr a aQ)(hw:bx X ι st w):∀(xs:ac iI) (rs:ac ResultVar) (out:ac be),uI X xs rs=true->qX fr st xs=some out->
 ∃fS,bM ι out fS∧(rs.mapM (Bk a.tmps)).run X.P w= .ok fS w
 |[],[],out,_,h=>by
  have aB:some []=some out:=h;cases aB;exact⟨[],bM.nil ι,rfl⟩
 |x::xs,r::rs,out,bE,h=>by
  simp only[uI,b3]at bE;have aB:bm (qX fr st xs) (fun vs=>iI.rec (motive:=fun _=>am (ac be)) (fun t=>some (fr.tmp t::vs))
   (fun a agg n=>il (fr.tmp a) (fun p=>bm p (fun ad=>st.load ad n (fun cs=>cond agg (some (.agg ⟨cs⟩::vs)) (one cs (fun v=>some (v::vs)) none)) none) none) none) x) none=some out:=h
  obtain⟨vs,W5,J⟩:=fp aB (by simp);obtain⟨v,v',rfl,aI,fQ⟩:=aqj bE.1 ae hw J;obtain⟨fS,amc,Dq⟩:=aaN ae hw xs rs vs bE.2 W5;refine⟨v'::fS,bM.cons aI amc,?_⟩;rw[zdy];simp only[Sem.run_bind,fQ,Result.andThen,Dq,Sem.run_pure]
 |[],_::_,_,bE,_=>by simp[uI]at bE
 |_::_,[],_,bE,_=>by simp[uI]at bE
def aql{F:Func}{xs:ac iI}(bE:uI X xs F.results.toList=true)(ae:cz ι fr a aQ)(hw:bx X ι st w)(h:qX fr st xs=some out):
 ∃v',bs ι (one out (fun v=>v) (.tuple ⟨out⟩)) v'∧(results F a.tmps).run X.P w= .ok v' w:=by
 obtain⟨fS,aI,fQ⟩:=aaN ae hw xs F.results.toList out bE h;have hr:(results F a.tmps)=(do let vs<-F.results.mapM (Bk a.tmps);pure (if h:vs.size=1 then vs[0]else .tuple vs)):=by
  unfold results;congr 2
 rw[hr];have hm:(F.results.mapM (Bk a.tmps)).run X.P w= .ok fS.toArray w:=by
  rw[zeQ];rw[Sem.run_map,fQ];rfl
 simp only[Sem.run_bind,hm,Result.andThen,Sem.run_pure];refine⟨_,?_,rfl⟩;cases out with
 |nil=>rw[aI.wb];exact bs.po (bM.nil ι)
 |cons v vs=>
  obtain⟨y,av,rfl,J,U⟩:=aI.cons_inv;cases vs with
  |nil=>rw[U.wb];exact J
  |cons v2 atn=>
   obtain⟨acS,avs,rfl,af,ax⟩:=U.cons_inv;rw[dif_neg (by simp)];exact bs.po (xs:=⟨v::v2::atn⟩) (bM.cons J (bM.cons af ax))
end
def jz(X:Ctx)(ι:bC)(w:co)(b:dL)(bA:Bool->ac Frame)(s:Machine):dM->Prop
 |.ret v st' eE=>∃aU v' w' F,bs aU v v'∧bx X aU st' w'∧fv ι aU w w'∧F.kind=b.kind∧F.fn=b.fn∧Frame.going X.P F w' (.returned v')∧Steps X.P s (lone F (bA eE) w')
 |.bk v st' eE=>∃aU v' w' F,bs aU v v'∧bx X aU st' w'∧fv ι aU w w'∧F.kind=b.kind∧F.fn=b.fn∧Frame.going X.P F w' (.panicked [{v:=v',recovered:=false}])∧Steps X.P s (lone F (bA eE) w')
 |.no=>True
def jz.head{ι aU:bC}{w w':co}{b:dL}{bA:Bool->ac Frame}{s bz:Machine}{r:dM}(h:Steps X.P s bz)(ab:fv ι aU w w')(aB:jz X aU w' b bA bz r):jz X ι w b bA s r:=by
 cases r with
 |no=>trivial
 |ret v st eE=>obtain⟨ff,v',jj,F,J,U,af,ax,a0,ck,dx⟩:=aB;exact⟨ff,v',jj,F,J,U,ab.trans af,ax,a0,ck,h.trans dx⟩
 |bk v st eE=>obtain⟨ff,v',jj,F,J,U,af,ax,a0,ck,dx⟩:=aB;exact⟨ff,v',jj,F,J,U,ab.trans af,ax,a0,ck,h.trans dx⟩
def w1(X:Ctx)(call:bO):Prop:=
 ∀(ι:bC) (f:ci) (first fl:ap be) (args:ac be) (bk:am be) (st:ay) (vr oV:ap be) (jB:ac be) (w:co),
  bM ι first.toList vr.toList->bM ι args jB->bM ι fl.toList oV.toList->bx X ι st w->call (.func (.func f) first fl) args bk st≠.no->
  (∀as w,(callFunc f as).run X.P w= .ok (.enter f as) w)∧
  ∀(K:CallKind) (bA:Bool->ac Frame),kF ⟨f,K,none⟩ bk ι bA->jz X ι w ⟨f,K,none⟩ bA (lone (Frame.enter X.P f (vr++jB.toArray++oV) K) (bA false) w) (call (.func (.func f) first fl) args bk st)
variable{ι:bC}{m:am be}{md:FrameMode}
def pG(aU:bC):am be->FrameMode->Prop
 |none,m=>m= .returning
 |some v,m=>∃v',bs aU v v'∧m= .panicking [{v:=v',recovered:=false}]
def pG.mono{aU:bC}(hle:ι.le aU)(h:pG ι m md):pG aU m md:=by
 cases m with
 |none=>exact h
 |some v=>obtain⟨v',J,U⟩:=h;exact⟨v',J.mono hle,U⟩
def pG.YA(h:pG ι m md):md≠.run:=by
 cases m with
 |none=>rw[show md= .returning from h];simp
 |some v=>obtain⟨v',_,U⟩:=h;rw[U];simp
theorem BD(fG:w1 X call):∀(ds:ac Deferred) (m:am be) (st:ay) (r:am be×ay),jV call ds m st=some r->∀(ι:bC) (w:co) (F:Frame) (cs:ac Frame),tc ι ds F.defers->pG ι m F.mode->bx X ι st w->
 ∃aU w' md,Steps X.P (lone F cs w) (lone {F with defers:=[],mode:=md} cs w')∧pG aU r.1 md∧bx X aU r.2 w'∧fv ι aU w w'
 |[],m,st,r,h,ι,w,F,cs,aq,hm,hw=>by
  have aB:some (m,st)=some r:=h;cases aB;have az:F.defers=[]:=by
   cases nB:F.defers with
   |nil=>rfl
   |cons d ds=>rw[nB]at aq;exact aq.elim
  refine⟨ι,w,F.mode,?_,hm,hw,.refl _ _⟩;have:({F with defers:=[],mode:=F.mode}:Frame)=F:=by cases F;simp only at az;subst az;rfl
  rw[this];exact .refl _ _
 |⟨t,args⟩::ds,m,st,r,h,ι,w,F,cs,aq,hm,hw=>by
  cases nB:F.defers with
  |nil=>rw[nB]at aq;exact aq.elim
  |cons e es=>
   rw[nB]at aq;obtain⟨⟨akm,vP⟩,ga⟩:=aq;cases t with
   |collected aa2=>
    cases het:e.target with
    |collected pM=>
     rw[het]at vP;simp only[jV]at h;split at h
     ·rename_i j9;rw[jT]at h;obtain⟨l,hl,_,_,WN⟩:=hw.eD _ _ j9 (by simp);have aw:=vP.symm.trans hl;cases aw;rcases WN with⟨_,Md⟩|⟨hc,_⟩
      ·have a4:pM<w.heap.size:=hw.gP _ _ hl;have al6:(Instr.takeDeferred pM).run X.P w= .ok [] (w.putObj pM (.deferred none)):=run_takeDeferred Md;have nH:=step_collected (P:=X.P) (cs:=cs) hm.YA nB het al6;obtain⟨eg,fh⟩:=hw.uS X j9 (by simp) (fun ae=>ae) hl (.iJ none) (.deferred none) (w.putObj pM (.deferred none)) rfl (fun _ aV=>⟨rfl,rfl,.inr ⟨rfl,aV⟩⟩);obtain⟨aU,w',md,ai,aM,aN,bf⟩:=BD fG ds m _ r h ι _ {F with defers:=[]++es} cs (by simpa using ga) hm eg;exact⟨aU,w',md,.head nH ai,aM,aN,fh.trans bf⟩
      ·cases hc
     ·cases h
    |_=>rw[het]at vP;exact vP.elim
   |fn j6 fl=>
    cases het:e.target with
    |fn ajT oV=>
     rw[het]at vP;obtain⟨q4,L5⟩:=vP;cases j6 with
     |func g=>
      rcases q4 with⟨rfl,_⟩|⟨l,b,J,_⟩
      ·have cx:call (.func (.func g) #[] fl) args.toList m st≠.no:=by
        intro gb;simp only[jV,gb]at h;cases h
       obtain⟨L4,kP⟩:=fG ι g #[] fl args.toList m st #[] oV e.args.toList w (bM.nil ι) akm L5 hw cx;have hinv:(invoke e.target e.args).run X.P w= .ok (.enter g (e.args++oV)) w:=by
        rw[het];exact L4 _ _
       have nH:=step_defer (cs:=cs) hm.YA nB het hinv;have akn:(#[]++e.args.toList.toArray++oV:ap be)=e.args++oV:=by simp
       rw[akn]at kP;cases m with
       |none=>
        have De:F.mode= .returning:=hm;have vA:=kP .deferred (fun _=>{F with defers:=es}::cs) (fun G eE dE=>by
         show tryRecover G ({F with defers:=es}::cs)=none;have CU:G.kind= .deferred:=dE;rw[tryRecover_deferred CU];simp[recoverD,De])
        cases hc:call (.func (.func g) #[] fl) args.toList none st with
        |no=>exact absurd hc cx
        |ret v cl eE=>
         rw[hc]at vA;have aB:jV call ds none cl=some r:=by
          simp only[jV,hc]at h;exact h
         obtain⟨aU,v',w',G,_,eg,ab,G6,_,tN,ai⟩:=vA;have qe:=step_going_returned (P:=X.P) (c:={F with defers:=es}) (cs:=cs) G6 tN;have ra:settle ({F with defers:=es}:Frame).mode= .returning:=by
          show settle F.mode=_;rw[De];rfl
         rw[ra]at qe;obtain⟨kj,jj,md,eZ,aM,aN,bf⟩:=BD fG ds none cl r aB aU w' {{F with defers:=es}with mode:=.returning} cs (ga.mono ab.le) (show pG aU none .returning from rfl) eg;exact⟨kj,jj,md,(Steps.head nH ai).trans (.head qe eZ),aM,aN,ab.trans bf⟩
        |bk v cl eE=>
         rw[hc]at vA;have aB:jV call ds (some v) cl=some r:=by
          simp only[jV,hc]at h;exact h
         obtain⟨aU,v',w',G,aI,eg,ab,G6,_,tN,ai⟩:=vA;have qe:=step_going_panicked (P:=X.P) (c:={F with defers:=es}) (cs:=cs) tN;have ra:raised ({F with defers:=es}:Frame).mode [{v:=v',recovered:=false}]= .panicking [{v:=v',recovered:=false}]:=by
          show raised F.mode _=_;rw[De];rfl
         rw[ra]at qe;obtain⟨kj,jj,md,eZ,aM,aN,bf⟩:=BD fG ds (some v) cl r aB aU w' {{F with defers:=es}with mode:=.panicking [{v:=v',recovered:=false}]} cs (ga.mono ab.le) ⟨v',aI,rfl⟩ eg;exact⟨kj,jj,md,(Steps.head nH ai).trans (.head qe eZ),aM,aN,ab.trans bf⟩
       |some sK=>
        obtain⟨nS,Af,De⟩:=hm;have vA:=kP .deferred (fun eE=>{F with defers:=es,mode:=.panicking [{v:=nS,recovered:=eE}]}::cs) ⟨nS,Af,fun G dE=>by
         have CU:G.kind= .deferred:=dE;rw[tryRecover_deferred CU];simp[recoverD],fun G dE=>by
         have CU:G.kind= .deferred:=dE;rw[tryRecover_deferred CU];simp[recoverD]⟩
        have kq:({F with defers:=es,mode:=.panicking [{v:=nS,recovered:=false}]}:Frame)={F with defers:=es}:=by rw[<-De]
        rw[kq]at vA;cases hc:call (.func (.func g) #[] fl) args.toList (some sK) st with
        |no=>exact absurd hc cx
        |ret v cl eE=>
         rw[hc]at vA;obtain⟨aU,v',w',G,_,eg,ab,G6,_,tN,ai⟩:=vA;have qe:=step_going_returned (P:=X.P) (c:={F with defers:=es,mode:=.panicking [{v:=nS,recovered:=eE}]}) (cs:=cs) G6 tN;cases eE with
         |true=>
          have aB:jV call ds none cl=some r:=by
           simp only[jV,hc]at h;exact h
          have ra:settle ({F with defers:=es,mode:=.panicking [{v:=nS,recovered:=true}]}:Frame).mode= .returning:=rfl;rw[ra]at qe;obtain⟨kj,jj,md,eZ,aM,aN,bf⟩:=BD fG ds none cl r aB aU w' {{F with defers:=es}with mode:=.returning} cs (ga.mono ab.le) (show pG aU none .returning from rfl) eg;exact⟨kj,jj,md,(Steps.head nH ai).trans (.head qe eZ),aM,aN,ab.trans bf⟩
         |false=>
          have aB:jV call ds (some sK) cl=some r:=by
           simp only[jV,hc]at h;exact h
          have ra:settle ({F with defers:=es,mode:=.panicking [{v:=nS,recovered:=false}]}:Frame).mode= .panicking [{v:=nS,recovered:=false}]:=rfl;rw[ra]at qe;obtain⟨kj,jj,md,eZ,aM,aN,bf⟩:=BD fG ds (some sK) cl r aB aU w' {{F with defers:=es}with mode:=.panicking [{v:=nS,recovered:=false}]} cs (ga.mono ab.le) ⟨nS,Af.mono ab.le,rfl⟩ eg;exact⟨kj,jj,md,(Steps.head nH ai).trans (.head qe eZ),aM,aN,ab.trans bf⟩
        |bk v cl eE=>
         exfalso;simp only[jV,hc]at h;cases h
      ·cases J
     |_=>simp[jV]at h
    |_=>rw[het]at vP;exact vP.elim
   |_=>simp[jV]at h
section
variable{P:d9}{b:dL}{a:Act}{k:ac Item}{cs:ac Frame}{w:co}
def dL.returns(b:dL)(a:Act)(iD:ac Item):Frame:={b.at a iD with mode:=.returning}
def asb(hb:b.b7=none):step P (lone (b.at a []) cs w)= .next (lone (b.returns a []) cs w):=step_lone_go (by simp[stepG,stepG.exec,dL.at,dL.returns,hb])
def asq(hb:b.b7=none):step P (lone (b.at a (.code .ret::k)) cs w)= .next (lone (b.returns a (.code .ret::k)) cs w):=step_lone_go (by simp[stepG,stepG.exec,dL.at,dL.returns,hb])
end
theorem QH:∀(vs:ac be) (i:Nat) (t:ar be) (j:Nat),(n5 vs i t).get j=if i<=j∧j<i+vs.length then vs[j-i]? else t.get j
 |[],i,t,j=>by rw[zaa (by simp)];rfl
 |v::vs,i,t,j=>by
  show(ar.h9 (Nat.succ i) t i v fun t=>n5 vs (Nat.succ i) t).get j=_;rw[ar.yR,QH vs (Nat.succ i) _ j,ar.eo];by_cases e:j=i
  ·subst e;rw[zaa (by omega),zab rfl,zab (by simp)];simp
  ·by_cases h:Nat.succ i<=j∧j<Nat.succ i+vs.length
   ·rw[zab h,zab (by simp only[zaD];omega)];obtain⟨J,_⟩:=h;have:j-i=(j-Nat.succ i)+1:=by omega
    rw[this];simp
   ·rw[zaa h,zaa e,zaa (by simp only[zaD];omega)]
def agj{as as':ac be}{aQ:Nat}{bk:am be}{eE:Bool}{b7:am Nat}(h:bM ι as as')(hn:as.length<=aQ):
 cz ι ⟨n5 as 0 .nil,[],bk,eE,b7⟩ ⟨as'.toArray++Array.replicate (aQ-as'.toArray.size) undef,[]⟩ aQ:=by
 refine⟨fun t=> ?_,by simp[<-h.1];omega,trivial⟩;show bs ι (Option.rec (motive:=fun _=>be) (.chan (some 0)) (fun v=>v) ((n5 as 0 .nil).get t)) _;rw[QH];by_cases aV:t<as.length
 ·rw[zab ⟨zaf _,by omega⟩];have sn:t<as'.length:=by rw[<-h.1];exact aV
  have:=h.2 t aV sn;simp only[Nat.sub_zero,bV aV];have aO:(as'.toArray++Array.replicate (aQ-as'.toArray.size) undef).getD t undef=as'[t]:=by
   simp[Array.getElem?_append,sn]
  rw[aO];exact this
 ·rw[zaa (by omega)];exact .top _
section
variable{b:dL}{bA:Bool->ac Frame}{ι:bC}{fr:aR}{a:Act}{aQ:Nat}{st:ay}{w:co}
def Ly(fG:w1 X call){Fn:Func}{res:ac iI}{F:Frame}(az:X.P.funcs[b.fn]? =some Fn)(lJ:uI X res Fn.results.toList=true)(ae:cz ι fr a aQ)(hw:bx X ι st w)
 (J:F.tmps=a.tmps) (U:F.defers=a.defers) (af:F.kind=b.kind) (ax:F.fn=b.fn) (hm:pG ι m F.mode):jz X ι w b bA (lone F (bA fr.cM) w) (oc call res m fr st):=by
 unfold oc;cases hu:jV call fr.c7 m st with
 |none=>trivial
 |some p=>
  obtain⟨fi,st'⟩:=p;obtain⟨aU,w',md,ai,aM,aN,bf⟩:=BD fG fr.c7 m st (fi,st') hu ι w F (bA fr.cM) (by rw[U];exact ae.c7) hm hw;cases fi with
  |some v=>
   obtain⟨v',aI,Mp⟩:=aM;exact⟨aU,v',w',{F with defers:=[],mode:=md},aI,aN,bf,af,ax,⟨Mp,rfl,Fn,by show X.P.funcs[F.fn]? =_;rw[ax];exact az⟩,ai⟩
  |none=>
   have Mp:md= .returning:=aM;show jz X ι w b bA _ (bm (qX fr st' res) (fun vs=>one vs (fun v=>.ret v st' fr.cM) (.ret (.tuple ⟨vs⟩) st' fr.cM)) .no);cases he:qX fr st' res with
   |none=>trivial
   |some out=>
    have eU:cz aU ⟨fr.t,[],fr.bk,fr.cM,fr.b7⟩ ⟨a.tmps,[]⟩ aQ:=⟨fun t=>(ae.tmp t).mono bf.le,ae.size,trivial⟩;obtain⟨v',aI,fQ⟩:=aql (F:=Fn) lJ eU aN (show qX ⟨fr.t,[],fr.bk,fr.cM,fr.b7⟩ st' res=some out from he);have MA:bm (some out) (fun vs=>one vs (fun v=>dM.ret v st' fr.cM) (.ret (.tuple ⟨vs⟩) st' fr.cM)) .no= .ret (one out (fun v=>v) (.tuple ⟨out⟩)) st' fr.cM:=by
     cases out with
     |nil=>rfl
     |cons x xs=>cases xs<;>rfl
    rw[MA];refine⟨aU,v',w',{F with defers:=[],mode:=md},aI,aN,bf,af,ax,⟨Mp,rfl,Fn,by show X.P.funcs[F.fn]? =_;rw[ax];exact az,?_⟩,ai⟩;show(results Fn F.tmps).run X.P w'=_;rw[J];exact fQ
structure w0(X:Ctx)(f:ci)(xf:dv)(Fn:Func)(c:Code):Prop where
 fn:X.P.funcs[f]? =some Fn
 body:Fn.body=some c
 aQ:Fn.ntmps=xf.aQ
 code:codeOk X xf.aQ xf.body c=true
 res:uI X xf.res Fn.results.toList=true
 name:(Fn.name== "runtime.NumGoroutine")=false
variable{f:ci}{xf:dv}{Fn:Func}{body:Code}
def w0.enters(h:w0 X f xf Fn body)(as:ap be)(w:co):(callFunc f as).run X.P w= .ok (.enter f as) w:=by
 have hn:=h.name;simp only[callFunc,program,Sem.run_bind];simp[Sem.run,h.fn,h.body,hn,Result.andThen]
def Q9(dE:Good X)(eN:nj X call)(fG:w1 X call)(Ai:∀b aQ bA,b.b7=none->Fp X call b aQ bA)(ok:w0 X f xf Fn body)(n:Nat){K:CallKind}{as as':ac be}{bk:am be}
 (has:bM ι as as') (hw:bx X ι st w) (hr:kF ⟨f,K,none⟩ bk ι bA):jz X ι w ⟨f,K,none⟩ bA (lone (Frame.enter X.P f as'.toArray K) (bA false) w) (pP call n f xf as bk st):=by
 unfold pP;rw[qi];split
 ·rename_i hlen;rw[fo]at hlen
  let b:dL:=⟨f,K,none⟩
  have tJ:Frame.enter X.P f as'.toArray K=b.at ⟨as'.toArray++Array.replicate (xf.aQ-as'.toArray.size) undef,[]⟩ [.code body]:=by
   simp[Frame.enter,dL.at,ok.fn,ok.body,ok.aQ,b]
  rw[tJ];have Hj:=La (b:=b) (bA:=bA) dE eN (Ai b xf.aQ bA rfl) ⟨Fn,ok.fn,ok.aQ⟩ n xf.body body ι ⟨n5 as 0 .nil,[],bk,false,none⟩ ⟨as'.toArray++Array.replicate (xf.aQ-as'.toArray.size) undef,[]⟩ st w [] ok.code (agj has hlen) hw (.inl ⟨rfl,rfl⟩) hr;cases jo:dD call n f xf.body ⟨n5 as 0 .nil,[],bk,false,none⟩ st with
  |no=>trivial
  |out e aK st'=>
   have akM:dD call n b.fn xf.body ⟨n5 as 0 .nil,[],bk,false,none⟩ st= .out e aK st':=jo;rw[akM]at Hj;obtain⟨aU,a',w',J,U,af,_,_,ck⟩:=Hj;cases e with
   |norm=>
    refine jz.head (Steps.trans ck (.one (asb rfl))) af ?_;exact Ly (b:=b) (a:=a') (F:=b.returns a' []) (aQ:=xf.aQ) fG ok.fn ok.res J U rfl rfl rfl rfl (show pG aU none .returning from rfl)
   |exit id=>trivial
   |ret=>
    obtain⟨iD,dx⟩:=ck;refine jz.head (Steps.trans dx (.one (asq rfl))) af ?_;exact Ly (b:=b) (a:=a') (F:=b.returns a' (.code .ret::iD)) (aQ:=xf.aQ) fG ok.fn ok.res J U rfl rfl rfl rfl (show pG aU none .returning from rfl)
   |bk v=>
    obtain⟨v',iD,aI,dx⟩:=ck;refine jz.head dx af ?_;exact Ly (b:=b) (a:=a') (F:=b.panics a' iD v') (aQ:=xf.aQ) fG ok.fn ok.res J U rfl rfl rfl rfl ⟨v',aI,rfl⟩
 ·trivial
end
def HP{β:Type}{o:am bH}{k:LoopState->am dT->ci->ar be->ac Tmp->dq->dq->Nat->β}{z r:β}(h:mu o k z=r)(aJ:z≠r):
 ∃s gh fn t ps a b d,o=some (.loop s gh fn t ps a b d)∧k s gh fn t ps a b d=r:=by
 unfold mu at h;obtain⟨ej,ao,J⟩:=fp h aJ;cases ej<;>first|exact absurd J aJ|exact⟨_,_,_,_,_,_,_,_,ao,J⟩
section
variable{P:d9}{b:dL}{a:Act}{k:ac Item}{c:Frame}{cs:ac Frame}{w w':co}{l:Nat}
variable{v:be}
def ar9(hb:b.b7=some l)(h:(Instr.beginRound l).run P w= .ok () w'):step P (lone (b.at a (.beginRound::k)) cs w)= .next (lone (b.at a k) cs w'):=
 step_lone_go (by simp[stepG,stepG.exec,stepG.apply,dL.at,hb,h,Result.andThen,Frame.finish])
def ast(hb:b.b7=some l)(ab:b.kind= .normal)(h:(Instr.endRound l none).run P w= .ok v w'):step P (lone (b.at a []) (c::cs) w)= .next (lone (c.finish v) cs w'):=
 step_lone_go (by simp[stepG,stepG.exec,dL.at,hb,ab,h,doReturn])
def asv(hb:b.b7=some l)(ab:b.kind= .normal)(h:(Instr.endRound l (some .ret)).run P w= .ok v w'):step P (lone (b.at a (.code .ret::k)) (c::cs) w)= .next (lone (c.finish v) cs w'):=
 step_lone_go (by simp[stepG,stepG.exec,dL.at,hb,ab,h,doReturn])
def asu{i:Nat}(hb:b.b7=some l)(ab:b.kind= .normal)(aa:exitTo i k=none)(h:(Instr.endRound l (some (.exit i))).run P w= .ok v w'):step P (lone (b.at a (.code (.exit i)::k)) (c::cs) w)= .next (lone (c.finish v) cs w'):=
 step_lone_go (by simp[stepG,stepG.exec,dL.at,hb,ab,aa,h,doReturn])
end
variable{st:ay}{w:co}{l l':Nat}{s:LoopState}{gh:am dT}{t:ar be}{ps:ac Tmp}{dn body:dq}{d:Nat}
theorem Zp{ι:bC}:∀(ps:ac Tmp) (vs fS:ac be) (m:ar be) (arr:ap be),(∀n,bs ι (BA m n) (arr.getD n undef))->bM ι vs fS->vs.length=ps.length->(∀t∈ps,t<arr.size)->
 (∀n,bs ι (BA (nR ps vs m) n) (((ps.zip fS).foldl (fun tmps (p:Tmp×be)=>tmps.setIfInBounds p.1 p.2) arr).getD n undef))∧((ps.zip fS).foldl (fun tmps (p:Tmp×be)=>tmps.setIfInBounds p.1 p.2) arr).size=arr.size
 |[],_,_,m,arr,h,_,_,_=>⟨h,rfl⟩
 |t::ps,[],_,_,_,_,_,hl,_=>by simp at hl
 |t::ps,v::vs,fS,m,arr,h,aI,hl,a4=>by
  obtain⟨y,av,rfl,J,U⟩:=aI.cons_inv;have aV:t<arr.size:=a4 t zbB;have nH:∀n,bs ι (BA (m.set t v) n) ((arr.setIfInBounds t y).getD n undef):=by
   intro n;have hn:=h n;unfold BA at hn⊢;rw[ar.eo];by_cases e:n=t
   ·subst e;rw[zab rfl];have:(arr.setIfInBounds n y).getD n undef=y:=by simp[aV]
    rw[this];exact J
   ·rw[zaa e];have:(arr.setIfInBounds t y).getD n undef=arr.getD n undef:=by
     simp[zbH (Ne.symm e)]
    rw[this];exact hn
  obtain⟨aM,aN⟩:=Zp ps vs av (m.set t v) (arr.setIfInBounds t y) nH U (by simpa using hl) (fun u hu=>by simpa using a4 u (zaM _ hu));have hp:nR (t::ps) (v::vs) m=nR ps vs (m.set t v):=by
   show ar.h9 (Nat.succ t) m t v (fun m=>nR ps vs m)=_;rw[ar.yR]
  rw[hp];refine⟨aM,?_⟩;rw[List.zip_cons_cons,zdw,aN];simp
def bx.loop(hw:bx X ι st w){fn:ci}(h:st.h.get l=some (.loop s gh fn t ps dn body d))(hl:ι l=some ⟨l',0,0,id⟩):
 ∃L:Loop,w.heap[l']? =some (.loop L)∧L.state=s∧Fm gh L.pending∧L.fn=fn∧(∀n,bs ι (BA t n) (L.tmps.getD n undef))∧L.params.toList=ps∧X.ok fn L.assign dn∧X.ok fn L.body body∧ι d=some ⟨L.defers,0,0,id⟩∧
  (∃F,X.P.funcs[fn]? =some F∧L.tmps.size=F.ntmps)∧∀t∈ps,t<L.tmps.size:=by
 obtain⟨m,hm,_,_,L,jF⟩:=hw.eD _ _ h (by simp);have e:=hl.symm.trans hm;cases e;exact⟨L,jF⟩
def bx.Np(hw:bx X ι st w){fn:ci}(h:st.h.get l=some (.loop s gh fn t ps dn body d))(hl:ι l=some ⟨l',0,0,id⟩)
 {L:Loop} (jF:w.heap[l']? =some (.loop L)) (bz:LoopState) (Zt:am dT) (jump:am Code) (hj:Fm Zt jump):
 bx X ι ⟨st.h.set l (.loop bz Zt fn t ps dn body d),st.al⟩ (w.putObj l' (.loop {L with state:=bz,pending:=jump}))∧fv ι ι w (w.putObj l' (.loop {L with state:=bz,pending:=jump})):=by
 obtain⟨auf,h0,J,U,af,ax,a0,ck,dx,gF,hZ,tB⟩:=hw.loop h hl;rw[jF]at h0;cases h0;exact hw.uS X h (by simp) (fun ae=>ae) hl _ (.loop {L with state:=bz,pending:=jump}) _ rfl fun _ aV=>⟨rfl,rfl,{L with state:=bz,pending:=jump},aV,rfl,hj,af,ax,a0,ck,dx,gF,hZ,tB⟩
section
variable{ι:bC}{st:ay}{w:co}
def aqq{b:dL}{aQ:Nat}{Fn:Func}{c:Frame}{cs:ac Frame}{s:Machine}{en:aR}{aU:bC}{gX:co}{r:cZ}(og:X.P.funcs[b.fn]? =some Fn)(xG:b.b7=some l')(L2:b.kind= .normal)(hl:aU l=some ⟨l',0,0,id⟩)
 (h:gk X b aQ (fun _=>c::cs) s [] en aU gX r):
 match qz l r with
 |.ret v st' _=>∃ff v' w',bs ff v v'∧bx X ff st' w'∧fv aU ff gX w'∧Steps X.P s (lone (c.finish v') cs w')
 |.bk v st' _=>∃ff v' w',bs ff v v'∧bx X ff st' w'∧fv aU ff gX w'∧Steps X.P s (lone (c.raise [{v:=v',recovered:=false}]) cs w')
 |.no=>True:=by
 cases r with
 |no=>trivial
 |out e fr st=>
  obtain⟨ff,a,w,ae,hw,ab,_,_,aa⟩:=h;have jH:=ab.le _ _ hl;cases nB:fr.c7 with
  |cons d ds=>
   have:qz l (.out e fr st)= .no:=by show List.rec (motive:=fun _=>dM) _ _ fr.c7=_;rw[nB]
   rw[this];trivial
  |nil=>
   have akl:a.defers=[]:=by
    have:=ae.c7;rw[nB]at this;cases aY:a.defers with
    |nil=>rfl
    |cons d ds=>rw[aY]at this;exact this.elim
   have key:∀(bz:LoopState) (gh:am dT) (jump:am Code) (v:be),Fm gh jump->
    (∀L,w.heap[l']? =some (.loop L)->∃w',w'=w.putObj l' (.loop {L with state:=bz,pending:=jump})∧Steps X.P s (lone (c.finish v) cs w'))->bs ff v v->
    match mu (st.h.get l) (fun _ _ fn t ps a b d=>st.g3 l (.loop bz gh fn t ps a b d) fun st=>dM.ret v st false) .no with
    |.ret v st' _=>∃ff v' w',bs ff v v'∧bx X ff st' w'∧fv aU ff gX w'∧Steps X.P s (lone (c.finish v') cs w')
    |.bk v st' _=>∃ff v' w',bs ff v v'∧bx X ff st' w'∧fv aU ff gX w'∧Steps X.P s (lone (c.raise [{v:=v',recovered:=false}]) cs w')
    |.no=>True:=by
    intro bz gh jump v hj e0 aI;by_cases gb:mu (st.h.get l) (fun _ _ fn t ps a b d=>st.g3 l (.loop bz gh fn t ps a b d) fun st=>dM.ret v st false) .no= .no
    ·rw[gb];trivial
    ·obtain⟨aH,mx,Gr,t0,Iz,pH,km,d0,j9,J⟩:=HP rfl (fun e=>gb e.symm);rw[<-J,jT];obtain⟨L,jF,_⟩:=hw.loop j9 jH;obtain⟨w',eg,eZ⟩:=e0 L jF;obtain⟨aM,aN⟩:=hw.Np j9 jH jF bz gh jump hj;exact⟨ff,v,w',aI,by rw[eg];exact aM,by rw[eg];exact ab.trans aN,eZ⟩
   cases e with
   |norm=>
    have:qz l (.out .norm fr st)=mu (st.h.get l) (fun _ _ fn t ps a b d=>st.g3 l (.loop .ready none fn t ps a b d) fun st=>dM.ret (.bool true) st false) .no:=by
     show List.rec (motive:=fun _=>dM) _ _ fr.c7=_;rw[nB]
    rw[this];exact key .ready none none (.bool true) trivial (fun L jF=>⟨_,rfl,Steps.trans aa (.one (ast xG L2 (run_endRound none jF)))⟩) (.bool true)
   |exit i=>
    have:qz l (.out (.exit i) fr st)=mu (st.h.get l) (fun _ _ fn t ps a b d=>st.g3 l (.loop .done (some (.exit i)) fn t ps a b d) fun st=>dM.ret (.bool false) st false) .no:=by
     show List.rec (motive:=fun _=>dM) _ _ fr.c7=_;rw[nB]
    rw[this];obtain⟨iD,Hm,bS⟩:=aa;exact key .done (some (.exit i)) (some (.exit i)) (.bool false) rfl (fun L jF=>⟨_,rfl,Steps.trans bS (.one (asu xG L2 (by rw[Hm];rfl) (run_endRound (some (.exit i)) jF)))⟩) (.bool false)
   |ret=>
    have:qz l (.out .ret fr st)=mu (st.h.get l) (fun _ _ fn t ps a b d=>st.g3 l (.loop .done (some .ret) fn t ps a b d) fun st=>dM.ret (.bool false) st false) .no:=by
     show List.rec (motive:=fun _=>dM) _ _ fr.c7=_;rw[nB]
    rw[this];obtain⟨iD,bS⟩:=aa;exact key .done (some .ret) (some .ret) (.bool false) trivial (fun L jF=>⟨_,rfl,Steps.trans bS (.one (asv xG L2 (run_endRound (some .ret) jF)))⟩) (.bool false)
   |bk v=>
    have:qz l (.out (.bk v) fr st)= .bk v st false:=by
     show List.rec (motive:=fun _=>dM) _ _ fr.c7=_;rw[nB]
    rw[this];obtain⟨v',iD,aI,bS⟩:=aa;refine⟨ff,v',w,aI,hw,ab,Steps.trans bS (.one (step_leave_panicked (fr:=b.panics a iD v') ⟨rfl,akl,Fn,og⟩))⟩
def at7(dE:Good X)(eN:nj X call)(Ai:∀b aQ bA,Fp X call b aQ bA){n:Nat}{args jB:ac be}(hl:ι l=some ⟨l',0,0,id⟩)(aY:bM ι args jB)(hw:bx X ι st w)(cx:y6 call n l args st≠.no):
 ∃fn ts dn body,(Instr.yield l' jB.toArray).run X.P w= .ok (.round l' fn ts dn body) w∧∀c cs,BQ X ι w (Frame.round l' fn ts dn body .normal) c cs (y6 call n l args st):=by
 unfold y6 at cx⊢;obtain⟨s,gh,fn,t,ps,dn,body,d,j9,J⟩:=HP rfl (fun e=>cx e.symm);rw[<-J]at cx⊢;obtain⟨hlen,U⟩:=k3 rfl (fun e=>cx e.symm);rw[<-U]at cx⊢;rw[fo,fo]at hlen;obtain⟨L,jF,ai,hj,fG,Aj,jc,L1,z2,aq,⟨Fn,og,eI⟩,a4⟩:=hw.loop j9 hl;have alZ:jB.toArray.size=L.params.size:=by
  have:L.params.size=ps.length:=by rw[<-jc];simp
  rw[this,<-hlen];simpa using aY.1.symm
 refine⟨L.fn,_,L.assign,L.body,run_yield jF alZ,fun c cs=> ?_⟩;subst fG;obtain⟨gU,gV⟩:=Zp ps args jB t L.tmps Aj aY hlen a4;have W4:(L.params.zip jB.toArray).foldl (fun tmps (x:Tmp×be)=>tmps.setIfInBounds x.1 x.2) L.tmps=(ps.zip jB).foldl (fun tmps (p:Tmp×be)=>tmps.setIfInBounds p.1 p.2) L.tmps:=by
  rw[<-Array.foldl_toList,Array.toList_zip,jc]
 let b:dL:=⟨L.fn,.normal,some l'⟩
 let uR:=(L.params.zip jB.toArray).foldl (fun tmps (x:Tmp×be)=>tmps.setIfInBounds x.1 x.2) L.tmps
 have auV:Frame.round l' L.fn uR L.assign L.body .normal=b.at ⟨uR,[]⟩ [.code L.assign,.beginRound,.code L.body]:=rfl;obtain⟨Qb,p3,alB⟩:=(dE.2 _ _ _).1 L1;obtain⟨iG,xB,tR⟩:=(dE.2 _ _ _).1 z2;rw[og]at p3 xB;cases p3;cases xB;have ae:cz ι ⟨nR ps args t,[],none,false,some l⟩ ⟨uR,[]⟩ Fn.ntmps:=by
  refine⟨fun u=> ?_,?_,trivial⟩
  ·have:=gU u;rw[<-W4]at this;exact this
  ·show uR.size=_;rw[<-eI,<-gV,<-W4]
 have WX:∀bk:am be,bk=none->∀aU,kF b bk aU (fun _=>c::cs):=by
  rintro _ rfl aU F eE az;have ef:F.kind= .normal:=az;simp[tryRecover,ef]
 have Hj:=La (b:=b) (bA:=fun _=>c::cs) dE eN (Ai b Fn.ntmps _) ⟨Fn,og,rfl⟩ n dn L.assign ι ⟨nR ps args t,[],none,false,some l⟩ ⟨uR,[]⟩ st w [.beginRound,.code L.body] alB ae hw (.inr ⟨l,l',rfl,rfl,hl⟩) (WX _ rfl ι);have W1:gk X b Fn.ntmps (fun _=>c::cs) (lone (Frame.round l' L.fn uR L.assign L.body .normal) (c::cs) w) [.beginRound,.code L.body] ⟨nR ps args t,[],none,false,some l⟩ ι w (dD call n L.fn dn ⟨nR ps args t,[],none,false,some l⟩ st):=Hj;generalize dD call n L.fn dn ⟨nR ps args t,[],none,false,some l⟩ st=oB at W1 cx⊢;cases oB with
 |no=>exact absurd rfl cx
 |out e en cl=>
  obtain⟨aU,fC,gX,tK,pd,vE,vK,Dm,Hq⟩:=W1;cases e with
  |exit _=>exact absurd rfl cx
  |ret=>exact absurd rfl cx
  |bk _=>exact absurd rfl cx
  |norm=>
   have Ad:Bl call n l L.fn body en cl≠.no:=cx;show BQ X ι w _ c cs (Bl call n l L.fn body en cl);unfold Bl at Ad⊢;obtain⟨s1,A3,CK,t1,Eg,B5,Cb,d1,G1,af⟩:=HP rfl (fun e=>Ad e.symm);rw[<-af]at Ad⊢;cases s1 with
   |busy=>exact absurd rfl Ad
   |done=>exact absurd rfl Ad
   |exhausted=>exact absurd rfl Ad
   |ready=>
    have jH:=vE.le _ _ hl;obtain⟨pF,CW,k8,nE,auE,_⟩:=pd.loop G1 jH;have gR:(Instr.beginRound l').run X.P gX= .ok () (gX.putObj l' (.loop {pF with state:=.busy})):=run_beginRound CW k8;have al1:=ar9 (P:=X.P) (b:=b) (a:=fC) (k:=[.code L.body]) (cs:=c::cs) rfl gR;obtain⟨vQ,jq⟩:=pd.Np G1 jH CW .busy A3 pF.pending nE;have alY:=La (b:=b) (bA:=fun _=>c::cs) dE eN (Ai b Fn.ntmps _) ⟨Fn,og,rfl⟩ n body L.body aU en fC ⟨cl.h.set l (.loop .busy A3 CK t1 Eg B5 Cb d1),cl.al⟩ (gX.putObj l' (.loop {pF with state:=.busy})) [] tR tK vQ (by rw[Dm];exact .inr ⟨l,l',rfl,rfl,jH⟩) (WX _ vK aU);have xS:Steps X.P (lone (Frame.round l' L.fn uR L.assign L.body .normal) (c::cs) w) (lone (b.at fC [.code L.body]) (c::cs) (gX.putObj l' (.loop {pF with state:=.busy}))):=Steps.trans Hq (.one al1);have h1:=vE.trans jq;have tS:=aqq (b:=b) (l:=l) og rfl rfl jH alY;show BQ X ι w _ c cs (cl.g3 l (.loop .busy A3 CK t1 Eg B5 Cb d1) fun st=>qz l (dD call n L.fn body en st));rw[jT];have cY:dD call n b.fn body en ⟨cl.h.set l (.loop .busy A3 CK t1 Eg B5 Cb d1),cl.al⟩=dD call n L.fn body en ⟨cl.h.set l (.loop .busy A3 CK t1 Eg B5 Cb d1),cl.al⟩:=rfl;rw[cY]at tS;generalize qz l (dD call n L.fn body en ⟨cl.h.set l (.loop .busy A3 CK t1 Eg B5 Cb d1),cl.al⟩)=aa2 at tS⊢;cases aa2 with
    |no=>trivial
    |ret v st' eE=>obtain⟨ff,v',w',aM,aN,bf,cb⟩:=tS;exact⟨ff,v',w',aM,aN,h1.trans bf,xS.trans cb⟩
    |bk v st' eE=>obtain⟨ff,v',w',aM,aN,bf,cb⟩:=tS;exact⟨ff,v',w',aM,aN,h1.trans bf,xS.trans cb⟩
end
section
variable{P:d9}{b:dL}{a:Act}{k:ac Item}{cs:ac Frame}{w gX:co}{f:bi}{ps:ap Tmp}{dn body:Code}{l:Nat}{mark:ac Deferred}
variable{g:ci}
def aaU(_hb:b.b7=none):(Frame.eval {fn:=b.fn,tmps:=a.tmps,todo:=.inRangeFunc l::k,defers:=mark++a.defers,mode:=.run,kind:=b.kind,roundOf:=none}) f=a.eval f:=by cases f<;>rfl
def aaT{v:be}:a.eval (.const v)=v:=rfl
def asr(hb:b.b7=none)(h:(Instr.enterLoop b.fn a.tmps ps dn body none).run P w= .ok (l,mark) gX){as:ap be}
 (hr:((do let d<-Deferred.ofValue (a.eval f) #[.func (.yield l) #[] #[]];invoke d.target d.args):Sem Next).run P gX= .ok (.enter g as) gX):
 step P (lone (b.at a (.code (.rangeFunc f ps dn body)::k)) cs w)= .next (lone (Frame.enter P g as .normal) (b.at {a with defers:=mark++a.defers} (.inRangeFunc l::k)::cs) gX):=by
 refine step_lone_go ?_;have m1:=hr;simp only[Sem.run_bind]at m1;simp[stepG,stepG.exec,stepG.apply,dL.at,hb,h,resolve,aaU hb,aaT,m1]
def ass(hb:b.b7=none)(h:(Instr.enterLoop b.fn a.tmps ps dn body none).run P w= .ok (l,mark) gX){g1:Nat}{ts:ap be}{KK KW:Code}
 (hr:((do let d<-Deferred.ofValue (a.eval f) #[.func (.yield l) #[] #[]];invoke d.target d.args):Sem Next).run P gX= .ok (.round g1 g ts KK KW) gX):
 step P (lone (b.at a (.code (.rangeFunc f ps dn body)::k)) cs w)= .next (lone (Frame.round g1 g ts KK KW .normal) (b.at {a with defers:=mark++a.defers} (.inRangeFunc l::k)::cs) gX):=by
 refine step_lone_go ?_;have m1:=hr;simp only[Sem.run_bind]at m1;simp[stepG,stepG.exec,stepG.apply,dL.at,hb,h,resolve,aaU hb,aaT,m1]
def asc{jump:am Code}(h:(Instr.endLoop l).run P w= .ok jump gX):step P (lone (b.at a (.endRangeFunc l::k)) cs w)= .next (lone (b.at a ((jump.map Item.code).toList++k)) cs gX):=
 step_lone_go (by simp[stepG,stepG.exec,dL.at,h])
end
def O8(eN:nj X call)(b:dL)(aQ:Nat)(bA:Bool->ac Frame):Fp X call b aQ bA:=by
 intro f ps dn body pL pO ι fr a st w k akW a4 og L1 z2 ae hw hb hr;unfold CE;cases qc:fr.b7 with
 |some _=>trivial
 |none=>
  have z1:b.b7=none:=by
   rcases hb with⟨_,h⟩|⟨l,l',h,_⟩
   ·exact h
   ·rw[qc]at h;cases h
  obtain⟨Fn,og,Mw⟩:=og;have tJ:=run_enterLoop_outer (P:=X.P) (w:=w) b.fn a.tmps ps pL pO;obtain⟨avt,pd,vE,J,_⟩:=bx.alloc X hw (.iJ (some [])) (.deferred (some [])) 0 (fun aU w' _ _ aV=>⟨rfl,rfl,.inl ⟨rfl,aV⟩⟩) (w.alloc (.deferred (some []))) rfl;have al3:(w.alloc (.deferred (some []))).heap.size=w.heap.size+1:=World.size_alloc _ _
  let L:Loop:={state:=.ready,pending:=none,fn:=b.fn,tmps:=a.tmps,params:=ps,assign:=pL,body:=pO,defers:=w.heap.size}
  obtain⟨J8,vQ,jq,U,_⟩:=bx.alloc X pd (.loop .ready none b.fn fr.t ps.toList dn body st.al) (.loop L) 0 (fun aU w' hle _ aV=>⟨rfl,rfl,L,aV,rfl,trivial,rfl,fun n=>(ae.tmp n).mono (vE.le.trans hle),rfl,L1,z2,hle _ _ J,⟨Fn,og,by rw[Mw];exact ae.size⟩,fun t aV=>by show t<a.tmps.size;rw[ae.size];exact a4 t aV⟩)
   ((w.alloc (.deferred (some []))).alloc (.loop L)) rfl
  show gk X b aQ bA _ k fr ι w (st.iT (.iJ (some [])) fun r st=>st.iT (.loop .ready none b.fn fr.t ps.toList dn body r) fun l st=>Jo l ⟨fr.t,{target:=.collected r,args:= #[]}::fr.c7,fr.bk,fr.cM,none⟩ (call (fr.aj f) [.func (.yield l) #[] #[]] none st));rw[gw,gw];have h1:=vE.trans jq;rw[al3]at U
  let dB:ay:=⟨(st.h.set st.al (.iJ (some []))).set (st.al+1) (.loop .ready none b.fn fr.t ps.toList dn body st.al),st.al+1+1⟩
  let aK:aR:=⟨fr.t,{target:=.collected st.al,args:= #[]}::fr.c7,fr.bk,fr.cM,none⟩
  let a':Act:={a with defers:=[{target:=.collected w.heap.size,args:= #[]}]++a.defers}
  have eU:cz J8 aK a' aQ:=⟨fun t=>(ae.tmp t).mono h1.le,ae.size,⟨⟨bM.nil _,jq.le _ _ J⟩,ae.c7.mono h1.le⟩⟩;have ame:bx X J8 dB ((w.alloc (.deferred (some []))).alloc (.loop L)):=vQ;have fR:bs J8 (.func (.yield (st.al+1)) #[] #[]) (.func (.yield (w.heap.size+1)) #[] #[]):=bs.Ie (.inr ⟨_,_,rfl,rfl,U⟩) (bM.nil _) (bM.nil _);show gk X b aQ bA _ k fr ι w (Jo (st.al+1) aK (call (fr.aj f) [.func (.yield (st.al+1)) #[] #[]] none dB));by_cases gb:call (fr.aj f) [.func (.yield (st.al+1)) #[] #[]] none dB= .no
  ·rw[gb];trivial
  obtain⟨gm,e0,nG⟩:=eN J8 (fr.aj f) [.func (.yield (st.al+1)) #[] #[]] dB (a.eval f) [.func (.yield (w.heap.size+1)) #[] #[]] _ ((ae.aj hw akW).mono h1.le) (bM.cons fR (bM.nil _)) ame gb;have xS:step X.P (lone (b.at a (.code (.rangeFunc f ps pL pO)::k)) (bA fr.cM) w)= .next (lone gm (b.at a' (.inRangeFunc (w.heap.size+1)::k)::bA fr.cM) ((w.alloc (.deferred (some []))).alloc (.loop L))):=by
   cases e0 with
   |enter g as ai=>exact asr z1 tJ ai
   |round g1 g ts KK KW ai=>exact ass z1 tJ ai
  have ao:=nG (b.at a' (.inRangeFunc (w.heap.size+1)::k)) (bA fr.cM);have iy:aK.bk=fr.bk:=rfl;have iz:aK.b7=fr.b7:=qc.symm;cases hc:call (fr.aj f) [.func (.yield (st.al+1)) #[] #[]] none dB with
  |no=>exact absurd hc gb
  |bk v gK eE=>
   rw[hc]at ao;obtain⟨aU,v',w',aI,eg,ab,ai⟩:=ao;exact⟨aU,a',w',eU.mono ab.le,eg,h1.trans ab,iy,iz,v',_,aI,Steps.head xS ai⟩
  |ret v gK eE=>
   rw[hc]at ao;obtain⟨aU,v',w',aI,eg,ab,ai⟩:=ao;have kP:(b.at a' (.inRangeFunc (w.heap.size+1)::k)).finish v'=b.at a' (.endRangeFunc (w.heap.size+1)::k):=rfl;rw[kP]at ai;have hl:=ab.le _ _ U;show gk X b aQ bA _ k fr ι w (mu (gK.h.get (st.al+1)) (fun s gh qZ t ps a b d=>
    LoopState.rec (motive:=fun _=>cZ)
    (gK.g3 (st.al+1) (.loop .exhausted gh qZ t ps a b d) fun st=>bm gh (fun e=>.out e aK st) (.out .norm aK st))
    .no
    (gK.g3 (st.al+1) (.loop .exhausted gh qZ t ps a b d) fun st=>bm gh (fun e=>.out e aK st) (.out .norm aK st))
    .no s) .no)
   generalize lJ:mu _ _ _=res;by_cases hn:res= .no
   ·rw[hn];trivial
   obtain⟨aH,mx,Gr,t0,Iz,pH,km,d0,j9,af⟩:=HP lJ (fun e=>hn e.symm);obtain⟨pF,CW,k8,nE,_⟩:=eg.loop j9 hl;have key:aH≠.busy->(gK.g3 (st.al+1) (.loop .exhausted mx Gr t0 Iz pH km d0) fun st=>bm mx (fun e=>cZ.out e aK st) (.out .norm aK st))=res->gk X b aQ bA (lone (b.at a (.code (.rangeFunc f ps pL pO)::k)) (bA fr.cM) w) k fr ι w res:=by
    intro p9 he;rw[jT]at he;have xI:(Instr.endLoop (w.heap.size+1)).run X.P w'= .ok pF.pending (w'.putObj (w.heap.size+1) (.loop {pF with state:=.exhausted})):=run_endLoop CW (by rw[k8];exact p9);obtain⟨aM,aN⟩:=eg.Np j9 hl CW .exhausted mx pF.pending nE;have qe:=asc (P:=X.P) (b:=b) (a:=a') (k:=k) (cs:=bA fr.cM) xI;have eQ:=(Steps.head xS ai).trans (.one qe);have C9:=(h1.trans ab).trans aN;have C3:=eU.mono ab.le;cases mx with
    |none=>
     have mh:cZ.out .norm aK ⟨gK.h.set (st.al+1) (.loop .exhausted none Gr t0 Iz pH km d0),gK.al⟩=res:=he;cases hp:pF.pending with
     |some _=>rw[hp]at nE;exact nE.elim
     |none=>
      rw[<-mh];rw[hp]at eQ aM C9;exact⟨aU,a',_,C3,aM,C9,iy,iz,eQ⟩
    |some e=>
     have mh:cZ.out e aK ⟨gK.h.set (st.al+1) (.loop .exhausted (some e) Gr t0 Iz pH km d0),gK.al⟩=res:=he;rw[<-mh];cases hp:pF.pending with
     |none=>rw[hp]at nE;cases e<;>exact nE.elim
     |some eO=>
      rw[hp]at nE eQ aM C9;cases e with
      |norm=>cases eO<;>exact nE.elim
      |bk v=>cases eO<;>exact nE.elim
      |exit i=>
       cases eO with
       |exit j=>
        have e:i=j:=nE;subst e;exact⟨aU,a',_,C3,aM,C9,iy,iz,k,rfl,eQ⟩
       |_=>exact nE.elim
      |ret=>
       cases eO with
       |ret=>exact⟨aU,a',_,C3,aM,C9,iy,iz,k,eQ⟩
       |_=>exact nE.elim
   cases aH with
   |ready=>exact key (by simp) af
   |busy=>exact absurd (af:cZ.no=res).symm hn
   |done=>exact key (by simp) af
   |exhausted=>exact absurd (af:cZ.no=res).symm hn
end Go.ak
namespace Go.ak
variable{X:Ctx}
def n4(X:Ctx)(bB:ar dv):Prop:=∀f xf,bB.get f=some xf->∃Fn c,w0 X f xf Fn c
def u6(X:Ctx)(gg:n2):Prop:=
 ∀(f:ci) (as:ac be) (st:ay) (r:dM),gg f as st=some r->∀(ι:bC) (as':ac be) (w:co),bM ι as as'->bx X ι st w->r≠.no->
  (∀as w,(callFunc f as).run X.P w= .ok (.enter f as) w)∧
  ∀(K:CallKind) (bA:Bool->ac Frame),kF ⟨f,K,none⟩ none ι bA->jz X ι w ⟨f,K,none⟩ bA (lone (Frame.enter X.P f as'.toArray K) (bA false) w) r
variable{gg:n2}{n:Nat}
def zr(bB:ar dv)(gg:n2)(n:Nat)(f:ci)(first fl:ap be)(args:ac be)(bk:am be)(st:ay):
 dc bB gg (n+1) (.func (.func f) first fl) args bk st=
  bm bk (fun _=>bm (bB.get f) (fun xf=>pP (dc bB gg n) n f xf (gC first.toList (gC args fl.toList)) bk st) .no)
   (bm (gg f (gC first.toList (gC args fl.toList)) st) (fun r=>r) (bm (bB.get f) (fun xf=>pP (dc bB gg n) n f xf (gC first.toList (gC args fl.toList)) bk st) .no)):=rfl
def agY{bB:ar dv}(dE:Good X)(iQ:n4 X bB)(sj:u6 X gg)(DF:w1 X (dc bB gg n))(nK:nj X (dc bB gg n)):w1 X (dc bB gg (n+1)):=by
 intro ι f first fl args bk st vr oV jB w J U af hw cx
 rw[zr]at cx⊢;simp only[qM]at cx⊢;have has:bM ι (first.toList++(args++fl.toList)) (vr.toList++(jB++oV.toList)):=J.append (U.append af);have Wj:(vr.toList++(jB++oV.toList)).toArray=vr++jB.toArray++oV:=by
  apply Array.ext';simp
 have z2:∀{K:CallKind} {bA:Bool->ac Frame} (xf:dv),bB.get f=some xf->kF ⟨f,K,none⟩ bk ι bA->
  jz X ι w ⟨f,K,none⟩ bA (lone (Frame.enter X.P f (vr++jB.toArray++oV) K) (bA false) w) (pP (dc bB gg n) n f xf (first.toList++(args++fl.toList)) bk st):=by
  intro K bA xf aa hr;obtain⟨Fn,c,ok⟩:=iQ f xf aa;have:=Q9 dE nK DF (fun b aQ bA _=>O8 nK b aQ bA) ok n (K:=K) (bA:=bA) has hw hr;rw[Wj]at this;exact this
 have tJ:∀xf,bB.get f=some xf->∀as w,(callFunc f as).run X.P w= .ok (.enter f as) w:=by
  intro xf aa as w;obtain⟨Fn,c,ok⟩:=iQ f xf aa;exact ok.enters as w
 cases bk with
 |some sK=>
  cases aa:bB.get f with
  |none=>rw[aa]at cx;exact absurd rfl cx
  |some xf=>exact⟨tJ xf aa,fun K bA hr=>z2 xf aa hr⟩
 |none=>
  cases ao:gg f (first.toList++(args++fl.toList)) st with
  |some r=>
   rw[ao]at cx;obtain⟨aM,aN⟩:=sj f _ st r ao ι _ w has hw cx;refine⟨aM,fun K bA hr=> ?_⟩;have:=aN K bA hr;rw[Wj]at this;exact this
  |none=>
   cases aa:bB.get f with
   |none=>rw[ao,aa]at cx;exact absurd rfl cx
   |some xf=>exact⟨tJ xf aa,fun K bA hr=>z2 xf aa hr⟩
def jz.out{ι:bC}{w:co}{f:ci}{c:Frame}{cs:ac Frame}{gm:Frame}{r:dM}(h:jz X ι w ⟨f,.normal,none⟩ (fun _=>c::cs) (lone gm (c::cs) w) r):BQ X ι w gm c cs r:=by
 cases r with
 |no=>trivial
 |ret v st eE=>
  obtain⟨aU,v',w',F,J,U,af,ax,a0,ck,dx⟩:=h;obtain⟨aM,aN,fn,bf,cb⟩:=ck;exact⟨aU,v',w',J,U,af,Steps.trans dx (.one (step_leave_returned ⟨aM,aN,ax,fn,bf,cb⟩))⟩
 |bk v st eE=>
  obtain⟨aU,v',w',F,J,U,af,ax,a0,ck,dx⟩:=h;exact⟨aU,v',w',J,U,af,Steps.trans dx (.one (step_leave_panicked ck))⟩
def aef{bB:ar dv}(dE:Good X)(DF:w1 X (dc bB gg (n+1)))(nK:nj X (dc bB gg n)):nj X (dc bB gg (n+1)):=by
 intro ι j6 args st Gu jB w q4 aY hw cx;have Mt:=cx;obtain⟨fn,first,fl,rfl,_⟩:=PN (v:=j6) (r:=dc bB gg (n+1) j6 args none st) (z:=dM.no) rfl (fun e=>cx e.symm);cases q4 with
 |func _ ajT _ av _ vs fG fC gO nn BV=>
  cases fn with
  |func f=>
   rcases fG with⟨rfl,_⟩|⟨l,b,J,_⟩
   ·obtain⟨tJ,kP⟩:=DF ι f first fl args none st av vs jB w (bM.wh fC gO) aY (bM.wh nn BV) hw cx
    refine⟨Frame.enter X.P f (av++jB.toArray++vs) .normal,.enter f _ ?_,fun c cs=>jz.out (kP .normal (fun _=>c::cs) (fun F eE az=> ?_))⟩
    ·simp only[Deferred.ofValue,Sem.run_bind,Sem.run_pure,Result.andThen,invoke];exact tJ _ _
    ·have ef:F.kind= .normal:=az;simp[tryRecover,ef]
   ·cases J
  |yield l=>
   have mY:first.toList=[]:=by
    cases hl:first.toList with
    |nil=>rfl
    |cons x xs=>
     exfalso;apply Mt;show List.rec (motive:=fun _=>dM) _ _ first.toList=_
     rw[hl]
   have oj:fl.toList=[]:=by
    cases hl:fl.toList with
    |nil=>rfl
    |cons x xs=>
     exfalso;apply Mt;show List.rec (motive:=fun _=>dM) (List.rec (motive:=fun _=>dM) _ _ fl.toList) _ first.toList=_
     rw[mY,hl]
   have jo:dc bB gg (n+1) (.func (.yield l) first fl) args none st=y6 (dc bB gg n) n l args st:=by
    show List.rec (motive:=fun _=>dM) (List.rec (motive:=fun _=>dM) _ _ fl.toList) _ first.toList=_
    rw[mY,oj];rfl
   rcases fG with⟨_,gb⟩|⟨kd,b,J,U,af⟩
   ·exact absurd rfl (gb l)
   ·cases J;subst U;rw[jo]at cx⊢;obtain⟨fn,ts,dn,body,aF,nG⟩:=at7 dE nK (fun b aQ bA=>O8 nK b aQ bA) af aY hw cx;refine⟨_,.round b fn ts dn body ?_,nG⟩;have vS:av= #[]:=by
     have:=(bM.wh fC gO).1;rw[mY]at this;have h0:av.size=0:=by simpa using this.symm
     exact Array.eq_empty_of_size_eq_zero h0
    simp only[Deferred.ofValue,Sem.run_bind,Sem.run_pure,Result.andThen,invoke,vS];simpa using aF
  |_=>exact absurd rfl Mt
theorem K2{bB:ar dv}{gg:n2}(dE:Good X)(iQ:n4 X bB)(sj:u6 X gg):∀n,w1 X (dc bB gg n)∧nj X (dc bB gg n)
 |0=>⟨fun ι f first fl args bk st vr oV jB w _ _ _ _ cx=>absurd rfl cx,fun ι j6 args st Gu jB w _ _ _ cx=>absurd rfl cx⟩
 |n+1=>by
  obtain⟨J,U⟩:=K2 dE iQ sj n;have af:=agY dE iQ sj J U;exact⟨af,aef dE af U⟩
end Go.ak
namespace Go.ak
variable{α:Type}
def ar.sub(eq:α->α->Bool):ar α->ar α->Bool
 |.nil,_=>true
 |.node l v r,.nil=>v.isNone&&ar.sub eq l .nil&&ar.sub eq r .nil
 |.node l v r,.node l' v' dJ=>(match v,v' with|none,_=>true|some x,some y=>eq x y|some _,none=>false)&&ar.sub eq l l'&&ar.sub eq r dJ
def ar.ET{eq:α->α->Bool}(he:∀x y,eq x y=true->x=y):∀(a b:ar α),ar.sub eq a b=true->∀n x,a.get n=some x->b.get n=some x
 |.nil,_,_,n,x,h=>by simp at h
 |.node l v r,.nil,ai,n,x,h=>by
  simp only[ar.sub,b3]at ai;exfalso;cases n with
  |zero=>rw[ar.xy]at h;rw[h]at ai;simp at ai
  |succ m=>
   rw[ar.p1]at h;split at h
   ·have:=ar.ET he l .nil ai.1.2 _ x h;simp at this
   ·have:=ar.ET he r .nil ai.2 _ x h;simp at this
 |.node l v r,.node l' v' dJ,ai,n,x,h=>by
  simp only[ar.sub,b3]at ai;cases n with
  |zero=>
   rw[ar.xy]at h⊢;subst h;cases v' with
   |none=>simp at ai
   |some y=>rw[he x y ai.1.1]
  |succ m=>
   rw[ar.p1]at h⊢;split at h
   ·rw[zab (by assumption)];exact ar.ET he l l' ai.1.2 _ x h
   ·rw[zaa (by assumption)];exact ar.ET he r dJ ai.2 _ x h
def zL:ac d8->ac d8->Bool
 |[],[]=>true
 |e::es,f::bG=>dC e.key f.key&&dC e.val f.val&&Nat.beq e.born f.born&&zL es bG
 |_,_=>false
theorem R5:∀(es bG:ac d8),zL es bG=true->es=bG
 |[],[],_=>rfl
 |e::es,f::bG,h=>by
  simp only[zL,b3]at h;obtain⟨⟨⟨J,U⟩,af⟩,ax⟩:=h;cases e;cases f;rw[R5 es bG ax];simp only at J U af;rw[ng _ _ J,ng _ _ U,eL af]
 |[],_::_,h=>by simp[zL]at h
 |_::_,[],h=>by simp[zL]at h
def Fz:bH->bH->Bool
 |.map es c,.map agy b6=>Nat.beq c b6&&zL es agy
 |.cells cs e bd a3,.cells cs' cy eP CQ=>Nat.beq e cy&&Nat.beq bd.1 eP.1&&Nat.beq bd.2 eP.2&&(a3==CQ)&&lo cs cs'
 |.iJ none,.iJ none=>true
 |.iJ (some []),.iJ (some [])=>true
 |.dead,.dead=>true
 |_,_=>false
def adv(x y:bH)(h:Fz x y=true):x=y:=by
 unfold Fz at h;split at h
 ·rw[b3]at h;rw[eL h.1,R5 _ _ h.2]
 ·simp only[b3]at h;obtain⟨⟨⟨⟨J,U⟩,af⟩,ax⟩,a0⟩:=h;rename_i bd _ _ _ eP _;have aw:bd=eP:=Prod.ext (eL U) (eL af);rw[eL J,aw,yZ _ _ a0,zcs ax]
 ·rfl
 ·rfl
 ·rfl
 ·cases h
def ay.le(s t:ay):Prop:=s.al=t.al∧∀n o,s.h.get n=some o->t.h.get n=some o
variable{s t:ay}
def ay.HL(s t:ay):Bool:=Nat.beq s.al t.al&&ar.sub Fz s.h t.h
def ay.ans(h:ay.HL s t=true):ay.le s t:=by
 unfold ay.HL at h;rw[b3]at h;exact⟨eL h.1,ar.ET adv _ _ h.2⟩
def bx.less{X:Ctx}{ι:bC}{w:co}(hl:ay.le s t)(h:bx X ι t w):bx X ι s w:=by
 refine⟨fun id o ao aq=>h.eD id o (hl.2 _ _ ao) aq,fun i j o p l m hi hB hj hN=>h.inj i j o p l m (hl.2 _ _ hi) hB (hl.2 _ _ hj) hN,fun id om=> ?_,h.gP,h.me,?_,fun i l o cn ai ao aq=>h.my i l o cn ai (hl.2 _ _ ao) aq⟩
 ·have:=h.fresh id (by rw[<-hl.1];exact om);refine⟨this.1,?_⟩;cases e:s.h.get id with
  |none=>rfl
  |some o=>rw[hl.2 _ _ e]at this;cases this.2
 ·rw[hl.1];exact h.p2
structure Row where
 as:ac be
 st:ay
 v:be
 st':ay
def Row.WE(r:Row)(as:ac be)(st:ay):Bool:=Nat.beq r.st.al st.al&&lo r.as as&&ar.sub Fz r.st.h st.h
variable{X:Ctx}
def fT(X:Ctx)(f:ci)(r:Row):Prop:=
 ∀(ι:bC) (as':ac be) (w:co),bM ι r.as as'->bx X ι r.st w->
  (∀as w,(callFunc f as).run X.P w= .ok (.enter f as) w)∧
  ∀(K:CallKind) (bA:Bool->ac Frame),kF ⟨f,K,none⟩ none ι bA->jz X ι w ⟨f,K,none⟩ bA (lone (Frame.enter X.P f as'.toArray K) (bA false) w) (.ret r.v r.st' false)
variable{v:be}{st':ay}
def eM(r:dM)(v:be)(st':ay):Bool:=
 dM.rec (motive:=fun _=>Bool) (fun v1 cl eE=>cond eE false (cond (dC v v1) (ay.HL st' cl) false)) (fun _ _ _=>false) false r
def jz.less{ι:bC}{w:co}{b:dL}{bA:Bool->ac Frame}{s:Machine}{st:ay}{eE:Bool}(hl:ay.le st' st)(h:jz X ι w b bA s (.ret v st eE)):jz X ι w b bA s (.ret v st' eE):=by
 obtain⟨aU,v',w',F,J,U,af,ax,a0,ck,dx⟩:=h;exact⟨aU,v',w',F,J,bx.less hl U,af,ax,a0,ck,dx⟩
def aer{r:dM}(h:eM r v st'=true):∃cl,r= .ret v cl false∧ay.le st' cl:=by
 cases r with
 |no=>cases h
 |bk a b c=>cases h
 |ret v1 cl eE=>
  cases eE with
  |true=>cases h
  |false=>
   have aB:cond (dC v v1) (ay.HL st' cl) false=true:=h;cases aI:dC v v1 with
   |false=>rw[aI]at aB;cases aB
   |true=>
    rw[aI]at aB;exact⟨cl,by rw[ng _ _ aI],ay.ans aB⟩
def aaX{bB:ar dv}{gg:n2}(dE:Good X)(iQ:n4 X bB)(sj:u6 X gg){n:Nat}{f:ci}{r:Row}
 (h:eM (dc bB gg n (.func (.func f) #[] #[]) r.as none r.st) r.v r.st'=true):fT X f r:=by
 obtain⟨cl,he,hl⟩:=aer h;intro ι as' w aY hw;have ai:=(K2 dE iQ sj n).1 ι f #[] #[] r.as none r.st #[] #[] as' w (bM.nil ι) aY (bM.nil ι) hw (by rw[he];intro e;cases e);refine⟨ai.1,fun K bA hr=> ?_⟩;have ae:=ai.2 K bA hr;rw[he]at ae;have e:(#[]++as'.toArray++ #[]:ap be)=as'.toArray:=by simp
 rw[e]at ae;exact jz.less hl ae
end Go.ak
namespace Go.ak
variable{X:Ctx}
