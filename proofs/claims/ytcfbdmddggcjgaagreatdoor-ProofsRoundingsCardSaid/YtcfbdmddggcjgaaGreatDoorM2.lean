/- An abstract machine, and that its evaluations stand for runs of the model (part 2); no condition. -/
import Derived.Laws.StructEq
import Derived.Recover
import Derived.Orders
import Derived.Defers
import Derived.RangeFuncLeaves
import Derived.RangeFuncRecord
import Derived.Test.YtcfbdmddggcjgaaGreatDoorM1
noncomputable section
set_option linter.all false
namespace Go.az
variable{X:Ctx}
section
variable{ι:bq}{fr aE:aQ}{a:Act}{ay:Nat}{st st':aw}{w:World}{o:Oper}{v:Value}{call:bP}
theorem al6{fb:TypeId}{dq:fz}(eZ:X.keys fb=some dq){k:Value}(ae:dq.ok k=true)(w:World):(Instr.keyThatStays k k).run X.P w= .ok k w:=by
 obtain⟨K,bM⟩:=X.qt fb dq eZ;obtain⟨Je,uX⟩:=bM k ae;exact K.stays w uX
theorem toList_modify(C:Array MapEntry)(j:Nat)(f:MapEntry->MapEntry){c:MapEntry}(h:C.toList[j]? =some c):(C.modify j f).toList=C.toList.set j (f c):=by
 obtain⟨hj,hc⟩:=List.getElem?_eq_some_iff.1 h;apply List.ext_getElem
 ·simp
 ·intro i J U;rw[List.getElem_set];simp only[Array.getElem_toList,Array.getElem_modify];by_cases e:j=i
  ·subst e;simp only[if_true];rw[<-hc];rfl
  ·rw[if_neg e,if_neg e]
theorem fz.pure{ι:bq}{dq:fz}{v v':Value}(h:dq.ok v=true)(aF:bs ι v v'):bs ι v v:=by
 have:=fz.same h aF;rw[this]at aF;exact aF
theorem SP{dq:fz}{m k x:Operand}{t fb iO:TypeId}(hm:cO X.aB m=true)(ae:cO X.aB k=true)(aa:cO X.aB x=true)(ao:o.op= .mapUpdate t m k x∨o.op= .insert t m k x)(hu:X.P.underlying t=some (.map fb iO))
 (eZ:X.keys fb=some dq) (af:cE ι fr a ay) (hw:bp X ι st w) (h:ov fr st (.dQ dq m k x)= .ok v aE st'):aE=fr∧jQ X ι w v st' (execOp a.eval o):=by
 obtain⟨hx,h⟩:=hU h (by simp);obtain⟨r,aF,h⟩:=BW h (by simp);obtain⟨id,rfl,h⟩:=fC h (by simp);obtain⟨es,c,aZ,h⟩:=vw h (by simp);obtain⟨uU,h⟩:=hU h (by simp);have DJ:=af.an hw ae;have s0:a.eval k=fr.an k:=fz.same hx DJ;have ju:=af.an hw hm;have da:=af.an hw aa;rw[aF]at ju;generalize m5:a.eval m=na at ju;obtain⟨l,hl,h0,jo,C,bE,hC,c9⟩:=hw.eu _ _ aZ (by simp);cases ju with
 |map _ b bW hb=>
  rw[hl]at hb;cases hb;have hC:w.heap[b]? =some (.map C bE):=hC;have c9:h7 ι bW es c C.toList bE:=c9;have hex:∀w',(Instr.mapUpdate t (.map (some b)) (fr.an k) (a.eval x)).run X.P w= .ok () w'->(execOp a.eval o).run X.P w= .ok .skip w':=by
   intro w' fw;unfold execOp;rcases ao with ao|ao<;>(rw[ao];simp only[m5,s0];simp[fw,Result.andThen])
  rcases c9.find (X:=X) eZ hx uU w with⟨J,U,_⟩|⟨e,j,p7,J,U,ah,aC,a5,ch,cV,fG⟩
  ·rw[U]at h;have h:st.gN id (.map (es++[⟨fr.an k,fr.an x,c⟩]) (Nat.succ c)) (fun st=>aY.ok undef fr st)= .ok v aE st':=h;rw[jy]at h;cases h;have fw:(Instr.mapUpdate t (.map (some b)) (fr.an k) (a.eval x)).run X.P w= .ok () {w with heap:=w.heap.setIfInBounds b (.map (C.push {key:=fr.an k,val:=a.eval x,born:=bE}) (bE+1))}:=by
    simp only[Instr.mapUpdate,Sem.run_bind,run_underlying hu,Result.andThen,MapKept.run_getObj_map hC,uo eZ hx,J,MapKept.run_setObj_map _ hC]
   obtain⟨bg,bK⟩:=bp.sg X hw aZ (by simp) (fun af=>af) hl (.map (es++[⟨fr.an k,fr.an x,c⟩]) (Nat.succ c)) (.map (C.push {key:=fr.an k,val:=a.eval x,born:=bE}) (bE+1)) {w with heap:=w.heap.setIfInBounds b (.map (C.push {key:=fr.an k,val:=a.eval x,born:=bE}) (bE+1))} rfl
    (fun _ aX=>⟨rfl,rfl,_,_,aX,by
     have:=c9.push (fz.pure hx DJ) U da;simpa using this⟩)
   exact⟨rfl,ι,.skip,_,hex _ fw,.inr ⟨rfl,rfl⟩,bg,bK⟩
  ·rw[aC]at h;have h:st.gN id (.map (xS (fr.an k) (fr.an x) es) c) (fun st=>aY.ok undef fr st)= .ok v aE st':=h;rw[jy]at h;cases h;have hj:C[j]? =some p7:=by rw[<-Array.getElem?_toList];exact U
   have fw:(Instr.mapUpdate t (.map (some b)) (fr.an k) (a.eval x)).run X.P w= .ok () {w with heap:=w.heap.setIfInBounds b (.map (C.modify j fun e=>{e with key:=fr.an k,val:=a.eval x}) bE)}:=by
    simp only[Instr.mapUpdate,Sem.run_bind,run_underlying hu,Result.andThen,MapKept.run_getObj_map hC,uo eZ hx,J,MapKept.run_setObj_map _ hC,hj,Option.map_some,Option.getD_some,ah,al6 eZ hx]
   obtain⟨bg,bK⟩:=bp.sg X hw aZ (by simp) (fun af=>af) hl (.map (xS (fr.an k) (fr.an x) es) c) (.map (C.modify j fun e=>{e with key:=fr.an k,val:=a.eval x}) bE) {w with heap:=w.heap.setIfInBounds b (.map (C.modify j fun e=>{e with key:=fr.an k,val:=a.eval x}) bE)} rfl
    (fun _ aX=>⟨rfl,rfl,_,_,aX,by
     rw[toList_modify C j _ U];exact c9.put uU U ah da⟩)
   exact⟨rfl,ι,.skip,_,hex _ fw,.inr ⟨rfl,rfl⟩,bg,bK⟩
theorem ak5{dq:fz}{m k:Operand}{t u fb iO:TypeId}(hm:cO X.aB m=true)(ae:cO X.aB k=true)(ao:o.op= .call {callee:=.builtin .delete,args:= #[m,k],argTypes:= #[t,u]})(hu:X.P.underlying t=some (.map fb iO))
 (eZ:X.keys fb=some dq) (af:cE ι fr a ay) (hw:bp X ι st w) (h:ov fr st (.del dq m k)= .ok v aE st'):aE=fr∧jQ X ι w v st' (execOp a.eval o):=by
 obtain⟨hx,h⟩:=hU h (by simp);obtain⟨r,aF,h⟩:=BW h (by simp);obtain⟨id,rfl,h⟩:=fC h (by simp);obtain⟨es,c,aZ,h⟩:=vw h (by simp);obtain⟨uU,h⟩:=hU h (by simp);rw[jy]at h;cases h;have DJ:=af.an hw ae;have s0:a.eval k=fr.an k:=fz.same hx DJ;have ju:=af.an hw hm;rw[aF]at ju;generalize m5:a.eval m=na at ju;obtain⟨l,hl,h0,jo,C,bE,hC,c9⟩:=hw.eu _ _ aZ (by simp);cases ju with
 |map _ b bW hb=>
  rw[hl]at hb;cases hb;have hC:w.heap[b]? =some (.map C bE):=hC;have c9:h7 ι bW es c C.toList bE:=c9;rcases c9.find (X:=X) eZ hx uU w with⟨J,U,_⟩|⟨e,j,p7,J,U,ah,aC,a5,ch,cV,fG⟩
  ·have mx:xR (fr.an k) es=es:=by
    unfold xR;rw[List.filter_eq_self];intro e he;have:=Ep U e he;cases aD:dI (fr.an k) e.key
    ·rfl
    ·exact absurd (lM _ _ aD).symm this
   obtain⟨bg,bK⟩:=bp.sg X hw aZ (by simp) (fun af=>af) hl (.map (xR (fr.an k) es) c) (.map C bE) {w with heap:=w.heap.setIfInBounds b (.map C bE)} rfl (fun _ aX=>⟨rfl,rfl,_,_,aX,by rw[mx];exact c9⟩);refine⟨rfl,ι,.value (.tuple #[]),_,?_,.inl ⟨_,rfl,bs.nf (bF.nil ι)⟩,bg,bK⟩;unfold execOp;rw[ao];simp[resolve,invoke,builtin,m5,s0,Builtin.delete_,run_underlying hu,Result.andThen,MapKept.run_getObj_map hC,uo eZ hx,J,MapKept.run_setObj_map _ hC]
  ·obtain⟨bg,bK⟩:=bp.sg X hw aZ (by simp) (fun af=>af) hl (.map (xR (fr.an k) es) c) (.map (C.eraseIdxIfInBounds j) bE) {w with heap:=w.heap.setIfInBounds b (.map (C.eraseIdxIfInBounds j) bE)} rfl (fun _ aX=>⟨rfl,rfl,_,_,aX,by
    have:=c9.del uU U ah;rw[Array.toList_eraseIdxIfInBounds];exact this⟩)
   refine⟨rfl,ι,.value (.tuple #[]),_,?_,.inl ⟨_,rfl,bs.nf (bF.nil ι)⟩,bg,bK⟩;unfold execOp;rw[ao];simp[resolve,invoke,builtin,m5,s0,Builtin.delete_,run_underlying hu,Result.andThen,MapKept.run_getObj_map hC,uo eZ hx,J,MapKept.run_setObj_map _ hC]
theorem alv{m:Operand}{t fb iO:TypeId}(hm:cO X.aB m=true)(ao:o.op= .range t m)(hu:X.P.underlying t=some (.map fb iO))(af:cE ι fr a ay)(hw:bp X ι st w)
 (h:ov fr st (.rU m)= .ok v aE st'):aE=fr∧jQ X ι w v st' (execOp a.eval o):=by
 obtain⟨r,aF,h⟩:=BW h (by simp);have ju:=af.an hw hm;rw[aF]at ju;generalize m5:a.eval m=na at ju;cases r with
 |none=>
  cases ju;have h:st.iS (.oU none 0 [] 0) (fun id st=>aY.ok (.pointer (some ⟨id,0,none⟩)) fr st)= .ok v aE st':=h;rw[gF]at h;cases h;obtain⟨aM,bg,bK,ep,kY⟩:=bp.alloc X hw (.oU none 0 [] 0) (.mapIter none 0 #[] 0) 0 (fun aM w' _ _ aX=>⟨rfl,rfl,_,_,_,_,aX,.inl ⟨rfl,rfl⟩⟩) {w with heap:=w.heap.push (.mapIter none 0 #[] 0)} rfl;refine⟨rfl,aM,.value (.pointer (some ⟨w.heap.size,0,none⟩)),_,?_,.inl ⟨_,rfl,?_⟩,bg,bK⟩
  ·unfold execOp;rw[ao];simp[m5,Instr.range,run_underlying hu,Result.andThen]
  ·exact bs.ptr ⟨st.aj,0,none⟩ _ ep rfl
 |some id=>
  have h:nS (st.h.get id) (fun _ clock=>st.iS (.oU (some id) clock [] clock) fun id st=>aY.ok (.pointer (some ⟨id,0,none⟩)) fr st) .no= .ok v aE st':=h;obtain⟨es,c,aZ,h⟩:=vw h (by simp);rw[gF]at h;cases h;obtain⟨l,hl,h0,jo,C,bE,hC,c9⟩:=hw.eu _ _ aZ (by simp);cases ju with
  |map _ b bW hb=>
   rw[hl]at hb;cases hb;have hC:w.heap[b]? =some (.map C bE):=hC;have c9:h7 ι bW es c C.toList bE:=c9;obtain⟨aM,bg,bK,ep,kY⟩:=bp.alloc X hw (.oU (some id) c [] c) (.mapIter (some b) bE #[] bE) 0
    (fun aM w' hle _ aX=>⟨rfl,rfl,_,_,_,_,aX,.inr ⟨id,b,bW,rfl,rfl,hle _ _ hl,c9.iL,rfl,c9.iL⟩⟩) {w with heap:=w.heap.push (.mapIter (some b) bE #[] bE)} rfl
   refine⟨rfl,aM,.value (.pointer (some ⟨w.heap.size,0,none⟩)),_,?_,.inl ⟨_,rfl,?_⟩,bg,bK⟩
   ·unfold execOp;rw[ao];simp[m5,Instr.range,run_underlying hu,Result.andThen,MapKept.run_getObj_map hC]
   ·exact bs.ptr ⟨st.aj,0,none⟩ _ ep rfl
theorem h7.al5{ι:bq}{bW:Nat->Nat}{es:List MapEntry}{clock:Nat}{C:List MapEntry}{jC:Nat}(h:h7 ι bW es clock C jC){s:Nat}(ak:s<clock){e:MapEntry}(he:es.find? (fun e=>Nat.beq e.born s)=some e):
 ∃c,C.find? (fun c=>c.born==bW s)=some c∧bs ι e.key c.key∧bs ι e.val c.val:=by
 obtain⟨l,hp,hlen,hl⟩:=h.same;have hq:=List.find?_some he;have hb:e.born=s:=dY hq;have hm:=List.mem_of_find?_eq_some he;obtain⟨i,ag,fI⟩:=List.getElem_of_mem (hp.mem_iff.2 hm);have dS:i<C.length:=by omega
 cases af:C.find? (fun c=>c.born==bW s)with
 |none=>
  exfalso;have:=List.find?_eq_none.1 af C[i] (ew dS);have ah:=(hl i ag dS).2.2;rw[fI,hb]at ah;rw[ah]at this;simp at this
 |some c=>
  have OA:c.born=bW s:=by simpa using List.find?_some af
  obtain⟨k,ae,OP⟩:=List.getElem_of_mem (List.mem_of_find?_eq_some af);have fJ:k<l.length:=by omega
  have ah:=hl k fJ ae;have aC:l[k].born<clock:=h.born _ (hp.mem_iff.1 (ew fJ));have a5:bW l[k].born=bW s:=by rw[<-ah.2.2,OP,OA]
  have ch:=h.n2.inj _ _ aC ak a5;have oI:l.Pairwise (fun a b=>a.born≠b.born):=(hp.symm.pairwise_iff (R:=fun a b:MapEntry=>a.born≠b.born) (fun{a b} h=>h.symm)).1 h.sE;have aa2:i=k:=by
   rcases Nat.lt_trichotomy i k with g|g|g
   ·exact absurd (by rw[fI,hb,ch]) (List.pairwise_iff_getElem.1 oI i k ag fJ g)
   ·exact g
   ·exact absurd (by rw[fI,hb,ch]) (List.pairwise_iff_getElem.1 oI k i fJ ag g)
  subst aa2;rw[fI,OP]at ah;exact⟨c,rfl,ah.1,ah.2.1⟩
theorem KO{P:Program}{w:World}{r:Nat}{m:Option Nat}{a:Nat}{s:Array Nat}{b:Nat}(hb:w.heap[r]? =some (.mapIter m a s b)):(getObj r).run P w= .ok (.mapIter m a s b) w:=by
 simp[getObj,Sem.run,hb]
theorem ako{P:Program}{w:World}{r:Nat}{m:Option Nat}{a:Nat}{s:Array Nat}{b:Nat}(o:Obj)(hb:w.heap[r]? =some (.mapIter m a s b)):(setObj r o).run P w= .ok () {w with heap:=w.heap.setIfInBounds r o}:=by
 simp[setObj,Sem.run,hb]
theorem alo{i:Operand}(ag:cO X.aB i=true)(ao:o.op= .entry i)(af:cE ι fr a ay)(hw:bp X ι st w)
 (h:ov fr st (.qz i)= .ok v aE st'):aE=fr∧cv X ι w v st st' (execOp a.eval o):=by
 obtain⟨p,hp,aW⟩:=n6 h (by simp);obtain⟨ad,Iu,a0⟩:=fC aW (by simp);obtain⟨ak,bx⟩:=x2 a0 (fun _=>by simp);obtain⟨h0,cK⟩:=jD bx (by simp);obtain⟨m,since,seen,l9,aZ,dn⟩:=Py cK (by simp);obtain⟨id,abb,eR⟩:=fC dn (by simp);obtain⟨s,kW,g9⟩:=fC eR (by simp);obtain⟨es,clock,oB,nE⟩:=vw g9 (by simp);obtain⟨J,rm⟩:=jD nE (by simp);obtain⟨U,rl⟩:=iC rm (by simp);obtain⟨e,he,zU⟩:=fC rl (by simp);clear h aW a0 bx cK dn eR g9 nE rm rl;subst Iu abb;cases zU;have my:=af.an hw ag;rw[hp]at my;generalize js:a.eval i=kZ at my;obtain⟨l,hl,j2,gi,fL,BL,k6,xK,cq,Du⟩:=hw.eu _ _ aZ (by simp);rcases Du with⟨hh,_⟩|⟨r,b,bW,aG,e2,cw,gz,pj,YI⟩
 ·cases hh
 ·cases aG;subst e2;obtain⟨lm,DM,xO,e0,C,bE,hC,c9⟩:=hw.eu _ _ oB (by simp);rw[DM]at cw;cases cw;have hC:w.heap[b]? =some (.map C bE):=hC;have c9:h7 ι bW es clock C.toList bE:=c9;cases my with
  |ptr _ l' cy e9=>
   rw[hl]at cy;cases cy;obtain⟨c,m4,jr,HV⟩:=c9.al5 U he;have rr:k6.back?=some (bW s):=by
    have:k6.back?=k6.toList.getLast?:=by simp
    rw[this,pj,List.getLast?_map];rw[show seen.getLast?=some s from kW];rfl
   have sU:bE=xK:=by rw[c9.iL,YI,J]
   have sW:C.find? (fun x=>x.born==bW s)=some c:=by rw[<-Array.find?_toList];exact m4
   refine⟨rfl,cv.same (v':=.tuple #[c.key,c.val]) hw ?_ (bs.nf (bF.cons jr (bF.cons HV (bF.nil ι))))⟩;unfold execOp;rw[ao];have hz:l.cW+ad.off=0:=by rw[j2,h0]
   simp only[js,hz,Instr.entry,Sem.run_bind,KO cq,Result.andThen,rr,Sem.run_pure,MapKept.run_getObj_map hC];simp[sU,sW]
theorem ak0{f:FuncId}{x y:Operand}{ts:Array TypeId}(aa:cO X.aB x=true)(aJ:cO X.aB y=true)(eD:X.nv f=true)(ao:o.op= .call {callee:=.value (.func f),args:= #[x,y],argTypes:=ts})(af:cE ι fr a ay)(hw:bp X ι st w)
 (h:ov fr st (.bw x y)= .ok v aE st'):aE=fr∧cv X ι w v st st' (execOp a.eval o):=by
 obtain⟨s,ak,aW⟩:=n7 h (by simp);obtain⟨k,p7,hc,a0⟩:=iF aW (by simp);obtain⟨ae,bx⟩:=hU a0 (by simp);obtain⟨c,aG,cK⟩:=lB bx (by simp);have fJ:=rP ae;clear h aW a0 bx;subst aG fJ;have da:=af.an hw aa;rw[ak]at da;generalize cM:a.eval x=fo at da;have fm:=af.an hw aJ;rw[hc]at fm;generalize fK:a.eval y=o8 at fm;cases da;cases fm;cases cK;refine⟨rfl,cv.same (v':=.int .i64 (.ofNat (s.data.toList.countP (fun b=>b==UInt8.ofNat c)))) hw ?_ (.int _ _)⟩;rw[C6 ao];have:=X.zw f eD s (c:Int) w;simp only[List.map_toArray,List.map_cons,List.map_nil,cM,fK];rw[this];rfl
theorem ak6{neg:Bool}{n:Nat}{x y:Operand}{t u:TypeId}(aa:cO X.aB x=true)(aJ:cO X.aB y=true)(jq:X.eqs t=some n)(ao:o.op= .binOp (if neg then .neq else .eql) t x y u)(af:cE ι fr a ay)(hw:bp X ι st w)
 (h:ov fr st (.zK neg n x y)= .ok v aE st'):aE=fr∧cv X ι w v st st' (execOp a.eval o):=by
 obtain⟨xs,vf,h⟩:=wg h (by simp);obtain⟨av,tb,h⟩:=wg h (by simp);obtain⟨J,h⟩:=jD h (by simp);obtain⟨U,h⟩:=jD h (by simp);obtain⟨b,hb,h⟩:=fC h (by simp);cases h;rw[fx]at J U;have plain:∀(l m:List Value) (b:Bool),ou l m=some b->∀(i:Nat) (ag:i<l.length) (hj:i<m.length) (u v:Value),(bs ι l[i] u->u=l[i])∧(bs ι m[i] v->v=m[i]):=by
  intro l
  induction l with
  |nil=>intro m b _ i ag;simp at ag
  |cons p ps bb=>
   intro m b hb i ag hj u v;cases m with
   |nil=>simp at hj
   |cons q dj=>
    unfold ou at hb;obtain⟨dz,hv,nK⟩:=fC (z:=none) (r:=some b) hb (by simp);cases i with
    |zero=>
     simp only[List.getElem_cons_zero];unfold C2 at hv;split at hv<;>first|(cases hv;done)|exact⟨fun aF=>by cases aF;rfl,fun aF=>by cases aF;rfl⟩
    |succ i=>
     simp only[List.getElem_cons_succ];have:∃fF,ou ps dj=some fF:=by
      cases dz
      ·obtain⟨fF,cX,_⟩:=fC (z:=none) (r:=some b) nK (by simp);exact⟨fF,cX⟩
      ·exact⟨b,nK⟩
     obtain⟨fF,cX⟩:=this;exact bb dj fF cX i (by simpa using ag) (by simpa using hj) u v
 have hK:=plain _ _ _ hb;have da:=af.an hw aa;rw[vf]at da;generalize cM:a.eval x=fo at da;have fm:=af.an hw aJ;rw[tb]at fm;generalize fK:a.eval y=o8 at fm;cases da with
 |agg _ sl gZ hG=>
  cases fm with
  |agg _ im dz eH=>
   have ab9:sl=xs:=by
    apply Array.ext
    ·exact gZ.symm
    ·intro i c d;have:=(hK i (by simpa using d) (by simp;simp at J U;omega) sl[i] sl[i]).1 (by simpa using hG i d c);simpa using this
   have acd:im=av:=by
    apply Array.ext
    ·exact dz.symm
    ·intro i c d;have:=(hK i (by simp;simp at J U;omega) (by simpa using d) im[i] im[i]).2 (by simpa using eH i d c);simpa using this
   subst ab9 acd;obtain⟨OI,heq⟩:=X.uF t n jq;have hq:=heq sl im b w (by simpa using J) (by simpa using U) hb;refine⟨rfl,cv.same (v':=.bool (cond neg (!b) b)) hw ?_ (.bool _)⟩;unfold execOp;rw[ao];cases neg
   ·simp only[cM,fK,Bool.false_eq_true,if_false];have aZ:(eqGuard .eql t x y (.agg sl) (.agg im)).run X.P w= .ok () w:=by
     simp[eqGuard,program,Sem.run,OI]
    simp[aZ,run_eql_struct,hq,Result.andThen]
   ·simp only[cM,fK,if_true];have aZ:(eqGuard .neq t x y (.agg sl) (.agg im)).run X.P w= .ok () w:=by
     simp[eqGuard,program,Sem.run,OI]
    simp[aZ,run_neq_struct,hq,Result.andThen]
end
theorem bs.Bc{ι:bq}{c:Nat}{y:Value}(h:bs ι (.chan (some c)) y)(hc:c≠0):∃m,y= .int .i64 m∧Lf c m:=by
 generalize aD:Value.chan (some c)=v at h;cases h with
 |sh bE m h=>cases aD;exact⟨m,rfl,h⟩
 |top _=>unfold jf at aD;cases aD;exact absurd rfl hc
 |_=>cases aD
theorem Nd{ι:bq}{n:Nat}{v y:Value}{b:Bool}(h:zv n v=some b)(aF:bs ι v y):∃m:Int,y= .int .i64 m∧b=decide ((n:Int)<=m):=by
 unfold zv at h;split at h
 ·rename_i c;split at h
  ·rename_i U;split at h
   ·rename_i ah;cases h;obtain⟨m,rfl,hu⟩:=aF.Bc (by omega);refine⟨m,rfl,?_⟩;have:(n:Int)<=m:=by
     rcases hu with hu|⟨k,ae,hm⟩|⟨k,ae,hm⟩<;>omega
    simp[this]
   ·cases h
  ·rename_i U;split at h
   ·rename_i ah;cases h;obtain⟨m,rfl,hu⟩:=aF.Bc (by omega);refine⟨m,rfl,?_⟩;have:¬(n:Int)<=m:=by
     rcases hu with hu|⟨k,ae,hm⟩|⟨k,ae,hm⟩<;>omega
    simp[this]
   ·cases h
 ·cases h
section
variable{ι:bq}{fr aE:aQ}{a:Act}{ay:Nat}{st st':aw}{w:World}{o:Oper}{v:Value}{call:bP}
theorem akZ{gt:Bool}{x y:Operand}{t u:TypeId}(aa:cO X.aB x=true)(aJ:cO X.aB y=true)(ao:o.op= .binOp (if gt then .gtr else .leq) t x y u)(af:cE ι fr a ay)(hw:bp X ι st w)
 (h:ov fr st (.ur gt x y)= .ok v aE st'):aE=fr∧cv X ι w v st st' (execOp a.eval o):=by
 obtain⟨k,mH,vf,J⟩:=iF h (by simp);obtain⟨ae,U⟩:=hU J (by simp);obtain⟨n,hn,ah⟩:=lB U (by simp);obtain⟨b,hb,aC⟩:=fC ah (by simp);have fJ:=rP ae;subst fJ hn;cases aC;have da:=af.an hw aa;rw[vf]at da;generalize cM:a.eval x=fo at da;cases da;obtain⟨m,fK,xi⟩:=Nd hb (af.an hw aJ);refine⟨rfl,cv.same (v':=.bool (cond gt (!b) b)) hw ?_ (.bool _)⟩;unfold execOp;rw[ao,xi];cases gt
 ·simp[cM,fK,eqGuard,binOp,Op.intCmp]
 ·simp only[cM,fK,if_true];have:(!decide ((n:Int)<=m))=decide (m<(n:Int)):=by rw[Bool.eq_iff_iff];simp
  simp[eqGuard,binOp,Op.intCmp,this]
theorem alf{f:FuncId}{x y:Operand}{ts:Array TypeId}(aa:cO X.aB x=true)(aJ:cO X.aB y=true)(eD:X.nO f=true)(ao:o.op= .call {callee:=.value (.func f),args:= #[x,y],argTypes:=ts})(af:cE ι fr a ay)(hw:bp X ι st w)
 (h:ov fr st (.idxs X.l4 x y)= .ok v aE st'):aE=fr∧cv X ι w v st st' (execOp a.eval o):=by
 obtain⟨s,ak,aW⟩:=n7 h (by simp);obtain⟨b,hb,a0⟩:=n7 aW (by simp);unfold zr at a0;obtain⟨ez,rC,bx⟩:=fC a0 (by simp);cases ez with
 |cells cs el bt aR=>
  have cK:cond aR aY.no (one cs (fun c=>cond (IN (ef b.data.toList) c) (ey 2 (ef b.data.toList) (ey (ef s.data.toList) 1000000
   (.ok (.int .i64 (bo (nj b.data.toList s.data.toList) (fun i=>.ofNat i) (.negSucc 0))) fr st) .no) .no) .no) .no)= .ok v aE st':=bx
  obtain⟨xn,dn⟩:=xX cK (by simp);obtain⟨c,hc,eR⟩:=yb dn (by simp);obtain⟨ag,g9⟩:=hU eR (by simp);obtain⟨U,nE⟩:=iC g9 (by simp);obtain⟨ah,rm⟩:=iC nE (by simp);rw[fx]at ag U ah;cases rm;have da:=af.an hw aa;rw[ak]at da;generalize cM:a.eval x=fo at da;have fm:=af.an hw aJ;rw[hb]at fm;generalize fK:a.eval y=o8 at fm;cases da;cases fm;obtain⟨l,hl,C,er,hC⟩:=hw.eu _ _ rC (by simp);rw[hw.kL _ X.A1]at hl;cases hl;subst hc;obtain⟨bE,m4,jr⟩:=hC.cell 0 (by simp);have aaD:zv b.data.toList.length c=some true:=by
   unfold IN at ag;split at ag
   ·assumption
   ·cases ag
  obtain⟨m,rfl,xi⟩:=Nd aaD jr;have hle:((b.data.toList.length:Nat):Int)<=m:=by simpa using xi.symm
  have aa7:(load ⟨X.l4,0,none⟩).run X.P w= .ok (.int .i64 m) w:=by
   have HV:C[0]? =some (.int .i64 m):=by simpa using m4
   rw[run_load,cell_of hC.there];simp[HV]
  refine⟨rfl,cv.same (v':=.int .i64 (bo (nj b.data.toList s.data.toList) (fun i=>.ofNat i) (.negSucc 0))) hw ?_ (.int _ _)⟩;rw[C6 ao];have:=X.AN f eD s b m w aa7 (by simpa using U) (by simpa using hle) (by simpa using ah);simp only[List.map_toArray,List.map_cons,List.map_nil,cM,fK];rw[this];cases nj b.data.toList s.data.toList<;>rfl
 |_=>cases bx
end
def dH.inPlace:dH->Bool
 |.call _ _|.tJ|.qb _ _|.nX _=>false
 |_=>true
def Ctx.jv(X:Ctx)(op:Op)(x:dH):Bool:=anb X.P X.aB X.j5 X.kq X.keys X.nv X.eqs X.nO X.l4 op x
theorem lL{P:Program}{t:TypeId}{n:Nat}(h:gb P t=some n):∃i,P.info? t=some i∧i.size=n:=by
 unfold gb at h;exact Option.map_eq_some_iff.1 h
theorem B2{P:Program}{t:TypeId}{v:Value}(h:p1 P t=some v):∃i,P.info? t=some i∧i.zero=some v:=by
 unfold p1 at h;exact Option.bind_eq_some_iff.1 h
theorem y8{P:Program}{t:TypeId}{g:Bool}(h:ob P t=some g):∃d,P.underlying t=some d∧pe d=g:=by
 unfold ob at h;exact Option.map_eq_some_iff.1 h
theorem eO{a b:Nat}(h:Nat.beq a b=true):a=b:=dY h
theorem Ew{a:Nat}(h:(!Nat.beq a 0)=true):a≠0:=by intro e;subst e;simp at h
def ue.qs:ue->Bool
 |.look _ _ _ _ _|.xT _|.qz _|.bw _ _|.zK _ _ _ _|.ur _ _ _|.idxs _ _ _=>true
 |_=>false
def dH.qs:dH->Bool
 |.ext y=>y.qs
 |.alloc _ _|.box _ _|.p6 _ _ _ _|.store _ _ _|.wQ _ _|.l3|.tj _ _ _ _ _|.call _ _|.xM _|.app _ _ _ _ _|.q7 _ _ _|.tJ|.qb _ _|.nX _|.tT _ _ _|.refuse=>false
 |_=>true
def dH.rN:dH->Bool
 |.alloc _ _|.box _ _|.p6 _ _ _ _|.wQ _ _|.tj _ _ _ _ _|.l3=>true
 |_=>false
def ub(X:Ctx)(x:dH)(ι:bq)(w:World)(v:Value)(st st':aw)(s:Sem Next):Prop:=
 jQ X ι w v st' s∧(x.qs=true->cv X ι w v st st' s)∧(x.rN=true->qU X ι w v st st' s)
section
variable{p:Prop}{x:dH}{ι:bq}{w:World}{v:Value}{st st':aw}{s:Sem Next}
theorem fi(h:p∧cv X ι w v st st' s)(aa:x.rN=false):p∧ub X x ι w v st st' s:=⟨h.1,h.2.KU,fun _=>h.2,fun e=>by rw[aa]at e;cases e⟩
theorem wD(h:p∧qU X ι w v st st' s)(aa:x.qs=false):p∧ub X x ι w v st st' s:=⟨h.1,h.2.KU,fun e=>(by rw[aa]at e;cases e),fun _=>h.2⟩
theorem tW(h:p∧jQ X ι w v st' s)(aa:x.qs=false)(b4:x.rN=false):p∧ub X x ι w v st st' s:=⟨h.1,h.2,fun e=>(by rw[aa]at e;cases e),fun e=>by rw[b4]at e;cases e⟩
end
def HK:dH->Bool
 |.na _|.pick _ _ _|.alloc _ _|.box _ _|.build _ _|.p6 _ _ _ _|.l1 _|.qy _ _|.store _ _ _|.tm _|.bin _ _ _|.eqv _ _ _ _|.un _ _|.l3|.refuse|.xM _=>true
 |_=>false
section
variable{ι:bq}{fr aE:aQ}{a:Act}{ay:Nat}{st st':aw}{w:World}{o:Oper}{v:Value}{call:bP}
theorem aiI{x:dH}(ae:X.jv o.op x=true)(af:cE ι fr a ay)(hw:bp X ι st w)(h:cb call x fr st= .ok v aE st')
 (aa:HK x=true):
 aE=fr∧ub X x ι w v st st' (execOp a.eval o):=by
 generalize ao:o.op=op at ae;cases x with
 |na p=>
  cases op with
  |move q=>obtain⟨rfl,U⟩:=c2 ae;exact fi (SO (call:=call) U (.inl ao) af hw h) rfl
  |assign q=>obtain⟨rfl,U⟩:=c2 ae;exact fi (SO (call:=call) U (.inr ao) af hw h) rfl
  |_=>cases ae
 |pick c p q=>
  cases op with
  |pick bE dL fq=>
   have ae:(b6 X.aB c bE&&b6 X.aB p dL&&b6 X.aB q fq)=true:=ae;simp only[b2]at ae;obtain⟨⟨J,U⟩,ah⟩:=ae;obtain⟨rfl,bg⟩:=c2 J;obtain⟨rfl,bK⟩:=c2 U;obtain⟨rfl,ep⟩:=c2 ah;exact fi (alA (call:=call) bg bK ep ao af hw h) rfl
  |_=>cases ae
 |alloc z e=>
  cases op with
  |alloc t=>
   have ae:(Nat.beq e t&&(match p1 X.P t with|some v=>kz z v.cells.toList&&lN z|none=>false))=true:=ae;rw[b2]at ae;obtain⟨J,U⟩:=ae;have aG:=eO J;subst aG;split at U
   ·rename_i wx pD;rw[b2]at U;have e2:=wj _ _ U.1;subst e2;obtain⟨i,ag,a8⟩:=B2 pD;exact wD (akP (call:=call) ao ag a8 U.2 hw h) rfl
   ·cases U
  |_=>cases ae
 |box e p=>
  cases op with
  |box t q=>
   have ae:(Nat.beq e t&&b6 X.aB p q)=true:=ae;rw[b2]at ae;have aG:=eO ae.1;subst aG;obtain⟨rfl,U⟩:=c2 ae.2;exact wD (akS (call:=call) U ao af hw h) rfl
  |_=>cases ae
 |build z ps=>
  cases op with
  |build t parts=>
   have ae:((match p1 X.P t with|some v=>kz z v.cells.toList&&lN z|none=>false)&&
    (match X.P.underlying t with
     |some (.struct fields)=>fields.toList.all (fun f=>(X.P.info? f.type).isSome)&&pK X.aB (fun j=>(fields.map fun f=>(f.offset,X.P.cellsOf f.type))[j]?) ps parts.toList
     |some (.array _ e)=>(match gb X.P e with|some s=>pK X.aB (fun j=>some (j*s,s)) ps parts.toList|none=>false)
     |_=>false))=true:=ae
   rw[b2]at ae;obtain⟨J,U⟩:=ae;split at J
   ·rename_i wx pD;rw[b2]at J;have e2:=wj _ _ J.1;subst e2;obtain⟨i,ag,a8⟩:=B2 pD;split at U
    ·rename_i fields hu;rw[b2,List.all_eq_true]at U;obtain⟨bg,bK⟩:=EU U.2;exact fi (akV (call:=call) ao hu ag a8 J.2 U.1 bg bK af hw h) rfl
    ·rename_i n e hu;split at U
     ·rename_i s ak;obtain⟨dp,fI,rfl⟩:=lL ak;obtain⟨bg,bK⟩:=EU U;exact fi (akU (call:=call) ao hu ag a8 J.2 fI (by rw[bg];simp) (fun p hp=>(bK p hp).2) af hw h) rfl
     ·cases U
    ·cases U
   ·cases J
  |_=>cases ae
 |p6 e n z ps=>
  cases op with
  |buildSlice t m parts=>
   have ae:(Nat.beq n m&&(match X.P.underlying t with
    |some (.slice el)=>Nat.beq e el&&(match gb X.P el,p1 X.P el with
     |some s,some v=>Nat.ble (m*s) (2^24)&&kz z ((List.range (m*s)).map (fun j=>(if m*s=0 then(#[]:Array Value)else v.cells)[j%(if m*s=0 then(#[]:Array Value)else v.cells).size]!))&&lN z&&
      pK X.aB (fun j=>some (j*s,s)) ps parts.toList
     |_,_=>false)
    |_=>false))=true:=ae
   rw[b2]at ae;obtain⟨J,U⟩:=ae;have aG:=eO J;subst aG;split at U
   ·rename_i el hu;rw[b2]at U;obtain⟨ah,aC⟩:=U;have e2:=eO ah;subst e2;split at aC
    ·rename_i s wx ak pD;simp only[b2]at aC;obtain⟨⟨⟨a5,ch⟩,cV⟩,fG⟩:=aC;obtain⟨dp,fI,rfl⟩:=lL ak;obtain⟨an8,ON,a8⟩:=B2 pD;rw[fI]at ON;cases ON;obtain⟨bg,bK⟩:=EU fG;exact wD (akT (call:=call) ao hu fI a8 (kF.1 a5) (wj _ _ ch) cV (by rw[bg];simp) (fun p hp=>(bK p hp).2) af hw h) rfl
    ·cases aC
   ·cases U
  |_=>cases ae
 |l1 p=>
  cases op with
  |load t q=>
   have ae:(b6 X.aB p q&&(match ob X.P t with|some g=> !g|none=>false))=true:=ae;rw[b2]at ae;obtain⟨J,U⟩:=ae;obtain⟨rfl,bg⟩:=c2 J;split at U
   ·rename_i g aZ;obtain⟨d,ax,e⟩:=y8 aZ;exact fi (SM (call:=call) bg ao ax (by rw[e];simpa using U) af hw h) rfl
   ·cases U
  |_=>cases ae
 |qy n p=>
  cases op with
  |load t q=>
   have ae:(b6 X.aB p q&&(match ob X.P t,gb X.P t with|some g,some s=>g&&Nat.beq n s|_,_=>false))=true:=ae;rw[b2]at ae;obtain⟨J,U⟩:=ae;obtain⟨rfl,bg⟩:=c2 J;split at U
   ·rename_i g s aZ ak;rw[b2]at U;obtain⟨d,ax,e⟩:=y8 aZ;obtain⟨i,ag,rfl⟩:=lL ak;have aG:=eO U.2;subst aG;exact fi (SN (call:=call) bg ao ax (by rw[e];exact U.1) ag af hw h) rfl
   ·cases U
  |_=>cases ae
 |store n p q=>
  cases op with
  |store t dL fq=>
   have ae:(b6 X.aB p dL&&b6 X.aB q fq&&(match gb X.P t with|some s=>Nat.beq n s|none=>false))=true:=ae;simp only[b2]at ae;obtain⟨⟨J,U⟩,ah⟩:=ae;obtain⟨rfl,bg⟩:=c2 J;obtain⟨rfl,bK⟩:=c2 U;split at ah
   ·rename_i s ak;obtain⟨i,ag,rfl⟩:=lL ak;have aG:=eO ah;subst aG;exact tW (alF (call:=call) bg bK ao ag af hw h) rfl rfl
   ·cases ah
  |_=>cases ae
 |tm p=>
  cases op with
  |nilCheck q=>obtain⟨rfl,U⟩:=c2 ae;exact fi (aly (call:=call) U ao af hw h) rfl
  |_=>cases ae
 |bin VT p q=>
  cases op with
  |binOp G7 t dL fq wv=>
   have ae:(decide (VT=G7)&&b6 X.aB p dL&&b6 X.aB q fq)=true:=ae;simp only[b2,decide_eq_true_eq]at ae;obtain⟨⟨J,U⟩,ah⟩:=ae;subst J;obtain⟨rfl,bg⟩:=c2 U;obtain⟨rfl,bK⟩:=c2 ah;exact fi (akR (call:=call) bg bK ao af hw h) rfl
  |_=>cases ae
 |eqv neg e p q=>
  cases op with
  |binOp G7 t dL fq wv=>
   have ae:(decide (G7=(if neg then .neq else .eql))&&b6 X.aB p dL&&b6 X.aB q fq&&C3 X.P t e dL fq)=true:=ae;simp only[b2,decide_eq_true_eq]at ae;obtain⟨⟨⟨J,U⟩,ah⟩,aC⟩:=ae;subst J;obtain⟨rfl,bg⟩:=c2 U;obtain⟨rfl,bK⟩:=c2 ah;exact fi (ak7 (call:=call) bg bK ao (YZ _ aC) af hw h) rfl
  |_=>cases ae
 |un amu p=>
  cases op with
  |unOp amv t q=>
   have ae:(decide (amu=amv)&&b6 X.aB p q)=true:=ae;simp only[b2,decide_eq_true_eq]at ae;obtain⟨J,U⟩:=ae;subst J;obtain⟨rfl,bg⟩:=c2 U;exact fi (alH (call:=call) bg ao af hw h) rfl
  |_=>cases ae
 |l3=>
  cases op with
  |makeMap t r=>
   cases r with
   |none=>
    have h:vH call fr st= .ok v aE st':=h;unfold vH at h;rw[gF]at h;cases h;obtain⟨aM,bg,bK,ep,kY⟩:=bp.alloc X hw (.map [] 0) (.map #[] 0) 0 (fun aM w' _ _ aX=>⟨rfl,rfl,#[],0,aX,rfl,⟨fun s t h _ _=>absurd h (Nat.not_lt_zero _),fun s h=>absurd h (Nat.not_lt_zero _),fun j=>by simp⟩,by simp,.nil,.nil,[],.nil,rfl,fun i ag=>by simp at ag⟩) {w with heap:=w.heap.push (.map #[] 0)} rfl;rw[kY]at bg bK ep;refine wD ⟨rfl,_,_,_,.map (some w.heap.size),_,rfl,by simp,?_,rfl,.map _ _ _ ep,bg,bK⟩ rfl;unfold execOp;rw[ao];simp[Instr.makeMap,Result.andThen]
   |some r=>cases ae
  |_=>cases ae
 |refuse=>cases h
 |xM p=>cases h
 |_=>cases aa
end
theorem ahw{a b:fz}(h:I1 a b=true):a=b:=by
 cases a<;>cases b<;>simp[I1]at h<;>first|rfl|(rw[h])|(rw[h.1,h.2])
theorem Ed{P:Program}{keys:TypeId->Option fz}{t:TypeId}{dq:fz}(h:AR P keys t dq=true):∃fb iO,P.underlying t=some (.map fb iO)∧keys fb=some dq:=by
 unfold AR at h;split at h
 ·rename_i fb iO hu;split at h
  ·rename_i PG ae;exact⟨fb,iO,hu,by rw[ae,ahw h]⟩
  ·cases h
 ·cases h
theorem isMap{P:Program}{t:TypeId}(h:(match P.underlying t with|some (.map _ _)=>true|_=>false)=true):∃fb iO,P.underlying t=some (.map fb iO):=by
 split at h
 ·rename_i fb iO hu;exact⟨fb,iO,hu⟩
 ·cases h
section
variable{ι:bq}{fr aE:aQ}{a:Act}{ay:Nat}{st st':aw}{w:World}{o:Oper}{v:Value}{call:bP}
theorem ak8{y:ue}(ae:X.jv o.op (.ext y)=true)(af:cE ι fr a ay)(hw:bp X ι st w)(h:cb call (.ext y) fr st= .ok v aE st'):
 aE=fr∧ub X (.ext y) ι w v st st' (execOp a.eval o):=by
 generalize ao:o.op=op at ae;have ae:B1 X.P X.aB X.keys X.nv X.eqs X.nO X.l4 op y=true:=ae;have h:ov fr st y= .ok v aE st':=h;unfold B1 at ae;split at ae
 ·simp only[b2]at ae;obtain⟨⟨⟨⟨J,U⟩,ah⟩,aC⟩,a5⟩:=ae;obtain⟨rfl,bg⟩:=c2 J;obtain⟨rfl,bK⟩:=c2 U;have cw:=eq_of_beq ah;subst cw;obtain⟨fb,iO,hu,eZ⟩:=Ed aC;rw[hu]at a5;simp only at a5;split at a5
  ·rename_i wx pD;rw[b2]at a5;have pj:=lM _ _ a5.1;subst pj;obtain⟨i,ag,a8⟩:=B2 pD;exact fi (aln bg bK ao hu eZ ag a8 a5.2 af hw h) rfl
  ·cases a5
 ·simp only[b2]at ae;obtain⟨⟨⟨J,U⟩,ah⟩,aC⟩:=ae;obtain⟨rfl,bg⟩:=c2 J;obtain⟨rfl,bK⟩:=c2 U;obtain⟨rfl,ep⟩:=c2 ah;obtain⟨fb,iO,hu,eZ⟩:=Ed aC;exact tW (SP bg bK ep (.inl ao) hu eZ af hw h) rfl rfl
 ·simp only[b2]at ae;obtain⟨⟨⟨J,U⟩,ah⟩,aC⟩:=ae;obtain⟨rfl,bg⟩:=c2 J;obtain⟨rfl,bK⟩:=c2 U;obtain⟨rfl,ep⟩:=c2 ah;obtain⟨fb,iO,hu,eZ⟩:=Ed aC;exact tW (SP bg bK ep (.inr ao) hu eZ af hw h) rfl rfl
 ·simp only[b2]at ae;obtain⟨⟨J,U⟩,aC⟩:=ae;obtain⟨rfl,bg⟩:=c2 J;obtain⟨rfl,bK⟩:=c2 U;obtain⟨fb,iO,hu,eZ⟩:=Ed aC;exact tW (ak5 bg bK ao hu eZ af hw h) rfl rfl
 ·rw[b2]at ae;obtain⟨rfl,bg⟩:=c2 ae.1;obtain⟨fb,iO,hu⟩:=isMap ae.2;exact fi (als bg ao hu af hw h) rfl
 ·rw[b2]at ae;obtain⟨rfl,bg⟩:=c2 ae.1;obtain⟨fb,iO,hu⟩:=isMap ae.2;exact tW (alv bg ao hu af hw h) rfl rfl
 ·obtain⟨rfl,bg⟩:=c2 ae;exact fi (alo bg ao af hw h) rfl
 ·cases h
 ·simp only[b2,decide_eq_true_eq]at ae;obtain⟨⟨⟨h0,J⟩,U⟩,_⟩:=ae;obtain⟨rfl,bg⟩:=c2 J;obtain⟨rfl,bK⟩:=c2 U;subst h0;exact fi (akZ bg bK ao af hw h) rfl
 ·simp only[b2]at ae;obtain⟨⟨⟨J,U⟩,ah⟩,aC⟩:=ae;obtain⟨rfl,bg⟩:=c2 J;obtain⟨rfl,bK⟩:=c2 U;have e:=eO aC;subst e;exact fi (alf bg bK ah ao af hw h) rfl
 ·simp only[b2]at ae;obtain⟨⟨J,U⟩,ah⟩:=ae;obtain⟨rfl,bg⟩:=c2 J;obtain⟨rfl,bK⟩:=c2 U;exact fi (ak0 bg bK ah ao af hw h) rfl
 ·simp only[b2,decide_eq_true_eq]at ae;obtain⟨⟨⟨h0,J⟩,U⟩,ah⟩:=ae;obtain⟨rfl,bg⟩:=c2 J;obtain⟨rfl,bK⟩:=c2 U;subst h0;split at ah
  ·rename_i cI hn;have e:=eO ah;subst e;exact fi (ak6 bg bK hn ao af hw h) rfl
  ·cases ah
 ·cases ae
end
theorem acy{op:Op}{p:Operand}(ae:X.jv op (.oR p)=true):∃q t,op= .call {callee:=.builtin .len,args:= #[q],argTypes:= #[t]}∧(b6 X.aB p q&&(match X.P.underlying t with|some (.slice _)=>true|_=>false))=true:=by
 cases op with
 |call c=>
  obtain⟨callee,⟨args⟩,⟨ts⟩⟩:=c;cases callee with
  |builtin b=>
   cases b with
   |len=>
    match args,ts,ae with
    |[q],[t],ae=>exact⟨q,t,rfl,ae⟩
    |[],_,ae=>cases ae
    |_::_::_,_,ae=>cases ae
    |[_],[],ae=>cases ae
    |[_],_::_::_,ae=>cases ae
   |_=>cases ae
  |_=>cases ae
 |_=>cases ae
theorem acz{op:Op}{p:Operand}(ae:X.jv op (.vq p)=true):∃q t,op= .call {callee:=.builtin .len,args:= #[q],argTypes:= #[t]}∧(b6 X.aB p q&&(match X.P.underlying t with|some .string=>true|_=>false))=true:=by
 cases op with
 |call c=>
  obtain⟨callee,⟨args⟩,⟨ts⟩⟩:=c;cases callee with
  |builtin b=>
   cases b with
   |len=>
    match args,ts,ae with
    |[q],[t],ae=>exact⟨q,t,rfl,ae⟩
    |[],_,ae=>cases ae
    |_::_::_,_,ae=>cases ae
    |[_],[],ae=>cases ae
    |[_],_::_::_,ae=>cases ae
   |_=>cases ae
  |_=>cases ae
 |_=>cases ae
theorem acx{op:Op}{n:Nat}(ae:X.jv op (.AU n)=true):∃q t,op= .call {callee:=.builtin .len,args:= #[q],argTypes:= #[t]}∧(match X.P.underlying t with|some (.array m _)=>Nat.beq n m|some (.pointer u)=>(match X.P.underlying u with|some (.array m _)=>Nat.beq n m|_=>false)|_=>false)=true:=by
 cases op with
 |call c=>
  obtain⟨callee,⟨args⟩,⟨ts⟩⟩:=c;cases callee with
  |builtin b=>
   cases b with
   |len=>
    match args,ts,ae with
    |[q],[t],ae=>exact⟨q,t,rfl,ae⟩
    |[],_,ae=>cases ae
    |_::_::_,_,ae=>cases ae
    |[_],[],ae=>cases ae
    |[_],_::_::_,ae=>cases ae
   |_=>cases ae
  |_=>cases ae
 |_=>cases ae
theorem acs{op:Op}{e bj bn:Nat}{s p:Operand}(ae:X.jv op (.app e bj bn s p)=true):∃br q t u,op= .call {callee:=.builtin .append,args:= #[br,q],argTypes:= #[t,u]}∧
 (b6 X.aB s br&&b6 X.aB p q&&(match X.P.underlying t,X.P.underlying u with
  |some (.slice el),some d=>Nat.beq e el&&(match d with|.int _=>false|_=>true)&&(match X.P.info? el with
   |some i=>Nat.beq bj i.size&&Nat.beq bn i.bytes&&(match i.zero with|some v=>Nat.beq v.cells.size i.size|none=>false)
   |none=>false)
  |_,_=>false))=true:=by
 cases op with
 |call c=>
  obtain⟨callee,⟨args⟩,⟨ts⟩⟩:=c;cases callee with
  |builtin b=>
   cases b with
   |append=>
    match args,ts,ae with
    |[br,q],[t,u],ae=>exact⟨br,q,t,u,rfl,ae⟩
    |[],_,ae=>cases ae
    |[_],_,ae=>cases ae
    |_::_::_::_,_,ae=>cases ae
    |[_,_],[],ae=>cases ae
    |[_,_],[_],ae=>cases ae
    |[_,_],_::_::_::_,ae=>cases ae
   |_=>cases ae
  |_=>cases ae
 |_=>cases ae
theorem acB{op:Op}{p:Operand}{ps:List Operand}(ae:X.jv op (.eM p ps)=true):∃q dj ts,op= .call {callee:=.builtin .max,args:=(q::dj).toArray,argTypes:=ts}∧(b6 X.aB p q&&lD X.aB ps dj)=true:=by
 cases op with
 |call c=>
  obtain⟨callee,⟨args⟩,ts⟩:=c;cases callee with
  |builtin b=>
   cases b with
   |max=>
    match args,ae with
    |q::dj,ae=>exact⟨q,dj,ts,rfl,ae⟩
    |[],ae=>cases ae
   |_=>cases ae
  |_=>cases ae
 |_=>cases ae
theorem acA{op:Op}{p:Operand}{ps:List Operand}(ae:X.jv op (.rS p ps)=true):∃q dj ts,op= .call {callee:=.builtin .min,args:=(q::dj).toArray,argTypes:=ts}∧(b6 X.aB p q&&lD X.aB ps dj)=true:=by
 cases op with
 |call c=>
  obtain⟨callee,⟨args⟩,ts⟩:=c;cases callee with
  |builtin b=>
   cases b with
   |min=>
    match args,ae with
    |q::dj,ae=>exact⟨q,dj,ts,rfl,ae⟩
    |[],ae=>cases ae
   |_=>cases ae
  |_=>cases ae
 |_=>cases ae
theorem acu{op:Op}{bj:Nat}{d s:Operand}(ae:X.jv op (.q7 bj d s)=true):∃lh br t u,op= .call {callee:=.builtin .copy,args:= #[lh,br],argTypes:= #[t,u]}∧
 (b6 X.aB d lh&&b6 X.aB s br&&(match X.P.underlying t with|some (.slice e)=>(match gb X.P e with|some n=>Nat.beq bj n|none=>false)|_=>false))=true:=by
 cases op with
 |call c=>
  obtain⟨callee,⟨args⟩,⟨ts⟩⟩:=c;cases callee with
  |builtin b=>
   cases b with
   |copy=>
    match args,ts,ae with
    |[br,q],[t,u],ae=>exact⟨br,q,t,u,rfl,ae⟩
    |[],_,ae=>cases ae
    |[_],_,ae=>cases ae
    |_::_::_::_,_,ae=>cases ae
    |[_,_],[],ae=>cases ae
    |[_,_],[_],ae=>cases ae
    |[_,_],_::_::_::_,ae=>cases ae
   |_=>cases ae
  |_=>cases ae
 |_=>cases ae
theorem acF{op:Op}{p:Operand}(ae:X.jv op (.BH p)=true):∃q t,op= .call {callee:=.builtin .unsafeSliceData,args:= #[q],argTypes:= #[t]}∧b6 X.aB p q=true:=by
 cases op with
 |call c=>
  obtain⟨callee,⟨args⟩,⟨ts⟩⟩:=c;cases callee with
  |builtin b=>
   cases b with
   |unsafeSliceData=>
    match args,ts,ae with
    |[q],[t],ae=>exact⟨q,t,rfl,ae⟩
    |[],_,ae=>cases ae
    |_::_::_,_,ae=>cases ae
    |[_],[],ae=>cases ae
    |[_],_::_::_,ae=>cases ae
   |_=>cases ae
  |_=>cases ae
 |_=>cases ae
theorem acG{op:Op}{e:Nat}{p n:Operand}(ae:X.jv op (.tT e p n)=true):∃q m t u,op= .call {callee:=.builtin .unsafeString,args:= #[q,m],argTypes:= #[t,u]}∧
 (b6 X.aB p q&&b6 X.aB n m&&(match X.P.underlying t with|some (.pointer cj)=>Nat.beq e cj&&(match gb X.P cj with|some 1=>true|_=>false)|_=>false))=true:=by
 cases op with
 |call c=>
  obtain⟨callee,⟨args⟩,⟨ts⟩⟩:=c;cases callee with
  |builtin b=>
   cases b with
   |unsafeString=>
    match args,ts,ae with
    |[br,q],[t,u],ae=>exact⟨br,q,t,u,rfl,ae⟩
    |[],_,ae=>cases ae
    |[_],_,ae=>cases ae
    |_::_::_::_,_,ae=>cases ae
    |[_,_],[],ae=>cases ae
    |[_,_],[_],ae=>cases ae
    |[_,_],_::_::_::_,ae=>cases ae
   |_=>cases ae
  |_=>cases ae
 |_=>cases ae
theorem acw{op:Op}{p c:Operand}(ae:X.jv op (.kq p c)=true):∃f q d ts,op= .call {callee:=.value (.func f),args:= #[q,d],argTypes:=ts}∧(b6 X.aB p q&&b6 X.aB c d&&X.kq f)=true:=by
 cases op with
 |call c=>
  obtain⟨callee,⟨args⟩,ts⟩:=c;cases callee with
  |value g=>
   cases g with
   |func f=>
    match args,ae with
    |[q,d],ae=>exact⟨f,q,d,ts,rfl,ae⟩
    |[],ae=>cases ae
    |[_],ae=>cases ae
    |_::_::_::_,ae=>cases ae
   |_=>cases ae
  |_=>cases ae
 |_=>cases ae
theorem acC{op:Op}{p:Operand}(ae:X.jv op (.j5 p)=true):∃f q ts,op= .call {callee:=.value (.func f),args:= #[q],argTypes:=ts}∧(b6 X.aB p q&&X.j5 f)=true:=by
 cases op with
 |call c=>
  obtain⟨callee,⟨args⟩,ts⟩:=c;cases callee with
  |value g=>
   cases g with
   |func f=>
    match args,ae with
    |[q],ae=>exact⟨f,q,ts,rfl,ae⟩
    |[],ae=>cases ae
    |_::_::_,ae=>cases ae
   |_=>cases ae
  |_=>cases ae
 |_=>cases ae
theorem acE{op:Op}(ae:X.jv op .tJ=true):∃ts,op= .call {callee:=.builtin .recover,args:= #[],argTypes:=ts}:=by
 cases op with
 |call c=>
  obtain⟨callee,⟨args⟩,ts⟩:=c;cases callee with
  |builtin b=>
   cases b with
   |recover=>
    match args,ae with
    |[],_=>exact⟨ts,rfl⟩
    |_::_,ae=>cases ae
   |_=>cases ae
  |_=>cases ae
 |_=>cases ae
theorem Pv{op:Op}{f:Operand}{ps:List Operand}(ae:X.jv op (.call f ps)=true):∃g args ts,op= .call {callee:=.value g,args:=args,argTypes:=ts}∧
 (b6 X.aB f g&&lD X.aB ps args.toList&&(match g with|.func k=>((X.P.funcs[k]?).map (fun fn=>fn.body.isSome&& !(fn.name== "runtime.NumGoroutine"))).getD false|_=>true))=true:=by
 cases op with
 |call c=>
  obtain⟨callee,args,ts⟩:=c;cases callee with
  |value g=>exact⟨g,args,ts,rfl,ae⟩
  |_=>cases ae
 |_=>cases ae
theorem acv{op:Op}{f:Operand}{ps:List Operand}(ae:X.jv op (.qb f ps)=true):∃g args ts,op= .defer {callee:=.value g,args:=args,argTypes:=ts}∧(b6 X.aB f g&&lD X.aB ps args.toList)=true:=by
 cases op with
 |defer c=>
  obtain⟨callee,args,ts⟩:=c;cases callee with
  |value g=>exact⟨g,args,ts,rfl,ae⟩
  |_=>cases ae
 |_=>cases ae
theorem acD{op:Op}{p:Operand}(ae:X.jv op (.nX p)=true):∃q,op= .panic q∧b6 X.aB p q=true:=by
 cases op with
 |panic q=>exact⟨q,rfl,ae⟩
 |_=>cases ae
section
variable{ι:bq}{fr aE:aQ}{a:Act}{ay:Nat}{st st':aw}{w:World}{o:Oper}{v:Value}{call:bP}
theorem aiJ{x:dH}(ae:X.jv o.op x=true)(af:cE ι fr a ay)(hw:bp X ι st w)(h:cb call x fr st= .ok v aE st')(aa:HK x=false)(hp:x.inPlace=true):
 aE=fr∧ub X x ι w v st st' (execOp a.eval o):=by
 generalize ao:o.op=op at ae;cases x with
 |uq k p=>
  cases op with
  |convert s t q=>
   have ae:(b6 X.aB p q&&(match X.P.underlying s,X.P.underlying t with|some _,some (.int k')=>decide (k=k')|_,_=>false))=true:=ae;rw[b2]at ae;obtain⟨J,U⟩:=ae;obtain⟨rfl,bg⟩:=c2 J;split at U
   ·rename_i BG k' ak aX;have e:=of_decide_eq_true U;subst e;exact fi (akY (call:=call) bg ao ak aX af hw h) rfl
   ·cases U
  |_=>cases ae
 |zu p=>
  cases op with
  |convert s t q=>
   have ae:(b6 X.aB p q&&(match X.P.underlying s,X.P.underlying t with|some _,some .string=>true|_,_=>false))=true:=ae;rw[b2]at ae;obtain⟨J,U⟩:=ae;obtain⟨rfl,bg⟩:=c2 J;split at U
   ·rename_i BG ak aX;exact fi (akX (call:=call) bg ao ak aX af hw h) rfl
   ·cases U
  |_=>cases ae
 |zq p=>
  cases op with
  |convert s t q=>
   have ae:(b6 X.aB p q&&(match X.P.underlying s,X.P.underlying t with|some (.slice e),some .string=>(match X.P.underlying e with|some (.int .u8)=>true|_=>false)|_,_=>false))=true:=ae;rw[b2]at ae;obtain⟨J,U⟩:=ae;obtain⟨rfl,bg⟩:=c2 J;split at U
   ·rename_i e ak aX;split at U
    ·rename_i he;exact fi (akW (call:=call) bg ao ak aX he af hw h) rfl
    ·cases U
   ·cases U
  |_=>cases ae
 |wQ e p=>
  cases op with
  |convert s t q=>
   have ae:(b6 X.aB p q&&(match X.P.underlying s,X.P.underlying t with|some .string,some (.slice cj)=>Nat.beq e cj&&(match X.P.underlying cj,gb X.P cj with|some (.int .u8),some 1=>true|_,_=>false)|_,_=>false))=true:=ae;rw[b2]at ae;obtain⟨J,U⟩:=ae;obtain⟨rfl,bg⟩:=c2 J;split at U
   ·rename_i cj ak aX;rw[b2]at U;have aG:=eO U.1;subst aG;have ah:=U.2;split at ah
    ·rename_i he a8;obtain⟨i,ag,vg⟩:=lL a8;exact wD (ak3 (call:=call) bg ao ak aX he ag vg af hw h) rfl
    ·cases ah
   ·cases U
  |_=>cases ae
 |Jm t p=>
  cases op with
  |makeInterface gO q=>
   have ae:(Nat.beq t gO&&b6 X.aB p q&&(match X.P.underlying gO with|some (.interface _)=>false|some _=>true|none=>false))=true:=ae;simp only[b2]at ae;obtain⟨⟨J,U⟩,ah⟩:=ae;have aG:=eO J;subst aG;obtain⟨rfl,bg⟩:=c2 U;split at ah
   ·cases ah
   ·rename_i d cx ax;exact fi (alq (call:=call) bg ao ax (fun ms e=>cx ms (by rw[e])) af hw h) rfl
   ·cases ah
  |_=>cases ae
 |vz fn p c=>
  cases fn with
  |func f=>
   cases op with
   |makeFunc rk q d=>
    cases rk with
    |func g=>
     have ae:(Nat.beq f g&&lD X.aB p q.toList&&lD X.aB c d.toList)=true:=ae;simp only[b2]at ae;obtain⟨⟨J,U⟩,ah⟩:=ae;have aG:=eO J;subst aG;obtain⟨rfl,bg⟩:=tx U;obtain⟨rfl,bK⟩:=tx ah;exact fi (alp (call:=call) bg bK ao af hw h) rfl
    |_=>cases ae
   |_=>cases ae
  |_=>cases op<;>cases ae
 |tj e bn z l c=>
  cases op with
  |makeSlice t l' bE=>
   have ae:(b6 X.aB l l'&&b6 X.aB c bE&&(match X.P.underlying t with
    |some (.slice el)=>Nat.beq e el&&(match X.P.info? el with
     |some i=>Nat.beq bn i.bytes&& !Nat.beq i.size 0&&(match i.zero with|some v=>kz z v.cells.toList&&lN z&&Nat.beq v.cells.toList.length i.size|none=>false)
     |none=>false)
    |_=>false))=true:=ae
   simp only[b2]at ae;obtain⟨⟨J,U⟩,ah⟩:=ae;obtain⟨rfl,bg⟩:=c2 J;obtain⟨rfl,bK⟩:=c2 U;split at ah
   ·rename_i el hu;rw[b2]at ah;obtain⟨aC,a5⟩:=ah;have aG:=eO aC;subst aG;split at a5
    ·rename_i i ag;simp only[b2]at a5;obtain⟨⟨ch,cV⟩,fG⟩:=a5;have e2:=eO ch;subst e2;split at fG
     ·rename_i wx a8;simp only[b2]at fG;obtain⟨⟨g1,po⟩,Dm⟩:=fG;have cw:=wj _ _ g1;subst cw;exact wD (alr (call:=call) bg bK ao hu ag a8 (eO Dm) (Ew cV) po af hw h) rfl
     ·cases fG
    ·cases a5
   ·cases ah
  |_=>cases ae
 |sf p bD ag=>
  cases op with
  |slice t q pG dS nT=>
   cases nT with
   |none=>
    have ae:(b6 X.aB p q&&k1 X.aB bD pG&&k1 X.aB ag dS&&(match X.P.underlying t with|some .string=>true|_=>false))=true:=ae;simp only[b2]at ae;obtain⟨⟨⟨J,U⟩,ah⟩,aC⟩:=ae;obtain⟨rfl,bg⟩:=c2 J;obtain⟨rfl,bK⟩:=tw U;obtain⟨rfl,ep⟩:=tw ah;split at aC
    ·rename_i hu;exact fi (alE (call:=call) bg bK ep ao hu af hw h) rfl
    ·cases aC
   |some m=>cases ae
  |_=>cases ae
 |F8 n s p bD ag eM=>
  cases op with
  |slice t q pG dS nT=>
   have ae:(b6 X.aB p q&&k1 X.aB bD pG&&k1 X.aB ag dS&&k1 X.aB eM nT&&(nT.isNone||dS.isSome)&&
    (match X.P.underlying t with|some (.array cI e)=>Nat.beq n cI&&(match gb X.P e with|some br=>Nat.beq s br|none=>false)|_=>false))=true:=ae
   simp only[b2]at ae;obtain⟨⟨⟨⟨⟨J,U⟩,ah⟩,aC⟩,a5⟩,ch⟩:=ae;obtain⟨rfl,bg⟩:=c2 J;obtain⟨rfl,bK⟩:=tw U;obtain⟨rfl,ep⟩:=tw ah;obtain⟨rfl,pF⟩:=tw aC;have Ik:eM≠none->ag≠none:=by
    intro hm he;subst he;cases eM
    ·exact hm rfl
    ·simp at a5
   split at ch
   ·rename_i cI e hu;rw[b2]at ch;obtain⟨cV,fG⟩:=ch;have aG:=eO cV;subst aG;split at fG
    ·rename_i br ak;obtain⟨dp,fI,rfl⟩:=lL ak;have e2:=eO fG;subst e2;exact fi (alC (call:=call) bg bK ep pF Ik ao hu fI af hw h) rfl
    ·cases fG
   ·cases ch
  |_=>cases ae
 |n3 s p bD ag eM=>
  cases op with
  |slice t q pG dS nT=>
   have ae:(b6 X.aB p q&&k1 X.aB bD pG&&k1 X.aB ag dS&&k1 X.aB eM nT&&(nT.isNone||dS.isSome)&&
    (match X.P.underlying t with|some (.slice e)=>(match gb X.P e with|some br=>Nat.beq s br|none=>false)|_=>false))=true:=ae
   simp only[b2]at ae;obtain⟨⟨⟨⟨⟨J,U⟩,ah⟩,aC⟩,a5⟩,ch⟩:=ae;obtain⟨rfl,bg⟩:=c2 J;obtain⟨rfl,bK⟩:=tw U;obtain⟨rfl,ep⟩:=tw ah;obtain⟨rfl,pF⟩:=tw aC;have Ik:eM≠none->ag≠none:=by
    intro hm he;subst he;cases eM
    ·exact hm rfl
    ·simp at a5
   split at ch
   ·rename_i e hu;split at ch
    ·rename_i br ak;obtain⟨dp,fI,rfl⟩:=lL ak;have e2:=eO ch;subst e2;exact fi (alD (call:=call) bg bK ep pF Ik ao hu fI af hw h) rfl
    ·cases ch
   ·cases ch
  |_=>cases ae
 |w3 off p=>
  cases op with
  |fieldAddr t q f=>
   have ae:(b6 X.aB p q&&(match X.P.underlying t with
    |some (.struct fields)=>(match fields[f]? with|some fd=>Nat.beq off fd.offset&&(match gb X.P fd.type with|some s=> !Nat.beq s 0|none=>false)|none=>false)
    |_=>false))=true:=ae
   rw[b2]at ae;obtain⟨J,U⟩:=ae;obtain⟨rfl,bg⟩:=c2 J;split at U
   ·rename_i fields hu;split at U
    ·rename_i fd ry;rw[b2]at U;obtain⟨ah,aC⟩:=U;have aG:=eO ah;subst aG;split at aC
     ·rename_i s ak;obtain⟨i,ag,rfl⟩:=lL ak;exact fi (ala (call:=call) bg ao hu ry ag (Ew aC) af hw h) rfl
     ·cases aC
    ·cases U
   ·cases U
  |_=>cases ae
 |w7 off bj g0 p=>
  cases op with
  |field t q f=>
   have ae:(b6 X.aB p q&&(match X.P.underlying t with
    |some (.struct fields)=>(match fields[f]? with|some fd=>Nat.beq off fd.offset&&(match gb X.P fd.type,ob X.P fd.type with|some s,some g=>Nat.beq bj s&&(g0==g)|_,_=>false)|none=>false)
    |_=>false))=true:=ae
   rw[b2]at ae;obtain⟨J,U⟩:=ae;obtain⟨rfl,bg⟩:=c2 J;split at U
   ·rename_i fields hu;split at U
    ·rename_i fd ry;rw[b2]at U;obtain⟨ah,aC⟩:=U;have aG:=eO ah;subst aG;split at aC
     ·rename_i s g ak aZ;rw[b2]at aC;obtain⟨i,ag,rfl⟩:=lL ak;obtain⟨d,ax,e⟩:=y8 aZ;have e2:=eO aC.1;subst e2;have cw:g0=pe d:=by rw[e];simpa using aC.2
      subst cw;exact fi (alb (call:=call) bg ao hu ry ax ag af hw h) rfl
     ·cases aC
    ·cases U
   ·cases U
  |_=>cases ae
 |tc n bj p i=>
  cases op with
  |indexAddr t q j=>
   have ae:(b6 X.aB p q&&b6 X.aB i j&&(match X.P.underlying t with|some (.array cI e)=>Nat.beq n cI&&(match gb X.P e with|some s=>Nat.beq bj s|none=>false)|_=>false))=true:=ae;simp only[b2]at ae;obtain⟨⟨J,U⟩,ah⟩:=ae;obtain⟨rfl,bg⟩:=c2 J;obtain⟨rfl,bK⟩:=c2 U;split at ah
   ·rename_i cI e hu;rw[b2]at ah;obtain⟨aC,a5⟩:=ah;have aG:=eO aC;subst aG;split at a5
    ·rename_i s ak;obtain⟨dp,fI,rfl⟩:=lL ak;have e2:=eO a5;subst e2;exact fi (alc (call:=call) bg bK ao hu fI af hw h) rfl
    ·cases a5
   ·cases ah
  |_=>cases ae
 |lZ bj p i=>
  cases op with
  |indexAddr t q j=>
   have ae:(b6 X.aB p q&&b6 X.aB i j&&(match X.P.underlying t with|some (.slice e)=>(match gb X.P e with|some s=>Nat.beq bj s|none=>false)|_=>false))=true:=ae;simp only[b2]at ae;obtain⟨⟨J,U⟩,ah⟩:=ae;obtain⟨rfl,bg⟩:=c2 J;obtain⟨rfl,bK⟩:=c2 U;split at ah
   ·rename_i e hu;split at ah
    ·rename_i s ak;obtain⟨dp,fI,rfl⟩:=lL ak;have e2:=eO ah;subst e2;exact fi (ald (call:=call) bg bK ao hu fI af hw h) rfl
    ·cases ah
   ·cases ah
  |_=>cases ae
 |vl p i=>
  cases op with
  |index t q j=>
   have ae:(b6 X.aB p q&&b6 X.aB i j&&(match X.P.underlying t with|some .string=>true|_=>false))=true:=ae;simp only[b2]at ae;obtain⟨⟨J,U⟩,ah⟩:=ae;obtain⟨rfl,bg⟩:=c2 J;obtain⟨rfl,bK⟩:=c2 U;split at ah
   ·rename_i hu;exact fi (alh (call:=call) bg bK ao hu af hw h) rfl
   ·cases ah
  |_=>cases ae
 |AQ n bj g0 p i=>
  cases op with
  |index t q j=>
   have ae:(b6 X.aB p q&&b6 X.aB i j&&(match X.P.underlying t with|some (.array cI e)=>Nat.beq n cI&&(match gb X.P e,ob X.P e with|some s,some g=>Nat.beq bj s&&(g0==g)|_,_=>false)|_=>false))=true:=ae;simp only[b2]at ae;obtain⟨⟨J,U⟩,ah⟩:=ae;obtain⟨rfl,bg⟩:=c2 J;obtain⟨rfl,bK⟩:=c2 U;split at ah
   ·rename_i cI e hu;rw[b2]at ah;obtain⟨aC,a5⟩:=ah;have aG:=eO aC;subst aG;split at a5
    ·rename_i s g ak aZ;rw[b2]at a5;obtain⟨dp,fI,rfl⟩:=lL ak;obtain⟨d,ax,e⟩:=y8 aZ;have e2:=eO a5.1;subst e2;have cw:g0=pe d:=by rw[e];simpa using a5.2
     subst cw;exact fi (alg (call:=call) bg bK ao hu ax fI af hw h) rfl
    ·cases a5
   ·cases ah
  |_=>cases ae
 |Gg t z ok p=>
  cases op with
  |typeAssert q jN gO tq=>
   have ae:(b6 X.aB p q&&Nat.beq t gO&&(ok==tq)&&(match X.P.underlying gO with|some (.interface _)=>false|some _=>true|none=>false)&&(match p1 X.P gO with|some v=>dI z v&&jj z|none=>false))=true:=ae;simp only[b2]at ae;obtain⟨⟨⟨⟨J,U⟩,ah⟩,aC⟩,a5⟩:=ae;obtain⟨rfl,bg⟩:=c2 J;have aG:=eO U;subst aG;have e2:ok=tq:=by simpa using ah
   subst e2;split at aC
   ·cases aC
   ·rename_i d cx ax;split at a5
    ·rename_i wx pD;rw[b2]at a5;have cw:=lM _ _ a5.1;subst cw;obtain⟨i,ag,a8⟩:=B2 pD;exact fi (alG (call:=call) bg ao ax (fun ms e=>cx ms (by rw[e])) ag a8 a5.2 af hw h) rfl
    ·cases a5
   ·cases aC
  |_=>cases ae
 |zN p i=>
  cases op with
  |extract q j=>
   have ae:(b6 X.aB p q&&Nat.beq i j)=true:=ae;rw[b2]at ae;obtain⟨rfl,bg⟩:=c2 ae.1;have aG:=eO ae.2;subst aG;exact fi (ak9 (call:=call) bg ao af hw h) rfl
  |_=>cases ae
 |CL p=>
  cases op with
  |convert s t q=>
   have ae:(b6 X.aB p q&&(match X.P.underlying s,X.P.underlying t with|some (.pointer e),some .unsafePointer=>(match gb X.P e with|some n=> !Nat.beq n 0|none=>false)|_,_=>false))=true:=ae;rw[b2]at ae;obtain⟨J,U⟩:=ae;obtain⟨rfl,bg⟩:=c2 J;split at U
   ·rename_i e ak aX;split at U
    ·rename_i n hn;obtain⟨i,ag,rfl⟩:=lL hn;exact fi (ak1 (call:=call) bg ao ak aX ag (Ew U) af hw h) rfl
    ·cases U
   ·cases U
  |_=>cases ae
 |CM e n p=>
  cases op with
  |convert s t q=>
   have ae:(b6 X.aB p q&&(match X.P.underlying s,X.P.underlying t with|some .unsafePointer,some (.pointer cj)=>Nat.beq e cj&&(match gb X.P cj with|some m=>Nat.beq n m&& !Nat.beq m 0|none=>false)|_,_=>false))=true:=ae;rw[b2]at ae;obtain⟨J,U⟩:=ae;obtain⟨rfl,bg⟩:=c2 J;split at U
   ·rename_i cj ak aX;rw[b2]at U;obtain⟨ah,aC⟩:=U;have aG:=eO ah;subst aG;split at aC
    ·rename_i m hm;rw[b2]at aC;obtain⟨i,ag,rfl⟩:=lL hm;have e2:=eO aC.1;subst e2;exact fi (ak4 (call:=call) bg ao ak aX ag (Ew aC.2) af hw h) rfl
    ·cases aC
   ·cases U
  |_=>cases ae
 |call f as=>cases hp
 |tJ=>cases hp
 |qb f as=>cases hp
 |nX p=>cases hp
 |oR p=>
  obtain⟨q,t,rfl,hj⟩:=acy ae;rw[b2]at hj;obtain⟨rfl,bg⟩:=c2 hj.1;have U:=hj.2;split at U
  ·rename_i e hu;exact fi (alk (call:=call) bg ao hu af hw h) rfl
  ·cases U
 |vq p=>
  obtain⟨q,t,rfl,hj⟩:=acz ae;rw[b2]at hj;obtain⟨rfl,bg⟩:=c2 hj.1;have U:=hj.2;split at U
  ·rename_i hu;exact fi (alm (call:=call) bg ao hu af hw h) rfl
  ·cases U
 |AU n=>
  obtain⟨q,t,rfl,hj⟩:=acx ae;split at hj
  ·rename_i m d hu;have e:=eO hj;subst e;exact fi (ali (call:=call) ao hu hw h) rfl
  ·rename_i u hu;split at hj
   ·rename_i m d AD;have e:=eO hj;subst e;exact fi (alj (call:=call) ao hu AD hw h) rfl
   ·cases hj
  ·cases hj
 |app e bj bn s p=>
  obtain⟨br,q,t,u,rfl,hj⟩:=acs ae;simp only[b2]at hj;obtain⟨⟨J,U⟩,ah⟩:=hj;obtain⟨rfl,bg⟩:=c2 J;obtain⟨rfl,bK⟩:=c2 U;split at ah
  ·rename_i el d hu ax;simp only[b2]at ah;obtain⟨⟨aC,a5⟩,ch⟩:=ah;have aG:=eO aC;subst aG;split at ch
   ·rename_i i ag;simp only[b2]at ch;obtain⟨⟨cV,fG⟩,g1⟩:=ch;have e2:=eO cV;have cw:=eO fG;subst e2 cw;split at g1
    ·rename_i wx a8;exact tW (akQ (call:=call) bg bK ao hu ax (fun k e=>by subst e;cases a5) ag a8 (eO g1) af hw h) rfl rfl
    ·cases g1
   ·cases ch
  ·cases ah
 |eM p ps=>
  obtain⟨q,dj,ts,rfl,hj⟩:=acB ae;rw[b2]at hj;obtain⟨rfl,bg⟩:=c2 hj.1;obtain⟨rfl,bK⟩:=tx hj.2;exact fi (alw (call:=call) (fun y aJ=>by rcases List.mem_cons.1 aJ with rfl|aJ;exact bg;exact bK y aJ) ao af hw h) rfl
 |rS p ps=>
  obtain⟨q,dj,ts,rfl,hj⟩:=acA ae;rw[b2]at hj;obtain⟨rfl,bg⟩:=c2 hj.1;obtain⟨rfl,bK⟩:=tx hj.2;exact fi (alu (call:=call) (fun y aJ=>by rcases List.mem_cons.1 aJ with rfl|aJ;exact bg;exact bK y aJ) ao af hw h) rfl
 |q7 bj d s=>
  obtain⟨lh,br,t,u,rfl,hj⟩:=acu ae;simp only[b2]at hj;obtain⟨⟨J,U⟩,ah⟩:=hj;obtain⟨rfl,bg⟩:=c2 J;obtain⟨rfl,bK⟩:=c2 U;split at ah
  ·rename_i e hu;split at ah
   ·rename_i n hn;obtain⟨i,ag,rfl⟩:=lL hn;have e2:=eO ah;subst e2;exact tW (ak2 (call:=call) bg bK ao hu ag af hw h) rfl rfl
   ·cases ah
  ·cases ah
 |BH p=>
  obtain⟨q,t,rfl,hj⟩:=acF ae;obtain⟨rfl,bg⟩:=c2 hj;exact fi (alB (call:=call) bg ao af hw h) rfl
 |tT e p n=>
  obtain⟨q,m,t,u,rfl,hj⟩:=acG ae;simp only[b2]at hj;obtain⟨⟨J,U⟩,ah⟩:=hj;obtain⟨rfl,bg⟩:=c2 J;obtain⟨rfl,bK⟩:=c2 U;split at ah
  ·rename_i cj hu;rw[b2]at ah;obtain⟨aC,a5⟩:=ah;have aG:=eO aC;subst aG;split at a5
   ·rename_i a8;obtain⟨i,ag,vg⟩:=lL a8;exact tW (alI (call:=call) bg bK ao hu ag vg af hw h) rfl rfl
   ·cases a5
  ·cases ah
 |kq p c=>
  obtain⟨f,q,d,ts,rfl,hj⟩:=acw ae;simp only[b2]at hj;obtain⟨⟨J,U⟩,ah⟩:=hj;obtain⟨rfl,bg⟩:=c2 J;obtain⟨rfl,bK⟩:=c2 U;exact fi (ale (call:=call) bg bK ah ao af hw h) rfl
 |j5 p=>
  obtain⟨f,q,ts,rfl,hj⟩:=acC ae;rw[b2]at hj;obtain⟨rfl,bg⟩:=c2 hj.1;exact fi (alz (call:=call) bg hj.2 ao af hw h) rfl
 |ext y=>exact ak8 (by rw[ao];exact ae) af hw h
 |_=>exact absurd aa.symm Bool.false_ne_true
theorem JG{x:dH}(ae:X.jv o.op x=true)(af:cE ι fr a ay)(hw:bp X ι st w)(h:cb call x fr st= .ok v aE st')(hp:x.inPlace=true):
 aE=fr∧ub X x ι w v st st' (execOp a.eval o):=by
 cases aa:HK x
 ·exact aiJ ae af hw h aa hp
 ·exact aiI ae af hw h aa
end
end Go.az
namespace Go.az
structure dG where
 fn:FuncId
 kind:CallKind
 b3:Option Nat
def dG.at(b:dG)(a:Act)(todo:List Item):Frame:=
 {fn:=b.fn,tmps:=a.tmps,todo:=todo,defers:=a.defers,mode:=.run,kind:=b.kind,roundOf:=b.b3}
theorem eval_at(b:dG)(a:Act)(todo:List Item):(b.at a todo).eval=a.eval:=by
 funext x;cases x<;>rfl
section
variable{P:Program}{b:dG}{a:Act}{k:List Item}{cs:List Frame}{w:World}{ops:Array Oper}
theorem al3:step P (lone (b.at a (.code .skip::k)) cs w)= .next (lone (b.at a k) cs w):=step_lone_go (by simp[stepG,stepG.exec,dG.at])
theorem alS{l:Nat}:step P (lone (b.at a (.code (.label l)::k)) cs w)= .next (lone (b.at a k) cs w):=step_lone_go (by simp[stepG,stepG.exec,dG.at])
theorem S5{id:Nat}:step P (lone (b.at a (.inBlock id::k)) cs w)= .next (lone (b.at a k) cs w):=step_lone_go (by simp[stepG,stepG.exec,dG.at])
theorem S7{c:Code}:step P (lone (b.at a (.inScope c::k)) cs w)= .next (lone (b.at a k) cs w):=step_lone_go (by simp[stepG,stepG.exec,dG.at])
theorem Tg{x y:Code}:step P (lone (b.at a (.code (.seq x y)::k)) cs w)= .next (lone (b.at a (.code x:: .code y::k)) cs w):=step_lone_go (by simp[stepG,stepG.exec,dG.at])
theorem Gb{c:Operand}{x y:Code}{t:Bool}(h:a.eval c= .bool t):
 step P (lone (b.at a (.code (.cond c x y)::k)) cs w)= .next (lone (b.at a (.code (if t then x else y)::k)) cs w):=
 step_lone_go (by
  have:=eval_at b a (.code (.cond c x y)::k);simp only[dG.at]at this;simp[stepG,stepG.exec,dG.at,this,h])
theorem S2{id:Nat}{c:Code}:step P (lone (b.at a (.code (.block id c)::k)) cs w)= .next (lone (b.at a (.code c:: .inBlock id::k)) cs w):=step_lone_go (by simp[stepG,stepG.exec,dG.at])
theorem S8{c:Code}:step P (lone (b.at a (.code (.loop c)::k)) cs w)= .next (lone (b.at a (.code c:: .inLoop c::k)) cs w):=step_lone_go (by simp[stepG,stepG.exec,dG.at])
theorem S6{c:Code}:step P (lone (b.at a (.inLoop c::k)) cs w)= .next (lone (b.at a (.code c:: .inLoop c::k)) cs w):=step_lone_go (by simp[stepG,stepG.exec,dG.at])
theorem Tf{c:Code}:step P (lone (b.at a (.code (.scope c)::k)) cs w)= .next (lone (b.at a (.code c:: .inScope c::k)) cs w):=step_lone_go (by simp[stepG,stepG.exec,dG.at])
theorem S4{id:Nat}{k':List Item}(h:exitTo id k=some k'):step P (lone (b.at a (.code (.exit id)::k)) cs w)= .next (lone (b.at a k') cs w):=step_lone_go (by simp[stepG,stepG.exec,dG.at,h])
theorem Tb{id:Nat}:step P (lone (b.at a (.code (.region id ops false)::k)) cs w)= .next (lone (b.at a (.inRegion ops (List.range ops.size)::k)) cs w):=step_lone_go (by simp[stepG,stepG.exec,dG.at])
theorem alX{id:Nat}:step P (lone (b.at a (.code (.region id ops true)::k)) cs w)=
 .next (lone (b.at a (.inRegion ops (Region.schedule (P.follows .mixedOrders) ops (w.tape w.drawn (.order b.fn id)))::k)) cs {w with drawn:=w.drawn+1}):=
 step_lone_go (by simp[stepG,stepG.exec,dG.at,choose,Sem.run,Question.forced,Question.cut])
theorem Tc:step P (lone (b.at a (.inRegion ops []::k)) cs w)= .next (lone (b.at a k) cs w):=step_lone_go (by simp[stepG,stepG.exec,dG.at])
theorem finish_at(i:Nat)(rest:List Nat)(v:Value){o:Oper}(ao:ops[i]? =some o):
 (b.at a (.inRegion ops (i::rest)::k)).finish v=b.at (a.put o.dst v) (.inRegion ops rest::k):=by
 cases h:o.dst<;>simp[Frame.finish,dG.at,Act.put,ao,h]
theorem Gc{i:Nat}{rest:List Nat}{o:Oper}(ao:ops[i]? =some o)(h:Region.wanted o (yielded ops a.tmps)=false):
 step P (lone (b.at a (.inRegion ops (i::rest)::k)) cs w)= .next (lone (b.at (a.put o.dst undef) (.inRegion ops rest::k)) cs w):=by
 rw[<-finish_at i rest undef ao];exact step_lone_go (by simp only[dG.at];simp[stepG,stepG.exec,ao,h])
theorem tP{i:Nat}{rest:List Nat}{o:Oper}(ao:ops[i]? =some o)(hw:Region.wanted o (yielded ops a.tmps)=true)(ax:b.b3=none∨∀c,o.op≠.defer c):
 stepG P true {frame:=b.at a (.inRegion ops (i::rest)::k),callers:=cs,status:=.running,dying:=none} w=
  stepG.apply P true (b.at a (.inRegion ops (i::rest)::k)) cs none (execOp a.eval o) w:=by
 have he:=eval_at b a (.inRegion ops (i::rest)::k);simp only[dG.at]at he;simp only[stepG,stepG.exec,dG.at,ao,Option.map_some,hw,Option.getD_some,if_true,stepG.oper,Frame.oper?];rcases ax with ax|ax
 ·simp only[ax]at he⊢;rw[he]
 ·cases aF:b.b3 with
  |none=>simp only[aF]at he ⊢;rw[he]
  |some l=>
   rw[aF]at he;cases dK:o.op<;>simp only[]<;>first|(exact absurd dK (ax _))|(rw[he])
theorem Gd{i:Nat}{rest:List Nat}{o:Oper}{v:Value}{w':World}(ao:ops[i]? =some o)(hw:Region.wanted o (yielded ops a.tmps)=true)(ax:b.b3=none∨∀c,o.op≠.defer c)
 (aF:(execOp a.eval o).run P w= .ok (.value v) w'):step P (lone (b.at a (.inRegion ops (i::rest)::k)) cs w)= .next (lone (b.at (a.put o.dst v) (.inRegion ops rest::k)) cs w'):=by
 refine step_lone_go ?_;rw[tP ao hw ax,<-finish_at i rest v ao];simp[stepG.apply,aF]
theorem alU{i:Nat}{rest:List Nat}{o:Oper}{w':World}(ao:ops[i]? =some o)(hw:Region.wanted o (yielded ops a.tmps)=true)(ax:b.b3=none∨∀c,o.op≠.defer c)
 (aF:(execOp a.eval o).run P w= .ok .skip w'):step P (lone (b.at a (.inRegion ops (i::rest)::k)) cs w)= .next (lone (b.at (a.put o.dst undef) (.inRegion ops rest::k)) cs w'):=by
 refine step_lone_go ?_;rw[tP ao hw ax,<-finish_at i rest undef ao];simp[stepG.apply,aF]
theorem alT{i:Nat}{rest:List Nat}{o:Oper}{d:Deferred}{w':World}(ao:ops[i]? =some o)(hw:Region.wanted o (yielded ops a.tmps)=true)(ax:b.b3=none)
 (aF:(execOp a.eval o).run P w= .ok (.defer d) w'):step P (lone (b.at a (.inRegion ops (i::rest)::k)) cs w)= .next (lone (b.at ({a with defers:=d::a.defers}.put o.dst undef) (.inRegion ops rest::k)) cs w'):=by
 refine step_lone_go ?_;rw[tP ao hw (.inl ax)];have:=finish_at (b:=b) (a:={a with defers:=d::a.defers}) (k:=k) i rest undef ao;rw[<-this];simp[stepG.apply,aF,dG.at]
theorem S9{i:Nat}{rest:List Nat}{o:Oper}{f:FuncId}{args:Array Value}{w':World}(ao:ops[i]? =some o)(hw:Region.wanted o (yielded ops a.tmps)=true)(ax:b.b3=none∨∀c,o.op≠.defer c)
 (aF:(execOp a.eval o).run P w= .ok (.enter f args) w'):step P (lone (b.at a (.inRegion ops (i::rest)::k)) cs w)= .next (lone (Frame.enter P f args .normal) (b.at a (.inRegion ops (i::rest)::k)::cs) w'):=by
 refine step_lone_go ?_;rw[tP ao hw ax];simp[stepG.apply,aF,dG.at]
theorem Ta{i:Nat}{rest:List Nat}{o:Oper}{l:Nat}{f:FuncId}{ts:Array Value}{dy body:Code}{w':World}(ao:ops[i]? =some o)(hw:Region.wanted o (yielded ops a.tmps)=true)(ax:b.b3=none∨∀c,o.op≠.defer c)
 (aF:(execOp a.eval o).run P w= .ok (.round l f ts dy body) w'):step P (lone (b.at a (.inRegion ops (i::rest)::k)) cs w)= .next (lone (Frame.round l f ts dy body .normal) (b.at a (.inRegion ops (i::rest)::k)::cs) w'):=by
 refine step_lone_go ?_;rw[tP ao hw ax];simp[stepG.apply,aF,dG.at]
theorem alW{i:Nat}{rest:List Nat}{o:Oper}{w':World}(ao:ops[i]? =some o)(hw:Region.wanted o (yielded ops a.tmps)=true)(ax:b.b3=none)
 (aF:(execOp a.eval o).run P w= .ok .recover w'):
 step P (lone (b.at a (.inRegion ops (i::rest)::k)) cs w)=match tryRecover (b.at a (.inRegion ops (i::rest)::k)) cs with
  |some (v,cs')=>.next (lone (b.at (a.put o.dst v) (.inRegion ops rest::k)) cs' w')
  |none=>.next (lone (b.at (a.put o.dst .nilIface) (.inRegion ops rest::k)) cs w'):=by
 have Ax:(b.at a (.inRegion ops (i::rest)::k)).roundOf=none:=ax;cases aX:tryRecover (b.at a (.inRegion ops (i::rest)::k)) cs with
 |none=>
  refine step_lone_go ?_;rw[tP ao hw (.inl ax),<-finish_at i rest _ ao];simp[stepG.apply,aF,Ax,aX]
 |some p=>
  obtain⟨v,cs'⟩:=p;refine step_lone_go ?_;rw[tP ao hw (.inl ax),<-finish_at i rest _ ao];simp[stepG.apply,aF,Ax,aX]
theorem alV{i:Nat}{rest:List Nat}{o:Oper}{v:Value}{w':World}(ao:ops[i]? =some o)(hw:Region.wanted o (yielded ops a.tmps)=true)(ax:b.b3=none∨∀c,o.op≠.defer c)
 (aF:(execOp a.eval o).run P w= .halt (.panic v) w'):step P (lone (b.at a (.inRegion ops (i::rest)::k)) cs w)= .next (lone {b.at a (.inRegion ops (i::rest)::k)with mode:=.panicking [{v,recovered:=false}]} cs w'):=by
 refine step_lone_go ?_;rw[tP ao hw ax];simp[stepG.apply,aF,dG.at,Frame.raise]
end
inductive Gz(P:Program)(jW:Value)(args:List Value)(w:World):Frame->Prop
 |enter (f:FuncId) (as:Array Value) (h:((do let d<-Deferred.ofValue jW args.toArray;invoke d.target d.args):Sem Next).run P w= .ok (.enter f as) w):Gz P jW args w (Frame.enter P f as .normal)
 |round (l:Nat) (f:FuncId) (ts:Array Value) (dy body:Code) (h:((do let d<-Deferred.ofValue jW args.toArray;invoke d.target d.args):Sem Next).run P w= .ok (.round l f ts dy body) w):Gz P jW args w (Frame.round l f ts dy body .normal)
def yZ(X:Ctx)(ι:bq)(w:World)(gq c:Frame)(cs:List Frame):dC->Prop
 |.ret v st' _=>∃aM v' w',bs aM v v'∧bp X aM st' w'∧eV ι aM w w'∧Steps X.P (lone gq (c::cs) w) (lone (c.finish v') cs w')
 |.bh v st' _=>∃aM v' w',bs aM v v'∧bp X aM st' w'∧eV ι aM w w'∧Steps X.P (lone gq (c::cs) w) (lone (c.raise [{v:=v',recovered:=false}]) cs w')
 |.no=>True
def kB(X:Ctx)(call:bP):Prop:=
 ∀ι jW args st De ja w,bs ι jW De->bF ι args ja->bp X ι st w->call jW args none st≠.no->
  ∃gq,Gz X.P De ja w gq∧∀c cs,yZ X ι w gq c cs (call jW args none st)
def iJ(b:dG)(bh:Option Value)(ι:bq)(bc:Bool->List Frame):Prop:=
 match bh with
 |none=>∀(F:Frame) (eB:Bool),F.kind=b.kind->tryRecover F (bc eB)=none
 |some qE=>∃mK,bs ι qE mK∧(∀F:Frame,F.kind=b.kind->tryRecover F (bc false)=some (mK,bc true))∧∀F:Frame,F.kind=b.kind->tryRecover F (bc true)=none
theorem iJ.mono{b:dG}{bh:Option Value}{ι aM:bq}{bc:Bool->List Frame}(hle:ι.le aM)(h:iJ b bh ι bc):iJ b bh aM bc:=by
 cases bh with
 |none=>exact h
 |some qE=>obtain⟨mK,J,U,ah⟩:=h;exact⟨mK,J.mono hle,U,ah⟩
def mh(ι:bq)(x:Option Nat)(y:Option Nat):Prop:=(x=none∧y=none)∨∃l l',x=some l∧y=some l'∧ι l=some ⟨l',0,0,id⟩
theorem mh.mono{ι aM:bq}(hle:ι.le aM){x y:Option Nat}(h:mh ι x y):mh aM x y:=by
 rcases h with h|⟨l,l',J,U,ah⟩
 ·exact .inl h
 ·exact .inr ⟨l,l',J,U,hle _ _ ah⟩
variable{X:Ctx}
def k2(X:Ctx)(ay:Nat)(ops:Array Oper)(x:bB)(o:Oper):Bool:=
 (match x.d,o.dst with
  |none,none=>true
  |some a,some b=>Nat.beq a b&&Nat.ble (Nat.succ b) ay
  |_,_=>false)&&X.jv o.op x.o&&
 (match x.g,o.guard with
  |none,none=>true
  |some (t,want),some (j,Lj)=>(want==Lj)&&(match(ops[j]?).bind (·.dst)with|some gO=>Nat.beq t gO&&Nat.ble (Nat.succ t) ay|none=>false)
  |_,_=>false)
section
variable{ay:Nat}{ops:Array Oper}{x:bB}{o:Oper}
theorem EP(h:k2 X ay ops x o=true):x.d=o.dst∧∀t,x.d=some t->t<ay:=by
 unfold k2 at h;simp only[b2]at h;have J:=h.1.1;split at J
 ·rename_i aG e2;rw[aG,e2];exact⟨rfl,by simp⟩
 ·rename_i a b aG e2;rw[b2]at J;have:=eO J.1;subst this;rw[aG,e2];exact⟨rfl,fun t aX=>by cases aX;exact kF.1 J.2⟩
 ·cases J
theorem Bg(h:k2 X ay ops x o=true):X.jv o.op x.o=true:=by
 unfold k2 at h;simp only[b2]at h;exact h.1.2
variable{ι:bq}{fr aE:aQ}{a:Act}{st st':aw}{w:World}{v:Value}{call:bP}{b:dG}{bc:Bool->List Frame}{k:List Item}{i:Nat}{rest:List Nat}
theorem UC{α:Type}{yes gX z r:α}(h:k2 X ay ops x o=true)(af:cE ι fr a ay)(ae:hF fr x.g yes gX z=r)(a8:z≠r):
 (yes=r∧Region.wanted o (yielded ops a.tmps)=true)∨(gX=r∧Region.wanted o (yielded ops a.tmps)=false):=by
 unfold k2 at h;simp only[b2]at h;have J:=h.2;split at J
 ·rename_i aG e2;rw[aG]at ae;exact .inl ⟨ae,by simp[Region.wanted,e2]⟩
 ·rename_i t want j Lj aG e2;rw[aG]at ae;rw[b2]at J;obtain⟨hw,ah⟩:=J;have ek:want=Lj:=by simpa using hw
  subst ek;split at ah
  ·rename_i gO qo;rw[b2]at ah;have cw:=eO ah.1;subst cw;have bO:t<a.tmps.size:=by rw[af.size];exact kF.1 ah.2
   have xD:=af.tmp t;have aZ:a.tmps[t]? =some (a.tmps.getD t undef):=by simp[Array.getD,bO]
   have aJ:yielded ops a.tmps j=match a.tmps.getD t undef with|.bool b=>some b|_=>none:=by
    unfold yielded;rw[qo];simp only[Option.bind_some,aZ];cases a.tmps.getD t undef<;>rfl
   have lY:Region.wanted o (yielded ops a.tmps)=(yielded ops a.tmps j==some want):=by simp[Region.wanted,e2]
   have fJ:ky (fr.tmp t) (fun b=>cond b (cond want yes gX) (cond want gX yes)) (o7 (fr.tmp t) (fun _=>gX) z)=r:=ae;generalize hc:a.tmps.getD t undef=CO at xD aJ;generalize aX:fr.tmp t=aO at fJ xD;cases aO with
   |bool oe=>
    cases xD;have jH:cond oe (cond want yes gX) (cond want gX yes)=r:=fJ;rw[lY,aJ];cases oe<;>cases want
    ·exact .inl ⟨jH,rfl⟩
    ·exact .inr ⟨jH,rfl⟩
    ·exact .inr ⟨jH,rfl⟩
    ·exact .inl ⟨jH,rfl⟩
   |tuple xs=>
    cases xD;exact .inr ⟨fJ,by rw[lY,aJ];rfl⟩
   |_=>exact absurd fJ a8
  ·cases ah
 ·cases J
theorem ajb(a:Act)(d:Option Tmp)(v:Value){ds:List Deferred}:({a with defers:=ds}.put d v).tmps=(a.put d v).tmps:=by cases d<;>rfl
theorem Rf(bM:k2 X ay ops x o=true)(ej:kB X call)(ao:ops[i]? =some o)(ga:Region.wanted o (yielded ops a.tmps)=true)(af:cE ι fr a ay)(hw:bp X ι st w)(hb:mh ι fr.b3 b.b3)
 (aF:iJ b fr.bh ι bc) (h:cb call x.o fr st= .ok v aE st'):
 ∃aM a' w',Steps X.P (lone (b.at a (.inRegion ops (i::rest)::k)) (bc fr.cL) w) (lone (b.at a' (.inRegion ops rest::k)) (bc aE.cL) w')∧cE aM (aE.put x.d v) a' ay∧bp X aM st' w'∧eV ι aM w w'∧
  aE.bh=fr.bh∧aE.b3=fr.b3∧∃v',a'.tmps=(a.put o.dst v').tmps:=by
 obtain⟨kl,km⟩:=EP bM;have dK:=Bg bM;have oK:∀{q:Prop},(b.b3=none->q)->(fr.b3=none->q):=by
  intro q hq hn;rcases hb with⟨_,U⟩|⟨l,l',J,_,_⟩
  ·exact hq U
  ·rw[hn]at J;cases J
 by_cases hp:x.o.inPlace=true
 ·obtain⟨rfl,⟨aM,n,w',fw,hn,ek,ae⟩,_⟩:=JG dK af hw h hp;have jI:b.b3=none∨∀c,o.op≠.defer c:=by
   right;intro c hc;rw[hc]at dK;cases aa:x.o with
   |vz fn p q=>rw[aa]at dK;cases fn<;>cases dK
   |xM p=>rw[aa]at h;cases h
   |refuse=>rw[aa]at h;cases h
   |qb p q=>rw[aa]at hp;cases hp
   |ext y=>rw[aa]at dK;cases y<;>cases dK
   |_=>rw[aa]at dK;cases dK
  rcases hn with⟨v',rfl,aD⟩|⟨rfl,rfl⟩
  ·refine⟨aM,a.put o.dst v',w',.one (Gd ao ga jI fw),?_,ek,ae,rfl,rfl,_,rfl⟩;rw[<-kl];exact(af.mono ae.le).put km aD
  ·refine⟨aM,a.put o.dst undef,w',.one (alU ao ga jI fw),?_,ek,ae,rfl,rfl,_,rfl⟩;rw[<-kl];exact(af.mono ae.le).put km (bs.undef aM)
 ·cases aa:x.o with
  |call f ps=>
   rw[aa]at h dK;obtain⟨g,args,ts,m6,hj⟩:=Pv dK;simp only[b2]at hj;obtain⟨rfl,bg⟩:=c2 hj.1.1;obtain⟨rfl,bK⟩:=tx hj.1.2;have aL:dC.rec (motive:=fun _=>aY) (fun v st _=>.ok v fr st) (fun v st _=>.bh v st) .no (call (fr.an f) (fv fr args.toList) none st)=aY.ok v aE st':=h;have jI:b.b3=none∨∀c,o.op≠.defer c:=.inr (by rw[m6];simp);obtain⟨gq,gC,rF⟩:=ej ι (fr.an f) (fv fr args.toList) st (a.eval f) (args.toList.map a.eval) w (af.an hw bg) (w2 af hw _ bK) hw (by intro e;rw[e]at aL;cases aL);have z9:(execOp a.eval o).run X.P w=((do let d<-Deferred.ofValue (a.eval f) (args.toList.map a.eval).toArray;invoke d.target d.args):Sem Next).run X.P w:=by
    unfold execOp;rw[m6];simp[resolve,<-Array.toList_map]
   cases hc:call (fr.an f) (fv fr args.toList) none st with
   |ret v1 cR eB=>
    rw[hc]at aL rF;have nH:aY.ok v1 fr cR=aY.ok v aE st':=aL;obtain⟨aG,e2,cw⟩:=tt nH;subst aG e2 cw;obtain⟨aM,v',w',aD,ek,ae,va⟩:=rF (b.at a (.inRegion ops (i::rest)::k)) (bc fr.cL);have kP:=finish_at (b:=b) (a:=a) (k:=k) i rest v' ao;rw[kP]at va;refine⟨aM,a.put o.dst v',w',?_,?_,ek,ae,rfl,rfl,_,rfl⟩
    ·cases gC with
     |enter nC as ak=>exact .head (S9 ao ga jI (by rw[z9];exact ak)) va
     |round l nC K7 dy body ak=>exact .head (Ta ao ga jI (by rw[z9];exact ak)) va
    ·rw[<-kl];exact(af.mono ae.le).put km aD
   |bh v1 cR eB=>rw[hc]at aL;cases aL
   |no=>rw[hc]at aL;cases aL
  |tJ=>
   rw[aa]at h dK;obtain⟨ts,m6⟩:=acE dK;obtain⟨hn,J⟩:=x2 (h:bo fr.b3 _ _=_) (fun _=>by simp);have xj:b.b3=none:=oK id hn;have fw:(execOp a.eval o).run X.P w= .ok .recover w:=by
    unfold execOp;rw[m6];simp[resolve,invoke,builtin]
   have ak:=alW (b:=b) (k:=k) (cs:=bc fr.cL) ao ga xj fw (rest:=rest);cases hZ:fr.bh with
   |none=>
    rw[hZ]at J aF;have U:aY.ok .nilIface fr st=aY.ok v aE st':=J;obtain⟨aG,e2,cw⟩:=tt U;subst aG e2 cw;rw[aF _ _ rfl]at ak;refine⟨ι,_,w,.one ak,?_,hw,.refl _ _,hZ,rfl,_,rfl⟩;rw[<-kl];exact af.put km .nilIface
   |some qE=>
    rw[hZ]at J aF;obtain⟨mK,xA,ia,mC⟩:=aF;have U:cond fr.cL (aY.ok .nilIface fr st) (.ok qE ⟨fr.t,fr.c8,fr.bh,true,fr.b3⟩ st)=aY.ok v aE st':=by rw[hZ];exact J
    cases vc:fr.cL with
    |true=>
     rw[vc]at U ak;obtain⟨aG,e2,cw⟩:=tt (U:aY.ok .nilIface fr st=aY.ok v aE st');subst aG e2 cw;rw[mC _ rfl]at ak;refine⟨ι,_,w,by rw[vc];exact .one ak,?_,hw,.refl _ _,hZ,rfl,_,rfl⟩;rw[<-kl];exact af.put km .nilIface
    |false=>
     rw[vc]at U ak;obtain⟨aG,e2,cw⟩:=tt (U:aY.ok qE ⟨fr.t,fr.c8,fr.bh,true,fr.b3⟩ st=aY.ok v aE st');subst aG e2 cw;rw[ia _ rfl]at ak;refine⟨ι,_,w,.one ak,?_,hw,.refl _ _,hZ,rfl,_,rfl⟩;rw[<-kl];exact cE.put (fr:=⟨fr.t,fr.c8,fr.bh,true,fr.b3⟩) ⟨af.tmp,af.size,af.c8⟩ km xA
  |qb f ps=>
   rw[aa]at h dK;obtain⟨g,args,ts,m6,hj⟩:=acv dK;simp only[b2]at hj;obtain⟨rfl,bg⟩:=c2 hj.1;obtain⟨rfl,bK⟩:=tx hj.2;obtain⟨hn,J⟩:=x2 (h:bo fr.b3 _ _=_) (fun _=>by simp);have xj:b.b3=none:=oK id hn;obtain⟨fn,first,fk,xm,U⟩:=Lh J (by simp);have aD:=af.an hw bg;rw[xm]at aD;cases fn with
   |func Od=>
    obtain⟨aG,e2,cw⟩:=tt (U:aY.ok undef ⟨fr.t,{target:=.fn (.func Od) fk,args:=⟨gL first.toList (fv fr args.toList)⟩}::fr.c8,fr.bh,fr.cL,fr.b3⟩ st=aY.ok v aE st');subst aG e2 cw;generalize kN:a.eval f=uj at aD;cases aD with
    |func _ kK _ av _ vs gu gZ hG uf GB=>
     have iy:=w2 af hw _ bK;have fw:(execOp a.eval o).run X.P w= .ok (.defer {target:=.fn kK vs,args:=av++args.map a.eval}) w:=by
      unfold execOp;rw[m6];simp[resolve,kN,Deferred.ofValue]
     have ak:=alT (b:=b) (k:=k) (cs:=bc fr.cL) ao ga xj fw (rest:=rest);refine⟨ι,_,w,.one ak,?_,hw,.refl _ _,rfl,rfl,undef,ajb _ _ _⟩;rw[<-kl];refine cE.put (fr:=⟨fr.t,{target:=.fn (.func Od) fk,args:=⟨gL first.toList (fv fr args.toList)⟩}::fr.c8,fr.bh,fr.cL,fr.b3⟩) (a:={a with defers:={target:=.fn kK vs,args:=av++args.map a.eval}::a.defers}) ⟨af.tmp,af.size,⟨⟨?_,gu,bF.tp uf GB⟩,af.c8⟩⟩ km (bs.undef ι);have:=(bF.tp gZ hG).append iy;simpa using this
   |_=>cases U
  |nX p=>
   rw[aa]at h;obtain⟨t,UA,_,J⟩:=Li (h:wh (fr.an p) _ _=_) (by simp);cases J
  |_=>rw[aa]at hp;exact absurd rfl hp
end
end Go.az
namespace Go.az
variable{X:Ctx}
section
variable{ay:Nat}{ops:Array Oper}{x:bB}{o:Oper}{ι:bq}{fr aE:aQ}{a:Act}{st st':aw}{w:World}{v:Value}{call:bP}{b:dG}{bc:Bool->List Frame}{k:List Item}{i:Nat}{rest:List Nat}
def dG.panics(b:dG)(a:Act)(todo:List Item)(v:Value):Frame:={b.at a todo with mode:=.panicking [{v,recovered:=false}]}
theorem Rg{cs:List Frame}(bM:k2 X ay ops x o=true)(ej:kB X call)(ao:ops[i]? =some o)(ga:Region.wanted o (yielded ops a.tmps)=true)(af:cE ι fr a ay)(hw:bp X ι st w)
 (fH:x.o.mT=true) (h:cb call x.o fr st= .bh v st'):
 ∃aM v' w',Steps X.P (lone (b.at a (.inRegion ops (i::rest)::k)) cs w) (lone (b.panics a (.inRegion ops (i::rest)::k) v') cs w')∧bs aM v v'∧bp X aM st' w'∧eV ι aM w w':=by
 have dK:=Bg bM;cases aa:x.o with
 |call f ps=>
  rw[aa]at h dK;obtain⟨g,args,ts,m6,hj⟩:=Pv dK;simp only[b2]at hj;obtain⟨rfl,bg⟩:=c2 hj.1.1;obtain⟨rfl,bK⟩:=tx hj.1.2;have aL:dC.rec (motive:=fun _=>aY) (fun v st _=>.ok v fr st) (fun v st _=>.bh v st) .no (call (fr.an f) (fv fr args.toList) none st)=aY.bh v st':=h;have jI:b.b3=none∨∀c,o.op≠.defer c:=.inr (by rw[m6];simp);obtain⟨gq,gC,rF⟩:=ej ι (fr.an f) (fv fr args.toList) st (a.eval f) (args.toList.map a.eval) w (af.an hw bg) (w2 af hw _ bK) hw (by intro e;rw[e]at aL;cases aL);have z9:(execOp a.eval o).run X.P w=((do let d<-Deferred.ofValue (a.eval f) (args.toList.map a.eval).toArray;invoke d.target d.args):Sem Next).run X.P w:=by
   unfold execOp;rw[m6];simp[resolve,<-Array.toList_map]
  cases hc:call (fr.an f) (fv fr args.toList) none st with
  |bh v1 cR eB=>
   rw[hc]at aL rF;have nH:aY.bh v1 cR=aY.bh v st':=aL;cases nH;obtain⟨aM,v',w',aD,ek,ae,va⟩:=rF (b.at a (.inRegion ops (i::rest)::k)) cs;have abJ:(b.at a (.inRegion ops (i::rest)::k)).raise [{v:=v',recovered:=false}]=b.panics a (.inRegion ops (i::rest)::k) v':=rfl;rw[abJ]at va;refine⟨aM,v',w',?_,aD,ek,ae⟩;cases gC with
   |enter nC as ak=>exact .head (S9 ao ga jI (by rw[z9];exact ak)) va
   |round l nC K7 dy body ak=>exact .head (Ta ao ga jI (by rw[z9];exact ak)) va
  |ret v1 cR eB=>rw[hc]at aL;cases aL
  |no=>rw[hc]at aL;cases aL
 |nX p=>
  rw[aa]at h dK;obtain⟨q,m6,hj⟩:=acD dK;obtain⟨rfl,bg⟩:=c2 hj;obtain⟨t,UA,hp,J⟩:=Li (h:wh (fr.an p) _ _=_) (by simp);have U:aY.bh (.iface t UA) st=aY.bh v st':=J;cases U;have aD:=af.an hw bg;rw[hp]at aD;generalize kN:a.eval p=uj at aD;cases aD with
  |iface _ _ amE ab5=>
   refine⟨ι,.iface t amE,w,.one (alV ao ga (.inr (by rw[m6];simp)) ?_),.iface _ _ _ ab5,hw,.refl _ _⟩;unfold execOp;rw[m6];simp[kN,Instr.panic,Result.andThen]
 |_=>rw[aa]at fH;cases fH
def B7(P:Program)(s:Machine)(b:dG)(a:Act)(k:List Item)(cs:List Frame)(w:World)(aM:bq):ee->Prop
 |.norm=>Steps P s (lone (b.at a k) cs w)
 |.exit id=>∃gy,exitTo id gy=exitTo id k∧Steps P s (lone (b.at a (.code (.exit id)::gy)) cs w)
 |.ret=>∃gy,Steps P s (lone (b.at a (.code .ret::gy)) cs w)
 |.bh v=>∃v' gy,bs aM v v'∧Steps P s (lone (b.panics a gy v') cs w)
def fp(X:Ctx)(b:dG)(ay:Nat)(bc:Bool->List Frame)(s:Machine)(k:List Item)(fr:aQ)(ι:bq)(w:World):cC->Prop
 |.out e aE st'=>∃aM a' w',cE aM aE a' ay∧bp X aM st' w'∧eV ι aM w w'∧aE.bh=fr.bh∧aE.b3=fr.b3∧B7 X.P s b a' k (bc aE.cL) w' aM e
 |.no=>True
theorem B7.head{P:Program}{s br:Machine}{b:dG}{a:Act}{k:List Item}{cs:List Frame}{w:World}{aM:bq}{e:ee}(h:Steps P s br)(aL:B7 P br b a k cs w aM e):B7 P s b a k cs w aM e:=by
 cases e with
 |norm=>exact h.trans aL
 |exit id=>obtain⟨gy,J,U⟩:=aL;exact⟨gy,J,h.trans U⟩
 |ret=>obtain⟨gy,U⟩:=aL;exact⟨gy,h.trans U⟩
 |bh v=>obtain⟨v',gy,J,U⟩:=aL;exact⟨v',gy,J,h.trans U⟩
theorem fp.head{s br:Machine}{aM:bq}{w':World}{r:cC}(h:Steps X.P s br)(ae:eV ι aM w w')(hp:aE.bh=fr.bh)(aF:aE.b3=fr.b3)(aL:fp X b ay bc br k aE aM w' r):fp X b ay bc s k fr ι w r:=by
 cases r with
 |no=>trivial
 |out e anq aom=>
  obtain⟨dB,a',iW,J,U,ah,aC,a5,ch⟩:=aL;exact⟨dB,a',iW,J,U,ae.trans ah,aC.trans hp,a5.trans aF,ch.head h⟩
theorem Y7(x:bB)(xs:List bB)(fr:aQ)(st:aw):hJ call (x::xs) fr st=
 hF fr x.g (aY.rec (motive:=fun _=>cC) (fun v fr st=>hJ call xs (fr.put x.d v) st) (fun v st=>cond x.o.mT (.out (.bh v) fr st) .no) .no (cb call x.o fr st))
  (hJ call xs (fr.put x.d undef) st) .no:=rfl
theorem r2(fr:aQ)(d:Option Tmp)(v:Value):(fr.put d v).bh=fr.bh∧(fr.put d v).b3=fr.b3∧(fr.put d v).cL=fr.cL∧(fr.put d v).c8=fr.c8:=by
 obtain⟨J,U,ah,aC⟩:=tB fr d v;exact⟨U,aC,ah,J⟩
theorem ER(ej:kB X call):∀(xs:List bB) (l:List Nat) (ι:bq) (fr:aQ) (a:Act) (st:aw) (w:World),xs.length=l.length->
 (∀(j:Nat) (x:bB) (i:Nat),xs[j]? =some x->l[j]? =some i->∃o,ops[i]? =some o∧k2 X ay ops x o=true)->
 cE ι fr a ay->bp X ι st w->mh ι fr.b3 b.b3->iJ b fr.bh ι bc->
 fp X b ay bc (lone (b.at a (.inRegion ops l::k)) (bc fr.cL) w) k fr ι w (hJ call xs fr st)
 |[],[],ι,fr,a,st,w,_,_,af,hw,_,_=>⟨ι,a,w,af,hw,.refl _ _,rfl,rfl,.one Tc⟩
 |[],_::_,_,_,_,_,_,h,_,_,_,_,_=>by simp at h
 |_::_,[],_,_,_,_,_,h,_,_,_,_,_=>by simp at h
 |x::xs,i::l,ι,fr,a,st,w,hl,dV,af,hw,hb,aF=>by
  obtain⟨o,ao,bM⟩:=dV 0 x i rfl rfl;have Dq:∀(j:Nat) (x:bB) (i:Nat),xs[j]? =some x->l[j]? =some i->∃o,ops[i]? =some o∧k2 X ay ops x o=true:=fun j x i J U=>dV (j+1) x i J U;have cy:xs.length=l.length:=by simpa using hl
  obtain⟨kl,km⟩:=EP bM;rw[Y7];generalize aZ:hF fr x.g _ _ _=r;by_cases fW:r= .no
  ·rw[fW];trivial
  rcases UC bM af aZ (fun e=>fW e.symm)with⟨e,ga⟩|⟨e,ga⟩
  ·cases iy:cb call x.o fr st with
   |ok v eX cR=>
    rw[iy]at e;have cj:hJ call xs (eX.put x.d v) cR=r:=e;obtain⟨aM,a',w',ak,eD,ek,ae,hp,oK,_⟩:=Rf (k:=k) (rest:=l) bM ej ao ga af hw hb aF iy;obtain⟨dW,dM,eT,ih⟩:=r2 eX x.d v;have m8:=ER ej xs l aM (eX.put x.d v) a' cR w' cy Dq eD ek (by rw[dM,oK];exact hb.mono ae.le) (by rw[dW,hp];exact aF.mono ae.le);rw[<-cj];rw[eT]at m8;exact fp.head ak ae (dW.trans hp) (dM.trans oK) m8
   |bh v cR=>
    rw[iy]at e;have cj:cond x.o.mT (.out (.bh v) fr cR) .no=r:=e;obtain⟨fH,e2⟩:=hU cj (fun e=>fW e.symm);obtain⟨aM,v',w',ak,aD,ek,ae⟩:=Rg (b:=b) (k:=k) (rest:=l) (cs:=bc fr.cL) bM ej ao ga af hw fH iy;rw[<-e2];exact⟨aM,a,w',af.mono ae.le,ek,ae,rfl,rfl,v',_,aD,ak⟩
   |no=>rw[iy]at e;exact absurd (e:cC.no=r).symm fW
  ·obtain⟨dW,dM,eT,ih⟩:=r2 fr x.d undef;have m8:=ER ej xs l ι (fr.put x.d undef) (a.put o.dst undef) st w cy Dq (by rw[<-kl];exact af.put km (bs.undef ι)) hw (by rw[dM];exact hb) (by rw[dW];exact aF);rw[<-e];rw[eT]at m8;exact fp.head (.one (Gc ao ga)) (.refl _ _) dW dM m8
end
end Go.az
namespace Go.az
variable{X:Ctx}{call:bP}
def kg(fr:aQ)(g:Option (Tmp×Bool))(b:Bool):Prop:=hF fr g (some true) (some false) none=some b
theorem Lk{α:Type}{fr:aQ}{g:Option (Tmp×Bool)}{yes gX z r:α}(h:hF fr g yes gX z=r)(a8:z≠r):(kg fr g true∧yes=r)∨(kg fr g false∧gX=r):=by
 unfold kg;cases g with
 |none=>exact .inl ⟨rfl,h⟩
 |some p=>
  have aL:ky (fr.tmp p.1) (fun b=>cond b (cond p.2 yes gX) (cond p.2 gX yes)) (o7 (fr.tmp p.1) (fun _=>gX) z)=r:=h;show(ky (fr.tmp p.1) (fun b=>cond b (cond p.2 (some true) (some false)) (cond p.2 (some false) (some true))) (o7 (fr.tmp p.1) (fun _=>some false) none)=some true∧_)∨
   (ky (fr.tmp p.1) (fun b=>cond b (cond p.2 (some true) (some false)) (cond p.2 (some false) (some true))) (o7 (fr.tmp p.1) (fun _=>some false) none)=some false∧_)
  generalize fr.tmp p.1=aO at aL;cases aO with
  |bool oe=>
   have U:cond oe (cond p.2 yes gX) (cond p.2 gX yes)=r:=aL;show(cond oe (cond p.2 (some true) (some false)) (cond p.2 (some false) (some true))=some true∧_)∨(cond oe (cond p.2 (some true) (some false)) (cond p.2 (some false) (some true))=some false∧_);cases oe<;>cases hp:p.2<;>rw[hp]at U
   ·exact .inl ⟨rfl,U⟩
   ·exact .inr ⟨rfl,U⟩
   ·exact .inr ⟨rfl,U⟩
   ·exact .inl ⟨rfl,U⟩
  |tuple xs=>exact .inr ⟨rfl,aL⟩
  |_=>exact absurd aL a8
def Bd(t:au Value)(ts:List Tmp):au Value:=ng t ts fun m=>m
def aQ.only(fr:aQ)(ts:List Tmp):aQ:=⟨Bd fr.t ts,[],none,false,none⟩
def nh{β:Type}(t:au Value)(ts:List Tmp)(k:au Value->β)(m:au Value):β:=
 List.rec (motive:=fun _=>au Value->β) (fun m=>k m) (fun x _ bb m=>bo (t.get x) (fun v=>au.hM (Nat.succ x) m x v bb) (bb m)) ts m
theorem JD{β:Type}(t:au Value)(k:au Value->β):∀(ts:List Tmp) (m:au Value),nh t ts k m=k (nh t ts (fun m=>m) m)
 |[],_=>rfl
 |x::ts,m=>by
  show bo (t.get x) (fun v=>au.hM (Nat.succ x) m x v (nh t ts k)) (nh t ts k m)=k (bo (t.get x) (fun v=>au.hM (Nat.succ x) m x v (nh t ts fun m=>m)) (nh t ts (fun m=>m) m));cases t.get x with
  |none=>exact JD t k ts m
  |some v=>
   show au.hM (Nat.succ x) m x v (nh t ts k)=k (au.hM (Nat.succ x) m x v (nh t ts fun m=>m));rw[au.v5,au.v5];exact JD t k ts _
theorem qD{β:Type}(t:au Value)(ts:List Tmp)(k:au Value->β):ng t ts k=k (Bd t ts):=JD t k ts .nil
theorem JE(t:au Value):∀(ts:List Tmp) (m:au Value) (j:Nat),(nh t ts (fun m=>m) m).get j=if j∈ts∧(t.get j).isSome then t.get j else m.get j
 |[],m,j=>by rw[if_neg (by simp)];rfl
 |x::ts,m,j=>by
  show(bo (t.get x) (fun v=>au.hM (Nat.succ x) m x v (nh t ts fun m=>m)) (nh t ts (fun m=>m) m)).get j=_;cases aa:t.get x with
  |none=>
   show(nh t ts (fun m=>m) m).get j=_;rw[JE t ts m j];by_cases hj:j=x
   ·subst hj;simp[aa]
   ·simp[List.mem_cons,hj]
  |some v=>
   show(au.hM (Nat.succ x) m x v (nh t ts fun m=>m)).get j=_;rw[au.v5,JE t ts _ j,au.eI];by_cases hj:j=x
   ·subst hj;simp[aa]
   ·simp[List.mem_cons,hj]
theorem QQ(fr:aQ)(ts:List Tmp)(j:Nat):(fr.only ts).tmp j=if j∈ts then fr.tmp j else jf:=by
 have h:=JE fr.t ts .nil j;have e:(fr.only ts).t.get j=(nh fr.t ts (fun m=>m) .nil).get j:=rfl;show Option.rec (motive:=fun _=>Value) (.chan (some 0)) (fun v=>v) ((fr.only ts).t.get j)=_;rw[e,h];by_cases hj:j∈ts
 ·rw[if_pos hj];cases aZ:fr.t.get j with
  |none=>rw[if_neg (by simp),au.get_nil];simp[aQ.tmp,aZ]
  |some v=>rw[if_pos ⟨hj,rfl⟩];simp[aQ.tmp,aZ]
 ·rw[if_neg (fun h=>hj h.1),if_neg hj,au.get_nil];rfl
theorem Rv:∀(ts:List Tmp) (fr:aQ),(∀j,(nY fr ts).tmp j=if j∈ts then jf else fr.tmp j)∧(nY fr ts).bh=fr.bh∧(nY fr ts).b3=fr.b3∧(nY fr ts).cL=fr.cL∧(nY fr ts).c8=fr.c8
 |[],fr=>⟨fun j=>by simp[nY],rfl,rfl,rfl,rfl⟩
 |t::ts,fr=>by
  obtain⟨J,U,ah,aC,a5⟩:=Rv ts (fr.put (some t) jf);obtain⟨dW,dM,eT,ih⟩:=r2 fr (some t) jf;refine⟨fun j=> ?_,U.trans dW,ah.trans dM,aC.trans eT,a5.trans ih⟩;show(nY (fr.put (some t) jf) ts).tmp j=_;rw[J j,qO];by_cases hj:j∈ts
  ·rw[if_pos hj,if_pos (List.mem_cons_of_mem _ hj)]
  ·rw[if_neg hj];by_cases e:t=j
   ·subst e;simp
   ·have:j≠t:=fun h=>e h.symm;simp[e,hj,this]
theorem SB{o:dH}{fr:aQ}{v:Value}{aj:Nat}:∀(n:Nat) (ak:List (au bL)),sameAt call o fr v aj n ak=true->∀j,j<n->∃h aE st',ak[j]? =some h∧cb call o fr ⟨h,aj⟩= .ok v aE st'
 |0,_,_,j,hj=>by omega
 |n+1,[],h,_,_=>by cases h
 |n+1,h::ak,hh,j,hj=>by
  have xo:aY.rec (motive:=fun _=>Bool) (fun v' _ _=>cond (dI v v') (sameAt call o fr v aj n ak) false) (fun _ _=>false) false (cb call o fr ⟨h,aj⟩)=true:=hh;cases he:cb call o fr ⟨h,aj⟩with
  |ok v' aE st'=>
   rw[he]at xo;have U:cond (dI v v') (sameAt call o fr v aj n ak) false=true:=xo;obtain⟨ah,aC⟩:=hU U (by simp);have:=lM _ _ ah;subst this;cases j with
   |zero=>exact⟨h,aE,st',rfl,he⟩
   |succ j=>
    obtain⟨aL,nC,br,a5,ch⟩:=SB n ak aC j (by omega);exact⟨aL,nC,br,by simpa using a5,ch⟩
  |bh _ _=>rw[he]at xo;cases xo
  |no=>rw[he]at xo;cases xo
def DStep(call:bP)(x:bB)(c:c0)(fr:aQ)(st:aw)(N:List (au bL))(v:Value)(eX:aQ)(cR:aw)(qS:List (au bL)):Prop:=
 match c with
 |.fe=>((kg fr x.g false∨(kg fr x.g true∧∃u br,cb call x.o fr st= .bh u br))∧v=undef∧eX=fr.put x.d undef∧cR=st∧qS=st.h::N)∨
  (kg fr x.g true∧∃aE,cb call x.o fr st= .ok v aE cR∧st.aj<=cR.aj∧eX=aQ.put ⟨fr.t,aE.c8,aE.bh,aE.cL,aE.b3⟩ x.d v∧qS=cR.h::N)
 |.ba ts=>eX=fr.put x.d v∧qS=N∧((kg (fr.only ts) x.g false∧v=undef∧cR=st)∨(kg (fr.only ts) x.g true∧∃aE,cb call x.o (fr.only ts) st= .ok v aE cR))
 |.read back ts=>eX=fr.put x.d v∧qS=N∧cR=st∧((kg (fr.only ts) x.g false∧v=undef)∨(kg (fr.only ts) x.g true∧sameAt call x.o (fr.only ts) v st.aj (Nat.succ back) N=true))
def Gx(call:bP)(x:bB)(c:c0)(fr:aQ)(st:aw):Prop:=c= .fe->kg fr x.g true->∀u br,cb call x.o fr st≠.bh u br
theorem amZ{fr:aQ}{g:Option (Tmp×Bool)}(h:kg fr g false)(aL:kg fr g true):False:=by
 unfold kg at h aL;rw[h]at aL;cases aL
theorem Y4{x:bB}{c:c0}{L:List (bB×c0)}{N:List (au bL)}{fr:aQ}{st:aw}{e:ee}{aE:aQ}{st':aw}(h:hI call ((x,c)::L) N fr st= .out e aE st'):
 (∃v eX cR qS,DStep call x c fr st N v eX cR qS∧Gx call x c fr st∧hI call L qS eX cR= .out e aE st')∨
 (c= .fe∧L=[]∧kg fr x.g true∧x.o.mT=true∧aE=fr∧∃u,e= .bh u∧cb call x.o fr st= .bh u st'):=by
 cases c with
 |fe=>
  have aL:hF fr x.g (aY.rec (motive:=fun _=>cC) (fun v aE st'=>ey st.aj st'.aj (hI call L (st'.h::N) (aQ.put ⟨fr.t,aE.c8,aE.bh,aE.cL,aE.b3⟩ x.d v) st') .no) (fun v st'=>cond x.o.mT (I3 L (.out (.bh v) fr st') .no) .no) .no (cb call x.o fr st))
   (hI call L (st.h::N) (fr.put x.d undef) st) .no= .out e aE st':=h
  rcases Lk aL (by simp)with⟨J,U⟩|⟨J,U⟩
  ·cases he:cb call x.o fr st with
   |ok v mu cS=>
    rw[he]at U;obtain⟨ah,aC⟩:=iC (U:ey st.aj cS.aj _ _=_) (by simp);exact .inl ⟨v,aQ.put ⟨fr.t,mu.c8,mu.bh,mu.cL,mu.b3⟩ x.d v,cS,cS.h::N,.inr ⟨J,mu,he,ah,rfl,rfl⟩,(fun _ _ u br hu=>by rw[he]at hu;cases hu),aC⟩
   |bh u br=>
    rw[he]at U;obtain⟨ah,aC⟩:=hU (U:cond _ _ _=_) (by simp);cases L with
    |nil=>
     have a5:cC.out (.bh u) fr br= .out e aE st':=aC;cases a5;exact .inr ⟨rfl,rfl,J,ah,rfl,u,rfl,rfl⟩
    |cons _ _=>
     have a5:cC.no= .out e aE st':=aC;cases a5
   |no=>rw[he]at U;cases U
  ·exact .inl ⟨undef,fr.put x.d undef,st,st.h::N,.inl ⟨.inl J,rfl,rfl,rfl,rfl⟩,(fun _ aX=>(amZ J aX).elim),U⟩
 |ba ts=>
  have aL:ng fr.t ts (fun t=>hF ⟨t,[],none,false,none⟩ x.g
   (aY.rec (motive:=fun _=>cC) (fun v _ st'=>hI call L N (fr.put x.d v) st') (fun _ _=>.no) .no (cb call x.o ⟨t,[],none,false,none⟩ st))
   (hI call L N (fr.put x.d undef) st) .no)= .out e aE st':=h
  rw[qD]at aL;have nH:hF (fr.only ts) x.g (aY.rec (motive:=fun _=>cC) (fun v _ st'=>hI call L N (fr.put x.d v) st') (fun _ _=>.no) .no (cb call x.o (fr.only ts) st))
   (hI call L N (fr.put x.d undef) st) .no= .out e aE st':=aL
  rcases Lk nH (by simp)with⟨J,U⟩|⟨J,U⟩
  ·cases he:cb call x.o (fr.only ts) st with
   |ok v mu cS=>
    rw[he]at U;exact .inl ⟨v,fr.put x.d v,cS,N,⟨rfl,rfl,.inr ⟨J,mu,he⟩⟩,(fun h=>by cases h),U⟩
   |bh _ _=>rw[he]at U;cases U
   |no=>rw[he]at U;cases U
  ·exact .inl ⟨undef,fr.put x.d undef,st,N,⟨rfl,rfl,.inl ⟨J,rfl,rfl⟩⟩,(fun h=>by cases h),U⟩
 |read back ts=>
  have aL:ng fr.t ts (fun t=>hF ⟨t,[],none,false,none⟩ x.g
   (aY.rec (motive:=fun _=>cC) (fun v _ _=>cond (sameAt call x.o ⟨t,[],none,false,none⟩ v st.aj (Nat.succ back) N) (hI call L N (fr.put x.d v) st) .no) (fun _ _=>.no) .no (cb call x.o ⟨t,[],none,false,none⟩ st))
   (hI call L N (fr.put x.d undef) st) .no)= .out e aE st':=h
  rw[qD]at aL;have nH:hF (fr.only ts) x.g (aY.rec (motive:=fun _=>cC) (fun v _ _=>cond (sameAt call x.o (fr.only ts) v st.aj (Nat.succ back) N) (hI call L N (fr.put x.d v) st) .no) (fun _ _=>.no) .no (cb call x.o (fr.only ts) st))
   (hI call L N (fr.put x.d undef) st) .no= .out e aE st':=aL
  rcases Lk nH (by simp)with⟨J,U⟩|⟨J,U⟩
  ·cases he:cb call x.o (fr.only ts) st with
   |ok v mu cS=>
    rw[he]at U;obtain⟨ah,aC⟩:=hU (U:cond _ _ _=_) (by simp);exact .inl ⟨v,fr.put x.d v,st,N,⟨rfl,rfl,rfl,.inr ⟨J,ah⟩⟩,(fun h=>by cases h),aC⟩
   |bh _ _=>rw[he]at U;cases U
   |no=>rw[he]at U;cases U
  ·exact .inl ⟨undef,fr.put x.d undef,st,N,⟨rfl,rfl,rfl,.inl ⟨J,rfl⟩⟩,(fun h=>by cases h),U⟩
structure iY(call:bP)(L:List (bB×c0))(kD:List (au bL))(fr:aQ)(st:aw)(aE:aQ)(st':aw)(F:Nat->aQ)(T:Nat->aw)(N:Nat->List (au bL))(V:Nat->Value):Prop where
 f0:F 0=fr
 t0:T 0=st
 mH:N 0=kD
 fn:F L.length=aE
 aon:T L.length=st'
 step:∀p x c,L[p]? =some (x,c)->DStep call x c (F p) (T p) (N p) (V p) (F (p+1)) (T (p+1)) (N (p+1))
def yV(call:bP)(L:List (bB×c0))(F:Nat->aQ)(T:Nat->aw)(n:Nat):Prop:=∀p x c,p≠n->L[p]? =some (x,c)->Gx call x c (F p) (T p)
def UK(call:bP)(L:List (bB×c0))(F:Nat->aQ)(T:Nat->aw)(e:ee)(aE:aQ)(st':aw):Prop:=
 (e= .norm∧yV call L F T L.length∧F L.length=aE∧T L.length=st')∨
 (∃n x u,L.length=n+1∧L[n]? =some (x,.fe)∧yV call L F T n∧kg (F n) x.g true∧x.o.mT=true∧aE=F n∧e= .bh u∧cb call x.o (F n) (T n)= .bh u st')
theorem NT:∀(L:List (bB×c0)) (kD:List (au bL)) (fr:aQ) (st:aw) (e:ee) (aE:aQ) (st':aw),hI call L kD fr st= .out e aE st'->∃F T N V,iY call L kD fr st (F L.length) (T L.length) F T N V∧UK call L F T e aE st'
 |[],kD,fr,st,e,aE,st',h=>by
  have aL:cC.out .norm fr st= .out e aE st':=h;cases aL;exact⟨fun _=>fr,fun _=>st,fun _=>kD,fun _=>undef,⟨rfl,rfl,rfl,rfl,rfl,fun p x c hp=>by simp at hp⟩,.inl ⟨rfl,fun p x c _ hp=>by simp at hp,rfl,rfl⟩⟩
 |(x,c)::L,kD,fr,st,e,aE,st',h=>by
  rcases Y4 h with⟨v,eX,cR,qS,ax,lW,J⟩|⟨rfl,rfl,hw,fH,rfl,u,rfl,iy⟩
  ·obtain⟨F,T,N,V,aX,z8⟩:=NT L qS eX cR e aE st' J;refine⟨fun p=>Nat.casesOn p fr F,fun p=>Nat.casesOn p st T,fun p=>Nat.casesOn p kD N,fun p=>Nat.casesOn p v V,⟨rfl,rfl,rfl,rfl,rfl,fun p eW bE hp=> ?_⟩,?_⟩
   ·cases p with
    |zero=>
     have:(x,c)=(eW,bE):=by simpa using hp
     cases this;show DStep call x c fr st kD v (F 0) (T 0) (N 0);rw[aX.f0,aX.t0,aX.mH];exact ax
    |succ p=>exact aX.step p eW bE (by simpa using hp)
   ·have hq:∀n,yV call L F T n->yV call ((x,c)::L) (fun p=>Nat.casesOn p fr F) (fun p=>Nat.casesOn p st T) (n+1):=by
     intro n hn p eW bE px hp;cases p with
     |zero=>
      have:(x,c)=(eW,bE):=by simpa using hp
      cases this;exact lW
     |succ p=>exact hn p eW bE (by omega) (by simpa using hp)
    rcases z8 with⟨he,hn,aG,e2⟩|⟨n,y,u,aW,a0,bx,cK⟩
    ·exact .inl ⟨he,hq _ hn,aG,e2⟩
    ·exact .inr ⟨n+1,y,u,by simp[aW],by simpa using a0,hq _ bx,cK⟩
  ·refine⟨fun p=>Nat.casesOn p aE (fun _=>aE.put x.d undef),fun p=>st,fun p=>Nat.casesOn p kD (fun _=>st.h::kD),fun _=>undef,⟨rfl,rfl,rfl,rfl,rfl,fun p eW bE hp=> ?_⟩,?_⟩
   ·cases p with
    |zero=>
     have:(x,c0.fe)=(eW,bE):=by simpa using hp
     cases this;exact .inl ⟨.inr ⟨hw,u,_,iy⟩,rfl,rfl,rfl,rfl⟩
    |succ p=>simp at hp
   ·refine .inr ⟨0,x,u,rfl,rfl,fun p eW bE px hp=> ?_,hw,fH,rfl,rfl,iy⟩;cases p with
    |zero=>exact absurd rfl px
    |succ p=>simp at hp
theorem ajc{α:Type}(l:List α)(n:Nat)(vs:List α):(∃out,∀(k:List α->aY),oX l n vs k .no=k out)∨(∀k:List α->aY,oX l n vs k .no= .no):=by
 by_cases h:n+vs.length<=l.length
 ·exact .inl ⟨_,fun k=>by rw[pM,if_pos h]⟩
 ·by_cases U:vs=[]
  ·exact .inl ⟨l,fun k=>by rw[pM,if_neg h,if_pos U]⟩
  ·exact .inr fun k=>by rw[pM,if_neg h,if_neg U]
theorem NX(fr:aQ):∀(ps:List (Nat×Nat×Operand)) (cs:List Value),(∃out,∀c,mX fr ps cs c=c out)∨(∀c,mX fr ps cs c= .no)
 |[],cs=>.inl ⟨cs,fun _=>rfl⟩
 |p::ps,cs=>by
  have hu:∀c,mX fr (p::ps) cs c=cond (rO (fr.an p.2.2)) .no (ea (ef (hT (fr.an p.2.2))) p.2.1 (ey (Nat.add p.1 p.2.1) (ef cs) (oX cs p.1 (hT (fr.an p.2.2)) (fun cs'=>mX fr ps cs' c) .no) .no) .no):=fun _=>rfl;simp only[hu];cases rO (fr.an p.2.2)with
  |true=>exact .inr fun _=>rfl
  |false=>
   simp only[cond_false,mW,nQ];split
   ·split
    ·rcases ajc cs p.1 (hT (fr.an p.2.2))with⟨out,ao⟩|hn
     ·rcases NX fr ps out with⟨mI,lq⟩|lp
      ·exact .inl ⟨mI,fun c=>by rw[ao];exact lq c⟩
      ·exact .inr fun c=>by rw[ao];exact lp c
     ·exact .inr fun c=>hn _
    ·exact .inr fun _=>rfl
   ·exact .inr fun _=>rfl
theorem LW{x:dH}{fr aE:aQ}{h0:au bL}{aj:Nat}{v:Value}{st':aw}(aa:x.rN=true)(h:cb call x fr ⟨h0,aj⟩= .ok v aE st'):
 ∃o,o≠.dead∧aE=fr∧st'=⟨h0.set aj o,aj+1⟩∧∀aL,cb call x fr ⟨aL,aj⟩= .ok v fr ⟨aL.set aj o,aj+1⟩:=by
 cases x with
 |alloc z e=>
  have h:vG z e call fr ⟨h0,aj⟩= .ok v aE st':=h;unfold vG at h;rw[gF]at h;cases h;exact⟨_,by simp,rfl,rfl,fun aL=>by show vG z e call fr ⟨aL,aj⟩=_;unfold vG;rw[gF]⟩
 |box e p=>
  have h:yd e p call fr ⟨h0,aj⟩= .ok v aE st':=h;unfold yd at h;obtain⟨J,U⟩:=xX h (by simp);rw[gF]at U;cases U;exact⟨_,by simp,rfl,rfl,fun aL=>by show yd e p call fr ⟨aL,aj⟩=_;unfold yd;simp only[J,cond_false];rw[gF]⟩
 |p6 e n z ps=>
  have h:ye e n z ps call fr ⟨h0,aj⟩= .ok v aE st':=h;unfold ye at h;rcases NX fr ps z with⟨out,ao⟩|hn
  ·rw[ao,gF]at h;cases h;exact⟨_,by simp,rfl,rfl,fun aL=>by show ye e n z ps call fr ⟨aL,aj⟩=_;unfold ye;rw[ao,gF]⟩
  ·rw[hn]at h;cases h
 |wQ e p=>
  have h:yf e p call fr ⟨h0,aj⟩= .ok v aE st':=h;unfold yf at h;obtain⟨s,ak,J⟩:=n7 h (by simp);obtain⟨hle,U⟩:=iC J (by simp);rw[gF]at U;cases U;exact⟨_,by simp,rfl,rfl,fun aL=>by
   show yf e p call fr ⟨aL,aj⟩=_;unfold yf;rw[ak];show ey (ef s.data.toList) (2^40) _ _=_;rw[nQ,if_pos hle,gF]⟩
 |tj e bn z l c=>
  have h:tv e bn z l c call fr ⟨h0,aj⟩= .ok v aE st':=h;unfold tv at h;obtain⟨bg,j2,hl,J⟩:=iF h (by simp);obtain⟨bK,p7,hc,U⟩:=iF J (by simp);obtain⟨cQ,pw,ah⟩:=lB U (by simp);obtain⟨cr,xl,aC⟩:=lB ah (by simp);obtain⟨hle,a5⟩:=iC aC (by simp);obtain⟨Ig,ch⟩:=iC a5 (by simp);rw[gF]at ch;cases ch;exact⟨_,by simp,rfl,rfl,fun aL=>by
   show tv e bn z l c call fr ⟨aL,aj⟩=_;unfold tv;rw[hl,hc,pw,xl];show ey cQ cr (ey (Nat.mul cr (Nat.succ bn)) (2^40) _ _) _=_;rw[nQ,if_pos hle,nQ,if_pos Ig,gF]⟩
 |l3=>
  have h:vH call fr ⟨h0,aj⟩= .ok v aE st':=h;unfold vH at h;rw[gF]at h;cases h;exact⟨_,by simp,rfl,rfl,fun aL=>by show vH call fr ⟨aL,aj⟩=_;unfold vH;rw[gF]⟩
 |_=>cases aa
end Go.az
namespace Go.az
def c0.vk:c0->Bool
 |.fe=>true
 |_=>false
def c0.looks:c0->List Tmp
 |.fe=>[]
 |.ba ts=>ts
 |.read _ ts=>ts
def rh(L:List (bB×c0))(q:Nat):Bool:=((L[q]?).map (·.2.vk)).getD false
structure kC(X:Ctx)(ay:Nat)(ops:Array Oper)(L:List (bB×c0))(cm:List Nat)(ec:List Tmp)(ms:List Nat):Prop where
 th:L.length=ops.size
 vp:cm.length=ops.size
 op:∀(p i:Nat) x c,cm[p]? =some i->L[p]? =some (x,c)->∃o,ops[i]? =some o∧k2 X ay ops x o=true
 ba:∀(p:Nat) x ts,L[p]? =some (x,.ba ts)->x.o.rN=true
 rd:∀(p:Nat) x n ts,L[p]? =some (x,.read n ts)->x.o.qs=true
 inj:∀(p q i:Nat),cm[p]? =some i->cm[q]? =some i->p=q
 ama:∀i,i<ops.size->∃p:Nat,cm[p]? =some i
 YM:∀(p i:Nat) o,cm[p]? =some i->ops[i]? =some o->∀e∈o.after,Region.binds .any e=true->∃q,q<p∧cm[q]? =some e.on
 mask:∀(p i:Nat) o q,cm[p]? =some i->ops[i]? =some o->(ms.getD p 0).testBit q=true->∃e∈o.after,Region.binds .any e=true∧∃r,r<p∧cm[r]? =some e.on∧(q=r∨(ms.getD r 0).testBit q=true)
 fe:∀(p:Nat) x q,L[p]? =some (x,.fe)->q<p->(ms.getD p 0).testBit q=true
 back:∀(p:Nat) x n ts,L[p]? =some (x,.read n ts)->(List.range p).countP (fun q=>rh L q&& !(ms.getD p 0).testBit q)<=n
 dst:∀(p q:Nat) x y c d t,L[p]? =some (x,c)->L[q]? =some (y,d)->x.d=some t->y.d=some t->p=q
 U7:∀(p q:Nat) x y c d t,L[p]? =some (x,c)->L[q]? =some (y,d)->p<q->y.d=some t->t∉ec->(c= .fe∨t∈c.looks)->(ms.getD q 0).testBit p=true
 dep:∀(p q:Nat) x y c d t,L[p]? =some (x,c)->L[q]? =some (y,d)->q<p->y.d=some t->t∈c.looks->(ms.getD p 0).testBit q=true
section
variable{X:Ctx}{ay:Nat}{ops:Array Oper}{L:List (bB×c0)}{cm:List Nat}{ec:List Tmp}{ms:List Nat}{call:bP}
def mg(ops:Array Oper)(cm:List Nat)(E:Nat->Prop)(p:Nat):Prop:=∀i o,cm[p]? =some i->ops[i]? =some o->∀e∈o.after,Region.binds .any e=true->∀r:Nat,cm[r]? =some e.on->E r
theorem kC.before(D:kC X ay ops L cm ec ms){E:Nat->Prop}(jq:∀p,E p->mg ops cm E p)(p:Nat):mg ops cm E p->p<ops.size->∀q,(ms.getD p 0).testBit q=true->E q:=by
 induction p using Nat.strongRecOn with
 |_ p bb=>
  intro aF hp q hq;have Iv:p<cm.length:=by rw[D.vp];exact hp
  have ag:cm[p]? =some cm[p]:=cA Iv;obtain⟨x,aa⟩:∃x,L[p]? =some x:=⟨_,cA (by rw[D.th];exact hp)⟩;obtain⟨o,ao,_⟩:=D.op p _ x.1 x.2 ag aa;obtain⟨e,he,hb,r,Ay,u6,iz⟩:=D.mask p _ o q ag ao hq;have Om:E r:=aF _ o ag ao e he hb r u6;rcases iz with rfl|iz
  ·exact Om
  ·exact bb r Ay (jq r Om) (by omega) q iz
variable{kD:List (au bL)}{fr aE:aQ}{st st':aw}{F:Nat->aQ}{T:Nat->aw}{N:Nat->List (au bL)}{V:Nat->Value}
theorem iY.QG(aX:iY call L kD fr st aE st' F T N V)(D:kC X ay ops L cm ec ms){p:Nat}(hp:p<L.length):(T p).aj<=(T (p+1)).aj:=by
 obtain⟨⟨x,c⟩,aa⟩:∃x,L[p]? =some x:=⟨_,cA hp⟩;have ak:=aX.step p x c aa;cases c with
 |fe=>
  rcases ak with⟨_,_,_,h,_⟩|⟨_,_,_,h,_⟩
  ·rw[h];exact cd _
  ·exact h
 |ba ts=>
  obtain⟨_,_,h⟩:=ak;rcases h with⟨_,_,h⟩|⟨_,mu,h⟩
  ·rw[h];exact cd _
  ·have b4:=D.ba p x ts aa;obtain⟨o,_,_,U,_⟩:=LW (h0:=(T p).h) (aj:=(T p).aj) b4 h;rw[U];exact Nat.le_succ _
 |read n ts=>obtain⟨_,_,h,_⟩:=ak;rw[h];exact cd _
theorem iY.kr(aX:iY call L kD fr st aE st' F T N V)(D:kC X ay ops L cm ec ms){p q:Nat}(h:p<=q)(hq:q<=L.length):(T p).aj<=(T q).aj:=by
 induction q with
 |zero=>have:p=0:=by omega
        subst this;exact cd _
 |succ q bb=>
  by_cases e:p=q+1
  ·subst e;exact cd _
  ·exact Nat.le_trans (bb (by omega) (by omega)) (aX.QG D (by omega))
theorem iY.Tu(aX:iY call L kD fr st aE st' F T N V){p:Nat}{x:bB}{c:c0}(aa:L[p]? =some (x,c))(t:Nat):(F (p+1)).tmp t=if x.d=some t then V p else(F p).tmp t:=by
 have ak:=aX.step p x c aa;cases c with
 |fe=>
  rcases ak with⟨_,J,h,_⟩|⟨_,mu,_,_,h,_⟩
  ·rw[h,qO,J]
  ·rw[h,qO];rfl
 |ba ts=>obtain⟨h,_⟩:=ak;rw[h,qO]
 |read n ts=>obtain⟨h,_⟩:=ak;rw[h,qO]
theorem iY.Gh(aX:iY call L kD fr st aE st' F T N V)(t:Nat):∀p,p<=L.length->(∀(q:Nat) x c,q<p->L[q]? =some (x,c)->x.d≠some t)->(F p).tmp t=(F 0).tmp t
 |0,_,_=>rfl
 |p+1,hp,h=>by
  obtain⟨⟨x,c⟩,aa⟩:∃x,L[p]? =some x:=⟨_,cA (by omega)⟩;rw[aX.Tu aa,if_neg (h p x c (by omega) aa)];exact aX.Gh t p (by omega) (fun q x c hq=>h q x c (by omega))
theorem iY.K5(aX:iY call L kD fr st aE st' F T N V)(D:kC X ay ops L cm ec ms){q:Nat}{y:bB}{d:c0}{t:Nat}(aJ:L[q]? =some (y,d))(ax:y.d=some t):∀p,q<p->p<=L.length->(F p).tmp t=V q
 |0,h,_=>by omega
 |p+1,h,hp=>by
  obtain⟨⟨x,c⟩,aa⟩:∃x,L[p]? =some x:=⟨_,cA (by omega)⟩;rw[aX.Tu aa];by_cases e:p=q
  ·subst e;rw[aa]at aJ;cases aJ;rw[if_pos ax]
  ·rw[if_neg (fun h=>e (D.dst p q x y c d t aa aJ h ax))];exact aX.K5 D aJ ax p (by omega) (by omega)
theorem iY.same(aX:iY call L kD fr st aE st' F T N V){p:Nat}{x:bB}{c:c0}(aa:L[p]? =some (x,c))(hc:c≠.fe):(F (p+1)).c8=(F p).c8∧(F (p+1)).cL=(F p).cL∧(F (p+1)).bh=(F p).bh∧(F (p+1)).b3=(F p).b3:=by
 have ak:=aX.step p x c aa;cases c with
 |fe=>exact absurd rfl hc
 |ba ts=>obtain⟨h,_⟩:=ak;obtain⟨dW,dM,eT,ih⟩:=r2 (F p) x.d (V p);rw[h];exact⟨ih,eT,dW,dM⟩
 |read n ts=>obtain⟨h,_⟩:=ak;obtain⟨dW,dM,eT,ih⟩:=r2 (F p) x.d (V p);rw[h];exact⟨ih,eT,dW,dM⟩
theorem iY.snap(aX:iY call L [st.h] fr st aE st' F T N V){c:Nat}(hc:c=0∨∃p x,c=p+1∧L[p]? =some (x,c0.fe)):∀p,c<=p->p<=L.length->
 (N p)[(List.range p).countP (fun q=>decide (c<=q)&&rh L q)]? =some (T c).h
 |0,h,_=>by
  have:c=0:=by omega
  subst this;simp[aX.mH,aX.t0]
 |p+1,h,hp=>by
  obtain⟨⟨x,k⟩,aa⟩:∃x,L[p]? =some x:=⟨_,cA (by omega)⟩;have ak:=aX.step p x k aa;by_cases e:c=p+1
  ·subst e;have a8:(List.range (p+1)).countP (fun q=>decide (p+1<=q)&&rh L q)=0:=by
    rw[List.countP_eq_zero];intro q hq;have:=List.mem_range.1 hq;simp;omega
   rw[a8];rcases hc with hc|⟨dL,eW,hc,b4⟩
   ·omega
   ·have:dL=p:=by omega
    subst this;rw[aa]at b4;cases b4;rcases ak with⟨_,_,_,J,U⟩|⟨_,_,_,_,_,U⟩
    ·rw[U,J];rfl
    ·rw[U];rfl
  ·have bb:=aX.snap hc p (by omega) (by omega);rw[List.range_succ,List.countP_append,List.countP_singleton];have fH:decide (c<=p)=true:=by simp;omega
   have H2:rh L p=k.vk:=by simp[rh,aa]
   simp only[fH,Bool.true_and,H2];cases k with
   |fe=>
    have:∃h,N (p+1)=h::N p:=by
     rcases ak with⟨_,_,_,_,U⟩|⟨_,_,_,_,_,U⟩
     ·exact⟨_,U⟩
     ·exact⟨_,U⟩
    obtain⟨h,Dn⟩:=this;rw[Dn];simpa[c0.vk]using bb
   |ba ts=>obtain⟨_,U,_⟩:=ak;rw[U];simpa[c0.vk]using bb
   |read n ts=>obtain⟨_,U,_⟩:=ak;rw[U];simpa[c0.vk]using bb
end
end Go.az
namespace Go.az
variable{X:Ctx}
def fu(ι:bq)(n:Nat):bq:=fun id=>if id<n then ι id else none
theorem jU{ι:bq}{n id:Nat}{l:Loc}:fu ι n id=some l↔id<n∧ι id=some l:=by
 unfold fu;by_cases h:id<n<;>simp[h]
theorem Np(ι:bq)(n:Nat):(fu ι n).le ι:=fun _ _ h=>(jU.1 h).2
theorem p9{ι aM:bq}{m n:Nat}(h:ι.le aM)(hn:m<=n):(fu ι m).le (fu aM n):=fun _ _ hl=>jU.2 ⟨gf (jU.1 hl).1 hn,h _ _ (jU.1 hl).2⟩
theorem Hj{ι:bq}{n:Nat}(h:∀id,n<=id->ι id=none):fu ι n=ι:=by
 funext id;unfold fu;by_cases ag:id<n
 ·simp[ag]
 ·simp[ag,h id (by omega)]
theorem bp.look{ι aM:bq}{h:au bL}{n m:Nat}{w:World}(hw:bp X ι ⟨h,n⟩ w)(hle:ι.le aM)(af:∀id,m<=id->aM id=none)(hn:n<=m)(hb:∀id l,aM id=some l->l.cU<w.heap.size):bp X aM ⟨h,m⟩ w:=by
 refine⟨fun id o ao ax=> ?_,fun i j o p l fL ag gU hj hf gA hy e=> ?_,fun id mx=>⟨af id mx,(hw.fresh id (Nat.le_trans hn mx)).2⟩,hb,fun g aZ=>hle _ _ (hw.kL g aZ),Nat.le_trans hw.nG hn,fun i l o hl ak ao ax=> ?_⟩
 ·obtain⟨l,hl,hm⟩:=hw.eu id o ao ax;exact⟨l,hle _ _ hl,iI.mono X hm hle rfl⟩
 ·obtain⟨l',cy,_⟩:=hw.eu i o ag gU;obtain⟨aoa,OQ,_⟩:=hw.eu j p hj hf;have aG:=(hle _ _ cy).symm.trans gA;have e2:=(hle _ _ OQ).symm.trans hy;cases aG;cases e2;exact hw.inj i j o p _ _ ag gU hj hf cy OQ e
 ·obtain⟨l',cy,_⟩:=hw.eu i o ao ax;have aG:=(hle _ _ cy).symm.trans hl;cases aG;exact hw.k3 i _ o cy ak ao ax
theorem bp.U2{ι:bq}{st:aw}{w:World}(hw:bp X ι st w){o:bL}{l:Loc}(ao:iI X (g8 ι st.aj l) w o l)(hb:l.cU<w.heap.size)(pB:l.bW≠jX)(cx:∀id l',ι id=some l'->l'.cU≠l.cU):
 bp X (g8 ι st.aj l) ⟨st.h.set st.aj o,st.aj+1⟩ w:=by
 have hle:ι.le (g8 ι st.aj l):=by
  intro id l' hl;show(if id=st.aj then some l else ι id)=some l';rw[if_neg];exact hl;intro e;subst e;rw[(hw.fresh _ (cd _)).1]at hl;cases hl
 have pq:g8 ι st.aj l st.aj=some l:=if_pos rfl;have mB:∀id,id≠st.aj->g8 ι st.aj l id=ι id:=fun id h=>if_neg h;refine⟨fun id p hp ax=> ?_,fun i j p q gi ie ag gU hj hf gA hy e=> ?_,fun id mx=> ?_,fun id l' cy=> ?_,fun g aZ=>hle _ _ (hw.kL g aZ),Nat.le_succ_of_le hw.nG,fun i gi p jt ak hp ax=> ?_⟩
 ·rw[au.eI]at hp;by_cases e:id=st.aj
  ·rw[if_pos e]at hp;cases hp;subst e;exact⟨l,pq,ao⟩
  ·rw[if_neg e]at hp;obtain⟨l',cy,hm⟩:=hw.eu id p hp ax;exact⟨l',hle _ _ cy,iI.mono X hm hle rfl⟩
 ·rw[au.eI]at ag hj;by_cases aG:i=st.aj
  ·by_cases e2:j=st.aj
   ·rw[aG,e2]
   ·subst aG;rw[pq]at gA;cases gA;rw[mB j e2]at hy;exact absurd e.symm (cx _ _ hy)
  ·by_cases e2:j=st.aj
   ·subst e2;rw[pq]at hy;cases hy;rw[mB i aG]at gA;exact absurd e (cx _ _ gA)
   ·rw[if_neg aG]at ag;rw[if_neg e2]at hj;rw[mB i aG]at gA;rw[mB j e2]at hy;exact hw.inj i j p q gi ie ag gU hj hf gA hy e
 ·have aa1:st.aj+1<=id:=mx;refine⟨?_,?_⟩
  ·rw[mB id (by omega)];exact(hw.fresh id (by omega)).1
  ·show(st.h.set st.aj o).get id=none;rw[au.eI,if_neg (by omega)];exact(hw.fresh id (by omega)).2
 ·by_cases e:id=st.aj
  ·subst e;rw[pq]at cy;cases cy;exact hb
  ·rw[mB id e]at cy;exact hw.gh id l' cy
 ·rw[au.eI]at hp;by_cases e:i=st.aj
  ·subst e;rw[pq]at jt;cases jt;exact absurd ak pB
  ·rw[if_neg e]at hp;rw[mB i e]at jt;exact hw.k3 i gi p jt ak hp ax
def sn(L:List (bB×c0))(F:Nat->aQ)(p:Nat):Prop:=∃x ts,L[p]? =some (x,c0.ba ts)∧kg ((F p).only ts) x.g true
structure jl(X:Ctx)(ay:Nat)(L:List (bB×c0))(F:Nat->aQ)(T:Nat->aw)(V:Nat->Value)(gQ:bq)(jM:World)(E:Nat->Prop)(c:Nat)(ι:bq)(a:Act)(w:World):Prop where
 low:∀p,p<c->E p
 CF:c<=L.length
 start:c=0∨∃p x,c=p+1∧L[p]? =some (x,c0.fe)
 A3:∀(p:Nat) x,c<=p->E p->L[p]? ≠some (x,c0.fe)
 wr:bp X (fu ι (T c).aj) (T c) w
 kh:∀id l,ι id=some l->id<(T c).aj∨∃p,c<=p∧p<L.length∧E p∧sn L F p∧id=(T p).aj
 fO:∀p,c<=p->E p->sn L F p->∃o l,T (p+1)=⟨(T p).h.set (T p).aj o,(T p).aj+1⟩∧ι (T p).aj=some l∧iI X (fu ι ((T p).aj+1)) w o l∧
  l.bW≠jX∧∀id l',ι id=some l'->id≠(T p).aj->l'.cU≠l.cU
 gh:∀id l,ι id=some l->l.cU<w.heap.size
 keeps:eV gQ ι jM w
 size:a.tmps.size=ay
 c8:qR (fu ι (T c).aj) (F c).c8 a.defers
 BU:∀(p:Nat) x gn t,L[p]? =some (x,gn)->x.d=some t->E p->bs (fu ι (max (T (p+1)).aj (T c).aj)) (V p) (a.tmps.getD t undef)
 yL:∀t,(∀(p:Nat) x gn,L[p]? =some (x,gn)->x.d=some t->¬E p)->bs gQ ((F 0).tmp t) (a.tmps.getD t undef)
section
variable{ay:Nat}{ops:Array Oper}{L:List (bB×c0)}{cm:List Nat}{ec:List Tmp}{ms:List Nat}{call:bP}
variable{fr aE:aQ}{st st':aw}{F:Nat->aQ}{T:Nat->aw}{N:Nat->List (au bL)}{V:Nat->Value}{gQ:bq}{jM:World}{E:Nat->Prop}{c:Nat}{ι:bq}{a:Act}{w:World}
theorem jl.look(cq:jl X ay L F T V gQ jM E c ι a w)(aX:iY call L [st.h] fr st aE st' F T N V)(D:kC X ay ops L cm ec ms)(h0:∀id,st.aj<=id->gQ id=none)(a8:∀t∈ec,(F 0).tmp t=jf)
 (jq:∀p,E p->mg ops cm E p) {p:Nat} {x:bB} {gn:c0} (aa:L[p]? =some (x,gn)) (aF:mg ops cm E p) (hn:¬E p) {t:Nat} (hl:gn= .fe∨t∈gn.looks):
 bs (fu ι (T p).aj) ((F p).tmp t) (a.tmps.getD t undef):=by
 have hK:p<L.length:=(List.getElem?_eq_some_iff.1 aa).1;have fH:c<=p:=by
  rcases Nat.lt_or_ge p c with h|h
  ·exact absurd (cq.low p h) hn
  ·exact h
 have iA:p<ops.size:=by rw[<-D.th];exact hK
 have zW:gQ.le (fu ι (T p).aj):=by
  intro id l hl;refine jU.2 ⟨?_,cq.keeps.le _ _ hl⟩;rcases Nat.lt_or_ge id st.aj with h|h
  ·have:=aX.kr D (Nat.zero_le p) (by omega);rw[aX.t0]at this;omega
  ·rw[h0 id h]at hl;cases hl
 by_cases hw:∃(q:Nat) (y:bB) (d:c0),L[q]? =some (y,d)∧y.d=some t
 ·obtain⟨q,y,d,aJ,ax⟩:=hw;rcases Nat.lt_or_ge q p with u4|u4
  ·have hb:(ms.getD p 0).testBit q=true:=by
    rcases hl with rfl|hl
    ·exact D.fe p x q aa u4
    ·exact D.dep p q x y gn d t aa aJ u4 ax hl
   have eY:=D.before jq p aF iA q hb;rw[aX.K5 D aJ ax p u4 (by omega)];refine(cq.BU q y d t aJ ax eY).mono (p9 (.refl ι) ?_);have J:=aX.kr D (p:=q+1) (q:=p) u4 (by omega);have U:=aX.kr D fH (by omega);omega
  ·have hold:(F p).tmp t=(F 0).tmp t:=aX.Gh t p (by omega) fun fq eW bE Ix b4 hX=>by
    have:=D.dst fq q eW y bE d t b4 aJ hX ax;omega
   rw[hold];by_cases D1:t∈ec
   ·rw[a8 t D1];exact .top _
   ·refine(cq.yL t fun fq eW bE b4 hX Ol=> ?_).mono zW;have abC:=D.dst fq q eW y bE d t b4 aJ hX ax;subst abC;by_cases e:fq=p
    ·subst e;exact hn Ol
    ·have hb:=D.U7 p fq x y gn d t aa aJ (by omega) ax D1 hl;exact hn (D.before jq fq (jq fq Ol) (by rw[<-D.th];exact(List.getElem?_eq_some_iff.1 aJ).1) p hb)
 ·have fW:∀(q:Nat) eW bE,L[q]? =some (eW,bE)->eW.d≠some t:=fun q eW bE b4 hX=>hw ⟨q,eW,bE,b4,hX⟩;rw[aX.Gh t p (by omega) fun q eW bE _ b4=>fW q eW bE b4];exact(cq.yL t fun q eW bE b4 hX=>absurd hX (fW q eW bE b4)).mono zW
theorem jl.upto(cq:jl X ay L F T V gQ jM E c ι a w)(aX:iY call L [st.h] fr st aE st' F T N V)(_D:kC X ay ops L cm ec ms):∀q,c<=q->q<=L.length->(∀r,c<=r->r<q->E r)->
 bp X (fu ι (T q).aj) (T q) w∧(F q).c8=(F c).c8∧(F q).cL=(F c).cL∧(F q).bh=(F c).bh∧(F q).b3=(F c).b3:=by
 intro q anD
 induction q with
 |zero=>
  intro _ _;have:c=0:=by omega
  subst this;exact⟨cq.wr,rfl,rfl,rfl,rfl⟩
 |succ q bb=>
  intro hq dV;by_cases e:c=q+1
  ·subst e;exact⟨cq.wr,rfl,rfl,rfl,rfl⟩
  obtain⟨i1,i2,i3,i4,i5⟩:=bb (by omega) (by omega) (fun r J U=>dV r J (by omega));obtain⟨⟨x,gn⟩,aa⟩:∃x,L[q]? =some x:=⟨_,cA (by omega)⟩;have eY:=dV q (by omega) (by omega);have cx:gn≠.fe:=fun h=>cq.A3 q x (by omega) eY (by rw[aa,h]);obtain⟨s1,s2,v3,akp⟩:=aX.same aa cx;refine⟨?_,s1.trans i2,s2.trans i3,v3.trans i4,akp.trans i5⟩;have ak:=aX.step q x gn aa;cases gn with
  |fe=>exact absurd rfl cx
  |read n ts=>obtain⟨_,_,h,_⟩:=ak;rw[h];exact i1
  |ba ts=>
   obtain⟨_,_,h⟩:=ak;rcases h with⟨_,_,h⟩|⟨ga,_⟩
   ·rw[h];exact i1
   ·obtain⟨o,l,J,U,ah,h0,aC⟩:=cq.fO q (by omega) eY ⟨x,ts,aa,ga⟩;have oA:fu ι ((T q).aj+1)=g8 (fu ι (T q).aj) (T q).aj l:=by
     funext id;unfold fu g8;by_cases aG:id=(T q).aj
     ·subst aG;simp[U]
     ·by_cases e2:id<(T q).aj
      ·simp[aG,e2];omega
      ·simp[aG,e2];omega
    rw[J];show bp X (fu ι ((T q).aj+1)) _ w;rw[oA]at ah⊢;refine i1.U2 ah (cq.gh _ _ U) h0 fun id l' cy=> ?_;obtain⟨aW,a0⟩:=jU.1 cy;exact aC id l' a0 (by omega)
end
def y4(E:Nat->Prop)(p:Nat):Nat->Prop:=fun q=>E q∨q=p
theorem uI(a:Act)(d:Option Tmp)(v:Value)(t:Nat):(a.put d v).tmps.getD t undef=if d=some t∧t<a.tmps.size then v else a.tmps.getD t undef:=by
 cases d with
 |none=>simp[Act.put]
 |some d=>
  by_cases e:d=t
  ·subst e;by_cases h:d<a.tmps.size
   ·simp[Act.put,h]
   ·simp[Act.put,h]
  ·simp only[Option.some.injEq,e,false_and,if_false];simp[Act.put,Array.getElem?_setIfInBounds_ne e]
section
variable{ay:Nat}{ops:Array Oper}{L:List (bB×c0)}{cm:List Nat}{ec:List Tmp}{ms:List Nat}{call:bP}
variable{fr aE:aQ}{st st':aw}{F:Nat->aQ}{T:Nat->aw}{N:Nat->List (au bL)}{V:Nat->Value}{gQ:bq}{jM:World}{E:Nat->Prop}{c:Nat}{ι:bq}{a:Act}{w:World}
theorem jl.float(cq:jl X ay L F T V gQ jM E c ι a w)(D:kC X ay ops L cm ec ms){p:Nat}{x:bB}{gn:c0}(aa:L[p]? =some (x,gn))(hc:gn≠.fe)(fH:c<=p)(xc:¬sn L F p){v':Value}
 (ax:∀t,x.d=some t->t<ay) (aD:bs (fu ι (T (p+1)).aj) (V p) v'):jl X ay L F T V gQ jM (y4 E p) c ι (a.put x.d v') w:=by
 have fa:(a.put x.d v').tmps.size=ay:=by rw[<-cq.size];cases x.d<;>simp[Act.put]
 refine⟨fun q hq=>.inl (cq.low q hq),cq.CF,cq.start,fun q y hq eY=> ?_,cq.wr,fun id l hl=> ?_,fun q hq eY iv=> ?_,cq.gh,cq.keeps,fa,?_,fun q y k t aJ h2 eY=> ?_,fun t fW=> ?_⟩
 ·rcases eY with eY|rfl
  ·exact cq.A3 q y hq eY
  ·intro h;rw[aa]at h;cases h;exact hc rfl
 ·rcases cq.kh id l hl with h|⟨q,J,U,ah,aC⟩
  ·exact .inl h
  ·exact .inr ⟨q,J,U,.inl ah,aC⟩
 ·rcases eY with eY|rfl
  ·exact cq.fO q hq eY iv
  ·exact absurd iv xc
 ·have:(a.put x.d v').defers=a.defers:=by cases x.d<;>rfl
  rw[this];exact cq.c8
 ·rw[uI];by_cases e:q=p
  ·subst e;rw[aa]at aJ;cases aJ;rw[if_pos ⟨h2,by rw[cq.size];exact ax t h2⟩];exact aD.mono (p9 (.refl ι) (Nat.le_max_left _ _))
  ·rw[if_neg (fun h=>e (D.dst q p y x k gn t aJ aa h2 h.1))];rcases eY with eY|h
   ·exact cq.BU q y k t aJ h2 eY
   ·exact absurd h e
 ·rw[uI,if_neg (fun h=>fW p x gn aa h.1 (.inr rfl))];exact cq.yL t fun q y k aJ h2 eY=>fW q y k aJ h2 (.inl eY)
theorem jl.Zn(cq:jl X ay L F T V gQ jM E c ι a w)(aX:iY call L [st.h] fr st aE st' F T N V)(D:kC X ay ops L cm ec ms){p:Nat}{x:bB}{ts:List Tmp}(aa:L[p]? =some (x,.ba ts))(fH:c<=p)(lW:¬E p)
 {v':Value} {o:bL} {O:Obj} {l:Loc} {w':World} (ax:∀t,x.d=some t->t<ay) (jG:T (p+1)=⟨(T p).h.set (T p).aj o,(T p).aj+1⟩) (hl:l.cU=w.heap.size) (aa8:l.bW≠jX) (hh:w'.heap=w.heap.push O) (gw:o9 w w')
 (aD:bs (g8 (fu ι (T p).aj) (T p).aj l) (V p) v') (ao:iI X (g8 (fu ι (T p).aj) (T p).aj l) w' o l):jl X ay L F T V gQ jM (y4 E p) c (g8 ι (T p).aj l) (a.put x.d v') w':=by
 have hK:p<L.length:=(List.getElem?_eq_some_iff.1 aa).1;have rB:ι (T p).aj=none:=by
  cases hn:ι (T p).aj with
  |none=>rfl
  |some m=>
   rcases cq.kh _ _ hn with h|⟨q,J,U,ah,aC,a5⟩
   ·have:=aX.kr D fH (by omega);omega
   ·obtain⟨cg,l',ch,_⟩:=cq.fO q J ah aC;have cV:(T (q+1)).aj=(T q).aj+1:=by rw[ch]
    have Ot:(T (p+1)).aj=(T p).aj+1:=by rw[jG]
    rcases Nat.lt_trichotomy q p with h|h|h
    ·have:=aX.kr D (p:=q+1) (q:=p) h (by omega);omega
    ·subst h;exact absurd ah lW
    ·have:=aX.kr D (p:=p+1) (q:=q) h (by omega);omega
 have hle:ι.le (g8 ι (T p).aj l):=by
  intro id l' cy;show(if id=(T p).aj then some l else ι id)=some l';rw[if_neg];exact cy;intro e;subst e;rw[rB]at cy;cases cy
 have pq:g8 ι (T p).aj l (T p).aj=some l:=if_pos rfl;have mB:∀id,id≠(T p).aj->g8 ι (T p).aj l id=ι id:=fun id h=>if_neg h;have oA:∀n,(T p).aj<n->(g8 (fu ι (T p).aj) (T p).aj l).le (fu (g8 ι (T p).aj l) n):=by
  intro n hn id l' cy;unfold g8 at cy;by_cases e:id=(T p).aj
  ·rw[if_pos e]at cy;cases cy;subst e;exact jU.2 ⟨hn,pq⟩
  ·rw[if_neg e]at cy;obtain⟨J,U⟩:=jU.1 cy;exact jU.2 ⟨by omega,by rw[mB id e];exact U⟩
 have hold:∀b,b<w.heap.size->w'.heap[b]? =w.heap[b]? :=fun b hb=>by rw[hh,Array.getElem?_push,if_neg (by omega)]
 have an2:w'.heap.size=w.heap.size+1:=by rw[hh];simp
 have fa:(a.put x.d v').tmps.size=ay:=by rw[<-cq.size];cases x.d<;>simp[Act.put]
 have ko:=aX.kr D fH (by omega);have Oq:fu (g8 ι (T p).aj l) (T c).aj=fu ι (T c).aj:=by
  funext id;unfold fu;by_cases h:id<(T c).aj
  ·rw[if_pos h,if_pos h,mB id (by omega)]
  ·rw[if_neg h,if_neg h]
 have Ot:(T (p+1)).aj=(T p).aj+1:=by rw[jG]
 refine⟨fun q hq=>.inl (cq.low q hq),cq.CF,cq.start,fun q y hq eY=> ?_,?_,fun id l' cy=> ?_,fun q hq eY iv=> ?_,fun id l' cy=> ?_,?_,fa,?_,fun q y k t aJ h2 eY=> ?_,fun t fW=> ?_⟩
 ·rcases eY with eY|rfl
  ·exact cq.A3 q y hq eY
  ·intro h;rw[aa]at h;cases h
 ·rw[Oq];refine⟨fun id cg lq hX=> ?_,cq.wr.inj,cq.wr.fresh,fun id l' cy=> ?_,cq.wr.kL,cq.wr.nG,cq.wr.k3⟩
  ·obtain⟨l',J,U⟩:=cq.wr.eu id cg lq hX;exact⟨l',J,iI.mono X U (.refl _) (hold _ (cq.wr.gh id l' J))⟩
  ·have:=cq.wr.gh id l' cy;omega
 ·by_cases e:id=(T p).aj
  ·by_cases iv:sn L F p
   ·exact .inr ⟨p,fH,hK,.inr rfl,iv,e⟩
   ·exfalso;have ak:=aX.step p x (.ba ts) aa;obtain⟨_,_,h⟩:=ak;rcases h with⟨_,_,h⟩|⟨h,_⟩
    ·rw[h]at Ot;omega
    ·exact iv ⟨x,ts,aa,h⟩
  ·rw[mB id e]at cy;rcases cq.kh id l' cy with h|⟨q,J,U,ah,aC⟩
   ·exact .inl h
   ·exact .inr ⟨q,J,U,.inl ah,aC⟩
 ·by_cases e:q=p
  ·subst e;refine⟨o,l,jG,pq,iI.mono X ao (oA _ (Nat.lt_succ_self _)) rfl,aa8,fun id l' cy cx=> ?_⟩;rw[mB id cx]at cy;have:=cq.gh id l' cy;omega
  ·rcases eY with eY|h
   ·obtain⟨cg,l',J,U,ah,h0,aC⟩:=cq.fO q hq eY iv;refine⟨cg,l',J,hle _ _ U,iI.mono X ah (p9 hle (cd _)) (hold _ (cq.gh _ _ U)),h0,fun id m hm cx=> ?_⟩;by_cases cj:id=(T p).aj
    ·subst cj;rw[pq]at hm;cases hm;have:=cq.gh _ _ U;omega
    ·rw[mB id cj]at hm;exact aC id m hm cx
   ·exact absurd h e
 ·by_cases e:id=(T p).aj
  ·subst e;rw[pq]at cy;cases cy;omega
  ·rw[mB id e]at cy;have:=cq.gh id l' cy;omega
 ·refine cq.keeps.trans ⟨hle,by omega,fun b hb _=>hold b hb,fun id l' cy=> ?_,gw⟩;by_cases e:id=(T p).aj
  ·subst e;rw[pq]at cy;cases cy;exact .inr (.inl (by omega))
  ·rw[mB id e]at cy;exact .inl cy
 ·have:(a.put x.d v').defers=a.defers:=by cases x.d<;>rfl
  rw[this,Oq];exact cq.c8
 ·rw[uI];by_cases e:q=p
  ·subst e;rw[aa]at aJ;cases aJ;rw[if_pos ⟨h2,by rw[cq.size];exact ax t h2⟩];exact aD.mono (oA _ (by omega))
  ·rw[if_neg (fun h=>e (D.dst q p y x k _ t aJ aa h2 h.1))];rcases eY with eY|h
   ·exact(cq.BU q y k t aJ h2 eY).mono (p9 hle (cd _))
   ·exact absurd h e
 ·rw[uI,if_neg (fun h=>fW p x _ aa h.1 (.inr rfl))];exact cq.yL t fun q y k aJ h2 eY=>fW q y k aJ h2 (.inl eY)
theorem jl.effect(cq:jl X ay L F T V gQ jM E c ι a w)(aX:iY call L [st.h] fr st aE st' F T N V)(D:kC X ay ops L cm ec ms){p:Nat}{x:bB}(aa:L[p]? =some (x,.fe))(fH:c<=p)(uN:∀q,q<p->E q)
 {aM:bq} {a':Act} {w':World} {v':Value} (ax:∀t,x.d=some t->t<ay) (hw:bp X aM (T (p+1)) w') (ae:eV (fu ι (T p).aj) aM w w') (a2:a'.tmps=(a.put x.d v').tmps) (aD:bs aM (V p) v'∨x.d=none) (mv:qR aM (F (p+1)).c8 a'.defers):
 ∃fy,jl X ay L F T V gQ jM (y4 E p) (p+1) fy a' w':=by
 have hK:p<L.length:=(List.getElem?_eq_some_iff.1 aa).1;have anP:=aX.QG D hK;have ko:=aX.kr D fH (by omega);have abi:¬sn L F p:=fun⟨y,ts,aJ,_⟩=>by rw[aa]at aJ;cases aJ
 have Pa:∀q,c<=q->q<L.length->E q->sn L F q->(q<p∧(T q).aj<(T p).aj)∨(p<q∧(T (p+1)).aj<=(T q).aj):=by
  intro q J U ah aC;obtain⟨cg,l',ch,_⟩:=cq.fO q J ah aC;have cV:(T (q+1)).aj=(T q).aj+1:=by rw[ch]
  rcases Nat.lt_trichotomy q p with h|h|h
  ·left;have:=aX.kr D (p:=q+1) (q:=p) h (by omega);exact⟨h,by omega⟩
  ·subst h;exact absurd aC abi
  ·right;exact⟨h,aX.kr D (p:=p+1) (q:=q) h (by omega)⟩
 let fy:bq:=fun id=>if id<(T (p+1)).aj then aM id else ι id
 have Al:∀id,id<(T (p+1)).aj->fy id=aM id:=fun id h=>if_pos h;have Ae:∀id,(T (p+1)).aj<=id->fy id=ι id:=fun id h=>if_neg (by omega);have hle:ι.le fy:=by
  intro id l hl;rcases Nat.lt_or_ge id (T (p+1)).aj with h|h
  ·rw[Al id h];apply ae.le;refine jU.2 ⟨?_,hl⟩;rcases cq.kh id l hl with J|⟨q,J,U,ah,aC,a5⟩
   ·omega
   ·rcases Pa q J U ah aC with⟨_,ch⟩|⟨_,ch⟩<;>omega
  ·rw[Ae id h];exact hl
 have oA:fu fy (T (p+1)).aj=aM:=by
  funext id;unfold fu;by_cases h:id<(T (p+1)).aj
  ·rw[if_pos h,Al id h]
  ·rw[if_neg h,(hw.fresh id (by omega)).1]
 have ach:∀n,(T (p+1)).aj<=n->aM.le (fu fy n):=by
  intro n hn;rw[<-oA];exact p9 (.refl _) hn
 have hx:eV ι fy w w':=by
  refine⟨hle,ae.size,fun b hb ag=>ae.kept b hb fun id l hl ak=>ag id l (jU.1 hl).2 ak,fun id l hl=> ?_,ae.gw⟩;rcases Nat.lt_or_ge id (T (p+1)).aj with h|h
  ·rw[Al id h]at hl;rcases ae.new id l hl with J|J|⟨j,m,J,U,ah⟩
   ·exact .inl (jU.1 J).2
   ·exact .inr (.inl J)
   ·exact .inr (.inr ⟨j,m,(jU.1 J).2,U,ah⟩)
  ·rw[Ae id h]at hl;exact .inl hl
 have fa:a'.tmps.size=ay:=by rw[a2,<-cq.size];cases x.d<;>simp[Act.put]
 refine⟨fy,fun q hq=> ?_,hK,.inr ⟨p,x,rfl,aa⟩,fun q y hq eY=> ?_,by rw[oA];exact hw,fun id l hl=> ?_,fun q hq eY iv=> ?_,fun id l hl=> ?_,cq.keeps.trans hx,fa,by rw[oA];exact mv,fun q y k t aJ h2 eY=> ?_,fun t fW=> ?_⟩
 ·by_cases e:q=p
  ·exact .inr e
  ·exact .inl (uN q (by omega))
 ·rcases eY with eY|h
  ·exact cq.A3 q y (by omega) eY
  ·omega
 ·rcases Nat.lt_or_ge id (T (p+1)).aj with h|h
  ·exact .inl h
  ·rw[Ae id h]at hl;rcases cq.kh id l hl with J|⟨q,J,U,ah,aC,a5⟩
   ·omega
   ·rcases Pa q J U ah aC with⟨_,ch⟩|⟨ch,_⟩
    ·omega
    ·exact .inr ⟨q,ch,U,.inl ah,aC,a5⟩
 ·rcases eY with eY|h
  ·have aby:=iv;obtain⟨cg,l',J,U,ah,h0,aC⟩:=cq.fO q (by omega) eY iv;have xB:q<L.length:=by obtain⟨y,ts,aJ,_⟩:=aby;exact(List.getElem?_eq_some_iff.1 aJ).1
   have Ix:(T (p+1)).aj<=(T q).aj:=aX.kr D hq (by omega);refine⟨cg,l',J,hle _ _ U,iI.mono X ah (p9 hle (cd _)) ?_,h0,fun id m hm cx=> ?_⟩
   ·exact ae.kept l'.cU (cq.gh _ _ U) fun id m hm _=>aC id m (jU.1 hm).2 (by have:=(jU.1 hm).1;omega)
   ·rcases Nat.lt_or_ge id (T (p+1)).aj with h|h
    ·rw[Al id h]at hm;rcases ae.new id m hm with aW|aW|⟨j,fL,aW,_,a0⟩
     ·exact aC id m (jU.1 aW).2 cx
     ·have:=cq.gh _ _ U;omega
     ·have:=aC j fL (jU.1 aW).2 (by have:=(jU.1 aW).1;omega);omega
    ·rw[Ae id h]at hm;exact aC id m hm cx
  ·omega
 ·rcases Nat.lt_or_ge id (T (p+1)).aj with h|h
  ·rw[Al id h]at hl;exact hw.gh id l hl
  ·rw[Ae id h]at hl;exact gf (cq.gh id l hl) ae.size
 ·rw[a2,uI];by_cases e:q=p
  ·subst e;rw[aa]at aJ;cases aJ;rw[if_pos ⟨h2,by rw[cq.size];exact ax t h2⟩];rcases aD with aD|aD
   ·exact aD.mono (ach _ (Nat.le_max_left _ _))
   ·rw[h2]at aD;cases aD
  ·rw[if_neg (fun h=>e (D.dst q p y x k _ t aJ aa h2 h.1))];rcases eY with eY|h
   ·refine(cq.BU q y k t aJ h2 eY).mono (p9 hle ?_);omega
   ·exact absurd h e
 ·rw[a2,uI,if_neg (fun h=>fW p x _ aa h.1 (.inr rfl))];exact cq.yL t fun q y k aJ h2 eY=>fW q y k aJ h2 (.inl eY)
end
end Go.az
namespace Go.az
variable{X:Ctx}{call:bP}
theorem ajZ{x:dH}(h:x.qs=true):x.inPlace=true:=by cases x<;>first|rfl|cases h
theorem U4{x:dH}(h:x.rN=true):x.inPlace=true:=by cases x<;>first|rfl|cases h
theorem Qw{op:Op}{x:dH}(dK:X.jv op x=true)(aa:x.qs=true∨x.rN=true)(c:Call):op≠.defer c:=by
 intro hc;rw[hc]at dK;cases xF:x with
 |vz fn p q=>rw[xF]at dK;cases fn<;>cases dK
 |xM p=>rw[xF]at aa;rcases aa with h|h<;>cases h
 |refuse=>rw[xF]at aa;rcases aa with h|h<;>cases h
 |qb p q=>rw[xF]at aa;rcases aa with h|h<;>cases h
 |ext y=>rw[xF]at dK;cases y<;>cases dK
 |_=>rw[xF]at dK;cases dK
section
variable{ay:Nat}{ops:Array Oper}{L:List (bB×c0)}{cm:List Nat}{ec:List Tmp}{ms:List Nat}
variable{fr aE:aQ}{st st':aw}{F:Nat->aQ}{T:Nat->aw}{N:Nat->List (au bL)}{V:Nat->Value}{gQ:bq}{jM:World}{E:Nat->Prop}{c:Nat}{ι:bq}{a:Act}{w:World}
variable{b:dG}{bc:Bool->List Frame}{k:List Item}{i:Nat}{rest:List Nat}
theorem wq{x:bB}{o:Oper}{t:Bool}(h:k2 X ay ops x o=true)(af:cE ι fr a ay)(ae:kg fr x.g t):Region.wanted o (yielded ops a.tmps)=t:=by
 rcases UC h af ae (by simp)with⟨e,hw⟩|⟨e,hw⟩
 ·cases e;exact hw
 ·cases e;exact hw
theorem jl.SC(cq:jl X ay L F T V gQ jM E c ι a w)(aX:iY call L [st.h] fr st aE st' F T N V)(D:kC X ay ops L cm ec ms)(h0:∀id,st.aj<=id->gQ id=none)(a8:∀t∈ec,(F 0).tmp t=jf)
 (jq:∀p,E p->mg ops cm E p) {p:Nat} {x:bB} {gn:c0} (aa:L[p]? =some (x,gn)) (aF:mg ops cm E p) (hn:¬E p) (fH:c<=p):
 cE (fu ι (T p).aj) ((F p).only gn.looks) ⟨a.tmps,[]⟩ ay∧bp X (fu ι (T p).aj) ⟨(T c).h,(T p).aj⟩ w:=by
 have hK:p<L.length:=(List.getElem?_eq_some_iff.1 aa).1;refine⟨⟨fun t=> ?_,cq.size,trivial⟩,?_⟩
 ·rw[QQ];by_cases h:t∈gn.looks
  ·rw[if_pos h];exact cq.look aX D h0 a8 jq aa aF hn (.inr h)
  ·rw[if_neg h];exact .top _
 ·have ko:=aX.kr D fH (by omega);refine bp.look (n:=(T c).aj) (ι:=fu ι (T c).aj) cq.wr (p9 (.refl ι) ko) (fun id mx=> ?_) ko (fun id l hl=>cq.gh id l (jU.1 hl).2);show(if id<(T p).aj then ι id else none)=none;rw[if_neg (by omega)]
theorem YA(ej:kB X call)(cq:jl X ay L F T V gQ jM E c ι a w)(aX:iY call L [st.h] fr st aE st' F T N V)(D:kC X ay ops L cm ec ms)(h0:∀id,st.aj<=id->gQ id=none)(a8:∀t∈ec,(F 0).tmp t=jf)
 (jq:∀p,E p->mg ops cm E p) {p:Nat} (hp:p<L.length) (lW:∀x c,L[p]? =some (x,c)->Gx call x c (F p) (T p)) (ag:cm[p]? =some i) (aF:mg ops cm E p) (hn:¬E p) (hb:mh gQ (F 0).b3 b.b3) (m8:iJ b (F 0).bh gQ bc) (hZ:(F c).bh=(F 0).bh) (h1:(F c).b3=(F 0).b3):
 ∃bE fy a' w',Steps X.P (lone (b.at a (.inRegion ops (i::rest)::k)) (bc (F c).cL) w) (lone (b.at a' (.inRegion ops rest::k)) (bc (F bE).cL) w')∧jl X ay L F T V gQ jM (y4 E p) bE fy a' w'∧
  (F bE).bh=(F 0).bh∧(F bE).b3=(F 0).b3:=by
 obtain⟨⟨x,gn⟩,aa⟩:∃x,L[p]? =some x:=⟨_,cA hp⟩;obtain⟨o,ao,bM⟩:=D.op p i x gn ag aa;obtain⟨kl,km⟩:=EP bM;have iA:p<ops.size:=by rw[<-D.th];exact hp
 have fH:c<=p:=by
  rcases Nat.lt_or_ge p c with h|h
  ·exact absurd (cq.low p h) hn
  ·exact h
 have ak:=aX.step p x gn aa;have oG:=aX.kr D (Nat.zero_le p) (by omega);rw[aX.t0]at oG;have zW:gQ.le (fu ι (T p).aj):=by
  intro id l hl;refine jU.2 ⟨?_,cq.keeps.le _ _ hl⟩;rcases Nat.lt_or_ge id st.aj with h|h
  ·omega
  ·rw[h0 id h]at hl;cases hl
 cases gn with
 |fe=>
  have uN:∀q,q<p->E q:=fun q hq=>D.before jq p aF iA q (D.fe p x q aa hq);obtain⟨ij,gP,we,tR,tS⟩:=cq.upto aX D p fH (by omega) (fun r _ h=>uN r h);have af:cE (fu ι (T p).aj) (F p) a ay:=⟨fun t=>cq.look aX D h0 a8 jq aa aF hn (.inl rfl),cq.size,by rw[gP];exact cq.c8.mono (p9 (.refl ι) (aX.kr D fH (by omega)))⟩;rcases ak with⟨ga|⟨ga,u,br,px⟩,aD,aA,jG,_⟩|⟨ga,eX,iy,_,aA,_⟩
  ·have lY:=wq bM af ga;have gC:=Gc (P:=X.P) (b:=b) (k:=k) (cs:=bc (F c).cL) (w:=w) (rest:=rest) ao lY;obtain⟨dW,dM,eT,ih⟩:=r2 (F p) x.d undef;obtain⟨fy,jF⟩:=cq.effect aX D aa fH uN (aM:=fu ι (T p).aj) (a':=a.put x.d undef) (w':=w) (v':=undef) km (by rw[jG];exact ij) (.refl _ _) rfl (.inl (by rw[aD];exact bs.undef _)) (by
    rw[aA,ih];have:(a.put x.d undef).defers=a.defers:=by cases x.d<;>rfl
    rw[this];exact af.c8)
   refine⟨p+1,fy,_,w,?_,jF,?_,?_⟩
   ·rw[aA,eT,we,kl];exact .one gC
   ·rw[aA,dW,tR,hZ]
   ·rw[aA,dM,tS,h1]
  ·exact absurd px (lW x .fe aa rfl ga u br)
  ·have lY:=wq bM af ga;obtain⟨aM,a',w',gC,eD,ek,ae,abw,abI,v',oy⟩:=Rf (b:=b) (bc:=bc) (k:=k) (rest:=rest) bM ej ao lY af ij (by rw[tS,h1];exact hb.mono zW) (by rw[tR,hZ];exact m8.mono zW) iy;have DV:=r2 ⟨(F p).t,eX.c8,eX.bh,eX.cL,eX.b3⟩ x.d (V p);have aD:bs aM (V p) v'∨x.d=none:=by
    cases AI:x.d with
    |none=>exact .inr rfl
    |some t=>
     left;have:=eD.tmp t;rw[qO,if_pos AI,oy,<-kl,uI,if_pos ⟨AI,by rw[cq.size];exact km t AI⟩]at this;exact this
   obtain⟨fy,jF⟩:=cq.effect aX D aa fH uN (aM:=aM) (a':=a') (w':=w') (v':=v') km ek ae (by rw[oy,kl]) aD (by
    rw[aA,DV.2.2.2];have:=eD.c8;rw[(r2 eX x.d (V p)).2.2.2]at this;exact this)
   refine⟨p+1,fy,a',w',?_,jF,?_,?_⟩
   ·rw[aA,DV.2.2.1,<-we];exact gC
   ·rw[aA,DV.1];exact abw.trans (tR.trans hZ)
   ·rw[aA,DV.2.1];exact abI.trans (tS.trans h1)
 |read n ts=>
  obtain⟨aW,a0⟩:=cq.SC aX D h0 a8 jq aa aF hn fH;have DP:¬sn L F p:=fun⟨y,K7,aJ,_⟩=>by rw[aa]at aJ;cases aJ
  obtain⟨_,_,jG,kW⟩:=ak;rcases kW with⟨ga,aD⟩|⟨ga,lr⟩
  ·have lY:=wq bM aW ga;have gC:=Gc (P:=X.P) (b:=b) (a:=a) (k:=k) (cs:=bc (F c).cL) (w:=w) (rest:=rest) ao lY;exact⟨c,ι,_,w,.one gC,by rw[<-kl];exact cq.float D aa (by simp) fH DP km (by rw[aD];exact bs.undef _),hZ,h1⟩
  ·have lY:=wq bM aW ga;have aaC:(List.range p).countP (fun q=>decide (c<=q)&&rh L q)<n+1:=by
    refine Nat.lt_succ_of_le (Nat.le_trans (List.countP_mono_left fun q hq hh=> ?_) (D.back p x n ts aa));simp only[b2,decide_eq_true_eq]at hh⊢;refine⟨hh.2,?_⟩;cases D0:(ms.getD p 0).testBit q with
    |false=>rfl
    |true=>
     exfalso;have eY:=D.before jq p aF iA q D0;have he:=hh.2;unfold rh at he;cases aJ:L[q]? with
     |none=>rw[aJ]at he;cases he
     |some y=>
      obtain⟨y1,UH⟩:=y;rw[aJ]at he;cases UH with
      |fe=>exact cq.A3 q y1 hh.1 eY aJ
      |ba _=>cases he
      |read _ _=>cases he
   obtain⟨hh,mu,cS,aG,e2⟩:=SB _ _ lr _ aaC;have cw:=aX.snap cq.start p fH (by omega);rw[cw]at aG;cases aG;have dK:=Bg bM;have pz:=D.rd p x n ts aa;obtain⟨_,_,c9,_⟩:=JG dK aW a0 e2 (ajZ pz);obtain⟨_,_,v',fw,aD⟩:=c9 pz;have Az:(execOp a.eval o).run X.P w= .ok (.value v') w:=fw;have gC:=Gd (b:=b) (a:=a) (k:=k) (cs:=bc (F c).cL) (rest:=rest) ao lY (.inr (Qw dK (.inl pz))) Az;exact⟨c,ι,_,w,.one gC,by rw[<-kl];exact cq.float D aa (by simp) fH DP km (by rw[jG];exact aD),hZ,h1⟩
 |ba ts=>
  obtain⟨aW,a0⟩:=cq.SC aX D h0 a8 jq aa aF hn fH;obtain⟨_,_,kW⟩:=ak;rcases kW with⟨ga,aD,jG⟩|⟨ga,eX,iy⟩
  ·have lY:=wq bM aW ga;have gC:=Gc (P:=X.P) (b:=b) (a:=a) (k:=k) (cs:=bc (F c).cL) (w:=w) (rest:=rest) ao lY;have DP:¬sn L F p:=fun⟨y,K7,aJ,ek⟩=>by
    rw[aa]at aJ;cases aJ;have J:hF ((F p).only ts) x.g (some true) (some false) none=some false:=ga;have U:hF ((F p).only ts) x.g (some true) (some false) none=some true:=ek;rw[J]at U;cases U
   exact⟨c,ι,_,w,.one gC,by rw[<-kl];exact cq.float D aa (by simp) fH DP km (by rw[aD];exact bs.undef _),hZ,h1⟩
  ·have lY:=wq bM aW ga;have xc:=D.ba p x ts aa;have dK:=Bg bM;obtain⟨EF,abl,_,jG,dV⟩:=LW (h0:=(T p).h) (aj:=(T p).aj) xc iy;obtain⟨_,_,_,iv⟩:=JG dK aW a0 (dV (T c).h) (U4 xc);obtain⟨g3,O,ex,v',w',aG,e2,fw,H7,aD,ek,ae⟩:=iv xc;have m6:(some EF:Option bL)=some g3:=by
    have:=congrArg (fun s:aw=>s.h.get (T p).aj) aG;simp only[au.eI,if_true]at this;exact this
   cases m6;have u0:iI X (g8 (fu ι (T p).aj) (T p).aj ⟨w.heap.size,0,ex,id⟩) w' EF ⟨w.heap.size,0,ex,id⟩:=by
    obtain⟨l,hl,hm⟩:=ek.eu (T p).aj EF (by show((T c).h.set (T p).aj EF).get (T p).aj=_;rw[au.eI,if_pos rfl]) abl;have:g8 (fu ι (T p).aj) (T p).aj ⟨w.heap.size,0,ex,id⟩ (T p).aj=some ⟨w.heap.size,0,ex,id⟩:=if_pos rfl;have e:=this.symm.trans hl;cases e;exact hm
   have Az:(execOp a.eval o).run X.P w= .ok (.value v') w':=fw;have gC:=Gd (b:=b) (a:=a) (k:=k) (cs:=bc (F c).cL) (rest:=rest) ao lY (.inr (Qw dK (.inr xc))) Az;exact⟨c,_,_,w',.one gC,by rw[<-kl];exact cq.Zn aX D aa fH hn km jG (by rfl) (by exact IM) H7 ae.gw aD u0,hZ,h1⟩
theorem Yy(ej:kB X call)(cq:jl X ay L F T V gQ jM E c ι a w)(aX:iY call L [st.h] fr st aE st' F T N V)(D:kC X ay ops L cm ec ms)(h0:∀id,st.aj<=id->gQ id=none)(a8:∀t∈ec,(F 0).tmp t=jf)
 (jq:∀p,E p->mg ops cm E p) {p:Nat} (hp:p<L.length) {x:bB} (aa:L[p]? =some (x,.fe)) (ag:cm[p]? =some i) (aF:mg ops cm E p) (hn:¬E p) (hZ:(F c).bh=(F 0).bh) (h1:(F c).b3=(F 0).b3)
 (anJ:L.length=p+1) (ga:kg (F p) x.g true) (xl:x.o.mT=true) {u:Value} {Tm:aw} (iy:cb call x.o (F p) (T p)= .bh u Tm):
 ∃aM v' w',Steps X.P (lone (b.at a (.inRegion ops (i::rest)::k)) (bc (F p).cL) w) (lone (b.panics a (.inRegion ops (i::rest)::k) v') (bc (F p).cL) w')∧bs aM u v'∧bp X aM Tm w'∧eV gQ aM jM w'∧cE aM (F p) a ay∧
  (F c).cL=(F p).cL∧(F p).bh=(F 0).bh∧(F p).b3=(F 0).b3:=by
 obtain⟨o,ao,bM⟩:=D.op p i x .fe ag aa;have iA:p<ops.size:=by rw[<-D.th];exact hp
 have fH:c<=p:=by
  rcases Nat.lt_or_ge p c with h|h
  ·exact absurd (cq.low p h) hn
  ·exact h
 have uN:∀q,q<p->E q:=fun q hq=>D.before jq p aF iA q (D.fe p x q aa hq);obtain⟨ij,gP,we,tR,tS⟩:=cq.upto aX D p fH (by omega) (fun r _ h=>uN r h);have af:cE (fu ι (T p).aj) (F p) a ay:=⟨fun t=>cq.look aX D h0 a8 jq aa aF hn (.inl rfl),cq.size,by rw[gP];exact cq.c8.mono (p9 (.refl ι) (aX.kr D fH (by omega)))⟩;have lY:=wq bM af ga;obtain⟨aM,v',w',ak,aD,ek,ae⟩:=Rg (b:=b) (k:=k) (rest:=rest) (cs:=bc (F p).cL) bM ej ao lY af ij xl iy;have ve:fu ι (T p).aj=ι:=by
  refine Hj fun id mx=> ?_;cases hl:ι id with
  |none=>rfl
  |some l=>
   exfalso;rcases cq.kh id l hl with h|⟨q,J,U,ah,aC,a5⟩
   ·have:=aX.kr D fH (by omega);omega
   ·obtain⟨cg,l',ch,_⟩:=cq.fO q J ah aC;have cV:(T (q+1)).aj=(T q).aj+1:=by rw[ch]
    have:=aX.kr D (p:=q+1) (q:=p) (by
     have:q≠p:=fun e=>by subst e;exact hn ah
     omega) (by omega)
    omega
 rw[ve]at ae af;exact⟨aM,v',w',ak,aD,ek,cq.keeps.trans ae,af.mono ae.le,we.symm,tR.trans hZ,tS.trans h1⟩
end
theorem Nk{α:Type}{p q:α->Bool}:∀{l:List α},(∀x∈l,p x=true->q x=true)->(∃x∈l,q x=true∧p x=false)->l.countP p<l.countP q
 |[],_,⟨x,aa,_⟩=>by cases aa
 |y::l,h,⟨x,aa,J,U⟩=>by
  have hle:l.countP p<=l.countP q:=List.countP_mono_left fun z a8=>h z (List.mem_cons_of_mem _ a8);rw[List.countP_cons,List.countP_cons];rcases List.mem_cons.1 aa with rfl|aa
  ·simp only[J,U,if_true];simp;omega
  ·have:=Nk (fun z a8=>h z (List.mem_cons_of_mem _ a8)) ⟨x,aa,J,U⟩;have aJ:=h y List.mem_cons_self;cases hp:p y with
   |false=>simp;split<;>omega
   |true=>simp[aJ hp];omega
section
variable{ay:Nat}{ops:Array Oper}{L:List (bB×c0)}{cm:List Nat}{ec:List Tmp}{ms:List Nat}
variable{fr aE:aQ}{st st':aw}{F:Nat->aQ}{T:Nat->aw}{N:Nat->List (au bL)}{V:Nat->Value}{gQ:bq}{jM:World}
variable{b:dG}{bc:Bool->List Frame}{k:List Item}
def lO(cm:List Nat)(listed:Array Bool):Nat->Prop:=fun p=>∃i,cm[p]? =some i∧listed.getD i false=true
theorem ZC{listed:Array Bool}{i:Nat}:listed.getD i false=true->listed.getD i true=true:=by
 intro h;rcases Nat.lt_or_ge i listed.size with ag|ag
 ·simpa[ag]using h
 ·simp[ag]at h
theorem Oc{listed:Array Bool}{i:Nat}(ag:i<listed.size)(h:listed.getD i false≠true):listed.getD i true=false:=by
 simpa[ag]using h
theorem kC.U5(D:kC X ay ops L cm ec ms){listed:Array Bool}(fa:listed.size=ops.size)(h:Region.ready .any ops listed=[]):∀p,p<L.length->lO cm listed p:=by
 intro p
 induction p using Nat.strongRecOn with
 |_ p bb=>
  intro hp;have iA:p<ops.size:=by rw[<-D.th];exact hp
  have ag:cm[p]? =some (cm[p]'(by rw[D.vp];exact iA)):=cA _;obtain⟨⟨x,gn⟩,aa⟩:∃x,L[p]? =some x:=⟨_,cA hp⟩;obtain⟨o,ao,_⟩:=D.op p _ x gn ag aa;refine⟨_,ag,?_⟩;by_cases hl:listed.getD (cm[p]'(by rw[D.vp];exact iA)) false=true
  ·exact hl
  ·exfalso;have bO:=(Array.getElem?_eq_some_iff.1 ao).1;have s3:(cm[p]'(by rw[D.vp];exact iA))∈Region.ready .any ops listed:=by
    rw[mem_ready];refine⟨Oc (by rw[fa];exact bO) hl,o,ao,fun e he hb=> ?_⟩;obtain⟨q,hq,abB⟩:=D.YM p _ o ag ao e he hb;obtain⟨j,hj,j1⟩:=bb q hq (by omega);rw[abB]at hj;cases hj;exact j1
   rw[h]at s3;cases s3
theorem Yx(ej:kB X call)(aX:iY call L [st.h] fr st aE st' F T N V)(D:kC X ay ops L cm ec ms)(h0:∀id,st.aj<=id->gQ id=none)(a8:∀t∈ec,(F 0).tmp t=jf)
 (hb:mh gQ (F 0).b3 b.b3) (m8:iJ b (F 0).bh gQ bc) (n:Nat) (lW:yV call L F T n):∀(fuel t:Nat) (listed:Array Bool) (c:Nat) (ι:bq) (a:Act) (w:World),listed.size=ops.size->(List.range ops.size).countP (fun i=> !listed.getD i true)<=fuel->
 (∀p,lO cm listed p->mg ops cm (lO cm listed) p)->jl X ay L F T V gQ jM (lO cm listed) c ι a w->(F c).bh=(F 0).bh->(F c).b3=(F 0).b3->
 (∃kf bE fy a' w',Steps X.P (lone (b.at a (.inRegion ops (Region.linearise.go .any ops fuel t listed [])::k)) (bc (F c).cL) w) (lone (b.at a' (.inRegion ops []::k)) (bc (F bE).cL) w')∧
  (∀p,p<L.length->kf p)∧jl X ay L F T V gQ jM kf bE fy a' w'∧(F bE).bh=(F 0).bh∧(F bE).b3=(F 0).b3∧(kf n->lO cm listed n))∨
 (∃kf bE fy a' w' i rest,Steps X.P (lone (b.at a (.inRegion ops (Region.linearise.go .any ops fuel t listed [])::k)) (bc (F c).cL) w) (lone (b.at a' (.inRegion ops (i::rest)::k)) (bc (F bE).cL) w')∧
  n<L.length∧cm[n]? =some i∧(∀p,kf p->mg ops cm kf p)∧mg ops cm kf n∧¬kf n∧jl X ay L F T V gQ jM kf bE fy a' w'∧(F bE).bh=(F 0).bh∧(F bE).b3=(F 0).b3):=by
 intro fuel
 induction fuel with
 |zero=>
  intro t listed c ι a w fa z5 sU cq hZ h1;refine .inl ⟨lO cm listed,c,ι,a,w,.refl _ _,fun p hp=> ?_,cq,hZ,h1,id⟩;have iA:p<ops.size:=by rw[<-D.th];exact hp
  have ag:cm[p]? =some (cm[p]'(by rw[D.vp];exact iA)):=cA _;obtain⟨⟨x,gn⟩,aa⟩:∃x,L[p]? =some x:=⟨_,cA hp⟩;obtain⟨o,ao,_⟩:=D.op p _ x gn ag aa;have bO:=(Array.getElem?_eq_some_iff.1 ao).1;refine⟨_,ag,?_⟩;have J:=List.countP_eq_zero.1 (Nat.le_zero.1 z5) _ (List.mem_range.2 bO);by_cases hl:listed.getD (cm[p]'(by rw[D.vp];exact iA)) false=true
  ·exact hl
  ·rw[Oc (by rw[fa];exact bO) hl]at J;simp at J
 |succ fuel bb=>
  intro t listed c ι a w fa z5 sU cq hZ h1;simp only[Region.linearise.go];change(∃kf bE fy a' w',Steps X.P (lone (b.at a (.inRegion ops (match(Region.ready .any ops listed)[t%(Region.ready .any ops listed).length]? with
   |some i=>Region.linearise.go .any ops fuel (t/(Region.ready .any ops listed).length) (listed.setIfInBounds i true) [i]
   |none=>[].reverse)::k)) (bc (F c).cL) w) _∧_)∨(∃kf bE fy a' w' i rest,Steps X.P (lone (b.at a (.inRegion ops (match(Region.ready .any ops listed)[t%(Region.ready .any ops listed).length]? with
   |some i=>Region.linearise.go .any ops fuel (t/(Region.ready .any ops listed).length) (listed.setIfInBounds i true) [i]
   |none=>[].reverse)::k)) (bc (F c).cL) w) _∧_)
  cases my:(Region.ready .any ops listed)[t%(Region.ready .any ops listed).length]? with
  |none=>
   have Aq:Region.ready .any ops listed=[]:=by
    cases pz:Region.ready .any ops listed with
    |nil=>rfl
    |cons x xs=>
     rw[pz]at my;have bO:t%(x::xs).length<(x::xs).length:=Nat.mod_lt _ (by simp);simp at my;simp at bO;omega
   exact .inl ⟨lO cm listed,c,ι,a,w,.refl _ _,D.U5 fa Aq,cq,hZ,h1,id⟩
  |some i=>
   simp only[];rw[linearise_go_acc,List.reverse_singleton,List.singleton_append];obtain⟨IF,o,ao,dV⟩:=mem_ready.1 (List.mem_of_getElem? my);have bO:=(Array.getElem?_eq_some_iff.1 ao).1;obtain⟨p,hp⟩:=D.ama i bO;have O3:p<L.length:=by rw[D.th,<-D.vp];exact(List.getElem?_eq_some_iff.1 hp).1
   have hn:¬lO cm listed p:=by
    rintro⟨j,hj,j1⟩;rw[hp]at hj;cases hj;rw[ZC j1]at IF;cases IF
   have aF:mg ops cm (lO cm listed) p:=by
    intro ib cg dS lq e he xe r rG;rw[hp]at dS;cases dS;rw[ao]at lq;cases lq;exact⟨_,rG,dV e he xe⟩
   by_cases px:p=n
   ·subst px;exact .inr ⟨lO cm listed,c,ι,a,w,i,_,.refl _ _,O3,hp,sU,aF,hn,cq,hZ,h1⟩
   obtain⟨bE,fy,a',w',ak,jF,abt,abH⟩:=YA (b:=b) (bc:=bc) (k:=k) (rest:=Region.linearise.go .any ops fuel (t/(Region.ready .any ops listed).length) (listed.setIfInBounds i true) []) ej cq aX D h0 a8 sU O3 (fun x c aa=>lW p x c px aa) hp aF hn hb m8 hZ h1;have jq:y4 (lO cm listed) p=lO cm (listed.setIfInBounds i true):=by
    funext q;apply propext;constructor
    ·rintro(⟨j,hj,j1⟩|rfl)
     ·exact⟨j,hj,getD_set_true j1⟩
     ·exact⟨i,hp,by simp[fa,bO]⟩
    ·rintro⟨j,hj,j1⟩;by_cases e:j=i
     ·subst e;exact .inr (D.inj q p j hj hp)
     ·left;refine⟨j,hj,?_⟩;rw[getD_set_ne false (Ne.symm e)]at j1;exact j1
   rw[jq]at jF;have aaA:∀p,lO cm (listed.setIfInBounds i true) p->mg ops cm (lO cm (listed.setIfInBounds i true)) p:=by
    rw[<-jq];rintro q (hq|rfl) ib cg dS lq e he xe r rG
    ·exact .inl (sU q hq ib cg dS lq e he xe r rG)
    ·exact .inl (aF ib cg dS lq e he xe r rG)
   have aaB:(List.range ops.size).countP (fun j=> !(listed.setIfInBounds i true).getD j true)<=fuel:=by
    refine Nat.le_of_lt_succ (gf (Nk (fun j _ hj=> ?_) ⟨i,List.mem_range.2 bO,?_,?_⟩) z5)
    ·by_cases e:j=i
     ·subst e;simp[fa,bO]at hj
     ·rw[getD_set_ne true (Ne.symm e)]at hj;exact hj
    ·rw[IF];rfl
    ·simp[fa,bO]
   rcases bb (t/(Region.ready .any ops listed).length) (listed.setIfInBounds i true) bE fy a' w' (by simp[fa]) aaB aaA jF abt abH with⟨kf,Hb,Lv,GA,iW,e9,Dq,aab,abq,abD,aaE⟩|⟨kf,Hb,Lv,GA,iW,ib,aj7,e9,abF⟩
   ·refine .inl ⟨kf,Hb,Lv,GA,iW,ak.trans e9,Dq,aab,abq,abD,fun h=> ?_⟩;have:=aaE h;rw[<-jq]at this;rcases this with h|h
    ·exact h
    ·exact absurd h.symm px
   ·exact .inr ⟨kf,Hb,Lv,GA,iW,ib,aj7,ak.trans e9,abF⟩
theorem Yz{ι:bq}{a:Act}{w:World}{id:Nat}(hm:X.P.follows .mixedOrders=true)(ej:kB X call)(D:kC X ay ops L cm ec ms)(af:cE ι fr a ay)(hw:bp X ι st w)(hb:mh ι fr.b3 b.b3)(aF:iJ b fr.bh ι bc):
 fp X b ay bc (lone (b.at a (.code (.region id ops true)::k)) (bc fr.cL) w) k fr ι w (hI call L [st.h] (nY fr ec) st):=by
 cases iy:hI call L [st.h] (nY fr ec) st with
 |no=>trivial
 |out e aE st'=>
  obtain⟨F,T,N,V,aX,z8⟩:=NT _ _ _ _ _ _ _ iy;obtain⟨Lq,Lr,Ls,anf,ang⟩:=Rv ec fr
  let fR:World:={w with drawn:=w.drawn+1}
  have mF:bp X ι st fR:=hw.tL X rfl;have nI:F 0=nY fr ec:=aX.f0;have DB:∀id,st.aj<=id->ι id=none:=fun id h=>(hw.fresh id h).1;have m3:fu ι (T 0).aj=ι:=by rw[aX.t0];exact Hj DB
  have rB:∀p,¬lO cm (Array.replicate ops.size false) p:=by
   rintro p ⟨i,_,ag⟩;by_cases h:i<ops.size<;>simp[h]at ag
  have cq:jl X ay L F T V ι fR (lO cm (Array.replicate ops.size false)) 0 ι a fR:=by
   refine⟨fun p hp=>by omega,Nat.zero_le _,.inl rfl,fun p x _ h=>absurd h (rB p),by rw[m3,aX.t0];exact mF,fun id l hl=>.inl ?_,fun p _ h=>absurd h (rB p),mF.gh,.refl _ _,af.size,by rw[m3,nI,ang];exact af.c8,fun p x gn t _ _ h=>absurd h (rB p),fun t _=> ?_⟩
   ·rw[aX.t0];rcases Nat.lt_or_ge id st.aj with h|h
    ·exact h
    ·rw[DB id h]at hl;cases hl
   ·rw[nI,Lq];by_cases h:t∈ec
    ·rw[if_pos h];exact .top _
    ·rw[if_neg h];exact af.tmp t
  have mE:=alX (P:=X.P) (b:=b) (a:=a) (k:=k) (cs:=bc fr.cL) (w:=w) (ops:=ops) (id:=id);have abK:Region.schedule (X.P.follows .mixedOrders) ops (w.tape w.drawn (.order b.fn id))=Region.linearise.go .any ops ops.size (w.tape w.drawn (.order b.fn id)) (Array.replicate ops.size false) []:=by
   simp only[Region.schedule,hm,Bool.true_or,if_true];rfl
  rw[abK]at mE;have vc:bc (F 0).cL=bc fr.cL:=by rw[nI,anf]
  have rz:=fun n lW=>Yx (b:=b) (bc:=bc) (k:=k) ej aX D DB (fun t h=>by rw[nI,Lq,if_pos h]) (by rw[nI,Ls];exact hb) (by rw[nI,Lr];exact aF) n lW ops.size (w.tape w.drawn (.order b.fn id)) (Array.replicate ops.size false) 0 ι a fR (by simp) (by
   refine Nat.le_trans List.countP_le_length ?_;simp) (fun p h=>absurd h (rB p)) cq rfl rfl
  rw[vc]at rz;rcases z8 with⟨rfl,lW,gu,abY⟩|⟨n,x,u,hlen,aa,lW,ga,xl,rfl,rfl,xA⟩
  case inr=>
   rcases rz n lW with⟨kf,bE,fy,a',w',ak,dV,jF,jb,lX,hX⟩|⟨kf,bE,fy,a',w',i,rest,ak,oF,ag,sU,pz,abh,jF,jb,lX⟩
   ·exact absurd (hX (dV n (by omega))) (rB n)
   ·obtain⟨aM,v',iW,kW,aD,AF,jH,Ab,aG,e2,cw⟩:=Yy (b:=b) (bc:=bc) (k:=k) (rest:=rest) ej jF aX D DB (fun t h=>by rw[nI,Lq,if_pos h]) sU oF aa ag pz abh jb lX hlen ga xl xA;rw[aG]at ak;exact⟨aM,a',iW,Ab,AF,eV.trans (w':=fR) (eV.tL ι rfl) jH,by rw[e2,nI,Lr],by rw[cw,nI,Ls],v',_,aD,(Steps.head mE ak).trans kW⟩
  obtain⟨kf,bE,fy,a',w',ak,dV,jF,jb,lX,_⟩:∃kf bE fy a' w',_:=by
   rcases rz L.length lW with h|⟨_,_,_,_,_,_,_,_,oF,_⟩
   ·exact h
   ·exact absurd oF (Nat.lt_irrefl _)
  obtain⟨ij,gP,we,tR,tS⟩:=jF.upto aX D L.length jF.CF (cd _) (fun r _ h=>dV r h);have ve:fu fy (T L.length).aj=fy:=by
   refine Hj fun id mx=> ?_;cases hl:fy id with
   |none=>rfl
   |some l=>
    exfalso;rcases jF.kh id l hl with h|⟨p,J,U,ah,aC,a5⟩
    ·have:=aX.kr D jF.CF (cd _);omega
    ·obtain⟨o,l',ch,_⟩:=jF.fO p J ah aC;have cV:(T (p+1)).aj=(T p).aj+1:=by rw[ch]
     have:=aX.kr D (p:=p+1) (q:=L.length) U (cd _);omega
  rw[ve,abY]at ij;rw[gu]at gP we tR tS;have eD:cE fy aE a' ay:=by
   refine⟨fun t=> ?_,jF.size,by rw[gP];exact jF.c8.mono (Np _ _)⟩;rw[<-gu];by_cases Ph:∃(q:Nat) (y:bB) (d:c0),L[q]? =some (y,d)∧y.d=some t
   ·obtain⟨q,y,d,aJ,ax⟩:=Ph;have hq:=(List.getElem?_eq_some_iff.1 aJ).1;rw[aX.K5 D aJ ax L.length hq (cd _)];exact(jF.BU q y d t aJ ax (dV q hq)).mono (Np _ _)
   ·have fW:∀(q:Nat) eW bE,L[q]? =some (eW,bE)->eW.d≠some t:=fun q eW bE b4 hX=>Ph ⟨q,eW,bE,b4,hX⟩;rw[aX.Gh t L.length (cd _) fun q eW bE _ b4=>fW q eW bE b4];exact(jF.yL t fun q eW bE b4 hX=>absurd hX (fW q eW bE b4)).mono jF.keeps.le
  refine⟨fy,a',w',eD,ij,eV.trans (w':=fR) (eV.tL ι rfl) jF.keeps,?_,?_,?_⟩
  ·rw[tR,jb,nI,Lr]
  ·rw[tS,lX,nI,Ls]
  ·rw[<-we]at ak;exact(Steps.head mE ak).trans (.one Tc)
end
end Go.az
namespace Go.az
variable{X:Ctx}
abbrev so:=Nat×(bB×c0)×Nat×Nat
def o4:Nat->List (bB×c0)->List Nat->List Nat->List so
 |p,a::L,i::cm,m::ms=>(p,a,i,m)::o4 (p+1) L cm ms
 |_,_,_,_=>[]
theorem Sv:∀(L:List (bB×c0)) (cm ms:List Nat) (lF p:Nat) {a:bB×c0} {i m:Nat},L[p]? =some a->cm[p]? =some i->ms[p]? =some m->(lF+p,a,i,m)∈o4 lF L cm ms
 |[],_,_,_,p,_,_,_,h,_,_=>by simp at h
 |_::_,[],_,_,p,_,_,_,_,h,_=>by simp at h
 |_::_,_::_,[],_,p,_,_,_,_,_,h=>by simp at h
 |a'::L,ib::cm,fL::ms,lF,p,a,i,m,J,U,ah=>by
  cases p with
  |zero=>
   simp at J U ah;subst J U ah;exact List.mem_cons_self
  |succ p=>
   have:=Sv L cm ms (lF+1) p (a:=a) (i:=i) (m:=m) (by simpa using J) (by simpa using U) (by simpa using ah);rw[show lF+(p+1)=lF+1+p by omega];exact List.mem_cons_of_mem _ this
theorem Su:∀(L:List (bB×c0)) (cm ms:List Nat) (lF:Nat) {r:so},r∈o4 lF L cm ms->∃p:Nat,r.1=lF+p∧L[p]? =some r.2.1∧cm[p]? =some r.2.2.1∧ms[p]? =some r.2.2.2
 |[],_,_,_,_,h=>by simp[o4]at h
 |_::_,[],_,_,_,h=>by simp[o4]at h
 |_::_,_::_,[],_,_,h=>by simp[o4]at h
 |a'::L,ib::cm,fL::ms,lF,r,h=>by
  simp only[o4]at h;rcases List.mem_cons.1 h with rfl|h
  ·exact⟨0,rfl,rfl,rfl,rfl⟩
  ·obtain⟨p,J,U,ah,aC⟩:=Su L cm ms (lF+1) h;exact⟨p+1,by omega,U,ah,aC⟩
def vy(rows:List so)(p:Nat):List Edge->Option Nat
 |[]=>some 0
 |e::es=>if Region.binds .any e then
  match rows.find? (fun r=>Nat.beq r.2.2.1 e.on),vy rows p es with
  |some r,some m=>if Nat.ble (Nat.succ r.1) p then some (m|||((1<<<r.1)|||r.2.2.2))else none
  |_,_=>none
  else vy rows p es
theorem Er{rows:List so}{p:Nat}:∀(es:List Edge) (m:Nat),vy rows p es=some m->
 (∀e∈es,Region.binds .any e=true->∃r∈rows,r.2.2.1=e.on∧r.1<p)∧
 (∀q,m.testBit q=true->∃e∈es,Region.binds .any e=true∧∃r∈rows,r.2.2.1=e.on∧r.1<p∧(q=r.1∨r.2.2.2.testBit q=true))
 |[],m,h=>by
  simp only[vy,Option.some.injEq]at h;subst h;exact⟨fun e he=>by simp at he,fun q hq=>by simp at hq⟩
 |e::es,m,h=>by
  simp only[vy]at h;by_cases hb:Region.binds .any e=true
  ·rw[if_pos hb]at h;split at h
   ·rename_i r fL aF kU;split at h
    ·rename_i bO;cases h;obtain⟨i1,i2⟩:=Er es fL kU;have IC:=List.mem_of_find?_eq_some aF;have u6:r.2.2.1=e.on:=by
      have:=List.find?_some aF;exact dY this
     have Ay:r.1<p:=kF.1 bO;refine⟨fun cj ix cX=> ?_,fun q hq=> ?_⟩
     ·rcases List.mem_cons.1 ix with rfl|ix
      ·exact⟨r,IC,u6,Ay⟩
      ·exact i1 cj ix cX
     ·rw[Nat.testBit_or,Nat.testBit_or,Bool.or_eq_true,Bool.or_eq_true]at hq;rcases hq with hq|hq|hq
      ·obtain⟨cj,ix,J,U⟩:=i2 q hq;exact⟨cj,List.mem_cons_of_mem _ ix,J,U⟩
      ·rw[Nat.one_shiftLeft,Nat.testBit_two_pow]at hq;exact⟨e,List.mem_cons_self,hb,r,IC,u6,Ay,.inl (of_decide_eq_true hq).symm⟩
      ·exact⟨e,List.mem_cons_self,hb,r,IC,u6,Ay,.inr hq⟩
    ·cases h
   ·cases h
  ·rw[if_neg hb]at h;obtain⟨i1,i2⟩:=Er es m h;refine⟨fun cj ix cX=> ?_,fun q hq=> ?_⟩
   ·rcases List.mem_cons.1 ix with rfl|ix
    ·exact absurd cX hb
    ·exact i1 cj ix cX
   ·obtain⟨cj,ix,J,U⟩:=i2 q hq;exact⟨cj,List.mem_cons_of_mem _ ix,J,U⟩
def NI(d:Option Tmp)(t:Tmp):Bool:=match d with|some u=>Nat.beq u t|none=>false
def rq(ts:List Tmp)(t:Tmp):Bool:=ts.any (Nat.beq t)
theorem Dr{ts:List Tmp}{t:Tmp}:rq ts t=true↔t∈ts:=by
 unfold rq;rw[List.any_eq_true];constructor
 ·rintro⟨u,hu,h⟩;rw[eO h];exact hu
 ·intro h;exact⟨t,h,Nat.beq_refl t⟩
def BC(X:Ctx)(ay:Nat)(ops:Array Oper)(L:List (bB×c0))(rows:List so)(r:so):Bool:=
 (match ops[r.2.2.1]? with
  |some o=>k2 X ay ops r.2.1.1 o&&(match vy rows r.1 o.after.toList with|some m=>Nat.beq m r.2.2.2|none=>false)
  |none=>false)&&
 (match r.2.1.2 with
  |.fe=>Nat.beq r.2.2.2 (2^r.1-1)
  |.ba _=>r.2.1.1.o.rN
  |.read n _=>r.2.1.1.o.qs&&Nat.ble ((List.range r.1).countP (fun q=>rh L q&& !r.2.2.2.testBit q)) n)
def yg(ec:List Tmp)(r s:so):Bool:=
 (!Nat.beq r.2.2.1 s.2.2.1||Nat.beq r.1 s.1)&&
 (match s.2.1.1.d with
  |none=>true
  |some t=>
   (!NI r.2.1.1.d t||Nat.beq r.1 s.1)&&
   (!Nat.ble (Nat.succ r.1) s.1||rq ec t|| !(r.2.1.2.vk||rq r.2.1.2.looks t)||s.2.2.2.testBit r.1)&&
   (!Nat.ble (Nat.succ s.1) r.1|| !rq r.2.1.2.looks t||r.2.2.2.testBit s.1))
def CY(X:Ctx)(ay:Nat)(ops:Array Oper)(L:List (bB×c0))(cm:List Nat)(ec:List Tmp)(ms:List Nat):Bool:=
 (fun rows=>Nat.beq L.length ops.size&&Nat.beq cm.length ops.size&&Nat.beq ms.length ops.size&&(List.range ops.size).all (fun i=>rq cm i)&&rows.all (BC X ay ops L rows)&&rows.all (fun r=>rows.all (yg ec r))) (o4 0 L cm ms)
theorem Yw{ay:Nat}{ops:Array Oper}{L:List (bB×c0)}{cm:List Nat}{ec:List Tmp}{ms:List Nat}(h:CY X ay ops L cm ec ms=true):kC X ay ops L cm ec ms:=by
 unfold CY at h;simp only[b2]at h;obtain⟨⟨⟨⟨⟨J,U⟩,ah⟩,aC⟩,a5⟩,ch⟩:=h;have aG:=eO J;have e2:=eO U;have cw:=eO ah;rw[List.all_eq_true]at aC a5 ch;have jc:∀(p:Nat) a i,L[p]? =some a->cm[p]? =some i->(p,a,i,ms.getD p 0)∈o4 0 L cm ms:=by
  intro p a i a2 ag;have hp:=(List.getElem?_eq_some_iff.1 a2).1;have hm:ms[p]? =some (ms.getD p 0):=by
   have:p<ms.length:=by omega
   simp[this]
  have:=Sv L cm ms 0 p a2 ag hm
  rwa [Nat.zero_add]at this
 have kS:∀p:Nat,p<L.length->∃i,cm[p]? =some i:=fun p hp=>⟨_,cA (by omega)⟩;have hd:∀p i:Nat,cm[p]? =some i->∃a,L[p]? =some a:=fun p i ag=>⟨_,cA (by have:=(List.getElem?_eq_some_iff.1 ag).1;omega)⟩;have bM:∀(p:Nat) a i,L[p]? =some a->cm[p]? =some i->BC X ay ops L (o4 0 L cm ms) (p,a,i,ms.getD p 0)=true:=fun p a i a2 ag=>a5 _ (jc p a i a2 ag);have DU:∀(p:Nat) a i (q:Nat) b j,L[p]? =some a->cm[p]? =some i->L[q]? =some b->cm[q]? =some j->yg ec (p,a,i,ms.getD p 0) (q,b,j,ms.getD q 0)=true:=by
  intro p a i q b j a2 ag hb hj;have:=ch _ (jc p a i a2 ag);rw[List.all_eq_true]at this;exact this _ (jc q b j hb hj)
 have OX:∀(p i:Nat) a o,L[p]? =some a->cm[p]? =some i->ops[i]? =some o->k2 X ay ops a.1 o=true∧∃m,vy (o4 0 L cm ms) p o.after.toList=some m∧m=ms.getD p 0:=by
  intro p i a o a2 ag ao;have:=bM p a i a2 ag;unfold BC at this;simp only[ao,b2]at this;refine⟨this.1.1,?_⟩;have cV:=this.1.2;split at cV
  ·rename_i m hm;exact⟨m,hm,eO cV⟩
  ·cases cV
 have rr:∀{r:so} {p:Nat},r∈o4 0 L cm ms->∃q:Nat,r.1=q∧cm[q]? =some r.2.2.1∧ms.getD q 0=r.2.2.2:=by
  intro r p aF;obtain⟨q,aW,a0,bx,cK⟩:=Su L cm ms 0 aF;exact⟨q,by omega,bx,by simp[List.getD,cK]⟩
 have Dv:∀(p i:Nat) a,L[p]? =some a->cm[p]? =some i->(match a.2 with|.fe=>Nat.beq (ms.getD p 0) (2^p-1)|.ba _=>a.1.o.rN|.read n _=>a.1.o.qs&&Nat.ble ((List.range p).countP (fun q=>rh L q&& !(ms.getD p 0).testBit q)) n)=true:=by
  intro p i a a2 ag;have:=bM p a i a2 ag;unfold BC at this;rw[b2]at this;exact this.2
 refine⟨aG,e2,fun p i x c ag aa=> ?_,fun p x ts aa=> ?_,fun p x n ts aa=> ?_,fun p q i hp hq=> ?_,fun i ag=> ?_,fun p i o ag ao e he hb=> ?_,fun p i o q ag ao hq=> ?_,fun p x q aa hq=> ?_,fun p x n ts aa=> ?_,fun p q x y c d t aa aJ AI h2=> ?_,fun p q x y c d t aa aJ Iw h2 D1 hl=> ?_,fun p q x y c d t aa aJ u4 h2 hl=> ?_⟩
 ·have:=bM p (x,c) i aa ag;unfold BC at this;rw[b2]at this;have cV:=this.1;split at cV
  ·rename_i o ao;rw[b2]at cV;exact⟨o,ao,cV.1⟩
  ·cases cV
 ·obtain⟨i,ag⟩:=kS p (List.getElem?_eq_some_iff.1 aa).1;exact Dv p i _ aa ag
 ·obtain⟨i,ag⟩:=kS p (List.getElem?_eq_some_iff.1 aa).1;have:=Dv p i _ aa ag;simp only[b2]at this;exact this.1
 ·obtain⟨a,a2⟩:=hd p i hp;obtain⟨b,hb⟩:=hd q i hq;have:=DU p a i q b i a2 hp hb hq;unfold yg at this;simp only[b2,Bool.or_eq_true]at this;rcases this.1 with h|h
  ·simp at h
  ·exact eO h
 ·have:=aC i (List.mem_range.2 ag);have hm:=Dr.1 this;obtain⟨p,hp,he⟩:=List.mem_iff_getElem.1 hm;exact⟨p,by rw[cA hp,he]⟩
 ·obtain⟨a,a2⟩:=hd p i ag;obtain⟨_,m,hm,_⟩:=OX p i a o a2 ag ao;obtain⟨r,aF,cV,fG⟩:=(Er _ _ hm).1 e (by simpa using he) hb;obtain⟨q,aW,a0,_⟩:=rr (p:=0) aF;exact⟨q,by omega,by rw[a0,cV]⟩
 ·obtain⟨a,a2⟩:=hd p i ag;obtain⟨_,m,hm,rfl⟩:=OX p i a o a2 ag ao;obtain⟨e,he,hb,r,aF,cV,fG,g1⟩:=(Er _ _ hm).2 q hq;obtain⟨fq,aW,a0,bx⟩:=rr (p:=0) aF;exact⟨e,by simpa using he,hb,fq,by omega,by rw[a0,cV],by rw[bx,<-aW];exact g1⟩
 ·obtain⟨i,ag⟩:=kS p (List.getElem?_eq_some_iff.1 aa).1;have:=eO (Dv p i _ aa ag);rw[this,Nat.testBit_two_pow_sub_one];simpa using hq
 ·obtain⟨i,ag⟩:=kS p (List.getElem?_eq_some_iff.1 aa).1;have:=Dv p i _ aa ag;simp only[b2]at this;exact kF.1 this.2
 ·obtain⟨i,ag⟩:=kS p (List.getElem?_eq_some_iff.1 aa).1;obtain⟨j,hj⟩:=kS q (List.getElem?_eq_some_iff.1 aJ).1;have:=DU p _ i q _ j aa ag aJ hj;unfold yg at this;simp only[h2,b2]at this;have cV:=this.2.1.1;simp[NI,AI]at cV;exact cV
 ·obtain⟨i,ag⟩:=kS p (List.getElem?_eq_some_iff.1 aa).1;obtain⟨j,hj⟩:=kS q (List.getElem?_eq_some_iff.1 aJ).1;have:=DU p _ i q _ j aa ag aJ hj;unfold yg at this;simp only[h2,b2]at this;have cV:=this.2.1.2;have aW:Nat.ble (Nat.succ p) q=true:=kF.2 Iw;have a0:rq ec t=false:=by rw[Bool.eq_false_iff];intro h;exact D1 (Dr.1 h)
  have bx:(c.vk||rq c.looks t)=true:=by
   rcases hl with rfl|hl
   ·rfl
   ·rw[Bool.or_eq_true];exact .inr (Dr.2 hl)
  rw[aW,a0,bx]at cV;simpa using cV
 ·obtain⟨i,ag⟩:=kS p (List.getElem?_eq_some_iff.1 aa).1;obtain⟨j,hj⟩:=kS q (List.getElem?_eq_some_iff.1 aJ).1;have:=DU p _ i q _ j aa ag aJ hj;unfold yg at this;simp only[h2,b2]at this;have cV:=this.2.2;have aW:Nat.ble (Nat.succ q) p=true:=kF.2 u4;have a0:rq c.looks t=true:=Dr.2 hl;rw[aW,a0]at cV;simpa using cV
end Go.az
namespace Go.az
variable{X:Ctx}{call:bP}
def tK(X:Ctx)(ay:Nat)(ops:Array Oper):List bB->List Oper->Bool
 |[],[]=>true
 |x::xs,o::os=>k2 X ay ops x o&&tK X ay ops xs os
 |_,_=>false
theorem KG{ay:Nat}{ops:Array Oper}:∀{xs:List bB} {os:List Oper},tK X ay ops xs os=true->xs.length=os.length∧∀(j:Nat) x o,xs[j]? =some x->os[j]? =some o->k2 X ay ops x o=true
 |[],[],_=>⟨rfl,fun j x o h=>by simp at h⟩
 |x::xs,o::os,h=>by
  simp only[tK,b2]at h;obtain⟨J,U⟩:=KG h.2;refine⟨by simp[J],fun j eW cg aa ao=> ?_⟩;cases j with
  |zero=>simp at aa ao;subst aa ao;exact h.1
  |succ j=>exact U j eW cg (by simpa using aa) (by simpa using ao)
 |[],_::_,h=>by simp[tK]at h
 |_::_,[],h=>by simp[tK]at h
def vA:List Nat->List Nat->Bool
 |[],[]=>true
 |a::as,b::bn=>Nat.beq a b&&vA as bn
 |_,_=>false
theorem Ql:∀{as bn:List Nat},vA as bn=true->as=bn
 |[],[],_=>rfl
 |a::as,b::bn,h=>by
  simp only[vA,b2]at h;rw[eO h.1,Ql h.2]
 |[],_::_,h=>by simp[vA]at h
 |_::_,[],h=>by simp[vA]at h
def codeOk(X:Ctx)(ay:Nat):du->Code->Bool
 |.skip,.skip=>true
 |.skip,.label _=>true
 |.r9 xs,.region _ ops false=>tK X ay ops xs ops.toList
 |.dJ L cm ec ms,.region _ ops true=>CY X ay ops L cm ec ms
 |.seq a b,.seq c d=>codeOk X ay a c&&codeOk X ay b d
 |.cond x a b,.cond y c d=>b6 X.aB x y&&codeOk X ay a c&&codeOk X ay b d
 |.block i a,.block j c=>Nat.beq i j&&codeOk X ay a c
 |.loop a,.loop c=>codeOk X ay a c
 |.vY f ps dy body,.rangeFunc g dj od oh=>b6 X.aB f g&&vA ps dj.toList&&ps.all (fun t=>Nat.ble (Nat.succ t) ay)&&codeOk X ay dy od&&codeOk X ay body oh
 |.exit i,.exit j=>Nat.beq i j
 |.scope a,.scope c=>codeOk X ay a c
 |.ret,.ret=>true
 |.refuse,_=>true
 |_,_=>false
def Good(X:Ctx):Prop:=X.P.follows .mixedOrders=true∧∀fn c ke,X.ok fn c ke↔∃F,X.P.funcs[fn]? =some F∧codeOk X F.ntmps ke c=true
section
variable{b:dG}{ay:Nat}{bc:Bool->List Frame}
def wA(X:Ctx)(call:bP)(b:dG)(ay:Nat)(bc:Bool->List Frame):Prop:=
 ∀(f:Operand) (ps:Array Tmp) (dy body:du) (od oh:Code) (ι:bq) (fr:aQ) (a:Act) (st:aw) (w:World) (k:List Item),cO X.aB f=true->(∀t∈ps.toList,t<ay)->(∃F,X.P.funcs[b.fn]? =some F∧F.ntmps=ay)->X.ok b.fn od dy->X.ok b.fn oh body->
  cE ι fr a ay->bp X ι st w->mh ι fr.b3 b.b3->iJ b fr.bh ι bc->
  fp X b ay bc (lone (b.at a (.code (.rangeFunc f ps od oh)::k)) (bc fr.cL) w) k fr ι w (zM call b.fn f ps.toList dy body fr st)
theorem fp.n5{s:Machine}{k k':List Item}{fr:aQ}{ι:bq}{w:World}{r:cC}{g:aQ->aw->cC}(hex:∀id,exitTo id k=exitTo id k')(h:fp X b ay bc s k fr ι w r)
 (aZ:∀aM a' w' aE st',cE aM aE a' ay->bp X aM st' w'->eV ι aM w w'->aE.bh=fr.bh->aE.b3=fr.b3->fp X b ay bc (lone (b.at a' k) (bc aE.cL) w') k' aE aM w' (g aE st')):fp X b ay bc s k' fr ι w (n5 r g):=by
 cases r with
 |no=>trivial
 |out e aE st'=>
  obtain⟨aM,a',w',J,U,ah,aC,a5,ch⟩:=h;cases e with
  |norm=>exact fp.head ch ah aC a5 (aZ aM a' w' aE st' J U ah aC a5)
  |exit id=>
   obtain⟨gy,cV,fG⟩:=ch;exact⟨aM,a',w',J,U,ah,aC,a5,gy,cV.trans (hex id),fG⟩
  |ret=>exact⟨aM,a',w',J,U,ah,aC,a5,ch⟩
  |bh v=>exact⟨aM,a',w',J,U,ah,aC,a5,ch⟩
theorem Ts(r:cC):n5 r (fun fr st=>.out .norm fr st)=r:=by
 cases r with
 |no=>rfl
 |out e fr st=>cases e<;>rfl
theorem CJ(dE:Good X)(ej:kB X call)(qk:wA X call b ay bc)(gu:∃F,X.P.funcs[b.fn]? =some F∧F.ntmps=ay)(a9:Nat):∀(ke:du) (c:Code) (ι:bq) (fr:aQ) (a:Act) (st:aw) (w:World) (k:List Item),codeOk X ay ke c=true->
 cE ι fr a ay->bp X ι st w->mh ι fr.b3 b.b3->iJ b fr.bh ι bc->
 fp X b ay bc (lone (b.at a (.code c::k)) (bc fr.cL) w) k fr ι w (dD call a9 b.fn ke fr st):=by
 obtain⟨Fn,aA,m1⟩:=gu;intro ke
 induction ke with
 |skip=>
  intro c ι fr a st w k hc af hw hb aF;cases c with
  |skip=>exact⟨ι,a,w,af,hw,.refl _ _,rfl,rfl,.one al3⟩
  |label l=>exact⟨ι,a,w,af,hw,.refl _ _,rfl,rfl,.one alS⟩
  |_=>cases hc
 |r9 xs=>
  intro c ι fr a st w k hc af hw hb aF;cases c with
  |region id ops draw=>
   cases draw with
   |true=>cases hc
   |false=>
    obtain⟨J,U⟩:=KG (hc:tK X ay ops xs ops.toList=true);have:=ER (b:=b) (bc:=bc) (k:=k) (ops:=ops) (ay:=ay) ej xs (List.range ops.size) ι fr a st w (by simpa using J) (fun j x i aa ag=>by
     have kR:i=j:=by
      obtain⟨hj,he⟩:=List.getElem?_eq_some_iff.1 ag;simpa using he.symm
     subst kR;have bO:i<ops.size:=by simpa using(List.getElem?_eq_some_iff.1 ag).1
     exact⟨ops[i],Array.getElem?_eq_getElem bO,U i x _ aa (by simp[bO])⟩) af hw hb aF
    exact fp.head (.one Tb) (.refl _ _) rfl rfl this
  |_=>cases hc
 |dJ L cm ec ms=>
  intro c ι fr a st w k hc af hw hb aF;cases c with
  |region id ops draw=>
   cases draw with
   |false=>cases hc
   |true=>exact Yz dE.1 ej (Yw (hc:CY X ay ops L cm ec ms=true)) af hw hb aF
  |_=>cases hc
 |seq x y IS vj=>
  intro c ι fr a st w k hc af hw hb aF;cases c with
  |seq c d=>
   have hc:(codeOk X ay x c&&codeOk X ay y d)=true:=hc;rw[b2]at hc;have J:=IS c ι fr a st w (.code d::k) hc.1 af hw hb aF;refine fp.head (.one Tg) (.refl _ _) rfl rfl (fp.n5 (k:=.code d::k) (k':=k) (fun id=>rfl) J fun aM a' w' aE st' eD ek ae hp hn=> ?_);exact vj d aM aE a' st' w' k hc.2 eD ek (by rw[hn];exact hb.mono ae.le) (by rw[hp];exact aF.mono ae.le)
  |_=>cases hc
 |cond x y z vj IT=>
  intro c ι fr a st w k hc af hw hb aF;cases c with
  |cond o c d=>
   have hc:(b6 X.aB x o&&codeOk X ay y c&&codeOk X ay z d)=true:=hc;simp only[b2]at hc;obtain⟨rfl,ao⟩:=c2 hc.1.1;show fp X b ay bc _ k fr ι w (ky (fr.an x) (fun t=>_root_.cond t (dD call a9 b.fn y fr st) (dD call a9 b.fn z fr st)) .no);have aD:=af.an hw ao;generalize kN:a.eval x=uj at aD;generalize fr.an x=v at aD;cases v with
   |bool t=>
    cases aD;cases t with
    |true=>exact fp.head (.one (Gb kN)) (.refl _ _) rfl rfl (vj c ι fr a st w k hc.1.2 af hw hb aF)
    |false=>exact fp.head (.one (Gb kN)) (.refl _ _) rfl rfl (IT d ι fr a st w k hc.2 af hw hb aF)
   |_=>trivial
  |_=>cases hc
 |block i x bb=>
  intro c ι fr a st w k hc af hw hb aF;cases c with
  |block j c=>
   have hc:(Nat.beq i j&&codeOk X ay x c)=true:=hc;rw[b2]at hc;have e:=eO hc.1;subst e;have J:=bb c ι fr a st w (.inBlock i::k) hc.2 af hw hb aF;refine fp.head (.one S2) (.refl _ _) rfl rfl ?_;show fp X b ay bc _ k fr ι w (sD i (dD call a9 b.fn x fr st));generalize dD call a9 b.fn x fr st=r at J;cases r with
   |no=>trivial
   |out e aE st'=>
    obtain⟨aM,a',w',U,ah,aC,a5,ch,cV⟩:=J;cases e with
    |norm=>exact⟨aM,a',w',U,ah,aC,a5,ch,Steps.trans cV (.one S5)⟩
    |exit id=>
     obtain⟨gy,fG,g1⟩:=cV;show fp X b ay bc _ k fr ι w (ea id i (.out .norm aE st') (.out (.exit id) aE st'));rw[mW];by_cases e:id=i
     ·subst e;rw[if_pos rfl];have po:exitTo id gy=some k:=by rw[fG];simp[exitTo]
      exact⟨aM,a',w',U,ah,aC,a5,ch,Steps.trans g1 (.one (S4 po))⟩
     ·rw[if_neg e];refine⟨aM,a',w',U,ah,aC,a5,ch,gy,?_,g1⟩;rw[fG];have:¬i=id:=fun h=>e h.symm;simp[exitTo,this]
    |ret=>exact⟨aM,a',w',U,ah,aC,a5,ch,cV⟩
    |bh v=>exact⟨aM,a',w',U,ah,aC,a5,ch,cV⟩
  |_=>cases hc
 |loop x bb=>
  intro c ι fr a st w k hc af hw hb aF;cases c with
  |loop c=>
   have hc:codeOk X ay x c=true:=hc;have key:∀(n:Nat) (ι:bq) (fr:aQ) (a:Act) (st:aw) (w:World),cE ι fr a ay->bp X ι st w->mh ι fr.b3 b.b3->iJ b fr.bh ι bc->
    fp X b ay bc (lone (b.at a (.code c:: .inLoop c::k)) (bc fr.cL) w) k fr ι w (Nat.rec (motive:=fun _=>aQ->aw->cC) (fun _ _=>.no) (fun _ IP fr st=>Go.az.n5 (dD call a9 b.fn x fr st) IP) n fr st):=by
    intro n
    induction n with
    |zero=>intros;trivial
    |succ n IQ=>
     intro ι fr a st w af hw hb aF;refine fp.n5 (k:=.inLoop c::k) (fun id=>rfl) (bb c ι fr a st w (.inLoop c::k) hc af hw hb aF) fun aM a' w' aE st' eD ek ae hp hn=> ?_;exact fp.head (.one S6) (.refl _ _) rfl rfl (IQ aM aE a' st' w' eD ek (by rw[hn];exact hb.mono ae.le) (by rw[hp];exact aF.mono ae.le))
   exact fp.head (.one S8) (.refl _ _) rfl rfl (key a9 ι fr a st w af hw hb aF)
  |_=>cases hc
 |vY f ps dy body _ _=>
  intro c ι fr a st w k hc af hw hb aF;cases c with
  |rangeFunc g dj od oh=>
   have hc:(b6 X.aB f g&&vA ps dj.toList&&ps.all (fun t=>Nat.ble (Nat.succ t) ay)&&codeOk X ay dy od&&codeOk X ay body oh)=true:=hc;simp only[b2]at hc;obtain⟨⟨⟨⟨J,U⟩,a5⟩,ah⟩,aC⟩:=hc;rw[List.all_eq_true]at a5;obtain⟨rfl,ao⟩:=c2 J;have e:=Ql U;subst e;exact qk f dj dy body od oh ι fr a st w k ao (fun t aX=>kF.1 (a5 t aX)) ⟨Fn,aA,m1⟩ ((dE.2 _ _ _).2 ⟨Fn,aA,by rw[m1];exact ah⟩) ((dE.2 _ _ _).2 ⟨Fn,aA,by rw[m1];exact aC⟩) af hw hb aF
  |_=>cases hc
 |exit i=>
  intro c ι fr a st w k hc af hw hb aF;cases c with
  |exit j=>
   have e:=eO (hc:Nat.beq i j=true);subst e;exact⟨ι,a,w,af,hw,.refl _ _,rfl,rfl,k,rfl,.refl _ _⟩
  |_=>cases hc
 |scope x bb=>
  intro c ι fr a st w k hc af hw hb aF;cases c with
  |scope c=>
   have J:=bb c ι fr a st w (.inScope c::k) hc af hw hb aF;refine fp.head (.one Tf) (.refl _ _) rfl rfl ?_;show fp X b ay bc _ k fr ι w (dD call a9 b.fn x fr st);rw[<-Ts (dD call a9 b.fn x fr st)];exact fp.n5 (k:=.inScope c::k) (fun id=>rfl) J fun aM a' w' aE st' eD ek _ _ _=>⟨aM,a',w',eD,ek,.refl _ _,rfl,rfl,.one S7⟩
  |_=>cases hc
 |ret=>
  intro c ι fr a st w k hc af hw hb aF;cases c with
  |ret=>exact⟨ι,a,w,af,hw,.refl _ _,rfl,rfl,k,.refl _ _⟩
  |_=>cases hc
 |refuse=>intros;trivial
end
def Sm(X:Ctx):iu->ResultVar->Bool
 |.tmp t,.tmp u=>Nat.beq t u
 |.cell a g n,.cell b t=>Nat.beq a b&&(match ob X.P t,gb X.P t with
  |some kK,some s=>(g==kK)&&(!g||Nat.beq n s)&&(g||Nat.beq n 1)
  |_,_=>false)
 |_,_=>false
def sa(X:Ctx):List iu->List ResultVar->Bool
 |[],[]=>true
 |x::xs,r::rs=>Sm X x r&&sa X xs rs
 |_,_=>false
def yz(tmps:Array Value):ResultVar->Sem Value
 |.tmp t=>pure (tmps.getD t undef)
 |.cell a t=>do loadVar t (<-asAddr (tmps.getD a undef))
section
variable{ι:bq}{fr:aQ}{a:Act}{ay:Nat}{st:aw}{w:World}
theorem PT{α:Type}{a:Addr}{n:Nat}{k:List Value->α}{z r:α}(h:st.load a n k z=r)(a8:z≠r):∃vs,k vs=r∧∀{B3:Type} (k':List Value->B3) (Lp:B3),st.load a n k' Lp=k' vs:=by
 obtain⟨J,cs,el,bt,aR,U,ah,aC⟩:=xN h a8;refine⟨_,aC,fun k' Lp=> ?_⟩;unfold aw.load aw.gI;rw[J,U];show hV cs a.off n k' Lp=_;unfold hV;rw[zF,BS,if_pos ah];rfl
theorem ahP{t:TypeId}{x:Operand}{ad:Addr}{v:Value}(aa:a.eval x= .pointer (some ad))(h:(execOp a.eval {(default:Oper)with op:=.load t x}).run X.P w= .ok (.value v) w):(loadVar t ad).run X.P w= .ok v w:=by
 unfold execOp at h;simp only[aa,Instr.loadAt,Instr.sureAddr,Sem.run_bind,Sem.run_pure,Result.andThen]at h;generalize(loadVar t ad).run X.P w=r at h;cases r with
 |ok y w'=>simp only[Result.ok.injEq,Next.value.injEq]at h;obtain⟨rfl,rfl⟩:=h;rfl
 |halt e w'=>cases h
theorem aj6{x:iu}{r:ResultVar}(bM:Sm X x r=true)(af:cE ι fr a ay)(hw:bp X ι st w){vs out:List Value}
 (h:iu.rec (motive:=fun _=>Option (List Value)) (fun t=>some (fr.tmp t::vs))
  (fun a agg n=>hP (fr.tmp a) (fun p=>bo p (fun ad=>st.load ad n (fun cs=>cond agg (some (.agg ⟨cs⟩::vs)) (one cs (fun v=>some (v::vs)) none)) none) none) none) x=some out):
 ∃v v',out=v::vs∧bs ι v v'∧(yz a.tmps r).run X.P w= .ok v' w:=by
 cases x with
 |tmp t=>
  cases r with
  |tmp u=>
   have e:=eO (bM:Nat.beq t u=true);subst e;have aL:some (fr.tmp t::vs)=some out:=h;cases aL;exact⟨_,_,rfl,af.tmp t,rfl⟩
  |cell b t=>cases bM
 |cell b g n=>
  cases r with
  |tmp u=>cases bM
  |cell fF t=>
   have bM:(Nat.beq b fF&&(match ob X.P t,gb X.P t with
    |some kK,some s=>(g==kK)&&(!g||Nat.beq n s)&&(g||Nat.beq n 1)
    |_,_=>false))=true:=bM
   rw[b2]at bM;have e:=eO bM.1;subst e;have U:=bM.2;split at U
   ·rename_i kK s aZ ak;simp only[b2]at U;obtain⟨⟨ah,aC⟩,a5⟩:=U;have DE:g=kK:=by simpa using ah
    subst DE;obtain⟨d,ax,nL⟩:=y8 aZ;obtain⟨i,ag,rfl⟩:=lL ak;have aL:hP (fr.tmp b) (fun p=>bo p (fun ad=>st.load ad n (fun cs=>cond g (some (.agg ⟨cs⟩::vs)) (one cs (fun v=>some (v::vs)) none)) none) none) none=some out:=h;obtain⟨p,hp,ch⟩:=n6 aL (by simp);obtain⟨ad,rfl,cV⟩:=fC ch (by simp);have iy:fr.an (.tmp b)= .pointer (some ad):=hp;have kV:=af.tmp b;rw[hp]at kV;have aam:a.eval (.tmp b)=a.tmps.getD b undef:=rfl;generalize kN:a.tmps.getD b undef=uj at kV;have fin:∀v v' l',a.tmps.getD b undef= .pointer (some l')->out=v::vs->bs ι v v'->(execOp a.eval {(default:Oper)with op:=.load t (.tmp b)}).run X.P w= .ok (.value v') w->∃v v',out=v::vs∧bs ι v v'∧(yz a.tmps (.cell b t)).run X.P w= .ok v' w:=by
     intro v v' l' cy ao aD fw;refine⟨v,v',ao,aD,?_⟩;have hh:(loadVar t l').run X.P w= .ok v' w:=ahP (a:=a) (x:=.tmp b) (by rw[aam,cy]) fw;simp only[yz,cy,asAddr,Sem.run_bind,Sem.run_pure,Result.andThen];exact hh
    cases g with
    |true=>
     have hn:n=i.size:=by simpa using aC
     subst hn;obtain⟨cs,fG,g1⟩:=PT cV (by simp);have Z3:some (.agg ⟨cs⟩::vs)=some out:=fG;cases Z3;have dK:EL i.size (.tmp b) (fun _ _ _ _=>.no) fr st= .ok (.agg ⟨cs⟩) fr st:=by
      unfold EL;rw[iy];exact g1 (fun vs=>aY.ok (.agg ⟨vs⟩) fr st) .no
     obtain⟨_,_,_,v',fw,aD⟩:=SN (o:={(default:Oper)with op:=.load t (.tmp b)}) rfl rfl ax nL ag af hw dK;cases kV with
     |ptr _ l hl e9=>exact fin _ v' _ kN rfl aD fw
    |false=>
     have hn:n=1:=by simpa using a5
     subst hn;obtain⟨cs,fG,g1⟩:=PT cV (by simp);obtain⟨v,rfl,po⟩:=yb (fG:one cs (fun v=>some (v::vs)) none=some out) (by simp);cases po;have dK:EK (.tmp b) (fun _ _ _ _=>.no) fr st= .ok v fr st:=by
      unfold EK;rw[iy];exact g1 (fun vs=>one vs (fun v=>aY.ok v fr st) .no) .no
     obtain⟨_,_,_,v',fw,aD⟩:=SM (o:={(default:Oper)with op:=.load t (.tmp b)}) rfl rfl ax nL af hw dK;cases kV with
     |ptr _ l hl e9=>exact fin _ v' _ kN rfl aD fw
   ·cases U
theorem Sn(af:cE ι fr a ay)(hw:bp X ι st w):∀(xs:List iu) (rs:List ResultVar) (out:List Value),sa X xs rs=true->pk fr st xs=some out->
 ∃fQ,bF ι out fQ∧(rs.mapM (yz a.tmps)).run X.P w= .ok fQ w
 |[],[],out,_,h=>by
  have aL:some []=some out:=h;cases aL;exact⟨[],bF.nil ι,rfl⟩
 |x::xs,r::rs,out,bM,h=>by
  simp only[sa,b2]at bM;have aL:bo (pk fr st xs) (fun vs=>iu.rec (motive:=fun _=>Option (List Value)) (fun t=>some (fr.tmp t::vs))
   (fun a agg n=>hP (fr.tmp a) (fun p=>bo p (fun ad=>st.load ad n (fun cs=>cond agg (some (.agg ⟨cs⟩::vs)) (one cs (fun v=>some (v::vs)) none)) none) none) none) x) none=some out:=h
  obtain⟨vs,Pg,J⟩:=fC aL (by simp);obtain⟨v,v',rfl,aD,fw⟩:=aj6 bM.1 af hw J;obtain⟨fQ,ab4,Az⟩:=Sn af hw xs rs vs bM.2 Pg;refine⟨v'::fQ,bF.cons aD ab4,?_⟩;rw[List.mapM_cons];simp only[Sem.run_bind,fw,Result.andThen,Az,Sem.run_pure]
 |[],_::_,_,bM,_=>by simp[sa]at bM
 |_::_,[],_,bM,_=>by simp[sa]at bM
theorem aj8{F:Func}{xs:List iu}(bM:sa X xs F.results.toList=true)(af:cE ι fr a ay)(hw:bp X ι st w){out:List Value}(h:pk fr st xs=some out):
 ∃v',bs ι (one out (fun v=>v) (.tuple ⟨out⟩)) v'∧(results F a.tmps).run X.P w= .ok v' w:=by
 obtain⟨fQ,aD,fw⟩:=Sn af hw xs F.results.toList out bM h;have aF:(results F a.tmps)=(do let vs<-F.results.mapM (yz a.tmps);pure (if h:vs.size=1 then vs[0]else .tuple vs)):=by
  unfold results;congr 2
 rw[aF];have hm:(F.results.mapM (yz a.tmps)).run X.P w= .ok fQ.toArray w:=by
  rw[Array.mapM_eq_mapM_toList];rw[Sem.run_map,fw];rfl
 simp only[Sem.run_bind,hm,Result.andThen,Sem.run_pure];refine⟨_,?_,rfl⟩;cases out with
 |nil=>rw[aD.tl];exact bs.nf (bF.nil ι)
 |cons v vs=>
  obtain⟨y,av,rfl,J,U⟩:=aD.cons_inv;cases vs with
  |nil=>rw[U.tl];exact J
  |cons v2 amD=>
   obtain⟨UH,aos,rfl,ah,aC⟩:=U.cons_inv;rw[dif_neg (by simp)];exact bs.nf (xs:=⟨v::v2::amD⟩) (bF.cons J (bF.cons ah aC))
end
def g7(X:Ctx)(ι:bq)(w:World)(b:dG)(bc:Bool->List Frame)(s:Machine):dC->Prop
 |.ret v st' eB=>∃aM v' w' F,bs aM v v'∧bp X aM st' w'∧eV ι aM w w'∧F.kind=b.kind∧F.fn=b.fn∧Frame.going X.P F w' (.returned v')∧Steps X.P s (lone F (bc eB) w')
 |.bh v st' eB=>∃aM v' w' F,bs aM v v'∧bp X aM st' w'∧eV ι aM w w'∧F.kind=b.kind∧F.fn=b.fn∧Frame.going X.P F w' (.panicked [{v:=v',recovered:=false}])∧Steps X.P s (lone F (bc eB) w')
 |.no=>True
theorem g7.head{ι aM:bq}{w w':World}{b:dG}{bc:Bool->List Frame}{s br:Machine}{r:dC}(h:Steps X.P s br)(ae:eV ι aM w w')(aL:g7 X aM w' b bc br r):g7 X ι w b bc s r:=by
 cases r with
 |no=>trivial
 |ret v st eB=>obtain⟨dB,v',iW,F,J,U,ah,aC,a5,ch,cV⟩:=aL;exact⟨dB,v',iW,F,J,U,ae.trans ah,aC,a5,ch,h.trans cV⟩
 |bh v st eB=>obtain⟨dB,v',iW,F,J,U,ah,aC,a5,ch,cV⟩:=aL;exact⟨dB,v',iW,F,J,U,ae.trans ah,aC,a5,ch,h.trans cV⟩
def ss(X:Ctx)(call:bP):Prop:=
 ∀(ι:bq) (f:FuncId) (first fk:Array Value) (args:List Value) (bh:Option Value) (st:aw) (sO nt:Array Value) (ja:List Value) (w:World),
  bF ι first.toList sO.toList->bF ι args ja->bF ι fk.toList nt.toList->bp X ι st w->call (.func (.func f) first fk) args bh st≠.no->
  (∀as w,(callFunc f as).run X.P w= .ok (.enter f as) w)∧
  ∀(K:CallKind) (bc:Bool->List Frame),iJ ⟨f,K,none⟩ bh ι bc->g7 X ι w ⟨f,K,none⟩ bc (lone (Frame.enter X.P f (sO++ja.toArray++nt) K) (bc false) w) (call (.func (.func f) first fk) args bh st)
def mS(aM:bq):Option Value->FrameMode->Prop
 |none,m=>m= .returning
 |some v,m=>∃v',bs aM v v'∧m= .panicking [{v:=v',recovered:=false}]
theorem mS.mono{ι aM:bq}(hle:ι.le aM){m:Option Value}{md:FrameMode}(h:mS ι m md):mS aM m md:=by
 cases m with
 |none=>exact h
 |some v=>obtain⟨v',J,U⟩:=h;exact⟨v',J.mono hle,U⟩
theorem mS.Qx{ι:bq}{m:Option Value}{md:FrameMode}(h:mS ι m md):md≠.run:=by
 cases m with
 |none=>rw[show md= .returning from h];simp
 |some v=>obtain⟨v',_,U⟩:=h;rw[U];simp
theorem yO(gu:ss X call):∀(ds:List Deferred) (m:Option Value) (st:aw) (r:Option Value×aw),jg call ds m st=some r->∀(ι:bq) (w:World) (F:Frame) (cs:List Frame),qR ι ds F.defers->mS ι m F.mode->bp X ι st w->
 ∃aM w' md,Steps X.P (lone F cs w) (lone {F with defers:=[],mode:=md} cs w')∧mS aM r.1 md∧bp X aM r.2 w'∧eV ι aM w w'
 |[],m,st,r,h,ι,w,F,cs,ax,hm,hw=>by
  have aL:some (m,st)=some r:=h;cases aL;have aA:F.defers=[]:=by
   cases mv:F.defers with
   |nil=>rfl
   |cons d ds=>rw[mv]at ax;exact ax.elim
  refine⟨ι,w,F.mode,?_,hm,hw,.refl _ _⟩;have:({F with defers:=[],mode:=F.mode}:Frame)=F:=by cases F;simp only at aA;subst aA;rfl
  rw[this];exact .refl _ _
 |⟨t,args⟩::ds,m,st,r,h,ι,w,F,cs,ax,hm,hw=>by
  cases mv:F.defers with
  |nil=>rw[mv]at ax;exact ax.elim
  |cons e es=>
   rw[mv]at ax;obtain⟨⟨aap,s9⟩,iQ⟩:=ax;cases t with
   |collected Sw=>
    cases het:e.target with
    |collected oe=>
     rw[het]at s9;simp only[jg]at h;split at h
     ·rename_i j0;rw[jy]at h;obtain⟨l,hl,_,_,OY⟩:=hw.eu _ _ j0 (by simp);have aG:=s9.symm.trans hl;cases aG;rcases OY with⟨_,H7⟩|⟨hc,_⟩
      ·have bO:oe<w.heap.size:=hw.gh _ _ hl;have abW:(Instr.takeDeferred oe).run X.P w= .ok [] (w.putObj oe (.deferred none)):=run_takeDeferred H7;have mE:=step_collected (P:=X.P) (cs:=cs) hm.Qx mv het abW;obtain⟨ek,fJ⟩:=hw.sg X j0 (by simp) (fun af=>af) hl (.h9 none) (.deferred none) (w.putObj oe (.deferred none)) rfl (fun _ aX=>⟨rfl,rfl,.inr ⟨rfl,aX⟩⟩);obtain⟨aM,w',md,ak,aW,a0,bx⟩:=yO gu ds m _ r h ι _ {F with defers:=[]++es} cs (by simpa using iQ) hm ek;exact⟨aM,w',md,.head mE ak,aW,a0,fJ.trans bx⟩
      ·cases hc
     ·cases h
    |_=>rw[het]at s9;exact s9.elim
   |fn jW fk=>
    cases het:e.target with
    |fn ZX nt=>
     rw[het]at s9;obtain⟨xm,Dt⟩:=s9;cases jW with
     |func g=>
      rcases xm with⟨rfl,_⟩|⟨l,b,J,_⟩
      ·have cx:call (.func (.func g) #[] fk) args.toList m st≠.no:=by
        intro fW;simp only[jg,fW]at h;cases h
       obtain⟨HW,kP⟩:=gu ι g #[] fk args.toList m st #[] nt e.args.toList w (bF.nil ι) aap Dt hw cx;have hinv:(invoke e.target e.args).run X.P w= .ok (.enter g (e.args++nt)) w:=by
        rw[het];exact HW _ _
       have mE:=step_defer (cs:=cs) hm.Qx mv het hinv;have aaq:(#[]++e.args.toList.toArray++nt:Array Value)=e.args++nt:=by simp
       rw[aaq]at kP;cases m with
       |none=>
        have An:F.mode= .returning:=hm;have sV:=kP .deferred (fun _=>{F with defers:=es}::cs) (fun G eB dE=>by
         show tryRecover G ({F with defers:=es}::cs)=none;have zZ:G.kind= .deferred:=dE;rw[tryRecover_deferred zZ];simp[recoverD,An])
        cases hc:call (.func (.func g) #[] fk) args.toList none st with
        |no=>exact absurd hc cx
        |ret v cR eB=>
         rw[hc]at sV;have aL:jg call ds none cR=some r:=by
          simp only[jg,hc]at h;exact h
         obtain⟨aM,v',w',G,_,ek,ae,DH,_,rz,ak⟩:=sV;have oM:=step_going_returned (P:=X.P) (c:={F with defers:=es}) (cs:=cs) DH rz;have pA:settle ({F with defers:=es}:Frame).mode= .returning:=by
          show settle F.mode=_;rw[An];rfl
         rw[pA]at oM;obtain⟨jA,iW,md,e9,aW,a0,bx⟩:=yO gu ds none cR r aL aM w' {{F with defers:=es}with mode:=.returning} cs (iQ.mono ae.le) (show mS aM none .returning from rfl) ek;exact⟨jA,iW,md,(Steps.head mE ak).trans (.head oM e9),aW,a0,ae.trans bx⟩
        |bh v cR eB=>
         rw[hc]at sV;have aL:jg call ds (some v) cR=some r:=by
          simp only[jg,hc]at h;exact h
         obtain⟨aM,v',w',G,aD,ek,ae,DH,_,rz,ak⟩:=sV;have oM:=step_going_panicked (P:=X.P) (c:={F with defers:=es}) (cs:=cs) rz;have pA:raised ({F with defers:=es}:Frame).mode [{v:=v',recovered:=false}]= .panicking [{v:=v',recovered:=false}]:=by
          show raised F.mode _=_;rw[An];rfl
         rw[pA]at oM;obtain⟨jA,iW,md,e9,aW,a0,bx⟩:=yO gu ds (some v) cR r aL aM w' {{F with defers:=es}with mode:=.panicking [{v:=v',recovered:=false}]} cs (iQ.mono ae.le) ⟨v',aD,rfl⟩ ek;exact⟨jA,iW,md,(Steps.head mE ak).trans (.head oM e9),aW,a0,ae.trans bx⟩
       |some qE=>
        obtain⟨mK,xA,An⟩:=hm;have sV:=kP .deferred (fun eB=>{F with defers:=es,mode:=.panicking [{v:=mK,recovered:=eB}]}::cs) ⟨mK,xA,fun G dE=>by
         have zZ:G.kind= .deferred:=dE;rw[tryRecover_deferred zZ];simp[recoverD],fun G dE=>by
         have zZ:G.kind= .deferred:=dE;rw[tryRecover_deferred zZ];simp[recoverD]⟩
        have nI:({F with defers:=es,mode:=.panicking [{v:=mK,recovered:=false}]}:Frame)={F with defers:=es}:=by rw[<-An]
        rw[nI]at sV;cases hc:call (.func (.func g) #[] fk) args.toList (some qE) st with
        |no=>exact absurd hc cx
        |ret v cR eB=>
         rw[hc]at sV;obtain⟨aM,v',w',G,_,ek,ae,DH,_,rz,ak⟩:=sV;have oM:=step_going_returned (P:=X.P) (c:={F with defers:=es,mode:=.panicking [{v:=mK,recovered:=eB}]}) (cs:=cs) DH rz;cases eB with
         |true=>
          have aL:jg call ds none cR=some r:=by
           simp only[jg,hc]at h;exact h
          have pA:settle ({F with defers:=es,mode:=.panicking [{v:=mK,recovered:=true}]}:Frame).mode= .returning:=rfl;rw[pA]at oM;obtain⟨jA,iW,md,e9,aW,a0,bx⟩:=yO gu ds none cR r aL aM w' {{F with defers:=es}with mode:=.returning} cs (iQ.mono ae.le) (show mS aM none .returning from rfl) ek;exact⟨jA,iW,md,(Steps.head mE ak).trans (.head oM e9),aW,a0,ae.trans bx⟩
         |false=>
          have aL:jg call ds (some qE) cR=some r:=by
           simp only[jg,hc]at h;exact h
          have pA:settle ({F with defers:=es,mode:=.panicking [{v:=mK,recovered:=false}]}:Frame).mode= .panicking [{v:=mK,recovered:=false}]:=rfl;rw[pA]at oM;obtain⟨jA,iW,md,e9,aW,a0,bx⟩:=yO gu ds (some qE) cR r aL aM w' {{F with defers:=es}with mode:=.panicking [{v:=mK,recovered:=false}]} cs (iQ.mono ae.le) ⟨mK,xA.mono ae.le,rfl⟩ ek;exact⟨jA,iW,md,(Steps.head mE ak).trans (.head oM e9),aW,a0,ae.trans bx⟩
        |bh v cR eB=>
         exfalso;simp only[jg,hc]at h;cases h
      ·cases J
     |_=>simp[jg]at h
    |_=>rw[het]at s9;exact s9.elim
   |_=>simp[jg]at h
section
variable{P:Program}{b:dG}{a:Act}{k:List Item}{cs:List Frame}{w:World}
def dG.returns(b:dG)(a:Act)(gy:List Item):Frame:={b.at a gy with mode:=.returning}
theorem S3(hb:b.b3=none):step P (lone (b.at a []) cs w)= .next (lone (b.returns a []) cs w):=step_lone_go (by simp[stepG,stepG.exec,dG.at,dG.returns,hb])
theorem Td(hb:b.b3=none):step P (lone (b.at a (.code .ret::k)) cs w)= .next (lone (b.returns a (.code .ret::k)) cs w):=step_lone_go (by simp[stepG,stepG.exec,dG.at,dG.returns,hb])
end
theorem Mz:∀(vs:List Value) (i:Nat) (t:au Value) (j:Nat),(lP vs i t).get j=if i<=j∧j<i+vs.length then vs[j-i]? else t.get j
 |[],i,t,j=>by rw[if_neg (by simp)];rfl
 |v::vs,i,t,j=>by
  show(au.hM (Nat.succ i) t i v fun t=>lP vs (Nat.succ i) t).get j=_;rw[au.v5,Mz vs (Nat.succ i) _ j,au.eI];by_cases e:j=i
  ·subst e;rw[if_neg (by omega),if_pos rfl,if_pos (by simp)];simp
  ·by_cases h:Nat.succ i<=j∧j<Nat.succ i+vs.length
   ·rw[if_pos h,if_pos (by simp only[List.length_cons];omega)];obtain⟨J,_⟩:=h;have:j-i=(j-Nat.succ i)+1:=by omega
    rw[this];simp
   ·rw[if_neg h,if_neg e,if_neg (by simp only[List.length_cons];omega)]
theorem NM{ι:bq}{as as':List Value}{ay:Nat}{bh:Option Value}{eB:Bool}{b3:Option Nat}(h:bF ι as as')(hn:as.length<=ay):
 cE ι ⟨lP as 0 .nil,[],bh,eB,b3⟩ ⟨as'.toArray++Array.replicate (ay-as'.toArray.size) undef,[]⟩ ay:=by
 refine⟨fun t=> ?_,by simp[<-h.1];omega,trivial⟩;show bs ι (Option.rec (motive:=fun _=>Value) (.chan (some 0)) (fun v=>v) ((lP as 0 .nil).get t)) _;rw[Mz];by_cases aX:t<as.length
 ·rw[if_pos ⟨Nat.zero_le _,by omega⟩];have qo:t<as'.length:=by rw[<-h.1];exact aX
  have:=h.2 t aX qo;simp only[Nat.sub_zero,cA aX];have aZ:(as'.toArray++Array.replicate (ay-as'.toArray.size) undef).getD t undef=as'[t]:=by
   simp[Array.getElem?_append,qo]
  rw[aZ];exact this
 ·rw[if_neg (by omega)];exact .top _
section
variable{b:dG}{bc:Bool->List Frame}{ι:bq}{fr:aQ}{a:Act}{ay:Nat}{st:aw}{w:World}
theorem w5(gu:ss X call){Fn:Func}{res:List iu}{m:Option Value}{F:Frame}(aA:X.P.funcs[b.fn]? =some Fn)(u5:sa X res Fn.results.toList=true)(af:cE ι fr a ay)(hw:bp X ι st w)
 (J:F.tmps=a.tmps) (U:F.defers=a.defers) (ah:F.kind=b.kind) (aC:F.fn=b.fn) (hm:mS ι m F.mode):g7 X ι w b bc (lone F (bc fr.cL) w) (lj call res m fr st):=by
 unfold lj;cases hu:jg call fr.c8 m st with
 |none=>trivial
 |some p=>
  obtain⟨fL,st'⟩:=p;obtain⟨aM,w',md,ak,aW,a0,bx⟩:=yO gu fr.c8 m st (fL,st') hu ι w F (bc fr.cL) (by rw[U];exact af.c8) hm hw;cases fL with
  |some v=>
   obtain⟨v',aD,Ij⟩:=aW;exact⟨aM,v',w',{F with defers:=[],mode:=md},aD,a0,bx,ah,aC,⟨Ij,rfl,Fn,by show X.P.funcs[F.fn]? =_;rw[aC];exact aA⟩,ak⟩
  |none=>
   have Ij:md= .returning:=aW;show g7 X ι w b bc _ (bo (pk fr st' res) (fun vs=>one vs (fun v=>.ret v st' fr.cL) (.ret (.tuple ⟨vs⟩) st' fr.cL)) .no);cases he:pk fr st' res with
   |none=>trivial
   |some out=>
    have eD:cE aM ⟨fr.t,[],fr.bh,fr.cL,fr.b3⟩ ⟨a.tmps,[]⟩ ay:=⟨fun t=>(af.tmp t).mono bx.le,af.size,trivial⟩;obtain⟨v',aD,fw⟩:=aj8 (F:=Fn) u5 eD a0 (show pk ⟨fr.t,[],fr.bh,fr.cL,fr.b3⟩ st' res=some out from he);have Is:bo (some out) (fun vs=>one vs (fun v=>dC.ret v st' fr.cL) (.ret (.tuple ⟨vs⟩) st' fr.cL)) .no= .ret (one out (fun v=>v) (.tuple ⟨out⟩)) st' fr.cL:=by
     cases out with
     |nil=>rfl
     |cons x xs=>cases xs<;>rfl
    rw[Is];refine⟨aM,v',w',{F with defers:=[],mode:=md},aD,a0,bx,ah,aC,⟨Ij,rfl,Fn,by show X.P.funcs[F.fn]? =_;rw[aC];exact aA,?_⟩,ak⟩;show(results Fn F.tmps).run X.P w'=_;rw[J];exact fw
structure sr(X:Ctx)(f:FuncId)(xf:aK)(Fn:Func)(c:Code):Prop where
 fn:X.P.funcs[f]? =some Fn
 body:Fn.body=some c
 ay:Fn.ntmps=xf.ay
 code:codeOk X xf.ay xf.body c=true
 res:sa X xf.res Fn.results.toList=true
 name:(Fn.name== "runtime.NumGoroutine")=false
theorem sr.enters{f:FuncId}{xf:aK}{Fn:Func}{body:Code}(h:sr X f xf Fn body)(as:Array Value)(w:World):(callFunc f as).run X.P w= .ok (.enter f as) w:=by
 have hn:=h.name;simp only[callFunc,program,Sem.run_bind];simp[Sem.run,h.fn,h.body,hn,Result.andThen]
theorem MX(dE:Good X)(ej:kB X call)(gu:ss X call)(qk:∀b ay bc,b.b3=none->wA X call b ay bc){f:FuncId}{xf:aK}{Fn:Func}{body:Code}(ok:sr X f xf Fn body)(n:Nat){K:CallKind}{as as':List Value}{bh:Option Value}
 (has:bF ι as as') (hw:bp X ι st w) (aF:iJ ⟨f,K,none⟩ bh ι bc):g7 X ι w ⟨f,K,none⟩ bc (lone (Frame.enter X.P f as'.toArray K) (bc false) w) (oi call n f xf as bh st):=by
 unfold oi;rw[nQ];split
 ·rename_i hlen;rw[fx]at hlen
  let b:dG:=⟨f,K,none⟩
  have pr:Frame.enter X.P f as'.toArray K=b.at ⟨as'.toArray++Array.replicate (xf.ay-as'.toArray.size) undef,[]⟩ [.code body]:=by
   simp[Frame.enter,dG.at,ok.fn,ok.body,ok.ay,b]
  rw[pr];have xC:=CJ (b:=b) (bc:=bc) dE ej (qk b xf.ay bc rfl) ⟨Fn,ok.fn,ok.ay⟩ n xf.body body ι ⟨lP as 0 .nil,[],bh,false,none⟩ ⟨as'.toArray++Array.replicate (xf.ay-as'.toArray.size) undef,[]⟩ st w [] ok.code (NM has hlen) hw (.inl ⟨rfl,rfl⟩) aF;cases iy:dD call n f xf.body ⟨lP as 0 .nil,[],bh,false,none⟩ st with
  |no=>trivial
  |out e aE st'=>
   have aaI:dD call n b.fn xf.body ⟨lP as 0 .nil,[],bh,false,none⟩ st= .out e aE st':=iy;rw[aaI]at xC;obtain⟨aM,a',w',J,U,ah,_,_,ch⟩:=xC;cases e with
   |norm=>
    refine g7.head (Steps.trans ch (.one (S3 rfl))) ah ?_;exact w5 (b:=b) (a:=a') (F:=b.returns a' []) (ay:=xf.ay) gu ok.fn ok.res J U rfl rfl rfl rfl (show mS aM none .returning from rfl)
   |exit id=>trivial
   |ret=>
    obtain⟨gy,cV⟩:=ch;refine g7.head (Steps.trans cV (.one (Td rfl))) ah ?_;exact w5 (b:=b) (a:=a') (F:=b.returns a' (.code .ret::gy)) (ay:=xf.ay) gu ok.fn ok.res J U rfl rfl rfl rfl (show mS aM none .returning from rfl)
   |bh v=>
    obtain⟨v',gy,aD,cV⟩:=ch;refine g7.head cV ah ?_;exact w5 (b:=b) (a:=a') (F:=b.panics a' gy v') (ay:=xf.ay) gu ok.fn ok.res J U rfl rfl rfl rfl ⟨v',aD,rfl⟩
 ·trivial
end
theorem Ej{β:Type}{o:Option bL}{k:LoopState->Option ee->FuncId->au Value->List Tmp->du->du->Nat->β}{z r:β}(h:lz o k z=r)(a8:z≠r):
 ∃s fO fn t ps a b d,o=some (.loop s fO fn t ps a b d)∧k s fO fn t ps a b d=r:=by
 unfold lz at h;obtain⟨ez,ao,J⟩:=fC h a8;cases ez<;>first|exact absurd J a8|exact⟨_,_,_,_,_,_,_,_,ao,J⟩
section
variable{P:Program}{b:dG}{a:Act}{k:List Item}{c:Frame}{cs:List Frame}{w w':World}{l:Nat}
theorem alQ(hb:b.b3=some l)(h:(Instr.beginRound l).run P w= .ok () w'):step P (lone (b.at a (.beginRound::k)) cs w)= .next (lone (b.at a k) cs w'):=
 step_lone_go (by simp[stepG,stepG.exec,stepG.apply,dG.at,hb,h,Result.andThen,Frame.finish])
theorem al0{v:Value}(hb:b.b3=some l)(ae:b.kind= .normal)(h:(Instr.endRound l none).run P w= .ok v w'):step P (lone (b.at a []) (c::cs) w)= .next (lone (c.finish v) cs w'):=
 step_lone_go (by simp[stepG,stepG.exec,dG.at,hb,ae,h,doReturn])
theorem al2{v:Value}(hb:b.b3=some l)(ae:b.kind= .normal)(h:(Instr.endRound l (some .ret)).run P w= .ok v w'):step P (lone (b.at a (.code .ret::k)) (c::cs) w)= .next (lone (c.finish v) cs w'):=
 step_lone_go (by simp[stepG,stepG.exec,dG.at,hb,ae,h,doReturn])
theorem al1{v:Value}{i:Nat}(hb:b.b3=some l)(ae:b.kind= .normal)(aa:exitTo i k=none)(h:(Instr.endRound l (some (.exit i))).run P w= .ok v w'):step P (lone (b.at a (.code (.exit i)::k)) (c::cs) w)= .next (lone (c.finish v) cs w'):=
 step_lone_go (by simp[stepG,stepG.exec,dG.at,hb,ae,aa,h,doReturn])
end
theorem Rn{ι:bq}:∀(ps:List Tmp) (vs fQ:List Value) (m:au Value) (arr:Array Value),(∀n,bs ι (yM m n) (arr.getD n undef))->bF ι vs fQ->vs.length=ps.length->(∀t∈ps,t<arr.size)->
 (∀n,bs ι (yM (mJ ps vs m) n) (((ps.zip fQ).foldl (fun tmps (p:Tmp×Value)=>tmps.setIfInBounds p.1 p.2) arr).getD n undef))∧((ps.zip fQ).foldl (fun tmps (p:Tmp×Value)=>tmps.setIfInBounds p.1 p.2) arr).size=arr.size
 |[],_,_,m,arr,h,_,_,_=>⟨h,rfl⟩
 |t::ps,[],_,_,_,_,_,hl,_=>by simp at hl
 |t::ps,v::vs,fQ,m,arr,h,aD,hl,bO=>by
  obtain⟨y,av,rfl,J,U⟩:=aD.cons_inv;have aX:t<arr.size:=bO t List.mem_cons_self;have mE:∀n,bs ι (yM (m.set t v) n) ((arr.setIfInBounds t y).getD n undef):=by
   intro n;have hn:=h n;unfold yM at hn⊢;rw[au.eI];by_cases e:n=t
   ·subst e;rw[if_pos rfl];have:(arr.setIfInBounds n y).getD n undef=y:=by simp[aX]
    rw[this];exact J
   ·rw[if_neg e];have:(arr.setIfInBounds t y).getD n undef=arr.getD n undef:=by
     simp[Array.getElem?_setIfInBounds_ne (Ne.symm e)]
    rw[this];exact hn
  obtain⟨aW,a0⟩:=Rn ps vs av (m.set t v) (arr.setIfInBounds t y) mE U (by simpa using hl) (fun u hu=>by simpa using bO u (List.mem_cons_of_mem _ hu));have hp:mJ (t::ps) (v::vs) m=mJ ps vs (m.set t v):=by
   show au.hM (Nat.succ t) m t v (fun m=>mJ ps vs m)=_;rw[au.v5]
  rw[hp];refine⟨aW,?_⟩;rw[List.zip_cons_cons,List.foldl_cons,a0];simp
theorem bp.loop{ι:bq}{st:aw}{w:World}(hw:bp X ι st w){l l':Nat}{s:LoopState}{fO:Option ee}{fn:FuncId}{t:au Value}{ps:List Tmp}{dy body:du}{d:Nat}(h:st.h.get l=some (.loop s fO fn t ps dy body d))(hl:ι l=some ⟨l',0,0,id⟩):
 ∃L:Loop,w.heap[l']? =some (.loop L)∧L.state=s∧B8 fO L.pending∧L.fn=fn∧(∀n,bs ι (yM t n) (L.tmps.getD n undef))∧L.params.toList=ps∧X.ok fn L.assign dy∧X.ok fn L.body body∧ι d=some ⟨L.defers,0,0,id⟩∧
  (∃F,X.P.funcs[fn]? =some F∧L.tmps.size=F.ntmps)∧∀t∈ps,t<L.tmps.size:=by
 obtain⟨m,hm,_,_,L,hd⟩:=hw.eu _ _ h (by simp);have e:=hl.symm.trans hm;cases e;exact⟨L,hd⟩
theorem bp.Jb{ι:bq}{st:aw}{w:World}(hw:bp X ι st w){l l':Nat}{s:LoopState}{fO:Option ee}{fn:FuncId}{t:au Value}{ps:List Tmp}{dy body:du}{d:Nat}(h:st.h.get l=some (.loop s fO fn t ps dy body d))(hl:ι l=some ⟨l',0,0,id⟩)
 {L:Loop} (hd:w.heap[l']? =some (.loop L)) (br:LoopState) (Rr:Option ee) (jump:Option Code) (hj:B8 Rr jump):
 bp X ι ⟨st.h.set l (.loop br Rr fn t ps dy body d),st.aj⟩ (w.putObj l' (.loop {L with state:=br,pending:=jump}))∧eV ι ι w (w.putObj l' (.loop {L with state:=br,pending:=jump})):=by
 obtain⟨ani,h0,J,U,ah,aC,a5,ch,cV,fG,g1,po⟩:=hw.loop h hl;rw[hd]at h0;cases h0;exact hw.sg X h (by simp) (fun af=>af) hl _ (.loop {L with state:=br,pending:=jump}) _ rfl fun _ aX=>⟨rfl,rfl,{L with state:=br,pending:=jump},aX,rfl,hj,ah,aC,a5,ch,cV,fG,g1,po⟩
section
variable{ι:bq}{st:aw}{w:World}
theorem ake{b:dG}{ay l l':Nat}{Fn:Func}{c:Frame}{cs:List Frame}{s:Machine}{eX:aQ}{aM:bq}{fR:World}{r:cC}(m1:X.P.funcs[b.fn]? =some Fn)(uO:b.b3=some l')(xh:b.kind= .normal)(hl:aM l=some ⟨l',0,0,id⟩)
 (h:fp X b ay (fun _=>c::cs) s [] eX aM fR r):
 match o3 l r with
 |.ret v st' _=>∃dB v' w',bs dB v v'∧bp X dB st' w'∧eV aM dB fR w'∧Steps X.P s (lone (c.finish v') cs w')
 |.bh v st' _=>∃dB v' w',bs dB v v'∧bp X dB st' w'∧eV aM dB fR w'∧Steps X.P s (lone (c.raise [{v:=v',recovered:=false}]) cs w')
 |.no=>True:=by
 cases r with
 |no=>trivial
 |out e fr st=>
  obtain⟨dB,a,w,af,hw,ae,_,_,aa⟩:=h;have jt:=ae.le _ _ hl;cases mv:fr.c8 with
  |cons d ds=>
   have:o3 l (.out e fr st)= .no:=by show List.rec (motive:=fun _=>dC) _ _ fr.c8=_;rw[mv]
   rw[this];trivial
  |nil=>
   have aan:a.defers=[]:=by
    have:=af.c8;rw[mv]at this;cases a2:a.defers with
    |nil=>rfl
    |cons d ds=>rw[a2]at this;exact this.elim
   have key:∀(br:LoopState) (fO:Option ee) (jump:Option Code) (v:Value),B8 fO jump->
    (∀L,w.heap[l']? =some (.loop L)->∃w',w'=w.putObj l' (.loop {L with state:=br,pending:=jump})∧Steps X.P s (lone (c.finish v) cs w'))->bs dB v v->
    match lz (st.h.get l) (fun _ _ fn t ps a b d=>st.gN l (.loop br fO fn t ps a b d) fun st=>dC.ret v st false) .no with
    |.ret v st' _=>∃dB v' w',bs dB v v'∧bp X dB st' w'∧eV aM dB fR w'∧Steps X.P s (lone (c.finish v') cs w')
    |.bh v st' _=>∃dB v' w',bs dB v v'∧bp X dB st' w'∧eV aM dB fR w'∧Steps X.P s (lone (c.raise [{v:=v',recovered:=false}]) cs w')
    |.no=>True:=by
    intro br fO jump v hj gC aD;by_cases fW:lz (st.h.get l) (fun _ _ fn t ps a b d=>st.gN l (.loop br fO fn t ps a b d) fun st=>dC.ret v st false) .no= .no
    ·rw[fW];trivial
    ·obtain⟨a4,lF,Db,t0,EY,oa,kE,d0,j0,J⟩:=Ej rfl (fun e=>fW e.symm);rw[<-J,jy];obtain⟨L,hd,_⟩:=hw.loop j0 jt;obtain⟨w',ek,e9⟩:=gC L hd;obtain⟨aW,a0⟩:=hw.Jb j0 jt hd br fO jump hj;exact⟨dB,v,w',aD,by rw[ek];exact aW,by rw[ek];exact ae.trans a0,e9⟩
   cases e with
   |norm=>
    have:o3 l (.out .norm fr st)=lz (st.h.get l) (fun _ _ fn t ps a b d=>st.gN l (.loop .ready none fn t ps a b d) fun st=>dC.ret (.bool true) st false) .no:=by
     show List.rec (motive:=fun _=>dC) _ _ fr.c8=_;rw[mv]
    rw[this];exact key .ready none none (.bool true) trivial (fun L hd=>⟨_,rfl,Steps.trans aa (.one (al0 uO xh (run_endRound none hd)))⟩) (.bool true)
   |exit i=>
    have:o3 l (.out (.exit i) fr st)=lz (st.h.get l) (fun _ _ fn t ps a b d=>st.gN l (.loop .done (some (.exit i)) fn t ps a b d) fun st=>dC.ret (.bool false) st false) .no:=by
     show List.rec (motive:=fun _=>dC) _ _ fr.c8=_;rw[mv]
    rw[this];obtain⟨gy,abX,b4⟩:=aa;exact key .done (some (.exit i)) (some (.exit i)) (.bool false) rfl (fun L hd=>⟨_,rfl,Steps.trans b4 (.one (al1 uO xh (by rw[abX];rfl) (run_endRound (some (.exit i)) hd)))⟩) (.bool false)
   |ret=>
    have:o3 l (.out .ret fr st)=lz (st.h.get l) (fun _ _ fn t ps a b d=>st.gN l (.loop .done (some .ret) fn t ps a b d) fun st=>dC.ret (.bool false) st false) .no:=by
     show List.rec (motive:=fun _=>dC) _ _ fr.c8=_;rw[mv]
    rw[this];obtain⟨gy,b4⟩:=aa;exact key .done (some .ret) (some .ret) (.bool false) trivial (fun L hd=>⟨_,rfl,Steps.trans b4 (.one (al2 uO xh (run_endRound (some .ret) hd)))⟩) (.bool false)
   |bh v=>
    have:o3 l (.out (.bh v) fr st)= .bh v st false:=by
     show List.rec (motive:=fun _=>dC) _ _ fr.c8=_;rw[mv]
    rw[this];obtain⟨v',gy,aD,b4⟩:=aa;refine⟨dB,v',w,aD,hw,ae,Steps.trans b4 (.one (step_leave_panicked (fr:=b.panics a gy v') ⟨rfl,aan,Fn,m1⟩))⟩
theorem ane(dE:Good X)(ej:kB X call)(qk:∀b ay bc,wA X call b ay bc){n l l':Nat}{args ja:List Value}(hl:ι l=some ⟨l',0,0,id⟩)(a2:bF ι args ja)(hw:bp X ι st w)(cx:wu call n l args st≠.no):
 ∃fn ts dy body,(Instr.yield l' ja.toArray).run X.P w= .ok (.round l' fn ts dy body) w∧∀c cs,yZ X ι w (Frame.round l' fn ts dy body .normal) c cs (wu call n l args st):=by
 unfold wu at cx⊢;obtain⟨s,fO,fn,t,ps,dy,body,d,j0,J⟩:=Ej rfl (fun e=>cx e.symm);rw[<-J]at cx⊢;obtain⟨hlen,U⟩:=jD rfl (fun e=>cx e.symm);rw[<-U]at cx⊢;rw[fx,fx]at hlen;obtain⟨L,hd,ak,hj,gu,xD,iA,HT,xk,ax,⟨Fn,m1,fa⟩,bO⟩:=hw.loop j0 hl;have abO:ja.toArray.size=L.params.size:=by
  have:L.params.size=ps.length:=by rw[<-iA];simp
  rw[this,<-hlen];simpa using a2.1.symm
 refine⟨L.fn,_,L.assign,L.body,run_yield hd abO,fun c cs=> ?_⟩;subst gu;obtain⟨h4,gK⟩:=Rn ps args ja t L.tmps xD a2 hlen bO;have Pe:(L.params.zip ja.toArray).foldl (fun tmps (x:Tmp×Value)=>tmps.setIfInBounds x.1 x.2) L.tmps=(ps.zip ja).foldl (fun tmps (p:Tmp×Value)=>tmps.setIfInBounds p.1 p.2) L.tmps:=by
  rw[<-Array.foldl_toList,Array.toList_zip,iA]
 let b:dG:=⟨L.fn,.normal,some l'⟩
 let wa:=(L.params.zip ja.toArray).foldl (fun tmps (x:Tmp×Value)=>tmps.setIfInBounds x.1 x.2) L.tmps
 have anY:Frame.round l' L.fn wa L.assign L.body .normal=b.at ⟨wa,[]⟩ [.code L.assign,.beginRound,.code L.body]:=rfl;obtain⟨LA,ox,abo⟩:=(dE.2 _ _ _).1 HT;obtain⟨jm,uK,rE⟩:=(dE.2 _ _ _).1 xk;rw[m1]at ox uK;cases ox;cases uK;have af:cE ι ⟨mJ ps args t,[],none,false,some l⟩ ⟨wa,[]⟩ Fn.ntmps:=by
  refine⟨fun u=> ?_,?_,trivial⟩
  ·have:=h4 u;rw[<-Pe]at this;exact this
  ·show wa.size=_;rw[<-fa,<-gK,<-Pe]
 have O8:∀bh:Option Value,bh=none->∀aM,iJ b bh aM (fun _=>c::cs):=by
  rintro _ rfl aM F eB aA;have eC:F.kind= .normal:=aA;simp[tryRecover,eC]
 have xC:=CJ (b:=b) (bc:=fun _=>c::cs) dE ej (qk b Fn.ntmps _) ⟨Fn,m1,rfl⟩ n dy L.assign ι ⟨mJ ps args t,[],none,false,some l⟩ ⟨wa,[]⟩ st w [.beginRound,.code L.body] abo af hw (.inr ⟨l,l',rfl,rfl,hl⟩) (O8 _ rfl ι);have Pb:fp X b Fn.ntmps (fun _=>c::cs) (lone (Frame.round l' L.fn wa L.assign L.body .normal) (c::cs) w) [.beginRound,.code L.body] ⟨mJ ps args t,[],none,false,some l⟩ ι w (dD call n L.fn dy ⟨mJ ps args t,[],none,false,some l⟩ st):=xC;generalize dD call n L.fn dy ⟨mJ ps args t,[],none,false,some l⟩ st=kt at Pb cx⊢;cases kt with
 |no=>exact absurd rfl cx
 |out e eX cR=>
  obtain⟨aM,gZ,fR,H3,mF,xr,s5,ia,ab8⟩:=Pb;cases e with
  |exit _=>exact absurd rfl cx
  |ret=>exact absurd rfl cx
  |bh _=>exact absurd rfl cx
  |norm=>
   have xy:yF call n l L.fn body eX cR≠.no:=cx;show yZ X ι w _ c cs (yF call n l L.fn body eX cR);unfold yF at xy⊢;obtain⟨s1,yh,zQ,t1,Bn,zg,zm,d1,DD,ah⟩:=Ej rfl (fun e=>xy e.symm);rw[<-ah]at xy⊢;cases s1 with
   |busy=>exact absurd rfl xy
   |done=>exact absurd rfl xy
   |exhausted=>exact absurd rfl xy
   |ready=>
    have jt:=xr.le _ _ hl;obtain⟨p3,z1,mD,mz,anG,_⟩:=mF.loop DD jt;have hv:(Instr.beginRound l').run X.P fR= .ok () (fR.putObj l' (.loop {p3 with state:=.busy})):=run_beginRound z1 mD;have abR:=alQ (P:=X.P) (b:=b) (a:=gZ) (k:=[.code L.body]) (cs:=c::cs) rfl hv;obtain⟨AF,jH⟩:=mF.Jb DD jt z1 .busy yh p3.pending mz;have abN:=CJ (b:=b) (bc:=fun _=>c::cs) dE ej (qk b Fn.ntmps _) ⟨Fn,m1,rfl⟩ n body L.body aM eX gZ ⟨cR.h.set l (.loop .busy yh zQ t1 Bn zg zm d1),cR.aj⟩ (fR.putObj l' (.loop {p3 with state:=.busy})) [] rE H3 AF (by rw[ia];exact .inr ⟨l,l',rfl,rfl,jt⟩) (O8 _ s5 aM);have u3:Steps X.P (lone (Frame.round l' L.fn wa L.assign L.body .normal) (c::cs) w) (lone (b.at gZ [.code L.body]) (c::cs) (fR.putObj l' (.loop {p3 with state:=.busy}))):=Steps.trans ab8 (.one abR);have hx:=xr.trans jH;have rG:=ake (b:=b) (l:=l) m1 rfl rfl jt abN;show yZ X ι w _ c cs (cR.gN l (.loop .busy yh zQ t1 Bn zg zm d1) fun st=>o3 l (dD call n L.fn body eX st));rw[jy];have cX:dD call n b.fn body eX ⟨cR.h.set l (.loop .busy yh zQ t1 Bn zg zm d1),cR.aj⟩=dD call n L.fn body eX ⟨cR.h.set l (.loop .busy yh zQ t1 Bn zg zm d1),cR.aj⟩:=rfl;rw[cX]at rG;generalize o3 l (dD call n L.fn body eX ⟨cR.h.set l (.loop .busy yh zQ t1 Bn zg zm d1),cR.aj⟩)=Sw at rG⊢;cases Sw with
    |no=>trivial
    |ret v st' eB=>obtain⟨dB,v',w',aW,a0,bx,cK⟩:=rG;exact⟨dB,v',w',aW,a0,hx.trans bx,u3.trans cK⟩
    |bh v st' eB=>obtain⟨dB,v',w',aW,a0,bx,cK⟩:=rG;exact⟨dB,v',w',aW,a0,hx.trans bx,u3.trans cK⟩
end
section
variable{P:Program}{b:dG}{a:Act}{k:List Item}{cs:List Frame}{w fR:World}{f:Operand}{ps:Array Tmp}{dy body:Code}{l:Nat}{mark:List Deferred}
theorem Sq(_hb:b.b3=none):(Frame.eval {fn:=b.fn,tmps:=a.tmps,todo:=.inRangeFunc l::k,defers:=mark++a.defers,mode:=.run,kind:=b.kind,roundOf:=none}) f=a.eval f:=by cases f<;>rfl
theorem Sp{a:Act}{v:Value}:a.eval (.const v)=v:=rfl
theorem alY(hb:b.b3=none)(h:(Instr.enterLoop b.fn a.tmps ps dy body none).run P w= .ok (l,mark) fR){g:FuncId}{as:Array Value}
 (aF:((do let d<-Deferred.ofValue (a.eval f) #[.func (.yield l) #[] #[]];invoke d.target d.args):Sem Next).run P fR= .ok (.enter g as) fR):
 step P (lone (b.at a (.code (.rangeFunc f ps dy body)::k)) cs w)= .next (lone (Frame.enter P g as .normal) (b.at {a with defers:=mark++a.defers} (.inRangeFunc l::k)::cs) fR):=by
 refine step_lone_go ?_;have lX:=aF;simp only[Sem.run_bind]at lX;simp[stepG,stepG.exec,stepG.apply,dG.at,hb,h,resolve,Sq hb,Sp,lX]
theorem alZ(hb:b.b3=none)(h:(Instr.enterLoop b.fn a.tmps ps dy body none).run P w= .ok (l,mark) fR){ie:Nat}{g:FuncId}{ts:Array Value}{GX G8:Code}
 (aF:((do let d<-Deferred.ofValue (a.eval f) #[.func (.yield l) #[] #[]];invoke d.target d.args):Sem Next).run P fR= .ok (.round ie g ts GX G8) fR):
 step P (lone (b.at a (.code (.rangeFunc f ps dy body)::k)) cs w)= .next (lone (Frame.round ie g ts GX G8 .normal) (b.at {a with defers:=mark++a.defers} (.inRangeFunc l::k)::cs) fR):=by
 refine step_lone_go ?_;have lX:=aF;simp only[Sem.run_bind]at lX;simp[stepG,stepG.exec,stepG.apply,dG.at,hb,h,resolve,Sq hb,Sp,lX]
theorem alR{jump:Option Code}(h:(Instr.endLoop l).run P w= .ok jump fR):step P (lone (b.at a (.endRangeFunc l::k)) cs w)= .next (lone (b.at a ((jump.map Item.code).toList++k)) cs fR):=
 step_lone_go (by simp[stepG,stepG.exec,dG.at,h])
end
theorem FX(ej:kB X call)(b:dG)(ay:Nat)(bc:Bool->List Frame):wA X call b ay bc:=by
 intro f ps dy body od oh ι fr a st w k aaP bO m1 HT xk af hw hb aF;unfold zM;cases oK:fr.b3 with
 |some _=>trivial
 |none=>
  have xj:b.b3=none:=by
   rcases hb with⟨_,h⟩|⟨l,l',h,_⟩
   ·exact h
   ·rw[oK]at h;cases h
  obtain⟨Fn,m1,Ip⟩:=m1;have pr:=run_enterLoop_outer (P:=X.P) (w:=w) b.fn a.tmps ps od oh;obtain⟨aot,mF,xr,J,_⟩:=bp.alloc X hw (.h9 (some [])) (.deferred (some [])) 0 (fun aM w' _ _ aX=>⟨rfl,rfl,.inl ⟨rfl,aX⟩⟩) (w.alloc (.deferred (some []))) rfl;have abT:(w.alloc (.deferred (some []))).heap.size=w.heap.size+1:=World.size_alloc _ _
  let L:Loop:={state:=.ready,pending:=none,fn:=b.fn,tmps:=a.tmps,params:=ps,assign:=od,body:=oh,defers:=w.heap.size}
  obtain⟨Gu,AF,jH,U,_⟩:=bp.alloc X mF (.loop .ready none b.fn fr.t ps.toList dy body st.aj) (.loop L) 0 (fun aM w' hle _ aX=>⟨rfl,rfl,L,aX,rfl,trivial,rfl,fun n=>(af.tmp n).mono (xr.le.trans hle),rfl,HT,xk,hle _ _ J,⟨Fn,m1,by rw[Ip];exact af.size⟩,fun t aX=>by show t<a.tmps.size;rw[af.size];exact bO t aX⟩)
   ((w.alloc (.deferred (some []))).alloc (.loop L)) rfl
  show fp X b ay bc _ k fr ι w (st.iS (.h9 (some [])) fun r st=>st.iS (.loop .ready none b.fn fr.t ps.toList dy body r) fun l st=>FW l ⟨fr.t,{target:=.collected r,args:= #[]}::fr.c8,fr.bh,fr.cL,none⟩ (call (fr.an f) [.func (.yield l) #[] #[]] none st));rw[gF,gF];have hx:=xr.trans jH;rw[abT]at U
  let cS:aw:=⟨(st.h.set st.aj (.h9 (some []))).set (st.aj+1) (.loop .ready none b.fn fr.t ps.toList dy body st.aj),st.aj+1+1⟩
  let aE:aQ:=⟨fr.t,{target:=.collected st.aj,args:= #[]}::fr.c8,fr.bh,fr.cL,none⟩
  let a':Act:={a with defers:=[{target:=.collected w.heap.size,args:= #[]}]++a.defers}
  have eD:cE Gu aE a' ay:=⟨fun t=>(af.tmp t).mono hx.le,af.size,⟨⟨bF.nil _,jH.le _ _ J⟩,af.c8.mono hx.le⟩⟩;have ab7:bp X Gu cS ((w.alloc (.deferred (some []))).alloc (.loop L)):=AF;have fK:bs Gu (.func (.yield (st.aj+1)) #[] #[]) (.func (.yield (w.heap.size+1)) #[] #[]):=bs.EE (.inr ⟨_,_,rfl,rfl,U⟩) (bF.nil _) (bF.nil _);show fp X b ay bc _ k fr ι w (FW (st.aj+1) aE (call (fr.an f) [.func (.yield (st.aj+1)) #[] #[]] none cS));by_cases fW:call (fr.an f) [.func (.yield (st.aj+1)) #[] #[]] none cS= .no
  ·rw[fW];trivial
  obtain⟨gq,gC,rF⟩:=ej Gu (fr.an f) [.func (.yield (st.aj+1)) #[] #[]] cS (a.eval f) [.func (.yield (w.heap.size+1)) #[] #[]] _ ((af.an hw aaP).mono hx.le) (bF.cons fK (bF.nil _)) ab7 fW;have u3:step X.P (lone (b.at a (.code (.rangeFunc f ps od oh)::k)) (bc fr.cL) w)= .next (lone gq (b.at a' (.inRangeFunc (w.heap.size+1)::k)::bc fr.cL) ((w.alloc (.deferred (some []))).alloc (.loop L))):=by
   cases gC with
   |enter g as ak=>exact alY xj pr ak
   |round ie g ts GX G8 ak=>exact alZ xj pr ak
  have ao:=rF (b.at a' (.inRangeFunc (w.heap.size+1)::k)) (bc fr.cL);have hZ:aE.bh=fr.bh:=rfl;have h1:aE.b3=fr.b3:=oK.symm;cases hc:call (fr.an f) [.func (.yield (st.aj+1)) #[] #[]] none cS with
  |no=>exact absurd hc fW
  |bh v gx eB=>
   rw[hc]at ao;obtain⟨aM,v',w',aD,ek,ae,ak⟩:=ao;exact⟨aM,a',w',eD.mono ae.le,ek,hx.trans ae,hZ,h1,v',_,aD,Steps.head u3 ak⟩
  |ret v gx eB=>
   rw[hc]at ao;obtain⟨aM,v',w',aD,ek,ae,ak⟩:=ao;have kP:(b.at a' (.inRangeFunc (w.heap.size+1)::k)).finish v'=b.at a' (.endRangeFunc (w.heap.size+1)::k):=rfl;rw[kP]at ak;have hl:=ae.le _ _ U;show fp X b ay bc _ k fr ι w (lz (gx.h.get (st.aj+1)) (fun s fO rk t ps a b d=>
    LoopState.rec (motive:=fun _=>cC)
    (gx.gN (st.aj+1) (.loop .exhausted fO rk t ps a b d) fun st=>bo fO (fun e=>.out e aE st) (.out .norm aE st))
    .no
    (gx.gN (st.aj+1) (.loop .exhausted fO rk t ps a b d) fun st=>bo fO (fun e=>.out e aE st) (.out .norm aE st))
    .no s) .no)
   generalize u5:lz _ _ _=res;by_cases hn:res= .no
   ·rw[hn];trivial
   obtain⟨a4,lF,Db,t0,EY,oa,kE,d0,j0,ah⟩:=Ej u5 (fun e=>hn e.symm);obtain⟨p3,z1,mD,mz,_⟩:=ek.loop j0 hl;have key:a4≠.busy->(gx.gN (st.aj+1) (.loop .exhausted lF Db t0 EY oa kE d0) fun st=>bo lF (fun e=>cC.out e aE st) (.out .norm aE st))=res->fp X b ay bc (lone (b.at a (.code (.rangeFunc f ps od oh)::k)) (bc fr.cL) w) k fr ι w res:=by
    intro DQ he;rw[jy]at he;have z8:(Instr.endLoop (w.heap.size+1)).run X.P w'= .ok p3.pending (w'.putObj (w.heap.size+1) (.loop {p3 with state:=.exhausted})):=run_endLoop z1 (by rw[mD];exact DQ);obtain⟨aW,a0⟩:=ek.Jb j0 hl z1 .exhausted lF p3.pending mz;have oM:=alR (P:=X.P) (b:=b) (a:=a') (k:=k) (cs:=bc fr.cL) z8;have dV:=(Steps.head u3 ak).trans (.one oM);have Ag:=(hx.trans ae).trans a0;have Ab:=eD.mono ae.le;cases lF with
    |none=>
     have ix:cC.out .norm aE ⟨gx.h.set (st.aj+1) (.loop .exhausted none Db t0 EY oa kE d0),gx.aj⟩=res:=he;cases hp:p3.pending with
     |some _=>rw[hp]at mz;exact mz.elim
     |none=>
      rw[<-ix];rw[hp]at dV aW Ag;exact⟨aM,a',_,Ab,aW,Ag,hZ,h1,dV⟩
    |some e=>
     have ix:cC.out e aE ⟨gx.h.set (st.aj+1) (.loop .exhausted (some e) Db t0 EY oa kE d0),gx.aj⟩=res:=he;rw[<-ix];cases hp:p3.pending with
     |none=>rw[hp]at mz;cases e<;>exact mz.elim
     |some ar=>
      rw[hp]at mz dV aW Ag;cases e with
      |norm=>cases ar<;>exact mz.elim
      |bh v=>cases ar<;>exact mz.elim
      |exit i=>
       cases ar with
       |exit j=>
        have e:i=j:=mz;subst e;exact⟨aM,a',_,Ab,aW,Ag,hZ,h1,k,rfl,dV⟩
       |_=>exact mz.elim
      |ret=>
       cases ar with
       |ret=>exact⟨aM,a',_,Ab,aW,Ag,hZ,h1,k,dV⟩
       |_=>exact mz.elim
   cases a4 with
   |ready=>exact key (by simp) ah
   |busy=>exact absurd (ah:cC.no=res).symm hn
   |done=>exact key (by simp) ah
   |exhausted=>exact absurd (ah:cC.no=res).symm hn
end Go.az
namespace Go.az
variable{X:Ctx}
def mi(X:Ctx)(a7:au aK):Prop:=∀f xf,a7.get f=some xf->∃Fn c,sr X f xf Fn c
def p4(X:Ctx)(e5:la):Prop:=
 ∀(f:FuncId) (as:List Value) (st:aw) (r:dC),e5 f as st=some r->∀(ι:bq) (as':List Value) (w:World),bF ι as as'->bp X ι st w->r≠.no->
  (∀as w,(callFunc f as).run X.P w= .ok (.enter f as) w)∧
  ∀(K:CallKind) (bc:Bool->List Frame),iJ ⟨f,K,none⟩ none ι bc->g7 X ι w ⟨f,K,none⟩ bc (lone (Frame.enter X.P f as'.toArray K) (bc false) w) r
theorem zp(a7:au aK)(e5:la)(n:Nat)(f:FuncId)(first fk:Array Value)(args:List Value)(bh:Option Value)(st:aw):
 dx a7 e5 (n+1) (.func (.func f) first fk) args bh st=
  bo bh (fun _=>bo (a7.get f) (fun xf=>oi (dx a7 e5 n) n f xf (gL first.toList (gL args fk.toList)) bh st) .no)
   (bo (e5 f (gL first.toList (gL args fk.toList)) st) (fun r=>r) (bo (a7.get f) (fun xf=>oi (dx a7 e5 n) n f xf (gL first.toList (gL args fk.toList)) bh st) .no)):=rfl
theorem Zq{a7:au aK}{e5:la}(dE:Good X)(hA:mi X a7)(m7:p4 X e5){n:Nat}(AO:ss X (dx a7 e5 n))(lv:kB X (dx a7 e5 n)):ss X (dx a7 e5 (n+1)):=by
 intro ι f first fk args bh st sO nt ja w J U ah hw cx
 rw[zp]at cx⊢;simp only[pf]at cx⊢;have has:bF ι (first.toList++(args++fk.toList)) (sO.toList++(ja++nt.toList)):=J.append (U.append ah);have Ox:(sO.toList++(ja++nt.toList)).toArray=sO++ja.toArray++nt:=by
  apply Array.ext';simp
 have xk:∀{K:CallKind} {bc:Bool->List Frame} (xf:aK),a7.get f=some xf->iJ ⟨f,K,none⟩ bh ι bc->
  g7 X ι w ⟨f,K,none⟩ bc (lone (Frame.enter X.P f (sO++ja.toArray++nt) K) (bc false) w) (oi (dx a7 e5 n) n f xf (first.toList++(args++fk.toList)) bh st):=by
  intro K bc xf aa aF;obtain⟨Fn,c,ok⟩:=hA f xf aa;have:=MX dE lv AO (fun b ay bc _=>FX lv b ay bc) ok n (K:=K) (bc:=bc) has hw aF;rw[Ox]at this;exact this
 have pr:∀xf,a7.get f=some xf->∀as w,(callFunc f as).run X.P w= .ok (.enter f as) w:=by
  intro xf aa as w;obtain⟨Fn,c,ok⟩:=hA f xf aa;exact ok.enters as w
 cases bh with
 |some qE=>
  cases aa:a7.get f with
  |none=>rw[aa]at cx;exact absurd rfl cx
  |some xf=>exact⟨pr xf aa,fun K bc aF=>xk xf aa aF⟩
 |none=>
  cases ao:e5 f (first.toList++(args++fk.toList)) st with
  |some r=>
   rw[ao]at cx;obtain⟨aW,a0⟩:=m7 f _ st r ao ι _ w has hw cx;refine⟨aW,fun K bc aF=> ?_⟩;have:=a0 K bc aF;rw[Ox]at this;exact this
  |none=>
   cases aa:a7.get f with
   |none=>rw[ao,aa]at cx;exact absurd rfl cx
   |some xf=>exact⟨pr xf aa,fun K bc aF=>xk xf aa aF⟩
theorem g7.out{ι:bq}{w:World}{f:FuncId}{c:Frame}{cs:List Frame}{gq:Frame}{r:dC}(h:g7 X ι w ⟨f,.normal,none⟩ (fun _=>c::cs) (lone gq (c::cs) w) r):yZ X ι w gq c cs r:=by
 cases r with
 |no=>trivial
 |ret v st eB=>
  obtain⟨aM,v',w',F,J,U,ah,aC,a5,ch,cV⟩:=h;obtain⟨aW,a0,fn,bx,cK⟩:=ch;exact⟨aM,v',w',J,U,ah,Steps.trans cV (.one (step_leave_returned ⟨aW,a0,aC,fn,bx,cK⟩))⟩
 |bh v st eB=>
  obtain⟨aM,v',w',F,J,U,ah,aC,a5,ch,cV⟩:=h;exact⟨aM,v',w',J,U,ah,Steps.trans cV (.one (step_leave_panicked ch))⟩
theorem VZ{a7:au aK}{e5:la}(dE:Good X){n:Nat}(AO:ss X (dx a7 e5 (n+1)))(lv:kB X (dx a7 e5 n)):kB X (dx a7 e5 (n+1)):=by
 intro ι jW args st De ja w xm a2 hw cx;have Im:=cx;obtain⟨fn,first,fk,rfl,_⟩:=Lh (v:=jW) (r:=dx a7 e5 (n+1) jW args none st) (z:=dC.no) rfl (fun e=>cx e.symm);cases xm with
 |func _ ZX _ av _ vs gu gZ hG uf GB=>
  cases fn with
  |func f=>
   rcases gu with⟨rfl,_⟩|⟨l,b,J,_⟩
   ·obtain⟨pr,kP⟩:=AO ι f first fk args none st av vs ja w (bF.tp gZ hG) a2 (bF.tp uf GB) hw cx
    refine⟨Frame.enter X.P f (av++ja.toArray++vs) .normal,.enter f _ ?_,fun c cs=>g7.out (kP .normal (fun _=>c::cs) (fun F eB aA=> ?_))⟩
    ·simp only[Deferred.ofValue,Sem.run_bind,Sem.run_pure,Result.andThen,invoke];exact pr _ _
    ·have eC:F.kind= .normal:=aA;simp[tryRecover,eC]
   ·cases J
  |yield l=>
   have Aa:first.toList=[]:=by
    cases hl:first.toList with
    |nil=>rfl
    |cons x xs=>
     exfalso;apply Im;show List.rec (motive:=fun _=>dC) _ _ first.toList=_
     rw[hl]
   have m3:fk.toList=[]:=by
    cases hl:fk.toList with
    |nil=>rfl
    |cons x xs=>
     exfalso;apply Im;show List.rec (motive:=fun _=>dC) (List.rec (motive:=fun _=>dC) _ _ fk.toList) _ first.toList=_
     rw[Aa,hl]
   have iy:dx a7 e5 (n+1) (.func (.yield l) first fk) args none st=wu (dx a7 e5 n) n l args st:=by
    show List.rec (motive:=fun _=>dC) (List.rec (motive:=fun _=>dC) _ _ fk.toList) _ first.toList=_
    rw[Aa,m3];rfl
   rcases gu with⟨_,fW⟩|⟨j2,b,J,U,ah⟩
   ·exact absurd rfl (fW l)
   ·cases J;subst U;rw[iy]at cx⊢;obtain⟨fn,ts,dy,body,aJ,rF⟩:=ane dE lv (fun b ay bc=>FX lv b ay bc) ah a2 hw cx;refine⟨_,.round b fn ts dy body ?_,rF⟩;have tb:av= #[]:=by
     have:=(bF.tp gZ hG).1;rw[Aa]at this;have h0:av.size=0:=by simpa using this.symm
     exact Array.eq_empty_of_size_eq_zero h0
    simp only[Deferred.ofValue,Sem.run_bind,Sem.run_pure,Result.andThen,invoke,tb];simpa using aJ
  |_=>exact absurd rfl Im
theorem Cz{a7:au aK}{e5:la}(dE:Good X)(hA:mi X a7)(m7:p4 X e5):∀n,ss X (dx a7 e5 n)∧kB X (dx a7 e5 n)
 |0=>⟨fun ι f first fk args bh st sO nt ja w _ _ _ _ cx=>absurd rfl cx,fun ι jW args st De ja w _ _ _ cx=>absurd rfl cx⟩
 |n+1=>by
  obtain⟨J,U⟩:=Cz dE hA m7 n;have ah:=Zq dE hA m7 J U;exact⟨ah,VZ dE ah U⟩
end Go.az
namespace Go.az
def au.sub{α:Type}(eq:α->α->Bool):au α->au α->Bool
 |.nil,_=>true
 |.node l v r,.nil=>v.isNone&&au.sub eq l .nil&&au.sub eq r .nil
 |.node l v r,.node l' v' dt=>(match v,v' with|none,_=>true|some x,some y=>eq x y|some _,none=>false)&&au.sub eq l l'&&au.sub eq r dt
theorem au.BR{α:Type}{eq:α->α->Bool}(he:∀x y,eq x y=true->x=y):∀(a b:au α),au.sub eq a b=true->∀n x,a.get n=some x->b.get n=some x
 |.nil,_,_,n,x,h=>by simp at h
 |.node l v r,.nil,ak,n,x,h=>by
  simp only[au.sub,b2]at ak;exfalso;cases n with
  |zero=>rw[au.sQ]at h;rw[h]at ak;simp at ak
  |succ m=>
   rw[au.nF]at h;split at h
   ·have:=au.BR he l .nil ak.1.2 _ x h;simp at this
   ·have:=au.BR he r .nil ak.2 _ x h;simp at this
 |.node l v r,.node l' v' dt,ak,n,x,h=>by
  simp only[au.sub,b2]at ak;cases n with
  |zero=>
   rw[au.sQ]at h⊢;subst h;cases v' with
   |none=>simp at ak
   |some y=>rw[he x y ak.1.1]
  |succ m=>
   rw[au.nF]at h⊢;split at h
   ·rw[if_pos (by assumption)];exact au.BR he l l' ak.1.2 _ x h
   ·rw[if_neg (by assumption)];exact au.BR he r dt ak.2 _ x h
def wX:List MapEntry->List MapEntry->Bool
 |[],[]=>true
 |e::es,f::dd=>dI e.key f.key&&dI e.val f.val&&Nat.beq e.born f.born&&wX es dd
 |_,_=>false
theorem NL:∀(es dd:List MapEntry),wX es dd=true->es=dd
 |[],[],_=>rfl
 |e::es,f::dd,h=>by
  simp only[wX,b2]at h;obtain⟨⟨⟨J,U⟩,ah⟩,aC⟩:=h;cases e;cases f;rw[NL es dd aC];simp only at J U ah;rw[lM _ _ J,lM _ _ U,dY ah]
 |[],_::_,h=>by simp[wX]at h
 |_::_,[],h=>by simp[wX]at h
def Ch:bL->bL->Bool
 |.map es c,.map e8 bE=>Nat.beq c bE&&wX es e8
 |.cells cs e bt aR,.cells cs' cj er rn=>Nat.beq e cj&&Nat.beq bt.1 er.1&&Nat.beq bt.2 er.2&&(aR==rn)&&kz cs cs'
 |.h9 none,.h9 none=>true
 |.h9 (some []),.h9 (some [])=>true
 |.dead,.dead=>true
 |_,_=>false
theorem U8(x y:bL)(h:Ch x y=true):x=y:=by
 unfold Ch at h;split at h
 ·rw[b2]at h;rw[dY h.1,NL _ _ h.2]
 ·simp only[b2]at h;obtain⟨⟨⟨⟨J,U⟩,ah⟩,aC⟩,a5⟩:=h;rename_i bt _ _ _ er _;have aG:bt=er:=Prod.ext (dY U) (dY ah);rw[dY J,aG,wj _ _ a5,eq_of_beq aC]
 ·rfl
 ·rfl
 ·rfl
 ·cases h
def aw.le(s t:aw):Prop:=s.aj=t.aj∧∀n o,s.h.get n=some o->t.h.get n=some o
def aw.Ee(s t:aw):Bool:=Nat.beq s.aj t.aj&&au.sub Ch s.h t.h
theorem aw.ahF{s t:aw}(h:aw.Ee s t=true):aw.le s t:=by
 unfold aw.Ee at h;rw[b2]at h;exact⟨dY h.1,au.BR U8 _ _ h.2⟩
theorem bp.less{X:Ctx}{ι:bq}{s t:aw}{w:World}(hl:aw.le s t)(h:bp X ι t w):bp X ι s w:=by
 refine⟨fun id o ao ax=>h.eu id o (hl.2 _ _ ao) ax,fun i j o p l m ag gU hj hf=>h.inj i j o p l m (hl.2 _ _ ag) gU (hl.2 _ _ hj) hf,fun id mx=> ?_,h.gh,h.kL,?_,fun i l o cy ak ao ax=>h.k3 i l o cy ak (hl.2 _ _ ao) ax⟩
 ·have:=h.fresh id (by rw[<-hl.1];exact mx);refine⟨this.1,?_⟩;cases e:s.h.get id with
  |none=>rfl
  |some o=>rw[hl.2 _ _ e]at this;cases this.2
 ·rw[hl.1];exact h.nG
structure Row where
 as:List Value
 st:aw
 v:Value
 st':aw
def Row.OO(r:Row)(as:List Value)(st:aw):Bool:=Nat.beq r.st.aj st.aj&&kz r.as as&&au.sub Ch r.st.h st.h
variable{X:Ctx}
def cF(X:Ctx)(f:FuncId)(r:Row):Prop:=
 ∀(ι:bq) (as':List Value) (w:World),bF ι r.as as'->bp X ι r.st w->
  (∀as w,(callFunc f as).run X.P w= .ok (.enter f as) w)∧
  ∀(K:CallKind) (bc:Bool->List Frame),iJ ⟨f,K,none⟩ none ι bc->g7 X ι w ⟨f,K,none⟩ bc (lone (Frame.enter X.P f as'.toArray K) (bc false) w) (.ret r.v r.st' false)
def dm(r:dC)(v:Value)(st':aw):Bool:=
 dC.rec (motive:=fun _=>Bool) (fun v1 cR eB=>cond eB false (cond (dI v v1) (aw.Ee st' cR) false)) (fun _ _ _=>false) false r
theorem g7.less{ι:bq}{w:World}{b:dG}{bc:Bool->List Frame}{s:Machine}{v:Value}{st st':aw}{eB:Bool}(hl:aw.le st' st)(h:g7 X ι w b bc s (.ret v st eB)):g7 X ι w b bc s (.ret v st' eB):=by
 obtain⟨aM,v',w',F,J,U,ah,aC,a5,ch,cV⟩:=h;exact⟨aM,v',w',F,J,bp.less hl U,ah,aC,a5,ch,cV⟩
theorem V8{r:dC}{v:Value}{st':aw}(h:dm r v st'=true):∃cR,r= .ret v cR false∧aw.le st' cR:=by
 cases r with
 |no=>cases h
 |bh a b c=>cases h
 |ret v1 cR eB=>
  cases eB with
  |true=>cases h
  |false=>
   have aL:cond (dI v v1) (aw.Ee st' cR) false=true:=h;cases aD:dI v v1 with
   |false=>rw[aD]at aL;cases aL
   |true=>
    rw[aD]at aL;exact⟨cR,by rw[lM _ _ aD],aw.ahF aL⟩
theorem St{a7:au aK}{e5:la}(dE:Good X)(hA:mi X a7)(m7:p4 X e5){n:Nat}{f:FuncId}{r:Row}
 (h:dm (dx a7 e5 n (.func (.func f) #[] #[]) r.as none r.st) r.v r.st'=true):cF X f r:=by
 obtain⟨cR,he,hl⟩:=V8 h;intro ι as' w a2 hw;have ak:=(Cz dE hA m7 n).1 ι f #[] #[] r.as none r.st #[] #[] as' w (bF.nil ι) a2 (bF.nil ι) hw (by rw[he];intro e;cases e);refine⟨ak.1,fun K bc aF=> ?_⟩;have af:=ak.2 K bc aF;rw[he]at af;have e:(#[]++as'.toArray++ #[]:Array Value)=as'.toArray:=by simp
 rw[e]at af;exact g7.less hl af
end Go.az
namespace Go.az
variable{X:Ctx}
def JS(fr:aQ)(st:aw)(it id since:Nat)(seen:List Nat)(left:List MapEntry):List aY:=
 match left with
 |[]=>[.ok (.tuple #[.bool false]) fr st]
 |left=>left.map fun e=>.ok (.tuple #[.bool true,e.key,e.val]) fr ⟨st.h.set it (.oU (some id) since (seen++[e.born]) since),st.aj⟩
def qA(fr:aQ)(st:aw)(it:Operand):List aY:=
 hP (fr.an it) (fun p=>bo p (fun a=>bo a.spot (fun _=>[.no]) (ea a.off 0 (Eb (st.h.get a.block) (fun m since seen l9=>
  bo m (fun id=>nS (st.h.get id) (fun es clock=>ea since clock (ea l9 clock (cond (seen.all (fun s=>Nat.ble (Nat.succ s) clock))
   (JS fr st a.block id since seen (es.filter (fun e=> !seen.any (Nat.beq e.born)))) [.no]) [.no]) [.no]) [.no]) [.ok (.tuple #[.bool false]) fr st]) [.no]) [.no])) [.no]) [.no]
section
variable{ι:bq}{fr aE:aQ}{a:Act}{ay:Nat}{st st':aw}{w:World}{o:Oper}{v:Value}{call:bP}
theorem choose_lt(P:Program)(w:World)(n:Nat)(hn:0<n):∃c w',(choose (.mapNext n)).run P w= .ok c w'∧c<n∧w'.heap=w.heap∧o9 w w':=by
 rw[run_choose];by_cases h:(Question.mapNext n).forced=true
 ·rw[if_pos h];exact⟨0,w,rfl,hn,rfl,⟨rfl,rfl⟩⟩
 ·rw[if_neg h];exact⟨_,_,rfl,Nat.mod_lt _ hn,rfl,⟨rfl,rfl⟩⟩
def CA(left:Array MapEntry):Array (Option MapEntry):=(if left.isEmpty then#[none]else#[])++(left++ #[]).map some
theorem V2(left:Array MapEntry):0<(CA left).size∧∀q∈CA left,(q=none∧left= #[])∨∃e∈left,q=some e:=by
 unfold CA;by_cases a8:left= #[]
 ·subst a8;refine⟨by simp,fun q hq=> ?_⟩;simp at hq;exact .inl ⟨hq,rfl⟩
 ·have cx:left.isEmpty=false:=by simpa using a8
  have qj:0<left.size:=Array.size_pos_iff.2 a8;rw[cx];refine⟨by simpa using qj,fun q hq=> ?_⟩;simp at hq;obtain⟨e,he,abA⟩:=hq;exact .inr ⟨e,he,abA.symm⟩
theorem alx{it:Operand}(ag:cO X.aB it=true)(ao:o.op= .next it false)(af:cE ι fr a ay)(hw:bp X ι st w)(h:∀r∈qA fr st it,r≠.no):
 ∃v st' v' w',aY.ok v fr st'∈qA fr st it∧(execOp a.eval o).run X.P w= .ok (.value v') w'∧bs ι v v'∧bp X ι st' w'∧eV ι ι w w':=by
 have cx:[aY.no]≠qA fr st it:=fun e=>h .no (by rw[<-e];simp) rfl;obtain⟨p,hp,aW⟩:=n6 (r:=qA fr st it) rfl cx;obtain⟨ad,Iu,a0⟩:=fC aW cx;obtain⟨ak,bx⟩:=x2 a0 (fun _=>cx);obtain⟨h0,cK⟩:=jD bx cx;obtain⟨m,since,seen,l9,aZ,dn⟩:=Py cK cx;have my:=af.an hw ag;rw[hp,Iu]at my;generalize js:a.eval it=kZ at my;obtain⟨l,hl,j2,gi,fL,BL,k6,xK,cq,Du⟩:=hw.eu _ _ aZ (by simp);cases my with
 |ptr _ l' cy e9=>
  rw[hl]at cy;cases cy;have hz:l.cW+ad.off=0:=by rw[j2,h0]
  cases m with
  |none=>
   rcases Du with⟨_,rfl⟩|⟨r,b,bW,aG,_⟩
   ·have eR:[aY.ok (.tuple #[.bool false]) fr st]=qA fr st it:=dn;refine⟨.tuple #[.bool false],st,.tuple #[.bool false],w,by rw[<-eR];simp,?_,bs.nf (bF.cons (.bool _) (bF.nil ι)),hw,.refl ι w⟩;unfold execOp;rw[ao];simp only[js,hz,Instr.next,Sem.run_bind,KO cq,Result.andThen,Sem.run_pure]
   ·cases aG
  |some id=>
   have eR:nS (st.h.get id) (fun es clock=>ea since clock (ea l9 clock (cond (seen.all (fun s=>Nat.ble (Nat.succ s) clock)) (JS fr st ad.block id since seen (es.filter (fun e=> !seen.any (Nat.beq e.born)))) [.no]) [.no]) [.no]) [.no]=qA fr st it:=dn;obtain⟨es,clock,oB,g9⟩:=vw eR cx;obtain⟨aG,nE⟩:=jD g9 cx;obtain⟨e2,rm⟩:=jD nE cx;obtain⟨cw,rl⟩:=hU rm cx;rcases Du with⟨hh,_⟩|⟨r,b,bW,d1,d2,d3,d4,d5,d6⟩
   ·cases hh
   cases d1;subst d2 aG e2;obtain⟨lm,DM,xO,e0,C,bE,hC,c9⟩:=hw.eu _ _ oB (by simp);rw[DM]at d3;cases d3;have hC:w.heap[b]? =some (.map C bE):=hC;have c9:h7 ι bW es l9 C.toList bE:=c9;have m4:bE=BL:=by rw[c9.iL,d4]
   have jr:bE=xK:=by rw[c9.iL,d6]
   subst m4 jr;obtain⟨L,jb,hlen,hd⟩:=c9.same;have HU:∀x∈C.toList,x.born<bE:=by
    intro x aa;obtain⟨i,dS,rfl⟩:=List.getElem_of_mem aa;have oC:i<L.length:=by omega
    rw[(hd i oC dS).2.2,c9.iL];exact c9.n2.lt _ (c9.born _ (jb.mem_iff.1 (ew oC)))
   have abL:∀s∈seen,s<l9:=by
    intro s ak;have:=List.all_eq_true.1 cw s ak;exact kF.1 this
   have OB:∀e∈es,k6.contains (bW e.born)=seen.any (Nat.beq e.born):=by
    intro e he;rw[Bool.eq_iff_iff,List.any_eq_true];constructor
    ·intro hc;have:bW e.born∈k6.toList:=by simpa using hc
     rw[d5]at this;obtain⟨s,ak,u7⟩:=List.mem_map.1 this;exact⟨s,ak,by rw[c9.n2.inj _ _ (abL s ak) (c9.born e he) u7];exact Nat.beq_refl _⟩
    ·rintro⟨s,ak,hb⟩;have cj:=dY hb;have:bW e.born∈k6.toList:=by rw[d5,cj];exact List.mem_map.2 ⟨s,ak,rfl⟩
     simpa using this
   obtain⟨left,Ai⟩:∃left,left=C.filter (fun e=> !k6.contains e.born):=⟨_,rfl⟩;have hold:left.filter (fun e=>decide (e.born<bE))=left:=by
    rw[Array.filter_eq_self];intro x aa;rw[Ai]at aa;have:=(Array.mem_filter.1 aa).1;simpa using HU x (by simpa using this)
   have oE:left.filter (fun e=>decide (e.born>=bE))= #[]:=by
    rw[Array.filter_eq_empty_iff];intro x aa;rw[Ai]at aa;have:=(Array.mem_filter.1 aa).1;have:=HU x (by simpa using this);simp;omega
   have aaz:(!k6.isEmpty&& !C.isEmpty&&C.all (fun e=>decide (e.born>=bE)))=false:=by
    cases a8:C.toList with
    |nil=>have:C= #[]:=by simpa using a8
          subst this;simp
    |cons x xs=>
     have aa:=HU x (by rw[a8];simp);have:C.all (fun e=>decide (e.born>=bE))=false:=by
      rw[Array.all_eq_false'];exact⟨x,by have:x∈C.toList:=by rw[a8];simp
                                         simpa using this,by simpa using aa⟩
     rw[this,Bool.and_false]
   obtain⟨qj,ej⟩:=V2 left;generalize aaw:CA left=q4 at qj ej;obtain⟨kH,fR,iw,bO,Ad,SY⟩:=choose_lt X.P w q4.size qj;have aac:fR.heap[l.cU]? =some (.mapIter (some b) bE k6 bE):=by rw[Ad];exact cq
   have AA:(execOp a.eval o).run X.P w=(match q4[kH]? with
    |some (some e)=>.ok (.value (.tuple #[.bool true,e.key,e.val])) {fR with heap:=fR.heap.setIfInBounds l.cU (.mapIter (some b) bE (k6.push e.born) bE)}
    |some none=>.ok (.value (.tuple #[.bool false])) fR
    |none=>.halt (.stuck "Next: no such candidate") fR):=by
    unfold execOp;rw[ao];simp only[js,hz,Instr.next,Sem.run_bind,KO cq,Result.andThen,MapKept.run_getObj_map hC,aaz,Bool.false_eq_true,if_false];rw[<-Ai,hold,oE];have aax:(if left.isEmpty then#[none]else#[])++(left++ #[]).map some=q4:=aaw;simp only[aax,iw];cases hq:q4[kH]? with
    |none=>simp[stuck]
    |some q=>
     cases q with
     |none=>simp
     |some e=>simp[ako _ aac]
   have j0:q4[kH]? =some q4[kH]:=Array.getElem?_eq_getElem bO;rw[j0]at AA;have DN:q4[kH]∈q4:=Array.getElem_mem bO;cases hq:q4[kH]with
   |none=>
    rw[hq]at AA DN;have a8:left= #[]:=by
     rcases ej none DN with⟨_,h⟩|⟨e,_,h⟩
     ·exact h
     ·cases h
    have H4:es.filter (fun e=> !seen.any (Nat.beq e.born))=[]:=by
     rw[List.filter_eq_nil_iff];intro e he;obtain⟨i,dS,fI⟩:=List.getElem_of_mem (jb.mem_iff.2 he);have oC:i<C.toList.length:=by omega
     have anu:C.toList[i]∈C.toList:=ew oC;have Ar:C.toList[i]∉left.toList:=by
      rw[a8];simp
     have hb:=(hd i dS oC).2.2;rw[fI]at hb;have:k6.contains (C.toList[i].born)=true:=by
      by_cases hc:k6.contains (C.toList[i].born)=true
      ·exact hc
      ·exfalso;apply Ar;have:C.toList[i]∈left:=Ai▸Array.mem_filter.2 ⟨by simp,by simpa using hc⟩;simpa using this
     rw[hb,OB e he]at this;simp[this]
    rw[H4]at rl;have zU:[aY.ok (.tuple #[.bool false]) fr st]=qA fr st it:=rl;exact⟨.tuple #[.bool false],st,.tuple #[.bool false],fR,by rw[<-zU];simp,AA,bs.nf (bF.cons (.bool _) (bF.nil ι)),hw.tL X Ad,.tL ι Ad SY⟩
   |some e=>
    rw[hq]at AA DN;have uR:e∈left:=by
     rcases ej (some e) DN with⟨h,_⟩|⟨cj,ix,h⟩
     ·cases h
     ·cases h;exact ix
    obtain⟨OV,OW⟩:=Array.mem_filter.1 (Ai▸uR);obtain⟨i,dS,fI⟩:=List.getElem_of_mem (show e∈C.toList by simpa using OV);have oC:i<L.length:=by omega
    have kV:=hd i oC dS;rw[fI]at kV;have Oo:L[i]∈es:=jb.mem_iff.1 (ew oC);have ll:L[i]∈es.filter (fun e=> !seen.any (Nat.beq e.born)):=by
     rw[List.mem_filter];refine⟨Oo,?_⟩;rw[<-OB _ Oo,<-kV.2.2];exact OW
    have zU:(es.filter (fun e=> !seen.any (Nat.beq e.born))).map (fun e=>aY.ok (.tuple #[.bool true,e.key,e.val]) fr ⟨st.h.set ad.block (.oU (some id) l9 (seen++[e.born]) l9),st.aj⟩)=qA fr st it:=by
     rw[<-rl];unfold JS;cases a8:es.filter (fun e=> !seen.any (Nat.beq e.born))with
     |nil=>rw[a8]at ll;cases ll
     |cons x xs=>rfl
    have mF:=hw.tL X Ad;obtain⟨bg,bK⟩:=bp.sg X mF aZ (by simp) (fun af=>af) hl (.oU (some id) l9 (seen++[L[i].born]) l9) (.mapIter (some b) bE (k6.push e.born) bE)
     {fR with heap:=fR.heap.setIfInBounds l.cU (.mapIter (some b) bE (k6.push e.born) bE)} rfl
     (fun _ aX=>⟨j2,gi,_,_,_,_,aX,.inr ⟨id,b,bW,rfl,rfl,DM,d4,by simp[d5,kV.2.2],d6⟩⟩)
    refine⟨.tuple #[.bool true,L[i].key,L[i].val],_,.tuple #[.bool true,e.key,e.val],_,?_,AA,bs.nf (bF.cons (.bool _) (bF.cons kV.1 (bF.cons kV.2.1 (bF.nil ι)))),bg,(eV.tL ι Ad SY).trans bK⟩;rw[<-zU];exact List.mem_map.2 ⟨L[i],ll,rfl⟩
end
def tQ(k:aQ->aw->List cC)(r:cC):List cC:=
 cC.rec (motive:=fun _=>List cC) (fun e fr st=>ee.rec (motive:=fun _=>List cC) (k fr st) (fun i=>[.out (.exit i) fr st]) [.out .ret fr st] (fun v=>[.out (.bh v) fr st]) e) [.no] r
def Ek(e:aQ->aw->List cC):Nat->aQ->aw->List cC
 |0,_,_=>[.no]
 |n+1,fr,st=>(e fr st).flatMap (tQ (Ek e n))
def GJ(call:bP)(d:Option Tmp)(ops:List bB)(r:aY):cC:=
 aY.rec (motive:=fun _=>cC) (fun v fr st=>hJ call ops (fr.put d v) st) (fun _ _=>.no) .no r
def lU(call:bP)(a9:Nat)(fn:FuncId):du->aQ->aw->List cC
 |.r9 (⟨d,.ext (.pH it),none⟩::ops),fr,st=>(qA fr st it).map (GJ call d ops)
 |.seq a b,fr,st=>(lU call a9 fn a fr st).flatMap (tQ (lU call a9 fn b))
 |.cond c a b,fr,st=>ky (fr.an c) (fun t=>cond t (lU call a9 fn a fr st) (lU call a9 fn b fr st)) [.no]
 |.block i a,fr,st=>(lU call a9 fn a fr st).map (sD i)
 |.loop a,fr,st=>Ek (lU call a9 fn a) a9 fr st
 |.scope a,fr,st=>lU call a9 fn a fr st
 |c,fr,st=>[dD call a9 fn c fr st]
section
variable{ay:Nat}{ι:bq}{fr aE:aQ}{a:Act}{st st':aw}{w:World}{v:Value}{call:bP}{b:dG}{bc:Bool->List Frame}
def hs(X:Ctx)(b:dG)(ay:Nat)(bc:Bool->List Frame)(s:Machine)(k:List Item)(fr:aQ)(ι:bq)(w:World)(L:List cC):Prop:=
 (∀r∈L,r≠.no)->∃r∈L,fp X b ay bc s k fr ι w r
theorem hs.head{s br:Machine}{k:List Item}{aM:bq}{w':World}{L:List cC}(h:Steps X.P s br)(ae:eV ι aM w w')(hp:aE.bh=fr.bh)(aF:aE.b3=fr.b3)(aL:hs X b ay bc br k aE aM w' L):hs X b ay bc s k fr ι w L:=by
 intro hn;obtain⟨r,ia,mC⟩:=aL hn;exact⟨r,ia,fp.head h ae hp aF mC⟩
theorem hs.one{s:Machine}{k:List Item}{r:cC}(h:fp X b ay bc s k fr ι w r):hs X b ay bc s k fr ι w [r]:=fun _=>⟨r,by simp,h⟩
theorem hs.then{s:Machine}{k k':List Item}{L:List cC}{g:aQ->aw->List cC}(hex:∀id,exitTo id k=exitTo id k')(h:hs X b ay bc s k fr ι w L)
 (aZ:∀aM a' w' aE st',cE aM aE a' ay->bp X aM st' w'->eV ι aM w w'->aE.bh=fr.bh->aE.b3=fr.b3->hs X b ay bc (lone (b.at a' k) (bc aE.cL) w') k' aE aM w' (g aE st')):hs X b ay bc s k' fr ι w (L.flatMap (tQ g)):=by
 intro hn;have hd:∀r∈L,r≠.no:=by
  intro r aF e;subst e;exact hn .no (List.mem_flatMap.2 ⟨.no,aF,by simp[tQ]⟩) rfl
 obtain⟨r,ia,mC⟩:=h hd;cases r with
 |no=>exact absurd rfl (hd _ ia)
 |out e aE st'=>
  obtain⟨aM,a',w',J,U,ah,aC,a5,ch⟩:=mC;cases e with
  |norm=>
   obtain⟨q,py,s6⟩:=aZ aM a' w' aE st' J U ah aC a5 (fun r aF=>hn r (List.mem_flatMap.2 ⟨_,ia,aF⟩));exact⟨q,List.mem_flatMap.2 ⟨_,ia,py⟩,fp.head ch ah aC a5 s6⟩
  |exit id=>
   obtain⟨gy,cV,fG⟩:=ch;exact⟨.out (.exit id) aE st',List.mem_flatMap.2 ⟨_,ia,by simp[tQ]⟩,aM,a',w',J,U,ah,aC,a5,gy,cV.trans (hex id),fG⟩
  |ret=>exact⟨.out .ret aE st',List.mem_flatMap.2 ⟨_,ia,by simp[tQ]⟩,aM,a',w',J,U,ah,aC,a5,ch⟩
  |bh v=>exact⟨.out (.bh v) aE st',List.mem_flatMap.2 ⟨_,ia,by simp[tQ]⟩,aM,a',w',J,U,ah,aC,a5,ch⟩
theorem amg(L:List cC):L.flatMap (tQ fun fr st=>[.out .norm fr st])=L:=by
 induction L with
 |nil=>rfl
 |cons r L bb=>
  rw[List.flatMap_cons,bb];cases r with
  |no=>rfl
  |out e fr st=>cases e<;>rfl
theorem aj1(ej:kB X call){ops:Array Oper}{d:Option Tmp}{it:Operand}{xs:List bB}{k:List Item}(hlen:xs.length+1=ops.size)(dV:∀(j:Nat) (x:bB) (o:Oper),(⟨d,.ext (.pH it),none⟩::xs:List bB)[j]? =some x->ops[j]? =some o->k2 X ay ops x o=true)
 (af:cE ι fr a ay) (hw:bp X ι st w) (hb:mh ι fr.b3 b.b3) (aF:iJ b fr.bh ι bc):
 hs X b ay bc (lone (b.at a (.inRegion ops (List.range ops.size)::k)) (bc fr.cL) w) k fr ι w ((qA fr st it).map (GJ call d xs)):=by
 intro hn;have bO:0<ops.size:=by omega
 have ao:ops[0]? =some ops[0]:=Array.getElem?_eq_getElem bO;have bM:=dV 0 _ ops[0] rfl ao;have dK:=Bg bM;have aZ:ops[0].guard=none:=by
  unfold k2 at bM;simp only[b2]at bM;have:=bM.2;split at this
  ·rename_i h;exact h
  ·rename_i h _;cases h
  ·cases this
 have ga:Region.wanted ops[0] (yielded ops a.tmps)=true:=by
  unfold Region.wanted;rw[aZ]
 have oG:∃IW,ops[0].op= .next IW false∧b6 X.aB it IW=true:=by
  have ae:B1 X.P X.aB X.keys X.nv X.eqs X.nO X.l4 ops[0].op (.pH it)=true:=dK;generalize ops[0].op=op at ae;unfold B1 at ae;split at ae<;>rename_i aG<;>first|(cases aG;done)|skip
  ·cases aG;exact⟨_,rfl,ae⟩
  ·cases ae
 obtain⟨IW,OZ,OO⟩:=oG;obtain⟨rfl,ag⟩:=c2 OO;obtain⟨v,st',v',w',s3,fw,aD,ek,ae⟩:=alx ag OZ af hw (fun r aF e=>by
  subst e;exact hn (GJ call d xs .no) (List.mem_map.2 ⟨_,aF,rfl⟩) rfl)
 obtain⟨kl,km⟩:=EP bM;have abE:List.range ops.size=0::(List.range xs.length).map (· +1):=by
  rw[<-hlen,List.range_succ_eq_map]
 have jI:b.b3=none∨∀c,ops[0].op≠.defer c:=.inr (by rw[OZ];simp);have gC:=Gd (P:=X.P) (b:=b) (k:=k) (cs:=bc fr.cL) (rest:=(List.range xs.length).map (· +1)) ao ga jI fw;refine⟨_,List.mem_map.2 ⟨_,s3,rfl⟩,?_⟩;show fp X b ay bc _ k fr ι w (hJ call xs (fr.put d v) st');rw[abE];obtain⟨dW,dM,eT,ih⟩:=r2 fr d v;have m8:=ER (b:=b) (bc:=bc) (k:=k) (ops:=ops) (ay:=ay) ej xs ((List.range xs.length).map (· +1)) ι (fr.put d v) (a.put ops[0].dst v') st' w' (by simp) (fun j x i aa ag=>by
  have j1:j<xs.length:=(List.getElem?_eq_some_iff.1 aa).1;have e:i=j+1:=by
   rw[List.getElem?_map,List.getElem?_range j1]at ag;simpa using ag.symm
  subst e;have rA:j+1<ops.size:=by omega
  exact⟨ops[j+1],Array.getElem?_eq_getElem rA,dV (j+1) x _ (by simpa using aa) (Array.getElem?_eq_getElem rA)⟩)
  (by have:=af.put km aD;rw[<-kl];exact this) ek (by rw[dM];exact hb) (by rw[dW];exact aF)
 rw[eT]at m8;exact fp.head (.one gC) ae dW dM m8
theorem Wa(dE:Good X)(ej:kB X call)(qk:wA X call b ay bc)(gu:∃F,X.P.funcs[b.fn]? =some F∧F.ntmps=ay)(a9:Nat):∀(ke:du) (c:Code) (ι:bq) (fr:aQ) (a:Act) (st:aw) (w:World) (k:List Item),codeOk X ay ke c=true->
 cE ι fr a ay->bp X ι st w->mh ι fr.b3 b.b3->iJ b fr.bh ι bc->
 hs X b ay bc (lone (b.at a (.code c::k)) (bc fr.cL) w) k fr ι w (lU call a9 b.fn ke fr st):=by
 intro ke;have uQ:∀(c:Code) (ι:bq) (fr:aQ) (a:Act) (st:aw) (w:World) (k:List Item) (ke:du),codeOk X ay ke c=true->cE ι fr a ay->bp X ι st w->mh ι fr.b3 b.b3->iJ b fr.bh ι bc->
  hs X b ay bc (lone (b.at a (.code c::k)) (bc fr.cL) w) k fr ι w [dD call a9 b.fn ke fr st]:=
  fun c ι fr a st w k ke hc af hw hb aF=>hs.one (CJ dE ej qk gu a9 ke c ι fr a st w k hc af hw hb aF)
 induction ke with
 |skip=>intro c ι fr a st w k hc af hw hb aF;exact uQ c ι fr a st w k .skip hc af hw hb aF
 |r9 xs=>
  intro c ι fr a st w k hc af hw hb aF;unfold lU;split
  ·rename_i d it aoh heq;cases heq;cases c with
   |region id ops draw=>
    cases draw with
    |true=>cases hc
    |false=>
     obtain⟨J,U⟩:=KG (hc:tK X ay ops _ ops.toList=true);refine hs.head (.one Tb) (.refl _ _) rfl rfl (aj1 ej (by simpa using J) (fun j x o aa ao=>U j x o aa (by simpa using ao)) af hw hb aF)
   |_=>cases hc
  all_goals first
   |exact uQ c ι _ a _ w k _ hc af hw hb aF
   |(rename_i heq;cases heq)
 |dJ L cm ec ms=>intro c ι fr a st w k hc af hw hb aF;exact uQ c ι fr a st w k (.dJ L cm ec ms) hc af hw hb aF
 |seq x y IS vj=>
  intro c ι fr a st w k hc af hw hb aF;cases c with
  |seq c d=>
   have hc:(codeOk X ay x c&&codeOk X ay y d)=true:=hc;rw[b2]at hc;have J:=IS c ι fr a st w (.code d::k) hc.1 af hw hb aF;refine hs.head (.one Tg) (.refl _ _) rfl rfl (hs.then (k:=.code d::k) (k':=k) (fun id=>rfl) J fun aM a' w' aE st' eD ek ae hp hn=> ?_);exact vj d aM aE a' st' w' k hc.2 eD ek (by rw[hn];exact hb.mono ae.le) (by rw[hp];exact aF.mono ae.le)
  |_=>cases hc
 |cond x y z vj IT=>
  intro c ι fr a st w k hc af hw hb aF;cases c with
  |cond o c d=>
   have hc:(b6 X.aB x o&&codeOk X ay y c&&codeOk X ay z d)=true:=hc;simp only[b2]at hc;obtain⟨rfl,ao⟩:=c2 hc.1.1;show hs X b ay bc _ k fr ι w (ky (fr.an x) (fun t=>_root_.cond t (lU call a9 b.fn y fr st) (lU call a9 b.fn z fr st)) [.no]);have aD:=af.an hw ao;generalize kN:a.eval x=uj at aD;generalize fr.an x=v at aD;cases v with
   |bool t=>
    cases aD;cases t with
    |true=>exact hs.head (.one (Gb kN)) (.refl _ _) rfl rfl (vj c ι fr a st w k hc.1.2 af hw hb aF)
    |false=>exact hs.head (.one (Gb kN)) (.refl _ _) rfl rfl (IT d ι fr a st w k hc.2 af hw hb aF)
   |_=>exact fun hn=>absurd rfl (hn .no (by simp[ky]))
  |_=>cases hc
 |block i x bb=>
  intro c ι fr a st w k hc af hw hb aF;cases c with
  |block j c=>
   have hc:(Nat.beq i j&&codeOk X ay x c)=true:=hc;rw[b2]at hc;have e:=eO hc.1;subst e;have J:=bb c ι fr a st w (.inBlock i::k) hc.2 af hw hb aF;refine hs.head (.one S2) (.refl _ _) rfl rfl ?_;show hs X b ay bc _ k fr ι w ((lU call a9 b.fn x fr st).map (sD i));intro hn;obtain⟨r,ia,J⟩:=J (fun r aF e=>by subst e;exact hn (sD i .no) (List.mem_map.2 ⟨_,aF,rfl⟩) rfl);refine⟨sD i r,List.mem_map.2 ⟨_,ia,rfl⟩,?_⟩;cases r with
   |no=>trivial
   |out e aE st'=>
    obtain⟨aM,a',w',U,ah,aC,a5,ch,cV⟩:=J;cases e with
    |norm=>exact⟨aM,a',w',U,ah,aC,a5,ch,Steps.trans cV (.one S5)⟩
    |exit id=>
     obtain⟨gy,fG,g1⟩:=cV;show fp X b ay bc _ k fr ι w (ea id i (.out .norm aE st') (.out (.exit id) aE st'));rw[mW];by_cases e:id=i
     ·subst e;rw[if_pos rfl];have po:exitTo id gy=some k:=by rw[fG];simp[exitTo]
      exact⟨aM,a',w',U,ah,aC,a5,ch,Steps.trans g1 (.one (S4 po))⟩
     ·rw[if_neg e];refine⟨aM,a',w',U,ah,aC,a5,ch,gy,?_,g1⟩;rw[fG];have:¬i=id:=fun h=>e h.symm;simp[exitTo,this]
    |ret=>exact⟨aM,a',w',U,ah,aC,a5,ch,cV⟩
    |bh v=>exact⟨aM,a',w',U,ah,aC,a5,ch,cV⟩
  |_=>cases hc
 |loop x bb=>
  intro c ι fr a st w k hc af hw hb aF;cases c with
  |loop c=>
   have hc:codeOk X ay x c=true:=hc;have key:∀(n:Nat) (ι:bq) (fr:aQ) (a:Act) (st:aw) (w:World),cE ι fr a ay->bp X ι st w->mh ι fr.b3 b.b3->iJ b fr.bh ι bc->
    hs X b ay bc (lone (b.at a (.code c:: .inLoop c::k)) (bc fr.cL) w) k fr ι w (Ek (lU call a9 b.fn x) n fr st):=by
    intro n
    induction n with
    |zero=>intros;exact fun hn=>absurd rfl (hn .no (by simp[Ek]))
    |succ n IQ=>
     intro ι fr a st w af hw hb aF;refine hs.then (k:=.inLoop c::k) (fun id=>rfl) (bb c ι fr a st w (.inLoop c::k) hc af hw hb aF) fun aM a' w' aE st' eD ek ae hp hn=> ?_;exact hs.head (.one S6) (.refl _ _) rfl rfl (IQ aM aE a' st' w' eD ek (by rw[hn];exact hb.mono ae.le) (by rw[hp];exact aF.mono ae.le))
   exact hs.head (.one S8) (.refl _ _) rfl rfl (key a9 ι fr a st w af hw hb aF)
  |_=>cases hc
 |vY f ps dy body _ _=>intro c ι fr a st w k hc af hw hb aF;exact uQ c ι fr a st w k (.vY f ps dy body) hc af hw hb aF
 |exit i=>intro c ι fr a st w k hc af hw hb aF;exact uQ c ι fr a st w k (.exit i) hc af hw hb aF
 |scope x bb=>
  intro c ι fr a st w k hc af hw hb aF;cases c with
  |scope c=>
   have J:=bb c ι fr a st w (.inScope c::k) hc af hw hb aF;refine hs.head (.one Tf) (.refl _ _) rfl rfl ?_;show hs X b ay bc _ k fr ι w (lU call a9 b.fn x fr st);rw[<-amg (lU call a9 b.fn x fr st)];exact hs.then (k:=.inScope c::k) (fun id=>rfl) J fun aM a' w' aE st' eD ek _ _ _=>hs.one ⟨aM,a',w',eD,ek,.refl _ _,rfl,rfl,.one S7⟩
  |_=>cases hc
 |ret=>intro c ι fr a st w k hc af hw hb aF;exact uQ c ι fr a st w k .ret hc af hw hb aF
 |refuse=>intro c ι fr a st w k hc af hw hb aF;exact uQ c ι fr a st w k .refuse hc af hw hb aF
end
section
variable(b7:Nat->Option Nat)
def Cd(a b:Addr):Bool:=(b7 a.block==some b.block)&&Nat.beq a.off b.off&&a.spot.isNone&&b.spot.isNone
mutual
def fs:Value->Value->Bool
 |.bool a,.bool b=>a==b
 |.int k a,.int k' b=>decide (k=k')&&a==b
 |.float k a,.float k' b=>decide (k=k')&&a==b
 |.string a,.string b=>a.data.toList==b.data.toList
 |.pointer none,.pointer none=>true
 |.pointer (some a),.pointer (some b)=>Cd b7 a b
 |.slice none l c,.slice none l' bE=>l==l'&&c==bE
 |.slice (some a) l c,.slice (some b) l' bE=>Cd b7 a b&&l==l'&&c==bE
 |.map none,.map none=>true
 |.map (some a),.map (some b)=>b7 a==some b
 |.chan (some (c+1)),.chan (some (d+1))=>Nat.beq c d
 |.func (.func f) x y,.func (.func g) u v=>f==g&&yB x u&&yB y v
 |.nilFunc,.nilFunc=>true
 |.iface t v,.iface u w=>t==u&&fs v w
 |.nilIface,.nilIface=>true
 |.agg a,.agg b=>yB a b
 |.tuple a,.tuple b=>yB a b
 |_,_=>false
def yB:Array Value->Array Value->Bool
 |⟨a⟩,⟨b⟩=>vX a b
def vX:List Value->List Value->Bool
 |[],[]=>true
 |a::as,b::bn=>fs a b&&vX as bn
 |_,_=>false
end
theorem KH:∀(xs av:List Value),vX b7 xs av=true->xs.length=av.length∧∀(i:Nat) (h:i<xs.length) (aL:i<av.length),fs b7 xs[i] av[i]=true
 |[],[],_=>⟨rfl,fun i h=>by simp at h⟩
 |x::xs,y::av,h=>by
  simp only[vX,b2]at h;obtain⟨J,U⟩:=KH xs av h.2;refine⟨by simp[J],fun i a b=> ?_⟩;cases i with
  |zero=>exact h.1
  |succ i=>exact U i (by simpa using a) (by simpa using b)
 |[],_::_,h=>by simp[vX]at h
 |_::_,[],h=>by simp[vX]at h
theorem FU(xs av:Array Value)(h:yB b7 xs av=true):xs.size=av.size∧∀(i:Nat) (h:i<xs.size) (aL:i<av.size),fs b7 xs[i] av[i]=true:=by
 obtain⟨xs⟩:=xs;obtain⟨av⟩:=av;simp only[yB]at h;obtain⟨J,U⟩:=KH b7 xs av h;exact⟨by simpa using J,fun i a b=>by simpa using U i (by simpa using a) (by simpa using b)⟩
end
def Ca(b7:Nat->Option Nat)(aM dB:bq):Prop:=∀i j l,b7 i=some j->dB j=some l->∃bW,aM i=some {l with bW:=bW}
theorem LS{b7:Nat->Option Nat}{a b:Addr}(h:Cd b7 a b=true):b7 a.block=some b.block∧a.off=b.off∧a.spot=none∧b.spot=none:=by
 unfold Cd at h;simp only[b2]at h;exact⟨eq_of_beq h.1.1.1,dY h.1.1.2,by simpa using h.1.2,by simpa using h.2⟩
theorem yC{b7:Nat->Option Nat}{aM dB:bq}(c9:Ca b7 aM dB){u c:Value}(h:bs dB u c):∀v,fs b7 v u=true->bs aM v c:=by
 induction h with
 |bool b=>intro v aD;cases v<;>simp[fs]at aD;rw[aD];exact .bool _
 |int k n=>intro v aD;cases v<;>simp[fs]at aD;rw[aD.1,aD.2];exact .int _ _
 |float k n=>intro v aD;cases v<;>simp[fs]at aD;rw[aD.1,aD.2];exact .float _ _
 |string s=>
  intro v aD;cases v<;>simp[fs]at aD;rename_i br;have:br=s:=by cases s;cases br;simp_all
  rw[this];exact .string _
 |l6=>
  intro v aD;cases v<;>first|(simp[fs]at aD;done)|skip
  rename_i p;cases p<;>simp[fs]at aD;exact .l6
 |ptr a l h ak=>
  intro v aD;cases v<;>first|(simp[fs]at aD;done)|skip
  rename_i p;cases p<;>simp[fs]at aD;rename_i a';obtain⟨J,U,ah,aC⟩:=LS aD;obtain⟨bW,ae⟩:=c9 _ _ _ J h;have:=bs.ptr (ι:=aM) a' _ ae ah;rw[U]at this;exact this
 |l8 n c=>
  intro v aD;cases v<;>first|(simp[fs]at aD;done)|skip
  rename_i p _ _;cases p<;>simp[fs]at aD;rw[aD.1,aD.2];exact .l8 _ _
 |gk a l o n c h ak ao=>
  intro v aD;cases v<;>first|(simp[fs]at aD;done)|skip
  rename_i p _ _;cases p<;>simp[fs]at aD;rename_i a';obtain⟨⟨h0,aG⟩,e2⟩:=aD;obtain⟨J,U,ah,aC⟩:=LS h0;obtain⟨bW,ae⟩:=c9 _ _ _ J h;subst aG e2;exact bs.gk (ι:=aM) a' {l with bW:=bW} o _ _ ae ah (by rw[U];exact ao)
 |m9=>
  intro v aD;cases v<;>first|(simp[fs]at aD;done)|skip
  rename_i p;cases p<;>simp[fs]at aD;exact .m9
 |map r b bW h=>
  intro v aD;cases v<;>first|(simp[fs]at aD;done)|skip
  rename_i p;cases p<;>simp[fs]at aD;obtain⟨akC,ae⟩:=c9 _ _ _ aD h;exact .map _ b akC ae
 |func f g xs av us vs af J _ ah _ lv rL=>
  intro v aD;cases v<;>first|(simp[fs]at aD;done)|skip
  rename_i nC eW k9;cases nC<;>cases f<;>simp[fs]at aD;rename_i f1 f2;obtain⟨⟨e,aa⟩,aJ⟩:=aD;subst e;obtain⟨gZ,hG⟩:=FU b7 _ _ aa;obtain⟨dz,eH⟩:=FU b7 _ _ aJ;refine .func _ _ _ _ _ _ ?_ (gZ.trans J) (fun i p q=>lv i (by omega) q _ (hG i p (by omega))) (dz.trans ah) (fun i p q=>rL i (by omega) q _ (eH i p (by omega)));rcases af with⟨rfl,h⟩|⟨l,b,h,_⟩
  ·exact .inl ⟨rfl,fun l e=>by cases e⟩
  ·cases h
 |nilFunc=>intro v aD;cases v<;>simp[fs]at aD;exact .nilFunc
 |iface t v w _ bb=>
  intro v' aD;cases v'<;>simp[fs]at aD;rw[aD.1];exact .iface _ _ _ (bb _ aD.2)
 |nilIface=>intro v aD;cases v<;>simp[fs]at aD;exact .nilIface
 |agg xs av J _ bb=>
  intro v aD;cases v<;>simp[fs]at aD;obtain⟨gZ,hG⟩:=FU b7 _ _ aD;exact .agg _ _ (gZ.trans J) (fun i p q=>bb i (by omega) q _ (hG i p (by omega)))
 |tuple xs av J _ bb=>
  intro v aD;cases v<;>simp[fs]at aD;obtain⟨gZ,hG⟩:=FU b7 _ _ aD;exact .tuple _ _ (gZ.trans J) (fun i p q=>bb i (by omega) q _ (hG i p (by omega)))
 |sh c m h=>
  intro v aD;have hc:c≠0:=by intro e;subst e;rcases h with h|⟨k,h,_⟩|⟨k,h,_⟩<;>omega
  obtain⟨c,rfl⟩:∃d,c=d+1:=⟨c-1,by omega⟩;cases v<;>first|(simp[fs]at aD;done)|skip
  rename_i x;cases x with
  |none=>simp[fs]at aD
  |some x=>
   cases x with
   |zero=>simp[fs]at aD
   |succ d=>
    simp only[fs]at aD;rw[dY aD];exact .sh _ _ h
 |top c=>intro v aD;cases v<;>simp[fs,jf]at aD
def Jj(b7:Nat->Option Nat)(es:List MapEntry)(c:Nat)(e8:List MapEntry):Bool:=
 Nat.beq c es.length&&(es.zipIdx.all fun p=>Nat.beq p.1.born p.2)&&(e8.all fun e=>(iR e.key es).isSome)&&
 (es.all fun e=>(match iR e.key e8 with|some cj=>fs b7 e.key cj.key&&fs b7 e.val cj.val|none=>false))&&
 (es.zipIdx.all fun p=>es.zipIdx.all fun q=>Nat.beq p.2 q.2|| !dI p.1.key q.1.key)
def BO(es e8:List MapEntry)(s:Nat):Nat:=((es[s]?).bind fun e=>(iR e.key e8).map (·.born)).getD 0
def xY(bW:Nat->Nat)(es:List MapEntry)(c:Nat)(e8:List MapEntry)(bE:Nat):Nat->Nat:=fun s=>if s<c then bW (BO es e8 s)else bW bE+(s-c)
theorem amt{es:List MapEntry}(h:es.Pairwise (fun a b=>a.born≠b.born)){a b:MapEntry}(a2:a∈es)(hb:b∈es)(e:a.born=b.born):a=b:=by
 induction es with
 |nil=>cases a2
 |cons x xs bb=>
  rw[List.pairwise_cons]at h;rcases List.mem_cons.1 a2 with rfl|oy<;>rcases List.mem_cons.1 hb with rfl|cX
  ·rfl
  ·exact absurd e (h.1 b cX)
  ·exact absurd e.symm (h.1 a oy)
  ·exact bb h.2 oy cX
theorem ahU{k:Value}{es:List MapEntry}(h:es.Pairwise (fun a b=>a.key≠b.key)){e:MapEntry}(he:e∈es)(ae:e.key=k):iR k es=some e:=by
 cases af:iR k es with
 |none=>exact absurd ae (Ep af e he)
 |some cj=>
  obtain⟨J,U⟩:=AX af;rw[uniq h J he (U.trans ae.symm)]
theorem nodup_keys{es:List MapEntry}(h:es.Pairwise (fun a b=>a.key≠b.key)):es.Nodup:=
 h.imp (fun{a b} hW e=>hW (by rw[e]))
theorem Qb{b7:Nat->Option Nat}{aM dB:bq}(c9:Ca b7 aM dB){es e8:List MapEntry}{c bE:Nat}{bW:Nat->Nat}{C:List MapEntry}{iL:Nat}(hb:Jj b7 es c e8=true)(h:h7 dB bW e8 bE C iL):
 h7 aM (xY bW es c e8 bE) es c C iL:=by
 unfold Jj at hb;simp only[b2,List.all_eq_true]at hb;obtain⟨⟨⟨⟨J,U⟩,ah⟩,aC⟩,a5⟩:=hb;have hc:c=es.length:=dY J;have xq:∀(i:Nat) (ag:i<es.length),es[i].born=i:=by
  intro i ag;have:=U (es[i],i) (by rw[List.mem_zipIdx_iff_getElem?];simp[ag]);exact dY this
 have uV:es.Pairwise (fun a b=>a.key≠b.key):=by
  rw[List.pairwise_iff_getElem];intro i j ag hj kR e;have:=a5 (es[i],i) (by rw[List.mem_zipIdx_iff_getElem?];simp[ag]) (es[j],j) (by rw[List.mem_zipIdx_iff_getElem?];simp[hj]);rw[Bool.or_eq_true]at this;rcases this with hh|hh
  ·have:=dY hh;simp at this;omega
  ·simp only[e,wk]at hh;cases hh
 have Ii:∀e∈es,∃cj,cj∈e8∧cj.key=e.key∧iR e.key e8=some cj∧fs b7 e.key cj.key=true∧fs b7 e.val cj.val=true:=by
  intro e he;have:=aC e he;split at this
  ·rename_i cj af;rw[b2]at this;obtain⟨e0,gV⟩:=AX af;exact⟨cj,e0,gV,af,this.1,this.2⟩
  ·cases this
 have DZ:∀(s:Nat) (ak:s<es.length),∃cj,cj∈e8∧cj.key=es[s].key∧BO es e8 s=cj.born:=by
  intro s ak;obtain⟨cj,e0,gV,l2,_⟩:=Ii es[s] (ew ak);refine⟨cj,e0,gV,?_⟩;unfold BO;rw[cA ak];simp[l2]
 have bO:∀s,s<c->BO es e8 s<bE:=by
  intro s ak;obtain⟨cj,e0,_,l2⟩:=DZ s (by omega);rw[l2];exact h.born cj e0
 have qj:∀s,s<c->xY bW es c e8 bE s=bW (BO es e8 s):=fun s ak=>if_pos ak;have D2:∀s,c<=s->xY bW es c e8 bE s=bW bE+(s-c):=fun s ak=>if_neg (by omega);obtain⟨L,hp,hlen,hd⟩:=h.same;have rr:∀cj∈e8,∃e,e∈es∧e.key=cj.key∧iR cj.key es=some e:=by
  intro cj ix;have:=ah cj ix;obtain⟨e,he⟩:=Option.isSome_iff_exists.1 this;obtain⟨e0,gV⟩:=AX he;exact⟨e,e0,gV,he⟩
 let g:MapEntry->MapEntry:=fun cj=>(iR cj.key es).getD cj
 have aZ:∀cj∈e8,g cj∈es∧(g cj).key=cj.key:=by
  intro cj ix;obtain⟨e,e0,gV,l2⟩:=rr cj ix;have:g cj=e:=by show(iR cj.key es).getD cj=e;rw[l2];rfl
  rw[this];exact⟨e0,gV⟩
 refine⟨?_,⟨fun s t ak aX e=> ?_,fun s ak=> ?_,fun j=> ?_⟩,fun e he=> ?_,uV,?_,L.map g,?_,by simp[hlen],?_⟩
 ·rw[D2 c (cd _),Nat.sub_self,Nat.add_zero];exact h.iL
 ·rw[qj s ak,qj t aX]at e;have e2:=h.n2.inj _ _ (bO s ak) (bO t aX) e;obtain⟨a',gZ,hG,uf⟩:=DZ s (by omega);obtain⟨fF,dz,eH,np⟩:=DZ t (by omega);rw[uf,np]at e2;have cw:=amt h.sE gZ dz e2;subst cw;have gz:es[s]=es[t]:=uniq uV (ew _) (ew _) (by rw[<-hG,<-eH]);rw[<-xq s (by omega),<-xq t (by omega),gz]
 ·rw[qj s ak,D2 c (cd _)];have:=h.n2.lt _ (bO s ak);omega
 ·rw[D2 (c+j) (by omega),D2 c (cd _)];omega
 ·obtain⟨i,ag,rfl⟩:=List.getElem_of_mem he;rw[xq i ag];omega
 ·rw[List.pairwise_iff_getElem];intro i j ag hj kR;rw[xq i ag,xq j hj];omega
 ·have xz:(L.map g).Perm (e8.map g):=hp.map g;refine xz.trans ?_;have jI:(e8.map g).Nodup:=by
   have:(e8.map g).Pairwise (fun a b=>a.key≠b.key):=by
    rw[List.pairwise_map];rw[List.pairwise_iff_getElem];intro i j ag hj kR e;rw[(aZ _ (ew ag)).2,(aZ _ (ew hj)).2]at e;exact List.pairwise_iff_getElem.1 h.keys i j ag hj kR e
   exact nodup_keys this
  rw[List.perm_ext_iff_of_nodup jI (nodup_keys uV)];intro x;constructor
  ·intro aa;obtain⟨cj,ix,rfl⟩:=List.mem_map.1 aa;exact(aZ cj ix).1
  ·intro aa;obtain⟨cj,e0,gV,_⟩:=Ii x aa;refine List.mem_map.2 ⟨cj,e0,?_⟩;exact uniq uV (aZ cj e0).1 aa (by rw[(aZ cj e0).2,gV])
 ·intro i a b;have a':i<L.length:=by simpa using a
  rw[List.getElem_map];have kV:=hd i a' b;have HN:L[i]∈e8:=hp.mem_iff.1 (ew a');obtain⟨aW,a0⟩:=aZ L[i] HN;obtain⟨cj,e0,gV,l2,oS,xP⟩:=Ii (g L[i]) aW;have aG:cj=L[i]:=uniq h.keys e0 HN (by rw[gV,a0]);subst aG;refine⟨yC c9 kV.1 _ oS,yC c9 kV.2.1 _ xP,?_⟩;obtain⟨s,ak,u7⟩:=List.getElem_of_mem aW;rw[kV.2.2,<-u7,xq s ak,qj s (by omega)];obtain⟨YD,dW,dM,eT⟩:=DZ s ak;rw[eT];have:YD=L[i]:=uniq h.keys dW HN (by rw[dM,u7,a0]);rw[this]
def vx(b7:Nat->Option Nat):List MapEntry->List MapEntry->Bool
 |[],[]=>true
 |e::es,f::dd=>dI e.key f.key&&fs b7 e.key f.key&&fs b7 e.val f.val&&Nat.beq e.born f.born&&vx b7 es dd
 |_,_=>false
theorem Qc{b7:Nat->Option Nat}:∀(es dd:List MapEntry),vx b7 es dd=true->es.length=dd.length∧∀(i:Nat) (h:i<es.length) (aL:i<dd.length),es[i].key=dd[i].key∧fs b7 es[i].key dd[i].key=true∧fs b7 es[i].val dd[i].val=true∧es[i].born=dd[i].born
 |[],[],_=>⟨rfl,fun i h=>by simp at h⟩
 |e::es,f::dd,h=>by
  simp only[vx,b2]at h;obtain⟨⟨⟨⟨J,U⟩,ah⟩,aC⟩,a5⟩:=h;obtain⟨bg,bK⟩:=Qc es dd a5;refine⟨by simp[bg],fun i a b=> ?_⟩;cases i with
  |zero=>exact⟨lM _ _ J,U,ah,dY aC⟩
  |succ i=>exact bK i (by simpa using a) (by simpa using b)
 |[],_::_,h=>by simp[vx]at h
 |_::_,[],h=>by simp[vx]at h
theorem ahV{b7:Nat->Option Nat}{aM dB:bq}(c9:Ca b7 aM dB){es e8:List MapEntry}{c:Nat}{bW:Nat->Nat}{C:List MapEntry}{iL:Nat}(hb:vx b7 es e8=true)(h:h7 dB bW e8 c C iL):h7 aM bW es c C iL:=by
 obtain⟨bg,bK⟩:=Qc es e8 hb;obtain⟨L,hp,hlen,hd⟩:=h.same
 let g:MapEntry->MapEntry:=fun cj=>(iR cj.key es).getD cj
 have uV:es.Pairwise (fun a b=>a.key≠b.key):=by
  rw[List.pairwise_iff_getElem];intro i j ag hj kR;rw[(bK i ag (by omega)).1,(bK j hj (by omega)).1];exact List.pairwise_iff_getElem.1 h.keys i j (by omega) (by omega) kR
 have aZ:∀(i:Nat) (ag:i<e8.length) (dS:i<es.length),g e8[i]=es[i]:=by
  intro i ag dS;show(iR e8[i].key es).getD e8[i]=es[i];rw[ahU uV (ew dS) (bK i dS ag).1];rfl
 have aa9:e8.map g=es:=by
  apply List.ext_getElem
  ·simp[bg]
  ·intro i a b;rw[List.getElem_map];exact aZ i (by simpa using a) b
 refine⟨h.iL,h.n2,fun e he=> ?_,uV,?_,L.map g,by rw[<-aa9];exact hp.map g,by simp[hlen],?_⟩
 ·obtain⟨i,ag,rfl⟩:=List.getElem_of_mem he;rw[(bK i ag (by omega)).2.2.2];exact h.born _ (ew _)
 ·rw[List.pairwise_iff_getElem];intro i j ag hj kR;rw[(bK i ag (by omega)).2.2.2,(bK j hj (by omega)).2.2.2];exact List.pairwise_iff_getElem.1 h.sE i j (by omega) (by omega) kR
 ·intro i a b;have a':i<L.length:=by simpa using a
  rw[List.getElem_map];have kV:=hd i a' b;obtain⟨s,ak,u7⟩:=List.getElem_of_mem (hp.mem_iff.1 (ew a'));have e9:s<es.length:=by omega
  have aG:g L[i]=es[s]:=by rw[<-u7];exact aZ s ak e9
  obtain⟨dW,dM,eT,ih⟩:=bK s e9 ak;rw[u7]at dW dM eT ih;rw[aG];exact⟨yC c9 kV.1 _ dM,yC c9 kV.2.1 _ eT,by rw[kV.2.2,ih]⟩
