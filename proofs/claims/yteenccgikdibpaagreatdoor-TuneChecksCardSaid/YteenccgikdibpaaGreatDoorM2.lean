/- An abstract machine, and that its evaluations stand for runs of the model (part 2); no condition. -/
import Derived.Laws.StructEq
import Derived.Recover
import Derived.Orders
import Derived.Defers
import Derived.RangeFuncLeaves
import Derived.RangeFuncRecord
import Derived.Test.YteenccgikdibpaaGreatDoorM1
noncomputable section
set_option linter.all false
namespace Go.an
variable{X:Ctx}
section
variable{ι:bA}{fr aI:aT}{a:Act}{aS:Nat}{st st':au}{w:World}{o:Oper}{v:Value}{call:bQ}
theorem asr{fa:TypeId}{c9:fN}(dB:X.keys fa=some c9){k:Value}(U:c9.ok k=true)(w:World):(Instr.keyThatStays k k).run X.P w= .ok k w:=by
 obtain⟨K,bP⟩:=X.rQ fa c9 dB;obtain⟨Dh,w0⟩:=bP k U;exact K.stays w w0
theorem toList_modify(C:Array MapEntry)(j:Nat)(f:MapEntry->MapEntry){c:MapEntry}(h:C.toList[j]? =some c):(C.modify j f).toList=C.toList.set j (f c):=by
 obtain⟨hj,hc⟩:=List.getElem?_eq_some_iff.1 h;apply List.ext_getElem
 ·simp
 ·intro i h1 h2;rw[List.getElem_set];simp only[Array.getElem_toList,Array.getElem_modify];by_cases e:j=i
  ·subst e;simp only[if_true];rw[<-hc];rfl
  ·rw[if_neg e,if_neg e]
theorem fN.pure{ι:bA}{c9:fN}{v v':Value}(h:c9.ok v=true)(aQ:bq ι v v'):bq ι v v:=by
 have:=fN.same h aQ;rw[this]at aQ;exact aQ
theorem Zy{c9:fN}{m k x:Operand}{t fa jr:TypeId}(hm:cE X.aE m=true)(U:cE X.aE k=true)(J:cE X.aE x=true)(ak:o.op= .mapUpdate t m k x∨o.op= .insert t m k x)(hu:X.P.underlying t=some (.map fa jr))
 (dB:X.keys fa=some c9) (ab:cB ι fr a aS) (hw:bt X ι st w) (h:po fr st (.g3 c9 m k x)= .ok v aI st'):aI=fr∧ky X ι w v st' (execOp a.eval o):=by
 obtain⟨hT,h⟩:=ja h (by simp);obtain⟨r,aQ,h⟩:=Es h (by simp);obtain⟨id,rfl,h⟩:=fy h (by simp);obtain⟨es,c,aO,h⟩:=zY h (by simp);obtain⟨wX,h⟩:=ja h (by simp);have wZ:=ab.aj hw U;have uW:a.eval k=fr.aj k:=fN.same hT wZ;have ka:=ab.aj hw hm;have c7:=ab.aj hw J;rw[aQ]at ka;generalize nZ:a.eval m=l4 at ka;obtain⟨l,hl,h0,kC,C,bJ,hC,cI⟩:=hw.eK _ _ aO (by simp);cases ka with
 |map _ b cj aa=>
  rw[hl]at aa;cases aa;have hC:w.heap[b]? =some (.map C bJ):=hC;have cI:ki ι cj es c C.toList bJ:=cI;have hex:∀w',(Instr.mapUpdate t (.map (some b)) (fr.aj k) (a.eval x)).run X.P w= .ok () w'->(execOp a.eval o).run X.P w= .ok .skip w':=by
   intro w' fS;unfold execOp;rcases ak with ak|ak<;>(rw[ak];simp only[nZ,uW];simp[fS,Result.andThen])
  rcases cI.find (X:=X) dB hT wX w with⟨h1,h2,_⟩|⟨e,j,kT,h1,h2,h3,ay,aY,b7,dn,hr⟩
  ·rw[h2]at h;have h:st.g9 id (.map (es++[⟨fr.aj k,fr.aj x,c⟩]) (Nat.succ c)) (fun st=>aZ.ok undef fr st)= .ok v aI st':=h;rw[kt]at h;cases h;have fS:(Instr.mapUpdate t (.map (some b)) (fr.aj k) (a.eval x)).run X.P w= .ok () {w with heap:=w.heap.setIfInBounds b (.map (C.push {key:=fr.aj k,val:=a.eval x,born:=bJ}) (bJ+1))}:=by
    simp only[Instr.mapUpdate,Sem.run_bind,run_underlying hu,Result.andThen,MapKept.run_getObj_map hC,wh dB hT,h1,MapKept.run_setObj_map _ hC]
   obtain⟨bj,bM⟩:=bt.vL X hw aO (by simp) (fun ab=>ab) hl (.map (es++[⟨fr.aj k,fr.aj x,c⟩]) (Nat.succ c)) (.map (C.push {key:=fr.aj k,val:=a.eval x,born:=bJ}) (bJ+1)) {w with heap:=w.heap.setIfInBounds b (.map (C.push {key:=fr.aj k,val:=a.eval x,born:=bJ}) (bJ+1))} rfl
    (fun _ aN=>⟨rfl,rfl,_,_,aN,by
     have:=cI.push (fN.pure hT wZ) h2 c7;simpa using this⟩)
   exact⟨rfl,ι,.skip,_,hex _ fS,.inr ⟨rfl,rfl⟩,bj,bM⟩
  ·rw[ay]at h;have h:st.g9 id (.map (zZ (fr.aj k) (fr.aj x) es) c) (fun st=>aZ.ok undef fr st)= .ok v aI st':=h;rw[kt]at h;cases h;have hj:C[j]? =some kT:=by rw[<-Array.getElem?_toList];exact h2
   have fS:(Instr.mapUpdate t (.map (some b)) (fr.aj k) (a.eval x)).run X.P w= .ok () {w with heap:=w.heap.setIfInBounds b (.map (C.modify j fun e=>{e with key:=fr.aj k,val:=a.eval x}) bJ)}:=by
    simp only[Instr.mapUpdate,Sem.run_bind,run_underlying hu,Result.andThen,MapKept.run_getObj_map hC,wh dB hT,h1,MapKept.run_setObj_map _ hC,hj,Option.map_some,Option.getD_some,h3,asr dB hT]
   obtain⟨bj,bM⟩:=bt.vL X hw aO (by simp) (fun ab=>ab) hl (.map (zZ (fr.aj k) (fr.aj x) es) c) (.map (C.modify j fun e=>{e with key:=fr.aj k,val:=a.eval x}) bJ) {w with heap:=w.heap.setIfInBounds b (.map (C.modify j fun e=>{e with key:=fr.aj k,val:=a.eval x}) bJ)} rfl
    (fun _ aN=>⟨rfl,rfl,_,_,aN,by
     rw[toList_modify C j _ h2];exact cI.put wX h2 h3 c7⟩)
   exact⟨rfl,ι,.skip,_,hex _ fS,.inr ⟨rfl,rfl⟩,bj,bM⟩
theorem aq8{c9:fN}{m k:Operand}{t u fa jr:TypeId}(hm:cE X.aE m=true)(U:cE X.aE k=true)(ak:o.op= .call {callee:=.builtin .delete,args:= #[m,k],argTypes:= #[t,u]})(hu:X.P.underlying t=some (.map fa jr))
 (dB:X.keys fa=some c9) (ab:cB ι fr a aS) (hw:bt X ι st w) (h:po fr st (.del c9 m k)= .ok v aI st'):aI=fr∧ky X ι w v st' (execOp a.eval o):=by
 obtain⟨hT,h⟩:=ja h (by simp);obtain⟨r,aQ,h⟩:=Es h (by simp);obtain⟨id,rfl,h⟩:=fy h (by simp);obtain⟨es,c,aO,h⟩:=zY h (by simp);obtain⟨wX,h⟩:=ja h (by simp);rw[kt]at h;cases h;have wZ:=ab.aj hw U;have uW:a.eval k=fr.aj k:=fN.same hT wZ;have ka:=ab.aj hw hm;rw[aQ]at ka;generalize nZ:a.eval m=l4 at ka;obtain⟨l,hl,h0,kC,C,bJ,hC,cI⟩:=hw.eK _ _ aO (by simp);cases ka with
 |map _ b cj aa=>
  rw[hl]at aa;cases aa;have hC:w.heap[b]? =some (.map C bJ):=hC;have cI:ki ι cj es c C.toList bJ:=cI;rcases cI.find (X:=X) dB hT wX w with⟨h1,h2,_⟩|⟨e,j,kT,h1,h2,h3,ay,aY,b7,dn,hr⟩
  ·have nc:zX (fr.aj k) es=es:=by
    unfold zX;rw[List.filter_eq_self];intro e he;have:=Mk h2 e he;cases aH:dD (fr.aj k) e.key
    ·rfl
    ·exact absurd (mV _ _ aH).symm this
   obtain⟨bj,bM⟩:=bt.vL X hw aO (by simp) (fun ab=>ab) hl (.map (zX (fr.aj k) es) c) (.map C bJ) {w with heap:=w.heap.setIfInBounds b (.map C bJ)} rfl (fun _ aN=>⟨rfl,rfl,_,_,aN,by rw[nc];exact cI⟩);refine⟨rfl,ι,.value (.tuple #[]),_,?_,.inl ⟨_,rfl,bq.qO (bN.nil ι)⟩,bj,bM⟩;unfold execOp;rw[ak];simp[resolve,invoke,builtin,nZ,uW,Builtin.delete_,run_underlying hu,Result.andThen,MapKept.run_getObj_map hC,wh dB hT,h1,MapKept.run_setObj_map _ hC]
  ·obtain⟨bj,bM⟩:=bt.vL X hw aO (by simp) (fun ab=>ab) hl (.map (zX (fr.aj k) es) c) (.map (C.eraseIdxIfInBounds j) bJ) {w with heap:=w.heap.setIfInBounds b (.map (C.eraseIdxIfInBounds j) bJ)} rfl (fun _ aN=>⟨rfl,rfl,_,_,aN,by
    have:=cI.del wX h2 h3;rw[Array.toList_eraseIdxIfInBounds];exact this⟩)
   refine⟨rfl,ι,.value (.tuple #[]),_,?_,.inl ⟨_,rfl,bq.qO (bN.nil ι)⟩,bj,bM⟩;unfold execOp;rw[ak];simp[resolve,invoke,builtin,nZ,uW,Builtin.delete_,run_underlying hu,Result.andThen,MapKept.run_getObj_map hC,wh dB hT,h1,MapKept.run_setObj_map _ hC]
theorem ary{m:Operand}{t fa jr:TypeId}(hm:cE X.aE m=true)(ak:o.op= .range t m)(hu:X.P.underlying t=some (.map fa jr))(ab:cB ι fr a aS)(hw:bt X ι st w)
 (h:po fr st (.z2 m)= .ok v aI st'):aI=fr∧ky X ι w v st' (execOp a.eval o):=by
 obtain⟨r,aQ,h⟩:=Es h (by simp);have ka:=ab.aj hw hm;rw[aQ]at ka;generalize nZ:a.eval m=l4 at ka;cases r with
 |none=>
  cases ka;have h:st.jv (.th none 0 [] 0) (fun id st=>aZ.ok (.pointer (some ⟨id,0,none⟩)) fr st)= .ok v aI st':=h;rw[gv]at h;cases h;obtain⟨aV,bj,bM,dK,oL⟩:=bt.alloc X hw (.th none 0 [] 0) (.mapIter none 0 #[] 0) 0 (fun aV w' _ _ aN=>⟨rfl,rfl,_,_,_,_,aN,.inl ⟨rfl,rfl⟩⟩) {w with heap:=w.heap.push (.mapIter none 0 #[] 0)} rfl;refine⟨rfl,aV,.value (.pointer (some ⟨w.heap.size,0,none⟩)),_,?_,.inl ⟨_,rfl,?_⟩,bj,bM⟩
  ·unfold execOp;rw[ak];simp[nZ,Instr.range,run_underlying hu,Result.andThen]
  ·exact bq.ptr ⟨st.ai,0,none⟩ _ dK rfl
 |some id=>
  have h:qM (st.h.get id) (fun _ clock=>st.jv (.th (some id) clock [] clock) fun id st=>aZ.ok (.pointer (some ⟨id,0,none⟩)) fr st) .no= .ok v aI st':=h;obtain⟨es,c,aO,h⟩:=zY h (by simp);rw[gv]at h;cases h;obtain⟨l,hl,h0,kC,C,bJ,hC,cI⟩:=hw.eK _ _ aO (by simp);cases ka with
  |map _ b cj aa=>
   rw[hl]at aa;cases aa;have hC:w.heap[b]? =some (.map C bJ):=hC;have cI:ki ι cj es c C.toList bJ:=cI;obtain⟨aV,bj,bM,dK,oL⟩:=bt.alloc X hw (.th (some id) c [] c) (.mapIter (some b) bJ #[] bJ) 0
    (fun aV w' hle _ aN=>⟨rfl,rfl,_,_,_,_,aN,.inr ⟨id,b,cj,rfl,rfl,hle _ _ hl,cI.sC,rfl,cI.sC⟩⟩) {w with heap:=w.heap.push (.mapIter (some b) bJ #[] bJ)} rfl
   refine⟨rfl,aV,.value (.pointer (some ⟨w.heap.size,0,none⟩)),_,?_,.inl ⟨_,rfl,?_⟩,bj,bM⟩
   ·unfold execOp;rw[ak];simp[nZ,Instr.range,run_underlying hu,Result.andThen,MapKept.run_getObj_map hC]
   ·exact bq.ptr ⟨st.ai,0,none⟩ _ dK rfl
theorem ki.asn{ι:bA}{cj:Nat->Nat}{es:List MapEntry}{clock:Nat}{C:List MapEntry}{kl:Nat}(h:ki ι cj es clock C kl){s:Nat}(ah:s<clock){e:MapEntry}(he:es.find? (fun e=>Nat.beq e.born s)=some e):
 ∃c,C.find? (fun c=>c.born==cj s)=some c∧bq ι e.key c.key∧bq ι e.val c.val:=by
 obtain⟨l,hp,hlen,hl⟩:=h.same;have hq:=List.find?_some he;have aa:e.born=s:=ep hq;have hm:=List.mem_of_find?_eq_some he;obtain⟨i,ae,gF⟩:=List.getElem_of_mem (hp.mem_iff.2 hm);have ea:i<C.length:=by omega
 cases ab:C.find? (fun c=>c.born==cj s)with
 |none=>
  exfalso;have:=List.find?_eq_none.1 ab C[i] (dr ea);have h3:=(hl i ae ea).2.2;rw[gF,aa]at h3;rw[h3]at this;simp at this
 |some c=>
  have Uz:c.born=cj s:=by simpa using List.find?_some ab
  obtain⟨k,U,UQ⟩:=List.getElem_of_mem (List.mem_of_find?_eq_some ab);have fu:k<l.length:=by omega
  have h3:=hl k fu U;have ay:l[k].born<clock:=h.born _ (hp.mem_iff.1 (dr fu));have aY:cj l[k].born=cj s:=by rw[<-h3.2.2,UQ,Uz]
  have b7:=h.AO.inj _ _ ay ah aY;have pI:l.Pairwise (fun a b=>a.born≠b.born):=(hp.symm.pairwise_iff (R:=fun a b:MapEntry=>a.born≠b.born) (fun{a b} h=>h.symm)).1 h.yP;have ak0:i=k:=by
   rcases Nat.lt_trichotomy i k with g|g|g
   ·exact absurd (by rw[gF,aa,b7]) (List.pairwise_iff_getElem.1 pI i k ae fu g)
   ·exact g
   ·exact absurd (by rw[gF,aa,b7]) (List.pairwise_iff_getElem.1 pI k i fu ae g)
  subst ak0;rw[gF,UQ]at h3;exact⟨c,rfl,h3.1,h3.2.1⟩
theorem aqo{P:Program}{w:World}{r:Nat}{m:Option Nat}{a:Nat}{s:Array Nat}{b:Nat}(aa:w.heap[r]? =some (.mapIter m a s b)):(getObj r).run P w= .ok (.mapIter m a s b) w:=by
 simp[getObj,Sem.run,aa]
theorem art{i:Operand}(ae:cE X.aE i=true)(ak:o.op= .entry i)(ab:cB ι fr a aS)(hw:bt X ι st w)
 (h:po fr st (.z0 i)= .ok v aI st'):aI=fr∧cg X ι w v st st' (execOp a.eval o):=by
 obtain⟨p,hp,aL⟩:=qa h (by simp);obtain⟨ad,alr,aR⟩:=fy aL (by simp);obtain⟨ah,a7⟩:=Du aR (fun _=>by simp);obtain⟨h0,cl⟩:=lu a7 (by simp);obtain⟨m,since,seen,AR,aO,dc⟩:=amH cl (by simp);obtain⟨id,ak7,eI⟩:=fy dc (by simp);obtain⟨s,mK,g8⟩:=fy eI (by simp);obtain⟨es,clock,rA,nR⟩:=zY g8 (by simp);obtain⟨h1,rv⟩:=lu nR (by simp);obtain⟨h2,uL⟩:=jf rv (by simp);obtain⟨e,he,FQ⟩:=fy uL (by simp);clear h aL aR a7 cl dc eI g8 nR rv uL;subst alr ak7;cases FQ;have qx:=ab.aj hw ae;rw[hp]at qx;generalize k3:a.eval i=l0 at qx;obtain⟨l,hl,k7,fp,fq,NW,AL,GR,b6,akp⟩:=hw.eK _ _ aO (by simp);rcases akp with⟨hh,_⟩|⟨r,b,cj,aA,e2,b0,eS,j5,Fw⟩
 ·cases hh
 ·cases aA;subst e2;obtain⟨lm,ak3,xx,fK,C,bJ,hC,cI⟩:=hw.eK _ _ rA (by simp);rw[ak3]at b0;cases b0;have hC:w.heap[b]? =some (.map C bJ):=hC;have cI:ki ι cj es clock C.toList bJ:=cI;cases qx with
  |ptr _ l' cu e1=>
   rw[hl]at cu;cases cu;obtain⟨c,rz,lV,K7⟩:=cI.asn h2 he;have wN:AL.back?=some (cj s):=by
    have:AL.back?=AL.toList.getLast?:=by simp
    rw[this,j5,List.getLast?_map];rw[show seen.getLast?=some s from mK];rfl
   have uQ:bJ=GR:=by rw[cI.sC,Fw,h1]
   have akK:C.find? (fun x=>x.born==cj s)=some c:=by rw[<-Array.find?_toList];exact rz
   refine⟨rfl,cg.same (v':=.tuple #[c.key,c.val]) hw ?_ (bq.qO (bN.cons lV (bN.cons K7 (bN.nil ι))))⟩;unfold execOp;rw[ak];have iM:l.cR+ad.off=0:=by rw[k7,h0]
   simp only[k3,iM,Instr.entry,Sem.run_bind,aqo b6,Result.andThen,wN,Sem.run_pure,MapKept.run_getObj_map hC];simp[uQ,akK]
theorem aq3{f:FuncId}{x y:Operand}{ts:Array TypeId}(J:cE X.aE x=true)(aG:cE X.aE y=true)(eG:X.pe f=true)(ak:o.op= .call {callee:=.value (.func f),args:= #[x,y],argTypes:=ts})(ab:cB ι fr a aS)(hw:bt X ι st w)
 (h:po fr st (.bf x y)= .ok v aI st'):aI=fr∧cg X ι w v st st' (execOp a.eval o):=by
 obtain⟨s,ah,aL⟩:=oZ h (by simp);obtain⟨k,kT,hc,aR⟩:=jl aL (by simp);obtain⟨U,a7⟩:=ja aR (by simp);obtain⟨c,aA,cl⟩:=l5 a7 (by simp);have fu:=tc U;clear h aL aR a7;subst aA fu;have c7:=ab.aj hw J;rw[ah]at c7;generalize cy:a.eval x=fh at c7;have fm:=ab.aj hw aG;rw[hc]at fm;generalize fT:a.eval y=qe at fm;cases c7;cases fm;cases cl;refine⟨rfl,cg.same (v':=.int .i64 (.ofNat (s.data.toList.countP (fun b=>b==UInt8.ofNat c)))) hw ?_ (.int _ _)⟩;rw[FD ak];have:=X.BL f eG s (c:Int) w;simp only[List.map_toArray,List.map_cons,List.map_nil,cy,fT];rw[this];rfl
theorem aq9{neg:Bool}{n:Nat}{x y:Operand}{t u:TypeId}(J:cE X.aE x=true)(aG:cE X.aE y=true)(gN:X.eqs t=some n)(ak:o.op= .binOp (if neg then .neq else .eql) t x y u)(ab:cB ι fr a aS)(hw:bt X ι st w)
 (h:po fr st (.qp neg n x y)= .ok v aI st'):aI=fr∧cg X ι w v st st' (execOp a.eval o):=by
 obtain⟨xs,xj,h⟩:=AY h (by simp);obtain⟨aq,u6,h⟩:=AY h (by simp);obtain⟨h1,h⟩:=lu h (by simp);obtain⟨h2,h⟩:=lu h (by simp);obtain⟨b,aa,h⟩:=fy h (by simp);cases h;rw[fU]at h1 h2;have h1:xs.toList.length=n%100+n/100:=h1;have h2:aq.toList.length=n%100+n/100:=h2;have aa:kB (n%100) xs.toList aq.toList=some b:=aa;have plain:∀(l m:List Value) (j:Nat) (b:Bool),kB j l m=some b->∀(i:Nat) (ae:i<l.length) (hj:i<m.length) (u v:Value),(bq ι l[i] u->u=l[i])∧(bq ι m[i] v->v=m[i]):=by
  intro l
  induction l with
  |nil=>intro m j b _ i ae;simp at ae
  |cons p ps a0=>
   intro m j b aa i ae hj u v;cases m with
   |nil=>simp at hj
   |cons q dj=>
    unfold kB at aa;obtain⟨cZ,fQ,mE⟩:=fy (z:=none) (r:=some b) aa (by simp);cases i with
    |zero=>
     simp only[List.getElem_cons_zero];unfold Fx B3 Fz at fQ;split at fQ<;>split at fQ<;>first|(cases fQ;done)|exact⟨fun aQ=>by cases aQ;rfl,fun aQ=>by cases aQ;rfl⟩
    |succ i=>
     simp only[List.getElem_cons_succ];have:∃er,kB (j-1) ps dj=some er:=by
      cases cZ
      ·obtain⟨er,cT,_⟩:=fy (z:=none) (r:=some b) mE (by simp);exact⟨er,cT⟩
      ·exact⟨b,mE⟩
     obtain⟨er,cT⟩:=this;exact a0 dj _ er cT i (by simpa using ae) (by simpa using hj) u v
 have h7:=plain _ _ _ _ aa;have c7:=ab.aj hw J;rw[xj]at c7;generalize cy:a.eval x=fh at c7;have fm:=ab.aj hw aG;rw[u6]at fm;generalize fT:a.eval y=qe at fm;cases c7 with
 |agg _ tQ fY hi=>
  cases fm with
  |agg _ iW cZ dz=>
   have al3:tQ=xs:=by
    apply Array.ext
    ·exact fY.symm
    ·intro i c d;have:=(h7 i (by simpa using d) (by simp;simp at h1 h2;omega) tQ[i] tQ[i]).1 (by simpa using hi i d c);simpa using this
   have al6:iW=aq:=by
    apply Array.ext
    ·exact cZ.symm
    ·intro i c d;have:=(h7 i (by simp;simp at h1 h2;omega) (by simpa using d) iW[i] iW[i]).2 (by simpa using dz i d c);simpa using this
   subst al3 al6;obtain⟨UJ,heq⟩:=X.wB t n gN;have hq:=heq tQ iW b w (by simpa using h1) (by simpa using h2) aa;refine⟨rfl,cg.same (v':=.bool (cond neg (!b) b)) hw ?_ (.bool _)⟩;unfold execOp;rw[ak];cases neg
   ·simp only[cy,fT,Bool.false_eq_true,if_false];have aO:(eqGuard .eql t x y (.agg tQ) (.agg iW)).run X.P w= .ok () w:=by
     simp[eqGuard,program,Sem.run,UJ]
    simp[aO,run_eql_struct,hq,Result.andThen]
   ·simp only[cy,fT,if_true];have aO:(eqGuard .neq t x y (.agg tQ) (.agg iW)).run X.P w= .ok () w:=by
     simp[eqGuard,program,Sem.run,UJ]
    simp[aO,run_neq_struct,hq,Result.andThen]
end
theorem bq.DA{ι:bA}{c:Nat}{y:Value}(h:bq ι (.chan (some c)) y)(hc:c≠0):∃m,y= .int .i64 m∧Oh c m:=by
 generalize aH:Value.chan (some c)=v at h;cases h with
 |iC bJ m h=>cases aH;exact⟨m,rfl,h⟩
 |top _=>unfold ib at aH;cases aH;exact absurd rfl hc
 |_=>cases aH
theorem Qr{ι:bA}{n:Nat}{v y:Value}{b:Bool}(h:BK n v=some b)(aQ:bq ι v y):∃m:Int,y= .int .i64 m∧b=decide ((n:Int)<=m):=by
 unfold BK at h;split at h
 ·rename_i c;split at h
  ·rename_i h2;split at h
   ·rename_i h3;cases h;obtain⟨m,rfl,hu⟩:=aQ.DA (by omega);refine⟨m,rfl,?_⟩;have:(n:Int)<=m:=by
     rcases hu with hu|⟨k,U,hm⟩|⟨k,U,hm⟩<;>omega
    simp[this]
   ·cases h
  ·rename_i h2;split at h
   ·rename_i h3;cases h;obtain⟨m,rfl,hu⟩:=aQ.DA (by omega);refine⟨m,rfl,?_⟩;have:¬(n:Int)<=m:=by
     rcases hu with hu|⟨k,U,hm⟩|⟨k,U,hm⟩<;>omega
    simp[this]
   ·cases h
 ·cases h
section
variable{ι:bA}{fr aI:aT}{a:Act}{aS:Nat}{st st':au}{w:World}{o:Oper}{v:Value}{call:bQ}
theorem aq2{gt:Bool}{x y:Operand}{t u:TypeId}(J:cE X.aE x=true)(aG:cE X.aE y=true)(ak:o.op= .binOp (if gt then .gtr else .leq) t x y u)(ab:cB ι fr a aS)(hw:bt X ι st w)
 (h:po fr st (.wm gt x y)= .ok v aI st'):aI=fr∧cg X ι w v st st' (execOp a.eval o):=by
 obtain⟨k,z5,xj,h1⟩:=jl h (by simp);obtain⟨U,h2⟩:=ja h1 (by simp);obtain⟨n,hn,h3⟩:=l5 h2 (by simp);obtain⟨b,aa,ay⟩:=fy h3 (by simp);have fu:=tc U;subst fu hn;cases ay;have c7:=ab.aj hw J;rw[xj]at c7;generalize cy:a.eval x=fh at c7;cases c7;obtain⟨m,fT,zq⟩:=Qr aa (ab.aj hw aG);refine⟨rfl,cg.same (v':=.bool (cond gt (!b) b)) hw ?_ (.bool _)⟩;unfold execOp;rw[ak,zq];cases gt
 ·simp[cy,fT,eqGuard,binOp,Op.intCmp]
 ·simp only[cy,fT,if_true];have:(!decide ((n:Int)<=m))=decide (m<(n:Int)):=by rw[Bool.eq_iff_iff];simp
  simp[eqGuard,binOp,Op.intCmp,this]
theorem arj{f:FuncId}{x y:Operand}{ts:Array TypeId}(J:cE X.aE x=true)(aG:cE X.aE y=true)(eG:X.pP f=true)(ak:o.op= .call {callee:=.value (.func f),args:= #[x,y],argTypes:=ts})(ab:cB ι fr a aS)(hw:bt X ι st w)
 (h:po fr st (.idxs X.lG x y)= .ok v aI st'):aI=fr∧cg X ι w v st st' (execOp a.eval o):=by
 obtain⟨s,ah,aL⟩:=oZ h (by simp);obtain⟨b,aa,aR⟩:=oZ aL (by simp);unfold BD at aR;obtain⟨eg,qB,a7⟩:=fy aR (by simp);cases eg with
 |cells cs el bn a8=>
  have cl:cond a8 aZ.no (one cs (fun c=>cond (LR (ec b.data.toList) c) (eo 2 (ec b.data.toList) (eo (ec s.data.toList) 1000000
   (.ok (.int .i64 (bl (n8 b.data.toList s.data.toList) (fun i=>.ofNat i) (.negSucc 0))) fr st) .no) .no) .no) .no)= .ok v aI st':=a7
  obtain⟨zu,dc⟩:=z7 cl (by simp);obtain⟨c,hc,eI⟩:=Ah dc (by simp);obtain⟨ae,g8⟩:=ja eI (by simp);obtain⟨h2,nR⟩:=jf g8 (by simp);obtain⟨h3,rv⟩:=jf nR (by simp);rw[fU]at ae h2 h3;cases rv;have c7:=ab.aj hw J;rw[ah]at c7;generalize cy:a.eval x=fh at c7;have fm:=ab.aj hw aG;rw[aa]at fm;generalize fT:a.eval y=qe at fm;cases c7;cases fm;obtain⟨l,hl,C,eT,hC⟩:=hw.eK _ _ qB (by simp);rw[hw.lT _ X.Dl]at hl;cases hl;subst hc;obtain⟨bJ,rz,lV⟩:=hC.cell 0 (by simp);have akw:BK b.data.toList.length c=some true:=by
   unfold LR at ae;split at ae
   ·assumption
   ·cases ae
  obtain⟨m,rfl,zq⟩:=Qr akw lV;have hle:((b.data.toList.length:Nat):Int)<=m:=by simpa using zq.symm
  have ak4:(load ⟨X.lG,0,none⟩).run X.P w= .ok (.int .i64 m) w:=by
   have K7:C[0]? =some (.int .i64 m):=by simpa using rz
   rw[run_load,cell_of hC.there];simp[K7]
  refine⟨rfl,cg.same (v':=.int .i64 (bl (n8 b.data.toList s.data.toList) (fun i=>.ofNat i) (.negSucc 0))) hw ?_ (.int _ _)⟩;rw[FD ak];have:=X.C6 f eG s b m w ak4 (by simpa using h2) (by simpa using hle) (by simpa using h3);simp only[List.map_toArray,List.map_cons,List.map_nil,cy,fT];rw[this];cases n8 b.data.toList s.data.toList<;>rfl
 |_=>cases a7
end
def dd.inPlace:dd->Bool
 |.call _ _|.inv _ _ _|.vF|.qn _ _|.qQ _=>false
 |_=>true
def Ctx.jQ(X:Ctx)(op:Op)(x:dd):Bool:=atL X.P X.aE X.jP X.kb X.keys X.pe X.eqs X.pP X.lG op x
theorem mm{P:Program}{t:TypeId}{n:Nat}(h:gw P t=some n):∃i,P.info? t=some i∧i.size=n:=by
 unfold gw at h;exact Option.map_eq_some_iff.1 h
theorem Ew{P:Program}{t:TypeId}{v:Value}(h:q4 P t=some v):∃i,P.info? t=some i∧i.zero=some v:=by
 unfold q4 at h;exact Option.bind_eq_some_iff.1 h
theorem Bi{P:Program}{t:TypeId}{g:Bool}(h:o4 P t=some g):∃d,P.underlying t=some d∧qj d=g:=by
 unfold o4 at h;exact Option.map_eq_some_iff.1 h
theorem eN{a b:Nat}(h:Nat.beq a b=true):a=b:=ep h
theorem Hh{a:Nat}(h:(!Nat.beq a 0)=true):a≠0:=by intro e;subst e;simp at h
def ue.rP:ue->Bool
 |.look _ _ _ _ _|.z1 _|.z0 _|.bf _ _|.qp _ _ _ _|.wm _ _ _|.idxs _ _ _=>true
 |_=>false
def dd.rP:dd->Bool
 |.ext y=>y.rP
 |.alloc _ _|.box _ _|.ot _ _ _ _|.store _ _ _|.uv _ _|.tj|.oO _ _ _ _ _|.call _ _|.inv _ _ _|.vd _|.app _ _ _ _ _|.qm _ _ _|.vF|.qn _ _|.qQ _|.vO _ _ _|.refuse=>false
 |_=>true
def dd.s8:dd->Bool
 |.alloc _ _|.box _ _|.ot _ _ _ _|.uv _ _|.oO _ _ _ _ _|.tj=>true
 |_=>false
def v9(X:Ctx)(x:dd)(ι:bA)(w:World)(v:Value)(st st':au)(s:Sem Next):Prop:=
 ky X ι w v st' s∧(x.rP=true->cg X ι w v st st' s)∧(x.s8=true->su X ι w v st st' s)
section
variable{p:Prop}{x:dd}{ι:bA}{w:World}{v:Value}{st st':au}{s:Sem Next}
theorem e8(h:p∧cg X ι w v st st' s)(J:x.s8=false):p∧v9 X x ι w v st st' s:=⟨h.1,h.2.NU,fun _=>h.2,fun e=>by rw[J]at e;cases e⟩
theorem yG(h:p∧su X ι w v st st' s)(J:x.rP=false):p∧v9 X x ι w v st st' s:=⟨h.1,h.2.NU,fun e=>(by rw[J]at e;cases e),fun _=>h.2⟩
theorem vS(h:p∧ky X ι w v st' s)(J:x.rP=false)(bV:x.s8=false):p∧v9 X x ι w v st st' s:=⟨h.1,h.2,fun e=>(by rw[J]at e;cases e),fun e=>by rw[bV]at e;cases e⟩
end
def KV:dd->Bool
 |.l4 _|.pick _ _ _|.alloc _ _|.box _ _|.build _ _|.ot _ _ _ _|.lE _|.pT _ _|.store _ _ _|.rV _|.bin _ _ _|.eqv _ _ _ _|.un _ _|.tj|.refuse|.vd _=>true
 |_=>false
section
variable{ι:bA}{fr aI:aT}{a:Act}{aS:Nat}{st st':au}{w:World}{o:Oper}{v:Value}{call:bQ}
theorem aos{x:dd}(U:X.jQ o.op x=true)(ab:cB ι fr a aS)(hw:bt X ι st w)(h:b2 call x fr st= .ok v aI st')
 (J:KV x=true):
 aI=fr∧v9 X x ι w v st st' (execOp a.eval o):=by
 generalize ak:o.op=op at U;cases x with
 |l4 p=>
  cases op with
  |move q=>obtain⟨rfl,h2⟩:=cW U;exact e8 (Zx (call:=call) h2 (.inl ak) ab hw h) rfl
  |assign q=>obtain⟨rfl,h2⟩:=cW U;exact e8 (Zx (call:=call) h2 (.inr ak) ab hw h) rfl
  |_=>cases U
 |pick c p q=>
  cases op with
  |pick bJ gh fg=>
   have U:(bY X.aE c bJ&&bY X.aE p gh&&bY X.aE q fg)=true:=U;simp only[bZ]at U;obtain⟨⟨h1,h2⟩,h3⟩:=U;obtain⟨rfl,bj⟩:=cW h1;obtain⟨rfl,bM⟩:=cW h2;obtain⟨rfl,dK⟩:=cW h3;exact e8 (arD (call:=call) bj bM dK ak ab hw h) rfl
  |_=>cases U
 |alloc z e=>
  cases op with
  |alloc t=>
   have U:(Nat.beq e t&&(match q4 X.P t with|some v=>lh z v.cells.toList&&mq z|none=>false))=true:=U;rw[bZ]at U;obtain⟨h1,h2⟩:=U;have aA:=eN h1;subst aA;split at h2
   ·rename_i so qF;rw[bZ]at h2;have e2:=yp _ _ h2.1;subst e2;obtain⟨i,ae,ax⟩:=Ew qF;exact yG (aqS (call:=call) ak ae ax h2.2 hw h) rfl
   ·cases h2
  |_=>cases U
 |box e p=>
  cases op with
  |box t q=>
   have U:(Nat.beq e t&&bY X.aE p q)=true:=U;rw[bZ]at U;have aA:=eN U.1;subst aA;obtain⟨rfl,h2⟩:=cW U.2;exact yG (aqV (call:=call) h2 ak ab hw h) rfl
  |_=>cases U
 |build z ps=>
  cases op with
  |build t parts=>
   have U:((match q4 X.P t with|some v=>lh z v.cells.toList&&mq z|none=>false)&&
    (match X.P.underlying t with
     |some (.struct fields)=>fields.toList.all (fun f=>(X.P.info? f.type).isSome)&&qP X.aE (fun j=>(fields.map fun f=>(f.offset,X.P.cellsOf f.type))[j]?) ps parts.toList
     |some (.array _ e)=>(match gw X.P e with|some s=>qP X.aE (fun j=>some (j*s,s)) ps parts.toList|none=>false)
     |_=>false))=true:=U
   rw[bZ]at U;obtain⟨h1,h2⟩:=U;split at h1
   ·rename_i so qF;rw[bZ]at h1;have e2:=yp _ _ h1.1;subst e2;obtain⟨i,ae,ax⟩:=Ew qF;split at h2
    ·rename_i fields hu;rw[bZ,List.all_eq_true]at h2;obtain⟨bj,bM⟩:=HA h2.2;exact e8 (aqY (call:=call) ak hu ae ax h1.2 h2.1 bj bM ab hw h) rfl
    ·rename_i n e hu;split at h2
     ·rename_i s ah;obtain⟨dk,gF,rfl⟩:=mm ah;obtain⟨bj,bM⟩:=HA h2;exact e8 (aqX (call:=call) ak hu ae ax h1.2 gF (by rw[bj];simp) (fun p hp=>(bM p hp).2) ab hw h) rfl
     ·cases h2
    ·cases h2
   ·cases h1
  |_=>cases U
 |ot e n z ps=>
  cases op with
  |buildSlice t m parts=>
   have U:(Nat.beq n m&&(match X.P.underlying t with
    |some (.slice el)=>Nat.beq e el&&(match gw X.P el,q4 X.P el with
     |some s,some v=>Nat.ble (m*s) (2^24)&&lh z ((List.range (m*s)).map (fun j=>(if m*s=0 then(#[]:Array Value)else v.cells)[j%(if m*s=0 then(#[]:Array Value)else v.cells).size]!))&&mq z&&
      qP X.aE (fun j=>some (j*s,s)) ps parts.toList
     |_,_=>false)
    |_=>false))=true:=U
   rw[bZ]at U;obtain⟨h1,h2⟩:=U;have aA:=eN h1;subst aA;split at h2
   ·rename_i el hu;rw[bZ]at h2;obtain⟨h3,ay⟩:=h2;have e2:=eN h3;subst e2;split at ay
    ·rename_i s so ah qF;simp only[bZ]at ay;obtain⟨⟨⟨aY,b7⟩,dn⟩,hr⟩:=ay;obtain⟨dk,gF,rfl⟩:=mm ah;obtain⟨auP,UO,ax⟩:=Ew qF;rw[gF]at UO;cases UO;obtain⟨bj,bM⟩:=HA hr;exact yG (aqW (call:=call) ak hu gF ax (pa.1 aY) (yp _ _ b7) dn (by rw[bj];simp) (fun p hp=>(bM p hp).2) ab hw h) rfl
    ·cases ay
   ·cases h2
  |_=>cases U
 |lE p=>
  cases op with
  |load t q=>
   have U:(bY X.aE p q&&(match o4 X.P t with|some g=> !g|none=>false))=true:=U;rw[bZ]at U;obtain⟨h1,h2⟩:=U;obtain⟨rfl,bj⟩:=cW h1;split at h2
   ·rename_i g aO;obtain⟨d,av,e⟩:=Bi aO;exact e8 (Zu (call:=call) bj ak av (by rw[e];simpa using h2) ab hw h) rfl
   ·cases h2
  |_=>cases U
 |pT n p=>
  cases op with
  |load t q=>
   have U:(bY X.aE p q&&(match o4 X.P t,gw X.P t with|some g,some s=>g&&Nat.beq n s|_,_=>false))=true:=U;rw[bZ]at U;obtain⟨h1,h2⟩:=U;obtain⟨rfl,bj⟩:=cW h1;split at h2
   ·rename_i g s aO ah;rw[bZ]at h2;obtain⟨d,av,e⟩:=Bi aO;obtain⟨i,ae,rfl⟩:=mm ah;have aA:=eN h2.2;subst aA;exact e8 (Zv (call:=call) bj ak av (by rw[e];exact h2.1) ae ab hw h) rfl
   ·cases h2
  |_=>cases U
 |store n p q=>
  cases op with
  |store t gh fg=>
   have U:(bY X.aE p gh&&bY X.aE q fg&&(match gw X.P t with|some s=>Nat.beq n s|none=>false))=true:=U;simp only[bZ]at U;obtain⟨⟨h1,h2⟩,h3⟩:=U;obtain⟨rfl,bj⟩:=cW h1;obtain⟨rfl,bM⟩:=cW h2;split at h3
   ·rename_i s ah;obtain⟨i,ae,rfl⟩:=mm ah;have aA:=eN h3;subst aA;exact vS (arI (call:=call) bj bM ak ae ab hw h) rfl rfl
   ·cases h3
  |_=>cases U
 |rV p=>
  cases op with
  |nilCheck q=>obtain⟨rfl,h2⟩:=cW U;exact e8 (arA (call:=call) h2 ak ab hw h) rfl
  |_=>cases U
 |bin acF p q=>
  cases op with
  |binOp J6 t gh fg yx=>
   have U:(decide (acF=J6)&&bY X.aE p gh&&bY X.aE q fg)=true:=U;simp only[bZ,decide_eq_true_eq]at U;obtain⟨⟨h1,h2⟩,h3⟩:=U;subst h1;obtain⟨rfl,bj⟩:=cW h2;obtain⟨rfl,bM⟩:=cW h3;exact e8 (aqU (call:=call) bj bM ak ab hw h) rfl
  |_=>cases U
 |eqv neg e p q=>
  cases op with
  |binOp J6 t gh fg yx=>
   have U:(decide (J6=(if neg then .neq else .eql))&&bY X.aE p gh&&bY X.aE q fg&&FA X.P t e gh fg)=true:=U;simp only[bZ,decide_eq_true_eq]at U;obtain⟨⟨⟨h1,h2⟩,h3⟩,ay⟩:=U;subst h1;obtain⟨rfl,bj⟩:=cW h2;obtain⟨rfl,bM⟩:=cW h3;exact e8 (ara (call:=call) bj bM ak (af4 _ ay) ab hw h) rfl
  |_=>cases U
 |un asV p=>
  cases op with
  |unOp asW t q=>
   have U:(decide (asV=asW)&&bY X.aE p q)=true:=U;simp only[bZ,decide_eq_true_eq]at U;obtain⟨h1,h2⟩:=U;subst h1;obtain⟨rfl,bj⟩:=cW h2;exact e8 (arK (call:=call) bj ak ab hw h) rfl
  |_=>cases U
 |tj=>
  cases op with
  |makeMap t r=>
   cases r with
   |none=>
    have h:xO call fr st= .ok v aI st':=h;unfold xO at h;rw[gv]at h;cases h;obtain⟨aV,bj,bM,dK,oL⟩:=bt.alloc X hw (.map [] 0) (.map #[] 0) 0 (fun aV w' _ _ aN=>⟨rfl,rfl,#[],0,aN,rfl,⟨fun s t h _ _=>absurd h (Nat.not_lt_zero _),fun s h=>absurd h (Nat.not_lt_zero _),fun j=>by simp⟩,by simp,.nil,.nil,[],.nil,rfl,fun i ae=>by simp at ae⟩) {w with heap:=w.heap.push (.map #[] 0)} rfl;rw[oL]at bj bM dK;refine yG ⟨rfl,_,_,_,.map (some w.heap.size),_,rfl,by simp,?_,rfl,.map _ _ _ dK,bj,bM⟩ rfl;unfold execOp;rw[ak];simp[Instr.makeMap,Result.andThen]
   |some r=>cases U
  |_=>cases U
 |refuse=>cases h
 |vd p=>cases h
 |_=>cases J
end
theorem am2{a b:fN}(h:L3 a b=true):a=b:=by
 cases a<;>cases b<;>simp[L3]at h<;>first|rfl|(rw[h])|(rw[h.1,h.2])
theorem GQ{P:Program}{keys:TypeId->Option fN}{t:TypeId}{c9:fN}(h:Db P keys t c9=true):∃fa jr,P.underlying t=some (.map fa jr)∧keys fa=some c9:=by
 unfold Db at h;split at h
 ·rename_i fa jr hu;split at h
  ·rename_i VJ U;exact⟨fa,jr,hu,by rw[U,am2 h]⟩
  ·cases h
 ·cases h
theorem isMap{P:Program}{t:TypeId}(h:(match P.underlying t with|some (.map _ _)=>true|_=>false)=true):∃fa jr,P.underlying t=some (.map fa jr):=by
 split at h
 ·rename_i fa jr hu;exact⟨fa,jr,hu⟩
 ·cases h
section
variable{ι:bA}{fr aI:aT}{a:Act}{aS:Nat}{st st':au}{w:World}{o:Oper}{v:Value}{call:bQ}
theorem arb{y:ue}(U:X.jQ o.op (.ext y)=true)(ab:cB ι fr a aS)(hw:bt X ι st w)(h:b2 call (.ext y) fr st= .ok v aI st'):
 aI=fr∧v9 X (.ext y) ι w v st st' (execOp a.eval o):=by
 generalize ak:o.op=op at U;have U:Ox X.P X.aE X.keys X.pe X.eqs X.pP X.lG op y=true:=U;have h:po fr st y= .ok v aI st':=h;unfold Ox at U;split at U
 ·simp only[bZ]at U;obtain⟨⟨⟨⟨h1,h2⟩,h3⟩,ay⟩,aY⟩:=U;obtain⟨rfl,bj⟩:=cW h1;obtain⟨rfl,bM⟩:=cW h2;have b0:=eq_of_beq h3;subst b0;obtain⟨fa,jr,hu,dB⟩:=GQ ay;rw[hu]at aY;simp only at aY;split at aY
  ·rename_i so qF;rw[bZ]at aY;have j5:=mV _ _ aY.1;subst j5;obtain⟨i,ae,ax⟩:=Ew qF;exact e8 (ars bj bM ak hu dB ae ax aY.2 ab hw h) rfl
  ·cases aY
 ·simp only[bZ]at U;obtain⟨⟨⟨h1,h2⟩,h3⟩,ay⟩:=U;obtain⟨rfl,bj⟩:=cW h1;obtain⟨rfl,bM⟩:=cW h2;obtain⟨rfl,dK⟩:=cW h3;obtain⟨fa,jr,hu,dB⟩:=GQ ay;exact vS (Zy bj bM dK (.inl ak) hu dB ab hw h) rfl rfl
 ·simp only[bZ]at U;obtain⟨⟨⟨h1,h2⟩,h3⟩,ay⟩:=U;obtain⟨rfl,bj⟩:=cW h1;obtain⟨rfl,bM⟩:=cW h2;obtain⟨rfl,dK⟩:=cW h3;obtain⟨fa,jr,hu,dB⟩:=GQ ay;exact vS (Zy bj bM dK (.inr ak) hu dB ab hw h) rfl rfl
 ·simp only[bZ]at U;obtain⟨⟨h1,h2⟩,ay⟩:=U;obtain⟨rfl,bj⟩:=cW h1;obtain⟨rfl,bM⟩:=cW h2;obtain⟨fa,jr,hu,dB⟩:=GQ ay;exact vS (aq8 bj bM ak hu dB ab hw h) rfl rfl
 ·rw[bZ]at U;obtain⟨rfl,bj⟩:=cW U.1;obtain⟨fa,jr,hu⟩:=isMap U.2;exact e8 (arw bj ak hu ab hw h) rfl
 ·rw[bZ]at U;obtain⟨rfl,bj⟩:=cW U.1;obtain⟨fa,jr,hu⟩:=isMap U.2;exact vS (ary bj ak hu ab hw h) rfl rfl
 ·obtain⟨rfl,bj⟩:=cW U;exact e8 (art bj ak ab hw h) rfl
 ·cases h
 ·simp only[bZ,decide_eq_true_eq]at U;obtain⟨⟨⟨h0,h1⟩,h2⟩,_⟩:=U;obtain⟨rfl,bj⟩:=cW h1;obtain⟨rfl,bM⟩:=cW h2;subst h0;exact e8 (aq2 bj bM ak ab hw h) rfl
 ·simp only[bZ]at U;obtain⟨⟨⟨h1,h2⟩,h3⟩,ay⟩:=U;obtain⟨rfl,bj⟩:=cW h1;obtain⟨rfl,bM⟩:=cW h2;have e:=eN ay;subst e;exact e8 (arj bj bM h3 ak ab hw h) rfl
 ·simp only[bZ]at U;obtain⟨⟨h1,h2⟩,h3⟩:=U;obtain⟨rfl,bj⟩:=cW h1;obtain⟨rfl,bM⟩:=cW h2;exact e8 (aq3 bj bM h3 ak ab hw h) rfl
 ·simp only[bZ,decide_eq_true_eq]at U;obtain⟨⟨⟨h0,h1⟩,h2⟩,h3⟩:=U;obtain⟨rfl,bj⟩:=cW h1;obtain⟨rfl,bM⟩:=cW h2;subst h0;split at h3
  ·rename_i b8 hn;have e:=eN h3;subst e;exact e8 (aq9 bj bM hn ak ab hw h) rfl
  ·cases h3
 ·cases U
end
theorem amx{op:Op}{p:Operand}(U:X.jQ op (.oN p)=true):∃q t,op= .call {callee:=.builtin .len,args:= #[q],argTypes:= #[t]}∧(bY X.aE p q&&(match X.P.underlying t with|some (.slice _)=>true|_=>false))=true:=by
 cases op with
 |call c=>
  obtain⟨callee,⟨args⟩,⟨ts⟩⟩:=c;cases callee with
  |builtin b=>
   cases b with
   |len=>
    match args,ts,U with
    |[q],[t],U=>exact⟨q,t,rfl,U⟩
    |[],_,U=>cases U
    |_::_::_,_,U=>cases U
    |[_],[],U=>cases U
    |[_],_::_::_,U=>cases U
   |_=>cases U
  |_=>cases U
 |_=>cases U
theorem amy{op:Op}{p:Operand}(U:X.jQ op (.te p)=true):∃q t,op= .call {callee:=.builtin .len,args:= #[q],argTypes:= #[t]}∧(bY X.aE p q&&(match X.P.underlying t with|some .string=>true|_=>false))=true:=by
 cases op with
 |call c=>
  obtain⟨callee,⟨args⟩,⟨ts⟩⟩:=c;cases callee with
  |builtin b=>
   cases b with
   |len=>
    match args,ts,U with
    |[q],[t],U=>exact⟨q,t,rfl,U⟩
    |[],_,U=>cases U
    |_::_::_,_,U=>cases U
    |[_],[],U=>cases U
    |[_],_::_::_,U=>cases U
   |_=>cases U
  |_=>cases U
 |_=>cases U
theorem amw{op:Op}{n:Nat}(U:X.jQ op (.xv n)=true):∃q t,op= .call {callee:=.builtin .len,args:= #[q],argTypes:= #[t]}∧(match X.P.underlying t with|some (.array m _)=>Nat.beq n m|some (.pointer u)=>(match X.P.underlying u with|some (.array m _)=>Nat.beq n m|_=>false)|_=>false)=true:=by
 cases op with
 |call c=>
  obtain⟨callee,⟨args⟩,⟨ts⟩⟩:=c;cases callee with
  |builtin b=>
   cases b with
   |len=>
    match args,ts,U with
    |[q],[t],U=>exact⟨q,t,rfl,U⟩
    |[],_,U=>cases U
    |_::_::_,_,U=>cases U
    |[_],[],U=>cases U
    |[_],_::_::_,U=>cases U
   |_=>cases U
  |_=>cases U
 |_=>cases U
theorem ams{op:Op}{e a4 bW:Nat}{s p:Operand}(U:X.jQ op (.app e a4 bW s p)=true):∃br q t u,op= .call {callee:=.builtin .append,args:= #[br,q],argTypes:= #[t,u]}∧
 (bY X.aE s br&&bY X.aE p q&&(match X.P.underlying t,X.P.underlying u with
  |some (.slice el),some d=>Nat.beq e el&&(match d with|.int _=>false|_=>true)&&(match X.P.info? el with
   |some i=>Nat.beq a4 i.size&&Nat.beq bW i.bytes&&(match i.zero with|some v=>Nat.beq v.cells.size i.size|none=>false)
   |none=>false)
  |_,_=>false))=true:=by
 cases op with
 |call c=>
  obtain⟨callee,⟨args⟩,⟨ts⟩⟩:=c;cases callee with
  |builtin b=>
   cases b with
   |append=>
    match args,ts,U with
    |[br,q],[t,u],U=>exact⟨br,q,t,u,rfl,U⟩
    |[],_,U=>cases U
    |[_],_,U=>cases U
    |_::_::_::_,_,U=>cases U
    |[_,_],[],U=>cases U
    |[_,_],[_],U=>cases U
    |[_,_],_::_::_::_,U=>cases U
   |_=>cases U
  |_=>cases U
 |_=>cases U
theorem amA{op:Op}{p:Operand}{ps:List Operand}(U:X.jQ op (.eU p ps)=true):∃q dj ts,op= .call {callee:=.builtin .max,args:=(q::dj).toArray,argTypes:=ts}∧(bY X.aE p q&&jR X.aE ps dj)=true:=by
 cases op with
 |call c=>
  obtain⟨callee,⟨args⟩,ts⟩:=c;cases callee with
  |builtin b=>
   cases b with
   |max=>
    match args,U with
    |q::dj,U=>exact⟨q,dj,ts,rfl,U⟩
    |[],U=>cases U
   |_=>cases U
  |_=>cases U
 |_=>cases U
theorem amz{op:Op}{p:Operand}{ps:List Operand}(U:X.jQ op (.xE p ps)=true):∃q dj ts,op= .call {callee:=.builtin .min,args:=(q::dj).toArray,argTypes:=ts}∧(bY X.aE p q&&jR X.aE ps dj)=true:=by
 cases op with
 |call c=>
  obtain⟨callee,⟨args⟩,ts⟩:=c;cases callee with
  |builtin b=>
   cases b with
   |min=>
    match args,U with
    |q::dj,U=>exact⟨q,dj,ts,rfl,U⟩
    |[],U=>cases U
   |_=>cases U
  |_=>cases U
 |_=>cases U
theorem amt{op:Op}{a4:Nat}{d s:Operand}(U:X.jQ op (.qm a4 d s)=true):∃h5 br t u,op= .call {callee:=.builtin .copy,args:= #[h5,br],argTypes:= #[t,u]}∧
 (bY X.aE d h5&&bY X.aE s br&&(match X.P.underlying t with|some (.slice e)=>(match gw X.P e with|some n=>Nat.beq a4 n|none=>false)|_=>false))=true:=by
 cases op with
 |call c=>
  obtain⟨callee,⟨args⟩,⟨ts⟩⟩:=c;cases callee with
  |builtin b=>
   cases b with
   |copy=>
    match args,ts,U with
    |[br,q],[t,u],U=>exact⟨br,q,t,u,rfl,U⟩
    |[],_,U=>cases U
    |[_],_,U=>cases U
    |_::_::_::_,_,U=>cases U
    |[_,_],[],U=>cases U
    |[_,_],[_],U=>cases U
    |[_,_],_::_::_::_,U=>cases U
   |_=>cases U
  |_=>cases U
 |_=>cases U
theorem amE{op:Op}{p:Operand}(U:X.jQ op (.Eb p)=true):∃q t,op= .call {callee:=.builtin .unsafeSliceData,args:= #[q],argTypes:= #[t]}∧bY X.aE p q=true:=by
 cases op with
 |call c=>
  obtain⟨callee,⟨args⟩,⟨ts⟩⟩:=c;cases callee with
  |builtin b=>
   cases b with
   |unsafeSliceData=>
    match args,ts,U with
    |[q],[t],U=>exact⟨q,t,rfl,U⟩
    |[],_,U=>cases U
    |_::_::_,_,U=>cases U
    |[_],[],U=>cases U
    |[_],_::_::_,U=>cases U
   |_=>cases U
  |_=>cases U
 |_=>cases U
theorem amF{op:Op}{e:Nat}{p n:Operand}(U:X.jQ op (.vO e p n)=true):∃q m t u,op= .call {callee:=.builtin .unsafeString,args:= #[q,m],argTypes:= #[t,u]}∧
 (bY X.aE p q&&bY X.aE n m&&(match X.P.underlying t with|some (.pointer cK)=>Nat.beq e cK&&(match gw X.P cK with|some 1=>true|_=>false)|_=>false))=true:=by
 cases op with
 |call c=>
  obtain⟨callee,⟨args⟩,⟨ts⟩⟩:=c;cases callee with
  |builtin b=>
   cases b with
   |unsafeString=>
    match args,ts,U with
    |[br,q],[t,u],U=>exact⟨br,q,t,u,rfl,U⟩
    |[],_,U=>cases U
    |[_],_,U=>cases U
    |_::_::_::_,_,U=>cases U
    |[_,_],[],U=>cases U
    |[_,_],[_],U=>cases U
    |[_,_],_::_::_::_,U=>cases U
   |_=>cases U
  |_=>cases U
 |_=>cases U
theorem amv{op:Op}{p c:Operand}(U:X.jQ op (.kb p c)=true):∃f q d ts,op= .call {callee:=.value (.func f),args:= #[q,d],argTypes:=ts}∧(bY X.aE p q&&bY X.aE c d&&X.kb f)=true:=by
 cases op with
 |call c=>
  obtain⟨callee,⟨args⟩,ts⟩:=c;cases callee with
  |value g=>
   cases g with
   |func f=>
    match args,U with
    |[q,d],U=>exact⟨f,q,d,ts,rfl,U⟩
    |[],U=>cases U
    |[_],U=>cases U
    |_::_::_::_,U=>cases U
   |_=>cases U
  |_=>cases U
 |_=>cases U
theorem amB{op:Op}{p:Operand}(U:X.jQ op (.jP p)=true):∃f q ts,op= .call {callee:=.value (.func f),args:= #[q],argTypes:=ts}∧(bY X.aE p q&&X.jP f)=true:=by
 cases op with
 |call c=>
  obtain⟨callee,⟨args⟩,ts⟩:=c;cases callee with
  |value g=>
   cases g with
   |func f=>
    match args,U with
    |[q],U=>exact⟨f,q,ts,rfl,U⟩
    |[],U=>cases U
    |_::_::_,U=>cases U
   |_=>cases U
  |_=>cases U
 |_=>cases U
theorem amD{op:Op}(U:X.jQ op .vF=true):∃ts,op= .call {callee:=.builtin .recover,args:= #[],argTypes:=ts}:=by
 cases op with
 |call c=>
  obtain⟨callee,⟨args⟩,ts⟩:=c;cases callee with
  |builtin b=>
   cases b with
   |recover=>
    match args,U with
    |[],_=>exact⟨ts,rfl⟩
    |_::_,U=>cases U
   |_=>cases U
  |_=>cases U
 |_=>cases U
theorem Vy{op:Op}{f:Operand}{ps:List Operand}(U:X.jQ op (.call f ps)=true):∃g args ts,op= .call {callee:=.value g,args:=args,argTypes:=ts}∧
 (bY X.aE f g&&jR X.aE ps args.toList&&(match g with|.func k=>((X.P.funcs[k]?).map (fun fn=>fn.body.isSome&& !(fn.name== "runtime.NumGoroutine"))).getD false|_=>true))=true:=by
 cases op with
 |call c=>
  obtain⟨callee,args,ts⟩:=c;cases callee with
  |value g=>exact⟨g,args,ts,rfl,U⟩
  |_=>cases U
 |_=>cases U
theorem inv_inv{op:Op}{hv:List (Nat×FuncId)}{f:Operand}{ps:List Operand}(U:X.jQ op (.inv hv f ps)=true):∃g name args ts,op= .call {callee:=.invoke g name,args:=args,argTypes:=ts}∧
 (bY X.aE f g&&jR X.aE ps args.toList&&hv.all (fun p=>rT X.P p.1 name p.2))=true:=by
 cases op with
 |call c=>
  obtain⟨callee,args,ts⟩:=c;cases callee with
  |invoke g name=>exact⟨g,name,args,ts,rfl,U⟩
  |_=>cases U
 |_=>cases U
theorem I2{t:Nat}{g:FuncId}:∀{hv:List (Nat×FuncId)},vK t hv=some g->(t,g)∈hv
 |[],h=>by cases h
 |p::hv,h=>by
  have h:cond (Nat.beq p.1 t) (some p.2) (vK t hv)=some g:=h;cases aa:Nat.beq p.1 t with
  |true=>rw[aa]at h;cases h;rw[<-Nat.eq_of_beq_eq_true aa];exact List.mem_cons_self
  |false=>rw[aa]at h;exact List.mem_cons_of_mem _ (I2 h)
theorem anC{P:Program}{t:Nat}{name:String}{g:FuncId}(h:rT P t name g=true)(v:Value)(as:Array Value)(w:World):
 (callMethod (.iface t v) name as).run P w=(callFunc g (#[v]++as)).run P w:=by
 unfold rT at h;split at h
 ·rename_i i d fn ae av ab;simp only[bZ]at h;obtain⟨_,h⟩:=h;split at h
  ·rename_i m hm;simp only[bZ]at h;obtain⟨h1,h2⟩:=h;split at h2
   ·rename_i f ptr gE;simp only[bZ]at h2;obtain⟨h3,ay⟩:=h2;have h3:=Nat.eq_of_beq_eq_true h3;subst h3;have hp:m.path.toList=[]:=List.isEmpty_iff.1 h1;have Lp:(method (P.types.size+Made.depth) t v name).run P w= .ok (f,v) w:=by
     have gb:P.types.size+Made.depth=(P.types.size+Made.depth-1)+1:=by unfold Made.depth;omega
     rw[gb];unfold method;simp only[typeInfo,program,Sem.run_bind];cases d<;>cases ptr<;>first|(cases ay;done)|(simp[Sem.run,Result.andThen,ae,hm,hp,follow,gE,receiverAt,underlying,av,Place.get,program];done)
    unfold callMethod;simp only[Sem.run_bind,program];simp[Sem.run,Result.andThen,Lp]at Lp⊢
   ·cases h2
  ·cases h
 ·cases h
theorem abM{P:Program}{t:Nat}{name:String}{g:FuncId}(h:rT P t name g=true)(v:Value)(w:World):(nilAhead (P.types.size+Made.depth) t v name).run P w= .ok (some false) w:=by
 unfold rT at h;split at h
 ·rename_i i d fn ae av ab;simp only[bZ]at h;obtain⟨_,h⟩:=h;split at h
  ·rename_i m hm;simp only[bZ]at h;obtain⟨h1,h2⟩:=h;split at h2
   ·rename_i f ptr gE;simp only[bZ]at h2;obtain⟨_,ay⟩:=h2;have hp:m.path.toList=[]:=List.isEmpty_iff.1 h1;have gb:P.types.size+Made.depth=(P.types.size+Made.depth-1)+1:=by unfold Made.depth;omega
    rw[gb];unfold nilAhead;simp only[typeInfo,program,Sem.run_bind];cases d<;>cases ptr<;>first|(cases ay;done)|(simp[Sem.run,Result.andThen,ae,hm,hp,followBlind,gE,underlying,av,program];done)
   ·cases h2
  ·cases h
 ·cases h
section
variable{ι:bA}{fr aI:aT}{a:Act}{aS:Nat}{st st':au}{w:World}{o:Oper}{v:Value}{call:bQ}
theorem arB{name:String}{hv:List (Nat×FuncId)}{x:Operand}(J:cE X.aE x=true)(aN:(hv.all fun p=>rT X.P p.1 name p.2)=true)(ak:o.op= .nilCheck x)(ab:cB ι fr a aS)(hw:bt X ι st w)(h:MU name hv x call fr st= .ok v aI st'):
 aI=fr∧cg X ι w v st st' (execOp a.eval o):=by
 have bV:=ab.aj hw J;generalize cy:a.eval x=fh at bV;unfold MU at h;generalize qw:fr.aj x=j6 at h bV;cases j6 with
 |func f dR vT=>
  cases f with
  |method n=>
   have aY:cond (n==name) (match dR.toList with|[.iface t _]=>bl (vK t hv) (fun _=>aZ.ok (.func (.method n) dR vT) fr st) .no|_=>.no) .no= .ok v aI st':=h;clear h;cases hn:n==name with
   |false=>rw[hn]at aY;cases aY
   |true=>
    rw[hn]at aY;have hn:=eq_of_beq hn;subst hn;have h:(match dR.toList with|[.iface t _]=>bl (vK t hv) (fun _=>aZ.ok (.func (.method n) dR vT) fr st) .no|_=>.no)= .ok v aI st':=aY;split at h
    ·rename_i t u GA;obtain⟨g,aO,h⟩:=fy h (by simp);cases h;have CF:=List.all_eq_true.1 aN _ (I2 aO);cases bV with
     |func _ jb _ aq _ vs gE h1 h2 h3 ay=>
      rcases gE with⟨rfl,_⟩|⟨l,b,e,_⟩
      ·refine⟨rfl,cg.same (v':=.func (.method n) aq vs) hw ?_ (.func _ _ _ _ _ _ (.inl ⟨rfl,by simp⟩) h1 h2 h3 ay)⟩;have eJ:dR.size=1:=by rw[<-Array.length_toList,GA];rfl
       have aQ:=h2 0 (by omega) (by omega);have xi:dR[0]= .iface t u:=by
        have:dR.toList[0]? =some (.iface t u):=by rw[GA];rfl
        rw[Array.getElem?_toList,Array.getElem?_eq_getElem (by omega)]at this;exact Option.some.inj this
       rw[xi]at aQ;generalize C1:aq[0]=abl at aQ;cases aQ with
       |iface _ _ sf hu=>
       have aG:aq[0]? =some (.iface t sf):=by
        rw[Array.getElem?_eq_getElem (by omega),C1]
       have ha:=abM CF sf w;unfold execOp;rw[ak];simp only[cy,aG,program,Sem.run_bind];simp[Sem.run,Result.andThen,ha]at ha⊢
      ·cases e
    ·cases h
  |_=>cases h
 |_=>cases h
end
theorem amu{op:Op}{f:Operand}{ps:List Operand}(U:X.jQ op (.qn f ps)=true):∃g args ts,op= .defer {callee:=.value g,args:=args,argTypes:=ts}∧(bY X.aE f g&&jR X.aE ps args.toList)=true:=by
 cases op with
 |defer c=>
  obtain⟨callee,args,ts⟩:=c;cases callee with
  |value g=>exact⟨g,args,ts,rfl,U⟩
  |_=>cases U
 |_=>cases U
theorem amC{op:Op}{p:Operand}(U:X.jQ op (.qQ p)=true):∃q,op= .panic q∧bY X.aE p q=true:=by
 cases op with
 |panic q=>exact⟨q,rfl,U⟩
 |_=>cases U
section
variable{ι:bA}{fr aI:aT}{a:Act}{aS:Nat}{st st':au}{w:World}{o:Oper}{v:Value}{call:bQ}
theorem aot{x:dd}(U:X.jQ o.op x=true)(ab:cB ι fr a aS)(hw:bt X ι st w)(h:b2 call x fr st= .ok v aI st')(J:KV x=false)(hp:x.inPlace=true):
 aI=fr∧v9 X x ι w v st st' (execOp a.eval o):=by
 generalize ak:o.op=op at U;cases x with
 |sB k p=>
  cases op with
  |convert s t q=>
   have U:(bY X.aE p q&&(match X.P.underlying s,X.P.underlying t with|some _,some (.int k')=>decide (k=k')|_,_=>false))=true:=U;rw[bZ]at U;obtain⟨h1,h2⟩:=U;obtain⟨rfl,bj⟩:=cW h1;split at h2
   ·rename_i Ea k' ah aN;have e:=of_decide_eq_true h2;subst e;exact e8 (aq1 (call:=call) bj ak ah aN ab hw h) rfl
   ·cases h2
  |_=>cases U
 |wj p=>
  cases op with
  |convert s t q=>
   have U:(bY X.aE p q&&(match X.P.underlying s,X.P.underlying t with|some _,some .string=>true|_,_=>false))=true:=U;rw[bZ]at U;obtain⟨h1,h2⟩:=U;obtain⟨rfl,bj⟩:=cW h1;split at h2
   ·rename_i Ea ah aN;exact e8 (aq0 (call:=call) bj ak ah aN ab hw h) rfl
   ·cases h2
  |_=>cases U
 |yS p=>
  cases op with
  |convert s t q=>
   have U:(bY X.aE p q&&(match X.P.underlying s,X.P.underlying t with|some (.slice e),some .string=>(match X.P.underlying e with|some (.int .u8)=>true|_=>false)|_,_=>false))=true:=U;rw[bZ]at U;obtain⟨h1,h2⟩:=U;obtain⟨rfl,bj⟩:=cW h1;split at h2
   ·rename_i e ah aN;split at h2
    ·rename_i he;exact e8 (aqZ (call:=call) bj ak ah aN he ab hw h) rfl
    ·cases h2
   ·cases h2
  |_=>cases U
 |uv e p=>
  cases op with
  |convert s t q=>
   have U:(bY X.aE p q&&(match X.P.underlying s,X.P.underlying t with|some .string,some (.slice cK)=>Nat.beq e cK&&(match X.P.underlying cK,gw X.P cK with|some (.int .u8),some 1=>true|_,_=>false)|_,_=>false))=true:=U;rw[bZ]at U;obtain⟨h1,h2⟩:=U;obtain⟨rfl,bj⟩:=cW h1;split at h2
   ·rename_i cK ah aN;rw[bZ]at h2;have aA:=eN h2.1;subst aA;have h3:=h2.2;split at h3
    ·rename_i he ax;obtain⟨i,ae,oK⟩:=mm ax;exact yG (aq6 (call:=call) bj ak ah aN he ae oK ab hw h) rfl
    ·cases h3
   ·cases h2
  |_=>cases U
 |Hc t p=>
  cases op with
  |makeInterface gV q=>
   have U:(Nat.beq t gV&&bY X.aE p q&&(match X.P.underlying gV with|some (.interface _)=>false|some _=>true|none=>false))=true:=U;simp only[bZ]at U;obtain⟨⟨h1,h2⟩,h3⟩:=U;have aA:=eN h1;subst aA;obtain⟨rfl,bj⟩:=cW h2;split at h3
   ·cases h3
   ·rename_i d hne av;exact e8 (aru (call:=call) bj ak av (fun ms e=>hne ms (by rw[e])) ab hw h) rfl
   ·cases h3
  |_=>cases U
 |ti fn p c=>
  cases fn with
  |func f=>
   cases op with
   |makeFunc qt q d=>
    cases qt with
    |func g=>
     have U:(Nat.beq f g&&jR X.aE p q.toList&&jR X.aE c d.toList)=true:=U;simp only[bZ]at U;obtain⟨⟨h1,h2⟩,h3⟩:=U;have aA:=eN h1;subst aA;obtain⟨rfl,bj⟩:=pY h2;obtain⟨rfl,bM⟩:=pY h3;exact e8 (Zw (call:=call) (by simp) bj bM ak ab hw h) rfl
    |_=>cases U
   |_=>cases U
  |method f=>
   cases op with
   |makeFunc qt q d=>
    cases qt with
    |method g=>
     have U:(f==g&&jR X.aE p q.toList&&jR X.aE c d.toList)=true:=U;simp only[bZ]at U;obtain⟨⟨h1,h2⟩,h3⟩:=U;have aA:=eq_of_beq h1;subst aA;obtain⟨rfl,bj⟩:=pY h2;obtain⟨rfl,bM⟩:=pY h3;exact e8 (Zw (call:=call) (by simp) bj bM ak ab hw h) rfl
    |_=>cases U
   |_=>cases U
  |_=>cases op<;>cases U
 |Hn name hv p=>
  cases op with
  |nilCheck q=>
   have U:(bY X.aE p q&&hv.all (fun z=>rT X.P z.1 name z.2))=true:=U;rw[bZ]at U;obtain⟨rfl,h2⟩:=cW U.1;exact e8 (arB (call:=call) h2 U.2 ak ab hw h) rfl
  |_=>cases U
 |oO e bW z l c=>
  cases op with
  |makeSlice t l' bJ=>
   have U:(bY X.aE l l'&&bY X.aE c bJ&&(match X.P.underlying t with
    |some (.slice el)=>Nat.beq e el&&(match X.P.info? el with
     |some i=>Nat.beq bW i.bytes&& !Nat.beq i.size 0&&(match i.zero with|some v=>lh z v.cells.toList&&mq z&&Nat.beq v.cells.toList.length i.size|none=>false)
     |none=>false)
    |_=>false))=true:=U
   simp only[bZ]at U;obtain⟨⟨h1,h2⟩,h3⟩:=U;obtain⟨rfl,bj⟩:=cW h1;obtain⟨rfl,bM⟩:=cW h2;split at h3
   ·rename_i el hu;rw[bZ]at h3;obtain⟨ay,aY⟩:=h3;have aA:=eN ay;subst aA;split at aY
    ·rename_i i ae;simp only[bZ]at aY;obtain⟨⟨b7,dn⟩,hr⟩:=aY;have e2:=eN b7;subst e2;split at hr
     ·rename_i so ax;simp only[bZ]at hr;obtain⟨⟨gD,sN⟩,F0⟩:=hr;have b0:=yp _ _ gD;subst b0;exact yG (arv (call:=call) bj bM ak hu ae ax (eN F0) (Hh dn) sN ab hw h) rfl
     ·cases hr
    ·cases aY
   ·cases h3
  |_=>cases U
 |sa p bb ae=>
  cases op with
  |slice t q qL ea oP=>
   cases oP with
   |none=>
    have U:(bY X.aE p q&&lJ X.aE bb qL&&lJ X.aE ae ea&&(match X.P.underlying t with|some .string=>true|_=>false))=true:=U;simp only[bZ]at U;obtain⟨⟨⟨h1,h2⟩,h3⟩,ay⟩:=U;obtain⟨rfl,bj⟩:=cW h1;obtain⟨rfl,bM⟩:=vr h2;obtain⟨rfl,dK⟩:=vr h3;split at ay
    ·rename_i hu;exact e8 (arH (call:=call) bj bM dK ak hu ab hw h) rfl
    ·cases ay
   |some m=>cases U
  |_=>cases U
 |AQ n s p bb ae eU=>
  cases op with
  |slice t q qL ea oP=>
   have U:(bY X.aE p q&&lJ X.aE bb qL&&lJ X.aE ae ea&&lJ X.aE eU oP&&(oP.isNone||ea.isSome)&&
    (match X.P.underlying t with|some (.array b8 e)=>Nat.beq n b8&&(match gw X.P e with|some br=>Nat.beq s br|none=>false)|_=>false))=true:=U
   simp only[bZ]at U;obtain⟨⟨⟨⟨⟨h1,h2⟩,h3⟩,ay⟩,aY⟩,b7⟩:=U;obtain⟨rfl,bj⟩:=cW h1;obtain⟨rfl,bM⟩:=vr h2;obtain⟨rfl,dK⟩:=vr h3;obtain⟨rfl,tb⟩:=vr ay;have Lr:eU≠none->ae≠none:=by
    intro hm he;subst he;cases eU
    ·exact hm rfl
    ·simp at aY
   split at b7
   ·rename_i b8 e hu;rw[bZ]at b7;obtain⟨dn,hr⟩:=b7;have aA:=eN dn;subst aA;split at hr
    ·rename_i br ah;obtain⟨dk,gF,rfl⟩:=mm ah;have e2:=eN hr;subst e2;exact e8 (arF (call:=call) bj bM dK tb Lr ak hu gF ab hw h) rfl
    ·cases hr
   ·cases b7
  |_=>cases U
 |nE s p bb ae eU=>
  cases op with
  |slice t q qL ea oP=>
   have U:(bY X.aE p q&&lJ X.aE bb qL&&lJ X.aE ae ea&&lJ X.aE eU oP&&(oP.isNone||ea.isSome)&&
    (match X.P.underlying t with|some (.slice e)=>(match gw X.P e with|some br=>Nat.beq s br|none=>false)|_=>false))=true:=U
   simp only[bZ]at U;obtain⟨⟨⟨⟨⟨h1,h2⟩,h3⟩,ay⟩,aY⟩,b7⟩:=U;obtain⟨rfl,bj⟩:=cW h1;obtain⟨rfl,bM⟩:=vr h2;obtain⟨rfl,dK⟩:=vr h3;obtain⟨rfl,tb⟩:=vr ay;have Lr:eU≠none->ae≠none:=by
    intro hm he;subst he;cases eU
    ·exact hm rfl
    ·simp at aY
   split at b7
   ·rename_i e hu;split at b7
    ·rename_i br ah;obtain⟨dk,gF,rfl⟩:=mm ah;have e2:=eN b7;subst e2;exact e8 (arG (call:=call) bj bM dK tb Lr ak hu gF ab hw h) rfl
    ·cases b7
   ·cases b7
  |_=>cases U
 |wD off p=>
  cases op with
  |fieldAddr t q f=>
   have U:(bY X.aE p q&&(match X.P.underlying t with
    |some (.struct fields)=>(match fields[f]? with|some fd=>Nat.beq off fd.offset&&(match gw X.P fd.type with|some s=> !Nat.beq s 0|none=>false)|none=>false)
    |_=>false))=true:=U
   rw[bZ]at U;obtain⟨h1,h2⟩:=U;obtain⟨rfl,bj⟩:=cW h1;split at h2
   ·rename_i fields hu;split at h2
    ·rename_i fd sU;rw[bZ]at h2;obtain⟨h3,ay⟩:=h2;have aA:=eN h3;subst aA;split at ay
     ·rename_i s ah;obtain⟨i,ae,rfl⟩:=mm ah;exact e8 (ard (call:=call) bj ak hu sU ae (Hh ay) ab hw h) rfl
     ·cases ay
    ·cases h2
   ·cases h2
  |_=>cases U
 |oB off a4 hx p=>
  cases op with
  |field t q f=>
   have U:(bY X.aE p q&&(match X.P.underlying t with
    |some (.struct fields)=>(match fields[f]? with|some fd=>Nat.beq off fd.offset&&(match gw X.P fd.type,o4 X.P fd.type with|some s,some g=>Nat.beq a4 s&&(hx==g)|_,_=>false)|none=>false)
    |_=>false))=true:=U
   rw[bZ]at U;obtain⟨h1,h2⟩:=U;obtain⟨rfl,bj⟩:=cW h1;split at h2
   ·rename_i fields hu;split at h2
    ·rename_i fd sU;rw[bZ]at h2;obtain⟨h3,ay⟩:=h2;have aA:=eN h3;subst aA;split at ay
     ·rename_i s g ah aO;rw[bZ]at ay;obtain⟨i,ae,rfl⟩:=mm ah;obtain⟨d,av,e⟩:=Bi aO;have e2:=eN ay.1;subst e2;have b0:hx=qj d:=by rw[e];simpa using ay.2
      subst b0;exact e8 (are (call:=call) bj ak hu sU av ae ab hw h) rfl
     ·cases ay
    ·cases h2
   ·cases h2
  |_=>cases U
 |s6 n a4 p i=>
  cases op with
  |indexAddr t q j=>
   have U:(bY X.aE p q&&bY X.aE i j&&(match X.P.underlying t with|some (.array b8 e)=>Nat.beq n b8&&(match gw X.P e with|some s=>Nat.beq a4 s|none=>false)|_=>false))=true:=U;simp only[bZ]at U;obtain⟨⟨h1,h2⟩,h3⟩:=U;obtain⟨rfl,bj⟩:=cW h1;obtain⟨rfl,bM⟩:=cW h2;split at h3
   ·rename_i b8 e hu;rw[bZ]at h3;obtain⟨ay,aY⟩:=h3;have aA:=eN ay;subst aA;split at aY
    ·rename_i s ah;obtain⟨dk,gF,rfl⟩:=mm ah;have e2:=eN aY;subst e2;exact e8 (arf (call:=call) bj bM ak hu gF ab hw h) rfl
    ·cases aY
   ·cases h3
  |_=>cases U
 |lD a4 p i=>
  cases op with
  |indexAddr t q j=>
   have U:(bY X.aE p q&&bY X.aE i j&&(match X.P.underlying t with|some (.slice e)=>(match gw X.P e with|some s=>Nat.beq a4 s|none=>false)|_=>false))=true:=U;simp only[bZ]at U;obtain⟨⟨h1,h2⟩,h3⟩:=U;obtain⟨rfl,bj⟩:=cW h1;obtain⟨rfl,bM⟩:=cW h2;split at h3
   ·rename_i e hu;split at h3
    ·rename_i s ah;obtain⟨dk,gF,rfl⟩:=mm ah;have e2:=eN h3;subst e2;exact e8 (arh (call:=call) bj bM ak hu gF ab hw h) rfl
    ·cases h3
   ·cases h3
  |_=>cases U
 |u9 p i=>
  cases op with
  |index t q j=>
   have U:(bY X.aE p q&&bY X.aE i j&&(match X.P.underlying t with|some .string=>true|_=>false))=true:=U;simp only[bZ]at U;obtain⟨⟨h1,h2⟩,h3⟩:=U;obtain⟨rfl,bj⟩:=cW h1;obtain⟨rfl,bM⟩:=cW h2;split at h3
   ·rename_i hu;exact e8 (arl (call:=call) bj bM ak hu ab hw h) rfl
   ·cases h3
  |_=>cases U
 |GL n a4 hx p i=>
  cases op with
  |index t q j=>
   have U:(bY X.aE p q&&bY X.aE i j&&(match X.P.underlying t with|some (.array b8 e)=>Nat.beq n b8&&(match gw X.P e,o4 X.P e with|some s,some g=>Nat.beq a4 s&&(hx==g)|_,_=>false)|_=>false))=true:=U;simp only[bZ]at U;obtain⟨⟨h1,h2⟩,h3⟩:=U;obtain⟨rfl,bj⟩:=cW h1;obtain⟨rfl,bM⟩:=cW h2;split at h3
   ·rename_i b8 e hu;rw[bZ]at h3;obtain⟨ay,aY⟩:=h3;have aA:=eN ay;subst aA;split at aY
    ·rename_i s g ah aO;rw[bZ]at aY;obtain⟨dk,gF,rfl⟩:=mm ah;obtain⟨d,av,e⟩:=Bi aO;have e2:=eN aY.1;subst e2;have b0:hx=qj d:=by rw[e];simpa using aY.2
     subst b0;exact e8 (ark (call:=call) bj bM ak hu av gF ab hw h) rfl
    ·cases aY
   ·cases h3
  |_=>cases U
 |I4 t z ok p=>
  cases op with
  |typeAssert q kv gV vn=>
   have U:(bY X.aE p q&&Nat.beq t gV&&(ok==vn)&&(match X.P.underlying gV with|some (.interface _)=>false|some _=>true|none=>false)&&(match q4 X.P gV with|some v=>dD z v&&jX z|none=>false))=true:=U;simp only[bZ]at U;obtain⟨⟨⟨⟨h1,h2⟩,h3⟩,ay⟩,aY⟩:=U;obtain⟨rfl,bj⟩:=cW h1;have aA:=eN h2;subst aA;have e2:ok=vn:=by simpa using h3
   subst e2;split at ay
   ·cases ay
   ·rename_i d hne av;split at aY
    ·rename_i so qF;rw[bZ]at aY;have b0:=mV _ _ aY.1;subst b0;obtain⟨i,ae,ax⟩:=Ew qF;exact e8 (arJ (call:=call) bj ak av (fun ms e=>hne ms (by rw[e])) ae ax aY.2 ab hw h) rfl
    ·cases aY
   ·cases ay
  |_=>cases U
 |wC p i=>
  cases op with
  |extract q j=>
   have U:(bY X.aE p q&&Nat.beq i j)=true:=U;rw[bZ]at U;obtain⟨rfl,bj⟩:=cW U.1;have aA:=eN U.2;subst aA;exact e8 (arc (call:=call) bj ak ab hw h) rfl
  |_=>cases U
 |Fe p=>
  cases op with
  |convert s t q=>
   have U:(bY X.aE p q&&(match X.P.underlying s,X.P.underlying t with|some (.pointer e),some .unsafePointer=>(match gw X.P e with|some n=> !Nat.beq n 0|none=>false)|_,_=>false))=true:=U;rw[bZ]at U;obtain⟨h1,h2⟩:=U;obtain⟨rfl,bj⟩:=cW h1;split at h2
   ·rename_i e ah aN;split at h2
    ·rename_i n hn;obtain⟨i,ae,rfl⟩:=mm hn;exact e8 (aq4 (call:=call) bj ak ah aN ae (Hh h2) ab hw h) rfl
    ·cases h2
   ·cases h2
  |_=>cases U
 |Fg e n p=>
  cases op with
  |convert s t q=>
   have U:(bY X.aE p q&&(match X.P.underlying s,X.P.underlying t with|some .unsafePointer,some (.pointer cK)=>Nat.beq e cK&&(match gw X.P cK with|some m=>Nat.beq n m&& !Nat.beq m 0|none=>false)|_,_=>false))=true:=U;rw[bZ]at U;obtain⟨h1,h2⟩:=U;obtain⟨rfl,bj⟩:=cW h1;split at h2
   ·rename_i cK ah aN;rw[bZ]at h2;obtain⟨h3,ay⟩:=h2;have aA:=eN h3;subst aA;split at ay
    ·rename_i m hm;rw[bZ]at ay;obtain⟨i,ae,rfl⟩:=mm hm;have e2:=eN ay.1;subst e2;exact e8 (aq7 (call:=call) bj ak ah aN ae (Hh ay.2) ab hw h) rfl
    ·cases ay
   ·cases h2
  |_=>cases U
 |call f as=>cases hp
 |inv _ _ _=>cases hp
 |vF=>cases hp
 |qn f as=>cases hp
 |qQ p=>cases hp
 |oN p=>
  obtain⟨q,t,rfl,hj⟩:=amx U;rw[bZ]at hj;obtain⟨rfl,bj⟩:=cW hj.1;have h2:=hj.2;split at h2
  ·rename_i e hu;exact e8 (arp (call:=call) bj ak hu ab hw h) rfl
  ·cases h2
 |te p=>
  obtain⟨q,t,rfl,hj⟩:=amy U;rw[bZ]at hj;obtain⟨rfl,bj⟩:=cW hj.1;have h2:=hj.2;split at h2
  ·rename_i hu;exact e8 (arq (call:=call) bj ak hu ab hw h) rfl
  ·cases h2
 |xv n=>
  obtain⟨q,t,rfl,hj⟩:=amw U;split at hj
  ·rename_i m d hu;have e:=eN hj;subst e;exact e8 (arn (call:=call) ak hu hw h) rfl
  ·rename_i u hu;split at hj
   ·rename_i m d CU;have e:=eN hj;subst e;exact e8 (aro (call:=call) ak hu CU hw h) rfl
   ·cases hj
  ·cases hj
 |app e a4 bW s p=>
  obtain⟨br,q,t,u,rfl,hj⟩:=ams U;simp only[bZ]at hj;obtain⟨⟨h1,h2⟩,h3⟩:=hj;obtain⟨rfl,bj⟩:=cW h1;obtain⟨rfl,bM⟩:=cW h2;split at h3
  ·rename_i el d hu av;simp only[bZ]at h3;obtain⟨⟨ay,aY⟩,b7⟩:=h3;have aA:=eN ay;subst aA;split at b7
   ·rename_i i ae;simp only[bZ]at b7;obtain⟨⟨dn,hr⟩,gD⟩:=b7;have e2:=eN dn;have b0:=eN hr;subst e2 b0;split at gD
    ·rename_i so ax;exact vS (aqT (call:=call) bj bM ak hu av (fun k e=>by subst e;cases aY) ae ax (eN gD) ab hw h) rfl rfl
    ·cases gD
   ·cases b7
  ·cases h3
 |eU p ps=>
  obtain⟨q,dj,ts,rfl,hj⟩:=amA U;rw[bZ]at hj;obtain⟨rfl,bj⟩:=cW hj.1;obtain⟨rfl,bM⟩:=pY hj.2;exact e8 (arz (call:=call) (fun y aG=>by rcases List.mem_cons.1 aG with rfl|aG;exact bj;exact bM y aG) ak ab hw h) rfl
 |xE p ps=>
  obtain⟨q,dj,ts,rfl,hj⟩:=amz U;rw[bZ]at hj;obtain⟨rfl,bj⟩:=cW hj.1;obtain⟨rfl,bM⟩:=pY hj.2;exact e8 (arx (call:=call) (fun y aG=>by rcases List.mem_cons.1 aG with rfl|aG;exact bj;exact bM y aG) ak ab hw h) rfl
 |qm a4 d s=>
  obtain⟨h5,br,t,u,rfl,hj⟩:=amt U;simp only[bZ]at hj;obtain⟨⟨h1,h2⟩,h3⟩:=hj;obtain⟨rfl,bj⟩:=cW h1;obtain⟨rfl,bM⟩:=cW h2;split at h3
  ·rename_i e hu;split at h3
   ·rename_i n hn;obtain⟨i,ae,rfl⟩:=mm hn;have e2:=eN h3;subst e2;exact vS (aq5 (call:=call) bj bM ak hu ae ab hw h) rfl rfl
   ·cases h3
  ·cases h3
 |Eb p=>
  obtain⟨q,t,rfl,hj⟩:=amE U;obtain⟨rfl,bj⟩:=cW hj;exact e8 (arE (call:=call) bj ak ab hw h) rfl
 |vO e p n=>
  obtain⟨q,m,t,u,rfl,hj⟩:=amF U;simp only[bZ]at hj;obtain⟨⟨h1,h2⟩,h3⟩:=hj;obtain⟨rfl,bj⟩:=cW h1;obtain⟨rfl,bM⟩:=cW h2;split at h3
  ·rename_i cK hu;rw[bZ]at h3;obtain⟨ay,aY⟩:=h3;have aA:=eN ay;subst aA;split at aY
   ·rename_i ax;obtain⟨i,ae,oK⟩:=mm ax;exact vS (arL (call:=call) bj bM ak hu ae oK ab hw h) rfl rfl
   ·cases aY
  ·cases h3
 |kb p c=>
  obtain⟨f,q,d,ts,rfl,hj⟩:=amv U;simp only[bZ]at hj;obtain⟨⟨h1,h2⟩,h3⟩:=hj;obtain⟨rfl,bj⟩:=cW h1;obtain⟨rfl,bM⟩:=cW h2;exact e8 (ari (call:=call) bj bM h3 ak ab hw h) rfl
 |jP p=>
  obtain⟨f,q,ts,rfl,hj⟩:=amB U;rw[bZ]at hj;obtain⟨rfl,bj⟩:=cW hj.1;exact e8 (arC (call:=call) bj hj.2 ak ab hw h) rfl
 |ext y=>exact arb (by rw[ak];exact U) ab hw h
 |_=>exact absurd J.symm Bool.false_ne_true
theorem MP{x:dd}(U:X.jQ o.op x=true)(ab:cB ι fr a aS)(hw:bt X ι st w)(h:b2 call x fr st= .ok v aI st')(hp:x.inPlace=true):
 aI=fr∧v9 X x ι w v st st' (execOp a.eval o):=by
 cases J:KV x
 ·exact aot U ab hw h J hp
 ·exact aos U ab hw h J
end
end Go.an
namespace Go.an
structure dI where
 fn:FuncId
 kind:CallKind
 b4:Option Nat
def dI.at(b:dI)(a:Act)(todo:List Item):Frame:=
 {fn:=b.fn,tmps:=a.tmps,todo:=todo,defers:=a.defers,mode:=.run,kind:=b.kind,roundOf:=b.b4}
theorem eval_at(b:dI)(a:Act)(todo:List Item):(b.at a todo).eval=a.eval:=by
 funext x;cases x<;>rfl
section
variable{P:Program}{b:dI}{a:Act}{k:List Item}{cs:List Frame}{w:World}{ops:Array Oper}
theorem asm:step P (lone (b.at a (.code .skip::k)) cs w)= .next (lone (b.at a k) cs w):=step_lone_go (by simp[stepG,stepG.exec,dI.at])
theorem ar5{l:Nat}:step P (lone (b.at a (.code (.label l)::k)) cs w)= .next (lone (b.at a k) cs w):=step_lone_go (by simp[stepG,stepG.exec,dI.at])
theorem ar2{id:Nat}:step P (lone (b.at a (.inBlock id::k)) cs w)= .next (lone (b.at a k) cs w):=step_lone_go (by simp[stepG,stepG.exec,dI.at])
theorem ar4{c:Code}:step P (lone (b.at a (.inScope c::k)) cs w)= .next (lone (b.at a k) cs w):=step_lone_go (by simp[stepG,stepG.exec,dI.at])
theorem asl{x y:Code}:step P (lone (b.at a (.code (.seq x y)::k)) cs w)= .next (lone (b.at a (.code x:: .code y::k)) cs w):=step_lone_go (by simp[stepG,stepG.exec,dI.at])
theorem ZK{c:Operand}{x y:Code}{t:Bool}(h:a.eval c= .bool t):
 step P (lone (b.at a (.code (.cond c x y)::k)) cs w)= .next (lone (b.at a (.code (if t then x else y)::k)) cs w):=
 step_lone_go (by
  have:=eval_at b a (.code (.cond c x y)::k);simp only[dI.at]at this;simp[stepG,stepG.exec,dI.at,this,h])
theorem arY{id:Nat}{c:Code}:step P (lone (b.at a (.code (.block id c)::k)) cs w)= .next (lone (b.at a (.code c:: .inBlock id::k)) cs w):=step_lone_go (by simp[stepG,stepG.exec,dI.at])
theorem ar6{c:Code}:step P (lone (b.at a (.code (.loop c)::k)) cs w)= .next (lone (b.at a (.code c:: .inLoop c::k)) cs w):=step_lone_go (by simp[stepG,stepG.exec,dI.at])
theorem ar3{c:Code}:step P (lone (b.at a (.inLoop c::k)) cs w)= .next (lone (b.at a (.code c:: .inLoop c::k)) cs w):=step_lone_go (by simp[stepG,stepG.exec,dI.at])
theorem asj{c:Code}:step P (lone (b.at a (.code (.scope c)::k)) cs w)= .next (lone (b.at a (.code c:: .inScope c::k)) cs w):=step_lone_go (by simp[stepG,stepG.exec,dI.at])
theorem ar1{id:Nat}{k':List Item}(h:exitTo id k=some k'):step P (lone (b.at a (.code (.exit id)::k)) cs w)= .next (lone (b.at a k') cs w):=step_lone_go (by simp[stepG,stepG.exec,dI.at,h])
theorem asb{id:Nat}:step P (lone (b.at a (.code (.region id ops false)::k)) cs w)= .next (lone (b.at a (.inRegion ops (List.range ops.size)::k)) cs w):=step_lone_go (by simp[stepG,stepG.exec,dI.at])
theorem asc{id:Nat}:step P (lone (b.at a (.code (.region id ops true)::k)) cs w)=
 .next (lone (b.at a (.inRegion ops (Region.schedule (P.follows .mixedOrders) ops (w.tape w.drawn (.order b.fn id)))::k)) cs {w with drawn:=w.drawn+1}):=
 step_lone_go (by simp[stepG,stepG.exec,dI.at,choose,Sem.run,Question.forced,Question.cut])
theorem ZL:step P (lone (b.at a (.inRegion ops []::k)) cs w)= .next (lone (b.at a k) cs w):=step_lone_go (by simp[stepG,stepG.exec,dI.at])
theorem finish_at(i:Nat)(rest:List Nat)(v:Value){o:Oper}(ak:ops[i]? =some o):
 (b.at a (.inRegion ops (i::rest)::k)).finish v=b.at (a.put o.dst v) (.inRegion ops rest::k):=by
 cases h:o.dst<;>simp[Frame.finish,dI.at,Act.put,ak,h]
theorem I0{i:Nat}{rest:List Nat}{o:Oper}(ak:ops[i]? =some o)(h:Region.wanted o (yielded ops a.tmps)=false):
 step P (lone (b.at a (.inRegion ops (i::rest)::k)) cs w)= .next (lone (b.at (a.put o.dst undef) (.inRegion ops rest::k)) cs w):=by
 rw[<-finish_at i rest undef ak];exact step_lone_go (by simp only[dI.at];simp[stepG,stepG.exec,ak,h])
theorem vJ{i:Nat}{rest:List Nat}{o:Oper}(ak:ops[i]? =some o)(hw:Region.wanted o (yielded ops a.tmps)=true)(av:b.b4=none∨∀c,o.op≠.defer c):
 stepG P true {frame:=b.at a (.inRegion ops (i::rest)::k),callers:=cs,status:=.running,dying:=none} w=
  stepG.apply P true (b.at a (.inRegion ops (i::rest)::k)) cs none (execOp a.eval o) w:=by
 have he:=eval_at b a (.inRegion ops (i::rest)::k);simp only[dI.at]at he;simp only[stepG,stepG.exec,dI.at,ak,Option.map_some,hw,Option.getD_some,if_true,stepG.oper,Frame.oper?];rcases av with av|av
 ·simp only[av]at he⊢;rw[he]
 ·cases aQ:b.b4 with
  |none=>simp only[aQ]at he ⊢;rw[he]
  |some l=>
   rw[aQ]at he;cases cN:o.op<;>simp only[]<;>first|(exact absurd cN (av _))|(rw[he])
theorem NY{i:Nat}{rest:List Nat}{o:Oper}{v:Value}{w':World}(ak:ops[i]? =some o)(hw:Region.wanted o (yielded ops a.tmps)=true)(av:b.b4=none∨∀c,o.op≠.defer c)
 (aQ:(execOp a.eval o).run P w= .ok (.value v) w'):step P (lone (b.at a (.inRegion ops (i::rest)::k)) cs w)= .next (lone (b.at (a.put o.dst v) (.inRegion ops rest::k)) cs w'):=by
 refine step_lone_go ?_;rw[vJ ak hw av,<-finish_at i rest v ak];simp[stepG.apply,aQ]
theorem ar8{i:Nat}{rest:List Nat}{o:Oper}{w':World}(ak:ops[i]? =some o)(hw:Region.wanted o (yielded ops a.tmps)=true)(av:b.b4=none∨∀c,o.op≠.defer c)
 (aQ:(execOp a.eval o).run P w= .ok .skip w'):step P (lone (b.at a (.inRegion ops (i::rest)::k)) cs w)= .next (lone (b.at (a.put o.dst undef) (.inRegion ops rest::k)) cs w'):=by
 refine step_lone_go ?_;rw[vJ ak hw av,<-finish_at i rest undef ak];simp[stepG.apply,aQ]
theorem ar7{i:Nat}{rest:List Nat}{o:Oper}{d:Deferred}{w':World}(ak:ops[i]? =some o)(hw:Region.wanted o (yielded ops a.tmps)=true)(av:b.b4=none)
 (aQ:(execOp a.eval o).run P w= .ok (.defer d) w'):step P (lone (b.at a (.inRegion ops (i::rest)::k)) cs w)= .next (lone (b.at ({a with defers:=d::a.defers}.put o.dst undef) (.inRegion ops rest::k)) cs w'):=by
 refine step_lone_go ?_;rw[vJ ak hw (.inl av)];have:=finish_at (b:=b) (a:={a with defers:=d::a.defers}) (k:=k) i rest undef ak;rw[<-this];simp[stepG.apply,aQ,dI.at]
theorem IY{i:Nat}{rest:List Nat}{o:Oper}{f:FuncId}{args:Array Value}{w':World}(ak:ops[i]? =some o)(hw:Region.wanted o (yielded ops a.tmps)=true)(av:b.b4=none∨∀c,o.op≠.defer c)
 (aQ:(execOp a.eval o).run P w= .ok (.enter f args) w'):step P (lone (b.at a (.inRegion ops (i::rest)::k)) cs w)= .next (lone (Frame.enter P f args .normal) (b.at a (.inRegion ops (i::rest)::k)::cs) w'):=by
 refine step_lone_go ?_;rw[vJ ak hw av];simp[stepG.apply,aQ,dI.at]
theorem IZ{i:Nat}{rest:List Nat}{o:Oper}{l:Nat}{f:FuncId}{ts:Array Value}{du body:Code}{w':World}(ak:ops[i]? =some o)(hw:Region.wanted o (yielded ops a.tmps)=true)(av:b.b4=none∨∀c,o.op≠.defer c)
 (aQ:(execOp a.eval o).run P w= .ok (.round l f ts du body) w'):step P (lone (b.at a (.inRegion ops (i::rest)::k)) cs w)= .next (lone (Frame.round l f ts du body .normal) (b.at a (.inRegion ops (i::rest)::k)::cs) w'):=by
 refine step_lone_go ?_;rw[vJ ak hw av];simp[stepG.apply,aQ,dI.at]
theorem asa{i:Nat}{rest:List Nat}{o:Oper}{w':World}(ak:ops[i]? =some o)(hw:Region.wanted o (yielded ops a.tmps)=true)(av:b.b4=none)
 (aQ:(execOp a.eval o).run P w= .ok .recover w'):
 step P (lone (b.at a (.inRegion ops (i::rest)::k)) cs w)=match tryRecover (b.at a (.inRegion ops (i::rest)::k)) cs with
  |some (v,cs')=>.next (lone (b.at (a.put o.dst v) (.inRegion ops rest::k)) cs' w')
  |none=>.next (lone (b.at (a.put o.dst .nilIface) (.inRegion ops rest::k)) cs w'):=by
 have CQ:(b.at a (.inRegion ops (i::rest)::k)).roundOf=none:=av;cases aN:tryRecover (b.at a (.inRegion ops (i::rest)::k)) cs with
 |none=>
  refine step_lone_go ?_;rw[vJ ak hw (.inl av),<-finish_at i rest _ ak];simp[stepG.apply,aQ,CQ,aN]
 |some p=>
  obtain⟨v,cs'⟩:=p;refine step_lone_go ?_;rw[vJ ak hw (.inl av),<-finish_at i rest _ ak];simp[stepG.apply,aQ,CQ,aN]
theorem ar9{i:Nat}{rest:List Nat}{o:Oper}{v:Value}{w':World}(ak:ops[i]? =some o)(hw:Region.wanted o (yielded ops a.tmps)=true)(av:b.b4=none∨∀c,o.op≠.defer c)
 (aQ:(execOp a.eval o).run P w= .halt (.panic v) w'):step P (lone (b.at a (.inRegion ops (i::rest)::k)) cs w)= .next (lone {b.at a (.inRegion ops (i::rest)::k)with mode:=.panicking [{v,recovered:=false}]} cs w'):=by
 refine step_lone_go ?_;rw[vJ ak hw av];simp[stepG.apply,aQ,dI.at,Frame.raise]
end
inductive Jq(P:Program)(j6:Value)(args:List Value)(w:World):Frame->Prop
 |enter (f:FuncId) (as:Array Value) (h:((do let d<-Deferred.ofValue j6 args.toArray;invoke d.target d.args):Sem Next).run P w= .ok (.enter f as) w):Jq P j6 args w (Frame.enter P f as .normal)
 |round (l:Nat) (f:FuncId) (ts:Array Value) (du body:Code) (h:((do let d<-Deferred.ofValue j6 args.toArray;invoke d.target d.args):Sem Next).run P w= .ok (.round l f ts du body) w):Jq P j6 args w (Frame.round l f ts du body .normal)
def A7(X:Ctx)(ι:bA)(w:World)(fH c:Frame)(cs:List Frame):dJ->Prop
 |.ret v st' _=>∃aV v' w',bq aV v v'∧bt X aV st' w'∧fF ι aV w w'∧Steps X.P (lone fH (c::cs) w) (lone (c.finish v') cs w')
 |.bk v st' _=>∃aV v' w',bq aV v v'∧bt X aV st' w'∧fF ι aV w w'∧Steps X.P (lone fH (c::cs) w) (lone (c.raise [{v:=v',recovered:=false}]) cs w')
 |.no=>True
def mW(X:Ctx)(call:bQ):Prop:=
 ∀ι j6 args st FO jG w,bq ι j6 FO->bN ι args jG->bt X ι st w->call j6 args none st≠.no->
  ∃fH,Jq X.P FO jG w fH∧∀c cs,A7 X ι w fH c cs (call j6 args none st)
def kR(b:dI)(bk:Option Value)(ι:bA)(bz:Bool->List Frame):Prop:=
 match bk with
 |none=>∀(F:Frame) (ew:Bool),F.kind=b.kind->tryRecover F (bz ew)=none
 |some r5=>∃nu,bq ι r5 nu∧(∀F:Frame,F.kind=b.kind->tryRecover F (bz false)=some (nu,bz true))∧∀F:Frame,F.kind=b.kind->tryRecover F (bz true)=none
theorem kR.mono{b:dI}{bk:Option Value}{ι aV:bA}{bz:Bool->List Frame}(hle:ι.le aV)(h:kR b bk ι bz):kR b bk aV bz:=by
 cases bk with
 |none=>exact h
 |some r5=>obtain⟨nu,h1,h2,h3⟩:=h;exact⟨nu,h1.mono hle,h2,h3⟩
def qf(ι:bA)(x:Option Nat)(y:Option Nat):Prop:=(x=none∧y=none)∨∃l l',x=some l∧y=some l'∧ι l=some ⟨l',0,0,id⟩
theorem qf.mono{ι aV:bA}(hle:ι.le aV){x y:Option Nat}(h:qf ι x y):qf aV x y:=by
 rcases h with h|⟨l,l',h1,h2,h3⟩
 ·exact .inl h
 ·exact .inr ⟨l,l',h1,h2,hle _ _ h3⟩
variable{X:Ctx}
def mQ(X:Ctx)(aS:Nat)(ops:Array Oper)(x:bL)(o:Oper):Bool:=
 (match x.d,o.dst with
  |none,none=>true
  |some a,some b=>Nat.beq a b&&Nat.ble (Nat.succ b) aS
  |_,_=>false)&&X.jQ o.op x.o&&
 (match x.g,o.guard with
  |none,none=>true
  |some (t,want),some (j,Oo)=>(want==Oo)&&(match(ops[j]?).bind (·.dst)with|some gV=>Nat.beq t gV&&Nat.ble (Nat.succ t) aS|none=>false)
  |_,_=>false)
section
variable{aS:Nat}{ops:Array Oper}{x:bL}{o:Oper}
theorem MY(h:mQ X aS ops x o=true):x.d=o.dst∧∀t,x.d=some t->t<aS:=by
 unfold mQ at h;simp only[bZ]at h;have h1:=h.1.1;split at h1
 ·rename_i aA e2;rw[aA,e2];exact⟨rfl,by simp⟩
 ·rename_i a b aA e2;rw[bZ]at h1;have:=eN h1.1;subst this;rw[aA,e2];exact⟨rfl,fun t aN=>by cases aN;exact pa.1 h1.2⟩
 ·cases h1
theorem Hy(h:mQ X aS ops x o=true):X.jQ o.op x.o=true:=by
 unfold mQ at h;simp only[bZ]at h;exact h.1.2
variable{ι:bA}{fr aI:aT}{a:Act}{st st':au}{w:World}{v:Value}{call:bQ}{b:dI}{bz:Bool->List Frame}{k:List Item}{i:Nat}{rest:List Nat}
theorem abf{α:Type}{yes hs z r:α}(h:mQ X aS ops x o=true)(ab:cB ι fr a aS)(U:hY fr x.g yes hs z=r)(ax:z≠r):
 (yes=r∧Region.wanted o (yielded ops a.tmps)=true)∨(hs=r∧Region.wanted o (yielded ops a.tmps)=false):=by
 unfold mQ at h;simp only[bZ]at h;have h1:=h.2;split at h1
 ·rename_i aA e2;rw[aA]at U;exact .inl ⟨U,by simp[Region.wanted,e2]⟩
 ·rename_i t want j Oo aA e2;rw[aA]at U;rw[bZ]at h1;obtain⟨hw,h3⟩:=h1;have ev:want=Oo:=by simpa using hw
  subst ev;split at h3
  ·rename_i gV mL;rw[bZ]at h3;have b0:=eN h3.1;subst b0;have aP:t<a.tmps.size:=by rw[ab.size];exact pa.1 h3.2
   have zK:=ab.tmp t;have aO:a.tmps[t]? =some (a.tmps.getD t undef):=by simp[Array.getD,aP]
   have aG:yielded ops a.tmps j=match a.tmps.getD t undef with|.bool b=>some b|_=>none:=by
    unfold yielded;rw[mL];simp only[Option.bind_some,aO];cases a.tmps.getD t undef<;>rfl
   have mM:Region.wanted o (yielded ops a.tmps)=(yielded ops a.tmps j==some want):=by simp[Region.wanted,e2]
   have fu:mT (fr.tmp t) (fun b=>cond b (cond want yes hs) (cond want hs yes)) (qb (fr.tmp t) (fun _=>hs) z)=r:=U;generalize hc:a.tmps.getD t undef=Fi at zK aG;generalize aN:fr.tmp t=Oa at fu zK;cases Oa with
   |bool o8=>
    cases zK;have js:cond o8 (cond want yes hs) (cond want hs yes)=r:=fu;rw[mM,aG];cases o8<;>cases want
    ·exact .inl ⟨js,rfl⟩
    ·exact .inr ⟨js,rfl⟩
    ·exact .inr ⟨js,rfl⟩
    ·exact .inl ⟨js,rfl⟩
   |tuple xs=>
    cases zK;exact .inr ⟨fu,by rw[mM,aG];rfl⟩
   |_=>exact absurd fu ax
  ·cases h3
 ·cases h1
theorem aoY(a:Act)(d:Option Tmp)(v:Value){ds:List Deferred}:({a with defers:=ds}.put d v).tmps=(a.put d v).tmps:=by cases d<;>rfl
theorem Vz{P:Program}{t:Nat}{name:String}{g:FuncId}(h:rT P t name g=true){o:Oper}{f:Operand}{args:Array Operand}{ts:Array TypeId}(ak:o.op= .call {callee:=.invoke f name,args:=args,argTypes:=ts}){vV:Operand->Value}{v:Value}(aH:vV f= .iface t v){w:World}:
 (execOp vV o).run P w=((do let d<-Deferred.ofValue (.func (.func g) #[] #[]) (v::args.toList.map vV).toArray;invoke d.target d.args):Sem Next).run P w:=by
 have aU:(#[Value.iface t v]++Array.map vV args)[0]? =some (Value.iface t v):=by rw[Array.getElem?_append_left (by simp)];rfl
 have aA:(execOp vV o).run P w=(callMethod (.iface t v) name (args.map vV)).run P w:=by
  unfold execOp;rw[ak];simp[resolve,aH,invoke,aU];congr 2;apply Array.ext';simp[Array.toList_extract];exact List.take_of_length_le (by simp)
 rw[aA,anC h];have e2: #[v]++Array.map vV args=(v::args.toList.map vV).toArray:=by
  apply Array.ext';simp
 rw[e2];simp[Deferred.ofValue,invoke]
theorem Xo(bP:mQ X aS ops x o=true)(eu:mW X call)(ak:ops[i]? =some o)(fx:Region.wanted o (yielded ops a.tmps)=true)(ab:cB ι fr a aS)(hw:bt X ι st w)(aa:qf ι fr.b4 b.b4)
 (aQ:kR b fr.bk ι bz) (h:b2 call x.o fr st= .ok v aI st'):
 ∃aV a' w',Steps X.P (lone (b.at a (.inRegion ops (i::rest)::k)) (bz fr.cF) w) (lone (b.at a' (.inRegion ops rest::k)) (bz aI.cF) w')∧cB aV (aI.put x.d v) a' aS∧bt X aV st' w'∧fF ι aV w w'∧
  aI.bk=fr.bk∧aI.b4=fr.b4∧∃v',a'.tmps=(a.put o.dst v').tmps:=by
 obtain⟨ly,kF⟩:=MY bP;have cN:=Hy bP;have pK:∀{q:Prop},(b.b4=none->q)->(fr.b4=none->q):=by
  intro q hq hn;rcases aa with⟨_,h2⟩|⟨l,l',h1,_,_⟩
  ·exact hq h2
  ·rw[hn]at h1;cases h1
 by_cases hp:x.o.inPlace=true
 ·obtain⟨rfl,⟨aV,n,w',fS,hn,ev,U⟩,_⟩:=MP cN ab hw h hp;have jt:b.b4=none∨∀c,o.op≠.defer c:=by
   right;intro c hc;rw[hc]at cN;cases J:x.o with
   |ti fn p q=>rw[J]at cN;cases fn<;>cases cN
   |vd p=>rw[J]at h;cases h
   |refuse=>rw[J]at h;cases h
   |qn p q=>rw[J]at hp;cases hp
   |ext y=>rw[J]at cN;cases y<;>cases cN
   |_=>rw[J]at cN;cases cN
  rcases hn with⟨v',rfl,aH⟩|⟨rfl,rfl⟩
  ·refine⟨aV,a.put o.dst v',w',.one (NY ak fx jt fS),?_,ev,U,rfl,rfl,_,rfl⟩;rw[<-ly];exact(ab.mono U.le).put kF aH
  ·refine⟨aV,a.put o.dst undef,w',.one (ar8 ak fx jt fS),?_,ev,U,rfl,rfl,_,rfl⟩;rw[<-ly];exact(ab.mono U.le).put kF (bq.undef aV)
 ·cases J:x.o with
  |call f ps=>
   rw[J]at h cN;obtain⟨g,args,ts,kJ,hj⟩:=Vy cN;simp only[bZ]at hj;obtain⟨rfl,bj⟩:=cW hj.1.1;obtain⟨rfl,bM⟩:=pY hj.1.2;have aB:dJ.rec (motive:=fun _=>aZ) (fun v st _=>.ok v fr st) (fun v st _=>.bk v st) .no (call (fr.aj f) (dT fr args.toList) none st)=aZ.ok v aI st':=h;have jt:b.b4=none∨∀c,o.op≠.defer c:=.inr (by rw[kJ];simp);obtain⟨fH,dN,ko⟩:=eu ι (fr.aj f) (dT fr args.toList) st (a.eval f) (args.toList.map a.eval) w (ab.aj hw bj) (uF ab hw _ bM) hw (by intro e;rw[e]at aB;cases aB);have qv:(execOp a.eval o).run X.P w=((do let d<-Deferred.ofValue (a.eval f) (args.toList.map a.eval).toArray;invoke d.target d.args):Sem Next).run X.P w:=by
    unfold execOp;rw[kJ];simp[resolve,<-Array.toList_map]
   cases hc:call (fr.aj f) (dT fr args.toList) none st with
   |ret v1 cm ew=>
    rw[hc]at aB ko;have na:aZ.ok v1 fr cm=aZ.ok v aI st':=aB;obtain⟨aA,e2,b0⟩:=tq na;subst aA e2 b0;obtain⟨aV,v',w',aH,ev,U,nk⟩:=ko (b.at a (.inRegion ops (i::rest)::k)) (bz fr.cF);have kG:=finish_at (b:=b) (a:=a) (k:=k) i rest v' ak;rw[kG]at nk;refine⟨aV,a.put o.dst v',w',?_,?_,ev,U,rfl,rfl,_,rfl⟩
    ·cases dN with
     |enter m5 as ah=>exact .head (IY ak fx jt (by rw[qv];exact ah)) nk
     |round l m5 En du body ah=>exact .head (IZ ak fx jt (by rw[qv];exact ah)) nk
    ·rw[<-ly];exact(ab.mono U.le).put kF aH
   |bk v1 cm ew=>rw[hc]at aB;cases aB
   |no=>rw[hc]at aB;cases aB
  |inv hv f ps=>
   rw[J]at h cN;obtain⟨g,name,args,ts,kJ,hj⟩:=inv_inv cN;simp only[bZ]at hj;obtain⟨rfl,bj⟩:=cW hj.1.1;obtain⟨rfl,bM⟩:=pY hj.1.2;obtain⟨t,sk,hp,h1⟩:=Er (h:si (fr.aj f) _ _=_) (by simp);have pN:=ab.aj hw bj;rw[hp]at pN;generalize k1:a.eval f=ui at pN;cases pN with
   |iface _ _ yq CW=>
   obtain⟨lv,aO,aB⟩:=fy (h1:bl (vK t hv) _ _=_) (by simp);have CF:=List.all_eq_true.1 hj.2 _ (I2 aO);have qw:bq ι (.func (.func lv) #[] #[]) (.func (.func lv) #[] #[]):=.func _ _ _ _ _ _ (.inl ⟨rfl,by simp⟩) rfl (fun i h=>by simp at h) rfl (fun i h=>by simp at h);have aB:dJ.rec (motive:=fun _=>aZ) (fun v st _=>.ok v fr st) (fun v st _=>.bk v st) .no (call (.func (.func lv) #[] #[]) (sk::dT fr args.toList) none st)=aZ.ok v aI st':=aB;have jt:b.b4=none∨∀c,o.op≠.defer c:=.inr (by rw[kJ];simp);obtain⟨fH,dN,ko⟩:=eu ι (.func (.func lv) #[] #[]) (sk::dT fr args.toList) st (.func (.func lv) #[] #[]) (yq::args.toList.map a.eval) w qw (.cons CW (uF ab hw _ bM)) hw (by intro e;rw[e]at aB;cases aB);have qv:(execOp a.eval o).run X.P w=((do let d<-Deferred.ofValue (.func (.func lv) #[] #[]) (yq::args.toList.map a.eval).toArray;invoke d.target d.args):Sem Next).run X.P w:=Vz CF kJ k1;cases hc:call (.func (.func lv) #[] #[]) (sk::dT fr args.toList) none st with
   |ret v1 cm ew=>
    rw[hc]at aB ko;have na:aZ.ok v1 fr cm=aZ.ok v aI st':=aB;obtain⟨aA,e2,b0⟩:=tq na;subst aA e2 b0;obtain⟨aV,v',w',aH,ev,U,nk⟩:=ko (b.at a (.inRegion ops (i::rest)::k)) (bz fr.cF);have kG:=finish_at (b:=b) (a:=a) (k:=k) i rest v' ak;rw[kG]at nk;refine⟨aV,a.put o.dst v',w',?_,?_,ev,U,rfl,rfl,_,rfl⟩
    ·cases dN with
     |enter m5 as ah=>exact .head (IY ak fx jt (by rw[qv];exact ah)) nk
     |round l m5 En du body ah=>exact .head (IZ ak fx jt (by rw[qv];exact ah)) nk
    ·rw[<-ly];exact(ab.mono U.le).put kF aH
   |bk v1 cm ew=>rw[hc]at aB;cases aB
   |no=>rw[hc]at aB;cases aB
  |vF=>
   rw[J]at h cN;obtain⟨ts,kJ⟩:=amD cN;obtain⟨hn,h1⟩:=Du (h:bl fr.b4 _ _=_) (fun _=>by simp);have zr:b.b4=none:=pK id hn;have fS:(execOp a.eval o).run X.P w= .ok .recover w:=by
    unfold execOp;rw[kJ];simp[resolve,invoke,builtin]
   have ah:=asa (b:=b) (k:=k) (cs:=bz fr.cF) ak fx zr fS (rest:=rest);cases iw:fr.bk with
   |none=>
    rw[iw]at h1 aQ;have h2:aZ.ok .nilIface fr st=aZ.ok v aI st':=h1;obtain⟨aA,e2,b0⟩:=tq h2;subst aA e2 b0;rw[aQ _ _ rfl]at ah;refine⟨ι,_,w,.one ah,?_,hw,.refl _ _,iw,rfl,_,rfl⟩;rw[<-ly];exact ab.put kF .nilIface
   |some r5=>
    rw[iw]at h1 aQ;obtain⟨nu,zE,CP,alC⟩:=aQ;have h2:cond fr.cF (aZ.ok .nilIface fr st) (.ok r5 ⟨fr.t,fr.c4,fr.bk,true,fr.b4⟩ st)=aZ.ok v aI st':=by rw[iw];exact h1
    cases xd:fr.cF with
    |true=>
     rw[xd]at h2 ah;obtain⟨aA,e2,b0⟩:=tq (h2:aZ.ok .nilIface fr st=aZ.ok v aI st');subst aA e2 b0;rw[alC _ rfl]at ah;refine⟨ι,_,w,by rw[xd];exact .one ah,?_,hw,.refl _ _,iw,rfl,_,rfl⟩;rw[<-ly];exact ab.put kF .nilIface
    |false=>
     rw[xd]at h2 ah;obtain⟨aA,e2,b0⟩:=tq (h2:aZ.ok r5 ⟨fr.t,fr.c4,fr.bk,true,fr.b4⟩ st=aZ.ok v aI st');subst aA e2 b0;rw[CP _ rfl]at ah;refine⟨ι,_,w,.one ah,?_,hw,.refl _ _,iw,rfl,_,rfl⟩;rw[<-ly];exact cB.put (fr:=⟨fr.t,fr.c4,fr.bk,true,fr.b4⟩) ⟨ab.tmp,ab.size,ab.c4⟩ kF zE
  |qn f ps=>
   rw[J]at h cN;obtain⟨g,args,ts,kJ,hj⟩:=amu cN;simp only[bZ]at hj;obtain⟨rfl,bj⟩:=cW hj.1;obtain⟨rfl,bM⟩:=pY hj.2;obtain⟨hn,h1⟩:=Du (h:bl fr.b4 _ _=_) (fun _=>by simp);have zr:b.b4=none:=pK id hn;obtain⟨fn,first,fl,qw,h2⟩:=Ol h1 (by simp);have aH:=ab.aj hw bj;rw[qw]at aH;cases fn with
   |func lv=>
    obtain⟨aA,e2,b0⟩:=tq (h2:aZ.ok undef ⟨fr.t,{target:=.fn (.func lv) fl,args:=⟨fZ first.toList (dT fr args.toList)⟩}::fr.c4,fr.bk,fr.cF,fr.b4⟩ st=aZ.ok v aI st');subst aA e2 b0;generalize k1:a.eval f=ui at aH;cases aH with
    |func _ jb _ aq _ vs gE fY hi sv Bd=>
     have jd:=uF ab hw _ bM;have fS:(execOp a.eval o).run X.P w= .ok (.defer {target:=.fn jb vs,args:=aq++args.map a.eval}) w:=by
      unfold execOp;rw[kJ];simp[resolve,k1,Deferred.ofValue]
     have ah:=ar7 (b:=b) (k:=k) (cs:=bz fr.cF) ak fx zr fS (rest:=rest);refine⟨ι,_,w,.one ah,?_,hw,.refl _ _,rfl,rfl,undef,aoY _ _ _⟩;rw[<-ly];refine cB.put (fr:=⟨fr.t,{target:=.fn (.func lv) fl,args:=⟨fZ first.toList (dT fr args.toList)⟩}::fr.c4,fr.bk,fr.cF,fr.b4⟩) (a:={a with defers:={target:=.fn jb vs,args:=aq++args.map a.eval}::a.defers}) ⟨ab.tmp,ab.size,⟨⟨?_,gE,bN.vm sv Bd⟩,ab.c4⟩⟩ kF (bq.undef ι);have:=(bN.vm fY hi).append jd;simpa using this
   |_=>cases h2
  |qQ p=>
   rw[J]at h;obtain⟨t,sk,_,h1⟩:=Er (h:si (fr.aj p) _ _=_) (by simp);cases h1
  |_=>rw[J]at hp;exact absurd rfl hp
end
end Go.an
namespace Go.an
variable{X:Ctx}
section
variable{aS:Nat}{ops:Array Oper}{x:bL}{o:Oper}{ι:bA}{fr aI:aT}{a:Act}{st st':au}{w:World}{v:Value}{call:bQ}{b:dI}{bz:Bool->List Frame}{k:List Item}{i:Nat}{rest:List Nat}
def dI.panics(b:dI)(a:Act)(todo:List Item)(v:Value):Frame:={b.at a todo with mode:=.panicking [{v,recovered:=false}]}
theorem Xp{cs:List Frame}(bP:mQ X aS ops x o=true)(eu:mW X call)(ak:ops[i]? =some o)(fx:Region.wanted o (yielded ops a.tmps)=true)(ab:cB ι fr a aS)(hw:bt X ι st w)
 (fR:x.o.m0=true) (h:b2 call x.o fr st= .bk v st'):
 ∃aV v' w',Steps X.P (lone (b.at a (.inRegion ops (i::rest)::k)) cs w) (lone (b.panics a (.inRegion ops (i::rest)::k) v') cs w')∧bq aV v v'∧bt X aV st' w'∧fF ι aV w w':=by
 have cN:=Hy bP;cases J:x.o with
 |call f ps=>
  rw[J]at h cN;obtain⟨g,args,ts,kJ,hj⟩:=Vy cN;simp only[bZ]at hj;obtain⟨rfl,bj⟩:=cW hj.1.1;obtain⟨rfl,bM⟩:=pY hj.1.2;have aB:dJ.rec (motive:=fun _=>aZ) (fun v st _=>.ok v fr st) (fun v st _=>.bk v st) .no (call (fr.aj f) (dT fr args.toList) none st)=aZ.bk v st':=h;have jt:b.b4=none∨∀c,o.op≠.defer c:=.inr (by rw[kJ];simp);obtain⟨fH,dN,ko⟩:=eu ι (fr.aj f) (dT fr args.toList) st (a.eval f) (args.toList.map a.eval) w (ab.aj hw bj) (uF ab hw _ bM) hw (by intro e;rw[e]at aB;cases aB);have qv:(execOp a.eval o).run X.P w=((do let d<-Deferred.ofValue (a.eval f) (args.toList.map a.eval).toArray;invoke d.target d.args):Sem Next).run X.P w:=by
   unfold execOp;rw[kJ];simp[resolve,<-Array.toList_map]
  cases hc:call (fr.aj f) (dT fr args.toList) none st with
  |bk v1 cm ew=>
   rw[hc]at aB ko;have na:aZ.bk v1 cm=aZ.bk v st':=aB;cases na;obtain⟨aV,v',w',aH,ev,U,nk⟩:=ko (b.at a (.inRegion ops (i::rest)::k)) cs;have LH:(b.at a (.inRegion ops (i::rest)::k)).raise [{v:=v',recovered:=false}]=b.panics a (.inRegion ops (i::rest)::k) v':=rfl;rw[LH]at nk;refine⟨aV,v',w',?_,aH,ev,U⟩;cases dN with
   |enter m5 as ah=>exact .head (IY ak fx jt (by rw[qv];exact ah)) nk
   |round l m5 En du body ah=>exact .head (IZ ak fx jt (by rw[qv];exact ah)) nk
  |ret v1 cm ew=>rw[hc]at aB;cases aB
  |no=>rw[hc]at aB;cases aB
 |inv hv f ps=>
  rw[J]at h cN;obtain⟨g,name,args,ts,kJ,hj⟩:=inv_inv cN;simp only[bZ]at hj;obtain⟨rfl,bj⟩:=cW hj.1.1;obtain⟨rfl,bM⟩:=pY hj.1.2;obtain⟨t,sk,hp,h1⟩:=Er (h:si (fr.aj f) _ _=_) (by simp);have pN:=ab.aj hw bj;rw[hp]at pN;generalize k1:a.eval f=ui at pN;cases pN with
  |iface _ _ yq CW=>
  obtain⟨lv,aO,aB⟩:=fy (h1:bl (vK t hv) _ _=_) (by simp);have CF:=List.all_eq_true.1 hj.2 _ (I2 aO);have qw:bq ι (.func (.func lv) #[] #[]) (.func (.func lv) #[] #[]):=.func _ _ _ _ _ _ (.inl ⟨rfl,by simp⟩) rfl (fun i h=>by simp at h) rfl (fun i h=>by simp at h);have aB:dJ.rec (motive:=fun _=>aZ) (fun v st _=>.ok v fr st) (fun v st _=>.bk v st) .no (call (.func (.func lv) #[] #[]) (sk::dT fr args.toList) none st)=aZ.bk v st':=aB;have jt:b.b4=none∨∀c,o.op≠.defer c:=.inr (by rw[kJ];simp);obtain⟨fH,dN,ko⟩:=eu ι (.func (.func lv) #[] #[]) (sk::dT fr args.toList) st (.func (.func lv) #[] #[]) (yq::args.toList.map a.eval) w qw (.cons CW (uF ab hw _ bM)) hw (by intro e;rw[e]at aB;cases aB);have qv:(execOp a.eval o).run X.P w=((do let d<-Deferred.ofValue (.func (.func lv) #[] #[]) (yq::args.toList.map a.eval).toArray;invoke d.target d.args):Sem Next).run X.P w:=Vz CF kJ k1;cases hc:call (.func (.func lv) #[] #[]) (sk::dT fr args.toList) none st with
  |bk v1 cm ew=>
   rw[hc]at aB ko;have na:aZ.bk v1 cm=aZ.bk v st':=aB;cases na;obtain⟨aV,v',w',aH,ev,U,nk⟩:=ko (b.at a (.inRegion ops (i::rest)::k)) cs;have LH:(b.at a (.inRegion ops (i::rest)::k)).raise [{v:=v',recovered:=false}]=b.panics a (.inRegion ops (i::rest)::k) v':=rfl;rw[LH]at nk;refine⟨aV,v',w',?_,aH,ev,U⟩;cases dN with
   |enter m5 as ah=>exact .head (IY ak fx jt (by rw[qv];exact ah)) nk
   |round l m5 En du body ah=>exact .head (IZ ak fx jt (by rw[qv];exact ah)) nk
  |ret v1 cm ew=>rw[hc]at aB;cases aB
  |no=>rw[hc]at aB;cases aB
 |qQ p=>
  rw[J]at h cN;obtain⟨q,kJ,hj⟩:=amC cN;obtain⟨rfl,bj⟩:=cW hj;obtain⟨t,sk,hp,h1⟩:=Er (h:si (fr.aj p) _ _=_) (by simp);have h2:aZ.bk (.iface t sk) st=aZ.bk v st':=h1;cases h2;have aH:=ab.aj hw bj;rw[hp]at aH;generalize k1:a.eval p=ui at aH;cases aH with
  |iface _ _ yq CW=>
   refine⟨ι,.iface t yq,w,.one (ar9 ak fx (.inr (by rw[kJ];simp)) ?_),.iface _ _ _ CW,hw,.refl _ _⟩;unfold execOp;rw[kJ];simp[k1,Instr.panic,Result.andThen]
 |_=>rw[J]at fR;cases fR
def Ez(P:Program)(s:Machine)(b:dI)(a:Act)(k:List Item)(cs:List Frame)(w:World)(aV:bA):dF->Prop
 |.norm=>Steps P s (lone (b.at a k) cs w)
 |.exit id=>∃iB,exitTo id iB=exitTo id k∧Steps P s (lone (b.at a (.code (.exit id)::iB)) cs w)
 |.ret=>∃iB,Steps P s (lone (b.at a (.code .ret::iB)) cs w)
 |.bk v=>∃v' iB,bq aV v v'∧Steps P s (lone (b.panics a iB v') cs w)
def gC(X:Ctx)(b:dI)(aS:Nat)(bz:Bool->List Frame)(s:Machine)(k:List Item)(fr:aT)(ι:bA)(w:World):cY->Prop
 |.out e aI st'=>∃aV a' w',cB aV aI a' aS∧bt X aV st' w'∧fF ι aV w w'∧aI.bk=fr.bk∧aI.b4=fr.b4∧Ez X.P s b a' k (bz aI.cF) w' aV e
 |.no=>True
theorem Ez.head{P:Program}{s br:Machine}{b:dI}{a:Act}{k:List Item}{cs:List Frame}{w:World}{aV:bA}{e:dF}(h:Steps P s br)(aB:Ez P br b a k cs w aV e):Ez P s b a k cs w aV e:=by
 cases e with
 |norm=>exact h.trans aB
 |exit id=>obtain⟨iB,h1,h2⟩:=aB;exact⟨iB,h1,h.trans h2⟩
 |ret=>obtain⟨iB,h2⟩:=aB;exact⟨iB,h.trans h2⟩
 |bk v=>obtain⟨v',iB,h1,h2⟩:=aB;exact⟨v',iB,h1,h.trans h2⟩
theorem gC.head{s br:Machine}{aV:bA}{w':World}{r:cY}(h:Steps X.P s br)(U:fF ι aV w w')(hp:aI.bk=fr.bk)(aQ:aI.b4=fr.b4)(aB:gC X b aS bz br k aI aV w' r):gC X b aS bz s k fr ι w r:=by
 cases r with
 |no=>trivial
 |out e at2 au0=>
  obtain⟨fc,a',jC,h1,h2,h3,ay,aY,b7⟩:=aB;exact⟨fc,a',jC,h1,h2,U.trans h3,ay.trans hp,aY.trans aQ,b7.head h⟩
theorem agc(x:bL)(xs:List bL)(fr:aT)(st:au):iJ call (x::xs) fr st=
 hY fr x.g (aZ.rec (motive:=fun _=>cY) (fun v fr st=>iJ call xs (fr.put x.d v) st) (fun v st=>cond x.o.m0 (.out (.bk v) fr st) .no) .no (b2 call x.o fr st))
  (iJ call xs (fr.put x.d undef) st) .no:=rfl
theorem vw(fr:aT)(d:Option Tmp)(v:Value):(fr.put d v).bk=fr.bk∧(fr.put d v).b4=fr.b4∧(fr.put d v).cF=fr.cF∧(fr.put d v).c4=fr.c4:=by
 obtain⟨h1,h2,h3,ay⟩:=vv fr d v;exact⟨h2,ay,h3,h1⟩
theorem MZ(eu:mW X call):∀(xs:List bL) (l:List Nat) (ι:bA) (fr:aT) (a:Act) (st:au) (w:World),xs.length=l.length->
 (∀(j:Nat) (x:bL) (i:Nat),xs[j]? =some x->l[j]? =some i->∃o,ops[i]? =some o∧mQ X aS ops x o=true)->
 cB ι fr a aS->bt X ι st w->qf ι fr.b4 b.b4->kR b fr.bk ι bz->
 gC X b aS bz (lone (b.at a (.inRegion ops l::k)) (bz fr.cF) w) k fr ι w (iJ call xs fr st)
 |[],[],ι,fr,a,st,w,_,_,ab,hw,_,_=>⟨ι,a,w,ab,hw,.refl _ _,rfl,rfl,.one ZL⟩
 |[],_::_,_,_,_,_,_,h,_,_,_,_,_=>by simp at h
 |_::_,[],_,_,_,_,_,h,_,_,_,_,_=>by simp at h
 |x::xs,i::l,ι,fr,a,st,w,hl,ez,ab,hw,aa,aQ=>by
  obtain⟨o,ak,bP⟩:=ez 0 x i rfl rfl;have F3:∀(j:Nat) (x:bL) (i:Nat),xs[j]? =some x->l[j]? =some i->∃o,ops[i]? =some o∧mQ X aS ops x o=true:=fun j x i h1 h2=>ez (j+1) x i h1 h2;have cu:xs.length=l.length:=by simpa using hl
  obtain⟨ly,kF⟩:=MY bP;rw[agc];generalize aO:hY fr x.g _ _ _=r;by_cases gd:r= .no
  ·rw[gd];trivial
  rcases abf bP ab aO (fun e=>gd e.symm)with⟨e,fx⟩|⟨e,fx⟩
  ·cases jd:b2 call x.o fr st with
   |ok v eZ cm=>
    rw[jd]at e;have cK:iJ call xs (eZ.put x.d v) cm=r:=e;obtain⟨aV,a',w',ah,eG,ev,U,hp,pK,_⟩:=Xo (k:=k) (rest:=l) bP eu ak fx ab hw aa aQ jd;obtain⟨cn,cz,dp,jS⟩:=vw eZ x.d v;have qD:=MZ eu xs l aV (eZ.put x.d v) a' cm w' cu F3 eG ev (by rw[cz,pK];exact aa.mono U.le) (by rw[cn,hp];exact aQ.mono U.le);rw[<-cK];rw[dp]at qD;exact gC.head ah U (cn.trans hp) (cz.trans pK) qD
   |bk v cm=>
    rw[jd]at e;have cK:cond x.o.m0 (.out (.bk v) fr cm) .no=r:=e;obtain⟨fR,e2⟩:=ja cK (fun e=>gd e.symm);obtain⟨aV,v',w',ah,aH,ev,U⟩:=Xp (b:=b) (k:=k) (rest:=l) (cs:=bz fr.cF) bP eu ak fx ab hw fR jd;rw[<-e2];exact⟨aV,a,w',ab.mono U.le,ev,U,rfl,rfl,v',_,aH,ah⟩
   |no=>rw[jd]at e;exact absurd (e:cY.no=r).symm gd
  ·obtain⟨cn,cz,dp,jS⟩:=vw fr x.d undef;have qD:=MZ eu xs l ι (fr.put x.d undef) (a.put o.dst undef) st w cu F3 (by rw[<-ly];exact ab.put kF (bq.undef ι)) hw (by rw[cz];exact aa) (by rw[cn];exact aQ);rw[<-e];rw[dp]at qD;exact gC.head (.one (I0 ak fx)) (.refl _ _) cn cz qD
end
end Go.an
namespace Go.an
variable{X:Ctx}{call:bQ}
def kS(fr:aT)(g:Option (Tmp×Bool))(b:Bool):Prop:=hY fr g (some true) (some false) none=some b
theorem Oq{α:Type}{fr:aT}{g:Option (Tmp×Bool)}{yes hs z r:α}(h:hY fr g yes hs z=r)(ax:z≠r):(kS fr g true∧yes=r)∨(kS fr g false∧hs=r):=by
 unfold kS;cases g with
 |none=>exact .inl ⟨rfl,h⟩
 |some p=>
  have aB:mT (fr.tmp p.1) (fun b=>cond b (cond p.2 yes hs) (cond p.2 hs yes)) (qb (fr.tmp p.1) (fun _=>hs) z)=r:=h;show(mT (fr.tmp p.1) (fun b=>cond b (cond p.2 (some true) (some false)) (cond p.2 (some false) (some true))) (qb (fr.tmp p.1) (fun _=>some false) none)=some true∧_)∨
   (mT (fr.tmp p.1) (fun b=>cond b (cond p.2 (some true) (some false)) (cond p.2 (some false) (some true))) (qb (fr.tmp p.1) (fun _=>some false) none)=some false∧_)
  generalize fr.tmp p.1=Oa at aB;cases Oa with
  |bool o8=>
   have h2:cond o8 (cond p.2 yes hs) (cond p.2 hs yes)=r:=aB;show(cond o8 (cond p.2 (some true) (some false)) (cond p.2 (some false) (some true))=some true∧_)∨(cond o8 (cond p.2 (some true) (some false)) (cond p.2 (some false) (some true))=some false∧_);cases o8<;>cases hp:p.2<;>rw[hp]at h2
   ·exact .inl ⟨rfl,h2⟩
   ·exact .inr ⟨rfl,h2⟩
   ·exact .inr ⟨rfl,h2⟩
   ·exact .inl ⟨rfl,h2⟩
  |tuple xs=>exact .inr ⟨rfl,aB⟩
  |_=>exact absurd aB ax
def DB(t:ao Value)(ts:List Tmp):ao Value:=n0 t ts fun m=>m
def aT.only(fr:aT)(ts:List Tmp):aT:=⟨DB fr.t ts,[],none,false,none⟩
def n1{β:Type}(t:ao Value)(ts:List Tmp)(k:ao Value->β)(m:ao Value):β:=
 List.rec (motive:=fun _=>ao Value->β) (fun m=>k m) (fun x _ a0 m=>bl (t.get x) (fun v=>ao.e9 (Nat.succ x) m x v a0) (a0 m)) ts m
theorem MM{β:Type}(t:ao Value)(k:ao Value->β):∀(ts:List Tmp) (m:ao Value),n1 t ts k m=k (n1 t ts (fun m=>m) m)
 |[],_=>rfl
 |x::ts,m=>by
  show bl (t.get x) (fun v=>ao.e9 (Nat.succ x) m x v (n1 t ts k)) (n1 t ts k m)=k (bl (t.get x) (fun v=>ao.e9 (Nat.succ x) m x v (n1 t ts fun m=>m)) (n1 t ts (fun m=>m) m));cases t.get x with
  |none=>exact MM t k ts m
  |some v=>
   show ao.e9 (Nat.succ x) m x v (n1 t ts k)=k (ao.e9 (Nat.succ x) m x v (n1 t ts fun m=>m));rw[ao.yf,ao.yf];exact MM t k ts _
theorem r2{β:Type}(t:ao Value)(ts:List Tmp)(k:ao Value->β):n0 t ts k=k (DB t ts):=MM t k ts .nil
theorem MN(t:ao Value):∀(ts:List Tmp) (m:ao Value) (j:Nat),(n1 t ts (fun m=>m) m).get j=if j∈ts∧(t.get j).isSome then t.get j else m.get j
 |[],m,j=>by rw[if_neg (by simp)];rfl
 |x::ts,m,j=>by
  show(bl (t.get x) (fun v=>ao.e9 (Nat.succ x) m x v (n1 t ts fun m=>m)) (n1 t ts (fun m=>m) m)).get j=_;cases J:t.get x with
  |none=>
   show(n1 t ts (fun m=>m) m).get j=_;rw[MN t ts m j];by_cases hj:j=x
   ·subst hj;simp[J]
   ·simp[List.mem_cons,hj]
  |some v=>
   show(ao.e9 (Nat.succ x) m x v (n1 t ts fun m=>m)).get j=_;rw[ao.yf,MN t ts _ j,ao.ey];by_cases hj:j=x
   ·subst hj;simp[J]
   ·simp[List.mem_cons,hj]
theorem WV(fr:aT)(ts:List Tmp)(j:Nat):(fr.only ts).tmp j=if j∈ts then fr.tmp j else ib:=by
 have h:=MN fr.t ts .nil j;have e:(fr.only ts).t.get j=(n1 fr.t ts (fun m=>m) .nil).get j:=rfl;show Option.rec (motive:=fun _=>Value) (.chan (some 0)) (fun v=>v) ((fr.only ts).t.get j)=_;rw[e,h];by_cases hj:j∈ts
 ·rw[if_pos hj];cases aO:fr.t.get j with
  |none=>rw[if_neg (by simp),ao.get_nil];simp[aT.tmp,aO]
  |some v=>rw[if_pos ⟨hj,rfl⟩];simp[aT.tmp,aO]
 ·rw[if_neg (fun h=>hj h.1),if_neg hj,ao.get_nil];rfl
theorem XH:∀(ts:List Tmp) (fr:aT),(∀j,(oT fr ts).tmp j=if j∈ts then ib else fr.tmp j)∧(oT fr ts).bk=fr.bk∧(oT fr ts).b4=fr.b4∧(oT fr ts).cF=fr.cF∧(oT fr ts).c4=fr.c4
 |[],fr=>⟨fun j=>by simp[oT],rfl,rfl,rfl,rfl⟩
 |t::ts,fr=>by
  obtain⟨h1,h2,h3,ay,aY⟩:=XH ts (fr.put (some t) ib);obtain⟨cn,cz,dp,jS⟩:=vw fr (some t) ib;refine⟨fun j=> ?_,h2.trans cn,h3.trans cz,ay.trans dp,aY.trans jS⟩;show(oT (fr.put (some t) ib) ts).tmp j=_;rw[h1 j,sd];by_cases hj:j∈ts
  ·rw[if_pos hj,if_pos (List.mem_cons_of_mem _ hj)]
  ·rw[if_neg hj];by_cases e:t=j
   ·subst e;simp
   ·have:j≠t:=fun h=>e h.symm;simp[e,hj,this]
theorem Zb{o:dd}{fr:aT}{v:Value}{ai:Nat}:∀(n:Nat) (ah:List (ao bw)),sameAt call o fr v ai n ah=true->∀j,j<n->∃h aI st',ah[j]? =some h∧b2 call o fr ⟨h,ai⟩= .ok v aI st'
 |0,_,_,j,hj=>by omega
 |n+1,[],h,_,_=>by cases h
 |n+1,h::ah,hh,j,hj=>by
  have zv:aZ.rec (motive:=fun _=>Bool) (fun v' _ _=>cond (dD v v') (sameAt call o fr v ai n ah) false) (fun _ _=>false) false (b2 call o fr ⟨h,ai⟩)=true:=hh;cases he:b2 call o fr ⟨h,ai⟩with
  |ok v' aI st'=>
   rw[he]at zv;have h2:cond (dD v v') (sameAt call o fr v ai n ah) false=true:=zv;obtain⟨h3,ay⟩:=ja h2 (by simp);have:=mV _ _ h3;subst this;cases j with
   |zero=>exact⟨h,aI,st',rfl,he⟩
   |succ j=>
    obtain⟨aB,m5,br,aY,b7⟩:=Zb n ah ay j (by omega);exact⟨aB,m5,br,by simpa using aY,b7⟩
  |bk _ _=>rw[he]at zv;cases zv
  |no=>rw[he]at zv;cases zv
def DStep(call:bQ)(x:bL)(c:cL)(fr:aT)(st:au)(N:List (ao bw))(v:Value)(eZ:aT)(cm:au)(ss:List (ao bw)):Prop:=
 match c with
 |.eO=>((kS fr x.g false∨(kS fr x.g true∧∃u br,b2 call x.o fr st= .bk u br))∧v=undef∧eZ=fr.put x.d undef∧cm=st∧ss=st.h::N)∨
  (kS fr x.g true∧∃aI,b2 call x.o fr st= .ok v aI cm∧st.ai<=cm.ai∧eZ=aT.put ⟨fr.t,aI.c4,aI.bk,aI.cF,aI.b4⟩ x.d v∧ss=cm.h::N)
 |.hP ts=>eZ=fr.put x.d v∧ss=N∧((kS (fr.only ts) x.g false∧v=undef∧cm=st)∨(kS (fr.only ts) x.g true∧∃aI,b2 call x.o (fr.only ts) st= .ok v aI cm))
 |.read back ts=>eZ=fr.put x.d v∧ss=N∧cm=st∧((kS (fr.only ts) x.g false∧v=undef)∨(kS (fr.only ts) x.g true∧sameAt call x.o (fr.only ts) v st.ai (Nat.succ back) N=true))
def Jp(call:bQ)(x:bL)(c:cL)(fr:aT)(st:au):Prop:=c= .eO->kS fr x.g true->∀u br,b2 call x.o fr st≠.bk u br
theorem atw{fr:aT}{g:Option (Tmp×Bool)}(h:kS fr g false)(aB:kS fr g true):False:=by
 unfold kS at h aB;rw[h]at aB;cases aB
theorem af9{x:bL}{c:cL}{L:List (bL×cL)}{N:List (ao bw)}{fr:aT}{st:au}{e:dF}{aI:aT}{st':au}(h:hR call ((x,c)::L) N fr st= .out e aI st'):
 (∃v eZ cm ss,DStep call x c fr st N v eZ cm ss∧Jp call x c fr st∧hR call L ss eZ cm= .out e aI st')∨
 (c= .eO∧L=[]∧kS fr x.g true∧x.o.m0=true∧aI=fr∧∃u,e= .bk u∧b2 call x.o fr st= .bk u st'):=by
 cases c with
 |eO=>
  have aB:hY fr x.g (aZ.rec (motive:=fun _=>cY) (fun v aI st'=>eo st.ai st'.ai (hR call L (st'.h::N) (aT.put ⟨fr.t,aI.c4,aI.bk,aI.cF,aI.b4⟩ x.d v) st') .no) (fun v st'=>cond x.o.m0 (GU L (.out (.bk v) fr st') .no) .no) .no (b2 call x.o fr st))
   (hR call L (st.h::N) (fr.put x.d undef) st) .no= .out e aI st':=h
  rcases Oq aB (by simp)with⟨h1,h2⟩|⟨h1,h2⟩
  ·cases he:b2 call x.o fr st with
   |ok v m8 ek=>
    rw[he]at h2;obtain⟨h3,ay⟩:=jf (h2:eo st.ai ek.ai _ _=_) (by simp);exact .inl ⟨v,aT.put ⟨fr.t,m8.c4,m8.bk,m8.cF,m8.b4⟩ x.d v,ek,ek.h::N,.inr ⟨h1,m8,he,h3,rfl,rfl⟩,(fun _ _ u br hu=>by rw[he]at hu;cases hu),ay⟩
   |bk u br=>
    rw[he]at h2;obtain⟨h3,ay⟩:=ja (h2:cond _ _ _=_) (by simp);cases L with
    |nil=>
     have aY:cY.out (.bk u) fr br= .out e aI st':=ay;cases aY;exact .inr ⟨rfl,rfl,h1,h3,rfl,u,rfl,rfl⟩
    |cons _ _=>
     have aY:cY.no= .out e aI st':=ay;cases aY
   |no=>rw[he]at h2;cases h2
  ·exact .inl ⟨undef,fr.put x.d undef,st,st.h::N,.inl ⟨.inl h1,rfl,rfl,rfl,rfl⟩,(fun _ aN=>(atw h1 aN).elim),h2⟩
 |hP ts=>
  have aB:n0 fr.t ts (fun t=>hY ⟨t,[],none,false,none⟩ x.g
   (aZ.rec (motive:=fun _=>cY) (fun v _ st'=>hR call L N (fr.put x.d v) st') (fun _ _=>.no) .no (b2 call x.o ⟨t,[],none,false,none⟩ st))
   (hR call L N (fr.put x.d undef) st) .no)= .out e aI st':=h
  rw[r2]at aB;have na:hY (fr.only ts) x.g (aZ.rec (motive:=fun _=>cY) (fun v _ st'=>hR call L N (fr.put x.d v) st') (fun _ _=>.no) .no (b2 call x.o (fr.only ts) st))
   (hR call L N (fr.put x.d undef) st) .no= .out e aI st':=aB
  rcases Oq na (by simp)with⟨h1,h2⟩|⟨h1,h2⟩
  ·cases he:b2 call x.o (fr.only ts) st with
   |ok v m8 ek=>
    rw[he]at h2;exact .inl ⟨v,fr.put x.d v,ek,N,⟨rfl,rfl,.inr ⟨h1,m8,he⟩⟩,(fun h=>by cases h),h2⟩
   |bk _ _=>rw[he]at h2;cases h2
   |no=>rw[he]at h2;cases h2
  ·exact .inl ⟨undef,fr.put x.d undef,st,N,⟨rfl,rfl,.inl ⟨h1,rfl,rfl⟩⟩,(fun h=>by cases h),h2⟩
 |read back ts=>
  have aB:n0 fr.t ts (fun t=>hY ⟨t,[],none,false,none⟩ x.g
   (aZ.rec (motive:=fun _=>cY) (fun v _ _=>cond (sameAt call x.o ⟨t,[],none,false,none⟩ v st.ai (Nat.succ back) N) (hR call L N (fr.put x.d v) st) .no) (fun _ _=>.no) .no (b2 call x.o ⟨t,[],none,false,none⟩ st))
   (hR call L N (fr.put x.d undef) st) .no)= .out e aI st':=h
  rw[r2]at aB;have na:hY (fr.only ts) x.g (aZ.rec (motive:=fun _=>cY) (fun v _ _=>cond (sameAt call x.o (fr.only ts) v st.ai (Nat.succ back) N) (hR call L N (fr.put x.d v) st) .no) (fun _ _=>.no) .no (b2 call x.o (fr.only ts) st))
   (hR call L N (fr.put x.d undef) st) .no= .out e aI st':=aB
  rcases Oq na (by simp)with⟨h1,h2⟩|⟨h1,h2⟩
  ·cases he:b2 call x.o (fr.only ts) st with
   |ok v m8 ek=>
    rw[he]at h2;obtain⟨h3,ay⟩:=ja (h2:cond _ _ _=_) (by simp);exact .inl ⟨v,fr.put x.d v,st,N,⟨rfl,rfl,rfl,.inr ⟨h1,h3⟩⟩,(fun h=>by cases h),ay⟩
   |bk _ _=>rw[he]at h2;cases h2
   |no=>rw[he]at h2;cases h2
  ·exact .inl ⟨undef,fr.put x.d undef,st,N,⟨rfl,rfl,rfl,.inl ⟨h1,rfl⟩⟩,(fun h=>by cases h),h2⟩
structure jD(call:bQ)(L:List (bL×cL))(j1:List (ao bw))(fr:aT)(st:au)(aI:aT)(st':au)(F:Nat->aT)(T:Nat->au)(N:Nat->List (ao bw))(V:Nat->Value):Prop where
 f0:F 0=fr
 t0:T 0=st
 z5:N 0=j1
 fn:F L.length=aI
 au2:T L.length=st'
 step:∀p x c,L[p]? =some (x,c)->DStep call x c (F p) (T p) (N p) (V p) (F (p+1)) (T (p+1)) (N (p+1))
def A6(call:bQ)(L:List (bL×cL))(F:Nat->aT)(T:Nat->au)(n:Nat):Prop:=∀p x c,p≠n->L[p]? =some (x,c)->Jp call x c (F p) (T p)
def abp(call:bQ)(L:List (bL×cL))(F:Nat->aT)(T:Nat->au)(e:dF)(aI:aT)(st':au):Prop:=
 (e= .norm∧A6 call L F T L.length∧F L.length=aI∧T L.length=st')∨
 (∃n x u,L.length=n+1∧L[n]? =some (x,.eO)∧A6 call L F T n∧kS (F n) x.g true∧x.o.m0=true∧aI=F n∧e= .bk u∧b2 call x.o (F n) (T n)= .bk u st')
theorem Q8:∀(L:List (bL×cL)) (j1:List (ao bw)) (fr:aT) (st:au) (e:dF) (aI:aT) (st':au),hR call L j1 fr st= .out e aI st'->∃F T N V,jD call L j1 fr st (F L.length) (T L.length) F T N V∧abp call L F T e aI st'
 |[],j1,fr,st,e,aI,st',h=>by
  have aB:cY.out .norm fr st= .out e aI st':=h;cases aB;exact⟨fun _=>fr,fun _=>st,fun _=>j1,fun _=>undef,⟨rfl,rfl,rfl,rfl,rfl,fun p x c hp=>by simp at hp⟩,.inl ⟨rfl,fun p x c _ hp=>by simp at hp,rfl,rfl⟩⟩
 |(x,c)::L,j1,fr,st,e,aI,st',h=>by
  rcases af9 h with⟨v,eZ,cm,ss,av,mI,h1⟩|⟨rfl,rfl,hw,fR,rfl,u,rfl,jd⟩
  ·obtain⟨F,T,N,V,aN,Cw⟩:=Q8 L ss eZ cm e aI st' h1;refine⟨fun p=>Nat.casesOn p fr F,fun p=>Nat.casesOn p st T,fun p=>Nat.casesOn p j1 N,fun p=>Nat.casesOn p v V,⟨rfl,rfl,rfl,rfl,rfl,fun p eP bJ hp=> ?_⟩,?_⟩
   ·cases p with
    |zero=>
     have:(x,c)=(eP,bJ):=by simpa using hp
     cases this;show DStep call x c fr st j1 v (F 0) (T 0) (N 0);rw[aN.f0,aN.t0,aN.z5];exact av
    |succ p=>exact aN.step p eP bJ (by simpa using hp)
   ·have hq:∀n,A6 call L F T n->A6 call ((x,c)::L) (fun p=>Nat.casesOn p fr F) (fun p=>Nat.casesOn p st T) (n+1):=by
     intro n hn p eP bJ ng hp;cases p with
     |zero=>
      have:(x,c)=(eP,bJ):=by simpa using hp
      cases this;exact mI
     |succ p=>exact hn p eP bJ (by omega) (by simpa using hp)
    rcases Cw with⟨he,hn,aA,e2⟩|⟨n,y,u,aL,aR,a7,cl⟩
    ·exact .inl ⟨he,hq _ hn,aA,e2⟩
    ·exact .inr ⟨n+1,y,u,by simp[aL],by simpa using aR,hq _ a7,cl⟩
  ·refine⟨fun p=>Nat.casesOn p aI (fun _=>aI.put x.d undef),fun p=>st,fun p=>Nat.casesOn p j1 (fun _=>st.h::j1),fun _=>undef,⟨rfl,rfl,rfl,rfl,rfl,fun p eP bJ hp=> ?_⟩,?_⟩
   ·cases p with
    |zero=>
     have:(x,cL.eO)=(eP,bJ):=by simpa using hp
     cases this;exact .inl ⟨.inr ⟨hw,u,_,jd⟩,rfl,rfl,rfl,rfl⟩
    |succ p=>simp at hp
   ·refine .inr ⟨0,x,u,rfl,rfl,fun p eP bJ ng hp=> ?_,hw,fR,rfl,rfl,jd⟩;cases p with
    |zero=>exact absurd rfl ng
    |succ p=>simp at hp
theorem aoZ{α:Type}(l:List α)(n:Nat)(vs:List α):(∃out,∀(k:List α->aZ),p0 l n vs k .no=k out)∨(∀k:List α->aZ,p0 l n vs k .no= .no):=by
 by_cases h:n+vs.length<=l.length
 ·exact .inl ⟨_,fun k=>by rw[qR,if_pos h]⟩
 ·by_cases h2:vs=[]
  ·exact .inl ⟨l,fun k=>by rw[qR,if_neg h,if_pos h2]⟩
  ·exact .inr fun k=>by rw[qR,if_neg h,if_neg h2]
theorem Rd(fr:aT):∀(ps:List (Nat×Nat×Operand)) (cs:List Value),(∃out,∀c,nP fr ps cs c=c out)∨(∀c,nP fr ps cs c= .no)
 |[],cs=>.inl ⟨cs,fun _=>rfl⟩
 |p::ps,cs=>by
  have hu:∀c,nP fr (p::ps) cs c=cond (s9 (fr.aj p.2.2)) .no (et (ec (ik (fr.aj p.2.2))) p.2.1 (eo (Nat.add p.1 p.2.1) (ec cs) (p0 cs p.1 (ik (fr.aj p.2.2)) (fun cs'=>nP fr ps cs' c) .no) .no) .no):=fun _=>rfl;simp only[hu];cases s9 (fr.aj p.2.2)with
  |true=>exact .inr fun _=>rfl
  |false=>
   simp only[cond_false,oA,pR];split
   ·split
    ·rcases aoZ cs p.1 (ik (fr.aj p.2.2))with⟨out,ak⟩|hn
     ·rcases Rd fr ps out with⟨nr,iv⟩|gR
      ·exact .inl ⟨nr,fun c=>by rw[ak];exact iv c⟩
      ·exact .inr fun c=>by rw[ak];exact gR c
     ·exact .inr fun c=>hn _
    ·exact .inr fun _=>rfl
   ·exact .inr fun _=>rfl
theorem OZ{x:dd}{fr aI:aT}{h0:ao bw}{ai:Nat}{v:Value}{st':au}(J:x.s8=true)(h:b2 call x fr ⟨h0,ai⟩= .ok v aI st'):
 ∃o,o≠.dead∧aI=fr∧st'=⟨h0.set ai o,ai+1⟩∧∀aB,b2 call x fr ⟨aB,ai⟩= .ok v fr ⟨aB.set ai o,ai+1⟩:=by
 cases x with
 |alloc z e=>
  have h:xN z e call fr ⟨h0,ai⟩= .ok v aI st':=h;unfold xN at h;rw[gv]at h;cases h;exact⟨_,by simp,rfl,rfl,fun aB=>by show xN z e call fr ⟨aB,ai⟩=_;unfold xN;rw[gv]⟩
 |box e p=>
  have h:Aj e p call fr ⟨h0,ai⟩= .ok v aI st':=h;unfold Aj at h;obtain⟨h1,h2⟩:=z7 h (by simp);rw[gv]at h2;cases h2;exact⟨_,by simp,rfl,rfl,fun aB=>by show Aj e p call fr ⟨aB,ai⟩=_;unfold Aj;simp only[h1,cond_false];rw[gv]⟩
 |ot e n z ps=>
  have h:Ak e n z ps call fr ⟨h0,ai⟩= .ok v aI st':=h;unfold Ak at h;rcases Rd fr ps z with⟨out,ak⟩|hn
  ·rw[ak,gv]at h;cases h;exact⟨_,by simp,rfl,rfl,fun aB=>by show Ak e n z ps call fr ⟨aB,ai⟩=_;unfold Ak;rw[ak,gv]⟩
  ·rw[hn]at h;cases h
 |uv e p=>
  have h:Al e p call fr ⟨h0,ai⟩= .ok v aI st':=h;unfold Al at h;obtain⟨s,ah,h1⟩:=oZ h (by simp);obtain⟨hle,h2⟩:=jf h1 (by simp);rw[gv]at h2;cases h2;exact⟨_,by simp,rfl,rfl,fun aB=>by
   show Al e p call fr ⟨aB,ai⟩=_;unfold Al;rw[ah];show eo (ec s.data.toList) (2^40) _ _=_;rw[pR,if_pos hle,gv]⟩
 |oO e bW z l c=>
  have h:r3 e bW z l c call fr ⟨h0,ai⟩= .ok v aI st':=h;unfold r3 at h;obtain⟨bj,k7,hl,h1⟩:=jl h (by simp);obtain⟨bM,kT,hc,h2⟩:=jl h1 (by simp);obtain⟨cq,qA,h3⟩:=l5 h2 (by simp);obtain⟨ho,zt,ay⟩:=l5 h3 (by simp);obtain⟨hle,aY⟩:=jf ay (by simp);obtain⟨Ln,b7⟩:=jf aY (by simp);rw[gv]at b7;cases b7;exact⟨_,by simp,rfl,rfl,fun aB=>by
   show r3 e bW z l c call fr ⟨aB,ai⟩=_;unfold r3;rw[hl,hc,qA,zt];show eo cq ho (eo (Nat.mul ho (Nat.succ bW)) (2^40) _ _) _=_;rw[pR,if_pos hle,pR,if_pos Ln,gv]⟩
 |tj=>
  have h:xO call fr ⟨h0,ai⟩= .ok v aI st':=h;unfold xO at h;rw[gv]at h;cases h;exact⟨_,by simp,rfl,rfl,fun aB=>by show xO call fr ⟨aB,ai⟩=_;unfold xO;rw[gv]⟩
 |_=>cases J
end Go.an
namespace Go.an
def cL.xq:cL->Bool
 |.eO=>true
 |_=>false
def cL.looks:cL->List Tmp
 |.eO=>[]
 |.hP ts=>ts
 |.read _ ts=>ts
def sK(L:List (bL×cL))(q:Nat):Bool:=((L[q]?).map (·.2.xq)).getD false
structure lj(X:Ctx)(aS:Nat)(ops:Array Oper)(L:List (bL×cL))(cb:List Nat)(dZ:List Tmp)(ms:List Nat):Prop where
 vc:L.length=ops.size
 xw:cb.length=ops.size
 op:∀(p i:Nat) x c,cb[p]? =some i->L[p]? =some (x,c)->∃o,ops[i]? =some o∧mQ X aS ops x o=true
 hP:∀(p:Nat) x ts,L[p]? =some (x,.hP ts)->x.o.s8=true
 rd:∀(p:Nat) x n ts,L[p]? =some (x,.read n ts)->x.o.rP=true
 inj:∀(p q i:Nat),cb[p]? =some i->cb[q]? =some i->p=q
 asA:∀i,i<ops.size->∃p:Nat,cb[p]? =some i
 afG:∀(p i:Nat) o,cb[p]? =some i->ops[i]? =some o->∀e∈o.after,Region.binds .any e=true->∃q,q<p∧cb[q]? =some e.on
 mask:∀(p i:Nat) o q,cb[p]? =some i->ops[i]? =some o->(ms.getD p 0).testBit q=true->∃e∈o.after,Region.binds .any e=true∧∃r,r<p∧cb[r]? =some e.on∧(q=r∨(ms.getD r 0).testBit q=true)
 eO:∀(p:Nat) x q,L[p]? =some (x,.eO)->q<p->(ms.getD p 0).testBit q=true
 back:∀(p:Nat) x n ts,L[p]? =some (x,.read n ts)->(List.range p).countP (fun q=>sK L q&& !(ms.getD p 0).testBit q)<=n
 dst:∀(p q:Nat) x y c d t,L[p]? =some (x,c)->L[q]? =some (y,d)->x.d=some t->y.d=some t->p=q
 abR:∀(p q:Nat) x y c d t,L[p]? =some (x,c)->L[q]? =some (y,d)->p<q->y.d=some t->t∉dZ->(c= .eO∨t∈c.looks)->(ms.getD q 0).testBit p=true
 dep:∀(p q:Nat) x y c d t,L[p]? =some (x,c)->L[q]? =some (y,d)->q<p->y.d=some t->t∈c.looks->(ms.getD p 0).testBit q=true
section
variable{X:Ctx}{aS:Nat}{ops:Array Oper}{L:List (bL×cL)}{cb:List Nat}{dZ:List Tmp}{ms:List Nat}{call:bQ}
def mX(ops:Array Oper)(cb:List Nat)(E:Nat->Prop)(p:Nat):Prop:=∀i o,cb[p]? =some i->ops[i]? =some o->∀e∈o.after,Region.binds .any e=true->∀r:Nat,cb[r]? =some e.on->E r
theorem lj.before(D:lj X aS ops L cb dZ ms){E:Nat->Prop}(gN:∀p,E p->mX ops cb E p)(p:Nat):mX ops cb E p->p<ops.size->∀q,(ms.getD p 0).testBit q=true->E q:=by
 induction p using Nat.strongRecOn with
 |_ p a0=>
  intro aQ hp q hq;have CO:p<cb.length:=by rw[D.xw];exact hp
  have ae:cb[p]? =some cb[p]:=a9 CO;obtain⟨x,J⟩:∃x,L[p]? =some x:=⟨_,a9 (by rw[D.vc];exact hp)⟩;obtain⟨o,ak,_⟩:=D.op p _ x.1 x.2 ae J;obtain⟨e,he,aa,r,CR,xa,Lz⟩:=D.mask p _ o q ae ak hq;have Un:E r:=aQ _ o ae ak e he aa r xa;rcases Lz with rfl|Lz
  ·exact Un
  ·exact a0 r CR (gN r Un) (by omega) q Lz
variable{j1:List (ao bw)}{fr aI:aT}{st st':au}{F:Nat->aT}{T:Nat->au}{N:Nat->List (ao bw)}{V:Nat->Value}
theorem jD.WM(aN:jD call L j1 fr st aI st' F T N V)(D:lj X aS ops L cb dZ ms){p:Nat}(hp:p<L.length):(T p).ai<=(T (p+1)).ai:=by
 obtain⟨⟨x,c⟩,J⟩:∃x,L[p]? =some x:=⟨_,a9 hp⟩;have ah:=aN.step p x c J;cases c with
 |eO=>
  rcases ah with⟨_,_,_,h,_⟩|⟨_,_,_,h,_⟩
  ·rw[h];exact b5 _
  ·exact h
 |hP ts=>
  obtain⟨_,_,h⟩:=ah;rcases h with⟨_,_,h⟩|⟨_,m8,h⟩
  ·rw[h];exact b5 _
  ·have bV:=D.hP p x ts J;obtain⟨o,_,_,h2,_⟩:=OZ (h0:=(T p).h) (ai:=(T p).ai) bV h;rw[h2];exact Nat.le_succ _
 |read n ts=>obtain⟨_,_,h,_⟩:=ah;rw[h];exact b5 _
theorem jD.k9(aN:jD call L j1 fr st aI st' F T N V)(D:lj X aS ops L cb dZ ms){p q:Nat}(h:p<=q)(hq:q<=L.length):(T p).ai<=(T q).ai:=by
 induction q with
 |zero=>have:p=0:=by omega
        subst this;exact b5 _
 |succ q a0=>
  by_cases e:p=q+1
  ·subst e;exact b5 _
  ·exact Nat.le_trans (a0 (by omega) (by omega)) (aN.WM D (by omega))
theorem jD.Z4(aN:jD call L j1 fr st aI st' F T N V){p:Nat}{x:bL}{c:cL}(J:L[p]? =some (x,c))(t:Nat):(F (p+1)).tmp t=if x.d=some t then V p else(F p).tmp t:=by
 have ah:=aN.step p x c J;cases c with
 |eO=>
  rcases ah with⟨_,h1,h,_⟩|⟨_,m8,_,_,h,_⟩
  ·rw[h,sd,h1]
  ·rw[h,sd];rfl
 |hP ts=>obtain⟨h,_⟩:=ah;rw[h,sd]
 |read n ts=>obtain⟨h,_⟩:=ah;rw[h,sd]
theorem jD.I7(aN:jD call L j1 fr st aI st' F T N V)(t:Nat):∀p,p<=L.length->(∀(q:Nat) x c,q<p->L[q]? =some (x,c)->x.d≠some t)->(F p).tmp t=(F 0).tmp t
 |0,_,_=>rfl
 |p+1,hp,h=>by
  obtain⟨⟨x,c⟩,J⟩:∃x,L[p]? =some x:=⟨_,a9 (by omega)⟩;rw[aN.Z4 J,if_neg (h p x c (by omega) J)];exact aN.I7 t p (by omega) (fun q x c hq=>h q x c (by omega))
theorem jD.N8(aN:jD call L j1 fr st aI st' F T N V)(D:lj X aS ops L cb dZ ms){q:Nat}{y:bL}{d:cL}{t:Nat}(aG:L[q]? =some (y,d))(av:y.d=some t):∀p,q<p->p<=L.length->(F p).tmp t=V q
 |0,h,_=>by omega
 |p+1,h,hp=>by
  obtain⟨⟨x,c⟩,J⟩:∃x,L[p]? =some x:=⟨_,a9 (by omega)⟩;rw[aN.Z4 J];by_cases e:p=q
  ·subst e;rw[J]at aG;cases aG;rw[if_pos av]
  ·rw[if_neg (fun h=>e (D.dst p q x y c d t J aG h av))];exact aN.N8 D aG av p (by omega) (by omega)
theorem jD.same(aN:jD call L j1 fr st aI st' F T N V){p:Nat}{x:bL}{c:cL}(J:L[p]? =some (x,c))(hc:c≠.eO):(F (p+1)).c4=(F p).c4∧(F (p+1)).cF=(F p).cF∧(F (p+1)).bk=(F p).bk∧(F (p+1)).b4=(F p).b4:=by
 have ah:=aN.step p x c J;cases c with
 |eO=>exact absurd rfl hc
 |hP ts=>obtain⟨h,_⟩:=ah;obtain⟨cn,cz,dp,jS⟩:=vw (F p) x.d (V p);rw[h];exact⟨jS,dp,cn,cz⟩
 |read n ts=>obtain⟨h,_⟩:=ah;obtain⟨cn,cz,dp,jS⟩:=vw (F p) x.d (V p);rw[h];exact⟨jS,dp,cn,cz⟩
theorem jD.snap(aN:jD call L [st.h] fr st aI st' F T N V){c:Nat}(hc:c=0∨∃p x,c=p+1∧L[p]? =some (x,cL.eO)):∀p,c<=p->p<=L.length->
 (N p)[(List.range p).countP (fun q=>decide (c<=q)&&sK L q)]? =some (T c).h
 |0,h,_=>by
  have:c=0:=by omega
  subst this;simp[aN.z5,aN.t0]
 |p+1,h,hp=>by
  obtain⟨⟨x,k⟩,J⟩:∃x,L[p]? =some x:=⟨_,a9 (by omega)⟩;have ah:=aN.step p x k J;by_cases e:c=p+1
  ·subst e;have ax:(List.range (p+1)).countP (fun q=>decide (p+1<=q)&&sK L q)=0:=by
    rw[List.countP_eq_zero];intro q hq;have:=List.mem_range.1 hq;simp;omega
   rw[ax];rcases hc with hc|⟨gh,eP,hc,bV⟩
   ·omega
   ·have:gh=p:=by omega
    subst this;rw[J]at bV;cases bV;rcases ah with⟨_,_,_,h1,h2⟩|⟨_,_,_,_,_,h2⟩
    ·rw[h2,h1];rfl
    ·rw[h2];rfl
  ·have a0:=aN.snap hc p (by omega) (by omega);rw[List.range_succ,List.countP_append,List.countP_singleton];have fR:decide (c<=p)=true:=by simp;omega
   have Lc:sK L p=k.xq:=by simp[sK,J]
   simp only[fR,Bool.true_and,Lc];cases k with
   |eO=>
    have:∃h,N (p+1)=h::N p:=by
     rcases ah with⟨_,_,_,_,h2⟩|⟨_,_,_,_,_,h2⟩
     ·exact⟨_,h2⟩
     ·exact⟨_,h2⟩
    obtain⟨h,hS⟩:=this;rw[hS];simpa[cL.xq]using a0
   |hP ts=>obtain⟨_,h2,_⟩:=ah;rw[h2];simpa[cL.xq]using a0
   |read n ts=>obtain⟨_,h2,_⟩:=ah;rw[h2];simpa[cL.xq]using a0
end
end Go.an
namespace Go.an
variable{X:Ctx}
def fw(ι:bA)(n:Nat):bA:=fun id=>if id<n then ι id else none
theorem kA{ι:bA}{n id:Nat}{l:Loc}:fw ι n id=some l↔id<n∧ι id=some l:=by
 unfold fw;by_cases h:id<n<;>simp[h]
theorem QI(ι:bA)(n:Nat):(fw ι n).le ι:=fun _ _ h=>(kA.1 h).2
theorem rk{ι aV:bA}{m n:Nat}(h:ι.le aV)(hn:m<=n):(fw ι m).le (fw aV n):=fun _ _ hl=>kA.2 ⟨e4 (kA.1 hl).1 hn,h _ _ (kA.1 hl).2⟩
theorem Kn{ι:bA}{n:Nat}(h:∀id,n<=id->ι id=none):fw ι n=ι:=by
 funext id;unfold fw;by_cases ae:id<n
 ·simp[ae]
 ·simp[ae,h id (by omega)]
theorem bt.look{ι aV:bA}{h:ao bw}{n m:Nat}{w:World}(hw:bt X ι ⟨h,n⟩ w)(hle:ι.le aV)(ab:∀id,m<=id->aV id=none)(hn:n<=m)(aa:∀id l,aV id=some l->l.cJ<w.heap.size):bt X aV ⟨h,m⟩ w:=by
 refine⟨fun id o ak av=> ?_,fun i j o p l fq ae hz hj hK gQ hU aO e=> ?_,fun id nc=>⟨ab id nc,(hw.fresh id (Nat.le_trans hn nc)).2⟩,aa,fun g aO=>hle _ _ (hw.lT g aO),Nat.le_trans hw.px hn,fun i l o hl ah ak av=> ?_⟩
 ·obtain⟨l,hl,hm⟩:=hw.eK id o ak av;exact⟨l,hle _ _ hl,jm.mono X hm hle rfl⟩
 ·obtain⟨l',cu,_⟩:=hw.eK i o ae hz;obtain⟨auR,UR,_⟩:=hw.eK j p hj hK;have aA:=(hle _ _ cu).symm.trans gQ;have e2:=(hle _ _ UR).symm.trans hU;cases aA;cases e2;exact hw.inj i j o p _ _ ae hz hj hK cu UR aO e
 ·obtain⟨l',cu,_⟩:=hw.eK i o ak av;have aA:=(hle _ _ cu).symm.trans hl;cases aA;exact hw.ma i _ o cu ah ak av
theorem bt.abK{ι:bA}{st:au}{w:World}(hw:bt X ι st w){o:bw}{l:Loc}(ak:jm X (hJ ι st.ai l) w o l)(aa:l.cJ<w.heap.size)(ni:l.cj≠im)(hne:∀id l',ι id=some l'->l'.cJ≠l.cJ):
 bt X (hJ ι st.ai l) ⟨st.h.set st.ai o,st.ai+1⟩ w:=by
 have hle:ι.le (hJ ι st.ai l):=by
  intro id l' hl;show(if id=st.ai then some l else ι id)=some l';rw[if_neg];exact hl;intro e;subst e;rw[(hw.fresh _ (b5 _)).1]at hl;cases hl
 have qu:hJ ι st.ai l st.ai=some l:=if_pos rfl;have nf:∀id,id≠st.ai->hJ ι st.ai l id=ι id:=fun id h=>if_neg h;refine⟨fun id p hp av=> ?_,fun i j p q fp fJ ae hz hj hK gQ hU aO e=> ?_,fun id nc=> ?_,fun id l' cu=> ?_,fun g aO=>hle _ _ (hw.lT g aO),Nat.le_succ_of_le hw.px,fun i fp p hL ah hp av=> ?_⟩
 ·rw[ao.ey]at hp;by_cases e:id=st.ai
  ·rw[if_pos e]at hp;cases hp;subst e;exact⟨l,qu,ak⟩
  ·rw[if_neg e]at hp;obtain⟨l',cu,hm⟩:=hw.eK id p hp av;exact⟨l',hle _ _ cu,jm.mono X hm hle rfl⟩
 ·rw[ao.ey]at ae hj;by_cases aA:i=st.ai
  ·by_cases e2:j=st.ai
   ·rw[aA,e2]
   ·subst aA;rw[qu]at gQ;cases gQ;rw[nf j e2]at hU;exact absurd e.symm (hne _ _ hU)
  ·by_cases e2:j=st.ai
   ·subst e2;rw[qu]at hU;cases hU;rw[nf i aA]at gQ;exact absurd e (hne _ _ gQ)
   ·rw[if_neg aA]at ae;rw[if_neg e2]at hj;rw[nf i aA]at gQ;rw[nf j e2]at hU;exact hw.inj i j p q fp fJ ae hz hj hK gQ hU aO e
 ·have akZ:st.ai+1<=id:=nc;refine⟨?_,?_⟩
  ·rw[nf id (by omega)];exact(hw.fresh id (by omega)).1
  ·show(st.h.set st.ai o).get id=none;rw[ao.ey,if_neg (by omega)];exact(hw.fresh id (by omega)).2
 ·by_cases e:id=st.ai
  ·subst e;rw[qu]at cu;cases cu;exact aa
  ·rw[nf id e]at cu;exact hw.gK id l' cu
 ·rw[ao.ey]at hp;by_cases e:i=st.ai
  ·subst e;rw[qu]at hL;cases hL;exact absurd ah ni
  ·rw[if_neg e]at hp;rw[nf i e]at hL;exact hw.ma i fp p hL ah hp av
def tS(L:List (bL×cL))(F:Nat->aT)(p:Nat):Prop:=∃x ts,L[p]? =some (x,cL.hP ts)∧kS ((F p).only ts) x.g true
structure jZ(X:Ctx)(aS:Nat)(L:List (bL×cL))(F:Nat->aT)(T:Nat->au)(V:Nat->Value)(hg:bA)(iF:World)(E:Nat->Prop)(c:Nat)(ι:bA)(a:Act)(w:World):Prop where
 low:∀p,p<c->E p
 E7:c<=L.length
 start:c=0∨∃p x,c=p+1∧L[p]? =some (x,cL.eO)
 Dp:∀(p:Nat) x,c<=p->E p->L[p]? ≠some (x,cL.eO)
 wr:bt X (fw ι (T c).ai) (T c) w
 kY:∀id l,ι id=some l->id<(T c).ai∨∃p,c<=p∧p<L.length∧E p∧tS L F p∧id=(T p).ai
 fW:∀p,c<=p->E p->tS L F p->∃o l,T (p+1)=⟨(T p).h.set (T p).ai o,(T p).ai+1⟩∧ι (T p).ai=some l∧jm X (fw ι ((T p).ai+1)) w o l∧
  l.cj≠im∧∀id l',ι id=some l'->id≠(T p).ai->l'.cJ≠l.cJ
 gK:∀id l,ι id=some l->l.cJ<w.heap.size
 keeps:fF hg ι iF w
 size:a.tmps.size=aS
 c4:sr (fw ι (T c).ai) (F c).c4 a.defers
 Em:∀(p:Nat) x gl t,L[p]? =some (x,gl)->x.d=some t->E p->bq (fw ι (max (T (p+1)).ai (T c).ai)) (V p) (a.tmps.getD t undef)
 AT:∀t,(∀(p:Nat) x gl,L[p]? =some (x,gl)->x.d=some t->¬E p)->bq hg ((F 0).tmp t) (a.tmps.getD t undef)
section
variable{aS:Nat}{ops:Array Oper}{L:List (bL×cL)}{cb:List Nat}{dZ:List Tmp}{ms:List Nat}{call:bQ}
variable{fr aI:aT}{st st':au}{F:Nat->aT}{T:Nat->au}{N:Nat->List (ao bw)}{V:Nat->Value}{hg:bA}{iF:World}{E:Nat->Prop}{c:Nat}{ι:bA}{a:Act}{w:World}
theorem jZ.look(b6:jZ X aS L F T V hg iF E c ι a w)(aN:jD call L [st.h] fr st aI st' F T N V)(D:lj X aS ops L cb dZ ms)(h0:∀id,st.ai<=id->hg id=none)(ax:∀t∈dZ,(F 0).tmp t=ib)
 (gN:∀p,E p->mX ops cb E p) {p:Nat} {x:bL} {gl:cL} (J:L[p]? =some (x,gl)) (aQ:mX ops cb E p) (hn:¬E p) {t:Nat} (hl:gl= .eO∨t∈gl.looks):
 bq (fw ι (T p).ai) ((F p).tmp t) (a.tmps.getD t undef):=by
 have h7:p<L.length:=(List.getElem?_eq_some_iff.1 J).1;have fR:c<=p:=by
  rcases Nat.lt_or_ge p c with h|h
  ·exact absurd (b6.low p h) hn
  ·exact h
 have ju:p<ops.size:=by rw[<-D.vc];exact h7
 have Ch:hg.le (fw ι (T p).ai):=by
  intro id l hl;refine kA.2 ⟨?_,b6.keeps.le _ _ hl⟩;rcases Nat.lt_or_ge id st.ai with h|h
  ·have:=aN.k9 D (Nat.zero_le p) (by omega);rw[aN.t0]at this;omega
  ·rw[h0 id h]at hl;cases hl
 by_cases hw:∃(q:Nat) (y:bL) (d:cL),L[q]? =some (y,d)∧y.d=some t
 ·obtain⟨q,y,d,aG,av⟩:=hw;rcases Nat.lt_or_ge q p with w8|w8
  ·have aa:(ms.getD p 0).testBit q=true:=by
    rcases hl with rfl|hl
    ·exact D.eO p x q J w8
    ·exact D.dep p q x y gl d t J aG w8 av hl
   have e0:=D.before gN p aQ ju q aa;rw[aN.N8 D aG av p w8 (by omega)];refine(b6.Em q y d t aG av e0).mono (rk (.refl ι) ?_);have h1:=aN.k9 D (p:=q+1) (q:=p) w8 (by omega);have h2:=aN.k9 D fR (by omega);omega
  ·have hold:(F p).tmp t=(F 0).tmp t:=aN.I7 t p (by omega) fun fg eP bJ w7 bV gb=>by
    have:=D.dst fg q eP y bJ d t bV aG gb av;omega
   rw[hold];by_cases Gy:t∈dZ
   ·rw[ax t Gy];exact .top _
   ·refine(b6.AT t fun fg eP bJ bV gb Um=> ?_).mono Ch;have alA:=D.dst fg q eP y bJ d t bV aG gb av;subst alA;by_cases e:fg=p
    ·subst e;exact hn Um
    ·have aa:=D.abR p fg x y gl d t J aG (by omega) av Gy hl;exact hn (D.before gN fg (gN fg Um) (by rw[<-D.vc];exact(List.getElem?_eq_some_iff.1 aG).1) p aa)
 ·have gd:∀(q:Nat) eP bJ,L[q]? =some (eP,bJ)->eP.d≠some t:=fun q eP bJ bV gb=>hw ⟨q,eP,bJ,bV,gb⟩;rw[aN.I7 t p (by omega) fun q eP bJ _ bV=>gd q eP bJ bV];exact(b6.AT t fun q eP bJ bV gb=>absurd gb (gd q eP bJ bV)).mono Ch
theorem jZ.upto(b6:jZ X aS L F T V hg iF E c ι a w)(aN:jD call L [st.h] fr st aI st' F T N V)(_D:lj X aS ops L cb dZ ms):∀q,c<=q->q<=L.length->(∀r,c<=r->r<q->E r)->
 bt X (fw ι (T q).ai) (T q) w∧(F q).c4=(F c).c4∧(F q).cF=(F c).cF∧(F q).bk=(F c).bk∧(F q).b4=(F c).b4:=by
 intro q auj
 induction q with
 |zero=>
  intro _ _;have:c=0:=by omega
  subst this;exact⟨b6.wr,rfl,rfl,rfl,rfl⟩
 |succ q a0=>
  intro hq ez;by_cases e:c=q+1
  ·subst e;exact⟨b6.wr,rfl,rfl,rfl,rfl⟩
  obtain⟨i1,i2,i3,i4,i5⟩:=a0 (by omega) (by omega) (fun r h1 h2=>ez r h1 (by omega));obtain⟨⟨x,gl⟩,J⟩:∃x,L[q]? =some x:=⟨_,a9 (by omega)⟩;have e0:=ez q (by omega) (by omega);have hne:gl≠.eO:=fun h=>b6.Dp q x (by omega) e0 (by rw[J,h]);obtain⟨s1,s2,ye,aqp⟩:=aN.same J hne;refine⟨?_,s1.trans i2,s2.trans i3,ye.trans i4,aqp.trans i5⟩;have ah:=aN.step q x gl J;cases gl with
  |eO=>exact absurd rfl hne
  |read n ts=>obtain⟨_,_,h,_⟩:=ah;rw[h];exact i1
  |hP ts=>
   obtain⟨_,_,h⟩:=ah;rcases h with⟨_,_,h⟩|⟨fx,_⟩
   ·rw[h];exact i1
   ·obtain⟨o,l,h1,h2,h3,h0,ay⟩:=b6.fW q (by omega) e0 ⟨x,ts,J,fx⟩;have pA:fw ι ((T q).ai+1)=hJ (fw ι (T q).ai) (T q).ai l:=by
     funext id;unfold fw hJ;by_cases aA:id=(T q).ai
     ·subst aA;simp[h2]
     ·by_cases e2:id<(T q).ai
      ·simp[aA,e2];omega
      ·simp[aA,e2];omega
    rw[h1];show bt X (fw ι ((T q).ai+1)) _ w;rw[pA]at h3⊢;refine i1.abK h3 (b6.gK _ _ h2) h0 fun id l' cu=> ?_;obtain⟨aL,aR⟩:=kA.1 cu;exact ay id l' aR (by omega)
end
def Be(E:Nat->Prop)(p:Nat):Nat->Prop:=fun q=>E q∨q=p
theorem wG(a:Act)(d:Option Tmp)(v:Value)(t:Nat):(a.put d v).tmps.getD t undef=if d=some t∧t<a.tmps.size then v else a.tmps.getD t undef:=by
 cases d with
 |none=>simp[Act.put]
 |some d=>
  by_cases e:d=t
  ·subst e;by_cases h:d<a.tmps.size
   ·simp[Act.put,h]
   ·simp[Act.put,h]
  ·simp only[Option.some.injEq,e,false_and,if_false];simp[Act.put,Array.getElem?_setIfInBounds_ne e]
section
variable{aS:Nat}{ops:Array Oper}{L:List (bL×cL)}{cb:List Nat}{dZ:List Tmp}{ms:List Nat}{call:bQ}
variable{fr aI:aT}{st st':au}{F:Nat->aT}{T:Nat->au}{N:Nat->List (ao bw)}{V:Nat->Value}{hg:bA}{iF:World}{E:Nat->Prop}{c:Nat}{ι:bA}{a:Act}{w:World}
theorem jZ.float(b6:jZ X aS L F T V hg iF E c ι a w)(D:lj X aS ops L cb dZ ms){p:Nat}{x:bL}{gl:cL}(J:L[p]? =some (x,gl))(hc:gl≠.eO)(fR:c<=p)(jc:¬tS L F p){v':Value}
 (av:∀t,x.d=some t->t<aS) (aH:bq (fw ι (T (p+1)).ai) (V p) v'):jZ X aS L F T V hg iF (Be E p) c ι (a.put x.d v') w:=by
 have eJ:(a.put x.d v').tmps.size=aS:=by rw[<-b6.size];cases x.d<;>simp[Act.put]
 refine⟨fun q hq=>.inl (b6.low q hq),b6.E7,b6.start,fun q y hq e0=> ?_,b6.wr,fun id l hl=> ?_,fun q hq e0 eF=> ?_,b6.gK,b6.keeps,eJ,?_,fun q y k t aG iy e0=> ?_,fun t gd=> ?_⟩
 ·rcases e0 with e0|rfl
  ·exact b6.Dp q y hq e0
  ·intro h;rw[J]at h;cases h;exact hc rfl
 ·rcases b6.kY id l hl with h|⟨q,h1,h2,h3,ay⟩
  ·exact .inl h
  ·exact .inr ⟨q,h1,h2,.inl h3,ay⟩
 ·rcases e0 with e0|rfl
  ·exact b6.fW q hq e0 eF
  ·exact absurd eF jc
 ·have:(a.put x.d v').defers=a.defers:=by cases x.d<;>rfl
  rw[this];exact b6.c4
 ·rw[wG];by_cases e:q=p
  ·subst e;rw[J]at aG;cases aG;rw[if_pos ⟨iy,by rw[b6.size];exact av t iy⟩];exact aH.mono (rk (.refl ι) (Nat.le_max_left _ _))
  ·rw[if_neg (fun h=>e (D.dst q p y x k gl t aG J iy h.1))];rcases e0 with e0|h
   ·exact b6.Em q y k t aG iy e0
   ·exact absurd h e
 ·rw[wG,if_neg (fun h=>gd p x gl J h.1 (.inr rfl))];exact b6.AT t fun q y k aG iy e0=>gd q y k aG iy (.inl e0)
theorem jZ.agv(b6:jZ X aS L F T V hg iF E c ι a w)(aN:jD call L [st.h] fr st aI st' F T N V)(D:lj X aS ops L cb dZ ms){p:Nat}{x:bL}{ts:List Tmp}(J:L[p]? =some (x,.hP ts))(fR:c<=p)(mI:¬E p)
 {v':Value} {o:bw} {O:Obj} {l:Loc} {w':World} (av:∀t,x.d=some t->t<aS) (gO:T (p+1)=⟨(T p).h.set (T p).ai o,(T p).ai+1⟩) (hl:l.cJ=w.heap.size) (ak5:l.cj≠im) (hh:w'.heap=w.heap.push O) (gU:ra w w')
 (aH:bq (hJ (fw ι (T p).ai) (T p).ai l) (V p) v') (ak:jm X (hJ (fw ι (T p).ai) (T p).ai l) w' o l):jZ X aS L F T V hg iF (Be E p) c (hJ ι (T p).ai l) (a.put x.d v') w':=by
 have h7:p<L.length:=(List.getElem?_eq_some_iff.1 J).1;have sY:ι (T p).ai=none:=by
  cases hn:ι (T p).ai with
  |none=>rfl
  |some m=>
   rcases b6.kY _ _ hn with h|⟨q,h1,h2,h3,ay,aY⟩
   ·have:=aN.k9 D fR (by omega);omega
   ·obtain⟨bd,l',b7,_⟩:=b6.fW q h1 h3 ay;have dn:(T (q+1)).ai=(T q).ai+1:=by rw[b7]
    have Ut:(T (p+1)).ai=(T p).ai+1:=by rw[gO]
    rcases Nat.lt_trichotomy q p with h|h|h
    ·have:=aN.k9 D (p:=q+1) (q:=p) h (by omega);omega
    ·subst h;exact absurd h3 mI
    ·have:=aN.k9 D (p:=p+1) (q:=q) h (by omega);omega
 have hle:ι.le (hJ ι (T p).ai l):=by
  intro id l' cu;show(if id=(T p).ai then some l else ι id)=some l';rw[if_neg];exact cu;intro e;subst e;rw[sY]at cu;cases cu
 have qu:hJ ι (T p).ai l (T p).ai=some l:=if_pos rfl;have nf:∀id,id≠(T p).ai->hJ ι (T p).ai l id=ι id:=fun id h=>if_neg h;have pA:∀n,(T p).ai<n->(hJ (fw ι (T p).ai) (T p).ai l).le (fw (hJ ι (T p).ai l) n):=by
  intro n hn id l' cu;unfold hJ at cu;by_cases e:id=(T p).ai
  ·rw[if_pos e]at cu;cases cu;subst e;exact kA.2 ⟨hn,qu⟩
  ·rw[if_neg e]at cu;obtain⟨h1,h2⟩:=kA.1 cu;exact kA.2 ⟨by omega,by rw[nf id e];exact h2⟩
 have hold:∀b,b<w.heap.size->w'.heap[b]? =w.heap[b]? :=fun b aa=>by rw[hh,Array.getElem?_push,if_neg (by omega)]
 have auJ:w'.heap.size=w.heap.size+1:=by rw[hh];simp
 have eJ:(a.put x.d v').tmps.size=aS:=by rw[<-b6.size];cases x.d<;>simp[Act.put]
 have lC:=aN.k9 D fR (by omega);have Us:fw (hJ ι (T p).ai l) (T c).ai=fw ι (T c).ai:=by
  funext id;unfold fw;by_cases h:id<(T c).ai
  ·rw[if_pos h,if_pos h,nf id (by omega)]
  ·rw[if_neg h,if_neg h]
 have Ut:(T (p+1)).ai=(T p).ai+1:=by rw[gO]
 refine⟨fun q hq=>.inl (b6.low q hq),b6.E7,b6.start,fun q y hq e0=> ?_,?_,fun id l' cu=> ?_,fun q hq e0 eF=> ?_,fun id l' cu=> ?_,?_,eJ,?_,fun q y k t aG iy e0=> ?_,fun t gd=> ?_⟩
 ·rcases e0 with e0|rfl
  ·exact b6.Dp q y hq e0
  ·intro h;rw[J]at h;cases h
 ·rw[Us];refine⟨fun id bd iv gb=> ?_,b6.wr.inj,b6.wr.fresh,fun id l' cu=> ?_,b6.wr.lT,b6.wr.px,b6.wr.ma⟩
  ·obtain⟨l',h1,h2⟩:=b6.wr.eK id bd iv gb;exact⟨l',h1,jm.mono X h2 (.refl _) (hold _ (b6.wr.gK id l' h1))⟩
  ·have:=b6.wr.gK id l' cu;omega
 ·by_cases e:id=(T p).ai
  ·by_cases eF:tS L F p
   ·exact .inr ⟨p,fR,h7,.inr rfl,eF,e⟩
   ·exfalso;have ah:=aN.step p x (.hP ts) J;obtain⟨_,_,h⟩:=ah;rcases h with⟨_,_,h⟩|⟨h,_⟩
    ·rw[h]at Ut;omega
    ·exact eF ⟨x,ts,J,h⟩
  ·rw[nf id e]at cu;rcases b6.kY id l' cu with h|⟨q,h1,h2,h3,ay⟩
   ·exact .inl h
   ·exact .inr ⟨q,h1,h2,.inl h3,ay⟩
 ·by_cases e:q=p
  ·subst e;refine⟨o,l,gO,qu,jm.mono X ak (pA _ (Nat.lt_succ_self _)) rfl,ak5,fun id l' cu hne=> ?_⟩;rw[nf id hne]at cu;have:=b6.gK id l' cu;omega
  ·rcases e0 with e0|h
   ·obtain⟨bd,l',h1,h2,h3,h0,ay⟩:=b6.fW q hq e0 eF;refine⟨bd,l',h1,hle _ _ h2,jm.mono X h3 (rk hle (b5 _)) (hold _ (b6.gK _ _ h2)),h0,fun id m hm hne=> ?_⟩;by_cases cK:id=(T p).ai
    ·subst cK;rw[qu]at hm;cases hm;have:=b6.gK _ _ h2;omega
    ·rw[nf id cK]at hm;exact ay id m hm hne
   ·exact absurd h e
 ·by_cases e:id=(T p).ai
  ·subst e;rw[qu]at cu;cases cu;omega
  ·rw[nf id e]at cu;have:=b6.gK id l' cu;omega
 ·refine b6.keeps.trans ⟨hle,by omega,fun b aa _=>hold b aa,fun id l' cu=> ?_,gU⟩;by_cases e:id=(T p).ai
  ·subst e;rw[qu]at cu;cases cu;exact .inr (.inl (by omega))
  ·rw[nf id e]at cu;exact .inl cu
 ·have:(a.put x.d v').defers=a.defers:=by cases x.d<;>rfl
  rw[this,Us];exact b6.c4
 ·rw[wG];by_cases e:q=p
  ·subst e;rw[J]at aG;cases aG;rw[if_pos ⟨iy,by rw[b6.size];exact av t iy⟩];exact aH.mono (pA _ (by omega))
  ·rw[if_neg (fun h=>e (D.dst q p y x k _ t aG J iy h.1))];rcases e0 with e0|h
   ·exact(b6.Em q y k t aG iy e0).mono (rk hle (b5 _))
   ·exact absurd h e
 ·rw[wG,if_neg (fun h=>gd p x _ J h.1 (.inr rfl))];exact b6.AT t fun q y k aG iy e0=>gd q y k aG iy (.inl e0)
theorem jZ.effect(b6:jZ X aS L F T V hg iF E c ι a w)(aN:jD call L [st.h] fr st aI st' F T N V)(D:lj X aS ops L cb dZ ms){p:Nat}{x:bL}(J:L[p]? =some (x,.eO))(fR:c<=p)(wO:∀q,q<p->E q)
 {aV:bA} {a':Act} {w':World} {v':Value} (av:∀t,x.d=some t->t<aS) (hw:bt X aV (T (p+1)) w') (U:fF (fw ι (T p).ai) aV w w') (ha:a'.tmps=(a.put x.d v').tmps) (aH:bq aV (V p) v'∨x.d=none) (nb:sr aV (F (p+1)).c4 a'.defers):
 ∃fC,jZ X aS L F T V hg iF (Be E p) (p+1) fC a' w':=by
 have h7:p<L.length:=(List.getElem?_eq_some_iff.1 J).1;have auz:=aN.WM D h7;have lC:=aN.k9 D fR (by omega);have alf:¬tS L F p:=fun⟨y,ts,aG,_⟩=>by rw[J]at aG;cases aG
 have U7:∀q,c<=q->q<L.length->E q->tS L F q->(q<p∧(T q).ai<(T p).ai)∨(p<q∧(T (p+1)).ai<=(T q).ai):=by
  intro q h1 h2 h3 ay;obtain⟨bd,l',b7,_⟩:=b6.fW q h1 h3 ay;have dn:(T (q+1)).ai=(T q).ai+1:=by rw[b7]
  rcases Nat.lt_trichotomy q p with h|h|h
  ·left;have:=aN.k9 D (p:=q+1) (q:=p) h (by omega);exact⟨h,by omega⟩
  ·subst h;exact absurd ay alf
  ·right;exact⟨h,aN.k9 D (p:=p+1) (q:=q) h (by omega)⟩
 let fC:bA:=fun id=>if id<(T (p+1)).ai then aV id else ι id
 have CD:∀id,id<(T (p+1)).ai->fC id=aV id:=fun id h=>if_pos h;have Cz:∀id,(T (p+1)).ai<=id->fC id=ι id:=fun id h=>if_neg (by omega);have hle:ι.le fC:=by
  intro id l hl;rcases Nat.lt_or_ge id (T (p+1)).ai with h|h
  ·rw[CD id h];apply U.le;refine kA.2 ⟨?_,hl⟩;rcases b6.kY id l hl with h1|⟨q,h1,h2,h3,ay,aY⟩
   ·omega
   ·rcases U7 q h1 h2 h3 ay with⟨_,b7⟩|⟨_,b7⟩<;>omega
  ·rw[Cz id h];exact hl
 have pA:fw fC (T (p+1)).ai=aV:=by
  funext id;unfold fw;by_cases h:id<(T (p+1)).ai
  ·rw[if_pos h,CD id h]
  ·rw[if_neg h,(hw.fresh id (by omega)).1]
 have ama:∀n,(T (p+1)).ai<=n->aV.le (fw fC n):=by
  intro n hn;rw[<-pA];exact rk (.refl _) hn
 have hT:fF ι fC w w':=by
  refine⟨hle,U.size,fun b aa ae=>U.kept b aa fun id l hl ah=>ae id l (kA.1 hl).2 ah,fun id l hl=> ?_,U.gU⟩;rcases Nat.lt_or_ge id (T (p+1)).ai with h|h
  ·rw[CD id h]at hl;rcases U.new id l hl with h1|h1|⟨j,m,h1,h2,h3⟩
   ·exact .inl (kA.1 h1).2
   ·exact .inr (.inl h1)
   ·exact .inr (.inr ⟨j,m,(kA.1 h1).2,h2,h3⟩)
  ·rw[Cz id h]at hl;exact .inl hl
 have eJ:a'.tmps.size=aS:=by rw[ha,<-b6.size];cases x.d<;>simp[Act.put]
 refine⟨fC,fun q hq=> ?_,h7,.inr ⟨p,x,rfl,J⟩,fun q y hq e0=> ?_,by rw[pA];exact hw,fun id l hl=> ?_,fun q hq e0 eF=> ?_,fun id l hl=> ?_,b6.keeps.trans hT,eJ,by rw[pA];exact nb,fun q y k t aG iy e0=> ?_,fun t gd=> ?_⟩
 ·by_cases e:q=p
  ·exact .inr e
  ·exact .inl (wO q (by omega))
 ·rcases e0 with e0|h
  ·exact b6.Dp q y (by omega) e0
  ·omega
 ·rcases Nat.lt_or_ge id (T (p+1)).ai with h|h
  ·exact .inl h
  ·rw[Cz id h]at hl;rcases b6.kY id l hl with h1|⟨q,h1,h2,h3,ay,aY⟩
   ·omega
   ·rcases U7 q h1 h2 h3 ay with⟨_,b7⟩|⟨b7,_⟩
    ·omega
    ·exact .inr ⟨q,b7,h2,.inl h3,ay,aY⟩
 ·rcases e0 with e0|h
  ·have alx:=eF;obtain⟨bd,l',h1,h2,h3,h0,ay⟩:=b6.fW q (by omega) e0 eF;have zG:q<L.length:=by obtain⟨y,ts,aG,_⟩:=alx;exact(List.getElem?_eq_some_iff.1 aG).1
   have w7:(T (p+1)).ai<=(T q).ai:=aN.k9 D hq (by omega);refine⟨bd,l',h1,hle _ _ h2,jm.mono X h3 (rk hle (b5 _)) ?_,h0,fun id m hm hne=> ?_⟩
   ·exact U.kept l'.cJ (b6.gK _ _ h2) fun id m hm _=>ay id m (kA.1 hm).2 (by have:=(kA.1 hm).1;omega)
   ·rcases Nat.lt_or_ge id (T (p+1)).ai with h|h
    ·rw[CD id h]at hm;rcases U.new id m hm with aL|aL|⟨j,fq,aL,_,aR⟩
     ·exact ay id m (kA.1 aL).2 hne
     ·have:=b6.gK _ _ h2;omega
     ·have:=ay j fq (kA.1 aL).2 (by have:=(kA.1 aL).1;omega);omega
    ·rw[Cz id h]at hm;exact ay id m hm hne
  ·omega
 ·rcases Nat.lt_or_ge id (T (p+1)).ai with h|h
  ·rw[CD id h]at hl;exact hw.gK id l hl
  ·rw[Cz id h]at hl;exact e4 (b6.gK id l hl) U.size
 ·rw[ha,wG];by_cases e:q=p
  ·subst e;rw[J]at aG;cases aG;rw[if_pos ⟨iy,by rw[b6.size];exact av t iy⟩];rcases aH with aH|aH
   ·exact aH.mono (ama _ (Nat.le_max_left _ _))
   ·rw[iy]at aH;cases aH
  ·rw[if_neg (fun h=>e (D.dst q p y x k _ t aG J iy h.1))];rcases e0 with e0|h
   ·refine(b6.Em q y k t aG iy e0).mono (rk hle ?_);omega
   ·exact absurd h e
 ·rw[ha,wG,if_neg (fun h=>gd p x _ J h.1 (.inr rfl))];exact b6.AT t fun q y k aG iy e0=>gd q y k aG iy (.inl e0)
end
end Go.an
namespace Go.an
variable{X:Ctx}{call:bQ}
theorem ap4{x:dd}(h:x.rP=true):x.inPlace=true:=by cases x<;>first|rfl|cases h
theorem abO{x:dd}(h:x.s8=true):x.inPlace=true:=by cases x<;>first|rfl|cases h
theorem WE{op:Op}{x:dd}(cN:X.jQ op x=true)(J:x.rP=true∨x.s8=true)(c:Call):op≠.defer c:=by
 intro hc;rw[hc]at cN;cases zM:x with
 |ti fn p q=>rw[zM]at cN;cases fn<;>cases cN
 |vd p=>rw[zM]at J;rcases J with h|h<;>cases h
 |refuse=>rw[zM]at J;rcases J with h|h<;>cases h
 |qn p q=>rw[zM]at J;rcases J with h|h<;>cases h
 |ext y=>rw[zM]at cN;cases y<;>cases cN
 |_=>rw[zM]at cN;cases cN
section
variable{aS:Nat}{ops:Array Oper}{L:List (bL×cL)}{cb:List Nat}{dZ:List Tmp}{ms:List Nat}
variable{fr aI:aT}{st st':au}{F:Nat->aT}{T:Nat->au}{N:Nat->List (ao bw)}{V:Nat->Value}{hg:bA}{iF:World}{E:Nat->Prop}{c:Nat}{ι:bA}{a:Act}{w:World}
variable{b:dI}{bz:Bool->List Frame}{k:List Item}{i:Nat}{rest:List Nat}
theorem yt{x:bL}{o:Oper}{t:Bool}(h:mQ X aS ops x o=true)(ab:cB ι fr a aS)(U:kS fr x.g t):Region.wanted o (yielded ops a.tmps)=t:=by
 rcases abf h ab U (by simp)with⟨e,hw⟩|⟨e,hw⟩
 ·cases e;exact hw
 ·cases e;exact hw
theorem jZ.Zc(b6:jZ X aS L F T V hg iF E c ι a w)(aN:jD call L [st.h] fr st aI st' F T N V)(D:lj X aS ops L cb dZ ms)(h0:∀id,st.ai<=id->hg id=none)(ax:∀t∈dZ,(F 0).tmp t=ib)
 (gN:∀p,E p->mX ops cb E p) {p:Nat} {x:bL} {gl:cL} (J:L[p]? =some (x,gl)) (aQ:mX ops cb E p) (hn:¬E p) (fR:c<=p):
 cB (fw ι (T p).ai) ((F p).only gl.looks) ⟨a.tmps,[]⟩ aS∧bt X (fw ι (T p).ai) ⟨(T c).h,(T p).ai⟩ w:=by
 have h7:p<L.length:=(List.getElem?_eq_some_iff.1 J).1;refine⟨⟨fun t=> ?_,b6.size,trivial⟩,?_⟩
 ·rw[WV];by_cases h:t∈gl.looks
  ·rw[if_pos h];exact b6.look aN D h0 ax gN J aQ hn (.inr h)
  ·rw[if_neg h];exact .top _
 ·have lC:=aN.k9 D fR (by omega);refine bt.look (n:=(T c).ai) (ι:=fw ι (T c).ai) b6.wr (rk (.refl ι) lC) (fun id nc=> ?_) lC (fun id l hl=>b6.gK id l (kA.1 hl).2);show(if id<(T p).ai then ι id else none)=none;rw[if_neg (by omega)]
theorem afv(eu:mW X call)(b6:jZ X aS L F T V hg iF E c ι a w)(aN:jD call L [st.h] fr st aI st' F T N V)(D:lj X aS ops L cb dZ ms)(h0:∀id,st.ai<=id->hg id=none)(ax:∀t∈dZ,(F 0).tmp t=ib)
 (gN:∀p,E p->mX ops cb E p) {p:Nat} (hp:p<L.length) (mI:∀x c,L[p]? =some (x,c)->Jp call x c (F p) (T p)) (ae:cb[p]? =some i) (aQ:mX ops cb E p) (hn:¬E p) (aa:qf hg (F 0).b4 b.b4) (qD:kR b (F 0).bk hg bz) (iw:(F c).bk=(F 0).bk) (ix:(F c).b4=(F 0).b4):
 ∃bJ fC a' w',Steps X.P (lone (b.at a (.inRegion ops (i::rest)::k)) (bz (F c).cF) w) (lone (b.at a' (.inRegion ops rest::k)) (bz (F bJ).cF) w')∧jZ X aS L F T V hg iF (Be E p) bJ fC a' w'∧
  (F bJ).bk=(F 0).bk∧(F bJ).b4=(F 0).b4:=by
 obtain⟨⟨x,gl⟩,J⟩:∃x,L[p]? =some x:=⟨_,a9 hp⟩;obtain⟨o,ak,bP⟩:=D.op p i x gl ae J;obtain⟨ly,kF⟩:=MY bP;have ju:p<ops.size:=by rw[<-D.vc];exact hp
 have fR:c<=p:=by
  rcases Nat.lt_or_ge p c with h|h
  ·exact absurd (b6.low p h) hn
  ·exact h
 have ah:=aN.step p x gl J;have rG:=aN.k9 D (Nat.zero_le p) (by omega);rw[aN.t0]at rG;have Ch:hg.le (fw ι (T p).ai):=by
  intro id l hl;refine kA.2 ⟨?_,b6.keeps.le _ _ hl⟩;rcases Nat.lt_or_ge id st.ai with h|h
  ·omega
  ·rw[h0 id h]at hl;cases hl
 cases gl with
 |eO=>
  have wO:∀q,q<p->E q:=fun q hq=>D.before gN p aQ ju q (D.eO p x q J hq);obtain⟨iU,hd,ym,vM,vN⟩:=b6.upto aN D p fR (by omega) (fun r _ h=>wO r h);have ab:cB (fw ι (T p).ai) (F p) a aS:=⟨fun t=>b6.look aN D h0 ax gN J aQ hn (.inl rfl),b6.size,by rw[hd];exact b6.c4.mono (rk (.refl ι) (aN.k9 D fR (by omega)))⟩;rcases ah with⟨fx|⟨fx,u,br,ng⟩,aH,ar,gO,_⟩|⟨fx,eZ,jd,_,ar,_⟩
  ·have mM:=yt bP ab fx;have dN:=I0 (P:=X.P) (b:=b) (k:=k) (cs:=bz (F c).cF) (w:=w) (rest:=rest) ak mM;obtain⟨cn,cz,dp,jS⟩:=vw (F p) x.d undef;obtain⟨fC,km⟩:=b6.effect aN D J fR wO (aV:=fw ι (T p).ai) (a':=a.put x.d undef) (w':=w) (v':=undef) kF (by rw[gO];exact iU) (.refl _ _) rfl (.inl (by rw[aH];exact bq.undef _)) (by
    rw[ar,jS];have:(a.put x.d undef).defers=a.defers:=by cases x.d<;>rfl
    rw[this];exact ab.c4)
   refine⟨p+1,fC,_,w,?_,km,?_,?_⟩
   ·rw[ar,dp,ym,ly];exact .one dN
   ·rw[ar,cn,vM,iw]
   ·rw[ar,cz,vN,ix]
  ·exact absurd ng (mI x .eO J rfl fx u br)
  ·have mM:=yt bP ab fx;obtain⟨aV,a',w',dN,eG,ev,U,alv,alH,v',sP⟩:=Xo (b:=b) (bz:=bz) (k:=k) (rest:=rest) bP eu ak mM ab iU (by rw[vN,ix];exact aa.mono Ch) (by rw[vM,iw];exact qD.mono Ch) jd;have Gs:=vw ⟨(F p).t,eZ.c4,eZ.bk,eZ.cF,eZ.b4⟩ x.d (V p);have aH:bq aV (V p) v'∨x.d=none:=by
    cases CZ:x.d with
    |none=>exact .inr rfl
    |some t=>
     left;have:=eG.tmp t;rw[sd,if_pos CZ,sP,<-ly,wG,if_pos ⟨CZ,by rw[b6.size];exact kF t CZ⟩]at this;exact this
   obtain⟨fC,km⟩:=b6.effect aN D J fR wO (aV:=aV) (a':=a') (w':=w') (v':=v') kF ev U (by rw[sP,ly]) aH (by
    rw[ar,Gs.2.2.2];have:=eG.c4;rw[(vw eZ x.d (V p)).2.2.2]at this;exact this)
   refine⟨p+1,fC,a',w',?_,km,?_,?_⟩
   ·rw[ar,Gs.2.2.1,<-ym];exact dN
   ·rw[ar,Gs.1];exact alv.trans (vM.trans iw)
   ·rw[ar,Gs.2.1];exact alH.trans (vN.trans ix)
 |read n ts=>
  obtain⟨aL,aR⟩:=b6.Zc aN D h0 ax gN J aQ hn fR;have Gn:¬tS L F p:=fun⟨y,En,aG,_⟩=>by rw[J]at aG;cases aG
  obtain⟨_,_,gO,mK⟩:=ah;rcases mK with⟨fx,aH⟩|⟨fx,lY⟩
  ·have mM:=yt bP aL fx;have dN:=I0 (P:=X.P) (b:=b) (a:=a) (k:=k) (cs:=bz (F c).cF) (w:=w) (rest:=rest) ak mM;exact⟨c,ι,_,w,.one dN,by rw[<-ly];exact b6.float D J (by simp) fR Gn kF (by rw[aH];exact bq.undef _),iw,ix⟩
  ·have mM:=yt bP aL fx;have akv:(List.range p).countP (fun q=>decide (c<=q)&&sK L q)<n+1:=by
    refine Nat.lt_succ_of_le (Nat.le_trans (List.countP_mono_left fun q hq hh=> ?_) (D.back p x n ts J));simp only[bZ,decide_eq_true_eq]at hh⊢;refine⟨hh.2,?_⟩;cases Gx:(ms.getD p 0).testBit q with
    |false=>rfl
    |true=>
     exfalso;have e0:=D.before gN p aQ ju q Gx;have he:=hh.2;unfold sK at he;cases aG:L[q]? with
     |none=>rw[aG]at he;cases he
     |some y=>
      obtain⟨fi,abm⟩:=y;rw[aG]at he;cases abm with
      |eO=>exact b6.Dp q fi hh.1 e0 aG
      |hP _=>cases he
      |read _ _=>cases he
   obtain⟨hh,m8,ek,aA,e2⟩:=Zb _ _ lY _ akv;have b0:=aN.snap b6.start p fR (by omega);rw[b0]at aA;cases aA;have cN:=Hy bP;have qC:=D.rd p x n ts J;obtain⟨_,_,cI,_⟩:=MP cN aL aR e2 (ap4 qC);obtain⟨_,_,v',fS,aH⟩:=cI qC;have CS:(execOp a.eval o).run X.P w= .ok (.value v') w:=fS;have dN:=NY (b:=b) (a:=a) (k:=k) (cs:=bz (F c).cF) (rest:=rest) ak mM (.inr (WE cN (.inl qC))) CS;exact⟨c,ι,_,w,.one dN,by rw[<-ly];exact b6.float D J (by simp) fR Gn kF (by rw[gO];exact aH),iw,ix⟩
 |hP ts=>
  obtain⟨aL,aR⟩:=b6.Zc aN D h0 ax gN J aQ hn fR;obtain⟨_,_,mK⟩:=ah;rcases mK with⟨fx,aH,gO⟩|⟨fx,eZ,jd⟩
  ·have mM:=yt bP aL fx;have dN:=I0 (P:=X.P) (b:=b) (a:=a) (k:=k) (cs:=bz (F c).cF) (w:=w) (rest:=rest) ak mM;have Gn:¬tS L F p:=fun⟨y,En,aG,ev⟩=>by
    rw[J]at aG;cases aG;have h1:hY ((F p).only ts) x.g (some true) (some false) none=some false:=fx;have h2:hY ((F p).only ts) x.g (some true) (some false) none=some true:=ev;rw[h1]at h2;cases h2
   exact⟨c,ι,_,w,.one dN,by rw[<-ly];exact b6.float D J (by simp) fR Gn kF (by rw[aH];exact bq.undef _),iw,ix⟩
  ·have mM:=yt bP aL fx;have jc:=D.hP p x ts J;have cN:=Hy bP;obtain⟨Ht,ali,_,gO,ez⟩:=OZ (h0:=(T p).h) (ai:=(T p).ai) jc jd;obtain⟨_,_,_,eF⟩:=MP cN aL aR (ez (T c).h) (abO jc);obtain⟨oS,O,ex,v',w',aA,e2,fS,Lf,aH,ev,U⟩:=eF jc;have kJ:(some Ht:Option bw)=some oS:=by
    have:=congrArg (fun s:au=>s.h.get (T p).ai) aA;simp only[ao.ey,if_true]at this;exact this
   cases kJ;have alh:jm X (hJ (fw ι (T p).ai) (T p).ai ⟨w.heap.size,0,ex,id⟩) w' Ht ⟨w.heap.size,0,ex,id⟩:=by
    obtain⟨l,hl,hm⟩:=ev.eK (T p).ai Ht (by show((T c).h.set (T p).ai Ht).get (T p).ai=_;rw[ao.ey,if_pos rfl]) ali;have:hJ (fw ι (T p).ai) (T p).ai ⟨w.heap.size,0,ex,id⟩ (T p).ai=some ⟨w.heap.size,0,ex,id⟩:=if_pos rfl;have e:=this.symm.trans hl;cases e;exact hm
   have CS:(execOp a.eval o).run X.P w= .ok (.value v') w':=fS;have dN:=NY (b:=b) (a:=a) (k:=k) (cs:=bz (F c).cF) (rest:=rest) ak mM (.inr (WE cN (.inr jc))) CS;exact⟨c,_,_,w',.one dN,by rw[<-ly];exact b6.agv aN D J fR hn kF gO (by rfl) (by exact LQ) Lf U.gU aH alh,iw,ix⟩
theorem aft(eu:mW X call)(b6:jZ X aS L F T V hg iF E c ι a w)(aN:jD call L [st.h] fr st aI st' F T N V)(D:lj X aS ops L cb dZ ms)(h0:∀id,st.ai<=id->hg id=none)(ax:∀t∈dZ,(F 0).tmp t=ib)
 (gN:∀p,E p->mX ops cb E p) {p:Nat} (hp:p<L.length) {x:bL} (J:L[p]? =some (x,.eO)) (ae:cb[p]? =some i) (aQ:mX ops cb E p) (hn:¬E p) (iw:(F c).bk=(F 0).bk) (ix:(F c).b4=(F 0).b4)
 (aur:L.length=p+1) (fx:kS (F p) x.g true) (zt:x.o.m0=true) {u:Value} {ZQ:au} (jd:b2 call x.o (F p) (T p)= .bk u ZQ):
 ∃aV v' w',Steps X.P (lone (b.at a (.inRegion ops (i::rest)::k)) (bz (F p).cF) w) (lone (b.panics a (.inRegion ops (i::rest)::k) v') (bz (F p).cF) w')∧bq aV u v'∧bt X aV ZQ w'∧fF hg aV iF w'∧cB aV (F p) a aS∧
  (F c).cF=(F p).cF∧(F p).bk=(F 0).bk∧(F p).b4=(F 0).b4:=by
 obtain⟨o,ak,bP⟩:=D.op p i x .eO ae J;have ju:p<ops.size:=by rw[<-D.vc];exact hp
 have fR:c<=p:=by
  rcases Nat.lt_or_ge p c with h|h
  ·exact absurd (b6.low p h) hn
  ·exact h
 have wO:∀q,q<p->E q:=fun q hq=>D.before gN p aQ ju q (D.eO p x q J hq);obtain⟨iU,hd,ym,vM,vN⟩:=b6.upto aN D p fR (by omega) (fun r _ h=>wO r h);have ab:cB (fw ι (T p).ai) (F p) a aS:=⟨fun t=>b6.look aN D h0 ax gN J aQ hn (.inl rfl),b6.size,by rw[hd];exact b6.c4.mono (rk (.refl ι) (aN.k9 D fR (by omega)))⟩;have mM:=yt bP ab fx;obtain⟨aV,v',w',ah,aH,ev,U⟩:=Xp (b:=b) (k:=k) (rest:=rest) (cs:=bz (F p).cF) bP eu ak mM ab iU zt jd;have xg:fw ι (T p).ai=ι:=by
  refine Kn fun id nc=> ?_;cases hl:ι id with
  |none=>rfl
  |some l=>
   exfalso;rcases b6.kY id l hl with h|⟨q,h1,h2,h3,ay,aY⟩
   ·have:=aN.k9 D fR (by omega);omega
   ·obtain⟨bd,l',b7,_⟩:=b6.fW q h1 h3 ay;have dn:(T (q+1)).ai=(T q).ai+1:=by rw[b7]
    have:=aN.k9 D (p:=q+1) (q:=p) (by
     have:q≠p:=fun e=>by subst e;exact hn h3
     omega) (by omega)
    omega
 rw[xg]at U ab;exact⟨aV,v',w',ah,aH,ev,b6.keeps.trans U,ab.mono U.le,ym.symm,vM.trans iw,vN.trans ix⟩
end
theorem QB{α:Type}{p q:α->Bool}:∀{l:List α},(∀x∈l,p x=true->q x=true)->(∃x∈l,q x=true∧p x=false)->l.countP p<l.countP q
 |[],_,⟨x,J,_⟩=>by cases J
 |y::l,h,⟨x,J,h1,h2⟩=>by
  have hle:l.countP p<=l.countP q:=List.countP_mono_left fun z ax=>h z (List.mem_cons_of_mem _ ax);rw[List.countP_cons,List.countP_cons];rcases List.mem_cons.1 J with rfl|J
  ·simp only[h1,h2,if_true];simp;omega
  ·have:=QB (fun z ax=>h z (List.mem_cons_of_mem _ ax)) ⟨x,J,h1,h2⟩;have aG:=h y List.mem_cons_self;cases hp:p y with
   |false=>simp;split<;>omega
   |true=>simp[aG hp];omega
section
variable{aS:Nat}{ops:Array Oper}{L:List (bL×cL)}{cb:List Nat}{dZ:List Tmp}{ms:List Nat}
variable{fr aI:aT}{st st':au}{F:Nat->aT}{T:Nat->au}{N:Nat->List (ao bw)}{V:Nat->Value}{hg:bA}{iF:World}
variable{b:dI}{bz:Bool->List Frame}{k:List Item}
def mv(cb:List Nat)(listed:Array Bool):Nat->Prop:=fun p=>∃i,cb[p]? =some i∧listed.getD i false=true
theorem ajr{listed:Array Bool}{i:Nat}:listed.getD i false=true->listed.getD i true=true:=by
 intro h;rcases Nat.lt_or_ge i listed.size with ae|ae
 ·simpa[ae]using h
 ·simp[ae]at h
theorem Ue{listed:Array Bool}{i:Nat}(ae:i<listed.size)(h:listed.getD i false≠true):listed.getD i true=false:=by
 simpa[ae]using h
theorem lj.abP(D:lj X aS ops L cb dZ ms){listed:Array Bool}(eJ:listed.size=ops.size)(h:Region.ready .any ops listed=[]):∀p,p<L.length->mv cb listed p:=by
 intro p
 induction p using Nat.strongRecOn with
 |_ p a0=>
  intro hp;have ju:p<ops.size:=by rw[<-D.vc];exact hp
  have ae:cb[p]? =some (cb[p]'(by rw[D.xw];exact ju)):=a9 _;obtain⟨⟨x,gl⟩,J⟩:∃x,L[p]? =some x:=⟨_,a9 hp⟩;obtain⟨o,ak,_⟩:=D.op p _ x gl ae J;refine⟨_,ae,?_⟩;by_cases hl:listed.getD (cb[p]'(by rw[D.xw];exact ju)) false=true
  ·exact hl
  ·exfalso;have aP:=(Array.getElem?_eq_some_iff.1 ak).1;have zB:(cb[p]'(by rw[D.xw];exact ju))∈Region.ready .any ops listed:=by
    rw[mem_ready];refine⟨Ue (by rw[eJ];exact aP) hl,o,ak,fun e he aa=> ?_⟩;obtain⟨q,hq,alz⟩:=D.afG p _ o ae ak e he aa;obtain⟨j,hj,e6⟩:=a0 q hq (by omega);rw[alz]at hj;cases hj;exact e6
   rw[h]at zB;cases zB
theorem afs(eu:mW X call)(aN:jD call L [st.h] fr st aI st' F T N V)(D:lj X aS ops L cb dZ ms)(h0:∀id,st.ai<=id->hg id=none)(ax:∀t∈dZ,(F 0).tmp t=ib)
 (aa:qf hg (F 0).b4 b.b4) (qD:kR b (F 0).bk hg bz) (n:Nat) (mI:A6 call L F T n):∀(fuel t:Nat) (listed:Array Bool) (c:Nat) (ι:bA) (a:Act) (w:World),listed.size=ops.size->(List.range ops.size).countP (fun i=> !listed.getD i true)<=fuel->
 (∀p,mv cb listed p->mX ops cb (mv cb listed) p)->jZ X aS L F T V hg iF (mv cb listed) c ι a w->(F c).bk=(F 0).bk->(F c).b4=(F 0).b4->
 (∃kQ bJ fC a' w',Steps X.P (lone (b.at a (.inRegion ops (Region.linearise.go .any ops fuel t listed [])::k)) (bz (F c).cF) w) (lone (b.at a' (.inRegion ops []::k)) (bz (F bJ).cF) w')∧
  (∀p,p<L.length->kQ p)∧jZ X aS L F T V hg iF kQ bJ fC a' w'∧(F bJ).bk=(F 0).bk∧(F bJ).b4=(F 0).b4∧(kQ n->mv cb listed n))∨
 (∃kQ bJ fC a' w' i rest,Steps X.P (lone (b.at a (.inRegion ops (Region.linearise.go .any ops fuel t listed [])::k)) (bz (F c).cF) w) (lone (b.at a' (.inRegion ops (i::rest)::k)) (bz (F bJ).cF) w')∧
  n<L.length∧cb[n]? =some i∧(∀p,kQ p->mX ops cb kQ p)∧mX ops cb kQ n∧¬kQ n∧jZ X aS L F T V hg iF kQ bJ fC a' w'∧(F bJ).bk=(F 0).bk∧(F bJ).b4=(F 0).b4):=by
 intro fuel
 induction fuel with
 |zero=>
  intro t listed c ι a w eJ Cu uQ b6 iw ix;refine .inl ⟨mv cb listed,c,ι,a,w,.refl _ _,fun p hp=> ?_,b6,iw,ix,id⟩;have ju:p<ops.size:=by rw[<-D.vc];exact hp
  have ae:cb[p]? =some (cb[p]'(by rw[D.xw];exact ju)):=a9 _;obtain⟨⟨x,gl⟩,J⟩:∃x,L[p]? =some x:=⟨_,a9 hp⟩;obtain⟨o,ak,_⟩:=D.op p _ x gl ae J;have aP:=(Array.getElem?_eq_some_iff.1 ak).1;refine⟨_,ae,?_⟩;have h1:=List.countP_eq_zero.1 (Nat.le_zero.1 Cu) _ (List.mem_range.2 aP);by_cases hl:listed.getD (cb[p]'(by rw[D.xw];exact ju)) false=true
  ·exact hl
  ·rw[Ue (by rw[eJ];exact aP) hl]at h1;simp at h1
 |succ fuel a0=>
  intro t listed c ι a w eJ Cu uQ b6 iw ix;simp only[Region.linearise.go];change(∃kQ bJ fC a' w',Steps X.P (lone (b.at a (.inRegion ops (match(Region.ready .any ops listed)[t%(Region.ready .any ops listed).length]? with
   |some i=>Region.linearise.go .any ops fuel (t/(Region.ready .any ops listed).length) (listed.setIfInBounds i true) [i]
   |none=>[].reverse)::k)) (bz (F c).cF) w) _∧_)∨(∃kQ bJ fC a' w' i rest,Steps X.P (lone (b.at a (.inRegion ops (match(Region.ready .any ops listed)[t%(Region.ready .any ops listed).length]? with
   |some i=>Region.linearise.go .any ops fuel (t/(Region.ready .any ops listed).length) (listed.setIfInBounds i true) [i]
   |none=>[].reverse)::k)) (bz (F c).cF) w) _∧_)
  cases qx:(Region.ready .any ops listed)[t%(Region.ready .any ops listed).length]? with
  |none=>
   have CI:Region.ready .any ops listed=[]:=by
    cases qC:Region.ready .any ops listed with
    |nil=>rfl
    |cons x xs=>
     rw[qC]at qx;have aP:t%(x::xs).length<(x::xs).length:=Nat.mod_lt _ (by simp);simp at qx;simp at aP;omega
   exact .inl ⟨mv cb listed,c,ι,a,w,.refl _ _,D.abP eJ CI,b6,iw,ix,id⟩
  |some i=>
   simp only[];rw[linearise_go_acc,List.reverse_singleton,List.singleton_append];obtain⟨LJ,o,ak,ez⟩:=mem_ready.1 (List.mem_of_getElem? qx);have aP:=(Array.getElem?_eq_some_iff.1 ak).1;obtain⟨p,hp⟩:=D.asA i aP;have UZ:p<L.length:=by rw[D.vc,<-D.xw];exact(List.getElem?_eq_some_iff.1 hp).1
   have hn:¬mv cb listed p:=by
    rintro⟨j,hj,e6⟩;rw[hp]at hj;cases hj;rw[ajr e6]at LJ;cases LJ
   have aQ:mX ops cb (mv cb listed) p:=by
    intro gZ bd ea iv e he zo r s3;rw[hp]at ea;cases ea;rw[ak]at iv;cases iv;exact⟨_,s3,ez e he zo⟩
   by_cases ng:p=n
   ·subst ng;exact .inr ⟨mv cb listed,c,ι,a,w,i,_,.refl _ _,UZ,hp,uQ,aQ,hn,b6,iw,ix⟩
   obtain⟨bJ,fC,a',w',ah,km,als,alG⟩:=afv (b:=b) (bz:=bz) (k:=k) (rest:=Region.linearise.go .any ops fuel (t/(Region.ready .any ops listed).length) (listed.setIfInBounds i true) []) eu b6 aN D h0 ax uQ UZ (fun x c J=>mI p x c ng J) hp aQ hn aa qD iw ix;have gN:Be (mv cb listed) p=mv cb (listed.setIfInBounds i true):=by
    funext q;apply propext;constructor
    ·rintro(⟨j,hj,e6⟩|rfl)
     ·exact⟨j,hj,getD_set_true e6⟩
     ·exact⟨i,hp,by simp[eJ,aP]⟩
    ·rintro⟨j,hj,e6⟩;by_cases e:j=i
     ·subst e;exact .inr (D.inj q p j hj hp)
     ·left;refine⟨j,hj,?_⟩;rw[getD_set_ne false (Ne.symm e)]at e6;exact e6
   rw[gN]at km;have akt:∀p,mv cb (listed.setIfInBounds i true) p->mX ops cb (mv cb (listed.setIfInBounds i true)) p:=by
    rw[<-gN];rintro q (hq|rfl) gZ bd ea iv e he zo r s3
    ·exact .inl (uQ q hq gZ bd ea iv e he zo r s3)
    ·exact .inl (aQ gZ bd ea iv e he zo r s3)
   have aku:(List.range ops.size).countP (fun j=> !(listed.setIfInBounds i true).getD j true)<=fuel:=by
    refine Nat.le_of_lt_succ (e4 (QB (fun j _ hj=> ?_) ⟨i,List.mem_range.2 aP,?_,?_⟩) Cu)
    ·by_cases e:j=i
     ·subst e;simp[eJ,aP]at hj
     ·rw[getD_set_ne true (Ne.symm e)]at hj;exact hj
    ·rw[LJ];rfl
    ·simp[eJ,aP]
   rcases a0 (t/(Region.ready .any ops listed).length) (listed.setIfInBounds i true) bJ fC a' w' (by simp[eJ]) aku akt km als alG with⟨kQ,Ka,OE,Jt,jC,e1,F3,aj6,alo,alB,akx⟩|⟨kQ,Ka,OE,Jt,jC,gZ,aqc,e1,alE⟩
   ·refine .inl ⟨kQ,Ka,OE,Jt,jC,ah.trans e1,F3,aj6,alo,alB,fun h=> ?_⟩;have:=akx h;rw[<-gN]at this;rcases this with h|h
    ·exact h
    ·exact absurd h.symm ng
   ·exact .inr ⟨kQ,Ka,OE,Jt,jC,gZ,aqc,ah.trans e1,alE⟩
theorem afu{ι:bA}{a:Act}{w:World}{id:Nat}(hm:X.P.follows .mixedOrders=true)(eu:mW X call)(D:lj X aS ops L cb dZ ms)(ab:cB ι fr a aS)(hw:bt X ι st w)(aa:qf ι fr.b4 b.b4)(aQ:kR b fr.bk ι bz):
 gC X b aS bz (lone (b.at a (.code (.region id ops true)::k)) (bz fr.cF) w) k fr ι w (hR call L [st.h] (oT fr dZ) st):=by
 cases jd:hR call L [st.h] (oT fr dZ) st with
 |no=>trivial
 |out e aI st'=>
  obtain⟨F,T,N,V,aN,Cw⟩:=Q8 _ _ _ _ _ _ _ jd;obtain⟨Oy,Oz,OA,atQ,atS⟩:=XH dZ fr
  let fM:World:={w with drawn:=w.drawn+1}
  have oJ:bt X ι st fM:=hw.IM X rfl;have oC:F 0=oT fr dZ:=aN.f0;have Gc:∀id,st.ai<=id->ι id=none:=fun id h=>(hw.fresh id h).1;have nX:fw ι (T 0).ai=ι:=by rw[aN.t0];exact Kn Gc
  have sY:∀p,¬mv cb (Array.replicate ops.size false) p:=by
   rintro p ⟨i,_,ae⟩;by_cases h:i<ops.size<;>simp[h]at ae
  have b6:jZ X aS L F T V ι fM (mv cb (Array.replicate ops.size false)) 0 ι a fM:=by
   refine⟨fun p hp=>by omega,Nat.zero_le _,.inl rfl,fun p x _ h=>absurd h (sY p),by rw[nX,aN.t0];exact oJ,fun id l hl=>.inl ?_,fun p _ h=>absurd h (sY p),oJ.gK,.refl _ _,ab.size,by rw[nX,oC,atS];exact ab.c4,fun p x gl t _ _ h=>absurd h (sY p),fun t _=> ?_⟩
   ·rw[aN.t0];rcases Nat.lt_or_ge id st.ai with h|h
    ·exact h
    ·rw[Gc id h]at hl;cases hl
   ·rw[oC,Oy];by_cases h:t∈dZ
    ·rw[if_pos h];exact .top _
    ·rw[if_neg h];exact ab.tmp t
  have nj:=asc (P:=X.P) (b:=b) (a:=a) (k:=k) (cs:=bz fr.cF) (w:=w) (ops:=ops) (id:=id);have alI:Region.schedule (X.P.follows .mixedOrders) ops (w.tape w.drawn (.order b.fn id))=Region.linearise.go .any ops ops.size (w.tape w.drawn (.order b.fn id)) (Array.replicate ops.size false) []:=by
   simp only[Region.schedule,hm,Bool.true_or,if_true];rfl
  rw[alI]at nj;have xd:bz (F 0).cF=bz fr.cF:=by rw[oC,atQ]
  have sV:=fun n mI=>afs (b:=b) (bz:=bz) (k:=k) eu aN D Gc (fun t h=>by rw[oC,Oy,if_pos h]) (by rw[oC,OA];exact aa) (by rw[oC,Oz];exact aQ) n mI ops.size (w.tape w.drawn (.order b.fn id)) (Array.replicate ops.size false) 0 ι a fM (by simp) (by
   refine Nat.le_trans List.countP_le_length ?_;simp) (fun p h=>absurd h (sY p)) b6 rfl rfl
  rw[xd]at sV;rcases Cw with⟨rfl,mI,gE,alU⟩|⟨n,x,u,hlen,J,mI,fx,zt,rfl,rfl,zE⟩
  case inr=>
   rcases sV n mI with⟨kQ,bJ,fC,a',w',ah,ez,km,k5,mJ,gb⟩|⟨kQ,bJ,fC,a',w',i,rest,ah,mH,ae,uQ,qC,ald,km,k5,mJ⟩
   ·exact absurd (gb (ez n (by omega))) (sY n)
   ·obtain⟨aV,v',jC,mK,aH,CX,js,Cx,aA,e2,b0⟩:=aft (b:=b) (bz:=bz) (k:=k) (rest:=rest) eu km aN D Gc (fun t h=>by rw[oC,Oy,if_pos h]) uQ mH J ae qC ald k5 mJ hlen fx zt zE;rw[aA]at ah;exact⟨aV,a',jC,Cx,CX,fF.trans (w':=fM) (fF.IM ι rfl) js,by rw[e2,oC,Oz],by rw[b0,oC,OA],v',_,aH,(Steps.head nj ah).trans mK⟩
  obtain⟨kQ,bJ,fC,a',w',ah,ez,km,k5,mJ,_⟩:∃kQ bJ fC a' w',_:=by
   rcases sV L.length mI with h|⟨_,_,_,_,_,_,_,_,mH,_⟩
   ·exact h
   ·exact absurd mH (Nat.lt_irrefl _)
  obtain⟨iU,hd,ym,vM,vN⟩:=km.upto aN D L.length km.E7 (b5 _) (fun r _ h=>ez r h);have xg:fw fC (T L.length).ai=fC:=by
   refine Kn fun id nc=> ?_;cases hl:fC id with
   |none=>rfl
   |some l=>
    exfalso;rcases km.kY id l hl with h|⟨p,h1,h2,h3,ay,aY⟩
    ·have:=aN.k9 D km.E7 (b5 _);omega
    ·obtain⟨o,l',b7,_⟩:=km.fW p h1 h3 ay;have dn:(T (p+1)).ai=(T p).ai+1:=by rw[b7]
     have:=aN.k9 D (p:=p+1) (q:=L.length) h2 (b5 _);omega
  rw[xg,alU]at iU;rw[gE]at hd ym vM vN;have eG:cB fC aI a' aS:=by
   refine⟨fun t=> ?_,km.size,by rw[hd];exact km.c4.mono (QI _ _)⟩;rw[<-gE];by_cases Ve:∃(q:Nat) (y:bL) (d:cL),L[q]? =some (y,d)∧y.d=some t
   ·obtain⟨q,y,d,aG,av⟩:=Ve;have hq:=(List.getElem?_eq_some_iff.1 aG).1;rw[aN.N8 D aG av L.length hq (b5 _)];exact(km.Em q y d t aG av (ez q hq)).mono (QI _ _)
   ·have gd:∀(q:Nat) eP bJ,L[q]? =some (eP,bJ)->eP.d≠some t:=fun q eP bJ bV gb=>Ve ⟨q,eP,bJ,bV,gb⟩;rw[aN.I7 t L.length (b5 _) fun q eP bJ _ bV=>gd q eP bJ bV];exact(km.AT t fun q eP bJ bV gb=>absurd gb (gd q eP bJ bV)).mono km.keeps.le
  refine⟨fC,a',w',eG,iU,fF.trans (w':=fM) (fF.IM ι rfl) km.keeps,?_,?_,?_⟩
  ·rw[vM,k5,oC,Oz]
  ·rw[vN,mJ,oC,OA]
  ·rw[<-ym]at ah;exact(Steps.head nj ah).trans (.one ZL)
end
end Go.an
namespace Go.an
variable{X:Ctx}
abbrev tU:=Nat×(bL×cL)×Nat×Nat
def p6:Nat->List (bL×cL)->List Nat->List Nat->List tU
 |p,a::L,i::cb,m::ms=>(p,a,i,m)::p6 (p+1) L cb ms
 |_,_,_,_=>[]
theorem Y6:∀(L:List (bL×cL)) (cb ms:List Nat) (l9 p:Nat) {a:bL×cL} {i m:Nat},L[p]? =some a->cb[p]? =some i->ms[p]? =some m->(l9+p,a,i,m)∈p6 l9 L cb ms
 |[],_,_,_,p,_,_,_,h,_,_=>by simp at h
 |_::_,[],_,_,p,_,_,_,_,h,_=>by simp at h
 |_::_,_::_,[],_,p,_,_,_,_,_,h=>by simp at h
 |a'::L,gZ::cb,fq::ms,l9,p,a,i,m,h1,h2,h3=>by
  cases p with
  |zero=>
   simp at h1 h2 h3;subst h1 h2 h3;exact List.mem_cons_self
  |succ p=>
   have:=Y6 L cb ms (l9+1) p (a:=a) (i:=i) (m:=m) (by simpa using h1) (by simpa using h2) (by simpa using h3);rw[show l9+(p+1)=l9+1+p by omega];exact List.mem_cons_of_mem _ this
theorem Y5:∀(L:List (bL×cL)) (cb ms:List Nat) (l9:Nat) {r:tU},r∈p6 l9 L cb ms->∃p:Nat,r.1=l9+p∧L[p]? =some r.2.1∧cb[p]? =some r.2.2.1∧ms[p]? =some r.2.2.2
 |[],_,_,_,_,h=>by simp[p6]at h
 |_::_,[],_,_,_,h=>by simp[p6]at h
 |_::_,_::_,[],_,_,h=>by simp[p6]at h
 |a'::L,gZ::cb,fq::ms,l9,r,h=>by
  simp only[p6]at h;rcases List.mem_cons.1 h with rfl|h
  ·exact⟨0,rfl,rfl,rfl,rfl⟩
  ·obtain⟨p,h1,h2,h3,ay⟩:=Y5 L cb ms (l9+1) h;exact⟨p+1,by omega,h2,h3,ay⟩
def xC(rows:List tU)(p:Nat):List Edge->Option Nat
 |[]=>some 0
 |e::es=>if Region.binds .any e then
  match rows.find? (fun r=>Nat.beq r.2.2.1 e.on),xC rows p es with
  |some r,some m=>if Nat.ble (Nat.succ r.1) p then some (m|||((1<<<r.1)|||r.2.2.2))else none
  |_,_=>none
  else xC rows p es
theorem Hb{rows:List tU}{p:Nat}:∀(es:List Edge) (m:Nat),xC rows p es=some m->
 (∀e∈es,Region.binds .any e=true->∃r∈rows,r.2.2.1=e.on∧r.1<p)∧
 (∀q,m.testBit q=true->∃e∈es,Region.binds .any e=true∧∃r∈rows,r.2.2.1=e.on∧r.1<p∧(q=r.1∨r.2.2.2.testBit q=true))
 |[],m,h=>by
  simp only[xC,Option.some.injEq]at h;subst h;exact⟨fun e he=>by simp at he,fun q hq=>by simp at hq⟩
 |e::es,m,h=>by
  simp only[xC]at h;by_cases aa:Region.binds .any e=true
  ·rw[if_pos aa]at h;split at h
   ·rename_i r fq aQ kI;split at h
    ·rename_i aP;cases h;obtain⟨i1,i2⟩:=Hb es fq kI;have LG:=List.mem_of_find?_eq_some aQ;have xa:r.2.2.1=e.on:=by
      have:=List.find?_some aQ;exact ep this
     have CR:r.1<p:=pa.1 aP;refine⟨fun cK lW cT=> ?_,fun q hq=> ?_⟩
     ·rcases List.mem_cons.1 lW with rfl|lW
      ·exact⟨r,LG,xa,CR⟩
      ·exact i1 cK lW cT
     ·rw[Nat.testBit_or,Nat.testBit_or,Bool.or_eq_true,Bool.or_eq_true]at hq;rcases hq with hq|hq|hq
      ·obtain⟨cK,lW,h1,h2⟩:=i2 q hq;exact⟨cK,List.mem_cons_of_mem _ lW,h1,h2⟩
      ·rw[Nat.one_shiftLeft,Nat.testBit_two_pow]at hq;exact⟨e,List.mem_cons_self,aa,r,LG,xa,CR,.inl (of_decide_eq_true hq).symm⟩
      ·exact⟨e,List.mem_cons_self,aa,r,LG,xa,CR,.inr hq⟩
    ·cases h
   ·cases h
  ·rw[if_neg aa]at h;obtain⟨i1,i2⟩:=Hb es m h;refine⟨fun cK lW cT=> ?_,fun q hq=> ?_⟩
   ·rcases List.mem_cons.1 lW with rfl|lW
    ·exact absurd cT aa
    ·exact i1 cK lW cT
   ·obtain⟨cK,lW,h1,h2⟩:=i2 q hq;exact⟨cK,List.mem_cons_of_mem _ lW,h1,h2⟩
def QV(d:Option Tmp)(t:Tmp):Bool:=match d with|some u=>Nat.beq u t|none=>false
def sQ(ts:List Tmp)(t:Tmp):Bool:=ts.any (Nat.beq t)
theorem F5{ts:List Tmp}{t:Tmp}:sQ ts t=true↔t∈ts:=by
 unfold sQ;rw[List.any_eq_true];constructor
 ·rintro⟨u,hu,h⟩;rw[eN h];exact hu
 ·intro h;exact⟨t,h,Nat.beq_refl t⟩
def D5(X:Ctx)(aS:Nat)(ops:Array Oper)(L:List (bL×cL))(rows:List tU)(r:tU):Bool:=
 (match ops[r.2.2.1]? with
  |some o=>mQ X aS ops r.2.1.1 o&&(match xC rows r.1 o.after.toList with|some m=>Nat.beq m r.2.2.2|none=>false)
  |none=>false)&&
 (match r.2.1.2 with
  |.eO=>Nat.beq r.2.2.2 (2^r.1-1)
  |.hP _=>r.2.1.1.o.s8
  |.read n _=>r.2.1.1.o.rP&&Nat.ble ((List.range r.1).countP (fun q=>sK L q&& !r.2.2.2.testBit q)) n)
def An(dZ:List Tmp)(r s:tU):Bool:=
 (!Nat.beq r.2.2.1 s.2.2.1||Nat.beq r.1 s.1)&&
 (match s.2.1.1.d with
  |none=>true
  |some t=>
   (!QV r.2.1.1.d t||Nat.beq r.1 s.1)&&
   (!Nat.ble (Nat.succ r.1) s.1||sQ dZ t|| !(r.2.1.2.xq||sQ r.2.1.2.looks t)||s.2.2.2.testBit r.1)&&
   (!Nat.ble (Nat.succ s.1) r.1|| !sQ r.2.1.2.looks t||r.2.2.2.testBit s.1))
def Ft(X:Ctx)(aS:Nat)(ops:Array Oper)(L:List (bL×cL))(cb:List Nat)(dZ:List Tmp)(ms:List Nat):Bool:=
 (fun rows=>Nat.beq L.length ops.size&&Nat.beq cb.length ops.size&&Nat.beq ms.length ops.size&&(List.range ops.size).all (fun i=>sQ cb i)&&rows.all (D5 X aS ops L rows)&&rows.all (fun r=>rows.all (An dZ r))) (p6 0 L cb ms)
theorem afr{aS:Nat}{ops:Array Oper}{L:List (bL×cL)}{cb:List Nat}{dZ:List Tmp}{ms:List Nat}(h:Ft X aS ops L cb dZ ms=true):lj X aS ops L cb dZ ms:=by
 unfold Ft at h;simp only[bZ]at h;obtain⟨⟨⟨⟨⟨h1,h2⟩,h3⟩,ay⟩,aY⟩,b7⟩:=h;have aA:=eN h1;have e2:=eN h2;have b0:=eN h3;rw[List.all_eq_true]at ay aY b7;have jL:∀(p:Nat) a i,L[p]? =some a->cb[p]? =some i->(p,a,i,ms.getD p 0)∈p6 0 L cb ms:=by
  intro p a i ha ae;have hp:=(List.getElem?_eq_some_iff.1 ha).1;have hm:ms[p]? =some (ms.getD p 0):=by
   have:p<ms.length:=by omega
   simp[this]
  have:=Y6 L cb ms 0 p ha ae hm
  rwa [Nat.zero_add]at this
 have lA:∀p:Nat,p<L.length->∃i,cb[p]? =some i:=fun p hp=>⟨_,a9 (by omega)⟩;have k0:∀p i:Nat,cb[p]? =some i->∃a,L[p]? =some a:=fun p i ae=>⟨_,a9 (by have:=(List.getElem?_eq_some_iff.1 ae).1;omega)⟩;have bP:∀(p:Nat) a i,L[p]? =some a->cb[p]? =some i->D5 X aS ops L (p6 0 L cb ms) (p,a,i,ms.getD p 0)=true:=fun p a i ha ae=>aY _ (jL p a i ha ae);have Gr:∀(p:Nat) a i (q:Nat) b j,L[p]? =some a->cb[p]? =some i->L[q]? =some b->cb[q]? =some j->An dZ (p,a,i,ms.getD p 0) (q,b,j,ms.getD q 0)=true:=by
  intro p a i q b j ha ae aa hj;have:=b7 _ (jL p a i ha ae);rw[List.all_eq_true]at this;exact this _ (jL q b j aa hj)
 have UX:∀(p i:Nat) a o,L[p]? =some a->cb[p]? =some i->ops[i]? =some o->mQ X aS ops a.1 o=true∧∃m,xC (p6 0 L cb ms) p o.after.toList=some m∧m=ms.getD p 0:=by
  intro p i a o ha ae ak;have:=bP p a i ha ae;unfold D5 at this;simp only[ak,bZ]at this;refine⟨this.1.1,?_⟩;have dn:=this.1.2;split at dn
  ·rename_i m hm;exact⟨m,hm,eN dn⟩
  ·cases dn
 have wN:∀{r:tU} {p:Nat},r∈p6 0 L cb ms->∃q:Nat,r.1=q∧cb[q]? =some r.2.2.1∧ms.getD q 0=r.2.2.2:=by
  intro r p aQ;obtain⟨q,aL,aR,a7,cl⟩:=Y5 L cb ms 0 aQ;exact⟨q,by omega,a7,by simp[List.getD,cl]⟩
 have F7:∀(p i:Nat) a,L[p]? =some a->cb[p]? =some i->(match a.2 with|.eO=>Nat.beq (ms.getD p 0) (2^p-1)|.hP _=>a.1.o.s8|.read n _=>a.1.o.rP&&Nat.ble ((List.range p).countP (fun q=>sK L q&& !(ms.getD p 0).testBit q)) n)=true:=by
  intro p i a ha ae;have:=bP p a i ha ae;unfold D5 at this;rw[bZ]at this;exact this.2
 refine⟨aA,e2,fun p i x c ae J=> ?_,fun p x ts J=> ?_,fun p x n ts J=> ?_,fun p q i hp hq=> ?_,fun i ae=> ?_,fun p i o ae ak e he aa=> ?_,fun p i o q ae ak hq=> ?_,fun p x q J hq=> ?_,fun p x n ts J=> ?_,fun p q x y c d t J aG CZ iy=> ?_,fun p q x y c d t J aG LA iy Gy hl=> ?_,fun p q x y c d t J aG w8 iy hl=> ?_⟩
 ·have:=bP p (x,c) i J ae;unfold D5 at this;rw[bZ]at this;have dn:=this.1;split at dn
  ·rename_i o ak;rw[bZ]at dn;exact⟨o,ak,dn.1⟩
  ·cases dn
 ·obtain⟨i,ae⟩:=lA p (List.getElem?_eq_some_iff.1 J).1;exact F7 p i _ J ae
 ·obtain⟨i,ae⟩:=lA p (List.getElem?_eq_some_iff.1 J).1;have:=F7 p i _ J ae;simp only[bZ]at this;exact this.1
 ·obtain⟨a,ha⟩:=k0 p i hp;obtain⟨b,aa⟩:=k0 q i hq;have:=Gr p a i q b i ha hp aa hq;unfold An at this;simp only[bZ,Bool.or_eq_true]at this;rcases this.1 with h|h
  ·simp at h
  ·exact eN h
 ·have:=ay i (List.mem_range.2 ae);have hm:=F5.1 this;obtain⟨p,hp,he⟩:=List.mem_iff_getElem.1 hm;exact⟨p,by rw[a9 hp,he]⟩
 ·obtain⟨a,ha⟩:=k0 p i ae;obtain⟨_,m,hm,_⟩:=UX p i a o ha ae ak;obtain⟨r,aQ,dn,hr⟩:=(Hb _ _ hm).1 e (by simpa using he) aa;obtain⟨q,aL,aR,_⟩:=wN (p:=0) aQ;exact⟨q,by omega,by rw[aR,dn]⟩
 ·obtain⟨a,ha⟩:=k0 p i ae;obtain⟨_,m,hm,rfl⟩:=UX p i a o ha ae ak;obtain⟨e,he,aa,r,aQ,dn,hr,gD⟩:=(Hb _ _ hm).2 q hq;obtain⟨fg,aL,aR,a7⟩:=wN (p:=0) aQ;exact⟨e,by simpa using he,aa,fg,by omega,by rw[aR,dn],by rw[a7,<-aL];exact gD⟩
 ·obtain⟨i,ae⟩:=lA p (List.getElem?_eq_some_iff.1 J).1;have:=eN (F7 p i _ J ae);rw[this,Nat.testBit_two_pow_sub_one];simpa using hq
 ·obtain⟨i,ae⟩:=lA p (List.getElem?_eq_some_iff.1 J).1;have:=F7 p i _ J ae;simp only[bZ]at this;exact pa.1 this.2
 ·obtain⟨i,ae⟩:=lA p (List.getElem?_eq_some_iff.1 J).1;obtain⟨j,hj⟩:=lA q (List.getElem?_eq_some_iff.1 aG).1;have:=Gr p _ i q _ j J ae aG hj;unfold An at this;simp only[iy,bZ]at this;have dn:=this.2.1.1;simp[QV,CZ]at dn;exact dn
 ·obtain⟨i,ae⟩:=lA p (List.getElem?_eq_some_iff.1 J).1;obtain⟨j,hj⟩:=lA q (List.getElem?_eq_some_iff.1 aG).1;have:=Gr p _ i q _ j J ae aG hj;unfold An at this;simp only[iy,bZ]at this;have dn:=this.2.1.2;have aL:Nat.ble (Nat.succ p) q=true:=pa.2 LA;have aR:sQ dZ t=false:=by rw[Bool.eq_false_iff];intro h;exact Gy (F5.1 h)
  have a7:(c.xq||sQ c.looks t)=true:=by
   rcases hl with rfl|hl
   ·rfl
   ·rw[Bool.or_eq_true];exact .inr (F5.2 hl)
  rw[aL,aR,a7]at dn;simpa using dn
 ·obtain⟨i,ae⟩:=lA p (List.getElem?_eq_some_iff.1 J).1;obtain⟨j,hj⟩:=lA q (List.getElem?_eq_some_iff.1 aG).1;have:=Gr p _ i q _ j J ae aG hj;unfold An at this;simp only[iy,bZ]at this;have dn:=this.2.2;have aL:Nat.ble (Nat.succ q) p=true:=pa.2 w8;have aR:sQ c.looks t=true:=F5.2 hl;rw[aL,aR]at dn;simpa using dn
end Go.an
namespace Go.an
variable{X:Ctx}{call:bQ}
def yc(X:Ctx)(aS:Nat)(ops:Array Oper):List bL->List Oper->Bool
 |[],[]=>true
 |x::xs,o::os=>mQ X aS ops x o&&yc X aS ops xs os
 |_,_=>false
theorem YV{aS:Nat}{ops:Array Oper}:∀{xs:List bL} {os:List Oper},yc X aS ops xs os=true->xs.length=os.length∧∀(j:Nat) x o,xs[j]? =some x->os[j]? =some o->mQ X aS ops x o=true
 |[],[],_=>⟨rfl,fun j x o h=>by simp at h⟩
 |x::xs,o::os,h=>by
  simp only[yc,bZ]at h;obtain⟨h1,h2⟩:=YV h.2;refine⟨by simp[h1],fun j eP bd J ak=> ?_⟩;cases j with
  |zero=>simp at J ak;subst J ak;exact h.1
  |succ j=>exact h2 j eP bd (by simpa using J) (by simpa using ak)
 |[],_::_,h=>by simp[yc]at h
 |_::_,[],h=>by simp[yc]at h
def xH:List Nat->List Nat->Bool
 |[],[]=>true
 |a::as,b::bW=>Nat.beq a b&&xH as bW
 |_,_=>false
theorem Wt:∀{as bW:List Nat},xH as bW=true->as=bW
 |[],[],_=>rfl
 |a::as,b::bW,h=>by
  simp only[xH,bZ]at h;rw[eN h.1,Wt h.2]
 |[],_::_,h=>by simp[xH]at h
 |_::_,[],h=>by simp[xH]at h
def codeOk(X:Ctx)(aS:Nat):dy->Code->Bool
 |.skip,.skip=>true
 |.skip,.label _=>true
 |.yb xs,.region _ ops false=>yc X aS ops xs ops.toList
 |.sI L cb dZ ms,.region _ ops true=>Ft X aS ops L cb dZ ms
 |.seq a b,.seq c d=>codeOk X aS a c&&codeOk X aS b d
 |.cond x a b,.cond y c d=>bY X.aE x y&&codeOk X aS a c&&codeOk X aS b d
 |.block i a,.block j c=>Nat.beq i j&&codeOk X aS a c
 |.loop a,.loop c=>codeOk X aS a c
 |.II f ps du body,.rangeFunc g dj o7 pb=>bY X.aE f g&&xH ps dj.toList&&ps.all (fun t=>Nat.ble (Nat.succ t) aS)&&codeOk X aS du o7&&codeOk X aS body pb
 |.exit i,.exit j=>Nat.beq i j
 |.scope a,.scope c=>codeOk X aS a c
 |.ret,.ret=>true
 |.refuse,_=>true
 |_,_=>false
def Good(X:Ctx):Prop:=X.P.follows .mixedOrders=true∧∀fn c sn,X.ok fn c sn↔∃F,X.P.funcs[fn]? =some F∧codeOk X F.ntmps sn c=true
section
variable{b:dI}{aS:Nat}{bz:Bool->List Frame}
def ED(X:Ctx)(call:bQ)(b:dI)(aS:Nat)(bz:Bool->List Frame):Prop:=
 ∀(f:Operand) (ps:Array Tmp) (du body:dy) (o7 pb:Code) (ι:bA) (fr:aT) (a:Act) (st:au) (w:World) (k:List Item),cE X.aE f=true->(∀t∈ps.toList,t<aS)->(∃F,X.P.funcs[b.fn]? =some F∧F.ntmps=aS)->X.ok b.fn o7 du->X.ok b.fn pb body->
  cB ι fr a aS->bt X ι st w->qf ι fr.b4 b.b4->kR b fr.bk ι bz->
  gC X b aS bz (lone (b.at a (.code (.rangeFunc f ps o7 pb)::k)) (bz fr.cF) w) k fr ι w (B6 call b.fn f ps.toList du body fr st)
theorem gC.oY{s:Machine}{k k':List Item}{fr:aT}{ι:bA}{w:World}{r:cY}{g:aT->au->cY}(hex:∀id,exitTo id k=exitTo id k')(h:gC X b aS bz s k fr ι w r)
 (aO:∀aV a' w' aI st',cB aV aI a' aS->bt X aV st' w'->fF ι aV w w'->aI.bk=fr.bk->aI.b4=fr.b4->gC X b aS bz (lone (b.at a' k) (bz aI.cF) w') k' aI aV w' (g aI st')):gC X b aS bz s k' fr ι w (oY r g):=by
 cases r with
 |no=>trivial
 |out e aI st'=>
  obtain⟨aV,a',w',h1,h2,h3,ay,aY,b7⟩:=h;cases e with
  |norm=>exact gC.head b7 h3 ay aY (aO aV a' w' aI st' h1 h2 h3 ay aY)
  |exit id=>
   obtain⟨iB,dn,hr⟩:=b7;exact⟨aV,a',w',h1,h2,h3,ay,aY,iB,dn.trans (hex id),hr⟩
  |ret=>exact⟨aV,a',w',h1,h2,h3,ay,aY,b7⟩
  |bk v=>exact⟨aV,a',w',h1,h2,h3,ay,aY,b7⟩
theorem Z0(r:cY):oY r (fun fr st=>.out .norm fr st)=r:=by
 cases r with
 |no=>rfl
 |out e fr st=>cases e<;>rfl
theorem Kk(dv:Good X)(eu:mW X call)(zI:ED X call b aS bz)(gE:∃F,X.P.funcs[b.fn]? =some F∧F.ntmps=aS)(cd:Nat):∀(sn:dy) (c:Code) (ι:bA) (fr:aT) (a:Act) (st:au) (w:World) (k:List Item),codeOk X aS sn c=true->
 cB ι fr a aS->bt X ι st w->qf ι fr.b4 b.b4->kR b fr.bk ι bz->
 gC X b aS bz (lone (b.at a (.code c::k)) (bz fr.cF) w) k fr ι w (dA call cd b.fn sn fr st):=by
 obtain⟨Fn,ar,nU⟩:=gE;intro sn
 induction sn with
 |skip=>
  intro c ι fr a st w k hc ab hw aa aQ;cases c with
  |skip=>exact⟨ι,a,w,ab,hw,.refl _ _,rfl,rfl,.one asm⟩
  |label l=>exact⟨ι,a,w,ab,hw,.refl _ _,rfl,rfl,.one ar5⟩
  |_=>cases hc
 |yb xs=>
  intro c ι fr a st w k hc ab hw aa aQ;cases c with
  |region id ops draw=>
   cases draw with
   |true=>cases hc
   |false=>
    obtain⟨h1,h2⟩:=YV (hc:yc X aS ops xs ops.toList=true);have:=MZ (b:=b) (bz:=bz) (k:=k) (ops:=ops) (aS:=aS) eu xs (List.range ops.size) ι fr a st w (by simpa using h1) (fun j x i J ae=>by
     have rC:i=j:=by
      obtain⟨hj,he⟩:=List.getElem?_eq_some_iff.1 ae;simpa using he.symm
     subst rC;have aP:i<ops.size:=by simpa using(List.getElem?_eq_some_iff.1 ae).1
     exact⟨ops[i],Array.getElem?_eq_getElem aP,h2 i x _ J (by simp[aP])⟩) ab hw aa aQ
    exact gC.head (.one asb) (.refl _ _) rfl rfl this
  |_=>cases hc
 |sI L cb dZ ms=>
  intro c ι fr a st w k hc ab hw aa aQ;cases c with
  |region id ops draw=>
   cases draw with
   |false=>cases hc
   |true=>exact afu dv.1 eu (afr (hc:Ft X aS ops L cb dZ ms=true)) ab hw aa aQ
  |_=>cases hc
 |seq x y amm LU=>
  intro c ι fr a st w k hc ab hw aa aQ;cases c with
  |seq c d=>
   have hc:(codeOk X aS x c&&codeOk X aS y d)=true:=hc;rw[bZ]at hc;have h1:=amm c ι fr a st w (.code d::k) hc.1 ab hw aa aQ;refine gC.head (.one asl) (.refl _ _) rfl rfl (gC.oY (k:=.code d::k) (k':=k) (fun id=>rfl) h1 fun aV a' w' aI st' eG ev U hp hn=> ?_);exact LU d aV aI a' st' w' k hc.2 eG ev (by rw[hn];exact aa.mono U.le) (by rw[hp];exact aQ.mono U.le)
  |_=>cases hc
 |cond x y z LU amn=>
  intro c ι fr a st w k hc ab hw aa aQ;cases c with
  |cond o c d=>
   have hc:(bY X.aE x o&&codeOk X aS y c&&codeOk X aS z d)=true:=hc;simp only[bZ]at hc;obtain⟨rfl,ak⟩:=cW hc.1.1;show gC X b aS bz _ k fr ι w (mT (fr.aj x) (fun t=>_root_.cond t (dA call cd b.fn y fr st) (dA call cd b.fn z fr st)) .no);have aH:=ab.aj hw ak;generalize k1:a.eval x=ui at aH;generalize fr.aj x=v at aH;cases v with
   |bool t=>
    cases aH;cases t with
    |true=>exact gC.head (.one (ZK k1)) (.refl _ _) rfl rfl (LU c ι fr a st w k hc.1.2 ab hw aa aQ)
    |false=>exact gC.head (.one (ZK k1)) (.refl _ _) rfl rfl (amn d ι fr a st w k hc.2 ab hw aa aQ)
   |_=>trivial
  |_=>cases hc
 |block i x a0=>
  intro c ι fr a st w k hc ab hw aa aQ;cases c with
  |block j c=>
   have hc:(Nat.beq i j&&codeOk X aS x c)=true:=hc;rw[bZ]at hc;have e:=eN hc.1;subst e;have h1:=a0 c ι fr a st w (.inBlock i::k) hc.2 ab hw aa aQ;refine gC.head (.one arY) (.refl _ _) rfl rfl ?_;show gC X b aS bz _ k fr ι w (EZ i (dA call cd b.fn x fr st));generalize dA call cd b.fn x fr st=r at h1;cases r with
   |no=>trivial
   |out e aI st'=>
    obtain⟨aV,a',w',h2,h3,ay,aY,b7,dn⟩:=h1;cases e with
    |norm=>exact⟨aV,a',w',h2,h3,ay,aY,b7,Steps.trans dn (.one ar2)⟩
    |exit id=>
     obtain⟨iB,hr,gD⟩:=dn;show gC X b aS bz _ k fr ι w (et id i (.out .norm aI st') (.out (.exit id) aI st'));rw[oA];by_cases e:id=i
     ·subst e;rw[if_pos rfl];have sN:exitTo id iB=some k:=by rw[hr];simp[exitTo]
      exact⟨aV,a',w',h2,h3,ay,aY,b7,Steps.trans gD (.one (ar1 sN))⟩
     ·rw[if_neg e];refine⟨aV,a',w',h2,h3,ay,aY,b7,iB,?_,gD⟩;rw[hr];have:¬i=id:=fun h=>e h.symm;simp[exitTo,this]
    |ret=>exact⟨aV,a',w',h2,h3,ay,aY,b7,dn⟩
    |bk v=>exact⟨aV,a',w',h2,h3,ay,aY,b7,dn⟩
  |_=>cases hc
 |loop x a0=>
  intro c ι fr a st w k hc ab hw aa aQ;cases c with
  |loop c=>
   have hc:codeOk X aS x c=true:=hc;have key:∀(n:Nat) (ι:bA) (fr:aT) (a:Act) (st:au) (w:World),cB ι fr a aS->bt X ι st w->qf ι fr.b4 b.b4->kR b fr.bk ι bz->
    gC X b aS bz (lone (b.at a (.code c:: .inLoop c::k)) (bz fr.cF) w) k fr ι w (Nat.rec (motive:=fun _=>aT->au->cY) (fun _ _=>.no) (fun _ LS fr st=>Go.an.oY (dA call cd b.fn x fr st) LS) n fr st):=by
    intro n
    induction n with
    |zero=>intros;trivial
    |succ n aml=>
     intro ι fr a st w ab hw aa aQ;refine gC.oY (k:=.inLoop c::k) (fun id=>rfl) (a0 c ι fr a st w (.inLoop c::k) hc ab hw aa aQ) fun aV a' w' aI st' eG ev U hp hn=> ?_;exact gC.head (.one ar3) (.refl _ _) rfl rfl (aml aV aI a' st' w' eG ev (by rw[hn];exact aa.mono U.le) (by rw[hp];exact aQ.mono U.le))
   exact gC.head (.one ar6) (.refl _ _) rfl rfl (key cd ι fr a st w ab hw aa aQ)
  |_=>cases hc
 |II f ps du body _ _=>
  intro c ι fr a st w k hc ab hw aa aQ;cases c with
  |rangeFunc g dj o7 pb=>
   have hc:(bY X.aE f g&&xH ps dj.toList&&ps.all (fun t=>Nat.ble (Nat.succ t) aS)&&codeOk X aS du o7&&codeOk X aS body pb)=true:=hc;simp only[bZ]at hc;obtain⟨⟨⟨⟨h1,h2⟩,aY⟩,h3⟩,ay⟩:=hc;rw[List.all_eq_true]at aY;obtain⟨rfl,ak⟩:=cW h1;have e:=Wt h2;subst e;exact zI f dj du body o7 pb ι fr a st w k ak (fun t aN=>pa.1 (aY t aN)) ⟨Fn,ar,nU⟩ ((dv.2 _ _ _).2 ⟨Fn,ar,by rw[nU];exact h3⟩) ((dv.2 _ _ _).2 ⟨Fn,ar,by rw[nU];exact ay⟩) ab hw aa aQ
  |_=>cases hc
 |exit i=>
  intro c ι fr a st w k hc ab hw aa aQ;cases c with
  |exit j=>
   have e:=eN (hc:Nat.beq i j=true);subst e;exact⟨ι,a,w,ab,hw,.refl _ _,rfl,rfl,k,rfl,.refl _ _⟩
  |_=>cases hc
 |scope x a0=>
  intro c ι fr a st w k hc ab hw aa aQ;cases c with
  |scope c=>
   have h1:=a0 c ι fr a st w (.inScope c::k) hc ab hw aa aQ;refine gC.head (.one asj) (.refl _ _) rfl rfl ?_;show gC X b aS bz _ k fr ι w (dA call cd b.fn x fr st);rw[<-Z0 (dA call cd b.fn x fr st)];exact gC.oY (k:=.inScope c::k) (fun id=>rfl) h1 fun aV a' w' aI st' eG ev _ _ _=>⟨aV,a',w',eG,ev,.refl _ _,rfl,rfl,.one ar4⟩
  |_=>cases hc
 |ret=>
  intro c ι fr a st w k hc ab hw aa aQ;cases c with
  |ret=>exact⟨ι,a,w,ab,hw,.refl _ _,rfl,rfl,k,.refl _ _⟩
  |_=>cases hc
 |refuse=>intros;trivial
end
def YW(X:Ctx):ig->ResultVar->Bool
 |.tmp t,.tmp u=>Nat.beq t u
 |.cell a g n,.cell b t=>Nat.beq a b&&(match o4 X.P t,gw X.P t with
  |some jb,some s=>(g==jb)&&(!g||Nat.beq n s)&&(g||Nat.beq n 1)
  |_,_=>false)
 |_,_=>false
def tE(X:Ctx):List ig->List ResultVar->Bool
 |[],[]=>true
 |x::xs,r::rs=>YW X x r&&tE X xs rs
 |_,_=>false
def AI(tmps:Array Value):ResultVar->Sem Value
 |.tmp t=>pure (tmps.getD t undef)
 |.cell a t=>do loadVar t (<-asAddr (tmps.getD a undef))
section
variable{ι:bA}{fr:aT}{a:Act}{aS:Nat}{st:au}{w:World}
theorem VU{α:Type}{a:Addr}{n:Nat}{k:List Value->α}{z r:α}(h:st.load a n k z=r)(ax:z≠r):∃vs,k vs=r∧∀{yy:Type} (k':List Value->yy) (mr:yy),st.load a n k' mr=k' vs:=by
 obtain⟨h1,cs,el,bn,a8,h2,h3,ay⟩:=zV h ax;refine⟨_,ay,fun k' mr=> ?_⟩;unfold au.load au.gL;rw[h1,h2];show il cs a.off n k' mr=_;unfold il;rw[BX,Ek,if_pos h3];rfl
theorem anl{t:TypeId}{x:Operand}{ad:Addr}{v:Value}(J:a.eval x= .pointer (some ad))(h:(execOp a.eval {(default:Oper)with op:=.load t x}).run X.P w= .ok (.value v) w):(loadVar t ad).run X.P w= .ok v w:=by
 unfold execOp at h;simp only[J,Instr.loadAt,Instr.sureAddr,Sem.run_bind,Sem.run_pure,Result.andThen]at h;generalize(loadVar t ad).run X.P w=r at h;cases r with
 |ok y w'=>simp only[Result.ok.injEq,Next.value.injEq]at h;obtain⟨rfl,rfl⟩:=h;rfl
 |halt e w'=>cases h
theorem aqa{x:ig}{r:ResultVar}(bP:YW X x r=true)(ab:cB ι fr a aS)(hw:bt X ι st w){vs out:List Value}
 (h:ig.rec (motive:=fun _=>Option (List Value)) (fun t=>some (fr.tmp t::vs))
  (fun a agg n=>iD (fr.tmp a) (fun p=>bl p (fun ad=>st.load ad n (fun cs=>cond agg (some (.agg ⟨cs⟩::vs)) (one cs (fun v=>some (v::vs)) none)) none) none) none) x=some out):
 ∃v v',out=v::vs∧bq ι v v'∧(AI a.tmps r).run X.P w= .ok v' w:=by
 cases x with
 |tmp t=>
  cases r with
  |tmp u=>
   have e:=eN (bP:Nat.beq t u=true);subst e;have aB:some (fr.tmp t::vs)=some out:=h;cases aB;exact⟨_,_,rfl,ab.tmp t,rfl⟩
  |cell b t=>cases bP
 |cell b g n=>
  cases r with
  |tmp u=>cases bP
  |cell er t=>
   have bP:(Nat.beq b er&&(match o4 X.P t,gw X.P t with
    |some jb,some s=>(g==jb)&&(!g||Nat.beq n s)&&(g||Nat.beq n 1)
    |_,_=>false))=true:=bP
   rw[bZ]at bP;have e:=eN bP.1;subst e;have h2:=bP.2;split at h2
   ·rename_i jb s aO ah;simp only[bZ]at h2;obtain⟨⟨h3,ay⟩,aY⟩:=h2;have Gf:g=jb:=by simpa using h3
    subst Gf;obtain⟨d,av,oF⟩:=Bi aO;obtain⟨i,ae,rfl⟩:=mm ah;have aB:iD (fr.tmp b) (fun p=>bl p (fun ad=>st.load ad n (fun cs=>cond g (some (.agg ⟨cs⟩::vs)) (one cs (fun v=>some (v::vs)) none)) none) none) none=some out:=h;obtain⟨p,hp,b7⟩:=qa aB (by simp);obtain⟨ad,rfl,dn⟩:=fy b7 (by simp);have jd:fr.aj (.tmp b)= .pointer (some ad):=hp;have Gu:=ab.tmp b;rw[hp]at Gu;have aki:a.eval (.tmp b)=a.tmps.getD b undef:=rfl;generalize k1:a.tmps.getD b undef=ui at Gu;have fin:∀v v' l',a.tmps.getD b undef= .pointer (some l')->out=v::vs->bq ι v v'->(execOp a.eval {(default:Oper)with op:=.load t (.tmp b)}).run X.P w= .ok (.value v') w->∃v v',out=v::vs∧bq ι v v'∧(AI a.tmps (.cell b t)).run X.P w= .ok v' w:=by
     intro v v' l' cu ak aH fS;refine⟨v,v',ak,aH,?_⟩;have hh:(loadVar t l').run X.P w= .ok v' w:=anl (a:=a) (x:=.tmp b) (by rw[aki,cu]) fS;simp only[AI,cu,asAddr,Sem.run_bind,Sem.run_pure,Result.andThen];exact hh
    cases g with
    |true=>
     have hn:n=i.size:=by simpa using ay
     subst hn;obtain⟨cs,hr,gD⟩:=VU dn (by simp);have ajZ:some (.agg ⟨cs⟩::vs)=some out:=hr;cases ajZ;have cN:Hx i.size (.tmp b) (fun _ _ _ _=>.no) fr st= .ok (.agg ⟨cs⟩) fr st:=by
      unfold Hx;rw[jd];exact gD (fun vs=>aZ.ok (.agg ⟨vs⟩) fr st) .no
     obtain⟨_,_,_,v',fS,aH⟩:=Zv (o:={(default:Oper)with op:=.load t (.tmp b)}) rfl rfl av oF ae ab hw cN;cases Gu with
     |ptr _ l hl e1=>exact fin _ v' _ k1 rfl aH fS
    |false=>
     have hn:n=1:=by simpa using aY
     subst hn;obtain⟨cs,hr,gD⟩:=VU dn (by simp);obtain⟨v,rfl,sN⟩:=Ah (hr:one cs (fun v=>some (v::vs)) none=some out) (by simp);cases sN;have cN:Hw (.tmp b) (fun _ _ _ _=>.no) fr st= .ok v fr st:=by
      unfold Hw;rw[jd];exact gD (fun vs=>one vs (fun v=>aZ.ok v fr st) .no) .no
     obtain⟨_,_,_,v',fS,aH⟩:=Zu (o:={(default:Oper)with op:=.load t (.tmp b)}) rfl rfl av oF ab hw cN;cases Gu with
     |ptr _ l hl e1=>exact fin _ v' _ k1 rfl aH fS
   ·cases h2
theorem YX(ab:cB ι fr a aS)(hw:bt X ι st w):∀(xs:List ig) (rs:List ResultVar) (out:List Value),tE X xs rs=true->qq fr st xs=some out->
 ∃fX,bN ι out fX∧(rs.mapM (AI a.tmps)).run X.P w= .ok fX w
 |[],[],out,_,h=>by
  have aB:some []=some out:=h;cases aB;exact⟨[],bN.nil ι,rfl⟩
 |x::xs,r::rs,out,bP,h=>by
  simp only[tE,bZ]at bP;have aB:bl (qq fr st xs) (fun vs=>ig.rec (motive:=fun _=>Option (List Value)) (fun t=>some (fr.tmp t::vs))
   (fun a agg n=>iD (fr.tmp a) (fun p=>bl p (fun ad=>st.load ad n (fun cs=>cond agg (some (.agg ⟨cs⟩::vs)) (one cs (fun v=>some (v::vs)) none)) none) none) none) x) none=some out:=h
  obtain⟨vs,Vd,h1⟩:=fy aB (by simp);obtain⟨v,v',rfl,aH,fS⟩:=aqa bP.1 ab hw h1;obtain⟨fX,alZ,CS⟩:=YX ab hw xs rs vs bP.2 Vd;refine⟨v'::fX,bN.cons aH alZ,?_⟩;rw[List.mapM_cons];simp only[Sem.run_bind,fS,Result.andThen,CS,Sem.run_pure]
 |[],_::_,_,bP,_=>by simp[tE]at bP
 |_::_,[],_,bP,_=>by simp[tE]at bP
theorem aqd{F:Func}{xs:List ig}(bP:tE X xs F.results.toList=true)(ab:cB ι fr a aS)(hw:bt X ι st w){out:List Value}(h:qq fr st xs=some out):
 ∃v',bq ι (one out (fun v=>v) (.tuple ⟨out⟩)) v'∧(results F a.tmps).run X.P w= .ok v' w:=by
 obtain⟨fX,aH,fS⟩:=YX ab hw xs F.results.toList out bP h;have aQ:(results F a.tmps)=(do let vs<-F.results.mapM (AI a.tmps);pure (if h:vs.size=1 then vs[0]else .tuple vs)):=by
  unfold results;congr 2
 rw[aQ];have hm:(F.results.mapM (AI a.tmps)).run X.P w= .ok fX.toArray w:=by
  rw[Array.mapM_eq_mapM_toList];rw[Sem.run_map,fS];rfl
 simp only[Sem.run_bind,hm,Result.andThen,Sem.run_pure];refine⟨_,?_,rfl⟩;cases out with
 |nil=>rw[aH.vj];exact bq.qO (bN.nil ι)
 |cons v vs=>
  obtain⟨y,aq,rfl,h1,h2⟩:=aH.cons_inv;cases vs with
  |nil=>rw[h2.vj];exact h1
  |cons v2 atc=>
   obtain⟨abm,avb,rfl,h3,ay⟩:=h2.cons_inv;rw[dif_neg (by simp)];exact bq.qO (xs:=⟨v::v2::atc⟩) (bN.cons h1 (bN.cons h3 ay))
end
def j0(X:Ctx)(ι:bA)(w:World)(b:dI)(bz:Bool->List Frame)(s:Machine):dJ->Prop
 |.ret v st' ew=>∃aV v' w' F,bq aV v v'∧bt X aV st' w'∧fF ι aV w w'∧F.kind=b.kind∧F.fn=b.fn∧Frame.going X.P F w' (.returned v')∧Steps X.P s (lone F (bz ew) w')
 |.bk v st' ew=>∃aV v' w' F,bq aV v v'∧bt X aV st' w'∧fF ι aV w w'∧F.kind=b.kind∧F.fn=b.fn∧Frame.going X.P F w' (.panicked [{v:=v',recovered:=false}])∧Steps X.P s (lone F (bz ew) w')
 |.no=>True
theorem j0.head{ι aV:bA}{w w':World}{b:dI}{bz:Bool->List Frame}{s br:Machine}{r:dJ}(h:Steps X.P s br)(U:fF ι aV w w')(aB:j0 X aV w' b bz br r):j0 X ι w b bz s r:=by
 cases r with
 |no=>trivial
 |ret v st ew=>obtain⟨fc,v',jC,F,h1,h2,h3,ay,aY,b7,dn⟩:=aB;exact⟨fc,v',jC,F,h1,h2,U.trans h3,ay,aY,b7,h.trans dn⟩
 |bk v st ew=>obtain⟨fc,v',jC,F,h1,h2,h3,ay,aY,b7,dn⟩:=aB;exact⟨fc,v',jC,F,h1,h2,U.trans h3,ay,aY,b7,h.trans dn⟩
def vZ(X:Ctx)(call:bQ):Prop:=
 ∀(ι:bA) (f:FuncId) (first fl:Array Value) (args:List Value) (bk:Option Value) (st:au) (uG ov:Array Value) (jG:List Value) (w:World),
  bN ι first.toList uG.toList->bN ι args jG->bN ι fl.toList ov.toList->bt X ι st w->call (.func (.func f) first fl) args bk st≠.no->
  (∀as w,(callFunc f as).run X.P w= .ok (.enter f as) w)∧
  ∀(K:CallKind) (bz:Bool->List Frame),kR ⟨f,K,none⟩ bk ι bz->j0 X ι w ⟨f,K,none⟩ bz (lone (Frame.enter X.P f (uG++jG.toArray++ov) K) (bz false) w) (call (.func (.func f) first fl) args bk st)
def o2(aV:bA):Option Value->FrameMode->Prop
 |none,m=>m= .returning
 |some v,m=>∃v',bq aV v v'∧m= .panicking [{v:=v',recovered:=false}]
theorem o2.mono{ι aV:bA}(hle:ι.le aV){m:Option Value}{md:FrameMode}(h:o2 ι m md):o2 aV m md:=by
 cases m with
 |none=>exact h
 |some v=>obtain⟨v',h1,h2⟩:=h;exact⟨v',h1.mono hle,h2⟩
theorem o2.WG{ι:bA}{m:Option Value}{md:FrameMode}(h:o2 ι m md):md≠.run:=by
 cases m with
 |none=>rw[show md= .returning from h];simp
 |some v=>obtain⟨v',_,h2⟩:=h;rw[h2];simp
theorem AW(gE:vZ X call):∀(ds:List Deferred) (m:Option Value) (st:au) (r:Option Value×au),jV call ds m st=some r->∀(ι:bA) (w:World) (F:Frame) (cs:List Frame),sr ι ds F.defers->o2 ι m F.mode->bt X ι st w->
 ∃aV w' md,Steps X.P (lone F cs w) (lone {F with defers:=[],mode:=md} cs w')∧o2 aV r.1 md∧bt X aV r.2 w'∧fF ι aV w w'
 |[],m,st,r,h,ι,w,F,cs,av,hm,hw=>by
  have aB:some (m,st)=some r:=h;cases aB;have ar:F.defers=[]:=by
   cases nb:F.defers with
   |nil=>rfl
   |cons d ds=>rw[nb]at av;exact av.elim
  refine⟨ι,w,F.mode,?_,hm,hw,.refl _ _⟩;have:({F with defers:=[],mode:=F.mode}:Frame)=F:=by cases F;simp only at ar;subst ar;rfl
  rw[this];exact .refl _ _
 |⟨t,args⟩::ds,m,st,r,h,ι,w,F,cs,av,hm,hw=>by
  cases nb:F.defers with
  |nil=>rw[nb]at av;exact av.elim
  |cons e es=>
   rw[nb]at av;obtain⟨⟨akk,u3⟩,iu⟩:=av;cases t with
   |collected Y7=>
    cases het:e.target with
    |collected o8=>
     rw[het]at u3;simp only[jV]at h;split at h
     ·rename_i j9;rw[kt]at h;obtain⟨l,hl,_,_,UY⟩:=hw.eK _ _ j9 (by simp);have aA:=u3.symm.trans hl;cases aA;rcases UY with⟨_,Lf⟩|⟨hc,_⟩
      ·have aP:o8<w.heap.size:=hw.gK _ _ hl;have alS:(Instr.takeDeferred o8).run X.P w= .ok [] (w.putObj o8 (.deferred none)):=run_takeDeferred Lf;have nj:=step_collected (P:=X.P) (cs:=cs) hm.WG nb het alS;obtain⟨ev,fu⟩:=hw.vL X j9 (by simp) (fun ab=>ab) hl (.iI none) (.deferred none) (w.putObj o8 (.deferred none)) rfl (fun _ aN=>⟨rfl,rfl,.inr ⟨rfl,aN⟩⟩);obtain⟨aV,w',md,ah,aL,aR,a7⟩:=AW gE ds m _ r h ι _ {F with defers:=[]++es} cs (by simpa using iu) hm ev;exact⟨aV,w',md,.head nj ah,aL,aR,fu.trans a7⟩
      ·cases hc
     ·cases h
    |_=>rw[het]at u3;exact u3.elim
   |fn j6 fl=>
    cases het:e.target with
    |fn ajR ov=>
     rw[het]at u3;obtain⟨qw,F6⟩:=u3;cases j6 with
     |func g=>
      rcases qw with⟨rfl,_⟩|⟨l,b,h1,_⟩
      ·have hne:call (.func (.func g) #[] fl) args.toList m st≠.no:=by
        intro gd;simp only[jV,gd]at h;cases h
       obtain⟨K8,kG⟩:=gE ι g #[] fl args.toList m st #[] ov e.args.toList w (bN.nil ι) akk F6 hw hne;have hinv:(invoke e.target e.args).run X.P w= .ok (.enter g (e.args++ov)) w:=by
        rw[het];exact K8 _ _
       have nj:=step_defer (cs:=cs) hm.WG nb het hinv;have akl:(#[]++e.args.toList.toArray++ov:Array Value)=e.args++ov:=by simp
       rw[akl]at kG;cases m with
       |none=>
        have CG:F.mode= .returning:=hm;have uR:=kG .deferred (fun _=>{F with defers:=es}::cs) (fun G ew dv=>by
         show tryRecover G ({F with defers:=es}::cs)=none;have Cl:G.kind= .deferred:=dv;rw[tryRecover_deferred Cl];simp[recoverD,CG])
        cases hc:call (.func (.func g) #[] fl) args.toList none st with
        |no=>exact absurd hc hne
        |ret v cm ew=>
         rw[hc]at uR;have aB:jV call ds none cm=some r:=by
          simp only[jV,hc]at h;exact h
         obtain⟨aV,v',w',G,_,ev,U,Gj,_,sV,ah⟩:=uR;have pM:=step_going_returned (P:=X.P) (c:={F with defers:=es}) (cs:=cs) Gj sV;have qE:settle ({F with defers:=es}:Frame).mode= .returning:=by
          show settle F.mode=_;rw[CG];rfl
         rw[qE]at pM;obtain⟨kg,jC,md,e1,aL,aR,a7⟩:=AW gE ds none cm r aB aV w' {{F with defers:=es}with mode:=.returning} cs (iu.mono U.le) (show o2 aV none .returning from rfl) ev;exact⟨kg,jC,md,(Steps.head nj ah).trans (.head pM e1),aL,aR,U.trans a7⟩
        |bk v cm ew=>
         rw[hc]at uR;have aB:jV call ds (some v) cm=some r:=by
          simp only[jV,hc]at h;exact h
         obtain⟨aV,v',w',G,aH,ev,U,Gj,_,sV,ah⟩:=uR;have pM:=step_going_panicked (P:=X.P) (c:={F with defers:=es}) (cs:=cs) sV;have qE:raised ({F with defers:=es}:Frame).mode [{v:=v',recovered:=false}]= .panicking [{v:=v',recovered:=false}]:=by
          show raised F.mode _=_;rw[CG];rfl
         rw[qE]at pM;obtain⟨kg,jC,md,e1,aL,aR,a7⟩:=AW gE ds (some v) cm r aB aV w' {{F with defers:=es}with mode:=.panicking [{v:=v',recovered:=false}]} cs (iu.mono U.le) ⟨v',aH,rfl⟩ ev;exact⟨kg,jC,md,(Steps.head nj ah).trans (.head pM e1),aL,aR,U.trans a7⟩
       |some r5=>
        obtain⟨nu,zE,CG⟩:=hm;have uR:=kG .deferred (fun ew=>{F with defers:=es,mode:=.panicking [{v:=nu,recovered:=ew}]}::cs) ⟨nu,zE,fun G dv=>by
         have Cl:G.kind= .deferred:=dv;rw[tryRecover_deferred Cl];simp[recoverD],fun G dv=>by
         have Cl:G.kind= .deferred:=dv;rw[tryRecover_deferred Cl];simp[recoverD]⟩
        have oC:({F with defers:=es,mode:=.panicking [{v:=nu,recovered:=false}]}:Frame)={F with defers:=es}:=by rw[<-CG]
        rw[oC]at uR;cases hc:call (.func (.func g) #[] fl) args.toList (some r5) st with
        |no=>exact absurd hc hne
        |ret v cm ew=>
         rw[hc]at uR;obtain⟨aV,v',w',G,_,ev,U,Gj,_,sV,ah⟩:=uR;have pM:=step_going_returned (P:=X.P) (c:={F with defers:=es,mode:=.panicking [{v:=nu,recovered:=ew}]}) (cs:=cs) Gj sV;cases ew with
         |true=>
          have aB:jV call ds none cm=some r:=by
           simp only[jV,hc]at h;exact h
          have qE:settle ({F with defers:=es,mode:=.panicking [{v:=nu,recovered:=true}]}:Frame).mode= .returning:=rfl;rw[qE]at pM;obtain⟨kg,jC,md,e1,aL,aR,a7⟩:=AW gE ds none cm r aB aV w' {{F with defers:=es}with mode:=.returning} cs (iu.mono U.le) (show o2 aV none .returning from rfl) ev;exact⟨kg,jC,md,(Steps.head nj ah).trans (.head pM e1),aL,aR,U.trans a7⟩
         |false=>
          have aB:jV call ds (some r5) cm=some r:=by
           simp only[jV,hc]at h;exact h
          have qE:settle ({F with defers:=es,mode:=.panicking [{v:=nu,recovered:=false}]}:Frame).mode= .panicking [{v:=nu,recovered:=false}]:=rfl;rw[qE]at pM;obtain⟨kg,jC,md,e1,aL,aR,a7⟩:=AW gE ds (some r5) cm r aB aV w' {{F with defers:=es}with mode:=.panicking [{v:=nu,recovered:=false}]} cs (iu.mono U.le) ⟨nu,zE.mono U.le,rfl⟩ ev;exact⟨kg,jC,md,(Steps.head nj ah).trans (.head pM e1),aL,aR,U.trans a7⟩
        |bk v cm ew=>
         exfalso;simp only[jV,hc]at h;cases h
      ·cases h1
     |_=>simp[jV]at h
    |_=>rw[het]at u3;exact u3.elim
   |_=>simp[jV]at h
section
variable{P:Program}{b:dI}{a:Act}{k:List Item}{cs:List Frame}{w:World}
def dI.returns(b:dI)(a:Act)(iB:List Item):Frame:={b.at a iB with mode:=.returning}
theorem arZ(aa:b.b4=none):step P (lone (b.at a []) cs w)= .next (lone (b.returns a []) cs w):=step_lone_go (by simp[stepG,stepG.exec,dI.at,dI.returns,aa])
theorem asd(aa:b.b4=none):step P (lone (b.at a (.code .ret::k)) cs w)= .next (lone (b.returns a (.code .ret::k)) cs w):=step_lone_go (by simp[stepG,stepG.exec,dI.at,dI.returns,aa])
end
theorem PE:∀(vs:List Value) (i:Nat) (t:ao Value) (j:Nat),(nO vs i t).get j=if i<=j∧j<i+vs.length then vs[j-i]? else t.get j
 |[],i,t,j=>by rw[if_neg (by simp)];rfl
 |v::vs,i,t,j=>by
  show(ao.e9 (Nat.succ i) t i v fun t=>nO vs (Nat.succ i) t).get j=_;rw[ao.yf,PE vs (Nat.succ i) _ j,ao.ey];by_cases e:j=i
  ·subst e;rw[if_neg (by omega),if_pos rfl,if_pos (by simp)];simp
  ·by_cases h:Nat.succ i<=j∧j<Nat.succ i+vs.length
   ·rw[if_pos h,if_pos (by simp only[List.length_cons];omega)];obtain⟨h1,_⟩:=h;have:j-i=(j-Nat.succ i)+1:=by omega
    rw[this];simp
   ·rw[if_neg h,if_neg e,if_neg (by simp only[List.length_cons];omega)]
theorem afP{ι:bA}{as as':List Value}{aS:Nat}{bk:Option Value}{ew:Bool}{b4:Option Nat}(h:bN ι as as')(hn:as.length<=aS):
 cB ι ⟨nO as 0 .nil,[],bk,ew,b4⟩ ⟨as'.toArray++Array.replicate (aS-as'.toArray.size) undef,[]⟩ aS:=by
 refine⟨fun t=> ?_,by simp[<-h.1];omega,trivial⟩;show bq ι (Option.rec (motive:=fun _=>Value) (.chan (some 0)) (fun v=>v) ((nO as 0 .nil).get t)) _;rw[PE];by_cases aN:t<as.length
 ·rw[if_pos ⟨Nat.zero_le _,by omega⟩];have mL:t<as'.length:=by rw[<-h.1];exact aN
  have:=h.2 t aN mL;simp only[Nat.sub_zero,a9 aN];have aO:(as'.toArray++Array.replicate (aS-as'.toArray.size) undef).getD t undef=as'[t]:=by
   simp[Array.getElem?_append,mL]
  rw[aO];exact this
 ·rw[if_neg (by omega)];exact .top _
section
variable{b:dI}{bz:Bool->List Frame}{ι:bA}{fr:aT}{a:Act}{aS:Nat}{st:au}{w:World}
theorem KK(gE:vZ X call){Fn:Func}{res:List ig}{m:Option Value}{F:Frame}(ar:X.P.funcs[b.fn]? =some Fn)(w9:tE X res Fn.results.toList=true)(ab:cB ι fr a aS)(hw:bt X ι st w)
 (h1:F.tmps=a.tmps) (h2:F.defers=a.defers) (h3:F.kind=b.kind) (ay:F.fn=b.fn) (hm:o2 ι m F.mode):j0 X ι w b bz (lone F (bz fr.cF) w) (nQ call res m fr st):=by
 unfold nQ;cases hu:jV call fr.c4 m st with
 |none=>trivial
 |some p=>
  obtain⟨fq,st'⟩:=p;obtain⟨aV,w',md,ah,aL,aR,a7⟩:=AW gE fr.c4 m st (fq,st') hu ι w F (bz fr.cF) (by rw[h2];exact ab.c4) hm hw;cases fq with
  |some v=>
   obtain⟨v',aH,Lq⟩:=aL;exact⟨aV,v',w',{F with defers:=[],mode:=md},aH,aR,a7,h3,ay,⟨Lq,rfl,Fn,by show X.P.funcs[F.fn]? =_;rw[ay];exact ar⟩,ah⟩
  |none=>
   have Lq:md= .returning:=aL;show j0 X ι w b bz _ (bl (qq fr st' res) (fun vs=>one vs (fun v=>.ret v st' fr.cF) (.ret (.tuple ⟨vs⟩) st' fr.cF)) .no);cases he:qq fr st' res with
   |none=>trivial
   |some out=>
    have eG:cB aV ⟨fr.t,[],fr.bk,fr.cF,fr.b4⟩ ⟨a.tmps,[]⟩ aS:=⟨fun t=>(ab.tmp t).mono a7.le,ab.size,trivial⟩;obtain⟨v',aH,fS⟩:=aqd (F:=Fn) w9 eG aR (show qq ⟨fr.t,[],fr.bk,fr.cF,fr.b4⟩ st' res=some out from he);have Ly:bl (some out) (fun vs=>one vs (fun v=>dJ.ret v st' fr.cF) (.ret (.tuple ⟨vs⟩) st' fr.cF)) .no= .ret (one out (fun v=>v) (.tuple ⟨out⟩)) st' fr.cF:=by
     cases out with
     |nil=>rfl
     |cons x xs=>cases xs<;>rfl
    rw[Ly];refine⟨aV,v',w',{F with defers:=[],mode:=md},aH,aR,a7,h3,ay,⟨Lq,rfl,Fn,by show X.P.funcs[F.fn]? =_;rw[ay];exact ar,?_⟩,ah⟩;show(results Fn F.tmps).run X.P w'=_;rw[h1];exact fS
structure vY(X:Ctx)(f:FuncId)(xf:df)(Fn:Func)(c:Code):Prop where
 fn:X.P.funcs[f]? =some Fn
 body:Fn.body=some c
 aS:Fn.ntmps=xf.aS
 code:codeOk X xf.aS xf.body c=true
 res:tE X xf.res Fn.results.toList=true
 name:(Fn.name== "runtime.NumGoroutine")=false
theorem vY.enters{f:FuncId}{xf:df}{Fn:Func}{body:Code}(h:vY X f xf Fn body)(as:Array Value)(w:World):(callFunc f as).run X.P w= .ok (.enter f as) w:=by
 have hn:=h.name;simp only[callFunc,program,Sem.run_bind];simp[Sem.run,h.fn,h.body,hn,Result.andThen]
theorem P7(dv:Good X)(eu:mW X call)(gE:vZ X call)(zI:∀b aS bz,b.b4=none->ED X call b aS bz){f:FuncId}{xf:df}{Fn:Func}{body:Code}(ok:vY X f xf Fn body)(n:Nat){K:CallKind}{as as':List Value}{bk:Option Value}
 (has:bN ι as as') (hw:bt X ι st w) (aQ:kR ⟨f,K,none⟩ bk ι bz):j0 X ι w ⟨f,K,none⟩ bz (lone (Frame.enter X.P f as'.toArray K) (bz false) w) (pc call n f xf as bk st):=by
 unfold pc;rw[pR];split
 ·rename_i hlen;rw[fU]at hlen
  let b:dI:=⟨f,K,none⟩
  have sS:Frame.enter X.P f as'.toArray K=b.at ⟨as'.toArray++Array.replicate (xf.aS-as'.toArray.size) undef,[]⟩ [.code body]:=by
   simp[Frame.enter,dI.at,ok.fn,ok.body,ok.aS,b]
  rw[sS];have Gv:=Kk (b:=b) (bz:=bz) dv eu (zI b xf.aS bz rfl) ⟨Fn,ok.fn,ok.aS⟩ n xf.body body ι ⟨nO as 0 .nil,[],bk,false,none⟩ ⟨as'.toArray++Array.replicate (xf.aS-as'.toArray.size) undef,[]⟩ st w [] ok.code (afP has hlen) hw (.inl ⟨rfl,rfl⟩) aQ;cases jd:dA call n f xf.body ⟨nO as 0 .nil,[],bk,false,none⟩ st with
  |no=>trivial
  |out e aI st'=>
   have akF:dA call n b.fn xf.body ⟨nO as 0 .nil,[],bk,false,none⟩ st= .out e aI st':=jd;rw[akF]at Gv;obtain⟨aV,a',w',h1,h2,h3,_,_,b7⟩:=Gv;cases e with
   |norm=>
    refine j0.head (Steps.trans b7 (.one (arZ rfl))) h3 ?_;exact KK (b:=b) (a:=a') (F:=b.returns a' []) (aS:=xf.aS) gE ok.fn ok.res h1 h2 rfl rfl rfl rfl (show o2 aV none .returning from rfl)
   |exit id=>trivial
   |ret=>
    obtain⟨iB,dn⟩:=b7;refine j0.head (Steps.trans dn (.one (asd rfl))) h3 ?_;exact KK (b:=b) (a:=a') (F:=b.returns a' (.code .ret::iB)) (aS:=xf.aS) gE ok.fn ok.res h1 h2 rfl rfl rfl rfl (show o2 aV none .returning from rfl)
   |bk v=>
    obtain⟨v',iB,aH,dn⟩:=b7;refine j0.head dn h3 ?_;exact KK (b:=b) (a:=a') (F:=b.panics a' iB v') (aS:=xf.aS) gE ok.fn ok.res h1 h2 rfl rfl rfl rfl ⟨v',aH,rfl⟩
 ·trivial
end
theorem G4{β:Type}{o:Option bw}{k:LoopState->Option dF->FuncId->ao Value->List Tmp->dy->dy->Nat->β}{z r:β}(h:l3 o k z=r)(ax:z≠r):
 ∃s fW fn t ps a b d,o=some (.loop s fW fn t ps a b d)∧k s fW fn t ps a b d=r:=by
 unfold l3 at h;obtain⟨eg,ak,h1⟩:=fy h ax;cases eg<;>first|exact absurd h1 ax|exact⟨_,_,_,_,_,_,_,_,ak,h1⟩
section
variable{P:Program}{b:dI}{a:Act}{k:List Item}{c:Frame}{cs:List Frame}{w w':World}{l:Nat}
theorem arX(aa:b.b4=some l)(h:(Instr.beginRound l).run P w= .ok () w'):step P (lone (b.at a (.beginRound::k)) cs w)= .next (lone (b.at a k) cs w'):=
 step_lone_go (by simp[stepG,stepG.exec,stepG.apply,dI.at,aa,h,Result.andThen,Frame.finish])
theorem asg{v:Value}(aa:b.b4=some l)(U:b.kind= .normal)(h:(Instr.endRound l none).run P w= .ok v w'):step P (lone (b.at a []) (c::cs) w)= .next (lone (c.finish v) cs w'):=
 step_lone_go (by simp[stepG,stepG.exec,dI.at,aa,U,h,doReturn])
theorem asi{v:Value}(aa:b.b4=some l)(U:b.kind= .normal)(h:(Instr.endRound l (some .ret)).run P w= .ok v w'):step P (lone (b.at a (.code .ret::k)) (c::cs) w)= .next (lone (c.finish v) cs w'):=
 step_lone_go (by simp[stepG,stepG.exec,dI.at,aa,U,h,doReturn])
theorem ash{v:Value}{i:Nat}(aa:b.b4=some l)(U:b.kind= .normal)(J:exitTo i k=none)(h:(Instr.endRound l (some (.exit i))).run P w= .ok v w'):step P (lone (b.at a (.code (.exit i)::k)) (c::cs) w)= .next (lone (c.finish v) cs w'):=
 step_lone_go (by simp[stepG,stepG.exec,dI.at,aa,U,J,h,doReturn])
end
theorem Xv{ι:bA}:∀(ps:List Tmp) (vs fX:List Value) (m:ao Value) (arr:Array Value),(∀n,bq ι (AU m n) (arr.getD n undef))->bN ι vs fX->vs.length=ps.length->(∀t∈ps,t<arr.size)->
 (∀n,bq ι (AU (nt ps vs m) n) (((ps.zip fX).foldl (fun tmps (p:Tmp×Value)=>tmps.setIfInBounds p.1 p.2) arr).getD n undef))∧((ps.zip fX).foldl (fun tmps (p:Tmp×Value)=>tmps.setIfInBounds p.1 p.2) arr).size=arr.size
 |[],_,_,m,arr,h,_,_,_=>⟨h,rfl⟩
 |t::ps,[],_,_,_,_,_,hl,_=>by simp at hl
 |t::ps,v::vs,fX,m,arr,h,aH,hl,aP=>by
  obtain⟨y,aq,rfl,h1,h2⟩:=aH.cons_inv;have aN:t<arr.size:=aP t List.mem_cons_self;have nj:∀n,bq ι (AU (m.set t v) n) ((arr.setIfInBounds t y).getD n undef):=by
   intro n;have hn:=h n;unfold AU at hn⊢;rw[ao.ey];by_cases e:n=t
   ·subst e;rw[if_pos rfl];have:(arr.setIfInBounds n y).getD n undef=y:=by simp[aN]
    rw[this];exact h1
   ·rw[if_neg e];have:(arr.setIfInBounds t y).getD n undef=arr.getD n undef:=by
     simp[Array.getElem?_setIfInBounds_ne (Ne.symm e)]
    rw[this];exact hn
  obtain⟨aL,aR⟩:=Xv ps vs aq (m.set t v) (arr.setIfInBounds t y) nj h2 (by simpa using hl) (fun u hu=>by simpa using aP u (List.mem_cons_of_mem _ hu));have hp:nt (t::ps) (v::vs) m=nt ps vs (m.set t v):=by
   show ao.e9 (Nat.succ t) m t v (fun m=>nt ps vs m)=_;rw[ao.yf]
  rw[hp];refine⟨aL,?_⟩;rw[List.zip_cons_cons,List.foldl_cons,aR];simp
theorem bt.loop{ι:bA}{st:au}{w:World}(hw:bt X ι st w){l l':Nat}{s:LoopState}{fW:Option dF}{fn:FuncId}{t:ao Value}{ps:List Tmp}{du body:dy}{d:Nat}(h:st.h.get l=some (.loop s fW fn t ps du body d))(hl:ι l=some ⟨l',0,0,id⟩):
 ∃L:Loop,w.heap[l']? =some (.loop L)∧L.state=s∧EC fW L.pending∧L.fn=fn∧(∀n,bq ι (AU t n) (L.tmps.getD n undef))∧L.params.toList=ps∧X.ok fn L.assign du∧X.ok fn L.body body∧ι d=some ⟨L.defers,0,0,id⟩∧
  (∃F,X.P.funcs[fn]? =some F∧L.tmps.size=F.ntmps)∧∀t∈ps,t<L.tmps.size:=by
 obtain⟨m,hm,_,_,L,k0⟩:=hw.eK _ _ h (by simp);have e:=hl.symm.trans hm;cases e;exact⟨L,k0⟩
theorem bt.Mc{ι:bA}{st:au}{w:World}(hw:bt X ι st w){l l':Nat}{s:LoopState}{fW:Option dF}{fn:FuncId}{t:ao Value}{ps:List Tmp}{du body:dy}{d:Nat}(h:st.h.get l=some (.loop s fW fn t ps du body d))(hl:ι l=some ⟨l',0,0,id⟩)
 {L:Loop} (k0:w.heap[l']? =some (.loop L)) (br:LoopState) (XD:Option dF) (jump:Option Code) (hj:EC XD jump):
 bt X ι ⟨st.h.set l (.loop br XD fn t ps du body d),st.ai⟩ (w.putObj l' (.loop {L with state:=br,pending:=jump}))∧fF ι ι w (w.putObj l' (.loop {L with state:=br,pending:=jump})):=by
 obtain⟨atU,h0,h1,h2,h3,ay,aY,b7,dn,hr,gD,sN⟩:=hw.loop h hl;rw[k0]at h0;cases h0;exact hw.vL X h (by simp) (fun ab=>ab) hl _ (.loop {L with state:=br,pending:=jump}) _ rfl fun _ aN=>⟨rfl,rfl,{L with state:=br,pending:=jump},aN,rfl,hj,h3,ay,aY,b7,dn,hr,gD,sN⟩
section
variable{ι:bA}{st:au}{w:World}
theorem aqg{b:dI}{aS l l':Nat}{Fn:Func}{c:Frame}{cs:List Frame}{s:Machine}{eZ:aT}{aV:bA}{fM:World}{r:cY}(nU:X.P.funcs[b.fn]? =some Fn)(wP:b.b4=some l')(K5:b.kind= .normal)(hl:aV l=some ⟨l',0,0,id⟩)
 (h:gC X b aS (fun _=>c::cs) s [] eZ aV fM r):
 match p5 l r with
 |.ret v st' _=>∃fc v' w',bq fc v v'∧bt X fc st' w'∧fF aV fc fM w'∧Steps X.P s (lone (c.finish v') cs w')
 |.bk v st' _=>∃fc v' w',bq fc v v'∧bt X fc st' w'∧fF aV fc fM w'∧Steps X.P s (lone (c.raise [{v:=v',recovered:=false}]) cs w')
 |.no=>True:=by
 cases r with
 |no=>trivial
 |out e fr st=>
  obtain⟨fc,a,w,ab,hw,U,_,_,J⟩:=h;have hL:=U.le _ _ hl;cases nb:fr.c4 with
  |cons d ds=>
   have:p5 l (.out e fr st)= .no:=by show List.rec (motive:=fun _=>dJ) _ _ fr.c4=_;rw[nb]
   rw[this];trivial
  |nil=>
   have akj:a.defers=[]:=by
    have:=ab.c4;rw[nb]at this;cases ha:a.defers with
    |nil=>rfl
    |cons d ds=>rw[ha]at this;exact this.elim
   have key:∀(br:LoopState) (fW:Option dF) (jump:Option Code) (v:Value),EC fW jump->
    (∀L,w.heap[l']? =some (.loop L)->∃w',w'=w.putObj l' (.loop {L with state:=br,pending:=jump})∧Steps X.P s (lone (c.finish v) cs w'))->bq fc v v->
    match l3 (st.h.get l) (fun _ _ fn t ps a b d=>st.g9 l (.loop br fW fn t ps a b d) fun st=>dJ.ret v st false) .no with
    |.ret v st' _=>∃fc v' w',bq fc v v'∧bt X fc st' w'∧fF aV fc fM w'∧Steps X.P s (lone (c.finish v') cs w')
    |.bk v st' _=>∃fc v' w',bq fc v v'∧bt X fc st' w'∧fF aV fc fM w'∧Steps X.P s (lone (c.raise [{v:=v',recovered:=false}]) cs w')
    |.no=>True:=by
    intro br fW jump v hj dN aH;by_cases gd:l3 (st.h.get l) (fun _ _ fn t ps a b d=>st.g9 l (.loop br fW fn t ps a b d) fun st=>dJ.ret v st false) .no= .no
    ·rw[gd];trivial
    ·obtain⟨aJ,l9,FL,t0,HE,kk,iZ,d0,j9,h1⟩:=G4 rfl (fun e=>gd e.symm);rw[<-h1,kt];obtain⟨L,k0,_⟩:=hw.loop j9 hL;obtain⟨w',ev,e1⟩:=dN L k0;obtain⟨aL,aR⟩:=hw.Mc j9 hL k0 br fW jump hj;exact⟨fc,v,w',aH,by rw[ev];exact aL,by rw[ev];exact U.trans aR,e1⟩
   cases e with
   |norm=>
    have:p5 l (.out .norm fr st)=l3 (st.h.get l) (fun _ _ fn t ps a b d=>st.g9 l (.loop .ready none fn t ps a b d) fun st=>dJ.ret (.bool true) st false) .no:=by
     show List.rec (motive:=fun _=>dJ) _ _ fr.c4=_;rw[nb]
    rw[this];exact key .ready none none (.bool true) trivial (fun L k0=>⟨_,rfl,Steps.trans J (.one (asg wP K5 (run_endRound none k0)))⟩) (.bool true)
   |exit i=>
    have:p5 l (.out (.exit i) fr st)=l3 (st.h.get l) (fun _ _ fn t ps a b d=>st.g9 l (.loop .done (some (.exit i)) fn t ps a b d) fun st=>dJ.ret (.bool false) st false) .no:=by
     show List.rec (motive:=fun _=>dJ) _ _ fr.c4=_;rw[nb]
    rw[this];obtain⟨iB,alT,bV⟩:=J;exact key .done (some (.exit i)) (some (.exit i)) (.bool false) rfl (fun L k0=>⟨_,rfl,Steps.trans bV (.one (ash wP K5 (by rw[alT];rfl) (run_endRound (some (.exit i)) k0)))⟩) (.bool false)
   |ret=>
    have:p5 l (.out .ret fr st)=l3 (st.h.get l) (fun _ _ fn t ps a b d=>st.g9 l (.loop .done (some .ret) fn t ps a b d) fun st=>dJ.ret (.bool false) st false) .no:=by
     show List.rec (motive:=fun _=>dJ) _ _ fr.c4=_;rw[nb]
    rw[this];obtain⟨iB,bV⟩:=J;exact key .done (some .ret) (some .ret) (.bool false) trivial (fun L k0=>⟨_,rfl,Steps.trans bV (.one (asi wP K5 (run_endRound (some .ret) k0)))⟩) (.bool false)
   |bk v=>
    have:p5 l (.out (.bk v) fr st)= .bk v st false:=by
     show List.rec (motive:=fun _=>dJ) _ _ fr.c4=_;rw[nb]
    rw[this];obtain⟨v',iB,aH,bV⟩:=J;refine⟨fc,v',w,aH,hw,U,Steps.trans bV (.one (step_leave_panicked (fr:=b.panics a iB v') ⟨rfl,akj,Fn,nU⟩))⟩
theorem atN(dv:Good X)(eu:mW X call)(zI:∀b aS bz,ED X call b aS bz){n l l':Nat}{args jG:List Value}(hl:ι l=some ⟨l',0,0,id⟩)(ha:bN ι args jG)(hw:bt X ι st w)(hne:yw call n l args st≠.no):
 ∃fn ts du body,(Instr.yield l' jG.toArray).run X.P w= .ok (.round l' fn ts du body) w∧∀c cs,A7 X ι w (Frame.round l' fn ts du body .normal) c cs (yw call n l args st):=by
 unfold yw at hne⊢;obtain⟨s,fW,fn,t,ps,du,body,d,j9,h1⟩:=G4 rfl (fun e=>hne e.symm);rw[<-h1]at hne⊢;obtain⟨hlen,h2⟩:=lu rfl (fun e=>hne e.symm);rw[<-h2]at hne⊢;rw[fU,fU]at hlen;obtain⟨L,k0,ah,hj,gE,zK,ju,K4,zs,av,⟨Fn,nU,eJ⟩,aP⟩:=hw.loop j9 hl;have alL:jG.toArray.size=L.params.size:=by
  have:L.params.size=ps.length:=by rw[<-ju];simp
  rw[this,<-hlen];simpa using ha.1.symm
 refine⟨L.fn,_,L.assign,L.body,run_yield k0 alL,fun c cs=> ?_⟩;subst gE;obtain⟨iA,hB⟩:=Xv ps args jG t L.tmps zK ha hlen aP;have Vb:(L.params.zip jG.toArray).foldl (fun tmps (x:Tmp×Value)=>tmps.setIfInBounds x.1 x.2) L.tmps=(ps.zip jG).foldl (fun tmps (p:Tmp×Value)=>tmps.setIfInBounds p.1 p.2) L.tmps:=by
  rw[<-Array.foldl_toList,Array.toList_zip,ju]
 let b:dI:=⟨L.fn,.normal,some l'⟩
 let tL:=(L.params.zip jG.toArray).foldl (fun tmps (x:Tmp×Value)=>tmps.setIfInBounds x.1 x.2) L.tmps
 have auG:Frame.round l' L.fn tL L.assign L.body .normal=b.at ⟨tL,[]⟩ [.code L.assign,.beginRound,.code L.body]:=rfl;obtain⟨mw,j7,alm⟩:=(dv.2 _ _ _).1 K4;obtain⟨iG,oD,s0⟩:=(dv.2 _ _ _).1 zs;rw[nU]at j7 oD;cases j7;cases oD;have ab:cB ι ⟨nt ps args t,[],none,false,some l⟩ ⟨tL,[]⟩ Fn.ntmps:=by
  refine⟨fun u=> ?_,?_,trivial⟩
  ·have:=iA u;rw[<-Vb]at this;exact this
  ·show tL.size=_;rw[<-eJ,<-hB,<-Vb]
 have U5:∀bk:Option Value,bk=none->∀aV,kR b bk aV (fun _=>c::cs):=by
  rintro _ rfl aV F ew ar;have c6:F.kind= .normal:=ar;simp[tryRecover,c6]
 have Gv:=Kk (b:=b) (bz:=fun _=>c::cs) dv eu (zI b Fn.ntmps _) ⟨Fn,nU,rfl⟩ n du L.assign ι ⟨nt ps args t,[],none,false,some l⟩ ⟨tL,[]⟩ st w [.beginRound,.code L.body] alm ab hw (.inr ⟨l,l',rfl,rfl,hl⟩) (U5 _ rfl ι);have U8:gC X b Fn.ntmps (fun _=>c::cs) (lone (Frame.round l' L.fn tL L.assign L.body .normal) (c::cs) w) [.beginRound,.code L.body] ⟨nt ps args t,[],none,false,some l⟩ ι w (dA call n L.fn du ⟨nt ps args t,[],none,false,some l⟩ st):=Gv;generalize dA call n L.fn du ⟨nt ps args t,[],none,false,some l⟩ st=ic at U8 hne⊢;cases ic with
 |no=>exact absurd rfl hne
 |out e eZ cm=>
  obtain⟨aV,fY,fM,sT,oJ,oG,u0,CP,GA⟩:=U8;cases e with
  |exit _=>exact absurd rfl hne
  |ret=>exact absurd rfl hne
  |bk _=>exact absurd rfl hne
  |norm=>
   have zC:AJ call n l L.fn body eZ cm≠.no:=hne;show A7 X ι w _ c cs (AJ call n l L.fn body eZ cm);unfold AJ at zC⊢;obtain⟨s1,Ao,Ca,t1,DI,Bu,BA,d1,Ge,h3⟩:=G4 rfl (fun e=>zC e.symm);rw[<-h3]at zC⊢;cases s1 with
   |busy=>exact absurd rfl zC
   |done=>exact absurd rfl zC
   |exhausted=>exact absurd rfl zC
   |ready=>
    have hL:=oG.le _ _ hl;obtain⟨q8,Cn,lX,nd,aum,_⟩:=oJ.loop Ge hL;have fQ:(Instr.beginRound l').run X.P fM= .ok () (fM.putObj l' (.loop {q8 with state:=.busy})):=run_beginRound Cn lX;have alN:=arX (P:=X.P) (b:=b) (a:=fY) (k:=[.code L.body]) (cs:=c::cs) rfl fQ;obtain⟨CX,js⟩:=oJ.Mc Ge hL Cn .busy Ao q8.pending nd;have alK:=Kk (b:=b) (bz:=fun _=>c::cs) dv eu (zI b Fn.ntmps _) ⟨Fn,nU,rfl⟩ n body L.body aV eZ fY ⟨cm.h.set l (.loop .busy Ao Ca t1 DI Bu BA d1),cm.ai⟩ (fM.putObj l' (.loop {q8 with state:=.busy})) [] s0 sT CX (by rw[CP];exact .inr ⟨l,l',rfl,rfl,hL⟩) (U5 _ u0 aV);have w6:Steps X.P (lone (Frame.round l' L.fn tL L.assign L.body .normal) (c::cs) w) (lone (b.at fY [.code L.body]) (c::cs) (fM.putObj l' (.loop {q8 with state:=.busy}))):=Steps.trans GA (.one alN);have hT:=oG.trans js;have s3:=aqg (b:=b) (l:=l) nU rfl rfl hL alK;show A7 X ι w _ c cs (cm.g9 l (.loop .busy Ao Ca t1 DI Bu BA d1) fun st=>p5 l (dA call n L.fn body eZ st));rw[kt];have cT:dA call n b.fn body eZ ⟨cm.h.set l (.loop .busy Ao Ca t1 DI Bu BA d1),cm.ai⟩=dA call n L.fn body eZ ⟨cm.h.set l (.loop .busy Ao Ca t1 DI Bu BA d1),cm.ai⟩:=rfl;rw[cT]at s3;generalize p5 l (dA call n L.fn body eZ ⟨cm.h.set l (.loop .busy Ao Ca t1 DI Bu BA d1),cm.ai⟩)=Y7 at s3⊢;cases Y7 with
    |no=>trivial
    |ret v st' ew=>obtain⟨fc,v',w',aL,aR,a7,cl⟩:=s3;exact⟨fc,v',w',aL,aR,hT.trans a7,w6.trans cl⟩
    |bk v st' ew=>obtain⟨fc,v',w',aL,aR,a7,cl⟩:=s3;exact⟨fc,v',w',aL,aR,hT.trans a7,w6.trans cl⟩
end
section
variable{P:Program}{b:dI}{a:Act}{k:List Item}{cs:List Frame}{w fM:World}{f:Operand}{ps:Array Tmp}{du body:Code}{l:Nat}{mark:List Deferred}
theorem Y0(_hb:b.b4=none):(Frame.eval {fn:=b.fn,tmps:=a.tmps,todo:=.inRangeFunc l::k,defers:=mark++a.defers,mode:=.run,kind:=b.kind,roundOf:=none}) f=a.eval f:=by cases f<;>rfl
theorem YZ{a:Act}{v:Value}:a.eval (.const v)=v:=rfl
theorem ase(aa:b.b4=none)(h:(Instr.enterLoop b.fn a.tmps ps du body none).run P w= .ok (l,mark) fM){g:FuncId}{as:Array Value}
 (aQ:((do let d<-Deferred.ofValue (a.eval f) #[.func (.yield l) #[] #[]];invoke d.target d.args):Sem Next).run P fM= .ok (.enter g as) fM):
 step P (lone (b.at a (.code (.rangeFunc f ps du body)::k)) cs w)= .next (lone (Frame.enter P g as .normal) (b.at {a with defers:=mark++a.defers} (.inRangeFunc l::k)::cs) fM):=by
 refine step_lone_go ?_;have mJ:=aQ;simp only[Sem.run_bind]at mJ;simp[stepG,stepG.exec,stepG.apply,dI.at,aa,h,resolve,Y0 aa,YZ,mJ]
theorem asf(aa:b.b4=none)(h:(Instr.enterLoop b.fn a.tmps ps du body none).run P w= .ok (l,mark) fM){fJ:Nat}{g:FuncId}{ts:Array Value}{JU J7:Code}
 (aQ:((do let d<-Deferred.ofValue (a.eval f) #[.func (.yield l) #[] #[]];invoke d.target d.args):Sem Next).run P fM= .ok (.round fJ g ts JU J7) fM):
 step P (lone (b.at a (.code (.rangeFunc f ps du body)::k)) cs w)= .next (lone (Frame.round fJ g ts JU J7 .normal) (b.at {a with defers:=mark++a.defers} (.inRangeFunc l::k)::cs) fM):=by
 refine step_lone_go ?_;have mJ:=aQ;simp only[Sem.run_bind]at mJ;simp[stepG,stepG.exec,stepG.apply,dI.at,aa,h,resolve,Y0 aa,YZ,mJ]
theorem ar0{jump:Option Code}(h:(Instr.endLoop l).run P w= .ok jump fM):step P (lone (b.at a (.endRangeFunc l::k)) cs w)= .next (lone (b.at a ((jump.map Item.code).toList++k)) cs fM):=
 step_lone_go (by simp[stepG,stepG.exec,dI.at,h])
end
theorem NH(eu:mW X call)(b:dI)(aS:Nat)(bz:Bool->List Frame):ED X call b aS bz:=by
 intro f ps du body o7 pb ι fr a st w k akN aP nU K4 zs ab hw aa aQ;unfold B6;cases pK:fr.b4 with
 |some _=>trivial
 |none=>
  have zr:b.b4=none:=by
   rcases aa with⟨_,h⟩|⟨l,l',h,_⟩
   ·exact h
   ·rw[pK]at h;cases h
  obtain⟨Fn,nU,Lv⟩:=nU;have sS:=run_enterLoop_outer (P:=X.P) (w:=w) b.fn a.tmps ps o7 pb;obtain⟨avc,oJ,oG,h1,_⟩:=bt.alloc X hw (.iI (some [])) (.deferred (some [])) 0 (fun aV w' _ _ aN=>⟨rfl,rfl,.inl ⟨rfl,aN⟩⟩) (w.alloc (.deferred (some []))) rfl;have alP:(w.alloc (.deferred (some []))).heap.size=w.heap.size+1:=World.size_alloc _ _
  let L:Loop:={state:=.ready,pending:=none,fn:=b.fn,tmps:=a.tmps,params:=ps,assign:=o7,body:=pb,defers:=w.heap.size}
  obtain⟨Jk,CX,js,h2,_⟩:=bt.alloc X oJ (.loop .ready none b.fn fr.t ps.toList du body st.ai) (.loop L) 0 (fun aV w' hle _ aN=>⟨rfl,rfl,L,aN,rfl,trivial,rfl,fun n=>(ab.tmp n).mono (oG.le.trans hle),rfl,K4,zs,hle _ _ h1,⟨Fn,nU,by rw[Lv];exact ab.size⟩,fun t aN=>by show t<a.tmps.size;rw[ab.size];exact aP t aN⟩)
   ((w.alloc (.deferred (some []))).alloc (.loop L)) rfl
  show gC X b aS bz _ k fr ι w (st.jv (.iI (some [])) fun r st=>st.jv (.loop .ready none b.fn fr.t ps.toList du body r) fun l st=>IJ l ⟨fr.t,{target:=.collected r,args:= #[]}::fr.c4,fr.bk,fr.cF,none⟩ (call (fr.aj f) [.func (.yield l) #[] #[]] none st));rw[gv,gv];have hT:=oG.trans js;rw[alP]at h2
  let ek:au:=⟨(st.h.set st.ai (.iI (some []))).set (st.ai+1) (.loop .ready none b.fn fr.t ps.toList du body st.ai),st.ai+1+1⟩
  let aI:aT:=⟨fr.t,{target:=.collected st.ai,args:= #[]}::fr.c4,fr.bk,fr.cF,none⟩
  let a':Act:={a with defers:=[{target:=.collected w.heap.size,args:= #[]}]++a.defers}
  have eG:cB Jk aI a' aS:=⟨fun t=>(ab.tmp t).mono hT.le,ab.size,⟨⟨bN.nil _,js.le _ _ h1⟩,ab.c4.mono hT.le⟩⟩;have al1:bt X Jk ek ((w.alloc (.deferred (some []))).alloc (.loop L)):=CX;have fT:bq Jk (.func (.yield (st.ai+1)) #[] #[]) (.func (.yield (w.heap.size+1)) #[] #[]):=bq.Hs (.inr ⟨_,_,rfl,rfl,h2⟩) (bN.nil _) (bN.nil _);show gC X b aS bz _ k fr ι w (IJ (st.ai+1) aI (call (fr.aj f) [.func (.yield (st.ai+1)) #[] #[]] none ek));by_cases gd:call (fr.aj f) [.func (.yield (st.ai+1)) #[] #[]] none ek= .no
  ·rw[gd];trivial
  obtain⟨fH,dN,ko⟩:=eu Jk (fr.aj f) [.func (.yield (st.ai+1)) #[] #[]] ek (a.eval f) [.func (.yield (w.heap.size+1)) #[] #[]] _ ((ab.aj hw akN).mono hT.le) (bN.cons fT (bN.nil _)) al1 gd;have w6:step X.P (lone (b.at a (.code (.rangeFunc f ps o7 pb)::k)) (bz fr.cF) w)= .next (lone fH (b.at a' (.inRangeFunc (w.heap.size+1)::k)::bz fr.cF) ((w.alloc (.deferred (some []))).alloc (.loop L))):=by
   cases dN with
   |enter g as ah=>exact ase zr sS ah
   |round fJ g ts JU J7 ah=>exact asf zr sS ah
  have ak:=ko (b.at a' (.inRangeFunc (w.heap.size+1)::k)) (bz fr.cF);have iw:aI.bk=fr.bk:=rfl;have ix:aI.b4=fr.b4:=pK.symm;cases hc:call (fr.aj f) [.func (.yield (st.ai+1)) #[] #[]] none ek with
  |no=>exact absurd hc gd
  |bk v gI ew=>
   rw[hc]at ak;obtain⟨aV,v',w',aH,ev,U,ah⟩:=ak;exact⟨aV,a',w',eG.mono U.le,ev,hT.trans U,iw,ix,v',_,aH,Steps.head w6 ah⟩
  |ret v gI ew=>
   rw[hc]at ak;obtain⟨aV,v',w',aH,ev,U,ah⟩:=ak;have kG:(b.at a' (.inRangeFunc (w.heap.size+1)::k)).finish v'=b.at a' (.endRangeFunc (w.heap.size+1)::k):=rfl;rw[kG]at ah;have hl:=U.le _ _ h2;show gC X b aS bz _ k fr ι w (l3 (gI.h.get (st.ai+1)) (fun s fW qt t ps a b d=>
    LoopState.rec (motive:=fun _=>cY)
    (gI.g9 (st.ai+1) (.loop .exhausted fW qt t ps a b d) fun st=>bl fW (fun e=>.out e aI st) (.out .norm aI st))
    .no
    (gI.g9 (st.ai+1) (.loop .exhausted fW qt t ps a b d) fun st=>bl fW (fun e=>.out e aI st) (.out .norm aI st))
    .no s) .no)
   generalize w9:l3 _ _ _=res;by_cases hn:res= .no
   ·rw[hn];trivial
   obtain⟨aJ,l9,FL,t0,HE,kk,iZ,d0,j9,h3⟩:=G4 w9 (fun e=>hn e.symm);obtain⟨q8,Cn,lX,nd,_⟩:=ev.loop j9 hl;have key:aJ≠.busy->(gI.g9 (st.ai+1) (.loop .exhausted l9 FL t0 HE kk iZ d0) fun st=>bl l9 (fun e=>cY.out e aI st) (.out .norm aI st))=res->gC X b aS bz (lone (b.at a (.code (.rangeFunc f ps o7 pb)::k)) (bz fr.cF) w) k fr ι w res:=by
    intro rF he;rw[kt]at he;have Cw:(Instr.endLoop (w.heap.size+1)).run X.P w'= .ok q8.pending (w'.putObj (w.heap.size+1) (.loop {q8 with state:=.exhausted})):=run_endLoop Cn (by rw[lX];exact rF);obtain⟨aL,aR⟩:=ev.Mc j9 hl Cn .exhausted l9 q8.pending nd;have pM:=ar0 (P:=X.P) (b:=b) (a:=a') (k:=k) (cs:=bz fr.cF) Cw;have ez:=(Steps.head w6 ah).trans (.one pM);have CB:=(hT.trans U).trans aR;have Cx:=eG.mono U.le;cases l9 with
    |none=>
     have lW:cY.out .norm aI ⟨gI.h.set (st.ai+1) (.loop .exhausted none FL t0 HE kk iZ d0),gI.ai⟩=res:=he;cases hp:q8.pending with
     |some _=>rw[hp]at nd;exact nd.elim
     |none=>
      rw[<-lW];rw[hp]at ez aL CB;exact⟨aV,a',_,Cx,aL,CB,iw,ix,ez⟩
    |some e=>
     have lW:cY.out e aI ⟨gI.h.set (st.ai+1) (.loop .exhausted (some e) FL t0 HE kk iZ d0),gI.ai⟩=res:=he;rw[<-lW];cases hp:q8.pending with
     |none=>rw[hp]at nd;cases e<;>exact nd.elim
     |some ag=>
      rw[hp]at nd ez aL CB;cases e with
      |norm=>cases ag<;>exact nd.elim
      |bk v=>cases ag<;>exact nd.elim
      |exit i=>
       cases ag with
       |exit j=>
        have e:i=j:=nd;subst e;exact⟨aV,a',_,Cx,aL,CB,iw,ix,k,rfl,ez⟩
       |_=>exact nd.elim
      |ret=>
       cases ag with
       |ret=>exact⟨aV,a',_,Cx,aL,CB,iw,ix,k,ez⟩
       |_=>exact nd.elim
   cases aJ with
   |ready=>exact key (by simp) h3
   |busy=>exact absurd (h3:cY.no=res).symm hn
   |done=>exact key (by simp) h3
   |exhausted=>exact absurd (h3:cY.no=res).symm hn
end Go.an
namespace Go.an
variable{X:Ctx}
def mY(X:Ctx)(aW:ao df):Prop:=∀f xf,aW.get f=some xf->∃Fn c,vY X f xf Fn c
def ua(X:Ctx)(gg:nL):Prop:=
 ∀(f:FuncId) (as:List Value) (st:au) (r:dJ),gg f as st=some r->∀(ι:bA) (as':List Value) (w:World),bN ι as as'->bt X ι st w->r≠.no->
  (∀as w,(callFunc f as).run X.P w= .ok (.enter f as) w)∧
  ∀(K:CallKind) (bz:Bool->List Frame),kR ⟨f,K,none⟩ none ι bz->j0 X ι w ⟨f,K,none⟩ bz (lone (Frame.enter X.P f as'.toArray K) (bz false) w) r
theorem um(aW:ao df)(gg:nL)(n:Nat)(f:FuncId)(first fl:Array Value)(args:List Value)(bk:Option Value)(st:au):
 cC aW gg (n+1) (.func (.func f) first fl) args bk st=
  bl bk (fun _=>bl (aW.get f) (fun xf=>pc (cC aW gg n) n f xf (fZ first.toList (fZ args fl.toList)) bk st) .no)
   (bl (gg f (fZ first.toList (fZ args fl.toList)) st) (fun r=>r) (bl (aW.get f) (fun xf=>pc (cC aW gg n) n f xf (fZ first.toList (fZ args fl.toList)) bk st) .no)):=rfl
theorem agy{aW:ao df}{gg:nL}(dv:Good X)(h8:mY X aW)(rH:ua X gg){n:Nat}(C8:vZ X (cC aW gg n))(nm:mW X (cC aW gg n)):vZ X (cC aW gg (n+1)):=by
 intro ι f first fl args bk st uG ov jG w h1 h2 h3 hw hne
 rw[um]at hne⊢;simp only[og]at hne⊢;have has:bN ι (first.toList++(args++fl.toList)) (uG.toList++(jG++ov.toList)):=h1.append (h2.append h3);have Uv:(uG.toList++(jG++ov.toList)).toArray=uG++jG.toArray++ov:=by
  apply Array.ext';simp
 have zs:∀{K:CallKind} {bz:Bool->List Frame} (xf:df),aW.get f=some xf->kR ⟨f,K,none⟩ bk ι bz->
  j0 X ι w ⟨f,K,none⟩ bz (lone (Frame.enter X.P f (uG++jG.toArray++ov) K) (bz false) w) (pc (cC aW gg n) n f xf (first.toList++(args++fl.toList)) bk st):=by
  intro K bz xf J aQ;obtain⟨Fn,c,ok⟩:=h8 f xf J;have:=P7 dv nm C8 (fun b aS bz _=>NH nm b aS bz) ok n (K:=K) (bz:=bz) has hw aQ;rw[Uv]at this;exact this
 have sS:∀xf,aW.get f=some xf->∀as w,(callFunc f as).run X.P w= .ok (.enter f as) w:=by
  intro xf J as w;obtain⟨Fn,c,ok⟩:=h8 f xf J;exact ok.enters as w
 cases bk with
 |some r5=>
  cases J:aW.get f with
  |none=>rw[J]at hne;exact absurd rfl hne
  |some xf=>exact⟨sS xf J,fun K bz aQ=>zs xf J aQ⟩
 |none=>
  cases ak:gg f (first.toList++(args++fl.toList)) st with
  |some r=>
   rw[ak]at hne;obtain⟨aL,aR⟩:=rH f _ st r ak ι _ w has hw hne;refine⟨aL,fun K bz aQ=> ?_⟩;have:=aR K bz aQ;rw[Uv]at this;exact this
  |none=>
   cases J:aW.get f with
   |none=>rw[ak,J]at hne;exact absurd rfl hne
   |some xf=>exact⟨sS xf J,fun K bz aQ=>zs xf J aQ⟩
theorem j0.out{ι:bA}{w:World}{f:FuncId}{c:Frame}{cs:List Frame}{fH:Frame}{r:dJ}(h:j0 X ι w ⟨f,.normal,none⟩ (fun _=>c::cs) (lone fH (c::cs) w) r):A7 X ι w fH c cs r:=by
 cases r with
 |no=>trivial
 |ret v st ew=>
  obtain⟨aV,v',w',F,h1,h2,h3,ay,aY,b7,dn⟩:=h;obtain⟨aL,aR,fn,a7,cl⟩:=b7;exact⟨aV,v',w',h1,h2,h3,Steps.trans dn (.one (step_leave_returned ⟨aL,aR,ay,fn,a7,cl⟩))⟩
 |bk v st ew=>
  obtain⟨aV,v',w',F,h1,h2,h3,ay,aY,b7,dn⟩:=h;exact⟨aV,v',w',h1,h2,h3,Steps.trans dn (.one (step_leave_panicked b7))⟩
theorem acJ{aW:ao df}{gg:nL}(dv:Good X){n:Nat}(C8:vZ X (cC aW gg (n+1)))(nm:mW X (cC aW gg n)):mW X (cC aW gg (n+1)):=by
 intro ι j6 args st FO jG w qw ha hw hne;have Lt:=hne;obtain⟨fn,first,fl,rfl,_⟩:=Ol (v:=j6) (r:=cC aW gg (n+1) j6 args none st) (z:=dJ.no) rfl (fun e=>hne e.symm);cases qw with
 |func _ ajR _ aq _ vs gE fY hi sv Bd=>
  cases fn with
  |func f=>
   rcases gE with⟨rfl,_⟩|⟨l,b,h1,_⟩
   ·obtain⟨sS,kG⟩:=C8 ι f first fl args none st aq vs jG w (bN.vm fY hi) ha (bN.vm sv Bd) hw hne
    refine⟨Frame.enter X.P f (aq++jG.toArray++vs) .normal,.enter f _ ?_,fun c cs=>j0.out (kG .normal (fun _=>c::cs) (fun F ew ar=> ?_))⟩
    ·simp only[Deferred.ofValue,Sem.run_bind,Sem.run_pure,Result.andThen,invoke];exact sS _ _
    ·have c6:F.kind= .normal:=ar;simp[tryRecover,c6]
   ·cases h1
  |yield l=>
   have pB:first.toList=[]:=by
    cases hl:first.toList with
    |nil=>rfl
    |cons x xs=>
     exfalso;apply Lt;show List.rec (motive:=fun _=>dJ) _ _ first.toList=_
     rw[hl]
   have nX:fl.toList=[]:=by
    cases hl:fl.toList with
    |nil=>rfl
    |cons x xs=>
     exfalso;apply Lt;show List.rec (motive:=fun _=>dJ) (List.rec (motive:=fun _=>dJ) _ _ fl.toList) _ first.toList=_
     rw[pB,hl]
   have jd:cC aW gg (n+1) (.func (.yield l) first fl) args none st=yw (cC aW gg n) n l args st:=by
    show List.rec (motive:=fun _=>dJ) (List.rec (motive:=fun _=>dJ) _ _ fl.toList) _ first.toList=_
    rw[pB,nX];rfl
   rcases gE with⟨_,gd⟩|⟨k7,b,h1,h2,h3⟩
   ·exact absurd rfl (gd l)
   ·cases h1;subst h2;rw[jd]at hne⊢;obtain⟨fn,ts,du,body,aG,ko⟩:=atN dv nm (fun b aS bz=>NH nm b aS bz) h3 ha hw hne;refine⟨_,.round b fn ts du body ?_,ko⟩;have u6:aq= #[]:=by
     have:=(bN.vm fY hi).1;rw[pB]at this;have h0:aq.size=0:=by simpa using this.symm
     exact Array.eq_empty_of_size_eq_zero h0
    simp only[Deferred.ofValue,Sem.run_bind,Sem.run_pure,Result.andThen,invoke,u6];simpa using aG
  |_=>exact absurd rfl Lt
theorem Kc{aW:ao df}{gg:nL}(dv:Good X)(h8:mY X aW)(rH:ua X gg):∀n,vZ X (cC aW gg n)∧mW X (cC aW gg n)
 |0=>⟨fun ι f first fl args bk st uG ov jG w _ _ _ _ hne=>absurd rfl hne,fun ι j6 args st FO jG w _ _ _ hne=>absurd rfl hne⟩
 |n+1=>by
  obtain⟨h1,h2⟩:=Kc dv h8 rH n;have h3:=agy dv h8 rH h1 h2;exact⟨h3,acJ dv h3 h2⟩
end Go.an
namespace Go.an
def ao.sub{α:Type}(eq:α->α->Bool):ao α->ao α->Bool
 |.nil,_=>true
 |.node l v r,.nil=>v.isNone&&ao.sub eq l .nil&&ao.sub eq r .nil
 |.node l v r,.node l' v' dH=>(match v,v' with|none,_=>true|some x,some y=>eq x y|some _,none=>false)&&ao.sub eq l l'&&ao.sub eq r dH
theorem ao.Ej{α:Type}{eq:α->α->Bool}(he:∀x y,eq x y=true->x=y):∀(a b:ao α),ao.sub eq a b=true->∀n x,a.get n=some x->b.get n=some x
 |.nil,_,_,n,x,h=>by simp at h
 |.node l v r,.nil,ah,n,x,h=>by
  simp only[ao.sub,bZ]at ah;exfalso;cases n with
  |zero=>rw[ao.wH]at h;rw[h]at ah;simp at ah
  |succ m=>
   rw[ao.pv]at h;split at h
   ·have:=ao.Ej he l .nil ah.1.2 _ x h;simp at this
   ·have:=ao.Ej he r .nil ah.2 _ x h;simp at this
 |.node l v r,.node l' v' dH,ah,n,x,h=>by
  simp only[ao.sub,bZ]at ah;cases n with
  |zero=>
   rw[ao.wH]at h⊢;subst h;cases v' with
   |none=>simp at ah
   |some y=>rw[he x y ah.1.1]
  |succ m=>
   rw[ao.pv]at h⊢;split at h
   ·rw[if_pos (by assumption)];exact ao.Ej he l l' ah.1.2 _ x h
   ·rw[if_neg (by assumption)];exact ao.Ej he r dH ah.2 _ x h
def y7:List MapEntry->List MapEntry->Bool
 |[],[]=>true
 |e::es,f::fs=>dD e.key f.key&&dD e.val f.val&&Nat.beq e.born f.born&&y7 es fs
 |_,_=>false
theorem Q0:∀(es fs:List MapEntry),y7 es fs=true->es=fs
 |[],[],_=>rfl
 |e::es,f::fs,h=>by
  simp only[y7,bZ]at h;obtain⟨⟨⟨h1,h2⟩,h3⟩,ay⟩:=h;cases e;cases f;rw[Q0 es fs ay];simp only at h1 h2 h3;rw[mV _ _ h1,mV _ _ h2,ep h3]
 |[],_::_,h=>by simp[y7]at h
 |_::_,[],h=>by simp[y7]at h
def EL:bw->bw->Bool
 |.map es c,.map af5 bJ=>Nat.beq c bJ&&y7 es af5
 |.cells cs e bn a8,.cells cs' cK eT Cg=>Nat.beq e cK&&Nat.beq bn.1 eT.1&&Nat.beq bn.2 eT.2&&(a8==Cg)&&lh cs cs'
 |.iI none,.iI none=>true
 |.iI (some []),.iI (some [])=>true
 |.dead,.dead=>true
 |_,_=>false
theorem abT(x y:bw)(h:EL x y=true):x=y:=by
 unfold EL at h;split at h
 ·rw[bZ]at h;rw[ep h.1,Q0 _ _ h.2]
 ·simp only[bZ]at h;obtain⟨⟨⟨⟨h1,h2⟩,h3⟩,ay⟩,aY⟩:=h;rename_i bn _ _ _ eT _;have aA:bn=eT:=Prod.ext (ep h2) (ep h3);rw[ep h1,aA,yp _ _ aY,eq_of_beq ay]
 ·rfl
 ·rfl
 ·rfl
 ·cases h
def au.le(s t:au):Prop:=s.ai=t.ai∧∀n o,s.h.get n=some o->t.h.get n=some o
def au.GW(s t:au):Bool:=Nat.beq s.ai t.ai&&ao.sub EL s.h t.h
theorem au.anf{s t:au}(h:au.GW s t=true):au.le s t:=by
 unfold au.GW at h;rw[bZ]at h;exact⟨ep h.1,ao.Ej abT _ _ h.2⟩
theorem bt.less{X:Ctx}{ι:bA}{s t:au}{w:World}(hl:au.le s t)(h:bt X ι t w):bt X ι s w:=by
 refine⟨fun id o ak av=>h.eK id o (hl.2 _ _ ak) av,fun i j o p l m ae hz hj hK=>h.inj i j o p l m (hl.2 _ _ ae) hz (hl.2 _ _ hj) hK,fun id nc=> ?_,h.gK,h.lT,?_,fun i l o cu ah ak av=>h.ma i l o cu ah (hl.2 _ _ ak) av⟩
 ·have:=h.fresh id (by rw[<-hl.1];exact nc);refine⟨this.1,?_⟩;cases e:s.h.get id with
  |none=>rfl
  |some o=>rw[hl.2 _ _ e]at this;cases this.2
 ·rw[hl.1];exact h.px
structure Row where
 as:List Value
 st:au
 v:Value
 st':au
def Row.UP(r:Row)(as:List Value)(st:au):Bool:=Nat.beq r.st.ai st.ai&&lh r.as as&&ao.sub EL r.st.h st.h
variable{X:Ctx}
def cx(X:Ctx)(f:FuncId)(r:Row):Prop:=
 ∀(ι:bA) (as':List Value) (w:World),bN ι r.as as'->bt X ι r.st w->
  (∀as w,(callFunc f as).run X.P w= .ok (.enter f as) w)∧
  ∀(K:CallKind) (bz:Bool->List Frame),kR ⟨f,K,none⟩ none ι bz->j0 X ι w ⟨f,K,none⟩ bz (lone (Frame.enter X.P f as'.toArray K) (bz false) w) (.ret r.v r.st' false)
def bK(r:dJ)(v:Value)(st':au):Bool:=
 dJ.rec (motive:=fun _=>Bool) (fun v1 cm ew=>cond ew false (cond (dD v v1) (au.GW st' cm) false)) (fun _ _ _=>false) false r
theorem j0.less{ι:bA}{w:World}{b:dI}{bz:Bool->List Frame}{s:Machine}{v:Value}{st st':au}{ew:Bool}(hl:au.le st' st)(h:j0 X ι w b bz s (.ret v st ew)):j0 X ι w b bz s (.ret v st' ew):=by
 obtain⟨aV,v',w',F,h1,h2,h3,ay,aY,b7,dn⟩:=h;exact⟨aV,v',w',F,h1,bt.less hl h2,h3,ay,aY,b7,dn⟩
theorem acU{r:dJ}{v:Value}{st':au}(h:bK r v st'=true):∃cm,r= .ret v cm false∧au.le st' cm:=by
 cases r with
 |no=>cases h
 |bk a b c=>cases h
 |ret v1 cm ew=>
  cases ew with
  |true=>cases h
  |false=>
   have aB:cond (dD v v1) (au.GW st' cm) false=true:=h;cases aH:dD v v1 with
   |false=>rw[aH]at aB;cases aB
   |true=>
    rw[aH]at aB;exact⟨cm,by rw[mV _ _ aH],au.anf aB⟩
theorem Y4{aW:ao df}{gg:nL}(dv:Good X)(h8:mY X aW)(rH:ua X gg){n:Nat}{f:FuncId}{r:Row}
 (h:bK (cC aW gg n (.func (.func f) #[] #[]) r.as none r.st) r.v r.st'=true):cx X f r:=by
 obtain⟨cm,he,hl⟩:=acU h;intro ι as' w ha hw;have ah:=(Kc dv h8 rH n).1 ι f #[] #[] r.as none r.st #[] #[] as' w (bN.nil ι) ha (bN.nil ι) hw (by rw[he];intro e;cases e);refine⟨ah.1,fun K bz aQ=> ?_⟩;have ab:=ah.2 K bz aQ;rw[he]at ab;have e:(#[]++as'.toArray++ #[]:Array Value)=as'.toArray:=by simp
 rw[e]at ab;exact j0.less hl ab
end Go.an
namespace Go.an
variable{X:Ctx}
