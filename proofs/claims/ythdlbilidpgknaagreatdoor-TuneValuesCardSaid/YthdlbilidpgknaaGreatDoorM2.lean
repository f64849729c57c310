/- An abstract machine, and that its evaluations stand for runs of the model (part 2); no condition. -/
import Derived.Laws.StructEq
import Derived.Recover
import Derived.Orders
import Derived.Defers
import Derived.RangeFuncLeaves
import Derived.RangeFuncRecord
import Derived.Test.YthdlbilidpgknaaGreatDoorM1
noncomputable section
set_option linter.all false
namespace Go.aj
variable{X:Ctx}
section
variable{ι:bt}{fr aC:aP}{a:Act}{aO:Nat}{st st':aw}{w:co}{o:Oper}{v:be}{call:bL}
variable{fg:ce}{c4:fL}{t:ce}{m x:bi}{jA:ce}{k:bi}{u:ce}{y:bi}
def asU(dO:X.keys fg=some c4){k:be}(U:c4.ok k=true)(w:co):(Instr.keyThatStays k k).run X.P w= .ok k w:=by
 obtain⟨K,bI⟩:=X.sm fg c4 dO;obtain⟨Dx,xI⟩:=bI k U;exact K.stays w xI
def toList_modify(C:ap d8)(j:Nat)(f:d8->d8){c:d8}(h:C.toList[j]? =some c):(C.modify j f).toList=C.toList.set j (f c):=by
 obtain⟨hj,hc⟩:=zae.1 h;apply List.ext_getElem
 ·simp
 ·intro i h1 h2;rw[List.getElem_set];simp only[zaD,Array.getElem_modify];by_cases e:j=i
  ·subst e;simp only[if_true];rw[<-hc];rfl
  ·rw[zaa e,zaa e]
def fL.pure{v':be}(h:c4.ok v=true)(hr:bk ι v v'):bk ι v v:=by
 have:=fL.same h hr;rw[this]at hr;exact hr
def aaE(hm:cy X.aB m=true)(U:cy X.aB k=true)(J:cy X.aB x=true)(ai:o.op= .mapUpdate t m k x∨o.op= .insert t m k x)(hu:X.P.underlying t=some (.map fg jA))
 (dO:X.keys fg=some c4) (aa:cv ι fr a aO) (hw:bn X ι st w) (h:m4 fr st (.gP c4 m k x)= .ok v aC st'):aC=fr∧jS X ι w v st' (execOp a.eval o):=by
 obtain⟨h9,h⟩:=iC h (by simp);obtain⟨r,hr,h⟩:=EI h (by simp);obtain⟨id,rfl,h⟩:=ft h (by simp);obtain⟨es,c,aJ,h⟩:=Am h (by simp);obtain⟨tH,h⟩:=iC h (by simp);have GU:=aa.af hw U;have vA:a.eval k=fr.af k:=fL.same h9 GU;have jb:=aa.af hw hm;have cR:=aa.af hw J;rw[hr]at jb;generalize na:a.eval m=l1 at jb;obtain⟨l,hl,h0,kh,C,bT,hC,cL⟩:=hw.eE _ _ aJ (by simp);cases jb with
 |map _ b b5 hb=>
  rw[hl]at hb;cases hb;have hC:w.heap[b]? =some (.map C bT):=hC;have cL:kv ι b5 es c C.toList bT:=cL;have hex:∀w',(Instr.mapUpdate t (.map (some b)) (fr.af k) (a.eval x)).run X.P w= .ok () w'->(execOp a.eval o).run X.P w= .ok .skip w':=by
   intro w' fU;unfold execOp;rcases ai with ai|ai<;>(rw[ai];simp only[na,vA];simp[fU,Result.andThen])
  rcases cL.find (X:=X) dO h9 tH w with⟨h1,h2,_⟩|⟨e,j,oY,h1,h2,h3,au,aW,ch,dt,fS⟩
  ·rw[h2]at h;have h:st.g2 id (.map (es++[⟨fr.af k,fr.af x,c⟩]) (Nat.succ c)) (fun st=>aS.ok undef fr st)= .ok v aC st':=h;rw[j5]at h;cases h;have fU:(Instr.mapUpdate t (.map (some b)) (fr.af k) (a.eval x)).run X.P w= .ok () {w with heap:=w.heap.setIfInBounds b (.map (C.push {key:=fr.af k,val:=a.eval x,born:=bT}) (bT+1))}:=by
    simp only[Instr.mapUpdate,Sem.run_bind,run_underlying hu,Result.andThen,MapKept.run_getObj_map hC,w5 dO h9,h1,MapKept.run_setObj_map _ hC]
   obtain⟨a2,bw⟩:=bn.uH X hw aJ (by simp) (fun aa=>aa) hl (.map (es++[⟨fr.af k,fr.af x,c⟩]) (Nat.succ c)) (.map (C.push {key:=fr.af k,val:=a.eval x,born:=bT}) (bT+1)) {w with heap:=w.heap.setIfInBounds b (.map (C.push {key:=fr.af k,val:=a.eval x,born:=bT}) (bT+1))} rfl
    (fun _ aN=>⟨rfl,rfl,_,_,aN,by
     have:=cL.push (fL.pure h9 GU) h2 cR;simpa using this⟩)
   exact⟨rfl,ι,.skip,_,hex _ fU,.inr ⟨rfl,rfl⟩,a2,bw⟩
  ·rw[au]at h;have h:st.g2 id (.map (An (fr.af k) (fr.af x) es) c) (fun st=>aS.ok undef fr st)= .ok v aC st':=h;rw[j5]at h;cases h;have hj:C[j]? =some oY:=by rw[<-Array.getElem?_toList];exact h2
   have fU:(Instr.mapUpdate t (.map (some b)) (fr.af k) (a.eval x)).run X.P w= .ok () {w with heap:=w.heap.setIfInBounds b (.map (C.modify j fun e=>{e with key:=fr.af k,val:=a.eval x}) bT)}:=by
    simp only[Instr.mapUpdate,Sem.run_bind,run_underlying hu,Result.andThen,MapKept.run_getObj_map hC,w5 dO h9,h1,MapKept.run_setObj_map _ hC,hj,Option.map_some,zdt,h3,asU dO h9]
   obtain⟨a2,bw⟩:=bn.uH X hw aJ (by simp) (fun aa=>aa) hl (.map (An (fr.af k) (fr.af x) es) c) (.map (C.modify j fun e=>{e with key:=fr.af k,val:=a.eval x}) bT) {w with heap:=w.heap.setIfInBounds b (.map (C.modify j fun e=>{e with key:=fr.af k,val:=a.eval x}) bT)} rfl
    (fun _ aN=>⟨rfl,rfl,_,_,aN,by
     rw[toList_modify C j _ h2];exact cL.put tH h2 h3 cR⟩)
   exact⟨rfl,ι,.skip,_,hex _ fU,.inr ⟨rfl,rfl⟩,a2,bw⟩
def arD(hm:cy X.aB m=true)(U:cy X.aB k=true)(ai:o.op= .call {callee:=.builtin .delete,args:= #[m,k],argTypes:= #[t,u]})(hu:X.P.underlying t=some (.map fg jA))
 (dO:X.keys fg=some c4) (aa:cv ι fr a aO) (hw:bn X ι st w) (h:m4 fr st (.del c4 m k)= .ok v aC st'):aC=fr∧jS X ι w v st' (execOp a.eval o):=by
 obtain⟨h9,h⟩:=iC h (by simp);obtain⟨r,hr,h⟩:=EI h (by simp);obtain⟨id,rfl,h⟩:=ft h (by simp);obtain⟨es,c,aJ,h⟩:=Am h (by simp);obtain⟨tH,h⟩:=iC h (by simp);rw[j5]at h;cases h;have GU:=aa.af hw U;have vA:a.eval k=fr.af k:=fL.same h9 GU;have jb:=aa.af hw hm;rw[hr]at jb;generalize na:a.eval m=l1 at jb;obtain⟨l,hl,h0,kh,C,bT,hC,cL⟩:=hw.eE _ _ aJ (by simp);cases jb with
 |map _ b b5 hb=>
  rw[hl]at hb;cases hb;have hC:w.heap[b]? =some (.map C bT):=hC;have cL:kv ι b5 es c C.toList bT:=cL;rcases cL.find (X:=X) dO h9 tH w with⟨h1,h2,_⟩|⟨e,j,oY,h1,h2,h3,au,aW,ch,dt,fS⟩
  ·have oB:Al (fr.af k) es=es:=by
    unfold Al;rw[List.filter_eq_self];intro e he;have:=Nk h2 e he;cases aF:dA (fr.af k) e.key
    ·rfl
    ·exact absurd (nt _ _ aF).symm this
   obtain⟨a2,bw⟩:=bn.uH X hw aJ (by simp) (fun aa=>aa) hl (.map (Al (fr.af k) es) c) (.map C bT) {w with heap:=w.heap.setIfInBounds b (.map C bT)} rfl (fun _ aN=>⟨rfl,rfl,_,_,aN,by rw[oB];exact cL⟩);refine⟨rfl,ι,.value (.tuple #[]),_,?_,.inl ⟨_,rfl,bk.pt (bM.nil ι)⟩,a2,bw⟩;unfold execOp;rw[ai];simp[resolve,invoke,builtin,na,vA,Builtin.delete_,run_underlying hu,Result.andThen,MapKept.run_getObj_map hC,w5 dO h9,h1,MapKept.run_setObj_map _ hC]
  ·obtain⟨a2,bw⟩:=bn.uH X hw aJ (by simp) (fun aa=>aa) hl (.map (Al (fr.af k) es) c) (.map (C.eraseIdxIfInBounds j) bT) {w with heap:=w.heap.setIfInBounds b (.map (C.eraseIdxIfInBounds j) bT)} rfl (fun _ aN=>⟨rfl,rfl,_,_,aN,by
    have:=cL.del tH h2 h3;rw[Array.toList_eraseIdxIfInBounds];exact this⟩)
   refine⟨rfl,ι,.value (.tuple #[]),_,?_,.inl ⟨_,rfl,bk.pt (bM.nil ι)⟩,a2,bw⟩;unfold execOp;rw[ai];simp[resolve,invoke,builtin,na,vA,Builtin.delete_,run_underlying hu,Result.andThen,MapKept.run_getObj_map hC,w5 dO h9,h1,MapKept.run_setObj_map _ hC]
def ar1(hm:cy X.aB m=true)(ai:o.op= .range t m)(hu:X.P.underlying t=some (.map fg jA))(aa:cv ι fr a aO)(hw:bn X ι st w)
 (h:m4 fr st (.Ar m)= .ok v aC st'):aC=fr∧jS X ι w v st' (execOp a.eval o):=by
 obtain⟨r,hr,h⟩:=EI h (by simp);have jb:=aa.af hw hm;rw[hr]at jb;generalize na:a.eval m=l1 at jb;cases r with
 |none=>
  cases jb;have h:st.jg (.ub none 0 [] 0) (fun id st=>aS.ok (.pointer (some ⟨id,0,none⟩)) fr st)= .ok v aC st':=h;rw[gz]at h;cases h;obtain⟨aQ,a2,bw,dr,nS⟩:=bn.alloc X hw (.ub none 0 [] 0) (.mapIter none 0 #[] 0) 0 (fun aQ w' _ _ aN=>⟨rfl,rfl,_,_,_,_,aN,.inl ⟨rfl,rfl⟩⟩) {w with heap:=w.heap.push (.mapIter none 0 #[] 0)} rfl;refine⟨rfl,aQ,.value (.pointer (some ⟨w.heap.size,0,none⟩)),_,?_,.inl ⟨_,rfl,?_⟩,a2,bw⟩
  ·unfold execOp;rw[ai];simp[na,Instr.range,run_underlying hu,Result.andThen]
  ·exact bk.ptr ⟨st.ag,0,none⟩ _ dr rfl
 |some id=>
  have h:ru (st.h.get id) (fun _ clock=>st.jg (.ub (some id) clock [] clock) fun id st=>aS.ok (.pointer (some ⟨id,0,none⟩)) fr st) .no= .ok v aC st':=h;obtain⟨es,c,aJ,h⟩:=Am h (by simp);rw[gz]at h;cases h;obtain⟨l,hl,h0,kh,C,bT,hC,cL⟩:=hw.eE _ _ aJ (by simp);cases jb with
  |map _ b b5 hb=>
   rw[hl]at hb;cases hb;have hC:w.heap[b]? =some (.map C bT):=hC;have cL:kv ι b5 es c C.toList bT:=cL;obtain⟨aQ,a2,bw,dr,nS⟩:=bn.alloc X hw (.ub (some id) c [] c) (.mapIter (some b) bT #[] bT) 0
    (fun aQ w' hle _ aN=>⟨rfl,rfl,_,_,_,_,aN,.inr ⟨id,b,b5,rfl,rfl,hle _ _ hl,cL.td,rfl,cL.td⟩⟩) {w with heap:=w.heap.push (.mapIter (some b) bT #[] bT)} rfl
   refine⟨rfl,aQ,.value (.pointer (some ⟨w.heap.size,0,none⟩)),_,?_,.inl ⟨_,rfl,?_⟩,a2,bw⟩
   ·unfold execOp;rw[ai];simp[na,Instr.range,run_underlying hu,Result.andThen,MapKept.run_getObj_map hC]
   ·exact bk.ptr ⟨st.ag,0,none⟩ _ dr rfl
def kv.asR{b5:Nat->Nat}{es:ac d8}{clock:Nat}{C:ac d8}{ky:Nat}(h:kv ι b5 es clock C ky){s:Nat}(ae:s<clock){e:d8}(he:es.find? (fun e=>Nat.beq e.born s)=some e):
 ∃c,C.find? (fun c=>c.born==b5 s)=some c∧bk ι e.key c.key∧bk ι e.val c.val:=by
 obtain⟨l,hp,hlen,hl⟩:=h.same;have hq:=zdx he;have hb:e.born=s:=ek hq;have hm:=zdw he;obtain⟨i,hi,gK⟩:=zdy (hp.mem_iff.2 hm);have ec:i<C.length:=by omega
 cases aa:C.find? (fun c=>c.born==b5 s)with
 |none=>
  exfalso;have:=List.find?_eq_none.1 aa C[i] (dV ec);have h3:=(hl i hi ec).2.2;rw[gK,hb]at h3;rw[h3]at this;simp at this
 |some c=>
  have VE:c.born=b5 s:=by simpa using zdx aa
  obtain⟨k,U,VV⟩:=zdy (zdw aa);have fi:k<l.length:=by omega
  have h3:=hl k fi U;have au:l[k].born<clock:=h.born _ (hp.mem_iff.1 (dV fi));have aW:b5 l[k].born=b5 s:=by rw[<-h3.2.2,VV,VE]
  have ch:=h.A5.inj _ _ au ae aW;have qa:l.Pairwise (fun a b=>a.born≠b.born):=(hp.symm.pairwise_iff (R:=fun a b:d8=>a.born≠b.born) (fun{a b} h=>h.symm)).1 h.zi;have zY:i=k:=by
   rcases zcz i k with g|g|g
   ·exact absurd (by rw[gK,hb,ch]) (zcA.1 qa i k hi fi g)
   ·exact g
   ·exact absurd (by rw[gK,hb,ch]) (zcA.1 qa k i fi hi g)
  subst zY;rw[gK,VV]at h3;exact⟨c,rfl,h3.1,h3.2.1⟩
def aqK{P:d9}{r:Nat}{m:am Nat}{a:Nat}{s:ap Nat}{b:Nat}(hb:w.heap[r]? =some (.mapIter m a s b)):(getObj r).run P w= .ok (.mapIter m a s b) w:=by
 simp[getObj,Sem.run,hb]
def arV{i:bi}(hi:cy X.aB i=true)(ai:o.op= .entry i)(aa:cv ι fr a aO)(hw:bn X ι st w)
 (h:m4 fr st (.Ao i)= .ok v aC st'):aC=fr∧ca X ι w v st st' (execOp a.eval o):=by
 obtain⟨p,hp,aG⟩:=pG h (by simp);obtain⟨ad,Mt,aI⟩:=ft aG (by simp);obtain⟨ae,a4⟩:=yl aI (fun _=>by simp);obtain⟨h0,b2⟩:=lh a4 (by simp);obtain⟨m,since,seen,Ba,aJ,cx⟩:=am0 b2 (by simp);obtain⟨id,alp,ef⟩:=ft cx (by simp);obtain⟨s,ln,fR⟩:=ft ef (by simp);obtain⟨es,clock,r8,o8⟩:=Am fR (by simp);obtain⟨h1,tp⟩:=lh o8 (by simp);obtain⟨h2,vl⟩:=iL tp (by simp);obtain⟨e,he,Gj⟩:=ft vl (by simp);clear h aG aI a4 b2 cx ef fR o8 tp vl;subst Mt alp;cases Gj;have nM:=aa.af hw hi;rw[hp]at nM;generalize jq:a.eval i=lX at nM;obtain⟨l,hl,km,fa,fj,OW,A2,Hw,b4,aky⟩:=hw.eE _ _ aJ (by simp);rcases aky with⟨hh,_⟩|⟨r,b,b5,aq,e2,bV,eQ,kR,FX⟩
 ·cases hh
 ·cases aq;subst e2;obtain⟨lm,alk,Xi,eW,C,bT,hC,cL⟩:=hw.eE _ _ r8 (by simp);rw[alk]at bV;cases bV;have hC:w.heap[b]? =some (.map C bT):=hC;have cL:kv ι b5 es clock C.toList bT:=cL;cases nM with
  |ptr _ l' ck eV=>
   rw[hl]at ck;cases ck;obtain⟨c,r7,mr,LU⟩:=cL.asR h2 he;have xy:A2.back?=some (b5 s):=by
    have:A2.back?=A2.toList.getLast?:=by simp
    rw[this,kR,List.getLast?_map];rw[show seen.getLast?=some s from ln];rfl
   have tz:bT=Hw:=by rw[cL.td,FX,h1]
   have akX:C.find? (fun x=>x.born==b5 s)=some c:=by rw[<-Array.find?_toList];exact r7
   refine⟨rfl,ca.same (v':=.tuple #[c.key,c.val]) hw ?_ (bk.pt (bM.cons mr (bM.cons LU (bM.nil ι))))⟩;unfold execOp;rw[ai];have jc:l.cO+ad.off=0:=by rw[km,h0]
   simp only[jq,jc,Instr.entry,Sem.run_bind,aqK b4,Result.andThen,xy,Sem.run_pure,MapKept.run_getObj_map hC];simp[tz,akX]
def ary{f:ci}{ts:ap ce}(J:cy X.aB x=true)(aA:cy X.aB y=true)(eD:X.pT f=true)(ai:o.op= .call {callee:=.value (.func f),args:= #[x,y],argTypes:=ts})(aa:cv ι fr a aO)(hw:bn X ι st w)
 (h:m4 fr st (.bb x y)= .ok v aC st'):aC=fr∧ca X ι w v st st' (execOp a.eval o):=by
 obtain⟨s,ae,aG⟩:=oN h (by simp);obtain⟨k,oY,hc,aI⟩:=ji aG (by simp);obtain⟨U,a4⟩:=iC aI (by simp);obtain⟨c,aq,b2⟩:=l2 a4 (by simp);have fi:=sn U;clear h aG aI a4;subst aq fi;have cR:=aa.af hw J;rw[ae]at cR;generalize cp:a.eval x=e7 at cR;have fp:=aa.af hw aA;rw[hc]at fp;generalize fV:a.eval y=qG at fp;cases cR;cases fp;cases b2;refine⟨rfl,ca.same (v':=.int .i64 (.ofNat (s.data.toList.countP (fun b=>b==UInt8.ofNat c)))) hw ?_ (.int _ _)⟩;rw[Ci ai];have:=X.BV f eD s (c:Int) w;simp only[zcl,zaP,zbW,cp,fV];rw[this];rfl
def arE{neg:Bool}{n:Nat}(J:cy X.aB x=true)(aA:cy X.aB y=true)(g0:X.eqs t=some n)(ai:o.op= .binOp (if neg then .neq else .eql) t x y u)(aa:cv ι fr a aO)(hw:bn X ι st w)
 (h:m4 fr st (.qV neg n x y)= .ok v aC st'):aC=fr∧ca X ι w v st st' (execOp a.eval o):=by
 obtain⟨xs,xX,h⟩:=Bi h (by simp);obtain⟨ao,vL,h⟩:=Bi h (by simp);obtain⟨h1,h⟩:=lh h (by simp);obtain⟨h2,h⟩:=lh h (by simp);obtain⟨b,hb,h⟩:=ft h (by simp);cases h;rw[fs]at h1 h2;have h1:xs.toList.length=n%100+n/100:=h1;have h2:ao.toList.length=n%100+n/100:=h2;have hb:kT (n%100) xs.toList ao.toList=some b:=hb;have plain:∀(l m:ac be) (j:Nat) (b:Bool),kT j l m=some b->∀(i:Nat) (hi:i<l.length) (hj:i<m.length) (u v:be),(bk ι l[i] u->u=l[i])∧(bk ι m[i] v->v=m[i]):=by
  intro l
  induction l with
  |nil=>intro m j b _ i hi;simp at hi
  |cons p ps aZ=>
   intro m j b hb i hi hj u v;cases m with
   |nil=>simp at hj
   |cons q da=>
    unfold kT at hb;obtain⟨cK,gh,pb⟩:=ft (z:=none) (r:=some b) hb (by simp);cases i with
    |zero=>
     simp only[List.getElem_cons_zero];unfold K7 F0 FZ at gh;split at gh<;>split at gh<;>first|(cases gh;done)|exact⟨fun hr=>by cases hr;rfl,fun hr=>by cases hr;rfl⟩
    |succ i=>
     simp only[List.getElem_cons_succ];have:∃dN,kT (j-1) ps da=some dN:=by
      cases cK
      ·obtain⟨dN,cU,_⟩:=ft (z:=none) (r:=some b) pb (by simp);exact⟨dN,cU⟩
      ·exact⟨b,pb⟩
     obtain⟨dN,cU⟩:=this;exact aZ da _ dN cU i (by simpa using hi) (by simpa using hj) u v
 have fT:=plain _ _ _ _ hb;have cR:=aa.af hw J;rw[xX]at cR;generalize cp:a.eval x=e7 at cR;have fp:=aa.af hw aA;rw[vL]at fp;generalize fV:a.eval y=qG at fp;cases cR with
 |agg _ uN fN gY=>
  cases fp with
  |agg _ jk cK c9=>
   have amm:uN=xs:=by
    apply Array.ext
    ·exact fN.symm
    ·intro i c d;have:=(fT i (by simpa using d) (by simp;simp at h1 h2;omega) uN[i] uN[i]).1 (by simpa using gY i d c);simpa using this
   have amq:jk=ao:=by
    apply Array.ext
    ·exact cK.symm
    ·intro i c d;have:=(fT i (by simp;simp at h1 h2;omega) (by simpa using d) jk[i] jk[i]).2 (by simpa using c9 i d c);simpa using this
   subst amm amq;obtain⟨VN,heq⟩:=X.xn t n g0;have hq:=heq uN jk b w (by simpa using h1) (by simpa using h2) hb;refine⟨rfl,ca.same (v':=.bool (cond neg (!b) b)) hw ?_ (.bool _)⟩;unfold execOp;rw[ai];cases neg
   ·simp only[cp,fV,zbb,if_false];have aJ:(eqGuard .eql t x y (.agg uN) (.agg jk)).run X.P w= .ok () w:=by
     simp[eqGuard,program,Sem.run,VN]
    simp[aJ,run_eql_struct,hq,Result.andThen]
   ·simp only[cp,fV,if_true];have aJ:(eqGuard .neq t x y (.agg uN) (.agg jk)).run X.P w= .ok () w:=by
     simp[eqGuard,program,Sem.run,VN]
    simp[aJ,run_neq_struct,hq,Result.andThen]
end
variable{ι:bt}{y:be}
def bk.DT{c:Nat}(h:bk ι (.chan (some c)) y)(hc:c≠0):∃m,y= .int .i64 m∧Ph c m:=by
 generalize aF:Value.chan (some c)=v at h;cases h with
 |iQ bT m h=>cases aF;exact⟨m,rfl,h⟩
 |top _=>unfold ih at aF;cases aF;exact absurd rfl hc
 |_=>cases aF
def QZ{n:Nat}{v:be}{b:Bool}(h:BS n v=some b)(hr:bk ι v y):∃m:Int,y= .int .i64 m∧b=decide ((n:Int)<=m):=by
 unfold BS at h;split at h
 ·rename_i c;split at h
  ·rename_i h2;split at h
   ·rename_i h3;cases h;obtain⟨m,rfl,hu⟩:=hr.DT (by omega);refine⟨m,rfl,?_⟩;have:(n:Int)<=m:=by
     rcases hu with hu|⟨k,U,hm⟩|⟨k,U,hm⟩<;>omega
    simp[this]
   ·cases h
  ·rename_i h2;split at h
   ·rename_i h3;cases h;obtain⟨m,rfl,hu⟩:=hr.DT (by omega);refine⟨m,rfl,?_⟩;have:¬(n:Int)<=m:=by
     rcases hu with hu|⟨k,U,hm⟩|⟨k,U,hm⟩<;>omega
    simp[this]
   ·cases h
 ·cases h
section
variable{ι:bt}{fr aC:aP}{a:Act}{aO:Nat}{st st':aw}{w:co}{o:Oper}{v:be}{call:bL}
variable{x:bi}
def arx{gt:Bool}{y:bi}{t u:ce}(J:cy X.aB x=true)(aA:cy X.aB y=true)(ai:o.op= .binOp (if gt then .gtr else .leq) t x y u)(aa:cv ι fr a aO)(hw:bn X ι st w)
 (h:m4 fr st (.xa gt x y)= .ok v aC st'):aC=fr∧ca X ι w v st st' (execOp a.eval o):=by
 obtain⟨k,sv,xX,h1⟩:=ji h (by simp);obtain⟨U,h2⟩:=iC h1 (by simp);obtain⟨n,hn,h3⟩:=l2 h2 (by simp);obtain⟨b,hb,au⟩:=ft h3 (by simp);have fi:=sn U;subst fi hn;cases au;have cR:=aa.af hw J;rw[xX]at cR;generalize cp:a.eval x=e7 at cR;cases cR;obtain⟨m,fV,zT⟩:=QZ hb (aa.af hw aA);refine⟨rfl,ca.same (v':=.bool (cond gt (!b) b)) hw ?_ (.bool _)⟩;unfold execOp;rw[ai,zT];cases gt
 ·simp[cp,fV,eqGuard,binOp,Op.intCmp]
 ·simp only[cp,fV,if_true];have:(!decide ((n:Int)<=m))=decide (m<(n:Int)):=by rw[zaZ];simp
  simp[eqGuard,binOp,Op.intCmp,this]
def arN{f:ci}{y:bi}{ts:ap ce}(J:cy X.aB x=true)(aA:cy X.aB y=true)(eD:X.qg f=true)(ai:o.op= .call {callee:=.value (.func f),args:= #[x,y],argTypes:=ts})(aa:cv ι fr a aO)(hw:bn X ι st w)
 (h:m4 fr st (.idxs X.l0 x y)= .ok v aC st'):aC=fr∧ca X ι w v st st' (execOp a.eval o):=by
 obtain⟨s,ae,aG⟩:=oN h (by simp);obtain⟨b,hb,aI⟩:=oN aG (by simp);unfold BN at aI;obtain⟨ej,xL,a4⟩:=ft aI (by simp);cases ej with
 |cells cs el a8 aX=>
  have b2:cond aX aS.no (one cs (fun c=>cond (ML (df b.data.toList) c) (dY 2 (df b.data.toList) (dY (df s.data.toList) 1000000
   (.ok (.int .i64 (bd (oM b.data.toList s.data.toList) (fun i=>.ofNat i) (.negSucc 0))) fr st) .no) .no) .no) .no)= .ok v aC st':=a4
  obtain⟨vu,cx⟩:=Av b2 (by simp);obtain⟨c,hc,ef⟩:=AB cx (by simp);obtain⟨hi,fR⟩:=iC ef (by simp);obtain⟨h2,o8⟩:=iL fR (by simp);obtain⟨h3,tp⟩:=iL o8 (by simp);rw[fs]at hi h2 h3;cases tp;have cR:=aa.af hw J;rw[ae]at cR;generalize cp:a.eval x=e7 at cR;have fp:=aa.af hw aA;rw[hb]at fp;generalize fV:a.eval y=qG at fp;cases cR;cases fp;obtain⟨l,hl,C,eU,hC⟩:=hw.eE _ _ xL (by simp);rw[hw.mm _ X.DE]at hl;cases hl;subst hc;obtain⟨bT,r7,mr⟩:=hC.cell 0 (by simp);have akE:BS b.data.toList.length c=some true:=by
   unfold ML at hi;split at hi
   ·assumption
   ·cases hi
  obtain⟨m,rfl,zT⟩:=QZ akE mr;have hle:((b.data.toList.length:Nat):Int)<=m:=by simpa using zT.symm
  have alm:(load ⟨X.l0,0,none⟩).run X.P w= .ok (.int .i64 m) w:=by
   have LU:C[0]? =some (.int .i64 m):=by simpa using r7
   rw[run_load,cell_of hC.there];simp[LU]
  refine⟨rfl,ca.same (v':=.int .i64 (bd (oM b.data.toList s.data.toList) (fun i=>.ofNat i) (.negSucc 0))) hw ?_ (.int _ _)⟩;rw[Ci ai];have:=X.Dj f eD s b m w alm (by simpa using h2) (by simpa using hle) (by simpa using h3);simp only[zcl,zaP,zbW,cp,fV];rw[this];cases oM b.data.toList s.data.toList<;>rfl
 |_=>cases a4
end
variable{P:d9}{t:ce}{a:Nat}
def c7.inPlace:c7->Bool
 |.call _ _|.inv _ _ _|.wB|.qS _ _|.rC _=>false
 |_=>true
def Ctx.j1(X:Ctx)(op:Op)(x:c7):Bool:=aut X.P X.aB X.jZ X.kl X.keys X.pT X.eqs X.qg X.l0 X.qn op x
def mS{n:Nat}(h:gB P t=some n):∃i,P.info? t=some i∧i.size=n:=by
 unfold gB at h;exact zbm.1 h
def EY{v:be}(h:rS P t=some v):∃i,P.info? t=some i∧i.zero=some v:=by
 unfold rS at h;exact zcm.1 h
def BB{g:Bool}(h:pK P t=some g):∃d,P.underlying t=some d∧qL d=g:=by
 unfold pK at h;exact zbm.1 h
def eI{b:Nat}(h:Nat.beq a b=true):a=b:=ek h
def HQ(h:(!Nat.beq a 0)=true):a≠0:=by intro e;subst e;simp at h
def u0.sl:u0->Bool
 |.look _ _ _ _ _|.Aq _|.Ao _|.bb _ _|.qV _ _ _ _|.xa _ _ _|.idxs _ _ _|.zm _=>true
 |_=>false
def c7.sl:c7->Bool
 |.ext y=>y.sl
 |.alloc _ _|.box _ _|.oX _ _ _ _|.store _ _ _|.u9 _ _|.ud|.po _ _ _ _ _|.call _ _|.inv _ _ _|.vV _|.app _ _ _ _ _|.qR _ _ _|.wB|.qS _ _|.rC _|.sO _ _ _|.refuse=>false
 |_=>true
def c7.tS:c7->Bool
 |.alloc _ _|.box _ _|.oX _ _ _ _|.u9 _ _|.po _ _ _ _ _|.ud=>true
 |_=>false
def w0(X:Ctx)(x:c7)(ι:bt)(w:co)(v:be)(st st':aw)(s:Sem Next):Prop:=
 jS X ι w v st' s∧(x.sl=true->ca X ι w v st st' s)∧(x.tS=true->s4 X ι w v st st' s)
section
variable{p:Prop}{x:c7}{ι:bt}{w:co}{v:be}{st st':aw}{s:Sem Next}
def e6(h:p∧ca X ι w v st st' s)(J:x.tS=false):p∧w0 X x ι w v st st' s:=⟨h.1,h.2.OV,fun _=>h.2,fun e=>by rw[J]at e;cases e⟩
def zd(h:p∧s4 X ι w v st st' s)(J:x.sl=false):p∧w0 X x ι w v st st' s:=⟨h.1,h.2.OV,fun e=>(by rw[J]at e;cases e),fun _=>h.2⟩
def rR(h:p∧jS X ι w v st' s)(J:x.sl=false)(bJ:x.tS=false):p∧w0 X x ι w v st st' s:=⟨h.1,h.2,fun e=>(by rw[J]at e;cases e),fun e=>by rw[bJ]at e;cases e⟩
end
def LA:c7->Bool
 |.l1 _|.pick _ _ _|.alloc _ _|.box _ _|.build _ _|.oX _ _ _ _|.lZ _|.qk _ _|.store _ _ _|.sw _|.bin _ _ _|.eqv _ _ _ _|.un _ _|.ud|.refuse|.vV _=>true
 |_=>false
section
variable{ι:bt}{fr aC:aP}{a:Act}{aO:Nat}{st st':aw}{w:co}{o:Oper}{v:be}{call:bL}
def aoL{x:c7}(U:X.j1 o.op x=true)(aa:cv ι fr a aO)(hw:bn X ι st w)(h:bP call x fr st= .ok v aC st')
 (J:LA x=true):
 aC=fr∧w0 X x ι w v st st' (execOp a.eval o):=by
 generalize ai:o.op=op at U;cases x with
 |l1 p=>
  cases op with
  |move q=>obtain⟨rfl,h2⟩:=cN U;exact e6 (aaD (call:=call) h2 (.inl ai) aa hw h) rfl
  |assign q=>obtain⟨rfl,h2⟩:=cN U;exact e6 (aaD (call:=call) h2 (.inr ai) aa hw h) rfl
  |_=>cases U
 |pick c p q=>
  cases op with
  |pick bT dy e1=>
   have U:(bW X.aB c bT&&bW X.aB p dy&&bW X.aB q e1)=true:=U;simp only[bX]at U;obtain⟨⟨h1,h2⟩,h3⟩:=U;obtain⟨rfl,a2⟩:=cN h1;obtain⟨rfl,bw⟩:=cN h2;obtain⟨rfl,dr⟩:=cN h3;exact e6 (ar6 (call:=call) a2 bw dr ai aa hw h) rfl
  |_=>cases U
 |alloc z e=>
  cases op with
  |alloc t=>
   have U:(Nat.beq e t&&(match rS X.P t with|some v=>lE z v.cells.toList&&mT z|none=>false))=true:=U;rw[bX]at U;obtain⟨h1,h2⟩:=U;have aq:=eI h1;subst aq;split at h2
   ·rename_i sV rh;rw[bX]at h2;have e2:=yQ _ _ h2.1;subst e2;obtain⟨i,hi,aE⟩:=EY rh;exact zd (ark (call:=call) ai hi aE h2.2 hw h) rfl
   ·cases h2
  |_=>cases U
 |box e p=>
  cases op with
  |box t q=>
   have U:(Nat.beq e t&&bW X.aB p q)=true:=U;rw[bX]at U;have aq:=eI U.1;subst aq;obtain⟨rfl,h2⟩:=cN U.2;exact zd (aro (call:=call) h2 ai aa hw h) rfl
  |_=>cases U
 |build z ps=>
  cases op with
  |build t parts=>
   have U:((match rS X.P t with|some v=>lE z v.cells.toList&&mT z|none=>false)&&
    (match X.P.underlying t with
     |some (.struct fields)=>fields.toList.all (fun f=>(X.P.info? f.type).isSome)&&rB X.aB (fun j=>(fields.map fun f=>(f.offset,X.P.cellsOf f.type))[j]?) ps parts.toList
     |some (.array _ e)=>(match gB X.P e with|some s=>rB X.aB (fun j=>some (j*s,s)) ps parts.toList|none=>false)
     |_=>false))=true:=U
   rw[bX]at U;obtain⟨h1,h2⟩:=U;split at h1
   ·rename_i sV rh;rw[bX]at h1;have e2:=yQ _ _ h1.1;subst e2;obtain⟨i,hi,aE⟩:=EY rh;split at h2
    ·rename_i fields hu;rw[bX,zbg]at h2;obtain⟨a2,bw⟩:=Ii h2.2;exact e6 (ars (call:=call) ai hu hi aE h1.2 h2.1 a2 bw aa hw h) rfl
    ·rename_i n e hu;split at h2
     ·rename_i s ae;obtain⟨cn,gK,rfl⟩:=mS ae;obtain⟨a2,bw⟩:=Ii h2;exact e6 (arq (call:=call) ai hu hi aE h1.2 gK (by rw[a2];simp) (fun p hp=>(bw p hp).2) aa hw h) rfl
     ·cases h2
    ·cases h2
   ·cases h1
  |_=>cases U
 |oX e n z ps=>
  cases op with
  |buildSlice t m parts=>
   have U:(Nat.beq n m&&(match X.P.underlying t with
    |some (.slice el)=>Nat.beq e el&&(match gB X.P el,rS X.P el with
     |some s,some v=>Nat.ble (m*s) (2^24)&&lE z ((List.range (m*s)).map (fun j=>(if m*s=0 then(#[]:ap be)else v.cells)[j%(if m*s=0 then(#[]:ap be)else v.cells).size]!))&&mT z&&
      rB X.aB (fun j=>some (j*s,s)) ps parts.toList
     |_,_=>false)
    |_=>false))=true:=U
   rw[bX]at U;obtain⟨h1,h2⟩:=U;have aq:=eI h1;subst aq;split at h2
   ·rename_i el hu;rw[bX]at h2;obtain⟨h3,au⟩:=h2;have e2:=eI h3;subst e2;split at au
    ·rename_i s sV ae rh;simp only[bX]at au;obtain⟨⟨⟨aW,ch⟩,dt⟩,fS⟩:=au;obtain⟨cn,gK,rfl⟩:=mS ae;obtain⟨avE,VS,aE⟩:=EY rh;rw[gK]at VS;cases VS;obtain⟨a2,bw⟩:=Ii fS;exact zd (arp (call:=call) ai hu gK aE (pO.1 aW) (yQ _ _ ch) dt (by rw[a2];simp) (fun p hp=>(bw p hp).2) aa hw h) rfl
    ·cases au
   ·cases h2
  |_=>cases U
 |lZ p=>
  cases op with
  |load t q=>
   have U:(bW X.aB p q&&(match pK X.P t with|some g=> !g|none=>false))=true:=U;rw[bX]at U;obtain⟨h1,h2⟩:=U;obtain⟨rfl,a2⟩:=cN h1;split at h2
   ·rename_i g aJ;obtain⟨d,al,e⟩:=BB aJ;exact e6 (aaA (call:=call) a2 ai al (by rw[e];simpa using h2) aa hw h) rfl
   ·cases h2
  |_=>cases U
 |qk n p=>
  cases op with
  |load t q=>
   have U:(bW X.aB p q&&(match pK X.P t,gB X.P t with|some g,some s=>g&&Nat.beq n s|_,_=>false))=true:=U;rw[bX]at U;obtain⟨h1,h2⟩:=U;obtain⟨rfl,a2⟩:=cN h1;split at h2
   ·rename_i g s aJ ae;rw[bX]at h2;obtain⟨d,al,e⟩:=BB aJ;obtain⟨i,hi,rfl⟩:=mS ae;have aq:=eI h2.2;subst aq;exact e6 (aaB (call:=call) a2 ai al (by rw[e];exact h2.1) hi aa hw h) rfl
   ·cases h2
  |_=>cases U
 |store n p q=>
  cases op with
  |store t dy e1=>
   have U:(bW X.aB p dy&&bW X.aB q e1&&(match gB X.P t with|some s=>Nat.beq n s|none=>false))=true:=U;simp only[bX]at U;obtain⟨⟨h1,h2⟩,h3⟩:=U;obtain⟨rfl,a2⟩:=cN h1;obtain⟨rfl,bw⟩:=cN h2;split at h3
   ·rename_i s ae;obtain⟨i,hi,rfl⟩:=mS ae;have aq:=eI h3;subst aq;exact rR (asd (call:=call) a2 bw ai hi aa hw h) rfl rfl
   ·cases h3
  |_=>cases U
 |sw p=>
  cases op with
  |nilCheck q=>obtain⟨rfl,h2⟩:=cN U;exact e6 (ar3 (call:=call) h2 ai aa hw h) rfl
  |_=>cases U
 |bin adx p q=>
  cases op with
  |binOp Kw t dy e1 yX=>
   have U:(decide (adx=Kw)&&bW X.aB p dy&&bW X.aB q e1)=true:=U;simp only[bX,decide_eq_true_eq]at U;obtain⟨⟨h1,h2⟩,h3⟩:=U;subst h1;obtain⟨rfl,a2⟩:=cN h2;obtain⟨rfl,bw⟩:=cN h3;exact e6 (arn (call:=call) a2 bw ai aa hw h) rfl
  |_=>cases U
 |eqv neg e p q=>
  cases op with
  |binOp Kw t dy e1 yX=>
   have U:(decide (Kw=(if neg then .neq else .eql))&&bW X.aB p dy&&bW X.aB q e1&&F1 X.P t e dy e1)=true:=U;simp only[bX,decide_eq_true_eq]at U;obtain⟨⟨⟨h1,h2⟩,h3⟩,au⟩:=U;subst h1;obtain⟨rfl,a2⟩:=cN h2;obtain⟨rfl,bw⟩:=cN h3;exact e6 (arF (call:=call) a2 bw ai (afX _ au) aa hw h) rfl
  |_=>cases U
 |un atq p=>
  cases op with
  |unOp atr t q=>
   have U:(decide (atq=atr)&&bW X.aB p q)=true:=U;simp only[bX,decide_eq_true_eq]at U;obtain⟨h1,h2⟩:=U;subst h1;obtain⟨rfl,a2⟩:=cN h2;exact e6 (asf (call:=call) a2 ai aa hw h) rfl
  |_=>cases U
 |ud=>
  cases op with
  |makeMap t r=>
   cases r with
   |none=>
    have h:yp call fr st= .ok v aC st':=h;unfold yp at h;rw[gz]at h;cases h;obtain⟨aQ,a2,bw,dr,nS⟩:=bn.alloc X hw (.map [] 0) (.map #[] 0) 0 (fun aQ w' _ _ aN=>⟨rfl,rfl,#[],0,aN,rfl,⟨fun s t h _ _=>absurd h (zcV _),fun s h=>absurd h (zcV _),fun j=>by simp⟩,by simp,.nil,.nil,[],.nil,rfl,fun i hi=>by simp at hi⟩) {w with heap:=w.heap.push (.map #[] 0)} rfl;rw[nS]at a2 bw dr;refine zd ⟨rfl,_,_,_,.map (some w.heap.size),_,rfl,by simp,?_,rfl,.map _ _ _ dr,a2,bw⟩ rfl;unfold execOp;rw[ai];simp[Instr.makeMap,Result.andThen]
   |some r=>cases U
  |_=>cases U
 |refuse=>cases h
 |vV p=>cases h
 |_=>cases J
end
variable{w:co}{r:Nat}{s:f5}{p:Nat}
def ann{a b:fL}(h:M0 a b=true):a=b:=by
 cases a<;>cases b<;>simp[M0]at h<;>first|rfl|(rw[h])|(rw[h.1,h.2])
def Hv{keys:ce->am fL}{c4:fL}(h:Dp P keys t c4=true):∃fg jA,P.underlying t=some (.map fg jA)∧keys fg=some c4:=by
 unfold Dp at h;split at h
 ·rename_i fg jA hu;split at h
  ·rename_i WS U;exact⟨fg,jA,hu,by rw[U,ann h]⟩
  ·cases h
 ·cases h
def isMap(h:(match P.underlying t with|some (.map _ _)=>true|_=>false)=true):∃fg jA,P.underlying t=some (.map fg jA):=by
 split at h
 ·rename_i fg jA hu;exact⟨fg,jA,hu⟩
 ·cases h
def isStr(h:(match P.underlying t with|some .string=>true|_=>false)=true):P.underlying t=some .string:=by
 split at h
 ·assumption
 ·cases h
def amZ(h:(match P.underlying t with|some (.slice _)=>true|_=>false)=true):∃e,P.underlying t=some (.slice e):=by
 split at h
 ·exact⟨_,by assumption⟩
 ·cases h
theorem FE(v:be):∀n:Nat,kQ [v] n=List.replicate n v
 |0=>rfl
 |n+1=>by
  show gG [v] (kQ [v] n)=_;rw[FE v n];rfl
def aai(hb:w.heap[r]? =some (.stringIter s p)):(getObj r).run P w= .ok (.stringIter s p) w:=by
 simp[getObj,Sem.run,hb]
def aqL(o:Obj)(hb:w.heap[r]? =some (.stringIter s p)):(setObj r o).run P w= .ok () {w with heap:=w.heap.setIfInBounds r o}:=by
 simp[setObj,Sem.run,hb]
section
variable{ι:bt}{fr aC:aP}{a:Act}{aO:Nat}{st st':aw}{w:co}{o:Oper}{v:be}
variable{x:bi}{e:ce}
def asc{m:bi}(hm:cy X.aB m=true)(ai:o.op= .range t m)(hu:X.P.underlying t=some .string)(aa:cv ι fr a aO)(hw:bn X ι st w)
 (h:m4 fr st (.A9 m)= .ok v aC st'):aC=fr∧jS X ι w v st' (execOp a.eval o):=by
 obtain⟨s,ae,h⟩:=oN h (by simp);have jb:=aa.af hw hm;rw[ae]at jb;generalize na:a.eval m=l1 at jb;cases jb;rw[gz]at h;cases h;obtain⟨aQ,a2,bw,dr,nS⟩:=bn.alloc X hw (.yJ s 0) (.stringIter s 0) 0 (fun aQ w' _ _ aN=>⟨rfl,rfl,aN⟩) {w with heap:=w.heap.push (.stringIter s 0)} rfl;refine⟨rfl,aQ,.value (.pointer (some ⟨w.heap.size,0,none⟩)),_,?_,.inl ⟨_,rfl,?_⟩,a2,bw⟩
 ·unfold execOp;rw[ai];simp[na,Instr.range,run_underlying hu,Result.andThen]
 ·exact bk.ptr ⟨st.ag,0,none⟩ _ dr rfl
def arX{f:ci}{ts:ap ce}(J:cy X.aB x=true)(hm:X.qn f=some e)(ai:o.op= .call {callee:=.value (.func f),args:= #[x],argTypes:=ts})(aa:cv ι fr a aO)(hw:bn X ι st w)
 (h:m4 fr st (.Ap e x)= .ok v aC st'):aC=fr∧jS X ι w v st' (execOp a.eval o):=by
 obtain⟨k,m,hn,aG⟩:=ji h (by simp);obtain⟨U,aI⟩:=iC aG (by simp);obtain⟨n,aq,a4⟩:=l2 aI (by simp);obtain⟨hle,b2⟩:=iL a4 (by simp);have fi:=sn U;clear h aG aI a4;subst aq fi;have cR:=aa.af hw J;rw[hn]at cR;generalize cp:a.eval x=e7 at cR;cases cR;rw[gz]at b2;cases b2;obtain⟨cs,w',h1,aE,h2,h3,au⟩:=X.DD f e hm n w (by omega);obtain⟨aQ,a2,bw,dr,nS⟩:=bn.alloc X hw (.cells (kQ [ih] n) e (0,0) true) (.cells cs e) (cs.size-n) (fun aQ jv _ _ aN=>⟨cs,_,aN,by simp only[FE,zbq,aE];omega,fun i hi=>by
  have ec:i<n:=by simpa only[FE,zbq]using hi
  refine⟨cs[i]'(by omega),by rw[zaw];exact zci _,?_⟩;simp only[FE,List.getElem_replicate];exact .top _,fun _ i _ _ h=>absurd h.2 (zcV _),fun aJ=>by cases aJ⟩) w' h3 au
 refine⟨rfl,aQ,.value (.slice (some ⟨w.heap.size,0,none⟩) n cs.size),w',?_,.inl ⟨_,rfl,?_⟩,a2,bw⟩
 ·rw[Ci ai];simp only[zcl,zaP,zbW,cp];exact h2
 ·have:=bk.gD (ι:=aQ) ⟨st.ag,0,none⟩ _ 0 n n dr rfl (.inl rfl);rw[show n+(cs.size-n)=cs.size by omega]at this;exact this
def art(J:cy X.aB x=true)(ai:o.op= .call {callee:=.builtin .cap,args:= #[x],argTypes:= #[t]})(hu:X.P.underlying t=some (.slice e))(aa:cv ι fr a aO)(hw:bn X ι st w)
 (h:m4 fr st (.zm x)= .ok v aC st'):aC=fr∧ca X ι w v st st' (execOp a.eval o):=by
 obtain⟨b,n,c,hp,h⟩:=uJ h (by simp);obtain⟨hb,h⟩:=yl h (fun _=>by simp);subst hb;cases h;have bJ:=aa.af hw J;rw[hp]at bJ;generalize cp:a.eval x=e7 at bJ;cases bJ;refine⟨rfl,ca.same (v':=.int .i64 (.ofNat c)) hw ?_ (.int _ _)⟩;unfold execOp;rw[ai];simp[cp,resolve,invoke,builtin,Builtin.cap_,run_underlying hu,Result.andThen,goInt]
def ae3{pos:Nat}{b:bv}(h:s.data.toList[pos]? =some b)(hb:b.toNat<128):pos<s.size∧Utf8.decode s pos=(b.toNat,1):=by
 obtain⟨aV,he⟩:=zae.1 h;have tI:pos<s.data.size:=by simpa using aV
 refine⟨tI,?_⟩;have aJ:s.get! (pos+0)=b:=by
  show s.data[pos]! =b;rw[getElem!_pos s.data pos tI,<-he,zaD]
 unfold Utf8.decode;simp only[aJ];rw[zab hb]
def asb{i:bi}(hi:cy X.aB i=true)(ai:o.op= .next i true)(aa:cv ι fr a aO)(hw:bn X ι st w)
 (h:m4 fr st (.A8 i)= .ok v aC st'):aC=fr∧jS X ι w v st' (execOp a.eval o):=by
 obtain⟨p,hp,aG⟩:=pG h (by simp);obtain⟨ad,Mt,aI⟩:=ft aG (by simp);obtain⟨ae,a4⟩:=yl aI (fun _=>by simp);obtain⟨h0,b2⟩:=lh a4 (by simp);obtain⟨s,pos,aJ,cx⟩:=ash b2 (by simp);clear h aG aI a4 b2;subst Mt;have nM:=aa.af hw hi;rw[hp]at nM;generalize jq:a.eval i=lX at nM;obtain⟨l,hl,km,fa,b4⟩:=hw.eE _ _ aJ (by simp);have b4:w.heap[l.cC]? =some (.stringIter s pos):=b4;cases nM with
 |ptr _ l' az eV=>
  rw[hl]at az;cases az;rw[km,h0]at jq;have jq:a.eval i= .pointer (some ⟨l.cC,0,none⟩):=jq;rw[zB,List.head?_drop]at cx;cases al:s.data.toList[pos]? with
  |none=>
   rw[al]at cx;have cx:aS.ok (.tuple #[.bool false]) fr st= .ok v aC st':=cx;cases cx;have hn:¬pos<s.size:=fun aV=>by
    rw[zeS]at al;have:s.data.toList.length=s.size:=zbl;omega
   refine⟨rfl,ι,.value (.tuple #[.bool false]),w,?_,.inl ⟨_,rfl,bk.pt (.cons (.bool _) (.nil _))⟩,hw,.refl _ _⟩;unfold execOp;rw[ai];simp[jq,Instr.next,aai b4,hn,Result.andThen]
  |some b=>
   rw[al]at cx;obtain⟨hb,ef⟩:=iL (cx:dY (Nat.succ b.toNat) 128 _ _=_) (by simp);rw[j5]at ef;cases ef;obtain⟨aV,akH⟩:=ae3 al (by omega);obtain⟨a2,bw⟩:=bn.uH X hw aJ (by simp) (fun aa=>aa) hl (.yJ s (pos+1)) (.stringIter s (pos+1)) {w with heap:=w.heap.setIfInBounds l.cC (.stringIter s (pos+1))} rfl (fun _ aN=>⟨km,fa,aN⟩);refine⟨rfl,ι,.value (.tuple #[.bool true,.int .i64 (pos:Int),.int .i32 (b.toNat:Int)]),_,?_,.inl ⟨_,rfl,bk.pt (.cons (.bool _) (.cons (.int _ _) (.cons (.int _ _) (.nil _))))⟩,a2,bw⟩;unfold execOp;rw[ai];simp[jq,Instr.next,aai b4,aV,akH,aqL _ b4,Result.andThen,goInt]
end
section
variable{ι:bt}{fr aC:aP}{a:Act}{aO:Nat}{st st':aw}{w:co}{o:Oper}{v:be}{call:bL}
def arG{y:u0}(U:X.j1 o.op (.ext y)=true)(aa:cv ι fr a aO)(hw:bn X ι st w)(h:bP call (.ext y) fr st= .ok v aC st'):
 aC=fr∧w0 X (.ext y) ι w v st st' (execOp a.eval o):=by
 generalize ai:o.op=op at U;have U:Pz X.P X.aB X.keys X.pT X.eqs X.qg X.l0 X.qn op y=true:=U;have h:m4 fr st y= .ok v aC st':=h;unfold Pz at U;split at U
 ·simp only[bX]at U;obtain⟨⟨⟨⟨h1,h2⟩,h3⟩,au⟩,aW⟩:=U;obtain⟨rfl,a2⟩:=cN h1;obtain⟨rfl,bw⟩:=cN h2;have bV:=zcn h3;subst bV;obtain⟨fg,jA,hu,dO⟩:=Hv au;rw[hu]at aW;simp only at aW;split at aW
  ·rename_i sV rh;rw[bX]at aW;have kR:=nt _ _ aW.1;subst kR;obtain⟨i,hi,aE⟩:=EY rh;exact e6 (arU a2 bw ai hu dO hi aE aW.2 aa hw h) rfl
  ·cases aW
 ·simp only[bX]at U;obtain⟨⟨⟨h1,h2⟩,h3⟩,au⟩:=U;obtain⟨rfl,a2⟩:=cN h1;obtain⟨rfl,bw⟩:=cN h2;obtain⟨rfl,dr⟩:=cN h3;obtain⟨fg,jA,hu,dO⟩:=Hv au;exact rR (aaE a2 bw dr (.inl ai) hu dO aa hw h) rfl rfl
 ·simp only[bX]at U;obtain⟨⟨⟨h1,h2⟩,h3⟩,au⟩:=U;obtain⟨rfl,a2⟩:=cN h1;obtain⟨rfl,bw⟩:=cN h2;obtain⟨rfl,dr⟩:=cN h3;obtain⟨fg,jA,hu,dO⟩:=Hv au;exact rR (aaE a2 bw dr (.inr ai) hu dO aa hw h) rfl rfl
 ·simp only[bX]at U;obtain⟨⟨h1,h2⟩,au⟩:=U;obtain⟨rfl,a2⟩:=cN h1;obtain⟨rfl,bw⟩:=cN h2;obtain⟨fg,jA,hu,dO⟩:=Hv au;exact rR (arD a2 bw ai hu dO aa hw h) rfl rfl
 ·rw[bX]at U;obtain⟨rfl,a2⟩:=cN U.1;obtain⟨fg,jA,hu⟩:=isMap U.2;exact e6 (arZ a2 ai hu aa hw h) rfl
 ·rw[bX]at U;obtain⟨rfl,a2⟩:=cN U.1;obtain⟨fg,jA,hu⟩:=isMap U.2;exact rR (ar1 a2 ai hu aa hw h) rfl rfl
 ·obtain⟨rfl,a2⟩:=cN U;exact e6 (arV a2 ai aa hw h) rfl
 ·cases h
 ·rw[bX]at U;obtain⟨rfl,a2⟩:=cN U.1;exact rR (asc a2 ai (isStr U.2) aa hw h) rfl rfl
 ·obtain⟨rfl,a2⟩:=cN U;exact rR (asb a2 ai aa hw h) rfl rfl
 ·rw[bX]at U;obtain⟨rfl,a2⟩:=cN U.1;have h2:=U.2;split at h2
  ·rename_i cj he;have e:=eI h2;subst e;exact rR (arX a2 he ai aa hw h) rfl rfl
  ·cases h2
 ·rw[bX]at U;obtain⟨rfl,a2⟩:=cN U.1;obtain⟨e,hu⟩:=amZ U.2;exact e6 (art a2 ai hu aa hw h) rfl
 ·simp only[bX,decide_eq_true_eq]at U;obtain⟨⟨⟨h0,h1⟩,h2⟩,_⟩:=U;obtain⟨rfl,a2⟩:=cN h1;obtain⟨rfl,bw⟩:=cN h2;subst h0;exact e6 (arx a2 bw ai aa hw h) rfl
 ·simp only[bX]at U;obtain⟨⟨⟨h1,h2⟩,h3⟩,au⟩:=U;obtain⟨rfl,a2⟩:=cN h1;obtain⟨rfl,bw⟩:=cN h2;have e:=eI au;subst e;exact e6 (arN a2 bw h3 ai aa hw h) rfl
 ·simp only[bX]at U;obtain⟨⟨h1,h2⟩,h3⟩:=U;obtain⟨rfl,a2⟩:=cN h1;obtain⟨rfl,bw⟩:=cN h2;exact e6 (ary a2 bw h3 ai aa hw h) rfl
 ·simp only[bX,decide_eq_true_eq]at U;obtain⟨⟨⟨h0,h1⟩,h2⟩,h3⟩:=U;obtain⟨rfl,a2⟩:=cN h1;obtain⟨rfl,bw⟩:=cN h2;subst h0;split at h3
  ·rename_i b0 hn;have e:=eI h3;subst e;exact e6 (arE a2 bw hn ai aa hw h) rfl
  ·cases h3
 ·cases U
end
variable{op:Op}{ps:ac bi}{e a7:Nat}{f:bi}{name:String}{g:ci}
def amP{p:bi}(U:X.j1 op (.oE p)=true):∃q t,op= .call {callee:=.builtin .len,args:= #[q],argTypes:= #[t]}∧(bW X.aB p q&&(match X.P.underlying t with|some (.slice _)=>true|_=>false))=true:=by
 cases op with
 |call c=>
  obtain⟨callee,⟨args⟩,⟨ts⟩⟩:=c;cases callee with
  |builtin b=>
   cases b with
   |len=>
    match args,ts,U with
    |[q],[t],U=>exact⟨q,t,rfl,U⟩
    |[],_,U=>cases U
    |_::_::_,_,U=>cases U
    |[_],[],U=>cases U
    |[_],_::_::_,U=>cases U
   |_=>cases U
  |_=>cases U
 |_=>cases U
def amQ{p:bi}(U:X.j1 op (.tY p)=true):∃q t,op= .call {callee:=.builtin .len,args:= #[q],argTypes:= #[t]}∧(bW X.aB p q&&(match X.P.underlying t with|some .string=>true|_=>false))=true:=by
 cases op with
 |call c=>
  obtain⟨callee,⟨args⟩,⟨ts⟩⟩:=c;cases callee with
  |builtin b=>
   cases b with
   |len=>
    match args,ts,U with
    |[q],[t],U=>exact⟨q,t,rfl,U⟩
    |[],_,U=>cases U
    |_::_::_,_,U=>cases U
    |[_],[],U=>cases U
    |[_],_::_::_,U=>cases U
   |_=>cases U
  |_=>cases U
 |_=>cases U
def amO{n:Nat}(U:X.j1 op (.x2 n)=true):∃q t,op= .call {callee:=.builtin .len,args:= #[q],argTypes:= #[t]}∧(match X.P.underlying t with|some (.array m _)=>Nat.beq n m|some (.pointer u)=>(match X.P.underlying u with|some (.array m _)=>Nat.beq n m|_=>false)|_=>false)=true:=by
 cases op with
 |call c=>
  obtain⟨callee,⟨args⟩,⟨ts⟩⟩:=c;cases callee with
  |builtin b=>
   cases b with
   |len=>
    match args,ts,U with
    |[q],[t],U=>exact⟨q,t,rfl,U⟩
    |[],_,U=>cases U
    |_::_::_,_,U=>cases U
    |[_],[],U=>cases U
    |[_],_::_::_,U=>cases U
   |_=>cases U
  |_=>cases U
 |_=>cases U
def amK{bS:Nat}{s p:bi}(U:X.j1 op (.app e a7 bS s p)=true):∃bm q t u,op= .call {callee:=.builtin .append,args:= #[bm,q],argTypes:= #[t,u]}∧
 (bW X.aB s bm&&bW X.aB p q&&(match X.P.underlying t,X.P.underlying u with
  |some (.slice el),some d=>Nat.beq e el&&(match d with|.int _=>false|_=>true)&&(match X.P.info? el with
   |some i=>Nat.beq a7 i.size&&Nat.beq bS i.bytes&&(match i.zero with|some v=>Nat.beq v.cells.size i.size|none=>false)
   |none=>false)
  |_,_=>false))=true:=by
 cases op with
 |call c=>
  obtain⟨callee,⟨args⟩,⟨ts⟩⟩:=c;cases callee with
  |builtin b=>
   cases b with
   |append=>
    match args,ts,U with
    |[bm,q],[t,u],U=>exact⟨bm,q,t,u,rfl,U⟩
    |[],_,U=>cases U
    |[_],_,U=>cases U
    |_::_::_::_,_,U=>cases U
    |[_,_],[],U=>cases U
    |[_,_],[_],U=>cases U
    |[_,_],_::_::_::_,U=>cases U
   |_=>cases U
  |_=>cases U
 |_=>cases U
def amS{p:bi}(U:X.j1 op (.eX p ps)=true):∃q da ts,op= .call {callee:=.builtin .max,args:=(q::da).toArray,argTypes:=ts}∧(bW X.aB p q&&j2 X.aB ps da)=true:=by
 cases op with
 |call c=>
  obtain⟨callee,⟨args⟩,ts⟩:=c;cases callee with
  |builtin b=>
   cases b with
   |max=>
    match args,U with
    |q::da,U=>exact⟨q,da,ts,rfl,U⟩
    |[],U=>cases U
   |_=>cases U
  |_=>cases U
 |_=>cases U
def amR{p:bi}(U:X.j1 op (.yb p ps)=true):∃q da ts,op= .call {callee:=.builtin .min,args:=(q::da).toArray,argTypes:=ts}∧(bW X.aB p q&&j2 X.aB ps da)=true:=by
 cases op with
 |call c=>
  obtain⟨callee,⟨args⟩,ts⟩:=c;cases callee with
  |builtin b=>
   cases b with
   |min=>
    match args,U with
    |q::da,U=>exact⟨q,da,ts,rfl,U⟩
    |[],U=>cases U
   |_=>cases U
  |_=>cases U
 |_=>cases U
def amL{d s:bi}(U:X.j1 op (.qR a7 d s)=true):∃kf bm t u,op= .call {callee:=.builtin .copy,args:= #[kf,bm],argTypes:= #[t,u]}∧
 (bW X.aB d kf&&bW X.aB s bm&&(match X.P.underlying t with|some (.slice e)=>(match gB X.P e with|some n=>Nat.beq a7 n|none=>false)|_=>false))=true:=by
 cases op with
 |call c=>
  obtain⟨callee,⟨args⟩,⟨ts⟩⟩:=c;cases callee with
  |builtin b=>
   cases b with
   |copy=>
    match args,ts,U with
    |[bm,q],[t,u],U=>exact⟨bm,q,t,u,rfl,U⟩
    |[],_,U=>cases U
    |[_],_,U=>cases U
    |_::_::_::_,_,U=>cases U
    |[_,_],[],U=>cases U
    |[_,_],[_],U=>cases U
    |[_,_],_::_::_::_,U=>cases U
   |_=>cases U
  |_=>cases U
 |_=>cases U
def amW{p:bi}(U:X.j1 op (.A1 p)=true):∃q t,op= .call {callee:=.builtin .unsafeSliceData,args:= #[q],argTypes:= #[t]}∧bW X.aB p q=true:=by
 cases op with
 |call c=>
  obtain⟨callee,⟨args⟩,⟨ts⟩⟩:=c;cases callee with
  |builtin b=>
   cases b with
   |unsafeSliceData=>
    match args,ts,U with
    |[q],[t],U=>exact⟨q,t,rfl,U⟩
    |[],_,U=>cases U
    |_::_::_,_,U=>cases U
    |[_],[],U=>cases U
    |[_],_::_::_,U=>cases U
   |_=>cases U
  |_=>cases U
 |_=>cases U
def amX{p n:bi}(U:X.j1 op (.sO e p n)=true):∃q m t u,op= .call {callee:=.builtin .unsafeString,args:= #[q,m],argTypes:= #[t,u]}∧
 (bW X.aB p q&&bW X.aB n m&&(match X.P.underlying t with|some (.pointer cj)=>Nat.beq e cj&&(match gB X.P cj with|some 1=>true|_=>false)|_=>false))=true:=by
 cases op with
 |call c=>
  obtain⟨callee,⟨args⟩,⟨ts⟩⟩:=c;cases callee with
  |builtin b=>
   cases b with
   |unsafeString=>
    match args,ts,U with
    |[bm,q],[t,u],U=>exact⟨bm,q,t,u,rfl,U⟩
    |[],_,U=>cases U
    |[_],_,U=>cases U
    |_::_::_::_,_,U=>cases U
    |[_,_],[],U=>cases U
    |[_,_],[_],U=>cases U
    |[_,_],_::_::_::_,U=>cases U
   |_=>cases U
  |_=>cases U
 |_=>cases U
def amN{p c:bi}(U:X.j1 op (.kl p c)=true):∃f q d ts,op= .call {callee:=.value (.func f),args:= #[q,d],argTypes:=ts}∧(bW X.aB p q&&bW X.aB c d&&X.kl f)=true:=by
 cases op with
 |call c=>
  obtain⟨callee,⟨args⟩,ts⟩:=c;cases callee with
  |value g=>
   cases g with
   |func f=>
    match args,U with
    |[q,d],U=>exact⟨f,q,d,ts,rfl,U⟩
    |[],U=>cases U
    |[_],U=>cases U
    |_::_::_::_,U=>cases U
   |_=>cases U
  |_=>cases U
 |_=>cases U
def amT{p:bi}(U:X.j1 op (.jZ p)=true):∃f q ts,op= .call {callee:=.value (.func f),args:= #[q],argTypes:=ts}∧(bW X.aB p q&&X.jZ f)=true:=by
 cases op with
 |call c=>
  obtain⟨callee,⟨args⟩,ts⟩:=c;cases callee with
  |value g=>
   cases g with
   |func f=>
    match args,U with
    |[q],U=>exact⟨f,q,ts,rfl,U⟩
    |[],U=>cases U
    |_::_::_,U=>cases U
   |_=>cases U
  |_=>cases U
 |_=>cases U
def amV(U:X.j1 op .wB=true):∃ts,op= .call {callee:=.builtin .recover,args:= #[],argTypes:=ts}:=by
 cases op with
 |call c=>
  obtain⟨callee,⟨args⟩,ts⟩:=c;cases callee with
  |builtin b=>
   cases b with
   |recover=>
    match args,U with
    |[],_=>exact⟨ts,rfl⟩
    |_::_,U=>cases U
   |_=>cases U
  |_=>cases U
 |_=>cases U
def WB(U:X.j1 op (.call f ps)=true):∃g args ts,op= .call {callee:=.value g,args:=args,argTypes:=ts}∧
 (bW X.aB f g&&j2 X.aB ps args.toList&&(match g with|.func k=>((X.P.funcs[k]?).map (fun fn=>fn.body.isSome&& !(fn.name== "runtime.NumGoroutine"))).getD false|_=>true))=true:=by
 cases op with
 |call c=>
  obtain⟨callee,args,ts⟩:=c;cases callee with
  |value g=>exact⟨g,args,ts,rfl,U⟩
  |_=>cases U
 |_=>cases U
def inv_inv{hz:ac (Nat×ci)}(U:X.j1 op (.inv hz f ps)=true):∃g name args ts,op= .call {callee:=.invoke g name,args:=args,argTypes:=ts}∧
 (bW X.aB f g&&j2 X.aB ps args.toList&&hz.all (fun p=>sr X.P p.1 name p.2))=true:=by
 cases op with
 |call c=>
  obtain⟨callee,args,ts⟩:=c;cases callee with
  |invoke g name=>exact⟨g,name,args,ts,rfl,U⟩
  |_=>cases U
 |_=>cases U
theorem Jt{t:Nat}{g:ci}:∀{hz:ac (Nat×ci)},wK t hz=some g->(t,g)∈hz
 |[],h=>by cases h
 |p::hz,h=>by
  have h:cond (Nat.beq p.1 t) (some p.2) (wK t hz)=some g:=h;cases hb:Nat.beq p.1 t with
  |true=>rw[hb]at h;cases h;rw[<-zbQ hb];exact zbt
  |false=>rw[hb]at h;exact zaK _ (Jt h)
def anR{t:Nat}(h:sr P t name g=true)(v:be)(as:ap be)(w:co):
 (callMethod (.iface t v) name as).run P w=(callFunc g (#[v]++as)).run P w:=by
 unfold sr at h;split at h
 ·rename_i i d fn hi al aa;simp only[bX]at h;obtain⟨_,h⟩:=h;split at h
  ·rename_i m hm;simp only[bX]at h;obtain⟨h1,h2⟩:=h;split at h2
   ·rename_i f ptr fH;simp only[bX]at h2;obtain⟨h3,au⟩:=h2;have h3:=zbQ h3;subst h3;have hp:m.path.toList=[]:=List.isEmpty_iff.1 h1;have CQ:(method (P.types.size+Made.depth) t v name).run P w= .ok (f,v) w:=by
     have g6:P.types.size+Made.depth=(P.types.size+Made.depth-1)+1:=by unfold Made.depth;omega
     rw[g6];unfold method;simp only[typeInfo,program,Sem.run_bind];cases d<;>cases ptr<;>first|(cases au;done)|(simp[Sem.run,Result.andThen,hi,hm,hp,follow,fH,receiverAt,underlying,al,Place.get,program];done)
    unfold callMethod;simp only[Sem.run_bind,program];simp[Sem.run,Result.andThen,CQ]at CQ⊢
   ·cases h2
  ·cases h
 ·cases h
def acK{t:Nat}(h:sr P t name g=true)(v:be)(w:co):(nilAhead (P.types.size+Made.depth) t v name).run P w= .ok (some false) w:=by
 unfold sr at h;split at h
 ·rename_i i d fn hi al aa;simp only[bX]at h;obtain⟨_,h⟩:=h;split at h
  ·rename_i m hm;simp only[bX]at h;obtain⟨h1,h2⟩:=h;split at h2
   ·rename_i f ptr fH;simp only[bX]at h2;obtain⟨_,au⟩:=h2;have hp:m.path.toList=[]:=List.isEmpty_iff.1 h1;have g6:P.types.size+Made.depth=(P.types.size+Made.depth-1)+1:=by unfold Made.depth;omega
    rw[g6];unfold nilAhead;simp only[typeInfo,program,Sem.run_bind];cases d<;>cases ptr<;>first|(cases au;done)|(simp[Sem.run,Result.andThen,hi,hm,hp,followBlind,fH,underlying,al,program];done)
   ·cases h2
  ·cases h
 ·cases h
section
variable{ι:bt}{fr aC:aP}{a:Act}{aO:Nat}{st st':aw}{w:co}{o:Oper}{v:be}{call:bL}
def ar4{hz:ac (Nat×ci)}{x:bi}(J:cy X.aB x=true)(aN:(hz.all fun p=>sr X.P p.1 name p.2)=true)(ai:o.op= .nilCheck x)(aa:cv ι fr a aO)(hw:bn X ι st w)(h:NS name hz x call fr st= .ok v aC st'):
 aC=fr∧ca X ι w v st st' (execOp a.eval o):=by
 have bJ:=aa.af hw J;generalize cp:a.eval x=e7 at bJ;unfold NS at h;generalize q3:fr.af x=kg at h bJ;cases kg with
 |func f dQ wQ=>
  cases f with
  |method n=>
   have aW:cond (n==name) (match dQ.toList with|[.iface t _]=>bd (wK t hz) (fun _=>aS.ok (.func (.method n) dQ wQ) fr st) .no|_=>.no) .no= .ok v aC st':=h;clear h;cases hn:n==name with
   |false=>rw[hn]at aW;cases aW
   |true=>
    rw[hn]at aW;have hn:=zcn hn;subst hn;have h:(match dQ.toList with|[.iface t _]=>bd (wK t hz) (fun _=>aS.ok (.func (.method n) dQ wQ) fr st) .no|_=>.no)= .ok v aC st':=aW;split at h
    ·rename_i t u Hc;obtain⟨g,aJ,h⟩:=ft h (by simp);cases h;have CR:=zbg.1 aN _ (Jt aJ);cases bJ with
     |func _ gC _ ao _ vs fH h1 h2 h3 au=>
      rcases fH with⟨rfl,_⟩|⟨l,b,e,_⟩
      ·refine⟨rfl,ca.same (v':=.func (.method n) ao vs) hw ?_ (.func _ _ _ _ _ _ (.inl ⟨rfl,by simp⟩) h1 h2 h3 au)⟩;have eM:dQ.size=1:=by rw[<-zbl,Hc];rfl
       have hr:=h2 0 (by omega) (by omega);have xW:dQ[0]= .iface t u:=by
        have:dQ.toList[0]? =some (.iface t u):=by rw[Hc];rfl
        rw[Array.getElem?_toList,zci (by omega)]at this;exact Option.some.inj this
       rw[xW]at hr;generalize Df:ao[0]=ab6 at hr;cases hr with
       |iface _ _ sM hu=>
       have aA:ao[0]? =some (.iface t sM):=by
        rw[zci (by omega),Df]
       have ha:=acK CR sM w;unfold execOp;rw[ai];simp only[cp,aA,program,Sem.run_bind];simp[Sem.run,Result.andThen,ha]at ha⊢
      ·cases e
    ·cases h
  |_=>cases h
 |_=>cases h
end
def amM(U:X.j1 op (.qS f ps)=true):∃g args ts,op= .defer {callee:=.value g,args:=args,argTypes:=ts}∧(bW X.aB f g&&j2 X.aB ps args.toList)=true:=by
 cases op with
 |defer c=>
  obtain⟨callee,args,ts⟩:=c;cases callee with
  |value g=>exact⟨g,args,ts,rfl,U⟩
  |_=>cases U
 |_=>cases U
def amU{p:bi}(U:X.j1 op (.rC p)=true):∃q,op= .panic q∧bW X.aB p q=true:=by
 cases op with
 |panic q=>exact⟨q,rfl,U⟩
 |_=>cases U
section
variable{ι:bt}{fr aC:aP}{a:Act}{aO:Nat}{st st':aw}{w:co}{o:Oper}{v:be}{call:bL}
variable{x:c7}
def aoM(U:X.j1 o.op x=true)(aa:cv ι fr a aO)(hw:bn X ι st w)(h:bP call x fr st= .ok v aC st')(J:LA x=false)(hp:x.inPlace=true):
 aC=fr∧w0 X x ι w v st st' (execOp a.eval o):=by
 generalize ai:o.op=op at U;cases x with
 |tb k p=>
  cases op with
  |convert s t q=>
   have U:(bW X.aB p q&&(match X.P.underlying s,X.P.underlying t with|some _,some (.int k')=>decide (k=k')|_,_=>false))=true:=U;rw[bX]at U;obtain⟨h1,h2⟩:=U;obtain⟨rfl,a2⟩:=cN h1;split at h2
   ·rename_i Et k' ae aN;have e:=zbF h2;subst e;exact e6 (arw (call:=call) a2 ai ae aN aa hw h) rfl
   ·cases h2
  |_=>cases U
 |w7 p=>
  cases op with
  |convert s t q=>
   have U:(bW X.aB p q&&(match X.P.underlying s,X.P.underlying t with|some _,some .string=>true|_,_=>false))=true:=U;rw[bX]at U;obtain⟨h1,h2⟩:=U;obtain⟨rfl,a2⟩:=cN h1;split at h2
   ·rename_i Et ae aN;exact e6 (arv (call:=call) a2 ai ae aN aa hw h) rfl
   ·cases h2
  |_=>cases U
 |zn p=>
  cases op with
  |convert s t q=>
   have U:(bW X.aB p q&&(match X.P.underlying s,X.P.underlying t with|some (.slice e),some .string=>(match X.P.underlying e with|some (.int .u8)=>true|_=>false)|_,_=>false))=true:=U;rw[bX]at U;obtain⟨h1,h2⟩:=U;obtain⟨rfl,a2⟩:=cN h1;split at h2
   ·rename_i e ae aN;split at h2
    ·rename_i he;exact e6 (aru (call:=call) a2 ai ae aN he aa hw h) rfl
    ·cases h2
   ·cases h2
  |_=>cases U
 |u9 e p=>
  cases op with
  |convert s t q=>
   have U:(bW X.aB p q&&(match X.P.underlying s,X.P.underlying t with|some .string,some (.slice cj)=>Nat.beq e cj&&(match X.P.underlying cj,gB X.P cj with|some (.int .u8),some 1=>true|_,_=>false)|_,_=>false))=true:=U;rw[bX]at U;obtain⟨h1,h2⟩:=U;obtain⟨rfl,a2⟩:=cN h1;split at h2
   ·rename_i cj ae aN;rw[bX]at h2;have aq:=eI h2.1;subst aq;have h3:=h2.2;split at h3
    ·rename_i he aE;obtain⟨i,hi,ph⟩:=mS aE;exact zd (arB (call:=call) a2 ai ae aN he hi ph aa hw h) rfl
    ·cases h3
   ·cases h2
  |_=>cases U
 |HJ t p=>
  cases op with
  |makeInterface hk q=>
   have U:(Nat.beq t hk&&bW X.aB p q&&(match X.P.underlying hk with|some (.interface _)=>false|some _=>true|none=>false))=true:=U;simp only[bX]at U;obtain⟨⟨h1,h2⟩,h3⟩:=U;have aq:=eI h1;subst aq;obtain⟨rfl,a2⟩:=cN h2;split at h3
   ·cases h3
   ·rename_i d cl al;exact e6 (arW (call:=call) a2 ai al (fun ms e=>cl ms (by rw[e])) aa hw h) rfl
   ·cases h3
  |_=>cases U
 |uc fn p c=>
  cases fn with
  |func f=>
   cases op with
   |makeFunc qZ q d=>
    cases qZ with
    |func g=>
     have U:(Nat.beq f g&&j2 X.aB p q.toList&&j2 X.aB c d.toList)=true:=U;simp only[bX]at U;obtain⟨⟨h1,h2⟩,h3⟩:=U;have aq:=eI h1;subst aq;obtain⟨rfl,a2⟩:=qt h2;obtain⟨rfl,bw⟩:=qt h3;exact e6 (aaC (call:=call) (by simp) a2 bw ai aa hw h) rfl
    |_=>cases U
   |_=>cases U
  |method f=>
   cases op with
   |makeFunc qZ q d=>
    cases qZ with
    |method g=>
     have U:(f==g&&j2 X.aB p q.toList&&j2 X.aB c d.toList)=true:=U;simp only[bX]at U;obtain⟨⟨h1,h2⟩,h3⟩:=U;have aq:=zcn h1;subst aq;obtain⟨rfl,a2⟩:=qt h2;obtain⟨rfl,bw⟩:=qt h3;exact e6 (aaC (call:=call) (by simp) a2 bw ai aa hw h) rfl
    |_=>cases U
   |_=>cases U
  |_=>cases op<;>cases U
 |HX name hz p=>
  cases op with
  |nilCheck q=>
   have U:(bW X.aB p q&&hz.all (fun z=>sr X.P z.1 name z.2))=true:=U;rw[bX]at U;obtain⟨rfl,h2⟩:=cN U.1;exact e6 (ar4 (call:=call) h2 U.2 ai aa hw h) rfl
  |_=>cases U
 |po e bS z l c=>
  cases op with
  |makeSlice t l' bT=>
   have U:(bW X.aB l l'&&bW X.aB c bT&&(match X.P.underlying t with
    |some (.slice el)=>Nat.beq e el&&(match X.P.info? el with
     |some i=>Nat.beq bS i.bytes&& !Nat.beq i.size 0&&(match i.zero with|some v=>lE z v.cells.toList&&mT z&&Nat.beq v.cells.toList.length i.size|none=>false)
     |none=>false)
    |_=>false))=true:=U
   simp only[bX]at U;obtain⟨⟨h1,h2⟩,h3⟩:=U;obtain⟨rfl,a2⟩:=cN h1;obtain⟨rfl,bw⟩:=cN h2;split at h3
   ·rename_i el hu;rw[bX]at h3;obtain⟨au,aW⟩:=h3;have aq:=eI au;subst aq;split at aW
    ·rename_i i hi;simp only[bX]at aW;obtain⟨⟨ch,dt⟩,fS⟩:=aW;have e2:=eI ch;subst e2;split at fS
     ·rename_i sV aE;simp only[bX]at fS;obtain⟨⟨h8,tt⟩,Gs⟩:=fS;have bV:=yQ _ _ h8;subst bV;exact zd (arY (call:=call) a2 bw ai hu hi aE (eI Gs) (HQ dt) tt aa hw h) rfl
     ·cases fS
    ·cases aW
   ·cases h3
  |_=>cases U
 |sL p aM hi=>
  cases op with
  |slice t q rq ec pq=>
   cases pq with
   |none=>
    have U:(bW X.aB p q&&l6 X.aB aM rq&&l6 X.aB hi ec&&(match X.P.underlying t with|some .string=>true|_=>false))=true:=U;simp only[bX]at U;obtain⟨⟨⟨h1,h2⟩,h3⟩,au⟩:=U;obtain⟨rfl,a2⟩:=cN h1;obtain⟨rfl,bw⟩:=we h2;obtain⟨rfl,dr⟩:=we h3;split at au
    ·rename_i hu;exact e6 (asa (call:=call) a2 bw dr ai hu aa hw h) rfl
    ·cases au
   |some m=>cases U
  |_=>cases U
 |A7 n s p aM hi eX=>
  cases op with
  |slice t q rq ec pq=>
   have U:(bW X.aB p q&&l6 X.aB aM rq&&l6 X.aB hi ec&&l6 X.aB eX pq&&(pq.isNone||ec.isSome)&&
    (match X.P.underlying t with|some (.array b0 e)=>Nat.beq n b0&&(match gB X.P e with|some bm=>Nat.beq s bm|none=>false)|_=>false))=true:=U
   simp only[bX]at U;obtain⟨⟨⟨⟨⟨h1,h2⟩,h3⟩,au⟩,aW⟩,ch⟩:=U;obtain⟨rfl,a2⟩:=cN h1;obtain⟨rfl,bw⟩:=we h2;obtain⟨rfl,dr⟩:=we h3;obtain⟨rfl,tV⟩:=we au;have Mi:eX≠none->hi≠none:=by
    intro hm he;subst he;cases eX
    ·exact hm rfl
    ·simp at aW
   split at ch
   ·rename_i b0 e hu;rw[bX]at ch;obtain⟨dt,fS⟩:=ch;have aq:=eI dt;subst aq;split at fS
    ·rename_i bm ae;obtain⟨cn,gK,rfl⟩:=mS ae;have e2:=eI fS;subst e2;exact e6 (ar8 (call:=call) a2 bw dr tV Mi ai hu gK aa hw h) rfl
    ·cases fS
   ·cases ch
  |_=>cases U
 |nm s p aM hi eX=>
  cases op with
  |slice t q rq ec pq=>
   have U:(bW X.aB p q&&l6 X.aB aM rq&&l6 X.aB hi ec&&l6 X.aB eX pq&&(pq.isNone||ec.isSome)&&
    (match X.P.underlying t with|some (.slice e)=>(match gB X.P e with|some bm=>Nat.beq s bm|none=>false)|_=>false))=true:=U
   simp only[bX]at U;obtain⟨⟨⟨⟨⟨h1,h2⟩,h3⟩,au⟩,aW⟩,ch⟩:=U;obtain⟨rfl,a2⟩:=cN h1;obtain⟨rfl,bw⟩:=we h2;obtain⟨rfl,dr⟩:=we h3;obtain⟨rfl,tV⟩:=we au;have Mi:eX≠none->hi≠none:=by
    intro hm he;subst he;cases eX
    ·exact hm rfl
    ·simp at aW
   split at ch
   ·rename_i e hu;split at ch
    ·rename_i bm ae;obtain⟨cn,gK,rfl⟩:=mS ae;have e2:=eI ch;subst e2;exact e6 (ar9 (call:=call) a2 bw dr tV Mi ai hu gK aa hw h) rfl
    ·cases ch
   ·cases ch
  |_=>cases U
 |xp off p=>
  cases op with
  |fieldAddr t q f=>
   have U:(bW X.aB p q&&(match X.P.underlying t with
    |some (.struct fields)=>(match fields[f]? with|some fd=>Nat.beq off fd.offset&&(match gB X.P fd.type with|some s=> !Nat.beq s 0|none=>false)|none=>false)
    |_=>false))=true:=U
   rw[bX]at U;obtain⟨h1,h2⟩:=U;obtain⟨rfl,a2⟩:=cN h1;split at h2
   ·rename_i fields hu;split at h2
    ·rename_i fd tE;rw[bX]at h2;obtain⟨h3,au⟩:=h2;have aq:=eI h3;subst aq;split at au
     ·rename_i s ae;obtain⟨i,hi,rfl⟩:=mS ae;exact e6 (arI (call:=call) a2 ai hu tE hi (HQ au) aa hw h) rfl
     ·cases au
    ·cases h2
   ·cases h2
  |_=>cases U
 |o7 off a7 hF p=>
  cases op with
  |field t q f=>
   have U:(bW X.aB p q&&(match X.P.underlying t with
    |some (.struct fields)=>(match fields[f]? with|some fd=>Nat.beq off fd.offset&&(match gB X.P fd.type,pK X.P fd.type with|some s,some g=>Nat.beq a7 s&&(hF==g)|_,_=>false)|none=>false)
    |_=>false))=true:=U
   rw[bX]at U;obtain⟨h1,h2⟩:=U;obtain⟨rfl,a2⟩:=cN h1;split at h2
   ·rename_i fields hu;split at h2
    ·rename_i fd tE;rw[bX]at h2;obtain⟨h3,au⟩:=h2;have aq:=eI h3;subst aq;split at au
     ·rename_i s g ae aJ;rw[bX]at au;obtain⟨i,hi,rfl⟩:=mS ae;obtain⟨d,al,e⟩:=BB aJ;have e2:=eI au.1;subst e2;have bV:hF=qL d:=by rw[e];simpa using au.2
      subst bV;exact e6 (arJ (call:=call) a2 ai hu tE al hi aa hw h) rfl
     ·cases au
    ·cases h2
   ·cases h2
  |_=>cases U
 |si n a7 p i=>
  cases op with
  |indexAddr t q j=>
   have U:(bW X.aB p q&&bW X.aB i j&&(match X.P.underlying t with|some (.array b0 e)=>Nat.beq n b0&&(match gB X.P e with|some s=>Nat.beq a7 s|none=>false)|_=>false))=true:=U;simp only[bX]at U;obtain⟨⟨h1,h2⟩,h3⟩:=U;obtain⟨rfl,a2⟩:=cN h1;obtain⟨rfl,bw⟩:=cN h2;split at h3
   ·rename_i b0 e hu;rw[bX]at h3;obtain⟨au,aW⟩:=h3;have aq:=eI au;subst aq;split at aW
    ·rename_i s ae;obtain⟨cn,gK,rfl⟩:=mS ae;have e2:=eI aW;subst e2;exact e6 (arK (call:=call) a2 bw ai hu gK aa hw h) rfl
    ·cases aW
   ·cases h3
  |_=>cases U
 |lW a7 p i=>
  cases op with
  |indexAddr t q j=>
   have U:(bW X.aB p q&&bW X.aB i j&&(match X.P.underlying t with|some (.slice e)=>(match gB X.P e with|some s=>Nat.beq a7 s|none=>false)|_=>false))=true:=U;simp only[bX]at U;obtain⟨⟨h1,h2⟩,h3⟩:=U;obtain⟨rfl,a2⟩:=cN h1;obtain⟨rfl,bw⟩:=cN h2;split at h3
   ·rename_i e hu;split at h3
    ·rename_i s ae;obtain⟨cn,gK,rfl⟩:=mS ae;have e2:=eI h3;subst e2;exact e6 (arL (call:=call) a2 bw ai hu gK aa hw h) rfl
    ·cases h3
   ·cases h3
  |_=>cases U
 |tU p i=>
  cases op with
  |index t q j=>
   have U:(bW X.aB p q&&bW X.aB i j&&(match X.P.underlying t with|some .string=>true|_=>false))=true:=U;simp only[bX]at U;obtain⟨⟨h1,h2⟩,h3⟩:=U;obtain⟨rfl,a2⟩:=cN h1;obtain⟨rfl,bw⟩:=cN h2;split at h3
   ·rename_i hu;exact e6 (arP (call:=call) a2 bw ai hu aa hw h) rfl
   ·cases h3
  |_=>cases U
 |Hq n a7 hF p i=>
  cases op with
  |index t q j=>
   have U:(bW X.aB p q&&bW X.aB i j&&(match X.P.underlying t with|some (.array b0 e)=>Nat.beq n b0&&(match gB X.P e,pK X.P e with|some s,some g=>Nat.beq a7 s&&(hF==g)|_,_=>false)|_=>false))=true:=U;simp only[bX]at U;obtain⟨⟨h1,h2⟩,h3⟩:=U;obtain⟨rfl,a2⟩:=cN h1;obtain⟨rfl,bw⟩:=cN h2;split at h3
   ·rename_i b0 e hu;rw[bX]at h3;obtain⟨au,aW⟩:=h3;have aq:=eI au;subst aq;split at aW
    ·rename_i s g ae aJ;rw[bX]at aW;obtain⟨cn,gK,rfl⟩:=mS ae;obtain⟨d,al,e⟩:=BB aJ;have e2:=eI aW.1;subst e2;have bV:hF=qL d:=by rw[e];simpa using aW.2
     subst bV;exact e6 (arO (call:=call) a2 bw ai hu al gK aa hw h) rfl
    ·cases aW
   ·cases h3
  |_=>cases U
 |Jv t z ok p=>
  cases op with
  |typeAssert q kH hk mG=>
   have U:(bW X.aB p q&&Nat.beq t hk&&(ok==mG)&&(match X.P.underlying hk with|some (.interface _)=>false|some _=>true|none=>false)&&(match rS X.P hk with|some v=>dA z v&&j8 z|none=>false))=true:=U;simp only[bX]at U;obtain⟨⟨⟨⟨h1,h2⟩,h3⟩,au⟩,aW⟩:=U;obtain⟨rfl,a2⟩:=cN h1;have aq:=eI h2;subst aq;have e2:ok=mG:=by simpa using h3
   subst e2;split at au
   ·cases au
   ·rename_i d cl al;split at aW
    ·rename_i sV rh;rw[bX]at aW;have bV:=nt _ _ aW.1;subst bV;obtain⟨i,hi,aE⟩:=EY rh;exact e6 (ase (call:=call) a2 ai al (fun ms e=>cl ms (by rw[e])) hi aE aW.2 aa hw h) rfl
    ·cases aW
   ·cases au
  |_=>cases U
 |xo p i=>
  cases op with
  |extract q j=>
   have U:(bW X.aB p q&&Nat.beq i j)=true:=U;rw[bX]at U;obtain⟨rfl,a2⟩:=cN U.1;have aq:=eI U.2;subst aq;exact e6 (arH (call:=call) a2 ai aa hw h) rfl
  |_=>cases U
 |BW p=>
  cases op with
  |convert s t q=>
   have U:(bW X.aB p q&&(match X.P.underlying s,X.P.underlying t with|some (.pointer e),some .unsafePointer=>(match gB X.P e with|some n=> !Nat.beq n 0|none=>false)|_,_=>false))=true:=U;rw[bX]at U;obtain⟨h1,h2⟩:=U;obtain⟨rfl,a2⟩:=cN h1;split at h2
   ·rename_i e ae aN;split at h2
    ·rename_i n hn;obtain⟨i,hi,rfl⟩:=mS hn;exact e6 (arz (call:=call) a2 ai ae aN hi (HQ h2) aa hw h) rfl
    ·cases h2
   ·cases h2
  |_=>cases U
 |BX e n p=>
  cases op with
  |convert s t q=>
   have U:(bW X.aB p q&&(match X.P.underlying s,X.P.underlying t with|some .unsafePointer,some (.pointer cj)=>Nat.beq e cj&&(match gB X.P cj with|some m=>Nat.beq n m&& !Nat.beq m 0|none=>false)|_,_=>false))=true:=U;rw[bX]at U;obtain⟨h1,h2⟩:=U;obtain⟨rfl,a2⟩:=cN h1;split at h2
   ·rename_i cj ae aN;rw[bX]at h2;obtain⟨h3,au⟩:=h2;have aq:=eI h3;subst aq;split at au
    ·rename_i m hm;rw[bX]at au;obtain⟨i,hi,rfl⟩:=mS hm;have e2:=eI au.1;subst e2;exact e6 (arC (call:=call) a2 ai ae aN hi (HQ au.2) aa hw h) rfl
    ·cases au
   ·cases h2
  |_=>cases U
 |call f as=>cases hp
 |inv _ _ _=>cases hp
 |wB=>cases hp
 |qS f as=>cases hp
 |rC p=>cases hp
 |oE p=>
  obtain⟨q,t,rfl,hj⟩:=amP U;rw[bX]at hj;obtain⟨rfl,a2⟩:=cN hj.1;have h2:=hj.2;split at h2
  ·rename_i e hu;exact e6 (arS (call:=call) a2 ai hu aa hw h) rfl
  ·cases h2
 |tY p=>
  obtain⟨q,t,rfl,hj⟩:=amQ U;rw[bX]at hj;obtain⟨rfl,a2⟩:=cN hj.1;have h2:=hj.2;split at h2
  ·rename_i hu;exact e6 (arT (call:=call) a2 ai hu aa hw h) rfl
  ·cases h2
 |x2 n=>
  obtain⟨q,t,rfl,hj⟩:=amO U;split at hj
  ·rename_i m d hu;have e:=eI hj;subst e;exact e6 (arQ (call:=call) ai hu hw h) rfl
  ·rename_i u hu;split at hj
   ·rename_i m d C7;have e:=eI hj;subst e;exact e6 (arR (call:=call) ai hu C7 hw h) rfl
   ·cases hj
  ·cases hj
 |app e a7 bS s p=>
  obtain⟨bm,q,t,u,rfl,hj⟩:=amK U;simp only[bX]at hj;obtain⟨⟨h1,h2⟩,h3⟩:=hj;obtain⟨rfl,a2⟩:=cN h1;obtain⟨rfl,bw⟩:=cN h2;split at h3
  ·rename_i el d hu al;simp only[bX]at h3;obtain⟨⟨au,aW⟩,ch⟩:=h3;have aq:=eI au;subst aq;split at ch
   ·rename_i i hi;simp only[bX]at ch;obtain⟨⟨dt,fS⟩,h8⟩:=ch;have e2:=eI dt;have bV:=eI fS;subst e2 bV;split at h8
    ·rename_i sV aE;exact rR (arl (call:=call) a2 bw ai hu al (fun k e=>by subst e;cases aW) hi aE (eI h8) aa hw h) rfl rfl
    ·cases h8
   ·cases ch
  ·cases h3
 |eX p ps=>
  obtain⟨q,da,ts,rfl,hj⟩:=amS U;rw[bX]at hj;obtain⟨rfl,a2⟩:=cN hj.1;obtain⟨rfl,bw⟩:=qt hj.2;exact e6 (ar2 (call:=call) (fun y aA=>by rcases zao.1 aA with rfl|aA;exact a2;exact bw y aA) ai aa hw h) rfl
 |yb p ps=>
  obtain⟨q,da,ts,rfl,hj⟩:=amR U;rw[bX]at hj;obtain⟨rfl,a2⟩:=cN hj.1;obtain⟨rfl,bw⟩:=qt hj.2;exact e6 (ar0 (call:=call) (fun y aA=>by rcases zao.1 aA with rfl|aA;exact a2;exact bw y aA) ai aa hw h) rfl
 |qR a7 d s=>
  obtain⟨kf,bm,t,u,rfl,hj⟩:=amL U;simp only[bX]at hj;obtain⟨⟨h1,h2⟩,h3⟩:=hj;obtain⟨rfl,a2⟩:=cN h1;obtain⟨rfl,bw⟩:=cN h2;split at h3
  ·rename_i e hu;split at h3
   ·rename_i n hn;obtain⟨i,hi,rfl⟩:=mS hn;have e2:=eI h3;subst e2;exact rR (arA (call:=call) a2 bw ai hu hi aa hw h) rfl rfl
   ·cases h3
  ·cases h3
 |A1 p=>
  obtain⟨q,t,rfl,hj⟩:=amW U;obtain⟨rfl,a2⟩:=cN hj;exact e6 (ar7 (call:=call) a2 ai aa hw h) rfl
 |sO e p n=>
  obtain⟨q,m,t,u,rfl,hj⟩:=amX U;simp only[bX]at hj;obtain⟨⟨h1,h2⟩,h3⟩:=hj;obtain⟨rfl,a2⟩:=cN h1;obtain⟨rfl,bw⟩:=cN h2;split at h3
  ·rename_i cj hu;rw[bX]at h3;obtain⟨au,aW⟩:=h3;have aq:=eI au;subst aq;split at aW
   ·rename_i aE;obtain⟨i,hi,ph⟩:=mS aE;exact rR (asg (call:=call) a2 bw ai hu hi ph aa hw h) rfl rfl
   ·cases aW
  ·cases h3
 |kl p c=>
  obtain⟨f,q,d,ts,rfl,hj⟩:=amN U;simp only[bX]at hj;obtain⟨⟨h1,h2⟩,h3⟩:=hj;obtain⟨rfl,a2⟩:=cN h1;obtain⟨rfl,bw⟩:=cN h2;exact e6 (arM (call:=call) a2 bw h3 ai aa hw h) rfl
 |jZ p=>
  obtain⟨f,q,ts,rfl,hj⟩:=amT U;rw[bX]at hj;obtain⟨rfl,a2⟩:=cN hj.1;exact e6 (ar5 (call:=call) a2 hj.2 ai aa hw h) rfl
 |ext y=>exact arG (by rw[ai];exact U) aa hw h
 |_=>exact absurd J.symm Bool.false_ne_true
def NN(U:X.j1 o.op x=true)(aa:cv ι fr a aO)(hw:bn X ι st w)(h:bP call x fr st= .ok v aC st')(hp:x.inPlace=true):
 aC=fr∧w0 X x ι w v st st' (execOp a.eval o):=by
 cases J:LA x
 ·exact aoM U aa hw h J hp
 ·exact aoL U aa hw h J
end
end Go.aj
namespace Go.aj
structure dK where
 fn:ci
 kind:CallKind
 b3:am Nat
def dK.at(b:dK)(a:Act)(todo:ac Item):Frame:=
 {fn:=b.fn,tmps:=a.tmps,todo:=todo,defers:=a.defers,mode:=.run,kind:=b.kind,roundOf:=b.b3}
def eval_at(b:dK)(a:Act)(todo:ac Item):(b.at a todo).eval=a.eval:=by
 funext x;cases x<;>rfl
section
variable{P:d9}{b:dK}{a:Act}{k:ac Item}{cs:ac Frame}{w:co}{ops:ap Oper}
variable{o:Oper}{i:Nat}{rest:ac Nat}{w':co}{c:Code}{l:Nat}{x y:Code}{v:be}{f:ci}
def asP:step P (lone (b.at a (.code .skip::k)) cs w)= .next (lone (b.at a k) cs w):=step_lone_go (by simp[stepG,stepG.exec,dK.at])
def asz:step P (lone (b.at a (.code (.label l)::k)) cs w)= .next (lone (b.at a k) cs w):=step_lone_go (by simp[stepG,stepG.exec,dK.at])
def asw{id:Nat}:step P (lone (b.at a (.inBlock id::k)) cs w)= .next (lone (b.at a k) cs w):=step_lone_go (by simp[stepG,stepG.exec,dK.at])
def asy:step P (lone (b.at a (.inScope c::k)) cs w)= .next (lone (b.at a k) cs w):=step_lone_go (by simp[stepG,stepG.exec,dK.at])
def asO:step P (lone (b.at a (.code (.seq x y)::k)) cs w)= .next (lone (b.at a (.code x:: .code y::k)) cs w):=step_lone_go (by simp[stepG,stepG.exec,dK.at])
def aaQ{c:bi}{t:Bool}(h:a.eval c= .bool t):
 step P (lone (b.at a (.code (.cond c x y)::k)) cs w)= .next (lone (b.at a (.code (if t then x else y)::k)) cs w):=
 step_lone_go (by
  have:=eval_at b a (.code (.cond c x y)::k);simp only[dK.at]at this;simp[stepG,stepG.exec,dK.at,this,h])
def ass{id:Nat}:step P (lone (b.at a (.code (.block id c)::k)) cs w)= .next (lone (b.at a (.code c:: .inBlock id::k)) cs w):=step_lone_go (by simp[stepG,stepG.exec,dK.at])
def asA:step P (lone (b.at a (.code (.loop c)::k)) cs w)= .next (lone (b.at a (.code c:: .inLoop c::k)) cs w):=step_lone_go (by simp[stepG,stepG.exec,dK.at])
def asx:step P (lone (b.at a (.inLoop c::k)) cs w)= .next (lone (b.at a (.code c:: .inLoop c::k)) cs w):=step_lone_go (by simp[stepG,stepG.exec,dK.at])
def asN:step P (lone (b.at a (.code (.scope c)::k)) cs w)= .next (lone (b.at a (.code c:: .inScope c::k)) cs w):=step_lone_go (by simp[stepG,stepG.exec,dK.at])
def asv{id:Nat}{k':ac Item}(h:exitTo id k=some k'):step P (lone (b.at a (.code (.exit id)::k)) cs w)= .next (lone (b.at a k') cs w):=step_lone_go (by simp[stepG,stepG.exec,dK.at,h])
def asF{id:Nat}:step P (lone (b.at a (.code (.region id ops false)::k)) cs w)= .next (lone (b.at a (.inRegion ops (List.range ops.size)::k)) cs w):=step_lone_go (by simp[stepG,stepG.exec,dK.at])
def asG{id:Nat}:step P (lone (b.at a (.code (.region id ops true)::k)) cs w)=
 .next (lone (b.at a (.inRegion ops (Region.schedule (P.follows .mixedOrders) ops (w.tape w.drawn (.order b.fn id)))::k)) cs {w with drawn:=w.drawn+1}):=
 step_lone_go (by simp[stepG,stepG.exec,dK.at,choose,Sem.run,Question.forced,Question.cut])
def aaR:step P (lone (b.at a (.inRegion ops []::k)) cs w)= .next (lone (b.at a k) cs w):=step_lone_go (by simp[stepG,stepG.exec,dK.at])
def finish_at(i:Nat)(rest:ac Nat)(v:be)(ai:ops[i]? =some o):
 (b.at a (.inRegion ops (i::rest)::k)).finish v=b.at (a.put o.dst v) (.inRegion ops rest::k):=by
 cases h:o.dst<;>simp[Frame.finish,dK.at,Act.put,ai,h]
def Jp(ai:ops[i]? =some o)(h:Region.wanted o (yielded ops a.tmps)=false):
 step P (lone (b.at a (.inRegion ops (i::rest)::k)) cs w)= .next (lone (b.at (a.put o.dst undef) (.inRegion ops rest::k)) cs w):=by
 rw[<-finish_at i rest undef ai];exact step_lone_go (by simp only[dK.at];simp[stepG,stepG.exec,ai,h])
def wJ(ai:ops[i]? =some o)(hw:Region.wanted o (yielded ops a.tmps)=true)(al:b.b3=none∨∀c,o.op≠.defer c):
 stepG P true {frame:=b.at a (.inRegion ops (i::rest)::k),callers:=cs,status:=.running,dying:=none} w=
  stepG.apply P true (b.at a (.inRegion ops (i::rest)::k)) cs none (execOp a.eval o) w:=by
 have he:=eval_at b a (.inRegion ops (i::rest)::k);simp only[dK.at]at he;simp only[stepG,stepG.exec,dK.at,ai,Option.map_some,hw,zdt,if_true,stepG.oper,Frame.oper?];rcases al with al|al
 ·simp only[al]at he⊢;rw[he]
 ·cases hr:b.b3 with
  |none=>simp only[hr]at he ⊢;rw[he]
  |some l=>
   rw[hr]at he;cases dq:o.op<;>simp only[]<;>first|(exact absurd dq (al _))|(rw[he])
def O3(ai:ops[i]? =some o)(hw:Region.wanted o (yielded ops a.tmps)=true)(al:b.b3=none∨∀c,o.op≠.defer c)
 (hr:(execOp a.eval o).run P w= .ok (.value v) w'):step P (lone (b.at a (.inRegion ops (i::rest)::k)) cs w)= .next (lone (b.at (a.put o.dst v) (.inRegion ops rest::k)) cs w'):=by
 refine step_lone_go ?_;rw[wJ ai hw al,<-finish_at i rest v ai];simp[stepG.apply,hr]
def asC(ai:ops[i]? =some o)(hw:Region.wanted o (yielded ops a.tmps)=true)(al:b.b3=none∨∀c,o.op≠.defer c)
 (hr:(execOp a.eval o).run P w= .ok .skip w'):step P (lone (b.at a (.inRegion ops (i::rest)::k)) cs w)= .next (lone (b.at (a.put o.dst undef) (.inRegion ops rest::k)) cs w'):=by
 refine step_lone_go ?_;rw[wJ ai hw al,<-finish_at i rest undef ai];simp[stepG.apply,hr]
def asB{d:Deferred}(ai:ops[i]? =some o)(hw:Region.wanted o (yielded ops a.tmps)=true)(al:b.b3=none)
 (hr:(execOp a.eval o).run P w= .ok (.defer d) w'):step P (lone (b.at a (.inRegion ops (i::rest)::k)) cs w)= .next (lone (b.at ({a with defers:=d::a.defers}.put o.dst undef) (.inRegion ops rest::k)) cs w'):=by
 refine step_lone_go ?_;rw[wJ ai hw (.inl al)];have:=finish_at (b:=b) (a:={a with defers:=d::a.defers}) (k:=k) i rest undef ai;rw[<-this];simp[stepG.apply,hr,dK.at]
def Jn{args:ap be}(ai:ops[i]? =some o)(hw:Region.wanted o (yielded ops a.tmps)=true)(al:b.b3=none∨∀c,o.op≠.defer c)
 (hr:(execOp a.eval o).run P w= .ok (.enter f args) w'):step P (lone (b.at a (.inRegion ops (i::rest)::k)) cs w)= .next (lone (Frame.enter P f args .normal) (b.at a (.inRegion ops (i::rest)::k)::cs) w'):=by
 refine step_lone_go ?_;rw[wJ ai hw al];simp[stepG.apply,hr,dK.at]
def Jo{ts:ap be}{dk body:Code}(ai:ops[i]? =some o)(hw:Region.wanted o (yielded ops a.tmps)=true)(al:b.b3=none∨∀c,o.op≠.defer c)
 (hr:(execOp a.eval o).run P w= .ok (.round l f ts dk body) w'):step P (lone (b.at a (.inRegion ops (i::rest)::k)) cs w)= .next (lone (Frame.round l f ts dk body .normal) (b.at a (.inRegion ops (i::rest)::k)::cs) w'):=by
 refine step_lone_go ?_;rw[wJ ai hw al];simp[stepG.apply,hr,dK.at]
def asE(ai:ops[i]? =some o)(hw:Region.wanted o (yielded ops a.tmps)=true)(al:b.b3=none)
 (hr:(execOp a.eval o).run P w= .ok .recover w'):
 step P (lone (b.at a (.inRegion ops (i::rest)::k)) cs w)=match tryRecover (b.at a (.inRegion ops (i::rest)::k)) cs with
  |some (v,cs')=>.next (lone (b.at (a.put o.dst v) (.inRegion ops rest::k)) cs' w')
  |none=>.next (lone (b.at (a.put o.dst .nilIface) (.inRegion ops rest::k)) cs w'):=by
 have C2:(b.at a (.inRegion ops (i::rest)::k)).roundOf=none:=al;cases aN:tryRecover (b.at a (.inRegion ops (i::rest)::k)) cs with
 |none=>
  refine step_lone_go ?_;rw[wJ ai hw (.inl al),<-finish_at i rest _ ai];simp[stepG.apply,hr,C2,aN]
 |some p=>
  obtain⟨v,cs'⟩:=p;refine step_lone_go ?_;rw[wJ ai hw (.inl al),<-finish_at i rest _ ai];simp[stepG.apply,hr,C2,aN]
def asD(ai:ops[i]? =some o)(hw:Region.wanted o (yielded ops a.tmps)=true)(al:b.b3=none∨∀c,o.op≠.defer c)
 (hr:(execOp a.eval o).run P w= .halt (.panic v) w'):step P (lone (b.at a (.inRegion ops (i::rest)::k)) cs w)= .next (lone {b.at a (.inRegion ops (i::rest)::k)with mode:=.panicking [{v,recovered:=false}]} cs w'):=by
 refine step_lone_go ?_;rw[wJ ai hw al];simp[stepG.apply,hr,dK.at,Frame.raise]
end
inductive JU(P:Program)(kg:Value)(args:List Value)(w:World):Frame->Prop
 |enter (f:FuncId) (as:Array Value) (h:((do let d<-Deferred.ofValue kg args.toArray;invoke d.target d.args):Sem Next).run P w= .ok (.enter f as) w):JU P kg args w (Frame.enter P f as .normal)
 |round (l:Nat) (f:FuncId) (ts:Array Value) (dk body:Code) (h:((do let d<-Deferred.ofValue kg args.toArray;invoke d.target d.args):Sem Next).run P w= .ok (.round l f ts dk body) w):JU P kg args w (Frame.round l f ts dk body .normal)
def Bs(X:Ctx)(ι:bt)(w:co)(gf c:Frame)(cs:ac Frame):dL->Prop
 |.ret v st' _=>∃aQ v' w',bk aQ v v'∧bn X aQ st' w'∧fz ι aQ w w'∧Steps X.P (lone gf (c::cs) w) (lone (c.finish v') cs w')
 |.ba v st' _=>∃aQ v' w',bk aQ v v'∧bn X aQ st' w'∧fz ι aQ w w'∧Steps X.P (lone gf (c::cs) w) (lone (c.raise [{v:=v',recovered:=false}]) cs w')
 |.no=>True
def nv(X:Ctx)(call:bL):Prop:=
 ∀ι kg args st Gh jT w,bk ι kg Gh->bM ι args jT->bn X ι st w->call kg args none st≠.no->
  ∃gf,JU X.P Gh jT w gf∧∀c cs,Bs X ι w gf c cs (call kg args none st)
def kL(b:dK)(ba:am be)(ι:bt)(bq:Bool->ac Frame):Prop:=
 match ba with
 |none=>∀(F:Frame) (eF:Bool),F.kind=b.kind->tryRecover F (bq eF)=none
 |some sE=>∃n3,bk ι sE n3∧(∀F:Frame,F.kind=b.kind->tryRecover F (bq false)=some (n3,bq true))∧∀F:Frame,F.kind=b.kind->tryRecover F (bq true)=none
def kL.mono{b:dK}{ba:am be}{ι aQ:bt}{bq:Bool->ac Frame}(hle:ι.le aQ)(h:kL b ba ι bq):kL b ba aQ bq:=by
 cases ba with
 |none=>exact h
 |some sE=>obtain⟨n3,h1,h2,h3⟩:=h;exact⟨n3,h1.mono hle,h2,h3⟩
def qI(ι:bt)(x:am Nat)(y:am Nat):Prop:=(x=none∧y=none)∨∃l l',x=some l∧y=some l'∧ι l=some ⟨l',0,0,id⟩
def qI.mono{ι aQ:bt}(hle:ι.le aQ){x y:am Nat}(h:qI ι x y):qI aQ x y:=by
 rcases h with h|⟨l,l',h1,h2,h3⟩
 ·exact .inl h
 ·exact .inr ⟨l,l',h1,h2,hle _ _ h3⟩
variable{X:Ctx}
def nj(X:Ctx)(aO:Nat)(ops:ap Oper)(x:bE)(o:Oper):Bool:=
 (match x.d,o.dst with
  |none,none=>true
  |some a,some b=>Nat.beq a b&&Nat.ble (Nat.succ b) aO
  |_,_=>false)&&X.j1 o.op x.o&&
 (match x.g,o.guard with
  |none,none=>true
  |some (t,want),some (j,Pp)=>(want==Pp)&&(match(ops[j]?).bind (·.dst)with|some hk=>Nat.beq t hk&&Nat.ble (Nat.succ t) aO|none=>false)
  |_,_=>false)
section
variable{aO:Nat}{ops:ap Oper}{x:bE}{o:Oper}
def NW(h:nj X aO ops x o=true):x.d=o.dst∧∀t,x.d=some t->t<aO:=by
 unfold nj at h;simp only[bX]at h;have h1:=h.1.1;split at h1
 ·rename_i aq e2;rw[aq,e2];exact⟨rfl,by simp⟩
 ·rename_i a b aq e2;rw[bX]at h1;have:=eI h1.1;subst this;rw[aq,e2];exact⟨rfl,fun t aN=>by cases aN;exact pO.1 h1.2⟩
 ·cases h1
def Ie(h:nj X aO ops x o=true):X.j1 o.op x.o=true:=by
 unfold nj at h;simp only[bX]at h;exact h.1.2
variable{ι:bt}{fr aC:aP}{a:Act}{st st':aw}{w:co}{v:be}{call:bL}{b:dK}{bq:Bool->ac Frame}{k:ac Item}{i:Nat}{rest:ac Nat}
def abR{α:Type}{yes hy z r:α}(h:nj X aO ops x o=true)(aa:cv ι fr a aO)(U:hs fr x.g yes hy z=r)(aE:z≠r):
 (yes=r∧Region.wanted o (yielded ops a.tmps)=true)∨(hy=r∧Region.wanted o (yielded ops a.tmps)=false):=by
 unfold nj at h;simp only[bX]at h;have h1:=h.2;split at h1
 ·rename_i aq e2;rw[aq]at U;exact .inl ⟨U,by simp[Region.wanted,e2]⟩
 ·rename_i t want j Pp aq e2;rw[aq]at U;rw[bX]at h1;obtain⟨hw,h3⟩:=h1;have ei:want=Pp:=by simpa using hw
  subst ei;split at h3
  ·rename_i hk sh;rw[bX]at h3;have bV:=eI h3.1;subst bV;have aV:t<a.tmps.size:=by rw[aa.size];exact pO.1 h3.2
   have z8:=aa.tmp t;have aJ:a.tmps[t]? =some (a.tmps.getD t undef):=by simp[Array.getD,aV]
   have aA:yielded ops a.tmps j=match a.tmps.getD t undef with|.bool b=>some b|_=>none:=by
    unfold yielded;rw[sh];simp only[Option.bind_some,aJ];cases a.tmps.getD t undef<;>rfl
   have ng:Region.wanted o (yielded ops a.tmps)=(yielded ops a.tmps j==some want):=by simp[Region.wanted,e2]
   have fi:ns (fr.tmp t) (fun b=>cond b (cond want yes hy) (cond want hy yes)) (qF (fr.tmp t) (fun _=>hy) z)=r:=U;generalize hc:a.tmps.getD t undef=FG at z8 aA;generalize aN:fr.tmp t=O9 at fi z8;cases O9 with
   |bool pN=>
    cases z8;have jD:cond pN (cond want yes hy) (cond want hy yes)=r:=fi;rw[ng,aA];cases pN<;>cases want
    ·exact .inl ⟨jD,rfl⟩
    ·exact .inr ⟨jD,rfl⟩
    ·exact .inr ⟨jD,rfl⟩
    ·exact .inl ⟨jD,rfl⟩
   |tuple xs=>
    cases z8;exact .inr ⟨fi,by rw[ng,aA];rfl⟩
   |_=>exact absurd fi aE
  ·cases h3
 ·cases h1
def apj(a:Act)(d:am Tmp)(v:be){ds:ac Deferred}:({a with defers:=ds}.put d v).tmps=(a.put d v).tmps:=by cases d<;>rfl
def WC{P:d9}{t:Nat}{name:String}{g:ci}(h:sr P t name g=true){f:bi}{args:ap bi}{ts:ap ce}(ai:o.op= .call {callee:=.invoke f name,args:=args,argTypes:=ts}){wT:bi->be}(aF:wT f= .iface t v):
 (execOp wT o).run P w=((do let d<-Deferred.ofValue (.func (.func g) #[] #[]) (v::args.toList.map wT).toArray;invoke d.target d.args):Sem Next).run P w:=by
 have a0:(#[Value.iface t v]++Array.map wT args)[0]? =some (Value.iface t v):=by rw[Array.getElem?_append_left (by simp)];rfl
 have aq:(execOp wT o).run P w=(callMethod (.iface t v) name (args.map wT)).run P w:=by
  unfold execOp;rw[ai];simp[resolve,aF,invoke,a0];congr 2;apply Array.ext';simp[zcU];exact zay (by simp)
 rw[aq,anR h];have e2: #[v]++Array.map wT args=(v::args.toList.map wT).toArray:=by
  apply Array.ext';simp
 rw[e2];simp[Deferred.ofValue,invoke]
def YC(bI:nj X aO ops x o=true)(eL:nv X call)(ai:ops[i]? =some o)(fB:Region.wanted o (yielded ops a.tmps)=true)(aa:cv ι fr a aO)(hw:bn X ι st w)(hb:qI ι fr.b3 b.b3)
 (hr:kL b fr.ba ι bq) (h:bP call x.o fr st= .ok v aC st'):
 ∃aQ a' w',Steps X.P (lone (b.at a (.inRegion ops (i::rest)::k)) (bq fr.cF) w) (lone (b.at a' (.inRegion ops rest::k)) (bq aC.cF) w')∧cv aQ (aC.put x.d v) a' aO∧bn X aQ st' w'∧fz ι aQ w w'∧
  aC.ba=fr.ba∧aC.b3=fr.b3∧∃v',a'.tmps=(a.put o.dst v').tmps:=by
 obtain⟨lQ,kY⟩:=NW bI;have dq:=Ie bI;have qb:∀{q:Prop},(b.b3=none->q)->(fr.b3=none->q):=by
  intro q hq hn;rcases hb with⟨_,h2⟩|⟨l,l',h1,_,_⟩
  ·exact hq h2
  ·rw[hn]at h1;cases h1
 by_cases hp:x.o.inPlace=true
 ·obtain⟨rfl,⟨aQ,n,w',fU,hn,ei,U⟩,_⟩:=NN dq aa hw h hp;have iG:b.b3=none∨∀c,o.op≠.defer c:=by
   right;intro c hc;rw[hc]at dq;cases J:x.o with
   |uc fn p q=>rw[J]at dq;cases fn<;>cases dq
   |vV p=>rw[J]at h;cases h
   |refuse=>rw[J]at h;cases h
   |qS p q=>rw[J]at hp;cases hp
   |ext y=>rw[J]at dq;cases y<;>cases dq
   |_=>rw[J]at dq;cases dq
  rcases hn with⟨v',rfl,aF⟩|⟨rfl,rfl⟩
  ·refine⟨aQ,a.put o.dst v',w',.one (O3 ai fB iG fU),?_,ei,U,rfl,rfl,_,rfl⟩;rw[<-lQ];exact(aa.mono U.le).put kY aF
  ·refine⟨aQ,a.put o.dst undef,w',.one (asC ai fB iG fU),?_,ei,U,rfl,rfl,_,rfl⟩;rw[<-lQ];exact(aa.mono U.le).put kY (bk.undef aQ)
 ·cases J:x.o with
  |call f ps=>
   rw[J]at h dq;obtain⟨g,args,ts,k1,hj⟩:=WB dq;simp only[bX]at hj;obtain⟨rfl,a2⟩:=cN hj.1.1;obtain⟨rfl,bw⟩:=qt hj.1.2;have az:dL.rec (motive:=fun _=>aS) (fun v st _=>.ok v fr st) (fun v st _=>.ba v st) .no (call (fr.af f) (eC fr args.toList) none st)=aS.ok v aC st':=h;have iG:b.b3=none∨∀c,o.op≠.defer c:=.inr (by rw[k1];simp);obtain⟨gf,eR,nP⟩:=eL ι (fr.af f) (eC fr args.toList) st (a.eval f) (args.toList.map a.eval) w (aa.af hw a2) (vg aa hw _ bw) hw (by intro e;rw[e]at az;cases az);have q1:(execOp a.eval o).run X.P w=((do let d<-Deferred.ofValue (a.eval f) (args.toList.map a.eval).toArray;invoke d.target d.args):Sem Next).run X.P w:=by
    unfold execOp;rw[k1];simp[resolve,<-Array.toList_map]
   cases hc:call (fr.af f) (eC fr args.toList) none st with
   |ret v1 cg eF=>
    rw[hc]at az nP;have o9:aS.ok v1 fr cg=aS.ok v aC st':=az;obtain⟨aq,e2,bV⟩:=uj o9;subst aq e2 bV;obtain⟨aQ,v',w',aF,ei,U,nQ⟩:=nP (b.at a (.inRegion ops (i::rest)::k)) (bq fr.cF);have kZ:=finish_at (b:=b) (a:=a) (k:=k) i rest v' ai;rw[kZ]at nQ;refine⟨aQ,a.put o.dst v',w',?_,?_,ei,U,rfl,rfl,_,rfl⟩
    ·cases eR with
     |enter nJ as ae=>exact .head (Jn ai fB iG (by rw[q1];exact ae)) nQ
     |round l nJ ED dk body ae=>exact .head (Jo ai fB iG (by rw[q1];exact ae)) nQ
    ·rw[<-lQ];exact(aa.mono U.le).put kY aF
   |ba v1 cg eF=>rw[hc]at az;cases az
   |no=>rw[hc]at az;cases az
  |inv hz f ps=>
   rw[J]at h dq;obtain⟨g,name,args,ts,k1,hj⟩:=inv_inv dq;simp only[bX]at hj;obtain⟨rfl,a2⟩:=cN hj.1.1;obtain⟨rfl,bw⟩:=qt hj.1.2;obtain⟨t,sR,hp,h1⟩:=EH (h:sQ (fr.af f) _ _=_) (by simp);have qe:=aa.af hw a2;rw[hp]at qe;generalize jB:a.eval f=s7 at qe;cases qe with
   |iface _ _ yR Da=>
   obtain⟨lO,aJ,az⟩:=ft (h1:bd (wK t hz) _ _=_) (by simp);have CR:=zbg.1 hj.2 _ (Jt aJ);have q3:bk ι (.func (.func lO) #[] #[]) (.func (.func lO) #[] #[]):=.func _ _ _ _ _ _ (.inl ⟨rfl,by simp⟩) rfl (fun i h=>by simp at h) rfl (fun i h=>by simp at h);have az:dL.rec (motive:=fun _=>aS) (fun v st _=>.ok v fr st) (fun v st _=>.ba v st) .no (call (.func (.func lO) #[] #[]) (sR::eC fr args.toList) none st)=aS.ok v aC st':=az;have iG:b.b3=none∨∀c,o.op≠.defer c:=.inr (by rw[k1];simp);obtain⟨gf,eR,nP⟩:=eL ι (.func (.func lO) #[] #[]) (sR::eC fr args.toList) st (.func (.func lO) #[] #[]) (yR::args.toList.map a.eval) w q3 (.cons Da (vg aa hw _ bw)) hw (by intro e;rw[e]at az;cases az);have q1:(execOp a.eval o).run X.P w=((do let d<-Deferred.ofValue (.func (.func lO) #[] #[]) (yR::args.toList.map a.eval).toArray;invoke d.target d.args):Sem Next).run X.P w:=WC CR k1 jB;cases hc:call (.func (.func lO) #[] #[]) (sR::eC fr args.toList) none st with
   |ret v1 cg eF=>
    rw[hc]at az nP;have o9:aS.ok v1 fr cg=aS.ok v aC st':=az;obtain⟨aq,e2,bV⟩:=uj o9;subst aq e2 bV;obtain⟨aQ,v',w',aF,ei,U,nQ⟩:=nP (b.at a (.inRegion ops (i::rest)::k)) (bq fr.cF);have kZ:=finish_at (b:=b) (a:=a) (k:=k) i rest v' ai;rw[kZ]at nQ;refine⟨aQ,a.put o.dst v',w',?_,?_,ei,U,rfl,rfl,_,rfl⟩
    ·cases eR with
     |enter nJ as ae=>exact .head (Jn ai fB iG (by rw[q1];exact ae)) nQ
     |round l nJ ED dk body ae=>exact .head (Jo ai fB iG (by rw[q1];exact ae)) nQ
    ·rw[<-lQ];exact(aa.mono U.le).put kY aF
   |ba v1 cg eF=>rw[hc]at az;cases az
   |no=>rw[hc]at az;cases az
  |wB=>
   rw[J]at h dq;obtain⟨ts,k1⟩:=amV dq;obtain⟨hn,h1⟩:=yl (h:bd fr.b3 _ _=_) (fun _=>by simp);have zU:b.b3=none:=qb id hn;have fU:(execOp a.eval o).run X.P w= .ok .recover w:=by
    unfold execOp;rw[k1];simp[resolve,invoke,builtin]
   have ae:=asE (b:=b) (k:=k) (cs:=bq fr.cF) ai fB zU fU (rest:=rest);cases iI:fr.ba with
   |none=>
    rw[iI]at h1 hr;have h2:aS.ok .nilIface fr st=aS.ok v aC st':=h1;obtain⟨aq,e2,bV⟩:=uj h2;subst aq e2 bV;rw[hr _ _ rfl]at ae;refine⟨ι,_,w,.one ae,?_,hw,.refl _ _,iI,rfl,_,rfl⟩;rw[<-lQ];exact aa.put kY .nilIface
   |some sE=>
    rw[iI]at h1 hr;obtain⟨n3,lV,xR,C1⟩:=hr;have h2:cond fr.cF (aS.ok .nilIface fr st) (.ok sE ⟨fr.t,fr.c1,fr.ba,true,fr.b3⟩ st)=aS.ok v aC st':=by rw[iI];exact h1
    cases xV:fr.cF with
    |true=>
     rw[xV]at h2 ae;obtain⟨aq,e2,bV⟩:=uj (h2:aS.ok .nilIface fr st=aS.ok v aC st');subst aq e2 bV;rw[C1 _ rfl]at ae;refine⟨ι,_,w,by rw[xV];exact .one ae,?_,hw,.refl _ _,iI,rfl,_,rfl⟩;rw[<-lQ];exact aa.put kY .nilIface
    |false=>
     rw[xV]at h2 ae;obtain⟨aq,e2,bV⟩:=uj (h2:aS.ok sE ⟨fr.t,fr.c1,fr.ba,true,fr.b3⟩ st=aS.ok v aC st');subst aq e2 bV;rw[xR _ rfl]at ae;refine⟨ι,_,w,.one ae,?_,hw,.refl _ _,iI,rfl,_,rfl⟩;rw[<-lQ];exact cv.put (fr:=⟨fr.t,fr.c1,fr.ba,true,fr.b3⟩) ⟨aa.tmp,aa.size,aa.c1⟩ kY lV
  |qS f ps=>
   rw[J]at h dq;obtain⟨g,args,ts,k1,hj⟩:=amM dq;simp only[bX]at hj;obtain⟨rfl,a2⟩:=cN hj.1;obtain⟨rfl,bw⟩:=qt hj.2;obtain⟨hn,h1⟩:=yl (h:bd fr.b3 _ _=_) (fun _=>by simp);have zU:b.b3=none:=qb id hn;obtain⟨fn,first,fm,q3,h2⟩:=Pl h1 (by simp);have aF:=aa.af hw a2;rw[q3]at aF;cases fn with
   |func lO=>
    obtain⟨aq,e2,bV⟩:=uj (h2:aS.ok undef ⟨fr.t,{target:=.fn (.func lO) fm,args:=⟨gG first.toList (eC fr args.toList)⟩}::fr.c1,fr.ba,fr.cF,fr.b3⟩ st=aS.ok v aC st');subst aq e2 bV;generalize jB:a.eval f=s7 at aF;cases aF with
    |func _ gC _ ao _ vs fH fN gY ny Bw=>
     have jC:=vg aa hw _ bw;have fU:(execOp a.eval o).run X.P w= .ok (.defer {target:=.fn gC vs,args:=ao++args.map a.eval}) w:=by
      unfold execOp;rw[k1];simp[resolve,jB,Deferred.ofValue]
     have ae:=asB (b:=b) (k:=k) (cs:=bq fr.cF) ai fB zU fU (rest:=rest);refine⟨ι,_,w,.one ae,?_,hw,.refl _ _,rfl,rfl,undef,apj _ _ _⟩;rw[<-lQ];refine cv.put (fr:=⟨fr.t,{target:=.fn (.func lO) fm,args:=⟨gG first.toList (eC fr args.toList)⟩}::fr.c1,fr.ba,fr.cF,fr.b3⟩) (a:={a with defers:={target:=.fn gC vs,args:=ao++args.map a.eval}::a.defers}) ⟨aa.tmp,aa.size,⟨⟨?_,fH,bM.wa ny Bw⟩,aa.c1⟩⟩ kY (bk.undef ι);have:=(bM.wa fN gY).append jC;simpa using this
   |_=>cases h2
  |rC p=>
   rw[J]at h;obtain⟨t,sR,_,h1⟩:=EH (h:sQ (fr.af p) _ _=_) (by simp);cases h1
  |_=>rw[J]at hp;exact absurd rfl hp
end
end Go.aj
namespace Go.aj
variable{X:Ctx}
section
variable{aO:Nat}{ops:ap Oper}{x:bE}{o:Oper}{ι:bt}{fr aC:aP}{a:Act}{st st':aw}{w:co}{v:be}{call:bL}{b:dK}{bq:Bool->ac Frame}{k:ac Item}{i:Nat}{rest:ac Nat}
variable{cs:ac Frame}{s bm:Machine}{aQ:bt}
def dK.panics(b:dK)(a:Act)(todo:ac Item)(v:be):Frame:={b.at a todo with mode:=.panicking [{v,recovered:=false}]}
def YD(bI:nj X aO ops x o=true)(eL:nv X call)(ai:ops[i]? =some o)(fB:Region.wanted o (yielded ops a.tmps)=true)(aa:cv ι fr a aO)(hw:bn X ι st w)
 (gi:x.o.mX=true) (h:bP call x.o fr st= .ba v st'):
 ∃aQ v' w',Steps X.P (lone (b.at a (.inRegion ops (i::rest)::k)) cs w) (lone (b.panics a (.inRegion ops (i::rest)::k) v') cs w')∧bk aQ v v'∧bn X aQ st' w'∧fz ι aQ w w':=by
 have dq:=Ie bI;cases J:x.o with
 |call f ps=>
  rw[J]at h dq;obtain⟨g,args,ts,k1,hj⟩:=WB dq;simp only[bX]at hj;obtain⟨rfl,a2⟩:=cN hj.1.1;obtain⟨rfl,bw⟩:=qt hj.1.2;have az:dL.rec (motive:=fun _=>aS) (fun v st _=>.ok v fr st) (fun v st _=>.ba v st) .no (call (fr.af f) (eC fr args.toList) none st)=aS.ba v st':=h;have iG:b.b3=none∨∀c,o.op≠.defer c:=.inr (by rw[k1];simp);obtain⟨gf,eR,nP⟩:=eL ι (fr.af f) (eC fr args.toList) st (a.eval f) (args.toList.map a.eval) w (aa.af hw a2) (vg aa hw _ bw) hw (by intro e;rw[e]at az;cases az);have q1:(execOp a.eval o).run X.P w=((do let d<-Deferred.ofValue (a.eval f) (args.toList.map a.eval).toArray;invoke d.target d.args):Sem Next).run X.P w:=by
   unfold execOp;rw[k1];simp[resolve,<-Array.toList_map]
  cases hc:call (fr.af f) (eC fr args.toList) none st with
  |ba v1 cg eF=>
   rw[hc]at az nP;have o9:aS.ba v1 cg=aS.ba v st':=az;cases o9;obtain⟨aQ,v',w',aF,ei,U,nQ⟩:=nP (b.at a (.inRegion ops (i::rest)::k)) cs;have MB:(b.at a (.inRegion ops (i::rest)::k)).raise [{v:=v',recovered:=false}]=b.panics a (.inRegion ops (i::rest)::k) v':=rfl;rw[MB]at nQ;refine⟨aQ,v',w',?_,aF,ei,U⟩;cases eR with
   |enter nJ as ae=>exact .head (Jn ai fB iG (by rw[q1];exact ae)) nQ
   |round l nJ ED dk body ae=>exact .head (Jo ai fB iG (by rw[q1];exact ae)) nQ
  |ret v1 cg eF=>rw[hc]at az;cases az
  |no=>rw[hc]at az;cases az
 |inv hz f ps=>
  rw[J]at h dq;obtain⟨g,name,args,ts,k1,hj⟩:=inv_inv dq;simp only[bX]at hj;obtain⟨rfl,a2⟩:=cN hj.1.1;obtain⟨rfl,bw⟩:=qt hj.1.2;obtain⟨t,sR,hp,h1⟩:=EH (h:sQ (fr.af f) _ _=_) (by simp);have qe:=aa.af hw a2;rw[hp]at qe;generalize jB:a.eval f=s7 at qe;cases qe with
  |iface _ _ yR Da=>
  obtain⟨lO,aJ,az⟩:=ft (h1:bd (wK t hz) _ _=_) (by simp);have CR:=zbg.1 hj.2 _ (Jt aJ);have q3:bk ι (.func (.func lO) #[] #[]) (.func (.func lO) #[] #[]):=.func _ _ _ _ _ _ (.inl ⟨rfl,by simp⟩) rfl (fun i h=>by simp at h) rfl (fun i h=>by simp at h);have az:dL.rec (motive:=fun _=>aS) (fun v st _=>.ok v fr st) (fun v st _=>.ba v st) .no (call (.func (.func lO) #[] #[]) (sR::eC fr args.toList) none st)=aS.ba v st':=az;have iG:b.b3=none∨∀c,o.op≠.defer c:=.inr (by rw[k1];simp);obtain⟨gf,eR,nP⟩:=eL ι (.func (.func lO) #[] #[]) (sR::eC fr args.toList) st (.func (.func lO) #[] #[]) (yR::args.toList.map a.eval) w q3 (.cons Da (vg aa hw _ bw)) hw (by intro e;rw[e]at az;cases az);have q1:(execOp a.eval o).run X.P w=((do let d<-Deferred.ofValue (.func (.func lO) #[] #[]) (yR::args.toList.map a.eval).toArray;invoke d.target d.args):Sem Next).run X.P w:=WC CR k1 jB;cases hc:call (.func (.func lO) #[] #[]) (sR::eC fr args.toList) none st with
  |ba v1 cg eF=>
   rw[hc]at az nP;have o9:aS.ba v1 cg=aS.ba v st':=az;cases o9;obtain⟨aQ,v',w',aF,ei,U,nQ⟩:=nP (b.at a (.inRegion ops (i::rest)::k)) cs;have MB:(b.at a (.inRegion ops (i::rest)::k)).raise [{v:=v',recovered:=false}]=b.panics a (.inRegion ops (i::rest)::k) v':=rfl;rw[MB]at nQ;refine⟨aQ,v',w',?_,aF,ei,U⟩;cases eR with
   |enter nJ as ae=>exact .head (Jn ai fB iG (by rw[q1];exact ae)) nQ
   |round l nJ ED dk body ae=>exact .head (Jo ai fB iG (by rw[q1];exact ae)) nQ
  |ret v1 cg eF=>rw[hc]at az;cases az
  |no=>rw[hc]at az;cases az
 |rC p=>
  rw[J]at h dq;obtain⟨q,k1,hj⟩:=amU dq;obtain⟨rfl,a2⟩:=cN hj;obtain⟨t,sR,hp,h1⟩:=EH (h:sQ (fr.af p) _ _=_) (by simp);have h2:aS.ba (.iface t sR) st=aS.ba v st':=h1;cases h2;have aF:=aa.af hw a2;rw[hp]at aF;generalize jB:a.eval p=s7 at aF;cases aF with
  |iface _ _ yR Da=>
   refine⟨ι,.iface t yR,w,.one (asD ai fB (.inr (by rw[k1];simp)) ?_),.iface _ _ _ Da,hw,.refl _ _⟩;unfold execOp;rw[k1];simp[jB,Instr.panic,Result.andThen]
 |_=>rw[J]at gi;cases gi
def E3(P:d9)(s:Machine)(b:dK)(a:Act)(k:ac Item)(cs:ac Frame)(w:co)(aQ:bt):dM->Prop
 |.norm=>Steps P s (lone (b.at a k) cs w)
 |.exit id=>∃iP,exitTo id iP=exitTo id k∧Steps P s (lone (b.at a (.code (.exit id)::iP)) cs w)
 |.ret=>∃iP,Steps P s (lone (b.at a (.code .ret::iP)) cs w)
 |.ba v=>∃v' iP,bk aQ v v'∧Steps P s (lone (b.panics a iP v') cs w)
def gr(X:Ctx)(b:dK)(aO:Nat)(bq:Bool->ac Frame)(s:Machine)(k:ac Item)(fr:aP)(ι:bt)(w:co):cW->Prop
 |.out e aC st'=>∃aQ a' w',cv aQ aC a' aO∧bn X aQ st' w'∧fz ι aQ w w'∧aC.ba=fr.ba∧aC.b3=fr.b3∧E3 X.P s b a' k (bq aC.cF) w' aQ e
 |.no=>True
def E3.head{P:d9}{e:dM}(h:Steps P s bm)(az:E3 P bm b a k cs w aQ e):E3 P s b a k cs w aQ e:=by
 cases e with
 |norm=>exact h.trans az
 |exit id=>obtain⟨iP,h1,h2⟩:=az;exact⟨iP,h1,h.trans h2⟩
 |ret=>obtain⟨iP,h2⟩:=az;exact⟨iP,h.trans h2⟩
 |ba v=>obtain⟨v',iP,h1,h2⟩:=az;exact⟨v',iP,h1,h.trans h2⟩
def gr.head{w':co}{r:cW}(h:Steps X.P s bm)(U:fz ι aQ w w')(hp:aC.ba=fr.ba)(hr:aC.b3=fr.b3)(az:gr X b aO bq bm k aC aQ w' r):gr X b aO bq s k fr ι w r:=by
 cases r with
 |no=>trivial
 |out e auP avO=>
  obtain⟨fh,a',jv,h1,h2,h3,au,aW,ch⟩:=az;exact⟨fh,a',jv,h1,h2,U.trans h3,au.trans hp,aW.trans hr,ch.head h⟩
def af8(x:bE)(xs:ac bE)(fr:aP)(st:aw):iY call (x::xs) fr st=
 hs fr x.g (aS.rec (motive:=fun _=>cW) (fun v fr st=>iY call xs (fr.put x.d v) st) (fun v st=>cond x.o.mX (.out (.ba v) fr st) .no) .no (bP call x.o fr st))
  (iY call xs (fr.put x.d undef) st) .no:=rfl
def um(fr:aP)(d:am Tmp)(v:be):(fr.put d v).ba=fr.ba∧(fr.put d v).b3=fr.b3∧(fr.put d v).cF=fr.cF∧(fr.put d v).c1=fr.c1:=by
 obtain⟨h1,h2,h3,au⟩:=wk fr d v;exact⟨h2,au,h3,h1⟩
theorem NX(eL:nv X call):∀(xs:ac bE) (l:ac Nat) (ι:bt) (fr:aP) (a:Act) (st:aw) (w:co),xs.length=l.length->
 (∀(j:Nat) (x:bE) (i:Nat),xs[j]? =some x->l[j]? =some i->∃o,ops[i]? =some o∧nj X aO ops x o=true)->
 cv ι fr a aO->bn X ι st w->qI ι fr.b3 b.b3->kL b fr.ba ι bq->
 gr X b aO bq (lone (b.at a (.inRegion ops l::k)) (bq fr.cF) w) k fr ι w (iY call xs fr st)
 |[],[],ι,fr,a,st,w,_,_,aa,hw,_,_=>⟨ι,a,w,aa,hw,.refl _ _,rfl,rfl,.one aaR⟩
 |[],_::_,_,_,_,_,_,h,_,_,_,_,_=>by simp at h
 |_::_,[],_,_,_,_,_,h,_,_,_,_,_=>by simp at h
 |x::xs,i::l,ι,fr,a,st,w,hl,eu,aa,hw,hb,hr=>by
  obtain⟨o,ai,bI⟩:=eu 0 x i rfl rfl;have Gw:∀(j:Nat) (x:bE) (i:Nat),xs[j]? =some x->l[j]? =some i->∃o,ops[i]? =some o∧nj X aO ops x o=true:=fun j x i h1 h2=>eu (j+1) x i h1 h2;have ck:xs.length=l.length:=by simpa using hl
  obtain⟨lQ,kY⟩:=NW bI;rw[af8];generalize aJ:hs fr x.g _ _ _=r;by_cases gj:r= .no
  ·rw[gj];trivial
  rcases abR bI aa aJ (fun e=>gj e.symm)with⟨e,fB⟩|⟨e,fB⟩
  ·cases jC:bP call x.o fr st with
   |ok v eo cg=>
    rw[jC]at e;have cj:iY call xs (eo.put x.d v) cg=r:=e;obtain⟨aQ,a',w',ae,eD,ei,U,hp,qb,_⟩:=YC (k:=k) (rest:=l) bI eL ai fB aa hw hb hr jC;obtain⟨cr,cz,dT,jI⟩:=um eo x.d v;have q9:=NX eL xs l aQ (eo.put x.d v) a' cg w' ck Gw eD ei (by rw[cz,qb];exact hb.mono U.le) (by rw[cr,hp];exact hr.mono U.le);rw[<-cj];rw[dT]at q9;exact gr.head ae U (cr.trans hp) (cz.trans qb) q9
   |ba v cg=>
    rw[jC]at e;have cj:cond x.o.mX (.out (.ba v) fr cg) .no=r:=e;obtain⟨gi,e2⟩:=iC cj (fun e=>gj e.symm);obtain⟨aQ,v',w',ae,aF,ei,U⟩:=YD (b:=b) (k:=k) (rest:=l) (cs:=bq fr.cF) bI eL ai fB aa hw gi jC;rw[<-e2];exact⟨aQ,a,w',aa.mono U.le,ei,U,rfl,rfl,v',_,aF,ae⟩
   |no=>rw[jC]at e;exact absurd (e:cW.no=r).symm gj
  ·obtain⟨cr,cz,dT,jI⟩:=um fr x.d undef;have q9:=NX eL xs l ι (fr.put x.d undef) (a.put o.dst undef) st w ck Gw (by rw[<-lQ];exact aa.put kY (bk.undef ι)) hw (by rw[cz];exact hb) (by rw[cr];exact hr);rw[<-e];rw[dT]at q9;exact gr.head (.one (Jp ai fB)) (.refl _ _) cr cz q9
end
end Go.aj
namespace Go.aj
variable{X:Ctx}{call:bL}
def kN(fr:aP)(g:am (Tmp×Bool))(b:Bool):Prop:=hs fr g (some true) (some false) none=some b
variable{β:Type}
def EO{α:Type}{fr:aP}{g:am (Tmp×Bool)}{yes hy z r:α}(h:hs fr g yes hy z=r)(aE:z≠r):(kN fr g true∧yes=r)∨(kN fr g false∧hy=r):=by
 unfold kN;cases g with
 |none=>exact .inl ⟨rfl,h⟩
 |some p=>
  have az:ns (fr.tmp p.1) (fun b=>cond b (cond p.2 yes hy) (cond p.2 hy yes)) (qF (fr.tmp p.1) (fun _=>hy) z)=r:=h;show(ns (fr.tmp p.1) (fun b=>cond b (cond p.2 (some true) (some false)) (cond p.2 (some false) (some true))) (qF (fr.tmp p.1) (fun _=>some false) none)=some true∧_)∨
   (ns (fr.tmp p.1) (fun b=>cond b (cond p.2 (some true) (some false)) (cond p.2 (some false) (some true))) (qF (fr.tmp p.1) (fun _=>some false) none)=some false∧_)
  generalize fr.tmp p.1=O9 at az;cases O9 with
  |bool pN=>
   have h2:cond pN (cond p.2 yes hy) (cond p.2 hy yes)=r:=az;show(cond pN (cond p.2 (some true) (some false)) (cond p.2 (some false) (some true))=some true∧_)∨(cond pN (cond p.2 (some true) (some false)) (cond p.2 (some false) (some true))=some false∧_);cases pN<;>cases hp:p.2<;>rw[hp]at h2
   ·exact .inl ⟨rfl,h2⟩
   ·exact .inr ⟨rfl,h2⟩
   ·exact .inr ⟨rfl,h2⟩
   ·exact .inl ⟨rfl,h2⟩
  |tuple xs=>exact .inr ⟨rfl,az⟩
  |_=>exact absurd az aE
def DU(t:an be)(ts:ac Tmp):an be:=l5 t ts fun m=>m
def aP.only(fr:aP)(ts:ac Tmp):aP:=⟨DU fr.t ts,[],none,false,none⟩
def oH(t:an be)(ts:ac Tmp)(k:an be->β)(m:an be):β:=
 List.rec (motive:=fun _=>an be->β) (fun m=>k m) (fun x _ aZ m=>bd (t.get x) (fun v=>an.ik (Nat.succ x) m x v aZ) (aZ m)) ts m
theorem NK{β:Type}(t:an be)(k:an be->β):∀(ts:ac Tmp) (m:an be),oH t ts k m=k (oH t ts (fun m=>m) m)
 |[],_=>rfl
 |x::ts,m=>by
  show bd (t.get x) (fun v=>an.ik (Nat.succ x) m x v (oH t ts k)) (oH t ts k m)=k (bd (t.get x) (fun v=>an.ik (Nat.succ x) m x v (oH t ts fun m=>m)) (oH t ts (fun m=>m) m));cases t.get x with
  |none=>exact NK t k ts m
  |some v=>
   show an.ik (Nat.succ x) m x v (oH t ts k)=k (an.ik (Nat.succ x) m x v (oH t ts fun m=>m));rw[an.yG,an.yG];exact NK t k ts _
def qs(t:an be)(ts:ac Tmp)(k:an be->β):l5 t ts k=k (DU t ts):=NK t k ts .nil
theorem NL(t:an be):∀(ts:ac Tmp) (m:an be) (j:Nat),(oH t ts (fun m=>m) m).get j=if j∈ts∧(t.get j).isSome then t.get j else m.get j
 |[],m,j=>by rw[zaa (by simp)];rfl
 |x::ts,m,j=>by
  show(bd (t.get x) (fun v=>an.ik (Nat.succ x) m x v (oH t ts fun m=>m)) (oH t ts (fun m=>m) m)).get j=_;cases J:t.get x with
  |none=>
   show(oH t ts (fun m=>m) m).get j=_;rw[NL t ts m j];by_cases hj:j=x
   ·subst hj;simp[J]
   ·simp[zao,hj]
  |some v=>
   show(an.ik (Nat.succ x) m x v (oH t ts fun m=>m)).get j=_;rw[an.yG,NL t ts _ j,an.ep];by_cases hj:j=x
   ·subst hj;simp[J]
   ·simp[zao,hj]
def Yd(fr:aP)(ts:ac Tmp)(j:Nat):(fr.only ts).tmp j=if j∈ts then fr.tmp j else ih:=by
 have h:=NL fr.t ts .nil j;have e:(fr.only ts).t.get j=(oH fr.t ts (fun m=>m) .nil).get j:=rfl;show Option.rec (motive:=fun _=>be) (.chan (some 0)) (fun v=>v) ((fr.only ts).t.get j)=_;rw[e,h];by_cases hj:j∈ts
 ·rw[zab hj];cases aJ:fr.t.get j with
  |none=>rw[zaa (by simp),an.get_nil];simp[aP.tmp,aJ]
  |some v=>rw[zab ⟨hj,rfl⟩];simp[aP.tmp,aJ]
 ·rw[zaa (fun h=>hj h.1),zaa hj,an.get_nil];rfl
theorem YR:∀(ts:ac Tmp) (fr:aP),(∀j,(pv fr ts).tmp j=if j∈ts then ih else fr.tmp j)∧(pv fr ts).ba=fr.ba∧(pv fr ts).b3=fr.b3∧(pv fr ts).cF=fr.cF∧(pv fr ts).c1=fr.c1
 |[],fr=>⟨fun j=>by simp[pv],rfl,rfl,rfl,rfl⟩
 |t::ts,fr=>by
  obtain⟨h1,h2,h3,au,aW⟩:=YR ts (fr.put (some t) ih);obtain⟨cr,cz,dT,jI⟩:=um fr (some t) ih;refine⟨fun j=> ?_,h2.trans cr,h3.trans cz,au.trans dT,aW.trans jI⟩;show(pv (fr.put (some t) ih) ts).tmp j=_;rw[h1 j,rM];by_cases hj:j∈ts
  ·rw[zab hj,zab (zaK _ hj)]
  ·rw[zaa hj];by_cases e:t=j
   ·subst e;simp
   ·have:j≠t:=fun h=>e h.symm;simp[e,hj,this]
theorem aak{o:c7}{fr:aP}{v:be}{ag:Nat}:∀(n:Nat) (ae:ac (an bD)),sameAt call o fr v ag n ae=true->∀j,j<n->∃h aC st',ae[j]? =some h∧bP call o fr ⟨h,ag⟩= .ok v aC st'
 |0,_,_,j,hj=>by omega
 |n+1,[],h,_,_=>by cases h
 |n+1,h::ae,hh,j,hj=>by
  have zW:aS.rec (motive:=fun _=>Bool) (fun v' _ _=>cond (dA v v') (sameAt call o fr v ag n ae) false) (fun _ _=>false) false (bP call o fr ⟨h,ag⟩)=true:=hh;cases he:bP call o fr ⟨h,ag⟩with
  |ok v' aC st'=>
   rw[he]at zW;have h2:cond (dA v v') (sameAt call o fr v ag n ae) false=true:=zW;obtain⟨h3,au⟩:=iC h2 (by simp);have:=nt _ _ h3;subst this;cases j with
   |zero=>exact⟨h,aC,st',rfl,he⟩
   |succ j=>
    obtain⟨az,nJ,bm,aW,ch⟩:=aak n ae au j (by omega);exact⟨az,nJ,bm,by simpa using aW,ch⟩
  |ba _ _=>rw[he]at zW;cases zW
  |no=>rw[he]at zW;cases zW
def DStep(call:bL)(x:bE)(c:cw)(fr:aP)(st:aw)(N:ac (an bD))(v:be)(eo:aP)(cg:aw)(mc:ac (an bD)):Prop:=
 match c with
 |.ez=>((kN fr x.g false∨(kN fr x.g true∧∃u bm,bP call x.o fr st= .ba u bm))∧v=undef∧eo=fr.put x.d undef∧cg=st∧mc=st.h::N)∨
  (kN fr x.g true∧∃aC,bP call x.o fr st= .ok v aC cg∧st.ag<=cg.ag∧eo=aP.put ⟨fr.t,aC.c1,aC.ba,aC.cF,aC.b3⟩ x.d v∧mc=cg.h::N)
 |.hG ts=>eo=fr.put x.d v∧mc=N∧((kN (fr.only ts) x.g false∧v=undef∧cg=st)∨(kN (fr.only ts) x.g true∧∃aC,bP call x.o (fr.only ts) st= .ok v aC cg))
 |.read back ts=>eo=fr.put x.d v∧mc=N∧cg=st∧((kN (fr.only ts) x.g false∧v=undef)∨(kN (fr.only ts) x.g true∧sameAt call x.o (fr.only ts) v st.ag (Nat.succ back) N=true))
def y6(call:bL)(x:bE)(c:cw)(fr:aP)(st:aw):Prop:=c= .ez->kN fr x.g true->∀u bm,bP call x.o fr st≠.ba u bm
variable{fr:aP}
def auc{g:am (Tmp×Bool)}(h:kN fr g false)(az:kN fr g true):False:=by
 unfold kN at h az;rw[h]at az;cases az
def af4{x:bE}{c:cw}{L:ac (bE×cw)}{N:ac (an bD)}{st:aw}{e:dM}{aC:aP}{st':aw}{dd:sY}(h:hT call dd ((x,c)::L) N fr st= .out e aC st'):
 (∃v eo cg mc,DStep call x c fr st N v eo cg mc∧y6 call x c fr st∧hT call dd L mc eo cg= .out e aC st')∨
 (c= .ez∧kN fr x.g true∧x.o.mX=true∧aC=fr∧dd L (st.h::N) (fr.put x.d undef) st=true∧∃u,e= .ba u∧bP call x.o fr st= .ba u st'):=by
 cases c with
 |ez=>
  have az:hs fr x.g (aS.rec (motive:=fun _=>cW) (fun v aC st'=>dY st.ag st'.ag (hT call dd L (st'.h::N) (aP.put ⟨fr.t,aC.c1,aC.ba,aC.cF,aC.b3⟩ x.d v) st') .no) (fun v st'=>cond x.o.mX (cond (dd L (st.h::N) (fr.put x.d undef) st) (.out (.ba v) fr st') .no) .no) .no (bP call x.o fr st))
   (hT call dd L (st.h::N) (fr.put x.d undef) st) .no= .out e aC st':=h
  rcases EO az (by simp)with⟨h1,h2⟩|⟨h1,h2⟩
  ·cases he:bP call x.o fr st with
   |ok v lN dz=>
    rw[he]at h2;obtain⟨h3,au⟩:=iL (h2:dY st.ag dz.ag _ _=_) (by simp);exact .inl ⟨v,aP.put ⟨fr.t,lN.c1,lN.ba,lN.cF,lN.b3⟩ x.d v,dz,dz.h::N,.inr ⟨h1,lN,he,h3,rfl,rfl⟩,(fun _ _ u bm hu=>by rw[he]at hu;cases hu),au⟩
   |ba u bm=>
    rw[he]at h2;obtain⟨h3,au⟩:=iC (h2:cond _ _ _=_) (by simp);obtain⟨aW,ch⟩:=iC (au:cond _ _ _=_) (by simp);have ch:cW.out (.ba u) fr bm= .out e aC st':=ch;cases ch;exact .inr ⟨rfl,h1,h3,rfl,aW,u,rfl,rfl⟩
   |no=>rw[he]at h2;cases h2
  ·exact .inl ⟨undef,fr.put x.d undef,st,st.h::N,.inl ⟨.inl h1,rfl,rfl,rfl,rfl⟩,(fun _ aN=>(auc h1 aN).elim),h2⟩
 |hG ts=>
  have az:l5 fr.t ts (fun t=>hs ⟨t,[],none,false,none⟩ x.g
   (aS.rec (motive:=fun _=>cW) (fun v _ st'=>hT call dd L N (fr.put x.d v) st') (fun _ _=>.no) .no (bP call x.o ⟨t,[],none,false,none⟩ st))
   (hT call dd L N (fr.put x.d undef) st) .no)= .out e aC st':=h
  rw[qs]at az;have o9:hs (fr.only ts) x.g (aS.rec (motive:=fun _=>cW) (fun v _ st'=>hT call dd L N (fr.put x.d v) st') (fun _ _=>.no) .no (bP call x.o (fr.only ts) st))
   (hT call dd L N (fr.put x.d undef) st) .no= .out e aC st':=az
  rcases EO o9 (by simp)with⟨h1,h2⟩|⟨h1,h2⟩
  ·cases he:bP call x.o (fr.only ts) st with
   |ok v lN dz=>
    rw[he]at h2;exact .inl ⟨v,fr.put x.d v,dz,N,⟨rfl,rfl,.inr ⟨h1,lN,he⟩⟩,(fun h=>by cases h),h2⟩
   |ba _ _=>rw[he]at h2;cases h2
   |no=>rw[he]at h2;cases h2
  ·exact .inl ⟨undef,fr.put x.d undef,st,N,⟨rfl,rfl,.inl ⟨h1,rfl,rfl⟩⟩,(fun h=>by cases h),h2⟩
 |read back ts=>
  have az:l5 fr.t ts (fun t=>hs ⟨t,[],none,false,none⟩ x.g
   (aS.rec (motive:=fun _=>cW) (fun v _ _=>cond (sameAt call x.o ⟨t,[],none,false,none⟩ v st.ag (Nat.succ back) N) (hT call dd L N (fr.put x.d v) st) .no) (fun _ _=>.no) .no (bP call x.o ⟨t,[],none,false,none⟩ st))
   (hT call dd L N (fr.put x.d undef) st) .no)= .out e aC st':=h
  rw[qs]at az;have o9:hs (fr.only ts) x.g (aS.rec (motive:=fun _=>cW) (fun v _ _=>cond (sameAt call x.o (fr.only ts) v st.ag (Nat.succ back) N) (hT call dd L N (fr.put x.d v) st) .no) (fun _ _=>.no) .no (bP call x.o (fr.only ts) st))
   (hT call dd L N (fr.put x.d undef) st) .no= .out e aC st':=az
  rcases EO o9 (by simp)with⟨h1,h2⟩|⟨h1,h2⟩
  ·cases he:bP call x.o (fr.only ts) st with
   |ok v lN dz=>
    rw[he]at h2;obtain⟨h3,au⟩:=iC (h2:cond _ _ _=_) (by simp);exact .inl ⟨v,fr.put x.d v,st,N,⟨rfl,rfl,rfl,.inr ⟨h1,h3⟩⟩,(fun h=>by cases h),au⟩
   |ba _ _=>rw[he]at h2;cases h2
   |no=>rw[he]at h2;cases h2
  ·exact .inl ⟨undef,fr.put x.d undef,st,N,⟨rfl,rfl,rfl,.inl ⟨h1,rfl⟩⟩,(fun h=>by cases h),h2⟩
def E2(x:bE)(c:cw)(fr:aP)(st:aw)(N:ac (an bD))(v:be)(eo:aP)(cg:aw)(mc:ac (an bD)):Prop:=v=undef∧eo=fr.put x.d undef∧cg=st∧mc=(match c with|.ez=>st.h::N|_=>N)
structure jQ(call:bL)(Z:Nat->Bool)(L:ac (bE×cw))(fe:ac (an bD))(fr:aP)(st:aw)(aC:aP)(st':aw)(F:Nat->aP)(T:Nat->aw)(N:Nat->ac (an bD))(V:Nat->be):Prop where
 f0:F 0=fr
 t0:T 0=st
 sv:N 0=fe
 fn:F L.length=aC
 avR:T L.length=st'
 step:∀p x c,L[p]? =some (x,c)->(Z p=false∧DStep call x c (F p) (T p) (N p) (V p) (F (p+1)) (T (p+1)) (N (p+1)))∨(Z p=true∧E2 x c (F p) (T p) (N p) (V p) (F (p+1)) (T (p+1)) (N (p+1)))
def JT(call:bL)(Z:Nat->Bool)(L:ac (bE×cw))(F:Nat->aP)(T:Nat->aw)(n:Nat):Prop:=∀p x c,p≠n->Z p=false->L[p]? =some (x,c)->y6 call x c (F p) (T p)
def ach(call:bL)(ms:ac Nat)(Z:Nat->Bool)(L:ac (bE×cw))(F:Nat->aP)(T:Nat->aw)(e:dM)(aC:aP)(st':aw):Prop:=
 (e= .norm∧(∀p,Z p=false)∧JT call Z L F T L.length∧F L.length=aC∧T L.length=st')∨
 (∃n x u,L[n]? =some (x,.ez)∧(∀p,Z p=true->n<p∧(ms.getD p 0).testBit n=true)∧JT call Z L F T n∧kN (F n) x.g true∧x.o.mX=true∧aC=F n∧e= .ba u∧bP call x.o (F n) (T n)= .ba u st')
theorem RN{dd:sY}{e:dM}{aC:aP}{st':aw}:∀(L:ac (bE×cw)) (fe:ac (an bD)) (fr:aP) (st:aw),hT call dd L fe fr st= .out e aC st'->∃(F:Nat->aP) (T:Nat->aw) (N:Nat->ac (an bD)) (V:Nat->be),(F 0=fr∧T 0=st∧N 0=fe)∧
 ((e= .norm∧F L.length=aC∧T L.length=st'∧∀p x c,L[p]? =some (x,c)->DStep call x c (F p) (T p) (N p) (V p) (F (p+1)) (T (p+1)) (N (p+1))∧y6 call x c (F p) (T p))∨
  (∃n x u,L[n]? =some (x,.ez)∧(∀p x c,p<n->L[p]? =some (x,c)->DStep call x c (F p) (T p) (N p) (V p) (F (p+1)) (T (p+1)) (N (p+1))∧y6 call x c (F p) (T p))∧kN (F n) x.g true∧x.o.mX=true∧aC=F n∧e= .ba u∧bP call x.o (F n) (T n)= .ba u st'∧
   dd (L.drop (n+1)) ((T n).h::N n) ((F n).put x.d undef) (T n)=true))
 |[],fe,fr,st,h=>by
  have az:cW.out .norm fr st= .out e aC st':=h;cases az;exact⟨fun _=>aC,fun _=>st',fun _=>fe,fun _=>undef,⟨rfl,rfl,rfl⟩,.inl ⟨rfl,rfl,rfl,fun p x c hp=>by simp at hp⟩⟩
 |(x,c)::L,fe,fr,st,h=>by
  rcases af4 h with⟨v,eo,cg,mc,al,nb,h1⟩|⟨rfl,hw,gi,rfl,hV,u,rfl,jC⟩
  ·obtain⟨F,T,N,V,⟨f0,t0,sv⟩,xD⟩:=RN L mc eo cg h1;refine⟨fun p=>Nat.casesOn p fr F,fun p=>Nat.casesOn p st T,fun p=>Nat.casesOn p fe N,fun p=>Nat.casesOn p v V,⟨rfl,rfl,rfl⟩,?_⟩;have h0:∀en bT,((x,c)::L)[0]? =some (en,bT)->DStep call en bT fr st fe v (F 0) (T 0) (N 0)∧y6 call en bT fr st:=fun en bT hp=>by
    have:(x,c)=(en,bT):=by simpa using hp
    cases this;rw[f0,t0,sv];exact⟨al,nb⟩
   rcases xD with⟨he,aq,e2,ae⟩|⟨n,y,w,aG,ae,aI,a4,b2,cx,ef,fR⟩
   ·refine .inl ⟨he,aq,e2,fun p en bT hp=> ?_⟩;cases p with
    |zero=>exact h0 en bT hp
    |succ p=>exact ae p en bT (by simpa using hp)
   ·refine .inr ⟨n+1,y,w,by simpa using aG,fun p en bT ll hp=> ?_,aI,a4,b2,cx,ef,by simpa using fR⟩;cases p with
    |zero=>exact h0 en bT hp
    |succ p=>exact ae p en bT (by omega) (by simpa using hp)
  ·exact⟨fun _=>aC,fun _=>st,fun _=>fe,fun _=>undef,⟨rfl,rfl,rfl⟩,.inr ⟨0,x,u,rfl,fun p _ _ hp=>by omega,hw,gi,rfl,rfl,jC,hV⟩⟩
def Q5{a b c:Bool}(h:cond a b c=true):(a=true∧b=true)∨(a=false∧c=true):=by
 cases a
 ·exact .inr ⟨rfl,h⟩
 ·exact .inl ⟨rfl,h⟩
theorem QV{ms:ac Nat}{n:Nat}:∀(M:ac (bE×cw)) (p:Nat) (fe:ac (an bD)) (fr:aP) (st:aw),pR call ms n M p fe fr st=true->∃(F:Nat->aP) (T:Nat->aw) (N:Nat->ac (an bD)) (V:Nat->be),(F 0=fr∧T 0=st∧N 0=fe)∧
 ∀q x c,M[q]? =some (x,c)->((ms.getD (p+q) 0).testBit n=false∧DStep call x c (F q) (T q) (N q) (V q) (F (q+1)) (T (q+1)) (N (q+1))∧c≠.ez)∨((ms.getD (p+q) 0).testBit n=true∧E2 x c (F q) (T q) (N q) (V q) (F (q+1)) (T (q+1)) (N (q+1)))
 |[],p,fe,fr,st,_=>⟨fun _=>fr,fun _=>st,fun _=>fe,fun _=>undef,⟨rfl,rfl,rfl⟩,fun q x c hq=>by simp at hq⟩
 |(x,c)::M,p,fe,fr,st,h=>by
  have key:∃v eo cg mc,pR call ms n M (p+1) mc eo cg=true∧(((ms.getD p 0).testBit n=false∧DStep call x c fr st fe v eo cg mc∧c≠.ez)∨((ms.getD p 0).testBit n=true∧E2 x c fr st fe v eo cg mc)):=by
   rcases Q5 (h:cond _ _ _=true)with⟨hb,h1⟩|⟨hb,h1⟩
   ·cases c with
    |ez=>exact⟨undef,_,_,_,h1,.inr ⟨hb,rfl,rfl,rfl,rfl⟩⟩
    |hG ts=>exact⟨undef,_,_,_,h1,.inr ⟨hb,rfl,rfl,rfl,rfl⟩⟩
    |read back ts=>exact⟨undef,_,_,_,h1,.inr ⟨hb,rfl,rfl,rfl,rfl⟩⟩
   ·cases c with
    |ez=>cases h1
    |hG ts=>
     have h2:l5 fr.t ts (fun t=>hs ⟨t,[],none,false,none⟩ x.g
      (aS.rec (motive:=fun _=>Bool) (fun v _ st'=>pR call ms n M (p+1) fe (fr.put x.d v) st') (fun _ _=>false) false (bP call x.o ⟨t,[],none,false,none⟩ st))
      (pR call ms n M (p+1) fe (fr.put x.d undef) st) false)=true:=h1
     rw[qs]at h2;rcases EO h2 (by simp)with⟨aG,aI⟩|⟨aG,aI⟩
     ·cases he:bP call x.o (fr.only ts) st with
      |ok v lN dz=>
       have aI:aS.rec (motive:=fun _=>Bool) (fun v _ st'=>pR call ms n M (p+1) fe (fr.put x.d v) st') (fun _ _=>false) false (bP call x.o (fr.only ts) st)=true:=aI;rw[he]at aI;exact⟨v,_,dz,fe,aI,.inl ⟨hb,⟨rfl,rfl,.inr ⟨aG,lN,he⟩⟩,by simp⟩⟩
      |ba _ _=>
       have aI:aS.rec (motive:=fun _=>Bool) (fun v _ st'=>pR call ms n M (p+1) fe (fr.put x.d v) st') (fun _ _=>false) false (bP call x.o (fr.only ts) st)=true:=aI;rw[he]at aI;cases aI
      |no=>
       have aI:aS.rec (motive:=fun _=>Bool) (fun v _ st'=>pR call ms n M (p+1) fe (fr.put x.d v) st') (fun _ _=>false) false (bP call x.o (fr.only ts) st)=true:=aI;rw[he]at aI;cases aI
     ·exact⟨undef,_,st,fe,aI,.inl ⟨hb,⟨rfl,rfl,.inl ⟨aG,rfl,rfl⟩⟩,by simp⟩⟩
    |read back ts=>
     have h2:l5 fr.t ts (fun t=>hs ⟨t,[],none,false,none⟩ x.g
      (aS.rec (motive:=fun _=>Bool) (fun v _ _=>cond (sameAt call x.o ⟨t,[],none,false,none⟩ v st.ag (Nat.succ back) fe) (pR call ms n M (p+1) fe (fr.put x.d v) st) false) (fun _ _=>false) false (bP call x.o ⟨t,[],none,false,none⟩ st))
      (pR call ms n M (p+1) fe (fr.put x.d undef) st) false)=true:=h1
     rw[qs]at h2;rcases EO h2 (by simp)with⟨aG,aI⟩|⟨aG,aI⟩
     ·have aI:aS.rec (motive:=fun _=>Bool) (fun v _ _=>cond (sameAt call x.o (fr.only ts) v st.ag (Nat.succ back) fe) (pR call ms n M (p+1) fe (fr.put x.d v) st) false) (fun _ _=>false) false (bP call x.o (fr.only ts) st)=true:=aI;cases he:bP call x.o (fr.only ts) st with
      |ok v lN dz=>
       rw[he]at aI;rcases Q5 (aI:cond _ _ _=true)with⟨a4,b2⟩|⟨_,b2⟩
       ·exact⟨v,_,st,fe,b2,.inl ⟨hb,⟨rfl,rfl,rfl,.inr ⟨aG,a4⟩⟩,by simp⟩⟩
       ·cases b2
      |ba _ _=>rw[he]at aI;cases aI
      |no=>rw[he]at aI;cases aI
     ·exact⟨undef,_,st,fe,aI,.inl ⟨hb,⟨rfl,rfl,rfl,.inl ⟨aG,rfl⟩⟩,by simp⟩⟩
  obtain⟨v,eo,cg,mc,h1,ae⟩:=key;obtain⟨F,T,N,V,⟨f0,t0,sv⟩,eR⟩:=QV M (p+1) mc eo cg h1;refine⟨fun p=>Nat.casesOn p fr F,fun p=>Nat.casesOn p st T,fun p=>Nat.casesOn p fe N,fun p=>Nat.casesOn p v V,⟨rfl,rfl,rfl⟩,fun q en bT hq=> ?_⟩;cases q with
  |zero=>
   have:(x,c)=(en,bT):=by simpa using hq
   cases this;show(_∧DStep call x c fr st fe v (F 0) (T 0) (N 0)∧_)∨(_∧E2 x c fr st fe v (F 0) (T 0) (N 0));rw[f0,t0,sv];exact ae
  |succ q=>
   have:=eR q en bT (by simpa using hq);rw[show p+(q+1)=p+1+q by omega];exact this
def af5{ms:ac Nat}(L:ac (bE×cw))(fe:ac (an bD))(fr:aP)(st:aw)(e:dM)(aC:aP)(st':aw)(h:hT call (tc call ms (df L)) L fe fr st= .out e aC st'):∃Z F T N V,jQ call Z L fe fr st (F L.length) (T L.length) F T N V∧ach call ms Z L F T e aC st':=by
 obtain⟨F,T,N,V,⟨f0,t0,sv⟩,xD⟩:=RN L fe fr st h;rcases xD with⟨he,aq,e2,ae⟩|⟨n,x,u,aG,ae,aI,a4,b2,cx,ef,fR⟩
 ·exact⟨fun _=>false,F,T,N,V,⟨f0,t0,sv,rfl,rfl,fun p x c hp=>.inl ⟨rfl,(ae p x c hp).1⟩⟩,.inl ⟨he,fun _=>rfl,fun p x c _ _ hp=>(ae p x c hp).2,aq,e2⟩⟩
 ·have hn:=(zae.1 aG).1;have fR:pR call ms (L.length-(L.drop (n+1)).length.succ) (L.drop (n+1)) (L.length-(L.drop (n+1)).length) ((T n).h::N n) ((F n).put x.d undef) (T n)=true:=by
   have:=fR;unfold tc at this;rw[fs,fs]at this;exact this
  rw[zaE,show L.length-(L.length-(n+1)).succ=n by omega,show L.length-(L.length-(n+1))=n+1 by omega]at fR;obtain⟨hO,JV,JR,JZ,⟨f2,t2,jf⟩,ln⟩:=QV _ _ _ _ _ fR
  let Z:Nat->Bool:=fun p=>decide (n<p)&&(ms.getD p 0).testBit n
  let JN:Nat->aP:=fun p=>if p<=n then F p else hO (p-(n+1))
  let JX:Nat->aw:=fun p=>if p<=n then T p else JV (p-(n+1))
  let JS:Nat->ac (an bD):=fun p=>if p<=n then N p else JR (p-(n+1))
  let E8:Nat->be:=fun p=>if p<n then V p else if p=n then undef else JZ (p-(n+1))
  have aM:∀p,p<=n->JN p=F p∧JX p=T p∧JS p=N p:=fun p hp=>⟨zab hp,zab hp,zab hp⟩;have hi:∀r,JN (n+1+r)=hO r∧JX (n+1+r)=JV r∧JS (n+1+r)=JR r:=fun r=>by
   have e:n+1+r-(n+1)=r:=by omega
   refine⟨?_,?_,?_⟩
   ·show(if n+1+r<=n then _ else hO (n+1+r-(n+1)))=_;rw[zaa (by omega),e]
   ·show(if n+1+r<=n then _ else JV (n+1+r-(n+1)))=_;rw[zaa (by omega),e]
   ·show(if n+1+r<=n then _ else JR (n+1+r-(n+1)))=_;rw[zaa (by omega),e]
  have acb:∀p,p<=n->Z p=false:=fun p hp=>by
   show(decide (n<p)&&_)=false;rw[zac (by omega)];rfl
  have aca:∀r,Z (n+1+r)=(ms.getD (n+1+r) 0).testBit n:=fun r=>by
   show(decide (n<n+1+r)&&_)=_;rw[zad (by omega)];rfl
  refine⟨Z,JN,JX,JS,E8,⟨(aM 0 (zag _)).1.trans f0,(aM 0 (zag _)).2.1.trans t0,(aM 0 (zag _)).2.2.trans sv,rfl,rfl,fun p y c hp=> ?_⟩,.inr ⟨n,x,u,aG,fun p hp=> ?_,fun p y c ll aE hp=> ?_,?_,a4,?_,cx,?_⟩⟩
  ·rcases zcz p n with aV|rfl|L4
   ·obtain⟨fN,gY,ny⟩:=aM p (by omega);obtain⟨cK,c9,hQ⟩:=aM (p+1) (by omega);have aF:E8 p=V p:=zab aV;rw[fN,gY,ny,cK,c9,hQ,aF];exact .inl ⟨acb p (by omega),(ae p y c aV hp).1⟩
   ·obtain⟨fN,gY,ny⟩:=aM p (bY _);obtain⟨cK,c9,hQ⟩:=hi 0;have aF:E8 p=undef:=by
     show(if p<p then _ else if p=p then _ else _)=_;rw[zaa (Nat.lt_irrefl p),zab rfl]
    rw[aG]at hp;cases hp;rw[show p+1+0=p+1 from rfl]at cK c9 hQ;rw[fN,gY,ny,cK,c9,hQ,aF,f2,t2,jf];exact .inl ⟨acb p (bY _),.inl ⟨.inr ⟨aI,u,_,ef⟩,rfl,rfl,rfl,rfl⟩⟩
   ·obtain⟨r,rfl⟩:∃r,p=n+1+r:=⟨p-(n+1),by omega⟩;obtain⟨fN,gY,ny⟩:=hi r;obtain⟨cK,c9,hQ⟩:=hi (r+1);have aF:E8 (n+1+r)=JZ r:=by
     show(if n+1+r<n then _ else if n+1+r=n then _ else JZ (n+1+r-(n+1)))=_;rw[zaa (by omega),zaa (by omega),show n+1+r-(n+1)=r by omega]
    rw[show n+1+(r+1)=n+1+r+1 from rfl]at cK c9 hQ;rw[fN,gY,ny,cK,c9,hQ,aF,aca r];rcases ln r y c (by rw[zaF];exact hp)with⟨sU,yZ,_⟩|⟨sU,yZ⟩
    ·exact .inl ⟨sU,yZ⟩
    ·exact .inr ⟨sU,yZ⟩
  ·have hp:(decide (n<p)&&(ms.getD p 0).testBit n)=true:=hp;rw[zcO,decide_eq_true_eq]at hp;exact hp
  ·rcases zcz p n with aV|rfl|L4
   ·obtain⟨fN,gY,_⟩:=aM p (by omega);rw[fN,gY];exact(ae p y c aV hp).2
   ·exact absurd rfl ll
   ·obtain⟨r,rfl⟩:∃r,p=n+1+r:=⟨p-(n+1),by omega⟩;rw[aca r]at aE;rcases ln r y c (by rw[zaF];exact hp)with⟨_,_,EV⟩|⟨sU,_⟩
    ·exact fun hc=>absurd hc EV
    ·rw[aE]at sU;cases sU
  ·rw[(aM n (bY _)).1];exact aI
  ·rw[(aM n (bY _)).1];exact b2
  ·rw[(aM n (bY _)).1,(aM n (bY _)).2.1];exact ef
def apk{α:Type}(l:ac α)(n:Nat)(vs:ac α):(∃out,∀(k:ac α->aS),qw l n vs k .no=k out)∨(∀k:ac α->aS,qw l n vs k .no= .no):=by
 by_cases h:n+vs.length<=l.length
 ·exact .inl ⟨_,fun k=>by rw[rD,zab h]⟩
 ·by_cases h2:vs=[]
  ·exact .inl ⟨l,fun k=>by rw[rD,zaa h,zab h2]⟩
  ·exact .inr fun k=>by rw[rD,zaa h,zaa h2]
theorem RR(fr:aP):∀(ps:ac (Nat×Nat×bi)) (cs:ac be),(∃out,∀c,ou fr ps cs c=c out)∨(∀c,ou fr ps cs c= .no)
 |[],cs=>.inl ⟨cs,fun _=>rfl⟩
 |p::ps,cs=>by
  have hu:∀c,ou fr (p::ps) cs c=cond (tT (fr.af p.2.2)) .no (dW (df (iB (fr.af p.2.2))) p.2.1 (dY (Nat.add p.1 p.2.1) (df cs) (qw cs p.1 (iB (fr.af p.2.2)) (fun cs'=>ou fr ps cs' c) .no) .no) .no):=fun _=>rfl;simp only[hu];cases tT (fr.af p.2.2)with
  |true=>exact .inr fun _=>rfl
  |false=>
   simp only[cond_false,o5,qi];split
   ·split
    ·rcases apk cs p.1 (iB (fr.af p.2.2))with⟨out,ai⟩|hn
     ·rcases RR fr ps out with⟨nZ,iH⟩|iF
      ·exact .inl ⟨nZ,fun c=>by rw[ai];exact iH c⟩
      ·exact .inr fun c=>by rw[ai];exact iF c
     ·exact .inr fun c=>hn _
    ·exact .inr fun _=>rfl
   ·exact .inr fun _=>rfl
def PY{x:c7}{aC:aP}{h0:an bD}{ag:Nat}{v:be}{st':aw}(J:x.tS=true)(h:bP call x fr ⟨h0,ag⟩= .ok v aC st'):
 ∃o,o≠.dead∧aC=fr∧st'=⟨h0.set ag o,ag+1⟩∧∀az,bP call x fr ⟨az,ag⟩= .ok v fr ⟨az.set ag o,ag+1⟩:=by
 cases x with
 |alloc z e=>
  have h:yo z e call fr ⟨h0,ag⟩= .ok v aC st':=h;unfold yo at h;rw[gz]at h;cases h;exact⟨_,by simp,rfl,rfl,fun az=>by show yo z e call fr ⟨az,ag⟩=_;unfold yo;rw[gz]⟩
 |box e p=>
  have h:AE e p call fr ⟨h0,ag⟩= .ok v aC st':=h;unfold AE at h;obtain⟨h1,h2⟩:=Av h (by simp);rw[gz]at h2;cases h2;exact⟨_,by simp,rfl,rfl,fun az=>by show AE e p call fr ⟨az,ag⟩=_;unfold AE;simp only[h1,cond_false];rw[gz]⟩
 |oX e n z ps=>
  have h:AF e n z ps call fr ⟨h0,ag⟩= .ok v aC st':=h;unfold AF at h;rcases RR fr ps z with⟨out,ai⟩|hn
  ·rw[ai,gz]at h;cases h;exact⟨_,by simp,rfl,rfl,fun az=>by show AF e n z ps call fr ⟨az,ag⟩=_;unfold AF;rw[ai,gz]⟩
  ·rw[hn]at h;cases h
 |u9 e p=>
  have h:AH e p call fr ⟨h0,ag⟩= .ok v aC st':=h;unfold AH at h;obtain⟨s,ae,h1⟩:=oN h (by simp);obtain⟨hle,h2⟩:=iL h1 (by simp);rw[gz]at h2;cases h2;exact⟨_,by simp,rfl,rfl,fun az=>by
   show AH e p call fr ⟨az,ag⟩=_;unfold AH;rw[ae];show dY (df s.data.toList) (2^40) _ _=_;rw[qi,zab hle,gz]⟩
 |po e bS z l c=>
  have h:sB e bS z l c call fr ⟨h0,ag⟩= .ok v aC st':=h;unfold sB at h;obtain⟨a2,km,hl,h1⟩:=ji h (by simp);obtain⟨bw,oY,hc,h2⟩:=ji h1 (by simp);obtain⟨cE,q5,h3⟩:=l2 h2 (by simp);obtain⟨hv,xB,au⟩:=l2 h3 (by simp);obtain⟨hle,aW⟩:=iL au (by simp);obtain⟨Me,ch⟩:=iL aW (by simp);rw[gz]at ch;cases ch;exact⟨_,by simp,rfl,rfl,fun az=>by
   show sB e bS z l c call fr ⟨az,ag⟩=_;unfold sB;rw[hl,hc,q5,xB];show dY cE hv (dY (Nat.mul hv (Nat.succ bS)) (2^40) _ _) _=_;rw[qi,zab hle,qi,zab Me,gz]⟩
 |ud=>
  have h:yp call fr ⟨h0,ag⟩= .ok v aC st':=h;unfold yp at h;rw[gz]at h;cases h;exact⟨_,by simp,rfl,rfl,fun az=>by show yp call fr ⟨az,ag⟩=_;unfold yp;rw[gz]⟩
 |_=>cases J
end Go.aj
namespace Go.aj
def cw.x1:cw->Bool
 |.ez=>true
 |_=>false
def cw.looks:cw->ac Tmp
 |.ez=>[]
 |.hG ts=>ts
 |.read _ ts=>ts
def tm(L:ac (bE×cw))(q:Nat):Bool:=((L[q]?).map (·.2.x1)).getD false
structure lH(X:Ctx)(aO:Nat)(ops:ap Oper)(L:ac (bE×cw))(b6:ac Nat)(dU:ac Tmp)(ms:ac Nat):Prop where
 tX:L.length=ops.size
 x3:b6.length=ops.size
 op:∀(p i:Nat) x c,b6[p]? =some i->L[p]? =some (x,c)->∃o,ops[i]? =some o∧nj X aO ops x o=true
 hG:∀(p:Nat) x ts,L[p]? =some (x,.hG ts)->x.o.tS=true
 rd:∀(p:Nat) x n ts,L[p]? =some (x,.read n ts)->x.o.sl=true
 inj:∀(p q i:Nat),b6[p]? =some i->b6[q]? =some i->p=q
 as3:∀i,i<ops.size->∃p:Nat,b6[p]? =some i
 afB:∀(p i:Nat) o,b6[p]? =some i->ops[i]? =some o->∀e∈o.after,Region.binds .any e=true->∃q,q<p∧b6[q]? =some e.on
 mask:∀(p i:Nat) o q,b6[p]? =some i->ops[i]? =some o->(ms.getD p 0).testBit q=true->∃e∈o.after,Region.binds .any e=true∧∃r,r<p∧b6[r]? =some e.on∧(q=r∨(ms.getD r 0).testBit q=true)
 ez:∀(p:Nat) x q,L[p]? =some (x,.ez)->q<p->(ms.getD p 0).testBit q=true
 back:∀(p:Nat) x n ts,L[p]? =some (x,.read n ts)->(List.range p).countP (fun q=>tm L q&& !(ms.getD p 0).testBit q)<=n
 dst:∀(p q:Nat) x y c d t,L[p]? =some (x,c)->L[q]? =some (y,d)->x.d=some t->y.d=some t->p=q
 acO:∀(p q:Nat) x y c d t,L[p]? =some (x,c)->L[q]? =some (y,d)->p<q->y.d=some t->t∉dU->(c= .ez∨t∈c.looks)->(ms.getD q 0).testBit p=true
 dep:∀(p q:Nat) x y c d t,L[p]? =some (x,c)->L[q]? =some (y,d)->q<p->y.d=some t->t∈c.looks->(ms.getD p 0).testBit q=true
section
variable{X:Ctx}{aO:Nat}{ops:ap Oper}{L:ac (bE×cw)}{b6:ac Nat}{dU:ac Tmp}{ms:ac Nat}{call:bL}
def nw(ops:ap Oper)(b6:ac Nat)(E:Nat->Prop)(p:Nat):Prop:=∀i o,b6[p]? =some i->ops[i]? =some o->∀e∈o.after,Region.binds .any e=true->∀r:Nat,b6[r]? =some e.on->E r
def lH.before(D:lH X aO ops L b6 dU ms){E:Nat->Prop}(g0:∀p,E p->nw ops b6 E p)(p:Nat):nw ops b6 E p->p<ops.size->∀q,(ms.getD p 0).testBit q=true->E q:=by
 induction p using Nat.strongRecOn with
 |_ p aZ=>
  intro hr hp q hq;have Mu:p<b6.length:=by rw[D.x3];exact hp
  have hi:b6[p]? =some b6[p]:=bF Mu;obtain⟨x,J⟩:∃x,L[p]? =some x:=⟨_,bF (by rw[D.tX];exact hp)⟩;obtain⟨o,ai,_⟩:=D.op p _ x.1 x.2 hi J;obtain⟨e,he,hb,r,C3,xS,vD⟩:=D.mask p _ o q hi ai hq;have Vr:E r:=hr _ o hi ai e he hb r xS;rcases vD with rfl|vD
  ·exact Vr
  ·exact aZ r C3 (g0 r Vr) (by omega) q vD
variable{Z:Nat->Bool}{fe:ac (an bD)}{fr aC:aP}{st st':aw}{F:Nat->aP}{T:Nat->aw}{N:Nat->ac (an bD)}{V:Nat->be}
variable{p q:Nat}{x:bE}{c:cw}
def jQ.X8(aN:jQ call Z L fe fr st aC st' F T N V)(D:lH X aO ops L b6 dU ms)(hp:p<L.length):(T p).ag<=(T (p+1)).ag:=by
 obtain⟨⟨x,c⟩,J⟩:∃x,L[p]? =some x:=⟨_,bF hp⟩;rcases aN.step p x c J with⟨_,ae⟩|⟨_,ae⟩
 case inr=>rw[ae.2.2.1];exact bY _
 cases c with
 |ez=>
  rcases ae with⟨_,_,_,h,_⟩|⟨_,_,_,h,_⟩
  ·rw[h];exact bY _
  ·exact h
 |hG ts=>
  obtain⟨_,_,h⟩:=ae;rcases h with⟨_,_,h⟩|⟨_,lN,h⟩
  ·rw[h];exact bY _
  ·have bJ:=D.hG p x ts J;obtain⟨o,_,_,h2,_⟩:=PY (h0:=(T p).h) (ag:=(T p).ag) bJ h;rw[h2];exact zbh _
 |read n ts=>obtain⟨_,_,h,_⟩:=ae;rw[h];exact bY _
def jQ.l4(aN:jQ call Z L fe fr st aC st' F T N V)(D:lH X aO ops L b6 dU ms)(h:p<=q)(hq:q<=L.length):(T p).ag<=(T q).ag:=by
 induction q with
 |zero=>have:p=0:=by omega
        subst this;exact bY _
 |succ q aZ=>
  by_cases e:p=q+1
  ·subst e;exact bY _
  ·exact zai (aZ (by omega) (by omega)) (aN.X8 D (by omega))
def jQ.abb(aN:jQ call Z L fe fr st aC st' F T N V)(J:L[p]? =some (x,c))(t:Nat):(F (p+1)).tmp t=if x.d=some t then V p else(F p).tmp t:=by
 rcases aN.step p x c J with⟨_,ae⟩|⟨_,ae⟩
 case inr=>rw[ae.2.1,rM,ae.1]
 cases c with
 |ez=>
  rcases ae with⟨_,h1,h,_⟩|⟨_,lN,_,_,h,_⟩
  ·rw[h,rM,h1]
  ·rw[h,rM];rfl
 |hG ts=>obtain⟨h,_⟩:=ae;rw[h,rM]
 |read n ts=>obtain⟨h,_⟩:=ae;rw[h,rM]
def jQ.Jw(aN:jQ call Z L fe fr st aC st' F T N V)(t:Nat):∀p,p<=L.length->(∀(q:Nat) x c,q<p->L[q]? =some (x,c)->x.d≠some t)->(F p).tmp t=(F 0).tmp t
 |0,_,_=>rfl
 |p+1,hp,h=>by
  obtain⟨⟨x,c⟩,J⟩:∃x,L[p]? =some x:=⟨_,bF (by omega)⟩;rw[aN.abb J,zaa (h p x c (by omega) J)];exact aN.Jw t p (by omega) (fun q x c hq=>h q x c (by omega))
def jQ.O7(aN:jQ call Z L fe fr st aC st' F T N V)(D:lH X aO ops L b6 dU ms){y:bE}{d:cw}{t:Nat}(aA:L[q]? =some (y,d))(al:y.d=some t):∀p,q<p->p<=L.length->(F p).tmp t=V q
 |0,h,_=>by omega
 |p+1,h,hp=>by
  obtain⟨⟨x,c⟩,J⟩:∃x,L[p]? =some x:=⟨_,bF (by omega)⟩;rw[aN.abb J];by_cases e:p=q
  ·subst e;rw[J]at aA;cases aA;rw[zab al]
  ·rw[zaa (fun h=>e (D.dst p q x y c d t J aA h al))];exact aN.O7 D aA al p (by omega) (by omega)
def jQ.same(aN:jQ call Z L fe fr st aC st' F T N V)(J:L[p]? =some (x,c))(hc:c≠.ez):(F (p+1)).c1=(F p).c1∧(F (p+1)).cF=(F p).cF∧(F (p+1)).ba=(F p).ba∧(F (p+1)).b3=(F p).b3:=by
 rcases aN.step p x c J with⟨_,ae⟩|⟨_,ae⟩
 case inr=>obtain⟨cr,cz,dT,jI⟩:=um (F p) x.d undef;rw[ae.2.1];exact⟨jI,dT,cr,cz⟩
 cases c with
 |ez=>exact absurd rfl hc
 |hG ts=>obtain⟨h,_⟩:=ae;obtain⟨cr,cz,dT,jI⟩:=um (F p) x.d (V p);rw[h];exact⟨jI,dT,cr,cz⟩
 |read n ts=>obtain⟨h,_⟩:=ae;obtain⟨cr,cz,dT,jI⟩:=um (F p) x.d (V p);rw[h];exact⟨jI,dT,cr,cz⟩
def jQ.snap(aN:jQ call Z L [st.h] fr st aC st' F T N V){c:Nat}(hc:c=0∨∃p x,c=p+1∧L[p]? =some (x,cw.ez)):∀p,c<=p->p<=L.length->
 (N p)[(List.range p).countP (fun q=>decide (c<=q)&&tm L q)]? =some (T c).h
 |0,h,_=>by
  have:c=0:=by omega
  subst this;simp[aN.sv,aN.t0]
 |p+1,h,hp=>by
  obtain⟨⟨x,k⟩,J⟩:∃x,L[p]? =some x:=⟨_,bF (by omega)⟩;have eV:=aN.step p x k J;by_cases e:c=p+1
  ·subst e;have aE:(List.range (p+1)).countP (fun q=>decide (p+1<=q)&&tm L q)=0:=by
    rw[List.countP_eq_zero];intro q hq;have:=zcW.1 hq;simp;omega
   rw[aE];rcases hc with hc|⟨dy,en,hc,bJ⟩
   ·omega
   ·have:dy=p:=by omega
    subst this;rw[J]at bJ;cases bJ;rcases eV with⟨_,⟨_,_,_,h1,h2⟩|⟨_,_,_,_,_,h2⟩⟩|⟨_,_,_,h1,h2⟩
    ·rw[h2,h1];rfl
    ·rw[h2];rfl
    ·rw[h2,h1];rfl
  ·have aZ:=aN.snap hc p (by omega) (by omega);rw[List.range_succ,List.countP_append,List.countP_singleton];have gi:decide (c<=p)=true:=by simp;omega
   have L1:tm L p=k.x1:=by simp[tm,J]
   simp only[gi,Bool.true_and,L1];cases k with
   |ez=>
    have:∃h,N (p+1)=h::N p:=by
     rcases eV with⟨_,⟨_,_,_,_,h2⟩|⟨_,_,_,_,_,h2⟩⟩|⟨_,_,_,_,h2⟩
     ·exact⟨_,h2⟩
     ·exact⟨_,h2⟩
     ·exact⟨_,h2⟩
    obtain⟨h,iq⟩:=this;rw[iq];simpa[cw.x1]using aZ
   |hG ts=>
    have h2:N (p+1)=N p:=by
     rcases eV with⟨_,_,h2,_⟩|⟨_,_,_,_,h2⟩
     ·exact h2
     ·exact h2
    rw[h2];simpa[cw.x1]using aZ
   |read n ts=>
    have h2:N (p+1)=N p:=by
     rcases eV with⟨_,_,h2,_⟩|⟨_,_,_,_,h2⟩
     ·exact h2
     ·exact h2
    rw[h2];simpa[cw.x1]using aZ
end
end Go.aj
namespace Go.aj
variable{X:Ctx}
variable{ι:bt}{n:Nat}{l:Loc}{aQ:bt}{m:Nat}{w:co}
def fw(ι:bt)(n:Nat):bt:=fun id=>if id<n then ι id else none
def ke{id:Nat}:fw ι n id=some l↔id<n∧ι id=some l:=by
 unfold fw;by_cases h:id<n<;>simp[h]
def Re(ι:bt)(n:Nat):(fw ι n).le ι:=fun _ _ h=>(ke.1 h).2
def rX(h:ι.le aQ)(hn:m<=n):(fw ι m).le (fw aQ n):=fun _ _ hl=>ke.2 ⟨fC (ke.1 hl).1 hn,h _ _ (ke.1 hl).2⟩
def Rd(h:∀id,n<=id->ι id=none):fw ι n=ι:=by
 funext id;unfold fw;by_cases hi:id<n
 ·simp[hi]
 ·simp[hi,h id (by omega)]
def bn.look{h:an bD}(hw:bn X ι ⟨h,n⟩ w)(hle:ι.le aQ)(aa:∀id,m<=id->aQ id=none)(hn:n<=m)(hb:∀id l,aQ id=some l->l.cC<w.heap.size):bn X aQ ⟨h,m⟩ w:=by
 refine⟨fun id o ai al=> ?_,fun i j o p l fj hi hJ hj hW gR ia aJ e=> ?_,fun id oB=>⟨aa id oB,(hw.fresh id (zai hn oB)).2⟩,hb,fun g aJ=>hle _ _ (hw.mm g aJ),zai hw.p1 hn,fun i l o hl ae ai al=> ?_⟩
 ·obtain⟨l,hl,hm⟩:=hw.eE id o ai al;exact⟨l,hle _ _ hl,jx.mono X hm hle rfl⟩
 ·obtain⟨l',ck,_⟩:=hw.eE i o hi hJ;obtain⟨avG,VW,_⟩:=hw.eE j p hj hW;have aq:=(hle _ _ ck).symm.trans gR;have e2:=(hle _ _ VW).symm.trans ia;cases aq;cases e2;exact hw.inj i j o p _ _ hi hJ hj hW ck VW aJ e
 ·obtain⟨l',ck,_⟩:=hw.eE i o ai al;have aq:=(hle _ _ ck).symm.trans hl;cases aq;exact hw.mK i _ o ck ae ai al
def bn.acI{st:aw}(hw:bn X ι st w){o:bD}(ai:jx X (hU ι st.ag l) w o l)(hb:l.cC<w.heap.size)(mz:l.b5≠iE)(cl:∀id l',ι id=some l'->l'.cC≠l.cC):
 bn X (hU ι st.ag l) ⟨st.h.set st.ag o,st.ag+1⟩ w:=by
 have hle:ι.le (hU ι st.ag l):=by
  intro id l' hl;show(if id=st.ag then some l else ι id)=some l';rw[zaa];exact hl;intro e;subst e;rw[(hw.fresh _ (bY _)).1]at hl;cases hl
 have mq:hU ι st.ag l st.ag=some l:=zab rfl;have nO:∀id,id≠st.ag->hU ι st.ag l id=ι id:=fun id h=>zaa h;refine⟨fun id p hp al=> ?_,fun i j p q fa g8 hi hJ hj hW gR ia aJ e=> ?_,fun id oB=> ?_,fun id l' ck=> ?_,fun g aJ=>hle _ _ (hw.mm g aJ),zdp hw.p1,fun i fa p hx ae hp al=> ?_⟩
 ·rw[an.ep]at hp;by_cases e:id=st.ag
  ·rw[zab e]at hp;cases hp;subst e;exact⟨l,mq,ai⟩
  ·rw[zaa e]at hp;obtain⟨l',ck,hm⟩:=hw.eE id p hp al;exact⟨l',hle _ _ ck,jx.mono X hm hle rfl⟩
 ·rw[an.ep]at hi hj;by_cases aq:i=st.ag
  ·by_cases e2:j=st.ag
   ·rw[aq,e2]
   ·subst aq;rw[mq]at gR;cases gR;rw[nO j e2]at ia;exact absurd e.symm (cl _ _ ia)
  ·by_cases e2:j=st.ag
   ·subst e2;rw[mq]at ia;cases ia;rw[nO i aq]at gR;exact absurd e (cl _ _ gR)
   ·rw[zaa aq]at hi;rw[zaa e2]at hj;rw[nO i aq]at gR;rw[nO j e2]at ia;exact hw.inj i j p q fa g8 hi hJ hj hW gR ia aJ e
 ·have ale:st.ag+1<=id:=oB;refine⟨?_,?_⟩
  ·rw[nO id (by omega)];exact(hw.fresh id (by omega)).1
  ·show(st.h.set st.ag o).get id=none;rw[an.ep,zaa (by omega)];exact(hw.fresh id (by omega)).2
 ·by_cases e:id=st.ag
  ·subst e;rw[mq]at ck;cases ck;exact hb
  ·rw[nO id e]at ck;exact hw.gQ id l' ck
 ·rw[an.ep]at hp;by_cases e:i=st.ag
  ·subst e;rw[mq]at hx;cases hx;exact absurd ae mz
  ·rw[zaa e]at hp;rw[nO i e]at hx;exact hw.mK i fa p hx ae hp al
def uP(L:ac (bE×cw))(F:Nat->aP)(p:Nat):Prop:=∃x ts,L[p]? =some (x,cw.hG ts)∧kN ((F p).only ts) x.g true
structure j9(X:Ctx)(aO:Nat)(L:ac (bE×cw))(F:Nat->aP)(T:Nat->aw)(V:Nat->be)(gX:bt)(hA:co)(E:Nat->Prop)(c:Nat)(ι:bt)(a:Act)(w:co):Prop where
 low:∀p,p<c->E p
 w8:c<=L.length
 start:c=0∨∃p x,c=p+1∧L[p]? =some (x,cw.ez)
 DL:∀(p:Nat) x,c<=p->E p->L[p]? ≠some (x,cw.ez)
 wr:bn X (fw ι (T c).ag) (T c) w
 lM:∀id l,ι id=some l->id<(T c).ag∨∃p,c<=p∧p<L.length∧E p∧uP L F p∧id=(T p).ag
 gm:∀p,c<=p->E p->uP L F p->∃o l,T (p+1)=⟨(T p).h.set (T p).ag o,(T p).ag+1⟩∧ι (T p).ag=some l∧jx X (fw ι ((T p).ag+1)) w o l∧
  l.b5≠iE∧∀id l',ι id=some l'->id≠(T p).ag->l'.cC≠l.cC
 gQ:∀id l,ι id=some l->l.cC<w.heap.size
 keeps:fz gX ι hA w
 size:a.tmps.size=aO
 c1:sZ (fw ι (T c).ag) (F c).c1 a.defers
 EB:∀(p:Nat) x ga t,L[p]? =some (x,ga)->x.d=some t->E p->bk (fw ι (max (T (p+1)).ag (T c).ag)) (V p) (a.tmps.getD t undef)
 Bc:∀t,(∀(p:Nat) x ga,L[p]? =some (x,ga)->x.d=some t->¬E p)->bk gX ((F 0).tmp t) (a.tmps.getD t undef)
section
variable{aO:Nat}{ops:ap Oper}{L:ac (bE×cw)}{b6:ac Nat}{dU:ac Tmp}{ms:ac Nat}{call:bL}
variable{Z:Nat->Bool}{fr aC:aP}{st st':aw}{F:Nat->aP}{T:Nat->aw}{N:Nat->ac (an bD)}{V:Nat->be}{gX:bt}{hA:co}{E:Nat->Prop}{c:Nat}{ι:bt}{a:Act}{w:co}
def j9.look(b4:j9 X aO L F T V gX hA E c ι a w)(aN:jQ call Z L [st.h] fr st aC st' F T N V)(D:lH X aO ops L b6 dU ms)(h0:∀id,st.ag<=id->gX id=none)(aE:∀t∈dU,(F 0).tmp t=ih)
 (g0:∀p,E p->nw ops b6 E p) {p:Nat} {x:bE} {ga:cw} (J:L[p]? =some (x,ga)) (hr:nw ops b6 E p) (hn:¬E p) {t:Nat} (hl:ga= .ez∨t∈ga.looks):
 bk (fw ι (T p).ag) ((F p).tmp t) (a.tmps.getD t undef):=by
 have fT:p<L.length:=(zae.1 J).1;have gi:c<=p:=by
  rcases zan p c with h|h
  ·exact absurd (b4.low p h) hn
  ·exact h
 have jr:p<ops.size:=by rw[<-D.tX];exact fT
 have tr:gX.le (fw ι (T p).ag):=by
  intro id l hl;refine ke.2 ⟨?_,b4.keeps.le _ _ hl⟩;rcases zan id st.ag with h|h
  ·have:=aN.l4 D (zag p) (by omega);rw[aN.t0]at this;omega
  ·rw[h0 id h]at hl;cases hl
 by_cases hw:∃(q:Nat) (y:bE) (d:cw),L[q]? =some (y,d)∧y.d=some t
 ·obtain⟨q,y,d,aA,al⟩:=hw;rcases zan q p with xQ|xQ
  ·have hb:(ms.getD p 0).testBit q=true:=by
    rcases hl with rfl|hl
    ·exact D.ez p x q J xQ
    ·exact D.dep p q x y ga d t J aA xQ al hl
   have e5:=D.before g0 p hr jr q hb;rw[aN.O7 D aA al p xQ (by omega)];refine(b4.EB q y d t aA al e5).mono (rX (.refl ι) ?_);have h1:=aN.l4 D (p:=q+1) (q:=p) xQ (by omega);have h2:=aN.l4 D gi (by omega);omega
  ·have hold:(F p).tmp t=(F 0).tmp t:=aN.Jw t p (by omega) fun e1 en bT Mw bJ g6=>by
    have:=D.dst e1 q en y bT d t bJ aA g6 al;omega
   rw[hold];by_cases G9:t∈dU
   ·rw[aE t G9];exact .top _
   ·refine(b4.Bc t fun e1 en bT bJ g6 Vq=> ?_).mono tr;have alU:=D.dst e1 q en y bT d t bJ aA g6 al;subst alU;by_cases e:e1=p
    ·subst e;exact hn Vq
    ·have hb:=D.acO p e1 x y ga d t J aA (by omega) al G9 hl;exact hn (D.before g0 e1 (g0 e1 Vq) (by rw[<-D.tX];exact(zae.1 aA).1) p hb)
 ·have gj:∀(q:Nat) en bT,L[q]? =some (en,bT)->en.d≠some t:=fun q en bT bJ g6=>hw ⟨q,en,bT,bJ,g6⟩;rw[aN.Jw t p (by omega) fun q en bT _ bJ=>gj q en bT bJ];exact(b4.Bc t fun q en bT bJ g6=>absurd g6 (gj q en bT bJ)).mono tr
def j9.upto(b4:j9 X aO L F T V gX hA E c ι a w)(aN:jQ call Z L [st.h] fr st aC st' F T N V)(_D:lH X aO ops L b6 dU ms):∀q,c<=q->q<=L.length->(∀r,c<=r->r<q->E r)->
 bn X (fw ι (T q).ag) (T q) w∧(F q).c1=(F c).c1∧(F q).cF=(F c).cF∧(F q).ba=(F c).ba∧(F q).b3=(F c).b3:=by
 intro q au3
 induction q with
 |zero=>
  intro _ _;have:c=0:=by omega
  subst this;exact⟨b4.wr,rfl,rfl,rfl,rfl⟩
 |succ q aZ=>
  intro hq eu;by_cases e:c=q+1
  ·subst e;exact⟨b4.wr,rfl,rfl,rfl,rfl⟩
  obtain⟨i1,i2,i3,i4,i5⟩:=aZ (by omega) (by omega) (fun r h1 h2=>eu r h1 (by omega));obtain⟨⟨x,ga⟩,J⟩:∃x,L[q]? =some x:=⟨_,bF (by omega)⟩;have e5:=eu q (by omega) (by omega);have cl:ga≠.ez:=fun h=>b4.DL q x (by omega) e5 (by rw[J,h]);obtain⟨s1,s2,yF,aqN⟩:=aN.same J cl;refine⟨?_,s1.trans i2,s2.trans i3,yF.trans i4,aqN.trans i5⟩;rcases aN.step q x ga J with⟨_,ae⟩|⟨_,ae⟩
  case inr=>rw[ae.2.2.1];exact i1
  cases ga with
  |ez=>exact absurd rfl cl
  |read n ts=>obtain⟨_,_,h,_⟩:=ae;rw[h];exact i1
  |hG ts=>
   obtain⟨_,_,h⟩:=ae;rcases h with⟨_,_,h⟩|⟨fB,_⟩
   ·rw[h];exact i1
   ·obtain⟨o,l,h1,h2,h3,h0,au⟩:=b4.gm q (by omega) e5 ⟨x,ts,J,fB⟩;have p4:fw ι ((T q).ag+1)=hU (fw ι (T q).ag) (T q).ag l:=by
     funext id;unfold fw hU;by_cases aq:id=(T q).ag
     ·subst aq;simp[h2]
     ·by_cases e2:id<(T q).ag
      ·simp[aq,e2];omega
      ·simp[aq,e2];omega
    rw[h1];show bn X (fw ι ((T q).ag+1)) _ w;rw[p4]at h3⊢;refine i1.acI h3 (b4.gQ _ _ h2) h0 fun id l' ck=> ?_;obtain⟨aG,aI⟩:=ke.1 ck;exact au id l' aI (by omega)
end
def Bx(E:Nat->Prop)(p:Nat):Nat->Prop:=fun q=>E q∨q=p
def xt(a:Act)(d:am Tmp)(v:be)(t:Nat):(a.put d v).tmps.getD t undef=if d=some t∧t<a.tmps.size then v else a.tmps.getD t undef:=by
 cases d with
 |none=>simp[Act.put]
 |some d=>
  by_cases e:d=t
  ·subst e;by_cases h:d<a.tmps.size
   ·simp[Act.put,h]
   ·simp[Act.put,h]
  ·simp only[Option.some.injEq,e,false_and,if_false];simp[Act.put,zbA e]
section
variable{aO:Nat}{ops:ap Oper}{L:ac (bE×cw)}{b6:ac Nat}{dU:ac Tmp}{ms:ac Nat}{call:bL}
variable{Z:Nat->Bool}{fr aC:aP}{st st':aw}{F:Nat->aP}{T:Nat->aw}{N:Nat->ac (an bD)}{V:Nat->be}{gX:bt}{hA:co}{E:Nat->Prop}{c:Nat}{ι:bt}{a:Act}{w:co}
variable{p:Nat}{x:bE}
def j9.float(b4:j9 X aO L F T V gX hA E c ι a w)(D:lH X aO ops L b6 dU ms){ga:cw}(J:L[p]? =some (x,ga))(hc:ga≠.ez)(gi:c<=p)(ki:¬uP L F p){v':be}
 (al:∀t,x.d=some t->t<aO) (aF:bk (fw ι (T (p+1)).ag) (V p) v'):j9 X aO L F T V gX hA (Bx E p) c ι (a.put x.d v') w:=by
 have eM:(a.put x.d v').tmps.size=aO:=by rw[<-b4.size];cases x.d<;>simp[Act.put]
 refine⟨fun q hq=>.inl (b4.low q hq),b4.w8,b4.start,fun q y hq e5=> ?_,b4.wr,fun id l hl=> ?_,fun q hq e5 e4=> ?_,b4.gQ,b4.keeps,eM,?_,fun q y k t aA iK e5=> ?_,fun t gj=> ?_⟩
 ·rcases e5 with e5|rfl
  ·exact b4.DL q y hq e5
  ·intro h;rw[J]at h;cases h;exact hc rfl
 ·rcases b4.lM id l hl with h|⟨q,h1,h2,h3,au⟩
  ·exact .inl h
  ·exact .inr ⟨q,h1,h2,.inl h3,au⟩
 ·rcases e5 with e5|rfl
  ·exact b4.gm q hq e5 e4
  ·exact absurd e4 ki
 ·have:(a.put x.d v').defers=a.defers:=by cases x.d<;>rfl
  rw[this];exact b4.c1
 ·rw[xt];by_cases e:q=p
  ·subst e;rw[J]at aA;cases aA;rw[zab ⟨iK,by rw[b4.size];exact al t iK⟩];exact aF.mono (rX (.refl ι) (Nat.le_max_left _ _))
  ·rw[zaa (fun h=>e (D.dst q p y x k ga t aA J iK h.1))];rcases e5 with e5|h
   ·exact b4.EB q y k t aA iK e5
   ·exact absurd h e
 ·rw[xt,zaa (fun h=>gj p x ga J h.1 (.inr rfl))];exact b4.Bc t fun q y k aA iK e5=>gj q y k aA iK (.inl e5)
def j9.agx(b4:j9 X aO L F T V gX hA E c ι a w)(aN:jQ call Z L [st.h] fr st aC st' F T N V)(D:lH X aO ops L b6 dU ms){ts:ac Tmp}(J:L[p]? =some (x,.hG ts))(gi:c<=p)(nb:¬E p)
 {v':be} {o:bD} {O:Obj} {l:Loc} {w':co} (al:∀t,x.d=some t->t<aO) (gg:T (p+1)=⟨(T p).h.set (T p).ag o,(T p).ag+1⟩) (hl:l.cC=w.heap.size) (aln:l.b5≠iE) (hh:w'.heap=w.heap.push O) (gN:rV w w')
 (aF:bk (hU (fw ι (T p).ag) (T p).ag l) (V p) v') (ai:jx X (hU (fw ι (T p).ag) (T p).ag l) w' o l):j9 X aO L F T V gX hA (Bx E p) c (hU ι (T p).ag l) (a.put x.d v') w':=by
 have fT:p<L.length:=(zae.1 J).1;have sc:ι (T p).ag=none:=by
  cases hn:ι (T p).ag with
  |none=>rfl
  |some m=>
   rcases b4.lM _ _ hn with h|⟨q,h1,h2,h3,au,aW⟩
   ·have:=aN.l4 D gi (by omega);omega
   ·obtain⟨bf,l',ch,_⟩:=b4.gm q h1 h3 au;have dt:(T (q+1)).ag=(T q).ag+1:=by rw[ch]
    have LJ:(T (p+1)).ag=(T p).ag+1:=by rw[gg]
    rcases zcz q p with h|h|h
    ·have:=aN.l4 D (p:=q+1) (q:=p) h (by omega);omega
    ·subst h;exact absurd h3 nb
    ·have:=aN.l4 D (p:=p+1) (q:=q) h (by omega);omega
 have hle:ι.le (hU ι (T p).ag l):=by
  intro id l' ck;show(if id=(T p).ag then some l else ι id)=some l';rw[zaa];exact ck;intro e;subst e;rw[sc]at ck;cases ck
 have mq:hU ι (T p).ag l (T p).ag=some l:=zab rfl;have nO:∀id,id≠(T p).ag->hU ι (T p).ag l id=ι id:=fun id h=>zaa h;have p4:∀n,(T p).ag<n->(hU (fw ι (T p).ag) (T p).ag l).le (fw (hU ι (T p).ag l) n):=by
  intro n hn id l' ck;unfold hU at ck;by_cases e:id=(T p).ag
  ·rw[zab e]at ck;cases ck;subst e;exact ke.2 ⟨hn,mq⟩
  ·rw[zaa e]at ck;obtain⟨h1,h2⟩:=ke.1 ck;exact ke.2 ⟨by omega,by rw[nO id e];exact h2⟩
 have hold:∀b,b<w.heap.size->w'.heap[b]? =w.heap[b]? :=fun b hb=>by rw[hh,zcS,zaa (by omega)]
 have avw:w'.heap.size=w.heap.size+1:=by rw[hh];simp
 have eM:(a.put x.d v').tmps.size=aO:=by rw[<-b4.size];cases x.d<;>simp[Act.put]
 have kD:=aN.l4 D gi (by omega);have Vx:fw (hU ι (T p).ag l) (T c).ag=fw ι (T c).ag:=by
  funext id;unfold fw;by_cases h:id<(T c).ag
  ·rw[zab h,zab h,nO id (by omega)]
  ·rw[zaa h,zaa h]
 have LJ:(T (p+1)).ag=(T p).ag+1:=by rw[gg]
 refine⟨fun q hq=>.inl (b4.low q hq),b4.w8,b4.start,fun q y hq e5=> ?_,?_,fun id l' ck=> ?_,fun q hq e5 e4=> ?_,fun id l' ck=> ?_,?_,eM,?_,fun q y k t aA iK e5=> ?_,fun t gj=> ?_⟩
 ·rcases e5 with e5|rfl
  ·exact b4.DL q y hq e5
  ·intro h;rw[J]at h;cases h
 ·rw[Vx];refine⟨fun id bf iH g6=> ?_,b4.wr.inj,b4.wr.fresh,fun id l' ck=> ?_,b4.wr.mm,b4.wr.p1,b4.wr.mK⟩
  ·obtain⟨l',h1,h2⟩:=b4.wr.eE id bf iH g6;exact⟨l',h1,jx.mono X h2 (.refl _) (hold _ (b4.wr.gQ id l' h1))⟩
  ·have:=b4.wr.gQ id l' ck;omega
 ·by_cases e:id=(T p).ag
  ·by_cases e4:uP L F p
   ·exact .inr ⟨p,gi,fT,.inr rfl,e4,e⟩
   ·exfalso;rcases aN.step p x (.hG ts) J with⟨_,ae⟩|⟨_,ae⟩
    case inr=>rw[ae.2.2.1]at LJ;omega
    obtain⟨_,_,h⟩:=ae;rcases h with⟨_,_,h⟩|⟨h,_⟩
    ·rw[h]at LJ;omega
    ·exact e4 ⟨x,ts,J,h⟩
  ·rw[nO id e]at ck;rcases b4.lM id l' ck with h|⟨q,h1,h2,h3,au⟩
   ·exact .inl h
   ·exact .inr ⟨q,h1,h2,.inl h3,au⟩
 ·by_cases e:q=p
  ·subst e;refine⟨o,l,gg,mq,jx.mono X ai (p4 _ (zbZ _)) rfl,aln,fun id l' ck cl=> ?_⟩;rw[nO id cl]at ck;have:=b4.gQ id l' ck;omega
  ·rcases e5 with e5|h
   ·obtain⟨bf,l',h1,h2,h3,h0,au⟩:=b4.gm q hq e5 e4;refine⟨bf,l',h1,hle _ _ h2,jx.mono X h3 (rX hle (bY _)) (hold _ (b4.gQ _ _ h2)),h0,fun id m hm cl=> ?_⟩;by_cases cj:id=(T p).ag
    ·subst cj;rw[mq]at hm;cases hm;have:=b4.gQ _ _ h2;omega
    ·rw[nO id cj]at hm;exact au id m hm cl
   ·exact absurd h e
 ·by_cases e:id=(T p).ag
  ·subst e;rw[mq]at ck;cases ck;omega
  ·rw[nO id e]at ck;have:=b4.gQ id l' ck;omega
 ·refine b4.keeps.trans ⟨hle,by omega,fun b hb _=>hold b hb,fun id l' ck=> ?_,gN⟩;by_cases e:id=(T p).ag
  ·subst e;rw[mq]at ck;cases ck;exact .inr (.inl (by omega))
  ·rw[nO id e]at ck;exact .inl ck
 ·have:(a.put x.d v').defers=a.defers:=by cases x.d<;>rfl
  rw[this,Vx];exact b4.c1
 ·rw[xt];by_cases e:q=p
  ·subst e;rw[J]at aA;cases aA;rw[zab ⟨iK,by rw[b4.size];exact al t iK⟩];exact aF.mono (p4 _ (by omega))
  ·rw[zaa (fun h=>e (D.dst q p y x k _ t aA J iK h.1))];rcases e5 with e5|h
   ·exact(b4.EB q y k t aA iK e5).mono (rX hle (bY _))
   ·exact absurd h e
 ·rw[xt,zaa (fun h=>gj p x _ J h.1 (.inr rfl))];exact b4.Bc t fun q y k aA iK e5=>gj q y k aA iK (.inl e5)
def j9.effect(b4:j9 X aO L F T V gX hA E c ι a w)(aN:jQ call Z L [st.h] fr st aC st' F T N V)(D:lH X aO ops L b6 dU ms)(J:L[p]? =some (x,.ez))(gi:c<=p)(xz:∀q,q<p->E q)
 {aQ:bt} {a':Act} {w':co} {v':be} (al:∀t,x.d=some t->t<aO) (hw:bn X aQ (T (p+1)) w') (U:fz (fw ι (T p).ag) aQ w w') (ha:a'.tmps=(a.put x.d v').tmps) (aF:bk aQ (V p) v'∨x.d=none) (nL:sZ aQ (F (p+1)).c1 a'.defers):
 ∃fD,j9 X aO L F T V gX hA (Bx E p) (p+1) fD a' w':=by
 have fT:p<L.length:=(zae.1 J).1;have xK:=aN.X8 D fT;have kD:=aN.l4 D gi (by omega);have aly:¬uP L F p:=fun⟨y,ts,aA,_⟩=>by rw[J]at aA;cases aA
 have Wb:∀q,c<=q->q<L.length->E q->uP L F q->(q<p∧(T q).ag<(T p).ag)∨(p<q∧(T (p+1)).ag<=(T q).ag):=by
  intro q h1 h2 h3 au;obtain⟨bf,l',ch,_⟩:=b4.gm q h1 h3 au;have dt:(T (q+1)).ag=(T q).ag+1:=by rw[ch]
  rcases zcz q p with h|h|h
  ·left;have:=aN.l4 D (p:=q+1) (q:=p) h (by omega);exact⟨h,by omega⟩
  ·subst h;exact absurd au aly
  ·right;exact⟨h,aN.l4 D (p:=p+1) (q:=q) h (by omega)⟩
 let fD:bt:=fun id=>if id<(T (p+1)).ag then aQ id else ι id
 have xH:∀id,id<(T (p+1)).ag->fD id=aQ id:=fun id h=>zab h;have CG:∀id,(T (p+1)).ag<=id->fD id=ι id:=fun id h=>zaa (by omega);have hle:ι.le fD:=by
  intro id l hl;rcases zan id (T (p+1)).ag with h|h
  ·rw[xH id h];apply U.le;refine ke.2 ⟨?_,hl⟩;rcases b4.lM id l hl with h1|⟨q,h1,h2,h3,au,aW⟩
   ·omega
   ·rcases Wb q h1 h2 h3 au with⟨_,ch⟩|⟨_,ch⟩<;>omega
  ·rw[CG id h];exact hl
 have p4:fw fD (T (p+1)).ag=aQ:=by
  funext id;unfold fw;by_cases h:id<(T (p+1)).ag
  ·rw[zab h,xH id h]
  ·rw[zaa h,(hw.fresh id (by omega)).1]
 have amv:∀n,(T (p+1)).ag<=n->aQ.le (fw fD n):=by
  intro n hn;rw[<-p4];exact rX (.refl _) hn
 have h9:fz ι fD w w':=by
  refine⟨hle,U.size,fun b hb hi=>U.kept b hb fun id l hl ae=>hi id l (ke.1 hl).2 ae,fun id l hl=> ?_,U.gN⟩;rcases zan id (T (p+1)).ag with h|h
  ·rw[xH id h]at hl;rcases U.new id l hl with h1|h1|⟨j,m,h1,h2,h3⟩
   ·exact .inl (ke.1 h1).2
   ·exact .inr (.inl h1)
   ·exact .inr (.inr ⟨j,m,(ke.1 h1).2,h2,h3⟩)
  ·rw[CG id h]at hl;exact .inl hl
 have eM:a'.tmps.size=aO:=by rw[ha,<-b4.size];cases x.d<;>simp[Act.put]
 refine⟨fD,fun q hq=> ?_,fT,.inr ⟨p,x,rfl,J⟩,fun q y hq e5=> ?_,by rw[p4];exact hw,fun id l hl=> ?_,fun q hq e5 e4=> ?_,fun id l hl=> ?_,b4.keeps.trans h9,eM,by rw[p4];exact nL,fun q y k t aA iK e5=> ?_,fun t gj=> ?_⟩
 ·by_cases e:q=p
  ·exact .inr e
  ·exact .inl (xz q (by omega))
 ·rcases e5 with e5|h
  ·exact b4.DL q y (by omega) e5
  ·omega
 ·rcases zan id (T (p+1)).ag with h|h
  ·exact .inl h
  ·rw[CG id h]at hl;rcases b4.lM id l hl with h1|⟨q,h1,h2,h3,au,aW⟩
   ·omega
   ·rcases Wb q h1 h2 h3 au with⟨_,ch⟩|⟨ch,_⟩
    ·omega
    ·exact .inr ⟨q,ch,h2,.inl h3,au,aW⟩
 ·rcases e5 with e5|h
  ·have alR:=e4;obtain⟨bf,l',h1,h2,h3,h0,au⟩:=b4.gm q (by omega) e5 e4;have z5:q<L.length:=by obtain⟨y,ts,aA,_⟩:=alR;exact(zae.1 aA).1
   have Mw:(T (p+1)).ag<=(T q).ag:=aN.l4 D hq (by omega);refine⟨bf,l',h1,hle _ _ h2,jx.mono X h3 (rX hle (bY _)) ?_,h0,fun id m hm cl=> ?_⟩
   ·exact U.kept l'.cC (b4.gQ _ _ h2) fun id m hm _=>au id m (ke.1 hm).2 (by have:=(ke.1 hm).1;omega)
   ·rcases zan id (T (p+1)).ag with h|h
    ·rw[xH id h]at hm;rcases U.new id m hm with aG|aG|⟨j,fj,aG,_,aI⟩
     ·exact au id m (ke.1 aG).2 cl
     ·have:=b4.gQ _ _ h2;omega
     ·have:=au j fj (ke.1 aG).2 (by have:=(ke.1 aG).1;omega);omega
    ·rw[CG id h]at hm;exact au id m hm cl
  ·omega
 ·rcases zan id (T (p+1)).ag with h|h
  ·rw[xH id h]at hl;exact hw.gQ id l hl
  ·rw[CG id h]at hl;exact fC (b4.gQ id l hl) U.size
 ·rw[ha,xt];by_cases e:q=p
  ·subst e;rw[J]at aA;cases aA;rw[zab ⟨iK,by rw[b4.size];exact al t iK⟩];rcases aF with aF|aF
   ·exact aF.mono (amv _ (Nat.le_max_left _ _))
   ·rw[iK]at aF;cases aF
  ·rw[zaa (fun h=>e (D.dst q p y x k _ t aA J iK h.1))];rcases e5 with e5|h
   ·refine(b4.EB q y k t aA iK e5).mono (rX hle ?_);omega
   ·exact absurd h e
 ·rw[ha,xt,zaa (fun h=>gj p x _ J h.1 (.inr rfl))];exact b4.Bc t fun q y k aA iK e5=>gj q y k aA iK (.inl e5)
end
end Go.aj
namespace Go.aj
variable{X:Ctx}{call:bL}
variable{x:c7}
def aqo(h:x.sl=true):x.inPlace=true:=by cases x<;>first|rfl|cases h
def acL(h:x.tS=true):x.inPlace=true:=by cases x<;>first|rfl|cases h
def XV{op:Op}(dq:X.j1 op x=true)(J:x.sl=true∨x.tS=true)(c:Call):op≠.defer c:=by
 intro hc;rw[hc]at dq;cases vJ:x with
 |uc fn p q=>rw[vJ]at dq;cases fn<;>cases dq
 |vV p=>rw[vJ]at J;rcases J with h|h<;>cases h
 |refuse=>rw[vJ]at J;rcases J with h|h<;>cases h
 |qS p q=>rw[vJ]at J;rcases J with h|h<;>cases h
 |ext y=>rw[vJ]at dq;cases y<;>cases dq
 |_=>rw[vJ]at dq;cases dq
section
variable{aO:Nat}{ops:ap Oper}{L:ac (bE×cw)}{b6:ac Nat}{dU:ac Tmp}{ms:ac Nat}
variable{Z:Nat->Bool}{fr aC:aP}{st st':aw}{F:Nat->aP}{T:Nat->aw}{N:Nat->ac (an bD)}{V:Nat->be}{gX:bt}{hA:co}{E:Nat->Prop}{c:Nat}{ι:bt}{a:Act}{w:co}
variable{b:dK}{bq:Bool->ac Frame}{k:ac Item}{i:Nat}{rest:ac Nat}
def yT{x:bE}{o:Oper}{t:Bool}(h:nj X aO ops x o=true)(aa:cv ι fr a aO)(U:kN fr x.g t):Region.wanted o (yielded ops a.tmps)=t:=by
 rcases abR h aa U (by simp)with⟨e,hw⟩|⟨e,hw⟩
 ·cases e;exact hw
 ·cases e;exact hw
def j9.aal(b4:j9 X aO L F T V gX hA E c ι a w)(aN:jQ call Z L [st.h] fr st aC st' F T N V)(D:lH X aO ops L b6 dU ms)(h0:∀id,st.ag<=id->gX id=none)(aE:∀t∈dU,(F 0).tmp t=ih)
 (g0:∀p,E p->nw ops b6 E p) {p:Nat} {x:bE} {ga:cw} (J:L[p]? =some (x,ga)) (hr:nw ops b6 E p) (hn:¬E p) (gi:c<=p):
 cv (fw ι (T p).ag) ((F p).only ga.looks) ⟨a.tmps,[]⟩ aO∧bn X (fw ι (T p).ag) ⟨(T c).h,(T p).ag⟩ w:=by
 have fT:p<L.length:=(zae.1 J).1;refine⟨⟨fun t=> ?_,b4.size,trivial⟩,?_⟩
 ·rw[Yd];by_cases h:t∈ga.looks
  ·rw[zab h];exact b4.look aN D h0 aE g0 J hr hn (.inr h)
  ·rw[zaa h];exact .top _
 ·have kD:=aN.l4 D gi (by omega);refine bn.look (n:=(T c).ag) (ι:=fw ι (T c).ag) b4.wr (rX (.refl ι) kD) (fun id oB=> ?_) kD (fun id l hl=>b4.gQ id l (ke.1 hl).2);show(if id<(T p).ag then ι id else none)=none;rw[zaa (by omega)]
def afp(eL:nv X call)(b4:j9 X aO L F T V gX hA E c ι a w)(aN:jQ call Z L [st.h] fr st aC st' F T N V)(D:lH X aO ops L b6 dU ms)(h0:∀id,st.ag<=id->gX id=none)(aE:∀t∈dU,(F 0).tmp t=ih)
 (g0:∀p,E p->nw ops b6 E p) {p:Nat} (hp:p<L.length) (Aa:Z p=false) (nb:∀x c,L[p]? =some (x,c)->y6 call x c (F p) (T p)) (hi:b6[p]? =some i) (hr:nw ops b6 E p) (hn:¬E p) (hb:qI gX (F 0).b3 b.b3) (q9:kL b (F 0).ba gX bq) (iI:(F c).ba=(F 0).ba) (iJ:(F c).b3=(F 0).b3):
 ∃bT fD a' w',Steps X.P (lone (b.at a (.inRegion ops (i::rest)::k)) (bq (F c).cF) w) (lone (b.at a' (.inRegion ops rest::k)) (bq (F bT).cF) w')∧j9 X aO L F T V gX hA (Bx E p) bT fD a' w'∧
  (F bT).ba=(F 0).ba∧(F bT).b3=(F 0).b3:=by
 obtain⟨⟨x,ga⟩,J⟩:∃x,L[p]? =some x:=⟨_,bF hp⟩;obtain⟨o,ai,bI⟩:=D.op p i x ga hi J;obtain⟨lQ,kY⟩:=NW bI;have jr:p<ops.size:=by rw[<-D.tX];exact hp
 have gi:c<=p:=by
  rcases zan p c with h|h
  ·exact absurd (b4.low p h) hn
  ·exact h
 have ae:DStep call x ga (F p) (T p) (N p) (V p) (F (p+1)) (T (p+1)) (N (p+1)):=by
  rcases aN.step p x ga J with⟨_,ae⟩|⟨h,_⟩
  ·exact ae
  ·rw[Aa]at h;cases h
 have p9:=aN.l4 D (zag p) (by omega);rw[aN.t0]at p9;have tr:gX.le (fw ι (T p).ag):=by
  intro id l hl;refine ke.2 ⟨?_,b4.keeps.le _ _ hl⟩;rcases zan id st.ag with h|h
  ·omega
  ·rw[h0 id h]at hl;cases hl
 cases ga with
 |ez=>
  have xz:∀q,q<p->E q:=fun q hq=>D.before g0 p hr jr q (D.ez p x q J hq);obtain⟨jh,ho,yN,wL,wM⟩:=b4.upto aN D p gi (by omega) (fun r _ h=>xz r h);have aa:cv (fw ι (T p).ag) (F p) a aO:=⟨fun t=>b4.look aN D h0 aE g0 J hr hn (.inl rfl),b4.size,by rw[ho];exact b4.c1.mono (rX (.refl ι) (aN.l4 D gi (by omega)))⟩;rcases ae with⟨fB|⟨fB,u,bm,ll⟩,aF,av,gg,_⟩|⟨fB,eo,jC,_,av,_⟩
  ·have ng:=yT bI aa fB;have eR:=Jp (P:=X.P) (b:=b) (k:=k) (cs:=bq (F c).cF) (w:=w) (rest:=rest) ai ng;obtain⟨cr,cz,dT,jI⟩:=um (F p) x.d undef;obtain⟨fD,kz⟩:=b4.effect aN D J gi xz (aQ:=fw ι (T p).ag) (a':=a.put x.d undef) (w':=w) (v':=undef) kY (by rw[gg];exact jh) (.refl _ _) rfl (.inl (by rw[aF];exact bk.undef _)) (by
    rw[av,jI];have:(a.put x.d undef).defers=a.defers:=by cases x.d<;>rfl
    rw[this];exact aa.c1)
   refine⟨p+1,fD,_,w,?_,kz,?_,?_⟩
   ·rw[av,dT,yN,lQ];exact .one eR
   ·rw[av,cr,wL,iI]
   ·rw[av,cz,wM,iJ]
  ·exact absurd ll (nb x .ez J rfl fB u bm)
  ·have ng:=yT bI aa fB;obtain⟨aQ,a',w',eR,eD,ei,U,alO,al1,v',tv⟩:=YC (b:=b) (bq:=bq) (k:=k) (rest:=rest) bI eL ai ng aa jh (by rw[wM,iJ];exact hb.mono tr) (by rw[wL,iI];exact q9.mono tr) jC;have G2:=um ⟨(F p).t,eo.c1,eo.ba,eo.cF,eo.b3⟩ x.d (V p);have aF:bk aQ (V p) v'∨x.d=none:=by
    cases Dd:x.d with
    |none=>exact .inr rfl
    |some t=>
     left;have:=eD.tmp t;rw[rM,zab Dd,tv,<-lQ,xt,zab ⟨Dd,by rw[b4.size];exact kY t Dd⟩]at this;exact this
   obtain⟨fD,kz⟩:=b4.effect aN D J gi xz (aQ:=aQ) (a':=a') (w':=w') (v':=v') kY ei U (by rw[tv,lQ]) aF (by
    rw[av,G2.2.2.2];have:=eD.c1;rw[(um eo x.d (V p)).2.2.2]at this;exact this)
   refine⟨p+1,fD,a',w',?_,kz,?_,?_⟩
   ·rw[av,G2.2.2.1,<-yN];exact eR
   ·rw[av,G2.1];exact alO.trans (wL.trans iI)
   ·rw[av,G2.2.1];exact al1.trans (wM.trans iJ)
 |read n ts=>
  obtain⟨aG,aI⟩:=b4.aal aN D h0 aE g0 J hr hn gi;have GX:¬uP L F p:=fun⟨y,ED,aA,_⟩=>by rw[J]at aA;cases aA
  obtain⟨_,_,gg,ln⟩:=ae;rcases ln with⟨fB,aF⟩|⟨fB,my⟩
  ·have ng:=yT bI aG fB;have eR:=Jp (P:=X.P) (b:=b) (a:=a) (k:=k) (cs:=bq (F c).cF) (w:=w) (rest:=rest) ai ng;exact⟨c,ι,_,w,.one eR,by rw[<-lQ];exact b4.float D J (by simp) gi GX kY (by rw[aF];exact bk.undef _),iI,iJ⟩
  ·have ng:=yT bI aG fB;have akD:(List.range p).countP (fun q=>decide (c<=q)&&tm L q)<n+1:=by
    refine Nat.lt_succ_of_le (zai (List.countP_mono_left fun q hq hh=> ?_) (D.back p x n ts J));simp only[bX,decide_eq_true_eq]at hh⊢;refine⟨hh.2,?_⟩;cases G7:(ms.getD p 0).testBit q with
    |false=>rfl
    |true=>
     exfalso;have e5:=D.before g0 p hr jr q G7;have he:=hh.2;unfold tm at he;cases aA:L[q]? with
     |none=>rw[aA]at he;cases he
     |some y=>
      obtain⟨fl,ab7⟩:=y;rw[aA]at he;cases ab7 with
      |ez=>exact b4.DL q fl hh.1 e5 aA
      |hG _=>cases he
      |read _ _=>cases he
   obtain⟨hh,lN,dz,aq,e2⟩:=aak _ _ my _ akD;have bV:=aN.snap b4.start p gi (by omega);rw[bV]at aq;cases aq;have dq:=Ie bI;have oC:=D.rd p x n ts J;obtain⟨_,_,cL,_⟩:=NN dq aG aI e2 (aqo oC);obtain⟨_,_,v',fU,aF⟩:=cL oC;have C4:(execOp a.eval o).run X.P w= .ok (.value v') w:=fU;have eR:=O3 (b:=b) (a:=a) (k:=k) (cs:=bq (F c).cF) (rest:=rest) ai ng (.inr (XV dq (.inl oC))) C4;exact⟨c,ι,_,w,.one eR,by rw[<-lQ];exact b4.float D J (by simp) gi GX kY (by rw[gg];exact aF),iI,iJ⟩
 |hG ts=>
  obtain⟨aG,aI⟩:=b4.aal aN D h0 aE g0 J hr hn gi;obtain⟨_,_,ln⟩:=ae;rcases ln with⟨fB,aF,gg⟩|⟨fB,eo,jC⟩
  ·have ng:=yT bI aG fB;have eR:=Jp (P:=X.P) (b:=b) (a:=a) (k:=k) (cs:=bq (F c).cF) (w:=w) (rest:=rest) ai ng;have GX:¬uP L F p:=fun⟨y,ED,aA,ei⟩=>by
    rw[J]at aA;cases aA;have h1:hs ((F p).only ts) x.g (some true) (some false) none=some false:=fB;have h2:hs ((F p).only ts) x.g (some true) (some false) none=some true:=ei;rw[h1]at h2;cases h2
   exact⟨c,ι,_,w,.one eR,by rw[<-lQ];exact b4.float D J (by simp) gi GX kY (by rw[aF];exact bk.undef _),iI,iJ⟩
  ·have ng:=yT bI aG fB;have ki:=D.hG p x ts J;have dq:=Ie bI;obtain⟨H3,alD,_,gg,eu⟩:=PY (h0:=(T p).h) (ag:=(T p).ag) ki jC;obtain⟨_,_,_,e4⟩:=NN dq aG aI (eu (T c).h) (acL ki);obtain⟨oF,O,ex,v',w',aq,e2,fU,L5,aF,ei,U⟩:=e4 ki;have k1:(some H3:am bD)=some oF:=by
    have:=congrArg (fun s:aw=>s.h.get (T p).ag) aq;simp only[an.ep,if_true]at this;exact this
   cases k1;have alC:jx X (hU (fw ι (T p).ag) (T p).ag ⟨w.heap.size,0,ex,id⟩) w' H3 ⟨w.heap.size,0,ex,id⟩:=by
    obtain⟨l,hl,hm⟩:=ei.eE (T p).ag H3 (by show((T c).h.set (T p).ag H3).get (T p).ag=_;rw[an.ep,zab rfl]) alD;have:hU (fw ι (T p).ag) (T p).ag ⟨w.heap.size,0,ex,id⟩ (T p).ag=some ⟨w.heap.size,0,ex,id⟩:=zab rfl;have e:=this.symm.trans hl;cases e;exact hm
   have C4:(execOp a.eval o).run X.P w= .ok (.value v') w':=fU;have eR:=O3 (b:=b) (a:=a) (k:=k) (cs:=bq (F c).cF) (rest:=rest) ai ng (.inr (XV dq (.inr ki))) C4;exact⟨c,_,_,w',.one eR,by rw[<-lQ];exact b4.agx aN D J gi hn kY gg (by rfl) (by exact MK) L5 U.gN aF alC,iI,iJ⟩
def afn(eL:nv X call)(b4:j9 X aO L F T V gX hA E c ι a w)(aN:jQ call Z L [st.h] fr st aC st' F T N V)(D:lH X aO ops L b6 dU ms)(h0:∀id,st.ag<=id->gX id=none)(aE:∀t∈dU,(F 0).tmp t=ih)
 (g0:∀p,E p->nw ops b6 E p) {p:Nat} (hp:p<L.length) {x:bE} (J:L[p]? =some (x,.ez)) (hi:b6[p]? =some i) (hr:nw ops b6 E p) (hn:¬E p) (iI:(F c).ba=(F 0).ba) (iJ:(F c).b3=(F 0).b3)
 (fB:kN (F p) x.g true) (xB:x.o.mX=true) {u:be} {aaY:aw} (jC:bP call x.o (F p) (T p)= .ba u aaY):
 ∃aQ v' w',Steps X.P (lone (b.at a (.inRegion ops (i::rest)::k)) (bq (F p).cF) w) (lone (b.panics a (.inRegion ops (i::rest)::k) v') (bq (F p).cF) w')∧bk aQ u v'∧bn X aQ aaY w'∧fz gX aQ hA w'∧cv aQ (F p) a aO∧
  (F c).cF=(F p).cF∧(F p).ba=(F 0).ba∧(F p).b3=(F 0).b3:=by
 obtain⟨o,ai,bI⟩:=D.op p i x .ez hi J;have jr:p<ops.size:=by rw[<-D.tX];exact hp
 have gi:c<=p:=by
  rcases zan p c with h|h
  ·exact absurd (b4.low p h) hn
  ·exact h
 have xz:∀q,q<p->E q:=fun q hq=>D.before g0 p hr jr q (D.ez p x q J hq);obtain⟨jh,ho,yN,wL,wM⟩:=b4.upto aN D p gi (by omega) (fun r _ h=>xz r h);have aa:cv (fw ι (T p).ag) (F p) a aO:=⟨fun t=>b4.look aN D h0 aE g0 J hr hn (.inl rfl),b4.size,by rw[ho];exact b4.c1.mono (rX (.refl ι) (aN.l4 D gi (by omega)))⟩;have ng:=yT bI aa fB;obtain⟨aQ,v',w',ae,aF,ei,U⟩:=YD (b:=b) (k:=k) (rest:=rest) (cs:=bq (F p).cF) bI eL ai ng aa jh xB jC;have p9:=aN.l4 D (zag p) (by omega);rw[aN.t0]at p9;have tr:gX.le (fw ι (T p).ag):=by
  intro id l hl;refine ke.2 ⟨?_,b4.keeps.le _ _ hl⟩;rcases zan id st.ag with h|h
  ·omega
  ·rw[h0 id h]at hl;cases hl
 have VU:fz gX (fw ι (T p).ag) hA w:=⟨tr,b4.keeps.size,b4.keeps.kept,fun id l hl=>b4.keeps.new id l (ke.1 hl).2,b4.keeps.gN⟩;exact⟨aQ,v',w',ae,aF,ei,VU.trans U,aa.mono U.le,yN.symm,wL.trans iI,wM.trans iJ⟩
end
theorem Q8{α:Type}{p q:α->Bool}:∀{l:ac α},(∀x∈l,p x=true->q x=true)->(∃x∈l,q x=true∧p x=false)->l.countP p<l.countP q
 |[],_,⟨x,J,_⟩=>by cases J
 |y::l,h,⟨x,J,h1,h2⟩=>by
  have hle:l.countP p<=l.countP q:=List.countP_mono_left fun z aE=>h z (zaK _ aE);rw[zeg,zeg];rcases zao.1 J with rfl|J
  ·simp only[h1,h2,if_true];simp;omega
  ·have:=Q8 (fun z aE=>h z (zaK _ aE)) ⟨x,J,h1,h2⟩;have aA:=h y zbt;cases hp:p y with
   |false=>simp;split<;>omega
   |true=>simp[aA hp];omega
section
variable{aO:Nat}{ops:ap Oper}{L:ac (bE×cw)}{b6:ac Nat}{dU:ac Tmp}{ms:ac Nat}
variable{Z:Nat->Bool}{fr aC:aP}{st st':aw}{F:Nat->aP}{T:Nat->aw}{N:Nat->ac (an bD)}{V:Nat->be}{gX:bt}{hA:co}
variable{b:dK}{bq:Bool->ac Frame}{k:ac Item}
variable{listed:ap Bool}{i:Nat}
def lG(b6:ac Nat)(listed:ap Bool):Nat->Prop:=fun p=>∃i,b6[p]? =some i∧listed.getD i false=true
def ajt:listed.getD i false=true->listed.getD i true=true:=by
 intro h;rcases zan i listed.size with hi|hi
 ·simpa[hi]using h
 ·simp[hi]at h
def Ve(hi:i<listed.size)(h:listed.getD i false≠true):listed.getD i true=false:=by
 simpa[hi]using h
def lH.acM(D:lH X aO ops L b6 dU ms)(eM:listed.size=ops.size)(h:Region.ready .any ops listed=[]):∀p,p<L.length->lG b6 listed p:=by
 intro p
 induction p using Nat.strongRecOn with
 |_ p aZ=>
  intro hp;have jr:p<ops.size:=by rw[<-D.tX];exact hp
  have hi:b6[p]? =some (b6[p]'(by rw[D.x3];exact jr)):=bF _;obtain⟨⟨x,ga⟩,J⟩:∃x,L[p]? =some x:=⟨_,bF hp⟩;obtain⟨o,ai,_⟩:=D.op p _ x ga hi J;refine⟨_,hi,?_⟩;by_cases hl:listed.getD (b6[p]'(by rw[D.x3];exact jr)) false=true
  ·exact hl
  ·exfalso;have aV:=(zbk.1 ai).1;have z3:(b6[p]'(by rw[D.x3];exact jr))∈Region.ready .any ops listed:=by
    rw[mem_ready];refine⟨Ve (by rw[eM];exact aV) hl,o,ai,fun e he hb=> ?_⟩;obtain⟨q,hq,alS⟩:=D.afB p _ o hi ai e he hb;obtain⟨j,hj,hX⟩:=aZ q hq (by omega);rw[alS]at hj;cases hj;exact hX
   rw[h]at z3;cases z3
def afm(eL:nv X call)(aN:jQ call Z L [st.h] fr st aC st' F T N V)(D:lH X aO ops L b6 dU ms)(h0:∀id,st.ag<=id->gX id=none)(aE:∀t∈dU,(F 0).tmp t=ih)
 (hb:qI gX (F 0).b3 b.b3) (q9:kL b (F 0).ba gX bq) (n:Nat) (nb:JT call Z L F T n) (LM:∀p,Z p=true->n<L.length∧(ms.getD p 0).testBit n=true):∀(fuel t:Nat) (listed:ap Bool) (c:Nat) (ι:bt) (a:Act) (w:co),listed.size=ops.size->(List.range ops.size).countP (fun i=> !listed.getD i true)<=fuel->
 (∀p,lG b6 listed p->nw ops b6 (lG b6 listed) p)->¬lG b6 listed n->j9 X aO L F T V gX hA (lG b6 listed) c ι a w->(F c).ba=(F 0).ba->(F c).b3=(F 0).b3->
 (∃lf bT fD a' w',Steps X.P (lone (b.at a (.inRegion ops (Region.linearise.go .any ops fuel t listed [])::k)) (bq (F c).cF) w) (lone (b.at a' (.inRegion ops []::k)) (bq (F bT).cF) w')∧
  (∀p,p<L.length->lf p)∧j9 X aO L F T V gX hA lf bT fD a' w'∧(F bT).ba=(F 0).ba∧(F bT).b3=(F 0).b3∧(lf n->lG b6 listed n))∨
 (∃lf bT fD a' w' i rest,Steps X.P (lone (b.at a (.inRegion ops (Region.linearise.go .any ops fuel t listed [])::k)) (bq (F c).cF) w) (lone (b.at a' (.inRegion ops (i::rest)::k)) (bq (F bT).cF) w')∧
  n<L.length∧b6[n]? =some i∧(∀p,lf p->nw ops b6 lf p)∧nw ops b6 lf n∧¬lf n∧j9 X aO L F T V gX hA lf bT fD a' w'∧(F bT).ba=(F 0).ba∧(F bT).b3=(F 0).b3):=by
 intro fuel
 induction fuel with
 |zero=>
  intro t listed c ι a w eM CC tz GG b4 iI iJ;refine .inl ⟨lG b6 listed,c,ι,a,w,.refl _ _,fun p hp=> ?_,b4,iI,iJ,id⟩;have jr:p<ops.size:=by rw[<-D.tX];exact hp
  have hi:b6[p]? =some (b6[p]'(by rw[D.x3];exact jr)):=bF _;obtain⟨⟨x,ga⟩,J⟩:∃x,L[p]? =some x:=⟨_,bF hp⟩;obtain⟨o,ai,_⟩:=D.op p _ x ga hi J;have aV:=(zbk.1 ai).1;refine⟨_,hi,?_⟩;have h1:=List.countP_eq_zero.1 (Nat.le_zero.1 CC) _ (zcW.2 aV);by_cases hl:listed.getD (b6[p]'(by rw[D.x3];exact jr)) false=true
  ·exact hl
  ·rw[Ve (by rw[eM];exact aV) hl]at h1;simp at h1
 |succ fuel aZ=>
  intro t listed c ι a w eM CC tz GG b4 iI iJ;simp only[Region.linearise.go];change(∃lf bT fD a' w',Steps X.P (lone (b.at a (.inRegion ops (match(Region.ready .any ops listed)[t%(Region.ready .any ops listed).length]? with
   |some i=>Region.linearise.go .any ops fuel (t/(Region.ready .any ops listed).length) (listed.setIfInBounds i true) [i]
   |none=>[].reverse)::k)) (bq (F c).cF) w) _∧_)∨(∃lf bT fD a' w' i rest,Steps X.P (lone (b.at a (.inRegion ops (match(Region.ready .any ops listed)[t%(Region.ready .any ops listed).length]? with
   |some i=>Region.linearise.go .any ops fuel (t/(Region.ready .any ops listed).length) (listed.setIfInBounds i true) [i]
   |none=>[].reverse)::k)) (bq (F c).cF) w) _∧_)
  cases nM:(Region.ready .any ops listed)[t%(Region.ready .any ops listed).length]? with
  |none=>
   have CV:Region.ready .any ops listed=[]:=by
    cases oC:Region.ready .any ops listed with
    |nil=>rfl
    |cons x xs=>
     rw[oC]at nM;have aV:t%(x::xs).length<(x::xs).length:=zaf _ (by simp);simp at nM;simp at aV;omega
   exact .inl ⟨lG b6 listed,c,ι,a,w,.refl _ _,D.acM eM CV,b4,iI,iJ,id⟩
  |some i=>
   simp only[];rw[linearise_go_acc,List.reverse_singleton,List.singleton_append];obtain⟨MD,o,ai,eu⟩:=mem_ready.1 (zaz nM);have aV:=(zbk.1 ai).1;obtain⟨p,hp⟩:=D.as3 i aV;have Ms:p<L.length:=by rw[D.tX,<-D.x3];exact(zae.1 hp).1
   have hn:¬lG b6 listed p:=by
    rintro⟨j,hj,hX⟩;rw[hp]at hj;cases hj;rw[ajt hX]at MD;cases MD
   have hr:nw ops b6 (lG b6 listed) p:=by
    intro iv bf ec iH e he tx r tL;rw[hp]at ec;cases ec;rw[ai]at iH;cases iH;exact⟨_,tL,eu e he tx⟩
   by_cases ll:p=n
   ·subst ll;exact .inr ⟨lG b6 listed,c,ι,a,w,i,_,.refl _ _,Ms,hp,tz,hr,hn,b4,iI,iJ⟩
   have Aa:Z p=false:=by
    cases ams:Z p with
    |false=>rfl
    |true=>exact absurd (D.before tz p hr (by rw[<-D.tX];exact Ms) n (LM p ams).2) GG
   obtain⟨bT,fD,a',w',ae,kz,alL,al0⟩:=afp (b:=b) (bq:=bq) (k:=k) (rest:=Region.linearise.go .any ops fuel (t/(Region.ready .any ops listed).length) (listed.setIfInBounds i true) []) eL b4 aN D h0 aE tz Ms Aa (fun x c J=>nb p x c ll Aa J) hp hr hn hb q9 iI iJ;have g0:Bx (lG b6 listed) p=lG b6 (listed.setIfInBounds i true):=by
    funext q;apply propext;constructor
    ·rintro(⟨j,hj,hX⟩|rfl)
     ·exact⟨j,hj,getD_set_true hX⟩
     ·exact⟨i,hp,by simp[eM,aV]⟩
    ·rintro⟨j,hj,hX⟩;by_cases e:j=i
     ·subst e;exact .inr (D.inj q p j hj hp)
     ·left;refine⟨j,hj,?_⟩;rw[getD_set_ne false (Ne.symm e)]at hX;exact hX
   rw[g0]at kz;have akB:∀p,lG b6 (listed.setIfInBounds i true) p->nw ops b6 (lG b6 (listed.setIfInBounds i true)) p:=by
    rw[<-g0];rintro q (hq|rfl) iv bf ec iH e he tx r tL
    ·exact .inl (tz q hq iv bf ec iH e he tx r tL)
    ·exact .inl (hr iv bf ec iH e he tx r tL)
   have akJ:¬lG b6 (listed.setIfInBounds i true) n:=by
    rw[<-g0];rintro(h|h)
    ·exact GG h
    ·exact ll h.symm
   have akC:(List.range ops.size).countP (fun j=> !(listed.setIfInBounds i true).getD j true)<=fuel:=by
    refine Nat.le_of_lt_succ (fC (Q8 (fun j _ hj=> ?_) ⟨i,zcW.2 aV,?_,?_⟩) CC)
    ·by_cases e:j=i
     ·subst e;simp[eM,aV]at hj
     ·rw[getD_set_ne true (Ne.symm e)]at hj;exact hj
    ·rw[MD];rfl
    ·simp[eM,aV]
   rcases aZ (t/(Region.ready .any ops listed).length) (listed.setIfInBounds i true) bT fD a' w' (by simp[eM]) akC akB akJ kz alL al0 with⟨lf,KD,PF,J1,jv,eV,Gw,akf,alI,alV,akF⟩|⟨lf,KD,PF,J1,jv,iv,aqv,eV,alY⟩
   ·refine .inl ⟨lf,KD,PF,J1,jv,ae.trans eV,Gw,akf,alI,alV,fun h=> ?_⟩;have:=akF h;rw[<-g0]at this;rcases this with h|h
    ·exact h
    ·exact absurd h.symm ll
   ·exact .inr ⟨lf,KD,PF,J1,jv,iv,aqv,ae.trans eV,alY⟩
def afo{ι:bt}{a:Act}{w:co}{id:Nat}(hm:X.P.follows .mixedOrders=true)(eL:nv X call)(D:lH X aO ops L b6 dU ms)(aa:cv ι fr a aO)(hw:bn X ι st w)(hb:qI ι fr.b3 b.b3)(hr:kL b fr.ba ι bq):
 gr X b aO bq (lone (b.at a (.code (.region id ops true)::k)) (bq fr.cF) w) k fr ι w (hT call (tc call ms (df L)) L [st.h] (pv fr dU) st):=by
 cases jC:hT call (tc call ms (df L)) L [st.h] (pv fr dU) st with
 |no=>trivial
 |out e aC st'=>
  obtain⟨Z,F,T,N,V,aN,xD⟩:=af5 _ _ _ _ _ _ _ jC;obtain⟨sU,yZ,EV,auA,auB⟩:=YR dU fr
  let gE:co:={w with drawn:=w.drawn+1}
  have pg:bn X ι st gE:=hw.I7 X rfl;have mo:F 0=pv fr dU:=aN.f0;have GJ:∀id,st.ag<=id->ι id=none:=fun id h=>(hw.fresh id h).1;have oA:fw ι (T 0).ag=ι:=by rw[aN.t0];exact Rd GJ
  have sc:∀p,¬lG b6 (Array.replicate ops.size false) p:=by
   rintro p ⟨i,_,hi⟩;by_cases h:i<ops.size<;>simp[h]at hi
  have b4:j9 X aO L F T V ι gE (lG b6 (Array.replicate ops.size false)) 0 ι a gE:=by
   refine⟨fun p hp=>by omega,zag _,.inl rfl,fun p x _ h=>absurd h (sc p),by rw[oA,aN.t0];exact pg,fun id l hl=>.inl ?_,fun p _ h=>absurd h (sc p),pg.gQ,.refl _ _,aa.size,by rw[oA,mo,auB];exact aa.c1,fun p x ga t _ _ h=>absurd h (sc p),fun t _=> ?_⟩
   ·rw[aN.t0];rcases zan id st.ag with h|h
    ·exact h
    ·rw[GJ id h]at hl;cases hl
   ·rw[mo,sU];by_cases h:t∈dU
    ·rw[zab h];exact .top _
    ·rw[zaa h];exact aa.tmp t
  have gT:=asG (P:=X.P) (b:=b) (a:=a) (k:=k) (cs:=bq fr.cF) (w:=w) (ops:=ops) (id:=id);have al2:Region.schedule (X.P.follows .mixedOrders) ops (w.tape w.drawn (.order b.fn id))=Region.linearise.go .any ops ops.size (w.tape w.drawn (.order b.fn id)) (Array.replicate ops.size false) []:=by
   simp only[Region.schedule,hm,Bool.true_or,if_true];rfl
  rw[al2]at gT;have xV:bq (F 0).cF=bq fr.cF:=by rw[mo,auA]
  have tG:=fun n nb LM=>afm (b:=b) (bq:=bq) (k:=k) eL aN D GJ (fun t h=>by rw[mo,sU,zab h]) (by rw[mo,EV];exact hb) (by rw[mo,yZ];exact hr) n nb LM ops.size (w.tape w.drawn (.order b.fn id)) (Array.replicate ops.size false) 0 ι a gE (by simp) (by
   refine zai List.countP_le_length ?_;simp) (fun p h=>absurd h (sc p)) (sc n) b4 rfl rfl
  rw[xV]at tG;rcases xD with⟨rfl,Hf,nb,fH,amd⟩|⟨n,x,u,J,amu,nb,fB,xB,rfl,rfl,lV⟩
  case inr=>
   have V2:=(zae.1 J).1;rcases tG n nb (fun p hp=>⟨V2,(amu p hp).2⟩)with⟨lf,bT,fD,a',w',ae,eu,kz,lk,nc,g6⟩|⟨lf,bT,fD,a',w',i,rest,ae,p8,hi,tz,oC,alx,kz,lk,nc⟩
   ·exact absurd (g6 (eu n V2)) (sc n)
   ·obtain⟨aQ,v',jv,ln,aF,Db,jD,CE,aq,e2,bV⟩:=afn (b:=b) (bq:=bq) (k:=k) (rest:=rest) eL kz aN D GJ (fun t h=>by rw[mo,sU,zab h]) tz p8 J hi oC alx lk nc fB xB lV;rw[aq]at ae;exact⟨aQ,a',jv,CE,Db,fz.trans (w':=gE) (fz.I7 ι rfl) jD,by rw[e2,mo,yZ],by rw[bV,mo,EV],v',_,aF,(Steps.head gT ae).trans ln⟩
  obtain⟨lf,bT,fD,a',w',ae,eu,kz,lk,nc,_⟩:∃lf bT fD a' w',_:=by
   rcases tG L.length nb (fun p hp=>by rw[Hf p]at hp;cases hp)with h|⟨_,_,_,_,_,_,_,_,p8,_⟩
   ·exact h
   ·exact absurd p8 (Nat.lt_irrefl _)
  obtain⟨jh,ho,yN,wL,wM⟩:=kz.upto aN D L.length kz.w8 (bY _) (fun r _ h=>eu r h);have C6:fw fD (T L.length).ag=fD:=by
   refine Rd fun id oB=> ?_;cases hl:fD id with
   |none=>rfl
   |some l=>
    exfalso;rcases kz.lM id l hl with h|⟨p,h1,h2,h3,au,aW⟩
    ·have:=aN.l4 D kz.w8 (bY _);omega
    ·obtain⟨o,l',ch,_⟩:=kz.gm p h1 h3 au;have dt:(T (p+1)).ag=(T p).ag+1:=by rw[ch]
     have:=aN.l4 D (p:=p+1) (q:=L.length) h2 (bY _);omega
  rw[C6,amd]at jh;rw[fH]at ho yN wL wM;have eD:cv fD aC a' aO:=by
   refine⟨fun t=> ?_,kz.size,by rw[ho];exact kz.c1.mono (Re _ _)⟩;rw[<-fH];by_cases Wl:∃(q:Nat) (y:bE) (d:cw),L[q]? =some (y,d)∧y.d=some t
   ·obtain⟨q,y,d,aA,al⟩:=Wl;have hq:=(zae.1 aA).1;rw[aN.O7 D aA al L.length hq (bY _)];exact(kz.EB q y d t aA al (eu q hq)).mono (Re _ _)
   ·have gj:∀(q:Nat) en bT,L[q]? =some (en,bT)->en.d≠some t:=fun q en bT bJ g6=>Wl ⟨q,en,bT,bJ,g6⟩;rw[aN.Jw t L.length (bY _) fun q en bT _ bJ=>gj q en bT bJ];exact(kz.Bc t fun q en bT bJ g6=>absurd g6 (gj q en bT bJ)).mono kz.keeps.le
  refine⟨fD,a',w',eD,jh,fz.trans (w':=gE) (fz.I7 ι rfl) kz.keeps,?_,?_,?_⟩
  ·rw[wL,lk,mo,yZ]
  ·rw[wM,nc,mo,EV]
  ·rw[<-yN]at ae;exact(Steps.head gT ae).trans (.one aaR)
end
end Go.aj
namespace Go.aj
variable{X:Ctx}
abbrev uQ:=Nat×(bE×cw)×Nat×Nat
def qB:Nat->ac (bE×cw)->ac Nat->ac Nat->ac uQ
 |p,a::L,i::b6,m::ms=>(p,a,i,m)::qB (p+1) L b6 ms
 |_,_,_,_=>[]
theorem aac:∀(L:ac (bE×cw)) (b6 ms:ac Nat) (mJ p:Nat) {a:bE×cw} {i m:Nat},L[p]? =some a->b6[p]? =some i->ms[p]? =some m->(mJ+p,a,i,m)∈qB mJ L b6 ms
 |[],_,_,_,p,_,_,_,h,_,_=>by simp at h
 |_::_,[],_,_,p,_,_,_,_,h,_=>by simp at h
 |_::_,_::_,[],_,p,_,_,_,_,_,h=>by simp at h
 |a'::L,iv::b6,fj::ms,mJ,p,a,i,m,h1,h2,h3=>by
  cases p with
  |zero=>
   simp at h1 h2 h3;subst h1 h2 h3;exact zbt
  |succ p=>
   have:=aac L b6 ms (mJ+1) p (a:=a) (i:=i) (m:=m) (by simpa using h1) (by simpa using h2) (by simpa using h3);rw[show mJ+(p+1)=mJ+1+p by omega];exact zaK _ this
theorem aab:∀(L:ac (bE×cw)) (b6 ms:ac Nat) (mJ:Nat) {r:uQ},r∈qB mJ L b6 ms->∃p:Nat,r.1=mJ+p∧L[p]? =some r.2.1∧b6[p]? =some r.2.2.1∧ms[p]? =some r.2.2.2
 |[],_,_,_,_,h=>by simp[qB]at h
 |_::_,[],_,_,_,h=>by simp[qB]at h
 |_::_,_::_,[],_,_,h=>by simp[qB]at h
 |a'::L,iv::b6,fj::ms,mJ,r,h=>by
  simp only[qB]at h;rcases zao.1 h with rfl|h
  ·exact⟨0,rfl,rfl,rfl,rfl⟩
  ·obtain⟨p,h1,h2,h3,au⟩:=aab L b6 ms (mJ+1) h;exact⟨p+1,by omega,h2,h3,au⟩
def ya(rows:ac uQ)(p:Nat):ac Edge->am Nat
 |[]=>some 0
 |e::es=>if Region.binds .any e then
  match rows.find? (fun r=>Nat.beq r.2.2.1 e.on),ya rows p es with
  |some r,some m=>if Nat.ble (Nat.succ r.1) p then some (m|||((1<<<r.1)|||r.2.2.2))else none
  |_,_=>none
  else ya rows p es
theorem HI{rows:ac uQ}{p:Nat}:∀(es:ac Edge) (m:Nat),ya rows p es=some m->
 (∀e∈es,Region.binds .any e=true->∃r∈rows,r.2.2.1=e.on∧r.1<p)∧
 (∀q,m.testBit q=true->∃e∈es,Region.binds .any e=true∧∃r∈rows,r.2.2.1=e.on∧r.1<p∧(q=r.1∨r.2.2.2.testBit q=true))
 |[],m,h=>by
  simp only[ya,Option.some.injEq]at h;subst h;exact⟨fun e he=>by simp at he,fun q hq=>by simp at hq⟩
 |e::es,m,h=>by
  simp only[ya]at h;by_cases hb:Region.binds .any e=true
  ·rw[zab hb]at h;split at h
   ·rename_i r fj hr lU;split at h
    ·rename_i aV;cases h;obtain⟨i1,i2⟩:=HI es fj lU;have MA:=zdw hr;have xS:r.2.2.1=e.on:=by
      have:=zdx hr;exact ek this
     have C3:r.1<p:=pO.1 aV;refine⟨fun cj mu cU=> ?_,fun q hq=> ?_⟩
     ·rcases zao.1 mu with rfl|mu
      ·exact⟨r,MA,xS,C3⟩
      ·exact i1 cj mu cU
     ·rw[Nat.testBit_or,Nat.testBit_or,zdz,zdz]at hq;rcases hq with hq|hq|hq
      ·obtain⟨cj,mu,h1,h2⟩:=i2 q hq;exact⟨cj,zaK _ mu,h1,h2⟩
      ·rw[Nat.one_shiftLeft,Nat.testBit_two_pow]at hq;exact⟨e,zbt,hb,r,MA,xS,C3,.inl (zbF hq).symm⟩
      ·exact⟨e,zbt,hb,r,MA,xS,C3,.inr hq⟩
    ·cases h
   ·cases h
  ·rw[zaa hb]at h;obtain⟨i1,i2⟩:=HI es m h;refine⟨fun cj mu cU=> ?_,fun q hq=> ?_⟩
   ·rcases zao.1 mu with rfl|mu
    ·exact absurd cU hb
    ·exact i1 cj mu cU
   ·obtain⟨cj,mu,h1,h2⟩:=i2 q hq;exact⟨cj,zaK _ mu,h1,h2⟩
def Ry(d:am Tmp)(t:Tmp):Bool:=match d with|some u=>Nat.beq u t|none=>false
def tw(ts:ac Tmp)(t:Tmp):Bool:=ts.any (Nat.beq t)
def Gy{ts:ac Tmp}{t:Tmp}:tw ts t=true↔t∈ts:=by
 unfold tw;rw[zeh];constructor
 ·rintro⟨u,hu,h⟩;rw[eI h];exact hu
 ·intro h;exact⟨t,h,zaL t⟩
def En(X:Ctx)(aO:Nat)(ops:ap Oper)(L:ac (bE×cw))(rows:ac uQ)(r:uQ):Bool:=
 (match ops[r.2.2.1]? with
  |some o=>nj X aO ops r.2.1.1 o&&(match ya rows r.1 o.after.toList with|some m=>Nat.beq m r.2.2.2|none=>false)
  |none=>false)&&
 (match r.2.1.2 with
  |.ez=>Nat.beq r.2.2.2 (2^r.1-1)
  |.hG _=>r.2.1.1.o.tS
  |.read n _=>r.2.1.1.o.sl&&Nat.ble ((List.range r.1).countP (fun q=>tm L q&& !r.2.2.2.testBit q)) n)
def AJ(dU:ac Tmp)(r s:uQ):Bool:=
 (!Nat.beq r.2.2.1 s.2.2.1||Nat.beq r.1 s.1)&&
 (match s.2.1.1.d with
  |none=>true
  |some t=>
   (!Ry r.2.1.1.d t||Nat.beq r.1 s.1)&&
   (!Nat.ble (Nat.succ r.1) s.1||tw dU t|| !(r.2.1.2.x1||tw r.2.1.2.looks t)||s.2.2.2.testBit r.1)&&
   (!Nat.ble (Nat.succ s.1) r.1|| !tw r.2.1.2.looks t||r.2.2.2.testBit s.1))
def FT(X:Ctx)(aO:Nat)(ops:ap Oper)(L:ac (bE×cw))(b6:ac Nat)(dU:ac Tmp)(ms:ac Nat):Bool:=
 (fun rows=>Nat.beq L.length ops.size&&Nat.beq b6.length ops.size&&Nat.beq ms.length ops.size&&(List.range ops.size).all (fun i=>tw b6 i)&&rows.all (En X aO ops L rows)&&rows.all (fun r=>rows.all (AJ dU r))) (qB 0 L b6 ms)
def afl{aO:Nat}{ops:ap Oper}{L:ac (bE×cw)}{b6:ac Nat}{dU:ac Tmp}{ms:ac Nat}(h:FT X aO ops L b6 dU ms=true):lH X aO ops L b6 dU ms:=by
 unfold FT at h;simp only[bX]at h;obtain⟨⟨⟨⟨⟨h1,h2⟩,h3⟩,au⟩,aW⟩,ch⟩:=h;have aq:=eI h1;have e2:=eI h2;have bV:=eI h3;rw[zbg]at au aW ch;have jX:∀(p:Nat) a i,L[p]? =some a->b6[p]? =some i->(p,a,i,ms.getD p 0)∈qB 0 L b6 ms:=by
  intro p a i ha hi;have hp:=(zae.1 ha).1;have hm:ms[p]? =some (ms.getD p 0):=by
   have:p<ms.length:=by omega
   simp[this]
  have:=aac L b6 ms 0 p ha hi hm
  rwa [zaw]at this
 have kC:∀p:Nat,p<L.length->∃i,b6[p]? =some i:=fun p hp=>⟨_,bF (by omega)⟩;have iZ:∀p i:Nat,b6[p]? =some i->∃a,L[p]? =some a:=fun p i hi=>⟨_,bF (by have:=(zae.1 hi).1;omega)⟩;have bI:∀(p:Nat) a i,L[p]? =some a->b6[p]? =some i->En X aO ops L (qB 0 L b6 ms) (p,a,i,ms.getD p 0)=true:=fun p a i ha hi=>aW _ (jX p a i ha hi);have G1:∀(p:Nat) a i (q:Nat) b j,L[p]? =some a->b6[p]? =some i->L[q]? =some b->b6[q]? =some j->AJ dU (p,a,i,ms.getD p 0) (q,b,j,ms.getD q 0)=true:=by
  intro p a i q b j ha hi hb hj;have:=ch _ (jX p a i ha hi);rw[zbg]at this;exact this _ (jX q b j hb hj)
 have V0:∀(p i:Nat) a o,L[p]? =some a->b6[p]? =some i->ops[i]? =some o->nj X aO ops a.1 o=true∧∃m,ya (qB 0 L b6 ms) p o.after.toList=some m∧m=ms.getD p 0:=by
  intro p i a o ha hi ai;have:=bI p a i ha hi;unfold En at this;simp only[ai,bX]at this;refine⟨this.1.1,?_⟩;have dt:=this.1.2;split at dt
  ·rename_i m hm;exact⟨m,hm,eI dt⟩
  ·cases dt
 have xy:∀{r:uQ} {p:Nat},r∈qB 0 L b6 ms->∃q:Nat,r.1=q∧b6[q]? =some r.2.2.1∧ms.getD q 0=r.2.2.2:=by
  intro r p hr;obtain⟨q,aG,aI,a4,b2⟩:=aab L b6 ms 0 hr;exact⟨q,by omega,a4,by simp[List.getD,b2]⟩
 have GC:∀(p i:Nat) a,L[p]? =some a->b6[p]? =some i->(match a.2 with|.ez=>Nat.beq (ms.getD p 0) (2^p-1)|.hG _=>a.1.o.tS|.read n _=>a.1.o.sl&&Nat.ble ((List.range p).countP (fun q=>tm L q&& !(ms.getD p 0).testBit q)) n)=true:=by
  intro p i a ha hi;have:=bI p a i ha hi;unfold En at this;rw[bX]at this;exact this.2
 refine⟨aq,e2,fun p i x c hi J=> ?_,fun p x ts J=> ?_,fun p x n ts J=> ?_,fun p q i hp hq=> ?_,fun i hi=> ?_,fun p i o hi ai e he hb=> ?_,fun p i o q hi ai hq=> ?_,fun p x q J hq=> ?_,fun p x n ts J=> ?_,fun p q x y c d t J aA Dd iK=> ?_,fun p q x y c d t J aA Mv iK G9 hl=> ?_,fun p q x y c d t J aA xQ iK hl=> ?_⟩
 ·have:=bI p (x,c) i J hi;unfold En at this;rw[bX]at this;have dt:=this.1;split at dt
  ·rename_i o ai;rw[bX]at dt;exact⟨o,ai,dt.1⟩
  ·cases dt
 ·obtain⟨i,hi⟩:=kC p (zae.1 J).1;exact GC p i _ J hi
 ·obtain⟨i,hi⟩:=kC p (zae.1 J).1;have:=GC p i _ J hi;simp only[bX]at this;exact this.1
 ·obtain⟨a,ha⟩:=iZ p i hp;obtain⟨b,hb⟩:=iZ q i hq;have:=G1 p a i q b i ha hp hb hq;unfold AJ at this;simp only[bX,zdz]at this;rcases this.1 with h|h
  ·simp at h
  ·exact eI h
 ·have:=au i (zcW.2 hi);have hm:=Gy.1 this;obtain⟨p,hp,he⟩:=List.mem_iff_getElem.1 hm;exact⟨p,by rw[bF hp,he]⟩
 ·obtain⟨a,ha⟩:=iZ p i hi;obtain⟨_,m,hm,_⟩:=V0 p i a o ha hi ai;obtain⟨r,hr,dt,fS⟩:=(HI _ _ hm).1 e (by simpa using he) hb;obtain⟨q,aG,aI,_⟩:=xy (p:=0) hr;exact⟨q,by omega,by rw[aI,dt]⟩
 ·obtain⟨a,ha⟩:=iZ p i hi;obtain⟨_,m,hm,rfl⟩:=V0 p i a o ha hi ai;obtain⟨e,he,hb,r,hr,dt,fS,h8⟩:=(HI _ _ hm).2 q hq;obtain⟨e1,aG,aI,a4⟩:=xy (p:=0) hr;exact⟨e,by simpa using he,hb,e1,by omega,by rw[aI,dt],by rw[a4,<-aG];exact h8⟩
 ·obtain⟨i,hi⟩:=kC p (zae.1 J).1;have:=eI (GC p i _ J hi);rw[this,Nat.testBit_two_pow_sub_one];simpa using hq
 ·obtain⟨i,hi⟩:=kC p (zae.1 J).1;have:=GC p i _ J hi;simp only[bX]at this;exact pO.1 this.2
 ·obtain⟨i,hi⟩:=kC p (zae.1 J).1;obtain⟨j,hj⟩:=kC q (zae.1 aA).1;have:=G1 p _ i q _ j J hi aA hj;unfold AJ at this;simp only[iK,bX]at this;have dt:=this.2.1.1;simp[Ry,Dd]at dt;exact dt
 ·obtain⟨i,hi⟩:=kC p (zae.1 J).1;obtain⟨j,hj⟩:=kC q (zae.1 aA).1;have:=G1 p _ i q _ j J hi aA hj;unfold AJ at this;simp only[iK,bX]at this;have dt:=this.2.1.2;have aG:Nat.ble (Nat.succ p) q=true:=pO.2 Mv;have aI:tw dU t=false:=by rw[zbR];intro h;exact G9 (Gy.1 h)
  have a4:(c.x1||tw c.looks t)=true:=by
   rcases hl with rfl|hl
   ·rfl
   ·rw[zdz];exact .inr (Gy.2 hl)
  rw[aG,aI,a4]at dt;simpa using dt
 ·obtain⟨i,hi⟩:=kC p (zae.1 J).1;obtain⟨j,hj⟩:=kC q (zae.1 aA).1;have:=G1 p _ i q _ j J hi aA hj;unfold AJ at this;simp only[iK,bX]at this;have dt:=this.2.2;have aG:Nat.ble (Nat.succ q) p=true:=pO.2 xQ;have aI:tw c.looks t=true:=Gy.2 hl;rw[aG,aI]at dt;simpa using dt
end Go.aj
namespace Go.aj
variable{X:Ctx}{call:bL}
def yE(X:Ctx)(aO:Nat)(ops:ap Oper):ac bE->ac Oper->Bool
 |[],[]=>true
 |x::xs,o::os=>nj X aO ops x o&&yE X aO ops xs os
 |_,_=>false
theorem ZV{aO:Nat}{ops:ap Oper}:∀{xs:ac bE} {os:ac Oper},yE X aO ops xs os=true->xs.length=os.length∧∀(j:Nat) x o,xs[j]? =some x->os[j]? =some o->nj X aO ops x o=true
 |[],[],_=>⟨rfl,fun j x o h=>by simp at h⟩
 |x::xs,o::os,h=>by
  simp only[yE,bX]at h;obtain⟨h1,h2⟩:=ZV h.2;refine⟨by simp[h1],fun j en bf J ai=> ?_⟩;cases j with
  |zero=>simp at J ai;subst J ai;exact h.1
  |succ j=>exact h2 j en bf (by simpa using J) (by simpa using ai)
 |[],_::_,h=>by simp[yE]at h
 |_::_,[],h=>by simp[yE]at h
def ye:ac Nat->ac Nat->Bool
 |[],[]=>true
 |a::as,b::bS=>Nat.beq a b&&ye as bS
 |_,_=>false
theorem XL:∀{as bS:ac Nat},ye as bS=true->as=bS
 |[],[],_=>rfl
 |a::as,b::bS,h=>by
  simp only[ye,bX]at h;rw[eI h.1,XL h.2]
 |[],_::_,h=>by simp[ye]at h
 |_::_,[],h=>by simp[ye]at h
def codeOk(X:Ctx)(aO:Nat):dp->Code->Bool
 |.skip,.skip=>true
 |.skip,.label _=>true
 |.yD xs,.region _ ops false=>yE X aO ops xs ops.toList
 |.tk L b6 dU ms,.region _ ops true=>FT X aO ops L b6 dU ms
 |.seq a b,.seq c d=>codeOk X aO a c&&codeOk X aO b d
 |.cond x a b,.cond y c d=>bW X.aB x y&&codeOk X aO a c&&codeOk X aO b d
 |.block i a,.block j c=>Nat.beq i j&&codeOk X aO a c
 |.loop a,.loop c=>codeOk X aO a c
 |.I2 f ps dk body,.rangeFunc g da pM pP=>bW X.aB f g&&ye ps da.toList&&ps.all (fun t=>Nat.ble (Nat.succ t) aO)&&codeOk X aO dk pM&&codeOk X aO body pP
 |.exit i,.exit j=>Nat.beq i j
 |.scope a,.scope c=>codeOk X aO a c
 |.ret,.ret=>true
 |.refuse,_=>true
 |_,_=>false
def Good(X:Ctx):Prop:=X.P.follows .mixedOrders=true∧∀fn c sT,X.ok fn c sT↔∃F,X.P.funcs[fn]? =some F∧codeOk X F.ntmps sT c=true
section
variable{b:dK}{aO:Nat}{bq:Bool->ac Frame}
def E7(X:Ctx)(call:bL)(b:dK)(aO:Nat)(bq:Bool->ac Frame):Prop:=
 ∀(f:bi) (ps:ap Tmp) (dk body:dp) (pM pP:Code) (ι:bt) (fr:aP) (a:Act) (st:aw) (w:co) (k:ac Item),cy X.aB f=true->(∀t∈ps.toList,t<aO)->(∃F,X.P.funcs[b.fn]? =some F∧F.ntmps=aO)->X.ok b.fn pM dk->X.ok b.fn pP body->
  cv ι fr a aO->bn X ι st w->qI ι fr.b3 b.b3->kL b fr.ba ι bq->
  gr X b aO bq (lone (b.at a (.code (.rangeFunc f ps pM pP)::k)) (bq fr.cF) w) k fr ι w (Ch call b.fn f ps.toList dk body fr st)
theorem gr.pE{s:Machine}{k k':ac Item}{fr:aP}{ι:bt}{w:co}{r:cW}{g:aP->aw->cW}(hex:∀id,exitTo id k=exitTo id k')(h:gr X b aO bq s k fr ι w r)
 (aJ:∀aQ a' w' aC st',cv aQ aC a' aO->bn X aQ st' w'->fz ι aQ w w'->aC.ba=fr.ba->aC.b3=fr.b3->gr X b aO bq (lone (b.at a' k) (bq aC.cF) w') k' aC aQ w' (g aC st')):gr X b aO bq s k' fr ι w (pE r g):=by
 cases r with
 |no=>trivial
 |out e aC st'=>
  obtain⟨aQ,a',w',h1,h2,h3,au,aW,ch⟩:=h;cases e with
  |norm=>exact gr.head ch h3 au aW (aJ aQ a' w' aC st' h1 h2 h3 au aW)
  |exit id=>
   obtain⟨iP,dt,fS⟩:=ch;exact⟨aQ,a',w',h1,h2,h3,au,aW,iP,dt.trans (hex id),fS⟩
  |ret=>exact⟨aQ,a',w',h1,h2,h3,au,aW,ch⟩
  |ba v=>exact⟨aQ,a',w',h1,h2,h3,au,aW,ch⟩
def gr.cC{s:Machine}{k:ac Item}{fr:aP}{ι:bt}{w:co}{r:cW}{i:Nat}(h1:gr X b aO bq s (.inBlock i::k) fr ι w r):gr X b aO bq s k fr ι w (Fs i r):=by
 cases r with
 |no=>trivial
 |out e aC st'=>
  obtain⟨aQ,a',w',h2,h3,au,aW,ch,dt⟩:=h1;cases e with
  |norm=>exact⟨aQ,a',w',h2,h3,au,aW,ch,Steps.trans dt (.one asw)⟩
  |exit id=>
   obtain⟨iP,fS,h8⟩:=dt;show gr X b aO bq _ k fr ι w (dW id i (.out .norm aC st') (.out (.exit id) aC st'));rw[o5];by_cases e:id=i
   ·subst e;rw[zab rfl];have tt:exitTo id iP=some k:=by rw[fS];simp[exitTo]
    exact⟨aQ,a',w',h2,h3,au,aW,ch,Steps.trans h8 (.one (asv tt))⟩
   ·rw[zaa e];refine⟨aQ,a',w',h2,h3,au,aW,ch,iP,?_,h8⟩;rw[fS];have:¬i=id:=fun h=>e h.symm;simp[exitTo,this]
  |ret=>exact⟨aQ,a',w',h2,h3,au,aW,ch,dt⟩
  |ba v=>exact⟨aQ,a',w',h2,h3,au,aW,ch,dt⟩
def aa9(r:cW):pE r (fun fr st=>.out .norm fr st)=r:=by
 cases r with
 |no=>rfl
 |out e fr st=>cases e<;>rfl
def KQ(du:Good X)(eL:nv X call)(z7:E7 X call b aO bq)(fH:∃F,X.P.funcs[b.fn]? =some F∧F.ntmps=aO)(cm:Nat):∀(sT:dp) (c:Code) (ι:bt) (fr:aP) (a:Act) (st:aw) (w:co) (k:ac Item),codeOk X aO sT c=true->
 cv ι fr a aO->bn X ι st w->qI ι fr.b3 b.b3->kL b fr.ba ι bq->
 gr X b aO bq (lone (b.at a (.code c::k)) (bq fr.cF) w) k fr ι w (dB call cm b.fn sT fr st):=by
 obtain⟨Fn,av,ox⟩:=fH;intro sT
 induction sT with
 |skip=>
  intro c ι fr a st w k hc aa hw hb hr;cases c with
  |skip=>exact⟨ι,a,w,aa,hw,.refl _ _,rfl,rfl,.one asP⟩
  |label l=>exact⟨ι,a,w,aa,hw,.refl _ _,rfl,rfl,.one asz⟩
  |_=>cases hc
 |yD xs=>
  intro c ι fr a st w k hc aa hw hb hr;cases c with
  |region id ops draw=>
   cases draw with
   |true=>cases hc
   |false=>
    obtain⟨h1,h2⟩:=ZV (hc:yE X aO ops xs ops.toList=true);have:=NX (b:=b) (bq:=bq) (k:=k) (ops:=ops) (aO:=aO) eL xs (List.range ops.size) ι fr a st w (by simpa using h1) (fun j x i J hi=>by
     have sa:i=j:=by
      obtain⟨hj,he⟩:=zae.1 hi;simpa using he.symm
     subst sa;have aV:i<ops.size:=by simpa using(zae.1 hi).1
     exact⟨ops[i],zci aV,h2 i x _ J (by simp[aV])⟩) aa hw hb hr
    exact gr.head (.one asF) (.refl _ _) rfl rfl this
  |_=>cases hc
 |tk L b6 dU ms=>
  intro c ι fr a st w k hc aa hw hb hr;cases c with
  |region id ops draw=>
   cases draw with
   |false=>cases hc
   |true=>exact afo du.1 eL (afl (hc:FT X aO ops L b6 dU ms=true)) aa hw hb hr
  |_=>cases hc
 |seq x y amE MN=>
  intro c ι fr a st w k hc aa hw hb hr;cases c with
  |seq c d=>
   have hc:(codeOk X aO x c&&codeOk X aO y d)=true:=hc;rw[bX]at hc;have h1:=amE c ι fr a st w (.code d::k) hc.1 aa hw hb hr;refine gr.head (.one asO) (.refl _ _) rfl rfl (gr.pE (k:=.code d::k) (k':=k) (fun id=>rfl) h1 fun aQ a' w' aC st' eD ei U hp hn=> ?_);exact MN d aQ aC a' st' w' k hc.2 eD ei (by rw[hn];exact hb.mono U.le) (by rw[hp];exact hr.mono U.le)
  |_=>cases hc
 |cond x y z MN amF=>
  intro c ι fr a st w k hc aa hw hb hr;cases c with
  |cond o c d=>
   have hc:(bW X.aB x o&&codeOk X aO y c&&codeOk X aO z d)=true:=hc;simp only[bX]at hc;obtain⟨rfl,ai⟩:=cN hc.1.1;show gr X b aO bq _ k fr ι w (ns (fr.af x) (fun t=>_root_.cond t (dB call cm b.fn y fr st) (dB call cm b.fn z fr st)) .no);have aF:=aa.af hw ai;generalize jB:a.eval x=s7 at aF;generalize fr.af x=v at aF;cases v with
   |bool t=>
    cases aF;cases t with
    |true=>exact gr.head (.one (aaQ jB)) (.refl _ _) rfl rfl (MN c ι fr a st w k hc.1.2 aa hw hb hr)
    |false=>exact gr.head (.one (aaQ jB)) (.refl _ _) rfl rfl (amF d ι fr a st w k hc.2 aa hw hb hr)
   |_=>trivial
  |_=>cases hc
 |block i x aZ=>
  intro c ι fr a st w k hc aa hw hb hr;cases c with
  |block j c=>
   have hc:(Nat.beq i j&&codeOk X aO x c)=true:=hc;rw[bX]at hc;have e:=eI hc.1;subst e;have h1:=aZ c ι fr a st w (.inBlock i::k) hc.2 aa hw hb hr;refine gr.head (.one ass) (.refl _ _) rfl rfl ?_;exact h1.cC
  |_=>cases hc
 |loop x aZ=>
  intro c ι fr a st w k hc aa hw hb hr;cases c with
  |loop c=>
   have hc:codeOk X aO x c=true:=hc;have key:∀(n:Nat) (ι:bt) (fr:aP) (a:Act) (st:aw) (w:co),cv ι fr a aO->bn X ι st w->qI ι fr.b3 b.b3->kL b fr.ba ι bq->
    gr X b aO bq (lone (b.at a (.code c:: .inLoop c::k)) (bq fr.cF) w) k fr ι w (Nat.rec (motive:=fun _=>aP->aw->cW) (fun _ _=>.no) (fun _ MM fr st=>Go.aj.pE (dB call cm b.fn x fr st) MM) n fr st):=by
    intro n
    induction n with
    |zero=>intros;trivial
    |succ n amD=>
     intro ι fr a st w aa hw hb hr;refine gr.pE (k:=.inLoop c::k) (fun id=>rfl) (aZ c ι fr a st w (.inLoop c::k) hc aa hw hb hr) fun aQ a' w' aC st' eD ei U hp hn=> ?_;exact gr.head (.one asx) (.refl _ _) rfl rfl (amD aQ aC a' st' w' eD ei (by rw[hn];exact hb.mono U.le) (by rw[hp];exact hr.mono U.le))
   exact gr.head (.one asA) (.refl _ _) rfl rfl (key cm ι fr a st w aa hw hb hr)
  |_=>cases hc
 |I2 f ps dk body _ _=>
  intro c ι fr a st w k hc aa hw hb hr;cases c with
  |rangeFunc g da pM pP=>
   have hc:(bW X.aB f g&&ye ps da.toList&&ps.all (fun t=>Nat.ble (Nat.succ t) aO)&&codeOk X aO dk pM&&codeOk X aO body pP)=true:=hc;simp only[bX]at hc;obtain⟨⟨⟨⟨h1,h2⟩,aW⟩,h3⟩,au⟩:=hc;rw[zbg]at aW;obtain⟨rfl,ai⟩:=cN h1;have e:=XL h2;subst e;exact z7 f da dk body pM pP ι fr a st w k ai (fun t aN=>pO.1 (aW t aN)) ⟨Fn,av,ox⟩ ((du.2 _ _ _).2 ⟨Fn,av,by rw[ox];exact h3⟩) ((du.2 _ _ _).2 ⟨Fn,av,by rw[ox];exact au⟩) aa hw hb hr
  |_=>cases hc
 |exit i=>
  intro c ι fr a st w k hc aa hw hb hr;cases c with
  |exit j=>
   have e:=eI (hc:Nat.beq i j=true);subst e;exact⟨ι,a,w,aa,hw,.refl _ _,rfl,rfl,k,rfl,.refl _ _⟩
  |_=>cases hc
 |scope x aZ=>
  intro c ι fr a st w k hc aa hw hb hr;cases c with
  |scope c=>
   have h1:=aZ c ι fr a st w (.inScope c::k) hc aa hw hb hr;refine gr.head (.one asN) (.refl _ _) rfl rfl ?_;show gr X b aO bq _ k fr ι w (dB call cm b.fn x fr st);rw[<-aa9 (dB call cm b.fn x fr st)];exact gr.pE (k:=.inScope c::k) (fun id=>rfl) h1 fun aQ a' w' aC st' eD ei _ _ _=>⟨aQ,a',w',eD,ei,.refl _ _,rfl,rfl,.one asy⟩
  |_=>cases hc
 |ret=>
  intro c ι fr a st w k hc aa hw hb hr;cases c with
  |ret=>exact⟨ι,a,w,aa,hw,.refl _ _,rfl,rfl,k,.refl _ _⟩
  |_=>cases hc
 |refuse=>intros;trivial
end
def ZY(X:Ctx):iU->ResultVar->Bool
 |.tmp t,.tmp u=>Nat.beq t u
 |.cell a g n,.cell b t=>Nat.beq a b&&(match pK X.P t,gB X.P t with
  |some gC,some s=>(g==gC)&&(!g||Nat.beq n s)&&(g||Nat.beq n 1)
  |_,_=>false)
 |_,_=>false
def uw(X:Ctx):ac iU->ac ResultVar->Bool
 |[],[]=>true
 |x::xs,r::rs=>ZY X x r&&uw X xs rs
 |_,_=>false
def AY(tmps:ap be):ResultVar->Sem be
 |.tmp t=>pure (tmps.getD t undef)
 |.cell a t=>do loadVar t (<-asAddr (tmps.getD a undef))
section
variable{ι:bt}{fr:aP}{a:Act}{aO:Nat}{st:aw}{w:co}
variable{out:ac be}
def W9{α:Type}{a:Addr}{n:Nat}{k:ac be->α}{z r:α}(h:st.load a n k z=r)(aE:z≠r):∃vs,k vs=r∧∀{EZ:Type} (k':ac be->EZ) (yY:EZ),st.load a n k' yY=k' vs:=by
 obtain⟨h1,cs,el,a8,aX,h2,h3,au⟩:=Ah h aE;refine⟨_,au,fun k' yY=> ?_⟩;unfold aw.load aw.gH;rw[h1,h2];show iD cs a.off n k' yY=_;unfold iD;rw[zB,Ez,zab h3];rfl
def anK{t:ce}{x:bi}{ad:Addr}{v:be}(J:a.eval x= .pointer (some ad))(h:(execOp a.eval {(default:Oper)with op:=.load t x}).run X.P w= .ok (.value v) w):(loadVar t ad).run X.P w= .ok v w:=by
 unfold execOp at h;simp only[J,Instr.loadAt,Instr.sureAddr,Sem.run_bind,Sem.run_pure,Result.andThen]at h;generalize(loadVar t ad).run X.P w=r at h;cases r with
 |ok y w'=>simp only[Result.ok.injEq,Next.value.injEq]at h;obtain⟨rfl,rfl⟩:=h;rfl
 |halt e w'=>cases h
def aqu{x:iU}{r:ResultVar}(bI:ZY X x r=true)(aa:cv ι fr a aO)(hw:bn X ι st w){vs:ac be}
 (h:iU.rec (motive:=fun _=>am (ac be)) (fun t=>some (fr.tmp t::vs))
  (fun a agg n=>iy (fr.tmp a) (fun p=>bd p (fun ad=>st.load ad n (fun cs=>cond agg (some (.agg ⟨cs⟩::vs)) (one cs (fun v=>some (v::vs)) none)) none) none) none) x=some out):
 ∃v v',out=v::vs∧bk ι v v'∧(AY a.tmps r).run X.P w= .ok v' w:=by
 cases x with
 |tmp t=>
  cases r with
  |tmp u=>
   have e:=eI (bI:Nat.beq t u=true);subst e;have az:some (fr.tmp t::vs)=some out:=h;cases az;exact⟨_,_,rfl,aa.tmp t,rfl⟩
  |cell b t=>cases bI
 |cell b g n=>
  cases r with
  |tmp u=>cases bI
  |cell dN t=>
   have bI:(Nat.beq b dN&&(match pK X.P t,gB X.P t with
    |some gC,some s=>(g==gC)&&(!g||Nat.beq n s)&&(g||Nat.beq n 1)
    |_,_=>false))=true:=bI
   rw[bX]at bI;have e:=eI bI.1;subst e;have h2:=bI.2;split at h2
   ·rename_i gC s aJ ae;simp only[bX]at h2;obtain⟨⟨h3,au⟩,aW⟩:=h2;have GM:g=gC:=by simpa using h3
    subst GM;obtain⟨d,al,pc⟩:=BB aJ;obtain⟨i,hi,rfl⟩:=mS ae;have az:iy (fr.tmp b) (fun p=>bd p (fun ad=>st.load ad n (fun cs=>cond g (some (.agg ⟨cs⟩::vs)) (one cs (fun v=>some (v::vs)) none)) none) none) none=some out:=h;obtain⟨p,hp,ch⟩:=pG az (by simp);obtain⟨ad,rfl,dt⟩:=ft ch (by simp);have jC:fr.af (.tmp b)= .pointer (some ad):=hp;have G5:=aa.tmp b;rw[hp]at G5;have akp:a.eval (.tmp b)=a.tmps.getD b undef:=rfl;generalize jB:a.tmps.getD b undef=s7 at G5;have fin:∀v v' l',a.tmps.getD b undef= .pointer (some l')->out=v::vs->bk ι v v'->(execOp a.eval {(default:Oper)with op:=.load t (.tmp b)}).run X.P w= .ok (.value v') w->∃v v',out=v::vs∧bk ι v v'∧(AY a.tmps (.cell b t)).run X.P w= .ok v' w:=by
     intro v v' l' ck ai aF fU;refine⟨v,v',ai,aF,?_⟩;have hh:(loadVar t l').run X.P w= .ok v' w:=anK (a:=a) (x:=.tmp b) (by rw[akp,ck]) fU;simp only[AY,ck,asAddr,Sem.run_bind,Sem.run_pure,Result.andThen];exact hh
    cases g with
    |true=>
     have hn:n=i.size:=by simpa using au
     subst hn;obtain⟨cs,fS,h8⟩:=W9 dt (by simp);have aj8:some (.agg ⟨cs⟩::vs)=some out:=fS;cases aj8;have dq:Ia i.size (.tmp b) (fun _ _ _ _=>.no) fr st= .ok (.agg ⟨cs⟩) fr st:=by
      unfold Ia;rw[jC];exact h8 (fun vs=>aS.ok (.agg ⟨vs⟩) fr st) .no
     obtain⟨_,_,_,v',fU,aF⟩:=aaB (o:={(default:Oper)with op:=.load t (.tmp b)}) rfl rfl al pc hi aa hw dq;cases G5 with
     |ptr _ l hl eV=>exact fin _ v' _ jB rfl aF fU
    |false=>
     have hn:n=1:=by simpa using aW
     subst hn;obtain⟨cs,fS,h8⟩:=W9 dt (by simp);obtain⟨v,rfl,tt⟩:=AB (fS:one cs (fun v=>some (v::vs)) none=some out) (by simp);cases tt;have dq:H9 (.tmp b) (fun _ _ _ _=>.no) fr st= .ok v fr st:=by
      unfold H9;rw[jC];exact h8 (fun vs=>one vs (fun v=>aS.ok v fr st) .no) .no
     obtain⟨_,_,_,v',fU,aF⟩:=aaA (o:={(default:Oper)with op:=.load t (.tmp b)}) rfl rfl al pc aa hw dq;cases G5 with
     |ptr _ l hl eV=>exact fin _ v' _ jB rfl aF fU
   ·cases h2
theorem ZZ(aa:cv ι fr a aO)(hw:bn X ι st w):∀(xs:ac iU) (rs:ac ResultVar) (out:ac be),uw X xs rs=true->qW fr st xs=some out->
 ∃fY,bM ι out fY∧(rs.mapM (AY a.tmps)).run X.P w= .ok fY w
 |[],[],out,_,h=>by
  have az:some []=some out:=h;cases az;exact⟨[],bM.nil ι,rfl⟩
 |x::xs,r::rs,out,bI,h=>by
  simp only[uw,bX]at bI;have az:bd (qW fr st xs) (fun vs=>iU.rec (motive:=fun _=>am (ac be)) (fun t=>some (fr.tmp t::vs))
   (fun a agg n=>iy (fr.tmp a) (fun p=>bd p (fun ad=>st.load ad n (fun cs=>cond agg (some (.agg ⟨cs⟩::vs)) (one cs (fun v=>some (v::vs)) none)) none) none) none) x) none=some out:=h
  obtain⟨vs,Wh,h1⟩:=ft az (by simp);obtain⟨v,v',rfl,aF,fU⟩:=aqu bI.1 aa hw h1;obtain⟨fY,ami,C4⟩:=ZZ aa hw xs rs vs bI.2 Wh;refine⟨v'::fY,bM.cons aF ami,?_⟩;rw[zdu];simp only[Sem.run_bind,fU,Result.andThen,C4,Sem.run_pure]
 |[],_::_,_,bI,_=>by simp[uw]at bI
 |_::_,[],_,bI,_=>by simp[uw]at bI
def aqw{F:Func}{xs:ac iU}(bI:uw X xs F.results.toList=true)(aa:cv ι fr a aO)(hw:bn X ι st w)(h:qW fr st xs=some out):
 ∃v',bk ι (one out (fun v=>v) (.tuple ⟨out⟩)) v'∧(results F a.tmps).run X.P w= .ok v' w:=by
 obtain⟨fY,aF,fU⟩:=ZZ aa hw xs F.results.toList out bI h;have hr:(results F a.tmps)=(do let vs<-F.results.mapM (AY a.tmps);pure (if h:vs.size=1 then vs[0]else .tuple vs)):=by
  unfold results;congr 2
 rw[hr];have hm:(F.results.mapM (AY a.tmps)).run X.P w= .ok fY.toArray w:=by
  rw[zeP];rw[Sem.run_map,fU];rfl
 simp only[Sem.run_bind,hm,Result.andThen,Sem.run_pure];refine⟨_,?_,rfl⟩;cases out with
 |nil=>rw[aF.v5];exact bk.pt (bM.nil ι)
 |cons v vs=>
  obtain⟨y,ao,rfl,h1,h2⟩:=aF.cons_inv;cases vs with
  |nil=>rw[h2.v5];exact h1
  |cons v2 atK=>
   obtain⟨ab7,avY,rfl,h3,au⟩:=h2.cons_inv;rw[dif_neg (by simp)];exact bk.pt (xs:=⟨v::v2::atK⟩) (bM.cons h1 (bM.cons h3 au))
end
def jR(X:Ctx)(ι:bt)(w:co)(b:dK)(bq:Bool->ac Frame)(s:Machine):dL->Prop
 |.ret v st' eF=>∃aQ v' w' F,bk aQ v v'∧bn X aQ st' w'∧fz ι aQ w w'∧F.kind=b.kind∧F.fn=b.fn∧Frame.going X.P F w' (.returned v')∧Steps X.P s (lone F (bq eF) w')
 |.ba v st' eF=>∃aQ v' w' F,bk aQ v v'∧bn X aQ st' w'∧fz ι aQ w w'∧F.kind=b.kind∧F.fn=b.fn∧Frame.going X.P F w' (.panicked [{v:=v',recovered:=false}])∧Steps X.P s (lone F (bq eF) w')
 |.no=>True
def jR.head{ι aQ:bt}{w w':co}{b:dK}{bq:Bool->ac Frame}{s bm:Machine}{r:dL}(h:Steps X.P s bm)(U:fz ι aQ w w')(az:jR X aQ w' b bq bm r):jR X ι w b bq s r:=by
 cases r with
 |no=>trivial
 |ret v st eF=>obtain⟨fh,v',jv,F,h1,h2,h3,au,aW,ch,dt⟩:=az;exact⟨fh,v',jv,F,h1,h2,U.trans h3,au,aW,ch,h.trans dt⟩
 |ba v st eF=>obtain⟨fh,v',jv,F,h1,h2,h3,au,aW,ch,dt⟩:=az;exact⟨fh,v',jv,F,h1,h2,U.trans h3,au,aW,ch,h.trans dt⟩
def wX(X:Ctx)(call:bL):Prop:=
 ∀(ι:bt) (f:ci) (first fm:ap be) (args:ac be) (ba:am be) (st:aw) (vi oZ:ap be) (jT:ac be) (w:co),
  bM ι first.toList vi.toList->bM ι args jT->bM ι fm.toList oZ.toList->bn X ι st w->call (.func (.func f) first fm) args ba st≠.no->
  (∀as w,(callFunc f as).run X.P w= .ok (.enter f as) w)∧
  ∀(K:CallKind) (bq:Bool->ac Frame),kL ⟨f,K,none⟩ ba ι bq->jR X ι w ⟨f,K,none⟩ bq (lone (Frame.enter X.P f (vi++jT.toArray++oZ) K) (bq false) w) (call (.func (.func f) first fm) args ba st)
variable{ι:bt}{m:am be}{md:FrameMode}
def pI(aQ:bt):am be->FrameMode->Prop
 |none,m=>m= .returning
 |some v,m=>∃v',bk aQ v v'∧m= .panicking [{v:=v',recovered:=false}]
def pI.mono{aQ:bt}(hle:ι.le aQ)(h:pI ι m md):pI aQ m md:=by
 cases m with
 |none=>exact h
 |some v=>obtain⟨v',h1,h2⟩:=h;exact⟨v',h1.mono hle,h2⟩
def pI.XW(h:pI ι m md):md≠.run:=by
 cases m with
 |none=>rw[show md= .returning from h];simp
 |some v=>obtain⟨v',_,h2⟩:=h;rw[h2];simp
theorem Bg(fH:wX X call):∀(ds:ac Deferred) (m:am be) (st:aw) (r:am be×aw),j6 call ds m st=some r->∀(ι:bt) (w:co) (F:Frame) (cs:ac Frame),sZ ι ds F.defers->pI ι m F.mode->bn X ι st w->
 ∃aQ w' md,Steps X.P (lone F cs w) (lone {F with defers:=[],mode:=md} cs w')∧pI aQ r.1 md∧bn X aQ r.2 w'∧fz ι aQ w w'
 |[],m,st,r,h,ι,w,F,cs,al,hm,hw=>by
  have az:some (m,st)=some r:=h;cases az;have av:F.defers=[]:=by
   cases nL:F.defers with
   |nil=>rfl
   |cons d ds=>rw[nL]at al;exact al.elim
  refine⟨ι,w,F.mode,?_,hm,hw,.refl _ _⟩;have:({F with defers:=[],mode:=F.mode}:Frame)=F:=by cases F;simp only at av;subst av;rfl
  rw[this];exact .refl _ _
 |⟨t,args⟩::ds,m,st,r,h,ι,w,F,cs,al,hm,hw=>by
  cases nL:F.defers with
  |nil=>rw[nL]at al;exact al.elim
  |cons e es=>
   rw[nL]at al;obtain⟨⟨akr,vI⟩,gJ⟩:=al;cases t with
   |collected aaf=>
    cases het:e.target with
    |collected pN=>
     rw[het]at vI;simp only[j6]at h;split at h
     ·rename_i kj;rw[j5]at h;obtain⟨l,hl,_,_,V1⟩:=hw.eE _ _ kj (by simp);have aq:=vI.symm.trans hl;cases aq;rcases V1 with⟨_,L5⟩|⟨hc,_⟩
      ·have aV:pN<w.heap.size:=hw.gQ _ _ hl;have amc:(Instr.takeDeferred pN).run X.P w= .ok [] (w.putObj pN (.deferred none)):=run_takeDeferred L5;have gT:=step_collected (P:=X.P) (cs:=cs) hm.XW nL het amc;obtain⟨ei,fi⟩:=hw.uH X kj (by simp) (fun aa=>aa) hl (.iV none) (.deferred none) (w.putObj pN (.deferred none)) rfl (fun _ aN=>⟨rfl,rfl,.inr ⟨rfl,aN⟩⟩);obtain⟨aQ,w',md,ae,aG,aI,a4⟩:=Bg fH ds m _ r h ι _ {F with defers:=[]++es} cs (by simpa using gJ) hm ei;exact⟨aQ,w',md,.head gT ae,aG,aI,fi.trans a4⟩
      ·cases hc
     ·cases h
    |_=>rw[het]at vI;exact vI.elim
   |fn kg fm=>
    cases het:e.target with
    |fn aj0 oZ=>
     rw[het]at vI;obtain⟨q3,LW⟩:=vI;cases kg with
     |func g=>
      rcases q3 with⟨rfl,_⟩|⟨l,b,h1,_⟩
      ·have cl:call (.func (.func g) #[] fm) args.toList m st≠.no:=by
        intro gj;simp only[j6,gj]at h;cases h
       obtain⟨LV,kZ⟩:=fH ι g #[] fm args.toList m st #[] oZ e.args.toList w (bM.nil ι) akr LW hw cl;have hinv:(invoke e.target e.args).run X.P w= .ok (.enter g (e.args++oZ)) w:=by
        rw[het];exact LV _ _
       have gT:=step_defer (cs:=cs) hm.XW nL het hinv;have aks:(#[]++e.args.toList.toArray++oZ:ap be)=e.args++oZ:=by simp
       rw[aks]at kZ;cases m with
       |none=>
        have CS:F.mode= .returning:=hm;have vt:=kZ .deferred (fun _=>{F with defers:=es}::cs) (fun G eF du=>by
         show tryRecover G ({F with defers:=es}::cs)=none;have Cw:G.kind= .deferred:=du;rw[tryRecover_deferred Cw];simp[recoverD,CS])
        cases hc:call (.func (.func g) #[] fm) args.toList none st with
        |no=>exact absurd hc cl
        |ret v cg eF=>
         rw[hc]at vt;have az:j6 call ds none cg=some r:=by
          simp only[j6,hc]at h;exact h
         obtain⟨aQ,v',w',G,_,ei,U,GR,_,tG,ae⟩:=vt;have qd:=step_going_returned (P:=X.P) (c:={F with defers:=es}) (cs:=cs) GR tG;have ra:settle ({F with defers:=es}:Frame).mode= .returning:=by
          show settle F.mode=_;rw[CS];rfl
         rw[ra]at qd;obtain⟨ku,jv,md,eV,aG,aI,a4⟩:=Bg fH ds none cg r az aQ w' {{F with defers:=es}with mode:=.returning} cs (gJ.mono U.le) (show pI aQ none .returning from rfl) ei;exact⟨ku,jv,md,(Steps.head gT ae).trans (.head qd eV),aG,aI,U.trans a4⟩
        |ba v cg eF=>
         rw[hc]at vt;have az:j6 call ds (some v) cg=some r:=by
          simp only[j6,hc]at h;exact h
         obtain⟨aQ,v',w',G,aF,ei,U,GR,_,tG,ae⟩:=vt;have qd:=step_going_panicked (P:=X.P) (c:={F with defers:=es}) (cs:=cs) tG;have ra:raised ({F with defers:=es}:Frame).mode [{v:=v',recovered:=false}]= .panicking [{v:=v',recovered:=false}]:=by
          show raised F.mode _=_;rw[CS];rfl
         rw[ra]at qd;obtain⟨ku,jv,md,eV,aG,aI,a4⟩:=Bg fH ds (some v) cg r az aQ w' {{F with defers:=es}with mode:=.panicking [{v:=v',recovered:=false}]} cs (gJ.mono U.le) ⟨v',aF,rfl⟩ ei;exact⟨ku,jv,md,(Steps.head gT ae).trans (.head qd eV),aG,aI,U.trans a4⟩
       |some sE=>
        obtain⟨n3,lV,CS⟩:=hm;have vt:=kZ .deferred (fun eF=>{F with defers:=es,mode:=.panicking [{v:=n3,recovered:=eF}]}::cs) ⟨n3,lV,fun G du=>by
         have Cw:G.kind= .deferred:=du;rw[tryRecover_deferred Cw];simp[recoverD],fun G du=>by
         have Cw:G.kind= .deferred:=du;rw[tryRecover_deferred Cw];simp[recoverD]⟩
        have mo:({F with defers:=es,mode:=.panicking [{v:=n3,recovered:=false}]}:Frame)={F with defers:=es}:=by rw[<-CS]
        rw[mo]at vt;cases hc:call (.func (.func g) #[] fm) args.toList (some sE) st with
        |no=>exact absurd hc cl
        |ret v cg eF=>
         rw[hc]at vt;obtain⟨aQ,v',w',G,_,ei,U,GR,_,tG,ae⟩:=vt;have qd:=step_going_returned (P:=X.P) (c:={F with defers:=es,mode:=.panicking [{v:=n3,recovered:=eF}]}) (cs:=cs) GR tG;cases eF with
         |true=>
          have az:j6 call ds none cg=some r:=by
           simp only[j6,hc]at h;exact h
          have ra:settle ({F with defers:=es,mode:=.panicking [{v:=n3,recovered:=true}]}:Frame).mode= .returning:=rfl;rw[ra]at qd;obtain⟨ku,jv,md,eV,aG,aI,a4⟩:=Bg fH ds none cg r az aQ w' {{F with defers:=es}with mode:=.returning} cs (gJ.mono U.le) (show pI aQ none .returning from rfl) ei;exact⟨ku,jv,md,(Steps.head gT ae).trans (.head qd eV),aG,aI,U.trans a4⟩
         |false=>
          have az:j6 call ds (some sE) cg=some r:=by
           simp only[j6,hc]at h;exact h
          have ra:settle ({F with defers:=es,mode:=.panicking [{v:=n3,recovered:=false}]}:Frame).mode= .panicking [{v:=n3,recovered:=false}]:=rfl;rw[ra]at qd;obtain⟨ku,jv,md,eV,aG,aI,a4⟩:=Bg fH ds (some sE) cg r az aQ w' {{F with defers:=es}with mode:=.panicking [{v:=n3,recovered:=false}]} cs (gJ.mono U.le) ⟨n3,lV.mono U.le,rfl⟩ ei;exact⟨ku,jv,md,(Steps.head gT ae).trans (.head qd eV),aG,aI,U.trans a4⟩
        |ba v cg eF=>
         exfalso;simp only[j6,hc]at h;cases h
      ·cases h1
     |_=>simp[j6]at h
    |_=>rw[het]at vI;exact vI.elim
   |_=>simp[j6]at h
section
variable{P:d9}{b:dK}{a:Act}{k:ac Item}{cs:ac Frame}{w:co}
def dK.returns(b:dK)(a:Act)(iP:ac Item):Frame:={b.at a iP with mode:=.returning}
def ast(hb:b.b3=none):step P (lone (b.at a []) cs w)= .next (lone (b.returns a []) cs w):=step_lone_go (by simp[stepG,stepG.exec,dK.at,dK.returns,hb])
def asH(hb:b.b3=none):step P (lone (b.at a (.code .ret::k)) cs w)= .next (lone (b.returns a (.code .ret::k)) cs w):=step_lone_go (by simp[stepG,stepG.exec,dK.at,dK.returns,hb])
end
theorem Qg:∀(vs:ac be) (i:Nat) (t:an be) (j:Nat),(oq vs i t).get j=if i<=j∧j<i+vs.length then vs[j-i]? else t.get j
 |[],i,t,j=>by rw[zaa (by simp)];rfl
 |v::vs,i,t,j=>by
  show(an.ik (Nat.succ i) t i v fun t=>oq vs (Nat.succ i) t).get j=_;rw[an.yG,Qg vs (Nat.succ i) _ j,an.ep];by_cases e:j=i
  ·subst e;rw[zaa (by omega),zab rfl,zab (by simp)];simp
  ·by_cases h:Nat.succ i<=j∧j<Nat.succ i+vs.length
   ·rw[zab h,zab (by simp only[zau];omega)];obtain⟨h1,_⟩:=h;have:j-i=(j-Nat.succ i)+1:=by omega
    rw[this];simp
   ·rw[zaa h,zaa e,zaa (by simp only[zau];omega)]
def afM{as as':ac be}{aO:Nat}{ba:am be}{eF:Bool}{b3:am Nat}(h:bM ι as as')(hn:as.length<=aO):
 cv ι ⟨oq as 0 .nil,[],ba,eF,b3⟩ ⟨as'.toArray++Array.replicate (aO-as'.toArray.size) undef,[]⟩ aO:=by
 refine⟨fun t=> ?_,by simp[<-h.1];omega,trivial⟩;show bk ι (Option.rec (motive:=fun _=>be) (.chan (some 0)) (fun v=>v) ((oq as 0 .nil).get t)) _;rw[Qg];by_cases aN:t<as.length
 ·rw[zab ⟨zag _,by omega⟩];have sh:t<as'.length:=by rw[<-h.1];exact aN
  have:=h.2 t aN sh;simp only[Nat.sub_zero,bF aN];have aJ:(as'.toArray++Array.replicate (aO-as'.toArray.size) undef).getD t undef=as'[t]:=by
   simp[Array.getElem?_append,sh]
  rw[aJ];exact this
 ·rw[zaa (by omega)];exact .top _
section
variable{b:dK}{bq:Bool->ac Frame}{ι:bt}{fr:aP}{a:Act}{aO:Nat}{st:aw}{w:co}
def Li(fH:wX X call){Fn:Func}{res:ac iU}{F:Frame}(av:X.P.funcs[b.fn]? =some Fn)(pd:uw X res Fn.results.toList=true)(aa:cv ι fr a aO)(hw:bn X ι st w)
 (h1:F.tmps=a.tmps) (h2:F.defers=a.defers) (h3:F.kind=b.kind) (au:F.fn=b.fn) (hm:pI ι m F.mode):jR X ι w b bq (lone F (bq fr.cF) w) (ov call res m fr st):=by
 unfold ov;cases hu:j6 call fr.c1 m st with
 |none=>trivial
 |some p=>
  obtain⟨fj,st'⟩:=p;obtain⟨aQ,w',md,ae,aG,aI,a4⟩:=Bg fH fr.c1 m st (fj,st') hu ι w F (bq fr.cF) (by rw[h2];exact aa.c1) hm hw;cases fj with
  |some v=>
   obtain⟨v',aF,Mh⟩:=aG;exact⟨aQ,v',w',{F with defers:=[],mode:=md},aF,aI,a4,h3,au,⟨Mh,rfl,Fn,by show X.P.funcs[F.fn]? =_;rw[au];exact av⟩,ae⟩
  |none=>
   have Mh:md= .returning:=aG;show jR X ι w b bq _ (bd (qW fr st' res) (fun vs=>one vs (fun v=>.ret v st' fr.cF) (.ret (.tuple ⟨vs⟩) st' fr.cF)) .no);cases he:qW fr st' res with
   |none=>trivial
   |some out=>
    have eD:cv aQ ⟨fr.t,[],fr.ba,fr.cF,fr.b3⟩ ⟨a.tmps,[]⟩ aO:=⟨fun t=>(aa.tmp t).mono a4.le,aa.size,trivial⟩;obtain⟨v',aF,fU⟩:=aqw (F:=Fn) pd eD aI (show qW ⟨fr.t,[],fr.ba,fr.cF,fr.b3⟩ st' res=some out from he);have Mq:bd (some out) (fun vs=>one vs (fun v=>dL.ret v st' fr.cF) (.ret (.tuple ⟨vs⟩) st' fr.cF)) .no= .ret (one out (fun v=>v) (.tuple ⟨out⟩)) st' fr.cF:=by
     cases out with
     |nil=>rfl
     |cons x xs=>cases xs<;>rfl
    rw[Mq];refine⟨aQ,v',w',{F with defers:=[],mode:=md},aF,aI,a4,h3,au,⟨Mh,rfl,Fn,by show X.P.funcs[F.fn]? =_;rw[au];exact av,?_⟩,ae⟩;show(results Fn F.tmps).run X.P w'=_;rw[h1];exact fU
structure wW(X:Ctx)(f:ci)(xf:dh)(Fn:Func)(c:Code):Prop where
 fn:X.P.funcs[f]? =some Fn
 body:Fn.body=some c
 aO:Fn.ntmps=xf.aO
 code:codeOk X xf.aO xf.body c=true
 res:uw X xf.res Fn.results.toList=true
 name:(Fn.name== "runtime.NumGoroutine")=false
variable{f:ci}{xf:dh}{Fn:Func}{body:Code}
def wW.enters(h:wW X f xf Fn body)(as:ap be)(w:co):(callFunc f as).run X.P w= .ok (.enter f as) w:=by
 have hn:=h.name;simp only[callFunc,program,Sem.run_bind];simp[Sem.run,h.fn,h.body,hn,Result.andThen]
def QJ(du:Good X)(eL:nv X call)(fH:wX X call)(z7:∀b aO bq,b.b3=none->E7 X call b aO bq)(ok:wW X f xf Fn body)(n:Nat){K:CallKind}{as as':ac be}{ba:am be}
 (has:bM ι as as') (hw:bn X ι st w) (hr:kL ⟨f,K,none⟩ ba ι bq):jR X ι w ⟨f,K,none⟩ bq (lone (Frame.enter X.P f as'.toArray K) (bq false) w) (pQ call n f xf as ba st):=by
 unfold pQ;rw[qi];split
 ·rename_i hlen;rw[fs]at hlen
  let b:dK:=⟨f,K,none⟩
  have tC:Frame.enter X.P f as'.toArray K=b.at ⟨as'.toArray++Array.replicate (xf.aO-as'.toArray.size) undef,[]⟩ [.code body]:=by
   simp[Frame.enter,dK.at,ok.fn,ok.body,ok.aO,b]
  rw[tC];have G6:=KQ (b:=b) (bq:=bq) du eL (z7 b xf.aO bq rfl) ⟨Fn,ok.fn,ok.aO⟩ n xf.body body ι ⟨oq as 0 .nil,[],ba,false,none⟩ ⟨as'.toArray++Array.replicate (xf.aO-as'.toArray.size) undef,[]⟩ st w [] ok.code (afM has hlen) hw (.inl ⟨rfl,rfl⟩) hr;cases jC:dB call n f xf.body ⟨oq as 0 .nil,[],ba,false,none⟩ st with
  |no=>trivial
  |out e aC st'=>
   have akR:dB call n b.fn xf.body ⟨oq as 0 .nil,[],ba,false,none⟩ st= .out e aC st':=jC;rw[akR]at G6;obtain⟨aQ,a',w',h1,h2,h3,_,_,ch⟩:=G6;cases e with
   |norm=>
    refine jR.head (Steps.trans ch (.one (ast rfl))) h3 ?_;exact Li (b:=b) (a:=a') (F:=b.returns a' []) (aO:=xf.aO) fH ok.fn ok.res h1 h2 rfl rfl rfl rfl (show pI aQ none .returning from rfl)
   |exit id=>trivial
   |ret=>
    obtain⟨iP,dt⟩:=ch;refine jR.head (Steps.trans dt (.one (asH rfl))) h3 ?_;exact Li (b:=b) (a:=a') (F:=b.returns a' (.code .ret::iP)) (aO:=xf.aO) fH ok.fn ok.res h1 h2 rfl rfl rfl rfl (show pI aQ none .returning from rfl)
   |ba v=>
    obtain⟨v',iP,aF,dt⟩:=ch;refine jR.head dt h3 ?_;exact Li (b:=b) (a:=a') (F:=b.panics a' iP v') (aO:=xf.aO) fH ok.fn ok.res h1 h2 rfl rfl rfl rfl ⟨v',aF,rfl⟩
 ·trivial
end
def HD{β:Type}{o:am bD}{k:LoopState->am dM->ci->an be->ac Tmp->dp->dp->Nat->β}{z r:β}(h:mE o k z=r)(aE:z≠r):
 ∃s gm fn t ps a b d,o=some (.loop s gm fn t ps a b d)∧k s gm fn t ps a b d=r:=by
 unfold mE at h;obtain⟨ej,ai,h1⟩:=ft h aE;cases ej<;>first|exact absurd h1 aE|exact⟨_,_,_,_,_,_,_,_,ai,h1⟩
section
variable{P:d9}{b:dK}{a:Act}{k:ac Item}{c:Frame}{cs:ac Frame}{w w':co}{l:Nat}
variable{v:be}
def asr(hb:b.b3=some l)(h:(Instr.beginRound l).run P w= .ok () w'):step P (lone (b.at a (.beginRound::k)) cs w)= .next (lone (b.at a k) cs w'):=
 step_lone_go (by simp[stepG,stepG.exec,stepG.apply,dK.at,hb,h,Result.andThen,Frame.finish])
def asK(hb:b.b3=some l)(U:b.kind= .normal)(h:(Instr.endRound l none).run P w= .ok v w'):step P (lone (b.at a []) (c::cs) w)= .next (lone (c.finish v) cs w'):=
 step_lone_go (by simp[stepG,stepG.exec,dK.at,hb,U,h,doReturn])
def asM(hb:b.b3=some l)(U:b.kind= .normal)(h:(Instr.endRound l (some .ret)).run P w= .ok v w'):step P (lone (b.at a (.code .ret::k)) (c::cs) w)= .next (lone (c.finish v) cs w'):=
 step_lone_go (by simp[stepG,stepG.exec,dK.at,hb,U,h,doReturn])
def asL{i:Nat}(hb:b.b3=some l)(U:b.kind= .normal)(J:exitTo i k=none)(h:(Instr.endRound l (some (.exit i))).run P w= .ok v w'):step P (lone (b.at a (.code (.exit i)::k)) (c::cs) w)= .next (lone (c.finish v) cs w'):=
 step_lone_go (by simp[stepG,stepG.exec,dK.at,hb,U,J,h,doReturn])
end
variable{st:aw}{w:co}{l l':Nat}{s:LoopState}{gm:am dM}{t:an be}{ps:ac Tmp}{dk body:dp}{d:Nat}
theorem YJ{ι:bt}:∀(ps:ac Tmp) (vs fY:ac be) (m:an be) (arr:ap be),(∀n,bk ι (Bd m n) (arr.getD n undef))->bM ι vs fY->vs.length=ps.length->(∀t∈ps,t<arr.size)->
 (∀n,bk ι (Bd (n2 ps vs m) n) (((ps.zip fY).foldl (fun tmps (p:Tmp×be)=>tmps.setIfInBounds p.1 p.2) arr).getD n undef))∧((ps.zip fY).foldl (fun tmps (p:Tmp×be)=>tmps.setIfInBounds p.1 p.2) arr).size=arr.size
 |[],_,_,m,arr,h,_,_,_=>⟨h,rfl⟩
 |t::ps,[],_,_,_,_,_,hl,_=>by simp at hl
 |t::ps,v::vs,fY,m,arr,h,aF,hl,aV=>by
  obtain⟨y,ao,rfl,h1,h2⟩:=aF.cons_inv;have aN:t<arr.size:=aV t zbt;have gT:∀n,bk ι (Bd (m.set t v) n) ((arr.setIfInBounds t y).getD n undef):=by
   intro n;have hn:=h n;unfold Bd at hn⊢;rw[an.ep];by_cases e:n=t
   ·subst e;rw[zab rfl];have:(arr.setIfInBounds n y).getD n undef=y:=by simp[aN]
    rw[this];exact h1
   ·rw[zaa e];have:(arr.setIfInBounds t y).getD n undef=arr.getD n undef:=by
     simp[zbA (Ne.symm e)]
    rw[this];exact hn
  obtain⟨aG,aI⟩:=YJ ps vs ao (m.set t v) (arr.setIfInBounds t y) gT h2 (by simpa using hl) (fun u hu=>by simpa using aV u (zaK _ hu));have hp:n2 (t::ps) (v::vs) m=n2 ps vs (m.set t v):=by
   show an.ik (Nat.succ t) m t v (fun m=>n2 ps vs m)=_;rw[an.yG]
  rw[hp];refine⟨aG,?_⟩;rw[List.zip_cons_cons,zds,aI];simp
def bn.loop(hw:bn X ι st w){fn:ci}(h:st.h.get l=some (.loop s gm fn t ps dk body d))(hl:ι l=some ⟨l',0,0,id⟩):
 ∃L:Loop,w.heap[l']? =some (.loop L)∧L.state=s∧E6 gm L.pending∧L.fn=fn∧(∀n,bk ι (Bd t n) (L.tmps.getD n undef))∧L.params.toList=ps∧X.ok fn L.assign dk∧X.ok fn L.body body∧ι d=some ⟨L.defers,0,0,id⟩∧
  (∃F,X.P.funcs[fn]? =some F∧L.tmps.size=F.ntmps)∧∀t∈ps,t<L.tmps.size:=by
 obtain⟨m,hm,_,_,L,iZ⟩:=hw.eE _ _ h (by simp);have e:=hl.symm.trans hm;cases e;exact⟨L,iZ⟩
def bn.Nc(hw:bn X ι st w){fn:ci}(h:st.h.get l=some (.loop s gm fn t ps dk body d))(hl:ι l=some ⟨l',0,0,id⟩)
 {L:Loop} (iZ:w.heap[l']? =some (.loop L)) (bm:LoopState) (YN:am dM) (jump:am Code) (hj:E6 YN jump):
 bn X ι ⟨st.h.set l (.loop bm YN fn t ps dk body d),st.ag⟩ (w.putObj l' (.loop {L with state:=bm,pending:=jump}))∧fz ι ι w (w.putObj l' (.loop {L with state:=bm,pending:=jump})):=by
 obtain⟨auG,h0,h1,h2,h3,au,aW,ch,dt,fS,h8,tt⟩:=hw.loop h hl;rw[iZ]at h0;cases h0;exact hw.uH X h (by simp) (fun aa=>aa) hl _ (.loop {L with state:=bm,pending:=jump}) _ rfl fun _ aN=>⟨rfl,rfl,{L with state:=bm,pending:=jump},aN,rfl,hj,h3,au,aW,ch,dt,fS,h8,tt⟩
section
variable{ι:bt}{st:aw}{w:co}
def aqC{b:dK}{aO:Nat}{Fn:Func}{c:Frame}{cs:ac Frame}{s:Machine}{eo:aP}{aQ:bt}{gE:co}{r:cW}(ox:X.P.funcs[b.fn]? =some Fn)(xA:b.b3=some l')(LR:b.kind= .normal)(hl:aQ l=some ⟨l',0,0,id⟩)
 (h:gr X b aO (fun _=>c::cs) s [] eo aQ gE r):
 match qA l r with
 |.ret v st' _=>∃fh v' w',bk fh v v'∧bn X fh st' w'∧fz aQ fh gE w'∧Steps X.P s (lone (c.finish v') cs w')
 |.ba v st' _=>∃fh v' w',bk fh v v'∧bn X fh st' w'∧fz aQ fh gE w'∧Steps X.P s (lone (c.raise [{v:=v',recovered:=false}]) cs w')
 |.no=>True:=by
 cases r with
 |no=>trivial
 |out e fr st=>
  obtain⟨fh,a,w,aa,hw,U,_,_,J⟩:=h;have hx:=U.le _ _ hl;cases nL:fr.c1 with
  |cons d ds=>
   have:qA l (.out e fr st)= .no:=by show List.rec (motive:=fun _=>dL) _ _ fr.c1=_;rw[nL]
   rw[this];trivial
  |nil=>
   have akq:a.defers=[]:=by
    have:=aa.c1;rw[nL]at this;cases ha:a.defers with
    |nil=>rfl
    |cons d ds=>rw[ha]at this;exact this.elim
   have key:∀(bm:LoopState) (gm:am dM) (jump:am Code) (v:be),E6 gm jump->
    (∀L,w.heap[l']? =some (.loop L)->∃w',w'=w.putObj l' (.loop {L with state:=bm,pending:=jump})∧Steps X.P s (lone (c.finish v) cs w'))->bk fh v v->
    match mE (st.h.get l) (fun _ _ fn t ps a b d=>st.g2 l (.loop bm gm fn t ps a b d) fun st=>dL.ret v st false) .no with
    |.ret v st' _=>∃fh v' w',bk fh v v'∧bn X fh st' w'∧fz aQ fh gE w'∧Steps X.P s (lone (c.finish v') cs w')
    |.ba v st' _=>∃fh v' w',bk fh v v'∧bn X fh st' w'∧fz aQ fh gE w'∧Steps X.P s (lone (c.raise [{v:=v',recovered:=false}]) cs w')
    |.no=>True:=by
    intro bm gm jump v hj eR aF;by_cases gj:mE (st.h.get l) (fun _ _ fn t ps a b d=>st.g2 l (.loop bm gm fn t ps a b d) fun st=>dL.ret v st false) .no= .no
    ·rw[gj];trivial
    ·obtain⟨aH,mJ,Gd,t0,Io,nx,iz,d0,kj,h1⟩:=HD rfl (fun e=>gj e.symm);rw[<-h1,j5];obtain⟨L,iZ,_⟩:=hw.loop kj hx;obtain⟨w',ei,eV⟩:=eR L iZ;obtain⟨aG,aI⟩:=hw.Nc kj hx iZ bm gm jump hj;exact⟨fh,v,w',aF,by rw[ei];exact aG,by rw[ei];exact U.trans aI,eV⟩
   cases e with
   |norm=>
    have:qA l (.out .norm fr st)=mE (st.h.get l) (fun _ _ fn t ps a b d=>st.g2 l (.loop .ready none fn t ps a b d) fun st=>dL.ret (.bool true) st false) .no:=by
     show List.rec (motive:=fun _=>dL) _ _ fr.c1=_;rw[nL]
    rw[this];exact key .ready none none (.bool true) trivial (fun L iZ=>⟨_,rfl,Steps.trans J (.one (asK xA LR (run_endRound none iZ)))⟩) (.bool true)
   |exit i=>
    have:qA l (.out (.exit i) fr st)=mE (st.h.get l) (fun _ _ fn t ps a b d=>st.g2 l (.loop .done (some (.exit i)) fn t ps a b d) fun st=>dL.ret (.bool false) st false) .no:=by
     show List.rec (motive:=fun _=>dL) _ _ fr.c1=_;rw[nL]
    rw[this];obtain⟨iP,G8,bJ⟩:=J;exact key .done (some (.exit i)) (some (.exit i)) (.bool false) rfl (fun L iZ=>⟨_,rfl,Steps.trans bJ (.one (asL xA LR (by rw[G8];rfl) (run_endRound (some (.exit i)) iZ)))⟩) (.bool false)
   |ret=>
    have:qA l (.out .ret fr st)=mE (st.h.get l) (fun _ _ fn t ps a b d=>st.g2 l (.loop .done (some .ret) fn t ps a b d) fun st=>dL.ret (.bool false) st false) .no:=by
     show List.rec (motive:=fun _=>dL) _ _ fr.c1=_;rw[nL]
    rw[this];obtain⟨iP,bJ⟩:=J;exact key .done (some .ret) (some .ret) (.bool false) trivial (fun L iZ=>⟨_,rfl,Steps.trans bJ (.one (asM xA LR (run_endRound (some .ret) iZ)))⟩) (.bool false)
   |ba v=>
    have:qA l (.out (.ba v) fr st)= .ba v st false:=by
     show List.rec (motive:=fun _=>dL) _ _ fr.c1=_;rw[nL]
    rw[this];obtain⟨v',iP,aF,bJ⟩:=J;refine⟨fh,v',w,aF,hw,U,Steps.trans bJ (.one (step_leave_panicked (fr:=b.panics a iP v') ⟨rfl,akq,Fn,ox⟩))⟩
def auw(du:Good X)(eL:nv X call)(z7:∀b aO bq,E7 X call b aO bq){n:Nat}{args jT:ac be}(hl:ι l=some ⟨l',0,0,id⟩)(ha:bM ι args jT)(hw:bn X ι st w)(cl:yW call n l args st≠.no):
 ∃fn ts dk body,(Instr.yield l' jT.toArray).run X.P w= .ok (.round l' fn ts dk body) w∧∀c cs,Bs X ι w (Frame.round l' fn ts dk body .normal) c cs (yW call n l args st):=by
 unfold yW at cl⊢;obtain⟨s,gm,fn,t,ps,dk,body,d,kj,h1⟩:=HD rfl (fun e=>cl e.symm);rw[<-h1]at cl⊢;obtain⟨hlen,h2⟩:=lh rfl (fun e=>cl e.symm);rw[<-h2]at cl⊢;rw[fs,fs]at hlen;obtain⟨L,iZ,ae,hj,fH,z8,jr,LQ,zV,al,⟨Fn,ox,eM⟩,aV⟩:=hw.loop kj hl;have al5:jT.toArray.size=L.params.size:=by
  have:L.params.size=ps.length:=by rw[<-jr];simp
  rw[this,<-hlen];simpa using ha.1.symm
 refine⟨L.fn,_,L.assign,L.body,run_yield iZ al5,fun c cs=> ?_⟩;subst fH;obtain⟨hd,hf⟩:=YJ ps args jT t L.tmps z8 ha hlen aV;have Wf:(L.params.zip jT.toArray).foldl (fun tmps (x:Tmp×be)=>tmps.setIfInBounds x.1 x.2) L.tmps=(ps.zip jT).foldl (fun tmps (p:Tmp×be)=>tmps.setIfInBounds p.1 p.2) L.tmps:=by
  rw[<-Array.foldl_toList,Array.toList_zip,jr]
 let b:dK:=⟨L.fn,.normal,some l'⟩
 let uG:=(L.params.zip jT.toArray).foldl (fun tmps (x:Tmp×be)=>tmps.setIfInBounds x.1 x.2) L.tmps
 have avr:Frame.round l' L.fn uG L.assign L.body .normal=b.at ⟨uG,[]⟩ [.code L.assign,.beginRound,.code L.body]:=rfl;obtain⟨wV,p2,alG⟩:=(du.2 _ _ _).1 LQ;obtain⟨hO,xv,tK⟩:=(du.2 _ _ _).1 zV;rw[ox]at p2 xv;cases p2;cases xv;have aa:cv ι ⟨n2 ps args t,[],none,false,some l⟩ ⟨uG,[]⟩ Fn.ntmps:=by
  refine⟨fun u=> ?_,?_,trivial⟩
  ·have:=hd u;rw[<-Wf]at this;exact this
  ·show uG.size=_;rw[<-eM,<-hf,<-Wf]
 have V9:∀ba:am be,ba=none->∀aQ,kL b ba aQ (fun _=>c::cs):=by
  rintro _ rfl aQ F eF av;have eh:F.kind= .normal:=av;simp[tryRecover,eh]
 have G6:=KQ (b:=b) (bq:=fun _=>c::cs) du eL (z7 b Fn.ntmps _) ⟨Fn,ox,rfl⟩ n dk L.assign ι ⟨n2 ps args t,[],none,false,some l⟩ ⟨uG,[]⟩ st w [.beginRound,.code L.body] alG aa hw (.inr ⟨l,l',rfl,rfl,hl⟩) (V9 _ rfl ι);have Wc:gr X b Fn.ntmps (fun _=>c::cs) (lone (Frame.round l' L.fn uG L.assign L.body .normal) (c::cs) w) [.beginRound,.code L.body] ⟨n2 ps args t,[],none,false,some l⟩ ι w (dB call n L.fn dk ⟨n2 ps args t,[],none,false,some l⟩ st):=G6;generalize dB call n L.fn dk ⟨n2 ps args t,[],none,false,some l⟩ st=jJ at Wc cl⊢;cases jJ with
 |no=>exact absurd rfl cl
 |out e eo cg=>
  obtain⟨aQ,fN,gE,tD,pg,vx,vE,xR,Hc⟩:=Wc;cases e with
  |exit _=>exact absurd rfl cl
  |ret=>exact absurd rfl cl
  |ba _=>exact absurd rfl cl
  |norm=>
   have z4:AZ call n l L.fn body eo cg≠.no:=cl;show Bs X ι w _ c cs (AZ call n l L.fn body eo cg);unfold AZ at z4⊢;obtain⟨s1,AM,Co,t1,D0,BF,BL,d1,GL,h3⟩:=HD rfl (fun e=>z4 e.symm);rw[<-h3]at z4⊢;cases s1 with
   |busy=>exact absurd rfl z4
   |done=>exact absurd rfl z4
   |exhausted=>exact absurd rfl z4
   |ready=>
    have hx:=vx.le _ _ hl;obtain⟨pH,Cy,nf,lT,au6,_⟩:=pg.loop GL hx;have gh:(Instr.beginRound l').run X.P gE= .ok () (gE.putObj l' (.loop {pH with state:=.busy})):=run_beginRound Cy nf;have al7:=asr (P:=X.P) (b:=b) (a:=fN) (k:=[.code L.body]) (cs:=c::cs) rfl gh;obtain⟨Db,jD⟩:=pg.Nc GL hx Cy .busy AM pH.pending lT;have al4:=KQ (b:=b) (bq:=fun _=>c::cs) du eL (z7 b Fn.ntmps _) ⟨Fn,ox,rfl⟩ n body L.body aQ eo fN ⟨cg.h.set l (.loop .busy AM Co t1 D0 BF BL d1),cg.ag⟩ (gE.putObj l' (.loop {pH with state:=.busy})) [] tK tD Db (by rw[xR];exact .inr ⟨l,l',rfl,rfl,hx⟩) (V9 _ vE aQ);have xO:Steps X.P (lone (Frame.round l' L.fn uG L.assign L.body .normal) (c::cs) w) (lone (b.at fN [.code L.body]) (c::cs) (gE.putObj l' (.loop {pH with state:=.busy}))):=Steps.trans Hc (.one al7);have h9:=vx.trans jD;have tL:=aqC (b:=b) (l:=l) ox rfl rfl hx al4;show Bs X ι w _ c cs (cg.g2 l (.loop .busy AM Co t1 D0 BF BL d1) fun st=>qA l (dB call n L.fn body eo st));rw[j5];have cU:dB call n b.fn body eo ⟨cg.h.set l (.loop .busy AM Co t1 D0 BF BL d1),cg.ag⟩=dB call n L.fn body eo ⟨cg.h.set l (.loop .busy AM Co t1 D0 BF BL d1),cg.ag⟩:=rfl;rw[cU]at tL;generalize qA l (dB call n L.fn body eo ⟨cg.h.set l (.loop .busy AM Co t1 D0 BF BL d1),cg.ag⟩)=aaf at tL⊢;cases aaf with
    |no=>trivial
    |ret v st' eF=>obtain⟨fh,v',w',aG,aI,a4,b2⟩:=tL;exact⟨fh,v',w',aG,aI,h9.trans a4,xO.trans b2⟩
    |ba v st' eF=>obtain⟨fh,v',w',aG,aI,a4,b2⟩:=tL;exact⟨fh,v',w',aG,aI,h9.trans a4,xO.trans b2⟩
end
section
variable{P:d9}{b:dK}{a:Act}{k:ac Item}{cs:ac Frame}{w gE:co}{f:bi}{ps:ap Tmp}{dk body:Code}{l:Nat}{mark:ac Deferred}
variable{g:ci}
def Z7(_hb:b.b3=none):(Frame.eval {fn:=b.fn,tmps:=a.tmps,todo:=.inRangeFunc l::k,defers:=mark++a.defers,mode:=.run,kind:=b.kind,roundOf:=none}) f=a.eval f:=by cases f<;>rfl
def Z6{v:be}:a.eval (.const v)=v:=rfl
def asI(hb:b.b3=none)(h:(Instr.enterLoop b.fn a.tmps ps dk body none).run P w= .ok (l,mark) gE){as:ap be}
 (hr:((do let d<-Deferred.ofValue (a.eval f) #[.func (.yield l) #[] #[]];invoke d.target d.args):Sem Next).run P gE= .ok (.enter g as) gE):
 step P (lone (b.at a (.code (.rangeFunc f ps dk body)::k)) cs w)= .next (lone (Frame.enter P g as .normal) (b.at {a with defers:=mark++a.defers} (.inRangeFunc l::k)::cs) gE):=by
 refine step_lone_go ?_;have nc:=hr;simp only[Sem.run_bind]at nc;simp[stepG,stepG.exec,stepG.apply,dK.at,hb,h,resolve,Z7 hb,Z6,nc]
def asJ(hb:b.b3=none)(h:(Instr.enterLoop b.fn a.tmps ps dk body none).run P w= .ok (l,mark) gE){g8:Nat}{ts:ap be}{Kl Kx:Code}
 (hr:((do let d<-Deferred.ofValue (a.eval f) #[.func (.yield l) #[] #[]];invoke d.target d.args):Sem Next).run P gE= .ok (.round g8 g ts Kl Kx) gE):
 step P (lone (b.at a (.code (.rangeFunc f ps dk body)::k)) cs w)= .next (lone (Frame.round g8 g ts Kl Kx .normal) (b.at {a with defers:=mark++a.defers} (.inRangeFunc l::k)::cs) gE):=by
 refine step_lone_go ?_;have nc:=hr;simp only[Sem.run_bind]at nc;simp[stepG,stepG.exec,stepG.apply,dK.at,hb,h,resolve,Z7 hb,Z6,nc]
def asu{jump:am Code}(h:(Instr.endLoop l).run P w= .ok jump gE):step P (lone (b.at a (.endRangeFunc l::k)) cs w)= .next (lone (b.at a ((jump.map Item.code).toList++k)) cs gE):=
 step_lone_go (by simp[stepG,stepG.exec,dK.at,h])
end
def OG(eL:nv X call)(b:dK)(aO:Nat)(bq:Bool->ac Frame):E7 X call b aO bq:=by
 intro f ps dk body pM pP ι fr a st w k ak0 aV ox LQ zV aa hw hb hr;unfold Ch;cases qb:fr.b3 with
 |some _=>trivial
 |none=>
  have zU:b.b3=none:=by
   rcases hb with⟨_,h⟩|⟨l,l',h,_⟩
   ·exact h
   ·rw[qb]at h;cases h
  obtain⟨Fn,ox,Mn⟩:=ox;have tC:=run_enterLoop_outer (P:=X.P) (w:=w) b.fn a.tmps ps pM pP;obtain⟨avZ,pg,vx,h1,_⟩:=bn.alloc X hw (.iV (some [])) (.deferred (some [])) 0 (fun aQ w' _ _ aN=>⟨rfl,rfl,.inl ⟨rfl,aN⟩⟩) (w.alloc (.deferred (some []))) rfl;have al9:(w.alloc (.deferred (some []))).heap.size=w.heap.size+1:=World.size_alloc _ _
  let L:Loop:={state:=.ready,pending:=none,fn:=b.fn,tmps:=a.tmps,params:=ps,assign:=pM,body:=pP,defers:=w.heap.size}
  obtain⟨JJ,Db,jD,h2,_⟩:=bn.alloc X pg (.loop .ready none b.fn fr.t ps.toList dk body st.ag) (.loop L) 0 (fun aQ w' hle _ aN=>⟨rfl,rfl,L,aN,rfl,trivial,rfl,fun n=>(aa.tmp n).mono (vx.le.trans hle),rfl,LQ,zV,hle _ _ h1,⟨Fn,ox,by rw[Mn];exact aa.size⟩,fun t aN=>by show t<a.tmps.size;rw[aa.size];exact aV t aN⟩)
   ((w.alloc (.deferred (some []))).alloc (.loop L)) rfl
  show gr X b aO bq _ k fr ι w (st.jg (.iV (some [])) fun r st=>st.jg (.loop .ready none b.fn fr.t ps.toList dk body r) fun l st=>I3 l ⟨fr.t,{target:=.collected r,args:= #[]}::fr.c1,fr.ba,fr.cF,none⟩ (call (fr.af f) [.func (.yield l) #[] #[]] none st));rw[gz,gz];have h9:=vx.trans jD;rw[al9]at h2
  let dz:aw:=⟨(st.h.set st.ag (.iV (some []))).set (st.ag+1) (.loop .ready none b.fn fr.t ps.toList dk body st.ag),st.ag+1+1⟩
  let aC:aP:=⟨fr.t,{target:=.collected st.ag,args:= #[]}::fr.c1,fr.ba,fr.cF,none⟩
  let a':Act:={a with defers:=[{target:=.collected w.heap.size,args:= #[]}]++a.defers}
  have eD:cv JJ aC a' aO:=⟨fun t=>(aa.tmp t).mono h9.le,aa.size,⟨⟨bM.nil _,jD.le _ _ h1⟩,aa.c1.mono h9.le⟩⟩;have amk:bn X JJ dz ((w.alloc (.deferred (some []))).alloc (.loop L)):=Db;have fV:bk JJ (.func (.yield (st.ag+1)) #[] #[]) (.func (.yield (w.heap.size+1)) #[] #[]):=bk.H2 (.inr ⟨_,_,rfl,rfl,h2⟩) (bM.nil _) (bM.nil _);show gr X b aO bq _ k fr ι w (I3 (st.ag+1) aC (call (fr.af f) [.func (.yield (st.ag+1)) #[] #[]] none dz));by_cases gj:call (fr.af f) [.func (.yield (st.ag+1)) #[] #[]] none dz= .no
  ·rw[gj];trivial
  obtain⟨gf,eR,nP⟩:=eL JJ (fr.af f) [.func (.yield (st.ag+1)) #[] #[]] dz (a.eval f) [.func (.yield (w.heap.size+1)) #[] #[]] _ ((aa.af hw ak0).mono h9.le) (bM.cons fV (bM.nil _)) amk gj;have xO:step X.P (lone (b.at a (.code (.rangeFunc f ps pM pP)::k)) (bq fr.cF) w)= .next (lone gf (b.at a' (.inRangeFunc (w.heap.size+1)::k)::bq fr.cF) ((w.alloc (.deferred (some []))).alloc (.loop L))):=by
   cases eR with
   |enter g as ae=>exact asI zU tC ae
   |round g8 g ts Kl Kx ae=>exact asJ zU tC ae
  have ai:=nP (b.at a' (.inRangeFunc (w.heap.size+1)::k)) (bq fr.cF);have iI:aC.ba=fr.ba:=rfl;have iJ:aC.b3=fr.b3:=qb.symm;cases hc:call (fr.af f) [.func (.yield (st.ag+1)) #[] #[]] none dz with
  |no=>exact absurd hc gj
  |ba v gO eF=>
   rw[hc]at ai;obtain⟨aQ,v',w',aF,ei,U,ae⟩:=ai;exact⟨aQ,a',w',eD.mono U.le,ei,h9.trans U,iI,iJ,v',_,aF,Steps.head xO ae⟩
  |ret v gO eF=>
   rw[hc]at ai;obtain⟨aQ,v',w',aF,ei,U,ae⟩:=ai;have kZ:(b.at a' (.inRangeFunc (w.heap.size+1)::k)).finish v'=b.at a' (.endRangeFunc (w.heap.size+1)::k):=rfl;rw[kZ]at ae;have hl:=U.le _ _ h2;show gr X b aO bq _ k fr ι w (mE (gO.h.get (st.ag+1)) (fun s gm qZ t ps a b d=>
    LoopState.rec (motive:=fun _=>cW)
    (gO.g2 (st.ag+1) (.loop .exhausted gm qZ t ps a b d) fun st=>bd gm (fun e=>.out e aC st) (.out .norm aC st))
    .no
    (gO.g2 (st.ag+1) (.loop .exhausted gm qZ t ps a b d) fun st=>bd gm (fun e=>.out e aC st) (.out .norm aC st))
    .no s) .no)
   generalize pd:mE _ _ _=res;by_cases hn:res= .no
   ·rw[hn];trivial
   obtain⟨aH,mJ,Gd,t0,Io,nx,iz,d0,kj,h3⟩:=HD pd (fun e=>hn e.symm);obtain⟨pH,Cy,nf,lT,_⟩:=ei.loop kj hl;have key:aH≠.busy->(gO.g2 (st.ag+1) (.loop .exhausted mJ Gd t0 Io nx iz d0) fun st=>bd mJ (fun e=>cW.out e aC st) (.out .norm aC st))=res->gr X b aO bq (lone (b.at a (.code (.rangeFunc f ps pM pP)::k)) (bq fr.cF) w) k fr ι w res:=by
    intro q6 he;rw[j5]at he;have xD:(Instr.endLoop (w.heap.size+1)).run X.P w'= .ok pH.pending (w'.putObj (w.heap.size+1) (.loop {pH with state:=.exhausted})):=run_endLoop Cy (by rw[nf];exact q6);obtain⟨aG,aI⟩:=ei.Nc kj hl Cy .exhausted mJ pH.pending lT;have qd:=asu (P:=X.P) (b:=b) (a:=a') (k:=k) (cs:=bq fr.cF) xD;have eu:=(Steps.head xO ae).trans (.one qd);have CK:=(h9.trans U).trans aI;have CE:=eD.mono U.le;cases mJ with
    |none=>
     have mu:cW.out .norm aC ⟨gO.h.set (st.ag+1) (.loop .exhausted none Gd t0 Io nx iz d0),gO.ag⟩=res:=he;cases hp:pH.pending with
     |some _=>rw[hp]at lT;exact lT.elim
     |none=>
      rw[<-mu];rw[hp]at eu aG CK;exact⟨aQ,a',_,CE,aG,CK,iI,iJ,eu⟩
    |some e=>
     have mu:cW.out e aC ⟨gO.h.set (st.ag+1) (.loop .exhausted (some e) Gd t0 Io nx iz d0),gO.ag⟩=res:=he;rw[<-mu];cases hp:pH.pending with
     |none=>rw[hp]at lT;cases e<;>exact lT.elim
     |some eT=>
      rw[hp]at lT eu aG CK;cases e with
      |norm=>cases eT<;>exact lT.elim
      |ba v=>cases eT<;>exact lT.elim
      |exit i=>
       cases eT with
       |exit j=>
        have e:i=j:=lT;subst e;exact⟨aQ,a',_,CE,aG,CK,iI,iJ,k,rfl,eu⟩
       |_=>exact lT.elim
      |ret=>
       cases eT with
       |ret=>exact⟨aQ,a',_,CE,aG,CK,iI,iJ,k,eu⟩
       |_=>exact lT.elim
   cases aH with
   |ready=>exact key (by simp) h3
   |busy=>exact absurd (h3:cW.no=res).symm hn
   |done=>exact key (by simp) h3
   |exhausted=>exact absurd (h3:cW.no=res).symm hn
end Go.aj
namespace Go.aj
variable{X:Ctx}
def oo(X:Ctx)(bl:an dh):Prop:=∀f xf,bl.get f=some xf->∃Fn c,wW X f xf Fn c
def uV(X:Ctx)(gl:oj):Prop:=
 ∀(f:ci) (as:ac be) (st:aw) (r:dL),gl f as st=some r->∀(ι:bt) (as':ac be) (w:co),bM ι as as'->bn X ι st w->r≠.no->
  (∀as w,(callFunc f as).run X.P w= .ok (.enter f as) w)∧
  ∀(K:CallKind) (bq:Bool->ac Frame),kL ⟨f,K,none⟩ none ι bq->jR X ι w ⟨f,K,none⟩ bq (lone (Frame.enter X.P f as'.toArray K) (bq false) w) r
variable{gl:oj}{n:Nat}
def zl(bl:an dh)(gl:oj)(n:Nat)(f:ci)(first fm:ap be)(args:ac be)(ba:am be)(st:aw):
 cX bl gl (n+1) (.func (.func f) first fm) args ba st=
  bd ba (fun _=>bd (bl.get f) (fun xf=>pQ (cX bl gl n) n f xf (gG first.toList (gG args fm.toList)) ba st) .no)
   (bd (gl f (gG first.toList (gG args fm.toList)) st) (fun r=>r) (bd (bl.get f) (fun xf=>pQ (cX bl gl n) n f xf (gG first.toList (gG args fm.toList)) ba st) .no)):=rfl
def agz{bl:an dh}(du:Good X)(jd:oo X bl)(sd:uV X gl)(Dl:wX X (cX bl gl n))(nT:nv X (cX bl gl n)):wX X (cX bl gl (n+1)):=by
 intro ι f first fm args ba st vi oZ jT w h1 h2 h3 hw cl
 rw[zl]at cl⊢;simp only[qM]at cl⊢;have has:bM ι (first.toList++(args++fm.toList)) (vi.toList++(jT++oZ.toList)):=h1.append (h2.append h3);have Vz:(vi.toList++(jT++oZ.toList)).toArray=vi++jT.toArray++oZ:=by
  apply Array.ext';simp
 have zV:∀{K:CallKind} {bq:Bool->ac Frame} (xf:dh),bl.get f=some xf->kL ⟨f,K,none⟩ ba ι bq->
  jR X ι w ⟨f,K,none⟩ bq (lone (Frame.enter X.P f (vi++jT.toArray++oZ) K) (bq false) w) (pQ (cX bl gl n) n f xf (first.toList++(args++fm.toList)) ba st):=by
  intro K bq xf J hr;obtain⟨Fn,c,ok⟩:=jd f xf J;have:=QJ du nT Dl (fun b aO bq _=>OG nT b aO bq) ok n (K:=K) (bq:=bq) has hw hr;rw[Vz]at this;exact this
 have tC:∀xf,bl.get f=some xf->∀as w,(callFunc f as).run X.P w= .ok (.enter f as) w:=by
  intro xf J as w;obtain⟨Fn,c,ok⟩:=jd f xf J;exact ok.enters as w
 cases ba with
 |some sE=>
  cases J:bl.get f with
  |none=>rw[J]at cl;exact absurd rfl cl
  |some xf=>exact⟨tC xf J,fun K bq hr=>zV xf J hr⟩
 |none=>
  cases ai:gl f (first.toList++(args++fm.toList)) st with
  |some r=>
   rw[ai]at cl;obtain⟨aG,aI⟩:=sd f _ st r ai ι _ w has hw cl;refine⟨aG,fun K bq hr=> ?_⟩;have:=aI K bq hr;rw[Vz]at this;exact this
  |none=>
   cases J:bl.get f with
   |none=>rw[ai,J]at cl;exact absurd rfl cl
   |some xf=>exact⟨tC xf J,fun K bq hr=>zV xf J hr⟩
def jR.out{ι:bt}{w:co}{f:ci}{c:Frame}{cs:ac Frame}{gf:Frame}{r:dL}(h:jR X ι w ⟨f,.normal,none⟩ (fun _=>c::cs) (lone gf (c::cs) w) r):Bs X ι w gf c cs r:=by
 cases r with
 |no=>trivial
 |ret v st eF=>
  obtain⟨aQ,v',w',F,h1,h2,h3,au,aW,ch,dt⟩:=h;obtain⟨aG,aI,fn,a4,b2⟩:=ch;exact⟨aQ,v',w',h1,h2,h3,Steps.trans dt (.one (step_leave_returned ⟨aG,aI,au,fn,a4,b2⟩))⟩
 |ba v st eF=>
  obtain⟨aQ,v',w',F,h1,h2,h3,au,aW,ch,dt⟩:=h;exact⟨aQ,v',w',h1,h2,h3,Steps.trans dt (.one (step_leave_panicked ch))⟩
def adF{bl:an dh}(du:Good X)(Dl:wX X (cX bl gl (n+1)))(nT:nv X (cX bl gl n)):nv X (cX bl gl (n+1)):=by
 intro ι kg args st Gh jT w q3 ha hw cl;have Mk:=cl;obtain⟨fn,first,fm,rfl,_⟩:=Pl (v:=kg) (r:=cX bl gl (n+1) kg args none st) (z:=dL.no) rfl (fun e=>cl e.symm);cases q3 with
 |func _ aj0 _ ao _ vs fH fN gY ny Bw=>
  cases fn with
  |func f=>
   rcases fH with⟨rfl,_⟩|⟨l,b,h1,_⟩
   ·obtain⟨tC,kZ⟩:=Dl ι f first fm args none st ao vs jT w (bM.wa fN gY) ha (bM.wa ny Bw) hw cl
    refine⟨Frame.enter X.P f (ao++jT.toArray++vs) .normal,.enter f _ ?_,fun c cs=>jR.out (kZ .normal (fun _=>c::cs) (fun F eF av=> ?_))⟩
    ·simp only[Deferred.ofValue,Sem.run_bind,Sem.run_pure,Result.andThen,invoke];exact tC _ _
    ·have eh:F.kind= .normal:=av;simp[tryRecover,eh]
   ·cases h1
  |yield l=>
   have q2:first.toList=[]:=by
    cases hl:first.toList with
    |nil=>rfl
    |cons x xs=>
     exfalso;apply Mk;show List.rec (motive:=fun _=>dL) _ _ first.toList=_
     rw[hl]
   have oA:fm.toList=[]:=by
    cases hl:fm.toList with
    |nil=>rfl
    |cons x xs=>
     exfalso;apply Mk;show List.rec (motive:=fun _=>dL) (List.rec (motive:=fun _=>dL) _ _ fm.toList) _ first.toList=_
     rw[q2,hl]
   have jC:cX bl gl (n+1) (.func (.yield l) first fm) args none st=yW (cX bl gl n) n l args st:=by
    show List.rec (motive:=fun _=>dL) (List.rec (motive:=fun _=>dL) _ _ fm.toList) _ first.toList=_
    rw[q2,oA];rfl
   rcases fH with⟨_,gj⟩|⟨km,b,h1,h2,h3⟩
   ·exact absurd rfl (gj l)
   ·cases h1;subst h2;rw[jC]at cl⊢;obtain⟨fn,ts,dk,body,aA,nP⟩:=auw du nT (fun b aO bq=>OG nT b aO bq) h3 ha hw cl;refine⟨_,.round b fn ts dk body ?_,nP⟩;have vL:ao= #[]:=by
     have:=(bM.wa fN gY).1;rw[q2]at this;have h0:ao.size=0:=by simpa using this.symm
     exact Array.eq_empty_of_size_eq_zero h0
    simp only[Deferred.ofValue,Sem.run_bind,Sem.run_pure,Result.andThen,invoke,vL];simpa using aA
  |_=>exact absurd rfl Mk
theorem KE{bl:an dh}{gl:oj}(du:Good X)(jd:oo X bl)(sd:uV X gl):∀n,wX X (cX bl gl n)∧nv X (cX bl gl n)
 |0=>⟨fun ι f first fm args ba st vi oZ jT w _ _ _ _ cl=>absurd rfl cl,fun ι kg args st Gh jT w _ _ _ cl=>absurd rfl cl⟩
 |n+1=>by
  obtain⟨h1,h2⟩:=KE du jd sd n;have h3:=agz du jd sd h1 h2;exact⟨h3,adF du h3 h2⟩
end Go.aj
namespace Go.aj
variable{α:Type}
def an.sub(eq:α->α->Bool):an α->an α->Bool
 |.nil,_=>true
 |.node l v r,.nil=>v.isNone&&an.sub eq l .nil&&an.sub eq r .nil
 |.node l v r,.node l' v' dG=>(match v,v' with|none,_=>true|some x,some y=>eq x y|some _,none=>false)&&an.sub eq l l'&&an.sub eq r dG
def an.Ey{eq:α->α->Bool}(he:∀x y,eq x y=true->x=y):∀(a b:an α),an.sub eq a b=true->∀n x,a.get n=some x->b.get n=some x
 |.nil,_,_,n,x,h=>by simp at h
 |.node l v r,.nil,ae,n,x,h=>by
  simp only[an.sub,bX]at ae;exfalso;cases n with
  |zero=>rw[an.xu]at h;rw[h]at ae;simp at ae
  |succ m=>
   rw[an.p0]at h;split at h
   ·have:=an.Ey he l .nil ae.1.2 _ x h;simp at this
   ·have:=an.Ey he r .nil ae.2 _ x h;simp at this
 |.node l v r,.node l' v' dG,ae,n,x,h=>by
  simp only[an.sub,bX]at ae;cases n with
  |zero=>
   rw[an.xu]at h⊢;subst h;cases v' with
   |none=>simp at ae
   |some y=>rw[he x y ae.1.1]
  |succ m=>
   rw[an.p0]at h⊢;split at h
   ·rw[zab (by assumption)];exact an.Ey he l l' ae.1.2 _ x h
   ·rw[zaa (by assumption)];exact an.Ey he r dG ae.2 _ x h
def zE:ac d8->ac d8->Bool
 |[],[]=>true
 |e::es,f::bB=>dA e.key f.key&&dA e.val f.val&&Nat.beq e.born f.born&&zE es bB
 |_,_=>false
theorem RE:∀(es bB:ac d8),zE es bB=true->es=bB
 |[],[],_=>rfl
 |e::es,f::bB,h=>by
  simp only[zE,bX]at h;obtain⟨⟨⟨h1,h2⟩,h3⟩,au⟩:=h;cases e;cases f;rw[RE es bB au];simp only at h1 h2 h3;rw[nt _ _ h1,nt _ _ h2,ek h3]
 |[],_::_,h=>by simp[zE]at h
 |_::_,[],h=>by simp[zE]at h
def Fh:bD->bD->Bool
 |.map es c,.map af1 bT=>Nat.beq c bT&&zE es af1
 |.cells cs e a8 aX,.cells cs' cj eU Ct=>Nat.beq e cj&&Nat.beq a8.1 eU.1&&Nat.beq a8.2 eU.2&&(aX==Ct)&&lE cs cs'
 |.iV none,.iV none=>true
 |.iV (some []),.iV (some [])=>true
 |.dead,.dead=>true
 |_,_=>false
def acQ(x y:bD)(h:Fh x y=true):x=y:=by
 unfold Fh at h;split at h
 ·rw[bX]at h;rw[ek h.1,RE _ _ h.2]
 ·simp only[bX]at h;obtain⟨⟨⟨⟨h1,h2⟩,h3⟩,au⟩,aW⟩:=h;rename_i a8 _ _ _ eU _;have aq:a8=eU:=Prod.ext (ek h2) (ek h3);rw[ek h1,aq,yQ _ _ aW,zcn au]
 ·rfl
 ·rfl
 ·rfl
 ·cases h
def aw.le(s t:aw):Prop:=s.ag=t.ag∧∀n o,s.h.get n=some o->t.h.get n=some o
variable{s t:aw}
def aw.Hx(s t:aw):Bool:=Nat.beq s.ag t.ag&&an.sub Fh s.h t.h
def aw.anz(h:aw.Hx s t=true):aw.le s t:=by
 unfold aw.Hx at h;rw[bX]at h;exact⟨ek h.1,an.Ey acQ _ _ h.2⟩
def bn.less{X:Ctx}{ι:bt}{w:co}(hl:aw.le s t)(h:bn X ι t w):bn X ι s w:=by
 refine⟨fun id o ai al=>h.eE id o (hl.2 _ _ ai) al,fun i j o p l m hi hJ hj hW=>h.inj i j o p l m (hl.2 _ _ hi) hJ (hl.2 _ _ hj) hW,fun id oB=> ?_,h.gQ,h.mm,?_,fun i l o ck ae ai al=>h.mK i l o ck ae (hl.2 _ _ ai) al⟩
 ·have:=h.fresh id (by rw[<-hl.1];exact oB);refine⟨this.1,?_⟩;cases e:s.h.get id with
  |none=>rfl
  |some o=>rw[hl.2 _ _ e]at this;cases this.2
 ·rw[hl.1];exact h.p1
structure Row where
 as:ac be
 st:aw
 v:be
 st':aw
def Row.VT(r:Row)(as:ac be)(st:aw):Bool:=Nat.beq r.st.ag st.ag&&lE r.as as&&an.sub Fh r.st.h st.h
variable{X:Ctx}
def fZ(X:Ctx)(f:ci)(r:Row):Prop:=
 ∀(ι:bt) (as':ac be) (w:co),bM ι r.as as'->bn X ι r.st w->
  (∀as w,(callFunc f as).run X.P w= .ok (.enter f as) w)∧
  ∀(K:CallKind) (bq:Bool->ac Frame),kL ⟨f,K,none⟩ none ι bq->jR X ι w ⟨f,K,none⟩ bq (lone (Frame.enter X.P f as'.toArray K) (bq false) w) (.ret r.v r.st' false)
variable{v:be}{st':aw}
def dm(r:dL)(v:be)(st':aw):Bool:=
 dL.rec (motive:=fun _=>Bool) (fun v1 cg eF=>cond eF false (cond (dA v v1) (aw.Hx st' cg) false)) (fun _ _ _=>false) false r
def jR.less{ι:bt}{w:co}{b:dK}{bq:Bool->ac Frame}{s:Machine}{st:aw}{eF:Bool}(hl:aw.le st' st)(h:jR X ι w b bq s (.ret v st eF)):jR X ι w b bq s (.ret v st' eF):=by
 obtain⟨aQ,v',w',F,h1,h2,h3,au,aW,ch,dt⟩:=h;exact⟨aQ,v',w',F,h1,bn.less hl h2,h3,au,aW,ch,dt⟩
def adO{r:dL}(h:dm r v st'=true):∃cg,r= .ret v cg false∧aw.le st' cg:=by
 cases r with
 |no=>cases h
 |ba a b c=>cases h
 |ret v1 cg eF=>
  cases eF with
  |true=>cases h
  |false=>
   have az:cond (dA v v1) (aw.Hx st' cg) false=true:=h;cases aF:dA v v1 with
   |false=>rw[aF]at az;cases az
   |true=>
    rw[aF]at az;exact⟨cg,by rw[nt _ _ aF],aw.anz az⟩
def aaa{bl:an dh}{gl:oj}(du:Good X)(jd:oo X bl)(sd:uV X gl){n:Nat}{f:ci}{r:Row}
 (h:dm (cX bl gl n (.func (.func f) #[] #[]) r.as none r.st) r.v r.st'=true):fZ X f r:=by
 obtain⟨cg,he,hl⟩:=adO h;intro ι as' w ha hw;have ae:=(KE du jd sd n).1 ι f #[] #[] r.as none r.st #[] #[] as' w (bM.nil ι) ha (bM.nil ι) hw (by rw[he];intro e;cases e);refine⟨ae.1,fun K bq hr=> ?_⟩;have aa:=ae.2 K bq hr;rw[he]at aa;have e:(#[]++as'.toArray++ #[]:ap be)=as'.toArray:=by simp
 rw[e]at aa;exact jR.less hl aa
end Go.aj
namespace Go.aj
variable{X:Ctx}
