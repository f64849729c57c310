/- In every world in which the listed variables read as the claim says, the call of TuneChecks returns true and changes nothing. -/
import Derived.Test.YteenccgikdibpaaGreatDoorRows
import Derived.Handed
import Derived.ProofKit
import Derived.OpenShut
import Derived.Shelf.Vars
import Derived.Lay
import Derived.LaidMore
import Derived.ChangeMaps5
import Derived.Lib.SmallJoins
import Derived.WideKeyArgs
import Derived.ChangeAgain
import Derived.Test.YteenccgikdibpaaGreatDoorC4
import Derived.Test.YteenccgikdibpaaGreatDoorS2
import Derived.Test.YteenccgikdibpaaGreatDoorM3
set_option linter.all false
namespace Go.Proofs.YteenccgikdibpaaGreatDoor
open Go.ChangeShapes Go.WideShapes Go.ChangeAt Go.RowKit Go.an
set_option maxRecDepth 100000
theorem own:ownKnob Tryz.prog.godebug=none:=by kernel_rfl
theorem cR{P:Program}{W:World}(h:W.ShapedOpen P){g:Nat}{t:TypeId}(aO:g<P.globals.size)(h0:(((begin P (fun _ _=>0) default).world.heap[g]?).bind Obj.row?).map (·.2)=some t):∃cs,W.heap[g]? =some (.cells cs t):=by
 obtain⟨⟨z,gV⟩,aA,e2⟩:=Option.map_eq_some_iff.1 h0;simp only at e2;subst e2;obtain⟨cs,h1,_⟩:=h.1 g z gV aO aA;exact⟨cs,h1⟩
theorem wJ:Tryz.prog.globals.size=12:=by kernel_rfl
theorem XE:(Rows.tuneChecksRow.laid.all fun x=>x.2.handleName?.isNone)=true:=by kernel_rfl
theorem ajw{W:World}{ps:List MemPlace}(hl:DataW.LaidVars Tryz.prog W Rows.tuneChecksRow.laid ps)(ah:W.ShapedOpen Tryz.prog):tX 12 W g4.n2:=
 FU (n:=4) (t:=306) (name:= "vernier/lang.shapes") (d:=Rows.laid_vernier_lang_shapes) hl (by simp[Rows.tuneChecksRow]) (by kernel_rfl) (by kernel_rfl) (by kernel_rfl) (by decide) (by decide) (by kernel_rfl) (cR ah (by rw[wJ];decide) (by kernel_rfl))
theorem ajx{W:World}{ps:List MemPlace}(hl:DataW.LaidVars Tryz.prog W Rows.tuneChecksRow.laid ps)(ah:W.ShapedOpen Tryz.prog):tX 12 W g4.xU:=
 FU (n:=4) (t:=345) (name:= "vernier/lang.after") (d:=Rows.laid_vernier_lang_after) hl (by simp[Rows.tuneChecksRow]) (by kernel_rfl) (by kernel_rfl) (by kernel_rfl) (by decide) (by decide) (by kernel_rfl) (cR ah (by rw[wJ];decide) (by kernel_rfl))
theorem ajz{W:World}{ps:List MemPlace}(hl:DataW.LaidVars Tryz.prog W Rows.tuneChecksRow.laid ps)(ah:W.ShapedOpen Tryz.prog):tX 12 W g4.vx:=
 FU (n:=4) (t:=464) (name:= "internal/strconv.uint64pow10") (d:=Rows.laid_internal_strconv_uint64pow10) hl (by simp[Rows.tuneChecksRow]) (by kernel_rfl) (by kernel_rfl) (by kernel_rfl) (by decide) (by decide) (by kernel_rfl) (cR ah (by rw[wJ];decide) (by kernel_rfl))
theorem ajA{W:World}{ps:List MemPlace}(hl:DataW.LaidVars Tryz.prog W Rows.tuneChecksRow.laid ps)(ah:W.ShapedOpen Tryz.prog):tX 12 W g4.Ap:=
 FU (n:=4) (t:=484) (name:= "math/bits.deBruijn32tab") (d:=Rows.laid_math_bits_deBruijn32tab) hl (by simp[Rows.tuneChecksRow]) (by kernel_rfl) (by kernel_rfl) (by kernel_rfl) (by decide) (by decide) (by kernel_rfl) (cR ah (by rw[wJ];decide) (by kernel_rfl))
theorem ajy{W:World}(ah:W.ShapedOpen Tryz.prog):tX 12 W g4.n3:=by
 have h0:((begin Tryz.prog (fun _ _=>0) default).world.heap[4]?).bind Obj.row?=some (#[.int .i64 0],3):=by kernel_rfl
 obtain⟨cs,h1,h2,_⟩:=ah.1 4 _ 3 (by rw[wJ];decide) h0;obtain⟨m,hm⟩:=cell_of_shapedOpen_int (k:=.i64) ah (by rw[wJ];decide) h0 rfl (by kernel_rfl) (by kernel_rfl) Tryz.underlying3;have hc:cs= #[.int .i64 m]:=by
  have h3:cs[0]? =some (.int .i64 m):=by simpa[World.cell?,h1]using hm
  obtain⟨l⟩:=cs
  match l,h2,h3 with
  |[x],_,h3=>simp at h3;rw[h3]
 refine⟨by decide,[.chan (some 1)],3,1,cs,_,rfl,by decide,h1,?_⟩;rw[hc];exact .cons (.iC 1 m (.inl rfl)) (.nil _)
theorem ajK{W:World}(ah:W.ShapedOpen Tryz.prog):12<=W.heap.size:=by
 obtain⟨cs,h⟩:=cR (g:=11) (t:=507) ah (by rw[wJ];decide) (by kernel_rfl);have:=(Array.getElem?_eq_some_iff.1 h).1;omega
theorem aa6:Tryz.prog.underlying 35=some (.struct #[Field.mk "Prog" 27 0 false "" "" 0,Field.mk "Task" 33 8 false "" "" 128,Field.mk "Formats" 28 16 false "" "" 224]):=by kernel_rfl
def aoV:List TypeId:=[22,3,23,24,3,3,25,3,28,28,29,3,3,3,4,4,28]
theorem aoW:Tryz.prog.cellTypes Tryz.prog.depth 35=some aoV:=by kernel_rfl
def m1:List q6:=[.a6 2 [.i .i64,.i .i64],.i .i64,.a6 3 [.i .i64,.s,.s],.a6 7 [.i .i64,.i .i64,.i .i64,.i .i64,.i .i64,.i .i64,.s],.i .i64,.i .i64,.a6 2 [.i .i64,.i .i64],.i .i64,.a6 1 [.i .i64],.a6 1 [.i .i64],.s,.i .i64,.i .i64,.i .i64,.b,.b,.a6 1 [.i .i64]]
theorem acW:BJ Tryz.prog 6 35=some m1:=by kernel_rfl
theorem as1:Tryz.prog.underlying 22=some (.slice 92):=by kernel_rfl
theorem as2:Tryz.prog.underlying 23=some (.slice 95):=by kernel_rfl
theorem as3:Tryz.prog.underlying 24=some (.slice 87):=by kernel_rfl
theorem as4:Tryz.prog.underlying 25=some (.slice 99):=by kernel_rfl
theorem Oj:Tryz.prog.underlying 28=some (.slice 3):=by kernel_rfl
theorem params3:Tryz.f3.params.toList=[35]:=by kernel_rfl
theorem results3:Tryz.f3.resultTypes.toList=[4]:=by kernel_rfl
theorem aoe:Tryz.f3.resultTypes.size=1:=by kernel_rfl
theorem am7:laidOutB Tryz.prog=true:=by kernel_rfl
theorem ap6:Tryz.prog.readableRec 35=true:=by kernel_rfl
theorem aqi:35<Tryz.prog.types.size:=of_decide_eq_true (by kernel_rfl)
section
variable{B:Nat}{W:World}{gs:List (Nat×bw)}
theorem KB(vs:List Value):nA B W [.i .i64] vs->∃x:Int,di (fun b=>(j8 gs W).get b) (bh.cw x) [] (vs.map (toA W.heap.size))∧True:=by
 rintro⟨v,_,rfl,⟨m,rfl,_⟩,rfl⟩;exact⟨m,⟨_,_,rfl,rfl,rfl⟩,trivial⟩
theorem afK(vs:List Value):nA B W [.i .i64,.i .i64] vs->∃x:Int×Int,di (fun b=>(j8 gs W).get b) (bh.m6 x) [] (vs.map (toA W.heap.size))∧True:=by
 rintro⟨v,_,rfl,⟨m,rfl,_⟩,v',_,rfl,⟨fq,rfl,_⟩,rfl⟩;exact⟨(m,fq),⟨_,_,rfl,rfl,_,_,rfl,rfl,rfl⟩,trivial⟩
theorem afN(vs:List Value):nA B W [.i .i64,.i .i64] vs->∃x:bh.jn,di (fun b=>(j8 gs W).get b) (bh.nF x) [] (vs.map (toA W.heap.size))∧True:=by
 rintro⟨v,_,rfl,⟨m,rfl,_⟩,v',_,rfl,⟨fq,rfl,_⟩,rfl⟩;exact⟨⟨m,fq⟩,⟨_,_,rfl,rfl,_,_,rfl,rfl,rfl⟩,trivial⟩
theorem afL(vs:List Value):nA B W [.i .i64,.s,.s] vs->∃x:bh.iH,di (fun b=>(j8 gs W).get b) (bh.lZ x) [] (vs.map (toA W.heap.size))∧(x.bb.length<=B∧x.ae.length<=B):=by
 rintro⟨v,_,rfl,⟨m,rfl,_⟩,v',_,rfl,⟨s,rfl,h1⟩,au4,_,rfl,⟨br,rfl,h2⟩,rfl⟩;exact⟨⟨m,s.data.toList,br.data.toList⟩,⟨_,_,rfl,rfl,_,_,rfl,rfl,_,_,rfl,rfl,rfl⟩,h1,h2⟩
theorem afM(vs:List Value):nA B W [.i .i64,.i .i64,.i .i64,.i .i64,.i .i64,.i .i64,.s] vs->∃x:bh.db,di (fun b=>(j8 gs W).get b) (bh.gf x) [] (vs.map (toA W.heap.size))∧x.v.length<=B:=by
 rintro⟨v0,_,rfl,⟨xx,rfl,_⟩,v1,_,rfl,⟨fK,rfl,_⟩,v2,_,rfl,⟨iQ,rfl,_⟩,aba,_,rfl,⟨xy,rfl,_⟩,v4,_,rfl,⟨ve,rfl,_⟩,as5,_,rfl,⟨vf,rfl,_⟩,v6,_,rfl,⟨s,rfl,h1⟩,rfl⟩;exact⟨⟨xx,fK,iQ,xy,ve,vf,s.data.toList⟩,⟨_,_,rfl,rfl,_,_,rfl,rfl,_,_,rfl,rfl,_,_,rfl,rfl,_,_,rfl,rfl,_,_,rfl,rfl,_,_,rfl,rfl,rfl⟩,h1⟩
theorem aci{vs:List Value}(h:nA B W m1 vs)(hh:∀(i:Nat) (v:Value),vs[i]? =some v->i=0∨i=2∨i=3∨i=6∨i=8∨i=9∨i=16->F4 W v):
 ∃p t fs,((∀x∈p.ins,x.bb.length<=B∧x.ae.length<=B)∧∀n∈p.aD,n.v.length<=B)∧di (fun b=>(j8 gs W).get b) (bh.Bv p t fs) [] (vs.map (toA W.heap.size)):=by
 obtain⟨v0,_,rfl,h0,v1,_,rfl,⟨fK,rfl,_⟩,v2,_,rfl,h2,aba,_,rfl,h3,v4,_,rfl,⟨ve,rfl,_⟩,as5,_,rfl,⟨vf,rfl,_⟩,v6,_,rfl,b7,au9,_,rfl,⟨anx,rfl,_⟩,as6,_,rfl,hr,as7,_,rfl,gD,v10,_,rfl,⟨s,rfl,_⟩,v11,_,rfl,⟨anu,rfl,_⟩,au5,_,rfl,⟨anv,rfl,_⟩,au6,_,rfl,⟨anw,rfl,_⟩,au7,_,rfl,⟨acm,rfl⟩,au8,_,rfl,⟨acn,rfl⟩,as0,_,rfl,KW,rfl⟩:=h;obtain⟨k7,_,_,d0⟩:=yi (gs:=gs) afK h0 (hh 0 v0 rfl (by decide));obtain⟨fJ,_,xU,d2⟩:=yi (gs:=gs) afL h2 (hh 2 v2 rfl (by decide));obtain⟨l1,_,X3,d3⟩:=yi (gs:=gs) afM h3 (hh 3 aba rfl (by decide));obtain⟨zR,_,_,d6⟩:=yi (gs:=gs) afN b7 (hh 6 v6 rfl (by decide));obtain⟨am4,_,_,d8⟩:=yi (gs:=gs) KB hr (hh 8 as6 rfl (by decide));obtain⟨am5,_,_,d9⟩:=yi (gs:=gs) KB gD (hh 9 as7 rfl (by decide));obtain⟨am3,_,_,d16⟩:=yi (gs:=gs) KB KW (hh 16 as0 rfl (by decide));exact⟨⟨k7,fK,fJ,l1,ve,vf,zR,anx⟩,⟨am4,am5,s.data.toList,anu,anv,anw,acm,acn⟩,am3,⟨xU,X3⟩,
  ⟨_,_,rfl,d0,_,_,rfl,rfl,_,_,rfl,d2,_,_,rfl,d3,_,_,rfl,rfl,_,_,rfl,rfl,_,_,rfl,d6,_,_,rfl,rfl,_,_,rfl,d8,_,_,rfl,d9,_,_,rfl,rfl,_,_,rfl,rfl,_,_,rfl,rfl,_,_,rfl,rfl,_,_,rfl,rfl,_,_,rfl,rfl,_,_,rfl,d16,rfl⟩⟩
end
theorem wT:∀p∈g4.ks.gs,(ke g4.ks.gs .nil).get p.1=some p.2:=bh.FY (by kernel_rfl) (by kernel_rfl) (by kernel_rfl) (by kernel_rfl) (by kernel_rfl)
theorem rB:∀p∈g4.ks.gs,p.1<12:=bh.FY (by decide) (by decide) (by decide) (by decide) (by decide)
theorem aqh{W:World}(eJ:12<=W.heap.size){vs:List Value}{p:bh.bH}{t:bh.gj}{fs:List Int}(gO:bh.qg p)(av:di (fun b=>(j8 g4.ks.gs W).get b) (bh.Bv p t fs) [] (vs.map (toA W.heap.size))):
 ∃st',cx aC.ctx 3 ⟨[.agg ⟨vs.map (toA W.heap.size)⟩],⟨j8 g4.ks.gs W,2*W.heap.size⟩,.bool true,st'⟩:=by
 have hn:∀q∈g4.ks.gs,q.1<W.heap.size:=fun q hq=>Nat.lt_of_lt_of_le (rB q hq) eJ;have hp:(bh.L6 bh.GS bh.GS.up).spec.pre ((p,t,fs),fun b=>(j8 g4.ks.gs W).get b) [.agg ⟨vs.map (toA W.heap.size)⟩] ⟨j8 g4.ks.gs W,2*W.heap.size⟩:=
  ⟨gO,fun q hq=>(akB (hn q hq)).trans (wT q hq),⟨fun b aa=>akD hn b aa,fun b o h=>h,rfl,rfl,List.nodup_nil,fun b aa=>by simp at aa,fun k o b U=>by simp at U⟩,
   ⟨_,_,rfl,⟨_,rfl,av⟩,rfl⟩⟩
 obtain⟨v,st',dB,aQ⟩:=bh.VM _ _ ⟨_,hp⟩;obtain⟨bs,_,_,aH⟩:=dB _ hp;have aH:v= .bool true:=aH;subst aH;exact⟨st',aQ⟩
theorem run{W:World}{vs:Array Value}{p:bh.bH}{t:bh.gj}{fs:List Int}(gO:bh.qg p)(av:di (fun b=>(j8 g4.ks.gs W).get b) (bh.Bv p t fs) [] (vs.toList.map (toA W.heap.size)))(hl:laidMetH Tryz.prog Rows.tuneChecksRow.laid W)(ah:W.ShapedOpen Tryz.prog):
 Calls Tryz.prog 3 #[.agg vs] W fun e ud=>e= .returned (.bool true)∧W.keptBut ud (fun _=>False)∧∀i,i<W.heap.size->ud.heap[i]? =W.heap[i]? :=by
 rw[MakeChecks.laidMetH_plain _ _ _ XE]at hl;obtain⟨ps,hl,_⟩:=hl;have eJ:=ajK ah;obtain⟨st',aQ⟩:=aqh eJ gO av;have hw:bt aC.ctx (mN 12 W.heap.size) ⟨j8 g4.ks.gs W,2*W.heap.size⟩ W:=atH (X:=aC.ctx) (gs:=g4.ks.gs) eJ (bh.FY (ajw hl ah) (ajx hl ah) (ajy ah) (ajz hl ah) (ajA hl ah));have ha:bN (mN 12 W.heap.size) [.agg ⟨vs.toList.map (toA W.heap.size)⟩] [.agg vs]:=.cons (.agg _ _ (by simp) fun i h aB=>by
  have:=Z5 (g:=12) eJ vs[i];simpa using this) (.nil _)
 refine(acL aQ (as':=[.agg vs]) ha hw).mono fun e ud ⟨aV,v',he,aH,_,U⟩=> ?_;have aH:bq aV (.bool true) v':=aH;cases aH;have Gi:∀i,i<W.heap.size->ud.heap[i]? =W.heap[i]? :=fun i ae=>U.kept i ae fun j l hl aO=>by
  unfold mN at hl;split at hl
  ·cases hl;exact absurd rfl aO
  ·split at hl
   ·cases hl;exact absurd rfl aO
   ·cases hl
 refine⟨he,⟨U.gU.1,U.gU.2,fun i ae=> ?_⟩,Gi⟩;rw[Gi i ae];exact(World.keptBut_refl W (fun _=>False)).2.2 i ae
theorem aqt{W ud:World}(h:∀i,i<W.heap.size->ud.heap[i]? =W.heap[i]?){p:MemPlace}(hp:p.block<W.heap.size):W.sameAt ud p:=by
 cases p with
 |cell b o=>exact World.cell?_of_block (w:=W) (h b hp)
 |map b=>exact h b hp
theorem akm{W:World}{cs:Array Value}(h:Value.okWide Tryz.prog W .any 0 35 (.agg cs))(i:Nat)(v:Value)(aH:cs.toList[i]? =some v)(ae:i=0∨i=2∨i=3∨i=6∨i=8∨i=9∨i=16):F4 W v:=by
 simp only[Value.okWide,aa6]at h;obtain⟨cs',e,_,ts,h1,_,h2⟩:=h;cases e;rw[aoW]at h1;cases h1;obtain⟨u,h3,ay⟩:=h2 i v (by simpa using aH);rcases ae with rfl|rfl|rfl|rfl|rfl|rfl|rfl<;>cases h3
 ·exact wM as1 ay
 ·exact wM as2 ay
 ·exact wM as3 ay
 ·exact wM as4 ay
 ·exact wM Oj ay
 ·exact wM Oj ay
 ·exact wM Oj ay
def Ou:Array Value:= #[.agg #[.slice none 0 0,.int .i64 0,.slice none 0 0,.slice none 0 0,.int .i64 0,.int .i64 0,.slice none 0 0,.int .i64 0,.slice none 0 0,.slice none 0 0,.string ⟨#[]⟩,.int .i64 0,.int .i64 0,.int .i64 0,.bool false,.bool false,.slice none 0 0]]
theorem met(os:Os):laidMetH Tryz.prog Rows.tuneChecksRow.laid ((World.laidAll Tryz.prog os Rows.tuneChecksRow.laid).forCall (fun _ _=>0) ⟨#[],Ou,[]⟩).memory:=by
 rw[MakeChecks.laidMetH_plain _ _ _ XE];exact laidMet_laidAll Ou (by kernel_rfl) (by kernel_rfl)
theorem lifted(os:Os)(started:os.Started)(H:Type)(enc:TypeId×Value->H):
 ReturnsInHanded {} Tryz.checked os 3 .any (fun w args=>(Rows.tuneChecksSpec.pre enc Tryz.prog Tryz.f3 [] false w args∧laidMetH Tryz.prog Rows.tuneChecksRow.laid w)∧sizedMet enc Tryz.prog Tryz.f3 (OpenSpec.ofChange Rows.tuneChecksSpec) false w args)
  (Rows.tuneChecksSpec.post enc Tryz.prog Tryz.f3 false true false false):=by
 refine returnsInHanded_of_calls (C:=Tryz.checked) own started (by kernel_rfl)
  (ChangeSpec.witness_shaped (enc:=enc) (C:=Tryz.checked) (os:=os) (X:=fun w _=>laidMetH Tryz.prog Rows.tuneChecksRow.laid w) false (World.laidAll Tryz.prog os Rows.tuneChecksRow.laid) Ou 8 (World.laidAll_os _ _ _) (World.shaped_of_RefB (by kernel_rfl) (by kernel_rfl)) (by kernel_rfl) (by kernel_rfl) (by kernel_rfl) (met os)) ?_
 intro w tape i _ zJ _ bP w6 _;obtain⟨_,_,_,qt,akM,_,_,_,_,xh⟩:=bP;have akI:qt=Tryz.f3:=Option.some.inj (akM.symm.trans Tryz.func3);subst akI;obtain⟨⟨_,J⟩,⟨_,ds,gs,before,hw,fx⟩⟩:=w6;have ev:DataW.Whole enc Tryz.prog Tryz.f3.params.toList Rows.tuneChecksSpec.vars false (w.forCall tape i) i.args.toList ds gs before:=DataW.Whole.of_heap (w':=w.forCall tape i) (by rfl) hw;have hl:laidMetH Tryz.prog Rows.tuneChecksRow.laid (w.forCall tape i):=J.of_heap (by rfl);have aP:=ev.lt;have gq:=ev;obtain⟨p,q,eF,hy,aa,_,_⟩:=gq;have aH:gs=[]∧q=[]:=by
  cases gs with
  |cons y aq=>exact hy.elim
  |nil=>exact⟨rfl,hy⟩
 obtain⟨rfl,rfl⟩:=aH;rw[List.append_nil]at aa;subst aa;have F1:=eF;rw[params3]at F1;obtain⟨v,d,ha,rfl,gO⟩:=trodAll_one F1;have bD:Tryz.f3.params[0]? =some 35:=by kernel_rfl
 have pN:=xh 0 35 v bD (by rw[ha];rfl);obtain⟨cs,rfl,_⟩:=okWide_struct aa6 pN;have al2:∀x∈d.weights Tryz.prog 35,x<=reachBytes:=fun x J=>by
  have h1:=List.all_eq_true.1 fx x (Ov (i:=0) (t:=35) (d:=d) (by rw[params3];rfl) rfl J);exact of_decide_eq_true h1
 obtain⟨fuel,Ur⟩:=gO;have aQ:=JR 6 fuel 35 cs.toList d _ m1 Ur acW al2;obtain⟨P,T,F,a5,av⟩:=aci (gs:=g4.ks.gs) aQ (fun j v hj ae=>akm (Value.okWide_any_base pN) j v hj ae);rw[ha];refine(run (p:=P) (t:=T) (fs:=F) ⟨fun x J=>⟨Nat.le_trans (a5.1 x J).1 (by decide),Nat.le_trans (a5.1 x J).2 (by decide)⟩,fun n hn=>Nat.le_trans (a5.2 n hn) (by decide)⟩ av hl zJ).mono fun e ud ⟨he,U,Gi⟩=> ?_;subst he;refine ChangeSpec.post_blind ⟨[d],[],before,[],before,[],by rw[ha]at ev;exact ev,?_,?_,rfl,?_,fun h=>by cases h⟩
 ·rw[results3,aoe];exact trodAll_mk1 (shut_bool Tryz.underlying4 _)
 ·rw[params3];exact trodAll_mk1 (Go.WideElems.Trod_stays am7 ap6 aqi ⟨fuel,Ur⟩ (fun x J=>aqt Gi (aP x J)) (fun x J=>by simpa using aP x J))
 ·exact World.keptBut_mono (fun _ h=>h.elim) U
