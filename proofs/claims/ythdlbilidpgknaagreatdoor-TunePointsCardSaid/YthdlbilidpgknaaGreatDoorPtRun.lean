/- In every world in which the listed variables read as the claim says, the call of TunePoints returns true and changes nothing. -/
import Derived.Test.YthdlbilidpgknaaGreatDoorRows
import Derived.Handed
import Derived.ProofKit
import Derived.OpenShut
import Derived.Shelf.Vars
import Derived.Lay
import Derived.LaidMore
import Derived.ChangeMaps5
import Derived.Lib.SmallJoins
import Derived.WideKeyArgs
import Derived.ChangeAgain
import Derived.Test.YthdlbilidpgknaaGreatDoorPtC5
import Derived.Test.YthdlbilidpgknaaGreatDoorPtS2
import Derived.Test.YthdlbilidpgknaaGreatDoorPtM3
set_option linter.all false
namespace Go.Proofs.YthdlbilidpgknaaGreatDoor
open Go.ChangeShapes Go.WideShapes Go.ChangeAt Go.RowKit Go.ak
set_option maxRecDepth 100000
variable{ps:ac MemPlace}
def own:ownKnob Tryz.prog.godebug=none:=by kernel_rfl
def sh{P:d9}{W:co}(h:W.ShapedOpen P){g:Nat}{t:ce}(aO:g<P.globals.size)(h0:(((begin P (fun _ _=>0) default).world.heap[g]?).bind Obj.row?).map (·.2)=some t):∃cs,W.heap[g]? =some (.cells cs t):=by
 obtain⟨⟨z,hd⟩,aw,e2⟩:=zbm.1 h0;simp only at e2;subst e2;obtain⟨cs,J,_⟩:=h.1 g z hd aO aw;exact⟨cs,J⟩
def gsN:Tryz.prog.globals.size=12:=by kernel_rfl
def plainLaid:(Rows.tunePointsRow.laid.all fun x=>x.2.handleName?.isNone)=true:=by kernel_rfl
def gl0{W:co}(hl:DataW.LaidVars Tryz.prog W Rows.tunePointsRow.laid ps)(ai:W.ShapedOpen Tryz.prog):td 12 W j1.lZ:=
 CP (n:=4) (t:=280) (name:= "vernier/lang.shapes") (d:=Rows.laid_vernier_lang_shapes) hl (by simp[Rows.tunePointsRow]) (by kernel_rfl) (by kernel_rfl) (by kernel_rfl) (by decide) (by decide) (by kernel_rfl) (sh ai (by rw[gsN];decide) (by kernel_rfl))
def gl3{W:co}(hl:DataW.LaidVars Tryz.prog W Rows.tunePointsRow.laid ps)(ai:W.ShapedOpen Tryz.prog):td 12 W j1.sM:=
 CP (n:=4) (t:=377) (name:= "vernier/lang.after") (d:=Rows.laid_vernier_lang_after) hl (by simp[Rows.tunePointsRow]) (by kernel_rfl) (by kernel_rfl) (by kernel_rfl) (by decide) (by decide) (by kernel_rfl) (sh ai (by rw[gsN];decide) (by kernel_rfl))
def gl5{W:co}(hl:DataW.LaidVars Tryz.prog W Rows.tunePointsRow.laid ps)(ai:W.ShapedOpen Tryz.prog):td 12 W j1.rD:=
 CP (n:=4) (t:=459) (name:= "vernier/floats.mirrored") (d:=Rows.laid_vernier_floats_mirrored) hl (by simp[Rows.tunePointsRow]) (by kernel_rfl) (by kernel_rfl) (by kernel_rfl) (by decide) (by decide) (by kernel_rfl) (sh ai (by rw[gsN];decide) (by kernel_rfl))
def gl8{W:co}(hl:DataW.LaidVars Tryz.prog W Rows.tunePointsRow.laid ps)(ai:W.ShapedOpen Tryz.prog):td 12 W j1.pt:=
 CP (n:=4) (t:=488) (name:= "internal/strconv.uint64pow10") (d:=Rows.laid_internal_strconv_uint64pow10) hl (by simp[Rows.tunePointsRow]) (by kernel_rfl) (by kernel_rfl) (by kernel_rfl) (by decide) (by decide) (by kernel_rfl) (sh ai (by rw[gsN];decide) (by kernel_rfl))
def gl9{W:co}(hl:DataW.LaidVars Tryz.prog W Rows.tunePointsRow.laid ps)(ai:W.ShapedOpen Tryz.prog):td 12 W j1.pv:=
 CP (n:=4) (t:=497) (name:= "math/bits.deBruijn32tab") (d:=Rows.laid_math_bits_deBruijn32tab) hl (by simp[Rows.tunePointsRow]) (by kernel_rfl) (by kernel_rfl) (by kernel_rfl) (by decide) (by decide) (by kernel_rfl) (sh ai (by rw[gsN];decide) (by kernel_rfl))
def gl1{W:co}(ai:W.ShapedOpen Tryz.prog):td 12 W j1.lh:=by
 have h0:((begin Tryz.prog (fun _ _=>0) default).world.heap[1]?).bind Obj.row?=some (#[.int .i64 0],3):=by kernel_rfl
 obtain⟨cs,J,U,_⟩:=ai.1 1 _ 3 (by rw[gsN];decide) h0;obtain⟨m,hm⟩:=cell_of_shapedOpen_int (k:=.i64) ai (by rw[gsN];decide) h0 rfl (by kernel_rfl) (by kernel_rfl) Tryz.underlying3;have hc:cs= #[.int .i64 m]:=by
  have af:cs[0]? =some (.int .i64 m):=by simpa[World.cell?,J]using hm
  obtain⟨l⟩:=cs
  match l,U,af with
  |[x],_,af=>simp at af;rw[af]
 refine⟨by decide,[.chan (some 1)],3,1,cs,_,rfl,by decide,J,?_⟩;rw[hc];exact .cons (.iE 1 m (.inl rfl)) (.nil _)
def gsz{W:co}(ai:W.ShapedOpen Tryz.prog):12<=W.heap.size:=by
 obtain⟨cs,h⟩:=sh (g:=11) (t:=520) ai (by rw[gsN];decide) (by kernel_rfl);have:=(zbk.1 h).1;omega
def u27:Tryz.prog.underlying 27=some (.struct #[Field.mk "Formats" 22 0 false "" "" 0,Field.mk "Mode" 3 1 false "" "" 24,Field.mk "Inputs" 23 2 false "" "" 32,Field.mk "Nodes" 24 3 false "" "" 56,Field.mk "Head" 3 4 false "" "" 80,Field.mk "Tail" 3 5 false "" "" 88,Field.mk "States" 25 6 false "" "" 96,Field.mk "Result" 3 7 false "" "" 120]):=by kernel_rfl
def pts:ac ce:=[22,3,23,24,3,3,25,3]
def pts27:Tryz.prog.cellTypes Tryz.prog.depth 27=some pts:=by kernel_rfl
def v22:Tryz.prog.underlying 22=some (.slice 76):=by kernel_rfl
def v23:Tryz.prog.underlying 23=some (.slice 38):=by kernel_rfl
def v24:Tryz.prog.underlying 24=some (.slice 126):=by kernel_rfl
def v25:Tryz.prog.underlying 25=some (.slice 182):=by kernel_rfl
def uN:Tryz.prog.underlying 3=some (.int .i64):=by kernel_rfl
def params3:Tryz.f3.params.toList=[27,3,3]:=by kernel_rfl
def results3:Tryz.f3.resultTypes.toList=[4]:=by kernel_rfl
def nres3:Tryz.f3.resultTypes.size=1:=by kernel_rfl
def laid3:laidOutB Tryz.prog=true:=by kernel_rfl
def recs27:Tryz.prog.readableRec 27=true:=by kernel_rfl
def row27:27<Tryz.prog.types.size:=zbT (by kernel_rfl)
section
variable{B:Nat}{W:co}{gs:ac (Nat×bH)}
def el_fm(vs:ac be):oD B W [.i .i64,.i .i64] vs->∃x:Int×Int,dj (fun b=>(kt gs W).get b) (a2.Sp x) [] (vs.map (toA W))∧True:=by
 rintro⟨v,_,rfl,⟨m,rfl,_⟩,v',_,rfl,⟨fi,rfl,_⟩,rfl⟩;exact⟨(m,fi),⟨_,_,rfl,rfl,_,_,rfl,rfl,rfl⟩,trivial⟩
def el_st(vs:ac be):oD B W [.i .i64,.i .i64] vs->∃x:a2.w2,dj (fun b=>(kt gs W).get b) (a2.abF x) [] (vs.map (toA W))∧True:=by
 rintro⟨v,_,rfl,⟨m,rfl,_⟩,v',_,rfl,⟨fi,rfl,_⟩,rfl⟩;exact⟨⟨m,fi⟩,⟨_,_,rfl,rfl,_,_,rfl,rfl,rfl⟩,trivial⟩
def el_in(vs:ac be):oD B W [.i .i64,.s,.s] vs->∃x:a2.jZ,dj (fun b=>(kt gs W).get b) (a2.Ap x) [] (vs.map (toA W))∧(x.aL.length<=B∧x.hi.length<=B):=by
 rintro⟨v,_,rfl,⟨m,rfl,_⟩,v',_,rfl,⟨s,rfl,J⟩,acu,_,rfl,⟨bz,rfl,U⟩,rfl⟩;exact⟨⟨m,s.data.toList,bz.data.toList⟩,⟨_,_,rfl,rfl,_,_,rfl,rfl,_,_,rfl,rfl,rfl⟩,J,U⟩
def el_nd(vs:ac be):oD B W [.i .i64,.i .i64,.i .i64,.i .i64,.i .i64,.i .i64,.s] vs->∃x:a2.gl,dj (fun b=>(kt gs W).get b) (a2.kU x) [] (vs.map (toA W))∧x.v.length<=B:=by
 rintro⟨v0,_,rfl,⟨XZ,rfl,_⟩,v1,_,rfl,⟨fc,rfl,_⟩,v2,_,rfl,⟨hQ,rfl,_⟩,acv,_,rfl,⟨yd,rfl,_⟩,v4,_,rfl,⟨v5,rfl,_⟩,atd,_,rfl,⟨v7,rfl,_⟩,v6,_,rfl,⟨s,rfl,J⟩,rfl⟩;exact⟨⟨XZ,fc,hQ,yd,v5,v7,s.data.toList⟩,⟨_,_,rfl,rfl,_,_,rfl,rfl,_,_,rfl,rfl,_,_,rfl,rfl,_,_,rfl,rfl,_,_,rfl,rfl,_,_,rfl,rfl,rfl⟩,J⟩
def cks:ac rW:=[.bj 2 16 [.i .i64,.i .i64],.i .i64,.bj 3 40 [.i .i64,.s,.s],.bj 7 64 [.i .i64,.i .i64,.i .i64,.i .i64,.i .i64,.i .i64,.s],.i .i64,.i .i64,.bj 2 16 [.i .i64,.i .i64],.i .i64]
def cksA:Cg Tryz.prog 20 27=some cks:=by kernel_rfl
def ask_den(bb:B<=140737488355328){vs:ac be}(h:oD B W cks vs)(hh:∀(i:Nat) (v:be),vs[i]? =some v->i=0∨i=2∨i=3∨i=6->GP W v):
 ∃p:a2.dN,a2.va p∧dj (fun b=>(kt gs W).get b) (a2.g2 p) [] (vs.map (toA W)):=by
 obtain⟨v0,_,rfl,h0,v1,_,rfl,⟨fc,rfl,_⟩,v2,_,rfl,U,acv,_,rfl,af,v4,_,rfl,⟨v5,rfl,_⟩,atd,_,rfl,⟨v7,rfl,_⟩,v6,_,rfl,ck,avo,_,rfl,⟨anK,rfl,_⟩,rfl⟩:=h;obtain⟨kd,_,_,_,d0⟩:=JE (gs:=gs) el_fm h0 (hh 0 v0 rfl (by decide));obtain⟨g1,_,_,cT,d2⟩:=JE (gs:=gs) el_in U (hh 2 v2 rfl (by decide));obtain⟨rk,_,_,ek,d3⟩:=JE (gs:=gs) el_nd af (hh 3 acv rfl (by decide));obtain⟨Nd,_,_,_,d6⟩:=JE (gs:=gs) el_st ck (hh 6 v6 rfl (by decide));exact⟨⟨kd,fc,g1,rk,v5,v7,Nd,anK⟩,⟨fun x aa=>⟨zaj (cT x aa).1 bb,zaj (cT x aa).2 bb⟩,fun n hn=>zaj (ek n hn) bb⟩,
  ⟨_,_,rfl,d0,_,_,rfl,rfl,_,_,rfl,d2,_,_,rfl,d3,_,_,rfl,rfl,_,_,rfl,rfl,_,_,rfl,d6,_,_,rfl,rfl,rfl⟩⟩
end
variable{p:a2.dN}
def hgs:∀p∈a2.mf,(kh a2.mf .nil).get p.1=some p.2:=a2.GF (by kernel_rfl) (by kernel_rfl) (by kernel_rfl) (by kernel_rfl) (by kernel_rfl) (by kernel_rfl)
def hgn:∀p∈a2.mf,p.1<12:=a2.GF (by decide) (by decide) (by decide) (by decide) (by decide) (by decide)
def row3{W:co}(eI:12<=W.heap.size){vs:ac be}(i:Int)(n:Int)(fY:a2.va p)(aq:dj (fun b=>(kt a2.mf W).get b) (a2.g2 p) [] (vs.map (toA W))):
 ∃st',fT aS.ctx 3 ⟨[.agg ⟨vs.map (toA W)⟩,.int .i64 i,.int .i64 n],⟨kt a2.mf W,2*W.heap.size⟩,.bool true,st'⟩:=by
 have hn:∀q∈a2.mf,q.1<W.heap.size:=fun q hq=>zbG (hgn q hq) eI;have hp:(a2.Om a2.iH a2.iH.up).spec.pre (⟨p,i,n⟩,fun b=>(kt a2.mf W).get b) [.agg ⟨vs.map (toA W)⟩,.int .i64 i,.int .i64 n] ⟨kt a2.mf W,2*W.heap.size⟩:=
  ⟨fY,fun q hq=>(akI (hn q hq)).trans (hgs q hq),⟨fun b hb=>akK hn b hb,fun b o h=>h,rfl,rfl,zdI,fun b hb=>by simp at hb,fun k o b ab=>by simp at ab⟩,
   ⟨_,_,rfl,⟨_,rfl,aq⟩,_,_,rfl,rfl,_,_,rfl,rfl,rfl⟩⟩
 obtain⟨v,st',ec,hr⟩:=a2.XG _ _ ⟨_,hp⟩;obtain⟨bF,_,_,aI⟩:=ec _ hp;have aI:v= .bool true:=aI;subst aI;exact⟨st',hr⟩
def run{W:co}{vs:ap be}(i:Int)(n:Int)(fY:a2.va p)(aq:dj (fun b=>(kt a2.mf W).get b) (a2.g2 p) [] (vs.toList.map (toA W)))(hl:laidMetH Tryz.prog Rows.tunePointsRow.laid W)(ai:W.ShapedOpen Tryz.prog):
 Calls Tryz.prog 3 #[.agg vs,.int .i64 i,.int .i64 n] W fun e vb=>e= .returned (.bool true)∧W.keptBut vb (fun _=>False)∧∀i,i<W.heap.size->vb.heap[i]? =W.heap[i]? :=by
 rw[MakeChecks.laidMetH_plain _ _ _ plainLaid]at hl;obtain⟨ps,hl,_⟩:=hl;have eI:=gsz ai;obtain⟨st',hr⟩:=row3 eI i n fY aq;have hw:bx aS.ctx (m3 12 W.heap.size) ⟨kt a2.mf W,2*W.heap.size⟩ W:=atX (X:=aS.ctx) (gs:=a2.mf) eI (a2.GF (gl0 hl ai) (gl1 ai) (gl3 hl ai) (gl5 hl ai) (gl8 hl ai) (gl9 hl ai));have aY:bM (m3 12 W.heap.size) [.agg ⟨vs.toList.map (toA W)⟩,.int .i64 i,.int .i64 n] [.agg vs,.int .i64 i,.int .i64 n]:=.cons (.agg _ _ (by simp) fun i h aB=>by
  have:=ab1 (g:=12) eI vs[i];simpa using this) (.cons (.int _ _) (.cons (.int _ _) (.nil _)))
 refine(aei hr (as':=[.agg vs,.int .i64 i,.int .i64 n]) aY hw).mono fun e vb ⟨aU,v',he,aI,_,ab⟩=> ?_;have aI:bs aU (.bool true) v':=aI;cases aI;have G5:∀i,i<W.heap.size->vb.heap[i]? =W.heap[i]? :=fun i hi=>ab.kept i hi fun j l hl aO=>by
  unfold m3 at hl;split at hl
  ·cases hl;exact absurd rfl aO
  ·split at hl
   ·cases hl;exact absurd rfl aO
   ·cases hl
 refine⟨he,⟨ab.gJ.1,ab.gJ.2,fun i hi=> ?_⟩,G5⟩;rw[G5 i hi];exact(World.keptBut_refl W (fun _=>False)).2.2 i hi
def same_of{W vb:co}(h:∀i,i<W.heap.size->vb.heap[i]? =W.heap[i]?){p:MemPlace}(hp:p.block<W.heap.size):W.sameAt vb p:=by
 cases p with
 |cell b o=>exact World.cell?_of_block (w:=W) (h b hp)
 |map b=>exact h b hp
def has_at{W:co}{cs:ap be}(h:Value.okWide Tryz.prog W .any 0 27 (.agg cs))(i:Nat)(v:be)(aI:cs.toList[i]? =some v)(hi:i=0∨i=2∨i=3∨i=6):GP W v:=by
 simp only[Value.okWide,u27]at h;obtain⟨cs',e,_,ts,J,_,U⟩:=h;cases e;rw[pts27]at J;cases J;obtain⟨u,af,ax⟩:=U i v (by simpa using aI);rcases hi with rfl|rfl|rfl|rfl<;>cases af
 ·exact GR v22 ax
 ·exact GR v23 ax
 ·exact GR v24 ax
 ·exact GR v25 ax
def wargs:ap be:= #[.agg #[.slice none 0 0,.int .i64 0,.slice none 0 0,.slice none 0 0,.int .i64 0,.int .i64 0,.slice none 0 0,.int .i64 0],.int .i64 0,.int .i64 0]
def met(os:Os):laidMetH Tryz.prog Rows.tunePointsRow.laid ((World.laidAll Tryz.prog os Rows.tunePointsRow.laid).forCall (fun _ _=>0) ⟨#[],wargs,[]⟩).memory:=by
 rw[MakeChecks.laidMetH_plain _ _ _ plainLaid];exact laidMet_laidAll wargs (by kernel_rfl) (by kernel_rfl)
def lifted(os:Os)(started:os.Started)(H:Type)(enc:ce×be->H):
 ReturnsInHanded {} Tryz.checked os 3 .any (fun w args=>(Rows.tunePointsSpec.pre enc Tryz.prog Tryz.f3 [] false w args∧laidMetH Tryz.prog Rows.tunePointsRow.laid w)∧sizedMet enc Tryz.prog Tryz.f3 (OpenSpec.ofChange Rows.tunePointsSpec) false w args)
  (Rows.tunePointsSpec.post enc Tryz.prog Tryz.f3 false true false false):=by
 refine returnsInHanded_of_calls (C:=Tryz.checked) own started (by kernel_rfl)
  (ChangeSpec.witness_shaped (enc:=enc) (C:=Tryz.checked) (os:=os) (X:=fun w _=>laidMetH Tryz.prog Rows.tunePointsRow.laid w) false (World.laidAll Tryz.prog os Rows.tunePointsRow.laid) wargs 8 (World.laidAll_os _ _ _) (World.shaped_of_RefB (by kernel_rfl) (by kernel_rfl)) (by kernel_rfl) (by kernel_rfl) (by kernel_rfl) (met os)) ?_
 intro w tape i _ pa _ bE xS _;obtain⟨_,_,_,qZ,akV,_,_,_,_,tV⟩:=bE;have akQ:qZ=Tryz.f3:=Option.some.inj (akV.symm.trans Tryz.func3);subst akQ;obtain⟨⟨_,aa⟩,⟨_,ds,gs,before,hw,fw⟩⟩:=xS;have eg:DataW.Whole enc Tryz.prog Tryz.f3.params.toList Rows.tunePointsSpec.vars false (w.forCall tape i) i.args.toList ds gs before:=DataW.Whole.of_heap (w':=w.forCall tape i) (by rfl) hw;have hl:laidMetH Tryz.prog Rows.tunePointsRow.laid (w.forCall tape i):=aa.of_heap (by rfl);have a4:=eg.lt;have gG:=eg;obtain⟨p,q,er,hA,hb,_,_⟩:=gG;have aI:gs=[]∧q=[]:=by
  cases gs with
  |cons y av=>exact hA.elim
  |nil=>exact⟨rfl,hA⟩
 obtain⟨rfl,rfl⟩:=aI;rw[zcN]at hb;subst hb;have GI:=er;rw[params3]at GI;obtain⟨v,v',acu,d,j4,auk,gU,gV,kV,aY,rfl,rfl,fY,b8,iM⟩:=trodAll_three GI;have bL:Tryz.f3.params[0]? =some 27:=by kernel_rfl
 have a5:Tryz.f3.params[1]? =some 3:=by kernel_rfl
 have bD:Tryz.f3.params[2]? =some 3:=by kernel_rfl
 have oq:=tV 0 27 v bL (by rw[aY];rfl);obtain⟨m,rfl,rfl,rfl,wT⟩:=open_int Tryz.underlying3 (tV 1 3 v' a5 (by rw[aY];rfl)) b8;obtain⟨n,rfl,rfl,rfl,J0⟩:=open_int uN (tV 2 3 acu bD (by rw[aY];rfl)) iM;obtain⟨cs,rfl,_⟩:=okWide_struct u27 oq;have Hp:∀x∈d.weights Tryz.prog 27,x<=reachBytes:=fun x aa=>by
  have J:=zbn.1 fw x (PY (i:=0) (t:=27) (d:=d) (by rw[params3];rfl) rfl aa);exact zbT J
 obtain⟨fuel,Wg⟩:=fY;have hr:=KI 20 fuel 27 cs.toList d _ cks Wg cksA Hp;obtain⟨S,bb,aq⟩:=ask_den (gs:=a2.mf) (show reachBytes<=140737488355328 by decide) hr (fun j v hj hi=>has_at (Value.okWide_any_base oq) j v hj hi);rw[zcN,zcN]at eg;rw[aY];refine(run (p:=S) m n bb aq hl pa).mono fun e vb ⟨he,ab,G5⟩=> ?_;subst he;refine ChangeSpec.post_blind ⟨[d,_,_],[],gU,[],gU,[],by rw[aY]at eg;exact eg,?_,?_,rfl,?_,fun h=>by cases h⟩
 ·rw[results3,nres3];exact trodAll_mk1 (shut_bool Tryz.underlying4 _)
 ·rw[params3];rw[show gU=gU++([]++[]) by simp];exact trodAll_mk3 (Go.WideElems.Trod_stays laid3 recs27 row27 ⟨fuel,Wg⟩ (fun x aa=>same_of G5 (a4 x (by simp[aa]))) (fun x aa=>by simpa using a4 x (by simp[aa]))) (shut_int Tryz.underlying3 wT) (shut_int uN J0)
 ·exact World.keptBut_mono (fun _ h=>h.elim) ab
