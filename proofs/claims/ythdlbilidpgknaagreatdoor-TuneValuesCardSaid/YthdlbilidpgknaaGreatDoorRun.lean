/- In every world in which the listed variables read as the claim says, the call of TuneValues returns true and changes nothing. -/
import Derived.Test.YthdlbilidpgknaaGreatDoorRows
import Derived.Handed
import Derived.ProofKit
import Derived.OpenShut
import Derived.Shelf.Vars
import Derived.Lay
import Derived.LaidMore
import Derived.ChangeMaps5
import Derived.Lib.SmallJoins
import Derived.WideKeyArgs
import Derived.ChangeAgain
import Derived.Test.YthdlbilidpgknaaGreatDoorC5
import Derived.Test.YthdlbilidpgknaaGreatDoorS2
import Derived.Test.YthdlbilidpgknaaGreatDoorM3
set_option linter.all false
namespace Go.Proofs.YthdlbilidpgknaaGreatDoor
open Go.ChangeShapes Go.WideShapes Go.ChangeAt Go.RowKit Go.aj
set_option maxRecDepth 100000
variable{ps:ac MemPlace}
def own:ownKnob Tryz.prog.godebug=none:=by kernel_rfl
def cO{P:d9}{W:co}(h:W.ShapedOpen P){g:Nat}{t:ce}(aJ:g<P.globals.size)(h0:(((begin P (fun _ _=>0) default).world.heap[g]?).bind Obj.row?).map (·.2)=some t):∃cs,W.heap[g]? =some (.cells cs t):=by
 obtain⟨⟨z,hk⟩,aq,e2⟩:=zbm.1 h0;simp only at e2;subst e2;obtain⟨cs,h1,_⟩:=h.1 g z hk aJ aq;exact⟨cs,h1⟩
def vn:Tryz.prog.globals.size=12:=by kernel_rfl
def YO:(Rows.tuneValuesRow.laid.all fun x=>x.2.handleName?.isNone)=true:=by kernel_rfl
def ajy{W:co}(hl:DataW.LaidVars Tryz.prog W Rows.tuneValuesRow.laid ps)(ae:W.ShapedOpen Tryz.prog):s0 12 W kc.ly:=
 Cs (n:=4) (t:=280) (name:= "vernier/lang.shapes") (d:=Rows.laid_vernier_lang_shapes) hl (by simp[Rows.tuneValuesRow]) (by kernel_rfl) (by kernel_rfl) (by kernel_rfl) (by decide) (by decide) (by kernel_rfl) (cO ae (by rw[vn];decide) (by kernel_rfl))
def ajA{W:co}(hl:DataW.LaidVars Tryz.prog W Rows.tuneValuesRow.laid ps)(ae:W.ShapedOpen Tryz.prog):s0 12 W kc.py:=
 Cs (n:=4) (t:=377) (name:= "vernier/lang.after") (d:=Rows.laid_vernier_lang_after) hl (by simp[Rows.tuneValuesRow]) (by kernel_rfl) (by kernel_rfl) (by kernel_rfl) (by decide) (by decide) (by kernel_rfl) (cO ae (by rw[vn];decide) (by kernel_rfl))
def ajB{W:co}(hl:DataW.LaidVars Tryz.prog W Rows.tuneValuesRow.laid ps)(ae:W.ShapedOpen Tryz.prog):s0 12 W kc.qy:=
 Cs (n:=4) (t:=459) (name:= "vernier/floats.mirrored") (d:=Rows.laid_vernier_floats_mirrored) hl (by simp[Rows.tuneValuesRow]) (by kernel_rfl) (by kernel_rfl) (by kernel_rfl) (by decide) (by decide) (by kernel_rfl) (cO ae (by rw[vn];decide) (by kernel_rfl))
def ajC{W:co}(hl:DataW.LaidVars Tryz.prog W Rows.tuneValuesRow.laid ps)(ae:W.ShapedOpen Tryz.prog):s0 12 W kc.oI:=
 Cs (n:=4) (t:=488) (name:= "internal/strconv.uint64pow10") (d:=Rows.laid_internal_strconv_uint64pow10) hl (by simp[Rows.tuneValuesRow]) (by kernel_rfl) (by kernel_rfl) (by kernel_rfl) (by decide) (by decide) (by kernel_rfl) (cO ae (by rw[vn];decide) (by kernel_rfl))
def ajD{W:co}(hl:DataW.LaidVars Tryz.prog W Rows.tuneValuesRow.laid ps)(ae:W.ShapedOpen Tryz.prog):s0 12 W kc.oJ:=
 Cs (n:=4) (t:=497) (name:= "math/bits.deBruijn32tab") (d:=Rows.laid_math_bits_deBruijn32tab) hl (by simp[Rows.tuneValuesRow]) (by kernel_rfl) (by kernel_rfl) (by kernel_rfl) (by decide) (by decide) (by kernel_rfl) (cO ae (by rw[vn];decide) (by kernel_rfl))
def ajz{W:co}(ae:W.ShapedOpen Tryz.prog):s0 12 W kc.k9:=by
 have h0:((begin Tryz.prog (fun _ _=>0) default).world.heap[1]?).bind Obj.row?=some (#[.int .i64 0],3):=by kernel_rfl
 obtain⟨cs,h1,h2,_⟩:=ae.1 1 _ 3 (by rw[vn];decide) h0;obtain⟨m,hm⟩:=cell_of_shapedOpen_int (k:=.i64) ae (by rw[vn];decide) h0 rfl (by kernel_rfl) (by kernel_rfl) Tryz.underlying3;have hc:cs= #[.int .i64 m]:=by
  have h3:cs[0]? =some (.int .i64 m):=by simpa[World.cell?,h1]using hm
  obtain⟨l⟩:=cs
  match l,h2,h3 with
  |[x],_,h3=>simp at h3;rw[h3]
 refine⟨by decide,[.chan (some 1)],3,1,cs,_,rfl,by decide,h1,?_⟩;rw[hc];exact .cons (.iQ 1 m (.inl rfl)) (.nil _)
def ajT{W:co}(ae:W.ShapedOpen Tryz.prog):12<=W.heap.size:=by
 obtain⟨cs,h⟩:=cO (g:=11) (t:=520) ae (by rw[vn];decide) (by kernel_rfl);have:=(zbk.1 h).1;omega
def abA:Tryz.prog.underlying 27=some (.struct #[Field.mk "Formats" 22 0 false "" "" 0,Field.mk "Mode" 3 1 false "" "" 24,Field.mk "Inputs" 23 2 false "" "" 32,Field.mk "Nodes" 24 3 false "" "" 56,Field.mk "Head" 3 4 false "" "" 80,Field.mk "Tail" 3 5 false "" "" 88,Field.mk "States" 25 6 false "" "" 96,Field.mk "Result" 3 7 false "" "" 120]):=by kernel_rfl
def apf:ac ce:=[22,3,23,24,3,3,25,3]
def apg:Tryz.prog.cellTypes Tryz.prog.depth 27=some apf:=by kernel_rfl
def atw:Tryz.prog.underlying 22=some (.slice 76):=by kernel_rfl
def atx:Tryz.prog.underlying 23=some (.slice 38):=by kernel_rfl
def aty:Tryz.prog.underlying 24=some (.slice 126):=by kernel_rfl
def atz:Tryz.prog.underlying 25=some (.slice 182):=by kernel_rfl
def abD:Tryz.prog.underlying 5=some (.int .u8):=by kernel_rfl
def params3:Tryz.f4.params.toList=[27,3,5]:=by kernel_rfl
def results3:Tryz.f4.resultTypes.toList=[4]:=by kernel_rfl
def aot:Tryz.f4.resultTypes.size=1:=by kernel_rfl
def ans:laidOutB Tryz.prog=true:=by kernel_rfl
def aqq:Tryz.prog.readableRec 27=true:=by kernel_rfl
def aqD:27<Tryz.prog.types.size:=zbF (by kernel_rfl)
section
variable{B:Nat}{W:co}{gs:ac (Nat×bD)}
def afF(vs:ac be):oK B W [.i .i64,.i .i64] vs->∃x:Int×Int,db (fun b=>(kB gs W).get b) (a3.RV x) [] (vs.map (toA W))∧True:=by
 rintro⟨v,_,rfl,⟨m,rfl,_⟩,v',_,rfl,⟨fj,rfl,_⟩,rfl⟩;exact⟨(m,fj),⟨_,_,rfl,rfl,_,_,rfl,rfl,rfl⟩,trivial⟩
def afI(vs:ac be):oK B W [.i .i64,.i .i64] vs->∃x:a3.s3,db (fun b=>(kB gs W).get b) (a3.aaO x) [] (vs.map (toA W))∧True:=by
 rintro⟨v,_,rfl,⟨m,rfl,_⟩,v',_,rfl,⟨fj,rfl,_⟩,rfl⟩;exact⟨⟨m,fj⟩,⟨_,_,rfl,rfl,_,_,rfl,rfl,rfl⟩,trivial⟩
def afG(vs:ac be):oK B W [.i .i64,.s,.s] vs->∃x:a3.jm,db (fun b=>(kB gs W).get b) (a3.Ae x) [] (vs.map (toA W))∧(x.aM.length<=B∧x.hi.length<=B):=by
 rintro⟨v,_,rfl,⟨m,rfl,_⟩,v',_,rfl,⟨s,rfl,h1⟩,abH,_,rfl,⟨bm,rfl,h2⟩,rfl⟩;exact⟨⟨m,s.data.toList,bm.data.toList⟩,⟨_,_,rfl,rfl,_,_,rfl,rfl,_,_,rfl,rfl,rfl⟩,h1,h2⟩
def afH(vs:ac be):oK B W [.i .i64,.i .i64,.i .i64,.i .i64,.i .i64,.i .i64,.s] vs->∃x:a3.fv,db (fun b=>(kB gs W).get b) (a3.kG x) [] (vs.map (toA W))∧x.v.length<=B:=by
 rintro⟨v0,_,rfl,⟨Xi,rfl,_⟩,v1,_,rfl,⟨eW,rfl,_⟩,v2,_,rfl,⟨g1,rfl,_⟩,abI,_,rfl,⟨x5,rfl,_⟩,v4,_,rfl,⟨vW,rfl,_⟩,atA,_,rfl,⟨vX,rfl,_⟩,v6,_,rfl,⟨s,rfl,h1⟩,rfl⟩;exact⟨⟨Xi,eW,g1,x5,vW,vX,s.data.toList⟩,⟨_,_,rfl,rfl,_,_,rfl,rfl,_,_,rfl,rfl,_,_,rfl,rfl,_,_,rfl,rfl,_,_,rfl,rfl,_,_,rfl,rfl,rfl⟩,h1⟩
def nA:ac rT:=[.aY 2 16 [.i .i64,.i .i64],.i .i64,.aY 3 40 [.i .i64,.s,.s],.aY 7 64 [.i .i64,.i .i64,.i .i64,.i .i64,.i .i64,.i .i64,.s],.i .i64,.i .i64,.aY 2 16 [.i .i64,.i .i64],.i .i64]
def adS:BR Tryz.prog 20 27=some nA:=by kernel_rfl
def ade(a5:B<=140737488355328){vs:ac be}(h:oK B W nA vs)(hh:∀(i:Nat) (v:be),vs[i]? =some v->i=0∨i=2∨i=3∨i=6->Gx W v):
 ∃p:a3.cB,a3.uY p∧db (fun b=>(kB gs W).get b) (a3.di p) [] (vs.map (toA W)):=by
 obtain⟨v0,_,rfl,h0,v1,_,rfl,⟨eW,rfl,_⟩,v2,_,rfl,h2,abI,_,rfl,h3,v4,_,rfl,⟨vW,rfl,_⟩,atA,_,rfl,⟨vX,rfl,_⟩,v6,_,rfl,ch,avU,_,rfl,⟨anP,rfl,_⟩,rfl⟩:=h;obtain⟨km,_,_,_,d0⟩:=Jj (gs:=gs) afF h0 (hh 0 v0 rfl (by decide));obtain⟨g8,_,_,Ol,d2⟩:=Jj (gs:=gs) afG h2 (hh 2 v2 rfl (by decide));obtain⟨rm,_,_,py,d3⟩:=Jj (gs:=gs) afH h3 (hh 3 abI rfl (by decide));obtain⟨Dr,_,_,_,d6⟩:=Jj (gs:=gs) afI ch (hh 6 v6 rfl (by decide));exact⟨⟨km,eW,g8,rm,vW,vX,Dr,anP⟩,⟨fun x J=>⟨zai (Ol x J).1 a5,zai (Ol x J).2 a5⟩,fun n hn=>zai (py n hn) a5⟩,
  ⟨_,_,rfl,d0,_,_,rfl,rfl,_,_,rfl,d2,_,_,rfl,d3,_,_,rfl,rfl,_,_,rfl,rfl,_,_,rfl,d6,_,_,rfl,rfl,rfl⟩⟩
end
variable{p:a3.cB}
def alb:∀p∈a3.mn,(ks a3.mn .nil).get p.1=some p.2:=a3.Gq (by kernel_rfl) (by kernel_rfl) (by kernel_rfl) (by kernel_rfl) (by kernel_rfl) (by kernel_rfl)
def r9:∀p∈a3.mn,p.1<12:=a3.Gq (by decide) (by decide) (by decide) (by decide) (by decide) (by decide)
def aqE{W:co}(eM:12<=W.heap.size){vs:ac be}(i:Int)(n:Nat)(fS:n<256)(gg:a3.uY p)(al:db (fun b=>(kB a3.mn W).get b) (a3.di p) [] (vs.map (toA W))):
 ∃st',fZ aT.ctx 4 ⟨[.agg ⟨vs.map (toA W)⟩,.int .i64 i,.int .u8 (n:Nat)],⟨kB a3.mn W,2*W.heap.size⟩,.bool true,st'⟩:=by
 have hn:∀q∈a3.mn,q.1<W.heap.size:=fun q hq=>zcP (r9 q hq) eM;have hp:(a3.Po a3.ht a3.ht.up).spec.pre (⟨p,i,n⟩,fun b=>(kB a3.mn W).get b) [.agg ⟨vs.map (toA W)⟩,.int .i64 i,.int .u8 (n:Nat)] ⟨kB a3.mn W,2*W.heap.size⟩:=
  ⟨⟨gg,fS⟩,fun q hq=>(akN (hn q hq)).trans (alb q hq),⟨fun b hb=>akP hn b hb,fun b o h=>h,rfl,rfl,zdE,fun b hb=>by simp at hb,fun k o b U=>by simp at U⟩,
    ⟨_,_,rfl,⟨_,rfl,al⟩,_,_,rfl,rfl,_,_,rfl,rfl,rfl⟩⟩
 obtain⟨v,st',dO,hr⟩:=a3.WX _ _ ⟨_,hp⟩;obtain⟨br,_,_,aF⟩:=dO _ hp;have aF:v= .bool true:=aF;subst aF;exact⟨st',hr⟩
def run{W:co}{vs:ap be}(i:Int)(n:Nat)(fS:n<256)(gg:a3.uY p)(al:db (fun b=>(kB a3.mn W).get b) (a3.di p) [] (vs.toList.map (toA W)))(hl:laidMetH Tryz.prog Rows.tuneValuesRow.laid W)(ae:W.ShapedOpen Tryz.prog):
 Calls Tryz.prog 4 #[.agg vs,.int .i64 i,.int .u8 (n:Nat)] W fun e uZ=>e= .returned (.bool true)∧W.keptBut uZ (fun _=>False)∧∀i,i<W.heap.size->uZ.heap[i]? =W.heap[i]? :=by
 rw[MakeChecks.laidMetH_plain _ _ _ YO]at hl;obtain⟨ps,hl,_⟩:=hl;have eM:=ajT ae;obtain⟨st',hr⟩:=aqE eM i n fS gg al;have hw:bn aT.ctx (ni 12 W.heap.size) ⟨kB a3.mn W,2*W.heap.size⟩ W:=aum (X:=aT.ctx) (gs:=a3.mn) eM (a3.Gq (ajy hl ae) (ajz ae) (ajA hl ae) (ajB hl ae) (ajC hl ae) (ajD hl ae));have ha:bM (ni 12 W.heap.size) [.agg ⟨vs.toList.map (toA W)⟩,.int .i64 i,.int .u8 (n:Nat)] [.agg vs,.int .i64 i,.int .u8 (n:Nat)]:=.cons (.agg _ _ (by simp) fun i h az=>by
  have:=abc (g:=12) eM vs[i];simpa using this) (.cons (.int _ _) (.cons (.int _ _) (.nil _)))
 refine(adG hr (as':=[.agg vs,.int .i64 i,.int .u8 (n:Nat)]) ha hw).mono fun e uZ ⟨aQ,v',he,aF,_,U⟩=> ?_;have aF:bk aQ (.bool true) v':=aF;cases aF;have GQ:∀i,i<W.heap.size->uZ.heap[i]? =W.heap[i]? :=fun i hi=>U.kept i hi fun j l hl aJ=>by
  unfold ni at hl;split at hl
  ·cases hl;exact absurd rfl aJ
  ·split at hl
   ·cases hl;exact absurd rfl aJ
   ·cases hl
 refine⟨he,⟨U.gN.1,U.gN.2,fun i hi=> ?_⟩,GQ⟩;rw[GQ i hi];exact(World.keptBut_refl W (fun _=>False)).2.2 i hi
def aqS{W uZ:co}(h:∀i,i<W.heap.size->uZ.heap[i]? =W.heap[i]?){p:MemPlace}(hp:p.block<W.heap.size):W.sameAt uZ p:=by
 cases p with
 |cell b o=>exact World.cell?_of_block (w:=W) (h b hp)
 |map b=>exact h b hp
def akt{W:co}{cs:ap be}(h:Value.okWide Tryz.prog W .any 0 27 (.agg cs))(i:Nat)(v:be)(aF:cs.toList[i]? =some v)(hi:i=0∨i=2∨i=3∨i=6):Gx W v:=by
 simp only[Value.okWide,abA]at h;obtain⟨cs',e,_,ts,h1,_,h2⟩:=h;cases e;rw[apg]at h1;cases h1;obtain⟨u,h3,au⟩:=h2 i v (by simpa using aF);rcases hi with rfl|rfl|rfl|rfl<;>cases h3
 ·exact GA atw au
 ·exact GA atx au
 ·exact GA aty au
 ·exact GA atz au
def Pr:ap be:= #[.agg #[.slice none 0 0,.int .i64 0,.slice none 0 0,.slice none 0 0,.int .i64 0,.int .i64 0,.slice none 0 0,.int .i64 0],.int .i64 0,.int .u8 0]
def met(os:Os):laidMetH Tryz.prog Rows.tuneValuesRow.laid ((World.laidAll Tryz.prog os Rows.tuneValuesRow.laid).forCall (fun _ _=>0) ⟨#[],Pr,[]⟩).memory:=by
 rw[MakeChecks.laidMetH_plain _ _ _ YO];exact laidMet_laidAll Pr (by kernel_rfl) (by kernel_rfl)
def lifted(os:Os)(started:os.Started)(H:Type)(enc:ce×be->H):
 ReturnsInHanded {} Tryz.checked os 4 .any (fun w args=>(Rows.tuneValuesSpec.pre enc Tryz.prog Tryz.f4 [] false w args∧laidMetH Tryz.prog Rows.tuneValuesRow.laid w)∧sizedMet enc Tryz.prog Tryz.f4 (OpenSpec.ofChange Rows.tuneValuesSpec) false w args)
  (Rows.tuneValuesSpec.post enc Tryz.prog Tryz.f4 false true false false):=by
 refine returnsInHanded_of_calls (C:=Tryz.checked) own started (by kernel_rfl)
  (ChangeSpec.witness_shaped (enc:=enc) (C:=Tryz.checked) (os:=os) (X:=fun w _=>laidMetH Tryz.prog Rows.tuneValuesRow.laid w) false (World.laidAll Tryz.prog os Rows.tuneValuesRow.laid) Pr 8 (World.laidAll_os _ _ _) (World.shaped_of_RefB (by kernel_rfl) (by kernel_rfl)) (by kernel_rfl) (by kernel_rfl) (by kernel_rfl) (met os)) ?_
 intro w tape i _ k2 _ bI xO _;obtain⟨_,_,_,qZ,akZ,_,_,_,_,re⟩:=bI;have akU:qZ=Tryz.f4:=Option.some.inj (akZ.symm.trans Tryz.func4);subst akU;obtain⟨⟨_,J⟩,⟨_,ds,gs,before,hw,fB⟩⟩:=xO;have ei:DataW.Whole enc Tryz.prog Tryz.f4.params.toList Rows.tuneValuesSpec.vars false (w.forCall tape i) i.args.toList ds gs before:=DataW.Whole.of_heap (w':=w.forCall tape i) (by rfl) hw;have hl:laidMetH Tryz.prog Rows.tuneValuesRow.laid (w.forCall tape i):=J.of_heap (by rfl);have aV:=ei.lt;have gx:=ei;obtain⟨p,q,e4,hI,hb,_,_⟩:=gx;have aF:gs=[]∧q=[]:=by
  cases gs with
  |cons y ao=>exact hI.elim
  |nil=>exact⟨rfl,hI⟩
 obtain⟨rfl,rfl⟩:=aF;rw[zcs]at hb;subst hb;have Gt:=e4;rw[params3]at Gt;obtain⟨v,v',abH,d,kf,auL,hd,hf,k7,ha,rfl,rfl,gg,b4,iq⟩:=trodAll_three Gt;have bK:Tryz.f4.params[0]? =some 27:=by kernel_rfl
 have a2:Tryz.f4.params[1]? =some 3:=by kernel_rfl
 have bw:Tryz.f4.params[2]? =some 5:=by kernel_rfl
 have qe:=re 0 27 v bK (by rw[ha];rfl);obtain⟨m,rfl,rfl,rfl,EM⟩:=open_int Tryz.underlying3 (re 1 3 v' a2 (by rw[ha];rfl)) b4;obtain⟨n,rfl,rfl,rfl,EN⟩:=open_int abD (re 2 5 abH bw (by rw[ha];rfl)) iq;have Wk:IntKind.u8.min<=n∧n<=IntKind.u8.max:=by simpa[Lit.wf]using EN
 have Wk:(0:Int)<=n∧n<=255:=Wk;obtain⟨b0,rfl,iF⟩:∃b0:Nat,n=(b0:Int)∧b0<256:=⟨n.toNat,by omega,by omega⟩;obtain⟨cs,rfl,_⟩:=okWide_struct abA qe;have Hb:∀x∈d.weights Tryz.prog 27,x<=reachBytes:=fun x J=>by
  have h1:=zbg.1 fB x (Py (i:=0) (t:=27) (d:=d) (by rw[params3];rfl) rfl J);exact zbF h1
 obtain⟨fuel,Vw⟩:=gg;have hr:=Kj 20 fuel 27 cs.toList d _ nA Vw adS Hb;obtain⟨S,a5,al⟩:=ade (gs:=a3.mn) (show reachBytes<=140737488355328 by decide) hr (fun j v hj hi=>akt (Value.okWide_any_base qe) j v hj hi);rw[zcs,zcs]at ei;rw[ha];refine(run (p:=S) m b0 iF a5 al hl k2).mono fun e uZ ⟨he,U,GQ⟩=> ?_;subst he;refine ChangeSpec.post_blind ⟨[d,_,_],[],hd,[],hd,[],by rw[ha]at ei;exact ei,?_,?_,rfl,?_,fun h=>by cases h⟩
 ·rw[results3,aot];exact trodAll_mk1 (shut_bool Tryz.underlying4 _)
 ·rw[params3];rw[show hd=hd++([]++[]) by simp];exact trodAll_mk3 (Go.WideElems.Trod_stays ans aqq aqD ⟨fuel,Vw⟩ (fun x J=>aqS GQ (aV x (by simp[J]))) (fun x J=>by simpa using aV x (by simp[J]))) (shut_int Tryz.underlying3 EM) (shut_int abD EN)
 ·exact World.keptBut_mono (fun _ h=>h.elim) U
