/- In every world in which the listed variables read as the claim says, where the arguments are of the given bulk, the call of BoundsCertificates returns true and changes nothing. -/
import Derived.Test.YtdinjknpilkilaaGreatDoorRows
import Derived.Handed
import Derived.ProofKit
import Derived.OpenShut
import Derived.Shelf.Vars
import Derived.Lay
import Derived.LaidMore
import Derived.ChangeMaps5
import Derived.Lib.SmallJoins
import Derived.WideKeyArgs
import Derived.ChangeAgain
import Derived.Deep.DeepHandedRow
import Derived.Test.YtdinjknpilkilaaGreatDoorC6
import Derived.Test.YtdinjknpilkilaaGreatDoorS2
import Derived.Test.YtdinjknpilkilaaGreatDoorM3
set_option linter.all false
namespace Go.Proofs.YtdinjknpilkilaaGreatDoor
open Go.ChangeShapes Go.WideShapes Go.ChangeAt Go.RowKit Go.ah
set_option maxRecDepth 100000
variable{ps:ac MemPlace}
def own:ownKnob Tryz.prog.godebug=none:=by kernel_rfl
def cQ{P:f5}{W:d7}(h:W.ShapedOpen P){g:Nat}{t:ce}(aO:g<P.globals.size)(h0:(((begin P (fun _ _=>0) default).world.heap[g]?).bind Obj.row?).map (·.2)=some t):∃cs,W.heap[g]? =some (.cells cs t):=by
 obtain⟨⟨z,cL⟩,aq,e2⟩:=zbv.1 h0;simp only at e2;subst e2;obtain⟨cs,h1,_⟩:=h.1 g z cL aO aq;exact⟨cs,h1⟩
def Hq:Tryz.prog.globals.size=9:=by kernel_rfl
def aap:(Rows.boundsCertificatesUptoRow.laid.all fun x=>x.2.handleName?.isNone)=true:=by kernel_rfl
def akz{W:d7}(hl:DataW.LaidVars Tryz.prog W Rows.boundsCertificatesUptoRow.laid ps)(af:W.ShapedOpen Tryz.prog):Aa 9 W gk.re:=
 MM (n:=4) (t:=330) (name:= "vernier/lang.shapes") (d:=Rows.laid_vernier_lang_shapes) hl (by simp[Rows.boundsCertificatesUptoRow]) (by kernel_rfl) (by kernel_rfl) (by kernel_rfl) (by decide) (by decide) (by kernel_rfl) (cQ af (by rw[Hq];decide) (by kernel_rfl))
def akA{W:d7}(hl:DataW.LaidVars Tryz.prog W Rows.boundsCertificatesUptoRow.laid ps)(af:W.ShapedOpen Tryz.prog):Aa 9 W gk.n6:=
 MM (n:=4) (t:=383) (name:= "internal/strconv.uint64pow10") (d:=Rows.laid_internal_strconv_uint64pow10) hl (by simp[Rows.boundsCertificatesUptoRow]) (by kernel_rfl) (by kernel_rfl) (by kernel_rfl) (by decide) (by decide) (by kernel_rfl) (cQ af (by rw[Hq];decide) (by kernel_rfl))
def akB{W:d7}(hl:DataW.LaidVars Tryz.prog W Rows.boundsCertificatesUptoRow.laid ps)(af:W.ShapedOpen Tryz.prog):Aa 9 W gk.BZ:=
 MM (n:=4) (t:=423) (name:= "vernier/proofs.plain") (d:=Rows.laid_vernier_proofs_plain) hl (by simp[Rows.boundsCertificatesUptoRow]) (by kernel_rfl) (by kernel_rfl) (by kernel_rfl) (by decide) (by decide) (by kernel_rfl) (cQ af (by rw[Hq];decide) (by kernel_rfl))
def akG{W:d7}(af:W.ShapedOpen Tryz.prog):9<=W.heap.size:=by
 obtain⟨cs,h⟩:=cQ (g:=8) (t:=464) af (by rw[Hq];decide) (by kernel_rfl);have:=(zbs.1 h).1;omega
def aud:Tryz.prog.underlying 22=some (.slice 122):=by kernel_rfl
def auf:Tryz.prog.underlying 23=some (.slice 77):=by kernel_rfl
def params3:Tryz.f3.params.toList=[22,23]:=by kernel_rfl
def results3:Tryz.f3.resultTypes.toList=[4]:=by kernel_rfl
def apf:Tryz.f3.resultTypes.size=1:=by kernel_rfl
def Yr:laidOutB Tryz.prog=true:=by kernel_rfl
def ari:Tryz.prog.readableRec 22=true:=by kernel_rfl
def arw:22<Tryz.prog.types.size:=zbB (by kernel_rfl)
def arj:Tryz.prog.readableRec 23=true:=by kernel_rfl
def arx:23<Tryz.prog.types.size:=zbB (by kernel_rfl)
def Ay(P:f5):Nat->ce->am (ac sE)
 |0,_=>none
 |n+1,t=>
  match P.underlying t with
  |some (.int k)=>some [.i k]
  |some .string=>some [.s]
  |some (.slice e)=>(Ay P n e).map fun cs=>[.aN (P.cellsOf e) 1 cs]
  |some (.struct cj)=>if AD 0 (cj.toList.map fun f=>(f.offset,P.cellsOf f.type)) (P.cellsOf t)then(cj.toList.mapM fun(f:Field)=>Ay P n f.type).map List.flatten else none
  |_=>none
def aeW{H:Type}(d:DataW H):1<=Rows.uptoBulk d:=by
 cases d<;>unfold Rows.uptoBulk<;>(try split)<;>omega
theorem LI{H:Type}:∀l:ac (DataW H),l.length<=Rows.uptoBulkAll l
 |[]=>zac _
 |d::l=>by
  have h1:=LI l;have h2:=aeW d;unfold Rows.uptoBulkAll;rw[zax];omega
theorem CY{H:Type}{d:DataW H}:∀{l:ac (DataW H)},d∈l->Rows.uptoBulk d<=Rows.uptoBulkAll l
 |x::l,h=>by
  unfold Rows.uptoBulkAll;rcases zap.1 h with rfl|h
  ·omega
  ·have:=CY h;omega
theorem Gh{H:Type}{enc:ce×be->H}{P:f5}{W:d7}{B:Nat}:∀(n fuel:Nat) (t:ce) (cs:ac be) (d:DataW H) (p:ac MemPlace) (o2:ac sE),
 DataW.trod enc P W 0 (fun _=>true) true fuel t cs=some (d,p)->Ay P n t=some o2->Rows.uptoBulk d<=B->oV B W o2 cs
 |0,_,_,_,_,_,_,_,h,_=>by cases h
 |n+1,fuel,t,cs,d,p,o2,h,hc,a8=>by
  unfold Ay at hc;cases fuel with
  |zero=>simp[DataW.trod]at h
  |succ fuel=>
  split at hc
  ·rename_i k hu;cases hc;simp only[DataW.trod,hu]at h;split at h<;>first|(rename_i hq;cases hq)|skip
   all_goals first
    |(split at h
      ·rename_i hc;exact⟨_,_,rfl,⟨_,by rw[hc.1],hc.2⟩,rfl⟩
      ·cases h)
    |(simp at h)
  ·rename_i hu;cases hc;simp only[DataW.trod,hu]at h;split at h<;>first|(rename_i hq;cases hq)|skip
   all_goals first
    |(split at h
      ·cases h;exact⟨_,_,rfl,⟨_,rfl,by unfold Rows.uptoBulk at a8;first|exact Nat.le_of_succ_le a8|(simp at a8 ⊢;omega)⟩,rfl⟩
      ·cases h)
    |(simp at h)
  ·rename_i e hu;obtain⟨afb,alq,rfl⟩:=zbv.1 hc;rcases DataW.trod_slice hu h with⟨rfl,_⟩|⟨a,len,cap,elems,rest,m,aq,rfl,e2,_,h1,h2,ab,aD,bg,_⟩
   ·exact⟨_,_,rfl,.inl rfl,rfl⟩
   ·have ao:d= .slice (elems.map (·.1)) (rest.map (·.1)):=congrArg Prod.fst e2;subst ao;unfold Rows.uptoBulk at a8;have gE:=LI (elems.map (·.1));have iB:=LI (rest.map (·.1));rw[zbu]at gE iB;have aL:=(bg rfl).1;refine⟨_,_,rfl,.inr ⟨a,len,cap,rfl,h1,by omega,by omega,fun i aa=> ?_⟩,rfl⟩;have aD:=aD i aa;have kY:i<elems.length:=by omega
    rw[zcd kY]at aD;obtain⟨vs,JI,n6⟩:=zcu.1 aD;have hm:=CY (zbX.2 ⟨_,zas kY,rfl⟩:elems[i].1∈elems.map (·.1));exact⟨vs,JI,Gh n m e vs _ _ afb n6 alq (zag hm (by omega))⟩
  ·rename_i cj hu;split at hc
   ·rename_i rV;obtain⟨afg,hm,rfl⟩:=zbv.1 hc;obtain⟨xs,m,aq,e2,bS,gK,o7⟩:=DataW.trod_struct hu h;have ao:d= .agg (xs.map (·.1)):=congrArg Prod.fst e2;subst ao;unfold Rows.uptoBulk at a8;rw[<-bS]at rV;have G1:=GF cs _ 0 rV;rw[zar,zch]at G1;rw[G1];refine ab2 (seg:=fun(f:Field)=>(cs.drop f.offset).take (P.cellsOf f.type)) cj.toList afg hm (fun f U cs' hP=> ?_);obtain⟨i,aa,rfl⟩:=List.mem_iff_getElem.1 U;have eC:i<cj.size:=by simpa using aa
    have o7:=o7 i cj.toList[i] (by simp[eC]);have kD:i<xs.length:=by omega
    rw[zcd kD]at o7;have HP:=CY (zbX.2 ⟨_,zas kD,rfl⟩:xs[i].1∈xs.map (·.1));exact Gh n m _ _ _ _ cs' o7 hP (zag HP (by omega))
   ·cases hc
  ·cases hc
def afe:Ay Tryz.prog 20 22=some [.aN 2 1 [.s,.aN 1 1 [.i .i64]]]:=by kernel_rfl
def aff:Ay Tryz.prog 20 23=some [.aN 2 1 [.s,.s]]:=by kernel_rfl
section
variable{B:Nat}{W:d7}{gs:ac (Nat×bt)}
def ag7(vs:ac be):oV B W [.i .i64] vs->∃x:Int,dH (fun b=>(jX gs W).get b) (aW.gv x) [] (vs.map (toA W))∧True:=by
 rintro⟨v,_,rfl,⟨m,rfl,_⟩,rfl⟩;exact⟨m,⟨_,_,rfl,rfl,rfl⟩,trivial⟩
def ag9(vs:ac be):oV B W [.s,.aN 1 1 [.i .i64]] vs->∃x:aW.b5,dH (fun b=>(jX gs W).get b) (aW.c5 x) [] (vs.map (toA W))∧(x.dN.length<=B∧x.cp.length<=B):=by
 rintro⟨v,_,rfl,⟨s,rfl,h1⟩,w,_,rfl,h,rfl⟩;obtain⟨l,JI,_,d⟩:=QL (gs:=gs) (by decide) ag7 h;exact⟨⟨s.data.toList,l⟩,⟨_,_,rfl,rfl,_,_,rfl,d,rfl⟩,h1,by show l.length<=B;omega⟩
def ag8(vs:ac be):oV B W [.s,.s] vs->∃x:aW.cI,dH (fun b=>(jX gs W).get b) (aW.gh x) [] (vs.map (toA W))∧(x.1.length<=B∧x.2.length<=B):=by
 rintro⟨v,_,rfl,⟨s,rfl,h1⟩,v',_,rfl,⟨bh,rfl,h2⟩,rfl⟩;exact⟨(s.data.toList,bh.data.toList),⟨_,_,rfl,rfl,_,_,rfl,rfl,rfl⟩,h1,h2⟩
def aey(a8:B<=1048576){v v':be}(h:oV B W [.aN 2 1 [.s,.aN 1 1 [.i .i64]]] [v])(aC:oV B W [.aN 2 1 [.s,.s]] [v']):
 ∃(l:ac aW.b5) (x:ac aW.cI),(aW.qo l∧aW.rB x)∧den (fun b=>(jX gs W).get b) (.bb 2 aW.b5 aW.c5 l) [] (toA W v)∧den (fun b=>(jX gs W).get b) (.bb 2 aW.cI aW.gh x) [] (toA W v'):=by
 obtain⟨w,_,e,hw,rfl⟩:=h;cases e;obtain⟨w',_,e,eL,rfl⟩:=aC;cases e;obtain⟨l,JI,n6,d⟩:=QL (gs:=gs) (by decide) ag9 hw;obtain⟨x,aqu,P0,kB⟩:=QL (gs:=gs) (by decide) ag8 eL;exact⟨l,x,⟨⟨by omega,fun t aF=>⟨zag (n6 t aF).1 a8,zag (n6 t aF).2 a8⟩⟩,⟨by omega,fun t aF=>⟨zag (P0 t aF).1 a8,zag (P0 t aF).2 a8⟩⟩⟩,d,kB⟩
end
variable{v v':be}{l:ac aW.b5}{x:ac aW.cI}
def yB:∀p∈gk.kK.gs,(lL gk.kK.gs .nil).get p.1=some p.2:=aW.Hp (by kernel_rfl) (by kernel_rfl) (by kernel_rfl)
def sZ:∀p∈gk.kK.gs,p.1<9:=aW.Hp (by decide) (by decide) (by decide)
def arv{W:d7}(et:9<=W.heap.size)(gz:aW.qo l∧aW.rB x)(ao:den (fun b=>(jX gk.kK.gs W).get b) (.bb 2 aW.b5 aW.c5 l) [] (toA W v))(aB:den (fun b=>(jX gk.kK.gs W).get b) (.bb 2 aW.cI aW.gh x) [] (toA W v')):
 ∃st',hf a4.ctx 3 ⟨[toA W v,toA W v'],⟨jX gk.kK.gs W,2*W.heap.size⟩,.bool true,st'⟩:=by
 have hn:∀q∈gk.kK.gs,q.1<W.heap.size:=fun q hq=>zbL (sZ q hq) et;have hp:(aW.Ok aW.ka aW.ka.up).spec.pre ((l,x),fun b=>(jX gk.kK.gs W).get b) [toA W v,toA W v'] ⟨jX gk.kK.gs W,2*W.heap.size⟩:=
  ⟨gz,fun q hq=>(alB (hn q hq)).trans (yB q hq),⟨fun b hb=>alD hn b hb,fun b o h=>h,rfl,rfl,zdS,fun b hb=>by simp at hb,fun k o b hk=>by simp at hk⟩,
   ⟨_,_,rfl,ao,_,_,rfl,aB,rfl⟩⟩
 obtain⟨v,st',dJ,aL⟩:=aW.Yt _ _ ⟨_,hp⟩;obtain⟨a5,_,_,aB⟩:=dJ _ hp;have aB:v= .bool true:=aB;subst aB;exact⟨st',aL⟩
def run{W:d7}(gz:aW.qo l∧aW.rB x)(ao:den (fun b=>(jX gk.kK.gs W).get b) (.bb 2 aW.b5 aW.c5 l) [] (toA W v))(aB:den (fun b=>(jX gk.kK.gs W).get b) (.bb 2 aW.cI aW.gh x) [] (toA W v'))(hl:laidMetH Tryz.prog Rows.boundsCertificatesUptoRow.laid W)(af:W.ShapedOpen Tryz.prog):
 Calls Tryz.prog 3 #[v,v'] W fun e vP=>e= .returned (.bool true)∧W.keptBut vP (fun _=>False)∧∀i,i<W.heap.size->vP.heap[i]? =W.heap[i]? :=by
 rw[MakeChecks.laidMetH_plain _ _ _ aap]at hl;obtain⟨ps,hl,_⟩:=hl;have et:=akG af;obtain⟨st',aL⟩:=arv et gz ao aB;have hw:bz a4.ctx (n2 9 W.heap.size) ⟨jX gk.kK.gs W,2*W.heap.size⟩ W:=auR (X:=a4.ctx) (gs:=gk.kK.gs) et (aW.Hp (akz hl af) (akA hl af) (akB hl af));have ha:bI (n2 9 W.heap.size) [toA W v,toA W v'] [v,v']:=.cons (Q1 (g:=9) et v) (.cons (Q1 (g:=9) et v') (.nil _));refine(ae3 aL (as':=[v,v']) ha hw).mono fun e vP ⟨aR,v',he,aB,_,hk⟩=> ?_;have aB:bq aR (.bool true) v':=aB;cases aB;have DT:∀i,i<W.heap.size->vP.heap[i]? =W.heap[i]? :=fun i aa=>hk.kept i aa fun j l hl aO=>by
  unfold n2 at hl;split at hl
  ·cases hl;exact absurd rfl aO
  ·split at hl
   ·cases hl;exact absurd rfl aO
   ·cases hl
 refine⟨he,⟨hk.hx.1,hk.hx.2,fun i aa=> ?_⟩,DT⟩;rw[DT i aa];exact(World.keptBut_refl W (fun _=>False)).2.2 i aa
def abZ{W vP:d7}(h:∀i,i<W.heap.size->vP.heap[i]? =W.heap[i]?){p:MemPlace}(hp:p.block<W.heap.size):W.sameAt vP p:=by
 cases p with
 |cell b o=>exact World.cell?_of_block (w:=W) (h b hp)
 |map b=>exact h b hp
def vF:ap be:= #[.slice none 0 0,.slice none 0 0]
def met(os:Os):laidMetH Tryz.prog Rows.boundsCertificatesUptoRow.laid ((World.laidAll Tryz.prog os Rows.boundsCertificatesUptoRow.laid).forCall (fun _ _=>0) ⟨#[],vF,[]⟩).memory:=by
 rw[MakeChecks.laidMetH_plain _ _ _ aap];exact laidMet_laidAll vF (by kernel_rfl) (by kernel_rfl)
def auQ(os:Os)(H:Type)(enc:ce×be->H):∃(w:d7) (tape:Tape) (i:Input),w.os=os∧(w.forCall tape i).Shaped Tryz.prog∧i.vars=[]∧Input.okWide Tryz.prog (w.forCall tape i) .any w.heap.size 3 i∧
 (Rows.OpenSpec.upto Rows.boundsCertificatesSpec).preRow enc Tryz.prog Tryz.f3 [] false Rows.boundsCertificatesUptoRow.laid (w.forCall tape i).memory i.args∧({}:Assume).holds Tryz.prog (lone (Frame.enter Tryz.prog 3 i.args .normal) [] (w.forCall tape i)):=by
 have bH:Input.okWideB Tryz.prog ((World.laidAll Tryz.prog os Rows.boundsCertificatesUptoRow.laid).forCall (fun _ _=>0) ⟨#[],vF,[]⟩) 3 ⟨#[],vF,[]⟩=true:=by kernel_rfl
 have J:DataW.whole enc Tryz.prog ((World.laidAll Tryz.prog os Rows.boundsCertificatesUptoRow.laid).forCall (fun _ _=>0) ⟨#[],vF,[]⟩).memory Tryz.f3.params.toList (Rows.OpenSpec.upto Rows.boundsCertificatesSpec).vars false vF.toList 8=some ([DataW.nil,DataW.nil],[],[]):=by kernel_rfl
 have et:Rows.boundsCertificatesSpec.sizedB enc Tryz.prog Tryz.f3 false ((World.laidAll Tryz.prog os Rows.boundsCertificatesUptoRow.laid).forCall (fun _ _=>0) ⟨#[],vF,[]⟩).memory vF 8=true:=by kernel_rfl
 exact⟨World.laidAll Tryz.prog os Rows.boundsCertificatesUptoRow.laid,fun _ _=>0,⟨#[],vF,[]⟩,World.laidAll_os _ _ _,World.shaped_of_RefB (by kernel_rfl) (by kernel_rfl),(Input.okWide_of_okWideB (base:=0) bH).1,(Input.okWide_of_okWideB bH).2,
  ⟨⟨(OpenSpec.pre_some rfl [] false _ _).2 ⟨_,_,_,DataW.Whole_of_whole J,rfl,by rfl⟩,met os⟩,sizedMet_of_sizedB et⟩,by
  simp only[Assume.holds];refine⟨?_,?_,?_,?_,?_⟩<;>simp⟩
def lifted(os:Os)(started:os.Started)(H:Type)(enc:ce×be->H)(F:Stop.Interp):
 ReturnsInHanded {} Tryz.checked os 3 .any ((Rows.OpenSpec.upto Rows.boundsCertificatesSpec).preRow enc Tryz.prog Tryz.f3 [] false Rows.boundsCertificatesUptoRow.laid)
  (((Rows.OpenSpec.upto Rows.boundsCertificatesSpec).at F).post enc Tryz.prog Tryz.f3 false true false false):=by
 refine returnsInHanded_of_row (C:=Tryz.checked) own started (by kernel_rfl) Tryz.func3 (auQ os H enc) ?_;intro W base args ds gs before wH hw hc hk g7 hl NO avs;have aE:=hw.lt;have fm:=hw;obtain⟨p,q,jW,iS,hb,_,_⟩:=fm;have aB:gs=[]∧q=[]:=by
  cases gs with
  |cons y al=>exact iS.elim
  |nil=>exact⟨rfl,iS⟩
 obtain⟨rfl,rfl⟩:=aB;rw[zcX]at hb;subst hb;have Hs:=jW;rw[params3]at Hs;obtain⟨v,v',d,kB,jO,hZ,ha,rfl,rfl,gz,cg⟩:=trodAll_two Hs;have NT:=wH 0 22 v (by kernel_rfl) (by rw[ha];rfl);have oG:=wH 1 23 v' (by kernel_rfl) (by rw[ha];rfl);obtain⟨Js,pl,Jv,rfl⟩:=okWide_slice aud NT;obtain⟨apX,ap1,apY,rfl⟩:=okWide_slice auf oG;obtain⟨fuel,Xc⟩:=gz;obtain⟨Up,ki⟩:=cg;have A1:Rows.uptoBulkAll [d,kB]<=1048576:=zbB (hk _ rfl);have qN:Rows.uptoBulk d<=1048576:=zag (CY (by simp)) A1;have yI:Rows.uptoBulk kB<=1048576:=zag (CY (by simp)) A1;have aL:=Gh 20 fuel 22 [.slice Js pl Jv] d _ _ Xc afe qN;have mW:=Gh 20 Up 23 [.slice apX ap1 apY] kB _ _ ki aff yI;obtain⟨l,x,a8,ao,yw⟩:=aey (gs:=gk.kK.gs) (zae _) aL mW;subst ha;refine(run a8 ao yw hl NO).mono fun e vP ⟨he,fs,DT⟩=> ?_;subst he;refine⟨_,rfl,[d,kB],[],jO++hZ,[],jO++hZ,[],hw,?_,?_,rfl,?_,fun h=>by cases h⟩
 ·rw[results3,apf];exact trodAll_mk1 (shut_bool Tryz.underlying4 _)
 ·rw[params3];exact trodAll_mk2 (Go.WideElems.Trod_stays Yr ari arw ⟨fuel,Xc⟩ (fun x J=>abZ DT (aE x (by simp[J]))) (fun x J=>by simpa using aE x (by simp[J]))) (Go.WideElems.Trod_stays Yr arj arx ⟨Up,ki⟩ (fun x J=>abZ DT (aE x (by simp[J]))) (fun x J=>by simpa using aE x (by simp[J])))
 ·exact World.keptBut_mono (fun _ h=>h.elim) fs
