/- In every world in which the listed variables read as the claim says, the call of ProofsRoundings returns true and changes nothing. -/
import Derived.Test.YtcfbdmddggcjgaaGreatDoorRows
import Derived.Handed
import Derived.ProofKit
import Derived.OpenShut
import Derived.Shelf.Vars
import Derived.Lay
import Derived.LaidMore
import Derived.ChangeMaps5
import Derived.Lib.SmallJoins
import Derived.Test.YtcfbdmddggcjgaaGreatDoorC3
import Derived.Test.YtcfbdmddggcjgaaGreatDoorM3
set_option linter.all false
namespace Go.Proofs.YtcfbdmddggcjgaaGreatDoor
open Go.ChangeShapes Go.WideShapes Go.ChangeAt Go.RowKit Go.az Go.Deep Go.ChangeMaps Go.Joins
set_option maxRecDepth 100000
theorem own:ownKnob Tryz.prog.godebug=none:=by kernel_rfl
theorem cW{P:Program}{W:World}(h:W.ShapedOpen P){g:Nat}{t:TypeId}(aZ:g<P.globals.size)(h0:(((begin P (fun _ _=>0) default).world.heap[g]?).bind Obj.row?).map (·.2)=some t):∃cs,W.heap[g]? =some (.cells cs t):=by
 obtain⟨⟨z,gO⟩,aG,e2⟩:=Option.map_eq_some_iff.1 h0;simp only at e2;subst e2;obtain⟨cs,J,_⟩:=h.1 g z gO aZ aG;exact⟨cs,J⟩
theorem uJ:Tryz.prog.globals.size=11:=by kernel_rfl
theorem Rs:(Rows.proofsRoundingsRow.laid.all fun x=>x.2.handleName?.isNone)=true:=by kernel_rfl
theorem ZH{W:World}{ps:List MemPlace}(hl:DataW.LaidVars Tryz.prog W Rows.proofsRoundingsRow.laid ps)(ak:W.ShapedOpen Tryz.prog):su 11 W gR.h5:=
 Di (n:=4) (t:=247) (name:= "vernier/proofs.plain") (d:=Rows.laid_vernier_proofs_plain) hl (by simp[Rows.proofsRoundingsRow]) (by kernel_rfl) (by kernel_rfl) (by kernel_rfl) (by decide) (by decide) (by kernel_rfl) (cW ak (by rw[uJ];decide) (by kernel_rfl))
theorem ZI{W:World}{ps:List MemPlace}(hl:DataW.LaidVars Tryz.prog W Rows.proofsRoundingsRow.laid ps)(ak:W.ShapedOpen Tryz.prog):su 11 W gR.dM:=
 Di (n:=4) (t:=293) (name:= "vernier/lang.after") (d:=Rows.laid_vernier_lang_after) hl (by simp[Rows.proofsRoundingsRow]) (by kernel_rfl) (by kernel_rfl) (by kernel_rfl) (by decide) (by decide) (by kernel_rfl) (cW ak (by rw[uJ];decide) (by kernel_rfl))
theorem ZK{W:World}{ps:List MemPlace}(hl:DataW.LaidVars Tryz.prog W Rows.proofsRoundingsRow.laid ps)(ak:W.ShapedOpen Tryz.prog):su 11 W gR.ih:=
 Di (n:=4) (t:=354) (name:= "vernier/lang.shapes") (d:=Rows.laid_vernier_lang_shapes) hl (by simp[Rows.proofsRoundingsRow]) (by kernel_rfl) (by kernel_rfl) (by kernel_rfl) (by decide) (by decide) (by kernel_rfl) (cW ak (by rw[uJ];decide) (by kernel_rfl))
theorem ZL{W:World}{ps:List MemPlace}(hl:DataW.LaidVars Tryz.prog W Rows.proofsRoundingsRow.laid ps)(ak:W.ShapedOpen Tryz.prog):su 11 W gR.oY:=
 Di (n:=4) (t:=400) (name:= "internal/strconv.uint64pow10") (d:=Rows.laid_internal_strconv_uint64pow10) hl (by simp[Rows.proofsRoundingsRow]) (by kernel_rfl) (by kernel_rfl) (by kernel_rfl) (by decide) (by decide) (by kernel_rfl) (cW ak (by rw[uJ];decide) (by kernel_rfl))
theorem ZJ{W:World}(ak:W.ShapedOpen Tryz.prog):su 11 W gR.eT:=by
 have h0:((begin Tryz.prog (fun _ _=>0) default).world.heap[3]?).bind Obj.row?=some (#[.int .i64 0],3):=by kernel_rfl
 obtain⟨cs,J,U,_⟩:=ak.1 3 _ 3 (by rw[uJ];decide) h0;obtain⟨m,hm⟩:=cell_of_shapedOpen_int (k:=.i64) ak (by rw[uJ];decide) h0 rfl (by kernel_rfl) (by kernel_rfl) Tryz.underlying3;have hc:cs= #[.int .i64 m]:=by
  have ah:cs[0]? =some (.int .i64 m):=by simpa[World.cell?,J]using hm
  obtain⟨l⟩:=cs
  match l,U,ah with
  |[x],_,ah=>simp at ah;rw[ah]
 refine⟨by decide,[.chan (some 1)],3,1,cs,_,rfl,by decide,J,?_⟩;rw[hc];exact .cons (.sh 1 m (.inl rfl)) (.nil _)
theorem ZQ{W:World}(ak:W.ShapedOpen Tryz.prog):11<=W.heap.size:=by
 obtain⟨cs,h⟩:=cW (g:=10) (t:=430) ak (by rw[uJ];decide) (by kernel_rfl);have:=(Array.getElem?_eq_some_iff.1 h).1;omega
theorem K9:Tryz.prog.underlying 23=some (.struct #[Field.mk "E" 3 0 false "" "" 0,Field.mk "P" 3 1 false "" "" 8]):=by kernel_rfl
theorem Ut:Tryz.prog.underlying 24=some .string:=by kernel_rfl
theorem ld:Tryz.prog.cellsOf 3=1:=by kernel_rfl
theorem M0:Tryz.prog.cellsOf 23=2:=by kernel_rfl
theorem aiE:oneCellFields Tryz.prog #[Field.mk "E" 3 0 false "" "" 0,Field.mk "P" 3 1 false "" "" 8]=true:=by kernel_rfl
def q1(m e q:Int)(s:ByteArray):List Value:=[.int .i64 m,.agg #[.int .i64 e,.int .i64 q],.string s]
theorem params3:Tryz.f3.params.toList=[3,23,24]:=by kernel_rfl
theorem results3:Tryz.f3.resultTypes.toList=[4]:=by kernel_rfl
theorem aiq:Tryz.f3.resultTypes.size=1:=by kernel_rfl
theorem Vz{H:Type}{enc:TypeId×Value->H}{W:World}{kE:Nat}{args:Array Value}{ds:List (DataW H)}{p:List MemPlace}
 (pC:∀(j:Nat) t v,Tryz.f3.params[j]? =some t->args[j]? =some v->Value.okWide Tryz.prog W .any kE t v)
 (h:DataW.TrodAll enc Tryz.prog W 0 (fun _=>true) true Tryz.f3.params.toList args.toList ds p):
 ∃(m e q:Int) (s:ByteArray),args=(q1 m e q s).toArray∧(∃a b c,ds=[a,b,c])∧∀(sx:World) (base:Nat) (sp:Nat->Bool) (held:Bool),DataW.TrodAll enc Tryz.prog sx base sp held Tryz.f3.params.toList args.toList ds []:=by
 rw[params3]at h;obtain⟨v,v',amy,d,lh,anm,p,dL,aoj,a2,rfl,rfl,J,U,ah⟩:=trodAll_three h;subst a2;have bu:Tryz.f3.params[0]? =some 3:=by kernel_rfl
 have bg:Tryz.f3.params[1]? =some 23:=by kernel_rfl
 have bK:Tryz.f3.params[2]? =some 24:=by kernel_rfl
 obtain⟨m,rfl,rfl,rfl,fR⟩:=open_int Tryz.underlying3 (pC 0 3 v bu rfl) J;obtain⟨s,rfl,rfl,rfl,Gp⟩:=open_string Ut (pC 2 24 amy bK rfl) ah;obtain⟨cs,rfl,fa⟩:=okWide_struct K9 (pC 1 23 v' bg rfl);obtain⟨fuel,U⟩:=U;obtain⟨y0,y1,n,aG,hl,Zz,aW⟩:=trod_struct2 K9 U;obtain⟨e,ge,rfl,Lo⟩:=DataW.trod_int Tryz.underlying3 Zz;obtain⟨q,Dj,rfl,am7⟩:=DataW.trod_int Tryz.underlying3 aW;rw[ld]at ge Dj;rw[M0]at fa;obtain⟨l⟩:=cs
 match l,fa with
 |[x,y],_=>
  have ge:[x]=[Value.int .i64 e]:=ge;have Dj:[y]=[Value.int .i64 q]:=Dj;cases ge;cases Dj;simp only[Prod.mk.injEq]at aG;obtain⟨rfl,rfl⟩:=aG;refine⟨m,e,q,s,rfl,⟨_,_,_,rfl⟩,fun sx base sp held=> ?_⟩;rw[params3];exact trodAll_mk3 (shut_int Tryz.underlying3 fR) (shut_agg2 (y0:=(.lit (.int .i64 e),[])) (y1:=(.lit (.int .i64 q),[])) K9 aiE M0 ⟨1,trod_int_mk 0 Tryz.underlying3 Lo⟩ ⟨1,trod_int_mk 0 Tryz.underlying3 am7⟩) (shut_string Ut Gp)
theorem aaY:∀p∈gR.j7.gs,(hO gR.j7.gs .nil).get p.1=some p.2:=ck.Dk (by kernel_rfl) (by kernel_rfl) (by kernel_rfl) (by kernel_rfl) (by kernel_rfl)
theorem qh:∀p∈gR.j7.gs,p.1<11:=ck.Dk (by decide) (by decide) (by decide) (by decide) (by decide)
theorem akf(m e q:Int)(s:ByteArray):∃st',cF aN.ctx 3 ⟨q1 m e q s,⟨hO gR.j7.gs .nil,11⟩,.bool true,st'⟩:=by
 have hb:∀b,11<=b->(hO gR.j7.gs .nil).get b=none:=fun b hb=>by
  cases h:(hO gR.j7.gs .nil).get b with
  |none=>rfl
  |some o=>
   rcases Gk _ _ _ _ h with hm|hm
   ·have:=qh _ hm;simp only at this;omega
   ·simp at hm
 have hp:(ck.I4 ck.jO ck.jO.up).spec.pre ((m,e,q,s.data.toList),fun b=>(hO gR.j7.gs .nil).get b) (q1 m e q s) ⟨hO gR.j7.gs .nil,11⟩:=
  ⟨trivial,aaY,⟨hb,fun b o h=>h,rfl,rfl,List.nodup_nil,fun b hb=>by simp at hb,fun k o b ae=>by simp at ae⟩,
   ⟨_,_,rfl,rfl,_,_,rfl,⟨_,rfl,⟨_,_,rfl,rfl,_,_,rfl,rfl,rfl⟩⟩,_,_,rfl,rfl,rfl⟩⟩
 obtain⟨v,st',eZ,aF⟩:=ck.PJ (q1 m e q s) ⟨hO gR.j7.gs .nil,11⟩ ⟨_,hp⟩;obtain⟨cc,_,_,aD⟩:=eZ _ hp;have aD:v= .bool true:=aD;subst aD;exact⟨st',aF⟩
theorem aj3{ι:bq}(m e q:Int)(s:ByteArray):bF ι (q1 m e q s) (q1 m e q s):=
 .cons (.int _ _) (.cons (.agg _ _ rfl fun i h aL=>by
  have ag:i=0∨i=1:=by simp at h;omega
  rcases ag with rfl|rfl
  ·exact .int _ _
  ·exact .int _ _) (.cons (.string s) (.nil _)))
theorem run{W:World}(m e q:Int)(s:ByteArray)(hl:laidMetH Tryz.prog Rows.proofsRoundingsRow.laid W)(ak:W.ShapedOpen Tryz.prog):
 Calls Tryz.prog 3 (q1 m e q s).toArray W fun e sx=>e= .returned (.bool true)∧W.keptBut sx (fun _=>False):=by
 rw[MakeChecks.laidMetH_plain _ _ _ Rs]at hl;obtain⟨ps,hl,_⟩:=hl;obtain⟨st',aF⟩:=akf m e q s;have hw:bp aN.ctx (rM 11) ⟨hO gR.j7.gs .nil,11⟩ W:=am8 (X:=aN.ctx) (gs:=gR.j7.gs) (ZQ ak) (ck.Dk (ZH hl ak) (ZI hl ak) (ZJ ak) (ZK hl ak) (ZL hl ak));refine(V1 aF (as':=q1 m e q s) (aj3 m e q s) hw).mono fun e sx ⟨aM,v',he,aD,_,ae⟩=> ?_;have aD:bs aM (.bool true) v':=aD;cases aD;refine⟨he,ae.gw.1,ae.gw.2,fun i ag=> ?_⟩;have aa4:sx.heap[i]? =W.heap[i]? :=ae.kept i ag fun j l hl aZ=>by
  unfold rM at hl;split at hl
  ·cases hl;exact absurd rfl aZ
  ·cases hl
 rw[aa4];exact(World.keptBut_refl W (fun _=>False)).2.2 i ag
def Lm:Array Value:=(q1 0 0 0 ⟨#[]⟩).toArray
theorem met(os:Os):laidMetH Tryz.prog Rows.proofsRoundingsRow.laid ((World.laidAll Tryz.prog os Rows.proofsRoundingsRow.laid).forCall (fun _ _=>0) ⟨#[],Lm,[]⟩).memory:=by
 rw[MakeChecks.laidMetH_plain _ _ _ Rs];exact laidMet_laidAll Lm (by kernel_rfl) (by kernel_rfl)
theorem lifted(os:Os)(started:os.Started)(H:Type)(enc:TypeId×Value->H):
 ReturnsInHanded {} Tryz.checked os 3 .any (fun w args=>(Rows.proofsRoundingsSpec.pre enc Tryz.prog Tryz.f3 [] false w args∧laidMetH Tryz.prog Rows.proofsRoundingsRow.laid w)∧sizedMet enc Tryz.prog Tryz.f3 (OpenSpec.ofChange Rows.proofsRoundingsSpec) false w args)
  (Rows.proofsRoundingsSpec.post enc Tryz.prog Tryz.f3 false true false false):=by
 refine returnsInHanded_of_calls (C:=Tryz.checked) own started (by kernel_rfl)
  (ChangeSpec.witness_shaped (enc:=enc) (C:=Tryz.checked) (os:=os) (X:=fun w _=>laidMetH Tryz.prog Rows.proofsRoundingsRow.laid w) false (World.laidAll Tryz.prog os Rows.proofsRoundingsRow.laid) Lm 8 (World.laidAll_os _ _ _) (World.shaped_of_RefB (by kernel_rfl) (by kernel_rfl)) (by kernel_rfl) (by kernel_rfl) (by kernel_rfl) (met os)) ?_
 intro w tape i _ ID _ bM u3 _;obtain⟨_,_,_,rk,aaO,_,_,_,_,pC⟩:=bM;have aaL:rk=Tryz.f3:=Option.some.inj (aaO.symm.trans Tryz.func3);subst aaL;obtain⟨⟨⟨ds,gs,before,hw,hc⟩,aa⟩,_⟩:=u3;have ek:DataW.Whole enc Tryz.prog Tryz.f3.params.toList Rows.proofsRoundingsSpec.vars false (w.forCall tape i) i.args.toList ds gs before:=DataW.Whole.of_heap (w':=w.forCall tape i) (by rfl) hw;have hl:laidMetH Tryz.prog Rows.proofsRoundingsRow.laid (w.forCall tape i):=aa.of_heap (by rfl);have gr:=ek;obtain⟨p,q,iv,g2,hb,_,_⟩:=gr;obtain⟨m,e,fq,s,a2,⟨a,b,c,rfl⟩,aao⟩:=Vz pC iv;have aD:gs=[]∧q=[]:=by
  cases gs with
  |cons y av=>exact g2.elim
  |nil=>exact⟨rfl,g2⟩
 obtain⟨rfl,rfl⟩:=aD;rw[a2];refine(run m e fq s hl ID).mono fun e sx ⟨he,ae⟩=> ?_;subst he;refine ChangeSpec.post_blind ⟨[a,b,c],[],before,[],[],[],by rw[a2]at ek;exact ek,?_,?_,rfl,?_,fun h=>by cases h⟩
 ·rw[results3,aiq];exact trodAll_mk1 (shut_bool Tryz.underlying4 _)
 ·have:=aao sx 0 (fun b=>decide (b<(w.forCall tape i).heap.size)) true;rw[a2]at this;exact this
 ·exact World.keptBut_mono (fun _ h=>h.elim) ae
