/- An abstract machine, and that its evaluations stand for runs of the model (part 3); no condition. -/
import Derived.KernelRfl
import Derived.LaidLaws
import Derived.Test.YtcfbdmddggcjgaaGreatDoorM2
noncomputable section
set_option linter.all false
namespace Go.az
variable{X:Ctx}
def n1(aj:Nat)(l:List (Nat×Nat))(i:Nat):Option Nat:=if i<aj then some i else(l.find? (fun p=>Nat.beq p.1 i)).map (·.2)
def nd(old:Bool)(b7:Nat->Option Nat):bL->bL->Bool
 |.cells cs e bt aR,.cells cs' cj er rn=>Nat.beq e cj&&Nat.beq bt.1 er.1&&Nat.beq bt.2 er.2&&(aR==rn)&&vX b7 cs cs'
 |.map es c,.map e8 bE=>if old then Nat.beq c bE&&vx b7 es e8 else Jj b7 es c e8
 |_,_=>false
def au.y9{α:Type}(q:Nat->α->Bool):au α->(Nat->Nat)->Bool
 |.nil,_=>true
 |.node l v r,g=>(match v with|some x=>q (g 0) x|none=>true)&&au.y9 q l (fun n=>g (2*n+1))&&au.y9 q r (fun n=>g (2*n+2))
theorem au.GL{α:Type}{q:Nat->α->Bool}:∀(t:au α) (g:Nat->Nat),au.y9 q t g=true->∀n x,t.get n=some x->q (g n) x=true
 |.nil,_,_,n,x,h=>by simp at h
 |.node l v r,g,a2,n,x,h=>by
  simp only[au.y9,b2]at a2;obtain⟨⟨J,U⟩,ah⟩:=a2;cases n with
  |zero=>rw[au.sQ]at h;subst h;exact J
  |succ m=>
   rw[au.nF]at h;split at h
   ·have:=au.GL l _ U _ x h;have e:2*(m/2)+1=m+1:=by omega
    simp only[e]at this;exact this
   ·have:=au.GL r _ ah _ x h;have e:2*(m/2)+2=m+1:=by omega
    simp only[e]at this;exact this
def um(aj:Nat)(l:List (Nat×Nat))(v:Value)(st:aw)(v2:Value)(cS:aw):Bool:=
 fs (n1 aj l) v v2&&Nat.ble aj st.aj&&(l.all fun p=>Nat.ble aj p.1&&Nat.ble (Nat.succ p.1) st.aj&&Nat.ble aj p.2)&&(l.all fun p=>l.all fun q=> !Nat.beq p.2 q.2||Nat.beq p.1 q.1)&&
 au.y9 (fun i o=>match n1 aj l i with
  |some j=>(match cS.h.get j with|some g3=>nd (decide (i<aj)) (n1 aj l) o g3|none=>false)
  |none=>false) st.h id
section
variable(aj:Nat)(l:List (Nat×Nat))(st cS:aw)(dB:bq)
def tM(i j:Nat)(lc:Loc):Nat->Nat:=
 match st.h.get i,cS.h.get j with
 |some (.map es c),some (.map e8 bE)=>xY lc.bW es c e8 bE
 |_,_=>lc.bW
def o2:bq:=fun i=>
 if i<aj then dB i else((l.find? (fun p=>Nat.beq p.1 i)).map (·.2)).bind fun j=>(dB j).map fun lc=>{lc with bW:=tM st cS i j lc}
end
theorem Sj(aj:Nat)(l:List (Nat×Nat))(st cS:aw)(dB:bq):Ca (n1 aj l) (o2 aj l st cS dB) dB:=by
 intro i j lc aF hm;unfold n1 at aF;unfold o2;split at aF
 ·rename_i h;cases aF;rw[if_pos h];exact⟨lc.bW,hm⟩
 ·rename_i h;rw[if_neg h,aF];simp[hm]
theorem bp.can{dB:bq}{aj:Nat}{l:List (Nat×Nat)}{v v2:Value}{st cS:aw}{w:World}(hc:um aj l v st v2 cS=true)(anU:X.aB<=aj)(h:bp X dB cS w):bp X (o2 aj l st cS dB) st w:=by
 have DX:=Sj aj l st cS dB;unfold um at hc;simp only[b2]at hc;obtain⟨⟨⟨⟨_,oG⟩,jt⟩,pv⟩,rC⟩:=hc;have oG:=kF.1 oG;have hl:∀p∈l,aj<=p.1∧p.1<st.aj∧aj<=p.2:=by
  intro p hp;have:=List.all_eq_true.1 jt p hp;simp only[b2]at this;exact⟨kF.1 this.1.1,kF.1 this.1.2,kF.1 this.2⟩
 have DK:∀p∈l,∀q∈l,p.2=q.2->p.1=q.1:=by
  intro p hp q hq e;have:=List.all_eq_true.1 (List.all_eq_true.1 pv p hp) q hq;rw[Bool.or_eq_true]at this;rcases this with hh|hh
  ·rw[e]at hh;simp at hh
  ·exact dY hh
 have sW:∀i j,¬i<aj->(l.find? (fun p=>Nat.beq p.1 i)).map (·.2)=some j->(i,j)∈l:=by
  intro i j _ af;obtain⟨p,hp,rfl⟩:=Option.map_eq_some_iff.1 af;have J:=List.mem_of_find?_eq_some hp;have U:=List.find?_some hp;have ah:=dY U;subst ah;exact J
 have u0:∀i o,st.h.get i=some o->∃j g3,n1 aj l i=some j∧cS.h.get j=some g3∧nd (decide (i<aj)) (n1 aj l) o g3=true:=by
  intro i o ao;have:=au.GL st.h id rC i o ao;simp only[id]at this;split at this
  ·rename_i j hj;split at this
   ·rename_i g3 oH;exact⟨j,g3,hj,oH,this⟩
   ·cases this
  ·cases this
 have xd:∀{old:Bool} {o g3:bL},nd old (n1 aj l) o g3=true->g3≠.dead:=by
  intro old o g3 h e;subst e;cases o<;>simp[nd]at h
 have kY:∀i j lc,n1 aj l i=some j->dB j=some lc->o2 aj l st cS dB i=some {lc with bW:=if i<aj then lc.bW else tM st cS i j lc}:=by
  intro i j lc aF hm;unfold n1 at aF;unfold o2;split at aF
  ·rename_i ag;cases aF;rw[if_pos ag,if_pos ag];exact hm
  ·rename_i ag;rw[if_neg ag,aF,if_neg ag];simp[hm]
 refine⟨fun i o ao ax=> ?_,fun i k o p a b ag gU ae H0 Ow xh e=> ?_,fun i ag=> ?_,fun i a a2=> ?_,fun g aZ=> ?_,by omega,fun i a o a2 ak ao ax=> ?_⟩
 ·obtain⟨j,g3,aF,oH,iz⟩:=u0 i o ao;obtain⟨lc,oD,hm⟩:=h.eu j g3 oH (xd iz);refine⟨_,kY i j lc aF oD,?_⟩;cases o with
  |cells cs e bt aR=>
   cases g3 with
   |cells cs' cj er rn=>
    simp only[nd,b2]at iz;obtain⟨⟨⟨⟨J,U⟩,ah⟩,aC⟩,a5⟩:=iz;have aG:=dY J;have e2:bt=er:=Prod.ext (dY U) (dY ah);have cw:=eq_of_beq aC;subst aG e2 cw;obtain⟨bg,bK⟩:=KH _ _ _ a5;obtain⟨C,er,hC⟩:=hm;exact⟨C,er,hC.there,by rw[bg];exact hC.room,fun i ag=>by
     obtain⟨c,fj,gm⟩:=hC.cell i (by omega);exact⟨c,fj,yC DX gm _ (bK i ag (by omega))⟩,by rw[bg];exact hC.tV,by rw[bg];exact hC.plain⟩
   |_=>simp[nd]at iz
  |map es c=>
   cases g3 with
   |map e8 bE=>
    obtain⟨e0,gV,C,iL,l2,oS⟩:=hm;simp only[nd]at iz;by_cases ag:i<aj
    ·simp only[ag,decide_true,if_true,b2]at iz;have aG:=dY iz.1;subst aG;refine⟨e0,gV,C,iL,l2,?_⟩;simp only[ag,if_true];exact ahV DX iz.2 oS
    ·simp only[ag,decide_false,Bool.false_eq_true,if_false]at iz;refine⟨e0,gV,C,iL,l2,?_⟩;simp only[ag,if_false];have:tM st cS i j lc=xY lc.bW es c e8 bE:=by unfold tM;rw[ao,oH]
     rw[this];exact Qb DX iz oS
   |_=>simp[nd]at iz
  |_=>cases g3<;>simp[nd]at iz
 ·obtain⟨i2,g3,ia,oH,O0⟩:=u0 i o ag;obtain⟨bK,gK,mC,xz,O1⟩:=u0 k p ae;obtain⟨oO,lo,_⟩:=h.eu i2 g3 oH (xd O0);obtain⟨vn,OR,_⟩:=h.eu bK gK xz (xd O1);rw[kY i i2 oO ia lo]at Ow;rw[kY k bK vn mC OR]at xh;cases Ow;cases xh;have e2:i2=bK:=h.inj i2 bK g3 gK oO vn oH (xd O0) xz (xd O1) lo OR e;subst e2;unfold n1 at ia mC;split at ia<;>split at mC
  ·cases ia;cases mC;rfl
  ·rename_i dW dM;cases ia;have:=hl _ (sW k i dM mC);simp only at this;omega
  ·rename_i dW dM;cases mC;have:=hl _ (sW i k dW ia);simp only at this;omega
  ·rename_i dW dM;exact DK _ (sW i i2 dW ia) _ (sW k i2 dM mC) rfl
 ·constructor
  ·unfold o2;rw[if_neg (by omega)];cases af:(l.find? (fun p=>Nat.beq p.1 i)).map (·.2)with
   |none=>rfl
   |some j=>
    have:=hl _ (sW i j (by omega) af);simp only at this;omega
  ·cases aZ:st.h.get i with
   |none=>rfl
   |some o=>
    obtain⟨j,_,aF,_⟩:=u0 i o aZ;unfold n1 at aF;rw[if_neg (by omega)]at aF;have:=hl _ (sW i j (by omega) aF);simp only at this;omega
 ·unfold o2 at a2;split at a2
  ·exact h.gh i a a2
  ·obtain⟨j,_,a2⟩:=Option.bind_eq_some_iff.1 a2;obtain⟨lc,oD,rfl⟩:=Option.map_eq_some_iff.1 a2;exact h.gh j lc oD
 ·unfold o2;rw[if_pos (by omega)];exact h.kL g aZ
 ·obtain⟨j,g3,aF,oH,iz⟩:=u0 i o ao;obtain⟨lc,oD,hm⟩:=h.eu j g3 oH (xd iz);have sM:=kY i j lc aF oD;rw[a2]at sM;cases sM;simp only at ak;cases o with
  |cells cs e bt aR=>
   cases g3 with
   |cells cs' cj er rn=>
    have kW:lc.bW=jX:=by
     by_cases ag:i<aj
     ·rw[if_pos ag]at ak;exact ak
     ·rw[if_neg ag]at ak;have:tM st cS i j lc=lc.bW:=by unfold tM;rw[ao,oH]
      rw[<-this];exact ak
    have mw:=h.k3 j lc _ oD kW oH (by simp);simp only[nd,b2]at iz;obtain⟨⟨⟨⟨_,U⟩,ah⟩,aC⟩,_⟩:=iz;have cw:=eq_of_beq aC;have gz:=dY U;have pj:=dY ah;exact⟨by rw[cw];exact mw.1,by rw[gz,pj];exact mw.2⟩
   |_=>simp[nd]at iz
  |map es c=>
   cases g3 with
   |map e8 bE=>
    exfalso;obtain⟨e0,gV,C,iL,l2,oS⟩:=hm;have cx:∀{bW:Nat->Nat} {clock:Nat},LK bW clock->bW≠jX:=by
     intro bW clock abP e;have J:=abP.up 1;rw[e]at J;simp[jX]at J
    by_cases ag:i<aj
    ·rw[if_pos ag]at ak;exact cx oS.n2 ak
    ·rw[if_neg ag]at ak;simp only[nd,ag,decide_false,Bool.false_eq_true,if_false]at iz;have:tM st cS i j lc=xY lc.bW es c e8 bE:=by unfold tM;rw[ao,oH]
     rw[this]at ak;exact cx (Qb DX iz oS).n2 ak
   |_=>simp[nd]at iz
  |_=>cases g3<;>simp[nd]at iz
theorem eV.can{ι dB:bq}{aj:Nat}{l:List (Nat×Nat)}{st cS:aw}{w w':World}(Pm:∀i,aj<=i->ι i=none)(h:eV ι dB w w')(hl:∀p∈l,aj<=p.2):eV ι (o2 aj l st cS dB) w w':=by
 refine⟨fun i a a2=> ?_,h.size,h.kept,fun i a a2=> ?_,h.gw⟩
 ·have ag:i<aj:=by
   rcases Nat.lt_or_ge i aj with q|q
   ·exact q
   ·rw[Pm i q]at a2;cases a2
  unfold o2;rw[if_pos ag];exact h.le i a a2
 ·unfold o2 at a2;split at a2
  ·exact h.new i a a2
  ·obtain⟨j,hj,a2⟩:=Option.bind_eq_some_iff.1 a2;obtain⟨lc,oD,rfl⟩:=Option.map_eq_some_iff.1 a2;rcases h.new j lc oD with q|q|⟨k,m,dW,h5,dM⟩
   ·obtain⟨p,hp,rfl⟩:=Option.map_eq_some_iff.1 hj;rw[Pm _ (hl p (List.mem_of_find?_eq_some hp))]at q;cases q
   ·exact .inr (.inl q)
   ·exact .inr (.inr ⟨k,m,dW,h5,dM⟩)
theorem g7.can{ι:bq}{w:World}{b:dG}{bc:Bool->List Frame}{s:Machine}{BN:aw}{v v2:Value}{st cS:aw}{eB:Bool}{l:List (Nat×Nat)}(hw:bp X ι BN w)(hc:um BN.aj l v st v2 cS=true)
 (h:g7 X ι w b bc s (.ret v2 cS eB)):g7 X ι w b bc s (.ret v st eB):=by
 obtain⟨aM,v',w',F,J,U,ah,aC,a5,ch,cV⟩:=h;have aD:fs (n1 BN.aj l) v v2=true:=by
  unfold um at hc;simp only[b2]at hc;exact hc.1.1.1.1
 have hl:∀p∈l,BN.aj<=p.2:=by
  unfold um at hc;simp only[b2]at hc;intro p hp;have:=List.all_eq_true.1 hc.1.1.2 p hp;simp only[b2]at this;exact kF.1 this.2
 exact⟨o2 BN.aj l st cS aM,v',w',F,yC (Sj _ _ _ _ _) J _ aD,bp.can hc hw.nG U,eV.can (fun i ag=>(hw.fresh i ag).1) ah hl,aC,a5,ch,cV⟩
def HC(call:bP)(res:List iu)(r:cC):dC:=
 cC.rec (motive:=fun _=>dC)
  (fun e fr st=>ee.rec (motive:=fun _=>dC) (lj call res none fr st) (fun _=>.no) (lj call res none fr st) (fun v=>lj call res (some v) fr st) e) .no r
def zn(call:bP)(n:Nat)(f:FuncId)(xf:aK)(as:List Value)(st:aw):List dC:=
 ey (ef as) xf.ay ((lU call n f xf.body ⟨lP as 0 .nil,[],none,false,none⟩ st).map (HC call xf.res)) [.no]
theorem VU{call:bP}{ι:bq}{st:aw}{w:World}{bc:Bool->List Frame}(dE:Good X)(ej:kB X call)(gu:ss X call)(qk:∀b ay bc,b.b3=none->wA X call b ay bc){f:FuncId}{xf:aK}{Fn:Func}{body:Code}(ok:sr X f xf Fn body)(n:Nat){K:CallKind}{as as':List Value}
 (has:bF ι as as') (hw:bp X ι st w) (aF:iJ ⟨f,K,none⟩ none ι bc) (cx:∀r∈zn call n f xf as st,r≠.no):
 ∃r∈zn call n f xf as st,g7 X ι w ⟨f,K,none⟩ bc (lone (Frame.enter X.P f as'.toArray K) (bc false) w) r:=by
 unfold zn at cx⊢;rw[nQ]at cx⊢;split
 ·rename_i hlen;rw[if_pos hlen]at cx;rw[fx]at hlen
  let b:dG:=⟨f,K,none⟩
  have pr:Frame.enter X.P f as'.toArray K=b.at ⟨as'.toArray++Array.replicate (xf.ay-as'.toArray.size) undef,[]⟩ [.code body]:=by
   simp[Frame.enter,dG.at,ok.fn,ok.body,ok.ay,b]
  rw[pr];have xC:=Wa (b:=b) (bc:=bc) dE ej (qk b xf.ay bc rfl) ⟨Fn,ok.fn,ok.ay⟩ n xf.body body ι ⟨lP as 0 .nil,[],none,false,none⟩ ⟨as'.toArray++Array.replicate (xf.ay-as'.toArray.size) undef,[]⟩ st w [] ok.code (NM has hlen) hw (.inl ⟨rfl,rfl⟩) aF;obtain⟨r,ia,mC⟩:=xC (fun r aF e=>by subst e;exact cx (HC call xf.res .no) (List.mem_map.2 ⟨_,aF,rfl⟩) rfl);refine⟨HC call xf.res r,List.mem_map.2 ⟨r,ia,rfl⟩,?_⟩;cases r with
  |no=>trivial
  |out e aE st'=>
   obtain⟨aM,a',w',J,U,ah,_,_,ch⟩:=mC;cases e with
   |norm=>
    refine g7.head (Steps.trans ch (.one (S3 rfl))) ah ?_;exact w5 (b:=b) (a:=a') (F:=b.returns a' []) (ay:=xf.ay) gu ok.fn ok.res J U rfl rfl rfl rfl (show mS aM none .returning from rfl)
   |exit id=>trivial
   |ret=>
    obtain⟨gy,cV⟩:=ch;refine g7.head (Steps.trans cV (.one (Td rfl))) ah ?_;exact w5 (b:=b) (a:=a') (F:=b.returns a' (.code .ret::gy)) (ay:=xf.ay) gu ok.fn ok.res J U rfl rfl rfl rfl (show mS aM none .returning from rfl)
   |bh v=>
    obtain⟨v',gy,aD,cV⟩:=ch;refine g7.head cV ah ?_;exact w5 (b:=b) (a:=a') (F:=b.panics a' gy v') (ay:=xf.ay) gu ok.fn ok.res J U rfl rfl rfl rfl ⟨v',aD,rfl⟩
 ·rename_i hlen;rw[if_neg hlen]at cx;exact absurd rfl (cx .no (by simp))
mutual
def yA:Value->List Nat
 |.pointer (some a)=>[a.block]
 |.slice (some a) _ _=>[a.block]
 |.map (some r)=>[r]
 |.func _ x y=>FR x++FR y
 |.iface _ v=>yA v
 |.agg a=>FR a
 |.tuple a=>FR a
 |_=>[]
def FR:Array Value->List Nat
 |⟨a⟩=>FT a
def FT:List Value->List Nat
 |[]=>[]
 |a::as=>yA a++FT as
end
def Rm:Option bL->Option bL->List (Nat×Nat)
 |some (.cells cs _ _ _),some (.cells cs' _ _ _)=>(FT cs).zip (FT cs')
 |some (.map es _),some (.map e8 _)=>es.flatMap fun e=>match iR e.key e8 with|some cj=>(yA e.val).zip (yA cj.val)|none=>[]
 |_,_=>[]
def HJ(aj:Nat)(h aL:au bL):Nat->List (Nat×Nat)->List (Nat×Nat)->List (Nat×Nat)
 |0,_,acc=>acc
 |_,[],acc=>acc
 |n+1,(a,b)::todo,acc=>
  cond (Nat.ble (Nat.succ a) aj||acc.any (fun p=>Nat.beq p.1 a)) (HJ aj h aL n todo acc) (HJ aj h aL n (Rm (h.get a) (aL.get b)++todo) ((a,b)::acc))
def akb(_nx:Nat)(h aL:au bL)(olds:List Nat):List (Nat×Nat):=olds.flatMap fun i=>Rm (h.get i) (aL.get i)
def ES(aj:Nat)(olds:List Nat)(v:Value)(st:aw)(r:dC):Bool:=
 dC.rec (motive:=fun _=>Bool) (fun v2 cS eB=>cond eB false (um aj (HJ aj st.h cS.h 1000 ((yA v).zip (yA v2)++akb aj st.h cS.h olds) []) v st v2 cS)) (fun _ _ _=>false) false r
def nu(olds:List Nat)(aj:Nat)(v:Value)(st:aw)(L:List dC):Bool:=
 List.rec (motive:=fun _=>Bool) true (fun r _ bb=>cond (ES aj olds v st r) bb false) L
theorem M8{olds:List Nat}{aj:Nat}{v:Value}{st:aw}:∀{L:List dC},nu olds aj v st L=true->∀r∈L,ES aj olds v st r=true
 |[],_,r,aF=>by cases aF
 |x::xs,h,r,aF=>by
  have aL:cond (ES aj olds v st x) (nu olds aj v st xs) false=true:=h;obtain⟨J,U⟩:=hU aL (by simp);rcases List.mem_cons.1 aF with rfl|aF
  ·exact J
  ·exact M8 U r aF
theorem ai1{olds:List Nat}{aj:Nat}{v:Value}{st:aw}{r:dC}(h:ES aj olds v st r=true):∃v2 cS l,r= .ret v2 cS false∧um aj l v st v2 cS=true:=by
 cases r with
 |no=>cases h
 |bh a b c=>cases h
 |ret v2 cS eB=>
  cases eB with
  |true=>cases h
  |false=>exact⟨v2,cS,_,rfl,h⟩
theorem akg{a7:au aK}{e5:la}(dE:Good X)(hA:mi X a7)(m7:p4 X e5){n:Nat}{f:FuncId}{xf:aK}{r:Row}{olds:List Nat}(aa:a7.get f=some xf)
 (h:nu olds r.st.aj r.v r.st' (zn (dx a7 e5 n) n f xf r.as r.st)=true):cF X f r:=by
 obtain⟨Fn,c,ok⟩:=hA f xf aa;obtain⟨mD,kW⟩:=Cz dE hA m7 n;have dV:=M8 h;intro ι as' w a2 hw;refine⟨ok.enters,fun K bc aF=> ?_⟩;obtain⟨q,py,s6⟩:=VU dE kW mD (fun b ay bc _=>FX kW b ay bc) ok n a2 hw aF (fun r aF e=>by
  have:=dV r aF;subst e;cases this)
 obtain⟨v2,cS,l,rfl,hc⟩:=ai1 (dV q py);exact g7.can hw hc s6
end Go.az
namespace Go.az
def HE(X:Ctx)(xf:aK)(Fn:Func):Bool:=
 match Fn.body with
 |some c=>Nat.beq Fn.ntmps xf.ay&&codeOk X xf.ay xf.body c&&sa X xf.res Fn.results.toList&& !(Fn.name== "runtime.NumGoroutine")
 |none=>false
theorem Zp{X:Ctx}{f:FuncId}{xf:aK}{Fn:Func}(af:X.P.funcs[f]? =some Fn)(h:HE X xf Fn=true):∃Fn c,sr X f xf Fn c:=by
 unfold HE at h;split at h
 ·rename_i c hc;simp only[b2]at h;obtain⟨⟨⟨J,U⟩,ah⟩,aC⟩:=h;exact⟨Fn,c,af,hc,dY J,U,ah,by simpa using aC⟩
 ·cases h
def au.B4{α:Type}(Q:Nat->α->Prop):au α->(Nat->Nat)->Prop
 |.nil,_=>True
 |.node l v r,g=>(match v with|some x=>Q (g 0) x|none=>True)∧au.B4 Q l (fun n=>g (2*n+1))∧au.B4 Q r (fun n=>g (2*n+2))
theorem au.GM{α:Type}{Q:Nat->α->Prop}:∀(t:au α) (g:Nat->Nat),au.B4 Q t g->∀n x,t.get n=some x->Q (g n) x
 |.nil,_,_,n,x,h=>by simp at h
 |.node l v r,g,a2,n,x,h=>by
  obtain⟨J,U,ah⟩:=a2;cases n with
  |zero=>rw[au.sQ]at h;subst h;exact J
  |succ m=>
   rw[au.nF]at h;split at h
   ·rename_i hm;have:=au.GM l _ U _ x h;have e:2*(m/2)+1=m+1:=by omega
    simp only[e]at this;exact this
   ·rename_i hm;have:=au.GM r _ ah _ x h;have e:2*(m/2)+2=m+1:=by omega
    simp only[e]at this;exact this
theorem anc{X:Ctx}{a7:au aK}(h:au.B4 (fun f xf=>∃Fn c,sr X f xf Fn c) a7 id):mi X a7:=
 fun f xf aa=>au.GM a7 id h f xf aa
def fN:la:=fun _ _ _=>none
theorem fX(X:Ctx):p4 X fN:=fun _ _ _ _ h=>by cases h
structure wy where
 P:Program
 aB:Nat
 j5:FuncId->Bool
 kq:FuncId->Bool
 A4:∀f,j5 f=true->∀x w,(callFunc f #[x]).run P w= .ok (.value x) w
 AL:∀f,kq f=true->∀s c w,(callFunc f #[.string s,.int .u8 c]).run P w= .ok (.value (goInt (match(List.range s.size).find? (fun i=>s[i]! ==c.toNat.toUInt8)with|some i=>(i:Int)|none=> -1))) w
 keys:TypeId->Option fz
 qt:∀k dq,keys k=some dq->Maps.Keyed P k∧∀v,dq.ok v=true->∃l,keyOf P k v=some l
 nv:FuncId->Bool
 zw:∀f,nv f=true->∀s c w,(callFunc f #[.string s,.int .u8 c]).run P w= .ok (.value (goInt (s.data.toList.countP (fun b=>b==c.toNat.toUInt8):Nat))) w
 nO:FuncId->Bool
 l4:Nat
 A1:l4<aB
 AN:∀f,nO f=true->∀(s b:ByteArray) (m:Int) w,(load ⟨l4,0,none⟩).run P w= .ok (.int .i64 m) w->2<=b.size->(b.size:Int)<=m->s.size<=1000000->
  (callFunc f #[.string s,.string b]).run P w= .ok (.value (goInt (match nj b.data.toList s.data.toList with|some i=>(i:Int)|none=> -1))) w
 eqs:TypeId->Option Nat
 uF:∀t n,eqs t=some n->P.eqGuardType P.depth t=false∧∀xs av b w,xs.size=n->av.size=n->ou xs.toList av.toList=some b->(Op.equalIn 10000 t (.agg xs) (.agg av)).run P w= .ok b w
def wy.with(B:wy)(ok:FuncId->Code->du->Prop):Ctx:=
 {P:=B.P,ok:=ok,aB:=B.aB,j5:=B.j5,kq:=B.kq,A4:=B.A4,AL:=B.AL,keys:=B.keys,qt:=B.qt,nv:=B.nv,zw:=B.zw,nO:=B.nO,l4:=B.l4,A1:=B.A1,AN:=B.AN,eqs:=B.eqs,uF:=B.uF}
def mkCtx(B:wy):Ctx:=B.with fun fn c ke=>∃F,B.P.funcs[fn]? =some F∧codeOk (B.with fun _ _ _=>False) F.ntmps ke c=true
theorem Wb(B:wy)(ok tq:FuncId->Code->du->Prop):codeOk (B.with ok)=codeOk (B.with tq):=by kernel_rfl
theorem ahW(B:wy)(iP:B.P.follows .mixedOrders=true):Good (mkCtx B):=by
 refine⟨iP,fun fn c ke=> ?_⟩;have e:codeOk (mkCtx B)=codeOk (B.with fun _ _ _=>False):=Wb B _ _;rw[e];exact Iff.rfl
section
variable{X:Ctx}
theorem bp.Si{ι:bq}{st:aw}{w:World}(h:bp X ι st w){g:Nat}{u:Value}{el:TypeId}{bt:Nat×Nat}{aR:Bool}(aZ:st.h.get g=some (.cells [u] el bt aR)):
 ∃c,bs ι u c∧∀wc,bs ι wc c->bp X ι ⟨st.h.set g (.cells [wc] el bt aR),st.aj⟩ w:=by
 obtain⟨l,hl,C,er,hC⟩:=h.eu _ _ aZ (by simp);obtain⟨c,m4,jr⟩:=hC.cell 0 (by simp);refine⟨c,by simpa using jr,fun wc AD=>⟨fun i o ao ax=> ?_,fun i j o p a b ag gU hj hf a2 hb e=> ?_,fun i ag=> ?_,h.gh,h.kL,h.nG,fun i a o a2 ak ao ax=> ?_⟩⟩
 ·rw[au.eI]at ao;by_cases e:i=g
  ·rw[if_pos e]at ao;cases ao;subst e;refine⟨l,hl,C,er,hC.there,hC.room,fun j hj=> ?_,hC.tV,hC.plain⟩;have:j=0:=by simpa using hj
   subst this;exact⟨c,m4,by simpa using AD⟩
  ·rw[if_neg e]at ao;exact h.eu i o ao ax
 ·have hh:∀k q,(st.h.set g (.cells [wc] el bt aR)).get k=some q->q≠.dead->∃fq,st.h.get k=some fq∧fq≠.dead:=by
   intro k q ae hq;rw[au.eI]at ae;by_cases e:k=g
   ·subst e;exact⟨_,aZ,by simp⟩
   ·rw[if_neg e]at ae;exact⟨q,ae,hq⟩
  obtain⟨cg,J,U⟩:=hh i o ag gU;obtain⟨dL,ah,aC⟩:=hh j p hj hf;exact h.inj i j cg dL a b J U ah aC a2 hb e
 ·have:=h.fresh i ag;refine⟨this.1,?_⟩;rw[au.eI,if_neg]
  ·exact this.2
  ·intro e;subst e;rw[this.2]at aZ;cases aZ
 ·rw[au.eI]at ao;by_cases e:i=g
  ·rw[if_pos e]at ao;cases ao;subst e;show aR=false∧bt.1<bt.2;exact h.k3 i a _ a2 ak aZ (by simp)
  ·rw[if_neg e]at ao;exact h.k3 i a o a2 ak ao ax
def Row.nP(r:Row)(g:Nat)(el:TypeId)(c:Nat):Row:=
 ⟨r.as,⟨r.st.h.set g (.cells [.chan (some c)] el (0,1) false),r.st.aj⟩,r.v,⟨r.st'.h.set g (.cells [.chan (some c)] el (0,1) false),r.st'.aj⟩⟩
theorem akB{st:aw}{g:Nat}{o cg:bL}(h:st.h.get g=some o):aw.le st ⟨(st.h.set g cg).set g o,st.aj⟩:=by
 refine⟨rfl,fun n x aa=> ?_⟩;show((st.h.set g cg).set g o).get n=some x;rw[au.eI];by_cases e:n=g
 ·subst e;rw[if_pos rfl];rw[h]at aa;exact aa
 ·rw[if_neg e,au.eI,if_neg e];exact aa
theorem sb{f:FuncId}{r:Row}{g n:Nat}{el:TypeId}(h0:r.st.h.get g=some (.cells [.chan (some 1)] el (0,1) false))(jo:r.st'.h.get g=some (.cells [.chan (some 1)] el (0,1) false))
 (J:cF X f (r.nP g el (2*n+2))) (U:cF X f (r.nP g el (2*n+3))):cF X f r:=by
 intro ι as' w a2 hw;obtain⟨c,hc,pA⟩:=hw.Si h0;obtain⟨m,rfl,_⟩:=hc.Bc (by decide);have key:∀k,Lf k m->cF X f (r.nP g el k)->(∀as w,(callFunc f as).run X.P w= .ok (.enter f as) w)∧
  ∀(K:CallKind) (bc:Bool->List Frame),iJ ⟨f,K,none⟩ none ι bc->g7 X ι w ⟨f,K,none⟩ bc (lone (Frame.enter X.P f as'.toArray K) (bc false) w) (.ret r.v r.st' false):=by
  intro k ae jc;obtain⟨dW,dM⟩:=jc ι as' w a2 (pA _ (.sh k m ae));refine⟨dW,fun K bc aF=> ?_⟩;obtain⟨aM,v',w',F,aW,a0,bx,cK⟩:=dM K bc aF;obtain⟨gm,jr,abM⟩:=bp.Si (u:=.chan (some k)) a0 (by show(r.st'.h.set g _).get g=_;rw[au.pn]);obtain⟨gV,rfl,_⟩:=jr.Bc (by intro e;subst e;rcases ae with h|⟨_,h,_⟩|⟨_,h,_⟩<;>omega);have dn:=abM (.chan (some 1)) (.sh 1 gV (.inl rfl));exact⟨aM,v',w',F,aW,bp.less (akB jo) dn,bx,cK⟩
 by_cases hm:(n:Int)<=m
 ·exact key _ (.inr (.inl ⟨n,rfl,hm⟩)) J
 ·exact key _ (.inr (.inr ⟨n,rfl,by omega⟩)) U
end
inductive fA(R:Nat->Nat->Prop):Value->Value->Prop
 |bool (b:Bool):fA R (.bool b) (.bool b)
 |int (k:IntKind) (n:Int):fA R (.int k n) (.int k n)
 |string (s:ByteArray):fA R (.string s) (.string s)
 |l6:fA R (.pointer none) (.pointer none)
 |ptr (a b:Addr) (h:R a.block b.block) (ao:a.off=b.off) (a2:a.spot=none) (hb:b.spot=none):fA R (.pointer (some a)) (.pointer (some b))
 |l8 (n c:Nat):fA R (.slice none n c) (.slice none n c)
 |gk (a b:Addr) (n c:Nat) (h:R a.block b.block) (ao:a.off=b.off) (a2:a.spot=none) (hb:b.spot=none):fA R (.slice (some a) n c) (.slice (some b) n c)
 |m9:fA R (.map none) (.map none)
 |map (i j:Nat) (h:R i j):fA R (.map (some i)) (.map (some j))
 |func (f:FuncId) (xs av us vs:Array Value) (J:xs.size=av.size) (U:∀i (h:i<xs.size) (aL:i<av.size),fA R xs[i] av[i])
  (ah:us.size=vs.size) (aC:∀i (h:i<us.size) (aL:i<vs.size),fA R us[i] vs[i]):fA R (.func (.func f) xs us) (.func (.func f) av vs)
 |nilFunc:fA R .nilFunc .nilFunc
 |iface (t:TypeId) (v w:Value) (h:fA R v w):fA R (.iface t v) (.iface t w)
 |nilIface:fA R .nilIface .nilIface
 |agg (xs av:Array Value) (J:xs.size=av.size) (U:∀i (h:i<xs.size) (aL:i<av.size),fA R xs[i] av[i]):fA R (.agg xs) (.agg av)
 |tuple (xs av:Array Value) (J:xs.size=av.size) (U:∀i (h:i<xs.size) (aL:i<av.size),fA R xs[i] av[i]):fA R (.tuple xs) (.tuple av)
 |chan (c:Nat):fA R (.chan (some c)) (.chan (some c))
theorem fA.mono{R S:Nat->Nat->Prop}(hle:∀i j,R i j->S i j){v w:Value}(h:fA R v w):fA S v w:=by
 induction h with
 |bool b=>exact .bool b
 |int k n=>exact .int k n
 |string s=>exact .string s
 |l6=>exact .l6
 |ptr a b h ao a2 hb=>exact .ptr a b (hle _ _ h) ao a2 hb
 |l8 n c=>exact .l8 n c
 |gk a b n c h ao a2 hb=>exact .gk a b n c (hle _ _ h) ao a2 hb
 |m9=>exact .m9
 |map i j h=>exact .map i j (hle _ _ h)
 |func f xs av us vs J _ ah _ lv rL=>exact .func f xs av us vs J lv ah rL
 |nilFunc=>exact .nilFunc
 |iface t v w _ bb=>exact .iface t v w bb
 |nilIface=>exact .nilIface
 |agg xs av J _ bb=>exact .agg xs av J bb
 |tuple xs av J _ bb=>exact .tuple xs av J bb
 |chan c=>exact .chan c
theorem fA.symm{R:Nat->Nat->Prop}{v w:Value}(h:fA R v w):fA (fun j i=>R i j) w v:=by
 induction h with
 |bool b=>exact .bool b
 |int k n=>exact .int k n
 |string s=>exact .string s
 |l6=>exact .l6
 |ptr a b h ao a2 hb=>exact .ptr b a h ao.symm hb a2
 |l8 n c=>exact .l8 n c
 |gk a b n c h ao a2 hb=>exact .gk b a n c h ao.symm hb a2
 |m9=>exact .m9
 |map i j h=>exact .map j i h
 |func f xs av us vs J _ ah _ lv rL=>exact .func f av xs vs us J.symm (fun i a b=>lv i b a) ah.symm (fun i a b=>rL i b a)
 |nilFunc=>exact .nilFunc
 |iface t v w _ bb=>exact .iface t w v bb
 |nilIface=>exact .nilIface
 |agg xs av J _ bb=>exact .agg av xs J.symm (fun i a b=>bb i b a)
 |tuple xs av J _ bb=>exact .tuple av xs J.symm (fun i a b=>bb i b a)
 |chan c=>exact .chan c
theorem fA.BY{R:Nat->Nat->Prop}{jA aM:bq}(c9:∀i j l,R i j->jA i=some l->aM j=some l){v c:Value}(h:fA R v c):∀{x:Value},bs jA v x->bs aM c x:=by
 induction h with
 |bool b=>intro x aa;cases aa;exact .bool b
 |int k n=>intro x aa;cases aa;exact .int k n
 |string s=>intro x aa;cases aa;exact .string s
 |l6=>intro x aa;cases aa;exact .l6
 |ptr a b h ao a2 hb=>
  intro x aa;cases aa with
  |ptr a l hl ak=>rw[ao];exact .ptr b l (c9 _ _ _ h hl) hb
 |l8 n c=>intro x aa;cases aa;exact .l8 n c
 |gk a b n c h ao a2 hb=>
  intro x aa;cases aa with
  |gk a l o n c hl ak ah=>exact .gk b l o n c (c9 _ _ _ h hl) hb (by rw[<-ao];exact ah)
 |m9=>intro x aa;cases aa;exact .m9
 |map i j h=>intro x aa;cases aa with|map r b bW hl=>exact .map j b bW (c9 _ _ _ h hl)
 |func f xs av us vs J _ ah _ lv rL=>
  intro x aa;cases aa with
  |func nC g sl im aop fQ af aW a0 bx cK=>
   refine .func _ _ av im vs fQ ?_ (J.symm.trans aW) (fun i a b=>lv i (by omega) a (a0 i (by omega) b)) (ah.symm.trans bx) (fun i a b=>rL i (by omega) a (cK i (by omega) b));rcases af with⟨e,aJ⟩|⟨l,b,e,_⟩
   ·exact .inl ⟨e,aJ⟩
   ·cases e
 |nilFunc=>intro x aa;cases aa;exact .nilFunc
 |iface t v w _ bb=>intro x aa;cases aa with|iface t v y aD=>exact .iface t w y (bb aD)
 |nilIface=>intro x aa;cases aa;exact .nilIface
 |agg xs av J _ bb=>intro x aa;cases aa with|agg sl im aW a0=>exact .agg av im (J.symm.trans aW) (fun i a b=>bb i (by omega) a (a0 i (by omega) b))
 |tuple xs av J _ bb=>intro x aa;cases aa with|tuple sl im aW a0=>exact .tuple av im (J.symm.trans aW) (fun i a b=>bb i (by omega) a (a0 i (by omega) b))
 |chan c=>
  intro x aa;by_cases hc:c=0
  ·subst hc;exact .top x
  ·obtain⟨m,rfl,hu⟩:=aa.Bc hc;exact .sh c m hu
def jn(R:Nat->Nat->Prop)(xs av:List Value):Prop:=xs.length=av.length∧∀(i:Nat) (h:i<xs.length) (aL:i<av.length),fA R xs[i] av[i]
theorem jn.mono{R S:Nat->Nat->Prop}(hle:∀i j,R i j->S i j){xs av:List Value}(h:jn R xs av):jn S xs av:=⟨h.1,fun i a b=>(h.2 i a b).mono hle⟩
theorem jn.symm{R:Nat->Nat->Prop}{xs av:List Value}(h:jn R xs av):jn (fun j i=>R i j) av xs:=⟨h.1.symm,fun i a b=>(h.2 i b a).symm⟩
theorem jn.nil(R:Nat->Nat->Prop):jn R [] []:=⟨rfl,fun i h=>by simp at h⟩
theorem jn.cons{R:Nat->Nat->Prop}{x y:Value}{xs av:List Value}(h:fA R x y)(ak:jn R xs av):jn R (x::xs) (y::av):=by
 refine⟨by simp[ak.1],fun i a b=> ?_⟩;cases i with
 |zero=>exact h
 |succ i=>exact ak.2 i (by simpa using a) (by simpa using b)
theorem jn.amC{R:Nat->Nat->Prop}{jA aM:bq}(c9:∀i j l,R i j->jA i=some l->aM j=some l){vs cs xs:List Value}(h:jn R vs cs)(aa:bF jA vs xs):bF aM cs xs:=
 ⟨h.1.symm.trans aa.1,fun i a b=>(h.2 i (by have:=h.1;omega) a).BY c9 (aa.2 i (by have:=h.1;omega) b)⟩
theorem fA.LV{R:Nat->Nat->Prop}{xs av:Array Value}(h:jn R xs.toList av.toList):fA R (.agg xs) (.agg av):=
 .agg xs av (by simpa using h.1) fun i a b=>by have:=h.2 i (by simpa using a) (by simpa using b);rwa [Array.getElem_toList,Array.getElem_toList]at this
theorem fA.tuple'{R:Nat->Nat->Prop}{xs av:Array Value}(h:jn R xs.toList av.toList):fA R (.tuple xs) (.tuple av):=
 .tuple xs av (by simpa using h.1) fun i a b=>by have:=h.2 i (by simpa using a) (by simpa using b);rwa [Array.getElem_toList,Array.getElem_toList]at this
theorem fA.N6{R:Nat->Nat->Prop}{f:FuncId}{xs av us vs:Array Value}(h:jn R xs.toList av.toList)(aL:jn R us.toList vs.toList):fA R (.func (.func f) xs us) (.func (.func f) av vs):=
 .func f xs av us vs (by simpa using h.1) (fun i a b=>by have:=h.2 i (by simpa using a) (by simpa using b);rwa [Array.getElem_toList,Array.getElem_toList]at this) (by simpa using aL.1) (fun i a b=>by have:=aL.2 i (by simpa using a) (by simpa using b);rwa [Array.getElem_toList,Array.getElem_toList]at this)
inductive jm{α β:Type}(R:α->β->Prop):List α->List β->Prop
 |nil:jm R [] []
 |cons {a:α} {b:β} {as:List α} {bn:List β} (h:R a b) (ak:jm R as bn):jm R (a::as) (b::bn)
theorem jm.mono{α β:Type}{R S:α->β->Prop}(hle:∀a b,R a b->S a b){as:List α}{bn:List β}(h:jm R as bn):jm S as bn:=by
 induction h with
 |nil=>exact .nil
 |cons h _ bb=>exact .cons (hle _ _ h) bb
theorem jm.flip{α β:Type}{R:α->β->Prop}{as:List α}{bn:List β}(h:jm R as bn):jm (fun b a=>R a b) bn as:=by
 induction h with
 |nil=>exact .nil
 |cons h _ bb=>exact .cons h bb
theorem jm.perm{α β:Type}{R:α->β->Prop}{l es:List α}(hp:l.Perm es):∀{dd:List β},jm R es dd->∃m:List β,m.Perm dd∧jm R l m:=by
 induction hp with
 |nil=>intro dd h;cases h;exact⟨[],.refl _,.nil⟩
 |cons x _ bb=>
  intro dd h;cases h with
  |cons h ak=>obtain⟨m,J,U⟩:=bb ak;exact⟨_::m,.cons _ J,.cons h U⟩
 |swap x y l=>
  intro dd h;cases h with
  |cons h ak=>cases ak with|cons aL ak=>exact⟨_::_::_,.swap _ _ _,.cons aL (.cons h ak)⟩
 |trans _ _ AO lv=>
  intro dd h;obtain⟨m,J,U⟩:=lv h;obtain⟨n,ah,aC⟩:=AO U;exact⟨n,ah.trans J,aC⟩
theorem jm.len{α β:Type}{R:α->β->Prop}{as:List α}{bn:List β}(h:jm R as bn):as.length=bn.length:=by
 induction h with
 |nil=>rfl
 |cons _ _ bb=>simp[bb]
theorem jm.at{α β:Type}{R:α->β->Prop}{as:List α}{bn:List β}(h:jm R as bn):∀(i:Nat) (a:i<as.length) (b:i<bn.length),R as[i] bn[i]:=by
 induction h with
 |nil=>intro i a;simp at a
 |cons h _ bb=>
  intro i a b;cases i with
  |zero=>exact h
  |succ i=>exact bb i (by simpa using a) (by simpa using b)
structure nm(R:Nat->Nat->Prop)(e f:MapEntry):Prop where
 key:e.key=f.key
 I0:fA R e.key f.key
 val:fA R e.val f.val
 born:e.born=f.born
theorem nm.mono{R S:Nat->Nat->Prop}(hle:∀i j,R i j->S i j){e f:MapEntry}(h:nm R e f):nm S e f:=⟨h.key,h.I0.mono hle,h.val.mono hle,h.born⟩
theorem nm.symm{R:Nat->Nat->Prop}{e f:MapEntry}(h:nm R e f):nm (fun j i=>R i j) f e:=⟨h.key.symm,h.I0.symm,h.val.symm,h.born.symm⟩
inductive jB(R:Nat->Nat->Prop):bL->bL->Prop
 |cells (cs ds:List Value) (e:TypeId) (bt:Nat×Nat) (aR:Bool) (h:jn R cs ds):jB R (.cells cs e bt aR) (.cells ds e bt aR)
 |map (es dd:List MapEntry) (c:Nat) (h:jm (nm R) es dd):jB R (.map es c) (.map dd c)
theorem jB.mono{R S:Nat->Nat->Prop}(hle:∀i j,R i j->S i j){o p:bL}(h:jB R o p):jB S o p:=by
 cases h with
 |cells cs ds e bt aR h=>exact .cells cs ds e bt aR (h.mono hle)
 |map es dd c h=>exact .map es dd c (h.mono fun _ _ h=>h.mono hle)
theorem jB.symm{R:Nat->Nat->Prop}{o p:bL}(h:jB R o p):jB (fun j i=>R i j) p o:=by
 cases h with
 |cells cs ds e bt aR h=>exact .cells ds cs e bt aR h.symm
 |map es dd c h=>exact .map dd es c (h.flip.mono fun _ _ h=>h.symm)
theorem jB.live{R:Nat->Nat->Prop}{o p:bL}(h:jB R o p):o≠.dead∧p≠.dead:=by cases h<;>simp
theorem jB.sP{R:Nat->Nat->Prop}{o p:bL}(h:jB R o p):o.sP↔p.sP:=by cases h<;>exact Iff.rfl
variable{X:Ctx}
theorem jB.QP{R:Nat->Nat->Prop}{jA aM:bq}(c9:∀i j l,R i j->jA i=some l->aM j=some l){o p:bL}(h:jB R o p){w:World}{l:Loc}(hm:iI X jA w o l):iI X aM w p l:=by
 cases h with
 |cells cs ds e bt aR h=>
  obtain⟨C,er,hC⟩:=hm;refine⟨C,er,hC.there,by rw[<-h.1];exact hC.room,fun i ag=> ?_,by rw[<-h.1];exact hC.tV,by rw[<-h.1];exact hC.plain⟩;have dS:i<cs.length:=by rw[h.1];exact ag
  obtain⟨c,J,U⟩:=hC.cell i dS;exact⟨c,J,(h.2 i dS ag).BY c9 U⟩
 |map es dd c h=>
  obtain⟨h0,jo,C,bE,J,U⟩:=hm;have dV:∀f∈dd,∃e∈es,nm R e f:=by
   clear J U;intro f af
   induction h with
   |nil=>cases af
   |cons h _ bb=>
    rcases List.mem_cons.1 af with rfl|af
    ·exact⟨_,by simp,h⟩
    ·obtain⟨e,he,aL⟩:=bb af;exact⟨e,List.mem_cons_of_mem _ he,aL⟩
  have E3:∀(Q:MapEntry->MapEntry->Prop),(∀a b c d,nm R a c->nm R b d->Q a b->Q c d)->es.Pairwise Q->dd.Pairwise Q:=by
   intro Q nJ hp;clear J U dV
   induction h with
   |nil=>exact .nil
   | @cons a b as bn h ak bb=>
    rw[List.pairwise_cons]at hp⊢;refine⟨fun d ax=> ?_,bb hp.2⟩;have:∃e∈as,nm R e d:=by
     clear bb hp
     induction ak with
     |nil=>cases ax
     |cons aL _ IP=>
      rcases List.mem_cons.1 ax with rfl|ax
      ·exact⟨_,by simp,aL⟩
      ·obtain⟨e,he,nH⟩:=IP ax;exact⟨e,List.mem_cons_of_mem _ he,nH⟩
    obtain⟨e,he,aaH⟩:=this;exact nJ a e b d h aaH (hp.1 e he)
  refine⟨h0,jo,C,bE,J,U.iL,U.n2,fun f af=> ?_,E3 _ (fun a b c d J U ae=>by rw[<-J.key,<-U.key];exact ae) U.keys,E3 _ (fun a b c d J U ae=>by rw[<-J.born,<-U.born];exact ae) U.sE,?_⟩
  ·obtain⟨e,he,H2⟩:=dV f af;rw[<-H2.born];exact U.born e he
  ·obtain⟨gi,aW,a0,bx⟩:=U.same;obtain⟨m,bg,bK⟩:=h.perm aW;refine⟨m,bg,bK.len.symm.trans a0,fun i a b=> ?_⟩;have a':i<gi.length:=by rw[bK.len];exact a
   obtain⟨dW,dM,eT⟩:=bx i a' b;have q:=bK.at i a' a;exact⟨q.I0.BY c9 dW,q.val.BY c9 dM,by rw[eT,q.born]⟩
end Go.az
namespace Go.az
structure c7 where
 b7:au Nat
 inv:au Nat
 bw:Nat
def c7.R(s:c7)(i j:Nat):Prop:=s.b7.get i=some j
structure c7.cY(s:c7):Prop where
 iff:∀i j,s.b7.get i=some j↔s.inv.get j=some i
 kh:∀i j,s.b7.get i=some j->i<s.bw
def c7.le(s t:c7):Prop:=∀i j,s.b7.get i=some j->t.b7.get i=some j
theorem c7.le.refl(s:c7):s.le s:=fun _ _ h=>h
theorem c7.le.trans{s t u:c7}(h:s.le t)(aL:t.le u):s.le u:=fun i j e=>aL i j (h i j e)
def vv(i j:Nat)(s:c7):Option c7:=
 bo (s.inv.get j) (fun ib=>cond (Nat.beq i ib) (some s) none)
  (cond (Nat.beq i s.bw) (au.fin (au.jw (Nat.succ i) s.b7 i j) fun b7=>au.fin (au.jw (Nat.succ j) s.inv j i) fun inv=>fB (Nat.succ i) fun c=>some ⟨b7,inv,c⟩) none)
theorem Ji{i j:Nat}{s br:c7}(ak:s.cY)(h:vv i j s=some br):br.cY∧s.le br∧br.R i j:=by
 unfold vv at h;cases hj:s.inv.get j with
 |some ib=>
  rw[hj]at h;have h:cond (Nat.beq i ib) (some s) none=some br:=h;cases hb:Nat.beq i ib with
  |false=>rw[hb]at h;cases h
  |true=>
   rw[hb]at h;cases h;have:=dY hb;subst this;exact⟨ak,.refl s,(ak.iff i j).2 hj⟩
 |none=>
  rw[hj]at h;have h:cond (Nat.beq i s.bw) (au.fin (au.jw (Nat.succ i) s.b7 i j) fun b7=>au.fin (au.jw (Nat.succ j) s.inv j i) fun inv=>fB (Nat.succ i) fun c=>some ⟨b7,inv,c⟩) none=some br:=h;cases hb:Nat.beq i s.bw with
  |false=>rw[hb]at h;cases h
  |true=>
   rw[hb]at h;have e:=dY hb;simp only[cond_true,au.nD,au.tA]at h;unfold fB at h;rw[Nat.beq_refl]at h;simp only[cond_true,Option.some.injEq]at h;subst h;have fW:∀b,s.b7.get i≠some b:=fun b hb=>by have:=ak.kh _ _ hb;omega
   refine⟨⟨fun a b=> ?_,fun a b hW=> ?_⟩,fun a b hW=> ?_,?_⟩
   ·show(s.b7.set i j).get a=some b↔(s.inv.set j i).get b=some a;rw[au.eI,au.eI];by_cases a2:a=i<;>by_cases oz:b=j
    ·rw[if_pos a2,if_pos oz,a2,oz];simp
    ·rw[if_pos a2,if_neg oz];subst a2;constructor
     ·intro e;exact absurd (Option.some.inj e).symm oz
     ·intro e;exact absurd ((ak.iff _ _).2 e) (fW b)
    ·rw[if_neg a2,if_pos oz];subst oz;constructor
     ·intro e;rw[(ak.iff _ _).1 e]at hj;cases hj
     ·intro e;exact absurd (Option.some.inj e).symm a2
    ·rw[if_neg a2,if_neg oz];exact ak.iff a b
   ·have hW:(s.b7.set i j).get a=some b:=hW;show a<Nat.succ i;rw[au.eI]at hW;by_cases a2:a=i
    ·omega
    ·rw[if_neg a2]at hW;have:=ak.kh _ _ hW;omega
   ·show(s.b7.set i j).get a=some b;rw[au.eI,if_neg]
    ·exact hW
    ·intro a2;subst a2;exact fW b hW
   ·show(s.b7.set i j).get i=some j;rw[au.pn]
def Jf(a b:Option Addr)(s:c7):Option c7:=
 Option.rec (motive:=fun _=>Option c7) (Option.rec (motive:=fun _=>Option c7) (some s) (fun _=>none) b)
  (fun a=>Option.rec (motive:=fun _=>Option c7) none
   (fun b=>cond (Nat.beq a.off b.off) (Option.rec (motive:=fun _=>Option c7) (Option.rec (motive:=fun _=>Option c7) (vv a.block b.block s) (fun _=>none) b.spot) (fun _=>none) a.spot) none) b) a
theorem P1{a b:Option Addr}{s br:c7}(h:Jf a b s=some br):
 (a=none∧b=none∧br=s)∨∃p q,a=some p∧b=some q∧p.off=q.off∧p.spot=none∧q.spot=none∧vv p.block q.block s=some br:=by
 cases a with
 |none=>
  cases b with
  |none=>left;exact⟨rfl,rfl,(Option.some.inj h).symm⟩
  |some q=>cases h
 |some p=>
  cases b with
  |none=>cases h
  |some q=>
   right;obtain⟨JR,vJ,ps⟩:=p;obtain⟨ajf,Br,dj⟩:=q;cases ao:Nat.beq vJ Br with
   |false=>
    have h:cond (Nat.beq vJ Br) _ none=some br:=h;rw[ao]at h;cases h
   |true=>
    cases ps with
    |some x=>
     have h:cond (Nat.beq vJ Br) none none=some br:=h;rw[ao]at h;cases h
    |none=>
     cases dj with
     |some x=>
      have h:cond (Nat.beq vJ Br) none none=some br:=h;rw[ao]at h;cases h
     |none=>
      have h:cond (Nat.beq vJ Br) (vv JR ajf s) none=some br:=h;rw[ao]at h;exact⟨_,_,rfl,rfl,dY ao,rfl,rfl,h⟩
def Jh(f g:Fn)(k:Option c7):Option c7:=
 match f,g with
 |.func a,.func b=>cond (Nat.beq a b) k none
 |_,_=>none
theorem ahT{f g:Fn}{k:Option c7}{s:c7}(h:Jh f g k=some s):∃a,f= .func a∧g= .func a∧k=some s:=by
 unfold Jh at h;split at h
 ·rename_i a b;cases hb:Nat.beq a b with
  |false=>rw[hb]at h;cases h
  |true=>rw[hb]at h;exact⟨a,rfl,by rw[dY hb],h⟩
 ·cases h
def VX(a b:List UInt8):Bool:=a==b
def G9(a b:Bool):Bool:=cond a b (cond b false true)
theorem MY{a b:Bool}(h:G9 a b=true):a=b:=by cases a<;>cases b<;>first|rfl|cases h
def P7(w:Value)(s:c7):Option c7:=match w with|.nilFunc=>some s|_=>none
def P8(w:Value)(s:c7):Option c7:=match w with|.nilIface=>some s|_=>none
def P2(c:Option Nat)(w:Value)(s:c7):Option c7:=match c,w with|some a,.chan (some b)=>cond (Nat.beq a b) (some s) none|_,_=>none
def R8(f:Fn)(k:FuncId->Option Value):Option Value:=match f with|.func g=>k g|_=>none
def R6(c:Option Nat):Option Value:=match c with|some c=>some (.chan (some c))|none=>none
mutual
def je:Value->Value->c7->Option c7
 |.bool a,w,s=>ky w (fun b=>cond (G9 a b) (some s) none) none
 |.int k a,w,s=>gd w (fun k' b=>cond (jd k k') (cond (qf a b) (some s) none) none) none
 |.string a,w,s=>ik w (fun b=>cond (VX a.data.toList b.data.toList) (some s) none) none
 |.pointer a,w,s=>hP w (fun b=>Jf a b s) none
 |.slice a n c,w,s=>jh w (fun b cI bE=>cond (Nat.beq n cI) (cond (Nat.beq c bE) (Jf a b s) none) none) none
 |.map a,w,s=>wi w (fun b=>Option.rec (motive:=fun _=>Option c7) (Option.rec (motive:=fun _=>Option c7) (some s) (fun _=>none) b) (fun i=>Option.rec (motive:=fun _=>Option c7) none (fun j=>vv i j s) b) a) none
 |.func f xs us,w,s=>yP w (fun g av vs=>Jh f g (bo (xQ xs av s) (fun s=>xQ us vs s) none)) none
 |.nilFunc,w,s=>P7 w s
 |.nilIface,w,s=>P8 w s
 |.iface t v,w,s=>wh w (fun u y=>cond (Nat.beq t u) (je v y s) none) none
 |.agg xs,w,s=>si w (fun av=>xQ xs av s) none
 |.tuple xs,w,s=>o7 w (fun av=>xQ xs av s) none
 |.chan c,w,s=>P2 c w s
 |_,_,_=>none
def xQ:Array Value->Array Value->c7->Option c7
 |⟨xs⟩,av,s=>vu xs av.toList s
def vu:List Value->List Value->c7->Option c7
 |[],av,s=>List.rec (motive:=fun _=>Option c7) (some s) (fun _ _ _=>none) av
 |x::xs,av,s=>List.rec (motive:=fun _=>Option c7) none (fun y im _=>bo (je x y s) (fun br=>vu xs im br) none) av
end
theorem mj{b:Bool}{o:Option c7}{s:c7}(h:cond b o none=some s):b=true∧o=some s:=by
 cases b
 ·cases h
 ·exact⟨rfl,h⟩
theorem qB{α:Type}{o:Option α}{k:α->Option c7}{s:c7}(h:bo o k none=some s):∃a,o=some a∧k a=some s:=fC h (by simp)
mutual
theorem Eo:∀(v w:Value) (s br:c7),s.cY->je v w s=some br->br.cY∧s.le br∧fA br.R v w
 |.bool a,w,s,br,ak,h=>by
  rw[je]at h;obtain⟨b,rfl,h⟩:=Lg h (by simp);obtain⟨J,U⟩:=mj h;cases U;rw[MY J];exact⟨ak,.refl s,.bool _⟩
 |.int k a,w,s,br,ak,h=>by
  rw[je]at h;obtain⟨k',b,rfl,h⟩:=iF h (by simp);obtain⟨J,h⟩:=mj h;obtain⟨U,h⟩:=mj h;cases h;rw[zJ]at U;rw[rP J,eq_of_beq U];exact⟨ak,.refl s,.int _ _⟩
 |.float k n,w,s,br,ak,h=>by rw[je]at h<;>first|cases h|simp
 |.complex k n m,w,s,br,ak,h=>by rw[je]at h<;>first|cases h|simp
 |.string a,w,s,br,ak,h=>by
  rw[je]at h;obtain⟨b,rfl,h⟩:=n7 h (by simp);obtain⟨J,U⟩:=mj h;cases U;have J:(a.data.toList==b.data.toList)=true:=J;have e:=eq_of_beq J;have:a=b:=by cases a;cases b;simp only at e;rw[Array.toList_inj.1 e]
  rw[this];exact⟨ak,.refl s,.string _⟩
 |.pointer a,w,s,br,ak,h=>by
  rw[je]at h;obtain⟨b,rfl,h⟩:=n6 h (by simp);rcases P1 h with⟨rfl,rfl,rfl⟩|⟨p,q,rfl,rfl,J,U,ah,aC⟩
  ·exact⟨ak,.refl _,.l6⟩
  ·obtain⟨aW,a0,bx⟩:=Ji ak aC;exact⟨aW,a0,.ptr p q bx J U ah⟩
 |.slice a n c,w,s,br,ak,h=>by
  rw[je]at h;obtain⟨b,cI,bE,rfl,h⟩:=sj h (by simp);obtain⟨aG,h⟩:=mj h;obtain⟨e2,h⟩:=mj h;rw[dY aG,dY e2];rcases P1 h with⟨rfl,rfl,rfl⟩|⟨p,q,rfl,rfl,J,U,ah,aC⟩
  ·exact⟨ak,.refl _,.l8 _ _⟩
  ·obtain⟨aW,a0,bx⟩:=Ji ak aC;exact⟨aW,a0,.gk p q _ _ bx J U ah⟩
 |.map a,w,s,br,ak,h=>by
  rw[je]at h;have:∃b,w= .map b∧Option.rec (motive:=fun _=>Option c7) (Option.rec (motive:=fun _=>Option c7) (some s) (fun _=>none) b) (fun i=>Option.rec (motive:=fun _=>Option c7) none (fun j=>vv i j s) b) a=some br:=by
   cases w<;>first|cases h|exact⟨_,rfl,h⟩
  obtain⟨b,rfl,h⟩:=this;cases a with
  |none=>
   cases b with
   |none=>cases h;exact⟨ak,.refl _,.m9⟩
   |some j=>cases h
  |some i=>
   cases b with
   |none=>cases h
   |some j=>
    obtain⟨aW,a0,bx⟩:=Ji ak h;exact⟨aW,a0,.map i j bx⟩
 |.func f xs us,w,s,br,ak,h=>by
  rw[je]at h;obtain⟨g,av,vs,rfl,h⟩:=Lh h (by simp);obtain⟨a,rfl,rfl,ah⟩:=ahT h;obtain⟨s1,J,U⟩:=qB ah;obtain⟨h4,gK,ks⟩:=El xs av s s1 ak J;obtain⟨dW,dM,eT⟩:=El us vs s1 br h4 U;exact⟨dW,gK.trans dM,.N6 (ks.mono dM) eT⟩
 |.nilFunc,w,s,br,ak,h=>by
  rw[je]at h;unfold P7 at h;split at h
  ·cases h;exact⟨ak,.refl _,.nilFunc⟩
  ·cases h
 |.nilIface,w,s,br,ak,h=>by
  rw[je]at h;unfold P8 at h;split at h
  ·cases h;exact⟨ak,.refl _,.nilIface⟩
  ·cases h
 |.iface t v,w,s,br,ak,h=>by
  rw[je]at h;obtain⟨u,y,rfl,h⟩:=Li h (by simp);obtain⟨aG,h⟩:=mj h;obtain⟨h4,gK,ks⟩:=Eo v y s br ak h;rw[dY aG];exact⟨h4,gK,.iface _ _ _ ks⟩
 |.agg xs,w,s,br,ak,h=>by
  rw[je]at h;obtain⟨av,rfl,h⟩:=wg h (by simp);obtain⟨h4,gK,ks⟩:=El xs av s br ak h;exact⟨h4,gK,.LV ks⟩
 |.tuple xs,w,s,br,ak,h=>by
  rw[je]at h;obtain⟨av,rfl,h⟩:=Ux h (by simp);obtain⟨h4,gK,ks⟩:=El xs av s br ak h;exact⟨h4,gK,.tuple' ks⟩
 |.chan c,w,s,br,ak,h=>by
  rw[je]at h;unfold P2 at h;split at h
  ·obtain⟨aG,h⟩:=mj h;cases h;rw[dY aG];exact⟨ak,.refl _,.chan _⟩
  ·cases h
theorem El:∀(xs av:Array Value) (s br:c7),s.cY->xQ xs av s=some br->br.cY∧s.le br∧jn br.R xs.toList av.toList
 |⟨xs⟩,av,s,br,ak,h=>by rw[xQ]at h;exact En xs av.toList s br ak h
theorem En:∀(xs av:List Value) (s br:c7),s.cY->vu xs av s=some br->br.cY∧s.le br∧jn br.R xs av
 |[],av,s,br,ak,h=>by
  rw[vu]at h;cases av with
  |nil=>cases h;exact⟨ak,.refl _,.nil _⟩
  |cons y av=>cases h
 |x::xs,av,s,br,ak,h=>by
  rw[vu]at h;cases av with
  |nil=>cases h
  |cons y av=>
   obtain⟨s1,J,U⟩:=qB (o:=je x y s) h;obtain⟨h4,gK,ks⟩:=Eo x y s s1 ak J;obtain⟨dW,dM,eT⟩:=En xs av s1 br h4 U;exact⟨dW,gK.trans dM,.cons (ks.mono dM) eT⟩
end
def Jg(es:List MapEntry):List MapEntry->c7->Option c7:=
 List.rec (motive:=fun _=>List MapEntry->c7->Option c7) (fun dd s=>List.rec (motive:=fun _=>Option c7) (some s) (fun _ _ _=>none) dd)
  (fun e _ bb dd s=>List.rec (motive:=fun _=>Option c7) none
   (fun f Zv _=>cond (Nat.beq e.born f.born) (cond (dI e.key f.key) (bo (je e.key f.key s) (fun s=>bo (je e.val f.val s) (fun s=>bb Zv s) none) none) none) none) dd) es
theorem P3:∀(es dd:List MapEntry) (s br:c7),s.cY->Jg es dd s=some br->br.cY∧s.le br∧jm (nm br.R) es dd
 |[],[],s,br,ak,h=>by cases h;exact⟨ak,.refl _,.nil⟩
 |[],_::_,s,br,ak,h=>by cases h
 |_::_,[],s,br,ak,h=>by cases h
 |e::es,f::dd,s,br,ak,h=>by
  have h:cond (Nat.beq e.born f.born) (cond (dI e.key f.key) (bo (je e.key f.key s) (fun s=>bo (je e.val f.val s) (fun s=>Jg es dd s) none) none) none) none=some br:=h;obtain⟨aG,h⟩:=mj h;obtain⟨e2,h⟩:=mj h;obtain⟨s1,J,h⟩:=qB h;obtain⟨s2,U,h⟩:=qB h;obtain⟨h4,gK,ks⟩:=Eo _ _ _ _ ak J;obtain⟨dW,dM,eT⟩:=Eo _ _ _ _ h4 U;obtain⟨kt,lG,mM⟩:=P3 es dd s2 br dW h;exact⟨kt,(gK.trans dM).trans lG,.cons ⟨lM _ _ e2,ks.mono (dM.trans lG),eT.mono lG,dY aG⟩ mM⟩
def rR(o p:bL)(s:c7):Option c7:=
 match o,p with
 |.cells cs e bt aR,.cells ds cj er rn=>cond (Nat.beq e cj) (cond (Nat.beq bt.1 er.1) (cond (Nat.beq bt.2 er.2) (cond (G9 aR rn) (vu cs ds s) none) none) none) none
 |.map es c,.map dd bE=>cond (Nat.beq c bE) (Jg es dd s) none
 |_,_=>none
theorem P9{o p:bL}{s br:c7}(ak:s.cY)(h:rR o p s=some br):br.cY∧s.le br∧jB br.R o p:=by
 unfold rR at h;split at h
 ·rename_i cs e bt aR ds cj er rn;obtain⟨aG,h⟩:=mj h;obtain⟨e2,h⟩:=mj h;obtain⟨cw,h⟩:=mj h;obtain⟨gz,h⟩:=mj h;obtain⟨h4,gK,ks⟩:=En _ _ _ _ ak h;have:bt=er:=Prod.ext (dY e2) (dY cw);subst this;rw[dY aG,MY gz];exact⟨h4,gK,.cells _ _ _ _ _ ks⟩
 ·obtain⟨aG,h⟩:=mj h;obtain⟨h4,gK,ks⟩:=P3 _ _ _ _ ak h;rw[dY aG];exact⟨h4,gK,.map _ _ _ ks⟩
 ·cases h
def Em(h:au bL)(os:List bL):Nat->c7->Option c7:=
 List.rec (motive:=fun _=>Nat->c7->Option c7) (fun _ s=>some s)
  (fun o _ bb i s=>bo (s.b7.get i) (fun j=>bo (h.get j) (fun p=>bo (rR o p s) (fun s=>fB (Nat.succ i) fun ib=>bb ib s) none) none) none) os
theorem P4{H:au bL}:∀(os:List bL) (i:Nat) (s br:c7),s.cY->Em H os i s=some br->
 br.cY∧s.le br∧∀k (ae:k<os.length),∃j p,br.R (i+k) j∧H.get j=some p∧jB br.R os[k] p
 |[],i,s,br,ak,h=>by cases h;exact⟨ak,.refl _,fun k ae=>by simp at ae⟩
 |o::os,i,s,br,ak,h=>by
  have h:bo (s.b7.get i) (fun j=>bo (H.get j) (fun p=>bo (rR o p s) (fun s=>fB (Nat.succ i) fun ib=>Em H os ib s) none) none) none=some br:=h;obtain⟨j,J,h⟩:=qB h;obtain⟨p,U,h⟩:=qB h;obtain⟨s1,ah,h⟩:=qB h;unfold fB at h;rw[Nat.beq_refl]at h;have h:Em H os (i+1) s1=some br:=h;obtain⟨h4,gK,ks⟩:=P9 ak ah;obtain⟨dW,dM,eT⟩:=P4 os (i+1) s1 br h4 h;refine⟨dW,gK.trans dM,fun k ae=> ?_⟩;cases k with
  |zero=>exact⟨j,p,(gK.trans dM) _ _ J,U,ks.mono dM⟩
  |succ k=>
   obtain⟨IX,dL,aW,a0,bx⟩:=eT k (by simpa using ae);exact⟨IX,dL,by rw[show i+(k+1)=i+1+k by omega];exact aW,a0,by simpa using bx⟩
def j8(b7:au Nat)(fh dR i:Nat):Nat:=bo (b7.get i) (fun j=>j) (Nat.add dR (Nat.sub i fh))
section
variable(b7:au Nat)(fh dR:Nat)
def Kr{β:Type}(a:Option Addr)(k:Option Addr->Option β):Option β:=
 Option.rec (motive:=fun _=>Option β) (k none) (fun a=>Option.rec (motive:=fun _=>Option β) (fB (j8 b7 fh dR a.block) fun b=>k (some ⟨b,a.off,none⟩)) (fun _=>none) a.spot) a
mutual
def iE:Value->Option Value
 |.pointer a=>Kr b7 fh dR a fun b=>some (.pointer b)
 |.slice a n c=>Kr b7 fh dR a fun b=>some (.slice b n c)
 |.map a=>Option.rec (motive:=fun _=>Option Value) (some (.map none)) (fun i=>fB (j8 b7 fh dR i) fun j=>some (.map (some j))) a
 |.func f xs us=>R8 f fun g=>bo (yu xs) (fun av=>bo (yu us) (fun vs=>some (.func (.func g) ⟨av⟩ ⟨vs⟩)) none) none
 |.iface t v=>bo (iE v) (fun w=>some (.iface t w)) none
 |.agg xs=>bo (yu xs) (fun av=>some (.agg ⟨av⟩)) none
 |.tuple xs=>bo (yu xs) (fun av=>some (.tuple ⟨av⟩)) none
 |.bool b=>some (.bool b)
 |.int k n=>some (.int k n)
 |.string s=>some (.string s)
 |.nilFunc=>some .nilFunc
 |.nilIface=>some .nilIface
 |.chan c=>R6 c
 |_=>none
def yu:Array Value->Option (List Value)
 |⟨xs⟩=>yv xs
def yv:List Value->Option (List Value)
 |[]=>some []
 |x::xs=>bo (iE x) (fun y=>bo (yv xs) (fun av=>some (y::av)) none) none
end
theorem eU{α β:Type}{o:Option α}{k:α->Option β}{b:β}(h:bo o k none=some b):∃a,o=some a∧k a=some b:=fC h (by simp)
theorem R5{β:Type}{a:Option Addr}{k:Option Addr->Option β}{b:β}(h:Kr b7 fh dR a k=some b):
 (a=none∧k none=some b)∨∃p,a=some p∧p.spot=none∧k (some ⟨j8 b7 fh dR p.block,p.off,none⟩)=some b:=by
 cases a with
 |none=>exact .inl ⟨rfl,h⟩
 |some p=>
  obtain⟨JR,vJ,ps⟩:=p;cases ps with
  |some x=>cases h
  |none=>
   have h:fB (j8 b7 fh dR JR) (fun b=>k (some ⟨b,vJ,none⟩))=some b:=h;unfold fB at h;rw[Nat.beq_refl]at h;exact .inr ⟨_,rfl,rfl,h⟩
mutual
theorem BB:∀(v w:Value),iE b7 fh dR v=some w->fA (fun i j=>j=j8 b7 fh dR i) v w
 |.bool b,w,h=>by rw[iE]at h;cases h;exact .bool b
 |.int k n,w,h=>by rw[iE]at h;cases h;exact .int k n
 |.float k n,w,h=>by rw[iE]at h<;>first|cases h|simp
 |.complex k n m,w,h=>by rw[iE]at h<;>first|cases h|simp
 |.string s,w,h=>by rw[iE]at h;cases h;exact .string s
 |.pointer a,w,h=>by
  rw[iE]at h;rcases R5 b7 fh dR h with⟨rfl,h⟩|⟨p,rfl,ak,h⟩
  ·cases h;exact .l6
  ·cases h;exact .ptr _ _ rfl rfl ak rfl
 |.slice a n c,w,h=>by
  rw[iE]at h;rcases R5 b7 fh dR h with⟨rfl,h⟩|⟨p,rfl,ak,h⟩
  ·cases h;exact .l8 _ _
  ·cases h;exact .gk _ _ _ _ rfl rfl ak rfl
 |.map a,w,h=>by
  rw[iE]at h;cases a with
  |none=>cases h;exact .m9
  |some i=>
   have h:fB (j8 b7 fh dR i) (fun j=>some (Value.map (some j)))=some w:=h;unfold fB at h;rw[Nat.beq_refl]at h;cases h;exact .map _ _ rfl
 |.func f xs us,w,h=>by
  rw[iE]at h;unfold R8 at h;split at h
  ·obtain⟨av,J,h⟩:=eU h;obtain⟨vs,U,h⟩:=eU h;cases h;exact .N6 (FP xs av J) (FP us vs U)
  ·cases h
 |.nilFunc,w,h=>by rw[iE]at h;cases h;exact .nilFunc
 |.nilIface,w,h=>by rw[iE]at h;cases h;exact .nilIface
 |.iface t v,w,h=>by
  rw[iE]at h;obtain⟨y,J,h⟩:=eU h;cases h;exact .iface _ _ _ (BB v y J)
 |.agg xs,w,h=>by
  rw[iE]at h;obtain⟨av,J,h⟩:=eU h;cases h;exact .LV (FP xs av J)
 |.tuple xs,w,h=>by
  rw[iE]at h;obtain⟨av,J,h⟩:=eU h;cases h;exact .tuple' (FP xs av J)
 |.chan c,w,h=>by
  rw[iE]at h;unfold R6 at h;split at h
  ·cases h;exact .chan _
  ·cases h
theorem FP:∀(xs:Array Value) (av:List Value),yu b7 fh dR xs=some av->jn (fun i j=>j=j8 b7 fh dR i) xs.toList av
 |⟨xs⟩,av,h=>by rw[yu]at h;exact Kt xs av h
theorem Kt:∀(xs av:List Value),yv b7 fh dR xs=some av->jn (fun i j=>j=j8 b7 fh dR i) xs av
 |[],av,h=>by rw[yv]at h;cases h;exact .nil _
 |x::xs,av,h=>by
  rw[yv]at h;obtain⟨y,J,h⟩:=eU h;obtain⟨hQ,U,h⟩:=eU h;cases h;exact .cons (BB x y J) (Kt xs hQ U)
end
def Ks(es:List MapEntry):Option (List MapEntry):=
 List.rec (motive:=fun _=>Option (List MapEntry)) (some [])
  (fun e _ r=>bo (iE b7 fh dR e.key) (fun k=>cond (dI e.key k) (bo (iE b7 fh dR e.val) (fun v=>bo r (fun es=>some (⟨k,v,e.born⟩::es)) none) none) none) none) es
theorem R7:∀(es dd:List MapEntry),Ks b7 fh dR es=some dd->jm (nm (fun i j=>j=j8 b7 fh dR i)) es dd
 |[],dd,h=>by cases h;exact .nil
 |e::es,dd,h=>by
  have h:bo (iE b7 fh dR e.key) (fun k=>cond (dI e.key k) (bo (iE b7 fh dR e.val) (fun v=>bo (Ks b7 fh dR es) (fun es=>some (⟨k,v,e.born⟩::es)) none) none) none) none=some dd:=h;obtain⟨k,J,h⟩:=eU h;cases ae:dI e.key k with
  |false=>rw[ae]at h;cases h
  |true=>
   rw[ae]at h;obtain⟨v,U,h⟩:=eU (o:=iE b7 fh dR e.val) h;obtain⟨gs,ah,h⟩:=eU h;cases h;exact .cons ⟨lM _ _ ae,BB _ _ _ _ _ J,BB _ _ _ _ _ U,rfl⟩ (R7 es gs ah)
def yw(o:bL):Option bL:=
 match o with
 |.cells cs e bt aR=>bo (yv b7 fh dR cs) (fun ds=>some (.cells ds e bt aR)) none
 |.map es c=>bo (Ks b7 fh dR es) (fun dd=>some (.map dd c)) none
 |.dead=>some .dead
 |_=>none
theorem ajD{o p:bL}(h:yw b7 fh dR o=some p):(o= .dead∧p= .dead)∨jB (fun i j=>j=j8 b7 fh dR i) o p:=by
 unfold yw at h;split at h
 ·obtain⟨ds,J,h⟩:=eU h;cases h;exact .inr (.cells _ _ _ _ _ (Kt _ _ _ _ _ J))
 ·obtain⟨dd,J,h⟩:=eU h;cases h;exact .inr (.map _ _ _ (R7 _ _ _ _ _ J))
 ·cases h;exact .inl ⟨rfl,rfl⟩
 ·cases h
def BA(aB:Nat)(us:List (Nat×bL)):au bL->Option (au bL):=
 List.rec (motive:=fun _=>au bL->Option (au bL)) (fun h=>some h)
  (fun u _ bb h=>cond (Nat.ble aB u.1) (fB (j8 b7 fh dR u.1) fun j=>bo (yw b7 fh dR u.2) (fun p=>au.fin (au.jw (Nat.succ j) h j p) bb) none) none) us
end
def hO(us:List (Nat×bL)):au bL->au bL:=
 List.rec (motive:=fun _=>au bL->au bL) (fun h=>h) (fun u _ bb h=>au.fin (au.jw (Nat.succ u.1) h u.1 u.2) bb) us
def x7(os:List bL):Nat->au bL->au bL:=
 List.rec (motive:=fun _=>Nat->au bL->au bL) (fun _ h=>h) (fun o _ bb i h=>fB (Nat.succ i) fun ib=>au.fin (au.jw ib h i o) fun aL=>bb ib aL) os
def vt(h:au bL)(os:List (Nat×bL)):c7->Option c7:=
 List.rec (motive:=fun _=>c7->Option c7) (fun s=>some s)
  (fun o _ bb s=>bo (s.b7.get o.1) (fun j=>bo (h.get j) (fun p=>bo (rR o.2 p s) bb none) none) none) os
theorem P5{H:au bL}:∀(os:List (Nat×bL)) (s br:c7),s.cY->vt H os s=some br->
 br.cY∧s.le br∧∀o∈os,∃j p,br.R o.1 j∧H.get j=some p∧jB br.R o.2 p
 |[],s,br,ak,h=>by cases h;exact⟨ak,.refl _,fun o ao=>by cases ao⟩
 |o::os,s,br,ak,h=>by
  have h:bo (s.b7.get o.1) (fun j=>bo (H.get j) (fun p=>bo (rR o.2 p s) (vt H os) none) none) none=some br:=h;obtain⟨j,J,h⟩:=qB h;obtain⟨p,U,h⟩:=qB h;obtain⟨s1,ah,h⟩:=qB h;obtain⟨h4,gK,ks⟩:=P9 ak ah;obtain⟨dW,dM,eT⟩:=P5 os s1 br h4 h;refine⟨dW,gK.trans dM,fun cg lq=> ?_⟩;rcases List.mem_cons.1 lq with rfl|lq
  ·exact⟨j,p,(gK.trans dM) _ _ J,U,ks.mono dM⟩
  ·exact eT cg lq
theorem Jz:∀(os:List bL) (i:Nat) (h:au bL) (k:Nat),(x7 os i h).get k=if i<=k∧k<i+os.length then os[k-i]? else h.get k
 |[],i,h,k=>by rw[if_neg (by simp)];rfl
 |o::os,i,h,k=>by
  have e:x7 (o::os) i h=x7 os (i+1) (h.set i o):=by
   show fB (Nat.succ i) (fun ib=>au.fin (au.jw ib h i o) fun aL=>x7 os ib aL)=_;unfold fB;rw[Nat.beq_refl];show au.fin (au.jw (Nat.succ i) h i o) (fun aL=>x7 os (i+1) aL)=_;rw[au.nD,au.tA]
  rw[e,Jz os (i+1) _ k,au.eI];by_cases ae:k=i
  ·subst ae;rw[if_neg (by omega),if_pos rfl,if_pos (by simp)];simp
  ·rw[if_neg ae];by_cases J:i+1<=k∧k<i+1+os.length
   ·rw[if_pos J,if_pos (by simp;omega)];have:k-i=(k-(i+1))+1:=by omega
    rw[this];simp
   ·rw[if_neg J,if_neg (by simp;omega)]
theorem Uw(u:Nat×bL)(us:List (Nat×bL))(h:au bL):hO (u::us) h=hO us (h.set u.1 u.2):=by
 show au.fin (au.jw (Nat.succ u.1) h u.1 u.2) (hO us)=_;rw[au.nD,au.tA]
theorem Gk:∀(us:List (Nat×bL)) (h:au bL) (k:Nat) (o:bL),(hO us h).get k=some o->(k,o)∈us∨h.get k=some o
 |[],_,_,_,e=>.inr e
 |u::us,h,k,o,e=>by
  rw[Uw]at e;rcases Gk us _ k o e with hm|hm
  ·exact .inl (List.mem_cons_of_mem _ hm)
  ·rw[au.eI]at hm;by_cases ae:k=u.1
   ·rw[if_pos ae]at hm;cases hm;subst ae;exact .inl (by simp)
   ·rw[if_neg ae]at hm;exact .inr hm
structure bz where
 as:List Value
 gs:List (Nat×bL)
 nA:List bL
 v:Value
 dQ:List (Nat×bL)
 a3:Nat
def bz.c6(r:bz)(aB:Nat):au bL:=x7 r.nA aB (hO r.gs .nil)
def bz.row(r:bz)(aB:Nat):Row:=⟨r.as,⟨r.c6 aB,Nat.add aB (ef r.nA)⟩,r.v,⟨hO r.dQ (r.c6 aB),r.a3⟩⟩
def bz.app(a4:c7)(r:bz)(as:List Value)(st:aw):Option dC:=
 bo (vu r.as as a4) (fun s=>bo (vt st.h r.gs s) (fun s=>bo (Em st.h r.nA a4.bw s) (fun s=>cond (Nat.beq s.bw (Nat.add a4.bw (ef r.nA))) (cond (Nat.ble s.bw r.a3)
  (bo (iE s.b7 s.bw st.aj r.v) (fun v=>bo (BA s.b7 s.bw st.aj a4.bw r.dQ st.h) (fun h=>fB (Nat.add st.aj (Nat.sub r.a3 s.bw)) fun n=>some (.ret v ⟨h,n⟩ false)) none) none) none) none) none) none) none
structure Gw(mR:Nat->Nat)(H:au bL)(aj aB:Nat)(h0 aF hc:au bL):Prop where
 obj:∀j o,hc.get j=some o->o≠.dead->(∃i p,j=mR i∧aF.get i=some p∧jB (fun i j=>j=mR i) p o)∨((∀i,aF.get i≠none->mR i≠j)∧H.get j=some o)
 kh:∀j,hc.get j≠none->j<aj∨∃i,j=mR i∧aF.get i≠none
 nA:∀i,h0.get i≠none->aF.get i≠none
 Of:∀i,i<aB->aF.get i≠none->h0.get i≠none
theorem R9{b7:au Nat}{fh dR:Nat}{H:au bL}{aj aB:Nat}{h0:au bL}:∀(us:List (Nat×bL)) (aF hc lV:au bL),Gw (j8 b7 fh dR) H aj aB h0 aF hc->
 BA b7 fh dR aB us hc=some lV->Gw (j8 b7 fh dR) H aj aB h0 (hO us aF) lV
 |[],aF,hc,lV,m2,h=>by cases h;exact m2
 |u::us,aF,hc,lV,m2,h=>by
  have h:cond (Nat.ble aB u.1) (fB (j8 b7 fh dR u.1) (fun j=>bo (yw b7 fh dR u.2) (fun p=>au.fin (au.jw (Nat.succ j) hc j p) (BA b7 fh dR aB us)) none)) none=some lV:=h;cases hu:Nat.ble aB u.1 with
  |false=>rw[hu]at h;cases h
  |true=>
  rw[hu]at h;have hu:=jk hu;have h:fB (j8 b7 fh dR u.1) (fun j=>bo (yw b7 fh dR u.2) (fun p=>au.fin (au.jw (Nat.succ j) hc j p) (BA b7 fh dR aB us)) none)=some lV:=h;unfold fB at h;rw[Nat.beq_refl]at h;obtain⟨p,J,h⟩:=eU (o:=yw b7 fh dR u.2) h;rw[au.nD,au.tA]at h;rw[Uw];refine R9 us _ _ _ ⟨fun j o hj ax=> ?_,fun j hj=> ?_,fun i ag=> ?_,fun i ag hh=> ?_⟩ h
  ·rw[au.eI]at hj;by_cases iN:j=j8 b7 fh dR u.1
   ·rw[if_pos iN]at hj;cases hj;rcases ajD _ _ _ J with⟨_,hX⟩|abp
    ·exact absurd hX ax
    ·exact .inl ⟨u.1,u.2,iN,by rw[au.pn],abp⟩
   ·rw[if_neg iN]at hj;rcases m2.obj j o hj ax with⟨i,q,aG,e2,cw⟩|⟨aG,e2⟩
    ·refine .inl ⟨i,q,aG,?_,cw⟩;rw[au.eI,if_neg]
     ·exact e2
     ·intro e;subst e;exact iN aG
    ·refine .inr ⟨fun i ag ak=> ?_,e2⟩;rw[au.eI]at ag;by_cases nz:i=u.1
     ·subst nz;exact iN ak.symm
     ·rw[if_neg nz]at ag;exact aG i ag ak
  ·rw[au.eI]at hj;by_cases iN:j=j8 b7 fh dR u.1
   ·exact .inr ⟨u.1,iN,by rw[au.pn];simp⟩
   ·rw[if_neg iN]at hj;rcases m2.kh j hj with bO|⟨i,aG,e2⟩
    ·exact .inl bO
    ·refine .inr ⟨i,aG,?_⟩;rw[au.eI];split
     ·simp
     ·exact e2
  ·rw[au.eI];split
   ·simp
   ·exact m2.nA i ag
  ·rw[au.eI,if_neg (by omega)]at hh;exact m2.Of i ag hh
variable{X:Ctx}
theorem L3{f:FuncId}{r:bz}(aF:cF X f (r.row X.aB)){a4:c7}(ql:a4.cY)(m3:a4.bw=X.aB)(aZ:∀g,g<X.aB->a4.b7.get g=some g){as:List Value}{st:aw}{fr:dC}(h:r.app a4 as st=some fr)
 (ι:bq) (as':List Value) (w:World) (a2:bF ι as as') (hw:bp X ι st w):
 (∀as w,(callFunc f as).run X.P w= .ok (.enter f as) w)∧
 ∀(K:CallKind) (bc:Bool->List Frame),iJ ⟨f,K,none⟩ none ι bc->g7 X ι w ⟨f,K,none⟩ bc (lone (Frame.enter X.P f as'.toArray K) (bc false) w) fr:=by
 unfold bz.app at h;obtain⟨s1,J,h⟩:=eU h;obtain⟨s2,Z1,h⟩:=eU h;obtain⟨s,U,h⟩:=eU h;obtain⟨gZ,hG,uf⟩:=En _ _ _ _ ql J;obtain⟨d1,d2,d3⟩:=P5 _ _ _ gZ Z1;obtain⟨dz,eH,np⟩:=P4 _ _ _ _ d1 U;rw[m3]at h np;cases hc:Nat.beq s.bw (Nat.add X.aB (ef r.nA))with
 |false=>rw[hc]at h;cases h
 |true=>
 cases jr:Nat.ble s.bw r.a3 with
 |false=>rw[hc,jr]at h;cases h
 |true=>
 rw[hc,jr]at h;have z5:s.bw=X.aB+r.nA.length:=by rw[<-fx];exact dY hc
 have anW:s.bw<=r.a3:=jk jr;obtain⟨v,ah,h⟩:=eU (o:=iE s.b7 s.bw st.aj r.v) h;obtain⟨hp,aC,h⟩:=eU (o:=BA s.b7 s.bw st.aj X.aB r.dQ st.h) h;unfold fB at h;rw[Nat.beq_refl]at h;have h:some (dC.ret v ⟨hp,st.aj+(r.a3-s.bw)⟩ false)=some fr:=h;cases h;have Ac:∀g,g<X.aB->s.b7.get g=some g:=fun g qh=>eH _ _ (d2 _ _ (hG _ _ (aZ g qh)));have bO:∀j l,ι j=some l->j<st.aj:=by
  intro j l e;rcases Nat.lt_or_ge j st.aj with bO|kQ
  ·exact bO
  ·rw[(hw.fresh j kQ).1]at e;cases e
 have sX:∀i o,(r.c6 X.aB).get i=some o->∃j p,s.b7.get i=some j∧st.h.get j=some p∧jB s.R o p:=by
  intro i o ao;unfold bz.c6 at ao;rw[Jz]at ao;split at ao
  ·rename_i ag;obtain⟨rA,rfl⟩:=List.getElem?_eq_some_iff.1 ao;obtain⟨j,p,aG,e2,cw⟩:=np (i-X.aB) rA;rw[show X.aB+(i-X.aB)=i by omega]at aG;exact⟨j,p,aG,e2,cw⟩
  ·rcases Gk _ _ _ _ ao with hm|hm
   ·obtain⟨j,p,aG,e2,cw⟩:=d3 _ hm;exact⟨j,p,eH _ _ aG,e2,cw.mono eH⟩
   ·simp at hm
 have H6:∀i,X.aB<=i->i<s.bw->∃o,(r.c6 X.aB).get i=some o:=by
  intro i ag oC;unfold bz.c6;rw[Jz,if_pos (by omega),cA (by omega)];exact⟨_,rfl⟩
 have O9:∀i,i<s.bw->∃j l,s.b7.get i=some j∧ι j=some l:=by
  intro i ag;rcases Nat.lt_or_ge i X.aB with hn|hn
  ·exact⟨i,_,Ac i hn,hw.kL i hn⟩
  ·obtain⟨o,ao⟩:=H6 i hn ag;obtain⟨j,p,aG,e2,cw⟩:=sX i o ao;obtain⟨l,gz,_⟩:=hw.eu j p e2 cw.live.2;exact⟨j,l,aG,gz⟩
 have anV:X.aB<=s.bw:=by omega
 let fy:bq:=fun i=>match s.b7.get i with|some j=>ι j|none=>none
 have vh:∀i j,s.b7.get i=some j->fy i=ι j:=by
  intro i j e;show(match s.b7.get i with|some j=>ι j|none=>none)=_;rw[e]
 have vi:∀i l,fy i=some l->∃j,s.b7.get i=some j∧ι j=some l:=by
  intro i l e;have e:(match s.b7.get i with|some j=>ι j|none=>none)=some l:=e;split at e
  ·rename_i j hj;exact⟨j,hj,e⟩
  ·cases e
 have rr:∀j i l,(fun j i=>s.R i j) j i->ι j=some l->fy i=some l:=fun j i l c9 hl=>by rw[vh i j c9];exact hl
 have aai:bp X fy (r.row X.aB).st w:=by
  refine⟨fun i o ao ax=> ?_,fun i j o p l m ag gU hj hf gA hy e=> ?_,fun i ag=> ?_,fun i l hl=> ?_,fun g qh=> ?_,?_,fun i l o hl ak ao ax=> ?_⟩
  ·obtain⟨j,p,aG,e2,cw⟩:=sX i o ao;obtain⟨l,gz,pj⟩:=hw.eu j p e2 cw.live.2;exact⟨l,by rw[vh i j aG];exact gz,cw.symm.QP rr pj⟩
  ·obtain⟨i2,h4,aG,e2,cw⟩:=sX i o ag;obtain⟨hD,gK,aW,a0,bx⟩:=sX j p hj;rw[vh i i2 aG]at gA;rw[vh j hD aW]at hy;have:=hw.inj i2 hD h4 gK l m e2 cw.live.2 a0 bx.live.2 gA hy e;subst this;have dW:=(dz.iff _ _).1 aG;have dM:=(dz.iff _ _).1 aW;rw[dW]at dM;exact Option.some.inj dM
  ·have ag:X.aB+ef r.nA<=i:=ag;rw[fx,<-z5]at ag;refine⟨?_,?_⟩
   ·cases e:fy i with
    |none=>rfl
    |some l=>
     obtain⟨j,hj,_⟩:=vi i l e;have:=dz.kh _ _ hj;omega
   ·cases e:(r.row X.aB).st.h.get i with
    |none=>rfl
    |some o=>
     obtain⟨j,_,aG,_⟩:=sX i o e;have:=dz.kh _ _ aG;omega
  ·obtain⟨j,_,cy⟩:=vi i l hl;exact hw.gh j l cy
  ·rw[vh g g (Ac g qh)];exact hw.kL g qh
  ·exact Nat.le_add_right _ _
  ·obtain⟨j,p,aG,e2,cw⟩:=sX i o ao;rw[vh i j aG]at hl;exact cw.sP.2 (hw.k3 j l p hl ak e2 cw.live.2)
 have Z4:bF fy r.as as':=((uf.mono d2).mono eH).symm.amC rr a2;obtain⟨dW,dM⟩:=aF fy as' w Z4 aai;refine⟨dW,fun K bc m8=> ?_⟩;obtain⟨jA,v',w',F,bg,bK,ep,pF,xJ,IY,IZ⟩:=dM K bc m8;have bK:bp X jA ⟨hO r.dQ (r.c6 X.aB),r.a3⟩ w':=bK
 let mR:Nat->Nat:=j8 s.b7 s.bw st.aj
 have xH:∀i j,s.b7.get i=some j->mR i=j:=by
  intro i j e;show bo (s.b7.get i) (fun j=>j) _=j;rw[e];rfl
 have Pn:∀i,s.bw<=i->mR i=st.aj+(i-s.bw):=by
  intro i ag;show bo (s.b7.get i) (fun j=>j) _=_;cases e:s.b7.get i with
  |none=>rfl
  |some j=>have:=dz.kh _ _ e;omega
 let aM:bq:=fun j=>if j<st.aj then ι j else jA (s.bw+(j-st.aj))
 have D7:∀j,j<st.aj->aM j=ι j:=fun j hj=>if_pos hj;have D8:∀j,st.aj<=j->aM j=jA (s.bw+(j-st.aj)):=fun j hj=>if_neg (by omega);have hle:ι.le aM:=fun j l e=>by rw[D7 j (bO j l e)];exact e
 have uL:∀i j l,(fun i j=>j=mR i) i j->jA i=some l->aM j=some l:=by
  intro i j l e hl;have e:j=mR i:=e;subst e;rcases Nat.lt_or_ge i s.bw with ag|ag
  ·obtain⟨j,j2,aG,gz⟩:=O9 i ag;have:=ep.le i j2 (by rw[vh i j aG];exact gz);rw[hl]at this;cases this;rw[xH i j aG,D7 j (bO j _ gz)];exact gz
  ·rw[Pn i ag,D8 _ (by omega),show s.bw+(st.aj+(i-s.bw)-st.aj)=i by omega];exact hl
 have aad:Gw mR st.h st.aj X.aB (r.c6 X.aB) (r.c6 X.aB) st.h:=by
  refine⟨fun j o hj ax=> ?_,fun j hj=> ?_,fun i ag=>ag,fun i _ ag=>ag⟩
  ·by_cases hex:∃i,(r.c6 X.aB).get i≠none∧mR i=j
   ·obtain⟨i,ag,e⟩:=hex;cases nz:(r.c6 X.aB).get i with
    |none=>exact absurd nz ag
    |some cg=>
     obtain⟨hD,p,aG,e2,cw⟩:=sX i cg nz;have:hD=j:=by rw[<-e];exact(xH i hD aG).symm
     subst this;rw[hj]at e2;cases e2;exact .inl ⟨i,cg,e.symm,nz,cw.mono fun a b hW=>(xH a b hW).symm⟩
   ·exact .inr ⟨fun i ag e=>hex ⟨i,ag,e⟩,hj⟩
  ·left;rcases Nat.lt_or_ge j st.aj with rA|kQ
   ·exact rA
   ·exact absurd (hw.fresh j kQ).2 hj
 have m2:=R9 r.dQ _ _ _ aad aC;have hold:∀a l,(hO r.dQ (r.c6 X.aB)).get a≠none->fy a=some l->∃j p,s.b7.get a=some j∧st.h.get j=some p∧p≠.dead∧ι j=some l:=by
  intro a l oy hl;obtain⟨j,aG,e2⟩:=vi a l hl;have HR:=dz.kh _ _ aG;have:∃o,(r.c6 X.aB).get a=some o:=by
   rcases Nat.lt_or_ge a X.aB with hn|hn
   ·cases nz:(r.c6 X.aB).get a with
    |none=>exact absurd nz (m2.Of a hn oy)
    |some o=>exact⟨o,rfl⟩
   ·exact H6 a hn HR
  obtain⟨o,ao⟩:=this;obtain⟨hD,p,aW,a0,bx⟩:=sX a o ao;rw[aG]at aW;cases aW;exact⟨j,p,aG,a0,bx.live.2,e2⟩
 have Oz:∀j o l,st.h.get j=some o->o≠.dead->ι j=some l->(∀i,(hO r.dQ (r.c6 X.aB)).get i≠none->mR i≠j)->∀i l',fy i=some l'->l'.bW≠jX->l'.cU≠l.cU:=by
  intro j o l ao ax hl af i l' cy ak e;have ll:(hO r.dQ (r.c6 X.aB)).get i≠none:=by
   obtain⟨hD,aG,e2⟩:=vi i l' cy;have HR:=dz.kh _ _ aG;rcases Nat.lt_or_ge i X.aB with hn|hn
   ·exfalso;rw[Ac i hn]at aG;cases aG;rw[hw.kL i hn]at e2;cases e2;exact ak rfl
   ·obtain⟨cg,lq⟩:=H6 i hn HR;exact m2.nA i (by rw[lq];simp)
  obtain⟨hD,p,aG,e2,cw,gz⟩:=hold i l' ll cy;have:=hw.inj hD j p o l' l e2 cw ao ax gz hl e;subst this;exact af i ll (xH i hD aG)
 refine⟨aM,v',w',F,(BB _ _ _ _ _ ah).BY uL bg,⟨fun j o hj ax=> ?_,fun i j o p l m ag gU hj hf gA hy e=> ?_,fun j hj=> ?_,fun j l hl=> ?_,fun g qh=> ?_,?_,fun j l o hl ak hj ax=> ?_⟩,⟨hle,ep.size,fun b hb fW=> ?_,fun j l hl=> ?_,ep.gw⟩,pF,xJ,IY,IZ⟩
 ·rcases m2.obj j o hj ax with⟨i,p,aG,e2,cw⟩|⟨aG,e2⟩
  ·obtain⟨l,aW,a0⟩:=bK.eu i p e2 cw.live.1;exact⟨l,uL i j l aG aW,cw.QP uL a0⟩
  ·obtain⟨l,aW,a0⟩:=hw.eu j o e2 ax;refine⟨l,hle j l aW,iI.mono X a0 hle ?_⟩;exact ep.kept l.cU (hw.gh j l aW) (Oz j o l e2 ax aW aG)
 ·have key:∀i j o p l m,hp.get i=some o->o≠.dead->hp.get j=some p->p≠.dead->aM i=some l->aM j=some m->l.cU=m.cU->
   (∃a q,i=mR a∧(hO r.dQ (r.c6 X.aB)).get a=some q∧jB (fun i j=>j=mR i) q o)->((∀a,(hO r.dQ (r.c6 X.aB)).get a≠none->mR a≠j)∧st.h.get j=some p)->False:=by
   intro i j o p l m ag gU hj hf gA hy e ⟨a,q,aG,e2,cw⟩ ⟨aW,a0⟩;obtain⟨gi,fj,_⟩:=bK.eu a q e2 cw.live.1;have:=uL a i gi aG fj;rw[gA]at this;cases this;obtain⟨e0,gm,_⟩:=hw.eu j p a0 hf;have:=hle j e0 gm;rw[hy]at this;cases this;rcases ep.new a l fj with hn|hn|⟨b,fL,hv,kk,nK⟩
   ·obtain⟨hD,gK,f1,f2,f3,f4⟩:=hold a l (by rw[e2];simp) hn;have:=hw.inj hD j gK p l m f2 f3 a0 hf f4 gm e;subst this;exact aW a (by rw[e2];simp) (xH a hD f1)
   ·have:=hw.gh j m gm;omega
   ·exact Oz j p m a0 hf gm aW b fL hv kk (by omega)
  rcases m2.obj i o ag gU with aa|aa<;>rcases m2.obj j p hj hf with aJ|aJ
  ·obtain⟨a,q,aG,e2,cw⟩:=aa;obtain⟨b,fq,aW,a0,bx⟩:=aJ;obtain⟨gi,fj,_⟩:=bK.eu a q e2 cw.live.1;obtain⟨e0,gm,_⟩:=bK.eu b fq a0 bx.live.1;have t1:=uL a i gi aG fj;rw[gA]at t1;cases t1;have t2:=uL b j e0 aW gm;rw[hy]at t2;cases t2;have:=bK.inj a b q fq l m e2 cw.live.1 a0 bx.live.1 fj gm e;rw[aG,aW,this]
  ·exact(key i j o p l m ag gU hj hf gA hy e aa aJ).elim
  ·exact(key j i p o m l hj hf ag gU hy gA e.symm aJ aa).elim
  ·obtain⟨gi,fj,_⟩:=hw.eu i o aa.2 gU;obtain⟨e0,gm,_⟩:=hw.eu j p aJ.2 hf;have t1:=hle i gi fj;rw[gA]at t1;cases t1;have t2:=hle j e0 gm;rw[hy]at t2;cases t2;exact hw.inj i j o p l m aa.2 gU aJ.2 hf fj gm e
 ·have hj:st.aj+(r.a3-s.bw)<=j:=hj;have DA:∀i,r.a3<=i->jA i=none∧(hO r.dQ (r.c6 X.aB)).get i=none:=fun i ag=>bK.fresh i ag;refine⟨by rw[D8 j (by omega)];exact(DA _ (by omega)).1,?_⟩;show hp.get j=none;cases e:hp.get j with
  |none=>rfl
  |some o=>
   exfalso;rcases m2.kh j (by rw[e];simp)with rA|⟨i,aG,e2⟩
   ·omega
   ·rcases Nat.lt_or_ge i s.bw with ag|ag
    ·obtain⟨hD,j2,aW,cK⟩:=O9 i ag;rw[show j8 s.b7 s.bw st.aj i=hD from xH i hD aW]at aG;have:=bO hD j2 cK;omega
    ·rw[show j8 s.b7 s.bw st.aj i=st.aj+(i-s.bw)from Pn i ag]at aG;rcases Nat.lt_or_ge i r.a3 with oC|oC
     ·omega
     ·exact e2 (DA i oC).2
 ·rcases Nat.lt_or_ge j st.aj with hj|hj
  ·rw[D7 j hj]at hl;exact gf (hw.gh j l hl) ep.size
  ·rw[D8 j hj]at hl;exact bK.gh _ l hl
 ·exact hle _ _ (hw.kL g qh)
 ·exact Nat.le_trans hw.nG (Nat.le_add_right _ _)
 ·rcases m2.obj j o hj ax with⟨a,q,aG,e2,cw⟩|⟨aG,e2⟩
  ·obtain⟨gi,fj,_⟩:=bK.eu a q e2 cw.live.1;have t1:=uL a j gi aG fj;rw[hl]at t1;cases t1;exact cw.sP.1 (bK.k3 a l q fj ak e2 cw.live.1)
  ·obtain⟨gi,fj,_⟩:=hw.eu j o e2 ax;have t1:=hle j gi fj;rw[hl]at t1;cases t1;exact hw.k3 j l o fj ak e2 ax
 ·refine ep.kept b hb fun i l hl ak=> ?_;obtain⟨j,_,cy⟩:=vi i l hl;exact fW j l cy ak
 ·rcases Nat.lt_or_ge j st.aj with hj|hj
  ·rw[D7 j hj]at hl;exact .inl hl
  ·rw[D8 j hj]at hl;rcases ep.new _ l hl with hn|hn|⟨b,m,hv,kk,nK⟩
   ·obtain⟨hD,aG,_⟩:=vi _ l hn;have:=dz.kh _ _ aG;omega
   ·exact .inr (.inl hn)
   ·obtain⟨hD,_,e2⟩:=vi b m hv;exact .inr (.inr ⟨hD,m,e2,kk,nK⟩)
def uG(a4:c7)(as:List Value)(st:aw)(rs:List (Nat×bz)):Option dC:=
 List.rec (motive:=fun _=>Option dC) none (fun r _ bb=>cond (Nat.beq r.1 st.aj) (bo (r.2.app a4 as st) some bb) (cond (Nat.beq r.1 0) (bo (r.2.app a4 as st) some bb) bb)) rs
theorem NY{a4:c7}{as:List Value}{st:aw}:∀{rs:List (Nat×bz)} {fr:dC},uG a4 as st rs=some fr->∃r∈rs,r.2.app a4 as st=some fr
 |[],fr,h=>by cases h
 |r::rs,fr,h=>by
  have h:cond (Nat.beq r.1 st.aj) (bo (r.2.app a4 as st) some (uG a4 as st rs)) (cond (Nat.beq r.1 0) (bo (r.2.app a4 as st) some (uG a4 as st rs)) (uG a4 as st rs))=some fr:=h;have K4:uG a4 as st rs=some fr->∃dt∈r::rs,dt.2.app a4 as st=some fr:=fun h=>by
   obtain⟨dt,J,U⟩:=NY h;exact⟨dt,List.mem_cons_of_mem _ J,U⟩
  have ax:bo (r.2.app a4 as st) some (uG a4 as st rs)=some fr->∃dt∈r::rs,dt.2.app a4 as st=some fr:=fun h=>by
   cases a2:r.2.app a4 as st with
   |none=>rw[a2]at h;exact K4 h
   |some x=>rw[a2]at h;cases h;exact⟨r,by simp,a2⟩
  cases hb:Nat.beq r.1 st.aj with
  |true=>rw[hb]at h;exact ax h
  |false=>
   rw[hb]at h;cases hc:Nat.beq r.1 0 with
   |true=>rw[hc]at h;exact ax h
   |false=>rw[hc]at h;exact K4 h
end Go.az
namespace Go.az
variable{X:Ctx}
def xI(n:Nat):au Nat:=Nat.rec (motive:=fun _=>au Nat) .nil (fun m t=>au.fin t fun t=>au.jw (Nat.succ m) t m m) n
theorem AM:∀(n i:Nat),(xI n).get i=if i<n then some i else none
 |0,i=>by rw[if_neg (by omega)];rfl
 |n+1,i=>by
  have e:xI (n+1)=(xI n).set n n:=by
   show au.fin (xI n) (fun t=>au.jw (Nat.succ n) t n n)=_;rw[au.nD,au.tA]
  rw[e,au.eI,AM n i];by_cases h:i=n
  ·subst h;rw[if_pos rfl,if_pos (by omega)]
  ·rw[if_neg h];by_cases aL:i<n
   ·rw[if_pos aL,if_pos (by omega)]
   ·rw[if_neg aL,if_neg (by omega)]
theorem aj5{s:c7}{n:Nat}(J:s.b7=xI n)(U:s.inv=xI n)(ah:s.bw=n):s.cY∧s.bw=n∧∀g,g<n->s.b7.get g=some g:=by
 refine⟨⟨fun i j=> ?_,fun i j h=> ?_⟩,ah,fun g aZ=> ?_⟩
 ·rw[J,U,AM,AM];by_cases ag:i<n<;>by_cases hj:j<n<;>simp[ag,hj]<;>omega
 ·rw[J,AM]at h;rw[ah];by_cases ag:i<n
  ·exact ag
  ·rw[if_neg ag]at h;cases h
 ·rw[J,AM,if_pos aZ]
def bz.dm(r:bz)(aB:Nat)(a7:au aK)(e5:la)(n f:Nat):Bool:=
 au.fin (r.c6 aB) fun h=>au.fin (hO r.dQ h) fun aL=>fB (Nat.add aB (ef r.nA)) fun m=>az.dm (dx a7 e5 n (.func (.func f) #[] #[]) r.as none ⟨h,m⟩) r.v ⟨aL,r.a3⟩
theorem dN{a7:au aK}{e5:la}(dE:Good X)(hA:mi X a7)(m7:p4 X e5){n aB:Nat}{f:FuncId}{r:bz}(h:r.dm aB a7 e5 n f=true):cF X f (r.row aB):=by
 refine St dE hA m7 (n:=n) ?_;unfold bz.dm fB at h;rw[au.nD,au.nD,Nat.beq_refl]at h;exact h
def bz.jS(r:bz)(aB g:Nat)(el:TypeId)(c:Nat)(a7:au aK)(e5:la)(n f:Nat):Bool:=
 au.fin ((r.c6 aB).set g (.cells [.chan (some c)] el (0,1) false)) fun h=>au.fin ((hO r.dQ (r.c6 aB)).set g (.cells [.chan (some c)] el (0,1) false)) fun aL=>fB (Nat.add aB (ef r.nA)) fun m=>
  az.dm (dx a7 e5 n (.func (.func f) #[] #[]) r.as none ⟨h,m⟩) r.v ⟨aL,r.a3⟩
theorem k5{a7:au aK}{e5:la}(dE:Good X)(hA:mi X a7)(m7:p4 X e5){n aB:Nat}{f:FuncId}{r:bz}{g:Nat}{el:TypeId}{c:Nat}(h:r.jS aB g el c a7 e5 n f=true):cF X f ((r.row aB).nP g el c):=by
 refine St dE hA m7 (n:=n) ?_;unfold bz.jS fB at h;rw[au.nD,au.nD,Nat.beq_refl]at h;exact h
def bz.nu(r:bz)(aB:Nat)(olds:List Nat)(a7:au aK)(e5:la)(n f:Nat)(xf:aK):Bool:=
 au.fin (r.c6 aB) fun h=>au.fin (hO r.dQ h) fun aL=>fB (Nat.add aB (ef r.nA)) fun m=>az.nu olds m r.v ⟨aL,r.a3⟩ (zn (dx a7 e5 n) n f xf r.as ⟨h,m⟩)
theorem yG{a7:au aK}{e5:la}(dE:Good X)(hA:mi X a7)(m7:p4 X e5){n aB:Nat}{f:FuncId}{xf:aK}{r:bz}{olds:List Nat}(aa:a7.get f=some xf)(h:r.nu aB olds a7 e5 n f xf=true):cF X f (r.row aB):=by
 refine akg dE hA m7 (n:=n) (olds:=olds) aa ?_;unfold bz.nu fB at h;rw[au.nD,au.nD,Nat.beq_refl]at h;exact h
def assoc(t:List (Nat×List (Nat×bz)))(f:Nat):List (Nat×bz):=
 List.rec (motive:=fun _=>List (Nat×bz)) [] (fun p _ bb=>cond (Nat.beq p.1 f) p.2 bb) t
def eE(a4:c7)(t:List (Nat×List (Nat×bz))):la:=fun f as st=>uG a4 as st (assoc t f)
def ua(X:Ctx)(f:Nat)(l:List (Nat×bz)):Prop:=∀r∈l,cF X f (r.2.row X.aB)
def y3(X:Ctx)(t:List (Nat×List (Nat×bz))):Prop:=∀p∈t,ua X p.1 p.2
theorem bG{f:Nat}:ua X f []:=fun _ h=>by cases h
theorem ar{f n:Nat}{r:bz}{l:List (Nat×bz)}(h:cF X f (r.row X.aB))(ak:ua X f l):ua X f ((n,r)::l):=List.forall_mem_cons.2 ⟨h,ak⟩
theorem bu:y3 X []:=fun _ h=>by cases h
theorem bI{f:Nat}{l:List (Nat×bz)}{t:List (Nat×List (Nat×bz))}(h:ua X f l)(ak:y3 X t):y3 X ((f,l)::t):=List.forall_mem_cons.2 ⟨h,ak⟩
theorem MC:∀{t:List (Nat×List (Nat×bz))},y3 X t->∀f,ua X f (assoc t f)
 |[],_,f=>bG
 |p::t,h,f=>by
  show ua X f (cond (Nat.beq p.1 f) p.2 (assoc t f));cases hb:Nat.beq p.1 f with
  |true=>rw[<-dY hb];exact h p (by simp)
  |false=>exact MC (fun q hq=>h q (List.mem_cons_of_mem _ hq)) f
theorem eJ{a4:c7}(ql:a4.cY∧a4.bw=X.aB∧∀g,g<X.aB->a4.b7.get g=some g){t:List (Nat×List (Nat×bz))}(aX:y3 X t):p4 X (eE a4 t):=by
 intro f as st r aF ι as' w a2 hw _;obtain⟨row,hm,hh⟩:=NY aF;exact L3 (MC aX f row hm) ql.1 ql.2.1 ql.2.2 hh ι as' w a2 hw
theorem V1{f:FuncId}{r:Row}(aF:cF X f r){ι:bq}{as':List Value}{w:World}(a2:bF ι r.as as')(hw:bp X ι r.st w):
 Calls X.P f as'.toArray w (fun e w'=>∃aM v',e= .returned v'∧bs aM r.v v'∧bp X aM r.st' w'∧eV ι aM w w'):=by
 intro cs;obtain⟨_,U⟩:=aF ι as' w a2 hw;obtain⟨aM,v',w',F,J,U,ah,aC,a5,ch,cV⟩:=U .normal (fun _=>cs) (fun F eB aA=>by
  have eC:F.kind= .normal:=aA;simp[tryRecover,eC])
 obtain⟨aW,a0,fn,bx,cK⟩:=ch;exact⟨.returned v',w',F,⟨aM,v',rfl,J,U,ah⟩,cV,a5,aW,a0,aC,fn,bx,cK⟩
def rM(n:Nat):bq:=fun i=>if i<n then some ⟨i,0,0,jX⟩else none
def su(n:Nat)(W:World)(p:Nat×bL):Prop:=
 p.1<n∧∃cs el m C bt,p.2= .cells cs el (0,m) false∧0<m∧W.heap[p.1]? =some (.cells C el bt)∧bF (rM n) cs C.toList
theorem am8{W:World}{gs:List (Nat×bL)}(fa:X.aB<=W.heap.size)(h:∀p∈gs,su X.aB W p):bp X (rM X.aB) ⟨hO gs .nil,X.aB⟩ W:=by
 have ll:∀i l,rM X.aB i=some l->i<X.aB∧l=⟨i,0,0,jX⟩:=by
  intro i l hl;unfold rM at hl;split at hl
  ·cases hl;exact⟨by assumption,rfl⟩
  ·cases hl
 have rC:∀i o,(hO gs .nil).get i=some o->su X.aB W (i,o):=by
  intro i o ao;rcases Gk _ _ _ _ ao with hm|hm
  ·exact h _ hm
  ·simp at hm
 refine⟨fun i o ao ax=> ?_,fun i j o p l m ag _ hj _ hl hm e=> ?_,fun i ag=> ?_,fun i l hl=> ?_,fun g aZ=> ?_,cd _,fun i l o hl _ ao _=> ?_⟩
 ·obtain⟨bO,cs,el,m,C,bt,aG,e2,cw,gz⟩:=rC i o ao;simp only at bO aG cw;refine⟨⟨i,0,0,jX⟩,by unfold rM;rw[if_pos bO],?_⟩;subst aG;have hlen:cs.length=C.size:=by rw[gz.1];simp
  refine⟨C,bt,cw,by simp[hlen],fun k ae=> ?_,fun af=> ?_,fun _=>⟨rfl,rfl,hlen.symm⟩⟩
  ·have fJ:k<C.size:=by omega
   refine⟨C[k],by simp[fJ],?_⟩;have:=gz.2 k ae (by simpa using fJ)
   rwa [Array.getElem_toList]at this
  ·simp only at af;omega
 ·obtain⟨_,rfl⟩:=ll i l hl;obtain⟨_,rfl⟩:=ll j m hm;exact e
 ·refine⟨by unfold rM;rw[if_neg (by simp only at ag;omega)],?_⟩;cases e:(hO gs .nil).get i with
  |none=>rfl
  |some o=>have:=(rC i o e).1;simp only at this ag;omega
 ·obtain⟨J,rfl⟩:=ll i l hl;simp only;omega
 ·unfold rM;rw[if_pos aZ]
 ·obtain⟨_,cs,el,m,C,bt,aG,e2,_,_⟩:=rC i o ao;simp only at aG;subst aG;exact⟨rfl,e2⟩
def Gt{α β B3:Type}(f:α->β->Option B3):List α->List β->Option (List B3)
 |[],[]=>some []
 |a::as,b::bn=>(f a b).bind fun c=>(Gt f as bn).map fun cs=>c::cs
 |_,_=>none
def zx:Nat->List (Nat×Nat)->Nat->Bool
 |o,[],n=>Nat.beq o n
 |o,p::r,n=>Nat.beq p.1 o&&zx (o+p.2) r n
def w6(P:Program):Nat->TypeId->DataW Unit->Option (List Value)
 |0,_,_=>none
 |n+1,t,d=>
  match P.underlying t,d with
  |some .bool,.lit (.bool b)=>some [.bool b]
  |some (.int _),.lit (.int k m)=>some [.int k m]
  |some .string,.lit (.string s)=>some [.string ⟨⟨s⟩⟩]
  |some (.struct dd),.agg ds=>if zx 0 (dd.toList.map fun f=>(f.offset,P.cellsOf f.type)) (P.cellsOf t)then(Gt (fun(f:Field) d=>w6 P n f.type d) dd.toList ds).map List.flatten else none
  |some (.array m e),.agg ds=>if zx 0 ((List.range m).map fun i=>(i*P.cellsOf e,P.cellsOf e)) (P.cellsOf t)then(Gt (fun(_:Nat) d=>w6 P n e d) (List.range m) ds).map List.flatten else none
  |_,_=>none
theorem Hh(cs:List Value):∀(l:List (Nat×Nat)) (o:Nat),zx o l cs.length=true->cs.drop o=(l.map fun p=>(cs.drop p.1).take p.2).flatten
 |[],o,h=>by
  have:=dY h;rw[this];simp
 |p::r,o,h=>by
  unfold zx at h;rw[b2]at h;have e:=dY h.1;rw[List.map_cons,List.flatten_cons,<-Hh cs r (o+p.2) h.2,e,<-List.drop_drop,List.take_append_drop]
theorem Lu{α:Type}{g:α->Option (DataW Unit×List MemPlace)}{k:α->DataW Unit->Option (List Value)}{seg:α->List Value}
 (ae:∀a d p vs,g a=some (d,p)->k a d=some vs->seg a=vs):∀(as:List α) (xs:List (DataW Unit×List MemPlace)) (yR:List (List Value)),as.mapM g=some xs->Gt k as (xs.map (·.1))=some yR->as.map seg=yR
 |[],xs,yR,h,aL=>by
  simp at h;subst h;cases aL;rfl
 |a::as,xs,yR,h,aL=>by
  rw[List.mapM_cons]at h;obtain⟨x,aa,h⟩:=Option.bind_eq_some_iff.1 h;obtain⟨av,aJ,h⟩:=Option.bind_eq_some_iff.1 h;cases h;obtain⟨vs,aG,aL⟩:=Option.bind_eq_some_iff.1 aL;obtain⟨am9,e2,rfl⟩:=Option.map_eq_some_iff.1 aL;rw[List.map_cons,ae a x.1 x.2 vs aa aG,Lu ae as av am9 aJ e2]
theorem zP{P:Program}{w:World}{base:Nat}{sp:Nat->Bool}{held:Bool}:∀(fuel n:Nat) (t:TypeId) (cs:List Value) (d:DataW Unit) (p:List MemPlace) (vs:List Value),
 DataW.trod (fun _=>()) P w base sp held fuel t cs=some (d,p)->w6 P n t d=some vs->cs=vs
 |0,_,_,_,_,_,_,h,_=>by simp[DataW.trod]at h
 |_+1,0,_,_,_,_,_,_,h=>by simp[w6]at h
 |fuel+1,n+1,t,cs,d,p,vs,h,aL=>by
  unfold w6 at aL;split at aL
  ·rename_i b hu;cases aL;simp only[DataW.trod,hu]at h;split at h<;>first|(rename_i hq;cases hq)|skip
   all_goals first|(cases h;rfl)|(simp at h)
  ·rename_i k k' m hu;cases aL;simp only[DataW.trod,hu]at h;split at h<;>first|(rename_i hq;cases hq)|skip
   all_goals first
    |(split at h
      ·rename_i hc;cases h;rw[hc.1]
      ·cases h)
    |(simp at h)
  ·rename_i s hu;cases aL;simp only[DataW.trod,hu]at h;split at h<;>first|(rename_i hq;cases hq)|skip
   all_goals first
    |(split at h
      ·cases h;rfl
      ·cases h)
    |(simp at h)
  ·rename_i dd ds hu;split at aL
   ·rename_i hc;obtain⟨yR,aG,rfl⟩:=Option.map_eq_some_iff.1 aL;simp only[DataW.trod,hu]at h;split at h
    ·rename_i hl;obtain⟨xs,e2,cw⟩:=Option.map_eq_some_iff.1 h;cases cw;rw[<-hl]at hc;have gz:=Hh cs _ 0 hc;rw[List.drop_zero,List.map_map]at gz;have pj:=Lu (seg:=fun(f:Field)=>(cs.drop f.offset).take (P.cellsOf f.type)) (fun f d p vs J U=>zP fuel n f.type _ d p vs J U) _ _ _ e2 aG;rw[<-pj];exact gz
    ·cases h
   ·cases aL
  ·rename_i m e ds hu;split at aL
   ·rename_i hc;obtain⟨yR,aG,rfl⟩:=Option.map_eq_some_iff.1 aL;simp only[DataW.trod,hu]at h;split at h
    ·rename_i hl;obtain⟨xs,e2,cw⟩:=Option.map_eq_some_iff.1 h;cases cw;rw[<-hl]at hc;have gz:=Hh cs _ 0 hc;rw[List.drop_zero,List.map_map]at gz;have pj:=Lu (seg:=fun(i:Nat)=>(cs.drop (i*P.cellsOf e)).take (P.cellsOf e)) (fun i d p vs J U=>zP fuel n e _ d p vs J U) _ _ _ e2 aG;rw[<-pj];exact gz
    ·cases h
   ·cases aL
  ·cases aL
theorem PI{P:Program}{w:World}:∀{l:List (String×DataW Unit)} {ps:List MemPlace},DataW.LaidVars P w l ps->∀x∈l,∃g t cs fuel p,P.globalNamed x.1=some g∧(P.globals[g]?).map (·.type)=some t∧w.var? P x.1=some cs∧
 DataW.trod (fun _=>()) P w 0 (fun _=>true) false fuel t cs.toList=some (x.2,p)
 |[],_,_,x,aa=>by cases aa
 |(n,d)::r,ps,h,x,aa=>by
  obtain⟨g,t,cs,fuel,p,q,J,U,ah,aC,a5,_⟩:=h;rcases List.mem_cons.1 aa with rfl|aa
  ·exact⟨g,t,cs,fuel,p,J,U,ah,aC⟩
  ·exact PI a5 x aa
def EW:Value->Bool
 |.bool _|.int _ _|.string _=>true
 |_=>false
theorem ai4{ι:bq}{v:Value}(h:EW v=true):bs ι v v:=by
 cases v<;>first|(simp[EW]at h;done)|constructor
theorem Rt{ι:bq}:∀{vs:List Value},vs.all EW=true->bF ι vs vs
 |[],_=>.nil ι
 |v::vs,h=>by
  rw[List.all_cons,b2]at h;exact .cons (ai4 h.1) (Rt h.2)
theorem Di{P:Program}{W:World}{l:List (String×DataW Unit)}{ps:List MemPlace}(hl:DataW.LaidVars P W l ps){n g N:Nat}{name:String}{d:DataW Unit}{t el:TypeId}{vs:List Value}{m:Nat}
 (aa:(name,d)∈l) (aZ:P.globalNamed name=some g) (aX:(P.globals[g]?).map (·.type)=some t) (af:w6 P n t d=some vs) (qh:g<N) (hm:0<m) (hp:vs.all EW=true)
 (ID:∃cs,W.heap[g]? =some (.cells cs el)):su N W (g,.cells vs el (0,m) false):=by
 obtain⟨kK,gO,cs,fuel,p,J,U,ah,aC⟩:=PI hl _ aa;simp only at J ah aC;rw[aZ]at J;cases J;rw[aX]at U;cases U;obtain⟨C,hC⟩:=ID;have aD:C=cs:=by
  simp only[World.var?,aZ,Option.bind_some,hC]at ah;exact Option.some.inj ah
 subst aD;refine⟨qh,vs,el,m,C,_,rfl,hm,hC,?_⟩;rw[zP fuel n t _ d p vs aC af];exact Rt hp
