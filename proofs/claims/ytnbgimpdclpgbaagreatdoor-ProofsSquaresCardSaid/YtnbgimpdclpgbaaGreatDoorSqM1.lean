/- An abstract machine, and that its evaluations stand for runs of the model (part 1); no condition. -/
import Derived.Calls
import Derived.Laws.Cells
import Derived.Maps.Keyed
import Derived.Lib.Strings
import Derived.KernelRfl
import Derived.Laws.StructEq
import Derived.Recover
noncomputable section
set_option linter.all false
namespace Go.bC
universe u
def R{P:Prop}(h:P:=by omega):P:=h
def ai{P:Prop}(h:P:=by decide):P:=h
theorem j{α:Sort u}{a:α}:a=a:=rfl
def au{P:Prop}(h:P:=by simp):P:=h
def pT{P:Prop}(h:P:=by assumption):P:=h
def fe{P:Prop}(h:P:=by exact⟨rfl,rfl⟩):P:=h
def dM{P:Prop}(h:P:=by simp;omega):P:=h
def sa{P:Prop}(h:P:=by exact⟨rfl,rfl,rfl⟩):P:=h
def m2{P:Prop}(h:P:=by exact(.inl rfl)):P:=h
def fL{P:Prop}(h:P:=by exact(fun _=>rfl)):P:=h
def tb{P:Prop}(h:P:=by exact(.inr rfl)):P:=h
def mr{P:Prop}(h:P:=by exact(.refl _ _)):P:=h
def az:=trivial
def dN{P:Prop}(h:P:=by exact⟨_,rfl⟩):P:=h
def bu{P:Prop}(h:P:=by kernel_rfl):P:=h
def jS{P:Prop}(h:P:=by exact⟨_,rfl,rfl,fun _=>rfl⟩):P:=h
def sx{P:Prop}(h:P:=by exact⟨rfl,fun _=>rfl⟩):P:=h
def gJ{P:Prop}(h:P:=by exact⟨_,rfl,rfl⟩):P:=h
def l7{P:Prop}(h:P:=by exact⟨_,rfl,rfl,.refl _⟩):P:=h
def Ni{P:Prop}(h:P:=by exact⟨_,_,rfl,rfl,_,_,rfl,rfl,rfl⟩):P:=h
def Aa{P:Prop}(h:P:=by exact⟨rfl,by omega,by omega⟩):P:=h
def apb{P:Prop}(h:P:=by decide +kernel):P:=h
section
variable{P:Prop}
def apq(h:P:=by exact⟨⟨_,congrArg (λw=>some (aZ.a 197 true 6 aE hg w)) M,j,λ_=>j⟩,az⟩):P:=h
def apr(h:P:=by exact⟨c,ad,_,w,.one (EM (P:=X.P) (b:=b) (a:=a) (k:=k) (cs:=bf (F c).cQ) (w:=w) (rest:=rest) ax ai),by rw[<-av];exact I.float D aa au ah aJ ar (by rw[S];exact bd.undef _),G,az⟩):P:=h
def aps(h:P:=by show l0 (cg aL (cw X br) (n+1) (.func (.func g) #[] #[]) (dQ o bO) none st) _ _=_;rw[a0];rfl):P:=h
def apt(h:P:=by grind):P:=h
def apu(h:P:=by exact b9.refl _):P:=h
def apv(h:P:=by simp[stepG,stepG.exec,dR.at]):P:=h
def apw(h:P:=by exact⟨λh=>h.elim .inl (λh=>.inr ⟨_,j,h⟩),λh=>h.elim .inl (λ⟨_,h,D⟩=>by cases h;exact .inr D)⟩):P:=h
def apx(h:P:=by exact bk (hp:=by show pinned S.length _ _=_;rw[af];rfl)):P:=h
def apy(h:P:=by exact⟨λh=>h.elim .inl (λh=>absurd h au),λh=>h.elim .inl (λ⟨_,h,_⟩=>by cases h)⟩):P:=h
def apz(h:P:=by obtain⟨⟨rfl,rfl,bJ⟩,rfl,K⟩:=aw;cases h;exact q.rd (bE:=.func _ (Array.map a.eval _) (Array.map a.eval _)) (bd.A7 (.inl ⟨j,au⟩) (by simpa using uA q.f q.w _ bJ) (by simpa using uA q.f q.w _ K)) (by simp[*,Instr.makeFunc])):P:=h
def apA(h:P:=by obtain⟨O,S,md,K,aa,I,a0⟩:=yU aj aM none C r D aF w' {{F with defers:=es}with mode:=.returning} cs (A.mono a'.le) (show se aF none .returning from rfl) H;exact⟨O,S,md,(Steps.head aA M).trans (.head ag K),aa,I,a'.trans a0⟩):P:=h
def apB(h:P:=by exact⟨(λh=>by cases h),λ⟨k,h,_⟩=>by cases h⟩):P:=h
def apC(h:P:=by exact⟨_,j,λst=>uN O⟩):P:=h
def apD(h:P:=by exact⟨_,h,j,λP w t=>by subst C;simp[binOp,Op.shift,show¬((b:Int)<0) by omega]⟩):P:=h
def apE(h:P:=by simpa using this):P:=h
def apF(h:P:=by exact λp hp=>by cases hp):P:=h
def apG(h:P:=by show List.rec (motive:=λ_=>dY) _ _ o.dd=_;rw[a']):P:=h
def apH(h:P:=by simpa using h):P:=h
def apI(h:P:=by show xs.length-0<bs+1;unfold bs;omega):P:=h
def apJ(h:P:=by rw[<-h];rfl):P:=h
def apK(h:P:=by obtain⟨m,aC,aI⟩:=xa D e;unfold j7;rw[aC];exact⟨b,aI,d⟩):P:=h
def apL(h:P:=by intro a1 i0 aq B;exact⟨B.hle.trans hle,λb C aj=>(by rw[R.hold b (e2 C B.ae) au];exact B.hold b C aj),λb C aj=>(by rw[R.eK b (e2 C B.ae) au];exact B.eK b C aj),ch B.ae R.ae,B.jx,B.new⟩):P:=h
def apM(h:P:=by show xs.length<bs+1;unfold bs;omega):P:=h
def apN(h:P:=by exact⟨O,S,md,(Steps.head aA M).trans (.head ag K),aa,I,a'.trans a0⟩):P:=h
def apO(h:P:=by exact bk (hp:=by show pinned aj.length _ _=_;rw[G];rfl)):P:=h
def apP(h:P:=by show jI o.t aA (λI=>hj ⟨I,[],none,false,none⟩ (some (t,b)) _ _ _)=jI o.t aA (λI=>hj ⟨I,[],none,false,none⟩ none _ _ _);rw[om,om];exact Kt ((D.only aA).get _ _ O)):P:=h
def apQ(h:P:=by exact λh=>by cases h):P:=h
def apR(h:P:=by exact⟨c8 _,j⟩):P:=h
def apS(h:P:=by rename_i z el;have e:bw call (.alloc z el) o st=st.iD (.cells z el (0,0) false) λid st=>.ok (.pointer (some ⟨id,0,none⟩)) o st:=rfl;rw[e,gj]at h;cases h;rfl):P:=h
def apT(h:P:=by rw[h]at d;obtain⟨b,e,d⟩:=d;exact⟨b,uP h e,d⟩):P:=h
def apU(h:P:=by exact ep j j (.of (by show _=ag.aa (rz s);unfold rz;rw[h];rfl))):P:=h
def apV(h:P:=by rw[aO z,aO R]at this;exact Option.some.inj this):P:=h
def apW(h:P:=by rw[e]at h;exact kV _ h):P:=h
def apX(h:P:=by have I:a2.rec (λv _ al=>j4 call ms n S (p+1) fm (o.put x.d v) al) (λ_ _=>false) false (bw call x.U (o.only aA) st)=true:=I;rw[D]at I;cases I):P:=h
def apY(h:P:=by exact⟨undef,_,ids,H,e,Z.e3 ba j C ⟨_,_,j,bZ.del M⟩,⟨[],j,j⟩,cH.refl _,b9.refl _,λ_ _ _ B=>B.e3 (hh C) _,c5 _,λc _ A=>ao.fk _ _ λe=>A J q (e▸C)⟩):P:=h
def apZ(h:P:=by exact m8 (z:=4) j fL fL):P:=h
def ap0(h:P:=by rename_i O;obtain⟨b,C,O⟩:=D.ar O;exact⟨_,⟨b,C,j⟩,e O⟩):P:=h
def ap1(h:P:=by rw[O]at h;cases h):P:=h
def ap2(h:P:=by exact⟨B,⟨F,W.le,j,j,oU,λb C=>by simp at C,λk U b N=>by simp at N⟩,⟨cH.refl _,λ_ _ _=>j,λ_ _ _=>j,It _ _,b9.refl _,λb C=>.inl C⟩,j⟩):P:=h
def ap3(h:P:=by unfold e9 at G;rw[hI]at G;unfold bs;omega):P:=h
def ap4(h:P:=by exact⟨λ_=>false,F,T,N,V,⟨f0,t0,ck,j,j,λp x c hp=>.inl ⟨j,(M p x c hp).1⟩⟩,.inl ⟨D,λ_=>j,λp x c _ _ hp=>(M p x c hp).2,aw,z⟩⟩):P:=h
def ap5(h:P:=by show wx el c4 I x y call o st=_;unfold wx;rw[Y,G,l1,l1,ou,ou,fo aj,fo (show Nat.mul c (Nat.succ c4)<=2^40 from aQ),gj,hF]):P:=h
def ap6(h:P:=by exact⟨[],j,j⟩):P:=h
def ap7(h:P:=by exact⟨.agg (R.extract N (N+i.size)),by simp[part,Sem.run_bind,Bj T,O,Result.andThen,if_true,qO af,Sem.run_pure],bd.r5 (by simp_all)⟩):P:=h
def ap8(h:P:=by exact cH.refl _):P:=h
def ap9(h:P:=by exact⟨_,.inr ⟨b,U+p*z,c-p,ab,el,bY,true,by rw[B],R,T,V⟩,λst hle=>by rw[F st hle,cond_true,fo G,fN.ar N D cD,fN.ar E D hp,nB]⟩):P:=h
def aqa(h:P:=by intro i l B;show(if i=st.ae then _ else ad i)=_;rw[av];exact B;intro e;subst e;rw[(h.fresh _ (cf _)).1]at B;cases B):P:=h
def aqb(h:P:=by exact⟨bQ.back Z.le a' E h.eK,⟨bH.le.refl _,Z.size,Z.kept,λ_ _ q=>.inl q,Z.fQ⟩,c5 _,λi p m hp ai hm=>.inl ⟨aW hp,hm,hp⟩⟩):P:=h
def aqc(h:P:=by show l.length-0<bs+1;unfold bs;omega):P:=h
def aqd(h:P:=by exact cW.refl _ _ _):P:=h
def aqe(h:P:=by exact⟨(by cases v<;>first|rfl|(done)|(rename_i r;cases r<;>first|rfl|cases this)),(by rw[ad6 this];exact⟨v,[],j,d,j⟩)⟩):P:=h
def aqf(h:P:=by have:=h.2 i R R;rwa [kU,kU]at this):P:=h
def aqg(h:P:=by exact⟨.agg ⟨[_,_,_]⟩,bd.r5 (bI.cons (.bool _) (bI.cons G (bI.cons (.ft ⟨V,L,none⟩ C _ _ _ W j m2) (bI.nil _))))⟩):P:=h
def aqh(h:P:=by exact λ_ _ N _=>⟨N,by simp[gr]⟩):P:=h
def aqi(h:P:=by rw[(N _ _ _ (D.ar aw)),jz,W];show jH (st.h.get b) _ _=_;rw[O];show cond (lo ct es) _ _=_;rw[bZ.lo R];rfl):P:=h
def aqj(h:P:=by exact⟨λn=>by rw[<-ln];exact rX _ _ ai,j⟩):P:=h
def aqk(h:P:=by exact⟨j,j,congrArg (λa=>some (ag.aa a)) (by rw[gn]<;>omega),congrArg (λa=>some (ag.aa a)) (by rw[gn,e]<;>omega),az⟩):P:=h
def aql(h:P:=by exact⟨aj,by show 0+(aU 10 n).length<=_;have:=MZ aj;omega,by rw[av w];simp[mK],λh=>absurd h w,λp hp=>by simp at hp⟩):P:=h
def aqm(h:P:=by show jI o.t aA (λI=>hj ⟨I,[],none,false,none⟩ (some (t,b)) _ _ _)=_;rw[om];exact V (D.only aA) O):P:=h
def aqn(h:P:=by exact⟨.inl j,l7,[0],j,ik az jS⟩):P:=h
def aqo(h:P:=by have⟨R,M⟩:=H;exact hn.head (Steps.trans M (.one (P8 j))) A (yV O ok.fn ok.res Y G j j j j (rfl))):P:=h
def aqp(h:P:=by rw[Y];exact xQ p.1):P:=h
def aqq(h:P:=by exact⟨ai,ai⟩):P:=h
def aqr(h:P:=by exact key false (by rw[O,show o.ar y=_ from T];simp[kk,wm]) j):P:=h
def aqs(h:P:=by exact⟨c,_,_,w',.one aM,by rw[<-av];exact I.acv ab D aa ah aj ar A (by rfl) (by exact Jb) bw aZ.fQ S bp,G,az⟩):P:=h
def aqt(h:P:=by exact⟨h.s,h.z,ch h.l aC,(λp hp=>by have:=h.k p hp;unfold aE.le at this ⊢;omega),λp hp=>eL (h.b p hp) j⟩):P:=h
def aqu(h:P:=by exact tm h aC aI O T):P:=h
def aqv(h:P:=by exact bK (decide_eq_decide.2 ⟨λD=>⟨h,D⟩,λD=>D.2⟩)):P:=h
def aqw(h:P:=by apply step_lone_go;have j:=I;simp[stepG,stepG.exec,stepG.apply,dR.at,ay,h,resolve,Qc ay,Qd,j]):P:=h
def aqx(h:P:=by show ag.bc [.b6 6 eH kx (pz p.ins.length b1).1,.aa (pz p.ins.length b1).2]=_;unfold pz;rw[C]):P:=h
def aqy(h:P:=by rw[C]at V;cases V;rw[<-dB C];exact⟨b,es,clock,I,by rw[eP];rw[aD j];exact a0,d.mono hle⟩):P:=h
def aqz(h:P:=by exact⟨au,by rw[E];rfl,by rw[E];exact⟨aw,az⟩,az,j⟩):P:=h
def aqA(h:P:=by exact⟨.inr j,⟨_,j,j,.of (NN A j)⟩,[0],j,ik az jS⟩):P:=h
def aqB(h:P:=by exact aO aW):P:=h
def aqC(h:P:=by rw[x2];decide):P:=h
def aqD(h:P:=by exact⟨v,st,ids,H,g st (.inl Z.le) (λ_ _ _ _=>j),Z,T,cH.refl _,b9.refl _,λ_ _ _ B=>B,cf _,λ_ _ _=>j⟩):P:=h
def aqE(h:P:=by have:bw call (.build z g) o st=ob o g z λcs=>.ok (.agg ⟨cs⟩) o st:=rfl;rw[this,a0]):P:=h
def aqF(h:P:=by simp[Rows.proofsSquaresRow]):P:=h
def aqG(h:P:=by show lL s=_;unfold lL;rw[h]):P:=h
def aqH(h:P:=by exact⟨au,by simpa using w7 _ _ _ _⟩):P:=h
def aqI(h:P:=by exact λs h=>by cases h):P:=h
def aqJ(h:P:=by apply step_lone_go;rw[uF E F (.inl T),<-finish_at i rest _ E];simp[stepG.apply,I,h,N]):P:=h
def aqK(h:P:=by have e:=hint ⟨W,I,a0⟩ j;rw[h]at e;cases e;exact pq (by rwa [nP]) (dq (iW ai)) ai):P:=h
def aqL(h:P:=by cases h;exact key _ (by rw[show o.ar x=_ from O,show o.ar y=_ from T];simp[kk,AZ]) j):P:=h
def aqM(h:P:=by unfold hD;omega):P:=h
def aqN(h:P:=by simpa using h.1):P:=h
def aqO(h:P:=by simp[*,Builtin.len_,goInt]):P:=h
def aqP(h:P:=by simp[*,Builtin.delete_,MapKept.run_getObj_map L,wG O S,MapKept.run_setObj_map _ L]):P:=h
def aqQ(h:P:=by show(aU _ 1).length<=_;rw[vl];exact ib j):P:=h
def aqR(h:P:=by have⟨y,R,S,M⟩:=H;exact hn.head M A (yV O ok.fn ok.res Y G j j j j ⟨y,S,j⟩)):P:=h
def aqS(h:P:=by exact⟨st.ae,by rw[<-Z.len];simp,j⟩):P:=h
def aqT(h:P:=by exact⟨j,ad,.skip,w,by simp_all [Instr.storeAt,storeVar,storeCells],.inr fe,q.w.Jm O,.refl ad w⟩):P:=h
def aqU(h:P:=by exact⟨_,.inr ⟨b,U+p*z,c-p,ab,el,bY,false,by rw[B],R,T,V⟩,λst hle=>by rw[A st hle,o9 W,nB]⟩):P:=h
def aqV(h:P:=by rw[gC]at I;subst I;exact⟨_,_,_,j,O⟩):P:=h
def aqW(h:P:=by exact⟨.agg ⟨[_,_,_]⟩,bd.r5 (bI.cons (.bool _) (bI.cons G (bI.cons (.kl _ _) (bI.nil _))))⟩):P:=h
def aqX(h:P:=by rw[hp];exact I.mono ab.le):P:=h
def aqY(h:P:=by rw[aj];exact C.mono ab.le):P:=h
def aqZ(h:P:=by cases hp;exact absurd j T):P:=h
def aq0(h:P:=by rw[O,show o.ar y=_ from T];simp[kk,r1]):P:=h
def aq1(h:P:=by exact⟨λ_=>bt,λ_=>st,λ_=>fm,λ_=>undef,sa,.inr ⟨0,x,u,j,λp _ _ hp=>R,a',aa,j,j,ab,A⟩⟩):P:=h
def aq2(h:P:=by exact⟨Y,⟨M,D,j,j,oU,λb C=>by simp at C,λk U b N=>by simp at N⟩,cW.refl _ _ _,.inl fe⟩):P:=h
def aq3(h:P:=by exact⟨_,⟨_,j,so m (nA (J*z+U) T)⟩,λL _ A=>B6 G ((A k b (by simp[p7,O]) C).trans F) R⟩):P:=h
def aq4(h:P:=by exact⟨ad,_,w,I,.inl ⟨bE,j,S⟩,F,.refl ad w⟩):P:=h
def aq5(h:P:=by exact congrArg (λn:Nat=>ag.i .u32 (n:Int)) (xJ u)):P:=h
def aq6(h:P:=by exact⟨_,au,j,j,λD=>by show I0 e p call o ⟨D,ae⟩=_;rw[I0];simp[Y,cond_false];rw[gj]⟩):P:=h
def aq7(h:P:=by simpa using D):P:=h
def aq8(h:P:=by rw[l,gn]<;>simp<;>omega):P:=h
def aq9(h:P:=by rw[S,Int.natAbs_ediv_of_dvd (Int.ofNat_dvd_left.2 (AI _ _))];exact ki _ _):P:=h
def ara(h:P:=by have⟨B,Y,G,A⟩:=RG bo N aw aB aj aQ hp F Z D;exact bD B ids st o Y G A):P:=h
def arb(h:P:=by exact⟨λ_=>bt,λ_=>al,λ_=>fm,λ_=>undef,sa,.inl ⟨j,j,j,λp x c hp=>by simp at hp⟩⟩):P:=h
def arc(h:P:=by exact⟨_,dH (show J<(fx cE st 0).1.length by omega),by rw[(rb cE st 0 J R V).1,Z,aa,aE]⟩):P:=h
def ard(h:P:=by show ag.b (decide ((l.length:Int)<=30))= .b (qn l);unfold qn;rw[<-Z];rfl):P:=h
def are(h:P:=by show ag.b (decide ((l.length:Int)<=20))= .b (qo l);unfold qo;rw[<-Z];rfl):P:=h
def arf(h:P:=by cases h;exactλfw ak H ids st o gu cy F Z D ai=>Q6 ⟨H,ids,_,F,Z,D,k⟩):P:=h
def arh(h:P:=by cases h;exact q.rd (.bool _) (by simp[*,Jo,binOp,Op.stringOp,toList_eq])):P:=h
def ari(h:P:=by exact p6 S (bJ H ids st _ F Z (D.ee (some d) j))):P:=h
def arj(h:P:=by rw[gC]at M;rw[M];exact X.born m hm):P:=h
def ark(h:P:=by exact⟨c,ad,_,w,.one aM,by rw[<-av];exact I.float D aa au ah aJ ar (by rwa [A]),G,az⟩):P:=h
def arl(h:P:=by exact⟨_,⟨_,j,so m (nA U T)⟩,λL _ A=>B6 G ((A k b (by simp[p7,O]) C).trans F) R⟩):P:=h
def arn(h:P:=by exact⟨_,j,zd ai ai (D.ar O) (D.ar T) (by show(if n=0 then none else _)=_;rw[av aj])⟩):P:=h
def aro(h:P:=by exact⟨R,R,R⟩):P:=h
def arp(h:P:=by exact⟨F.1,ai,S,e,ai,λ_=>by rw[aD F];rfl,λh=>absurd ((alk F.1 F.2).trans c.symm) h⟩):P:=h
def arq(h:P:=by obtain⟨a,bg,cF,Y,G⟩:=KU (s:=⟨own,n,e⟩) h;cases Y;exact w2 G k):P:=h
def ars(h:P:=by exact⟨⟨ab,A,B,λi x O=>by have:=xb D _ (d i x O);rw[hp x]at this;exact this⟩,j⟩):P:=h
def art(h:P:=by rw[sT];omega):P:=h
def aru(h:P:=by have:=D (i+J) (cf _);rw[aO O,aO R]at this;exact Option.some.inj this):P:=h
def arv(h:P:=by exact⟨λh=>⟨h.1,h.2.1,λ_ h=>by cases h⟩,λh=>⟨h.1,h.2.1,λh=>by cases h⟩⟩):P:=h
def arw(h:P:=by simpa using bI.nil ad):P:=h
def arx(h:P:=by intro i a b;exact fH.same (EH he (hp.mem_iff.1 (dH a))) (B i a b).1):P:=h
def ary(h:P:=by exact⟨R,R⟩):P:=h
def arz(h:P:=by exact⟨.inr j,⟨_,j,j,.of (ZM e)⟩,[0,1],j,fU (aC:=⟨jS,⟨_,ZN e,j⟩,az⟩)⟩):P:=h
def arA(h:P:=by exact I 15<|bn ⟨.inr j,⟨_,j,j,.of (NK D)⟩,[0],j,ik az ⟨_,NL D,j,λ_=>j⟩⟩):P:=h
def arB(h:P:=by exact⟨B,V,aa,a',W,A,E⟩):P:=h
def arC(h:P:=by exact hn.head (Steps.trans H (.one (P7 j))) A (yV O ok.fn ok.res Y G j j j j (rfl))):P:=h
def arD(h:P:=by rw[gB R]at Z;exact Z):P:=h
def arE(h:P:=by exact⟨j,λi h=>by simp at h⟩):P:=h
def arF(h:P:=by exact⟨dq (iW ai),dq (iW ai)⟩):P:=h
def arG(h:P:=by rw[DK];rw[av R,show J+ab.length-J=ab.length by omega,mQ (cf _)]):P:=h
def arH(h:P:=by have h:cond (Nat.beq d y) none none=some O:=h;rw[u]at h;cases h):P:=h
def arI(h:P:=by exact zs (p:=0) (q:=cY) j j j dN (c8 _) R tb):P:=h
def arJ(h:P:=by cases ok<;>simp[*,Instr.lookup,MapKept.run_getObj_map L,wG O S]):P:=h
def arK(h:P:=by rw[gQ,B];omega):P:=h
def arL(h:P:=by exact⟨_,au,j,j,λD=>by show A4 e n z a7 call o ⟨D,ae⟩=_;rw[A4];rw[g,gj]⟩):P:=h
def arM(h:P:=by exact bn ⟨.inr j,⟨_,j,j,.of (ZH D)⟩,[0],j,ik az ⟨_,ZI D M,j,λ_=>j⟩⟩):P:=h
def arN(h:P:=by rename_i h;cases I;exact(Classical.choose_spec h).2 g Y w A F):P:=h
def arO(h:P:=by exact⟨v,st,ids,H,g st,Z,T,cH.refl _,b9.refl _,λ_ _ _ B=>B,cf _,λ_ _ _=>j⟩):P:=h
def arP(h:P:=by exact⟨b,Y,j⟩):P:=h
def arQ(h:P:=by exact⟨_,WideMaps.keyOf_string_mk Tryz.underlying9 (by unfold maxLen;omega)⟩):P:=h
def arR(h:P:=by exact⟨au,j,⟨⟨_,j,by show aZ.g _=aZ.g _;rw[S,ab]⟩,az⟩,⟨j,az⟩,j⟩):P:=h
def arS(h:P:=by exact I 19<|bn (ep j j (fin (by simp at T;rw[T]at M;rw[<-M,<-nH];exact WN _)))):P:=h
def arT(h:P:=by exact⟨_,qe (YY _ (λw F=>Ng (z _ (sL.1 F).1).1 (ab _ (sL.1 F).2).1) q E)⟩):P:=h
def arU(h:P:=by exact⟨_,pT,j⟩):P:=h
def arV(h:P:=by exact Rm h (by simp[gr,A]) λD=>by obtain⟨b,Y,G⟩:=D.ar A;exact⟨b,Y,G⟩):P:=h
def arW(h:P:=by rw[<-Rat.normalize_eq_mkRat h,Rat.normalize_eq h];exact fe):P:=h
def arX(h:P:=by exact⟨c8 _,List.Pairwise.nil,(λw h=>by cases h),(λw h=>by cases h),j⟩):P:=h
def arY(h:P:=by exact⟨ar,λw aG=>⟨xS (aJ w aG).1,eL (aJ w aG).2 R⟩,xS N.1,eL N.2 R⟩):P:=h
def arZ(h:P:=by exact⟨_,_,_,_,(h dG (by show dG∈[jw,cA,dG,gT,nb];simp)),λB=>zx aou⟩):P:=h
def ar0(h:P:=by exact⟨by simp[zT],by rw[me,qt];omega,by rw[av o,<-X,Z];exact Yz ab o⟩):P:=h
def ar1(h:P:=by exact⟨_,au,j,j,λD=>by show yA z e call o ⟨D,ae⟩=_;rw[yA];rw[gj]⟩):P:=h
def ar2(h:P:=by exact⟨by show d.size+1-(i+1)<d.size+1-i;omega,R,F,by rw[<-q,ZD h,u]⟩):P:=h
def ar3(h:P:=by exact⟨aQ.row U m aj,λw' e=>O4 (by rw[e];exact aQ.ex.choose_spec) R⟩):P:=h
def ar4(h:P:=by exact⟨_,_,j,j,j⟩):P:=h
def ar5(h:P:=by rw[<-M,<-nH,z,S,T];exact GG (λx O=>Y x (mR O)) dM aW):P:=h
def ar6(h:P:=by rw[<-M,<-nH,z,S,T];exact GG (λx O=>G x (mR O)) dM aW):P:=h
def ar7(h:P:=by have af:st.ae+1<=i:=af;rw[ao.fk _ _ R];exact h.wf i R):P:=h
def ar8(h:P:=by exact⟨s,M,by rw[D.mZ.inj _ _ (bK s M) (D.born e ax) aV];exact kT _⟩):P:=h
def ar9(h:P:=by simpa[fx]using h):P:=h
def asa(h:P:=by rw[o];unfold py;rw[aD ⟨B,E⟩,aC];dsimp only;rw[h]):P:=h
def asb(h:P:=by have⟨u,g,d⟩:=q.of k e;cases d;exact⟨i,e,g,h⟩):P:=h
def asc(h:P:=by exact⟨_,qe (al9 (λp hp=>(z p hp).1) (λp hp=>(ad p hp).1) D q E)⟩):P:=h
def asd(h:P:=by exact⟨Z.le,λ_ _ _ _=>j⟩):P:=h
def ase(h:P:=by show ag.b false=ag.b (decide _);rw[cp (λC=>C.1 j)]):P:=h
def asf(h:P:=by show ag.aa (((gO n f[i].1).length:Nat):Int)=_;rw[W]):P:=h
def asg(h:P:=by exact⟨undef,_,st,fm,I,.inl ⟨C,⟨j,j,j,.inl ⟨W,j⟩⟩,au⟩⟩):P:=h
def ash(h:P:=by exact⟨undef,_,st,fm,I,.inl ⟨C,⟨j,j,.inl ⟨W,j,j⟩⟩,au⟩⟩):P:=h
def asi(h:P:=by exact⟨this.1,by show((fx l (e.st st) (i+1)).1[J]'_).born=_;omega⟩):P:=h
def asj(h:P:=by exact⟨_,au,j,j,λD=>by show wv call o ⟨D,ae⟩=_;rw[wv];rw[gj]⟩):P:=h
def asl(h:P:=by rw[eI R,eI R];exact pw A):P:=h
def asm(h:P:=by rw[eI R,eI R];exact pv A):P:=h
def asn(h:P:=by exact⟨λx O=>by have:=aas O;omega,λn aj=>by have:=aat aj;omega⟩):P:=h
def aso(h:P:=by exact⟨_,fin false z ⟨[],I H []⟩,λst O=>by rw[e st O,Y];rfl⟩):P:=h
def asp(h:P:=by exact⟨((fa n).drop u)[k],hv (by rw[G];exact B),by simpa using O⟩):P:=h
def asq(h:P:=by exact fU (aI:=⟨j,j,j,j,j,congrArg (λt=>some (ag.b t)) ZV,j,az⟩)):P:=h
def asr(h:P:=by show(if(n:Int)=0 then none else _)=_;rw[av R];rfl):P:=h
def ass(h:P:=by show 1<_;decide):P:=h
def ast(h:P:=by exact⟨xP hm ao,up hm,(λaQ aF=>xR ai hm aF Y (aJ aQ aF)),aR,iG⟩):P:=h
def asu(h:P:=by exact⟨v,_,st,fm,cJ,.inl ⟨C,⟨j,j,j,.inr ⟨W,a0⟩⟩,au⟩⟩):P:=h
def asv(h:P:=by exact⟨_,j,_,_,j,⟨j,ar⟩,_,_,j,⟨j,av⟩,_,_,j,⟨j,aw⟩,j⟩):P:=h
def asw(h:P:=by exact⟨aF,h.skip,bH.le.refl _,λu M=>by cases M;exact .emp _ _⟩):P:=h
def asx(h:P:=by exact⟨_,fin true q.val ⟨[],C⟩,λst O=>by rw[e st O,Y];rfl⟩):P:=h
def asy(h:P:=by exact⟨v,_,fl,fm,I,.inl ⟨C,⟨j,j,.inr ⟨W,R,D⟩⟩,au⟩⟩):P:=h
def asz(h:P:=by simp[gr,O]):P:=h
def asA(h:P:=by show s.length<=_;omega):P:=h
def asB(h:P:=by show o.length<=_;omega):P:=h
def asC(h:P:=by rw[nP];exact U):P:=h
def asD(h:P:=by rw[Bm];exact B):P:=h
def asE(h:P:=by exact⟨e,by simpa using D,C,ay,R,by rw[I,M],by rwa [a0,<-W]⟩):P:=h
def asF(h:P:=by exact⟨by grind,(by rw[ao.eo,av R,ao.eo,av R];exact this.2)⟩):P:=h
def asG(h:P:=by exact⟨ai,by rw[ka R,ka D];simp⟩):P:=h
def asH(h:P:=by exact⟨.inr j,l7,[0],j,ik az jS⟩):P:=h
def asI(h:P:=by exact bz.refl _):P:=h
def asJ(h:P:=by exact bK (cp A)):P:=h
def asK(h:P:=by exact bK (cm A)):P:=h
def asL(h:P:=by simpa using b):P:=h
def asM(h:P:=by simpa using a):P:=h
def asN(h:P:=by rw[R.eK b (e2 C F.ae) au];exact F.eK b C aj):P:=h
def asO(h:P:=by exact⟨BI ar aT.1 _ cA,BI ar aT.2.1 _ dG,by rw[aT.2.2,gT]⟩):P:=h
def asP(h:P:=by exact ep j j (N (λh=>R) (λ_=>.bc ⟨le_zero,.refl _,az⟩))):P:=h
def asQ(h:P:=by simp[stepG,stepG.exec,dR.at,dR.returns,ay]):P:=h
def asR(h:P:=by show l[k].cr.length-0<bs+1;unfold bs;omega):P:=h
def asS(h:P:=by rw[gn (n:=(J:Int)+(m+2:Nat)) R R];exact eV):P:=h
def asT(h:P:=by rw[e];rfl):P:=h
def asU(h:P:=by rw[T];rfl):P:=h
def asV(h:P:=by show ag.b (decide _)=_;congr 1;simp;omega):P:=h
def asW(h:P:=by exact⟨_,⟨b,Y,by rw[fb,pD]⟩,λst=>B0 G (D.ar af) ba⟩):P:=h
def asX(h:P:=by exact⟨.Lz,.refl _,.refl _,az⟩):P:=h
def asY(h:P:=by exact λe=>x.den_nz ((oC ai).1 e)):P:=h
def asZ(h:P:=by rw[iX];omega):P:=h
def as0(h:P:=by exact⟨λh=>R,λh=>R⟩):P:=h
def as1(h:P:=by exact⟨by simp[cutAt],λq h=>by simp[cutAt]at h,λ_=>j⟩):P:=h
def as2(h:P:=by exact congrArg (ag.aa) g):P:=h
def as3(h:P:=by show ag.i _ (uW 47 s)=_;unfold uW;rw[O]):P:=h
def as4(h:P:=by exact .inl Y):P:=h
def as5(h:P:=by rw[E.len];exact ay):P:=h
def as6(h:P:=by exact congrArg (λn:Nat=>ag.i .u32 (n:Int)) (xJ (u/100))):P:=h
def as7(h:P:=by exact bB [] (x,y,t) ⟨a',I,a0,cJ,R,eC,XD (λh=>R)⟩ bk):P:=h
def as8(h:P:=by show b-1+1-(a+1)<bs+1;unfold bs;omega):P:=h
def as9(h:P:=by show ab.length-0<bs+1;unfold bs;omega):P:=h
def ata(h:P:=by exact⟨q.J1.BM a' W,q.val.BM a' cA,by rw[dG,q.born]⟩):P:=h
def atb(h:P:=by exact⟨n.op.toNat,R⟩):P:=h
def atc(h:P:=by exact⟨I.wr,j,j,j,j⟩):P:=h
def atd(h:P:=by exact bK (cp G)):P:=h
def ate(h:P:=by exact bK (cp (λD=>h D.1)).symm):P:=h
def atf(h:P:=by exact bK (cm G)):P:=h
def atg(h:P:=by show f.length-0<bs+1;unfold bs;omega):P:=h
def ath(h:P:=by show Z.length-0<bs+1;unfold bs;omega):P:=h
def ati(h:P:=by exact⟨l,by rw[aK i J S];exact aQ,H.symm.Qs bD cj⟩):P:=h
def atj(h:P:=by exact⟨by show 6-_<6-_;decide,by show _<=6;decide⟩):P:=h
def atk(h:P:=by exact⟨by have:=I.1;omega,λ_=>by have:=I.1;omega⟩):P:=h
def atl(h:P:=by exact⟨_,⟨b,Y,by rw[fb,pD]⟩,B0 G (D.ar af) ba⟩):P:=h
def atm(h:P:=by exact⟨((fa n).drop u)[k-u],dH m,by simpa using O⟩):P:=h
def atn(h:P:=by exact p6 W (k B V al _ I cA ((D.mono gT nb).ee d dG))):P:=h
def ato(h:P:=by exact congrArg some (vO.1 (show c.toNat=48 by omega))):P:=h
def atp(h:P:=by simpa[kC]using h):P:=h
def atq(h:P:=by rwa [D.yP]):P:=h
def atr(h:P:=by exact⟨some v,M,bA,V,s.own,q,aw,ah,hp,aj,R,ay,az⟩):P:=h
def ats(h:P:=by exact⟨iW ai,iW ai⟩):P:=h
def att(h:P:=by exact⟨.inr j,⟨_,j,j,.of (fin W)⟩,[0,1],j,fU⟩):P:=h
def atu(h:P:=by exact m8 j fL fL):P:=h
def atv(h:P:=by rw[h]):P:=h
def atw(h:P:=by exact I 21<|cC (by show ag.s []=ag.s _;rw[<-Y];rfl)):P:=h
def atx(h:P:=by exact⟨lQ.1 this.1.1,lQ.1 this.1.2,lQ.1 this.2⟩):P:=h
def aty(h:P:=by exact⟨ad,a,w,D,a',.refl _ _,j,j,k,j,.refl _ _⟩):P:=h
def atz(h:P:=by exact⟨_,Maps.keyOf_int_mk Tryz.underlying3 aj⟩):P:=h
def atA(h:P:=by exact show¬((i2:Nat):Int)<=((q:Nat):Int) by omega):P:=h
def atB(h:P:=by exact p6 S (E aj H ids st _ F Z (D.ee (some d) j))):P:=h
def atC(h:P:=by rwa [<-e]):P:=h
def atD(h:P:=by rw[C];rfl):P:=h
def atE(h:P:=by exact⟨ak,W,aj,by rw[N,<-gw.uniq e7];exact a0⟩):P:=h
def atF(h:P:=by exact⟨[],c8 _,au,(λx O=>by cases O),.inl fe⟩):P:=h
def atG(h:P:=by exact show¬((t:Nat):Int)<=((J:Nat):Int) by omega):P:=h
def atH(h:P:=by exact lH M k x):P:=h
def atI(h:P:=by exact e2 h (ch (j0 ai aw) R)):P:=h
def atJ(h:P:=by exact .refl ad):P:=h
def atK(h:P:=by simpa using af):P:=h
def atL(h:P:=by simpa using aB):P:=h
def atM(h:P:=by show r-bm<bs+1;unfold bs;omega):P:=h
def atN(h:P:=by show mI x.bm=_;unfold mI;rw[o]):P:=h
def atO(h:P:=by show mI x.af=_;unfold mI;rw[F]):P:=h
def atP(h:P:=by exact⟨cJ,λi x O=>nz _ (hp x) (c2 i x O) []⟩):P:=h
def atQ(h:P:=by exact show((i2:Nat):Int)<=((q:Nat):Int) by omega):P:=h
def atS(h:P:=by rw[C]at V;exact(D.mono hle apu).get J q V):P:=h
def atT(h:P:=by have e:bw call (.sZ x bm af) o st=hX (o.ar x) (λs=>fs o af (dE s.data.toList) (dE s.data.toList) λh=>fs o bm 0 h λl=>hK s.data.toList l (h-l) (λb2=>.ok (.string ⟨⟨b2⟩⟩) o st) .no) .no:=rfl;rw[e,(D.ar O),y9];rw[e4,fN.ar N D cD,fN.ar T D hp,za apt]):P:=h
def atU(h:P:=by have:=Int.natAbs_add_le (x.num*y.den) (y.num*x.den);rw[sX,sX]at this;exact apE):P:=h
def atV(h:P:=by show left n []<bs+1;have Y:=z0 n [];have G:=X.len;exact ap3):P:=h
def atW(h:P:=by exact⟨b,U,c,ab,el,bY,aR,C,jt,h _ _ D,λi x O=>kF h (ah x) apu (A i x O)⟩):P:=h
def atX(h:P:=by exact bk (aC:=apq)):P:=h
def atY(h:P:=by exact⟨q1 hle apu A,λaa=>by rw[R.hold b aW au];exact F aa⟩):P:=h
def atZ(h:P:=by exact⟨q1 hle apu A,λa'=>by rw[R.hold b aW au];exact q a'⟩):P:=h
def at0(h:P:=by exact⟨q1 hle apu A,λj=>by rw[R.hold b aW au];exact T j⟩):P:=h
def at1(h:P:=by exact⟨q1 hle apu A,λh=>by rw[R.hold b aW au];exact T h⟩):P:=h
def at2(h:P:=by exact⟨ad,a,w,D,a',.refl _ _,j,j,.one (step_lone_go apv)⟩):P:=h
def at3(h:P:=by exact fU (aC:=apq)):P:=h
end
def av:=@if_neg
def aD:=@if_pos
def ch:=@Nat.le_trans
def cm:=@decide_eq_true
def cp:=@decide_eq_false
def c5:=@Nat.le_refl
def c8:=@Nat.zero_le
def da:=@List.mem_map
def dP:=@List.getElem?_eq_some_iff
def eY:=@Nat.mod_lt
def fb:=@Nat.add_mul
def fh:=@List.mem_cons
def fq:=@List.mem_cons_of_mem
def gf:=@Nat.lt_or_ge
def gA:=@List.mem_append
def gB:=@List.take_of_length_le
def gC:=@List.mem_singleton
def gP:=@Nat.mul_comm
def gQ:=@List.length_take
def g6:=@Nat.pow_succ
def hh:=@List.mem_of_getElem?
def hv:=@List.getElem_mem
def hF:=@Nat.zero_mul
def hI:=@List.length_map
def hQ:=@List.length_cons
def hR:=@List.take_succ_eq_append_getElem
def hS:=@Array.length_toList
def hT:=@List.mem_cons_self
def hU:=@Nat.zero_add
def ia:=@List.all_eq_true
def iA:=@Nat.pow_add
def iB:=@List.drop_zero
def iM:=@Nat.mul_add
def iX:=@List.length_drop
def iY:=@of_decide_eq_true
def iZ:=@Nat.mul_assoc
def jZ:=@List.map_cons
def j0:=@Nat.pow_le_pow_right
def kh:=@Nat.min_eq_left
def ki:=@Nat.div_le_self
def kT:=@Nat.beq_refl
def kU:=@Array.getElem_toList
def kV:=@Nat.not_lt_zero
def kW:=@Nat.le_succ
def kX:=@List.drop_eq_nil_of_le
def lk:=@List.pairwise_iff_getElem
def lN:=@Nat.mul_le_mul_right
def me:=@List.length_append
def mf:=@List.getElem_of_mem
def mg:=@List.getElem_set_self
def mQ:=@List.take_set_of_le
def mR:=@List.mem_of_mem_take
def mS:=@List.take_length
def mT:=@Nat.lt_of_le_of_lt
def mU:=@List.length_eq_one_iff
def nn:=@List.getElem?_take
def np:=@List.take_append_drop
def nq:=@List.getElem?_set_ne
def nY:=@List.ext_getElem?
def nZ:=@List.eq_nil_of_length_eq_zero
def n0:=@List.pairwise_cons
def n1:=@Int.natCast_mul
def n2:=@List.getElem?_drop
def n3:=@Option.map_eq_some_iff
def n4:=@Nat.two_pow_pos
def n5:=@List.mem_append_left
def n6:=@Nat.mul_ne_zero
def oP:=@Nat.mod_eq_of_lt
def oQ:=@List.getElem?_append_left
def oR:=@Nat.mul_one
def oS:=@List.pairwise_map
def oT:=@List.getElem?_set
def oU:=@List.nodup_nil
def oV:=@List.length_pos_iff
def pC:=@Bool.eq_iff_iff
def pD:=@Nat.add_zero
def pE:=@List.eq_nil_or_concat
def pF:=@Nat.le_of_lt
def qp:=@Bool.false_eq_true
def qq:=@List.map_map
def qs:=@Option.any_eq_true
def qt:=@List.length_replicate
def qu:=@Nat.pos_of_ne_zero
def qv:=@List.drop_drop
def qw:=@List.getElem?_append_right
def qx:=@Nat.div_add_mod
def qy:=@Nat.pow_mul
def qz:=@Nat.div_div_eq_div_mul
def qA:=@List.length_reverse
def rK:=@Nat.mul_le_mul_left
def rL:=@List.map_append
def rM:=@Nat.add_assoc
def rN:=@Option.bind_eq_some_iff
def rO:=@List.mem_filter
def rP:=@List.append_nil
def rQ:=@List.concat_eq_append
def rR:=@Nat.div_eq_of_lt
def rS:=@Int.mul_assoc
def rT:=@beq_eq_false_iff_ne
def sO:=@Nat.le_succ_of_le
def sP:=@List.getElem_map
def sQ:=@List.mem_flatMap
def sR:=@dif_pos
def sS:=@Nat.one_mul
def sT:=@List.length_set
def sU:=@List.drop_length
def sV:=@Nat.pow_pos
def sW:=@Int.sign_eq_one_of_pos
def sX:=@Int.natAbs_mul
def sY:=@List.append_assoc
def tZ:=@Array.getElem?_eq_some_iff
def ua:=@Nat.add_comm
def ub:=@List.flatMap_cons
def uc:=@List.nodup_cons
def ud:=@Nat.sub_le
def ue:=@List.getD_eq_getElem?_getD
def vK:=@List.getElem?_eq_getElem
def vL:=@Nat.eq_of_beq_eq_true
def vM:=@Nat.lt_of_lt_of_le
def vN:=@Array.getElem?_eq_getElem
def vO:=@UInt8.toNat_inj
def vP:=@Int.toNat_natCast
def vQ:=@List.all_cons
def vR:=@List.getElem_inj
def vS:=@List.mem_iff_getElem?
def vT:=@Nat.add_eq
def vU:=@Nat.mul_eq
def vV:=@List.map_eq_nil_iff
def vW:=@Nat.pow_lt_pow_iff_right
def vX:=@Nat.le_div_iff_mul_le
def vY:=@Nat.gcd_comm
def vZ:=@Int.sign_eq_zero_iff_zero
def v3:=@Nat.div_lt_of_lt_mul
def v5:=@Nat.pow_le_pow_left
def v7:=@Nat.le_of_not_lt
def v8:=@List.reverse_append
def x3:=@Bool.eq_false_iff
def x4:=@List.map_toArray
def x5:=@List.map_nil
def x6:=@Nat.lt_trichotomy
def x7:=@List.drop_of_length_le
def x8:=@List.getElem?_map
def x9:=@List.take_take
def ya:=@Nat.lt_succ_of_lt
def yb:=@Nat.lt_succ_self
def yc:=@List.getElem?_eq_none
def yd:=@Nat.add_mul_div_left
def ye:=@Nat.mul_le_mul
def yf:=@Nat.div_lt_iff_lt_mul
def yg:=@List.mem_of_mem_drop
def yh:=@Nat.mul_zero
def yi:=@Nat.mul_pos
def yj:=@Nat.div_one
def yk:=@Int.sign_eq_neg_one_of_neg
def yl:=@List.all_append
def ym:=@Bool.and_false
def Am:=@List.drop_eq_getElem_cons
def An:=@List.drop_set_of_lt
def Ao:=@Option.isSome_iff_exists
def Ap:=@List.getElem?_toArray
def Aq:=@List.getElem?_cons_zero
def Ar:=@List.mem_of_find?_eq_some
def As:=@List.find?_some
def At:=@List.filter_eq_self
def Au:=@List.ext_getElem
def Av:=@Bool.or_eq_true
def Aw:=@eq_of_beq
def Ax:=@List.drop_take
def Ay:=@List.nodup_append
def Az:=@List.length_nil
def AA:=@List.getElem?_set_self
def AB:=@Nat.div_lt_self
def AD:=@Nat.mod_add_div
def AE:=@List.getElem?_replicate
def AF:=@Nat.lt_of_mul_lt_mul_right
def AG:=@Nat.eq_zero_or_pos
def AH:=@Nat.div_pos
def AI:=@Nat.gcd_dvd_left
def AJ:=@Int.sign_mul_natAbs
def AK:=@Rat.add_def'
def AL:=@Int.neg_mul
def AM:=@List.mem_reverse
def AN:=@Rat.add_zero
def Dq:=@Bool.and_eq_true
def Dr:=@Nat.ble_eq_true_of_le
def Ds:=@Array.getElem?_push
def Dt:=@Nat.succ_mul
def Du:=@List.getElem?_cons_succ
def Dv:=@Bool.not_false
def Dw:=@List.range_succ_eq_map
def Dx:=@List.pairwise_append
def Dy:=@List.filter_cons
def Dz:=@Bool.or_eq_false_iff
def DA:=@List.perm_ext_iff_of_nodup
def DB:=@BitVec.ofInt_natCast
def DC:=@BitVec.toNat_ofNat
def DD:=@List.drop_left'
def DE:=@List.take_zero
def DF:=@Nat.not_lt
def DG:=@List.filter_sublist
def DH:=@List.exists_mem_of_ne_nil
def DI:=@Nat.add_mul_mod_self_left
def DJ:=@Nat.mod_one
def DK:=@List.drop_set
def DL:=@Nat.add_le_add_right
def DM:=@Nat.pow_zero
def DN:=@Nat.mul_div_cancel_left
def DO:=@Nat.gcd_one_right
def DP:=@Rat.neg_num
def DQ:=@Rat.sub_eq_add_neg
def DR:=@List.take_append_of_le_length
def DS:=@Int.not_lt
def DT:=@List.dropWhile_cons
def DU:=@List.all_eq_false
def DV:=@Bool.and_true
def DW:=@Bool.not_eq_true
def DX:=@Bool.or_true
def Ik:=@Nat.mod_two_eq_zero_or_one
def Il:=@Array.ext_getElem?
def Im:=@Array.getElem?_setIfInBounds_ne
def Io:=@List.map_congr_left
def Ip:=@List.getElem_take
def Iq:=@List.getElem_append_right
def Ir:=@List.find?_cons
def Is:=@List.countP_cons
def It:=@Nat.le_add_right
def Iu:=@Int.eq_ofNat_of_zero_le
def Iv:=@List.take_left'
def Iw:=@UInt8.ofNat_toNat
def Ix:=@List.mem_append_right
def Iy:=@List.map_drop
def Iz:=@List.any_eq_false
def IA:=@List.pairwise_singleton
def IB:=@List.take_succ_cons
def IC:=@Nat.div_mul_le_self
def ID:=@Nat.mul_lt_mul''
def IE:=@Nat.gcd_pos_of_pos_left
def IF:=@List.length_eq_zero_iff
def IG:=@Nat.gcd_le_right
def IH:=@List.isEmpty_eq_false_iff
def II:=@Int.natAbs_neg
def IJ:=@Rat.num_eq_zero
def IK:=@Nat.gcd_zero_left
def IL:=@Rat.add_assoc
def IM:=@List.not_mem_nil
def IN:=@Rat.num_nonneg
def IP:=@Nat.shiftLeft_eq
def Ol:=@Array.mapM_eq_mapM_toList
def Om:=@Nat.le_mul_of_pos_right
def On:=@Nat.two_pow_add_eq_or_of_lt
def Oo:=@Nat.mul_lt_mul_of_pos_right
def Oq:=@List.reverse_eq_nil_iff
def Ot:=@Nat.gcd_pos_of_pos_right
def Ou:=@Nat.add_sub_cancel_left
def Ov:=@Array.toList_setIfInBounds
abbrev ac(α:Type u):=List α
abbrev be(α:Type u):=Option α
abbrev bi(α:Type u):=Array α
abbrev bv:=Value
abbrev ce:=Operand
abbrev ci:=UInt8
abbrev co:=TypeId
abbrev d7:=FuncId
abbrev f5:=World
abbrev f6:=IntKind
abbrev f7:=MapEntry
abbrev f8:=Program
abbrev f9:=ByteArray
abbrev gc:=TypeInfo
variable{n m:Nat}{α:Type u}{i:Nat}{l:ac α}
def aO(h:i<l.length):l[i]? =some l[i]:=vK h
def c1(a b:Bool):((a&&b)=true)=(a=true/\b=true):=Dq a b
def dB(h:Nat.beq n m=true):n=m:=vL h
def e2{k:Nat}(h:n<m)(g:m<=k):n<k:=vM h g
def hV(k:Nat)(h:m<=n):m*k<=n*k:=lN k h
def mh(k:Nat)(h:m<=n):k*m<=k*n:=rK k h
def gR{a b:Nat}(h:a<b):a%b=a:=oP h
def cf(n:Nat):n<=n:=c5 n
def fj(h:i<l.length):l.drop i=l[i]::l.drop (i+1):=Am h
def dH(h:n<l.length):l[n]∈l:=hv h
def ib(h:Nat.ble n m=true):n<=m:=Nat.le_of_ble_eq_true h
inductive ao(α:Type)where
 |nil:ao α
 |node (l:ao α) (v:Option α) (r:ao α):ao α
namespace ao
variable{α β:Type}
def get(t:ao α):Nat->be α:=
 ao.rec (motive:=λ_=>Nat->be α) (λ_=>none)
  (λ_ v _ eI aR n=>Nat.rec (motive:=λ_=>be α) v (λm _=>Nat.rec (motive:=λ_=>be α) (eI<|Nat.div m 2) (λ_ _=>aR<|Nat.div m 2)<|Nat.mod m 2) n) t
def iN(f:Nat):ao α->Nat->α->(ao α->β)->β:=
 Nat.rec (motive:=λ_=>ao α->Nat->α->(ao α->β)->β) (λt _ _ k=>k t)
  (λ_ I t n x k=>
   ao.rec (motive:=λ_=>β)
    (Nat.rec (motive:=λ_=>β) (k<|.node .nil (some x) .nil)
     (λm _=>Nat.rec (motive:=λ_=>β) (I .nil (Nat.div m 2) x λT=>k<|.node T none .nil) (λ_ _=>I .nil (Nat.div m 2) x λO=>k<|.node .nil none O)<|Nat.mod m 2) n)
    (λl v r _ _=>
     Nat.rec (motive:=λ_=>β) (k<|.node l (some x) r)
      (λm _=>Nat.rec (motive:=λ_=>β) (I l (Nat.div m 2) x λT=>k<|.node T v r) (λ_ _=>I r (Nat.div m 2) x λO=>k<|.node l v O)<|Nat.mod m 2) n) t) f
def set(t:ao α)(n:Nat)(x:α):ao α:=iN (Nat.succ n) t n x id
def Ow(v:be α)(r:ao α)(l:ao α):ao α:=
 ao.rec (motive:=λ_=>ao α) (.node .nil v r) (λa b c _ _=>.node (.node a b c) v r) l
def Ox(l:ao α)(v:be α)(r:ao α):ao α:=
 ao.rec (motive:=λ_=>ao α) (.node l v .nil) (λa b c _ _=>.node l v<|.node a b c) r
def DY(I:ao α->Nat->α->ao α)(l:ao α)(v:be α)(r:ao α)(m:Nat)(x:α):ao α:=
 Nat.rec (motive:=λ_=>ao α) (Ow v r<|I l (Nat.div m 2) x) (λ_ _=>Ox l v<|I r (Nat.div m 2) x)<|Nat.mod m 2
def DZ(I:ao α->Nat->α->ao α)(l:ao α)(v:be α)(r:ao α)(n:Nat)(x:α):ao α:=
 Nat.rec (motive:=λ_=>ao α) (.node l (some x) r) (λm _=>DY I l v r m x) n
def aaN(I:ao α->Nat->α->ao α)(t:ao α)(n:Nat)(x:α):ao α:=
 ao.rec (motive:=λ_=>ao α) (DZ I .nil none .nil n x) (λl v r _ _=>DZ I l v r n x) t
def ky(f:Nat):ao α->Nat->α->ao α:=
 Nat.rec (motive:=λ_=>ao α->Nat->α->ao α) (λt _ _=>t) (λ_ I=>aaN I) f
def fin(t:ao α)(k:ao α->β):β:=
 ao.rec (motive:=λ_=>β) (k .nil) (λa b c _ _=>k<|.node a b c) t
end ao
inductive qB where
 |yn
 |mi
 |IQ
 |D0
 |D1
 |ptr
 |agg (a7:List (Nat×Nat×Bool×qB))
inductive fH where
 |int (k:IntKind)
 |str
 |arr (k:IntKind) (n:Nat)
inductive uf where
 |look (ct:fH) (zero:Value) (ok:Bool) (m k:Operand)
 |e3 (ct:fH) (m k v:Operand)
 |del (ct:fH) (m k:Operand)
 |v9 (m:Operand)
 |ug (m:Operand)
 |wa (it:Operand)
 |aT (s c:Operand)
 |uh (neg:Bool) (n:Nat) (x y:Operand)
 |n7 (it:Operand)
 |yo (gt:Bool) (x y:Operand)
 |idxs (g:Nat) (s b:Operand)
 |D2 (x:Operand)
 |D3 (it:Operand)
 |D4 (e:TypeId) (n:Operand)
 |IS (x:Operand)
inductive dh where
 |jF (x:Operand)
 |pick (c a b:Operand)
 |alloc (z:List Value) (elem:TypeId)
 |box (elem:TypeId) (x:Operand)
 |build (z:List Value) (a7:List (Nat×Nat×Operand))
 |qC (elem:TypeId) (len:Nat) (z:List Value) (a7:List (Nat×Nat×Operand))
 |iv (a:Operand)
 |mV (n:Nat) (a:Operand)
 |store (n:Nat) (a x:Operand)
 |ui (x:Operand)
 |Oy (name:String) (yp:List (Nat×FuncId)) (x:Operand)
 |bin (op:BinOp) (x y:Operand)
 |eqv (neg:Bool) (e:qB) (x y:Operand)
 |un (op:UnOp) (x:Operand)
 |uj (k:IntKind) (x:Operand)
 |yq (x:Operand)
 |AO (x:Operand)
 |wb (elem:TypeId) (x:Operand)
 |D5 (t:TypeId) (x:Operand)
 |rU (fn:Fn) (first apd:List Operand)
 |pG
 |pH (elem:TypeId) (bytes:Nat) (z:List Value) (len cap:Operand)
 |sZ (x:Operand) (bm af:Option Operand)
 |wc (n bW:Nat) (x:Operand) (bm af g7:Option Operand)
 |n8 (bW:Nat) (x:Operand) (bm af g7:Option Operand)
 |qD (off:Nat) (x:Operand)
 |pI (off bW:Nat) (agg:Bool) (x:Operand)
 |rV (n bW:Nat) (x i:Operand)
 |iC (bW:Nat) (x i:Operand)
 |uk (x i:Operand)
 |IT (n bW:Nat) (agg:Bool) (x i:Operand)
 |D6 (t:TypeId) (zero:Value) (ok:Bool) (x:Operand)
 |rW (x:Operand) (i:Nat)
 |call (f:Operand) (args:List Operand)
 |inv (yp:List (Nat×FuncId)) (x:Operand) (args:List Operand)
 |we (x:Operand)
 |wg (x:Operand)
 |AP (n:Nat)
 |yr (x:Operand)
 |app (elem:TypeId) (bW bytes:Nat) (s x:Operand)
 |g7 (x:Operand) (xs:List Operand)
 |AQ (x:Operand) (xs:List Operand)
 |s0 (bW:Nat) (d s:Operand)
 |um
 |pJ (f:Operand) (args:List Operand)
 |n9 (x:Operand)
 |D7 (x:Operand)
 |D8 (elem n:Nat) (x:Operand)
 |D9 (x:Operand)
 |uo (elem:TypeId) (x n:Operand)
 |lO (s c:Operand)
 |ll (x:Operand)
 |ext (y:uf)
 |refuse
structure bj where
 d:be Tmp
 U:dh
 g:be (Tmp×Bool)
inductive cn where
 |dI
 |hx (aA:List Tmp)
 |read (back:Nat) (aA:List Tmp)
inductive du where
 |skip
 |gg (ops:List bj)
 |qE (ops:List (bj×cn)) (cz:List Nat) (fc:List Tmp) (ms:List Nat)
 |seq (a b:du)
 |cond (c:Operand) (a b:du)
 |block (id:Nat) (b:du)
 |loop (b:du)
 |uq (f:Operand) (params:List Tmp) (assign body:du)
 |exit (id:Nat)
 |scope (b:du)
 |ret
 |refuse
inductive c6 where
 |norm
 |exit (id:Nat)
 |ret
 |aV (v:Value)
inductive gS where
 |tmp (t:Tmp)
 |cell (a:Tmp) (agg:Bool) (n:Nat)
structure cX where
 aN:Nat
 res:ac gS
 body:du
inductive bx where
 |cells (cs:List Value) (elem:TypeId) (bY:Nat×Nat) (aR:Bool)
 |map (es:List MapEntry) (clock:Nat)
 |IU (s:ByteArray) (pos:Nat)
 |nr (m:Option Nat) (since:Nat) (seen:List Nat) (ape:Nat)
 |loop (st:LoopState) (pending:Option c6) (fn:FuncId) (tmps:ao Value) (params:List Tmp) (assign body:du) (defers:Nat)
 |j1 (calls:Option (List Deferred))
 |dead
structure ak where
 h:ao bx
 ae:Nat
structure aK where
 t:ao bv
 dd:ac Deferred
 aV:be bv
 cQ:Bool
 b4:be Nat
def aK.tmp(o:aK)(n:Nat):bv:=
 Option.rec (motive:=λ_=>bv) (.chan<|some 0) (λv=>v)<|o.t.get n
def aK.ar(o:aK)(x:ce):bv:=
 Operand.rec (motive:=λ_=>bv) (λt=>o.tmp t) (λv=>v) (λg=>.pointer<|some ⟨g,0,none⟩) (λf=>.func (.func f) #[] #[]) x
def aK.Oz(t:ao bv)(dd:ac Deferred)(aV:be bv)(cQ:Bool)(b4:be Nat):aK:=
 ao.rec (motive:=λ_=>aK) ⟨.nil,dd,aV,cQ,b4⟩ (λa b c _ _=>⟨.node a b c,dd,aV,cQ,b4⟩) t
def aK.DZ(d:Nat)(v:bv)(o:aK):aK:=
 aK.rec (motive:=λ_=>aK) (λt dd aV cQ b4=>aK.Oz (ao.ky (Nat.succ d) t d v) dd aV cQ b4) o
def aK.put(o:aK)(d:be Tmp)(v:bv):aK:=
 Option.rec (motive:=λ_=>aK) o (λd=>aK.DZ d v o) d
inductive a2 where
 |ok (v:Value) (o:aK) (st:ak)
 |aV (v:Value) (st:ak)
 |no
inductive dY where
 |ret (v:Value) (st:ak) (aaO:Bool)
 |aV (v:Value) (st:ak) (aaO:Bool)
 |no
section lists
variable{α β:Type}
def Ea(n:Nat):ac α->be (ac α):=
 Nat.rec (motive:=λ_=>ac α->be (ac α)) (λ_=>some [])
  (λ_ I l=>List.rec (motive:=λ_=>be<|ac α) none
   (λx xs _=>Option.rec (motive:=λ_=>be<|ac α) none (λr=>some<|x::r)<|I xs) l) n
def Eb(n:Nat):ac α->ac α:=
 Nat.rec (motive:=λ_=>ac α->ac α) (λl=>l)
  (λ_ I l=>List.rec (motive:=λ_=>ac α) [] (λ_ xs _=>I xs) l) n
def pK(l:ac α):Nat->ac α->(ac α->β)->β->β:=
 List.rec (motive:=λ_=>Nat->ac α->(ac α->β)->β->β) (λ_ V k z=>List.rec (motive:=λ_=>β) (k []) (λ_ _ _=>z) V)
  (λy aP I n V k z=>
   Nat.rec (motive:=λ_=>β)
    (List.rec (motive:=λ_=>β) (k<|y::aP) (λv V _=>I 0 V (λT=>k<|v::T) z) V)
    (λm _=>I m V (λT=>k<|y::T) z) n) l
end lists
variable{β:Type}
def fW(n:Nat)(k:Nat->β):β:=cond (Nat.beq n n) (k n)<|k n
def OA(n:Int)(k:Int->β):β:=
 Int.rec (motive:=λ_=>β) (λm=>fW m λm=>k<|.ofNat m) (λm=>fW m λm=>k<|.negSucc m) n
def ak.iD(st:ak)(U:bx)(k:Nat->ak->β):β:=
 fW st.ae λn=>ao.fin (ao.ky (Nat.succ n) st.h n U) λh=>k n ⟨h,Nat.succ n⟩
def hW(v:bv):ac bv:=v.cells.toList
def s3:bv->Bool
 |.chan (some _)=>true
 |_=>false
def ns:bv->Bool
 |.agg _|.tuple _|.chan (some _)=>false
 |_=>true
def hi(ab:ac bv):Bool:=List.rec (motive:=λ_=>Bool) true (λv _ r=>cond (ns v) r false) ab
mutual
def dC:bv->bv->Bool
 |.bool a,.bool b=>a==b
 |.int k a,.int L b=>decide (k=L)&&a==b
 |.float k a,.float L b=>decide (k=L)&&a==b
 |.complex k a c,.complex L b d=>decide (k=L)&&a==b&&c==d
 |.string a,.string b=>a.data.toList==b.data.toList
 |.pointer a,.pointer b=>a==b
 |.slice a l c,.slice b bo E=>a==b&&l==bo&&c==E
 |.map a,.map b=>a==b
 |.chan a,.chan b=>a==b
 |.func f x y,.func g u v=>decide (f=g)&&ur x u&&ur y v
 |.nilFunc,.nilFunc=>true
 |.iface t v,.iface u w=>t==u&&dC v w
 |.nilIface,.nilIface=>true
 |.agg a,.agg b=>ur a b
 |.tuple a,.tuple b=>ur a b
 |_,_=>false
def ur:bi bv->bi bv->Bool
 |⟨a⟩,⟨b⟩=>oW a b
def oW:ac bv->ac bv->Bool
 |[],[]=>true
 |a::as,b::b2=>dC a b&&oW as b2
 |_,_=>false
end
mutual
theorem oX:∀v:bv,dC v v=true
 |.bool a=>by simp[dC]
 |.int k a=>by simp[dC]
 |.float k a=>by simp[dC]
 |.complex k a c=>by simp[dC]
 |.string a=>by simp[dC]
 |.pointer a=>by simp[dC]
 |.slice a l c=>by simp[dC]
 |.map a=>by simp[dC]
 |.chan a=>by simp[dC]
 |.func f x y=>by simp[dC,Ec x,Ec y]
 |.nilFunc=>by simp[dC]
 |.iface t v=>by simp[dC,oX v]
 |.nilIface=>by simp[dC]
 |.agg a=>by simp[dC,Ec a]
 |.tuple a=>by simp[dC,Ec a]
theorem Ec:∀v:bi bv,ur v v=true
 |⟨a⟩=>by simp[ur,OB a]
theorem OB:∀v:ac bv,oW v v=true
 |[]=>by simp[oW]
 |a::as=>by simp[oW,oX a,OB as]
end
mutual
theorem j2:∀v w:bv,dC v w=true->v=w
 |.bool a,w,h=>by cases w<;>simp_all [dC]
 |.int k a,w,h=>by cases w<;>simp_all [dC]
 |.float k a,w,h=>by cases w<;>simp_all [dC]
 |.complex k a c,w,h=>by cases w<;>simp_all [dC]
 |.string a,w,h=>by
  cases w<;>simp_all [dC];rename_i b;cases a;simp_all
 |.pointer a,w,h=>by cases w<;>simp_all [dC]
 |.slice a l c,w,h=>by cases w<;>simp_all [dC]
 |.map a,w,h=>by cases w<;>simp_all [dC]
 |.chan a,w,h=>by cases w<;>simp_all [dC]
 |.func f x y,w,h=>by
  cases w<;>simp[dC]at h;rename_i g u v;simp[h.1.1,Ed x u h.1.2,Ed y v h.2]
 |.nilFunc,w,h=>by cases w<;>simp_all [dC]
 |.iface t v,w,h=>by
  cases w<;>simp[dC]at h;rename_i u x;simp[h.1,j2 v x h.2]
 |.nilIface,w,h=>by cases w<;>simp_all [dC]
 |.agg a,w,h=>by
  cases w<;>simp[dC]at h;rename_i b;simp[Ed a b h]
 |.tuple a,w,h=>by
  cases w<;>simp[dC]at h;rename_i b;simp[Ed a b h]
theorem Ed:∀v w:bi bv,ur v w=true->v=w
 |⟨a⟩,⟨b⟩,h=>by simp[ur]at h;simp[AR a b h]
theorem AR:∀v w:ac bv,oW v w=true->v=w
 |[],[],_=>rfl
 |a::as,b::b2,h=>by simp[oW]at h;simp[j2 a b h.1,AR as b2 h.2]
 |[],_::_,h=>by simp[oW]at h
 |_::_,[],h=>by simp[oW]at h
end
end Go.bC
namespace Go.bC
def uu(n:Int)(S:Nat):Nat:=
 Int.rec (motive:=λ_=>Nat) (λm=>Nat.mod m S) (λm=>Nat.sub (Nat.sub S 1)<|Nat.mod m S) n
def ys(S:Nat)(n:Int):Int:=.ofNat<|uu n S
def wh(S H:Nat)(n:Int):Int:=
 fW (uu n S) λr=>cond (Nat.ble (Nat.succ r) H) (.ofNat r)<|.negSucc<|Nat.sub (Nat.sub S 1) r
def oa(k:f6)(n:Int):Int:=
 IntKind.rec (motive:=λ_=>Int->Int) (wh 256 128) (wh 65536 32768) (wh 4294967296 2147483648) (wh 18446744073709551616 9223372036854775808)
  (ys 256) (ys 65536) (ys 4294967296) (ys 18446744073709551616) k n
def OC(n:Int)(S:Nat)(h:0<S):(uu n S:Int)=n%S:=by
 cases n with
 |ofNat m=>rfl
 |negSucc m=>
  show((S-1-m%S:Nat):Int)=_;rw[Int.negSucc_emod _ R];have:m%S<S:=eY _ h;omega
def rX(S:Nat)(n:Int)(h:0<S):ys S n=n%S:=OC n S h
theorem yt(S H:Nat)(n:Int)(h:0<S):wh S H n=if n%S>=H then n%S-S else n%S:=by
 have e:=OC n S h;have aW:uu n S<S:=by have:=Int.emod_lt_of_pos n (show(0:Int)<S by omega);omega
 unfold wh fW;rw[kT];rw[<-e];simp only[cond];by_cases c:uu n S<H
 .rw[Dr c];rw[av R];rfl
 .have:Nat.ble (Nat.succ<|uu n S) H=false:=by
   rw[x3];intro V;exact c<|ib V
  grind
def ln(k:f6)(n:Int):oa k n=k.wrap n:=by
 cases k
 all_goals simp[oa,IntKind.wrap,IntKind.bits,IntKind.signed]
 .rw[yt 256 128 n ai];simp
 .rw[yt 65536 32768 n ai];simp
 .rw[yt 4294967296 2147483648 n ai];simp
 .rw[yt 18446744073709551616 9223372036854775808 n ai];simp
 .rw[rX 256 n ai];rfl
 .rw[rX 65536 n ai];rfl
 .rw[rX 4294967296 n ai];rfl
 .rw[rX 18446744073709551616 n ai];rfl
def wi(m n:Nat):Int:=cond (Nat.ble n m) (.ofNat<|Nat.sub m n)<|.negSucc<|Nat.sub (Nat.sub n m) 1
theorem AS(m n:Nat):wi m n=(m:Int)-n:=by
 unfold wi;by_cases h:n<=m
 .rw[Dr h];show((m-n:Nat):Int)=_;omega
 .have:Nat.ble n m=false:=by rw[x3];intro V;exact h<|ib V
  grind
def AT(a b:Int):Int:=
 Int.rec (motive:=λ_=>Int)
  (λm=>Int.rec (motive:=λ_=>Int) (λn=>.ofNat<|Nat.add m n) (λn=>wi m<|Nat.succ n) b)
  (λm=>Int.rec (motive:=λ_=>Int) (λn=>wi n<|Nat.succ m) (λn=>.negSucc<|Nat.succ<|Nat.add m n) b) a
def OD(a b:Int):AT a b=a+b:=by
 cases a with
 |ofNat m=>
  cases b with
  |ofNat n=>rfl
  |negSucc n=>simp[AT,AS];show m-((n+1:Nat):Int)=m+Int.negSucc n;omega
 |negSucc m=>
  cases b with
  |ofNat n=>simp[AT,AS];show n-((m+1:Nat):Int)=Int.negSucc m+n;omega
  |negSucc n=>rfl
def Ee(a:Int):Int:=
 Int.rec (motive:=λ_=>Int) (λm=>wi 0 m) (λm=>.ofNat<|Nat.succ m) a
def IV(a:Int):Ee a= -a:=by
 cases a with
 |ofNat m=>simp only[Ee,AS];show(0:Int)-m= -m;omega
 |negSucc m=>rfl
def yu(a b:Int):Int:=
 Int.rec (motive:=λ_=>Int)
  (λm=>Int.rec (motive:=λ_=>Int) (λn=>.ofNat<|Nat.mul m n) (λn=>wi 0<|Nat.mul m<|Nat.succ n) b)
  (λm=>Int.rec (motive:=λ_=>Int) (λn=>wi 0<|Nat.mul (Nat.succ m) n) (λn=>.ofNat<|Nat.mul (Nat.succ m)<|Nat.succ n) b) a
theorem IW(a b:Int):yu a b=a*b:=by
 cases a with
 |ofNat m=>
  cases b with
  |ofNat n=>rfl
  |negSucc n=>
   simp[yu,AS]
   grind
 |negSucc m=>
  cases b with
  |ofNat n=>
   simp[yu,AS]
   grind
  |negSucc n=>
   simp[yu]
   grind
def mj(a b:Int):Bool:=
 Int.rec (motive:=λ_=>Bool)
  (λm=>Int.rec (motive:=λ_=>Bool) (λn=>Nat.ble m n) (λ_=>false) b)
  (λm=>Int.rec (motive:=λ_=>Bool) (λ_=>true) (λn=>Nat.ble n m) b) a
def pL(a b:Int):mj a b=decide (a<=b):=by
 cases a with
 |ofNat m=>
  cases b with
  |ofNat n=>simp[mj];rw[pC];simp
  |negSucc n=>simp only[mj];simp;omega
 |negSucc m=>
  cases b with
  |ofNat n=>simp only[mj];simp;omega
  |negSucc n=>simp[mj];rw[pC];simp;omega
def rY(a b:Int):Bool:=
 Int.rec (motive:=λ_=>Bool)
  (λm=>Int.rec (motive:=λ_=>Bool) (λn=>Nat.beq m n) (λ_=>false) b)
  (λm=>Int.rec (motive:=λ_=>Bool) (λ_=>false) (λn=>Nat.beq n m) b) a
def AU(a b:Int):rY a b=(a==b):=by
 cases a with
 |ofNat m=>
  cases b with
  |ofNat n=>simp[rY];rw[pC];simp;omega
  |negSucc n=>simp only[rY];simp
 |negSucc m=>
  cases b with
  |ofNat n=>simp only[rY];simp
  |negSucc n=>simp[rY];rw[pC];simp;omega
section
variable{β:Type}
def kj(v:bv)(k:Bool->β)(z:β):β:=
 @Value.rec (λ_=>β) (λ_=>Unit) (λ_=>Unit) (λV=>k V) (λ_ _=>z) (λ_ _=>z) (λ_ _ _=>z) (λ_=>z) (λ_=>z) (λ_ _ _=>z) (λ_=>z) (λ_=>z) (λ_ _ _ _ _=>z) z (λ_ _ _=>z) z (λ_ _=>z) (λ_ _=>z) (λ_ _=>()) () (λ_ _ _ _=>()) v
def fX(v:bv)(k:f6->Int->β)(z:β):β:=
 @Value.rec (λ_=>β) (λ_=>Unit) (λ_=>Unit) (λ_=>z) (λV S=>k V S) (λ_ _=>z) (λ_ _ _=>z) (λ_=>z) (λ_=>z) (λ_ _ _=>z) (λ_=>z) (λ_=>z) (λ_ _ _ _ _=>z) z (λ_ _ _=>z) z (λ_ _=>z) (λ_ _=>z) (λ_ _=>()) () (λ_ _ _ _=>()) v
def hX(v:bv)(k:f9->β)(z:β):β:=
 @Value.rec (λ_=>β) (λ_=>Unit) (λ_=>Unit) (λ_=>z) (λ_ _=>z) (λ_ _=>z) (λ_ _ _=>z) (λV=>k V) (λ_=>z) (λ_ _ _=>z) (λ_=>z) (λ_=>z) (λ_ _ _ _ _=>z) z (λ_ _ _=>z) z (λ_ _=>z) (λ_ _=>z) (λ_ _=>()) () (λ_ _ _ _=>()) v
def hG(v:bv)(k:be Addr->β)(z:β):β:=
 @Value.rec (λ_=>β) (λ_=>Unit) (λ_=>Unit) (λ_=>z) (λ_ _=>z) (λ_ _=>z) (λ_ _ _=>z) (λ_=>z) (λV=>k V) (λ_ _ _=>z) (λ_=>z) (λ_=>z) (λ_ _ _ _ _=>z) z (λ_ _ _=>z) z (λ_ _=>z) (λ_ _=>z) (λ_ _=>()) () (λ_ _ _ _=>()) v
def hY(v:bv)(k:be Addr->Nat->Nat->β)(z:β):β:=
 @Value.rec (λ_=>β) (λ_=>Unit) (λ_=>Unit) (λ_=>z) (λ_ _=>z) (λ_ _=>z) (λ_ _ _=>z) (λ_=>z) (λ_=>z) (λV S h=>k V S h) (λ_=>z) (λ_=>z) (λ_ _ _ _ _=>z) z (λ_ _ _=>z) z (λ_ _=>z) (λ_ _=>z) (λ_ _=>()) () (λ_ _ _ _=>()) v
def yv(v:bv)(k:Fn->bi bv->bi bv->β)(z:β):β:=
 @Value.rec (λ_=>β) (λ_=>Unit) (λ_=>Unit) (λ_=>z) (λ_ _=>z) (λ_ _=>z) (λ_ _ _=>z) (λ_=>z) (λ_=>z) (λ_ _ _=>z) (λ_=>z) (λ_=>z) (λV S h _ _=>k V S h) z (λ_ _ _=>z) z (λ_ _=>z) (λ_ _=>z) (λ_ _=>()) () (λ_ _ _ _=>()) v
def yw(v:bv)(k:co->bv->β)(z:β):β:=
 @Value.rec (λ_=>β) (λ_=>Unit) (λ_=>Unit) (λ_=>z) (λ_ _=>z) (λ_ _=>z) (λ_ _ _=>z) (λ_=>z) (λ_=>z) (λ_ _ _=>z) (λ_=>z) (λ_=>z) (λ_ _ _ _ _=>z) z (λV S _=>k V S) z (λ_ _=>z) (λ_ _=>z) (λ_ _=>()) () (λ_ _ _ _=>()) v
def rZ(v:bv)(k:bi bv->β)(z:β):β:=
 @Value.rec (λ_=>β) (λ_=>Unit) (λ_=>Unit) (λ_=>z) (λ_ _=>z) (λ_ _=>z) (λ_ _ _=>z) (λ_=>z) (λ_=>z) (λ_ _ _=>z) (λ_=>z) (λ_=>z) (λ_ _ _ _ _=>z) z (λ_ _ _=>z) z (λV _=>k V) (λ_ _=>z) (λ_ _=>()) () (λ_ _ _ _=>()) v
def qF(v:bv)(k:bi bv->β)(z:β):β:=
 @Value.rec (λ_=>β) (λ_=>Unit) (λ_=>Unit) (λ_=>z) (λ_ _=>z) (λ_ _=>z) (λ_ _ _=>z) (λ_=>z) (λ_=>z) (λ_ _ _=>z) (λ_=>z) (λ_=>z) (λ_ _ _ _ _=>z) z (λ_ _ _=>z) z (λ_ _=>z) (λV _=>k V) (λ_ _=>()) () (λ_ _ _ _=>()) v
def oY(v:bv)(k:be Nat->β)(z:β):β:=
 @Value.rec (λ_=>β) (λ_=>Unit) (λ_=>Unit) (λ_=>z) (λ_ _=>z) (λ_ _=>z) (λ_ _ _=>z) (λ_=>z) (λ_=>z) (λ_ _ _=>z) (λV=>k V) (λ_=>z) (λ_ _ _ _ _=>z) z (λ_ _ _=>z) z (λ_ _=>z) (λ_ _=>z) (λ_ _=>()) () (λ_ _ _ _=>()) v
end
def r0{β:Type}(v:bv)(a z:β):β:=match v with|.chan none=>a|_=>z
def jG:bv:=.chan<|some 0
abbrev bN:=bv->ac bv->be bv->ak->dY
section elim
variable{α β:Type}
def bq(U:be α)(k:α->β)(z:β):β:=Option.rec (motive:=λ_=>β) z k U
def ev(a b:Nat)(x y:β):β:=cond (Nat.ble a b) x y
def dL(a b:Nat)(x y:β):β:=cond (Nat.beq a b) x y
def hJ(n:Int)(k:Nat->β)(z:β):β:=Int.rec (motive:=λ_=>β) k (λ_=>z) n
def dE(l:ac α):Nat:=List.rec (motive:=λ_=>Nat) 0 (λ_ _ n=>Nat.succ n) l
def fr(l m:ac α):ac α:=List.rec (motive:=λ_=>ac α) m (λx _ r=>x::r) l
def hK(l:ac α)(N n:Nat)(k:ac α->β)(z:β):β:=bq (Ea n<|Eb N l) k z
def one(l:ac α)(k:α->β)(z:β):β:=
 List.rec (motive:=λ_=>β) z (λx xs _=>List.rec (motive:=λ_=>β) (k x) (λ_ _ _=>z) xs) l
end elim
variable{β:Type}
def iE(k:f6)(n:Int)(c:bv->β):β:=OA n λm=>c<|.int k m
def j3(a b:f6):Bool:=Nat.beq a.ctorIdx b.ctorIdx
def Ef(f:Nat->Nat->Nat)(g:Int)(k:f6)(a b:Int)(c:bv->a2):a2:=
 hJ a (λm=>hJ b (λn=>iE k (oa k<|.ofNat<|f (uu (.ofNat m)<|2^k.bits)<|uu (.ofNat n)<|2^k.bits) c)<|iE k g c)<|iE k g c
def OE(k:f6)(a b:Int)(c:bv->a2):a2:=iE k (oa k<|AT a b) c
def OF(k:f6)(a b:Int)(c:bv->a2):a2:=iE k (oa k<|AT a<|Ee b) c
def OG(k:f6)(a b:Int)(c:bv->a2):a2:=iE k (oa k<|yu a b) c
def OH(k:f6)(a b:Int)(c:bv->a2):a2:=cond (rY b 0) .no<|hJ a (λm=>hJ b (λn=>iE k (oa k<|.ofNat<|Nat.div m n) c)<|iE k (k.wrap<|a.tdiv b) c)<|iE k (k.wrap<|a.tdiv b) c
def OI(k:f6)(a b:Int)(c:bv->a2):a2:=cond (rY b 0) .no<|hJ a (λm=>hJ b (λn=>iE k (.ofNat<|Nat.mod m n) c)<|iE k (a.tmod b) c)<|iE k (a.tmod b) c
def aaP(k:f6)(a b:Int)(c:bv->a2):a2:=Ef Nat.land (k.wrap (BitVec.ofInt k.bits a&&&BitVec.ofInt k.bits b).toNat) k a b c
def aaQ(k:f6)(a b:Int)(c:bv->a2):a2:=Ef Nat.lor (k.wrap (BitVec.ofInt k.bits a|||BitVec.ofInt k.bits b).toNat) k a b c
def aaR(k:f6)(a b:Int)(c:bv->a2):a2:=Ef Nat.xor (k.wrap (BitVec.ofInt k.bits a^^^BitVec.ofInt k.bits b).toNat) k a b c
def aaS(k:f6)(a b:Int)(c:bv->a2):a2:=iE k (k.wrap (BitVec.ofInt k.bits a&&& ~~~(BitVec.ofInt k.bits b)).toNat) c
def OJ(j:f6)(a b:Int)(c:bv->a2):a2:=c<|.bool<|rY a b
def OK(j:f6)(a b:Int)(c:bv->a2):a2:=c<|.bool<|!rY a b
def OL(j:f6)(a b:Int)(c:bv->a2):a2:=c<|.bool<|!mj b a
def OM(j:f6)(a b:Int)(c:bv->a2):a2:=c<|.bool<|mj a b
def ON(j:f6)(a b:Int)(c:bv->a2):a2:=c<|.bool<|!mj a b
def OO(j:f6)(a b:Int)(c:bv->a2):a2:=c<|.bool<|mj b a
def IX(j:f6)(N E:Int)(R:bv->a2):a2:=.no
def AV(op:BinOp)(k:f6)(a b:Int)(c:bv->a2):a2:=
 BinOp.rec (motive:=λ_=>f6->Int->Int->(bv->a2)->a2) OE OF OG OH OI aaP aaQ aaR IX IX aaS OJ OK OL OM ON OO op k a b c
def AW(op:BinOp)(x y:f9)(c:bv->a2):a2:=
 match op with
 |.add=>ev (Nat.add (dE x.data.toList)<|dE y.data.toList) (2^40) (c<|.string ⟨⟨fr x.data.toList y.data.toList⟩⟩) .no
 |.eql=>c (.bool<|x.data.toList==y.data.toList)
 |.neq=>c (.bool<|!(x.data.toList==y.data.toList))
 |_=>.no
def yx(k:f6)(a:Int)(n:Nat):Int:=oa k<|yu a<|.ofNat<|Nat.pow 2<|min n k.bits
def wj(k:f6)(a:Int)(n:Nat):Int:=
 hJ a (λm=>.ofNat<|Nat.div m<|Nat.pow 2<|min n k.bits)<|a.fdiv<|2^(min n k.bits)
def aaT(j:BinOp)(k:f6)(a:Int)(R:f6)(b:Int)(c:bv->a2):a2:=hJ b (λn=>iE k (yx k a n) c) .no
def aaU(j:BinOp)(k:f6)(a:Int)(R:f6)(b:Int)(c:bv->a2):a2:=hJ b (λn=>iE k (wj k a n) c) .no
def nt(op:BinOp)(k:f6)(a:Int)(j:f6)(b:Int)(c:bv->a2):a2:=cond (j3 k j) (AV op k a b c) .no
def AX(op:BinOp)(k:f6)(a:Int)(j:f6)(b:Int)(c:bv->a2):a2:=
 BinOp.rec (motive:=λ_=>BinOp->f6->Int->f6->Int->(bv->a2)->a2) nt nt nt nt nt nt nt nt aaT aaU nt nt nt nt nt nt nt op op k a j b c
def AY(op:BinOp)(x y:bv)(c:bv->a2):a2:=
 fX x (λk a=>fX y (λj b=>AX op k a j b c) .no)
 (hX x (λa=>hX y (λb=>AW op a b c) .no) .no)
def wk(N S:Nat)(agg:Bool)(cs:ac bv):be bv:=
 hK cs N S (λV=>cond agg (some<|.agg ⟨V⟩)<|one V (λv=>some v) none) none
def r1:bv->bv->be Bool
 |.slice none _ _,.slice b _ _=>some b.isNone
 |.slice (some _) _ _,.slice none _ _=>some false
 |.chan none,.slice none _ _=>some false
 |_,_=>none
def OP:bv->bv->be Bool
 |.map none,.map b=>some b.isNone
 |.map (some _),.map none=>some false
 |_,_=>none
def IY:bv->bv->be Bool
 |.nilFunc,.nilFunc=>some true
 |.nilFunc,.func _ _ _=>some false
 |.func _ _ _,.nilFunc=>some false
 |_,_=>none
def OQ:bv->bv->be Bool
 |.nilIface,.nilIface=>some true
 |.nilIface,.iface _ _=>some false
 |.iface _ _,.nilIface=>some false
 |_,_=>none
def wm:bv->bv->be Bool
 |.pointer none,.pointer b=>some b.isNone
 |.pointer (some _),.pointer none=>some false
 |.pointer (some a),.pointer (some b)=>if a.block=b.block/\a.spot=none/\b.spot=none then some (a.off==b.off)else none
 |_,_=>none
def AZ:bv->bv->be Bool
 |.bool a,.bool b=>some (a==b)
 |.int k a,.int L b=>if k=L then some (a==b)else none
 |.string a,.string b=>some (a.data.toList==b.data.toList)
 |_,_=>none
def kk:Nat->qB->bv->bv->be Bool
 |_,.yn,x,y=>AZ x y
 |_,.mi,x,y=>r1 x y
 |_,.IQ,x,y=>OP x y
 |_,.D0,x,y=>IY x y
 |_,.D1,x,y=>OQ x y
 |_,.ptr,x,y=>wm x y
 |0,.agg _,_,_=>none
 |n+1,.agg a7,.agg xs,.agg aP=>OR n xs.toList aP.toList a7
 |_,.agg _,_,_=>none
 where
 OR (n:Nat) (xs aP:ac bv):ac (Nat×Nat×Bool×qB)->be Bool
  |[]=>some true
  |(off,S,Z,e)::rest=>
   match wk off S Z xs,wk off S Z aP with
   |some x,some y=>
    match kk n e x y with
    |some true=>OR n xs aP rest
    |r=>r
   |_,_=>none
def yy(op:UnOp)(x:bv)(c:bv->a2):a2:=
 match op with
 |.neg=>fX x (λk n=>iE k (oa k<|Ee n) c) .no
 |.xor=>fX x (λk n=>iE k (k.wrap (BitVec.ofInt k.bits (if k.signed then -1 else k.max)^^^BitVec.ofInt k.bits n).toNat) c) .no
 |.not=>kj x (λb=>c<|.bool<|!b) .no
 |_=>.no
def ob(o:aK)(a7:ac (Nat×Nat×ce)):ac bv->(ac bv->a2)->a2:=
 List.rec (motive:=λ_=>ac bv->(ac bv->a2)->a2) (λcs c=>c cs)
  (λp _ I cs c=>
   (λv=>cond (s3 v) .no<|(λV=>dL (dE V) p.2.1 (ev (Nat.add p.1 p.2.1) (dE cs) (pK cs p.1 V (λR=>I R c) .no) .no) .no)<|hW v)<|o.ar p.2.2) a7
def bytesOf(ab:ac bv):be (ac ci):=
 List.rec (motive:=λ_=>be<|ac ci) (some [])
  (λv _ r=>fX v (λk n=>cond (j3 k .u8) (bq r (λb2=>some<|UInt8.ofNat n.toNat::b2) none) none) none) ab
def nu(b2:ac ci):ac bv:=
 List.rec (motive:=λ_=>ac bv) [] (λb _ r=>Value.int .u8 (.ofNat b.toNat)::r) b2
def fs(o:aK)(x:be ce)(wo y:Nat)(k:Nat->a2):a2:=
 bq x (λx=>fX (o.ar x) (λ_ n=>hJ n (λn=>ev n y (k n) .no) .no) .no)<|k wo
def yz(U:be bx)(k:ac bv->co->Nat×Nat->Bool->β)(z:β):β:=
 bq U (λU=>bx.rec (motive:=λ_=>β) k (λ_ _=>z) (λ_ _=>z) (λ_ _ _ _=>z) (λ_ _ _ _ _ _ _ _=>z) (λ_=>z) z U) z
def ak.fI(st:ak)(a:Addr)(k:ac bv->co->Nat×Nat->Bool->β)(z:β):β:=
 bq a.spot (λ_=>z)<|yz (st.h.get a.block) k z
def ak.load(st:ak)(a:Addr)(n:Nat)(k:ac bv->β)(z:β):β:=
 st.fI a (λcs _ _ _=>hK cs a.off n k z) z
def ak.g8(st:ak)(id:Nat)(U:bx)(k:ak->β):β:=
 ao.fin (ao.ky (Nat.succ id) st.h id U) λh=>k ⟨h,st.ae⟩
def ak.store(st:ak)(a:Addr)(ab:ac bv)(k:ak->β)(z:β):β:=
 st.fI a (λcs elem bY aR=>ev bY.2 bY.1 (pK cs a.off ab (λR=>st.g8 a.block (.cells R elem bY aR) k) z) z) z
def iO(o:aK)(st:ak)(elem:co)(S j:Nat)(base:be Addr)(len cap:Nat)(n:Nat)(new:ac bv):a2:=
 (λh=>
  ev (Nat.mul (Nat.add (Nat.mul 5 h) 1792)<|Nat.succ j) (2^50)
   (bq base
    (λa=>st.fI a (λcs el bY aR=>
     ev bY.2 bY.1 (ev len cap (ev (Nat.add a.off<|Nat.mul cap S) (dE cs) (dL el elem
      (dL n 0 (.ok (.slice (some a) len cap) o st)
       (cond aR
        (hK cs a.off (Nat.mul len S) (λhy=>st.g8 a.block .dead λst=>st.iD (.cells (fr hy new) elem (0,0) true) λid st=>.ok (.slice (some ⟨id,0,none⟩) h h) o st) .no)
        (ev h cap
         (pK cs (Nat.add a.off<|Nat.mul len S) new (λR=>st.g8 a.block (.cells R el bY false) λst=>.ok (.slice (some a) h cap) o st) .no)
         (hK cs a.off (Nat.mul len S) (λhy=>st.iD (.cells (fr hy new) elem (0,0) true) λid st=>.ok (.slice (some ⟨id,0,none⟩) h h) o st) .no))))
      .no) .no) .no) .no) .no)
    (dL len 0 (dL cap 0
     (dL n 0 (.ok (.slice none 0 0) o st)
      (st.iD (.cells new elem (0,0) true) λid st=>.ok (.slice (some ⟨id,0,none⟩) h h) o st))
     .no) .no))
   .no)<|Nat.add len n
def A0(k:f6)(o:aK)(xs:ac ce):Int->be Int:=
 List.rec (motive:=λ_=>Int->be Int) (λm=>some m)
  (λx _ I m=>fX (o.ar x) (λL y=>cond (j3 k L) (I<|cond (mj y m) m y) none) none) xs
def A1(k:f6)(o:aK)(xs:ac ce):Int->be Int:=
 List.rec (motive:=λ_=>Int->be Int) (λm=>some m)
  (λx _ I m=>fX (o.ar x) (λL y=>cond (j3 k L) (I<|cond (mj m y) m y) none) none) xs
def dQ(o:aK)(xs:ac ce):ac bv:=
 List.rec (motive:=λ_=>ac bv) [] (λx _ r=>o.ar x::r) xs
def pM(z:ac bv)(n:Nat):ac bv:=
 Nat.rec (motive:=λ_=>ac bv) [] (λ_ r=>fr z r) n
def wq(k:f6)(n:Int):Bool:=mj k.min n&&mj n k.max
def fH.ok(ct:fH)(v:bv):Bool:=
 match ct with
 |.int k=>fX v (λL n=>j3 k L&&wq k n) false
 |.str=>hX v (λs=>Nat.ble (dE s.data.toList)<|2^40) false
 |.arr k n=>rZ v (λxs=>Nat.beq (dE xs.toList) n&&xs.toList.all λx=>fX x (λL m=>j3 k L&&wq k m) false) false
def jH(U:be bx)(k:ac f7->Nat->β)(z:β):β:=
 bq U (λU=>bx.rec (motive:=λ_=>β) (λ_ _ _ _=>z) k (λ_ _=>z) (λ_ _ _ _=>z) (λ_ _ _ _ _ _ _ _=>z) (λ_=>z) z U) z
def A2(U:be bx)(k:be Nat->Nat->ac Nat->Nat->β)(z:β):β:=
 bq U (λU=>bx.rec (motive:=λ_=>β) (λ_ _ _ _=>z) (λ_ _=>z) (λ_ _=>z) k (λ_ _ _ _ _ _ _ _=>z) (λ_=>z) z U) z
def lo(ct:fH)(es:ac f7):Bool:=es.all λe=>ct.ok e.key
def ic(k:bv)(es:ac f7):be f7:=es.find? λe=>dC k e.key
def wu(k v:bv)(es:ac f7):ac f7:=es.map λe=>cond (dC k e.key) ⟨e.key,v,e.born⟩ e
def qG(k:bv)(es:ac f7):ac f7:=es.filter λe=> !dC k e.key
def OS:bv->bv->be Bool
 |.int k a,.int L b=>if k=L then some (a==b)else none
 |_,_=>none
def Eg:bv->bv->be Bool
 |.string a,.string b=>some (a.data.toList==b.data.toList)
 |_,_=>none
def OT(i:Nat)(x y:bv):be Bool:=match i with
 |0=>Eg x y
 |_=>OS x y
def qH:Nat->ac bv->ac bv->be Bool
 |_,[],[]=>some true
 |i,x::xs,y::aP=>bq (OT i x y) (λb=>cond b (qH (i-1) xs aP)<|bq (qH (i-1) xs aP) (λ_=>some false) none) none
 |_,_,_=>none
def A3(n:Nat):bv->be Bool
 |.chan (some c)=>if c%2=0 then(if 2<=c/\n<=(c-2)/2 then some true else none)else(if 3<=c/\(c-3)/2<=n then some false else none)
 |_=>none
def OU(n:Nat)(c:bv):Bool:=match A3 n c with|some true=>true|_=>false
def uv:ac ci->ac ci->Bool
 |[],_=>true
 |a::as,b::b2=>a==b&&uv as b2
 |_::_,[]=>false
def pN(b:ac ci):ac ci->be Nat
 |[]=>if b.isEmpty then some 0 else none
 |x::xs=>if uv b (x::xs)then some 0 else(pN b xs).map (· +1)
def Eh(l:ac Nat):be Nat:=l.getLast?
def IZ(o:aK)(st:ak)(y:uf):a2:=
 match y with
 |.look ct z ok m k=>(λkey=>cond (ct.ok key)
  (oY (o.ar m) (λr=>bq r (λid=>jH (st.h.get id) (λes _=>cond (lo ct es) (bq (ic key es) (λe=>.ok (cond ok (.tuple #[e.val,.bool true]) e.val) o st)<|.ok (cond ok (.tuple #[z,.bool false]) z) o st) .no) .no)
   (.ok (cond ok (.tuple #[z,.bool false]) z) o st)) .no) .no) (o.ar k)
 |.e3 ct m k v=>(λkey=>cond (ct.ok key)
  (oY (o.ar m) (λr=>bq r (λid=>jH (st.h.get id) (λes clock=>cond (lo ct es)
   (bq (ic key es) (λ_=>st.g8 id (.map (wu key (o.ar v) es) clock) λst=>.ok undef o st)
    (st.g8 id (.map (es++[⟨key,o.ar v,clock⟩])<|Nat.succ clock) λst=>.ok undef o st)) .no) .no) .no) .no) .no) (o.ar k)
 |.del ct m k=>(λkey=>cond (ct.ok key)
  (oY (o.ar m) (λr=>bq r (λid=>jH (st.h.get id) (λes clock=>cond (lo ct es) (st.g8 id (.map (qG key es) clock) λst=>.ok undef o st) .no) .no) .no) .no) .no) (o.ar k)
 |.v9 m=>oY (o.ar m) (λr=>bq r (λid=>jH (st.h.get id) (λes _=>fW (dE es) λn=>.ok (.int .i64<|.ofNat n) o st) .no)<|.ok (.int .i64 0) o st) .no
 |.ug m=>oY (o.ar m) (λr=>bq r (λid=>jH (st.h.get id) (λ_ clock=>st.iD (.nr (some id) clock [] clock) λid st=>.ok (.pointer<|some ⟨id,0,none⟩) o st) .no)
  (st.iD (.nr none 0 [] 0) λid st=>.ok (.pointer<|some ⟨id,0,none⟩) o st)) .no
 |.wa Y=>hG (o.ar Y) (λp=>bq p (λa=>bq a.spot (λ_=>.no) (dL a.off 0 (A2 (st.h.get a.block) (λm _ V O=>
  bq m (λid=>bq (Eh V) (λs=>jH (st.h.get id) (λes clock=>dL clock O (ev (Nat.succ s) clock (bq (es.find? λe=>Nat.beq e.born s) (λe=>.ok (.tuple #[e.key,e.val]) o st) .no) .no) .no) .no) .no) .no) .no) .no)) .no) .no
 |.aT s c=>hX (o.ar s) (λs=>fX (o.ar c) (λk c=>cond (j3 k .u8) (hJ c (λc=>.ok (.int .i64<|.ofNat<|s.data.toList.countP λb=>b==UInt8.ofNat c) o st) .no) .no) .no) .no
 |.uh neg n x y=>rZ (o.ar x) (λxs=>rZ (o.ar y) (λaP=>dL (dE xs.toList) (Nat.add (Nat.mod n 100)<|Nat.div n 100) (dL (dE aP.toList) (Nat.add (Nat.mod n 100)<|Nat.div n 100) (bq (qH (Nat.mod n 100) xs.toList aP.toList) (λb=>.ok (.bool<|cond neg (!b) b) o st) .no) .no) .no) .no) .no
 |.n7 _=>.no
 |.yo gt x y=>fX (o.ar x) (λk n=>cond (j3 k .i64) (hJ n (λn=>bq (A3 n<|o.ar y) (λb=>.ok (.bool<|cond gt (!b) b) o st) .no) .no) .no) .no
 |.idxs g s b=>hX (o.ar s) (λs=>hX (o.ar b) (λb=>yz (st.h.get g) (λcs _ _ aR=>cond aR .no (one cs (λc=>cond (OU (dE b.data.toList) c) (ev 2 (dE b.data.toList) (ev (dE s.data.toList) 1000000
  (.ok (.int .i64<|bq (pN b.data.toList s.data.toList) (λi=>.ofNat i)<|.negSucc 0) o st) .no) .no) .no) .no)) .no) .no) .no
 |.D2 _=>.no
 |.D3 _=>.no
 |.D4 _ _=>.no
 |.IS _=>.no
def r2(c:ci)(l:ac ci):be Nat:=
 List.rec (motive:=λ_=>be Nat) none (λb _ r=>cond (Nat.beq b.toNat c.toNat) (some 0)<|bq r (λi=>some<|Nat.succ i) none) l
def aaV(x:ce)(R:bN)(o:aK)(st:ak):a2:=
 .ok (o.ar x) o st
def aaW(c:ce)(a:ce)(b:ce)(R:bN)(o:aK)(st:ak):a2:=
 kj (o.ar c) (λt=>.ok (cond t (o.ar a)<|o.ar b) o st) .no
def yA(z:ac bv)(elem:co)(R:bN)(o:aK)(st:ak):a2:=
 st.iD (.cells z elem (0,0) false) λid st=>.ok (.pointer<|some ⟨id,0,none⟩) o st
def I0(elem:co)(x:ce)(R:bN)(o:aK)(st:ak):a2:=
 (λv=>cond (s3 v) .no<|st.iD (.cells (hW v) elem (0,0) false) λid st=>.ok (.pointer<|some ⟨id,0,none⟩) o st)<|o.ar x
def aaX(z:ac bv)(a7:ac (Nat×Nat×ce))(R:bN)(o:aK)(st:ak):a2:=
 ob o a7 z λcs=>.ok (.agg ⟨cs⟩) o st
def A4(elem:co)(len:Nat)(z:ac bv)(a7:ac (Nat×Nat×ce))(R:bN)(o:aK)(st:ak):a2:=
 ob o a7 z λcs=>st.iD (.cells cs elem (0,0) false) λid st=>.ok (.slice (some ⟨id,0,none⟩) len len) o st
def aaY(a:ce)(R:bN)(o:aK)(st:ak):a2:=
 hG (o.ar a) (λp=>bq p (λa=>st.load a 1 (λV=>one V (λv=>.ok v o st) .no) .no) .no) .no
def aaZ(n:Nat)(a:ce)(R:bN)(o:aK)(st:ak):a2:=
 hG (o.ar a) (λp=>bq p (λa=>st.load a n (λV=>.ok (.agg ⟨V⟩) o st) .no) .no) .no
def aa0(n:Nat)(a:ce)(x:ce)(R:bN)(o:aK)(st:ak):a2:=
 hG (o.ar a) (λp=>bq p (λa=>(λV=>dL (dE V) n (cond (hi V) (st.store a V (λst=>.ok undef o st) .no) .no) .no)<|hW<|o.ar x) .no) .no
def I1(x:ce)(R:bN)(o:aK)(st:ak):a2:=
 hG (o.ar x) (λp=>bq p (λa=>.ok (.pointer<|some a) o st) .no)<|yv (o.ar x) (λf a b=>match f with|.func g=>.ok (.func (.func g) a b) o st|_=>.no) .no
def aa1(M:String)(E:ac (Nat×d7))(S:ce)(R:bN)(N:aK)(j:ak):a2:=
 .no
def aa2(op:BinOp)(x:ce)(y:ce)(R:bN)(o:aK)(st:ak):a2:=
 AY op (o.ar x) (o.ar y) λv=>.ok v o st
def aa3(neg:Bool)(e:qB)(x:ce)(y:ce)(R:bN)(o:aK)(st:ak):a2:=
 bq (kk 8 e (o.ar x)<|o.ar y) (λb=>.ok (.bool<|cond neg (!b) b) o st) .no
def aa4(op:UnOp)(x:ce)(R:bN)(o:aK)(st:ak):a2:=
 yy op (o.ar x) λv=>.ok v o st
def aa5(k:f6)(x:ce)(R:bN)(o:aK)(st:ak):a2:=
 fX (o.ar x) (λ_ n=>iE k (oa k n) λv=>.ok v o st) .no
def aa6(x:ce)(R:bN)(o:aK)(st:ak):a2:=
 hX (o.ar x) (λs=>.ok (.string s) o st) .no
def I2(x:ce)(R:bN)(o:aK)(st:ak):a2:=
 hY (o.ar x) (λa n _=>bq a (λa=>st.load a n (λV=>bq (bytesOf V) (λb2=>.ok (.string ⟨⟨b2⟩⟩) o st) .no) .no)<|.ok (.string ⟨⟨[]⟩⟩) o st) .no
def I3(elem:co)(x:ce)(R:bN)(o:aK)(st:ak):a2:=
 hX (o.ar x) (λs=>(λn=>ev n (2^40) (st.iD (.cells (nu s.data.toList) elem (0,0) true) λid st=>.ok (.slice (some ⟨id,0,none⟩) n n) o st) .no)<|dE s.data.toList) .no
def aa7(t:co)(x:ce)(R:bN)(o:aK)(st:ak):a2:=
 .ok (.iface t<|o.ar x) o st
def aa8(fn:Fn)(first:ac ce)(M:ac ce)(R:bN)(o:aK)(st:ak):a2:=
 .ok (.func fn ⟨dQ o first⟩ ⟨dQ o M⟩) o st
def wv(R:bN)(o:aK)(st:ak):a2:=
 st.iD (.map [] 0) λid st=>.ok (.map<|some id) o st
def wx(elem:co)(j:Nat)(z:ac bv)(len:ce)(cap:ce)(R:bN)(o:aK)(st:ak):a2:=
 fX (o.ar len) (λ_ l=>fX (o.ar cap) (λ_ c=>hJ l (λl=>hJ c (λc=>ev l c (ev (Nat.mul c<|Nat.succ j) (2^40) (st.iD (.cells (pM z c) elem (0,0) false) λid st=>.ok (.slice (some ⟨id,0,none⟩) l c) o st) .no) .no) .no) .no) .no) .no
def aa9(x:ce)(bm:be ce)(af:be ce)(R:bN)(o:aK)(st:ak):a2:=
 hX (o.ar x) (λs=>(λn=>fs o af n n λh=>fs o bm 0 h λl=>hK s.data.toList l (Nat.sub h l) (λb2=>.ok (.string ⟨⟨b2⟩⟩) o st) .no)<|dE s.data.toList) .no
def s4(n:Nat)(S:Nat)(x:ce)(bm:be ce)(af:be ce)(g7:be ce)(R:bN)(o:aK)(st:ak):a2:=
 hG (o.ar x) (λp=>bq p (λa=>st.fI a (λ_ _ _ aR=>cond aR .no<|fs o g7 n n λm=>fs o af n m λh=>fs o bm 0 h λl=>.ok (.slice (some<|dL m l a<|a.add<|Nat.mul l S) (Nat.sub h l)<|Nat.sub m l) o st) .no) .no) .no
def OV(S:Nat)(x:ce)(bm:be ce)(af:be ce)(g7:be ce)(R:bN)(o:aK)(st:ak):a2:=
 hY (o.ar x) (λb len cap=>bq b (λa=>st.fI a (λ_ _ _ aR=>cond aR (bq g7 (λ_=>.no)<|ev len cap (fs o af len len λh=>fs o bm 0 h λl=>.ok (.slice (some<|a.add<|Nat.mul l S) (Nat.sub h l)<|Nat.sub cap l) o st) .no)<|fs o g7 cap cap λm=>fs o af len m λh=>fs o bm 0 h λl=>.ok (.slice (some<|dL m l a<|a.add<|Nat.mul l S) (Nat.sub h l)<|Nat.sub m l) o st) .no)<|fs o g7 cap cap λm=>fs o af len m λh=>fs o bm 0 h λl=>.ok (.slice none (Nat.sub h l)<|Nat.sub m l) o st) .no
def aba(N:Nat)(x:ce)(R:bN)(o:aK)(st:ak):a2:=
 hG (o.ar x) (λp=>bq p (λa=>.ok (.pointer<|some<|a.add N) o st) .no) .no
def abb(N:Nat)(S:Nat)(agg:Bool)(x:ce)(R:bN)(o:aK)(st:ak):a2:=
 rZ (o.ar x) (λcs=>bq (wk N S agg cs.toList) (λv=>.ok v o st) .no) .no
def s5(n:Nat)(S:Nat)(x:ce)(i:ce)(R:bN)(o:aK)(st:ak):a2:=
 hG (o.ar x) (λp=>bq p (λa=>fX (o.ar i) (λ_ J=>hJ J (λJ=>ev (Nat.succ J) n (.ok (.pointer<|some<|a.add<|Nat.mul J S) o st) .no) .no) .no) .no) .no
def abc(S:Nat)(x:ce)(i:ce)(R:bN)(o:aK)(st:ak):a2:=
 hY (o.ar x) (λb len _=>bq b (λa=>fX (o.ar i) (λ_ J=>hJ J (λJ=>ev (Nat.succ J) len (.ok (.pointer<|some<|a.add<|Nat.mul J S) o st) .no) .no) .no) .no) .no
def abd(x:ce)(i:ce)(R:bN)(o:aK)(st:ak):a2:=
 hX (o.ar x) (λs=>fX (o.ar i) (λ_ J=>hJ J (λJ=>hK s.data.toList J 1 (λb2=>one b2 (λb=>.ok (.int .u8<|.ofNat b.toNat) o st) .no) .no) .no) .no) .no
def abe(n:Nat)(S:Nat)(agg:Bool)(x:ce)(i:ce)(R:bN)(o:aK)(st:ak):a2:=
 rZ (o.ar x) (λcs=>fX (o.ar i) (λ_ J=>hJ J (λJ=>ev (Nat.succ J) n (bq (wk (Nat.mul J S) S agg cs.toList) (λv=>.ok v o st) .no) .no) .no) .no) .no
def I4(t:co)(zero:bv)(ok:Bool)(x:ce)(R:bN)(o:aK)(st:ak):a2:=
 yw (o.ar x) (λu v=>dL u t (.ok (cond ok (.tuple #[v,.bool true]) v) o st)<|cond ok (.ok (.tuple #[zero,.bool false]) o st) .no) (match o.ar x with|.nilIface=>cond ok (.ok (.tuple #[zero,.bool false]) o st) .no|_=>.no)
def abf(x:ce)(i:Nat)(R:bN)(o:aK)(st:ak):a2:=
 qF (o.ar x) (λV=>hK V.toList i 1 (λl=>one l (λv=>.ok v o st) .no) .no) .no
def abg(f:ce)(args:ac ce)(call:bN)(o:aK)(st:ak):a2:=
 dY.rec (motive:=λ_=>a2) (λv st _=>.ok v o st) (λv st _=>.aV v st) .no<|call (o.ar f) (dQ o args) none st
def abh(E:ac (Nat×d7))(S:ce)(M:ac ce)(R:bN)(N:aK)(j:ak):a2:=
 .no
def I5(x:ce)(R:bN)(o:aK)(st:ak):a2:=
 hY (o.ar x) (λ_ n _=>.ok (.int .i64<|.ofNat n) o st)<|r0 (o.ar x) (.ok (.int .i64<|.ofNat 0) o st) .no
def abi(x:ce)(R:bN)(o:aK)(st:ak):a2:=
 hX (o.ar x) (λs=>fW (dE s.data.toList) λn=>.ok (.int .i64<|.ofNat n) o st) .no
def abj(n:Nat)(R:bN)(o:aK)(st:ak):a2:=
 .ok (.int .i64<|.ofNat n) o st
def abk(S:ce)(R:bN)(N:aK)(j:ak):a2:=
 .no
def OW(elem:co)(S:Nat)(j:Nat)(s:ce)(x:ce)(R:bN)(o:aK)(st:ak):a2:=
 hY (o.ar s) (λbase len cap=>hY (o.ar x) (λb n _=>bq b (λb=>st.load b (Nat.mul n S) (λnew=>cond (hi new) (iO o st elem S j base len cap n new) .no) .no)<|dL n 0 (iO o st elem S j base len cap 0 []) .no)<|r0 (o.ar x) (iO o st elem S j base len cap 0 [])<|hX (o.ar x) (λs=>dL S 1 (iO o st elem S j base len cap (dE s.data.toList)<|nu s.data.toList) .no) .no) .no
def abl(x:ce)(xs:ac ce)(R:bN)(o:aK)(st:ak):a2:=
 fX (o.ar x) (λk n=>bq (A0 k o xs n) (λm=>iE k m λv=>.ok v o st) .no) .no
def abm(x:ce)(xs:ac ce)(R:bN)(o:aK)(st:ak):a2:=
 fX (o.ar x) (λk n=>bq (A1 k o xs n) (λm=>iE k m λv=>.ok v o st) .no) .no
def OX(S:Nat)(d:ce)(s:ce)(R:bN)(o:aK)(st:ak):a2:=
 hY (o.ar d) (λa g _=>hY (o.ar s) (λb aH _=>bq a (λa=>bq b (λb=>(λn=>st.load b (Nat.mul n S) (λV=>cond (hi V) (st.store a V (λst=>.ok (.int .i64<|.ofNat n) o st) .no) .no) .no)<|ev aH g aH g)<|dL aH 0 (.ok (.int .i64 0) o st) .no)<|dL g 0 (.ok (.int .i64 0) o st) .no) .no) .no
def abn(R:bN)(o:aK)(st:ak):a2:=
 bq o.b4 (λ_=>.no)<|bq o.aV (λv=>cond o.cQ (.ok .nilIface o st)<|.ok v ⟨o.t,o.dd,o.aV,true,o.b4⟩ st)<|.ok .nilIface o st
def abo(f:ce)(args:ac ce)(R:bN)(o:aK)(st:ak):a2:=
 bq o.b4 (λ_=>.no)<|yv (o.ar f) (λfn first M=>match fn with|.func g=>.ok undef ⟨o.t,{target:=.fn (.func g) M,args:=⟨fr first.toList (dQ o args)⟩}::o.dd,o.aV,o.cQ,o.b4⟩ st|_=>.no) .no
def abp(x:ce)(R:bN)(o:aK)(st:ak):a2:=
 yw (o.ar x) (λt v=>.aV (.iface t v) st) .no
def I6(x:ce)(R:bN)(o:aK)(st:ak):a2:=
 hG (o.ar x) (λp=>bq p (λa=>st.fI a (λcs _ _ _=>ev (Nat.succ a.off) (dE cs) (.ok (.pointer<|some a) o st) .no) .no) .no) .no
def I7(elem:Nat)(n:Nat)(x:ce)(R:bN)(o:aK)(st:ak):a2:=
 hG (o.ar x) (λp=>bq p (λa=>st.fI a (λcs el _ aR=>cond aR .no<|dL a.off 0 (dL el elem (dL (dE cs) n (.ok (.pointer<|some a) o st) .no) .no) .no) .no) .no) .no
def I8(x:ce)(R:bN)(o:aK)(st:ak):a2:=
 hY (o.ar x) (λb _ c=>bq b (λa=>dL c 0 .no<|.ok (.pointer<|some a) o st)<|.ok (.pointer none) o st) .no
def Ei(elem:co)(x:ce)(n:ce)(R:bN)(o:aK)(st:ak):a2:=
 hG (o.ar x) (λp=>fX (o.ar n) (λ_ n=>hJ n (λn=>dL n 0 (.ok (.string ⟨⟨[]⟩⟩) o st)<|bq p (λa=>ev n (2^40) (st.fI a (λcs el bY aR=>ev bY.2 bY.1 (dL el elem (hK cs a.off n (λV=>bq (bytesOf V) (λb2=>st.g8 a.block (.cells cs el (a.off,Nat.add a.off n) aR) λst=>.ok (.string ⟨⟨b2⟩⟩) o st) .no) .no) .no) .no) .no) .no) .no) .no) .no) .no
def I9(s:ce)(c:ce)(R:bN)(o:aK)(st:ak):a2:=
 hX (o.ar s) (λs=>fX (o.ar c) (λk c=>cond (j3 k .u8) (hJ c (λc=>.ok (.int .i64<|bq (r2 (UInt8.ofNat c) s.data.toList) (λi=>.ofNat i)<|.negSucc 0) o st) .no) .no) .no) .no
def abq(x:ce)(R:bN)(o:aK)(st:ak):a2:=
 .ok (o.ar x) o st
def abr(y:uf)(R:bN)(o:aK)(st:ak):a2:=
 IZ o st y
def abt(R:bN)(N:aK)(j:ak):a2:=
 .no
def bw(call:bN)(U:dh)(o:aK)(st:ak):a2:=
 dh.rec (motive:=λ_=>bN->aK->ak->a2) aaV aaW yA I0 aaX A4 aaY aaZ aa0 I1 aa1 aa2 aa3 aa4 aa5 aa6 I2 I3 aa7 aa8 wv wx aa9 s4 OV aba abb s5 abc abd abe I4 abf abg abh I5 abi abj abk OW abl abm OX abn abo abp I6 I7 I8 Ei I9 abq abr abt U call o st
inductive cN where
 |out (e:c6) (o:aK) (st:ak)
 |no
def hj(o:aK)(g:be (Tmp×Bool))(E R z:β):β:=
 bq g (λp=>kj (o.tmp p.1) (λb=>cond b (cond p.2 E R)<|cond p.2 R E)<|qF (o.tmp p.1) (λ_=>R) z) E
def dh.lp:dh->Bool
 |.call _ _|.inv _ _ _|.n9 _=>true
 |_=>false
def gh(call:bN)(ops:ac bj):aK->ak->cN:=
 List.rec (motive:=λ_=>aK->ak->cN) (λo st=>.out .norm o st)
  (λx _ I o st=>
   hj o x.g
    (a2.rec (motive:=λ_=>cN) (λv o st=>I (o.put x.d v) st) (λv st=>cond x.U.lp (.out (.aV v) o st) .no) .no<|bw call x.U o st)
    (I (o.put x.d undef) st) .no) ops
def sameAt(call:bN)(U:dh)(o:aK)(v:bv)(ae:Nat)(n:Nat):ac (ao bx)->Bool:=
 Nat.rec (motive:=λ_=>ac (ao bx)->Bool) (λ_=>true)
  (λ_ I M=>List.rec (motive:=λ_=>Bool) false
   (λh M _=>a2.rec (motive:=λ_=>Bool) (λbE _ _=>cond (dC v bE) (I M) false) (λ_ _=>false) false<|bw call U o ⟨h,ae⟩) M) n
def jI(t:ao bv)(aA:ac Tmp)(k:ao bv->β):β:=
 List.rec (motive:=λ_=>ao bv->β) (λm=>k m) (λx _ I m=>bq (t.get x) (λv=>ao.iN (Nat.succ x) m x v I)<|I m) aA .nil
def pO(o:aK)(aA:ac Tmp):aK:=
 List.rec (motive:=λ_=>aK->aK) (λo=>o) (λt _ I o=>I<|o.put (some t) jG) aA o
def j4(call:bN)(ms:ac Nat)(n:Nat)(ops:ac (bj×cn)):Nat->ac (ao bx)->aK->ak->Bool:=
 List.rec (motive:=λ_=>Nat->ac (ao bx)->aK->ak->Bool) (λ_ _ _ _=>true)
  (λx _ I p j o st=>
   cond (Nat.testBit (ms.getD p 0) n)
    (cn.rec (motive:=λ_=>Bool) (I (Nat.succ p) (st.h::j) (o.put x.1.d undef) st) (λ_=>I (Nat.succ p) j (o.put x.1.d undef) st) (λ_ _=>I (Nat.succ p) j (o.put x.1.d undef) st) x.2)
    (cn.rec (motive:=λ_=>Bool) false
     (λaA=>jI o.t aA λt=>hj ⟨t,[],none,false,none⟩ x.1.g
      (a2.rec (motive:=λ_=>Bool) (λv _ al=>I (Nat.succ p) j (o.put x.1.d v) al) (λ_ _=>false) false<|bw call x.1.U ⟨t,[],none,false,none⟩ st)
      (I (Nat.succ p) j (o.put x.1.d undef) st) false)
     (λback aA=>jI o.t aA λt=>hj ⟨t,[],none,false,none⟩ x.1.g
      (a2.rec (motive:=λ_=>Bool) (λv _ _=>cond (sameAt call x.1.U ⟨t,[],none,false,none⟩ v st.ae (Nat.succ back) j) (I (Nat.succ p) j (o.put x.1.d v) st) false) (λ_ _=>false) false<|bw call x.1.U ⟨t,[],none,false,none⟩ st)
      (I (Nat.succ p) j (o.put x.1.d undef) st) false)
     x.2)) ops
abbrev s6:=ac (bj×cn)->ac (ao bx)->aK->ak->Bool
def hk(call:bN)(S:s6)(ops:ac (bj×cn)):ac (ao bx)->aK->ak->cN:=
 List.rec (motive:=λ_=>ac (ao bx)->aK->ak->cN) (λ_ o st=>.out .norm o st)
  (λx xs I j o st=>
   cn.rec (motive:=λ_=>cN)
    (hj o x.1.g
     (a2.rec (motive:=λ_=>cN) (λv bt al=>ev st.ae al.ae (I (al.h::j) (aK.put ⟨o.t,bt.dd,bt.aV,bt.cQ,bt.b4⟩ x.1.d v) al) .no) (λv al=>cond x.1.U.lp (cond (S xs (st.h::j) (o.put x.1.d undef) st) (.out (.aV v) o al) .no) .no) .no<|bw call x.1.U o st)
     (I (st.h::j) (o.put x.1.d undef) st) .no)
    (λaA=>jI o.t aA λt=>hj ⟨t,[],none,false,none⟩ x.1.g
     (a2.rec (motive:=λ_=>cN) (λv _ al=>I j (o.put x.1.d v) al) (λ_ _=>.no) .no<|bw call x.1.U ⟨t,[],none,false,none⟩ st)
     (I j (o.put x.1.d undef) st) .no)
    (λback aA=>jI o.t aA λt=>hj ⟨t,[],none,false,none⟩ x.1.g
     (a2.rec (motive:=λ_=>cN) (λv _ _=>cond (sameAt call x.1.U ⟨t,[],none,false,none⟩ v st.ae (Nat.succ back) j) (I j (o.put x.1.d v) st) .no) (λ_ _=>.no) .no<|bw call x.1.U ⟨t,[],none,false,none⟩ st)
     (I j (o.put x.1.d undef) st) .no)
    x.2) ops
def r3(call:bN)(ms:ac Nat)(len:Nat):s6:=λxs=>j4 call ms (Nat.sub len<|Nat.succ<|dE xs) xs<|Nat.sub len<|dE xs
def mW(U:be bx)(k:LoopState->be c6->d7->ao bv->ac Tmp->du->du->Nat->β)(z:β):β:=
 bq U (λU=>bx.rec (motive:=λ_=>β) (λ_ _ _ _=>z) (λ_ _=>z) (λ_ _=>z) (λ_ _ _ _=>z) k (λ_=>z) z U) z
def kz(r:cN)(k:aK->ak->cN):cN:=
 cN.rec (motive:=λ_=>cN) (λe o st=>c6.rec (motive:=λ_=>cN) (k o st) (λi=>.out (.exit i) o st) (.out .ret o st) (λv=>.out (.aV v) o st) e) .no r
def pP(id:Nat)(r:cN):cN:=
 cN.rec (motive:=λ_=>cN) (λe o st=>c6.rec (motive:=λ_=>cN) (.out .norm o st) (λi=>dL i id (.out .norm o st)<|.out (.exit i) o st) (.out .ret o st) (λv=>.out (.aV v) o st) e) .no r
def A5(v:bv)(a b:cN):cN:=kj v (λt=>cond t a b) .no
def OY(l:Nat)(bt:aK)(r:dY):cN:=
 dY.rec (motive:=λ_=>cN)
  (λ_ st _=>mW (st.h.get l) (λs gi Q t a7 a b d=>
   LoopState.rec (motive:=λ_=>cN)
    (st.g8 l (.loop .exhausted gi Q t a7 a b d) λst=>bq gi (λe=>.out e bt st)<|.out .norm bt st)
    .no
    (st.g8 l (.loop .exhausted gi Q t a7 a b d) λst=>bq gi (λe=>.out e bt st)<|.out .norm bt st)
    .no s) .no)
  (λv st _=>.out (.aV v) bt st) .no r
def A6(call:bN)(fn:d7)(f:ce)(params:ac Tmp)(assign body:du)(o:aK)(st:ak):cN:=
 bq o.b4 (λ_=>.no)
  (st.iD (.j1<|some []) λr st=>
   st.iD (.loop .ready none fn o.t params assign body r) λl st=>
   OY l ⟨o.t,{target:=.collected r,args:= #[]}::o.dd,o.aV,o.cQ,o.b4⟩<|call (o.ar f) [.func (.yield l) #[] #[]] none st)
def db(call:bN)(a6:Nat)(fn:d7)(c:du):aK->ak->cN:=
 du.rec (motive:=λ_=>aK->ak->cN)
  (λo st=>.out .norm o st)
  (λops=>gh call ops)
  (λops _ T ms o st=>hk call (r3 call ms<|dE ops) ops [st.h] (pO o T) st)
  (λ_ _ Q H o st=>kz (Q o st) H)
  (λc _ _ Q H o st=>A5 (o.ar c) (Q o st)<|H o st)
  (λid _ e o st=>pP id<|e o st)
  (λ_ e o st=>
   Nat.rec (motive:=λ_=>aK->ak->cN) (λ_ _=>.no)
    (λ_ I o st=>kz (e o st) I) a6 o st)
  (λf j g body _ _=>A6 call fn f j g body)
  (λid o st=>.out (.exit id) o st)
  (λ_ e=>e)
  (λo st=>.out .ret o st)
  (λ_ _=>.no) c
def lP(ab:ac bv):Nat->ao bv->ao bv:=
 List.rec (motive:=λ_=>Nat->ao bv->ao bv) (λ_ t=>t) (λv _ I i t=>ao.iN (Nat.succ i) t i v λt=>I (Nat.succ i) t) ab
def oZ(aA:ac Tmp):ac bv->ao bv->ao bv:=
 List.rec (motive:=λ_=>ac bv->ao bv->ao bv) (λ_ m=>m)
  (λt _ I V m=>List.rec (motive:=λ_=>ao bv) m (λv V _=>ao.iN (Nat.succ t) m t v λm=>I V m) V) aA
def pQ(o:aK)(st:ak)(R:ac gS):be (ac bv):=
 List.rec (motive:=λ_=>be<|ac bv) (some [])
  (λr _ I=>bq I (λV=>
   gS.rec (motive:=λ_=>be<|ac bv) (λt=>some<|o.tmp t::V)
    (λa agg n=>hG (o.tmp a) (λp=>bq p (λcc=>st.load cc n (λcs=>cond agg (some<|.agg ⟨cs⟩::V)<|one cs (λv=>some<|v::V) none) none) none) none) r) none) R
def jJ(call:bN):ac Deferred->be bv->ak->be (be bv×ak)
 |[],m,st=>some (m,st)
 |{target:=.collected r,.. }::aM,m,st=>
  match st.h.get r with
  |some (.j1<|some [])=>st.g8 r (.j1 none) λst=>jJ call aM m st
  |_=>none
 |{target:=.fn (.func g) M,args}::aM,m,st=>
  match call (.func (.func g) #[] M) args.toList m st with
  |.ret _ st R=>
   match m,R with
   |some _,true=>jJ call aM none st
   |_,_=>jJ call aM m st
  |.aV v st _=>
   match m with
   |none=>jJ call aM (some v) st
   |some _=>none
  |.no=>none
 |_::_,_,_=>none
abbrev oc:=d7->ac bv->ak->be dY
def fJ(call:bN)(res:ac gS)(m:be bv)(o:aK)(st:ak):dY:=
 bq (jJ call o.dd m st)
  (λp=>bq p.1 (λv=>.aV v p.2 o.cQ)
   (bq (pQ o p.2 res) (λV=>one V (λv=>.ret v p.2 o.cQ)<|.ret (.tuple ⟨V⟩) p.2 o.cQ) .no)) .no
def iF(call:bN)(n:Nat)(f:d7)(a4:cX)(as:ac bv)(aV:be bv)(st:ak):dY:=
 ev (dE as) a4.aN
  (cN.rec (motive:=λ_=>dY)
   (λe o st=>c6.rec (motive:=λ_=>dY) (fJ call a4.res none o st) (λ_=>.no) (fJ call a4.res none o st) (λv=>fJ call a4.res (some v) o st) e)
   .no<|db call n f a4.body ⟨lP as 0 .nil,[],aV,false,none⟩ st) .no
def qI(l:Nat)(r:cN):dY:=
 cN.rec (motive:=λ_=>dY)
  (λe o st=>
   List.rec (motive:=λ_=>dY)
    (c6.rec (motive:=λ_=>dY)
     (mW (st.h.get l) (λ_ _ fn t a7 a b d=>st.g8 l (.loop .ready none fn t a7 a b d) λst=>.ret (.bool true) st false) .no)
     (λi=>mW (st.h.get l) (λ_ _ fn t a7 a b d=>st.g8 l (.loop .done (some<|.exit i) fn t a7 a b d) λst=>.ret (.bool false) st false) .no)
     (mW (st.h.get l) (λ_ _ fn t a7 a b d=>st.g8 l (.loop .done (some .ret) fn t a7 a b d) λst=>.ret (.bool false) st false) .no)
     (λv=>.aV v st false) e)
    (λ_ _ _=>.no) o.dd)
  .no r
def yB(call:bN)(n:Nat)(l:Nat)(f:d7)(body:du)(o:aK)(st:ak):dY:=
 mW (st.h.get l) (λs gi fn t a7 a b d=>
  LoopState.rec (motive:=λ_=>dY)
   (st.g8 l (.loop .busy gi fn t a7 a b d) λst=>qI l<|db call n f body o st)
   .no .no .no s) .no
def wy(call:bN)(n:Nat)(l:Nat)(args:ac bv)(st:ak):dY:=
 mW (st.h.get l) (λ_ _ fn t a7 Q body _=>
  dL (dE args) (dE a7)
   (cN.rec (motive:=λ_=>dY)
    (λe o st=>c6.rec (motive:=λ_=>dY) (yB call n l fn body o st) (λ_=>.no) .no (λ_=>.no) e) .no
    (db call n fn Q ⟨oZ a7 args t,[],none,false,some l⟩ st)) .no) .no
def cg(aL:ao cX)(R:oc)(j:Nat):bN:=
 Nat.rec (motive:=λ_=>bN) (λ_ _ _ _=>.no)
  (λn I G args aV st=>
   yv G (λfn first M=>
    Fn.rec (motive:=λ_=>dY)
     (λf=>(λas=>bq aV (λ_=>bq (aL.get f) (λh=>iF I n f h as aV st) .no)<|bq (R f as st) (λr=>r)<|bq (aL.get f) (λh=>iF I n f h as aV st) .no)<|fr first.toList (fr args M.toList))
     (λ_=>.no) (λ_ _=>.no) (λ_ _ _ _=>.no)
     (λl=>List.rec (motive:=λ_=>dY) (List.rec (motive:=λ_=>dY) (bq aV (λ_=>.no)<|wy I n l args st) (λ_ _ _=>.no) M.toList) (λ_ _ _=>.no) first.toList)
     fn) .no) j
end Go.bC
namespace Go.bC
namespace ao
variable{α β:Type}
@[simp] theorem get_nil (n:Nat):(ao.nil:ao α).get n=none:=rfl
def Ej(l r:ao α)(v:be α):(ao.node l v r).get 0=v:=rfl
def Ek{β:Sort _}(m:Nat)(a b:β):Nat.rec (motive:=λ_=>β) a (λ_ _=>b) (Nat.mod m 2)=if m%2=0 then a else b:=by
 show Nat.rec (motive:=λ_=>β) a (λ_ _=>b) (m%2)=_;rcases Ik m with h|h
 .rw[h];rfl
 .rw[h];rfl
def o0(l r:ao α)(v:be α)(m:Nat):(ao.node l v r).get (m+1)=if m%2=0 then l.get (m/2)else r.get (m/2):=
 Ek m (l.get<|m/2)<|r.get<|m/2
def El(f m:Nat)(x:α)(k:ao α->β):iN (f+1) .nil (m+1) x k=if m%2=0 then iN f .nil (m/2) x (λbo=>k<|.node bo none .nil)else iN f .nil (m/2) x (λO=>k<|.node .nil none O):=Ek m _ _
def Em(f m:Nat)(l r:ao α)(v:be α)(x:α)(k:ao α->β):iN (f+1) (.node l v r) (m+1) x k=if m%2=0 then iN f l (m/2) x (λbo=>k<|.node bo v r)else iN f r (m/2) x (λO=>k<|.node l v O):=Ek m _ _
theorem ml{α:Type}:∀(f:Nat) (β:Type) (t:ao α) (n:Nat) (x:α) (k:ao α->β),iN f t n x k=k (iN f t n x id)
 |0,_,_,_,_,_=>rfl
 |f+1,β,t,n,x,k=>by
  cases t with
  |nil=>
   cases n with
   |zero=>rfl
   |succ m=>
    rw[El,El];split
    .rw[ml f _ .nil (m/2) x λbo=>k<|ao.node bo none ao.nil,ml f _ .nil (m/2) x λbo=>id<|ao.node bo none ao.nil];rfl
    .rw[ml f _ .nil (m/2) x λO=>k<|ao.node ao.nil none O,ml f _ .nil (m/2) x λO=>id<|ao.node ao.nil none O];rfl
  |node l v r=>
   cases n with
   |zero=>rfl
   |succ m=>
    rw[Em,Em];split
    .rw[ml f _ l (m/2) x λbo=>k<|ao.node bo v r,ml f _ l (m/2) x λbo=>id<|ao.node bo v r];rfl
    .rw[ml f _ r (m/2) x λO=>k<|ao.node l v O,ml f _ r (m/2) x λO=>id<|ao.node l v O];rfl
def wz(t:ao α)(n:Nat)(x:α)(k:ao α->β):iN (Nat.succ n) t n x k=k (t.set n x):=ml _ _ t n x k
def abu(v:be α)(r l:ao α):Ow v r l= .node l v r:=by cases l<;>rfl
def abv(v:be α)(l r:ao α):Ox l v r= .node l v r:=by cases r<;>rfl
def o1(t:ao α)(k:ao α->β):fin t k=k t:=by cases t<;>rfl
def OZ(I:ao α->Nat->α->ao α)(l r:ao α)(v:be α)(m:Nat)(x:α):
 DY I l v r m x=if m%2=0 then .node (I l (m/2) x) v r else .node l v (I r (m/2) x):=by
 rw[<-abu,<-abv];exact Ek m _ _
theorem En:∀(f:Nat) (t:ao α) (n:Nat) (x:α),ky f t n x=iN f t n x id
 |0,_,_,_=>rfl
 |f+1,t,n,x=>by
  cases t with
  |nil=>
   cases n with
   |zero=>rfl
   |succ m=>
    rw[El];show DY (ky f) .nil none .nil m x=_;rw[OZ,En f];split
    .rw[ml f _ .nil (m/2) x λbo=>id<|ao.node bo none ao.nil];rfl
    .rw[ml f _ .nil (m/2) x λO=>id<|ao.node ao.nil none O];rfl
  |node l v r=>
   cases n with
   |zero=>rfl
   |succ m=>
    rw[Em];show DY (ky f) l v r m x=_;rw[OZ,En f,En f];split
    .rw[ml f _ l (m/2) x λbo=>id<|ao.node bo v r];rfl
    .rw[ml f _ r (m/2) x λO=>id<|ao.node l v O];rfl
def uw(t:ao α)(n:Nat)(x:α):ky (Nat.succ n) t n x=t.set n x:=En _ t n x
theorem Eo:∀(f:Nat) (t:ao α) (n:Nat) (x:α) (J:Nat),n<f->(iN f t n x id).get J=if J=n then some x else t.get J
 |0,_,_,_,_,h=>by omega
 |f+1,t,n,x,J,h=>by
  cases t with
  |nil=>
   cases n with
   |zero=>
    cases J with
    |zero=>rfl
    |succ J=>show(ao.node .nil (some x) .nil:ao α).get (J+1)=_;rw[o0];simp
   |succ m=>
    have I:=λi=>Eo f (.nil:ao α) (m/2) x i R;rw[El];split
    .rename_i hm;rw[ml f _ .nil (m/2) x λT=>id<|ao.node T none ao.nil];show(ao.node _ none .nil:ao α).get J=_;cases J with
     |zero=>rw[Ej];simp
     |succ J=>
      rw[o0];by_cases V:J%2=0
      .rw[aD V,I];by_cases e:J=m
       .subst e;simp
       .rw[av R,av R];simp
      .rw[av V,av R];simp
    .rename_i hm;rw[ml f _ .nil (m/2) x λO=>id<|ao.node ao.nil none O];show(ao.node .nil none _:ao α).get J=_;cases J with
     |zero=>rw[Ej];simp
     |succ J=>
      rw[o0];by_cases V:J%2=0
      .rw[aD V,av R];simp
      .rw[av V,I];by_cases e:J=m
       .subst e;simp
       .rw[av R,av R];simp
  |node l v r=>
   cases n with
   |zero=>
    cases J with
    |zero=>rfl
    |succ J=>show(ao.node l (some x) r:ao α).get (J+1)=_;rw[o0,o0,av (by omega:¬(J+1=0))]
   |succ m=>
    rw[Em];split
    .rename_i hm;have I:=λi=>Eo f l (m/2) x i R;rw[ml f _ l (m/2) x λT=>id<|ao.node T v r];show(ao.node _ v r:ao α).get J=_;cases J with
     |zero=>rfl
     |succ J=>
      rw[o0,o0]
      grind
    .rename_i hm;have I:=λi=>Eo f r (m/2) x i R;rw[ml f _ r (m/2) x λO=>id<|ao.node l v O];show(ao.node l v _:ao α).get J=_;cases J with
     |zero=>rfl
     |succ J=>
      rw[o0,o0]
      grind
def eo(t:ao α)(n:Nat)(x:α)(J:Nat):(t.set n x).get J=if J=n then some x else t.get J:=
 Eo (n+1) t n x J R
@[simp] theorem mm (t:ao α) (n:Nat) (x:α):(t.set n x).get n=some x:=by rw[eo,aD j]
def fk(t:ao α){n J:Nat}(x:α)(h:J≠n):(t.set n x).get J=t.get J:=by rw[eo,av h]
end ao
def Ja(o:aK)(d:Tmp)(v:bv):o.put (some d) v=⟨o.t.set d v,o.dd,o.aV,o.cQ,o.b4⟩:=by
 show aK.Oz (ao.ky (Nat.succ d) o.t d v) o.dd o.aV o.cQ o.b4=_;rw[ao.uw];cases o.t.set d v<;>rfl
theorem r4(o:aK)(d:be Tmp)(v:bv)(J:Nat):(o.put d v).tmp J=if d=some J then v else o.tmp J:=by
 cases d with
 |none=>simp[aK.put]
 |some d=>
  rw[Ja];simp[aK.tmp,ao.eo,Option.some.injEq];by_cases h:J=d
  .subst h;simp
  .rw[av h,av λe=>h e.symm]
def qJ(o:aK)(d:be Tmp)(v:bv):(o.put d v).dd=o.dd/\(o.put d v).aV=o.aV/\(o.put d v).cQ=o.cQ/\(o.put d v).b4=o.b4:=by
 cases d with
 |none=>simp[aK.put]
 |some d=>rw[Ja];exact⟨j,j,j,j⟩
structure Loc where
 cx:Nat
 de:Nat
 ex:Nat
 bF:Nat->Nat
def eU:Nat->Nat:=λ_=>0
def Jb:(id:Nat->Nat)≠eU:=λh=>by have:=congrFun h 1;simp[eU]at this
abbrev bH:=Nat->be Loc
def bH.le(ad aF:bH):Prop:=∀i l,ad i=some l->aF i=some l
def bH.le.refl(ad:bH):ad.le ad:=λ_ _ h=>h
theorem bH.le.trans{ad aF T:bH}(h:ad.le aF)(D:aF.le T):ad.le T:=λi l af=>D i l<|h i l af
def qK(ad:bH)(f g:Fn):Prop:=(f=g/\∀l,f≠.yield l)\/∃l b,f= .yield l/\g= .yield b/\ad l=some ⟨b,0,0,id⟩
def Jc(c:Nat)(m:Int):Prop:=c=1\/(∃k:Nat,c=2*k+2/\(k:Int)<=m)\/∃k:Nat,c=2*k+3/\m<k
inductive bd(ad:bH):Value->Value->Prop
 |bool (b:Bool):bd ad (.bool b) (.bool b)
 |int (k:IntKind) (n:Int):bd ad (.int k n) (.int k n)
 |float (k:FloatKind) (b:Nat):bd ad (.float k b) (.float k b)
 |string (s:ByteArray):bd ad (.string s) (.string s)
 |lq:bd ad (.pointer none) (.pointer none)
 |ptr (a:Addr) (l:Loc) (h:ad a.block=some l) (cy:a.spot=none):bd ad (.pointer (some a)) (.pointer (some ⟨l.cx,l.de+a.off,none⟩))
 |kl (n c:Nat):bd ad (.slice none n c) (.slice none n c)
 |ft (a:Addr) (l:Loc) (U n c:Nat) (h:ad a.block=some l) (cy:a.spot=none) (O0:U=l.de+a.off∨(n=0∧c=0∧l.ex=0)):
  bd ad (.slice (some a) n c) (.slice (some ⟨l.cx,U,none⟩) n (c+l.ex))
 |mX:bd ad (.map none) (.map none)
 |map (r b:Nat) (bF:Nat->Nat) (h:ad r=some ⟨b,0,0,bF⟩):bd ad (.map (some r)) (.map (some b))
 |func (f g:Fn) (xs aP us ab:Array Value) (apf:qK ad f g) (aC:xs.size=aP.size) (aI:∀i (h:i<xs.size) (ux:i<aP.size),bd ad xs[i] aP[i])
  (abw:us.size=ab.size) (abx:∀i (h:i<us.size) (ux:i<ab.size),bd ad us[i] ab[i]):bd ad (.func f xs us) (.func g aP ab)
 |nilFunc:bd ad .nilFunc .nilFunc
 |iface (t:TypeId) (v w:Value) (h:bd ad v w):bd ad (.iface t v) (.iface t w)
 |nilIface:bd ad .nilIface .nilIface
 |agg (xs aP:Array Value) (aC:xs.size=aP.size) (aI:∀i (h:i<xs.size) (ux:i<aP.size),bd ad xs[i] aP[i]):bd ad (.agg xs) (.agg aP)
 |tuple (xs aP:Array Value) (aC:xs.size=aP.size) (aI:∀i (h:i<xs.size) (ux:i<aP.size),bd ad xs[i] aP[i]):bd ad (.tuple xs) (.tuple aP)
 |hZ (c:Nat) (m:Int) (h:Jc c m):bd ad (.chan (some c)) (.int .i64 m)
 |emp (p:Addr) (c:Nat):bd ad (.chan none) (.slice (some p) 0 c)
 |top (c:Value):bd ad jG c
variable{ad aF:bH}
def qK.mono(hle:ad.le aF){f g:Fn}(h:qK ad f g):qK aF f g:=by
 rcases h with h|⟨l,b,Y,G,A⟩
 .exact .inl h
 .exact .inr ⟨l,b,Y,G,hle _ _ A⟩
def bd.mono(hle:ad.le aF){v w:bv}(h:bd ad v w):bd aF v w:=by
 induction h with
 |bool b=>exact .bool b
 |int k n=>exact .int k n
 |float k n=>exact .float k n
 |string s=>exact .string s
 |lq=>exact .lq
 |ptr a l h M=>exact .ptr a l (hle _ _ h) M
 |kl n c=>exact .kl n c
 |ft a l U n c h M E=>exact .ft a l U n c (hle _ _ h) M E
 |mX=>exact .mX
 |map r b bF h=>exact .map r b bF (hle _ _ h)
 |func f g xs aP O V D Y _ A _ S H=>exact .func f g xs aP O V (D.mono hle) Y S A H
 |nilFunc=>exact .nilFunc
 |iface t v w _ I=>exact .iface t v w I
 |nilIface=>exact .nilIface
 |agg xs aP Y _ I=>exact .agg xs aP Y I
 |tuple xs aP Y _ I=>exact .tuple xs aP Y I
 |hZ c m h=>exact .hZ c m h
 |emp p c=>exact .emp p c
 |top c=>exact .top c
def bI(ad:bH)(xs aP:ac bv):Prop:=xs.length=aP.length/\∀(i:Nat) (h:i<xs.length) (D:i<aP.length),bd ad xs[i] aP[i]
variable{xs aP:bi bv}
def bI.mono(hle:ad.le aF){xs aP:ac bv}(h:bI ad xs aP):bI aF xs aP:=⟨h.1,λi a b=>(h.2 i a b).mono hle⟩
def bI.nil(ad:bH):bI ad [] []:=arE
def bI.cons{ad:bH}{x y:bv}{xs aP:ac bv}(h:bd ad x y)(M:bI ad xs aP):bI ad (x::xs) (y::aP):=by
 refine⟨by simp[M.1],λi a b=>?_⟩;cases i with
 |zero=>exact h
 |succ i=>exact M.2 i asM asL
def bI.cons_inv{x:bv}{xs aP:ac bv}(h:bI ad (x::xs) aP):∃y G,aP=y::G/\bd ad x y/\bI ad xs G:=by
 cases aP with
 |nil=>have:=h.1;simp at this
 |cons y G=>
  refine⟨y,G,j,h.2 0 au au,by simpa using h.1,λi a b=>?_⟩;exact h.2 (i+1) asM asL
def bI.qL{aP:ac bv}(h:bI ad [] aP):aP=[]:=by
 cases aP with
 |nil=>rfl
 |cons y aP=>have:=h.1;simp at this
def bI.append:∀{xs aP us ab:ac bv},bI ad xs aP->bI ad us ab->bI ad (xs++us) (aP++ab)
 |[],aP,us,ab,h,D=>by rw[h.qL];simpa using D
 |x::xs,aP,us,ab,h,D=>by
  obtain⟨y,G,rfl,aC,aI⟩:=h.cons_inv;simpa using bI.cons aC (aI.append D)
def bI.drop:∀(n:Nat) {xs aP:ac bv},bI ad xs aP->bI ad (xs.drop n) (aP.drop n)
 |0,_,_,h=>by simpa using h
 |n+1,[],aP,h=>by rw[h.qL];exact arw
 |n+1,x::xs,aP,h=>by
  obtain⟨y,G,rfl,_,aI⟩:=h.cons_inv;simpa using aI.drop n
def bI.take:∀(n:Nat) {xs aP:ac bv},bI ad xs aP->bI ad (xs.take n) (aP.take n)
 |0,_,_,_=>by exact arw
 |n+1,[],aP,h=>by rw[h.qL];exact arw
 |n+1,x::xs,aP,h=>by
  obtain⟨y,G,rfl,aC,aI⟩:=h.cons_inv;simpa using bI.cons aC (aI.take n)
def bd.r5(h:bI ad xs.toList aP.toList):bd ad (.agg xs) (.agg aP):=
 .agg xs aP aqN λi a b=>by exact aqf
def bd.qM(h:bI ad xs.toList aP.toList):bd ad (.tuple xs) (.tuple aP):=
 .tuple xs aP aqN λi a b=>by exact aqf
def bI.uy(aC:xs.size=aP.size)(aI:∀i (h:i<xs.size) (D:i<aP.size),bd ad xs[i] aP[i]):bI ad xs.toList aP.toList:=
 ⟨by simpa using aC,λi a b=>by have:=aI i R R;rwa [<-kU,<-kU]at this⟩
def bd.A7{f g:Fn}{us ab:bi bv}(j:qK ad f g)(h:bI ad xs.toList aP.toList)(D:bI ad us.toList ab.toList):bd ad (.func f xs us) (.func g aP ab):=
 .func f g xs aP us ab j aqN (λi a b=>by have:=h.2 i R R;rwa [kU,kU]at this) (by simpa using D.1) λi a b=>by have:=D.2 i R R;rwa [kU,kU]at this
theorem bI.cells{v w:bv}(h:bd ad v w)(hp:v≠jG):bI ad v.cells.toList w.cells.toList:=by
 cases h<;>first
  |exact absurd j hp
  |(rename_i xs aP Y G;exact bI.uy Y G)
  |(refine bI.cons ?_ (bI.nil ad);constructor<;>assumption)
end Go.bC
namespace Go.bC
section
variable{α β:Type}{r z:β}
variable{v:bv}{x:β}{k:α->β}{a b:Nat}{l:ac α}{n:Nat}{U:be α}
def A8{k:be Addr->β}(h:hG v k z=r)(Z:z≠r):∃p,v= .pointer p/\k p=r:=by
 cases v<;>first|exact absurd h Z|exact⟨_,j,h⟩
def od{k:f6->Int->β}(h:fX v k z=r)(Z:z≠r):∃a n,v= .int a n/\k a n=r:=by
 cases v<;>first|exact absurd h Z|exact⟨_,_,j,h⟩
def O1{k:Bool->β}(h:kj v k z=r)(Z:z≠r):∃b,v= .bool b/\k b=r:=by
 cases v<;>first|exact absurd h Z|exact⟨_,j,h⟩
def yC{k:f9->β}(h:hX v k z=r)(Z:z≠r):∃s,v= .string s/\k s=r:=by
 cases v<;>first|exact absurd h Z|exact⟨_,j,h⟩
def yD{k:be Addr->Nat->Nat->β}(h:hY v k z=r)(Z:z≠r):∃a n c,v= .slice a n c/\k a n c=r:=by
 cases v<;>first|exact absurd h Z|exact⟨_,_,_,j,h⟩
def A9{k:bi bv->β}(h:rZ v k z=r)(Z:z≠r):∃a,v= .agg a/\k a=r:=by
 cases v<;>first|exact absurd h Z|exact⟨_,j,h⟩
def O2{k:bi bv->β}(h:qF v k z=r)(Z:z≠r):∃a,v= .tuple a/\k a=r:=by
 cases v<;>first|exact absurd h Z|exact⟨_,j,h⟩
def Jd{k:Fn->bi bv->bi bv->β}(h:yv v k z=r)(Z:z≠r):∃f a b,v= .func f a b/\k f a b=r:=by
 cases v<;>first|exact absurd h Z|exact⟨_,_,_,j,h⟩
def Je{k:co->bv->β}(h:yw v k z=r)(Z:z≠r):∃t x,v= .iface t x/\k t x=r:=by
 cases v<;>first|exact absurd h Z|exact⟨_,_,j,h⟩
def ie(h:bq U k z=r)(Z:z≠r):∃a,U=some a/\k a=r:=by
 cases U<;>first|exact absurd h Z|exact⟨_,j,h⟩
def yE(h:bq U k z=r)(aw:∀a,k a≠r):U=none/\z=r:=by
 cases U<;>first|exact⟨j,h⟩|exact absurd h<|aw _
def pR{n:Int}{k:Nat->β}(h:hJ n k z=r)(Z:z≠r):∃m:Nat,n=(m:Int)/\k m=r:=by
 cases n with
 |ofNat m=>exact⟨m,j,h⟩
 |negSucc m=>exact absurd h Z
def lQ:Nat.ble a b=true↔a<=b:=au
theorem lR(a b:Nat)(x y:β):ev a b x y=if a<=b then x else y:=by
 rw[ev]
 simp_all
theorem mn(a b:Nat)(x y:β):dL a b x y=if a=b then x else y:=by
 rw[dL]
 simp_all
theorem jq(h:ev a b x z=r)(Z:z≠r):a<=b/\x=r:=by
 grind [lR]
theorem kA(h:dL a b x z=r)(Z:z≠r):a=b/\x=r:=by
 grind [mn]
def jr{b:Bool}(h:cond b x z=r)(Z:z≠r):b=true/\x=r:=by
 cases b
 .exact absurd h Z
 .exact⟨j,h⟩
def yF{b:Bool}(h:cond b z x=r)(Z:z≠r):b=false/\x=r:=by
 cases b
 .exact⟨j,h⟩
 .exact absurd h Z
@[simp] theorem e4:∀l:ac α,dE l=l.length
 |[]=>rfl
 |x::xs=>by show Nat.succ (dE xs)=_;rw[e4 xs];rfl
@[simp] theorem pS (m:ac α):∀l:ac α,fr l m=l++m
 |[]=>rfl
 |x::xs=>by show x::fr xs m=_;rw[pS m xs];rfl
@[simp] theorem Ba:∀(n:Nat) (l:ac α),Eb n l=l.drop n
 |0,l=>rfl
 |n+1,[]=>rfl
 |n+1,x::xs=>by show Eb n xs=_;rw[Ba n xs];rfl
theorem Bb:∀(n:Nat) (l:ac α),Ea n l=if n<=l.length then some (l.take n)else none
 |0,l=>by rfl
 |n+1,[]=>rfl
 |n+1,x::xs=>by
  show Option.rec (motive:=λ_=>be<|ac α) none (λr=>some<|x::r) (Ea n xs)=_;rw[Bb n xs];by_cases h:n<=xs.length
  .simp_all
  .rw[av h,av apH]
def yG(h:one l k z=r)(Z:z≠r):∃x,l=[x]/\k x=r:=by
 cases l with
 |nil=>exact absurd h Z
 |cons x xs=>
  cases xs with
  |nil=>exact⟨x,j,h⟩
  |cons y aP=>exact absurd h Z
theorem r6{N:Nat}{k:ac α->β}(h:hK l N n k z=r)(Z:z≠r):n<=(l.drop N).length/\k ((l.drop N).take n)=r:=by
 rw[hK]at h;rw[Ba,Bb]at h;split at h
 .exact⟨pT,h⟩
 .exact absurd h Z
theorem pU:∀(l:ac α) (n:Nat) (ab:ac α) (k:ac α->β) (z:β),
 pK l n ab k z=if n+ab.length<=l.length then k (l.take n++(ab++l.drop (n+ab.length)))else if ab=[]then k l else z
 |[],n,[],k,z=>by
  by_cases h:n=0
  .subst h;rfl
  .rw[av R];rfl
 |[],n,v::ab,k,z=>by rfl
 |y::aP,0,[],k,z=>by rfl
 |y::aP,0,v::ab,k,z=>by
  show pK aP 0 ab (λbo=>k<|v::bo) z=_;rw[pU aP 0 ab]
  grind
 |y::aP,n+1,ab,k,z=>by
  show pK aP n ab (λbo=>k<|y::bo) z=_;rw[pU aP n ab]
  grind
theorem Jf{ab:ac α}{k:ac α->β}(h:pK l n ab k z=r)(Z:z≠r):
 (n+ab.length<=l.length/\k (l.take n++(ab++l.drop (n+ab.length)))=r)\/(ab=[]/\k l=r):=by
 rw[pU]at h
 grind
def yH{st:ak}{a:Addr}{k:ac bv->co->Nat×Nat->Bool->β}(h:st.fI a k z=r)(Z:z≠r):
 a.spot=none/\∃cs elem bY aR,st.h.get a.block=some (.cells cs elem bY aR)/\k cs elem bY aR=r:=by
 have⟨Y,G⟩:=yE h λ_=>Z;refine⟨Y,?_⟩;have⟨U,E,A⟩:=ie G Z;cases U<;>first|exact absurd A Z|exact⟨_,_,_,_,E,A⟩
def Ep{st:ak}{a:Addr}{k:ac bv->β}(h:st.load a n k z=r)(Z:z≠r):
 a.spot=none/\∃cs elem bY aR,st.h.get a.block=some (.cells cs elem bY aR)/\n<=(cs.drop a.off).length/\k ((cs.drop a.off).take n)=r:=by
 have⟨Y,cs,e,bY,aR,G,A⟩:=yH h Z;have⟨T,C⟩:=r6 A Z;exact⟨Y,cs,e,bY,aR,G,T,C⟩
def ja(st:ak)(id:Nat)(U:bx)(k:ak->β):st.g8 id U k=k ⟨st.h.set id U,st.ae⟩:=by
 rw[ak.g8,ao.uw,ao.o1]
def wA(n:Nat)(k:Nat->β):fW n k=k n:=by rw[fW];rw[kT];rfl
def gj(st:ak)(U:bx)(k:Nat->ak->β):st.iD U k=k st.ae ⟨st.h.set st.ae U,st.ae+1⟩:=by
 rw[ak.iD,wA,ao.uw,ao.o1]
def aby(n:Int)(k:Int->β):OA n k=k n:=by
 cases n with
 |ofNat m=>exact wA m (λm=>k<|.ofNat m)
 |negSucc m=>exact wA m λm=>k<|.negSucc m
def iP(a:f6)(n:Int)(c:bv->β):iE a n c=c (.int a n):=aby _ _
def O3{st:ak}{a:Addr}{ab:ac bv}{k:ak->β}(h:st.store a ab k z=r)(Z:z≠r):
 a.spot=none/\∃cs elem bY aR,st.h.get a.block=some (.cells cs elem bY aR)/\bY.2<=bY.1/\
  ((a.off+ab.length<=cs.length/\k ⟨st.h.set a.block<|.cells (cs.take a.off++(ab++cs.drop (a.off+ab.length))) elem bY aR,st.ae⟩=r)\/
   (ab=[]/\k ⟨st.h.set a.block<|.cells cs elem bY aR,st.ae⟩=r)):=by
 have⟨Y,cs,e,bY,aR,G,g⟩:=yH h Z;have⟨T,j⟩:=jq g Z;refine⟨Y,cs,e,bY,aR,G,T,?_⟩;obtain⟨A,C⟩|⟨A,C⟩:=Jf j Z
 .left;refine⟨A,?_⟩;rw[ja]at C;exact C
 .right;refine⟨A,?_⟩;rw[ja]at C;exact C
end
structure mY(P:f8)(ad:bH)(w:f5)(cs:ac bv)(elem:co)(bY:Nat×Nat)(aR:Bool)(l:Loc)(C:bi bv)(fu:Nat×Nat):Prop where
 there:∃kY,w.heap[l.cx]? =some (.cells C kY fu)∧(bY.2<=bY.1∨aR=false->kY=elem)
 jK:l.de+cs.length<=C.size
 room:bY.2<=bY.1∨aR=false->l.de+cs.length+l.ex*P.cellsOf elem<=C.size
 cell:∀(i:Nat) (h:i<cs.length),∃c,C[l.de+i]? =some c∧bd ad cs[i] c
 s7:bY.2<=bY.1->∀i,l.de<=i->i<l.de+cs.length+l.ex*P.cellsOf elem->¬(fu.1<=i∧i<fu.2)
 plain:aR=false->l.ex=0∧l.de=0∧C.size=cs.length
variable{P:f8}{ad:bH}{w:f5}{cs:ac bv}{elem:co}{bY:Nat×Nat}{aR:Bool}{l:Loc}{fu:Nat×Nat}
def mY.ex{C:bi bv}(h:mY P ad w cs elem bY aR l C fu):∃G,w.heap[l.cx]? =some (.cells C G fu):=let⟨e,h,_⟩:=h.there;⟨e,h⟩
def mY.wB{C:bi bv}(h:mY P ad w cs elem bY aR l C fu)(g:bY.2<=bY.1\/aR=false):w.heap[l.cx]? =some (.cells C elem fu):=by
 have⟨e,Y,G⟩:=h.there;rw[Y,G g]
def yI(t:ao bv)(n:Nat):bv:=Option.rec (motive:=λ_=>bv) (.chan<|some 0) (λv=>v)<|t.get n
def Er:be c6->be Code->Prop
 |none,none=>True
 |some (.exit i),some (.exit J)=>i=J
 |some .ret,some .ret=>True
 |_,_=>False
structure Jg(bF:Nat->Nat)(clock:Nat):Prop where
 inj:∀s t,s<clock->t<clock->bF s=bF t->s=t
 lt:∀s,s<clock->bF s<bF clock
 up:∀J,bF (clock+J)=bF clock+J
structure jL(ad:bH)(bF:Nat->Nat)(es:ac f7)(clock:Nat)(C:ac f7)(mo:Nat):Prop where
 js:mo=bF clock
 mZ:Jg bF clock
 born:∀e∈es,e.born<clock
 keys:es.Pairwise (fun a b=>a.key≠b.key)
 jM:es.Pairwise (fun a b=>a.born≠b.born)
 same:∃l:ac f7,l.Perm es∧l.length=C.length∧∀(i:Nat) (h:i<l.length) (ux:i<C.length),bd ad l[i].key C[i].key∧bd ad l[i].val C[i].val∧C[i].born=bF l[i].born
def jL.mono{aF:bH}{bF:Nat->Nat}{es:ac f7}{clock:Nat}{C:ac f7}{mo:Nat}(hle:ad.le aF)(h:jL ad bF es clock C mo):jL aF bF es clock C mo:=
 ⟨h.js,h.mZ,h.born,h.keys,h.jM,let⟨l,Y,G,A⟩:=h.same;⟨l,Y,G,λi a b=>⟨(A i a b).1.mono hle,(A i a b).2.1.mono hle,(A i a b).2.2⟩⟩⟩
structure Ctx where
 P:f8
 ok:d7->Code->du->Prop
 a3:Nat
 ll:d7->Bool
 lO:d7->Bool
 Bc:∀f,ll f=true->∀x w,(callFunc f #[x]).run P w= .ok (.value x) w
 Bd:∀f,lO f=true->∀s c w,(callFunc f #[.string s,.int .u8 c]).run P w= .ok (.value (goInt (match(List.range s.size).find? (fun i=>s[i]! ==c.toNat.toUInt8)with|some i=>(i:Int)|none=> -1))) w
 keys:co->be fH
 r7:∀k ct,keys k=some ct->Maps.Keyed P k∧∀v,ct.ok v=true->∃l,keyOf P k v=some l
 pV:d7->Bool
 Be:∀f,pV f=true->∀s c w,(callFunc f #[.string s,.int .u8 c]).run P w= .ok (.value (goInt (s.data.toList.countP (fun b=>b==c.toNat.toUInt8):Nat))) w
 pW:d7->Bool
 lS:Nat
 Bf:lS<a3
 Bg:∀f,pW f=true->∀(s b:f9) (m:Int) w,(load ⟨lS,0,none⟩).run P w= .ok (.int .i64 m) w->2<=b.size->(b.size:Int)<=m->s.size<=1000000->
  (callFunc f #[.string s,.string b]).run P w= .ok (.value (goInt (match pN b.data.toList s.data.toList with|some i=>(i:Int)|none=> -1))) w
 eqs:co->be Nat
 wC:∀t n,eqs t=some n->P.eqGuardType P.depth t=false∧∀xs aP b w,xs.size=n%100+n/100->aP.size=n%100+n/100->qH (n%100) xs.toList aP.toList=some b->(Op.equalIn 10000 t (.agg xs) (.agg aP)).run P w= .ok b w
variable(X:Ctx)
def hz(ad:bH)(w:f5)(U:bx)(l:Loc):Prop:=
 match U with
 |.cells cs elem bY aR=>∃C fu,mY X.P ad w cs elem bY aR l C fu
 |.map es clock=>l.de=0/\l.ex=0/\∃C mo,w.heap[l.cx]? =some (.map C mo)/\jL ad l.bF es clock C.toList mo
 |.IU s pos=>l.de=0/\l.ex=0/\w.heap[l.cx]? =some (.stringIter s pos)
 |.nr m D V O=>l.de=0/\l.ex=0/\∃R j g h,w.heap[l.cx]? =some (.mapIter R j g h)/\
  (m=none/\R=none\/∃r b bF,m=some r/\R=some b/\ad r=some ⟨b,0,0,bF⟩/\j=bF D/\g.toList=V.map bF/\h=bF O)
 |.loop s gi fn t a7 Q body d=>l.de=0/\l.ex=0/\∃L:Loop,w.heap[l.cx]? =some (.loop L)/\L.state=s/\Er gi L.pending/\L.fn=fn/\
  (∀n,bd ad (yI t n)<|L.tmps.getD n undef)/\L.params.toList=a7/\X.ok fn L.assign Q/\X.ok fn L.body body/\ad d=some ⟨L.defers,0,0,id⟩/\
  (∃F,X.P.funcs[fn]? =some F/\L.tmps.size=F.ntmps)/\∀t∈a7,t<L.tmps.size
 |.j1 q=>l.de=0/\l.ex=0/\((q=some []/\w.heap[l.cx]? =some (.deferred<|some []))\/(q=none/\w.heap[l.cx]? =some (.deferred none)))
 |.dead=>True
def bx.s8:bx->Prop
 |.cells _ _ bY _=>bY.1<bY.2
 |_=>False
structure bQ(ad:bH)(st:ak)(w:f5):Prop where
 eB:∀id U,st.h.get id=some U->U≠.dead->∃l,ad id=some l∧hz X ad w U l
 inj:∀i J U p l m,st.h.get i=some U->U≠.dead->st.h.get J=some p->p≠.dead->ad i=some l->ad J=some m->(l.bF≠eU∨m.bF≠eU)->l.cx=m.cx->i=J
 fresh:∀id,st.ae<=id->ad id=none∧st.h.get id=none
 fK:∀id l,ad id=some l->l.cx<w.heap.size
 kB:∀g,g<X.a3->ad g=some ⟨g,0,0,eU⟩
 m0:X.a3<=st.ae
 km:∀i l U,ad i=some l->l.bF=eU->st.h.get i=some U->U≠.dead->U.s8
def qN(w w':f5):Prop:=w'.os=w.os/\w'.output=w.output
structure eb(ad aF:bH)(w w':f5):Prop where
 le:ad.le aF
 size:w.heap.size<=w'.heap.size
 kept:∀b,b<w.heap.size->(∀id l,ad id=some l->l.bF≠eU->l.cx≠b)->w'.heap[b]? =w.heap[b]?
 new:∀id l,aF id=some l->ad id=some l∨w.heap.size<=l.cx∨∃J m,ad J=some m∧m.bF≠eU∧m.cx=l.cx
 fQ:qN w w'
variable{w':f5}{aF:bH}
def eb.refl(ad:bH)(w:f5):eb ad ad w w:=⟨.refl ad,cf _,λ_ _ _=>j,λ_ _ h=>.inl h,fe⟩
theorem eb.trans{T:bH}{S:f5}(h:eb ad aF w w')(D:eb aF T w' S):eb ad T w S:=by
 refine⟨h.le.trans D.le,ch h.size D.size,λb C af=>?_,λid l B=>?_,⟨D.fQ.1.trans h.fQ.1,D.fQ.2.trans h.fQ.2⟩⟩
 .rw[D.kept b (e2 C h.size) ?_,h.kept b C af];intro id l B M e;obtain aj|aj|⟨J,m,V,K,hm⟩:=h.new id l B
  .exact af id l aj M e
  .omega
  .exact af J m V K R
 .obtain aj|aj|⟨J,m,V,M,hm⟩:=D.new id l B
  .exact h.new id l aj
  .exact .inr<|.inl<|ch h.size aj
  .obtain Y|Y|⟨g,q,Y,G,A⟩:=h.new J m V
   .exact .inr<|.inr ⟨J,m,Y,M,hm⟩
   .exact .inr<|.inl R
   .grind
def mY.mono{C:bi bv}
 (h:mY P ad w cs elem bY aR l C fu) (hle:ad.le aF) (e:w'.heap[l.cx]? =w.heap[l.cx]?):mY P aF w' cs elem bY aR l C fu:=
 ⟨by rw[e];exact h.there,h.jK,h.room,λi af=>let⟨c,Y,G⟩:=h.cell i af;⟨c,Y,G.mono hle⟩,h.s7,h.plain⟩
def hz.mono{U:bx}(h:hz X ad w U l)(hle:ad.le aF)(e:w'.heap[l.cx]? =w.heap[l.cx]?):hz X aF w' U l:=by
 cases U with
 |cells cs elem bY aR=>have⟨C,fu,W⟩:=h;exact⟨C,fu,W.mono hle e⟩
 |map es clock=>
  have⟨F,S,C,E,Y,G⟩:=h;exact⟨F,S,C,E,by rwa [e],G.mono hle⟩
 |IU s pos=>have⟨F,S,Y⟩:=h;exact⟨F,S,by rwa [e]⟩
 |nr m D V O=>
  have⟨F,S,R,r8,M,I,Y,G⟩:=h;refine⟨F,S,R,r8,M,I,by rwa [e],?_⟩;obtain G|⟨r,b,bF,A,T,j,H⟩:=G
  .exact .inl G
  .exact .inr ⟨r,b,bF,A,T,hle _ _ j,H⟩
 |loop s gi fn t a7 Q body d=>
  have⟨F,S,L,Y,G,A,T,j,H,K,N,B,g⟩:=h;exact⟨F,S,L,by rwa [e],G,A,T,λn=>(j n).mono hle,H,K,N,hle _ _ B,g⟩
 |j1 q=>
  have⟨F,S,Y⟩:=h;refine⟨F,S,?_⟩;rw[e];exact Y
 |dead=>trivial
def bQ.uz{st:ak}(h:bQ X ad st w)(e:w'.heap=w.heap):bQ X ad st w':=by
 refine⟨λid U E T=>?_,h.inj,h.fresh,λid l B=>by rw[e];exact h.fK id l B,h.kB,h.m0,h.km⟩;have⟨l,B,hm⟩:=h.eB id U E T;exact⟨l,B,hz.mono X hm atJ<|by rw[e]⟩
def eb.uz(ad:bH)(e:w'.heap=w.heap)(fQ:qN w w':=by exact fe):eb ad ad w w':=
 ⟨.refl ad,by rw[e];exact cf _,λ_ _ _=>by rw[e],λ_ _ h=>.inl h,fQ⟩
def gD(ad:bH)(id:Nat)(l:Loc):bH:=λi=>if i=id then some l else ad i
theorem bQ.alloc{st:ak}(h:bQ X ad st w)(U:bx)(O:Obj)(ex:Nat)
 (hm:∀aF w',ad.le aF->aF st.ae=some ⟨w.heap.size,0,ex,id⟩->w'.heap[w.heap.size]? =some O->hz X aF w' U ⟨w.heap.size,0,ex,id⟩) (w':f5) (F:w'.heap=w.heap.push O) (fQ:qN w w':=by exact fe):
 ∃aF,bQ X aF ⟨st.h.set st.ae U,st.ae+1⟩ w'/\eb ad aF w w'/\aF st.ae=some ⟨w.heap.size,0,ex,id⟩/\aF=gD ad st.ae ⟨w.heap.size,0,ex,id⟩:=by
 refine⟨λi=>if i=st.ae then some ⟨w.heap.size,0,ex,id⟩else ad i,?_,?_,aD j,j⟩
 .have hle:ad.le (λi=>if i=st.ae then some ⟨w.heap.size,0,ex,id⟩else ad i):=by
   exact aqa
  refine⟨λid p hp T=>?_,λi J p q l m af Y V L I A K e=>?_,λid H=>?_,λid l B=>?_,λg K=>(hle _ _<|h.kB g K),sO h.m0,λi l p B M hp T=>?_⟩
  .rw[ao.eo]at hp;by_cases e:id=st.ae
   .grind
   .rw[av e]at hp;obtain⟨l,B,E⟩:=h.eB id p hp T;refine⟨l,hle _ _ B,hz.mono X E hle ?_⟩;have:=h.fK id l B
    grind
  .rw[ao.eo]at af V;by_cases h0:i=st.ae<;>by_cases G:J=st.ae
   .rw[h0,G]
   .exfalso;simp[av G]at A;simp[aD h0]at I;have:=h.fK J m A;cases I;simp only at e;omega
   .exfalso;simp[av h0]at I;simp[aD G]at A;have:=h.fK i l I;cases A;simp only at e;omega
   .simp[av h0]at I af;simp[av G]at A V;exact h.inj i J p q l m af Y V L I A K e
  .have D:st.ae+1<=id:=H;have:=h.fresh id R;refine⟨?_,?_⟩
   .grind
   .rw[ao.eo,av R];exact this.2
  .rw[F,Array.size_push];by_cases e:id=st.ae
   .simp[aD e]at B;cases B;simp
   .simp[av e]at B;have:=h.fK id l B;omega
  .rw[ao.eo]at hp;by_cases e:i=st.ae
   .simp[aD e]at B;cases B;exact absurd M Jb
   .simp[av e]at B hp;exact h.km i l p B M hp T
 .refine⟨?_,by rw[F];simp,λb C _=>by rw[F,Ds,av R],λid l B=>?_,fQ⟩
  .exact aqa
  .grind
theorem bQ.yJ{st:ak}(h:bQ X ad st w){id:Nat}{oe:bx}(h₀:st.h.get id=some oe)(R:oe≠.dead)(N:¬oe.s8)(aB:ad id=some l)(U:bx)(O:Obj)
 (w':f5) (F:w'.heap=w.heap.setIfInBounds l.cx O) (hm:U≠.dead->w'.heap[l.cx]? =some O->hz X ad w' U l) (fQ:qN w w':=by exact fe):
 bQ X ad ⟨st.h.set id U,st.ae⟩ w'/\eb ad ad w w':=by
 have C:=h.fK id l aB;have ab:l.bF≠eU:=λe=>N<|h.km id l oe aB e h₀ R;refine⟨⟨λJ p hp T=>?_,λi J p q a b af Y V ai I a' G e=>?_,λJ V=>?_,λJ a A=>?_,h.kB,h.m0,λJ a p A M hp T=>?_⟩,?_⟩
 .rw[ao.eo]at hp;by_cases e:J=id
  .grind
  .rw[av e]at hp;obtain⟨m,Q,E⟩:=h.eB J p hp T;refine⟨m,Q,hz.mono X E atJ ?_⟩;have ah:m.cx≠l.cx:=λH=>e<|h.inj J id p oe m l hp T h₀ R Q aB (.inr ab) H
   grind
 .rw[ao.eo]at af V;have L:∃D,st.h.get i=some D/\D≠.dead:=by
   grind
  have W:∃D,st.h.get J=some D/\D≠.dead:=by
   grind
  obtain⟨D,g,aa⟩:=L;obtain⟨K,B,S⟩:=W;exact h.inj i J D K a b g aa B S I a' G e
 .have:=h.fresh J V;refine⟨this.1,?_⟩;rw[ao.eo,av];exact this.2
  grind
 .rw[F];simpa using h.fK J a A
 .rw[ao.eo]at hp;by_cases e:J=id
  .grind
  .rw[av e]at hp;exact h.km J a p A M hp T
 .refine⟨.refl ad,by rw[F];simp,λb _ af=>?_,λ_ _ Z=>.inl Z,fQ⟩
  grind
end Go.bC
namespace Go.bC
mutual
def kC:bv->Bool
 |.bool _|.int _ _|.float _ _|.string _|.pointer none|.slice none _ _|.map none|.nilFunc|.nilIface=>true
 |.func (.func _) x y=>Bh x&&Bh y
 |.iface _ v=>kC v
 |.agg a|.tuple a=>Bh a
 |_=>false
def Bh:bi bv->Bool
 |⟨a⟩=>wD a
def wD:ac bv->Bool
 |[]=>true
 |a::as=>kC a&&wD as
end
mutual
theorem bd.pure(ad:bH):∀v:bv,kC v=true->bd ad v v
 |.bool b,_=>.bool b
 |.int k n,_=>.int k n
 |.float k n,_=>.float k n
 |.complex _ _ _,h=>by simp[kC]at h
 |.string s,_=>.string s
 |.pointer none,_=>.lq
 |.pointer (some _),h=>by simp[kC]at h
 |.slice none n c,_=>.kl n c
 |.slice (some _) _ _,h=>by simp[kC]at h
 |.map none,_=>.mX
 |.map (some _),h=>by simp[kC]at h
 |.chan _,h=>by simp[kC]at h
 |.func (.func f) x y,h=>by
  simp[kC,c1]at h;exact bd.A7 (.inl ⟨j,au⟩) (bI.h1 ad x h.1) (bI.h1 ad y h.2)
 |.func (.method _) _ _,h=>by simp[kC]at h
 |.func (.methodOf _ _) _ _,h=>by simp[kC]at h
 |.func (.via _ _ _ _) _ _,h=>by simp[kC]at h
 |.func (.yield _) _ _,h=>by simp[kC]at h
 |.nilFunc,_=>.nilFunc
 |.iface t v,h=>.iface t v v (bd.pure ad v atp)
 |.nilIface,_=>.nilIface
 |.agg a,h=>bd.r5 (bI.h1 ad a atp)
 |.tuple a,h=>bd.qM<|bI.h1 ad a atp
theorem bI.h1(ad:bH):∀v:bi bv,Bh v=true->bI ad v.toList v.toList
 |⟨a⟩,h=>bI.wE ad a<|by simpa[Bh]using h
theorem bI.wE(ad:bH):∀v:ac bv,wD v=true->bI ad v v
 |[],_=>bI.nil ad
 |a::as,h=>by
  simp[wD,c1]at h;exact bI.cons (bd.pure ad a h.1)<|bI.wE ad as h.2
end
theorem bd.undef(ad:bH):bd ad undef undef:=bd.pure ad _ j
def gk(a3:Nat):ce->Bool
 |.tmp _=>true
 |.const v=>kC v
 |.global g=>Nat.ble (Nat.succ g) a3
 |.func _=>true
def Es(ad:bH)(d e:Deferred):Prop:=
 bI ad d.args.toList e.args.toList/\
 match d.target,e.target with
 |.fn f c,.fn g E=>qK ad f g/\bI ad c.toList E.toList
 |.collected r,.collected b=>ad r=some ⟨b,0,0,id⟩
 |_,_=>False
variable{ad aF:bH}
def s9(ad:bH):ac Deferred->ac Deferred->Prop
 |[],[]=>True
 |d::aM,e::es=>Es ad d e/\s9 ad aM es
 |_,_=>False
def Es.mono(hle:ad.le aF){d e:Deferred}(h:Es ad d e):Es aF d e:=by
 have⟨Y,G⟩:=h;refine⟨Y.mono hle,?_⟩;cases T:d.target<;>cases D:e.target<;>simp[T,D]at G⊢
 .exact⟨G.1.mono hle,G.2.mono hle⟩
 .exact hle _ _ G
def s9.mono(hle:ad.le aF):∀{aM es:ac Deferred},s9 ad aM es->s9 aF aM es
 |[],[],_=>trivial
 |_::_,_::_,h=>⟨h.1.mono hle,s9.mono hle h.2⟩
 |[],_::_,h=>h.elim
 |_::_,[],h=>h.elim
structure eZ(ad:bH)(o:aK)(a:Act)(aN:Nat):Prop where
 tmp:∀t,bd ad (o.tmp t) (a.tmps.getD t undef)
 size:a.tmps.size=aN
 dd:s9 ad o.dd a.defers
def eZ.mono(hle:ad.le aF){o:aK}{a:Act}{aN:Nat}(h:eZ ad o a aN):eZ aF o a aN:=
 ⟨λt=>(h.tmp t).mono hle,h.size,h.dd.mono hle⟩
variable{X:Ctx}
variable{o:aK}{a:Act}{aN:Nat}
theorem eZ.ar{st:ak}{w:f5}(h:eZ ad o a aN)(F:bQ X ad st w){x:ce}(O:gk X.a3 x=true):bd ad (o.ar x) (a.eval x):=by
 cases x with
 |tmp t=>exact h.tmp t
 |const v=>exact bd.pure ad v O
 |global g=>
  have:=bd.ptr ⟨g,0,none⟩ ⟨g,0,0,eU⟩ (F.kB g<|lQ.1 O) j;show bd ad (.pointer<|some ⟨g,0,none⟩) (.pointer<|some ⟨g,0,none⟩);exact apE
 |func f=>exact bd.A7 (.inl ⟨j,au⟩) (bI.nil ad)<|bI.nil ad
theorem eZ.put(h:eZ ad o a aN){d:be Tmp}(T:∀t,d=some t->t<aN){v bE:bv}(S:bd ad v bE):eZ ad (o.put d v) (a.put d bE) aN:=by
 cases d with
 |none=>exact h
 |some d=>
  refine⟨λt=>?_,by simp[Act.put,h.size],by rw[(qJ o (some d) v).1];exact h.dd⟩;rw[r4];have aW:d<a.tmps.size:=by rw[h.size];exact T d j
  simp[Act.put,Option.some.injEq];by_cases e:d=t
  .simp_all
  .rw[av e];have:=h.tmp t
   simp_all
def Jh(aF:bH)(v:bv)(n:Next):Prop:=(∃bE,n= .value bE/\bd aF v bE)\/(n= .skip/\v=undef)
def m1(X:Ctx)(ad:bH)(w:f5)(v:bv)(al:ak)(s:Sem Next):Prop:=
 ∃aF n w',s.run X.P w= .ok n w'/\Jh aF v n/\bQ X aF al w'/\eb ad aF w w'
def og(X:Ctx)(ad:bH)(w:f5)(v:bv)(st al:ak)(s:Sem Next):Prop:=
 al=st/\bQ X ad st w/\∃bE,s.run X.P w= .ok (.value bE) w/\bd ad v bE
variable{w:f5}{v:bv}{s:Sem Next}
def og.same{bE:bv}{st:ak}(F:bQ X ad st w)(I:s.run X.P w= .ok (.value bE) w)(S:bd ad v bE):og X ad w v st st s:=
 ⟨j,F,bE,I,S⟩
def og.yK{st al:ak}(h:og X ad w v st al s):m1 X ad w v al s:=by
 obtain⟨rfl,F,bE,I,S⟩:=h;exact aq4 aq4
def Et(X:Ctx)(ad:bH)(w:f5)(v:bv)(st al:ak)(s:Sem Next):Prop:=
 ∃U O ex bE w',al=⟨st.h.set st.ae U,st.ae+1⟩/\U≠.dead/\s.run X.P w= .ok (.value bE) w'/\w'.heap=w.heap.push O/\
  bd (gD ad st.ae ⟨w.heap.size,0,ex,id⟩) v bE/\bQ X (gD ad st.ae ⟨w.heap.size,0,ex,id⟩) al w'/\eb ad (gD ad st.ae ⟨w.heap.size,0,ex,id⟩) w w'
def Et.yK{st al:ak}(h:Et X ad w v st al s):m1 X ad w v al s:=by
 have⟨U,O,ex,bE,w',_,_,I,_,S,hw,N⟩:=h;exact⟨_,_,w',I,.inl ⟨bE,j,S⟩,hw,N⟩
def m1.same{bE:bv}{st:ak}(F:bQ X ad st w)(I:s.run X.P w= .ok (.value bE) w)(S:bd ad v bE):m1 X ad w v st s:=
 aq4
end Go.bC
namespace Go.bC
variable{X:Ctx}
variable{w:f5}{bY:Nat×Nat}{b U:Nat}{e:co}{P:f8}
def cell_of{C:bi bv}(h:w.heap[b]? =some (.cells C e bY)):w.cell? ⟨b,U,none⟩=C[U]? :=by
 simp[World.cell?,h]
def abz{C:bi bv}(h:w.heap[b]? =some (.cells C e bY)):w.frozen? ⟨b,U,none⟩=(decide (bY.1<=U)&&decide (U<bY.2)):=by
 simp[World.frozen?,h]
theorem mY.row{ad:bH}{cs:ac bv}{elem:co}{aR:Bool}{l:Loc}{C:bi bv}{fu:Nat×Nat}
 (h:mY P ad w cs elem bY aR l C fu) (N n:Nat) (aj:n<=(cs.drop N).length):bI ad ((cs.drop N).take n) ((C.toList.drop<|l.de+N).take n):=by
 have g:(cs.drop N).length=cs.length-N:=au
 have Q:=h.jK;refine⟨by simp;omega,λi a b=>?_⟩;simp at a b;obtain⟨c,Y,G⟩:=h.cell (N+i) R
 grind
theorem O4{n:Nat}{C:bi bv}(h:w.heap[b]? =some (.cells C e bY))(aj:U+n<=C.size):
 (loadCells ⟨b,U,none⟩ n).run P w= .ok ((C.toList.drop U).take n).toArray w:=by
 have B:((C.toList.drop U).take n).length=n:=by simp;omega
 have:=run_loadCells_list (P:=P) w ⟨b,U,none⟩ ((C.toList.drop U).take n) (λJ v V=>by
  have Q:J<n:=by
   grind
  have S:(Addr.add ⟨b,U,none⟩ J)=⟨b,U+J,none⟩:=by rw[Addr.add];split<;>simp_all
  rw[S,cell_of h];rw[nn,aD Q]at V;simpa using V)
 rwa [B]at this
section
variable{ad:bH}{w:f5}
def mY.hA{cs:ac bv}{fu:Nat×Nat}{aR:Bool}{l:Loc}{C:bi bv}(aQ:mY P ad w cs e bY aR l C fu){N m:Nat}(E:N=l.de+U\/m=0)(aj:m<=(cs.drop U).length):
 bI ad ((cs.drop U).take m) ((C.toList.drop N).take m)/\∀w':f5,w'.heap=w.heap->(loadCells ⟨l.cx,N,none⟩ m).run P w'= .ok ((C.toList.drop N).take m).toArray w':=by
 by_cases F:m=0
 .subst F;simp[loadCells,loadCellsFrom,bI.nil]
 .obtain rfl:=E.resolve_right F;have:=aQ.jK;have h:=aj;rw[iX]at h;exact ar3 ar3
theorem Ji:∀{bT:ac Int} {aP:ac bv},bI ad (bT.map<|Value.int .u8) aP->aP=bT.map (Value.int .u8)
 |[],_,h=>h.qL
 |n::bT,_,h=>by
  obtain⟨y,aP,rfl,aC,aI⟩:=h.cons_inv;cases aC;rw[Ji aI];rfl
end
theorem Jj{P:f8}{b U:Nat}{e:co}{bY:Nat×Nat}:∀(ab:ac bv) (i:Nat) (C:bi bv) (w:f5),w.heap[b]? =some (.cells C e bY)->U+i+ab.length<=C.size->
 (∀v∈ab,v.oneCell'=true)->(∀J,U+i<=J->J<U+i+ab.length->¬(bY.1<=J/\J<bY.2))->
 ∃w',(storeCells ⟨b,U,none⟩ ab i).run P w= .ok () w'/\
  w'.heap=w.heap.setIfInBounds b (.cells (C.toList.take (U+i)++(ab++C.toList.drop (U+i+ab.length))).toArray e bY)/\qN w w'
 |[],i,C,w,h,aj,_,_=>by
  refine⟨w,j,?_,fe⟩;have:(C.toList.take (U+i)++([]++C.toList.drop (U+i+([]:ac bv).length))).toArray=C:=au
  apply Il;intro J;by_cases G:b=J
  .grind
  .rw[Im G]
 |v::ab,i,C,w,h,aj,Y,D=>by
  simp only[hQ]at aj D;have S:(Addr.add ⟨b,U,none⟩ i)=⟨b,U+i,none⟩:=by unfold Addr.add;split<;>simp_all
  have aW:U+i<C.size:=R
  have W:w.cell? ⟨b,U+i,none⟩=some C[U+i]:=by rw[cell_of h,vN aW]
  have L:w.frozen? ⟨b,U+i,none⟩=false:=by
   rw[abz h]
   simp_all
  have M:(store ⟨b,U+i,none⟩ v).run P w= .ok () (w.setCell ⟨b,U+i,none⟩ v):=by
   rw[run_store P w _ v _<|Y v au,W];simp[L]
  have q:=(tZ.1 h).1;have V:(w.setCell ⟨b,U+i,none⟩ v).heap=w.heap.setIfInBounds b (.cells (C.setIfInBounds (U+i) v) e bY):=by
   simp[World.setCell]
   grind
  have g:(w.setCell ⟨b,U+i,none⟩ v).heap[b]? =some (.cells (C.setIfInBounds (U+i) v) e bY):=by grind
  obtain⟨w',I,H,fQ⟩:=Jj (U:=U) ab (i+1) (C.setIfInBounds (U+i) v) (w.setCell ⟨b,U+i,none⟩ v) g dM (λx O=>Y x<|by simp[O]) λJ a c=>D J R R;refine⟨w',?_,?_,fQ⟩
  .unfold storeCells;rw[S,Sem.run_bind,M];exact I
  .rw[H,V];rw[Array.setIfInBounds_setIfInBounds];congr 3;have T:(C.setIfInBounds (U+i) v).toList=C.toList.set (U+i) v:=by simp
   rw[T];have Q:(C.toList.set (U+i) v).take (U+(i+1))=C.toList.take (U+i)++[v]:=by
    rw[show U+(i+1)=(U+i)+1 by omega,hR<|by simpa using aW,mQ<|cf _];simp
   have K:(C.toList.set (U+i) v).drop (U+(i+1)+ab.length)=C.toList.drop (U+i+(v::ab).length):=by
    rw[An R];congr 1;simp;omega
   rw[Q,K];simp
section
variable{ad:bH}{o bt:aK}{a:Act}{aN:Nat}{st al:ak}{w:f5}{U:Oper}{v:bv}{call:bN}
variable{t:co}
def Bi:TypeDesc->Bool
 |.struct _|.array _ _=>true
 |_=>false
def Bj{d:TypeDesc}(h:P.underlying t=some d)(w:f5):(isAgg t).run P w= .ok (Bi d) w:=by
 rw[isAgg,Sem.run_bind,run_underlying h];cases d<;>rfl
def qO{i:gc}(h:P.info? t=some i)(w:f5):(sizeOf t).run P w= .ok i.size w:=by
 simp[sizeOf,typeInfo,h]
end
variable{ad:bH}{cs:ac bv}{elem:co}{aR:Bool}{l:Loc}
theorem Jk{α:Type}(l ab:ac α)(n i:Nat)(h:n+ab.length<=l.length):
 (l.take n++(ab++l.drop (n+ab.length)))[i]? =if i<n then l[i]? else if i<n+ab.length then ab[i-n]? else l[i]? :=by
 grind
theorem mY.store{w':f5}{C:bi bv}{fu:Nat×Nat}
 (h:mY P ad w cs elem bY aR l C fu) {N:Nat} {ab B:ac bv} (hle:N+ab.length<=cs.length) (E:bI ad ab B)
 (F:w'.heap[l.cx]? =some (.cells (C.toList.take (l.de+N)++(B++C.toList.drop (l.de+N+B.length))).toArray elem fu)):
 mY P ad w' (cs.take N++(ab++cs.drop (N+ab.length))) elem bY aR l (C.toList.take (l.de+N)++(B++C.toList.drop (l.de+N+B.length))).toArray fu:=by
 have L:=E.1;have K:=h.jK;have Q:(cs.take N++(ab++cs.drop (N+ab.length))).length=cs.length:=by simp;omega
 have g:((C.toList.take (l.de+N)++(B++C.toList.drop (l.de+N+B.length))).toArray).size=C.size:=by simp;omega
 refine⟨⟨_,F,λ_=>j⟩,by rwa [Q,g],λq=>by rw[Q,g];exact h.room q,λi af=>?_,λD J=>by rw[Q];exact h.s7 D J,λO=>by rw[Q,g];exact h.plain O⟩;have A:i<cs.length:=R
 have S:=Jk cs ab N i hle;rw[aO af]at S;simp;rw[(Jk C.toList B (l.de+N) (l.de+i) dM)];obtain⟨c,Y,G⟩:=h.cell i A;by_cases I:i<N
 .grind
 .by_cases V:i<N+ab.length
  .rw[av I,aD V,aO R]at S;rw[av R,aD R];have H:l.de+i-(l.de+N)=i-N:=by omega
   rw[H,aO R];refine⟨_,j,?_⟩;rw[Option.some.inj S];exact E.2 (i-N) R R
  .grind
theorem Jl{ad:bH}:∀{ab cs:ac bv},bI ad ab cs->hi ab=true->∀c∈cs,c.oneCell'=true
 |[],cs,h,_,c,aQ=>by rw[h.qL]at aQ;simp at aQ
 |v::ab,cs,h,bR,c,aQ=>by
  obtain⟨y,aP,rfl,aC,aI⟩:=h.cons_inv;obtain⟨B,C⟩:=jr bR au;obtain rfl|aQ:=fh.1 aQ
  .cases aC<;>first|rfl|(simp[ns,jG]at B)
  .exact Jl aI C c aQ
def bQ.store{st:ak}(F:bQ X ad st w){id N:Nat}
 (O:st.h.get id=some (.cells cs elem bY aR)) (aB:ad id=some l) (E:bY.2<=bY.1) {ab B:ac bv} (hle:N+ab.length<=cs.length) (S:bI ad ab B) (M:hi ab=true):
 ∃w',(storeCells ⟨l.cx,l.de+N,none⟩ B).run X.P w= .ok () w'/\bQ X ad ⟨st.h.set id<|.cells (cs.take N++(ab++cs.drop (N+ab.length))) elem bY aR,st.ae⟩ w'/\eb ad ad w w':=by
 have⟨T,g,C,fu,W⟩:=F.eB _ _ O au;rw[aB]at g;cases g;have Q:=W.room<|.inl E;have A:=S.1;obtain⟨w',I,V,fQ⟩:=Jj (U:=l.de+N) B 0 C w (W.wB<|.inl E) R (Jl S M) (λJ Y G=>W.s7 E J R (by
  omega))
 have⟨t1,t2⟩:=bQ.yJ X F O au (λD=>by have D:_<_:=D;omega) aB (.cells (cs.take N++(ab++cs.drop (N+ab.length))) elem bY aR) _ w' V (λ_ q=>⟨_,fu,W.store hle S q⟩) fQ;exact⟨w',I,t1,t2⟩
def bQ.Jm{st:ak}(F:bQ X ad st w){id:Nat}{U:bx}(O:st.h.get id=some U):bQ X ad ⟨st.h.set id U,st.ae⟩ w:=by
 have e:∀J,(st.h.set id U).get J=st.h.get J:=by
  intro J;rw[ao.eo];split
  .subst_vars;exact O.symm
  .rfl
 exact⟨λJ p hp T=>F.eB J p atC T,λi J p q l m af Y V G=>F.inj i J p q l m atC Y atC G,
  λJ V=>⟨(F.fresh J V).1,by rw[e];exact(F.fresh J V).2⟩,F.fK,F.kB,F.m0,λJ l p B M hp T=>F.km J l p B M atC T⟩
def abA{v:bv}(h:hi v.cells.toList=true):v≠jG:=by
 intro e;subst e;have D:cond (ns<|.chan<|some 0) true false=true:=h;simp[ns]at D
section
variable{ad:bH}{o bt:aK}{a:Act}{aN:Nat}{st al:ak}{w:f5}{U:Oper}{v:bv}{call:bN}
def bQ.abB{R:ac bv}(F:bQ X ad st w)(elem:co)(S:bI ad cs R)(w':f5)(cK:w'.heap=w.heap.push (.cells R.toArray elem))(fQ:qN w w':=by exact fe):
 ∃aF,bQ X aF ⟨st.h.set st.ae<|.cells cs elem (0,0) false,st.ae+1⟩ w'/\eb ad aF w w'/\aF st.ae=some ⟨w.heap.size,0,0,id⟩/\aF=gD ad st.ae ⟨w.heap.size,0,0,id⟩:=by
 refine bQ.alloc X F _ _ 0 (λaF g hle _ N=>?_) w' cK fQ;refine⟨R.toArray,(0,0),⟨⟨_,N,λ_=>j⟩,by simp[S.1],λ_=>by simp[S.1],λi af=>?_,λ_ J _ _=>au,λ_=>⟨j,j,by simp[S.1]⟩⟩⟩;have A:i<R.length:=by rwa [<-S.1]
 exact⟨R[i],au,(S.2 i af A).mono hle⟩
def Bk{t:co}{i:gc}{z:bv}(h:P.info? t=some i)(Z:i.zero=some z)(w:f5):(zeroValue t).run P w= .ok z w:=by
 simp[zeroValue,typeInfo,h,Z]
end
def abC{op:BinOp}{x y:bv}{c:bv->a2}{r:a2}(h:AY op x y c=r)(I:a2.no≠r):
 (∃k a L b,x= .int k a/\y= .int L b/\AX op k a L b c=r)\/(∃s t,x= .string s/\y= .string t/\AW op s t c=r):=by
 cases x with
 |int k a=>
  cases y with
  |int L b=>exact .inl ⟨k,a,L,b,j,j,h⟩
  |_=>exact absurd h I
 |string s=>
  cases y with
  |string t=>exact .inr ⟨s,t,j,j,h⟩
  |_=>exact absurd h I
 |_=>exact absurd h I
theorem wF{a b:f6}(h:j3 a b=true):a=b:=by
 cases a<;>cases b<;>first|rfl|(exact absurd h ai)
def abD(k:f6)(m n:Nat):(BitVec.ofInt k.bits (m:Int)&&&BitVec.ofInt k.bits (n:Int)).toNat=Nat.land (m%2^k.bits) (n%2^k.bits):=by
 simp
def abE(k:f6)(m n:Nat):(BitVec.ofInt k.bits (m:Int)|||BitVec.ofInt k.bits (n:Int)).toNat=Nat.lor (m%2^k.bits) (n%2^k.bits):=by
 simp
def abF(k:f6)(m n:Nat):(BitVec.ofInt k.bits (m:Int)^^^BitVec.ofInt k.bits (n:Int)).toNat=Nat.xor (m%2^k.bits) (n%2^k.bits):=by
 simp
def Jn(f:Nat->Nat->Nat)(g:Int)(k:f6)(a b:Int)(c:bv->a2)(O:∀m n:Nat,a=m->b=n->g=k.wrap (f (m%2^k.bits) (n%2^k.bits):Nat)):
 Ef f g k a b c=c (.int k g):=by
 cases a with
 |ofNat m=>
  cases b with
  |ofNat n=>
   show iE k (oa k<|.ofNat<|f (Nat.mod m<|2^k.bits)<|Nat.mod n<|2^k.bits) c=_;rw[iP,ln,O m n j j];rfl
  |negSucc n=>exact iP _ _ _
 |negSucc m=>exact iP _ _ _
def r9(op:BinOp)(k:f6)(a b:Int):be bv:=
 match op with
 |.add=>some (.int k<|k.wrap<|a+b)
 |.sub=>some (.int k<|k.wrap<|a-b)
 |.mul=>some (.int k<|k.wrap<|a*b)
 |.quo=>if b=0 then none else some (.int k<|k.wrap<|a.tdiv b)
 |.rem=>if b=0 then none else some (.int k<|a.tmod b)
 |.and=>some (.int k<|k.wrap (BitVec.ofInt k.bits a&&&BitVec.ofInt k.bits b).toNat)
 |.or=>some (.int k<|k.wrap (BitVec.ofInt k.bits a|||BitVec.ofInt k.bits b).toNat)
 |.xor=>some (.int k<|k.wrap (BitVec.ofInt k.bits a^^^BitVec.ofInt k.bits b).toNat)
 |.andNot=>some (.int k<|k.wrap (BitVec.ofInt k.bits a&&& ~~~(BitVec.ofInt k.bits b)).toNat)
 |.eql=>some (.bool<|a==b)
 |.neq=>some (.bool<|a != b)
 |.lss=>some (.bool<|decide (a<b))
 |.leq=>some (.bool<|decide (a<=b))
 |.gtr=>some (.bool<|decide (b<a))
 |.geq=>some (.bool<|decide (b<=a))
 |_=>none
def O5(op:BinOp)(k:f6)(a b:Int)(c:bv->a2):AV op k a b c=match r9 op k a b with|some v=>c v|none=>.no:=by
 cases op<;>simp only[AV,OE,OF,OG,OH,OI,OJ,OK,OL,OM,ON,OO,IX,r9]
 .rw[iP,ln,OD]
 .rw[iP,ln,OD,IV];rfl
 .rw[iP,ln,IW]
 .rw[AU];by_cases h:b=0
  .subst h;rfl
  .rw[av h,show(b==0)=false by simpa using h];cases a with
   |ofNat m=>
    cases b with
    |ofNat n=>
     show iE k (oa k<|.ofNat<|m/n) c=c (.int k (k.wrap<|(m:Int).tdiv n));rw[iP,ln];rfl
    |negSucc n=>exact iP _ _ _
   |negSucc m=>exact iP _ _ _
 .rw[AU];by_cases h:b=0
  .subst h;rfl
  .rw[av h,show(b==0)=false by simpa using h];cases a with
   |ofNat m=>
    cases b with
    |ofNat n=>exact iP k (Int.ofNat<|m%n) c
    |negSucc n=>exact iP k ((Int.ofNat m).tmod<|Int.negSucc n) c
   |negSucc m=>exact iP k ((Int.negSucc m).tmod b) c
 .exact Jn _ _ _ _ _ _ λm n A C=>by subst A C;rw[abD]
 .exact Jn _ _ _ _ _ _ λm n A C=>by subst A C;rw[abE]
 .exact Jn _ _ _ _ _ _ λm n A C=>by subst A C;rw[abF]
 .exact iP _ _ _
 .rw[AU]
 .rw[AU];rfl
 .rw[pL];congr 2;rw[pC];simp
 .rw[pL]
 .rw[pL];congr 2;rw[pC];simp
 .rw[pL]
def abG(k:f6)(a:Int)(n:Nat):yx k a n=k.wrap (a*2^(min n k.bits)):=by
 rw[yx,ln,IW];congr 2
theorem abH(k:f6)(a:Int)(n:Nat):wj k a n=a.fdiv (2^(min n k.bits)):=by
 cases a with
 |ofNat m=>
  show ↑(m/2^(min n k.bits))=Int.fdiv m _
  grind
 |negSucc m=>rfl
section
variable{ad:bH}{o bt:aK}{a:Act}{aN:Nat}{st al:ak}{w:f5}{U:Oper}{v:bv}{call:bN}
def Bl{bE:bv}(h:a2.ok v o st=a2.ok bE bt al):v=bE/\o=bt/\st=al:=by cases h;exact sa
def abI(P:f8)(w:f5)(op:BinOp)(t:co)(x y:ce)(k L:f6)(m n:Int):(eqGuard op t x y (.int k m)<|.int L n).run P w= .ok () w:=by
 cases op<;>simp[eqGuard]
def Jo(P:f8)(w:f5)(op:BinOp)(t:co)(x y:ce)(s u:f9):(eqGuard op t x y (.string s)<|.string u).run P w= .ok () w:=by
 cases op<;>simp[eqGuard]
def toList_eq(x y:f9):(x.toList==y.toList)=(x.data.toList==y.data.toList):=by
 rw[Lib.toList_data,Lib.toList_data]
def abJ{op:BinOp}{k L:f6}{m n:Int}{c:bv->a2}{r:a2}(h:AX op k m L n c=r)(I:a2.no≠r):
 ∃v,c v=r/\kC v=true/\∀(P:f8) (w:f5) (t:co),(binOp op t (.int k m)<|.int L n).run P w= .ok v w:=by
 by_cases Y:op= .shl
 .subst Y;obtain⟨b,C,h⟩:=pR h I;rw[iP,abG]at h;exact apD apD
 .by_cases G:op= .shr
  .subst G;obtain⟨b,C,h⟩:=pR h I;rw[iP,abH]at h;exact apD apD
  .have D:cond (j3 k L) (AV op k m n c) .no=r:=by
    rw[<-h];cases op<;>first|rfl|(exact absurd j Y)|(exact absurd j G)
   obtain⟨N,A⟩:=jr D I;have:=wF N;subst this;rw[O5]at A;cases af:r9 op k m n with
   |none=>rw[af]at A;exact absurd A I
   |some v=>
    rw[af]at A;refine⟨v,A,?_,λP w t=>(by
     cases op<;>simp only[r9]at af<;>first
      |(exact absurd j Y)|(exact absurd j G)
      |(cases af;simp[binOp,Op.intArith,Op.intBits,Op.intCmp])
      |(split at af
        .cases af
        .cases af;rename_i C;simp[binOp,Op.intDiv,C])
      |(simp at af))⟩
    unfold r9 at af;split at af<;>first|(cases af;rfl)|(split at af<;>cases af;rfl)|cases af
end
theorem add_eq(b U n:Nat):Addr.add ⟨b,U,none⟩ n=⟨b,U+n,none⟩:=by rw[Addr.add];split<;>simp_all
def Bm(a:Addr)(n:Nat):(a.add n).block=a.block:=by rw[Addr.add];split<;>rfl
theorem Bn(a:Addr)(n:Nat)(h:a.spot=none):(a.add n).spot=none:=by rw[Addr.add];split<;>simp_all
theorem Eu(a:Addr)(n:Nat):(a.add n).off=a.off+n:=by rw[Addr.add];split<;>simp_all
section
variable{ad:bH}{o bt:aK}{a:Act}{aN:Nat}{st al:ak}{w:f5}{U:Oper}{v:bv}{call:bN}
theorem uA(D:eZ ad o a aN)(F:bQ X ad st w):∀xs:ac ce,(∀x∈xs,gk X.a3 x=true)->bI ad (dQ o xs) (xs.map a.eval)
 |[],_=>bI.nil ad
 |x::xs,h=>bI.cons (D.ar F<|h x au)<|uA D F xs λy T=>h y<|by simp[T]
end
theorem O6{t:co}{d:TypeDesc}{i:gc}{N:Nat}{cs R:bi bv}{v:bv}(T:P.underlying t=some d)(af:P.info? t=some i)
 (I:bI ad cs.toList R.toList) (h:wk N i.size (Bi d) cs.toList=some v) (w:f5):∃bE,(part t R N).run P w= .ok bE w/\bd ad v bE:=by
 have⟨aj,h⟩:=r6 h au;have j:=(I.drop N).take i.size;cases O:Bi d with
 |true=>
  rw[O]at h;cases h;exact ap7 ap7
 |false=>
  rw[O]at h;have⟨y,g,h⟩:=yG h au;cases h;rw[g]at j;have⟨z,A,Z,S,q⟩:=j.cons_inv;have e:R[N]? =some z:=by
   have:=congrArg (λl=>l[0]?) Z
   grind
  refine⟨z,?_,S⟩;simp[part,Sem.run_bind,Bj T,O,Result.andThen,qp,if_false,e,Sem.run_pure]
theorem O7(N:Nat):∀(ab:ac bv) (k:Nat) (C:bi bv),N+k+ab.length<=C.size->
 (ab.zipIdx k).foldl (λcs (p:bv×Nat)=>cs.setIfInBounds (N+p.2) p.1) C=(C.toList.take (N+k)++(ab++C.toList.drop (N+k+ab.length))).toArray
 |[],k,C,_=>by simp
 |v::ab,k,C,h=>by
  simp at h;have aB:N+k<C.toList.length:=by simp;omega
  rw[List.zipIdx_cons,List.foldl_cons,O7 N ab (k+1) _ dM];have T:(C.setIfInBounds (N+k) v).toList=C.toList.set (N+k) v:=au
  rw[T];have Q:(C.toList.set (N+k) v).take (N+(k+1))=C.toList.take (N+k)++[v]:=by
   rw[show N+(k+1)=(N+k)+1 by omega,hR atL,mQ<|cf _];simp
  have K:(C.toList.set (N+k) v).drop (N+(k+1)+ab.length)=C.toList.drop (N+k+(v::ab).length):=by
   rw[An R];congr 1;simp;omega
  rw[Q,K];simp
def bI.abK{R ab j:ac bv}(h:bI ad cs R)(S:bI ad ab j)(n:Nat):
 bI ad (cs.take n++(ab++cs.drop (n+ab.length))) (R.take n++(j++R.drop (n+j.length))):=by
 rw[S.1];exact(h.take n).append<|S.append<|h.drop _
section
variable{ad:bH}{o bt:aK}{a:Act}{aN:Nat}{st al:ak}{w:f5}{U:Oper}{v:bv}{call:bN}
theorem Ev(N:Nat->be (Nat×Nat))(D:eZ ad o a aN)(F:bQ X ad st w){c:ac bv->a2}{r:a2}(I:a2.no≠r):
 ∀(parts:ac (Nat×ce)) (a7:ac (Nat×Nat×ce)),a7=parts.map (λp=>(((N p.1).getD (0,0)).1,((N p.1).getD (0,0)).2,p.2))->(∀p∈parts,(N p.1).isSome/\gk X.a3 p.2=true)->
 ∀(cs:ac bv) (R:bi bv),bI ad cs R.toList->ob o a7 cs c=r->
  ∃out H,Instr.fill N R (parts.map λp=>(p.1,a.eval p.2))=some H/\bI ad out H.toList/\c out=r
 |[],_,rfl,_,cs,R,Y,h=>⟨cs,R,j,Y,h⟩
 |(i,x)::parts,_,rfl,K,cs,R,Y,h=>by
  have⟨L,O⟩:=K (i,x) au;have⟨⟨off,S⟩,W⟩:=Ao.1 L;simp[jZ,W]at h;have⟨B,h⟩:=yF h I;have⟨g,h⟩:=kA h I;have⟨hle,h⟩:=jq h I;simp at g hle;have V:off+S<=cs.length:=hle;have E:o.ar x≠jG:=by intro e;rw[e]at B;simp[s3,jG]at B
  have Q:=bI.cells (D.ar F O) E;have M:(a.eval x).cells.size=S:=by have:=Q.1;simp at this;rw[<-this];simpa[hW]using g
  have q:R.size=cs.length:=by have:=Y.1;simp at this;omega
  have G:ob o (parts.map λp=>(((N p.1).getD (0,0)).1,((N p.1).getD (0,0)).2,p.2)) (cs.take off++(hW (o.ar x)++cs.drop (off+(hW<|o.ar x).length))) c=r:=by
   obtain⟨_,h⟩|⟨he,h⟩:=Jf h I
   .exact h
   .rw[he];simp;exact h
  have⟨out,H,A,T,C⟩:=Ev N D F I parts _ j (λp hp=>K p<|by simp[hp]) _ ((a.eval x).cells.zipIdx.foldl (λcs (p:bv×Nat)=>cs.setIfInBounds (off+p.2) p.1) R) (by
   rw[<-Array.foldl_toList,Array.toList_zipIdx,O7 off _ 0 R dM];have:=Y.abK Q off;simpa[hW]using this) G
  refine⟨out,H,?_,T,C⟩;simp only[jZ,Instr.fill,W];rw[av dM];exact A
theorem abL{x:ce}{kZ t:co}{d:TypeDesc}{i:gc}{z:bv}{ok:Bool}(O:gk X.a3 x=true)(E:U.op= .typeAssert x kZ t ok)(T:X.P.underlying t=some d)(Y:∀ms,d≠.interface ms)
 (af:X.P.info? t=some i) (Z:i.zero=some z) (hp:kC z=true) (D:eZ ad o a aN) (F:bQ X ad st w) (h:I4 t z ok x call o st= .ok v bt al):
 bt=o/\og X ad w v st al (execOp a.eval U):=by
 have g:=D.ar F O;generalize V:a.eval x=R at g;unfold I4 at h;generalize S:o.ar x=G at h g;have Q:bd ad (.tuple #[z,.bool false]) (.tuple #[z,.bool false]):=bd.qM<|bI.cons (bd.pure ad z hp)<|bI.cons (.bool _)<|bI.nil ad;cases G with
 |iface u y=>
  have B:dL u t (a2.ok (cond ok (.tuple #[y,.bool true]) y) o st) (cond ok (a2.ok (.tuple #[z,.bool false]) o st) a2.no)=a2.ok v bt al:=h;cases g with
  |iface _ _ q A=>
   rw[mn]at B;split at B
   .rename_i e;cases B;refine⟨j,og.same (bE:=if ok then .tuple #[q,.bool true]else q) F ?_ ?_⟩
    .unfold execOp;rw[E];simp[Instr.typeAssert,Sem.run_bind,run_underlying T]
     simp_all
    .cases ok
     .exact A
     .exact bd.qM<|bI.cons A<|bI.cons (.bool _)<|bI.nil ad
   .rename_i e;obtain⟨K,B⟩:=jr B au;cases B;refine⟨j,og.same F ?_ Q⟩;unfold execOp;rw[E];simp[V,Instr.typeAssert,Sem.run_bind,run_underlying T];cases d<;>first|(exact absurd j<|Y _)|(simp[e,K,Bk af Z,Result.andThen])
 |nilIface=>
  obtain⟨K,h⟩:=jr h au;cases h;cases g;refine⟨j,og.same F ?_ Q⟩;unfold execOp;rw[E];simp[V,Instr.typeAssert,Sem.run_bind,run_underlying T];cases d<;>first|(exact absurd j<|Y _)|(simp[K,Bk af Z])
 |_=>exact absurd h<|by simp[yw]
end
theorem O8{α β:Type}(P:f8)(w:f5)(f:α->Sem β)(g:α->β):∀(l:ac α),(∀x∈l,(f x).run P w= .ok (g x) w)->(l.mapM f).run P w= .ok (l.map g) w
 |[],_=>by simp
 |x::xs,h=>by
  simp[h x au,O8 P w f g xs λy T=>h y<|by simp[T]]
section
variable{ad:bH}{o bt:aK}{a:Act}{aN:Nat}{st al:ak}{w:f5}{U:Oper}{v:bv}{call:bN}
theorem O9(z:ac bv):∀(n:Nat),z≠[]->pM z n=(List.range<|n*z.length).map (λJ=>z.toArray[J%z.toArray.size]!)
 |0,_=>by simp;rfl
 |n+1,Z=>by
  show fr z (pM z n)=_;rw[pS,O9 z n Z,Dt,ua,List.range_add,rL,qq];congr 1
  .apply nY;intro J;by_cases ba:J<z.length
   .simp[ba,gR ba]
   .simp[ba]
  .apply Io;intro J _;simp
end
section
variable{ad:bH}{o bt:aK}{a:Act}{aN:Nat}{st al:ak}{w:f5}{U:Oper}{v:bv}{call:bN}
theorem Pa(k:f6)(D:eZ ad o a aN)(F:bQ X ad st w):∀(xs:ac ce) (m r:Int),(∀x∈xs,gk X.a3 x=true)->A0 k o xs m=some r->
 ((xs.map a.eval).foldlM Builtin.max2<|.int k m).run X.P w= .ok (.int k r) w
 |[],m,r,_,h=>by cases h;simp
 |x::xs,m,r,K,h=>by
  have⟨L,y,T,aC⟩:=od h au;have⟨N,G⟩:=jr aC au;have g:=D.ar F<|K x au;rw[T]at g;generalize V:a.eval x=R at g;cases g;simp[jZ,List.foldlM_cons,V,Builtin.max2];have e:(if y>m then y else m)=cond (mj y m) m y:=by
   rw[pL]
   grind
  rw[e];exact Pa k D F xs _ r (λz Z=>K z<|by simp[Z]) G
theorem Pb(k:f6)(D:eZ ad o a aN)(F:bQ X ad st w):∀(xs:ac ce) (m r:Int),(∀x∈xs,gk X.a3 x=true)->A1 k o xs m=some r->
 ((xs.map a.eval).foldlM Builtin.min2<|.int k m).run X.P w= .ok (.int k r) w
 |[],m,r,_,h=>by cases h;simp
 |x::xs,m,r,K,h=>by
  have⟨L,y,T,aC⟩:=od h au;have⟨N,G⟩:=jr aC au;have g:=D.ar F<|K x au;rw[T]at g;generalize V:a.eval x=R at g;cases g;simp[jZ,List.foldlM_cons,V,Builtin.min2];have e:(if y<m then y else m)=cond (mj m y) m y:=by
   rw[pL]
   grind
  rw[e];exact Pb k D F xs _ r (λz Z=>K z<|by simp[Z]) G
theorem o2(D:eZ ad o a aN)(F:bQ X ad st w){x:be ce}(O:∀y,x=some y->gk X.a3 y=true){d y:Nat}{k:Nat->a2}{r:a2}(h:fs o x d y k=r)(I:a2.no≠r):
 ∃n,k n=r/\((x=none/\n=d)\/(∃z bD,x=some z/\a.eval z= .int bD (n:Int)/\n<=y)):=by
 cases x with
 |none=>exact⟨d,h,.inl fe⟩
 |some z=>
  have⟨bD,m,hp,Y⟩:=od h I;have⟨n,e,G⟩:=pR Y I;have⟨hle,A⟩:=jq G I;have Z:=D.ar F<|O z j;rw[hp]at Z;generalize Q:a.eval z=uB at Z;cases Z
  grind
end
def Pc(P:f8)(w:f5)(bD:f6)(n y:Nat)(c:BoundsCode)(h:n<=y):(Instr.sliceBound (.int bD (n:Int)) y c).run P w= .ok n w:=by
 simp[Instr.sliceBound,asIntOf,h]
def Ew(v:be bv)(d y n:Nat):Prop:=(v=none/\n=d)\/∃bD,v=some (.int bD (n:Int))/\n<=y
theorem Bo(P:f8)(w:f5)(R:Bool)(len cap l h m:Nat)(bm af g7:be bv)(hm:Ew g7 cap cap m)(cK:Ew af len m h)(aB:Ew bm 0 h l)(O:g7≠none->af≠none):
 (Instr.sliceBounds R len cap bm af g7).run P w= .ok (l,h,m) w:=by
 unfold Instr.sliceBounds;rcases hm with⟨rfl,rfl⟩|⟨q,rfl,hm⟩
 .clear O;rcases cK with⟨rfl,rfl⟩|⟨Q,rfl,cK⟩<;>rcases aB with⟨rfl,rfl⟩|⟨g,rfl,aB⟩<;>simp[Pc, *]
 .rcases cK with⟨rfl,rfl⟩|⟨Q,rfl,cK⟩
  .exact absurd j<|O au
  .clear O;rcases aB with⟨rfl,rfl⟩|⟨g,rfl,aB⟩<;>simp[Pc, *]
section
variable{ad:bH}{o bt:aK}{a:Act}{aN:Nat}{st al:ak}{w:f5}{U:Oper}{v:bv}{call:bN}
variable{x:be ce}{d y n:Nat}
def o3(h:(x=none/\n=d)\/(∃z bD,x=some z/\a.eval z= .int bD (n:Int)/\n<=y)):Ew (x.map a.eval) d y n:=by
 rcases h with⟨rfl,rfl⟩|⟨z,bD,rfl,Y,G⟩
 .exact .inl fe
 .exact .inr ⟨bD,by simp[Y],G⟩
theorem abM(s:f9)(l h:Nat)(j:l<=h)(R:h<=s.data.toList.length):(⟨⟨(s.data.toList.drop l).take<|h-l⟩⟩:f9)=s.extract l h:=by
 apply ByteArray.ext;rw[ByteArray.data_extract]
 grind
theorem Pd(h:(x=none/\n=d)\/(∃z bD,x=some z/\a.eval z= .int bD (n:Int)/\n<=y))(T:d<=y):n<=y:=by
 grind
theorem abN{t:co}{x:ce}{bm af g7:be ce}{cd:gc}(O:gk X.a3 x=true)(aC:∀y,bm=some y->gk X.a3 y=true)(aI:∀y,af=some y->gk X.a3 y=true)(a':∀y,g7=some y->gk X.a3 y=true)
 (Z:g7≠none->af≠none) (E:U.op= .slice t x bm af g7) (ab:X.P.underlying t=some (.slice e)) (I:X.P.info? e=some cd) (D:eZ ad o a aN) (F:bQ X ad st w)
 (h:OV cd.size x bm af g7 call o st= .ok v bt al):bt=o/\og X ad w v st al (execOp a.eval U):=by
 obtain⟨b,len,cap,hp,W⟩:=yD h au;have g:=D.ar F O;rw[hp]at g;generalize V:a.eval x=ax at g;cases b with
 |none=>
  have W:fs o g7 cap cap (λm=>fs o af len m λh=>fs o bm 0 h λl=>.ok (.slice none (Nat.sub h l)<|Nat.sub m l) o st)=a2.ok v bt al:=W;obtain⟨m,c2,G⟩:=o2 D F a' W au;obtain⟨aj,eC,S⟩:=o2 D F aI c2 au;obtain⟨cZ,fv,A⟩:=o2 D F aC eC au;cases fv;cases g;refine⟨j,og.same F ?_ (.kl _ _)⟩;unfold execOp;rw[E];have aa:=Bo X.P w true len cap cZ aj m (bm.map a.eval) (af.map a.eval) (g7.map a.eval) (o3 G) (o3 S) (o3 A) (by simpa using Z);simp[V,Instr.sliceAt,Instr.slice,run_underlying ab,aa,qO I]
 |some cc=>
  obtain⟨M,cs,elem,bY,aR,ao,a0⟩:=yH W au;obtain⟨l,B,C,fu,aq⟩:=F.eB _ _ ao au;cases g with
  |ft _ T N _ _ ae K H=>
   rw[B]at ae;cases ae;cases aR with
   |false=>
    have ai:=aq.plain j;obtain⟨m,c2,G⟩:=o2 D F a' a0 au;obtain⟨aj,eC,S⟩:=o2 D F aI c2 au;obtain⟨cZ,fv,A⟩:=o2 D F aC eC au;cases fv;refine⟨j,og.same (bE:=.slice (some (if m=cZ then⟨l.cx,N,none⟩else Addr.add ⟨l.cx,N,none⟩ (cZ*cd.size))) (aj-cZ)<|m-cZ) F ?_ ?_⟩
    .unfold execOp;rw[E];have aa:=Bo X.P w true len cap cZ aj m (bm.map a.eval) (af.map a.eval) (g7.map a.eval) (o3 G) (o3 S) (o3 A) (by simpa using Z);have aw:cap+l.ex=cap:=by omega
     rw[aw]at V;simp[V,Instr.sliceAt,Instr.slice,Sem.run_bind,run_underlying ab,Result.andThen,aa,qO I];by_cases c:m=cZ<;>simp[c]
    .rw[mn];by_cases c:m=cZ
     .rw[aD c,aD c];have:=bd.ft cc l N (Nat.sub aj cZ) (Nat.sub m cZ) B M (by
       rcases H with h|⟨aC,aI,a'⟩
       .exact .inl h
       .right;have ak:Nat.sub m cZ=m-cZ:=rfl;have ah:Nat.sub aj cZ=aj-cZ:=rfl;refine⟨R,R,a'⟩)
      rw[ai.1]at this;exact this
     .rw[av c,av c,add_eq];have Q:N=l.de+cc.off:=by
       grind
      subst Q;have:=bd.ft (cc.add<|Nat.mul cZ cd.size) l (l.de+(cc.add<|Nat.mul cZ cd.size).off) (Nat.sub aj cZ) (Nat.sub m cZ) asD (Bn _ _ M) m2;rw[ai.1,Eu,<-rM]at this;exact this
   |true=>
    obtain⟨L,cJ⟩:=yE a0 λ_=>au;obtain⟨q,c2⟩:=jq cJ au;obtain⟨aj,eC,S⟩:=o2 D F aI c2 au;obtain⟨cZ,fv,A⟩:=o2 D F aC eC au;cases fv;subst L;have Y:(af=none/\aj=len)\/(∃z bD,af=some z/\a.eval z= .int bD (aj:Int)/\aj<=cap+l.ex):=by
     grind
    refine⟨j,og.same (bE:=.slice (some (if cap+l.ex=cZ then⟨l.cx,N,none⟩else Addr.add ⟨l.cx,N,none⟩ (cZ*cd.size))) (aj-cZ)<|cap+l.ex-cZ) F ?_ ?_⟩
    .unfold execOp;rw[E];have aa:=Bo X.P w true len (cap+l.ex) cZ aj (cap+l.ex) (bm.map a.eval) (af.map a.eval) none (.inl fe) (o3 Y) (o3 A) au;simp[V,Instr.sliceAt,Instr.slice,Sem.run_bind,run_underlying ab,Result.andThen,Option.map_none,aa,qO I];by_cases c:cap+l.ex=cZ<;>simp[c]
    .have ak:Nat.sub cap cZ=cap-cZ:=rfl;have ah:cap+l.ex-cZ=(cap-cZ)+l.ex:=by omega
     rw[ah];by_cases c:cap+l.ex=cZ
     .rw[aD c];exact bd.ft (cc.add<|Nat.mul cZ cd.size) l N (Nat.sub aj cZ) (Nat.sub cap cZ) asD (Bn _ _ M)<|.inr ⟨by show aj-cZ=0;omega,R⟩
     .rw[av c,add_eq];refine bd.ft (cc.add<|Nat.mul cZ cd.size) l (N+cZ*cd.size) (Nat.sub aj cZ) (Nat.sub cap cZ) asD (Bn _ _ M) ?_;rcases H with h|⟨aC,aI,a'⟩
      .left;rw[Eu,h,rM];rfl
      .omega
end
variable{oe:bx}
def bQ.kill{st:ak}(h:bQ X ad st w){id:Nat}(h₀:st.h.get id=some oe):bQ X ad ⟨st.h.set id .dead,st.ae⟩ w:=by
 have H:id<st.ae:=by
  obtain c|c:=gf id st.ae
  .exact c
  .rw[(h.fresh id c).2]at h₀;cases h₀
 refine⟨λJ p hp T=>?_,λi J p q l m af Y V g=>?_,λJ V=>?_,h.fK,h.kB,h.m0,λJ l p B M hp T=>?_⟩
 .rw[ao.eo]at hp;split at hp
  .exact aqZ
  .exact h.eB J p hp T
 .rw[ao.eo]at af V;split at af
  .cases af;exact absurd j Y
  .split at V
   .cases V;exact absurd j g
   .exact h.inj i J p q l m af Y V g
 .have L:st.ae<=J:=V;refine⟨(h.fresh J L).1,?_⟩;rw[ao.eo,av R];exact(h.fresh J L).2
 .rw[ao.eo]at hp;split at hp
  .exact aqZ
  .exact h.km J l p B M hp T
theorem bQ.abO{st:ak}(h:bQ X ad st w){id:Nat}{bo:Loc}(h₀:st.h.get id=some oe)(a':oe≠.dead)(N:¬oe.s8)(ar:bo.bF≠eU)(aB:ad id=some l)(U:bx)(au:bo.cx=l.cx)(O:Obj)
 (w':f5) (F:w'.heap=w.heap.setIfInBounds l.cx O) (hm:∀aF:bH,ad.le aF->w'.heap[bo.cx]? =some O->hz X aF w' U bo) (fQ:qN w w':=by exact fe):
 ∃aF,bQ X aF ⟨(st.h.set id .dead).set st.ae U,st.ae+1⟩ w'/\eb ad aF w w'/\aF st.ae=some bo:=by
 have C:=h.fK id l aB;have ah:l.bF≠eU:=λe=>N<|h.km id l oe aB e h₀ a';have ax:id<st.ae:=by
  rcases gf id st.ae with c|c
  .exact c
  .rw[(h.fresh id c).2]at h₀;cases h₀
 have hle:ad.le (λi=>if i=st.ae then some bo else ad i):=by
  intro i m Q;show(if i=st.ae then _ else ad i)=_;rw[av];exact Q;intro e;subst e;rw[(h.fresh _<|cf _).1]at Q;cases Q
 refine⟨λi=>if i=st.ae then some bo else ad i,⟨λJ p hp T=>?_,λi J p q B D af Y V ab an A aa e=>?_,λJ V=>?_,λJ B K=>?_,λg aa=>hle _ _<|h.kB g aa,sO h.m0,λJ B p K M hp T=>?_⟩,⟨hle,by rw[F];simp,λb _ af=>?_,λJ B K=>?_,fQ⟩,aD j⟩
 .rw[ao.eo]at hp;by_cases e:J=st.ae
  .grind
  .rw[av e,ao.eo]at hp;split at hp
   .exact aqZ
   .rename_i ne;obtain⟨m,Q,E⟩:=h.eB J p hp T;refine⟨m,hle _ _ Q,hz.mono X E hle ?_⟩;have aq:m.cx≠l.cx:=λH=>ne<|h.inj J id p oe m l hp T h₀ a' Q aB (.inr ah) H
    grind
 .have key:∀J p m,((st.h.set id .dead).set st.ae U).get J=some p->p≠.dead->(if J=st.ae then some bo else ad J)=some m->
   (J=st.ae/\m=bo)\/(J≠st.ae/\J≠id/\st.h.get J=some p/\ad J=some m):=by
   intro J p m V T Q;rw[ao.eo]at V;by_cases c:J=st.ae
   .grind
   .rw[ao.eo]at V
    grind
  rcases key i p B af Y an with⟨S,rfl⟩|⟨aw,iG,W,I⟩<;>rcases key J q D V ab A with⟨ai,rfl⟩|⟨Z,aj,L,G⟩
  .rw[S,ai]
  .exact absurd (h.inj J id q oe D l L ab h₀ a' G aB (.inr ah) R) aj
  .exact absurd (h.inj i id p oe B l W Y h₀ a' I aB (.inr ah) R) iG
  .exact h.inj i J p q B D W Y L ab I G aa e
 .have ay:st.ae+1<=J:=V;have:=h.fresh J R;exact asF asF
 .rw[F];simp;by_cases e:J=st.ae
  .grind
  .simp[av e]at K;exact h.fK J B K
 .rw[ao.eo]at hp;by_cases e:J=st.ae
  .grind
  .rw[av e,ao.eo]at hp;simp[av e]at K;split at hp
   .exact aqZ
   .exact h.km J B p K M hp T
 .grind
 .grind
theorem Pe(n B:Nat)(F:n+(n+768)/4<=B):∀r c,c<=B->Builtin.growBy n r c<=B
 |0,c,h=>h
 |r+1,c,h=>by
  rw[Builtin.growBy];split
  .exact h
  .rename_i aQ;exact Pe n B F r _ R
def abP(n c:Nat)(h:c<n):Builtin.nextslicecap n c<=n+n/4+448:=by
 rw[Builtin.nextslicecap];split
 .omega
 .split
  .omega
  .exact Pe n _ R 4 c R
def Jp(z:bi bv)(n:Nat):(Builtin.zeroCells z n).size=n*z.size:=by simp[Builtin.zeroCells]
theorem bQ.Ex{st:ak}{R:ac bv}(F:bQ X ad st w)(elem:co)(S:bI ad cs R)(rest:ac bv)(ex:Nat)(I:ex*X.P.cellsOf elem<=rest.length)(bY:Nat×Nat)
 (D:∀i,i<cs.length+rest.length->¬(bY.1<=i/\i<bY.2)) (w':f5) (cK:w'.heap=w.heap.push (.cells (R++rest).toArray elem bY)) (fQ:qN w w':=by exact fe):
 ∃aF,bQ X aF ⟨st.h.set st.ae<|.cells cs elem (0,0) true,st.ae+1⟩ w'/\eb ad aF w w'/\aF st.ae=some ⟨w.heap.size,0,ex,id⟩/\aF=gD ad st.ae ⟨w.heap.size,0,ex,id⟩:=by
 refine bQ.alloc X F _ _ ex (λaF g hle _ N=>?_) w' cK fQ;refine⟨(R++rest).toArray,bY,⟨⟨_,N,λ_=>j⟩,by simp[S.1],λ_=>by simp[S.1];omega,λi af=>?_,λ_ J _ V=>?_,λh=>by cases h⟩⟩
 .have A:i<R.length:=by rwa [<-S.1]
  refine⟨R[i],?_,(S.2 i af A).mono hle⟩;simp[oQ A]
 .apply D J
  grind
structure Src(P:f8)(w:f5)(x:bv)(n size:Nat)(new:ac bv):Prop where
 len:(Builtin.lenOf x).run P w= .ok n w
 cells:∀tape drawn,(Builtin.firstCells size n x).run P {w with tape:=tape,drawn:=drawn}= .ok new.toArray {w with tape:=tape,drawn:=drawn}
section
variable{P:f8}{w:f5}{lr kZ elem:co}{d:TypeDesc}{i:gc}{x:bv}{n len cap:Nat}{new:ac bv}
theorem Ey{base:be Addr}(E:P.underlying lr=some (.slice elem))(O:P.underlying kZ=some d)(T:∀k,d≠.int k)(af:P.info? elem=some i)(M:Src P w x n i.size new)(aj:len+n<=cap)(ty:co)(w':f5)
 (F:∀a,base=some a->(storeCells (a.add<|len*i.size) new).run P w= .ok () w') (D:base=none->w'=w):
 (Builtin.append_ #[lr,kZ] ty #[.slice base len cap,x]).run P w= .ok (.slice base (len+n) cap) w':=by
 simp[Builtin.append_,Ap,Aq,Du,Sem.run_bind,run_underlying E,Result.andThen,qO af,run_underlying O,Sem.run_pure,qp,if_false,M.len,aj,if_true,Dv];rw[(M.cells w.tape w.drawn)];cases base with
 |none=>simp;rw[D j]
 |some a=>
  simp_all
theorem Jq{base:be Addr}{z:bv}{hy:ac bv}(D:P.underlying lr=some (.slice elem))(O:P.underlying kZ=some d)(T:∀k,d≠.int k)(af:P.info? elem=some i)(Z:i.zero=some z)(M:Src P w x n i.size new)
 (aj:cap<len+n) (ay:(5*(len+n)+1792)*(i.bytes+1)<=1125899906842624) (ty:co)
 (hold:∀tape drawn,(Builtin.firstCells i.size len<|.slice base len cap).run P {w with tape:=tape,drawn:=drawn}= .ok hy.toArray {w with tape:=tape,drawn:=drawn}):
 ∃h w',len+n<=h/\(Builtin.append_ #[lr,kZ] ty #[.slice base len cap,x]).run P w= .ok (.slice (some ⟨w.heap.size,0,none⟩) (len+n) h) w'/\
  w'.heap=w.heap.push (.cells (hy++new++(Builtin.zeroCells z.cells<|h-(len+n)).toList).toArray elem)/\qN w w':=by
 have Q:=abP (len+n) cap aj;have g:Builtin.nextslicecap (len+n) cap*i.bytes<=281474976710656:=by
  have aC:4*Builtin.nextslicecap (len+n) cap*i.bytes<=(5*(len+n)+1792)*i.bytes:=hV _ R
  grind
 have L:len+n<=1125899906842624:=by
  grind
 have K:¬(↑(len+n)>IntKind.i64.max/\((false=true)\/i.bytes=0)):=by
  have:IntKind.i64.max=9223372036854775807:=ai
  omega
 have H:¬(Builtin.nextslicecap (len+n) cap*i.bytes>2^48):=R
 let q:Question:=.appendCap (len+n) cap elem
 refine⟨q.cut<|w.tape w.drawn q,{w with drawn:=w.drawn+1,heap:=w.heap.push<|.cells (hy++new++(Builtin.zeroCells z.cells<|q.cut (w.tape w.drawn q)-(len+n)).toList).toArray elem},?_,?_,j,fe⟩
 .show len+n<=(len+n)+_;omega
 .have W:=M.cells w.tape<|w.drawn+1;have E:=hold w.tape<|w.drawn+1;simp only[Builtin.append_,Ap,Aq,Du,Sem.run_bind,run_underlying D,Result.andThen,qO af,run_underlying O,Sem.run_pure,qp,if_false,M.len,typeInfo,Dv];rw[av R];simp only[Sem.run_bind,Sem.run_pure,run_program,Result.andThen,af];rw[av<|by simpa using K];simp only[Sem.run_bind,Sem.run_pure,run_program,Result.andThen,af];rw[av H];simp only[Sem.run_bind,Sem.run_pure,run_program,Result.andThen,af,run_choose,Question.forced,qp,if_false,run_askRoom,if_true];rw[E];simp only[];rw[W];simp only[Sem.run_bind,(Bk af Z {w with drawn:=w.drawn+1}),newRow,run_newObj];simp[q];congr 2;simp
end
section
variable{ad:bH}{o bt:aK}{a:Act}{aN:Nat}{st al:ak}{w:f5}{U:Oper}{v:bv}{call:bN}
def abQ{lr kZ:co}{s x:ce}{bE:bv}{w':f5}(E:U.op= .call {callee:=.builtin .append,args:= #[s,x],argTypes:= #[lr,kZ]})
 (I:(Builtin.append_ #[lr,kZ] U.type #[a.eval s,a.eval x]).run X.P w= .ok bE w'):(execOp a.eval U).run X.P w= .ok (.value bE) w':=by
 unfold execOp;rw[E];simp[resolve,x4,jZ,x5,Sem.run_bind,Sem.run_pure,Result.andThen,invoke,builtin,I]
def Ez{lr kZ:co}{d:TypeDesc}{i:gc}{z:bv}{s x:ce}{base:be Addr}{len cap n:Nat}{new ab:ac bv}
 (E:U.op= .call {callee:=.builtin .append,args:= #[s,x],argTypes:= #[lr,kZ]}) (M:X.P.underlying lr=some (.slice elem)) (O:X.P.underlying kZ=some d) (T:∀k,d≠.int k) (af:X.P.info? elem=some i) (Z:i.zero=some z)
 (aC:z.cells.size=i.size) (F:bQ X ad st w) (aE:bd ad (.slice base len cap) (a.eval s)) (ah:Src X.P w (a.eval x) n i.size ab) (q:bI ad new ab) (aq:new.length=n*i.size) (aS:hi new=true)
 (h:iO o st elem i.size i.bytes base len cap n new= .ok v bt al):bt=o/\m1 X ad w v al (execOp a.eval U):=by
 obtain⟨ay,g⟩:=jq h au;have aA:(5*(len+n)+1792)*(i.bytes+1)<=1125899906842624:=ay;have aj:X.P.cellsOf elem=i.size:=by simp[Program.cellsOf,af]
 have aZ:ab.length=n*i.size:=by rw[<-q.1];exact aq
 generalize bc:a.eval s=bu at aE;have aa:= @abQ X a w U lr kZ s x;rw[bc]at aa;cases base with
 |none=>
  obtain⟨bs,cu⟩:=kA (g:dL len 0 _ _=_) au;obtain⟨bp,ai⟩:=kA cu au;subst bs bp;cases aE;rw[mn]at ai;split at ai
  .rename_i aw;subst aw;cases ai;exact⟨j,m1.same (bE:=.slice none 0 0) F (aa E<|Ey M O T af ah R U.type w (λa h=>by cases h) fL)<|.kl _ _⟩
  .rename_i aw;rw[gj]at ai;cases ai;obtain⟨a',w',aW,I,V,fQ⟩:=Jq (base:=none) (len:=0) (cap:=0) (hy:=[]) M O T af Z ah R aA U.type λ_ _=>j;obtain⟨aF,bJ,K,Q,_⟩:=F.Ex elem q (Builtin.zeroCells z.cells<|a'-(0+n)).toList (a'-(0+n)) (by
    rw[hS,Jp,aC,aj];exact cf _) (0,0) (λi _=>au) w' (by rw[V];simp) fQ
   refine⟨j,aF,.value _,w',aa E I,.inl ⟨_,j,?_⟩,bJ,K⟩;have:=bd.ft (ad:=aF) ⟨st.ae,0,none⟩ ⟨w.heap.size,0,a'-(0+n),id⟩ 0 (0+n) (0+n) Q j m2
   rwa [show 0+n+(a'-(0+n))=a' by omega]at this
 |some cc=>
  obtain⟨aK,cs,el,bY,aR,ax,cu⟩:=yH (g:ak.fI st cc _ _=_) au;obtain⟨L,ai⟩:=jq cu au;obtain⟨bl,a0⟩:=jq ai au;obtain⟨aH,cJ⟩:=jq a0 au;obtain⟨br,c2⟩:=kA cJ au;rw[e4]at aH;have bw:cc.off+cap*i.size<=cs.length:=aH;subst br;obtain⟨l,B,C,fu,W⟩:=F.eB _ _ ax au;have a5:=W.room<|.inl L;rw[aj]at a5;cases aE with
  |ft _ bA N _ _ aQ bx H=>
   rw[B]at aQ;cases aQ;have bz:len*i.size<=cap*i.size:=hV _ bl;rw[mn]at c2;split at c2
   .rename_i aw;subst aw;cases c2;have a4:ab=[]:=by
     have:ab.length=0:=by rw[aZ];simp
     exact nZ this
    refine⟨j,m1.same (bE:=.slice (some ⟨l.cx,N,none⟩) (len+0)<|cap+l.ex) F ?_ (.ft _ _ _ _ _ B aK H)⟩;refine aa E<|Ey M O T af ah R U.type w (λa h=>?_) apQ;rw[a4];rfl
   .rename_i aw;have aB:∀(bJ:len+n<=cap+l.ex),N=l.de+cc.off:=by
     intro bJ;rcases H with h|⟨Y,G,A⟩
     .exact h
     .omega
    obtain⟨aX,bm⟩:=W.hA (U:=cc.off) (m:=len*i.size) (H.imp_right λe=>by rw[e.1,hF]) dM;have hold:∀aY aT,(Builtin.firstCells i.size len<|.slice (some ⟨l.cx,N,none⟩) len<|cap+l.ex).run X.P {w with tape:=aY,drawn:=aT}= .ok ((C.toList.drop N).take<|len*i.size).toArray {w with tape:=aY,drawn:=aT}:=λ_ _=>bm _ j;cases aR with
    |true=>
     obtain⟨bq,eC⟩:=r6 (c2:hK cs cc.off _ _ _=_) au;rw[ja,gj,pS]at eC;cases eC;by_cases ao:len+n<=cap+l.ex
     .have az:=aB ao;subst az;have aI:n*i.size+len*i.size<=(cap+l.ex)*i.size:=by rw[<-fb];exact hV _ R
      rw[fb]at aI;obtain⟨w',I,V,fQ⟩:=Jj (P:=X.P) (U:=l.de+cc.off+len*i.size) ab 0 C w (W.wB<|.inl L) R (Jl q aS) (λJ Y G=>W.s7 L J R<|by rw[aj];omega);simp only[pD]at V;have bb:=aa E<|Ey (base:=some ⟨l.cx,l.de+cc.off,none⟩) M O T af ah ao U.type w' (λa h=>by cases h;rw[add_eq];exact I) apQ;obtain⟨aF,bJ,K,Q⟩:=bQ.abO (X:=X) F ax au (λD=>by have D:_<_:=D;omega) Jb B (.cells ((cs.drop cc.off).take (len*i.size)++new) el (0,0) true) (bo:=⟨l.cx,l.de+cc.off,cap+l.ex-(len+n),id⟩) j _ w' V (λaF hle b'=>by
       have aJ:(C.toList.take (l.de+cc.off+len*i.size)++(ab++C.toList.drop (l.de+cc.off+len*i.size+ab.length))).length=C.size:=by simp;omega
       have ar:((cs.drop cc.off).take<|len*i.size).length=len*i.size:=by simp;omega
       have aL:(cap+l.ex-(len+n))*i.size=(cap*i.size+l.ex*i.size)-(len*i.size+n*i.size):=by rw[Nat.sub_mul,fb,fb]
       refine⟨_,fu,⟨⟨_,b',λ_=>j⟩,?_,λ_=>?_,λJ bk=>?_,λ_ J Y G=>?_,λh=>by cases h⟩⟩
       .rw[List.size_toArray,aJ,me,ar,aq];simp only;omega
       .rw[List.size_toArray,aJ,aj,me,ar,aq];simp only;rw[aL];omega
       .simp only[Ap];rw[me,ar,aq]at bk;rw[Jk C.toList ab (l.de+cc.off+len*i.size) (l.de+cc.off+J) dM];by_cases c:J<len*i.size
        .rw[aD R];obtain⟨a8,S,bh⟩:=W.cell (cc.off+J) R;refine⟨a8,by rw[<-S];simp[rM],?_⟩;rw[List.getElem_append_left R];simp only[Ip,List.getElem_drop];exact bh.mono hle
        .rw[av R,aD R];rw[show l.de+cc.off+J-(l.de+cc.off+len*i.size)=J-len*i.size by omega,aO R];refine⟨_,j,?_⟩;rw[Iq R];simp only[ar];exact(q.2 _ R R).mono hle
       .refine W.s7 L J ?_ ?_
        .simp only at Y;omega
        .rw[aj]at G⊢;rw[me,ar,aq]at G;simp only at G;rw[aL]at G;omega) fQ
      refine⟨j,aF,.value _,w',bb,.inl ⟨_,j,?_⟩,bJ,K⟩;have:=bd.ft (ad:=aF) ⟨st.ae,0,none⟩ ⟨l.cx,l.de+cc.off,cap+l.ex-(len+n),id⟩ (l.de+cc.off) (len+n) (len+n) Q j m2
      rwa [show len+n+(cap+l.ex-(len+n))=cap+l.ex by omega]at this
     .obtain⟨a',w',aW,I,V,fQ⟩:=Jq (base:=some ⟨l.cx,N,none⟩) (len:=len) (cap:=cap+l.ex) M O T af Z ah R aA U.type hold;obtain⟨aF,bJ,K,Q,_⟩:=(F.kill ax).Ex el (aX.append q) (Builtin.zeroCells z.cells<|a'-(len+n)).toList (a'-(len+n)) (by
       rw[hS,Jp,aC,aj];exact cf _) (0,0) (λi _=>au) w' (by rw[V]) fQ
      refine⟨j,aF,.value _,w',aa E I,.inl ⟨_,j,?_⟩,bJ,K⟩;have:=bd.ft (ad:=aF) ⟨st.ae,0,none⟩ ⟨w.heap.size,0,a'-(len+n),id⟩ 0 (len+n) (len+n) Q j m2
      rwa [show len+n+(a'-(len+n))=a' by omega]at this
    |false=>
     have aM:cap+l.ex=cap:=by rw[(W.plain j).1];rfl
     rw[aM]at aa hold aB;have c2:ev (len+n) cap (pK cs (Nat.add cc.off<|Nat.mul len i.size) new (λbg=>st.g8 cc.block (.cells bg el bY false) λst=>a2.ok (.slice (some cc) (len+n) cap) o st) .no)
      (hK cs cc.off (Nat.mul len i.size) (λhy=>st.iD (.cells (fr hy new) el (0,0) true) λid st=>.ok (.slice (some ⟨id,0,none⟩) (len+n)<|len+n) o st) .no)=a2.ok v bt al:=c2
     rw[lR]at c2;split at c2
     .rename_i ao;have az:=aB ao;subst az;have aI:n*i.size+len*i.size<=cap*i.size:=by rw[<-fb];exact hV _ R
      have a1:cc.off+len*i.size+new.length<=cs.length:=by rw[aq];omega
      have eC:st.g8 cc.block (.cells (cs.take (cc.off+len*i.size)++(new++cs.drop (cc.off+len*i.size+new.length))) el bY false) (λst=>a2.ok (.slice (some cc) (len+n) cap) o st)=a2.ok v bt al:=by
       rcases Jf c2 au with⟨_,eC⟩|⟨bj,eC⟩
       .exact eC
       .rw[bj];simp;exact eC
      rw[ja]at eC;cases eC;obtain⟨w',I,bJ,K⟩:=F.store ax B L a1 q aS;refine⟨j,ad,.value _,w',(aa E<|Ey (base:=some ⟨l.cx,l.de+cc.off,none⟩) M O T af ah ao U.type w' (λa h=>by cases h;rw[add_eq,rM];exact I) apQ),.inl ⟨_,j,?_⟩,bJ,K⟩;have:=bd.ft (ad:=ad) cc l (l.de+cc.off) (len+n) cap B aK m2
      rwa [aM]at this
     .rename_i ao;obtain⟨bq,eC⟩:=r6 c2 au;rw[gj,pS]at eC;cases eC;obtain⟨a',w',aW,I,V,fQ⟩:=Jq (base:=some ⟨l.cx,N,none⟩) (len:=len) (cap:=cap) M O T af Z ah R aA U.type hold;obtain⟨aF,bJ,K,Q,_⟩:=F.Ex el (aX.append q) (Builtin.zeroCells z.cells<|a'-(len+n)).toList (a'-(len+n)) (by
       rw[hS,Jp,aC,aj];exact cf _) (0,0) (λi _=>au) w' (by rw[V]) fQ
      refine⟨j,aF,.value _,w',aa E I,.inl ⟨_,j,?_⟩,bJ,K⟩;have:=bd.ft (ad:=aF) ⟨st.ae,0,none⟩ ⟨w.heap.size,0,a'-(len+n),id⟩ 0 (len+n) (len+n) Q j m2
      rwa [show len+n+(a'-(len+n))=a' by omega]at this
end
theorem Bp:∀b2:ac ci,nu b2=b2.map λb=>Value.int .u8 (b.toNat:Int)
 |[]=>rfl
 |b::b2=>by show _::nu b2=_;rw[Bp b2];rfl
theorem Pf:∀b2:ac ci,hi (nu b2)=true
 |[]=>rfl
 |_::b2=>Pf b2
theorem Jr(ad:bH):∀b2:ac ci,bI ad (nu b2) (nu b2)
 |[]=>bI.nil ad
 |_::b2=>bI.cons (.int _ _)<|Jr ad b2
theorem Js:∀{ab:ac bv} {b2:ac ci},bytesOf ab=some b2->∃bT:ac Int,ab=bT.map (Value.int .u8)/\b2=bT.map (λn=>UInt8.ofNat n.toNat)
 |[],b2,h=>by cases h;exact ap6 ap6
 |v::ab,b2,h=>by
  have⟨k,n,e,cu⟩:=od h au;have⟨N,I⟩:=jr cu au;have⟨r,g,a0⟩:=ie I au;cases a0;have⟨bT,S,q⟩:=Js g;have:=wF N;subst this;exact⟨n::bT,by simp[e,S],by simp[q]⟩
section
variable{ad:bH}{o bt:aK}{a:Act}{aN:Nat}{st al:ak}{w:f5}{U:Oper}{v:bv}{call:bN}
theorem abR(P:f8)(w:f5)(s:f9)(size:Nat):Src P w (.string s) s.data.toList.length size (nu s.data.toList):=by
 have g:=(hS (xs:=s.data)).symm;refine⟨by rfl,λL h=>?_⟩;simp[Builtin.firstCells,Sem.run_pure]
 grind [Bp]
theorem abS{lr kZ:co}{d:TypeDesc}{i:gc}{z:bv}{s x:ce}(a':gk X.a3 s=true)(aa:gk X.a3 x=true)(E:U.op= .call {callee:=.builtin .append,args:= #[s,x],argTypes:= #[lr,kZ]})
 (M:X.P.underlying lr=some (.slice elem)) (O:X.P.underlying kZ=some d) (T:∀k,d≠.int k) (af:X.P.info? elem=some i) (Z:i.zero=some z) (q:z.cells.size=i.size)
 (D:eZ ad o a aN) (F:bQ X ad st w) (h:OW elem i.size i.bytes s x call o st= .ok v bt al):bt=o/\m1 X ad w v al (execOp a.eval U):=by
 have⟨base,len,cap,ak,g⟩:=yD h au;have Y:=D.ar F a';rw[ak]at Y;have Q:=D.ar F aa;generalize V:o.ar x=R at g Q;cases R with
 |slice b n c=>
  cases b with
  |none=>
   have⟨ah,I⟩:=kA g au;subst ah;generalize B:a.eval x=kn at Q;cases Q;refine Ez E M O T af Z q F Y ?_ (bI.nil ad) au j I;simpa[B]using⟨j,λ_ _=>j⟩
  |some b=>
   have⟨L,cs,el,bY,aR,A,aj,I⟩:=Ep g au;have⟨K,a0⟩:=jr I au;have⟨l,aB,C,fu,aQ⟩:=F.eB _ _ A au;generalize B:a.eval x=kn at Q;cases Q with
   |ft _ bo N _ _ W ao H=>
    rw[aB]at W;cases W;have⟨ai,G⟩:=aQ.hA (H.imp_right λe=>show n*i.size=0 by rw[e.1,hF]) aj;exact Ez E M O T af Z q F Y (by rw[B];exact⟨j,λ_ _=>G _ j⟩) ai (by grind) K a0
 |string ae=>
  have⟨ab,I⟩:=kA g au;rw[e4]at I;generalize B:a.eval x=kn at Q;cases Q;exact Ez E M O T af Z q F Y (by rw[B];exact abR X.P w ae i.size) (Jr ad _) (by rw[Bp,hI,ab,oR]) (Pf _) I
 |chan p=>
  cases p with
  |none=>
   have S:∀(k:be Addr->Nat->Nat->a2) z,hY (.chan none) k z=z:=λ_ _=>j;have jt:∀a z:a2,r0 (.chan none) a z=a:=λ_ _=>j;simp[S,jt]at g;generalize B:a.eval x=kn at Q;cases Q;refine Ez E M O T af Z q F Y ?_ (bI.nil ad) au j g;rw[B];refine⟨j,λtape drawn=>?_⟩;simp[Builtin.firstCells];simp[loadCells,loadCellsFrom]
  |some _=>exact absurd g (by simp[hY,hX,r0])
 |_=>exact absurd g<|by simp[hY,hX,r0]
end
section
variable{ad:bH}{o bt:aK}{a:Act}{aN:Nat}{st al:ak}{w:f5}{U:Oper}{v:bv}{call:bN}
theorem abT{lr kZ:co}{i:gc}{d s:ce}(T:gk X.a3 d=true)(av:gk X.a3 s=true)(E:U.op= .call {callee:=.builtin .copy,args:= #[d,s],argTypes:= #[lr,kZ]})
 (M:X.P.underlying lr=some (.slice elem)) (af:X.P.info? elem=some i) (D:eZ ad o a aN) (F:bQ X ad st w) (h:OX i.size d s call o st= .ok v bt al):
 bt=o/\m1 X ad w v al (execOp a.eval U):=by
 obtain⟨Q,g,aw,ay,cu⟩:=yD h au;obtain⟨ao,aH,iH,q,ae⟩:=yD cu au;have S:=D.ar F T;rw[ay]at S;have Y:=D.ar F av;rw[q]at Y;have O:∀{bE:bv} {w':f5},(Builtin.copy_ #[lr,kZ] U.type #[a.eval d,a.eval s]).run X.P w= .ok bE w'->(execOp a.eval U).run X.P w= .ok (.value bE) w':=by
  intro bE w' I;unfold execOp;rw[E];simp[resolve,x4,jZ,x5,Sem.run_bind,Sem.run_pure,Result.andThen,invoke,builtin,I]
 generalize aZ:a.eval d=aS at S O;generalize aG:a.eval s=aK at Y O;cases Q with
 |none=>
  obtain⟨bX,a0⟩:=kA ae au;subst bX;cases a0;cases S;refine⟨j,m1.same F (O ?_)<|.int _ _⟩;cases Y<;>simp[Builtin.copy_,run_underlying M,Builtin.lenOf,qO af,Builtin.firstCells,loadCells,loadCellsFrom,goInt]
 |some cc=>
  cases ao with
  |none=>
   obtain⟨bX,a0⟩:=kA ae au;subst bX;cases a0;cases Y;refine⟨j,m1.same F (O ?_)<|.int _ _⟩;cases S;simp[Builtin.copy_,run_underlying M,Builtin.lenOf,qO af,Builtin.firstCells,goInt,storeCells]
  |some ak=>
   have a0:st.load ak (Nat.mul (ev aH g aH g) i.size) (λab=>cond (hi ab) (st.store cc ab (λst=>a2.ok (.int .i64<|.ofNat<|ev aH g aH g) o st) .no) .no) .no=a2.ok v bt al:=ae;rw[show ev aH g aH g=Nat.min aH g by rw[lR];show _=min aH g;rw[Nat.min_def],show Nat.mul (Nat.min aH g) i.size=Nat.min aH g*i.size from rfl]at a0;obtain⟨aV,cs,el,bY,aR,aq,aj,cJ⟩:=Ep a0 au;obtain⟨aD,c2⟩:=jr cJ au;obtain⟨A,aO,aJ,aE,aI,a',ax,eC⟩:=O3 c2 au;obtain⟨l,aB,C,fu,aQ⟩:=F.eB _ _ aq au;obtain⟨R,V,aY⟩:=F.eB _ _ a' au;cases Y with
   |ft _ bo N _ _ W aX H=>
    rw[aB]at W;cases W;cases S with
    |ft _ aW aa _ _ ai aM aL=>
     rw[V]at ai;cases ai;have aC:aH=0\/g=0->Nat.min aH g=0:=by grind
     obtain⟨B,G⟩:=aQ.hA (H.imp_right λe=>show Nat.min aH g*i.size=0 by rw[aC<|.inl e.1,hF]) aj;have az:(Builtin.firstCells i.size (Nat.min aH g)<|.slice (some ⟨l.cx,N,none⟩) aH<|iH+l.ex).run X.P w= .ok ((C.toList.drop N).take<|Nat.min aH g*i.size).toArray w:=G w j;have L:∀w',(storeCells ⟨R.cx,aa,none⟩<|(C.toList.drop N).take<|Nat.min aH g*i.size).run X.P w= .ok () w'->
      (Builtin.copy_ #[lr,kZ] U.type #[.slice (some ⟨R.cx,aa,none⟩) g (aw+R.ex),.slice (some ⟨l.cx,N,none⟩) aH<|iH+l.ex]).run X.P w= .ok (.int .i64 (Nat.min aH g:Nat)) w':=by
      intro w' I;simp[Builtin.copy_,Ap,Aq,Du,Sem.run_bind,run_underlying M,Result.andThen,qO af,Builtin.lenOf,Sem.run_pure];rw[az];simp[I,goInt]
     rcases eC with⟨hle,fv⟩|⟨he,fv⟩
     .cases fv;by_cases Z:(cs.drop ak.off).take (Nat.min aH g*i.size)=[]
      .have ah:(C.toList.drop N).take (Nat.min aH g*i.size)=[]:=by
        grind
       refine⟨j,ad,.value _,w,O (L w<|by rw[ah];rfl),.inl ⟨_,j,.int _ _⟩,?_,.refl ad w⟩;have:=F.Jm a';rw[Z];simpa using this
      .have aA:aa=R.de+cc.off:=by
        grind
       subst aA;obtain⟨w',I,bJ,K⟩:=F.store a' V ax hle B aD;exact⟨j,ad,.value _,w',O<|L w' I,.inl ⟨_,j,.int _ _⟩,bJ,K⟩
     .cases fv;have ah:(C.toList.drop N).take (Nat.min aH g*i.size)=[]:=by
       have:=B.1;rw[he]at this;exact nZ this.symm
      exact⟨j,ad,.value _,w,O (L w<|by rw[ah];rfl),.inl ⟨_,j,.int _ _⟩,F.Jm a',.refl ad w⟩
theorem Pg(P:f8)(w:f5)(f:bv->f9->Sem (ForInStep f9))(D:∀n s,f (.int .u8 n) s=pure (.yield<|s.push<|UInt8.ofNat n.toNat)):∀(bT:ac Int) (s:f9),
 (forIn (bT.map<|Value.int .u8).toArray s f:Sem f9).run P w= .ok ⟨⟨s.data.toList++bT.map λn=>UInt8.ofNat n.toNat⟩⟩ w
 |[],s=>by simp
 |n::bT,s=>by
  simp[jZ,D];have:=Pg P w f D bT (s.push<|UInt8.ofNat n.toNat)
  simp_all
end
theorem Ph(P:f8)(e:co)(j N n:Nat)(M:P.cellsOf e≠0)(bX:N%P.cellsOf e=0)(aj:N/P.cellsOf e+n<=j):liesAt P P.depth e j N e n=true:=by
 have T:P.depth=(2*(P.types.size+Made.depth)+1)+1:=rfl;rw[T];have R:sameLayout P (2*(P.types.size+Made.depth)+1+1) e e=true:=by simp[sameLayout]
 have I:rowAt P (sameLayout P P.depth · e) P.depth e j N n=true:=by
  rw[T];simp only[rowAt];rw[av M];simp[bX,aj,R]
 simp only[liesAt];rw[I];rfl
theorem Pj(c:ci):∀(l:ac ci),r2 c l=(List.range l.length).find? (λi=>l[i]! ==c)
 |[]=>rfl
 |b::b2=>by
  show cond (Nat.beq b.toNat c.toNat) (some 0) (bq (r2 c b2) (λi=>some<|Nat.succ i) none)=_;rw[hQ,Dw,Ir];by_cases ay:b=c
  .subst ay;simp
  .have aC:Nat.beq b.toNat c.toNat=false:=by
    rw[x3];intro V;exact ay<|vO.1<|dB V
   have G:((b::b2)[0]! ==c)=false:=by grind
   rw[aC,G,List.find?_map,Pj c b2];have:((λi=>(b::b2)[i]! ==c)∘Nat.succ)=(λi=>b2[i]! ==c):=by grind
   rw[this];cases(List.range b2.length).find? (λi=>b2[i]! ==c)<;>rfl
section
variable{ad:bH}{o bt:aK}{a:Act}{aN:Nat}{st al:ak}{w:f5}{U:Oper}{v:bv}{call:bN}
def EA{f:d7}{args:bi ce}{aA:bi co}(E:U.op= .call {callee:=.value<|.func f,args:=args,argTypes:=aA}):
 (execOp a.eval U).run X.P w=(callFunc f<|args.map a.eval).run X.P w:=by
 rw[execOp];rw[E];simp[resolve,Act.eval,Deferred.ofValue,invoke]
def abU(aA:bi co)(t:co)(n c:Nat):Builtin.unsafeSliceData_ aA t #[.slice none n c]=pure (.pointer none):=rfl
def abV(aA:bi co)(t:co)(b:Addr)(n c:Nat)(aQ:c≠0):Builtin.unsafeSliceData_ aA t #[.slice (some b) n c]=pure (.pointer<|some b):=by
 have:Builtin.unsafeSliceData_ aA t #[.slice (some b) n c]=(if c≠0 then pure (.pointer<|some b)else do
  if(<-viewAt b.block).isSome then pure (.pointer<|some b)
  else pure (.pointer<|some ⟨<-newObj (.view b<|<-elemOf t),0,none⟩)):=rfl
 rw[this,aD aQ]
def EB{C:bi bv}(h:w.heap[b]? =some (.cells C e bY)):w.shape? b=some (e,C.size):=by simp[World.shape?,h]
def Pk(P:f8){cc:Addr}{C:bi bv}(h:w.heap[cc.block]? =some (.cells C e bY)):(Conv.seenAt cc).run P w= .ok cc w:=by
 simp[Conv.seenAt,viewAt,EB h]
end
section
variable{ad:bH}{o bt:aK}{a:Act}{aN:Nat}{st al:ak}{w:f5}{U:Oper}{v:bv}{call:bN}
theorem Pl(P:f8)(w:f5)(b:Nat)(C:bi bv)(e:co)(bY:Nat×Nat)(h:w.heap[b]? =some (.cells C e bY)):∀(bT:ac Int) (U:Nat) (j:f9),(C.toList.drop U).take bT.length=bT.map (Value.int .u8)->
 (loadBytes ⟨b,U,none⟩ j bT.length).run P w= .ok ⟨⟨j.data.toList++bT.map λn=>UInt8.ofNat n.toNat⟩⟩ w
 |[],U,j,_=>by simp[loadBytes]
 |n::bT,U,j,aQ=>by
  have g:C[U]? =some (.int .u8 n):=by
   have:=congrArg (λl=>l[0]?) aQ;exact apE
  have aW:U<C.toList.length:=by
   grind
  have S:(C.toList.drop<|U+1).take bT.length=bT.map (Value.int .u8):=by
   rw[fj aW]at aQ
   grind
  simp[hQ,loadBytes,Sem.run_bind,run_load,cell_of h,g,Result.andThen,add_eq];rw[Pl P w b C e bY h bT (U+1) _ S]
  simp_all
theorem abW{x y:ce}{aa a':co}{i:gc}(az:gk X.a3 x=true)(T:gk X.a3 y=true)(E:U.op= .call {callee:=.builtin .unsafeString,args:= #[x,y],argTypes:= #[aa,a']})(aI:X.P.underlying aa=some (.pointer e))
 (af:X.P.info? e=some i) (aC:i.size=1) (D:eZ ad o a aN) (F:bQ X ad st w) (h:Ei e x y call o st= .ok v bt al):bt=o/\m1 X ad w v al (execOp a.eval U):=by
 obtain⟨p,hp,cu⟩:=A8 h au;obtain⟨k,ck,aj,I⟩:=od cu au;obtain⟨n,S,a0⟩:=pR I au;subst S;have Q:=D.ar F az;rw[hp]at Q;generalize V:a.eval x=aO at Q;have aq:=D.ar F T;rw[aj]at aq;generalize aK:a.eval y=aX at aq;cases aq;have aZ:X.P.cellsOf e=1:=by simp[Program.cellsOf,af,aC]
 have ak:∀{bE:bv} {w':f5},(Builtin.unsafeString_ #[aa,a'] U.type #[a.eval x,a.eval y]).run X.P w= .ok bE w'->(execOp a.eval U).run X.P w= .ok (.value bE) w':=by
  intro bE w' aE;unfold execOp;rw[E];simp[resolve,x4,jZ,x5,Sem.run_bind,Sem.run_pure,Result.andThen,invoke,builtin,aE]
 rw[V,aK]at ak;have aA:¬((n:Int)<0):=R
 have aw:∀p:be Addr,∃(Z:String) (ab:RuntimeError) (ae:Unsupported) (g:RuntimeError) (ah:Unsupported),Builtin.unsafeString_ #[aa,a'] U.type #[.pointer p,.int k n]=(do
  let r<-asInt (.int k n)
  let some e:=(#[aa,a']:bi co)[0]? |stuck Z
  if r<0 then runtimePanic ab
  if r>IntKind.i64.max then unsupported ae
  match p with
  |none=>if r=0 then pure (.string .empty)else runtimePanic g
  |some q=>if r=0 then pure (.string .empty)else if<-variablesAt q (<-elemOf e) r.toNat then do let s<-loadBytes q .empty r.toNat;freeze q r.toNat;pure (.string s)else unsupported ah):=λp=>⟨default,_,_,_,_,j⟩
 rw[mn]at a0;split at a0
 .rename_i bX;subst bX;cases a0;cases Q with
  |lq=>
   refine⟨j,m1.same (bE:=.string .empty) F (ak ?_)<|.string _⟩;obtain⟨Z,ab,ae,g,ah,M⟩:=aw _;rw[M];simp[asInt,asIntOf]
  |ptr cc l aB aY=>
   refine⟨j,m1.same (bE:=.string .empty) F (ak ?_)<|.string _⟩;obtain⟨Z,ab,ae,g,ah,M⟩:=aw _;rw[M];simp[asInt,asIntOf]
 .rename_i bX;obtain⟨cc,S,cJ⟩:=ie a0 au;subst S;obtain⟨aW,c2⟩:=jq cJ au;obtain⟨aV,cs,el,bY,aR,O,eC⟩:=yH c2 au;obtain⟨L,fv⟩:=jq eC au;obtain⟨aM,lu⟩:=kA fv au;obtain⟨aH,oh⟩:=r6 lu au;obtain⟨b2,ay,qP⟩:=ie oh au;rw[ja]at qP;cases qP;subst aM;obtain⟨l,aB,C,fu,aQ⟩:=F.eB _ _ O au;have aS:=aQ.room<|.inl L;obtain⟨bT,S,jt⟩:=Js ay;rw[iX]at aH;cases Q with
  |ptr _ bo W K=>
   rw[aB]at W;cases W;have B:=aQ.row cc.off n (by grind);rw[S]at B;have ax:bT.length=n:=by
    have:=congrArg List.length S;simp at this;omega
   have G:=Pl X.P w l.cx C el fu (aQ.wB<|.inl L) bT (l.de+cc.off) .empty (by rw[ax];exact Ji B);rw[ax]at G;have aD:(variablesAt ⟨l.cx,l.de+cc.off,none⟩ el n).run X.P w= .ok true w:=by
    simp[variablesAt,Sem.run_bind,run_program,Result.andThen,run_shape,EB<|aQ.wB<|.inl L,Sem.run_pure]
    grind [Ph]
   have Y:=(tZ.1<|aQ.wB<|.inl L).1
   let ao:Nat×Nat:=if fu.1==fu.2 then(l.de+cc.off,l.de+cc.off+n)else(min fu.1<|l.de+cc.off,max fu.2<|l.de+cc.off+n)
   have Bq:(w.freeze ⟨l.cx,l.de+cc.off,none⟩ n).heap=w.heap.setIfInBounds l.cx (.cells C el ao):=by
    simp[World.freeze,av bX];apply Il;intro J;rw[Array.getElem?_modify];by_cases aJ:l.cx=J
    .subst aJ;rw[(aQ.wB<|.inl L)];simp[Y,ao]
    .grind
   obtain⟨aL,a'⟩:=bQ.yJ X F O au (λD=>by have D:_<_:=D;omega) aB (.cells cs el (cc.off,Nat.add cc.off n) aR) _ (w.freeze ⟨l.cx,l.de+cc.off,none⟩ n) Bq (λ_ N=>⟨C,ao,⟨⟨_,N,λ_=>j⟩,aQ.jK,λ_=>aQ.room<|.inl L,aQ.cell,λH=>by
    exfalso;have:cc.off+n<=cc.off:=H;omega,aQ.plain⟩⟩)<|by constructor<;>simp[World.freeze,av bX]
   refine⟨j,ad,.value<|.string ⟨⟨b2⟩⟩,_,ak ?_,.inl ⟨_,j,.string _⟩,aL,a'⟩;obtain⟨Z,ab,ae,g,ah,M⟩:=aw _;rw[M];have A:¬(n>IntKind.i64.max):=by
    have:IntKind.i64.max=9223372036854775807:=ai
    omega
   have aG:¬((n:Int)=0):=R
   simp only[asInt,asIntOf,Sem.run_bind,Sem.run_pure,Result.andThen,Ap,Aq,av aA,av A,av aG,elemOf,run_underlying aI,aD,vP,if_true,G];rw[jt];simp
end
end Go.bC
namespace Go.bC
variable{a b:ce}{a3:Nat}
def Jt:ce->Bool
 |.const _=>true
 |_=>false
def EC:ce->ce->Bool
 |.tmp a,.tmp b=>Nat.beq a b
 |.const v,.const w=>dC v w
 |.global a,.global b=>Nat.beq a b
 |.func a,.func b=>Nat.beq a b
 |_,_=>false
theorem abX(h:EC a b=true):a=b:=by
 cases a<;>cases b<;>simp only[EC]at h<;>first|(cases h)|(rw[dB h])|(rw[j2 _ _ h])
def c9(a3:Nat)(a b:ce):Bool:=EC a b&&gk a3 b
theorem sb(h:c9 a3 a b=true):a=b/\gk a3 b=true:=by grind [c9,abX]
def mq{a b:Nat}:Nat.beq a b=true↔a=b:=⟨dB,λh=>h▸kT a⟩
def ED:c9 a3 a b=true↔a=b/\gk a3 b=true:=
 ⟨sb,λ⟨e,h⟩=>by subst e;rw[c9];rw[h];cases a<;>simp[EC,oX]⟩
def m3(a3:Nat):ac ce->ac ce->Bool
 |[],[]=>true
 |a::as,b::b2=>c9 a3 a b&&m3 a3 as b2
 |_,_=>false
theorem Br{a3:Nat}:∀{as b2:ac ce},m3 a3 as b2=true↔as=b2/\∀x∈b2,gk a3 x=true
 |[],[]=>by simp[m3]
 |a::as,b::b2=>by simp[m3,c1,ED,Br];grind
 |[],_::_=>by simp[m3]
 |_::_,[]=>by simp[m3]
def sc(a3:Nat):be ce->be ce->Bool
 |none,none=>true
 |some a,some b=>c9 a3 a b
 |_,_=>false
def abY{a b:be ce}:sc a3 a b=true↔a=b/\∀y,b=some y->gk a3 y=true:=by
 cases a<;>cases b<;>simp[sc,ED]
def uC(a3:Nat)(N:Nat->be (Nat×Nat)):ac (Nat×Nat×ce)->ac (Nat×ce)->Bool
 |[],[]=>true
 |(off,S,x)::a7,(i,y)::jN=>
  (match N i with
   |some (U,s)=>Nat.beq off U&&Nat.beq S s
   |none=>false)&&c9 a3 x y&&uC a3 N a7 jN
 |_,_=>false
theorem EE{a3:Nat}{N:Nat->be (Nat×Nat)}:∀{a7:ac (Nat×Nat×ce)} {jN:ac (Nat×ce)},uC a3 N a7 jN=true->
 a7=jN.map (λp=>(((N p.1).getD (0,0)).1,((N p.1).getD (0,0)).2,p.2))/\∀p∈jN,(N p.1).isSome/\gk a3 p.2=true
 |[],[],_=>⟨j,au⟩
 |(off,g,x)::a7,(i,y)::jN,h=>by
  simp[uC,c1]at h;have⟨⟨aC,aI⟩,A⟩:=h;have⟨S,D⟩:=sb aI;have⟨f1,f2⟩:=EE A;cases hp:N i with
  |none=>rw[hp]at aC;cases aC
  |some q=>
   rw[hp]at aC;simp only[c1]at aC;have B:=dB aC.1;have C:=dB aC.2
   grind
 |[],_::_,h=>by simp[uC]at h
 |_::_,[],h=>by simp[uC]at h
section
variable(P:f8)(a3:Nat)(ll lO:d7->Bool)(keys:co->be fH)(pV:d7->Bool)(eqs:co->be Nat)(pW:d7->Bool)(lS:Nat)
def iw(t:co)(n:Nat):Bool:=(P.info? t).any λi=>Nat.beq n i.size
def yL(t:co)(g:Bool):Bool:=(P.underlying t).any λd=>Bi d==g
def Ju(t:co)(z:bv):Bool:=((P.info? t).bind (·.zero)).any λv=>dC z v&&kC z
def EF(t:co)(z:ac bv):Bool:=((P.info? t).bind (·.zero)).any λv=>oW z v.cells.toList&&wD z
variable{P}{t:co}
def qQ{n:Nat}:iw P t n=true↔∃i,P.info? t=some i/\n=i.size:=by
 rw[iw];cases P.info? t<;>simp
def Jv{g:Bool}:yL P t g=true↔∃d,P.underlying t=some d/\Bi d=g:=by
 rw[yL];cases P.underlying t<;>simp
def Pm{z:bv}(h:Ju P t z=true):kC z=true/\∃i,P.info? t=some i/\i.zero=some z:=by
 have⟨v,h,g⟩:=(qs _ _).1 h;rw[c1]at g;rw[<-j2 _ _ g.1]at h;exact⟨g.2,rN.1 h⟩
def Jw{z:ac bv}(h:EF P t z=true):wD z=true/\∃i v,P.info? t=some i/\i.zero=some v/\z=v.cells.toList:=by
 have⟨v,h,g⟩:=(qs _ _).1 h;rw[c1]at g;have⟨i,h,e⟩:=rN.1 h;exact⟨g.2,i,v,h,e,AR _ _ g.1⟩
variable(P)
def Jx(t:co)(e:qB)(x y:ce):Bool:=
 match e,P.underlying t with
 |.yn,some .bool=>true
 |.mi,some (.slice _)=>true
 |.IQ,some (.map _ _)=>true
 |.D0,some (.func _ _ _)=>true
 |.D1,some (.interface _)=>Jt x||Jt y
 |.ptr,some (.pointer el)=>(P.info? el).any λi=> !Nat.beq i.size 0
 |_,_=>false
def Jy:fH->fH->Bool
 |.int k,.int L=>decide (k=L)
 |.str,.str=>true
 |.arr k n,.arr L M=>decide (k=L)&&Nat.beq n M
 |_,_=>false
def Bs(t:co)(ct:fH):Bool:=
 match P.underlying t with
 |some (.map ig _)=>(keys ig).any (Jy · ct)
 |_=>false
def EG(t:co):Bool:=match P.underlying t with
 |some (.map _ _)=>true
 |_=>false
def Bt(op:Op)(y:uf):Bool:=
 match y,op with
 |.look ct z ok m k,.lookup t R L B=>c9 a3 m R&&c9 a3 k L&&(ok==B)&&Bs P keys t ct&&(match P.underlying t with|some (.map _ e)=>Ju P e z|_=>false)
 |.e3 ct m k v,.mapUpdate t R L bE|.e3 ct m k v,.insert t R L bE=>c9 a3 m R&&c9 a3 k L&&c9 a3 v bE&&Bs P keys t ct
 |.del ct m k,.call {callee:=.builtin .delete,args:=⟨[R,L]⟩,argTypes:=⟨[t,_]⟩}=>c9 a3 m R&&c9 a3 k L&&Bs P keys t ct
 |.v9 m,.call {callee:=.builtin .len,args:=⟨[R]⟩,argTypes:=⟨[t]⟩}=>c9 a3 m R&&EG P t
 |.ug m,.range t R=>c9 a3 m R&&EG P t
 |.wa i,.entry H=>c9 a3 i H
 |.n7 i,.next H false=>c9 a3 i H
 |.yo gt a b,.binOp W t K V _=>decide (W=(if gt then .gtr else .leq))&&c9 a3 a K&&c9 a3 b V&&(match P.underlying t with|some (.int .i64)=>true|_=>false)
 |.idxs g a c,.call {callee:=.value<|.func f,args:=⟨[b,d]⟩,.. }=>c9 a3 a b&&c9 a3 c d&&pW f&&Nat.beq g lS
 |.aT a c,.call {callee:=.value<|.func f,args:=⟨[b,d]⟩,.. }=>c9 a3 a b&&c9 a3 c d&&pV f
 |.uh neg n a b,.binOp W t K V _=>decide (W=(if neg then .neq else .eql))&&c9 a3 a K&&c9 a3 b V&&(eqs t).any (Nat.beq n)
 |_,_=>false
def Pn(op:Op)(x:dh):Bool:=
 match x,op with
 |.jF a,.move b|.jF a,.assign b=>c9 a3 a b
 |.pick c a b,.pick E K V=>c9 a3 c E&&c9 a3 a K&&c9 a3 b V
 |.alloc z e,.alloc t=>Nat.beq e t&&EF P t z
 |.box e a,.box t b=>Nat.beq e t&&c9 a3 a b
 |.build z a7,.build t parts=>EF P t z&&(match P.underlying t with
  |some (.struct h)=>h.toList.all (λf=>(P.info? f.type).isSome)&&uC a3 (λJ=>(h.map λf=>(f.offset,P.cellsOf f.type))[J]?) a7 parts.toList
  |some (.array _ e)=>(P.info? e).any λi=>uC a3 (λJ=>some (J*i.size,i.size)) a7 parts.toList
  |_=>false)
 |.qC e n z a7,.buildSlice t m parts=>Nat.beq n m&&(match P.underlying t with
  |some (.slice el)=>Nat.beq e el&&(match P.info? el with
   |some i=>(i.zero).any λv=>Nat.ble (m*i.size) (2^24)&&oW z ((List.range<|m*i.size).map λJ=>(if m*i.size=0 then(#[]:bi bv)else v.cells)[J%(if m*i.size=0 then(#[]:bi bv)else v.cells).size]!)&&wD z&&
    uC a3 (λJ=>some (J*i.size,i.size)) a7 parts.toList
   |_=>false)
  |_=>false)
 |.iv a,.load t b=>c9 a3 a b&&yL P t false
 |.mV n a,.load t b=>c9 a3 a b&&yL P t true&&iw P t n
 |.store n a x,.store t b y=>c9 a3 a b&&c9 a3 x y&&iw P t n
 |.ui a,.nilCheck b=>c9 a3 a b
 |.bin U a b,.binOp W _ K V _=>decide (U=W)&&c9 a3 a K&&c9 a3 b V
 |.eqv neg e a b,.binOp W t K V _=>decide (W=(if neg then .neq else .eql))&&c9 a3 a K&&c9 a3 b V&&Jx P t e K V
 |.un U a,.unOp W _ b=>decide (U=W)&&c9 a3 a b
 |.uj k a,.convert s t b=>c9 a3 a b&&(match P.underlying s,P.underlying t with|some _,some (.int L)=>decide (k=L)|_,_=>false)
 |.yq a,.convert s t b=>c9 a3 a b&&(match P.underlying s,P.underlying t with|some _,some .string=>true|_,_=>false)
 |.AO a,.convert s t b=>c9 a3 a b&&(match P.underlying s,P.underlying t with|some (.slice e),some .string=>(match P.underlying e with|some (.int .u8)=>true|_=>false)|_,_=>false)
 |.wb e a,.convert s t b=>c9 a3 a b&&(match P.underlying s,P.underlying t with|some .string,some (.slice G)=>Nat.beq e G&&iw P G 1&&(match P.underlying G with|some (.int .u8)=>true|_=>false)|_,_=>false)
 |.D5 t a,.makeInterface I b=>Nat.beq t I&&c9 a3 a b&&(match P.underlying I with|some (.interface _)=>false|some _=>true|none=>false)
 |.rU (.func f) a c,.makeFunc (.func g) b d=>Nat.beq f g&&m3 a3 a b.toList&&m3 a3 c d.toList
 |.rU (.method f) a c,.makeFunc (.method g) b d=>f==g&&m3 a3 a b.toList&&m3 a3 c d.toList
 |.pH e b2 z l c,.makeSlice t T E=>c9 a3 l T&&c9 a3 c E&&(match P.underlying t with
  |some (.slice el)=>Nat.beq e el&&EF P el z&&(P.info? el).any λi=>Nat.beq b2 i.bytes&& !Nat.beq i.size 0&&Nat.beq z.length i.size
  |_=>false)
 |.sZ a bm af,.slice t b q A none=>c9 a3 a b&&sc a3 bm q&&sc a3 af A&&(match P.underlying t with|some .string=>true|_=>false)
 |.wc n s a bm af g7,.slice t b q A Q=>c9 a3 a b&&sc a3 bm q&&sc a3 af A&&sc a3 g7 Q&&(Q.isNone||A.isSome)&&
  (match P.underlying t with|some (.array M e)=>Nat.beq n M&&iw P e s|_=>false)
 |.n8 s a bm af g7,.slice t b q A Q=>c9 a3 a b&&sc a3 bm q&&sc a3 af A&&sc a3 g7 Q&&(Q.isNone||A.isSome)&&
  (match P.underlying t with|some (.slice e)=>iw P e s|_=>false)
 |.qD N a,.fieldAddr t b f=>c9 a3 a b&&(match P.underlying t with
  |some (.struct h)=>(match h[f]? with|some fd=>Nat.beq N fd.offset&&(P.info? fd.type).any (λi=> !Nat.beq i.size 0)|none=>false)
  |_=>false)
 |.pI N S Z a,.field t b f=>c9 a3 a b&&(match P.underlying t with
  |some (.struct h)=>(match h[f]? with|some fd=>Nat.beq N fd.offset&&iw P fd.type S&&yL P fd.type Z|none=>false)
  |_=>false)
 |.rV n S a i,.indexAddr t b J=>c9 a3 a b&&c9 a3 i J&&(match P.underlying t with|some (.array M e)=>Nat.beq n M&&iw P e S|_=>false)
 |.iC S a i,.indexAddr t b J=>c9 a3 a b&&c9 a3 i J&&(match P.underlying t with|some (.slice e)=>iw P e S|_=>false)
 |.uk a i,.index t b J=>c9 a3 a b&&c9 a3 i J&&(match P.underlying t with|some .string=>true|_=>false)
 |.IT n S Z a i,.index t b J=>c9 a3 a b&&c9 a3 i J&&(match P.underlying t with|some (.array M e)=>Nat.beq n M&&iw P e S&&yL P e Z|_=>false)
 |.D6 t z ok a,.typeAssert b _ I B=>c9 a3 a b&&Nat.beq t I&&(ok==B)&&(match P.underlying I with|some (.interface _)=>false|some _=>true|none=>false)&&Ju P I z
 |.rW a i,.extract b J=>c9 a3 a b&&Nat.beq i J
 |.call f as,.call {callee:=.value g,args,.. }=>c9 a3 f g&&m3 a3 as args.toList&&(match g with|.func k=>((P.funcs[k]?).map λfn=>fn.body.isSome&& !(fn.name== "runtime.NumGoroutine")).getD false|_=>true)
 |.we a,.call {callee:=.builtin .len,args:=⟨[b]⟩,argTypes:=⟨[t]⟩}=>c9 a3 a b&&(match P.underlying t with|some (.slice _)=>true|_=>false)
 |.wg a,.call {callee:=.builtin .len,args:=⟨[b]⟩,argTypes:=⟨[t]⟩}=>c9 a3 a b&&(match P.underlying t with|some .string=>true|_=>false)
 |.AP n,.call {callee:=.builtin .len,args:=⟨[_]⟩,argTypes:=⟨[t]⟩}=>(match P.underlying t with|some (.array m _)=>Nat.beq n m|some (.pointer u)=>(match P.underlying u with|some (.array m _)=>Nat.beq n m|_=>false)|_=>false)
 |.app e S b2 s a,.call {callee:=.builtin .append,args:=⟨[r8,b]⟩,argTypes:=⟨[t,u]⟩}=>c9 a3 s r8&&c9 a3 a b&&(match P.underlying t,P.underlying u with
  |some (.slice el),some d=>Nat.beq e el&&(match d with|.int _=>false|_=>true)&&(match P.info? el with
   |some i=>Nat.beq S i.size&&Nat.beq b2 i.bytes&&(i.zero).any (λv=>Nat.beq v.cells.size i.size)
   |none=>false)
  |_,_=>false)
 |.g7 a as,.call {callee:=.builtin .max,args:=⟨b::b2⟩,.. }=>c9 a3 a b&&m3 a3 as b2
 |.AQ a as,.call {callee:=.builtin .min,args:=⟨b::b2⟩,.. }=>c9 a3 a b&&m3 a3 as b2
 |.s0 S d s,.call {callee:=.builtin .copy,args:=⟨[D,r8]⟩,argTypes:=⟨[t,_]⟩}=>c9 a3 d D&&c9 a3 s r8&&(match P.underlying t with|some (.slice e)=>iw P e S|_=>false)
 |.um,.call {callee:=.builtin .recover,args:=⟨[]⟩,.. }=>true
 |.pJ f as,.defer {callee:=.value g,args,.. }=>c9 a3 f g&&m3 a3 as args.toList
 |.n9 a,.panic b=>c9 a3 a b
 |.D7 a,.convert s t b=>c9 a3 a b&&(match P.underlying s,P.underlying t with|some (.pointer e),some .unsafePointer=>(P.info? e).any (λi=> !Nat.beq i.size 0)|_,_=>false)
 |.D8 e n a,.convert s t b=>c9 a3 a b&&(match P.underlying s,P.underlying t with|some .unsafePointer,some (.pointer G)=>Nat.beq e G&&iw P G n&& !Nat.beq n 0|_,_=>false)
 |.D9 a,.call {callee:=.builtin .unsafeSliceData,args:=⟨[b]⟩,argTypes:=⟨[_]⟩}=>c9 a3 a b
 |.uo e a n,.call {callee:=.builtin .unsafeString,args:=⟨[b,m]⟩,argTypes:=⟨[t,_]⟩}=>c9 a3 a b&&c9 a3 n m&&(match P.underlying t with|some (.pointer G)=>Nat.beq e G&&iw P G 1|_=>false)
 |.lO a c,.call {callee:=.value<|.func f,args:=⟨[b,d]⟩,.. }=>c9 a3 a b&&c9 a3 c d&&lO f
 |.ll a,.call {callee:=.value<|.func f,args:=⟨[b]⟩,.. }=>c9 a3 a b&&ll f
 |.pG,.makeMap _ none=>true
 |.yr _,_=>true
 |.ext y,op=>Bt P a3 keys pV eqs pW lS op y
 |.refuse,_=>true
 |_,_=>false
end
end Go.bC
namespace Go.bC
variable{X:Ctx}
variable{a:Nat}
def dh.inPlace:dh->Bool
 |.call _ _|.inv _ _ _|.um|.pJ _ _|.n9 _=>false
 |_=>true
def Ctx.pX(X:Ctx)(op:Op)(x:dh):Bool:=Pn X.P X.a3 X.ll X.lO X.keys X.pV X.eqs X.pW X.lS op x
theorem pY{b:Nat}(h:Nat.beq a b=true):a=b:=dB h
def Bu(h:(!Nat.beq a 0)=true):a≠0:=by intro e;subst e;simp at h
def uf.pZ:uf->Bool
 |.look _ _ _ _ _|.v9 _|.wa _|.aT _ _|.uh _ _ _ _|.yo _ _ _|.idxs _ _ _=>true
 |_=>false
def dh.pZ:dh->Bool
 |.ext y=>y.pZ
 |.alloc _ _|.box _ _|.qC _ _ _ _|.store _ _ _|.wb _ _|.pG|.pH _ _ _ _ _|.call _ _|.inv _ _ _|.yr _|.app _ _ _ _ _|.s0 _ _ _|.um|.pJ _ _|.n9 _|.uo _ _ _|.refuse=>false
 |_=>true
def dh.qR:dh->Bool
 |.alloc _ _|.box _ _|.qC _ _ _ _|.wb _ _|.pH _ _ _ _ _|.pG=>true
 |_=>false
def qS(X:Ctx)(x:dh)(ad:bH)(w:f5)(v:bv)(st al:ak)(s:Sem Next):Prop:=
 m1 X ad w v al s/\(x.pZ=true->og X ad w v st al s)/\(x.qR=true->Et X ad w v st al s)
section
variable{p:Prop}{x:dh}{ad:bH}{w:f5}{v:bv}{st al:ak}{s:Sem Next}
def Jz(h:p/\og X ad w v st al s)(O:x.qR=false):p/\qS X x ad w v st al s:=⟨h.1,h.2.yK,λ_=>h.2,λe=>by rw[O]at e;cases e⟩
def JA(h:p/\Et X ad w v st al s)(O:x.pZ=false):p/\qS X x ad w v st al s:=⟨h.1,h.2.yK,λe=>(by rw[O]at e;cases e),λ_=>h.2⟩
def yM(h:p/\m1 X ad w v al s)(O:x.pZ=false)(j:x.qR=false):p/\qS X x ad w v st al s:=⟨h.1,h.2,λe=>(by rw[O]at e;cases e),λe=>by rw[j]at e;cases e⟩
end
structure h2(X:Ctx)(ad:bH)(o:aK)(a:Act)(aN:Nat)(st:ak)(w:f5):Prop where
 f:eZ ad o a aN
 w:bQ X ad st w
section
variable{ad:bH}{o bt:aK}{a:Act}{aN:Nat}{st al:ak}{w:f5}{U:Oper}{v bE:bv}{x:ce}{y:dh}{β:Type}{r z apg:β}
variable{n b:Nat}
theorem h2.ar(q:h2 X ad o a aN st w)(k:gk X.a3 x=true):bd ad (o.ar x) (a.eval x):=q.f.ar q.w k
def h2.of(q:h2 X ad o a aN st w)(k:gk X.a3 x=true)(e:o.ar x=v):∃u,a.eval x=u/\bd ad v u:=⟨_,j,e▸q.ar k⟩
def h2.int(q:h2 X ad o a aN st w)(k:gk X.a3 x=true){K:f6->Int->β}(h:fX (o.ar x) K z=r)(Z:z≠r:=by simp):∃i n,o.ar x= .int i n/\a.eval x= .int i n/\K i n=r:=by
 have⟨i,n,e,h⟩:=od h Z;have⟨u,g,d⟩:=q.of k e;cases d;exact⟨i,n,e,g,h⟩
def h2.nat(q:h2 X ad o a aN st w)(k:gk X.a3 x=true){K:f6->Nat->β}(h:fX (o.ar x) (λi n=>hJ n (K i) z) z=r)(Z:z≠r:=by simp):∃i n,o.ar x= .int i (n:Nat)/\a.eval x= .int i n/\K i n=r:=by
 have⟨i,n,e,g,h⟩:=q.int k h Z;obtain⟨m,rfl,h⟩:=pR h Z;exact⟨i,m,e,g,h⟩
def h2.bool(q:h2 X ad o a aN st w)(k:gk X.a3 x=true){K:Bool->β}(h:kj (o.ar x) K z=r)(Z:z≠r:=by simp):∃b,o.ar x= .bool b/\a.eval x= .bool b/\K b=r:=by
 have⟨i,e,h⟩:=O1 h Z;exact asb
def h2.str(q:h2 X ad o a aN st w)(k:gk X.a3 x=true){K:f9->β}(h:hX (o.ar x) K z=r)(Z:z≠r:=by simp):∃s,o.ar x= .string s/\a.eval x= .string s/\K s=r:=by
 have⟨i,e,h⟩:=yC h Z;exact asb
theorem h2.agg(q:h2 X ad o a aN st w)(k:gk X.a3 x=true){K:bi bv->β}(h:rZ (o.ar x) K z=r)(Z:z≠r:=by simp):∃xs aP,a.eval x= .agg aP/\bI ad xs.toList aP.toList/\K xs=r:=by
 have⟨i,e,h⟩:=A9 h Z;have⟨u,g,d⟩:=q.of k e;cases d with
 |agg _ aP Y G=>exact⟨i,aP,g,.uy Y G,h⟩
def h2.aH(q:h2 X ad o a aN st w)(k:gk X.a3 x=true){K:be Addr->Nat->Nat->β}(h:hY (o.ar x) K z=r)(Z:z≠r:=by simp):∃b n c u,a.eval x=u/\bd ad (.slice b n c) u/\K b n c=r:=by
 have⟨b,n,c,e,h⟩:=yD h Z;have⟨u,g,d⟩:=q.of k e;exact⟨b,n,c,u,g,d,h⟩
theorem h2.ptr(q:h2 X ad o a aN st w)(k:gk X.a3 x=true){K:Addr->β}(h:hG (o.ar x) (λp=>bq p K z) z=r)(Z:z≠r:=by simp):
 ∃cc l,cc.spot=none/\ad cc.block=some l/\a.eval x= .pointer (some ⟨l.cx,l.de+cc.off,none⟩)/\K cc=r:=by
 have⟨p,e,h⟩:=A8 h Z;obtain⟨cc,rfl,h⟩:=ie h Z;have⟨u,g,d⟩:=q.of k e;cases d with
 |ptr _ l B M=>exact⟨cc,l,M,B,g,h⟩
theorem h2.uD(q:h2 X ad o a aN st w)(k:gk X.a3 x=true){K:Addr->ac bv->co->Nat×Nat->Bool->β}(h:hG (o.ar x) (λp=>bq p (λcc=>st.fI cc (K cc) z) z) z=r)(Z:z≠r:=by simp):
 ∃cc l cs e bY aR C fu,cc.spot=none/\ad cc.block=some l/\a.eval x= .pointer (some ⟨l.cx,l.de+cc.off,none⟩)/\st.h.get cc.block=some (.cells cs e bY aR)/\mY X.P ad w cs e bY aR l C fu/\K cc cs e bY aR=r:=by
 have⟨cc,l,M,B,g,h⟩:=q.ptr k h Z;have⟨_,cs,e,bY,aR,O,h⟩:=yH h Z;have⟨T,W,C,fu,j⟩:=q.w.eB _ _ O au
 grind
def JB{cc:Addr}{l:Loc}(h:ad cc.block=some l)(M:cc.spot=none)(n:Nat):bd ad (.pointer<|some<|cc.add n) (.pointer<|some<|Addr.add ⟨l.cx,l.de+cc.off,none⟩ n):=by
 have:=bd.ptr (cc.add n) l (by rwa [Bm])<|Bn cc n M;rw[Eu]at this;simp[add_eq,rM,this]
theorem abZ{g7 af:be ce}(h:(g7.isNone||af.isSome)=true):g7.map a.eval≠none->af.map a.eval≠none:=by cases g7<;>cases af<;>simp_all
def ab0(h:s3 v=false):v≠jG:=by rintro rfl;cases h
def JC{aF:bH}{ex:Nat}(h:aF n=some ⟨b,0,ex,id⟩):bd aF (.pointer<|some ⟨n,0,none⟩) (.pointer<|some ⟨b,0,none⟩):=.ptr ⟨n,0,none⟩ _ h j
def JD{ex:Nat}(i c:Nat)(aF:bH)(h:aF n=some ⟨b,0,ex,id⟩):bd aF (.slice (some ⟨n,0,none⟩) i c) (.slice (some ⟨b,0,none⟩) i<|c+ex):=.ft ⟨n,0,none⟩ _ 0 i c h j m2
theorem h2.rd(q:h2 X ad o a aN st w)(S:bd ad v bE)(I:(execOp a.eval U).run X.P w= .ok (.value bE) w:=by simp[*])(O:y.qR=false:=by rfl):o=o/\qS X y ad w v st st (execOp a.eval U):=Jz ⟨j,j,q.w,bE,I,S⟩ O
theorem h2.hx(q:h2 X ad o a aN st w){e:co}{cs R:ac bv}{V:Nat->bv}(h:st.iD (.cells cs e (0,0) false) (λid st=>a2.ok (V id) o st)= .ok v bt al)(aQ:bI ad cs R)(S:∀aF:bH,aF st.ae=some ⟨w.heap.size,0,0,id⟩->bd aF (V st.ae) bE)
 (I:(execOp a.eval U).run X.P w= .ok (.value bE) {w with heap:=w.heap.push<|.cells R.toArray e}:=by simp[*]) (O:y.pZ=false:=by rfl):bt=o/\qS X y ad w v st al (execOp a.eval U):=by
 rw[gj]at h;cases h;have⟨aF,bJ,K,Q,g⟩:=q.w.abB e aQ {w with heap:=w.heap.push<|.cells R.toArray e} rfl;subst g;exact JA ⟨j,_,_,_,bE,_,j,au,I,j,S _ Q,bJ,K⟩ O
end
section
variable{ad:bH}{a:Act}{w:f5}{U:Oper}{neg b:Bool}{e:qB}{x y:ce}{t Po:co}{Pp Pq u ta:bv}
theorem Pr(E:U.op= .binOp (if neg then .neq else .eql) t x y Po)(g:a.eval x=u)(I:a.eval y=ta)(aC:∀n,(Op.equalIn (n+1) t u ta).run X.P w= .ok b w)(aI:∀op,(eqGuard op t x y u ta).run X.P w= .ok () w:=by intro op;cases op<;>first|(simp[eqGuard];done)|(cases x<;>cases y<;>simp_all [Jt,eqGuard]))
 (j:binOp .eql t u ta=(do pure (.bool<|<-Op.equal t u ta)):=by rfl) (T:binOp .neq t u ta=(do pure (.bool<|!(<-Op.equal t u ta))):=by rfl):(execOp a.eval U).run X.P w= .ok (.value<|.bool<|cond neg (!b) b) w:=by
 have aC:(Op.equal t u ta).run X.P w= .ok b w:=aC 9999;cases neg<;>simp[execOp,E,g,I,aC,aI,j,T,Result.andThen]
theorem ab1(E:U.op= .binOp (if neg then .neq else .eql) t x y Po)(T:Jx X.P t e x y=true)(ay:kk 8 e Pp Pq=some b)(d:bd ad Pp (a.eval x))(D:bd ad Pq (a.eval y)):
 (execOp a.eval U).run X.P w= .ok (.value<|.bool<|cond neg (!b) b) w:=by
 generalize g:a.eval x=u at d;generalize I:a.eval y=ta at D;unfold Jx at T;split at T<;>try cases T
 all_goals simp only[kk,AZ,r1,OP,IY,OQ,wm]at ay
 all_goals split at ay<;>try cases ay
 all_goals first
  |(cases d<;>cases D<;>refine Pr E g I (λn=>?_)<;>simp[*,Op.equalIn,underlying,Result.andThen];done)
  |skip
 .split at ay<;>cases ay;subst ‹_=_›;cases d;cases D;cases neg<;>simp[execOp, *,eqGuard,binOp,Op.intCmp,bne]
 .cases d;cases D;cases neg<;>simp[execOp, *,eqGuard,binOp,Op.stringOp,toList_eq]
 .obtain⟨i,af,Z⟩:=(qs _ _).1 T;have Z:=Bu Z;split at ay<;>cases ay;rename_i W;cases d with
  |ptr _ l B M=>
   cases D with
   |ptr _ R V C=>
    rw[W.1,V]at B;cases B;exact Pr E g I<|by simp[*,Op.equalIn,underlying,sizeOf,typeInfo,sameAddr,Result.andThen];rw[pC];simp
end
section
variable{α β:Type}{r z:β}
variable{U:be bx}
def ab2{v:bv}{k:be Nat->β}(h:oY v k z=r)(Z:z≠r):∃p,v= .map p/\k p=r:=by
 cases v<;>first|exact absurd h Z|exact⟨_,j,h⟩
def JE{k:ac f7->Nat->β}(h:jH U k z=r)(Z:z≠r):∃es c,U=some (.map es c)/\k es c=r:=by
 obtain⟨U,rfl,h⟩:=ie h Z;cases U<;>first|exact absurd h Z|exact⟨_,_,j,h⟩
def Ps{k:be Nat->Nat->ac Nat->Nat->β}(h:A2 U k z=r)(Z:z≠r):∃a b c d,U=some (.nr a b c d)/\k a b c d=r:=by
 obtain⟨U,rfl,h⟩:=ie h Z;cases U<;>first|exact absurd h Z|exact⟨_,_,_,_,j,h⟩
end
variable{es:ac f7}{k:bv}{ad:bH}{ct:fH}{clock mo:Nat}{v bE:bv}{e:f7}{J:Nat}{c:f7}
def fH.same(h:ct.ok v=true)(I:bd ad v bE):bE=v:=by
 cases ct with
 |int k=>
  obtain⟨L,n,rfl,_⟩:=od h ai;cases I;rfl
 |str=>
  obtain⟨s,rfl,_⟩:=yC h ai;cases I;rfl
 |arr k n=>
  obtain⟨xs,rfl,G⟩:=A9 h ai;rw[c1,ia]at G;cases I with
  |agg _ aP Y V=>
   congr 1;apply Array.ext
   .exact Y.symm
   .intro i a b;obtain⟨L,m,D,_⟩:=od (G.2 xs[i] au) ai;have:=V i b a;rw[D]at this⊢;generalize aP[i]=y at this⊢;cases this;rfl
theorem uniq(h:es.Pairwise λa b=>a.key≠b.key){a b:f7}(bR:a∈es)(ay:b∈es)(e:a.key=b.key):a=b:=by
 induction es with
 |nil=>cases bR
 |cons x xs I=>
  rw[n0]at h
  grind
theorem yN(h:ic k es=some e):e∈es/\e.key=k:=by
 refine⟨Ar h,?_⟩;have:=As h;exact(j2 _ _ this).symm
def Bv(h:ic k es=none):∀e∈es,e.key≠k:=by
 intro e D Q;have:=List.find?_eq_none.1 h e D;rw[Q,oX]at this;exact this j
def EH(h:lo ct es=true)(he:e∈es):ct.ok e.key=true:=
 ia.1 h e he
theorem jL.find{bF:Nat->Nat}{C:ac f7}(h:jL ad bF es clock C mo){ig:co}(O:X.keys ig=some ct)(aw:ct.ok k=true)(he:lo ct es=true)(w:f5):
 ((Instr.findKey ig k C).run X.P w= .ok none w/\ic k es=none/\∀c∈C,c.key≠k)\/
 ∃e J c,(Instr.findKey ig k C).run X.P w= .ok (some (J,c.val)) w/\C[J]? =some c/\c.key=k/\ic k es=some e/\e∈es/\e.key=k/\bd ad e.val c.val/\c.born=bF e.born:=by
 obtain⟨K,q⟩:=X.r7 ig ct O;obtain⟨l,hp,a',B⟩:=h.same;have M:∀(i:Nat) a b,C[i].key=l[i].key:=by
  exact arx
 have E:∀c∈C,∃l,keyOf X.P ig c.key=some l:=by
  intro c W;obtain⟨i,af,rfl⟩:=mf W;have A:i<l.length:=R
  rw[M i A af];exact q _<|EH he<|hp.mem_iff.1<|dH A
 obtain⟨H,g⟩:=q k aw;rcases K.find w g C E with⟨Y,G⟩|⟨J,c,Y,G,N⟩
 .left;refine⟨Y,?_,G⟩;cases D:ic k es with
  |none=>rfl
  |some e=>
   exfalso;obtain⟨Z,F⟩:=yN D;obtain⟨i,af,I⟩:=mf<|hp.mem_iff.2 Z
   grind
 .right;obtain⟨V,T⟩:=dP.1 G;have L:J<l.length:=by omega
  have Q:l[J].key=k:=by grind
  have S:=hp.mem_iff.1<|dH L;cases D:ic k es with
  |none=>exact absurd Q (Bv D _ S)
  |some e=>
   obtain⟨Z,F⟩:=yN D;have:=uniq h.keys Z S<|by rw[F,Q]
   grind
theorem jL.put{bF:Nat->Nat}{C:ac f7}(h:jL ad bF es clock C mo)(he:lo ct es=true)(ba:C[J]? =some c)(aQ:c.key=k)(S:bd ad v bE):
 jL ad bF (wu k v es) clock (C.set J {c with key:=k,val:=bE}) mo:=by
 obtain⟨l,hp,L,B⟩:=h.same;have Z:∀e:f7,(cond (dC k e.key) (⟨e.key,v,e.born⟩:f7) e).key=e.key:=by grind
 have F:∀e:f7,(cond (dC k e.key) (⟨e.key,v,e.born⟩:f7) e).born=e.born:=by grind
 have M:∀(i:Nat) a b,C[i].key=l[i].key:=by
  exact arx
 obtain⟨O,T⟩:=dP.1 ba;refine⟨h.js,h.mZ,?_,?_,?_,l.map λe=>cond (dC k e.key) ⟨e.key,v,e.born⟩ e,hp.map _,by simp[L],?_⟩
 .intro e hm;obtain⟨G,g,rfl⟩:=da.1 hm;rw[F];exact h.born G g
 .unfold wu;rw[oS];exact h.keys.imp λ{a b} D=>by rwa [Z,Z]
 .unfold wu;rw[oS];exact h.jM.imp λ{a b} D=>by rwa [F,F]
 .intro i a b;have K:i<l.length:=by grind
  have V:i<C.length:=by simpa using b
  rw[sP,List.getElem_set];by_cases e:J=i
  .grind [oX]
  .rw[av e];have A:dC k l[i].key=false:=by
    rw[x3];intro E;have N:=j2 _ _ E;have H:J<l.length:=R
    have Y:l[i].key=l[J].key:=by grind
    have q:=(hp.symm.pairwise_iff λ{a b} h=>h.symm).1 h.keys;have I:i=J:=by
     rcases x6 i J with h|h|h
     .exact absurd Y<|lk.1 q i J K H h
     .exact h
     .exact absurd Y.symm<|lk.1 q J i H K h
    exact e I.symm
   rw[A];exact B i K V
theorem jL.push{bF:Nat->Nat}{C:ac f7}(h:jL ad bF es clock C mo)(aw:bd ad k k)(aj:ic k es=none)(S:bd ad v bE):
 jL ad bF (es++[⟨k,v,clock⟩]) (clock+1) (C++[⟨k,bE,mo⟩]) (mo+1):=by
 obtain⟨l,hp,G,B⟩:=h.same;have M:=h.mZ;refine⟨by rw[h.js,M.up 1],⟨λs t K N e=>?_,λs K=>?_,λJ=>(by rw[show clock+1+J=clock+(1+J) by omega,M.up,M.up 1];omega)⟩,?_,?_,?_,l++[⟨k,v,clock⟩],hp.append_right _,by simp[G],?_⟩
 .rcases gf s clock with a|a<;>rcases gf t clock with b|b
  .exact M.inj s t a b e
  .have:t=clock:=by omega
   subst this;have:=M.lt s a;omega
  .have:s=clock:=by omega
   subst this;have:=M.lt t b;omega
  .omega
 .rw[M.up 1];rcases gf s clock with a|a
  .have:=M.lt s a;omega
  .grind
 .intro e D;rcases gA.1 D with D|D
  .have:=h.born e D;omega
  .grind
 .rw[Dx];refine⟨h.keys,au,λa A b g=>?_⟩;have:b=⟨k,v,clock⟩:=by grind
  subst this;exact Bv aj a A
 .rw[Dx];refine⟨h.jM,au,λa A b g=>?_⟩;have:b=⟨k,v,clock⟩:=by grind
  subst this;have:=h.born a A;exact Nat.ne_of_lt this
 .intro i a b;by_cases e:i<l.length
  .grind
  .have af:i=l.length:=by grind
   rw[Iq R,Iq R];simp;exact⟨aw,S,h.js⟩
theorem jL.del{bF:Nat->Nat}{C:ac f7}(h:jL ad bF es clock C mo)(he:lo ct es=true)(ba:C[J]? =some c)(aQ:c.key=k):
 jL ad bF (qG k es) clock (C.eraseIdx J) mo:=by
 obtain⟨l,hp,G,A⟩:=h.same;have M:∀(i:Nat) a b,C[i].key=l[i].key:=by
  intro i a b;exact fH.same (EH he<|hp.mem_iff.1<|dH a) (A i a b).1
 obtain⟨B,T⟩:=dP.1 ba;have H:J<l.length:=R
 have Q:l[J].key=k:=by rw[<-M J H B,T,aQ]
 have q:=(hp.symm.pairwise_iff λ{a b} h=>h.symm).1 h.keys;have g:∀(l:ac f7) J ba,l.Pairwise (λa b=>a.key≠b.key)->l[J].key=k->l.filter (λe=> !dC k e.key)=l.eraseIdx J:=by
  intro l
  induction l with
  |nil=>intro J ba;simp at ba
  |cons x xs I=>
   intro J ba q N;rw[n0]at q;cases J with
   |zero=>
    have O:dC k x.key=true:=by rw[show x.key=k from N];exact oX k
    rw[Dy];simp only[O,Bool.not_true,qp,if_false,List.eraseIdx_cons_zero];rw[At]
    grind [j2]
   |succ J=>
    grind [j2]
 refine⟨h.js,h.mZ,λe hm=>h.born e (rO.1 hm).1,h.keys.filter _,h.jM.filter _,l.eraseIdx J,?_,by grind,by grind⟩
 .rw[<-g l J H q Q];exact hp.filter _
section
variable{ad:bH}{o bt:aK}{a:Act}{aN:Nat}{st al:ak}{w:f5}{U:Oper}{v:bv}{call:bN}
open Go.MapKept
variable{ig:co}
def ab3(O:X.keys ig=some ct)(aw:ct.ok k=true)(w:f5):(Instr.findKey ig k []).run X.P w= .ok none w:=by
 have⟨K,h⟩:=X.r7 ig ct O;have⟨H,g⟩:=h k aw;obtain⟨Y,_⟩|⟨J,c,_,G,_⟩:=K.find w g [] au
 .exact Y
 .simp at G
def wG(O:X.keys ig=some ct)(aw:ct.ok k=true)(j:Bool)(w:f5):(Instr.checkKey j 10000 ig k).run X.P w= .ok () w:=by
 have⟨K,h⟩:=X.r7 ig ct O;have⟨H,g⟩:=h k aw;exact K.check w j g
end
section
variable{ad:bH}{o bt:aK}{a:Act}{aN:Nat}{st al:ak}{w:f5}{U:Oper}{v:bv}{call:bN}
variable{P:f8}{r:Nat}{m:be Nat}{s:bi Nat}{b:Nat}
def ab4{ig:co}(O:X.keys ig=some ct)(aw:ct.ok k=true)(w:f5):(Instr.keyThatStays k k).run X.P w= .ok k w:=by
 have⟨K,h⟩:=X.r7 ig ct O;have⟨H,g⟩:=h k aw;exact K.stays w g
theorem toList_modify(C:bi f7)(J:Nat)(f:f7->f7)(h:C.toList[J]? =some c):(C.modify J f).toList=C.toList.set J (f c):=by
 apply Au
 .simp
 .grind
def fH.pure(h:ct.ok v=true)(I:bd ad v bE):bd ad v v:=by
 have:=fH.same h I
 rwa [this]at I
theorem jL.ab5{bF:Nat->Nat}{C:ac f7}(h:jL ad bF es clock C mo){s:Nat}(M:s<clock)(he:es.find? (λe=>Nat.beq e.born s)=some e):
 ∃c,C.find? (λc=>c.born==bF s)=some c/\bd ad e.key c.key/\bd ad e.val c.val:=by
 have⟨l,hp,hlen,B⟩:=h.same;have E:=As he;have F:=dB E;obtain⟨i,af,I⟩:=mf<|hp.mem_iff.2<|Ar he;cases D:C.find? (λc=>c.born==bF s)with
 |none=>
  grind
 |some c=>
  have Q:c.born=bF s:=by grind
  have⟨k,N,j⟩:=mf<|Ar D;have L:k<l.length:=R
  have A:=B k L N;have G:bF l[k].born=bF s:=by grind
  have H:=h.mZ.inj _ _ (h.born _<|hp.mem_iff.1<|dH L) M G;have q:=(hp.symm.pairwise_iff λ{a b} h=>h.symm).1 h.jM;have K:i=k:=by
   obtain g|g|g:=x6 i k
   .exact absurd (by rw[I,F,H])<|lk.1 q i k af L g
   .exact g
   .exact absurd (by rw[I,F,H])<|lk.1 q k i L af g
  grind
def JF{a:Nat}(ay:w.heap[r]? =some (.mapIter m a s b)):(getObj r).run P w= .ok (.mapIter m a s b) w:=by
 simp[getObj,Sem.run,ay]
def ab6{a:Nat}(U:Obj)(ay:w.heap[r]? =some (.mapIter m a s b)):(setObj r U).run P w= .ok () {w with heap:=w.heap.setIfInBounds r U}:=by
 simp[setObj,Sem.run,ay]
end
variable{y:bv}{P:f8}{t:co}
def bd.Bw{c:Nat}(h:bd ad (.chan<|some c) y)(aQ:c≠0):∃m,y= .int .i64 m/\Jc c m:=by
 generalize S:Value.chan (some c)=v at h;cases h with
 |hZ E m h=>cases S;exact⟨m,j,h⟩
 |top _=>cases S;exact absurd j aQ
 |_=>cases S
def Pt{n:Nat}{b:Bool}(h:A3 n v=some b)(I:bd ad v y):∃m:Int,y= .int .i64 m/\b=decide ((n:Int)<=m):=by
 unfold A3 at h;split at h
 .rename_i c;split at h
  .rename_i G;split at h
   .rename_i A;cases h;obtain⟨m,rfl,M⟩:=I.Bw R;refine⟨m,j,?_⟩;have:(n:Int)<=m:=by
     rcases M with M|⟨k,N,hm⟩|⟨k,N,hm⟩<;>omega
    simp[this]
   .cases h
  .rename_i G;split at h
   .rename_i A;cases h;obtain⟨m,rfl,M⟩:=I.Bw R;refine⟨m,j,?_⟩;have:¬(n:Int)<=m:=by
     rcases M with M|⟨k,N,hm⟩|⟨k,N,hm⟩<;>omega
    simp[this]
   .cases h
 .cases h
def ab7{a b:fH}(h:Jy a b=true):a=b:=by
 cases a<;>cases b<;>simp[Jy]at h<;>first|rfl|(rw[h])|(rw[h.1,h.2])
theorem EI{keys:co->be fH}(h:Bs P keys t ct=true):∃ig R,P.underlying t=some (.map ig R)/\keys ig=some ct:=by
 rw[Bs]at h;split at h<;>try cases h
 have⟨Q,N,h⟩:=(qs _ _).1 h;exact⟨_,_,‹_›,by rw[N,ab7 h]⟩
theorem isMap(h:EG P t=true):∃ig R,P.underlying t=some (.map ig R):=by
 rw[EG]at h
 grind
section
variable{ad:bH}{o bt:aK}{a:Act}{aN:Nat}{st al:ak}{w:f5}{U:Oper}{v:bv}{call:bN}{x:ce}{y:dh}{β:Type}{r z Pu:β}
theorem h2.map(q:h2 X ad o a aN st w)(k:gk X.a3 x=true){K:Nat->ac f7->Nat->β}(h:oY (o.ar x) (λr=>bq r (λid=>jH (st.h.get id) (K id) z) Pu) z=r)(Z:z≠r:=by simp):
 (∃id es c b bF C E,ad id=some ⟨b,0,0,bF⟩/\a.eval x= .map (some b)/\st.h.get id=some (.map es c)/\w.heap[b]? =some (.map C E)/\jL ad bF es c C.toList E/\K id es c=r)\/a.eval x= .map none/\Pu=r:=by
 have⟨p,e,h⟩:=ab2 h Z;have⟨u,g,d⟩:=q.of k e;cases p with
 |none=>cases d;exact .inr ⟨g,h⟩
 |some id=>
  have⟨es,c,O,h⟩:=JE h Z;have⟨l,B,_,_,C,E,hC,D⟩:=q.w.eB _ _ O au;cases d with
  |map _ b bF j=>rw[B]at j;cases j;exact .inl ⟨id,es,c,b,bF,C,E,B,g,O,hC,D,h⟩
def h2.EJ(q:h2 X ad o a aN st w){id:Nat}{R:ac f7}{c d b:Nat}{bF:Nat->Nat}(O:st.h.get id=some (.map es c))(aB:ad id=some ⟨b,0,0,bF⟩)(C:bi f7)(E:Nat)(D:jL ad bF R d C.toList E){n:Next}(aj:Jh ad v n)
 (I:(execOp a.eval U).run X.P w= .ok n {w with heap:=w.heap.setIfInBounds b<|.map C E}) (T:y.pZ=false:=by rfl) (M:y.qR=false:=by rfl):o=o/\qS X y ad w v st ⟨st.h.set id<|.map R d,st.ae⟩ (execOp a.eval U):=by
 have⟨bJ,K⟩:=bQ.yJ X q.w O au (λh=>h) aB (.map R d) (.map C E) {w with heap:=w.heap.setIfInBounds b<|.map C E} rfl λ_ N=>⟨j,j,_,_,N,D⟩;exact yM ⟨j,ad,n,_,I,aj,bJ,K⟩ T M
attribute [local simp] Result.andThen underlying typeInfo zeroValue resolve invoke builtin execOp goInt
theorem Pv:∀{J:Nat} {l m bo R:ac bv} {b:Bool},qH J l m=some b->bI ad l bo->bI ad m R->bo=l/\R=m
 |_,[],[],_,_,_,_,h,g=>⟨h.qL,g.qL⟩
 |_,_::_,[],_,_,_,h,_,_=>by cases h
 |_,[],_::_,_,_,_,h,_,_=>by cases h
 |J,p::a7,q::jN,_,_,b,ay,h,g=>by
  obtain⟨D,Q,rfl,aC,aI⟩:=h.cons_inv;obtain⟨K,H,rfl,W,I⟩:=g.cons_inv;have⟨S,Z,A⟩:=ie ay au;have:∃V,qH (J-1) a7 jN=some V:=by
   cases S
   .have⟨V,Y,_⟩:=ie A au;exact⟨V,Y⟩
   .exact⟨b,A⟩
  have⟨V,Y⟩:=this;obtain⟨rfl,rfl⟩:=Pv Y aI I;unfold OT Eg OS at Z;split at Z<;>split at Z<;>first|(cases Z;done)|(cases aC;cases W;exact fe)
theorem Pw{m k:ce}{ig R:co}(q:h2 X ad o a aN st w)(bJ:gk X.a3 m=true)(a':gk X.a3 k=true)(Z:gk X.a3 x=true)(E:U.op= .mapUpdate t m k x\/U.op= .insert t m k x)(ab:X.P.underlying t=some (.map ig R))
 (O:X.keys ig=some ct) (h:IZ o st (.e3 ct m k x)= .ok v bt al):bt=o/\qS X (.ext<|.e3 ct m k x) ad w v st al (execOp a.eval U):=by
 obtain⟨S,h⟩:=jr h au;have F:=q.ar a';have ae:=fH.same S F;obtain⟨id,es,c,b,bF,C,I,B,g,K,L,D,h⟩|⟨_,h⟩:=q.map bJ h<;>try cases h
 obtain⟨Q,h⟩:=jr h au;rcases D.find O S Q w with⟨Y,G,_⟩|⟨e,J,N,Y,G,A,T,aa,H,M,W⟩
 .rw[G]at h;cases(ja ..).symm.trans h;refine q.EJ K B (C.push {key:=o.ar k,val:=a.eval x,born:=I}) (I+1) (by simpa using D.push (fH.pure S F) G (q.ar Z)) (.inr fe) ?_;rcases E with E|E<;>simp[*,Instr.mapUpdate,MapKept.run_getObj_map L,wG O S,MapKept.run_setObj_map _ L]
 .rw[T]at h;cases(ja ..).symm.trans h;have V:C[J]? =some N:=by grind
  refine q.EJ K B (C.modify J λe=>{e with key:=o.ar k,val:=a.eval x}) I (by rw[toList_modify C J _ G];exact D.put Q G A<|q.ar Z) (.inr fe) ?_;rcases E with E|E<;>simp[*,Instr.mapUpdate,MapKept.run_getObj_map L,wG O S,MapKept.run_setObj_map _ L,ab4 O S]
theorem ab8{y:uf}(aw:X.pX U.op (.ext y)=true)(q:h2 X ad o a aN st w)(h:bw call (.ext y) o st= .ok v bt al):
 bt=o/\qS X (.ext y) ad w v st al (execOp a.eval U):=by
 generalize ah:U.op=op at aw;replace aw:Bt X.P X.a3 X.keys X.pV X.eqs X.pW X.lS op y=true:=aw;replace h:IZ o st y= .ok v bt al:=h;unfold Bt at aw;split at aw<;>try simp only[c1,ED,mq,decide_eq_true_eq,beq_iff_eq]at aw
 .rename_i ok _ _ _ _ _ _;obtain⟨⟨⟨⟨⟨rfl,bJ⟩,rfl,K⟩,rfl⟩,T⟩,ai⟩:=aw;obtain⟨ig,R,M,O⟩:=EI T;rw[M]at ai;obtain⟨hp,i,af,Z⟩:=Pm ai;obtain⟨S,h⟩:=jr h au;have bm:=fH.same S<|q.ar K;have aD:=bd.pure ad _ hp;have two:∀{p r:bv} {b:Bool},bd ad p r->bd ad (cond ok (.tuple #[p,.bool b]) p) (cond ok (.tuple #[r,.bool b]) r):=λd=>by cases ok;exact d;exact bd.qM<|bI.cons d<|bI.cons (.bool _)<|bI.nil ad
  rcases q.map bJ h with⟨id,es,c,b,bF,C,E,B,g,a',L,D,h⟩|⟨g,h⟩
  .obtain⟨ao,h⟩:=jr h au;rcases D.find (X:=X) O S ao w with⟨Y,G,_⟩|⟨e,J,aI,Y,G,A,T,ai,aZ,aH,bj⟩
   .rw[G]at h;cases h;exact q.rd (two aD) arJ
   .rw[T]at h;cases h;exact q.rd (two aH) arJ
  .cases h;exact q.rd (two aD)<|by cases ok<;>simp[*,Instr.lookup,wG O S,ab3 O S]
 .grind [EI,Pw]
 .obtain⟨⟨⟨⟨rfl,bJ⟩,rfl,K⟩,rfl,Q⟩,T⟩:=aw;obtain⟨ig,R,M,O⟩:=EI T;exact Pw q bJ K Q (.inr ah) M O h
 .obtain⟨⟨⟨rfl,bJ⟩,rfl,K⟩,T⟩:=aw;obtain⟨ig,R,M,O⟩:=EI T;obtain⟨S,h⟩:=jr h au;have bm:=fH.same S<|q.ar K;obtain⟨id,es,c,b,bF,C,E,B,g,a',L,D,h⟩|⟨_,h⟩:=q.map bJ h<;>try cases h
  obtain⟨ao,h⟩:=jr h au;cases(ja ..).symm.trans h;have N:Jh ad (.tuple #[]) (.value<|.tuple #[]):=.inl ⟨_,j,bd.qM<|bI.nil ad⟩;rcases D.find (X:=X) O S ao w with⟨Y,G,_⟩|⟨e,J,aI,Y,G,A,T,ai,aZ,aH,bj⟩
  .refine q.EJ a' B C E ?_ N aqP;unfold qG;rw[At.2]
   .exact D
   .intro e ax;have:=Bv G e ax;cases aY:dC (o.ar _) e.key
    .rfl
    .exact absurd (j2 _ _ aY).symm this
  .exact q.EJ a' B (C.eraseIdxIfInBounds J) E (by rw[Array.toList_eraseIdxIfInBounds];exact D.del ao G A) N aqP
 .obtain⟨⟨rfl,bJ⟩,G⟩:=aw;obtain⟨ig,R,M⟩:=isMap G;rcases q.map bJ h with⟨id,es,c,b,bF,C,E,B,g,a',L,D,h⟩|⟨g,h⟩
  .rw[wA,e4]at h;cases h;obtain⟨l,hp,bc,_⟩:=D.same;have e:es.length=C.size:=by rw[<-hp.length_eq,bc];simp
   exact q.rd (.int _ _)<|by simp[*,Builtin.len_,MapKept.run_getObj_map L]
  .cases h;exact q.rd (.int _ _)<|by simp[*,Builtin.len_]
 .rename_i y _ _;obtain⟨⟨rfl,bJ⟩,G⟩:=aw;obtain⟨ig,R,M⟩:=isMap G;have fin:∀(m:bx) (aa:Obj),v= .pointer (some ⟨st.ae,0,none⟩)->bt=o->al=⟨st.h.set st.ae m,st.ae+1⟩->(∀aF w',ad.le aF->w'.heap[w.heap.size]? =some aa->hz X aF w' m ⟨w.heap.size,0,0,id⟩)->
   (execOp a.eval U).run X.P w= .ok (.value<|.pointer<|some ⟨w.heap.size,0,none⟩) {w with heap:=w.heap.push aa}->bt=o/\qS X (.ext<|.ug y) ad w v st al (execOp a.eval U):=by
   rintro m aa rfl rfl rfl hm aV;obtain⟨aF,bJ,K,Q,_⟩:=bQ.alloc X q.w m aa 0 (λaF w' hle _ N=>hm aF w' hle N) {w with heap:=w.heap.push aa} rfl;exact yM ⟨j,aF,_,_,aV,.inl ⟨_,j,JC Q⟩,bJ,K⟩ j j
  rcases q.map bJ h with⟨id,es,c,b,bF,C,E,B,g,a',L,D,h⟩|⟨g,h⟩
  .rw[gj]at h;cases h;exact fin _ (.mapIter (some b) E #[] E) j j j (λaF w' hle N=>⟨j,j,_,_,_,_,N,.inr ⟨id,b,bF,j,j,hle _ _ B,D.js,j,D.js⟩⟩)<|by simp[*,Instr.range,MapKept.run_getObj_map L]
  .rw[gj]at h;cases h;exact fin _ (.mapIter none 0 #[] 0) j j j (λaF w' _ N=>⟨j,j,_,_,_,_,N,.inl fe⟩)<|by simp[*,Instr.range]
 .obtain⟨rfl,bJ⟩:=aw;obtain⟨cc,l,bA,B,g,aC⟩:=q.ptr bJ h;obtain⟨-,a0⟩:=yE aC λ_=>au;obtain⟨F,cJ⟩:=kA a0 au;obtain⟨m,bN,bo,bM,a',c2⟩:=Ps cJ au;obtain⟨id,aX,eC⟩:=ie c2 au;obtain⟨s,bg,fv⟩:=ie eC au;obtain⟨es,clock,bb,lu⟩:=JE fv au;obtain⟨Y,oh⟩:=kA lu au;obtain⟨G,qP⟩:=jq oh au;obtain⟨e,ax,uE⟩:=ie qP au;clear h aC a0 cJ c2 eC fv lu oh qP;subst aX;cases uE;obtain⟨bK,aE,a5,bC,bB,bz,az,aM,a1,aK⟩:=q.w.eB _ _ a' au;rw[B]at aE;cases aE;rcases aK with⟨V,_⟩|⟨r,b,bF,ab,av,H,bD,bk,aL⟩
  .cases V
  cases ab;subst av;obtain⟨bL,br,-,-,C,E,L,D⟩:=q.w.eB _ _ bb au;rw[br]at H;cases H;replace L:w.heap[b]? =some (.map C E):=L;obtain⟨c,W,ay,aq⟩:=D.ab5 G ax;have bq:az.back?=some (bF s):=by
   have:az.back?=az.toList.getLast?:=au
   rw[this,bk,List.getLast?_map];rw[show bo.getLast?=some s from bg];rfl
  have bp:E=aM:=by rw[D.js,aL,Y]
  have aQ:C.find? (λx=>x.born==bF s)=some c:=by rw[<-Array.find?_toList];exact W
  refine q.rd (bE:=.tuple #[c.key,c.val]) (bd.qM<|bI.cons ay<|bI.cons aq<|bI.nil ad) ?_;rw[a5,F]at g;simp only[execOp,ah,g,Instr.entry,Sem.run_bind,JF a1,Result.andThen,bq,Sem.run_pure,MapKept.run_getObj_map L,pD];simp[bp,aQ]
 .cases h
 .rename_i gt _ _ _ _ _ _ _;obtain⟨⟨⟨rfl,rfl,bJ⟩,rfl,K⟩,_⟩:=aw;obtain⟨k,ck,-,g,Y⟩:=q.int bJ h;obtain⟨aw,G⟩:=jr Y au;obtain⟨n,aj,A⟩:=pR G au;obtain⟨b,ak,T⟩:=ie A au;have bh:=wF aw;subst bh aj;cases T;obtain⟨m,I,aA⟩:=Pt ak<|q.ar K;refine q.rd (.bool _) ?_;have:(!decide ((n:Int)<=m))=decide (m<(n:Int)):=by rw[pC];simp
  cases gt<;>simp[*,eqGuard,binOp,Op.intCmp]
 .obtain⟨⟨⟨⟨rfl,bJ⟩,rfl,K⟩,a2⟩,rfl⟩:=aw;obtain⟨s,-,g,h⟩:=q.str bJ h;obtain⟨b,-,I,h⟩:=q.str K h;unfold yz at h;obtain⟨a4,bl,a0⟩:=ie h au;cases a4<;>try cases a0
  obtain⟨bs,c2⟩:=yF (a0:cond _ _ _=_) au;obtain⟨c,b',eC⟩:=yG c2 au;obtain⟨af,fv⟩:=jr eC au;obtain⟨G,lu⟩:=jq fv au;obtain⟨A,oh⟩:=jq lu au;rw[e4]at af G A;cases oh;obtain⟨l,B,C,fu,L⟩:=q.w.eB _ _ bl au;rw[q.w.kB _ X.Bf]at B;cases B;subst b';obtain⟨E,W,ay⟩:=L.cell 0 au;have aU:A3 b.data.toList.length c=some true:=by
   unfold OU at af;split at af
   .assumption
   .cases af
  obtain⟨m,rfl,aA⟩:=Pt aU ay;have hle:((b.data.toList.length:Nat):Int)<=m:=by simpa using aA.symm
  have aW:(load ⟨X.lS,0,none⟩).run X.P w= .ok (.int .i64 m) w:=by
   have aq:C[0]? =some (.int .i64 m):=by simpa using W
   rw[run_load,cell_of L.ex.choose_spec];simp[aq]
  refine q.rd (.int _ _) ?_;have:=X.Bg _ a2 s b m w aW (by simpa using G) (by simpa using hle) (by simpa using A);simp only[EA ah,x4,jZ,x5,g,I];rw[this];cases pN b.data.toList s.data.toList<;>rfl
 .obtain⟨⟨⟨rfl,bJ⟩,rfl,K⟩,A⟩:=aw;obtain⟨s,-,g,h⟩:=q.str bJ h;obtain⟨k,aI,-,I,Y⟩:=q.int K h;obtain⟨aw,G⟩:=jr Y au;obtain⟨c,ab,T⟩:=pR G au;obtain rfl:=wF aw;subst ab;cases T;exact q.rd (.int _ _)<|by simp only[EA ah,x4,jZ,x5,g,I];rw[X.Be _ A s (c:Int) w];rfl
 .rename_i neg _ _ _ _ _ _ _ _;obtain⟨⟨⟨rfl,rfl,bJ⟩,rfl,K⟩,A⟩:=aw;obtain⟨n,aj,A⟩:=(qs _ _).1 A;obtain rfl:=dB A;obtain⟨xs,aB,g,aO,h⟩:=q.agg bJ h;obtain⟨aP,aJ,I,aS,h⟩:=q.agg K h;obtain⟨Y,h⟩:=kA h au;obtain⟨G,h⟩:=kA h au;obtain⟨b,ak,h⟩:=ie h au;cases h;obtain⟨ab,av⟩:=Pv ak aO aS;obtain rfl:aB=xs:=Array.ext' ab;obtain rfl:aJ=aP:=Array.ext' av;rw[e4]at Y G;obtain⟨bP,ba⟩:=X.wC _ _ aj;have bG:=ba aB aJ b w (by rw[<-hS];exact Y) (by rw[<-hS];exact G) ak;refine q.rd (.bool _) ?_;cases neg<;>simp[*,eqGuard,program,Sem.run,run_eql_struct,run_neq_struct]
 .cases aw
end
section
variable{ad:bH}{o bt:aK}{a:Act}{aN:Nat}{st al:ak}{w:f5}{U:Oper}{v:bv}{call:bN}
attribute [local simp] Result.andThen underlying typeInfo sizeOf zeroValue resolve invoke builtin convert Instr.sureAddr asIntOf asInt asBool asAgg execOp
set_option maxHeartbeats 4000000 in
theorem ab9{x:dh}(aw:X.pX U.op x=true)(q:h2 X ad o a aN st w)(h:bw call x o st= .ok v bt al)(hp:x.inPlace=true):bt=o/\qS X x ad w v st al (execOp a.eval U):=by
 generalize E:U.op=op at aw;unfold Ctx.pX Pn at aw;split at aw<;>try simp only[c1,ED,Br,abY,mq,decide_eq_true_eq,beq_iff_eq,qQ,Jv]at aw
 .obtain⟨rfl,k⟩:=aw;cases h;exact q.rd<|q.ar k
 .obtain⟨rfl,k⟩:=aw;cases h;exact q.rd<|q.ar k
 .obtain⟨⟨⟨rfl,a8⟩,rfl,bJ⟩,rfl,K⟩:=aw;obtain⟨t,_,e,h⟩:=q.bool a8 h;cases h;cases t
  .exact q.rd<|q.ar K
  .exact q.rd<|q.ar bJ
 .obtain⟨rfl,Z⟩:=aw;obtain⟨hp,i,uB,af,Z,rfl⟩:=Jw Z;replace h:yA _ _ call o st=_:=h;exact q.hx h (bI.wE ad _ hp) (λ_=>JC)<|by simp[*,Instr.alloc,newVar,newRow]
 .obtain⟨rfl,rfl,k⟩:=aw;obtain⟨hp,h⟩:=yF h au;exact q.hx h (bI.cells (q.ar k)<|ab0 hp) (λ_=>JC)<|by simp[*,Instr.box,newVar,newRow]
 .obtain⟨bk,G⟩:=aw;obtain⟨hp,i,uB,af,Z,rfl⟩:=Jw bk;split at G<;>try cases G
  .rename_i aV ao;rw[c1,ia]at G;obtain⟨bJ,K⟩:=EE G.2;obtain⟨out,bc,Y,A,a'⟩:=Ev _ q.f q.w au _ _ bJ K _ uB.cells (bI.wE ad _ hp) h;cases a';have hm:(aV.mapM λf=>do pure (f.offset,<-sizeOf f.type):Sem (bi<|Nat×Nat)).run X.P w= .ok (aV.map λf=>(f.offset,X.P.cellsOf f.type)) w:=by
    rw[Ol,Sem.run_map,O8 X.P w _ (λf:Field=>(f.offset,X.P.cellsOf f.type)) aV.toList (λf br=>by
     obtain⟨b5,bq⟩:=Ao.1<|G.1 f br;simp[Program.cellsOf,bq])]
    simp only[Result.andThen];congr 1;apply Array.ext';simp
   refine q.rd (bd.r5 A) ?_;simp only[execOp,E,Instr.build,Sem.run_bind,Bk af Z,Result.andThen,run_underlying ao,hm,Array.toList_map]
   erw [Y]
   rfl
  .rename_i n e ao;obtain⟨cd,ae,G⟩:=(qs _ _).1 G;obtain⟨bJ,K⟩:=EE G;obtain⟨out,bc,Y,A,a'⟩:=Ev (λJ=>some (J*cd.size,cd.size)) q.f q.w au _ _ bJ K _ uB.cells (bI.wE ad _ hp) h;cases a';exact q.rd (bd.r5 A)<|by simp[*,Instr.build]
 .rename_i n _ _ _ _ _;obtain⟨rfl,G⟩:=aw;split at G<;>try cases G
  rename_i el ao;rw[c1,mq]at G;obtain⟨rfl,G⟩:=G;split at G<;>try cases G
  rename_i cd ae;obtain⟨uB,Z,G⟩:=(qs _ _).1 G;simp only[c1,lQ]at G;obtain⟨⟨⟨aE,ay⟩,bA⟩,bG⟩:=G;obtain⟨bJ,K⟩:=EE bG;have b0:=AR _ _ ay;obtain⟨out,bc,Y,A,a'⟩:=Ev (λJ=>some (J*cd.size,cd.size)) q.f q.w au _ _ bJ K _ (List.toArray _) (bI.wE ad _ bA) h;refine q.hx a' A (JD _ _) ?_;simp only[execOp,E,Instr.buildSlice,Sem.run_bind,Result.andThen,run_underlying ao,qO ae];rw[av R];have ck:∀(f:Nat->bv) n,(Array.range n).map f=((List.range n).map f).toArray:=λf n=>by apply Array.ext';simp
  by_cases F:n*cd.size=0<;>simp only[F,if_true,if_false]at Y⊢<;>simp_all [newRow]
 .obtain⟨⟨rfl,k⟩,d,T,O⟩:=aw;obtain⟨cc,l,cs,e,bY,aR,C,fu,-,-,g,-,W,h⟩:=q.uD k h;obtain⟨aj,h⟩:=r6 h au;obtain⟨v1,aC,h⟩:=yG h au;cases h;have aK:=W.row cc.off 1 aj;rw[aC]at aK;obtain⟨y,aP,aM,bx,-⟩:=aK.cons_inv;have bb:=congrArg (λz=>z[0]?) aM;have bb:C[l.de+cc.off]? =some y:=by simpa using bb
  exact q.rd bx<|by simp[*,Instr.loadAt,loadVar,Bj T,cell_of W.ex.choose_spec]
 .obtain⟨⟨⟨rfl,k⟩,d,T,O⟩,i,af,rfl⟩:=aw;obtain⟨cc,l,cs,e,bY,aR,C,fu,-,-,g,-,W,h⟩:=q.uD k h;obtain⟨aj,h⟩:=r6 h au;cases h;have aK:=W.row cc.off i.size aj;have bO:=W.jK;rw[iX]at aj;by_cases Z:i.size=0
  .rw[Z];exact q.rd (bE:=.agg #[]) (bd.r5 arw)<|by simp[*,Instr.loadAt,loadVar,Bj T,loadCells,loadCellsFrom]
  exact q.rd (bE:=.agg ((C.toList.drop<|l.de+cc.off).take i.size).toArray) (bd.r5<|by simpa using aK)<|by simp[*,Instr.loadAt,loadVar,Bj T,O4 W.ex.choose_spec (show l.de+cc.off+i.size<=C.size by omega)]
 .obtain⟨⟨⟨rfl,k⟩,rfl,L⟩,i,af,rfl⟩:=aw;obtain⟨cc,l,M,B,g,h⟩:=q.ptr k h;obtain⟨aj,h⟩:=kA h au;obtain⟨aZ,h⟩:=jr h au;obtain⟨-,cs,elem,bY,aR,O,bF,h⟩:=O3 h au;rw[e4]at aj;have aY:=bI.cells (q.ar L)<|abA aZ;have aa:=aY.1;simp only[hW]at aa aj;refine yM ?_ j j;rcases h with⟨hle,h⟩|⟨D,h⟩<;>cases h
  .obtain⟨w',I,Y,G⟩:=q.w.store O B bF hle aY aZ;exact⟨j,ad,.skip,w',by simp_all [Instr.storeAt,storeVar,hW],.inr fe,Y,G⟩
  .rw[show(o.ar _).cells.toList=[]from D]at aa aj;have D:=nZ aa.symm;exact aqT aqT
 .obtain⟨rfl,k⟩:=aw;replace h:I1 _ call o st=_:=h;unfold I1 at h;generalize bj:o.ar _=bK at h;obtain⟨u,g,d⟩:=q.of k bj;cases bK<;>try cases h
  .rename_i p;cases p<;>cases h;cases d with
   |ptr _ l B M=>exact q.rd<|.ptr _ _ B M
  .rename_i f _ _;cases f<;>cases h;cases d with
   |func _ ab _ aP _ cj bB Y G A a'=>
    obtain⟨rfl,_⟩|⟨l,b,e,_⟩:=bB
    .exact q.rd<|.func _ _ _ _ _ _ (.inl ⟨j,au⟩) Y G A a'
    .cases e
 .obtain⟨⟨rfl,rfl,k⟩,rfl,L⟩:=aw;rcases abC h au with⟨i,m,cg,n,e,a0,h⟩|⟨s,u,e,a0,h⟩<;>obtain⟨_,g,d⟩:=q.of k e<;>obtain⟨_,ab,bM⟩:=q.of L a0<;>cases d<;>cases bM
  .obtain⟨v1,h,hp,I⟩:=abJ h au;cases h;exact q.rd (.pure ad _ hp)<|by simp[*,abI]
  .unfold AW at h;split at h
   .obtain⟨hle,h⟩:=jq h au;cases h;simp only[e4]at hle;refine q.rd (bE:=.string<|s++u) ?_ ?_
    .rw[show(⟨⟨fr s.data.toList u.data.toList⟩⟩:f9)=s++u by
      rw[pS];apply ByteArray.ext;simp[ByteArray.data_append]]
     exact .string _
    .have aa:¬(((s.size+u.size:Nat):Int)>IntKind.i64.max):=by
      have Y:s.size=s.data.toList.length:=(hS (xs:=s.data)).symm;have G:u.size=u.data.toList.length:=(hS (xs:=u.data)).symm;have A:IntKind.i64.max=9223372036854775807:=ai
      have a':s.data.toList.length+u.data.toList.length<=1099511627776:=hle;rw[A,Y,G];omega
     simp only[execOp,E,g,ab,Sem.run_bind,Jo,Result.andThen,binOp,Op.stringOp];rw[av aa];rfl
   .exact arh
   .exact arh
   .cases h
 .obtain⟨⟨⟨rfl,rfl,k⟩,rfl,L⟩,a'⟩:=aw;obtain⟨b,ah,h⟩:=ie h au;cases h;exact q.rd (.bool _)<|ab1 E a' ah (q.ar k)<|q.ar L
 .obtain⟨rfl,rfl,k⟩:=aw;cases ‹UnOp› <;>try cases h
  .obtain⟨i,n,-,g,h⟩:=q.int k h;rw[iP,ln,IV]at h;cases h;exact q.rd (.int _ _)<|by simp[*,Op.unary,Op.intArith]
  .obtain⟨i,n,-,g,h⟩:=q.int k h;rw[iP]at h;cases h;exact q.rd (.int _ _)<|by simp[*,Op.unary,Op.intBits]
  .obtain⟨b,-,g,h⟩:=q.bool k h;cases h;exact q.rd (.bool _)<|by simp[*,Op.unary]
 .obtain⟨⟨rfl,k⟩,G⟩:=aw;split at G<;>try cases G
  obtain⟨i,n,-,g,h⟩:=q.int k h;rw[iP,ln]at h;cases h;cases iY G;exact q.rd (.int _ _)<|by simp[*,Conv.intToInt]
 .obtain⟨⟨rfl,k⟩,G⟩:=aw;split at G<;>try cases G
  obtain⟨s,-,g,h⟩:=q.str k h;cases h;exact q.rd<|.string _
 .obtain⟨⟨rfl,k⟩,G⟩:=aw;split at G<;>try cases G
  split at G<;>try cases G
  obtain⟨b,n,c,u,g,d,h⟩:=q.aH k h;cases b with
  |none=>
   cases h;cases d;exact q.rd (.string .empty) (by simp[*,Conv.bytesToString])
  |some b=>
   obtain⟨-,cs,el,bY,aR,O,aj,h⟩:=Ep (h:ak.load st b _ _ _=_) au;obtain⟨b2,ah,h⟩:=ie h au;cases h;obtain⟨l,B,C,fu,W⟩:=q.w.eB _ _ O au;obtain⟨bT,S,aS⟩:=Js ah;cases d with
   |ft _ cb b' _ _ aI c' H=>
    rw[B]at aI;cases aI;obtain⟨I,aL⟩:=W.hA (H.imp_right (·.1)) aj;rw[S]at I;rw[Ji I]at aL;have aL:=aL w j;refine q.rd (bE:=.string ⟨⟨b2⟩⟩) (.string _) ?_;simp only[execOp,E,g,convert,Sem.run_bind,run_underlying ‹X.P.underlying _=some (.slice _)›,run_underlying ‹X.P.underlying _=some .string›,run_underlying ‹X.P.underlying _=some (.int .u8)›,Result.andThen,Conv.bytesToString,aL];rw[Pg X.P w _ (λ_ _=>j) bT ByteArray.empty];simp[aS]
 .rename_i e _ _ _ _;obtain⟨⟨rfl,k⟩,G⟩:=aw;split at G<;>try cases G
  rename_i M N;simp only[c1,mq,qQ]at G;obtain⟨⟨rfl,i,af,Z⟩,G⟩:=G;split at G<;>try cases G
  rename_i D;refine JA ?_ j;obtain⟨s,-,bP,h⟩:=q.str k h;obtain⟨hle,h⟩:=jq h au;rw[gj]at h;simp only[e4]at hle h;cases h;have aa:s.size=s.data.toList.length:=(hS (xs:=s.data)).symm
  let Q:Question:=.appendCap s.size 0 e
  have b4:s.size<=Q.cut (w.tape w.drawn Q):=by show s.size<=s.size+_;omega
  let C:bi bv:=(s.data.map λb=>Value.int .u8 b.toNat)++Array.replicate (Q.cut (w.tape w.drawn Q)-s.size) (.int .u8 0)
  have b3:C.size=Q.cut (w.tape w.drawn Q):=by
   simp only[C,Array.size_append,Array.size_map,Array.size_replicate];have:s.data.size=s.size:=rfl;omega
  have aA:X.P.cellsOf e=1:=by simp[Program.cellsOf,af,Z]
  let w':f5:={w with drawn:=w.drawn+1,heap:=w.heap.push<|.cells C e (C.size,C.size+1)}
  have bL:(execOp a.eval U).run X.P w= .ok (.value<|.slice (some ⟨w.heap.size,0,none⟩) s.size<|Q.cut<|w.tape w.drawn Q) w':=by
   have bS:(markStringish ⟨w.heap.size,0,none⟩).run X.P {w with drawn:=w.drawn+1,heap:=w.heap.push<|.cells C e}= .ok () w':=by
    simp[markStringish,World.shape?,World.freeze,w'];apply Il;intro J;rw[Array.getElem?_modify];by_cases V:w.heap.size=J
    .subst V;simp
    .rw[av V,Ds,Ds,av<|Ne.symm V,av<|Ne.symm V]
   simp only[execOp,E,bP,convert,Sem.run_bind,run_underlying M,run_underlying N,Result.andThen,run_underlying D,Conv.stringToBytes,run_choose,Question.forced,qp,if_false,newRow,run_newObj,Sem.run_pure];rw[bS]
  obtain⟨aF,bJ,K,ax,aX⟩:=q.w.Ex e (Jr ad s.data.toList) (List.replicate (Q.cut (w.tape w.drawn Q)-s.size)<|.int .u8 0) (Q.cut (w.tape w.drawn Q)-s.size) (by rw[aA];simp) (C.size,C.size+1) (λJ V=>by
   rw[Bp]at V;simp only[hI,qt]at V;simp only;omega) w' (by
   show w.heap.push (.cells C e (C.size,C.size+1))=_;congr 2;apply Array.ext';rw[Bp];simp[C])
  subst aX;refine⟨j,_,_,_,_,w',j,au,bL,j,?_,bJ,K⟩;have:=JD s.data.toList.length s.data.toList.length _ ax;rw[<-aa]at this⊢
  rwa [show s.size+(Q.cut (w.tape w.drawn Q)-s.size)=Q.cut (w.tape w.drawn Q) by omega]at this
 .obtain⟨⟨rfl,rfl,k⟩,G⟩:=aw;split at G<;>try cases G
  rename_i d aq T;cases h;cases d<;>first|exact absurd j (aq _)|exact q.rd (.iface _ _ _<|q.ar k)<|by simp[*,Instr.makeInterface]
 .exact apz
 .exact apz
 .obtain⟨⟨⟨rfl,k⟩,rfl,L⟩,G⟩:=aw;split at G<;>try cases G
  rename_i el ao;simp only[c1,mq,qs]at G;obtain⟨⟨rfl,G⟩,cd,ae,⟨rfl,aq⟩,aa⟩:=G;have aq:=Bu aq;obtain⟨hp,i,z,af,Z,rfl⟩:=Jw G;rw[ae]at af;cases af;obtain⟨_,ca,-,g,h⟩:=q.int k h;obtain⟨_,bN,-,ab,h⟩:=q.int L h;obtain⟨cZ,S,Y⟩:=pR h au;obtain⟨jO,aS,G⟩:=pR Y au;subst S aS;obtain⟨hle,A⟩:=jq G au;obtain⟨ah,h⟩:=jq A au;have bz:z.cells.toList≠[]:=by intro e;rw[e]at aa;simp at aa;omega
  have bD:=O9 z.cells.toList jO bz;have bu:∀n,bI ad (pM z.cells.toList n) (pM z.cells.toList n):=by
   intro n
   induction n with
   |zero=>exact bI.nil ad
   |succ n bo=>show bI ad (fr _ _) (fr _ _);rw[pS];exact(bI.wE ad _ hp).append bo
  refine q.hx h (bu jO) (JD cZ jO) ?_;have a6:jO*(cd.bytes+1)<=1099511627776:=ah;have bh:jO<=1099511627776:=ch (Om jO R) a6;have b9:cd.bytes*jO<=1099511627776:=by
   have:cd.bytes*jO<=jO*(cd.bytes+1):=by rw[gP];exact mh _ R
   omega
  have a5:∀n:Nat,n<=1099511627776->IntKind.i64.wrap (n:Int)=n:=λn _=>by rw[<-ln];simp only[oa];rw[yt _ _ _ ai];rw[av]<;>omega
  have O:(decide ((jO:Int)<0)||decide ((cd.bytes:Int)*(jO:Int)>2^48)||decide ((cZ:Int)<0)||decide ((cZ:Int)>(jO:Int)))=false:=by
   have:((cd.bytes*jO:Nat):Int)<=1099511627776:=R
   rw[n1]at this;simp only[Dz,decide_eq_false_iff_not];omega
  have aA:(Array.range<|jO*cd.size).map (z.cells[· %z.cells.size]!)=(pM z.cells.toList jO).toArray:=by
   rw[bD];apply Array.ext';simp[aa]
  simp only[execOp,E,Instr.makeSlice,Sem.run_bind,Result.andThen,run_underlying ao,g,ab,asInt,asIntOf,Sem.run_pure,typeInfo,run_program,ae,a5 cZ<|ch hle bh,a5 jO bh,O,qp,if_false,run_askRoom,qO ae,vP];by_cases F:jO*cd.size=0
  .obtain rfl:jO=0:=(Nat.mul_eq_zero.1 F).resolve_right aq;have bm:pM z.cells.toList 0=[]:=rfl;simp[newRow,bm];congr 2;apply Array.ext';simp
  .rw[av F];simp only[Sem.run_bind,Bk ae Z,Result.andThen,Sem.run_pure,aA,newRow,run_newObj];rfl
 .obtain⟨⟨⟨⟨rfl,k⟩,rfl,bJ⟩,rfl,K⟩,G⟩:=aw;split at G<;>try cases G
  obtain⟨s,-,g,h⟩:=q.str k h;obtain⟨aj,h,az⟩:=o2 q.f q.w K h au;obtain⟨cZ,h,aJ⟩:=o2 q.f q.w bJ h au;obtain⟨W,h⟩:=r6 h au;cases h;rw[e4]at az;have bp:=Pd az<|cf _;have bU:=Pd aJ<|c8 _;have e:=abM s cZ aj bU bp;refine q.rd (bE:=.string<|s.extract cZ aj) (e▸.string _) ?_;rw[show s.data.toList.length=s.size by rw[hS];rfl]at az;have ah:=Bo X.P w false s.size s.size cZ aj s.size _ _ none (.inl fe) (o3 az) (o3 aJ) au;simp[*,Instr.sliceAt,Instr.slice]
 .rename_i n s _ _ _ _ _ _ _ _ _;obtain⟨⟨⟨⟨⟨⟨rfl,k⟩,rfl,bJ⟩,rfl,K⟩,rfl,ax⟩,hm⟩,G⟩:=aw;split at G<;>try cases G
  simp only[c1,mq,qQ]at G;obtain⟨rfl,cd,ae,rfl⟩:=G;obtain⟨cc,l,cs,el,bY,aR,C,fu,M,B,g,-,W,h⟩:=q.uD k h;obtain⟨rfl,h⟩:=yF h au;obtain⟨m,h,bC⟩:=o2 q.f q.w ax h au;obtain⟨aj,h,az⟩:=o2 q.f q.w K h au;obtain⟨cZ,h,aJ⟩:=o2 q.f q.w bJ h au;cases h;have aB:=W.plain j;have ah:=Bo X.P w false n n cZ aj m _ _ _ (o3 bC) (o3 az) (o3 aJ)<|abZ hm;refine q.rd (bE:=.slice (some (if m=cZ then⟨l.cx,l.de+cc.off,none⟩else Addr.add ⟨l.cx,l.de+cc.off,none⟩ (cZ*cd.size))) (aj-cZ)<|m-cZ) ?_ (by simp[*,Instr.sliceAt]);rw[mn];by_cases c:m=cZ
  .rw[aD c,aD c];have:=bd.ft (ad:=ad) cc l (l.de+cc.off) (Nat.sub aj cZ) (Nat.sub m cZ) B M m2;rw[aB.1]at this;exact this
  .rw[av c,av c,add_eq];have:=bd.ft (ad:=ad) (cc.add<|Nat.mul cZ cd.size) l (l.de+(cc.add<|Nat.mul cZ cd.size).off) (Nat.sub aj cZ) (Nat.sub m cZ) asD (Bn _ _ M) m2;rw[aB.1,Eu,<-rM]at this;exact this
 .obtain⟨⟨⟨⟨⟨⟨rfl,k⟩,rfl,bJ⟩,rfl,K⟩,rfl,ax⟩,hm⟩,G⟩:=aw;split at G<;>try cases G
  obtain⟨cd,ae,rfl⟩:=qQ.1 G;exact Jz (abN (call:=call) k bJ K ax (by intro a b;simp_all) E ‹_› ae q.f q.w h) j
 .obtain⟨⟨rfl,k⟩,G⟩:=aw;split at G<;>try cases G
  split at G<;>try cases G
  simp only[c1,mq,qs]at G;obtain⟨rfl,i,af,Z⟩:=G;have Z:=Bu Z;obtain⟨cc,l,M,B,g,h⟩:=q.ptr k h;cases h;exact q.rd (JB B M _)<|by simp[*,Instr.fieldAt,fieldPlace]
 .obtain⟨⟨rfl,k⟩,G⟩:=aw;split at G<;>try cases G
  split at G<;>try cases G
  simp only[c1,mq,qQ,Jv]at G;obtain⟨⟨rfl,i,af,rfl⟩,d,T,rfl⟩:=G;obtain⟨xs,aP,g,I,h⟩:=q.agg k h;obtain⟨v1,aC,h⟩:=ie h au;cases h;obtain⟨bE,I,aQ⟩:=O6 T af I aC w;exact q.rd aQ<|by simp[*,Instr.field]
 .obtain⟨⟨⟨rfl,k⟩,rfl,L⟩,G⟩:=aw;split at G<;>try cases G
  simp only[c1,mq,qQ]at G;obtain⟨rfl,i,af,rfl⟩:=G;obtain⟨cc,l,M,B,g,h⟩:=q.ptr k h;obtain⟨_,J,-,ab,h⟩:=q.nat L h;obtain⟨V,h⟩:=jq h au;cases h;have V:J<_:=V;exact q.rd (JB B M _)<|by simp[*,Instr.indexAt]
 .obtain⟨⟨⟨rfl,k⟩,rfl,L⟩,G⟩:=aw;split at G<;>try cases G
  obtain⟨i,af,rfl⟩:=qQ.1 G;obtain⟨b,n,c,u,g,d,h⟩:=q.aH k h;obtain⟨cc,rfl,h⟩:=ie h au;obtain⟨_,J,-,ab,h⟩:=q.nat L h;obtain⟨V,h⟩:=jq h au;cases h;have V:J<n:=V;cases d with
  |ft _ l b' _ _ B M H=>
   obtain rfl:=H.resolve_right R;exact q.rd (JB B M _)<|by simp[*,Instr.indexAt]
 .obtain⟨⟨⟨rfl,k⟩,rfl,L⟩,G⟩:=aw;split at G<;>try cases G
  obtain⟨s,-,g,h⟩:=q.str k h;obtain⟨_,J,-,ab,h⟩:=q.nat L h;obtain⟨aj,h⟩:=r6 h au;obtain⟨b,ah,h⟩:=yG h au;cases h;have aW:J<s.size:=by rw[iX,hS]at aj;exact Nat.lt_of_sub_pos aj
  have a6:s[J]'aW=b:=by
   have:=congrArg (λl=>l[0]?) ah;simp only[nn,n2,Aq,pD]at this;exact Option.some.inj<|(vN (xs:=s.data) aW).symm.trans apE
  exact q.rd (.int _ _)<|by simp[*,Instr.index]
 .obtain⟨⟨⟨rfl,k⟩,rfl,L⟩,G⟩:=aw;split at G<;>try cases G
  simp only[c1,mq,qQ,Jv]at G;obtain⟨⟨rfl,i,af,rfl⟩,d,T,rfl⟩:=G;obtain⟨xs,aP,g,I,h⟩:=q.agg k h;obtain⟨_,J,-,ab,h⟩:=q.nat L h;obtain⟨V,h⟩:=jq h au;obtain⟨v1,aC,h⟩:=ie h au;cases h;obtain⟨bE,I,aQ⟩:=O6 T af I aC w;have V:J<_:=V;replace I:(part _ aP<|J*i.size).run X.P w= .ok bE w:=I;exact q.rd aQ<|by simp[*,Instr.index]
 .obtain⟨⟨⟨⟨⟨rfl,k⟩,rfl⟩,rfl⟩,a'⟩,aE⟩:=aw;split at a'<;>try cases a'
  rename_i aq T;obtain⟨hp,i,af,Z⟩:=Pm aE;exact Jz (abL (call:=call) k E T (λms e=>aq ms<|by rw[e]) af Z hp q.f q.w h) j
 .rename_i i _ _;obtain⟨⟨rfl,k⟩,rfl⟩:=aw;obtain⟨xs,e,h⟩:=O2 h au;obtain⟨aj,h⟩:=r6 h au;obtain⟨y,aM,h⟩:=yG h au;cases h;obtain⟨_,g,d⟩:=q.of k e;cases d with
  |tuple _ aP Y G=>
   have B:i<xs.size:=by simp at aj;omega
   have af:xs[i]'B=v:=by have:=congrArg (λl=>l[0]?) aM;simpa[B]using this
   have aI:i<aP.size:=R
   exact q.rd (af▸G i B aI)<|by simp[*,Instr.extract]
 .cases hp
 .obtain⟨⟨rfl,k⟩,G⟩:=aw;split at G<;>try cases G
  obtain⟨u,g,d⟩:=q.of k j;replace h:I5 _ call o st=_:=h;unfold I5 at h;generalize o.ar _=f at h d;cases d<;>try cases h
  all_goals first
   |exact q.rd (.int _ _) aqO
   |(rename_i p _;cases p<;>cases h)
 .obtain⟨⟨rfl,k⟩,G⟩:=aw;split at G<;>try cases G
  obtain⟨s,-,g,h⟩:=q.str k h;rw[wA,e4]at h;cases h;exact q.rd (.int _ _) aqO
 .cases h;split at aw
  .obtain rfl:=mq.1 aw;exact q.rd (.int _ _) aqO
  .split at aw<;>try cases aw
   obtain rfl:=mq.1 aw;exact q.rd (.int _ _) aqO
  .cases aw
 .obtain⟨⟨⟨rfl,k⟩,rfl,L⟩,G⟩:=aw;split at G<;>try cases G
  rename_i ao T;simp only[c1,mq]at G;obtain⟨⟨rfl,aE⟩,ay⟩:=G;split at ay<;>try cases ay
  rename_i af;simp only[c1,mq,qs]at ay;obtain⟨⟨rfl,rfl⟩,z,Z,bW⟩:=ay;exact yM (abS (call:=call) k L E ao T (λk e=>by subst e;cases aE) af Z bW q.f q.w h) j j
 .obtain⟨⟨rfl,k⟩,rfl,L⟩:=aw;obtain⟨i,n,-,g,h⟩:=q.int k h;obtain⟨m,hm,h⟩:=ie h au;rw[iP]at h;cases h;have I:=Pa i q.f q.w _ n m L hm;exact q.rd (.int _ _)<|by simp[*,Builtin.max_]
 .obtain⟨⟨rfl,k⟩,rfl,L⟩:=aw;obtain⟨i,n,-,g,h⟩:=q.int k h;obtain⟨m,hm,h⟩:=ie h au;rw[iP]at h;cases h;have I:=Pb i q.f q.w _ n m L hm;exact q.rd (.int _ _)<|by simp[*,Builtin.min_]
 .obtain⟨⟨⟨rfl,k⟩,rfl,L⟩,G⟩:=aw;split at G<;>try cases G
  obtain⟨i,af,rfl⟩:=qQ.1 G;exact yM (abT (call:=call) k L E ‹_› af q.f q.w h) j j
 .cases hp
 .cases hp
 .cases hp
 .obtain⟨⟨rfl,k⟩,G⟩:=aw;split at G<;>try cases G
  obtain⟨i,af,Z⟩:=(qs _ _).1 G;have Z:=Bu Z;obtain⟨cc,l,cs,e,bY,aR,C,fu,M,B,g,-,W,h⟩:=q.uD k h;obtain⟨aW,h⟩:=jq h au;rw[e4]at aW;cases h;have bO:=W.jK;have b1:¬(C.size<=l.de+cc.off):=R
  exact q.rd (.ptr _ _ B M)<|by simp[*,Conv.unsafePointer,Pk X.P (cc:=⟨l.cx,l.de+cc.off,none⟩) W.ex.choose_spec,cellsIn,EB W.ex.choose_spec]
 .obtain⟨⟨rfl,k⟩,G⟩:=aw;split at G<;>try cases G
  simp only[c1,mq,qQ]at G;obtain⟨⟨rfl,i,af,rfl⟩,Z⟩:=G;have Z:=Bu Z;obtain⟨cc,l,cs,el,bY,aR,C,fu,M,B,g,-,W,h⟩:=q.uD k h;obtain⟨bl,h⟩:=yF h au;obtain⟨F,h⟩:=kA h au;obtain⟨bX,h⟩:=kA h au;obtain⟨bg,h⟩:=kA h au;rw[e4]at bg;cases h;subst bl bX;have aB:=W.plain j;have a1:=W.wB tb;have aA:X.P.cellsOf el=i.size:=by simp[Program.cellsOf,af]
  have H:l.de+cc.off=0:=R
  have b6:(variablesAt ⟨l.cx,l.de+cc.off,none⟩ el 1).run X.P w= .ok true w:=by
   simp only[variablesAt,Sem.run_bind,run_program,Result.andThen,run_shape,EB a1,Sem.run_pure];rw[Ph X.P el _ _ 1 (by rw[aA];exact Z) (by rw[H];simp) (by
    rw[H,aA,aB.2.2,bg];simp[Nat.div_self<|qu Z])]
  refine q.rd (.ptr _ _ B M) ?_;clear H F aB;simp[*,Conv.unsafePointer,Pk X.P (cc:=⟨l.cx,l.de+cc.off,none⟩) a1]
 .obtain⟨rfl,k⟩:=aw;obtain⟨b,n,c,u,g,d,h⟩:=q.aH k h;cases b with
  |none=>
   cases h;cases d;exact q.rd .lq (by simp[*,abU])
  |some b=>
   replace h:dL c 0 a2.no (a2.ok (.pointer<|some b) o st)= .ok v bt al:=h;rw[mn]at h;split at h<;>cases h;cases d with
   |ft _ l b' _ _ B M H=>
    obtain rfl:=H.resolve_right R;exact q.rd (.ptr _ _ B M)<|by simp[*,abV _ _ _ _ (c+l.ex) R]
 .obtain⟨⟨⟨rfl,k⟩,rfl,L⟩,G⟩:=aw;split at G<;>try cases G
  simp only[c1,mq,qQ]at G;obtain⟨rfl,i,af,Z⟩:=G;exact yM (abW (call:=call) k L E ‹_› af Z.symm q.f q.w h) j j
 .obtain⟨⟨⟨rfl,k⟩,rfl,L⟩,aO⟩:=aw;obtain⟨s,-,g,h⟩:=q.str k h;obtain⟨b8,bN,-,ab,h⟩:=q.int L h;obtain⟨aw,Y⟩:=jr h au;obtain⟨c,S,G⟩:=pR Y au;obtain rfl:=wF aw;subst S;cases G;refine q.rd (.int _ _) ?_;have:=X.Bd _ aO s (c:Int) w;simp only[EA E,x4,jZ,x5,g,ab];rw[this];congr 2;have aa:s.size=s.data.toList.length:=(hS (xs:=s.data)).symm;have bs:(λi:Nat=>s[i]! ==(c:Int).toNat.toUInt8)=(λi:Nat=>s.data.toList[i]! ==UInt8.ofNat c):=by
   funext i;have S:s[i]! =s.data[i]! :=by
    by_cases af:i<s.size
    .rw[getElem!_pos s i af,getElem!_pos s.data i af];rfl
    .rw[getElem!_neg s i af,getElem!_neg s.data i af]
   rw[S];simp[Array.getElem!_eq_getD]
  rw[Pj,aa,bs];cases(List.range s.data.toList.length).find? (λi=>s.data.toList[i]! ==UInt8.ofNat c)<;>rfl
 .obtain⟨⟨rfl,k⟩,aO⟩:=aw;cases h;exact q.rd (q.ar k)<|by rw[EA E];simp[X.Bc _ aO]
 .replace h:wv call o st=_:=h;unfold wv at h;rw[gj]at h;cases h;obtain⟨aF,bJ,K,ax,aX⟩:=bQ.alloc X q.w (.map [] 0) (.map #[] 0) 0 (λaF w' _ _ N=>⟨j,j,#[],0,N,j,⟨λs t h _ _=>absurd h<|kV _,λs h=>absurd h<|kV _,λJ=>au⟩,au,.nil,.nil,[],.nil,j,λi af=>by simp at af⟩) {w with heap:=w.heap.push<|.map #[] 0} rfl;subst aX;refine JA ⟨j,_,_,_,.map<|some w.heap.size,_,j,au,?_,j,.map _ _ _ ax,bJ,K⟩ j;simp[*,Instr.makeMap]
 .cases h
 .exact ab8 (call:=call) (E▸aw) q h
 .cases h
 .cases aw
end
variable{op:Op}{f:ce}{a7:ac ce}
def aca(aw:X.pX op .um=true):∃aA,op= .call {callee:=.builtin .recover,args:= #[],argTypes:=aA}:=by
 cases op with
 |call c=>
  obtain⟨callee,⟨args⟩,aA⟩:=c;cases callee with
  |builtin b=>
   cases b with
   |recover=>
    match args,aw with
    |[],_=>exact⟨aA,j⟩
    |_::_,aw=>cases aw
   |_=>cases aw
  |_=>cases aw
 |_=>cases aw
def Px(aw:X.pX op (.call f a7)=true):∃g args aA,op= .call {callee:=.value g,args:=args,argTypes:=aA}/\
 (c9 X.a3 f g&&m3 X.a3 a7 args.toList&&(match g with|.func k=>((X.P.funcs[k]?).map λfn=>fn.body.isSome&& !(fn.name== "runtime.NumGoroutine")).getD false|_=>true))=true:=by
 cases op with
 |call c=>
  have⟨callee,args,aA⟩:=c;cases callee with
  |value g=>exact⟨g,args,aA,j,aw⟩
  |_=>cases aw
 |_=>cases aw
def acb(aw:X.pX op (.pJ f a7)=true):∃g args aA,op= .defer {callee:=.value g,args:=args,argTypes:=aA}/\(c9 X.a3 f g&&m3 X.a3 a7 args.toList)=true:=by
 cases op with
 |defer c=>
  have⟨callee,args,aA⟩:=c;cases callee with
  |value g=>exact⟨g,args,aA,j,aw⟩
  |_=>cases aw
 |_=>cases aw
def acd{p:ce}(aw:X.pX op (.n9 p)=true):∃q,op= .panic q/\c9 X.a3 p q=true:=by
 cases op with
 |panic q=>exact⟨q,j,aw⟩
 |_=>cases aw
end Go.bC
namespace Go.bC
def EK{X:Ctx}{ad:bH}{o bt:aK}{a:Act}{aN:Nat}{st al:ak}{w:f5}{U:Oper}{v:bv}{call:bN}{x:dh}(aw:X.pX U.op x=true)(D:eZ ad o a aN)(F:bQ X ad st w)(h:bw call x o st= .ok v bt al)(hp:x.inPlace=true):
 bt=o/\qS X x ad w v st al (execOp a.eval U):=ab9 aw ⟨D,F⟩ h hp
structure dR where
 fn:d7
 kind:CallKind
 b4:be Nat
def dR.at(b:dR)(a:Act)(todo:ac Item):Frame:=
 {fn:=b.fn,tmps:=a.tmps,todo:=todo,defers:=a.defers,mode:=.run,kind:=b.kind,roundOf:=b.b4}
def eval_at(b:dR)(a:Act)(todo:ac Item):(b.at a todo).eval=a.eval:=by
 funext x;cases x<;>rfl
section
variable{P:f8}{b:dR}{a:Act}{k:ac Item}{cs:ac Frame}{w:f5}{ops:bi Oper}
variable{U:Oper}{i:Nat}{rest:ac Nat}{w':f5}{c x y:Code}{v:bv}{f:d7}
def Py:step P (lone (b.at a<|.inScope c::k) cs w)= .next (lone (b.at a k) cs w):=step_lone_go apv
def Pz:step P (lone (b.at a<|.code (.seq x y)::k) cs w)= .next (lone (b.at a<|.code x:: .code y::k) cs w):=step_lone_go apv
def EL{c:ce}{t:Bool}(h:a.eval c= .bool t):
 step P (lone (b.at a<|.code (.cond c x y)::k) cs w)= .next (lone (b.at a<|.code (if t then x else y)::k) cs w):=
 step_lone_go (by
  have:=eval_at b a<|.code (.cond c x y)::k;simp[dR.at]at this;simp[stepG,stepG.exec,dR.at,this,h])
def PA{id:Nat}:step P (lone (b.at a<|.code (.block id c)::k) cs w)= .next (lone (b.at a<|.code c:: .inBlock id::k) cs w):=step_lone_go apv
def PB:step P (lone (b.at a<|.code (.loop c)::k) cs w)= .next (lone (b.at a<|.code c:: .inLoop c::k) cs w):=step_lone_go apv
def PC:step P (lone (b.at a<|.inLoop c::k) cs w)= .next (lone (b.at a<|.code c:: .inLoop c::k) cs w):=step_lone_go apv
def PD:step P (lone (b.at a<|.code (.scope c)::k) cs w)= .next (lone (b.at a<|.code c:: .inScope c::k) cs w):=step_lone_go apv
def PE{id:Nat}:step P (lone (b.at a<|.code (.region id ops false)::k) cs w)= .next (lone (b.at a<|.inRegion ops (List.range ops.size)::k) cs w):=step_lone_go apv
def ace{id:Nat}:step P (lone (b.at a<|.code (.region id ops true)::k) cs w)=
 .next (lone (b.at a<|.inRegion ops (Region.schedule (P.follows .mixedOrders) ops<|w.tape w.drawn<|.order b.fn id)::k) cs {w with drawn:=w.drawn+1}):=
 step_lone_go<|by simp[stepG,stepG.exec,dR.at,Sem.run,Question.forced,Question.cut]
def PF:step P (lone (b.at a<|.inRegion ops []::k) cs w)= .next (lone (b.at a k) cs w):=step_lone_go apv
def finish_at(i:Nat)(rest:ac Nat)(v:bv)(E:ops[i]? =some U):
 (b.at a<|.inRegion ops (i::rest)::k).finish v=b.at (a.put U.dst v) (.inRegion ops rest::k):=by
 cases h:U.dst<;>simp[Frame.finish,dR.at,Act.put,E,h]
def EM(E:ops[i]? =some U)(h:Region.wanted U (yielded ops a.tmps)=false):
 step P (lone (b.at a<|.inRegion ops (i::rest)::k) cs w)= .next (lone (b.at (a.put U.dst undef)<|.inRegion ops rest::k) cs w):=by
 rw[<-finish_at i rest undef E];exact step_lone_go<|by simp[dR.at];simp[stepG,stepG.exec,E,h]
theorem uF(E:ops[i]? =some U)(F:Region.wanted U (yielded ops a.tmps)=true)(T:b.b4=none\/∀c,U.op≠.defer c):
 stepG P true {frame:=b.at a<|.inRegion ops (i::rest)::k,callers:=cs,status:=.running,dying:=none} w=
  stepG.apply P true (b.at a<|.inRegion ops (i::rest)::k) cs none (execOp a.eval U) w:=by
 have D:=eval_at b a<|.inRegion ops (i::rest)::k;simp[dR.at]at D;simp[stepG,stepG.exec,dR.at,E,F,stepG.oper,Frame.oper?]
 grind
def EN(E:ops[i]? =some U)(F:Region.wanted U (yielded ops a.tmps)=true)(T:b.b4=none\/∀c,U.op≠.defer c)
 (I:(execOp a.eval U).run P w= .ok (.value v) w'):step P (lone (b.at a<|.inRegion ops (i::rest)::k) cs w)= .next (lone (b.at (a.put U.dst v)<|.inRegion ops rest::k) cs w'):=by
 apply step_lone_go;rw[uF E F T,<-finish_at i rest v E];simp[stepG.apply,I]
def acf{d:Deferred}(E:ops[i]? =some U)(F:Region.wanted U (yielded ops a.tmps)=true)(T:b.b4=none)
 (I:(execOp a.eval U).run P w= .ok (.defer d) w'):step P (lone (b.at a<|.inRegion ops (i::rest)::k) cs w)= .next (lone (b.at ({a with defers:=d::a.defers}.put U.dst undef)<|.inRegion ops rest::k) cs w'):=by
 apply step_lone_go;rw[uF E F<|.inl T];have:=finish_at (b:=b) (a:={a with defers:=d::a.defers}) (k:=k) i rest undef E;rw[<-this];simp[stepG.apply,I,dR.at]
def PG{args:bi bv}(E:ops[i]? =some U)(F:Region.wanted U (yielded ops a.tmps)=true)(T:b.b4=none\/∀c,U.op≠.defer c)
 (I:(execOp a.eval U).run P w= .ok (.enter f args) w'):step P (lone (b.at a<|.inRegion ops (i::rest)::k) cs w)= .next (lone (Frame.enter P f args .normal) (b.at a (.inRegion ops (i::rest)::k)::cs) w'):=by
 apply step_lone_go;rw[uF E F T];simp[stepG.apply,I,dR.at]
def PH{l:Nat}{aA:bi bv}{ec body:Code}(E:ops[i]? =some U)(F:Region.wanted U (yielded ops a.tmps)=true)(T:b.b4=none\/∀c,U.op≠.defer c)
 (I:(execOp a.eval U).run P w= .ok (.round l f aA ec body) w'):step P (lone (b.at a<|.inRegion ops (i::rest)::k) cs w)= .next (lone (Frame.round l f aA ec body .normal) (b.at a (.inRegion ops (i::rest)::k)::cs) w'):=by
 apply step_lone_go;rw[uF E F T];simp[stepG.apply,I]
def acg(E:ops[i]? =some U)(F:Region.wanted U (yielded ops a.tmps)=true)(T:b.b4=none)
 (I:(execOp a.eval U).run P w= .ok .recover w'):
 step P (lone (b.at a<|.inRegion ops (i::rest)::k) cs w)=match tryRecover (b.at a<|.inRegion ops (i::rest)::k) cs with
  |some (v,R)=>.next (lone (b.at (a.put U.dst v)<|.inRegion ops rest::k) R w')
  |none=>.next (lone (b.at (a.put U.dst .nilIface)<|.inRegion ops rest::k) cs w'):=by
 have h:(b.at a<|.inRegion ops (i::rest)::k).roundOf=none:=T;cases N:tryRecover (b.at a<|.inRegion ops (i::rest)::k) cs with
 |none=>
  exact aqJ
 |some p=>
  exact aqJ
def ach(E:ops[i]? =some U)(F:Region.wanted U (yielded ops a.tmps)=true)(T:b.b4=none\/∀c,U.op≠.defer c)
 (I:(execOp a.eval U).run P w= .halt (.panic v) w'):step P (lone (b.at a<|.inRegion ops (i::rest)::k) cs w)= .next (lone {b.at a (.inRegion ops (i::rest)::k)with mode:=.panicking [{v,recovered:=false}]} cs w'):=by
 apply step_lone_go;rw[uF E F T];simp[stepG.apply,I,dR.at,Frame.raise]
end
inductive JG(P:Program)(EO:Value)(args:List Value)(w:World):Frame->Prop
 |enter (f:FuncId) (as:Array Value) (h:((do let d<-Deferred.ofValue EO args.toArray;invoke d.target d.args):Sem Next).run P w= .ok (.enter f as) w):JG P EO args w (Frame.enter P f as .normal)
 |round (l:Nat) (f:FuncId) (aA:Array Value) (ec body:Code) (h:((do let d<-Deferred.ofValue EO args.toArray;invoke d.target d.args):Sem Next).run P w= .ok (.round l f aA ec body) w):JG P EO args w (Frame.round l f aA ec body .normal)
def EP(X:Ctx)(ad:bH)(w:f5)(eg c:Frame)(cs:ac Frame):dY->Prop
 |.ret v al _=>∃aF bE w',bd aF v bE/\bQ X aF al w'/\eb ad aF w w'/\Steps X.P (lone eg (c::cs) w) (lone (c.finish bE) cs w')
 |.aV v al _=>∃aF bE w',bd aF v bE/\bQ X aF al w'/\eb ad aF w w'/\Steps X.P (lone eg (c::cs) w) (lone (c.raise [{v:=bE,recovered:=false}]) cs w')
 |.no=>True
def m4(X:Ctx)(call:bN):Prop:=
 ∀ad G args st K H w,bd ad G K->bI ad args H->bQ X ad st w->call G args none st≠.no->
  ∃eg,JG X.P K H w eg/\∀c cs,EP X ad w eg c cs<|call G args none st
def ju(b:dR)(aV:be bv)(ad:bH)(bf:Bool->ac Frame):Prop:=
 match aV with
 |none=>∀(F:Frame) (R:Bool),F.kind=b.kind->tryRecover F (bf R)=none
 |some g=>∃h,bd ad g h/\(∀F:Frame,F.kind=b.kind->tryRecover F (bf false)=some (h,bf true))/\∀F:Frame,F.kind=b.kind->tryRecover F (bf true)=none
def ju.mono{b:dR}{aV:be bv}{ad aF:bH}{bf:Bool->ac Frame}(hle:ad.le aF)(h:ju b aV ad bf):ju b aV aF bf:=by
 cases aV with
 |none=>exact h
 |some g=>have⟨j,Y,G,A⟩:=h;exact⟨j,Y.mono hle,G,A⟩
def oi(ad:bH)(x:be Nat)(y:be Nat):Prop:=(x=none/\y=none)\/∃l T,x=some l/\y=some T/\ad l=some ⟨T,0,0,id⟩
def oi.mono{ad aF:bH}(hle:ad.le aF){x y:be Nat}(h:oi ad x y):oi aF x y:=by
 obtain h|⟨l,T,Y,G,A⟩:=h
 .exact .inl h
 .exact .inr ⟨l,T,Y,G,hle _ _ A⟩
variable{X:Ctx}
def lT(X:Ctx)(aN:Nat)(ops:bi Oper)(x:bj)(U:Oper):Bool:=
 (match x.d,U.dst with
  |none,none=>true
  |some a,some b=>Nat.beq a b&&Nat.ble (Nat.succ b) aN
  |_,_=>false)&&X.pX U.op x.U&&
 (match x.g,U.guard with
  |none,none=>true
  |some (t,V),some (J,C)=>(V==C)&&(match(ops[J]?).bind (·.dst)with|some I=>Nat.beq t I&&Nat.ble (Nat.succ t) aN|none=>false)
  |_,_=>false)
section
variable{aN:Nat}{ops:bi Oper}{x:bj}{U:Oper}
theorem ER(h:lT X aN ops x U=true):x.d=U.dst/\∀t,x.d=some t->t<aN:=by
 rw[lT]at h;simp at h;have Y:=h.1.1;split at Y
 .grind
 .rename_i a b S g;rw[c1]at Y;have:=pY Y.1;subst this;rw[S,g];exact⟨j,λt N=>by cases N;exact lQ.1 Y.2⟩
 .cases Y
def Bx(h:lT X aN ops x U=true):X.pX U.op x.U=true:=by
 rw[lT]at h;simp at h;exact h.1.2
variable{ad:bH}{o bt:aK}{a:Act}{st al:ak}{w:f5}{v:bv}{call:bN}{b:dR}{bf:Bool->ac Frame}{k:ac Item}{i:Nat}{rest:ac Nat}
theorem PI{α:Type}{E R z r:α}(h:lT X aN ops x U=true)(D:eZ ad o a aN)(aw:hj o x.g E R z=r)(Z:z≠r):
 (E=r/\Region.wanted U (yielded ops a.tmps)=true)\/(R=r/\Region.wanted U (yielded ops a.tmps)=false):=by
 unfold lT at h;simp at h;have Y:=h.2;split at Y
 .rename_i S a';rw[S]at aw;exact .inl ⟨aw,by simp[Region.wanted,a']⟩
 .rename_i t V J C S a';rw[S]at aw;rw[c1]at Y;obtain⟨F,A⟩:=Y;have H:V=C:=by grind
  subst H;split at A
  .rename_i I B;rw[c1]at A;have aa:=pY A.1;have aW:t<a.tmps.size:=by rw[D.size];exact lQ.1 A.2
   have Q:=D.tmp t;have O:a.tmps[t]? =some (a.tmps.getD t undef):=by simp[aW]
   have T:yielded ops a.tmps J=match a.tmps.getD t undef with|.bool b=>some b|_=>none:=by
    unfold yielded
    grind
   have q:Region.wanted U (yielded ops a.tmps)=(yielded ops a.tmps J==some V):=by simp[Region.wanted,a']
   have L:kj (o.tmp t) (λb=>cond b (cond V E R)<|cond V R E) (qF (o.tmp t) (λ_=>R) z)=r:=aw;generalize W:a.tmps.getD t undef=G at Q T;generalize N:o.tmp t=M at L Q;cases M with
   |bool K=>
    cases Q;have ab:cond K (cond V E R) (cond V R E)=r:=L
    grind
   |tuple xs=>
    cases Q;exact .inr ⟨L,by rw[q,T];rfl⟩
   |_=>exact absurd L Z
  .cases A
 .cases Y
def aci(a:Act)(d:be Tmp)(v:bv){aM:ac Deferred}:({a with defers:=aM}.put d v).tmps=(a.put d v).tmps:=by cases d<;>rfl
def PJ(az:lT X aN ops x U=true)(aK:m4 X call)(E:ops[i]? =some U)(ag:Region.wanted U (yielded ops a.tmps)=true)(D:eZ ad o a aN)(F:bQ X ad st w)(ay:oi ad o.b4 b.b4)
 (I:ju b o.aV ad bf) (h:bw call x.U o st= .ok v bt al):
 ∃aF dm w',Steps X.P (lone (b.at a<|.inRegion ops (i::rest)::k) (bf o.cQ) w) (lone (b.at dm<|.inRegion ops rest::k) (bf bt.cQ) w')/\eZ aF (bt.put x.d v) dm aN/\bQ X aF al w'/\eb ad aF w w'/\
  bt.aV=o.aV/\bt.b4=o.b4/\∃bE,dm.tmps=(a.put U.dst bE).tmps:=by
 obtain⟨ae,Q⟩:=ER az;have Z:=Bx az;have B:∀{q:Prop},(b.b4=none->q)->(o.b4=none->q):=by
  intro q aU aj;rcases ay with⟨_,G⟩|⟨l,a6,Y,_,_⟩
  .exact aU G
  .rw[aj]at Y;cases Y
 by_cases hp:x.U.inPlace=true
 .obtain⟨rfl,⟨aF,n,w',L,aj,ak,N⟩,_⟩:=EK Z D F h hp;have A:b.b4=none\/∀c,U.op≠.defer c:=by
   right;intro c W;rw[W]at Z;cases O:x.U with
   |rU fn p q=>rw[O]at Z;cases fn<;>cases Z
   |yr p=>exact ap1
   |refuse=>exact ap1
   |pJ p q=>rw[O]at hp;cases hp
   |ext y=>rw[O]at Z;cases y<;>cases Z
   |_=>rw[O]at Z;cases Z
  rcases aj with⟨bE,rfl,ab⟩|⟨rfl,rfl⟩
  .refine⟨aF,a.put U.dst bE,w',.one<|EN E ag A L,?_,ak,N,j,j,_,j⟩;rw[<-ae];exact(D.mono N.le).put Q ab
  .refine⟨aF,a.put U.dst undef,w',.one (by
    refine step_lone_go ?_;rw[uF E ag A,<-finish_at i rest undef E];simp[stepG.apply,L]),?_,ak,N,j,j,_,j⟩
   rw[<-ae];exact(D.mono N.le).put Q<|bd.undef aF
 .cases O:x.U with
  |call f a7=>
   rw[O]at h Z;obtain⟨g,args,aA,ai,V⟩:=Px Z;simp at V;obtain⟨rfl,bJ⟩:=sb V.1.1;obtain⟨rfl,K⟩:=Br.1 V.1.2;have af:dY.rec (λv st _=>.ok v o st) (λv st _=>.aV v st) .no (call (o.ar f) (dQ o args.toList) none st)=a2.ok v bt al:=h;have A:b.b4=none\/∀c,U.op≠.defer c:=.inr (by rw[ai];simp);obtain⟨eg,aS,aD⟩:=aK ad (o.ar f) (dQ o args.toList) st (a.eval f) (args.toList.map a.eval) w (D.ar F bJ) (uA D F _ K) F (by intro e;rw[e]at af;cases af);have av:(execOp a.eval U).run X.P w=((do let d<-Deferred.ofValue (a.eval f) (args.toList.map a.eval).toArray;invoke d.target d.args):Sem Next).run X.P w:=by
    unfold execOp;rw[ai];simp[resolve,<-Array.toList_map]
   cases W:call (o.ar f) (dQ o args.toList) none st with
   |ret v1 a4 R=>
    rw[W]at af aD;obtain⟨S,aa,H⟩:=Bl af;subst S aa H;obtain⟨aF,bE,w',ab,ak,N,ao⟩:=aD (b.at a<|.inRegion ops (i::rest)::k)<|bf o.cQ;rw[(finish_at (b:=b) (a:=a) (k:=k) i rest bE E)]at ao;refine⟨aF,a.put U.dst bE,w',?_,?_,ak,N,j,j,_,j⟩
    .cases aS with
     |enter T as M=>exact .head (PG E ag A<|by rwa [av]) ao
     |round l T a0 a5 body M=>exact .head (PH E ag A<|by rwa [av]) ao
    .rw[<-ae];exact(D.mono N.le).put Q ab
   |_=>rw[W]at af;cases af
  |inv yp f a7=>exact ap1
  |um=>
   rw[O]at h Z;obtain⟨aA,ai⟩:=aca Z;obtain⟨aj,Y⟩:=yE h λ_=>au;have L:(execOp a.eval U).run X.P w= .ok .recover w:=by
    unfold execOp;rw[ai];simp[resolve,invoke,builtin]
   have M:=acg (k:=k) (cs:=bf o.cQ) E ag (B id aj) L (rest:=rest);cases ah:o.aV with
   |none=>
    rw[ah]at Y I;obtain⟨S,aa,H⟩:=Bl Y;subst S aa H;rw[I _ _ j]at M;refine⟨ad,_,w,.one M,?_,F,.refl _ _,ah,j,_,j⟩;rw[<-ae];exact D.put Q .nilIface
   |some aL=>
    rw[ah]at Y I;obtain⟨a8,aI,aQ,aY⟩:=I;have G:cond o.cQ (a2.ok .nilIface o st) (.ok aL ⟨o.t,o.dd,o.aV,true,o.b4⟩ st)=a2.ok v bt al:=by rwa [ah]
    cases aq:o.cQ with
    |true=>
     rw[aq]at G M;obtain⟨S,aa,H⟩:=Bl G;subst S aa H;rw[aY _ j]at M;refine⟨ad,_,w,by rw[aq];exact .one M,?_,F,.refl _ _,ah,j,_,j⟩;rw[<-ae];exact D.put Q .nilIface
    |false=>
     rw[aq]at G M;obtain⟨S,aa,H⟩:=Bl G;subst S aa H;rw[aQ _ j]at M;refine⟨ad,_,w,.one M,?_,F,.refl _ _,ah,j,_,j⟩;simpa[<-ae]using eZ.put (o:=⟨o.t,o.dd,o.aV,true,o.b4⟩) ⟨D.tmp,D.size,D.dd⟩ Q aI
  |pJ f a7=>
   rw[O]at h Z;obtain⟨g,args,aA,ai,V⟩:=acb Z;simp at V;obtain⟨rfl,bJ⟩:=sb V.1;obtain⟨rfl,K⟩:=Br.1 V.2;obtain⟨aj,Y⟩:=yE h λ_=>au;obtain⟨fn,first,aB,aH,G⟩:=Jd Y au;have ab:=D.ar F bJ;rw[aH]at ab;cases fn with
   |func ax=>
    obtain⟨S,aa,H⟩:=Bl (G:a2.ok undef ⟨o.t,{target:=.fn (.func ax) aB,args:=⟨fr first.toList (dQ o args.toList)⟩}::o.dd,o.aV,o.cQ,o.b4⟩ st=a2.ok v bt al);subst S aa H;generalize aX:a.eval f=kn at ab;cases ab with
    |func _ aC _ aP _ aE aM aO C aZ aJ=>
     have aW:=uA D F _ K;have L:(execOp a.eval U).run X.P w= .ok (.defer {target:=.fn aC aE,args:=aP++args.map a.eval}) w:=by
      unfold execOp;rw[ai];simp[resolve,aX,Deferred.ofValue]
     have M:=acf (k:=k) (cs:=bf o.cQ) E ag (B id aj) L (rest:=rest);refine⟨ad,_,w,.one M,?_,F,.refl _ _,j,j,undef,aci _ _ _⟩;rw[<-ae];refine eZ.put (o:=⟨o.t,{target:=.fn (.func ax) aB,args:=⟨fr first.toList (dQ o args.toList)⟩}::o.dd,o.aV,o.cQ,o.b4⟩) (a:={a with defers:={target:=.fn aC aE,args:=aP++args.map a.eval}::a.defers}) ⟨D.tmp,D.size,⟨⟨?_,aM,bI.uy aZ aJ⟩,D.dd⟩⟩ Q<|bd.undef ad;have:=(bI.uy aO C).append aW;exact apE
   |_=>cases G
  |n9 p=>
   rw[O]at h;obtain⟨t,a1,_,Y⟩:=Je h au;cases Y
  |_=>rw[O]at hp;exact absurd j hp
end
end Go.bC
namespace Go.bC
variable{X:Ctx}
section
variable{aN:Nat}{ops:bi Oper}{x:bj}{U:Oper}{ad:bH}{o bt:aK}{a:Act}{st al:ak}{w:f5}{v:bv}{call:bN}{b:dR}{bf:Bool->ac Frame}{k:ac Item}{i:Nat}{rest:ac Nat}
variable{cs:ac Frame}{s r8:Machine}{aF:bH}
def dR.panics(b:dR)(a:Act)(todo:ac Item)(v:bv):Frame:={b.at a todo with mode:=.panicking [{v,recovered:=false}]}
def PK(ah:lT X aN ops x U=true)(Y:m4 X call)(E:ops[i]? =some U)(aa:Region.wanted U (yielded ops a.tmps)=true)(a':eZ ad o a aN)(F:bQ X ad st w)
 (j:x.U.lp=true) (h:bw call x.U o st= .aV v al):
 ∃aF bE w',Steps X.P (lone (b.at a<|.inRegion ops (i::rest)::k) cs w) (lone (b.panics a (.inRegion ops (i::rest)::k) bE) cs w')/\bd aF v bE/\bQ X aF al w'/\eb ad aF w w':=by
 have Z:=Bx ah;cases O:x.U with
 |call f a7=>
  rw[O]at h Z;obtain⟨g,args,aA,Q,V⟩:=Px Z;simp at V;obtain⟨rfl,bJ⟩:=sb V.1.1;obtain⟨rfl,K⟩:=Br.1 V.1.2;have D:dY.rec (λv st _=>.ok v o st) (λv st _=>.aV v st) .no (call (o.ar f) (dQ o args.toList) none st)=a2.aV v al:=h;have A:b.b4=none\/∀c,U.op≠.defer c:=.inr (by rw[Q];simp);obtain⟨eg,ai,ae⟩:=Y ad (o.ar f) (dQ o args.toList) st (a.eval f) (args.toList.map a.eval) w (a'.ar F bJ) (uA a' F _ K) F (by intro e;rw[e]at D;cases D);have ab:(execOp a.eval U).run X.P w=((do let d<-Deferred.ofValue (a.eval f) (args.toList.map a.eval).toArray;invoke d.target d.args):Sem Next).run X.P w:=by
   unfold execOp;rw[Q];simp[resolve,<-Array.toList_map]
  cases W:call (o.ar f) (dQ o args.toList) none st with
  |aV v1 C R=>
   rw[W]at D ae;have I:=D;cases I;obtain⟨aF,bE,w',S,H,N,L⟩:=ae (b.at a<|.inRegion ops (i::rest)::k) cs;have aq:(b.at a<|.inRegion ops (i::rest)::k).raise [{v:=bE,recovered:=false}]=b.panics a (.inRegion ops (i::rest)::k) bE:=rfl;refine⟨aF,bE,w',?_,S,H,N⟩;cases ai with
   |enter T as M=>exact .head (PG E aa A<|by rw[ab];exact M) L
   |round l T ak av body M=>exact .head (PH E aa A<|by rw[ab];exact M) L
  |ret v1 C R=>rw[W]at D;cases D
  |no=>rw[W]at D;cases D
 |inv yp f a7=>exact ap1
 |n9 p=>
  rw[O]at h Z;obtain⟨q,Q,V⟩:=acd Z;obtain⟨rfl,bJ⟩:=sb V;obtain⟨t,ao,hp,aj⟩:=Je h au;have G:=aj;cases G;have S:=a'.ar F bJ;rw[hp]at S;generalize B:a.eval p=kn at S;cases S with
  |iface _ _ ag af=>
   refine⟨ad,.iface t ag,w,.one<|ach E aa (.inr<|by rw[Q];simp) ?_,.iface _ _ _ af,F,.refl _ _⟩;unfold execOp;rw[Q];simp[B,Instr.panic]
 |_=>rw[O]at j;cases j
def ES(P:f8)(s:Machine)(b:dR)(a:Act)(k:ac Item)(cs:ac Frame)(w:f5)(aF:bH):c6->Prop
 |.norm=>Steps P s (lone (b.at a k) cs w)
 |.exit id=>∃R,exitTo id R=exitTo id k/\Steps P s (lone (b.at a<|.code (.exit id)::R) cs w)
 |.ret=>∃R,Steps P s (lone (b.at a<|.code .ret::R) cs w)
 |.aV v=>∃bE R,bd aF v bE/\Steps P s (lone (b.panics a R bE) cs w)
def fY(X:Ctx)(b:dR)(aN:Nat)(bf:Bool->ac Frame)(s:Machine)(k:ac Item)(o:aK)(ad:bH)(w:f5):cN->Prop
 |.out e bt al=>∃aF dm w',eZ aF bt dm aN/\bQ X aF al w'/\eb ad aF w w'/\bt.aV=o.aV/\bt.b4=o.b4/\ES X.P s b dm k (bf bt.cQ) w' aF e
 |.no=>True
def ES.head{P:f8}{e:c6}(h:Steps P s r8)(D:ES P r8 b a k cs w aF e):ES P s b a k cs w aF e:=by
 cases e with
 |norm=>exact h.trans D
 |exit id=>obtain⟨R,Y,G⟩:=D;exact⟨R,Y,h.trans G⟩
 |ret=>obtain⟨R,G⟩:=D;exact⟨R,h.trans G⟩
 |aV v=>obtain⟨bE,R,Y,G⟩:=D;exact⟨bE,R,Y,h.trans G⟩
def fY.head{w':f5}{r:cN}(h:Steps X.P s r8)(aw:eb ad aF w w')(hp:bt.aV=o.aV)(I:bt.b4=o.b4)(D:fY X b aN bf r8 k bt aF w' r):fY X b aN bf s k o ad w r:=by
 cases r with
 |no=>trivial
 |out e Q j=>
  obtain⟨g,K,S,Y,G,A,T,C,H⟩:=D;exact⟨g,K,S,Y,G,aw.trans A,T.trans hp,C.trans I,H.head h⟩
def acj(x:bj)(xs:ac bj)(o:aK)(st:ak):gh call (x::xs) o st=
 hj o x.g (a2.rec (motive:=λ_=>cN) (λv o st=>gh call xs (o.put x.d v) st) (λv st=>cond x.U.lp (.out (.aV v) o st) .no) .no<|bw call x.U o st)
  (gh call xs (o.put x.d undef) st) .no:=rfl
theorem tc(o:aK)(d:be Tmp)(v:bv):(o.put d v).aV=o.aV/\(o.put d v).b4=o.b4/\(o.put d v).cQ=o.cQ/\(o.put d v).dd=o.dd:=by
 obtain⟨Y,G,A,T⟩:=qJ o d v;exact⟨G,T,A,Y⟩
theorem ET(Y:m4 X call):∀(xs:ac bj) (l:ac Nat) (ad:bH) (o:aK) (a:Act) (st:ak) (w:f5),xs.length=l.length->
 (∀(J:Nat) (x:bj) (i:Nat),xs[J]? =some x->l[J]? =some i->∃U,ops[i]? =some U/\lT X aN ops x U=true)->
 eZ ad o a aN->bQ X ad st w->oi ad o.b4 b.b4->ju b o.aV ad bf->
 fY X b aN bf (lone (b.at a<|.inRegion ops l::k) (bf o.cQ) w) k o ad w (gh call xs o st)
 |[],[],ad,o,a,st,w,_,_,D,F,_,_=>⟨ad,a,w,D,F,.refl _ _,j,j,.one PF⟩
 |[],_::_,_,_,_,_,_,h,_,_,_,_,_=>by simp at h
 |_::_,[],_,_,_,_,_,h,_,_,_,_,_=>by simp at h
 |x::xs,i::l,ad,o,a,st,w,aB,R,D,F,ay,I=>by
  obtain⟨U,E,K⟩:=R 0 x i j j;have V:∀(J:Nat) x i,xs[J]? =some x->l[J]? =some i->∃U,ops[i]? =some U/\lT X aN ops x U=true:=λJ x i af ag=>R (J+1) x i af ag;have a':xs.length=l.length:=by grind
  obtain⟨ai,Q⟩:=ER K;rw[acj];generalize O:hj o x.g _ _ _=r;by_cases T:r= .no
  .rw[T];trivial
  rcases PI K D O (λe=>T e.symm)with⟨e,Z⟩|⟨e,Z⟩
  .cases q:bw call x.U o st with
   |ok v aa C=>
    rw[q]at e;have G:=e;obtain⟨aF,ab,w',M,A,H,N,hp,B,_⟩:=PJ K Y E Z D F ay I q;obtain⟨W,cA,dG,gT⟩:=tc aa x.d v;have L:=ET Y xs l aF (aa.put x.d v) ab C w' a' V A H (by rw[cA,B];exact ay.mono N.le) (by rw[W,hp];exact I.mono N.le);rw[<-G];rw[dG]at L;exact fY.head M N (W.trans hp) (cA.trans B) L
   |aV v C=>
    rw[q]at e;have G:=e;obtain⟨ah,ae⟩:=jr G λe=>T e.symm;obtain⟨aF,bE,w',M,S,H,N⟩:=PK K Y E Z D F ah q;rw[<-ae];exact⟨aF,a,w',D.mono N.le,H,N,j,j,bE,_,S,M⟩
   |no=>rw[q]at e;exact absurd e.symm T
  .obtain⟨W,cA,dG,gT⟩:=tc o x.d undef;have L:=ET Y xs l ad (o.put x.d undef) (a.put U.dst undef) st w a' V (by rw[<-ai];exact D.put Q<|bd.undef ad) F (by rw[cA];exact ay) (by rw[W];exact I);rw[<-e];rw[dG]at L;exact fY.head (.one<|EM E Z) mr W cA L
end
