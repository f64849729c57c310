/- An abstract machine, and that its evaluations stand for runs of the model (part 1); no condition. -/
import Derived.Calls
import Derived.Laws.Cells
import Derived.Maps.Keyed
import Derived.Lib.Strings
import Derived.KernelRfl
import Derived.Laws.StructEq
import Derived.Recover
noncomputable section
set_option linter.all false
namespace Go.bI
universe u
def J{P:Prop}(h:P:=by omega):P:=h
def av{P:Prop}(h:P:=by decide):P:=h
theorem o{α:Sort u}{a:α}:a=a:=rfl
def az{P:Prop}(h:P:=by simp):P:=h
def qg{P:Prop}(h:P:=by assumption):P:=h
def e9{P:Prop}(h:P:=by exact⟨rfl,rfl⟩):P:=h
def ep{P:Prop}(h:P:=by simp;omega):P:=h
def sA{P:Prop}(h:P:=by exact⟨rfl,rfl,rfl⟩):P:=h
def nQ{P:Prop}(h:P:=by exact(.inl rfl)):P:=h
def qj{P:Prop}(h:P:=by exact(fun _=>rfl)):P:=h
def qo{P:Prop}(h:P:=by exact(.inr rfl)):P:=h
def mB{P:Prop}(h:P:=by exact(.refl _ _)):P:=h
def kK{P:Prop}(h:P:=by exact(.refl _)):P:=h
def aP:=trivial
def dq{P:Prop}(h:P:=by exact⟨_,rfl⟩):P:=h
def cw{P:Prop}(h:P:=by kernel_rfl):P:=h
def jU{P:Prop}(h:P:=by exact⟨_,rfl,rfl,fun _=>rfl⟩):P:=h
def sU{P:Prop}(h:P:=by exact⟨rfl,fun _=>rfl⟩):P:=h
def fJ{P:Prop}(h:P:=by exact⟨_,rfl,rfl⟩):P:=h
def lQ{P:Prop}(h:P:=by exact⟨_,rfl,rfl,.refl _⟩):P:=h
def MF{P:Prop}(h:P:=by decide +kernel):P:=h
def z9{P:Prop}(h:P:=by exact⟨rfl,by omega,by omega⟩):P:=h
section
variable{P:Prop}
def aoK(h:P:=by exact⟨⟨_,congrArg (λw=>some (a0.a 168 true 6 aM hj w)) M,o,λ_=>o⟩,aP⟩):P:=h
def aoL(h:P:=by show lK (cf aV (cm X bp) (n+1) (.func (.func g) #[] #[]) (dt I bJ) none st) _ _=_;rw[bj];rfl):P:=h
def aoM(h:P:=by grind):P:=h
def aoN(h:P:=by exact ck.refl _):P:=h
def aoO(h:P:=by simp[stepG,stepG.exec,dQ.at]):P:=h
def aoP(h:P:=by exact cr (hp:=by show pinned Z.length _ _=_;rw[af];rfl)):P:=h
def aoQ(h:P:=by exact show(k:Int)<(l.length:Int) by omega):P:=h
def aoR(h:P:=by obtain⟨⟨rfl,rfl,bU⟩,rfl,H⟩:=aB;cases h;exact q.rd (bA:=.func _ (Array.map a.eval _) (Array.map a.eval _)) (bo.A6 (.inl ⟨o,az⟩) (by simpa using vd q.f q.w _ bU) (by simpa using vd q.f q.w _ H)) (by simp[*,Instr.makeFunc])):P:=h
def aoS(h:P:=by obtain⟨J,s,md,aj,aa,B,bj⟩:=yM u aU none W r D aJ aG {{F with defers:=es}with mode:=.returning} cs (aq.mono a'.le) (show sF aJ none .returning from rfl) K;exact⟨J,s,md,(Steps.head ay M).trans (.head af aj),aa,B,a'.trans bj⟩):P:=h
def aoT(h:P:=by show l.length-0<bz+1;unfold bz;omega):P:=h
def aoU(h:P:=by exact⟨(λh=>by cases h),λ⟨k,h,_⟩=>by cases h⟩):P:=h
def aoV(h:P:=by exact⟨_,o,λst=>vn O⟩):P:=h
def aoW(h:P:=by exact⟨_,h,o,λP w t=>by subst aa;simp[binOp,Op.shift,show¬((b:Int)<0) by omega]⟩):P:=h
def aoX(h:P:=by simpa using this):P:=h
def aoY(h:P:=by exact show¬(l.length:Int)<(l.length:Int) by omega):P:=h
def aoZ(h:P:=by show List.rec (motive:=λ_=>ev) _ _ I.di=_;rw[z]):P:=h
def ao0(h:P:=by intro aX i0 ax B;exact⟨B.hle.trans hle,λb aa aj=>(by rw[V.hold b (fG aa B.ag) az];exact B.hold b aa aj),λb aa aj=>(by rw[V.dZ b (fG aa B.ag) az];exact B.dZ b aa aj),cN B.ag V.ag,B.jf,B.new⟩):P:=h
def ao1(h:P:=by rw[ba N,ba J]at this;exact Option.some.inj this):P:=h
def ao2(h:P:=by obtain⟨m,aE,aK⟩:=tQ D e;unfold jQ;rw[aE];exact⟨b,aK,d⟩):P:=h
def ao3(h:P:=by exact⟨J,s,md,(Steps.head ay M).trans (.head af aj),aa,B,a'.trans bj⟩):P:=h
def ao4(h:P:=by exact cr (hp:=by show pinned ab.length _ _=_;rw[V];rfl)):P:=h
def ao5(h:P:=by show jI I.t aF (λB=>hl ⟨B,[],none,false,none⟩ (some (t,b)) _ _ _)=jI I.t aF (λB=>hl ⟨B,[],none,false,none⟩ none _ _ _);rw[oH,oH];exact Ki ((D.only aF).get _ _ F)):P:=h
def ao6(h:P:=by exact λh=>by cases h):P:=h
def ao7(h:P:=by exact λp hp=>by cases hp):P:=h
def ao8(h:P:=by exact⟨c,ad,_,w,.one (E2 (P:=X.P) (b:=b) (a:=a) (k:=k) (cs:=bu (F c).cU) (w:=w) (rest:=rest) ay ah),by rw[<-C];exact ae.float D a' az U aO aq (by rw[ai];exact bo.undef _),aI,aK⟩):P:=h
def ao9(h:P:=by rename_i z el;have e:bD call (.alloc z el) I st=st.iD (.cells z el (0,0) false) λid st=>.ok (.pointer (some ⟨id,0,none⟩)) I st:=rfl;rw[e,gV]at h;cases h;rfl):P:=h
def apa(h:P:=by rw[h]at d;obtain⟨b,e,d⟩:=d;exact⟨b,tD h e,d⟩):P:=h
def apb(h:P:=by show 600<4611686018427387903;decide):P:=h
def apc(h:P:=by exact⟨undef,_,ids,H,e,U.fl a3 o aa ⟨_,_,o,cd.del E⟩,⟨[],o,o⟩,cL.refl _,ck.refl _,λ_ _ _ B=>B.fl (fQ aa) _,ct _,λc _ O=>ar.fu _ _ λe=>O j W (e▸aa)⟩):P:=h
def apd(h:P:=by have B:a2.rec (λv _ al=>j7 call ms n M (p+1) fp (I.put x.d v) al) (λ_ _=>false) false (bD call x.R (I.only aF) st)=true:=B;rw[A]at B;cases B):P:=h
def ape(h:P:=by rename_i O;obtain⟨b,aa,O⟩:=D.aq O;exact⟨_,⟨b,aa,o⟩,e O⟩):P:=h
def apf(h:P:=by intro i a b;exact fR.same (EX he (hp.mem_iff.1 (eO a))) (W i a b).1):P:=h
def apg(h:P:=by exact⟨.refl _,bX.nl.trans (.of (by show dr []=dr (b9 _ 0);rw[iX])),bX.ij,aP⟩):P:=h
def aph(h:P:=by exact⟨Z,⟨hw,A.le,o,o,pk,λb aa=>by simp at aa,λk R b E=>by simp at E⟩,⟨cL.refl _,λ_ _ _=>o,λ_ _ _=>o,Ik _ _,ck.refl _,λb aa=>.inl aa⟩,o⟩):P:=h
def api(h:P:=by unfold fe at G;rw[hV]at G;unfold bz;omega):P:=h
def apj(h:P:=by exact⟨λ_=>false,F,T,N,V,⟨f0,t0,cp,o,o,λp x c hp=>.inl ⟨o,(M p x c hp).1⟩⟩,.inl ⟨A,λ_=>o,λp x c _ _ hp=>(M p x c hp).2,U,aw⟩⟩):P:=h
def apk(h:P:=by exact cZ.refl _ _ _):P:=h
def apl(h:P:=by exact⟨dg _,o⟩):P:=h
def apm(h:P:=by exact⟨[],o,o⟩):P:=h
def apn(h:P:=by exact⟨.agg (dP.extract N (N+i.size)),by simp[part,Sem.run_bind,Bi S,F,Result.andThen,if_true,rm af,Sem.run_pure],bo.sv (by simp_all)⟩):P:=h
def apo(h:P:=by exact bh (dc o o kK)):P:=h
def apq(h:P:=by exact⟨_,.inr ⟨b,R+p*z,c-p,ab,el,b1,true,by rw[W],J,N,B⟩,λst hle=>by rw[T st hle,cond_true,h7 G,fT.aq Z D aD,fT.aq fA D hp,nX]⟩):P:=h
def apr(h:P:=by show xs.length-0<bz+1;unfold bz;omega):P:=h
def aps(h:P:=by intro i l W;show(if i=st.ag then _ else ad i)=_;rw[au];exact W;intro e;subst e;rw[(h.fresh _ (c4 _)).1]at W;cases W):P:=h
def apt(h:P:=by exact⟨av,av⟩):P:=h
def apu(h:P:=by exact⟨bZ.back G.le a' M h.dZ,⟨bN.le.refl _,G.size,G.kept,λ_ _ q=>.inl q,G.fZ⟩,ct _,λi p m hp T hm=>.inl ⟨aT hp,hm,hp⟩⟩):P:=h
def apv(h:P:=by exact cL.refl _):P:=h
def apw(h:P:=by exact⟨(by cases v<;>first|rfl|(done)|(rename_i r;cases r<;>first|rfl|cases this)),(by rw[adw this];exact⟨v,[],o,d,o⟩)⟩):P:=h
def apx(h:P:=by have:=h.2 i J J;rwa [lW,lW]at this):P:=h
def apy(h:P:=by exact⟨.agg ⟨[_,_,_]⟩,bo.sv (bO.cons (.bool _) (bO.cons M (bO.cons (.fv ⟨A,N,none⟩ L _ _ _ G o nQ) (bO.nil _))))⟩):P:=h
def apz(h:P:=by exact λ_ _ E _=>⟨E,by simp[g1]⟩):P:=h
def apA(h:P:=by simpa using h):P:=h
def apB(h:P:=by exact⟨λn=>by rw[<-lC];exact sl _ _ av,o⟩):P:=h
def apC(h:P:=by exact⟨o,o,congrArg (λa=>some (ai.ae a)) (by rw[j9]<;>omega),congrArg (λa=>some (ai.ae a)) (by rw[j9,e]<;>omega),aP⟩):P:=h
def apD(h:P:=by rw[<-h];rfl):P:=h
def apE(h:P:=by exact⟨aj,by show 0+(b9 10 n).length<=_;have:=Ms aj;omega,by rw[au C];simp[mT],λh=>absurd h C,λp hp=>by simp at hp⟩):P:=h
def apF(h:P:=by show jI I.t aF (λB=>hl ⟨B,[],none,false,none⟩ (some (t,b)) _ _ _)=_;rw[oH];exact V (D.only aF) F):P:=h
def apG(h:P:=by exact⟨.inl o,lQ,[0],o,iz aP jU⟩):P:=h
def apH(h:P:=by simpa using h.1):P:=h
def apI(h:P:=by have⟨S,M⟩:=B;exact hP.head (Steps.trans M (.one (Qf o))) C (yN u ok.fn ok.res Y G o o o o (rfl))):P:=h
def apJ(h:P:=by rw[Y];exact xU p.1):P:=h
def apK(h:P:=by exact key false (by rw[O,show I.aq y=_ from N];simp[kk,wH]) o):P:=h
def apL(h:P:=by show bx (kk 8 t (I.aq x) (I.aq y)) (λb=>a2.ok (.bool (cond neg (!b) b)) I st) .no=_;rw[ah];rfl):P:=h
def apM(h:P:=by apply step_lone_go;have M:=aw;simp[stepG,stepG.exec,stepG.apply,dQ.at,aa,h,resolve,Qj aa,Qk,M]):P:=h
def apN(h:P:=by exact⟨h.s,h.z,cN h.l aE,(λp hp=>by have:=h.k p hp;unfold aM.le at this ⊢;omega),λp hp=>b0 (h.b p hp) o⟩):P:=h
def apO(h:P:=by exact⟨az,by rw[ay];rfl,by rw[ay];exact⟨aB,aP⟩,aP,o⟩):P:=h
def apP(h:P:=by exact⟨_,_,o,⟨_,o,by unfold Rows.uptoBulk at O;first|exact Nat.le_of_succ_le O|(simp at O ⊢;omega)⟩,o⟩):P:=h
def apQ(h:P:=by exact tI h aE aK O N):P:=h
def apR(h:P:=by show ai.i .i64 ((bW M g).length:Int)=_;rw[iv]):P:=h
def apS(h:P:=by exact⟨λh=>h.elim .inl (λh=>.inr ⟨_,o,h⟩),λh=>h.elim .inl (λ⟨_,h,D⟩=>by cases h;exact .inr D)⟩):P:=h
def apT(h:P:=by apply step_lone_go;rw[vh ay hw (.inl S),<-finish_at i rest _ ay];simp[stepG.apply,aw,h,aN]):P:=h
def apU(h:P:=by exact⟨.inr o,⟨_,o,o,.of (NX A o)⟩,[0],o,iz aP jU⟩):P:=h
def apV(h:P:=by rename_i h;exact absurd dW h):P:=h
def apW(h:P:=by exact⟨v,st,ids,H,A st (.inl U.le) (λ_ _ _ _=>o),U,g,cL.refl _,ck.refl _,λ_ _ _ B=>B,c4 _,λ_ _ _=>o⟩):P:=h
def apX(h:P:=by have:bD call (.build z N) I st=oz I N z λcs=>.ok (.agg ⟨cs⟩) I st:=rfl;rw[this,bj]):P:=h
def apY(h:P:=by exact⟨az,by simpa using xp _ _ _ _⟩):P:=h
def apZ(h:P:=by exact λs h=>by cases h):P:=h
def ap0(h:P:=by exact bh (dc o o (.of (by rw[aH];rfl)))):P:=h
def ap1(h:P:=by rw[fX]at aw;subst aw;exact⟨_,_,_,o,O⟩):P:=h
def ap2(h:P:=by exact bh (dc o o (MB.trans (.of (by show _=ai.br [.agg (e7 (fr (a,b))),.i .i64 (g5 (a,b))];rw[U,T]))))):P:=h
def ap3(h:P:=by cases h;exact key _ (by rw[show I.aq x=_ from O,show I.aq y=_ from N];simp[kk,AX]) o):P:=h
def ap4(h:P:=by unfold kV;omega):P:=h
def ap5(h:P:=by show 1<_;decide):P:=h
def ap6(h:P:=by simp[*,Builtin.len_,goInt]):P:=h
def ap7(h:P:=by simp[*,Builtin.delete_,MapKept.run_getObj_map L,wU J S,MapKept.run_setObj_map _ L]):P:=h
def ap8(h:P:=by rw[hp];exact aw.mono a'.le):P:=h
def ap9(h:P:=by rw[aj];exact aa.mono a'.le):P:=h
def aqa(h:P:=by exact⟨st.ag,by rw[<-U.len];simp,o⟩):P:=h
def aqb(h:P:=by exact⟨_,.inr ⟨b,R+p*z,c-p,ab,el,b1,false,by rw[W],J,N,B⟩,λst hle=>by rw[A st hle,rB ah,nX]⟩):P:=h
def aqc(h:P:=by exact⟨o,ad,.skip,w,by simp_all [Instr.storeAt,storeVar,storeCells],.inr e9,q.w.I9 F,.refl ad w⟩):P:=h
def aqd(h:P:=by exact⟨.agg ⟨[_,_,_]⟩,bo.sv (bO.cons (.bool _) (bO.cons M (bO.cons (.kl _ _) (bO.nil _))))⟩):P:=h
def aqe(h:P:=by exact⟨ad,_,w,aw,.inl ⟨bA,o,Z⟩,hw,.refl ad w⟩):P:=h
def aqf(h:P:=by exact⟨M,⟨u,F,o,o,pk,λb aa=>by simp at aa,λk R b E=>by simp at E⟩,cZ.refl _ _ _,.inl e9⟩):P:=h
def aqg(h:P:=by cases hp;exact absurd o S):P:=h
def aqh(h:P:=by rw[O,show I.aq y=_ from N];simp[kk,sq]):P:=h
def aqi(h:P:=by exact⟨λ_=>bC,λ_=>st,λ_=>fp,λ_=>undef,sA,.inr ⟨0,x,u,o,λp _ _ hp=>J,hw,a',o,o,K,C⟩⟩):P:=h
def aqj(h:P:=by exact⟨_,⟨_,o,sP m (nW (j*z+R) g)⟩,λL _ C=>B2 G ((C k b (by simp[qv,O]) aa).trans F) J⟩):P:=h
def aqk(h:P:=by exact⟨Y.1,Y.2,λo aD=>by unfold uh at aD;rw[G]at aD;cases aD;exact⟨C.1,C.2.1,C.2.2.1⟩⟩):P:=h
def aql(h:P:=by exact congrArg (λn:Nat=>ai.i .u32 (n:Int)) (xK u)):P:=h
def aqm(h:P:=by have⟨Z,Y,G,C⟩:=RP bq aN aB aI aj ah hp O U D;exact bE Z ids st I Y G C):P:=h
def aqn(h:P:=by exact⟨_,eO (show j<(fB cH st 0).1.length by omega),by rw[(rP cH st 0 j J ad).1,a1,ah,N]⟩):P:=h
def aqo(h:P:=by exact⟨_,az,o,o,λD=>by show IM e p call I ⟨D,ag⟩=_;rw[IM];simp[Y,cond_false];rw[gV]⟩):P:=h
def aqp(h:P:=by exact bL [0,1] (k+1,l[k]) ⟨by show l.length-(k+1)<l.length-k;omega,J,aT,ha aT,F.symm⟩ cb):P:=h
def aqq(h:P:=by simp[jJ,ah]at h;exact h):P:=h
def aqr(h:P:=by exact⟨λh=>h.elim .inl (λh=>absurd h az),λh=>h.elim .inl (λ⟨_,h,_⟩=>by cases h)⟩):P:=h
def aqs(h:P:=by exact⟨λ_=>bC,λ_=>al,λ_=>fp,λ_=>undef,sA,.inl ⟨o,o,o,λp x c hp=>by simp at hp⟩⟩):P:=h
def aqt(h:P:=by show(st.h.set st.ag R).get id=none;rw[ar.eP,au J];exact(hw.fresh id J).2):P:=h
def aqu(h:P:=by cases h;exact q.rd (.bool _) (by simp[*,Jb,binOp,Op.stringOp,toList_eq])):P:=h
def aqv(h:P:=by exact⟨_,⟨_,o,sP m (nW R g)⟩,λL _ C=>B2 G ((C k b (by simp[qv,O]) aa).trans F) J⟩):P:=h
def aqw(h:P:=by exact oM U (bU H ids st _ O h (D.ec (some d) o))):P:=h
def aqx(h:P:=by cases h;exactλfx aj H ids st I gE cG O U D T=>Q9 ⟨H,ids,_,O,U,D,k⟩):P:=h
def aqy(h:P:=by have:=h.aj;omega):P:=h
def aqz(h:P:=by exact⟨_,o,y2 av av (D.aq O) (D.aq N) (by show(if n=0 then none else _)=_;rw[au aj])⟩):P:=h
def aqA(h:P:=by obtain⟨a,bk,cI,Y,G⟩:=KJ (s:=⟨own,n,e⟩) h;cases Y;exact xm G k):P:=h
def aqB(h:P:=by exact⟨⟨ab,U,T,λi x O=>by have:=xr D _ (d i x O);rw[hp x]at this;exact this⟩,o⟩):P:=h
def aqC(h:P:=by rw[qZ];omega):P:=h
def aqD(h:P:=by rw[au];exact W;intro e;subst e;rw[(hw.fresh _ (c4 _)).1]at W;cases W):P:=h
def aqE(h:P:=by rw[aa]at A;rw[au (λe=>by rw[e,kA]at aa;cases aa)];exact h.get j w A):P:=h
def aqF(h:P:=by exact⟨λh=>⟨h.1,h.2.1,λ_ h=>by cases h⟩,λh=>⟨h.1,h.2.1,λh=>by cases h⟩⟩):P:=h
def aqG(h:P:=by exact bL [0,1] (k+1,m) ⟨by show l.length-(k+1)<l.length-k;omega,J,aT,hm,F.symm⟩ cb):P:=h
def aqH(h:P:=by simpa using bO.nil ad):P:=h
def aqI(h:P:=by exact bh (dc o o (fin _ aH.symm))):P:=h
def aqJ(h:P:=by exact⟨⟨s.data.toList,l⟩,⟨_,_,o,o,_,_,o,d,o⟩,Y,by show l.length<=B;omega⟩):P:=h
def aqK(h:P:=by exact⟨.inr o,⟨_,o,o,.of (ZB e)⟩,[0,1],o,cb (aE:=⟨jU,⟨_,ZC e,o⟩,aP⟩)⟩):P:=h
def aqL(h:P:=by exact U 15<|bh ⟨.inr o,⟨_,o,o,.of (NU D)⟩,[0],o,iz aP ⟨_,NV D,o,λ_=>o⟩⟩):P:=h
def aqM(h:P:=by exact⟨Z,a',J,V,A,C,aD⟩):P:=h
def aqN(h:P:=by exact hP.head (Steps.trans B (.one (Qe o))) C (yN u ok.fn ok.res Y G o o o o (rfl))):P:=h
def aqO(h:P:=by have h:cond (Nat.beq j d) none none=some J:=h;rw[ay]at h;cases h):P:=h
def aqP(h:P:=by exact⟨o,λi h=>by simp at h⟩):P:=h
def aqQ(h:P:=by exact⟨c1 (iM av),c1 (iM av)⟩):P:=h
def aqR(h:P:=by rw[DS];rw[au J,show j+ab.length-j=ab.length by omega,oo (c4 _)]):P:=h
def aqS(h:P:=by rename_i h;cases aw;exact(Classical.choose_spec h).2 L W w D hw):P:=h
def aqT(h:P:=by exact⟨_,qQ (YY _ (λw hw=>Ns (T _ (uz.1 hw).1).1 (ad _ (uz.1 hw).2).1) q aD)⟩):P:=h
def aqU(h:P:=by exact⟨_,az,o,o,λD=>by show A2 e n z bd call I ⟨D,ag⟩=_;rw[A2];rw[ay,gV]⟩):P:=h
def aqV(h:P:=by exact zd (p:=0) (q:=c2) o o o dq (dg _) J qo):P:=h
def aqW(h:P:=by cases ok<;>simp[*,Instr.lookup,MapKept.run_getObj_map L,wU J S]):P:=h
def aqX(h:P:=by simp[Rows.boundsProvenUptoRow]):P:=h
def aqY(h:P:=by obtain⟨k,E⟩:=se.1 aa;obtain⟨m,_,N⟩:=tQ aT E;exact fQ N):P:=h
def aqZ(h:P:=by exact bh ⟨.inr o,⟨_,o,o,.of (Zw D)⟩,[0],o,iz aP ⟨_,Zx D M,o,λ_=>o⟩⟩):P:=h
def aq0(h:P:=by exact⟨v,st,ids,H,A st,U,g,cL.refl _,ck.refl _,λ_ _ _ B=>B,c4 _,λ_ _ _=>o⟩):P:=h
def aq1(h:P:=by exact⟨b,Y,o⟩):P:=h
def aq2(h:P:=by exact⟨az,o,⟨⟨_,o,by show a0.g _=a0.g _;rw[ad,ai]⟩,aP⟩,⟨o,aP⟩,o⟩):P:=h
def aq3(h:P:=by exact⟨aE,by show(bW M g).length<=1048576;rw[iv];omega,λy ad=>b0 (aB y ad)⟩):P:=h
def aq4(h:P:=by exact⟨_,WideMaps.keyOf_string_mk Tryz.underlying9 (by unfold maxLen;omega)⟩):P:=h
def aq5(h:P:=by exact show¬(k:Int)<(l.length:Int) by omega):P:=h
def aq6(h:P:=by exact ba aT):P:=h
def aq7(h:P:=by show n-0<bz+1;unfold bz;omega):P:=h
def aq8(h:P:=by show k-0<bz+1;unfold bz;omega):P:=h
def aq9(h:P:=by show _-0<bz+1;unfold bz;omega):P:=h
def ara(h:P:=by exact⟨_,qg,o⟩):P:=h
def arb(h:P:=by exact Rq h (by simp[g1,A]) λD=>by obtain⟨b,Y,G⟩:=D.aq A;exact⟨b,Y,G⟩):P:=h
def arc(h:P:=by rw[<-Rat.normalize_eq_mkRat h,Rat.normalize_eq h];exact e9):P:=h
def ard(h:P:=by exact⟨dg _,List.Pairwise.nil,(λw h=>by cases h),(λw h=>by cases h),o⟩):P:=h
def are(h:P:=by exact⟨aq,λw hw=>⟨xW (aJ w hw).1,b0 (aJ w hw).2 J⟩,xW E.1,b0 E.2 J⟩):P:=h
def arf(h:P:=by exact⟨.refl _,CQ,aP⟩):P:=h
def arh(h:P:=by exact⟨by simp[vP],by rw[k4,nF];omega,by rw[au S,<-v,aH];exact Xc aw S⟩):P:=h
def ari(h:P:=by exact⟨by show d.size+1-(i+1)<d.size+1-i;omega,J,hw,by rw[<-aw,Zs h,u]⟩):P:=h
def arj(h:P:=by exact⟨_,az,o,o,λD=>by show ys z e call I ⟨D,ag⟩=_;rw[ys];rw[gV]⟩):P:=h
def ark(h:P:=by exact bh (dc o o (.of (by show _=ai.i .i64 (lS d);rw[e];first|done|rfl)))):P:=h
def arl(h:P:=by exact⟨ah.row R m aj,λaG e=>Pb (by rw[e];exact ah.ex.choose_spec) J⟩):P:=h
def arn(h:P:=by exact⟨_,_,o,o,o⟩):P:=h
def aro(h:P:=by have af:st.ag+1<=i:=af;rw[ar.fu _ _ J];exact h.wf i J):P:=h
def arp(h:P:=by exact⟨s,M,by rw[D.nd.inj _ _ (bK s M) (D.born e av) a1];exact kA _⟩):P:=h
def arq(h:P:=by exact⟨_,qQ (alz (λp hp=>(T p hp).1) (λp hp=>(aj p hp).1) D q aD)⟩):P:=h
def ars(h:P:=by unfold execOp;rw[L];simp[resolve,<-Array.toList_map]):P:=h
def art(h:P:=by simpa[fB]using h):P:=h
def aru(h:P:=by have⟨u,g,d⟩:=q.of k e;cases d;exact⟨i,e,g,h⟩):P:=h
def arv(h:P:=by exact⟨undef,_,st,fp,B,.inl ⟨aa,⟨o,o,o,.inl ⟨j,o⟩⟩,az⟩⟩):P:=h
def arw(h:P:=by exact⟨undef,_,st,fp,B,.inl ⟨aa,⟨o,o,.inl ⟨j,o,o⟩⟩,az⟩⟩):P:=h
def arx(h:P:=by exact⟨U.le,λ_ _ _ _=>o⟩):P:=h
def ary(h:P:=by exact⟨J,J,J⟩):P:=h
def arz(h:P:=by exact fG aa O.ag):P:=h
def arA(h:P:=by exact⟨this.1,by show((fB l (e.st st) (i+1)).1[j]'_).born=_;omega⟩):P:=h
def arB(h:P:=by exact⟨g,by rw[u.size];exact S t g⟩):P:=h
def arC(h:P:=by exact⟨_,fin false z ⟨[],aw H []⟩,λst F=>by rw[e st F,Y];rfl⟩):P:=h
def arD(h:P:=by exact⟨_,az,o,o,λD=>by show wL call I ⟨D,ag⟩=_;rw[wL];rw[gV]⟩):P:=h
def arE(h:P:=by rw[cu J,cu J];exact pW C):P:=h
def arF(h:P:=by rw[cu J,cu J];exact pV C):P:=h
def arG(h:P:=by rw[E]at G;cases G;rw[U.len,<-U.cV];exact(dG.1 C).1):P:=h
def arH(h:P:=by exact⟨v,_,st,fp,dj,.inl ⟨aa,⟨o,o,o,.inr ⟨j,bj⟩⟩,az⟩⟩):P:=h
def arI(h:P:=by exact⟨_,_,_,_,(h gX (by show gX∈[gX,cW,tT];simp)),λZ=>zi anZ⟩):P:=h
def arJ(h:P:=by exact⟨((mf n).drop u)[k],ha (by rw[V];exact W),by simpa using d⟩):P:=h
def arK(h:P:=by exact cb (aK:=⟨o,o,o,o,o,congrArg (λt=>some (ai.b t)) ZK,o,aP⟩)):P:=h
def arL(h:P:=by show(if(n:Int)=0 then none else _)=_;rw[au J];rfl):P:=h
def arM(h:P:=by exact⟨ct _,T,ha T,by cases l with|nil=>simp at T|cons x l=>rfl⟩):P:=h
def arN(h:P:=by exact⟨_,o,_,_,o,⟨o,ay⟩,_,_,o,⟨o,aA⟩,_,_,o,⟨o,aB⟩,o⟩):P:=h
def arO(h:P:=by exact vq (d:=some d) (s:=⟨own,aC,e⟩) this (by rw[qZ]) (Sr O) bE):P:=h
def arP(h:P:=by exact⟨v,_,gW,fp,B,.inl ⟨aa,⟨o,o,.inr ⟨j,U,A⟩⟩,az⟩⟩):P:=h
def arQ(h:P:=by exact⟨aJ,h.skip,bN.le.refl _,λu E=>by cases E;exact .emp _ _⟩):P:=h
def arR(h:P:=by exact⟨_,fin true U.val ⟨[],J⟩,λst F=>by rw[e st F,Y];rfl⟩):P:=h
def arS(h:P:=by exact bL [0,1,2,3,4,5] (t+1) ⟨by show N-(t+1)<N-t;omega,aT⟩ cb):P:=h
def arT(h:P:=by rw[e]):P:=h
def arU(h:P:=by exact⟨e,by simpa using A,aa,aC,J,by rw[B,M],by rwa [bj,<-an]⟩):P:=h
def arV(h:P:=by exact⟨Y.1,Y.2,λq aD=>by unfold uh at aD;rw[G]at aD;cases aD⟩):P:=h
def arW(h:P:=by exact show¬(j:Int)<(j:Int) by omega):P:=h
def arX(h:P:=by exact show¬(i:Int)<(i:Int) by omega):P:=h
def arY(h:P:=by rw[Bl];exact W):P:=h
def arZ(h:P:=by exact⟨_,_,_,_,_,_,_,o⟩):P:=h
def ar0(h:P:=by exact⟨by grind,(by rw[ar.eP,au J,ar.eP,au J];exact this.2)⟩):P:=h
def ar1(h:P:=by exact⟨.inr o,lQ,[0],o,iz aP jU⟩):P:=h
def ar2(h:P:=by exact dc o o (.of (by show _=ai.ae (zF s);unfold zF;rw[h];rfl))):P:=h
def ar3(h:P:=by exact bL [3] (k+1,true) ⟨by show n-(k+1)<n-k;omega,J,aT⟩ cb):P:=h
def ar4(h:P:=by exact absurd az aj):P:=h
def ar5(h:P:=by simpa using b):P:=h
def ar6(h:P:=by simpa using a):P:=h
def ar7(h:P:=by simpa using D):P:=h
def ar8(h:P:=by rw[Ia];decide):P:=h
def ar9(h:P:=by exact⟨λh=>absurd h av,λe=>absurd (e▸h) Rat.lt_irrefl⟩):P:=h
def asa(h:P:=by exact⟨BF aB aU.1 _ cW,BF aB aU.2.1 _ a8,by rw[aU.2.2,ba]⟩):P:=h
def asb(h:P:=by exact dc o o (E (λh=>J) (λ_=>.br ⟨le_zero,.refl _,aP⟩))):P:=h
def asc(h:P:=by exact bL [] (k+1) ⟨J,aT,aH⟩ cb):P:=h
def asd(h:P:=by simp[stepG,stepG.exec,dQ.at,dQ.returns,aa]):P:=h
def ase(h:P:=by show l[k].ej.length-0<bz+1;unfold bz;omega):P:=h
def asf(h:P:=by rw[j9 (n:=(j:Int)+(m+2:Nat)) J J];exact gg):P:=h
def asg(h:P:=by show ai.b (decide _)=_;congr 1;simp;omega):P:=h
def ash(h:P:=by exact⟨_,⟨b,Y,by rw[fP,sa]⟩,λst=>BY G (D.aq af) a3⟩):P:=h
def asi(h:P:=by exact⟨.Lo,.refl _,.refl _,aP⟩):P:=h
def asj(h:P:=by exact λe=>x.den_nz ((qG av).1 e)):P:=h
def asl(h:P:=by exact cj (decide_eq_decide.2 ⟨λD=>⟨h,D⟩,λD=>D.2⟩)):P:=h
def asm(h:P:=by show ai.br [bQ (mkRat _ _),_]=_;rw[Hp C]):P:=h
def asn(h:P:=by rw[h];decide):P:=h
def aso(h:P:=by exact⟨λh=>J,λh=>J⟩):P:=h
def asp(h:P:=by exact⟨by simp[cutAt],λq h=>by simp[cutAt]at h,λ_=>o⟩):P:=h
def asq(h:P:=by show t.cF.length-0<bz+1;unfold bz;omega):P:=h
def asr(h:P:=by show ai.i _ (vu 47 s)=_;unfold vu;rw[O]):P:=h
def ass(h:P:=by show ai.i .i64 (lS (mi l x))=_;rw[aq,Z]):P:=h
def ast(h:P:=by exact⟨p,hp,o⟩):P:=h
def asu(h:P:=by rw[T.len];exact aa):P:=h
def asv(h:P:=by exact congrArg (λn:Nat=>ai.i .u32 (n:Int)) (xK (u/100))):P:=h
def asw(h:P:=by show b-1+1-(a+1)<bz+1;unfold bz;omega):P:=h
def asx(h:P:=by show ab.length-0<bz+1;unfold bz;omega):P:=h
def asy(h:P:=by exact⟨u.wr,o,o,o,o⟩):P:=h
def asz(h:P:=by exact bX.refl _):P:=h
def asA(h:P:=by show l.length-1<bz+1;unfold bz;omega):P:=h
def asB(h:P:=by show xs.length<bz+1;unfold bz;omega):P:=h
def asC(h:P:=by exact⟨l,by rw[aM i j U];exact aO,z.symm.Qw bz cb⟩):P:=h
def asD(h:P:=by exact⟨by show 6-_<6-_;decide,by show _<=6;decide⟩):P:=h
def asE(h:P:=by exact⟨by have:=U.1;omega,λ_=>by have:=U.1;omega⟩):P:=h
def asF(h:P:=by exact⟨bX.FM.trans .b8,.refl _,.refl _,.refl _,aP⟩):P:=h
def asG(h:P:=by exact⟨_,⟨b,Y,by rw[fP,sa]⟩,BY G (D.aq af) a3⟩):P:=h
def asH(h:P:=by exact⟨.inr o,⟨_,o,o,.of (fin ah)⟩,[0,1],o,cb⟩):P:=h
def asI(h:P:=by simpa[kI]using h):P:=h
def asJ(h:P:=by simp[g1,O]):P:=h
def asK(h:P:=by simp[O]):P:=h
def asL(h:P:=by rwa [D.yH]):P:=h
def asM(h:P:=by exact⟨q.JN.BL y W,q.val.BL y cW,by rw[A,q.born]⟩):P:=h
def asN(h:P:=by exact⟨iM av,iM av⟩):P:=h
def asO(h:P:=by rw[h]):P:=h
def asP(h:P:=by exact U c ad I a st w (.inScope c::k) ah D hw aa aw):P:=h
def asQ(h:P:=by exact U 21<|eK (by show ai.s []=ai.s _;rw[<-Y];rfl)):P:=h
def asR(h:P:=by first|(rw[ad];done)|(rw[ad];rfl)):P:=h
def asS(h:P:=by exact⟨lZ.1 this.1.1,lZ.1 this.1.2,lZ.1 this.2⟩):P:=h
def asT(h:P:=by exact⟨ad,a,w,D,hw,.refl _ _,o,o,k,o,.refl _ _⟩):P:=h
def asU(h:P:=by exact⟨aB,s0 dF (HI bK (λq aD=>(h q aD).2) k)⟩):P:=h
def asV(h:P:=by exact⟨_,Maps.keyOf_int_mk Tryz.underlying3 aj⟩):P:=h
def asW(h:P:=by exact show¬((i2:Nat):Int)<=((q:Nat):Int) by omega):P:=h
def asX(h:P:=by exact oM U (F aj H ids st _ O h (D.ec (some d) o))):P:=h
def asY(h:P:=by exact U c ad I a st w (.inLoop c::k) ah D hw aa aw):P:=h
def asZ(h:P:=by rwa [<-e]):P:=h
def as0(h:P:=by rw[S];rfl):P:=h
def as1(h:P:=by exact⟨[],dg _,az,(λx O=>by cases O),.inl e9⟩):P:=h
def as2(h:P:=by exact show¬((u:Nat):Int)<=((j:Nat):Int) by omega):P:=h
def as3(h:P:=by exact .refl ad):P:=h
def as4(h:P:=by simpa using aI):P:=h
def as5(h:P:=by show ai.b (!ks c)=_;rw[ah];rfl):P:=h
def as6(h:P:=by first|(simp;done)|(simp;omega)):P:=h
def as7(h:P:=by exact⟨dj,λi x O=>pD _ (hp x) (dp i x O) []⟩):P:=h
def as8(h:P:=by exact show((i2:Nat):Int)<=((q:Nat):Int) by omega):P:=h
def as9(h:P:=by have e:bD call (.ti x aQ af) I st=h1 (I.aq x) (λs=>ft I af (dK s.data.toList) (dK s.data.toList) λh=>ft I aQ 0 h λl=>hX s.data.toList l (h-l) (λbH=>.ok (.string ⟨⟨bH⟩⟩) I st) .no) .no:=rfl;rw[e,(D.aq O),yZ];rw[fi,fT.aq Z D aD,fT.aq fA D hp,y0 aoM]):P:=h
def ata(h:P:=by rw[E]at A;exact(D.mono hle aoN).get j q A):P:=h
def atb(h:P:=by rw[aa]at A;exact(D.mono hle aoN).get j q A):P:=h
def atc(h:P:=by exact⟨b,R,c,ab,el,b1,aW,U,h4,h _ _ A,λi x O=>lM h (ak x) aoN (B i x O)⟩):P:=h
def atd(h:P:=by exact cr (aE:=aoK)):P:=h
def ate(h:P:=by exact⟨rG hle aoN C,λad=>by rw[V.hold b aT az];exact N ad⟩):P:=h
def atf(h:P:=by exact⟨rG hle aoN C,λa'=>by rw[V.hold b aT az];exact N a'⟩):P:=h
def atg(h:P:=by exact⟨rG hle aoN C,λW=>by rw[V.hold b aT az];exact N W⟩):P:=h
def ath(h:P:=by exact⟨rG hle aoN C,λW=>by rw[V.hold b aG aK];exact N W⟩):P:=h
def ati(h:P:=by exact⟨rG hle aoN C,λW=>by rw[D.hold b aT az];exact N W⟩):P:=h
def atj(h:P:=by exact⟨ad,a,w,D,hw,.refl _ _,o,o,.one (step_lone_go aoO)⟩):P:=h
def atk(h:P:=by exact iU hle _ aoN N):P:=h
def atl(h:P:=by rw[V.dZ b arz az];exact O.dZ b aa aj):P:=h
def atm(h:P:=by exact cb (aE:=aoK)):P:=h
end
def au:=@if_neg
def aA:=@if_pos
def ct:=@Nat.le_refl
def cN:=@Nat.le_trans
def c9:=@decide_eq_true
def db:=@List.mem_map
def dg:=@Nat.zero_le
def dk:=@decide_eq_false
def dG:=@List.getElem?_eq_some_iff
def e3:=@List.mem_cons_of_mem
def fg:=@List.mem_cons
def fo:=@Nat.mod_lt
def fP:=@Nat.add_mul
def fQ:=@List.mem_of_getElem?
def fW:=@Nat.lt_or_ge
def fX:=@List.mem_singleton
def gT:=@List.mem_cons_self
def ha:=@List.getElem_mem
def hK:=@Nat.mul_comm
def hV:=@List.length_map
def hZ:=@Nat.pow_succ
def ie:=@List.mem_append
def iQ:=@List.length_cons
def iR:=@Nat.lt_of_le_of_lt
def iZ:=@Nat.mul_le_mul_right
def ja:=@List.all_eq_true
def jm:=@Array.length_toList
def jn:=@Nat.zero_add
def jC:=@Nat.zero_mul
def jD:=@of_decide_eq_true
def j2:=@List.map_cons
def kh:=@Nat.min_eq_left
def ki:=@Nat.mul_add
def kA:=@Nat.beq_refl
def kB:=@Nat.le_succ
def kC:=@List.drop_zero
def kD:=@List.length_take
def k4:=@List.length_append
def k5:=@Nat.pow_le_pow_right
def k6:=@Nat.pow_pos
def lA:=@List.pairwise_iff_getElem
def lW:=@Array.getElem_toList
def lX:=@Nat.mul_assoc
def mo:=@List.getElem_of_mem
def mq:=@List.getElem?_set
def mr:=@Nat.div_le_self
def m4:=@Nat.mul_le_mul_left
def m5:=@List.length_drop
def m6:=@Nat.not_lt_zero
def m7:=@List.length_eq_one_iff
def m8:=@Rat.pow_succ
def nE:=@List.pairwise_cons
def nF:=@List.length_replicate
def nG:=@List.take_length
def nH:=@List.getElem?_set_ne
def nI:=@Nat.lt_succ_self
def nJ:=@Nat.pow_add
def om:=@List.take_succ_eq_append_getElem
def oo:=@List.take_set_of_le
def oq:=@List.map_append
def ot:=@Option.map_eq_some_iff
def ou:=@List.getElem_set_self
def ov:=@Rat.pow_zero
def pe:=@List.getElem?_take
def pf:=@List.ext_getElem?
def pg:=@List.eq_nil_of_length_eq_zero
def ph:=@Nat.mul_one
def pj:=@List.pairwise_map
def pk:=@List.nodup_nil
def pn:=@List.take_of_length_le
def po:=@Nat.mul_le_mul
def pq:=@Nat.mul_pos
def pr:=@Rat.add_zero
def p0:=@Nat.mod_eq_of_lt
def p1:=@Bool.eq_iff_iff
def p2:=@Nat.lt_trichotomy
def p3:=@List.getElem?_drop
def p4:=@Nat.pos_of_ne_zero
def p5:=@List.mem_append_left
def qV:=@List.getElem?_eq_getElem
def qW:=@List.map_map
def qX:=@Option.any_eq_true
def qY:=@List.length_pos_iff
def qZ:=@List.length_set
def q0:=@List.eq_nil_or_concat
def r8:=@Nat.lt_of_lt_of_le
def r9:=@Bool.false_eq_true
def sa:=@Nat.add_zero
def sb:=@Option.bind_eq_some_iff
def sc:=@List.mem_filter
def sd:=@Nat.two_pow_pos
def se:=@List.mem_iff_getElem?
def sf:=@Rat.zero_mul
def ta:=@List.getElem?_append_left
def tb:=@Int.toNat_natCast
def tc:=@List.mem_flatMap
def td:=@List.getElem?_eq_none
def te:=@Nat.one_mul
def tf:=@List.concat_eq_append
def tg:=@Nat.le_of_lt
def th:=@List.drop_eq_nil_of_le
def uJ:=@Nat.le_succ_of_le
def uK:=@Array.getElem?_eq_some_iff
def uL:=@List.getElem_map
def uM:=@Nat.sub_zero
def uN:=@dif_pos
def uO:=@List.drop_drop
def uP:=@List.getElem_inj
def uQ:=@List.nodup_cons
def uR:=@Nat.div_eq_of_lt
def uS:=@Nat.div_add_mod
def uT:=@Nat.mul_ne_zero
def uU:=@Rat.zero_add
def wa:=@Array.getElem?_eq_getElem
def wb:=@List.filter_cons
def wc:=@List.take_append_drop
def we:=@List.getElem?_map
def wg:=@List.mem_of_mem_take
def wh:=@List.getElem?_append_right
def wi:=@List.append_nil
def wj:=@List.map_eq_nil_iff
def wk:=@Nat.pow_lt_pow_iff_right
def wm:=@List.drop_length
def wo:=@Int.sign_eq_zero_iff_zero
def wq:=@Int.natAbs_mul
def wu:=@Nat.add_sub_cancel
def wv:=@List.getD_eq_getElem?_getD
def x2:=@Bool.eq_false_iff
def x3:=@Nat.add_comm
def x4:=@Nat.add_assoc
def x5:=@List.map_toArray
def x6:=@List.map_nil
def x7:=@List.all_cons
def x8:=@Nat.succ_pos
def x9:=@Nat.div_lt_iff_lt_mul
def ya:=@Nat.div_div_eq_div_mul
def yb:=@Nat.pow_mul
def yc:=@Nat.div_one
def yd:=@List.length_reverse
def ye:=@Rat.mkRat_eq_div
def yf:=@Nat.lt_irrefl
def yg:=@Rat.not_lt
def Ak:=@Bool.and_eq_true
def Al:=@Nat.eq_of_beq_eq_true
def Am:=@Option.isSome_iff_exists
def An:=@List.getElem?_toArray
def Ao:=@List.getElem?_cons_zero
def Ap:=@List.mem_of_find?_eq_some
def Aq:=@List.find?_some
def Ar:=@List.filter_eq_self
def As:=@List.ext_getElem
def At:=@Nat.le_mul_of_pos_right
def Au:=@Bool.or_eq_true
def Av:=@eq_of_beq
def Aw:=@List.flatMap_cons
def Ax:=@Nat.sub_self
def Ay:=@List.drop_of_length_le
def Az:=@List.drop_take
def AA:=@List.nodup_append
def AB:=@Nat.lt_succ_of_lt
def AD:=@List.getElem?_set_self
def AE:=@Nat.eq_zero_or_pos
def AF:=@List.mem_reverse
def AG:=@List.reverse_append
def AH:=@beq_eq_false_iff_ne
def AI:=@Nat.dvd_mul_right
def AJ:=@Bool.and_true
def AK:=@Rat.le_refl
def Dp:=@List.drop_eq_getElem_cons
def Dq:=@Nat.ble_eq_true_of_le
def Dr:=@Array.getElem?_push
def Ds:=@List.drop_set_of_lt
def Dt:=@List.map_congr_left
def Du:=@List.getElem?_cons_succ
def Dv:=@List.range_succ_eq_map
def Dw:=@UInt8.toNat_inj
def Dx:=@List.pairwise_append
def Dy:=@Int.natCast_mul
def Dz:=@List.mem_range
def DA:=@List.perm_ext_iff_of_nodup
def DB:=@Nat.le_mul_of_pos_left
def DC:=@BitVec.ofInt_natCast
def DD:=@BitVec.toNat_ofNat
def DE:=@List.take_take
def DF:=@List.drop_left'
def DG:=@Nat.add_eq
def DH:=@Nat.mul_eq
def DI:=@List.pairwise_singleton
def DJ:=@List.filter_sublist
def DK:=@List.exists_mem_of_ne_nil
def DL:=@Nat.div_lt_self
def DM:=@Nat.mod_add_div
def DN:=@Nat.add_mul_mod_self_left
def DO:=@Nat.add_mul_div_left
def DP:=@List.getElem?_replicate
def DQ:=@List.mem_of_mem_drop
def DR:=@Nat.mod_one
def DS:=@List.drop_set
def DT:=@Nat.lt_of_mul_lt_mul_right
def DU:=@Nat.add_le_add_right
def DV:=@Nat.le_div_iff_mul_le
def DW:=@Nat.mul_zero
def DX:=@Nat.div_pos
def DY:=@Rat.mkRat_self
def DZ:=@Rat.add_comm
def D0:=@List.dropWhile_cons
def D1:=@Nat.pow_le_pow_left
def D2:=@List.append_assoc
def D3:=@List.all_append
def D4:=@List.foldl_append
def D5:=@Nat.one_le_two_pow
def D6:=@Nat.ne_of_gt
def D7:=@Rat.num_eq_zero
def D8:=@Rat.add_assoc
def D9:=@Rat.mul_one
def Ea:=@Rat.div_def
def Eb:=@Rat.le_trans
def Ic:=@Array.ext_getElem?
def Ie:=@Array.getElem?_setIfInBounds_ne
def Ig:=@List.getElem_drop
def Ih:=@List.getElem_append_right
def Ii:=@List.find?_cons
def Ij:=@List.range_succ
def Ik:=@Nat.le_add_right
def Il:=@List.take_left'
def Im:=@List.length_nil
def Io:=@UInt8.ofNat_toNat
def Ip:=@List.take_zero
def Iq:=@List.eq_of_mem_replicate
def Ir:=@Nat.mul_lt_mul_of_pos_right
def Is:=@List.isEmpty_eq_false_iff
def It:=@Int.sign_eq_neg_one_of_neg
def Iu:=@Int.sign_eq_one_of_pos
def Iv:=@Rat.sub_eq_add_neg
def Iw:=@Nat.pow_lt_pow_right
def Ix:=@Bool.true_and
def Iy:=@Bool.false_and
def Iz:=@Nat.dvd_mul_left
def IA:=@Rat.num_nonneg
def IB:=@Bool.and_false
def IC:=@Nat.shiftLeft_eq
def Ow:=@Array.mapM_eq_mapM_toList
def Ox:=@Int.eq_ofNat_of_zero_le
def Oy:=@List.mem_or_eq_of_mem_set
def Oz:=@Nat.gcd_pos_of_pos_left
def OA:=@List.length_eq_zero_iff
def OB:=@List.reverse_eq_nil_iff
def OC:=@Array.toList_setIfInBounds
abbrev ac(α:Type u):=List α
abbrev be(α:Type u):=Option α
abbrev bi(α:Type u):=Array α
abbrev bv:=Value
abbrev ce:=Operand
abbrev ci:=UInt8
abbrev d7:=TypeId
abbrev d8:=FuncId
abbrev d9:=World
abbrev f5:=IntKind
abbrev f6:=MapEntry
abbrev f7:=Program
abbrev f8:=ByteArray
abbrev f9:=TypeInfo
variable{n m:Nat}{α:Type u}{i:Nat}{l:ac α}
def ba(h:i<l.length):l[i]? =some l[i]:=qV h
def cQ(a b:Bool):((a&&b)=true)=(a=true/\b=true):=Ak a b
def dy(h:Nat.beq n m=true):n=m:=Al h
def fG{k:Nat}(h:n<m)(g:m<=k):n<k:=r8 h g
def jE(k:Nat)(h:m<=n):m*k<=n*k:=iZ k h
def q1(k:Nat)(h:m<=n):k*m<=k*n:=m4 k h
def hb{a b:Nat}(h:a<b):a%b=a:=p0 h
def c4(n:Nat):n<=n:=ct n
def hL(h:i<l.length):l.drop i=l[i]::l.drop (i+1):=Dp h
def eO(h:n<l.length):l[n]∈l:=ha h
def jb(h:Nat.ble n m=true):n<=m:=Nat.le_of_ble_eq_true h
inductive ar(α:Type)where
 |nil:ar α
 |node (l:ar α) (v:Option α) (r:ar α):ar α
namespace ar
variable{α β:Type}
def get(t:ar α):Nat->be α:=
 ar.rec (motive:=λ_=>Nat->be α) (λ_=>none)
  (λ_ v _ cu aW n=>Nat.rec (motive:=λ_=>be α) v (λm _=>Nat.rec (motive:=λ_=>be α) (cu<|Nat.div m 2) (λ_ _=>aW<|Nat.div m 2)<|Nat.mod m 2) n) t
def jc(f:Nat):ar α->Nat->α->(ar α->β)->β:=
 Nat.rec (motive:=λ_=>ar α->Nat->α->(ar α->β)->β) (λt _ _ k=>k t)
  (λ_ U t n x k=>
   ar.rec (motive:=λ_=>β)
    (Nat.rec (motive:=λ_=>β) (k<|.node .nil (some x) .nil)
     (λm _=>Nat.rec (motive:=λ_=>β) (U .nil (Nat.div m 2) x λE=>k<|.node E none .nil) (λ_ _=>U .nil (Nat.div m 2) x λY=>k<|.node .nil none Y)<|Nat.mod m 2) n)
    (λl v r _ _=>
     Nat.rec (motive:=λ_=>β) (k<|.node l (some x) r)
      (λm _=>Nat.rec (motive:=λ_=>β) (U l (Nat.div m 2) x λE=>k<|.node E v r) (λ_ _=>U r (Nat.div m 2) x λY=>k<|.node l v Y)<|Nat.mod m 2) n) t) f
def set(t:ar α)(n:Nat)(x:α):ar α:=jc (Nat.succ n) t n x id
def OD(v:be α)(r:ar α)(l:ar α):ar α:=
 ar.rec (motive:=λ_=>ar α) (.node .nil v r) (λa b c _ _=>.node (.node a b c) v r) l
def OE(l:ar α)(v:be α)(r:ar α):ar α:=
 ar.rec (motive:=λ_=>ar α) (.node l v .nil) (λa b c _ _=>.node l v<|.node a b c) r
def Ec(U:ar α->Nat->α->ar α)(l:ar α)(v:be α)(r:ar α)(m:Nat)(x:α):ar α:=
 Nat.rec (motive:=λ_=>ar α) (OD v r<|U l (Nat.div m 2) x) (λ_ _=>OE l v<|U r (Nat.div m 2) x)<|Nat.mod m 2
def Ed(U:ar α->Nat->α->ar α)(l:ar α)(v:be α)(r:ar α)(n:Nat)(x:α):ar α:=
 Nat.rec (motive:=λ_=>ar α) (.node l (some x) r) (λm _=>Ec U l v r m x) n
def aag(U:ar α->Nat->α->ar α)(t:ar α)(n:Nat)(x:α):ar α:=
 ar.rec (motive:=λ_=>ar α) (Ed U .nil none .nil n x) (λl v r _ _=>Ed U l v r n x) t
def kE(f:Nat):ar α->Nat->α->ar α:=
 Nat.rec (motive:=λ_=>ar α->Nat->α->ar α) (λt _ _=>t) (λ_ U=>aag U) f
def fin(t:ar α)(k:ar α->β):β:=
 ar.rec (motive:=λ_=>β) (k .nil) (λa b c _ _=>k<|.node a b c) t
end ar
inductive q2 where
 |yh
 |mu
 |ID
 |Ee
 |Ef
 |ptr
 |agg (bd:List (Nat×Nat×Bool×q2))
inductive fR where
 |int (k:IntKind)
 |str
 |arr (k:IntKind) (n:Nat)
inductive uV where
 |look (cn:fR) (zero:Value) (ok:Bool) (m k:Operand)
 |fl (cn:fR) (m k v:Operand)
 |del (cn:fR) (m k:Operand)
 |wx (m:Operand)
 |uW (m:Operand)
 |wy (it:Operand)
 |a4 (s c:Operand)
 |uX (neg:Bool) (n:Nat) (x y:Operand)
 |sg (it:Operand)
 |yi (gt:Bool) (x y:Operand)
 |idxs (g:Nat) (s b:Operand)
 |Eg (x:Operand)
 |Eh (it:Operand)
 |Ei (e:TypeId) (n:Operand)
 |IE (x:Operand)
inductive dm where
 |jF (x:Operand)
 |pick (c a b:Operand)
 |alloc (z:List Value) (elem:TypeId)
 |box (elem:TypeId) (x:Operand)
 |build (z:List Value) (bd:List (Nat×Nat×Operand))
 |q3 (elem:TypeId) (len:Nat) (z:List Value) (bd:List (Nat×Nat×Operand))
 |ix (a:Operand)
 |m9 (n:Nat) (a:Operand)
 |store (n:Nat) (a x:Operand)
 |uY (x:Operand)
 |OF (name:String) (bW:List (Nat×FuncId)) (x:Operand)
 |bin (op:BinOp) (x y:Operand)
 |eqv (neg:Bool) (e:q2) (x y:Operand)
 |un (op:UnOp) (x:Operand)
 |uZ (k:IntKind) (x:Operand)
 |AL (x:Operand)
 |AM (x:Operand)
 |wz (elem:TypeId) (x:Operand)
 |Ej (t:TypeId) (x:Operand)
 |sh (fn:Fn) (first aox:List Operand)
 |p6
 |si (elem:TypeId) (bytes:Nat) (z:List Value) (len cap:Operand)
 |ti (x:Operand) (aQ af:Option Operand)
 |wA (n bw:Nat) (x:Operand) (aQ af hc:Option Operand)
 |ow (bw:Nat) (x:Operand) (aQ af hc:Option Operand)
 |q4 (off:Nat) (x:Operand)
 |p7 (off bw:Nat) (agg:Bool) (x:Operand)
 |sj (n bw:Nat) (x i:Operand)
 |jd (bw:Nat) (x i:Operand)
 |u0 (x i:Operand)
 |IF (n bw:Nat) (agg:Bool) (x i:Operand)
 |Ek (t:TypeId) (zero:Value) (ok:Bool) (x:Operand)
 |sk (x:Operand) (i:Nat)
 |call (f:Operand) (args:List Operand)
 |inv (bW:List (Nat×FuncId)) (x:Operand) (args:List Operand)
 |wB (x:Operand)
 |wC (x:Operand)
 |AN (n:Nat)
 |yj (x:Operand)
 |app (elem:TypeId) (bw bytes:Nat) (s x:Operand)
 |hc (x:Operand) (xs:List Operand)
 |AO (x:Operand) (xs:List Operand)
 |tj (bw:Nat) (d s:Operand)
 |u1
 |p8 (f:Operand) (args:List Operand)
 |ox (x:Operand)
 |El (x:Operand)
 |Em (elem n:Nat) (x:Operand)
 |En (x:Operand)
 |u2 (elem:TypeId) (x n:Operand)
 |lY (s c:Operand)
 |lB (x:Operand)
 |ext (y:uV)
 |refuse
structure bt where
 d:be Tmp
 R:dm
 g:be (Tmp×Bool)
inductive cz where
 |dJ
 |hM (aF:List Tmp)
 |read (back:Nat) (aF:List Tmp)
inductive dz where
 |skip
 |gx (ops:List bt)
 |q5 (ops:List (bt×cz)) (cB:List Nat) (fh:List Tmp) (ms:List Nat)
 |seq (a b:dz)
 |cond (c:Operand) (a b:dz)
 |block (id:Nat) (b:dz)
 |loop (b:dz)
 |u3 (f:Operand) (params:List Tmp) (assign body:dz)
 |exit (id:Nat)
 |scope (b:dz)
 |ret
 |refuse
inductive c6 where
 |norm
 |exit (id:Nat)
 |ret
 |aY (v:Value)
inductive gU where
 |tmp (t:Tmp)
 |cell (a:Tmp) (agg:Bool) (n:Nat)
structure c7 where
 aR:Nat
 res:ac gU
 body:dz
inductive bG where
 |cells (cs:List Value) (elem:TypeId) (b1:Nat×Nat) (aW:Bool)
 |map (es:List MapEntry) (clock:Nat)
 |IG (s:ByteArray) (pos:Nat)
 |nK (m:Option Nat) (since:Nat) (seen:List Nat) (aoy:Nat)
 |loop (st:LoopState) (pending:Option c6) (fn:FuncId) (tmps:ar Value) (params:List Tmp) (assign body:dz) (defers:Nat)
 |j3 (calls:Option (List Deferred))
 |dead
structure ao where
 h:ar bG
 ag:Nat
structure aO where
 t:ar bv
 di:ac Deferred
 aY:be bv
 cU:Bool
 b7:be Nat
def aO.tmp(I:aO)(n:Nat):bv:=
 Option.rec (motive:=λ_=>bv) (.chan<|some 0) (λv=>v)<|I.t.get n
def aO.aq(I:aO)(x:ce):bv:=
 Operand.rec (motive:=λ_=>bv) (λt=>I.tmp t) (λv=>v) (λg=>.pointer<|some ⟨g,0,none⟩) (λf=>.func (.func f) #[] #[]) x
def aO.OG(t:ar bv)(di:ac Deferred)(aY:be bv)(cU:Bool)(b7:be Nat):aO:=
 ar.rec (motive:=λ_=>aO) ⟨.nil,di,aY,cU,b7⟩ (λa b c _ _=>⟨.node a b c,di,aY,cU,b7⟩) t
def aO.Ed(d:Nat)(v:bv)(I:aO):aO:=
 aO.rec (motive:=λ_=>aO) (λt di aY cU b7=>aO.OG (ar.kE (Nat.succ d) t d v) di aY cU b7) I
def aO.put(I:aO)(d:be Tmp)(v:bv):aO:=
 Option.rec (motive:=λ_=>aO) I (λd=>aO.Ed d v I) d
inductive a2 where
 |ok (v:Value) (I:aO) (st:ao)
 |aY (v:Value) (st:ao)
 |no
inductive ev where
 |ret (v:Value) (st:ao) (aah:Bool)
 |aY (v:Value) (st:ao) (aah:Bool)
 |no
section lists
variable{α β:Type}
def Eo(n:Nat):ac α->be (ac α):=
 Nat.rec (motive:=λ_=>ac α->be (ac α)) (λ_=>some [])
  (λ_ U l=>List.rec (motive:=λ_=>be<|ac α) none
   (λx xs _=>Option.rec (motive:=λ_=>be<|ac α) none (λr=>some<|x::r)<|U xs) l) n
def Ep(n:Nat):ac α->ac α:=
 Nat.rec (motive:=λ_=>ac α->ac α) (λl=>l)
  (λ_ U l=>List.rec (motive:=λ_=>ac α) [] (λ_ xs _=>U xs) l) n
def p9(l:ac α):Nat->ac α->(ac α->β)->β->β:=
 List.rec (motive:=λ_=>Nat->ac α->(ac α->β)->β->β) (λ_ K k z=>List.rec (motive:=λ_=>β) (k []) (λ_ _ _=>z) K)
  (λy aS U n K k z=>
   Nat.rec (motive:=λ_=>β)
    (List.rec (motive:=λ_=>β) (k<|y::aS) (λv K _=>U 0 K (λE=>k<|v::E) z) K)
    (λm _=>U m K (λE=>k<|y::E) z) n) l
end lists
variable{β:Type}
def hd(n:Nat)(k:Nat->β):β:=cond (Nat.beq n n) (k n)<|k n
def OH(n:Int)(k:Int->β):β:=
 Int.rec (motive:=λ_=>β) (λm=>hd m λm=>k<|.ofNat m) (λm=>hd m λm=>k<|.negSucc m) n
def ao.iD(st:ao)(R:bG)(k:Nat->ao->β):β:=
 hd st.ag λn=>ar.fin (ar.kE (Nat.succ n) st.h n R) λh=>k n ⟨h,Nat.succ n⟩
def h0(v:bv):ac bv:=v.cells.toList
def tk:bv->Bool
 |.chan (some _)=>true
 |_=>false
def nL:bv->Bool
 |.agg _|.tuple _|.chan (some _)=>false
 |_=>true
def hk(ab:ac bv):Bool:=List.rec (motive:=λ_=>Bool) true (λv _ r=>cond (nL v) r false) ab
mutual
def dE:bv->bv->Bool
 |.bool a,.bool b=>a==b
 |.int k a,.int L b=>decide (k=L)&&a==b
 |.float k a,.float L b=>decide (k=L)&&a==b
 |.complex k a c,.complex L b d=>decide (k=L)&&a==b&&c==d
 |.string a,.string b=>a.data.toList==b.data.toList
 |.pointer a,.pointer b=>a==b
 |.slice a l c,.slice b bq Q=>a==b&&l==bq&&c==Q
 |.map a,.map b=>a==b
 |.chan a,.chan b=>a==b
 |.func f x y,.func g u v=>decide (f=g)&&u4 x u&&u4 y v
 |.nilFunc,.nilFunc=>true
 |.iface t v,.iface u w=>t==u&&dE v w
 |.nilIface,.nilIface=>true
 |.agg a,.agg b=>u4 a b
 |.tuple a,.tuple b=>u4 a b
 |_,_=>false
def u4:bi bv->bi bv->Bool
 |⟨a⟩,⟨b⟩=>ps a b
def ps:ac bv->ac bv->Bool
 |[],[]=>true
 |a::as,b::bH=>dE a b&&ps as bH
 |_,_=>false
end
mutual
theorem pt:∀v:bv,dE v v=true
 |.bool a=>by simp[dE]
 |.int k a=>by simp[dE]
 |.float k a=>by simp[dE]
 |.complex k a c=>by simp[dE]
 |.string a=>by simp[dE]
 |.pointer a=>by simp[dE]
 |.slice a l c=>by simp[dE]
 |.map a=>by simp[dE]
 |.chan a=>by simp[dE]
 |.func f x y=>by simp[dE,Er x,Er y]
 |.nilFunc=>by simp[dE]
 |.iface t v=>by simp[dE,pt v]
 |.nilIface=>by simp[dE]
 |.agg a=>by simp[dE,Er a]
 |.tuple a=>by simp[dE,Er a]
theorem Er:∀v:bi bv,u4 v v=true
 |⟨a⟩=>by simp[u4,OI a]
theorem OI:∀v:ac bv,ps v v=true
 |[]=>by simp[ps]
 |a::as=>by simp[ps,pt a,OI as]
end
mutual
theorem j4:∀v w:bv,dE v w=true->v=w
 |.bool a,w,h=>by cases w<;>simp_all [dE]
 |.int k a,w,h=>by cases w<;>simp_all [dE]
 |.float k a,w,h=>by cases w<;>simp_all [dE]
 |.complex k a c,w,h=>by cases w<;>simp_all [dE]
 |.string a,w,h=>by
  cases w<;>simp_all [dE];rename_i b;cases a;simp_all
 |.pointer a,w,h=>by cases w<;>simp_all [dE]
 |.slice a l c,w,h=>by cases w<;>simp_all [dE]
 |.map a,w,h=>by cases w<;>simp_all [dE]
 |.chan a,w,h=>by cases w<;>simp_all [dE]
 |.func f x y,w,h=>by
  cases w<;>simp[dE]at h;rename_i g u v;simp[h.1.1,Es x u h.1.2,Es y v h.2]
 |.nilFunc,w,h=>by cases w<;>simp_all [dE]
 |.iface t v,w,h=>by
  cases w<;>simp[dE]at h;rename_i u x;simp[h.1,j4 v x h.2]
 |.nilIface,w,h=>by cases w<;>simp_all [dE]
 |.agg a,w,h=>by
  cases w<;>simp[dE]at h;rename_i b;simp[Es a b h]
 |.tuple a,w,h=>by
  cases w<;>simp[dE]at h;rename_i b;simp[Es a b h]
theorem Es:∀v w:bi bv,u4 v w=true->v=w
 |⟨a⟩,⟨b⟩,h=>by simp[u4]at h;simp[AP a b h]
theorem AP:∀v w:ac bv,ps v w=true->v=w
 |[],[],_=>rfl
 |a::as,b::bH,h=>by simp[ps]at h;simp[j4 a b h.1,AP as bH h.2]
 |[],_::_,h=>by simp[ps]at h
 |_::_,[],h=>by simp[ps]at h
end
end Go.bI
namespace Go.bI
def u5(n:Int)(M:Nat):Nat:=
 Int.rec (motive:=λ_=>Nat) (λm=>Nat.mod m M) (λm=>Nat.sub (Nat.sub M 1)<|Nat.mod m M) n
def yk(M:Nat)(n:Int):Int:=.ofNat<|u5 n M
def wD(M H:Nat)(n:Int):Int:=
 hd (u5 n M) λr=>cond (Nat.ble (Nat.succ r) H) (.ofNat r)<|.negSucc<|Nat.sub (Nat.sub M 1) r
def oy(k:f5)(n:Int):Int:=
 IntKind.rec (motive:=λ_=>Int->Int) (wD 256 128) (wD 65536 32768) (wD 4294967296 2147483648) (wD 18446744073709551616 9223372036854775808)
  (yk 256) (yk 65536) (yk 4294967296) (yk 18446744073709551616) k n
def OJ(n:Int)(M:Nat)(h:0<M):(u5 n M:Int)=n%M:=by
 cases n with
 |ofNat m=>rfl
 |negSucc m=>
  show((M-1-m%M:Nat):Int)=_;rw[Int.negSucc_emod _ J];have:m%M<M:=fo _ h;omega
def sl(M:Nat)(n:Int)(h:0<M):yk M n=n%M:=OJ n M h
theorem yl(M H:Nat)(n:Int)(h:0<M):wD M H n=if n%M>=H then n%M-M else n%M:=by
 have e:=OJ n M h;have aT:u5 n M<M:=by have:=Int.emod_lt_of_pos n (show(0:Int)<M by omega);omega
 unfold wD hd;rw[kA];rw[<-e];simp only[cond];by_cases c:u5 n M<H
 .rw[Dq c];rw[au J];rfl
 .have:Nat.ble (Nat.succ<|u5 n M) H=false:=by
   rw[x2];intro V;exact c<|jb V
  grind
def lC(k:f5)(n:Int):oy k n=k.wrap n:=by
 cases k
 all_goals simp[oy,IntKind.wrap,IntKind.bits,IntKind.signed]
 .rw[yl 256 128 n av];simp
 .rw[yl 65536 32768 n av];simp
 .rw[yl 4294967296 2147483648 n av];simp
 .rw[yl 18446744073709551616 9223372036854775808 n av];simp
 .rw[sl 256 n av];rfl
 .rw[sl 65536 n av];rfl
 .rw[sl 4294967296 n av];rfl
 .rw[sl 18446744073709551616 n av];rfl
def wE(m n:Nat):Int:=cond (Nat.ble n m) (.ofNat<|Nat.sub m n)<|.negSucc<|Nat.sub (Nat.sub n m) 1
theorem AQ(m n:Nat):wE m n=(m:Int)-n:=by
 unfold wE;by_cases h:n<=m
 .rw[Dq h];show((m-n:Nat):Int)=_;omega
 .have:Nat.ble n m=false:=by rw[x2];intro V;exact h<|jb V
  grind
def AR(a b:Int):Int:=
 Int.rec (motive:=λ_=>Int)
  (λm=>Int.rec (motive:=λ_=>Int) (λn=>.ofNat<|Nat.add m n) (λn=>wE m<|Nat.succ n) b)
  (λm=>Int.rec (motive:=λ_=>Int) (λn=>wE n<|Nat.succ m) (λn=>.negSucc<|Nat.succ<|Nat.add m n) b) a
def OK(a b:Int):AR a b=a+b:=by
 cases a with
 |ofNat m=>
  cases b with
  |ofNat n=>rfl
  |negSucc n=>simp[AR,AQ];show m-((n+1:Nat):Int)=m+Int.negSucc n;omega
 |negSucc m=>
  cases b with
  |ofNat n=>simp[AR,AQ];show n-((m+1:Nat):Int)=Int.negSucc m+n;omega
  |negSucc n=>rfl
def Et(a:Int):Int:=
 Int.rec (motive:=λ_=>Int) (λm=>wE 0 m) (λm=>.ofNat<|Nat.succ m) a
def IH(a:Int):Et a= -a:=by
 cases a with
 |ofNat m=>simp only[Et,AQ];show(0:Int)-m= -m;omega
 |negSucc m=>rfl
def ym(a b:Int):Int:=
 Int.rec (motive:=λ_=>Int)
  (λm=>Int.rec (motive:=λ_=>Int) (λn=>.ofNat<|Nat.mul m n) (λn=>wE 0<|Nat.mul m<|Nat.succ n) b)
  (λm=>Int.rec (motive:=λ_=>Int) (λn=>wE 0<|Nat.mul (Nat.succ m) n) (λn=>.ofNat<|Nat.mul (Nat.succ m)<|Nat.succ n) b) a
theorem II(a b:Int):ym a b=a*b:=by
 cases a with
 |ofNat m=>
  cases b with
  |ofNat n=>rfl
  |negSucc n=>
   simp[ym,AQ]
   grind
 |negSucc m=>
  cases b with
  |ofNat n=>
   simp[ym,AQ]
   grind
  |negSucc n=>
   simp[ym]
   grind
def mv(a b:Int):Bool:=
 Int.rec (motive:=λ_=>Bool)
  (λm=>Int.rec (motive:=λ_=>Bool) (λn=>Nat.ble m n) (λ_=>false) b)
  (λm=>Int.rec (motive:=λ_=>Bool) (λ_=>true) (λn=>Nat.ble n m) b) a
def qa(a b:Int):mv a b=decide (a<=b):=by
 cases a with
 |ofNat m=>
  cases b with
  |ofNat n=>simp[mv];rw[p1];simp
  |negSucc n=>simp only[mv];simp;omega
 |negSucc m=>
  cases b with
  |ofNat n=>simp only[mv];simp;omega
  |negSucc n=>simp[mv];rw[p1];simp;omega
def sm(a b:Int):Bool:=
 Int.rec (motive:=λ_=>Bool)
  (λm=>Int.rec (motive:=λ_=>Bool) (λn=>Nat.beq m n) (λ_=>false) b)
  (λm=>Int.rec (motive:=λ_=>Bool) (λ_=>false) (λn=>Nat.beq n m) b) a
def AS(a b:Int):sm a b=(a==b):=by
 cases a with
 |ofNat m=>
  cases b with
  |ofNat n=>simp[sm];rw[p1];simp;omega
  |negSucc n=>simp only[sm];simp
 |negSucc m=>
  cases b with
  |ofNat n=>simp only[sm];simp
  |negSucc n=>simp[sm];rw[p1];simp;omega
section
variable{β:Type}
def kj(v:bv)(k:Bool->β)(z:β):β:=
 @Value.rec (λ_=>β) (λ_=>Unit) (λ_=>Unit) (λL=>k L) (λ_ _=>z) (λ_ _=>z) (λ_ _ _=>z) (λ_=>z) (λ_=>z) (λ_ _ _=>z) (λ_=>z) (λ_=>z) (λ_ _ _ _ _=>z) z (λ_ _ _=>z) z (λ_ _=>z) (λ_ _=>z) (λ_ _=>()) () (λ_ _ _ _=>()) v
def gk(v:bv)(k:f5->Int->β)(z:β):β:=
 @Value.rec (λ_=>β) (λ_=>Unit) (λ_=>Unit) (λ_=>z) (λL W=>k L W) (λ_ _=>z) (λ_ _ _=>z) (λ_=>z) (λ_=>z) (λ_ _ _=>z) (λ_=>z) (λ_=>z) (λ_ _ _ _ _=>z) z (λ_ _ _=>z) z (λ_ _=>z) (λ_ _=>z) (λ_ _=>()) () (λ_ _ _ _=>()) v
def h1(v:bv)(k:f8->β)(z:β):β:=
 @Value.rec (λ_=>β) (λ_=>Unit) (λ_=>Unit) (λ_=>z) (λ_ _=>z) (λ_ _=>z) (λ_ _ _=>z) (λL=>k L) (λ_=>z) (λ_ _ _=>z) (λ_=>z) (λ_=>z) (λ_ _ _ _ _=>z) z (λ_ _ _=>z) z (λ_ _=>z) (λ_ _=>z) (λ_ _=>()) () (λ_ _ _ _=>()) v
def hN(v:bv)(k:be Addr->β)(z:β):β:=
 @Value.rec (λ_=>β) (λ_=>Unit) (λ_=>Unit) (λ_=>z) (λ_ _=>z) (λ_ _=>z) (λ_ _ _=>z) (λ_=>z) (λL=>k L) (λ_ _ _=>z) (λ_=>z) (λ_=>z) (λ_ _ _ _ _=>z) z (λ_ _ _=>z) z (λ_ _=>z) (λ_ _=>z) (λ_ _=>()) () (λ_ _ _ _=>()) v
def h2(v:bv)(k:be Addr->Nat->Nat->β)(z:β):β:=
 @Value.rec (λ_=>β) (λ_=>Unit) (λ_=>Unit) (λ_=>z) (λ_ _=>z) (λ_ _=>z) (λ_ _ _=>z) (λ_=>z) (λ_=>z) (λL W h=>k L W h) (λ_=>z) (λ_=>z) (λ_ _ _ _ _=>z) z (λ_ _ _=>z) z (λ_ _=>z) (λ_ _=>z) (λ_ _=>()) () (λ_ _ _ _=>()) v
def yn(v:bv)(k:Fn->bi bv->bi bv->β)(z:β):β:=
 @Value.rec (λ_=>β) (λ_=>Unit) (λ_=>Unit) (λ_=>z) (λ_ _=>z) (λ_ _=>z) (λ_ _ _=>z) (λ_=>z) (λ_=>z) (λ_ _ _=>z) (λ_=>z) (λ_=>z) (λL W h _ _=>k L W h) z (λ_ _ _=>z) z (λ_ _=>z) (λ_ _=>z) (λ_ _=>()) () (λ_ _ _ _=>()) v
def yo(v:bv)(k:d7->bv->β)(z:β):β:=
 @Value.rec (λ_=>β) (λ_=>Unit) (λ_=>Unit) (λ_=>z) (λ_ _=>z) (λ_ _=>z) (λ_ _ _=>z) (λ_=>z) (λ_=>z) (λ_ _ _=>z) (λ_=>z) (λ_=>z) (λ_ _ _ _ _=>z) z (λL W _=>k L W) z (λ_ _=>z) (λ_ _=>z) (λ_ _=>()) () (λ_ _ _ _=>()) v
def sn(v:bv)(k:bi bv->β)(z:β):β:=
 @Value.rec (λ_=>β) (λ_=>Unit) (λ_=>Unit) (λ_=>z) (λ_ _=>z) (λ_ _=>z) (λ_ _ _=>z) (λ_=>z) (λ_=>z) (λ_ _ _=>z) (λ_=>z) (λ_=>z) (λ_ _ _ _ _=>z) z (λ_ _ _=>z) z (λL _=>k L) (λ_ _=>z) (λ_ _=>()) () (λ_ _ _ _=>()) v
def q6(v:bv)(k:bi bv->β)(z:β):β:=
 @Value.rec (λ_=>β) (λ_=>Unit) (λ_=>Unit) (λ_=>z) (λ_ _=>z) (λ_ _=>z) (λ_ _ _=>z) (λ_=>z) (λ_=>z) (λ_ _ _=>z) (λ_=>z) (λ_=>z) (λ_ _ _ _ _=>z) z (λ_ _ _=>z) z (λ_ _=>z) (λL _=>k L) (λ_ _=>()) () (λ_ _ _ _=>()) v
def pv(v:bv)(k:be Nat->β)(z:β):β:=
 @Value.rec (λ_=>β) (λ_=>Unit) (λ_=>Unit) (λ_=>z) (λ_ _=>z) (λ_ _=>z) (λ_ _ _=>z) (λ_=>z) (λ_=>z) (λ_ _ _=>z) (λL=>k L) (λ_=>z) (λ_ _ _ _ _=>z) z (λ_ _ _=>z) z (λ_ _=>z) (λ_ _=>z) (λ_ _=>()) () (λ_ _ _ _=>()) v
end
def so{β:Type}(v:bv)(a z:β):β:=match v with|.chan none=>a|_=>z
def jG:bv:=.chan<|some 0
abbrev bR:=bv->ac bv->be bv->ao->ev
section elim
variable{α β:Type}
def bx(R:be α)(k:α->β)(z:β):β:=Option.rec (motive:=λ_=>β) z k R
def eB(a b:Nat)(x y:β):β:=cond (Nat.ble a b) x y
def dL(a b:Nat)(x y:β):β:=cond (Nat.beq a b) x y
def hW(n:Int)(k:Nat->β)(z:β):β:=Int.rec (motive:=λ_=>β) k (λ_=>z) n
def dK(l:ac α):Nat:=List.rec (motive:=λ_=>Nat) 0 (λ_ _ n=>Nat.succ n) l
def e8(l m:ac α):ac α:=List.rec (motive:=λ_=>ac α) m (λx _ r=>x::r) l
def hX(l:ac α)(N n:Nat)(k:ac α->β)(z:β):β:=bx (Eo n<|Ep N l) k z
def one(l:ac α)(k:α->β)(z:β):β:=
 List.rec (motive:=λ_=>β) z (λx xs _=>List.rec (motive:=λ_=>β) (k x) (λ_ _ _=>z) xs) l
end elim
variable{β:Type}
def iE(k:f5)(n:Int)(c:bv->β):β:=OH n λm=>c<|.int k m
def j5(a b:f5):Bool:=Nat.beq a.ctorIdx b.ctorIdx
def Eu(f:Nat->Nat->Nat)(g:Int)(k:f5)(a b:Int)(c:bv->a2):a2:=
 hW a (λm=>hW b (λn=>iE k (oy k<|.ofNat<|f (u5 (.ofNat m)<|2^k.bits)<|u5 (.ofNat n)<|2^k.bits) c)<|iE k g c)<|iE k g c
def OL(k:f5)(a b:Int)(c:bv->a2):a2:=iE k (oy k<|AR a b) c
def OM(k:f5)(a b:Int)(c:bv->a2):a2:=iE k (oy k<|AR a<|Et b) c
def ON(k:f5)(a b:Int)(c:bv->a2):a2:=iE k (oy k<|ym a b) c
def OO(k:f5)(a b:Int)(c:bv->a2):a2:=cond (sm b 0) .no<|hW a (λm=>hW b (λn=>iE k (oy k<|.ofNat<|Nat.div m n) c)<|iE k (k.wrap<|a.tdiv b) c)<|iE k (k.wrap<|a.tdiv b) c
def OP(k:f5)(a b:Int)(c:bv->a2):a2:=cond (sm b 0) .no<|hW a (λm=>hW b (λn=>iE k (.ofNat<|Nat.mod m n) c)<|iE k (a.tmod b) c)<|iE k (a.tmod b) c
def aai(k:f5)(a b:Int)(c:bv->a2):a2:=Eu Nat.land (k.wrap (BitVec.ofInt k.bits a&&&BitVec.ofInt k.bits b).toNat) k a b c
def aaj(k:f5)(a b:Int)(c:bv->a2):a2:=Eu Nat.lor (k.wrap (BitVec.ofInt k.bits a|||BitVec.ofInt k.bits b).toNat) k a b c
def aak(k:f5)(a b:Int)(c:bv->a2):a2:=Eu Nat.xor (k.wrap (BitVec.ofInt k.bits a^^^BitVec.ofInt k.bits b).toNat) k a b c
def aal(k:f5)(a b:Int)(c:bv->a2):a2:=iE k (k.wrap (BitVec.ofInt k.bits a&&& ~~~(BitVec.ofInt k.bits b)).toNat) c
def OQ(o:f5)(a b:Int)(c:bv->a2):a2:=c<|.bool<|sm a b
def OR(o:f5)(a b:Int)(c:bv->a2):a2:=c<|.bool<|!sm a b
def OS(o:f5)(a b:Int)(c:bv->a2):a2:=c<|.bool<|!mv b a
def OT(o:f5)(a b:Int)(c:bv->a2):a2:=c<|.bool<|mv a b
def OU(o:f5)(a b:Int)(c:bv->a2):a2:=c<|.bool<|!mv a b
def OV(o:f5)(a b:Int)(c:bv->a2):a2:=c<|.bool<|mv b a
def IJ(o:f5)(J Q:Int)(S:bv->a2):a2:=.no
def AT(op:BinOp)(k:f5)(a b:Int)(c:bv->a2):a2:=
 BinOp.rec (motive:=λ_=>f5->Int->Int->(bv->a2)->a2) OL OM ON OO OP aai aaj aak IJ IJ aal OQ OR OS OT OU OV op k a b c
def AU(op:BinOp)(x y:f8)(c:bv->a2):a2:=
 match op with
 |.add=>eB (Nat.add (dK x.data.toList)<|dK y.data.toList) (2^40) (c<|.string ⟨⟨e8 x.data.toList y.data.toList⟩⟩) .no
 |.eql=>c (.bool<|x.data.toList==y.data.toList)
 |.neq=>c (.bool<|!(x.data.toList==y.data.toList))
 |_=>.no
def yp(k:f5)(a:Int)(n:Nat):Int:=oy k<|ym a<|.ofNat<|Nat.pow 2<|min n k.bits
def wF(k:f5)(a:Int)(n:Nat):Int:=
 hW a (λm=>.ofNat<|Nat.div m<|Nat.pow 2<|min n k.bits)<|a.fdiv<|2^(min n k.bits)
def aam(o:BinOp)(k:f5)(a:Int)(Q:f5)(b:Int)(c:bv->a2):a2:=hW b (λn=>iE k (yp k a n) c) .no
def aan(o:BinOp)(k:f5)(a:Int)(Q:f5)(b:Int)(c:bv->a2):a2:=hW b (λn=>iE k (wF k a n) c) .no
def nM(op:BinOp)(k:f5)(a:Int)(o:f5)(b:Int)(c:bv->a2):a2:=cond (j5 k o) (AT op k a b c) .no
def AV(op:BinOp)(k:f5)(a:Int)(o:f5)(b:Int)(c:bv->a2):a2:=
 BinOp.rec (motive:=λ_=>BinOp->f5->Int->f5->Int->(bv->a2)->a2) nM nM nM nM nM nM nM nM aam aan nM nM nM nM nM nM nM op op k a o b c
def AW(op:BinOp)(x y:bv)(c:bv->a2):a2:=
 gk x (λk a=>gk y (λo b=>AV op k a o b c) .no)
 (h1 x (λa=>h1 y (λb=>AU op a b c) .no) .no)
def wG(N bw:Nat)(agg:Bool)(cs:ac bv):be bv:=
 hX cs N bw (λK=>cond agg (some<|.agg ⟨K⟩)<|one K (λv=>some v) none) none
def sq:bv->bv->be Bool
 |.slice none _ _,.slice b _ _=>some b.isNone
 |.slice (some _) _ _,.slice none _ _=>some false
 |.chan none,.slice none _ _=>some false
 |_,_=>none
def OW:bv->bv->be Bool
 |.map none,.map b=>some b.isNone
 |.map (some _),.map none=>some false
 |_,_=>none
def IK:bv->bv->be Bool
 |.nilFunc,.nilFunc=>some true
 |.nilFunc,.func _ _ _=>some false
 |.func _ _ _,.nilFunc=>some false
 |_,_=>none
def OX:bv->bv->be Bool
 |.nilIface,.nilIface=>some true
 |.nilIface,.iface _ _=>some false
 |.iface _ _,.nilIface=>some false
 |_,_=>none
def wH:bv->bv->be Bool
 |.pointer none,.pointer b=>some b.isNone
 |.pointer (some _),.pointer none=>some false
 |.pointer (some a),.pointer (some b)=>if a.block=b.block/\a.spot=none/\b.spot=none then some (a.off==b.off)else none
 |_,_=>none
def AX:bv->bv->be Bool
 |.bool a,.bool b=>some (a==b)
 |.int k a,.int L b=>if k=L then some (a==b)else none
 |.string a,.string b=>some (a.data.toList==b.data.toList)
 |_,_=>none
def kk:Nat->q2->bv->bv->be Bool
 |_,.yh,x,y=>AX x y
 |_,.mu,x,y=>sq x y
 |_,.ID,x,y=>OW x y
 |_,.Ee,x,y=>IK x y
 |_,.Ef,x,y=>OX x y
 |_,.ptr,x,y=>wH x y
 |0,.agg _,_,_=>none
 |n+1,.agg bd,.agg xs,.agg aS=>OY n xs.toList aS.toList bd
 |_,.agg _,_,_=>none
 where
 OY (n:Nat) (xs aS:ac bv):ac (Nat×Nat×Bool×q2)->be Bool
  |[]=>some true
  |(off,bw,J,e)::rest=>
   match wG off bw J xs,wG off bw J aS with
   |some x,some y=>
    match kk n e x y with
    |some true=>OY n xs aS rest
    |r=>r
   |_,_=>none
def yq(op:UnOp)(x:bv)(c:bv->a2):a2:=
 match op with
 |.neg=>gk x (λk n=>iE k (oy k<|Et n) c) .no
 |.xor=>gk x (λk n=>iE k (k.wrap (BitVec.ofInt k.bits (if k.signed then -1 else k.max)^^^BitVec.ofInt k.bits n).toNat) c) .no
 |.not=>kj x (λb=>c<|.bool<|!b) .no
 |_=>.no
def oz(I:aO)(bd:ac (Nat×Nat×ce)):ac bv->(ac bv->a2)->a2:=
 List.rec (motive:=λ_=>ac bv->(ac bv->a2)->a2) (λcs c=>c cs)
  (λp _ U cs c=>
   (λv=>cond (tk v) .no<|(λK=>dL (dK K) p.2.1 (eB (Nat.add p.1 p.2.1) (dK cs) (p9 cs p.1 K (λg=>U g c) .no) .no) .no)<|h0 v)<|I.aq p.2.2) bd
def bytesOf(ab:ac bv):be (ac ci):=
 List.rec (motive:=λ_=>be<|ac ci) (some [])
  (λv _ r=>gk v (λk n=>cond (j5 k .u8) (bx r (λbH=>some<|UInt8.ofNat n.toNat::bH) none) none) none) ab
def nN(bH:ac ci):ac bv:=
 List.rec (motive:=λ_=>ac bv) [] (λb _ r=>Value.int .u8 (.ofNat b.toNat)::r) bH
def ft(I:aO)(x:be ce)(wI y:Nat)(k:Nat->a2):a2:=
 bx x (λx=>gk (I.aq x) (λ_ n=>hW n (λn=>eB n y (k n) .no) .no) .no)<|k wI
def yr(R:be bG)(k:ac bv->d7->Nat×Nat->Bool->β)(z:β):β:=
 bx R (λR=>bG.rec (motive:=λ_=>β) k (λ_ _=>z) (λ_ _=>z) (λ_ _ _ _=>z) (λ_ _ _ _ _ _ _ _=>z) (λ_=>z) z R) z
def ao.gy(st:ao)(a:Addr)(k:ac bv->d7->Nat×Nat->Bool->β)(z:β):β:=
 bx a.spot (λ_=>z)<|yr (st.h.get a.block) k z
def ao.load(st:ao)(a:Addr)(n:Nat)(k:ac bv->β)(z:β):β:=
 st.gy a (λcs _ _ _=>hX cs a.off n k z) z
def ao.hf(st:ao)(id:Nat)(R:bG)(k:ao->β):β:=
 ar.fin (ar.kE (Nat.succ id) st.h id R) λh=>k ⟨h,st.ag⟩
def ao.store(st:ao)(a:Addr)(ab:ac bv)(k:ao->β)(z:β):β:=
 st.gy a (λcs elem b1 aW=>eB b1.2 b1.1 (p9 cs a.off ab (λg=>st.hf a.block (.cells g elem b1 aW) k) z) z) z
def j6(I:aO)(st:ao)(elem:d7)(bw Q:Nat)(base:be Addr)(len cap:Nat)(n:Nat)(new:ac bv):a2:=
 (λh=>
  eB (Nat.mul (Nat.add (Nat.mul 5 h) 1792)<|Nat.succ Q) (2^50)
   (bx base
    (λa=>st.gy a (λcs el b1 aW=>
     eB b1.2 b1.1 (eB len cap (eB (Nat.add a.off<|Nat.mul cap bw) (dK cs) (dL el elem
      (dL n 0 (.ok (.slice (some a) len cap) I st)
       (cond aW
        (hX cs a.off (Nat.mul len bw) (λhO=>st.hf a.block .dead λst=>st.iD (.cells (e8 hO new) elem (0,0) true) λid st=>.ok (.slice (some ⟨id,0,none⟩) h h) I st) .no)
        (eB h cap
         (p9 cs (Nat.add a.off<|Nat.mul len bw) new (λg=>st.hf a.block (.cells g el b1 false) λst=>.ok (.slice (some a) h cap) I st) .no)
         (hX cs a.off (Nat.mul len bw) (λhO=>st.iD (.cells (e8 hO new) elem (0,0) true) λid st=>.ok (.slice (some ⟨id,0,none⟩) h h) I st) .no))))
      .no) .no) .no) .no) .no)
    (dL len 0 (dL cap 0
     (dL n 0 (.ok (.slice none 0 0) I st)
      (st.iD (.cells new elem (0,0) true) λid st=>.ok (.slice (some ⟨id,0,none⟩) h h) I st))
     .no) .no))
   .no)<|Nat.add len n
def AY(k:f5)(I:aO)(xs:ac ce):Int->be Int:=
 List.rec (motive:=λ_=>Int->be Int) (λm=>some m)
  (λx _ U m=>gk (I.aq x) (λL y=>cond (j5 k L) (U<|cond (mv y m) m y) none) none) xs
def AZ(k:f5)(I:aO)(xs:ac ce):Int->be Int:=
 List.rec (motive:=λ_=>Int->be Int) (λm=>some m)
  (λx _ U m=>gk (I.aq x) (λL y=>cond (j5 k L) (U<|cond (mv m y) m y) none) none) xs
def dt(I:aO)(xs:ac ce):ac bv:=
 List.rec (motive:=λ_=>ac bv) [] (λx _ r=>I.aq x::r) xs
def q7(z:ac bv)(n:Nat):ac bv:=
 Nat.rec (motive:=λ_=>ac bv) [] (λ_ r=>e8 z r) n
def wJ(k:f5)(n:Int):Bool:=mv k.min n&&mv n k.max
def fR.ok(cn:fR)(v:bv):Bool:=
 match cn with
 |.int k=>gk v (λL n=>j5 k L&&wJ k n) false
 |.str=>h1 v (λs=>Nat.ble (dK s.data.toList)<|2^40) false
 |.arr k n=>sn v (λxs=>Nat.beq (dK xs.toList) n&&xs.toList.all λx=>gk x (λL m=>j5 k L&&wJ k m) false) false
def jH(R:be bG)(k:ac f6->Nat->β)(z:β):β:=
 bx R (λR=>bG.rec (motive:=λ_=>β) (λ_ _ _ _=>z) k (λ_ _=>z) (λ_ _ _ _=>z) (λ_ _ _ _ _ _ _ _=>z) (λ_=>z) z R) z
def A0(R:be bG)(k:be Nat->Nat->ac Nat->Nat->β)(z:β):β:=
 bx R (λR=>bG.rec (motive:=λ_=>β) (λ_ _ _ _=>z) (λ_ _=>z) (λ_ _=>z) k (λ_ _ _ _ _ _ _ _=>z) (λ_=>z) z R) z
def lD(cn:fR)(es:ac f6):Bool:=es.all λe=>cn.ok e.key
def iy(k:bv)(es:ac f6):be f6:=es.find? λe=>dE k e.key
def wK(k v:bv)(es:ac f6):ac f6:=es.map λe=>cond (dE k e.key) ⟨e.key,v,e.born⟩ e
def q8(k:bv)(es:ac f6):ac f6:=es.filter λe=> !dE k e.key
def OZ:bv->bv->be Bool
 |.int k a,.int L b=>if k=L then some (a==b)else none
 |_,_=>none
def Ev:bv->bv->be Bool
 |.string a,.string b=>some (a.data.toList==b.data.toList)
 |_,_=>none
def O0(i:Nat)(x y:bv):be Bool:=match i with
 |0=>Ev x y
 |_=>OZ x y
def q9:Nat->ac bv->ac bv->be Bool
 |_,[],[]=>some true
 |i,x::xs,y::aS=>bx (O0 i x y) (λb=>cond b (q9 (i-1) xs aS)<|bx (q9 (i-1) xs aS) (λ_=>some false) none) none
 |_,_,_=>none
def A1(n:Nat):bv->be Bool
 |.chan (some c)=>if c%2=0 then(if 2<=c/\n<=(c-2)/2 then some true else none)else(if 3<=c/\(c-3)/2<=n then some false else none)
 |_=>none
def O1(n:Nat)(c:bv):Bool:=match A1 n c with|some true=>true|_=>false
def u6:ac ci->ac ci->Bool
 |[],_=>true
 |a::as,b::bH=>a==b&&u6 as bH
 |_::_,[]=>false
def qb(b:ac ci):ac ci->be Nat
 |[]=>if b.isEmpty then some 0 else none
 |x::xs=>if u6 b (x::xs)then some 0 else(qb b xs).map (· +1)
def Ew(l:ac Nat):be Nat:=l.getLast?
def IL(I:aO)(st:ao)(y:uV):a2:=
 match y with
 |.look cn z ok m k=>(λkey=>cond (cn.ok key)
  (pv (I.aq m) (λr=>bx r (λid=>jH (st.h.get id) (λes _=>cond (lD cn es) (bx (iy key es) (λe=>.ok (cond ok (.tuple #[e.val,.bool true]) e.val) I st)<|.ok (cond ok (.tuple #[z,.bool false]) z) I st) .no) .no)
   (.ok (cond ok (.tuple #[z,.bool false]) z) I st)) .no) .no) (I.aq k)
 |.fl cn m k v=>(λkey=>cond (cn.ok key)
  (pv (I.aq m) (λr=>bx r (λid=>jH (st.h.get id) (λes clock=>cond (lD cn es)
   (bx (iy key es) (λ_=>st.hf id (.map (wK key (I.aq v) es) clock) λst=>.ok undef I st)
    (st.hf id (.map (es++[⟨key,I.aq v,clock⟩])<|Nat.succ clock) λst=>.ok undef I st)) .no) .no) .no) .no) .no) (I.aq k)
 |.del cn m k=>(λkey=>cond (cn.ok key)
  (pv (I.aq m) (λr=>bx r (λid=>jH (st.h.get id) (λes clock=>cond (lD cn es) (st.hf id (.map (q8 key es) clock) λst=>.ok undef I st) .no) .no) .no) .no) .no) (I.aq k)
 |.wx m=>pv (I.aq m) (λr=>bx r (λid=>jH (st.h.get id) (λes _=>hd (dK es) λn=>.ok (.int .i64<|.ofNat n) I st) .no)<|.ok (.int .i64 0) I st) .no
 |.uW m=>pv (I.aq m) (λr=>bx r (λid=>jH (st.h.get id) (λ_ clock=>st.iD (.nK (some id) clock [] clock) λid st=>.ok (.pointer<|some ⟨id,0,none⟩) I st) .no)
  (st.iD (.nK none 0 [] 0) λid st=>.ok (.pointer<|some ⟨id,0,none⟩) I st)) .no
 |.wy G=>hN (I.aq G) (λp=>bx p (λa=>bx a.spot (λ_=>.no) (dL a.off 0 (A0 (st.h.get a.block) (λm _ A S=>
  bx m (λid=>bx (Ew A) (λs=>jH (st.h.get id) (λes clock=>dL clock S (eB (Nat.succ s) clock (bx (es.find? λe=>Nat.beq e.born s) (λe=>.ok (.tuple #[e.key,e.val]) I st) .no) .no) .no) .no) .no) .no) .no) .no)) .no) .no
 |.a4 s c=>h1 (I.aq s) (λs=>gk (I.aq c) (λk c=>cond (j5 k .u8) (hW c (λc=>.ok (.int .i64<|.ofNat<|s.data.toList.countP λb=>b==UInt8.ofNat c) I st) .no) .no) .no) .no
 |.uX neg n x y=>sn (I.aq x) (λxs=>sn (I.aq y) (λaS=>dL (dK xs.toList) (Nat.add (Nat.mod n 100)<|Nat.div n 100) (dL (dK aS.toList) (Nat.add (Nat.mod n 100)<|Nat.div n 100) (bx (q9 (Nat.mod n 100) xs.toList aS.toList) (λb=>.ok (.bool<|cond neg (!b) b) I st) .no) .no) .no) .no) .no
 |.sg _=>.no
 |.yi gt x y=>gk (I.aq x) (λk n=>cond (j5 k .i64) (hW n (λn=>bx (A1 n<|I.aq y) (λb=>.ok (.bool<|cond gt (!b) b) I st) .no) .no) .no) .no
 |.idxs g s b=>h1 (I.aq s) (λs=>h1 (I.aq b) (λb=>yr (st.h.get g) (λcs _ _ aW=>cond aW .no (one cs (λc=>cond (O1 (dK b.data.toList) c) (eB 2 (dK b.data.toList) (eB (dK s.data.toList) 1000000
  (.ok (.int .i64<|bx (qb b.data.toList s.data.toList) (λi=>.ofNat i)<|.negSucc 0) I st) .no) .no) .no) .no)) .no) .no) .no
 |.Eg _=>.no
 |.Eh _=>.no
 |.Ei _ _=>.no
 |.IE _=>.no
def sr(c:ci)(l:ac ci):be Nat:=
 List.rec (motive:=λ_=>be Nat) none (λb _ r=>cond (Nat.beq b.toNat c.toNat) (some 0)<|bx r (λi=>some<|Nat.succ i) none) l
def aao(x:ce)(o:bR)(I:aO)(st:ao):a2:=
 .ok (I.aq x) I st
def aap(c:ce)(a:ce)(b:ce)(o:bR)(I:aO)(st:ao):a2:=
 kj (I.aq c) (λt=>.ok (cond t (I.aq a)<|I.aq b) I st) .no
def ys(z:ac bv)(elem:d7)(o:bR)(I:aO)(st:ao):a2:=
 st.iD (.cells z elem (0,0) false) λid st=>.ok (.pointer<|some ⟨id,0,none⟩) I st
def IM(elem:d7)(x:ce)(o:bR)(I:aO)(st:ao):a2:=
 (λv=>cond (tk v) .no<|st.iD (.cells (h0 v) elem (0,0) false) λid st=>.ok (.pointer<|some ⟨id,0,none⟩) I st)<|I.aq x
def aaq(z:ac bv)(bd:ac (Nat×Nat×ce))(o:bR)(I:aO)(st:ao):a2:=
 oz I bd z λcs=>.ok (.agg ⟨cs⟩) I st
def A2(elem:d7)(len:Nat)(z:ac bv)(bd:ac (Nat×Nat×ce))(o:bR)(I:aO)(st:ao):a2:=
 oz I bd z λcs=>st.iD (.cells cs elem (0,0) false) λid st=>.ok (.slice (some ⟨id,0,none⟩) len len) I st
def aar(a:ce)(o:bR)(I:aO)(st:ao):a2:=
 hN (I.aq a) (λp=>bx p (λa=>st.load a 1 (λK=>one K (λv=>.ok v I st) .no) .no) .no) .no
def aas(n:Nat)(a:ce)(o:bR)(I:aO)(st:ao):a2:=
 hN (I.aq a) (λp=>bx p (λa=>st.load a n (λK=>.ok (.agg ⟨K⟩) I st) .no) .no) .no
def aat(n:Nat)(a:ce)(x:ce)(o:bR)(I:aO)(st:ao):a2:=
 hN (I.aq a) (λp=>bx p (λa=>(λK=>dL (dK K) n (cond (hk K) (st.store a K (λst=>.ok undef I st) .no) .no) .no)<|h0<|I.aq x) .no) .no
def IN(x:ce)(o:bR)(I:aO)(st:ao):a2:=
 hN (I.aq x) (λp=>bx p (λa=>.ok (.pointer<|some a) I st) .no)<|yn (I.aq x) (λf a b=>match f with|.func g=>.ok (.func (.func g) a b) I st|_=>.no) .no
def aau(E:String)(F:ac (Nat×d8))(J:ce)(o:bR)(Q:aO)(S:ao):a2:=
 .no
def aav(op:BinOp)(x:ce)(y:ce)(o:bR)(I:aO)(st:ao):a2:=
 AW op (I.aq x) (I.aq y) λv=>.ok v I st
def aaw(neg:Bool)(e:q2)(x:ce)(y:ce)(o:bR)(I:aO)(st:ao):a2:=
 bx (kk 8 e (I.aq x)<|I.aq y) (λb=>.ok (.bool<|cond neg (!b) b) I st) .no
def aax(op:UnOp)(x:ce)(o:bR)(I:aO)(st:ao):a2:=
 yq op (I.aq x) λv=>.ok v I st
def aay(k:f5)(x:ce)(o:bR)(I:aO)(st:ao):a2:=
 gk (I.aq x) (λ_ n=>iE k (oy k n) λv=>.ok v I st) .no
def aaz(x:ce)(o:bR)(I:aO)(st:ao):a2:=
 h1 (I.aq x) (λs=>.ok (.string s) I st) .no
def IP(x:ce)(o:bR)(I:aO)(st:ao):a2:=
 h2 (I.aq x) (λa n _=>bx a (λa=>st.load a n (λK=>bx (bytesOf K) (λbH=>.ok (.string ⟨⟨bH⟩⟩) I st) .no) .no)<|.ok (.string ⟨⟨[]⟩⟩) I st) .no
def IQ(elem:d7)(x:ce)(o:bR)(I:aO)(st:ao):a2:=
 h1 (I.aq x) (λs=>(λn=>eB n (2^40) (st.iD (.cells (nN s.data.toList) elem (0,0) true) λid st=>.ok (.slice (some ⟨id,0,none⟩) n n) I st) .no)<|dK s.data.toList) .no
def aaA(t:d7)(x:ce)(o:bR)(I:aO)(st:ao):a2:=
 .ok (.iface t<|I.aq x) I st
def aaB(fn:Fn)(first:ac ce)(S:ac ce)(o:bR)(I:aO)(st:ao):a2:=
 .ok (.func fn ⟨dt I first⟩ ⟨dt I S⟩) I st
def wL(o:bR)(I:aO)(st:ao):a2:=
 st.iD (.map [] 0) λid st=>.ok (.map<|some id) I st
def A3(elem:d7)(Q:Nat)(z:ac bv)(len:ce)(cap:ce)(o:bR)(I:aO)(st:ao):a2:=
 gk (I.aq len) (λ_ l=>gk (I.aq cap) (λ_ c=>hW l (λl=>hW c (λc=>eB l c (eB (Nat.mul c<|Nat.succ Q) (2^40) (st.iD (.cells (q7 z c) elem (0,0) false) λid st=>.ok (.slice (some ⟨id,0,none⟩) l c) I st) .no) .no) .no) .no) .no) .no
def aaC(x:ce)(aQ:be ce)(af:be ce)(o:bR)(I:aO)(st:ao):a2:=
 h1 (I.aq x) (λs=>(λn=>ft I af n n λh=>ft I aQ 0 h λl=>hX s.data.toList l (Nat.sub h l) (λbH=>.ok (.string ⟨⟨bH⟩⟩) I st) .no)<|dK s.data.toList) .no
def tl(n:Nat)(bw:Nat)(x:ce)(aQ:be ce)(af:be ce)(hc:be ce)(o:bR)(I:aO)(st:ao):a2:=
 hN (I.aq x) (λp=>bx p (λa=>st.gy a (λ_ _ _ aW=>cond aW .no<|ft I hc n n λm=>ft I af n m λh=>ft I aQ 0 h λl=>.ok (.slice (some<|dL m l a<|a.add<|Nat.mul l bw) (Nat.sub h l)<|Nat.sub m l) I st) .no) .no) .no
def O2(bw:Nat)(x:ce)(aQ:be ce)(af:be ce)(hc:be ce)(o:bR)(I:aO)(st:ao):a2:=
 h2 (I.aq x) (λb len cap=>bx b (λa=>st.gy a (λ_ _ _ aW=>cond aW (bx hc (λ_=>.no)<|eB len cap (ft I af len len λh=>ft I aQ 0 h λl=>.ok (.slice (some<|a.add<|Nat.mul l bw) (Nat.sub h l)<|Nat.sub cap l) I st) .no)<|ft I hc cap cap λm=>ft I af len m λh=>ft I aQ 0 h λl=>.ok (.slice (some<|dL m l a<|a.add<|Nat.mul l bw) (Nat.sub h l)<|Nat.sub m l) I st) .no)<|ft I hc cap cap λm=>ft I af len m λh=>ft I aQ 0 h λl=>.ok (.slice none (Nat.sub h l)<|Nat.sub m l) I st) .no
def aaD(N:Nat)(x:ce)(o:bR)(I:aO)(st:ao):a2:=
 hN (I.aq x) (λp=>bx p (λa=>.ok (.pointer<|some<|a.add N) I st) .no) .no
def aaE(N:Nat)(bw:Nat)(agg:Bool)(x:ce)(o:bR)(I:aO)(st:ao):a2:=
 sn (I.aq x) (λcs=>bx (wG N bw agg cs.toList) (λv=>.ok v I st) .no) .no
def tm(n:Nat)(bw:Nat)(x:ce)(i:ce)(o:bR)(I:aO)(st:ao):a2:=
 hN (I.aq x) (λp=>bx p (λa=>gk (I.aq i) (λ_ j=>hW j (λj=>eB (Nat.succ j) n (.ok (.pointer<|some<|a.add<|Nat.mul j bw) I st) .no) .no) .no) .no) .no
def aaF(bw:Nat)(x:ce)(i:ce)(o:bR)(I:aO)(st:ao):a2:=
 h2 (I.aq x) (λb len _=>bx b (λa=>gk (I.aq i) (λ_ j=>hW j (λj=>eB (Nat.succ j) len (.ok (.pointer<|some<|a.add<|Nat.mul j bw) I st) .no) .no) .no) .no) .no
def aaG(x:ce)(i:ce)(o:bR)(I:aO)(st:ao):a2:=
 h1 (I.aq x) (λs=>gk (I.aq i) (λ_ j=>hW j (λj=>hX s.data.toList j 1 (λbH=>one bH (λb=>.ok (.int .u8<|.ofNat b.toNat) I st) .no) .no) .no) .no) .no
def aaH(n:Nat)(bw:Nat)(agg:Bool)(x:ce)(i:ce)(o:bR)(I:aO)(st:ao):a2:=
 sn (I.aq x) (λcs=>gk (I.aq i) (λ_ j=>hW j (λj=>eB (Nat.succ j) n (bx (wG (Nat.mul j bw) bw agg cs.toList) (λv=>.ok v I st) .no) .no) .no) .no) .no
def IS(t:d7)(zero:bv)(ok:Bool)(x:ce)(o:bR)(I:aO)(st:ao):a2:=
 yo (I.aq x) (λu v=>dL u t (.ok (cond ok (.tuple #[v,.bool true]) v) I st)<|cond ok (.ok (.tuple #[zero,.bool false]) I st) .no) (match I.aq x with|.nilIface=>cond ok (.ok (.tuple #[zero,.bool false]) I st) .no|_=>.no)
def aaI(x:ce)(i:Nat)(o:bR)(I:aO)(st:ao):a2:=
 q6 (I.aq x) (λK=>hX K.toList i 1 (λl=>one l (λv=>.ok v I st) .no) .no) .no
def aaJ(f:ce)(args:ac ce)(call:bR)(I:aO)(st:ao):a2:=
 ev.rec (motive:=λ_=>a2) (λv st _=>.ok v I st) (λv st _=>.aY v st) .no<|call (I.aq f) (dt I args) none st
def aaK(F:ac (Nat×d8))(J:ce)(E:ac ce)(o:bR)(Q:aO)(S:ao):a2:=
 .no
def IT(x:ce)(o:bR)(I:aO)(st:ao):a2:=
 h2 (I.aq x) (λ_ n _=>.ok (.int .i64<|.ofNat n) I st)<|so (I.aq x) (.ok (.int .i64<|.ofNat 0) I st) .no
def aaL(x:ce)(o:bR)(I:aO)(st:ao):a2:=
 h1 (I.aq x) (λs=>hd (dK s.data.toList) λn=>.ok (.int .i64<|.ofNat n) I st) .no
def aaM(n:Nat)(o:bR)(I:aO)(st:ao):a2:=
 .ok (.int .i64<|.ofNat n) I st
def aaN(J:ce)(o:bR)(Q:aO)(S:ao):a2:=
 .no
def O3(elem:d7)(bw:Nat)(Q:Nat)(s:ce)(x:ce)(o:bR)(I:aO)(st:ao):a2:=
 h2 (I.aq s) (λbase len cap=>h2 (I.aq x) (λb n _=>bx b (λb=>st.load b (Nat.mul n bw) (λnew=>cond (hk new) (j6 I st elem bw Q base len cap n new) .no) .no)<|dL n 0 (j6 I st elem bw Q base len cap 0 []) .no)<|so (I.aq x) (j6 I st elem bw Q base len cap 0 [])<|h1 (I.aq x) (λs=>dL bw 1 (j6 I st elem bw Q base len cap (dK s.data.toList)<|nN s.data.toList) .no) .no) .no
def aaO(x:ce)(xs:ac ce)(o:bR)(I:aO)(st:ao):a2:=
 gk (I.aq x) (λk n=>bx (AY k I xs n) (λm=>iE k m λv=>.ok v I st) .no) .no
def aaP(x:ce)(xs:ac ce)(o:bR)(I:aO)(st:ao):a2:=
 gk (I.aq x) (λk n=>bx (AZ k I xs n) (λm=>iE k m λv=>.ok v I st) .no) .no
def O4(bw:Nat)(d:ce)(s:ce)(o:bR)(I:aO)(st:ao):a2:=
 h2 (I.aq d) (λa g _=>h2 (I.aq s) (λb aL _=>bx a (λa=>bx b (λb=>(λn=>st.load b (Nat.mul n bw) (λK=>cond (hk K) (st.store a K (λst=>.ok (.int .i64<|.ofNat n) I st) .no) .no) .no)<|eB aL g aL g)<|dL aL 0 (.ok (.int .i64 0) I st) .no)<|dL g 0 (.ok (.int .i64 0) I st) .no) .no) .no
def aaQ(o:bR)(I:aO)(st:ao):a2:=
 bx I.b7 (λ_=>.no)<|bx I.aY (λv=>cond I.cU (.ok .nilIface I st)<|.ok v ⟨I.t,I.di,I.aY,true,I.b7⟩ st)<|.ok .nilIface I st
def aaR(f:ce)(args:ac ce)(o:bR)(I:aO)(st:ao):a2:=
 bx I.b7 (λ_=>.no)<|yn (I.aq f) (λfn first S=>match fn with|.func g=>.ok undef ⟨I.t,{target:=.fn (.func g) S,args:=⟨e8 first.toList (dt I args)⟩}::I.di,I.aY,I.cU,I.b7⟩ st|_=>.no) .no
def aaS(x:ce)(o:bR)(I:aO)(st:ao):a2:=
 yo (I.aq x) (λt v=>.aY (.iface t v) st) .no
def IU(x:ce)(o:bR)(I:aO)(st:ao):a2:=
 hN (I.aq x) (λp=>bx p (λa=>st.gy a (λcs _ _ _=>eB (Nat.succ a.off) (dK cs) (.ok (.pointer<|some a) I st) .no) .no) .no) .no
def IV(elem:Nat)(n:Nat)(x:ce)(o:bR)(I:aO)(st:ao):a2:=
 hN (I.aq x) (λp=>bx p (λa=>st.gy a (λcs el _ aW=>cond aW .no<|dL a.off 0 (dL el elem (dL (dK cs) n (.ok (.pointer<|some a) I st) .no) .no) .no) .no) .no) .no
def IW(x:ce)(o:bR)(I:aO)(st:ao):a2:=
 h2 (I.aq x) (λb _ c=>bx b (λa=>dL c 0 .no<|.ok (.pointer<|some a) I st)<|.ok (.pointer none) I st) .no
def Ex(elem:d7)(x:ce)(n:ce)(o:bR)(I:aO)(st:ao):a2:=
 hN (I.aq x) (λp=>gk (I.aq n) (λ_ n=>hW n (λn=>dL n 0 (.ok (.string ⟨⟨[]⟩⟩) I st)<|bx p (λa=>eB n (2^40) (st.gy a (λcs el b1 aW=>eB b1.2 b1.1 (dL el elem (hX cs a.off n (λK=>bx (bytesOf K) (λbH=>st.hf a.block (.cells cs el (a.off,Nat.add a.off n) aW) λst=>.ok (.string ⟨⟨bH⟩⟩) I st) .no) .no) .no) .no) .no) .no) .no) .no) .no) .no
def IX(s:ce)(c:ce)(o:bR)(I:aO)(st:ao):a2:=
 h1 (I.aq s) (λs=>gk (I.aq c) (λk c=>cond (j5 k .u8) (hW c (λc=>.ok (.int .i64<|bx (sr (UInt8.ofNat c) s.data.toList) (λi=>.ofNat i)<|.negSucc 0) I st) .no) .no) .no) .no
def aaT(x:ce)(o:bR)(I:aO)(st:ao):a2:=
 .ok (I.aq x) I st
def aaU(y:uV)(o:bR)(I:aO)(st:ao):a2:=
 IL I st y
def aaV(o:bR)(Q:aO)(S:ao):a2:=
 .no
def bD(call:bR)(R:dm)(I:aO)(st:ao):a2:=
 dm.rec (motive:=λ_=>bR->aO->ao->a2) aao aap ys IM aaq A2 aar aas aat IN aau aav aaw aax aay aaz IP IQ aaA aaB wL A3 aaC tl O2 aaD aaE tm aaF aaG aaH IS aaI aaJ aaK IT aaL aaM aaN O3 aaO aaP O4 aaQ aaR aaS IU IV IW Ex IX aaT aaU aaV R call I st
inductive cO where
 |out (e:c6) (I:aO) (st:ao)
 |no
def hl(I:aO)(g:be (Tmp×Bool))(S J z:β):β:=
 bx g (λp=>kj (I.tmp p.1) (λb=>cond b (cond p.2 S J)<|cond p.2 J S)<|q6 (I.tmp p.1) (λ_=>J) z) S
def dm.lE:dm->Bool
 |.call _ _|.inv _ _ _|.ox _=>true
 |_=>false
def gz(call:bR)(ops:ac bt):aO->ao->cO:=
 List.rec (motive:=λ_=>aO->ao->cO) (λI st=>.out .norm I st)
  (λx _ U I st=>
   hl I x.g
    (a2.rec (motive:=λ_=>cO) (λv I st=>U (I.put x.d v) st) (λv st=>cond x.R.lE (.out (.aY v) I st) .no) .no<|bD call x.R I st)
    (U (I.put x.d undef) st) .no) ops
def sameAt(call:bR)(R:dm)(I:aO)(v:bv)(ag:Nat)(n:Nat):ac (ar bG)->Bool:=
 Nat.rec (motive:=λ_=>ac (ar bG)->Bool) (λ_=>true)
  (λ_ U M=>List.rec (motive:=λ_=>Bool) false
   (λh M _=>a2.rec (motive:=λ_=>Bool) (λbA _ _=>cond (dE v bA) (U M) false) (λ_ _=>false) false<|bD call R I ⟨h,ag⟩) M) n
def jI(t:ar bv)(aF:ac Tmp)(k:ar bv->β):β:=
 List.rec (motive:=λ_=>ar bv->β) (λm=>k m) (λx _ U m=>bx (t.get x) (λv=>ar.jc (Nat.succ x) m x v U)<|U m) aF .nil
def qc(I:aO)(aF:ac Tmp):aO:=
 List.rec (motive:=λ_=>aO->aO) (λI=>I) (λt _ U I=>U<|I.put (some t) jG) aF I
def j7(call:bR)(ms:ac Nat)(n:Nat)(ops:ac (bt×cz)):Nat->ac (ar bG)->aO->ao->Bool:=
 List.rec (motive:=λ_=>Nat->ac (ar bG)->aO->ao->Bool) (λ_ _ _ _=>true)
  (λx _ U p q I st=>
   cond (Nat.testBit (ms.getD p 0) n)
    (cz.rec (motive:=λ_=>Bool) (U (Nat.succ p) (st.h::q) (I.put x.1.d undef) st) (λ_=>U (Nat.succ p) q (I.put x.1.d undef) st) (λ_ _=>U (Nat.succ p) q (I.put x.1.d undef) st) x.2)
    (cz.rec (motive:=λ_=>Bool) false
     (λaF=>jI I.t aF λt=>hl ⟨t,[],none,false,none⟩ x.1.g
      (a2.rec (motive:=λ_=>Bool) (λv _ al=>U (Nat.succ p) q (I.put x.1.d v) al) (λ_ _=>false) false<|bD call x.1.R ⟨t,[],none,false,none⟩ st)
      (U (Nat.succ p) q (I.put x.1.d undef) st) false)
     (λback aF=>jI I.t aF λt=>hl ⟨t,[],none,false,none⟩ x.1.g
      (a2.rec (motive:=λ_=>Bool) (λv _ _=>cond (sameAt call x.1.R ⟨t,[],none,false,none⟩ v st.ag (Nat.succ back) q) (U (Nat.succ p) q (I.put x.1.d v) st) false) (λ_ _=>false) false<|bD call x.1.R ⟨t,[],none,false,none⟩ st)
      (U (Nat.succ p) q (I.put x.1.d undef) st) false)
     x.2)) ops
abbrev tn:=ac (bt×cz)->ac (ar bG)->aO->ao->Bool
def hn(call:bR)(O:tn)(ops:ac (bt×cz)):ac (ar bG)->aO->ao->cO:=
 List.rec (motive:=λ_=>ac (ar bG)->aO->ao->cO) (λ_ I st=>.out .norm I st)
  (λx xs U q I st=>
   cz.rec (motive:=λ_=>cO)
    (hl I x.1.g
     (a2.rec (motive:=λ_=>cO) (λv bC al=>eB st.ag al.ag (U (al.h::q) (aO.put ⟨I.t,bC.di,bC.aY,bC.cU,bC.b7⟩ x.1.d v) al) .no) (λv al=>cond x.1.R.lE (cond (O xs (st.h::q) (I.put x.1.d undef) st) (.out (.aY v) I al) .no) .no) .no<|bD call x.1.R I st)
     (U (st.h::q) (I.put x.1.d undef) st) .no)
    (λaF=>jI I.t aF λt=>hl ⟨t,[],none,false,none⟩ x.1.g
     (a2.rec (motive:=λ_=>cO) (λv _ al=>U q (I.put x.1.d v) al) (λ_ _=>.no) .no<|bD call x.1.R ⟨t,[],none,false,none⟩ st)
     (U q (I.put x.1.d undef) st) .no)
    (λback aF=>jI I.t aF λt=>hl ⟨t,[],none,false,none⟩ x.1.g
     (a2.rec (motive:=λ_=>cO) (λv _ _=>cond (sameAt call x.1.R ⟨t,[],none,false,none⟩ v st.ag (Nat.succ back) q) (U q (I.put x.1.d v) st) .no) (λ_ _=>.no) .no<|bD call x.1.R ⟨t,[],none,false,none⟩ st)
     (U q (I.put x.1.d undef) st) .no)
    x.2) ops
def ss(call:bR)(ms:ac Nat)(len:Nat):tn:=λxs=>j7 call ms (Nat.sub len<|Nat.succ<|dK xs) xs<|Nat.sub len<|dK xs
def na(R:be bG)(k:LoopState->be c6->d8->ar bv->ac Tmp->dz->dz->Nat->β)(z:β):β:=
 bx R (λR=>bG.rec (motive:=λ_=>β) (λ_ _ _ _=>z) (λ_ _=>z) (λ_ _=>z) (λ_ _ _ _=>z) k (λ_=>z) z R) z
def kF(r:cO)(k:aO->ao->cO):cO:=
 cO.rec (motive:=λ_=>cO) (λe I st=>c6.rec (motive:=λ_=>cO) (k I st) (λi=>.out (.exit i) I st) (.out .ret I st) (λv=>.out (.aY v) I st) e) .no r
def qd(id:Nat)(r:cO):cO:=
 cO.rec (motive:=λ_=>cO) (λe I st=>c6.rec (motive:=λ_=>cO) (.out .norm I st) (λi=>dL i id (.out .norm I st)<|.out (.exit i) I st) (.out .ret I st) (λv=>.out (.aY v) I st) e) .no r
def A4(v:bv)(a b:cO):cO:=kj v (λt=>cond t a b) .no
def O5(l:Nat)(bC:aO)(r:ev):cO:=
 ev.rec (motive:=λ_=>cO)
  (λ_ st _=>na (st.h.get l) (λs gA q t bd a b d=>
   LoopState.rec (motive:=λ_=>cO)
    (st.hf l (.loop .exhausted gA q t bd a b d) λst=>bx gA (λe=>.out e bC st)<|.out .norm bC st)
    .no
    (st.hf l (.loop .exhausted gA q t bd a b d) λst=>bx gA (λe=>.out e bC st)<|.out .norm bC st)
    .no s) .no)
  (λv st _=>.out (.aY v) bC st) .no r
def A5(call:bR)(fn:d8)(f:ce)(params:ac Tmp)(assign body:dz)(I:aO)(st:ao):cO:=
 bx I.b7 (λ_=>.no)
  (st.iD (.j3<|some []) λr st=>
   st.iD (.loop .ready none fn I.t params assign body r) λl st=>
   O5 l ⟨I.t,{target:=.collected r,args:= #[]}::I.di,I.aY,I.cU,I.b7⟩<|call (I.aq f) [.func (.yield l) #[] #[]] none st)
def dh(call:bR)(a8:Nat)(fn:d8)(c:dz):aO->ao->cO:=
 dz.rec (motive:=λ_=>aO->ao->cO)
  (λI st=>.out .norm I st)
  (λops=>gz call ops)
  (λops _ J ms I st=>hn call (ss call ms<|dK ops) ops [st.h] (qc I J) st)
  (λ_ _ Q Z I st=>kF (Q I st) Z)
  (λc _ _ Q Z I st=>A4 (I.aq c) (Q I st)<|Z I st)
  (λid _ e I st=>qd id<|e I st)
  (λ_ e I st=>
   Nat.rec (motive:=λ_=>aO->ao->cO) (λ_ _=>.no)
    (λ_ U I st=>kF (e I st) U) a8 I st)
  (λf q g body _ _=>A5 call fn f q g body)
  (λid I st=>.out (.exit id) I st)
  (λ_ e=>e)
  (λI st=>.out .ret I st)
  (λ_ _=>.no) c
def lF(ab:ac bv):Nat->ar bv->ar bv:=
 List.rec (motive:=λ_=>Nat->ar bv->ar bv) (λ_ t=>t) (λv _ U i t=>ar.jc (Nat.succ i) t i v λt=>U (Nat.succ i) t) ab
def pw(aF:ac Tmp):ac bv->ar bv->ar bv:=
 List.rec (motive:=λ_=>ac bv->ar bv->ar bv) (λ_ m=>m)
  (λt _ U K m=>List.rec (motive:=λ_=>ar bv) m (λv K _=>ar.jc (Nat.succ t) m t v λm=>U K m) K) aF
def qe(I:aO)(st:ao)(J:ac gU):be (ac bv):=
 List.rec (motive:=λ_=>be<|ac bv) (some [])
  (λr _ U=>bx U (λK=>
   gU.rec (motive:=λ_=>be<|ac bv) (λt=>some<|I.tmp t::K)
    (λa agg n=>hN (I.tmp a) (λp=>bx p (λch=>st.load ch n (λcs=>cond agg (some<|.agg ⟨cs⟩::K)<|one cs (λv=>some<|v::K) none) none) none) none) r) none) J
def jJ(call:bR):ac Deferred->be bv->ao->be (be bv×ao)
 |[],m,st=>some (m,st)
 |{target:=.collected r,.. }::aU,m,st=>
  match st.h.get r with
  |some (.j3<|some [])=>st.hf r (.j3 none) λst=>jJ call aU m st
  |_=>none
 |{target:=.fn (.func g) S,args}::aU,m,st=>
  match call (.func (.func g) #[] S) args.toList m st with
  |.ret _ st O=>
   match m,O with
   |some _,true=>jJ call aU none st
   |_,_=>jJ call aU m st
  |.aY v st _=>
   match m with
   |none=>jJ call aU (some v) st
   |some _=>none
  |.no=>none
 |_::_,_,_=>none
abbrev ra:=d8->ac bv->ao->be ev
def fS(call:bR)(res:ac gU)(m:be bv)(I:aO)(st:ao):ev:=
 bx (jJ call I.di m st)
  (λp=>bx p.1 (λv=>.aY v p.2 I.cU)
   (bx (qe I p.2 res) (λK=>one K (λv=>.ret v p.2 I.cU)<|.ret (.tuple ⟨K⟩) p.2 I.cU) .no)) .no
def iF(call:bR)(n:Nat)(f:d8)(a7:c7)(as:ac bv)(aY:be bv)(st:ao):ev:=
 eB (dK as) a7.aR
  (cO.rec (motive:=λ_=>ev)
   (λe I st=>c6.rec (motive:=λ_=>ev) (fS call a7.res none I st) (λ_=>.no) (fS call a7.res none I st) (λv=>fS call a7.res (some v) I st) e)
   .no<|dh call n f a7.body ⟨lF as 0 .nil,[],aY,false,none⟩ st) .no
def rb(l:Nat)(r:cO):ev:=
 cO.rec (motive:=λ_=>ev)
  (λe I st=>
   List.rec (motive:=λ_=>ev)
    (c6.rec (motive:=λ_=>ev)
     (na (st.h.get l) (λ_ _ fn t bd a b d=>st.hf l (.loop .ready none fn t bd a b d) λst=>.ret (.bool true) st false) .no)
     (λi=>na (st.h.get l) (λ_ _ fn t bd a b d=>st.hf l (.loop .done (some<|.exit i) fn t bd a b d) λst=>.ret (.bool false) st false) .no)
     (na (st.h.get l) (λ_ _ fn t bd a b d=>st.hf l (.loop .done (some .ret) fn t bd a b d) λst=>.ret (.bool false) st false) .no)
     (λv=>.aY v st false) e)
    (λ_ _ _=>.no) I.di)
  .no r
def yt(call:bR)(n:Nat)(l:Nat)(f:d8)(body:dz)(I:aO)(st:ao):ev:=
 na (st.h.get l) (λs gA fn t bd a b d=>
  LoopState.rec (motive:=λ_=>ev)
   (st.hf l (.loop .busy gA fn t bd a b d) λst=>rb l<|dh call n f body I st)
   .no .no .no s) .no
def wM(call:bR)(n:Nat)(l:Nat)(args:ac bv)(st:ao):ev:=
 na (st.h.get l) (λ_ _ fn t bd q body _=>
  dL (dK args) (dK bd)
   (cO.rec (motive:=λ_=>ev)
    (λe I st=>c6.rec (motive:=λ_=>ev) (yt call n l fn body I st) (λ_=>.no) .no (λ_=>.no) e) .no
    (dh call n fn q ⟨pw bd args t,[],none,false,some l⟩ st)) .no) .no
def cf(aV:ar c7)(D:ra)(o:Nat):bR:=
 Nat.rec (motive:=λ_=>bR) (λ_ _ _ _=>.no)
  (λn U M args aY st=>
   yn M (λfn first S=>
    Fn.rec (motive:=λ_=>ev)
     (λf=>(λas=>bx aY (λ_=>bx (aV.get f) (λh=>iF U n f h as aY st) .no)<|bx (D f as st) (λr=>r)<|bx (aV.get f) (λh=>iF U n f h as aY st) .no)<|e8 first.toList (e8 args S.toList))
     (λ_=>.no) (λ_ _=>.no) (λ_ _ _ _=>.no)
     (λl=>List.rec (motive:=λ_=>ev) (List.rec (motive:=λ_=>ev) (bx aY (λ_=>.no)<|wM U n l args st) (λ_ _ _=>.no) S.toList) (λ_ _ _=>.no) first.toList)
     fn) .no) o
end Go.bI
namespace Go.bI
namespace ar
variable{α β:Type}
@[simp] theorem get_nil (n:Nat):(ar.nil:ar α).get n=none:=rfl
def Ey(l r:ar α)(v:be α):(ar.node l v r).get 0=v:=rfl
def Ez{β:Sort _}(m:Nat)(a b:β):Nat.rec (motive:=λ_=>β) a (λ_ _=>b) (Nat.mod m 2)=if m%2=0 then a else b:=by
 show Nat.rec (motive:=λ_=>β) a (λ_ _=>b) (m%2)=_;rcases Nat.mod_two_eq_zero_or_one m with h|h
 .rw[h];rfl
 .rw[h];rfl
def px(l r:ar α)(v:be α)(m:Nat):(ar.node l v r).get (m+1)=if m%2=0 then l.get (m/2)else r.get (m/2):=
 Ez m (l.get<|m/2)<|r.get<|m/2
def EA(f m:Nat)(x:α)(k:ar α->β):jc (f+1) .nil (m+1) x k=if m%2=0 then jc f .nil (m/2) x (λbq=>k<|.node bq none .nil)else jc f .nil (m/2) x (λY=>k<|.node .nil none Y):=Ez m _ _
def EB(f m:Nat)(l r:ar α)(v:be α)(x:α)(k:ar α->β):jc (f+1) (.node l v r) (m+1) x k=if m%2=0 then jc f l (m/2) x (λbq=>k<|.node bq v r)else jc f r (m/2) x (λY=>k<|.node l v Y):=Ez m _ _
theorem mw{α:Type}:∀(f:Nat) (β:Type) (t:ar α) (n:Nat) (x:α) (k:ar α->β),jc f t n x k=k (jc f t n x id)
 |0,_,_,_,_,_=>rfl
 |f+1,β,t,n,x,k=>by
  cases t with
  |nil=>
   cases n with
   |zero=>rfl
   |succ m=>
    rw[EA,EA];split
    .rw[mw f _ .nil (m/2) x λbq=>k<|ar.node bq none ar.nil,mw f _ .nil (m/2) x λbq=>id<|ar.node bq none ar.nil];rfl
    .rw[mw f _ .nil (m/2) x λY=>k<|ar.node ar.nil none Y,mw f _ .nil (m/2) x λY=>id<|ar.node ar.nil none Y];rfl
  |node l v r=>
   cases n with
   |zero=>rfl
   |succ m=>
    rw[EB,EB];split
    .rw[mw f _ l (m/2) x λbq=>k<|ar.node bq v r,mw f _ l (m/2) x λbq=>id<|ar.node bq v r];rfl
    .rw[mw f _ r (m/2) x λY=>k<|ar.node l v Y,mw f _ r (m/2) x λY=>id<|ar.node l v Y];rfl
def wN(t:ar α)(n:Nat)(x:α)(k:ar α->β):jc (Nat.succ n) t n x k=k (t.set n x):=mw _ _ t n x k
def aaW(v:be α)(r l:ar α):OD v r l= .node l v r:=by cases l<;>rfl
def aaX(v:be α)(l r:ar α):OE l v r= .node l v r:=by cases r<;>rfl
def tp(t:ar α)(k:ar α->β):fin t k=k t:=by cases t<;>rfl
def O6(U:ar α->Nat->α->ar α)(l r:ar α)(v:be α)(m:Nat)(x:α):
 Ec U l v r m x=if m%2=0 then .node (U l (m/2) x) v r else .node l v (U r (m/2) x):=by
 rw[<-aaW,<-aaX];exact Ez m _ _
theorem EC:∀(f:Nat) (t:ar α) (n:Nat) (x:α),kE f t n x=jc f t n x id
 |0,_,_,_=>rfl
 |f+1,t,n,x=>by
  cases t with
  |nil=>
   cases n with
   |zero=>rfl
   |succ m=>
    rw[EA];show Ec (kE f) .nil none .nil m x=_;rw[O6,EC f];split
    .rw[mw f _ .nil (m/2) x λbq=>id<|ar.node bq none ar.nil];rfl
    .rw[mw f _ .nil (m/2) x λY=>id<|ar.node ar.nil none Y];rfl
  |node l v r=>
   cases n with
   |zero=>rfl
   |succ m=>
    rw[EB];show Ec (kE f) l v r m x=_;rw[O6,EC f,EC f];split
    .rw[mw f _ l (m/2) x λbq=>id<|ar.node bq v r];rfl
    .rw[mw f _ r (m/2) x λY=>id<|ar.node l v Y];rfl
def u7(t:ar α)(n:Nat)(x:α):kE (Nat.succ n) t n x=t.set n x:=EC _ t n x
theorem ED:∀(f:Nat) (t:ar α) (n:Nat) (x:α) (j:Nat),n<f->(jc f t n x id).get j=if j=n then some x else t.get j
 |0,_,_,_,_,h=>by omega
 |f+1,t,n,x,j,h=>by
  cases t with
  |nil=>
   cases n with
   |zero=>
    cases j with
    |zero=>rfl
    |succ j=>show(ar.node .nil (some x) .nil:ar α).get (j+1)=_;rw[px];simp
   |succ m=>
    have U:=λi=>ED f (.nil:ar α) (m/2) x i J;rw[EA];split
    .rename_i hm;rw[mw f _ .nil (m/2) x λE=>id<|ar.node E none ar.nil];show(ar.node _ none .nil:ar α).get j=_;cases j with
     |zero=>rw[Ey];simp
     |succ j=>
      rw[px];by_cases A:j%2=0
      .rw[aA A,U];by_cases e:j=m
       .subst e;simp
       .rw[au J,au J];simp
      .rw[au A,au J];simp
    .rename_i hm;rw[mw f _ .nil (m/2) x λY=>id<|ar.node ar.nil none Y];show(ar.node .nil none _:ar α).get j=_;cases j with
     |zero=>rw[Ey];simp
     |succ j=>
      rw[px];by_cases A:j%2=0
      .rw[aA A,au J];simp
      .rw[au A,U];by_cases e:j=m
       .subst e;simp
       .rw[au J,au J];simp
  |node l v r=>
   cases n with
   |zero=>
    cases j with
    |zero=>rfl
    |succ j=>show(ar.node l (some x) r:ar α).get (j+1)=_;rw[px,px,au (by omega:¬(j+1=0))]
   |succ m=>
    rw[EB];split
    .rename_i hm;have U:=λi=>ED f l (m/2) x i J;rw[mw f _ l (m/2) x λE=>id<|ar.node E v r];show(ar.node _ v r:ar α).get j=_;cases j with
     |zero=>rfl
     |succ j=>
      rw[px,px]
      grind
    .rename_i hm;have U:=λi=>ED f r (m/2) x i J;rw[mw f _ r (m/2) x λY=>id<|ar.node l v Y];show(ar.node l v _:ar α).get j=_;cases j with
     |zero=>rfl
     |succ j=>
      rw[px,px]
      grind
def eP(t:ar α)(n:Nat)(x:α)(j:Nat):(t.set n x).get j=if j=n then some x else t.get j:=
 ED (n+1) t n x j J
@[simp] theorem nO (t:ar α) (n:Nat) (x:α):(t.set n x).get n=some x:=by rw[eP,aA o]
def fu(t:ar α){n j:Nat}(x:α)(h:j≠n):(t.set n x).get j=t.get j:=by rw[eP,au h]
end ar
def IY(I:aO)(d:Tmp)(v:bv):I.put (some d) v=⟨I.t.set d v,I.di,I.aY,I.cU,I.b7⟩:=by
 show aO.OG (ar.kE (Nat.succ d) I.t d v) I.di I.aY I.cU I.b7=_;rw[ar.u7];cases I.t.set d v<;>rfl
theorem su(I:aO)(d:be Tmp)(v:bv)(j:Nat):(I.put d v).tmp j=if d=some j then v else I.tmp j:=by
 cases d with
 |none=>simp[aO.put]
 |some d=>
  rw[IY];simp[aO.tmp,ar.eP,Option.some.injEq];by_cases h:j=d
  .subst h;simp
  .rw[au h,au λe=>h e.symm]
def re(I:aO)(d:be Tmp)(v:bv):(I.put d v).di=I.di/\(I.put d v).aY=I.aY/\(I.put d v).cU=I.cU/\(I.put d v).b7=I.b7:=by
 cases d with
 |none=>simp[aO.put]
 |some d=>rw[IY];exact⟨o,o,o,o⟩
structure Loc where
 cA:Nat
 de:Nat
 ex:Nat
 bM:Nat->Nat
def eU:Nat->Nat:=λ_=>0
def IZ:(id:Nat->Nat)≠eU:=λh=>by have:=congrFun h 1;simp[eU]at this
abbrev bN:=Nat->be Loc
def bN.le(ad aJ:bN):Prop:=∀i l,ad i=some l->aJ i=some l
def bN.le.refl(ad:bN):ad.le ad:=λ_ _ h=>h
theorem bN.le.trans{ad aJ T:bN}(h:ad.le aJ)(D:aJ.le T):ad.le T:=λi l af=>D i l<|h i l af
def rf(ad:bN)(f g:Fn):Prop:=(f=g/\∀l,f≠.yield l)\/∃l b,f= .yield l/\g= .yield b/\ad l=some ⟨b,0,0,id⟩
def O7(c:Nat)(m:Int):Prop:=c=1\/(∃k:Nat,c=2*k+2/\(k:Int)<=m)\/∃k:Nat,c=2*k+3/\m<k
inductive bo(ad:bN):Value->Value->Prop
 |bool (b:Bool):bo ad (.bool b) (.bool b)
 |int (k:IntKind) (n:Int):bo ad (.int k n) (.int k n)
 |float (k:FloatKind) (b:Nat):bo ad (.float k b) (.float k b)
 |string (s:ByteArray):bo ad (.string s) (.string s)
 |lG:bo ad (.pointer none) (.pointer none)
 |ptr (a:Addr) (l:Loc) (h:ad a.block=some l) (cG:a.spot=none):bo ad (.pointer (some a)) (.pointer (some ⟨l.cA,l.de+a.off,none⟩))
 |kl (n c:Nat):bo ad (.slice none n c) (.slice none n c)
 |fv (a:Addr) (l:Loc) (R n c:Nat) (h:ad a.block=some l) (cG:a.spot=none) (ay:R=l.de+a.off∨(n=0∧c=0∧l.ex=0)):
  bo ad (.slice (some a) n c) (.slice (some ⟨l.cA,R,none⟩) n (c+l.ex))
 |nb:bo ad (.map none) (.map none)
 |map (r b:Nat) (bM:Nat->Nat) (h:ad r=some ⟨b,0,0,bM⟩):bo ad (.map (some r)) (.map (some b))
 |func (f g:Fn) (xs aS us ab:Array Value) (aoz:rf ad f g) (aE:xs.size=aS.size) (aK:∀i (h:i<xs.size) (u9:i<aS.size),bo ad xs[i] aS[i])
  (aaY:us.size=ab.size) (aaZ:∀i (h:i<us.size) (u9:i<ab.size),bo ad us[i] ab[i]):bo ad (.func f xs us) (.func g aS ab)
 |nilFunc:bo ad .nilFunc .nilFunc
 |iface (t:TypeId) (v w:Value) (h:bo ad v w):bo ad (.iface t v) (.iface t w)
 |nilIface:bo ad .nilIface .nilIface
 |agg (xs aS:Array Value) (aE:xs.size=aS.size) (aK:∀i (h:i<xs.size) (u9:i<aS.size),bo ad xs[i] aS[i]):bo ad (.agg xs) (.agg aS)
 |tuple (xs aS:Array Value) (aE:xs.size=aS.size) (aK:∀i (h:i<xs.size) (u9:i<aS.size),bo ad xs[i] aS[i]):bo ad (.tuple xs) (.tuple aS)
 |iG (c:Nat) (m:Int) (h:O7 c m):bo ad (.chan (some c)) (.int .i64 m)
 |emp (p:Addr) (c:Nat):bo ad (.chan none) (.slice (some p) 0 c)
 |top (c:Value):bo ad jG c
variable{ad aJ:bN}
def rf.mono(hle:ad.le aJ){f g:Fn}(h:rf ad f g):rf aJ f g:=by
 rcases h with h|⟨l,b,Y,G,C⟩
 .exact .inl h
 .exact .inr ⟨l,b,Y,G,hle _ _ C⟩
def bo.mono(hle:ad.le aJ){v w:bv}(h:bo ad v w):bo aJ v w:=by
 induction h with
 |bool b=>exact .bool b
 |int k n=>exact .int k n
 |float k n=>exact .float k n
 |string s=>exact .string s
 |lG=>exact .lG
 |ptr a l h M=>exact .ptr a l (hle _ _ h) M
 |kl n c=>exact .kl n c
 |fv a l R n c h M ay=>exact .fv a l R n c (hle _ _ h) M ay
 |nb=>exact .nb
 |map r b bM h=>exact .map r b bM (hle _ _ h)
 |func f g xs aS q K D Y _ C _ B A=>exact .func f g xs aS q K (D.mono hle) Y B C A
 |nilFunc=>exact .nilFunc
 |iface t v w _ U=>exact .iface t v w U
 |nilIface=>exact .nilIface
 |agg xs aS Y _ U=>exact .agg xs aS Y U
 |tuple xs aS Y _ U=>exact .tuple xs aS Y U
 |iG c m h=>exact .iG c m h
 |emp p c=>exact .emp p c
 |top c=>exact .top c
def bO(ad:bN)(xs aS:ac bv):Prop:=xs.length=aS.length/\∀(i:Nat) (h:i<xs.length) (D:i<aS.length),bo ad xs[i] aS[i]
variable{xs aS:bi bv}
def bO.mono(hle:ad.le aJ){xs aS:ac bv}(h:bO ad xs aS):bO aJ xs aS:=⟨h.1,λi a b=>(h.2 i a b).mono hle⟩
def bO.nil(ad:bN):bO ad [] []:=aqP
def bO.cons{ad:bN}{x y:bv}{xs aS:ac bv}(h:bo ad x y)(M:bO ad xs aS):bO ad (x::xs) (y::aS):=by
 refine⟨by simp[M.1],λi a b=>?_⟩;cases i with
 |zero=>exact h
 |succ i=>exact M.2 i ar6 ar5
def bO.cons_inv{x:bv}{xs aS:ac bv}(h:bO ad (x::xs) aS):∃y S,aS=y::S/\bo ad x y/\bO ad xs S:=by
 cases aS with
 |nil=>have:=h.1;simp at this
 |cons y S=>
  refine⟨y,S,o,h.2 0 az az,by simpa using h.1,λi a b=>?_⟩;exact h.2 (i+1) ar6 ar5
def bO.rh{aS:ac bv}(h:bO ad [] aS):aS=[]:=by
 cases aS with
 |nil=>rfl
 |cons y aS=>have:=h.1;simp at this
def bO.append:∀{xs aS us ab:ac bv},bO ad xs aS->bO ad us ab->bO ad (xs++us) (aS++ab)
 |[],aS,us,ab,h,D=>by rw[h.rh];simpa using D
 |x::xs,aS,us,ab,h,D=>by
  obtain⟨y,S,rfl,aE,aK⟩:=h.cons_inv;simpa using bO.cons aE (aK.append D)
def bO.drop:∀(n:Nat) {xs aS:ac bv},bO ad xs aS->bO ad (xs.drop n) (aS.drop n)
 |0,_,_,h=>by simpa using h
 |n+1,[],aS,h=>by rw[h.rh];exact aqH
 |n+1,x::xs,aS,h=>by
  obtain⟨y,S,rfl,_,aK⟩:=h.cons_inv;simpa using aK.drop n
def bO.take:∀(n:Nat) {xs aS:ac bv},bO ad xs aS->bO ad (xs.take n) (aS.take n)
 |0,_,_,_=>by exact aqH
 |n+1,[],aS,h=>by rw[h.rh];exact aqH
 |n+1,x::xs,aS,h=>by
  obtain⟨y,S,rfl,aE,aK⟩:=h.cons_inv;simpa using bO.cons aE (aK.take n)
def bo.sv(h:bO ad xs.toList aS.toList):bo ad (.agg xs) (.agg aS):=
 .agg xs aS apH λi a b=>by exact apx
def bo.ri(h:bO ad xs.toList aS.toList):bo ad (.tuple xs) (.tuple aS):=
 .tuple xs aS apH λi a b=>by exact apx
def bO.va(aE:xs.size=aS.size)(aK:∀i (h:i<xs.size) (D:i<aS.size),bo ad xs[i] aS[i]):bO ad xs.toList aS.toList:=
 ⟨by simpa using aE,λi a b=>by have:=aK i J J;rwa [<-Array.getElem_toList,<-Array.getElem_toList]at this⟩
def bo.A6{f g:Fn}{us ab:bi bv}(o:rf ad f g)(h:bO ad xs.toList aS.toList)(D:bO ad us.toList ab.toList):bo ad (.func f xs us) (.func g aS ab):=
 .func f g xs aS us ab o apH (λi a b=>by have:=h.2 i J J;rwa [lW,lW]at this) (by simpa using D.1) λi a b=>by have:=D.2 i J J;rwa [lW,lW]at this
theorem bO.cells{v w:bv}(h:bo ad v w)(hp:v≠jG):bO ad v.cells.toList w.cells.toList:=by
 cases h<;>first
  |exact absurd o hp
  |(rename_i xs aS Y G;exact bO.va Y G)
  |(refine bO.cons ?_ (bO.nil ad);constructor<;>assumption)
end Go.bI
namespace Go.bI
section
variable{α β:Type}{r z:β}
variable{v:bv}{x:β}{k:α->β}{a b:Nat}{l:ac α}{n:Nat}{R:be α}
def A7{k:be Addr->β}(h:hN v k z=r)(aH:z≠r):∃p,v= .pointer p/\k p=r:=by
 cases v<;>first|exact absurd h aH|exact⟨_,o,h⟩
def oA{k:f5->Int->β}(h:gk v k z=r)(aH:z≠r):∃a n,v= .int a n/\k a n=r:=by
 cases v<;>first|exact absurd h aH|exact⟨_,_,o,h⟩
def O8{k:Bool->β}(h:kj v k z=r)(aH:z≠r):∃b,v= .bool b/\k b=r:=by
 cases v<;>first|exact absurd h aH|exact⟨_,o,h⟩
def yu{k:f8->β}(h:h1 v k z=r)(aH:z≠r):∃s,v= .string s/\k s=r:=by
 cases v<;>first|exact absurd h aH|exact⟨_,o,h⟩
def yv{k:be Addr->Nat->Nat->β}(h:h2 v k z=r)(aH:z≠r):∃a n c,v= .slice a n c/\k a n c=r:=by
 cases v<;>first|exact absurd h aH|exact⟨_,_,_,o,h⟩
def A8{k:bi bv->β}(h:sn v k z=r)(aH:z≠r):∃a,v= .agg a/\k a=r:=by
 cases v<;>first|exact absurd h aH|exact⟨_,o,h⟩
def O9{k:bi bv->β}(h:q6 v k z=r)(aH:z≠r):∃a,v= .tuple a/\k a=r:=by
 cases v<;>first|exact absurd h aH|exact⟨_,o,h⟩
def I0{k:Fn->bi bv->bi bv->β}(h:yn v k z=r)(aH:z≠r):∃f a b,v= .func f a b/\k f a b=r:=by
 cases v<;>first|exact absurd h aH|exact⟨_,_,_,o,h⟩
def I1{k:d7->bv->β}(h:yo v k z=r)(aH:z≠r):∃t x,v= .iface t x/\k t x=r:=by
 cases v<;>first|exact absurd h aH|exact⟨_,_,o,h⟩
def ig(h:bx R k z=r)(aH:z≠r):∃a,R=some a/\k a=r:=by
 cases R<;>first|exact absurd h aH|exact⟨_,o,h⟩
def yw(h:bx R k z=r)(aB:∀a,k a≠r):R=none/\z=r:=by
 cases R<;>first|exact⟨o,h⟩|exact absurd h<|aB _
def qf{n:Int}{k:Nat->β}(h:hW n k z=r)(aH:z≠r):∃m:Nat,n=(m:Int)/\k m=r:=by
 cases n with
 |ofNat m=>exact⟨m,o,h⟩
 |negSucc m=>exact absurd h aH
def lZ:Nat.ble a b=true↔a<=b:=az
theorem l0(a b:Nat)(x y:β):eB a b x y=if a<=b then x else y:=by
 rw[eB]
 simp_all
theorem mx(a b:Nat)(x y:β):dL a b x y=if a=b then x else y:=by
 rw[dL]
 simp_all
theorem jo(h:eB a b x z=r)(aH:z≠r):a<=b/\x=r:=by
 grind [l0]
theorem kG(h:dL a b x z=r)(aH:z≠r):a=b/\x=r:=by
 grind [mx]
def jK{b:Bool}(h:cond b x z=r)(aH:z≠r):b=true/\x=r:=by
 cases b
 .exact absurd h aH
 .exact⟨o,h⟩
def yx{b:Bool}(h:cond b z x=r)(aH:z≠r):b=false/\x=r:=by
 cases b
 .exact⟨o,h⟩
 .exact absurd h aH
@[simp] theorem fi:∀l:ac α,dK l=l.length
 |[]=>rfl
 |x::xs=>by show Nat.succ (dK xs)=_;rw[fi xs];rfl
@[simp] theorem rj (m:ac α):∀l:ac α,e8 l m=l++m
 |[]=>rfl
 |x::xs=>by show x::e8 xs m=_;rw[rj m xs];rfl
@[simp] theorem A9:∀(n:Nat) (l:ac α),Ep n l=l.drop n
 |0,l=>rfl
 |n+1,[]=>rfl
 |n+1,x::xs=>by show Ep n xs=_;rw[A9 n xs];rfl
theorem Ba:∀(n:Nat) (l:ac α),Eo n l=if n<=l.length then some (l.take n)else none
 |0,l=>by rfl
 |n+1,[]=>rfl
 |n+1,x::xs=>by
  show Option.rec (motive:=λ_=>be<|ac α) none (λr=>some<|x::r) (Eo n xs)=_;rw[Ba n xs];by_cases h:n<=xs.length
  .simp_all
  .rw[au h,au apA]
def yy(h:one l k z=r)(aH:z≠r):∃x,l=[x]/\k x=r:=by
 cases l with
 |nil=>exact absurd h aH
 |cons x xs=>
  cases xs with
  |nil=>exact⟨x,o,h⟩
  |cons y aS=>exact absurd h aH
theorem sw{N:Nat}{k:ac α->β}(h:hX l N n k z=r)(aH:z≠r):n<=(l.drop N).length/\k ((l.drop N).take n)=r:=by
 rw[hX]at h;rw[A9,Ba]at h;split at h
 .exact⟨qg,h⟩
 .exact absurd h aH
theorem rk:∀(l:ac α) (n:Nat) (ab:ac α) (k:ac α->β) (z:β),
 p9 l n ab k z=if n+ab.length<=l.length then k (l.take n++(ab++l.drop (n+ab.length)))else if ab=[]then k l else z
 |[],n,[],k,z=>by
  by_cases h:n=0
  .subst h;rfl
  .rw[au J];rfl
 |[],n,v::ab,k,z=>by rfl
 |y::aS,0,[],k,z=>by rfl
 |y::aS,0,v::ab,k,z=>by
  show p9 aS 0 ab (λbq=>k<|v::bq) z=_;rw[rk aS 0 ab]
  grind
 |y::aS,n+1,ab,k,z=>by
  show p9 aS n ab (λbq=>k<|y::bq) z=_;rw[rk aS n ab]
  grind
theorem I2{ab:ac α}{k:ac α->β}(h:p9 l n ab k z=r)(aH:z≠r):
 (n+ab.length<=l.length/\k (l.take n++(ab++l.drop (n+ab.length)))=r)\/(ab=[]/\k l=r):=by
 rw[rk]at h
 grind
def yz{st:ao}{a:Addr}{k:ac bv->d7->Nat×Nat->Bool->β}(h:st.gy a k z=r)(aH:z≠r):
 a.spot=none/\∃cs elem b1 aW,st.h.get a.block=some (.cells cs elem b1 aW)/\k cs elem b1 aW=r:=by
 have⟨Y,G⟩:=yw h λ_=>aH;refine⟨Y,?_⟩;have⟨R,ay,C⟩:=ig G aH;cases R<;>first|exact absurd C aH|exact⟨_,_,_,_,ay,C⟩
def EE{st:ao}{a:Addr}{k:ac bv->β}(h:st.load a n k z=r)(aH:z≠r):
 a.spot=none/\∃cs elem b1 aW,st.h.get a.block=some (.cells cs elem b1 aW)/\n<=(cs.drop a.off).length/\k ((cs.drop a.off).take n)=r:=by
 have⟨Y,cs,e,b1,aW,G,C⟩:=yz h aH;have⟨N,J⟩:=sw C aH;exact⟨Y,cs,e,b1,aW,G,N,J⟩
def jq(st:ao)(id:Nat)(R:bG)(k:ao->β):st.hf id R k=k ⟨st.h.set id R,st.ag⟩:=by
 rw[ao.hf,ar.u7,ar.tp]
def wO(n:Nat)(k:Nat->β):hd n k=k n:=by rw[hd];rw[kA];rfl
def gV(st:ao)(R:bG)(k:Nat->ao->β):st.iD R k=k st.ag ⟨st.h.set st.ag R,st.ag+1⟩:=by
 rw[ao.iD,wO,ar.u7,ar.tp]
def aa0(n:Int)(k:Int->β):OH n k=k n:=by
 cases n with
 |ofNat m=>exact wO m (λm=>k<|.ofNat m)
 |negSucc m=>exact wO m λm=>k<|.negSucc m
def iS(a:f5)(n:Int)(c:bv->β):iE a n c=c (.int a n):=aa0 _ _
def Pa{st:ao}{a:Addr}{ab:ac bv}{k:ao->β}(h:st.store a ab k z=r)(aH:z≠r):
 a.spot=none/\∃cs elem b1 aW,st.h.get a.block=some (.cells cs elem b1 aW)/\b1.2<=b1.1/\
  ((a.off+ab.length<=cs.length/\k ⟨st.h.set a.block<|.cells (cs.take a.off++(ab++cs.drop (a.off+ab.length))) elem b1 aW,st.ag⟩=r)\/
   (ab=[]/\k ⟨st.h.set a.block<|.cells cs elem b1 aW,st.ag⟩=r)):=by
 have⟨Y,cs,e,b1,aW,G,C⟩:=yz h aH;have⟨N,J⟩:=jo C aH;refine⟨Y,cs,e,b1,aW,G,N,?_⟩;obtain⟨D,aa⟩|⟨D,aa⟩:=I2 J aH
 .left;refine⟨D,?_⟩;rw[jq]at aa;exact aa
 .right;refine⟨D,?_⟩;rw[jq]at aa;exact aa
end
structure nc(P:f7)(ad:bN)(w:d9)(cs:ac bv)(elem:d7)(b1:Nat×Nat)(aW:Bool)(l:Loc)(C:bi bv)(fw:Nat×Nat):Prop where
 there:∃k7,w.heap[l.cA]? =some (.cells C k7 fw)∧(b1.2<=b1.1∨aW=false->k7=elem)
 kH:l.de+cs.length<=C.size
 room:b1.2<=b1.1∨aW=false->l.de+cs.length+l.ex*P.cellsOf elem<=C.size
 cell:∀(i:Nat) (h:i<cs.length),∃c,C[l.de+i]? =some c∧bo ad cs[i] c
 vb:b1.2<=b1.1->∀i,l.de<=i->i<l.de+cs.length+l.ex*P.cellsOf elem->¬(fw.1<=i∧i<fw.2)
 plain:aW=false->l.ex=0∧l.de=0∧C.size=cs.length
variable{P:f7}{ad:bN}{w:d9}{cs:ac bv}{elem:d7}{b1:Nat×Nat}{aW:Bool}{l:Loc}{fw:Nat×Nat}
def nc.ex{C:bi bv}(h:nc P ad w cs elem b1 aW l C fw):∃U,w.heap[l.cA]? =some (.cells C U fw):=let⟨e,h,_⟩:=h.there;⟨e,h⟩
def nc.wP{C:bi bv}(h:nc P ad w cs elem b1 aW l C fw)(g:b1.2<=b1.1\/aW=false):w.heap[l.cA]? =some (.cells C elem fw):=by
 have⟨e,Y,G⟩:=h.there;rw[Y,G g]
def yA(t:ar bv)(n:Nat):bv:=Option.rec (motive:=λ_=>bv) (.chan<|some 0) (λv=>v)<|t.get n
def EF:be c6->be Code->Prop
 |none,none=>True
 |some (.exit i),some (.exit j)=>i=j
 |some .ret,some .ret=>True
 |_,_=>False
structure I3(bM:Nat->Nat)(clock:Nat):Prop where
 inj:∀s t,s<clock->t<clock->bM s=bM t->s=t
 lt:∀s,s<clock->bM s<bM clock
 up:∀j,bM (clock+j)=bM clock+j
structure jL(ad:bN)(bM:Nat->Nat)(es:ac f6)(clock:Nat)(C:ac f6)(my:Nat):Prop where
 jr:my=bM clock
 nd:I3 bM clock
 born:∀e∈es,e.born<clock
 keys:es.Pairwise (fun a b=>a.key≠b.key)
 jM:es.Pairwise (fun a b=>a.born≠b.born)
 same:∃l:ac f6,l.Perm es∧l.length=C.length∧∀(i:Nat) (h:i<l.length) (u9:i<C.length),bo ad l[i].key C[i].key∧bo ad l[i].val C[i].val∧C[i].born=bM l[i].born
def jL.mono{aJ:bN}{bM:Nat->Nat}{es:ac f6}{clock:Nat}{C:ac f6}{my:Nat}(hle:ad.le aJ)(h:jL ad bM es clock C my):jL aJ bM es clock C my:=
 ⟨h.jr,h.nd,h.born,h.keys,h.jM,let⟨l,Y,G,g⟩:=h.same;⟨l,Y,G,λi a b=>⟨(g i a b).1.mono hle,(g i a b).2.1.mono hle,(g i a b).2.2⟩⟩⟩
structure Ctx where
 P:f7
 ok:d8->Code->dz->Prop
 a6:Nat
 lB:d8->Bool
 lY:d8->Bool
 Bb:∀f,lB f=true->∀x w,(callFunc f #[x]).run P w= .ok (.value x) w
 Bc:∀f,lY f=true->∀s c w,(callFunc f #[.string s,.int .u8 c]).run P w= .ok (.value (goInt (match(List.range s.size).find? (fun i=>s[i]! ==c.toNat.toUInt8)with|some i=>(i:Int)|none=> -1))) w
 keys:d7->be fR
 sx:∀k cn,keys k=some cn->Maps.Keyed P k∧∀v,cn.ok v=true->∃l,keyOf P k v=some l
 qh:d8->Bool
 Bd:∀f,qh f=true->∀s c w,(callFunc f #[.string s,.int .u8 c]).run P w= .ok (.value (goInt (s.data.toList.countP (fun b=>b==c.toNat.toUInt8):Nat))) w
 qi:d8->Bool
 l1:Nat
 Be:l1<a6
 Bf:∀f,qi f=true->∀(s b:f8) (m:Int) w,(load ⟨l1,0,none⟩).run P w= .ok (.int .i64 m) w->2<=b.size->(b.size:Int)<=m->s.size<=1000000->
  (callFunc f #[.string s,.string b]).run P w= .ok (.value (goInt (match qb b.data.toList s.data.toList with|some i=>(i:Int)|none=> -1))) w
 eqs:d7->be Nat
 wQ:∀t n,eqs t=some n->P.eqGuardType P.depth t=false∧∀xs aS b w,xs.size=n%100+n/100->aS.size=n%100+n/100->q9 (n%100) xs.toList aS.toList=some b->(Op.equalIn 10000 t (.agg xs) (.agg aS)).run P w= .ok b w
variable(X:Ctx)
def hA(ad:bN)(w:d9)(R:bG)(l:Loc):Prop:=
 match R with
 |.cells cs elem b1 aW=>∃C fw,nc X.P ad w cs elem b1 aW l C fw
 |.map es clock=>l.de=0/\l.ex=0/\∃C my,w.heap[l.cA]? =some (.map C my)/\jL ad l.bM es clock C.toList my
 |.IG s pos=>l.de=0/\l.ex=0/\w.heap[l.cA]? =some (.stringIter s pos)
 |.nK m U A S=>l.de=0/\l.ex=0/\∃O H g h,w.heap[l.cA]? =some (.mapIter O H g h)/\
  (m=none/\O=none\/∃r b bM,m=some r/\O=some b/\ad r=some ⟨b,0,0,bM⟩/\H=bM U/\g.toList=A.map bM/\h=bM S)
 |.loop s gA fn t bd q body d=>l.de=0/\l.ex=0/\∃L:Loop,w.heap[l.cA]? =some (.loop L)/\L.state=s/\EF gA L.pending/\L.fn=fn/\
  (∀n,bo ad (yA t n)<|L.tmps.getD n undef)/\L.params.toList=bd/\X.ok fn L.assign q/\X.ok fn L.body body/\ad d=some ⟨L.defers,0,0,id⟩/\
  (∃F,X.P.funcs[fn]? =some F/\L.tmps.size=F.ntmps)/\∀t∈bd,t<L.tmps.size
 |.j3 E=>l.de=0/\l.ex=0/\((E=some []/\w.heap[l.cA]? =some (.deferred<|some []))\/(E=none/\w.heap[l.cA]? =some (.deferred none)))
 |.dead=>True
def bG.tq:bG->Prop
 |.cells _ _ b1 _=>b1.1<b1.2
 |_=>False
structure bZ(ad:bN)(st:ao)(w:d9):Prop where
 eJ:∀id R,st.h.get id=some R->R≠.dead->∃l,ad id=some l∧hA X ad w R l
 inj:∀i j R p l m,st.h.get i=some R->R≠.dead->st.h.get j=some p->p≠.dead->ad i=some l->ad j=some m->(l.bM≠eU∨m.bM≠eU)->l.cA=m.cA->i=j
 fresh:∀id,st.ag<=id->ad id=none∧st.h.get id=none
 fY:∀id l,ad id=some l->l.cA<w.heap.size
 k8:∀g,g<X.a6->ad g=some ⟨g,0,0,eU⟩
 nP:X.a6<=st.ag
 k9:∀i l R,ad i=some l->l.bM=eU->st.h.get i=some R->R≠.dead->R.tq
def rl(w aG:d9):Prop:=aG.os=w.os/\aG.output=w.output
structure ei(ad aJ:bN)(w aG:d9):Prop where
 le:ad.le aJ
 size:w.heap.size<=aG.heap.size
 kept:∀b,b<w.heap.size->(∀id l,ad id=some l->l.bM≠eU->l.cA≠b)->aG.heap[b]? =w.heap[b]?
 new:∀id l,aJ id=some l->ad id=some l∨w.heap.size<=l.cA∨∃j m,ad j=some m∧m.bM≠eU∧m.cA=l.cA
 fZ:rl w aG
variable{aG:d9}{aJ:bN}
def ei.refl(ad:bN)(w:d9):ei ad ad w w:=⟨.refl ad,c4 _,λ_ _ _=>o,λ_ _ h=>.inl h,e9⟩
theorem ei.trans{o:bN}{E:d9}(h:ei ad aJ w aG)(D:ei aJ o aG E):ei ad o w E:=by
 refine⟨h.le.trans D.le,cN h.size D.size,λb aa af=>?_,λid l W=>?_,⟨D.fZ.1.trans h.fZ.1,D.fZ.2.trans h.fZ.2⟩⟩
 .rw[D.kept b (fG aa h.size) ?_,h.kept b aa af];intro id l W M e;obtain aj|aj|⟨j,m,A,q,hm⟩:=h.new id l W
  .exact af id l aj M e
  .omega
  .exact af j m A q J
 .obtain aj|aj|⟨j,m,A,M,hm⟩:=D.new id l W
  .exact h.new id l aj
  .exact .inr<|.inl<|cN h.size aj
  .obtain Y|Y|⟨g,O,Y,G,C⟩:=h.new j m A
   .exact .inr<|.inr ⟨j,m,Y,M,hm⟩
   .exact .inr<|.inl J
   .grind
def nc.mono{C:bi bv}
 (h:nc P ad w cs elem b1 aW l C fw) (hle:ad.le aJ) (e:aG.heap[l.cA]? =w.heap[l.cA]?):nc P aJ aG cs elem b1 aW l C fw:=
 ⟨by rw[e];exact h.there,h.kH,h.room,λi af=>let⟨c,Y,G⟩:=h.cell i af;⟨c,Y,G.mono hle⟩,h.vb,h.plain⟩
def hA.mono{R:bG}(h:hA X ad w R l)(hle:ad.le aJ)(e:aG.heap[l.cA]? =w.heap[l.cA]?):hA X aJ aG R l:=by
 cases R with
 |cells cs elem b1 aW=>have⟨C,fw,ah⟩:=h;exact⟨C,fw,ah.mono hle e⟩
 |map es clock=>
  have⟨T,V,C,Q,Y,G⟩:=h;exact⟨T,V,C,Q,by rwa [e],G.mono hle⟩
 |IG s pos=>have⟨T,V,Y⟩:=h;exact⟨T,V,by rwa [e]⟩
 |nK m U A S=>
  have⟨T,V,O,sy,F,H,Y,G⟩:=h;refine⟨T,V,O,sy,F,H,by rwa [e],?_⟩;obtain G|⟨r,b,bM,D,N,J,B⟩:=G
  .exact .inl G
  .exact .inr ⟨r,b,bM,D,N,hle _ _ J,B⟩
 |loop s gA fn t bd q body d=>
  have⟨T,V,L,Y,G,D,N,J,B,M,K,W,g⟩:=h;exact⟨T,V,L,by rwa [e],G,D,N,λn=>(J n).mono hle,B,M,K,hle _ _ W,g⟩
 |j3 E=>
  have⟨T,V,Y⟩:=h;refine⟨T,V,?_⟩;rw[e];exact Y
 |dead=>trivial
def bZ.vc{st:ao}(h:bZ X ad st w)(e:aG.heap=w.heap):bZ X ad st aG:=by
 refine⟨λid R ay S=>?_,h.inj,h.fresh,λid l W=>by rw[e];exact h.fY id l W,h.k8,h.nP,h.k9⟩;have⟨l,W,hm⟩:=h.eJ id R ay S;exact⟨l,W,hA.mono X hm as3 arT⟩
def ei.vc(ad:bN)(e:aG.heap=w.heap)(fZ:rl w aG:=by exact e9):ei ad ad w aG:=
 ⟨.refl ad,by rw[e];exact c4 _,λ_ _ _=>by rw[e],λ_ _ h=>.inl h,fZ⟩
def gK(ad:bN)(id:Nat)(l:Loc):bN:=λi=>if i=id then some l else ad i
theorem bZ.alloc{st:ao}(h:bZ X ad st w)(R:bG)(O:Obj)(ex:Nat)
 (hm:∀aJ aG,ad.le aJ->aJ st.ag=some ⟨w.heap.size,0,ex,id⟩->aG.heap[w.heap.size]? =some O->hA X aJ aG R ⟨w.heap.size,0,ex,id⟩) (aG:d9) (hw:aG.heap=w.heap.push O) (fZ:rl w aG:=by exact e9):
 ∃aJ,bZ X aJ ⟨st.h.set st.ag R,st.ag+1⟩ aG/\ei ad aJ w aG/\aJ st.ag=some ⟨w.heap.size,0,ex,id⟩/\aJ=gK ad st.ag ⟨w.heap.size,0,ex,id⟩:=by
 refine⟨λi=>if i=st.ag then some ⟨w.heap.size,0,ex,id⟩else ad i,?_,?_,aA o,o⟩
 .have hle:ad.le (λi=>if i=st.ag then some ⟨w.heap.size,0,ex,id⟩else ad i):=by
   exact aps
  refine⟨λid p hp S=>?_,λi j p q l m af Y A C D G F e=>?_,λid H=>?_,λid l W=>?_,λg F=>(hle _ _<|h.k8 g F),uJ h.nP,λi l p W M hp S=>?_⟩
  .rw[ar.eP]at hp;by_cases e:id=st.ag
   .grind
   .rw[au e]at hp;obtain⟨l,W,ay⟩:=h.eJ id p hp S;refine⟨l,hle _ _ W,hA.mono X ay hle ?_⟩;have:=h.fY id l W
    grind
  .rw[ar.eP]at af A;by_cases iH:i=st.ag<;>by_cases B:j=st.ag
   .rw[iH,B]
   .exfalso;simp[au B]at G;simp[aA iH]at D;have:=h.fY j m G;cases D;simp only at e;omega
   .exfalso;simp[au iH]at D;simp[aA B]at G;have:=h.fY i l D;cases G;simp only at e;omega
   .simp[au iH]at D af;simp[au B]at G A;exact h.inj i j p q l m af Y A C D G F e
  .have L:st.ag+1<=id:=H;have:=h.fresh id J;refine⟨?_,?_⟩
   .grind
   .rw[ar.eP,au J];exact this.2
  .rw[hw,Array.size_push];by_cases e:id=st.ag
   .simp[aA e]at W;cases W;simp
   .simp[au e]at W;have:=h.fY id l W;omega
  .rw[ar.eP]at hp;by_cases e:i=st.ag
   .simp[aA e]at W;cases W;exact absurd M IZ
   .simp[au e]at W hp;exact h.k9 i l p W M hp S
 .refine⟨?_,by rw[hw];simp,λb aa _=>by rw[hw,Dr,au J],λid l W=>?_,fZ⟩
  .exact aps
  .grind
theorem bZ.yB{st:ao}(h:bZ X ad st w){id:Nat}{oB:bG}(h₀:st.h.get id=some oB)(J:oB≠.dead)(E:¬oB.tq)(aI:ad id=some l)(R:bG)(O:Obj)
 (aG:d9) (hw:aG.heap=w.heap.setIfInBounds l.cA O) (hm:R≠.dead->aG.heap[l.cA]? =some O->hA X ad aG R l) (fZ:rl w aG:=by exact e9):
 bZ X ad ⟨st.h.set id R,st.ag⟩ aG/\ei ad ad w aG:=by
 have aa:=h.fY id l aI;have H:l.bM≠eU:=λe=>E<|h.k9 id l oB aI e h₀ J;refine⟨⟨λj p hp S=>?_,λi j p q a b af Y A C B G F e=>?_,λj A=>?_,λj a D=>?_,h.k8,h.nP,λj a p D M hp S=>?_⟩,?_⟩
 .rw[ar.eP]at hp;by_cases e:j=id
  .grind
  .rw[au e]at hp;obtain⟨m,K,ay⟩:=h.eJ j p hp S;refine⟨m,K,hA.mono X ay as3 ?_⟩;have ae:m.cA≠l.cA:=λZ=>e<|h.inj j id p oB m l hp S h₀ J K aI (.inr H) Z
   grind
 .rw[ar.eP]at af A;have L:∃Q,st.h.get i=some Q/\Q≠.dead:=by
   grind
  have g:∃Q,st.h.get j=some Q/\Q≠.dead:=by
   grind
  obtain⟨Q,W,N⟩:=L;obtain⟨T,a',U⟩:=g;exact h.inj i j Q T a b W N a' U B G F e
 .have:=h.fresh j A;refine⟨this.1,?_⟩;rw[ar.eP,au];exact this.2
  grind
 .rw[hw];simpa using h.fY j a D
 .rw[ar.eP]at hp;by_cases e:j=id
  .grind
  .rw[au e]at hp;exact h.k9 j a p D M hp S
 .refine⟨.refl ad,by rw[hw];simp,λb _ af=>?_,λ_ _ V=>.inl V,fZ⟩
  grind
end Go.bI
namespace Go.bI
mutual
def kI:bv->Bool
 |.bool _|.int _ _|.float _ _|.string _|.pointer none|.slice none _ _|.map none|.nilFunc|.nilIface=>true
 |.func (.func _) x y=>Bg x&&Bg y
 |.iface _ v=>kI v
 |.agg a|.tuple a=>Bg a
 |_=>false
def Bg:bi bv->Bool
 |⟨a⟩=>wR a
def wR:ac bv->Bool
 |[]=>true
 |a::as=>kI a&&wR as
end
mutual
theorem bo.pure(ad:bN):∀v:bv,kI v=true->bo ad v v
 |.bool b,_=>.bool b
 |.int k n,_=>.int k n
 |.float k n,_=>.float k n
 |.complex _ _ _,h=>by simp[kI]at h
 |.string s,_=>.string s
 |.pointer none,_=>.lG
 |.pointer (some _),h=>by simp[kI]at h
 |.slice none n c,_=>.kl n c
 |.slice (some _) _ _,h=>by simp[kI]at h
 |.map none,_=>.nb
 |.map (some _),h=>by simp[kI]at h
 |.chan _,h=>by simp[kI]at h
 |.func (.func f) x y,h=>by
  simp[kI,cQ]at h;exact bo.A6 (.inl ⟨o,az⟩) (bO.h3 ad x h.1) (bO.h3 ad y h.2)
 |.func (.method _) _ _,h=>by simp[kI]at h
 |.func (.methodOf _ _) _ _,h=>by simp[kI]at h
 |.func (.via _ _ _ _) _ _,h=>by simp[kI]at h
 |.func (.yield _) _ _,h=>by simp[kI]at h
 |.nilFunc,_=>.nilFunc
 |.iface t v,h=>.iface t v v (bo.pure ad v asI)
 |.nilIface,_=>.nilIface
 |.agg a,h=>bo.sv (bO.h3 ad a asI)
 |.tuple a,h=>bo.ri<|bO.h3 ad a asI
theorem bO.h3(ad:bN):∀v:bi bv,Bg v=true->bO ad v.toList v.toList
 |⟨a⟩,h=>bO.wS ad a<|by simpa[Bg]using h
theorem bO.wS(ad:bN):∀v:ac bv,wR v=true->bO ad v v
 |[],_=>bO.nil ad
 |a::as,h=>by
  simp[wR,cQ]at h;exact bO.cons (bo.pure ad a h.1)<|bO.wS ad as h.2
end
theorem bo.undef(ad:bN):bo ad undef undef:=bo.pure ad _ o
def gB(a6:Nat):ce->Bool
 |.tmp _=>true
 |.const v=>kI v
 |.global g=>Nat.ble (Nat.succ g) a6
 |.func _=>true
def EG(ad:bN)(d e:Deferred):Prop:=
 bO ad d.args.toList e.args.toList/\
 match d.target,e.target with
 |.fn f c,.fn g Q=>rf ad f g/\bO ad c.toList Q.toList
 |.collected r,.collected b=>ad r=some ⟨b,0,0,id⟩
 |_,_=>False
variable{ad aJ:bN}
def tr(ad:bN):ac Deferred->ac Deferred->Prop
 |[],[]=>True
 |d::aU,e::es=>EG ad d e/\tr ad aU es
 |_,_=>False
def EG.mono(hle:ad.le aJ){d e:Deferred}(h:EG ad d e):EG aJ d e:=by
 have⟨Y,G⟩:=h;refine⟨Y.mono hle,?_⟩;cases S:d.target<;>cases A:e.target<;>simp[S,A]at G⊢
 .exact⟨G.1.mono hle,G.2.mono hle⟩
 .exact hle _ _ G
def tr.mono(hle:ad.le aJ):∀{aU es:ac Deferred},tr ad aU es->tr aJ aU es
 |[],[],_=>trivial
 |_::_,_::_,h=>⟨h.1.mono hle,tr.mono hle h.2⟩
 |[],_::_,h=>h.elim
 |_::_,[],h=>h.elim
structure e1(ad:bN)(I:aO)(a:Act)(aR:Nat):Prop where
 tmp:∀t,bo ad (I.tmp t) (a.tmps.getD t undef)
 size:a.tmps.size=aR
 di:tr ad I.di a.defers
def e1.mono(hle:ad.le aJ){I:aO}{a:Act}{aR:Nat}(h:e1 ad I a aR):e1 aJ I a aR:=
 ⟨λt=>(h.tmp t).mono hle,h.size,h.di.mono hle⟩
variable{X:Ctx}
variable{I:aO}{a:Act}{aR:Nat}
theorem e1.aq{st:ao}{w:d9}(h:e1 ad I a aR)(hw:bZ X ad st w){x:ce}(O:gB X.a6 x=true):bo ad (I.aq x) (a.eval x):=by
 cases x with
 |tmp t=>exact h.tmp t
 |const v=>exact bo.pure ad v O
 |global g=>
  have:=bo.ptr ⟨g,0,none⟩ ⟨g,0,0,eU⟩ (hw.k8 g<|lZ.1 O) o;show bo ad (.pointer<|some ⟨g,0,none⟩) (.pointer<|some ⟨g,0,none⟩);exact aoX
 |func f=>exact bo.A6 (.inl ⟨o,az⟩) (bO.nil ad)<|bO.nil ad
theorem e1.put(h:e1 ad I a aR){d:be Tmp}(S:∀t,d=some t->t<aR){v bA:bv}(Z:bo ad v bA):e1 ad (I.put d v) (a.put d bA) aR:=by
 cases d with
 |none=>exact h
 |some d=>
  refine⟨λt=>?_,by simp[Act.put,h.size],by rw[(re I (some d) v).1];exact h.di⟩;rw[su];have aT:d<a.tmps.size:=by rw[h.size];exact S d o
  simp[Act.put,Option.some.injEq];by_cases e:d=t
  .simp_all
  .rw[au e];have:=h.tmp t
   simp_all
def I4(aJ:bN)(v:bv)(n:Next):Prop:=(∃bA,n= .value bA/\bo aJ v bA)\/(n= .skip/\v=undef)
def nf(X:Ctx)(ad:bN)(w:d9)(v:bv)(al:ao)(s:Sem Next):Prop:=
 ∃aJ n aG,s.run X.P w= .ok n aG/\I4 aJ v n/\bZ X aJ al aG/\ei ad aJ w aG
def oC(X:Ctx)(ad:bN)(w:d9)(v:bv)(st al:ao)(s:Sem Next):Prop:=
 al=st/\bZ X ad st w/\∃bA,s.run X.P w= .ok (.value bA) w/\bo ad v bA
variable{w:d9}{v:bv}{s:Sem Next}
def oC.same{bA:bv}{st:ao}(hw:bZ X ad st w)(aw:s.run X.P w= .ok (.value bA) w)(Z:bo ad v bA):oC X ad w v st st s:=
 ⟨o,hw,bA,aw,Z⟩
def oC.yC{st al:ao}(h:oC X ad w v st al s):nf X ad w v al s:=by
 obtain⟨rfl,hw,bA,aw,Z⟩:=h;exact aqe aqe
def EH(X:Ctx)(ad:bN)(w:d9)(v:bv)(st al:ao)(s:Sem Next):Prop:=
 ∃R O ex bA aG,al=⟨st.h.set st.ag R,st.ag+1⟩/\R≠.dead/\s.run X.P w= .ok (.value bA) aG/\aG.heap=w.heap.push O/\
  bo (gK ad st.ag ⟨w.heap.size,0,ex,id⟩) v bA/\bZ X (gK ad st.ag ⟨w.heap.size,0,ex,id⟩) al aG/\ei ad (gK ad st.ag ⟨w.heap.size,0,ex,id⟩) w aG
def EH.yC{st al:ao}(h:EH X ad w v st al s):nf X ad w v al s:=by
 have⟨R,O,ex,bA,aG,_,_,aw,_,Z,hw,E⟩:=h;exact⟨_,_,aG,aw,.inl ⟨bA,o,Z⟩,hw,E⟩
def nf.same{bA:bv}{st:ao}(hw:bZ X ad st w)(aw:s.run X.P w= .ok (.value bA) w)(Z:bo ad v bA):nf X ad w v st s:=
 aqe
end Go.bI
namespace Go.bI
variable{X:Ctx}
variable{w:d9}{b1:Nat×Nat}{b R:Nat}{e:d7}{P:f7}
def cell_of{C:bi bv}(h:w.heap[b]? =some (.cells C e b1)):w.cell? ⟨b,R,none⟩=C[R]? :=by
 simp[World.cell?,h]
def aa1{C:bi bv}(h:w.heap[b]? =some (.cells C e b1)):w.frozen? ⟨b,R,none⟩=(decide (b1.1<=R)&&decide (R<b1.2)):=by
 simp[World.frozen?,h]
theorem nc.row{ad:bN}{cs:ac bv}{elem:d7}{aW:Bool}{l:Loc}{C:bi bv}{fw:Nat×Nat}
 (h:nc P ad w cs elem b1 aW l C fw) (N n:Nat) (aj:n<=(cs.drop N).length):bO ad ((cs.drop N).take n) ((C.toList.drop<|l.de+N).take n):=by
 have V:(cs.drop N).length=cs.length-N:=az
 have q:=h.kH;refine⟨by simp;omega,λi a b=>?_⟩;simp at a b;obtain⟨c,Y,G⟩:=h.cell (N+i) J
 grind
theorem Pb{n:Nat}{C:bi bv}(h:w.heap[b]? =some (.cells C e b1))(aj:R+n<=C.size):
 (loadCells ⟨b,R,none⟩ n).run P w= .ok ((C.toList.drop R).take n).toArray w:=by
 have W:((C.toList.drop R).take n).length=n:=by simp;omega
 have:=run_loadCells_list (P:=P) w ⟨b,R,none⟩ ((C.toList.drop R).take n) (λj v A=>by
  have g:j<n:=by
   grind
  have U:(Addr.add ⟨b,R,none⟩ j)=⟨b,R+j,none⟩:=by rw[Addr.add];split<;>simp_all
  rw[U,cell_of h];rw[pe,aA g]at A;simpa using A)
 rwa [W]at this
section
variable{ad:bN}{w:d9}
def nc.hB{cs:ac bv}{fw:Nat×Nat}{aW:Bool}{l:Loc}{C:bi bv}(ah:nc P ad w cs e b1 aW l C fw){N m:Nat}(ay:N=l.de+R\/m=0)(aj:m<=(cs.drop R).length):
 bO ad ((cs.drop R).take m) ((C.toList.drop N).take m)/\∀aG:d9,aG.heap=w.heap->(loadCells ⟨l.cA,N,none⟩ m).run P aG= .ok ((C.toList.drop N).take m).toArray aG:=by
 by_cases T:m=0
 .subst T;simp[loadCells,loadCellsFrom,bO.nil]
 .obtain rfl:=ay.resolve_right T;have:=ah.kH;have h:=aj;rw[m5]at h;exact arl arl
theorem I5:∀{dH:ac Int} {aS:ac bv},bO ad (dH.map<|Value.int .u8) aS->aS=dH.map (Value.int .u8)
 |[],_,h=>h.rh
 |n::dH,_,h=>by
  obtain⟨y,aS,rfl,aE,aK⟩:=h.cons_inv;cases aE;rw[I5 aK];rfl
end
theorem I6{P:f7}{b R:Nat}{e:d7}{b1:Nat×Nat}:∀(ab:ac bv) (i:Nat) (C:bi bv) (w:d9),w.heap[b]? =some (.cells C e b1)->R+i+ab.length<=C.size->
 (∀v∈ab,v.oneCell'=true)->(∀j,R+i<=j->j<R+i+ab.length->¬(b1.1<=j/\j<b1.2))->
 ∃aG,(storeCells ⟨b,R,none⟩ ab i).run P w= .ok () aG/\
  aG.heap=w.heap.setIfInBounds b (.cells (C.toList.take (R+i)++(ab++C.toList.drop (R+i+ab.length))).toArray e b1)/\rl w aG
 |[],i,C,w,h,aj,_,_=>by
  refine⟨w,o,?_,e9⟩;have:(C.toList.take (R+i)++([]++C.toList.drop (R+i+([]:ac bv).length))).toArray=C:=az
  apply Ic;intro j;by_cases B:b=j
  .grind
  .rw[Ie B]
 |v::ab,i,C,w,h,aj,Y,D=>by
  simp only[iQ]at aj D;have U:(Addr.add ⟨b,R,none⟩ i)=⟨b,R+i,none⟩:=by unfold Addr.add;split<;>simp_all
  have aT:R+i<C.size:=J
  have ah:w.cell? ⟨b,R+i,none⟩=some C[R+i]:=by rw[cell_of h,wa aT]
  have S:w.frozen? ⟨b,R+i,none⟩=false:=by
   rw[aa1 h]
   simp_all
  have M:(store ⟨b,R+i,none⟩ v).run P w= .ok () (w.setCell ⟨b,R+i,none⟩ v):=by
   rw[run_store P w _ v _<|Y v az,ah];simp[S]
  have aa:=(uK.1 h).1;have V:(w.setCell ⟨b,R+i,none⟩ v).heap=w.heap.setIfInBounds b (.cells (C.setIfInBounds (R+i) v) e b1):=by
   simp[World.setCell]
   grind
  have g:(w.setCell ⟨b,R+i,none⟩ v).heap[b]? =some (.cells (C.setIfInBounds (R+i) v) e b1):=by grind
  obtain⟨aG,aw,K,fZ⟩:=I6 (R:=R) ab (i+1) (C.setIfInBounds (R+i) v) (w.setCell ⟨b,R+i,none⟩ v) g ep (λx O=>Y x asK) λj a c=>D j J J;refine⟨aG,?_,?_,fZ⟩
  .unfold storeCells;rw[U,Sem.run_bind,M];exact aw
  .rw[K,V];rw[Array.setIfInBounds_setIfInBounds];congr 3;have T:(C.setIfInBounds (R+i) v).toList=C.toList.set (R+i) v:=by simp
   rw[T];have Q:(C.toList.set (R+i) v).take (R+(i+1))=C.toList.take (R+i)++[v]:=by
    rw[show R+(i+1)=(R+i)+1 by omega,om<|by simpa using aT,oo<|c4 _];simp
   have Z:(C.toList.set (R+i) v).drop (R+(i+1)+ab.length)=C.toList.drop (R+i+(v::ab).length):=by
    rw[Ds J];congr 1;simp;omega
   rw[Q,Z];simp
section
variable{ad:bN}{I bC:aO}{a:Act}{aR:Nat}{st al:ao}{w:d9}{R:Oper}{v:bv}{call:bR}
variable{t:d7}
def Bh:TypeDesc->Bool
 |.struct _|.array _ _=>true
 |_=>false
def Bi{d:TypeDesc}(h:P.underlying t=some d)(w:d9):(isAgg t).run P w= .ok (Bh d) w:=by
 rw[isAgg,Sem.run_bind,run_underlying h];cases d<;>rfl
def rm{i:f9}(h:P.info? t=some i)(w:d9):(sizeOf t).run P w= .ok i.size w:=by
 simp[sizeOf,typeInfo,h]
end
variable{ad:bN}{cs:ac bv}{elem:d7}{aW:Bool}{l:Loc}
theorem I7{α:Type}(l ab:ac α)(n i:Nat)(h:n+ab.length<=l.length):
 (l.take n++(ab++l.drop (n+ab.length)))[i]? =if i<n then l[i]? else if i<n+ab.length then ab[i-n]? else l[i]? :=by
 grind
theorem nc.store{aG:d9}{C:bi bv}{fw:Nat×Nat}
 (h:nc P ad w cs elem b1 aW l C fw) {N:Nat} {ab W:ac bv} (hle:N+ab.length<=cs.length) (Z:bO ad ab W)
 (hw:aG.heap[l.cA]? =some (.cells (C.toList.take (l.de+N)++(W++C.toList.drop (l.de+N+W.length))).toArray elem fw)):
 nc P ad aG (cs.take N++(ab++cs.drop (N+ab.length))) elem b1 aW l (C.toList.take (l.de+N)++(W++C.toList.drop (l.de+N+W.length))).toArray fw:=by
 have V:=Z.1;have B:=h.kH;have g:(cs.take N++(ab++cs.drop (N+ab.length))).length=cs.length:=by simp;omega
 have K:((C.toList.take (l.de+N)++(W++C.toList.drop (l.de+N+W.length))).toArray).size=C.size:=by simp;omega
 refine⟨⟨_,hw,λ_=>o⟩,by rwa [g,K],λq=>by rw[g,K];exact h.room q,λi af=>?_,λD j=>by rw[g];exact h.vb D j,λF=>by rw[g,K];exact h.plain F⟩;have G:i<cs.length:=J
 have U:=I7 cs ab N i hle;rw[ba af]at U;simp;rw[(I7 C.toList W (l.de+N) (l.de+i) ep)];obtain⟨c,Y,H⟩:=h.cell i G;by_cases Q:i<N
 .grind
 .by_cases E:i<N+ab.length
  .rw[au Q,aA E,ba J]at U;rw[au J,aA J];have A:l.de+i-(l.de+N)=i-N:=by omega
   rw[A,ba J];refine⟨_,o,?_⟩;rw[Option.some.inj U];exact Z.2 (i-N) J J
  .grind
theorem I8{ad:bN}:∀{ab cs:ac bv},bO ad ab cs->hk ab=true->∀c∈cs,c.oneCell'=true
 |[],cs,h,_,c,ah=>by rw[h.rh]at ah;simp at ah
 |v::ab,cs,h,bK,c,ah=>by
  obtain⟨y,aS,rfl,aE,aK⟩:=h.cons_inv;obtain⟨eV,ew⟩:=jK bK az;obtain rfl|ah:=fg.1 ah
  .cases aE<;>first|rfl|(simp[nL,jG]at eV)
  .exact I8 aK ew c ah
def bZ.store{st:ao}(hw:bZ X ad st w){id N:Nat}
 (F:st.h.get id=some (.cells cs elem b1 aW)) (aI:ad id=some l) (S:b1.2<=b1.1) {ab W:ac bv} (hle:N+ab.length<=cs.length) (Z:bO ad ab W) (M:hk ab=true):
 ∃aG,(storeCells ⟨l.cA,l.de+N,none⟩ W).run X.P w= .ok () aG/\bZ X ad ⟨st.h.set id<|.cells (cs.take N++(ab++cs.drop (N+ab.length))) elem b1 aW,st.ag⟩ aG/\ei ad ad w aG:=by
 have⟨E,K,C,fw,ah⟩:=hw.eJ _ _ F az;rw[aI]at K;cases K;have q:=ah.room<|.inl S;have g:=Z.1;obtain⟨aG,aw,V,fZ⟩:=I6 (R:=l.de+N) W 0 C w (ah.wP<|.inl S) J (I8 Z M) (λj Y G=>ah.vb S j J (by
  omega))
 have⟨t1,t2⟩:=bZ.yB X hw F az (λD=>by have D:_<_:=D;omega) aI (.cells (cs.take N++(ab++cs.drop (N+ab.length))) elem b1 aW) _ aG V (λ_ aN=>⟨_,fw,ah.store hle Z aN⟩) fZ;exact⟨aG,aw,t1,t2⟩
def bZ.I9{st:ao}(hw:bZ X ad st w){id:Nat}{R:bG}(F:st.h.get id=some R):bZ X ad ⟨st.h.set id R,st.ag⟩ w:=by
 have e:∀j,(st.h.set id R).get j=st.h.get j:=by
  intro j;rw[ar.eP];split
  .subst_vars;exact F.symm
  .rfl
 exact⟨λj p hp S=>hw.eJ j p asZ S,λi j p q l m af Y A G=>hw.inj i j p q l m asZ Y asZ G,
  λj A=>⟨(hw.fresh j A).1,by rw[e];exact(hw.fresh j A).2⟩,hw.fY,hw.k8,hw.nP,λj l p W M hp S=>hw.k9 j l p W M asZ S⟩
def aa2{v:bv}(h:hk v.cells.toList=true):v≠jG:=by
 intro e;subst e;have D:cond (nL<|.chan<|some 0) true false=true:=h;simp[nL]at D
section
variable{ad:bN}{I bC:aO}{a:Act}{aR:Nat}{st al:ao}{w:d9}{R:Oper}{v:bv}{call:bR}
def bZ.aa3{dP:ac bv}(hw:bZ X ad st w)(elem:d7)(Z:bO ad cs dP)(aG:d9)(cl:aG.heap=w.heap.push (.cells dP.toArray elem))(fZ:rl w aG:=by exact e9):
 ∃aJ,bZ X aJ ⟨st.h.set st.ag<|.cells cs elem (0,0) false,st.ag+1⟩ aG/\ei ad aJ w aG/\aJ st.ag=some ⟨w.heap.size,0,0,id⟩/\aJ=gK ad st.ag ⟨w.heap.size,0,0,id⟩:=by
 refine bZ.alloc X hw _ _ 0 (λaJ g hle _ aN=>?_) aG cl fZ;refine⟨dP.toArray,(0,0),⟨⟨_,aN,λ_=>o⟩,by simp[Z.1],λ_=>by simp[Z.1],λi af=>?_,λ_ j _ _=>az,λ_=>⟨o,o,by simp[Z.1]⟩⟩⟩;have G:i<dP.length:=by rwa [<-Z.1]
 exact⟨dP[i],az,(Z.2 i af G).mono hle⟩
def Bj{t:d7}{i:f9}{z:bv}(h:P.info? t=some i)(aH:i.zero=some z)(w:d9):(zeroValue t).run P w= .ok z w:=by
 simp[zeroValue,typeInfo,h,aH]
end
def aa4{op:BinOp}{x y:bv}{c:bv->a2}{r:a2}(h:AW op x y c=r)(aw:a2.no≠r):
 (∃k a L b,x= .int k a/\y= .int L b/\AV op k a L b c=r)\/(∃s t,x= .string s/\y= .string t/\AU op s t c=r):=by
 cases x with
 |int k a=>
  cases y with
  |int L b=>exact .inl ⟨k,a,L,b,o,o,h⟩
  |_=>exact absurd h aw
 |string s=>
  cases y with
  |string t=>exact .inr ⟨s,t,o,o,h⟩
  |_=>exact absurd h aw
 |_=>exact absurd h aw
theorem wT{a b:f5}(h:j5 a b=true):a=b:=by
 cases a<;>cases b<;>first|rfl|(exact absurd h av)
def aa5(k:f5)(m n:Nat):(BitVec.ofInt k.bits (m:Int)&&&BitVec.ofInt k.bits (n:Int)).toNat=Nat.land (m%2^k.bits) (n%2^k.bits):=by
 simp
def aa6(k:f5)(m n:Nat):(BitVec.ofInt k.bits (m:Int)|||BitVec.ofInt k.bits (n:Int)).toNat=Nat.lor (m%2^k.bits) (n%2^k.bits):=by
 simp
def aa7(k:f5)(m n:Nat):(BitVec.ofInt k.bits (m:Int)^^^BitVec.ofInt k.bits (n:Int)).toNat=Nat.xor (m%2^k.bits) (n%2^k.bits):=by
 simp
def Ja(f:Nat->Nat->Nat)(g:Int)(k:f5)(a b:Int)(c:bv->a2)(F:∀m n:Nat,a=m->b=n->g=k.wrap (f (m%2^k.bits) (n%2^k.bits):Nat)):
 Eu f g k a b c=c (.int k g):=by
 cases a with
 |ofNat m=>
  cases b with
  |ofNat n=>
   show iE k (oy k<|.ofNat<|f (Nat.mod m<|2^k.bits)<|Nat.mod n<|2^k.bits) c=_;rw[iS,lC,F m n o o];rfl
  |negSucc n=>exact iS _ _ _
 |negSucc m=>exact iS _ _ _
def sz(op:BinOp)(k:f5)(a b:Int):be bv:=
 match op with
 |.add=>some (.int k<|k.wrap<|a+b)
 |.sub=>some (.int k<|k.wrap<|a-b)
 |.mul=>some (.int k<|k.wrap<|a*b)
 |.quo=>if b=0 then none else some (.int k<|k.wrap<|a.tdiv b)
 |.rem=>if b=0 then none else some (.int k<|a.tmod b)
 |.and=>some (.int k<|k.wrap (BitVec.ofInt k.bits a&&&BitVec.ofInt k.bits b).toNat)
 |.or=>some (.int k<|k.wrap (BitVec.ofInt k.bits a|||BitVec.ofInt k.bits b).toNat)
 |.xor=>some (.int k<|k.wrap (BitVec.ofInt k.bits a^^^BitVec.ofInt k.bits b).toNat)
 |.andNot=>some (.int k<|k.wrap (BitVec.ofInt k.bits a&&& ~~~(BitVec.ofInt k.bits b)).toNat)
 |.eql=>some (.bool<|a==b)
 |.neq=>some (.bool<|a != b)
 |.lss=>some (.bool<|decide (a<b))
 |.leq=>some (.bool<|decide (a<=b))
 |.gtr=>some (.bool<|decide (b<a))
 |.geq=>some (.bool<|decide (b<=a))
 |_=>none
def Pc(op:BinOp)(k:f5)(a b:Int)(c:bv->a2):AT op k a b c=match sz op k a b with|some v=>c v|none=>.no:=by
 cases op<;>simp only[AT,OL,OM,ON,OO,OP,OQ,OR,OS,OT,OU,OV,IJ,sz]
 .rw[iS,lC,OK]
 .rw[iS,lC,OK,IH];rfl
 .rw[iS,lC,II]
 .rw[AS];by_cases h:b=0
  .subst h;rfl
  .rw[au h,show(b==0)=false by simpa using h];cases a with
   |ofNat m=>
    cases b with
    |ofNat n=>
     show iE k (oy k<|.ofNat<|m/n) c=c (.int k (k.wrap<|(m:Int).tdiv n));rw[iS,lC];rfl
    |negSucc n=>exact iS _ _ _
   |negSucc m=>exact iS _ _ _
 .rw[AS];by_cases h:b=0
  .subst h;rfl
  .rw[au h,show(b==0)=false by simpa using h];cases a with
   |ofNat m=>
    cases b with
    |ofNat n=>exact iS k (Int.ofNat<|m%n) c
    |negSucc n=>exact iS k ((Int.ofNat m).tmod<|Int.negSucc n) c
   |negSucc m=>exact iS k ((Int.negSucc m).tmod b) c
 .exact Ja _ _ _ _ _ _ λm n D aa=>by subst D aa;rw[aa5]
 .exact Ja _ _ _ _ _ _ λm n D aa=>by subst D aa;rw[aa6]
 .exact Ja _ _ _ _ _ _ λm n D aa=>by subst D aa;rw[aa7]
 .exact iS _ _ _
 .rw[AS]
 .rw[AS];rfl
 .rw[qa];congr 2;rw[p1];simp
 .rw[qa]
 .rw[qa];congr 2;rw[p1];simp
 .rw[qa]
def aa8(k:f5)(a:Int)(n:Nat):yp k a n=k.wrap (a*2^(min n k.bits)):=by
 rw[yp,lC,II];congr 2
theorem aa9(k:f5)(a:Int)(n:Nat):wF k a n=a.fdiv (2^(min n k.bits)):=by
 cases a with
 |ofNat m=>
  show ↑(m/2^(min n k.bits))=Int.fdiv m _
  grind
 |negSucc m=>rfl
section
variable{ad:bN}{I bC:aO}{a:Act}{aR:Nat}{st al:ao}{w:d9}{R:Oper}{v:bv}{call:bR}
def Bk{bA:bv}(h:a2.ok v I st=a2.ok bA bC al):v=bA/\I=bC/\st=al:=by cases h;exact sA
def aba(P:f7)(w:d9)(op:BinOp)(t:d7)(x y:ce)(k L:f5)(m n:Int):(eqGuard op t x y (.int k m)<|.int L n).run P w= .ok () w:=by
 cases op<;>simp[eqGuard]
def Jb(P:f7)(w:d9)(op:BinOp)(t:d7)(x y:ce)(s u:f8):(eqGuard op t x y (.string s)<|.string u).run P w= .ok () w:=by
 cases op<;>simp[eqGuard]
def toList_eq(x y:f8):(x.toList==y.toList)=(x.data.toList==y.data.toList):=by
 rw[Lib.toList_data,Lib.toList_data]
def abb{op:BinOp}{k L:f5}{m n:Int}{c:bv->a2}{r:a2}(h:AV op k m L n c=r)(aw:a2.no≠r):
 ∃v,c v=r/\kI v=true/\∀(P:f7) (w:d9) (t:d7),(binOp op t (.int k m)<|.int L n).run P w= .ok v w:=by
 by_cases Y:op= .shl
 .subst Y;obtain⟨b,aa,h⟩:=qf h aw;rw[iS,aa8]at h;exact aoW aoW
 .by_cases G:op= .shr
  .subst G;obtain⟨b,aa,h⟩:=qf h aw;rw[iS,aa9]at h;exact aoW aoW
  .have D:cond (j5 k L) (AT op k m n c) .no=r:=by
    rw[<-h];cases op<;>first|rfl|(exact absurd o Y)|(exact absurd o G)
   obtain⟨E,C⟩:=jK D aw;have:=wT E;subst this;rw[Pc]at C;cases af:sz op k m n with
   |none=>rw[af]at C;exact absurd C aw
   |some v=>
    rw[af]at C;refine⟨v,C,?_,λP w t=>(by
     cases op<;>simp only[sz]at af<;>first
      |(exact absurd o Y)|(exact absurd o G)
      |(cases af;simp[binOp,Op.intArith,Op.intBits,Op.intCmp])
      |(split at af
        .cases af
        .cases af;rename_i aa;simp[binOp,Op.intDiv,aa])
      |(simp at af))⟩
    unfold sz at af;split at af<;>first|(cases af;rfl)|(split at af<;>cases af;rfl)|cases af
end
theorem add_eq(b R n:Nat):Addr.add ⟨b,R,none⟩ n=⟨b,R+n,none⟩:=by rw[Addr.add];split<;>simp_all
def Bl(a:Addr)(n:Nat):(a.add n).block=a.block:=by rw[Addr.add];split<;>rfl
theorem Bm(a:Addr)(n:Nat)(h:a.spot=none):(a.add n).spot=none:=by rw[Addr.add];split<;>simp_all
theorem EI(a:Addr)(n:Nat):(a.add n).off=a.off+n:=by rw[Addr.add];split<;>simp_all
section
variable{ad:bN}{I bC:aO}{a:Act}{aR:Nat}{st al:ao}{w:d9}{R:Oper}{v:bv}{call:bR}
theorem vd(D:e1 ad I a aR)(hw:bZ X ad st w):∀xs:ac ce,(∀x∈xs,gB X.a6 x=true)->bO ad (dt I xs) (xs.map a.eval)
 |[],_=>bO.nil ad
 |x::xs,h=>bO.cons (D.aq hw<|h x az)<|vd D hw xs λy N=>h y<|by simp[N]
end
theorem Pd{t:d7}{d:TypeDesc}{i:f9}{N:Nat}{cs dP:bi bv}{v:bv}(S:P.underlying t=some d)(af:P.info? t=some i)
 (aw:bO ad cs.toList dP.toList) (h:wG N i.size (Bh d) cs.toList=some v) (w:d9):∃bA,(part t dP N).run P w= .ok bA w/\bo ad v bA:=by
 have⟨aj,h⟩:=sw h az;have M:=(aw.drop N).take i.size;cases F:Bh d with
 |true=>
  rw[F]at h;cases h;exact apn apn
 |false=>
  rw[F]at h;have⟨y,g,h⟩:=yy h az;cases h;rw[g]at M;have⟨z,J,aH,Z,Q⟩:=M.cons_inv;have e:dP[N]? =some z:=by
   have:=congrArg (λl=>l[0]?) aH
   grind
  refine⟨z,?_,Z⟩;simp[part,Sem.run_bind,Bi S,F,Result.andThen,r9,if_false,e,Sem.run_pure]
theorem Pe(N:Nat):∀(ab:ac bv) (k:Nat) (C:bi bv),N+k+ab.length<=C.size->
 (ab.zipIdx k).foldl (λcs (p:bv×Nat)=>cs.setIfInBounds (N+p.2) p.1) C=(C.toList.take (N+k)++(ab++C.toList.drop (N+k+ab.length))).toArray
 |[],k,C,_=>by simp
 |v::ab,k,C,h=>by
  simp at h;have aI:N+k<C.toList.length:=by simp;omega
  rw[List.zipIdx_cons,List.foldl_cons,Pe N ab (k+1) _ ep];have T:(C.setIfInBounds (N+k) v).toList=C.toList.set (N+k) v:=az
  rw[T];have Q:(C.toList.set (N+k) v).take (N+(k+1))=C.toList.take (N+k)++[v]:=by
   rw[show N+(k+1)=(N+k)+1 by omega,om as4,oo<|c4 _];simp
  have Z:(C.toList.set (N+k) v).drop (N+(k+1)+ab.length)=C.toList.drop (N+k+(v::ab).length):=by
   rw[Ds J];congr 1;simp;omega
  rw[Q,Z];simp
def bO.abc{dP ab W:ac bv}(h:bO ad cs dP)(Z:bO ad ab W)(n:Nat):
 bO ad (cs.take n++(ab++cs.drop (n+ab.length))) (dP.take n++(W++dP.drop (n+W.length))):=by
 rw[Z.1];exact(h.take n).append<|Z.append<|h.drop _
section
variable{ad:bN}{I bC:aO}{a:Act}{aR:Nat}{st al:ao}{w:d9}{R:Oper}{v:bv}{call:bR}
theorem EJ(E:Nat->be (Nat×Nat))(D:e1 ad I a aR)(hw:bZ X ad st w){c:ac bv->a2}{r:a2}(aw:a2.no≠r):
 ∀(parts:ac (Nat×ce)) (bd:ac (Nat×Nat×ce)),bd=parts.map (λp=>(((E p.1).getD (0,0)).1,((E p.1).getD (0,0)).2,p.2))->(∀p∈parts,(E p.1).isSome/\gB X.a6 p.2=true)->
 ∀(cs:ac bv) (dP:bi bv),bO ad cs dP.toList->oz I bd cs c=r->
  ∃out g,Instr.fill E dP (parts.map λp=>(p.1,a.eval p.2))=some g/\bO ad out g.toList/\c out=r
 |[],_,rfl,_,cs,dP,Y,h=>⟨cs,dP,o,Y,h⟩
 |(i,x)::parts,_,rfl,S,cs,dP,Y,h=>by
  have⟨H,O⟩:=S (i,x) az;have⟨⟨off,bw⟩,A⟩:=Am.1 H;simp[j2,A]at h;have⟨Q,h⟩:=yx h aw;have⟨K,h⟩:=kG h aw;have⟨hle,h⟩:=jo h aw;simp at K hle;have L:off+bw<=cs.length:=hle;have B:I.aq x≠jG:=by intro e;rw[e]at Q;simp[tk,jG]at Q
  have q:=bO.cells (D.aq hw O) B;have V:(a.eval x).cells.size=bw:=by have:=q.1;simp at this;rw[<-this];simpa[h0]using K
  have F:dP.size=cs.length:=by have:=Y.1;simp at this;omega
  have G:oz I (parts.map λp=>(((E p.1).getD (0,0)).1,((E p.1).getD (0,0)).2,p.2)) (cs.take off++(h0 (I.aq x)++cs.drop (off+(h0<|I.aq x).length))) c=r:=by
   obtain⟨_,h⟩|⟨he,h⟩:=I2 h aw
   .exact h
   .rw[he];simp;exact h
  have⟨out,g,C,N,J⟩:=EJ E D hw aw parts _ o (λp hp=>S p<|by simp[hp]) _ ((a.eval x).cells.zipIdx.foldl (λcs (p:bv×Nat)=>cs.setIfInBounds (off+p.2) p.1) dP) (by
   rw[<-Array.foldl_toList,Array.toList_zipIdx,Pe off _ 0 dP ep];have:=Y.abc q off;simpa[h0]using this) G
  refine⟨out,g,?_,N,J⟩;simp only[j2,Instr.fill,A];rw[au ep];exact C
theorem abd{x:ce}{la t:d7}{d:TypeDesc}{i:f9}{z:bv}{ok:Bool}(O:gB X.a6 x=true)(ay:R.op= .typeAssert x la t ok)(S:X.P.underlying t=some d)(Y:∀ms,d≠.interface ms)
 (af:X.P.info? t=some i) (aH:i.zero=some z) (hp:kI z=true) (D:e1 ad I a aR) (hw:bZ X ad st w) (h:IS t z ok x call I st= .ok v bC al):
 bC=I/\oC X ad w v st al (execOp a.eval R):=by
 have g:=D.aq hw O;generalize H:a.eval x=V at g;unfold IS at h;generalize Z:I.aq x=M at h g;have q:bo ad (.tuple #[z,.bool false]) (.tuple #[z,.bool false]):=bo.ri<|bO.cons (bo.pure ad z hp)<|bO.cons (.bool _)<|bO.nil ad;cases M with
 |iface u y=>
  have W:dL u t (a2.ok (cond ok (.tuple #[y,.bool true]) y) I st) (cond ok (a2.ok (.tuple #[z,.bool false]) I st) a2.no)=a2.ok v bC al:=h;cases g with
  |iface _ _ L N=>
   rw[mx]at W;split at W
   .rename_i e;cases W;refine⟨o,oC.same (bA:=if ok then .tuple #[L,.bool true]else L) hw ?_ ?_⟩
    .unfold execOp;rw[ay];simp[Instr.typeAssert,Sem.run_bind,run_underlying S]
     simp_all
    .cases ok
     .exact N
     .exact bo.ri<|bO.cons N<|bO.cons (.bool _)<|bO.nil ad
   .rename_i e;obtain⟨A,W⟩:=jK W az;cases W;refine⟨o,oC.same hw ?_ q⟩;unfold execOp;rw[ay];simp[H,Instr.typeAssert,Sem.run_bind,run_underlying S];cases d<;>first|(exact absurd o<|Y _)|(simp[e,A,Bj af aH,Result.andThen])
 |nilIface=>
  obtain⟨A,h⟩:=jK h az;cases h;cases g;refine⟨o,oC.same hw ?_ q⟩;unfold execOp;rw[ay];simp[H,Instr.typeAssert,Sem.run_bind,run_underlying S];cases d<;>first|(exact absurd o<|Y _)|(simp[A,Bj af aH])
 |_=>exact absurd h<|by simp[yo]
end
theorem Pf{α β:Type}(P:f7)(w:d9)(f:α->Sem β)(g:α->β):∀(l:ac α),(∀x∈l,(f x).run P w= .ok (g x) w)->(l.mapM f).run P w= .ok (l.map g) w
 |[],_=>by simp
 |x::xs,h=>by
  simp[h x az,Pf P w f g xs λy N=>h y<|by simp[N]]
section
variable{ad:bN}{I bC:aO}{a:Act}{aR:Nat}{st al:ao}{w:d9}{R:Oper}{v:bv}{call:bR}
theorem Pg(z:ac bv):∀(n:Nat),z≠[]->q7 z n=(List.range<|n*z.length).map (λj=>z.toArray[j%z.toArray.size]!)
 |0,_=>by simp;rfl
 |n+1,aH=>by
  show e8 z (q7 z n)=_;rw[rj,Pg z n aH,Nat.succ_mul,x3,List.range_add,oq,qW];congr 1
  .apply pf;intro j;by_cases a3:j<z.length
   .simp[a3,hb a3]
   .simp[a3]
  .apply Dt;intro j _;simp
end
section
variable{ad:bN}{I bC:aO}{a:Act}{aR:Nat}{st al:ao}{w:d9}{R:Oper}{v:bv}{call:bR}
theorem Ph(k:f5)(D:e1 ad I a aR)(hw:bZ X ad st w):∀(xs:ac ce) (m r:Int),(∀x∈xs,gB X.a6 x=true)->AY k I xs m=some r->
 ((xs.map a.eval).foldlM Builtin.max2<|.int k m).run X.P w= .ok (.int k r) w
 |[],m,r,_,h=>by cases h;simp
 |x::xs,m,r,S,h=>by
  have⟨L,y,N,aE⟩:=oA h az;have⟨E,G⟩:=jK aE az;have g:=D.aq hw<|S x az;rw[N]at g;generalize H:a.eval x=V at g;cases g;simp[j2,List.foldlM_cons,H,Builtin.max2];have e:(if y>m then y else m)=cond (mv y m) m y:=by
   rw[qa]
   grind
  rw[e];exact Ph k D hw xs _ r (λz aH=>S z<|by simp[aH]) G
theorem Pj(k:f5)(D:e1 ad I a aR)(hw:bZ X ad st w):∀(xs:ac ce) (m r:Int),(∀x∈xs,gB X.a6 x=true)->AZ k I xs m=some r->
 ((xs.map a.eval).foldlM Builtin.min2<|.int k m).run X.P w= .ok (.int k r) w
 |[],m,r,_,h=>by cases h;simp
 |x::xs,m,r,S,h=>by
  have⟨L,y,N,aE⟩:=oA h az;have⟨E,G⟩:=jK aE az;have g:=D.aq hw<|S x az;rw[N]at g;generalize H:a.eval x=V at g;cases g;simp[j2,List.foldlM_cons,H,Builtin.min2];have e:(if y<m then y else m)=cond (mv m y) m y:=by
   rw[qa]
   grind
  rw[e];exact Pj k D hw xs _ r (λz aH=>S z<|by simp[aH]) G
theorem py(D:e1 ad I a aR)(hw:bZ X ad st w){x:be ce}(O:∀y,x=some y->gB X.a6 y=true){d y:Nat}{k:Nat->a2}{r:a2}(h:ft I x d y k=r)(aw:a2.no≠r):
 ∃n,k n=r/\((x=none/\n=d)\/(∃z bE,x=some z/\a.eval z= .int bE (n:Int)/\n<=y)):=by
 cases x with
 |none=>exact⟨d,h,.inl e9⟩
 |some z=>
  have⟨bE,m,hp,Y⟩:=oA h aw;have⟨n,e,G⟩:=qf Y aw;have⟨hle,C⟩:=jo G aw;have aH:=D.aq hw<|O z o;rw[hp]at aH;generalize q:a.eval z=ve at aH;cases aH
  grind
end
def Pk(P:f7)(w:d9)(bE:f5)(n y:Nat)(c:BoundsCode)(h:n<=y):(Instr.sliceBound (.int bE (n:Int)) y c).run P w= .ok n w:=by
 simp[Instr.sliceBound,asIntOf,h]
def EK(v:be bv)(d y n:Nat):Prop:=(v=none/\n=d)\/∃bE,v=some (.int bE (n:Int))/\n<=y
theorem Bn(P:f7)(w:d9)(Q:Bool)(len cap l h m:Nat)(aQ af hc:be bv)(hm:EK hc cap cap m)(cl:EK af len m h)(aI:EK aQ 0 h l)(O:hc≠none->af≠none):
 (Instr.sliceBounds Q len cap aQ af hc).run P w= .ok (l,h,m) w:=by
 unfold Instr.sliceBounds;rcases hm with⟨rfl,rfl⟩|⟨H,rfl,hm⟩
 .clear O;rcases cl with⟨rfl,rfl⟩|⟨q,rfl,cl⟩<;>rcases aI with⟨rfl,rfl⟩|⟨g,rfl,aI⟩<;>simp[Pk, *]
 .rcases cl with⟨rfl,rfl⟩|⟨q,rfl,cl⟩
  .exact absurd o<|O az
  .clear O;rcases aI with⟨rfl,rfl⟩|⟨g,rfl,aI⟩<;>simp[Pk, *]
section
variable{ad:bN}{I bC:aO}{a:Act}{aR:Nat}{st al:ao}{w:d9}{R:Oper}{v:bv}{call:bR}
variable{x:be ce}{d y n:Nat}
def pz(h:(x=none/\n=d)\/(∃z bE,x=some z/\a.eval z= .int bE (n:Int)/\n<=y)):EK (x.map a.eval) d y n:=by
 rcases h with⟨rfl,rfl⟩|⟨z,bE,rfl,Y,G⟩
 .exact .inl e9
 .exact .inr ⟨bE,by simp[Y],G⟩
theorem abe(s:f8)(l h:Nat)(Q:l<=h)(o:h<=s.data.toList.length):(⟨⟨(s.data.toList.drop l).take<|h-l⟩⟩:f8)=s.extract l h:=by
 apply ByteArray.ext;rw[ByteArray.data_extract]
 grind
theorem Pl(h:(x=none/\n=d)\/(∃z bE,x=some z/\a.eval z= .int bE (n:Int)/\n<=y))(S:d<=y):n<=y:=by
 grind
theorem abf{t:d7}{x:ce}{aQ af hc:be ce}{b8:f9}(O:gB X.a6 x=true)(aE:∀y,aQ=some y->gB X.a6 y=true)(aK:∀y,af=some y->gB X.a6 y=true)(a':∀y,hc=some y->gB X.a6 y=true)
 (ae:hc≠none->af≠none) (ay:R.op= .slice t x aQ af hc) (E:X.P.underlying t=some (.slice e)) (Q:X.P.info? e=some b8) (D:e1 ad I a aR) (hw:bZ X ad st w)
 (h:O2 b8.size x aQ af hc call I st= .ok v bC al):bC=I/\oC X ad w v st al (execOp a.eval R):=by
 obtain⟨b,len,cap,hp,V⟩:=yv h az;have g:=D.aq hw O;rw[hp]at g;generalize H:a.eval x=ak at g;cases b with
 |none=>
  have V:ft I hc cap cap (λm=>ft I af len m λh=>ft I aQ 0 h λl=>.ok (.slice none (Nat.sub h l)<|Nat.sub m l) I st)=a2.ok v bC al:=V;obtain⟨m,dp,B⟩:=py D hw a' V az;obtain⟨aj,fa,Z⟩:=py D hw aK dp az;obtain⟨cV,gC,S⟩:=py D hw aE fa az;cases gC;cases g;refine⟨o,oC.same hw ?_ (.kl _ _)⟩;unfold execOp;rw[ay];have aa:=Bn X.P w true len cap cV aj m (aQ.map a.eval) (af.map a.eval) (hc.map a.eval) (pz B) (pz Z) (pz S) (by simpa using ae);simp[H,Instr.sliceAt,Instr.slice,run_underlying E,aa,rm Q]
 |some ch=>
  obtain⟨M,cs,elem,b1,aW,F,bj⟩:=yz V az;obtain⟨l,W,C,fw,ah⟩:=hw.eJ _ _ F az;cases g with
  |fv _ ar N _ _ K ao q=>
   rw[W]at K;cases K;cases aW with
   |false=>
    have A:=ah.plain o;obtain⟨m,dp,B⟩:=py D hw a' bj az;obtain⟨aj,fa,Z⟩:=py D hw aK dp az;obtain⟨cV,gC,S⟩:=py D hw aE fa az;cases gC;refine⟨o,oC.same (bA:=.slice (some (if m=cV then⟨l.cA,N,none⟩else Addr.add ⟨l.cA,N,none⟩ (cV*b8.size))) (aj-cV)<|m-cV) hw ?_ ?_⟩
    .unfold execOp;rw[ay];have aa:=Bn X.P w true len cap cV aj m (aQ.map a.eval) (af.map a.eval) (hc.map a.eval) (pz B) (pz Z) (pz S) (by simpa using ae);have ag:cap+l.ex=cap:=by omega
     rw[ag]at H;simp[H,Instr.sliceAt,Instr.slice,Sem.run_bind,run_underlying E,Result.andThen,aa,rm Q];by_cases c:m=cV<;>simp[c]
    .rw[mx];by_cases c:m=cV
     .rw[aA c,aA c];have:=bo.fv ch l N (Nat.sub aj cV) (Nat.sub m cV) W M (by
       rcases q with h|⟨aE,aK,a'⟩
       .exact .inl h
       .right;have U:Nat.sub m cV=m-cV:=rfl;have T:Nat.sub aj cV=aj-cV:=rfl;refine⟨J,J,a'⟩)
      rw[A.1]at this;exact this
     .rw[au c,au c,add_eq];have L:N=l.de+ch.off:=by
       grind
      subst L;have:=bo.fv (ch.add<|Nat.mul cV b8.size) l (l.de+(ch.add<|Nat.mul cV b8.size).off) (Nat.sub aj cV) (Nat.sub m cV) arY (Bm _ _ M) nQ;rw[A.1,EI,<-Nat.add_assoc]at this;exact this
   |true=>
    obtain⟨ai,dj⟩:=yw bj λ_=>az;obtain⟨Y,dp⟩:=jo dj az;obtain⟨aj,fa,Z⟩:=py D hw aK dp az;obtain⟨cV,gC,S⟩:=py D hw aE fa az;cases gC;subst ai;have G:(af=none/\aj=len)\/(∃z bE,af=some z/\a.eval z= .int bE (aj:Int)/\aj<=cap+l.ex):=by
     grind
    refine⟨o,oC.same (bA:=.slice (some (if cap+l.ex=cV then⟨l.cA,N,none⟩else Addr.add ⟨l.cA,N,none⟩ (cV*b8.size))) (aj-cV)<|cap+l.ex-cV) hw ?_ ?_⟩
    .unfold execOp;rw[ay];have aa:=Bn X.P w true len (cap+l.ex) cV aj (cap+l.ex) (aQ.map a.eval) (af.map a.eval) none (.inl e9) (pz G) (pz S) az;simp[H,Instr.sliceAt,Instr.slice,Sem.run_bind,run_underlying E,Result.andThen,Option.map_none,aa,rm Q];by_cases c:cap+l.ex=cV<;>simp[c]
    .have U:Nat.sub cap cV=cap-cV:=rfl;have T:cap+l.ex-cV=(cap-cV)+l.ex:=by omega
     rw[T];by_cases c:cap+l.ex=cV
     .rw[aA c];exact bo.fv (ch.add<|Nat.mul cV b8.size) l N (Nat.sub aj cV) (Nat.sub cap cV) arY (Bm _ _ M)<|.inr ⟨by show aj-cV=0;omega,J⟩
     .rw[au c,add_eq];refine bo.fv (ch.add<|Nat.mul cV b8.size) l (N+cV*b8.size) (Nat.sub aj cV) (Nat.sub cap cV) arY (Bm _ _ M) ?_;rcases q with h|⟨aE,aK,a'⟩
      .left;rw[EI,h,x4];rfl
      .omega
end
variable{oB:bG}
def bZ.kill{st:ao}(h:bZ X ad st w){id:Nat}(h₀:st.h.get id=some oB):bZ X ad ⟨st.h.set id .dead,st.ag⟩ w:=by
 have H:id<st.ag:=by
  obtain c|c:=fW id st.ag
  .exact c
  .rw[(h.fresh id c).2]at h₀;cases h₀
 refine⟨λj p hp S=>?_,λi j p q l m af Y A C=>?_,λj A=>?_,h.fY,h.k8,h.nP,λj l p W M hp S=>?_⟩
 .rw[ar.eP]at hp;split at hp
  .exact aqg
  .exact h.eJ j p hp S
 .rw[ar.eP]at af A;split at af
  .cases af;exact absurd o Y
  .split at A
   .cases A;exact absurd o C
   .exact h.inj i j p q l m af Y A C
 .have E:st.ag<=j:=A;refine⟨(h.fresh j E).1,?_⟩;rw[ar.eP,au J];exact(h.fresh j E).2
 .rw[ar.eP]at hp;split at hp
  .exact aqg
  .exact h.k9 j l p W M hp S
theorem bZ.abg{st:ao}(h:bZ X ad st w){id:Nat}{bq:Loc}(h₀:st.h.get id=some oB)(a':oB≠.dead)(E:¬oB.tq)(ai:bq.bM≠eU)(aI:ad id=some l)(R:bG)(aj:bq.cA=l.cA)(O:Obj)
 (aG:d9) (hw:aG.heap=w.heap.setIfInBounds l.cA O) (hm:∀aJ:bN,ad.le aJ->aG.heap[bq.cA]? =some O->hA X aJ aG R bq) (fZ:rl w aG:=by exact e9):
 ∃aJ,bZ X aJ ⟨(st.h.set id .dead).set st.ag R,st.ag+1⟩ aG/\ei ad aJ w aG/\aJ st.ag=some bq:=by
 have aa:=h.fY id l aI;have H:l.bM≠eU:=λe=>E<|h.k9 id l oB aI e h₀ a';have ak:id<st.ag:=by
  rcases fW id st.ag with c|c
  .exact c
  .rw[(h.fresh id c).2]at h₀;cases h₀
 have hle:ad.le (λi=>if i=st.ag then some bq else ad i):=by
  intro i m K;show(if i=st.ag then _ else ad i)=_;rw[au];exact K;intro e;subst e;rw[(h.fresh _<|c4 _).1]at K;cases K
 refine⟨λi=>if i=st.ag then some bq else ad i,⟨λj p hp S=>?_,λi j p q Q L af Y A C D G F e=>?_,λj A=>?_,λj Q N=>?_,λg F=>hle _ _<|h.k8 g F,uJ h.nP,λj Q p N M hp S=>?_⟩,⟨hle,by rw[hw];simp,λb _ af=>?_,λj Q N=>?_,fZ⟩,aA o⟩
 .rw[ar.eP]at hp;by_cases e:j=st.ag
  .grind
  .rw[au e,ar.eP]at hp;split at hp
   .exact aqg
   .rename_i ne;obtain⟨m,K,ay⟩:=h.eJ j p hp S;refine⟨m,hle _ _ K,hA.mono X ay hle ?_⟩;have ah:m.cA≠l.cA:=λZ=>ne<|h.inj j id p oB m l hp S h₀ a' K aI (.inr H) Z
    grind
 .have key:∀j p m,((st.h.set id .dead).set st.ag R).get j=some p->p≠.dead->(if j=st.ag then some bq else ad j)=some m->
   (j=st.ag/\m=bq)\/(j≠st.ag/\j≠id/\st.h.get j=some p/\ad j=some m):=by
   intro j p m A S K;rw[ar.eP]at A;by_cases c:j=st.ag
   .grind
   .rw[ar.eP]at A
    grind
  rcases key i p Q af Y D with⟨U,rfl⟩|⟨hD,hY,V,B⟩<;>rcases key j q L A C G with⟨T,rfl⟩|⟨ey,eW,W,ae⟩
  .rw[U,T]
  .exact absurd (h.inj j id q oB L l W C h₀ a' ae aI (.inr H) J) eW
  .exact absurd (h.inj i id p oB Q l V Y h₀ a' B aI (.inr H) J) hY
  .exact h.inj i j p q Q L V Y W C B ae F e
 .have an:st.ag+1<=j:=A;have:=h.fresh j J;exact ar0 ar0
 .rw[hw];simp;by_cases e:j=st.ag
  .grind
  .simp[au e]at N;exact h.fY j Q N
 .rw[ar.eP]at hp;by_cases e:j=st.ag
  .grind
  .rw[au e,ar.eP]at hp;simp[au e]at N;split at hp
   .exact aqg
   .exact h.k9 j Q p N M hp S
 .grind
 .grind
theorem Pm(n B:Nat)(O:n+(n+768)/4<=B):∀r c,c<=B->Builtin.growBy n r c<=B
 |0,c,h=>h
 |r+1,c,h=>by
  rw[Builtin.growBy];split
  .exact h
  .rename_i ah;exact Pm n B O r _ J
def abh(n c:Nat)(h:c<n):Builtin.nextslicecap n c<=n+n/4+448:=by
 rw[Builtin.nextslicecap];split
 .omega
 .split
  .omega
  .exact Pm n _ J 4 c J
def Jc(z:bi bv)(n:Nat):(Builtin.zeroCells z n).size=n*z.size:=by simp[Builtin.zeroCells]
theorem bZ.EL{st:ao}{dP:ac bv}(hw:bZ X ad st w)(elem:d7)(Z:bO ad cs dP)(rest:ac bv)(ex:Nat)(aw:ex*X.P.cellsOf elem<=rest.length)(b1:Nat×Nat)
 (S:∀i,i<cs.length+rest.length->¬(b1.1<=i/\i<b1.2)) (aG:d9) (cl:aG.heap=w.heap.push (.cells (dP++rest).toArray elem b1)) (fZ:rl w aG:=by exact e9):
 ∃aJ,bZ X aJ ⟨st.h.set st.ag<|.cells cs elem (0,0) true,st.ag+1⟩ aG/\ei ad aJ w aG/\aJ st.ag=some ⟨w.heap.size,0,ex,id⟩/\aJ=gK ad st.ag ⟨w.heap.size,0,ex,id⟩:=by
 refine bZ.alloc X hw _ _ ex (λaJ g hle _ aN=>?_) aG cl fZ;refine⟨(dP++rest).toArray,b1,⟨⟨_,aN,λ_=>o⟩,by simp[Z.1],λ_=>by simp[Z.1];omega,λi af=>?_,λ_ j _ A=>?_,λh=>by cases h⟩⟩
 .have G:i<dP.length:=by rwa [<-Z.1]
  refine⟨dP[i],?_,(Z.2 i af G).mono hle⟩;simp[ta G]
 .apply S j
  grind
structure Src(P:f7)(w:d9)(x:bv)(n size:Nat)(new:ac bv):Prop where
 len:(Builtin.lenOf x).run P w= .ok n w
 cells:∀tape drawn,(Builtin.firstCells size n x).run P {w with tape:=tape,drawn:=drawn}= .ok new.toArray {w with tape:=tape,drawn:=drawn}
section
variable{P:f7}{w:d9}{lH la elem:d7}{d:TypeDesc}{i:f9}{x:bv}{n len cap:Nat}{new:ac bv}
theorem EM{base:be Addr}(E:P.underlying lH=some (.slice elem))(O:P.underlying la=some d)(S:∀k,d≠.int k)(af:P.info? elem=some i)(M:Src P w x n i.size new)(aj:len+n<=cap)(ty:d7)(aG:d9)
 (F:∀a,base=some a->(storeCells (a.add<|len*i.size) new).run P w= .ok () aG) (D:base=none->aG=w):
 (Builtin.append_ #[lH,la] ty #[.slice base len cap,x]).run P w= .ok (.slice base (len+n) cap) aG:=by
 simp[Builtin.append_,An,Ao,Du,Sem.run_bind,run_underlying E,Result.andThen,rm af,run_underlying O,Sem.run_pure,r9,if_false,M.len,aj,if_true,Bool.not_false];rw[(M.cells w.tape w.drawn)];cases base with
 |none=>simp;rw[D o]
 |some a=>
  simp_all
theorem Jd{base:be Addr}{z:bv}{hO:ac bv}(E:P.underlying lH=some (.slice elem))(O:P.underlying la=some d)(S:∀k,d≠.int k)(af:P.info? elem=some i)(aH:i.zero=some z)(M:Src P w x n i.size new)
 (aj:cap<len+n) (aa:(5*(len+n)+1792)*(i.bytes+1)<=1125899906842624) (ty:d7)
 (hold:∀tape drawn,(Builtin.firstCells i.size len<|.slice base len cap).run P {w with tape:=tape,drawn:=drawn}= .ok hO.toArray {w with tape:=tape,drawn:=drawn}):
 ∃er aG,len+n<=er/\(Builtin.append_ #[lH,la] ty #[.slice base len cap,x]).run P w= .ok (.slice (some ⟨w.heap.size,0,none⟩) (len+n) er) aG/\
  aG.heap=w.heap.push (.cells (hO++new++(Builtin.zeroCells z.cells<|er-(len+n)).toList).toArray elem)/\rl w aG:=by
 have h:=abh (len+n) cap aj;have H:Builtin.nextslicecap (len+n) cap*i.bytes<=281474976710656:=by
  have aE:4*Builtin.nextslicecap (len+n) cap*i.bytes<=(5*(len+n)+1792)*i.bytes:=jE _ J
  grind
 have K:len+n<=1125899906842624:=by
  grind
 have g:¬(↑(len+n)>IntKind.i64.max/\((false=true)\/i.bytes=0)):=by
  have:IntKind.i64.max=9223372036854775807:=av
  omega
 have L:¬(Builtin.nextslicecap (len+n) cap*i.bytes>2^48):=J
 let q:Question:=.appendCap (len+n) cap elem
 refine⟨q.cut<|w.tape w.drawn q,{w with drawn:=w.drawn+1,heap:=w.heap.push<|.cells (hO++new++(Builtin.zeroCells z.cells<|q.cut (w.tape w.drawn q)-(len+n)).toList).toArray elem},?_,?_,o,e9⟩
 .show len+n<=(len+n)+_;omega
 .have ah:=M.cells w.tape<|w.drawn+1;have ay:=hold w.tape<|w.drawn+1;simp only[Builtin.append_,An,Ao,Du,Sem.run_bind,run_underlying E,Result.andThen,rm af,run_underlying O,Sem.run_pure,r9,if_false,M.len,typeInfo,Bool.not_false];rw[au J];simp only[Sem.run_bind,Sem.run_pure,run_program,Result.andThen,af];rw[au<|by simpa using g];simp only[Sem.run_bind,Sem.run_pure,run_program,Result.andThen,af];rw[au L];simp only[Sem.run_bind,Sem.run_pure,run_program,Result.andThen,af,run_choose,Question.forced,r9,if_false,run_askRoom,if_true];rw[ay];simp only[];rw[ah];simp only[Sem.run_bind,(Bj af aH {w with drawn:=w.drawn+1}),newRow,run_newObj];simp[q];congr 2;simp
end
section
variable{ad:bN}{I bC:aO}{a:Act}{aR:Nat}{st al:ao}{w:d9}{R:Oper}{v:bv}{call:bR}
def abi{lH la:d7}{s x:ce}{bA:bv}{aG:d9}(ay:R.op= .call {callee:=.builtin .append,args:= #[s,x],argTypes:= #[lH,la]})
 (aw:(Builtin.append_ #[lH,la] R.type #[a.eval s,a.eval x]).run X.P w= .ok bA aG):(execOp a.eval R).run X.P w= .ok (.value bA) aG:=by
 unfold execOp;rw[ay];simp[resolve,x5,j2,x6,Sem.run_bind,Sem.run_pure,Result.andThen,invoke,builtin,aw]
def EN{lH la:d7}{d:TypeDesc}{i:f9}{z:bv}{s x:ce}{base:be Addr}{len cap n:Nat}{new a':ac bv}
 (ay:R.op= .call {callee:=.builtin .append,args:= #[s,x],argTypes:= #[lH,la]}) (E:X.P.underlying lH=some (.slice elem)) (O:X.P.underlying la=some d) (S:∀k,d≠.int k) (af:X.P.info? elem=some i) (aH:i.zero=some z)
 (aD:z.cells.size=i.size) (hw:bZ X ad st w) (aC:bo ad (.slice base len cap) (a.eval s)) (ae:Src X.P w (a.eval x) n i.size a') (Q:bO ad new a') (ai:new.length=n*i.size) (aQ:hk new=true)
 (h:j6 I st elem i.size i.bytes base len cap n new= .ok v bC al):bC=I/\nf X ad w v al (execOp a.eval R):=by
 obtain⟨aa,g⟩:=jo h az;have ar:(5*(len+n)+1792)*(i.bytes+1)<=1125899906842624:=aa;have T:X.P.cellsOf elem=i.size:=by simp[Program.cellsOf,af]
 have aY:a'.length=n*i.size:=by rw[<-Q.1];exact ai
 generalize a4:a.eval s=bp at aC;have W:= @abi X a w R lH la s x;rw[a4]at W;cases base with
 |none=>
  obtain⟨bn,cy⟩:=kG (g:dL len 0 _ _=_) az;obtain⟨bf,B⟩:=kG cy az;subst bn bf;cases aC;rw[mx]at B;split at B
  .rename_i aq;subst aq;cases B;exact⟨o,nf.same (bA:=.slice none 0 0) hw (W ay<|EM E O S af ae J R.type w (λa h=>by cases h) qj)<|.kl _ _⟩
  .rename_i aq;rw[gV]at B;cases B;obtain⟨er,aG,aU,aw,V,fZ⟩:=Jd (base:=none) (len:=0) (cap:=0) (hO:=[]) E O S af aH ae J ar R.type λ_ _=>o;obtain⟨aJ,bU,H,Z,_⟩:=hw.EL elem Q (Builtin.zeroCells z.cells<|er-(0+n)).toList (er-(0+n)) (by
    rw[jm,Jc,aD,T];exact c4 _) (0,0) (λi _=>az) aG (by rw[V];simp) fZ
   refine⟨o,aJ,.value _,aG,W ay aw,.inl ⟨_,o,?_⟩,bU,H⟩;have:=bo.fv (ad:=aJ) ⟨st.ag,0,none⟩ ⟨w.heap.size,0,er-(0+n),id⟩ 0 (0+n) (0+n) Z o nQ
   rwa [show 0+n+(er-(0+n))=er by omega]at this
 |some ch=>
  obtain⟨M,cs,el,b1,aW,F,cy⟩:=yz (g:ao.gy st ch _ _=_) az;obtain⟨an,B⟩:=jo cy az;obtain⟨bb,bj⟩:=jo B az;obtain⟨aI,dj⟩:=jo bj az;obtain⟨bg,dp⟩:=kG dj az;rw[fi]at aI;have br:ch.off+cap*i.size<=cs.length:=aI;subst bg;obtain⟨l,aj,C,fw,ah⟩:=hw.eJ _ _ F az;have bl:=ah.room<|.inl an;rw[T]at bl;cases aC with
  |fv _ bx N _ _ K bt q=>
   rw[aj]at K;cases K;have bw:len*i.size<=cap*i.size:=jE _ bb;rw[mx]at dp;split at dp
   .rename_i aq;subst aq;cases dp;have aZ:a'=[]:=by
     have:a'.length=0:=by rw[aY];simp
     exact pg this
    refine⟨o,nf.same (bA:=.slice (some ⟨l.cA,N,none⟩) (len+0)<|cap+l.ex) hw ?_ (.fv _ _ _ _ _ aj M q)⟩;refine W ay<|EM E O S af ae J R.type w (λa h=>?_) ao6;rw[aZ];rfl
   .rename_i aq;have aB:∀(bU:len+n<=cap+l.ex),N=l.de+ch.off:=by
     intro bU;rcases q with h|⟨Y,G,bs⟩
     .exact h
     .omega
    obtain⟨aV,bc⟩:=ah.hB (R:=ch.off) (m:=len*i.size) (q.imp_right λe=>by rw[e.1,jC]) ep;have hold:∀aX aT,(Builtin.firstCells i.size len<|.slice (some ⟨l.cA,N,none⟩) len<|cap+l.ex).run X.P {w with tape:=aX,drawn:=aT}= .ok ((C.toList.drop N).take<|len*i.size).toArray {w with tape:=aX,drawn:=aT}:=λ_ _=>bc _ o;cases aW with
    |true=>
     obtain⟨bk,fa⟩:=sw (dp:hX cs ch.off _ _ _=_) az;rw[jq,gV,rj]at fa;cases fa;by_cases D:len+n<=cap+l.ex
     .have L:=aB D;subst L;have aK:n*i.size+len*i.size<=(cap+l.ex)*i.size:=by rw[<-Nat.add_mul];exact jE _ J
      rw[fP]at aK;obtain⟨aG,aw,V,fZ⟩:=I6 (P:=X.P) (R:=l.de+ch.off+len*i.size) a' 0 C w (ah.wP<|.inl an) J (I8 Q aQ) (λj Y G=>ah.vb an j J<|by rw[T];omega);simp only[sa]at V;have a1:=W ay<|EM (base:=some ⟨l.cA,l.de+ch.off,none⟩) E O S af ae D R.type aG (λa h=>by cases h;rw[add_eq];exact aw) ao6;obtain⟨aJ,bU,H,Z⟩:=bZ.abg (X:=X) hw F az (λaM=>by have aM:_<_:=aM;omega) IZ aj (.cells ((cs.drop ch.off).take (len*i.size)++new) el (0,0) true) (bq:=⟨l.cA,l.de+ch.off,cap+l.ex-(len+n),id⟩) o _ aG V (λaJ hle aN=>by
       have aL:(C.toList.take (l.de+ch.off+len*i.size)++(a'++C.toList.drop (l.de+ch.off+len*i.size+a'.length))).length=C.size:=by simp;omega
       have ak:((cs.drop ch.off).take<|len*i.size).length=len*i.size:=by simp;omega
       have aO:(cap+l.ex-(len+n))*i.size=(cap*i.size+l.ex*i.size)-(len*i.size+n*i.size):=by rw[Nat.sub_mul,fP,fP]
       refine⟨_,fw,⟨⟨_,aN,λ_=>o⟩,?_,λ_=>?_,λj b'=>?_,λ_ j Y G=>?_,λh=>by cases h⟩⟩
       .rw[List.size_toArray,aL,k4,ak,ai];simp only;omega
       .rw[List.size_toArray,aL,T,k4,ak,ai];simp only;rw[aO];omega
       .simp only[An];rw[k4,ak,ai]at b';rw[I7 C.toList a' (l.de+ch.off+len*i.size) (l.de+ch.off+j) ep];by_cases c:j<len*i.size
        .rw[aA J];obtain⟨EO,U,a7⟩:=ah.cell (ch.off+j) J;refine⟨EO,by rw[<-U];simp[x4],?_⟩;rw[List.getElem_append_left J];simp only[List.getElem_take,Ig];exact a7.mono hle
        .rw[au J,aA J];rw[show l.de+ch.off+j-(l.de+ch.off+len*i.size)=j-len*i.size by omega,ba J];refine⟨_,o,?_⟩;rw[Ih J];simp only[ak];exact(Q.2 _ J J).mono hle
       .refine ah.vb an j ?_ ?_
        .simp only at Y;omega
        .rw[T]at G⊢;rw[k4,ak,ai]at G;simp only at G;rw[aO]at G;omega) fZ
      refine⟨o,aJ,.value _,aG,a1,.inl ⟨_,o,?_⟩,bU,H⟩;have:=bo.fv (ad:=aJ) ⟨st.ag,0,none⟩ ⟨l.cA,l.de+ch.off,cap+l.ex-(len+n),id⟩ (l.de+ch.off) (len+n) (len+n) Z o nQ
      rwa [show len+n+(cap+l.ex-(len+n))=cap+l.ex by omega]at this
     .obtain⟨er,aG,aU,aw,V,fZ⟩:=Jd (base:=some ⟨l.cA,N,none⟩) (len:=len) (cap:=cap+l.ex) E O S af aH ae J ar R.type hold;obtain⟨aJ,bU,H,Z,_⟩:=(hw.kill F).EL el (aV.append Q) (Builtin.zeroCells z.cells<|er-(len+n)).toList (er-(len+n)) (by
       rw[jm,Jc,aD,T];exact c4 _) (0,0) (λi _=>az) aG (by rw[V]) fZ
      refine⟨o,aJ,.value _,aG,W ay aw,.inl ⟨_,o,?_⟩,bU,H⟩;have:=bo.fv (ad:=aJ) ⟨st.ag,0,none⟩ ⟨w.heap.size,0,er-(len+n),id⟩ 0 (len+n) (len+n) Z o nQ
      rwa [show len+n+(er-(len+n))=er by omega]at this
    |false=>
     have aP:cap+l.ex=cap:=by rw[(ah.plain o).1];rfl
     rw[aP]at W hold aB;have dp:eB (len+n) cap (p9 cs (Nat.add ch.off<|Nat.mul len i.size) new (λa5=>st.hf ch.block (.cells a5 el b1 false) λst=>a2.ok (.slice (some ch) (len+n) cap) I st) .no)
      (hX cs ch.off (Nat.mul len i.size) (λhO=>st.iD (.cells (e8 hO new) el (0,0) true) λid st=>.ok (.slice (some ⟨id,0,none⟩) (len+n)<|len+n) I st) .no)=a2.ok v bC al:=dp
     rw[l0]at dp;split at dp
     .rename_i D;have L:=aB D;subst L;have aK:n*i.size+len*i.size<=cap*i.size:=by rw[<-Nat.add_mul];exact jE _ J
      have a0:ch.off+len*i.size+new.length<=cs.length:=by rw[ai];omega
      have fa:st.hf ch.block (.cells (cs.take (ch.off+len*i.size)++(new++cs.drop (ch.off+len*i.size+new.length))) el b1 false) (λst=>a2.ok (.slice (some ch) (len+n) cap) I st)=a2.ok v bC al:=by
       rcases I2 dp az with⟨_,fa⟩|⟨A,fa⟩
       .exact fa
       .rw[A];simp;exact fa
      rw[jq]at fa;cases fa;obtain⟨aG,aw,bU,H⟩:=hw.store F aj an a0 Q aQ;refine⟨o,ad,.value _,aG,(W ay<|EM (base:=some ⟨l.cA,l.de+ch.off,none⟩) E O S af ae D R.type aG (λa h=>by cases h;rw[add_eq,x4];exact aw) ao6),.inl ⟨_,o,?_⟩,bU,H⟩;have:=bo.fv (ad:=ad) ch l (l.de+ch.off) (len+n) cap aj M nQ
      rwa [aP]at this
     .rename_i D;obtain⟨bk,fa⟩:=sw dp az;rw[gV,rj]at fa;cases fa;obtain⟨er,aG,aU,aw,V,fZ⟩:=Jd (base:=some ⟨l.cA,N,none⟩) (len:=len) (cap:=cap) E O S af aH ae J ar R.type hold;obtain⟨aJ,bU,H,Z,_⟩:=hw.EL el (aV.append Q) (Builtin.zeroCells z.cells<|er-(len+n)).toList (er-(len+n)) (by
       rw[jm,Jc,aD,T];exact c4 _) (0,0) (λi _=>az) aG (by rw[V]) fZ
      refine⟨o,aJ,.value _,aG,W ay aw,.inl ⟨_,o,?_⟩,bU,H⟩;have:=bo.fv (ad:=aJ) ⟨st.ag,0,none⟩ ⟨w.heap.size,0,er-(len+n),id⟩ 0 (len+n) (len+n) Z o nQ
      rwa [show len+n+(er-(len+n))=er by omega]at this
end
theorem Bo:∀bH:ac ci,nN bH=bH.map λb=>Value.int .u8 (b.toNat:Int)
 |[]=>rfl
 |b::bH=>by show _::nN bH=_;rw[Bo bH];rfl
theorem Pn:∀bH:ac ci,hk (nN bH)=true
 |[]=>rfl
 |_::bH=>Pn bH
theorem Je(ad:bN):∀bH:ac ci,bO ad (nN bH) (nN bH)
 |[]=>bO.nil ad
 |_::bH=>bO.cons (.int _ _)<|Je ad bH
theorem Jf:∀{ab:ac bv} {bH:ac ci},bytesOf ab=some bH->∃dH:ac Int,ab=dH.map (Value.int .u8)/\bH=dH.map (λn=>UInt8.ofNat n.toNat)
 |[],bH,h=>by cases h;exact apm apm
 |v::ab,bH,h=>by
  have⟨k,n,e,cy⟩:=oA h az;have⟨E,B⟩:=jK cy az;have⟨r,aw,bj⟩:=ig B az;cases bj;have⟨dH,U,T⟩:=Jf aw;have:=wT E;subst this;exact⟨n::dH,by simp[e,U],by simp[T]⟩
section
variable{ad:bN}{I bC:aO}{a:Act}{aR:Nat}{st al:ao}{w:d9}{R:Oper}{v:bv}{call:bR}
theorem abj(P:f7)(w:d9)(s:f8)(size:Nat):Src P w (.string s) s.data.toList.length size (nN s.data.toList):=by
 have K:=(jm (xs:=s.data)).symm;refine⟨by rfl,λh q=>?_⟩;simp[Builtin.firstCells,Sem.run_pure]
 grind [Bo]
theorem abk{lH la:d7}{d:TypeDesc}{i:f9}{z:bv}{s x:ce}(M:gB X.a6 s=true)(ae:gB X.a6 x=true)(ay:R.op= .call {callee:=.builtin .append,args:= #[s,x],argTypes:= #[lH,la]})
 (E:X.P.underlying lH=some (.slice elem)) (O:X.P.underlying la=some d) (S:∀k,d≠.int k) (af:X.P.info? elem=some i) (aH:i.zero=some z) (a':z.cells.size=i.size)
 (D:e1 ad I a aR) (hw:bZ X ad st w) (h:O3 elem i.size i.bytes s x call I st= .ok v bC al):bC=I/\nf X ad w v al (execOp a.eval R):=by
 have⟨base,len,cap,J,g⟩:=yv h az;have Q:=D.aq hw M;rw[J]at Q;have L:=D.aq hw ae;generalize H:I.aq x=V at g L;cases V with
 |slice b n c=>
  cases b with
  |none=>
   have⟨ag,B⟩:=kG g az;subst ag;generalize A:a.eval x=km at L;cases L;refine EN ay E O S af aH a' hw Q ?_ (bO.nil ad) az o B;simpa[A]using⟨o,λ_ _=>o⟩
  |some b=>
   have⟨Z,cs,el,b1,aW,F,aj,B⟩:=EE g az;have⟨aa,bj⟩:=jK B az;have⟨l,aI,C,fw,ah⟩:=hw.eJ _ _ F az;generalize A:a.eval x=km at L;cases L with
   |fv _ bq N _ _ K W q=>
    rw[aI]at K;cases K;have⟨Y,G⟩:=ah.hB (q.imp_right λe=>show n*i.size=0 by rw[e.1,jC]) aj;exact EN ay E O S af aH a' hw Q (by rw[A];exact⟨o,λ_ _=>G _ o⟩) Y (by grind) aa bj
 |string ai=>
  have⟨T,B⟩:=kG g az;rw[fi]at B;generalize A:a.eval x=km at L;cases L;exact EN ay E O S af aH a' hw Q (by rw[A];exact abj X.P w ai i.size) (Je ad _) (by rw[Bo,hV,T,ph]) (Pn _) B
 |chan p=>
  cases p with
  |none=>
   have U:∀(k:be Addr->Nat->Nat->a2) z,h2 (.chan none) k z=z:=λ_ _=>o;have h4:∀a z:a2,so (.chan none) a z=a:=λ_ _=>o;simp[U,h4]at g;generalize A:a.eval x=km at L;cases L;refine EN ay E O S af aH a' hw Q ?_ (bO.nil ad) az o g;rw[A];refine⟨o,λtape drawn=>?_⟩;simp[Builtin.firstCells];simp[loadCells,loadCellsFrom]
  |some _=>exact absurd g (by simp[h2,h1,so])
 |_=>exact absurd g<|by simp[h2,h1,so]
end
section
variable{ad:bN}{I bC:aO}{a:Act}{aR:Nat}{st al:ao}{w:d9}{R:Oper}{v:bv}{call:bR}
theorem abl{lH la:d7}{i:f9}{d s:ce}(S:gB X.a6 d=true)(M:gB X.a6 s=true)(ay:R.op= .call {callee:=.builtin .copy,args:= #[d,s],argTypes:= #[lH,la]})
 (E:X.P.underlying lH=some (.slice elem)) (af:X.P.info? elem=some i) (D:e1 ad I a aR) (hw:bZ X ad st w) (h:O4 i.size d s call I st= .ok v bC al):
 bC=I/\nf X ad w v al (execOp a.eval R):=by
 obtain⟨ar,g,au,ao,cy⟩:=yv h az;obtain⟨aE,aL,hg,J,B⟩:=yv cy az;have a':=D.aq hw S;rw[ao]at a';have Q:=D.aq hw M;rw[J]at Q;have O:∀{bA:bv} {aG:d9},(Builtin.copy_ #[lH,la] R.type #[a.eval d,a.eval s]).run X.P w= .ok bA aG->(execOp a.eval R).run X.P w= .ok (.value bA) aG:=by
  intro bA aG aw;unfold execOp;rw[ay];simp[resolve,x5,j2,x6,Sem.run_bind,Sem.run_pure,Result.andThen,invoke,builtin,aw]
 generalize A:a.eval d=aT at a' O;generalize aZ:a.eval s=aO at Q O;cases ar with
 |none=>
  obtain⟨bS,bj⟩:=kG B az;subst bS;cases bj;cases a';refine⟨o,nf.same hw (O ?_)<|.int _ _⟩;cases Q<;>simp[Builtin.copy_,run_underlying E,Builtin.lenOf,rm af,Builtin.firstCells,loadCells,loadCellsFrom,goInt]
 |some ch=>
  cases aE with
  |none=>
   obtain⟨bS,bj⟩:=kG B az;subst bS;cases bj;cases Q;refine⟨o,nf.same hw (O ?_)<|.int _ _⟩;cases a';simp[Builtin.copy_,run_underlying E,Builtin.lenOf,rm af,Builtin.firstCells,goInt,storeCells]
  |some ak=>
   have bj:st.load ak (Nat.mul (eB aL g aL g) i.size) (λab=>cond (hk ab) (st.store ch ab (λst=>a2.ok (.int .i64<|.ofNat<|eB aL g aL g) I st) .no) .no) .no=a2.ok v bC al:=B;rw[show eB aL g aL g=Nat.min aL g by rw[l0];show _=min aL g;rw[Nat.min_def],show Nat.mul (Nat.min aL g) i.size=Nat.min aL g*i.size from rfl]at bj;obtain⟨aY,cs,el,b1,aW,F,aj,dj⟩:=EE bj az;obtain⟨aM,dp⟩:=jK dj az;obtain⟨a1,aP,L,aN,V,aa,aB,fa⟩:=Pa dp az;obtain⟨l,aI,C,fw,ah⟩:=hw.eJ _ _ F az;obtain⟨Z,T,a0⟩:=hw.eJ _ _ aa az;cases Q with
   |fv _ bq N _ _ K W q=>
    rw[aI]at K;cases K;cases a' with
    |fv _ aU ag _ _ ai aX aV=>
     rw[T]at ai;cases ai;have aC:aL=0\/g=0->Nat.min aL g=0:=by grind
     obtain⟨Y,G⟩:=ah.hB (q.imp_right λe=>show Nat.min aL g*i.size=0 by rw[aC<|.inl e.1,jC]) aj;have aA:(Builtin.firstCells i.size (Nat.min aL g)<|.slice (some ⟨l.cA,N,none⟩) aL<|hg+l.ex).run X.P w= .ok ((C.toList.drop N).take<|Nat.min aL g*i.size).toArray w:=G w o;have U:∀aG,(storeCells ⟨Z.cA,ag,none⟩<|(C.toList.drop N).take<|Nat.min aL g*i.size).run X.P w= .ok () aG->
      (Builtin.copy_ #[lH,la] R.type #[.slice (some ⟨Z.cA,ag,none⟩) g (au+Z.ex),.slice (some ⟨l.cA,N,none⟩) aL<|hg+l.ex]).run X.P w= .ok (.int .i64 (Nat.min aL g:Nat)) aG:=by
      intro aG aw;simp[Builtin.copy_,An,Ao,Du,Sem.run_bind,run_underlying E,Result.andThen,rm af,Builtin.lenOf,Sem.run_pure];rw[aA];simp[aw,goInt]
     rcases fa with⟨hle,gC⟩|⟨he,gC⟩
     .cases gC;by_cases aH:(cs.drop ak.off).take (Nat.min aL g*i.size)=[]
      .have ae:(C.toList.drop N).take (Nat.min aL g*i.size)=[]:=by
        grind
       refine⟨o,ad,.value _,w,O (U w<|by rw[ae];rfl),.inl ⟨_,o,.int _ _⟩,?_,.refl ad w⟩;have:=hw.I9 aa;rw[aH];simpa using this
      .have aD:ag=Z.de+ch.off:=by
        grind
       subst aD;obtain⟨aG,aw,bU,H⟩:=hw.store aa T aB hle Y aM;exact⟨o,ad,.value _,aG,O<|U aG aw,.inl ⟨_,o,.int _ _⟩,bU,H⟩
     .cases gC;have ae:(C.toList.drop N).take (Nat.min aL g*i.size)=[]:=by
       have:=Y.1;rw[he]at this;exact pg this.symm
      exact⟨o,ad,.value _,w,O (U w<|by rw[ae];rfl),.inl ⟨_,o,.int _ _⟩,hw.I9 aa,.refl ad w⟩
theorem Po(P:f7)(w:d9)(f:bv->f8->Sem (ForInStep f8))(D:∀n s,f (.int .u8 n) s=pure (.yield<|s.push<|UInt8.ofNat n.toNat)):∀(dH:ac Int) (s:f8),
 (forIn (dH.map<|Value.int .u8).toArray s f:Sem f8).run P w= .ok ⟨⟨s.data.toList++dH.map λn=>UInt8.ofNat n.toNat⟩⟩ w
 |[],s=>by simp
 |n::dH,s=>by
  simp[j2,D];have:=Po P w f D dH (s.push<|UInt8.ofNat n.toNat)
  simp_all
end
theorem Pp(P:f7)(e:d7)(o N n:Nat)(M:P.cellsOf e≠0)(bS:N%P.cellsOf e=0)(aj:N/P.cellsOf e+n<=o):liesAt P P.depth e o N e n=true:=by
 have S:P.depth=(2*(P.types.size+Made.depth)+1)+1:=rfl;rw[S];have h:sameLayout P (2*(P.types.size+Made.depth)+1+1) e e=true:=by simp[sameLayout]
 have aw:rowAt P (sameLayout P P.depth · e) P.depth e o N n=true:=by
  rw[S];simp only[rowAt];rw[au M];simp[bS,aj,h]
 simp only[liesAt];rw[aw];rfl
theorem Pq(c:ci):∀(l:ac ci),sr c l=(List.range l.length).find? (λi=>l[i]! ==c)
 |[]=>rfl
 |b::bH=>by
  show cond (Nat.beq b.toNat c.toNat) (some 0) (bx (sr c bH) (λi=>some<|Nat.succ i) none)=_;rw[iQ,Dv,Ii];by_cases aa:b=c
  .subst aa;simp
  .have aE:Nat.beq b.toNat c.toNat=false:=by
    rw[x2];intro V;exact aa<|Dw.1<|dy V
   have G:((b::bH)[0]! ==c)=false:=by grind
   rw[aE,G,List.find?_map,Pq c bH];have:((λi=>(b::bH)[i]! ==c)∘Nat.succ)=(λi=>bH[i]! ==c):=by grind
   rw[this];cases(List.range bH.length).find? (λi=>bH[i]! ==c)<;>rfl
section
variable{ad:bN}{I bC:aO}{a:Act}{aR:Nat}{st al:ao}{w:d9}{R:Oper}{v:bv}{call:bR}
def EP{f:d8}{args:bi ce}{aF:bi d7}(ay:R.op= .call {callee:=.value<|.func f,args:=args,argTypes:=aF}):
 (execOp a.eval R).run X.P w=(callFunc f<|args.map a.eval).run X.P w:=by
 rw[execOp];rw[ay];simp[resolve,Act.eval,Deferred.ofValue,invoke]
def abm(aF:bi d7)(t:d7)(n c:Nat):Builtin.unsafeSliceData_ aF t #[.slice none n c]=pure (.pointer none):=rfl
def abn(aF:bi d7)(t:d7)(b:Addr)(n c:Nat)(ah:c≠0):Builtin.unsafeSliceData_ aF t #[.slice (some b) n c]=pure (.pointer<|some b):=by
 have:Builtin.unsafeSliceData_ aF t #[.slice (some b) n c]=(if c≠0 then pure (.pointer<|some b)else do
  if(<-viewAt b.block).isSome then pure (.pointer<|some b)
  else pure (.pointer<|some ⟨<-newObj (.view b<|<-elemOf t),0,none⟩)):=rfl
 rw[this,aA ah]
def ER{C:bi bv}(h:w.heap[b]? =some (.cells C e b1)):w.shape? b=some (e,C.size):=by simp[World.shape?,h]
def Pr(P:f7){ch:Addr}{C:bi bv}(h:w.heap[ch.block]? =some (.cells C e b1)):(Conv.seenAt ch).run P w= .ok ch w:=by
 simp[Conv.seenAt,viewAt,ER h]
end
section
variable{ad:bN}{I bC:aO}{a:Act}{aR:Nat}{st al:ao}{w:d9}{R:Oper}{v:bv}{call:bR}
theorem Ps(P:f7)(w:d9)(b:Nat)(C:bi bv)(e:d7)(b1:Nat×Nat)(h:w.heap[b]? =some (.cells C e b1)):∀(dH:ac Int) (R:Nat) (Q:f8),(C.toList.drop R).take dH.length=dH.map (Value.int .u8)->
 (loadBytes ⟨b,R,none⟩ Q dH.length).run P w= .ok ⟨⟨Q.data.toList++dH.map λn=>UInt8.ofNat n.toNat⟩⟩ w
 |[],R,Q,_=>by simp[loadBytes]
 |n::dH,R,Q,ah=>by
  have H:C[R]? =some (.int .u8 n):=by
   have:=congrArg (λl=>l[0]?) ah;exact aoX
  have aT:R<C.toList.length:=by
   grind
  have K:(C.toList.drop<|R+1).take dH.length=dH.map (Value.int .u8):=by
   rw[hL aT]at ah
   grind
  simp[iQ,loadBytes,Sem.run_bind,run_load,cell_of h,H,Result.andThen,add_eq];rw[Ps P w b C e b1 h dH (R+1) _ K]
  simp_all
theorem abo{x y:ce}{a' Z:d7}{i:f9}(O:gB X.a6 x=true)(aB:gB X.a6 y=true)(ay:R.op= .call {callee:=.builtin .unsafeString,args:= #[x,y],argTypes:= #[a',Z]})(A:X.P.underlying a'=some (.pointer e))
 (af:X.P.info? e=some i) (aH:i.size=1) (D:e1 ad I a aR) (hw:bZ X ad st w) (h:Ex e x y call I st= .ok v bC al):bC=I/\nf X ad w v al (execOp a.eval R):=by
 obtain⟨p,hp,cy⟩:=A7 h az;obtain⟨k,cp,aj,B⟩:=oA cy az;obtain⟨n,U,bj⟩:=qf B az;subst U;have L:=D.aq hw O;rw[hp]at L;generalize H:a.eval x=aU at L;have ak:=D.aq hw aB;rw[aj]at ak;generalize aT:a.eval y=aY at ak;cases ak;have T:X.P.cellsOf e=1:=by simp[Program.cellsOf,af,aH]
 have ae:∀{bA:bv} {aG:d9},(Builtin.unsafeString_ #[a',Z] R.type #[a.eval x,a.eval y]).run X.P w= .ok bA aG->(execOp a.eval R).run X.P w= .ok (.value bA) aG:=by
  intro bA aG aw;unfold execOp;rw[ay];simp[resolve,x5,j2,x6,Sem.run_bind,Sem.run_pure,Result.andThen,invoke,builtin,aw]
 rw[H,aT]at ae;have aE:¬((n:Int)<0):=J
 have ai:∀p:be Addr,∃(ey:String) (eW:RuntimeError) (G:Unsupported) (g:RuntimeError) (K:Unsupported),Builtin.unsafeString_ #[a',Z] R.type #[.pointer p,.int k n]=(do
  let r<-asInt (.int k n)
  let some e:=(#[a',Z]:bi d7)[0]? |stuck ey
  if r<0 then runtimePanic eW
  if r>IntKind.i64.max then unsupported G
  match p with
  |none=>if r=0 then pure (.string .empty)else runtimePanic g
  |some q=>if r=0 then pure (.string .empty)else if<-variablesAt q (<-elemOf e) r.toNat then do let s<-loadBytes q .empty r.toNat;freeze q r.toNat;pure (.string s)else unsupported K):=λp=>⟨default,_,_,_,_,o⟩
 rw[mx]at bj;split at bj
 .rename_i bS;subst bS;cases bj;cases L with
  |lG=>
   refine⟨o,nf.same (bA:=.string .empty) hw (ae ?_)<|.string _⟩;obtain⟨ey,eW,G,g,K,E⟩:=ai _;rw[E];simp[asInt,asIntOf]
  |ptr ch l aI M=>
   refine⟨o,nf.same (bA:=.string .empty) hw (ae ?_)<|.string _⟩;obtain⟨ey,eW,G,g,K,E⟩:=ai _;rw[E];simp[asInt,asIntOf]
 .rename_i bS;obtain⟨ch,U,dj⟩:=ig bj az;subst U;obtain⟨aX,dp⟩:=jo dj az;obtain⟨aV,cs,el,b1,aW,F,fa⟩:=yz dp az;obtain⟨S,gC⟩:=jo fa az;obtain⟨aP,mz⟩:=kG gC az;obtain⟨V,oD⟩:=sw mz az;obtain⟨bH,aa,qk⟩:=ig oD az;rw[jq]at qk;cases qk;subst aP;obtain⟨l,aI,C,fw,ah⟩:=hw.eJ _ _ F az;have aZ:=ah.room<|.inl S;obtain⟨dH,U,h4⟩:=Jf aa;rw[m5]at V;cases L with
  |ptr _ bq ao W=>
   rw[aI]at ao;cases ao;have Y:=ah.row ch.off n (by grind);rw[U]at Y;have aA:dH.length=n:=by
    have:=congrArg List.length U;simp at this;omega
   have ar:=Ps X.P w l.cA C el fw (ah.wP<|.inl S) dH (l.de+ch.off) .empty (by rw[aA];exact I5 Y);rw[aA]at ar;have aC:(variablesAt ⟨l.cA,l.de+ch.off,none⟩ el n).run X.P w= .ok true w:=by
    simp[variablesAt,Sem.run_bind,run_program,Result.andThen,run_shape,ER<|ah.wP<|.inl S,Sem.run_pure]
    grind [Pp]
   have aL:=(uK.1<|ah.wP<|.inl S).1
   let ag:Nat×Nat:=if fw.1==fw.2 then(l.de+ch.off,l.de+ch.off+n)else(min fw.1<|l.de+ch.off,max fw.2<|l.de+ch.off+n)
   have aO:(w.freeze ⟨l.cA,l.de+ch.off,none⟩ n).heap=w.heap.setIfInBounds l.cA (.cells C el ag):=by
    simp[World.freeze,au bS];apply Ic;intro j;rw[Array.getElem?_modify];by_cases aM:l.cA=j
    .subst aM;rw[(ah.wP<|.inl S)];simp[aL,ag]
    .grind
   obtain⟨Q,Z⟩:=bZ.yB X hw F az (λD=>by have D:_<_:=D;omega) aI (.cells cs el (ch.off,Nat.add ch.off n) aW) _ (w.freeze ⟨l.cA,l.de+ch.off,none⟩ n) aO (λ_ aN=>⟨C,ag,⟨⟨_,aN,λ_=>o⟩,ah.kH,λ_=>ah.room<|.inl S,ah.cell,λaK=>by
    exfalso;have:ch.off+n<=ch.off:=aK;omega,ah.plain⟩⟩)<|by constructor<;>simp[World.freeze,au bS]
   refine⟨o,ad,.value<|.string ⟨⟨bH⟩⟩,_,ae ?_,.inl ⟨_,o,.string _⟩,Q,Z⟩;obtain⟨ey,eW,G,g,K,E⟩:=ai _;rw[E];have aD:¬(n>IntKind.i64.max):=by
    have:IntKind.i64.max=9223372036854775807:=av
    omega
   have N:¬((n:Int)=0):=J
   simp only[asInt,asIntOf,Sem.run_bind,Sem.run_pure,Result.andThen,An,Ao,au aE,au aD,au N,elemOf,run_underlying A,aC,tb,if_true,ar];rw[h4];simp
end
end Go.bI
namespace Go.bI
variable{a b:ce}{a6:Nat}
def Jg:ce->Bool
 |.const _=>true
 |_=>false
def ES:ce->ce->Bool
 |.tmp a,.tmp b=>Nat.beq a b
 |.const v,.const w=>dE v w
 |.global a,.global b=>Nat.beq a b
 |.func a,.func b=>Nat.beq a b
 |_,_=>false
theorem abp(h:ES a b=true):a=b:=by
 cases a<;>cases b<;>simp only[ES]at h<;>first|(cases h)|(rw[dy h])|(rw[j4 _ _ h])
def df(a6:Nat)(a b:ce):Bool:=ES a b&&gB a6 b
theorem sB(h:df a6 a b=true):a=b/\gB a6 b=true:=by grind [df,abp]
def mA{a b:Nat}:Nat.beq a b=true↔a=b:=⟨dy,λh=>h▸kA a⟩
def ET:df a6 a b=true↔a=b/\gB a6 b=true:=
 ⟨sB,λ⟨e,h⟩=>by subst e;rw[df];rw[h];cases a<;>simp[ES,pt]⟩
def ng(a6:Nat):ac ce->ac ce->Bool
 |[],[]=>true
 |a::as,b::bH=>df a6 a b&&ng a6 as bH
 |_,_=>false
theorem Bp{a6:Nat}:∀{as bH:ac ce},ng a6 as bH=true↔as=bH/\∀x∈bH,gB a6 x=true
 |[],[]=>by simp[ng]
 |a::as,b::bH=>by simp[ng,cQ,ET,Bp];grind
 |[],_::_=>by simp[ng]
 |_::_,[]=>by simp[ng]
def sC(a6:Nat):be ce->be ce->Bool
 |none,none=>true
 |some a,some b=>df a6 a b
 |_,_=>false
def abq{a b:be ce}:sC a6 a b=true↔a=b/\∀y,b=some y->gB a6 y=true:=by
 cases a<;>cases b<;>simp[sC,ET]
def vf(a6:Nat)(E:Nat->be (Nat×Nat)):ac (Nat×Nat×ce)->ac (Nat×ce)->Bool
 |[],[]=>true
 |(off,bw,x)::bd,(i,y)::lI=>
  (match E i with
   |some (R,s)=>Nat.beq off R&&Nat.beq bw s
   |none=>false)&&df a6 x y&&vf a6 E bd lI
 |_,_=>false
theorem EU{a6:Nat}{E:Nat->be (Nat×Nat)}:∀{bd:ac (Nat×Nat×ce)} {lI:ac (Nat×ce)},vf a6 E bd lI=true->
 bd=lI.map (λp=>(((E p.1).getD (0,0)).1,((E p.1).getD (0,0)).2,p.2))/\∀p∈lI,(E p.1).isSome/\gB a6 p.2=true
 |[],[],_=>⟨o,az⟩
 |(off,bw,x)::bd,(i,y)::lI,h=>by
  simp[vf,cQ]at h;have⟨⟨aE,aK⟩,C⟩:=h;have⟨U,T⟩:=sB aK;have⟨f1,f2⟩:=EU C;cases hp:E i with
  |none=>rw[hp]at aE;cases aE
  |some q=>
   rw[hp]at aE;simp only[cQ]at aE;have eV:=dy aE.1;have ew:=dy aE.2
   grind
 |[],_::_,h=>by simp[vf]at h
 |_::_,[],h=>by simp[vf]at h
section
variable(P:f7)(a6:Nat)(lB lY:d8->Bool)(keys:d7->be fR)(qh:d8->Bool)(eqs:d7->be Nat)(qi:d8->Bool)(l1:Nat)
def oE(t:d7)(n:Nat):Bool:=(P.info? t).any λi=>Nat.beq n i.size
def yD(t:d7)(g:Bool):Bool:=(P.underlying t).any λd=>Bh d==g
def Jh(t:d7)(z:bv):Bool:=((P.info? t).bind (·.zero)).any λv=>dE z v&&kI z
def EV(t:d7)(z:ac bv):Bool:=((P.info? t).bind (·.zero)).any λv=>ps z v.cells.toList&&wR z
variable{P}{t:d7}
def rn{n:Nat}:oE P t n=true↔∃i,P.info? t=some i/\n=i.size:=by
 rw[oE];cases P.info? t<;>simp
def Ji{g:Bool}:yD P t g=true↔∃d,P.underlying t=some d/\Bh d=g:=by
 rw[yD];cases P.underlying t<;>simp
def Pt{z:bv}(h:Jh P t z=true):kI z=true/\∃i,P.info? t=some i/\i.zero=some z:=by
 have⟨v,h,g⟩:=(qX _ _).1 h;rw[cQ]at g;rw[<-j4 _ _ g.1]at h;exact⟨g.2,sb.1 h⟩
def Jj{z:ac bv}(h:EV P t z=true):wR z=true/\∃i v,P.info? t=some i/\i.zero=some v/\z=v.cells.toList:=by
 have⟨v,h,g⟩:=(qX _ _).1 h;rw[cQ]at g;have⟨i,h,e⟩:=sb.1 h;exact⟨g.2,i,v,h,e,AP _ _ g.1⟩
variable(P)
def Jk(t:d7)(e:q2)(x y:ce):Bool:=
 match e,P.underlying t with
 |.yh,some .bool=>true
 |.mu,some (.slice _)=>true
 |.ID,some (.map _ _)=>true
 |.Ee,some (.func _ _ _)=>true
 |.Ef,some (.interface _)=>Jg x||Jg y
 |.ptr,some (.pointer el)=>(P.info? el).any λi=> !Nat.beq i.size 0
 |_,_=>false
def Jl:fR->fR->Bool
 |.int k,.int L=>decide (k=L)
 |.str,.str=>true
 |.arr k n,.arr L F=>decide (k=L)&&Nat.beq n F
 |_,_=>false
def Bq(t:d7)(cn:fR):Bool:=
 match P.underlying t with
 |some (.map ih _)=>(keys ih).any (Jl · cn)
 |_=>false
def EW(t:d7):Bool:=match P.underlying t with
 |some (.map _ _)=>true
 |_=>false
def Br(op:Op)(y:uV):Bool:=
 match y,op with
 |.look cn z ok m k,.lookup t O L V=>df a6 m O&&df a6 k L&&(ok==V)&&Bq P keys t cn&&(match P.underlying t with|some (.map _ e)=>Jh P e z|_=>false)
 |.fl cn m k v,.mapUpdate t O L bA|.fl cn m k v,.insert t O L bA=>df a6 m O&&df a6 k L&&df a6 v bA&&Bq P keys t cn
 |.del cn m k,.call {callee:=.builtin .delete,args:=⟨[O,L]⟩,argTypes:=⟨[t,_]⟩}=>df a6 m O&&df a6 k L&&Bq P keys t cn
 |.wx m,.call {callee:=.builtin .len,args:=⟨[O]⟩,argTypes:=⟨[t]⟩}=>df a6 m O&&EW P t
 |.uW m,.range t O=>df a6 m O&&EW P t
 |.wy i,.entry W=>df a6 i W
 |.sg i,.next W false=>df a6 i W
 |.yi gt a b,.binOp C t H A _=>decide (C=(if gt then .gtr else .leq))&&df a6 a H&&df a6 b A&&(match P.underlying t with|some (.int .i64)=>true|_=>false)
 |.idxs g a c,.call {callee:=.value<|.func f,args:=⟨[b,d]⟩,.. }=>df a6 a b&&df a6 c d&&qi f&&Nat.beq g l1
 |.a4 a c,.call {callee:=.value<|.func f,args:=⟨[b,d]⟩,.. }=>df a6 a b&&df a6 c d&&qh f
 |.uX neg n a b,.binOp C t H A _=>decide (C=(if neg then .neq else .eql))&&df a6 a H&&df a6 b A&&(eqs t).any (Nat.beq n)
 |_,_=>false
def Pu(op:Op)(x:dm):Bool:=
 match x,op with
 |.jF a,.move b|.jF a,.assign b=>df a6 a b
 |.pick c a b,.pick Q H A=>df a6 c Q&&df a6 a H&&df a6 b A
 |.alloc z e,.alloc t=>Nat.beq e t&&EV P t z
 |.box e a,.box t b=>Nat.beq e t&&df a6 a b
 |.build z bd,.build t parts=>EV P t z&&(match P.underlying t with
  |some (.struct h)=>h.toList.all (λf=>(P.info? f.type).isSome)&&vf a6 (λj=>(h.map λf=>(f.offset,P.cellsOf f.type))[j]?) bd parts.toList
  |some (.array _ e)=>(P.info? e).any λi=>vf a6 (λj=>some (j*i.size,i.size)) bd parts.toList
  |_=>false)
 |.q3 e n z bd,.buildSlice t m parts=>Nat.beq n m&&(match P.underlying t with
  |some (.slice el)=>Nat.beq e el&&(match P.info? el with
   |some i=>(i.zero).any λv=>Nat.ble (m*i.size) (2^24)&&ps z ((List.range<|m*i.size).map λj=>(if m*i.size=0 then(#[]:bi bv)else v.cells)[j%(if m*i.size=0 then(#[]:bi bv)else v.cells).size]!)&&wR z&&
    vf a6 (λj=>some (j*i.size,i.size)) bd parts.toList
   |_=>false)
  |_=>false)
 |.ix a,.load t b=>df a6 a b&&yD P t false
 |.m9 n a,.load t b=>df a6 a b&&yD P t true&&oE P t n
 |.store n a x,.store t b y=>df a6 a b&&df a6 x y&&oE P t n
 |.uY a,.nilCheck b=>df a6 a b
 |.bin R a b,.binOp C _ H A _=>decide (R=C)&&df a6 a H&&df a6 b A
 |.eqv neg e a b,.binOp C t H A _=>decide (C=(if neg then .neq else .eql))&&df a6 a H&&df a6 b A&&Jk P t e H A
 |.un R a,.unOp C _ b=>decide (R=C)&&df a6 a b
 |.uZ k a,.convert s t b=>df a6 a b&&(match P.underlying s,P.underlying t with|some _,some (.int L)=>decide (k=L)|_,_=>false)
 |.AL a,.convert s t b=>df a6 a b&&(match P.underlying s,P.underlying t with|some _,some .string=>true|_,_=>false)
 |.AM a,.convert s t b=>df a6 a b&&(match P.underlying s,P.underlying t with|some (.slice e),some .string=>(match P.underlying e with|some (.int .u8)=>true|_=>false)|_,_=>false)
 |.wz e a,.convert s t b=>df a6 a b&&(match P.underlying s,P.underlying t with|some .string,some (.slice U)=>Nat.beq e U&&oE P U 1&&(match P.underlying U with|some (.int .u8)=>true|_=>false)|_,_=>false)
 |.Ej t a,.makeInterface B b=>Nat.beq t B&&df a6 a b&&(match P.underlying B with|some (.interface _)=>false|some _=>true|none=>false)
 |.sh (.func f) a c,.makeFunc (.func g) b d=>Nat.beq f g&&ng a6 a b.toList&&ng a6 c d.toList
 |.sh (.method f) a c,.makeFunc (.method g) b d=>f==g&&ng a6 a b.toList&&ng a6 c d.toList
 |.si e bH z l c,.makeSlice t E Q=>df a6 l E&&df a6 c Q&&(match P.underlying t with
  |some (.slice el)=>Nat.beq e el&&EV P el z&&(P.info? el).any λi=>Nat.beq bH i.bytes&& !Nat.beq i.size 0&&Nat.beq z.length i.size
  |_=>false)
 |.ti a aQ af,.slice t b q G none=>df a6 a b&&sC a6 aQ q&&sC a6 af G&&(match P.underlying t with|some .string=>true|_=>false)
 |.wA n s a aQ af hc,.slice t b q G K=>df a6 a b&&sC a6 aQ q&&sC a6 af G&&sC a6 hc K&&(K.isNone||G.isSome)&&
  (match P.underlying t with|some (.array F e)=>Nat.beq n F&&oE P e s|_=>false)
 |.ow s a aQ af hc,.slice t b q G K=>df a6 a b&&sC a6 aQ q&&sC a6 af G&&sC a6 hc K&&(K.isNone||G.isSome)&&
  (match P.underlying t with|some (.slice e)=>oE P e s|_=>false)
 |.q4 N a,.fieldAddr t b f=>df a6 a b&&(match P.underlying t with
  |some (.struct h)=>(match h[f]? with|some fd=>Nat.beq N fd.offset&&(P.info? fd.type).any (λi=> !Nat.beq i.size 0)|none=>false)
  |_=>false)
 |.p7 N bw J a,.field t b f=>df a6 a b&&(match P.underlying t with
  |some (.struct h)=>(match h[f]? with|some fd=>Nat.beq N fd.offset&&oE P fd.type bw&&yD P fd.type J|none=>false)
  |_=>false)
 |.sj n bw a i,.indexAddr t b j=>df a6 a b&&df a6 i j&&(match P.underlying t with|some (.array F e)=>Nat.beq n F&&oE P e bw|_=>false)
 |.jd bw a i,.indexAddr t b j=>df a6 a b&&df a6 i j&&(match P.underlying t with|some (.slice e)=>oE P e bw|_=>false)
 |.u0 a i,.index t b j=>df a6 a b&&df a6 i j&&(match P.underlying t with|some .string=>true|_=>false)
 |.IF n bw J a i,.index t b j=>df a6 a b&&df a6 i j&&(match P.underlying t with|some (.array F e)=>Nat.beq n F&&oE P e bw&&yD P e J|_=>false)
 |.Ek t z ok a,.typeAssert b _ B V=>df a6 a b&&Nat.beq t B&&(ok==V)&&(match P.underlying B with|some (.interface _)=>false|some _=>true|none=>false)&&Jh P B z
 |.sk a i,.extract b j=>df a6 a b&&Nat.beq i j
 |.call f as,.call {callee:=.value g,args,.. }=>df a6 f g&&ng a6 as args.toList&&(match g with|.func k=>((P.funcs[k]?).map λfn=>fn.body.isSome&& !(fn.name== "runtime.NumGoroutine")).getD false|_=>true)
 |.wB a,.call {callee:=.builtin .len,args:=⟨[b]⟩,argTypes:=⟨[t]⟩}=>df a6 a b&&(match P.underlying t with|some (.slice _)=>true|_=>false)
 |.wC a,.call {callee:=.builtin .len,args:=⟨[b]⟩,argTypes:=⟨[t]⟩}=>df a6 a b&&(match P.underlying t with|some .string=>true|_=>false)
 |.AN n,.call {callee:=.builtin .len,args:=⟨[_]⟩,argTypes:=⟨[t]⟩}=>(match P.underlying t with|some (.array m _)=>Nat.beq n m|some (.pointer u)=>(match P.underlying u with|some (.array m _)=>Nat.beq n m|_=>false)|_=>false)
 |.app e bw bH s a,.call {callee:=.builtin .append,args:=⟨[sy,b]⟩,argTypes:=⟨[t,u]⟩}=>df a6 s sy&&df a6 a b&&(match P.underlying t,P.underlying u with
  |some (.slice el),some d=>Nat.beq e el&&(match d with|.int _=>false|_=>true)&&(match P.info? el with
   |some i=>Nat.beq bw i.size&&Nat.beq bH i.bytes&&(i.zero).any (λv=>Nat.beq v.cells.size i.size)
   |none=>false)
  |_,_=>false)
 |.hc a as,.call {callee:=.builtin .max,args:=⟨b::bH⟩,.. }=>df a6 a b&&ng a6 as bH
 |.AO a as,.call {callee:=.builtin .min,args:=⟨b::bH⟩,.. }=>df a6 a b&&ng a6 as bH
 |.tj bw d s,.call {callee:=.builtin .copy,args:=⟨[Y,sy]⟩,argTypes:=⟨[t,_]⟩}=>df a6 d Y&&df a6 s sy&&(match P.underlying t with|some (.slice e)=>oE P e bw|_=>false)
 |.u1,.call {callee:=.builtin .recover,args:=⟨[]⟩,.. }=>true
 |.p8 f as,.defer {callee:=.value g,args,.. }=>df a6 f g&&ng a6 as args.toList
 |.ox a,.panic b=>df a6 a b
 |.El a,.convert s t b=>df a6 a b&&(match P.underlying s,P.underlying t with|some (.pointer e),some .unsafePointer=>(P.info? e).any (λi=> !Nat.beq i.size 0)|_,_=>false)
 |.Em e n a,.convert s t b=>df a6 a b&&(match P.underlying s,P.underlying t with|some .unsafePointer,some (.pointer U)=>Nat.beq e U&&oE P U n&& !Nat.beq n 0|_,_=>false)
 |.En a,.call {callee:=.builtin .unsafeSliceData,args:=⟨[b]⟩,argTypes:=⟨[_]⟩}=>df a6 a b
 |.u2 e a n,.call {callee:=.builtin .unsafeString,args:=⟨[b,m]⟩,argTypes:=⟨[t,_]⟩}=>df a6 a b&&df a6 n m&&(match P.underlying t with|some (.pointer U)=>Nat.beq e U&&oE P U 1|_=>false)
 |.lY a c,.call {callee:=.value<|.func f,args:=⟨[b,d]⟩,.. }=>df a6 a b&&df a6 c d&&lY f
 |.lB a,.call {callee:=.value<|.func f,args:=⟨[b]⟩,.. }=>df a6 a b&&lB f
 |.p6,.makeMap _ none=>true
 |.yj _,_=>true
 |.ext y,op=>Br P a6 keys qh eqs qi l1 op y
 |.refuse,_=>true
 |_,_=>false
end
end Go.bI
namespace Go.bI
variable{X:Ctx}
variable{a:Nat}
def dm.inPlace:dm->Bool
 |.call _ _|.inv _ _ _|.u1|.p8 _ _|.ox _=>false
 |_=>true
def Ctx.ql(X:Ctx)(op:Op)(x:dm):Bool:=Pu X.P X.a6 X.lB X.lY X.keys X.qh X.eqs X.qi X.l1 op x
theorem qm{b:Nat}(h:Nat.beq a b=true):a=b:=dy h
def Bs(h:(!Nat.beq a 0)=true):a≠0:=by intro e;subst e;simp at h
def uV.qn:uV->Bool
 |.look _ _ _ _ _|.wx _|.wy _|.a4 _ _|.uX _ _ _ _|.yi _ _ _|.idxs _ _ _=>true
 |_=>false
def dm.qn:dm->Bool
 |.ext y=>y.qn
 |.alloc _ _|.box _ _|.q3 _ _ _ _|.store _ _ _|.wz _ _|.p6|.si _ _ _ _ _|.call _ _|.inv _ _ _|.yj _|.app _ _ _ _ _|.tj _ _ _|.u1|.p8 _ _|.ox _|.u2 _ _ _|.refuse=>false
 |_=>true
def dm.rp:dm->Bool
 |.alloc _ _|.box _ _|.q3 _ _ _ _|.wz _ _|.si _ _ _ _ _|.p6=>true
 |_=>false
def rq(X:Ctx)(x:dm)(ad:bN)(w:d9)(v:bv)(st al:ao)(s:Sem Next):Prop:=
 nf X ad w v al s/\(x.qn=true->oC X ad w v st al s)/\(x.rp=true->EH X ad w v st al s)
section
variable{p:Prop}{x:dm}{ad:bN}{w:d9}{v:bv}{st al:ao}{s:Sem Next}
def Jm(h:p/\oC X ad w v st al s)(O:x.rp=false):p/\rq X x ad w v st al s:=⟨h.1,h.2.yC,λ_=>h.2,λe=>by rw[O]at e;cases e⟩
def Jn(h:p/\EH X ad w v st al s)(O:x.qn=false):p/\rq X x ad w v st al s:=⟨h.1,h.2.yC,λe=>(by rw[O]at e;cases e),λ_=>h.2⟩
def yE(h:p/\nf X ad w v al s)(O:x.qn=false)(o:x.rp=false):p/\rq X x ad w v st al s:=⟨h.1,h.2,λe=>(by rw[O]at e;cases e),λe=>by rw[o]at e;cases e⟩
end
structure h5(X:Ctx)(ad:bN)(I:aO)(a:Act)(aR:Nat)(st:ao)(w:d9):Prop where
 f:e1 ad I a aR
 w:bZ X ad st w
section
variable{ad:bN}{I bC:aO}{a:Act}{aR:Nat}{st al:ao}{w:d9}{R:Oper}{v bA:bv}{x:ce}{y:dm}{β:Type}{r z aoA:β}
variable{n b:Nat}
theorem h5.aq(q:h5 X ad I a aR st w)(k:gB X.a6 x=true):bo ad (I.aq x) (a.eval x):=q.f.aq q.w k
def h5.of(q:h5 X ad I a aR st w)(k:gB X.a6 x=true)(e:I.aq x=v):∃u,a.eval x=u/\bo ad v u:=⟨_,o,e▸q.aq k⟩
def h5.int(q:h5 X ad I a aR st w)(k:gB X.a6 x=true){K:f5->Int->β}(h:gk (I.aq x) K z=r)(aH:z≠r:=by simp):∃i n,I.aq x= .int i n/\a.eval x= .int i n/\K i n=r:=by
 have⟨i,n,e,h⟩:=oA h aH;have⟨u,g,d⟩:=q.of k e;cases d;exact⟨i,n,e,g,h⟩
def h5.nat(q:h5 X ad I a aR st w)(k:gB X.a6 x=true){K:f5->Nat->β}(h:gk (I.aq x) (λi n=>hW n (K i) z) z=r)(aH:z≠r:=by simp):∃i n,I.aq x= .int i (n:Nat)/\a.eval x= .int i n/\K i n=r:=by
 have⟨i,n,e,g,h⟩:=q.int k h aH;obtain⟨m,rfl,h⟩:=qf h aH;exact⟨i,m,e,g,h⟩
def h5.bool(q:h5 X ad I a aR st w)(k:gB X.a6 x=true){K:Bool->β}(h:kj (I.aq x) K z=r)(aH:z≠r:=by simp):∃b,I.aq x= .bool b/\a.eval x= .bool b/\K b=r:=by
 have⟨i,e,h⟩:=O8 h aH;exact aru
def h5.str(q:h5 X ad I a aR st w)(k:gB X.a6 x=true){K:f8->β}(h:h1 (I.aq x) K z=r)(aH:z≠r:=by simp):∃s,I.aq x= .string s/\a.eval x= .string s/\K s=r:=by
 have⟨i,e,h⟩:=yu h aH;exact aru
theorem h5.agg(q:h5 X ad I a aR st w)(k:gB X.a6 x=true){K:bi bv->β}(h:sn (I.aq x) K z=r)(aH:z≠r:=by simp):∃xs aS,a.eval x= .agg aS/\bO ad xs.toList aS.toList/\K xs=r:=by
 have⟨i,e,h⟩:=A8 h aH;have⟨u,g,d⟩:=q.of k e;cases d with
 |agg _ aS Y G=>exact⟨i,aS,g,.va Y G,h⟩
def h5.aL(q:h5 X ad I a aR st w)(k:gB X.a6 x=true){K:be Addr->Nat->Nat->β}(h:h2 (I.aq x) K z=r)(aH:z≠r:=by simp):∃b n c u,a.eval x=u/\bo ad (.slice b n c) u/\K b n c=r:=by
 have⟨b,n,c,e,h⟩:=yv h aH;have⟨u,g,d⟩:=q.of k e;exact⟨b,n,c,u,g,d,h⟩
theorem h5.ptr(q:h5 X ad I a aR st w)(k:gB X.a6 x=true){K:Addr->β}(h:hN (I.aq x) (λp=>bx p K z) z=r)(aH:z≠r:=by simp):
 ∃ch l,ch.spot=none/\ad ch.block=some l/\a.eval x= .pointer (some ⟨l.cA,l.de+ch.off,none⟩)/\K ch=r:=by
 have⟨p,e,h⟩:=A7 h aH;obtain⟨ch,rfl,h⟩:=ig h aH;have⟨u,g,d⟩:=q.of k e;cases d with
 |ptr _ l W M=>exact⟨ch,l,M,W,g,h⟩
theorem h5.sD(q:h5 X ad I a aR st w)(k:gB X.a6 x=true){K:Addr->ac bv->d7->Nat×Nat->Bool->β}(h:hN (I.aq x) (λp=>bx p (λch=>st.gy ch (K ch) z) z) z=r)(aH:z≠r:=by simp):
 ∃ch l cs e b1 aW C fw,ch.spot=none/\ad ch.block=some l/\a.eval x= .pointer (some ⟨l.cA,l.de+ch.off,none⟩)/\st.h.get ch.block=some (.cells cs e b1 aW)/\nc X.P ad w cs e b1 aW l C fw/\K ch cs e b1 aW=r:=by
 have⟨ch,l,M,W,g,h⟩:=q.ptr k h aH;have⟨_,cs,e,b1,aW,F,h⟩:=yz h aH;have⟨E,o,C,fw,ah⟩:=q.w.eJ _ _ F az
 grind
def Jo{ch:Addr}{l:Loc}(h:ad ch.block=some l)(M:ch.spot=none)(n:Nat):bo ad (.pointer<|some<|ch.add n) (.pointer<|some<|Addr.add ⟨l.cA,l.de+ch.off,none⟩ n):=by
 have:=bo.ptr (ch.add n) l (by rwa [Bl])<|Bm ch n M;rw[EI]at this;simp[add_eq,x4,this]
theorem abr{hc af:be ce}(h:(hc.isNone||af.isSome)=true):hc.map a.eval≠none->af.map a.eval≠none:=by cases hc<;>cases af<;>simp_all
def abt(h:tk v=false):v≠jG:=by rintro rfl;cases h
def Jp{aJ:bN}{ex:Nat}(h:aJ n=some ⟨b,0,ex,id⟩):bo aJ (.pointer<|some ⟨n,0,none⟩) (.pointer<|some ⟨b,0,none⟩):=.ptr ⟨n,0,none⟩ _ h o
def Jq{ex:Nat}(i c:Nat)(aJ:bN)(h:aJ n=some ⟨b,0,ex,id⟩):bo aJ (.slice (some ⟨n,0,none⟩) i c) (.slice (some ⟨b,0,none⟩) i<|c+ex):=.fv ⟨n,0,none⟩ _ 0 i c h o nQ
theorem h5.rd(q:h5 X ad I a aR st w)(Z:bo ad v bA)(aw:(execOp a.eval R).run X.P w= .ok (.value bA) w:=by simp[*])(O:y.rp=false:=by rfl):I=I/\rq X y ad w v st st (execOp a.eval R):=Jm ⟨o,o,q.w,bA,aw,Z⟩ O
theorem h5.hM(q:h5 X ad I a aR st w){e:d7}{cs dP:ac bv}{V:Nat->bv}(h:st.iD (.cells cs e (0,0) false) (λid st=>a2.ok (V id) I st)= .ok v bC al)(ah:bO ad cs dP)(Z:∀aJ:bN,aJ st.ag=some ⟨w.heap.size,0,0,id⟩->bo aJ (V st.ag) bA)
 (aw:(execOp a.eval R).run X.P w= .ok (.value bA) {w with heap:=w.heap.push<|.cells dP.toArray e}:=by simp[*]) (O:y.qn=false:=by rfl):bC=I/\rq X y ad w v st al (execOp a.eval R):=by
 rw[gV]at h;cases h;have⟨aJ,bU,H,A,g⟩:=q.w.aa3 e ah {w with heap:=w.heap.push<|.cells dP.toArray e} rfl;subst g;exact Jn ⟨o,_,_,_,bA,_,o,az,aw,o,Z _ A,bU,H⟩ O
end
section
variable{ad:bN}{a:Act}{w:d9}{R:Oper}{neg b:Bool}{e:q2}{x y:ce}{t Pv:d7}{Pw Px u ts:bv}
theorem Py(ay:R.op= .binOp (if neg then .neq else .eql) t x y Pv)(g:a.eval x=u)(E:a.eval y=ts)(aE:∀n,(Op.equalIn (n+1) t u ts).run X.P w= .ok b w)(aK:∀op,(eqGuard op t x y u ts).run X.P w= .ok () w:=by intro op;cases op<;>first|(simp[eqGuard];done)|(cases x<;>cases y<;>simp_all [Jg,eqGuard]))
 (D:binOp .eql t u ts=(do pure (.bool<|<-Op.equal t u ts)):=by rfl) (N:binOp .neq t u ts=(do pure (.bool<|!(<-Op.equal t u ts))):=by rfl):(execOp a.eval R).run X.P w= .ok (.value<|.bool<|cond neg (!b) b) w:=by
 have aE:(Op.equal t u ts).run X.P w= .ok b w:=aE 9999;cases neg<;>simp[execOp,ay,g,E,aE,aK,D,N,Result.andThen]
theorem abu(ay:R.op= .binOp (if neg then .neq else .eql) t x y Pv)(N:Jk X.P t e x y=true)(aa:kk 8 e Pw Px=some b)(d:bo ad Pw (a.eval x))(Y:bo ad Px (a.eval y)):
 (execOp a.eval R).run X.P w= .ok (.value<|.bool<|cond neg (!b) b) w:=by
 generalize g:a.eval x=u at d;generalize V:a.eval y=ts at Y;unfold Jk at N;split at N<;>try cases N
 all_goals simp only[kk,AX,sq,OW,IK,OX,wH]at aa
 all_goals split at aa<;>try cases aa
 all_goals first
  |(cases d<;>cases Y<;>refine Py ay g V (λn=>?_)<;>simp[*,Op.equalIn,underlying,Result.andThen];done)
  |skip
 .split at aa<;>cases aa;subst ‹_=_›;cases d;cases Y;cases neg<;>simp[execOp, *,eqGuard,binOp,Op.intCmp,bne]
 .cases d;cases Y;cases neg<;>simp[execOp, *,eqGuard,binOp,Op.stringOp,toList_eq]
 .obtain⟨i,af,aH⟩:=(qX _ _).1 N;have aH:=Bs aH;split at aa<;>cases aa;rename_i ah;cases d with
  |ptr _ l W M=>
   cases Y with
   |ptr _ Z T C=>
    rw[ah.1,T]at W;cases W;exact Py ay g V<|by simp[*,Op.equalIn,underlying,sizeOf,typeInfo,sameAddr,Result.andThen];rw[p1];simp
end
section
variable{α β:Type}{r z:β}
variable{R:be bG}
def abv{v:bv}{k:be Nat->β}(h:pv v k z=r)(aH:z≠r):∃p,v= .map p/\k p=r:=by
 cases v<;>first|exact absurd h aH|exact⟨_,o,h⟩
def Jr{k:ac f6->Nat->β}(h:jH R k z=r)(aH:z≠r):∃es c,R=some (.map es c)/\k es c=r:=by
 obtain⟨R,rfl,h⟩:=ig h aH;cases R<;>first|exact absurd h aH|exact⟨_,_,o,h⟩
def Pz{k:be Nat->Nat->ac Nat->Nat->β}(h:A0 R k z=r)(aH:z≠r):∃a b c d,R=some (.nK a b c d)/\k a b c d=r:=by
 obtain⟨R,rfl,h⟩:=ig h aH;cases R<;>first|exact absurd h aH|exact⟨_,_,_,_,o,h⟩
end
variable{es:ac f6}{k:bv}{ad:bN}{cn:fR}{clock my:Nat}{v bA:bv}{e:f6}{j:Nat}{c:f6}
def fR.same(h:cn.ok v=true)(aw:bo ad v bA):bA=v:=by
 cases cn with
 |int k=>
  obtain⟨L,n,rfl,_⟩:=oA h av;cases aw;rfl
 |str=>
  obtain⟨s,rfl,_⟩:=yu h av;cases aw;rfl
 |arr k n=>
  obtain⟨xs,rfl,G⟩:=A8 h av;rw[cQ,ja]at G;cases aw with
  |agg _ aS Y V=>
   congr 1;apply Array.ext
   .exact Y.symm
   .intro i a b;obtain⟨L,m,A,_⟩:=oA (G.2 xs[i] az) av;have:=V i b a;rw[A]at this⊢;generalize aS[i]=y at this⊢;cases this;rfl
theorem uniq(h:es.Pairwise λa b=>a.key≠b.key){a b:f6}(bK:a∈es)(aa:b∈es)(e:a.key=b.key):a=b:=by
 induction es with
 |nil=>cases bK
 |cons x xs U=>
  rw[nE]at h
  grind
theorem yF(h:iy k es=some e):e∈es/\e.key=k:=by
 refine⟨Ap h,?_⟩;have:=Aq h;exact(j4 _ _ this).symm
def Bt(h:iy k es=none):∀e∈es,e.key≠k:=by
 intro e A q;have:=List.find?_eq_none.1 h e A;rw[q,pt]at this;exact this o
def EX(h:lD cn es=true)(he:e∈es):cn.ok e.key=true:=
 ja.1 h e he
theorem jL.find{bM:Nat->Nat}{C:ac f6}(h:jL ad bM es clock C my){ih:d7}(N:X.keys ih=some cn)(aB:cn.ok k=true)(he:lD cn es=true)(w:d9):
 ((Instr.findKey ih k C).run X.P w= .ok none w/\iy k es=none/\∀c∈C,c.key≠k)\/
 ∃e j c,(Instr.findKey ih k C).run X.P w= .ok (some (j,c.val)) w/\C[j]? =some c/\c.key=k/\iy k es=some e/\e∈es/\e.key=k/\bo ad e.val c.val/\c.born=bM e.born:=by
 obtain⟨K,S⟩:=X.sx ih cn N;obtain⟨l,hp,V,W⟩:=h.same;have M:∀(i:Nat) a b,C[i].key=l[i].key:=by
  exact apf
 have L:∀c∈C,∃l,keyOf X.P ih c.key=some l:=by
  intro c ah;obtain⟨i,af,rfl⟩:=mo ah;have H:i<l.length:=J
  rw[M i H af];exact S _<|EX he<|hp.mem_iff.1<|eO H
 obtain⟨g,q⟩:=S k aB;rcases K.find w q C L with⟨Y,G⟩|⟨j,c,Y,G,O⟩
 .left;refine⟨Y,?_,G⟩;cases D:iy k es with
  |none=>rfl
  |some e=>
   exfalso;obtain⟨ey,eW⟩:=yF D;obtain⟨i,af,Q⟩:=mo<|hp.mem_iff.2 ey
   grind
 .right;obtain⟨A,o⟩:=dG.1 G;have E:j<l.length:=by omega
  have F:l[j].key=k:=by grind
  have B:=hp.mem_iff.1<|eO E;cases D:iy k es with
  |none=>exact absurd F (Bt D _ B)
  |some e=>
   obtain⟨ey,eW⟩:=yF D;have:=uniq h.keys ey B<|by rw[eW,F]
   grind
theorem jL.put{bM:Nat->Nat}{C:ac f6}(h:jL ad bM es clock C my)(he:lD cn es=true)(a3:C[j]? =some c)(ah:c.key=k)(Z:bo ad v bA):
 jL ad bM (wK k v es) clock (C.set j {c with key:=k,val:=bA}) my:=by
 obtain⟨l,hp,V,W⟩:=h.same;have U:∀e:f6,(cond (dE k e.key) (⟨e.key,v,e.born⟩:f6) e).key=e.key:=by grind
 have O:∀e:f6,(cond (dE k e.key) (⟨e.key,v,e.born⟩:f6) e).born=e.born:=by grind
 have M:∀(i:Nat) a b,C[i].key=l[i].key:=by
  exact apf
 obtain⟨g,o⟩:=dG.1 a3;refine⟨h.jr,h.nd,?_,?_,?_,l.map λe=>cond (dE k e.key) ⟨e.key,v,e.born⟩ e,hp.map _,by simp[V],?_⟩
 .intro e hm;obtain⟨L,D,rfl⟩:=db.1 hm;rw[O];exact h.born L D
 .unfold wK;rw[pj];exact h.keys.imp λ{a b} F=>by rwa [U,U]
 .unfold wK;rw[pj];exact h.jM.imp λ{a b} F=>by rwa [O,O]
 .intro i a b;have H:i<l.length:=by grind
  have A:i<C.length:=by simpa using b
  rw[uL,List.getElem_set];by_cases e:j=i
  .grind [pt]
  .rw[au e];have B:dE k l[i].key=false:=by
    rw[x2];intro aD;have E:=j4 _ _ aD;have q:j<l.length:=J
    have Y:l[i].key=l[j].key:=by grind
    have K:=(hp.symm.pairwise_iff λ{a b} h=>h.symm).1 h.keys;have G:i=j:=by
     rcases p2 i j with h|h|h
     .exact absurd Y<|lA.1 K i j H q h
     .exact h
     .exact absurd Y.symm<|lA.1 K j i q H h
    exact e G.symm
   rw[B];exact W i H A
theorem jL.push{bM:Nat->Nat}{C:ac f6}(h:jL ad bM es clock C my)(aB:bo ad k k)(aj:iy k es=none)(Z:bo ad v bA):
 jL ad bM (es++[⟨k,v,clock⟩]) (clock+1) (C++[⟨k,bA,my⟩]) (my+1):=by
 obtain⟨l,hp,V,g⟩:=h.same;have M:=h.nd;refine⟨by rw[h.jr,M.up 1],⟨λs t W aN e=>?_,λs W=>?_,λj=>(by rw[show clock+1+j=clock+(1+j) by omega,M.up,M.up 1];omega)⟩,?_,?_,?_,l++[⟨k,v,clock⟩],hp.append_right _,by simp[V],?_⟩
 .rcases fW s clock with a|a<;>rcases fW t clock with b|b
  .exact M.inj s t a b e
  .have:t=clock:=by omega
   subst this;have:=M.lt s a;omega
  .have:s=clock:=by omega
   subst this;have:=M.lt t b;omega
  .omega
 .rw[M.up 1];rcases fW s clock with a|a
  .have:=M.lt s a;omega
  .grind
 .intro e A;rcases ie.1 A with A|A
  .have:=h.born e A;omega
  .grind
 .rw[Dx];refine⟨h.keys,az,λa D b aa=>?_⟩;have:b=⟨k,v,clock⟩:=by grind
  subst this;exact Bt aj a D
 .rw[Dx];refine⟨h.jM,az,λa D b aa=>?_⟩;have:b=⟨k,v,clock⟩:=by grind
  subst this;have:=h.born a D;exact Nat.ne_of_lt this
 .intro i a b;by_cases e:i<l.length
  .grind
  .have af:i=l.length:=by grind
   rw[Ih J,Ih J];simp;exact⟨aB,Z,h.jr⟩
theorem jL.del{bM:Nat->Nat}{C:ac f6}(h:jL ad bM es clock C my)(he:lD cn es=true)(a3:C[j]? =some c)(ah:c.key=k):
 jL ad bM (q8 k es) clock (C.eraseIdx j) my:=by
 obtain⟨l,hp,V,W⟩:=h.same;have M:∀(i:Nat) a b,C[i].key=l[i].key:=by
  exact apf
 obtain⟨g,o⟩:=dG.1 a3;have q:j<l.length:=J
 have F:l[j].key=k:=by rw[<-M j q g,o,ah]
 have K:=(hp.symm.pairwise_iff λ{a b} h=>h.symm).1 h.keys;have H:∀(l:ac f6) j a3,l.Pairwise (λa b=>a.key≠b.key)->l[j].key=k->l.filter (λe=> !dE k e.key)=l.eraseIdx j:=by
  intro l
  induction l with
  |nil=>intro j a3;simp at a3
  |cons x xs U=>
   intro j a3 K E;rw[nE]at K;cases j with
   |zero=>
    have O:dE k x.key=true:=by rw[show x.key=k from E];exact pt k
    rw[wb];simp only[O,Bool.not_true,r9,if_false,List.eraseIdx_cons_zero];rw[Ar]
    grind [j4]
   |succ j=>
    grind [j4]
 refine⟨h.jr,h.nd,λe hm=>h.born e (sc.1 hm).1,h.keys.filter _,h.jM.filter _,l.eraseIdx j,?_,by grind,by grind⟩
 .rw[<-H l j q K F];exact hp.filter _
section
variable{ad:bN}{I bC:aO}{a:Act}{aR:Nat}{st al:ao}{w:d9}{R:Oper}{v:bv}{call:bR}
open Go.MapKept
variable{ih:d7}
def abw(J:X.keys ih=some cn)(aB:cn.ok k=true)(w:d9):(Instr.findKey ih k []).run X.P w= .ok none w:=by
 have⟨K,S⟩:=X.sx ih cn J;have⟨g,q⟩:=S k aB;obtain⟨Y,_⟩|⟨j,c,_,G,_⟩:=K.find w q [] az
 .exact Y
 .simp at G
def wU(J:X.keys ih=some cn)(aB:cn.ok k=true)(o:Bool)(w:d9):(Instr.checkKey o 10000 ih k).run X.P w= .ok () w:=by
 have⟨K,S⟩:=X.sx ih cn J;have⟨g,q⟩:=S k aB;exact K.check w o q
end
section
variable{ad:bN}{I bC:aO}{a:Act}{aR:Nat}{st al:ao}{w:d9}{R:Oper}{v:bv}{call:bR}
variable{P:f7}{r:Nat}{m:be Nat}{s:bi Nat}{b:Nat}
def abx{ih:d7}(J:X.keys ih=some cn)(aB:cn.ok k=true)(w:d9):(Instr.keyThatStays k k).run X.P w= .ok k w:=by
 have⟨K,S⟩:=X.sx ih cn J;have⟨g,q⟩:=S k aB;exact K.stays w q
theorem toList_modify(C:bi f6)(j:Nat)(f:f6->f6)(h:C.toList[j]? =some c):(C.modify j f).toList=C.toList.set j (f c):=by
 apply As
 .simp
 .grind
def fR.pure(h:cn.ok v=true)(aw:bo ad v bA):bo ad v v:=by
 have:=fR.same h aw
 rwa [this]at aw
theorem jL.aby{bM:Nat->Nat}{C:ac f6}(h:jL ad bM es clock C my){s:Nat}(M:s<clock)(he:es.find? (λe=>Nat.beq e.born s)=some e):
 ∃c,C.find? (λc=>c.born==bM s)=some c/\bo ad e.key c.key/\bo ad e.val c.val:=by
 have⟨l,hp,hlen,W⟩:=h.same;have aD:=Aq he;have aa:=dy aD;obtain⟨i,af,Q⟩:=mo<|hp.mem_iff.2<|Ap he;cases D:C.find? (λc=>c.born==bM s)with
 |none=>
  grind
 |some c=>
  have o:c.born=bM s:=by grind
  have⟨k,E,H⟩:=mo<|Ap D;have L:k<l.length:=J
  have F:=W k L E;have A:bM l[k].born=bM s:=by grind
  have B:=h.nd.inj _ _ (h.born _<|hp.mem_iff.1<|eO L) M A;have K:=(hp.symm.pairwise_iff λ{a b} h=>h.symm).1 h.jM;have q:i=k:=by
   obtain g|g|g:=p2 i k
   .exact absurd (by rw[Q,aa,B])<|lA.1 K i k af L g
   .exact g
   .exact absurd (by rw[Q,aa,B])<|lA.1 K k i L af g
  grind
def Js{a:Nat}(aa:w.heap[r]? =some (.mapIter m a s b)):(getObj r).run P w= .ok (.mapIter m a s b) w:=by
 simp[getObj,Sem.run,aa]
def abz{a:Nat}(R:Obj)(aa:w.heap[r]? =some (.mapIter m a s b)):(setObj r R).run P w= .ok () {w with heap:=w.heap.setIfInBounds r R}:=by
 simp[setObj,Sem.run,aa]
end
variable{y:bv}{P:f7}{t:d7}
def bo.Jt{c:Nat}(h:bo ad (.chan<|some c) y)(ah:c≠0):∃m,y= .int .i64 m/\O7 c m:=by
 generalize Z:Value.chan (some c)=v at h;cases h with
 |iG Q m h=>cases Z;exact⟨m,o,h⟩
 |top _=>cases Z;exact absurd o ah
 |_=>cases Z
def PA{n:Nat}{b:Bool}(h:A1 n v=some b)(aw:bo ad v y):∃m:Int,y= .int .i64 m/\b=decide ((n:Int)<=m):=by
 unfold A1 at h;split at h
 .rename_i c;split at h
  .rename_i G;split at h
   .rename_i C;cases h;obtain⟨m,rfl,E⟩:=aw.Jt J;refine⟨m,o,?_⟩;have:(n:Int)<=m:=by
     rcases E with E|⟨k,g,hm⟩|⟨k,g,hm⟩<;>omega
    simp[this]
   .cases h
  .rename_i G;split at h
   .rename_i C;cases h;obtain⟨m,rfl,E⟩:=aw.Jt J;refine⟨m,o,?_⟩;have:¬(n:Int)<=m:=by
     rcases E with E|⟨k,g,hm⟩|⟨k,g,hm⟩<;>omega
    simp[this]
   .cases h
 .cases h
def abA{a b:fR}(h:Jl a b=true):a=b:=by
 cases a<;>cases b<;>simp[Jl]at h<;>first|rfl|(rw[h])|(rw[h.1,h.2])
theorem EY{keys:d7->be fR}(h:Bq P keys t cn=true):∃ih g,P.underlying t=some (.map ih g)/\keys ih=some cn:=by
 rw[Bq]at h;split at h<;>try cases h
 have⟨q,E,h⟩:=(qX _ _).1 h;exact⟨_,_,‹_›,by rw[E,abA h]⟩
theorem isMap(h:EW P t=true):∃ih g,P.underlying t=some (.map ih g):=by
 rw[EW]at h
 grind
section
variable{ad:bN}{I bC:aO}{a:Act}{aR:Nat}{st al:ao}{w:d9}{R:Oper}{v:bv}{call:bR}{x:ce}{y:dm}{β:Type}{r z PB:β}
theorem h5.map(q:h5 X ad I a aR st w)(k:gB X.a6 x=true){K:Nat->ac f6->Nat->β}(h:pv (I.aq x) (λr=>bx r (λid=>jH (st.h.get id) (K id) z) PB) z=r)(aH:z≠r:=by simp):
 (∃id es c b bM C Q,ad id=some ⟨b,0,0,bM⟩/\a.eval x= .map (some b)/\st.h.get id=some (.map es c)/\w.heap[b]? =some (.map C Q)/\jL ad bM es c C.toList Q/\K id es c=r)\/a.eval x= .map none/\PB=r:=by
 have⟨p,e,h⟩:=abv h aH;have⟨u,g,d⟩:=q.of k e;cases p with
 |none=>cases d;exact .inr ⟨g,h⟩
 |some id=>
  have⟨es,c,F,h⟩:=Jr h aH;have⟨l,W,_,_,C,Q,hC,D⟩:=q.w.eJ _ _ F az;cases d with
  |map _ b bM aa=>rw[W]at aa;cases aa;exact .inl ⟨id,es,c,b,bM,C,Q,W,g,F,hC,D,h⟩
def h5.EZ(q:h5 X ad I a aR st w){id:Nat}{S:ac f6}{c d b:Nat}{bM:Nat->Nat}(F:st.h.get id=some (.map es c))(aI:ad id=some ⟨b,0,0,bM⟩)(C:bi f6)(Q:Nat)(D:jL ad bM S d C.toList Q){n:Next}(aj:I4 ad v n)
 (aw:(execOp a.eval R).run X.P w= .ok n {w with heap:=w.heap.setIfInBounds b<|.map C Q}) (N:y.qn=false:=by rfl) (J:y.rp=false:=by rfl):I=I/\rq X y ad w v st ⟨st.h.set id<|.map S d,st.ag⟩ (execOp a.eval R):=by
 have⟨bU,H⟩:=bZ.yB X q.w F az (λh=>h) aI (.map S d) (.map C Q) {w with heap:=w.heap.setIfInBounds b<|.map C Q} rfl λ_ aN=>⟨o,o,_,_,aN,D⟩;exact yE ⟨o,ad,n,_,aw,aj,bU,H⟩ N J
attribute [local simp] Result.andThen underlying typeInfo zeroValue resolve invoke builtin execOp goInt
theorem PC:∀{j:Nat} {l m bq O:ac bv} {b:Bool},q9 j l m=some b->bO ad l bq->bO ad m O->bq=l/\O=m
 |_,[],[],_,_,_,_,h,g=>⟨h.rh,g.rh⟩
 |_,_::_,[],_,_,_,h,_,_=>by cases h
 |_,[],_::_,_,_,_,h,_,_=>by cases h
 |j,p::bd,q::lI,_,_,b,aa,h,g=>by
  obtain⟨Q,K,rfl,aE,aK⟩:=h.cons_inv;obtain⟨o,H,rfl,V,B⟩:=g.cons_inv;have⟨Z,W,N⟩:=ig aa az;have:∃A,q9 (j-1) bd lI=some A:=by
   cases Z
   .have⟨A,L,_⟩:=ig N az;exact⟨A,L⟩
   .exact⟨b,N⟩
  have⟨A,L⟩:=this;obtain⟨rfl,rfl⟩:=PC L aK B;unfold O0 Ev OZ at W;split at W<;>split at W<;>first|(cases W;done)|(cases aE;cases V;exact e9)
theorem PD{m k:ce}{ih a':d7}(q:h5 X ad I a aR st w)(bU:gB X.a6 m=true)(U:gB X.a6 k=true)(Z:gB X.a6 x=true)(ay:R.op= .mapUpdate t m k x\/R.op= .insert t m k x)(E:X.P.underlying t=some (.map ih a'))
 (J:X.keys ih=some cn) (h:IL I st (.fl cn m k x)= .ok v bC al):bC=I/\rq X (.ext<|.fl cn m k x) ad w v st al (execOp a.eval R):=by
 obtain⟨S,h⟩:=jK h az;have V:=q.aq U;have ab:=fR.same S V;obtain⟨id,es,c,b,bM,C,Q,W,g,F,L,D,h⟩|⟨_,h⟩:=q.map bU h<;>try cases h
 obtain⟨H,h⟩:=jK h az;rcases D.find J S H w with⟨Y,G,_⟩|⟨e,j,O,Y,G,T,N,aa,B,M,K⟩
 .rw[G]at h;cases(jq ..).symm.trans h;refine q.EZ F W (C.push {key:=I.aq k,val:=a.eval x,born:=Q}) (Q+1) (by simpa using D.push (fR.pure S V) G (q.aq Z)) (.inr e9) ?_;rcases ay with ay|ay<;>simp[*,Instr.mapUpdate,MapKept.run_getObj_map L,wU J S,MapKept.run_setObj_map _ L]
 .rw[N]at h;cases(jq ..).symm.trans h;have A:C[j]? =some O:=by grind
  refine q.EZ F W (C.modify j λe=>{e with key:=I.aq k,val:=a.eval x}) Q (by rw[toList_modify C j _ G];exact D.put H G T<|q.aq Z) (.inr e9) ?_;rcases ay with ay|ay<;>simp[*,Instr.mapUpdate,MapKept.run_getObj_map L,wU J S,MapKept.run_setObj_map _ L,abx J S]
theorem abB{y:uV}(aB:X.ql R.op (.ext y)=true)(q:h5 X ad I a aR st w)(h:bD call (.ext y) I st= .ok v bC al):
 bC=I/\rq X (.ext y) ad w v st al (execOp a.eval R):=by
 generalize ay:R.op=op at aB;replace aB:Br X.P X.a6 X.keys X.qh X.eqs X.qi X.l1 op y=true:=aB;replace h:IL I st y= .ok v bC al:=h;unfold Br at aB;split at aB<;>try simp only[cQ,ET,mA,decide_eq_true_eq,beq_iff_eq]at aB
 .rename_i ok _ _ _ _ _ _;obtain⟨⟨⟨⟨⟨rfl,bU⟩,rfl,H⟩,rfl⟩,N⟩,ae⟩:=aB;obtain⟨ih,ai,E,J⟩:=EY N;rw[E]at ae;obtain⟨hp,i,af,aH⟩:=Pt ae;obtain⟨S,h⟩:=jK h az;have bt:=fR.same S<|q.aq H;have aK:=bo.pure ad _ hp;have two:∀{p r:bv} {b:Bool},bo ad p r->bo ad (cond ok (.tuple #[p,.bool b]) p) (cond ok (.tuple #[r,.bool b]) r):=λd=>by cases ok;exact d;exact bo.ri<|bO.cons d<|bO.cons (.bool _)<|bO.nil ad
  rcases q.map bU h with⟨id,es,c,b,bM,C,Q,W,g,F,L,D,h⟩|⟨g,h⟩
  .obtain⟨ak,h⟩:=jK h az;rcases D.find (X:=X) J S ak w with⟨Y,G,_⟩|⟨e,j,O,Y,G,a',N,ae,a7,aM,bn⟩
   .rw[G]at h;cases h;exact q.rd (two aK) aqW
   .rw[N]at h;cases h;exact q.rd (two aM) aqW
  .cases h;exact q.rd (two aK)<|by cases ok<;>simp[*,Instr.lookup,wU J S,abw J S]
 .grind [EY,PD]
 .obtain⟨⟨⟨⟨rfl,bU⟩,rfl,H⟩,rfl,Z⟩,N⟩:=aB;obtain⟨ih,ai,E,J⟩:=EY N;exact PD q bU H Z (.inr ay) E J h
 .obtain⟨⟨⟨rfl,bU⟩,rfl,H⟩,N⟩:=aB;obtain⟨ih,ai,E,J⟩:=EY N;obtain⟨S,h⟩:=jK h az;have bt:=fR.same S<|q.aq H;obtain⟨id,es,c,b,bM,C,Q,W,g,F,L,D,h⟩|⟨_,h⟩:=q.map bU h<;>try cases h
  obtain⟨ak,h⟩:=jK h az;cases(jq ..).symm.trans h;have aN:I4 ad (.tuple #[]) (.value<|.tuple #[]):=.inl ⟨_,o,bo.ri<|bO.nil ad⟩;rcases D.find (X:=X) J S ak w with⟨Y,G,_⟩|⟨e,j,O,Y,G,a',N,ae,a7,aM,bn⟩
  .refine q.EZ F W C Q ?_ aN ap7;unfold q8;rw[Ar.2]
   .exact D
   .intro e A;have:=Bt G e A;cases a1:dE (I.aq _) e.key
    .rfl
    .exact absurd (j4 _ _ a1).symm this
  .exact q.EZ F W (C.eraseIdxIfInBounds j) Q (by rw[Array.toList_eraseIdxIfInBounds];exact D.del ak G a') aN ap7
 .obtain⟨⟨rfl,bU⟩,G⟩:=aB;obtain⟨ih,ai,E⟩:=isMap G;rcases q.map bU h with⟨id,es,c,b,bM,C,Q,W,g,F,L,D,h⟩|⟨g,h⟩
  .rw[wO,fi]at h;cases h;obtain⟨l,hp,bg,_⟩:=D.same;have e:es.length=C.size:=by rw[<-hp.length_eq,bg];simp
   exact q.rd (.int _ _)<|by simp[*,Builtin.len_,MapKept.run_getObj_map L]
  .cases h;exact q.rd (.int _ _)<|by simp[*,Builtin.len_]
 .rename_i y _ _;obtain⟨⟨rfl,bU⟩,G⟩:=aB;obtain⟨ih,ai,E⟩:=isMap G;have fin:∀(m:bG) (M:Obj),v= .pointer (some ⟨st.ag,0,none⟩)->bC=I->al=⟨st.h.set st.ag m,st.ag+1⟩->(∀aJ aG,ad.le aJ->aG.heap[w.heap.size]? =some M->hA X aJ aG m ⟨w.heap.size,0,0,id⟩)->
   (execOp a.eval R).run X.P w= .ok (.value<|.pointer<|some ⟨w.heap.size,0,none⟩) {w with heap:=w.heap.push M}->bC=I/\rq X (.ext<|.uW y) ad w v st al (execOp a.eval R):=by
   rintro m M rfl rfl rfl hm aw;obtain⟨aJ,bU,H,Z,_⟩:=bZ.alloc X q.w m M 0 (λaJ aG hle _ aN=>hm aJ aG hle aN) {w with heap:=w.heap.push M} rfl;exact yE ⟨o,aJ,_,_,aw,.inl ⟨_,o,Jp Z⟩,bU,H⟩ o o
  rcases q.map bU h with⟨id,es,c,b,bM,C,Q,W,g,F,L,D,h⟩|⟨g,h⟩
  .rw[gV]at h;cases h;exact fin _ (.mapIter (some b) Q #[] Q) o o o (λaJ aG hle aN=>⟨o,o,_,_,_,_,aN,.inr ⟨id,b,bM,o,o,hle _ _ W,D.jr,o,D.jr⟩⟩)<|by simp[*,Instr.range,MapKept.run_getObj_map L]
  .rw[gV]at h;cases h;exact fin _ (.mapIter none 0 #[] 0) o o o (λaJ aG _ aN=>⟨o,o,_,_,_,_,aN,.inl e9⟩)<|by simp[*,Instr.range]
 .obtain⟨rfl,bU⟩:=aB;obtain⟨ch,l,bH,W,g,aC⟩:=q.ptr bU h;obtain⟨-,bj⟩:=yw aC λ_=>az;obtain⟨bb,dj⟩:=kG bj az;obtain⟨m,bS,bw,bR,F,dp⟩:=Pz dj az;obtain⟨id,aZ,fa⟩:=ig dp az;obtain⟨s,bl,gC⟩:=ig fa az;obtain⟨es,clock,bp,mz⟩:=Jr gC az;obtain⟨Y,oD⟩:=kG mz az;obtain⟨G,qk⟩:=jo oD az;obtain⟨e,A,vg⟩:=ig qk az;clear h aC bj dj dp fa gC mz oD qk;subst aZ;cases vg;obtain⟨bN,K,ba,bJ,bI,bE,au,aV,a8,aT⟩:=q.w.eJ _ _ F az;rw[W]at K;cases K;rcases aT with⟨bf,_⟩|⟨r,b,bM,U,T,aL,bK,bq,aU⟩
  .cases bf
  cases U;subst T;obtain⟨bP,aP,-,-,C,Q,L,D⟩:=q.w.eJ _ _ bp az;rw[aP]at aL;cases aL;replace L:w.heap[b]? =some (.map C Q):=L;obtain⟨c,B,ar,ao⟩:=D.aby G A;have bz:au.back?=some (bM s):=by
   have:au.back?=au.toList.getLast?:=az
   rw[this,bq,List.getLast?_map];rw[show bw.getLast?=some s from bl];rfl
  have bs:Q=aV:=by rw[D.jr,aU,Y]
  have aY:C.find? (λx=>x.born==bM s)=some c:=by rw[<-Array.find?_toList];exact B
  refine q.rd (bA:=.tuple #[c.key,c.val]) (bo.ri<|bO.cons ar<|bO.cons ao<|bO.nil ad) ?_;rw[ba,bb]at g;simp only[execOp,ay,g,Instr.entry,Sem.run_bind,Js a8,Result.andThen,bz,Sem.run_pure,MapKept.run_getObj_map L,sa];simp[bs,aY]
 .cases h
 .rename_i gt _ _ _ _ _ _ _;obtain⟨⟨⟨rfl,rfl,bU⟩,rfl,H⟩,_⟩:=aB;obtain⟨k,cp,-,g,Y⟩:=q.int bU h;obtain⟨aB,G⟩:=jK Y az;obtain⟨n,aj,a'⟩:=qf G az;obtain⟨b,aa,N⟩:=ig a' az;have bk:=wT aB;subst bk aj;cases N;obtain⟨m,V,aI⟩:=PA aa<|q.aq H;refine q.rd (.bool _) ?_;have:(!decide ((n:Int)<=m))=decide (m<(n:Int)):=by rw[p1];simp
  cases gt<;>simp[*,eqGuard,binOp,Op.intCmp]
 .obtain⟨⟨⟨⟨rfl,bU⟩,rfl,H⟩,a9⟩,rfl⟩:=aB;obtain⟨s,-,g,h⟩:=q.str bU h;obtain⟨b,-,V,h⟩:=q.str H h;unfold yr at h;obtain⟨b',br,bj⟩:=ig h az;cases b'<;>try cases bj
  obtain⟨bB,dp⟩:=yx (bj:cond _ _ _=_) az;obtain⟨c,ah,fa⟩:=yy dp az;obtain⟨af,gC⟩:=jK fa az;obtain⟨G,mz⟩:=jo gC az;obtain⟨a',oD⟩:=jo mz az;rw[fi]at af G a';cases oD;obtain⟨l,W,C,fw,L⟩:=q.w.eJ _ _ br az;rw[q.w.k8 _ X.Be]at W;cases W;subst ah;obtain⟨Q,B,ar⟩:=L.cell 0 az;have a5:A1 b.data.toList.length c=some true:=by
   unfold O1 at af;split at af
   .assumption
   .cases af
  obtain⟨m,rfl,aI⟩:=PA a5 ar;have hle:((b.data.toList.length:Nat):Int)<=m:=by simpa using aI.symm
  have a2:(load ⟨X.l1,0,none⟩).run X.P w= .ok (.int .i64 m) w:=by
   have ao:C[0]? =some (.int .i64 m):=by simpa using B
   rw[run_load,cell_of L.ex.choose_spec];simp[ao]
  refine q.rd (.int _ _) ?_;have:=X.Bf _ a9 s b m w a2 (by simpa using G) (by simpa using hle) (by simpa using a');simp only[EP ay,x5,j2,x6,g,V];rw[this];cases qb b.data.toList s.data.toList<;>rfl
 .obtain⟨⟨⟨rfl,bU⟩,rfl,H⟩,a'⟩:=aB;obtain⟨s,-,g,h⟩:=q.str bU h;obtain⟨k,O,-,V,Y⟩:=q.int H h;obtain⟨aB,G⟩:=jK Y az;obtain⟨c,U,N⟩:=qf G az;obtain rfl:=wT aB;subst U;cases N;exact q.rd (.int _ _)<|by simp only[EP ay,x5,j2,x6,g,V];rw[X.Bd _ a' s (c:Int) w];rfl
 .rename_i neg _ _ _ _ _ _ _ _;obtain⟨⟨⟨rfl,rfl,bU⟩,rfl,H⟩,a'⟩:=aB;obtain⟨n,aj,a'⟩:=(qX _ _).1 a';obtain rfl:=dy a';obtain⟨xs,aA,g,aX,h⟩:=q.agg bU h;obtain⟨aS,aO,V,a0,h⟩:=q.agg H h;obtain⟨Y,h⟩:=kG h az;obtain⟨G,h⟩:=kG h az;obtain⟨b,aa,h⟩:=ig h az;cases h;obtain⟨U,T⟩:=PC aa aX a0;obtain rfl:aA=xs:=Array.ext' U;obtain rfl:aO=aS:=Array.ext' T;rw[fi]at Y G;obtain⟨bT,bc⟩:=X.wQ _ _ aj;have aD:=bc aA aO b w (by rw[<-Array.length_toList];exact Y) (by rw[<-Array.length_toList];exact G) aa;refine q.rd (.bool _) ?_;cases neg<;>simp[*,eqGuard,program,Sem.run,run_eql_struct,run_neq_struct]
 .cases aB
end
section
variable{ad:bN}{I bC:aO}{a:Act}{aR:Nat}{st al:ao}{w:d9}{R:Oper}{v:bv}{call:bR}
attribute [local simp] Result.andThen underlying typeInfo sizeOf zeroValue resolve invoke builtin convert Instr.sureAddr asIntOf asInt asBool asAgg execOp
set_option maxHeartbeats 4000000 in
theorem abC{x:dm}(aB:X.ql R.op x=true)(q:h5 X ad I a aR st w)(h:bD call x I st= .ok v bC al)(hp:x.inPlace=true):bC=I/\rq X x ad w v st al (execOp a.eval R):=by
 generalize ay:R.op=op at aB;unfold Ctx.ql Pu at aB;split at aB<;>try simp only[cQ,ET,Bp,abq,mA,decide_eq_true_eq,beq_iff_eq,rn,Ji]at aB
 .obtain⟨rfl,k⟩:=aB;cases h;exact q.rd<|q.aq k
 .obtain⟨rfl,k⟩:=aB;cases h;exact q.rd<|q.aq k
 .obtain⟨⟨⟨rfl,a5⟩,rfl,bU⟩,rfl,H⟩:=aB;obtain⟨t,_,e,h⟩:=q.bool a5 h;cases h;cases t
  .exact q.rd<|q.aq H
  .exact q.rd<|q.aq bU
 .obtain⟨rfl,aH⟩:=aB;obtain⟨hp,i,ve,af,aH,rfl⟩:=Jj aH;replace h:ys _ _ call I st=_:=h;exact q.hM h (bO.wS ad _ hp) (λ_=>Jp)<|by simp[*,Instr.alloc,newVar,newRow]
 .obtain⟨rfl,rfl,k⟩:=aB;obtain⟨hp,h⟩:=yx h az;exact q.hM h (bO.cells (q.aq k)<|abt hp) (λ_=>Jp)<|by simp[*,Instr.box,newVar,newRow]
 .obtain⟨bk,G⟩:=aB;obtain⟨hp,i,ve,af,aH,rfl⟩:=Jj bk;split at G<;>try cases G
  .rename_i aZ E;rw[cQ,ja]at G;obtain⟨bU,H⟩:=EU G.2;obtain⟨out,bf,Y,a',N⟩:=EJ _ q.f q.w az _ _ bU H _ ve.cells (bO.wS ad _ hp) h;cases N;have hm:(aZ.mapM λf=>do pure (f.offset,<-sizeOf f.type):Sem (bi<|Nat×Nat)).run X.P w= .ok (aZ.map λf=>(f.offset,X.P.cellsOf f.type)) w:=by
    rw[Ow,Sem.run_map,Pf X.P w _ (λf:Field=>(f.offset,X.P.cellsOf f.type)) aZ.toList (λf bq=>by
     obtain⟨b5,bp⟩:=Am.1<|G.1 f bq;simp[Program.cellsOf,bp])]
    simp only[Result.andThen];congr 1;apply Array.ext';simp
   refine q.rd (bo.sv a') ?_;simp only[execOp,ay,Instr.build,Sem.run_bind,Bj af aH,Result.andThen,run_underlying E,hm,Array.toList_map]
   erw [Y]
   rfl
  .rename_i n e E;obtain⟨b8,ae,G⟩:=(qX _ _).1 G;obtain⟨bU,H⟩:=EU G;obtain⟨out,bf,Y,a',N⟩:=EJ (λj=>some (j*b8.size,b8.size)) q.f q.w az _ _ bU H _ ve.cells (bO.wS ad _ hp) h;cases N;exact q.rd (bo.sv a')<|by simp[*,Instr.build]
 .rename_i n _ _ _ _ _;obtain⟨rfl,G⟩:=aB;split at G<;>try cases G
  rename_i el E;rw[cQ,mA]at G;obtain⟨rfl,G⟩:=G;split at G<;>try cases G
  rename_i b8 ae;obtain⟨ve,aH,G⟩:=(qX _ _).1 G;simp only[cQ,lZ]at G;obtain⟨⟨⟨aD,B⟩,bB⟩,bL⟩:=G;obtain⟨bU,H⟩:=EU bL;have b0:=AP _ _ B;obtain⟨out,bf,Y,a',N⟩:=EJ (λj=>some (j*b8.size,b8.size)) q.f q.w az _ _ bU H _ (List.toArray _) (bO.wS ad _ bB) h;refine q.hM N a' (Jq _ _) ?_;simp only[execOp,ay,Instr.buildSlice,Sem.run_bind,Result.andThen,run_underlying E,rm ae];rw[au J];have cf:∀(f:Nat->bv) n,(Array.range n).map f=((List.range n).map f).toArray:=λf n=>by apply Array.ext';simp
  by_cases T:n*b8.size=0<;>simp only[T,if_true,if_false]at Y⊢<;>simp_all [newRow]
 .obtain⟨⟨rfl,k⟩,d,S,F⟩:=aB;obtain⟨ch,l,cs,e,b1,aW,C,fw,-,-,g,-,ah,h⟩:=q.sD k h;obtain⟨aj,h⟩:=sw h az;obtain⟨v1,aC,h⟩:=yy h az;cases h;have aU:=ah.row ch.off 1 aj;rw[aC]at aU;obtain⟨y,aS,aV,bw,-⟩:=aU.cons_inv;have a1:=congrArg (λz=>z[0]?) aV;have a1:C[l.de+ch.off]? =some y:=by simpa using a1
  exact q.rd bw<|by simp[*,Instr.loadAt,loadVar,Bi S,cell_of ah.ex.choose_spec]
 .obtain⟨⟨⟨rfl,k⟩,d,S,F⟩,i,af,rfl⟩:=aB;obtain⟨ch,l,cs,e,b1,aW,C,fw,-,-,g,-,ah,h⟩:=q.sD k h;obtain⟨aj,h⟩:=sw h az;cases h;have aU:=ah.row ch.off i.size aj;have bW:=ah.kH;rw[m5]at aj;by_cases aH:i.size=0
  .rw[aH];exact q.rd (bA:=.agg #[]) (bo.sv aqH)<|by simp[*,Instr.loadAt,loadVar,Bi S,loadCells,loadCellsFrom]
  exact q.rd (bA:=.agg ((C.toList.drop<|l.de+ch.off).take i.size).toArray) (bo.sv<|by simpa using aU)<|by simp[*,Instr.loadAt,loadVar,Bi S,Pb ah.ex.choose_spec (show l.de+ch.off+i.size<=C.size by omega)]
 .obtain⟨⟨⟨rfl,k⟩,rfl,L⟩,i,af,rfl⟩:=aB;obtain⟨ch,l,M,W,g,h⟩:=q.ptr k h;obtain⟨aj,h⟩:=kG h az;obtain⟨a7,h⟩:=jK h az;obtain⟨-,cs,elem,b1,aW,F,bT,h⟩:=Pa h az;rw[fi]at aj;have a4:=bO.cells (q.aq L)<|aa2 a7;have K:=a4.1;simp only[h0]at K aj;refine yE ?_ o o;rcases h with⟨hle,h⟩|⟨aO,h⟩<;>cases h
  .obtain⟨aG,aw,Y,G⟩:=q.w.store F W bT hle a4 a7;exact⟨o,ad,.skip,aG,by simp_all [Instr.storeAt,storeVar,h0],.inr e9,Y,G⟩
  .rw[show(I.aq _).cells.toList=[]from aO]at K aj;have aO:=pg K.symm;exact aqc aqc
 .obtain⟨rfl,k⟩:=aB;replace h:IN _ call I st=_:=h;unfold IN at h;generalize bh:I.aq _=bN at h;obtain⟨u,g,d⟩:=q.of k bh;cases bN<;>try cases h
  .rename_i p;cases p<;>cases h;cases d with
   |ptr _ l W M=>exact q.rd<|.ptr _ _ W M
  .rename_i f _ _;cases f<;>cases h;cases d with
   |func _ V _ aS _ cg bE Y G a' N=>
    obtain⟨rfl,_⟩|⟨l,b,e,_⟩:=bE
    .exact q.rd<|.func _ _ _ _ _ _ (.inl ⟨o,az⟩) Y G a' N
    .cases e
 .obtain⟨⟨rfl,rfl,k⟩,rfl,L⟩:=aB;rcases aa4 h az with⟨i,m,ca,n,e,a8,h⟩|⟨s,u,e,a8,h⟩<;>obtain⟨_,g,d⟩:=q.of k e<;>obtain⟨_,V,bP⟩:=q.of L a8<;>cases d<;>cases bP
  .obtain⟨v1,h,hp,aw⟩:=abb h az;cases h;exact q.rd (.pure ad _ hp)<|by simp[*,aba]
  .unfold AU at h;split at h
   .obtain⟨hle,h⟩:=jo h az;cases h;simp only[fi]at hle;refine q.rd (bA:=.string<|s++u) ?_ ?_
    .rw[show(⟨⟨e8 s.data.toList u.data.toList⟩⟩:f8)=s++u by
      rw[rj];apply ByteArray.ext;simp[ByteArray.data_append]]
     exact .string _
    .have K:¬(((s.size+u.size:Nat):Int)>IntKind.i64.max):=by
      have Y:s.size=s.data.toList.length:=(jm (xs:=s.data)).symm;have G:u.size=u.data.toList.length:=(jm (xs:=u.data)).symm;have a':IntKind.i64.max=9223372036854775807:=av
      have N:s.data.toList.length+u.data.toList.length<=1099511627776:=hle;rw[a',Y,G];omega
     simp only[execOp,ay,g,V,Sem.run_bind,Jb,Result.andThen,binOp,Op.stringOp];rw[au K];rfl
   .exact aqu
   .exact aqu
   .cases h
 .obtain⟨⟨⟨rfl,rfl,k⟩,rfl,L⟩,N⟩:=aB;obtain⟨b,aa,h⟩:=ig h az;cases h;exact q.rd (.bool _)<|abu ay N aa (q.aq k)<|q.aq L
 .obtain⟨rfl,rfl,k⟩:=aB;cases ‹UnOp› <;>try cases h
  .obtain⟨i,n,-,g,h⟩:=q.int k h;rw[iS,lC,IH]at h;cases h;exact q.rd (.int _ _)<|by simp[*,Op.unary,Op.intArith]
  .obtain⟨i,n,-,g,h⟩:=q.int k h;rw[iS]at h;cases h;exact q.rd (.int _ _)<|by simp[*,Op.unary,Op.intBits]
  .obtain⟨b,-,g,h⟩:=q.bool k h;cases h;exact q.rd (.bool _)<|by simp[*,Op.unary]
 .obtain⟨⟨rfl,k⟩,G⟩:=aB;split at G<;>try cases G
  obtain⟨i,n,-,g,h⟩:=q.int k h;rw[iS,lC]at h;cases h;cases jD G;exact q.rd (.int _ _)<|by simp[*,Conv.intToInt]
 .obtain⟨⟨rfl,k⟩,G⟩:=aB;split at G<;>try cases G
  obtain⟨s,-,g,h⟩:=q.str k h;cases h;exact q.rd<|.string _
 .obtain⟨⟨rfl,k⟩,G⟩:=aB;split at G<;>try cases G
  split at G<;>try cases G
  obtain⟨b,n,c,u,g,d,h⟩:=q.aL k h;cases b with
  |none=>
   cases h;cases d;exact q.rd (.string .empty) (by simp[*,Conv.bytesToString])
  |some b=>
   obtain⟨-,cs,el,b1,aW,F,aj,h⟩:=EE (h:ao.load st b _ _ _=_) az;obtain⟨bH,aa,h⟩:=ig h az;cases h;obtain⟨l,W,C,fw,ah⟩:=q.w.eJ _ _ F az;obtain⟨dH,U,aY⟩:=Jf aa;cases d with
   |fv _ cd bb _ _ aI cb ag=>
    rw[W]at aI;cases aI;obtain⟨aw,aP⟩:=ah.hB (ag.imp_right (·.1)) aj;rw[U]at aw;rw[I5 aw]at aP;have aP:=aP w o;refine q.rd (bA:=.string ⟨⟨bH⟩⟩) (.string _) ?_;simp only[execOp,ay,g,convert,Sem.run_bind,run_underlying ‹X.P.underlying _=some (.slice _)›,run_underlying ‹X.P.underlying _=some .string›,run_underlying ‹X.P.underlying _=some (.int .u8)›,Result.andThen,Conv.bytesToString,aP];rw[Po X.P w _ (λ_ _=>o) dH ByteArray.empty];simp[aY]
 .rename_i e _ _ _ _;obtain⟨⟨rfl,k⟩,G⟩:=aB;split at G<;>try cases G
  rename_i M aN;simp only[cQ,mA,rn]at G;obtain⟨⟨rfl,i,af,aH⟩,G⟩:=G;split at G<;>try cases G
  rename_i aO;refine Jn ?_ o;obtain⟨s,-,bV,h⟩:=q.str k h;obtain⟨hle,h⟩:=jo h az;rw[gV]at h;simp only[fi]at hle h;cases h;have K:s.size=s.data.toList.length:=(jm (xs:=s.data)).symm
  let Q:Question:=.appendCap s.size 0 e
  have b3:s.size<=Q.cut (w.tape w.drawn Q):=by show s.size<=s.size+_;omega
  let C:bi bv:=(s.data.map λb=>Value.int .u8 b.toNat)++Array.replicate (Q.cut (w.tape w.drawn Q)-s.size) (.int .u8 0)
  have b4:C.size=Q.cut (w.tape w.drawn Q):=by
   simp only[C,Array.size_append,Array.size_map,Array.size_replicate];have:s.data.size=s.size:=rfl;omega
  have ak:X.P.cellsOf e=1:=by simp[Program.cellsOf,af,aH]
  let aG:d9:={w with drawn:=w.drawn+1,heap:=w.heap.push<|.cells C e (C.size,C.size+1)}
  have bR:(execOp a.eval R).run X.P w= .ok (.value<|.slice (some ⟨w.heap.size,0,none⟩) s.size<|Q.cut<|w.tape w.drawn Q) aG:=by
   have bI:(markStringish ⟨w.heap.size,0,none⟩).run X.P {w with drawn:=w.drawn+1,heap:=w.heap.push<|.cells C e}= .ok () aG:=by
    simp[markStringish,World.shape?,World.freeze,aG];apply Ic;intro j;rw[Array.getElem?_modify];by_cases A:w.heap.size=j
    .subst A;simp
    .rw[au A,Dr,Dr,au<|Ne.symm A,au<|Ne.symm A]
   simp only[execOp,ay,bV,convert,Sem.run_bind,run_underlying M,run_underlying aN,Result.andThen,run_underlying aO,Conv.stringToBytes,run_choose,Question.forced,r9,if_false,newRow,run_newObj,Sem.run_pure];rw[bI]
  obtain⟨aJ,bU,H,Z,a0⟩:=q.w.EL e (Je ad s.data.toList) (List.replicate (Q.cut (w.tape w.drawn Q)-s.size)<|.int .u8 0) (Q.cut (w.tape w.drawn Q)-s.size) (by rw[ak];simp) (C.size,C.size+1) (λj A=>by
   rw[Bo]at A;simp only[hV,nF]at A;simp only;omega) aG (by
   show w.heap.push (.cells C e (C.size,C.size+1))=_;congr 2;apply Array.ext';rw[Bo];simp[C])
  subst a0;refine⟨o,_,_,_,_,aG,o,az,bR,o,?_,bU,H⟩;have:=Jq s.data.toList.length s.data.toList.length _ Z;rw[<-K]at this⊢
  rwa [show s.size+(Q.cut (w.tape w.drawn Q)-s.size)=Q.cut (w.tape w.drawn Q) by omega]at this
 .obtain⟨⟨rfl,rfl,k⟩,G⟩:=aB;split at G<;>try cases G
  rename_i d O S;cases h;cases d<;>first|exact absurd o (O _)|exact q.rd (.iface _ _ _<|q.aq k)<|by simp[*,Instr.makeInterface]
 .exact aoR
 .exact aoR
 .obtain⟨⟨⟨rfl,k⟩,rfl,L⟩,G⟩:=aB;split at G<;>try cases G
  rename_i el E;simp only[cQ,mA,qX]at G;obtain⟨⟨rfl,G⟩,b8,ae,⟨rfl,O⟩,K⟩:=G;have O:=Bs O;obtain⟨hp,i,z,af,aH,rfl⟩:=Jj G;rw[ae]at af;cases af;obtain⟨_,cc,-,g,h⟩:=q.int k h;obtain⟨_,bS,-,V,h⟩:=q.int L h;obtain⟨cV,U,Y⟩:=qf h az;obtain⟨jN,aY,G⟩:=qf Y az;subst U aY;obtain⟨hle,a'⟩:=jo G az;obtain⟨aa,h⟩:=jo a' az;have bx:z.cells.toList≠[]:=by intro e;rw[e]at K;simp at K;omega
  have bJ:=Pg z.cells.toList jN bx;have bt:∀n,bO ad (q7 z.cells.toList n) (q7 z.cells.toList n):=by
   intro n
   induction n with
   |zero=>exact bO.nil ad
   |succ n bl=>show bO ad (e8 _ _) (e8 _ _);rw[rj];exact(bO.wS ad _ hp).append bl
  refine q.hM h (bt jN) (Jq cV jN) ?_;have ba:jN*(b8.bytes+1)<=1099511627776:=aa;have bg:jN<=1099511627776:=cN (At jN J) ba;have c':b8.bytes*jN<=1099511627776:=by
   have:b8.bytes*jN<=jN*(b8.bytes+1):=by rw[hK];exact q1 _ J
   omega
  have hw:∀n:Nat,n<=1099511627776->IntKind.i64.wrap (n:Int)=n:=λn _=>by rw[<-lC];simp only[oy];rw[yl _ _ _ av];rw[au]<;>omega
  have F:(decide ((jN:Int)<0)||decide ((b8.bytes:Int)*(jN:Int)>2^48)||decide ((cV:Int)<0)||decide ((cV:Int)>(jN:Int)))=false:=by
   have:((b8.bytes*jN:Nat):Int)<=1099511627776:=J
   rw[Dy]at this;simp only[Bool.or_eq_false_iff,decide_eq_false_iff_not];omega
  have ak:(Array.range<|jN*b8.size).map (z.cells[· %z.cells.size]!)=(q7 z.cells.toList jN).toArray:=by
   rw[bJ];apply Array.ext';simp[K]
  simp only[execOp,ay,Instr.makeSlice,Sem.run_bind,Result.andThen,run_underlying E,g,V,asInt,asIntOf,Sem.run_pure,typeInfo,run_program,ae,hw cV<|cN hle bg,hw jN bg,F,r9,if_false,run_askRoom,rm ae,tb];by_cases T:jN*b8.size=0
  .obtain rfl:jN=0:=(Nat.mul_eq_zero.1 T).resolve_right O;have bn:q7 z.cells.toList 0=[]:=rfl;simp[newRow,bn];congr 2;apply Array.ext';simp
  .rw[au T];simp only[Sem.run_bind,Bj ae aH,Result.andThen,Sem.run_pure,ak,newRow,run_newObj];rfl
 .obtain⟨⟨⟨⟨rfl,k⟩,rfl,bU⟩,rfl,H⟩,G⟩:=aB;split at G<;>try cases G
  obtain⟨s,-,g,h⟩:=q.str k h;obtain⟨aj,h,ai⟩:=py q.f q.w H h az;obtain⟨cV,h,aM⟩:=py q.f q.w bU h az;obtain⟨ah,h⟩:=sw h az;cases h;rw[fi]at ai;have bK:=Pl ai<|c4 _;have bG:=Pl aM<|dg _;have e:=abe s cV aj bG bK;refine q.rd (bA:=.string<|s.extract cV aj) (e▸.string _) ?_;rw[show s.data.toList.length=s.size by rw[jm];rfl]at ai;have aa:=Bn X.P w false s.size s.size cV aj s.size _ _ none (.inl e9) (pz ai) (pz aM) az;simp[*,Instr.sliceAt,Instr.slice]
 .rename_i n s _ _ _ _ _ _ _ _ _;obtain⟨⟨⟨⟨⟨⟨rfl,k⟩,rfl,bU⟩,rfl,H⟩,rfl,Z⟩,hm⟩,G⟩:=aB;split at G<;>try cases G
  simp only[cQ,mA,rn]at G;obtain⟨rfl,b8,ae,rfl⟩:=G;obtain⟨ch,l,cs,el,b1,aW,C,fw,M,W,g,-,ah,h⟩:=q.sD k h;obtain⟨rfl,h⟩:=yx h az;obtain⟨m,h,bz⟩:=py q.f q.w Z h az;obtain⟨aj,h,ai⟩:=py q.f q.w H h az;obtain⟨cV,h,aM⟩:=py q.f q.w bU h az;cases h;have ar:=ah.plain o;have aa:=Bn X.P w false n n cV aj m _ _ _ (pz bz) (pz ai) (pz aM)<|abr hm;refine q.rd (bA:=.slice (some (if m=cV then⟨l.cA,l.de+ch.off,none⟩else Addr.add ⟨l.cA,l.de+ch.off,none⟩ (cV*b8.size))) (aj-cV)<|m-cV) ?_ (by simp[*,Instr.sliceAt]);rw[mx];by_cases c:m=cV
  .rw[aA c,aA c];have:=bo.fv (ad:=ad) ch l (l.de+ch.off) (Nat.sub aj cV) (Nat.sub m cV) W M nQ;rw[ar.1]at this;exact this
  .rw[au c,au c,add_eq];have:=bo.fv (ad:=ad) (ch.add<|Nat.mul cV b8.size) l (l.de+(ch.add<|Nat.mul cV b8.size).off) (Nat.sub aj cV) (Nat.sub m cV) arY (Bm _ _ M) nQ;rw[ar.1,EI,<-Nat.add_assoc]at this;exact this
 .obtain⟨⟨⟨⟨⟨⟨rfl,k⟩,rfl,bU⟩,rfl,H⟩,rfl,Z⟩,hm⟩,G⟩:=aB;split at G<;>try cases G
  obtain⟨b8,ae,rfl⟩:=rn.1 G;exact Jm (abf (call:=call) k bU H Z (by intro a b;simp_all) ay ‹_› ae q.f q.w h) o
 .obtain⟨⟨rfl,k⟩,G⟩:=aB;split at G<;>try cases G
  split at G<;>try cases G
  simp only[cQ,mA,qX]at G;obtain⟨rfl,i,af,aH⟩:=G;have aH:=Bs aH;obtain⟨ch,l,M,W,g,h⟩:=q.ptr k h;cases h;exact q.rd (Jo W M _)<|by simp[*,Instr.fieldAt,fieldPlace]
 .obtain⟨⟨rfl,k⟩,G⟩:=aB;split at G<;>try cases G
  split at G<;>try cases G
  simp only[cQ,mA,rn,Ji]at G;obtain⟨⟨rfl,i,af,rfl⟩,d,S,rfl⟩:=G;obtain⟨xs,aS,g,aw,h⟩:=q.agg k h;obtain⟨v1,aC,h⟩:=ig h az;cases h;obtain⟨bA,aw,aX⟩:=Pd S af aw aC w;exact q.rd aX<|by simp[*,Instr.field]
 .obtain⟨⟨⟨rfl,k⟩,rfl,L⟩,G⟩:=aB;split at G<;>try cases G
  simp only[cQ,mA,rn]at G;obtain⟨rfl,i,af,rfl⟩:=G;obtain⟨ch,l,M,W,g,h⟩:=q.ptr k h;obtain⟨_,j,-,V,h⟩:=q.nat L h;obtain⟨A,h⟩:=jo h az;cases h;have A:j<_:=A;exact q.rd (Jo W M _)<|by simp[*,Instr.indexAt]
 .obtain⟨⟨⟨rfl,k⟩,rfl,L⟩,G⟩:=aB;split at G<;>try cases G
  obtain⟨i,af,rfl⟩:=rn.1 G;obtain⟨b,n,c,u,g,d,h⟩:=q.aL k h;obtain⟨ch,rfl,h⟩:=ig h az;obtain⟨_,j,-,V,h⟩:=q.nat L h;obtain⟨A,h⟩:=jo h az;cases h;have A:j<n:=A;cases d with
  |fv _ l bb _ _ W M ag=>
   obtain rfl:=ag.resolve_right J;exact q.rd (Jo W M _)<|by simp[*,Instr.indexAt]
 .obtain⟨⟨⟨rfl,k⟩,rfl,L⟩,G⟩:=aB;split at G<;>try cases G
  obtain⟨s,-,g,h⟩:=q.str k h;obtain⟨_,j,-,V,h⟩:=q.nat L h;obtain⟨aj,h⟩:=sw h az;obtain⟨b,aa,h⟩:=yy h az;cases h;have aT:j<s.size:=by rw[m5,jm]at aj;exact Nat.lt_of_sub_pos aj
  have ba:s[j]'aT=b:=by
   have:=congrArg (λl=>l[0]?) aa;simp only[pe,p3,Ao,sa]at this;exact Option.some.inj<|(wa (xs:=s.data) aT).symm.trans aoX
  exact q.rd (.int _ _)<|by simp[*,Instr.index]
 .obtain⟨⟨⟨rfl,k⟩,rfl,L⟩,G⟩:=aB;split at G<;>try cases G
  simp only[cQ,mA,rn,Ji]at G;obtain⟨⟨rfl,i,af,rfl⟩,d,S,rfl⟩:=G;obtain⟨xs,aS,g,aw,h⟩:=q.agg k h;obtain⟨_,j,-,V,h⟩:=q.nat L h;obtain⟨A,h⟩:=jo h az;obtain⟨v1,aC,h⟩:=ig h az;cases h;obtain⟨bA,aw,aX⟩:=Pd S af aw aC w;have A:j<_:=A;replace aw:(part _ aS<|j*i.size).run X.P w= .ok bA w:=aw;exact q.rd aX<|by simp[*,Instr.index]
 .obtain⟨⟨⟨⟨⟨rfl,k⟩,rfl⟩,rfl⟩,N⟩,aD⟩:=aB;split at N<;>try cases N
  rename_i O S;obtain⟨hp,i,af,aH⟩:=Pt aD;exact Jm (abd (call:=call) k ay S (λms e=>O ms arT) af aH hp q.f q.w h) o
 .rename_i i _ _;obtain⟨⟨rfl,k⟩,rfl⟩:=aB;obtain⟨xs,e,h⟩:=O9 h az;obtain⟨aj,h⟩:=sw h az;obtain⟨y,aV,h⟩:=yy h az;cases h;obtain⟨_,g,d⟩:=q.of k e;cases d with
  |tuple _ aS Y G=>
   have W:i<xs.size:=by simp at aj;omega
   have af:xs[i]'W=v:=by have:=congrArg (λl=>l[0]?) aV;simpa[W]using this
   have aI:i<aS.size:=J
   exact q.rd (af▸G i W aI)<|by simp[*,Instr.extract]
 .cases hp
 .obtain⟨⟨rfl,k⟩,G⟩:=aB;split at G<;>try cases G
  obtain⟨u,g,d⟩:=q.of k o;replace h:IT _ call I st=_:=h;unfold IT at h;generalize I.aq _=f at h d;cases d<;>try cases h
  all_goals first
   |exact q.rd (.int _ _) ap6
   |(rename_i p _;cases p<;>cases h)
 .obtain⟨⟨rfl,k⟩,G⟩:=aB;split at G<;>try cases G
  obtain⟨s,-,g,h⟩:=q.str k h;rw[wO,fi]at h;cases h;exact q.rd (.int _ _) ap6
 .cases h;split at aB
  .obtain rfl:=mA.1 aB;exact q.rd (.int _ _) ap6
  .split at aB<;>try cases aB
   obtain rfl:=mA.1 aB;exact q.rd (.int _ _) ap6
  .cases aB
 .obtain⟨⟨⟨rfl,k⟩,rfl,L⟩,G⟩:=aB;split at G<;>try cases G
  rename_i E S;simp only[cQ,mA]at G;obtain⟨⟨rfl,aD⟩,B⟩:=G;split at B<;>try cases B
  rename_i af;simp only[cQ,mA,qX]at B;obtain⟨⟨rfl,rfl⟩,z,aH,bY⟩:=B;exact yE (abk (call:=call) k L ay E S (λk e=>by subst e;cases aD) af aH bY q.f q.w h) o o
 .obtain⟨⟨rfl,k⟩,rfl,L⟩:=aB;obtain⟨i,n,-,g,h⟩:=q.int k h;obtain⟨m,hm,h⟩:=ig h az;rw[iS]at h;cases h;have aw:=Ph i q.f q.w _ n m L hm;exact q.rd (.int _ _)<|by simp[*,Builtin.max_]
 .obtain⟨⟨rfl,k⟩,rfl,L⟩:=aB;obtain⟨i,n,-,g,h⟩:=q.int k h;obtain⟨m,hm,h⟩:=ig h az;rw[iS]at h;cases h;have aw:=Pj i q.f q.w _ n m L hm;exact q.rd (.int _ _)<|by simp[*,Builtin.min_]
 .obtain⟨⟨⟨rfl,k⟩,rfl,L⟩,G⟩:=aB;split at G<;>try cases G
  obtain⟨i,af,rfl⟩:=rn.1 G;exact yE (abl (call:=call) k L ay ‹_› af q.f q.w h) o o
 .cases hp
 .cases hp
 .cases hp
 .obtain⟨⟨rfl,k⟩,G⟩:=aB;split at G<;>try cases G
  obtain⟨i,af,aH⟩:=(qX _ _).1 G;have aH:=Bs aH;obtain⟨ch,l,cs,e,b1,aW,C,fw,M,W,g,-,ah,h⟩:=q.sD k h;obtain⟨aT,h⟩:=jo h az;rw[fi]at aT;cases h;have bW:=ah.kH;have b2:¬(C.size<=l.de+ch.off):=J
  exact q.rd (.ptr _ _ W M)<|by simp[*,Conv.unsafePointer,Pr X.P (ch:=⟨l.cA,l.de+ch.off,none⟩) ah.ex.choose_spec,cellsIn,ER ah.ex.choose_spec]
 .obtain⟨⟨rfl,k⟩,G⟩:=aB;split at G<;>try cases G
  simp only[cQ,mA,rn]at G;obtain⟨⟨rfl,i,af,rfl⟩,aH⟩:=G;have aH:=Bs aH;obtain⟨ch,l,cs,el,b1,aW,C,fw,M,W,g,-,ah,h⟩:=q.sD k h;obtain⟨bj,h⟩:=yx h az;obtain⟨T,h⟩:=kG h az;obtain⟨bX,h⟩:=kG h az;obtain⟨bc,h⟩:=kG h az;rw[fi]at bc;cases h;subst bj bX;have ar:=ah.plain o;have b':=ah.wP qo;have ak:X.P.cellsOf el=i.size:=by simp[Program.cellsOf,af]
  have ag:l.de+ch.off=0:=J
  have b6:(variablesAt ⟨l.cA,l.de+ch.off,none⟩ el 1).run X.P w= .ok true w:=by
   simp only[variablesAt,Sem.run_bind,run_program,Result.andThen,run_shape,ER b',Sem.run_pure];rw[Pp X.P el _ _ 1 (by rw[ak];exact aH) (by rw[ag];simp) (by
    rw[ag,ak,ar.2.2,bc];simp[Nat.div_self<|p4 aH])]
  refine q.rd (.ptr _ _ W M) ?_;clear ag T ar;simp[*,Conv.unsafePointer,Pr X.P (ch:=⟨l.cA,l.de+ch.off,none⟩) b']
 .obtain⟨rfl,k⟩:=aB;obtain⟨b,n,c,u,g,d,h⟩:=q.aL k h;cases b with
  |none=>
   cases h;cases d;exact q.rd .lG (by simp[*,abm])
  |some b=>
   replace h:dL c 0 a2.no (a2.ok (.pointer<|some b) I st)= .ok v bC al:=h;rw[mx]at h;split at h<;>cases h;cases d with
   |fv _ l bb _ _ W M ag=>
    obtain rfl:=ag.resolve_right J;exact q.rd (.ptr _ _ W M)<|by simp[*,abn _ _ _ _ (c+l.ex) J]
 .obtain⟨⟨⟨rfl,k⟩,rfl,L⟩,G⟩:=aB;split at G<;>try cases G
  simp only[cQ,mA,rn]at G;obtain⟨rfl,i,af,aH⟩:=G;exact yE (abo (call:=call) k L ay ‹_› af aH.symm q.f q.w h) o o
 .obtain⟨⟨⟨rfl,k⟩,rfl,L⟩,D⟩:=aB;obtain⟨s,-,g,h⟩:=q.str k h;obtain⟨b9,bS,-,V,h⟩:=q.int L h;obtain⟨aB,Y⟩:=jK h az;obtain⟨c,U,G⟩:=qf Y az;obtain rfl:=wT aB;subst U;cases G;refine q.rd (.int _ _) ?_;have:=X.Bc _ D s (c:Int) w;simp only[EP ay,x5,j2,x6,g,V];rw[this];congr 2;have K:s.size=s.data.toList.length:=(jm (xs:=s.data)).symm;have br:(λi:Nat=>s[i]! ==(c:Int).toNat.toUInt8)=(λi:Nat=>s.data.toList[i]! ==UInt8.ofNat c):=by
   funext i;have U:s[i]! =s.data[i]! :=by
    by_cases af:i<s.size
    .rw[getElem!_pos s i af,getElem!_pos s.data i af];rfl
    .rw[getElem!_neg s i af,getElem!_neg s.data i af]
   rw[U];simp[Array.getElem!_eq_getD]
  rw[Pq,K,br];cases(List.range s.data.toList.length).find? (λi=>s.data.toList[i]! ==UInt8.ofNat c)<;>rfl
 .obtain⟨⟨rfl,k⟩,D⟩:=aB;cases h;exact q.rd (q.aq k)<|by rw[EP ay];simp[X.Bb _ D]
 .replace h:wL call I st=_:=h;unfold wL at h;rw[gV]at h;cases h;obtain⟨aJ,bU,H,Z,a0⟩:=bZ.alloc X q.w (.map [] 0) (.map #[] 0) 0 (λaJ aG _ _ aN=>⟨o,o,#[],0,aN,o,⟨λs t h _ _=>absurd h<|m6 _,λs h=>absurd h<|m6 _,λj=>az⟩,az,.nil,.nil,[],.nil,o,λi af=>by simp at af⟩) {w with heap:=w.heap.push<|.map #[] 0} rfl;subst a0;refine Jn ⟨o,_,_,_,.map<|some w.heap.size,_,o,az,?_,o,.map _ _ _ Z,bU,H⟩ o;simp[*,Instr.makeMap]
 .cases h
 .exact abB (call:=call) (ay▸aB) q h
 .cases h
 .cases aB
end
variable{op:Op}{f:ce}{bd:ac ce}
def abD(aB:X.ql op .u1=true):∃aF,op= .call {callee:=.builtin .recover,args:= #[],argTypes:=aF}:=by
 cases op with
 |call c=>
  obtain⟨callee,⟨args⟩,aF⟩:=c;cases callee with
  |builtin b=>
   cases b with
   |recover=>
    match args,aB with
    |[],_=>exact⟨aF,o⟩
    |_::_,aB=>cases aB
   |_=>cases aB
  |_=>cases aB
 |_=>cases aB
def PE(aB:X.ql op (.call f bd)=true):∃g args aF,op= .call {callee:=.value g,args:=args,argTypes:=aF}/\
 (df X.a6 f g&&ng X.a6 bd args.toList&&(match g with|.func k=>((X.P.funcs[k]?).map λfn=>fn.body.isSome&& !(fn.name== "runtime.NumGoroutine")).getD false|_=>true))=true:=by
 cases op with
 |call c=>
  have⟨callee,args,aF⟩:=c;cases callee with
  |value g=>exact⟨g,args,aF,o,aB⟩
  |_=>cases aB
 |_=>cases aB
def abE(aB:X.ql op (.p8 f bd)=true):∃g args aF,op= .defer {callee:=.value g,args:=args,argTypes:=aF}/\(df X.a6 f g&&ng X.a6 bd args.toList)=true:=by
 cases op with
 |defer c=>
  have⟨callee,args,aF⟩:=c;cases callee with
  |value g=>exact⟨g,args,aF,o,aB⟩
  |_=>cases aB
 |_=>cases aB
def abF{p:ce}(aB:X.ql op (.ox p)=true):∃q,op= .panic q/\df X.a6 p q=true:=by
 cases op with
 |panic q=>exact⟨q,o,aB⟩
 |_=>cases aB
end Go.bI
namespace Go.bI
def E0{X:Ctx}{ad:bN}{I bC:aO}{a:Act}{aR:Nat}{st al:ao}{w:d9}{R:Oper}{v:bv}{call:bR}{x:dm}(aB:X.ql R.op x=true)(D:e1 ad I a aR)(hw:bZ X ad st w)(h:bD call x I st= .ok v bC al)(hp:x.inPlace=true):
 bC=I/\rq X x ad w v st al (execOp a.eval R):=abC aB ⟨D,hw⟩ h hp
structure dQ where
 fn:d8
 kind:CallKind
 b7:be Nat
def dQ.at(b:dQ)(a:Act)(todo:ac Item):Frame:=
 {fn:=b.fn,tmps:=a.tmps,todo:=todo,defers:=a.defers,mode:=.run,kind:=b.kind,roundOf:=b.b7}
def eval_at(b:dQ)(a:Act)(todo:ac Item):(b.at a todo).eval=a.eval:=by
 funext x;cases x<;>rfl
section
variable{P:f7}{b:dQ}{a:Act}{k:ac Item}{cs:ac Frame}{w:d9}{ops:bi Oper}
variable{R:Oper}{i:Nat}{rest:ac Nat}{aG:d9}{c x y:Code}{v:bv}{f:d8}
def PF:step P (lone (b.at a<|.inScope c::k) cs w)= .next (lone (b.at a k) cs w):=step_lone_go aoO
def PG:step P (lone (b.at a<|.code (.seq x y)::k) cs w)= .next (lone (b.at a<|.code x:: .code y::k) cs w):=step_lone_go aoO
def E1{c:ce}{t:Bool}(h:a.eval c= .bool t):
 step P (lone (b.at a<|.code (.cond c x y)::k) cs w)= .next (lone (b.at a<|.code (if t then x else y)::k) cs w):=
 step_lone_go (by
  have:=eval_at b a<|.code (.cond c x y)::k;simp[dQ.at]at this;simp[stepG,stepG.exec,dQ.at,this,h])
def PH{id:Nat}:step P (lone (b.at a<|.code (.block id c)::k) cs w)= .next (lone (b.at a<|.code c:: .inBlock id::k) cs w):=step_lone_go aoO
def PI:step P (lone (b.at a<|.code (.loop c)::k) cs w)= .next (lone (b.at a<|.code c:: .inLoop c::k) cs w):=step_lone_go aoO
def PJ:step P (lone (b.at a<|.inLoop c::k) cs w)= .next (lone (b.at a<|.code c:: .inLoop c::k) cs w):=step_lone_go aoO
def PK:step P (lone (b.at a<|.code (.scope c)::k) cs w)= .next (lone (b.at a<|.code c:: .inScope c::k) cs w):=step_lone_go aoO
def PL{id:Nat}:step P (lone (b.at a<|.code (.region id ops false)::k) cs w)= .next (lone (b.at a<|.inRegion ops (List.range ops.size)::k) cs w):=step_lone_go aoO
def abG{id:Nat}:step P (lone (b.at a<|.code (.region id ops true)::k) cs w)=
 .next (lone (b.at a<|.inRegion ops (Region.schedule (P.follows .mixedOrders) ops<|w.tape w.drawn<|.order b.fn id)::k) cs {w with drawn:=w.drawn+1}):=
 step_lone_go<|by simp[stepG,stepG.exec,dQ.at,Sem.run,Question.forced,Question.cut]
def PM:step P (lone (b.at a<|.inRegion ops []::k) cs w)= .next (lone (b.at a k) cs w):=step_lone_go aoO
def finish_at(i:Nat)(rest:ac Nat)(v:bv)(ay:ops[i]? =some R):
 (b.at a<|.inRegion ops (i::rest)::k).finish v=b.at (a.put R.dst v) (.inRegion ops rest::k):=by
 cases h:R.dst<;>simp[Frame.finish,dQ.at,Act.put,ay,h]
def E2(ay:ops[i]? =some R)(h:Region.wanted R (yielded ops a.tmps)=false):
 step P (lone (b.at a<|.inRegion ops (i::rest)::k) cs w)= .next (lone (b.at (a.put R.dst undef)<|.inRegion ops rest::k) cs w):=by
 rw[<-finish_at i rest undef ay];exact step_lone_go<|by simp[dQ.at];simp[stepG,stepG.exec,ay,h]
theorem vh(ay:ops[i]? =some R)(hw:Region.wanted R (yielded ops a.tmps)=true)(S:b.b7=none\/∀c,R.op≠.defer c):
 stepG P true {frame:=b.at a<|.inRegion ops (i::rest)::k,callers:=cs,status:=.running,dying:=none} w=
  stepG.apply P true (b.at a<|.inRegion ops (i::rest)::k) cs none (execOp a.eval R) w:=by
 have A:=eval_at b a<|.inRegion ops (i::rest)::k;simp[dQ.at]at A;simp[stepG,stepG.exec,dQ.at,ay,hw,stepG.oper,Frame.oper?]
 grind
def E3(ay:ops[i]? =some R)(hw:Region.wanted R (yielded ops a.tmps)=true)(S:b.b7=none\/∀c,R.op≠.defer c)
 (aw:(execOp a.eval R).run P w= .ok (.value v) aG):step P (lone (b.at a<|.inRegion ops (i::rest)::k) cs w)= .next (lone (b.at (a.put R.dst v)<|.inRegion ops rest::k) cs aG):=by
 apply step_lone_go;rw[vh ay hw S,<-finish_at i rest v ay];simp[stepG.apply,aw]
def abH{d:Deferred}(ay:ops[i]? =some R)(hw:Region.wanted R (yielded ops a.tmps)=true)(S:b.b7=none)
 (aw:(execOp a.eval R).run P w= .ok (.defer d) aG):step P (lone (b.at a<|.inRegion ops (i::rest)::k) cs w)= .next (lone (b.at ({a with defers:=d::a.defers}.put R.dst undef)<|.inRegion ops rest::k) cs aG):=by
 apply step_lone_go;rw[vh ay hw<|.inl S];have:=finish_at (b:=b) (a:={a with defers:=d::a.defers}) (k:=k) i rest undef ay;rw[<-this];simp[stepG.apply,aw,dQ.at]
def PN{args:bi bv}(ay:ops[i]? =some R)(hw:Region.wanted R (yielded ops a.tmps)=true)(S:b.b7=none\/∀c,R.op≠.defer c)
 (aw:(execOp a.eval R).run P w= .ok (.enter f args) aG):step P (lone (b.at a<|.inRegion ops (i::rest)::k) cs w)= .next (lone (Frame.enter P f args .normal) (b.at a (.inRegion ops (i::rest)::k)::cs) aG):=by
 apply step_lone_go;rw[vh ay hw S];simp[stepG.apply,aw,dQ.at]
def PO{l:Nat}{aF:bi bv}{ek body:Code}(ay:ops[i]? =some R)(hw:Region.wanted R (yielded ops a.tmps)=true)(S:b.b7=none\/∀c,R.op≠.defer c)
 (aw:(execOp a.eval R).run P w= .ok (.round l f aF ek body) aG):step P (lone (b.at a<|.inRegion ops (i::rest)::k) cs w)= .next (lone (Frame.round l f aF ek body .normal) (b.at a (.inRegion ops (i::rest)::k)::cs) aG):=by
 apply step_lone_go;rw[vh ay hw S];simp[stepG.apply,aw]
def abI(ay:ops[i]? =some R)(hw:Region.wanted R (yielded ops a.tmps)=true)(S:b.b7=none)
 (aw:(execOp a.eval R).run P w= .ok .recover aG):
 step P (lone (b.at a<|.inRegion ops (i::rest)::k) cs w)=match tryRecover (b.at a<|.inRegion ops (i::rest)::k) cs with
  |some (v,dP)=>.next (lone (b.at (a.put R.dst v)<|.inRegion ops rest::k) dP aG)
  |none=>.next (lone (b.at (a.put R.dst .nilIface)<|.inRegion ops rest::k) cs aG):=by
 have h:(b.at a<|.inRegion ops (i::rest)::k).roundOf=none:=S;cases aN:tryRecover (b.at a<|.inRegion ops (i::rest)::k) cs with
 |none=>
  exact apT
 |some p=>
  exact apT
def abJ(ay:ops[i]? =some R)(hw:Region.wanted R (yielded ops a.tmps)=true)(S:b.b7=none\/∀c,R.op≠.defer c)
 (aw:(execOp a.eval R).run P w= .halt (.panic v) aG):step P (lone (b.at a<|.inRegion ops (i::rest)::k) cs w)= .next (lone {b.at a (.inRegion ops (i::rest)::k)with mode:=.panicking [{v,recovered:=false}]} cs aG):=by
 apply step_lone_go;rw[vh ay hw S];simp[stepG.apply,aw,dQ.at,Frame.raise]
end
inductive Ju(P:Program)(E4:Value)(args:List Value)(w:World):Frame->Prop
 |enter (f:FuncId) (as:Array Value) (h:((do let d<-Deferred.ofValue E4 args.toArray;invoke d.target d.args):Sem Next).run P w= .ok (.enter f as) w):Ju P E4 args w (Frame.enter P f as .normal)
 |round (l:Nat) (f:FuncId) (aF:Array Value) (ek body:Code) (h:((do let d<-Deferred.ofValue E4 args.toArray;invoke d.target d.args):Sem Next).run P w= .ok (.round l f aF ek body) w):Ju P E4 args w (Frame.round l f aF ek body .normal)
def E5(X:Ctx)(ad:bN)(w:d9)(en c:Frame)(cs:ac Frame):ev->Prop
 |.ret v al _=>∃aJ bA aG,bo aJ v bA/\bZ X aJ al aG/\ei ad aJ w aG/\Steps X.P (lone en (c::cs) w) (lone (c.finish bA) cs aG)
 |.aY v al _=>∃aJ bA aG,bo aJ v bA/\bZ X aJ al aG/\ei ad aJ w aG/\Steps X.P (lone en (c::cs) w) (lone (c.raise [{v:=bA,recovered:=false}]) cs aG)
 |.no=>True
def nh(X:Ctx)(call:bR):Prop:=
 ∀ad M args st H g w,bo ad M H->bO ad args g->bZ X ad st w->call M args none st≠.no->
  ∃en,Ju X.P H g w en/\∀c cs,E5 X ad w en c cs<|call M args none st
def jO(b:dQ)(aY:be bv)(ad:bN)(bu:Bool->ac Frame):Prop:=
 match aY with
 |none=>∀(F:Frame) (O:Bool),F.kind=b.kind->tryRecover F (bu O)=none
 |some H=>∃C,bo ad H C/\(∀F:Frame,F.kind=b.kind->tryRecover F (bu false)=some (C,bu true))/\∀F:Frame,F.kind=b.kind->tryRecover F (bu true)=none
def jO.mono{b:dQ}{aY:be bv}{ad aJ:bN}{bu:Bool->ac Frame}(hle:ad.le aJ)(h:jO b aY ad bu):jO b aY aJ bu:=by
 cases aY with
 |none=>exact h
 |some H=>have⟨g,Y,G,C⟩:=h;exact⟨g,Y.mono hle,G,C⟩
def oF(ad:bN)(x:be Nat)(y:be Nat):Prop:=(x=none/\y=none)\/∃l E,x=some l/\y=some E/\ad l=some ⟨E,0,0,id⟩
def oF.mono{ad aJ:bN}(hle:ad.le aJ){x y:be Nat}(h:oF ad x y):oF aJ x y:=by
 obtain h|⟨l,E,Y,G,C⟩:=h
 .exact .inl h
 .exact .inr ⟨l,E,Y,G,hle _ _ C⟩
variable{X:Ctx}
def l2(X:Ctx)(aR:Nat)(ops:bi Oper)(x:bt)(R:Oper):Bool:=
 (match x.d,R.dst with
  |none,none=>true
  |some a,some b=>Nat.beq a b&&Nat.ble (Nat.succ b) aR
  |_,_=>false)&&X.ql R.op x.R&&
 (match x.g,R.guard with
  |none,none=>true
  |some (t,V),some (j,Q)=>(V==Q)&&(match(ops[j]?).bind (·.dst)with|some B=>Nat.beq t B&&Nat.ble (Nat.succ t) aR|none=>false)
  |_,_=>false)
section
variable{aR:Nat}{ops:bi Oper}{x:bt}{R:Oper}
theorem E6(h:l2 X aR ops x R=true):x.d=R.dst/\∀t,x.d=some t->t<aR:=by
 rw[l2]at h;simp at h;have Y:=h.1.1;split at Y
 .grind
 .rename_i a b U T;rw[cQ]at Y;have:=qm Y.1;subst this;rw[U,T];exact⟨o,λt aN=>by cases aN;exact lZ.1 Y.2⟩
 .cases Y
def Bu(h:l2 X aR ops x R=true):X.ql R.op x.R=true:=by
 rw[l2]at h;simp at h;exact h.1.2
variable{ad:bN}{I bC:aO}{a:Act}{st al:ao}{w:d9}{v:bv}{call:bR}{b:dQ}{bu:Bool->ac Frame}{k:ac Item}{i:Nat}{rest:ac Nat}
theorem PQ{α:Type}{S J z r:α}(h:l2 X aR ops x R=true)(D:e1 ad I a aR)(aB:hl I x.g S J z=r)(aH:z≠r):
 (S=r/\Region.wanted R (yielded ops a.tmps)=true)\/(J=r/\Region.wanted R (yielded ops a.tmps)=false):=by
 unfold l2 at h;simp at h;have Y:=h.2;split at Y
 .rename_i U T;rw[U]at aB;exact .inl ⟨aB,by simp[Region.wanted,T]⟩
 .rename_i t V j Q U T;rw[U]at aB;rw[cQ]at Y;obtain⟨hw,C⟩:=Y;have K:V=Q:=by grind
  subst K;split at C
  .rename_i B A;rw[cQ]at C;have E:=qm C.1;have aT:t<a.tmps.size:=by rw[D.size];exact lZ.1 C.2
   have H:=D.tmp t;have F:a.tmps[t]? =some (a.tmps.getD t undef):=by simp[aT]
   have N:yielded ops a.tmps j=match a.tmps.getD t undef with|.bool b=>some b|_=>none:=by
    unfold yielded
    grind
   have q:Region.wanted R (yielded ops a.tmps)=(yielded ops a.tmps j==some V):=by simp[Region.wanted,T]
   have L:kj (I.tmp t) (λb=>cond b (cond V S J)<|cond V J S) (q6 (I.tmp t) (λ_=>J) z)=r:=aB;generalize ah:a.tmps.getD t undef=EO at H N;generalize aN:I.tmp t=W at L H;cases W with
   |bool qp=>
    cases H;have G:cond qp (cond V S J) (cond V J S)=r:=L
    grind
   |tuple xs=>
    cases H;exact .inr ⟨L,by rw[q,N];rfl⟩
   |_=>exact absurd L aH
  .cases C
 .cases Y
def abK(a:Act)(d:be Tmp)(v:bv){aU:ac Deferred}:({a with defers:=aU}.put d v).tmps=(a.put d v).tmps:=by cases d<;>rfl
def PR(S:l2 X aR ops x R=true)(aK:nh X call)(ay:ops[i]? =some R)(ae:Region.wanted R (yielded ops a.tmps)=true)(D:e1 ad I a aR)(hw:bZ X ad st w)(aa:oF ad I.b7 b.b7)
 (aw:jO b I.aY ad bu) (h:bD call x.R I st= .ok v bC al):
 ∃aJ H aG,Steps X.P (lone (b.at a<|.inRegion ops (i::rest)::k) (bu I.cU) w) (lone (b.at H<|.inRegion ops rest::k) (bu bC.cU) aG)/\e1 aJ (bC.put x.d v) H aR/\bZ X aJ al aG/\ei ad aJ w aG/\
  bC.aY=I.aY/\bC.b7=I.b7/\∃bA,H.tmps=(a.put R.dst bA).tmps:=by
 obtain⟨C,N⟩:=E6 S;have J:=Bu S;have aA:∀{q:Prop},(b.b7=none->q)->(I.b7=none->q):=by
  intro q aD aj;rcases aa with⟨_,G⟩|⟨l,a5,Y,_,_⟩
  .exact aD G
  .rw[aj]at Y;cases Y
 by_cases hp:x.R.inPlace=true
 .obtain⟨rfl,⟨aJ,n,aG,af,aj,K,E⟩,_⟩:=E0 J D hw h hp;have Q:b.b7=none\/∀c,R.op≠.defer c:=by
   right;intro c ah;rw[ah]at J;cases O:x.R with
   |sh fn p q=>rw[O]at J;cases fn<;>cases J
   |yj p=>rw[O]at h;cases h
   |refuse=>rw[O]at h;cases h
   |p8 p q=>rw[O]at hp;cases hp
   |ext y=>rw[O]at J;cases y<;>cases J
   |_=>rw[O]at J;cases J
  rcases aj with⟨bA,rfl,Z⟩|⟨rfl,rfl⟩
  .refine⟨aJ,a.put R.dst bA,aG,.one<|E3 ay ae Q af,?_,K,E,o,o,_,o⟩;rw[<-C];exact(D.mono E.le).put N Z
  .refine⟨aJ,a.put R.dst undef,aG,.one (by
    refine step_lone_go ?_;rw[vh ay ae Q,<-finish_at i rest undef ay];simp[stepG.apply,af]),?_,K,E,o,o,_,o⟩
   rw[<-C];exact(D.mono E.le).put N<|bo.undef aJ
 .cases O:x.R with
  |call f bd=>
   rw[O]at h J;obtain⟨g,args,aF,L,A⟩:=PE J;simp at A;obtain⟨rfl,bU⟩:=sB A.1.1;obtain⟨rfl,ag⟩:=Bp.1 A.1.2;have ab:ev.rec (λv st _=>.ok v I st) (λv st _=>.aY v st) .no (call (I.aq f) (dt I args.toList) none st)=a2.ok v bC al:=h;have Q:b.b7=none\/∀c,R.op≠.defer c:=.inr (by rw[L];simp);obtain⟨en,F,au⟩:=aK ad (I.aq f) (dt I args.toList) st (a.eval f) (args.toList.map a.eval) w (D.aq hw bU) (vd D hw _ ag) hw (by intro e;rw[e]at ab;cases ab);have ak:(execOp a.eval R).run X.P w=((do let d<-Deferred.ofValue (a.eval f) (args.toList.map a.eval).toArray;invoke d.target d.args):Sem Next).run X.P w:=by
    exact ars
   cases ah:call (I.aq f) (dt I args.toList) none st with
   |ret v1 a0 a4=>
    rw[ah]at ab au;obtain⟨U,T,a'⟩:=Bk ab;subst U T a';obtain⟨aJ,bA,aG,Z,K,E,V⟩:=au (b.at a<|.inRegion ops (i::rest)::k)<|bu I.cU;rw[(finish_at (b:=b) (a:=a) (k:=k) i rest bA ay)]at V;refine⟨aJ,a.put R.dst bA,aG,?_,?_,K,E,o,o,_,o⟩
    .cases F with
     |enter aT as M=>exact .head (PN ay ae Q<|by rwa [ak]) V
     |round l aT aV a1 body M=>exact .head (PO ay ae Q<|by rwa [ak]) V
    .rw[<-C];exact(D.mono E.le).put N Z
   |_=>rw[ah]at ab;cases ab
  |inv bW f bd=>rw[O]at h;cases h
  |u1=>
   rw[O]at h J;obtain⟨aF,L⟩:=abD J;obtain⟨aj,Y⟩:=yw h λ_=>az;have af:(execOp a.eval R).run X.P w= .ok .recover w:=by
    unfold execOp;rw[L];simp[resolve,invoke,builtin]
   have M:=abI (k:=k) (cs:=bu I.cU) ay ae (aA id aj) af (rest:=rest);cases B:I.aY with
   |none=>
    rw[B]at Y aw;obtain⟨U,T,a'⟩:=Bk Y;subst U T a';rw[aw _ _ o]at M;refine⟨ad,_,w,.one M,?_,hw,.refl _ _,B,o,_,o⟩;rw[<-C];exact D.put N .nilIface
   |some aL=>
    rw[B]at Y aw;obtain⟨a7,aH,aM,W⟩:=aw;have G:cond I.cU (a2.ok .nilIface I st) (.ok aL ⟨I.t,I.di,I.aY,true,I.b7⟩ st)=a2.ok v bC al:=by rwa [B]
    cases ai:I.cU with
    |true=>
     rw[ai]at G M;obtain⟨U,T,a'⟩:=Bk G;subst U T a';rw[W _ o]at M;refine⟨ad,_,w,by rw[ai];exact .one M,?_,hw,.refl _ _,B,o,_,o⟩;rw[<-C];exact D.put N .nilIface
    |false=>
     rw[ai]at G M;obtain⟨U,T,a'⟩:=Bk G;subst U T a';rw[aM _ o]at M;refine⟨ad,_,w,.one M,?_,hw,.refl _ _,B,o,_,o⟩;simpa[<-C]using e1.put (I:=⟨I.t,I.di,I.aY,true,I.b7⟩) ⟨D.tmp,D.size,D.di⟩ N aH
  |p8 f bd=>
   rw[O]at h J;obtain⟨g,args,aF,L,A⟩:=abE J;simp at A;obtain⟨rfl,bU⟩:=sB A.1;obtain⟨rfl,ag⟩:=Bp.1 A.2;obtain⟨aj,Y⟩:=yw h λ_=>az;obtain⟨fn,first,ar,aC,G⟩:=I0 Y az;have Z:=D.aq hw bU;rw[aC]at Z;cases fn with
   |func kJ=>
    obtain⟨U,T,a'⟩:=Bk (G:a2.ok undef ⟨I.t,{target:=.fn (.func kJ) ar,args:=⟨e8 first.toList (dt I args.toList)⟩}::I.di,I.aY,I.cU,I.b7⟩ st=a2.ok v bC al);subst U T a';generalize aP:a.eval f=km at Z;cases Z with
    |func _ ao _ aS _ aB aN eV ew aU aI=>
     have aO:=vd D hw _ ag;have af:(execOp a.eval R).run X.P w= .ok (.defer {target:=.fn ao aB,args:=aS++args.map a.eval}) w:=by
      unfold execOp;rw[L];simp[resolve,aP,Deferred.ofValue]
     have M:=abH (k:=k) (cs:=bu I.cU) ay ae (aA id aj) af (rest:=rest);refine⟨ad,_,w,.one M,?_,hw,.refl _ _,o,o,undef,abK _ _ _⟩;rw[<-C];refine e1.put (I:=⟨I.t,{target:=.fn (.func kJ) ar,args:=⟨e8 first.toList (dt I args.toList)⟩}::I.di,I.aY,I.cU,I.b7⟩) (a:={a with defers:={target:=.fn ao aB,args:=aS++args.map a.eval}::a.defers}) ⟨D.tmp,D.size,⟨⟨?_,aN,bO.va aU aI⟩,D.di⟩⟩ N<|bo.undef ad;have:=(bO.va eV ew).append aO;exact aoX
   |_=>cases G
  |ox p=>
   rw[O]at h;obtain⟨t,aZ,_,Y⟩:=I1 h az;cases Y
  |_=>rw[O]at hp;exact absurd o hp
end
end Go.bI
namespace Go.bI
variable{X:Ctx}
section
variable{aR:Nat}{ops:bi Oper}{x:bt}{R:Oper}{ad:bN}{I bC:aO}{a:Act}{st al:ao}{w:d9}{v:bv}{call:bR}{b:dQ}{bu:Bool->ac Frame}{k:ac Item}{i:Nat}{rest:ac Nat}
variable{cs:ac Frame}{s sy:Machine}{aJ:bN}
def dQ.panics(b:dQ)(a:Act)(todo:ac Item)(v:bv):Frame:={b.at a todo with mode:=.panicking [{v,recovered:=false}]}
def PS(S:l2 X aR ops x R=true)(Y:nh X call)(ay:ops[i]? =some R)(aa:Region.wanted R (yielded ops a.tmps)=true)(a':e1 ad I a aR)(hw:bZ X ad st w)
 (U:x.R.lE=true) (h:bD call x.R I st= .aY v al):
 ∃aJ bA aG,Steps X.P (lone (b.at a<|.inRegion ops (i::rest)::k) cs w) (lone (b.panics a (.inRegion ops (i::rest)::k) bA) cs aG)/\bo aJ v bA/\bZ X aJ al aG/\ei ad aJ w aG:=by
 have J:=Bu S;cases O:x.R with
 |call f bd=>
  rw[O]at h J;obtain⟨g,args,aF,L,A⟩:=PE J;simp at A;obtain⟨rfl,bU⟩:=sB A.1.1;obtain⟨rfl,H⟩:=Bp.1 A.1.2;have D:ev.rec (λv st _=>.ok v I st) (λv st _=>.aY v st) .no (call (I.aq f) (dt I args.toList) none st)=a2.aY v al:=h;have Q:b.b7=none\/∀c,R.op≠.defer c:=.inr (by rw[L];simp);obtain⟨en,F,ab⟩:=Y ad (I.aq f) (dt I args.toList) st (a.eval f) (args.toList.map a.eval) w (a'.aq hw bU) (vd a' hw _ H) hw (by intro e;rw[e]at D;cases D);have T:(execOp a.eval R).run X.P w=((do let d<-Deferred.ofValue (a.eval f) (args.toList.map a.eval).toArray;invoke d.target d.args):Sem Next).run X.P w:=by
   exact ars
  cases ah:call (I.aq f) (dt I args.toList) none st with
  |aY v1 W ag=>
   rw[ah]at D ab;have B:=D;cases B;obtain⟨aJ,bA,aG,Z,K,E,V⟩:=ab (b.at a<|.inRegion ops (i::rest)::k) cs;have ao:(b.at a<|.inRegion ops (i::rest)::k).raise [{v:=bA,recovered:=false}]=b.panics a (.inRegion ops (i::rest)::k) bA:=rfl;refine⟨aJ,bA,aG,?_,Z,K,E⟩;cases F with
   |enter N as M=>exact .head (PN ay aa Q<|by rw[T];exact M) V
   |round l N C ar body M=>exact .head (PO ay aa Q<|by rw[T];exact M) V
  |ret v1 W ag=>rw[ah]at D;cases D
  |no=>rw[ah]at D;cases D
 |inv bW f bd=>rw[O]at h;cases h
 |ox p=>
  rw[O]at h J;obtain⟨q,L,A⟩:=abF J;obtain⟨rfl,bU⟩:=sB A;obtain⟨t,ak,hp,ai⟩:=I1 h az;have G:=ai;cases G;have Z:=a'.aq hw bU;rw[hp]at Z;generalize aj:a.eval p=km at Z;cases Z with
  |iface _ _ af ae=>
   refine⟨ad,.iface t af,w,.one<|abJ ay aa (.inr<|by rw[L];simp) ?_,.iface _ _ _ ae,hw,.refl _ _⟩;unfold execOp;rw[L];simp[aj,Instr.panic]
 |_=>rw[O]at U;cases U
def E7(P:f7)(s:Machine)(b:dQ)(a:Act)(k:ac Item)(cs:ac Frame)(w:d9)(aJ:bN):c6->Prop
 |.norm=>Steps P s (lone (b.at a k) cs w)
 |.exit id=>∃S,exitTo id S=exitTo id k/\Steps P s (lone (b.at a<|.code (.exit id)::S) cs w)
 |.ret=>∃S,Steps P s (lone (b.at a<|.code .ret::S) cs w)
 |.aY v=>∃bA S,bo aJ v bA/\Steps P s (lone (b.panics a S bA) cs w)
def gl(X:Ctx)(b:dQ)(aR:Nat)(bu:Bool->ac Frame)(s:Machine)(k:ac Item)(I:aO)(ad:bN)(w:d9):cO->Prop
 |.out e bC al=>∃aJ H aG,e1 aJ bC H aR/\bZ X aJ al aG/\ei ad aJ w aG/\bC.aY=I.aY/\bC.b7=I.b7/\E7 X.P s b H k (bu bC.cU) aG aJ e
 |.no=>True
def E7.head{P:f7}{e:c6}(h:Steps P s sy)(D:E7 P sy b a k cs w aJ e):E7 P s b a k cs w aJ e:=by
 cases e with
 |norm=>exact h.trans D
 |exit id=>obtain⟨S,Y,G⟩:=D;exact⟨S,Y,h.trans G⟩
 |ret=>obtain⟨S,G⟩:=D;exact⟨S,h.trans G⟩
 |aY v=>obtain⟨bA,S,Y,G⟩:=D;exact⟨bA,S,Y,h.trans G⟩
def gl.head{aG:d9}{r:cO}(h:Steps X.P s sy)(aB:ei ad aJ w aG)(hp:bC.aY=I.aY)(aw:bC.b7=I.b7)(D:gl X b aR bu sy k bC aJ aG r):gl X b aR bu s k I ad w r:=by
 cases r with
 |no=>trivial
 |out e g q=>
  obtain⟨T,H,o,Y,G,C,N,J,B⟩:=D;exact⟨T,H,o,Y,G,aB.trans C,N.trans hp,J.trans aw,B.head h⟩
def abL(x:bt)(xs:ac bt)(I:aO)(st:ao):gz call (x::xs) I st=
 hl I x.g (a2.rec (motive:=λ_=>cO) (λv I st=>gz call xs (I.put x.d v) st) (λv st=>cond x.R.lE (.out (.aY v) I st) .no) .no<|bD call x.R I st)
  (gz call xs (I.put x.d undef) st) .no:=rfl
theorem tt(I:aO)(d:be Tmp)(v:bv):(I.put d v).aY=I.aY/\(I.put d v).b7=I.b7/\(I.put d v).cU=I.cU/\(I.put d v).di=I.di:=by
 obtain⟨Y,G,C,N⟩:=re I d v;exact⟨G,N,C,Y⟩
theorem E8(Y:nh X call):∀(xs:ac bt) (l:ac Nat) (ad:bN) (I:aO) (a:Act) (st:ao) (w:d9),xs.length=l.length->
 (∀(j:Nat) (x:bt) (i:Nat),xs[j]? =some x->l[j]? =some i->∃R,ops[i]? =some R/\l2 X aR ops x R=true)->
 e1 ad I a aR->bZ X ad st w->oF ad I.b7 b.b7->jO b I.aY ad bu->
 gl X b aR bu (lone (b.at a<|.inRegion ops l::k) (bu I.cU) w) k I ad w (gz call xs I st)
 |[],[],ad,I,a,st,w,_,_,D,hw,_,_=>⟨ad,a,w,D,hw,.refl _ _,o,o,.one PM⟩
 |[],_::_,_,_,_,_,_,h,_,_,_,_,_=>by simp at h
 |_::_,[],_,_,_,_,_,h,_,_,_,_,_=>by simp at h
 |x::xs,i::l,ad,I,a,st,w,aI,J,D,hw,aa,aw=>by
  obtain⟨R,ay,S⟩:=J 0 x i o o;have V:∀(j:Nat) x i,xs[j]? =some x->l[j]? =some i->∃R,ops[i]? =some R/\l2 X aR ops x R=true:=λj x i af G=>J (j+1) x i af G;have ab:xs.length=l.length:=by grind
  obtain⟨ai,N⟩:=E6 S;rw[abL];generalize F:hl I x.g _ _ _=r;by_cases B:r= .no
  .rw[B];trivial
  rcases PQ S D F (λe=>B e.symm)with⟨e,O⟩|⟨e,O⟩
  .cases L:bD call x.R I st with
   |ok v Q a'=>
    rw[L]at e;have U:=e;obtain⟨aJ,H,aG,M,C,K,E,hp,ae,_⟩:=PR S Y ay O D hw aa aw L;obtain⟨W,cW,A,ah⟩:=tt Q x.d v;have q:=E8 Y xs l aJ (Q.put x.d v) H a' aG ab V C K (by rw[cW,ae];exact aa.mono E.le) (by rw[W,hp];exact aw.mono E.le);rw[<-U];rw[A]at q;exact gl.head M E (W.trans hp) (cW.trans ae) q
   |aY v a'=>
    rw[L]at e;have U:=e;obtain⟨ag,T⟩:=jK U λe=>B e.symm;obtain⟨aJ,bA,aG,M,Z,K,E⟩:=PS S Y ay O D hw ag L;rw[<-T];exact⟨aJ,a,aG,D.mono E.le,K,E,o,o,bA,_,Z,M⟩
   |no=>rw[L]at e;exact absurd e.symm B
  .obtain⟨W,cW,A,ah⟩:=tt I x.d undef;have q:=E8 Y xs l ad (I.put x.d undef) (a.put R.dst undef) st w ab V (by rw[<-ai];exact D.put N<|bo.undef ad) hw (by rw[cW];exact aa) (by rw[W];exact aw);rw[<-e];rw[A]at q;exact gl.head (.one<|E2 ay O) mB W cW q
end
