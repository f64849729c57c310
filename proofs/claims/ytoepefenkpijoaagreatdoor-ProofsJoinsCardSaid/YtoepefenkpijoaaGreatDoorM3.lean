/- An abstract machine, and that its evaluations stand for runs of the model (part 3); no condition. -/
import Derived.KernelRfl
import Derived.LaidLaws
import Derived.Test.YtoepefenkpijoaaGreatDoorM2
import Derived.Test.YtoepefenkpijoaaGreatDoorM1
noncomputable section
set_option linter.all false
namespace Go.ar
variable{X:Ctx}
section
variable(b6:Nat->am Nat)
def F0(a b:Addr):Bool:=(b6 a.block==some b.block)&&Nat.beq a.off b.off&&a.spot.isNone&&b.spot.isNone
mutual
def fX:be->be->Bool
 |.bool a,.bool b=>a==b
 |.int k a,.int k' b=>decide (k=k')&&a==b
 |.float k a,.float k' b=>decide (k=k')&&a==b
 |.string a,.string b=>a.data.toList==b.data.toList
 |.pointer none,.pointer none=>true
 |.pointer (some a),.pointer (some b)=>F0 b6 a b
 |.slice none l c,.slice none l' bE=>l==l'&&c==bE
 |.slice (some a) l c,.slice (some b) l' bE=>F0 b6 a b&&l==l'&&c==bE
 |.map none,.map none=>true
 |.map (some a),.map (some b)=>b6 a==some b
 |.chan (some (c+1)),.chan (some (d+1))=>Nat.beq c d
 |.func (.func f) x y,.func (.func g) u v=>f==g&&B3 x u&&B3 y v
 |.nilFunc,.nilFunc=>true
 |.iface t v,.iface u w=>t==u&&fX v w
 |.nilIface,.nilIface=>true
 |.agg a,.agg b=>B3 a b
 |.tuple a,.tuple b=>B3 a b
 |_,_=>false
def B3:ap be->ap be->Bool
 |⟨a⟩,⟨b⟩=>zn a b
def zn:ac be->ac be->Bool
 |[],[]=>true
 |a::as,b::bT=>fX a b&&zn as bT
 |_,_=>false
end
theorem PL:∀(xs av:ac be),zn b6 xs av=true->xs.length=av.length∧∀(i:Nat) (h:i<xs.length) (aG:i<av.length),fX b6 xs[i] av[i]=true
 |[],[],_=>⟨rfl,fun i h=>by simp at h⟩
 |x::xs,y::av,h=>by
  simp only[zn,bW]at h;obtain⟨J,U⟩:=PL xs av h.2;refine⟨by simp[J],fun i a b=> ?_⟩;cases i with
  |zero=>exact h.1
  |succ i=>exact U i (by simpa using a) (by simpa using b)
 |[],_::_,h=>by simp[zn]at h
 |_::_,[],h=>by simp[zn]at h
def JZ(xs av:ap be)(h:B3 b6 xs av=true):xs.size=av.size∧∀(i:Nat) (h:i<xs.size) (aG:i<av.size),fX b6 xs[i] av[i]=true:=by
 obtain⟨xs⟩:=xs;obtain⟨av⟩:=av;simp only[B3]at h;obtain⟨J,U⟩:=PL b6 xs av h;exact⟨by simpa using J,fun i a b=>by simpa using U i (by simpa using a) (by simpa using b)⟩
end
def FV(b6:Nat->am Nat)(aS dA:bs):Prop:=∀i j l,b6 i=some j->dA j=some l->∃bR,aS i=some {l with bR:=bR}
variable{es:ac d8}{b6:Nat->am Nat}{aS dA:bs}{fx:ac d8}{c ki:Nat}{α:Type}
def QT{a b:Addr}(h:F0 b6 a b=true):b6 a.block=some b.block∧a.off=b.off∧a.spot=none∧b.spot=none:=by
 unfold F0 at h;simp only[bW]at h;exact⟨zbH h.1.1.1,dD h.1.1.2,by simpa using h.1.2,by simpa using h.2⟩
def B4(cT:FV b6 aS dA){u c:be}(h:bp dA u c):∀v,fX b6 v u=true->bp aS v c:=by
 induction h with
 |bool b=>intro v aD;cases v<;>simp[fX]at aD;rw[aD];exact .bool _
 |int k n=>intro v aD;cases v<;>simp[fX]at aD;rw[aD.1,aD.2];exact .int _ _
 |float k n=>intro v aD;cases v<;>simp[fX]at aD;rw[aD.1,aD.2];exact .float _ _
 |string s=>
  intro v aD;cases v<;>simp[fX]at aD;rename_i bq;have:bq=s:=by cases s;cases bq;simp_all
  rw[this];exact .string _
 |ns=>
  intro v aD;cases v<;>first|(simp[fX]at aD;done)|skip
  rename_i p;cases p<;>simp[fX]at aD;exact .ns
 |ptr a l h ah=>
  intro v aD;cases v<;>first|(simp[fX]at aD;done)|skip
  rename_i p;cases p<;>simp[fX]at aD;rename_i a';obtain⟨J,U,ag,az⟩:=QT aD;obtain⟨bR,ab⟩:=cT _ _ _ J h;have:=bp.ptr (ι:=aS) a' _ ab ag;rw[U]at this;exact this
 |nw n c=>
  intro v aD;cases v<;>first|(simp[fX]at aD;done)|skip
  rename_i p _ _;cases p<;>simp[fX]at aD;rw[aD.1,aD.2];exact .nw _ _
 |gN a l o n c h ah al=>
  intro v aD;cases v<;>first|(simp[fX]at aD;done)|skip
  rename_i p _ _;cases p<;>simp[fX]at aD;rename_i a';obtain⟨⟨h0,aC⟩,e2⟩:=aD;obtain⟨J,U,ag,az⟩:=QT h0;obtain⟨bR,ab⟩:=cT _ _ _ J h;subst aC e2;exact bp.gN (ι:=aS) a' {l with bR:=bR} o _ _ ab ag (by rw[U];exact al)
 |pj=>
  intro v aD;cases v<;>first|(simp[fX]at aD;done)|skip
  rename_i p;cases p<;>simp[fX]at aD;exact .pj
 |map r b bR h=>
  intro v aD;cases v<;>first|(simp[fX]at aD;done)|skip
  rename_i p;cases p<;>simp[fX]at aD;obtain⟨asW,ab⟩:=cT _ _ _ aD h;exact .map _ b asW ab
 |func f g xs av us vs ae J _ ag _ nh uJ=>
  intro v aD;cases v<;>first|(simp[fX]at aD;done)|skip
  rename_i na eM m0;cases na<;>cases f<;>simp[fX]at aD;rename_i f1 f2;obtain⟨⟨e,aa⟩,aL⟩:=aD;subst e;obtain⟨fa,fR⟩:=JZ b6 _ _ aa;obtain⟨c3,dP⟩:=JZ b6 _ _ aL;refine .func _ _ _ _ _ _ ?_ (fa.trans J) (fun i p q=>nh i (by omega) q _ (fR i p (by omega))) (c3.trans ag) (fun i p q=>uJ i (by omega) q _ (dP i p (by omega)));rcases ae with⟨rfl,h⟩|⟨l,b,h,_⟩
  ·exact .inl ⟨rfl,fun l e=>by cases e⟩
  ·cases h
 |nilFunc=>intro v aD;cases v<;>simp[fX]at aD;exact .nilFunc
 |iface t v w _ a7=>
  intro v' aD;cases v'<;>simp[fX]at aD;rw[aD.1];exact .iface _ _ _ (a7 _ aD.2)
 |nilIface=>intro v aD;cases v<;>simp[fX]at aD;exact .nilIface
 |agg xs av J _ a7=>
  intro v aD;cases v<;>simp[fX]at aD;obtain⟨fa,fR⟩:=JZ b6 _ _ aD;exact .agg _ _ (fa.trans J) (fun i p q=>a7 i (by omega) q _ (fR i p (by omega)))
 |tuple xs av J _ a7=>
  intro v aD;cases v<;>simp[fX]at aD;obtain⟨fa,fR⟩:=JZ b6 _ _ aD;exact .tuple _ _ (fa.trans J) (fun i p q=>a7 i (by omega) q _ (fR i p (by omega)))
 |iW c m h=>
  intro v aD;have hc:c≠0:=by intro e;subst e;rcases h with h|⟨k,h,_⟩|⟨k,h,_⟩<;>omega
  obtain⟨c,rfl⟩:∃d,c=d+1:=⟨c-1,by omega⟩;cases v<;>first|(simp[fX]at aD;done)|skip
  rename_i x;cases x with
  |none=>simp[fX]at aD
  |some x=>
   cases x with
   |zero=>simp[fX]at aD
   |succ d=>
    simp only[fX]at aD;rw[dD aD];exact .iW _ _ h
 |emp p c=>intro v aD;cases v<;>simp[fX]at aD
 |top c=>intro v aD;cases v<;>simp[fX,iD]at aD
def Oh(b6:Nat->am Nat)(es:ac d8)(c:Nat)(fx:ac d8):Bool:=
 Nat.beq c es.length&&(es.zipIdx.all fun p=>Nat.beq p.1.born p.2)&&(fx.all fun e=>(ko e.key es).isSome)&&
 (es.all fun e=>(match ko e.key fx with|some bL=>fX b6 e.key bL.key&&fX b6 e.val bL.val|none=>false))&&
 (es.zipIdx.all fun p=>es.zipIdx.all fun q=>Nat.beq p.2 q.2|| !dJ p.1.key q.1.key)
def Fu(es fx:ac d8)(s:Nat):Nat:=((es[s]?).bind fun e=>(ko e.key fx).map (·.born)).getD 0
def Bv(bR:Nat->Nat)(es:ac d8)(c:Nat)(fx:ac d8)(bE:Nat):Nat->Nat:=fun s=>if s<c then bR (Fu es fx s)else bR bE+(s-c)
def au9(h:es.Pairwise (fun a b=>a.born≠b.born)){a b:d8}(ha:a∈es)(hb:b∈es)(e:a.born=b.born):a=b:=by
 induction es with
 |nil=>cases ha
 |cons x xs a7=>
  rw[zdn]at h;rcases zak.1 ha with rfl|qH<;>rcases zak.1 hb with rfl|cK
  ·rfl
  ·exact absurd e (h.1 b cK)
  ·exact absurd e.symm (h.1 a qH)
  ·exact a7 h.2 qH cK
def apw{k:be}(h:es.Pairwise (fun a b=>a.key≠b.key)){e:d8}(he:e∈es)(ab:e.key=k):ko k es=some e:=by
 cases ae:ko k es with
 |none=>exact absurd ab (ID ae e he)
 |some bL=>
  obtain⟨J,U⟩:=EC ae;rw[uniq h J he (U.trans ab.symm)]
def nodup_keys(h:es.Pairwise (fun a b=>a.key≠b.key)):es.Nodup:=
 h.imp (fun{a b} ib e=>ib (by rw[e]))
def YO(cT:FV b6 aS dA){bE:Nat}{bR:Nat->Nat}{C:ac d8}(hb:Oh b6 es c fx=true)(h:jH dA bR fx bE C ki):
 jH aS (Bv bR es c fx bE) es c C ki:=by
 unfold Oh at hb;simp only[bW,zaP]at hb;obtain⟨⟨⟨⟨J,U⟩,ag⟩,az⟩,a4⟩:=hb;have hc:c=es.length:=dD J;have AS:∀(i:Nat) (af:i<es.length),es[i].born=i:=by
  intro i af;have:=U (es[i],i) (by rw[zdX];simp[af]);exact dD this
 have yt:es.Pairwise (fun a b=>a.key≠b.key):=by
  rw[zbe];intro i j af hj mH e;have:=a4 (es[i],i) (by rw[zdX];simp[af]) (es[j],j) (by rw[zdX];simp[hj]);rw[zcq]at this;rcases this with hh|hh
  ·have:=dD hh;simp at this;omega
  ·simp only[e,zB]at hh;cases hh
 have M7:∀e∈es,∃bL,bL∈fx∧bL.key=e.key∧ko e.key fx=some bL∧fX b6 e.key bL.key=true∧fX b6 e.val bL.val=true:=by
  intro e he;have:=az e he;split at this
  ·rename_i bL ae;rw[bW]at this;obtain⟨eg,fh⟩:=EC ae;exact⟨bL,eg,fh,ae,this.1,this.2⟩
  ·cases this
 have HY:∀(s:Nat) (ah:s<es.length),∃bL,bL∈fx∧bL.key=es[s].key∧Fu es fx s=bL.born:=by
  intro s ah;obtain⟨bL,eg,fh,j9,_⟩:=M7 es[s] (dy ah);refine⟨bL,eg,fh,?_⟩;unfold Fu;rw[bm ah];simp[j9]
 have aN:∀s,s<c->Fu es fx s<bE:=by
  intro s ah;obtain⟨bL,eg,_,j9⟩:=HY s (by omega);rw[j9];exact h.born bL eg
 have sU:∀s,s<c->Bv bR es c fx bE s=bR (Fu es fx s):=fun s ah=>zab ah;have H2:∀s,c<=s->Bv bR es c fx bE s=bR bE+(s-c):=fun s ah=>zaa (by omega);obtain⟨L,hp,hlen,h2⟩:=h.same;have uq:∀bL∈fx,∃e,e∈es∧e.key=bL.key∧ko bL.key es=some e:=by
  intro bL j3;have:=ag bL j3;obtain⟨e,he⟩:=zcJ.1 this;obtain⟨eg,fh⟩:=EC he;exact⟨e,eg,fh,he⟩
 let g:d8->d8:=fun bL=>(ko bL.key es).getD bL
 have aR:∀bL∈fx,g bL∈es∧(g bL).key=bL.key:=by
  intro bL j3;obtain⟨e,eg,fh,j9⟩:=uq bL j3;have:g bL=e:=by show(ko bL.key es).getD bL=e;rw[j9];rfl
  rw[this];exact⟨eg,fh⟩
 refine⟨?_,⟨fun s t ah aW e=> ?_,fun s ah=> ?_,fun j=> ?_⟩,fun e he=> ?_,yt,?_,L.map g,?_,by simp[hlen],?_⟩
 ·rw[H2 c (b8 _),zdo,zaX];exact h.ki
 ·rw[sU s ah,sU t aW]at e;have e2:=h.ql.inj _ _ (aN s ah) (aN t aW) e;obtain⟨a',fa,fR,m6⟩:=HY s (by omega);obtain⟨eW,c3,dP,jY⟩:=HY t (by omega);rw[m6,jY]at e2;have b3:=au9 h.vW fa c3 e2;subst b3;have fo:es[s]=es[t]:=uniq yt (dy _) (dy _) (by rw[<-fR,<-dP]);rw[<-AS s (by omega),<-AS t (by omega),fo]
 ·rw[sU s ah,H2 c (b8 _)];have:=h.ql.lt _ (aN s ah);omega
 ·rw[H2 (c+j) (by omega),H2 c (b8 _)];omega
 ·obtain⟨i,af,rfl⟩:=zbn he;rw[AS i af];omega
 ·rw[zbe];intro i j af hj mH;rw[AS i af,AS j hj];omega
 ·have yz:(L.map g).Perm (fx.map g):=hp.map g;refine yz.trans ?_;have lh:(fx.map g).Nodup:=by
   have:(fx.map g).Pairwise (fun a b=>a.key≠b.key):=by
    rw[zdV];rw[zbe];intro i j af hj mH e;rw[(aR _ (dy af)).2,(aR _ (dy hj)).2]at e;exact zbe.1 h.keys i j af hj mH e
   exact nodup_keys this
  rw[List.perm_ext_iff_of_nodup lh (nodup_keys yt)];intro x;constructor
  ·intro aa;obtain⟨bL,j3,rfl⟩:=zba.1 aa;exact(aR bL j3).1
  ·intro aa;obtain⟨bL,eg,fh,_⟩:=M7 x aa;refine zba.2 ⟨bL,eg,?_⟩;exact uniq yt (aR bL eg).1 aa (by rw[(aR bL eg).2,fh])
 ·intro i a b;have a':i<L.length:=by simpa using a
  rw[zcM];have mN:=h2 i a' b;have Mx:L[i]∈fx:=hp.mem_iff.1 (dy a');obtain⟨g1,aM⟩:=aR L[i] Mx;obtain⟨bL,eg,fh,j9,nY,s9⟩:=M7 (g L[i]) g1;have aC:bL=L[i]:=uniq h.keys eg Mx (by rw[fh,aM]);subst aC;refine⟨B4 cT mN.1 _ nY,B4 cT mN.2.1 _ s9,?_⟩;obtain⟨s,ah,yE⟩:=zbn g1;rw[mN.2.2,<-yE,AS s ah,sU s (by omega)];obtain⟨ahf,cv,cF,dU⟩:=HY s ah;rw[dU];have:ahf=L[i]:=uniq h.keys cv Mx (by rw[cF,yE,aM]);rw[this]
def yY(b6:Nat->am Nat):ac d8->ac d8->Bool
 |[],[]=>true
 |e::es,f::bB=>dJ e.key f.key&&fX b6 e.key f.key&&fX b6 e.val f.val&&Nat.beq e.born f.born&&yY b6 es bB
 |_,_=>false
theorem YP{b6:Nat->am Nat}:∀(es bB:ac d8),yY b6 es bB=true->es.length=bB.length∧∀(i:Nat) (h:i<es.length) (aG:i<bB.length),es[i].key=bB[i].key∧fX b6 es[i].key bB[i].key=true∧fX b6 es[i].val bB[i].val=true∧es[i].born=bB[i].born
 |[],[],_=>⟨rfl,fun i h=>by simp at h⟩
 |e::es,f::bB,h=>by
  simp only[yY,bW]at h;obtain⟨⟨⟨⟨J,U⟩,ag⟩,az⟩,a4⟩:=h;obtain⟨ba,bx⟩:=YP es bB a4;refine⟨by simp[ba],fun i a b=> ?_⟩;cases i with
  |zero=>exact⟨nB _ _ J,U,ag,dD az⟩
  |succ i=>exact bx i (by simpa using a) (by simpa using b)
 |[],_::_,h=>by simp[yY]at h
 |_::_,[],h=>by simp[yY]at h
def apx(cT:FV b6 aS dA){bR:Nat->Nat}{C:ac d8}(hb:yY b6 es fx=true)(h:jH dA bR fx c C ki):jH aS bR es c C ki:=by
 obtain⟨ba,bx⟩:=YP es fx hb;obtain⟨L,hp,hlen,h2⟩:=h.same
 let g:d8->d8:=fun bL=>(ko bL.key es).getD bL
 have yt:es.Pairwise (fun a b=>a.key≠b.key):=by
  rw[zbe];intro i j af hj mH;rw[(bx i af (by omega)).1,(bx j hj (by omega)).1];exact zbe.1 h.keys i j (by omega) (by omega) mH
 have aR:∀(i:Nat) (af:i<fx.length) (dG:i<es.length),g fx[i]=es[i]:=by
  intro i af dG;show(ko fx[i].key es).getD fx[i]=es[i];rw[apw yt (dy dG) (bx i dG af).1];rfl
 have amX:fx.map g=es:=by
  apply List.ext_getElem
  ·simp[ba]
  ·intro i a b;rw[zcM];exact aR i (by simpa using a) b
 refine⟨h.ki,h.ql,fun e he=> ?_,yt,?_,L.map g,by rw[<-amX];exact hp.map g,by simp[hlen],?_⟩
 ·obtain⟨i,af,rfl⟩:=zbn he;rw[(bx i af (by omega)).2.2.2];exact h.born _ (dy _)
 ·rw[zbe];intro i j af hj mH;rw[(bx i af (by omega)).2.2.2,(bx j hj (by omega)).2.2.2];exact zbe.1 h.vW i j (by omega) (by omega) mH
 ·intro i a b;have a':i<L.length:=by simpa using a
  rw[zcM];have mN:=h2 i a' b;obtain⟨s,ah,yE⟩:=zbn (hp.mem_iff.1 (dy a'));have eB:s<es.length:=by omega
  have aC:g L[i]=es[s]:=by rw[<-yE];exact aR s ah eB
  obtain⟨cv,cF,dU,iE⟩:=bx s eB ah;rw[yE]at cv cF dU iE;rw[aC];exact⟨B4 cT mN.1 _ cF,B4 cT mN.2.1 _ dU,by rw[mN.2.2,iE]⟩
def px(ai:Nat)(l:ac (Nat×Nat))(i:Nat):am Nat:=if i<ai then some i else(l.find? (fun p=>Nat.beq p.1 i)).map (·.2)
def oG(old:Bool)(b6:Nat->am Nat):bt->bt->Bool
 |.cells cs e bg a8,.cells cs' bL eA ui=>Nat.beq e bL&&Nat.beq bg.1 eA.1&&Nat.beq bg.2 eA.2&&(a8==ui)&&zn b6 cs cs'
 |.map es c,.map fx bE=>if old then Nat.beq c bE&&yY b6 es fx else Oh b6 es c fx
 |_,_=>false
def ao.CK(q:Nat->α->Bool):ao α->(Nat->Nat)->Bool
 |.nil,_=>true
 |.node l v r,g=>(match v with|some x=>q (g 0) x|none=>true)&&ao.CK q l (fun n=>g (2*n+1))&&ao.CK q r (fun n=>g (2*n+2))
def ao.K4{q:Nat->α->Bool}:∀(t:ao α) (g:Nat->Nat),ao.CK q t g=true->∀n x,t.get n=some x->q (g n) x=true
 |.nil,_,_,n,x,h=>by simp at h
 |.node l v r,g,ha,n,x,h=>by
  simp only[ao.CK,bW]at ha;obtain⟨⟨J,U⟩,ag⟩:=ha;cases n with
  |zero=>rw[ao.wy]at h;subst h;exact J
  |succ m=>
   rw[ao.p0]at h;split at h
   ·have:=ao.K4 l _ U _ x h;have e:2*(m/2)+1=m+1:=by omega
    simp only[e]at this;exact this
   ·have:=ao.K4 r _ ag _ x h;have e:2*(m/2)+2=m+1:=by omega
    simp only[e]at this;exact this
def xR(ai:Nat)(l:ac (Nat×Nat))(v:be)(st:ay)(v2:be)(ch:ay):Bool:=
 fX (px ai l) v v2&&Nat.ble ai st.ai&&(l.all fun p=>Nat.ble ai p.1&&Nat.ble (Nat.succ p.1) st.ai&&Nat.ble ai p.2)&&(l.all fun p=>l.all fun q=> !Nat.beq p.2 q.2||Nat.beq p.1 q.1)&&
 ao.CK (fun i o=>match px ai l i with
  |some j=>(match ch.h.get j with|some g7=>oG (decide (i<ai)) (px ai l) o g7|none=>false)
  |none=>false) st.h id
section
variable(ai:Nat)(l:ac (Nat×Nat))(st ch:ay)(dA:bs)
def tv(i j:Nat)(lc:Loc):Nat->Nat:=
 match st.h.get i,ch.h.get j with
 |some (.map es c),some (.map fx bE)=>Bv lc.bR es c fx bE
 |_,_=>lc.bR
def ra:bs:=fun i=>
 if i<ai then dA i else((l.find? (fun p=>Nat.beq p.1 i)).map (·.2)).bind fun j=>(dA j).map fun lc=>{lc with bR:=tv st ch i j lc}
end
variable{st:ay}{w:co}{l:ac (Nat×Nat)}{ch:ay}{ι:bs}{ai:Nat}{v v2:be}
def abl(ai:Nat)(l:ac (Nat×Nat))(st ch:ay)(dA:bs):FV (px ai l) (ra ai l st ch dA) dA:=by
 intro i j lc aE hm;unfold px at aE;unfold ra;split at aE
 ·rename_i h;cases aE;rw[zab h];exact⟨lc.bR,hm⟩
 ·rename_i h;rw[zaa h,aE];simp[hm]
def bo.can(hc:xR ai l v st v2 ch=true)(awL:X.aF<=ai)(h:bo X dA ch w):bo X (ra ai l st ch dA) st w:=by
 have HV:=abl ai l st ch dA;unfold xR at hc;simp only[bW]at hc;obtain⟨⟨⟨⟨_,ov⟩,kT⟩,rV⟩,uA⟩:=hc;have ov:=mn.1 ov;have hl:∀p∈l,ai<=p.1∧p.1<st.ai∧ai<=p.2:=by
  intro p hp;have:=zaP.1 kT p hp;simp only[bW]at this;exact⟨mn.1 this.1.1,mn.1 this.1.2,mn.1 this.2⟩
 have HJ:∀p∈l,∀q∈l,p.2=q.2->p.1=q.1:=by
  intro p hp q hq e;have:=zaP.1 (zaP.1 rV p hp) q hq;rw[zcq]at this;rcases this with hh|hh
  ·rw[e]at hh;simp at hh
  ·exact dD hh
 have wC:∀i j,¬i<ai->(l.find? (fun p=>Nat.beq p.1 i)).map (·.2)=some j->(i,j)∈l:=by
  intro i j _ ae;obtain⟨p,hp,rfl⟩:=zaO.1 ae;have J:=zco hp;have U:=zcL hp;have ag:=dD U;subst ag;exact J
 have yx:∀i o,st.h.get i=some o->∃j g7,px ai l i=some j∧ch.h.get j=some g7∧oG (decide (i<ai)) (px ai l) o g7=true:=by
  intro i o al;have:=ao.K4 st.h id uA i o al;simp only[id]at this;split at this
  ·rename_i j hj;split at this
   ·rename_i g7 mM;exact⟨j,g7,hj,mM,this⟩
   ·cases this
  ·cases this
 have yh:∀{old:Bool} {o g7:bt},oG old (px ai l) o g7=true->g7≠.dead:=by
  intro old o g7 h e;subst e;cases o<;>simp[oG]at h
 have lH:∀i j lc,px ai l i=some j->dA j=some lc->ra ai l st ch dA i=some {lc with bR:=if i<ai then lc.bR else tv st ch i j lc}:=by
  intro i j lc aE hm;unfold px at aE;unfold ra;split at aE
  ·rename_i af;cases aE;rw[zab af,zab af];exact hm
  ·rename_i af;rw[zaa af,aE,zaa af];simp[hm]
 have XA:∀i j o g7 lc,st.h.get i=some o->ch.h.get j=some g7->oG (decide (i<ai)) (px ai l) o g7=true->dA j=some lc->(if i<ai then lc.bR else tv st ch i j lc)≠h1->lc.bR≠h1:=by
  intro i j o g7 lc al mM jv pc cd e;have ae:=h.mc j lc g7 pc e mM (yh jv);apply cd;split
  ·exact e
  ·unfold tv;rw[al,mM];cases g7<;>first|exact ae.elim|(cases o<;>exact e)
 refine⟨fun i o al aA=> ?_,fun i k o p a b af h3 ab MN WT AI aR e=> ?_,fun i af=> ?_,fun i a ha=> ?_,fun g aR=> ?_,by omega,fun i a o ha ah al aA=> ?_⟩
 ·obtain⟨j,g7,aE,mM,jv⟩:=yx i o al;obtain⟨lc,pc,hm⟩:=h.ez j g7 mM (yh jv);refine⟨_,lH i j lc aE pc,?_⟩;cases o with
  |cells cs e bg a8=>
   cases g7 with
   |cells cs' bL eA ui=>
    simp only[oG,bW]at jv;obtain⟨⟨⟨⟨J,U⟩,ag⟩,az⟩,a4⟩:=jv;have aC:=dD J;have e2:bg=eA:=Prod.ext (dD U) (dD ag);have b3:=zbH az;subst aC e2 b3;obtain⟨ba,bx⟩:=PL _ _ _ a4;obtain⟨C,eA,hC⟩:=hm;exact⟨C,eA,hC.there,by rw[ba];exact hC.room,fun i af=>by
     obtain⟨c,e0,fT⟩:=hC.cell i (by omega);exact⟨c,e0,B4 HV fT _ (bx i af (by omega))⟩,by rw[ba];exact hC.xF,by rw[ba];exact hC.plain⟩
   |_=>simp[oG]at jv
  |map es c=>
   cases g7 with
   |map fx bE=>
    obtain⟨eg,fh,C,ki,j9,nY⟩:=hm;simp only[oG]at jv;by_cases af:i<ai
    ·simp only[af,decide_true,if_true,bW]at jv;have aC:=dD jv.1;subst aC;refine⟨eg,fh,C,ki,j9,?_⟩;simp only[af,if_true];exact apx HV jv.2 nY
    ·simp only[af,decide_false,zaU,if_false]at jv;refine⟨eg,fh,C,ki,j9,?_⟩;simp only[af,if_false];have:tv st ch i j lc=Bv lc.bR es c fx bE:=by unfold tv;rw[al,mM]
     rw[this];exact YO HV jv nY
   |_=>simp[oG]at jv
  |_=>cases g7<;>simp[oG]at jv
 ·obtain⟨i2,g7,jM,mM,Nk⟩:=yx i o af;obtain⟨bx,hB,ox,yz,Nl⟩:=yx k p ab;obtain⟨pg,lE,_⟩:=h.ez i2 g7 mM (yh Nk);obtain⟨uS,fe,_⟩:=h.ez bx hB yz (yh Nl);rw[lH i i2 pg jM lE]at WT;rw[lH k bx uS ox fe]at AI;cases WT;cases AI;have e2:i2=bx:=h.inj i2 bx g7 hB pg uS mM (yh Nk) yz (yh Nl) lE fe (aR.imp (XA i i2 o g7 pg af mM Nk lE) (XA k bx p hB uS ab yz Nl fe)) e;subst e2;unfold px at jM ox;split at jM<;>split at ox
  ·cases jM;cases ox;rfl
  ·rename_i cv cF;cases jM;have:=hl _ (wC k i cF ox);simp only at this;omega
  ·rename_i cv cF;cases ox;have:=hl _ (wC i k cv jM);simp only at this;omega
  ·rename_i cv cF;exact HJ _ (wC i i2 cv jM) _ (wC k i2 cF ox) rfl
 ·constructor
  ·unfold ra;rw[zaa (by omega)];cases ae:(l.find? (fun p=>Nat.beq p.1 i)).map (·.2)with
   |none=>rfl
   |some j=>
    have:=hl _ (wC i j (by omega) ae);simp only at this;omega
  ·cases aR:st.h.get i with
   |none=>rfl
   |some o=>
    obtain⟨j,_,aE,_⟩:=yx i o aR;unfold px at aE;rw[zaa (by omega)]at aE;have:=hl _ (wC i j (by omega) aE);simp only at this;omega
 ·unfold ra at ha;split at ha
  ·exact h.g5 i a ha
  ·obtain⟨j,_,ha⟩:=zbG.1 ha;obtain⟨lc,pc,rfl⟩:=zaO.1 ha;exact h.g5 j lc pc
 ·unfold ra;rw[zab (by omega)];exact h.mB g aR
 ·obtain⟨j,g7,aE,mM,jv⟩:=yx i o al;obtain⟨lc,pc,hm⟩:=h.ez j g7 mM (yh jv);have wg:=lH i j lc aE pc;rw[ha]at wg;cases wg;simp only at ah;cases o with
  |cells cs e bg a8=>
   cases g7 with
   |cells cs' bL eA ui=>
    have jN:lc.bR=h1:=by
     by_cases af:i<ai
     ·rw[zab af]at ah;exact ah
     ·rw[zaa af]at ah;have:tv st ch i j lc=lc.bR:=by unfold tv;rw[al,mM]
      rw[<-this];exact ah
    have ou:=h.mc j lc _ pc jN mM (by simp);simp only[oG,bW]at jv;obtain⟨⟨⟨⟨_,U⟩,ag⟩,az⟩,_⟩:=jv;have b3:=zbH az;have fo:=dD U;have lY:=dD ag;exact⟨by rw[b3];exact ou.1,by rw[fo,lY];exact ou.2⟩
   |_=>simp[oG]at jv
  |map es c=>
   cases g7 with
   |map fx bE=>
    exfalso;obtain⟨eg,fh,C,ki,j9,nY⟩:=hm;have cd:∀{bR:Nat->Nat} {clock:Nat},QL bR clock->bR≠h1:=by
     intro bR clock anG e;have J:=anG.up 1;rw[e]at J;simp[h1]at J
    by_cases af:i<ai
    ·rw[zab af]at ah;exact cd nY.ql ah
    ·rw[zaa af]at ah;simp only[oG,af,decide_false,zaU,if_false]at jv;have:tv st ch i j lc=Bv lc.bR es c fx bE:=by unfold tv;rw[al,mM]
     rw[this]at ah;exact cd (YO HV jv nY).ql ah
   |_=>simp[oG]at jv
  |_=>cases g7<;>simp[oG]at jv
def e3.can{w':co}(XL:∀i,ai<=i->ι i=none)(h:e3 ι dA w w')(hl:∀p∈l,ai<=p.2):e3 ι (ra ai l st ch dA) w w':=by
 refine⟨fun i a ha=> ?_,h.size,h.kept,fun i a ha=> ?_,h.g9⟩
 ·have af:i<ai:=by
   rcases zai i ai with q|q
   ·exact q
   ·rw[XL i q]at ha;cases ha
  unfold ra;rw[zab af];exact h.le i a ha
 ·unfold ra at ha;split at ha
  ·exact h.new i a ha
  ·obtain⟨j,hj,ha⟩:=zbG.1 ha;obtain⟨lc,pc,rfl⟩:=zaO.1 ha;rcases h.new j lc pc with q|q|⟨k,m,cv,oL,cF⟩
   ·obtain⟨p,hp,rfl⟩:=zaO.1 hj;rw[XL _ (hl p (zco hp))]at q;cases q
   ·exact .inr (.inl q)
   ·exact .inr (.inr ⟨k,m,cv,oL,cF⟩)
def h5.can{b:dF}{bb:Bool->ac Frame}{s:Machine}{Ft:ay}{eK:Bool}(hw:bo X ι Ft w)(hc:xR Ft.ai l v st v2 ch=true)
 (h:h5 X ι w b bb s (.ret v2 ch eK)):h5 X ι w b bb s (.ret v st eK):=by
 obtain⟨aS,v',w',F,J,U,ag,az,a4,cl,dn⟩:=h;have aD:fX (px Ft.ai l) v v2=true:=by
  unfold xR at hc;simp only[bW]at hc;exact hc.1.1.1.1
 have hl:∀p∈l,Ft.ai<=p.2:=by
  unfold xR at hc;simp only[bW]at hc;intro p hp;have:=zaP.1 hc.1.1.2 p hp;simp only[bW]at this;exact mn.1 this.2
 exact⟨ra Ft.ai l st ch aS,v',w',F,B4 (abl _ _ _ _ _) J _ aD,bo.can hc hw.p1 U,e3.can (fun i af=>(hw.fresh i af).1) ag hl,az,a4,cl,dn⟩
def L5(call:bG)(res:ac h6)(r:cm):dh:=
 cm.rec (motive:=fun _=>dh)
  (fun e fr st=>dv.rec (motive:=fun _=>dh) (gl call res none fr st) (fun _=>.no) (gl call res none fr st) (fun v=>gl call res (some v) fr st) e) .no r
def CU(call:bG)(n:Nat)(f:ci)(xf:cM)(as:ac be)(st:ay):ac dh:=
 ek (db as) xf.aJ ((nL call n f xf.body ⟨lV as 0 .nil,[],none,false,none⟩ st).map (L5 call xf.res)) [.no]
def aeS{call:bG}{bb:Bool->ac Frame}(c5:Good X)(dR:mj X call)(gv:vG X call)(sV:∀b aJ bb,b.b0=none->zO X call b aJ bb){f:ci}{xf:cM}{Fn:Func}{body:Code}(ok:vF X f xf Fn body)(n:Nat){K:CallKind}{as as':ac be}
 (has:bJ ι as as') (hw:bo X ι st w) (aE:jX ⟨f,K,none⟩ none ι bb) (cd:∀r∈CU call n f xf as st,r≠.no):
 ∃r∈CU call n f xf as st,h5 X ι w ⟨f,K,none⟩ bb (lone (Frame.enter X.P f as'.toArray K) (bb false) w) r:=by
 unfold CU at cd⊢;rw[oE]at cd⊢;split
 ·rename_i hlen;rw[zab hlen]at cd;rw[fg]at hlen
  let b:dF:=⟨f,K,none⟩
  have rS:Frame.enter X.P f as'.toArray K=b.at ⟨as'.toArray++Array.replicate (xf.aJ-as'.toArray.size) undef,[]⟩ [.code body]:=by
   simp[Frame.enter,dF.at,ok.fn,ok.body,ok.aJ,b]
  rw[rS];have A4:=afk (b:=b) (bb:=bb) c5 dR (sV b xf.aJ bb rfl) ⟨Fn,ok.fn,ok.aJ⟩ n xf.body body ι ⟨lV as 0 .nil,[],none,false,none⟩ ⟨as'.toArray++Array.replicate (xf.aJ-as'.toArray.size) undef,[]⟩ st w [] ok.code (SV has hlen) hw (.inl ⟨rfl,rfl⟩) aE;obtain⟨r,jM,ox⟩:=A4 (fun r aE e=>by subst e;exact cd (L5 call xf.res .no) (zba.2 ⟨_,aE,rfl⟩) rfl);refine⟨L5 call xf.res r,zba.2 ⟨r,jM,rfl⟩,?_⟩;cases r with
  |no=>trivial
  |out e aI st'=>
   obtain⟨aS,a',w',J,U,ag,_,_,cl⟩:=ox;cases e with
   |norm=>
    refine h5.head (Steps.trans cl (.one (ack rfl))) ag ?_;exact At (b:=b) (a:=a') (F:=b.returns a' []) (aJ:=xf.aJ) gv ok.fn ok.res J U rfl rfl rfl rfl (show oW aS none .returning from rfl)
   |exit id=>trivial
   |ret=>
    obtain⟨hU,dn⟩:=cl;refine h5.head (Steps.trans dn (.one (acu rfl))) ag ?_;exact At (b:=b) (a:=a') (F:=b.returns a' (.code .ret::hU)) (aJ:=xf.aJ) gv ok.fn ok.res J U rfl rfl rfl rfl (show oW aS none .returning from rfl)
   |a1 v=>
    obtain⟨v',hU,aD,dn⟩:=cl;refine h5.head dn ag ?_;exact At (b:=b) (a:=a') (F:=b.panics a' hU v') (aJ:=xf.aJ) gv ok.fn ok.res J U rfl rfl rfl rfl ⟨v',aD,rfl⟩
 ·rename_i hlen;rw[zaa hlen]at cd;exact absurd rfl (cd .no (by simp))
mutual
def B2:be->ac Nat
 |.pointer (some a)=>[a.block]
 |.slice (some a) _ _=>[a.block]
 |.map (some r)=>[r]
 |.func _ x y=>JX x++JX y
 |.iface _ v=>B2 v
 |.agg a=>JX a
 |.tuple a=>JX a
 |_=>[]
def JX:ap be->ac Nat
 |⟨a⟩=>JY a
def JY:ac be->ac Nat
 |[]=>[]
 |a::as=>B2 a++JY as
end
variable{olds:ac Nat}
def Z4:am bt->am bt->ac (Nat×Nat)
 |some (.cells cs _ _ _),some (.cells cs' _ _ _)=>(JY cs).zip (JY cs')
 |some (.map es _),some (.map fx _)=>es.flatMap fun e=>match ko e.key fx with|some bL=>(B2 e.val).zip (B2 bL.val)|none=>[]
 |_,_=>[]
def Mo(ai:Nat)(h aG:ao bt):Nat->ac (Nat×Nat)->ac (Nat×Nat)->ac (Nat×Nat)
 |0,_,acc=>acc
 |_,[],acc=>acc
 |n+1,(a,b)::todo,acc=>
  cond (Nat.ble (Nat.succ a) ai||acc.any (fun p=>Nat.beq p.1 a)) (Mo ai h aG n todo acc) (Mo ai h aG n (Z4 (h.get a) (aG.get b)++todo) ((a,b)::acc))
def aso(_nx:Nat)(h aG:ao bt)(olds:ac Nat):ac (Nat×Nat):=olds.flatMap fun i=>Z4 (h.get i) (aG.get i)
def I9(ai:Nat)(olds:ac Nat)(v:be)(st:ay)(r:dh):Bool:=
 dh.rec (motive:=fun _=>Bool) (fun v2 ch eK=>cond eK false (xR ai (Mo ai st.h ch.h 1000 ((B2 v).zip (B2 v2)++aso ai st.h ch.h olds) []) v st v2 ch)) (fun _ _ _=>false) false r
def pO(olds:ac Nat)(ai:Nat)(v:be)(st:ay)(L:ac dh):Bool:=
 List.rec (motive:=fun _=>Bool) true (fun r _ a7=>cond (I9 ai olds v st r) a7 false) L
theorem RY{olds:ac Nat}{ai:Nat}{v:be}{st:ay}:∀{L:ac dh},pO olds ai v st L=true->∀r∈L,I9 ai olds v st r=true
 |[],_,r,aE=>by cases aE
 |x::xs,h,r,aE=>by
  have aG:cond (I9 ai olds v st x) (pO olds ai v st xs) false=true:=h;obtain⟨J,U⟩:=iJ aG (by simp);rcases zak.1 aE with rfl|aE
  ·exact J
  ·exact RY U r aE
def aqK{r:dh}(h:I9 ai olds v st r=true):∃v2 ch l,r= .ret v2 ch false∧xR ai l v st v2 ch=true:=by
 cases r with
 |no=>cases h
 |a1 a b c=>cases h
 |ret v2 ch eK=>
  cases eK with
  |true=>cases h
  |false=>exact⟨v2,ch,_,rfl,h⟩
def ast{aZ:ao cM}{fs:m3}(c5:Good X)(gJ:lU X aZ)(pe:sB X fs){n:Nat}{f:ci}{xf:cM}{r:Row}(aa:aZ.get f=some xf)
 (h:pO olds r.st.ai r.v r.st' (CU (b9 aZ fs n) n f xf r.as r.st)=true):eo X f r:=by
 obtain⟨Fn,c,ok⟩:=gJ f xf aa;obtain⟨lF,jN⟩:=CX c5 gJ pe n;have ea:=RY h;intro ι as' w ha hw;refine⟨ok.enters,fun K bb aE=> ?_⟩;obtain⟨q,rY,wK⟩:=aeS c5 jN lF (fun b aJ bb _=>Fg jN b aJ bb) ok n ha hw aE (fun r aE e=>by
  have:=ea r aE;subst e;cases this)
 obtain⟨v2,ch,l,rfl,hc⟩:=aqK (ea q rY);exact h5.can hw hc wK
end Go.ar
namespace Go.ar
variable{X:Ctx}{α:Type}
def Ma(X:Ctx)(xf:cM)(Fn:Func):Bool:=
 match Fn.body with
 |some c=>Nat.beq Fn.ntmps xf.aJ&&codeOk X xf.aJ xf.body c&&vm X xf.res Fn.results.toList&& !(Fn.name== "runtime.NumGoroutine")
 |none=>false
def ait{f:ci}{xf:cM}{Fn:Func}(ae:X.P.funcs[f]? =some Fn)(h:Ma X xf Fn=true):∃Fn c,vF X f xf Fn c:=by
 unfold Ma at h;split at h
 ·rename_i c hc;simp only[bW]at h;obtain⟨⟨⟨J,U⟩,ag⟩,az⟩:=h;exact⟨Fn,c,ae,hc,dD J,U,ag,by simpa using az⟩
 ·cases h
def ao.Cu(Q:Nat->α->Prop):ao α->(Nat->Nat)->Prop
 |.nil,_=>True
 |.node l v r,g=>(match v with|some x=>Q (g 0) x|none=>True)∧ao.Cu Q l (fun n=>g (2*n+1))∧ao.Cu Q r (fun n=>g (2*n+2))
def ao.K5{Q:Nat->α->Prop}:∀(t:ao α) (g:Nat->Nat),ao.Cu Q t g->∀n x,t.get n=some x->Q (g n) x
 |.nil,_,_,n,x,h=>by simp at h
 |.node l v r,g,ha,n,x,h=>by
  obtain⟨J,U,ag⟩:=ha;cases n with
  |zero=>rw[ao.wy]at h;subst h;exact J
  |succ m=>
   rw[ao.p0]at h;split at h
   ·rename_i hm;have:=ao.K5 l _ U _ x h;have e:2*(m/2)+1=m+1:=by omega
    simp only[e]at this;exact this
   ·rename_i hm;have:=ao.K5 r _ ag _ x h;have e:2*(m/2)+2=m+1:=by omega
    simp only[e]at this;exact this
def avZ{aZ:ao cM}(h:ao.Cu (fun f xf=>∃Fn c,vF X f xf Fn c) aZ id):lU X aZ:=
 fun f xf aa=>ao.K5 aZ id h f xf aa
def gL:m3:=fun _ _ _=>none
def gW(X:Ctx):sB X gL:=fun _ _ _ _ h=>by cases h
structure zK where
 P:d9
 aF:Nat
 kJ:ci->Bool
 kV:ci->Bool
 EL:∀f,kJ f=true->∀x w,(callFunc f #[x]).run P w= .ok (.value x) w
 Eo:∀f,kV f=true->∀s c w,(callFunc f #[.string s,.int .u8 c]).run P w= .ok (.value (goInt (match(List.range s.size).find? (fun i=>s[i]! ==c.toNat.toUInt8)with|some i=>(i:Int)|none=> -1))) w
 keys:ce->am gb
 s4:∀k df,keys k=some df->Maps.Keyed P k∧∀v,df.ok v=true->∃l,keyOf P k v=some l
 pP:ci->Bool
 C4:∀f,pP f=true->∀s c w,(callFunc f #[.string s,.int .u8 c]).run P w= .ok (.value (goInt (s.data.toList.countP (fun b=>b==c.toNat.toUInt8):Nat))) w
 p9:ci->Bool
 ma:Nat
 EH:ma<aF
 Er:∀f,p9 f=true->∀(s b:f5) (m:Int) w,(load ⟨ma,0,none⟩).run P w= .ok (.int .i64 m) w->2<=b.size->(b.size:Int)<=m->s.size<=1000000->
  (callFunc f #[.string s,.string b]).run P w= .ok (.value (goInt (match pA b.data.toList s.data.toList with|some i=>(i:Int)|none=> -1))) w
 eqs:ce->am Nat
 x8:∀t n,eqs t=some n->P.eqGuardType P.depth t=false∧∀xs av b w,xs.size=n%100+n/100->av.size=n%100+n/100->o3 (n%100) xs.toList av.toList=some b->(Op.equalIn 10000 t (.agg xs) (.agg av)).run P w= .ok b w
 qb:ci->am ce
 EG:∀f e,qb f=some e->∀(n:Nat) (w:co),n<=281474976710656->∃(cs:ap be) (w':co),n<=cs.size∧P.cellsOf e=1∧(callFunc f #[.int .i64 (n:Int)]).run P w= .ok (.value (.slice (some ⟨w.heap.size,0,none⟩) n cs.size)) w'∧w'.heap=w.heap.push (.cells cs e)∧(w'.os=w.os∧w'.output=w.output)
def zK.with(B:zK)(ok:ci->Code->dm->Prop):Ctx:=
 {P:=B.P,ok:=ok,aF:=B.aF,kJ:=B.kJ,kV:=B.kV,EL:=B.EL,Eo:=B.Eo,keys:=B.keys,s4:=B.s4,pP:=B.pP,C4:=B.C4,p9:=B.p9,ma:=B.ma,EH:=B.EH,Er:=B.Er,eqs:=B.eqs,x8:=B.x8,qb:=B.qb,EG:=B.EG}
def mkCtx(B:zK):Ctx:=B.with fun fn c lS=>∃F,B.P.funcs[fn]? =some F∧codeOk (B.with fun _ _ _=>False) F.ntmps lS c=true
def afl(B:zK)(ok w5:ci->Code->dm->Prop):codeOk (B.with ok)=codeOk (B.with w5):=by kernel_rfl
def apA(B:zK)(ja:B.P.follows .mixedOrders=true):Good (mkCtx B):=by
 refine⟨ja,fun fn c lS=> ?_⟩;have e:codeOk (mkCtx B)=codeOk (B.with fun _ _ _=>False):=afl B _ _;rw[e];exact Iff.rfl
section
variable{X:Ctx}
variable{st:ay}
def bo.abk{ι:bs}{w:co}(h:bo X ι st w){g:Nat}{u:be}{el:ce}{bg:Nat×Nat}{a8:Bool}(aR:st.h.get g=some (.cells [u] el bg a8)):
 ∃c,bp ι u c∧∀zx,bp ι zx c->bo X ι ⟨st.h.set g (.cells [zx] el bg a8),st.ai⟩ w:=by
 obtain⟨l,hl,C,eA,hC⟩:=h.ez _ _ aR (by simp);obtain⟨c,qJ,l0⟩:=hC.cell 0 (by simp);refine⟨c,by simpa using l0,fun zx Eg=>⟨fun i o al aA=> ?_,fun i j o p a b af h3 hj iy ha hb MT e=> ?_,fun i af=> ?_,h.g5,h.mB,h.p1,fun i a o ha ah al aA=> ?_⟩⟩
 ·rw[ao.eJ]at al;by_cases e:i=g
  ·rw[zab e]at al;cases al;subst e;refine⟨l,hl,C,eA,hC.there,hC.room,fun j hj=> ?_,hC.xF,hC.plain⟩;have:j=0:=by simpa using hj
   subst this;exact⟨c,qJ,by simpa using Eg⟩
  ·rw[zaa e]at al;exact h.ez i o al aA
 ·have hh:∀k q,(st.h.set g (.cells [zx] el bg a8)).get k=some q->q≠.dead->∃gn,st.h.get k=some gn∧gn≠.dead:=by
   intro k q ab hq;rw[ao.eJ]at ab;by_cases e:k=g
   ·subst e;exact⟨_,aR,by simp⟩
   ·rw[zaa e]at ab;exact⟨q,ab,hq⟩
  obtain⟨bh,J,U⟩:=hh i o af h3;obtain⟨dO,ag,az⟩:=hh j p hj iy;exact h.inj i j bh dO a b J U ag az ha hb MT e
 ·have:=h.fresh i af;refine⟨this.1,?_⟩;rw[ao.eJ,zaa]
  ·exact this.2
  ·intro e;subst e;rw[this.2]at aR;cases aR
 ·rw[ao.eJ]at al;by_cases e:i=g
  ·rw[zab e]at al;cases al;subst e;show a8=false∧bg.1<bg.2;exact h.mc i a _ ha ah aR (by simp)
  ·rw[zaa e]at al;exact h.mc i a o ha ah al aA
def Row.oD(r:Row)(g:Nat)(el:ce)(c:Nat):Row:=
 ⟨r.as,⟨r.st.h.set g (.cells [.chan (some c)] el (0,1) false),r.st.ai⟩,r.v,⟨r.st'.h.set g (.cells [.chan (some c)] el (0,1) false),r.st'.ai⟩⟩
def asV{g:Nat}{o bh:bt}(h:st.h.get g=some o):ay.le st ⟨(st.h.set g bh).set g o,st.ai⟩:=by
 refine⟨rfl,fun n x aa=> ?_⟩;show((st.h.set g bh).set g o).get n=some x;rw[ao.eJ];by_cases e:n=g
 ·subst e;rw[zab rfl];rw[h]at aa;exact aa
 ·rw[zaa e,ao.eJ,zaa e];exact aa
def vn{f:ci}{r:Row}{g n:Nat}{el:ce}(h0:r.st.h.get g=some (.cells [.chan (some 1)] el (0,1) false))(jK:r.st'.h.get g=some (.cells [.chan (some 1)] el (0,1) false))
 (J:eo X f (r.oD g el (2*n+2))) (U:eo X f (r.oD g el (2*n+3))):eo X f r:=by
 intro ι as' w ha hw;obtain⟨c,hc,r0⟩:=hw.abk h0;obtain⟨m,rfl,_⟩:=hc.EV (by decide);have key:∀k,Qk k m->eo X f (r.oD g el k)->(∀as w,(callFunc f as).run X.P w= .ok (.enter f as) w)∧
  ∀(K:CallKind) (bb:Bool->ac Frame),jX ⟨f,K,none⟩ none ι bb->h5 X ι w ⟨f,K,none⟩ bb (lone (Frame.enter X.P f as'.toArray K) (bb false) w) (.ret r.v r.st' false):=by
  intro k ab kF;obtain⟨cv,cF⟩:=kF ι as' w ha (r0 _ (.iW k m ab));refine⟨cv,fun K bb aE=> ?_⟩;obtain⟨aS,v',w',F,g1,aM,bc,cf⟩:=cF K bb aE;obtain⟨fT,l0,anD⟩:=bo.abk (u:=.chan (some k)) aM (by show(r.st'.h.set g _).get g=_;rw[ao.nP]);obtain⟨fh,rfl,_⟩:=l0.EV (by intro e;subst e;rcases ab with h|⟨_,h,_⟩|⟨_,h,_⟩<;>omega);have cL:=anD (.chan (some 1)) (.iW 1 fh (.inl rfl));exact⟨aS,v',w',F,g1,bo.less (asV jK) cL,bc,cf⟩
 by_cases hm:(n:Int)<=m
 ·exact key _ (.inr (.inl ⟨n,rfl,hm⟩)) J
 ·exact key _ (.inr (.inr ⟨n,rfl,by omega⟩)) U
end
end Go.ar
namespace Go.ar
variable{P:d9}
def RX(i:Nat)(d:am TypeDesc):Bool:=match i,d with
 |0,some .string=>true
 |_+1,some (.int _)=>true
 |_,_=>false
def G9(P:d9):ac Field->Nat->Nat->Bool
 |[],_,_=>true
 |f::bB,i,o=>Nat.beq f.offset o&&f.name != "_"&&RX i (P.underlying f.type)&&G9 P bB (i-1) (o+1)
def G8(P:d9)(t n:Nat):Bool:=match P.underlying t with
 |some (.struct bB)=> !P.stoodInHeld t&&Nat.beq bB.size (n%100+n/100)&&G9 P bB.toList (n%100) 0&& !P.eqGuardType P.depth t
 |_=>false
theorem Tg(w:co)(d:Nat)(xs av:ap be):∀(bB:ac Field) (i o:Nat) (b:Bool),G9 P bB i o=true->o3 i (xs.toList.drop o) (av.toList.drop o)=some b->xs.size=o+bB.length->av.size=o+bB.length->
 (Op.eqFields (d+1) xs av bB).run P w= .ok b w
 |[],i,o,b,_,he,aa,aL=>by
  rw[zbU (by simp;simpa using zdr aa),zbU (by simp;simpa using zdr aL)]at he;cases he;simp[Op.eqFields]
 |f::bB,i,o,b,ae,he,aa,aL=>by
  unfold G9 at ae;simp only[bW]at ae;obtain⟨⟨⟨J,U⟩,ag⟩,az⟩:=ae;have J:=dD J;have hn:f.name≠ "_":=by simpa using U
  rw[zaq]at aa aL;have EA:o<xs.toList.length:=by simp;omega
  have apr:o<av.toList.length:=by simp;omega
  rw[zcG EA,zcG apr]at he;unfold o3 at he;obtain⟨k6,h0,he⟩:=gh (z:=none) (r:=some b) he (by simp);have anu:∃c3,o3 (i-1) (xs.toList.drop (o+1)) (av.toList.drop (o+1))=some c3∧b=(k6&&c3):=by
   cases k6
   ·obtain⟨c3,hL,p3⟩:=gh (z:=none) (r:=some b) he (by simp);cases p3;exact⟨c3,hL,rfl⟩
   ·exact⟨b,he,by simp⟩
  obtain⟨c3,hL,hb⟩:=anu;have a7:=Tg w d xs av bB (i-1) (o+1) c3 az hL (by omega) (by omega);have alF:xs[f.offset]? =some xs.toList[o]:=by rw[J];simp
  have alG:av[f.offset]? =some av.toList[o]:=by rw[J];simp
  generalize xs.toList[o]=x at *;generalize av.toList[o]=y at *;have ab:(i=0∧P.underlying f.type=some .string)∨(i≠0∧∃k,P.underlying f.type=some (.int k)):=by
   unfold RX at ag;split at ag
   ·exact .inl ⟨rfl,by assumption⟩
   ·exact .inr ⟨by omega,_,by assumption⟩
   ·cases ag
  have hp:∀(cs:ap be) (v:be),cs[f.offset]? =some v->(part f.type cs f.offset).run P w= .ok v w:=by
   intro cs v h;rcases ab with⟨_,hu⟩|⟨_,k,hu⟩
   ·simp[part,isAgg,run_underlying hu,h]
   ·simp[part,isAgg,run_underlying hu,h]
  have hq:(Op.equalIn (d+1) f.type x y).run P w= .ok k6 w:=by
   rcases ab with⟨af,hu⟩|⟨af,k,hu⟩
   ·subst af;have h0:GX x y=some k6:=h0;unfold GX at h0;split at h0
    ·cases h0;rw[run_equalIn_string w d f.type _ _ hu,toList_eq]
    ·cases h0
   ·obtain⟨j,rfl⟩:∃j,i=j+1:=⟨i-1,by omega⟩;have a4:LW x y=some k6:=h0;clear h0;cases x<;>cases y<;>try (cases a4;done)
    rename_i ba m bx n;have h0:=a4;clear a4;have h0:(if ba=bx then some (m==n)else none)=some k6:=h0;by_cases e:ba=bx
    ·subst e;rw[zab rfl]at h0;cases h0;exact run_equalIn_int w d f.type _ k _ _ hu
    ·rw[zaa e]at h0;cases h0
  have aC:=hp xs x alF;have e2:=hp av y alG;simp only[Op.eqFields,hn,ne_eq,not_false_eq_true,if_true,Sem.run_bind,aC,e2,hq,Result.andThen_ok];rw[hb];cases k6
  ·simp
  ·simpa using a7
def aiq{t n:Nat}(h:G8 P t n=true):P.eqGuardType P.depth t=false∧∀xs av b w,xs.size=n%100+n/100->av.size=n%100+n/100->o3 (n%100) xs.toList av.toList=some b->(Op.equalIn 10000 t (.agg xs) (.agg av)).run P w= .ok b w:=by
 unfold G8 at h;split at h
 ·rename_i bB hu;simp only[bW]at h;obtain⟨⟨⟨J,U⟩,ag⟩,az⟩:=h;have U:=dD U;have ae:P.fieldsOf t=bB:=by simp[Program.fieldsOf,hu]
  refine⟨by simpa using az,fun xs av b w aa aL he=> ?_⟩;rw[show(10000:Nat)=9998+1+1 from rfl,run_equalIn_struct w (9998+1) t xs av (by rw[ae];exact hu) (by simpa using J),ae];exact Tg w 9998 xs av bB.toList _ 0 b ag (by simpa using he) (by simp;omega) (by simp;omega)
 ·cases h
end Go.ar
namespace Go.ar
inductive gk(R:Nat->Nat->Prop):Value->Value->Prop
 |bool (b:Bool):gk R (.bool b) (.bool b)
 |int (k:IntKind) (n:Int):gk R (.int k n) (.int k n)
 |string (s:ByteArray):gk R (.string s) (.string s)
 |ns:gk R (.pointer none) (.pointer none)
 |ptr (a b:Addr) (h:R a.block b.block) (al:a.off=b.off) (ha:a.spot=none) (hb:b.spot=none):gk R (.pointer (some a)) (.pointer (some b))
 |nw (n c:Nat):gk R (.slice none n c) (.slice none n c)
 |gN (a b:Addr) (n c:Nat) (h:R a.block b.block) (al:a.off=b.off) (ha:a.spot=none) (hb:b.spot=none):gk R (.slice (some a) n c) (.slice (some b) n c)
 |pj:gk R (.map none) (.map none)
 |map (i j:Nat) (h:R i j):gk R (.map (some i)) (.map (some j))
 |func (f:FuncId) (xs av us vs:Array Value) (J:xs.size=av.size) (U:∀i (h:i<xs.size) (aG:i<av.size),gk R xs[i] av[i])
  (ag:us.size=vs.size) (az:∀i (h:i<us.size) (aG:i<vs.size),gk R us[i] vs[i]):gk R (.func (.func f) xs us) (.func (.func f) av vs)
 |nilFunc:gk R .nilFunc .nilFunc
 |iface (t:TypeId) (v w:Value) (h:gk R v w):gk R (.iface t v) (.iface t w)
 |nilIface:gk R .nilIface .nilIface
 |agg (xs av:Array Value) (J:xs.size=av.size) (U:∀i (h:i<xs.size) (aG:i<av.size),gk R xs[i] av[i]):gk R (.agg xs) (.agg av)
 |tuple (xs av:Array Value) (J:xs.size=av.size) (U:∀i (h:i<xs.size) (aG:i<av.size),gk R xs[i] av[i]):gk R (.tuple xs) (.tuple av)
 |chan (c:Nat):gk R (.chan (some c)) (.chan (some c))
variable{v w:be}
def gk.mono{R S:Nat->Nat->Prop}(hle:∀i j,R i j->S i j)(h:gk R v w):gk S v w:=by
 induction h with
 |bool b=>exact .bool b
 |int k n=>exact .int k n
 |string s=>exact .string s
 |ns=>exact .ns
 |ptr a b h al ha hb=>exact .ptr a b (hle _ _ h) al ha hb
 |nw n c=>exact .nw n c
 |gN a b n c h al ha hb=>exact .gN a b n c (hle _ _ h) al ha hb
 |pj=>exact .pj
 |map i j h=>exact .map i j (hle _ _ h)
 |func f xs av us vs J _ ag _ nh uJ=>exact .func f xs av us vs J nh ag uJ
 |nilFunc=>exact .nilFunc
 |iface t v w _ a7=>exact .iface t v w a7
 |nilIface=>exact .nilIface
 |agg xs av J _ a7=>exact .agg xs av J a7
 |tuple xs av J _ a7=>exact .tuple xs av J a7
 |chan c=>exact .chan c
def gk.symm{R:Nat->Nat->Prop}(h:gk R v w):gk (fun j i=>R i j) w v:=by
 induction h with
 |bool b=>exact .bool b
 |int k n=>exact .int k n
 |string s=>exact .string s
 |ns=>exact .ns
 |ptr a b h al ha hb=>exact .ptr b a h al.symm hb ha
 |nw n c=>exact .nw n c
 |gN a b n c h al ha hb=>exact .gN b a n c h al.symm hb ha
 |pj=>exact .pj
 |map i j h=>exact .map j i h
 |func f xs av us vs J _ ag _ nh uJ=>exact .func f av xs vs us J.symm (fun i a b=>nh i b a) ag.symm (fun i a b=>uJ i b a)
 |nilFunc=>exact .nilFunc
 |iface t v w _ a7=>exact .iface t w v a7
 |nilIface=>exact .nilIface
 |agg xs av J _ a7=>exact .agg av xs J.symm (fun i a b=>a7 i b a)
 |tuple xs av J _ a7=>exact .tuple av xs J.symm (fun i a b=>a7 i b a)
 |chan c=>exact .chan c
def gk.FG{R:Nat->Nat->Prop}{k2 aS:bs}(cT:∀i j l,R i j->k2 i=some l->aS j=some l){c:be}(h:gk R v c):∀{x:be},bp k2 v x->bp aS c x:=by
 induction h with
 |bool b=>intro x aa;cases aa;exact .bool b
 |int k n=>intro x aa;cases aa;exact .int k n
 |string s=>intro x aa;cases aa;exact .string s
 |ns=>intro x aa;cases aa;exact .ns
 |ptr a b h al ha hb=>
  intro x aa;cases aa with
  |ptr a l hl ah=>rw[al];exact .ptr b l (cT _ _ _ h hl) hb
 |nw n c=>intro x aa;cases aa;exact .nw n c
 |gN a b n c h al ha hb=>
  intro x aa;cases aa with
  |gN a l o n c hl ah ag=>exact .gN b l o n c (cT _ _ _ h hl) hb (by rw[<-al];exact ag)
 |pj=>intro x aa;cases aa;exact .pj
 |map i j h=>intro x aa;cases aa with|map r b bR hl=>exact .map j b bR (cT _ _ _ h hl)
 |func f xs av us vs J _ ag _ nh uJ=>
  intro x aa;cases aa with
  |func na g vA jV axh gA ae g1 aM bc cf=>
   refine .func _ _ av jV vs gA ?_ (J.symm.trans g1) (fun i a b=>nh i (by omega) a (aM i (by omega) b)) (ag.symm.trans bc) (fun i a b=>uJ i (by omega) a (cf i (by omega) b));rcases ae with⟨e,aL⟩|⟨l,b,e,_⟩
   ·exact .inl ⟨e,aL⟩
   ·cases e
 |nilFunc=>intro x aa;cases aa;exact .nilFunc
 |iface t v w _ a7=>intro x aa;cases aa with|iface t v y aD=>exact .iface t w y (a7 aD)
 |nilIface=>intro x aa;cases aa;exact .nilIface
 |agg xs av J _ a7=>intro x aa;cases aa with|agg vA jV g1 aM=>exact .agg av jV (J.symm.trans g1) (fun i a b=>a7 i (by omega) a (aM i (by omega) b))
 |tuple xs av J _ a7=>intro x aa;cases aa with|tuple vA jV g1 aM=>exact .tuple av jV (J.symm.trans g1) (fun i a b=>a7 i (by omega) a (aM i (by omega) b))
 |chan c=>
  intro x aa;by_cases hc:c=0
  ·subst hc;exact .top x
  ·obtain⟨m,rfl,hu⟩:=aa.EV hc;exact .iW c m hu
def kP(R:Nat->Nat->Prop)(xs av:ac be):Prop:=xs.length=av.length∧∀(i:Nat) (h:i<xs.length) (aG:i<av.length),gk R xs[i] av[i]
variable{xs:ac be}{av:ap be}
def kP.mono{R S:Nat->Nat->Prop}(hle:∀i j,R i j->S i j){av:ac be}(h:kP R xs av):kP S xs av:=⟨h.1,fun i a b=>(h.2 i a b).mono hle⟩
def kP.symm{R:Nat->Nat->Prop}{av:ac be}(h:kP R xs av):kP (fun j i=>R i j) av xs:=⟨h.1.symm,fun i a b=>(h.2 i b a).symm⟩
def kP.nil(R:Nat->Nat->Prop):kP R [] []:=⟨rfl,fun i h=>by simp at h⟩
def kP.cons{R:Nat->Nat->Prop}{x y:be}{xs av:ac be}(h:gk R x y)(ah:kP R xs av):kP R (x::xs) (y::av):=by
 refine⟨by simp[ah.1],fun i a b=> ?_⟩;cases i with
 |zero=>exact h
 |succ i=>exact ah.2 i (by simpa using a) (by simpa using b)
def kP.avo{R:Nat->Nat->Prop}{k2 aS:bs}(cT:∀i j l,R i j->k2 i=some l->aS j=some l){vs cs:ac be}(h:kP R vs cs)(aa:bJ k2 vs xs):bJ aS cs xs:=
 ⟨h.1.symm.trans aa.1,fun i a b=>(h.2 i (by have:=h.1;omega) a).FG cT (aa.2 i (by have:=h.1;omega) b)⟩
def gk.QV{R:Nat->Nat->Prop}{xs:ap be}(h:kP R xs.toList av.toList):gk R (.agg xs) (.agg av):=
 .agg xs av (by simpa using h.1) fun i a b=>by have:=h.2 i (by simpa using a) (by simpa using b);rwa [zaw,zaw]at this
def gk.tuple'{R:Nat->Nat->Prop}{xs:ap be}(h:kP R xs.toList av.toList):gk R (.tuple xs) (.tuple av):=
 .tuple xs av (by simpa using h.1) fun i a b=>by have:=h.2 i (by simpa using a) (by simpa using b);rwa [zaw,zaw]at this
def gk.Tz{R:Nat->Nat->Prop}{f:ci}{xs us vs:ap be}(h:kP R xs.toList av.toList)(aG:kP R us.toList vs.toList):gk R (.func (.func f) xs us) (.func (.func f) av vs):=
 .func f xs av us vs (by simpa using h.1) (fun i a b=>by have:=h.2 i (by simpa using a) (by simpa using b);rwa [zaw,zaw]at this) (by simpa using aG.1) (fun i a b=>by have:=aG.2 i (by simpa using a) (by simpa using b);rwa [zaw,zaw]at this)
inductive jG{α β:Type}(R:α->β->Prop):List α->List β->Prop
 |nil:jG R [] []
 |cons {a:α} {b:β} {as:List α} {bT:List β} (h:R a b) (ah:jG R as bT):jG R (a::as) (b::bT)
variable{α β:Type}{as:ac α}{bT:ac β}
def jG.mono{R S:α->β->Prop}(hle:∀a b,R a b->S a b)(h:jG R as bT):jG S as bT:=by
 induction h with
 |nil=>exact .nil
 |cons h _ a7=>exact .cons (hle _ _ h) a7
def jG.flip{R:α->β->Prop}(h:jG R as bT):jG (fun b a=>R a b) bT as:=by
 induction h with
 |nil=>exact .nil
 |cons h _ a7=>exact .cons h a7
def jG.perm{R:α->β->Prop}{l es:ac α}(hp:l.Perm es):∀{bB:ac β},jG R es bB->∃m:ac β,m.Perm bB∧jG R l m:=by
 induction hp with
 |nil=>intro bB h;cases h;exact⟨[],.refl _,.nil⟩
 |cons x _ a7=>
  intro bB h;cases h with
  |cons h ah=>obtain⟨m,J,U⟩:=a7 ah;exact⟨_::m,.cons _ J,.cons h U⟩
 |swap x y l=>
  intro bB h;cases h with
  |cons h ah=>cases ah with|cons aG ah=>exact⟨_::_::_,.swap _ _ _,.cons aG (.cons h ah)⟩
 |trans _ _ Es nh=>
  intro bB h;obtain⟨m,J,U⟩:=nh h;obtain⟨n,ag,az⟩:=Es U;exact⟨n,ag.trans J,az⟩
def jG.len{R:α->β->Prop}(h:jG R as bT):as.length=bT.length:=by
 induction h with
 |nil=>rfl
 |cons _ _ a7=>simp[a7]
theorem jG.at{α β:Type}{R:α->β->Prop}{as:ac α}{bT:ac β}(h:jG R as bT):∀(i:Nat) (a:i<as.length) (b:i<bT.length),R as[i] bT[i]:=by
 induction h with
 |nil=>intro i a;simp at a
 |cons h _ a7=>
  intro i a b;cases i with
  |zero=>exact h
  |succ i=>exact a7 i (by simpa using a) (by simpa using b)
structure pD(R:Nat->Nat->Prop)(e f:d8):Prop where
 key:e.key=f.key
 NU:gk R e.key f.key
 val:gk R e.val f.val
 born:e.born=f.born
variable{e f:d8}
def pD.mono{R S:Nat->Nat->Prop}(hle:∀i j,R i j->S i j)(h:pD R e f):pD S e f:=⟨h.key,h.NU.mono hle,h.val.mono hle,h.born⟩
def pD.symm{R:Nat->Nat->Prop}(h:pD R e f):pD (fun j i=>R i j) f e:=⟨h.key.symm,h.NU.symm,h.val.symm,h.born.symm⟩
inductive k4(R:Nat->Nat->Prop):bt->bt->Prop
 |cells (cs ds:List Value) (e:TypeId) (bg:Nat×Nat) (a8:Bool) (h:kP R cs ds):k4 R (.cells cs e bg a8) (.cells ds e bg a8)
 |map (es bB:List MapEntry) (c:Nat) (h:jG (pD R) es bB):k4 R (.map es c) (.map bB c)
variable{o p:bt}
def k4.mono{R S:Nat->Nat->Prop}(hle:∀i j,R i j->S i j)(h:k4 R o p):k4 S o p:=by
 cases h with
 |cells cs ds e bg a8 h=>exact .cells cs ds e bg a8 (h.mono hle)
 |map es bB c h=>exact .map es bB c (h.mono fun _ _ h=>h.mono hle)
def k4.symm{R:Nat->Nat->Prop}(h:k4 R o p):k4 (fun j i=>R i j) p o:=by
 cases h with
 |cells cs ds e bg a8 h=>exact .cells ds cs e bg a8 h.symm
 |map es bB c h=>exact .map bB es c (h.flip.mono fun _ _ h=>h.symm)
def k4.live{R:Nat->Nat->Prop}(h:k4 R o p):o≠.dead∧p≠.dead:=by cases h<;>simp
def k4.wv{R:Nat->Nat->Prop}(h:k4 R o p):o.wv↔p.wv:=by cases h<;>exact Iff.rfl
variable{X:Ctx}
def k4.Zv{R:Nat->Nat->Prop}{k2 aS:bs}(cT:∀i j l,R i j->k2 i=some l->aS j=some l)(h:k4 R o p){w:co}{l:Loc}(hm:kg X k2 w o l):kg X aS w p l:=by
 cases h with
 |cells cs ds e bg a8 h=>
  obtain⟨C,eA,hC⟩:=hm;refine⟨C,eA,hC.there,by rw[<-h.1];exact hC.room,fun i af=> ?_,by rw[<-h.1];exact hC.xF,by rw[<-h.1];exact hC.plain⟩;have dG:i<cs.length:=by rw[h.1];exact af
  obtain⟨c,J,U⟩:=hC.cell i dG;exact⟨c,J,(h.2 i dG af).FG cT U⟩
 |map es bB c h=>
  obtain⟨h0,jK,C,bE,J,U⟩:=hm;have ea:∀f∈bB,∃e∈es,pD R e f:=by
   clear J U;intro f ae
   induction h with
   |nil=>cases ae
   |cons h _ a7=>
    rcases zak.1 ae with rfl|ae
    ·exact⟨_,by simp,h⟩
    ·obtain⟨e,he,aG⟩:=a7 ae;exact⟨e,zaI _ he,aG⟩
  have Jl:∀(Q:d8->d8->Prop),(∀a b c d,pD R a c->pD R b d->Q a b->Q c d)->es.Pairwise Q->bB.Pairwise Q:=by
   intro Q ix hp;clear J U ea
   induction h with
   |nil=>exact .nil
   | @cons a b as bT h ah a7=>
    rw[zdn]at hp⊢;refine⟨fun d aA=> ?_,a7 hp.2⟩;have:∃e∈as,pD R e d:=by
     clear a7 hp
     induction ah with
     |nil=>cases aA
     |cons aG _ NL=>
      rcases zak.1 aA with rfl|aA
      ·exact⟨_,by simp,aG⟩
      ·obtain⟨e,he,uj⟩:=NL aA;exact⟨e,zaI _ he,uj⟩
    obtain⟨e,he,amz⟩:=this;exact ix a e b d h amz (hp.1 e he)
  refine⟨h0,jK,C,bE,J,U.ki,U.ql,fun f ae=> ?_,Jl _ (fun a b c d J U ab=>by rw[<-J.key,<-U.key];exact ab) U.keys,Jl _ (fun a b c d J U ab=>by rw[<-J.born,<-U.born];exact ab) U.vW,?_⟩
  ·obtain⟨e,he,MP⟩:=ea f ae;rw[<-MP.born];exact U.born e he
  ·obtain⟨e6,g1,aM,bc⟩:=U.same;obtain⟨m,ba,bx⟩:=h.perm g1;refine⟨m,ba,bx.len.symm.trans aM,fun i a b=> ?_⟩;have a':i<e6.length:=by rw[bx.len];exact a
   obtain⟨cv,cF,dU⟩:=bc i a' b;have q:=bx.at i a' a;exact⟨q.NU.FG cT cv,q.val.FG cT cF,by rw[dU,q.born]⟩
end Go.ar
namespace Go.ar
structure dc where
 b6:ao Nat
 inv:ao Nat
 bd:Nat
def dc.R(s:dc)(i j:Nat):Prop:=s.b6.get i=some j
structure dc.cV(s:dc):Prop where
 iff:∀i j,s.b6.get i=some j↔s.inv.get j=some i
 mz:∀i j,s.b6.get i=some j->i<s.bd
def dc.le(s t:dc):Prop:=∀i j,s.b6.get i=some j->t.b6.get i=some j
def dc.le.refl(s:dc):s.le s:=fun _ _ h=>h
def dc.le.trans{s t u:dc}(h:s.le t)(aG:t.le u):s.le u:=fun i j e=>aG i j (h i j e)
def yW(i j:Nat)(s:dc):am dc:=
 bk (s.inv.get j) (fun iz=>cond (Nat.beq i iz) (some s) none)
  (cond (Nat.beq i s.bd) (ao.fin (ao.kY (Nat.succ i) s.b6 i j) fun b6=>ao.fin (ao.kY (Nat.succ j) s.inv j i) fun inv=>gm (Nat.succ i) fun c=>some ⟨b6,inv,c⟩) none)
def Og{i j:Nat}{s bq:dc}(ah:s.cV)(h:yW i j s=some bq):bq.cV∧s.le bq∧bq.R i j:=by
 unfold yW at h;cases hj:s.inv.get j with
 |some iz=>
  rw[hj]at h;have h:cond (Nat.beq i iz) (some s) none=some bq:=h;cases hb:Nat.beq i iz with
  |false=>rw[hb]at h;cases h
  |true=>
   rw[hb]at h;cases h;have:=dD hb;subst this;exact⟨ah,.refl s,(ah.iff i j).2 hj⟩
 |none=>
  rw[hj]at h;have h:cond (Nat.beq i s.bd) (ao.fin (ao.kY (Nat.succ i) s.b6 i j) fun b6=>ao.fin (ao.kY (Nat.succ j) s.inv j i) fun inv=>gm (Nat.succ i) fun c=>some ⟨b6,inv,c⟩) none=some bq:=h;cases hb:Nat.beq i s.bd with
  |false=>rw[hb]at h;cases h
  |true=>
   rw[hb]at h;have e:=dD hb;simp only[cond_true,ao.pY,ao.xb]at h;unfold gm at h;rw[zaz]at h;simp only[cond_true,Option.some.injEq]at h;subst h;have gI:∀b,s.b6.get i≠some b:=fun b hb=>by have:=ah.mz _ _ hb;omega
   refine⟨⟨fun a b=> ?_,fun a b ib=> ?_⟩,fun a b ib=> ?_,?_⟩
   ·show(s.b6.set i j).get a=some b↔(s.inv.set j i).get b=some a;rw[ao.eJ,ao.eJ];by_cases ha:a=i<;>by_cases qI:b=j
    ·rw[zab ha,zab qI,ha,qI];simp
    ·rw[zab ha,zaa qI];subst ha;constructor
     ·intro e;exact absurd (Option.some.inj e).symm qI
     ·intro e;exact absurd ((ah.iff _ _).2 e) (gI b)
    ·rw[zaa ha,zab qI];subst qI;constructor
     ·intro e;rw[(ah.iff _ _).1 e]at hj;cases hj
     ·intro e;exact absurd (Option.some.inj e).symm ha
    ·rw[zaa ha,zaa qI];exact ah.iff a b
   ·have ib:(s.b6.set i j).get a=some b:=ib;show a<Nat.succ i;rw[ao.eJ]at ib;by_cases ha:a=i
    ·omega
    ·rw[zaa ha]at ib;have:=ah.mz _ _ ib;omega
   ·show(s.b6.set i j).get a=some b;rw[ao.eJ,zaa]
    ·exact ib
    ·intro ha;subst ha;exact gI b ib
   ·show(s.b6.set i j).get i=some j;rw[ao.nP]
def Od(a b:am Addr)(s:dc):am dc:=
 Option.rec (motive:=fun _=>am dc) (Option.rec (motive:=fun _=>am dc) (some s) (fun _=>none) b)
  (fun a=>Option.rec (motive:=fun _=>am dc) none
   (fun b=>cond (Nat.beq a.off b.off) (Option.rec (motive:=fun _=>am dc) (Option.rec (motive:=fun _=>am dc) (yW a.block b.block s) (fun _=>none) b.spot) (fun _=>none) a.spot) none) b) a
def YE{a b:am Addr}{s bq:dc}(h:Od a b s=some bq):
 (a=none∧b=none∧bq=s)∨∃p q,a=some p∧b=some q∧p.off=q.off∧p.spot=none∧q.spot=none∧yW p.block q.block s=some bq:=by
 cases a with
 |none=>
  cases b with
  |none=>left;exact⟨rfl,rfl,(Option.some.inj h).symm⟩
  |some q=>cases h
 |some p=>
  cases b with
  |none=>cases h
  |some q=>
   right;obtain⟨OX,y9,ps⟩:=p;obtain⟨Jp,Fa,dt⟩:=q;cases al:Nat.beq y9 Fa with
   |false=>
    have h:cond (Nat.beq y9 Fa) _ none=some bq:=h;rw[al]at h;cases h
   |true=>
    cases ps with
    |some x=>
     have h:cond (Nat.beq y9 Fa) none none=some bq:=h;rw[al]at h;cases h
    |none=>
     cases dt with
     |some x=>
      have h:cond (Nat.beq y9 Fa) none none=some bq:=h;rw[al]at h;cases h
     |none=>
      have h:cond (Nat.beq y9 Fa) (yW OX Jp s) none=some bq:=h;rw[al]at h;exact⟨_,_,rfl,rfl,dD al,rfl,rfl,h⟩
def Of(f g:Fn)(k:am dc):am dc:=
 match f,g with
 |.func a,.func b=>cond (Nat.beq a b) k none
 |_,_=>none
def apv{f g:Fn}{k:am dc}{s:dc}(h:Of f g k=some s):∃a,f= .func a∧g= .func a∧k=some s:=by
 unfold Of at h;split at h
 ·rename_i a b;cases hb:Nat.beq a b with
  |false=>rw[hb]at h;cases h
  |true=>rw[hb]at h;exact⟨a,rfl,by rw[dD hb],h⟩
 ·cases h
def aeX(a b:ac bv):Bool:=a==b
def Ls(a b:Bool):Bool:=cond a b (cond b false true)
def RK{a b:Bool}(h:Ls a b=true):a=b:=by cases a<;>cases b<;>first|rfl|cases h
def YK(w:be)(s:dc):am dc:=match w with|.nilFunc=>some s|_=>none
def YL(w:be)(s:dc):am dc:=match w with|.nilIface=>some s|_=>none
def YF(c:am Nat)(w:be)(s:dc):am dc:=match c,w with|some a,.chan (some b)=>cond (Nat.beq a b) (some s) none|_,_=>none
def aa4(f:Fn)(k:ci->am be):am be:=match f with|.func g=>k g|_=>none
def aa2(c:am Nat):am be:=match c with|some c=>some (.chan (some c))|none=>none
mutual
def kH:be->be->dc->am dc
 |.bool a,w,s=>mh w (fun b=>cond (Ls a b) (some s) none) none
 |.int k a,w,s=>gO w (fun k' b=>cond (kn k k') (cond (sO a b) (some s) none) none) none
 |.string a,w,s=>im w (fun b=>cond (aeX a.data.toList b.data.toList) (some s) none) none
 |.pointer a,w,s=>ik w (fun b=>Od a b s) none
 |.slice a n c,w,s=>il w (fun b ck bE=>cond (Nat.beq n ck) (cond (Nat.beq c bE) (Od a b s) none) none) none
 |.map a,w,s=>zz w (fun b=>Option.rec (motive:=fun _=>am dc) (Option.rec (motive:=fun _=>am dc) (some s) (fun _=>none) b) (fun i=>Option.rec (motive:=fun _=>am dc) none (fun j=>yW i j s) b) a) none
 |.func f xs us,w,s=>Cq w (fun g av vs=>Of f g (bk (Bi xs av s) (fun s=>Bi us vs s) none)) none
 |.nilFunc,w,s=>YK w s
 |.nilIface,w,s=>YL w s
 |.iface t v,w,s=>xD w (fun u y=>cond (Nat.beq t u) (kH v y s) none) none
 |.agg xs,w,s=>vx w (fun av=>Bi xs av s) none
 |.tuple xs,w,s=>rk w (fun av=>Bi xs av s) none
 |.chan c,w,s=>YF c w s
 |_,_,_=>none
def Bi:ap be->ap be->dc->am dc
 |⟨xs⟩,av,s=>yV xs av.toList s
def yV:ac be->ac be->dc->am dc
 |[],av,s=>List.rec (motive:=fun _=>am dc) (some s) (fun _ _ _=>none) av
 |x::xs,av,s=>List.rec (motive:=fun _=>am dc) none (fun y jV _=>bk (kH x y s) (fun bq=>yV xs jV bq) none) av
end
def oi{b:Bool}{o:am dc}{s:dc}(h:cond b o none=some s):b=true∧o=some s:=by
 cases b
 ·cases h
 ·exact⟨rfl,h⟩
def td{α:Type}{o:am α}{k:α->am dc}{s:dc}(h:bk o k none=some s):∃a,o=some a∧k a=some s:=gh h (by simp)
mutual
theorem IC:∀(v w:be) (s bq:dc),s.cV->kH v w s=some bq->bq.cV∧s.le bq∧gk bq.R v w
 |.bool a,w,s,bq,ah,h=>by
  rw[kH]at h;obtain⟨b,rfl,h⟩:=Qo h (by simp);obtain⟨J,U⟩:=oi h;cases U;rw[RK J];exact⟨ah,.refl s,.bool _⟩
 |.int k a,w,s,bq,ah,h=>by
  rw[kH]at h;obtain⟨k',b,rfl,h⟩:=jT h (by simp);obtain⟨J,h⟩:=oi h;obtain⟨U,h⟩:=oi h;cases h;rw[Dn]at U;rw[s5 J,zbH U];exact⟨ah,.refl s,.int _ _⟩
 |.float k n,w,s,bq,ah,h=>by rw[kH]at h<;>first|cases h|simp
 |.complex k n m,w,s,bq,ah,h=>by rw[kH]at h<;>first|cases h|simp
 |.string a,w,s,bq,ah,h=>by
  rw[kH]at h;obtain⟨b,rfl,h⟩:=pC h (by simp);obtain⟨J,U⟩:=oi h;cases U;have J:(a.data.toList==b.data.toList)=true:=J;have e:=zbH J;have:a=b:=by cases a;cases b;simp only at e;rw[Array.toList_inj.1 e]
  rw[this];exact⟨ah,.refl s,.string _⟩
 |.pointer a,w,s,bq,ah,h=>by
  rw[kH]at h;obtain⟨b,rfl,h⟩:=pB h (by simp);rcases YE h with⟨rfl,rfl,rfl⟩|⟨p,q,rfl,rfl,J,U,ag,az⟩
  ·exact⟨ah,.refl _,.ns⟩
  ·obtain⟨g1,aM,bc⟩:=Og ah az;exact⟨g1,aM,.ptr p q bc J U ag⟩
 |.slice a n c,w,s,bq,ah,h=>by
  rw[kH]at h;obtain⟨b,ck,bE,rfl,h⟩:=vy h (by simp);obtain⟨aC,h⟩:=oi h;obtain⟨e2,h⟩:=oi h;rw[dD aC,dD e2];rcases YE h with⟨rfl,rfl,rfl⟩|⟨p,q,rfl,rfl,J,U,ag,az⟩
  ·exact⟨ah,.refl _,.nw _ _⟩
  ·obtain⟨g1,aM,bc⟩:=Og ah az;exact⟨g1,aM,.gN p q _ _ bc J U ag⟩
 |.map a,w,s,bq,ah,h=>by
  rw[kH]at h;have:∃b,w= .map b∧Option.rec (motive:=fun _=>am dc) (Option.rec (motive:=fun _=>am dc) (some s) (fun _=>none) b) (fun i=>Option.rec (motive:=fun _=>am dc) none (fun j=>yW i j s) b) a=some bq:=by
   cases w<;>first|cases h|exact⟨_,rfl,h⟩
  obtain⟨b,rfl,h⟩:=this;cases a with
  |none=>
   cases b with
   |none=>cases h;exact⟨ah,.refl _,.pj⟩
   |some j=>cases h
  |some i=>
   cases b with
   |none=>cases h
   |some j=>
    obtain⟨g1,aM,bc⟩:=Og ah h;exact⟨g1,aM,.map i j bc⟩
 |.func f xs us,w,s,bq,ah,h=>by
  rw[kH]at h;obtain⟨g,av,vs,rfl,h⟩:=Qp h (by simp);obtain⟨a,rfl,rfl,ag⟩:=apv h;obtain⟨s1,J,U⟩:=td ag;obtain⟨jC,hB,mb⟩:=Iz xs av s s1 ah J;obtain⟨cv,cF,dU⟩:=Iz us vs s1 bq jC U;exact⟨cv,hB.trans cF,.Tz (mb.mono cF) dU⟩
 |.nilFunc,w,s,bq,ah,h=>by
  rw[kH]at h;unfold YK at h;split at h
  ·cases h;exact⟨ah,.refl _,.nilFunc⟩
  ·cases h
 |.nilIface,w,s,bq,ah,h=>by
  rw[kH]at h;unfold YL at h;split at h
  ·cases h;exact⟨ah,.refl _,.nilIface⟩
  ·cases h
 |.iface t v,w,s,bq,ah,h=>by
  rw[kH]at h;obtain⟨u,y,rfl,h⟩:=Qq h (by simp);obtain⟨aC,h⟩:=oi h;obtain⟨jC,hB,mb⟩:=IC v y s bq ah h;rw[dD aC];exact⟨jC,hB,.iface _ _ _ mb⟩
 |.agg xs,w,s,bq,ah,h=>by
  rw[kH]at h;obtain⟨av,rfl,h⟩:=zy h (by simp);obtain⟨jC,hB,mb⟩:=Iz xs av s bq ah h;exact⟨jC,hB,.QV mb⟩
 |.tuple xs,w,s,bq,ah,h=>by
  rw[kH]at h;obtain⟨av,rfl,h⟩:=adg h (by simp);obtain⟨jC,hB,mb⟩:=Iz xs av s bq ah h;exact⟨jC,hB,.tuple' mb⟩
 |.chan c,w,s,bq,ah,h=>by
  rw[kH]at h;unfold YF at h;split at h
  ·obtain⟨aC,h⟩:=oi h;cases h;rw[dD aC];exact⟨ah,.refl _,.chan _⟩
  ·cases h
theorem Iz:∀(xs av:ap be) (s bq:dc),s.cV->Bi xs av s=some bq->bq.cV∧s.le bq∧kP bq.R xs.toList av.toList
 |⟨xs⟩,av,s,bq,ah,h=>by rw[Bi]at h;exact IB xs av.toList s bq ah h
theorem IB:∀(xs av:ac be) (s bq:dc),s.cV->yV xs av s=some bq->bq.cV∧s.le bq∧kP bq.R xs av
 |[],av,s,bq,ah,h=>by
  rw[yV]at h;cases av with
  |nil=>cases h;exact⟨ah,.refl _,.nil _⟩
  |cons y av=>cases h
 |x::xs,av,s,bq,ah,h=>by
  rw[yV]at h;cases av with
  |nil=>cases h
  |cons y av=>
   obtain⟨s1,J,U⟩:=td (o:=kH x y s) h;obtain⟨jC,hB,mb⟩:=IC x y s s1 ah J;obtain⟨cv,cF,dU⟩:=IB xs av s1 bq jC U;exact⟨cv,hB.trans cF,.cons (mb.mono cF) dU⟩
end
def Oe(es:ac d8):ac d8->dc->am dc:=
 List.rec (motive:=fun _=>ac d8->dc->am dc) (fun bB s=>List.rec (motive:=fun _=>am dc) (some s) (fun _ _ _=>none) bB)
  (fun e _ a7 bB s=>List.rec (motive:=fun _=>am dc) none
   (fun f aiA _=>cond (Nat.beq e.born f.born) (cond (dJ e.key f.key) (bk (kH e.key f.key s) (fun s=>bk (kH e.val f.val s) (fun s=>a7 aiA s) none) none) none) none) bB) es
theorem YG:∀(es bB:ac d8) (s bq:dc),s.cV->Oe es bB s=some bq->bq.cV∧s.le bq∧jG (pD bq.R) es bB
 |[],[],s,bq,ah,h=>by cases h;exact⟨ah,.refl _,.nil⟩
 |[],_::_,s,bq,ah,h=>by cases h
 |_::_,[],s,bq,ah,h=>by cases h
 |e::es,f::bB,s,bq,ah,h=>by
  have h:cond (Nat.beq e.born f.born) (cond (dJ e.key f.key) (bk (kH e.key f.key s) (fun s=>bk (kH e.val f.val s) (fun s=>Oe es bB s) none) none) none) none=some bq:=h;obtain⟨aC,h⟩:=oi h;obtain⟨e2,h⟩:=oi h;obtain⟨s1,J,h⟩:=td h;obtain⟨s2,U,h⟩:=td h;obtain⟨jC,hB,mb⟩:=IC _ _ _ _ ah J;obtain⟨cv,cF,dU⟩:=IC _ _ _ _ jC U;obtain⟨n1,qj,vf⟩:=YG es bB s2 bq cv h;exact⟨n1,(hB.trans cF).trans qj,.cons ⟨nB _ _ e2,mb.mono (cF.trans qj),dU.mono qj,dD aC⟩ vf⟩
def uW(o p:bt)(s:dc):am dc:=
 match o,p with
 |.cells cs e bg a8,.cells ds bL eA ui=>cond (Nat.beq e bL) (cond (Nat.beq bg.1 eA.1) (cond (Nat.beq bg.2 eA.2) (cond (Ls a8 ui) (yV cs ds s) none) none) none) none
 |.map es c,.map bB bE=>cond (Nat.beq c bE) (Oe es bB s) none
 |_,_=>none
def YM{o p:bt}{s bq:dc}(ah:s.cV)(h:uW o p s=some bq):bq.cV∧s.le bq∧k4 bq.R o p:=by
 unfold uW at h;split at h
 ·rename_i cs e bg a8 ds bL eA ui;obtain⟨aC,h⟩:=oi h;obtain⟨e2,h⟩:=oi h;obtain⟨b3,h⟩:=oi h;obtain⟨fo,h⟩:=oi h;obtain⟨jC,hB,mb⟩:=IB _ _ _ _ ah h;have:bg=eA:=Prod.ext (dD e2) (dD b3);subst this;rw[dD aC,RK fo];exact⟨jC,hB,.cells _ _ _ _ _ mb⟩
 ·obtain⟨aC,h⟩:=oi h;obtain⟨jC,hB,mb⟩:=YG _ _ _ _ ah h;rw[dD aC];exact⟨jC,hB,.map _ _ _ mb⟩
 ·cases h
def IA(h:ao bt)(os:ac bt):Nat->dc->am dc:=
 List.rec (motive:=fun _=>Nat->dc->am dc) (fun _ s=>some s)
  (fun o _ a7 i s=>bk (s.b6.get i) (fun j=>bk (h.get j) (fun p=>bk (uW o p s) (fun s=>gm (Nat.succ i) fun iz=>a7 iz s) none) none) none) os
theorem YH{H:ao bt}:∀(os:ac bt) (i:Nat) (s bq:dc),s.cV->IA H os i s=some bq->
 bq.cV∧s.le bq∧∀k (ab:k<os.length),∃j p,bq.R (i+k) j∧H.get j=some p∧k4 bq.R os[k] p
 |[],i,s,bq,ah,h=>by cases h;exact⟨ah,.refl _,fun k ab=>by simp at ab⟩
 |o::os,i,s,bq,ah,h=>by
  have h:bk (s.b6.get i) (fun j=>bk (H.get j) (fun p=>bk (uW o p s) (fun s=>gm (Nat.succ i) fun iz=>IA H os iz s) none) none) none=some bq:=h;obtain⟨j,J,h⟩:=td h;obtain⟨p,U,h⟩:=td h;obtain⟨s1,ag,h⟩:=td h;unfold gm at h;rw[zaz]at h;have h:IA H os (i+1) s1=some bq:=h;obtain⟨jC,hB,mb⟩:=YM ah ag;obtain⟨cv,cF,dU⟩:=YH os (i+1) s1 bq jC h;refine⟨cv,hB.trans cF,fun k ab=> ?_⟩;cases k with
  |zero=>exact⟨j,p,(hB.trans cF) _ _ J,U,mb.mono cF⟩
  |succ k=>
   obtain⟨NT,dO,g1,aM,bc⟩:=dU k (by simpa using ab);exact⟨NT,dO,by rw[show i+(k+1)=i+1+k by omega];exact g1,aM,by simpa using bc⟩
def lL(b6:ao Nat)(fH dH i:Nat):Nat:=bk (b6.get i) (fun j=>j) (Nat.add dH (Nat.sub i fH))
section
variable(b6:ao Nat)(fH dH:Nat)
def PA{β:Type}(a:am Addr)(k:am Addr->am β):am β:=
 Option.rec (motive:=fun _=>am β) (k none) (fun a=>Option.rec (motive:=fun _=>am β) (gm (lL b6 fH dH a.block) fun b=>k (some ⟨b,a.off,none⟩)) (fun _=>none) a.spot) a
mutual
def ka:be->am be
 |.pointer a=>PA b6 fH dH a fun b=>some (.pointer b)
 |.slice a n c=>PA b6 fH dH a fun b=>some (.slice b n c)
 |.map a=>Option.rec (motive:=fun _=>am be) (some (.map none)) (fun i=>gm (lL b6 fH dH i) fun j=>some (.map (some j))) a
 |.func f xs us=>aa4 f fun g=>bk (BR xs) (fun av=>bk (BR us) (fun vs=>some (.func (.func g) ⟨av⟩ ⟨vs⟩)) none) none
 |.iface t v=>bk (ka v) (fun w=>some (.iface t w)) none
 |.agg xs=>bk (BR xs) (fun av=>some (.agg ⟨av⟩)) none
 |.tuple xs=>bk (BR xs) (fun av=>some (.tuple ⟨av⟩)) none
 |.bool b=>some (.bool b)
 |.int k n=>some (.int k n)
 |.string s=>some (.string s)
 |.nilFunc=>some .nilFunc
 |.nilIface=>some .nilIface
 |.chan c=>aa2 c
 |_=>none
def BR:ap be->am (ac be)
 |⟨xs⟩=>BS xs
def BS:ac be->am (ac be)
 |[]=>some []
 |x::xs=>bk (ka x) (fun y=>bk (BS xs) (fun av=>some (y::av)) none) none
end
variable{β:Type}
def en{α:Type}{o:am α}{k:α->am β}{b:β}(h:bk o k none=some b):∃a,o=some a∧k a=some b:=gh h (by simp)
def aa1{a:am Addr}{k:am Addr->am β}{b:β}(h:PA b6 fH dH a k=some b):
 (a=none∧k none=some b)∨∃p,a=some p∧p.spot=none∧k (some ⟨lL b6 fH dH p.block,p.off,none⟩)=some b:=by
 cases a with
 |none=>exact .inl ⟨rfl,h⟩
 |some p=>
  obtain⟨OX,y9,ps⟩:=p;cases ps with
  |some x=>cases h
  |none=>
   have h:gm (lL b6 fH dH OX) (fun b=>k (some ⟨b,y9,none⟩))=some b:=h;unfold gm at h;rw[zaz]at h;exact .inr ⟨_,rfl,rfl,h⟩
mutual
theorem Ff:∀(v w:be),ka b6 fH dH v=some w->gk (fun i j=>j=lL b6 fH dH i) v w
 |.bool b,w,h=>by rw[ka]at h;cases h;exact .bool b
 |.int k n,w,h=>by rw[ka]at h;cases h;exact .int k n
 |.float k n,w,h=>by rw[ka]at h<;>first|cases h|simp
 |.complex k n m,w,h=>by rw[ka]at h<;>first|cases h|simp
 |.string s,w,h=>by rw[ka]at h;cases h;exact .string s
 |.pointer a,w,h=>by
  rw[ka]at h;rcases aa1 b6 fH dH h with⟨rfl,h⟩|⟨p,rfl,ah,h⟩
  ·cases h;exact .ns
  ·cases h;exact .ptr _ _ rfl rfl ah rfl
 |.slice a n c,w,h=>by
  rw[ka]at h;rcases aa1 b6 fH dH h with⟨rfl,h⟩|⟨p,rfl,ah,h⟩
  ·cases h;exact .nw _ _
  ·cases h;exact .gN _ _ _ _ rfl rfl ah rfl
 |.map a,w,h=>by
  rw[ka]at h;cases a with
  |none=>cases h;exact .pj
  |some i=>
   have h:gm (lL b6 fH dH i) (fun j=>some (Value.map (some j)))=some w:=h;unfold gm at h;rw[zaz]at h;cases h;exact .map _ _ rfl
 |.func f xs us,w,h=>by
  rw[ka]at h;unfold aa4 at h;split at h
  ·obtain⟨av,J,h⟩:=en h;obtain⟨vs,U,h⟩:=en h;cases h;exact .Tz (JS xs av J) (JS us vs U)
  ·cases h
 |.nilFunc,w,h=>by rw[ka]at h;cases h;exact .nilFunc
 |.nilIface,w,h=>by rw[ka]at h;cases h;exact .nilIface
 |.iface t v,w,h=>by
  rw[ka]at h;obtain⟨y,J,h⟩:=en h;cases h;exact .iface _ _ _ (Ff v y J)
 |.agg xs,w,h=>by
  rw[ka]at h;obtain⟨av,J,h⟩:=en h;cases h;exact .QV (JS xs av J)
 |.tuple xs,w,h=>by
  rw[ka]at h;obtain⟨av,J,h⟩:=en h;cases h;exact .tuple' (JS xs av J)
 |.chan c,w,h=>by
  rw[ka]at h;unfold aa2 at h;split at h
  ·cases h;exact .chan _
  ·cases h
theorem JS:∀(xs:ap be) (av:ac be),BR b6 fH dH xs=some av->kP (fun i j=>j=lL b6 fH dH i) xs.toList av
 |⟨xs⟩,av,h=>by rw[BR]at h;exact PC xs av h
theorem PC:∀(xs av:ac be),BS b6 fH dH xs=some av->kP (fun i j=>j=lL b6 fH dH i) xs av
 |[],av,h=>by rw[BS]at h;cases h;exact .nil _
 |x::xs,av,h=>by
  rw[BS]at h;obtain⟨y,J,h⟩:=en h;obtain⟨jo,U,h⟩:=en h;cases h;exact .cons (Ff x y J) (PC xs jo U)
end
def PB(es:ac d8):am (ac d8):=
 List.rec (motive:=fun _=>am (ac d8)) (some [])
  (fun e _ r=>bk (ka b6 fH dH e.key) (fun k=>cond (dJ e.key k) (bk (ka b6 fH dH e.val) (fun v=>bk r (fun es=>some (⟨k,v,e.born⟩::es)) none) none) none) none) es
theorem aa3:∀(es bB:ac d8),PB b6 fH dH es=some bB->jG (pD (fun i j=>j=lL b6 fH dH i)) es bB
 |[],bB,h=>by cases h;exact .nil
 |e::es,bB,h=>by
  have h:bk (ka b6 fH dH e.key) (fun k=>cond (dJ e.key k) (bk (ka b6 fH dH e.val) (fun v=>bk (PB b6 fH dH es) (fun es=>some (⟨k,v,e.born⟩::es)) none) none) none) none=some bB:=h;obtain⟨k,J,h⟩:=en h;cases ab:dJ e.key k with
  |false=>rw[ab]at h;cases h
  |true=>
   rw[ab]at h;obtain⟨v,U,h⟩:=en (o:=ka b6 fH dH e.val) h;obtain⟨gs,ag,h⟩:=en h;cases h;exact .cons ⟨nB _ _ ab,Ff _ _ _ _ _ J,Ff _ _ _ _ _ U,rfl⟩ (aa3 es gs ag)
def BU(o:bt):am bt:=
 match o with
 |.cells cs e bg a8=>bk (BS b6 fH dH cs) (fun ds=>some (.cells ds e bg a8)) none
 |.map es c=>bk (PB b6 fH dH es) (fun bB=>some (.map bB c)) none
 |.dead=>some .dead
 |_=>none
def arE{o p:bt}(h:BU b6 fH dH o=some p):(o= .dead∧p= .dead)∨k4 (fun i j=>j=lL b6 fH dH i) o p:=by
 unfold BU at h;split at h
 ·obtain⟨ds,J,h⟩:=en h;cases h;exact .inr (.cells _ _ _ _ _ (PC _ _ _ _ _ J))
 ·obtain⟨bB,J,h⟩:=en h;cases h;exact .inr (.map _ _ _ (aa3 _ _ _ _ _ J))
 ·cases h;exact .inl ⟨rfl,rfl⟩
 ·cases h
def Fe(aF:Nat)(us:ac (Nat×bt)):ao bt->am (ao bt):=
 List.rec (motive:=fun _=>ao bt->am (ao bt)) (fun h=>some h)
  (fun u _ a7 h=>cond (Nat.ble aF u.1) (gm (lL b6 fH dH u.1) fun j=>bk (BU b6 fH dH u.2) (fun p=>ao.fin (ao.kY (Nat.succ j) h j p) a7) none) none) us
end
def kL(us:ac (Nat×bt)):ao bt->ao bt:=
 List.rec (motive:=fun _=>ao bt->ao bt) (fun h=>h) (fun u _ a7 h=>ao.fin (ao.kY (Nat.succ u.1) h u.1 u.2) a7) us
def BA(os:ac bt):Nat->ao bt->ao bt:=
 List.rec (motive:=fun _=>Nat->ao bt->ao bt) (fun _ h=>h) (fun o _ a7 i h=>gm (Nat.succ i) fun iz=>ao.fin (ao.kY iz h i o) fun aG=>a7 iz aG) os
def yU(h:ao bt)(os:ac (Nat×bt)):dc->am dc:=
 List.rec (motive:=fun _=>dc->am dc) (fun s=>some s)
  (fun o _ a7 s=>bk (s.b6.get o.1) (fun j=>bk (h.get j) (fun p=>bk (uW o.2 p s) a7 none) none) none) os
theorem YI{H:ao bt}:∀(os:ac (Nat×bt)) (s bq:dc),s.cV->yU H os s=some bq->
 bq.cV∧s.le bq∧∀o∈os,∃j p,bq.R o.1 j∧H.get j=some p∧k4 bq.R o.2 p
 |[],s,bq,ah,h=>by cases h;exact⟨ah,.refl _,fun o al=>by cases al⟩
 |o::os,s,bq,ah,h=>by
  have h:bk (s.b6.get o.1) (fun j=>bk (H.get j) (fun p=>bk (uW o.2 p s) (yU H os) none) none) none=some bq:=h;obtain⟨j,J,h⟩:=td h;obtain⟨p,U,h⟩:=td h;obtain⟨s1,ag,h⟩:=td h;obtain⟨jC,hB,mb⟩:=YM ah ag;obtain⟨cv,cF,dU⟩:=YI os s1 bq jC h;refine⟨cv,hB.trans cF,fun bh hx=> ?_⟩;rcases zak.1 hx with rfl|hx
  ·exact⟨j,p,(hB.trans cF) _ _ J,U,mb.mono cF⟩
  ·exact dU bh hx
theorem OF:∀(os:ac bt) (i:Nat) (h:ao bt) (k:Nat),(BA os i h).get k=if i<=k∧k<i+os.length then os[k-i]? else h.get k
 |[],i,h,k=>by rw[zaa (by simp)];rfl
 |o::os,i,h,k=>by
  have e:BA (o::os) i h=BA os (i+1) (h.set i o):=by
   show gm (Nat.succ i) (fun iz=>ao.fin (ao.kY iz h i o) fun aG=>BA os iz aG)=_;unfold gm;rw[zaz];show ao.fin (ao.kY (Nat.succ i) h i o) (fun aG=>BA os (i+1) aG)=_;rw[ao.pY,ao.xb]
  rw[e,OF os (i+1) _ k,ao.eJ];by_cases ab:k=i
  ·subst ab;rw[zaa (by omega),zab rfl,zab (by simp)];simp
  ·rw[zaa ab];by_cases J:i+1<=k∧k<i+1+os.length
   ·rw[zab J,zab (by simp;omega)];have:k-i=(k-(i+1))+1:=by omega
    rw[this];simp
   ·rw[zaa J,zaa (by simp;omega)]
def Kr(u:Nat×bt)(us:ac (Nat×bt))(h:ao bt):kL (u::us) h=kL us (h.set u.1 u.2):=by
 show ao.fin (ao.kY (Nat.succ u.1) h u.1 u.2) (kL us)=_;rw[ao.pY,ao.xb]
theorem Cp:∀(us:ac (Nat×bt)) (h:ao bt) (k:Nat) (o:bt),(kL us h).get k=some o->(k,o)∈us∨h.get k=some o
 |[],_,_,_,e=>.inr e
 |u::us,h,k,o,e=>by
  rw[Kr]at e;rcases Cp us _ k o e with hm|hm
  ·exact .inl (zaI _ hm)
  ·rw[ao.eJ]at hm;by_cases ab:k=u.1
   ·rw[zab ab]at hm;cases hm;subst ab;exact .inl (by simp)
   ·rw[zaa ab]at hm;exact .inr hm
structure cW where
 as:ac be
 gs:ac (Nat×bt)
 pV:ac bt
 v:be
 hd:ac (Nat×bt)
 aH:Nat
def cW.c7(r:cW)(aF:Nat):ao bt:=BA r.pV aF (kL r.gs .nil)
def cW.row(r:cW)(aF:Nat):Row:=⟨r.as,⟨r.c7 aF,Nat.add aF (db r.pV)⟩,r.v,⟨kL r.hd (r.c7 aF),r.aH⟩⟩
def cW.app(aK:dc)(r:cW)(as:ac be)(st:ay):am dh:=
 bk (yV r.as as aK) (fun s=>bk (yU st.h r.gs s) (fun s=>bk (IA st.h r.pV aK.bd s) (fun s=>cond (Nat.beq s.bd (Nat.add aK.bd (db r.pV))) (cond (Nat.ble s.bd r.aH)
  (bk (ka s.b6 s.bd st.ai r.v) (fun v=>bk (Fe s.b6 s.bd st.ai aK.bd r.hd st.h) (fun h=>gm (Nat.add st.ai (Nat.sub r.aH s.bd)) fun n=>some (.ret v ⟨h,n⟩ false)) none) none) none) none) none) none) none
structure KJ(oU:Nat->Nat)(H:ao bt)(ai aF:Nat)(h0 aE hc:ao bt):Prop where
 obj:∀j o,hc.get j=some o->o≠.dead->(∃i p,j=oU i∧aE.get i=some p∧k4 (fun i j=>j=oU i) p o)∨((∀i,aE.get i≠none->oU i≠j)∧H.get j=some o)
 mz:∀j,hc.get j≠none->j<ai∨∃i,j=oU i∧aE.get i≠none
 pV:∀i,h0.get i≠none->aE.get i≠none
 WD:∀i,i<aF->aE.get i≠none->h0.get i≠none
theorem aa5{b6:ao Nat}{fH dH:Nat}{H:ao bt}{ai aF:Nat}{h0:ao bt}:∀(us:ac (Nat×bt)) (aE hc nQ:ao bt),KJ (lL b6 fH dH) H ai aF h0 aE hc->
 Fe b6 fH dH aF us hc=some nQ->KJ (lL b6 fH dH) H ai aF h0 (kL us aE) nQ
 |[],aE,hc,nQ,nb,h=>by cases h;exact nb
 |u::us,aE,hc,nQ,nb,h=>by
  have h:cond (Nat.ble aF u.1) (gm (lL b6 fH dH u.1) (fun j=>bk (BU b6 fH dH u.2) (fun p=>ao.fin (ao.kY (Nat.succ j) hc j p) (Fe b6 fH dH aF us)) none)) none=some nQ:=h;cases hu:Nat.ble aF u.1 with
  |false=>rw[hu]at h;cases h
  |true=>
  rw[hu]at h;have hu:=jF hu;have h:gm (lL b6 fH dH u.1) (fun j=>bk (BU b6 fH dH u.2) (fun p=>ao.fin (ao.kY (Nat.succ j) hc j p) (Fe b6 fH dH aF us)) none)=some nQ:=h;unfold gm at h;rw[zaz]at h;obtain⟨p,J,h⟩:=en (o:=BU b6 fH dH u.2) h;rw[ao.pY,ao.xb]at h;rw[Kr];refine aa5 us _ _ _ ⟨fun j o hj aA=> ?_,fun j hj=> ?_,fun i af=> ?_,fun i af hh=> ?_⟩ h
  ·rw[ao.eJ]at hj;by_cases kj:j=lL b6 fH dH u.1
   ·rw[zab kj]at hj;cases hj;rcases arE _ _ _ J with⟨_,hH⟩|ane
    ·exact absurd hH aA
    ·exact .inl ⟨u.1,u.2,kj,by rw[ao.nP],ane⟩
   ·rw[zaa kj]at hj;rcases nb.obj j o hj aA with⟨i,q,aC,e2,b3⟩|⟨aC,e2⟩
    ·refine .inl ⟨i,q,aC,?_,b3⟩;rw[ao.eJ,zaa]
     ·exact e2
     ·intro e;subst e;exact kj aC
    ·refine .inr ⟨fun i af ah=> ?_,e2⟩;rw[ao.eJ]at af;by_cases eG:i=u.1
     ·subst eG;exact kj ah.symm
     ·rw[zaa eG]at af;exact aC i af ah
  ·rw[ao.eJ]at hj;by_cases kj:j=lL b6 fH dH u.1
   ·exact .inr ⟨u.1,kj,by rw[ao.nP];simp⟩
   ·rw[zaa kj]at hj;rcases nb.mz j hj with aN|⟨i,aC,e2⟩
    ·exact .inl aN
    ·refine .inr ⟨i,aC,?_⟩;rw[ao.eJ];split
     ·simp
     ·exact e2
  ·rw[ao.eJ];split
   ·simp
   ·exact nb.pV i af
  ·rw[ao.eJ,zaa (by omega)]at hh;exact nb.WD i af hh
variable{X:Ctx}
def Q1{f:ci}{r:cW}(aE:eo X f (r.row X.aF)){aK:dc}(sW:aK.cV)(pa:aK.bd=X.aF)(aR:∀g,g<X.aF->aK.b6.get g=some g){as:ac be}{st:ay}{fr:dh}(h:r.app aK as st=some fr)
 (ι:bs) (as':ac be) (w:co) (ha:bJ ι as as') (hw:bo X ι st w):
 (∀as w,(callFunc f as).run X.P w= .ok (.enter f as) w)∧
 ∀(K:CallKind) (bb:Bool->ac Frame),jX ⟨f,K,none⟩ none ι bb->h5 X ι w ⟨f,K,none⟩ bb (lone (Frame.enter X.P f as'.toArray K) (bb false) w) fr:=by
 unfold cW.app at h;obtain⟨s1,J,h⟩:=en h;obtain⟨s2,alK,h⟩:=en h;obtain⟨s,U,h⟩:=en h;obtain⟨fa,fR,m6⟩:=IB _ _ _ _ sW J;obtain⟨d1,d2,d3⟩:=YI _ _ _ fa alK;obtain⟨c3,dP,jY⟩:=YH _ _ _ _ d1 U;rw[pa]at h jY;cases hc:Nat.beq s.bd (Nat.add X.aF (db r.pV))with
 |false=>rw[hc]at h;cases h
 |true=>
 cases l0:Nat.ble s.bd r.aH with
 |false=>rw[hc,l0]at h;cases h
 |true=>
 rw[hc,l0]at h;have DK:s.bd=X.aF+r.pV.length:=by rw[<-fg];exact dD hc
 have awN:s.bd<=r.aH:=jF l0;obtain⟨v,ag,h⟩:=en (o:=ka s.b6 s.bd st.ai r.v) h;obtain⟨hp,az,h⟩:=en (o:=Fe s.b6 s.bd st.ai X.aF r.hd st.h) h;unfold gm at h;rw[zaz]at h;have h:some (dh.ret v ⟨hp,st.ai+(r.aH-s.bd)⟩ false)=some fr:=h;cases h;have DP:∀g,g<X.aF->s.b6.get g=some g:=fun g sR=>dP _ _ (d2 _ _ (fR _ _ (aR g sR)));have aN:∀j l,ι j=some l->j<st.ai:=by
  intro j l e;rcases zai j st.ai with aN|mG
  ·exact aN
  ·rw[(hw.fresh j mG).1]at e;cases e
 have wD:∀i o,(r.c7 X.aF).get i=some o->∃j p,s.b6.get i=some j∧st.h.get j=some p∧k4 s.R o p:=by
  intro i o al;unfold cW.c7 at al;rw[OF]at al;split at al
  ·rename_i af;obtain⟨qL,rfl⟩:=zaf.1 al;obtain⟨j,p,aC,e2,b3⟩:=jY (i-X.aF) qL;rw[show X.aF+(i-X.aF)=i by omega]at aC;exact⟨j,p,aC,e2,b3⟩
  ·rcases Cp _ _ _ _ al with hm|hm
   ·obtain⟨j,p,aC,e2,b3⟩:=d3 _ hm;exact⟨j,p,dP _ _ aC,e2,b3.mono dP⟩
   ·simp at hm
 have MS:∀i,X.aF<=i->i<s.bd->∃o,(r.c7 X.aF).get i=some o:=by
  intro i af l3;unfold cW.c7;rw[OF,zab (by omega),bm (by omega)];exact⟨_,rfl⟩
 have Xz:∀i,i<s.bd->∃j l,s.b6.get i=some j∧ι j=some l:=by
  intro i af;rcases zai i X.aF with hn|hn
  ·exact⟨i,_,DP i hn,hw.mB i hn⟩
  ·obtain⟨o,al⟩:=MS i hn af;obtain⟨j,p,aC,e2,b3⟩:=wD i o al;obtain⟨l,fo,_⟩:=hw.ez j p e2 b3.live.2;exact⟨j,l,aC,fo⟩
 have awM:X.aF<=s.bd:=by omega
 let gi:bs:=fun i=>match s.b6.get i with|some j=>ι j|none=>none
 have yK:∀i j,s.b6.get i=some j->gi i=ι j:=by
  intro i j e;show(match s.b6.get i with|some j=>ι j|none=>none)=_;rw[e]
 have yL:∀i l,gi i=some l->∃j,s.b6.get i=some j∧ι j=some l:=by
  intro i l e;have e:(match s.b6.get i with|some j=>ι j|none=>none)=some l:=e;split at e
  ·rename_i j hj;exact⟨j,hj,e⟩
  ·cases e
 have uq:∀j i l,(fun j i=>s.R i j) j i->ι j=some l->gi i=some l:=fun j i l cT hl=>by rw[yK i j cT];exact hl
 have al5:bo X gi (r.row X.aF).st w:=by
  refine⟨fun i o al aA=> ?_,fun i j o p l m af h3 hj iy hv iP aR e=> ?_,fun i af=> ?_,fun i l hl=> ?_,fun g sR=> ?_,?_,fun i l o hl ah al aA=> ?_⟩
  ·obtain⟨j,p,aC,e2,b3⟩:=wD i o al;obtain⟨l,fo,lY⟩:=hw.ez j p e2 b3.live.2;exact⟨l,by rw[yK i j aC];exact fo,b3.symm.Zv uq lY⟩
  ·obtain⟨i2,jC,aC,e2,b3⟩:=wD i o af;obtain⟨iT,hB,g1,aM,bc⟩:=wD j p hj;rw[yK i i2 aC]at hv;rw[yK j iT g1]at iP;have:=hw.inj i2 iT jC hB l m e2 b3.live.2 aM bc.live.2 hv iP aR e;subst this;have cv:=(c3.iff _ _).1 aC;have cF:=(c3.iff _ _).1 g1;rw[cv]at cF;exact Option.some.inj cF
  ·have af:X.aF+db r.pV<=i:=af;rw[fg,<-DK]at af;refine⟨?_,?_⟩
   ·cases e:gi i with
    |none=>rfl
    |some l=>
     obtain⟨j,hj,_⟩:=yL i l e;have:=c3.mz _ _ hj;omega
   ·cases e:(r.row X.aF).st.h.get i with
    |none=>rfl
    |some o=>
     obtain⟨j,_,aC,_⟩:=wD i o e;have:=c3.mz _ _ aC;omega
  ·obtain⟨j,_,cx⟩:=yL i l hl;exact hw.g5 j l cx
  ·rw[yK g g (DP g sR)];exact hw.mB g sR
  ·exact zcj _ _
  ·obtain⟨j,p,aC,e2,b3⟩:=wD i o al;rw[yK i j aC]at hl;exact b3.wv.2 (hw.mc j l p hl ah e2 b3.live.2)
 have Ho:bJ gi r.as as':=((m6.mono d2).mono dP).symm.avo uq ha;obtain⟨cv,cF⟩:=aE gi as' w Ho al5;refine⟨cv,fun K bb pf=> ?_⟩;obtain⟨k2,v',w',F,ba,bx,dE,uR,Il,aoF,aoG⟩:=cF K bb pf;have bx:bo X k2 ⟨kL r.hd (r.c7 X.aF),r.aH⟩ w':=bx
 let oU:Nat->Nat:=lL s.b6 s.bd st.ai
 have Ba:∀i j,s.b6.get i=some j->oU i=j:=by
  intro i j e;show bk (s.b6.get i) (fun j=>j) _=j;rw[e];rfl
 have XM:∀i,s.bd<=i->oU i=st.ai+(i-s.bd):=by
  intro i af;show bk (s.b6.get i) (fun j=>j) _=_;cases e:s.b6.get i with
  |none=>rfl
  |some j=>have:=c3.mz _ _ e;omega
 let aS:bs:=fun j=>if j<st.ai then ι j else k2 (s.bd+(j-st.ai))
 have Ia:∀j,j<st.ai->aS j=ι j:=fun j hj=>zab hj;have Ib:∀j,st.ai<=j->aS j=k2 (s.bd+(j-st.ai)):=fun j hj=>zaa (by omega);have hle:ι.le aS:=fun j l e=>by rw[Ia j (aN j l e)];exact e
 have yf:∀i j l,(fun i j=>j=oU i) i j->k2 i=some l->aS j=some l:=by
  intro i j l e hl;have e:j=oU i:=e;subst e;rcases zai i s.bd with af|af
  ·obtain⟨j,j6,aC,fo⟩:=Xz i af;have:=dE.le i j6 (by rw[yK i j aC];exact fo);rw[hl]at this;cases this;rw[Ba i j aC,Ia j (aN j _ fo)];exact fo
  ·rw[XM i af,Ib _ (by omega),show s.bd+(st.ai+(i-s.bd)-st.ai)=i by omega];exact hl
 have alY:KJ oU st.h st.ai X.aF (r.c7 X.aF) (r.c7 X.aF) st.h:=by
  refine⟨fun j o hj aA=> ?_,fun j hj=> ?_,fun i af=>af,fun i _ af=>af⟩
  ·by_cases hex:∃i,(r.c7 X.aF).get i≠none∧oU i=j
   ·obtain⟨i,af,e⟩:=hex;cases eG:(r.c7 X.aF).get i with
    |none=>exact absurd eG af
    |some bh=>
     obtain⟨iT,p,aC,e2,b3⟩:=wD i bh eG;have:iT=j:=by rw[<-e];exact(Ba i iT aC).symm
     subst this;rw[hj]at e2;cases e2;exact .inl ⟨i,bh,e.symm,eG,b3.mono fun a b ib=>(Ba a b ib).symm⟩
   ·exact .inr ⟨fun i af e=>hex ⟨i,af,e⟩,hj⟩
  ·left;rcases zai j st.ai with qL|mG
   ·exact qL
   ·exact absurd (hw.fresh j mG).2 hj
 have nb:=aa5 r.hd _ _ _ alY az;have hold:∀a l,(kL r.hd (r.c7 X.aF)).get a≠none->gi a=some l->∃j p,s.b6.get a=some j∧st.h.get j=some p∧p≠.dead∧ι j=some l:=by
  intro a l qH hl;obtain⟨j,aC,e2⟩:=yL a l hl;have MD:=c3.mz _ _ aC;have:∃o,(r.c7 X.aF).get a=some o:=by
   rcases zai a X.aF with hn|hn
   ·cases eG:(r.c7 X.aF).get a with
    |none=>exact absurd eG (nb.WD a hn qH)
    |some o=>exact⟨o,rfl⟩
   ·exact MS a hn MD
  obtain⟨o,al⟩:=this;obtain⟨iT,p,g1,aM,bc⟩:=wD a o al;rw[aC]at g1;cases g1;exact⟨j,p,aC,aM,bc.live.2,e2⟩
 have WW:∀j o l,st.h.get j=some o->o≠.dead->ι j=some l->(∀i,(kL r.hd (r.c7 X.aF)).get i≠none->oU i≠j)->∀i l',gi i=some l'->l'.bR≠h1->l'.cH≠l.cH:=by
  intro j o l al aA hl ae i l' cx ah e;have mI:(kL r.hd (r.c7 X.aF)).get i≠none:=by
   obtain⟨iT,aC,e2⟩:=yL i l' cx;have MD:=c3.mz _ _ aC;rcases zai i X.aF with hn|hn
   ·exfalso;rw[DP i hn]at aC;cases aC;rw[hw.mB i hn]at e2;cases e2;exact ah rfl
   ·obtain⟨bh,hx⟩:=MS i hn MD;exact nb.pV i (by rw[hx];simp)
  obtain⟨iT,p,aC,e2,b3,fo⟩:=hold i l' mI cx;have:=hw.inj iT j p o l' l e2 b3 al aA fo hl (.inl ah) e;subst this;exact ae i mI (Ba i iT aC)
 refine⟨aS,v',w',F,(Ff _ _ _ _ _ ag).FG yf ba,⟨fun j o hj aA=> ?_,fun i j o p l m af h3 hj iy hv iP aR e=> ?_,fun j hj=> ?_,fun j l hl=> ?_,fun g sR=> ?_,?_,fun j l o hl ah hj aA=> ?_⟩,⟨hle,dE.size,fun b hb gI=> ?_,fun j l hl=> ?_,dE.g9⟩,uR,Il,aoF,aoG⟩
 ·rcases nb.obj j o hj aA with⟨i,p,aC,e2,b3⟩|⟨aC,e2⟩
  ·obtain⟨l,g1,aM⟩:=bx.ez i p e2 b3.live.1;exact⟨l,yf i j l aC g1,b3.Zv yf aM⟩
  ·obtain⟨l,g1,aM⟩:=hw.ez j o e2 aA;refine⟨l,hle j l g1,kg.mono X aM hle ?_⟩;exact dE.kept l.cH (hw.g5 j l g1) (WW j o l e2 aA g1 aC)
 ·have key:∀i j o p l m,hp.get i=some o->o≠.dead->hp.get j=some p->p≠.dead->aS i=some l->aS j=some m->(l.bR≠h1∨m.bR≠h1)->l.cH=m.cH->
   (∃a q,i=oU a∧(kL r.hd (r.c7 X.aF)).get a=some q∧k4 (fun i j=>j=oU i) q o)->((∀a,(kL r.hd (r.c7 X.aF)).get a≠none->oU a≠j)∧st.h.get j=some p)->False:=by
   intro i j o p l m af h3 hj iy hv iP aR e ⟨a,q,aC,e2,b3⟩ ⟨g1,aM⟩;obtain⟨e6,e0,_⟩:=bx.ez a q e2 b3.live.1;have:=yf a i e6 aC e0;rw[hv]at this;cases this;obtain⟨eg,fT,_⟩:=hw.ez j p aM iy;have:=hle j eg fT;rw[iP]at this;cases this;rcases dE.new a l e0 with hn|hn|⟨b,fz,hL,lZ,p3⟩
   ·obtain⟨iT,hB,f1,f2,f3,f4⟩:=hold a l (by rw[e2];simp) hn;have:=hw.inj iT j hB p l m f2 f3 aM iy f4 fT aR e;subst this;exact g1 a (by rw[e2];simp) (Ba a iT f1)
   ·have:=hw.g5 j m fT;omega
   ·exact WW j p m aM iy fT g1 b fz hL lZ (by omega)
  rcases nb.obj i o af h3 with aa|aa<;>rcases nb.obj j p hj iy with aL|aL
  ·obtain⟨a,q,aC,e2,b3⟩:=aa;obtain⟨b,gn,g1,aM,bc⟩:=aL;obtain⟨e6,e0,_⟩:=bx.ez a q e2 b3.live.1;obtain⟨eg,fT,_⟩:=bx.ez b gn aM bc.live.1;have t1:=yf a i e6 aC e0;rw[hv]at t1;cases t1;have t2:=yf b j eg g1 fT;rw[iP]at t2;cases t2;have:=bx.inj a b q gn l m e2 b3.live.1 aM bc.live.1 e0 fT aR e;rw[aC,g1,this]
  ·exact(key i j o p l m af h3 hj iy hv iP aR e aa aL).elim
  ·exact(key j i p o m l hj iy af h3 iP hv aR.symm e.symm aL aa).elim
  ·obtain⟨e6,e0,_⟩:=hw.ez i o aa.2 h3;obtain⟨eg,fT,_⟩:=hw.ez j p aL.2 iy;have t1:=hle i e6 e0;rw[hv]at t1;cases t1;have t2:=hle j eg fT;rw[iP]at t2;cases t2;exact hw.inj i j o p l m aa.2 h3 aL.2 iy e0 fT aR e
 ·have hj:st.ai+(r.aH-s.bd)<=j:=hj;have Hy:∀i,r.aH<=i->k2 i=none∧(kL r.hd (r.c7 X.aF)).get i=none:=fun i af=>bx.fresh i af;refine⟨by rw[Ib j (by omega)];exact(Hy _ (by omega)).1,?_⟩;show hp.get j=none;cases e:hp.get j with
  |none=>rfl
  |some o=>
   exfalso;rcases nb.mz j (by rw[e];simp)with qL|⟨i,aC,e2⟩
   ·omega
   ·rcases zai i s.bd with af|af
    ·obtain⟨iT,j6,g1,cf⟩:=Xz i af;rw[show lL s.b6 s.bd st.ai i=iT from Ba i iT g1]at aC;have:=aN iT j6 cf;omega
    ·rw[show lL s.b6 s.bd st.ai i=st.ai+(i-s.bd)from XM i af]at aC;rcases zai i r.aH with l3|l3
     ·omega
     ·exact e2 (Hy i l3).2
 ·rcases zai j st.ai with hj|hj
  ·rw[Ia j hj]at hl;exact fM (hw.g5 j l hl) dE.size
  ·rw[Ib j hj]at hl;exact bx.g5 _ l hl
 ·exact hle _ _ (hw.mB g sR)
 ·exact zag hw.p1 (zcj _ _)
 ·rcases nb.obj j o hj aA with⟨a,q,aC,e2,b3⟩|⟨aC,e2⟩
  ·obtain⟨e6,e0,_⟩:=bx.ez a q e2 b3.live.1;have t1:=yf a j e6 aC e0;rw[hl]at t1;cases t1;exact b3.wv.1 (bx.mc a l q e0 ah e2 b3.live.1)
  ·obtain⟨e6,e0,_⟩:=hw.ez j o e2 aA;have t1:=hle j e6 e0;rw[hl]at t1;cases t1;exact hw.mc j l o e0 ah e2 aA
 ·refine dE.kept b hb fun i l hl ah=> ?_;obtain⟨j,_,cx⟩:=yL i l hl;exact gI j l cx ah
 ·rcases zai j st.ai with hj|hj
  ·rw[Ia j hj]at hl;exact .inl hl
  ·rw[Ib j hj]at hl;rcases dE.new _ l hl with hn|hn|⟨b,m,hL,lZ,p3⟩
   ·obtain⟨iT,aC,_⟩:=yL _ l hn;have:=c3.mz _ _ aC;omega
   ·exact .inr (.inl hn)
   ·obtain⟨iT,_,e2⟩:=yL b m hL;exact .inr (.inr ⟨iT,m,e2,lZ,p3⟩)
def x9(aK:dc)(as:ac be)(st:ay)(rs:ac (Nat×cW)):am dh:=
 List.rec (motive:=fun _=>am dh) none (fun r _ a7=>cond (Nat.beq r.1 st.ai) (bk (r.2.app aK as st) some a7) (cond (Nat.beq r.1 0) (bk (r.2.app aK as st) some a7) a7)) rs
theorem Tj{aK:dc}{as:ac be}{st:ay}:∀{rs:ac (Nat×cW)} {fr:dh},x9 aK as st rs=some fr->∃r∈rs,r.2.app aK as st=some fr
 |[],fr,h=>by cases h
 |r::rs,fr,h=>by
  have h:cond (Nat.beq r.1 st.ai) (bk (r.2.app aK as st) some (x9 aK as st rs)) (cond (Nat.beq r.1 0) (bk (r.2.app aK as st) some (x9 aK as st rs)) (x9 aK as st rs))=some fr:=h;have FB:x9 aK as st rs=some fr->∃dV∈r::rs,dV.2.app aK as st=some fr:=fun h=>by
   obtain⟨dV,J,U⟩:=Tj h;exact⟨dV,zaI _ J,U⟩
  have aA:bk (r.2.app aK as st) some (x9 aK as st rs)=some fr->∃dV∈r::rs,dV.2.app aK as st=some fr:=fun h=>by
   cases ha:r.2.app aK as st with
   |none=>rw[ha]at h;exact FB h
   |some x=>rw[ha]at h;cases h;exact⟨r,by simp,ha⟩
  cases hb:Nat.beq r.1 st.ai with
  |true=>rw[hb]at h;exact aA h
  |false=>
   rw[hb]at h;cases hc:Nat.beq r.1 0 with
   |true=>rw[hc]at h;exact aA h
   |false=>rw[hc]at h;exact FB h
end Go.ar
namespace Go.ar
variable{X:Ctx}
variable{n:Nat}{fs:m3}{aF:Nat}{f:ci}{r:cW}
def Bb(n:Nat):ao Nat:=Nat.rec (motive:=fun _=>ao Nat) .nil (fun m t=>ao.fin t fun t=>ao.kY (Nat.succ m) t m m) n
theorem Ep:∀(n i:Nat),(Bb n).get i=if i<n then some i else none
 |0,i=>by rw[zaa (by omega)];rfl
 |n+1,i=>by
  have e:Bb (n+1)=(Bb n).set n n:=by
   show ao.fin (Bb n) (fun t=>ao.kY (Nat.succ n) t n n)=_;rw[ao.pY,ao.xb]
  rw[e,ao.eJ,Ep n i];by_cases h:i=n
  ·subst h;rw[zab rfl,zab (by omega)]
  ·rw[zaa h];by_cases aG:i<n
   ·rw[zab aG,zab (by omega)]
   ·rw[zaa aG,zaa (by omega)]
def ash{s:dc}(J:s.b6=Bb n)(U:s.inv=Bb n)(ag:s.bd=n):s.cV∧s.bd=n∧∀g,g<n->s.b6.get g=some g:=by
 refine⟨⟨fun i j=> ?_,fun i j h=> ?_⟩,ag,fun g aR=> ?_⟩
 ·rw[J,U,Ep,Ep];by_cases af:i<n<;>by_cases hj:j<n<;>simp[af,hj]<;>omega
 ·rw[J,Ep]at h;rw[ag];by_cases af:i<n
  ·exact af
  ·rw[zaa af]at h;cases h
 ·rw[J,Ep,zab aR]
def cW.dL(r:cW)(aF:Nat)(aZ:ao cM)(fs:m3)(n f:Nat):Bool:=
 ao.fin (r.c7 aF) fun h=>ao.fin (kL r.hd h) fun aG=>gm (Nat.add aF (db r.pV)) fun m=>ar.dL (b9 aZ fs n (.func (.func f) #[] #[]) r.as none ⟨h,m⟩) r.v ⟨aG,r.aH⟩
def kr{aZ:ao cM}(c5:Good X)(gJ:lU X aZ)(pe:sB X fs)(h:r.dL aF aZ fs n f=true):eo X f (r.row aF):=by
 refine abw c5 gJ pe (n:=n) ?_;unfold cW.dL gm at h;rw[ao.pY,ao.pY,zaz]at h;exact h
def cW.lx(r:cW)(aF g:Nat)(el:ce)(c:Nat)(aZ:ao cM)(fs:m3)(n f:Nat):Bool:=
 ao.fin ((r.c7 aF).set g (.cells [.chan (some c)] el (0,1) false)) fun h=>ao.fin ((kL r.hd (r.c7 aF)).set g (.cells [.chan (some c)] el (0,1) false)) fun aG=>gm (Nat.add aF (db r.pV)) fun m=>
  ar.dL (b9 aZ fs n (.func (.func f) #[] #[]) r.as none ⟨h,m⟩) r.v ⟨aG,r.aH⟩
def mV{aZ:ao cM}(c5:Good X)(gJ:lU X aZ)(pe:sB X fs){g:Nat}{el:ce}{c:Nat}(h:r.lx aF g el c aZ fs n f=true):eo X f ((r.row aF).oD g el c):=by
 refine abw c5 gJ pe (n:=n) ?_;unfold cW.lx gm at h;rw[ao.pY,ao.pY,zaz]at h;exact h
def cW.pO(r:cW)(aF:Nat)(olds:ac Nat)(aZ:ao cM)(fs:m3)(n f:Nat)(xf:cM):Bool:=
 ao.fin (r.c7 aF) fun h=>ao.fin (kL r.hd h) fun aG=>gm (Nat.add aF (db r.pV)) fun m=>ar.pO olds m r.v ⟨aG,r.aH⟩ (CU (b9 aZ fs n) n f xf r.as ⟨h,m⟩)
def B7{aZ:ao cM}(c5:Good X)(gJ:lU X aZ)(pe:sB X fs){xf:cM}{olds:ac Nat}(aa:aZ.get f=some xf)(h:r.pO aF olds aZ fs n f xf=true):eo X f (r.row aF):=by
 refine ast c5 gJ pe (n:=n) (olds:=olds) aa ?_;unfold cW.pO gm at h;rw[ao.pY,ao.pY,zaz]at h;exact h
def assoc(t:ac (Nat×ac (Nat×cW)))(f:Nat):ac (Nat×cW):=
 List.rec (motive:=fun _=>ac (Nat×cW)) [] (fun p _ a7=>cond (Nat.beq p.1 f) p.2 a7) t
def sc(aK:dc)(t:ac (Nat×ac (Nat×cW))):m3:=fun f as st=>x9 aK as st (assoc t f)
def xK(X:Ctx)(f:Nat)(l:ac (Nat×cW)):Prop:=∀r∈l,eo X f (r.2.row X.aF)
def CD(X:Ctx)(t:ac (Nat×ac (Nat×cW))):Prop:=∀p∈t,xK X p.1 p.2
variable{l:ac (Nat×cW)}{t:ac (Nat×ac (Nat×cW))}
def ic{f:Nat}:xK X f []:=fun _ h=>by cases h
def cY{f:Nat}(h:eo X f (r.row X.aF))(ah:xK X f l):xK X f ((n,r)::l):=List.forall_mem_cons.2 ⟨h,ah⟩
def k0:CD X []:=fun _ h=>by cases h
def iB{f:Nat}(h:xK X f l)(ah:CD X t):CD X ((f,l)::t):=List.forall_mem_cons.2 ⟨h,ah⟩
theorem Rn:∀{t:ac (Nat×ac (Nat×cW))},CD X t->∀f,xK X f (assoc t f)
 |[],_,f=>ic
 |p::t,h,f=>by
  show xK X f (cond (Nat.beq p.1 f) p.2 (assoc t f));cases hb:Nat.beq p.1 f with
  |true=>rw[<-dD hb];exact h p (by simp)
  |false=>exact Rn (fun q hq=>h q (zaI _ hq)) f
def tj{aK:dc}(sW:aK.cV∧aK.bd=X.aF∧∀g,g<X.aF->aK.b6.get g=some g)(aW:CD X t):sB X (sc aK t):=by
 intro f as st r aE ι as' w ha hw _;obtain⟨row,hm,hh⟩:=Tj aE;exact Q1 (Rn aW f row hm) sW.1 sW.2.1 sW.2.2 hh ι as' w ha hw
def ae3{r:Row}(aE:eo X f r){ι:bs}{as':ac be}{w:co}(ha:bJ ι r.as as')(hw:bo X ι r.st w):
 Calls X.P f as'.toArray w (fun e w'=>∃aS v',e= .returned v'∧bp aS r.v v'∧bo X aS r.st' w'∧e3 ι aS w w'):=by
 intro cs;obtain⟨_,U⟩:=aE ι as' w ha hw;obtain⟨aS,v',w',F,J,U,ag,az,a4,cl,dn⟩:=U .normal (fun _=>cs) (fun F eK aw=>by
  have dp:F.kind= .normal:=aw;simp[tryRecover,dp])
 obtain⟨g1,aM,fn,bc,cf⟩:=cl;exact⟨.returned v',w',F,⟨aS,v',rfl,J,U,ag⟩,dn,a4,g1,aM,az,fn,bc,cf⟩
def Ie(n:Nat):bs:=fun i=>if i<n then some ⟨i,0,0,h1⟩else none
def vH(n:Nat)(W:co)(p:Nat×bt):Prop:=
 p.1<n∧∃cs el m C bg,p.2= .cells cs el (0,m) false∧0<m∧W.heap[p.1]? =some (.cells C el bg)∧bJ (Ie n) cs C.toList
def Ky{α β FL:Type}(f:α->β->am FL):ac α->ac β->am (ac FL)
 |[],[]=>some []
 |a::as,b::bT=>(f a b).bind fun c=>(Ky f as bT).map fun cs=>c::cs
 |_,_=>none
def Ab:Nat->ac (Nat×Nat)->Nat->Bool
 |o,[],n=>Nat.beq o n
 |o,p::r,n=>Nat.beq p.1 o&&Ab (o+p.2) r n
def Au(P:d9):Nat->ce->DataW Unit->am (ac be)
 |0,_,_=>none
 |n+1,t,d=>
  match P.underlying t,d with
  |some .bool,.lit (.bool b)=>some [.bool b]
  |some (.int _),.lit (.int k m)=>some [.int k m]
  |some .string,.lit (.string s)=>some [.string ⟨⟨s⟩⟩]
  |some (.struct bB),.agg ds=>if Ab 0 (bB.toList.map fun f=>(f.offset,P.cellsOf f.type)) (P.cellsOf t)then(Ky (fun(f:Field) d=>Au P n f.type d) bB.toList ds).map List.flatten else none
  |some (.array m e),.agg ds=>if Ab 0 ((List.range m).map fun i=>(i*P.cellsOf e,P.cellsOf e)) (P.cellsOf t)then(Ky (fun(_:Nat) d=>Au P n e d) (List.range m) ds).map List.flatten else none
  |_,_=>none
theorem GA(cs:ac be):∀(l:ac (Nat×Nat)) (o:Nat),Ab o l cs.length=true->cs.drop o=(l.map fun p=>(cs.drop p.1).take p.2).flatten
 |[],o,h=>by
  have:=dD h;rw[this];simp
 |p::r,o,h=>by
  unfold Ab at h;rw[bW]at h;have e:=dD h.1;rw[zaM,zdY,<-GA cs r (o+p.2) h.2,e,<-zbp,zbl]
theorem Qy{α:Type}{g:α->am (DataW Unit×ac MemPlace)}{k:α->DataW Unit->am (ac be)}{seg:α->ac be}
 (ab:∀a d p vs,g a=some (d,p)->k a d=some vs->seg a=vs):∀(as:ac α) (xs:ac (DataW Unit×ac MemPlace)) (Cs:ac (ac be)),as.mapM g=some xs->Ky k as (xs.map (·.1))=some Cs->as.map seg=Cs
 |[],xs,Cs,h,aG=>by
  simp at h;subst h;cases aG;rfl
 |a::as,xs,Cs,h,aG=>by
  rw[zdk]at h;obtain⟨x,aa,h⟩:=zbG.1 h;obtain⟨av,aL,h⟩:=zbG.1 h;cases h;obtain⟨vs,aC,aG⟩:=zbG.1 aG;obtain⟨avV,e2,rfl⟩:=zaO.1 aG;rw[zaM,ab a x.1 x.2 vs aa aC,Qy ab as av avV aL e2]
theorem Dx{P:d9}{w:co}{base:Nat}{sp:Nat->Bool}{held:Bool}:∀(fuel n:Nat) (t:ce) (cs:ac be) (d:DataW Unit) (p:ac MemPlace) (vs:ac be),
 DataW.trod (fun _=>()) P w base sp held fuel t cs=some (d,p)->Au P n t d=some vs->cs=vs
 |0,_,_,_,_,_,_,h,_=>by simp[DataW.trod]at h
 |_+1,0,_,_,_,_,_,_,h=>by simp[Au]at h
 |fuel+1,n+1,t,cs,d,p,vs,h,aG=>by
  unfold Au at aG;split at aG
  ·rename_i b hu;cases aG;simp only[DataW.trod,hu]at h;split at h<;>first|(rename_i hq;cases hq)|skip
   all_goals first|(cases h;rfl)|(simp at h)
  ·rename_i k k' m hu;cases aG;simp only[DataW.trod,hu]at h;split at h<;>first|(rename_i hq;cases hq)|skip
   all_goals first
    |(split at h
      ·rename_i hc;cases h;rw[hc.1]
      ·cases h)
    |(simp at h)
  ·rename_i s hu;cases aG;simp only[DataW.trod,hu]at h;split at h<;>first|(rename_i hq;cases hq)|skip
   all_goals first
    |(split at h
      ·cases h;rfl
      ·cases h)
    |(simp at h)
  ·rename_i bB ds hu;split at aG
   ·rename_i hc;obtain⟨Cs,aC,rfl⟩:=zaO.1 aG;simp only[DataW.trod,hu]at h;split at h
    ·rename_i hl;obtain⟨xs,e2,b3⟩:=zaO.1 h;cases b3;rw[<-hl]at hc;have fo:=GA cs _ 0 hc;rw[zap,zcm]at fo;have lY:=Qy (seg:=fun(f:Field)=>(cs.drop f.offset).take (P.cellsOf f.type)) (fun f d p vs J U=>Dx fuel n f.type _ d p vs J U) _ _ _ e2 aC;rw[<-lY];exact fo
    ·cases h
   ·cases aG
  ·rename_i m e ds hu;split at aG
   ·rename_i hc;obtain⟨Cs,aC,rfl⟩:=zaO.1 aG;simp only[DataW.trod,hu]at h;split at h
    ·rename_i hl;obtain⟨xs,e2,b3⟩:=zaO.1 h;cases b3;rw[<-hl]at hc;have fo:=GA cs _ 0 hc;rw[zap,zcm]at fo;have lY:=Qy (seg:=fun(i:Nat)=>(cs.drop (i*P.cellsOf e)).take (P.cellsOf e)) (fun i d p vs J U=>Dx fuel n e _ d p vs J U) _ _ _ e2 aC;rw[<-lY];exact fo
    ·cases h
   ·cases aG
  ·cases aG
theorem Yj{P:d9}{w:co}:∀{l:ac (String×DataW Unit)} {ps:ac MemPlace},DataW.LaidVars P w l ps->∀x∈l,∃g t cs fuel p,P.globalNamed x.1=some g∧(P.globals[g]?).map (·.type)=some t∧w.var? P x.1=some cs∧
 DataW.trod (fun _=>()) P w 0 (fun _=>true) false fuel t cs.toList=some (x.2,p)
 |[],_,_,x,aa=>by cases aa
 |(n,d)::r,ps,h,x,aa=>by
  obtain⟨g,t,cs,fuel,p,q,J,U,ag,az,a4,_⟩:=h;rcases zak.1 aa with rfl|aa
  ·exact⟨g,t,cs,fuel,p,J,U,ag,az⟩
  ·exact Yj a4 x aa
def Je:be->Bool
 |.bool _|.int _ _|.string _=>true
 |_=>false
def aqO{ι:bs}{v:be}(h:Je v=true):bp ι v v:=by
 cases v<;>first|(simp[Je]at h;done)|constructor
theorem aab{ι:bs}:∀{vs:ac be},vs.all Je=true->bJ ι vs vs
 |[],_=>.nil ι
 |v::vs,h=>by
  rw[List.all_cons,bW]at h;exact .cons (aqO h.1) (aab h.2)
def Hh{P:d9}{W:co}{l:ac (String×DataW Unit)}{ps:ac MemPlace}(hl:DataW.LaidVars P W l ps){g N:Nat}{name:String}{d:DataW Unit}{t el:ce}{vs:ac be}{m:Nat}
 (aa:(name,d)∈l) (aR:P.globalNamed name=some g) (aW:(P.globals[g]?).map (·.type)=some t) (ae:Au P n t d=some vs) (sR:g<N) (hm:0<m) (hp:vs.all Je=true)
 (A3:∃cs,W.heap[g]? =some (.cells cs el)):vH N W (g,.cells vs el (0,m) false):=by
 obtain⟨hk,hT,cs,fuel,p,J,U,ag,az⟩:=Yj hl _ aa;simp only at J ag az;rw[aR]at J;cases J;rw[aW]at U;cases U;obtain⟨C,hC⟩:=A3;have aD:C=cs:=by
  simp only[World.var?,aR,Option.bind_some,hC]at ag;exact Option.some.inj ag
 subst aD;refine⟨sR,vs,el,m,C,_,rfl,hm,hC,?_⟩;rw[Dx fuel n t _ d p vs az ae];exact aab hp
end Go.ar
namespace Go.ar
variable{Q:Nat->cM->Prop}
variable{i:Nat}
def acM(t:ao {p:Nat×cM //Q p.1 p.2}):ao cM:=
 ao.rec (motive:=fun _=>ao cM) .nil (fun _ v _ l r=>.node l (Option.rec (motive:=fun _=>am cM) none (fun p=>some p.1.2) v) r) t
def keyed:ao {p:Nat×cM //Q p.1 p.2}->(Nat->Nat)->Bool
 |.nil,_=>true
 |.node l v r,g=>(match v with|some p=>Nat.beq p.1.1 (g 0)|none=>true)&&(keyed l (fun n=>g (2*n+1))&&keyed r (fun n=>g (2*n+2)))
theorem P9:∀(t:ao {p:Nat×cM //Q p.1 p.2}) (g:Nat->Nat),keyed t g=true->ao.Cu Q (acM t) g
 |.nil,_,_=>trivial
 |.node l v r,g,h=>by
  unfold keyed at h;rw[bW,bW]at h;refine⟨?_,P9 l _ h.2.1,P9 r _ h.2.2⟩;cases v with
  |none=>trivial
  |some p=>
   have e:=dD h.1;show Q (g 0) p.1.2;rw[<-e];exact p.2
def bU(g:{b:cM //Q i b}):ao {p:Nat×cM //Q p.1 p.2}:=.node .nil (some ⟨(i,g.1),g.2⟩) .nil
def br(a:ao {p:Nat×cM //Q p.1 p.2})(g:{b:cM //Q i b})(b:ao {p:Nat×cM //Q p.1 p.2}):ao {p:Nat×cM //Q p.1 p.2}:=.node a (some ⟨(i,g.1),g.2⟩) b
def hJ(a b:ao {p:Nat×cM //Q p.1 p.2}):ao {p:Nat×cM //Q p.1 p.2}:=.node a none b
end Go.ar
namespace Go.ar.KC
inductive KR where
 |bool|int (k:IntKind)|str|a5 (e:Nat)|cq (n e:Nat)|st (l:List (Nat×Nat))|nr (e:Nat)|mp (k v:Nat)|fn|NK|up
inductive CC where
 |l
 |n (a:CC) (k:Nat) (d:KR) (s b:Nat) (c:CC)
def CC.get:CC->Nat->KR×Nat×Nat
 |.l,_=>(.up,0,0)
 |.n a k d s b c,t=>match Nat.blt t k with
  |true=>a.get t
  |false=>match Nat.beq t k with
   |true=>(d,s,b)
   |false=>c.get t
structure Env where
 kJ:Nat
 kV:Nat
 bd:Nat
 idx:Nat
 ma:Nat
 ty:CC
 mt:ac (String×ac (Nat×ci)):=[]
 Ol:am (Nat×Nat):=none
namespace Env
def YZ(C:Env)(n:String):ac (Nat×ci):=match C.mt.find? (fun p=>p.1==n)with
 |some p=>p.2
 |none=>[]
def d(C:Env)(t:Nat):KR:=(C.ty.get t).1
def s(C:Env)(t:Nat):Nat:=(C.ty.get t).2.1
def b(C:Env)(t:Nat):Nat:=(C.ty.get t).2.2
def g(C:Env)(t:Nat):Bool:=match C.d t with
 |.st _=>true
 |.cq _ _=>true
 |_=>false
def SS(C:Env)(t:Nat):Nat:=match C.d t with
 |.st l=>l.foldl (fun n p=>match C.d p.2 with
  |.str=>n+100
  |_=>n+1) 0
 |_=>C.s t
def Qx(C:Env):Nat->Nat->ac be
 |0,_=>[]
 |f+1,t=>match C.d t with
  |.bool=>[.bool false]
  |.int k=>[.int k 0]
  |.str=>[.string ⟨#[]⟩]
  |.a5 _=>[.slice none 0 0]
  |.cq n e=>(List.replicate n (C.Qx f e)).flatten
  |.st l=>l.flatMap fun p=>C.Qx f p.2
  |.nr _=>[.pointer none]
  |.mp _ _=>[.map none]
  |.fn=>[.nilFunc]
  |.NK=>[.nilIface]
  |.up=>[]
def z(C:Env)(t:Nat):ac be:=C.Qx 20 t
def tI(C:Env)(t:Nat):be:=match C.g t with
 |true=>.agg ⟨C.z t⟩
 |false=>(C.z t).headD .nilIface
def df(C:Env)(t:Nat):gb:=match C.d t with
 |.int k=>.int k
 |.cq n e=>match C.d e with
  |.int k=>.arr k n
  |_=>.str
 |_=>.str
def S2(C:Env)(t:Nat):pE:=match C.d t with
 |.a5 _=>.lk
 |.mp _ _=>.y3
 |.fn=>.wY
 |.NK=>.wZ
 |.nr _=>.ptr
 |_=>.tl
def bin(C:Env)(iW:ac Nat)(o:BinOp)(t:Nat)(a b:bi):dd:=
 let u:=match b with
  |.tmp j=>iW.any (Nat.beq j)
  |_=>false
 match C.d t,o,u with
 |.int _,.leq,true=>.ext (.xV false a b)
 |.int _,.gtr,true=>.ext (.xV true a b)
 |.int _,o,_=>.bin o a b
 |.str,o,_=>.bin o a b
 |.st _,.neq,_=>.ext (.ug true (C.SS t) a b)
 |.cq _ _,.neq,_=>.ext (.ug true (C.s t) a b)
 |.st _,_,_=>.ext (.ug false (C.SS t) a b)
 |.cq _ _,_,_=>.ext (.ug false (C.s t) a b)
 |_,.neq,_=>.eqv true (C.S2 t) a b
 |_,_,_=>.eqv false (C.S2 t) a b
def conv(C:Env)(s t:Nat)(a:bi):dd:=match C.d s,C.d t with
 |.int _,.int k=>.tW k a
 |.str,.str=>.xT a
 |.a5 _,.str=>.z1 a
 |.str,.a5 e=>.v5 e a
 |.nr _,.up=>.C5 a
 |.up,.nr e=>.C6 e (C.s e) a
 |_,_=>.refuse
def parts(C:Env)(e:Nat)(ps:ac (Nat×bi)):ac (Nat×Nat×bi):=ps.map fun p=>(p.1*C.s e,C.s e,p.2)
def aif(C:Env)(f:Nat)(as:ac bi):dd:=
 match as,Nat.beq f C.kJ,Nat.beq f C.kV,Nat.beq f C.bd,Nat.beq f C.idx with
 |[a],true,_,_,_=>.kJ a
 |[a,b],_,true,_,_=>.kV a b
 |[a,b],_,_,true,_=>.ext (.bd a b)
 |[a,b],_,_,_,true=>.ext (.idxs C.ma a b)
 |as,_,_,_,_=>match as,C.Ol with
  |[a],some (g,e)=>match Nat.beq f g with
   |true=>.ext (.Bm e a)
   |false=>.call (.func f) [a]
  |as,_=>.call (.func f) as
def len(C:Env)(t:Nat)(a:bi):dd:=match C.d t with
 |.a5 _=>.ph a
 |.str=>.uV a
 |.cq n _=>.yR n
 |.mp _ _=>.ext (.Bn a)
 |.nr e=>match C.d e with
  |.cq n _=>.yR n
  |_=>.refuse
 |_=>.refuse
def el(C:Env)(t:Nat):Nat:=match C.d t with
 |.a5 e=>e
 |.cq _ e=>e
 |.nr e=>e
 |_=>0
def aeD(C:Env)(f:Builtin)(as:ac bi)(ts:ac Nat):dd:=
 match f,as,ts with
 |.len,[a],t::_=>C.len t a
 |.cap,[a],t::_=>match C.d t with
  |.a5 _=>.ext (.z0 a)
  |_=>.refuse
 |.delete,[a,b],t::_=>match C.d t with
  |.mp k _=>.ext (.del (C.df k) a b)
  |_=>.refuse
 |.append,[a,b],t::_=>.app (C.el t) (C.s (C.el t)) (C.b (C.el t)) a b
 |.max,a::as,_=>.e7 a as
 |.min,a::as,_=>.y1 a as
 |.copy,[a,b],t::_=>.rF (C.s (C.el t)) a b
 |.recover,_,_=>.vl
 |.unsafeSliceData,[a],_=>.B9 a
 |.unsafeString,[a,b],t::_=>.tD (C.el t) a b
 |_,_,_=>.refuse
def pZ(C:Env)(t f:Nat):Nat×Nat:=match C.d t with
 |.st l=>l.getD f (0,0)
 |_=>(0,0)
def avX(C:Env)(iW:ac Nat):Op->dd
 |.move a=>.ie a
 |.assign a=>.ie a
 |.pick a b c=>.pick a b c
 |.alloc t=>.alloc (C.z t) t
 |.box t a=>.box t a
 |.build t ps=>.build (C.z t) (match C.d t with
  |.st l=>ps.toList.map fun p=>((l.getD p.1 (0,0)).1,C.s (l.getD p.1 (0,0)).2,p.2)
  |.cq _ e=>C.parts e ps.toList
  |_=>[])
 |.buildSlice t n ps=>.pM (C.el t) n ((List.replicate n (C.z (C.el t))).flatten) (C.parts (C.el t) ps.toList)
 |.load t a=>match C.g t with
  |true=>.qY (C.s t) a
  |false=>.j8 a
 |.store t a x=>.store (C.s t) a x
 |.nilCheck a=>.tc a
 |.binOp o t a b _=>C.bin iW o t a b
 |.unOp o _ a=>.un o a
 |.convert s t a=>C.conv s t a
 |.makeInterface t a=>.EF t a
 |.makeFunc f a b=>.sa f a.toList b.toList
 |.makeMap _ _=>.uY
 |.makeSlice t l c=>.sb (C.el t) (C.b (C.el t)) (C.z (C.el t)) l c
 |.slice t a aQ af e7=>match C.d t with
  |.str=>.tw a aQ af
  |.cq n e=>.Ce n (C.s e) a aQ af e7
  |.a5 e=>.oO (C.s e) a aQ af e7
  |_=>.refuse
 |.fieldAddr t a f=>.qB (C.pZ t f).1 a
 |.field t a f=>.pZ (C.pZ t f).1 (C.s (C.pZ t f).2) (C.g (C.pZ t f).2) a
 |.indexAddr t a i=>match C.d t with
  |.cq n e=>.qU n (C.s e) a i
  |.a5 e=>.l8 (C.s e) a i
  |_=>.refuse
 |.index t a i=>match C.d t with
  |.str=>.uP a i
  |.cq n e=>.Ii n (C.s e) (C.g e) a i
  |_=>.refuse
 |.typeAssert a _ t ok=>.Fz t (C.tI t) ok a
 |.extract a i=>.rL a i
 |.call c=>match c.callee with
  |.value f=>match f with
   |.func f=>C.aif f c.args.toList
   |f=>.call f c.args.toList
  |.builtin b=>C.aeD b c.args.toList c.argTypes.toList
  |.invoke r n=>.inv (C.YZ n) r c.args.toList
 |.defer c=>match c.callee with
  |.value f=>.pS f c.args.toList
  |_=>.refuse
 |.panic a=>.oI a
 |.lookup t m k ok=>match C.d t with
  |.mp a v=>.ext (.look (C.df a) (C.tI v) ok m k)
  |_=>.refuse
 |.mapUpdate t m k v=>match C.d t with
  |.mp a _=>.ext (.hd (C.df a) m k v)
  |_=>.refuse
 |.insert t m k v=>match C.d t with
  |.mp a _=>.ext (.hd (C.df a) m k v)
  |_=>.refuse
 |.range t m=>match C.d t with
  |.str=>.ext (.Cg m)
  |_=>.ext (.Bo m)
 |.next i s=>match s with
  |true=>.ext (.Cf i)
  |false=>.ext (.q1 i)
 |.entry i=>.ext (.Bl i)
 |_=>.refuse
end Env
def ol:am bi->ac bi
 |none=>[]
 |some a=>[a]
def av3:vO->ac bi
 |.look _ _ _ a b=>[a,b]
 |.hd _ a b c=>[a,b,c]
 |.del _ a b=>[a,b]
 |.Bn a=>[a]
 |.Bo a=>[a]
 |.Bl a=>[a]
 |.bd a b=>[a,b]
 |.ug _ _ a b=>[a,b]
 |.q1 a=>[a]
 |.xV _ a b=>[a,b]
 |.idxs _ a b=>[a,b]
 |.Cg a=>[a]
 |.Cf a=>[a]
 |.Bm _ a=>[a]
 |.z0 a=>[a]
def FB:dd->ac bi
 |.ie a=>[a]
 |.pick a b c=>[a,b,c]
 |.alloc _ _=>[]
 |.box _ a=>[a]
 |.build _ l=>l.map fun p=>p.2.2
 |.pM _ _ _ l=>l.map fun p=>p.2.2
 |.j8 a=>[a]
 |.qY _ a=>[a]
 |.store _ a b=>[a,b]
 |.tc a=>[a]
 |.bin _ a b=>[a,b]
 |.eqv _ _ a b=>[a,b]
 |.un _ a=>[a]
 |.tW _ a=>[a]
 |.xT a=>[a]
 |.z1 a=>[a]
 |.v5 _ a=>[a]
 |.EF _ a=>[a]
 |.sa _ a b=>a++b
 |.uY=>[]
 |.sb _ _ _ a b=>[a,b]
 |.tw a b c=>a::(ol b++ol c)
 |.Ce _ _ a b c e=>a::(ol b++(ol c++ol e))
 |.oO _ a b c e=>a::(ol b++(ol c++ol e))
 |.qB _ a=>[a]
 |.pZ _ _ _ a=>[a]
 |.qU _ _ a b=>[a,b]
 |.l8 _ a b=>[a,b]
 |.uP a b=>[a,b]
 |.Ii _ _ _ a b=>[a,b]
 |.Fz _ _ _ a=>[a]
 |.rL a _=>[a]
 |.call f l=>f::l
 |.inv _ f l=>f::l
 |.Ou _ _ a=>[a]
 |.ph a=>[a]
 |.uV a=>[a]
 |.wV a=>[a]
 |.app _ _ _ a b=>[a,b]
 |.e7 a l=>a::l
 |.y1 a l=>a::l
 |.rF _ a b=>[a,b]
 |.pS f l=>f::l
 |.oI a=>[a]
 |.C5 a=>[a]
 |.C6 _ _ a=>[a]
 |.B9 a=>[a]
 |.tD _ a b=>[a,b]
 |.kV a b=>[a,b]
 |.kJ a=>[a]
 |.ext y=>av3 y
 |_=>[]
def vv(l:ac bi):ac Nat:=l.filterMap fun
 |.tmp j=>some j
 |_=>none
def c4:dd->Nat
 |.ext y=>match y with
  |.hd _ _ _ _=>0
  |.del _ _ _=>0
  |.Bo _=>0
  |.q1 _=>0
  |.Cg _=>0
  |.Cf _=>0
  |.Bm _ _=>0
  |_=>2
 |.call _ _=>0
 |.inv _ _ _=>0
 |.app _ _ _ _ _=>0
 |.rF _ _ _=>0
 |.vl=>0
 |.pS _ _=>0
 |.oI _=>0
 |.store _ _ _=>0
 |.refuse=>0
 |.tD _ _ _=>0
 |.wV _=>0
 |.alloc _ _=>1
 |.box _ _=>1
 |.pM _ _ _ _=>1
 |.v5 _ _=>1
 |.uY=>1
 |.sb _ _ _ _ _=>1
 |_=>2
def mem(l:ac Nat)(t:Nat):Bool:=l.any (Nat.beq t)
def add(l:ac Nat)(t:Nat):ac Nat:=match mem l t with
 |true=>l
 |false=>l++[t]
def ak8(ops:ac Oper)(o:Oper):am (Nat×Bool):=match o.guard with
 |none=>none
 |some (j,w)=>match(ops[j]?).bind (·.dst)with
  |some t=>some (t,w)
  |none=>none
def Oj(t:Nat):ac Oper->am String
 |[]=>none
 |o::os=>match o.op,o.dst with
  |.makeFunc (.method n) _ _,some d=>(match Nat.beq d t with
   |true=>some n
   |false=>Oj t os)
  |_,_=>Oj t os
def ady(C:Env)(iW:ac Nat)(ops:ac Oper)(o:Oper):bz:=⟨o.dst,(match o.op with
 |.nilCheck (.tmp t)=>(match Oj t ops with
  |some n=>.Ou n (C.YZ n) (.tmp t)
  |none=>.tc (.tmp t))
 |_=>C.avX iW o.op),ak8 ops o⟩
def binds(e:Edge):Bool:=match e.ground with
 |.textOnly _=>false
 |.gcOnly _=>false
 |_=>true
def Rq:ac Nat->ac Oper->ac Nat
 |B,[]=>B
 |B,o::os=>Rq (B++[(o.after.toList.filter binds).foldl (fun m e=>m|||(2^e.on|||B.getD e.on 0)) 0]) os
def ord(n:Nat)(B K:ac Nat):ac Nat:=
 let es:=(List.range n).filter fun i=>Nat.beq (K.getD i 2) 0
 let l:=es.foldl (fun l e=>add (((List.range n).filter fun i=>(B.getD e 0).testBit i).foldl add l) e) []
 (List.range n).foldl add l
def maskAt(m:Nat):Nat->ac Nat->Nat
 |_,[]=>0
 |p,i::l=>(match m.testBit i with
  |true=>2^p
  |false=>0)+maskAt m (p+1) l
def rH(C:Env)(iW:ac Nat)(ops:ac Oper):dm:=
 let xs:=ops.map (ady C iW ops)
 let K:=xs.map fun x=>c4 x.o
 let L:=xs.map fun x=>vv (FB x.o)++(match x.g with
  |some (t,_)=>[t]
  |none=>[])
 let B:=Rq [] ops
 let te:=ord ops.length B K
 let row (p:Nat) (i:Nat):bz×cw:=(xs.getD i ⟨none,.refuse,none⟩,match K.getD i 0 with
  |0=>.dX
  |1=>.hX (L.getD i [])
  |_=>.read (((te.take p).filter fun j=>Nat.beq (K.getD j 2) 0&& !(B.getD i 0).testBit j).length) (L.getD i []))
 let ec:=(List.range te.length).foldl (fun l p=>match(xs.getD (te.getD p 0) ⟨none,.refuse,none⟩).d with
  |none=>l
  |some t=>match(te.take p).any fun j=>(Nat.beq (K.getD j 2) 0||mem (L.getD j []) t)&& !(B.getD (te.getD p 0) 0).testBit j with
   |true=>add l t
   |false=>l) []
 .rH ((List.range te.length).map fun p=>row p (te.getD p 0)) te ec (te.map fun i=>maskAt (B.getD i 0) 0 te)
def code(C:Env)(iW:ac Nat):Code->dm
 |.skip=>.skip
 |.label _=>.skip
 |.region _ ops ag7=>match ag7 with
  |true=>rH C iW ops.toList
  |false=>.hR (ops.toList.map (ady C iW ops.toList))
 |.seq a b=>.seq (code C iW a) (code C iW b)
 |.cond x a b=>.cond x (code C iW a) (code C iW b)
 |.block n a=>.block n (code C iW a)
 |.loop a=>.loop (code C iW a)
 |.rangeFunc x ps a b=>.B5 x ps.toList (code C iW a) (code C iW b)
 |.scope a=>.scope (code C iW a)
 |.exit n=>.exit n
 |.ret=>.ret
 |_=>.refuse
def ava(g:Nat)(o:Oper):ac Nat:=match o.op,o.dst with
 |.load _ (.global h),some t=>match Nat.beq g h with
  |true=>[t]
  |false=>[]
 |_,_=>[]
def tC(g:Nat):Code->ac Nat
 |.region _ ops _=>ops.toList.flatMap (ava g)
 |.seq a b=>tC g a++tC g b
 |.cond _ a b=>tC g a++tC g b
 |.block _ a=>tC g a
 |.loop a=>tC g a
 |.rangeFunc _ _ a b=>tC g a++tC g b
 |.scope a=>tC g a
 |_=>[]
def res(C:Env):ResultVar->h6
 |.tmp t=>.tmp t
 |.cell t k=>.cell t (C.g k) (C.s k)
def fn(C:Env)(f:Func):cM:=match f.body with
 |none=>⟨0,[],.refuse⟩
 |some c=>⟨f.ntmps,f.results.toList.map (res C),code C (tC C.ma c) c⟩
end Go.ar.KC
