/- What the functions of the program and of the document compute, for every input (part 5); conditions as in the statements. -/
import Derived.Test.YtoepefenkpijoaaGreatDoorC4
import Derived.Test.YtoepefenkpijoaaGreatDoorZ
set_option linter.all false
namespace Go.ar.a9
open Go.ar
set_option maxRecDepth 100000
set_option maxHeartbeats 4000000
structure zN where
 p:dK
 i:Int
 cut:ac bv
 a:g4
 b:g4
def GG(c:zN):ac aj:=ih c.p++([.i .i64 c.i,.s c.cut]++(ig c.a++ig c.b))
def FW(c:zN):Prop:=zR c.p∧rr c.a∧rr c.b
variable{p:dK}
def P6{α:Type}{w:Nat}{Q:α->Prop}:iI w Q []:=⟨by simp,fun x aa=>by cases aa⟩
def auQ{i:Int}{cut:ac bv}{a b:g4}(ha:rr a)(hb:rr b)(pg:a.bZ.length<=20)(uS:b.bZ.length<=20):rr (lj p i cut a b).1:=by
 have z:rr oY:=P6;have j:∀s t,rr (yO i cut a b s t):=fun s t=>by
  refine⟨?_,fun x aa=> ?_⟩
  ·show(hr i cut::(a.bZ++b.bZ)).length*80<=140737488355328;rw[zaq,zay];omega
  ·rcases zak.1 aa with rfl|aa
   ·exact⟨P6,P6⟩
   ·rcases zbF.1 aa with aa|aa
    ·exact ha.2 x aa
    ·exact hb.2 x aa
 unfold lj;split
 ·split
  ·split
   ·exact z
   ·split
    ·split
     ·exact z
     ·split
      ·exact z
      ·exact j _ _
    ·exact z
  ·exact z
 ·exact z
def PZ(G:bC->Prop)(c5:∀{H bn:bC},du H bn->G H->G bn):bD where
 L:=Unit
 args:=fun _=>[]
 pre:=fun _=>True
 res:=fun _=>.b true
 hp:=G
 hm:=c5
def N1(G:bC->Prop)(c5:∀{H bn:bC},du H bn->G H->G bn):bD where
 L:=zN
 args:=fun c=>[.agg (GG c)]
 pre:=FW
 res:=fun _=>.b true
 hp:=G
 hm:=c5
def abO{q:g4}(h:¬wW p q):KO q:=by
 have J:¬20<(q.bZ.length:Int):=fun g=>h (.inr (.inl g));have U:¬300<(q.aQ.length:Int):=fun g=>h (.inr (.inr (.inl g)));have ag:¬300<(q.af.length:Int):=fun g=>h (.inr (.inr (.inr (.inl g))));have az:¬300<(q.err.length:Int):=fun g=>h (.inr (.inr (.inr (.inr (.inl g)))));exact⟨by omega,by omega,by omega,by omega⟩
def ao7{G:bC->Prop}{c5:∀{H bn:bC},du H bn->G H->G bn}(ja:∀{H},G H->oZ H∧oX H)(cp:bl aT.ctx 5 (PZ G c5).spec):bl aT.ctx 3 (N1 G c5).spec:=by
 refine LI aT.dY eR (b5 [(4,Ip.spec),(5,(PZ G c5).spec),(6,E3.spec),(7,E9.spec),(8,JC.spec),(9,aae.spec)]) (xf:=bc.1) (by kernel_rfl) (fun l=>jF rfl) ?_;intro⟨p,i,cut,a,b⟩ ⟨hp,lG,A2⟩ H aK e5;refine I ?_;refine aX Yk (p,a) hp ?_;by_cases J:wW p a
 ·refine v1 12 J (I ?_);refine aX cp () trivial (I ?_) (hh:=e5);exact au rfl (.refl _)
 refine v0 12 J (I ?_);refine aX Yk (p,b) hp ?_;by_cases U:wW p b
 ·refine v1 19 U (I ?_);refine aX cp () trivial (I ?_) (hh:=e5);exact au rfl (.refl _)
 refine v0 19 U (aq 25 ?_);by_cases ag:300<(cut.length:Int)
 ·refine v1 25 ag (I ?_);refine aX cp () trivial (I ?_) (hh:=e5);exact au rfl (.refl _)
 refine v0 25 ag ?_;have al1:xL p:=abV fun h=>J (.inl (.inl h));have aan:=abO J;have Jp:=abO U;have nb:KI (p,i,cut,a,b):=⟨al1,by omega,⟨aan,lG⟩,Jp,A2⟩;have HX:=auQ (p:=p) (i:=i) (cut:=cut) lG A2 aan.1 Jp.1;clear J U ag;obtain⟨⟨q,c⟩,aE⟩:∃r,r=lj p i cut a b:=⟨_,rfl⟩;rw[<-aE]at HX;refine I ?_;refine aX aqN (p,i,cut,a,b) nb ?_ (hh:=ja e5);refine ax 39 (.bP [.agg (ig q),.i .i64 c]) rfl (by show uQ (lj p i cut a b)=_;rw[<-aE];rfl) (I ?_);refine aX arh (p,i,cut,a,b) nb ?_;refine ax 53 (.bP [.agg (ig q),.i .i64 c]) rfl (by show uQ (lj p i cut a b)=_;rw[<-aE];rfl) (I ?_);refine aX aaW (q,q) HX ?_;refine g3 58 (Dm q) (aq 63 ?_);refine v0 63 (fi (rfl:c=c)) (I ?_);refine bQ E6 (a,b) lG (I ?_);refine bQ aaW (a,b) lG ?_;cases he:la a b with
 |false=>
  refine g3 69 he ?_;refine g3 74 he (I ?_);refine bQ E6 (a,a) lG ?_;refine g3 81 (Dm a) (I ?_);refine bQ E6 (q,q) HX ?_;refine g3 86 (Dm q) (I ?_);refine bQ cp () trivial (I ?_) (hh:=e5);exact au rfl (.refl _)
 |true=>
  refine g3 69 he ?_;refine g3 74 he (I ?_);refine bQ E6 (a,a) lG ?_;refine g3 81 (Dm a) (I ?_);refine bQ E6 (q,q) HX ?_;refine g3 86 (Dm q) (I ?_);refine bQ cp () trivial (I ?_) (hh:=e5);exact au rfl (.refl _)
end Go.ar.a9
namespace Go.ar.a9
open Go.ar Go.ar.jq
set_option maxRecDepth 100000
theorem YJ{h:ao bt}{s:dc}:∀(os:ac (Nat×bt)),(∀o∈os,s.b6.get o.1=some o.1∧h.get o.1=some o.2∧uW o.2 o.2 s=some s)->yU h os s=some s
 |[],_=>rfl
 |o::os,hh=>by
  obtain⟨J,U,ag⟩:=hh o (by simp);show bk (s.b6.get o.1) (fun j=>bk (h.get j) (fun p=>bk (uW o.2 p s) (yU h os) none) none) none=_;rw[J,Sym.en,U,Sym.en,ag,Sym.en];exact YJ os fun p hp=>hh p (zaI _ hp)
def Hl{Q:Nat×bt->Prop}(h0:Q ze)(U:Q sh)(ag:Q pv)(az:Q me)(a4:Q qi):∀p∈lp.gs,Q p:=fun p hp=>by
 have hp:p∈[ze,sh,pv,me,qi]:=hp;simp only[zak,List.not_mem_nil,or_false]at hp;rcases hp with rfl|rfl|rfl|rfl|rfl<;>assumption
def kx(H:bC):Prop:=∀p∈lp.gs,H p.1=some p.2
variable{H:bC}{st:ay}
def kx.up{bn:bC}(h:du H bn)(aR:kx H):kx bn:=fun p hp=>h _ _ (aR p hp)
def WH:∀p∈lp.gs,ll.b6.get p.1=some p.1∧uW p.2 p.2 ll=some ll:=
 Hl ⟨by kernel_rfl,by kernel_rfl⟩ ⟨by kernel_rfl,by kernel_rfl⟩ ⟨by kernel_rfl,by kernel_rfl⟩ ⟨by kernel_rfl,by kernel_rfl⟩ ⟨by kernel_rfl,by kernel_rfl⟩
def ad7{s:dc}{gs:ac (Nat×bt)}{aH:Nat}{t:Bool}(hc:s.bd<=aH)(h:yU st.h gs s=some s):(⟨[],gs,[],.bool t,[],aH⟩:cW).app s [] st=some (.ret (.bool t) ⟨st.h,st.ai+(aH-s.bd)⟩ false):=by
 unfold cW.app;show bk (yU st.h gs s) _ none=_;rw[h,Sym.en];show cond (Nat.beq s.bd (Nat.add s.bd 0)) (cond (Nat.ble s.bd aH) (gm (Nat.add st.ai (Nat.sub aH s.bd)) fun n=>some (dh.ret (.bool t) ⟨st.h,n⟩ false)) none) none=_;rw[show Nat.beq s.bd (Nat.add s.bd 0)=true from zaz _,show Nat.ble s.bd aH=true from zde hc];show gm (Nat.add st.ai (Nat.sub aH s.bd)) (fun n=>some (dh.ret (.bool t) ⟨st.h,n⟩ false))=_;unfold gm;rw[zaz];rfl
def ap0:ll.bd<=8180:=by rw[po.2.1];exact jF (by kernel_rfl)
def as4(h:∀p∈lp.gs,st.h.get p.1=some p.2):lp.app ll [] st=some (.ret (.bool true) ⟨st.h,st.ai+(8180-ll.bd)⟩ false):=
 ad7 (gs:=lp.gs) ap0 (YJ lp.gs fun o al=>⟨(WH o al).1,h o al,(WH o al).2⟩)
def as5:bl aT.ctx 5 (PZ kx kx.up).spec:=by
 rintro vs st ⟨⟨l,H⟩,_,e5,aw,aA⟩;have aA:vs=[]:=aA;subst aA;refine⟨.bool true,⟨st.h,st.ai+(8180-ll.bd)⟩,?_,?_⟩
 ·rintro⟨l',bn⟩ ⟨_,awn,dp,_⟩;have hw:∀b,st.ai+(8180-ll.bd)<=b->st.h.get b=none:=fun b hb=>dp.wf b (by omega);exact⟨bn,⟨hw,dp.le,rfl,rfl,zdv,fun b hb=>by simp at hb,fun k o b ab=>by simp at ab⟩,⟨du.refl _,fun _ _ _=>rfl,fun _ _ _=>rfl,zcj _ _,da.refl _,fun b hb=>.inl hb⟩,rfl⟩
 ·intro ι as' w ha hw;exact Q1 Rd po.1 po.2.1 po.2.2 (as4 fun p hp=>aw.le _ _ (e5 p hp)) ι as' w ha hw
theorem LK{H:bC}{k:d7}:∀l:ac Int,de H (l.map fun n=>.i k n) [] (l.map fun n=>Value.int k n)
 |[]=>rfl
 |n::l=>⟨_,_,rfl,rfl,LK l⟩
def aq0:qi=(5,.cells ((List.range 20).map fun k=>Value.int .u64 ((10^k:Nat):Int)) 425 (0,20) false):=by kernel_rfl
def alu(h:kx H):oX H:=by
 have a4:=h qi (by show qi∈[ze,sh,pv,me,qi];simp);rw[aq0]at a4;refine⟨_,_,_,_,a4,fun bn=> ?_⟩;have:=LK (H:=bn) (k:=.u64) ((List.range 20).map fun k=>((10^k:Nat):Int));rw[zcm,zcm]at this;exact this
def abN:ac Int:=J6.flatMap fun p=>[(p.1:Int),(p.2:Int)]
def aqZ:pv=(3,.cells (abN.map fun n=>Value.int .i64 n) 342 (0,32) false):=by kernel_rfl
def alv(h:kx H):oZ H:=by
 have h0:=h pv (by show pv∈[ze,sh,pv,me,qi];simp);rw[aqZ]at h0;exact⟨_,_,_,_,h0,fun bn=>LK (k:=.i64) abN⟩
def Ym:bl aT.ctx 3 (N1 kx kx.up).spec:=ao7 (fun h=>⟨alv h,alu h⟩) as5
