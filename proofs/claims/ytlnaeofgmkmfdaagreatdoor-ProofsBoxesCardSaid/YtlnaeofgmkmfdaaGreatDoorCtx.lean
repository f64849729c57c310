/- What the abstract machine needs to know of this program; no condition. -/
import Derived.Lib.MakeNoZero
import Derived.Test.YtlnaeofgmkmfdaaGreatDoorProg
import Derived.DeepKeys4
import Derived.Test.YtlnaeofgmkmfdaaGreatDoorM3
noncomputable section
set_option linter.all false
namespace Go.an.aX
open Go.Proofs
variable{k:d8}{v:bi}
def aqk:Extern.findNext Tryz.f335=none:=by kernel_rfl
def aiJ:Extern.find Tryz.f335=some Extern.AbiNoEscape.same:=by kernel_rfl
def aqm:Extern.findNext Tryz.f370=none:=by kernel_rfl
def aiL:Extern.find Tryz.f370=some Extern.BytealgIndexByte.indexByte:=by kernel_rfl
def aqj:Extern.findNext Tryz.f279=none:=by kernel_rfl
def aiI:Extern.find Tryz.f279=some Extern.BytealgCount.count:=by kernel_rfl
def aql:Extern.findNext Tryz.f367=none:=by kernel_rfl
def aiK:Extern.find Tryz.f367=some Extern.BytealgIndex.index:=by kernel_rfl
def atc(x:bi):Extern.AbiNoEscape.same #[x]=pure x:=rfl
def kM(x:bi)(w:d7):(callFunc 335 #[x]).run Tryz.prog w= .ok (.value x) w:=by
 have hn:(Tryz.f335.name== "runtime.NumGoroutine")=false:=by kernel_rfl
 have hb:Tryz.f335.body.isNone=true:=by kernel_rfl
 simp only[callFunc,program,Sem.run_bind];simp[Sem.run,Tryz.func335,hn,hb,aqk,aiJ,Result.andThen,mark,atc]
def aoI(s:f6)(c:Int):Extern.BytealgIndexByte.indexByte #[.string s,.int .u8 c]=(do
 match(List.range s.size).find? fun i=>s[i]! ==c.toNat.toUInt8 with
 |some i=>pure (goInt i)
 |none=>pure (goInt (-1))):=by
 show(do
  let b<-Extern.Bytes.bytesOf (.string s)
  let c<-Extern.Bytes.asByte (.int .u8 c)
  match(List.range b.size).find? fun i=>b[i]! ==c with
  |some i=>pure (goInt i)
  |none=>pure (goInt (-1)):Sem bi)=_
 simp only[Extern.Bytes.bytesOf,Extern.Bytes.asByte];rfl
def la(s:f6)(c:Int)(w:d7):(callFunc 370 #[.string s,.int .u8 c]).run Tryz.prog w= .ok (.value (goInt (match(List.range s.size).find? (fun i=>s[i]! ==c.toNat.toUInt8)with|some i=>(i:Int)|none=> -1))) w:=by
 have hn:(Tryz.f370.name== "runtime.NumGoroutine")=false:=by kernel_rfl
 have hb:Tryz.f370.body.isNone=true:=by kernel_rfl
 simp only[callFunc,program,Sem.run_bind];simp only[Sem.run,Tryz.func370,hn,hb,aqm,aiL,Result.andThen,mark,aoI];cases(List.range s.size).find? fun i=>s[i]! ==c.toNat.toUInt8<;>rfl
theorem TV(c:ce):∀(l:ac ce) (n:Int),l.foldl (fun n x=>if x==c then n+1 else n) n=n+(l.countP (fun b=>b==c):Nat)
 |[],n=>by simp
 |x::xs,n=>by
  rw[zdh,TV c xs,zdS];split<;>omega
theorem YT(f:Int->ce->Int)(bh:f6):∀(i j:Nat) (b:Int),i+j=bh.size->
 (ByteArray.foldlM.loop (m:=_root_.Id) (fun x y=>pure (f x y)) bh bh.size (zaO _) i j b).run=(bh.data.toList.drop j).foldl f b
 |0,j,b,h=>by
  unfold ByteArray.foldlM.loop;have e0:bh.data.toList.length=bh.size:=rfl;have:bh.data.toList.drop j=[]:=by rw[List.drop_eq_nil_iff];omega
  rw[this];split<;>rfl
 |i+1,j,b,h=>by
  have hj:j<bh.size:=by omega
  unfold ByteArray.foldlM.loop;rw[dif_pos hj];have mO:j<bh.data.toList.length:=hj;rw[zcI mO,zdh];exact YT f bh i (j+1) _ (by omega)
def ae0(f:Int->ce->Int)(s:f6):s.foldl f (0:Int)=s.data.toList.foldl f 0:=by
 have:s.foldl f (0:Int)=(ByteArray.foldlM.loop (m:=_root_.Id) (fun x y=>pure (f x y)) s s.size (zaO _) (s.size-0) 0 0).run:=by
  unfold ByteArray.foldl ByteArray.foldlM;simp
 rw[this,YT f s (s.size-0) 0 0 (by omega)];simp
def agS(s:f6)(c:Int):Extern.BytealgCount.count #[.string s,.int .u8 c]=pure (goInt (s.data.toList.countP (fun b=>b==c.toNat.toUInt8):Nat)):=by
 have h0:Extern.BytealgCount.count #[.string s,.int .u8 c]=pure (goInt (s.foldl (fun n x=>if x==c.toNat.toUInt8 then n+1 else n) (0:Int))):=rfl;rw[h0,ae0,TV];simp
def bj(s:f6)(c:Int)(w:d7):(callFunc 279 #[.string s,.int .u8 c]).run Tryz.prog w= .ok (.value (goInt (s.data.toList.countP (fun b=>b==c.toNat.toUInt8):Nat))) w:=by
 have hn:(Tryz.f279.name== "runtime.NumGoroutine")=false:=by kernel_rfl
 have hb:Tryz.f279.body.isNone=true:=by kernel_rfl
 simp only[callFunc,program,Sem.run_bind];simp[Sem.run,Tryz.func279,hn,hb,aqj,aiI,Result.andThen,mark,agS]
theorem Pp:∀(b a:ac ce),xv b a=true↔b.isPrefixOf a=true
 |[],a=>by simp[xv]
 |x::xs,[]=>by simp[xv]
 |x::xs,y::aw=>by simp[xv,Pp xs aw]
theorem ac4(b:ac ce)(hb:0<b.length):∀a:ac ce,pH b a=(List.range (a.length+1-b.length)).find? (fun i=>(a.drop i).take b.length==b)
 |[]=>by
  have:([]:ac ce).length+1-b.length=0:=by simp;omega
  rw[this];unfold pH;rw[zaa (by cases b<;>simp_all)];rfl
 |x::xs=>by
  unfold pH;have hp:xv b (x::xs)=((x::xs).take b.length==b):=by
   rw[zaU,Pp,zeA,List.prefix_iff_eq_take,beq_iff_eq];exact eq_comm
  by_cases h:xv b (x::xs)=true
  ·rw[zab h];have hle:b.length<=(x::xs).length:=by
    rw[Pp,zeA]at h;exact h.length_le
   rw[show(x::xs).length+1-b.length=((x::xs).length-b.length)+1 by omega,zdj,zdQ];rw[hp]at h;simp only[zaq,h]
  ·rw[zaa h,ac4 b hb xs];rcases zaj (x::xs).length b.length with hl|hl
   ·have az:(x::xs).length+1-b.length=0:=by omega
    have e2:xs.length+1-b.length=0:=by simp at hl;omega
    rw[az,e2];rfl
   ·rw[show(x::xs).length+1-b.length=(xs.length+1-b.length)+1 by simp at hl ⊢;omega,zdj,zdQ];have af:((x::xs).take b.length==b)=false:=by rw[<-hp];simpa using h
    simp only[zaq,af];rw[List.find?_map];rfl
def aiu(a b:f6)(i:Nat):(a.extract i (i+b.size)==b)=((a.data.toList.drop i).take b.data.toList.length==b.data.toList):=by
 have h0:(a.extract i (i+b.size)==b)=((a.extract i (i+b.size)).data==b.data):=rfl;rw[h0,zaU,beq_iff_eq,beq_iff_eq];have I:(a.extract i (i+b.size)).data.toList=(a.data.toList.drop i).take b.data.toList.length:=by
  rw[ByteArray.data_extract,zdf,zdg];have e0:b.data.toList.length=b.size:=rfl;rw[e0];congr 1;omega
 constructor
 ·intro h;rw[<-I,h]
 ·intro h;apply Array.toList_inj.1;rw[I,h]
def ao7(s b:f6)(m:Int)(w:d7)(hl:(load ⟨4,0,none⟩).run Tryz.prog w= .ok (.int .i64 m) w)(U:2<=b.size)(hm:(b.size:Int)<=m)(ah:s.size<=1000000):
 (Extern.BytealgIndex.index #[.string s,.string b]).run Tryz.prog w= .ok (goInt (match pH b.data.toList s.data.toList with|some i=>(i:Int)|none=> -1)) w:=by
 obtain⟨eK,fV,e⟩:∃(eK fV:Unsupported),Extern.BytealgIndex.index #[.string s,.string b]=(do
  let x<-Extern.Bytes.bytesOf (.string s)
  let y<-Extern.Bytes.bytesOf (.string b)
  if y.size<2||(y.size:Int)>(<-Extern.BytealgIndex.maxLen)then unsupported eK
  if x.size>=2^32-15 then unsupported fV
  match(List.range (x.size+1-y.size)).find? fun i=>x.extract i (i+y.size)==y with
  |some i=>pure (goInt i)
  |none=>pure (goInt (-1)):Sem bi):=⟨_,_,rfl⟩
 have aM:(globalAddr "internal/bytealg.MaxLen").run Tryz.prog w= .ok ⟨4,0,none⟩ w:=by
  have:Tryz.prog.globals.findIdx? (fun g=>g.name== "internal/bytealg.MaxLen")=some 4:=by kernel_rfl
  simp[globalAddr,program,Sem.run,this]
 have Ih:Extern.BytealgIndex.maxLen.run Tryz.prog w= .ok m w:=by
  simp only[Extern.BytealgIndex.maxLen,Sem.run_bind,aM,Result.andThen,hl];simp[asInt,asIntOf]
 have eF:¬b.size<2:=by omega
 have e5:¬(b.size:Int)>m:=by omega
 have nh:¬s.size>=2^32-15:=by omega
 rw[e];simp only[Extern.Bytes.bytesOf,Sem.run_bind,Sem.run_pure,Result.andThen,Ih,eF,e5,nh,decide_false,Bool.or_false,zaW,if_false];have r6:=ac4 b.data.toList (show 0<b.size by omega) s.data.toList;have an1:(List.range (s.size+1-b.size)).find? (fun i=>s.extract i (i+b.size)==b)=pH b.data.toList s.data.toList:=by
  rw[r6];simp only[aiu];rfl
 rw[an1];cases pH b.data.toList s.data.toList<;>rfl
def idx(s b:f6)(m:Int)(w:d7)(hl:(load ⟨4,0,none⟩).run Tryz.prog w= .ok (.int .i64 m) w)(U:2<=b.size)(hm:(b.size:Int)<=m)(ah:s.size<=1000000):
 (callFunc 367 #[.string s,.string b]).run Tryz.prog w= .ok (.value (goInt (match pH b.data.toList s.data.toList with|some i=>(i:Int)|none=> -1))) w:=by
 have hn:(Tryz.f367.name== "runtime.NumGoroutine")=false:=by kernel_rfl
 have hb:Tryz.f367.body.isNone=true:=by kernel_rfl
 have:=ao7 s b m w hl U hm ah;simp only[callFunc,program,Sem.run_bind];have az:∀(x:Sem bi),((do let r<-x;pure (Next.value r)):Sem Next).run Tryz.prog w=(x.run Tryz.prog w).andThen (fun v w'=>.ok (.value v) w'):=fun x=>by
  simp
 have e2:=az (Extern.BytealgIndex.index #[.string s,.string b]);rw[this]at e2;simp only[Sem.run,Tryz.func367,hn,hb,aql,aiK,Result.andThen,mark]at e2⊢;exact e2
def av7{n:Int}(h:IF k n=true):(Lit.int k n).wf=true:=by
 unfold IF at h;rw[zcg,tr,tr]at h;simp only[Lit.wf,zcg];exact h
def ok_int(h:(fQ.int k).ok v=true):∃n,v= .int k n∧(Lit.int k n).wf=true:=by
 obtain⟨k',n,rfl,U⟩:=ke (v:=v) (z:=false) (r:=true) h (by decide);rw[zcg]at U;have:=vb U.1;subst this;exact⟨n,rfl,av7 U.2⟩
def aqN{n:Nat}(h:(fQ.arr k n).ok v=true):∃xs:be bi,v= .agg xs∧xs.toList.length=n∧∀x∈xs.toList,∃m,x= .int k m∧(Lit.int k m).wf=true:=by
 obtain⟨xs,rfl,U⟩:=zY (v:=v) (z:=false) (r:=true) h (by decide);rw[zcg,zaN,fe]at U;exact⟨xs,rfl,zbW U.1,fun x aa=>ok_int (U.2 x aa)⟩
def keys(k:ci):am fQ:=if k=3 then some (.int .i64)else if k=9 then some .str else if k=244 then some (.arr .i64 6)else none
def apD:WideMaps.KeyLaw Tryz.prog 244:=deep_law_laid (by kernel_rfl) (m:=2) (by omega) (zbd (by kernel_rfl)) (by kernel_rfl) (by kernel_rfl)
def nh:Tryz.prog.cellsOf 3=1:=by kernel_rfl
def Sq:Tryz.prog.cellsOf 244=6:=by kernel_rfl
def apu:Tryz.prog.keyType 244=true:=by kernel_rfl
def ts:Tryz.prog.types.size+1=496:=by kernel_rfl
def apf(h:(fQ.arr .i64 6).ok v=true):∃l,keyOf Tryz.prog 244 v=some l:=by
 obtain⟨xs,rfl,hlen,dZ⟩:=aqN h;obtain⟨l⟩:=xs;simp only at hlen dZ
 match l,hlen with
 |[a,b,c,d,e,f],_=>
  obtain⟨a,rfl,av2⟩:=dZ a (by simp);obtain⟨b,rfl,CQ⟩:=dZ b (by simp);obtain⟨c,rfl,QW⟩:=dZ c (by simp);obtain⟨d,rfl,wd⟩:=dZ d (by simp);obtain⟨e,rfl,av6⟩:=dZ e (by simp);obtain⟨f,rfl,wf⟩:=dZ f (by simp);refine⟨.string (keyBytes [.int .i64 a,.int .i64 b,.int .i64 c,.int .i64 d,.int .i64 e,.int .i64 f]),?_⟩;unfold keyOf;rw[Tryz.underlying244,ts];have af:Value.formed Tryz.prog 244 (.agg #[.int .i64 a,.int .i64 b,.int .i64 c,.int .i64 d,.int .i64 e,.int .i64 f])=true:=by
   simp[Value.formed,Tryz.underlying244,Sq]
  simp only[apu,af,Bool.and_self,if_true];have ab:∀n:Int,(Lit.int .i64 n).wf=true->Tryz.prog.keyLits 495 3 [.int .i64 n]=some [.int .i64 n]:=by
   intro n hn;simp[Program.keyLits,Tryz.underlying3,hn]
  have eJ:∀cs:ac bi,Tryz.prog.keyLits 496 244 cs=if cs.length=Tryz.prog.cellsOf 244 then((List.range 6).mapM fun i=>Tryz.prog.keyLits 495 3 ((cs.drop (i*Tryz.prog.cellsOf 3)).take (Tryz.prog.cellsOf 3))).map List.flatten else none:=by
   intro cs
   conv=>lhs;unfold Program.keyLits
   rw[Tryz.underlying244]
  rw[eJ];simp[Sq,nh,Value.cells,List.range,List.range.loop,ab a av2,ab b CQ,ab c QW,ab d wd,ab e av6,ab f wf]
def tp:∀k c2,keys k=some c2->Maps.Keyed Tryz.prog k∧∀v,c2.ok v=true->∃l,keyOf Tryz.prog k v=some l:=by
 intro k c2 h;unfold keys at h;split at h
 ·rename_i e;subst e;cases h;refine⟨Maps.int_keyed Tryz.underlying3,fun v aE=> ?_⟩;obtain⟨n,rfl,hn⟩:=ok_int aE;exact⟨_,Maps.keyOf_int_mk Tryz.underlying3 hn⟩
 ·split at h
  ·rename_i e;subst e;cases h;refine⟨Maps.Keyed.of_law (WideMaps.string_law Tryz.underlying9),fun v aE=> ?_⟩;obtain⟨s,rfl,U⟩:=qu (v:=v) (z:=false) (r:=true) aE (by decide);rw[fe]at U;have ag:=mA.1 U;have au:s.data.toList.length=s.size:=rfl;exact⟨_,WideMaps.keyOf_string_mk Tryz.underlying9 (by unfold maxLen;omega)⟩
  ·split at h
   ·rename_i e;subst e;cases h;exact⟨Maps.Keyed.of_law apD,fun v aE=>apf aE⟩
   ·cases h
def Hs:ac (Nat×Nat):=[(68,200),(137,106),(164,201),(199,2),(213,2),(418,2)]
def eqs(t:ci):am Nat:=List.rec (motive:=fun _=>am Nat) none (fun p _ ba=>cond (Nat.beq p.1 t) (some p.2) ba) Hs
theorem Tz{t n:Nat}:∀{l:ac (Nat×Nat)},(List.rec (motive:=fun _=>am Nat) none (fun p _ ba=>cond (Nat.beq p.1 t) (some p.2) ba) l:am Nat)=some n->(t,n)∈l
 |[],h=>by cases h
 |p::l,h=>by
  have h:cond (Nat.beq p.1 t) (some p.2) (List.rec (motive:=fun _=>am Nat) none (fun p _ ba=>cond (Nat.beq p.1 t) (some p.2) ba) l:am Nat)=some n:=h;cases hb:Nat.beq p.1 t with
  |true=>
   rw[hb]at h;cases h;rw[<-zbW hb];exact zbf
  |false=>
   rw[hb]at h;exact zaC _ (Tz h)
def aie:(Hs.all fun p=>HB Tryz.prog p.1 p.2)=true:=by kernel_rfl
def yw(t n:Nat)(h:eqs t=some n):Tryz.prog.eqGuardType Tryz.prog.depth t=false∧∀xs aw b w,xs.size=n%100+n/100->aw.size=n%100+n/100->lN (n%100) xs.toList aw.toList=some b->(Op.equalIn 10000 t (.agg xs) (.agg aw)).run Tryz.prog w= .ok b w:=
 have I:HB Tryz.prog t n=true:=zaN.1 aie (t,n) (Tz h)
 aiO I
def base:Aa where
 P:=Tryz.prog
 aH:=11
 kM:=fun f=>Nat.beq f 335
 la:=fun f=>Nat.beq f 370
 Fe:=fun f af x w=>by rw[zbW af];exact kM x w
 EP:=fun f af s c w=>by rw[zbW af];exact la s c w
 keys:=keys
 tp:=tp
 pU:=fun f=>Nat.beq f 279
 DA:=fun f af s c w=>by rw[zbW af];exact bj s c w
 qf:=fun f=>Nat.beq f 367
 mj:=4
 E8:=by decide
 ES:=fun f af s b m w I U ag au=>by rw[zbW af];exact idx s b m w I U ag au
 eqs:=eqs
 yw:=yw
def ctx:Ctx:=mkCtx base
def ek:Good ctx:=ap8 _ (by kernel_rfl)
