/- What the abstract machine needs to know of this program; no condition. -/
import Derived.Lib.MakeNoZero
import Derived.Test.YthdlbilidpgknaaGreatDoorProg
import Derived.DeepKeys4
import Derived.Test.YthdlbilidpgknaaGreatDoorPtM3
noncomputable section
set_option linter.all false
namespace Go.ak.aS
open Go.Proofs
variable{k:d7}
def an8:Extern.findNext Tryz.f380=none:=by kernel_rfl
def agR:Extern.find Tryz.f380=some Extern.AbiNoEscape.same:=by kernel_rfl
def an6:Extern.findNext Tryz.f338=none:=by kernel_rfl
def agP:Extern.find Tryz.f338=some Extern.BytealgIndexByte.indexByte:=by kernel_rfl
def an7:Extern.findNext Tryz.f346=none:=by kernel_rfl
def agQ:Extern.find Tryz.f346=some Extern.BytealgCount.count:=by kernel_rfl
def an5:Extern.findNext Tryz.f266=none:=by kernel_rfl
def agO:Extern.find Tryz.f266=some Extern.BytealgIndex.index:=by kernel_rfl
def an9:Extern.findNext Tryz.f410=none:=by kernel_rfl
def agS:Extern.find Tryz.f410=some (Extern.BytealgMakeNoZero.makeNoZero #[3] #[325]):=by kernel_rfl
def NB(n:Nat)(w:co)(hn:n<=281474976710656):∃(cs:ap be) (w':co),n<=cs.size∧Tryz.prog.cellsOf 5=1∧(callFunc 410 #[.int .i64 (n:Int)]).run Tryz.prog w= .ok (.value (.slice (some ⟨w.heap.size,0,none⟩) n cs.size)) w'∧w'.heap=w.heap.push (.cells cs 5)∧(w'.os=w.os∧w'.output=w.output):=by
 obtain⟨cs,J,U,_⟩:=Go.Lib.run_makeNoZero w #[3] 325 5 Tryz.underlying325 n hn;have jI:(Tryz.f410.name== "runtime.NumGoroutine")=false:=by kernel_rfl
 have hb:Tryz.f410.body.isNone=true:=by kernel_rfl
 refine⟨cs,w.drew.drew.alloc (.cells cs 5),U,by kernel_rfl,?_,rfl,rfl,rfl⟩;simp only[callFunc,program,Sem.run_bind];simp only[Sem.run];simp[Tryz.func410,jI,hb,an9,agS,Result.andThen,mark];have e:Sem.run Tryz.prog (Sem.mark (Mark.extern 410) (Sem.pure ())) w=Result.ok () w:=rfl;simp only[e,J]
def aqE(x:be):Extern.AbiNoEscape.same #[x]=pure x:=rfl
def jN(x:be)(w:co):(callFunc 380 #[x]).run Tryz.prog w= .ok (.value x) w:=by
 have hn:(Tryz.f380.name== "runtime.NumGoroutine")=false:=by kernel_rfl
 have hb:Tryz.f380.body.isNone=true:=by kernel_rfl
 simp only[callFunc,program,Sem.run_bind];simp[Sem.run,Tryz.func380,hn,hb,an8,agR,Result.andThen,mark,aqE]
def amt(s:f5)(c:Int):Extern.BytealgIndexByte.indexByte #[.string s,.int .u8 c]=(do
 match(List.range s.size).find? fun i=>s[i]! ==c.toNat.toUInt8 with
 |some i=>pure (goInt i)
 |none=>pure (goInt (-1))):=by
 show(do
  let b<-Extern.Bytes.bytesOf (.string s)
  let c<-Extern.Bytes.asByte (.int .u8 c)
  match(List.range b.size).find? fun i=>b[i]! ==c with
  |some i=>pure (goInt i)
  |none=>pure (goInt (-1)):Sem be)=_
 simp only[Extern.Bytes.bytesOf,Extern.Bytes.asByte];rfl
def kc(s:f5)(c:Int)(w:co):(callFunc 338 #[.string s,.int .u8 c]).run Tryz.prog w= .ok (.value (goInt (match(List.range s.size).find? (fun i=>s[i]! ==c.toNat.toUInt8)with|some i=>(i:Int)|none=> -1))) w:=by
 have hn:(Tryz.f338.name== "runtime.NumGoroutine")=false:=by kernel_rfl
 have hb:Tryz.f338.body.isNone=true:=by kernel_rfl
 simp only[callFunc,program,Sem.run_bind];simp only[Sem.run,Tryz.func338,hn,hb,an6,agP,Result.andThen,mark,amt];cases(List.range s.size).find? fun i=>s[i]! ==c.toNat.toUInt8<;>rfl
theorem Sq(c:bv):∀(l:ac bv) (n:Int),l.foldl (fun n x=>if x==c then n+1 else n) n=n+(l.countP (fun b=>b==c):Nat)
 |[],n=>by simp
 |x::xs,n=>by
  rw[zdw,Sq c xs,zej];split<;>omega
theorem XS(f:Int->bv->Int)(bU:f5):∀(i j:Nat) (b:Int),i+j=bU.size->
 (ByteArray.foldlM.loop (m:=_root_.Id) (fun x y=>pure (f x y)) bU bU.size (zcn _) i j b).run=(bU.data.toList.drop j).foldl f b
 |0,j,b,h=>by
  unfold ByteArray.foldlM.loop;have eI:bU.data.toList.length=bU.size:=rfl;have:bU.data.toList.drop j=[]:=by rw[List.drop_eq_nil_iff];omega
  rw[this];split<;>rfl
 |i+1,j,b,h=>by
  have hj:j<bU.size:=by omega
  unfold ByteArray.foldlM.loop;rw[dif_pos hj];have lE:j<bU.data.toList.length:=hj;rw[zds lE,zdw];exact XS f bU i (j+1) _ (by omega)
def adX(f:Int->bv->Int)(s:f5):s.foldl f (0:Int)=s.data.toList.foldl f 0:=by
 have:s.foldl f (0:Int)=(ByteArray.foldlM.loop (m:=_root_.Id) (fun x y=>pure (f x y)) s s.size (zcn _) (s.size-0) 0 0).run:=by
  unfold ByteArray.foldl ByteArray.foldlM;simp
 rw[this,XS f s (s.size-0) 0 0 (by omega)];simp
def aff(s:f5)(c:Int):Extern.BytealgCount.count #[.string s,.int .u8 c]=pure (goInt (s.data.toList.countP (fun b=>b==c.toNat.toUInt8):Nat)):=by
 have h0:Extern.BytealgCount.count #[.string s,.int .u8 c]=pure (goInt (s.foldl (fun n x=>if x==c.toNat.toUInt8 then n+1 else n) (0:Int))):=rfl;rw[h0,adX,Sq];simp
def bn(s:f5)(c:Int)(w:co):(callFunc 346 #[.string s,.int .u8 c]).run Tryz.prog w= .ok (.value (goInt (s.data.toList.countP (fun b=>b==c.toNat.toUInt8):Nat))) w:=by
 have hn:(Tryz.f346.name== "runtime.NumGoroutine")=false:=by kernel_rfl
 have hb:Tryz.f346.body.isNone=true:=by kernel_rfl
 simp only[callFunc,program,Sem.run_bind];simp[Sem.run,Tryz.func346,hn,hb,an7,agQ,Result.andThen,mark,aff]
theorem Ok:∀(b a:ac bv),wu b a=true↔b.isPrefixOf a=true
 |[],a=>by simp[wu]
 |x::xs,[]=>by simp[wu]
 |x::xs,y::av=>by simp[wu,Ok xs av]
theorem abR(b:ac bv)(hb:0<b.length):∀a:ac bv,oE b a=(List.range (a.length+1-b.length)).find? (fun i=>(a.drop i).take b.length==b)
 |[]=>by
  have:([]:ac bv).length+1-b.length=0:=by simp;omega
  rw[this];unfold oE;rw[zaa (by cases b<;>simp_all)];rfl
 |x::xs=>by
  unfold oE;have hp:wu b (x::xs)=((x::xs).take b.length==b):=by
   rw[zbb,Ok,zeV,List.prefix_iff_eq_take,beq_iff_eq];exact eq_comm
  by_cases h:wu b (x::xs)=true
  ·rw[zab h];have hle:b.length<=(x::xs).length:=by
    rw[Ok,zeV]at h;exact h.length_le
   rw[show(x::xs).length+1-b.length=((x::xs).length-b.length)+1 by omega,zeg,zeh];rw[hp]at h;simp only[zap,h]
  ·rw[zaa h,abR b hb xs];rcases zao (x::xs).length b.length with hl|hl
   ·have aw:(x::xs).length+1-b.length=0:=by omega
    have e2:xs.length+1-b.length=0:=by simp at hl;omega
    rw[aw,e2];rfl
   ·rw[show(x::xs).length+1-b.length=(xs.length+1-b.length)+1 by simp at hl ⊢;omega,zeg,zeh];have ae:((x::xs).take b.length==b)=false:=by rw[<-hp];simpa using h
    simp only[zap,ae];rw[List.find?_map];rfl
def agI(a b:f5)(i:Nat):(a.extract i (i+b.size)==b)=((a.data.toList.drop i).take b.data.toList.length==b.data.toList):=by
 have h0:(a.extract i (i+b.size)==b)=((a.extract i (i+b.size)).data==b.data):=rfl;rw[h0,zbb,beq_iff_eq,beq_iff_eq];have J:(a.extract i (i+b.size)).data.toList=(a.data.toList.drop i).take b.data.toList.length:=by
  rw[ByteArray.data_extract,zcV,zdv];have eI:b.data.toList.length=b.size:=rfl;rw[eI];congr 1;omega
 constructor
 ·intro h;rw[<-J,h]
 ·intro h;apply Array.toList_inj.1;rw[J,h]
def amU(s b:f5)(m:Int)(w:co)(hl:(load ⟨1,0,none⟩).run Tryz.prog w= .ok (.int .i64 m) w)(U:2<=b.size)(hm:(b.size:Int)<=m)(ai:s.size<=1000000):
 (Extern.BytealgIndex.index #[.string s,.string b]).run Tryz.prog w= .ok (goInt (match oE b.data.toList s.data.toList with|some i=>(i:Int)|none=> -1)) w:=by
 obtain⟨fc,hQ,e⟩:∃(fc hQ:Unsupported),Extern.BytealgIndex.index #[.string s,.string b]=(do
  let x<-Extern.Bytes.bytesOf (.string s)
  let y<-Extern.Bytes.bytesOf (.string b)
  if y.size<2||(y.size:Int)>(<-Extern.BytealgIndex.maxLen)then unsupported fc
  if x.size>=2^32-15 then unsupported hQ
  match(List.range (x.size+1-y.size)).find? fun i=>x.extract i (i+y.size)==y with
  |some i=>pure (goInt i)
  |none=>pure (goInt (-1)):Sem be):=⟨_,_,rfl⟩
 have aO:(globalAddr "internal/bytealg.MaxLen").run Tryz.prog w= .ok ⟨1,0,none⟩ w:=by
  have:Tryz.prog.globals.findIdx? (fun g=>g.name== "internal/bytealg.MaxLen")=some 1:=by kernel_rfl
  simp[globalAddr,program,Sem.run,this]
 have vH:Extern.BytealgIndex.maxLen.run Tryz.prog w= .ok m w:=by
  simp only[Extern.BytealgIndex.maxLen,Sem.run_bind,aO,Result.andThen,hl];simp[asInt,asIntOf]
 have ee:¬b.size<2:=by omega
 have fa:¬(b.size:Int)>m:=by omega
 have n6:¬s.size>=2^32-15:=by omega
 rw[e];simp only[Extern.Bytes.bytesOf,Sem.run_bind,Sem.run_pure,Result.andThen,vH,ee,fa,n6,decide_false,Bool.or_false,zaU,if_false];have Dr:=abR b.data.toList (show 0<b.size by omega) s.data.toList;have alS:(List.range (s.size+1-b.size)).find? (fun i=>s.extract i (i+b.size)==b)=oE b.data.toList s.data.toList:=by
  rw[Dr];simp only[agI];rfl
 rw[alS];cases oE b.data.toList s.data.toList<;>rfl
def idx(s b:f5)(m:Int)(w:co)(hl:(load ⟨1,0,none⟩).run Tryz.prog w= .ok (.int .i64 m) w)(U:2<=b.size)(hm:(b.size:Int)<=m)(ai:s.size<=1000000):
 (callFunc 266 #[.string s,.string b]).run Tryz.prog w= .ok (.value (goInt (match oE b.data.toList s.data.toList with|some i=>(i:Int)|none=> -1))) w:=by
 have hn:(Tryz.f266.name== "runtime.NumGoroutine")=false:=by kernel_rfl
 have hb:Tryz.f266.body.isNone=true:=by kernel_rfl
 have:=amU s b m w hl U hm ai;simp only[callFunc,program,Sem.run_bind];have aw:∀(x:Sem be),((do let r<-x;pure (Next.value r)):Sem Next).run Tryz.prog w=(x.run Tryz.prog w).andThen (fun v w'=>.ok (.value v) w'):=fun x=>by
  simp
 have e2:=aw (Extern.BytealgIndex.index #[.string s,.string b]);rw[this]at e2;simp only[Sem.run,Tryz.func266,hn,hb,an5,agO,Result.andThen,mark]at e2⊢;exact e2
def atP{n:Int}(h:Hy k n=true):(Lit.int k n).wf=true:=by
 unfold Hy at h;rw[zcQ,sx,sx]at h;simp only[Lit.wf,zcQ];exact h
def ok_int{v:be}(h:(fN.int k).ok v=true):∃n,v= .int k n∧(Lit.int k n).wf=true:=by
 obtain⟨k',n,rfl,U⟩:=iW (v:=v) (z:=false) (r:=true) h (by decide);rw[zcQ]at U;have:=sv U.1;subst this;exact⟨n,rfl,atP U.2⟩
def keys(k:ce):am fN:=if k=3 then some (.int .i64)else if k=9 then some .str else none
def n6:Tryz.prog.cellsOf 3=1:=by kernel_rfl
def ts:Tryz.prog.types.size+1=534:=by kernel_rfl
def su:∀k c8,keys k=some c8->Maps.Keyed Tryz.prog k∧∀v,c8.ok v=true->∃l,keyOf Tryz.prog k v=some l:=by
 intro k c8 h;unfold keys at h;split at h
 ·rename_i e;subst e;cases h;refine⟨Maps.int_keyed Tryz.underlying3,fun v aI=> ?_⟩;obtain⟨n,rfl,hn⟩:=ok_int aI;exact⟨_,Maps.keyOf_int_mk Tryz.underlying3 hn⟩
 ·split at h
  ·rename_i e;subst e;cases h;refine⟨Maps.Keyed.of_law (WideMaps.string_law Tryz.underlying9),fun v aI=> ?_⟩;obtain⟨s,rfl,U⟩:=oF (v:=v) (z:=false) (r:=true) aI (by decide);rw[fo]at U;have af:=pN.1 U;have ax:s.data.toList.length=s.size:=rfl;exact⟨_,WideMaps.keyOf_string_mk Tryz.underlying9 (by unfold maxLen;omega)⟩
  ·cases h
def R8:ac (Nat×Nat):=[(38,201),(76,2),(126,106),(148,2),(182,2)]
def eqs(t:ce):am Nat:=List.rec (motive:=fun _=>am Nat) none (fun p _ a8=>cond (Nat.beq p.1 t) (some p.2) a8) R8
theorem R9{t n:Nat}:∀{l:ac (Nat×Nat)},(List.rec (motive:=fun _=>am Nat) none (fun p _ a8=>cond (Nat.beq p.1 t) (some p.2) a8) l:am Nat)=some n->(t,n)∈l
 |[],h=>by cases h
 |p::l,h=>by
  have h:cond (Nat.beq p.1 t) (some p.2) (List.rec (motive:=fun _=>am Nat) none (fun p _ a8=>cond (Nat.beq p.1 t) (some p.2) a8) l:am Nat)=some n:=h;cases hb:Nat.beq p.1 t with
  |true=>
   rw[hb]at h;cases h;rw[<-zbQ hb];exact zbB
  |false=>
   rw[hb]at h;exact zaM _ (R9 h)
def agt:(R8.all fun p=>Gm Tryz.prog p.1 p.2)=true:=by kernel_rfl
def xr(t n:Nat)(h:eqs t=some n):Tryz.prog.eqGuardType Tryz.prog.depth t=false∧∀xs av b w,xs.size=n%100+n/100->av.size=n%100+n/100->kL (n%100) xs.toList av.toList=some b->(Op.equalIn 10000 t (.agg xs) (.agg av)).run Tryz.prog w= .ok b w:=
 have J:Gm Tryz.prog t n=true:=zbn.1 agt (t,n) (R9 h)
 agV J
def base:za where
 P:=Tryz.prog
 aD:=12
 jN:=fun f=>Nat.beq f 380
 kc:=fun f=>Nat.beq f 338
 D0:=fun f ae x w=>by rw[zbQ ae];exact jN x w
 DB:=fun f ae s c w=>by rw[zbQ ae];exact kc s c w
 keys:=keys
 su:=su
 qm:=fun f=>cond (Nat.beq f 410) (some 5) none
 DU:=fun f e h n w hn=>by
  cases hb:Nat.beq f 410 with
  |false=>rw[hb]at h;cases h
  |true=>
   rw[hb]at h;cases h;rw[zbQ hb];exact NB n w hn
 pS:=fun f=>Nat.beq f 346
 Cj:=fun f ae s c w=>by rw[zbQ ae];exact bn s c w
 qg:=fun f=>Nat.beq f 266
 lQ:=1
 DV:=by decide
 DD:=fun f ae s b m w J U af ax=>by rw[zbQ ae];exact idx s b m w J U af ax
 eqs:=eqs
 xr:=xr
def ctx:Ctx:=mkCtx base
def fF:Good ctx:=anO _ (by kernel_rfl)
