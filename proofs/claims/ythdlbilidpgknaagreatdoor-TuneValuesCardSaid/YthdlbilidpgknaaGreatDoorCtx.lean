/- What the abstract machine needs to know of this program; no condition. -/
import Derived.Lib.MakeNoZero
import Derived.Test.YthdlbilidpgknaaGreatDoorProg
import Derived.DeepKeys4
import Derived.Test.YthdlbilidpgknaaGreatDoorM3
noncomputable section
set_option linter.all false
namespace Go.aj.aT
open Go.Proofs
variable{k:d7}
def aof:Extern.findNext Tryz.f380=none:=by kernel_rfl
def agr:Extern.find Tryz.f380=some Extern.AbiNoEscape.same:=by kernel_rfl
def aod:Extern.findNext Tryz.f338=none:=by kernel_rfl
def agp:Extern.find Tryz.f338=some Extern.BytealgIndexByte.indexByte:=by kernel_rfl
def aoe:Extern.findNext Tryz.f346=none:=by kernel_rfl
def agq:Extern.find Tryz.f346=some Extern.BytealgCount.count:=by kernel_rfl
def aoc:Extern.findNext Tryz.f266=none:=by kernel_rfl
def ago:Extern.find Tryz.f266=some Extern.BytealgIndex.index:=by kernel_rfl
def aog:Extern.findNext Tryz.f410=none:=by kernel_rfl
def ags:Extern.find Tryz.f410=some (Extern.BytealgMakeNoZero.makeNoZero #[3] #[325]):=by kernel_rfl
def Np(n:Nat)(w:co)(hn:n<=281474976710656):∃(cs:ap be) (w':co),n<=cs.size∧Tryz.prog.cellsOf 5=1∧(callFunc 410 #[.int .i64 (n:Int)]).run Tryz.prog w= .ok (.value (.slice (some ⟨w.heap.size,0,none⟩) n cs.size)) w'∧w'.heap=w.heap.push (.cells cs 5)∧(w'.os=w.os∧w'.output=w.output):=by
 obtain⟨cs,h1,h2,_⟩:=Go.Lib.run_makeNoZero w #[3] 325 5 Tryz.underlying325 n hn;have iF:(Tryz.f410.name== "runtime.NumGoroutine")=false:=by kernel_rfl
 have hb:Tryz.f410.body.isNone=true:=by kernel_rfl
 refine⟨cs,w.drew.drew.alloc (.cells cs 5),h2,by kernel_rfl,?_,rfl,rfl,rfl⟩;simp only[callFunc,program,Sem.run_bind];simp only[Sem.run];simp[Tryz.func410,iF,hb,aog,ags,Result.andThen,mark];have e:Sem.run Tryz.prog (Sem.mark (Mark.extern 410) (Sem.pure ())) w=Result.ok () w:=rfl;simp only[e,h1]
def aqR(x:be):Extern.AbiNoEscape.same #[x]=pure x:=rfl
def jZ(x:be)(w:co):(callFunc 380 #[x]).run Tryz.prog w= .ok (.value x) w:=by
 have hn:(Tryz.f380.name== "runtime.NumGoroutine")=false:=by kernel_rfl
 have hb:Tryz.f380.body.isNone=true:=by kernel_rfl
 simp only[callFunc,program,Sem.run_bind];simp[Sem.run,Tryz.func380,hn,hb,aof,agr,Result.andThen,mark,aqR]
def amz(s:f5)(c:Int):Extern.BytealgIndexByte.indexByte #[.string s,.int .u8 c]=(do
 match(List.range s.size).find? fun i=>s[i]! ==c.toNat.toUInt8 with
 |some i=>pure (goInt i)
 |none=>pure (goInt (-1))):=by
 show(do
  let b<-Extern.Bytes.bytesOf (.string s)
  let c<-Extern.Bytes.asByte (.int .u8 c)
  match(List.range b.size).find? fun i=>b[i]! ==c with
  |some i=>pure (goInt i)
  |none=>pure (goInt (-1)):Sem be)=_
 simp only[Extern.Bytes.bytesOf,Extern.Bytes.asByte];rfl
def kl(s:f5)(c:Int)(w:co):(callFunc 338 #[.string s,.int .u8 c]).run Tryz.prog w= .ok (.value (goInt (match(List.range s.size).find? (fun i=>s[i]! ==c.toNat.toUInt8)with|some i=>(i:Int)|none=> -1))) w:=by
 have hn:(Tryz.f338.name== "runtime.NumGoroutine")=false:=by kernel_rfl
 have hb:Tryz.f338.body.isNone=true:=by kernel_rfl
 simp only[callFunc,program,Sem.run_bind];simp only[Sem.run,Tryz.func338,hn,hb,aod,agp,Result.andThen,mark,amz];cases(List.range s.size).find? fun i=>s[i]! ==c.toNat.toUInt8<;>rfl
theorem RW(c:bv):∀(l:ac bv) (n:Int),l.foldl (fun n x=>if x==c then n+1 else n) n=n+(l.countP (fun b=>b==c):Nat)
 |[],n=>by simp
 |x::xs,n=>by
  rw[zds,RW c xs,zeg];split<;>omega
theorem Xb(f:Int->bv->Int)(bS:f5):∀(i j:Nat) (b:Int),i+j=bS.size->
 (ByteArray.foldlM.loop (m:=_root_.Id) (fun x y=>pure (f x y)) bS bS.size (zch _) i j b).run=(bS.data.toList.drop j).foldl f b
 |0,j,b,h=>by
  unfold ByteArray.foldlM.loop;have eM:bS.data.toList.length=bS.size:=rfl;have:bS.data.toList.drop j=[]:=by rw[List.drop_eq_nil_iff];omega
  rw[this];split<;>rfl
 |i+1,j,b,h=>by
  have hj:j<bS.size:=by omega
  unfold ByteArray.foldlM.loop;rw[dif_pos hj];have lS:j<bS.data.toList.length:=hj;rw[zdo lS,zds];exact Xb f bS i (j+1) _ (by omega)
def adn(f:Int->bv->Int)(s:f5):s.foldl f (0:Int)=s.data.toList.foldl f 0:=by
 have:s.foldl f (0:Int)=(ByteArray.foldlM.loop (m:=_root_.Id) (fun x y=>pure (f x y)) s s.size (zch _) (s.size-0) 0 0).run:=by
  unfold ByteArray.foldl ByteArray.foldlM;simp
 rw[this,Xb f s (s.size-0) 0 0 (by omega)];simp
def aeF(s:f5)(c:Int):Extern.BytealgCount.count #[.string s,.int .u8 c]=pure (goInt (s.data.toList.countP (fun b=>b==c.toNat.toUInt8):Nat)):=by
 have h0:Extern.BytealgCount.count #[.string s,.int .u8 c]=pure (goInt (s.foldl (fun n x=>if x==c.toNat.toUInt8 then n+1 else n) (0:Int))):=rfl;rw[h0,adn,RW];simp
def bb(s:f5)(c:Int)(w:co):(callFunc 346 #[.string s,.int .u8 c]).run Tryz.prog w= .ok (.value (goInt (s.data.toList.countP (fun b=>b==c.toNat.toUInt8):Nat))) w:=by
 have hn:(Tryz.f346.name== "runtime.NumGoroutine")=false:=by kernel_rfl
 have hb:Tryz.f346.body.isNone=true:=by kernel_rfl
 simp only[callFunc,program,Sem.run_bind];simp[Sem.run,Tryz.func346,hn,hb,aoe,agq,Result.andThen,mark,aeF]
theorem N9:∀(b a:ac bv),wi b a=true↔b.isPrefixOf a=true
 |[],a=>by simp[wi]
 |x::xs,[]=>by simp[wi]
 |x::xs,y::ao=>by simp[wi,N9 xs ao]
theorem aa1(b:ac bv)(hb:0<b.length):∀a:ac bv,oM b a=(List.range (a.length+1-b.length)).find? (fun i=>(a.drop i).take b.length==b)
 |[]=>by
  have:([]:ac bv).length+1-b.length=0:=by simp;omega
  rw[this];unfold oM;rw[zaa (by cases b<;>simp_all)];rfl
 |x::xs=>by
  unfold oM;have hp:wi b (x::xs)=((x::xs).take b.length==b):=by
   rw[zaZ,N9,zeU,List.prefix_iff_eq_take,beq_iff_eq];exact eq_comm
  by_cases h:wi b (x::xs)=true
  ·rw[zab h];have hle:b.length<=(x::xs).length:=by
    rw[N9,zeU]at h;exact h.length_le
   rw[show(x::xs).length+1-b.length=((x::xs).length-b.length)+1 by omega,zec,zed];rw[hp]at h;simp only[zaq,h]
  ·rw[zaa h,aa1 b hb xs];rcases zan (x::xs).length b.length with hl|hl
   ·have aq:(x::xs).length+1-b.length=0:=by omega
    have e2:xs.length+1-b.length=0:=by simp at hl;omega
    rw[aq,e2];rfl
   ·rw[show(x::xs).length+1-b.length=(xs.length+1-b.length)+1 by simp at hl ⊢;omega,zec,zed];have aa:((x::xs).take b.length==b)=false:=by rw[<-hp];simpa using h
    simp only[zaq,aa];rw[List.find?_map];rfl
def agb(a b:f5)(i:Nat):(a.extract i (i+b.size)==b)=((a.data.toList.drop i).take b.data.toList.length==b.data.toList):=by
 have h0:(a.extract i (i+b.size)==b)=((a.extract i (i+b.size)).data==b.data):=rfl;rw[h0,zaZ,beq_iff_eq,beq_iff_eq];have h1:(a.extract i (i+b.size)).data.toList=(a.data.toList.drop i).take b.data.toList.length:=by
  rw[ByteArray.data_extract,zcU,zdr];have eM:b.data.toList.length=b.size:=rfl;rw[eM];congr 1;omega
 constructor
 ·intro h;rw[<-h1,h]
 ·intro h;apply Array.toList_inj.1;rw[h1,h]
def am1(s b:f5)(m:Int)(w:co)(hl:(load ⟨1,0,none⟩).run Tryz.prog w= .ok (.int .i64 m) w)(h2:2<=b.size)(hm:(b.size:Int)<=m)(ae:s.size<=1000000):
 (Extern.BytealgIndex.index #[.string s,.string b]).run Tryz.prog w= .ok (goInt (match oM b.data.toList s.data.toList with|some i=>(i:Int)|none=> -1)) w:=by
 obtain⟨eW,g1,e⟩:∃(eW g1:Unsupported),Extern.BytealgIndex.index #[.string s,.string b]=(do
  let x<-Extern.Bytes.bytesOf (.string s)
  let y<-Extern.Bytes.bytesOf (.string b)
  if y.size<2||(y.size:Int)>(<-Extern.BytealgIndex.maxLen)then unsupported eW
  if x.size>=2^32-15 then unsupported g1
  match(List.range (x.size+1-y.size)).find? fun i=>x.extract i (i+y.size)==y with
  |some i=>pure (goInt i)
  |none=>pure (goInt (-1)):Sem be):=⟨_,_,rfl⟩
 have aJ:(globalAddr "internal/bytealg.MaxLen").run Tryz.prog w= .ok ⟨1,0,none⟩ w:=by
  have:Tryz.prog.globals.findIdx? (fun g=>g.name== "internal/bytealg.MaxLen")=some 1:=by kernel_rfl
  simp[globalAddr,program,Sem.run,this]
 have p7:Extern.BytealgIndex.maxLen.run Tryz.prog w= .ok m w:=by
  simp only[Extern.BytealgIndex.maxLen,Sem.run_bind,aJ,Result.andThen,hl];simp[asInt,asIntOf]
 have eK:¬b.size<2:=by omega
 have fO:¬(b.size:Int)>m:=by omega
 have mW:¬s.size>=2^32-15:=by omega
 rw[e];simp only[Extern.Bytes.bytesOf,Sem.run_bind,Sem.run_pure,Result.andThen,p7,eK,fO,mW,decide_false,Bool.or_false,zbb,if_false];have C5:=aa1 b.data.toList (show 0<b.size by omega) s.data.toList;have alZ:(List.range (s.size+1-b.size)).find? (fun i=>s.extract i (i+b.size)==b)=oM b.data.toList s.data.toList:=by
  rw[C5];simp only[agb];rfl
 rw[alZ];cases oM b.data.toList s.data.toList<;>rfl
def idx(s b:f5)(m:Int)(w:co)(hl:(load ⟨1,0,none⟩).run Tryz.prog w= .ok (.int .i64 m) w)(h2:2<=b.size)(hm:(b.size:Int)<=m)(ae:s.size<=1000000):
 (callFunc 266 #[.string s,.string b]).run Tryz.prog w= .ok (.value (goInt (match oM b.data.toList s.data.toList with|some i=>(i:Int)|none=> -1))) w:=by
 have hn:(Tryz.f266.name== "runtime.NumGoroutine")=false:=by kernel_rfl
 have hb:Tryz.f266.body.isNone=true:=by kernel_rfl
 have:=am1 s b m w hl h2 hm ae;simp only[callFunc,program,Sem.run_bind];have aq:∀(x:Sem be),((do let r<-x;pure (Next.value r)):Sem Next).run Tryz.prog w=(x.run Tryz.prog w).andThen (fun v w'=>.ok (.value v) w'):=fun x=>by
  simp
 have e2:=aq (Extern.BytealgIndex.index #[.string s,.string b]);rw[this]at e2;simp only[Sem.run,Tryz.func266,hn,hb,aoc,ago,Result.andThen,mark]at e2⊢;exact e2
def auf{n:Int}(h:Hk k n=true):(Lit.int k n).wf=true:=by
 unfold Hk at h;rw[zcO,sq,sq]at h;simp only[Lit.wf,zcO];exact h
def ok_int{v:be}(h:(fL.int k).ok v=true):∃n,v= .int k n∧(Lit.int k n).wf=true:=by
 obtain⟨k',n,rfl,h2⟩:=ji (v:=v) (z:=false) (r:=true) h (by decide);rw[zcO]at h2;have:=sn h2.1;subst this;exact⟨n,rfl,auf h2.2⟩
def keys(k:ce):am fL:=if k=3 then some (.int .i64)else if k=9 then some .str else none
def mW:Tryz.prog.cellsOf 3=1:=by kernel_rfl
def ts:Tryz.prog.types.size+1=534:=by kernel_rfl
def sm:∀k c4,keys k=some c4->Maps.Keyed Tryz.prog k∧∀v,c4.ok v=true->∃l,keyOf Tryz.prog k v=some l:=by
 intro k c4 h;unfold keys at h;split at h
 ·rename_i e;subst e;cases h;refine⟨Maps.int_keyed Tryz.underlying3,fun v aF=> ?_⟩;obtain⟨n,rfl,hn⟩:=ok_int aF;exact⟨_,Maps.keyOf_int_mk Tryz.underlying3 hn⟩
 ·split at h
  ·rename_i e;subst e;cases h;refine⟨Maps.Keyed.of_law (WideMaps.string_law Tryz.underlying9),fun v aF=> ?_⟩;obtain⟨s,rfl,h2⟩:=oN (v:=v) (z:=false) (r:=true) aF (by decide);rw[fs]at h2;have h3:=pO.1 h2;have au:s.data.toList.length=s.size:=rfl;exact⟨_,WideMaps.keyOf_string_mk Tryz.underlying9 (by unfold maxLen;omega)⟩
  ·cases h
def RH:ac (Nat×Nat):=[(38,201),(76,2),(126,106),(148,2),(182,2)]
def eqs(t:ce):am Nat:=List.rec (motive:=fun _=>am Nat) none (fun p _ aZ=>cond (Nat.beq p.1 t) (some p.2) aZ) RH
theorem RI{t n:Nat}:∀{l:ac (Nat×Nat)},(List.rec (motive:=fun _=>am Nat) none (fun p _ aZ=>cond (Nat.beq p.1 t) (some p.2) aZ) l:am Nat)=some n->(t,n)∈l
 |[],h=>by cases h
 |p::l,h=>by
  have h:cond (Nat.beq p.1 t) (some p.2) (List.rec (motive:=fun _=>am Nat) none (fun p _ aZ=>cond (Nat.beq p.1 t) (some p.2) aZ) l:am Nat)=some n:=h;cases hb:Nat.beq p.1 t with
  |true=>
   rw[hb]at h;cases h;rw[<-zbQ hb];exact zbt
  |false=>
   rw[hb]at h;exact zaK _ (RI h)
def afW:(RH.all fun p=>F9 Tryz.prog p.1 p.2)=true:=by kernel_rfl
def xn(t n:Nat)(h:eqs t=some n):Tryz.prog.eqGuardType Tryz.prog.depth t=false∧∀xs ao b w,xs.size=n%100+n/100->ao.size=n%100+n/100->kT (n%100) xs.toList ao.toList=some b->(Op.equalIn 10000 t (.agg xs) (.agg ao)).run Tryz.prog w= .ok b w:=
 have h1:F9 Tryz.prog t n=true:=zbg.1 afW (t,n) (RI h)
 agw h1
def base:y0 where
 P:=Tryz.prog
 aB:=12
 jZ:=fun f=>Nat.beq f 380
 kl:=fun f=>Nat.beq f 338
 DM:=fun f aa x w=>by rw[zbQ aa];exact jZ x w
 Dh:=fun f aa s c w=>by rw[zbQ aa];exact kl s c w
 keys:=keys
 sm:=sm
 qn:=fun f=>cond (Nat.beq f 410) (some 5) none
 DD:=fun f e h n w hn=>by
  cases hb:Nat.beq f 410 with
  |false=>rw[hb]at h;cases h
  |true=>
   rw[hb]at h;cases h;rw[zbQ hb];exact Np n w hn
 pT:=fun f=>Nat.beq f 346
 BV:=fun f aa s c w=>by rw[zbQ aa];exact bb s c w
 qg:=fun f=>Nat.beq f 266
 l0:=1
 DE:=by decide
 Dj:=fun f aa s b m w h1 h2 h3 au=>by rw[zbQ aa];exact idx s b m w h1 h2 h3 au
 eqs:=eqs
 xn:=xn
def ctx:Ctx:=mkCtx base
def fA:Good ctx:=anT _ (by kernel_rfl)
