/- What the abstract machine needs to know of this program; no condition. -/
import Derived.Test.YteenccgikdibpaaGreatDoorProg
import Derived.DeepKeys4
import Derived.Test.YteenccgikdibpaaGreatDoorM3
noncomputable section
set_option linter.all false
namespace Go.an.aC
open Go.Proofs
theorem anW:Extern.findNext Tryz.f345=none:=by kernel_rfl
theorem agr:Extern.find Tryz.f345=some Extern.AbiNoEscape.same:=by kernel_rfl
theorem anX:Extern.findNext Tryz.f347=none:=by kernel_rfl
theorem ags:Extern.find Tryz.f347=some Extern.BytealgIndexByte.indexByte:=by kernel_rfl
theorem anV:Extern.findNext Tryz.f302=none:=by kernel_rfl
theorem agq:Extern.find Tryz.f302=some Extern.BytealgCount.count:=by kernel_rfl
theorem anU:Extern.findNext Tryz.f289=none:=by kernel_rfl
theorem agp:Extern.find Tryz.f289=some Extern.BytealgIndex.index:=by kernel_rfl
theorem aqs(x:Value):Extern.AbiNoEscape.same #[x]=pure x:=rfl
theorem jP(x:Value)(w:World):(callFunc 345 #[x]).run Tryz.prog w= .ok (.value x) w:=by
 have hn:(Tryz.f345.name== "runtime.NumGoroutine")=false:=by kernel_rfl
 have aa:Tryz.f345.body.isNone=true:=by kernel_rfl
 simp only[callFunc,program,Sem.run_bind];simp[Sem.run,Tryz.func345,hn,aa,anW,agr,Result.andThen,mark,aqs]
theorem amf(s:ByteArray)(c:Int):Extern.BytealgIndexByte.indexByte #[.string s,.int .u8 c]=(do
 match(List.range s.size).find? fun i=>s[i]! ==c.toNat.toUInt8 with
 |some i=>pure (goInt i)
 |none=>pure (goInt (-1))):=by
 show(do
  let b<-Extern.Bytes.bytesOf (.string s)
  let c<-Extern.Bytes.asByte (.int .u8 c)
  match(List.range b.size).find? fun i=>b[i]! ==c with
  |some i=>pure (goInt i)
  |none=>pure (goInt (-1)):Sem Value)=_
 simp only[Extern.Bytes.bytesOf,Extern.Bytes.asByte];rfl
theorem kb(s:ByteArray)(c:Int)(w:World):(callFunc 347 #[.string s,.int .u8 c]).run Tryz.prog w= .ok (.value (goInt (match(List.range s.size).find? (fun i=>s[i]! ==c.toNat.toUInt8)with|some i=>(i:Int)|none=> -1))) w:=by
 have hn:(Tryz.f347.name== "runtime.NumGoroutine")=false:=by kernel_rfl
 have aa:Tryz.f347.body.isNone=true:=by kernel_rfl
 simp only[callFunc,program,Sem.run_bind];simp only[Sem.run,Tryz.func347,hn,aa,anX,ags,Result.andThen,mark,amf];cases(List.range s.size).find? fun i=>s[i]! ==c.toNat.toUInt8<;>rfl
theorem Ri(c:UInt8):∀(l:List UInt8) (n:Int),l.foldl (fun n x=>if x==c then n+1 else n) n=n+(l.countP (fun b=>b==c):Nat)
 |[],n=>by simp
 |x::xs,n=>by
  rw[List.foldl_cons,Ri c xs,List.countP_cons];split<;>omega
theorem VV(f:Int->UInt8->Int)(bW:ByteArray):∀(i j:Nat) (b:Int),i+j=bW.size->
 (ByteArray.foldlM.loop (m:=_root_.Id) (fun x y=>pure (f x y)) bW bW.size (Nat.le_refl _) i j b).run=(bW.data.toList.drop j).foldl f b
 |0,j,b,h=>by
  unfold ByteArray.foldlM.loop;have eJ:bW.data.toList.length=bW.size:=rfl;have:bW.data.toList.drop j=[]:=by rw[List.drop_eq_nil_iff];omega
  rw[this];split<;>rfl
 |i+1,j,b,h=>by
  have hj:j<bW.size:=by omega
  unfold ByteArray.foldlM.loop;rw[dif_pos hj];have lB:j<bW.data.toList.length:=hj;rw[List.drop_eq_getElem_cons lB,List.foldl_cons];exact VV f bW i (j+1) _ (by omega)
theorem acv(f:Int->UInt8->Int)(s:ByteArray):s.foldl f (0:Int)=s.data.toList.foldl f 0:=by
 have:s.foldl f (0:Int)=(ByteArray.foldlM.loop (m:=_root_.Id) (fun x y=>pure (f x y)) s s.size (Nat.le_refl _) (s.size-0) 0 0).run:=by
  unfold ByteArray.foldl ByteArray.foldlM;simp
 rw[this,VV f s (s.size-0) 0 0 (by omega)];simp
theorem aeL(s:ByteArray)(c:Int):Extern.BytealgCount.count #[.string s,.int .u8 c]=pure (goInt (s.data.toList.countP (fun b=>b==c.toNat.toUInt8):Nat)):=by
 have h0:Extern.BytealgCount.count #[.string s,.int .u8 c]=pure (goInt (s.foldl (fun n x=>if x==c.toNat.toUInt8 then n+1 else n) (0:Int))):=rfl;rw[h0,acv,Ri];simp
theorem bf(s:ByteArray)(c:Int)(w:World):(callFunc 302 #[.string s,.int .u8 c]).run Tryz.prog w= .ok (.value (goInt (s.data.toList.countP (fun b=>b==c.toNat.toUInt8):Nat))) w:=by
 have hn:(Tryz.f302.name== "runtime.NumGoroutine")=false:=by kernel_rfl
 have aa:Tryz.f302.body.isNone=true:=by kernel_rfl
 simp only[callFunc,program,Sem.run_bind];simp[Sem.run,Tryz.func302,hn,aa,anV,agq,Result.andThen,mark,aeL]
theorem M7:∀(b a:List UInt8),vt b a=true↔b.isPrefixOf a=true
 |[],a=>by simp[vt]
 |x::xs,[]=>by simp[vt]
 |x::xs,y::aq=>by simp[vt,M7 xs aq]
theorem ZS(b:List UInt8)(aa:0<b.length):∀a:List UInt8,n8 b a=(List.range (a.length+1-b.length)).find? (fun i=>(a.drop i).take b.length==b)
 |[]=>by
  have:([]:List UInt8).length+1-b.length=0:=by simp;omega
  rw[this];unfold n8;rw[if_neg (by cases b<;>simp_all)];rfl
 |x::xs=>by
  unfold n8;have hp:vt b (x::xs)=((x::xs).take b.length==b):=by
   rw[Bool.eq_iff_iff,M7,List.isPrefixOf_iff_prefix,List.prefix_iff_eq_take,beq_iff_eq];exact eq_comm
  by_cases h:vt b (x::xs)=true
  ·rw[if_pos h];have hle:b.length<=(x::xs).length:=by
    rw[M7,List.isPrefixOf_iff_prefix]at h;exact h.length_le
   rw[show(x::xs).length+1-b.length=((x::xs).length-b.length)+1 by omega,List.range_succ_eq_map,List.find?_cons];rw[hp]at h;simp only[List.drop_zero,h]
  ·rw[if_neg h,ZS b aa xs];rcases Nat.lt_or_ge (x::xs).length b.length with hl|hl
   ·have aA:(x::xs).length+1-b.length=0:=by omega
    have e2:xs.length+1-b.length=0:=by simp at hl;omega
    rw[aA,e2];rfl
   ·rw[show(x::xs).length+1-b.length=(xs.length+1-b.length)+1 by simp at hl ⊢;omega,List.range_succ_eq_map,List.find?_cons];have ab:((x::xs).take b.length==b)=false:=by rw[<-hp];simpa using h
    simp only[List.drop_zero,ab];rw[List.find?_map];rfl
theorem agf(a b:ByteArray)(i:Nat):(a.extract i (i+b.size)==b)=((a.data.toList.drop i).take b.data.toList.length==b.data.toList):=by
 have h0:(a.extract i (i+b.size)==b)=((a.extract i (i+b.size)).data==b.data):=rfl;rw[h0,Bool.eq_iff_iff,beq_iff_eq,beq_iff_eq];have h1:(a.extract i (i+b.size)).data.toList=(a.data.toList.drop i).take b.data.toList.length:=by
  rw[ByteArray.data_extract,Array.toList_extract,List.extract_eq_take_drop];have eJ:b.data.toList.length=b.size:=rfl;rw[eJ];congr 1;omega
 constructor
 ·intro h;rw[<-h1,h]
 ·intro h;apply Array.toList_inj.1;rw[h1,h]
theorem amI(s b:ByteArray)(m:Int)(w:World)(hl:(load ⟨4,0,none⟩).run Tryz.prog w= .ok (.int .i64 m) w)(h2:2<=b.size)(hm:(b.size:Int)<=m)(ah:s.size<=1000000):
 (Extern.BytealgIndex.index #[.string s,.string b]).run Tryz.prog w= .ok (goInt (match n8 b.data.toList s.data.toList with|some i=>(i:Int)|none=> -1)) w:=by
 obtain⟨fK,iQ,e⟩:∃(fK iQ:Unsupported),Extern.BytealgIndex.index #[.string s,.string b]=(do
  let x<-Extern.Bytes.bytesOf (.string s)
  let y<-Extern.Bytes.bytesOf (.string b)
  if y.size<2||(y.size:Int)>(<-Extern.BytealgIndex.maxLen)then unsupported fK
  if x.size>=2^32-15 then unsupported iQ
  match(List.range (x.size+1-y.size)).find? fun i=>x.extract i (i+y.size)==y with
  |some i=>pure (goInt i)
  |none=>pure (goInt (-1)):Sem Value):=⟨_,_,rfl⟩
 have aO:(globalAddr "internal/bytealg.MaxLen").run Tryz.prog w= .ok ⟨4,0,none⟩ w:=by
  have:Tryz.prog.globals.findIdx? (fun g=>g.name== "internal/bytealg.MaxLen")=some 4:=by kernel_rfl
  simp[globalAddr,program,Sem.run,this]
 have Gm:Extern.BytealgIndex.maxLen.run Tryz.prog w= .ok m w:=by
  simp only[Extern.BytealgIndex.maxLen,Sem.run_bind,aO,Result.andThen,hl];simp[asInt,asIntOf]
 have dh:¬b.size<2:=by omega
 have dC:¬(b.size:Int)>m:=by omega
 have jH:¬s.size>=2^32-15:=by omega
 rw[e];simp only[Extern.Bytes.bytesOf,Sem.run_bind,Sem.run_pure,Result.andThen,Gm,dh,dC,jH,decide_false,Bool.or_false,Bool.false_eq_true,if_false];have CT:=ZS b.data.toList (show 0<b.size by omega) s.data.toList;have alF:(List.range (s.size+1-b.size)).find? (fun i=>s.extract i (i+b.size)==b)=n8 b.data.toList s.data.toList:=by
  rw[CT];simp only[agf];rfl
 rw[alF];cases n8 b.data.toList s.data.toList<;>rfl
theorem idx(s b:ByteArray)(m:Int)(w:World)(hl:(load ⟨4,0,none⟩).run Tryz.prog w= .ok (.int .i64 m) w)(h2:2<=b.size)(hm:(b.size:Int)<=m)(ah:s.size<=1000000):
 (callFunc 289 #[.string s,.string b]).run Tryz.prog w= .ok (.value (goInt (match n8 b.data.toList s.data.toList with|some i=>(i:Int)|none=> -1))) w:=by
 have hn:(Tryz.f289.name== "runtime.NumGoroutine")=false:=by kernel_rfl
 have aa:Tryz.f289.body.isNone=true:=by kernel_rfl
 have:=amI s b m w hl h2 hm ah;simp only[callFunc,program,Sem.run_bind];have aA:∀(x:Sem Value),((do let r<-x;pure (Next.value r)):Sem Next).run Tryz.prog w=(x.run Tryz.prog w).andThen (fun v w'=>.ok (.value v) w'):=fun x=>by
  simp
 have e2:=aA (Extern.BytealgIndex.index #[.string s,.string b]);rw[this]at e2;simp only[Sem.run,Tryz.func289,hn,aa,anU,agp,Result.andThen,mark]at e2⊢;exact e2
theorem atz{k:IntKind}{n:Int}(h:GI k n=true):(Lit.int k n).wf=true:=by
 unfold GI at h;rw[Bool.and_eq_true,rS,rS]at h;simp only[Lit.wf,Bool.and_eq_true];exact h
theorem ok_int{k:IntKind}{v:Value}(h:(fN.int k).ok v=true):∃n,v= .int k n∧(Lit.int k n).wf=true:=by
 obtain⟨k',n,rfl,h2⟩:=jl (v:=v) (z:=false) (r:=true) h (by decide);rw[Bool.and_eq_true]at h2;have:=tc h2.1;subst this;exact⟨n,rfl,atz h2.2⟩
def keys(k:TypeId):Option fN:=if k=3 then some (.int .i64)else if k=9 then some .str else none
theorem jH:Tryz.prog.cellsOf 3=1:=by kernel_rfl
theorem ts:Tryz.prog.types.size+1=521:=by kernel_rfl
theorem rQ:∀k c9,keys k=some c9->Maps.Keyed Tryz.prog k∧∀v,c9.ok v=true->∃l,keyOf Tryz.prog k v=some l:=by
 intro k c9 h;unfold keys at h;split at h
 ·rename_i e;subst e;cases h;refine⟨Maps.int_keyed Tryz.underlying3,fun v aH=> ?_⟩;obtain⟨n,rfl,hn⟩:=ok_int aH;exact⟨_,Maps.keyOf_int_mk Tryz.underlying3 hn⟩
 ·split at h
  ·rename_i e;subst e;cases h;refine⟨Maps.Keyed.of_law (WideMaps.string_law Tryz.underlying9),fun v aH=> ?_⟩;obtain⟨s,rfl,h2⟩:=oZ (v:=v) (z:=false) (r:=true) aH (by decide);rw[fU]at h2;have h3:=pa.1 h2;have ay:s.data.toList.length=s.size:=rfl;exact⟨_,WideMaps.keyOf_string_mk Tryz.underlying9 (by unfold maxLen;omega)⟩
  ·cases h
def Q3:List (Nat×Nat):=[(87,106),(92,2),(95,201),(99,2),(263,2)]
def eqs(t:TypeId):Option Nat:=List.rec (motive:=fun _=>Option Nat) none (fun p _ a0=>cond (Nat.beq p.1 t) (some p.2) a0) Q3
theorem Q4{t n:Nat}:∀{l:List (Nat×Nat)},(List.rec (motive:=fun _=>Option Nat) none (fun p _ a0=>cond (Nat.beq p.1 t) (some p.2) a0) l:Option Nat)=some n->(t,n)∈l
 |[],h=>by cases h
 |p::l,h=>by
  have h:cond (Nat.beq p.1 t) (some p.2) (List.rec (motive:=fun _=>Option Nat) none (fun p _ a0=>cond (Nat.beq p.1 t) (some p.2) a0) l:Option Nat)=some n:=h;cases aa:Nat.beq p.1 t with
  |true=>
   rw[aa]at h;cases h;rw[<-Nat.eq_of_beq_eq_true aa];exact List.mem_cons_self
  |false=>
   rw[aa]at h;exact List.mem_cons_of_mem _ (Q4 h)
theorem af3:(Q3.all fun p=>FJ Tryz.prog p.1 p.2)=true:=by kernel_rfl
theorem wB(t n:Nat)(h:eqs t=some n):Tryz.prog.eqGuardType Tryz.prog.depth t=false∧∀xs aq b w,xs.size=n%100+n/100->aq.size=n%100+n/100->kB (n%100) xs.toList aq.toList=some b->(Op.equalIn 10000 t (.agg xs) (.agg aq)).run Tryz.prog w= .ok b w:=
 have h1:FJ Tryz.prog t n=true:=List.all_eq_true.1 af3 (t,n) (Q4 h)
 agu h1
def base:yz where
 P:=Tryz.prog
 aE:=12
 jP:=fun f=>Nat.beq f 345
 kb:=fun f=>Nat.beq f 347
 Dq:=fun f ab x w=>by rw[Nat.eq_of_beq_eq_true ab];exact jP x w
 C4:=fun f ab s c w=>by rw[Nat.eq_of_beq_eq_true ab];exact kb s c w
 keys:=keys
 rQ:=rQ
 pe:=fun f=>Nat.beq f 302
 BL:=fun f ab s c w=>by rw[Nat.eq_of_beq_eq_true ab];exact bf s c w
 pP:=fun f=>Nat.beq f 289
 lG:=4
 Dl:=by decide
 C6:=fun f ab s b m w h1 h2 h3 ay=>by rw[Nat.eq_of_beq_eq_true ab];exact idx s b m w h1 h2 h3 ay
 eqs:=eqs
 wB:=wB
def ctx:Ctx:=mkCtx base
theorem cv:Good ctx:=anE _ (by kernel_rfl)
