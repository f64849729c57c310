/- What the abstract machine needs to know of this program; no condition. -/
import Derived.Lib.MakeNoZero
import Derived.Test.YtdinjknpilkilaaGreatDoorProg
import Derived.DeepKeys4
import Derived.Test.YtdinjknpilkilaaGreatDoorM3
noncomputable section
set_option linter.all false
namespace Go.ah.a4
open Go.Proofs
variable{k:d8}{v:be}
def aoY:Extern.findNext Tryz.f259=none:=by kernel_rfl
def ahV:Extern.find Tryz.f259=some Extern.AbiNoEscape.same:=by kernel_rfl
def ao0:Extern.findNext Tryz.f307=none:=by kernel_rfl
def ahX:Extern.find Tryz.f307=some Extern.BytealgIndexByte.indexByte:=by kernel_rfl
def aoZ:Extern.findNext Tryz.f275=none:=by kernel_rfl
def ahW:Extern.find Tryz.f275=some Extern.BytealgIndex.index:=by kernel_rfl
def arO(x:be):Extern.AbiNoEscape.same #[x]=pure x:=rfl
def kI(x:be)(w:d7):(callFunc 259 #[x]).run Tryz.prog w= .ok (.value x) w:=by
 have hn:(Tryz.f259.name== "runtime.NumGoroutine")=false:=by kernel_rfl
 have hb:Tryz.f259.body.isNone=true:=by kernel_rfl
 simp only[callFunc,program,Sem.run_bind];simp[Sem.run,Tryz.func259,hn,hb,aoY,ahV,Result.andThen,mark,arO]
def anj(s:f6)(c:Int):Extern.BytealgIndexByte.indexByte #[.string s,.int .u8 c]=(do
 match(List.range s.size).find? fun i=>s[i]! ==c.toNat.toUInt8 with
 |some i=>pure (goInt i)
 |none=>pure (goInt (-1))):=by
 show(do
  let b<-Extern.Bytes.bytesOf (.string s)
  let c<-Extern.Bytes.asByte (.int .u8 c)
  match(List.range b.size).find? fun i=>b[i]! ==c with
  |some i=>pure (goInt i)
  |none=>pure (goInt (-1)):Sem be)=_
 simp only[Extern.Bytes.bytesOf,Extern.Bytes.asByte];rfl
def k4(s:f6)(c:Int)(w:d7):(callFunc 307 #[.string s,.int .u8 c]).run Tryz.prog w= .ok (.value (goInt (match(List.range s.size).find? (fun i=>s[i]! ==c.toNat.toUInt8)with|some i=>(i:Int)|none=> -1))) w:=by
 have hn:(Tryz.f307.name== "runtime.NumGoroutine")=false:=by kernel_rfl
 have hb:Tryz.f307.body.isNone=true:=by kernel_rfl
 simp only[callFunc,program,Sem.run_bind];simp only[Sem.run,Tryz.func307,hn,hb,ao0,ahX,Result.andThen,mark,anj];cases(List.range s.size).find? fun i=>s[i]! ==c.toNat.toUInt8<;>rfl
theorem PG:∀(b a:ac bv),w6 b a=true↔b.isPrefixOf a=true
 |[],a=>by simp[w6]
 |x::xs,[]=>by simp[w6]
 |x::xs,y::al=>by simp[w6,PG xs al]
theorem acP(b:ac bv)(hb:0<b.length):∀a:ac bv,px b a=(List.range (a.length+1-b.length)).find? (fun i=>(a.drop i).take b.length==b)
 |[]=>by
  have:([]:ac bv).length+1-b.length=0:=by simp;omega
  rw[this];unfold px;rw[zaa (by cases b<;>simp_all)];rfl
 |x::xs=>by
  unfold px;have hp:w6 b (x::xs)=((x::xs).take b.length==b):=by
   rw[zbl,PG,zfc,List.prefix_iff_eq_take,beq_iff_eq];exact eq_comm
  by_cases h:w6 b (x::xs)=true
  ·rw[zab h];have hle:b.length<=(x::xs).length:=by
    rw[PG,zfc]at h;exact h.length_le
   rw[show(x::xs).length+1-b.length=((x::xs).length-b.length)+1 by omega,zet,zeu];rw[hp]at h;simp only[zar,h]
  ·rw[zaa h,acP b hb xs];rcases zao (x::xs).length b.length with hl|hl
   ·have aq:(x::xs).length+1-b.length=0:=by omega
    have e2:xs.length+1-b.length=0:=by simp at hl;omega
    rw[aq,e2];rfl
   ·rw[show(x::xs).length+1-b.length=(xs.length+1-b.length)+1 by simp at hl ⊢;omega,zet,zeu];have U:((x::xs).take b.length==b)=false:=by rw[<-hp];simpa using h
    simp only[zar,U];rw[List.find?_map];rfl
def Ds(a b:f6)(i:Nat):(a.extract i (i+b.size)==b)=((a.data.toList.drop i).take b.data.toList.length==b.data.toList):=by
 have h0:(a.extract i (i+b.size)==b)=((a.extract i (i+b.size)).data==b.data):=rfl;rw[h0,zbl,beq_iff_eq,beq_iff_eq];have h1:(a.extract i (i+b.size)).data.toList=(a.data.toList.drop i).take b.data.toList.length:=by
  rw[ByteArray.data_extract,zdG,zdH];have et:b.data.toList.length=b.size:=rfl;rw[et];congr 1;omega
 constructor
 ·intro h;rw[<-h1,h]
 ·intro h;apply Array.toList_inj.1;rw[h1,h]
def anH(s b:f6)(m:Int)(w:d7)(hl:(load ⟨1,0,none⟩).run Tryz.prog w= .ok (.int .i64 m) w)(h2:2<=b.size)(hm:(b.size:Int)<=m)(af:s.size<=1000000):
 (Extern.BytealgIndex.index #[.string s,.string b]).run Tryz.prog w= .ok (goInt (match px b.data.toList s.data.toList with|some i=>(i:Int)|none=> -1)) w:=by
 obtain⟨jb,m0,e⟩:∃(jb m0:Unsupported),Extern.BytealgIndex.index #[.string s,.string b]=(do
  let x<-Extern.Bytes.bytesOf (.string s)
  let y<-Extern.Bytes.bytesOf (.string b)
  if y.size<2||(y.size:Int)>(<-Extern.BytealgIndex.maxLen)then unsupported jb
  if x.size>=2^32-15 then unsupported m0
  match(List.range (x.size+1-y.size)).find? fun i=>x.extract i (i+y.size)==y with
  |some i=>pure (goInt i)
  |none=>pure (goInt (-1)):Sem be):=⟨_,_,rfl⟩
 have aO:(globalAddr "internal/bytealg.MaxLen").run Tryz.prog w= .ok ⟨1,0,none⟩ w:=by
  have:Tryz.prog.globals.findIdx? (fun g=>g.name== "internal/bytealg.MaxLen")=some 1:=by kernel_rfl
  simp[globalAddr,program,Sem.run,this]
 have HO:Extern.BytealgIndex.maxLen.run Tryz.prog w= .ok m w:=by
  simp only[Extern.BytealgIndex.maxLen,Sem.run_bind,aO,Result.andThen,hl];simp[asInt,asIntOf]
 have fg:¬b.size<2:=by omega
 have e1:¬(b.size:Int)>m:=by omega
 have mg:¬s.size>=2^32-15:=by omega
 rw[e];simp only[Extern.Bytes.bytesOf,Sem.run_bind,Sem.run_pure,Result.andThen,HO,fg,e1,mg,decide_false,Bool.or_false,zbt,if_false];have amN:=acP b.data.toList (show 0<b.size by omega) s.data.toList;have amC:(List.range (s.size+1-b.size)).find? (fun i=>s.extract i (i+b.size)==b)=px b.data.toList s.data.toList:=by
  rw[amN];simp only[Ds];rfl
 rw[amC];cases px b.data.toList s.data.toList<;>rfl
def idx(s b:f6)(m:Int)(w:d7)(hl:(load ⟨1,0,none⟩).run Tryz.prog w= .ok (.int .i64 m) w)(h2:2<=b.size)(hm:(b.size:Int)<=m)(af:s.size<=1000000):
 (callFunc 275 #[.string s,.string b]).run Tryz.prog w= .ok (.value (goInt (match px b.data.toList s.data.toList with|some i=>(i:Int)|none=> -1))) w:=by
 have hn:(Tryz.f275.name== "runtime.NumGoroutine")=false:=by kernel_rfl
 have hb:Tryz.f275.body.isNone=true:=by kernel_rfl
 have:=anH s b m w hl h2 hm af;simp only[callFunc,program,Sem.run_bind];have aq:∀(x:Sem be),((do let r<-x;pure (Next.value r)):Sem Next).run Tryz.prog w=(x.run Tryz.prog w).andThen (fun v w'=>.ok (.value v) w'):=fun x=>by
  simp
 have e2:=aq (Extern.BytealgIndex.index #[.string s,.string b]);rw[this]at e2;simp only[Sem.run,Tryz.func275,hn,hb,aoZ,ahW,Result.andThen,mark]at e2⊢;exact e2
def auJ{n:Int}(h:Ig k n=true):(Lit.int k n).wf=true:=by
 unfold Ig at h;rw[zcr,tf,tf]at h;simp only[Lit.wf,zcr];exact h
def ok_int(h:(fW.int k).ok v=true):∃n,v= .int k n∧(Lit.int k n).wf=true:=by
 obtain⟨k',n,rfl,h2⟩:=j7 (v:=v) (z:=false) (r:=true) h (by decide);rw[zcr]at h2;have:=u0 h2.1;subst this;exact⟨n,rfl,auJ h2.2⟩
def apz{n:Nat}(h:(fW.arr k n).ok v=true):∃xs:ap be,v= .agg xs∧xs.toList.length=n∧∀x∈xs.toList,∃m,x= .int k m∧(Lit.int k m).wf=true:=by
 obtain⟨xs,rfl,h2⟩:=zV (v:=v) (z:=false) (r:=true) h (by decide);rw[zcr,zck,fC]at h2;exact⟨xs,rfl,zcE h2.1,fun x J=>ok_int (h2.2 x J)⟩
def keys(k:ce):am fW:=if k=3 then some (.int .i64)else if k=9 then some .str else if k=217 then some (.arr .i64 6)else none
def an7:WideMaps.KeyLaw Tryz.prog 217:=deep_law_laid (by kernel_rfl) (m:=2) (by omega) (zbB (by kernel_rfl)) (by kernel_rfl) (by kernel_rfl)
def mg:Tryz.prog.cellsOf 3=1:=by kernel_rfl
def SG:Tryz.prog.cellsOf 217=6:=by kernel_rfl
def an4:Tryz.prog.keyType 217=true:=by kernel_rfl
def ts:Tryz.prog.types.size+1=488:=by kernel_rfl
def anT(h:(fW.arr .i64 6).ok v=true):∃l,keyOf Tryz.prog 217 v=some l:=by
 obtain⟨xs,rfl,hlen,eI⟩:=apz h;obtain⟨l⟩:=xs;simp only at hlen eI
 match l,hlen with
 |[a,b,c,d,e,f],_=>
  obtain⟨a,rfl,auF⟩:=eI a (by simp);obtain⟨b,rfl,adH⟩:=eI b (by simp);obtain⟨c,rfl,Ri⟩:=eI c (by simp);obtain⟨d,rfl,wd⟩:=eI d (by simp);obtain⟨e,rfl,auI⟩:=eI e (by simp);obtain⟨f,rfl,wf⟩:=eI f (by simp);refine⟨.string (keyBytes [.int .i64 a,.int .i64 b,.int .i64 c,.int .i64 d,.int .i64 e,.int .i64 f]),?_⟩;unfold keyOf;rw[Tryz.underlying217,ts];have U:Value.formed Tryz.prog 217 (.agg #[.int .i64 a,.int .i64 b,.int .i64 c,.int .i64 d,.int .i64 e,.int .i64 f])=true:=by
   simp[Value.formed,Tryz.underlying217,SG]
  simp only[an4,U,Bool.and_self,if_true];have hk:∀n:Int,(Lit.int .i64 n).wf=true->Tryz.prog.keyLits 487 3 [.int .i64 n]=some [.int .i64 n]:=by
   intro n hn;simp[Program.keyLits,Tryz.underlying3,hn]
  have dz:∀cs:ac be,Tryz.prog.keyLits 488 217 cs=if cs.length=Tryz.prog.cellsOf 217 then((List.range 6).mapM fun i=>Tryz.prog.keyLits 487 3 ((cs.drop (i*Tryz.prog.cellsOf 3)).take (Tryz.prog.cellsOf 3))).map List.flatten else none:=by
   intro cs
   conv=>lhs;unfold Program.keyLits
   rw[Tryz.underlying217]
  rw[dz];simp[SG,mg,Value.cells,List.range,List.range.loop,hk a auF,hk b adH,hk c Ri,hk d wd,hk e auI,hk f wf]
def td:∀k cX,keys k=some cX->Maps.Keyed Tryz.prog k∧∀v,cX.ok v=true->∃l,keyOf Tryz.prog k v=some l:=by
 intro k cX h;unfold keys at h;split at h
 ·rename_i e;subst e;cases h;refine⟨Maps.int_keyed Tryz.underlying3,fun v aB=> ?_⟩;obtain⟨n,rfl,hn⟩:=ok_int aB;exact⟨_,Maps.keyOf_int_mk Tryz.underlying3 hn⟩
 ·split at h
  ·rename_i e;subst e;cases h;refine⟨Maps.Keyed.of_law (WideMaps.string_law Tryz.underlying9),fun v aB=> ?_⟩;obtain⟨s,rfl,h2⟩:=ql (v:=v) (z:=false) (r:=true) aB (by decide);rw[fC]at h2;have ab:=qt.1 h2;have aD:s.data.toList.length=s.size:=rfl;exact⟨_,WideMaps.keyOf_string_mk Tryz.underlying9 (by unfold maxLen;omega)⟩
  ·split at h
   ·rename_i e;subst e;cases h;exact⟨Maps.Keyed.of_law an7,fun v aB=>anT aB⟩
   ·cases h
def mi:ac (Nat×Nat):=[(53,2),(56,106),(63,201),(77,200),(286,2),(373,2)]
def eqs(t:ce):am Nat:=List.rec (motive:=fun _=>am Nat) none (fun p _ a1=>cond (Nat.beq p.1 t) (some p.2) a1) mi
theorem T0{t n:Nat}:∀{l:ac (Nat×Nat)},(List.rec (motive:=fun _=>am Nat) none (fun p _ a1=>cond (Nat.beq p.1 t) (some p.2) a1) l:am Nat)=some n->(t,n)∈l
 |[],h=>by cases h
 |p::l,h=>by
  have h:cond (Nat.beq p.1 t) (some p.2) (List.rec (motive:=fun _=>am Nat) none (fun p _ a1=>cond (Nat.beq p.1 t) (some p.2) a1) l:am Nat)=some n:=h;cases hb:Nat.beq p.1 t with
  |true=>
   rw[hb]at h;cases h;rw[<-zcE hb];exact zbF
  |false=>
   rw[hb]at h;exact zaB _ (T0 h)
def ahs:(mi.all fun p=>Hd Tryz.prog p.1 p.2)=true:=by kernel_rfl
def ya(t n:Nat)(h:eqs t=some n):Tryz.prog.eqGuardType Tryz.prog.depth t=false∧∀xs al b w,xs.size=n%100+n/100->al.size=n%100+n/100->o8 (n%100) xs.toList al.toList=some b->(Op.equalIn 10000 t (.agg xs) (.agg al)).run Tryz.prog w= .ok b w:=
 have h1:Hd Tryz.prog t n=true:=zck.1 ahs (t,n) (T0 h)
 ahZ h1
def base:z7 where
 P:=Tryz.prog
 az:=9
 kI:=fun f=>Nat.beq f 259
 k4:=fun f=>Nat.beq f 307
 EN:=fun f U x w=>by rw[zcE U];exact kI x w
 Ep:=fun f U s c w=>by rw[zcE U];exact k4 s c w
 keys:=keys
 td:=td
 qy:=fun _=>false
 C5:=fun _ h=>by cases h
 qV:=fun f=>Nat.beq f 275
 m1:=1
 EE:=by decide
 Es:=fun f U s b m w h1 h2 ab aD=>by rw[zcE U];exact idx s b m w h1 h2 ab aD
 eqs:=eqs
 ya:=ya
def ctx:Ctx:=mkCtx base
def hO:Good ctx:=aoJ _ (by kernel_rfl)
