/- What the abstract machine needs to know of this program; no condition. -/
import Derived.Lib.MakeNoZero
import Derived.Test.YtnbgimpdclpgbaaGreatDoorProg
import Derived.DeepKeys4
import Derived.Test.YtnbgimpdclpgbaaGreatDoorM2
noncomputable section
set_option linter.all false
namespace Go.bA.bS
open Go.Proofs
variable{k:f6}{v:bv}
def agv:Extern.findNext Tryz.f372=none:=br
def agw:Extern.find Tryz.f372=some Extern.AbiNoEscape.same:=br
def agx:Extern.findNext Tryz.f385=none:=br
def agy:Extern.find Tryz.f385=some Extern.BytealgIndexByte.indexByte:=br
def agz:Extern.findNext Tryz.f327=none:=br
def agA:Extern.find Tryz.f327=some Extern.BytealgCount.count:=br
def agB:Extern.findNext Tryz.f318=none:=br
def agC:Extern.find Tryz.f318=some Extern.BytealgIndex.index:=br
def agD(x:bv):Extern.AbiNoEscape.same #[x]=pure x:=rfl
def kR(x:bv)(w:f5):(callFunc 372 #[x]).run Tryz.prog w= .ok (.value x) w:=by
 have ah:(Tryz.f372.name== "runtime.NumGoroutine")=false:=br
 have aA:Tryz.f372.body.isNone=true:=br
 simp only[callFunc,program,Sem.run_bind];simp[Sem.run,Tryz.func372,ah,aA,agv,agw,Result.andThen,mark,agD]
def agE(s:f9)(c:Int):Extern.BytealgIndexByte.indexByte #[.string s,.int .u8 c]=(do
 match(List.range s.size).find? λi=>s[i]! ==c.toNat.toUInt8 with
 |some i=>pure (goInt i)
 |none=>pure<|goInt<|-1):=by
 show(do
  let b<-Extern.Bytes.bytesOf (.string s)
  let c<-Extern.Bytes.asByte (.int .u8 c)
  match(List.range b.size).find? λi=>b[i]! ==c with
  |some i=>pure (goInt i)
  |none=>pure (goInt<|-1):Sem bv)=_
 rfl
def lb(s:f9)(c:Int)(w:f5):(callFunc 385 #[.string s,.int .u8 c]).run Tryz.prog w= .ok (.value<|goInt (match(List.range s.size).find? (λi=>s[i]! ==c.toNat.toUInt8)with|some i=>(i:Int)|none=> -1)) w:=by
 have ah:(Tryz.f385.name== "runtime.NumGoroutine")=false:=br
 have aA:Tryz.f385.body.isNone=true:=br
 simp only[callFunc,program,Sem.run_bind];simp only[Sem.run,Tryz.func385,ah,aA,agx,agy,Result.andThen,mark,agE];cases(List.range s.size).find? λi=>s[i]! ==c.toNat.toUInt8<;>rfl
theorem Su(c:ci):∀(l:ac ci) (n:Int),l.foldl (λn x=>if x==c then n+1 else n) n=n+(l.countP (λb=>b==c):Nat)
 |[],n=>by simp
 |x::xs,n=>by
  rw[List.foldl_cons,Su c xs,HV];split<;>omega
theorem Sv(f:Int->ci->Int)(bZ:f9):∀(i J:Nat) (b:Int),i+J=bZ.size->
 (ByteArray.foldlM.loop (m:=_root_.Id) (λx y=>pure<|f x y) bZ bZ.size (dt _) i J b).run=(bZ.data.toList.drop J).foldl f b
 |0,J,b,h=>by
  unfold ByteArray.foldlM.loop;have d:bZ.data.toList.length=bZ.size:=rfl;have:bZ.data.toList.drop J=[]:=by grind
  rw[this];split<;>rfl
 |i+1,J,b,h=>by
  have a:J<bZ.size:=R
  unfold ByteArray.foldlM.loop;rw[ra a];have c:=a;rw[vn c];exact Sv f bZ i (J+1) _ R
def agF(f:Int->ci->Int)(s:f9):s.foldl f (0:Int)=s.data.toList.foldl f 0:=by
 have:s.foldl f (0:Int)=(ByteArray.foldlM.loop (m:=_root_.Id) (λx a=>pure<|f x a) s s.size (dt _) (s.size-0) 0 0).run:=by
  unfold ByteArray.foldl ByteArray.foldlM;simp
 rw[this,Sv f s (s.size-0) 0 0 R];simp
def agG(s:f9)(c:Int):Extern.BytealgCount.count #[.string s,.int .u8 c]=pure (goInt (s.data.toList.countP (λb=>b==c.toNat.toUInt8):Nat)):=by
 have bX:Extern.BytealgCount.count #[.string s,.int .u8 c]=pure (goInt<|s.foldl (λn x=>if x==c.toNat.toUInt8 then n+1 else n) 0):=rfl;rw[bX,agF,Su];simp
def aX(s:f9)(c:Int)(w:f5):(callFunc 327 #[.string s,.int .u8 c]).run Tryz.prog w= .ok (.value<|goInt (s.data.toList.countP (λb=>b==c.toNat.toUInt8):Nat)) w:=by
 have ah:(Tryz.f327.name== "runtime.NumGoroutine")=false:=br
 have aA:Tryz.f327.body.isNone=true:=br
 simp only[callFunc,program,Sem.run_bind];simp[Sem.run,Tryz.func327,ah,aA,agz,agA,Result.andThen,mark,agG]
theorem Sw:∀(b a:ac ci),tR b a=true↔b.isPrefixOf a=true
 |[],a=>by simp[tR]
 |x::xs,[]=>by simp[tR]
 |x::xs,y::c=>by simp[tR,Sw xs c]
theorem Sx(b:ac ci)(aA:0<b.length):∀a:ac ci,pa b a=(List.range<|a.length+1-b.length).find? (λi=>(a.drop i).take b.length==b)
 |[]=>by
  have:([]:ac ci).length+1-b.length=0:=by simp;omega
  rw[this];unfold pa;rw[aw<|by cases b<;>simp_all];rfl
 |x::xs=>by
  unfold pa;have hp:tR b (x::xs)=((x::xs).take b.length==b):=by
   rw[oX,Sw,List.isPrefixOf_iff_prefix,List.prefix_iff_eq_take,beq_iff_eq];exact eq_comm
  by_cases h:tR b (x::xs)=true
  ·rw[aE h];have hle:b.length<=(x::xs).length:=by grind
   rw[show(x::xs).length+1-b.length=((x::xs).length-b.length)+1 by omega,C5,HU];rw[hp]at h;simp[iQ,h]
  ·rw[aw h,Sx b aA xs];rcases fS (x::xs).length b.length with c|c
   ·have d:(x::xs).length+1-b.length=0:=by omega
    have f:xs.length+1-b.length=0:=by grind
    rw[d,f];rfl
   ·rw[show(x::xs).length+1-b.length=(xs.length+1-b.length)+1 by simp at c ⊢;omega,C5,HU];have e:((x::xs).take b.length==b)=false:=by grind
    simp only[iQ,e];rw[List.find?_map];rfl
def agH(a b:f9)(i:Nat):(a.extract i (i+b.size)==b)=((a.data.toList.drop i).take b.data.toList.length==b.data.toList):=by
 have d:(a.extract i (i+b.size)==b)=((a.extract i<|i+b.size).data==b.data):=rfl;rw[d,oX,beq_iff_eq,beq_iff_eq];have c:(a.extract i<|i+b.size).data.toList=(a.data.toList.drop i).take b.data.toList.length:=by
  rw[ByteArray.data_extract,Array.toList_extract,List.extract_eq_take_drop];have e:b.data.toList.length=b.size:=rfl;congr 1;omega
 constructor
 ·intro h;rw[<-c,h]
 ·intro h;apply Array.toList_inj.1;rw[c,h]
def agI(s b:f9)(m:Int)(w:f5)(aD:(load ⟨4,0,none⟩).run Tryz.prog w= .ok (.int .i64 m) w)(aL:2<=b.size)(hm:(b.size:Int)<=m)(u:s.size<=1000000):
 (Extern.BytealgIndex.index #[.string s,.string b]).run Tryz.prog w= .ok (goInt (match pa b.data.toList s.data.toList with|some i=>(i:Int)|none=> -1)) w:=by
 obtain⟨c,a,e⟩:∃(c a:Unsupported),Extern.BytealgIndex.index #[.string s,.string b]=(do
  let x<-Extern.Bytes.bytesOf (.string s)
  let y<-Extern.Bytes.bytesOf (.string b)
  if y.size<2||y.size>(<-Extern.BytealgIndex.maxLen)then unsupported c
  if x.size>=2^32-15 then unsupported a
  match(List.range<|x.size+1-y.size).find? λi=>x.extract i (i+y.size)==y with
  |some i=>pure (goInt i)
  |none=>pure (goInt<|-1):Sem bv):=⟨_,_,j⟩
 have d:(globalAddr "internal/bytealg.MaxLen").run Tryz.prog w= .ok ⟨4,0,none⟩ w:=by
  have:Tryz.prog.globals.findIdx? (λg=>g.name== "internal/bytealg.MaxLen")=some 4:=br
  simp[globalAddr,this]
 have f:Extern.BytealgIndex.maxLen.run Tryz.prog w= .ok m w:=by
  simp[Extern.BytealgIndex.maxLen,Sem.run_bind,d,Result.andThen,aD];simp[asInt,asIntOf]
 have n:¬b.size<2:=R
 have o:¬(b.size:Int)>m:=R
 have nV:¬s.size>=2^32-15:=R
 rw[e];simp[Extern.Bytes.bytesOf,Sem.run_bind,Sem.run_pure,Result.andThen,f,n,o,nV];have l:=Sx b.data.toList (show 0<b.size by omega) s.data.toList;have h:(List.range<|s.size+1-b.size).find? (λi=>s.extract i (i+b.size)==b)=pa b.data.toList s.data.toList:=by
  rw[l];simp only[agH];rfl
 rw[h];cases pa b.data.toList s.data.toList<;>rfl
def idx(s b:f9)(m:Int)(w:f5)(aD:(load ⟨4,0,none⟩).run Tryz.prog w= .ok (.int .i64 m) w)(aL:2<=b.size)(hm:(b.size:Int)<=m)(e:s.size<=1000000):
 (callFunc 318 #[.string s,.string b]).run Tryz.prog w= .ok (.value<|goInt (match pa b.data.toList s.data.toList with|some i=>(i:Int)|none=> -1)) w:=by
 have ah:(Tryz.f318.name== "runtime.NumGoroutine")=false:=br
 have aA:Tryz.f318.body.isNone=true:=br
 have:=agI s b m w aD aL hm e;simp only[callFunc,program,Sem.run_bind];have a:∀(x:Sem bv),((do let r<-x;pure (Next.value r)):Sem Next).run Tryz.prog w=(x.run Tryz.prog w).andThen (λv w'=>.ok (.value v) w'):=λx=>by
  simp
 have iW:=a<|Extern.BytealgIndex.index #[.string s,.string b];rw[this]at iW;simp only[Sem.run,Tryz.func318,ah,aA,agB,agC,Result.andThen,mark]at iW⊢;exact iW
def agJ{n:Int}(h:vR k n=true):(Lit.int k n).wf=true:=by
 unfold vR at h;rw[xG,o9,o9]at h;simp only[Lit.wf,xG];exact h
def ok_int(h:(fr.int k).ok v=true):∃n,v= .int k n/\(Lit.int k n).wf=true:=by
 obtain⟨b,n,rfl,a⟩:=nD h al;rw[xG]at a;have:=v5 a.1;subst this;exact⟨n,j,agJ a.2⟩
def agK{n:Nat}(h:(fr.arr k n).ok v=true):∃xs:bi bv,v= .agg xs/\xs.toList.length=n/\∀x∈xs.toList,∃m,x= .int k m/\(Lit.int k m).wf=true:=by
 obtain⟨xs,rfl,a⟩:=AM h al;rw[xG,il,eP]at a;exact⟨xs,j,vm a.1,λx b=>ok_int<|a.2 x b⟩
def keys(k:co):be fr:=if k=3 then some (.int .i64)else if k=9 then some .str else if k=197 then some (.arr .i64 6)else none
def agL:WideMaps.KeyLaw Tryz.prog 197:=deep_law_laid br (m:=2) R (hO br) br br
def nV:Tryz.prog.cellsOf 3=1:=br
def Sy:Tryz.prog.cellsOf 197=6:=br
def agM:Tryz.prog.keyType 197=true:=br
def ay:Tryz.prog.types.size+1=494:=br
def agN(h:(fr.arr .i64 6).ok v=true):∃l,keyOf Tryz.prog 197 v=some l:=by
 obtain⟨xs,rfl,s,g⟩:=agK h;obtain⟨l⟩:=xs
 match l,s with
 |[a,b,c,d,e,f],_=>
  obtain⟨a,rfl,p⟩:=g a av;obtain⟨b,rfl,de⟩:=g b av;obtain⟨c,rfl,m⟩:=g c av;obtain⟨d,rfl,t⟩:=g d av;obtain⟨e,rfl,o⟩:=g e av;obtain⟨f,rfl,wf⟩:=g f av;refine⟨.string<|keyBytes [.int .i64 a,.int .i64 b,.int .i64 c,.int .i64 d,.int .i64 e,.int .i64 f],?_⟩;unfold keyOf;rw[ay];have q:Value.formed Tryz.prog 197 (.agg #[.int .i64 a,.int .i64 b,.int .i64 c,.int .i64 d,.int .i64 e,.int .i64 f])=true:=by
   simp[Value.formed,Sy]
  simp[agM,q];have j:∀n:Int,(Lit.int .i64 n).wf=true->Tryz.prog.keyLits 493 3 [.int .i64 n]=some [.int .i64 n]:=by
   intro n ah;simp[Program.keyLits,ah]
  have r:∀cs:ac bv,Tryz.prog.keyLits 494 197 cs=if cs.length=Tryz.prog.cellsOf 197 then((List.range 6).mapM λi=>Tryz.prog.keyLits 493 3<|(cs.drop<|i*Tryz.prog.cellsOf 3).take<|Tryz.prog.cellsOf 3).map List.flatten else none:=by
   intro cs
   conv=>lhs;unfold Program.keyLits
   rw[Tryz.underlying197]
  rw[r];simp[Sy,nV,Value.cells,List.range,List.range.loop,j a p,j b de,j c m,j d t,j e o,j f wf]
def rB:∀k cp,keys k=some cp->Maps.Keyed Tryz.prog k/\∀v,cp.ok v=true->∃l,keyOf Tryz.prog k v=some l:=by
 intro k cp h;unfold keys at h;split at h
 ·rename_i e;subst e;cases h;refine⟨Maps.int_keyed Tryz.underlying3,λv a=>?_⟩;obtain⟨n,rfl,ah⟩:=ok_int a;exact⟨_,Maps.keyOf_int_mk Tryz.underlying3 ah⟩
 ·split at h
  ·rename_i e;subst e;cases h;refine⟨Maps.Keyed.of_law<|WideMaps.string_law Tryz.underlying9,λv a=>?_⟩;obtain⟨s,rfl,b⟩:=ye a al;rw[eP]at b;have d:=lf.1 b;have c:s.data.toList.length=s.size:=rfl;exact⟨_,WideMaps.keyOf_string_mk Tryz.underlying9<|by unfold maxLen;omega⟩
  ·split at h
   ·rename_i e;subst e;cases h;exact⟨Maps.Keyed.of_law agL,λv a=>agN a⟩
   ·cases h
def FX:ac (Nat×Nat):=[(50,200),(172,106),(258,2),(267,2),(283,201),(415,2)]
def eqs(t:co):be Nat:=List.rec (motive:=λ_=>be Nat) none (λp _ a=>cond (Nat.beq p.1 t) (some p.2) a) FX
theorem Sz{t n:Nat}:∀{l:ac (Nat×Nat)},(List.rec (motive:=λ_=>be Nat) none (λp _ a=>cond (Nat.beq p.1 t) (some p.2) a) l:be Nat)=some n->(t,n)∈l
 |[],h=>by cases h
 |p::l,h=>by
  have h:cond (Nat.beq p.1 t) (some p.2) (List.rec none (λp _ a=>cond (Nat.beq p.1 t) (some p.2) a) l:be Nat)=some n:=h;cases b:Nat.beq p.1 t with
  |true=>
   rw[b]at h;cases h;rw[<-vm b];exact g5
  |false=>
   rw[b]at h;exact e5 _<|Sz h
def agO:(FX.all λp=>JB Tryz.prog p.1 p.2)=true:=br
def vY(t n:Nat)(h:eqs t=some n):Tryz.prog.eqGuardType Tryz.prog.depth t=false/\∀xs a b w,xs.size=n%100+n/100->a.size=n%100+n/100->qg (n%100) xs.toList a.toList=some b->(Op.equalIn 10000 t (.agg xs)<|.agg a).run Tryz.prog w= .ok b w:=
 have c:=il.1 agO (t,n) (Sz h)
 acP c
def base:yB where
 P:=Tryz.prog
 a3:=11
 kR:=λf=>Nat.beq f 372
 lb:=λf=>Nat.beq f 385
 AP:=λf a x w=>by rw[vm a];exact kR x w
 AQ:=λf a s c w=>by rw[vm a];exact lb s c w
 keys:=keys
 rB:=rB
 pg:=λf=>Nat.beq f 327
 AR:=λf a s c w=>by rw[vm a];exact aX s c w
 ph:=λf=>Nat.beq f 318
 lj:=4
 AS:=by decide
 AT:=λf a s b m w g h e d=>by rw[vm a];exact idx s b m w g h e d
 eqs:=eqs
 vY:=vY
def ctx:Ctx:=mkCtx base
def ea:Good ctx:=acN _ br
