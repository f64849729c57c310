/- What the abstract machine needs to know of this program; no condition. -/
import Derived.Lib.MakeNoZero
import Derived.Test.YtnbgimpdclpgbaaGreatDoorProg
import Derived.DeepKeys4
import Derived.Test.YtnbgimpdclpgbaaGreatDoorSqM2
noncomputable section
set_option linter.all false
namespace Go.bC.b5
open Go.Proofs
variable{k:f6}{v:bv}
def agz:Extern.findNext Tryz.f372=none:=bu
def agA:Extern.find Tryz.f372=some Extern.AbiNoEscape.same:=bu
def agB:Extern.findNext Tryz.f385=none:=bu
def agC:Extern.find Tryz.f385=some Extern.BytealgIndexByte.indexByte:=bu
def agD:Extern.findNext Tryz.f327=none:=bu
def agE:Extern.find Tryz.f327=some Extern.BytealgCount.count:=bu
def agF:Extern.findNext Tryz.f318=none:=bu
def agG:Extern.find Tryz.f318=some Extern.BytealgIndex.index:=bu
def agH(x:bv):Extern.AbiNoEscape.same #[x]=pure x:=rfl
def ll(x:bv)(w:f5):(callFunc 372 #[x]).run Tryz.prog w= .ok (.value x) w:=by
 have aj:(Tryz.f372.name== "runtime.NumGoroutine")=false:=bu
 have ay:Tryz.f372.body.isNone=true:=bu
 simp only[callFunc,program,Sem.run_bind];simp[Sem.run,Tryz.func372,aj,ay,agz,agA,Result.andThen,mark,agH]
def agI(s:f9)(c:Int):Extern.BytealgIndexByte.indexByte #[.string s,.int .u8 c]=(do
 match(List.range s.size).find? λi=>s[i]! ==c.toNat.toUInt8 with
 |some i=>pure (goInt i)
 |none=>pure<|goInt<|-1):=by
 show(do
  let b<-Extern.Bytes.bytesOf (.string s)
  let c<-Extern.Bytes.asByte (.int .u8 c)
  match(List.range b.size).find? λi=>b[i]! ==c with
  |some i=>pure (goInt i)
  |none=>pure (goInt<|-1):Sem bv)=_
 rfl
def lO(s:f9)(c:Int)(w:f5):(callFunc 385 #[.string s,.int .u8 c]).run Tryz.prog w= .ok (.value<|goInt (match(List.range s.size).find? (λi=>s[i]! ==c.toNat.toUInt8)with|some i=>(i:Int)|none=> -1)) w:=by
 have aj:(Tryz.f385.name== "runtime.NumGoroutine")=false:=bu
 have ay:Tryz.f385.body.isNone=true:=bu
 simp only[callFunc,program,Sem.run_bind];simp only[Sem.run,Tryz.func385,aj,ay,agB,agC,Result.andThen,mark,agI];cases(List.range s.size).find? λi=>s[i]! ==c.toNat.toUInt8<;>rfl
theorem S0(c:ci):∀(l:ac ci) (n:Int),l.foldl (λn x=>if x==c then n+1 else n) n=n+(l.countP (λb=>b==c):Nat)
 |[],n=>by simp
 |x::xs,n=>by
  rw[List.foldl_cons,S0 c xs,Is];split<;>omega
theorem S1(f:Int->ci->Int)(b2:f9):∀(i J:Nat) (b:Int),i+J=b2.size->
 (ByteArray.foldlM.loop (m:=_root_.Id) (λx y=>pure<|f x y) b2 b2.size (c5 _) i J b).run=(b2.data.toList.drop J).foldl f b
 |0,J,b,h=>by
  rw[ByteArray.foldlM.loop];have g:b2.data.toList.length=b2.size:=rfl;have:b2.data.toList.drop J=[]:=by grind
  rw[this];split<;>rfl
 |i+1,J,b,h=>by
  have V:J<b2.size:=R
  rw[ByteArray.foldlM.loop,sR V];rw[Am V];exact S1 f b2 i (J+1) _ R
def agJ(f:Int->ci->Int)(s:f9):s.foldl f (0:Int)=s.data.toList.foldl f 0:=by
 have:s.foldl f (0:Int)=(ByteArray.foldlM.loop (m:=_root_.Id) (λx y=>pure<|f x y) s s.size (c5 _) (s.size-0) 0 0).run:=by
  unfold ByteArray.foldl ByteArray.foldlM;simp
 rw[this,S1 f s (s.size-0) 0 0 R];simp
def agK(s:f9)(c:Int):Extern.BytealgCount.count #[.string s,.int .u8 c]=pure (goInt (s.data.toList.countP (λb=>b==c.toNat.toUInt8):Nat)):=by
 have bX:Extern.BytealgCount.count #[.string s,.int .u8 c]=pure (goInt<|s.foldl (λn x=>if x==c.toNat.toUInt8 then n+1 else n) 0):=rfl;rw[bX,agJ,S0];simp
def aT(s:f9)(c:Int)(w:f5):(callFunc 327 #[.string s,.int .u8 c]).run Tryz.prog w= .ok (.value<|goInt (s.data.toList.countP (λb=>b==c.toNat.toUInt8):Nat)) w:=by
 have aj:(Tryz.f327.name== "runtime.NumGoroutine")=false:=bu
 have ay:Tryz.f327.body.isNone=true:=bu
 simp only[callFunc,program,Sem.run_bind];simp[Sem.run,Tryz.func327,aj,ay,agD,agE,Result.andThen,mark,agK]
theorem S2:∀(b a:ac ci),uv b a=true↔b.isPrefixOf a=true
 |[],a=>by simp[uv]
 |x::xs,[]=>by simp[uv]
 |x::xs,y::Z=>by simp[uv,S2 xs Z]
theorem S3(b:ac ci)(ay:0<b.length):∀a:ac ci,pN b a=(List.range<|a.length+1-b.length).find? (λi=>(a.drop i).take b.length==b)
 |[]=>by
  grind [pN]
 |x::xs=>by
  unfold pN;have hp:uv b (x::xs)=((x::xs).take b.length==b):=by
   rw[pC,S2,List.isPrefixOf_iff_prefix,List.prefix_iff_eq_take,beq_iff_eq];exact eq_comm
  by_cases h:uv b (x::xs)=true
  .rw[aD h];have hle:b.length<=(x::xs).length:=by grind
   rw[show(x::xs).length+1-b.length=((x::xs).length-b.length)+1 by omega,Dw,Ir];rw[hp]at h;simp[iB,h]
  .rw[av h,S3 b ay xs];rcases gf (x::xs).length b.length with B|B
   .have S:(x::xs).length+1-b.length=0:=by omega
    have z:xs.length+1-b.length=0:=by grind
    rw[S,z];rfl
   .rw[show(x::xs).length+1-b.length=(xs.length+1-b.length)+1 by simp at B ⊢;omega,Dw,Ir];have D:((x::xs).take b.length==b)=false:=by grind
    simp only[iB,D];rw[List.find?_map];rfl
def agL(a b:f9)(i:Nat):(a.extract i (i+b.size)==b)=((a.data.toList.drop i).take b.data.toList.length==b.data.toList):=by
 have F:(a.extract i (i+b.size)==b)=((a.extract i<|i+b.size).data==b.data):=rfl;rw[F,pC,beq_iff_eq,beq_iff_eq];have Y:(a.extract i<|i+b.size).data.toList=(a.data.toList.drop i).take b.data.toList.length:=by
  rw[ByteArray.data_extract,Array.toList_extract,List.extract_eq_take_drop];have g:b.data.toList.length=b.size:=rfl;congr 1;omega
 constructor
 .intro h;rw[<-Y,h]
 .intro h;apply Array.toList_inj.1;rw[Y,h]
def agM(s b:f9)(m:Int)(w:f5)(aB:(load ⟨4,0,none⟩).run Tryz.prog w= .ok (.int .i64 m) w)(aI:2<=b.size)(hm:(b.size:Int)<=m)(M:s.size<=1000000):
 (Extern.BytealgIndex.index #[.string s,.string b]).run Tryz.prog w= .ok (goInt (match pN b.data.toList s.data.toList with|some i=>(i:Int)|none=> -1)) w:=by
 obtain⟨Z,F,e⟩:∃(Z F:Unsupported),Extern.BytealgIndex.index #[.string s,.string b]=(do
  let x<-Extern.Bytes.bytesOf (.string s)
  let y<-Extern.Bytes.bytesOf (.string b)
  if y.size<2||y.size>(<-Extern.BytealgIndex.maxLen)then unsupported Z
  if x.size>=2^32-15 then unsupported F
  match(List.range<|x.size+1-y.size).find? λi=>x.extract i (i+y.size)==y with
  |some i=>pure (goInt i)
  |none=>pure (goInt<|-1):Sem bv):=⟨_,_,j⟩
 have O:(globalAddr "internal/bytealg.MaxLen").run Tryz.prog w= .ok ⟨4,0,none⟩ w:=by
  have:Tryz.prog.globals.findIdx? (λg=>g.name== "internal/bytealg.MaxLen")=some 4:=bu
  simp[globalAddr,this]
 have h:Extern.BytealgIndex.maxLen.run Tryz.prog w= .ok m w:=by
  simp[Extern.BytealgIndex.maxLen,Sem.run_bind,O,Result.andThen,aB];simp[asInt,asIntOf]
 have o:¬b.size<2:=R
 have V:¬(b.size:Int)>m:=R
 have oB:¬s.size>=2^32-15:=R
 rw[e];simp[Extern.Bytes.bytesOf,Sem.run_bind,Sem.run_pure,Result.andThen,h,o,V,oB];have P:(List.range<|s.size+1-b.size).find? (λi=>s.extract i (i+b.size)==b)=pN b.data.toList s.data.toList:=by
  rw[(S3 b.data.toList (show 0<b.size by omega) s.data.toList)];simp only[agL];rfl
 rw[P];cases pN b.data.toList s.data.toList<;>rfl
def idx(s b:f9)(m:Int)(w:f5)(aB:(load ⟨4,0,none⟩).run Tryz.prog w= .ok (.int .i64 m) w)(aI:2<=b.size)(hm:(b.size:Int)<=m)(M:s.size<=1000000):
 (callFunc 318 #[.string s,.string b]).run Tryz.prog w= .ok (.value<|goInt (match pN b.data.toList s.data.toList with|some i=>(i:Int)|none=> -1)) w:=by
 have aj:(Tryz.f318.name== "runtime.NumGoroutine")=false:=bu
 have ay:Tryz.f318.body.isNone=true:=bu
 have:=agM s b m w aB aI hm M;simp only[callFunc,program,Sem.run_bind];have S:∀(x:Sem bv),((do let r<-x;pure (Next.value r)):Sem Next).run Tryz.prog w=(x.run Tryz.prog w).andThen (λv w'=>.ok (.value v) w'):=λx=>by
  simp
 have jt:=S<|Extern.BytealgIndex.index #[.string s,.string b];rw[this]at jt;simp only[Sem.run,Tryz.func318,aj,ay,agF,agG,Result.andThen,mark]at jt⊢;exact jt
theorem agN{n:Int}(h:wq k n=true):(Lit.int k n).wf=true:=by
 unfold wq at h;rw[Dq,pL,pL]at h;simp only[Lit.wf,Dq];exact h
theorem ok_int(h:(fH.int k).ok v=true):∃n,v= .int k n/\(Lit.int k n).wf=true:=by
 obtain⟨L,n,rfl,G⟩:=od h ai
 grind [wF,agN]
def agO{n:Nat}(h:(fH.arr k n).ok v=true):∃xs:bi bv,v= .agg xs/\xs.toList.length=n/\∀x∈xs.toList,∃m,x= .int k m/\(Lit.int k m).wf=true:=by
 obtain⟨xs,rfl,G⟩:=A9 h ai;rw[Dq,ia,e4]at G;exact⟨xs,j,vL G.1,λx O=>ok_int<|G.2 x O⟩
def keys(k:co):be fH:=if k=3 then some (.int .i64)else if k=9 then some .str else if k=197 then some (.arr .i64 6)else none
def agP:WideMaps.KeyLaw Tryz.prog 197:=deep_law_laid bu (m:=2) R (iY bu) bu bu
def oB:Tryz.prog.cellsOf 3=1:=bu
def S4:Tryz.prog.cellsOf 197=6:=bu
def agQ:Tryz.prog.keyType 197=true:=bu
def aA:Tryz.prog.types.size+1=494:=bu
def r7:∀k ct,keys k=some ct->Maps.Keyed Tryz.prog k/\∀v,ct.ok v=true->∃l,keyOf Tryz.prog k v=some l:=by
 intro k ct h;unfold keys at h;split at h
 .rename_i e;subst e;cases h;refine⟨Maps.int_keyed Tryz.underlying3,λv S=>?_⟩;obtain⟨n,rfl,aj⟩:=ok_int S;exact atz atz
 .split at h
  .rename_i e;subst e;cases h;refine⟨Maps.Keyed.of_law<|WideMaps.string_law Tryz.underlying9,λv S=>?_⟩;obtain⟨s,rfl,G⟩:=yC S ai;rw[e4]at G;have A:=lQ.1 G;have T:s.data.toList.length=s.size:=rfl;exact arQ arQ
  .split at h
   .rename_i e;subst e;cases h;exact⟨Maps.Keyed.of_law agP,λv S=>(by
     obtain⟨xs,rfl,g,R⟩:=agO S;obtain⟨l⟩:=xs
     match l,g with
     |[a,b,c,d,e,f],_=>
      obtain⟨a,rfl,r⟩:=R a au;obtain⟨b,rfl,dp⟩:=R b au;obtain⟨c,rfl,x⟩:=R c au;obtain⟨d,rfl,U⟩:=R d au;obtain⟨e,rfl,X⟩:=R e au;obtain⟨f,rfl,wf⟩:=R f au;refine⟨.string<|keyBytes [.int .i64 a,.int .i64 b,.int .i64 c,.int .i64 d,.int .i64 e,.int .i64 f],?_⟩;rw[keyOf,aA];have D:Value.formed Tryz.prog 197 (.agg #[.int .i64 a,.int .i64 b,.int .i64 c,.int .i64 d,.int .i64 e,.int .i64 f])=true:=by
       simp[Value.formed,S4]
      simp[agQ,D];have N:∀n:Int,(Lit.int .i64 n).wf=true->Tryz.prog.keyLits 493 3 [.int .i64 n]=some [.int .i64 n]:=by
       intro n aj;simp[Program.keyLits,aj]
      have F:∀cs:ac bv,Tryz.prog.keyLits 494 197 cs=if cs.length=Tryz.prog.cellsOf 197 then((List.range 6).mapM λi=>Tryz.prog.keyLits 493 3<|(cs.drop<|i*Tryz.prog.cellsOf 3).take<|Tryz.prog.cellsOf 3).map List.flatten else none:=by
       intro cs
       conv=>lhs;unfold Program.keyLits
       rw[Tryz.underlying197]
      rw[F];simp[S4,oB,Value.cells,List.range,List.range.loop,N a r,N b dp,N c x,N d U,N e X,N f wf])⟩
   .cases h
def Gj:ac (Nat×Nat):=[(50,200),(172,106),(258,2),(267,2),(283,201),(415,2)]
def eqs(t:co):be Nat:=List.rec (motive:=λ_=>be Nat) none (λp _ I=>cond (Nat.beq p.1 t) (some p.2) I) Gj
theorem S5{t n:Nat}:∀{l:ac (Nat×Nat)},(List.rec (motive:=λ_=>be Nat) none (λp _ I=>cond (Nat.beq p.1 t) (some p.2) I) l:be Nat)=some n->(t,n)∈l
 |[],h=>by cases h
 |p::l,h=>by
  have h:cond (Nat.beq p.1 t) (some p.2) (List.rec none (λp _ I=>cond (Nat.beq p.1 t) (some p.2) I) l:be Nat)=some n:=h;cases C:Nat.beq p.1 t with
  |true=>
   rw[C]at h;cases h;rw[<-vL C];exact hT
  |false=>
   rw[C]at h;exact fq _<|S5 h
def agR:(Gj.all λp=>J0 Tryz.prog p.1 p.2)=true:=bu
def wC(t n:Nat)(h:eqs t=some n):Tryz.prog.eqGuardType Tryz.prog.depth t=false/\∀xs Z b w,xs.size=n%100+n/100->Z.size=n%100+n/100->qH (n%100) xs.toList Z.toList=some b->(Op.equalIn 10000 t (.agg xs)<|.agg Z).run Tryz.prog w= .ok b w:=
 ac5<|ia.1 agR (t,n)<|S5 h
def base:BL where
 P:=Tryz.prog
 a3:=11
 ll:=λf=>Nat.beq f 372
 lO:=λf=>Nat.beq f 385
 Bc:=λf D x w=>by rw[vL D];exact ll x w
 Bd:=λf D s c w=>by rw[vL D];exact lO s c w
 keys:=keys
 r7:=r7
 pV:=λf=>Nat.beq f 327
 Be:=λf D s c w=>by rw[vL D];exact aT s c w
 pW:=λf=>Nat.beq f 318
 lS:=4
 Bf:=by decide
 Bg:=λf D s b m w Y G A T=>by rw[vL D];exact idx s b m w Y G A T
 eqs:=eqs
 wC:=wC
def ctx:Ctx:=mkCtx base
def eh:Good ctx:=ac3 _ bu
