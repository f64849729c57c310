/- What the abstract machine needs to know of this program; no condition. -/
import Derived.Lib.MakeNoZero
import Derived.Test.YtkhecbikkdcfoaaGreatDoorProg
import Derived.DeepKeys4
import Derived.Test.YtkhecbikkdcfoaaGreatDoorM2
noncomputable section
set_option linter.all false
namespace Go.bI.cv
open Go.Proofs
variable{k:f5}{v:bv}
def aga:Extern.findNext Tryz.f223=none:=cw
def agb:Extern.find Tryz.f223=some Extern.AbiNoEscape.same:=cw
def agc:Extern.findNext Tryz.f235=none:=cw
def agd:Extern.find Tryz.f235=some Extern.BytealgIndexByte.indexByte:=cw
def age:Extern.findNext Tryz.f200=none:=cw
def agf:Extern.find Tryz.f200=some Extern.BytealgIndex.index:=cw
def agh(x:bv):Extern.AbiNoEscape.same #[x]=pure x:=rfl
def lB(x:bv)(w:d9):(callFunc 223 #[x]).run Tryz.prog w= .ok (.value x) w:=by
 have aj:(Tryz.f223.name== "runtime.NumGoroutine")=false:=cw
 have aa:Tryz.f223.body.isNone=true:=cw
 simp only[callFunc,program,Sem.run_bind];simp[Sem.run,Tryz.func223,aj,aa,aga,agb,Result.andThen,mark,agh]
def agi(s:f8)(c:Int):Extern.BytealgIndexByte.indexByte #[.string s,.int .u8 c]=(do
 match(List.range s.size).find? λi=>s[i]! ==c.toNat.toUInt8 with
 |some i=>pure (goInt i)
 |none=>pure<|goInt<|-1):=by
 show(do
  let b<-Extern.Bytes.bytesOf (.string s)
  let c<-Extern.Bytes.asByte (.int .u8 c)
  match(List.range b.size).find? λi=>b[i]! ==c with
  |some i=>pure (goInt i)
  |none=>pure (goInt<|-1):Sem bv)=_
 rfl
def lY(s:f8)(c:Int)(w:d9):(callFunc 235 #[.string s,.int .u8 c]).run Tryz.prog w= .ok (.value<|goInt (match(List.range s.size).find? (λi=>s[i]! ==c.toNat.toUInt8)with|some i=>(i:Int)|none=> -1)) w:=by
 have aj:(Tryz.f235.name== "runtime.NumGoroutine")=false:=cw
 have aa:Tryz.f235.body.isNone=true:=cw
 simp only[callFunc,program,Sem.run_bind];simp only[Sem.run,Tryz.func235,aj,aa,agc,agd,Result.andThen,mark,agi];cases(List.range s.size).find? λi=>s[i]! ==c.toNat.toUInt8<;>rfl
theorem S6:∀(b a:ac ci),u6 b a=true↔b.isPrefixOf a=true
 |[],a=>by simp[u6]
 |x::xs,[]=>by simp[u6]
 |x::xs,y::Q=>by simp[u6,S6 xs Q]
theorem S7(b:ac ci)(aa:0<b.length):∀a:ac ci,qb b a=(List.range<|a.length+1-b.length).find? (λi=>(a.drop i).take b.length==b)
 |[]=>by
  grind [qb]
 |x::xs=>by
  unfold qb;have hp:u6 b (x::xs)=((x::xs).take b.length==b):=by
   rw[p1,S6,List.isPrefixOf_iff_prefix,List.prefix_iff_eq_take,beq_iff_eq];exact eq_comm
  by_cases h:u6 b (x::xs)=true
  .rw[aA h];have hle:b.length<=(x::xs).length:=by grind
   rw[show(x::xs).length+1-b.length=((x::xs).length-b.length)+1 by omega,Dv,Ii];rw[hp]at h;simp[kC,h]
  .rw[au h,S7 b aa xs];rcases fW (x::xs).length b.length with W|W
   .have U:(x::xs).length+1-b.length=0:=by omega
    have T:xs.length+1-b.length=0:=by grind
    rw[U,T];rfl
   .rw[show(x::xs).length+1-b.length=(xs.length+1-b.length)+1 by simp at W ⊢;omega,Dv,Ii];have D:((x::xs).take b.length==b)=false:=by grind
    simp only[kC,D];rw[List.find?_map];rfl
def agj(a b:f8)(i:Nat):(a.extract i (i+b.size)==b)=((a.data.toList.drop i).take b.data.toList.length==b.data.toList):=by
 have T:(a.extract i (i+b.size)==b)=((a.extract i<|i+b.size).data==b.data):=rfl;rw[T,p1,beq_iff_eq,beq_iff_eq];have Y:(a.extract i<|i+b.size).data.toList=(a.data.toList.drop i).take b.data.toList.length:=by
  rw[ByteArray.data_extract,Array.toList_extract,List.extract_eq_take_drop];have K:b.data.toList.length=b.size:=rfl;congr 1;omega
 constructor
 .intro h;rw[<-Y,h]
 .intro h;apply Array.toList_inj.1;rw[Y,h]
def agk(s b:f8)(m:Int)(w:d9)(aI:(load ⟨1,0,none⟩).run Tryz.prog w= .ok (.int .i64 m) w)(aK:2<=b.size)(hm:(b.size:Int)<=m)(M:s.size<=1000000):
 (Extern.BytealgIndex.index #[.string s,.string b]).run Tryz.prog w= .ok (goInt (match qb b.data.toList s.data.toList with|some i=>(i:Int)|none=> -1)) w:=by
 obtain⟨ey,eW,e⟩:∃(ey eW:Unsupported),Extern.BytealgIndex.index #[.string s,.string b]=(do
  let x<-Extern.Bytes.bytesOf (.string s)
  let y<-Extern.Bytes.bytesOf (.string b)
  if y.size<2||y.size>(<-Extern.BytealgIndex.maxLen)then unsupported ey
  if x.size>=2^32-15 then unsupported eW
  match(List.range<|x.size+1-y.size).find? λi=>x.extract i (i+y.size)==y with
  |some i=>pure (goInt i)
  |none=>pure (goInt<|-1):Sem bv):=⟨_,_,o⟩
 have F:(globalAddr "internal/bytealg.MaxLen").run Tryz.prog w= .ok ⟨1,0,none⟩ w:=by
  have:Tryz.prog.globals.findIdx? (λg=>g.name== "internal/bytealg.MaxLen")=some 1:=cw
  simp[globalAddr,this]
 have L:Extern.BytealgIndex.maxLen.run Tryz.prog w= .ok m w:=by
  simp[Extern.BytealgIndex.maxLen,Sem.run_bind,F,Result.andThen,aI];simp[asInt,asIntOf]
 have Q:¬b.size<2:=J
 have E:¬(b.size:Int)>m:=J
 have pK:¬s.size>=2^32-15:=J
 rw[e];simp[Extern.Bytes.bytesOf,Sem.run_bind,Sem.run_pure,Result.andThen,L,Q,E,pK];have t:(List.range<|s.size+1-b.size).find? (λi=>s.extract i (i+b.size)==b)=qb b.data.toList s.data.toList:=by
  rw[(S7 b.data.toList (show 0<b.size by omega) s.data.toList)];simp only[agj];rfl
 rw[t];cases qb b.data.toList s.data.toList<;>rfl
def idx(s b:f8)(m:Int)(w:d9)(aI:(load ⟨1,0,none⟩).run Tryz.prog w= .ok (.int .i64 m) w)(aK:2<=b.size)(hm:(b.size:Int)<=m)(M:s.size<=1000000):
 (callFunc 200 #[.string s,.string b]).run Tryz.prog w= .ok (.value<|goInt (match qb b.data.toList s.data.toList with|some i=>(i:Int)|none=> -1)) w:=by
 have aj:(Tryz.f200.name== "runtime.NumGoroutine")=false:=cw
 have aa:Tryz.f200.body.isNone=true:=cw
 have:=agk s b m w aI aK hm M;simp only[callFunc,program,Sem.run_bind];have U:∀(x:Sem bv),((do let r<-x;pure (Next.value r)):Sem Next).run Tryz.prog w=(x.run Tryz.prog w).andThen (λv aG=>.ok (.value v) aG):=λx=>by
  simp
 have h4:=U<|Extern.BytealgIndex.index #[.string s,.string b];rw[this]at h4;simp only[Sem.run,Tryz.func200,aj,aa,age,agf,Result.andThen,mark]at h4⊢;exact h4
theorem agl{n:Int}(h:wJ k n=true):(Lit.int k n).wf=true:=by
 unfold wJ at h;rw[Ak,qa,qa]at h;simp only[Lit.wf,Ak];exact h
theorem ok_int(h:(fR.int k).ok v=true):∃n,v= .int k n/\(Lit.int k n).wf=true:=by
 obtain⟨L,n,rfl,G⟩:=oA h av
 grind [wT,agl]
def agm{n:Nat}(h:(fR.arr k n).ok v=true):∃xs:bi bv,v= .agg xs/\xs.toList.length=n/\∀x∈xs.toList,∃m,x= .int k m/\(Lit.int k m).wf=true:=by
 obtain⟨xs,rfl,G⟩:=A8 h av;rw[Ak,ja,fi]at G;exact⟨xs,o,Al G.1,λx O=>ok_int<|G.2 x O⟩
def keys(k:d7):be fR:=if k=3 then some (.int .i64)else if k=9 then some .str else if k=168 then some (.arr .i64 6)else none
def agn:WideMaps.KeyLaw Tryz.prog 168:=deep_law_laid cw (m:=2) J (jD cw) cw cw
def pK:Tryz.prog.cellsOf 3=1:=cw
def S8:Tryz.prog.cellsOf 168=6:=cw
def ago:Tryz.prog.keyType 168=true:=cw
def aF:Tryz.prog.types.size+1=425:=cw
def sx:∀k cn,keys k=some cn->Maps.Keyed Tryz.prog k/\∀v,cn.ok v=true->∃l,keyOf Tryz.prog k v=some l:=by
 intro k cn h;unfold keys at h;split at h
 .rename_i e;subst e;cases h;refine⟨Maps.int_keyed Tryz.underlying3,λv Z=>?_⟩;obtain⟨n,rfl,aj⟩:=ok_int Z;exact asV asV
 .split at h
  .rename_i e;subst e;cases h;refine⟨Maps.Keyed.of_law<|WideMaps.string_law Tryz.underlying9,λv Z=>?_⟩;obtain⟨s,rfl,G⟩:=yu Z av;rw[fi]at G;have C:=lZ.1 G;have N:s.data.toList.length=s.size:=rfl;exact aq4 aq4
  .split at h
   .rename_i e;subst e;cases h;exact⟨Maps.Keyed.of_law agn,λv Z=>(by
     obtain⟨xs,rfl,V,J⟩:=agm Z;obtain⟨l⟩:=xs
     match l,V with
     |[a,b,c,d,e,f],_=>
      obtain⟨a,rfl,x⟩:=J a az;obtain⟨b,rfl,dv⟩:=J b az;obtain⟨c,rfl,P⟩:=J c az;obtain⟨d,rfl,w⟩:=J d az;obtain⟨e,rfl,m⟩:=J e az;obtain⟨f,rfl,wf⟩:=J f az;refine⟨.string<|keyBytes [.int .i64 a,.int .i64 b,.int .i64 c,.int .i64 d,.int .i64 e,.int .i64 f],?_⟩;rw[keyOf,aF];have D:Value.formed Tryz.prog 168 (.agg #[.int .i64 a,.int .i64 b,.int .i64 c,.int .i64 d,.int .i64 e,.int .i64 f])=true:=by
       simp[Value.formed,S8]
      simp[ago,D];have E:∀n:Int,(Lit.int .i64 n).wf=true->Tryz.prog.keyLits 424 3 [.int .i64 n]=some [.int .i64 n]:=by
       intro n aj;simp[Program.keyLits,aj]
      have F:∀cs:ac bv,Tryz.prog.keyLits 425 168 cs=if cs.length=Tryz.prog.cellsOf 168 then((List.range 6).mapM λi=>Tryz.prog.keyLits 424 3<|(cs.drop<|i*Tryz.prog.cellsOf 3).take<|Tryz.prog.cellsOf 3).map List.flatten else none:=by
       intro cs
       conv=>lhs;unfold Program.keyLits
       rw[Tryz.underlying168]
      rw[F];simp[S8,pK,Value.cells,List.range,List.range.loop,E a x,E b dv,E c P,E d w,E e m,E f wf])⟩
   .cases h
def Gq:ac (Nat×Nat):=[(38,2),(42,106),(49,201),(64,200),(213,2),(299,2)]
def eqs(t:d7):be Nat:=List.rec (motive:=λ_=>be Nat) none (λp _ U=>cond (Nat.beq p.1 t) (some p.2) U) Gq
theorem S9{t n:Nat}:∀{l:ac (Nat×Nat)},(List.rec (motive:=λ_=>be Nat) none (λp _ U=>cond (Nat.beq p.1 t) (some p.2) U) l:be Nat)=some n->(t,n)∈l
 |[],h=>by cases h
 |p::l,h=>by
  have h:cond (Nat.beq p.1 t) (some p.2) (List.rec none (λp _ U=>cond (Nat.beq p.1 t) (some p.2) U) l:be Nat)=some n:=h;cases aa:Nat.beq p.1 t with
  |true=>
   rw[aa]at h;cases h;rw[<-Nat.eq_of_beq_eq_true aa];exact gT
  |false=>
   rw[aa]at h;exact e3 _<|S9 h
def agp:(Gq.all λp=>JM Tryz.prog p.1 p.2)=true:=cw
def wQ(t n:Nat)(h:eqs t=some n):Tryz.prog.eqGuardType Tryz.prog.depth t=false/\∀xs Q b w,xs.size=n%100+n/100->Q.size=n%100+n/100->q9 (n%100) xs.toList Q.toList=some b->(Op.equalIn 10000 t (.agg xs)<|.agg Q).run Tryz.prog w= .ok b w:=
 acv<|ja.1 agp (t,n)<|S9 h
def base:BK where
 P:=Tryz.prog
 a6:=9
 lB:=λf=>Nat.beq f 223
 lY:=λf=>Nat.beq f 235
 Bb:=λf D x w=>by rw[Al D];exact lB x w
 Bc:=λf D s c w=>by rw[Al D];exact lY s c w
 keys:=keys
 sx:=sx
 qh:=λ_=>false
 Bd:=λ_ h=>by cases h
 qi:=λf=>Nat.beq f 200
 l1:=1
 Be:=by decide
 Bf:=λf D s b m w Y G C N=>by rw[Al D];exact idx s b m w Y G C N
 eqs:=eqs
 wQ:=wQ
def ctx:Ctx:=mkCtx base
def gP:Good ctx:=acu _ cw
