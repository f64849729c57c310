/- What the abstract machine needs to know of this program; no condition. -/
import Derived.Lib.MakeNoZero
import Derived.Test.YtoepefenkpijoaaGreatDoorProg
import Derived.DeepKeys4
import Derived.Test.YtoepefenkpijoaaGreatDoorM3
noncomputable section
set_option linter.all false
namespace Go.ar.aT
open Go.Proofs
variable{k:d7}{v:be}
def apT:Extern.findNext Tryz.f341=none:=by kernel_rfl
def aik:Extern.find Tryz.f341=some Extern.AbiNoEscape.same:=by kernel_rfl
def apV:Extern.findNext Tryz.f378=none:=by kernel_rfl
def aim:Extern.find Tryz.f378=some Extern.BytealgIndexByte.indexByte:=by kernel_rfl
def apS:Extern.findNext Tryz.f291=none:=by kernel_rfl
def aij:Extern.find Tryz.f291=some Extern.BytealgCount.count:=by kernel_rfl
def apU:Extern.findNext Tryz.f375=none:=by kernel_rfl
def ail:Extern.find Tryz.f375=some Extern.BytealgIndex.index:=by kernel_rfl
def apW:Extern.findNext Tryz.f391=none:=by kernel_rfl
def ain:Extern.find Tryz.f391=some (Extern.BytealgMakeNoZero.makeNoZero #[3] #[230]):=by kernel_rfl
def Ol(n:Nat)(w:co)(hn:n<=281474976710656):∃(cs:ap be) (w':co),n<=cs.size∧Tryz.prog.cellsOf 5=1∧(callFunc 391 #[.int .i64 (n:Int)]).run Tryz.prog w= .ok (.value (.slice (some ⟨w.heap.size,0,none⟩) n cs.size)) w'∧w'.heap=w.heap.push (.cells cs 5)∧(w'.os=w.os∧w'.output=w.output):=by
 obtain⟨cs,J,U,_⟩:=Go.Lib.run_makeNoZero w #[3] 230 5 Tryz.underlying230 n hn;have ju:(Tryz.f391.name== "runtime.NumGoroutine")=false:=by kernel_rfl
 have hb:Tryz.f391.body.isNone=true:=by kernel_rfl
 refine⟨cs,w.drew.drew.alloc (.cells cs 5),U,by kernel_rfl,?_,rfl,rfl,rfl⟩;simp only[callFunc,program,Sem.run_bind];simp only[Sem.run];simp[Tryz.func391,ju,hb,apW,ain,Result.andThen,mark];have e:Sem.run Tryz.prog (Sem.mark (Mark.extern 391) (Sem.pure ())) w=Result.ok () w:=rfl;simp only[e,J]
def asM(x:be):Extern.AbiNoEscape.same #[x]=pure x:=rfl
def kJ(x:be)(w:co):(callFunc 341 #[x]).run Tryz.prog w= .ok (.value x) w:=by
 have hn:(Tryz.f341.name== "runtime.NumGoroutine")=false:=by kernel_rfl
 have hb:Tryz.f341.body.isNone=true:=by kernel_rfl
 simp only[callFunc,program,Sem.run_bind];simp[Sem.run,Tryz.func341,hn,hb,apT,aik,Result.andThen,mark,asM]
def aoa(s:f5)(c:Int):Extern.BytealgIndexByte.indexByte #[.string s,.int .u8 c]=(do
 match(List.range s.size).find? fun i=>s[i]! ==c.toNat.toUInt8 with
 |some i=>pure (goInt i)
 |none=>pure (goInt (-1))):=by
 show(do
  let b<-Extern.Bytes.bytesOf (.string s)
  let c<-Extern.Bytes.asByte (.int .u8 c)
  match(List.range b.size).find? fun i=>b[i]! ==c with
  |some i=>pure (goInt i)
  |none=>pure (goInt (-1)):Sem be)=_
 simp only[Extern.Bytes.bytesOf,Extern.Bytes.asByte];rfl
def kV(s:f5)(c:Int)(w:co):(callFunc 378 #[.string s,.int .u8 c]).run Tryz.prog w= .ok (.value (goInt (match(List.range s.size).find? (fun i=>s[i]! ==c.toNat.toUInt8)with|some i=>(i:Int)|none=> -1))) w:=by
 have hn:(Tryz.f378.name== "runtime.NumGoroutine")=false:=by kernel_rfl
 have hb:Tryz.f378.body.isNone=true:=by kernel_rfl
 simp only[callFunc,program,Sem.run_bind];simp only[Sem.run,Tryz.func378,hn,hb,apV,aim,Result.andThen,mark,aoa];cases(List.range s.size).find? fun i=>s[i]! ==c.toNat.toUInt8<;>rfl
theorem Tq(c:bv):∀(l:ac bv) (n:Int),l.foldl (fun n x=>if x==c then n+1 else n) n=n+(l.countP (fun b=>b==c):Nat)
 |[],n=>by simp
 |x::xs,n=>by
  rw[zdj,Tq c xs,zdW];split<;>omega
theorem Yx(f:Int->bv->Int)(bT:f5):∀(i j:Nat) (b:Int),i+j=bT.size->
 (ByteArray.foldlM.loop (m:=_root_.Id) (fun x y=>pure (f x y)) bT bT.size (zaK _) i j b).run=(bT.data.toList.drop j).foldl f b
 |0,j,b,h=>by
  unfold ByteArray.foldlM.loop;have ep:bT.data.toList.length=bT.size:=rfl;have:bT.data.toList.drop j=[]:=by rw[List.drop_eq_nil_iff];omega
  rw[this];split<;>rfl
 |i+1,j,b,h=>by
  have hj:j<bT.size:=by omega
  unfold ByteArray.foldlM.loop;rw[dif_pos hj];have mJ:j<bT.data.toList.length:=hj;rw[zcG mJ,zdj];exact Yx f bT i (j+1) _ (by omega)
def aeG(f:Int->bv->Int)(s:f5):s.foldl f (0:Int)=s.data.toList.foldl f 0:=by
 have:s.foldl f (0:Int)=(ByteArray.foldlM.loop (m:=_root_.Id) (fun x y=>pure (f x y)) s s.size (zaK _) (s.size-0) 0 0).run:=by
  unfold ByteArray.foldl ByteArray.foldlM;simp
 rw[this,Yx f s (s.size-0) 0 0 (by omega)];simp
def agm(s:f5)(c:Int):Extern.BytealgCount.count #[.string s,.int .u8 c]=pure (goInt (s.data.toList.countP (fun b=>b==c.toNat.toUInt8):Nat)):=by
 have h0:Extern.BytealgCount.count #[.string s,.int .u8 c]=pure (goInt (s.foldl (fun n x=>if x==c.toNat.toUInt8 then n+1 else n) (0:Int))):=rfl;rw[h0,aeG,Tq];simp
def bd(s:f5)(c:Int)(w:co):(callFunc 291 #[.string s,.int .u8 c]).run Tryz.prog w= .ok (.value (goInt (s.data.toList.countP (fun b=>b==c.toNat.toUInt8):Nat))) w:=by
 have hn:(Tryz.f291.name== "runtime.NumGoroutine")=false:=by kernel_rfl
 have hb:Tryz.f291.body.isNone=true:=by kernel_rfl
 simp only[callFunc,program,Sem.run_bind];simp[Sem.run,Tryz.func291,hn,hb,apS,aij,Result.andThen,mark,agm]
theorem O1:∀(b a:ac bv),xa b a=true↔b.isPrefixOf a=true
 |[],a=>by simp[xa]
 |x::xs,[]=>by simp[xa]
 |x::xs,y::av=>by simp[xa,O1 xs av]
theorem acG(b:ac bv)(hb:0<b.length):∀a:ac bv,pA b a=(List.range (a.length+1-b.length)).find? (fun i=>(a.drop i).take b.length==b)
 |[]=>by
  have:([]:ac bv).length+1-b.length=0:=by simp;omega
  rw[this];unfold pA;rw[zaa (by cases b<;>simp_all)];rfl
 |x::xs=>by
  unfold pA;have hp:xa b (x::xs)=((x::xs).take b.length==b):=by
   rw[zaS,O1,zez,List.prefix_iff_eq_take,beq_iff_eq];exact eq_comm
  by_cases h:xa b (x::xs)=true
  ·rw[zab h];have hle:b.length<=(x::xs).length:=by
    rw[O1,zez]at h;exact h.length_le
   rw[show(x::xs).length+1-b.length=((x::xs).length-b.length)+1 by omega,zdm,zdU];rw[hp]at h;simp only[zap,h]
  ·rw[zaa h,acG b hb xs];rcases zai (x::xs).length b.length with hl|hl
   ·have aC:(x::xs).length+1-b.length=0:=by omega
    have e2:xs.length+1-b.length=0:=by simp at hl;omega
    rw[aC,e2];rfl
   ·rw[show(x::xs).length+1-b.length=(xs.length+1-b.length)+1 by simp at hl ⊢;omega,zdm,zdU];have ae:((x::xs).take b.length==b)=false:=by rw[<-hp];simpa using h
    simp only[zap,ae];rw[List.find?_map];rfl
def ah3(a b:f5)(i:Nat):(a.extract i (i+b.size)==b)=((a.data.toList.drop i).take b.data.toList.length==b.data.toList):=by
 have h0:(a.extract i (i+b.size)==b)=((a.extract i (i+b.size)).data==b.data):=rfl;rw[h0,zaS,beq_iff_eq,beq_iff_eq];have J:(a.extract i (i+b.size)).data.toList=(a.data.toList.drop i).take b.data.toList.length:=by
  rw[ByteArray.data_extract,zdh,zdi];have ep:b.data.toList.length=b.size:=rfl;rw[ep];congr 1;omega
 constructor
 ·intro h;rw[<-J,h]
 ·intro h;apply Array.toList_inj.1;rw[J,h]
def aoy(s b:f5)(m:Int)(w:co)(hl:(load ⟨4,0,none⟩).run Tryz.prog w= .ok (.int .i64 m) w)(U:2<=b.size)(hm:(b.size:Int)<=m)(ah:s.size<=1000000):
 (Extern.BytealgIndex.index #[.string s,.string b]).run Tryz.prog w= .ok (goInt (match pA b.data.toList s.data.toList with|some i=>(i:Int)|none=> -1)) w:=by
 obtain⟨eg,fh,e⟩:∃(eg fh:Unsupported),Extern.BytealgIndex.index #[.string s,.string b]=(do
  let x<-Extern.Bytes.bytesOf (.string s)
  let y<-Extern.Bytes.bytesOf (.string b)
  if y.size<2||(y.size:Int)>(<-Extern.BytealgIndex.maxLen)then unsupported eg
  if x.size>=2^32-15 then unsupported fh
  match(List.range (x.size+1-y.size)).find? fun i=>x.extract i (i+y.size)==y with
  |some i=>pure (goInt i)
  |none=>pure (goInt (-1)):Sem be):=⟨_,_,rfl⟩
 have aR:(globalAddr "internal/bytealg.MaxLen").run Tryz.prog w= .ok ⟨4,0,none⟩ w:=by
  have:Tryz.prog.globals.findIdx? (fun g=>g.name== "internal/bytealg.MaxLen")=some 4:=by kernel_rfl
  simp[globalAddr,program,Sem.run,this]
 have HN:Extern.BytealgIndex.maxLen.run Tryz.prog w= .ok m w:=by
  simp only[Extern.BytealgIndex.maxLen,Sem.run_bind,aR,Result.andThen,hl];simp[asInt,asIntOf]
 have e0:¬b.size<2:=by omega
 have fT:¬(b.size:Int)>m:=by omega
 have oe:¬s.size>=2^32-15:=by omega
 rw[e];simp only[Extern.Bytes.bytesOf,Sem.run_bind,Sem.run_pure,Result.andThen,HN,e0,fT,oe,decide_false,Bool.or_false,zaU,if_false];have Ed:=acG b.data.toList (show 0<b.size by omega) s.data.toList;have anw:(List.range (s.size+1-b.size)).find? (fun i=>s.extract i (i+b.size)==b)=pA b.data.toList s.data.toList:=by
  rw[Ed];simp only[ah3];rfl
 rw[anw];cases pA b.data.toList s.data.toList<;>rfl
def idx(s b:f5)(m:Int)(w:co)(hl:(load ⟨4,0,none⟩).run Tryz.prog w= .ok (.int .i64 m) w)(U:2<=b.size)(hm:(b.size:Int)<=m)(ah:s.size<=1000000):
 (callFunc 375 #[.string s,.string b]).run Tryz.prog w= .ok (.value (goInt (match pA b.data.toList s.data.toList with|some i=>(i:Int)|none=> -1))) w:=by
 have hn:(Tryz.f375.name== "runtime.NumGoroutine")=false:=by kernel_rfl
 have hb:Tryz.f375.body.isNone=true:=by kernel_rfl
 have:=aoy s b m w hl U hm ah;simp only[callFunc,program,Sem.run_bind];have aC:∀(x:Sem be),((do let r<-x;pure (Next.value r)):Sem Next).run Tryz.prog w=(x.run Tryz.prog w).andThen (fun v w'=>.ok (.value v) w'):=fun x=>by
  simp
 have e2:=aC (Extern.BytealgIndex.index #[.string s,.string b]);rw[this]at e2;simp only[Sem.run,Tryz.func375,hn,hb,apU,ail,Result.andThen,mark]at e2⊢;exact e2
def avN{n:Int}(h:Ic k n=true):(Lit.int k n).wf=true:=by
 unfold Ic at h;rw[zch,s7,s7]at h;simp only[Lit.wf,zch];exact h
def ok_int(h:(gb.int k).ok v=true):∃n,v= .int k n∧(Lit.int k n).wf=true:=by
 obtain⟨k',n,rfl,U⟩:=jT (v:=v) (z:=false) (r:=true) h (by decide);rw[zch]at U;have:=s5 U.1;subst this;exact⟨n,rfl,avN U.2⟩
def aqn{n:Nat}(h:(gb.arr k n).ok v=true):∃xs:ap be,v= .agg xs∧xs.toList.length=n∧∀x∈xs.toList,∃m,x= .int k m∧(Lit.int k m).wf=true:=by
 obtain⟨xs,rfl,U⟩:=zy (v:=v) (z:=false) (r:=true) h (by decide);rw[zch,zaP,fg]at U;exact⟨xs,rfl,zbP U.1,fun x aa=>ok_int (U.2 x aa)⟩
def keys(k:ce):am gb:=if k=3 then some (.int .i64)else if k=9 then some .str else if k=244 then some (.arr .i64 6)else none
def ao6:WideMaps.KeyLaw Tryz.prog 244:=deep_law_laid (by kernel_rfl) (m:=2) (by omega) (zbI (by kernel_rfl)) (by kernel_rfl) (by kernel_rfl)
def oe:Tryz.prog.cellsOf 3=1:=by kernel_rfl
def RO:Tryz.prog.cellsOf 244=6:=by kernel_rfl
def aoX:Tryz.prog.keyType 244=true:=by kernel_rfl
def ts:Tryz.prog.types.size+1=493:=by kernel_rfl
def aoJ(h:(gb.arr .i64 6).ok v=true):∃l,keyOf Tryz.prog 244 v=some l:=by
 obtain⟨xs,rfl,hlen,ea⟩:=aqn h;obtain⟨l⟩:=xs;simp only at hlen ea
 match l,hlen with
 |[a,b,c,d,e,f],_=>
  obtain⟨a,rfl,avJ⟩:=ea a (by simp);obtain⟨b,rfl,adp⟩:=ea b (by simp);obtain⟨c,rfl,Qu⟩:=ea c (by simp);obtain⟨d,rfl,wd⟩:=ea d (by simp);obtain⟨e,rfl,avM⟩:=ea e (by simp);obtain⟨f,rfl,wf⟩:=ea f (by simp);refine⟨.string (keyBytes [.int .i64 a,.int .i64 b,.int .i64 c,.int .i64 d,.int .i64 e,.int .i64 f]),?_⟩;unfold keyOf;rw[Tryz.underlying244,ts];have ae:Value.formed Tryz.prog 244 (.agg #[.int .i64 a,.int .i64 b,.int .i64 c,.int .i64 d,.int .i64 e,.int .i64 f])=true:=by
   simp[Value.formed,Tryz.underlying244,RO]
  simp only[aoX,ae,Bool.and_self,if_true];have ab:∀n:Int,(Lit.int .i64 n).wf=true->Tryz.prog.keyLits 492 3 [.int .i64 n]=some [.int .i64 n]:=by
   intro n hn;simp[Program.keyLits,Tryz.underlying3,hn]
  have eH:∀cs:ac be,Tryz.prog.keyLits 493 244 cs=if cs.length=Tryz.prog.cellsOf 244 then((List.range 6).mapM fun i=>Tryz.prog.keyLits 492 3 ((cs.drop (i*Tryz.prog.cellsOf 3)).take (Tryz.prog.cellsOf 3))).map List.flatten else none:=by
   intro cs
   conv=>lhs;unfold Program.keyLits
   rw[Tryz.underlying244]
  rw[eH];simp[RO,oe,Value.cells,List.range,List.range.loop,ab a avJ,ab b adp,ab c Qu,ab d wd,ab e avM,ab f wf]
def s4:∀k df,keys k=some df->Maps.Keyed Tryz.prog k∧∀v,df.ok v=true->∃l,keyOf Tryz.prog k v=some l:=by
 intro k df h;unfold keys at h;split at h
 ·rename_i e;subst e;cases h;refine⟨Maps.int_keyed Tryz.underlying3,fun v aD=> ?_⟩;obtain⟨n,rfl,hn⟩:=ok_int aD;exact⟨_,Maps.keyOf_int_mk Tryz.underlying3 hn⟩
 ·split at h
  ·rename_i e;subst e;cases h;refine⟨Maps.Keyed.of_law (WideMaps.string_law Tryz.underlying9),fun v aD=> ?_⟩;obtain⟨s,rfl,U⟩:=pC (v:=v) (z:=false) (r:=true) aD (by decide);rw[fg]at U;have ag:=mn.1 U;have az:s.data.toList.length=s.size:=rfl;exact⟨_,WideMaps.keyOf_string_mk Tryz.underlying9 (by unfold maxLen;omega)⟩
  ·split at h
   ·rename_i e;subst e;cases h;exact⟨Maps.Keyed.of_law ao6,fun v aD=>aoJ aD⟩
   ·cases h
def hZ:ac (Nat×Nat):=[(95,201),(143,106),(208,2),(221,2),(398,2)]
def eqs(t:ce):am Nat:=List.rec (motive:=fun _=>am Nat) none (fun p _ a7=>cond (Nat.beq p.1 t) (some p.2) a7) hZ
theorem S1{t n:Nat}:∀{l:ac (Nat×Nat)},(List.rec (motive:=fun _=>am Nat) none (fun p _ a7=>cond (Nat.beq p.1 t) (some p.2) a7) l:am Nat)=some n->(t,n)∈l
 |[],h=>by cases h
 |p::l,h=>by
  have h:cond (Nat.beq p.1 t) (some p.2) (List.rec (motive:=fun _=>am Nat) none (fun p _ a7=>cond (Nat.beq p.1 t) (some p.2) a7) l:am Nat)=some n:=h;cases hb:Nat.beq p.1 t with
  |true=>
   rw[hb]at h;cases h;rw[<-zbP hb];exact zby
  |false=>
   rw[hb]at h;exact zaI _ (S1 h)
def ahM:(hZ.all fun p=>G8 Tryz.prog p.1 p.2)=true:=by kernel_rfl
def x8(t n:Nat)(h:eqs t=some n):Tryz.prog.eqGuardType Tryz.prog.depth t=false∧∀xs av b w,xs.size=n%100+n/100->av.size=n%100+n/100->o3 (n%100) xs.toList av.toList=some b->(Op.equalIn 10000 t (.agg xs) (.agg av)).run Tryz.prog w= .ok b w:=
 have J:G8 Tryz.prog t n=true:=zaP.1 ahM (t,n) (S1 h)
 aiq J
def base:zK where
 P:=Tryz.prog
 aF:=11
 kJ:=fun f=>Nat.beq f 341
 kV:=fun f=>Nat.beq f 378
 EL:=fun f ae x w=>by rw[zbP ae];exact kJ x w
 Eo:=fun f ae s c w=>by rw[zbP ae];exact kV s c w
 keys:=keys
 s4:=s4
 qb:=fun f=>cond (Nat.beq f 391) (some 5) none
 EG:=fun f e h n w hn=>by
  cases hb:Nat.beq f 391 with
  |false=>rw[hb]at h;cases h
  |true=>
   rw[hb]at h;cases h;rw[zbP hb];exact Ol n w hn
 pP:=fun f=>Nat.beq f 291
 C4:=fun f ae s c w=>by rw[zbP ae];exact bd s c w
 p9:=fun f=>Nat.beq f 375
 ma:=4
 EH:=by decide
 Er:=fun f ae s b m w J U ag az=>by rw[zbP ae];exact idx s b m w J U ag az
 eqs:=eqs
 x8:=x8
def ctx:Ctx:=mkCtx base
def dY:Good ctx:=apA _ (by kernel_rfl)
