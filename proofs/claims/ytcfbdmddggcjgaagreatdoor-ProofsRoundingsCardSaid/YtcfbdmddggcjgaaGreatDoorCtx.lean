/- What the abstract machine needs to know of this program; no condition. -/
import Derived.Test.YtcfbdmddggcjgaaGreatDoorProg
import Derived.DeepKeys4
import Derived.Test.YtcfbdmddggcjgaaGreatDoorM3
noncomputable section
set_option linter.all false
namespace Go.az.aN
open Go.Proofs
theorem aib:Extern.findNext Tryz.f338=none:=by kernel_rfl
theorem Zk:Extern.find Tryz.f338=some Extern.AbiNoEscape.same:=by kernel_rfl
theorem aic:Extern.findNext Tryz.f350=none:=by kernel_rfl
theorem Zl:Extern.find Tryz.f350=some Extern.BytealgIndexByte.indexByte:=by kernel_rfl
theorem aia:Extern.findNext Tryz.f293=none:=by kernel_rfl
theorem Zj:Extern.find Tryz.f293=some Extern.BytealgCount.count:=by kernel_rfl
theorem ah9:Extern.findNext Tryz.f283=none:=by kernel_rfl
theorem Zi:Extern.find Tryz.f283=some Extern.BytealgIndex.index:=by kernel_rfl
theorem aks(x:Value):Extern.AbiNoEscape.same #[x]=pure x:=rfl
theorem j5(x:Value)(w:World):(callFunc 338 #[x]).run Tryz.prog w= .ok (.value x) w:=by
 have hn:(Tryz.f338.name== "runtime.NumGoroutine")=false:=by kernel_rfl
 have hb:Tryz.f338.body.isNone=true:=by kernel_rfl
 simp only[callFunc,program,Sem.run_bind];simp[Sem.run,Tryz.func338,hn,hb,aib,Zk,Result.andThen,mark,aks]
theorem aco(s:ByteArray)(c:Int):Extern.BytealgIndexByte.indexByte #[.string s,.int .u8 c]=(do
 match(List.range s.size).find? fun i=>s[i]! ==c.toNat.toUInt8 with
 |some i=>pure (goInt i)
 |none=>pure (goInt (-1))):=by
 show(do
  let b<-Extern.Bytes.bytesOf (.string s)
  let c<-Extern.Bytes.asByte (.int .u8 c)
  match(List.range b.size).find? fun i=>b[i]! ==c with
  |some i=>pure (goInt i)
  |none=>pure (goInt (-1)):Sem Value)=_
 simp only[Extern.Bytes.bytesOf,Extern.Bytes.asByte];rfl
theorem kq(s:ByteArray)(c:Int)(w:World):(callFunc 350 #[.string s,.int .u8 c]).run Tryz.prog w= .ok (.value (goInt (match(List.range s.size).find? (fun i=>s[i]! ==c.toNat.toUInt8)with|some i=>(i:Int)|none=> -1))) w:=by
 have hn:(Tryz.f350.name== "runtime.NumGoroutine")=false:=by kernel_rfl
 have hb:Tryz.f350.body.isNone=true:=by kernel_rfl
 simp only[callFunc,program,Sem.run_bind];simp only[Sem.run,Tryz.func350,hn,hb,aic,Zl,Result.andThen,mark,aco];cases(List.range s.size).find? fun i=>s[i]! ==c.toNat.toUInt8<;>rfl
theorem N1(c:UInt8):∀(l:List UInt8) (n:Int),l.foldl (fun n x=>if x==c then n+1 else n) n=n+(l.countP (fun b=>b==c):Nat)
 |[],n=>by simp
 |x::xs,n=>by
  rw[List.foldl_cons,N1 c xs,List.countP_cons];split<;>omega
theorem PU(f:Int->UInt8->Int)(bn:ByteArray):∀(i j:Nat) (b:Int),i+j=bn.size->
 (ByteArray.foldlM.loop (m:=_root_.Id) (fun x y=>pure (f x y)) bn bn.size (Nat.le_refl _) i j b).run=(bn.data.toList.drop j).foldl f b
 |0,j,b,h=>by
  unfold ByteArray.foldlM.loop;have fa:bn.data.toList.length=bn.size:=rfl;have:bn.data.toList.drop j=[]:=by rw[List.drop_eq_nil_iff];omega
  rw[this];split<;>rfl
 |i+1,j,b,h=>by
  have hj:j<bn.size:=by omega
  unfold ByteArray.foldlM.loop;rw[dif_pos hj];have kT:j<bn.data.toList.length:=hj;rw[List.drop_eq_getElem_cons kT,List.foldl_cons];exact PU f bn i (j+1) _ (by omega)
theorem VJ(f:Int->UInt8->Int)(s:ByteArray):s.foldl f (0:Int)=s.data.toList.foldl f 0:=by
 have:s.foldl f (0:Int)=(ByteArray.foldlM.loop (m:=_root_.Id) (fun x y=>pure (f x y)) s s.size (Nat.le_refl _) (s.size-0) 0 0).run:=by
  unfold ByteArray.foldl ByteArray.foldlM;simp
 rw[this,PU f s (s.size-0) 0 0 (by omega)];simp
theorem XT(s:ByteArray)(c:Int):Extern.BytealgCount.count #[.string s,.int .u8 c]=pure (goInt (s.data.toList.countP (fun b=>b==c.toNat.toUInt8):Nat)):=by
 have h0:Extern.BytealgCount.count #[.string s,.int .u8 c]=pure (goInt (s.foldl (fun n x=>if x==c.toNat.toUInt8 then n+1 else n) (0:Int))):=rfl;rw[h0,VJ,N1];simp
theorem bw(s:ByteArray)(c:Int)(w:World):(callFunc 293 #[.string s,.int .u8 c]).run Tryz.prog w= .ok (.value (goInt (s.data.toList.countP (fun b=>b==c.toNat.toUInt8):Nat))) w:=by
 have hn:(Tryz.f293.name== "runtime.NumGoroutine")=false:=by kernel_rfl
 have hb:Tryz.f293.body.isNone=true:=by kernel_rfl
 simp only[callFunc,program,Sem.run_bind];simp[Sem.run,Tryz.func293,hn,hb,aia,Zj,Result.andThen,mark,XT]
theorem JV:∀(b a:List UInt8),tz b a=true↔b.isPrefixOf a=true
 |[],a=>by simp[tz]
 |x::xs,[]=>by simp[tz]
 |x::xs,y::av=>by simp[tz,JV xs av]
theorem To(b:List UInt8)(hb:0<b.length):∀a:List UInt8,nj b a=(List.range (a.length+1-b.length)).find? (fun i=>(a.drop i).take b.length==b)
 |[]=>by
  have:([]:List UInt8).length+1-b.length=0:=by simp;omega
  rw[this];unfold nj;rw[if_neg (by cases b<;>simp_all)];rfl
 |x::xs=>by
  unfold nj;have hp:tz b (x::xs)=((x::xs).take b.length==b):=by
   rw[Bool.eq_iff_iff,JV,List.isPrefixOf_iff_prefix,List.prefix_iff_eq_take,beq_iff_eq];exact eq_comm
  by_cases h:tz b (x::xs)=true
  ·rw[if_pos h];have hle:b.length<=(x::xs).length:=by
    rw[JV,List.isPrefixOf_iff_prefix]at h;exact h.length_le
   rw[show(x::xs).length+1-b.length=((x::xs).length-b.length)+1 by omega,List.range_succ_eq_map,List.find?_cons];rw[hp]at h;simp only[List.drop_zero,h]
  ·rw[if_neg h,To b hb xs];rcases Nat.lt_or_ge (x::xs).length b.length with hl|hl
   ·have aG:(x::xs).length+1-b.length=0:=by omega
    have e2:xs.length+1-b.length=0:=by simp at hl;omega
    rw[aG,e2];rfl
   ·rw[show(x::xs).length+1-b.length=(xs.length+1-b.length)+1 by simp at hl ⊢;omega,List.range_succ_eq_map,List.find?_cons];have af:((x::xs).take b.length==b)=false:=by rw[<-hp];simpa using h
    simp only[List.drop_zero,af];rw[List.find?_map];rfl
theorem Za(a b:ByteArray)(i:Nat):(a.extract i (i+b.size)==b)=((a.data.toList.drop i).take b.data.toList.length==b.data.toList):=by
 have h0:(a.extract i (i+b.size)==b)=((a.extract i (i+b.size)).data==b.data):=rfl;rw[h0,Bool.eq_iff_iff,beq_iff_eq,beq_iff_eq];have J:(a.extract i (i+b.size)).data.toList=(a.data.toList.drop i).take b.data.toList.length:=by
  rw[ByteArray.data_extract,Array.toList_extract,List.extract_eq_take_drop];have fa:b.data.toList.length=b.size:=rfl;rw[fa];congr 1;omega
 constructor
 ·intro h;rw[<-J,h]
 ·intro h;apply Array.toList_inj.1;rw[J,h]
theorem acH(s b:ByteArray)(m:Int)(w:World)(hl:(load ⟨3,0,none⟩).run Tryz.prog w= .ok (.int .i64 m) w)(U:2<=b.size)(hm:(b.size:Int)<=m)(ak:s.size<=1000000):
 (Extern.BytealgIndex.index #[.string s,.string b]).run Tryz.prog w= .ok (goInt (match nj b.data.toList s.data.toList with|some i=>(i:Int)|none=> -1)) w:=by
 obtain⟨e0,gV,e⟩:∃(e0 gV:Unsupported),Extern.BytealgIndex.index #[.string s,.string b]=(do
  let x<-Extern.Bytes.bytesOf (.string s)
  let y<-Extern.Bytes.bytesOf (.string b)
  if y.size<2||(y.size:Int)>(<-Extern.BytealgIndex.maxLen)then unsupported e0
  if x.size>=2^32-15 then unsupported gV
  match(List.range (x.size+1-y.size)).find? fun i=>x.extract i (i+y.size)==y with
  |some i=>pure (goInt i)
  |none=>pure (goInt (-1)):Sem Value):=⟨_,_,rfl⟩
 have aZ:(globalAddr "internal/bytealg.MaxLen").run Tryz.prog w= .ok ⟨3,0,none⟩ w:=by
  have:Tryz.prog.globals.findIdx? (fun g=>g.name== "internal/bytealg.MaxLen")=some 3:=by kernel_rfl
  simp[globalAddr,program,Sem.run,this]
 have DO:Extern.BytealgIndex.maxLen.run Tryz.prog w= .ok m w:=by
  simp only[Extern.BytealgIndex.maxLen,Sem.run_bind,aZ,Result.andThen,hl];simp[asInt,asIntOf]
 have fj:¬b.size<2:=by omega
 have gm:¬(b.size:Int)>m:=by omega
 have ld:¬s.size>=2^32-15:=by omega
 rw[e];simp only[Extern.Bytes.bytesOf,Sem.run_bind,Sem.run_pure,Result.andThen,DO,fj,gm,ld,decide_false,Bool.or_false,Bool.false_eq_true,if_false];have AB:=To b.data.toList (show 0<b.size by omega) s.data.toList;have abG:(List.range (s.size+1-b.size)).find? (fun i=>s.extract i (i+b.size)==b)=nj b.data.toList s.data.toList:=by
  rw[AB];simp only[Za];rfl
 rw[abG];cases nj b.data.toList s.data.toList<;>rfl
theorem idx(s b:ByteArray)(m:Int)(w:World)(hl:(load ⟨3,0,none⟩).run Tryz.prog w= .ok (.int .i64 m) w)(U:2<=b.size)(hm:(b.size:Int)<=m)(ak:s.size<=1000000):
 (callFunc 283 #[.string s,.string b]).run Tryz.prog w= .ok (.value (goInt (match nj b.data.toList s.data.toList with|some i=>(i:Int)|none=> -1))) w:=by
 have hn:(Tryz.f283.name== "runtime.NumGoroutine")=false:=by kernel_rfl
 have hb:Tryz.f283.body.isNone=true:=by kernel_rfl
 have:=acH s b m w hl U hm ak;simp only[callFunc,program,Sem.run_bind];have aG:∀(x:Sem Value),((do let r<-x;pure (Next.value r)):Sem Next).run Tryz.prog w=(x.run Tryz.prog w).andThen (fun v w'=>.ok (.value v) w'):=fun x=>by
  simp
 have e2:=aG (Extern.BytealgIndex.index #[.string s,.string b]);rw[this]at e2;simp only[Sem.run,Tryz.func283,hn,hb,ah9,Zi,Result.andThen,mark]at e2⊢;exact e2
theorem am2{k:IntKind}{n:Int}(h:D9 k n=true):(Lit.int k n).wf=true:=by
 unfold D9 at h;rw[Bool.and_eq_true,qu,qu]at h;simp only[Lit.wf,Bool.and_eq_true];exact h
theorem ok_int{k:IntKind}{v:Value}(h:(fz.int k).ok v=true):∃n,v= .int k n∧(Lit.int k n).wf=true:=by
 obtain⟨k',n,rfl,U⟩:=iF (v:=v) (z:=false) (r:=true) h (by decide);rw[Bool.and_eq_true]at U;have:=rP U.1;subst this;exact⟨n,rfl,am2 U.2⟩
theorem aiD{k:IntKind}{n:Nat}{v:Value}(h:(fz.arr k n).ok v=true):∃xs:Array Value,v= .agg xs∧xs.toList.length=n∧∀x∈xs.toList,∃m,x= .int k m∧(Lit.int k m).wf=true:=by
 obtain⟨xs,rfl,U⟩:=wg (v:=v) (z:=false) (r:=true) h (by decide);rw[Bool.and_eq_true,List.all_eq_true,fx]at U;exact⟨xs,rfl,Nat.eq_of_beq_eq_true U.1,fun x aa=>ok_int (U.2 x aa)⟩
def keys(k:TypeId):Option fz:=if k=3 then some (.int .i64)else if k=9 then some .str else if k=253 then some (.arr .i64 6)else none
theorem ahB:WideMaps.KeyLaw Tryz.prog 253:=deep_law_laid (by kernel_rfl) (m:=2) (by omega) (of_decide_eq_true (by kernel_rfl)) (by kernel_rfl) (by kernel_rfl)
theorem ld:Tryz.prog.cellsOf 3=1:=by kernel_rfl
theorem M1:Tryz.prog.cellsOf 253=6:=by kernel_rfl
theorem ahx:Tryz.prog.keyType 253=true:=by kernel_rfl
theorem ts:Tryz.prog.types.size+1=454:=by kernel_rfl
theorem ahl{v:Value}(h:(fz.arr .i64 6).ok v=true):∃l,keyOf Tryz.prog 253 v=some l:=by
 obtain⟨xs,rfl,hlen,dV⟩:=aiD h;obtain⟨l⟩:=xs;simp only at hlen dV
 match l,hlen with
 |[a,b,c,d,e,f],_=>
  obtain⟨a,rfl,amY⟩:=dV a (by simp);obtain⟨b,rfl,am1⟩:=dV b (by simp);obtain⟨c,rfl,Ln⟩:=dV c (by simp);obtain⟨d,rfl,wd⟩:=dV d (by simp);obtain⟨e,rfl,Lo⟩:=dV e (by simp);obtain⟨f,rfl,wf⟩:=dV f (by simp);refine⟨.string (keyBytes [.int .i64 a,.int .i64 b,.int .i64 c,.int .i64 d,.int .i64 e,.int .i64 f]),?_⟩;unfold keyOf;rw[Tryz.underlying253,ts];have af:Value.formed Tryz.prog 253 (.agg #[.int .i64 a,.int .i64 b,.int .i64 c,.int .i64 d,.int .i64 e,.int .i64 f])=true:=by
   simp[Value.formed,Tryz.underlying253,M1]
  simp only[ahx,af,Bool.and_self,if_true];have ae:∀n:Int,(Lit.int .i64 n).wf=true->Tryz.prog.keyLits 453 3 [.int .i64 n]=some [.int .i64 n]:=by
   intro n hn;simp[Program.keyLits,Tryz.underlying3,hn]
  have gC:∀cs:List Value,Tryz.prog.keyLits 454 253 cs=if cs.length=Tryz.prog.cellsOf 253 then((List.range 6).mapM fun i=>Tryz.prog.keyLits 453 3 ((cs.drop (i*Tryz.prog.cellsOf 3)).take (Tryz.prog.cellsOf 3))).map List.flatten else none:=by
   intro cs
   conv=>lhs;unfold Program.keyLits
   rw[Tryz.underlying253]
  rw[gC];simp[M1,ld,Value.cells,List.range,List.range.loop,ae a amY,ae b am1,ae c Ln,ae d wd,ae e Lo,ae f wf]
theorem qt:∀k dq,keys k=some dq->Maps.Keyed Tryz.prog k∧∀v,dq.ok v=true->∃l,keyOf Tryz.prog k v=some l:=by
 intro k dq h;unfold keys at h;split at h
 ·rename_i e;subst e;cases h;refine⟨Maps.int_keyed Tryz.underlying3,fun v aD=> ?_⟩;obtain⟨n,rfl,hn⟩:=ok_int aD;exact⟨_,Maps.keyOf_int_mk Tryz.underlying3 hn⟩
 ·split at h
  ·rename_i e;subst e;cases h;refine⟨Maps.Keyed.of_law (WideMaps.string_law Tryz.underlying9),fun v aD=> ?_⟩;obtain⟨s,rfl,U⟩:=n7 (v:=v) (z:=false) (r:=true) aD (by decide);rw[fx]at U;have ah:=kF.1 U;have aC:s.data.toList.length=s.size:=rfl;exact⟨_,WideMaps.keyOf_string_mk Tryz.underlying9 (by unfold maxLen;omega)⟩
  ·split at h
   ·rename_i e;subst e;cases h;exact⟨Maps.Keyed.of_law ahB,fun v aD=>ahl aD⟩
   ·cases h
def eqs(t:TypeId):Option Nat:=if t=276 then some 2 else none
theorem NP{x y:Value}{b:Bool}(h:C2 x y=some b):∃k m n,x= .int k m∧y= .int k n∧b=(m==n):=by
 unfold C2 at h;split at h
 ·split at h
  ·rename_i e;subst e;cases h;exact⟨_,_,_,rfl,rfl,rfl⟩
  ·cases h
 ·cases h
theorem uF:∀t n,eqs t=some n->Tryz.prog.eqGuardType Tryz.prog.depth t=false∧∀xs av b w,xs.size=n->av.size=n->ou xs.toList av.toList=some b->(Op.equalIn 10000 t (.agg xs) (.agg av)).run Tryz.prog w= .ok b w:=by
 intro t n h;unfold eqs at h;split at h
 ·rename_i e;subst e;cases h;refine⟨by kernel_rfl,fun xs av b w aa aJ he=> ?_⟩;obtain⟨xs⟩:=xs;obtain⟨av⟩:=av
  match xs,aa,av,aJ,he with
  |[g4,ev],_,[y0,y1],_,he=>
   unfold ou at he;obtain⟨kE,h0,Dy⟩:=fC (z:=none) (r:=some b) he (by simp);obtain⟨bu,xO,mH,rfl,rfl,bR⟩:=NP h0;have hu:Tryz.prog.underlying 276=some (.struct (Tryz.prog.fieldsOf 276)):=by kernel_rfl
   have ak:Tryz.prog.stoodInHeld 276=false:=by kernel_rfl
   have J:∃dz,ou [ev] [y1]=some dz∧b=(kE&&dz):=by
    cases kE
    ·obtain⟨dz,hv,nK⟩:=fC (z:=none) (r:=some b) Dy (by simp);cases nK;exact⟨dz,hv,rfl⟩
    ·exact⟨b,Dy,by simp⟩
   obtain⟨dz,hv,hb⟩:=J;unfold ou at hv;obtain⟨fj,m4,jr⟩:=fC (z:=none) (r:=some dz) hv (by simp);obtain⟨bg,e0,lA,rfl,rfl,aG⟩:=NP m4;have aar:dz=(e0==lA):=by
    rw[<-aG];cases fj
    ·have hq:(some false:Option Bool)=some dz:=jr;cases hq;rfl
    ·have:(some true:Option Bool)=some dz:=jr;cases this;rfl
   have H5:(Tryz.prog.fieldsOf 276).toList=[Field.mk "Hi" 83 0 false "" "" 0,Field.mk "Lo" 83 1 false "" "" 8]:=by kernel_rfl
   rw[show(10000:Nat)=9998+1+1 from rfl,run_equalIn_struct w (9998+1) 276 _ _ hu ak,H5];have Ov:Tryz.prog.underlying 83=some (.int .u64):=Tryz.underlying83;have hp:∀(cs:Array Value) (off:Nat) (v:Value) (w:World),cs[off]? =some v->(part 83 cs off).run Tryz.prog w= .ok v w:=by
    intro cs off v w h;simp[part,isAgg,run_underlying Ov,h]
   rw[hb,bR,aar];have dW:=fun w=>hp #[.int bu xO,.int bg e0] 0 (.int bu xO) w rfl;have dM:=fun w=>hp #[.int bu mH,.int bg lA] 0 (.int bu mH) w rfl;have eT:=fun w=>hp #[.int bu xO,.int bg e0] 1 (.int bg e0) w rfl;have ih:=fun w=>hp #[.int bu mH,.int bg lA] 1 (.int bg lA) w rfl;have oY:∀(k:IntKind) (a b:Int) w,(Op.equalIn (9998+1) 83 (.int k a) (.int k b)).run Tryz.prog w= .ok (a==b) w:=fun k a b w=>run_equalIn_int w 9998 83 k _ a b Ov;have aii:("Hi":String)≠ "_":=by decide
   have aof:("Lo":String)≠ "_":=by decide
   simp only[Op.eqFields,Sem.run_bind,Sem.run_ite,dW,dM,eT,ih,oY,Result.andThen_ok];rw[if_pos aii];cases a5:(xO==mH)<;>cases ch:(e0==lA)<;>simp
 ·cases h
def base:wy where
 P:=Tryz.prog
 aB:=11
 j5:=fun f=>Nat.beq f 338
 kq:=fun f=>Nat.beq f 350
 A4:=fun f af x w=>by rw[Nat.eq_of_beq_eq_true af];exact j5 x w
 AL:=fun f af s c w=>by rw[Nat.eq_of_beq_eq_true af];exact kq s c w
 keys:=keys
 qt:=qt
 nv:=fun f=>Nat.beq f 293
 zw:=fun f af s c w=>by rw[Nat.eq_of_beq_eq_true af];exact bw s c w
 nO:=fun f=>Nat.beq f 283
 l4:=3
 A1:=by decide
 AN:=fun f af s b m w J U ah aC=>by rw[Nat.eq_of_beq_eq_true af];exact idx s b m w J U ah aC
 eqs:=eqs
 uF:=uF
def ctx:Ctx:=mkCtx base
theorem cG:Good ctx:=ahW _ (by kernel_rfl)
