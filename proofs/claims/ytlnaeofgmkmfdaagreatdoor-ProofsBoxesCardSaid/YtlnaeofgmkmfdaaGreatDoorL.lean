/- Plain laws of digits and of numbers; no condition beyond those in the statements. -/
set_option linter.all false
namespace Go.an.a7
def e1:List Nat->List Nat
 |[]=>[]
 |d::ds=>match e1 ds with
  |[]=>if d=0 then[]else[d]
  |r=>d::r
def val(b:Nat):List Nat->Nat
 |[]=>0
 |d::ds=>d+b*val b ds
def dg(b:Nat)(ds:List Nat):Prop:=∀d∈ds,d<b
variable{b:Nat}{l:List Nat}{i:Nat}
def tT(dj:List Nat)(d:Nat):e1 (dj++[d])=if d=0 then e1 dj else dj++[d]:=by
 induction dj with
 |nil=>simp[e1]
 |cons x xs ba=>
  simp only[List.cons_append];rw[e1,ba];by_cases h:d=0
  ·rw[if_pos h,if_pos h,e1]
  ·rw[if_neg h,if_neg h];cases xs<;>rfl
def nN(b:Nat)(xs aw:List Nat):val b (xs++aw)=val b xs+b^xs.length*val b aw:=by
 induction xs with
 |nil=>simp[val]
 |cons x xs ba=>
  simp only[List.cons_append,val,ba,List.length_cons,Nat.pow_succ,Nat.mul_add];rw[<-Nat.mul_assoc,Nat.mul_comm b (b^xs.length)];omega
def avo(b:Nat)(ds:List Nat):val b (e1 ds)=val b ds:=by
 suffices h:∀n (ds:List Nat),ds.length=n->val b (e1 ds)=val b ds from h _ ds rfl
 intro n
 induction n with
 |zero=>intro ds h;rw[List.eq_nil_of_length_eq_zero h];rfl
 |succ n ba=>
  intro ds h;rcases List.eq_nil_or_concat ds with rfl|⟨dj,d,rfl⟩
  ·rfl
  ·rw[List.concat_eq_append]at *;rw[tT];split
   ·rename_i h0;rw[ba dj (by simpa using h),nN,h0];simp[val]
   ·rfl
def avm(ds:List Nat)(h:dg b ds):dg b (e1 ds):=by
 induction ds with
 |nil=>exact h
 |cons d ds ba=>
  have I:=ba (fun x aa=>h x (List.mem_cons_of_mem _ aa));have U:=h d (by simp);unfold e1;split
  ·split
   ·exact fun x aa=>by simp at aa
   ·intro x aa;simp at aa;omega
  ·rename_i r aD;intro x aa;rcases List.mem_cons.1 aa with rfl|aa
   ·exact U
   ·exact I x aa
def avn(ds:List Nat):e1 (e1 ds)=e1 ds:=by
 suffices h:∀n (ds:List Nat),ds.length=n->e1 (e1 ds)=e1 ds from h _ ds rfl
 intro n
 induction n with
 |zero=>intro ds h;rw[List.eq_nil_of_length_eq_zero h];rfl
 |succ n ba=>
  intro ds h;rcases List.eq_nil_or_concat ds with rfl|⟨dj,d,rfl⟩
  ·rfl
  ·rw[List.concat_eq_append]at *;rw[tT];split
   ·exact ba dj (by simpa using h)
   ·rename_i h0;rw[tT,if_neg h0]
def adA(ds:List Nat):(e1 ds).length<=ds.length:=by
 induction ds with
 |nil=>exact Nat.le_refl _
 |cons d ds ba=>
  unfold e1;split
  ·split<;>simp
  ·rename_i aD;simp;exact ba
def ll{ds:List Nat}(h:dg b ds):val b ds<b^ds.length:=by
 induction ds with
 |nil=>simp[val]
 |cons d ds ba=>
  have I:=h d (by simp);have U:=ba (fun x aa=>h x (List.mem_cons_of_mem _ aa));simp only[val,List.length_cons,Nat.pow_succ];have:b*(val b ds+1)<=b*b^ds.length:=Nat.mul_le_mul_left _ U;rw[Nat.mul_comm (b^ds.length)];rw[Nat.mul_add]at this;omega
def Jd{dj:List Nat}{d:Nat}(h:e1 (dj++[d])=dj++[d]):b^dj.length<=val b (dj++[d])∧d≠0:=by
 rw[tT]at h;by_cases ay:d=0
 ·rw[if_pos ay]at h;have:=adA dj;rw[h]at this;simp at this;omega
 ·refine⟨?_,ay⟩;rw[nN];simp only[val];have:b^dj.length*1<=b^dj.length*(d+b*0):=Nat.mul_le_mul_left _ (by omega);omega
def IU(hb:0<b){x y:List Nat}(aa:dg b x)(aJ:e1 y=y)(h:x.length<y.length):val b x<val b y:=by
 rcases List.eq_nil_or_concat y with rfl|⟨dj,d,rfl⟩
 ·simp at h
 ·rw[List.concat_eq_append]at *;have I:=ll aa;have U:=(Jd (b:=b) aJ).1;have ag:b^x.length<=b^dj.length:=Nat.pow_le_pow_right hb (by simp at h;omega);omega
def KF{p gK s:List Nat}{x y:Nat}(hp:dg b p)(hl:p.length=gK.length)(h:x<y):val b (p++x::s)<val b (gK++y::s):=by
 rw[nN,nN,<-hl];simp only[val];have I:=ll hp;have U:b^p.length*(x+b*val b s+1)<=b^p.length*(y+b*val b s):=Nat.mul_le_mul_left _ (by omega);rw[Nat.mul_add _ (x+b*val b s) 1,Nat.mul_one]at U;omega
def iN(h:i<l.length):val b (l.take (i+1))=val b (l.take i)+b^i*l[i]:=by
 rw[List.take_succ_eq_append_getElem h,nN];simp only[val,List.length_take,Nat.min_eq_left (Nat.le_of_lt h),Nat.mul_zero,Nat.add_zero]
def kU(h:l.length<=i):val b (l.take i)=val b l:=by rw[List.take_of_length_le h]
def bb(b n:Nat):List Nat:=if h:b<2∨n=0 then[]else n%b::bb b (n/b)
termination_by n
decreasing_by
 exact Nat.div_lt_self (by omega) (by omega)
variable{n k P o c x y u w d:Nat}
def hQ(b:Nat):bb b 0=[]:=by rw[bb];simp
def qQ(hb:2<=b)(hn:n≠0):bb b n=n%b::bb b (n/b):=by rw[bb,dif_neg (by omega)]
def gO(hb:2<=b)(n:Nat):val b (bb b n)=n:=by
 induction n using Nat.strongRecOn with
 |ind n ba=>
  by_cases hn:n=0
  ·subst hn;rw[hQ];rfl
  ·rw[qQ hb hn,val,ba _ (Nat.div_lt_self (by omega) (by omega))];exact Nat.mod_add_div n b
def hg(hb:2<=b)(n:Nat):dg b (bb b n):=by
 induction n using Nat.strongRecOn with
 |ind n ba=>
  by_cases hn:n=0
  ·subst hn;rw[hQ];exact fun x aa=>by simp at aa
  ·rw[qQ hb hn];intro x aa;rcases List.mem_cons.1 aa with rfl|aa
   ·exact Nat.mod_lt _ (by omega)
   ·exact ba _ (Nat.div_lt_self (by omega) (by omega)) x aa
def sX(hb:2<=b):bb b n=[]↔n=0:=by
 constructor
 ·intro h;have:=gO hb n;rw[h]at this;simp[val]at this;omega
 ·intro h;subst h;exact hQ b
def yu(hb:2<=b)(n:Nat):e1 (bb b n)=bb b n:=by
 induction n using Nat.strongRecOn with
 |ind n ba=>
  by_cases hn:n=0
  ·subst hn;rw[hQ];rfl
  ·rw[qQ hb hn,e1,ba _ (Nat.div_lt_self (by omega) (by omega))];by_cases ay:n/b=0
   ·rw[ay,hQ];have:n%b=n:=Nat.mod_eq_of_lt ((Nat.div_eq_zero_iff_lt (by omega)).1 ay);rw[this];simp[hn]
   ·cases he:bb b (n/b)with
    |nil=>exact absurd ((sX hb).1 he) ay
    |cons x xs=>rfl
theorem DF{b:Nat}(hb:2<=b):∀{ds:List Nat},dg b ds->e1 ds=ds->bb b (val b ds)=ds
 |[],_,_=>hQ b
 |d::ds,h,aV=>by
  have I:=h d (by simp);have U:dg b ds:=fun x aa=>h x (List.mem_cons_of_mem _ aa);have ag:e1 ds=ds∧(ds=[]->d≠0):=by
   rw[e1]at aV;cases aD:e1 ds with
   |nil=>
    rw[aD]at aV;simp only at aV;split at aV
    ·cases aV
    ·cases aV;exact⟨rfl,fun _=>by assumption⟩
   |cons x xs=>
    rw[aD]at aV;have aV:d::x::xs=d::ds:=aV;cases aV;exact⟨rfl,fun h=>by cases h⟩
  have aE:val b (d::ds)≠0:=by
   simp only[val];cases iT:ds with
   |nil=>have:=ag.2 iT;simp[val];exact this
   |cons x xs=>
    intro h0;have au:=DF hb U ag.1;have:b*val b (x::xs)=0:=by omega
    have:val b (x::xs)=0:=by
     rcases Nat.mul_eq_zero.1 this with h|h
     ·omega
     ·exact h
    rw[iT,this,hQ]at au;cases au
  rw[qQ hb aE];have az:val b (d::ds)%b=d:=by simp only[val];rw[Nat.add_mul_mod_self_left,Nat.mod_eq_of_lt I]
  have e2:val b (d::ds)/b=val b ds:=by simp only[val];rw[Nat.add_mul_div_left _ _ (by omega),Nat.div_eq_of_lt I];omega
  rw[az,e2,DF hb U ag.1]
def zV(hb:2<=b){ds:List Nat}(h:dg b ds):e1 ds=bb b (val b ds):=by
 rw[<-avo,DF hb (avm ds h) (avn ds)]
def mD(hb:2<=b)(h:n<b^k):(bb b n).length<=k:=by
 have aV:=yu hb n;have aE:=gO hb n;rcases List.eq_nil_or_concat (bb b n)with he|⟨dj,d,he⟩
 ·rw[he];simp
 ·rw[List.concat_eq_append]at he;rw[he]at aV aE;have I:=(Jd (b:=b) aV).1;rw[aE]at I;have ag:=(Nat.pow_lt_pow_iff_right (by omega:1<b)).1 (Nat.lt_of_le_of_lt I h);rw[he];simp;omega
def Tb(hb:2<=b)(h:b^k<=n):k<(bb b n).length:=by
 have I:=ll (hg hb n);rw[gO hb]at I;exact(Nat.pow_lt_pow_iff_right (by omega:1<b)).1 (Nat.lt_of_le_of_lt h I)
def Rp(hb:0<b)(h:o+P*c=u+w):o+P*((c+x+y)%b)+P*b*((c+x+y)/b)=u+P*x+(w+P*y):=by
 have I:P*(c+x+y)=P*((c+x+y)%b)+P*b*((c+x+y)/b):=by
  rw[Nat.mul_assoc,<-Nat.mul_add,Nat.mod_add_div]
 rw[Nat.mul_add,Nat.mul_add]at I;omega
def ac6{bL:Nat}(h:u+P*c=o+w)(ay:x+b*bL=d+y+c):u+P*x+P*b*bL=o+P*d+(w+P*y):=by
 have I:P*x+P*b*bL=P*d+P*y+P*c:=by
  rw[Nat.mul_assoc,<-Nat.mul_add,<-Nat.mul_add,<-Nat.mul_add,ay]
 omega
def nz(h:dg b l)(i:Nat)(ay:d<b):dg b (l.set i d):=fun x aa=>by
 rcases List.mem_or_eq_of_mem_set aa with I|I
 ·exact h x I
 ·omega
def tB(hb:0<b)(n:Nat):dg b (List.replicate n 0):=fun x aa=>by
 have:=List.eq_of_mem_replicate aa;omega
def val_zero(b n:Nat):val b (List.replicate n 0)=0:=by
 induction n with
 |zero=>rfl
 |succ n ba=>simp[List.replicate_succ,val,ba]
def ji(a b:Nat):Int:=if a<b then -1 else if a=b then 0 else 1
section
variable{B P V W v1 v2 hX top nc pL q g over:Nat}
def apq(ik:V=(v1*B+v2)*P+nc)(e7:W=(top*B+hX)*P+pL)(uD:pL<P)(NR:hX<B)(h:q*V<=W):q*v1<=top:=by
 have I:q*v1*(B*P)<=q*V:=by
  rw[Nat.mul_assoc];refine Nat.mul_le_mul_left q ?_;rw[ik,Nat.add_mul,<-Nat.mul_assoc];omega
 have U:W<(top+1)*(B*P):=by
  have:(top*B+hX+1)*P<=(top*B+B)*P:=Nat.mul_le_mul_right P (by omega);have e:(top*B+B)*P=(top+1)*(B*P):=by rw[<-Nat.mul_assoc,Nat.add_mul top 1 B,Nat.one_mul]
  have e2:(top*B+hX+1)*P=(top*B+hX)*P+P:=by rw[Nat.add_mul _ 1 P,Nat.one_mul]
  omega
 have:=Nat.lt_of_mul_lt_mul_right (Nat.lt_of_le_of_lt (Nat.le_trans I h) U);omega
def apo(ik:V=(v1*B+v2)*P+nc)(e7:W=(top*B+hX)*P+pL)(uD:pL<P)(h:q*V<=W)(NM:q<=g)(aV:top=g*v1+over)(aM:over*B+hX<g*v2):q<g:=by
 rcases Nat.lt_or_ge q g with aG|aG
 ·exact aG
 ·have e:q=g:=by omega
  subst e;have I:q*(v1*B+v2)*P<=q*V:=by
   rw[Nat.mul_assoc];refine Nat.mul_le_mul_left q ?_;omega
  have U:W<(top*B+hX+1)*P:=by rw[Nat.add_mul _ 1 P,Nat.one_mul];omega
  have ag:=Nat.lt_of_mul_lt_mul_right (Nat.lt_of_le_of_lt (Nat.le_trans I h) U);rw[aV,Nat.mul_add,Nat.add_mul]at ag;have az:q*(v1*B)=q*v1*B:=by rw[Nat.mul_assoc]
  omega
def apn(ik:V=(v1*B+v2)*P+nc)(A5:nc<P)(oa:0<v1)(e7:W=(top*B+hX)*P+pL)(aV:top=g*v1+over)(aM:g*v2<=over*B+hX)(Xu:g<=B):g*V<=W+V:=by
 have I:g*V<=(g*(v1*B+v2)+g)*P:=by
  have:V<=(v1*B+v2+1)*P:=by rw[ik,Nat.add_mul _ 1 P,Nat.one_mul];omega
  have:=Nat.mul_le_mul_left g this;rw[<-Nat.mul_assoc,Nat.mul_add g _ 1,Nat.mul_one]at this;exact this
 have U:g*(v1*B+v2)<=top*B+hX:=by
  rw[aV,Nat.mul_add,Nat.add_mul];have az:g*(v1*B)=g*v1*B:=by rw[Nat.mul_assoc]
  omega
 have ag:(g*(v1*B+v2)+g)*P<=(top*B+hX)*P+g*P:=by
  rw[Nat.add_mul];exact Nat.add_le_add_right (Nat.mul_le_mul_right P U) _
 have au:g*P<=V:=by
  have:g*P<=(v1*B+v2)*P:=Nat.mul_le_mul_right P (by
   have:B*1<=B*v1:=Nat.mul_le_mul_left B oa;rw[Nat.mul_comm v1 B];omega)
  omega
 omega
def YD(ik:V=(v1*B+v2)*P+nc)(A5:nc<P)(mW:v2<B)(e7:W=(top*B+hX)*P+pL)(aV:top=g*v1+over)(al:B<=over)(Xu:g<=B):g*V<=W:=by
 have I:g*V<=g*((v1*B+B)*P):=by
  refine Nat.mul_le_mul_left g ?_;have:(v1*B+v2+1)*P<=(v1*B+B)*P:=Nat.mul_le_mul_right P (by omega);rw[Nat.add_mul _ 1 P,Nat.one_mul]at this;omega
 have U:g*((v1*B+B)*P)=(g*v1+g)*B*P:=by
  rw[<-Nat.mul_assoc,Nat.mul_add,Nat.add_mul (g*v1) g B,Nat.mul_assoc g v1 B]
 have ag:(g*v1+g)*B*P<=top*B*P:=Nat.mul_le_mul_right P (Nat.mul_le_mul_right B (by omega));have au:top*B*P<=(top*B+hX)*P:=Nat.mul_le_mul_right P (by omega);omega
end
variable{a V B v2 nc m:Nat}
def aps{v1 h:Nat}(ik:V=(v1*B+v2)*P+nc)(A5:nc<P)(mW:v2<B)(a3:0<B)(hn:h*(P*B)<=V):h<=v1:=by
 have I:V<(v1+1)*(P*B):=by
  have U:(v1*B+v2+1)*P<=(v1*B+B)*P:=Nat.mul_le_mul_right P (by omega);have e:(v1*B+B)*P=(v1+1)*(P*B):=by rw[show v1*B+B=(v1+1)*B by rw[Nat.add_mul,Nat.one_mul]];ac_rfl
  rw[Nat.add_mul _ 1 P,Nat.one_mul]at U;omega
 have hp:0<P*B:=Nat.mul_pos (by omega) a3;have:=Nat.lt_of_mul_lt_mul_right (Nat.lt_of_le_of_lt hn I);omega
def apr{W v1 pL top rB jW hX:Nat}(ik:V=(v1*B+v2)*P+nc)(A5:nc<P)(mW:v2<B)(a3:0<B)(e7:W=(top*B+hX)*P+pL)(aV:top=jW*B+rB)(h:W<V*B):jW<=v1:=by
 have I:V<=(v1+1)*(P*B):=by
  have U:(v1*B+v2+1)*P<=(v1*B+B)*P:=Nat.mul_le_mul_right P (by omega);have e:(v1*B+B)*P=(v1+1)*(P*B):=by rw[show v1*B+B=(v1+1)*B by rw[Nat.add_mul,Nat.one_mul]];ac_rfl
  rw[Nat.add_mul _ 1 P,Nat.one_mul]at U;omega
 have ag:jW*(P*B*B)<=W:=by
  have:(jW*B*B)*P<=(top*B+hX)*P:=Nat.mul_le_mul_right P (by
   rw[aV,Nat.add_mul];omega)
  have e:jW*B*B*P=jW*(P*B*B):=by ac_rfl
  omega
 have au:V*B<=(v1+1)*(P*B*B):=by
  have:=Nat.mul_le_mul_right B I;rw[Nat.mul_assoc]at this;exact this
 have:=Nat.lt_of_mul_lt_mul_right (Nat.lt_of_le_of_lt ag (Nat.lt_of_lt_of_le h au));omega
def apm{W g:Nat}(ik:0<V)(I:W/V<=g)(U:g*V<=W+V):(W<g*V->g-1=W/V∧0<g)∧(¬W<g*V->g=W/V):=by
 have ay:=Nat.div_add_mod W V;have hm:=Nat.mod_lt W ik;constructor
 ·intro h;have ag:W/V<g:=(Nat.div_lt_iff_lt_mul ik).2 h;have au:(g-1)*V<=W:=by
   rw[Nat.sub_mul];omega
  have:=(Nat.le_div_iff_mul_le ik).2 au;omega
 ·intro h;have:=(Nat.le_div_iff_mul_le ik).2 (show g*V<=W by omega);omega
def AN{b n i:Nat}(hb:2<=b):i<(bb b n).length↔n/b^i≠0:=by
 have hp:0<b^i:=Nat.pow_pos (by omega);constructor
 ·intro h e;have:=mD hb (k:=i) (n:=n) (by rcases Nat.div_eq_zero_iff.1 e with h|h<;>omega);omega
 ·intro h;exact Tb hb (by
   rcases Nat.lt_or_ge n (b^i)with aG|aG
   ·exact absurd (Nat.div_eq_of_lt aG) h
   ·exact aG)
theorem ys{b:Nat}(hb:2<=b):∀{n i:Nat},i<(bb b n).length->(bb b n)[i]? =some (n/b^i%b)
 |n,i,h=>by
  by_cases h0:n=0
  ·subst h0;rw[hQ]at h;simp at h
  ·rw[qQ hb h0]at h⊢;cases i with
   |zero=>simp
   |succ i=>
    rw[List.getElem?_cons_succ,ys hb (by simpa using h),Nat.div_div_eq_div_mul,Nat.pow_succ,Nat.mul_comm b]
def aht(hb:2<=b)(h:i<(bb b n).length):(bb b n)[i]=n/b^i%b:=by
 have:=ys hb h;rw[List.getElem?_eq_getElem h]at this;exact Option.some.inj this
def nj(b x y i:Nat):Nat:=(x%b^i+y%b^i)/b^i
def agR(b x y:Nat):nj b x y 0=0:=by simp[nj,Nat.mod_one]
def SW(hb:0<b):(x+y)/b^i=x/b^i+y/b^i+nj b x y i:=by
 have hp:0<b^i:=Nat.pow_pos hb;unfold nj;have az:=Nat.div_add_mod x (b^i);have e2:=Nat.div_add_mod y (b^i);have:x+y=(x%b^i+y%b^i)+b^i*(x/b^i+y/b^i):=by rw[Nat.mul_add];omega
 rw[this,Nat.add_mul_div_left _ _ hp];omega
def agP(hb:0<b):nj b x y i<=1:=by
 have hp:0<b^i:=Nat.pow_pos hb;have I:=Nat.mod_lt x hp;have U:=Nat.mod_lt y hp;unfold nj;have:(x%b^i+y%b^i)/b^i<2:=Nat.div_lt_of_lt_mul (by omega);omega
def agQ(hb:0<b):nj b x y (i+1)=(nj b x y i+x/b^i%b+y/b^i%b)/b:=by
 have hp:0<b^i:=Nat.pow_pos hb;have e:∀z,z%b^(i+1)=z%b^i+b^i*(z/b^i%b):=fun z=>by
  rw[Nat.pow_succ,Nat.mod_mul]
 unfold nj;rw[e x,e y,Nat.pow_succ,<-Nat.div_div_eq_div_mul];congr 1;rw[show x%b^i+b^i*(x/b^i%b)+(y%b^i+b^i*(y/b^i%b))=(x%b^i+y%b^i)+b^i*(x/b^i%b+y/b^i%b) by rw[Nat.mul_add];omega,Nat.add_mul_div_left _ _ hp];omega
def agO(hb:0<b):(nj b x y i+x/b^i%b+y/b^i%b)%b=(x+y)/b^i%b:=by
 rw[SW hb];rw[show nj b x y i+x/b^i%b+y/b^i%b=nj b x y i+(x/b^i%b+y/b^i%b) by omega,Nat.add_mod,<-Nat.add_mod (x/b^i),<-Nat.add_mod,Nat.add_comm]
def avc(h:i<l.length):l.take (i+1)=l.take i++[l[i]]:=by
 rw[List.take_add_one,List.getElem?_eq_getElem h];rfl
def Tc(hb:2<=b)(h:(bb b n).length<=k):n<b^k:=by
 have I:=ll (hg hb n);rw[gO hb]at I;exact Nat.lt_of_lt_of_le I (Nat.pow_le_pow_right (by omega) h)
def adh(hb:2<=b)(h:(bb b n).length=m+1):(bb b n)[m]? =some (n/b^m):=by
 rw[ys hb (by omega),Nat.mod_eq_of_lt];have:=Tc hb (Nat.le_of_eq h);rw[Nat.pow_succ]at this;exact Nat.div_lt_of_lt_mul this
def avh(hb:2<=b)(h:m+1<(bb b n).length)(aT:n<b^(m+2)):
 (bb b n)[m]? =some (n/b^m%b)∧(bb b n)[m+1]? =some (n/b^(m+1))∧n/b^m%b+b*(n/b^(m+1))=n/b^m:=by
 refine⟨ys hb (by omega),?_,?_⟩
 ·rw[ys hb h,Nat.mod_eq_of_lt];rw[show m+2=(m+1)+1 from rfl,Nat.pow_succ]at aT;exact Nat.div_lt_of_lt_mul aT
 ·rw[Nat.pow_succ,<-Nat.div_div_eq_div_mul];exact Nat.mod_add_div _ _
def WJ(ha:a%2=0)(h:Nat.gcd a b%2=1):Nat.gcd (a/2) b=Nat.gcd a b:=by
 obtain⟨c,rfl⟩:∃c,a=2*c:=⟨a/2,by omega⟩;have hb:b%2=1:=by
  rcases Nat.mod_two_eq_zero_or_one b with h0|h0
  ·have:2∣Nat.gcd (2*c) b:=Nat.dvd_gcd ⟨c,rfl⟩ (Nat.dvd_of_mod_eq_zero h0);omega
  ·exact h0
 have hc:Nat.Coprime 2 b:=by
  show Nat.gcd 2 b=1;rw[Nat.gcd_rec,hb];exact Nat.gcd_one_left 2
 rw[Nat.mul_div_cancel_left _ (by decide)];exact(Nat.Coprime.gcd_mul_left_cancel c hc).symm
def alJ(hb:b%2=0)(h:Nat.gcd a b%2=1):Nat.gcd a (b/2)=Nat.gcd a b:=by
 rw[Nat.gcd_comm,WJ hb (by rw[Nat.gcd_comm];exact h),Nat.gcd_comm]
def gcd_both(ha:a%2=0)(hb:b%2=0):2*Nat.gcd (a/2) (b/2)=Nat.gcd a b:=by
 obtain⟨c,rfl⟩:∃c,a=2*c:=⟨a/2,by omega⟩;obtain⟨d,rfl⟩:∃d,b=2*d:=⟨b/2,by omega⟩;rw[Nat.mul_div_cancel_left _ (by decide),Nat.mul_div_cancel_left _ (by decide),Nat.gcd_mul_left]
def WK(h:b<=a):Nat.gcd (a-b) b=Nat.gcd a b:=by
 conv=>rhs;rw[show a=(a-b)+b by omega]
 simp
def WL(h:¬(a%2=0∧b%2=0)):Nat.gcd a b%2=1:=by
 rcases Nat.mod_two_eq_zero_or_one (Nat.gcd a b)with h0|h0
 ·have I:2∣Nat.gcd a b:=Nat.dvd_of_mod_eq_zero h0;have U:=Nat.dvd_trans I (Nat.gcd_dvd_left a b);have ag:=Nat.dvd_trans I (Nat.gcd_dvd_right a b);exact absurd ⟨Nat.mod_eq_zero_of_dvd U,Nat.mod_eq_zero_of_dvd ag⟩ h
 ·exact h0
def dec(n:Nat):List Nat:=if n=0 then[0]else(bb 10 n).reverse
def hE(l:List Nat):List UInt8:=l.map fun d=>UInt8.ofNat (48+d)
def RU(l m:List Nat):hE (l++m)=hE l++hE m:=by unfold hE;rw[List.map_append]
def Dh(l:List Nat):(hE l).length=l.length:=by unfold hE;rw[List.length_map]
def lC(k n:Nat):List Nat:=(List.range k).map fun j=>n/10^j%10
def YU(k n:Nat):lC (k+1) n=lC k n++[n/10^k%10]:=by unfold lC;rw[List.range_succ,List.map_append];rfl
def E2(k n:Nat):(lC k n).length=k:=by unfold lC;rw[List.length_map,List.length_range]
def apW(k n:Nat):dg 10 (lC k n):=fun d ay=>by
 unfold lC at ay;obtain⟨j,_,rfl⟩:=List.mem_map.1 ay;exact Nat.mod_lt _ (by decide)
def apX(k n:Nat):val 10 (lC k n)=n%10^k:=by
 induction k with
 |zero=>rw[Nat.pow_zero,Nat.mod_one];rfl
 |succ k ba=>rw[YU,nN,ba,E2,Nat.mod_pow_succ];rfl
def DX(l:List Nat):dg 10 (l.flatMap (lC 9)):=fun d ay=>by
 obtain⟨x,_,h⟩:=List.mem_flatMap.1 ay;exact apW 9 x d h
theorem TS:∀{l:List Nat},dg 1000000000 l->val 10 (l.flatMap (lC 9))=val 1000000000 l
 |[],_=>rfl
 |x::l,h=>by
  rw[List.flatMap_cons,nN,TS (fun d ay=>h d (List.mem_cons_of_mem _ ay)),apX,E2];have:=h x (by simp);show x%1000000000+1000000000*_=_;rw[Nat.mod_eq_of_lt this];rfl
def S9(n:Nat):dg 10 (dec n):=by
 unfold dec;split
 ·intro d ay;simp at ay;omega
 ·exact fun d ay=>hg (by decide) n d (List.mem_reverse.1 ay)
def ahk(n:Nat):val 10 (dec n).reverse=n:=by
 unfold dec;split
 ·rename_i h;rw[h];rfl
 ·rw[List.reverse_reverse,gO (by decide)]
def Row(l:List Nat):Prop:=l≠[]∧dg 10 l∧(l=[0]∨l.head?≠some 0)
def avl(h:l.getLast?≠some 0):e1 l=l:=by
 rcases List.eq_nil_or_concat l with rfl|⟨dj,d,rfl⟩
 ·rfl
 ·rw[List.concat_eq_append]at *;rw[tT,if_neg (fun e=>h (by simp[e]))]
def as1(h:Row l):dec (val 10 l.reverse)=l:=by
 obtain⟨I,U,ag⟩:=h;have ok:dg 10 l.reverse:=fun d ay=>U d (List.mem_reverse.1 ay);rcases ag with rfl|ag
 ·rfl
 ·have aV:e1 l.reverse=l.reverse:=avl (by rw[List.getLast?_reverse];exact ag);have ay:=DF (b:=10) (by decide) ok aV;unfold dec;split
  ·rename_i h0;rw[h0,hQ]at ay;exact absurd (List.reverse_eq_nil_iff.1 ay.symm) I
  ·rw[ay,List.reverse_reverse]
def nX(s:List UInt8):List Nat:=s.map fun c=>c.toNat-48
def cd(s:List UInt8):Nat:=val 10 (nX s).reverse
def jZ(s:List UInt8):Prop:=∀c∈s,48<=c.toNat∧c.toNat<=57
instance(s:List UInt8):Decidable (jZ s):=by unfold jZ;infer_instance
def iy(s:List UInt8):Prop:=s≠[]∧jZ s∧(s=[48]∨s.head?≠some 48)
variable{s p:List UInt8}
instance(s:List UInt8):Decidable (iy s):=by unfold iy;infer_instance
def aeS(h:jZ s):hE (nX s)=s:=by
 unfold hE nX;rw[List.map_map]
 conv=>rhs;rw[<-List.map_id s]
 refine List.map_congr_left fun c hc=> ?_;have:=h c hc;show UInt8.ofNat (48+(c.toNat-48))=c;rw[show 48+(c.toNat-48)=c.toNat by omega,UInt8.ofNat_toNat]
def Hj(h:d<10):(UInt8.ofNat (48+d)).toNat=48+d:=by
 rw[UInt8.toNat_ofNat'];omega
def ahy(h:dg 10 l):nX (hE l)=l:=by
 unfold hE nX;rw[List.map_map]
 conv=>rhs;rw[<-List.map_id l]
 refine List.map_congr_left fun d ay=> ?_;have:=h d ay;show(UInt8.ofNat (48+d)).toNat-48=d;rw[Hj this];omega
def aeR(h:dg 10 l):jZ (hE l):=fun c hc=>by
 unfold hE at hc;obtain⟨d,ay,rfl⟩:=List.mem_map.1 hc;have:=h d ay;rw[Hj this];omega
def Te(h:jZ s):dg 10 (nX s):=fun d ay=>by
 unfold nX at ay;obtain⟨c,hc,rfl⟩:=List.mem_map.1 ay;have:=h c hc;omega
def afi(h:iy s):Row (nX s):=by
 obtain⟨I,U,ag⟩:=h;refine⟨fun e=>I (List.map_eq_nil_iff.1 e),Te U,?_⟩;rcases ag with rfl|ag
 ·left;rfl
 ·right;cases s with
  |nil=>exact absurd rfl I
  |cons c s=>
   have hc:=U c (by simp);simp only[nX,List.map_cons,List.head?_cons,ne_eq,Option.some.injEq]at ag⊢;intro e;exact ag (UInt8.toNat_inj.1 (by show c.toNat=48;omega))
def k3(n:Nat):List UInt8:=hE (dec n)
def DE(h:iy s):k3 (cd s)=s:=by
 unfold k3 cd;rw[as1 (afi h),aeS h.2.1]
def asE(n:Nat):cd (k3 n)=n:=by
 unfold k3 cd;rw[ahy (S9 n),ahk]
def ahi(n:Nat):jZ (k3 n):=aeR (S9 n)
def Zr(h:jZ s):(47:UInt8)∉s:=fun hm=>by have:=h _ hm;simp at this
def cutAt:List UInt8->List UInt8×Option (List UInt8)
 |[]=>([],none)
 |c::s=>if c=47 then([],some s)else(c::(cutAt s).1,(cutAt s).2)
theorem Hc:∀{s p q:List UInt8},(47:UInt8)∉p->s=p++47::q->cutAt s=(p,some q)
 |_,[],q,_,rfl=>rfl
 |_,c::p,q,h,rfl=>by
  have hc:c≠47:=fun e=>h (by simp[e]);have:=Hc (s:=p++47::q) (p:=p) (q:=q) (fun hm=>h (List.mem_cons_of_mem _ hm)) rfl;show(if c=47 then _ else(c::(cutAt (p++47::q)).1,(cutAt (p++47::q)).2))=_;rw[if_neg hc,this]
theorem S0:∀{s:List UInt8},(47:UInt8)∉s->cutAt s=(s,none)
 |[],_=>rfl
 |c::s,h=>by
  have hc:c≠47:=fun e=>h (by simp[e]);show(if c=47 then _ else _)=_;rw[if_neg hc,S0 (fun hm=>h (List.mem_cons_of_mem _ hm))]
def SZ(s:List UInt8):(47:UInt8)∉(cutAt s).1∧(∀q,(cutAt s).2=some q->s=(cutAt s).1++47::q)∧((cutAt s).2=none->s=(cutAt s).1):=by
 induction s with
 |nil=>exact⟨by simp[cutAt],fun q h=>by simp[cutAt]at h,fun _=>rfl⟩
 |cons c s ba=>
  by_cases hc:c=47
  ·subst hc;refine⟨by simp[cutAt],fun q h=> ?_,fun h=>by simp[cutAt]at h⟩;simp[cutAt]at h;subst h;rfl
  ·have e:cutAt (c::s)=(c::(cutAt s).1,(cutAt s).2):=if_neg hc;obtain⟨I,U,ag⟩:=ba;rw[e];refine⟨fun hm=>(List.mem_cons.1 hm).elim (fun e=>hc e.symm) I,fun q h=> ?_,fun h=> ?_⟩
   ·show c::s=c::((cutAt s).1++47::q);rw[<-U q h]
   ·show c::s=c::(cutAt s).1;rw[<-ag h]
def ec(s:List UInt8):Bool×List UInt8:=match s with
 |[]=>(false,[])
 |c::t=>if c=45 then(true,t)else(false,c::t)
def jt(n:Bool)(p:Nat):Int:=if n then -(p:Int)else p
def cF(s:List UInt8):Option Rat:=
 if iy (cutAt (ec s).2).1∧¬((ec s).1=true∧(cutAt (ec s).2).1=[48])then match(cutAt (ec s).2).2 with
  |none=>some (mkRat (jt (ec s).1 (cd (cutAt (ec s).2).1)) 1)
  |some q=>if iy q∧q≠[48]∧q≠[49]∧Nat.gcd (cd (cutAt (ec s).2).1) (cd q)=1 then some (mkRat (jt (ec s).1 (cd (cutAt (ec s).2).1)) (cd q))else none
 else none
def o7(x:Rat):List UInt8:=(if x.num<0 then[45]else[])++k3 x.num.natAbs++(if x.den=1 then[]else 47::k3 x.den)
def yd(h:iy s)(h0:cd s=0):s=[48]:=by rw[<-DE h,h0];rfl
def Sk(h:iy s)(h0:cd s=1):s=[49]:=by
 rw[<-DE h,h0];show hE (dec 1)=_;unfold dec;rw[if_neg (by decide),qQ (by decide) (by decide),show 1/10=0 from rfl,hQ];rfl
def OF(n:Int)(d:Nat)(h:d≠0):(mkRat n d).num=n/((n.natAbs.gcd d:Nat):Int)∧(mkRat n d).den=d/n.natAbs.gcd d:=by
 rw[<-Rat.normalize_eq_mkRat h,Rat.normalize_eq h];exact⟨rfl,rfl⟩
def vB(n:Bool)(p:Nat):(jt n p).natAbs=p:=by cases n<;>simp[jt]
def adE{n:Bool}{p q:Nat}(hn:n=true->p≠0)(hq:q≠0)(aM:Nat.gcd p q=1):o7 (mkRat (jt n p) q)=(if n=true then[45]else[])++k3 p++(if q=1 then[]else 47::k3 q):=by
 obtain⟨I,U⟩:=OF (jt n p) q hq;rw[vB,aM]at I U;unfold o7;rw[I,U,Nat.div_one];have:(jt n p/((1:Nat):Int))=jt n p:=Int.ediv_one _;rw[this,vB];congr 2;cases n
 ·rw[if_neg (by simp[jt]),if_neg (by decide)]
 ·have:=hn rfl;rw[if_pos (by simp[jt];omega),if_pos rfl]
def ag2{u zW v v':List UInt8}(h:(47:UInt8)∉u)(aG:(47:UInt8)∉zW)(e:u++47::v=zW++47::v'):v=v':=by
 have:=Hc (q:=v) h rfl;rw[e,Hc (q:=v') aG rfl]at this;simpa using(congrArg Prod.snd this).symm
def avq{n:Bool}{q:List UInt8}(hp:iy p)(hq:iy q)(hn:¬(n=true∧p=[48]))(h0:q≠[48])(I:q≠[49]):
 o7 (mkRat (jt n (cd p)) (cd q))=(if n=true then[45]else[])++p++47::q↔Nat.gcd (cd p) (cd q)=1:=by
 have o1:cd q≠0:=fun e=>h0 (yd hq e);have cO:cd q≠1:=fun e=>I (Sk hq e);have bs:(47:UInt8)∉(if n=true then[45]else[])++p:=fun hm=>by
  rcases List.mem_append.1 hm with h|h
  ·cases n<;>simp at h
  ·exact Zr hp.2.1 h
 constructor
 ·intro h;obtain⟨U,ag⟩:=OF (jt n (cd p)) (cd q) o1;rw[vB]at ag;have Zz:∀(b:Prop) [Decidable b] (k:Nat),(47:UInt8)∉(if b then[45]else[])++k3 k:=fun b _ k hm=>by
   rcases List.mem_append.1 hm with h|h
   ·split at h<;>simp at h
   ·exact Zr (ahi k) h
  unfold o7 at h;by_cases ay:(mkRat (jt n (cd p)) (cd q)).den=1
  ·rw[if_pos ay,List.append_nil]at h;exact absurd (h▸Zz _ _) (by simp)
  ·rw[if_neg ay]at h;have e:=ag2 (Zz _ _) bs h;have e2:(mkRat (jt n (cd p)) (cd q)).den=cd q:=by rw[<-asE (mkRat _ _).den,e]
   rw[ag]at e2;have aM:0<Nat.gcd (cd p) (cd q):=Nat.gcd_pos_of_pos_right _ (by omega);refine Nat.le_antisymm (Nat.le_of_not_lt fun h=> ?_) aM;have:=Nat.div_lt_self (Nat.pos_of_ne_zero o1) h;omega
 ·intro aM;rw[adE (fun h e=>hn ⟨h,yd hp e⟩) o1 aM,if_neg cO,DE hp,DE hq]
def avr{n:Bool}(hp:iy p)(hn:¬(n=true∧p=[48])):o7 (mkRat (jt n (cd p)) 1)=(if n=true then[45]else[])++p:=by
 rw[adE (fun h e=>hn ⟨h,yd hp e⟩) (by decide) (Nat.gcd_one_right _),if_pos rfl,List.append_nil,DE hp]
