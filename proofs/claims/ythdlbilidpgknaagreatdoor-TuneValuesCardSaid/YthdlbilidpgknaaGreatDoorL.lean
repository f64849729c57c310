/- Plain laws of digits and of numbers; no condition beyond those in the statements. -/
set_option linter.all false
namespace Go.aj.a3
def eG:List Nat->List Nat
 |[]=>[]
 |d::ds=>match eG ds with
  |[]=>if d=0 then[]else[d]
  |r=>d::r
def val(b:Nat):List Nat->Nat
 |[]=>0
 |d::ds=>d+b*val b ds
def cT(b:Nat)(ds:List Nat):Prop:=∀d∈ds,d<b
variable{b:Nat}{l:List Nat}{i:Nat}
def rN(cM:List Nat)(d:Nat):eG (cM++[d])=if d=0 then eG cM else cM++[d]:=by
 induction cM with
 |nil=>simp[eG]
 |cons x xs aZ=>
  simp only[List.cons_append];rw[eG,aZ];by_cases h:d=0
  ·rw[if_pos h,if_pos h,eG]
  ·rw[if_neg h,if_neg h];cases xs<;>rfl
def lD(b:Nat)(xs ao:List Nat):val b (xs++ao)=val b xs+b^xs.length*val b ao:=by
 induction xs with
 |nil=>simp[val]
 |cons x xs aZ=>
  simp only[List.cons_append,val,aZ,List.length_cons,Nat.pow_succ,Nat.mul_add];rw[<-Nat.mul_assoc,Nat.mul_comm b (b^xs.length)];omega
def ati(b:Nat)(ds:List Nat):val b (eG ds)=val b ds:=by
 suffices h:∀n (ds:List Nat),ds.length=n->val b (eG ds)=val b ds from h _ ds rfl
 intro n
 induction n with
 |zero=>intro ds h;rw[List.eq_nil_of_length_eq_zero h];rfl
 |succ n aZ=>
  intro ds h;rcases List.eq_nil_or_concat ds with rfl|⟨cM,d,rfl⟩
  ·rfl
  ·rw[List.concat_eq_append]at *;rw[rN];split
   ·rename_i h0;rw[aZ cM (by simpa using h),lD,h0];simp[val]
   ·rfl
def atg(ds:List Nat)(h:cT b ds):cT b (eG ds):=by
 induction ds with
 |nil=>exact h
 |cons d ds aZ=>
  have h1:=aZ (fun x J=>h x (List.mem_cons_of_mem _ J));have h2:=h d (by simp);unfold eG;split
  ·split
   ·exact fun x J=>by simp at J
   ·intro x J;simp at J;omega
  ·rename_i r hr;intro x J;rcases List.mem_cons.1 J with rfl|J
   ·exact h2
   ·exact h1 x J
def ath(ds:List Nat):eG (eG ds)=eG ds:=by
 suffices h:∀n (ds:List Nat),ds.length=n->eG (eG ds)=eG ds from h _ ds rfl
 intro n
 induction n with
 |zero=>intro ds h;rw[List.eq_nil_of_length_eq_zero h];rfl
 |succ n aZ=>
  intro ds h;rcases List.eq_nil_or_concat ds with rfl|⟨cM,d,rfl⟩
  ·rfl
  ·rw[List.concat_eq_append]at *;rw[rN];split
   ·exact aZ cM (by simpa using h)
   ·rename_i h0;rw[rN,if_neg h0]
def abo(ds:List Nat):(eG ds).length<=ds.length:=by
 induction ds with
 |nil=>exact Nat.le_refl _
 |cons d ds aZ=>
  unfold eG;split
  ·split<;>simp
  ·rename_i hr;simp;exact aZ
def j7{ds:List Nat}(h:cT b ds):val b ds<b^ds.length:=by
 induction ds with
 |nil=>simp[val]
 |cons d ds aZ=>
  have h1:=h d (by simp);have h2:=aZ (fun x J=>h x (List.mem_cons_of_mem _ J));simp only[val,List.length_cons,Nat.pow_succ];have:b*(val b ds+1)<=b*b^ds.length:=Nat.mul_le_mul_left _ h2;rw[Nat.mul_comm (b^ds.length)];rw[Nat.mul_add]at this;omega
def yi{cM:List Nat}{d:Nat}(h:eG (cM++[d])=cM++[d]):b^cM.length<=val b (cM++[d])∧d≠0:=by
 rw[rN]at h;by_cases al:d=0
 ·rw[if_pos al]at h;have:=abo cM;rw[h]at this;simp at this;omega
 ·refine⟨?_,al⟩;rw[lD];simp only[val];have:b^cM.length*1<=b^cM.length*(d+b*0):=Nat.mul_le_mul_left _ (by omega);omega
def HB(hb:0<b){x y:List Nat}(J:cT b x)(aA:eG y=y)(h:x.length<y.length):val b x<val b y:=by
 rcases List.eq_nil_or_concat y with rfl|⟨cM,d,rfl⟩
 ·simp at h
 ·rw[List.concat_eq_append]at *;have h1:=j7 J;have h2:=(yi (b:=b) aA).1;have h3:b^x.length<=b^cM.length:=Nat.pow_le_pow_right hb (by simp at h;omega);omega
def Jx{p dy s:List Nat}{x y:Nat}(hp:cT b p)(hl:p.length=dy.length)(h:x<y):val b (p++x::s)<val b (dy++y::s):=by
 rw[lD,lD,<-hl];simp only[val];have h1:=j7 hp;have h2:b^p.length*(x+b*val b s+1)<=b^p.length*(y+b*val b s):=Nat.mul_le_mul_left _ (by omega);rw[Nat.mul_add _ (x+b*val b s) 1,Nat.mul_one]at h2;omega
def hN(h:i<l.length):val b (l.take (i+1))=val b (l.take i)+b^i*l[i]:=by
 rw[List.take_succ_eq_append_getElem h,lD];simp only[val,List.length_take,Nat.min_eq_left (Nat.le_of_lt h),Nat.mul_zero,Nat.add_zero]
def jM(h:l.length<=i):val b (l.take i)=val b l:=by rw[List.take_of_length_le h]
def aR(b n:Nat):List Nat:=if h:b<2∨n=0 then[]else n%b::aR b (n/b)
termination_by n
decreasing_by
 exact Nat.div_lt_self (by omega) (by omega)
variable{n k P o c x y u w d:Nat}
def fG(b:Nat):aR b 0=[]:=by rw[aR];simp
def nE(hb:2<=b)(hn:n≠0):aR b n=n%b::aR b (n/b):=by rw[aR,dif_neg (by omega)]
def fP(hb:2<=b)(n:Nat):val b (aR b n)=n:=by
 induction n using Nat.strongRecOn with
 |ind n aZ=>
  by_cases hn:n=0
  ·subst hn;rw[fG];rfl
  ·rw[nE hb hn,val,aZ _ (Nat.div_lt_self (by omega) (by omega))];exact Nat.mod_add_div n b
def gb(hb:2<=b)(n:Nat):cT b (aR b n):=by
 induction n using Nat.strongRecOn with
 |ind n aZ=>
  by_cases hn:n=0
  ·subst hn;rw[fG];exact fun x J=>by simp at J
  ·rw[nE hb hn];intro x J;rcases List.mem_cons.1 J with rfl|J
   ·exact Nat.mod_lt _ (by omega)
   ·exact aZ _ (Nat.div_lt_self (by omega) (by omega)) x J
def nD(hb:2<=b):aR b n=[]↔n=0:=by
 constructor
 ·intro h;have:=fP hb n;rw[h]at this;simp[val]at this;omega
 ·intro h;subst h;exact fG b
def r1(hb:2<=b)(n:Nat):eG (aR b n)=aR b n:=by
 induction n using Nat.strongRecOn with
 |ind n aZ=>
  by_cases hn:n=0
  ·subst hn;rw[fG];rfl
  ·rw[nE hb hn,eG,aZ _ (Nat.div_lt_self (by omega) (by omega))];by_cases al:n/b=0
   ·rw[al,fG];have:n%b=n:=Nat.mod_eq_of_lt ((Nat.div_eq_zero_iff_lt (by omega)).1 al);rw[this];simp[hn]
   ·cases he:aR b (n/b)with
    |nil=>exact absurd ((nD hb).1 he) al
    |cons x xs=>rfl
theorem zA{b:Nat}(hb:2<=b):∀{ds:List Nat},cT b ds->eG ds=ds->aR b (val b ds)=ds
 |[],_,_=>fG b
 |d::ds,h,aN=>by
  have h1:=h d (by simp);have h2:cT b ds:=fun x J=>h x (List.mem_cons_of_mem _ J);have h3:eG ds=ds∧(ds=[]->d≠0):=by
   rw[eG]at aN;cases hr:eG ds with
   |nil=>
    rw[hr]at aN;simp only at aN;split at aN
    ·cases aN
    ·cases aN;exact⟨rfl,fun _=>by assumption⟩
   |cons x xs=>
    rw[hr]at aN;have aN:d::x::xs=d::ds:=aN;cases aN;exact⟨rfl,fun h=>by cases h⟩
  have aF:val b (d::ds)≠0:=by
   simp only[val];cases gJ:ds with
   |nil=>have:=h3.2 gJ;simp[val];exact this
   |cons x xs=>
    intro h0;have au:=zA hb h2 h3.1;have:b*val b (x::xs)=0:=by omega
    have:val b (x::xs)=0:=by
     rcases Nat.mul_eq_zero.1 this with h|h
     ·omega
     ·exact h
    rw[gJ,this,fG]at au;cases au
  rw[nE hb aF];have aq:val b (d::ds)%b=d:=by simp only[val];rw[Nat.add_mul_mod_self_left,Nat.mod_eq_of_lt h1]
  have e2:val b (d::ds)/b=val b ds:=by simp only[val];rw[Nat.add_mul_div_left _ _ (by omega),Nat.div_eq_of_lt h1];omega
  rw[aq,e2,zA hb h2 h3.1]
def yM(hb:2<=b){ds:List Nat}(h:cT b ds):eG ds=aR b (val b ds):=by
 rw[<-ati,zA hb (atg ds h) (ath ds)]
def iW(hb:2<=b)(h:n<b^k):(aR b n).length<=k:=by
 have aN:=r1 hb n;have aF:=fP hb n;rcases List.eq_nil_or_concat (aR b n)with he|⟨cM,d,he⟩
 ·rw[he];simp
 ·rw[List.concat_eq_append]at he;rw[he]at aN aF;have h1:=(yi (b:=b) aN).1;rw[aF]at h1;have h3:=(Nat.pow_lt_pow_iff_right (by omega:1<b)).1 (Nat.lt_of_le_of_lt h1 h);rw[he];simp;omega
def B4(hb:2<=b)(h:b^k<=n):k<(aR b n).length:=by
 have h1:=j7 (gb hb n);rw[fP hb]at h1;exact(Nat.pow_lt_pow_iff_right (by omega:1<b)).1 (Nat.lt_of_le_of_lt h h1)
def PV(hb:0<b)(h:o+P*c=u+w):o+P*((c+x+y)%b)+P*b*((c+x+y)/b)=u+P*x+(w+P*y):=by
 have h1:P*(c+x+y)=P*((c+x+y)%b)+P*b*((c+x+y)/b):=by
  rw[Nat.mul_assoc,<-Nat.mul_add,Nat.mod_add_div]
 rw[Nat.mul_add,Nat.mul_add]at h1;omega
def aa4{bT:Nat}(h:u+P*c=o+w)(al:x+b*bT=d+y+c):u+P*x+P*b*bT=o+P*d+(w+P*y):=by
 have h1:P*x+P*b*bT=P*d+P*y+P*c:=by
  rw[Nat.mul_assoc,<-Nat.mul_add,<-Nat.mul_add,<-Nat.mul_add,al]
 omega
def mH(h:cT b l)(i:Nat)(al:d<b):cT b (l.set i d):=fun x J=>by
 rcases List.mem_or_eq_of_mem_set J with h1|h1
 ·exact h x h1
 ·omega
def sA(hb:0<b)(n:Nat):cT b (List.replicate n 0):=fun x J=>by
 have:=List.eq_of_mem_replicate J;omega
def val_zero(b n:Nat):val b (List.replicate n 0)=0:=by
 induction n with
 |zero=>rfl
 |succ n aZ=>simp[List.replicate_succ,val,aZ]
def hR(a b:Nat):Int:=if a<b then -1 else if a=b then 0 else 1
section
variable{B P V W v1 v2 ho top mf oU q g over:Nat}
def ank(hI:V=(v1*B+v2)*P+mf)(gx:W=(top*B+ho)*P+oU)(tu:oU<P)(MC:ho<B)(h:q*V<=W):q*v1<=top:=by
 have h1:q*v1*(B*P)<=q*V:=by
  rw[Nat.mul_assoc];refine Nat.mul_le_mul_left q ?_;rw[hI,Nat.add_mul,<-Nat.mul_assoc];omega
 have h2:W<(top+1)*(B*P):=by
  have:(top*B+ho+1)*P<=(top*B+B)*P:=Nat.mul_le_mul_right P (by omega);have e:(top*B+B)*P=(top+1)*(B*P):=by rw[<-Nat.mul_assoc,Nat.add_mul top 1 B,Nat.one_mul]
  have e2:(top*B+ho+1)*P=(top*B+ho)*P+P:=by rw[Nat.add_mul _ 1 P,Nat.one_mul]
  omega
 have:=Nat.lt_of_mul_lt_mul_right (Nat.lt_of_le_of_lt (Nat.le_trans h1 h) h2);omega
def anj(hI:V=(v1*B+v2)*P+mf)(gx:W=(top*B+ho)*P+oU)(tu:oU<P)(h:q*V<=W)(Mx:q<=g)(aN:top=g*v1+over)(aJ:over*B+ho<g*v2):q<g:=by
 rcases Nat.lt_or_ge q g with az|az
 ·exact az
 ·have e:q=g:=by omega
  subst e;have h1:q*(v1*B+v2)*P<=q*V:=by
   rw[Nat.mul_assoc];refine Nat.mul_le_mul_left q ?_;omega
  have h2:W<(top*B+ho+1)*P:=by rw[Nat.add_mul _ 1 P,Nat.one_mul];omega
  have h3:=Nat.lt_of_mul_lt_mul_right (Nat.lt_of_le_of_lt (Nat.le_trans h1 h) h2);rw[aN,Nat.mul_add,Nat.add_mul]at h3;have aq:q*(v1*B)=q*v1*B:=by rw[Nat.mul_assoc]
  omega
def ani(hI:V=(v1*B+v2)*P+mf)(zP:mf<P)(nR:0<v1)(gx:W=(top*B+ho)*P+oU)(aN:top=g*v1+over)(aJ:g*v2<=over*B+ho)(VM:g<=B):g*V<=W+V:=by
 have h1:g*V<=(g*(v1*B+v2)+g)*P:=by
  have:V<=(v1*B+v2+1)*P:=by rw[hI,Nat.add_mul _ 1 P,Nat.one_mul];omega
  have:=Nat.mul_le_mul_left g this;rw[<-Nat.mul_assoc,Nat.mul_add g _ 1,Nat.mul_one]at this;exact this
 have h2:g*(v1*B+v2)<=top*B+ho:=by
  rw[aN,Nat.mul_add,Nat.add_mul];have aq:g*(v1*B)=g*v1*B:=by rw[Nat.mul_assoc]
  omega
 have h3:(g*(v1*B+v2)+g)*P<=(top*B+ho)*P+g*P:=by
  rw[Nat.add_mul];exact Nat.add_le_add_right (Nat.mul_le_mul_right P h2) _
 have au:g*P<=V:=by
  have:g*P<=(v1*B+v2)*P:=Nat.mul_le_mul_right P (by
   have:B*1<=B*v1:=Nat.mul_le_mul_left B nR;rw[Nat.mul_comm v1 B];omega)
  omega
 omega
def WQ(hI:V=(v1*B+v2)*P+mf)(zP:mf<P)(k3:v2<B)(gx:W=(top*B+ho)*P+oU)(aN:top=g*v1+over)(ai:B<=over)(VM:g<=B):g*V<=W:=by
 have h1:g*V<=g*((v1*B+B)*P):=by
  refine Nat.mul_le_mul_left g ?_;have:(v1*B+v2+1)*P<=(v1*B+B)*P:=Nat.mul_le_mul_right P (by omega);rw[Nat.add_mul _ 1 P,Nat.one_mul]at this;omega
 have h2:g*((v1*B+B)*P)=(g*v1+g)*B*P:=by
  rw[<-Nat.mul_assoc,Nat.mul_add,Nat.add_mul (g*v1) g B,Nat.mul_assoc g v1 B]
 have h3:(g*v1+g)*B*P<=top*B*P:=Nat.mul_le_mul_right P (Nat.mul_le_mul_right B (by omega));have au:top*B*P<=(top*B+ho)*P:=Nat.mul_le_mul_right P (by omega);omega
end
variable{a V B v2 mf m:Nat}
def anm{v1 h:Nat}(hI:V=(v1*B+v2)*P+mf)(zP:mf<P)(k3:v2<B)(a5:0<B)(hn:h*(P*B)<=V):h<=v1:=by
 have h1:V<(v1+1)*(P*B):=by
  have h2:(v1*B+v2+1)*P<=(v1*B+B)*P:=Nat.mul_le_mul_right P (by omega);have e:(v1*B+B)*P=(v1+1)*(P*B):=by rw[show v1*B+B=(v1+1)*B by rw[Nat.add_mul,Nat.one_mul]];ac_rfl
  rw[Nat.add_mul _ 1 P,Nat.one_mul]at h2;omega
 have hp:0<P*B:=Nat.mul_pos (by omega) a5;have:=Nat.lt_of_mul_lt_mul_right (Nat.lt_of_le_of_lt hn h1);omega
def anl{W v1 oU top qD jh ho:Nat}(hI:V=(v1*B+v2)*P+mf)(zP:mf<P)(k3:v2<B)(a5:0<B)(gx:W=(top*B+ho)*P+oU)(aN:top=jh*B+qD)(h:W<V*B):jh<=v1:=by
 have h1:V<=(v1+1)*(P*B):=by
  have h2:(v1*B+v2+1)*P<=(v1*B+B)*P:=Nat.mul_le_mul_right P (by omega);have e:(v1*B+B)*P=(v1+1)*(P*B):=by rw[show v1*B+B=(v1+1)*B by rw[Nat.add_mul,Nat.one_mul]];ac_rfl
  rw[Nat.add_mul _ 1 P,Nat.one_mul]at h2;omega
 have h3:jh*(P*B*B)<=W:=by
  have:(jh*B*B)*P<=(top*B+ho)*P:=Nat.mul_le_mul_right P (by
   rw[aN,Nat.add_mul];omega)
  have e:jh*B*B*P=jh*(P*B*B):=by ac_rfl
  omega
 have au:V*B<=(v1+1)*(P*B*B):=by
  have:=Nat.mul_le_mul_right B h1;rw[Nat.mul_assoc]at this;exact this
 have:=Nat.lt_of_mul_lt_mul_right (Nat.lt_of_le_of_lt h3 (Nat.lt_of_lt_of_le h au));omega
def anh{W g:Nat}(hI:0<V)(h1:W/V<=g)(h2:g*V<=W+V):(W<g*V->g-1=W/V∧0<g)∧(¬W<g*V->g=W/V):=by
 have al:=Nat.div_add_mod W V;have hm:=Nat.mod_lt W hI;constructor
 ·intro h;have h3:W/V<g:=(Nat.div_lt_iff_lt_mul hI).2 h;have au:(g-1)*V<=W:=by
   rw[Nat.sub_mul];omega
  have:=(Nat.le_div_iff_mul_le hI).2 au;omega
 ·intro h;have:=(Nat.le_div_iff_mul_le hI).2 (show g*V<=W by omega);omega
def xj{b n i:Nat}(hb:2<=b):i<(aR b n).length↔n/b^i≠0:=by
 have hp:0<b^i:=Nat.pow_pos (by omega);constructor
 ·intro h e;have:=iW hb (k:=i) (n:=n) (by rcases Nat.div_eq_zero_iff.1 e with h|h<;>omega);omega
 ·intro h;exact B4 hb (by
   rcases Nat.lt_or_ge n (b^i)with az|az
   ·exact absurd (Nat.div_eq_of_lt az) h
   ·exact az)
theorem tj{b:Nat}(hb:2<=b):∀{n i:Nat},i<(aR b n).length->(aR b n)[i]? =some (n/b^i%b)
 |n,i,h=>by
  by_cases h0:n=0
  ·subst h0;rw[fG]at h;simp at h
  ·rw[nE hb h0]at h⊢;cases i with
   |zero=>simp
   |succ i=>
    rw[List.getElem?_cons_succ,tj hb (by simpa using h),Nat.div_div_eq_div_mul,Nat.pow_succ,Nat.mul_comm b]
def afb(hb:2<=b)(h:i<(aR b n).length):(aR b n)[i]=n/b^i%b:=by
 have:=tj hb h;rw[List.getElem?_eq_getElem h]at this;exact Option.some.inj this
def mi(b x y i:Nat):Nat:=(x%b^i+y%b^i)/b^i
def aeE(b x y:Nat):mi b x y 0=0:=by simp[mi,Nat.mod_one]
def Ra(hb:0<b):(x+y)/b^i=x/b^i+y/b^i+mi b x y i:=by
 have hp:0<b^i:=Nat.pow_pos hb;unfold mi;have aq:=Nat.div_add_mod x (b^i);have e2:=Nat.div_add_mod y (b^i);have:x+y=(x%b^i+y%b^i)+b^i*(x/b^i+y/b^i):=by rw[Nat.mul_add];omega
 rw[this,Nat.add_mul_div_left _ _ hp];omega
def aeC(hb:0<b):mi b x y i<=1:=by
 have hp:0<b^i:=Nat.pow_pos hb;have h1:=Nat.mod_lt x hp;have h2:=Nat.mod_lt y hp;unfold mi;have:(x%b^i+y%b^i)/b^i<2:=Nat.div_lt_of_lt_mul (by omega);omega
def aeD(hb:0<b):mi b x y (i+1)=(mi b x y i+x/b^i%b+y/b^i%b)/b:=by
 have hp:0<b^i:=Nat.pow_pos hb;have e:∀z,z%b^(i+1)=z%b^i+b^i*(z/b^i%b):=fun z=>by
  rw[Nat.pow_succ,Nat.mod_mul]
 unfold mi;rw[e x,e y,Nat.pow_succ,<-Nat.div_div_eq_div_mul];congr 1;rw[show x%b^i+b^i*(x/b^i%b)+(y%b^i+b^i*(y/b^i%b))=(x%b^i+y%b^i)+b^i*(x/b^i%b+y/b^i%b) by rw[Nat.mul_add];omega,Nat.add_mul_div_left _ _ hp];omega
def aeB(hb:0<b):(mi b x y i+x/b^i%b+y/b^i%b)%b=(x+y)/b^i%b:=by
 rw[Ra hb];rw[show mi b x y i+x/b^i%b+y/b^i%b=mi b x y i+(x/b^i%b+y/b^i%b) by omega,Nat.add_mod,<-Nat.add_mod (x/b^i),<-Nat.add_mod,Nat.add_comm]
def as9(h:i<l.length):l.take (i+1)=l.take i++[l[i]]:=by
 rw[List.take_add_one,List.getElem?_eq_getElem h];rfl
def FN(hb:2<=b)(h:(aR b n).length<=k):n<b^k:=by
 have h1:=j7 (gb hb n);rw[fP hb]at h1;exact Nat.lt_of_lt_of_le h1 (Nat.pow_le_pow_right (by omega) h)
def abe(hb:2<=b)(h:(aR b n).length=m+1):(aR b n)[m]? =some (n/b^m):=by
 rw[tj hb (by omega),Nat.mod_eq_of_lt];have:=FN hb (Nat.le_of_eq h);rw[Nat.pow_succ]at this;exact Nat.div_lt_of_lt_mul this
def atb(hb:2<=b)(h:m+1<(aR b n).length)(aV:n<b^(m+2)):
 (aR b n)[m]? =some (n/b^m%b)∧(aR b n)[m+1]? =some (n/b^(m+1))∧n/b^m%b+b*(n/b^(m+1))=n/b^m:=by
 refine⟨tj hb (by omega),?_,?_⟩
 ·rw[tj hb h,Nat.mod_eq_of_lt];rw[show m+2=(m+1)+1 from rfl,Nat.pow_succ]at aV;exact Nat.div_lt_of_lt_mul aV
 ·rw[Nat.pow_succ,<-Nat.div_div_eq_div_mul];exact Nat.mod_add_div _ _
def Vb(ha:a%2=0)(h:Nat.gcd a b%2=1):Nat.gcd (a/2) b=Nat.gcd a b:=by
 obtain⟨c,rfl⟩:∃c,a=2*c:=⟨a/2,by omega⟩;have hb:b%2=1:=by
  rcases Nat.mod_two_eq_zero_or_one b with h0|h0
  ·have:2∣Nat.gcd (2*c) b:=Nat.dvd_gcd ⟨c,rfl⟩ (Nat.dvd_of_mod_eq_zero h0);omega
  ·exact h0
 have hc:Nat.Coprime 2 b:=by
  show Nat.gcd 2 b=1;rw[Nat.gcd_rec,hb];exact Nat.gcd_one_left 2
 rw[Nat.mul_div_cancel_left _ (by decide)];exact(Nat.Coprime.gcd_mul_left_cancel c hc).symm
def ajq(hb:b%2=0)(h:Nat.gcd a b%2=1):Nat.gcd a (b/2)=Nat.gcd a b:=by
 rw[Nat.gcd_comm,Vb hb (by rw[Nat.gcd_comm];exact h),Nat.gcd_comm]
def gcd_both(ha:a%2=0)(hb:b%2=0):2*Nat.gcd (a/2) (b/2)=Nat.gcd a b:=by
 obtain⟨c,rfl⟩:∃c,a=2*c:=⟨a/2,by omega⟩;obtain⟨d,rfl⟩:∃d,b=2*d:=⟨b/2,by omega⟩;rw[Nat.mul_div_cancel_left _ (by decide),Nat.mul_div_cancel_left _ (by decide),Nat.gcd_mul_left]
def Vc(h:b<=a):Nat.gcd (a-b) b=Nat.gcd a b:=by
 conv=>rhs;rw[show a=(a-b)+b by omega]
 simp
def Vd(h:¬(a%2=0∧b%2=0)):Nat.gcd a b%2=1:=by
 rcases Nat.mod_two_eq_zero_or_one (Nat.gcd a b)with h0|h0
 ·have h1:2∣Nat.gcd a b:=Nat.dvd_of_mod_eq_zero h0;have h2:=Nat.dvd_trans h1 (Nat.gcd_dvd_left a b);have h3:=Nat.dvd_trans h1 (Nat.gcd_dvd_right a b);exact absurd ⟨Nat.mod_eq_zero_of_dvd h2,Nat.mod_eq_zero_of_dvd h3⟩ h
 ·exact h0
def dec(n:Nat):List Nat:=if n=0 then[0]else(aR 10 n).reverse
def gw(l:List Nat):List UInt8:=l.map fun d=>UInt8.ofNat (48+d)
def Fl(l m:List Nat):gw (l++m)=gw l++gw m:=by unfold gw;rw[List.map_append]
def s6(l:List Nat):(gw l).length=l.length:=by unfold gw;rw[List.length_map]
def ig(k n:Nat):List Nat:=(List.range k).map fun j=>n/10^j%10
def Xd(k n:Nat):ig (k+1) n=ig k n++[n/10^k%10]:=by unfold ig;rw[List.range_succ,List.map_append];rfl
def x4(k n:Nat):(ig k n).length=k:=by unfold ig;rw[List.length_map,List.length_range]
def Xc(k n:Nat):cT 10 (ig k n):=fun d al=>by
 unfold ig at al;obtain⟨j,_,rfl⟩:=List.mem_map.1 al;exact Nat.mod_lt _ (by decide)
def Xe(k n:Nat):val 10 (ig k n)=n%10^k:=by
 induction k with
 |zero=>rw[Nat.pow_zero,Nat.mod_one];rfl
 |succ k aZ=>rw[Xd,lD,aZ,x4,Nat.mod_pow_succ];rfl
def aoH{m:List Nat}(h:cT b l)(az:cT b m):cT b (l++m):=fun d al=>(List.mem_append.1 al).elim (h d) (az d)
def Cn(l:List Nat):cT 10 (l.flatMap (ig 9)):=fun d al=>by
 obtain⟨x,_,h⟩:=List.mem_flatMap.1 al;exact Xc 9 x d h
theorem RT:∀{l:List Nat},cT 1000000000 l->val 10 (l.flatMap (ig 9))=val 1000000000 l
 |[],_=>rfl
 |x::l,h=>by
  rw[List.flatMap_cons,lD,RT (fun d al=>h d (List.mem_cons_of_mem _ al)),Xe,x4];have:=h x (by simp);show x%1000000000+1000000000*_=_;rw[Nat.mod_eq_of_lt this];rfl
def Rn(n:Nat):cT 10 (dec n):=by
 unfold dec;split
 ·intro d al;simp at al;omega
 ·exact fun d al=>gb (by decide) n d (List.mem_reverse.1 al)
def ae4(n:Nat):dec n≠[]:=by
 unfold dec;split
 ·simp
 ·intro h;exact absurd ((nD (by decide)).1 (List.reverse_eq_nil_iff.1 h)) (by assumption)
def ae5(n:Nat):val 10 (dec n).reverse=n:=by
 unfold dec;split
 ·rename_i h;rw[h];rfl
 ·rw[List.reverse_reverse,fP (by decide)]
def Row(l:List Nat):Prop:=l≠[]∧cT 10 l∧(l=[0]∨l.head?≠some 0)
def atf(h:l.getLast?≠some 0):eG l=l:=by
 rcases List.eq_nil_or_concat l with rfl|⟨cM,d,rfl⟩
 ·rfl
 ·rw[List.concat_eq_append]at *;rw[rN,if_neg (fun e=>h (by simp[e]))]
def aqF(h:Row l):dec (val 10 l.reverse)=l:=by
 obtain⟨h1,h2,h3⟩:=h;have ok:cT 10 l.reverse:=fun d al=>h2 d (List.mem_reverse.1 al);rcases h3 with rfl|h3
 ·rfl
 ·have aN:eG l.reverse=l.reverse:=atf (by rw[List.getLast?_reverse];exact h3);have al:=zA (b:=10) (by decide) ok aN;unfold dec;split
  ·rename_i h0;rw[h0,fG]at al;exact absurd (List.reverse_eq_nil_iff.1 al.symm) h1
  ·rw[al,List.reverse_reverse]
def m3(s:List UInt8):List Nat:=s.map fun c=>c.toNat-48
def b1(s:List UInt8):Nat:=val 10 (m3 s).reverse
def jl(s:List UInt8):Prop:=∀c∈s,48<=c.toNat∧c.toNat<=57
instance(s:List UInt8):Decidable (jl s):=by unfold jl;infer_instance
def hD(s:List UInt8):Prop:=s≠[]∧jl s∧(s=[48]∨s.head?≠some 48)
variable{s p:List UInt8}
instance(s:List UInt8):Decidable (hD s):=by unfold hD;infer_instance
def ac8(h:jl s):gw (m3 s)=s:=by
 unfold gw m3;rw[List.map_map]
 conv=>rhs;rw[<-List.map_id s]
 refine List.map_congr_left fun c hc=> ?_;have:=h c hc;show UInt8.ofNat (48+(c.toNat-48))=c;rw[show 48+(c.toNat-48)=c.toNat by omega,UInt8.ofNat_toNat]
def B7(h:d<10):(UInt8.ofNat (48+d)).toNat=48+d:=by
 rw[UInt8.toNat_ofNat'];omega
def afh(h:cT 10 l):m3 (gw l)=l:=by
 unfold gw m3;rw[List.map_map]
 conv=>rhs;rw[<-List.map_id l]
 refine List.map_congr_left fun d al=> ?_;have:=h d al;show(UInt8.ofNat (48+d)).toNat-48=d;rw[B7 this];omega
def ac7(h:cT 10 l):jl (gw l):=fun c hc=>by
 unfold gw at hc;obtain⟨d,al,rfl⟩:=List.mem_map.1 hc;have:=h d al;rw[B7 this];omega
def Ru(h:jl s):cT 10 (m3 s):=fun d al=>by
 unfold m3 at al;obtain⟨c,hc,rfl⟩:=List.mem_map.1 al;have:=h c hc;omega
def ady(h:hD s):Row (m3 s):=by
 obtain⟨h1,h2,h3⟩:=h;refine⟨fun e=>h1 (List.map_eq_nil_iff.1 e),Ru h2,?_⟩;rcases h3 with rfl|h3
 ·left;rfl
 ·right;cases s with
  |nil=>exact absurd rfl h1
  |cons c s=>
   have hc:=h2 c (by simp);simp only[m3,List.map_cons,List.head?_cons,ne_eq,Option.some.injEq]at h3⊢;intro e;exact h3 (UInt8.toNat_inj.1 (by show c.toNat=48;omega))
def de(n:Nat):List UInt8:=gw (dec n)
def B1(h:hD s):de (b1 s)=s:=by
 unfold de b1;rw[aqF (ady h),ac8 h.2.1]
def AX(n:Nat):b1 (de n)=n:=by
 unfold de b1;rw[afh (Rn n),ae5]
def FK(n:Nat):jl (de n):=ac7 (Rn n)
def th(n:Nat):de n≠[]:=fun h=>ae4 n (List.map_eq_nil_iff.1 h)
def HY(h:jl s):(47:UInt8)∉s:=fun hm=>by have:=h _ hm;simp at this
def cutAt:List UInt8->List UInt8×Option (List UInt8)
 |[]=>([],none)
 |c::s=>if c=47 then([],some s)else(c::(cutAt s).1,(cutAt s).2)
theorem BZ:∀{s p q:List UInt8},(47:UInt8)∉p->s=p++47::q->cutAt s=(p,some q)
 |_,[],q,_,rfl=>rfl
 |_,c::p,q,h,rfl=>by
  have hc:c≠47:=fun e=>h (by simp[e]);have:=BZ (s:=p++47::q) (p:=p) (q:=q) (fun hm=>h (List.mem_cons_of_mem _ hm)) rfl;show(if c=47 then _ else(c::(cutAt (p++47::q)).1,(cutAt (p++47::q)).2))=_;rw[if_neg hc,this]
theorem KT:∀{s:List UInt8},(47:UInt8)∉s->cutAt s=(s,none)
 |[],_=>rfl
 |c::s,h=>by
  have hc:c≠47:=fun e=>h (by simp[e]);show(if c=47 then _ else _)=_;rw[if_neg hc,KT (fun hm=>h (List.mem_cons_of_mem _ hm))]
def KS(s:List UInt8):(47:UInt8)∉(cutAt s).1∧(∀q,(cutAt s).2=some q->s=(cutAt s).1++47::q)∧((cutAt s).2=none->s=(cutAt s).1):=by
 induction s with
 |nil=>exact⟨by simp[cutAt],fun q h=>by simp[cutAt]at h,fun _=>rfl⟩
 |cons c s aZ=>
  by_cases hc:c=47
  ·subst hc;refine⟨by simp[cutAt],fun q h=> ?_,fun h=>by simp[cutAt]at h⟩;simp[cutAt]at h;subst h;rfl
  ·have e:cutAt (c::s)=(c::(cutAt s).1,(cutAt s).2):=if_neg hc;obtain⟨h1,h2,h3⟩:=aZ;rw[e];refine⟨fun hm=>(List.mem_cons.1 hm).elim (fun e=>hc e.symm) h1,fun q h=> ?_,fun h=> ?_⟩
   ·show c::s=c::((cutAt s).1++47::q);rw[<-h2 q h]
   ·show c::s=c::(cutAt s).1;rw[<-h3 h]
def dw(s:List UInt8):Bool×List UInt8:=match s with
 |[]=>(false,[])
 |c::t=>if c=45 then(true,t)else(false,c::t)
def h4(n:Bool)(p:Nat):Int:=if n then -(p:Int)else p
def fb(s:List UInt8):Option Rat:=
 if hD (cutAt (dw s).2).1∧¬((dw s).1=true∧(cutAt (dw s).2).1=[48])then match(cutAt (dw s).2).2 with
  |none=>some (mkRat (h4 (dw s).1 (b1 (cutAt (dw s).2).1)) 1)
  |some q=>if hD q∧q≠[48]∧q≠[49]∧Nat.gcd (b1 (cutAt (dw s).2).1) (b1 q)=1 then some (mkRat (h4 (dw s).1 (b1 (cutAt (dw s).2).1)) (b1 q))else none
 else none
def il(x:Rat):List UInt8:=(if x.num<0 then[45]else[])++de x.num.natAbs++(if x.den=1 then[]else 47::de x.den)
def w4(h:hD s)(h0:b1 s=0):s=[48]:=by rw[<-B1 h,h0];rfl
def QL(h:hD s)(h0:b1 s=1):s=[49]:=by
 rw[<-B1 h,h0];show gw (dec 1)=_;unfold dec;rw[if_neg (by decide),nE (by decide) (by decide),show 1/10=0 from rfl,fG];rfl
def No(n:Int)(d:Nat)(h:d≠0):(mkRat n d).num=n/((n.natAbs.gcd d:Nat):Int)∧(mkRat n d).den=d/n.natAbs.gcd d:=by
 rw[<-Rat.normalize_eq_mkRat h,Rat.normalize_eq h];exact⟨rfl,rfl⟩
def uB(n:Bool)(p:Nat):(h4 n p).natAbs=p:=by cases n<;>simp[h4]
def abx{n:Bool}{p q:Nat}(hn:n=true->p≠0)(hq:q≠0)(aJ:Nat.gcd p q=1):il (mkRat (h4 n p) q)=(if n=true then[45]else[])++de p++(if q=1 then[]else 47::de q):=by
 obtain⟨h1,h2⟩:=No (h4 n p) q hq;rw[uB,aJ]at h1 h2;unfold il;rw[h1,h2,Nat.div_one];have:(h4 n p/((1:Nat):Int))=h4 n p:=Int.ediv_one _;rw[this,uB];congr 2;cases n
 ·rw[if_neg (by simp[h4]),if_neg (by decide)]
 ·have:=hn rfl;rw[if_pos (by simp[h4];omega),if_pos rfl]
def aeM{u sM v v':List UInt8}(h:(47:UInt8)∉u)(az:(47:UInt8)∉sM)(e:u++47::v=sM++47::v'):v=v':=by
 have:=BZ (q:=v) h rfl;rw[e,BZ (q:=v') az rfl]at this;simpa using(congrArg Prod.snd this).symm
def abv{n:Bool}{q:List UInt8}(hp:hD p)(hq:hD q)(hn:¬(n=true∧p=[48]))(h0:q≠[48])(h1:q≠[49]):
 il (mkRat (h4 n (b1 p)) (b1 q))=(if n=true then[45]else[])++p++47::q↔Nat.gcd (b1 p) (b1 q)=1:=by
 have px:b1 q≠0:=fun e=>h0 (w4 hq e);have cr:b1 q≠1:=fun e=>h1 (QL hq e);have a6:(47:UInt8)∉(if n=true then[45]else[])++p:=fun hm=>by
  rcases List.mem_append.1 hm with h|h
  ·cases n<;>simp at h
  ·exact HY hp.2.1 h
 constructor
 ·intro h;obtain⟨h2,h3⟩:=No (h4 n (b1 p)) (b1 q) px;rw[uB]at h3;have XZ:∀(b:Prop) [Decidable b] (k:Nat),(47:UInt8)∉(if b then[45]else[])++de k:=fun b _ k hm=>by
   rcases List.mem_append.1 hm with h|h
   ·split at h<;>simp at h
   ·exact HY (FK k) h
  unfold il at h;by_cases al:(mkRat (h4 n (b1 p)) (b1 q)).den=1
  ·rw[if_pos al,List.append_nil]at h;exact absurd (h▸XZ _ _) (by simp)
  ·rw[if_neg al]at h;have e:=aeM (XZ _ _) a6 h;have e2:(mkRat (h4 n (b1 p)) (b1 q)).den=b1 q:=by rw[<-AX (mkRat _ _).den,e]
   rw[h3]at e2;have aJ:0<Nat.gcd (b1 p) (b1 q):=Nat.gcd_pos_of_pos_right _ (by omega);refine Nat.le_antisymm (Nat.le_of_not_lt fun h=> ?_) aJ;have:=Nat.div_lt_self (Nat.pos_of_ne_zero px) h;omega
 ·intro aJ;rw[abx (fun h e=>hn ⟨h,w4 hp e⟩) px aJ,if_neg cr,B1 hp,B1 hq]
def abw{n:Bool}(hp:hD p)(hn:¬(n=true∧p=[48])):il (mkRat (h4 n (b1 p)) 1)=(if n=true then[45]else[])++p:=by
 rw[abx (fun h e=>hn ⟨h,w4 hp e⟩) (by decide) (Nat.gcd_one_right _),if_pos rfl,List.append_nil,B1 hp]
