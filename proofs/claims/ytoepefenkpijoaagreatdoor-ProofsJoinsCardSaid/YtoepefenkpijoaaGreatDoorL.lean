/- Plain laws of digits and of numbers; no condition beyond those in the statements. -/
set_option linter.all false
namespace Go.ar.a9
def eV:List Nat->List Nat
 |[]=>[]
 |d::ds=>match eV ds with
  |[]=>if d=0 then[]else[d]
  |r=>d::r
def val(b:Nat):List Nat->Nat
 |[]=>0
 |d::ds=>d+b*val b ds
def cV(b:Nat)(ds:List Nat):Prop:=∀d∈ds,d<b
variable{b:Nat}{l:List Nat}{i:Nat}
def ss(c7:List Nat)(d:Nat):eV (c7++[d])=if d=0 then eV c7 else c7++[d]:=by
 induction c7 with
 |nil=>simp[eV]
 |cons x xs a7=>
  simp only[List.cons_append];rw[eV,a7];by_cases h:d=0
  ·rw[if_pos h,if_pos h,eV]
  ·rw[if_neg h,if_neg h];cases xs<;>rfl
def mZ(b:Nat)(xs av:List Nat):val b (xs++av)=val b xs+b^xs.length*val b av:=by
 induction xs with
 |nil=>simp[val]
 |cons x xs a7=>
  simp only[List.cons_append,val,a7,List.length_cons,Nat.pow_succ,Nat.mul_add];rw[<-Nat.mul_assoc,Nat.mul_comm b (b^xs.length)];omega
def au5(b:Nat)(ds:List Nat):val b (eV ds)=val b ds:=by
 suffices h:∀n (ds:List Nat),ds.length=n->val b (eV ds)=val b ds from h _ ds rfl
 intro n
 induction n with
 |zero=>intro ds h;rw[List.eq_nil_of_length_eq_zero h];rfl
 |succ n a7=>
  intro ds h;rcases List.eq_nil_or_concat ds with rfl|⟨c7,d,rfl⟩
  ·rfl
  ·rw[List.concat_eq_append]at *;rw[ss];split
   ·rename_i h0;rw[a7 c7 (by simpa using h),mZ,h0];simp[val]
   ·rfl
def au3(ds:List Nat)(h:cV b ds):cV b (eV ds):=by
 induction ds with
 |nil=>exact h
 |cons d ds a7=>
  have J:=a7 (fun x aa=>h x (List.mem_cons_of_mem _ aa));have U:=h d (by simp);unfold eV;split
  ·split
   ·exact fun x aa=>by simp at aa
   ·intro x aa;simp at aa;omega
  ·rename_i r aE;intro x aa;rcases List.mem_cons.1 aa with rfl|aa
   ·exact U
   ·exact J x aa
def au4(ds:List Nat):eV (eV ds)=eV ds:=by
 suffices h:∀n (ds:List Nat),ds.length=n->eV (eV ds)=eV ds from h _ ds rfl
 intro n
 induction n with
 |zero=>intro ds h;rw[List.eq_nil_of_length_eq_zero h];rfl
 |succ n a7=>
  intro ds h;rcases List.eq_nil_or_concat ds with rfl|⟨c7,d,rfl⟩
  ·rfl
  ·rw[List.concat_eq_append]at *;rw[ss];split
   ·exact a7 c7 (by simpa using h)
   ·rename_i h0;rw[ss,if_neg h0]
def ac4(ds:List Nat):(eV ds).length<=ds.length:=by
 induction ds with
 |nil=>exact Nat.le_refl _
 |cons d ds a7=>
  unfold eV;split
  ·split<;>simp
  ·rename_i aE;simp;exact a7
def kZ{ds:List Nat}(h:cV b ds):val b ds<b^ds.length:=by
 induction ds with
 |nil=>simp[val]
 |cons d ds a7=>
  have J:=h d (by simp);have U:=a7 (fun x aa=>h x (List.mem_cons_of_mem _ aa));simp only[val,List.length_cons,Nat.pow_succ];have:b*(val b ds+1)<=b*b^ds.length:=Nat.mul_le_mul_left _ U;rw[Nat.mul_comm (b^ds.length)];rw[Nat.mul_add]at this;omega
def EM{c7:List Nat}{d:Nat}(h:eV (c7++[d])=c7++[d]):b^c7.length<=val b (c7++[d])∧d≠0:=by
 rw[ss]at h;by_cases aA:d=0
 ·rw[if_pos aA]at h;have:=ac4 c7;rw[h]at this;simp at this;omega
 ·refine⟨?_,aA⟩;rw[mZ];simp only[val];have:b^c7.length*1<=b^c7.length*(d+b*0):=Nat.mul_le_mul_left _ (by omega);omega
def Iu(hb:0<b){x y:List Nat}(aa:cV b x)(aL:eV y=y)(h:x.length<y.length):val b x<val b y:=by
 rcases List.eq_nil_or_concat y with rfl|⟨c7,d,rfl⟩
 ·simp at h
 ·rw[List.concat_eq_append]at *;have J:=kZ aa;have U:=(EM (b:=b) aL).1;have ag:b^x.length<=b^c7.length:=Nat.pow_le_pow_right hb (by simp at h;omega);omega
def Kp{p dO s:List Nat}{x y:Nat}(hp:cV b p)(hl:p.length=dO.length)(h:x<y):val b (p++x::s)<val b (dO++y::s):=by
 rw[mZ,mZ,<-hl];simp only[val];have J:=kZ hp;have U:b^p.length*(x+b*val b s+1)<=b^p.length*(y+b*val b s):=Nat.mul_le_mul_left _ (by omega);rw[Nat.mul_add _ (x+b*val b s) 1,Nat.mul_one]at U;omega
def iF(h:i<l.length):val b (l.take (i+1))=val b (l.take i)+b^i*l[i]:=by
 rw[List.take_succ_eq_append_getElem h,mZ];simp only[val,List.length_take,Nat.min_eq_left (Nat.le_of_lt h),Nat.mul_zero,Nat.add_zero]
def kM(h:l.length<=i):val b (l.take i)=val b l:=by rw[List.take_of_length_le h]
def aY(b n:Nat):List Nat:=if h:b<2∨n=0 then[]else n%b::aY b (n/b)
termination_by n
decreasing_by
 exact Nat.div_lt_self (by omega) (by omega)
variable{n k P o c x y u w d:Nat}
def gE(b:Nat):aY b 0=[]:=by rw[aY];simp
def oj(hb:2<=b)(hn:n≠0):aY b n=n%b::aY b (n/b):=by rw[aY,dif_neg (by omega)]
def gD(hb:2<=b)(n:Nat):val b (aY b n)=n:=by
 induction n using Nat.strongRecOn with
 |ind n a7=>
  by_cases hn:n=0
  ·subst hn;rw[gE];rfl
  ·rw[oj hb hn,val,a7 _ (Nat.div_lt_self (by omega) (by omega))];exact Nat.mod_add_div n b
def hi(hb:2<=b)(n:Nat):cV b (aY b n):=by
 induction n using Nat.strongRecOn with
 |ind n a7=>
  by_cases hn:n=0
  ·subst hn;rw[gE];exact fun x aa=>by simp at aa
  ·rw[oj hb hn];intro x aa;rcases List.mem_cons.1 aa with rfl|aa
   ·exact Nat.mod_lt _ (by omega)
   ·exact a7 _ (Nat.div_lt_self (by omega) (by omega)) x aa
def pT(hb:2<=b):aY b n=[]↔n=0:=by
 constructor
 ·intro h;have:=gD hb n;rw[h]at this;simp[val]at this;omega
 ·intro h;subst h;exact gE b
def we(hb:2<=b)(n:Nat):eV (aY b n)=aY b n:=by
 induction n using Nat.strongRecOn with
 |ind n a7=>
  by_cases hn:n=0
  ·subst hn;rw[gE];rfl
  ·rw[oj hb hn,eV,a7 _ (Nat.div_lt_self (by omega) (by omega))];by_cases aA:n/b=0
   ·rw[aA,gE];have:n%b=n:=Nat.mod_eq_of_lt ((Nat.div_eq_zero_iff_lt (by omega)).1 aA);rw[this];simp[hn]
   ·cases he:aY b (n/b)with
    |nil=>exact absurd ((pT hb).1 he) aA
    |cons x xs=>rfl
theorem Ag{b:Nat}(hb:2<=b):∀{ds:List Nat},cV b ds->eV ds=ds->aY b (val b ds)=ds
 |[],_,_=>gE b
 |d::ds,h,aW=>by
  have J:=h d (by simp);have U:cV b ds:=fun x aa=>h x (List.mem_cons_of_mem _ aa);have ag:eV ds=ds∧(ds=[]->d≠0):=by
   rw[eV]at aW;cases aE:eV ds with
   |nil=>
    rw[aE]at aW;simp only at aW;split at aW
    ·cases aW
    ·cases aW;exact⟨rfl,fun _=>by assumption⟩
   |cons x xs=>
    rw[aE]at aW;have aW:d::x::xs=d::ds:=aW;cases aW;exact⟨rfl,fun h=>by cases h⟩
  have aD:val b (d::ds)≠0:=by
   simp only[val];cases iN:ds with
   |nil=>have:=ag.2 iN;simp[val];exact this
   |cons x xs=>
    intro h0;have az:=Ag hb U ag.1;have:b*val b (x::xs)=0:=by omega
    have:val b (x::xs)=0:=by
     rcases Nat.mul_eq_zero.1 this with h|h
     ·omega
     ·exact h
    rw[iN,this,gE]at az;cases az
  rw[oj hb aD];have aC:val b (d::ds)%b=d:=by simp only[val];rw[Nat.add_mul_mod_self_left,Nat.mod_eq_of_lt J]
  have e2:val b (d::ds)/b=val b ds:=by simp only[val];rw[Nat.add_mul_div_left _ _ (by omega),Nat.div_eq_of_lt J];omega
  rw[aC,e2,Ag hb U ag.1]
def zw(hb:2<=b){ds:List Nat}(h:cV b ds):eV ds=aY b (val b ds):=by
 rw[<-au5,Ag hb (au3 ds h) (au4 ds)]
def jZ(hb:2<=b)(h:n<b^k):(aY b n).length<=k:=by
 have aW:=we hb n;have aD:=gD hb n;rcases List.eq_nil_or_concat (aY b n)with he|⟨c7,d,he⟩
 ·rw[he];simp
 ·rw[List.concat_eq_append]at he;rw[he]at aW aD;have J:=(EM (b:=b) aW).1;rw[aD]at J;have ag:=(Nat.pow_lt_pow_iff_right (by omega:1<b)).1 (Nat.lt_of_le_of_lt J h);rw[he];simp;omega
def Dc(hb:2<=b)(h:b^k<=n):k<(aY b n).length:=by
 have J:=kZ (hi hb n);rw[gD hb]at J;exact(Nat.pow_lt_pow_iff_right (by omega:1<b)).1 (Nat.lt_of_le_of_lt h J)
def QS(hb:0<b)(h:o+P*c=u+w):o+P*((c+x+y)%b)+P*b*((c+x+y)/b)=u+P*x+(w+P*y):=by
 have J:P*(c+x+y)=P*((c+x+y)%b)+P*b*((c+x+y)/b):=by
  rw[Nat.mul_assoc,<-Nat.mul_add,Nat.mod_add_div]
 rw[Nat.mul_add,Nat.mul_add]at J;omega
def acI{bE:Nat}(h:u+P*c=o+w)(aA:x+b*bE=d+y+c):u+P*x+P*b*bE=o+P*d+(w+P*y):=by
 have J:P*x+P*b*bE=P*d+P*y+P*c:=by
  rw[Nat.mul_assoc,<-Nat.mul_add,<-Nat.mul_add,<-Nat.mul_add,aA]
 omega
def nm(h:cV b l)(i:Nat)(aA:d<b):cV b (l.set i d):=fun x aa=>by
 rcases List.mem_or_eq_of_mem_set aa with J|J
 ·exact h x J
 ·omega
def tf(hb:0<b)(n:Nat):cV b (List.replicate n 0):=fun x aa=>by
 have:=List.eq_of_mem_replicate aa;omega
def val_zero(b n:Nat):val b (List.replicate n 0)=0:=by
 induction n with
 |zero=>rfl
 |succ n a7=>simp[List.replicate_succ,val,a7]
def iY(a b:Nat):Int:=if a<b then -1 else if a=b then 0 else 1
section
variable{B P V W v1 v2 fK top m5 pI q g over:Nat}
def aoT(ia:V=(v1*B+v2)*P+m5)(gS:W=(top*B+fK)*P+pI)(uk:pI<P)(Nx:fK<B)(h:q*V<=W):q*v1<=top:=by
 have J:q*v1*(B*P)<=q*V:=by
  rw[Nat.mul_assoc];refine Nat.mul_le_mul_left q ?_;rw[ia,Nat.add_mul,<-Nat.mul_assoc];omega
 have U:W<(top+1)*(B*P):=by
  have:(top*B+fK+1)*P<=(top*B+B)*P:=Nat.mul_le_mul_right P (by omega);have e:(top*B+B)*P=(top+1)*(B*P):=by rw[<-Nat.mul_assoc,Nat.add_mul top 1 B,Nat.one_mul]
  have e2:(top*B+fK+1)*P=(top*B+fK)*P+P:=by rw[Nat.add_mul _ 1 P,Nat.one_mul]
  omega
 have:=Nat.lt_of_mul_lt_mul_right (Nat.lt_of_le_of_lt (Nat.le_trans J h) U);omega
def aoS(ia:V=(v1*B+v2)*P+m5)(gS:W=(top*B+fK)*P+pI)(uk:pI<P)(h:q*V<=W)(Nr:q<=g)(aW:top=g*v1+over)(aR:over*B+fK<g*v2):q<g:=by
 rcases Nat.lt_or_ge q g with aG|aG
 ·exact aG
 ·have e:q=g:=by omega
  subst e;have J:q*(v1*B+v2)*P<=q*V:=by
   rw[Nat.mul_assoc];refine Nat.mul_le_mul_left q ?_;omega
  have U:W<(top*B+fK+1)*P:=by rw[Nat.add_mul _ 1 P,Nat.one_mul];omega
  have ag:=Nat.lt_of_mul_lt_mul_right (Nat.lt_of_le_of_lt (Nat.le_trans J h) U);rw[aW,Nat.mul_add,Nat.add_mul]at ag;have aC:q*(v1*B)=q*v1*B:=by rw[Nat.mul_assoc]
  omega
def aoR(ia:V=(v1*B+v2)*P+m5)(AA:m5<P)(p7:0<v1)(gS:W=(top*B+fK)*P+pI)(aW:top=g*v1+over)(aR:g*v2<=over*B+fK)(W8:g<=B):g*V<=W+V:=by
 have J:g*V<=(g*(v1*B+v2)+g)*P:=by
  have:V<=(v1*B+v2+1)*P:=by rw[ia,Nat.add_mul _ 1 P,Nat.one_mul];omega
  have:=Nat.mul_le_mul_left g this;rw[<-Nat.mul_assoc,Nat.mul_add g _ 1,Nat.mul_one]at this;exact this
 have U:g*(v1*B+v2)<=top*B+fK:=by
  rw[aW,Nat.mul_add,Nat.add_mul];have aC:g*(v1*B)=g*v1*B:=by rw[Nat.mul_assoc]
  omega
 have ag:(g*(v1*B+v2)+g)*P<=(top*B+fK)*P+g*P:=by
  rw[Nat.add_mul];exact Nat.add_le_add_right (Nat.mul_le_mul_right P U) _
 have az:g*P<=V:=by
  have:g*P<=(v1*B+v2)*P:=Nat.mul_le_mul_right P (by
   have:B*1<=B*v1:=Nat.mul_le_mul_left B p7;rw[Nat.mul_comm v1 B];omega)
  omega
 omega
def Yf(ia:V=(v1*B+v2)*P+m5)(AA:m5<P)(mO:v2<B)(gS:W=(top*B+fK)*P+pI)(aW:top=g*v1+over)(al:B<=over)(W8:g<=B):g*V<=W:=by
 have J:g*V<=g*((v1*B+B)*P):=by
  refine Nat.mul_le_mul_left g ?_;have:(v1*B+v2+1)*P<=(v1*B+B)*P:=Nat.mul_le_mul_right P (by omega);rw[Nat.add_mul _ 1 P,Nat.one_mul]at this;omega
 have U:g*((v1*B+B)*P)=(g*v1+g)*B*P:=by
  rw[<-Nat.mul_assoc,Nat.mul_add,Nat.add_mul (g*v1) g B,Nat.mul_assoc g v1 B]
 have ag:(g*v1+g)*B*P<=top*B*P:=Nat.mul_le_mul_right P (Nat.mul_le_mul_right B (by omega));have az:top*B*P<=(top*B+fK)*P:=Nat.mul_le_mul_right P (by omega);omega
end
variable{a V B v2 m5 m:Nat}
def aoV{v1 h:Nat}(ia:V=(v1*B+v2)*P+m5)(AA:m5<P)(mO:v2<B)(a0:0<B)(hn:h*(P*B)<=V):h<=v1:=by
 have J:V<(v1+1)*(P*B):=by
  have U:(v1*B+v2+1)*P<=(v1*B+B)*P:=Nat.mul_le_mul_right P (by omega);have e:(v1*B+B)*P=(v1+1)*(P*B):=by rw[show v1*B+B=(v1+1)*B by rw[Nat.add_mul,Nat.one_mul]];ac_rfl
  rw[Nat.add_mul _ 1 P,Nat.one_mul]at U;omega
 have hp:0<P*B:=Nat.mul_pos (by omega) a0;have:=Nat.lt_of_mul_lt_mul_right (Nat.lt_of_le_of_lt hn J);omega
def aoU{W v1 pI top rj g2 fK:Nat}(ia:V=(v1*B+v2)*P+m5)(AA:m5<P)(mO:v2<B)(a0:0<B)(gS:W=(top*B+fK)*P+pI)(aW:top=g2*B+rj)(h:W<V*B):g2<=v1:=by
 have J:V<=(v1+1)*(P*B):=by
  have U:(v1*B+v2+1)*P<=(v1*B+B)*P:=Nat.mul_le_mul_right P (by omega);have e:(v1*B+B)*P=(v1+1)*(P*B):=by rw[show v1*B+B=(v1+1)*B by rw[Nat.add_mul,Nat.one_mul]];ac_rfl
  rw[Nat.add_mul _ 1 P,Nat.one_mul]at U;omega
 have ag:g2*(P*B*B)<=W:=by
  have:(g2*B*B)*P<=(top*B+fK)*P:=Nat.mul_le_mul_right P (by
   rw[aW,Nat.add_mul];omega)
  have e:g2*B*B*P=g2*(P*B*B):=by ac_rfl
  omega
 have az:V*B<=(v1+1)*(P*B*B):=by
  have:=Nat.mul_le_mul_right B J;rw[Nat.mul_assoc]at this;exact this
 have:=Nat.lt_of_mul_lt_mul_right (Nat.lt_of_le_of_lt ag (Nat.lt_of_lt_of_le h az));omega
def aoQ{W g:Nat}(ia:0<V)(J:W/V<=g)(U:g*V<=W+V):(W<g*V->g-1=W/V∧0<g)∧(¬W<g*V->g=W/V):=by
 have aA:=Nat.div_add_mod W V;have hm:=Nat.mod_lt W ia;constructor
 ·intro h;have ag:W/V<g:=(Nat.div_lt_iff_lt_mul ia).2 h;have az:(g-1)*V<=W:=by
   rw[Nat.sub_mul];omega
  have:=(Nat.le_div_iff_mul_le ia).2 az;omega
 ·intro h;have:=(Nat.le_div_iff_mul_le ia).2 (show g*V<=W by omega);omega
def x3{b n i:Nat}(hb:2<=b):i<(aY b n).length↔n/b^i≠0:=by
 have hp:0<b^i:=Nat.pow_pos (by omega);constructor
 ·intro h e;have:=jZ hb (k:=i) (n:=n) (by rcases Nat.div_eq_zero_iff.1 e with h|h<;>omega);omega
 ·intro h;exact Dc hb (by
   rcases Nat.lt_or_ge n (b^i)with aG|aG
   ·exact absurd (Nat.div_eq_of_lt aG) h
   ·exact aG)
theorem uc{b:Nat}(hb:2<=b):∀{n i:Nat},i<(aY b n).length->(aY b n)[i]? =some (n/b^i%b)
 |n,i,h=>by
  by_cases h0:n=0
  ·subst h0;rw[gE]at h;simp at h
  ·rw[oj hb h0]at h⊢;cases i with
   |zero=>simp
   |succ i=>
    rw[List.getElem?_cons_succ,uc hb (by simpa using h),Nat.div_div_eq_div_mul,Nat.pow_succ,Nat.mul_comm b]
def agZ(hb:2<=b)(h:i<(aY b n).length):(aY b n)[i]=n/b^i%b:=by
 have:=uc hb h;rw[List.getElem?_eq_getElem h]at this;exact Option.some.inj this
def m9(b x y i:Nat):Nat:=(x%b^i+y%b^i)/b^i
def agk(b x y:Nat):m9 b x y 0=0:=by simp[m9,Nat.mod_one]
def Si(hb:0<b):(x+y)/b^i=x/b^i+y/b^i+m9 b x y i:=by
 have hp:0<b^i:=Nat.pow_pos hb;unfold m9;have aC:=Nat.div_add_mod x (b^i);have e2:=Nat.div_add_mod y (b^i);have:x+y=(x%b^i+y%b^i)+b^i*(x/b^i+y/b^i):=by rw[Nat.mul_add];omega
 rw[this,Nat.add_mul_div_left _ _ hp];omega
def agi(hb:0<b):m9 b x y i<=1:=by
 have hp:0<b^i:=Nat.pow_pos hb;have J:=Nat.mod_lt x hp;have U:=Nat.mod_lt y hp;unfold m9;have:(x%b^i+y%b^i)/b^i<2:=Nat.div_lt_of_lt_mul (by omega);omega
def agj(hb:0<b):m9 b x y (i+1)=(m9 b x y i+x/b^i%b+y/b^i%b)/b:=by
 have hp:0<b^i:=Nat.pow_pos hb;have e:∀z,z%b^(i+1)=z%b^i+b^i*(z/b^i%b):=fun z=>by
  rw[Nat.pow_succ,Nat.mod_mul]
 unfold m9;rw[e x,e y,Nat.pow_succ,<-Nat.div_div_eq_div_mul];congr 1;rw[show x%b^i+b^i*(x/b^i%b)+(y%b^i+b^i*(y/b^i%b))=(x%b^i+y%b^i)+b^i*(x/b^i%b+y/b^i%b) by rw[Nat.mul_add];omega,Nat.add_mul_div_left _ _ hp];omega
def agh(hb:0<b):(m9 b x y i+x/b^i%b+y/b^i%b)%b=(x+y)/b^i%b:=by
 rw[Si hb];rw[show m9 b x y i+x/b^i%b+y/b^i%b=m9 b x y i+(x/b^i%b+y/b^i%b) by omega,Nat.add_mod,<-Nat.add_mod (x/b^i),<-Nat.add_mod,Nat.add_comm]
def auT(h:i<l.length):l.take (i+1)=l.take i++[l[i]]:=by
 rw[List.take_add_one,List.getElem?_eq_getElem h];rfl
def GM(hb:2<=b)(h:(aY b n).length<=k):n<b^k:=by
 have J:=kZ (hi hb n);rw[gD hb]at J;exact Nat.lt_of_lt_of_le J (Nat.pow_le_pow_right (by omega) h)
def acR(hb:2<=b)(h:(aY b n).length=m+1):(aY b n)[m]? =some (n/b^m):=by
 rw[uc hb (by omega),Nat.mod_eq_of_lt];have:=GM hb (Nat.le_of_eq h);rw[Nat.pow_succ]at this;exact Nat.div_lt_of_lt_mul this
def auY(hb:2<=b)(h:m+1<(aY b n).length)(aN:n<b^(m+2)):
 (aY b n)[m]? =some (n/b^m%b)∧(aY b n)[m+1]? =some (n/b^(m+1))∧n/b^m%b+b*(n/b^(m+1))=n/b^m:=by
 refine⟨uc hb (by omega),?_,?_⟩
 ·rw[uc hb h,Nat.mod_eq_of_lt];rw[show m+2=(m+1)+1 from rfl,Nat.pow_succ]at aN;exact Nat.div_lt_of_lt_mul aN
 ·rw[Nat.pow_succ,<-Nat.div_div_eq_div_mul];exact Nat.mod_add_div _ _
def Wx(ha:a%2=0)(h:Nat.gcd a b%2=1):Nat.gcd (a/2) b=Nat.gcd a b:=by
 obtain⟨c,rfl⟩:∃c,a=2*c:=⟨a/2,by omega⟩;have hb:b%2=1:=by
  rcases Nat.mod_two_eq_zero_or_one b with h0|h0
  ·have:2∣Nat.gcd (2*c) b:=Nat.dvd_gcd ⟨c,rfl⟩ (Nat.dvd_of_mod_eq_zero h0);omega
  ·exact h0
 have hc:Nat.Coprime 2 b:=by
  show Nat.gcd 2 b=1;rw[Nat.gcd_rec,hb];exact Nat.gcd_one_left 2
 rw[Nat.mul_div_cancel_left _ (by decide)];exact(Nat.Coprime.gcd_mul_left_cancel c hc).symm
def ak7(hb:b%2=0)(h:Nat.gcd a b%2=1):Nat.gcd a (b/2)=Nat.gcd a b:=by
 rw[Nat.gcd_comm,Wx hb (by rw[Nat.gcd_comm];exact h),Nat.gcd_comm]
def gcd_both(ha:a%2=0)(hb:b%2=0):2*Nat.gcd (a/2) (b/2)=Nat.gcd a b:=by
 obtain⟨c,rfl⟩:∃c,a=2*c:=⟨a/2,by omega⟩;obtain⟨d,rfl⟩:∃d,b=2*d:=⟨b/2,by omega⟩;rw[Nat.mul_div_cancel_left _ (by decide),Nat.mul_div_cancel_left _ (by decide),Nat.gcd_mul_left]
def Wy(h:b<=a):Nat.gcd (a-b) b=Nat.gcd a b:=by
 conv=>rhs;rw[show a=(a-b)+b by omega]
 simp
def Wz(h:¬(a%2=0∧b%2=0)):Nat.gcd a b%2=1:=by
 rcases Nat.mod_two_eq_zero_or_one (Nat.gcd a b)with h0|h0
 ·have J:2∣Nat.gcd a b:=Nat.dvd_of_mod_eq_zero h0;have U:=Nat.dvd_trans J (Nat.gcd_dvd_left a b);have ag:=Nat.dvd_trans J (Nat.gcd_dvd_right a b);exact absurd ⟨Nat.mod_eq_zero_of_dvd U,Nat.mod_eq_zero_of_dvd ag⟩ h
 ·exact h0
def dec(n:Nat):List Nat:=if n=0 then[0]else(aY 10 n).reverse
def hg(l:List Nat):List UInt8:=l.map fun d=>UInt8.ofNat (48+d)
def Ga(l m:List Nat):hg (l++m)=hg l++hg m:=by unfold hg;rw[List.map_append]
def tR(l:List Nat):(hg l).length=l.length:=by unfold hg;rw[List.length_map]
def iU(k n:Nat):List Nat:=(List.range k).map fun j=>n/10^j%10
def Yz(k n:Nat):iU (k+1) n=iU k n++[n/10^k%10]:=by unfold iU;rw[List.range_succ,List.map_append];rfl
def yT(k n:Nat):(iU k n).length=k:=by unfold iU;rw[List.length_map,List.length_range]
def Yy(k n:Nat):cV 10 (iU k n):=fun d aA=>by
 unfold iU at aA;obtain⟨j,_,rfl⟩:=List.mem_map.1 aA;exact Nat.mod_lt _ (by decide)
def YA(k n:Nat):val 10 (iU k n)=n%10^k:=by
 induction k with
 |zero=>rw[Nat.pow_zero,Nat.mod_one];rfl
 |succ k a7=>rw[Yz,mZ,a7,yT,Nat.mod_pow_succ];rfl
def aqm{m:List Nat}(h:cV b l)(aG:cV b m):cV b (l++m):=fun d aA=>(List.mem_append.1 aA).elim (h d) (aG d)
def Dx(l:List Nat):cV 10 (l.flatMap (iU 9)):=fun d aA=>by
 obtain⟨x,_,h⟩:=List.mem_flatMap.1 aA;exact Yy 9 x d h
theorem Tn:∀{l:List Nat},cV 1000000000 l->val 10 (l.flatMap (iU 9))=val 1000000000 l
 |[],_=>rfl
 |x::l,h=>by
  rw[List.flatMap_cons,mZ,Tn (fun d aA=>h d (List.mem_cons_of_mem _ aA)),YA,yT];have:=h x (by simp);show x%1000000000+1000000000*_=_;rw[Nat.mod_eq_of_lt this];rfl
def Sw(n:Nat):cV 10 (dec n):=by
 unfold dec;split
 ·intro d aA;simp at aA;omega
 ·exact fun d aA=>hi (by decide) n d (List.mem_reverse.1 aA)
def agQ(n:Nat):dec n≠[]:=by
 unfold dec;split
 ·simp
 ·intro h;exact absurd ((pT (by decide)).1 (List.reverse_eq_nil_iff.1 h)) (by assumption)
def agR(n:Nat):val 10 (dec n).reverse=n:=by
 unfold dec;split
 ·rename_i h;rw[h];rfl
 ·rw[List.reverse_reverse,gD (by decide)]
def Row(l:List Nat):Prop:=l≠[]∧cV 10 l∧(l=[0]∨l.head?≠some 0)
def au2(h:l.getLast?≠some 0):eV l=l:=by
 rcases List.eq_nil_or_concat l with rfl|⟨c7,d,rfl⟩
 ·rfl
 ·rw[List.concat_eq_append]at *;rw[ss,if_neg (fun e=>h (by simp[e]))]
def asu(h:Row l):dec (val 10 l.reverse)=l:=by
 obtain⟨J,U,ag⟩:=h;have ok:cV 10 l.reverse:=fun d aA=>U d (List.mem_reverse.1 aA);rcases ag with rfl|ag
 ·rfl
 ·have aW:eV l.reverse=l.reverse:=au2 (by rw[List.getLast?_reverse];exact ag);have aA:=Ag (b:=10) (by decide) ok aW;unfold dec;split
  ·rename_i h0;rw[h0,gE]at aA;exact absurd (List.reverse_eq_nil_iff.1 aA.symm) J
  ·rw[aA,List.reverse_reverse]
def nJ(s:List UInt8):List Nat:=s.map fun c=>c.toNat-48
def b7(s:List UInt8):Nat:=val 10 (nJ s).reverse
def jW(s:List UInt8):Prop:=∀c∈s,48<=c.toNat∧c.toNat<=57
instance(s:List UInt8):Decidable (jW s):=by unfold jW;infer_instance
def iu(s:List UInt8):Prop:=s≠[]∧jW s∧(s=[48]∨s.head?≠some 48)
variable{s p:List UInt8}
instance(s:List UInt8):Decidable (iu s):=by unfold iu;infer_instance
def aew(h:jW s):hg (nJ s)=s:=by
 unfold hg nJ;rw[List.map_map]
 conv=>rhs;rw[<-List.map_id s]
 refine List.map_congr_left fun c hc=> ?_;have:=h c hc;show UInt8.ofNat (48+(c.toNat-48))=c;rw[show 48+(c.toNat-48)=c.toNat by omega,UInt8.ofNat_toNat]
def GO(h:d<10):(UInt8.ofNat (48+d)).toNat=48+d:=by
 rw[UInt8.toNat_ofNat'];omega
def ag5(h:cV 10 l):nJ (hg l)=l:=by
 unfold hg nJ;rw[List.map_map]
 conv=>rhs;rw[<-List.map_id l]
 refine List.map_congr_left fun d aA=> ?_;have:=h d aA;show(UInt8.ofNat (48+d)).toNat-48=d;rw[GO this];omega
def aev(h:cV 10 l):jW (hg l):=fun c hc=>by
 unfold hg at hc;obtain⟨d,aA,rfl⟩:=List.mem_map.1 hc;have:=h d aA;rw[GO this];omega
def SD(h:jW s):cV 10 (nJ s):=fun d aA=>by
 unfold nJ at aA;obtain⟨c,hc,rfl⟩:=List.mem_map.1 aA;have:=h c hc;omega
def aeT(h:iu s):Row (nJ s):=by
 obtain⟨J,U,ag⟩:=h;refine⟨fun e=>J (List.map_eq_nil_iff.1 e),SD U,?_⟩;rcases ag with rfl|ag
 ·left;rfl
 ·right;cases s with
  |nil=>exact absurd rfl J
  |cons c s=>
   have hc:=U c (by simp);simp only[nJ,List.map_cons,List.head?_cons,ne_eq,Option.some.injEq]at ag⊢;intro e;exact ag (UInt8.toNat_inj.1 (by show c.toNat=48;omega))
def dZ(n:Nat):List UInt8:=hg (dec n)
def C9(h:iu s):dZ (b7 s)=s:=by
 unfold dZ b7;rw[asu (aeT h),aew h.2.1]
def ar8(n:Nat):b7 (dZ n)=n:=by
 unfold dZ b7;rw[ag5 (Sw n),agR]
def agN(n:Nat):jW (dZ n):=aev (Sw n)
def xY(n:Nat):dZ n≠[]:=fun h=>agQ n (List.map_eq_nil_iff.1 h)
def Y8(h:jW s):(47:UInt8)∉s:=fun hm=>by have:=h _ hm;simp at this
def cutAt:List UInt8->List UInt8×Option (List UInt8)
 |[]=>([],none)
 |c::s=>if c=47 then([],some s)else(c::(cutAt s).1,(cutAt s).2)
theorem GF:∀{s p q:List UInt8},(47:UInt8)∉p->s=p++47::q->cutAt s=(p,some q)
 |_,[],q,_,rfl=>rfl
 |_,c::p,q,h,rfl=>by
  have hc:c≠47:=fun e=>h (by simp[e]);have:=GF (s:=p++47::q) (p:=p) (q:=q) (fun hm=>h (List.mem_cons_of_mem _ hm)) rfl;show(if c=47 then _ else(c::(cutAt (p++47::q)).1,(cutAt (p++47::q)).2))=_;rw[if_neg hc,this]
theorem Sl:∀{s:List UInt8},(47:UInt8)∉s->cutAt s=(s,none)
 |[],_=>rfl
 |c::s,h=>by
  have hc:c≠47:=fun e=>h (by simp[e]);show(if c=47 then _ else _)=_;rw[if_neg hc,Sl (fun hm=>h (List.mem_cons_of_mem _ hm))]
def Sk(s:List UInt8):(47:UInt8)∉(cutAt s).1∧(∀q,(cutAt s).2=some q->s=(cutAt s).1++47::q)∧((cutAt s).2=none->s=(cutAt s).1):=by
 induction s with
 |nil=>exact⟨by simp[cutAt],fun q h=>by simp[cutAt]at h,fun _=>rfl⟩
 |cons c s a7=>
  by_cases hc:c=47
  ·subst hc;refine⟨by simp[cutAt],fun q h=> ?_,fun h=>by simp[cutAt]at h⟩;simp[cutAt]at h;subst h;rfl
  ·have e:cutAt (c::s)=(c::(cutAt s).1,(cutAt s).2):=if_neg hc;obtain⟨J,U,ag⟩:=a7;rw[e];refine⟨fun hm=>(List.mem_cons.1 hm).elim (fun e=>hc e.symm) J,fun q h=> ?_,fun h=> ?_⟩
   ·show c::s=c::((cutAt s).1++47::q);rw[<-U q h]
   ·show c::s=c::(cutAt s).1;rw[<-ag h]
def ed(s:List UInt8):Bool×List UInt8:=match s with
 |[]=>(false,[])
 |c::t=>if c=45 then(true,t)else(false,c::t)
def jl(n:Bool)(p:Nat):Int:=if n then -(p:Int)else p
def cJ(s:List UInt8):Option Rat:=
 if iu (cutAt (ed s).2).1∧¬((ed s).1=true∧(cutAt (ed s).2).1=[48])then match(cutAt (ed s).2).2 with
  |none=>some (mkRat (jl (ed s).1 (b7 (cutAt (ed s).2).1)) 1)
  |some q=>if iu q∧q≠[48]∧q≠[49]∧Nat.gcd (b7 (cutAt (ed s).2).1) (b7 q)=1 then some (mkRat (jl (ed s).1 (b7 (cutAt (ed s).2).1)) (b7 q))else none
 else none
def gp(x:Rat):List UInt8:=(if x.num<0 then[45]else[])++dZ x.num.natAbs++(if x.den=1 then[]else 47::dZ x.den)
def xQ(h:iu s)(h0:b7 s=0):s=[48]:=by rw[<-C9 h,h0];rfl
def RL(h:iu s)(h0:b7 s=1):s=[49]:=by
 rw[<-C9 h,h0];show hg (dec 1)=_;unfold dec;rw[if_neg (by decide),oj (by decide) (by decide),show 1/10=0 from rfl,gE];rfl
def Ok(n:Int)(d:Nat)(h:d≠0):(mkRat n d).num=n/((n.natAbs.gcd d:Nat):Int)∧(mkRat n d).den=d/n.natAbs.gcd d:=by
 rw[<-Rat.normalize_eq_mkRat h,Rat.normalize_eq h];exact⟨rfl,rfl⟩
def vr(n:Bool)(p:Nat):(jl n p).natAbs=p:=by cases n<;>simp[jl]
def ac8{n:Bool}{p q:Nat}(hn:n=true->p≠0)(hq:q≠0)(aR:Nat.gcd p q=1):gp (mkRat (jl n p) q)=(if n=true then[45]else[])++dZ p++(if q=1 then[]else 47::dZ q):=by
 obtain⟨J,U⟩:=Ok (jl n p) q hq;rw[vr,aR]at J U;unfold gp;rw[J,U,Nat.div_one];have:(jl n p/((1:Nat):Int))=jl n p:=Int.ediv_one _;rw[this,vr];congr 2;cases n
 ·rw[if_neg (by simp[jl]),if_neg (by decide)]
 ·have:=hn rfl;rw[if_pos (by simp[jl];omega),if_pos rfl]
def agx{u zx v v':List UInt8}(h:(47:UInt8)∉u)(aG:(47:UInt8)∉zx)(e:u++47::v=zx++47::v'):v=v':=by
 have:=GF (q:=v) h rfl;rw[e,GF (q:=v') aG rfl]at this;simpa using(congrArg Prod.snd this).symm
def au7{n:Bool}{q:List UInt8}(hp:iu p)(hq:iu q)(hn:¬(n=true∧p=[48]))(h0:q≠[48])(J:q≠[49]):
 gp (mkRat (jl n (b7 p)) (b7 q))=(if n=true then[45]else[])++p++47::q↔Nat.gcd (b7 p) (b7 q)=1:=by
 have oL:b7 q≠0:=fun e=>h0 (xQ hq e);have cv:b7 q≠1:=fun e=>J (RL hq e);have bw:(47:UInt8)∉(if n=true then[45]else[])++p:=fun hm=>by
  rcases List.mem_append.1 hm with h|h
  ·cases n<;>simp at h
  ·exact Y8 hp.2.1 h
 constructor
 ·intro h;obtain⟨U,ag⟩:=Ok (jl n (b7 p)) (b7 q) oL;rw[vr]at ag;have Zg:∀(b:Prop) [Decidable b] (k:Nat),(47:UInt8)∉(if b then[45]else[])++dZ k:=fun b _ k hm=>by
   rcases List.mem_append.1 hm with h|h
   ·split at h<;>simp at h
   ·exact Y8 (agN k) h
  unfold gp at h;by_cases aA:(mkRat (jl n (b7 p)) (b7 q)).den=1
  ·rw[if_pos aA,List.append_nil]at h;exact absurd (h▸Zg _ _) (by simp)
  ·rw[if_neg aA]at h;have e:=agx (Zg _ _) bw h;have e2:(mkRat (jl n (b7 p)) (b7 q)).den=b7 q:=by rw[<-ar8 (mkRat _ _).den,e]
   rw[ag]at e2;have aR:0<Nat.gcd (b7 p) (b7 q):=Nat.gcd_pos_of_pos_right _ (by omega);refine Nat.le_antisymm (Nat.le_of_not_lt fun h=> ?_) aR;have:=Nat.div_lt_self (Nat.pos_of_ne_zero oL) h;omega
 ·intro aR;rw[ac8 (fun h e=>hn ⟨h,xQ hp e⟩) oL aR,if_neg cv,C9 hp,C9 hq]
def au8{n:Bool}(hp:iu p)(hn:¬(n=true∧p=[48])):gp (mkRat (jl n (b7 p)) 1)=(if n=true then[45]else[])++p:=by
 rw[ac8 (fun h e=>hn ⟨h,xQ hp e⟩) (by decide) (Nat.gcd_one_right _),if_pos rfl,List.append_nil,C9 hp]
