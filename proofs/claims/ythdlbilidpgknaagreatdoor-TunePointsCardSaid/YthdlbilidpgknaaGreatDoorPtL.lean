/- Plain laws of digits and of numbers; no condition beyond those in the statements. -/
set_option linter.all false
namespace Go.ak.a2
def eF:List Nat->List Nat
 |[]=>[]
 |d::ds=>match eF ds with
  |[]=>if d=0 then[]else[d]
  |r=>d::r
def val(b:Nat):List Nat->Nat
 |[]=>0
 |d::ds=>d+b*val b ds
def cX(b:Nat)(ds:List Nat):Prop:=∀d∈ds,d<b
variable{b:Nat}{l:List Nat}{i:Nat}
def rQ(c2:List Nat)(d:Nat):eF (c2++[d])=if d=0 then eF c2 else c2++[d]:=by
 induction c2 with
 |nil=>simp[eF]
 |cons x xs a8=>
  simp only[List.cons_append];rw[eF,a8];by_cases h:d=0
  ·rw[if_pos h,if_pos h,eF]
  ·rw[if_neg h,if_neg h];cases xs<;>rfl
def k0(b:Nat)(xs av:List Nat):val b (xs++av)=val b xs+b^xs.length*val b av:=by
 induction xs with
 |nil=>simp[val]
 |cons x xs a8=>
  simp only[List.cons_append,val,a8,List.length_cons,Nat.pow_succ,Nat.mul_add];rw[<-Nat.mul_assoc,Nat.mul_comm b (b^xs.length)];omega
def asZ(b:Nat)(ds:List Nat):val b (eF ds)=val b ds:=by
 suffices h:∀n (ds:List Nat),ds.length=n->val b (eF ds)=val b ds from h _ ds rfl
 intro n
 induction n with
 |zero=>intro ds h;rw[List.eq_nil_of_length_eq_zero h];rfl
 |succ n a8=>
  intro ds h;rcases List.eq_nil_or_concat ds with rfl|⟨c2,d,rfl⟩
  ·rfl
  ·rw[List.concat_eq_append]at *;rw[rQ];split
   ·rename_i h0;rw[a8 c2 (by simpa using h),k0,h0];simp[val]
   ·rfl
def asX(ds:List Nat)(h:cX b ds):cX b (eF ds):=by
 induction ds with
 |nil=>exact h
 |cons d ds a8=>
  have J:=a8 (fun x aa=>h x (List.mem_cons_of_mem _ aa));have U:=h d (by simp);unfold eF;split
  ·split
   ·exact fun x aa=>by simp at aa
   ·intro x aa;simp at aa;omega
  ·rename_i r hr;intro x aa;rcases List.mem_cons.1 aa with rfl|aa
   ·exact U
   ·exact J x aa
def asY(ds:List Nat):eF (eF ds)=eF ds:=by
 suffices h:∀n (ds:List Nat),ds.length=n->eF (eF ds)=eF ds from h _ ds rfl
 intro n
 induction n with
 |zero=>intro ds h;rw[List.eq_nil_of_length_eq_zero h];rfl
 |succ n a8=>
  intro ds h;rcases List.eq_nil_or_concat ds with rfl|⟨c2,d,rfl⟩
  ·rfl
  ·rw[List.concat_eq_append]at *;rw[rQ];split
   ·exact a8 c2 (by simpa using h)
   ·rename_i h0;rw[rQ,if_neg h0]
def acf(ds:List Nat):(eF ds).length<=ds.length:=by
 induction ds with
 |nil=>exact Nat.le_refl _
 |cons d ds a8=>
  unfold eF;split
  ·split<;>simp
  ·rename_i hr;simp;exact a8
def jW{ds:List Nat}(h:cX b ds):val b ds<b^ds.length:=by
 induction ds with
 |nil=>simp[val]
 |cons d ds a8=>
  have J:=h d (by simp);have U:=a8 (fun x aa=>h x (List.mem_cons_of_mem _ aa));simp only[val,List.length_cons,Nat.pow_succ];have:b*(val b ds+1)<=b*b^ds.length:=Nat.mul_le_mul_left _ U;rw[Nat.mul_comm (b^ds.length)];rw[Nat.mul_add]at this;omega
def AI{c2:List Nat}{d:Nat}(h:eF (c2++[d])=c2++[d]):b^c2.length<=val b (c2++[d])∧d≠0:=by
 rw[rQ]at h;by_cases aq:d=0
 ·rw[if_pos aq]at h;have:=acf c2;rw[h]at this;simp at this;omega
 ·refine⟨?_,aq⟩;rw[k0];simp only[val];have:b^c2.length*1<=b^c2.length*(d+b*0):=Nat.mul_le_mul_left _ (by omega);omega
def HN(hb:0<b){x y:List Nat}(aa:cX b x)(aF:eF y=y)(h:x.length<y.length):val b x<val b y:=by
 rcases List.eq_nil_or_concat y with rfl|⟨c2,d,rfl⟩
 ·simp at h
 ·rw[List.concat_eq_append]at *;have J:=jW aa;have U:=(AI (b:=b) aF).1;have af:b^x.length<=b^c2.length:=Nat.pow_le_pow_right hb (by simp at h;omega);omega
def JU{p dA s:List Nat}{x y:Nat}(hp:cX b p)(hl:p.length=dA.length)(h:x<y):val b (p++x::s)<val b (dA++y::s):=by
 rw[k0,k0,<-hl];simp only[val];have J:=jW hp;have U:b^p.length*(x+b*val b s+1)<=b^p.length*(y+b*val b s):=Nat.mul_le_mul_left _ (by omega);rw[Nat.mul_add _ (x+b*val b s) 1,Nat.mul_one]at U;omega
def hF(h:i<l.length):val b (l.take (i+1))=val b (l.take i)+b^i*l[i]:=by
 rw[List.take_succ_eq_append_getElem h,k0];simp only[val,List.length_take,Nat.min_eq_left (Nat.le_of_lt h),Nat.mul_zero,Nat.add_zero]
def jv(h:l.length<=i):val b (l.take i)=val b l:=by rw[List.take_of_length_le h]
def aT(b n:Nat):List Nat:=if h:b<2∨n=0 then[]else n%b::aT b (n/b)
termination_by n
decreasing_by
 exact Nat.div_lt_self (by omega) (by omega)
variable{n k P o c x y u w d:Nat}
def ft(b:Nat):aT b 0=[]:=by rw[aT];simp
def nv(hb:2<=b)(hn:n≠0):aT b n=n%b::aT b (n/b):=by rw[aT,dif_neg (by omega)]
def fE(hb:2<=b)(n:Nat):val b (aT b n)=n:=by
 induction n using Nat.strongRecOn with
 |ind n a8=>
  by_cases hn:n=0
  ·subst hn;rw[ft];rfl
  ·rw[nv hb hn,val,a8 _ (Nat.div_lt_self (by omega) (by omega))];exact Nat.mod_add_div n b
def fW(hb:2<=b)(n:Nat):cX b (aT b n):=by
 induction n using Nat.strongRecOn with
 |ind n a8=>
  by_cases hn:n=0
  ·subst hn;rw[ft];exact fun x aa=>by simp at aa
  ·rw[nv hb hn];intro x aa;rcases List.mem_cons.1 aa with rfl|aa
   ·exact Nat.mod_lt _ (by omega)
   ·exact a8 _ (Nat.div_lt_self (by omega) (by omega)) x aa
def nu(hb:2<=b):aT b n=[]↔n=0:=by
 constructor
 ·intro h;have:=fE hb n;rw[h]at this;simp[val]at this;omega
 ·intro h;subst h;exact ft b
def tw(hb:2<=b)(n:Nat):eF (aT b n)=aT b n:=by
 induction n using Nat.strongRecOn with
 |ind n a8=>
  by_cases hn:n=0
  ·subst hn;rw[ft];rfl
  ·rw[nv hb hn,eF,a8 _ (Nat.div_lt_self (by omega) (by omega))];by_cases aq:n/b=0
   ·rw[aq,ft];have:n%b=n:=Nat.mod_eq_of_lt ((Nat.div_eq_zero_iff_lt (by omega)).1 aq);rw[this];simp[hn]
   ·cases he:aT b (n/b)with
    |nil=>exact absurd ((nu hb).1 he) aq
    |cons x xs=>rfl
theorem zH{b:Nat}(hb:2<=b):∀{ds:List Nat},cX b ds->eF ds=ds->aT b (val b ds)=ds
 |[],_,_=>ft b
 |d::ds,h,aV=>by
  have J:=h d (by simp);have U:cX b ds:=fun x aa=>h x (List.mem_cons_of_mem _ aa);have af:eF ds=ds∧(ds=[]->d≠0):=by
   rw[eF]at aV;cases hr:eF ds with
   |nil=>
    rw[hr]at aV;simp only at aV;split at aV
    ·cases aV
    ·cases aV;exact⟨rfl,fun _=>by assumption⟩
   |cons x xs=>
    rw[hr]at aV;have aV:d::x::xs=d::ds:=aV;cases aV;exact⟨rfl,fun h=>by cases h⟩
  have aI:val b (d::ds)≠0:=by
   simp only[val];cases ga:ds with
   |nil=>have:=af.2 ga;simp[val];exact this
   |cons x xs=>
    intro h0;have ax:=zH hb U af.1;have:b*val b (x::xs)=0:=by omega
    have:val b (x::xs)=0:=by
     rcases Nat.mul_eq_zero.1 this with h|h
     ·omega
     ·exact h
    rw[ga,this,ft]at ax;cases ax
  rw[nv hb aI];have aw:val b (d::ds)%b=d:=by simp only[val];rw[Nat.add_mul_mod_self_left,Nat.mod_eq_of_lt J]
  have e2:val b (d::ds)/b=val b ds:=by simp only[val];rw[Nat.add_mul_div_left _ _ (by omega),Nat.div_eq_of_lt J];omega
  rw[aw,e2,zH hb U af.1]
def yV(hb:2<=b){ds:List Nat}(h:cX b ds):eF ds=aT b (val b ds):=by
 rw[<-asZ,zH hb (asX ds h) (asY ds)]
def hL(hb:2<=b)(h:n<b^k):(aT b n).length<=k:=by
 have aV:=tw hb n;have aI:=fE hb n;rcases List.eq_nil_or_concat (aT b n)with he|⟨c2,d,he⟩
 ·rw[he];simp
 ·rw[List.concat_eq_append]at he;rw[he]at aV aI;have J:=(AI (b:=b) aV).1;rw[aI]at J;have af:=(Nat.pow_lt_pow_iff_right (by omega:1<b)).1 (Nat.lt_of_le_of_lt J h);rw[he];simp;omega
def Cr(hb:2<=b)(h:b^k<=n):k<(aT b n).length:=by
 have J:=jW (fW hb n);rw[fE hb]at J;exact(Nat.pow_lt_pow_iff_right (by omega:1<b)).1 (Nat.lt_of_le_of_lt h J)
def Qm(hb:0<b)(h:o+P*c=u+w):o+P*((c+x+y)%b)+P*b*((c+x+y)/b)=u+P*x+(w+P*y):=by
 have J:P*(c+x+y)=P*((c+x+y)%b)+P*b*((c+x+y)/b):=by
  rw[Nat.mul_assoc,<-Nat.mul_add,Nat.mod_add_div]
 rw[Nat.mul_add,Nat.mul_add]at J;omega
def abT{b6:Nat}(h:u+P*c=o+w)(aq:x+b*b6=d+y+c):u+P*x+P*b*b6=o+P*d+(w+P*y):=by
 have J:P*x+P*b*b6=P*d+P*y+P*c:=by
  rw[Nat.mul_assoc,<-Nat.mul_add,<-Nat.mul_add,<-Nat.mul_add,aq]
 omega
def mv(h:cX b l)(i:Nat)(aq:d<b):cX b (l.set i d):=fun x aa=>by
 rcases List.mem_or_eq_of_mem_set aa with J|J
 ·exact h x J
 ·omega
def sH(hb:0<b)(n:Nat):cX b (List.replicate n 0):=fun x aa=>by
 have:=List.eq_of_mem_replicate aa;omega
def val_zero(b n:Nat):val b (List.replicate n 0)=0:=by
 induction n with
 |zero=>rfl
 |succ n a8=>simp[List.replicate_succ,val,a8]
def hJ(a b:Nat):Int:=if a<b then -1 else if a=b then 0 else 1
section
variable{B P V W v1 v2 hf top l6 oP q g over:Nat}
def ane(hA:V=(v1*B+v2)*P+l6)(gG:W=(top*B+hf)*P+oP)(tC:oP<P)(MM:hf<B)(h:q*V<=W):q*v1<=top:=by
 have J:q*v1*(B*P)<=q*V:=by
  rw[Nat.mul_assoc];refine Nat.mul_le_mul_left q ?_;rw[hA,Nat.add_mul,<-Nat.mul_assoc];omega
 have U:W<(top+1)*(B*P):=by
  have:(top*B+hf+1)*P<=(top*B+B)*P:=Nat.mul_le_mul_right P (by omega);have e:(top*B+B)*P=(top+1)*(B*P):=by rw[<-Nat.mul_assoc,Nat.add_mul top 1 B,Nat.one_mul]
  have e2:(top*B+hf+1)*P=(top*B+hf)*P+P:=by rw[Nat.add_mul _ 1 P,Nat.one_mul]
  omega
 have:=Nat.lt_of_mul_lt_mul_right (Nat.lt_of_le_of_lt (Nat.le_trans J h) U);omega
def anc(hA:V=(v1*B+v2)*P+l6)(gG:W=(top*B+hf)*P+oP)(tC:oP<P)(h:q*V<=W)(MH:q<=g)(aV:top=g*v1+over)(aO:over*B+hf<g*v2):q<g:=by
 rcases Nat.lt_or_ge q g with aB|aB
 ·exact aB
 ·have e:q=g:=by omega
  subst e;have J:q*(v1*B+v2)*P<=q*V:=by
   rw[Nat.mul_assoc];refine Nat.mul_le_mul_left q ?_;omega
  have U:W<(top*B+hf+1)*P:=by rw[Nat.add_mul _ 1 P,Nat.one_mul];omega
  have af:=Nat.lt_of_mul_lt_mul_right (Nat.lt_of_le_of_lt (Nat.le_trans J h) U);rw[aV,Nat.mul_add,Nat.add_mul]at af;have aw:q*(v1*B)=q*v1*B:=by rw[Nat.mul_assoc]
  omega
def anb(hA:V=(v1*B+v2)*P+l6)(zW:l6<P)(pc:0<v1)(gG:W=(top*B+hf)*P+oP)(aV:top=g*v1+over)(aO:g*v2<=over*B+hf)(Wv:g<=B):g*V<=W+V:=by
 have J:g*V<=(g*(v1*B+v2)+g)*P:=by
  have:V<=(v1*B+v2+1)*P:=by rw[hA,Nat.add_mul _ 1 P,Nat.one_mul];omega
  have:=Nat.mul_le_mul_left g this;rw[<-Nat.mul_assoc,Nat.mul_add g _ 1,Nat.mul_one]at this;exact this
 have U:g*(v1*B+v2)<=top*B+hf:=by
  rw[aV,Nat.mul_add,Nat.add_mul];have aw:g*(v1*B)=g*v1*B:=by rw[Nat.mul_assoc]
  omega
 have af:(g*(v1*B+v2)+g)*P<=(top*B+hf)*P+g*P:=by
  rw[Nat.add_mul];exact Nat.add_le_add_right (Nat.mul_le_mul_right P U) _
 have ax:g*P<=V:=by
  have:g*P<=(v1*B+v2)*P:=Nat.mul_le_mul_right P (by
   have:B*1<=B*v1:=Nat.mul_le_mul_left B pc;rw[Nat.mul_comm v1 B];omega)
  omega
 omega
def XA(hA:V=(v1*B+v2)*P+l6)(zW:l6<P)(lK:v2<B)(gG:W=(top*B+hf)*P+oP)(aV:top=g*v1+over)(ao:B<=over)(Wv:g<=B):g*V<=W:=by
 have J:g*V<=g*((v1*B+B)*P):=by
  refine Nat.mul_le_mul_left g ?_;have:(v1*B+v2+1)*P<=(v1*B+B)*P:=Nat.mul_le_mul_right P (by omega);rw[Nat.add_mul _ 1 P,Nat.one_mul]at this;omega
 have U:g*((v1*B+B)*P)=(g*v1+g)*B*P:=by
  rw[<-Nat.mul_assoc,Nat.mul_add,Nat.add_mul (g*v1) g B,Nat.mul_assoc g v1 B]
 have af:(g*v1+g)*B*P<=top*B*P:=Nat.mul_le_mul_right P (Nat.mul_le_mul_right B (by omega));have ax:top*B*P<=(top*B+hf)*P:=Nat.mul_le_mul_right P (by omega);omega
end
variable{a V B v2 l6 m:Nat}
def ang{v1 h:Nat}(hA:V=(v1*B+v2)*P+l6)(zW:l6<P)(lK:v2<B)(bb:0<B)(hn:h*(P*B)<=V):h<=v1:=by
 have J:V<(v1+1)*(P*B):=by
  have U:(v1*B+v2+1)*P<=(v1*B+B)*P:=Nat.mul_le_mul_right P (by omega);have e:(v1*B+B)*P=(v1+1)*(P*B):=by rw[show v1*B+B=(v1+1)*B by rw[Nat.add_mul,Nat.one_mul]];ac_rfl
  rw[Nat.add_mul _ 1 P,Nat.one_mul]at U;omega
 have hp:0<P*B:=Nat.mul_pos (by omega) bb;have:=Nat.lt_of_mul_lt_mul_right (Nat.lt_of_le_of_lt hn J);omega
def anf{W v1 oP top qB iV hf:Nat}(hA:V=(v1*B+v2)*P+l6)(zW:l6<P)(lK:v2<B)(bb:0<B)(gG:W=(top*B+hf)*P+oP)(aV:top=iV*B+qB)(h:W<V*B):iV<=v1:=by
 have J:V<=(v1+1)*(P*B):=by
  have U:(v1*B+v2+1)*P<=(v1*B+B)*P:=Nat.mul_le_mul_right P (by omega);have e:(v1*B+B)*P=(v1+1)*(P*B):=by rw[show v1*B+B=(v1+1)*B by rw[Nat.add_mul,Nat.one_mul]];ac_rfl
  rw[Nat.add_mul _ 1 P,Nat.one_mul]at U;omega
 have af:iV*(P*B*B)<=W:=by
  have:(iV*B*B)*P<=(top*B+hf)*P:=Nat.mul_le_mul_right P (by
   rw[aV,Nat.add_mul];omega)
  have e:iV*B*B*P=iV*(P*B*B):=by ac_rfl
  omega
 have ax:V*B<=(v1+1)*(P*B*B):=by
  have:=Nat.mul_le_mul_right B J;rw[Nat.mul_assoc]at this;exact this
 have:=Nat.lt_of_mul_lt_mul_right (Nat.lt_of_le_of_lt af (Nat.lt_of_lt_of_le h ax));omega
def ana{W g:Nat}(hA:0<V)(J:W/V<=g)(U:g*V<=W+V):(W<g*V->g-1=W/V∧0<g)∧(¬W<g*V->g=W/V):=by
 have aq:=Nat.div_add_mod W V;have hm:=Nat.mod_lt W hA;constructor
 ·intro h;have af:W/V<g:=(Nat.div_lt_iff_lt_mul hA).2 h;have ax:(g-1)*V<=W:=by
   rw[Nat.sub_mul];omega
  have:=(Nat.le_div_iff_mul_le hA).2 ax;omega
 ·intro h;have:=(Nat.le_div_iff_mul_le hA).2 (show g*V<=W by omega);omega
def xo{b n i:Nat}(hb:2<=b):i<(aT b n).length↔n/b^i≠0:=by
 have hp:0<b^i:=Nat.pow_pos (by omega);constructor
 ·intro h e;have:=hL hb (k:=i) (n:=n) (by rcases Nat.div_eq_zero_iff.1 e with h|h<;>omega);omega
 ·intro h;exact Cr hb (by
   rcases Nat.lt_or_ge n (b^i)with aB|aB
   ·exact absurd (Nat.div_eq_of_lt aB) h
   ·exact aB)
theorem tv{b:Nat}(hb:2<=b):∀{n i:Nat},i<(aT b n).length->(aT b n)[i]? =some (n/b^i%b)
 |n,i,h=>by
  by_cases h0:n=0
  ·subst h0;rw[ft]at h;simp at h
  ·rw[nv hb h0]at h⊢;cases i with
   |zero=>simp
   |succ i=>
    rw[List.getElem?_cons_succ,tv hb (by simpa using h),Nat.div_div_eq_div_mul,Nat.pow_succ,Nat.mul_comm b]
def afN(hb:2<=b)(h:i<(aT b n).length):(aT b n)[i]=n/b^i%b:=by
 have:=tv hb h;rw[List.getElem?_eq_getElem h]at this;exact Option.some.inj this
def l8(b x y i:Nat):Nat:=(x%b^i+y%b^i)/b^i
def afe(b x y:Nat):l8 b x y 0=0:=by simp[l8,Nat.mod_one]
def RB(hb:0<b):(x+y)/b^i=x/b^i+y/b^i+l8 b x y i:=by
 have hp:0<b^i:=Nat.pow_pos hb;unfold l8;have aw:=Nat.div_add_mod x (b^i);have e2:=Nat.div_add_mod y (b^i);have:x+y=(x%b^i+y%b^i)+b^i*(x/b^i+y/b^i):=by rw[Nat.mul_add];omega
 rw[this,Nat.add_mul_div_left _ _ hp];omega
def afc(hb:0<b):l8 b x y i<=1:=by
 have hp:0<b^i:=Nat.pow_pos hb;have J:=Nat.mod_lt x hp;have U:=Nat.mod_lt y hp;unfold l8;have:(x%b^i+y%b^i)/b^i<2:=Nat.div_lt_of_lt_mul (by omega);omega
def afd(hb:0<b):l8 b x y (i+1)=(l8 b x y i+x/b^i%b+y/b^i%b)/b:=by
 have hp:0<b^i:=Nat.pow_pos hb;have e:∀z,z%b^(i+1)=z%b^i+b^i*(z/b^i%b):=fun z=>by
  rw[Nat.pow_succ,Nat.mod_mul]
 unfold l8;rw[e x,e y,Nat.pow_succ,<-Nat.div_div_eq_div_mul];congr 1;rw[show x%b^i+b^i*(x/b^i%b)+(y%b^i+b^i*(y/b^i%b))=(x%b^i+y%b^i)+b^i*(x/b^i%b+y/b^i%b) by rw[Nat.mul_add];omega,Nat.add_mul_div_left _ _ hp];omega
def afb(hb:0<b):(l8 b x y i+x/b^i%b+y/b^i%b)%b=(x+y)/b^i%b:=by
 rw[RB hb];rw[show l8 b x y i+x/b^i%b+y/b^i%b=l8 b x y i+(x/b^i%b+y/b^i%b) by omega,Nat.add_mod,<-Nat.add_mod (x/b^i),<-Nat.add_mod,Nat.add_comm]
def asQ(h:i<l.length):l.take (i+1)=l.take i++[l[i]]:=by
 rw[List.take_add_one,List.getElem?_eq_getElem h];rfl
def F1(hb:2<=b)(h:(aT b n).length<=k):n<b^k:=by
 have J:=jW (fW hb n);rw[fE hb]at J;exact Nat.lt_of_lt_of_le J (Nat.pow_le_pow_right (by omega) h)
def ab3(hb:2<=b)(h:(aT b n).length=m+1):(aT b n)[m]? =some (n/b^m):=by
 rw[tv hb (by omega),Nat.mod_eq_of_lt];have:=F1 hb (Nat.le_of_eq h);rw[Nat.pow_succ]at this;exact Nat.div_lt_of_lt_mul this
def asS(hb:2<=b)(h:m+1<(aT b n).length)(a4:n<b^(m+2)):
 (aT b n)[m]? =some (n/b^m%b)∧(aT b n)[m+1]? =some (n/b^(m+1))∧n/b^m%b+b*(n/b^(m+1))=n/b^m:=by
 refine⟨tv hb (by omega),?_,?_⟩
 ·rw[tv hb h,Nat.mod_eq_of_lt];rw[show m+2=(m+1)+1 from rfl,Nat.pow_succ]at a4;exact Nat.div_lt_of_lt_mul a4
 ·rw[Nat.pow_succ,<-Nat.div_div_eq_div_mul];exact Nat.mod_add_div _ _
def VW(aY:a%2=0)(h:Nat.gcd a b%2=1):Nat.gcd (a/2) b=Nat.gcd a b:=by
 obtain⟨c,rfl⟩:∃c,a=2*c:=⟨a/2,by omega⟩;have hb:b%2=1:=by
  rcases Nat.mod_two_eq_zero_or_one b with h0|h0
  ·have:2∣Nat.gcd (2*c) b:=Nat.dvd_gcd ⟨c,rfl⟩ (Nat.dvd_of_mod_eq_zero h0);omega
  ·exact h0
 have hc:Nat.Coprime 2 b:=by
  show Nat.gcd 2 b=1;rw[Nat.gcd_rec,hb];exact Nat.gcd_one_left 2
 rw[Nat.mul_div_cancel_left _ (by decide)];exact(Nat.Coprime.gcd_mul_left_cancel c hc).symm
def ajt(hb:b%2=0)(h:Nat.gcd a b%2=1):Nat.gcd a (b/2)=Nat.gcd a b:=by
 rw[Nat.gcd_comm,VW hb (by rw[Nat.gcd_comm];exact h),Nat.gcd_comm]
def gcd_both(aY:a%2=0)(hb:b%2=0):2*Nat.gcd (a/2) (b/2)=Nat.gcd a b:=by
 obtain⟨c,rfl⟩:∃c,a=2*c:=⟨a/2,by omega⟩;obtain⟨d,rfl⟩:∃d,b=2*d:=⟨b/2,by omega⟩;rw[Nat.mul_div_cancel_left _ (by decide),Nat.mul_div_cancel_left _ (by decide),Nat.gcd_mul_left]
def VX(h:b<=a):Nat.gcd (a-b) b=Nat.gcd a b:=by
 conv=>rhs;rw[show a=(a-b)+b by omega]
 simp
def VY(h:¬(a%2=0∧b%2=0)):Nat.gcd a b%2=1:=by
 rcases Nat.mod_two_eq_zero_or_one (Nat.gcd a b)with h0|h0
 ·have J:2∣Nat.gcd a b:=Nat.dvd_of_mod_eq_zero h0;have U:=Nat.dvd_trans J (Nat.gcd_dvd_left a b);have af:=Nat.dvd_trans J (Nat.gcd_dvd_right a b);exact absurd ⟨Nat.mod_eq_zero_of_dvd U,Nat.mod_eq_zero_of_dvd af⟩ h
 ·exact h0
def dec(n:Nat):List Nat:=if n=0 then[0]else(aT 10 n).reverse
def gD(l:List Nat):List UInt8:=l.map fun d=>UInt8.ofNat (48+d)
def FD(l m:List Nat):gD (l++m)=gD l++gD m:=by unfold gD;rw[List.map_append]
def tg(l:List Nat):(gD l).length=l.length:=by unfold gD;rw[List.length_map]
def h6(k n:Nat):List Nat:=(List.range k).map fun j=>n/10^j%10
def XU(k n:Nat):h6 (k+1) n=h6 k n++[n/10^k%10]:=by unfold h6;rw[List.range_succ,List.map_append];rfl
def yc(k n:Nat):(h6 k n).length=k:=by unfold h6;rw[List.length_map,List.length_range]
def XT(k n:Nat):cX 10 (h6 k n):=fun d aq=>by
 unfold h6 at aq;obtain⟨j,_,rfl⟩:=List.mem_map.1 aq;exact Nat.mod_lt _ (by decide)
def XV(k n:Nat):val 10 (h6 k n)=n%10^k:=by
 induction k with
 |zero=>rw[Nat.pow_zero,Nat.mod_one];rfl
 |succ k a8=>rw[XU,k0,a8,yc,Nat.mod_pow_succ];rfl
def aoz{m:List Nat}(h:cX b l)(aB:cX b m):cX b (l++m):=fun d aq=>(List.mem_append.1 aq).elim (h d) (aB d)
def CJ(l:List Nat):cX 10 (l.flatMap (h6 9)):=fun d aq=>by
 obtain⟨x,_,h⟩:=List.mem_flatMap.1 aq;exact XT 9 x d h
theorem Sn:∀{l:List Nat},cX 1000000000 l->val 10 (l.flatMap (h6 9))=val 1000000000 l
 |[],_=>rfl
 |x::l,h=>by
  rw[List.flatMap_cons,k0,Sn (fun d aq=>h d (List.mem_cons_of_mem _ aq)),XV,yc];have:=h x (by simp);show x%1000000000+1000000000*_=_;rw[Nat.mod_eq_of_lt this];rfl
def RN(n:Nat):cX 10 (dec n):=by
 unfold dec;split
 ·intro d aq;simp at aq;omega
 ·exact fun d aq=>fW (by decide) n d (List.mem_reverse.1 aq)
def afG(n:Nat):dec n≠[]:=by
 unfold dec;split
 ·simp
 ·intro h;exact absurd ((nu (by decide)).1 (List.reverse_eq_nil_iff.1 h)) (by assumption)
def afH(n:Nat):val 10 (dec n).reverse=n:=by
 unfold dec;split
 ·rename_i h;rw[h];rfl
 ·rw[List.reverse_reverse,fE (by decide)]
def Row(l:List Nat):Prop:=l≠[]∧cX 10 l∧(l=[0]∨l.head?≠some 0)
def asW(h:l.getLast?≠some 0):eF l=l:=by
 rcases List.eq_nil_or_concat l with rfl|⟨c2,d,rfl⟩
 ·rfl
 ·rw[List.concat_eq_append]at *;rw[rQ,if_neg (fun e=>h (by simp[e]))]
def aqr(h:Row l):dec (val 10 l.reverse)=l:=by
 obtain⟨J,U,af⟩:=h;have ok:cX 10 l.reverse:=fun d aq=>U d (List.mem_reverse.1 aq);rcases af with rfl|af
 ·rfl
 ·have aV:eF l.reverse=l.reverse:=asW (by rw[List.getLast?_reverse];exact af);have aq:=zH (b:=10) (by decide) ok aV;unfold dec;split
  ·rename_i h0;rw[h0,ft]at aq;exact absurd (List.reverse_eq_nil_iff.1 aq.symm) J
  ·rw[aq,List.reverse_reverse]
def mT(s:List UInt8):List Nat:=s.map fun c=>c.toNat-48
def b4(s:List UInt8):Nat:=val 10 (mT s).reverse
def ja(s:List UInt8):Prop:=∀c∈s,48<=c.toNat∧c.toNat<=57
instance(s:List UInt8):Decidable (ja s):=by unfold ja;infer_instance
def hG(s:List UInt8):Prop:=s≠[]∧ja s∧(s=[48]∨s.head?≠some 48)
variable{s p:List UInt8}
instance(s:List UInt8):Decidable (hG s):=by unfold hG;infer_instance
def adM(h:ja s):gD (mT s)=s:=by
 unfold gD mT;rw[List.map_map]
 conv=>rhs;rw[<-List.map_id s]
 refine List.map_congr_left fun c hc=> ?_;have:=h c hc;show UInt8.ofNat (48+(c.toNat-48))=c;rw[show 48+(c.toNat-48)=c.toNat by omega,UInt8.ofNat_toNat]
def F3(h:d<10):(UInt8.ofNat (48+d)).toNat=48+d:=by
 rw[UInt8.toNat_ofNat'];omega
def afT(h:cX 10 l):mT (gD l)=l:=by
 unfold gD mT;rw[List.map_map]
 conv=>rhs;rw[<-List.map_id l]
 refine List.map_congr_left fun d aq=> ?_;have:=h d aq;show(UInt8.ofNat (48+d)).toNat-48=d;rw[F3 this];omega
def adL(h:cX 10 l):ja (gD l):=fun c hc=>by
 unfold gD at hc;obtain⟨d,aq,rfl⟩:=List.mem_map.1 hc;have:=h d aq;rw[F3 this];omega
def RU(h:ja s):cX 10 (mT s):=fun d aq=>by
 unfold mT at aq;obtain⟨c,hc,rfl⟩:=List.mem_map.1 aq;have:=h c hc;omega
def ad8(h:hG s):Row (mT s):=by
 obtain⟨J,U,af⟩:=h;refine⟨fun e=>J (List.map_eq_nil_iff.1 e),RU U,?_⟩;rcases af with rfl|af
 ·left;rfl
 ·right;cases s with
  |nil=>exact absurd rfl J
  |cons c s=>
   have hc:=U c (by simp);simp only[mT,List.map_cons,List.head?_cons,ne_eq,Option.some.injEq]at af⊢;intro e;exact af (UInt8.toNat_inj.1 (by show c.toNat=48;omega))
def dP(n:Nat):List UInt8:=gD (dec n)
def Co(h:hG s):dP (b4 s)=s:=by
 unfold dP b4;rw[aqr (ad8 h),adM h.2.1]
def aqd(n:Nat):b4 (dP n)=n:=by
 unfold dP b4;rw[afT (RN n),afH]
def afD(n:Nat):ja (dP n):=adL (RN n)
def xj(n:Nat):dP n≠[]:=fun h=>afG n (List.map_eq_nil_iff.1 h)
def Yv(h:ja s):(47:UInt8)∉s:=fun hm=>by have:=h _ hm;simp at this
def cutAt:List UInt8->List UInt8×Option (List UInt8)
 |[]=>([],none)
 |c::s=>if c=47 then([],some s)else(c::(cutAt s).1,(cutAt s).2)
theorem FV:∀{s p q:List UInt8},(47:UInt8)∉p->s=p++47::q->cutAt s=(p,some q)
 |_,[],q,_,rfl=>rfl
 |_,c::p,q,h,rfl=>by
  have hc:c≠47:=fun e=>h (by simp[e]);have:=FV (s:=p++47::q) (p:=p) (q:=q) (fun hm=>h (List.mem_cons_of_mem _ hm)) rfl;show(if c=47 then _ else(c::(cutAt (p++47::q)).1,(cutAt (p++47::q)).2))=_;rw[if_neg hc,this]
theorem RE:∀{s:List UInt8},(47:UInt8)∉s->cutAt s=(s,none)
 |[],_=>rfl
 |c::s,h=>by
  have hc:c≠47:=fun e=>h (by simp[e]);show(if c=47 then _ else _)=_;rw[if_neg hc,RE (fun hm=>h (List.mem_cons_of_mem _ hm))]
def RD(s:List UInt8):(47:UInt8)∉(cutAt s).1∧(∀q,(cutAt s).2=some q->s=(cutAt s).1++47::q)∧((cutAt s).2=none->s=(cutAt s).1):=by
 induction s with
 |nil=>exact⟨by simp[cutAt],fun q h=>by simp[cutAt]at h,fun _=>rfl⟩
 |cons c s a8=>
  by_cases hc:c=47
  ·subst hc;refine⟨by simp[cutAt],fun q h=> ?_,fun h=>by simp[cutAt]at h⟩;simp[cutAt]at h;subst h;rfl
  ·have e:cutAt (c::s)=(c::(cutAt s).1,(cutAt s).2):=if_neg hc;obtain⟨J,U,af⟩:=a8;rw[e];refine⟨fun hm=>(List.mem_cons.1 hm).elim (fun e=>hc e.symm) J,fun q h=> ?_,fun h=> ?_⟩
   ·show c::s=c::((cutAt s).1++47::q);rw[<-U q h]
   ·show c::s=c::(cutAt s).1;rw[<-af h]
def dQ(s:List UInt8):Bool×List UInt8:=match s with
 |[]=>(false,[])
 |c::t=>if c=45 then(true,t)else(false,c::t)
def ik(n:Bool)(p:Nat):Int:=if n then -(p:Int)else p
def fx(s:List UInt8):Option Rat:=
 if hG (cutAt (dQ s).2).1∧¬((dQ s).1=true∧(cutAt (dQ s).2).1=[48])then match(cutAt (dQ s).2).2 with
  |none=>some (mkRat (ik (dQ s).1 (b4 (cutAt (dQ s).2).1)) 1)
  |some q=>if hG q∧q≠[48]∧q≠[49]∧Nat.gcd (b4 (cutAt (dQ s).2).1) (b4 q)=1 then some (mkRat (ik (dQ s).1 (b4 (cutAt (dQ s).2).1)) (b4 q))else none
 else none
def kg(x:Rat):List UInt8:=(if x.num<0 then[45]else[])++dP x.num.natAbs++(if x.den=1 then[]else 47::dP x.den)
def w9(h:hG s)(h0:b4 s=0):s=[48]:=by rw[<-Co h,h0];rfl
def Rb(h:hG s)(h0:b4 s=1):s=[49]:=by
 rw[<-Co h,h0];show gD (dec 1)=_;unfold dec;rw[if_neg (by decide),nv (by decide) (by decide),show 1/10=0 from rfl,ft];rfl
def NA(n:Int)(d:Nat)(h:d≠0):(mkRat n d).num=n/((n.natAbs.gcd d:Nat):Int)∧(mkRat n d).den=d/n.natAbs.gcd d:=by
 rw[<-Rat.normalize_eq_mkRat h,Rat.normalize_eq h];exact⟨rfl,rfl⟩
def uL(n:Bool)(p:Nat):(ik n p).natAbs=p:=by cases n<;>simp[ik]
def acm{n:Bool}{p q:Nat}(hn:n=true->p≠0)(hq:q≠0)(aO:Nat.gcd p q=1):kg (mkRat (ik n p) q)=(if n=true then[45]else[])++dP p++(if q=1 then[]else 47::dP q):=by
 obtain⟨J,U⟩:=NA (ik n p) q hq;rw[uL,aO]at J U;unfold kg;rw[J,U,Nat.div_one];have:(ik n p/((1:Nat):Int))=ik n p:=Int.ediv_one _;rw[this,uL];congr 2;cases n
 ·rw[if_neg (by simp[ik]),if_neg (by decide)]
 ·have:=hn rfl;rw[if_pos (by simp[ik];omega),if_pos rfl]
def afn{u sY v v':List UInt8}(h:(47:UInt8)∉u)(aB:(47:UInt8)∉sY)(e:u++47::v=sY++47::v'):v=v':=by
 have:=FV (q:=v) h rfl;rw[e,FV (q:=v') aB rfl]at this;simpa using(congrArg Prod.snd this).symm
def as2{n:Bool}{q:List UInt8}(hp:hG p)(hq:hG q)(hn:¬(n=true∧p=[48]))(h0:q≠[48])(J:q≠[49]):
 kg (mkRat (ik n (b4 p)) (b4 q))=(if n=true then[45]else[])++p++47::q↔Nat.gcd (b4 p) (b4 q)=1:=by
 have oy:b4 q≠0:=fun e=>h0 (w9 hq e);have cP:b4 q≠1:=fun e=>J (Rb hq e);have bt:(47:UInt8)∉(if n=true then[45]else[])++p:=fun hm=>by
  rcases List.mem_append.1 hm with h|h
  ·cases n<;>simp at h
  ·exact Yv hp.2.1 h
 constructor
 ·intro h;obtain⟨U,af⟩:=NA (ik n (b4 p)) (b4 q) oy;rw[uL]at af;have YF:∀(b:Prop) [Decidable b] (k:Nat),(47:UInt8)∉(if b then[45]else[])++dP k:=fun b _ k hm=>by
   rcases List.mem_append.1 hm with h|h
   ·split at h<;>simp at h
   ·exact Yv (afD k) h
  unfold kg at h;by_cases aq:(mkRat (ik n (b4 p)) (b4 q)).den=1
  ·rw[if_pos aq,List.append_nil]at h;exact absurd (h▸YF _ _) (by simp)
  ·rw[if_neg aq]at h;have e:=afn (YF _ _) bt h;have e2:(mkRat (ik n (b4 p)) (b4 q)).den=b4 q:=by rw[<-aqd (mkRat _ _).den,e]
   rw[af]at e2;have aO:0<Nat.gcd (b4 p) (b4 q):=Nat.gcd_pos_of_pos_right _ (by omega);refine Nat.le_antisymm (Nat.le_of_not_lt fun h=> ?_) aO;have:=Nat.div_lt_self (Nat.pos_of_ne_zero oy) h;omega
 ·intro aO;rw[acm (fun h e=>hn ⟨h,w9 hp e⟩) oy aO,if_neg cP,Co hp,Co hq]
def as3{n:Bool}(hp:hG p)(hn:¬(n=true∧p=[48])):kg (mkRat (ik n (b4 p)) 1)=(if n=true then[45]else[])++p:=by
 rw[acm (fun h e=>hn ⟨h,w9 hp e⟩) (by decide) (Nat.gcd_one_right _),if_pos rfl,List.append_nil,Co hp]
