/- Plain laws of digits and of numbers; no condition beyond those in the statements. -/
set_option linter.all false
namespace Go.an.bh
def eM:List Nat->List Nat
 |[]=>[]
 |d::ds=>match eM ds with
  |[]=>if d=0 then[]else[d]
  |r=>d::r
def val(b:Nat):List Nat->Nat
 |[]=>0
 |d::ds=>d+b*val b ds
def c2(b:Nat)(ds:List Nat):Prop:=∀d∈ds,d<b
theorem se(c8:List Nat)(d:Nat):eM (c8++[d])=if d=0 then eM c8 else c8++[d]:=by
 induction c8 with
 |nil=>simp[eM]
 |cons x xs a0=>
  simp only[List.cons_append];rw[eM,a0];by_cases h:d=0
  ·rw[if_pos h,if_pos h,eM]
  ·rw[if_neg h,if_neg h];cases xs<;>rfl
theorem mo(b:Nat)(xs aq:List Nat):val b (xs++aq)=val b xs+b^xs.length*val b aq:=by
 induction xs with
 |nil=>simp[val]
 |cons x xs a0=>
  simp only[List.cons_append,val,a0,List.length_cons,Nat.pow_succ,Nat.mul_add];rw[<-Nat.mul_assoc,Nat.mul_comm b (b^xs.length)];omega
theorem asP(b:Nat)(ds:List Nat):val b (eM ds)=val b ds:=by
 suffices h:∀n (ds:List Nat),ds.length=n->val b (eM ds)=val b ds from h _ ds rfl
 intro n
 induction n with
 |zero=>intro ds h;rw[List.eq_nil_of_length_eq_zero h];rfl
 |succ n a0=>
  intro ds h;rcases List.eq_nil_or_concat ds with rfl|⟨c8,d,rfl⟩
  ·rfl
  ·rw[List.concat_eq_append]at *;rw[se];split
   ·rename_i h0;rw[a0 c8 (by simpa using h),mo,h0];simp[val]
   ·rfl
theorem asN{b:Nat}(ds:List Nat)(h:c2 b ds):c2 b (eM ds):=by
 induction ds with
 |nil=>exact h
 |cons d ds a0=>
  have h1:=a0 (fun x J=>h x (List.mem_cons_of_mem _ J));have h2:=h d (by simp);unfold eM;split
  ·split
   ·exact fun x J=>by simp at J
   ·intro x J;simp at J;omega
  ·rename_i r aQ;intro x J;rcases List.mem_cons.1 J with rfl|J
   ·exact h2
   ·exact h1 x J
theorem asO(ds:List Nat):eM (eM ds)=eM ds:=by
 suffices h:∀n (ds:List Nat),ds.length=n->eM (eM ds)=eM ds from h _ ds rfl
 intro n
 induction n with
 |zero=>intro ds h;rw[List.eq_nil_of_length_eq_zero h];rfl
 |succ n a0=>
  intro ds h;rcases List.eq_nil_or_concat ds with rfl|⟨c8,d,rfl⟩
  ·rfl
  ·rw[List.concat_eq_append]at *;rw[se];split
   ·exact a0 c8 (by simpa using h)
   ·rename_i h0;rw[se,if_neg h0]
theorem aa0(ds:List Nat):(eM ds).length<=ds.length:=by
 induction ds with
 |nil=>exact Nat.le_refl _
 |cons d ds a0=>
  unfold eM;split
  ·split<;>simp
  ·rename_i aQ;simp;exact a0
theorem kf{b:Nat}{ds:List Nat}(h:c2 b ds):val b ds<b^ds.length:=by
 induction ds with
 |nil=>simp[val]
 |cons d ds a0=>
  have h1:=h d (by simp);have h2:=a0 (fun x J=>h x (List.mem_cons_of_mem _ J));simp only[val,List.length_cons,Nat.pow_succ];have:b*(val b ds+1)<=b*b^ds.length:=Nat.mul_le_mul_left _ h2;rw[Nat.mul_comm (b^ds.length)];rw[Nat.mul_add]at this;omega
theorem Ho{b:Nat}{c8:List Nat}{d:Nat}(h:eM (c8++[d])=c8++[d]):b^c8.length<=val b (c8++[d])∧d≠0:=by
 rw[se]at h;by_cases av:d=0
 ·rw[if_pos av]at h;have:=aa0 c8;rw[h]at this;simp at this;omega
 ·refine⟨?_,av⟩;rw[mo];simp only[val];have:b^c8.length*1<=b^c8.length*(d+b*0):=Nat.mul_le_mul_left _ (by omega);omega
theorem G1{b:Nat}(aa:0<b){x y:List Nat}(J:c2 b x)(aG:eM y=y)(h:x.length<y.length):val b x<val b y:=by
 rcases List.eq_nil_or_concat y with rfl|⟨c8,d,rfl⟩
 ·simp at h
 ·rw[List.concat_eq_append]at *;have h1:=kf J;have h2:=(Ho (b:=b) aG).1;have h3:b^x.length<=b^c8.length:=Nat.pow_le_pow_right aa (by simp at h;omega);omega
theorem I8{b:Nat}{p gh s:List Nat}{x y:Nat}(hp:c2 b p)(hl:p.length=gh.length)(h:x<y):val b (p++x::s)<val b (gh++y::s):=by
 rw[mo,mo,<-hl];simp only[val];have h1:=kf hp;have h2:b^p.length*(x+b*val b s+1)<=b^p.length*(y+b*val b s):=Nat.mul_le_mul_left _ (by omega);rw[Nat.mul_add _ (x+b*val b s) 1,Nat.mul_one]at h2;omega
theorem hN{b:Nat}{l:List Nat}{i:Nat}(h:i<l.length):val b (l.take (i+1))=val b (l.take i)+b^i*l[i]:=by
 rw[List.take_succ_eq_append_getElem h,mo];simp only[val,List.length_take,Nat.min_eq_left (Nat.le_of_lt h),Nat.mul_zero,Nat.add_zero]
theorem jW{b:Nat}{l:List Nat}{i:Nat}(h:l.length<=i):val b (l.take i)=val b l:=by rw[List.take_of_length_le h]
def a1(b n:Nat):List Nat:=if h:b<2∨n=0 then[]else n%b::a1 b (n/b)
termination_by n
decreasing_by
 exact Nat.div_lt_self (by omega) (by omega)
theorem g6(b:Nat):a1 b 0=[]:=by rw[a1];simp
theorem pj{b n:Nat}(aa:2<=b)(hn:n≠0):a1 b n=n%b::a1 b (n/b):=by rw[a1,dif_neg (by omega)]
theorem gn{b:Nat}(aa:2<=b)(n:Nat):val b (a1 b n)=n:=by
 induction n using Nat.strongRecOn with
 |ind n a0=>
  by_cases hn:n=0
  ·subst hn;rw[g6];rfl
  ·rw[pj aa hn,val,a0 _ (Nat.div_lt_self (by omega) (by omega))];exact Nat.mod_add_div n b
theorem gM{b:Nat}(aa:2<=b)(n:Nat):c2 b (a1 b n):=by
 induction n using Nat.strongRecOn with
 |ind n a0=>
  by_cases hn:n=0
  ·subst hn;rw[g6];exact fun x J=>by simp at J
  ·rw[pj aa hn];intro x J;rcases List.mem_cons.1 J with rfl|J
   ·exact Nat.mod_lt _ (by omega)
   ·exact a0 _ (Nat.div_lt_self (by omega) (by omega)) x J
theorem rq{b n:Nat}(aa:2<=b):a1 b n=[]↔n=0:=by
 constructor
 ·intro h;have:=gn aa n;rw[h]at this;simp[val]at this;omega
 ·intro h;subst h;exact g6 b
theorem wz{b:Nat}(aa:2<=b)(n:Nat):eM (a1 b n)=a1 b n:=by
 induction n using Nat.strongRecOn with
 |ind n a0=>
  by_cases hn:n=0
  ·subst hn;rw[g6];rfl
  ·rw[pj aa hn,eM,a0 _ (Nat.div_lt_self (by omega) (by omega))];by_cases av:n/b=0
   ·rw[av,g6];have:n%b=n:=Nat.mod_eq_of_lt ((Nat.div_eq_zero_iff_lt (by omega)).1 av);rw[this];simp[hn]
   ·cases he:a1 b (n/b)with
    |nil=>exact absurd ((rq aa).1 he) av
    |cons x xs=>rfl
theorem BS{b:Nat}(aa:2<=b):∀{ds:List Nat},c2 b ds->eM ds=ds->a1 b (val b ds)=ds
 |[],_,_=>g6 b
 |d::ds,h,aN=>by
  have h1:=h d (by simp);have h2:c2 b ds:=fun x J=>h x (List.mem_cons_of_mem _ J);have h3:eM ds=ds∧(ds=[]->d≠0):=by
   rw[eM]at aN;cases aQ:eM ds with
   |nil=>
    rw[aQ]at aN;simp only at aN;split at aN
    ·cases aN
    ·cases aN;exact⟨rfl,fun _=>by assumption⟩
   |cons x xs=>
    rw[aQ]at aN;have aN:d::x::xs=d::ds:=aN;cases aN;exact⟨rfl,fun h=>by cases h⟩
  have aH:val b (d::ds)≠0:=by
   simp only[val];cases iu:ds with
   |nil=>have:=h3.2 iu;simp[val];exact this
   |cons x xs=>
    intro h0;have ay:=BS aa h2 h3.1;have:b*val b (x::xs)=0:=by omega
    have:val b (x::xs)=0:=by
     rcases Nat.mul_eq_zero.1 this with h|h
     ·omega
     ·exact h
    rw[iu,this,g6]at ay;cases ay
  rw[pj aa aH];have aA:val b (d::ds)%b=d:=by simp only[val];rw[Nat.add_mul_mod_self_left,Nat.mod_eq_of_lt h1]
  have e2:val b (d::ds)/b=val b ds:=by simp only[val];rw[Nat.add_mul_div_left _ _ (by omega),Nat.div_eq_of_lt h1];omega
  rw[aA,e2,BS aa h2 h3.1]
theorem yl{b:Nat}(aa:2<=b){ds:List Nat}(h:c2 b ds):eM ds=a1 b (val b ds):=by
 rw[<-asP,BS aa (asN ds h) (asO ds)]
theorem lr{b n k:Nat}(aa:2<=b)(h:n<b^k):(a1 b n).length<=k:=by
 have aN:=wz aa n;have aH:=gn aa n;rcases List.eq_nil_or_concat (a1 b n)with he|⟨c8,d,he⟩
 ·rw[he];simp
 ·rw[List.concat_eq_append]at he;rw[he]at aN aH;have h1:=(Ho (b:=b) aN).1;rw[aH]at h1;have h3:=(Nat.pow_lt_pow_iff_right (by omega:1<b)).1 (Nat.lt_of_le_of_lt h1 h);rw[he];simp;omega
theorem QP{b n k:Nat}(aa:2<=b)(h:b^k<=n):k<(a1 b n).length:=by
 have h1:=kf (gM aa n);rw[gn aa]at h1;exact(Nat.pow_lt_pow_iff_right (by omega:1<b)).1 (Nat.lt_of_le_of_lt h h1)
theorem OW{b P o c x y u w:Nat}(aa:0<b)(h:o+P*c=u+w):o+P*((c+x+y)%b)+P*b*((c+x+y)/b)=u+P*x+(w+P*y):=by
 have h1:P*(c+x+y)=P*((c+x+y)%b)+P*b*((c+x+y)/b):=by
  rw[Nat.mul_assoc,<-Nat.mul_add,Nat.mod_add_div]
 rw[Nat.mul_add,Nat.mul_add]at h1;omega
theorem ZV{b P o c x y u w d bJ:Nat}(h:u+P*c=o+w)(av:x+b*bJ=d+y+c):u+P*x+P*b*bJ=o+P*d+(w+P*y):=by
 have h1:P*x+P*b*bJ=P*d+P*y+P*c:=by
  rw[Nat.mul_assoc,<-Nat.mul_add,<-Nat.mul_add,<-Nat.mul_add,av]
 omega
theorem l7{b:Nat}{l:List Nat}(h:c2 b l)(i:Nat){d:Nat}(av:d<b):c2 b (l.set i d):=fun x J=>by
 rcases List.mem_or_eq_of_mem_set J with h1|h1
 ·exact h x h1
 ·omega
theorem r0{b:Nat}(aa:0<b)(n:Nat):c2 b (List.replicate n 0):=fun x J=>by
 have:=List.eq_of_mem_replicate J;omega
theorem val_zero(b n:Nat):val b (List.replicate n 0)=0:=by
 induction n with
 |zero=>rfl
 |succ n a0=>simp[List.replicate_succ,val,a0]
def h4(a b:Nat):Int:=if a<b then -1 else if a=b then 0 else 1
section
variable{B P V W v1 v2 hd top lO oe q g over:Nat}
theorem amZ(hy:V=(v1*B+v2)*P+lO)(gq:W=(top*B+hd)*P+oe)(sO:oe<P)(LI:hd<B)(h:q*V<=W):q*v1<=top:=by
 have h1:q*v1*(B*P)<=q*V:=by
  rw[Nat.mul_assoc];refine Nat.mul_le_mul_left q ?_;rw[hy,Nat.add_mul,<-Nat.mul_assoc];omega
 have h2:W<(top+1)*(B*P):=by
  have:(top*B+hd+1)*P<=(top*B+B)*P:=Nat.mul_le_mul_right P (by omega);have e:(top*B+B)*P=(top+1)*(B*P):=by rw[<-Nat.mul_assoc,Nat.add_mul top 1 B,Nat.one_mul]
  have e2:(top*B+hd+1)*P=(top*B+hd)*P+P:=by rw[Nat.add_mul _ 1 P,Nat.one_mul]
  omega
 have:=Nat.lt_of_mul_lt_mul_right (Nat.lt_of_le_of_lt (Nat.le_trans h1 h) h2);omega
theorem amY(hy:V=(v1*B+v2)*P+lO)(gq:W=(top*B+hd)*P+oe)(sO:oe<P)(h:q*V<=W)(LB:q<=g)(aN:top=g*v1+over)(aO:over*B+hd<g*v2):q<g:=by
 rcases Nat.lt_or_ge q g with aB|aB
 ·exact aB
 ·have e:q=g:=by omega
  subst e;have h1:q*(v1*B+v2)*P<=q*V:=by
   rw[Nat.mul_assoc];refine Nat.mul_le_mul_left q ?_;omega
  have h2:W<(top*B+hd+1)*P:=by rw[Nat.add_mul _ 1 P,Nat.one_mul];omega
  have h3:=Nat.lt_of_mul_lt_mul_right (Nat.lt_of_le_of_lt (Nat.le_trans h1 h) h2);rw[aN,Nat.mul_add,Nat.add_mul]at h3;have aA:q*(v1*B)=q*v1*B:=by rw[Nat.mul_assoc]
  omega
theorem amX(hy:V=(v1*B+v2)*P+lO)(zl:lO<P)(kp:0<v1)(gq:W=(top*B+hd)*P+oe)(aN:top=g*v1+over)(aO:g*v2<=over*B+hd)(UI:g<=B):g*V<=W+V:=by
 have h1:g*V<=(g*(v1*B+v2)+g)*P:=by
  have:V<=(v1*B+v2+1)*P:=by rw[hy,Nat.add_mul _ 1 P,Nat.one_mul];omega
  have:=Nat.mul_le_mul_left g this;rw[<-Nat.mul_assoc,Nat.mul_add g _ 1,Nat.mul_one]at this;exact this
 have h2:g*(v1*B+v2)<=top*B+hd:=by
  rw[aN,Nat.mul_add,Nat.add_mul];have aA:g*(v1*B)=g*v1*B:=by rw[Nat.mul_assoc]
  omega
 have h3:(g*(v1*B+v2)+g)*P<=(top*B+hd)*P+g*P:=by
  rw[Nat.add_mul];exact Nat.add_le_add_right (Nat.mul_le_mul_right P h2) _
 have ay:g*P<=V:=by
  have:g*P<=(v1*B+v2)*P:=Nat.mul_le_mul_right P (by
   have:B*1<=B*v1:=Nat.mul_le_mul_left B kp;rw[Nat.mul_comm v1 B];omega)
  omega
 omega
theorem VH(hy:V=(v1*B+v2)*P+lO)(zl:lO<P)(iN:v2<B)(gq:W=(top*B+hd)*P+oe)(aN:top=g*v1+over)(ak:B<=over)(UI:g<=B):g*V<=W:=by
 have h1:g*V<=g*((v1*B+B)*P):=by
  refine Nat.mul_le_mul_left g ?_;have:(v1*B+v2+1)*P<=(v1*B+B)*P:=Nat.mul_le_mul_right P (by omega);rw[Nat.add_mul _ 1 P,Nat.one_mul]at this;omega
 have h2:g*((v1*B+B)*P)=(g*v1+g)*B*P:=by
  rw[<-Nat.mul_assoc,Nat.mul_add,Nat.add_mul (g*v1) g B,Nat.mul_assoc g v1 B]
 have h3:(g*v1+g)*B*P<=top*B*P:=Nat.mul_le_mul_right P (Nat.mul_le_mul_right B (by omega));have ay:top*B*P<=(top*B+hd)*P:=Nat.mul_le_mul_right P (by omega);omega
end
theorem am1{B V v1 v2 P lO h:Nat}(hy:V=(v1*B+v2)*P+lO)(zl:lO<P)(iN:v2<B)(a5:0<B)(hn:h*(P*B)<=V):h<=v1:=by
 have h1:V<(v1+1)*(P*B):=by
  have h2:(v1*B+v2+1)*P<=(v1*B+B)*P:=Nat.mul_le_mul_right P (by omega);have e:(v1*B+B)*P=(v1+1)*(P*B):=by rw[show v1*B+B=(v1+1)*B by rw[Nat.add_mul,Nat.one_mul]];ac_rfl
  rw[Nat.add_mul _ 1 P,Nat.one_mul]at h2;omega
 have hp:0<P*B:=Nat.mul_pos (by omega) a5;have:=Nat.lt_of_mul_lt_mul_right (Nat.lt_of_le_of_lt hn h1);omega
theorem am0{B V W v1 v2 P lO oe top p9 iU hd:Nat}(hy:V=(v1*B+v2)*P+lO)(zl:lO<P)(iN:v2<B)(a5:0<B)(gq:W=(top*B+hd)*P+oe)(aN:top=iU*B+p9)(h:W<V*B):iU<=v1:=by
 have h1:V<=(v1+1)*(P*B):=by
  have h2:(v1*B+v2+1)*P<=(v1*B+B)*P:=Nat.mul_le_mul_right P (by omega);have e:(v1*B+B)*P=(v1+1)*(P*B):=by rw[show v1*B+B=(v1+1)*B by rw[Nat.add_mul,Nat.one_mul]];ac_rfl
  rw[Nat.add_mul _ 1 P,Nat.one_mul]at h2;omega
 have h3:iU*(P*B*B)<=W:=by
  have:(iU*B*B)*P<=(top*B+hd)*P:=Nat.mul_le_mul_right P (by
   rw[aN,Nat.add_mul];omega)
  have e:iU*B*B*P=iU*(P*B*B):=by ac_rfl
  omega
 have ay:V*B<=(v1+1)*(P*B*B):=by
  have:=Nat.mul_le_mul_right B h1;rw[Nat.mul_assoc]at this;exact this
 have:=Nat.lt_of_mul_lt_mul_right (Nat.lt_of_le_of_lt h3 (Nat.lt_of_lt_of_le h ay));omega
theorem amW{W V g:Nat}(hy:0<V)(h1:W/V<=g)(h2:g*V<=W+V):(W<g*V->g-1=W/V∧0<g)∧(¬W<g*V->g=W/V):=by
 have av:=Nat.div_add_mod W V;have hm:=Nat.mod_lt W hy;constructor
 ·intro h;have h3:W/V<g:=(Nat.div_lt_iff_lt_mul hy).2 h;have ay:(g-1)*V<=W:=by
   rw[Nat.sub_mul];omega
  have:=(Nat.le_div_iff_mul_le hy).2 ay;omega
 ·intro h;have:=(Nat.le_div_iff_mul_le hy).2 (show g*V<=W by omega);omega
theorem y5{b n i:Nat}(aa:2<=b):i<(a1 b n).length↔n/b^i≠0:=by
 have hp:0<b^i:=Nat.pow_pos (by omega);constructor
 ·intro h e;have:=lr aa (k:=i) (n:=n) (by rcases Nat.div_eq_zero_iff.1 e with h|h<;>omega);omega
 ·intro h;exact QP aa (by
   rcases Nat.lt_or_ge n (b^i)with aB|aB
   ·exact absurd (Nat.div_eq_of_lt aB) h
   ·exact aB)
theorem wx{b:Nat}(aa:2<=b):∀{n i:Nat},i<(a1 b n).length->(a1 b n)[i]? =some (n/b^i%b)
 |n,i,h=>by
  by_cases h0:n=0
  ·subst h0;rw[g6]at h;simp at h
  ·rw[pj aa h0]at h⊢;cases i with
   |zero=>simp
   |succ i=>
    rw[List.getElem?_cons_succ,wx aa (by simpa using h),Nat.div_div_eq_div_mul,Nat.pow_succ,Nat.mul_comm b]
theorem afj{b n i:Nat}(aa:2<=b)(h:i<(a1 b n).length):(a1 b n)[i]=n/b^i%b:=by
 have:=wx aa h;rw[List.getElem?_eq_getElem h]at this;exact Option.some.inj this
def lR(b x y i:Nat):Nat:=(x%b^i+y%b^i)/b^i
theorem aeK(b x y:Nat):lR b x y 0=0:=by simp[lR,Nat.mod_one]
theorem QF{b x y i:Nat}(aa:0<b):(x+y)/b^i=x/b^i+y/b^i+lR b x y i:=by
 have hp:0<b^i:=Nat.pow_pos aa;unfold lR;have aA:=Nat.div_add_mod x (b^i);have e2:=Nat.div_add_mod y (b^i);have:x+y=(x%b^i+y%b^i)+b^i*(x/b^i+y/b^i):=by rw[Nat.mul_add];omega
 rw[this,Nat.add_mul_div_left _ _ hp];omega
theorem aeI{b x y i:Nat}(aa:0<b):lR b x y i<=1:=by
 have hp:0<b^i:=Nat.pow_pos aa;have h1:=Nat.mod_lt x hp;have h2:=Nat.mod_lt y hp;unfold lR;have:(x%b^i+y%b^i)/b^i<2:=Nat.div_lt_of_lt_mul (by omega);omega
theorem aeJ{b x y i:Nat}(aa:0<b):lR b x y (i+1)=(lR b x y i+x/b^i%b+y/b^i%b)/b:=by
 have hp:0<b^i:=Nat.pow_pos aa;have e:∀z,z%b^(i+1)=z%b^i+b^i*(z/b^i%b):=fun z=>by
  rw[Nat.pow_succ,Nat.mod_mul]
 unfold lR;rw[e x,e y,Nat.pow_succ,<-Nat.div_div_eq_div_mul];congr 1;rw[show x%b^i+b^i*(x/b^i%b)+(y%b^i+b^i*(y/b^i%b))=(x%b^i+y%b^i)+b^i*(x/b^i%b+y/b^i%b) by rw[Nat.mul_add];omega,Nat.add_mul_div_left _ _ hp];omega
theorem aeH{b x y i:Nat}(aa:0<b):(lR b x y i+x/b^i%b+y/b^i%b)%b=(x+y)/b^i%b:=by
 rw[QF aa];rw[show lR b x y i+x/b^i%b+y/b^i%b=lR b x y i+(x/b^i%b+y/b^i%b) by omega,Nat.add_mod,<-Nat.add_mod (x/b^i),<-Nat.add_mod,Nat.add_comm]
theorem asF{l:List Nat}{i:Nat}(h:i<l.length):l.take (i+1)=l.take i++[l[i]]:=by
 rw[List.take_add_one,List.getElem?_eq_getElem h];rfl
theorem QQ{b n k:Nat}(aa:2<=b)(h:(a1 b n).length<=k):n<b^k:=by
 have h1:=kf (gM aa n);rw[gn aa]at h1;exact Nat.lt_of_lt_of_le h1 (Nat.pow_le_pow_right (by omega) h)
theorem Z7{b n m:Nat}(aa:2<=b)(h:(a1 b n).length=m+1):(a1 b n)[m]? =some (n/b^m):=by
 rw[wx aa (by omega),Nat.mod_eq_of_lt];have:=QQ aa (Nat.le_of_eq h);rw[Nat.pow_succ]at this;exact Nat.div_lt_of_lt_mul this
theorem asH{b n m:Nat}(aa:2<=b)(h:m+1<(a1 b n).length)(aP:n<b^(m+2)):
 (a1 b n)[m]? =some (n/b^m%b)∧(a1 b n)[m+1]? =some (n/b^(m+1))∧n/b^m%b+b*(n/b^(m+1))=n/b^m:=by
 refine⟨wx aa (by omega),?_,?_⟩
 ·rw[wx aa h,Nat.mod_eq_of_lt];rw[show m+2=(m+1)+1 from rfl,Nat.pow_succ]at aP;exact Nat.div_lt_of_lt_mul aP
 ·rw[Nat.pow_succ,<-Nat.div_div_eq_div_mul];exact Nat.mod_add_div _ _
theorem Ub{a b:Nat}(ha:a%2=0)(h:Nat.gcd a b%2=1):Nat.gcd (a/2) b=Nat.gcd a b:=by
 obtain⟨c,rfl⟩:∃c,a=2*c:=⟨a/2,by omega⟩;have aa:b%2=1:=by
  rcases Nat.mod_two_eq_zero_or_one b with h0|h0
  ·have:2∣Nat.gcd (2*c) b:=Nat.dvd_gcd ⟨c,rfl⟩ (Nat.dvd_of_mod_eq_zero h0);omega
  ·exact h0
 have hc:Nat.Coprime 2 b:=by
  show Nat.gcd 2 b=1;rw[Nat.gcd_rec,aa];exact Nat.gcd_one_left 2
 rw[Nat.mul_div_cancel_left _ (by decide)];exact(Nat.Coprime.gcd_mul_left_cancel c hc).symm
theorem ajo{a b:Nat}(aa:b%2=0)(h:Nat.gcd a b%2=1):Nat.gcd a (b/2)=Nat.gcd a b:=by
 rw[Nat.gcd_comm,Ub aa (by rw[Nat.gcd_comm];exact h),Nat.gcd_comm]
theorem gcd_both{a b:Nat}(ha:a%2=0)(aa:b%2=0):2*Nat.gcd (a/2) (b/2)=Nat.gcd a b:=by
 obtain⟨c,rfl⟩:∃c,a=2*c:=⟨a/2,by omega⟩;obtain⟨d,rfl⟩:∃d,b=2*d:=⟨b/2,by omega⟩;rw[Nat.mul_div_cancel_left _ (by decide),Nat.mul_div_cancel_left _ (by decide),Nat.gcd_mul_left]
theorem Uc{a b:Nat}(h:b<=a):Nat.gcd (a-b) b=Nat.gcd a b:=by
 conv=>rhs;rw[show a=(a-b)+b by omega]
 simp
theorem Ud{a b:Nat}(h:¬(a%2=0∧b%2=0)):Nat.gcd a b%2=1:=by
 rcases Nat.mod_two_eq_zero_or_one (Nat.gcd a b)with h0|h0
 ·have h1:2∣Nat.gcd a b:=Nat.dvd_of_mod_eq_zero h0;have h2:=Nat.dvd_trans h1 (Nat.gcd_dvd_left a b);have h3:=Nat.dvd_trans h1 (Nat.gcd_dvd_right a b);exact absurd ⟨Nat.mod_eq_zero_of_dvd h2,Nat.mod_eq_zero_of_dvd h3⟩ h
 ·exact h0
def dec(n:Nat):List Nat:=if n=0 then[0]else(a1 10 n).reverse
def gY(l:List Nat):List UInt8:=l.map fun d=>UInt8.ofNat (48+d)
theorem PF(l m:List Nat):gY (l++m)=gY l++gY m:=by unfold gY;rw[List.map_append]
theorem Bt(l:List Nat):(gY l).length=l.length:=by unfold gY;rw[List.length_map]
def kr(k n:Nat):List Nat:=(List.range k).map fun j=>n/10^j%10
theorem VW(k n:Nat):kr (k+1) n=kr k n++[n/10^k%10]:=by unfold kr;rw[List.range_succ,List.map_append];rfl
theorem Dg(k n:Nat):(kr k n).length=k:=by unfold kr;rw[List.length_map,List.length_range]
theorem ano(k n:Nat):c2 10 (kr k n):=fun d av=>by
 unfold kr at av;obtain⟨j,_,rfl⟩:=List.mem_map.1 av;exact Nat.mod_lt _ (by decide)
theorem anp(k n:Nat):val 10 (kr k n)=n%10^k:=by
 induction k with
 |zero=>rw[Nat.pow_zero,Nat.mod_one];rfl
 |succ k a0=>rw[VW,mo,a0,Dg,Nat.mod_pow_succ];rfl
theorem B9(l:List Nat):c2 10 (l.flatMap (kr 9)):=fun d av=>by
 obtain⟨x,_,h⟩:=List.mem_flatMap.1 av;exact ano 9 x d h
theorem Rf:∀{l:List Nat},c2 1000000000 l->val 10 (l.flatMap (kr 9))=val 1000000000 l
 |[],_=>rfl
 |x::l,h=>by
  rw[List.flatMap_cons,mo,Rf (fun d av=>h d (List.mem_cons_of_mem _ av)),anp,Dg];have:=h x (by simp);show x%1000000000+1000000000*_=_;rw[Nat.mod_eq_of_lt this];rfl
theorem QM(n:Nat):c2 10 (dec n):=by
 unfold dec;split
 ·intro d av;simp at av;omega
 ·exact fun d av=>gM (by decide) n d (List.mem_reverse.1 av)
theorem afc(n:Nat):val 10 (dec n).reverse=n:=by
 unfold dec;split
 ·rename_i h;rw[h];rfl
 ·rw[List.reverse_reverse,gn (by decide)]
def Row(l:List Nat):Prop:=l≠[]∧c2 10 l∧(l=[0]∨l.head?≠some 0)
theorem asM{l:List Nat}(h:l.getLast?≠some 0):eM l=l:=by
 rcases List.eq_nil_or_concat l with rfl|⟨c8,d,rfl⟩
 ·rfl
 ·rw[List.concat_eq_append]at *;rw[se,if_neg (fun e=>h (by simp[e]))]
theorem aqj{l:List Nat}(h:Row l):dec (val 10 l.reverse)=l:=by
 obtain⟨h1,h2,h3⟩:=h;have ok:c2 10 l.reverse:=fun d av=>h2 d (List.mem_reverse.1 av);rcases h3 with rfl|h3
 ·rfl
 ·have aN:eM l.reverse=l.reverse:=asM (by rw[List.getLast?_reverse];exact h3);have av:=BS (b:=10) (by decide) ok aN;unfold dec;split
  ·rename_i h0;rw[h0,g6]at av;exact absurd (List.reverse_eq_nil_iff.1 av.symm) h1
  ·rw[av,List.reverse_reverse]
def mB(s:List UInt8):List Nat:=s.map fun c=>c.toNat-48
def b1(s:List UInt8):Nat:=val 10 (mB s).reverse
def iX(s:List UInt8):Prop:=∀c∈s,48<=c.toNat∧c.toNat<=57
instance(s:List UInt8):Decidable (iX s):=by unfold iX;infer_instance
def hG(s:List UInt8):Prop:=s≠[]∧iX s∧(s=[48]∨s.head?≠some 48)
instance(s:List UInt8):Decidable (hG s):=by unfold hG;infer_instance
theorem acf{s:List UInt8}(h:iX s):gY (mB s)=s:=by
 unfold gY mB;rw[List.map_map]
 conv=>rhs;rw[<-List.map_id s]
 refine List.map_congr_left fun c hc=> ?_;have:=h c hc;show UInt8.ofNat (48+(c.toNat-48))=c;rw[show 48+(c.toNat-48)=c.toNat by omega,UInt8.ofNat_toNat]
theorem Fs{d:Nat}(h:d<10):(UInt8.ofNat (48+d)).toNat=48+d:=by
 rw[UInt8.toNat_ofNat'];omega
theorem afo{l:List Nat}(h:c2 10 l):mB (gY l)=l:=by
 unfold gY mB;rw[List.map_map]
 conv=>rhs;rw[<-List.map_id l]
 refine List.map_congr_left fun d av=> ?_;have:=h d av;show(UInt8.ofNat (48+d)).toNat-48=d;rw[Fs this];omega
theorem ace{l:List Nat}(h:c2 10 l):iX (gY l):=fun c hc=>by
 unfold gY at hc;obtain⟨d,av,rfl⟩:=List.mem_map.1 hc;have:=h d av;rw[Fs this];omega
theorem QS{s:List UInt8}(h:iX s):c2 10 (mB s):=fun d av=>by
 unfold mB at av;obtain⟨c,hc,rfl⟩:=List.mem_map.1 av;have:=h c hc;omega
theorem acG{s:List UInt8}(h:hG s):Row (mB s):=by
 obtain⟨h1,h2,h3⟩:=h;refine⟨fun e=>h1 (List.map_eq_nil_iff.1 e),QS h2,?_⟩;rcases h3 with rfl|h3
 ·left;rfl
 ·right;cases s with
  |nil=>exact absurd rfl h1
  |cons c s=>
   have hc:=h2 c (by simp);simp only[mB,List.map_cons,List.head?_cons,ne_eq,Option.some.injEq]at h3⊢;intro e;exact h3 (UInt8.toNat_inj.1 (by show c.toNat=48;omega))
def j4(n:Nat):List UInt8:=gY (dec n)
theorem BQ{s:List UInt8}(h:hG s):j4 (b1 s)=s:=by
 unfold j4 b1;rw[aqj (acG h),acf h.2.1]
theorem ap3(n:Nat):b1 (j4 n)=n:=by
 unfold j4 b1;rw[afo (QM n),afc]
theorem afa(n:Nat):iX (j4 n):=ace (QM n)
theorem WA{s:List UInt8}(h:iX s):(47:UInt8)∉s:=fun hm=>by have:=h _ hm;simp at this
def cutAt:List UInt8->List UInt8×Option (List UInt8)
 |[]=>([],none)
 |c::s=>if c=47 then([],some s)else(c::(cutAt s).1,(cutAt s).2)
theorem Fh:∀{s p q:List UInt8},(47:UInt8)∉p->s=p++47::q->cutAt s=(p,some q)
 |_,[],q,_,rfl=>rfl
 |_,c::p,q,h,rfl=>by
  have hc:c≠47:=fun e=>h (by simp[e]);have:=Fh (s:=p++47::q) (p:=p) (q:=q) (fun hm=>h (List.mem_cons_of_mem _ hm)) rfl;show(if c=47 then _ else(c::(cutAt (p++47::q)).1,(cutAt (p++47::q)).2))=_;rw[if_neg hc,this]
theorem QH:∀{s:List UInt8},(47:UInt8)∉s->cutAt s=(s,none)
 |[],_=>rfl
 |c::s,h=>by
  have hc:c≠47:=fun e=>h (by simp[e]);show(if c=47 then _ else _)=_;rw[if_neg hc,QH (fun hm=>h (List.mem_cons_of_mem _ hm))]
theorem QG(s:List UInt8):(47:UInt8)∉(cutAt s).1∧(∀q,(cutAt s).2=some q->s=(cutAt s).1++47::q)∧((cutAt s).2=none->s=(cutAt s).1):=by
 induction s with
 |nil=>exact⟨by simp[cutAt],fun q h=>by simp[cutAt]at h,fun _=>rfl⟩
 |cons c s a0=>
  by_cases hc:c=47
  ·subst hc;refine⟨by simp[cutAt],fun q h=> ?_,fun h=>by simp[cutAt]at h⟩;simp[cutAt]at h;subst h;rfl
  ·have e:cutAt (c::s)=(c::(cutAt s).1,(cutAt s).2):=if_neg hc;obtain⟨h1,h2,h3⟩:=a0;rw[e];refine⟨fun hm=>(List.mem_cons.1 hm).elim (fun e=>hc e.symm) h1,fun q h=> ?_,fun h=> ?_⟩
   ·show c::s=c::((cutAt s).1++47::q);rw[<-h2 q h]
   ·show c::s=c::(cutAt s).1;rw[<-h3 h]
def dQ(s:List UInt8):Bool×List UInt8:=match s with
 |[]=>(false,[])
 |c::t=>if c=45 then(true,t)else(false,c::t)
def ie(n:Bool)(p:Nat):Int:=if n then -(p:Int)else p
def gT(s:List UInt8):Option Rat:=
 if hG (cutAt (dQ s).2).1∧¬((dQ s).1=true∧(cutAt (dQ s).2).1=[48])then match(cutAt (dQ s).2).2 with
  |none=>some (mkRat (ie (dQ s).1 (b1 (cutAt (dQ s).2).1)) 1)
  |some q=>if hG q∧q≠[48]∧q≠[49]∧Nat.gcd (b1 (cutAt (dQ s).2).1) (b1 q)=1 then some (mkRat (ie (dQ s).1 (b1 (cutAt (dQ s).2).1)) (b1 q))else none
 else none
def nI(x:Rat):List UInt8:=(if x.num<0 then[45]else[])++j4 x.num.natAbs++(if x.den=1 then[]else 47::j4 x.den)
theorem wg{s:List UInt8}(h:hG s)(h0:b1 s=0):s=[48]:=by rw[<-BQ h,h0];rfl
theorem P9{s:List UInt8}(h:hG s)(h0:b1 s=1):s=[49]:=by
 rw[<-BQ h,h0];show gY (dec 1)=_;unfold dec;rw[if_neg (by decide),pj (by decide) (by decide),show 1/10=0 from rfl,g6];rfl
theorem Mn(n:Int)(d:Nat)(h:d≠0):(mkRat n d).num=n/((n.natAbs.gcd d:Nat):Int)∧(mkRat n d).den=d/n.natAbs.gcd d:=by
 rw[<-Rat.normalize_eq_mkRat h,Rat.normalize_eq h];exact⟨rfl,rfl⟩
theorem tI(n:Bool)(p:Nat):(ie n p).natAbs=p:=by cases n<;>simp[ie]
theorem aa5{n:Bool}{p q:Nat}(hn:n=true->p≠0)(hq:q≠0)(aO:Nat.gcd p q=1):nI (mkRat (ie n p) q)=(if n=true then[45]else[])++j4 p++(if q=1 then[]else 47::j4 q):=by
 obtain⟨h1,h2⟩:=Mn (ie n p) q hq;rw[tI,aO]at h1 h2;unfold nI;rw[h1,h2,Nat.div_one];have:(ie n p/((1:Nat):Int))=ie n p:=Int.ediv_one _;rw[this,tI];congr 2;cases n
 ·rw[if_neg (by simp[ie]),if_neg (by decide)]
 ·have:=hn rfl;rw[if_pos (by simp[ie];omega),if_pos rfl]
theorem aeT{u sf v v':List UInt8}(h:(47:UInt8)∉u)(aB:(47:UInt8)∉sf)(e:u++47::v=sf++47::v'):v=v':=by
 have:=Fh (q:=v) h rfl;rw[e,Fh (q:=v') aB rfl]at this;simpa using(congrArg Prod.snd this).symm
theorem asS{n:Bool}{p q:List UInt8}(hp:hG p)(hq:hG q)(hn:¬(n=true∧p=[48]))(h0:q≠[48])(h1:q≠[49]):
 nI (mkRat (ie n (b1 p)) (b1 q))=(if n=true then[45]else[])++p++47::q↔Nat.gcd (b1 p) (b1 q)=1:=by
 have me:b1 q≠0:=fun e=>h0 (wg hq e);have cn:b1 q≠1:=fun e=>h1 (P9 hq e);have aD:(47:UInt8)∉(if n=true then[45]else[])++p:=fun hm=>by
  rcases List.mem_append.1 hm with h|h
  ·cases n<;>simp at h
  ·exact WA hp.2.1 h
 constructor
 ·intro h;obtain⟨h2,h3⟩:=Mn (ie n (b1 p)) (b1 q) me;rw[tI]at h3;have WJ:∀(b:Prop) [Decidable b] (k:Nat),(47:UInt8)∉(if b then[45]else[])++j4 k:=fun b _ k hm=>by
   rcases List.mem_append.1 hm with h|h
   ·split at h<;>simp at h
   ·exact WA (afa k) h
  unfold nI at h;by_cases av:(mkRat (ie n (b1 p)) (b1 q)).den=1
  ·rw[if_pos av,List.append_nil]at h;exact absurd (h▸WJ _ _) (by simp)
  ·rw[if_neg av]at h;have e:=aeT (WJ _ _) aD h;have e2:(mkRat (ie n (b1 p)) (b1 q)).den=b1 q:=by rw[<-ap3 (mkRat _ _).den,e]
   rw[h3]at e2;have aO:0<Nat.gcd (b1 p) (b1 q):=Nat.gcd_pos_of_pos_right _ (by omega);refine Nat.le_antisymm (Nat.le_of_not_lt fun h=> ?_) aO;have:=Nat.div_lt_self (Nat.pos_of_ne_zero me) h;omega
 ·intro aO;rw[aa5 (fun h e=>hn ⟨h,wg hp e⟩) me aO,if_neg cn,BQ hp,BQ hq]
theorem asT{n:Bool}{p:List UInt8}(hp:hG p)(hn:¬(n=true∧p=[48])):nI (mkRat (ie n (b1 p)) 1)=(if n=true then[45]else[])++p:=by
 rw[aa5 (fun h e=>hn ⟨h,wg hp e⟩) (by decide) (Nat.gcd_one_right _),if_pos rfl,List.append_nil,BQ hp]
