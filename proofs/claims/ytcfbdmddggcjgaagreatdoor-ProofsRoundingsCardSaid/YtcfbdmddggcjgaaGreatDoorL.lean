/- Plain laws of digits and of numbers; no condition beyond those in the statements. -/
set_option linter.all false
namespace Go.az.ck
def eN:List Nat->List Nat
 |[]=>[]
 |d::ds=>match eN ds with
  |[]=>if d=0 then[]else[d]
  |r=>d::r
def val(b:Nat):List Nat->Nat
 |[]=>0
 |d::ds=>d+b*val b ds
def cY(b:Nat)(ds:List Nat):Prop:=∀d∈ds,d<b
theorem pY(c6:List Nat)(d:Nat):eN (c6++[d])=if d=0 then eN c6 else c6++[d]:=by
 induction c6 with
 |nil=>simp[eN]
 |cons x xs bb=>
  simp only[List.cons_append];rw[eN,bb];by_cases h:d=0
  ·rw[if_pos h,if_pos h,eN]
  ·rw[if_neg h,if_neg h];cases xs<;>rfl
theorem k8(b:Nat)(xs av:List Nat):val b (xs++av)=val b xs+b^xs.length*val b av:=by
 induction xs with
 |nil=>simp[val]
 |cons x xs bb=>
  simp only[List.cons_append,val,bb,List.length_cons,Nat.pow_succ,Nat.mul_add];rw[<-Nat.mul_assoc,Nat.mul_comm b (b^xs.length)];omega
theorem amp(b:Nat)(ds:List Nat):val b (eN ds)=val b ds:=by
 suffices h:∀n (ds:List Nat),ds.length=n->val b (eN ds)=val b ds from h _ ds rfl
 intro n
 induction n with
 |zero=>intro ds h;rw[List.eq_nil_of_length_eq_zero h];rfl
 |succ n bb=>
  intro ds h;rcases List.eq_nil_or_concat ds with rfl|⟨c6,d,rfl⟩
  ·rfl
  ·rw[List.concat_eq_append]at *;rw[pY];split
   ·rename_i h0;rw[bb c6 (by simpa using h),k8,h0];simp[val]
   ·rfl
theorem amn{b:Nat}(ds:List Nat)(h:cY b ds):cY b (eN ds):=by
 induction ds with
 |nil=>exact h
 |cons d ds bb=>
  have J:=bb (fun x aa=>h x (List.mem_cons_of_mem _ aa));have U:=h d (by simp);unfold eN;split
  ·split
   ·exact fun x aa=>by simp at aa
   ·intro x aa;simp at aa;omega
  ·rename_i r aF;intro x aa;rcases List.mem_cons.1 aa with rfl|aa
   ·exact U
   ·exact J x aa
theorem amo(ds:List Nat):eN (eN ds)=eN ds:=by
 suffices h:∀n (ds:List Nat),ds.length=n->eN (eN ds)=eN ds from h _ ds rfl
 intro n
 induction n with
 |zero=>intro ds h;rw[List.eq_nil_of_length_eq_zero h];rfl
 |succ n bb=>
  intro ds h;rcases List.eq_nil_or_concat ds with rfl|⟨c6,d,rfl⟩
  ·rfl
  ·rw[List.concat_eq_append]at *;rw[pY];split
   ·exact bb c6 (by simpa using h)
   ·rename_i h0;rw[pY,if_neg h0]
theorem Uq(ds:List Nat):(eN ds).length<=ds.length:=by
 induction ds with
 |nil=>exact Nat.le_refl _
 |cons d ds bb=>
  unfold eN;split
  ·split<;>simp
  ·rename_i aF;simp;exact bb
theorem jz{b:Nat}{ds:List Nat}(h:cY b ds):val b ds<b^ds.length:=by
 induction ds with
 |nil=>simp[val]
 |cons d ds bb=>
  have J:=h d (by simp);have U:=bb (fun x aa=>h x (List.mem_cons_of_mem _ aa));simp only[val,List.length_cons,Nat.pow_succ];have:b*(val b ds+1)<=b*b^ds.length:=Nat.mul_le_mul_left _ U;rw[Nat.mul_comm (b^ds.length)];rw[Nat.mul_add]at this;omega
theorem A5{b:Nat}{c6:List Nat}{d:Nat}(h:eN (c6++[d])=c6++[d]):b^c6.length<=val b (c6++[d])∧d≠0:=by
 rw[pY]at h;by_cases ax:d=0
 ·rw[if_pos ax]at h;have:=Uq c6;rw[h]at this;simp at this;omega
 ·refine⟨?_,ax⟩;rw[k8];simp only[val];have:b^c6.length*1<=b^c6.length*(d+b*0):=Nat.mul_le_mul_left _ (by omega);omega
theorem Eh{b:Nat}(hb:0<b){x y:List Nat}(aa:cY b x)(aJ:eN y=y)(h:x.length<y.length):val b x<val b y:=by
 rcases List.eq_nil_or_concat y with rfl|⟨c6,d,rfl⟩
 ·simp at h
 ·rw[List.concat_eq_append]at *;have J:=jz aa;have U:=(A5 (b:=b) aJ).1;have ah:b^x.length<=b^c6.length:=Nat.pow_le_pow_right hb (by simp at h;omega);omega
theorem Gi{b:Nat}{p dL s:List Nat}{x y:Nat}(hp:cY b p)(hl:p.length=dL.length)(h:x<y):val b (p++x::s)<val b (dL++y::s):=by
 rw[k8,k8,<-hl];simp only[val];have J:=jz hp;have U:b^p.length*(x+b*val b s+1)<=b^p.length*(y+b*val b s):=Nat.mul_le_mul_left _ (by omega);rw[Nat.mul_add _ (x+b*val b s) 1,Nat.mul_one]at U;omega
theorem hr{b:Nat}{l:List Nat}{i:Nat}(h:i<l.length):val b (l.take (i+1))=val b (l.take i)+b^i*l[i]:=by
 rw[List.take_succ_eq_append_getElem h,k8];simp only[val,List.length_take,Nat.min_eq_left (Nat.le_of_lt h),Nat.mul_zero,Nat.add_zero]
theorem ji{b:Nat}{l:List Nat}{i:Nat}(h:l.length<=i):val b (l.take i)=val b l:=by rw[List.take_of_length_le h]
def aU(b n:Nat):List Nat:=if h:b<2∨n=0 then[]else n%b::aU b (n/b)
termination_by n
decreasing_by
 exact Nat.div_lt_self (by omega) (by omega)
theorem fV(b:Nat):aU b 0=[]:=by rw[aU];simp
theorem mo{b n:Nat}(hb:2<=b)(hn:n≠0):aU b n=n%b::aU b (n/b):=by rw[aU,dif_neg (by omega)]
theorem fU{b:Nat}(hb:2<=b)(n:Nat):val b (aU b n)=n:=by
 induction n using Nat.strongRecOn with
 |ind n bb=>
  by_cases hn:n=0
  ·subst hn;rw[fV];rfl
  ·rw[mo hb hn,val,bb _ (Nat.div_lt_self (by omega) (by omega))];exact Nat.mod_add_div n b
theorem gp{b:Nat}(hb:2<=b)(n:Nat):cY b (aU b n):=by
 induction n using Nat.strongRecOn with
 |ind n bb=>
  by_cases hn:n=0
  ·subst hn;rw[fV];exact fun x aa=>by simp at aa
  ·rw[mo hb hn];intro x aa;rcases List.mem_cons.1 aa with rfl|aa
   ·exact Nat.mod_lt _ (by omega)
   ·exact bb _ (Nat.div_lt_self (by omega) (by omega)) x aa
theorem oq{b n:Nat}(hb:2<=b):aU b n=[]↔n=0:=by
 constructor
 ·intro h;have:=fU hb n;rw[h]at this;simp[val]at this;omega
 ·intro h;subst h;exact fV b
theorem sK{b:Nat}(hb:2<=b)(n:Nat):eN (aU b n)=aU b n:=by
 induction n using Nat.strongRecOn with
 |ind n bb=>
  by_cases hn:n=0
  ·subst hn;rw[fV];rfl
  ·rw[mo hb hn,eN,bb _ (Nat.div_lt_self (by omega) (by omega))];by_cases ax:n/b=0
   ·rw[ax,fV];have:n%b=n:=Nat.mod_eq_of_lt ((Nat.div_eq_zero_iff_lt (by omega)).1 ax);rw[this];simp[hn]
   ·cases he:aU b (n/b)with
    |nil=>exact absurd ((oq hb).1 he) ax
    |cons x xs=>rfl
theorem wV{b:Nat}(hb:2<=b):∀{ds:List Nat},cY b ds->eN ds=ds->aU b (val b ds)=ds
 |[],_,_=>fV b
 |d::ds,h,aX=>by
  have J:=h d (by simp);have U:cY b ds:=fun x aa=>h x (List.mem_cons_of_mem _ aa);have ah:eN ds=ds∧(ds=[]->d≠0):=by
   rw[eN]at aX;cases aF:eN ds with
   |nil=>
    rw[aF]at aX;simp only at aX;split at aX
    ·cases aX
    ·cases aX;exact⟨rfl,fun _=>by assumption⟩
   |cons x xs=>
    rw[aF]at aX;have aX:d::x::xs=d::ds:=aX;cases aX;exact⟨rfl,fun h=>by cases h⟩
  have aD:val b (d::ds)≠0:=by
   simp only[val];cases iQ:ds with
   |nil=>have:=ah.2 iQ;simp[val];exact this
   |cons x xs=>
    intro h0;have aC:=wV hb U ah.1;have:b*val b (x::xs)=0:=by omega
    have:val b (x::xs)=0:=by
     rcases Nat.mul_eq_zero.1 this with h|h
     ·omega
     ·exact h
    rw[iQ,this,fV]at aC;cases aC
  rw[mo hb aD];have aG:val b (d::ds)%b=d:=by simp only[val];rw[Nat.add_mul_mod_self_left,Nat.mod_eq_of_lt J]
  have e2:val b (d::ds)/b=val b ds:=by simp only[val];rw[Nat.add_mul_div_left _ _ (by omega),Nat.div_eq_of_lt J];omega
  rw[aG,e2,wV hb U ah.1]
theorem wb{b:Nat}(hb:2<=b){ds:List Nat}(h:cY b ds):eN ds=aU b (val b ds):=by
 rw[<-amp,wV hb (amn ds h) (amo ds)]
theorem iM{b n k:Nat}(hb:2<=b)(h:n<b^k):(aU b n).length<=k:=by
 have aX:=sK hb n;have aD:=fU hb n;rcases List.eq_nil_or_concat (aU b n)with he|⟨c6,d,he⟩
 ·rw[he];simp
 ·rw[List.concat_eq_append]at he;rw[he]at aX aD;have J:=(A5 (b:=b) aX).1;rw[aD]at J;have ah:=(Nat.pow_lt_pow_iff_right (by omega:1<b)).1 (Nat.lt_of_le_of_lt J h);rw[he];simp;omega
theorem zB{b n k:Nat}(hb:2<=b)(h:b^k<=n):k<(aU b n).length:=by
 have J:=jz (gp hb n);rw[fU hb]at J;exact(Nat.pow_lt_pow_iff_right (by omega:1<b)).1 (Nat.lt_of_le_of_lt h J)
theorem LR{b P o c x y u w:Nat}(hb:0<b)(h:o+P*c=u+w):o+P*((c+x+y)%b)+P*b*((c+x+y)/b)=u+P*x+(w+P*y):=by
 have J:P*(c+x+y)=P*((c+x+y)%b)+P*b*((c+x+y)/b):=by
  rw[Nat.mul_assoc,<-Nat.mul_add,Nat.mod_add_div]
 rw[Nat.mul_add,Nat.mul_add]at J;omega
theorem Tq{b P o c x y u w d bE:Nat}(h:u+P*c=o+w)(ax:x+b*bE=d+y+c):u+P*x+P*b*bE=o+P*d+(w+P*y):=by
 have J:P*x+P*b*bE=P*d+P*y+P*c:=by
  rw[Nat.mul_assoc,<-Nat.mul_add,<-Nat.mul_add,<-Nat.mul_add,ax]
 omega
theorem lC{b:Nat}{l:List Nat}(h:cY b l)(i:Nat){d:Nat}(ax:d<b):cY b (l.set i d):=fun x aa=>by
 rcases List.mem_or_eq_of_mem_set aa with J|J
 ·exact h x J
 ·omega
theorem qC{b:Nat}(hb:0<b)(n:Nat):cY b (List.replicate n 0):=fun x aa=>by
 have:=List.eq_of_mem_replicate aa;omega
theorem val_zero(b n:Nat):val b (List.replicate n 0)=0:=by
 induction n with
 |zero=>rfl
 |succ n bb=>simp[List.replicate_succ,val,bb]
def h8(a b:Nat):Int:=if a<b then -1 else if a=b then 0 else 1
section
variable{B P V W v1 v2 gP top lb nn q g over:Nat}
theorem aht(g2:V=(v1*B+v2)*P+lb)(gr:W=(top*B+gP)*P+nn)(rp:nn<P)(IE:gP<B)(h:q*V<=W):q*v1<=top:=by
 have J:q*v1*(B*P)<=q*V:=by
  rw[Nat.mul_assoc];refine Nat.mul_le_mul_left q ?_;rw[g2,Nat.add_mul,<-Nat.mul_assoc];omega
 have U:W<(top+1)*(B*P):=by
  have:(top*B+gP+1)*P<=(top*B+B)*P:=Nat.mul_le_mul_right P (by omega);have e:(top*B+B)*P=(top+1)*(B*P):=by rw[<-Nat.mul_assoc,Nat.add_mul top 1 B,Nat.one_mul]
  have e2:(top*B+gP+1)*P=(top*B+gP)*P+P:=by rw[Nat.add_mul _ 1 P,Nat.one_mul]
  omega
 have:=Nat.lt_of_mul_lt_mul_right (Nat.lt_of_le_of_lt (Nat.le_trans J h) U);omega
theorem ahs(g2:V=(v1*B+v2)*P+lb)(gr:W=(top*B+gP)*P+nn)(rp:nn<P)(h:q*V<=W)(Iy:q<=g)(aX:top=g*v1+over)(aZ:over*B+gP<g*v2):q<g:=by
 rcases Nat.lt_or_ge q g with aL|aL
 ·exact aL
 ·have e:q=g:=by omega
  subst e;have J:q*(v1*B+v2)*P<=q*V:=by
   rw[Nat.mul_assoc];refine Nat.mul_le_mul_left q ?_;omega
  have U:W<(top*B+gP+1)*P:=by rw[Nat.add_mul _ 1 P,Nat.one_mul];omega
  have ah:=Nat.lt_of_mul_lt_mul_right (Nat.lt_of_le_of_lt (Nat.le_trans J h) U);rw[aX,Nat.mul_add,Nat.add_mul]at ah;have aG:q*(v1*B)=q*v1*B:=by rw[Nat.mul_assoc]
  omega
theorem ahr(g2:V=(v1*B+v2)*P+lb)(xa:lb<P)(nN:0<v1)(gr:W=(top*B+gP)*P+nn)(aX:top=g*v1+over)(aZ:g*v2<=over*B+gP)(OH:g<=B):g*V<=W+V:=by
 have J:g*V<=(g*(v1*B+v2)+g)*P:=by
  have:V<=(v1*B+v2+1)*P:=by rw[g2,Nat.add_mul _ 1 P,Nat.one_mul];omega
  have:=Nat.mul_le_mul_left g this;rw[<-Nat.mul_assoc,Nat.mul_add g _ 1,Nat.mul_one]at this;exact this
 have U:g*(v1*B+v2)<=top*B+gP:=by
  rw[aX,Nat.mul_add,Nat.add_mul];have aG:g*(v1*B)=g*v1*B:=by rw[Nat.mul_assoc]
  omega
 have ah:(g*(v1*B+v2)+g)*P<=(top*B+gP)*P+g*P:=by
  rw[Nat.add_mul];exact Nat.add_le_add_right (Nat.mul_le_mul_right P U) _
 have aC:g*P<=V:=by
  have:g*P<=(v1*B+v2)*P:=Nat.mul_le_mul_right P (by
   have:B*1<=B*v1:=Nat.mul_le_mul_left B nN;rw[Nat.mul_comm v1 B];omega)
  omega
 omega
theorem PF(g2:V=(v1*B+v2)*P+lb)(xa:lb<P)(kX:v2<B)(gr:W=(top*B+gP)*P+nn)(aX:top=g*v1+over)(ao:B<=over)(OH:g<=B):g*V<=W:=by
 have J:g*V<=g*((v1*B+B)*P):=by
  refine Nat.mul_le_mul_left g ?_;have:(v1*B+v2+1)*P<=(v1*B+B)*P:=Nat.mul_le_mul_right P (by omega);rw[Nat.add_mul _ 1 P,Nat.one_mul]at this;omega
 have U:g*((v1*B+B)*P)=(g*v1+g)*B*P:=by
  rw[<-Nat.mul_assoc,Nat.mul_add,Nat.add_mul (g*v1) g B,Nat.mul_assoc g v1 B]
 have ah:(g*v1+g)*B*P<=top*B*P:=Nat.mul_le_mul_right P (Nat.mul_le_mul_right B (by omega));have aC:top*B*P<=(top*B+gP)*P:=Nat.mul_le_mul_right P (by omega);omega
end
theorem ahv{B V v1 v2 P lb h:Nat}(g2:V=(v1*B+v2)*P+lb)(xa:lb<P)(kX:v2<B)(bC:0<B)(hn:h*(P*B)<=V):h<=v1:=by
 have J:V<(v1+1)*(P*B):=by
  have U:(v1*B+v2+1)*P<=(v1*B+B)*P:=Nat.mul_le_mul_right P (by omega);have e:(v1*B+B)*P=(v1+1)*(P*B):=by rw[show v1*B+B=(v1+1)*B by rw[Nat.add_mul,Nat.one_mul]];ac_rfl
  rw[Nat.add_mul _ 1 P,Nat.one_mul]at U;omega
 have hp:0<P*B:=Nat.mul_pos (by omega) bC;have:=Nat.lt_of_mul_lt_mul_right (Nat.lt_of_le_of_lt hn J);omega
theorem ahu{B V W v1 v2 P lb nn top o5 ij gP:Nat}(g2:V=(v1*B+v2)*P+lb)(xa:lb<P)(kX:v2<B)(bC:0<B)(gr:W=(top*B+gP)*P+nn)(aX:top=ij*B+o5)(h:W<V*B):ij<=v1:=by
 have J:V<=(v1+1)*(P*B):=by
  have U:(v1*B+v2+1)*P<=(v1*B+B)*P:=Nat.mul_le_mul_right P (by omega);have e:(v1*B+B)*P=(v1+1)*(P*B):=by rw[show v1*B+B=(v1+1)*B by rw[Nat.add_mul,Nat.one_mul]];ac_rfl
  rw[Nat.add_mul _ 1 P,Nat.one_mul]at U;omega
 have ah:ij*(P*B*B)<=W:=by
  have:(ij*B*B)*P<=(top*B+gP)*P:=Nat.mul_le_mul_right P (by
   rw[aX,Nat.add_mul];omega)
  have e:ij*B*B*P=ij*(P*B*B):=by ac_rfl
  omega
 have aC:V*B<=(v1+1)*(P*B*B):=by
  have:=Nat.mul_le_mul_right B J;rw[Nat.mul_assoc]at this;exact this
 have:=Nat.lt_of_mul_lt_mul_right (Nat.lt_of_le_of_lt ah (Nat.lt_of_lt_of_le h aC));omega
theorem ahq{W V g:Nat}(g2:0<V)(J:W/V<=g)(U:g*V<=W+V):(W<g*V->g-1=W/V∧0<g)∧(¬W<g*V->g=W/V):=by
 have ax:=Nat.div_add_mod W V;have hm:=Nat.mod_lt W g2;constructor
 ·intro h;have ah:W/V<g:=(Nat.div_lt_iff_lt_mul g2).2 h;have aC:(g-1)*V<=W:=by
   rw[Nat.sub_mul];omega
  have:=(Nat.le_div_iff_mul_le g2).2 aC;omega
 ·intro h;have:=(Nat.le_div_iff_mul_le g2).2 (show g*V<=W by omega);omega
theorem uC{b n i:Nat}(hb:2<=b):i<(aU b n).length↔n/b^i≠0:=by
 have hp:0<b^i:=Nat.pow_pos (by omega);constructor
 ·intro h e;have:=iM hb (k:=i) (n:=n) (by rcases Nat.div_eq_zero_iff.1 e with h|h<;>omega);omega
 ·intro h;exact zB hb (by
   rcases Nat.lt_or_ge n (b^i)with aL|aL
   ·exact absurd (Nat.div_eq_of_lt aL) h
   ·exact aL)
theorem rf{b:Nat}(hb:2<=b):∀{n i:Nat},i<(aU b n).length->(aU b n)[i]? =some (n/b^i%b)
 |n,i,h=>by
  by_cases h0:n=0
  ·subst h0;rw[fV]at h;simp at h
  ·rw[mo hb h0]at h⊢;cases i with
   |zero=>simp
   |succ i=>
    rw[List.getElem?_cons_succ,rf hb (by simpa using h),Nat.div_div_eq_div_mul,Nat.pow_succ,Nat.mul_comm b]
theorem Yo{b n i:Nat}(hb:2<=b)(h:i<(aU b n).length):(aU b n)[i]=n/b^i%b:=by
 have:=rf hb h;rw[List.getElem?_eq_getElem h]at this;exact Option.some.inj this
def lg(b x y i:Nat):Nat:=(x%b^i+y%b^i)/b^i
theorem XS(b x y:Nat):lg b x y 0=0:=by simp[lg,Nat.mod_one]
theorem Nl{b x y i:Nat}(hb:0<b):(x+y)/b^i=x/b^i+y/b^i+lg b x y i:=by
 have hp:0<b^i:=Nat.pow_pos hb;unfold lg;have aG:=Nat.div_add_mod x (b^i);have e2:=Nat.div_add_mod y (b^i);have:x+y=(x%b^i+y%b^i)+b^i*(x/b^i+y/b^i):=by rw[Nat.mul_add];omega
 rw[this,Nat.add_mul_div_left _ _ hp];omega
theorem XQ{b x y i:Nat}(hb:0<b):lg b x y i<=1:=by
 have hp:0<b^i:=Nat.pow_pos hb;have J:=Nat.mod_lt x hp;have U:=Nat.mod_lt y hp;unfold lg;have:(x%b^i+y%b^i)/b^i<2:=Nat.div_lt_of_lt_mul (by omega);omega
theorem XR{b x y i:Nat}(hb:0<b):lg b x y (i+1)=(lg b x y i+x/b^i%b+y/b^i%b)/b:=by
 have hp:0<b^i:=Nat.pow_pos hb;have e:∀z,z%b^(i+1)=z%b^i+b^i*(z/b^i%b):=fun z=>by
  rw[Nat.pow_succ,Nat.mod_mul]
 unfold lg;rw[e x,e y,Nat.pow_succ,<-Nat.div_div_eq_div_mul];congr 1;rw[show x%b^i+b^i*(x/b^i%b)+(y%b^i+b^i*(y/b^i%b))=(x%b^i+y%b^i)+b^i*(x/b^i%b+y/b^i%b) by rw[Nat.mul_add];omega,Nat.add_mul_div_left _ _ hp];omega
theorem XP{b x y i:Nat}(hb:0<b):(lg b x y i+x/b^i%b+y/b^i%b)%b=(x+y)/b^i%b:=by
 rw[Nl hb];rw[show lg b x y i+x/b^i%b+y/b^i%b=lg b x y i+(x/b^i%b+y/b^i%b) by omega,Nat.add_mod,<-Nat.add_mod (x/b^i),<-Nat.add_mod,Nat.add_comm]
theorem amf{l:List Nat}{i:Nat}(h:i<l.length):l.take (i+1)=l.take i++[l[i]]:=by
 rw[List.take_add_one,List.getElem?_eq_getElem h];rfl
theorem CV{b n k:Nat}(hb:2<=b)(h:(aU b n).length<=k):n<b^k:=by
 have J:=jz (gp hb n);rw[fU hb]at J;exact Nat.lt_of_lt_of_le J (Nat.pow_le_pow_right (by omega) h)
theorem Tv{b n m:Nat}(hb:2<=b)(h:(aU b n).length=m+1):(aU b n)[m]? =some (n/b^m):=by
 rw[rf hb (by omega),Nat.mod_eq_of_lt];have:=CV hb (Nat.le_of_eq h);rw[Nat.pow_succ]at this;exact Nat.div_lt_of_lt_mul this
theorem ami{b n m:Nat}(hb:2<=b)(h:m+1<(aU b n).length)(bO:n<b^(m+2)):
 (aU b n)[m]? =some (n/b^m%b)∧(aU b n)[m+1]? =some (n/b^(m+1))∧n/b^m%b+b*(n/b^(m+1))=n/b^m:=by
 refine⟨rf hb (by omega),?_,?_⟩
 ·rw[rf hb h,Nat.mod_eq_of_lt];rw[show m+2=(m+1)+1 from rfl,Nat.pow_succ]at bO;exact Nat.div_lt_of_lt_mul bO
 ·rw[Nat.pow_succ,<-Nat.div_div_eq_div_mul];exact Nat.mod_add_div _ _
theorem N9{a b:Nat}(a2:a%2=0)(h:Nat.gcd a b%2=1):Nat.gcd (a/2) b=Nat.gcd a b:=by
 obtain⟨c,rfl⟩:∃c,a=2*c:=⟨a/2,by omega⟩;have hb:b%2=1:=by
  rcases Nat.mod_two_eq_zero_or_one b with h0|h0
  ·have:2∣Nat.gcd (2*c) b:=Nat.dvd_gcd ⟨c,rfl⟩ (Nat.dvd_of_mod_eq_zero h0);omega
  ·exact h0
 have hc:Nat.Coprime 2 b:=by
  show Nat.gcd 2 b=1;rw[Nat.gcd_rec,hb];exact Nat.gcd_one_left 2
 rw[Nat.mul_div_cancel_left _ (by decide)];exact(Nat.Coprime.gcd_mul_left_cancel c hc).symm
theorem ZB{a b:Nat}(hb:b%2=0)(h:Nat.gcd a b%2=1):Nat.gcd a (b/2)=Nat.gcd a b:=by
 rw[Nat.gcd_comm,N9 hb (by rw[Nat.gcd_comm];exact h),Nat.gcd_comm]
theorem gcd_both{a b:Nat}(a2:a%2=0)(hb:b%2=0):2*Nat.gcd (a/2) (b/2)=Nat.gcd a b:=by
 obtain⟨c,rfl⟩:∃c,a=2*c:=⟨a/2,by omega⟩;obtain⟨d,rfl⟩:∃d,b=2*d:=⟨b/2,by omega⟩;rw[Nat.mul_div_cancel_left _ (by decide),Nat.mul_div_cancel_left _ (by decide),Nat.gcd_mul_left]
theorem Oa{a b:Nat}(h:b<=a):Nat.gcd (a-b) b=Nat.gcd a b:=by
 conv=>rhs;rw[show a=(a-b)+b by omega]
 simp
theorem Ob{a b:Nat}(h:¬(a%2=0∧b%2=0)):Nat.gcd a b%2=1:=by
 rcases Nat.mod_two_eq_zero_or_one (Nat.gcd a b)with h0|h0
 ·have J:2∣Nat.gcd a b:=Nat.dvd_of_mod_eq_zero h0;have U:=Nat.dvd_trans J (Nat.gcd_dvd_left a b);have ah:=Nat.dvd_trans J (Nat.gcd_dvd_right a b);exact absurd ⟨Nat.mod_eq_zero_of_dvd U,Nat.mod_eq_zero_of_dvd ah⟩ h
 ·exact h0
def dec(n:Nat):List Nat:=if n=0 then[0]else(aU 10 n).reverse
def gl(l:List Nat):List UInt8:=l.map fun d=>UInt8.ofNat (48+d)
theorem Ct(l m:List Nat):gl (l++m)=gl l++gl m:=by unfold gl;rw[List.map_append]
theorem q2(l:List Nat):(gl l).length=l.length:=by unfold gl;rw[List.length_map]
def hE(k n:Nat):List Nat:=(List.range k).map fun j=>n/10^j%10
theorem PW(k n:Nat):hE (k+1) n=hE k n++[n/10^k%10]:=by unfold hE;rw[List.range_succ,List.map_append];rfl
theorem vr(k n:Nat):(hE k n).length=k:=by unfold hE;rw[List.length_map,List.length_range]
theorem PV(k n:Nat):cY 10 (hE k n):=fun d ax=>by
 unfold hE at ax;obtain⟨j,_,rfl⟩:=List.mem_map.1 ax;exact Nat.mod_lt _ (by decide)
theorem PX(k n:Nat):val 10 (hE k n)=n%10^k:=by
 induction k with
 |zero=>rw[Nat.pow_zero,Nat.mod_one];rfl
 |succ k bb=>rw[PW,k8,bb,vr,Nat.mod_pow_succ];rfl
theorem aiC{b:Nat}{l m:List Nat}(h:cY b l)(aL:cY b m):cY b (l++m):=fun d ax=>(List.mem_append.1 ax).elim (h d) (aL d)
theorem zP(l:List Nat):cY 10 (l.flatMap (hE 9)):=fun d ax=>by
 obtain⟨x,_,h⟩:=List.mem_flatMap.1 ax;exact PV 9 x d h
theorem NZ:∀{l:List Nat},cY 1000000000 l->val 10 (l.flatMap (hE 9))=val 1000000000 l
 |[],_=>rfl
 |x::l,h=>by
  rw[List.flatMap_cons,k8,NZ (fun d ax=>h d (List.mem_cons_of_mem _ ax)),PX,vr];have:=h x (by simp);show x%1000000000+1000000000*_=_;rw[Nat.mod_eq_of_lt this];rfl
theorem Nv(n:Nat):cY 10 (dec n):=by
 unfold dec;split
 ·intro d ax;simp at ax;omega
 ·exact fun d ax=>gp (by decide) n d (List.mem_reverse.1 ax)
theorem Yh(n:Nat):dec n≠[]:=by
 unfold dec;split
 ·simp
 ·intro h;exact absurd ((oq (by decide)).1 (List.reverse_eq_nil_iff.1 h)) (by assumption)
theorem Yi(n:Nat):val 10 (dec n).reverse=n:=by
 unfold dec;split
 ·rename_i h;rw[h];rfl
 ·rw[List.reverse_reverse,fU (by decide)]
def Row(l:List Nat):Prop:=l≠[]∧cY 10 l∧(l=[0]∨l.head?≠some 0)
theorem amm{l:List Nat}(h:l.getLast?≠some 0):eN l=l:=by
 rcases List.eq_nil_or_concat l with rfl|⟨c6,d,rfl⟩
 ·rfl
 ·rw[List.concat_eq_append]at *;rw[pY,if_neg (fun e=>h (by simp[e]))]
theorem akh{l:List Nat}(h:Row l):dec (val 10 l.reverse)=l:=by
 obtain⟨J,U,ah⟩:=h;have ok:cY 10 l.reverse:=fun d ax=>U d (List.mem_reverse.1 ax);rcases ah with rfl|ah
 ·rfl
 ·have aX:eN l.reverse=l.reverse:=amm (by rw[List.getLast?_reverse];exact ah);have ax:=wV (b:=10) (by decide) ok aX;unfold dec;split
  ·rename_i h0;rw[h0,fV]at ax;exact absurd (List.reverse_eq_nil_iff.1 ax.symm) J
  ·rw[ax,List.reverse_reverse]
def lT(s:List UInt8):List Nat:=s.map fun c=>c.toNat-48
def b8(s:List UInt8):Nat:=val 10 (lT s).reverse
def iq(s:List UInt8):Prop:=∀c∈s,48<=c.toNat∧c.toNat<=57
instance(s:List UInt8):Decidable (iq s):=by unfold iq;infer_instance
def g6(s:List UInt8):Prop:=s≠[]∧iq s∧(s=[48]∨s.head?≠some 48)
instance(s:List UInt8):Decidable (g6 s):=by unfold g6;infer_instance
theorem VC{s:List UInt8}(h:iq s):gl (lT s)=s:=by
 unfold gl lT;rw[List.map_map]
 conv=>rhs;rw[<-List.map_id s]
 refine List.map_congr_left fun c hc=> ?_;have:=h c hc;show UInt8.ofNat (48+(c.toNat-48))=c;rw[show 48+(c.toNat-48)=c.toNat by omega,UInt8.ofNat_toNat]
theorem CX{d:Nat}(h:d<10):(UInt8.ofNat (48+d)).toNat=48+d:=by
 rw[UInt8.toNat_ofNat'];omega
theorem Yu{l:List Nat}(h:cY 10 l):lT (gl l)=l:=by
 unfold gl lT;rw[List.map_map]
 conv=>rhs;rw[<-List.map_id l]
 refine List.map_congr_left fun d ax=> ?_;have:=h d ax;show(UInt8.ofNat (48+d)).toNat-48=d;rw[CX this];omega
theorem VB{l:List Nat}(h:cY 10 l):iq (gl l):=fun c hc=>by
 unfold gl at hc;obtain⟨d,ax,rfl⟩:=List.mem_map.1 hc;have:=h d ax;rw[CX this];omega
theorem ND{s:List UInt8}(h:iq s):cY 10 (lT s):=fun d ax=>by
 unfold lT at ax;obtain⟨c,hc,rfl⟩:=List.mem_map.1 ax;have:=h c hc;omega
theorem VV{s:List UInt8}(h:g6 s):Row (lT s):=by
 obtain⟨J,U,ah⟩:=h;refine⟨fun e=>J (List.map_eq_nil_iff.1 e),ND U,?_⟩;rcases ah with rfl|ah
 ·left;rfl
 ·right;cases s with
  |nil=>exact absurd rfl J
  |cons c s=>
   have hc:=U c (by simp);simp only[lT,List.map_cons,List.head?_cons,ne_eq,Option.some.injEq]at ah⊢;intro e;exact ah (UInt8.toNat_inj.1 (by show c.toNat=48;omega))
def dU(n:Nat):List UInt8:=gl (dec n)
theorem zA{s:List UInt8}(h:g6 s):dU (b8 s)=s:=by
 unfold dU b8;rw[akh (VV h),VC h.2.1]
theorem ajY(n:Nat):b8 (dU n)=n:=by
 unfold dU b8;rw[Yu (Nv n),Yi]
theorem Yf(n:Nat):iq (dU n):=VB (Nv n)
theorem uw(n:Nat):dU n≠[]:=fun h=>Yh n (List.map_eq_nil_iff.1 h)
theorem Qs{s:List UInt8}(h:iq s):(47:UInt8)∉s:=fun hm=>by have:=h _ hm;simp at this
def cutAt:List UInt8->List UInt8×Option (List UInt8)
 |[]=>([],none)
 |c::s=>if c=47 then([],some s)else(c::(cutAt s).1,(cutAt s).2)
theorem CN:∀{s p q:List UInt8},(47:UInt8)∉p->s=p++47::q->cutAt s=(p,some q)
 |_,[],q,_,rfl=>rfl
 |_,c::p,q,h,rfl=>by
  have hc:c≠47:=fun e=>h (by simp[e]);have:=CN (s:=p++47::q) (p:=p) (q:=q) (fun hm=>h (List.mem_cons_of_mem _ hm)) rfl;show(if c=47 then _ else(c::(cutAt (p++47::q)).1,(cutAt (p++47::q)).2))=_;rw[if_neg hc,this]
theorem No:∀{s:List UInt8},(47:UInt8)∉s->cutAt s=(s,none)
 |[],_=>rfl
 |c::s,h=>by
  have hc:c≠47:=fun e=>h (by simp[e]);show(if c=47 then _ else _)=_;rw[if_neg hc,No (fun hm=>h (List.mem_cons_of_mem _ hm))]
theorem Nn(s:List UInt8):(47:UInt8)∉(cutAt s).1∧(∀q,(cutAt s).2=some q->s=(cutAt s).1++47::q)∧((cutAt s).2=none->s=(cutAt s).1):=by
 induction s with
 |nil=>exact⟨by simp[cutAt],fun q h=>by simp[cutAt]at h,fun _=>rfl⟩
 |cons c s bb=>
  by_cases hc:c=47
  ·subst hc;refine⟨by simp[cutAt],fun q h=> ?_,fun h=>by simp[cutAt]at h⟩;simp[cutAt]at h;subst h;rfl
  ·have e:cutAt (c::s)=(c::(cutAt s).1,(cutAt s).2):=if_neg hc;obtain⟨J,U,ah⟩:=bb;rw[e];refine⟨fun hm=>(List.mem_cons.1 hm).elim (fun e=>hc e.symm) J,fun q h=> ?_,fun h=> ?_⟩
   ·show c::s=c::((cutAt s).1++47::q);rw[<-U q h]
   ·show c::s=c::(cutAt s).1;rw[<-ah h]
def dX(s:List UInt8):Bool×List UInt8:=match s with
 |[]=>(false,[])
 |c::t=>if c=45 then(true,t)else(false,c::t)
def hN(n:Bool)(p:Nat):Int:=if n then -(p:Int)else p
def l5(s:List UInt8):Option Rat:=
 if g6 (cutAt (dX s).2).1∧¬((dX s).1=true∧(cutAt (dX s).2).1=[48])then match(cutAt (dX s).2).2 with
  |none=>some (mkRat (hN (dX s).1 (b8 (cutAt (dX s).2).1)) 1)
  |some q=>if g6 q∧q≠[48]∧q≠[49]∧Nat.gcd (b8 (cutAt (dX s).2).1) (b8 q)=1 then some (mkRat (hN (dX s).1 (b8 (cutAt (dX s).2).1)) (b8 q))else none
 else none
def iV(x:Rat):List UInt8:=(if x.num<0 then[45]else[])++dU x.num.natAbs++(if x.den=1 then[]else 47::dU x.den)
theorem wI{s:List UInt8}(h:g6 s)(h0:b8 s=0):s=[48]:=by rw[<-zA h,h0];rfl
theorem MZ{s:List UInt8}(h:g6 s)(h0:b8 s=1):s=[49]:=by
 rw[<-zA h,h0];show gl (dec 1)=_;unfold dec;rw[if_neg (by decide),mo (by decide) (by decide),show 1/10=0 from rfl,fV];rfl
theorem Jn(n:Int)(d:Nat)(h:d≠0):(mkRat n d).num=n/((n.natAbs.gcd d:Nat):Int)∧(mkRat n d).den=d/n.natAbs.gcd d:=by
 rw[<-Rat.normalize_eq_mkRat h,Rat.normalize_eq h];exact⟨rfl,rfl⟩
theorem sd(n:Bool)(p:Nat):(hN n p).natAbs=p:=by cases n<;>simp[hN]
theorem Us{n:Bool}{p q:Nat}(hn:n=true->p≠0)(hq:q≠0)(aZ:Nat.gcd p q=1):iV (mkRat (hN n p) q)=(if n=true then[45]else[])++dU p++(if q=1 then[]else 47::dU q):=by
 obtain⟨J,U⟩:=Jn (hN n p) q hq;rw[sd,aZ]at J U;unfold iV;rw[J,U,Nat.div_one];have:(hN n p/((1:Nat):Int))=hN n p:=Int.ediv_one _;rw[this,sd];congr 2;cases n
 ·rw[if_neg (by simp[hN]),if_neg (by decide)]
 ·have:=hn rfl;rw[if_pos (by simp[hN];omega),if_pos rfl]
theorem X0{u wc v v':List UInt8}(h:(47:UInt8)∉u)(aL:(47:UInt8)∉wc)(e:u++47::v=wc++47::v'):v=v':=by
 have:=CN (q:=v) h rfl;rw[e,CN (q:=v') aL rfl]at this;simpa using(congrArg Prod.snd this).symm
theorem amr{n:Bool}{p q:List UInt8}(hp:g6 p)(hq:g6 q)(hn:¬(n=true∧p=[48]))(h0:q≠[48])(J:q≠[49]):
 iV (mkRat (hN n (b8 p)) (b8 q))=(if n=true then[45]else[])++p++47::q↔Nat.gcd (b8 p) (b8 q)=1:=by
 have h5:b8 q≠0:=fun e=>h0 (wI hq e);have dW:b8 q≠1:=fun e=>J (MZ hq e);have cD:(47:UInt8)∉(if n=true then[45]else[])++p:=fun hm=>by
  rcases List.mem_append.1 hm with h|h
  ·cases n<;>simp at h
  ·exact Qs hp.2.1 h
 constructor
 ·intro h;obtain⟨U,ah⟩:=Jn (hN n (b8 p)) (b8 q) h5;rw[sd]at ah;have QB:∀(b:Prop) [Decidable b] (k:Nat),(47:UInt8)∉(if b then[45]else[])++dU k:=fun b _ k hm=>by
   rcases List.mem_append.1 hm with h|h
   ·split at h<;>simp at h
   ·exact Qs (Yf k) h
  unfold iV at h;by_cases ax:(mkRat (hN n (b8 p)) (b8 q)).den=1
  ·rw[if_pos ax,List.append_nil]at h;exact absurd (h▸QB _ _) (by simp)
  ·rw[if_neg ax]at h;have e:=X0 (QB _ _) cD h;have e2:(mkRat (hN n (b8 p)) (b8 q)).den=b8 q:=by rw[<-ajY (mkRat _ _).den,e]
   rw[ah]at e2;have aZ:0<Nat.gcd (b8 p) (b8 q):=Nat.gcd_pos_of_pos_right _ (by omega);refine Nat.le_antisymm (Nat.le_of_not_lt fun h=> ?_) aZ;have:=Nat.div_lt_self (Nat.pos_of_ne_zero h5) h;omega
 ·intro aZ;rw[Us (fun h e=>hn ⟨h,wI hp e⟩) h5 aZ,if_neg dW,zA hp,zA hq]
theorem ams{n:Bool}{p:List UInt8}(hp:g6 p)(hn:¬(n=true∧p=[48])):iV (mkRat (hN n (b8 p)) 1)=(if n=true then[45]else[])++p:=by
 rw[Us (fun h e=>hn ⟨h,wI hp e⟩) (by decide) (Nat.gcd_one_right _),if_pos rfl,List.append_nil,zA hp]
