/- a part of the proof -/
import Derived.Test.YtkfdniccmcolgaaGreatQba
set_option linter.all false
set_option maxHeartbeats 4000000
set_option maxRecDepth 10000
namespace Go.Va
def GT(q r w2 v2:Nat):Bool:=decide (65536≤q)||decide (r*65536+w2<q*v2)
def Fk(v1 w2 v2:Nat):Nat→Nat→Nat→Nat×Nat
 |0,q,r=>(q,r)
 |k+1,q,r=>if r<65536∧GT q r w2 v2=true then Fk v1 w2 v2 k (q - 1) (r+v1) else (q,r)
section
variable {W V high v1 v2 w2 low vlow p:Nat}
theorem PT(hW:W=high*(65536*p)+w2*p+low)(hV:V=v1*(65536*p)+v2*p+vlow)(hl:low<p)(hw:w2<65536)(h1:0<v1):W/V≤high/v1:=by
 rw[Nat.le_div_iff_mul_le h1]
 have h2:W/V*V≤W:=Nat.div_mul_le_self W V;generalize W/V=Q at*;have h3:Q*(v1*(65536*p))≤Q*V:=Nat.mul_le_mul_left _ (by omega)
 have h4:W<(high+1)*(65536*p):=by
  rw[hW,Nat.add_mul,Nat.one_mul]
  have:w2*p≤65535*p:=Bl _ (by omega)
  omega
 have h5:Q*v1*(65536*p)<(high+1)*(65536*p):=by rw[Nat.mul_assoc];omega
 have:=Nat.lt_of_mul_lt_mul_right h5
 omega
theorem jev(hW:W=high*(65536*p)+w2*p+low)(hV:V=v1*(65536*p)+v2*p+vlow)(hl:low<p)(hQ:W<65536*V)(hV0:0<V){q r:Nat}(hqr:q*v1+r=high)(hg:GT q r w2 v2=true):W/V<q:=by
 rw[Nat.div_lt_iff_lt_mul hV0]
 unfold GT at hg;simp only[Bool.or_eq_true,decide_eq_true_eq]at hg;rcases hg with hg|hg
 ·exact Nat.lt_of_lt_of_le hQ (Bl _ hg)
 ·have h1:q*V=q*v1*(65536*p)+q*v2*p+q*vlow:=by
   rw[hV,Nat.mul_add,Nat.mul_add,←Nat.mul_assoc q v1,←Nat.mul_assoc q v2]
  have h2:(r*65536+w2+1)*p≤q*v2*p:=Bl _ hg;have h3:high*(65536*p)=q*v1*(65536*p)+r*(65536*p):=by rw[←hqr,Nat.add_mul]
  have h4:(r*65536+w2+1)*p=r*(65536*p)+w2*p+p:=by rw[Nat.add_mul,Nat.add_mul,Nat.one_mul,Nat.mul_assoc]
  rw[h1,hW,h3]
  have:=Nat.zero_le (q*vlow)
  omega
theorem jfU(hW:W=high*(65536*p)+w2*p+low)(hV:V=v1*(65536*p)+v2*p+vlow)(hl:vlow<p)(hv2:v2<65536)(hV0:0<V)(h1:0<v1){q r:Nat}(hqr:q*v1+r=high)(hq:q≤65537)(hg:65536≤r∨GT q r w2 v2=false):q≤W/V+1:=by
 rcases Nat.eq_zero_or_pos q with h0|h0
 ·rw[h0];exact Nat.zero_le _
 have key:q*V≤W+V:=by
  have e1:q*V=q*v1*(65536*p)+q*v2*p+q*vlow:=by
   rw[hV,Nat.mul_add,Nat.mul_add,←Nat.mul_assoc q v1,←Nat.mul_assoc q v2]
  have e3:high*(65536*p)=q*v1*(65536*p)+r*(65536*p):=by rw[←hqr,Nat.add_mul]
  have hVp:65536*p≤V:=by
   have:1*(65536*p)≤v1*(65536*p):=Bl _ h1
   omega
  rcases hg with hg|hg
  ·have h5:65536*(65536*p)≤r*(65536*p):=Bl _ hg;have h6:q*v2*p+q*vlow≤65537*(65536*p):=by
    have a1:v2*p+vlow≤65536*p:=by
     have:v2*p≤65535*p:=Bl _ (by omega)
     omega
    have a2:q*(v2*p+vlow)≤65537*(65536*p):=Nat.mul_le_mul hq a1;rw[Nat.mul_add,←Nat.mul_assoc]at a2;exact a2
   omega
  ·unfold GT at hg;simp only[Bool.or_eq_false_iff,decide_eq_false_iff_not]at hg;have h5:q*v2*p≤(r*65536+w2)*p:=Bl _ (by omega)
   have h4:(r*65536+w2)*p=r*(65536*p)+w2*p:=by rw[Nat.add_mul,Nat.mul_assoc]
   have h6:q*vlow≤65536*p:=Nat.mul_le_mul (by omega) (by omega)
   omega
 have:(q - 1)*V≤W:=by
  rw[Nat.sub_mul,Nat.one_mul]
  omega
 have:=(Nat.le_div_iff_mul_le hV0).2 this
 omega
theorem Oq(hW:W=high*(65536*p)+w2*p+low)(hV:V=v1*(65536*p)+v2*p+vlow)(hl:low<p)(hvl:vlow<p)(hv2:v2<65536)(hQ:W<65536*V)(hV0:0<V)(h1:0<v1):
  ∀(k q r:Nat),q*v1+r=high→q≤65537→W/V≤q→q<k→W/V≤(Fk v1 w2 v2 k q r).1∧(Fk v1 w2 v2 k q r).1≤W/V+1
 |0,q,r,_,_,_,hk=>by omega
 |k+1,q,r,hqr,hq,hge,hk=>by
  unfold Fk;split
  ·rename_i hc
   have hgt:=jev hW hV hl hQ hV0 hqr hc.2;have h00:=Nat.zero_le (W/V);refine Oq hW hV hl hvl hv2 hQ hV0 h1 k (q - 1) (r+v1) ?_ (by omega) (by omega) (by omega)
   have:q*v1=(q - 1)*v1+v1:=by
    rw[Nat.sub_mul,Nat.one_mul]
    have:1*v1≤q*v1:=Bl _ (by omega)
    omega
   omega
  ·rename_i hc
   refine⟨hge,jfU hW hV hvl hv2 hV0 h1 hqr hq ?_⟩
   rcases Nat.lt_or_ge r 65536 with hr|hr
   ·right
    rw[Bool.eq_false_iff]
    exact fun h=>hc ⟨hr,h⟩
   ·exact .inl hr
theorem Pf(hW:W=high*(65536*p)+w2*p+low)(hV:V=v1*(65536*p)+v2*p+vlow)(hvl:vlow<p)(hv2:v2<65536)(hQ:W<65536*V)(hn:32768≤v1)(hp:0<p):high/v1≤65537:=by
 have h1:V<(v1+1)*(65536*p):=by
  rw[hV,Nat.add_mul,Nat.one_mul]
  have:v2*p≤65535*p:=Bl _ (by omega)
  omega
 have h2:high*(65536*p)<65536*(v1+1)*(65536*p):=by
  have:65536*V≤65536*((v1+1)*(65536*p)):=Nat.mul_le_mul_left _ (by omega)
  rw[Nat.mul_assoc]
  omega
 have h3:=Nat.lt_of_mul_lt_mul_right h2;have h4:high/v1<65538:=by
  rw[Nat.div_lt_iff_lt_mul (by omega)]
  omega
 omega
end
theorem ZS{q:Nat}(hq:q≤65536){w v:List Nat}(hw:Ok w)(hv:Ok v)(hl:w.length=v.length+1):(subL q w v 0 0).2.2=0:=by
 obtain⟨u,x,rfl⟩: ∃u x,w=u++[x]:=by
  rcases List.eq_nil_or_concat w with rfl|⟨l,x,rfl⟩
  ·simp at hl
  ·exact⟨l,x,by simp⟩
 have hlu:u.length=v.length:=by simpa using hl
 have hu:Ok u:=fun y hy=>hw y (by simp[hy])
 have h:=Iw hq u v 0 0 hu hv (by omega) (by omega) (by omega)
 rw[N0]
 have e:v.getD u.length 0=0:=by rw[Ar,BG (by omega)];rfl
 rw[e]
 unfold subS;simp only[Nat.mul_zero,Nat.add_zero];have:=h.2.2.1;split<;>(simp only;omega)
def Fu(w v:List Nat)(q:Nat):Nat×List Nat:=
 if 0<(subL q w v 0 0).2.1 then (q - 1,(addL (subL q w v 0 0).1 v 0).1) else (q,(subL q w v 0 0).1)
theorem Yh{w v:List Nat}(hw:Ok w)(hv:Ok v)(hl:w.length=v.length+1)(hV0:0<val v)(hQ:val w<65536*val v){q:Nat}(h1:val w/val v≤q)(h2:q≤val w/val v+1):
  (Fu w v q).1=val w/val v∧val (Fu w v q).2=val w%val v∧Ok (Fu w v q).2∧(Fu w v q).2.length=w.length:=by
 have hq:q≤65536:=by
  have:val w/val v<65536:=by rw[Nat.div_lt_iff_lt_mul hV0];exact hQ
  omega
 have hc:=ZS hq hw hv hl;obtain⟨s1,s2,s3,s4⟩:=Iw hq w v 0 0 hw hv (by omega) (by omega) (by omega)
 have sl:=FH q w v 0 0;rw[hc]at s4;have hm:=Nat.div_add_mod (val w) (val v);have hlt:=Nat.mod_lt (val w) hV0;have hvp:=C3 v hv;have hpp:65536^w.length=65536*65536^v.length:=by rw[hl,Nat.pow_succ,Nat.mul_comm]
 have hsp:=C3 _ s1;rw[sl]at hsp;unfold Fu;generalize hS:subL q w v 0 0=S at*;obtain⟨w',b,c⟩:=S;simp only at*;obtain⟨a1,a2,a3⟩:=WS w' v 0 s1 hv (by omega) (by omega)
 have al:=H4 w' v 0;have hap:=C3 _ a1;rw[al,sl,hpp]at hap;rw[sl,hpp]at a3;generalize hQ':val w/val v=Q at*;generalize val w%val v=M at*;have hqc:q=Q∨q=Q+1:=by omega
 rw[hpp]at s4 hsp
 generalize 65536^v.length=P at*;rw[Nat.mul_comm (val v) Q]at hm;rcases hqc with rfl|rfl
 ·have hb:b=0:=by
   have:b=0∨b=1:=by omega
   rcases this with h|h
   ·exact h
   ·subst h;simp only[Int.natCast_mul]at s4;omega
  subst hb;rw[if_neg (by omega)]
  refine⟨rfl,?_,s1,by rw[←sl]⟩
  simp only[Int.natCast_mul]at s4;simp at s4;have:((val w':Nat):Int)=M:=by
   have hm2:(val w:Int)=(q:Int)*(val v:Int)+M:=by exact_mod_cast hm.symm
   omega
  exact_mod_cast this
 ·have hqv:(Q+1)*val v=Q*val v+val v:=by rw[Nat.add_mul,Nat.one_mul]
  rw[hqv]at s4
  have hb:b=1:=by
   have:b=0∨b=1:=by omega
   rcases this with h|h
   ·subst h;simp at s4;omega
   ·exact h
  subst hb;rw[if_pos (by omega)]
  refine⟨by simp only;omega,?_,a1,by simp only;rw[al,sl]⟩
  simp only;simp only[Int.natCast_add,Int.natCast_mul]at s4;have ha:(addL w' v 0).2=0∨(addL w' v 0).2=1:=by omega
  have hm2:(val w:Int)=(Q:Int)*(val v:Int)+M:=by exact_mod_cast hm.symm
  have e3:val w'+val v=M+65536*P:=by
   have:((val w'+val v:Nat):Int)=((M+65536*P:Nat):Int):=by
    simp only[Int.natCast_add,Int.natCast_mul];simp at s4;omega
   exact_mod_cast this
  rcases ha with h|h
  ·rw[h]at a3
   omega
  ·rw[h]at a3
   omega
theorem HD{v:List Nat}{n:Nat}(hl:v.length=n)(hn:2≤n)(hv:Ok v):val v=v.getD (n - 1) 0*(65536*65536^(n - 2))+v.getD (n - 2) 0*65536^(n - 2)+val (v.take (n - 2))∧val (v.take (n - 2))<65536^(n - 2):=by
 have e:v=v.take (n - 2)++[v.getD (n - 2) 0,v.getD (n - 1) 0]:=by
  have h1:v.drop (n - 2)=[v.getD (n - 2) 0,v.getD (n - 1) 0]:=by
   rw[AD (by omega),AD (by omega),B7 (by omega)]
   rw[Ar,Ar,Ai (by omega),Ai (by omega)]
   simp only[Option.getD_some]
   congr 2
   congr 1
   omega
  rw[←h1,List.take_append_drop]
 have hlt:=C3 _ (hv.take (n - 2));rw[AG,AU (by omega)]at hlt
 refine⟨?_,hlt⟩
 conv=>lhs;rw[e]
 rw[DT,AG,AU (by omega)]
 simp only[val];generalize 65536^(n - 2)=p;rw[Nat.mul_add,Nat.mul_comm p (v.getD (n - 2) 0),Nat.mul_zero,Nat.add_zero,Nat.mul_left_comm p,Nat.mul_comm p,←Nat.mul_assoc,Nat.mul_comm 65536,Nat.mul_assoc];omega
theorem MG{w:List Nat}{n:Nat}(hl:w.length=n+1)(hn:2≤n)(hw:Ok w):val w=(w.getD n 0*65536+w.getD (n - 1) 0)*(65536*65536^(n - 2))+w.getD (n - 2) 0*65536^(n - 2)+val (w.take (n - 2))∧val (w.take (n - 2))<65536^(n - 2):=by
 have h:=HD (v:=w) (n:=n+1) hl (by omega) hw
 have h2:=HD (v:=w.take n) (n:=n) (by rw[AG];omega) hn (hw.take n)
 have e:w=w.take n++[w.getD n 0]:=by
  have h1:w.drop n=[w.getD n 0]:=by
   rw[AD (by omega),B7 (by omega)]
   rw[Ar,Ai (by omega)]
   rfl
  rw[←h1,List.take_append_drop]
 have g: ∀i,i<n→(w.take n).getD i 0=w.getD i 0:=fun i hi=>by
  rw[Ar,Ar,List.getElem?_take,if_pos hi]
 rw[g _ (by omega),g _ (by omega),List.take_take,AU (by omega)]at h2
 refine⟨?_,h2.2⟩
 conv=>lhs;rw[e]
 rw[DT,AG,AU (by omega),h2.1]
 simp only[val];have hp:65536^n=65536*(65536*65536^(n - 2)):=by
  have: ∀k,65536^(k+2)=65536*(65536*65536^k):=fun k=>by
   rw[Nat.pow_succ,Nat.pow_succ]
   generalize 65536^k=z;omega
  have h3:=this (n - 2)
  rwa [show n - 2+2=n by omega]at h3
 rw[hp,Nat.add_mul (w.getD n 0*65536),Nat.mul_assoc (w.getD n 0) 65536,Nat.mul_comm (w.getD n 0)]
 simp only[Nat.mul_zero,Nat.add_zero];omega
def DF(w v:List Nat):Nat×List Nat:=
 let n:=v.length
 let high:=w.getD n 0*65536+w.getD (n - 1) 0
 Fu w v (Fk (v.getD (n - 1) 0) (w.getD (n - 2) 0) (v.getD (n - 2) 0) 65538 (high/v.getD (n - 1) 0) (high%v.getD (n - 1) 0)).1
theorem ZK{w v:List Nat}(hw:Ok w)(hv:Ok v)(hl:w.length=v.length+1)(hn:2≤v.length)(h1:32768≤v.getD (v.length - 1) 0)(hQ:val w<65536*val v):
  (DF w v).1=val w/val v∧val (DF w v).2=val w%val v∧Ok (DF w v).2∧(DF w v).2.length=w.length:=by
 obtain⟨eV,lV⟩:=HD rfl hn hv
 obtain⟨eW,lW⟩:=MG hl hn hw
 have hp:0<65536^(v.length - 2):=Nat.pow_pos (by omega)
 have hV0:0<val v:=by
  have:1*(65536*65536^(v.length - 2))≤v.getD (v.length - 1) 0*(65536*65536^(v.length - 2)):=Bl _ (by omega)
  omega
 have hd: ∀(l:List Nat) i,Ok l→l.getD i 0<65536:=fun l i hl=>by
  rcases Nat.lt_or_ge i l.length with hi|hi
  ·rw[Ar,Ai hi];exact hl _ (Ak hi)
  ·rw[Ar,BG hi];simp
 have hw2:=hd w (v.length - 2) hw;have hv2:=hd v (v.length - 2) hv;have g1:=PT eW eV lW hw2 (by omega)
 have g2:=Pf eW eV lV hv2 hQ h1 hp;have hqr:(w.getD v.length 0*65536+w.getD (v.length - 1) 0)/v.getD (v.length - 1) 0*v.getD (v.length - 1) 0+(w.getD v.length 0*65536+w.getD (v.length - 1) 0)%v.getD (v.length - 1) 0=w.getD v.length 0*65536+w.getD (v.length - 1) 0:=by
  rw[Nat.mul_comm]
  exact Nat.div_add_mod _ _
 have a:=Oq eW eV lW lV hv2 hQ hV0 (by omega) 65538 _ _ hqr g2 g1 (by omega)
 exact Yh hw hv hl hV0 hQ a.1 a.2
def C0(u v:List Nat):Nat→List Nat×List Nat
 |0=>(u,List.replicate (u.length - v.length) 0)
 |k+1=>(splice (u.length - v.length - 1 - k) (DF (Ay (u.length - v.length - 1 - k) (v.length+1) (C0 u v k).1) v).2 (C0 u v k).1,(C0 u v k).2.set (u.length - v.length - 1 - k) (DF (Ay (u.length - v.length - 1 - k) (v.length+1) (C0 u v k).1) v).1)
structure StL (u v:List Nat) (k:Nat) (U O:List Nat):Prop where
 ou:Ok U
 lu:U.length=u.length
 oo:Ok O
 lo:O.length=u.length - v.length
 eq:val u=val O*val v+val U
 lt:val (U.drop (u.length - v.length - k))<val v
 zero: ∀i,i<u.length - v.length - k→O.getD i 0=0
theorem WE: ∀(l:List Nat) (i x:Nat),i<l.length→l.getD i 0=0→val (l.set i x)=val l+x*65536^i
 |[],i,x,h,_=>by simp at h
 |a::l,0,x,_,h0=>by
  simp at h0;subst h0;simp[val];omega
 |a::l,i+1,x,h,h0=>by
  have ih:=WE l i x (by simpa using h) (by simpa using h0)
  rw[List.set_cons_succ,val,val,ih,Nat.pow_succ,Nat.mul_add,Nat.mul_comm (65536^i),Nat.mul_left_comm x]
  omega
theorem jcW{l:List Nat}(h:Ok l)(i x:Nat)(hx:x<65536):Ok (l.set i x):=fun y hy=>by
 rcases List.mem_or_eq_of_mem_set hy with h1|h1
 ·exact h y h1
 ·rw[h1];exact hx
theorem O5{a b:List Nat}(ha:Ok a)(hb:Ok b):Ok (a++b):=fun y hy=>by
 rcases List.mem_append.1 hy with h|h
 ·exact ha y h
 ·exact hb y h
theorem Wx{u v:List Nat}(hv:Ok v)(hn:2≤v.length)(h1:32768≤v.getD (v.length - 1) 0){k:Nat}(hk:k<u.length - v.length){U O:List Nat}(h:StL u v k U O):
  let j:=u.length - v.length - 1 - k
  let r:=DF (Ay j (v.length+1) U) v
  StL u v (k+1) (splice j r.2 U) (O.set j r.1)∧val (Ay j (v.length+1) U)<65536*val v∧(Ay j (v.length+1) U).length=v.length+1∧Ok (Ay j (v.length+1) U)∧r.1<65536:=by
 intro j r;have hj:j=u.length - v.length - 1 - k:=rfl;have hlen:=h.lu;generalize hw:Ay j (v.length+1) U=w at*;have hr:r=DF w v:=by rw[←hw]
 have wl:w.length=v.length+1:=by
  rw[←hw]
  unfold Ay;rw[AG,List.length_drop];omega
 have ow:Ok w:=by
  rw[←hw]
  exact fun y hy=>h.ou y (List.mem_of_mem_drop (List.mem_of_mem_take hy))
 have eU:U=U.take j++(w++U.drop (j+v.length+1)):=by
  rw[←hw]
  unfold Ay;have e1:(U.drop j).drop (v.length+1)=U.drop (j+v.length+1):=by rw[List.drop_drop];rfl
  rw[←e1,List.take_append_drop,List.take_append_drop]
 have lA:(U.take j).length=j:=by rw[AG];omega
 have hlt:=h.lt;rw[show u.length - v.length - k=j+1 by omega]at hlt
 have eD:U.drop (j+1)=w.tail++U.drop (j+v.length+1):=by
  conv=>lhs;rw[eU]
  rw[List.drop_append,lA,B7 (by omega:(U.take j).length≤j+1),show j+1 - j=1 by omega]
  cases w with
  |nil=>simp at wl
  |cons a w=>simp
 have tl:w.tail.length=v.length:=by rw[List.length_tail];omega
 rw[eD,DT,tl]at hlt
 have hvp:=C3 v hv;have hC:val (U.drop (j+v.length+1))=0:=by
  rcases Nat.eq_zero_or_pos (val (U.drop (j+v.length+1)))with h0|h0
  ·exact h0
  ·have:65536^v.length*1≤65536^v.length*val (U.drop (j+v.length+1)):=Nat.mul_le_mul_left _ h0
   omega
 rw[hC,Nat.mul_zero,Nat.add_zero]at hlt
 have hQ:val w<65536*val v:=by
  have:=K3 w
  have h0:=Mh ow;omega
 obtain⟨d1,d2,d3,d4⟩:=ZK ow hv wl hn h1 hQ
 rw[←hr]at d1 d2 d3 d4
 have hV0:0<val v:=by omega
 have hq:r.1<65536:=by rw[d1,Nat.div_lt_iff_lt_mul hV0];exact hQ
 have eS:splice j r.2 U=U.take j++(r.2++U.drop (j+v.length+1)):=by
  unfold splice;rw[d4,wl,List.append_assoc];rfl
 have hdm:=Nat.div_add_mod (val w) (val v);rw[←d1,←d2]at hdm;have vU:val U=val (U.take j)+65536^j*val w:=by
  conv=>lhs;rw[eU]
  rw[DT,lA,DT,hC,Nat.mul_zero,Nat.add_zero]
 have vS:val (splice j r.2 U)=val (U.take j)+65536^j*val r.2:=by
  rw[eS,DT,lA,DT,hC,Nat.mul_zero,Nat.add_zero]
 have hz:=h.zero j (by omega)
 have hjO:j<O.length:=by rw[h.lo];omega
 have vO:=WE O j r.1 hjO hz;refine⟨⟨?_,?_,jcW h.oo _ _ hq,by rw[List.length_set];exact h.lo,?_,?_,fun i hi=> ?_⟩,hQ,wl,ow,hq⟩
 ·rw[eS]
  exact O5 (h.ou.take j) (O5 d3 fun y hy=>h.ou y (List.mem_of_mem_drop hy))
 ·rw[eS,List.length_append,List.length_append,lA,d4,wl,List.length_drop]
  omega
 ·rw[h.eq,vU,vS,vO,←hdm,Nat.add_mul,Nat.mul_add]
  have:65536^j*(val v*r.1)=r.1*65536^j*val v:=by
   rw[Nat.mul_comm (val v),←Nat.mul_assoc,Nat.mul_comm (65536^j)]
  omega
 ·rw[show u.length - v.length - (k+1)=j by omega,eS]
  rw[List.drop_append,lA,B7 (by omega:(U.take j).length≤j),Nat.sub_self,List.nil_append,List.drop_zero,DT,hC,Nat.mul_zero,Nat.add_zero,d2]
  exact Nat.mod_lt _ hV0
 ·rw[Ar,List.getElem?_set_ne (by omega),←Ar]
  exact h.zero i (by omega)
theorem G6{u v:List Nat}(hu:Ok u)(hv:Ok v)(hn:2≤v.length)(h1:32768≤v.getD (v.length - 1) 0)(hl:v.length<u.length)(ht:val (u.drop (u.length - v.length))<val v): ∀k,k≤u.length - v.length→StL u v k (C0 u v k).1 (C0 u v k).2
 |0,_=>by
  have hz:val (List.replicate (u.length - v.length) 0)=0:=by
   generalize u.length - v.length=m
   induction m with
   |zero=>rfl
   |succ m ih=>rw[List.replicate_succ,val,ih]
  refine⟨hu,rfl,fun y hy=> ?_,by simp[C0],?_,by simpa [C0]using ht,fun i hi=> ?_⟩
  ·have:=List.eq_of_mem_replicate hy
   omega
  ·show val u=val (List.replicate (u.length - v.length) 0)*val v+val u
   rw[hz];omega
  ·show(List.replicate (u.length - v.length) 0).getD i 0=0
   rw[Ar,List.getElem?_replicate]
   split<;>rfl
 |k+1,hk=>(Wx hv hn h1 (by omega) (G6 hu hv hn h1 hl ht k (by omega))).1
theorem Pg{u v:List Nat}(hu:Ok u)(hv:Ok v)(hn:2≤v.length)(h1:32768≤v.getD (v.length - 1) 0)(hl:v.length<u.length)(ht:val (u.drop (u.length - v.length))<val v):
  val (C0 u v (u.length - v.length)).2=val u/val v∧val (C0 u v (u.length - v.length)).1=val u%val v:=by
 have h:=G6 hu hv hn h1 hl ht _ (AA _);generalize (C0 u v (u.length - v.length)).1=U at*;generalize (C0 u v (u.length - v.length)).2=O at*;have hlt:=h.lt;rw[Nat.sub_self,List.drop_zero]at hlt;rw[h.eq];have hV:0<val v:=by omega
 constructor
 ·rw[Nat.mul_comm,Nat.mul_add_div hV,Nat.div_eq_of_lt hlt,Nat.add_zero]
 ·rw[Nat.mul_comm,Nat.mul_add_mod,AH hlt]
end Go.Va
