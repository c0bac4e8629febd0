/- a part of the proof -/
import Derived.Test.YtlgoebgnbkhmmaaGreatDoorZaq
set_option linter.all false
set_option maxHeartbeats 4000000
set_option maxRecDepth 10000
namespace Go.Va
def Cs(u v:List Nat):Nat→List Nat×List Nat
 |0=>(u,List.replicate (u.length - v.length) 0)
 |k+1=>(splice (u.length - v.length - 1 - k) (CT (AP (u.length - v.length - 1 - k) (v.length+1) (Cs u v k).1) v).2 (Cs u v k).1,(Cs u v k).2.set (u.length - v.length - 1 - k) (CT (AP (u.length - v.length - 1 - k) (v.length+1) (Cs u v k).1) v).1)
structure StL (u v:List Nat) (k:Nat) (U O:List Nat):Prop where
 ou:Ok U
 lu:U.length=u.length
 oo:Ok O
 lo:O.length=u.length - v.length
 eq:val u=val O*val v+val U
 lt:val (U.drop (u.length - v.length - k))<val v
 zero: ∀i,i<u.length - v.length - k→O.getD i 0=0
theorem Sf: ∀(l:List Nat) (i x:Nat),i<l.length→l.getD i 0=0→val (l.set i x)=val l+x*65536^i
 |[],i,x,h,_=>by simp at h
 |a::l,0,x,_,h0=>by
  simp at h0;subst h0;simp[val];omega
 |a::l,i+1,x,h,h0=>by
  have ih:=Sf l i x (by simpa using h) (by simpa using h0)
  rw[List.set_cons_succ,val,val,ih,Nat.pow_succ,Nat.mul_add,Nat.mul_comm (65536^i),Nat.mul_left_comm x]
  omega
theorem Vz{l:List Nat}(h:Ok l)(i x:Nat)(hx:x<65536):Ok (l.set i x):=fun y hy=>by
 rcases List.mem_or_eq_of_mem_set hy with h1|h1
 ·exact h y h1
 ·rw[h1];exact hx
theorem ok_app{a b:List Nat}(ha:Ok a)(hb:Ok b):Ok (a++b):=fun y hy=>by
 rcases List.mem_append.1 hy with h|h
 ·exact ha y h
 ·exact hb y h
theorem Pj{u v:List Nat}(hv:Ok v)(hn:2≤v.length)(h1:32768≤v.getD (v.length - 1) 0){k:Nat}(hk:k<u.length - v.length){U O:List Nat}(h:StL u v k U O):
  let j:=u.length - v.length - 1 - k
  let r:=CT (AP j (v.length+1) U) v
  StL u v (k+1) (splice j r.2 U) (O.set j r.1)∧val (AP j (v.length+1) U)<65536*val v∧(AP j (v.length+1) U).length=v.length+1∧Ok (AP j (v.length+1) U)∧r.1<65536:=by
 intro j r;have hj:j=u.length - v.length - 1 - k:=rfl;have hlen:=h.lu;generalize hw:AP j (v.length+1) U=w at*;have hr:r=CT w v:=by rw[←hw]
 have wl:w.length=v.length+1:=by
  rw[←hw]
  unfold AP;rw[A8,List.length_drop];omega
 have ow:Ok w:=by
  rw[←hw]
  exact fun y hy=>h.ou y (List.mem_of_mem_drop (List.mem_of_mem_take hy))
 have eU:U=U.take j++(w++U.drop (j+v.length+1)):=by
  rw[←hw]
  unfold AP;have e1:(U.drop j).drop (v.length+1)=U.drop (j+v.length+1):=by rw[List.drop_drop];rfl
  rw[←e1,List.take_append_drop,List.take_append_drop]
 have lA:(U.take j).length=j:=by rw[A8];omega
 have hlt:=h.lt;rw[show u.length - v.length - k=j+1 by omega]at hlt
 have eD:U.drop (j+1)=w.tail++U.drop (j+v.length+1):=by
  conv=>lhs;rw[eU]
  rw[List.drop_append,lA,DU (by omega:(U.take j).length≤j+1),show j+1 - j=1 by omega]
  cases w with
  |nil=>simp at wl
  |cons a w=>simp
 have tl:w.tail.length=v.length:=by rw[List.length_tail];omega
 rw[eD,CF,tl]at hlt
 have hvp:=Bz v hv;have hC:val (U.drop (j+v.length+1))=0:=by
  rcases Nat.eq_zero_or_pos (val (U.drop (j+v.length+1)))with h0|h0
  ·exact h0
  ·have:65536^v.length*1≤65536^v.length*val (U.drop (j+v.length+1)):=Nat.mul_le_mul_left _ h0
   omega
 rw[hC,Nat.mul_zero,Nat.add_zero]at hlt
 have hQ:val w<65536*val v:=by
  have:=J7 w
  have h0:=LJ ow;omega
 obtain⟨d1,d2,d3,d4⟩:=jii ow hv wl hn h1 hQ
 rw[←hr]at d1 d2 d3 d4
 have hV0:0<val v:=by omega
 have hq:r.1<65536:=by rw[d1,Nat.div_lt_iff_lt_mul hV0];exact hQ
 have eS:splice j r.2 U=U.take j++(r.2++U.drop (j+v.length+1)):=by
  unfold splice;rw[d4,wl,List.append_assoc];rfl
 have hdm:=Nat.div_add_mod (val w) (val v);rw[←d1,←d2]at hdm;have vU:val U=val (U.take j)+65536^j*val w:=by
  conv=>lhs;rw[eU]
  rw[CF,lA,CF,hC,Nat.mul_zero,Nat.add_zero]
 have vS:val (splice j r.2 U)=val (U.take j)+65536^j*val r.2:=by
  rw[eS,CF,lA,CF,hC,Nat.mul_zero,Nat.add_zero]
 have hz:=h.zero j (by omega)
 have hjO:j<O.length:=by rw[h.lo];omega
 have vO:=Sf O j r.1 hjO hz;refine⟨⟨?_,?_,Vz h.oo _ _ hq,by rw[List.length_set];exact h.lo,?_,?_,fun i hi=> ?_⟩,hQ,wl,ow,hq⟩
 ·rw[eS]
  exact ok_app (h.ou.take j) (ok_app d3 fun y hy=>h.ou y (List.mem_of_mem_drop hy))
 ·rw[eS,List.length_append,List.length_append,lA,d4,wl,List.length_drop]
  omega
 ·rw[h.eq,vU,vS,vO,←hdm,Nat.add_mul,Nat.mul_add]
  have:65536^j*(val v*r.1)=r.1*65536^j*val v:=by
   rw[Nat.mul_comm (val v),←Nat.mul_assoc,Nat.mul_comm (65536^j)]
  omega
 ·rw[show u.length - v.length - (k+1)=j by omega,eS]
  rw[List.drop_append,lA,DU (by omega:(U.take j).length≤j),Nat.sub_self,List.nil_append,List.drop_zero,CF,hC,Nat.mul_zero,Nat.add_zero,d2]
  exact Nat.mod_lt _ hV0
 ·rw[AL,List.getElem?_set_ne (by omega),←AL]
  exact h.zero i (by omega)
theorem Gj{u v:List Nat}(hu:Ok u)(hv:Ok v)(hn:2≤v.length)(h1:32768≤v.getD (v.length - 1) 0)(hl:v.length<u.length)(ht:val (u.drop (u.length - v.length))<val v): ∀k,k≤u.length - v.length→StL u v k (Cs u v k).1 (Cs u v k).2
 |0,_=>by
  have hz:val (List.replicate (u.length - v.length) 0)=0:=by
   generalize u.length - v.length=m
   induction m with
   |zero=>rfl
   |succ m ih=>rw[List.replicate_succ,val,ih]
  refine⟨hu,rfl,fun y hy=> ?_,by simp[Cs],?_,by simpa [Cs]using ht,fun i hi=> ?_⟩
  ·have:=List.eq_of_mem_replicate hy
   omega
  ·show val u=val (List.replicate (u.length - v.length) 0)*val v+val u
   rw[hz];omega
  ·show(List.replicate (u.length - v.length) 0).getD i 0=0
   rw[AL,List.getElem?_replicate]
   split<;>rfl
 |k+1,hk=>(Pj hv hn h1 (by omega) (Gj hu hv hn h1 hl ht k (by omega))).1
theorem K9{u v:List Nat}(hu:Ok u)(hv:Ok v)(hn:2≤v.length)(h1:32768≤v.getD (v.length - 1) 0)(hl:v.length<u.length)(ht:val (u.drop (u.length - v.length))<val v):
  val (Cs u v (u.length - v.length)).2=val u/val v∧val (Cs u v (u.length - v.length)).1=val u%val v:=by
 have h:=Gj hu hv hn h1 hl ht _ (AO _);generalize (Cs u v (u.length - v.length)).1=U at*;generalize (Cs u v (u.length - v.length)).2=O at*;have hlt:=h.lt;rw[Nat.sub_self,List.drop_zero]at hlt;rw[h.eq];have hV:0<val v:=by omega
 constructor
 ·rw[Nat.mul_comm,Nat.mul_add_div hV,Nat.div_eq_of_lt hlt,Nat.add_zero]
 ·rw[Nat.mul_comm,Nat.mul_add_mod,AX hlt]
end Go.Va
