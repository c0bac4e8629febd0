/- a part of the proof -/
import Derived.Test.YtkajmpgbnbikiaaGreatDoorMaw
import Derived.Test.YtkajmpgbnbikiaaGreatDoorMat
import Derived.Test.YtkajmpgbnbikiaaGreatDoorMav
import Derived.Test.YtkajmpgbnbikiaaGreatDoorMap
set_option linter.all false
set_option maxHeartbeats 4000000
set_option maxRecDepth 10000
namespace Go.Va
open Int (natCast_add natCast_mul natCast_emod natCast_ediv natCast_pow)
open Go.Proofs
theorem CallsA.less{P:Program}{f:FuncId}{sz n m:Nat}{cs cs' more:List D}{al:List A}(h:CallsA P f sz n cs al m (cs'++more)):CallsA P f sz n cs al m cs':=by
 refine⟨h.1,fun w Z ρ k v0 vals hZ hh hcz hone hv0 hv=>(h.2 w Z ρ k v0 vals hZ hh hcz hone hv0 hv).mono fun e w' ⟨v,he,ρ',h1,h2,h3,h4,h5⟩=>⟨v,he,ρ',h1,⟨h2.owns,fun j b hjb=> ?_⟩,h3,h4,h5⟩⟩
 by_cases e:j=k
 ·subst e;rw[AR]at hjb;cases hjb;obtain⟨o,ho,q1,q2,q3,q4,q5⟩:=h2.rep j _ (AR _ _ _);refine⟨o,ho,q1,q2,by simp at q3 ⊢;omega,q4,fun t x hx=>q5 t x ?_⟩
  rw[List.getElem?_append_left (jzg.1 hx).1]
  exact hx
 ·rw[AW e]at hjb;cases hjb
def Bj:List Grd→List Grd
 |a::b::l=>if a=b then Bj (b::l) else a::Bj (b::l)
 |l=>l
theorem Oa: ∀(m:List Grd) (y x:Grd),Bj (m++[y]++[x])=if y=x then Bj (m++[y]) else Bj (m++[y])++[x]
 |[],y,x=>by
  simp only[List.nil_append,List.cons_append,Bj];split
  ·rename_i h;subst h;rfl
  ·rfl
 |[a],y,x=>by
  by_cases h1:a=y<;>by_cases h2:y=x<;>simp[Bj,h1,h2]
 |a::b::m,y,x=>by
  have ih:=Oa (b::m) y x;simp only[List.cons_append]at ih ⊢;rw[Bj,Bj,ih];split<;>split<;>rfl
theorem P4{l:List Grd}{i:Nat}(h1:1≤i)(h:i<l.length):Bj (l.take (i+1))=if l[i - 1]'(by omega)=l[i] then Bj (l.take i) else Bj (l.take i)++[l[i]]:=by
 obtain⟨j,rfl⟩: ∃j,i=j+1:=⟨i - 1,by omega⟩
 rw[BX h,BX (by omega:j<l.length)]
 exact Oa _ _ _
theorem UO: ∀l:List Grd,(Bj l).length≤l.length
 |a::b::l=>by
  rw[Bj]
  have:=UO (b::l)
  split
  ·simp at*;omega
  ·simp at*;omega
 |[a]=>by simp[Bj]
 |[]=>by simp[Bj]
theorem Q6(l:List Grd)(i:Nat)(h:i<l.length):((l.flatMap Grd.ds).drop (i*2)).take 2=l[i].ds:=EO Grd.ds_len l i h
@[simp high]theorem Zo(l:List Grd):(l.flatMap Grd.ds).length=l.length*2:=DG Grd.ds_len l
theorem Mb{α:Type}{e:α→List D}{k:Nat}(he: ∀a,(e a).length=k)(l:List α)(i:Nat)(v:α)(h:i<l.length):splice (i*k) (e v) (l.flatMap e)=(l.set i v).flatMap e:=by
 rw[splice,O0 he,he,show i*k+k=(i+1)*k by rw[Nat.succ_mul],DU he,List.set_eq_take_append_cons_drop,if_pos h]
 simp
theorem VE(l:List Grd)(i:Nat)(v:Grd)(h:i<l.length):splice (i*2) [D.int .i64 v.kind,intsD v.args] (l.flatMap Grd.ds)=(l.set i v).flatMap Grd.ds:=Mb Grd.ds_len l i v h
theorem ZD{α:Type}{e:α→List D}{k:Nat}(he: ∀a,(e a).length=k)(z:List D)(hz:z.length=k)(l:List α)(i:Nat)(h:i≤l.length):splice (i*k) (rep (l.length - i) z) (l.flatMap e)=(l.take i).flatMap e++(List.replicate (l.length - i) z).flatten:=by
 have e2: ∀n,rep n z=(List.replicate n z).flatten:=by
  intro n
  induction n with
  |zero=>rfl
  |succ n ih=>rw[rep,ih,List.replicate_succ,List.flatten_cons]
 have e3:((List.replicate (l.length - i) z).flatten).length=(l.length - i)*k:=by
  simp[List.length_flatten,hz]
 rw[splice,O0 he,e2,e3,←Nat.add_mul,DU he,show i+(l.length - i)=l.length by omega,List.drop_length]
 simp
theorem Fi(l:List Grd)(i:Nat)(h:i<l.length):((l.flatMap Grd.ds).map C.d|>.drop (i*2)).take 2=[.d (.int .i64 l[i].kind),.d (intsD l[i].args)]:=by
 have:=Q6 l i h
 rw[←List.map_drop,←List.map_take,this]
 rfl
theorem U9(l:List Grd)(hl:l.length≤1099511627776)(hr: ∀g∈l,g.Short):
  CallsA Tryz.prog 349 2 l.length (l.flatMap Grd.ds) [.c (.fn 350 [])] (Bj l).length ((Bj l).flatMap Grd.ds):=by
 have key: ∃more,CallsA Tryz.prog 349 2 l.length (l.flatMap Grd.ds) [.c (.fn 350 [])] (Bj l).length ((Bj l).flatMap Grd.ds++more):=by
  by_cases h2:l.length<2
  ·refine⟨[],?_⟩
   have e:Bj l=l:=by
    match l,h2 with
    |[],_=>rfl
    |[a],_=>rfl
    |a::b::l,h=>simp at h;omega
   rw[e,List.append_nil]
   refine HR (T:=tb) Ah mixed Tryz.func349 rfl (by decide) (Af rfl) rfl ?_;unfold St.initA
   simp -implicitDefEqProofs[jJ,-natCast_add,-natCast_mul,-List.map_set,h2,BK,Hl]
  ·have same: ∀a b:Grd,a∈l→b∈l→CallsF Tryz.prog 350 [.agg a.ds,.agg b.ds] (.u (.c (.d (.bool (decide (a=b)))))):=fun a b ha hb=>by
    have:=jft a b (hr a ha) (hr b hb)
    have e:decide (cmpG a b=0)=decide (a=b):=by simp[cmpG_zero]
    rwa [e]at this
   refine⟨(List.replicate (l.length - (Bj l).length) [D.int .i64 0,.slice 0 []]).flatten,?_⟩
   refine HR (T:=tb) Ah mixed Tryz.func349 rfl (by decide) (Af rfl) rfl ?_;unfold St.initA
   simp -implicitDefEqProofs[jJ,-natCast_add,-natCast_mul,-List.map_set,h2,BK];refine AF (fun j:Nat=>⟨[(5,vI .i64 (j+1:Nat)),(0,vC (.sl 2000000 0 l.length)),(1,vC (.d (.fn 350 [])))],[(2000000,.row 2 (l.flatMap Grd.ds) true)]⟩) (fun j=>j+1≤l.length∧Bj (l.take (j+1))=l.take (j+1)) (fun j=>l.length - j) 0 (by simp[Aw,lk,St.le,vI,vC]) ⟨by omega,by
    match l,h2 with
    |a::b::l,_=>rfl
    |[a],_=>rfl
    |[],h=>simp at h⟩ ?_
   rintro j ⟨hj,hc⟩
   by_cases h:j+1<l.length
   ·have g1:=Fi l (j+1) h;have g0:=Fi l j (by omega)
    have q:=same l[j+1] (l[j]'(by omega)) (AD _) (AD _)
    have ct:=P4 (l:=l) (i:=j+1) (by omega) h
    simp only[Nat.add_sub_cancel]at ct;have b1:(j+1)*2+2≤l.length*2:=by omega
    have b0:j*2+2≤l.length*2:=by omega
    simp only[Grd.ds]at q;simp -implicitDefEqProofs[jJ,-natCast_add,-natCast_mul,-List.map_set,h];refine At (Ad [0,0,0,6,14,0,0,64,224,480,1023]) [.any [] [] (Ap [[1],[0],[5],[19,20],[21],[0],[5],[24],[23,25],[26]]),.one] (by rfl) ?_
    simp -implicitDefEqProofs[jJ,-natCast_add,-natCast_mul,-List.map_set,g0,g1];refine⟨h,b1,by omega,by omega,b0,?_⟩
    (first|refine Ab q ?_|refine Aa q ?_)
    by_cases he:l[j+1]=l[j]'(by omega)
    ·simp -implicitDefEqProofs[jJ,-natCast_add,-natCast_mul,-List.map_set,he];refine⟨by omega,?_⟩
     have e1:Bj (l.take (j+1+1))=l.take (j+1):=by rw[ct,if_pos he.symm,hc]
     refine AF (fun x:Nat×Nat×List Grd=>⟨[(7,vI .i64 (x.1+1:Nat)),(6,vC (.sl 2000000 (j+1) (l.length - (j+1)))),(5,vI .i64 (x.2.1:Nat)),(0,vC (.sl 2000000 0 l.length)),(1,vC (.d (.fn 350 [])))],[(2000000,.row 2 (x.2.2.flatMap Grd.ds) true)]⟩)
      (fun x=>j+1+x.1+1≤l.length∧x.2.1≤j+1+x.1∧x.2.2.length=l.length∧x.2.2.take x.2.1=Bj (l.take (j+1+x.1+1))∧x.2.1=(Bj (l.take (j+1+x.1+1))).length∧ ∀p,j+1+x.1≤p→x.2.2[p]? =l[p]?) (fun x=>l.length - x.1) (0,j+1,l) (by simp[Aw,lk,St.le,vI,vC]) (by
      refine⟨by show j+1+0+1≤_;omega,by show j+1≤j+1+0;omega,rfl,by show l.take (j+1)=_;rw[Nat.add_zero,e1],?_,fun p _=>rfl⟩
      show j+1=_
      rw[Nat.add_zero,e1,AP];omega) ?_
     rintro⟨m,K,G⟩ ⟨h3,h4,h5,h6,h7,h8⟩
     simp only at h3 h4 h5 h6 h7 h8;by_cases hm:m+1<l.length - (j+1)
     ·have hG: ∀p (hp:j+1+m≤p) (hl:p<l.length),G[p]'(by omega)=l[p]:=fun p hp hl=>by
       have:=h8 p hp
       rw[Am (by omega),Am hl]at this
       exact AK this
      have q1:=Fi G (j+1+(m+1)) (by omega)
      have q0:=Fi G (j+1+m) (by omega)
      rw[hG _ (by omega) (by omega)]at q1 q0
      have q:=same (l[j+1+(m+1)]'(by omega)) (l[j+1+m]'(by omega)) (AD _) (AD _)
      simp only[Grd.ds]at q;have ct2:=P4 (l:=l) (i:=j+1+m+1) (by omega) (by omega)
      have c1:(j+1+(m+1))*2+2≤l.length*2:=by omega
      have c0:(j+1+m)*2+2≤l.length*2:=by omega
      simp -implicitDefEqProofs[jJ,-natCast_add,-natCast_mul,-List.map_set,hm];refine At (Ad [0,0,0,6,14,0,0,64,224,480,1023,2047]) [.any [] [] (Ap [[1],[6],[7],[39,40],[41],[6],[7],[44],[43,45],[46]]),.one,.one] (by rfl) ?_
      simp -implicitDefEqProofs[jJ,-natCast_add,-natCast_mul,-List.map_set,q0,q1,h5];refine⟨hm,c1,by omega,by omega,c0,?_⟩
      (first|refine Ab q ?_|refine Aa q ?_)
      by_cases he2:l[j+1+(m+1)]'(by omega)=l[j+1+m]'(by omega)
      ·have e2:Bj (l.take (j+1+(m+1)+1))=Bj (l.take (j+1+m+1)):=by
        rw[show j+1+(m+1)+1=j+1+m+1+1 from rfl,ct2]
        exact if_pos he2.symm
       simp -implicitDefEqProofs[jJ,-natCast_add,-natCast_mul,-List.map_set,he2];exact⟨by omega,m+1,K,G,⟨⟨rfl,rfl⟩,rfl⟩,⟨by omega,by omega,h5,by rw[e2];exact h6,by rw[e2];exact h7,fun p hp=>h8 p (by omega)⟩,by omega⟩
      ·have e2:Bj (l.take (j+1+(m+1)+1))=Bj (l.take (j+1+m+1))++[l[j+1+(m+1)]'(by omega)]:=by
        rw[show j+1+(m+1)+1=j+1+m+1+1 from rfl,ct2]
        exact if_neg fun h=>he2 h.symm
       simp -implicitDefEqProofs[jJ,-natCast_add,-natCast_mul,-List.map_set,he2,q1,h5];refine⟨hm,c1,by omega,by omega,?_⟩
       refine⟨by omega,by omega,m+1,K+1,G.set K (l[j+1+(m+1)]'(by omega)),⟨⟨rfl,rfl⟩,VE G K _ (by omega)⟩,⟨by omega,by omega,by simp[h5],?_,by rw[e2,List.length_append,←h7];rfl,fun p hp=> ?_⟩,by omega⟩
       ·rw[e2,←h6,BX (by simp;omega),List.getElem_set_self,List.take_set_of_le (Az _)]
       ·rw[List.getElem?_set_ne (by omega)]
        exact h8 p (by omega)
     ·have e3:j+1+m+1=l.length:=by omega
      rw[e3,B1]at h6 h7
      have e4:=ZD Grd.ds_len [D.int .i64 0,D.slice 0 []] rfl G K (by omega)
      rw[h5,h6]at e4
      simp -implicitDefEqProofs[jJ,-natCast_add,-natCast_mul,-List.map_set,hm,h5,clearTo];refine⟨by omega,by omega,by omega,?_⟩
      rw[e4]
      simp only[Hl,h7];exact⟨.inl trivial,2000000,rfl,by simp[lk]⟩
    ·simp -implicitDefEqProofs[jJ,-natCast_add,-natCast_mul,-List.map_set,he];exact⟨by omega,⟨by omega,by rw[ct,if_neg fun h=>he h.symm,hc];exact(BX h).symm⟩,by omega⟩
   ·have e:j+1=l.length:=by omega
    rw[e,B1]at hc
    simp -implicitDefEqProofs[jJ,-natCast_add,-natCast_mul,-List.map_set,h,Hl];exact⟨_,⟨rfl,by rw[hc]⟩,by simp[hc]⟩
 obtain⟨more,h⟩:=key
 exact h.less
def Ga(l:List Grd):List Grd:=Bj (Gu l)
theorem Nj(l:List Grd):(Gu l).length=l.length:=Lw l
theorem sortG_mem{l:List Grd}{g:Grd}:g∈Gu l↔g∈l:=(Fa l).mem_iff
theorem MR: ∀l:List Grd,(Bj l).Sublist l
 |a::b::l=>by
  rw[Bj]
  split
  ·exact .cons _ (MR _)
  ·exact .cons_cons _ (MR _)
 |[a]=> .refl _
 |[]=> .refl _
theorem jdX{l:List Grd}{g:Grd}(h:g∈Ga l):g∈l:=sortG_mem.1 ((MR _).subset h)
theorem jbG(l:List Grd):(Ga l).length≤l.length:=by
 have:=UO (Gu l)
 rwa [Nj]at this
theorem jbN(l:List Grd)(hl:l.length≤1099511627776)(hr: ∀g∈l,g.Short):
  CallsA Tryz.prog 316 2 l.length (l.flatMap Grd.ds) [] (Ga l).length ((Ga l).flatMap Grd.ds):=by
 have q1:=fun i=>jkq i l true hl hr
 have q2:=U9 (Gu l) (by rw[Nj];omega) (fun g hg=>hr g (sortG_mem.1 hg))
 rw[Nj]at q2
 refine HR (T:=tb) Ah mixed Tryz.func316 rfl (by decide) (Af rfl) rfl ?_;unfold St.initA
 simp -implicitDefEqProofs[jJ,-natCast_add,-natCast_mul,BK];refine .inr (.inl (Fh (q1 2000000) (by simp[CA,U.all,C.id?]) (by simp[lk]) ?_))
 simp -implicitDefEqProofs[jJ,-natCast_add,-natCast_mul,St.backW];refine .inr (.inr (.inr (.inr (.inr ⟨rfl,2000000,l.length,2,_,_,(Gu l).flatMap Grd.ds,_,_,[_],rfl,by simp[lk],rfl,rfl,q2,?_⟩))))
 simp -implicitDefEqProofs[jJ,-natCast_add,-natCast_mul,St.drop,Hl,Ga]
def Bw:Nat→Rul
 |1=>⟨[112,97,114,97,108,108,101,108],[CH [115,116],CH [115,117]],[CH [116,117]],[CS [115]],0,.nilFn⟩
 |2=>⟨[112,101,114,112,101,110,100,105,99,117,108,97,114],[CH [115,116],CK [115,117]],[CK [116,117]],[CS [115]],0,.nilFn⟩
 |3=>⟨[110,111,114,109,97,108,115],[CK [115,116],CK [115,117]],[CH [116,117]],[CS [115]],0,.nilFn⟩
 |4=>⟨[108,101,110,103,116,104,115],[],[],[],2,.fn 242 []⟩
 |5=>⟨[109,105,100,112,111,105,110,116],[Cz [77,65,66]],[G3 [77,65,66],Cj [77,65,77,66],H1 [65,66,77,65] 4],[],0,.nilFn⟩
 |6=>⟨[109,105,100,108,105,110,101],[Cz [77,65,66],Cz [78,65,67]],[CH [77,78,66,67],H1 [66,67,77,78] 4],[],0,.nilFn⟩
 |7=>⟨[100,105,97,103,111,110,97,108,115],[Cz [77,65,66],Cz [77,67,68]],[CH [65,67,66,68],Cj [65,67,66,68]],[],0,.nilFn⟩
 |8=>⟨[117,110,105,113,117,101],[Cz [77,65,66],Cz [78,65,66]],[Kr [77,78]],[],0,.nilFn⟩
 |9=>⟨[115,117,98,115,116,105,116,117,116,105,111,110],[],[],[],2,.fn 248 []⟩
 |10=>⟨[101,113,117,105,100,105,115,116,97,110,116],[Cj [80,65,80,66],Cj [81,65,81,66]],[CK [65,66,80,81]],[],0,.nilFn⟩
 |11=>⟨[99,105,114,99,108,101],[Cj [79,65,79,66],Cj [79,65,79,67],Cj [79,65,79,68]],[Ek [65,66,67,68]],[],0,.nilFn⟩
 |12=>⟨[99,111,110,99,121,99,108,105,99],[Ek [65,66,67,68],Ek [65,66,67,69]],[Ek [65,66,68,69]],[Gj [65,66,67]],0,.nilFn⟩
 |13=>⟨[105,110,115,99,114,105,98,101,100],[Ek [65,66,67,68]],[Cp [67,65,67,66,68,65,68,66]],[],0,.nilFn⟩
 |14=>⟨[97,114,99],[Cp [67,65,67,66,68,65,68,66]],[Ek [65,66,67,68]],[],0,.nilFn⟩
 |15=>⟨[115,117,109,115],[Cp [117,115,116,118],Cp [115,119,120,116]],[Cp [117,119,120,118]],[CS [115],CS [116]],0,.nilFn⟩
 |16=>⟨[100,105,102,102,101,114,101,110,99,101,115],[Cp [115,116,117,118],Cp [115,116,119,120]],[Cp [119,117,120,118]],[CS [115],CS [116]],0,.nilFn⟩
 |17=>⟨[100,105,114,101,99,116,105,111,110,115],[Cp [115,117,118,119],CH [115,116]],[Cp [116,117,118,119]],[CS [115]],0,.nilFn⟩
 |18=>⟨[100,105,97,109,101,116,101,114],[CK [67,65,67,66],CK [68,65,68,66]],[Ek [65,66,67,68]],[],0,.nilFn⟩
 |19=>⟨[99,97,110,99,101,108],[Cp [115,115,116,117]],[CH [116,117]],[CS [115]],0,.nilFn⟩
 |20=>⟨[114,105,103,104,116],[Cp [115,116,117,118],CK [115,116]],[CK [117,118]],[CS [115],CS [116]],0,.nilFn⟩
 |21=>⟨[105,115,111,115,99,101,108,101,115],[Cj [79,65,79,66]],[Cp [79,65,65,66,65,66,79,66]],[],0,.nilFn⟩
 |22=>⟨[98,97,115,101],[Cp [79,65,65,66,65,66,79,66]],[Cj [79,65,79,66]],[Gj [79,65,66]],0,.nilFn⟩
 |23=>⟨[116,104,97,108,101,115],[Cz [79,65,66],Cj [79,65,79,67]],[CK [67,65,67,66]],[],0,.nilFn⟩
 |24=>⟨[104,121,112,111,116,101,110,117,115,101],[Cz [77,65,66],CK [67,65,67,66]],[Cj [77,65,77,67]],[],0,.nilFn⟩
 |25=>⟨[98,105,115,101,99,116,111,114],[Cz [77,65,66],CK [77,67,65,66]],[Cj [67,65,67,66]],[],0,.nilFn⟩
 |26=>⟨[115,105,100,101],[Cz [77,65,66],CH [77,78,66,67],G3 [65,78,67]],[Cz [78,65,67]],[Gj [65,66,67]],0,.nilFn⟩
 |27=>⟨[112,97,114,97,108,108,101,108,111,103,114,97,109],[CH [65,66,67,68],CH [65,67,66,68]],[Cj [65,66,67,68],Cj [65,67,66,68]],[Gj [65,66,67]],0,.nilFn⟩
 |28=>⟨[109,105,100,100,108,101],[G3 [77,65,66],Cj [77,65,77,66]],[Cz [77,65,66]],[CS [65,66]],0,.nilFn⟩
 |_=> .zero
def Rul.res(r:Rul):R:= .u (.agg (r.ds.map .d))
theorem Ye(n:Int)(h:n<10):CallsF Tryz.prog 163 [.c (.int .i64 n)] (Rul.res (if 1≤n then Bw n.toNat else .zero)):=by
 refine Ak (T:=tb) Ah mixed Tryz.func163 rfl (by decide) (Af rfl) rfl ?_;unfold St.init
 by_cases h1:n=1
 rotate_left
 by_cases h2:n=2
 rotate_left
 by_cases h3:n=3
 rotate_left
 by_cases h4:n=4
 rotate_left
 by_cases h5:n=5
 rotate_left
 by_cases h6:n=6
 rotate_left
 by_cases h7:n=7
 rotate_left
 by_cases h8:n=8
 rotate_left
 by_cases h9:n=9
 rotate_left
 simp -implicitDefEqProofs[jJ,-natCast_add,-natCast_mul,h1,h2,h3,h4,h5,h6,h7,h8,h9];rw[if_neg (by omega)]
 simp[Rul.res,Rul.ds,Rul.zero,BS,bs,show ByteArray.empty=⟨#[]⟩ from rfl]
 all_goals
  subst n;simp -implicitDefEqProofs[jJ,-natCast_add,-natCast_mul]
  repeat ((first|refine .inl ⟨_,NE _ _,?_⟩|refine .inl ⟨_,Nf _,?_⟩|refine .inl ⟨_,NB _,?_⟩|refine .inl ⟨_,Mj _,?_⟩|refine .inl ⟨_,LR _,?_⟩|refine .inl ⟨_,Mp _,?_⟩|refine .inl ⟨_,LB _,?_⟩|refine .inl ⟨_,L9 _,?_⟩|refine .inl ⟨_,NI _,?_⟩|refine .inl ⟨_,LN _ _,?_⟩|refine .inl ⟨_,Ml _,?_⟩|refine .inl ⟨_,Mk _,?_⟩);simp -implicitDefEqProofs[jJ,-natCast_add,-natCast_mul])
  simp[Rul.res,Rul.ds,Bw,BS,Pat.ds,bs,CH,CK,Cj,G3,Cz,Ek,Cp,Kr,H1,CS,Gj]
theorem jgR(n:Int)(h:n<19):CallsF Tryz.prog 164 [.c (.int .i64 n)] (Rul.res (if 10≤n then Bw n.toNat else .zero)):=by
 refine Ak (T:=tb) Ah mixed Tryz.func164 rfl (by decide) (Af rfl) rfl ?_;unfold St.init
 by_cases h10:n=10
 rotate_left
 by_cases h11:n=11
 rotate_left
 by_cases h12:n=12
 rotate_left
 by_cases h13:n=13
 rotate_left
 by_cases h14:n=14
 rotate_left
 by_cases h15:n=15
 rotate_left
 by_cases h16:n=16
 rotate_left
 by_cases h17:n=17
 rotate_left
 by_cases h18:n=18
 rotate_left
 simp -implicitDefEqProofs[jJ,-natCast_add,-natCast_mul,h10,h11,h12,h13,h14,h15,h16,h17,h18];rw[if_neg (by omega)]
 simp[Rul.res,Rul.ds,Rul.zero,BS,bs,show ByteArray.empty=⟨#[]⟩ from rfl]
 all_goals
  subst n;simp -implicitDefEqProofs[jJ,-natCast_add,-natCast_mul]
  repeat ((first|refine .inl ⟨_,NE _ _,?_⟩|refine .inl ⟨_,Nf _,?_⟩|refine .inl ⟨_,NB _,?_⟩|refine .inl ⟨_,Mj _,?_⟩|refine .inl ⟨_,LR _,?_⟩|refine .inl ⟨_,Mp _,?_⟩|refine .inl ⟨_,LB _,?_⟩|refine .inl ⟨_,L9 _,?_⟩|refine .inl ⟨_,NI _,?_⟩|refine .inl ⟨_,LN _ _,?_⟩|refine .inl ⟨_,Ml _,?_⟩|refine .inl ⟨_,Mk _,?_⟩);simp -implicitDefEqProofs[jJ,-natCast_add,-natCast_mul])
  simp[Rul.res,Rul.ds,Bw,BS,Pat.ds,bs,CH,CK,Cj,G3,Cz,Ek,Cp,Kr,H1,CS,Gj]
theorem Yu(n:Int):CallsF Tryz.prog 165 [.c (.int .i64 n)] (Rul.res (if 19≤n∧n<29 then Bw n.toNat else .zero)):=by
 refine Ak (T:=tb) Ah mixed Tryz.func165 rfl (by decide) (Af rfl) rfl ?_;unfold St.init
 by_cases h19:n=19
 rotate_left
 by_cases h20:n=20
 rotate_left
 by_cases h21:n=21
 rotate_left
 by_cases h22:n=22
 rotate_left
 by_cases h23:n=23
 rotate_left
 by_cases h24:n=24
 rotate_left
 by_cases h25:n=25
 rotate_left
 by_cases h26:n=26
 rotate_left
 by_cases h27:n=27
 rotate_left
 by_cases h28:n=28
 rotate_left
 simp -implicitDefEqProofs[jJ,-natCast_add,-natCast_mul,h19,h20,h21,h22,h23,h24,h25,h26,h27,h28];rw[if_neg (by omega)]
 simp[Rul.res,Rul.ds,Rul.zero,BS,bs,show ByteArray.empty=⟨#[]⟩ from rfl]
 all_goals
  subst n;simp -implicitDefEqProofs[jJ,-natCast_add,-natCast_mul]
  repeat ((first|refine .inl ⟨_,NE _ _,?_⟩|refine .inl ⟨_,Nf _,?_⟩|refine .inl ⟨_,NB _,?_⟩|refine .inl ⟨_,Mj _,?_⟩|refine .inl ⟨_,LR _,?_⟩|refine .inl ⟨_,Mp _,?_⟩|refine .inl ⟨_,LB _,?_⟩|refine .inl ⟨_,L9 _,?_⟩|refine .inl ⟨_,NI _,?_⟩|refine .inl ⟨_,LN _ _,?_⟩|refine .inl ⟨_,Ml _,?_⟩|refine .inl ⟨_,Mk _,?_⟩);simp -implicitDefEqProofs[jJ,-natCast_add,-natCast_mul])
  simp[Rul.res,Rul.ds,Bw,BS,Pat.ds,bs,CH,CK,Cj,G3,Cz,Ek,Cp,Kr,H1,CS,Gj]
def rulT(n:Int):Rul:={ Bw n.toNat with count:=(Bw n.toNat).count+(Bw n.toNat).prem.length }
theorem UF(n:Nat)(h:28<n):Bw n= .zero:=by
 unfold Bw;split<;>first|omega|rfl
theorem jho(n:Int):(if n<10 then (if 1≤n then Bw n.toNat else Rul.zero) else if n<19 then (if 10≤n then Bw n.toNat else .zero) else (if 19≤n∧n<29 then Bw n.toNat else .zero))=Bw n.toNat:=by
 by_cases h1:n<10
 ·rw[if_pos h1]
  by_cases h2:1≤n
  ·rw[if_pos h2]
  ·rw[if_neg h2,show n.toNat=0 by omega];rfl
 rw[if_neg h1]
 by_cases h2:n<19
 ·rw[if_pos h2,if_pos (by omega)]
 rw[if_neg h2]
 by_cases h3:n<29
 ·rw[if_pos ⟨by omega,h3⟩]
 ·rw[if_neg (by omega),UF n.toNat (by omega)]
theorem Vg(n:Nat):(Bw n).count≤2∧0≤(Bw n).count∧(Bw n).prem.length≤3:=by
 unfold Bw;split<;>simp[Rul.zero]
theorem Xk(n:Int):CallsF Tryz.prog 101 [.c (.int .i64 n)] (rulT n).res:=by
 have hs:=Vg n.toNat;have e:=jho n;unfold rulT;generalize hR:Bw n.toNat=R at*;obtain⟨nm,p,c,g,k,d⟩:=R;simp only at hs;simp only[Rul.res,Rul.ds]at*;refine Ak (T:=tb) Ah mixed Tryz.func101 rfl (by decide) (Af rfl) rfl ?_;unfold St.init
 by_cases h1:n<10
 ·have c1:=Ye n h1;rw[if_pos h1]at e;rw[hR,e]at c1;simp only[Rul.res,Rul.ds]at c1;simp -implicitDefEqProofs[jJ,-natCast_add,-natCast_mul,h1]
  (first|refine Ab c1 ?_|refine Aa c1 ?_)
  simp -implicitDefEqProofs[jJ,-natCast_add,-natCast_mul,BS]
  trace_state
  omega
 rw[if_neg h1]at e
 by_cases h2:n<19
 ·have c1:=jgR n h2;rw[if_pos h2]at e;rw[hR,e]at c1;simp only[Rul.res,Rul.ds]at c1;simp -implicitDefEqProofs[jJ,-natCast_add,-natCast_mul,h1,h2]
  (first|refine Ab c1 ?_|refine Aa c1 ?_)
  simp -implicitDefEqProofs[jJ,-natCast_add,-natCast_mul,BS]
  trace_state
  omega
 rw[if_neg h2]at e
 have c1:=Yu n;rw[hR,e]at c1;simp only[Rul.res,Rul.ds]at c1;simp -implicitDefEqProofs[jJ,-natCast_add,-natCast_mul,h1,h2]
 (first|refine Ab c1 ?_|refine Aa c1 ?_)
 simp -implicitDefEqProofs[jJ,-natCast_add,-natCast_mul,BS];omega
def Pat.Ok(p:Pat):Prop:=p.letters≠[]∧p.letters.length≤1000∧ ∀c∈p.letters,G5 c
def Bm(b:Bnd)(p:Pat):List Int:=CI (BJ b p.letters)
def Gx(b:Bnd)(p:Pat):Grd:=⟨p.kind,Bm b p⟩
def Da:List Int→Bool
 |a::b::l=>if a=b then true else Da (b::l)
 |_=>false
def guardsL(b:Bnd)(ps:List Pat):List Grd:=if ps.any (fun p=>Da (Bm b p)) then [] else Ga (ps.map (Gx b))
def GR(b:Bnd)(ps:List Pat):Bool:= !ps.any (fun p=>Da (Bm b p))
theorem jiJ(b:Bnd)(c:UInt8):DA b c≠[]:=by unfold DA;split<;>simp
theorem jb4(b:Bnd){l:List UInt8}(h:l≠[]):BJ b l≠[]:=by
 cases l with
 |nil=>exact absurd rfl h
 |cons c r=>
  unfold BJ;rw[List.flatMap_cons];simp[jiJ]
theorem I2(b:Bnd)(l:List UInt8):(BJ b l).length≤2*l.length:=by
 unfold BJ
 induction l with
 |nil=>simp
 |cons c r ih=>
  have:(DA b c).length≤2:=by unfold DA;split<;>simp
  rw[List.flatMap_cons,List.length_append,List.length_cons];omega
theorem twice_iff: ∀{l:List Int},Da l=true↔ ∃i,∃h:i+1<l.length,l[i+1]=l[i]
 |[]=>by simp[Da]
 |[a]=>by simp[Da]
 |a::b::l=>by
  rw[Da]
  by_cases h:a=b
  ·rw[if_pos h]
   simp only[true_iff];exact⟨0,by simp,by simp[h]⟩
  ·rw[if_neg h,twice_iff]
   constructor
   ·rintro⟨i,hi,e⟩
    exact⟨i+1,by simp at hi ⊢;omega,by simpa using e⟩
   ·rintro⟨i,hi,e⟩
    cases i with
    |zero=>exact absurd (by simpa using e.symm) h
    |succ i=>exact⟨i,by simp at hi ⊢;omega,by simpa using e⟩
theorem jax{l:List Int}(h: ∀i (h:i+1<l.length),l[i+1]≠l[i]):Da l=false:=by
 rw[Bool.eq_false_iff]
 intro h1;obtain⟨i,h2,h3⟩:=twice_iff.1 h1;exact h i h2 h3
theorem Z6(l:List Pat)(i:Nat)(h:i<l.length):((l.flatMap Pat.ds).drop (i*3)).take 3=l[i].ds:=EO Pat.ds_len l i h
theorem Lp(l:List Pat)(i:Nat)(h:i<l.length):((l.flatMap Pat.ds).map C.d|>.drop (i*3)).take 3=[.d (.int .i64 l[i].kind),.d (.str (bs l[i].letters)),.d (.int .i64 l[i].n)]:=by
 have:=Z6 l i h
 rw[←List.map_drop,←List.map_take,this]
 rfl
@[simp high]theorem pat_len(l:List Pat):(l.flatMap Pat.ds).length=l.length*3:=DG Pat.ds_len l
def Ds(b:Bnd)(ps:List Pat)(i:Nat):List Grd:=(ps.take i).map (Gx b)
theorem RL{b:Bnd}{ps:List Pat}{i:Nat}(h:i≤ps.length):(Ds b ps i).length=i:=by simp[Ds];omega
theorem jbM{b:Bnd}{ps:List Pat}{i:Nat}(h:i<ps.length):Ds b ps (i+1)=Ds b ps i++[Gx b ps[i]]:=by
 unfold Ds;rw[BX h,List.map_append];rfl
theorem Yn(b:Bnd)(hb:b.Ok)(ps:List Pat)(hp: ∀p∈ps,p.Ok)(hl:ps.length≤1000):
  CallsF Tryz.prog 276 [.c (BS ps),.agg b.ds] (.tup [.c (.own 2 (guardsL b ps).length ((guardsL b ps).flatMap Grd.ds)),.c (.d (.bool (GR b ps)))]):=by
 refine Ak (T:=tb) Ah mixed Tryz.func276 rfl (by decide) (Af rfl) rfl ?_;unfold St.init
 simp only[BS];simp -implicitDefEqProofs[jJ,-natCast_add,-natCast_mul,-List.reduceReplicate];refine CJ [(6,45)] (fun i:Nat=>⟨[(13,vI .i64 i),(12,vI .i64 ps.length),(11,vC (.d (.slice ps.length (ps.flatMap Pat.ds)))),(6,vC (.sl 6 0 i)),(3,vC (.ptr 3 0))],[(6,.row 2 ((Ds b ps i).flatMap Grd.ds) true),(3,.box b.cs)]⟩)
  (fun i=>i≤ps.length∧(ps.take i).any (fun p=>Da (Bm b p))=false) (fun i=>ps.length - i) 0 (by simp[Aw,lk,St.le,vI,vC,Ds]) (by simp) ?_
 rintro i ⟨hi,hno⟩
 by_cases h:i<ps.length
 ·have g:=Lp ps i h;have hpi:=hp ps[i] (AD h);have b1:i*3+3≤ps.length*3:=by omega
  have q1:=Ol b hb ps[i].letters hpi.2.2 hpi.2.1;have hv:=jb4 b hpi.1;have q2:=TO 20 (BJ b ps[i].letters) true hv (by have:=I2 b ps[i].letters;have:=hpi.2.1;omega)
  have hgl:=RL (b:=b) hi;have hsl:(CI (BJ b ps[i].letters)).length=(BJ b ps[i].letters).length:=Gf _;have hl2:(BJ b ps[i].letters).length≤2000:=by have:=I2 b ps[i].letters;have:=hpi.2.1;omega
  simp -implicitDefEqProofs[jJ,-natCast_add,-natCast_mul,-List.reduceReplicate,h,g];refine⟨by omega,?_⟩
  (first|refine Ab q1 ?_|refine Aa q1 ?_)
  have fl: ∀x:Int,(i64 x).flat=true:=fun _=>rfl
  simp -implicitDefEqProofs[jJ,-natCast_add,-natCast_mul,-List.reduceReplicate,fl];refine .inr (.inl (Fh q2 (by simp[CA,U.all,C.id?]) (by simp[lk]) ?_))
  simp -implicitDefEqProofs[jJ,-natCast_add,-natCast_mul,-List.reduceReplicate,St.backW];rw[←hsl];refine AF (fun k:Nat=>⟨[(10,vI .i64 (k+1:Nat)),(9,vC (.sl 20 0 (Bm b ps[i]).length)),(8,vC (.ptr 8 0)),(13,vI .i64 i),(12,vI .i64 ps.length),(11,vC (.d (.slice ps.length (ps.flatMap Pat.ds)))),(6,vC (.sl 6 0 i)),(3,vC (.ptr 3 0))],
    [(20,.row 1 ((Bm b ps[i]).map i64) true),(8,.box [.d (.int .i64 ps[i].kind),.d (.str (bs ps[i].letters)),.d (.int .i64 ps[i].n)]),(6,.row 2 ((Ds b ps i).flatMap Grd.ds) true),(3,.box b.cs)]⟩)
   (fun k=>k+1≤(Bm b ps[i]).length∧ ∀j (h:j+1<(Bm b ps[i]).length),j<k→(Bm b ps[i])[j+1]≠(Bm b ps[i])[j]) (fun k=>(Bm b ps[i]).length - k) 0 (by simp[Aw,lk,St.le,vI,vC,Bm]) ⟨by unfold Bm;have:=List.length_pos_iff.2 hv;omega,fun j _ h=>by omega⟩ ?_
  rintro k ⟨hk,hne⟩
  have hl3:(Bm b ps[i]).length≤2000:=by unfold Bm;omega
  have ept:Gx b ps[i]=⟨ps[i].kind,Bm b ps[i]⟩:=rfl
  by_cases hk2:k+1<(Bm b ps[i]).length
  ·have g1:(Bm b ps[i])[k+1]? =some (Bm b ps[i])[k+1]:=Am hk2
   have g0:(Bm b ps[i])[k]? =some ((Bm b ps[i])[k]'(by omega)):=Am (by omega)
   simp -implicitDefEqProofs[jJ,-natCast_add,-natCast_mul,-List.reduceReplicate,hk2];refine At (Ad [0,0,3,7,0,0,32,112,240,511]) [.any [] [] (Ap [[9],[10],[29,30],[31],[9],[10],[34],[33,35],[36]]),.one] (by rfl) ?_
   simp -implicitDefEqProofs[jJ,-natCast_add,-natCast_mul,-List.reduceReplicate,g0,g1,i64];refine⟨hk2,by omega,by omega,?_⟩
   by_cases he:(Bm b ps[i])[k+1]=(Bm b ps[i])[k]'(by omega)
   ·have ht:Da (Bm b ps[i])=true:=twice_iff.2 ⟨k,hk2,he⟩
    have ha:ps.any (fun p=>Da (Bm b p))=true:=List.any_eq_true.2 ⟨_,AD h,ht⟩
    simp -implicitDefEqProofs[jJ,-natCast_add,-natCast_mul,-List.reduceReplicate,he,guardsL,GR,ha]
   ·simp -implicitDefEqProofs[jJ,-natCast_add,-natCast_mul,-List.reduceReplicate,he];refine⟨by omega,⟨by omega,fun j hj hjk=> ?_⟩,by omega⟩
    rcases Nat.lt_succ_iff_lt_or_eq.1 hjk with h1|h1
    ·exact hne j hj h1
    ·subst h1;exact he
  ·have ht:Da (Bm b ps[i])=false:=jax fun j hj=>hne j hj (by omega)
   simp -implicitDefEqProofs[jJ,-natCast_add,-natCast_mul,-List.reduceReplicate,hk2];refine⟨by omega,by omega,by omega,i+1,⟨rfl,by rw[jbM h,List.flatMap_append];rfl⟩,⟨by omega,fun x hx=> ?_⟩,by omega⟩
   rw[BX h,List.mem_append]at hx
   rcases hx with hx|hx
   ·have:=List.any_eq_false.1 hno x hx
    simpa using this
   ·rw[List.mem_singleton.1 hx];exact ht
 ·have hi2:i=ps.length:=by omega
  subst hi2;have hgl:=RL (b:=b) hi;have hgt:Ds b ps ps.length=ps.map (Gx b):=by unfold Ds;rw[B1]
  rw[B1]at hno
  have hs: ∀g∈Ds b ps ps.length,g.Short:=fun g hg=>by
   rw[hgt]at hg
   obtain⟨p,hpm,rfl⟩:=jzk.1 hg
   have:=I2 b p.letters
   have:=(hp p hpm).2.1
   show(Bm b p).length≤_
   unfold Bm;rw[Gf];omega
  have q3:=jbN (Ds b ps ps.length) (by omega) hs
  rw[hgl]at q3
  simp -implicitDefEqProofs[jJ,-natCast_add,-natCast_mul,-List.reduceReplicate,h];refine .inr (.inr (.inr (.inr (.inr ⟨rfl,6,ps.length,2,_,_,(Ds b ps ps.length).flatMap Grd.ds,_,_,[],rfl,by simp[lk],rfl,rfl,q3,?_⟩))))
  simp -implicitDefEqProofs[jJ,-natCast_add,-natCast_mul,-List.reduceReplicate,St.drop,guardsL,GR,hno,←hgt]
end Go.Va
