/- a part of the proof -/
import Derived.Test.YtkajmpgbnbikiaaGreatDoorPav
import Derived.Test.YtkajmpgbnbikiaaGreatDoorPas
import Derived.Test.YtkajmpgbnbikiaaGreatDoorPau
import Derived.Test.YtkajmpgbnbikiaaGreatDoorPap
set_option linter.all false
set_option maxHeartbeats 4000000
set_option maxRecDepth 10000
namespace Go.Va
open Int (natCast_add natCast_mul natCast_emod natCast_ediv natCast_pow)
open Go.Proofs
theorem CallsA.less{P:Program}{f:FuncId}{sz n m:Nat}{cs cs' more:List D}{al:List A}(h:CallsA P f sz n cs al m (cs'++more)):CallsA P f sz n cs al m cs':=by
 refine⟨h.1,fun w Z ρ k v0 vals hZ hh hcz hone hv0 hv=>(h.2 w Z ρ k v0 vals hZ hh hcz hone hv0 hv).mono fun e w' ⟨v,he,ρ',h1,h2,h3,h4,h5⟩=>⟨v,he,ρ',h1,⟨h2.owns,fun j b hjb=> ?_⟩,h3,h4,h5⟩⟩
 by_cases e:j=k
 ·subst e;rw[AI]at hjb;cases hjb;obtain⟨o,ho,q1,q2,q3,q4,q5⟩:=h2.rep j _ (AI _ _ _);refine⟨o,ho,q1,q2,by simp at q3 ⊢;omega,q4,fun t x hx=>q5 t x ?_⟩
  rw[List.getElem?_append_left (jzg.1 hx).1]
  exact hx
 ·rw[AS e]at hjb;cases hjb
def AQ:List Grd→List Grd
 |a::b::l=>if a=b then AQ (b::l) else a::AQ (b::l)
 |l=>l
theorem SS: ∀(m:List Grd) (y x:Grd),AQ (m++[y]++[x])=if y=x then AQ (m++[y]) else AQ (m++[y])++[x]
 |[],y,x=>by
  simp only[List.nil_append,List.cons_append,AQ];split
  ·rename_i h;subst h;rfl
  ·rfl
 |[a],y,x=>by
  by_cases h1:a=y<;>by_cases h2:y=x<;>simp[AQ,h1,h2]
 |a::b::m,y,x=>by
  have ih:=SS (b::m) y x;simp only[List.cons_append]at ih ⊢;rw[AQ,AQ,ih];split<;>split<;>rfl
theorem L9{l:List Grd}{i:Nat}(h1:1≤i)(h:i<l.length):AQ (l.take (i+1))=if l[i - 1]'(by omega)=l[i] then AQ (l.take i) else AQ (l.take i)++[l[i]]:=by
 obtain⟨j,rfl⟩: ∃j,i=j+1:=⟨i - 1,by omega⟩
 rw[BX h,BX (by omega:j<l.length)]
 exact SS _ _ _
theorem RV: ∀l:List Grd,(AQ l).length≤l.length
 |a::b::l=>by
  rw[AQ]
  have:=RV (b::l)
  split
  ·simp at*;omega
  ·simp at*;omega
 |[a]=>by simp[AQ]
 |[]=>by simp[AQ]
theorem TC(l:List Grd)(i:Nat)(h:i<l.length):((l.flatMap Grd.ds).drop (i*2)).take 2=l[i].ds:=E2 Grd.ds_len l i h
@[simp high]theorem jg2(l:List Grd):(l.flatMap Grd.ds).length=l.length*2:=Dz Grd.ds_len l
theorem Jx{α:Type}{e:α→List D}{k:Nat}(he: ∀a,(e a).length=k)(l:List α)(i:Nat)(v:α)(h:i<l.length):splice (i*k) (e v) (l.flatMap e)=(l.set i v).flatMap e:=by
 rw[splice,VZ he,he,show i*k+k=(i+1)*k by rw[Nat.succ_mul],Ez he,List.set_eq_take_append_cons_drop,if_pos h]
 simp
theorem jde(l:List Grd)(i:Nat)(v:Grd)(h:i<l.length):splice (i*2) [D.int .i64 v.kind,intsD v.args] (l.flatMap Grd.ds)=(l.set i v).flatMap Grd.ds:=Jx Grd.ds_len l i v h
theorem XI{α:Type}{e:α→List D}{k:Nat}(he: ∀a,(e a).length=k)(z:List D)(hz:z.length=k)(l:List α)(i:Nat)(h:i≤l.length):splice (i*k) (rep (l.length - i) z) (l.flatMap e)=(l.take i).flatMap e++(List.replicate (l.length - i) z).flatten:=by
 have e2: ∀n,rep n z=(List.replicate n z).flatten:=by
  intro n
  induction n with
  |zero=>rfl
  |succ n ih=>rw[rep,ih,List.replicate_succ,List.flatten_cons]
 have e3:((List.replicate (l.length - i) z).flatten).length=(l.length - i)*k:=by
  simp[List.length_flatten,hz]
 rw[splice,VZ he,e2,e3,←Nat.add_mul,Ez he,show i+(l.length - i)=l.length by omega,List.drop_length]
 simp
theorem Fj(l:List Grd)(i:Nat)(h:i<l.length):((l.flatMap Grd.ds).map C.d|>.drop (i*2)).take 2=[.d (.int .i64 l[i].kind),.d (intsD l[i].args)]:=by
 have:=TC l i h
 rw[←List.map_drop,←List.map_take,this]
 rfl
theorem ZL(l:List Grd)(hl:l.length≤1099511627776)(hr: ∀g∈l,g.Short):
  CallsA Tryz.prog 349 2 l.length (l.flatMap Grd.ds) [.c (.fn 350 [])] (AQ l).length ((AQ l).flatMap Grd.ds):=by
 have key: ∃more,CallsA Tryz.prog 349 2 l.length (l.flatMap Grd.ds) [.c (.fn 350 [])] (AQ l).length ((AQ l).flatMap Grd.ds++more):=by
  by_cases h2:l.length<2
  ·refine⟨[],?_⟩
   have e:AQ l=l:=by
    match l,h2 with
    |[],_=>rfl
    |[a],_=>rfl
    |a::b::l,h=>simp at h;omega
   rw[e,List.append_nil]
   refine Jm (T:=tb) Ai mixed Tryz.func349 rfl (by decide) (Ah rfl) rfl ?_;unfold St.initA
   simp -implicitDefEqProofs[jJ,-natCast_add,-natCast_mul,-List.map_set,h2,BK,Gn]
  ·have same: ∀a b:Grd,a∈l→b∈l→CallsF Tryz.prog 350 [.agg a.ds,.agg b.ds] (.u (.c (.d (.bool (decide (a=b)))))):=fun a b ha hb=>by
    have:=jot a b (hr a ha) (hr b hb)
    have e:decide (cmpG a b=0)=decide (a=b):=by simp[cmpG_zero]
    rwa [e]at this
   refine⟨(List.replicate (l.length - (AQ l).length) [D.int .i64 0,.slice 0 []]).flatten,?_⟩
   refine Jm (T:=tb) Ai mixed Tryz.func349 rfl (by decide) (Ah rfl) rfl ?_;unfold St.initA
   simp -implicitDefEqProofs[jJ,-natCast_add,-natCast_mul,-List.map_set,h2,BK];refine AA (fun j:Nat=>⟨[(5,vI .i64 (j+1:Nat)),(0,vC (.sl 2000000 0 l.length)),(1,vC (.d (.fn 350 [])))],[(2000000,.row 2 (l.flatMap Grd.ds) true)]⟩) (fun j=>j+1≤l.length∧AQ (l.take (j+1))=l.take (j+1)) (fun j=>l.length - j) 0 (by simp[As,lk,St.le,vI,vC]) ⟨by omega,by
    match l,h2 with
    |a::b::l,_=>rfl
    |[a],_=>rfl
    |[],h=>simp at h⟩ ?_
   rintro j ⟨hj,hc⟩
   by_cases h:j+1<l.length
   ·have g1:=Fj l (j+1) h;have g0:=Fj l j (by omega)
    have q:=same l[j+1] (l[j]'(by omega)) (AK _) (AK _)
    have ct:=L9 (l:=l) (i:=j+1) (by omega) h
    simp only[Nat.add_sub_cancel]at ct;have b1:(j+1)*2+2≤l.length*2:=by omega
    have b0:j*2+2≤l.length*2:=by omega
    simp only[Grd.ds]at q;simp -implicitDefEqProofs[jJ,-natCast_add,-natCast_mul,-List.map_set,h];refine Ar (Ac [0,0,0,6,14,0,0,64,224,480,1023]) [.any [] [] (Ak [[1],[0],[5],[19,20],[21],[0],[5],[24],[23,25],[26]]),.one] (by rfl) ?_
    simp -implicitDefEqProofs[jJ,-natCast_add,-natCast_mul,-List.map_set,g0,g1];refine⟨h,b1,by omega,by omega,b0,?_⟩
    (first|refine Ab q ?_|refine Aa q ?_)
    by_cases he:l[j+1]=l[j]'(by omega)
    ·simp -implicitDefEqProofs[jJ,-natCast_add,-natCast_mul,-List.map_set,he];refine⟨by omega,?_⟩
     have e1:AQ (l.take (j+1+1))=l.take (j+1):=by rw[ct,if_pos he.symm,hc]
     refine AA (fun x:Nat×Nat×List Grd=>⟨[(7,vI .i64 (x.1+1:Nat)),(6,vC (.sl 2000000 (j+1) (l.length - (j+1)))),(5,vI .i64 (x.2.1:Nat)),(0,vC (.sl 2000000 0 l.length)),(1,vC (.d (.fn 350 [])))],[(2000000,.row 2 (x.2.2.flatMap Grd.ds) true)]⟩)
      (fun x=>j+1+x.1+1≤l.length∧x.2.1≤j+1+x.1∧x.2.2.length=l.length∧x.2.2.take x.2.1=AQ (l.take (j+1+x.1+1))∧x.2.1=(AQ (l.take (j+1+x.1+1))).length∧ ∀p,j+1+x.1≤p→x.2.2[p]? =l[p]?) (fun x=>l.length - x.1) (0,j+1,l) (by simp[As,lk,St.le,vI,vC]) (by
      refine⟨by show j+1+0+1≤_;omega,by show j+1≤j+1+0;omega,rfl,by show l.take (j+1)=_;rw[Nat.add_zero,e1],?_,fun p _=>rfl⟩
      show j+1=_
      rw[Nat.add_zero,e1,Cj];omega) ?_
     rintro⟨m,K,G⟩ ⟨h3,h4,h5,h6,h7,h8⟩
     simp only at h3 h4 h5 h6 h7 h8;by_cases hm:m+1<l.length - (j+1)
     ·have hG: ∀p (hp:j+1+m≤p) (hl:p<l.length),G[p]'(by omega)=l[p]:=fun p hp hl=>by
       have:=h8 p hp
       rw[An (by omega),An hl]at this
       exact AE this
      have q1:=Fj G (j+1+(m+1)) (by omega)
      have q0:=Fj G (j+1+m) (by omega)
      rw[hG _ (by omega) (by omega)]at q1 q0
      have q:=same (l[j+1+(m+1)]'(by omega)) (l[j+1+m]'(by omega)) (AK _) (AK _)
      simp only[Grd.ds]at q;have ct2:=L9 (l:=l) (i:=j+1+m+1) (by omega) (by omega)
      have c1:(j+1+(m+1))*2+2≤l.length*2:=by omega
      have c0:(j+1+m)*2+2≤l.length*2:=by omega
      simp -implicitDefEqProofs[jJ,-natCast_add,-natCast_mul,-List.map_set,hm];refine Ar (Ac [0,0,0,6,14,0,0,64,224,480,1023,2047]) [.any [] [] (Ak [[1],[6],[7],[39,40],[41],[6],[7],[44],[43,45],[46]]),.one,.one] (by rfl) ?_
      simp -implicitDefEqProofs[jJ,-natCast_add,-natCast_mul,-List.map_set,q0,q1,h5];refine⟨hm,c1,by omega,by omega,c0,?_⟩
      (first|refine Ab q ?_|refine Aa q ?_)
      by_cases he2:l[j+1+(m+1)]'(by omega)=l[j+1+m]'(by omega)
      ·have e2:AQ (l.take (j+1+(m+1)+1))=AQ (l.take (j+1+m+1)):=by
        rw[show j+1+(m+1)+1=j+1+m+1+1 from rfl,ct2]
        exact if_pos he2.symm
       simp -implicitDefEqProofs[jJ,-natCast_add,-natCast_mul,-List.map_set,he2];exact⟨by omega,m+1,K,G,⟨⟨rfl,rfl⟩,rfl⟩,⟨by omega,by omega,h5,by rw[e2];exact h6,by rw[e2];exact h7,fun p hp=>h8 p (by omega)⟩,by omega⟩
      ·have e2:AQ (l.take (j+1+(m+1)+1))=AQ (l.take (j+1+m+1))++[l[j+1+(m+1)]'(by omega)]:=by
        rw[show j+1+(m+1)+1=j+1+m+1+1 from rfl,ct2]
        exact if_neg fun h=>he2 h.symm
       simp -implicitDefEqProofs[jJ,-natCast_add,-natCast_mul,-List.map_set,he2,q1,h5];refine⟨hm,c1,by omega,by omega,?_⟩
       refine⟨by omega,by omega,m+1,K+1,G.set K (l[j+1+(m+1)]'(by omega)),⟨⟨rfl,rfl⟩,jde G K _ (by omega)⟩,⟨by omega,by omega,by simp[h5],?_,by rw[e2,List.length_append,←h7];rfl,fun p hp=> ?_⟩,by omega⟩
       ·rw[e2,←h6,BX (by simp;omega),List.getElem_set_self,List.take_set_of_le (At _)]
       ·rw[List.getElem?_set_ne (by omega)]
        exact h8 p (by omega)
     ·have e3:j+1+m+1=l.length:=by omega
      rw[e3,Cq]at h6 h7
      have e4:=XI Grd.ds_len [D.int .i64 0,D.slice 0 []] rfl G K (by omega)
      rw[h5,h6]at e4
      simp -implicitDefEqProofs[jJ,-natCast_add,-natCast_mul,-List.map_set,hm,h5,clearTo];refine⟨by omega,by omega,by omega,?_⟩
      rw[e4]
      simp only[Gn,h7];exact⟨.inl trivial,2000000,rfl,by simp[lk]⟩
    ·simp -implicitDefEqProofs[jJ,-natCast_add,-natCast_mul,-List.map_set,he];exact⟨by omega,⟨by omega,by rw[ct,if_neg fun h=>he h.symm,hc];exact(BX h).symm⟩,by omega⟩
   ·have e:j+1=l.length:=by omega
    rw[e,Cq]at hc
    simp -implicitDefEqProofs[jJ,-natCast_add,-natCast_mul,-List.map_set,h,Gn];exact⟨_,⟨rfl,by rw[hc]⟩,by simp[hc]⟩
 obtain⟨more,h⟩:=key
 exact h.less
def FC(l:List Grd):List Grd:=AQ (FK l)
theorem KZ(l:List Grd):(FK l).length=l.length:=LB l
theorem sortG_mem{l:List Grd}{g:Grd}:g∈FK l↔g∈l:=(DU l).mem_iff
theorem K9: ∀l:List Grd,(AQ l).Sublist l
 |a::b::l=>by
  rw[AQ]
  split
  ·exact .cons _ (K9 _)
  ·exact .cons_cons _ (K9 _)
 |[a]=> .refl _
 |[]=> .refl _
theorem jgJ{l:List Grd}{g:Grd}(h:g∈FC l):g∈l:=sortG_mem.1 ((K9 _).subset h)
theorem jbT(l:List Grd):(FC l).length≤l.length:=by
 have:=RV (FK l)
 rwa [KZ]at this
theorem jnG(l:List Grd)(hl:l.length≤1099511627776)(hr: ∀g∈l,g.Short):
  CallsA Tryz.prog 316 2 l.length (l.flatMap Grd.ds) [] (FC l).length ((FC l).flatMap Grd.ds):=by
 have q1:=fun i=>jk4 i l true hl hr
 have q2:=ZL (FK l) (by rw[KZ];omega) (fun g hg=>hr g (sortG_mem.1 hg))
 rw[KZ]at q2
 refine Jm (T:=tb) Ai mixed Tryz.func316 rfl (by decide) (Ah rfl) rfl ?_;unfold St.initA
 simp -implicitDefEqProofs[jJ,-natCast_add,-natCast_mul,BK];refine .inr (.inl (IM (q1 2000000) (by simp[C6,U.all,C.id?]) (by simp[lk]) ?_))
 simp -implicitDefEqProofs[jJ,-natCast_add,-natCast_mul,St.backW];refine .inr (.inr (.inr (.inr (.inr ⟨rfl,2000000,l.length,2,_,_,(FK l).flatMap Grd.ds,_,_,[_],rfl,by simp[lk],rfl,rfl,q2,?_⟩))))
 simp -implicitDefEqProofs[jJ,-natCast_add,-natCast_mul,St.drop,Gn,FC]
def AT:Nat→Rul
 |1=>⟨[112,97,114,97,108,108,101,108],[Ci [115,116],Ci [115,117]],[Ci [116,117]],[B5 [115]],0,.nilFn⟩
 |2=>⟨[112,101,114,112,101,110,100,105,99,117,108,97,114],[Ci [115,116],Cg [115,117]],[Cg [116,117]],[B5 [115]],0,.nilFn⟩
 |3=>⟨[110,111,114,109,97,108,115],[Cg [115,116],Cg [115,117]],[Ci [116,117]],[B5 [115]],0,.nilFn⟩
 |4=>⟨[108,101,110,103,116,104,115],[],[],[],2,.fn 242 []⟩
 |5=>⟨[109,105,100,112,111,105,110,116],[BV [77,65,66]],[Gv [77,65,66],BF [77,65,77,66],GQ [65,66,77,65] 4],[],0,.nilFn⟩
 |6=>⟨[109,105,100,108,105,110,101],[BV [77,65,66],BV [78,65,67]],[Ci [77,78,66,67],GQ [66,67,77,78] 4],[],0,.nilFn⟩
 |7=>⟨[100,105,97,103,111,110,97,108,115],[BV [77,65,66],BV [77,67,68]],[Ci [65,67,66,68],BF [65,67,66,68]],[],0,.nilFn⟩
 |8=>⟨[117,110,105,113,117,101],[BV [77,65,66],BV [78,65,66]],[HQ [77,78]],[],0,.nilFn⟩
 |9=>⟨[115,117,98,115,116,105,116,117,116,105,111,110],[],[],[],2,.fn 248 []⟩
 |10=>⟨[101,113,117,105,100,105,115,116,97,110,116],[BF [80,65,80,66],BF [81,65,81,66]],[Cg [65,66,80,81]],[],0,.nilFn⟩
 |11=>⟨[99,105,114,99,108,101],[BF [79,65,79,66],BF [79,65,79,67],BF [79,65,79,68]],[DB [65,66,67,68]],[],0,.nilFn⟩
 |12=>⟨[99,111,110,99,121,99,108,105,99],[DB [65,66,67,68],DB [65,66,67,69]],[DB [65,66,68,69]],[Fs [65,66,67]],0,.nilFn⟩
 |13=>⟨[105,110,115,99,114,105,98,101,100],[DB [65,66,67,68]],[BO [67,65,67,66,68,65,68,66]],[],0,.nilFn⟩
 |14=>⟨[97,114,99],[BO [67,65,67,66,68,65,68,66]],[DB [65,66,67,68]],[],0,.nilFn⟩
 |15=>⟨[115,117,109,115],[BO [117,115,116,118],BO [115,119,120,116]],[BO [117,119,120,118]],[B5 [115],B5 [116]],0,.nilFn⟩
 |16=>⟨[100,105,102,102,101,114,101,110,99,101,115],[BO [115,116,117,118],BO [115,116,119,120]],[BO [119,117,120,118]],[B5 [115],B5 [116]],0,.nilFn⟩
 |17=>⟨[100,105,114,101,99,116,105,111,110,115],[BO [115,117,118,119],Ci [115,116]],[BO [116,117,118,119]],[B5 [115]],0,.nilFn⟩
 |18=>⟨[100,105,97,109,101,116,101,114],[Cg [67,65,67,66],Cg [68,65,68,66]],[DB [65,66,67,68]],[],0,.nilFn⟩
 |19=>⟨[99,97,110,99,101,108],[BO [115,115,116,117]],[Ci [116,117]],[B5 [115]],0,.nilFn⟩
 |20=>⟨[114,105,103,104,116],[BO [115,116,117,118],Cg [115,116]],[Cg [117,118]],[B5 [115],B5 [116]],0,.nilFn⟩
 |21=>⟨[105,115,111,115,99,101,108,101,115],[BF [79,65,79,66]],[BO [79,65,65,66,65,66,79,66]],[],0,.nilFn⟩
 |22=>⟨[98,97,115,101],[BO [79,65,65,66,65,66,79,66]],[BF [79,65,79,66]],[Fs [79,65,66]],0,.nilFn⟩
 |23=>⟨[116,104,97,108,101,115],[BV [79,65,66],BF [79,65,79,67]],[Cg [67,65,67,66]],[],0,.nilFn⟩
 |24=>⟨[104,121,112,111,116,101,110,117,115,101],[BV [77,65,66],Cg [67,65,67,66]],[BF [77,65,77,67]],[],0,.nilFn⟩
 |25=>⟨[98,105,115,101,99,116,111,114],[BV [77,65,66],Cg [77,67,65,66]],[BF [67,65,67,66]],[],0,.nilFn⟩
 |26=>⟨[115,105,100,101],[BV [77,65,66],Ci [77,78,66,67],Gv [65,78,67]],[BV [78,65,67]],[Fs [65,66,67]],0,.nilFn⟩
 |27=>⟨[112,97,114,97,108,108,101,108,111,103,114,97,109],[Ci [65,66,67,68],Ci [65,67,66,68]],[BF [65,66,67,68],BF [65,67,66,68]],[Fs [65,66,67]],0,.nilFn⟩
 |28=>⟨[109,105,100,100,108,101],[Gv [77,65,66],BF [77,65,77,66]],[BV [77,65,66]],[B5 [65,66]],0,.nilFn⟩
 |_=> .zero
def Rul.res(r:Rul):R:= .u (.agg (r.ds.map .d))
theorem jlQ(n:Int)(h:n<10):CallsF Tryz.prog 163 [.c (.int .i64 n)] (Rul.res (if 1≤n then AT n.toNat else .zero)):=by
 refine Aj (T:=tb) Ai mixed Tryz.func163 rfl (by decide) (Ah rfl) rfl ?_;unfold St.init
 by_cases h1:n=1
 rotate_left
 by_cases h2:n=2
 rotate_left
 by_cases h3:n=3
 rotate_left
 by_cases h4:n=4
 rotate_left
 by_cases h5:n=5
 rotate_left
 by_cases h6:n=6
 rotate_left
 by_cases h7:n=7
 rotate_left
 by_cases h8:n=8
 rotate_left
 by_cases h9:n=9
 rotate_left
 simp -implicitDefEqProofs[jJ,-natCast_add,-natCast_mul,h1,h2,h3,h4,h5,h6,h7,h8,h9];rw[if_neg (by omega)]
 simp[Rul.res,Rul.ds,Rul.zero,Bl,bs,show ByteArray.empty=⟨#[]⟩ from rfl]
 all_goals
  subst n;simp -implicitDefEqProofs[jJ,-natCast_add,-natCast_mul]
  repeat ((first|refine .inl ⟨_,Kc _ _,?_⟩|refine .inl ⟨_,Lg _,?_⟩|refine .inl ⟨_,K7 _,?_⟩|refine .inl ⟨_,Ke _,?_⟩|refine .inl ⟨_,JC _,?_⟩|refine .inl ⟨_,JZ _,?_⟩|refine .inl ⟨_,JX _,?_⟩|refine .inl ⟨_,JL _,?_⟩|refine .inl ⟨_,JI _,?_⟩|refine .inl ⟨_,JE _ _,?_⟩|refine .inl ⟨_,J0 _,?_⟩|refine .inl ⟨_,Kp _,?_⟩);simp -implicitDefEqProofs[jJ,-natCast_add,-natCast_mul])
  simp[Rul.res,Rul.ds,AT,Bl,Pat.ds,bs,Ci,Cg,BF,Gv,BV,DB,BO,HQ,GQ,B5,Fs]
theorem jcO(n:Int)(h:n<19):CallsF Tryz.prog 164 [.c (.int .i64 n)] (Rul.res (if 10≤n then AT n.toNat else .zero)):=by
 refine Aj (T:=tb) Ai mixed Tryz.func164 rfl (by decide) (Ah rfl) rfl ?_;unfold St.init
 by_cases h10:n=10
 rotate_left
 by_cases h11:n=11
 rotate_left
 by_cases h12:n=12
 rotate_left
 by_cases h13:n=13
 rotate_left
 by_cases h14:n=14
 rotate_left
 by_cases h15:n=15
 rotate_left
 by_cases h16:n=16
 rotate_left
 by_cases h17:n=17
 rotate_left
 by_cases h18:n=18
 rotate_left
 simp -implicitDefEqProofs[jJ,-natCast_add,-natCast_mul,h10,h11,h12,h13,h14,h15,h16,h17,h18];rw[if_neg (by omega)]
 simp[Rul.res,Rul.ds,Rul.zero,Bl,bs,show ByteArray.empty=⟨#[]⟩ from rfl]
 all_goals
  subst n;simp -implicitDefEqProofs[jJ,-natCast_add,-natCast_mul]
  repeat ((first|refine .inl ⟨_,Kc _ _,?_⟩|refine .inl ⟨_,Lg _,?_⟩|refine .inl ⟨_,K7 _,?_⟩|refine .inl ⟨_,Ke _,?_⟩|refine .inl ⟨_,JC _,?_⟩|refine .inl ⟨_,JZ _,?_⟩|refine .inl ⟨_,JX _,?_⟩|refine .inl ⟨_,JL _,?_⟩|refine .inl ⟨_,JI _,?_⟩|refine .inl ⟨_,JE _ _,?_⟩|refine .inl ⟨_,J0 _,?_⟩|refine .inl ⟨_,Kp _,?_⟩);simp -implicitDefEqProofs[jJ,-natCast_add,-natCast_mul])
  simp[Rul.res,Rul.ds,AT,Bl,Pat.ds,bs,Ci,Cg,BF,Gv,BV,DB,BO,HQ,GQ,B5,Fs]
theorem jly(n:Int):CallsF Tryz.prog 165 [.c (.int .i64 n)] (Rul.res (if 19≤n∧n<29 then AT n.toNat else .zero)):=by
 refine Aj (T:=tb) Ai mixed Tryz.func165 rfl (by decide) (Ah rfl) rfl ?_;unfold St.init
 by_cases h19:n=19
 rotate_left
 by_cases h20:n=20
 rotate_left
 by_cases h21:n=21
 rotate_left
 by_cases h22:n=22
 rotate_left
 by_cases h23:n=23
 rotate_left
 by_cases h24:n=24
 rotate_left
 by_cases h25:n=25
 rotate_left
 by_cases h26:n=26
 rotate_left
 by_cases h27:n=27
 rotate_left
 by_cases h28:n=28
 rotate_left
 simp -implicitDefEqProofs[jJ,-natCast_add,-natCast_mul,h19,h20,h21,h22,h23,h24,h25,h26,h27,h28];rw[if_neg (by omega)]
 simp[Rul.res,Rul.ds,Rul.zero,Bl,bs,show ByteArray.empty=⟨#[]⟩ from rfl]
 all_goals
  subst n;simp -implicitDefEqProofs[jJ,-natCast_add,-natCast_mul]
  repeat ((first|refine .inl ⟨_,Kc _ _,?_⟩|refine .inl ⟨_,Lg _,?_⟩|refine .inl ⟨_,K7 _,?_⟩|refine .inl ⟨_,Ke _,?_⟩|refine .inl ⟨_,JC _,?_⟩|refine .inl ⟨_,JZ _,?_⟩|refine .inl ⟨_,JX _,?_⟩|refine .inl ⟨_,JL _,?_⟩|refine .inl ⟨_,JI _,?_⟩|refine .inl ⟨_,JE _ _,?_⟩|refine .inl ⟨_,J0 _,?_⟩|refine .inl ⟨_,Kp _,?_⟩);simp -implicitDefEqProofs[jJ,-natCast_add,-natCast_mul])
  simp[Rul.res,Rul.ds,AT,Bl,Pat.ds,bs,Ci,Cg,BF,Gv,BV,DB,BO,HQ,GQ,B5,Fs]
def rulT(n:Int):Rul:={ AT n.toNat with count:=(AT n.toNat).count+(AT n.toNat).prem.length }
theorem JD(n:Nat)(h:28<n):AT n= .zero:=by
 unfold AT;split<;>first|omega|rfl
theorem jiK(n:Int):(if n<10 then (if 1≤n then AT n.toNat else Rul.zero) else if n<19 then (if 10≤n then AT n.toNat else .zero) else (if 19≤n∧n<29 then AT n.toNat else .zero))=AT n.toNat:=by
 by_cases h1:n<10
 ·rw[if_pos h1]
  by_cases h2:1≤n
  ·rw[if_pos h2]
  ·rw[if_neg h2,show n.toNat=0 by omega];rfl
 rw[if_neg h1]
 by_cases h2:n<19
 ·rw[if_pos h2,if_pos (by omega)]
 rw[if_neg h2]
 by_cases h3:n<29
 ·rw[if_pos ⟨by omega,h3⟩]
 ·rw[if_neg (by omega),JD n.toNat (by omega)]
theorem jlK(n:Nat):(AT n).count≤2∧0≤(AT n).count∧(AT n).prem.length≤3:=by
 unfold AT;split<;>simp[Rul.zero]
theorem Re(n:Int):CallsF Tryz.prog 101 [.c (.int .i64 n)] (rulT n).res:=by
 have hs:=jlK n.toNat;have e:=jiK n;unfold rulT;generalize hR:AT n.toNat=R at*;obtain⟨nm,p,c,g,k,d⟩:=R;simp only at hs;simp only[Rul.res,Rul.ds]at*;refine Aj (T:=tb) Ai mixed Tryz.func101 rfl (by decide) (Ah rfl) rfl ?_;unfold St.init
 by_cases h1:n<10
 ·have c1:=jlQ n h1;rw[if_pos h1]at e;rw[hR,e]at c1;simp only[Rul.res,Rul.ds]at c1;simp -implicitDefEqProofs[jJ,-natCast_add,-natCast_mul,h1]
  (first|refine Ab c1 ?_|refine Aa c1 ?_)
  simp -implicitDefEqProofs[jJ,-natCast_add,-natCast_mul,Bl]
  trace_state
  omega
 rw[if_neg h1]at e
 by_cases h2:n<19
 ·have c1:=jcO n h2;rw[if_pos h2]at e;rw[hR,e]at c1;simp only[Rul.res,Rul.ds]at c1;simp -implicitDefEqProofs[jJ,-natCast_add,-natCast_mul,h1,h2]
  (first|refine Ab c1 ?_|refine Aa c1 ?_)
  simp -implicitDefEqProofs[jJ,-natCast_add,-natCast_mul,Bl]
  trace_state
  omega
 rw[if_neg h2]at e
 have c1:=jly n;rw[hR,e]at c1;simp only[Rul.res,Rul.ds]at c1;simp -implicitDefEqProofs[jJ,-natCast_add,-natCast_mul,h1,h2]
 (first|refine Ab c1 ?_|refine Aa c1 ?_)
 simp -implicitDefEqProofs[jJ,-natCast_add,-natCast_mul,Bl];omega
def Pat.Ok(p:Pat):Prop:=p.letters≠[]∧p.letters.length≤1000∧ ∀c∈p.letters,F4 c
def AU(b:Bnd)(p:Pat):List Int:=B4 (Bi b p.letters)
def FD(b:Bnd)(p:Pat):Grd:=⟨p.kind,AU b p⟩
def Cn:List Int→Bool
 |a::b::l=>if a=b then true else Cn (b::l)
 |_=>false
def guardsL(b:Bnd)(ps:List Pat):List Grd:=if ps.any (fun p=>Cn (AU b p)) then [] else FC (ps.map (FD b))
def FT(b:Bnd)(ps:List Pat):Bool:= !ps.any (fun p=>Cn (AU b p))
theorem jjH(b:Bnd)(c:UInt8):CQ b c≠[]:=by unfold CQ;split<;>simp
theorem jhN(b:Bnd){l:List UInt8}(h:l≠[]):Bi b l≠[]:=by
 cases l with
 |nil=>exact absurd rfl h
 |cons c r=>
  unfold Bi;rw[List.flatMap_cons];simp[jjH]
theorem G8(b:Bnd)(l:List UInt8):(Bi b l).length≤2*l.length:=by
 unfold Bi
 induction l with
 |nil=>simp
 |cons c r ih=>
  have:(CQ b c).length≤2:=by unfold CQ;split<;>simp
  rw[List.flatMap_cons,List.length_append,List.length_cons];omega
theorem twice_iff: ∀{l:List Int},Cn l=true↔ ∃i,∃h:i+1<l.length,l[i+1]=l[i]
 |[]=>by simp[Cn]
 |[a]=>by simp[Cn]
 |a::b::l=>by
  rw[Cn]
  by_cases h:a=b
  ·rw[if_pos h]
   simp only[true_iff];exact⟨0,by simp,by simp[h]⟩
  ·rw[if_neg h,twice_iff]
   constructor
   ·rintro⟨i,hi,e⟩
    exact⟨i+1,by simp at hi ⊢;omega,by simpa using e⟩
   ·rintro⟨i,hi,e⟩
    cases i with
    |zero=>exact absurd (by simpa using e.symm) h
    |succ i=>exact⟨i,by simp at hi ⊢;omega,by simpa using e⟩
theorem jm7{l:List Int}(h: ∀i (h:i+1<l.length),l[i+1]≠l[i]):Cn l=false:=by
 rw[Bool.eq_false_iff]
 intro h1;obtain⟨i,h2,h3⟩:=twice_iff.1 h1;exact h i h2 h3
theorem jb2(l:List Pat)(i:Nat)(h:i<l.length):((l.flatMap Pat.ds).drop (i*3)).take 3=l[i].ds:=E2 Pat.ds_len l i h
theorem Lb(l:List Pat)(i:Nat)(h:i<l.length):((l.flatMap Pat.ds).map C.d|>.drop (i*3)).take 3=[.d (.int .i64 l[i].kind),.d (.str (bs l[i].letters)),.d (.int .i64 l[i].n)]:=by
 have:=jb2 l i h
 rw[←List.map_drop,←List.map_take,this]
 rfl
@[simp high]theorem pat_len(l:List Pat):(l.flatMap Pat.ds).length=l.length*3:=Dz Pat.ds_len l
def CH(b:Bnd)(ps:List Pat)(i:Nat):List Grd:=(ps.take i).map (FD b)
theorem WX{b:Bnd}{ps:List Pat}{i:Nat}(h:i≤ps.length):(CH b ps i).length=i:=by simp[CH];omega
theorem jcG{b:Bnd}{ps:List Pat}{i:Nat}(h:i<ps.length):CH b ps (i+1)=CH b ps i++[FD b ps[i]]:=by
 unfold CH;rw[BX h,List.map_append];rfl
theorem XM(b:Bnd)(hb:b.Ok)(ps:List Pat)(hp: ∀p∈ps,p.Ok)(hl:ps.length≤1000):
  CallsF Tryz.prog 276 [.c (Bl ps),.agg b.ds] (.tup [.c (.own 2 (guardsL b ps).length ((guardsL b ps).flatMap Grd.ds)),.c (.d (.bool (FT b ps)))]):=by
 refine Aj (T:=tb) Ai mixed Tryz.func276 rfl (by decide) (Ah rfl) rfl ?_;unfold St.init
 simp only[Bl];simp -implicitDefEqProofs[jJ,-natCast_add,-natCast_mul,-List.reduceReplicate];refine CF [(6,45)] (fun i:Nat=>⟨[(13,vI .i64 i),(12,vI .i64 ps.length),(11,vC (.d (.slice ps.length (ps.flatMap Pat.ds)))),(6,vC (.sl 6 0 i)),(3,vC (.ptr 3 0))],[(6,.row 2 ((CH b ps i).flatMap Grd.ds) true),(3,.box b.cs)]⟩)
  (fun i=>i≤ps.length∧(ps.take i).any (fun p=>Cn (AU b p))=false) (fun i=>ps.length - i) 0 (by simp[As,lk,St.le,vI,vC,CH]) (by simp) ?_
 rintro i ⟨hi,hno⟩
 by_cases h:i<ps.length
 ·have g:=Lb ps i h;have hpi:=hp ps[i] (AK h);have b1:i*3+3≤ps.length*3:=by omega
  have q1:=Uu b hb ps[i].letters hpi.2.2 hpi.2.1;have hv:=jhN b hpi.1;have q2:=OU 20 (Bi b ps[i].letters) true hv (by have:=G8 b ps[i].letters;have:=hpi.2.1;omega)
  have hgl:=WX (b:=b) hi;have hsl:(B4 (Bi b ps[i].letters)).length=(Bi b ps[i].letters).length:=FM _;have hl2:(Bi b ps[i].letters).length≤2000:=by have:=G8 b ps[i].letters;have:=hpi.2.1;omega
  simp -implicitDefEqProofs[jJ,-natCast_add,-natCast_mul,-List.reduceReplicate,h,g];refine⟨by omega,?_⟩
  (first|refine Ab q1 ?_|refine Aa q1 ?_)
  have fl: ∀x:Int,(i64 x).flat=true:=fun _=>rfl
  simp -implicitDefEqProofs[jJ,-natCast_add,-natCast_mul,-List.reduceReplicate,fl];refine .inr (.inl (IM q2 (by simp[C6,U.all,C.id?]) (by simp[lk]) ?_))
  simp -implicitDefEqProofs[jJ,-natCast_add,-natCast_mul,-List.reduceReplicate,St.backW];rw[←hsl];refine AA (fun k:Nat=>⟨[(10,vI .i64 (k+1:Nat)),(9,vC (.sl 20 0 (AU b ps[i]).length)),(8,vC (.ptr 8 0)),(13,vI .i64 i),(12,vI .i64 ps.length),(11,vC (.d (.slice ps.length (ps.flatMap Pat.ds)))),(6,vC (.sl 6 0 i)),(3,vC (.ptr 3 0))],
    [(20,.row 1 ((AU b ps[i]).map i64) true),(8,.box [.d (.int .i64 ps[i].kind),.d (.str (bs ps[i].letters)),.d (.int .i64 ps[i].n)]),(6,.row 2 ((CH b ps i).flatMap Grd.ds) true),(3,.box b.cs)]⟩)
   (fun k=>k+1≤(AU b ps[i]).length∧ ∀j (h:j+1<(AU b ps[i]).length),j<k→(AU b ps[i])[j+1]≠(AU b ps[i])[j]) (fun k=>(AU b ps[i]).length - k) 0 (by simp[As,lk,St.le,vI,vC,AU]) ⟨by unfold AU;have:=List.length_pos_iff.2 hv;omega,fun j _ h=>by omega⟩ ?_
  rintro k ⟨hk,hne⟩
  have hl3:(AU b ps[i]).length≤2000:=by unfold AU;omega
  have ept:FD b ps[i]=⟨ps[i].kind,AU b ps[i]⟩:=rfl
  by_cases hk2:k+1<(AU b ps[i]).length
  ·have g1:(AU b ps[i])[k+1]? =some (AU b ps[i])[k+1]:=An hk2
   have g0:(AU b ps[i])[k]? =some ((AU b ps[i])[k]'(by omega)):=An (by omega)
   simp -implicitDefEqProofs[jJ,-natCast_add,-natCast_mul,-List.reduceReplicate,hk2];refine Ar (Ac [0,0,3,7,0,0,32,112,240,511]) [.any [] [] (Ak [[9],[10],[29,30],[31],[9],[10],[34],[33,35],[36]]),.one] (by rfl) ?_
   simp -implicitDefEqProofs[jJ,-natCast_add,-natCast_mul,-List.reduceReplicate,g0,g1,i64];refine⟨hk2,by omega,by omega,?_⟩
   by_cases he:(AU b ps[i])[k+1]=(AU b ps[i])[k]'(by omega)
   ·have ht:Cn (AU b ps[i])=true:=twice_iff.2 ⟨k,hk2,he⟩
    have ha:ps.any (fun p=>Cn (AU b p))=true:=List.any_eq_true.2 ⟨_,AK h,ht⟩
    simp -implicitDefEqProofs[jJ,-natCast_add,-natCast_mul,-List.reduceReplicate,he,guardsL,FT,ha]
   ·simp -implicitDefEqProofs[jJ,-natCast_add,-natCast_mul,-List.reduceReplicate,he];refine⟨by omega,⟨by omega,fun j hj hjk=> ?_⟩,by omega⟩
    rcases Nat.lt_succ_iff_lt_or_eq.1 hjk with h1|h1
    ·exact hne j hj h1
    ·subst h1;exact he
  ·have ht:Cn (AU b ps[i])=false:=jm7 fun j hj=>hne j hj (by omega)
   simp -implicitDefEqProofs[jJ,-natCast_add,-natCast_mul,-List.reduceReplicate,hk2];refine⟨by omega,by omega,by omega,i+1,⟨rfl,by rw[jcG h,List.flatMap_append];rfl⟩,⟨by omega,fun x hx=> ?_⟩,by omega⟩
   rw[BX h,List.mem_append]at hx
   rcases hx with hx|hx
   ·have:=List.any_eq_false.1 hno x hx
    simpa using this
   ·rw[List.mem_singleton.1 hx];exact ht
 ·have hi2:i=ps.length:=by omega
  subst hi2;have hgl:=WX (b:=b) hi;have hgt:CH b ps ps.length=ps.map (FD b):=by unfold CH;rw[Cq]
  rw[Cq]at hno
  have hs: ∀g∈CH b ps ps.length,g.Short:=fun g hg=>by
   rw[hgt]at hg
   obtain⟨p,hpm,rfl⟩:=jzk.1 hg
   have:=G8 b p.letters
   have:=(hp p hpm).2.1
   show(AU b p).length≤_
   unfold AU;rw[FM];omega
  have q3:=jnG (CH b ps ps.length) (by omega) hs
  rw[hgl]at q3
  simp -implicitDefEqProofs[jJ,-natCast_add,-natCast_mul,-List.reduceReplicate,h];refine .inr (.inr (.inr (.inr (.inr ⟨rfl,6,ps.length,2,_,_,(CH b ps ps.length).flatMap Grd.ds,_,_,[],rfl,by simp[lk],rfl,rfl,q3,?_⟩))))
  simp -implicitDefEqProofs[jJ,-natCast_add,-natCast_mul,-List.reduceReplicate,St.drop,guardsL,FT,hno,←hgt]
end Go.Va
