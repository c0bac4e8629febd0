/- a part of the proof -/
import Derived.Test.YtkfdniccmcolgaaGreatQax
import Derived.Test.YtkfdniccmcolgaaGreatQau
import Derived.Test.YtkfdniccmcolgaaGreatQaw
import Derived.Test.YtkfdniccmcolgaaGreatQaq
set_option linter.all false
set_option maxHeartbeats 4000000
set_option maxRecDepth 10000
namespace Go.Va
open Int (natCast_add natCast_mul natCast_emod natCast_ediv natCast_pow)
open Go.Proofs
theorem CallsA.less{P:Program}{f:FuncId}{sz n m:Nat}{cs cs' more:List D}{al:List A}(h:CallsA P f sz n cs al m (cs'++more)):CallsA P f sz n cs al m cs':=by
 refine⟨h.1,fun w Z ρ k v0 vals hZ hh hcz hone hv0 hv=>(h.2 w Z ρ k v0 vals hZ hh hcz hone hv0 hv).mono fun e w' ⟨v,he,ρ',h1,h2,h3,h4,h5⟩=>⟨v,he,ρ',h1,⟨h2.owns,fun j b hjb=> ?_⟩,h3,h4,h5⟩⟩
 by_cases e:j=k
 ·subst e;rw[Bh]at hjb;cases hjb;obtain⟨o,ho,q1,q2,q3,q4,q5⟩:=h2.rep j _ (Bh _ _ _);refine⟨o,ho,q1,q2,by simp at q3 ⊢;omega,q4,fun t x hx=>q5 t x ?_⟩
  rw[List.getElem?_append_left (jzg.1 hx).1]
  exact hx
 ·rw[Bz e]at hjb;cases hjb
def AV:List Grd→List Grd
 |a::b::l=>if a=b then AV (b::l) else a::AV (b::l)
 |l=>l
theorem PK: ∀(m:List Grd) (y x:Grd),AV (m++[y]++[x])=if y=x then AV (m++[y]) else AV (m++[y])++[x]
 |[],y,x=>by
  simp only[List.nil_append,List.cons_append,AV];split
  ·rename_i h;subst h;rfl
  ·rfl
 |[a],y,x=>by
  by_cases h1:a=y<;>by_cases h2:y=x<;>simp[AV,h1,h2]
 |a::b::m,y,x=>by
  have ih:=PK (b::m) y x;simp only[List.cons_append]at ih ⊢;rw[AV,AV,ih];split<;>split<;>rfl
theorem Ts{l:List Grd}{i:Nat}(h1:1≤i)(h:i<l.length):AV (l.take (i+1))=if l[i - 1]'(by omega)=l[i] then AV (l.take i) else AV (l.take i)++[l[i]]:=by
 obtain⟨j,rfl⟩: ∃j,i=j+1:=⟨i - 1,by omega⟩
 rw[AQ h,AQ (by omega:j<l.length)]
 exact PK _ _ _
theorem Tk: ∀l:List Grd,(AV l).length≤l.length
 |a::b::l=>by
  rw[AV]
  have:=Tk (b::l)
  split
  ·simp at*;omega
  ·simp at*;omega
 |[a]=>by simp[AV]
 |[]=>by simp[AV]
theorem Xg(l:List Grd)(i:Nat)(h:i<l.length):((l.flatMap Grd.ds).drop (i*2)).take 2=l[i].ds:=G1 Grd.ds_len l i h
@[simp high]theorem H5(l:List Grd):(l.flatMap Grd.ds).length=l.length*2:=EO Grd.ds_len l
theorem LU{α:Type}{e:α→List D}{k:Nat}(he: ∀a,(e a).length=k)(l:List α)(i:Nat)(v:α)(h:i<l.length):splice (i*k) (e v) (l.flatMap e)=(l.set i v).flatMap e:=by
 rw[splice,JC he,he,show i*k+k=(i+1)*k by rw[Nat.succ_mul],DZ he,List.set_eq_take_append_cons_drop,if_pos h]
 simp
theorem ZD(l:List Grd)(i:Nat)(v:Grd)(h:i<l.length):splice (i*2) [D.int .i64 v.kind,intsD v.args] (l.flatMap Grd.ds)=(l.set i v).flatMap Grd.ds:=LU Grd.ds_len l i v h
theorem jfD{α:Type}{e:α→List D}{k:Nat}(he: ∀a,(e a).length=k)(z:List D)(hz:z.length=k)(l:List α)(i:Nat)(h:i≤l.length):splice (i*k) (rep (l.length - i) z) (l.flatMap e)=(l.take i).flatMap e++(List.replicate (l.length - i) z).flatten:=by
 have e2: ∀n,rep n z=(List.replicate n z).flatten:=by
  intro n
  induction n with
  |zero=>rfl
  |succ n ih=>rw[rep,ih,List.replicate_succ,List.flatten_cons]
 have e3:((List.replicate (l.length - i) z).flatten).length=(l.length - i)*k:=by
  simp[List.length_flatten,hz]
 rw[splice,JC he,e2,e3,←Nat.add_mul,DZ he,show i+(l.length - i)=l.length by omega,List.drop_length]
 simp
theorem KH(l:List Grd)(i:Nat)(h:i<l.length):((l.flatMap Grd.ds).map C.d|>.drop (i*2)).take 2=[.d (.int .i64 l[i].kind),.d (intsD l[i].args)]:=by
 have:=Xg l i h
 rw[←List.map_drop,←List.map_take,this]
 rfl
theorem jgj(l:List Grd)(hl:l.length≤1099511627776)(hr: ∀g∈l,g.Short):
  CallsA Tryz.prog 61 2 l.length (l.flatMap Grd.ds) [.c (.fn 62 [])] (AV l).length ((AV l).flatMap Grd.ds):=by
 have key: ∃more,CallsA Tryz.prog 61 2 l.length (l.flatMap Grd.ds) [.c (.fn 62 [])] (AV l).length ((AV l).flatMap Grd.ds++more):=by
  by_cases h2:l.length<2
  ·refine⟨[],?_⟩
   have e:AV l=l:=by
    match l,h2 with
    |[],_=>rfl
    |[a],_=>rfl
    |a::b::l,h=>simp at h;omega
   rw[e,List.append_nil]
   refine Gt (T:=tb) Ad mixed Tryz.func61 rfl (by decide) (Ac rfl) rfl ?_;unfold St.initA
   simp -implicitDefEqProofs[jJ,-natCast_add,-natCast_mul,-List.map_set,h2,BK,CV]
  ·have same: ∀a b:Grd,a∈l→b∈l→CallsF Tryz.prog 62 [.agg a.ds,.agg b.ds] (.u (.c (.d (.bool (decide (a=b)))))):=fun a b ha hb=>by
    have:=Zj a b (hr a ha) (hr b hb)
    have e:decide (cmpG a b=0)=decide (a=b):=by simp[cmpG_zero]
    rwa [e]at this
   refine⟨(List.replicate (l.length - (AV l).length) [D.int .i64 0,.slice 0 []]).flatten,?_⟩
   refine Gt (T:=tb) Ad mixed Tryz.func61 rfl (by decide) (Ac rfl) rfl ?_;unfold St.initA
   simp -implicitDefEqProofs[jJ,-natCast_add,-natCast_mul,-List.map_set,h2,BK];refine Av (fun j:Nat=>⟨[(5,vI .i64 (j+1:Nat)),(0,vC (.sl 2000000 0 l.length)),(1,vC (.d (.fn 62 [])))],[(2000000,.row 2 (l.flatMap Grd.ds) true)]⟩) (fun j=>j+1≤l.length∧AV (l.take (j+1))=l.take (j+1)) (fun j=>l.length - j) 0 (by simp[An,lk,St.le,vI,vC]) ⟨by omega,by
    match l,h2 with
    |a::b::l,_=>rfl
    |[a],_=>rfl
    |[],h=>simp at h⟩ ?_
   rintro j ⟨hj,hc⟩
   by_cases h:j+1<l.length
   ·have g1:=KH l (j+1) h;have g0:=KH l j (by omega)
    have q:=same l[j+1] (l[j]'(by omega)) (Ak _) (Ak _)
    have ct:=Ts (l:=l) (i:=j+1) (by omega) h
    simp only[Nat.add_sub_cancel]at ct;have b1:(j+1)*2+2≤l.length*2:=by omega
    have b0:j*2+2≤l.length*2:=by omega
    simp only[Grd.ds]at q;simp -implicitDefEqProofs[jJ,-natCast_add,-natCast_mul,-List.map_set,h];refine Af (Aj [0,0,0,6,14,0,0,64,224,480,1023]) [.any [] [] (Ao [[1],[0],[5],[19,20],[21],[0],[5],[24],[23,25],[26]]),.one] (by rfl) ?_
    simp -implicitDefEqProofs[jJ,-natCast_add,-natCast_mul,-List.map_set,g0,g1];refine⟨h,b1,by omega,by omega,b0,?_⟩
    refine Aa q ?_;by_cases he:l[j+1]=l[j]'(by omega)
    ·simp -implicitDefEqProofs[jJ,-natCast_add,-natCast_mul,-List.map_set,he];refine⟨by omega,?_⟩
     have e1:AV (l.take (j+1+1))=l.take (j+1):=by rw[ct,if_pos he.symm,hc]
     refine Av (fun x:Nat×Nat×List Grd=>⟨[(7,vI .i64 (x.1+1:Nat)),(6,vC (.sl 2000000 (j+1) (l.length - (j+1)))),(5,vI .i64 (x.2.1:Nat)),(0,vC (.sl 2000000 0 l.length)),(1,vC (.d (.fn 62 [])))],[(2000000,.row 2 (x.2.2.flatMap Grd.ds) true)]⟩)
      (fun x=>j+1+x.1+1≤l.length∧x.2.1≤j+1+x.1∧x.2.2.length=l.length∧x.2.2.take x.2.1=AV (l.take (j+1+x.1+1))∧x.2.1=(AV (l.take (j+1+x.1+1))).length∧ ∀p,j+1+x.1≤p→x.2.2[p]? =l[p]?) (fun x=>l.length - x.1) (0,j+1,l) (by simp[An,lk,St.le,vI,vC]) (by
      refine⟨by show j+1+0+1≤_;omega,by show j+1≤j+1+0;omega,rfl,by show l.take (j+1)=_;rw[Nat.add_zero,e1],?_,fun p _=>rfl⟩
      show j+1=_
      rw[Nat.add_zero,e1,AG];omega) ?_
     rintro⟨m,K,G⟩ ⟨h3,h4,h5,h6,h7,h8⟩
     simp only at h3 h4 h5 h6 h7 h8;by_cases hm:m+1<l.length - (j+1)
     ·have hG: ∀p (hp:j+1+m≤p) (hl:p<l.length),G[p]'(by omega)=l[p]:=fun p hp hl=>by
       have:=h8 p hp
       rw[Ai (by omega),Ai hl]at this
       exact AX this
      have q1:=KH G (j+1+(m+1)) (by omega)
      have q0:=KH G (j+1+m) (by omega)
      rw[hG _ (by omega) (by omega)]at q1 q0
      have q:=same (l[j+1+(m+1)]'(by omega)) (l[j+1+m]'(by omega)) (Ak _) (Ak _)
      simp only[Grd.ds]at q;have ct2:=Ts (l:=l) (i:=j+1+m+1) (by omega) (by omega)
      have c1:(j+1+(m+1))*2+2≤l.length*2:=by omega
      have c0:(j+1+m)*2+2≤l.length*2:=by omega
      simp -implicitDefEqProofs[jJ,-natCast_add,-natCast_mul,-List.map_set,hm];refine Af (Aj [0,0,0,6,14,0,0,64,224,480,1023,2047]) [.any [] [] (Ao [[1],[6],[7],[39,40],[41],[6],[7],[44],[43,45],[46]]),.one,.one] (by rfl) ?_
      simp -implicitDefEqProofs[jJ,-natCast_add,-natCast_mul,-List.map_set,q0,q1,h5];refine⟨hm,c1,by omega,by omega,c0,?_⟩
      refine Aa q ?_;by_cases he2:l[j+1+(m+1)]'(by omega)=l[j+1+m]'(by omega)
      ·have e2:AV (l.take (j+1+(m+1)+1))=AV (l.take (j+1+m+1)):=by
        rw[show j+1+(m+1)+1=j+1+m+1+1 from rfl,ct2]
        exact if_pos he2.symm
       simp -implicitDefEqProofs[jJ,-natCast_add,-natCast_mul,-List.map_set,he2];exact⟨by omega,m+1,K,G,⟨⟨rfl,rfl⟩,rfl⟩,⟨by omega,by omega,h5,by rw[e2];exact h6,by rw[e2];exact h7,fun p hp=>h8 p (by omega)⟩,by omega⟩
      ·have e2:AV (l.take (j+1+(m+1)+1))=AV (l.take (j+1+m+1))++[l[j+1+(m+1)]'(by omega)]:=by
        rw[show j+1+(m+1)+1=j+1+m+1+1 from rfl,ct2]
        exact if_neg fun h=>he2 h.symm
       simp -implicitDefEqProofs[jJ,-natCast_add,-natCast_mul,-List.map_set,he2,q1,h5];refine⟨hm,c1,by omega,by omega,?_⟩
       refine⟨by omega,by omega,m+1,K+1,G.set K (l[j+1+(m+1)]'(by omega)),⟨⟨rfl,rfl⟩,ZD G K _ (by omega)⟩,⟨by omega,by omega,by simp[h5],?_,by rw[e2,List.length_append,←h7];rfl,fun p hp=> ?_⟩,by omega⟩
       ·rw[e2,←h6,AQ (by simp;omega),List.getElem_set_self,List.take_set_of_le (AA _)]
       ·rw[List.getElem?_set_ne (by omega)]
        exact h8 p (by omega)
     ·have e3:j+1+m+1=l.length:=by omega
      rw[e3,AZ]at h6 h7
      have e4:=jfD Grd.ds_len [D.int .i64 0,D.slice 0 []] rfl G K (by omega)
      rw[h5,h6]at e4
      simp -implicitDefEqProofs[jJ,-natCast_add,-natCast_mul,-List.map_set,hm,h5,clearTo];refine⟨by omega,by omega,by omega,?_⟩
      rw[e4]
      simp only[CV,h7];exact⟨.inl trivial,2000000,rfl,by simp[lk]⟩
    ·simp -implicitDefEqProofs[jJ,-natCast_add,-natCast_mul,-List.map_set,he];exact⟨by omega,⟨by omega,by rw[ct,if_neg fun h=>he h.symm,hc];exact(AQ h).symm⟩,by omega⟩
   ·have e:j+1=l.length:=by omega
    rw[e,AZ]at hc
    simp -implicitDefEqProofs[jJ,-natCast_add,-natCast_mul,-List.map_set,h,CV];exact⟨_,⟨rfl,by rw[hc]⟩,by simp[hc]⟩
 obtain⟨more,h⟩:=key
 exact h.less
def BV(l:List Grd):List Grd:=AV (Hb l)
theorem OG(l:List Grd):(Hb l).length=l.length:=I0 l
theorem sortG_mem{l:List Grd}{g:Grd}:g∈Hb l↔g∈l:=(DV l).mem_iff
theorem OJ: ∀l:List Grd,(AV l).Sublist l
 |a::b::l=>by
  rw[AV]
  split
  ·exact .cons _ (OJ _)
  ·exact .cons_cons _ (OJ _)
 |[a]=> .refl _
 |[]=> .refl _
theorem VM{l:List Grd}{g:Grd}(h:g∈BV l):g∈l:=sortG_mem.1 ((OJ _).subset h)
theorem Rb(l:List Grd):(BV l).length≤l.length:=by
 have:=Tk (Hb l)
 rwa [OG]at this
theorem Qf(l:List Grd)(hl:l.length≤1099511627776)(hr: ∀g∈l,g.Short):
  CallsA Tryz.prog 30 2 l.length (l.flatMap Grd.ds) [] (BV l).length ((BV l).flatMap Grd.ds):=by
 have q1:=fun i=>jgA i l true hl hr
 have q2:=jgj (Hb l) (by rw[OG];omega) (fun g hg=>hr g (sortG_mem.1 hg))
 rw[OG]at q2
 refine Gt (T:=tb) Ad mixed Tryz.func30 rfl (by decide) (Ac rfl) rfl ?_;unfold St.initA
 simp -implicitDefEqProofs[jJ,-natCast_add,-natCast_mul,BK];refine .inr (.inl (Fw (q1 2000000) (by simp[CW,U.all,C.id?]) (by simp[lk]) ?_))
 simp -implicitDefEqProofs[jJ,-natCast_add,-natCast_mul,St.backW];refine .inr (.inr (.inr (.inr (.inr ⟨rfl,2000000,l.length,2,_,_,(Hb l).flatMap Grd.ds,_,_,[_],rfl,by simp[lk],rfl,rfl,q2,?_⟩))))
 simp -implicitDefEqProofs[jJ,-natCast_add,-natCast_mul,St.drop,CV,BV]
def AJ:Nat→Rul
 |1=>⟨[112,97,114,97,108,108,101,108],[DC [115,116],DC [115,117]],[DC [116,117]],[DA [115]],0,.nilFn⟩
 |2=>⟨[112,101,114,112,101,110,100,105,99,117,108,97,114],[DC [115,116],Do [115,117]],[Do [116,117]],[DA [115]],0,.nilFn⟩
 |3=>⟨[110,111,114,109,97,108,115],[Do [115,116],Do [115,117]],[DC [116,117]],[DA [115]],0,.nilFn⟩
 |4=>⟨[108,101,110,103,116,104,115],[],[],[],2,.fn 142 []⟩
 |5=>⟨[109,105,100,112,111,105,110,116],[Dk [77,65,66]],[Iu [77,65,66],CT [77,65,77,66],I6 [65,66,77,65] 4],[],0,.nilFn⟩
 |6=>⟨[109,105,100,108,105,110,101],[Dk [77,65,66],Dk [78,65,67]],[DC [77,78,66,67],I6 [66,67,77,78] 4],[],0,.nilFn⟩
 |7=>⟨[100,105,97,103,111,110,97,108,115],[Dk [77,65,66],Dk [77,67,68]],[DC [65,67,66,68],CT [65,67,66,68]],[],0,.nilFn⟩
 |8=>⟨[117,110,105,113,117,101],[Dk [77,65,66],Dk [78,65,66]],[LS [77,78]],[],0,.nilFn⟩
 |9=>⟨[115,117,98,115,116,105,116,117,116,105,111,110],[],[],[],2,.fn 148 []⟩
 |10=>⟨[101,113,117,105,100,105,115,116,97,110,116],[CT [80,65,80,66],CT [81,65,81,66]],[Do [65,66,80,81]],[],0,.nilFn⟩
 |11=>⟨[99,105,114,99,108,101],[CT [79,65,79,66],CT [79,65,79,67],CT [79,65,79,68]],[Fs [65,66,67,68]],[],0,.nilFn⟩
 |12=>⟨[99,111,110,99,121,99,108,105,99],[Fs [65,66,67,68],Fs [65,66,67,69]],[Fs [65,66,68,69]],[G3 [65,66,67]],0,.nilFn⟩
 |13=>⟨[105,110,115,99,114,105,98,101,100],[Fs [65,66,67,68]],[C2 [67,65,67,66,68,65,68,66]],[],0,.nilFn⟩
 |14=>⟨[97,114,99],[C2 [67,65,67,66,68,65,68,66]],[Fs [65,66,67,68]],[],0,.nilFn⟩
 |15=>⟨[115,117,109,115],[C2 [117,115,116,118],C2 [115,119,120,116]],[C2 [117,119,120,118]],[DA [115],DA [116]],0,.nilFn⟩
 |16=>⟨[100,105,102,102,101,114,101,110,99,101,115],[C2 [115,116,117,118],C2 [115,116,119,120]],[C2 [119,117,120,118]],[DA [115],DA [116]],0,.nilFn⟩
 |17=>⟨[100,105,114,101,99,116,105,111,110,115],[C2 [115,117,118,119],DC [115,116]],[C2 [116,117,118,119]],[DA [115]],0,.nilFn⟩
 |18=>⟨[100,105,97,109,101,116,101,114],[Do [67,65,67,66],Do [68,65,68,66]],[Fs [65,66,67,68]],[],0,.nilFn⟩
 |19=>⟨[99,97,110,99,101,108],[C2 [115,115,116,117]],[DC [116,117]],[DA [115]],0,.nilFn⟩
 |20=>⟨[114,105,103,104,116],[C2 [115,116,117,118],Do [115,116]],[Do [117,118]],[DA [115],DA [116]],0,.nilFn⟩
 |21=>⟨[105,115,111,115,99,101,108,101,115],[CT [79,65,79,66]],[C2 [79,65,65,66,65,66,79,66]],[],0,.nilFn⟩
 |22=>⟨[98,97,115,101],[C2 [79,65,65,66,65,66,79,66]],[CT [79,65,79,66]],[G3 [79,65,66]],0,.nilFn⟩
 |23=>⟨[116,104,97,108,101,115],[Dk [79,65,66],CT [79,65,79,67]],[Do [67,65,67,66]],[],0,.nilFn⟩
 |24=>⟨[104,121,112,111,116,101,110,117,115,101],[Dk [77,65,66],Do [67,65,67,66]],[CT [77,65,77,67]],[],0,.nilFn⟩
 |25=>⟨[98,105,115,101,99,116,111,114],[Dk [77,65,66],Do [77,67,65,66]],[CT [67,65,67,66]],[],0,.nilFn⟩
 |26=>⟨[115,105,100,101],[Dk [77,65,66],DC [77,78,66,67],Iu [65,78,67]],[Dk [78,65,67]],[G3 [65,66,67]],0,.nilFn⟩
 |27=>⟨[112,97,114,97,108,108,101,108,111,103,114,97,109],[DC [65,66,67,68],DC [65,67,66,68]],[CT [65,66,67,68],CT [65,67,66,68]],[G3 [65,66,67]],0,.nilFn⟩
 |28=>⟨[109,105,100,100,108,101],[Iu [77,65,66],CT [77,65,77,66]],[Dk [77,65,66]],[DA [65,66]],0,.nilFn⟩
 |_=> .zero
def Rul.res(r:Rul):R:= .u (.agg (r.ds.map .d))
theorem Z8(n:Int)(h:n<10):CallsF Tryz.prog 75 [.c (.int .i64 n)] (Rul.res (if 1≤n then AJ n.toNat else .zero)):=by
 refine Ae (T:=tb) Ad mixed Tryz.func75 rfl (by decide) (Ac rfl) rfl ?_;unfold St.init
 by_cases h1:n=1
 rotate_left
 by_cases h2:n=2
 rotate_left
 by_cases h3:n=3
 rotate_left
 by_cases h4:n=4
 rotate_left
 by_cases h5:n=5
 rotate_left
 by_cases h6:n=6
 rotate_left
 by_cases h7:n=7
 rotate_left
 by_cases h8:n=8
 rotate_left
 by_cases h9:n=9
 rotate_left
 simp -implicitDefEqProofs[jJ,-natCast_add,-natCast_mul,h1,h2,h3,h4,h5,h6,h7,h8,h9];rw[if_neg (by omega)]
 simp[Rul.res,Rul.ds,Rul.zero,B9,bs,show ByteArray.empty=⟨#[]⟩ from rfl]
 all_goals
  subst n;simp -implicitDefEqProofs[jJ,-natCast_add,-natCast_mul]
  repeat ((first|refine .inl ⟨_,Ol _ _,?_⟩|refine .inl ⟨_,Nx _,?_⟩|refine .inl ⟨_,N3 _,?_⟩|refine .inl ⟨_,NN _,?_⟩|refine .inl ⟨_,NY _,?_⟩|refine .inl ⟨_,Nq _,?_⟩|refine .inl ⟨_,Np _,?_⟩|refine .inl ⟨_,O8 _,?_⟩|refine .inl ⟨_,Oz _,?_⟩|refine .inl ⟨_,MA _ _,?_⟩|refine .inl ⟨_,Nl _,?_⟩|refine .inl ⟨_,O6 _,?_⟩);simp -implicitDefEqProofs[jJ,-natCast_add,-natCast_mul])
  simp[Rul.res,Rul.ds,AJ,B9,Pat.ds,bs,DC,Do,CT,Iu,Dk,Fs,C2,LS,I6,DA,G3]
theorem jfj(n:Int)(h:n<19):CallsF Tryz.prog 76 [.c (.int .i64 n)] (Rul.res (if 10≤n then AJ n.toNat else .zero)):=by
 refine Ae (T:=tb) Ad mixed Tryz.func76 rfl (by decide) (Ac rfl) rfl ?_;unfold St.init
 by_cases h10:n=10
 rotate_left
 by_cases h11:n=11
 rotate_left
 by_cases h12:n=12
 rotate_left
 by_cases h13:n=13
 rotate_left
 by_cases h14:n=14
 rotate_left
 by_cases h15:n=15
 rotate_left
 by_cases h16:n=16
 rotate_left
 by_cases h17:n=17
 rotate_left
 by_cases h18:n=18
 rotate_left
 simp -implicitDefEqProofs[jJ,-natCast_add,-natCast_mul,h10,h11,h12,h13,h14,h15,h16,h17,h18];rw[if_neg (by omega)]
 simp[Rul.res,Rul.ds,Rul.zero,B9,bs,show ByteArray.empty=⟨#[]⟩ from rfl]
 all_goals
  subst n;simp -implicitDefEqProofs[jJ,-natCast_add,-natCast_mul]
  repeat ((first|refine .inl ⟨_,Ol _ _,?_⟩|refine .inl ⟨_,Nx _,?_⟩|refine .inl ⟨_,N3 _,?_⟩|refine .inl ⟨_,NN _,?_⟩|refine .inl ⟨_,NY _,?_⟩|refine .inl ⟨_,Nq _,?_⟩|refine .inl ⟨_,Np _,?_⟩|refine .inl ⟨_,O8 _,?_⟩|refine .inl ⟨_,Oz _,?_⟩|refine .inl ⟨_,MA _ _,?_⟩|refine .inl ⟨_,Nl _,?_⟩|refine .inl ⟨_,O6 _,?_⟩);simp -implicitDefEqProofs[jJ,-natCast_add,-natCast_mul])
  simp[Rul.res,Rul.ds,AJ,B9,Pat.ds,bs,DC,Do,CT,Iu,Dk,Fs,C2,LS,I6,DA,G3]
theorem Yc(n:Int):CallsF Tryz.prog 77 [.c (.int .i64 n)] (Rul.res (if 19≤n∧n<29 then AJ n.toNat else .zero)):=by
 refine Ae (T:=tb) Ad mixed Tryz.func77 rfl (by decide) (Ac rfl) rfl ?_;unfold St.init
 by_cases h19:n=19
 rotate_left
 by_cases h20:n=20
 rotate_left
 by_cases h21:n=21
 rotate_left
 by_cases h22:n=22
 rotate_left
 by_cases h23:n=23
 rotate_left
 by_cases h24:n=24
 rotate_left
 by_cases h25:n=25
 rotate_left
 by_cases h26:n=26
 rotate_left
 by_cases h27:n=27
 rotate_left
 by_cases h28:n=28
 rotate_left
 simp -implicitDefEqProofs[jJ,-natCast_add,-natCast_mul,h19,h20,h21,h22,h23,h24,h25,h26,h27,h28];rw[if_neg (by omega)]
 simp[Rul.res,Rul.ds,Rul.zero,B9,bs,show ByteArray.empty=⟨#[]⟩ from rfl]
 all_goals
  subst n;simp -implicitDefEqProofs[jJ,-natCast_add,-natCast_mul]
  repeat ((first|refine .inl ⟨_,Ol _ _,?_⟩|refine .inl ⟨_,Nx _,?_⟩|refine .inl ⟨_,N3 _,?_⟩|refine .inl ⟨_,NN _,?_⟩|refine .inl ⟨_,NY _,?_⟩|refine .inl ⟨_,Nq _,?_⟩|refine .inl ⟨_,Np _,?_⟩|refine .inl ⟨_,O8 _,?_⟩|refine .inl ⟨_,Oz _,?_⟩|refine .inl ⟨_,MA _ _,?_⟩|refine .inl ⟨_,Nl _,?_⟩|refine .inl ⟨_,O6 _,?_⟩);simp -implicitDefEqProofs[jJ,-natCast_add,-natCast_mul])
  simp[Rul.res,Rul.ds,AJ,B9,Pat.ds,bs,DC,Do,CT,Iu,Dk,Fs,C2,LS,I6,DA,G3]
def rulT(n:Int):Rul:={ AJ n.toNat with count:=(AJ n.toNat).count+(AJ n.toNat).prem.length }
theorem IK(n:Nat)(h:28<n):AJ n= .zero:=by
 unfold AJ;split<;>first|omega|rfl
theorem jcL(n:Int):(if n<10 then (if 1≤n then AJ n.toNat else Rul.zero) else if n<19 then (if 10≤n then AJ n.toNat else .zero) else (if 19≤n∧n<29 then AJ n.toNat else .zero))=AJ n.toNat:=by
 by_cases h1:n<10
 ·rw[if_pos h1]
  by_cases h2:1≤n
  ·rw[if_pos h2]
  ·rw[if_neg h2,show n.toNat=0 by omega];rfl
 rw[if_neg h1]
 by_cases h2:n<19
 ·rw[if_pos h2,if_pos (by omega)]
 rw[if_neg h2]
 by_cases h3:n<29
 ·rw[if_pos ⟨by omega,h3⟩]
 ·rw[if_neg (by omega),IK n.toNat (by omega)]
theorem ja3(n:Nat):(AJ n).count≤2∧0≤(AJ n).count∧(AJ n).prem.length≤3:=by
 unfold AJ;split<;>simp[Rul.zero]
theorem Wj(n:Int):CallsF Tryz.prog 37 [.c (.int .i64 n)] (rulT n).res:=by
 have hs:=ja3 n.toNat;have e:=jcL n;unfold rulT;generalize hR:AJ n.toNat=R at*;obtain⟨nm,p,c,g,k,d⟩:=R;simp only at hs;simp only[Rul.res,Rul.ds]at*;refine Ae (T:=tb) Ad mixed Tryz.func37 rfl (by decide) (Ac rfl) rfl ?_;unfold St.init
 by_cases h1:n<10
 ·have c1:=Z8 n h1;rw[if_pos h1]at e;rw[hR,e]at c1;simp only[Rul.res,Rul.ds]at c1;simp -implicitDefEqProofs[jJ,-natCast_add,-natCast_mul,h1];refine Aa c1 ?_;simp -implicitDefEqProofs[jJ,-natCast_add,-natCast_mul,B9]
  trace_state
  omega
 rw[if_neg h1]at e
 by_cases h2:n<19
 ·have c1:=jfj n h2;rw[if_pos h2]at e;rw[hR,e]at c1;simp only[Rul.res,Rul.ds]at c1;simp -implicitDefEqProofs[jJ,-natCast_add,-natCast_mul,h1,h2];refine Aa c1 ?_;simp -implicitDefEqProofs[jJ,-natCast_add,-natCast_mul,B9]
  trace_state
  omega
 rw[if_neg h2]at e
 have c1:=Yc n;rw[hR,e]at c1;simp only[Rul.res,Rul.ds]at c1;simp -implicitDefEqProofs[jJ,-natCast_add,-natCast_mul,h1,h2];refine Aa c1 ?_;simp -implicitDefEqProofs[jJ,-natCast_add,-natCast_mul,B9];omega
def Pat.Ok(p:Pat):Prop:=p.letters≠[]∧p.letters.length≤1000∧ ∀c∈p.letters,Cu c
def Bc(b:Bnd)(p:Pat):List Int:=BE (Bi b p.letters)
def GQ(b:Bnd)(p:Pat):Grd:=⟨p.kind,Bc b p⟩
def BO:List Int→Bool
 |a::b::l=>if a=b then true else BO (b::l)
 |_=>false
def guardsL(b:Bnd)(ps:List Pat):List Grd:=if ps.any (fun p=>BO (Bc b p)) then [] else BV (ps.map (GQ b))
def Gv(b:Bnd)(ps:List Pat):Bool:= !ps.any (fun p=>BO (Bc b p))
theorem jhC(b:Bnd)(c:UInt8):C4 b c≠[]:=by unfold C4;split<;>simp
theorem Za(b:Bnd){l:List UInt8}(h:l≠[]):Bi b l≠[]:=by
 cases l with
 |nil=>exact absurd rfl h
 |cons c r=>
  unfold Bi;rw[List.flatMap_cons];simp[jhC]
theorem JV(b:Bnd)(l:List UInt8):(Bi b l).length≤2*l.length:=by
 unfold Bi
 induction l with
 |nil=>simp
 |cons c r ih=>
  have:(C4 b c).length≤2:=by unfold C4;split<;>simp
  rw[List.flatMap_cons,List.length_append,List.length_cons];omega
theorem twice_iff: ∀{l:List Int},BO l=true↔ ∃i,∃h:i+1<l.length,l[i+1]=l[i]
 |[]=>by simp[BO]
 |[a]=>by simp[BO]
 |a::b::l=>by
  rw[BO]
  by_cases h:a=b
  ·rw[if_pos h]
   simp only[true_iff];exact⟨0,by simp,by simp[h]⟩
  ·rw[if_neg h,twice_iff]
   constructor
   ·rintro⟨i,hi,e⟩
    exact⟨i+1,by simp at hi ⊢;omega,by simpa using e⟩
   ·rintro⟨i,hi,e⟩
    cases i with
    |zero=>exact absurd (by simpa using e.symm) h
    |succ i=>exact⟨i,by simp at hi ⊢;omega,by simpa using e⟩
theorem X4{l:List Int}(h: ∀i (h:i+1<l.length),l[i+1]≠l[i]):BO l=false:=by
 rw[Bool.eq_false_iff]
 intro h1;obtain⟨i,h2,h3⟩:=twice_iff.1 h1;exact h i h2 h3
theorem Zw(l:List Pat)(i:Nat)(h:i<l.length):((l.flatMap Pat.ds).drop (i*3)).take 3=l[i].ds:=G1 Pat.ds_len l i h
theorem NU(l:List Pat)(i:Nat)(h:i<l.length):((l.flatMap Pat.ds).map C.d|>.drop (i*3)).take 3=[.d (.int .i64 l[i].kind),.d (.str (bs l[i].letters)),.d (.int .i64 l[i].n)]:=by
 have:=Zw l i h
 rw[←List.map_drop,←List.map_take,this]
 rfl
@[simp high]theorem pat_len(l:List Pat):(l.flatMap Pat.ds).length=l.length*3:=EO Pat.ds_len l
def Ee(b:Bnd)(ps:List Pat)(i:Nat):List Grd:=(ps.take i).map (GQ b)
theorem SC{b:Bnd}{ps:List Pat}{i:Nat}(h:i≤ps.length):(Ee b ps i).length=i:=by simp[Ee];omega
theorem ZG{b:Bnd}{ps:List Pat}{i:Nat}(h:i<ps.length):Ee b ps (i+1)=Ee b ps i++[GQ b ps[i]]:=by
 unfold Ee;rw[AQ h,List.map_append];rfl
theorem jgD(b:Bnd)(hb:b.Ok)(ps:List Pat)(hp: ∀p∈ps,p.Ok)(hl:ps.length≤1000):
  CallsF Tryz.prog 109 [.c (B9 ps),.agg b.ds] (.tup [.c (.own 2 (guardsL b ps).length ((guardsL b ps).flatMap Grd.ds)),.c (.d (.bool (Gv b ps)))]):=by
 refine Ae (T:=tb) Ad mixed Tryz.func109 rfl (by decide) (Ac rfl) rfl ?_;unfold St.init
 simp only[B9];simp -implicitDefEqProofs[jJ,-natCast_add,-natCast_mul,-List.reduceReplicate];refine BA [(6,45)] (fun i:Nat=>⟨[(13,vI .i64 i),(12,vI .i64 ps.length),(11,vC (.d (.slice ps.length (ps.flatMap Pat.ds)))),(6,vC (.sl 6 0 i)),(3,vC (.ptr 3 0))],[(6,.row 2 ((Ee b ps i).flatMap Grd.ds) true),(3,.box b.cs)]⟩)
  (fun i=>i≤ps.length∧(ps.take i).any (fun p=>BO (Bc b p))=false) (fun i=>ps.length - i) 0 (by simp[An,lk,St.le,vI,vC,Ee]) (by simp) ?_
 rintro i ⟨hi,hno⟩
 by_cases h:i<ps.length
 ·have g:=NU ps i h;have hpi:=hp ps[i] (Ak h);have b1:i*3+3≤ps.length*3:=by omega
  have q1:=Uj b hb ps[i].letters hpi.2.2 hpi.2.1;have hv:=Za b hpi.1;have q2:=Uk 20 (Bi b ps[i].letters) true hv (by have:=JV b ps[i].letters;have:=hpi.2.1;omega)
  have hgl:=SC (b:=b) hi;have hsl:(BE (Bi b ps[i].letters)).length=(Bi b ps[i].letters).length:=Hg _;have hl2:(Bi b ps[i].letters).length≤2000:=by have:=JV b ps[i].letters;have:=hpi.2.1;omega
  simp -implicitDefEqProofs[jJ,-natCast_add,-natCast_mul,-List.reduceReplicate,h,g];refine⟨by omega,?_⟩
  refine Aa q1 ?_;have fl: ∀x:Int,(i64 x).flat=true:=fun _=>rfl
  simp -implicitDefEqProofs[jJ,-natCast_add,-natCast_mul,-List.reduceReplicate,fl];refine .inr (.inl (Fw q2 (by simp[CW,U.all,C.id?]) (by simp[lk]) ?_))
  simp -implicitDefEqProofs[jJ,-natCast_add,-natCast_mul,-List.reduceReplicate,St.backW];rw[←hsl];refine Av (fun k:Nat=>⟨[(10,vI .i64 (k+1:Nat)),(9,vC (.sl 20 0 (Bc b ps[i]).length)),(8,vC (.ptr 8 0)),(13,vI .i64 i),(12,vI .i64 ps.length),(11,vC (.d (.slice ps.length (ps.flatMap Pat.ds)))),(6,vC (.sl 6 0 i)),(3,vC (.ptr 3 0))],
    [(20,.row 1 ((Bc b ps[i]).map i64) true),(8,.box [.d (.int .i64 ps[i].kind),.d (.str (bs ps[i].letters)),.d (.int .i64 ps[i].n)]),(6,.row 2 ((Ee b ps i).flatMap Grd.ds) true),(3,.box b.cs)]⟩)
   (fun k=>k+1≤(Bc b ps[i]).length∧ ∀j (h:j+1<(Bc b ps[i]).length),j<k→(Bc b ps[i])[j+1]≠(Bc b ps[i])[j]) (fun k=>(Bc b ps[i]).length - k) 0 (by simp[An,lk,St.le,vI,vC,Bc]) ⟨by unfold Bc;have:=List.length_pos_iff.2 hv;omega,fun j _ h=>by omega⟩ ?_
  rintro k ⟨hk,hne⟩
  have hl3:(Bc b ps[i]).length≤2000:=by unfold Bc;omega
  have ept:GQ b ps[i]=⟨ps[i].kind,Bc b ps[i]⟩:=rfl
  by_cases hk2:k+1<(Bc b ps[i]).length
  ·have g1:(Bc b ps[i])[k+1]? =some (Bc b ps[i])[k+1]:=Ai hk2
   have g0:(Bc b ps[i])[k]? =some ((Bc b ps[i])[k]'(by omega)):=Ai (by omega)
   simp -implicitDefEqProofs[jJ,-natCast_add,-natCast_mul,-List.reduceReplicate,hk2];refine Af (Aj [0,0,3,7,0,0,32,112,240,511]) [.any [] [] (Ao [[9],[10],[29,30],[31],[9],[10],[34],[33,35],[36]]),.one] (by rfl) ?_
   simp -implicitDefEqProofs[jJ,-natCast_add,-natCast_mul,-List.reduceReplicate,g0,g1,i64];refine⟨hk2,by omega,by omega,?_⟩
   by_cases he:(Bc b ps[i])[k+1]=(Bc b ps[i])[k]'(by omega)
   ·have ht:BO (Bc b ps[i])=true:=twice_iff.2 ⟨k,hk2,he⟩
    have ha:ps.any (fun p=>BO (Bc b p))=true:=List.any_eq_true.2 ⟨_,Ak h,ht⟩
    simp -implicitDefEqProofs[jJ,-natCast_add,-natCast_mul,-List.reduceReplicate,he,guardsL,Gv,ha]
   ·simp -implicitDefEqProofs[jJ,-natCast_add,-natCast_mul,-List.reduceReplicate,he];refine⟨by omega,⟨by omega,fun j hj hjk=> ?_⟩,by omega⟩
    rcases Nat.lt_succ_iff_lt_or_eq.1 hjk with h1|h1
    ·exact hne j hj h1
    ·subst h1;exact he
  ·have ht:BO (Bc b ps[i])=false:=X4 fun j hj=>hne j hj (by omega)
   simp -implicitDefEqProofs[jJ,-natCast_add,-natCast_mul,-List.reduceReplicate,hk2];refine⟨by omega,by omega,by omega,i+1,⟨rfl,by rw[ZG h,List.flatMap_append];rfl⟩,⟨by omega,fun x hx=> ?_⟩,by omega⟩
   rw[AQ h,List.mem_append]at hx
   rcases hx with hx|hx
   ·have:=List.any_eq_false.1 hno x hx
    simpa using this
   ·rw[List.mem_singleton.1 hx];exact ht
 ·have hi2:i=ps.length:=by omega
  subst hi2;have hgl:=SC (b:=b) hi;have hgt:Ee b ps ps.length=ps.map (GQ b):=by unfold Ee;rw[AZ]
  rw[AZ]at hno
  have hs: ∀g∈Ee b ps ps.length,g.Short:=fun g hg=>by
   rw[hgt]at hg
   obtain⟨p,hpm,rfl⟩:=jzk.1 hg
   have:=JV b p.letters
   have:=(hp p hpm).2.1
   show(Bc b p).length≤_
   unfold Bc;rw[Hg];omega
  have q3:=Qf (Ee b ps ps.length) (by omega) hs
  rw[hgl]at q3
  simp -implicitDefEqProofs[jJ,-natCast_add,-natCast_mul,-List.reduceReplicate,h];refine .inr (.inr (.inr (.inr (.inr ⟨rfl,6,ps.length,2,_,_,(Ee b ps ps.length).flatMap Grd.ds,_,_,[],rfl,by simp[lk],rfl,rfl,q3,?_⟩))))
  simp -implicitDefEqProofs[jJ,-natCast_add,-natCast_mul,-List.reduceReplicate,St.drop,guardsL,Gv,hno,←hgt]
end Go.Va
