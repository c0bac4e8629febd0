/- a part of the proof -/
import Derived.Test.YtkfdniccmcolgaaGreatWbm
set_option linter.all false
set_option maxHeartbeats 4000000
set_option maxRecDepth 10000
namespace Go.Va
open Int (natCast_add natCast_mul natCast_emod natCast_ediv natCast_pow)
open Go.Proofs
def NP:List (List Nat):=(Aj [0,0,2,7,15,31,31,127,255,31,1023,2047,4095])
@[simp]def N1:List Seg:=[.any [] [] (Ao [[5],[0],[7]]),.one,.one,.any [] [] (Ao [[0,10],[5,10],[11,12,10],[13,10],[3,10]]),.one,.one,.one]
def Vi:List (List Nat):=(Aj [0,0,2,7,15,31,31,127,255,31,1023,2047,4095])
@[simp]def PD:List Seg:=[.any [] [] (Ao [[5],[0],[22]]),.one,.one,.any [] [] (Ao [[0,25],[5,25],[26,27,25],[28,25],[3,25]]),.one,.one,.one]
def Tu:List (List Nat):=(Aj [0,0,0,6,15,0,32,127,0,0,768,2047,4095])
@[simp]def U8:List Seg:=[.any [] [35,39,41,42] [⟨1,[],[41],[39,41,42],[]⟩,⟨0,[0],[35,41],[35,39,41,42],[]⟩,⟨0,[5],[35,41],[35,39,41,42],[]⟩,⟨0,[36,37],[35,41],[35,39,41,42],[]⟩,⟨3,[35,38],[41],[41,42],[35]⟩,⟨0,[3],[35,39],[35,39,41,42],[]⟩,⟨1,[40],[35,39],[35,39,42],[]⟩,⟨3,[39,41],[],[],[39]⟩,⟨0,[0],[35,39,41,42],[35,39,41,42],[]⟩,⟨0,[5],[35,39,41,42],[35,39,41,42],[]⟩,⟨0,[43,44],[35,39,41,42],[35,39,41,42],[]⟩],.one,.one]
@[simp]theorem jiv(h:List (Nat×Blk))(l:List Fct)(k:Int):sliceV h (.d (fctsD l)) none (some k) 5=if 0≤k∧k≤l.length then some (.d (fctsD (l.take k.toNat))) else none:=by
 unfold fctsD sliceV D5;simp only[I3,if_true,Option.getD_none,Option.getD_some,Int.toNat_zero,Nat.sub_zero];by_cases hk:0≤k∧k≤l.length
 ·rw[if_pos hk,if_pos (by omega)]
  simp only[Ay,Nat.zero_mul,List.drop_zero,JC Fct.ds_len,AG];rw[AU (by omega)]
 ·rw[if_neg hk,if_neg (by omega)]
@[simp]theorem jiV(h:List (Nat×Blk))(l:List Fct)(k:Int):sliceV h (.d (fctsD l)) (some k) none 5=if 0≤k∧k≤l.length then some (.d (fctsD (l.drop k.toNat))) else none:=by
 unfold fctsD sliceV D5;simp only[I3,if_true,Option.getD_none,Option.getD_some];by_cases hk:0≤k∧k≤l.length
 ·rw[if_pos hk,if_pos (by omega)]
  simp only[Ay,DZ Fct.ds_len,List.length_drop];rw[AI (by rw[I3,List.length_drop];omega)]
  have e:(l.length:Int).toNat - k.toNat=l.length - k.toNat:=by simp
  rw[e]
 ·rw[if_neg hk,if_neg (by omega)]
@[simp]theorem src_fcts(j:TI)(l:List Fct)(st:St)(hj:j.size=5):st.src j (.d (fctsD l))=some (l.length,l.flatMap Fct.ds):=by
 unfold fctsD St.src;simp[hj]
theorem Qz{m:List Fct}{n:Nat}{cs:List D}(hn:n=m.length)(hc:cs=m.flatMap Fct.ds):D.slice n (List.take (n*5) cs)=fctsD m:=by
 subst hn hc;rw[M6];rfl
theorem Lq(f:Fct): ∀(p:Nat) (l:List Fct),p≤l.length→(∀j (hj:j<l.length),j<p→Aw l[j] f<0)→putF l f=l.take p++putF (l.drop p) f
 |0,l,_,_=>rfl
 |p+1,[],h,_=>by simp at h
 |p+1,a::l,h,hc=>by
  have h0:=hc 0 (by simp) (by omega)
  have ih:=Lq f p l (by simpa using h) (fun j hj hp=>hc (j+1) (by simpa using hj) (by omega))
  simp only[List.getElem_cons_zero]at h0;rw[putF,if_pos h0,List.take_succ_cons,List.drop_succ_cons,ih];rfl
theorem jdA{f:Fct}{l:List Fct}(hc: ∀j (hj:j<l.length),Aw l[j] f<0):putF l f=l++[f]:=by
 rw[Lq f l.length l (AA _) (fun j hj _=>hc j hj),AZ,List.drop_length]
 rfl
theorem jhy{f:Fct}{l:List Fct}{p:Nat}(h:p<l.length)(hc: ∀j (hj:j<l.length),j<p→Aw l[j] f<0)(h0:Aw l[p] f=0):putF l f=l:=by
 rw[Lq f p l (by omega) hc,AD h,putF,if_neg (by omega),if_pos h0,←AD h,List.take_append_drop]
theorem Xw{f:Fct}{l:List Fct}{p:Nat}(h:p<l.length)(hc: ∀j (hj:j<l.length),j<p→Aw l[j] f<0)(h0: ¬Aw l[p] f<0)(h1: ¬Aw l[p] f=0):putF l f=l.take p++f::l.drop p:=by
 rw[Lq f p l (by omega) hc,AD h,putF,if_neg h0,if_neg h1]
theorem Hv(f:Fct)(l:List Fct)(hf:f.Mild)(vf:f.Val)(hm: ∀g∈l,g.Mild)(hv: ∀g∈l,g.Val)(hn:l.length≤1000000):CallsF Tryz.prog 261 [.c (fctsD l),.agg f.ds] (.u (.c (.d (fctsD (putF l f))))):=by
 have k:=fun g hg=>Ot g f (hm g hg) hf (hv g hg) vf
 clear hm hv hf vf;simp only[Fct.ds]at k ⊢;refine Ae (T:=tb) Ad mixed Tryz.func261 rfl (by decide) (Ac rfl) rfl ?_;unfold St.init
 simp -implicitDefEqProofs[jJ,-natCast_add,-natCast_mul];refine Av (fun i:Nat=>⟨[(5,vI .i64 i),(3,vC (.ptr 3 0)),(0,vC (.d (fctsD l)))],[(3,.box [.d (.int .i64 f.kind),.d (intsD f.args),.d (.bool f.neg),.d (Ab f.abs),.d (Ab f.den)])]⟩) (fun i=>i≤l.length∧ ∀j (hj:j<l.length),j<i→Aw l[j] f<0) (fun i=>l.length - i) 0 (by simp) (by simp) ?_
 rintro i ⟨h1,h2⟩
 by_cases h:i<l.length
 ·have k:=k l[i] (Ak h);have e2:=DO h;by_cases g:Aw l[i] f<0
  ·simp -implicitDefEqProofs[jJ,-natCast_add,-natCast_mul,h];refine Af NP N1 (by rfl) ?_
   simp -implicitDefEqProofs[jJ,-natCast_add,-natCast_mul,h,e2];refine Aa k ?_;simp -implicitDefEqProofs[jJ,-natCast_add,-natCast_mul,g];exact⟨by omega,⟨by omega,fun j hj hp=>if e:j=i then by subst e;exact g else h2 j hj (by omega)⟩,by omega⟩
  ·simp -implicitDefEqProofs[jJ,-natCast_add,-natCast_mul,h];refine Af NP N1 (by rfl) ?_
   simp -implicitDefEqProofs[jJ,-natCast_add,-natCast_mul,h,e2];refine Aa k ?_;simp -implicitDefEqProofs[jJ,-natCast_add,-natCast_mul,g];refine Af Vi PD (by rfl) ?_
   simp -implicitDefEqProofs[jJ,-natCast_add,-natCast_mul,h,e2];refine Aa k ?_;by_cases g0:Aw l[i] f=0
   ·simp -implicitDefEqProofs[jJ,-natCast_add,-natCast_mul,g0];rw[jhy h h2 g0]
   ·simp -implicitDefEqProofs[jJ,-natCast_add,-natCast_mul,g0];refine Af Tu U8 (by rfl) ?_
    simp -implicitDefEqProofs[jJ,-natCast_add,-natCast_mul,h];have hmin:min i l.length=i:=by omega
    rw[hmin,Xw h h2 g g0]
    refine⟨by omega,by omega,by omega,by omega,by omega,by omega,by omega,Qz ?_ ?_⟩
    ·simp
     omega
    ·simp[Fct.ds]
 ·have:i=l.length:=by omega
  subst this;simp -implicitDefEqProofs[jJ,-natCast_add,-natCast_mul];refine Af NP N1 (by rfl) ?_
  simp -implicitDefEqProofs[jJ,-natCast_add,-natCast_mul,h];refine Af Vi PD (by rfl) ?_
  simp -implicitDefEqProofs[jJ,-natCast_add,-natCast_mul,h];refine Af Tu U8 (by rfl) ?_
  simp -implicitDefEqProofs[jJ,-natCast_add,-natCast_mul,h];rw[jdA (fun j hj=>h2 j hj hj)]
  refine⟨by omega,by omega,by omega,by omega,by omega,Qz ?_ ?_⟩
  ·simp
  ·simp[Fct.ds]
def TH:List (List Nat):=(Aj [0,0,0,6,15,0,0,64,224,511,1023])
@[simp]def UG:List Seg:=[.any [] [25,29] [⟨1,[],[],[29],[]⟩,⟨0,[2],[25],[25,29],[]⟩,⟨0,[8],[25],[25,29],[]⟩,⟨0,[26,27],[25],[25,29],[]⟩,⟨3,[25,28],[],[],[25]⟩,⟨0,[2],[25,29],[25,29],[]⟩,⟨0,[8],[25,29],[25,29],[]⟩,⟨0,[31],[25,29],[25,29],[]⟩,⟨0,[30,32],[25,29],[25,29],[]⟩],.one,.one]
def RQ:List (List Nat):=(Aj [0,0,0,6,0,0,48,112,240,510,0,2047,4095])
@[simp]def T0:List Seg:=[.any [] [36,38,43,44] [⟨0,[0],[36,38,43,44],[36,38,43,44],[]⟩,⟨1,[],[43],[38,43,44],[]⟩,⟨0,[1],[36,43],[36,38,43,44],[]⟩,⟨3,[36,37],[43],[43,44],[36]⟩,⟨0,[2],[36,38],[36,38,43,44],[]⟩,⟨0,[8],[36,38],[36,38,43,44],[]⟩,⟨0,[39,40],[36,38],[36,38,43,44],[]⟩,⟨0,[41],[36,38],[36,38,43,44],[]⟩,⟨1,[42],[36,38],[36,38,44],[]⟩,⟨3,[38,43],[],[],[38]⟩,⟨0,[9],[36,38,43,44],[36,38,43,44],[]⟩],.one,.one]
theorem KI(f:Fct)(l:List Int)(hl:l.length≤1000000):CallsF Tryz.prog 262 [.agg f.ds,.c (intsD l)] (Fct.res ⟨f.kind,l,f.neg,f.abs,f.den⟩):=by
 simp only[Fct.ds];refine Ae (T:=tb) Ad mixed Tryz.func262 rfl (by decide) (Ac rfl) rfl ?_;unfold St.init
 simp -implicitDefEqProofs[jJ,-natCast_add,-natCast_mul];refine Af (Aj [0,1,0,0,12,0,32,127,255]) [.any [] [7,9] [⟨0,[2],[7,9],[7,9],[]⟩,⟨0,[5],[7,9],[7,9],[]⟩,⟨1,[],[],[9],[]⟩,⟨0,[1],[7],[7,9],[]⟩,⟨3,[7,8],[],[],[7]⟩,⟨0,[2],[7,9],[7,9],[]⟩,⟨0,[10],[7,9],[7,9],[]⟩],.one,.one] (by rfl) ?_
 simp -implicitDefEqProofs[jJ,-natCast_add,-natCast_mul,Fct.res];exact⟨by omega,by omega⟩
def E9(a b c:Int):Int×Int:=if c=1 then (b,a) else (a,b)
theorem Jo(a b c:Int):CallsF Tryz.prog 264 [.c (.int .i64 a),.c (.int .i64 b),.c (.int .i64 c)] (.u (.agg [.d (.int .i64 (E9 a b c).1),.d (.int .i64 (E9 a b c).2)])):=by
 unfold E9;refine Ae (T:=tb) Ad mixed Tryz.func264 rfl (by decide) (Ac rfl) rfl ?_;unfold St.init
 by_cases h:c=1
 ·simp -implicitDefEqProofs[jJ,-natCast_add,-natCast_mul,h]
 ·simp -implicitDefEqProofs[jJ,-natCast_add,-natCast_mul,h]
def BW(k:Int):Nat→List Int→List Int→List Fct
 |0,d,_=>[⟨k,d,false,[],[]⟩]
 |n+1,d,r=>((List.range (n+1)).map fun i=>BW k n (d++[r.getD i 0]) (r.take i++r.drop (i+1))).foldl AB []
theorem Y8(k:Int)(d:List Int)(hd:d.length≤8):CallsF Tryz.prog 260 [.c (.int .i64 k),.c (intsD d),.c (intsD [])] (.u (.c (.d (fctsD (BW k 0 d []))))):=by
 unfold BW;refine Ae (T:=tb) Ad mixed Tryz.func260 rfl (by decide) (Ac rfl) rfl ?_;unfold St.init
 simp -implicitDefEqProofs[jJ,-natCast_add,-natCast_mul];rfl
theorem Ny{f x:Fct}: ∀{l:List Fct},x∈putF l f→x=f∨x∈l
 |[],h=>by simpa [putF]using h
 |a::l,h=>by
  unfold putF at h;split at h
  ·rcases jzn.1 h with h|h
   ·simp[h]
   ·rcases Ny h with h|h<;>simp[h]
  ·split at h
   ·exact .inr h
   ·simpa using h
theorem Jm{x:Fct}: ∀{m l:List Fct},x∈AB l m→x∈l∨x∈m
 |[],l,h=> .inl h
 |f::m,l,h=>by
  rcases Jm (m:=m) (l:=putF l f) h with h|h
  ·rcases Ny h with h|h<;>simp[h]
  ·simp[h]
theorem Je{x:Fct}: ∀{Ls:List (List Fct)} {A:List Fct},x∈Ls.foldl AB A→x∈A∨ ∃L∈Ls,x∈L
 |[],A,h=> .inl h
 |L::Ls,A,h=>by
  rcases Je (Ls:=Ls) (A:=AB A L) h with h|⟨L',h1,h2⟩
  ·rcases Jm h with h|h
   ·exact .inl h
   ·exact .inr ⟨L,by simp,h⟩
  ·exact .inr ⟨L',by simp[h1],h2⟩
theorem JN{b:Nat}: ∀{Ls:List (List Fct)} {A:List Fct},(∀L∈Ls,L.length≤b)→(Ls.foldl AB A).length≤A.length+Ls.length*b
 |[],A,_=>by simp
 |L::Ls,A,h=>by
  have h1:=JN (Ls:=Ls) (A:=AB A L) (fun L' h'=>h L' (by simp[h']))
  have h2:=Hw L A;have h3:=h L (by simp)
  simp only[List.foldl_cons,List.length_cons,Nat.add_mul];omega
theorem XR(l:List Fct)(f:Fct):putF l f≠[]:=by
 cases l with
 |nil=>simp[putF]
 |cons a l=>
  unfold putF;split
  ·simp
  ·split<;>simp
theorem T3: ∀{m l:List Fct},(l≠[]∨m≠[])→AB l m≠[]
 |[],l,h=>by simpa [AB]using h
 |f::m,l,_=>T3 (m:=m) (l:=putF l f) (.inl (XR l f))
theorem K6(k:Int)(n:Nat)(d r:List Int):BW k (n+1) d r=((List.range (n+1)).map fun i=>BW k n (d++[r.getD i 0]) (r.take i++r.drop (i+1))).foldl AB []:=rfl
theorem JA(M:Nat→List Fct)(i:Nat):((List.range (i+1)).map M).foldl AB []=AB (((List.range i).map M).foldl AB []) (M i):=by
 rw[List.range_succ,List.map_append,List.foldl_append]
 rfl
theorem Qw(k:Int): ∀(n:Nat) (d r:List Int),BW k n d r≠[]
 |0,d,r=>by simp[BW]
 |n+1,d,r=>by
  rw[K6,JA (fun i=>BW k n (d++[r.getD i 0]) (r.take i++r.drop (i+1))) n]
  exact T3 (.inr (Qw k n _ _))
def Pln(k:Int)(m:Nat)(x:Fct):Prop:= ∃p:List Int,p.length=m∧x=⟨k,p,false,[],[]⟩
theorem Pln.mild{k:Int}{m:Nat}{x:Fct}(h:Pln k m x)(hm:m≤8):x.Mild:=by
 obtain⟨p,h1,rfl⟩:=h
 exact KF k p (by omega)
theorem Pln.val{k:Int}{m:Nat}{x:Fct}(h:Pln k m x)(hk:k≠9):x.Val:=by
 obtain⟨p,h1,rfl⟩:=h
 exact fun h9=>absurd h9 hk
theorem Ww(k:Int): ∀(n:Nat) (d r:List Int),r.length=n→ ∀x∈BW k n d r,Pln k (n+d.length) x
 |0,d,r,hr,x,hx=>⟨d,by simp,by simpa [BW]using hx⟩
 |n+1,d,r,hr,x,hx=>by
  rw[K6]at hx
  rcases Je hx with h|⟨L,h1,h2⟩
  ·cases h
  ·obtain⟨i,hi,rfl⟩:=jzk.1 h1
   have hi:=List.mem_range.1 hi;obtain⟨p,e1,e2⟩:=Ww k n _ _ (by simp;omega) x h2
   exact⟨p,by rw[e1];simp;omega,e2⟩
def Iv:Nat→Nat|0=>1|n+1=>(n+1)*Iv n
theorem PF(k:Int): ∀(n:Nat) (d r:List Int),(BW k n d r).length≤Iv n
 |0,d,r=>by simp[BW,Iv]
 |n+1,d,r=>by
  rw[K6]
  have:=JN (b:=Iv n) (A:=[]) (Ls:=(List.range (n+1)).map fun i=>BW k n (d++[r.getD i 0]) (r.take i++r.drop (i+1))) (fun L hL=>by
   obtain⟨i,_,rfl⟩:=jzk.1 hL
   exact PF k n _ _)
  simpa [Iv]using this
theorem jhz: ∀n:Nat,n≤8→Iv n≤40320:=by decide
theorem Qg(k:Int)(k9:k≠9): ∀(n:Nat) (d r:List Int),r.length=n→n+d.length≤8→CallsF Tryz.prog 260 [.c (.int .i64 k),.c (intsD d),.c (intsD r)] (.u (.c (.d (fctsD (BW k n d r)))))
 |0,d,r,hr,hd=>by
  obtain rfl:r=[]:=jzv.1 hr;exact Y8 k d (by omega)
 |n+1,d,r,hr,hd=>by
  have ih:=fun i (hi:i<n+1)=>Qg k k9 n (d++[r.getD i 0]) (r.take i++r.drop (i+1)) (by simp;omega) (by simp;omega)
  have all:=fun i (hi:i<n+1)=>Ww k n (d++[r.getD i 0]) (r.take i++r.drop (i+1)) (by simp;omega)
  have len:=fun i=>Nat.le_trans (PF k n (d++[r.getD i 0]) (r.take i++r.drop (i+1))) (jhz n (by omega))
  have ne:=fun i=>Qw k n (d++[r.getD i 0]) (r.take i++r.drop (i+1))
  generalize hM:(fun i=>BW k n (d++[r.getD i 0]) (r.take i++r.drop (i+1)))=M at*
  have hMi: ∀i,BW k n (d++[r.getD i 0]) (r.take i++r.drop (i+1))=M i:=fun i=>congrFun hM i
  rw[BW,hM]
  simp only[hMi]at ih ne all len;simp only[List.length_append,List.length_singleton]at all;clear hM hMi;refine Ae (T:=tb) Ad mixed Tryz.func260 rfl (by decide) (Ac rfl) rfl ?_;unfold St.init
  simp -implicitDefEqProofs[jJ,-natCast_add,-natCast_mul,hr];refine Av (fun x:Nat×Option (List Fct)=>match x with
    |(i,none)=>⟨[(8,vI .i64 i),(7,vC (.sl 7 0 0)),(0,vI .i64 k),(1,vC (.d (intsD d))),(2,vC (.d (intsD r)))],[(7,.row 5 [] true)]⟩
    |(i,some L)=>⟨[(8,vI .i64 i),(7,vC (.d (fctsD L))),(0,vI .i64 k),(1,vC (.d (intsD d))),(2,vC (.d (intsD r)))],[]⟩)
   (fun x=>x.1≤n+1∧(x.2=none∧x.1=0∨x.1≠0∧x.2=some (((List.range x.1).map M).foldl AB []))) (fun x=>n+1 - x.1) (0,none) (by simp) (by simp) ?_
  rintro⟨i,o⟩ ⟨h1,h2⟩
  simp only at h1 h2;by_cases h:i<n+1
  ·have ih:=ih i h;have hmin:min i (n+1)=i:=by omega
   have a1:D.slice (d.length+1) (List.take (d.length+1) (d.map i64++[.int .i64 r[i]]))=intsD (d++[r.getD i 0]):=by
    rw[AI (by simp),Ar,Ai (by omega)]
    show _=D.slice _ _
    simp[i64]
   have a2:D.slice (i+(n - i)) (List.take (i+(n - i)) (List.take i (r.map i64)++List.drop (i+1) (r.map i64)))=intsD (r.take i++r.drop (i+1)):=by
    rw[AI (by simp;omega)]
    show _=D.slice _ _
    simp
    omega
   rcases h2 with⟨rfl,h2⟩|⟨h2,rfl⟩
   ·simp -implicitDefEqProofs[jJ,-natCast_add,-natCast_mul,hr,h];refine Af TH UG (by rfl) ?_
    simp -implicitDefEqProofs[jJ,-natCast_add,-natCast_mul,hr,h];refine⟨by omega,by omega,by omega,by omega,by omega,?_⟩
    refine Af RQ T0 (by rfl) ?_
    simp -implicitDefEqProofs[jJ,-natCast_add,-natCast_mul,hr,h,hmin,i64];refine⟨by omega,by omega,?_⟩
    rw[a1,a2]
    refine Aa ih ?_;simp -implicitDefEqProofs[jJ,-natCast_add,-natCast_mul];have alli:=all i h;have leni:=len i;have nei:=ne i;refine Av (fun x:Nat×Option (List Fct)=>match x with
      |(j,none)=>⟨[(11,vI .i64 j),(10,vC (.d (fctsD (M i)))),(8,vI .i64 i),(7,vC (.sl 7 0 0)),(0,vI .i64 k),(1,vC (.d (intsD d))),(2,vC (.d (intsD r)))],[(7,.row 5 [] true)]⟩
      |(j,some L)=>⟨[(11,vI .i64 j),(10,vC (.d (fctsD (M i)))),(8,vI .i64 i),(7,vC (.d (fctsD L))),(0,vI .i64 k),(1,vC (.d (intsD d))),(2,vC (.d (intsD r)))],[]⟩)
     (fun x=>x.1≤(M i).length∧(x.2=none∧x.1=0∨x.1≠0∧x.2=some (AB [] ((M i).take x.1)))) (fun x=>(M i).length - x.1) (0,none) (by simp) (by simp) ?_
    rintro⟨j,o⟩ ⟨g1,g2⟩
    simp only at g1 g2;by_cases g:j<(M i).length
    ·have hall: ∀y∈AB [] ((M i).take j),Pln k (n+(d.length+1)) y:=fun y hy=>by
      rcases Jm hy with hy|hy
      ·cases hy
      ·exact alli y (List.mem_of_mem_take hy)
     have hln:=Hw ((M i).take j) [];simp only[List.length_nil,AG]at hln;have q:=Hv (M i)[j] (AB [] ((M i).take j)) ((alli _ (Ak g)).mild (by omega)) ((alli _ (Ak g)).val k9) (fun y hy=>(hall y hy).mild (by omega)) (fun y hy=>(hall y hy).val k9) (by omega)
     have e2:=DO g;have e3:putF (AB [] ((M i).take j)) (M i)[j]=AB [] ((M i).take (j+1)):=by
      rw[AQ g]
      unfold AB;rw[List.foldl_append];rfl
     rw[e3]at q
     simp only[Fct.ds]at q;rcases g2 with⟨rfl,g2⟩|⟨g2,rfl⟩
     ·rw[show fctsD (AB [] ((M i).take j))=D.slice 0 [] from by rw[g2];rfl]at q
      simp -implicitDefEqProofs[jJ,-natCast_add,-natCast_mul,g,e2];refine Aa q ?_;simp -implicitDefEqProofs[jJ,-natCast_add,-natCast_mul];exact⟨by omega,j+1,some (AB [] ((M i).take (j+1))),by simp[An,lk],⟨by omega,.inr ⟨by omega,rfl⟩⟩,by omega⟩
     ·simp -implicitDefEqProofs[jJ,-natCast_add,-natCast_mul,g,e2];refine Aa q ?_;simp -implicitDefEqProofs[jJ,-natCast_add,-natCast_mul];exact⟨by omega,j+1,some (AB [] ((M i).take (j+1))),by simp[An,lk],⟨by omega,.inr ⟨by omega,rfl⟩⟩,by omega⟩
    ·have:j=(M i).length:=by omega
     subst this;rcases g2 with⟨rfl,g2⟩|⟨_,rfl⟩
     ·exact absurd (jzv.1 g2) nei
     ·have e5:AB [] (M i)=((List.range (i+1)).map M).foldl AB []:=by
       rw[JA,h2]
       rfl
      rw[AZ,e5]
      simp -implicitDefEqProofs[jJ,-natCast_add,-natCast_mul];exact⟨by omega,i+1,some _,by simp[An,lk],⟨by omega,.inr ⟨by omega,rfl⟩⟩,by omega⟩
   ·simp -implicitDefEqProofs[jJ,-natCast_add,-natCast_mul,hr,h];refine Af TH UG (by rfl) ?_
    simp -implicitDefEqProofs[jJ,-natCast_add,-natCast_mul,hr,h];refine⟨by omega,by omega,by omega,by omega,by omega,?_⟩
    refine Af RQ T0 (by rfl) ?_
    simp -implicitDefEqProofs[jJ,-natCast_add,-natCast_mul,hr,h,hmin,i64];refine⟨by omega,by omega,?_⟩
    rw[a1,a2]
    refine Aa ih ?_;simp -implicitDefEqProofs[jJ,-natCast_add,-natCast_mul];have alli:=all i h;have leni:=len i;have hA: ∀y∈((List.range i).map M).foldl AB [],Pln k (n+(d.length+1)) y:=fun y hy=>by
     rcases Je hy with hy|⟨L,h3,h4⟩
     ·cases hy
     ·obtain⟨i',h5,rfl⟩:=jzk.1 h3
      exact all i' (by have:=List.mem_range.1 h5;omega) y h4
    have hAl:=JN (b:=40320) (A:=[]) (Ls:=(List.range i).map M) (fun L hL=>by
     obtain⟨i',_,rfl⟩:=jzk.1 hL
     exact len i')
    have e5:=JA M i;simp only[List.length_nil,List.length_map,List.length_range]at hAl;generalize hAA:((List.range i).map M).foldl AB []=A at*;have hAl:A.length≤400000:=by omega
    refine Av (fun j:Nat=>⟨[(11,vI .i64 j),(10,vC (.d (fctsD (M i)))),(8,vI .i64 i),(7,vC (.d (fctsD (AB A ((M i).take j))))),(0,vI .i64 k),(1,vC (.d (intsD d))),(2,vC (.d (intsD r)))],[]⟩)
     (fun j=>j≤(M i).length) (fun j=>(M i).length - j) 0 (by simp[AB]) (by simp) ?_
    rintro j g1
    by_cases g:j<(M i).length
    ·have hall: ∀y∈AB A ((M i).take j),Pln k (n+(d.length+1)) y:=fun y hy=>by
      rcases Jm hy with hy|hy
      ·exact hA y hy
      ·exact alli y (List.mem_of_mem_take hy)
     have hln:=Hw ((M i).take j) A;simp only[AG]at hln;have q:=Hv (M i)[j] (AB A ((M i).take j)) ((alli _ (Ak g)).mild (by omega)) ((alli _ (Ak g)).val k9) (fun y hy=>(hall y hy).mild (by omega)) (fun y hy=>(hall y hy).val k9) (by omega)
     have e2:=DO g;have e3:putF (AB A ((M i).take j)) (M i)[j]=AB A ((M i).take (j+1)):=by
      rw[AQ g]
      unfold AB;rw[List.foldl_append];rfl
     rw[e3]at q
     simp only[Fct.ds]at q;simp -implicitDefEqProofs[jJ,-natCast_add,-natCast_mul,g,e2];refine Aa q ?_;simp -implicitDefEqProofs[jJ,-natCast_add,-natCast_mul];exact⟨by omega,j+1,⟨rfl,rfl⟩,by omega,by omega⟩
    ·have:j=(M i).length:=by omega
     subst this;rw[AZ,←e5];simp -implicitDefEqProofs[jJ,-natCast_add,-natCast_mul];exact⟨by omega,i+1,some _,by simp[An,lk],⟨by omega,.inr ⟨by omega,rfl⟩⟩,by omega⟩
  ·have:i=n+1:=by omega
   subst this;rcases h2 with⟨rfl,h2⟩|⟨_,rfl⟩
   ·omega
   ·simp -implicitDefEqProofs[jJ,-natCast_add,-natCast_mul,hr]
end Go.Va
