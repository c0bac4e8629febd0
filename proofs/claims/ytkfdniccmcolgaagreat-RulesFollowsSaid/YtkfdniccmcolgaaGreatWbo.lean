/- a part of the proof -/
import Derived.Test.YtkfdniccmcolgaaGreatWbn
set_option linter.all false
set_option maxHeartbeats 4000000
set_option maxRecDepth 10000
namespace Go.Va
open Int (natCast_add natCast_mul natCast_emod natCast_ediv natCast_pow)
open Go.Proofs
def M8:List (List Nat):=(Aj [0,0,3,7,0,0,32,112,240,0,0,1536,3584,8191,0,32767])
@[simp]def OX:List Seg:=[.any [] [11] [⟨0,[3],[11],[11],[]⟩,⟨0,[10],[11],[11],[]⟩,⟨0,[40,41],[11],[11],[]⟩,⟨0,[42],[11],[11],[]⟩,⟨0,[3],[11],[11],[]⟩,⟨0,[10],[11],[11],[]⟩,⟨0,[45],[11],[11],[]⟩,⟨0,[44,46],[11],[11],[]⟩,⟨0,[47],[11],[11],[]⟩,⟨0,[7],[11],[11],[]⟩,⟨0,[9],[11],[11],[]⟩,⟨0,[49,50],[11],[11],[]⟩,⟨0,[51],[11],[11],[]⟩,⟨0,[43,48,52],[11],[11],[]⟩,⟨1,[],[],[],[]⟩],.one]
def tbR:List Nat:=[0,2,4,6,0,4,2,6,6,2,4,0,6,4,2,0,2,0,6,4,2,6,0,4,4,0,6,2,4,6,0,2]
def tbC:List C:=tbR.map fun n:Nat=>C.d (.int .i64 (n:Int))
def A9(t i:Nat):Nat:=tbR.getD (t*4+i) 0
@[simp]theorem tbC_len:tbC.length=32:=rfl
theorem L5(t i:Nat):A9 t i+1<8:=by
 unfold A9;rw[Ar];by_cases h:t*4+i<tbR.length
 ·rw[Ai h,Option.getD_some]
  have: ∀x∈tbR,x+1<8:=by decide
  exact this _ (Ak h)
 ·rw[BG (by omega)]
  decide
@[simp]theorem tbC_on(f:C→C)(hf: ∀d,f (.d d)= .d d):tbC.map f=tbC:=by
 unfold tbC;rw[List.map_map];exact List.map_congr_left fun n _=>hf _
theorem N5{t i:Nat}(ht:t<8)(hi:i<4):tbC[t*4+i]'(by show t*4+i<32;omega)= .d (.int .i64 (A9 t i)):=by
 have h:t*4+i<tbR.length:=by show t*4+i<32;omega
 unfold tbC A9;rw[List.getElem_map,Ar,Ai h];rfl
def seA(l:List Int)(t s i:Nat):Int×Int:=E9 (l.getD (A9 t i) 0) (l.getD (A9 t i+1) 0) ((s/2^i%2:Nat):Int)
def Dt(l:List Int)(t s:Nat):Nat→List Int
 |0=>[]
 |i+1=>Dt l t s i++[(seA l t s i).1,(seA l t s i).2]
theorem Gu(l:List Int)(t s i:Nat):(Dt l t s i).length=2*i:=by
 induction i with
 |zero=>rfl
 |succ i ih=>simp[Dt,ih];omega
def D1(l:List Int)(t s i:Nat):List D:=(Dt l t s i).map i64
theorem FP(l:List Int)(t s i:Nat):(D1 l t s i).length=2*i:=by simp[D1,Gu]
theorem Mu(l:List Int)(t s i:Nat):D1 l t s (i+1)=D1 l t s i++[.int .i64 (seA l t s i).1,.int .i64 (seA l t s i).2]:=by simp[D1,Dt,i64]
def Kw(l:List Int)(t s:Nat):Fct:=⟨7,Dt l t s 4,false,[],[]⟩
def B4(l:List Int)(t:Nat)(n:Nat):List Fct:=(List.range n).map (Kw l t)
def Cm(l:List Int)(n:Nat):List Fct:=((List.range n).map fun t=>B4 l t 16).foldl AB []
theorem Y4(l:List Int)(t n:Nat)(A:List Fct):AB A (B4 l t (n+1))=putF (AB A (B4 l t n)) (Kw l t n):=by
 unfold B4 AB;rw[List.range_succ,List.map_append,List.foldl_append];rfl
theorem SO(l:List Int)(n:Nat):Cm l (n+1)=AB (Cm l n) (B4 l n 16):=JA (fun t=>B4 l t 16) n
theorem Ma(l:List Int)(t s:Nat):Pln 7 8 (Kw l t s):=⟨Dt l t s 4,by rw[Gu],rfl⟩
theorem V7{l:List Int}{t n:Nat}{x:Fct}(h:x∈B4 l t n):Pln 7 8 x:=by
 obtain⟨s,_,rfl⟩:=jzk.1 h
 exact Ma l t s
theorem jdx{l:List Int}{n:Nat}{x:Fct}(h:x∈Cm l n):Pln 7 8 x:=by
 rcases Je h with h|⟨L,h1,h2⟩
 ·cases h
 ·obtain⟨t,_,rfl⟩:=jzk.1 h1
  exact V7 h2
theorem je8(l:List Int)(n:Nat):(Cm l n).length≤n*16:=by
 have:=JN (b:=16) (A:=[]) (Ls:=(List.range n).map fun t=>B4 l t 16) (fun L hL=>by
  obtain⟨t,_,rfl⟩:=jzk.1 hL
  simp[B4])
 simpa [Cm]using this
theorem jgs(l:List Int)(t s:Nat)(ht:t≤8)(hs:s≤16):CallsF Tryz.prog 261 [.c (fctsD (AB (Cm l t) (B4 l t s))),.agg [.int .i64 7,intsD (Dt l t s 4),.bool false,Ab [],Ab []]] (.u (.c (.d (fctsD (AB (Cm l t) (B4 l t (s+1))))))):=by
 have hall: ∀y∈AB (Cm l t) (B4 l t s),Pln 7 8 y:=fun y hy=>by
  rcases Jm hy with hy|hy
  ·exact jdx hy
  ·exact V7 hy
 have h1:=Hw (B4 l t s) (Cm l t);have h2:=je8 l t;have h3:(B4 l t s).length=s:=by simp[B4]
 have:=Hv (Kw l t s) (AB (Cm l t) (B4 l t s)) ((Ma l t s).mild (by omega)) ((Ma l t s).val (by omega)) (fun y hy=>(hall y hy).mild (by omega)) (fun y hy=>(hall y hy).val (by omega)) (by omega)
 rw[Y4]
 exact this
theorem jhZ(l:List Int)(hl:l.length=8):CallsF Tryz.prog 263 [.agg [.int .i64 7,intsD l,.bool false,Ab [],Ab []]] (.u (.c (.d (fctsD (Cm l 8))))):=by
 refine Ae (T:=tb) Ad mixed Tryz.func263 rfl (by decide) (Ac rfl) rfl ?_;unfold St.init
 simp -implicitDefEqProofs[jJ,-natCast_add,-natCast_mul,-natCast_emod,-natCast_ediv,-natCast_pow];refine Av (fun x:Nat×Option (List Fct)=>match x with
    |(t,none)=>⟨[(6,vI .i64 t),(5,vC (.sl 5 0 0)),(4,vC (.ptr 4 0)),(3,vC (.d (intsD l))),(1,vC (.ptr 1 0))],[(5,.row 5 [] true),(4,.box tbC),(1,.box [.d (.int .i64 7),.d (intsD l),.d (.bool false),.d (Ab []),.d (Ab [])])]⟩
    |(t,some L)=>⟨[(6,vI .i64 t),(5,vC (.d (fctsD L))),(4,vC (.ptr 4 0)),(3,vC (.d (intsD l))),(1,vC (.ptr 1 0))],[(4,.box tbC),(1,.box [.d (.int .i64 7),.d (intsD l),.d (.bool false),.d (Ab []),.d (Ab [])])]⟩)
   (fun x=>x.1≤8∧(x.2=none∧x.1=0∨x.1≠0∧x.2=some (Cm l x.1))) (fun x=>8 - x.1) (0,none) (by simp[tbC,tbR]) (by simp) ?_
 rintro⟨t,o⟩ ⟨h1,h2⟩
 simp only at h1 h2;by_cases h:t<8
 ·have q0:=fun s (hs:s<16)=>jgs l t s (by omega) (by omega)
  rcases h2 with⟨rfl,h2⟩|⟨h2,rfl⟩
  ·simp -implicitDefEqProofs[jJ,-natCast_add,-natCast_mul,-natCast_emod,-natCast_ediv,-natCast_pow,h];refine Av (fun x:Nat×Option (List Fct)=>match x with
    |(s,none)=>⟨[(7,vI .i64 s),(6,vI .i64 t),(5,vC (.sl 5 0 0)),(4,vC (.ptr 4 0)),(3,vC (.d (intsD l))),(1,vC (.ptr 1 0))],[(5,.row 5 [] true),(4,.box tbC),(1,.box [.d (.int .i64 7),.d (intsD l),.d (.bool false),.d (Ab []),.d (Ab [])])]⟩
    |(s,some L)=>⟨[(7,vI .i64 s),(6,vI .i64 t),(5,vC (.d (fctsD L))),(4,vC (.ptr 4 0)),(3,vC (.d (intsD l))),(1,vC (.ptr 1 0))],[(4,.box tbC),(1,.box [.d (.int .i64 7),.d (intsD l),.d (.bool false),.d (Ab []),.d (Ab [])])]⟩)
     (fun x=>x.1≤16∧(x.2=none∧x.1=0∨x.1≠0∧x.2=some (AB (Cm l t) (B4 l t x.1)))) (fun x=>16 - x.1) (0,none) (by simp) (by simp) ?_
   rintro⟨s,o⟩ ⟨g1,g2⟩
   simp only at g1 g2;by_cases g:s<16
   ·have q:=q0 s g;rcases g2 with⟨rfl,g2⟩|⟨g2,rfl⟩
    ·rw[show fctsD (AB (Cm l t) (B4 l t s))=D.slice 0 [] from by rw[g2,h2];rfl]at q
     simp -implicitDefEqProofs[jJ,-natCast_add,-natCast_mul,-natCast_emod,-natCast_ediv,-natCast_pow,g,h];have hb:=Gu l t s 4;refine BA [(8,60)] (fun i:Nat=>⟨[(9,vI .i64 i),(8,vC (.sl 8 0 (2*i))),(7,vI .i64 s),(6,vI .i64 t),(5,vC (.sl 5 0 0)),(4,vC (.ptr 4 0)),(3,vC (.d (intsD l))),(1,vC (.ptr 1 0))],[(8,.row 1 (D1 l t s i) true),(5,.row 5 [] true),(4,.box tbC),(1,.box [.d (.int .i64 7),.d (intsD l),.d (.bool false),.d (Ab []),.d (Ab [])])]⟩)
      (fun i=>i≤4) (fun i=>4 - i) 0 (by simp[D1,Dt]) (by simp) ?_
     rintro i g3
     by_cases g4:i<4
     ·have b1:=N5 h g4;have b2:=L5 t i;have b3:t*4+i<32:=by omega
      have b4:=Jo (l.getD (A9 t i) 0) (l.getD (A9 t i+1) 0) ((s/2^i%2:Nat):Int);have b5:=FP l t s i;have b6:=Mu l t s i;have b7:seA l t s i=E9 (l.getD (A9 t i) 0) (l.getD (A9 t i+1) 0) ((s/2^i%2:Nat):Int):=rfl;rw[←b7]at b4;generalize seA l t s i=z at*;clear b7;have b8:l[A9 t i]'(by omega)=l.getD (A9 t i) 0:=by rw[Ar,Ai (by omega)];rfl
      have b9:l[A9 t i+1]'(by omega)=l.getD (A9 t i+1) 0:=by rw[Ar,Ai (by omega)];rfl
      have c3:min i 64=i:=by omega
      have c1:A9 t i<8:=by omega
      generalize l.getD (A9 t i) 0=x at*;generalize l.getD (A9 t i+1) 0=y at*;simp -implicitDefEqProofs[jJ,-natCast_add,-natCast_mul,-natCast_emod,-natCast_ediv,-natCast_pow,g4,h,b1,b3];refine Af M8 OX (by rfl) ?_
      simp -implicitDefEqProofs[jJ,-natCast_add,-natCast_mul,-natCast_emod,-natCast_ediv,-natCast_pow,h,hl,b2,b8,b9,c1,c3,i64];refine⟨by omega,?_⟩
      refine Al b4 ?_;simp -implicitDefEqProofs[jJ,-natCast_add,-natCast_mul,-natCast_emod,-natCast_ediv,-natCast_pow,b5];exact⟨by omega,by omega,i+1,⟨⟨rfl,by omega⟩,b6.symm⟩,by omega,by omega⟩
     ·have:i=4:=by omega
      subst this;have e8:D.slice 8 (List.take 8 (D1 l t s 4))=intsD (Dt l t s 4):=by
       rw[AI (by rw[FP];omega)]
       show _=D.slice _ _
       rw[Gu]
       rfl
      simp -implicitDefEqProofs[jJ,-natCast_add,-natCast_mul,-natCast_emod,-natCast_ediv,-natCast_pow,FP,e8];refine Aa q ?_;simp -implicitDefEqProofs[jJ,-natCast_add,-natCast_mul,-natCast_emod,-natCast_ediv,-natCast_pow];exact⟨by omega,s+1,some _,by simp[An,lk],⟨by omega,.inr ⟨by omega,rfl⟩⟩,by omega⟩
    ·simp -implicitDefEqProofs[jJ,-natCast_add,-natCast_mul,-natCast_emod,-natCast_ediv,-natCast_pow,g,h];have hb:=Gu l t s 4;refine BA [(8,60)] (fun i:Nat=>⟨[(9,vI .i64 i),(8,vC (.sl 8 0 (2*i))),(7,vI .i64 s),(6,vI .i64 t),(5,vC (.d (fctsD (AB (Cm l t) (B4 l t s))))),(4,vC (.ptr 4 0)),(3,vC (.d (intsD l))),(1,vC (.ptr 1 0))],[(8,.row 1 (D1 l t s i) true),(4,.box tbC),(1,.box [.d (.int .i64 7),.d (intsD l),.d (.bool false),.d (Ab []),.d (Ab [])])]⟩)
      (fun i=>i≤4) (fun i=>4 - i) 0 (by simp[D1,Dt]) (by simp) ?_
     rintro i g3
     by_cases g4:i<4
     ·have b1:=N5 h g4;have b2:=L5 t i;have b3:t*4+i<32:=by omega
      have b4:=Jo (l.getD (A9 t i) 0) (l.getD (A9 t i+1) 0) ((s/2^i%2:Nat):Int);have b5:=FP l t s i;have b6:=Mu l t s i;have b7:seA l t s i=E9 (l.getD (A9 t i) 0) (l.getD (A9 t i+1) 0) ((s/2^i%2:Nat):Int):=rfl;rw[←b7]at b4;generalize seA l t s i=z at*;clear b7;have b8:l[A9 t i]'(by omega)=l.getD (A9 t i) 0:=by rw[Ar,Ai (by omega)];rfl
      have b9:l[A9 t i+1]'(by omega)=l.getD (A9 t i+1) 0:=by rw[Ar,Ai (by omega)];rfl
      have c3:min i 64=i:=by omega
      have c1:A9 t i<8:=by omega
      generalize l.getD (A9 t i) 0=x at*;generalize l.getD (A9 t i+1) 0=y at*;simp -implicitDefEqProofs[jJ,-natCast_add,-natCast_mul,-natCast_emod,-natCast_ediv,-natCast_pow,g4,h,b1,b3];refine Af M8 OX (by rfl) ?_
      simp -implicitDefEqProofs[jJ,-natCast_add,-natCast_mul,-natCast_emod,-natCast_ediv,-natCast_pow,h,hl,b2,b8,b9,c1,c3,i64];refine⟨by omega,?_⟩
      refine Al b4 ?_;simp -implicitDefEqProofs[jJ,-natCast_add,-natCast_mul,-natCast_emod,-natCast_ediv,-natCast_pow,b5];exact⟨by omega,by omega,i+1,⟨⟨rfl,by omega⟩,b6.symm⟩,by omega,by omega⟩
     ·have:i=4:=by omega
      subst this;have e8:D.slice 8 (List.take 8 (D1 l t s 4))=intsD (Dt l t s 4):=by
       rw[AI (by rw[FP];omega)]
       show _=D.slice _ _
       rw[Gu]
       rfl
      simp -implicitDefEqProofs[jJ,-natCast_add,-natCast_mul,-natCast_emod,-natCast_ediv,-natCast_pow,FP,e8];refine Aa q ?_;simp -implicitDefEqProofs[jJ,-natCast_add,-natCast_mul,-natCast_emod,-natCast_ediv,-natCast_pow];exact⟨by omega,s+1,some _,by simp[An,lk],⟨by omega,.inr ⟨by omega,rfl⟩⟩,by omega⟩
   ·have:s=16:=by omega
    subst this;rcases g2 with⟨rfl,g2⟩|⟨g2,rfl⟩
    ·omega
    ·rw[←SO]
     simp -implicitDefEqProofs[jJ,-natCast_add,-natCast_mul,-natCast_emod,-natCast_ediv,-natCast_pow];exact⟨by omega,t+1,some _,by simp[An,lk],⟨by omega,.inr ⟨by omega,rfl⟩⟩,by omega⟩
  ·simp -implicitDefEqProofs[jJ,-natCast_add,-natCast_mul,-natCast_emod,-natCast_ediv,-natCast_pow,h];refine Av (fun s:Nat=>⟨[(7,vI .i64 s),(6,vI .i64 t),(5,vC (.d (fctsD (AB (Cm l t) (B4 l t s))))),(4,vC (.ptr 4 0)),(3,vC (.d (intsD l))),(1,vC (.ptr 1 0))],[(4,.box tbC),(1,.box [.d (.int .i64 7),.d (intsD l),.d (.bool false),.d (Ab []),.d (Ab [])])]⟩)
     (fun s=>s≤16) (fun s=>16 - s) 0 (by simp[B4,AB]) (by simp) ?_
   rintro s g1
   by_cases g:s<16
   ·have q:=q0 s g;simp -implicitDefEqProofs[jJ,-natCast_add,-natCast_mul,-natCast_emod,-natCast_ediv,-natCast_pow,g,h];have hb:=Gu l t s 4;refine BA [(8,60)] (fun i:Nat=>⟨[(9,vI .i64 i),(8,vC (.sl 8 0 (2*i))),(7,vI .i64 s),(6,vI .i64 t),(5,vC (.d (fctsD (AB (Cm l t) (B4 l t s))))),(4,vC (.ptr 4 0)),(3,vC (.d (intsD l))),(1,vC (.ptr 1 0))],[(8,.row 1 (D1 l t s i) true),(4,.box tbC),(1,.box [.d (.int .i64 7),.d (intsD l),.d (.bool false),.d (Ab []),.d (Ab [])])]⟩)
     (fun i=>i≤4) (fun i=>4 - i) 0 (by simp[D1,Dt]) (by simp) ?_
    rintro i g3
    by_cases g4:i<4
    ·have b1:=N5 h g4;have b2:=L5 t i;have b3:t*4+i<32:=by omega
     have b4:=Jo (l.getD (A9 t i) 0) (l.getD (A9 t i+1) 0) ((s/2^i%2:Nat):Int);have b5:=FP l t s i;have b6:=Mu l t s i;have b7:seA l t s i=E9 (l.getD (A9 t i) 0) (l.getD (A9 t i+1) 0) ((s/2^i%2:Nat):Int):=rfl;rw[←b7]at b4;generalize seA l t s i=z at*;clear b7;have b8:l[A9 t i]'(by omega)=l.getD (A9 t i) 0:=by rw[Ar,Ai (by omega)];rfl
     have b9:l[A9 t i+1]'(by omega)=l.getD (A9 t i+1) 0:=by rw[Ar,Ai (by omega)];rfl
     have c3:min i 64=i:=by omega
     have c1:A9 t i<8:=by omega
     generalize l.getD (A9 t i) 0=x at*;generalize l.getD (A9 t i+1) 0=y at*;simp -implicitDefEqProofs[jJ,-natCast_add,-natCast_mul,-natCast_emod,-natCast_ediv,-natCast_pow,g4,h,b1,b3];refine Af M8 OX (by rfl) ?_
     simp -implicitDefEqProofs[jJ,-natCast_add,-natCast_mul,-natCast_emod,-natCast_ediv,-natCast_pow,h,hl,b2,b8,b9,c1,c3,i64];refine⟨by omega,?_⟩
     refine Al b4 ?_;simp -implicitDefEqProofs[jJ,-natCast_add,-natCast_mul,-natCast_emod,-natCast_ediv,-natCast_pow,b5];exact⟨by omega,by omega,i+1,⟨⟨rfl,by omega⟩,b6.symm⟩,by omega,by omega⟩
    ·have:i=4:=by omega
     subst this;have e8:D.slice 8 (List.take 8 (D1 l t s 4))=intsD (Dt l t s 4):=by
      rw[AI (by rw[FP];omega)]
      show _=D.slice _ _
      rw[Gu]
      rfl
     simp -implicitDefEqProofs[jJ,-natCast_add,-natCast_mul,-natCast_emod,-natCast_ediv,-natCast_pow,FP,e8];refine Aa q ?_;simp -implicitDefEqProofs[jJ,-natCast_add,-natCast_mul,-natCast_emod,-natCast_ediv,-natCast_pow];exact⟨by omega,s+1,⟨rfl,rfl⟩,by omega,by omega⟩
   ·have:s=16:=by omega
    subst this;rw[←SO];simp -implicitDefEqProofs[jJ,-natCast_add,-natCast_mul,-natCast_emod,-natCast_ediv,-natCast_pow];exact⟨by omega,t+1,some _,by simp[An,lk],⟨by omega,.inr ⟨by omega,rfl⟩⟩,by omega⟩
 ·have:t=8:=by omega
  subst this;rcases h2 with⟨rfl,h2⟩|⟨h2,rfl⟩
  ·omega
  ·simp -implicitDefEqProofs[jJ,-natCast_add,-natCast_mul,-natCast_emod,-natCast_ediv,-natCast_pow]
def QG:List (List Nat):=(Aj [0,1,3,0,8,24,0,64,255,0,512,1536,0,4096,12288,0,32768,131071,0,0,1048575,2097151])
@[simp]def Sd:List Seg:=[.any [] [7,8] [⟨0,[3],[7,8],[7,8],[]⟩,⟨0,[62],[7,8],[7,8],[]⟩,⟨0,[63],[7,8],[7,8],[]⟩,⟨0,[3],[7,8],[7,8],[]⟩,⟨0,[65],[7,8],[7,8],[]⟩,⟨0,[66],[7,8],[7,8],[]⟩,⟨0,[6],[7,8],[7,8],[]⟩,⟨0,[68],[7,8],[7,8],[]⟩,⟨0,[64,67,69],[7,8],[7,8],[]⟩,⟨0,[3],[7,8],[7,8],[]⟩,⟨0,[71],[7,8],[7,8],[]⟩,⟨0,[72],[7,8],[7,8],[]⟩,⟨0,[3],[7,8],[7,8],[]⟩,⟨0,[74],[7,8],[7,8],[]⟩,⟨0,[75],[7,8],[7,8],[]⟩,⟨0,[6],[7,8],[7,8],[]⟩,⟨0,[77],[7,8],[7,8],[]⟩,⟨0,[73,76,78],[7,8],[7,8],[]⟩,⟨1,[],[8],[8],[]⟩,⟨1,[],[7],[7],[]⟩],.one,.one]
def pzF(a b:Int)(i:Nat):Int×Int:=E9 a b ((i%2:Nat):Int)
def qzF(c e:Int)(i:Nat):Int×Int:=E9 c e ((i/2:Nat):Int)
def FV(a b c e:Int)(i:Nat):List Int:=[(pzF a b i).1,(pzF a b i).2,(qzF c e i).1,(qzF c e i).2]
def Hj(a b c e:Int)(i:Nat):List Int:=[(qzF c e i).1,(qzF c e i).2,(pzF a b i).1,(pzF a b i).2]
def CP(k:Int)(n:Bool)(m d m2 d2:List Nat)(a b c e:Int)(i:Nat):List Fct:=[⟨k,FV a b c e i,n,m,d⟩,⟨k,Hj a b c e i,n,m2,d2⟩]
def Dz(S:Nat→List Fct)(n:Nat):List Fct:=((List.range n).map S).foldl AB []
theorem jhF(S:Nat→List Fct)(n:Nat):Dz S (n+1)=AB (Dz S n) (S n):=JA S n
theorem Yo{S:Nat→List Fct}(h: ∀i,∀x∈S i,x.Mild∧x.Val){n:Nat}{x:Fct}(hx:x∈Dz S n):x.Mild∧x.Val:=by
 rcases Je hx with h'|⟨L,h1,h2⟩
 ·cases h'
 ·obtain⟨t,_,rfl⟩:=jzk.1 h1
  exact h t x h2
theorem YA{S:Nat→List Fct}(h: ∀i,(S i).length≤2)(n:Nat):(Dz S n).length≤n*2:=by
 have:=JN (b:=2) (A:=[]) (Ls:=(List.range n).map S) (fun L hL=>by
  obtain⟨t,_,rfl⟩:=jzk.1 hL
  exact h t)
 simpa [Dz]using this
theorem UZ{A:List Fct}{f:Fct}(hA: ∀x∈A,x.Mild∧x.Val)(hf:f.Mild∧f.Val): ∀x∈putF A f,x.Mild∧x.Val:=fun x hx=>by
 rcases Ny hx with rfl|hx
 ·exact hf
 ·exact hA x hx
theorem MR(k:Int)(hk:k=2∨k=3∨k=4)(a b c e:Int)(n:Bool)(m d:List Nat)
  (hr:AK ⟨k,[a,b,c,e],n,m,d⟩=true) (hm:(Fct.mk k [a,b,c,e] n m d).Mild):
  CallsF Tryz.prog 220 [.agg [.int .i64 k,intsD [a,b,c,e],.bool n,Ab m,Ab d]] (.u (.c (.d (fctsD (Dz (CP k n m d m d a b c e) 4))))):=by
 have k1:=FE ⟨k,[a,b,c,e],n,m,d⟩ hm;rw[hr]at k1;have ok: ∀i,∀x∈CP k n m d m d a b c e i,x.Mild∧x.Val:=fun i x hx=>by
  have h9:k≠9:=by omega
  rcases jzn.1 hx with rfl|hx
  ·exact⟨⟨hm.la,hm.ld,hm.oa,hm.od,by simp[FV]⟩,fun h=>absurd h h9⟩
  ·rcases jzn.1 hx with rfl|hx
   ·exact⟨⟨hm.la,hm.ld,hm.oa,hm.od,by simp[Hj]⟩,fun h=>absurd h h9⟩
   ·cases hx
 have okA:=fun t x (hx:x∈Dz (CP k n m d m d a b c e) t)=>Yo ok hx
 have lnA:=YA (S:=CP k n m d m d a b c e) (fun i=>by simp[CP])
 have P1:=fun t (ht:t<4)=>Hv ⟨k,FV a b c e t,n,m,d⟩ (Dz (CP k n m d m d a b c e) t) (ok t _ (by simp[CP])).1 (ok t _ (by simp[CP])).2 (fun y hy=>(okA t y hy).1) (fun y hy=>(okA t y hy).2) (by have:=lnA t;omega)
 have P2:=fun t (ht:t<4)=>Hv ⟨k,Hj a b c e t,n,m,d⟩ (putF (Dz (CP k n m d m d a b c e) t) ⟨k,FV a b c e t,n,m,d⟩) (ok t _ (by simp[CP])).1 (ok t _ (by simp[CP])).2
  (fun y hy=>(UZ (okA t) (ok t _ (by simp[CP])) y hy).1) (fun y hy=>(UZ (okA t) (ok t _ (by simp[CP])) y hy).2) (by have:=lnA t;have:=Ms ⟨k,FV a b c e t,n,m,d⟩ (Dz (CP k n m d m d a b c e) t);omega)
 have E2: ∀t,putF (putF (Dz (CP k n m d m d a b c e) t) ⟨k,FV a b c e t,n,m,d⟩) ⟨k,Hj a b c e t,n,m,d⟩=Dz (CP k n m d m d a b c e) (t+1):=fun t=>by
  rw[jhF];rfl
 simp only[E2]at P2;generalize hS:Dz (CP k n m d m d a b c e)=S at*;have S0:S 0=[]:=by rw[←hS];rfl
 have F1:=fun t=>KI ⟨k,[a,b,c,e],n,m,d⟩ (FV a b c e t) (by simp[FV])
 have F2:=fun t=>KI ⟨k,[a,b,c,e],n,m,d⟩ (Hj a b c e t) (by simp[Hj])
 have T1:=fun t:Nat=>Jo a b ((t%2:Nat):Int)
 have T2:=fun t:Nat=>Jo c e ((t/2:Nat):Int)
 clear ok okA lnA E2 hS hm hr;have i1: ¬k=1:=by omega
 have i5: ¬k=5:=by omega
 have i6: ¬k=6:=by omega
 have i7: ¬k=7:=by omega
 have i8: ¬k=8:=by omega
 have i9: ¬k=9:=by omega
 simp only[Fct.ds,Fct.res]at*;refine Ae (T:=tb) Ad mixed Tryz.func220 rfl (by decide) (Ac rfl) rfl ?_;unfold St.init
 simp -implicitDefEqProofs[jJ,-natCast_add,-natCast_mul,-natCast_emod,-natCast_ediv,-natCast_pow];refine Aa k1 ?_;simp -implicitDefEqProofs[jJ,-natCast_add,-natCast_mul,-natCast_emod,-natCast_ediv,-natCast_pow,i1,i5,i6,i7,i8];refine Av (fun x:Nat×Bool=>match x with
    |(i,false)=>⟨[(6,vI .i64 i),(5,vC (.sl 5 0 0)),(3,vC (.d (intsD [a,b,c,e]))),(1,vC (.ptr 1 0))],[(5,.row 5 [] true),(1,.box [.d (.int .i64 k),.d (intsD [a,b,c,e]),.d (.bool n),.d (Ab m),.d (Ab d)])]⟩
    |(i,true)=>⟨[(6,vI .i64 i),(5,vC (.d (fctsD (S i)))),(3,vC (.d (intsD [a,b,c,e]))),(1,vC (.ptr 1 0))],[(1,.box [.d (.int .i64 k),.d (intsD [a,b,c,e]),.d (.bool n),.d (Ab m),.d (Ab d)])]⟩)
   (fun x=>x.1≤4∧(x.2=false∧x.1=0∨x.1≠0∧x.2=true)) (fun x=>4 - x.1) (0,false) (by simp) (by simp) ?_
 rintro⟨t,o⟩ ⟨h1,h2⟩
 simp only at h1 h2;by_cases h:t<4
 ·have P1:=P1 t h;have P2:=P2 t h;have F1:=F1 t;have F2:=F2 t;have T1:=T1 t;have T2:=T2 t;have e1:pzF a b t=E9 a b ((t%2:Nat):Int):=rfl;have e2:qzF c e t=E9 c e ((t/2:Nat):Int):=rfl;unfold FV Hj at*;rw[←e1]at T1;rw[←e2]at T2;generalize pzF a b t=x at*;generalize qzF c e t=y at*;clear e1 e2;rcases h2 with⟨rfl,h2⟩|⟨h2,rfl⟩
  ·rw[show fctsD (S t)=D.slice 0 [] from by rw[h2,S0];rfl]at P1
   simp -implicitDefEqProofs[jJ,-natCast_add,-natCast_mul,-natCast_emod,-natCast_ediv,-natCast_pow,h];refine Af QG Sd (by rfl) ?_
   simp -implicitDefEqProofs[jJ,-natCast_add,-natCast_mul,-natCast_emod,-natCast_ediv,-natCast_pow,h,i64];refine Al T1 ?_;simp -implicitDefEqProofs[jJ,-natCast_add,-natCast_mul,-natCast_emod,-natCast_ediv,-natCast_pow,i64];refine⟨by omega,?_⟩
   refine Al T2 ?_;simp -implicitDefEqProofs[jJ,-natCast_add,-natCast_mul,-natCast_emod,-natCast_ediv,-natCast_pow];refine Aa F1 ?_
   simp -implicitDefEqProofs[jJ,-natCast_add,-natCast_mul,-natCast_emod,-natCast_ediv,-natCast_pow];refine Aa P1 ?_;simp -implicitDefEqProofs[jJ,-natCast_add,-natCast_mul,-natCast_emod,-natCast_ediv,-natCast_pow,i9];refine Aa F2 ?_;simp -implicitDefEqProofs[jJ,-natCast_add,-natCast_mul,-natCast_emod,-natCast_ediv,-natCast_pow];refine Aa P2 ?_;simp -implicitDefEqProofs[jJ,-natCast_add,-natCast_mul,-natCast_emod,-natCast_ediv,-natCast_pow];exact⟨by omega,t+1,⟨rfl,rfl⟩,⟨by omega,by omega⟩,by omega⟩
  ·simp -implicitDefEqProofs[jJ,-natCast_add,-natCast_mul,-natCast_emod,-natCast_ediv,-natCast_pow,h];refine Af QG Sd (by rfl) ?_
   simp -implicitDefEqProofs[jJ,-natCast_add,-natCast_mul,-natCast_emod,-natCast_ediv,-natCast_pow,h,i64];refine Al T1 ?_;simp -implicitDefEqProofs[jJ,-natCast_add,-natCast_mul,-natCast_emod,-natCast_ediv,-natCast_pow,i64];refine⟨by omega,?_⟩
   refine Al T2 ?_;simp -implicitDefEqProofs[jJ,-natCast_add,-natCast_mul,-natCast_emod,-natCast_ediv,-natCast_pow];refine Aa F1 ?_
   simp -implicitDefEqProofs[jJ,-natCast_add,-natCast_mul,-natCast_emod,-natCast_ediv,-natCast_pow];refine Aa P1 ?_;simp -implicitDefEqProofs[jJ,-natCast_add,-natCast_mul,-natCast_emod,-natCast_ediv,-natCast_pow,i9];refine Aa F2 ?_;simp -implicitDefEqProofs[jJ,-natCast_add,-natCast_mul,-natCast_emod,-natCast_ediv,-natCast_pow];refine Aa P2 ?_;simp -implicitDefEqProofs[jJ,-natCast_add,-natCast_mul,-natCast_emod,-natCast_ediv,-natCast_pow];exact⟨by omega,t+1,⟨rfl,rfl⟩,⟨by omega,by omega⟩,by omega⟩
 ·have:t=4:=by omega
  subst this;rcases h2 with⟨rfl,h2⟩|⟨h2,rfl⟩
  ·omega
  ·simp -implicitDefEqProofs[jJ,-natCast_add,-natCast_mul,-natCast_emod,-natCast_ediv,-natCast_pow]
theorem Mv(k:Int)(hk:k=1∨k=6∨k=8)(l:List Int)(n:Bool)(m d:List Nat)(hr:AK ⟨k,l,n,m,d⟩=true)(hm:(Fct.mk k l n m d).Mild)(hl:l.length≤8):
  CallsF Tryz.prog 220 [.agg [.int .i64 k,intsD l,.bool n,Ab m,Ab d]] (.u (.c (.d (fctsD (BW k l.length [] l))))):=by
 have k1:=FE ⟨k,l,n,m,d⟩ hm;rw[hr]at k1;have k2:=Qg k (by omega) l.length [] l rfl (by simpa using hl)
 rw[show intsD ([]:List Int)=D.slice 0 [] from rfl]at k2
 clear hr hm;simp only[Fct.ds]at*;refine Ae (T:=tb) Ad mixed Tryz.func220 rfl (by decide) (Ac rfl) rfl ?_;unfold St.init
 simp -implicitDefEqProofs[jJ,-natCast_add,-natCast_mul];refine Aa k1 ?_;rcases hk with rfl|rfl|rfl<;>simp -implicitDefEqProofs[jJ,-natCast_add,-natCast_mul]<;>refine Aa k2 ?_<;>simp -implicitDefEqProofs[jJ,-natCast_add,-natCast_mul]
theorem jc9(l:List Int)(hl:l.length=8)(hr:AK ⟨7,l,false,[],[]⟩=true)(hm:(Fct.mk 7 l false [] []).Mild):
  CallsF Tryz.prog 220 [.agg [.int .i64 7,intsD l,.bool false,Ab [],Ab []]] (.u (.c (.d (fctsD (Cm l 8))))):=by
 have k1:=FE ⟨7,l,false,[],[]⟩ hm;rw[hr]at k1;have k2:=jhZ l hl;clear hr hm;simp only[Fct.ds]at*;refine Ae (T:=tb) Ad mixed Tryz.func220 rfl (by decide) (Ac rfl) rfl ?_;unfold St.init
 simp -implicitDefEqProofs[jJ,-natCast_add,-natCast_mul];refine Aa k1 ?_;simp -implicitDefEqProofs[jJ,-natCast_add,-natCast_mul];refine Aa k2 ?_;simp -implicitDefEqProofs[jJ,-natCast_add,-natCast_mul]
theorem jed(a b c:Int)(hr:AK ⟨5,[a,b,c],false,[],[]⟩=true)(hm:(Fct.mk 5 [a,b,c] false [] []).Mild):
  CallsF Tryz.prog 220 [.agg [.int .i64 5,intsD [a,b,c],.bool false,Ab [],Ab []]] (.u (.c (.d (fctsD (AB [] [⟨5,[a,b,c],false,[],[]⟩,⟨5,[a,c,b],false,[],[]⟩]))))):=by
 have k1:=FE ⟨5,[a,b,c],false,[],[]⟩ hm;rw[hr]at k1;have x1:(Fct.mk 5 [a,b,c] false [] []).Mild:=KF 5 [a,b,c] (by simp)
 have x2:(Fct.mk 5 [a,c,b] false [] []).Mild:=KF 5 [a,c,b] (by simp)
 have y1:(Fct.mk 5 [a,b,c] false [] []).Val:=fun h=>absurd h (by simp)
 have y2:(Fct.mk 5 [a,c,b] false [] []).Val:=fun h=>absurd h (by simp)
 have F1:=KI ⟨5,[a,b,c],false,[],[]⟩ [a,b,c] (by simp)
 have F2:=KI ⟨5,[a,b,c],false,[],[]⟩ [a,c,b] (by simp)
 have P1:=Hv ⟨5,[a,b,c],false,[],[]⟩ [] x1 y1 (by simp) (by simp) (by simp)
 have P2:=Hv ⟨5,[a,c,b],false,[],[]⟩ [⟨5,[a,b,c],false,[],[]⟩] x2 y2 (by simpa using x1) (by simpa using y1) (by simp)
 rw[show putF [] (Fct.mk 5 [a,b,c] false [] [])=[⟨5,[a,b,c],false,[],[]⟩] from rfl]at P1
 rw[show AB [] [Fct.mk 5 [a,b,c] false [] [],⟨5,[a,c,b],false,[],[]⟩]=putF [⟨5,[a,b,c],false,[],[]⟩] ⟨5,[a,c,b],false,[],[]⟩ from rfl]
 rw[show fctsD []=D.slice 0 [] from rfl]at P1
 generalize putF [Fct.mk 5 [a,b,c] false [] []] ⟨5,[a,c,b],false,[],[]⟩=R at*;generalize [Fct.mk 5 [a,b,c] false [] []]=Q at*;clear hr hm x1 x2 y1 y2;simp only[Fct.ds,Fct.res]at*;refine Ae (T:=tb) Ad mixed Tryz.func220 rfl (by decide) (Ac rfl) rfl ?_;unfold St.init
 simp -implicitDefEqProofs[jJ,-natCast_add,-natCast_mul];refine Aa k1 ?_;simp -implicitDefEqProofs[jJ,-natCast_add,-natCast_mul];refine Af (Aj [0,0,2,6,0,16,48,0,128,384,1022,2047,4095,8191]) [.any [] [37] [⟨0,[1],[],[37],[]⟩,⟨0,[3],[],[37],[]⟩,⟨0,[28],[],[37],[]⟩,⟨0,[29],[],[37],[]⟩,⟨0,[3],[],[37],[]⟩,⟨0,[31],[],[37],[]⟩,⟨0,[32],[],[37],[]⟩,⟨0,[3],[],[37],[]⟩,⟨0,[34],[],[37],[]⟩,⟨0,[35],[],[37],[]⟩,⟨4,[30,33,36],[],[],[]⟩],.one,.one,.one] (by rfl) ?_
 simp -implicitDefEqProofs[jJ,-natCast_add,-natCast_mul,i64];refine Aa F1 ?_;simp -implicitDefEqProofs[jJ,-natCast_add,-natCast_mul];refine Aa P1 ?_;simp -implicitDefEqProofs[jJ,-natCast_add,-natCast_mul];refine Af (Aj [0,0,0,4,12,0,32,96,0,256,768,2044,4094,8191,16383]) [.any [] [51] [⟨0,[4],[],[51],[]⟩,⟨0,[1],[],[51],[]⟩,⟨0,[3],[],[51],[]⟩,⟨0,[42],[],[51],[]⟩,⟨0,[43],[],[51],[]⟩,⟨0,[3],[],[51],[]⟩,⟨0,[45],[],[51],[]⟩,⟨0,[46],[],[51],[]⟩,⟨0,[3],[],[51],[]⟩,⟨0,[48],[],[51],[]⟩,⟨0,[49],[],[51],[]⟩,⟨4,[44,47,50],[],[],[]⟩,⟨0,[41,51],[],[],[]⟩],.one,.one] (by rfl) ?_
 simp -implicitDefEqProofs[jJ,-natCast_add,-natCast_mul,i64];refine Al F2 ?_;simp -implicitDefEqProofs[jJ,-natCast_add,-natCast_mul];refine Aa P2 ?_;simp -implicitDefEqProofs[jJ,-natCast_add,-natCast_mul]
end Go.Va
