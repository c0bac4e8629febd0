/- a part of the proof -/
import Derived.Test.YtkfdniccmcolgaaGreatWbc
set_option linter.all false
set_option maxHeartbeats 4000000
set_option maxRecDepth 10000
namespace Go.Va
open Int (natCast_add natCast_mul natCast_emod natCast_ediv natCast_pow)
open Go.Proofs
def ML:List (List Nat):=(Aj [0,0,3,7,0,0,48,112,255])
@[simp]def NI:List Seg:=[.any [] [] (Ao [[0],[5],[18,19],[20],[1],[5],[22,23],[24]]),.one]
def R2:List (List Nat):=(Aj [0,0,3,7,0,0,48,112,255])
@[simp]def Ty:List Seg:=[.any [] [] (Ao [[0],[5],[27,28],[29],[1],[5],[31,32],[33]]),.one]
def Km:List (List Nat):=(Aj [0,0,3,7,0,0,48,112,255,511])
@[simp]def LG:List Seg:=[.any [] [] (Ao [[0],[5],[17,18],[19],[1],[5],[21,22],[23]]),.one,.one]
def cmpLL:List Int→List Int→Int
 |[],b=>0 - (b.length:Int)
 |a::x,[]=>((a::x).length:Int)
 |a::x,b::y=>if a<b then -1 else if b<a then 1 else cmpLL x y
theorem jfk{a b:List Int}{i:Nat}(ha:i<a.length)(hb:i<b.length):cmpLL (a.drop i) (b.drop i)=if a[i]<b[i] then -1 else if b[i]<a[i] then 1 else cmpLL (a.drop (i+1)) (b.drop (i+1)):=by
 rw[AD ha,AD hb,cmpLL]
theorem Rg{a b:List Int}{i:Nat}(ha:i≤a.length)(hb:i≤b.length)(h:i=a.length∨i=b.length):cmpLL (a.drop i) (b.drop i)=(a.length:Int) - b.length:=by
 rcases Nat.lt_or_ge i a.length with h1|h1
 ·have h2:i=b.length:=by omega
  rw[B7 (by omega:b.length≤i)]
  have hl:(a.drop i).length=a.length - i:=List.length_drop
  cases hd:a.drop i with
  |nil=>rw[hd]at hl;simp at hl;omega
  |cons x l=>rw[cmpLL,←hd,hl];omega
 ·rw[B7 h1,cmpLL,List.length_drop];omega
theorem WL: ∀a b:List Int,cmpLL a b=0↔a=b
 |[],[]=>by simp[cmpLL]
 |[],b::y=>by simp[cmpLL];omega
 |a::x,[]=>by simp[cmpLL];omega
 |a::x,b::y=>by
  have:=WL x y
  rw[cmpLL]
  split
  ·simp;omega
  ·split
   ·simp;omega
   ·rw[this];simp;omega
theorem Zh(a b:List Int)(ha:a.length≤1000000)(hb:b.length≤1000000):CallsF Tryz.prog 68 [.c (intsD a),.c (intsD b)] (.u (.c (.d (.int .i64 (cmpLL a b))))):=by
 refine Ae (T:=tb) Ad mixed Tryz.func68 rfl (by decide) (Ac rfl) rfl ?_;unfold St.init
 simp -implicitDefEqProofs[jJ,-natCast_add,-natCast_mul];refine Av (fun i:Nat=>⟨[(5,vI .i64 i),(0,vC (.d (intsD a))),(1,vC (.d (intsD b)))],[]⟩) (fun i=>i≤a.length∧i≤b.length∧cmpLL (a.drop i) (b.drop i)=cmpLL a b) (fun i=>a.length - i) 0 (by simp[An,lk,St.le,vI,vC]) ⟨by omega,by omega,rfl⟩ ?_
 rintro i ⟨h1,h2,h3⟩
 by_cases hA:i<a.length
 ·by_cases hB:i<b.length
  ·rw[jfk hA hB]at h3
   by_cases c1:a[i]<b[i]
   ·rw[if_pos c1]at h3
    rw[←h3]
    simp -implicitDefEqProofs[jJ,-natCast_add,-natCast_mul,hA,hB];refine Af ML NI (by rfl) ?_
    simp -implicitDefEqProofs[jJ,-natCast_add,-natCast_mul,hA,hB,c1,i64]
   ·rw[if_neg c1]at h3
    by_cases c2:b[i]<a[i]
    ·rw[if_pos c2]at h3
     rw[←h3]
     simp -implicitDefEqProofs[jJ,-natCast_add,-natCast_mul,hA,hB];refine Af ML NI (by rfl) ?_
     simp -implicitDefEqProofs[jJ,-natCast_add,-natCast_mul,hA,hB,c1,i64];refine Af R2 Ty (by rfl) ?_
     simp -implicitDefEqProofs[jJ,-natCast_add,-natCast_mul,hA,hB,c2,i64]
    ·rw[if_neg c2]at h3
     simp -implicitDefEqProofs[jJ,-natCast_add,-natCast_mul,hA,hB];refine Af ML NI (by rfl) ?_
     simp -implicitDefEqProofs[jJ,-natCast_add,-natCast_mul,hA,hB,c1,i64];refine Af R2 Ty (by rfl) ?_
     simp -implicitDefEqProofs[jJ,-natCast_add,-natCast_mul,hA,hB,c2,i64];exact⟨by omega,⟨by omega,by omega,h3⟩,by omega⟩
  ·rw[Rg h1 h2 (by omega)]at h3
   simp -implicitDefEqProofs[jJ,-natCast_add,-natCast_mul,hA,hB];omega
 ·rw[Rg h1 h2 (by omega)]at h3
  simp -implicitDefEqProofs[jJ,-natCast_add,-natCast_mul,hA];omega
def cmpGd(a b:Grd):Int:=if a.kind≠b.kind then a.kind - b.kind else cmpLL a.args b.args
theorem cmpGd_zero{a b:Grd}:cmpGd a b=0↔a=b:=by
 unfold cmpGd;obtain⟨k,l⟩:=a;obtain⟨k',l'⟩:=b;simp only[Grd.mk.injEq];by_cases h:k=k'
 ·rw[if_neg (by simp[h]),WL];simp[h]
 ·rw[if_pos h]
  constructor
  ·intro h2;omega
  ·intro h2;exact absurd h2.1 h
theorem Ns(a b:Grd)(ha:a.Short)(hb:b.Short)(hk:a.kind=b.kind∨(-1000≤a.kind∧a.kind≤1000∧ -1000≤b.kind∧b.kind≤1000)):CallsF Tryz.prog 33 [.agg a.ds,.agg b.ds] (.u (.c (.d (.int .i64 (cmpGd a b))))):=by
 have k:=Zh a.args b.args ha hb;unfold cmpGd;simp only[Grd.ds];generalize cmpLL a.args b.args=r at*;refine Ae (T:=tb) Ad mixed Tryz.func33 rfl (by decide) (Ac rfl) rfl ?_;unfold St.init
 by_cases h:a.kind=b.kind
 ·simp -implicitDefEqProofs[jJ,-natCast_add,-natCast_mul,h];refine Aa k ?_;simp -implicitDefEqProofs[jJ,-natCast_add,-natCast_mul]
 ·have hk: -1000≤a.kind∧a.kind≤1000∧ -1000≤b.kind∧b.kind≤1000:=by rcases hk with hk|hk;exact absurd hk h;exact hk
  simp -implicitDefEqProofs[jJ,-natCast_add,-natCast_mul,h];omega
theorem QK(a b:List Grd)(ha: ∀g∈a,g.Short)(hb: ∀g∈b,g.Short)(hal:a.length≤1099511627776)(hk: ∀g∈a,∀h∈b,g.kind=h.kind∨(-1000≤g.kind∧g.kind≤1000∧ -1000≤h.kind∧h.kind≤1000)∨a=b):
  CallsF Tryz.prog 13 [.c (grdsD a),.c (grdsD b)] (.u (.c (.d (.bool (decide (a=b)))))):=by
 have k: ∀i (h1:i<a.length) (h2:i<b.length),CallsF Tryz.prog 33 [.agg a[i].ds,.agg b[i].ds] (.u (.c (.d (.int .i64 (cmpGd a[i] b[i]))))):=fun i h1 h2=>by
  refine Ns _ _ (ha _ (Ak h1)) (hb _ (Ak h2)) ?_;rcases hk _ (Ak h1) _ (Ak h2)with h|h|h
  ·exact .inl h
  ·exact .inr h
  ·subst h;exact .inl rfl
 simp only[Grd.ds]at k;clear ha hb hk;refine Ae (T:=tb) Ad mixed Tryz.func13 rfl (by decide) (Ac rfl) rfl ?_;unfold St.init
 by_cases hl:a.length=b.length
 ·simp -implicitDefEqProofs[jJ,-natCast_add,-natCast_mul,hl];refine Av (fun i:Nat=>⟨[(5,vI .i64 i),(0,vC (.d (grdsD a))),(1,vC (.d (grdsD b)))],[]⟩) (fun i=>i≤a.length∧a.take i=b.take i) (fun i=>a.length - i) 0 (by simp[An,lk,St.le,vI,vC]) ⟨by omega,by simp⟩ ?_
  rintro i ⟨hi,he⟩
  by_cases h:i<a.length
  ·have hB:i<b.length:=by omega
   have ea:=F8 h;have eb:=F8 hB;have k:=k i h hB;have hz:= @cmpGd_zero a[i] b[i];generalize cmpGd a[i] b[i]=r at*;by_cases h0:r=0
   ·simp -implicitDefEqProofs[jJ,-natCast_add,-natCast_mul,h,hB];refine Af Km LG (by rfl) ?_
    simp -implicitDefEqProofs[jJ,-natCast_add,-natCast_mul,h,hB,ea,eb];refine Aa k ?_;simp -implicitDefEqProofs[jJ,-natCast_add,-natCast_mul,h0];refine⟨by omega,⟨by omega,?_⟩,by omega⟩
    rw[AQ h,AQ hB,he,hz.1 h0]
   ·have hne: ¬a=b:=fun e=>h0 (hz.2 (by subst e;rfl))
    simp -implicitDefEqProofs[jJ,-natCast_add,-natCast_mul,h,hB];refine Af Km LG (by rfl) ?_
    simp -implicitDefEqProofs[jJ,-natCast_add,-natCast_mul,h,hB,ea,eb];refine Aa k ?_;simp -implicitDefEqProofs[jJ,-natCast_add,-natCast_mul,h0,hne]
  ·have hi2:i=a.length:=by omega
   subst hi2;rw[AZ,hl,AZ]at he;simp -implicitDefEqProofs[jJ,-natCast_add,-natCast_mul,h,he]
 ·have hne: ¬a=b:=fun e=>hl (by rw[e])
  simp -implicitDefEqProofs[jJ,-natCast_add,-natCast_mul,hl,hne]
theorem jaL(a b:List Fct)(ha: ∀f∈a,f.Rt)(hb: ∀f∈b,f.Rt)(hal:a.length≤1099511627776):
  CallsF Tryz.prog 12 [.c (fctsD a),.c (fctsD b)] (.u (.c (.d (.bool (decide (a=b)))))):=by
 have k: ∀i (h1:i<a.length) (h2:i<b.length),CallsF Tryz.prog 26 [.agg a[i].ds,.agg b[i].ds] (.u (.c (.d (.bool (decide (a[i]=b[i])))))):=fun i h1 h2=>by
  have r1:=ha _ (Ak h1);have r2:=hb _ (Ak h2);have:=JL a[i] b[i] r1.mild r2.mild r1.val r2.val;rw[show decide (Aw a[i] b[i]=0)=decide (a[i]=b[i]) from decide_eq_decide.2 (Et r1 r2)]at this
  exact this
 simp only[Fct.ds]at k;clear ha hb;refine Ae (T:=tb) Ad mixed Tryz.func12 rfl (by decide) (Ac rfl) rfl ?_;unfold St.init
 by_cases hl:a.length=b.length
 ·simp -implicitDefEqProofs[jJ,-natCast_add,-natCast_mul,hl];refine Av (fun i:Nat=>⟨[(5,vI .i64 i),(0,vC (.d (fctsD a))),(1,vC (.d (fctsD b)))],[]⟩) (fun i=>i≤a.length∧a.take i=b.take i) (fun i=>a.length - i) 0 (by simp[An,lk,St.le,vI,vC]) ⟨by omega,by simp⟩ ?_
  rintro i ⟨hi,he⟩
  by_cases h:i<a.length
  ·have hB:i<b.length:=by omega
   have ea:=DO h;have eb:=DO hB;have k:=k i h hB;by_cases h0:a[i]=b[i]
   ·rw[decide_eq_true h0]at k
    simp -implicitDefEqProofs[jJ,-natCast_add,-natCast_mul,h,hB];refine Af Km LG (by rfl) ?_
    simp -implicitDefEqProofs[jJ,-natCast_add,-natCast_mul,h,hB,ea,eb];refine Aa k ?_;simp -implicitDefEqProofs[jJ,-natCast_add,-natCast_mul];refine⟨by omega,⟨by omega,?_⟩,by omega⟩
    rw[AQ h,AQ hB,he,h0]
   ·rw[decide_eq_false h0]at k
    have hne: ¬a=b:=fun e=>h0 (by subst e;rfl)
    simp -implicitDefEqProofs[jJ,-natCast_add,-natCast_mul,h,hB];refine Af Km LG (by rfl) ?_
    simp -implicitDefEqProofs[jJ,-natCast_add,-natCast_mul,h,hB,ea,eb];refine Aa k ?_;simp -implicitDefEqProofs[jJ,-natCast_add,-natCast_mul,hne]
  ·have hi2:i=a.length:=by omega
   subst hi2;rw[AZ,hl,AZ]at he;simp -implicitDefEqProofs[jJ,-natCast_add,-natCast_mul,h,he]
 ·have hne: ¬a=b:=fun e=>hl (by rw[e])
  simp -implicitDefEqProofs[jJ,-natCast_add,-natCast_mul,hl,hne]
def GA(f:Fct):Bool:=decide (f.args.length≤20)&&decide (f.abs.length≤2)&&decide (f.den.length≤2)
def Dl(l:List Fct):Bool:=decide (l.length≤4)&&l.all GA
theorem jan(l:List Fct)(hl:l.length≤1099511627776):CallsF Tryz.prog 8 [.c (fctsD l)] (.u (.c (.d (.bool (Dl l))))):=by
 unfold Dl;refine Ae (T:=tb) Ad mixed Tryz.func8 rfl (by decide) (Ac rfl) rfl ?_;unfold St.init
 by_cases h4:l.length≤4
 ·rw[decide_eq_true h4,Bool.true_and]
  have h4': ¬4<l.length:=by omega
  simp -implicitDefEqProofs[jJ,-natCast_add,-natCast_mul,h4,h4'];refine Av (fun i:Nat=>⟨[(3,vI .i64 i),(0,vC (.d (fctsD l)))],[]⟩) (fun i=>i≤l.length∧(l.take i).all GA=true) (fun i=>l.length - i) 0 (by simp[An,lk,St.le,vI,vC]) ⟨by omega,by simp⟩ ?_
  rintro i ⟨hi,he⟩
  by_cases h:i<l.length
  ·have ea:=DO h;have hm:GA l[i]=(decide (l[i].args.length≤20)&&decide (l[i].abs.length≤2)&&decide (l[i].den.length≤2)):=rfl;have hno:GA l[i]=false→l.all GA=false:=fun h0=>by
    rw[Bool.eq_false_iff]
    intro hc;rw[jzy]at hc;rw[hc _ (Ak h)]at h0;cases h0
   by_cases c1:l[i].args.length≤20
   ·by_cases c2:l[i].abs.length≤2
    ·by_cases c3:l[i].den.length≤2
     ·rw[decide_eq_true c1,decide_eq_true c2,decide_eq_true c3]at hm
      have d1: ¬20<l[i].args.length:=by omega
      have d2: ¬2<l[i].abs.length:=by omega
      have d3: ¬2<l[i].den.length:=by omega
      simp -implicitDefEqProofs[jJ,-natCast_add,-natCast_mul,h,ea,d1,d2,d3];refine⟨by omega,⟨by omega,?_⟩,by omega⟩
      have e:(l.take (i+1)).all GA=true:=by
       rw[AQ h,List.all_append,he]
       simp[hm]
      simpa using e
     ·rw[decide_eq_false c3,Bool.and_false]at hm
      rw[hno hm]
      have d1: ¬20<l[i].args.length:=by omega
      have d2: ¬2<l[i].abs.length:=by omega
      have d3:2<l[i].den.length:=by omega
      simp -implicitDefEqProofs[jJ,-natCast_add,-natCast_mul,h,ea,d1,d2,d3]
    ·rw[decide_eq_false c2,Bool.and_false,Bool.false_and]at hm
     rw[hno hm]
     have d1: ¬20<l[i].args.length:=by omega
     have d2:2<l[i].abs.length:=by omega
     simp -implicitDefEqProofs[jJ,-natCast_add,-natCast_mul,h,ea,d1,d2]
   ·rw[decide_eq_false c1,Bool.false_and,Bool.false_and]at hm
    rw[hno hm]
    have d1:20<l[i].args.length:=by omega
    simp -implicitDefEqProofs[jJ,-natCast_add,-natCast_mul,h,ea,d1]
  ·have hi2:i=l.length:=by omega
   subst hi2;rw[AZ]at he;rw[he];simp -implicitDefEqProofs[jJ,-natCast_add,-natCast_mul,h]
 ·rw[decide_eq_false h4,Bool.false_and]
  have h4':4<l.length:=by omega
  simp -implicitDefEqProofs[jJ,-natCast_add,-natCast_mul,h4']
def RM:List (List Nat):=(Aj [0,0,3,7,0,0,48,112,255,511])
@[simp]def Q2:List Seg:=[.any [] [] (Ao [[0],[5],[23,24],[25],[1],[5],[27,28],[29]]),.one,.one]
def GJ:List Grd→List Grd→Bool
 |a::l,b::m=>if cmpGd a b=0 then GJ l m else decide (cmpGd a b<0)
 |_,_=>false
def JZ(a b:List Grd):Bool:=if a.length=b.length then GJ a b else decide (a.length<b.length)
theorem jhq(l:List Grd):GJ [] l=false:=by cases l<;>rfl
theorem jgG(a b:List Grd)(ha: ∀g∈a,g.Short)(hb: ∀g∈b,g.Short)(hal:a.length≤1099511627776)
  (hk: ∀g∈a,∀h∈b,g.kind=h.kind∨(-1000≤g.kind∧g.kind≤1000∧ -1000≤h.kind∧h.kind≤1000)):
  CallsF Tryz.prog 218 [.c (grdsD a),.c (grdsD b)] (.u (.c (.d (.bool (JZ a b))))):=by
 have k: ∀i (h1:i<a.length) (h2:i<b.length),CallsF Tryz.prog 33 [.agg a[i].ds,.agg b[i].ds] (.u (.c (.d (.int .i64 (cmpGd a[i] b[i]))))):=fun i h1 h2=>
  Ns _ _ (ha _ (Ak h1)) (hb _ (Ak h2)) (hk _ (Ak h1) _ (Ak h2))
 simp only[Grd.ds]at k;clear ha hb hk;unfold JZ;refine Ae (T:=tb) Ad mixed Tryz.func218 rfl (by decide) (Ac rfl) rfl ?_;unfold St.init
 by_cases hl:a.length=b.length
 ·rw[if_pos hl]
  simp -implicitDefEqProofs[jJ,-natCast_add,-natCast_mul,hl];refine Av (fun i:Nat=>⟨[(5,vI .i64 i),(0,vC (.d (grdsD a))),(1,vC (.d (grdsD b)))],[]⟩) (fun i=>i≤a.length∧GJ a b=GJ (a.drop i) (b.drop i)) (fun i=>a.length - i) 0 (by simp[An,lk,St.le,vI,vC]) ⟨by omega,by simp⟩ ?_
  rintro i ⟨hi,he⟩
  by_cases h:i<a.length
  ·have hB:i<b.length:=by omega
   have ea:=F8 h;have eb:=F8 hB;have k:=k i h hB;rw[AD h,AD hB,GJ]at he;generalize cmpGd a[i] b[i]=r at*;by_cases h0:r=0
   ·rw[if_pos h0]at he
    simp -implicitDefEqProofs[jJ,-natCast_add,-natCast_mul,h,hB];refine Af RM Q2 (by rfl) ?_
    simp -implicitDefEqProofs[jJ,-natCast_add,-natCast_mul,h,hB,ea,eb];refine Aa k ?_;simp -implicitDefEqProofs[jJ,-natCast_add,-natCast_mul,h0];exact⟨by omega,⟨by omega,he⟩,by omega⟩
   ·rw[if_neg h0]at he
    simp -implicitDefEqProofs[jJ,-natCast_add,-natCast_mul,h,hB];refine Af RM Q2 (by rfl) ?_
    simp -implicitDefEqProofs[jJ,-natCast_add,-natCast_mul,h,hB,ea,eb];refine Aa k ?_;simp -implicitDefEqProofs[jJ,-natCast_add,-natCast_mul,h0,he]
  ·have hi2:i=a.length:=by omega
   subst hi2;rw[List.drop_length,jhq]at he;simp -implicitDefEqProofs[jJ,-natCast_add,-natCast_mul,h,he]
 ·rw[if_neg hl]
  simp -implicitDefEqProofs[jJ,-natCast_add,-natCast_mul,hl]
end Go.Va
