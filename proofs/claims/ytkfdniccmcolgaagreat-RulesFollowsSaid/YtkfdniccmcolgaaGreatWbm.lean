/- a part of the proof -/
import Derived.Test.YtkfdniccmcolgaaGreatWbd
import Derived.Test.YtkfdniccmcolgaaGreatWbk
import Derived.Test.YtkfdniccmcolgaaGreatWbl
import Derived.Test.YtkfdniccmcolgaaGreatWbi
import Derived.Test.YtkfdniccmcolgaaGreatWao
import Derived.Test.YtkfdniccmcolgaaGreatWbj
import Derived.Test.YtkfdniccmcolgaaGreatWbc
set_option linter.all false
set_option maxHeartbeats 4000000
set_option maxRecDepth 100000
namespace Go.Va
def cls(sg:Bool)(c:UInt8):Prop:=if sg then 97≤c.toNat∧c.toNat<123 else 65≤c.toNat∧c.toNat<91
instance (sg:Bool) (c:UInt8):Decidable (cls sg c):=by unfold cls;infer_instance
def D7(sg:Bool)(c:UInt8):UInt8:=if sg then c else c+32
def ES(sg:Bool)(c:UInt8):Nat:=(D7 sg c).toNat - 97
theorem MH{sg:Bool}{c:UInt8}(h:cls sg c):ES sg c=if sg then c.toNat - 97 else c.toNat - 65:=by
 unfold ES D7;cases sg with
 |true=>rfl
 |false=>
  unfold cls at h;simp only[Bool.false_eq_true,if_false]at h ⊢;rw[UInt8.toNat_add];have:(32:UInt8).toNat=32:=rfl;omega
theorem Qs{sg:Bool}{c:UInt8}(h:cls sg c):ES sg c<26:=by
 rw[MH h]
 unfold cls at h;cases sg<;>simp only[Bool.false_eq_true,if_false,if_true]at h ⊢ <;>omega
theorem jdj{sg:Bool}{c d:UInt8}(hc:cls sg c)(hd:cls sg d)(h:ES sg c=ES sg d):c=d:=by
 rw[MH hc,MH hd]at h
 unfold cls at hc hd;refine Nm ?_;cases sg<;>simp only[Bool.false_eq_true,if_false,if_true]at h hc hd<;>omega
theorem NW{sg:Bool}{c:UInt8}(h:cls sg c):Cu c:=by
 unfold cls at h;unfold Cu;cases sg<;>simp only[Bool.false_eq_true,if_false,if_true]at h<;>omega
theorem HQ{sg:Bool}{c:UInt8}(h:cls sg c):97≤c.toNat↔sg=true:=by
 unfold cls at h;cases sg<;>simp only[Bool.false_eq_true,if_false,if_true]at h ⊢
 ·constructor
  ·intro h2;omega
  ·intro h2;cases h2
 ·exact⟨fun _=>by trivial,fun _=>h.1⟩
def CO(sg:Bool)(v:Int×Int):Int:=if sg then (v.1 - 1)*40+(v.2 - 1) else v.1 - 1
def Bt(sg:Bool)(v:Int×Int):Prop:=if sg then (1≤v.1∧v.1≤40)∧(1≤v.2∧v.2≤40) else (1≤v.1∧v.1≤40)∧v.2=0
theorem Sr{sg:Bool}{v:Int×Int}(h:Bt sg v):0≤CO sg v:=by
 unfold Bt at h;unfold CO;cases sg<;>simp only[Bool.false_eq_true,if_false,if_true]at h ⊢ <;>omega
theorem jbX{sg:Bool}{v w:Int×Int}(hv:Bt sg v)(hw:Bt sg w)(h:CO sg v=CO sg w):v=w:=by
 unfold Bt at hv hw;unfold CO at h;obtain⟨a,b⟩:=v;obtain⟨c,d⟩:=w;rw[Prod.mk.injEq];cases sg<;>simp only[Bool.false_eq_true,if_false,if_true]at h hv hw<;>omega
theorem O2{sg:Bool}{v:Int×Int}(h:Bt sg v):v≠(0,0):=by
 intro e;subst e;unfold Bt at h;cases sg<;>simp at h
theorem IT{sg:Bool}{s:Cs}(hc:cls sg s.1)(h:Bt sg s.2):Kt s:=by
 have h97:=HQ hc;refine⟨NW hc,?_,fun hn=> ?_⟩
 ·unfold Bt at h;cases sg<;>simp only[Bool.false_eq_true,if_false,if_true]at h<;>omega
 ·unfold Bt at h;cases sg with
  |true=>exact absurd (h97.2 rfl) hn
  |false=>exact h.2
def Eh(sg:Bool)(b:Bnd)(n:Nmz):Prop:= ∀c,cls sg c→(b.get c=(0,0)∧n.get (ES sg c)= -1)∨(Bt sg (b.get c)∧n.get (ES sg c)=CO sg (b.get c))
theorem jag(sg:Bool):Eh sg Bnd.zero Nmz.zero:=fun c hc=> .inl ⟨jcz c,Nmz.get_zero (Qs hc)⟩
def GD(sg:Bool)(a:List Cs):List UInt8:=a.map fun s=>D7 sg s.1
def vals(sg:Bool)(a:List Cs):List Int:=a.map fun s=>CO sg s.2
theorem VX{sg:Bool}{b b':Bnd}{n:Nmz}{s:Cs}(hL:Eh sg b n)(hc:cls sg s.1)(hv:Bt sg s.2)(h:b.put s.1 s.2=some b'):Eh sg b' (n.put (ES sg s.1) (CO sg s.2)):=by
 obtain⟨_,p2,p3⟩:=NS (IT hc hv) h
 intro c hcc;rw[Nmz.get_put n (Qs hc)];by_cases e:c=s.1
 ·subst e;rw[if_pos rfl,p2];exact .inr ⟨hv,rfl⟩
 ·rw[if_neg fun h=>e (jdj hcc hc h),p3 c (NW hcc) e]
  exact hL c hcc
theorem Nf(sg:Bool): ∀(a:List Cs) (b:Bnd) (n:Nmz),(∀s∈a,cls sg s.1∧Bt sg s.2)→Eh sg b n→
  match run a b with
  |some c=> ∃m,Be (GD sg a) (vals sg a) n=(m,true)∧Eh sg c m
  |none=>(Be (GD sg a) (vals sg a) n).2=false
 |[],b,n,_,hL=>⟨n,rfl,hL⟩
 |s::a,b,n,ha,hL=>by
  obtain⟨hc,hv⟩:=ha s (by simp)
  have ih:=fun b' n'=>Nf sg a b' n' fun t ht=>ha t (by simp[ht])
  have e1:Be (GD sg (s::a)) (vals sg (s::a)) n=if 0≤n.get (ES sg s.1)∧n.get (ES sg s.1)≠CO sg s.2 then (n,false) else Be (GD sg a) (vals sg a) (n.put (ES sg s.1) (CO sg s.2)):=rfl
  have e2:run (s::a) b=match b.put s.1 s.2 with|none=>none|some b'=>run a b':=rfl
  rw[e1,e2]
  rcases hL s.1 hc with⟨h1,h2⟩|⟨h1,h2⟩
  ·obtain⟨b',hb'⟩:=QC (IT hc hv) (.inl h1)
   rw[hb',if_neg (by omega)]
   exact ih b' _ (VX hL hc hv hb')
  ·by_cases e:b.get s.1=s.2
   ·obtain⟨b',hb'⟩:=QC (IT hc hv) (.inr e)
    rw[hb',if_neg (fun h=>h.2 (by rw[h2,e]))]
    exact ih b' _ (VX hL hc hv hb')
   ·cases hb':b.put s.1 s.2 with
    |none=>
     simp only;rw[if_pos ⟨by rw[h2];exact Sr h1,fun h=>e (jbX h1 hv (h2.symm.trans h))⟩]
    |some b'=>
     obtain⟨p1,_,_⟩:=NS (IT hc hv) hb'
     rcases p1 with p1|p1
     ·exact absurd p1 (O2 h1)
     ·exact absurd p1 e
def BD:List (Int×Int)→List (List Int)
 |[]=>[[]]
 |s::l=>(BD l).map (fun r=>s.1::s.2::r)++(BD l).map (fun r=>s.2::s.1::r)
theorem MS(φ:Int→Int): ∀l:List (Int×Int),BD (l.map fun p=>(φ p.1,φ p.2))=(BD l).map (List.map φ)
 |[]=>rfl
 |s::l=>by
  rw[List.map_cons,BD,BD,MS φ l,List.map_append,List.map_map,List.map_map,List.map_map,List.map_map]
  rfl
theorem ON(a b:Int):Ah a b=(a,b)∨Ah a b=(b,a):=by
 unfold Ah lo hi;by_cases h:b<a
 ·rw[if_pos h,if_neg (by omega)];exact .inr rfl
 ·by_cases h2:a<b
  ·rw[if_neg h,if_pos h2];exact .inl rfl
  ·have:a=b:=by omega
   subst this;simp
theorem jel(v:List Int): ∀l:List (Int×Int),v∈BD (l.map fun p=>Ah p.1 p.2)↔v∈BD l:=by
 have key: ∀(l:List (Int×Int)) (v:List Int),v∈BD (l.map fun p=>Ah p.1 p.2)↔v∈BD l:=by
  intro l
  induction l with
  |nil=>intro v;rfl
  |cons s l ih=>
   intro v;rw[List.map_cons,BD,BD];simp only[List.mem_append,jzk,ih];rcases ON s.1 s.2 with e|e<;>rw[e]
   constructor<;>(rintro (h|h)<;>simp[h])
 exact fun l=>key l v
theorem NO: ∀(segs:List (Int×Int)) (ls:List UInt8),(∀c∈ls,cls false c)→ls.length=2*segs.length→ ∀v,(∃a∈AS ls segs,vals false a=v)↔v∈BD segs
 |[],ls,_,hl,v=>by
  obtain rfl:ls=[]:=jzv.1 hl;simp[AS,vals,BD,eq_comm]
 |s::segs,ls,hc,hl,v=>by
  match ls,hl with
  |c::d::r,hl=>
   have ih:=NO segs r (fun x hx=>hc x (by simp[hx])) (by simp at hl;omega)
   have h97: ¬97≤c.toNat:=fun h=>by have:=(HQ (hc c (by simp))).1 h;cases this
   have e:AS (c::d::r) (s::segs)=(AS r segs).map (fun a=>(c,(s.1+1,0))::(d,(s.2+1,0))::a)++(if s.1=s.2 then [] else (AS r segs).map (fun a=>(c,(s.2+1,0))::(d,(s.1+1,0))::a)):=by
    simp only[AS,if_neg h97]
   have k: ∀(x y:Int) (a:List Cs),vals false ((c,(x+1,0))::(d,(y+1,0))::a)=x::y::vals false a:=fun x y a=>by
    simp[vals,CO]
   rw[e,BD]
   simp only[List.mem_append,jzk]
   constructor
   ·rintro⟨a,ha,rfl⟩
    rcases ha with⟨a',ha',rfl⟩|ha
    ·exact .inl ⟨_,(ih _).1 ⟨a',ha',rfl⟩,(k _ _ _).symm⟩
    ·split at ha
     ·cases ha
     ·obtain⟨a',ha',rfl⟩:=jzk.1 ha
      exact .inr ⟨_,(ih _).1 ⟨a',ha',rfl⟩,(k _ _ _).symm⟩
   ·rintro (⟨w,hw,rfl⟩|⟨w,hw,rfl⟩)
    ·obtain⟨a',ha',rfl⟩:=(ih _).2 hw
     exact⟨_,.inl ⟨a',ha',rfl⟩,k _ _ _⟩
    ·obtain⟨a',ha',rfl⟩:=(ih _).2 hw
     by_cases hs:s.1=s.2
     ·refine⟨_,.inl ⟨a',ha',rfl⟩,?_⟩
      rw[k,hs]
     ·refine⟨(c,(s.2+1,0))::(d,(s.1+1,0))::a',.inr ?_,k _ _ _⟩
      rw[if_neg hs]
      exact jzk.2 ⟨a',ha',rfl⟩
theorem Tw: ∀(segs:List (Int×Int)) (ls:List UInt8),(∀c∈ls,cls true c)→ls.length=segs.length→ ∀v,(∃a∈AS ls segs,vals true a=v)↔v=segs.map fun s=>s.1*40+s.2
 |[],ls,_,hl,v=>by
  obtain rfl:ls=[]:=jzv.1 hl;simp[AS,vals,eq_comm]
 |s::segs,ls,hc,hl,v=>by
  match ls,hl with
  |c::r,hl=>
   have ih:=Tw segs r (fun x hx=>hc x (by simp[hx])) (by simp at hl;omega)
   have h97:97≤c.toNat:=(HQ (hc c (by simp))).2 rfl
   have e:AS (c::r) (s::segs)=(AS r segs).map (fun a=>(c,(s.1+1,s.2+1))::a):=by
    cases r<;>simp only[AS,if_pos h97]
   have k: ∀(a:List Cs),vals true ((c,(s.1+1,s.2+1))::a)=(s.1*40+s.2)::vals true a:=fun a=>by
    simp[vals,CO]
   rw[e,List.map_cons]
   simp only[jzk]
   constructor
   ·rintro⟨a,⟨a',ha',rfl⟩,rfl⟩
    rw[k,(ih _).1 ⟨a',ha',rfl⟩]
   ·rintro rfl
    obtain⟨a',ha',e'⟩:=(ih _).2 rfl
    exact⟨_,⟨a',ha',rfl⟩,by rw[k,e']⟩
def K4:Nat→List Int→List (List Int)
 |0,_=>[[]]
 |n+1,l=>(List.range l.length).flatMap fun i=>(K4 n (l.eraseIdx i)).map (l.getD i 0:: ·)
theorem PR: ∀(ls:List UInt8) (pts:List Int),(ET ls pts).map (vals false)=K4 ls.length pts
 |[],pts=>rfl
 |c::r,pts=>by
  rw[ET,List.length_cons,K4,List.map_flatMap]
  congr 1
  funext i
  rw[←PR r,List.map_map,List.map_map]
  congr 1
  funext a
  simp[vals,CO,Function.comp]
end Go.Va
namespace Go.Va
open Int (natCast_add natCast_mul natCast_emod natCast_ediv natCast_pow)
open Go.Proofs
theorem jgF{neg:Bool}{m d:Nat}(hd:0<d):sg neg (m/Nat.gcd m d)=sg neg m:=by
 have hg:0<Nat.gcd m d:=Nat.gcd_pos_of_pos_right m hd;have h:0<m/Nat.gcd m d↔0<m:=by
  constructor
  ·intro h;have:=Nat.div_le_self m (Nat.gcd m d);omega
  ·intro h;exact Nat.div_pos (Nat.le_of_dvd h (Nat.gcd_dvd_left m d)) hg
 unfold sg;simp only[h]
theorem jao(neg:Bool)(m d:Nat)(hm:m<18446744073709551616)(hd:d<18446744073709551616)(h0:d≠0):
  CallsF Tryz.prog 45 [.agg [.bool neg,Ab (limbs m)],.c (Ab (limbs d))] (.u (.agg (Dh neg m d))):=by
 have lm:=Br hm;have ld:=Br hd;have hg0:0<Nat.gcd m d:=Nat.gcd_pos_of_pos_right m (by omega)
 have hgd:Nat.gcd m d≤d:=Nat.le_of_dvd (by omega) (Nat.gcd_dvd_right m d)
 have hes:=jgF (neg:=neg) (m:=m) (d:=d) (by omega)
 have n1:=GB (limbs d) (Ap _) (by omega)
 have g:=OA (limbs m) (limbs d) (Ap _) (by omega) (Ap _) (by omega) (by rw[Am];exact hm) (by rw[Am];exact hd)
 rw[Am,Am]at g
 unfold Dh;rw[←hes];generalize Nat.gcd m d=G at*;have lg:=Br (n:=G) (by omega)
 have q1:=Ja (limbs m) (limbs G) (Ap _) (by omega) (Ap _) (by omega) (by rw[Am];exact hm) (by rw[Am];omega) (by rw[Am];omega)
 have q2:=Ja (limbs d) (limbs G) (Ap _) (by omega) (Ap _) (by omega) (by rw[Am];exact hd) (by rw[Am];omega) (by rw[Am];omega)
 have lq:=GS (Nat.div_le_self m G);have n2:=I8 neg (limbs (m/G)) (Ap _) (by omega)
 rw[Am]at n1 n2
 rw[Am,Am]at q1 q2
 have hne:limbs d≠[]:=fun h=>h0 (limbs_nil.1 h)
 refine Ae (T:=tb) Ad mixed Tryz.func45 rfl (by decide) (Ac rfl) rfl ?_;unfold St.init
 simp -implicitDefEqProofs[jJ,-natCast_add,-natCast_mul,-natCast_emod,-natCast_ediv,-natCast_pow];refine Aa n1 ?_;simp -implicitDefEqProofs[jJ,-natCast_add,-natCast_mul,-natCast_emod,-natCast_ediv,-natCast_pow,hne];refine Aa g ?_;simp -implicitDefEqProofs[jJ,-natCast_add,-natCast_mul,-natCast_emod,-natCast_ediv,-natCast_pow];refine Aa q1 ?_;simp -implicitDefEqProofs[jJ,-natCast_add,-natCast_mul,-natCast_emod,-natCast_ediv,-natCast_pow];refine Aa q2 ?_;simp -implicitDefEqProofs[jJ,-natCast_add,-natCast_mul,-natCast_emod,-natCast_ediv,-natCast_pow];refine Aa n2 ?_;simp -implicitDefEqProofs[jJ,-natCast_add,-natCast_mul,-natCast_emod,-natCast_ediv,-natCast_pow,AO]
theorem XY(na nb:Bool)(a b c d:List Nat)(ha:Ok a)(la:a.length≤2)(hb:Ok b)(lb:b.length≤2)(hc:Ok c)(lc:c.length≤2)(hd:Ok d)(ld:d.length≤2)(b0:val b≠0)(d0:val d≠0):
  CallsF Tryz.prog 121 [.agg [.bool na,Ab a,Ab b],.agg [.bool nb,Ab c,Ab d]] (.u (.agg (Dh (!decide (na=nb)) (val a*val c) (val b*val d)))):=by
 have b1:=Fe a c ha hc;have b2:=Fe b d hb hd;have m1:=Jt na nb a c ha (by omega) hc (by omega) (by omega)
 have m2:=Rd b d hb (by omega) hd (by omega)
 have v1:val a*val c<18446744073709551616:=by
  have:=Ec (Ap (val a*val c)) (by omega)
  rwa [Am]at this
 have v2:val b*val d<18446744073709551616:=by
  have:=Ec (Ap (val b*val d)) (by omega)
  rwa [Am]at this
 have k:=jao (sg (!decide (na=nb)) (val a*val c)) (val a*val c) (val b*val d) v1 v2 (Nat.mul_ne_zero b0 d0);have e:Dh (sg (!decide (na=nb)) (val a*val c)) (val a*val c) (val b*val d)=Dh (!decide (na=nb)) (val a*val c) (val b*val d):=by
  unfold Dh;rw[LV]
 rw[e]at k
 clear ha la hb lb hc lc hd ld b0 d0 b1 b2 e v1 v2;refine Ae (T:=tb) Ad mixed Tryz.func121 rfl (by decide) (Ac rfl) rfl ?_;unfold St.init
 simp -implicitDefEqProofs[jJ,-natCast_add,-natCast_mul,-natCast_emod,-natCast_ediv,-natCast_pow];refine Af (Aj [0,1,0,4,15,0,32,0,128,511,1023,2047]) [.any [] [] (Ao [[2],[5],[3],[7],[6,8],[2],[10],[3],[12]]),.one,.one,.one] (by rfl) ?_
 simp -implicitDefEqProofs[jJ,-natCast_add,-natCast_mul,-natCast_emod,-natCast_ediv,-natCast_pow];refine Al m1 ?_;simp -implicitDefEqProofs[jJ,-natCast_add,-natCast_mul,-natCast_emod,-natCast_ediv,-natCast_pow,AO];refine Aa m2 ?_;simp -implicitDefEqProofs[jJ,-natCast_add,-natCast_mul,-natCast_emod,-natCast_ediv,-natCast_pow];refine Aa k ?_;simp -implicitDefEqProofs[jJ,-natCast_add,-natCast_mul,-natCast_emod,-natCast_ediv,-natCast_pow,Dh]
def RZ:List (List Nat):=(Aj [0,1,3,7,0,16,48,112,255,0,512,1536,3584,0,8192,24576,57344,131071,262143,524287])
@[simp]def SY:List Seg:=[.any [] [] (Ao [[1],[17],[18],[19],[1],[21],[22],[23],[20,24],[1],[26],[27],[28],[1],[30],[31],[32]]),.one,.one,.one]
def Tz:List (List Nat):=(Aj [0,0,3,7,15,15,0,95,255])
@[simp]def Vw:List Seg:=[.any [] [7] [⟨0,[],[7],[7],[]⟩,⟨0,[5],[7],[7],[]⟩,⟨0,[47,48],[7],[7],[]⟩,⟨0,[49],[7],[7],[]⟩,⟨0,[46],[7],[7],[]⟩,⟨0,[46],[7],[7],[]⟩,⟨1,[],[],[],[]⟩,⟨2,[7,50],[],[],[7]⟩],.one]
def atomN(a b:Int):Int:=lo a b*40+hi a b
theorem Dw(a b:Int)(ha:0≤a∧a<40)(hb:0≤b∧b<40):CallsF Tryz.prog 216 [.c (.int .i64 a),.c (.int .i64 b)] (.u (.c (.d (.int .i64 (atomN a b))))):=by
 unfold atomN lo hi;refine Ae (T:=tb) Ad mixed Tryz.func216 rfl (by decide) (Ac rfl) rfl ?_;unfold St.init
 simp -implicitDefEqProofs[jJ,-natCast_add,-natCast_mul];refine⟨⟨?_,?_⟩,?_,?_⟩<;>(repeat' split)<;>omega
def F4(g:Fct):List D:=[.int .i64 (atomN (g.args.getD 0 0) (g.args.getD 1 0)),.int .i64 (atomN (g.args.getD 2 0) (g.args.getD 3 0)),.bool g.neg,Ab g.abs,Ab g.den]
theorem WF(g:Fct):(F4 g).length=5:=rfl
theorem Zd(f:Fct)(h4:f.kind≠4)(h9:f.kind≠9):CallsF Tryz.prog 120 [.agg f.ds] (.u (.c (.own 5 0 []))):=by
 refine Ae (T:=tb) Ad mixed Tryz.func120 rfl (by decide) (Ac rfl) rfl ?_;unfold St.init
 obtain⟨kind,args,neg,abs,den⟩:=f
 simp only at h4 h9;simp -implicitDefEqProofs[jJ,-natCast_add,-natCast_mul,h4,h9]
theorem je3(a b c d:Int)(ha:0≤a∧a<40)(hb:0≤b∧b<40)(hc:0≤c∧c<40)(hd:0≤d∧d<40)(neg:Bool)(m e:Nat)(hm:m<18446744073709551616)(he:e<18446744073709551616)(e0:e≠0)(hg:Nat.gcd m e=1):
  CallsF Tryz.prog 120 [.agg [.int .i64 9,intsD [a,b,c,d],.bool neg,Ab (limbs m),Ab (limbs e)]]
   (.u (.c (.own 5 (rdR ⟨9,[a,b,c,d],neg,limbs m,limbs e⟩).length ((rdR ⟨9,[a,b,c,d],neg,limbs m,limbs e⟩).flatMap F4)))):=by
 have a1:=Dw a b ha hb;have a2:=Dw c d hc hd;have k1:=GZ 1 (by omega)
 have k2:=Lj neg m e hm he e0 hg;have k3:=Am m;refine Ae (T:=tb) Ad mixed Tryz.func120 rfl (by decide) (Ac rfl) rfl ?_;unfold St.init
 simp -implicitDefEqProofs[jJ,-natCast_add,-natCast_mul];refine Af RZ SY (by rfl) ?_
 simp -implicitDefEqProofs[jJ,-natCast_add,-natCast_mul,i64];refine Al a1 ?_;simp -implicitDefEqProofs[jJ,-natCast_add,-natCast_mul,i64];refine Aa a2 ?_;simp -implicitDefEqProofs[jJ,-natCast_add,-natCast_mul];refine Aa k1 ?_;simp -implicitDefEqProofs[jJ,-natCast_add,-natCast_mul];refine Af Tz Vw (by rfl) ?_
 simp -implicitDefEqProofs[jJ,-natCast_add,-natCast_mul];refine Al k1 ?_;simp -implicitDefEqProofs[jJ,-natCast_add,-natCast_mul];refine Al k2 ?_;by_cases m0:m=0
 ·subst m0;simp -implicitDefEqProofs[jJ,-natCast_add,-natCast_mul];have eR:rdR ⟨9,[a,b,c,d],neg,limbs 0,limbs e⟩=[⟨9,[a,b,c,d],neg,limbs 0,limbs e⟩]:=by simp[rdR,k3]
  rw[eR]
  exact⟨rfl,rfl,rfl⟩
 ·simp -implicitDefEqProofs[jJ,-natCast_add,-natCast_mul,m0];have eR:rdR ⟨9,[a,b,c,d],neg,limbs m,limbs e⟩=[⟨9,[a,b,c,d],neg,limbs m,limbs e⟩,⟨9,[c,d,a,b],neg,limbs e,limbs m⟩]:=by simp[rdR,k3,m0]
  rw[eR]
  exact⟨rfl,rfl,rfl⟩
theorem jgy(a b c d:Int)(ha:0≤a∧a<40)(hb:0≤b∧b<40)(hc:0≤c∧c<40)(hd:0≤d∧d<40)(neg:Bool)(x y:List Nat):
  CallsF Tryz.prog 120 [.agg [.int .i64 4,intsD [a,b,c,d],.bool neg,Ab x,Ab y]]
   (.u (.c (.own 5 (rdR ⟨4,[a,b,c,d],neg,x,y⟩).length ((rdR ⟨4,[a,b,c,d],neg,x,y⟩).flatMap F4)))):=by
 have a1:=Dw a b ha hb;have a2:=Dw c d hc hd;have k1:=GZ 1 (by omega)
 have k2:=Lj false 1 1 (by omega) (by omega) (by omega) (by rfl)
 refine Ae (T:=tb) Ad mixed Tryz.func120 rfl (by decide) (Ac rfl) rfl ?_;unfold St.init
 simp -implicitDefEqProofs[jJ,-natCast_add,-natCast_mul];refine Af RZ SY (by rfl) ?_
 simp -implicitDefEqProofs[jJ,-natCast_add,-natCast_mul,i64];refine Al a1 ?_;simp -implicitDefEqProofs[jJ,-natCast_add,-natCast_mul,i64];refine Aa a2 ?_;simp -implicitDefEqProofs[jJ,-natCast_add,-natCast_mul];refine Aa k1 ?_;simp -implicitDefEqProofs[jJ,-natCast_add,-natCast_mul];refine Af Tz Vw (by rfl) ?_
 simp -implicitDefEqProofs[jJ,-natCast_add,-natCast_mul];refine Al k1 ?_;simp -implicitDefEqProofs[jJ,-natCast_add,-natCast_mul];refine Al k2 ?_;simp -implicitDefEqProofs[jJ,-natCast_add,-natCast_mul];have eR:rdR ⟨4,[a,b,c,d],neg,x,y⟩=[⟨9,[a,b,c,d],false,limbs 1,limbs 1⟩,⟨9,[c,d,a,b],false,limbs 1,limbs 1⟩]:=by simp[rdR]
 rw[eR]
 exact⟨rfl,rfl,rfl⟩
end Go.Va
namespace Go.Va
open Go.Proofs
def CJ(to:List Int)(a:Int):Int:=to.getD a.toNat 0
abbrev Ct:=List Int×Bool
def Rl(n:Nat):Ct:=((List.range n).map fun i:Nat=>(i:Int),false)
def BU(f:Fct)(x:List Int×Bool):Fct:=⟨f.kind,x.1.map (CJ f.args),f.neg,if x.2 then f.den else f.abs,if x.2 then f.abs else f.den⟩
def putF:List Fct→Fct→List Fct
 |[],f=>[f]
 |a::l,f=>if Aw a f<0 then a::putF l f else if Aw a f=0 then a::l else f::a::l
theorem Jy{f:Fct}(hf:f.Rt): ∀{l:List Fct},(∀x∈l,x.Rt)→ ∀x,x∈putF l f↔x=f∨x∈l
 |[],_,x=>by simp[putF]
 |a::l,h,x=>by
  have ih:=Jy hf (l:=l) (fun x hx=>h x (by simp[hx])) x
  unfold putF;split
  ·simp only[jzn,ih]
   constructor
   ·rintro (h1|h1|h1)<;>simp[h1]
   ·rintro (h1|h1|h1)<;>simp[h1]
  ·split
   ·rename_i h0
    have e:=(Et (h a (by simp)) hf).1 h0
    subst e;simp only[jzn]
    constructor
    ·intro h1;exact .inr h1
    ·rintro (h1|h1)
     ·exact .inl h1
     ·exact h1
   ·simp
theorem QF{f:Fct}(hf:f.Rt): ∀{l:List Fct},(∀x∈l,x.Rt)→l.Pairwise (fun a b=>Aw a b<0)→(putF l f).Pairwise (fun a b=>Aw a b<0)
 |[],_,_=>by simp[putF]
 |a::l,h,hp=>by
  rw[List.pairwise_cons]at hp
  have ha:=h a (by simp)
  have hl:=fun x hx=>h x (List.mem_cons_of_mem a hx)
  unfold putF;split
  ·rename_i hlt
   rw[List.pairwise_cons]
   refine⟨fun b hb=> ?_,QF hf hl hp.2⟩
   rcases (Jy hf hl b).1 hb with rfl|hb
   ·exact hlt
   ·exact hp.1 b hb
  ·split
   ·rw[List.pairwise_cons];exact hp
   ·rename_i h1 h2
    have hfa:Aw f a<0:=by have:=isCmp_F.anti a f ha.num hf.num;omega
    rw[List.pairwise_cons,List.pairwise_cons]
    refine⟨fun b hb=> ?_,hp.1,hp.2⟩
    rcases jzn.1 hb with rfl|hb
    ·exact hfa
    ·have:=isCmp_F.tr f a b hf.num ha.num (hl b hb).num (by omega) (by have:=hp.1 b hb;omega)
     have:=hp.1 b hb
     omega
def AB(l:List Fct)(m:List Fct):List Fct:=m.foldl putF l
theorem NJ: ∀{m l:List Fct},(∀x∈l,x.Rt)→(∀x∈m,x.Rt)→ ∀x,x∈AB l m↔x∈l∨x∈m
 |[],l,_,_,x=>by simp[AB]
 |f::m,l,hl,hm,x=>by
  have hf:=hm f (by simp)
  have ih:=NJ (m:=m) (l:=putF l f) (fun y hy=>by
   rcases (Jy hf hl y).1 hy with rfl|hy
   ·exact hf
   ·exact hl y hy) (fun y hy=>hm y (by simp[hy])) x
  show x∈AB (putF l f) m↔_
  rw[ih,Jy hf hl]
  simp only[jzn]
  constructor
  ·rintro ((h|h)|h)<;>simp[h]
  ·rintro (h|h|h)<;>simp[h]
theorem L3: ∀{m l:List Fct},(∀x∈l,x.Rt)→(∀x∈m,x.Rt)→l.Pairwise (fun a b=>Aw a b<0)→(AB l m).Pairwise (fun a b=>Aw a b<0)
 |[],l,_,_,h=>h
 |f::m,l,hl,hm,h=>by
  have hf:=hm f (by simp)
  exact L3 (m:=m) (l:=putF l f) (fun y hy=>by
   rcases (Jy hf hl y).1 hy with rfl|hy
   ·exact hf
   ·exact hl y hy) (fun y hy=>hm y (by simp[hy])) (QF hf hl h)
theorem Ms(f:Fct): ∀l:List Fct,(putF l f).length≤l.length+1
 |[]=>by simp[putF]
 |a::l=>by
  unfold putF;split
  ·have:=Ms f l;simp only[List.length_cons];omega
  ·split<;>simp
theorem Hw: ∀(m l:List Fct),(AB l m).length≤l.length+m.length
 |[],l=>by simp[AB]
 |f::m,l=>by
  have:=Hw m (putF l f)
  have:=Ms f l
  show(AB (putF l f) m).length≤_
  simp only[List.length_cons];omega
theorem jep: ∀{l m:List Fct},(∀x∈l,x.Rt)→(∀x∈m,x.Rt)→l.Pairwise (fun a b=>Aw a b<0)→m.Pairwise (fun a b=>Aw a b<0)→(∀x,x∈l↔x∈m)→l=m:=by
 intro l m hl hm pl pm h;have nd: ∀{l:List Fct},(∀x∈l,x.Rt)→l.Pairwise (fun a b=>Aw a b<0)→l.Nodup:=fun {l} hl pl=>by
  refine List.Pairwise.imp_of_mem (fun {a b} ha hb h he=> ?_) pl
  subst he;have:=isCmp_F.self (hl a ha).num;omega
 refine List.Perm.eq_of_pairwise (le:=fun a b=>Aw a b<0) (fun a b ha hb h1 h2=> ?_) pl pm ((List.perm_ext_iff_of_nodup (nd hl pl) (nd hm pm)).2 h)
 have:=isCmp_F.anti a b (hl a ha).num (hm b hb).num
 omega
def okS(n:Nat)(g:Ct):Bool:=decide (g.1.length=n)&&g.1.all fun i=>decide (0≤i)&&decide (i<n)
theorem jdS{n:Nat}{g:Ct}(h:okS n g=true):g.1.length=n:=by
 unfold okS at h;simp only[Ax,decide_eq_true_eq]at h;exact h.1
theorem YO{n:Nat}{g:Ct}(h:okS n g=true): ∀i∈g.1,0≤i∧i<n:=fun i hi=>by
 unfold okS at h;simp only[Ax,decide_eq_true_eq]at h;have:=jzy.1 h.2 i hi
 simpa using this
def varL(f:Fct)(G:List Ct):List Fct:=AB [] (G.map (BU f))
theorem jfI{f:Fct}(h:f.Rt){g:Ct}(hg:okS f.args.length g=true)(ht:g.2=true→f.kind=9∧val f.abs≠0):(BU f g).Rt:=by
 obtain⟨h1,h2,h3,h4⟩:=h.parts
 obtain⟨la,ld,oa,od,ln⟩:=h.mild
 have hl:=jdS hg;refine Fct.Rt.of ⟨?_,?_,?_,?_,?_⟩ h1 ?_ ?_ ?_
 ·unfold BU;simp only;split<;>assumption
 ·unfold BU;simp only;split<;>assumption
 ·unfold BU;simp only;split<;>assumption
 ·unfold BU;simp only;split<;>assumption
 ·unfold BU;simp only[List.length_map];omega
 ·unfold BU;simp only[List.length_map];omega
 ·unfold BU;simp only[jzk];rintro a ⟨i,hi,rfl⟩;have:=YO hg i hi;have hlt:i.toNat<f.args.length:=by omega
  refine h3 _ ?_;unfold CJ;rw[Ar,Ai hlt];exact Ak hlt
 ·unfold BU;simp only;cases hb:g.2 with
  |false=>simpa using h4
  |true=>
   obtain⟨k9,m0⟩:=ht hb
   rw[if_pos k9]at h4 ⊢
   simp only[if_true];obtain⟨a1,a2,a3,a4,a5⟩:=C7 h4 oa od;unfold BR;have g':Nat.gcd (val f.den) (val f.abs)=1:=by rw[Nat.gcd_comm];exact a4
   have n1:f.den≠[]:=fun h=>a3 (by rw[h];rfl)
   have n2:f.abs≠[]:=fun h=>m0 (by rw[h];rfl)
   have e1:lastOk f.den=true:=by rw[a2];exact HE _
   have e2:lastOk f.abs=true:=by rw[a1];exact HE _
   simp[g',n1,n2,e1,e2]
end Go.Va
