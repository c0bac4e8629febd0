/- a part of the proof -/
import Derived.Test.YtkfdniccmcolgaaGreatWbc
import Derived.Test.YtkfdniccmcolgaaGreatWax
set_option linter.all false
set_option maxHeartbeats 4000000
set_option maxRecDepth 10000
namespace Go.Va
def Bnd.get(b:Bnd)(c:UInt8):Int×Int:=if 97≤c.toNat then (b.S1 (c.toNat - 97),b.S2 (c.toNat - 97)) else (b.P (c.toNat - 65),0)
def Bnd.put(b:Bnd)(c:UInt8)(v:Int×Int):Option Bnd:=if 97≤c.toNat then b.segment (c.toNat - 97) (v.1 - 1,v.2 - 1) else b.point (c.toNat - 65) (v.1 - 1)
abbrev Cs:=UInt8×(Int×Int)
def Kt(s:Cs):Prop:=Cu s.1∧s.2.1≠0∧(¬97≤s.1.toNat→s.2.2=0)
theorem JE(l:List Int)(i j:Nat)(x:Int)(h:i<l.length):(l.set i x).getD j 0=if j=i then x else l.getD j 0:=by
 rw[Ar,Ar,List.getElem?_set]
 by_cases e:j=i
 ·subst e;simp[h]
 ·rw[if_neg (fun h=>e h.symm),if_neg e]
section
variable (b:Bnd)
theorem Bnd.P_setP{k:Nat}(hk:k<26)(x:Int)(j:Nat):(b.setP k x).P j=if j=k then x else b.P j:=JE b.v k j x (by rw[b.h];omega)
theorem Bnd.S1_setP{k:Nat}(hk:k<26)(x:Int)(j:Nat):(b.setP k x).S1 j=b.S1 j:=by
 have:=JE b.v k (26+j*2) x (by rw[b.h];omega)
 rw[if_neg (by omega)]at this
 exact this
theorem Bnd.S2_setP{k:Nat}(hk:k<26)(x:Int)(j:Nat):(b.setP k x).S2 j=b.S2 j:=by
 have:=JE b.v k (26+j*2+1) x (by rw[b.h];omega)
 rw[if_neg (by omega)]at this
 exact this
theorem Bnd.v_setS{k:Nat}(hk:k<26)(x y:Int)(j:Nat):(b.setS k x y).v.getD j 0=if j=26+k*2+1 then y else if j=26+k*2 then x else b.v.getD j 0:=by
 show((b.v.set (26+k*2) x).set (26+k*2+1) y).getD j 0=_
 rw[JE _ _ _ _ (by rw[List.length_set,b.h];omega),JE _ _ _ _ (by rw[b.h];omega)]
theorem Bnd.P_setS{k:Nat}(hk:k<26)(x y:Int){j:Nat}(hj:j<26):(b.setS k x y).P j=b.P j:=by
 have:=b.v_setS hk x y j
 rw[if_neg (by omega),if_neg (by omega)]at this
 exact this
theorem Bnd.S1_setS{k:Nat}(hk:k<26)(x y:Int)(j:Nat):(b.setS k x y).S1 j=if j=k then x else b.S1 j:=by
 have:=b.v_setS hk x y (26+j*2)
 rw[if_neg (by omega)]at this
 by_cases e:j=k
 ·rw[if_pos (by omega)]at this;rw[if_pos e];exact this
 ·rw[if_neg (by omega)]at this;rw[if_neg e];exact this
theorem Bnd.S2_setS{k:Nat}(hk:k<26)(x y:Int)(j:Nat):(b.setS k x y).S2 j=if j=k then y else b.S2 j:=by
 have:=b.v_setS hk x y (26+j*2+1)
 by_cases e:j=k
 ·rw[if_pos (by omega)]at this;rw[if_pos e];exact this
 ·rw[if_neg (by omega),if_neg (by omega)]at this;rw[if_neg e];exact this
end
theorem Nm{a b:UInt8}(h:a.toNat=b.toNat):a=b:=UInt8.toNat_inj.1 h
theorem NS{b b':Bnd}{s:Cs}(hs:Kt s)(h:b.put s.1 s.2=some b'):(b.get s.1=(0,0)∨b.get s.1=s.2)∧b'.get s.1=s.2∧ ∀x,Cu x→x≠s.1→b'.get x=b.get x:=by
 obtain⟨c,v,w⟩:=s
 obtain⟨hl,h0,hw⟩:=hs
 simp only at*;unfold Cu at hl;unfold Bnd.put at h;by_cases h97:97≤c.toNat
 ·rw[if_pos h97]at h
  have hk:c.toNat - 97<26:=by omega
  unfold Bnd.segment at h;split at h
  ·cases h
  ·rename_i hc
   cases h;unfold Bnd.get
   rw[if_pos h97,if_pos h97]
   refine⟨?_,?_,fun x hx hne=> ?_⟩
   ·simp only[Prod.mk.injEq];simp only at hc;omega
   ·rw[Bnd.S1_setS b hk,Bnd.S2_setS b hk,if_pos rfl,if_pos rfl]
    simp only[Prod.mk.injEq];omega
   ·have hn:x.toNat≠c.toNat:=fun e=>hne (Nm e)
    unfold Cu at hx;by_cases hx97:97≤x.toNat
    ·rw[if_pos hx97,if_pos hx97,Bnd.S1_setS b hk,Bnd.S2_setS b hk,if_neg (by omega),if_neg (by omega)]
    ·rw[if_neg hx97,if_neg hx97,Bnd.P_setS b hk _ _ (by omega)]
 ·rw[if_neg h97]at h
  have hk:c.toNat - 65<26:=by omega
  have hw:=hw h97;unfold Bnd.point at h;split at h
  ·cases h
  ·rename_i hc
   cases h;unfold Bnd.get
   rw[if_neg h97,if_neg h97]
   simp only at hc;refine⟨?_,?_,fun x hx hne=> ?_⟩
   ·by_cases h00:b.P (c.toNat - 65)=0
    ·exact .inl (by rw[h00])
    ·refine .inr ?_;have h11:b.P (c.toNat - 65)=v:=by
      apply Classical.byContradiction
      intro hn;exact hc ⟨h00,fun e=>hn (by omega)⟩
     rw[h11,hw]
   ·rw[Bnd.P_setP b hk,if_pos rfl]
    simp only[Prod.mk.injEq];omega
   ·have hn:x.toNat≠c.toNat:=fun e=>hne (Nm e)
    unfold Cu at hx;by_cases hx97:97≤x.toNat
    ·rw[if_pos hx97,if_pos hx97,Bnd.S1_setP b hk,Bnd.S2_setP b hk]
    ·rw[if_neg hx97,if_neg hx97,Bnd.P_setP b hk,if_neg (by omega)]
theorem QC{b:Bnd}{s:Cs}(hs:Kt s)(h:b.get s.1=(0,0)∨b.get s.1=s.2): ∃b',b.put s.1 s.2=some b':=by
 obtain⟨c,v,w⟩:=s
 obtain⟨hl,h0,hw⟩:=hs
 simp only at*;unfold Bnd.get at h;unfold Bnd.put;by_cases h97:97≤c.toNat
 ·rw[if_pos h97]at h ⊢
  unfold Bnd.segment;simp only[Prod.mk.injEq]at h;rw[if_neg (by simp only;omega)]
  exact⟨_,rfl⟩
 ·rw[if_neg h97]at h ⊢
  unfold Bnd.point;simp only[Prod.mk.injEq]at h;rw[if_neg (by omega)]
  exact⟨_,rfl⟩
def run:List Cs→Bnd→Option Bnd
 |[],b=>some b
 |s::r,b=>match b.put s.1 s.2 with|none=>none|some b'=>run r b'
theorem run_append: ∀(a a':List Cs) (b:Bnd),run (a++a') b=match run a b with|none=>none|some c=>run a' c
 |[],a',b=>rfl
 |s::a,a',b=>by
  show(match b.put s.1 s.2 with|none=>none|some b'=>run (a++a') b')=(match (match b.put s.1 s.2 with|none=>none|some b'=>run a b')with|none=>none|some c=>run a' c)
  cases b.put s.1 s.2 with
  |none=>rfl
  |some b'=>exact run_append a a' b'
theorem S5: ∀{a:List Cs} {b c:Bnd},(∀s∈a,Kt s)→run a b=some c→
  (∀s∈a,c.get s.1=s.2)∧(∀x,Cu x→b.get x≠(0,0)→c.get x=b.get x)∧(∀x,Cu x→(∀s∈a,s.1≠x)→c.get x=b.get x)
 |[],b,c,_,h=>by cases h;exact⟨by simp,fun _ _ _=>rfl,fun _ _ _=>rfl⟩
 |s::a,b,c,ha,h=>by
  have hs:=ha s (by simp)
  unfold run at h;cases hp:b.put s.1 s.2 with
  |none=>rw[hp]at h;cases h
  |some b'=>
   rw[hp]at h
   obtain⟨p1,p2,p3⟩:=NS hs hp
   obtain⟨r1,r2,r3⟩:=S5 (fun t ht=>ha t (by simp[ht])) h
   have hne:s.2≠(0,0):=fun e=>hs.2.1 (by rw[e])
   refine⟨fun t ht=> ?_,fun x hx hb=> ?_,fun x hx hn=> ?_⟩
   ·rcases jzn.1 ht with rfl|ht
    ·rw[r2 t.1 hs.1 (by rw[p2];exact hne),p2]
    ·exact r1 t ht
   ·by_cases e:x=s.1
    ·subst e;rw[r2 s.1 hs.1 (by rw[p2];exact hne),p2]
     rcases p1 with p1|p1
     ·exact absurd p1 hb
     ·exact p1.symm
    ·rw[r2 x hx (by rw[p3 x hx e];exact hb),p3 x hx e]
   ·have e:x≠s.1:=fun e=>hn s (by simp) e.symm
    rw[r3 x hx fun t ht=>hn t (by simp[ht]),p3 x hx e]
def ET:List UInt8→List Int→List (List Cs)
 |[],_=>[[]]
 |c::r,pts=>(List.range pts.length).flatMap fun i=>(ET r (pts.eraseIdx i)).map fun a=>(c,(pts.getD i 0+1,0))::a
def AS:List UInt8→List (Int×Int)→List (List Cs)
 |[],_=>[[]]
 |_::_,[]=>[]
 |c::r,s::l=>if 97≤c.toNat then (AS r l).map (fun a=>(c,(s.1+1,s.2+1))::a) else
  match r with
  |[]=>[]
  |d::r=>(AS r l).map (fun a=>(c,(s.1+1,0))::(d,(s.2+1,0))::a)++(if s.1=s.2 then [] else (AS r l).map (fun a=>(c,(s.2+1,0))::(d,(s.1+1,0))::a))
theorem FC{b:Bnd}{c:UInt8}(hc:cap c)(v:Int):b.put c (v+1,0)=b.point (c.toNat - 65) v:=by
 unfold Bnd.put cap at*;rw[if_neg (by omega)]
 simp
theorem P7{b:Bnd}{c:UInt8}(hc:97≤c.toNat)(v w:Int):b.put c (v+1,w+1)=b.segment (c.toNat - 97) (v,w):=by
 unfold Bnd.put;rw[if_pos hc];simp
theorem MW: ∀(l:List UInt8) (pts:List Int) (b c:Bnd),(∀x∈l,cap x)→(c∈mp l pts b↔ ∃a∈ET l pts,run a b=some c)
 |[],pts,b,c,_=>by
  simp only[mp,ET,List.mem_singleton,exists_eq_left,run,Option.some.injEq];exact eq_comm
 |x::r,pts,b,c,hl=>by
  rw[mp,ET]
  simp only[List.mem_flatMap,jzk];have hx:=hl x (by simp)
  constructor
  ·rintro⟨i,hi,h⟩
   split at h
   ·cases h
   ·rename_i b' e
    obtain⟨a,ha,hr⟩:=(MW r (pts.eraseIdx i) b' c fun y hy=>hl y (by simp[hy])).1 h
    refine⟨_,⟨i,hi,a,ha,rfl⟩,?_⟩
    unfold run;rw[FC hx,e];exact hr
  ·rintro⟨_,⟨i,hi,a,ha,rfl⟩,hr⟩
   refine⟨i,hi,?_⟩
   unfold run at hr;rw[FC hx]at hr;split at hr
   ·cases hr
   ·rename_i b' e
    rw[e]
    exact(MW r (pts.eraseIdx i) b' c fun y hy=>hl y (by simp[hy])).2 ⟨a,ha,hr⟩
theorem H3: ∀(n:Nat) (ls:List UInt8) (l:List (Int×Int)) (b c:Bnd),ls.length≤n→CN ls l→(c∈ms ls l b↔ ∃a∈AS ls l,run a b=some c)
 |n,[],l,b,c,_,_=>by
  have e1:ms [] l b=[b]:=by cases l<;>rfl
  have e2:AS [] l=[[]]:=by cases l<;>rfl
  rw[e1,e2]
  simp only[List.mem_singleton,exists_eq_left,run,Option.some.injEq];exact eq_comm
 |n,x::r,[],b,c,_,h=>by simp[CN]at h
 |0,x::r,s::l,b,c,hn,_=>by simp at hn
 |n+1,x::r,s::l,b,c,hn,hk=>by
  simp only[List.length_cons,Nat.add_le_add_iff_right]at hn;by_cases h97:97≤x.toNat
  ·rw[No h97]at hk
   have e2:AS (x::r) (s::l)=(AS r l).map (fun a=>(x,(s.1+1,s.2+1))::a):=by
    cases r<;>simp only[AS,if_pos h97]
   rw[J4 h97,e2]
   simp only[jzk]
   constructor
   ·intro h;split at h
    ·cases h
    ·rename_i b' e
     obtain⟨a,ha,hr⟩:=(H3 n r l b' c hn hk.2).1 h
     refine⟨_,⟨a,ha,rfl⟩,?_⟩
     unfold run;rw[P7 h97,e];exact hr
   ·rintro⟨_,⟨a,ha,rfl⟩,hr⟩
    unfold run at hr;rw[P7 h97]at hr;split at hr
    ·cases hr
    ·rename_i b' e
     rw[e]
     exact(H3 n r l b' c hn hk.2).2 ⟨a,ha,hr⟩
  ·obtain⟨d,r',rfl,hx,hd,hk2⟩:=Qc h97 hk
   have aux: ∀u v:Int,c∈DU x d r' l b u v↔ ∃a∈(AS r' l).map (fun a=>((x,(u+1,0))::(d,(v+1,0))::a:List Cs)),run a b=some c:=by
    intro u v;unfold DU;simp only[jzk]
    constructor
    ·intro h;split at h
     ·cases h
     ·rename_i b1 e1
      split at h
      ·cases h
      ·rename_i b2 e2
       obtain⟨a,ha,hr⟩:=(H3 n r' l b2 c (by simp at hn;omega) hk2).1 h
       refine⟨_,⟨a,ha,rfl⟩,?_⟩
       unfold run;rw[FC hx,e1]
       show run ((d,(v+1,0))::a) b1=some c
       unfold run;rw[FC hd,e2];exact hr
    ·rintro⟨_,⟨a,ha,rfl⟩,hr⟩
     unfold run at hr;rw[FC hx]at hr;split at hr
     ·cases hr
     ·rename_i b1 e1
      rw[e1]
      unfold run at hr;rw[FC hd]at hr;simp only;split at hr
      ·cases hr
      ·rename_i b2 e2
       rw[e2]
       exact(H3 n r' l b2 c (by simp at hn;omega) hk2).2 ⟨a,ha,hr⟩
   have e2:AS (x::d::r') (s::l)=(AS r' l).map (fun a=>(x,(s.1+1,0))::(d,(s.2+1,0))::a)++(if s.1=s.2 then [] else (AS r' l).map (fun a=>(x,(s.2+1,0))::(d,(s.1+1,0))::a)):=by
    simp only[AS,if_neg h97]
   rw[LP h97,e2,List.mem_append,aux]
   by_cases hs:s.1=s.2
   ·simp only[if_pos hs,AM,or_false,List.append_nil]
   ·simp only[if_neg hs,aux,List.mem_append]
    constructor
    ·rintro (⟨a,ha,hr⟩|⟨a,ha,hr⟩)
     ·exact⟨a,.inl ha,hr⟩
     ·exact⟨a,.inr ha,hr⟩
    ·rintro⟨a,ha|ha,hr⟩
     ·exact .inl ⟨a,ha,hr⟩
     ·exact .inr ⟨a,ha,hr⟩
def DN(p:Pat)(f:Fct):List (List Cs):=
 if p.kind=1∨p.kind=6∨p.kind=8 then (if f.kind=p.kind then ET p.letters f.args else [])
 else if p.kind=5 then (if f.kind=5 then [[(p.letters.getD 0 0,(f.args.getD 0 0+1,0)),(p.letters.getD 1 0,(f.args.getD 1 0+1,0)),(p.letters.getD 2 0,(f.args.getD 2 0+1,0))],[(p.letters.getD 0 0,(f.args.getD 0 0+1,0)),(p.letters.getD 1 0,(f.args.getD 2 0+1,0)),(p.letters.getD 2 0,(f.args.getD 1 0+1,0))]] else [])
 else (rdg p.kind f).flatMap (AS p.letters)
theorem jdy{c1 c2 c3:UInt8}(h1:cap c1)(h2:cap c2)(h3:cap c3)(b c:Bnd)(m u v:Int):c∈Dx (c1.toNat - 65) (c2.toNat - 65) (c3.toNat - 65) b m u v↔run [(c1,(m+1,0)),(c2,(u+1,0)),(c3,(v+1,0))] b=some c:=by
 unfold Dx;simp only[run,FC h1,FC h2,FC h3];cases b.point (c1.toNat - 65) m with
 |none=>simp
 |some b1=>
  simp only;cases b1.point (c2.toNat - 65) u with
  |none=>simp
  |some b2=>
   simp only;cases b2.point (c3.toNat - 65) v with
   |none=>simp
   |some b3=>simp[eq_comm]
theorem Mw(k:Int)(f:Fct)(hk:k=2∨k=3∨k=4)(hf:f.Rt): ∀l∈rdg k f,∃u v,l=[u,v]:=by
 intro l hl;obtain⟨h1,h2,h3,h4⟩:=hf.parts;unfold rdg at hl;split at hl
 ·simp only[jzn,AM,or_false]at hl;rcases hl with rfl|rfl|rfl|rfl|rfl|rfl<;>exact⟨_,_,rfl⟩
 ·split at hl
  ·cases hl
  ·rename_i hke
   have hke:f.kind=k:=Classical.byContradiction fun h=>hke h
   obtain⟨a,e,c,d,ha⟩:=By (by rw[h2,hke];rcases hk with h|h|h<;>rw[h]<;>rfl:f.args.length=4)
   have hpu:AW f.args=[Ah a e,Ah c d]:=by rw[ha];rfl
   rw[hpu]at hl
   simp only[jzn,AM,or_false]at hl;rcases hl with rfl|rfl<;>exact⟨_,_,rfl⟩
theorem So(f:Fct)(hf:f.Rt): ∀l∈rdg 7 f,∃u v w z,l=[u,v,w,z]:=by
 intro l hl;obtain⟨h1,h2,h3,h4⟩:=hf.parts;unfold rdg at hl;split at hl
 ·omega
 ·split at hl
  ·cases hl
  ·rename_i hke
   have hke:f.kind=7:=Classical.byContradiction fun h=>hke h
   obtain⟨a,e,c,d,a',e',c',d',ha⟩:=E4 (by rw[h2,hke];rfl:f.args.length=8)
   have hpu:AW f.args=[Ah a e,Ah c d,Ah a' e',Ah c' d']:=by rw[ha];rfl
   rw[hpu]at hl
   simp only[jzn,AM,or_false]at hl;rcases hl with rfl|rfl|rfl|rfl|rfl|rfl|rfl|rfl<;>exact⟨_,_,_,_,rfl⟩
theorem jh6{p:Pat}(hp:p.Fit)(hn: ¬(p.kind=1∨p.kind=6∨p.kind=8))(h5:p.kind≠5){f:Fct}(hf:f.Rt): ∀l∈rdg p.kind f,CN p.letters l:=by
 intro l hl;obtain⟨_,hp⟩:=hp;rcases hp with⟨hk,_⟩|⟨hk,_⟩|⟨hk,hm⟩|⟨hk,hm⟩
 ·exact absurd hk hn
 ·exact absurd hk h5
 ·obtain⟨u,v,rfl⟩:=Mw _ f hk hf l hl
  exact hm u v
 ·rw[hk]at hl
  obtain⟨u,v,w,z,rfl⟩:=So f hf l hl
  exact hm u v w z
theorem Ss{p:Pat}(hp:p.Fit){f:Fct}(hf:f.Rt)(b c:Bnd):c∈C5 p f b↔ ∃a∈DN p f,run a b=some c:=by
 have hms:= @jh6 p hp
 unfold C5 DN;by_cases hk:p.kind=1∨p.kind=6∨p.kind=8
 ·rw[if_pos hk,if_pos hk]
  split
  ·refine MW _ _ _ _ ?_;rcases hp.2 with⟨_,h⟩|⟨h,_⟩|⟨h,_⟩|⟨h,_⟩
   ·exact h
   all_goals omega
  ·simp
 ·rw[if_neg hk,if_neg hk]
  by_cases h5:p.kind=5
  ·rw[if_pos h5,if_pos h5]
   split
   ·obtain⟨c1,c2,c3,hl,k1,k2,k3⟩: ∃c1 c2 c3,p.letters=[c1,c2,c3]∧cap c1∧cap c2∧cap c3:=by
     rcases hp.2 with⟨h,_⟩|⟨_,h⟩|⟨h,_⟩|⟨h,_⟩
     ·omega
     ·exact h
     all_goals omega
    rw[hl]
    simp only[List.getD_cons_zero,List.getD_cons_succ,List.mem_append,jdy k1 k2 k3,jzn,AM,or_false,exists_eq_or_imp,exists_eq_left]
   ·simp
  ·rw[if_neg h5,if_neg h5]
   simp only[List.mem_flatMap]
   constructor
   ·rintro⟨l,hl,hc⟩
    obtain⟨a,ha,hr⟩:=(H3 _ _ l b c (AA _) (hms hk h5 hf l hl)).1 hc
    exact⟨a,⟨l,hl,ha⟩,hr⟩
   ·rintro⟨a,⟨l,hl,ha⟩,hr⟩
    exact⟨l,hl,(H3 _ _ l b c (AA _) (hms hk h5 hf l hl)).2 ⟨a,ha,hr⟩⟩
section
variable (π:UInt8→UInt8)
end
theorem jcz(x:UInt8):Bnd.zero.get x=(0,0):=by
 have h: ∀k,Bnd.zero.v.getD k 0=0:=by
  intro k
  show(List.replicate 78 (0:Int)).getD k 0=0
  rw[Ar,List.getElem?_replicate]
  split<;>rfl
 unfold Bnd.get Bnd.S1 Bnd.S2 Bnd.P;split
 ·rw[h,h]
 ·rw[h]
theorem jgn(b:Bnd)(c:UInt8):C4 b c=if 97≤c.toNat then [(b.get c).1 - 1,(b.get c).2 - 1] else [(b.get c).1 - 1]:=by
 unfold C4 Bnd.get;split<;>rfl
structure Exch (r:Rul) (π:UInt8→UInt8):Prop where
 inv: ∀c,π (π c)=c
 cls: ∀c,97≤(π c).toNat↔97≤c.toNat
 lt: ∀c,Cu c→Cu (π c)
 prem: ∃p q,r.prem=[p,q]∧q.kind=p.kind∧q.n=p.n∧q.letters=p.letters.map π
 guards: ∀P∈r.guards,P.letters.map π=P.letters
 concl: ∀P∈r.concl,∀c:Bnd,normF (D9 c ⟨P.kind,P.letters.map π,P.n⟩)=normF (D9 c P)
theorem isCmp_G':IsCmp (fun _:Grd=>True) cmpG:=⟨fun x y _ _=>isCmp_K.rng _ _ trivial trivial,fun x y _ _=>isCmp_K.anti _ _ trivial trivial,fun x y z _ _ _=>isCmp_K.tr _ _ _ trivial trivial trivial⟩
theorem isCmp_lexG:IsCmp (fun _=>True) Bx where
 rng:=by
  intro x
  induction x with
  |nil=>intro y _ _;cases y<;>simp[Bx]
  |cons a x ih=>
   intro y _ _;cases y with
   |nil=>simp[Bx]
   |cons b y=>
    have h:=isCmp_G'.rng a b trivial trivial;have h2:=ih y trivial trivial;unfold Bx;split<;>omega
 anti:=by
  intro x
  induction x with
  |nil=>intro y _ _;cases y<;>simp[Bx]
  |cons a x ih=>
   intro y _ _;cases y with
   |nil=>simp[Bx]
   |cons b y=>
    have h:=isCmp_G'.anti a b trivial trivial;have h2:=ih y trivial trivial;unfold Bx;split<;>split<;>omega
 tr:=by
  intro x
  induction x with
  |nil=>intro y z _ _ _;cases y<;>cases z<;>simp[Bx]
  |cons a x ih=>
   intro y z _ _ _;cases y with
   |nil=>cases z<;>simp[Bx]
   |cons b y=>
    cases z with
    |nil=>simp[Bx]
    |cons c z=>
     have h2:=ih y z trivial trivial trivial;have t:=isCmp_G'.tr a b c trivial trivial trivial;have t2:=isCmp_G'.tr c b a trivial trivial trivial;have a1:=isCmp_G'.anti a b trivial trivial;have a2:=isCmp_G'.anti b c trivial trivial;have a3:=isCmp_G'.anti a c trivial trivial;simp only[Bx];by_cases h1:cmpG a b=0<;>by_cases h4:cmpG b c=0<;>by_cases h3:cmpG a c=0<;>simp only[h1,h4,h3,ne_eq,not_true_eq_false,not_false_eq_true,if_false,if_true]<;>intro k1 k2
     ·exact h2 k1 k2
     all_goals first
      |(have:=t (by omega) (by omega);exact⟨by omega,fun h=>by first|exact h.elim|omega⟩)
      |exact⟨by omega,fun h=>by first|exact h.elim|omega⟩
theorem NK: ∀(x y:List Grd),Bx x y=0↔x=y
 |[],[]=>by simp[Bx]
 |[],_::_=>by simp[Bx]
 |_::_,[]=>by simp[Bx]
 |a::x,b::y=>by
  have:=NK x y
  unfold Bx;split
  ·rename_i h
   constructor
   ·intro h2;exact absurd h2 h
   ·intro h2;simp at h2;exact absurd (cmpG_zero.2 h2.1) h
  ·rename_i h
   rw[this]
   have e:a=b:=cmpG_zero.1 (Classical.byContradiction fun hn=>h hn)
   simp[e]
theorem LX(a:List Grd):BF a a=false:=by
 unfold BF;rw[if_neg (by simp),(NK a a).2 rfl]
 rfl
theorem Tg{a b c:List Grd}(h1:BF a b=true)(h2:BF b c=true):BF a c=true:=by
 unfold BF at*;have t:=isCmp_lexG.tr a b c trivial trivial trivial;by_cases e1:a.length=b.length<;>by_cases e2:b.length=c.length
 ·rw[if_neg (by omega)]at h1 h2 ⊢
  simp only[decide_eq_true_eq]at*;have:=t (by omega) (by omega)
  omega
 ·rw[if_neg (by omega)]at h1
  rw[if_pos (by omega)]at h2 ⊢
  simp only[decide_eq_true_eq]at*;omega
 ·rw[if_pos (by omega)]at h1
  rw[if_neg (by omega)]at h2
  rw[if_pos (by omega)]
  simp only[decide_eq_true_eq]at*;omega
 ·rw[if_pos (by omega)]at h1 h2
  simp only[decide_eq_true_eq]at*;rw[if_pos (by omega),decide_eq_true_eq]
  omega
theorem jbu{a b:List Grd}(h1:BF a b=false)(h2:BF b a=false):a=b:=by
 unfold BF at*;have an:=isCmp_lexG.anti a b trivial trivial;by_cases e:a.length=b.length
 ·rw[if_neg (by omega)]at h1 h2
  simp only[decide_eq_false_iff_not]at*;exact(NK a b).1 (by omega)
 ·rw[if_pos (by omega)]at h1 h2
  simp only[decide_eq_false_iff_not]at*;omega
def Dc(nl:List Fct)(P:List AR)(f:Fct)(g:List Grd):Prop:=(∃x∈P,normF x.1=f∧x.2=g)∧ ¬(f.kind=0∨Dd f=true∨CH f nl=true)
structure Least (nl:List Fct) (P:List AR) (l:List Fnd):Prop where
 sub: ∀x∈l,Dc nl P x.fact x.grds
 top: ∀f g,Dc nl P f g→ ∃x∈l,x.fact=f∧BF g x.grds=false
theorem YU{nl:List Fct}{P:List AR}{l:List Fnd}(hl:FndOk l)(h:Least nl P l)(x:AR)(hx:(normF x.1).kind≠0→(normF x.1).Rt):Least nl (P++[x]) (Ef nl l (normF x.1) x.2):=by
 have up: ∀{f g},Dc nl P f g→Dc nl (P++[x]) f g:=fun⟨⟨y,hy,e⟩,h⟩=>⟨⟨y,List.mem_append_left _ hy,e⟩,h⟩
 have dn: ∀{f g},Dc nl (P++[x]) f g→Dc nl P f g∨(normF x.1=f∧x.2=g):=fun⟨⟨y,hy,e⟩,h⟩=>by
  rcases List.mem_append.1 hy with hy|hy
  ·exact .inl ⟨⟨y,hy,e⟩,h⟩
  ·rw[List.mem_singleton]at hy;subst hy;exact .inr e
 by_cases hs:(normF x.1).kind=0∨Dd (normF x.1)=true∨CH (normF x.1) nl=true
 ·rw[G5 hs]
  refine⟨fun y hy=>up (h.sub y hy),fun f g hf=> ?_⟩
  rcases dn hf with hf'|⟨rfl,rfl⟩
  ·exact h.top f g hf'
  ·exact absurd hs hf.2
 ·have hrt:=hx fun h=>hs (.inl h)
  have hin:Dc nl (P++[x]) (normF x.1) x.2:=⟨⟨x,by simp,rfl,rfl⟩,hs⟩
  rcases K1 (normF x.1) (l.map Fnd.fact) 0 with⟨hi,hno⟩|⟨k,hkl,hi,hz⟩
  ·rw[Ox hs hi]
   refine⟨fun y hy=> ?_,fun f g hf=> ?_⟩
   ·rcases List.mem_append.1 hy with hy|hy
    ·exact up (h.sub y hy)
    ·rw[List.mem_singleton]at hy;subst hy;exact hin
   ·rcases dn hf with hf'|⟨rfl,rfl⟩
    ·obtain⟨y,hy,e,he⟩:=h.top f g hf'
     exact⟨y,List.mem_append_left _ hy,e,he⟩
    ·exact⟨⟨normF x.1,x.2⟩,by simp,rfl,LX _⟩
  ·rw[List.length_map]at hkl
   rw[Nat.zero_add]at hi
   rw[PQ hs hkl hi]
   rw[List.getElem_map]at hz
   have hfk:normF x.1=l[k].fact:=(Et hrt (hl.rt _ (Ak hkl))).1 hz
   have uniq: ∀y∈l,y.fact=normF x.1→y=l[k]:=fun y hy e=>by
    obtain⟨i,hi,rfl⟩:=List.mem_iff_getElem.1 hy
    have hp:=List.pairwise_iff_getElem.1 hl.nd;rcases Nat.lt_trichotomy i k with h1|h1|h1
    ·exact absurd (e.trans hfk) (hp i k hi hkl h1)
    ·subst h1;rfl
    ·exact absurd (e.trans hfk).symm (hp k i hkl hi h1)
   by_cases he:BF x.2 l[k].grds=true
   ·rw[if_pos he]
    refine⟨fun y hy=> ?_,fun f g hf=> ?_⟩
    ·rcases List.mem_or_eq_of_mem_set hy with hy|rfl
     ·exact up (h.sub y hy)
     ·rw[←hfk];exact hin
    ·have hmem:(⟨l[k].fact,x.2⟩:Fnd)∈l.set k ⟨l[k].fact,x.2⟩:=List.mem_set hkl _;rcases dn hf with hf'|⟨rfl,rfl⟩
     ·obtain⟨y,hy,e,hee⟩:=h.top f g hf'
      by_cases hyk:y=l[k]
      ·refine⟨_,hmem,by rw[←hyk];exact e,?_⟩
       rw[Bool.eq_false_iff]
       intro hc;have:=Tg hc he;rw[hyk]at hee;rw[hee]at this;cases this
      ·obtain⟨i,hi2,rfl⟩:=List.mem_iff_getElem.1 hy
       have hik:k≠i:=fun e=>hyk (by subst e;rfl)
       refine⟨l[i],?_,e,hee⟩
       rw[List.mem_iff_getElem]
       exact⟨i,by simpa using hi2,by rw[List.getElem_set_ne hik]⟩
     ·exact⟨_,hmem,hfk.symm,LX _⟩
   ·rw[if_neg he]
    refine⟨fun y hy=>up (h.sub y hy),fun f g hf=> ?_⟩
    rcases dn hf with hf'|⟨rfl,rfl⟩
    ·exact h.top f g hf'
    ·exact⟨l[k],Ak hkl,hfk.symm,by simpa using he⟩
theorem Qx{nl:List Fct}: ∀(Q P:List AR) (l:List Fnd),FndOk l→Least nl P l→(∀x∈Q,FY x)→Least nl (P++Q) (runF nl l Q)
 |[],P,l,_,h,_=>by rw[List.append_nil];exact h
 |x::Q,P,l,hl,h,hQ=>by
  have hx:=hQ x (by simp)
  have:=Qx Q (P++[x]) (Ef nl l (normF x.1) x.2) (VA hl (Ca hx.1) hx.2) (YU hl h x (Ca hx.1)) fun y hy=>hQ y (by simp[hy])
  rw[List.append_assoc]at this
  exact this
theorem PC{nl:List Fct}{P:List AR}(hP: ∀x∈P,FY x):Least nl P (runF nl [] P):=by
 have:=Qx (nl:=nl) P [] [] .nil ⟨by simp,fun f g h=>by obtain⟨⟨x,hx,_⟩,_⟩:=h;cases hx⟩ hP
 exact this
theorem SR{nl nl':List Fct}{P P':List AR}{l l':List Fnd}(hl:FndOk l)(h:Least nl P l)(h':Least nl' P' l')(hs: ∀f g,Dc nl P f g↔Dc nl' P' f g): ∀x∈l,x∈l':=by
 intro x hx;obtain⟨y,hy,e,he⟩:=h'.top _ _ ((hs _ _).1 (h.sub x hx));obtain⟨z,hz,e2,he2⟩:=h.top _ _ ((hs _ _).2 (h'.sub y hy));have hzx:z=x:=by
  obtain⟨i,hi,rfl⟩:=List.mem_iff_getElem.1 hx
  obtain⟨j,hj,rfl⟩:=List.mem_iff_getElem.1 hz
  have hp:=List.pairwise_iff_getElem.1 hl.nd;rcases Nat.lt_trichotomy i j with h1|h1|h1
  ·exact absurd (e2.trans e).symm (hp i j hi hj h1)
  ·subst h1;rfl
  ·exact absurd (e2.trans e) (hp j i hj hi h1)
 subst hzx;have hg:=jbu he he2;obtain⟨f1,g1⟩:=z;obtain⟨f2,g2⟩:=y;simp only at*;subst hg;subst e;exact hy
theorem FndOk.nodup{l:List Fnd}(h:FndOk l):l.Nodup:=h.nd.imp fun hne e=>hne (by rw[e])
theorem jb2{nl nl':List Fct}{P P':List AR}{l l':List Fnd}(hl:FndOk l)(hl':FndOk l')(h:Least nl P l)(h':Least nl' P' l')(hs: ∀f g,Dc nl P f g↔Dc nl' P' f g):CU DH l=CU DH l':=by
 have hp:l.Perm l':=(List.perm_ext_iff_of_nodup hl.nodup hl'.nodup).2 fun x=>⟨SR hl h h' hs x,SR hl' h' h (fun f g=>(hs f g).symm) x⟩
 have hC:IsCmp (fun x=>x∈l') DH:=⟨fun x y hx hy=>isCmp_F.rng _ _ (hl'.rt x hx).num (hl'.rt y hy).num,fun x y hx hy=>isCmp_F.anti _ _ (hl'.rt x hx).num (hl'.rt y hy).num,fun x y z hx hy hz=>isCmp_F.tr _ _ _ (hl'.rt x hx).num (hl'.rt y hy).num (hl'.rt z hz).num⟩
 refine Nt hC (fun x y hx hy h0=> ?_) (fun x hx=>hx) ((DV l).trans hp) ?_
 ·have e:x.fact=y.fact:=(Et (hl'.rt x hx) (hl'.rt y hy)).1 h0
  obtain⟨i,hi,rfl⟩:=List.mem_iff_getElem.1 hx
  obtain⟨j,hj,rfl⟩:=List.mem_iff_getElem.1 hy
  have hp:=List.pairwise_iff_getElem.1 hl'.nd;rcases Nat.lt_trichotomy i j with h1|h1|h1
  ·exact absurd e (hp i j hi hj h1)
  ·subst h1;rfl
  ·exact absurd e.symm (hp j i hj hi h1)
 ·exact Ka hC fun x hx=>hp.mem_iff.1 hx
theorem jba(a b:Int):lo b a=lo a b:=by unfold lo;split<;>split<;>omega
theorem jeN(a b:Int):hi b a=hi a b:=by unfold hi;split<;>split<;>omega
theorem OV(a b:Int):Ah b a=Ah a b:=by unfold Ah;rw[jba,jeN]
theorem Eb(a b:Int):(Ah a b).1≤(Ah a b).2:=by unfold Ah lo hi;simp only;split<;>omega
theorem jcq{k:Int}{l l':List Int}{n:Bool}{m d:List Nat}(h:l.Perm l'):AK ⟨k,l,n,m,d⟩=AK ⟨k,l',n,m,d⟩:=by
 unfold AK FW;simp only;rw[h.length_eq,h.any_eq]
theorem Pa(p q:Int×Int):AC p q<0↔p.1<q.1∨p.1=q.1∧p.2<q.2:=by
 unfold AC Bm Bm Bm Az;by_cases h1:p.1<q.1
 ·simp[h1]
 ·by_cases h2:q.1<p.1
  ·simp[h1,h2];omega
  ·by_cases h3:p.2<q.2
   ·simp[h1,h2,h3];omega
   ·by_cases h4:q.2<p.2
    ·simp[h1,h2,h3,h4]
    ·simp[h1,h2,h3,h4]
theorem jbc{l l':List Int}(h:l.Perm l'):BE l=BE l':=by
 refine Mj ?_ ?_
 ·rw[Hy];exact(Ln l).trans h
 ·rw[Hy];exact M5 l
theorem PZ{k:Int}{l l':List Int}{n:Bool}{m d:List Nat}(h:l.Perm l')(hg:normG ⟨k,l,n,m,d⟩=normG ⟨k,l',n,m,d⟩):normF ⟨k,l,n,m,d⟩=normF ⟨k,l',n,m,d⟩:=by
 unfold normF;rw[jcq h,hg]
theorem VS{k:Int}{a b c d a' b' c' d':Int}{n:Bool}{m e:List Nat}(hk:k=2∨k=3∨k=4∨k=9)(h1:Ah a' b'=Ah a b)(h2:Ah c' d'=Ah c d):normG ⟨k,[a',b',c',d'],n,m,e⟩=normG ⟨k,[a,b,c,d],n,m,e⟩:=by
 unfold normG;rcases hk with rfl|rfl|rfl|rfl<;>simp[h1,h2]
theorem P9{k:Int}(a b c d:Int){n:Bool}{m e:List Nat}(hk:k=2∨k=3∨k=4∨k=9):normF ⟨k,[b,a,d,c],n,m,e⟩=normF ⟨k,[a,b,c,d],n,m,e⟩:=
 PZ ((List.Perm.swap _ _ _).trans (((List.Perm.swap _ _ _).cons _).cons _)) (VS hk (OV _ _) (OV _ _))
theorem Pz{k:Int}(a b c d:Int){n:Bool}{m e:List Nat}(hk:k=2∨k=3∨k=4∨k=9):normF ⟨k,[a,b,d,c],n,m,e⟩=normF ⟨k,[a,b,c,d],n,m,e⟩:=
 PZ (((List.Perm.swap _ _ _).cons _).cons _) (VS hk rfl (OV _ _))
end Go.Va
namespace Go.Va
open Go.Proofs
theorem jc3(l:List Int)(i j:Nat)(x:Int)(h:i<l.length):(l.set i x).getD j 0=if j=i then x else l.getD j 0:=by
 rw[Ar,Ar,List.getElem?_set]
 by_cases e:j=i
 ·subst e;simp[h]
 ·rw[if_neg (fun h=>e h.symm),if_neg e]
structure RPat where
 kind:Int
 letters:List UInt8
 seg:Bool
 num:Int
def RPat.ds(p:RPat):List D:=[.int .i64 p.kind,.str (bs p.letters),.bool p.seg,.int .i64 p.num]
theorem RPat.ds_len(p:RPat):p.ds.length=4:=rfl
def Bg(l:List RPat):D:= .slice l.length (l.flatMap RPat.ds)
structure Nmz where
 v:List Int
 h:v.length=26
def Nmz.get(n:Nmz)(k:Nat):Int:=n.v.getD k 0
def Nmz.put(n:Nmz)(k:Nat)(x:Int):Nmz:=⟨n.v.set k x,by simp[n.h]⟩
def Nmz.zero:Nmz:=⟨List.replicate 26 (-1),rfl⟩
theorem Nmz.get_put(n:Nmz){k:Nat}(hk:k<26)(x:Int)(j:Nat):(n.put k x).get j=if j=k then x else n.get j:=jc3 n.v k j x (by rw[n.h];omega)
theorem Nmz.get_zero{k:Nat}(hk:k<26):Nmz.zero.get k= -1:=by
 unfold Nmz.get Nmz.zero;rw[Ar,List.getElem?_replicate,if_pos hk];rfl
def Be:List UInt8→List Int→Nmz→Nmz×Bool
 |c::l,x::r,n=>if 0≤n.get (c.toNat - 97)∧n.get (c.toNat - 97)≠x then (n,false) else Be l r (n.put (c.toNat - 97) x)
 |[],_,n=>(n,true)
 |_::_,[],n=>(n,true)
def argsR(q:RPat)(n:Nmz):List Int:=q.letters.flatMap fun c=>if q.seg then [(n.get (c.toNat - 97)).tdiv 40,(n.get (c.toNat - 97)).tmod 40] else [n.get (c.toNat - 97)]
def CA:Nat→List Int→Nat→Nat→Option (List Int)
 |0,a,_,_=>some a
 |m+1,a,j,k=>if a.getD j 0=a.getD k 0 then none else CA m (if a.getD j 0<a.getD k 0 then (a.set j (a.getD k 0)).set k (a.getD j 0) else a) j (k+1)
def Dj:Nat→List Int→Nat→Option (List Int)
 |0,a,_=>some a
 |m+1,a,j=>match CA j a j 0 with|none=>none|some a'=>Dj m a' (j+1)
def FG(a:List Int):Option (List Int):=Dj a.length a 0
end Go.Va
