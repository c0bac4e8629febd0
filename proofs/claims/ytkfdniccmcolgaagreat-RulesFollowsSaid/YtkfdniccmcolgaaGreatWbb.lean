/- a part of the proof -/
import Derived.Test.YtkfdniccmcolgaaGreatWba
set_option linter.all false
set_option maxHeartbeats 4000000
set_option maxRecDepth 10000
namespace Go.Va
open Go.Proofs
abbrev AR:=Fct×List Grd
def DK(x:AR):List A:=[.agg x.1.ds,.c (grdsD x.2)]
def Cj(r:Rul)(b:Bnd):List AR:=if Gv b r.guards then r.concl.map fun p=>(D9 b p,guardsL b r.guards) else []
def DY(E:Bnd→List AR)(M:Nat→Bnd→List Bnd):Nat→Nat→Bnd→List AR
 |0,_,b=>E b
 |k+1,i,b=>(M i b).flatMap (DY E M k (i+1))
def Co(r:Rul)(nl:List Fct)(i:Nat)(b:Bnd):List Bnd:=match r.prem[i]?,nl[i]? with|some p,some f=>C5 p f b|_,_=>[]
def saysP(r:Rul)(nl:List Fct):List AR:=DY (Cj r) (Co r nl) nl.length 0 Bnd.zero
def runF(nl:List Fct)(l:List Fnd)(P:List AR):List Fnd:=P.foldl (fun l x=>G0 nl l x.1 x.2) l
def DH(a b:Fnd):Int:=Aw a.fact b.fact
def Gn(r:Rul)(nl:List Fct):List Fnd:=CU DH (runF nl [] (saysP r nl))
theorem jgw(r:Rul)(b:Bnd):EZ r b=(Cj r b).map DK:=by
 unfold EZ Cj Fv;split
 ·rw[List.drop_zero,List.map_map];rfl
 ·rfl
theorem Wd(r:Rul)(M:Nat→Bnd→List Bnd): ∀(k i:Nat) (b:Bnd),found1 (EZ r) M k i b=(DY (Cj r) M k i b).map DK
 |0,i,b=>jgw r b
 |k+1,i,b=>by
  show(M i b).flatMap (found1 (EZ r) M k (i+1))=((M i b).flatMap (DY (Cj r) M k (i+1))).map DK
  rw[List.map_flatMap]
  exact congrArg (fun g=>(M i b).flatMap g) (funext fun c=>Wd r M k (i+1) c)
theorem E3{α β:Type}{f:α→List β}{m:Nat}: ∀{l:List α},(∀a∈l,(f a).length≤m)→(l.flatMap f).length≤l.length*m
 |[],_=>by simp
 |a::l,h=>by
  rw[List.flatMap_cons,List.length_append,List.length_cons,Nat.succ_mul]
  have h1:=h a (by simp)
  have h2:=E3 (l:=l) fun b hb=>h b (by simp[hb])
  omega
def H0:Nat→Nat
 |0=>1
 |n+1=>(n+1)*H0 n
theorem Vm: ∀n,1≤H0 n
 |0=>AA _
 |n+1=>Nat.mul_pos (Nat.succ_pos n) (Vm n)
theorem Rq: ∀(l:List UInt8) (pts:List Int) (b:Bnd),(mp l pts b).length≤H0 pts.length
 |[],pts,b=>by rw[mp];exact Vm _
 |c::r,pts,b=>by
  rw[mp]
  cases hn:pts.length with
  |zero=>simp[H0]
  |succ n=>
   have:=E3 (l:=List.range (n+1)) (m:=H0 n) (f:=fun i=>match b.point (c.toNat - 65) (pts.getD i 0)with|none=>[]|some b'=>mp r (pts.eraseIdx i) b') fun i hi=>by
    rw[List.mem_range]at hi
    split
    ·exact Nat.zero_le _
    ·rename_i b' _
     have h:=Rq r (pts.eraseIdx i) b';rw[List.length_eraseIdx,if_pos (by omega),hn,Nat.add_sub_cancel]at h
     exact h
   rw[List.length_range]at this
   exact this
theorem OS: ∀(n:Nat) (ls:List UInt8) (l:List (Int×Int)) (b:Bnd),ls.length≤n→(ms ls l b).length≤2^n
 |n,[],l,b,_=>by cases l<;>(rw[ms];exact Nat.one_le_two_pow)
 |n,x::r,[],b,_=>by simp[ms]
 |0,x::r,s::l,b,hn=>by simp at hn
 |n+1,x::r,s::l,b,hn=>by
  simp only[List.length_cons,Nat.add_le_add_iff_right]at hn;by_cases h97:97≤x.toNat
  ·rw[J4 h97]
   split
   ·exact Nat.zero_le _
   ·rename_i b' _
    have:=OS n r l b' hn
    rw[Nat.pow_succ];omega
  ·cases r with
   |nil=>simp only[ms,if_neg h97];exact Nat.zero_le _
   |cons d r=>
    have aux: ∀p q:Int,(DU x d r l b p q).length≤2^n:=by
     intro p q;unfold DU;split
     ·exact Nat.zero_le _
     ·split
      ·exact Nat.zero_le _
      ·rename_i b2 _
       exact OS n r l b2 (by simp at hn;omega)
    have h1:=aux s.1 s.2;have h2:=aux s.2 s.1;rw[LP h97,List.length_append,Nat.pow_succ];split
    ·simp;omega
    ·omega
theorem jhf(k:Int)(f:Fct):(rdg k f).length≤8:=by
 unfold rdg;split
 ·simp
 ·split
  ·simp
  ·split<;>simp
theorem Wl(x y z:Nat)(b:Bnd)(m p q:Int):(Dx x y z b m p q).length≤1:=by
 unfold Dx;split
 ·simp
 ·split
  ·simp
  ·split<;>simp
theorem jaq(p:Pat)(f:Fct)(hf:f.Rt)(hp:p.letters.length≤8)(b:Bnd):(C5 p f b).length≤2048:=by
 obtain⟨h1,h2,h3,h4⟩:=hf.parts
 unfold C5;split
 ·rename_i hk
  split
  ·rename_i he
   have:=Rq p.letters f.args b
   have e:f.args.length≤4:=by
    rw[h2,he]
    rcases hk with h|h|h<;>rw[h]<;>decide
   have:H0 f.args.length≤24:=by
    generalize f.args.length=n at e
    match n,e with
    |0,_=>decide
    |1,_=>decide
    |2,_=>decide
    |3,_=>decide
    |4,_=>decide
   omega
  ·simp
 ·split
  ·split
   ·rw[List.length_append]
    have h1:=Wl ((p.letters.getD 0 0).toNat - 65) ((p.letters.getD 1 0).toNat - 65) ((p.letters.getD 2 0).toNat - 65) b (f.args.getD 0 0) (f.args.getD 1 0) (f.args.getD 2 0);have h2:=Wl ((p.letters.getD 0 0).toNat - 65) ((p.letters.getD 1 0).toNat - 65) ((p.letters.getD 2 0).toNat - 65) b (f.args.getD 0 0) (f.args.getD 2 0) (f.args.getD 1 0);omega
   ·simp
  ·have h1:=E3 (l:=rdg p.kind f) (m:=256) (f:=fun l=>ms p.letters l b) fun l _=>OS 8 p.letters l b hp
   have h2:=jhf p.kind f;have:(rdg p.kind f).length*256≤8*256:=Bl _ h2;omega
structure Rul.Good (r:Rul):Prop where
 fit: ∀p∈r.prem,p.Fit∧p.letters.length≤8
 hg: ∀p∈r.guards,p.Ok∧p.letters.length≤8
 hc: ∀p∈r.concl,p.Ok∧0≤p.n∧p.n≤1000
 lp:r.prem.length≤3
 lc:r.concl.length≤10
 lg:r.guards.length≤10
theorem Zs(r:Rul)(hr:r.Good)(nl:List Fct)(hn: ∀f∈nl,f.Rt)(i:Nat)(b:Bnd):(Co r nl i b).length≤2048:=by
 unfold Co;split
 ·rename_i p f h1 h2
  exact jaq p f (hn f (Bv h2)) (hr.fit p (Bv h1)).2 b
 ·simp
theorem WH(r:Rul)(nl:List Fct)(hn: ∀f∈nl,f.Rt)(i:Nat)(b:Bnd)(hb:b.Ok): ∀c∈Co r nl i b,c.Ok:=by
 intro c hc;unfold Co at hc;split at hc
 ·rename_i p f h1 h2
  exact jcZ p f (hn f (Bv h2)) b hb c hc
 ·cases hc
theorem jfm(r:Rul)(hr:r.Good)(b:Bnd):(Cj r b).length≤10:=by
 unfold Cj;split
 ·rw[List.length_map];exact hr.lc
 ·simp
theorem RL(r:Rul)(hr:r.Good)(nl:List Fct)(hn: ∀f∈nl,f.Rt): ∀(k i:Nat) (b:Bnd),(DY (Cj r) (Co r nl) k i b).length≤2048^k*10
 |0,i,b=>by simpa [DY]using jfm r hr b
 |k+1,i,b=>by
  have:=E3 (l:=Co r nl i b) (m:=2048^k*10) (f:=DY (Cj r) (Co r nl) k (i+1)) fun c _=>RL r hr nl hn k (i+1) c
  have h2:=Bl (2048^k*10) (Zs r hr nl hn i b);have e:2048^(k+1)*10=2048*(2048^k*10):=by rw[Nat.pow_succ,Nat.mul_comm (2048^k) 2048,Nat.mul_assoc]
  rw[e]
  exact Nat.le_trans this h2
theorem Bnd.zero_ok:Bnd.zero.Ok:=by
 intro y hy;have:=List.eq_of_mem_replicate hy;omega
theorem Vl(r:Rul)(hr:r.Good)(nl:List Fct)(hn: ∀f∈nl,f.Rt)(hl:nl.length≤3):(saysP r nl).length≤90000000000:=by
 have h:=RL r hr nl hn nl.length 0 Bnd.zero;have h2:2048^nl.length≤2048^3:=Nat.pow_le_pow_right (by omega) hl
 unfold saysP;omega
theorem Q1{E:Bnd→List AR}{M:Nat→Bnd→List Bnd}(hM: ∀i b,b.Ok→ ∀c∈M i b,c.Ok){Q:AR→Prop}(hE: ∀b,b.Ok→ ∀x∈E b,Q x): ∀(k i:Nat) (b:Bnd),b.Ok→ ∀x∈DY E M k i b,Q x
 |0,i,b,hb,x,hx=>hE b hb x hx
 |k+1,i,b,hb,x,hx=>by
  rw[DY,List.mem_flatMap]at hx
  obtain⟨c,hc,hx⟩:=hx
  exact Q1 hM hE k (i+1) c (hM i b hb c hc) x hx
def FY(x:AR):Prop:=x.1.Mild∧x.2.length≤10∧ ∀g∈x.2,g.Short
theorem jat(b:Bnd)(p:Pat)(hp:p.Ok∧0≤p.n∧p.n≤1000):(D9 b p).Mild:=by
 have hl:=JV b p.letters;have h2:=hp.1.2.1;obtain⟨n,hn⟩: ∃n:Nat,p.n=(n:Int):=⟨p.n.toNat,by omega⟩
 have hs: ∀m:Nat,m≤1000→(limbs m).length≤4∧Ok (limbs m):=fun m hm=>by
  refine⟨?_,Ap m⟩
  rw[jd8]
  split
  ·simp
  ·rw[show m/65536=0 by omega,CZ];simp
 have e1:p.n.toNat≤1000:=by omega
 unfold D9;refine⟨?_,?_,?_,?_,?_⟩
 ·show(if p.kind=9 then limbs p.n.toNat else []).length≤4
  split
  ·exact(hs _ e1).1
  ·simp
 ·show(if p.kind=9 then limbs 1 else []).length≤4
  split
  ·exact(hs 1 (by omega)).1
  ·simp
 ·show Ok (if p.kind=9 then limbs p.n.toNat else [])
  split
  ·exact(hs _ e1).2
  ·exact Ok.nil
 ·show Ok (if p.kind=9 then limbs 1 else [])
  split
  ·exact(hs 1 (by omega)).2
  ·exact Ok.nil
 ·show(Bi b p.letters).length≤_
  omega
theorem ZE(b:Bnd)(ps:List Pat)(hp: ∀p∈ps,p.Ok∧p.letters.length≤8)(hl:ps.length≤10):(guardsL b ps).length≤10∧ ∀g∈guardsL b ps,g.Short:=by
 unfold guardsL;split
 ·simp
 ·refine⟨?_,fun g hg=> ?_⟩
  ·have:=Rb (ps.map (GQ b))
   rw[List.length_map]at this
   omega
  ·obtain⟨p,hp2,rfl⟩:=jzk.1 (VM hg)
   have h1:=JV b p.letters;have h2:=(hp p hp2).2
   show(Bc b p).length≤_
   unfold Bc;rw[Hg];omega
theorem Jw(r:Rul)(hr:r.Good)(nl:List Fct)(hn: ∀f∈nl,f.Rt): ∀x∈saysP r nl,FY x:=by
 refine Q1 (fun i b hb=>WH r nl hn i b hb) (fun b hb x hx=> ?_) _ _ _ Bnd.zero_ok
 unfold Cj at hx;split at hx
 ·obtain⟨p,hp,rfl⟩:=jzk.1 hx
  exact⟨jat b p (hr.hc p hp),ZE b r.guards hr.hg hr.lg⟩
 ·cases hx
theorem Ip(nl:List Fct): ∀(P:List AR) (l:List Fnd),(runF nl l P).length≤l.length+P.length
 |[],l=>by simp[runF]
 |x::P,l=>by
  have h1:=Ip nl P (G0 nl l x.1 x.2);have h2:=Yv nl l (normF x.1) x.2
  show(runF nl (G0 nl l x.1 x.2) P).length≤_
  unfold G0 at h1 ⊢;simp only[List.length_cons];omega
theorem G7{nl:List Fct}: ∀(P:List AR) (l:List Fnd),FndOk l→(∀x∈P,FY x)→FndOk (runF nl l P)
 |[],l,h,_=>h
 |x::P,l,h,hP=>by
  have hx:=hP x (by simp)
  exact G7 P _ (VA h (Ca hx.1) hx.2) fun y hy=>hP y (by simp[hy])
def G8(c:UInt8):Bool:=decide (65≤c.toNat)&&decide (c.toNat<91)
def MQ(c:UInt8):Bool:=G8 c||decide (97≤c.toNat)&&decide (c.toNat<123)
def Fq:List UInt8→Nat→Bool
 |[],_=>true
 |_::_,0=>false
 |c::r,n+1=>if 97≤c.toNat then decide (c.toNat<123)&&Fq r n else
  match r with
  |[]=>false
  |d::r=>G8 c&&G8 d&&Fq r n
theorem Hn{c:UInt8}(h:G8 c=true):cap c:=by
 unfold G8 at h
 simpa [cap]using h
theorem X3{c:UInt8}(h:MQ c=true):Cu c:=by
 unfold MQ at h;simp only[Bool.or_eq_true,Ax,decide_eq_true_eq]at h;exact h.imp (fun h=>Hn h) id
theorem KK: ∀(n:Nat) (ls:List UInt8) (l:List (Int×Int)),ls.length≤n→Fq ls l.length=true→CN ls l
 |n,[],l,_,_=>by cases l<;>trivial
 |n,c::r,[],_,h=>by simp[Fq]at h
 |0,c::r,s::l,hn,_=>by simp at hn
 |n+1,c::r,s::l,hn,h=>by
  simp only[List.length_cons,Nat.add_le_add_iff_right]at hn;by_cases h97:97≤c.toNat
  ·rw[No h97]
   cases r with
   |nil=>
    simp only[Fq,List.length_cons,if_pos h97,Ax,decide_eq_true_eq]at h;exact⟨h.1,by cases l<;>trivial⟩
   |cons d r=>
    simp only[Fq,List.length_cons,if_pos h97,Ax,decide_eq_true_eq]at h;exact⟨h.1,KK n _ l hn h.2⟩
  ·cases r with
   |nil=>simp[Fq,h97]at h
   |cons d r=>
    simp only[Fq,List.length_cons,if_neg h97,Ax]at h;simp only[CN,if_neg h97];exact⟨Hn h.1.1,Hn h.1.2,KK n r l (by simp at hn;omega) h.2⟩
def OW(p:Pat):Bool:=decide (p.letters.length≤8)&&
 (decide (p.kind=1∨p.kind=6∨p.kind=8)&&p.letters.all G8||
 (decide (p.kind=5)&&decide (p.letters.length=3)&&p.letters.all G8||
 (decide (p.kind=2∨p.kind=3∨p.kind=4)&&Fq p.letters 2||decide (p.kind=7)&&Fq p.letters 4)))
theorem jaf{p:Pat}(h:OW p=true):p.Fit∧p.letters.length≤8:=by
 unfold OW at h;simp only[Bool.or_eq_true,Ax,decide_eq_true_eq,jzy]at h;obtain⟨h8,h⟩:=h;refine⟨⟨by omega,?_⟩,h8⟩
 rcases h with h|h|h|h
 ·exact .inl ⟨h.1,fun c hc=>Hn (h.2 c hc)⟩
 ·obtain⟨c1,c2,c3,e⟩:=Da h.1.2
  exact .inr (.inl ⟨h.1.1,c1,c2,c3,e,Hn (h.2 c1 (by simp[e])),Hn (h.2 c2 (by simp[e])),Hn (h.2 c3 (by simp[e]))⟩)
 ·exact .inr (.inr (.inl ⟨h.1,fun u v=>KK _ _ [u,v] (AA _) h.2⟩))
 ·exact .inr (.inr (.inr ⟨h.1,fun u v w z=>KK _ _ [u,v,w,z] (AA _) h.2⟩))
def Lf(p:Pat):Bool:=decide (p.letters≠[])&&decide (p.letters.length≤8)&&p.letters.all MQ&&decide (0≤p.n)&&decide (p.n≤1000)
theorem Kb{p:Pat}(h:Lf p=true):p.Ok∧p.letters.length≤8∧0≤p.n∧p.n≤1000:=by
 unfold Lf at h;simp only[Ax,decide_eq_true_eq,jzy]at h;obtain⟨⟨⟨⟨h1,h2⟩,h3⟩,h4⟩,h5⟩:=h;exact⟨⟨h1,by omega,fun c hc=>X3 (h3 c hc)⟩,h2,h4,h5⟩
def MN(r:Rul):Bool:=r.prem.all OW&&r.guards.all Lf&&r.concl.all Lf&&decide (r.prem.length≤3)&&decide (r.concl.length≤10)&&decide (r.guards.length≤10)
theorem QV{r:Rul}(h:MN r=true):r.Good:=by
 unfold MN at h;simp only[Ax,decide_eq_true_eq,jzy]at h;obtain⟨⟨⟨⟨⟨h1,h2⟩,h3⟩,h4⟩,h5⟩,h6⟩:=h;exact⟨fun p hp=>jaf (h1 p hp),fun p hp=>⟨(Kb (h2 p hp)).1,(Kb (h2 p hp)).2.1⟩,fun p hp=>⟨(Kb (h3 p hp)).1,(Kb (h3 p hp)).2.2⟩,h4,h5,h6⟩
theorem Zk: ∀n:Fin 29,MN (AJ n)=true:=by decide+kernel
theorem HL(n:Nat):(AJ n).Good:=by
 by_cases h:n<29
 ·exact QV (Zk ⟨n,h⟩)
 ·rw[IK n (by omega)]
  exact QV (by decide)
theorem Ih(n:Int):(rulT n).Good:=by
 obtain⟨h1,h2,h3,h4,h5,h6⟩:=HL n.toNat
 exact⟨h1,h2,h3,h4,h5,h6⟩
end Go.Va
namespace Go.Va
open Int (natCast_add natCast_mul natCast_emod natCast_ediv natCast_pow)
open Go.Proofs Go.Shelf Go.RowKit Go.Lib Go.Sort
theorem jfO(a b:Fnd)(ha:a.fact.Rt)(hb:b.fact.Rt):CallsF Tryz.prog 58 [.agg a.ds,.agg b.ds] (.u (.c (.d (.int .i64 (DH a b))))):=by
 have k:=MD a.fact b.fact ha.mild hb.mild ha.num hb.num;unfold DH;simp only[Fct.ds,Fnd.ds]at*;refine Ae (T:=tb) Ad mixed Tryz.func58 rfl (by decide) (Ac rfl) rfl ?_;unfold St.init
 simp -implicitDefEqProofs[jJ,-natCast_add,-natCast_mul];refine Aa k ?_;simp -implicitDefEqProofs[jJ,-natCast_add,-natCast_mul]
theorem isCmp_N:IsCmp (fun x:Fnd=>x.fact.Num) DH:=⟨fun x y hx hy=>isCmp_F.rng _ _ hx hy,fun x y hx hy=>isCmp_F.anti _ _ hx hy,fun x y z hx hy hz=>isCmp_F.tr _ _ _ hx hy hz⟩
theorem WQ(i:Nat)(l:List Fnd)(app:Bool)(hl:l.length≤1099511627776)(hr:FndOk l):
  EQ Tryz.prog 57 [.c (.sl i 0 l.length),.c (.d (.fn 58 []))] [(i,.row 6 (l.flatMap Fnd.ds) app)] [(i,.row 6 ((CU DH l).flatMap Fnd.ds) app)] (.tup []):=by
 have hnd: ∀x y,x∈l→y∈l→DH x y=0→x=y:=by
  intro x y hx hy h;have e:x.fact=y.fact:=(Et (hr.rt x hx) (hr.rt y hy)).1 h;obtain⟨i,hi,rfl⟩:=List.mem_iff_getElem.1 hx;obtain⟨j,hj,rfl⟩:=List.mem_iff_getElem.1 hy;have hp:=List.pairwise_iff_getElem.1 hr.nd;rcases Nat.lt_trichotomy i j with h1|h1|h1
  ·exact absurd e (hp i j hi hj h1)
  ·subst h1;rfl
  ·exact absurd e.symm (hp j i hj hi h1)
 exact VR (P:=fun x=>x∈l) (by omega) Fnd.ds_len ⟨fun x y hx hy=>isCmp_N.rng x y (hr.rt x hx).num (hr.rt y hy).num,fun x y hx hy=>isCmp_N.anti x y (hr.rt x hx).num (hr.rt y hy).num,fun x y z hx hy hz=>isCmp_N.tr x y z (hr.rt x hx).num (hr.rt y hy).num (hr.rt z hz).num⟩
  (fun x hx=>(Et (hr.rt x hx) (hr.rt x hx)).2 rfl) hnd Tryz.laysSF rfl ⟨_,Tryz.func57,rfl,by decide⟩ Tryz.isAgg64 Tryz.sizeOf64 58
  (enters_of Tryz.func58 (by kernel_rfl) rfl) (fun x y hx hy=>jfO x y (hr.rt x hx) (hr.rt y hy)) i l app hl (fun f hf=>hf)
theorem Sw:CallsF Tryz.prog 57 [.c (.slice 0 []),.c (.fn 58 [])] (.tup []):=by
 refine⟨⟨_,Tryz.func57,rfl,by decide⟩,fun w Z vals hZ hv=> ?_⟩
 obtain⟨v,v2,rfl⟩: ∃v v2,vals=[v,v2]:=by
  have:=hv.1
  match vals,this with
  |[v,v2],_=>exact⟨v,v2,rfl⟩
 obtain⟨p,cap,rfl⟩: ∃p cap,v= .slice p 0 cap:=by
  have h:RepD w Z (.slice 0 []) v:=hv.2 0 _ v rfl rfl;cases h with
  |slice n cs a c vs=>exact⟨some a,c,rfl⟩
  |snil=>exact⟨none,0,rfl⟩
 have hcon:=AnyF.slices_SortFunc_none Tryz.laysSF p cap v2 w;refine Calls.mono hcon fun e w' ⟨he,hw⟩=> ?_
 subst hw;refine⟨_,he,Ext.refl _,by simp[R.rows],⟨0,0,0,0,true,true,true⟩,fun ad h=>(by cases h.1),fun k=> ?_⟩
 have hρ: ∀i,BN k [] (⟨0,0,0,0,true,true,true⟩:Own) i=none:=fun i=>rfl
 exact⟨⟨[],rfl,by simp[R.imp],fun j x v hx=>by simp[R.imp]at hx⟩,⟨⟨fun j o hj=>by(rw[R.rows,List.flatMap_nil,hρ]at hj;cases hj),fun j j' o o' hj=>by(rw[R.rows,List.flatMap_nil,hρ]at hj;cases hj),fun j o hj=>by(rw[R.rows,List.flatMap_nil,hρ]at hj;cases hj)⟩,fun i b hb=>by cases hb⟩⟩
end Go.Va
namespace Go.Va
open Int (natCast_add natCast_mul natCast_emod natCast_ediv natCast_pow)
open Go.Proofs
@[simp]theorem M6(l:List Fct):(l.flatMap Fct.ds).take (l.length*5)=l.flatMap Fct.ds:=AI (by rw[I3];omega)
@[simp]theorem jiJ(l:List Fct):D.slice l.length (l.flatMap Fct.ds)=fctsD l:=rfl
def CG(n:Int)(ps:List Fct):List Fnd:=
 if (rulT n).name=[]∨(ps.length:Int)≠(rulT n).count then [] else
 if (ps.map normF).any (fun f=>decide (f.kind=0)) then [] else Gn (rulT n) (ps.map normF)
def CS(ps:List Fct)(i:Nat):List Fct:=(ps.take i).map normF++List.replicate (ps.length - i) Fct.zero
theorem Jb{ps:List Fct}{i:Nat}(h:i≤ps.length):(CS ps i).length=ps.length:=by
 simp[CS];omega
theorem MZ{ps:List Fct}{i:Nat}(h:i<ps.length):(CS ps i).set i (normF ps[i])=CS ps (i+1):=by
 unfold CS;rw[List.set_append_right _ _ (by simp;omega),AQ h,List.map_append,List.append_assoc]
 congr 1
 rw[show ps.length - i=(ps.length - (i+1))+1 by omega,List.replicate_succ]
 simp[AU (Nat.le_of_lt h)]
theorem U0(ps:List Fct):CS ps ps.length=ps.map normF:=by simp[CS]
theorem Px(n:Nat):rep n [D.int .i64 0,D.slice 0 [],D.bool false,D.slice 0 [],D.slice 0 []]=(List.replicate n Fct.zero).flatMap Fct.ds:=by
 induction n with
 |zero=>rfl
 |succ n ih=>rw[rep,ih,List.replicate_succ,List.flatMap_cons];rfl
theorem Wg{ps:List Fct}{i:Nat}(h:i<ps.length):((CS ps (i+1)).flatMap Fct.ds)[i*5]? =some (.int .i64 (normF ps[i]).kind):=by
 have hl:(CS ps (i+1)).length=ps.length:=Jb h
 have h1:(((CS ps (i+1)).flatMap Fct.ds).drop (i*5)).take 5=(CS ps (i+1))[i].ds:=G1 Fct.ds_len _ i (by omega)
 have h2:(CS ps (i+1))[i]'(by omega)=normF ps[i]:=by
  simp[←MZ h]
 rw[h2]at h1
 have h3:=congrArg (fun l=>l[0]?) h1
 simpa [List.getElem?_take,List.getElem?_drop]using h3
theorem VE(nl:List Fct)(hn: ∀x∈nl,x.Rt)(hnl:nl.length≤1000)(P:List AR)(hP: ∀x∈P,FY x)(hPl:P.length≤90000000000)(y:List A)(rest:List (List A))(hs:(y::rest)<:+P.map DK):
  H8 Tryz.prog 48 y [.ptr 6 0,.ptr 9 0] (CX nl (runF nl [] (P.take (P.length - (y::rest).length)))) (CX nl (runF nl [] (P.take (P.length - rest.length)))):=by
 obtain⟨pre,hpre⟩:=hs
 have hlen:=congrArg List.length hpre;simp only[List.length_append,List.length_cons,List.length_map]at hlen;have hk:pre.length<P.length:=by omega
 have hy:DK P[pre.length]=y:=by
  have h1:(P.map DK)[pre.length]? =some (DK P[pre.length]):=by simp[hk]
  rw[←hpre]at h1
  simpa using h1.symm
 rw[show P.length - (y::rest).length=pre.length by simp only[List.length_cons];omega,show P.length - rest.length=pre.length+1 by omega,AQ hk]
 have e:runF nl [] (P.take pre.length++[P[pre.length]])=G0 nl (runF nl [] (P.take pre.length)) P[pre.length].1 P[pre.length].2:=by
  unfold runF;rw[List.foldl_append];rfl
 rw[e,←hy]
 have hx:=hP _ (Ak hk);have h1:=Ip nl (P.take pre.length) [];rw[AG]at h1;exact jeA nl _ _ _ hx.1 hn hnl (G7 _ [] .nil fun x hx=>hP x (List.mem_of_mem_take hx)) (by simp at h1;omega) hx.2
theorem Zv(n:Int)(ps:List Fct)(hps: ∀f∈ps,f.Mild)(hd:(rulT n).derive= .nilFn)(hcn:(rulT n).count=((rulT n).prem.length:Int))(hl:ps.length≤1099511627776):
  CallsF Tryz.prog 29 [.c (.int .i64 n),.c (fctsD ps)] (.u (.c (.own 6 (CG n ps).length ((CG n ps).flatMap Fnd.ds)))):=by
 have k1:=Wj n;have hgood:=Ih n;generalize hL:CG n ps=L;unfold CG at hL;generalize rulT n=r at*;simp only[Rul.res,Rul.ds,B9]at k1;rw[hd]at k1;refine Ae (T:=tb) Ad mixed Tryz.func29 rfl (by decide) (Ac rfl) rfl ?_;unfold St.init
 simp -implicitDefEqProofs[jJ,-natCast_add,-natCast_mul,-List.map_set,-List.reduceReplicate];refine Aa k1 ?_;simp -implicitDefEqProofs[jJ,-natCast_add,-natCast_mul,-List.map_set,-List.reduceReplicate];by_cases h0:r.name=[]
 ·rw[if_pos (.inl h0)]at hL
  subst hL;simp -implicitDefEqProofs[jJ,-natCast_add,-natCast_mul,-List.map_set,-List.reduceReplicate,h0]
 by_cases h1:(ps.length:Int)=r.count
 ·rw[if_neg (by simp[h0,h1])]at hL
  obtain⟨nm,pr,cc,gg,cnt,dd⟩:=r
  simp only at*;subst h1;subst hd;simp -implicitDefEqProofs[jJ,-natCast_add,-natCast_mul,-List.map_set,-List.reduceReplicate,h0];refine⟨by omega,?_⟩
  rw[Px]
  refine Av (fun i:Nat=>⟨[(28,vI .i64 i),(27,vI .i64 ps.length),(26,vC (.d (fctsD ps))),(6,vC (.ptr 6 0)),(5,vC (.ptr 5 0))],
   [(6,.box [.sl 25 0 ps.length]),(25,.row 5 ((CS ps i).flatMap Fct.ds) true),(5,.box [.d (.str (bs nm)),.d (.slice pr.length (pr.flatMap Pat.ds)),.d (.slice cc.length (cc.flatMap Pat.ds)),.d (.slice gg.length (gg.flatMap Pat.ds)),.d (.int .i64 ps.length),.d .nilFn])]⟩)
   (fun i=>i≤ps.length∧ ∀f∈ps.take i,(normF f).kind≠0) (fun i=>ps.length - i) 0 (by simp[An,lk,St.le,vI,vC,CS]) ⟨by omega,by simp⟩ ?_
  rintro i ⟨hi,hz⟩
  by_cases h:i<ps.length
  ·have k2:=LL ps[i] (hps _ (Ak h));have e2:=DO h;have g2:=Wg h;have st:=LU Fct.ds_len (CS ps i) i (normF ps[i]) (by rw[Jb hi];exact h)
   rw[MZ h]at st
   simp only[Fct.ds]at k2 st;simp -implicitDefEqProofs[jJ,-natCast_add,-natCast_mul,-List.map_set,-List.reduceReplicate,h,e2];refine Af (Aj [0,0,0,4,15,31]) [.any [] [] (Ao [[6],[7],[8],[35]]),.one,.one] (by rfl) ?_
   simp -implicitDefEqProofs[jJ,-natCast_add,-natCast_mul,-List.map_set,-List.reduceReplicate];refine Al k2 ?_;simp -implicitDefEqProofs[jJ,-natCast_add,-natCast_mul,-List.map_set,-List.reduceReplicate,Fct.res,h,st,g2];refine⟨by rw[Jb hi];omega,fun hk=> ?_,fun hk=> ?_⟩
   ·rw[if_pos (List.any_eq_true.2 ⟨normF ps[i],jzk.2 ⟨_,Ak h,rfl⟩,by simpa using hk⟩)]at hL
    subst hL;simp
   ·refine⟨by omega,i+1,⟨rfl,rfl⟩,⟨by omega,fun f hf=> ?_⟩,by omega⟩
    rw[AQ h,List.mem_append,List.mem_singleton]at hf
    rcases hf with hf|rfl
    ·exact hz f hf
    ·exact hk
  ·have hi2:i=ps.length:=by omega
   subst hi2;rw[U0];rw[AZ]at hz;have hrt: ∀f∈ps.map normF,f.Rt:=fun f hf=>by
    obtain⟨g,hg,rfl⟩:=jzk.1 hf
    exact Ca (hps g hg) (hz g hg)
   rw[if_neg (by
    rw[List.any_eq_true]
    rintro⟨f,hf,hk⟩
    obtain⟨g,hg,rfl⟩:=jzk.1 hf
    exact hz g hg (by simpa using hk))]at hL
   have hln:ps.length=(ps.map normF).length:=by simp
   rw[hln]at hL hgood hcn ⊢
   generalize ps.map normF=nl at*;have hn3:nl.length≤pr.length:=by omega
   have hP:=Jw _ hgood nl hrt;have hPl:=Vl _ hgood nl hrt (by have:=hgood.lp;simp only at this;omega)
   have kS:=fun x=>jd0 x nl ⟨nm,pr,cc,gg,(nl.length:Int),.nilFn⟩ (Co ⟨nm,pr,cc,gg,(nl.length:Int),.nilFn⟩ nl) hn3 (by have:=hgood.lp;simp only at this;omega) (by have:=hgood.lc;simp only at this ⊢;omega) (by have:=hgood.lg;simp only at this ⊢;omega) (fun p hp=>(hgood.hg p hp).1) hgood.hc (fun j hj b hb=>⟨fun x'=>by
     have e:Co ⟨nm,pr,cc,gg,(nl.length:Int),.nilFn⟩ nl j b=C5 (pr[j]'(by omega)) nl[j] b:=by
      unfold Co;simp only[Ai hj,Ai (show j<pr.length by omega)]
     rw[e]
     exact Zn _ _ (hgood.fit _ (Ak (show j<pr.length by omega))).1 (hrt _ (Ak hj)) b x',fun c hc=>WH _ nl hrt j b hb c hc⟩) Bnd.zero rfl
   rw[show found1 (EZ ⟨nm,pr,cc,gg,(nl.length:Int),.nilFn⟩) (Co ⟨nm,pr,cc,gg,(nl.length:Int),.nilFn⟩ nl) nl.length 0 Bnd.zero=(saysP ⟨nm,pr,cc,gg,(nl.length:Int),.nilFn⟩ nl).map DK from Wd _ _ _ _ _]at kS
   unfold Gn at hL;generalize saysP ⟨nm,pr,cc,gg,(nl.length:Int),.nilFn⟩ nl=P at*;have kC:=VE nl hrt (by have:=hgood.lp;simp only at this;omega) P hP (by omega)
   simp only[Rul.ds,B9]at kS;have hP0:runF nl [] (P.take (P.length - (P.map DK).length))=[]:=by rw[List.length_map,Nat.sub_self];rfl
   have hP1:runF nl [] (P.take (P.length - ([]:List (List A)).length))=runF nl [] P:=by rw[List.length_nil,Nat.sub_zero,AZ]
   have hok:=G7 (nl:=nl) P [] .nil hP;have hlen:=Ip nl P [];simp -implicitDefEqProofs[jJ,-natCast_add,-natCast_mul,-List.map_set,-List.reduceReplicate];refine .inr (.inr (.inr (.inr (.inl (.inl ⟨rfl,[.agg [.d (.str (bs nm)),.d (.slice pr.length (pr.flatMap Pat.ds)),.d (.slice cc.length (cc.flatMap Pat.ds)),.d (.slice gg.length (gg.flatMap Pat.ds)),.d (.int .i64 nl.length),.d .nilFn],.c (.sl 25 0 nl.length)],48,[.ptr 6 0,.ptr 9 0],[.agg [.str (bs nm),.slice pr.length (pr.flatMap Pat.ds),.slice cc.length (cc.flatMap Pat.ds),.slice gg.length (gg.flatMap Pat.ds),.int .i64 nl.length,.nilFn],.c (.slice nl.length (nl.flatMap Fct.ds))],P.map DK,fun rem=>CX nl (runF nl [] (P.take (P.length - rem.length))),[25],[6,9],[80],rfl,?_,kS,kC,?_,?_⟩)))))
   ·simp -implicitDefEqProofs[jJ,-natCast_add,-natCast_mul,-List.map_set,-List.reduceReplicate,U.toA,toD]
   ·dsimp only
    rw[hP0,hP1,Gr]
    clear kC kS k1 hP0 hP1 hL hok hlen;refine⟨by simp,?_,?_,?_,by simp,?_⟩
    ·intro c hc j hj;simp only[jzn,AM,or_false]at hc;rcases hc with rfl|rfl<;>(simp[C.id?]at hj;subst hj;simp)
    ·intro j b hb;simp only[lk]at hb;split at hb
     ·rename_i e
      subst e;cases hb;refine⟨by simp,by simp -implicitDefEqProofs[jJ,-natCast_add,-natCast_mul,-List.map_set,-List.reduceReplicate],?_⟩
      intro c hc k hk;simp at hc;subst hc;simp[C.id?]at hk
     ·split at hb
      ·rename_i e
       subst e;cases hb;refine⟨by simp,by simp -implicitDefEqProofs[jJ,-natCast_add,-natCast_mul,-List.map_set,-List.reduceReplicate],?_⟩
       intro c hc k hk;simp at hc;subst hc;simp[C.id?]at hk
      ·cases hb
    ·intro j hj;simp only[jzn,AM,or_false]at hj;rcases hj with rfl|rfl<;>simp[lk]
    ·intro j b hb;unfold CX at hb;split at hb
     ·simp only[lk]at hb;split at hb
      ·rename_i e;subst e;simp
      ·split at hb
       ·rename_i e;subst e;simp
       ·cases hb
     ·simp only[lk]at hb;split at hb
      ·rename_i e;subst e;simp
      ·split at hb
       ·rename_i e;subst e;simp
       ·split at hb
        ·rename_i e;subst e;simp
        ·cases hb
   ·dsimp only
    rw[hP1]
    generalize runF nl [] P=m at*;by_cases hm:m=[]
    ·subst hm;rw[Gr];have hL0:L=[]:=hL.symm;subst hL0;simp -implicitDefEqProofs[jJ,-natCast_add,-natCast_mul,-List.map_set,-List.reduceReplicate,St.backX,EW];refine Aa Sw ?_;simp -implicitDefEqProofs[jJ,-natCast_add,-natCast_mul,-List.map_set,-List.reduceReplicate]
    ·rw[GC nl hm]
     have q1:=fun i=>WQ i m true (by simp at hlen;omega) hok
     have hlL:L.length=m.length:=by rw[←hL];exact I0 m
     rw[hL]at q1
     simp -implicitDefEqProofs[jJ,-natCast_add,-natCast_mul,-List.map_set,-List.reduceReplicate,St.backX,EW];refine .inr (.inl (Fw (q1 80) (by simp[CW,U.all,C.id?]) (by simp[lk]) ?_))
     simp -implicitDefEqProofs[jJ,-natCast_add,-natCast_mul,-List.map_set,-List.reduceReplicate,St.backW,hlL]
 ·rw[if_pos (.inr h1)]at hL
  subst hL;simp -implicitDefEqProofs[jJ,-natCast_add,-natCast_mul,-List.map_set,-List.reduceReplicate,h0,h1]
end Go.Va
