/- a part of the proof -/
import Derived.Test.YtkfdniccmcolgaaGreatWbs
import Derived.Test.YtkfdniccmcolgaaGreatWbu
set_option linter.all false
set_option maxHeartbeats 4000000
set_option maxRecDepth 100000
namespace Go.Va
theorem BP{p:Int×Int}(h:p.1≤p.2):Ah p.1 p.2=p:=by
 obtain⟨a,b⟩:=p
 simp only at h;unfold Ah lo hi;rw[Prod.mk.injEq]
 constructor
 ·rw[if_neg (by omega)]
 ·split
  ·rfl
  ·simp only;omega
theorem Jc(l:List Int):BE (BE l)=BE l:=by
 have h:(BE l).Perm l:=by rw[Hy];exact Ln l
 exact jbc h
theorem Kz{k a b c d:Int}{n:Bool}{m e:List Nat}(hk:k=3∨k=4):normG ⟨k,[a,b,c,d],n,m,e⟩=B6 k (Ah a b) (Ah c d):=by
 unfold normG;rcases hk with rfl|rfl<;>simp
theorem Oi{a b c d:Int}{n:Bool}{m e:List Nat}:normG ⟨2,[a,b,c,d],n,m,e⟩=DX (Ah a b) (Ah c d):=by
 unfold normG;simp
theorem KJ{a b c d:Int}{n:Bool}{m e:List Nat}:normG ⟨9,[a,b,c,d],n,m,e⟩=Cr n (val m) (val e) (Ah a b) (Ah c d):=by
 unfold normG;simp
theorem OQ{a b c d e f g h:Int}{n:Bool}{m o:List Nat}:normG ⟨7,[a,b,c,d,e,f,g,h],n,m,o⟩=Ci (Ah a b) (Ah c d) (Ah e f) (Ah g h):=by
 unfold normG;simp
theorem Gl{k:Int}{l:List Int}{n:Bool}{m e:List Nat}(hk:k=1∨k=6∨k=8):normG ⟨k,l,n,m,e⟩=⟨k,BE l,false,[],[]⟩:=by
 unfold normG;rcases hk with rfl|rfl|rfl<;>simp
theorem Ji{p q:Int×Int}(h:AC q p<0): ¬AC p q<0:=by
 rw[Pa]at h ⊢
 omega
theorem OT{k:Int}(hk:k=3∨k=4){p q:Int×Int}(hp:p.1≤p.2)(hq:q.1≤q.2):normG (B6 k p q)=B6 k p q:=by
 unfold B6;split
 ·rename_i h
  rw[Kz hk,BP hp,BP hq]
  unfold B6;rw[if_neg (Ji h)]
 ·rename_i h
  rw[Kz hk,BP hp,BP hq]
  unfold B6;rw[if_neg h]
theorem jbl{p q:Int×Int}(hp:p.1≤p.2)(hq:q.1≤q.2):normG (DX p q)=DX p q:=by
 unfold DX;split
 ·rw[Gl (.inl rfl),Jc]
 ·rename_i h1
  split
  ·rw[Gl (.inl rfl),Jc]
  ·rename_i h2
   unfold B6;split
   ·rename_i h
    rw[Oi,BP hp,BP hq]
    unfold DX;rw[if_neg (by omega),if_neg (by omega)]
    unfold B6;rw[if_neg (Ji h)]
   ·rename_i h
    rw[Oi,BP hp,BP hq]
    unfold DX;rw[if_neg h1,if_neg h2];unfold B6;rw[if_neg h]
theorem jaT{neg:Bool}{m e:Nat}(e0:e≠0){p q:Int×Int}(hp:p.1≤p.2)(hq:q.1≤q.2):normG (Cr neg m e p q)=Cr neg m e p q:=by
 have back:m≠0→ ¬toZ neg m=e→ ¬toZ neg e=m:=fun m0 h h2=>by
  unfold toZ at h h2;cases neg
  ·simp at h h2;omega
  ·simp at h h2;omega
 by_cases h1:toZ neg m=e
 ·have e1:Cr neg m e p q=B6 4 p q:=by unfold Cr;rw[if_pos h1]
  rw[e1]
  exact OT (.inr rfl) hp hq
 by_cases h2:m≠0∧AC q p<0
 ·have e1:Cr neg m e p q=⟨9,[q.1,q.2,p.1,p.2],neg,limbs e,limbs m⟩:=by unfold Cr;rw[if_neg h1,if_pos h2]
  rw[e1,KJ,BP hp,BP hq,Am,Am]
  unfold Cr;rw[if_neg (back h2.1 h1),if_neg fun h=>Ji h2.2 h.2,if_neg]
  rintro⟨_,e,_⟩
  subst e;exact Ji h2.2 h2.2
 by_cases h3:m≠0∧p=q∧Az (toZ neg e*e) (toZ neg m*m)<0
 ·have e1:Cr neg m e p q=⟨9,[p.1,p.2,q.1,q.2],neg,limbs e,limbs m⟩:=by unfold Cr;rw[if_neg h1,if_neg h2,if_pos h3]
  rw[e1,KJ,BP hp,BP hq,Am,Am]
  unfold Cr;rw[if_neg (back h3.1 h1),if_neg fun h=>h2 ⟨h3.1,h.2⟩,if_neg]
  rintro⟨_,_,h⟩
  have h4:=h3.2.2;have z1:=Dv (toZ neg e*e) (toZ neg m*m);have z2:=Dv (toZ neg m*m) (toZ neg e*e);generalize toZ neg e*(e:Int)=A at*;generalize toZ neg m*(m:Int)=B at*;omega
 ·have e1:Cr neg m e p q=⟨9,[p.1,p.2,q.1,q.2],neg,limbs m,limbs e⟩:=by unfold Cr;rw[if_neg h1,if_neg h2,if_neg h3]
  rw[e1,KJ,BP hp,BP hq,Am,Am,e1]
theorem Tb(p q:Int×Int)(hp:p.1≤p.2)(hq:q.1≤q.2):(srt2 p q).1.1≤(srt2 p q).1.2∧(srt2 p q).2.1≤(srt2 p q).2.2∧srt2 (srt2 p q).1 (srt2 p q).2=srt2 p q:=by
 have key: ∀a b:Int×Int,¬AC b a<0→srt2 a b=(a,b):=fun a b h=>by unfold srt2;rw[if_neg h]
 by_cases h:AC q p<0
 ·have e:srt2 p q=(q,p):=by unfold srt2;rw[if_pos h]
  rw[e]
  exact⟨hq,hp,key _ _ (Ji h)⟩
 ·rw[key p q h]
  exact⟨hp,hq,key _ _ h⟩
theorem ZX{u v w z:Int×Int}(hu:u.1≤u.2)(hv:v.1≤v.2)(hw:w.1≤w.2)(hz:z.1≤z.2):normG (Ci u v w z)=Ci u v w z:=by
 obtain⟨a1,a2,a3⟩:=Tb v w hv hw
 obtain⟨b1,b2,b3⟩:=Tb u z hu hz
 unfold Ci;generalize srt2 v w=A at*;generalize srt2 u z=B at*;obtain⟨A1,A2⟩:=A;obtain⟨B1,B2⟩:=B;simp only at*;by_cases h:Bm [AC A1 B1,AC A2 B2]<0
 ·rw[if_pos h,OQ,BP a1,BP a2,BP b1,BP b2]
  unfold Ci;rw[a3,b3];simp only;rw[if_neg];rw[Jl,Pa,Pa]at h ⊢;obtain⟨A11,A12⟩:=A1;obtain⟨A21,A22⟩:=A2;obtain⟨B11,B12⟩:=B1;obtain⟨B21,B22⟩:=B2;simp only[Prod.mk.injEq]at*;omega
 ·rw[if_neg h,OQ,BP a1,BP a2,BP b1,BP b2]
  unfold Ci;rw[a3,b3];simp only;rw[if_neg h]
theorem Xu{f:Fct}(h:f.Rt):normF (normF f)=normF f:=by
 have hrt:=HW h;have e1:normF f=normG f:=by unfold normF;rw[if_pos h.ok]
 have e2:normF (normG f)=normG (normG f):=by unfold normF;rw[if_pos hrt.ok]
 rw[e1,e2]
 clear e1 e2 hrt;obtain⟨h1,h2,h3,h4⟩:=h.parts;have hm:=h.mild;obtain⟨k,l,n,m,d⟩:=f;simp only at h1 h2 h3 h4;rcases M9 h1 with rfl|rfl|rfl|rfl|rfl|rfl|rfl|rfl|rfl
 ·rw[Gl (.inl rfl),Gl (.inl rfl),Jc]
 ·obtain⟨a,b,c,e,rfl⟩:=By (by simpa [arity]using h2)
  rw[Oi]
  exact jbl (Eb _ _) (Eb _ _)
 ·obtain⟨a,b,c,e,rfl⟩:=By (by simpa [arity]using h2)
  rw[Kz (.inl rfl)]
  exact OT (.inl rfl) (Eb _ _) (Eb _ _)
 ·obtain⟨a,b,c,e,rfl⟩:=By (by simpa [arity]using h2)
  rw[Kz (.inr rfl)]
  exact OT (.inr rfl) (Eb _ _) (Eb _ _)
 ·obtain⟨a,b,c,rfl⟩:=Da (by simpa [arity]using h2)
  have e: ∀(x y z:Int) (n:Bool) (m e:List Nat),normG ⟨5,[x,y,z],n,m,e⟩=⟨5,[x,lo y z,hi y z],false,[],[]⟩:=fun x y z n m e=>by unfold normG;simp
  have e2:=BP (Eb b c);unfold Ah at e2;rw[Prod.mk.injEq]at e2;rw[e,e];simp only at e2;rw[e2.1,e2.2]
 ·rw[Gl (.inr (.inl rfl)),Gl (.inr (.inl rfl)),Jc]
 ·obtain⟨a,b,c,e,a',b',c',e',rfl⟩:=E4 (by simpa [arity]using h2)
  rw[OQ]
  exact ZX (Eb _ _) (Eb _ _) (Eb _ _) (Eb _ _)
 ·rw[Gl (.inr (.inr rfl)),Gl (.inr (.inr rfl)),Jc]
 ·obtain⟨a,b,c,e,rfl⟩:=By (by simpa [arity]using h2)
  rw[KJ]
  rw[if_pos rfl]at h4
  exact jaT (C7 h4 hm.oa hm.od).2.2.1 (Eb _ _) (Eb _ _)
def Fm(f g:Fct):Fct:=
 let m:=val f.abs*val g.abs
 let d:=val f.den*val g.den
 let s:=atomN (f.args.getD 0 0) (f.args.getD 1 0)
 let u:=atomN (g.args.getD 2 0) (g.args.getD 3 0)
 ⟨9,[s/40,s%40,u/40,u%40],sg (!decide (f.neg=g.neg)) m,limbs (m/Nat.gcd m d),limbs (d/Nat.gcd m d)⟩
def FM(f g:Fct):Bool:=decide (atomN (f.args.getD 2 0) (f.args.getD 3 0)=atomN (g.args.getD 0 0) (g.args.getD 1 0))
def FU(p q:Fct):List Fct:=(rdR p).flatMap fun a=>(rdR q).flatMap fun b=>if FM a b then [Fm a b] else []
theorem HH{p:Fct}(hp:p.Rt): ∀g∈rdR p,∀i,0≤g.args.getD i 0∧g.args.getD i 0<40:=by
 have hg:=KG hp;have key: ∀i,0≤[p.args.getD 2 0,p.args.getD 3 0,p.args.getD 0 0,p.args.getD 1 0].getD i 0∧[p.args.getD 2 0,p.args.getD 3 0,p.args.getD 0 0,p.args.getD 1 0].getD i 0<40:=fun i=>by
  match i with
  |0=>exact hg 2
  |1=>exact hg 3
  |2=>exact hg 0
  |3=>exact hg 1
  |i+4=>simp
 intro g h;unfold rdR at h;split at h
 ·simp only[jzn,AM,or_false]at h;rcases h with rfl|rfl
  ·exact hg
  ·exact key
 ·split at h
  ·rw[jzn]at h
   rcases h with rfl|h
   ·exact hg
   ·split at h
    ·cases h
    ·rw[List.mem_singleton]at h
     subst h;exact key
  ·cases h
theorem jbj{a b c d:Int}(ha:0≤a∧a<40)(hb:0≤b∧b<40)(hc:0≤c∧c<40)(hd:0≤d∧d<40):atomN a b=atomN c d↔Ah a b=Ah c d:=by
 obtain⟨⟨q1,q2⟩,q3,q4⟩:=E7 ha hb
 obtain⟨⟨q5,q6⟩,q7,q8⟩:=E7 hc hd
 rw[Fb,Fb,Prod.ext_iff]
 omega
theorem jfa{k:Int}(a b c d:Int){n:Bool}{m e:List Nat}(hk:k=2∨k=3∨k=4∨k=9):normF ⟨k,[b,a,c,d],n,m,e⟩=normF ⟨k,[a,b,c,d],n,m,e⟩:=
 (P9 b a c d hk).symm.trans (Pz a b c d hk)
theorem Xt{k:Int}(a b c d:Int){n:Bool}{m e:List Nat}(hk:k=2∨k=3∨k=4∨k=9):normF ⟨k,[(Ah a b).1,(Ah a b).2,(Ah c d).1,(Ah c d).2],n,m,e⟩=normF ⟨k,[a,b,c,d],n,m,e⟩:=by
 rcases ON a b with e1|e1<;>rcases ON c d with e2|e2<;>rw[e1,e2]
 ·exact Pz a b c d hk
 ·exact jfa a b c d hk
 ·exact P9 a b c d hk
theorem VB{f g:Fct}(hf: ∀i,0≤f.args.getD i 0∧f.args.getD i 0<40)(hg: ∀i,0≤g.args.getD i 0∧g.args.getD i 0<40):normF (Fm f g)=normF (Ek f g):=by
 obtain⟨⟨q1,q2⟩,q3,q4⟩:=E7 (hf 0) (hf 1)
 obtain⟨⟨q5,q6⟩,q7,q8⟩:=E7 (hg 2) (hg 3)
 unfold Fm Ek;simp only[Fb];have t1:((Ah (f.args.getD 0 0) (f.args.getD 1 0)).1*40+(Ah (f.args.getD 0 0) (f.args.getD 1 0)).2)/40=(Ah (f.args.getD 0 0) (f.args.getD 1 0)).1:=by omega
 have t2:((Ah (f.args.getD 0 0) (f.args.getD 1 0)).1*40+(Ah (f.args.getD 0 0) (f.args.getD 1 0)).2)%40=(Ah (f.args.getD 0 0) (f.args.getD 1 0)).2:=by omega
 have t3:((Ah (g.args.getD 2 0) (g.args.getD 3 0)).1*40+(Ah (g.args.getD 2 0) (g.args.getD 3 0)).2)/40=(Ah (g.args.getD 2 0) (g.args.getD 3 0)).1:=by omega
 have t4:((Ah (g.args.getD 2 0) (g.args.getD 3 0)).1*40+(Ah (g.args.getD 2 0) (g.args.getD 3 0)).2)%40=(Ah (g.args.getD 2 0) (g.args.getD 3 0)).2:=by omega
 rw[t1,t2,t3,t4]
 exact Xt _ _ _ _ (by omega)
theorem jhT{p q:Fct}(hp:p.Rt)(hq:q.Rt):(FU p q).map normF=(Es (rdR p) (rdR q) 0).map normF:=by
 unfold FU Es Fd;simp only[List.drop_zero];have key: ∀(A B:List Fct),(∀g∈A,∀i,0≤g.args.getD i 0∧g.args.getD i 0<40)→(∀g∈B,∀i,0≤g.args.getD i 0∧g.args.getD i 0<40)→
   (A.flatMap fun a=>B.flatMap fun b=>if FM a b then [Fm a b] else []).map normF=(A.flatMap fun f=>B.flatMap fun g=>if Fx f g then [Ek f g] else []).map normF:=by
  intro A B hA hB;rw[List.map_flatMap,List.map_flatMap];have ext: ∀{α β:Type} {f g:α→List β} {l:List α},(∀a∈l,f a=g a)→l.flatMap f=l.flatMap g:=by
   intro α β f g l h
   induction l with
   |nil=>rfl
   |cons a l ih=>rw[List.flatMap_cons,List.flatMap_cons,h a (by simp),ih fun b hb=>h b (by simp[hb])]
  refine ext fun a ha=> ?_
  rw[List.map_flatMap,List.map_flatMap]
  refine ext fun b hb=> ?_
  have e:FM a b=Fx a b:=by
   unfold FM Fx;exact decide_eq_decide.2 (jbj (hA a ha 2) (hA a ha 3) (hB b hb 0) (hB b hb 1))
  rw[e]
  split
  ·simp only[List.map_cons,List.map_nil,VB (hA a ha) (hB b hb)]
  ·rfl
 exact key _ _ (HH hp) (HH hq)
theorem jcJ{m d:Nat}(h:0<Nat.gcd m d):Nat.gcd (m/Nat.gcd m d) (d/Nat.gcd m d)=1:=by
 rw[Nat.gcd_div (Nat.gcd_dvd_left m d) (Nat.gcd_dvd_right m d),Nat.div_self h]
theorem Qv{f g:Fct}(hf:f.Rto)(hg:g.Rto)(af: ∀i,0≤f.args.getD i 0∧f.args.getD i 0<40)(ag: ∀i,0≤g.args.getD i 0∧g.args.getD i 0<40):AK (Ek f g)=true:=by
 have d0:val f.den*val g.den≠0:=Nat.mul_ne_zero hf.den hg.den;refine MK (by show arity 9≠0;decide) (by show 4=arity 9;rfl) (fun a ha=> ?_) ?_
 ·have:a=f.args.getD 0 0∨a=f.args.getD 1 0∨a=g.args.getD 2 0∨a=g.args.getD 3 0:=by simpa [Ek]using ha
  rcases this with rfl|rfl|rfl|rfl
  ·exact af 0
  ·exact af 1
  ·exact ag 2
  ·exact ag 3
 ·show(if (9:Int)=9 then BR _ _ _=true else _)
  rw[if_pos rfl]
  show BR (sg (!decide (f.neg=g.neg)) (val f.abs*val g.abs)) (limbs (val f.abs*val g.abs/Nat.gcd (val f.abs*val g.abs) (val f.den*val g.den))) (limbs (val f.den*val g.den/Nat.gcd (val f.abs*val g.abs) (val f.den*val g.den)))=true
  generalize val f.abs*val g.abs=m at*;generalize val f.den*val g.den=d at*;have gp:0<Nat.gcd m d:=Nat.gcd_pos_of_pos_right m (by omega)
  refine VY ?_ (jcJ gp) fun hs=> ?_
  ·have:=Nat.div_pos (Nat.le_of_dvd (by omega) (Nat.gcd_dvd_right m d)) gp
   omega
  ·unfold sg at hs;simp only[Ax,decide_eq_true_eq]at hs;have:=Nat.div_pos (Nat.le_of_dvd hs.2 (Nat.gcd_dvd_left m d)) gp;omega
theorem L9{a b:Int}{q:Fct}(hq:q.Rt)(hb:0≤b∧b<40):AK (A8 a b q)=true:=by
 obtain⟨h1,h2,h3,h4⟩:=hq.parts
 refine MK h1 (by show(Ck a b q.args).length=_;rw[GO];exact h2) (fun x hx=> ?_) h4
 have hx:x∈Ck a b q.args:=hx;unfold Ck at hx;obtain⟨y,hy,rfl⟩:=jzk.1 hx;split
 ·exact hb
 ·exact h3 y hy
def Fa(n:Int)(nl:List Fct):List AR:=
 if n=4 then (match nl with|[p,q]=>(FU p q).map fun f=>(f,[])|_=>[])
 else if n=9 then (Cw nl).map fun f=>(f,[])
 else BC (refN n.toNat) nl nl.length 0 Nmz.zero
def allR(n:Int)(ps:List Fct):List Fnd:=
 if n<1∨28<n∨(ps.length:Int)≠(refN n.toNat).frm.length then [] else
 if ps.any (fun f=> !AK f) then [] else AE (ps.map normF) [] (Fa n (ps.map normF))
theorem GL{f:Fct}(hm:f.Mild):(normF f).kind=0↔AK f=false:=by
 constructor
 ·intro h;cases h2:AK f with
  |false=>rfl
  |true=>
   have:normF f=normG f:=by unfold normF;rw[if_pos h2]
   rw[this]at h
   exact absurd (by rw[h];rfl) (HW ⟨h2,hm⟩).parts.1
 ·intro h;unfold normF;rw[if_neg (by simp[h])]
  rfl
theorem V4{ps:List Fct}(hps: ∀f∈ps,f.Mild):(ps.map normF).any (fun f=>decide (f.kind=0))=ps.any fun f=> !AK f:=by
 induction ps with
 |nil=>rfl
 |cons f ps ih=>
  rw[List.map_cons,List.any_cons,List.any_cons,ih fun g hg=>hps g (by simp[hg])]
  congr 1
  have:=GL (hps f (by simp))
  cases h:AK f with
  |false=>simp[this.2 h]
  |true=>simp[this,h]
theorem Pt(n:Int):(rulT n).name=[]↔n<1∨28<n:=by
 show(AJ n.toNat).name=[]↔_
 by_cases h1:n<1
 ·rw[show n.toNat=0 by omega]
  exact⟨fun _=> .inl h1,fun _=>rfl⟩
 by_cases h2:28<n
 ·rw[IK _ (by omega)]
  exact⟨fun _=> .inr h2,fun _=>rfl⟩
 ·have h:=(RX ⟨n.toNat,by omega⟩).2 (by
   intro e;have:=congrArg Fin.val e;simp at this;omega)
  exact⟨fun e=>absurd e h.1,fun e=>by omega⟩
theorem Uz{n:Int}(h1: ¬n<1)(h2: ¬28<n):(rulT n).count=((refN n.toNat).frm.length:Int):=by
 have h:=(RX ⟨n.toNat,by omega⟩).2 (by
  intro e;have:=congrArg Fin.val e;simp at this;omega)
 exact h.2
theorem IC(n:Int)(ps:List Fct)(hps: ∀f∈ps,f.Mild)(hs: ∀f∈ps,f.Short2):Dp n ps=allR n ps:=by
 by_cases h0:n<1∨28<n∨(ps.length:Int)≠(refN n.toNat).frm.length
 ·have e:allR n ps=[]:=by unfold allR;rw[if_pos h0]
  have hc:(rulT n).name=[]∨(ps.length:Int)≠(rulT n).count:=by
   by_cases h1:n<1∨28<n
   ·exact .inl ((Pt n).2 h1)
   ·refine .inr ?_;rw[Uz (by omega) (by omega)]
    omega
  rw[e]
  unfold Dp;split
  ·rename_i h4;subst h4;unfold Cl;rw[if_pos hc]
  split
  ·rename_i h9;subst h9;unfold Cl;rw[if_pos hc]
  ·unfold CG;rw[if_pos hc]
 have hc: ¬((rulT n).name=[]∨(ps.length:Int)≠(rulT n).count):=by
  rintro (h|h)
  ·have:=(Pt n).1 h;omega
  ·rw[Uz (by omega) (by omega)]at h;omega
 by_cases hz:ps.any (fun f=> !AK f)=true
 ·have e:allR n ps=[]:=by unfold allR;rw[if_neg h0,if_pos hz]
  rw[e]
  have hz':=(V4 hps).trans hz;unfold Dp;split
  ·rename_i h4;subst h4;unfold Cl;rw[if_neg hc,if_pos hz']
  split
  ·rename_i h9;subst h9;unfold Cl;rw[if_neg hc,if_pos hz']
  ·unfold CG;rw[if_neg hc,if_pos hz']
 have hz': ¬(ps.map normF).any (fun f=>decide (f.kind=0))=true:=by rw[V4 hps];exact hz
 have e:allR n ps=AE (ps.map normF) [] (Fa n (ps.map normF)):=by unfold allR;rw[if_neg h0,if_neg hz]
 rw[e]
 have hk: ∀f∈ps,(normF f).kind≠0:=fun g hg hk=>hz' (List.any_eq_true.2 ⟨_,jzk.2 ⟨g,hg,rfl⟩,by simpa using hk⟩)
 have hrt: ∀f∈ps.map normF,f.Rt:=fun f hf=>by
  obtain⟨g,hg,rfl⟩:=jzk.1 hf
  exact Ca (hps g hg) (hk g hg)
 have okRt: ∀{f:Fct},f.Mild→AK f=true→(normF f).Rt:=fun {f} hm ho=>Ca hm fun h=>by rw[(GL hm).1 h]at ho;cases ho
 unfold Dp Fa;by_cases h4:n=4
 ·rw[if_pos h4,if_pos h4]
  subst h4;unfold Cl;rw[if_neg hc,if_neg hz'];have h2:ps.length=2:=by have:(refN (4:Int).toNat).frm.length=2:=rfl;omega
  obtain⟨p,q,rfl⟩: ∃p q,ps=[p,q]:=by
   match ps,h2 with
   |[p,q],_=>exact⟨p,q,rfl⟩
  have hm:=(NF hps hs p q rfl hk).1;simp only[List.map_cons,List.map_nil]at hm hrt ⊢;have hp:=hrt (normF p) (by simp)
  have hq:=hrt (normF q) (by simp)
  have se:=jhT hp hq;have hs1:=GY (hps p (by simp)) (hs p (by simp))
  have hs2:=GY (hps q (by simp)) (hs q (by simp))
  have okA: ∀f∈Es (rdR (normF p)) (rdR (normF q)) 0,AK f=true:=by
   intro f hf;unfold Es Fd at hf;simp only[List.drop_zero,List.mem_flatMap]at hf;obtain⟨a,ha,b,hb,hf⟩:=hf;split at hf
   ·rw[List.mem_singleton]at hf
    subst hf;exact Qv ((FA _ hp).2.1 a ha) ((FA _ hq).2.1 b hb) (HH hp a ha) (HH hq b hb)
   ·cases hf
  refine OE (fun x hx=> ?_) (fun x hx=> ?_) fun f g=> ?_
  ·obtain⟨f,hf,rfl⟩:=jzk.1 hx
   exact⟨hm f hf,by simp,by simp⟩
  ·obtain⟨f,hf,rfl⟩:=jzk.1 hx
   refine⟨?_,by simp,by simp⟩
   have:normF f∈(FU (normF p) (normF q)).map normF:=jzk.2 ⟨f,hf,rfl⟩
   rw[se]at this
   obtain⟨f',hf',e⟩:=jzk.1 this
   rw[←e]
   exact okRt (hm f' hf') (okA f' hf')
  ·have key: ∀(A B:List Fct),A.map normF=B.map normF→(∃x∈A.map (fun f=>((f,[]):AR)),normF x.1=f∧x.2=g)→ ∃x∈B.map (fun f=>((f,[]):AR)),normF x.1=f∧x.2=g:=by
    rintro A B hAB ⟨x,hx,rfl,rfl⟩
    obtain⟨y,hy,rfl⟩:=jzk.1 hx
    have:normF y∈A.map normF:=jzk.2 ⟨y,hy,rfl⟩
    rw[hAB]at this
    obtain⟨z,hz,e⟩:=jzk.1 this
    exact⟨(z,[]),jzk.2 ⟨z,hz,rfl⟩,e,rfl⟩
   exact⟨key _ _ se.symm,key _ _ se⟩
 rw[if_neg h4,if_neg h4]
 by_cases h9:n=9
 ·rw[if_pos h9,if_pos h9]
  subst h9;unfold Cl;rw[if_neg hc,if_neg hz'];have h2:ps.length=2:=by have:(refN (9:Int).toNat).frm.length=2:=rfl;omega
  obtain⟨p,q,rfl⟩: ∃p q,ps=[p,q]:=by
   match ps,h2 with
   |[p,q],_=>exact⟨p,q,rfl⟩
  have hm:=(MB hps p q rfl hk).1;simp only[List.map_cons,List.map_nil]at hm hrt ⊢;have hp:=hrt (normF p) (by simp)
  have hq:=hrt (normF q) (by simp)
  have okA: ∀f∈Cw [normF p,normF q],AK f=true:=by
   have h3:=hp.parts.2.2.1;generalize normF p=p' at*;generalize normF q=q' at*;unfold Cw;simp only;split
   ·split
    ·rename_i a b ha
     intro f hf;rw[ha]at h3;simp only[jzn,AM,or_false]at hf h3;rcases hf with rfl|rfl
     ·exact L9 hq (h3 b (.inr rfl))
     ·exact L9 hq (h3 a (.inl rfl))
    ·simp
   ·simp
  refine OE (fun x hx=> ?_) (fun x hx=> ?_) fun f g=>Iff.rfl
  ·obtain⟨f,hf,rfl⟩:=jzk.1 hx
   exact⟨hm f hf,by simp,by simp⟩
  ·obtain⟨f,hf,rfl⟩:=jzk.1 hx
   exact⟨okRt (hm f hf) (okA f hf),by simp,by simp⟩
 ·rw[if_neg h9,if_neg h9]
  unfold CG;rw[if_neg hc,if_neg hz'];obtain⟨t1,t2⟩:=Li n.toNat (by omega) (by omega)
  have hlen:(ps.map normF).length=(AJ n.toNat).prem.length:=by
   rw[List.length_map]
   have e1:(refN n.toNat).frm.length=(AJ n.toNat).prem.length:=by rw[t2];unfold C9;simp
   omega
  have hgood:=Ih n;have st:saysP (rulT n) (ps.map normF)=saysP (AJ n.toNat) (ps.map normF):=rfl;obtain⟨s1,s2⟩:=Vp (sg:=GP n.toNat) (r:=AJ n.toNat) (HL _) t1 hrt hlen;have hP:=Jw (rulT n) hgood _ hrt;rw[st]at hP;unfold Gn;rw[st,t2];refine OE hP (fun x hx=> ?_) fun f g=> ?_
  ·have hx':=(s1 x).2 hx;have:=hP x hx';exact⟨okRt this.1 (s2 x hx'),this.2⟩
  ·exact⟨fun⟨x,hx,h⟩=>⟨x,(s1 x).1 hx,h⟩,fun⟨x,hx,h⟩=>⟨x,(s1 x).2 hx,h⟩⟩
def BZ(L:List Fnd)(f:Fct):List Grd×Bool:=match L.find? (fun x=>FN x.fact f)with|some x=>(x.grds,true)|none=>([],false)
theorem PO{nl:List Fct}{P:List AR}(hP: ∀x∈P,FY x): ∀x∈CU DH (runF nl [] P),normF x.fact=x.fact:=by
 intro x hx;have hx:=(DV _).mem_iff.1 hx;obtain⟨⟨y,hy,e,_⟩,hn⟩:=(PC hP).sub x hx;have hm:=(hP y hy).1;have hk:(normF y.1).kind≠0:=fun h=>hn (.inl (by rw[←e];exact h))
 have ho:AK y.1=true:=by
  cases h:AK y.1 with
  |false=>exact absurd ((GL hm).2 h) hk
  |true=>rfl
 rw[←e]
 exact Xu ⟨ho,hm⟩
theorem Ua(Y:List Fct→List Fct)(n:Int)(ps:List Fct)(hc:(rulT n).count=2)
  (hY: ∀p q,ps=[p,q]→(∀f∈ps,(normF f).kind≠0)→ ∀f∈Y (ps.map normF),f.Mild): ∀x∈Cl Y n ps,normF x.fact=x.fact:=by
 unfold Cl;split
 ·simp
 split
 ·simp
 ·rename_i h0 hz
  have hk: ∀f∈ps,(normF f).kind≠0:=fun g hg hk=>hz (List.any_eq_true.2 ⟨_,jzk.2 ⟨g,hg,rfl⟩,by simpa using hk⟩)
  have h2:ps.length=2:=by
   have: ¬(ps.length:Int)≠(rulT n).count:=fun h=>h0 (.inr h)
   omega
  obtain⟨p,q,hpq⟩: ∃p q,ps=[p,q]:=by
   match ps,h2 with
   |[p,q],_=>exact⟨p,q,rfl⟩
  have y1:=hY p q hpq hk;refine PO fun x hx=> ?_
  obtain⟨f,hf,rfl⟩:=jzk.1 hx
  exact⟨y1 f hf,by simp,by simp⟩
theorem jbz{n:Int}{ps:List Fct}(hps: ∀f∈ps,f.Mild)(hs: ∀f∈ps,f.Short2): ∀x∈allR n ps,normF x.fact=x.fact:=by
 rw[←IC n ps hps hs]
 unfold Dp;split
 ·exact Ua _ _ _ rfl fun p q e hk=>(NF hps hs p q e hk).1
 split
 ·exact Ua _ _ _ rfl fun p q e hk=>(MB hps p q e hk).1
 ·unfold CG;split
  ·simp
  split
  ·simp
  ·rename_i hz
   have hk: ∀f∈ps,(normF f).kind≠0:=fun g hg hk=>hz (List.any_eq_true.2 ⟨_,jzk.2 ⟨g,hg,rfl⟩,by simpa using hk⟩)
   exact PO (Jw (rulT n) (Ih n) _ fun f hf=>by
    obtain⟨g,hg,rfl⟩:=jzk.1 hf
    exact Ca (hps g hg) (hk g hg))
theorem Z6{n:Int}{ps:List Fct}(hps: ∀f∈ps,f.Mild)(hs: ∀f∈ps,f.Short2){f:Fct}(hf:f.Mild):(if (normF f).kind=0 then (([],false):List Grd×Bool) else Ej (Dp n ps) (normF f))=BZ (allR n ps) f:=by
 have hid:=jbz (n:=n) hps hs;have hok:=(Ge n ps hps hs).1;rw[IC n ps hps hs]at hok ⊢;generalize allR n ps=L at*;by_cases h:AK f=true
 ·have hk: ¬(normF f).kind=0:=fun h2=>by rw[(GL hf).1 h2]at h;cases h
  have e1:normF f=normG f:=by unfold normF;rw[if_pos h]
  rw[if_neg hk]
  unfold Ej BZ;have e:L.find? (fun x=>decide (Aw x.fact (normF f)=0))=L.find? (fun x=>FN x.fact f):=by
   have rt:=hok.rt;clear hok
   induction L with
   |nil=>rfl
   |cons x L ih=>
    have hx:=rt x (by simp)
    have e2:normG x.fact=x.fact:=by
     have:=hid x (by simp)
     unfold normF at this
     rwa [if_pos hx.ok]at this
    have e3:FN x.fact f=decide (Aw x.fact (normF f)=0):=by
     unfold FN;rw[hx.ok,h,e1,e2];simp
    rw[List.find?_cons,List.find?_cons,e3,ih (fun y hy=>hid y (by simp[hy])) fun y hy=>rt y (by simp[hy])]
  rw[e]
  rfl
 ·have h:AK f=false:=by simpa using h
  rw[if_pos ((GL hf).2 h)]
  unfold BZ;have e:L.find? (fun x=>FN x.fact f)=none:=by
   rw[List.find?_eq_none]
   intro x _;unfold FN;simp[h]
  rw[e]
end Go.Va
