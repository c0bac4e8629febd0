/- a part of the proof -/
import Derived.Test.YtkfdniccmcolgaaGreatQbj
import Derived.Test.YtkfdniccmcolgaaGreatQaz
set_option linter.all false
set_option maxHeartbeats 4000000
set_option maxRecDepth 10000
namespace Go.Va
open Go.Proofs
def Be(f:Fct):Rat:=mkRat (toZ f.neg (val f.abs)) (val f.den)
theorem YO(p q:Int×Int)(hp:p.1≤p.2)(hq:q.1≤q.2):AW [p.1,p.2,q.1,q.2]=[p,q]:=by
 show[Ah p.1 p.2,Ah q.1 q.2]=_
 rw[Bf hp,Bf hq]
theorem BC(a b:Int):(Ah a b).1≤(Ah a b).2:=IH a b
theorem Ey{W:Int→Pq}{k:Int}{r:Rat}(hk:k=2∨k=3∨k=4∨k=9){p q:Int×Int}(hp:p.1≤p.2)(hq:q.1≤q.2):AB W k r [p.1,p.2,q.1,q.2]↔Bg W k r [p,q]:=by
 rw[Cm hk,YO p q hp hq]
theorem FE{W:Int→Pq}{k:Int}{r r':Rat}(hk:k=2∨k=3∨k=4){p q:Int×Int}(hp:p.1≤p.2)(hq:q.1≤q.2)(h:Bg W k r [p,q]):AB W (B6 k p q).kind r' (B6 k p q).args:=by
 have h1:AB W k r [p.1,p.2,q.1,q.2]:=(Ey (by omega) hp hq).2 h
 have h2:AB W k r [q.1,q.2,p.1,p.2]:=(Ey (by omega) hq hp).2 (Kk hk h)
 have ha:arity k≠0:=by rcases hk with rfl|rfl|rfl<;>decide
 unfold B6;split
 ·show AB W k r' _
  exact Eg ha (by omega) h2
 ·show AB W k r' _
  exact Eg ha (by omega) h1
theorem Ct(l:List Int):(BE l).Perm l:=List.mergeSort_perm _ _
theorem XM{W:Int→Pq}{r r':Rat}{p q:Int×Int}(hp:p.1≤p.2)(hq:q.1≤q.2)(h:Bg W 2 r [p,q]):AB W (DX p q).kind r' (DX p q).args:=by
 have h0:=h;rw[Bg,if_pos rfl]at h;unfold dv vec Pq.cross at h;simp only at h;unfold DX;split
 ·rename_i h1
  refine E2 (Ct _).symm rfl ?_;rw[ES];have e1:Dg p.1 p.2 p.1=p.2:=by unfold Dg;omega
  rw[e1]
  unfold vec Pq.cross;simp only;rcases h1 with h1|h1
  ·have e2:Dg q.1 q.2 p.1=q.2:=by unfold Dg;omega
   rw[e2,←h1]
   rw[←h1]at h
   exact h
  ·have e2:Dg q.1 q.2 p.1=q.1:=by unfold Dg;omega
   rw[e2,←h1]
   rw[←h1]at h
   grind
 split
 ·rename_i h1
  refine E2 (Ct _).symm rfl ?_;rw[ES];have e1:Dg p.1 p.2 p.2=p.1:=by unfold Dg;omega
  rw[e1]
  unfold vec Pq.cross;simp only;rcases h1 with h1|h1
  ·have e2:Dg q.1 q.2 p.2=q.2:=by unfold Dg;omega
   rw[e2,←h1]
   rw[←h1]at h
   grind
  ·have e2:Dg q.1 q.2 p.2=q.1:=by unfold Dg;omega
   rw[e2,←h1]
   rw[←h1]at h
   grind
 ·exact FE (.inl rfl) hp hq h0
theorem Xq{W:Int→Pq}{r r':Rat}{u v w z:Int×Int}(hu:u.1≤u.2)(hv:v.1≤v.2)(hw:w.1≤w.2)(hz:z.1≤z.2)(h:Bg W 7 r [u,v,w,z]):AB W (Ci u v w z).kind r' (Ci u v w z).args:=by
 have hr:=Ke h;have key: ∀a b c d:Int×Int,(a.1≤a.2)→(b.1≤b.2)→(c.1≤c.2)→(d.1≤d.2)→Bg W 7 r [a,b,c,d]→AB W 7 r' [a.1,a.2,b.1,b.2,c.1,c.2,d.1,d.2]:=by
  intro a b c d ha hb hc hd h;refine Eg (r:=r) (by decide) (by decide) ?_
  rw[E0]
  show Bg W 7 r [Ah a.1 a.2,Ah b.1 b.2,Ah c.1 c.2,Ah d.1 d.2]
  rw[Bf ha,Bf hb,Bf hc,Bf hd]
  exact h
 have hs: ∀s t:Int×Int,srt2 s t=(s,t)∨srt2 s t=(t,s):=fun s t=>by unfold srt2;split<;>simp
 unfold Ci;rcases hs v w with e1|e1<;>rcases hs u z with e2|e2<;>rw[e1,e2]<;>simp only<;>split<;>refine key _ _ _ _ (by assumption) (by assumption) (by assumption) (by assumption) (hr _ (by simp))
theorem vanS9{W:Int→Pq}{r:Rat}{p q:Int×Int}:Bg W 9 r [p,q]↔(dv W p).dot (dv W p)=r*(dv W q).dot (dv W q):=by
 rw[Bg,if_neg (by decide),if_neg (by decide),if_neg (by decide)]
theorem F1{m:Nat}(h:m≠0):(m:Rat)≠0:=fun e=>h (by exact_mod_cast e)
theorem JP{neg:Bool}{m e:Nat}(hm:m≠0)(he:e≠0):mkRat (toZ neg m) e*mkRat (toZ neg e) m=1:=by
 rw[Rat.mkRat_eq_div,Rat.mkRat_eq_div]
 have h1:=F1 hm;have h2:=F1 he;unfold toZ;cases neg
 ·simp only[Bool.false_eq_true,if_false,Rat.intCast_natCast]
  grind
 ·simp only[if_true,Rat.intCast_neg,Rat.intCast_natCast]
  grind
theorem Ko{e:Nat}(he:e≠0):mkRat (e:Int) e=1:=by
 rw[Rat.mkRat_eq_div]
 have h2:=F1 he;simp only[Rat.intCast_natCast]
 grind
theorem VB{W:Int→Pq}{neg:Bool}{m e:Nat}(he:e≠0)(hvm:val (limbs m)=m)(hve:val (limbs e)=e){p q:Int×Int}(hp:p.1≤p.2)(hq:q.1≤q.2)(h:Bg W 9 (mkRat (toZ neg m) e) [p,q]):
  AB W (Cr neg m e p q).kind (Be (Cr neg m e p q)) (Cr neg m e p q).args:=by
 rw[vanS9]at h
 unfold Cr;split
 ·rename_i h1
  refine FE (r:=0) (.inr (.inr rfl)) hp hq ?_;rw[Bg,if_neg (by decide),if_neg (by decide),if_pos rfl,h,h1,Ko he]
 have hinv:m≠0→(dv W q).dot (dv W q)=mkRat (toZ neg e) m*(dv W p).dot (dv W p):=fun hm=>by
  have:=JP (neg:=neg) hm he
  rw[h]
  grind
 split
 ·rename_i h1 h2
  unfold Be;simp only[hvm,hve];refine(Ey (.inr (.inr (.inr rfl))) hq hp).2 ?_;exact vanS9.2 (hinv h2.1)
 split
 ·rename_i h1 h2 h3
  unfold Be;simp only[hvm,hve];refine(Ey (.inr (.inr (.inr rfl))) hp hq).2 ?_;obtain⟨h4,rfl,-⟩:=h3;exact vanS9.2 (hinv h4)
 ·unfold Be;simp only[hvm,hve];refine(Ey (.inr (.inr (.inr rfl))) hp hq).2 ?_;exact vanS9.2 h
theorem Ib{W:Int→Pq}{f:Fct}(h1:arity f.kind≠0)(h2:f.args.length=arity f.kind)(h4:if f.kind=9 then BR f.neg f.abs f.den=true else f.neg=false∧f.abs=[]∧f.den=[])
  (hd:f.kind=9→val f.den≠0) (hlv: ∀n,val (limbs n)=n) (hv:AB W f.kind (Be f) f.args):AB W (normG f).kind (Be (normG f)) (normG f).args:=by
 obtain⟨k,l,n,m,d⟩:=f
 simp only at*;have hirr: ∀{k l r r'},k=1∨k=6∨k=8→AB W k r l→AB W k r' l:=fun hk h=>by rcases hk with rfl|rfl|rfl<;>exact h
 have hs: ∀{k:Int} {l:List Int} {n:Bool} {m e:List Nat},k=1∨k=6∨k=8→normG ⟨k,l,n,m,e⟩=⟨k,BE l,false,[],[]⟩:=fun hk=>by
  unfold normG;rcases hk with rfl|rfl|rfl<;>simp
 rcases EI h1 with rfl|rfl|rfl|rfl|rfl|rfl|rfl|rfl|rfl
 ·rw[hs (.inl rfl)]
  exact E2 (Ct l).symm h2 (hirr (.inl rfl) hv)
 ·rcases l with _|⟨a,_|⟨b,_|⟨c,_|⟨e,_|⟨v,l⟩⟩⟩⟩⟩<;>simp[arity]at h2
  have hv:=(Cm (.inl rfl) a b c e).1 hv;have:normG ⟨2,[a,b,c,e],n,m,d⟩=DX (Ah a b) (Ah c e):=by unfold normG;simp
  rw[this]
  exact XM (BC _ _) (BC _ _) hv
 ·rcases l with _|⟨a,_|⟨b,_|⟨c,_|⟨e,_|⟨v,l⟩⟩⟩⟩⟩<;>simp[arity]at h2
  have hv:=(Cm (.inr (.inl rfl)) a b c e).1 hv;have:normG ⟨3,[a,b,c,e],n,m,d⟩=B6 3 (Ah a b) (Ah c e):=by unfold normG;simp
  rw[this]
  exact FE (.inr (.inl rfl)) (BC _ _) (BC _ _) hv
 ·rcases l with _|⟨a,_|⟨b,_|⟨c,_|⟨e,_|⟨v,l⟩⟩⟩⟩⟩<;>simp[arity]at h2
  have hv:=(Cm (.inr (.inr (.inl rfl))) a b c e).1 hv;have:normG ⟨4,[a,b,c,e],n,m,d⟩=B6 4 (Ah a b) (Ah c e):=by unfold normG;simp
  rw[this]
  exact FE (.inr (.inr rfl)) (BC _ _) (BC _ _) hv
 ·rcases l with _|⟨a,_|⟨b,_|⟨c,_|⟨v,l⟩⟩⟩⟩<;>simp[arity]at h2
  have:normG ⟨5,[a,b,c],n,m,d⟩=⟨5,[a,(Ah b c).1,(Ah b c).2],false,[],[]⟩:=by unfold normG Ah;simp
  rw[this]
  simp only;rw[Hv]at*;unfold Ah lo hi;simp only;by_cases h:c<b
  ·rw[if_pos h,if_neg (by omega)]
   exact⟨by grind,by grind⟩
  ·rw[if_neg h]
   split
   ·exact hv
   ·have:b=c:=by omega
    subst this;exact hv
 ·rw[hs (.inr (.inl rfl))]
  exact Hw (Ct l).symm h2 (hirr (.inr (.inl rfl)) hv)
 ·rcases l with _|⟨a,_|⟨b,_|⟨c,_|⟨e,_|⟨a',_|⟨b',_|⟨c',_|⟨e',_|⟨v,l⟩⟩⟩⟩⟩⟩⟩⟩⟩<;>simp[arity]at h2
  have hv:=(E0 a b c e a' b' c' e').1 hv;have:normG ⟨7,[a,b,c,e,a',b',c',e'],n,m,d⟩=Ci (Ah a b) (Ah c e) (Ah a' b') (Ah c' e'):=by unfold normG;simp
  rw[this]
  exact Xq (BC _ _) (BC _ _) (BC _ _) (BC _ _) hv
 ·rw[hs (.inr (.inr rfl))]
  exact Kn (Ct l).symm h2 (hirr (.inr (.inr rfl)) hv)
 ·rcases l with _|⟨a,_|⟨b,_|⟨c,_|⟨e,_|⟨v,l⟩⟩⟩⟩⟩<;>simp[arity]at h2
  have hv:=(Cm (.inr (.inr (.inr rfl))) a b c e).1 hv;have:normG ⟨9,[a,b,c,e],n,m,d⟩=Cr n (val m) (val d) (Ah a b) (Ah c e):=by unfold normG;simp
  rw[this]
  exact VB (hd rfl) (hlv _) (hlv _) (BC _ _) (BC _ _) hv
theorem U4(a b:Int):((Ah a b).1=a∨(Ah a b).1=b)∧((Ah a b).2=a∨(Ah a b).2=b):=by
 unfold Ah lo hi;split<;>split<;>simp<;>omega
theorem IC{p1 p2 x:Int}(h:p1=x∨p2=x):Dg p1 p2 x=p1∨Dg p1 p2 x=p2:=by unfold Dg;omega
theorem Ft{P:Int→Prop}{k:Int}{p q:Int×Int}(h:(P p.1∧P p.2)∧P q.1∧P q.2): ∀a∈(B6 k p q).args,P a:=by
 unfold B6;split<;>simp only[jzn,AM,or_false,forall_eq_or_imp,forall_eq]
 ·exact⟨h.2.1,h.2.2,h.1.1,h.1.2⟩
 ·exact⟨h.1.1,h.1.2,h.2.1,h.2.2⟩
theorem TH{P:Int→Prop}{p q:Int×Int}(h:(P p.1∧P p.2)∧P q.1∧P q.2): ∀a∈(DX p q).args,P a:=by
 have ho: ∀{x},p.1=x∨p.2=x→P (Dg p.1 p.2 x):=fun e=>(IC e).elim (fun e=>by rw[e];exact h.1.1) (fun e=>by rw[e];exact h.1.2)
 have ho2: ∀{x},q.1=x∨q.2=x→P (Dg q.1 q.2 x):=fun e=>(IC e).elim (fun e=>by rw[e];exact h.2.1) (fun e=>by rw[e];exact h.2.2)
 unfold DX;split
 ·rename_i e
  intro a ha;rw[(Ct _).mem_iff]at ha;simp only[jzn,AM,or_false]at ha;rcases ha with rfl|rfl|rfl
  ·exact h.1.1
  ·exact ho (.inl rfl)
  ·exact ho2 e
 split
 ·rename_i e
  intro a ha;rw[(Ct _).mem_iff]at ha;simp only[jzn,AM,or_false]at ha;rcases ha with rfl|rfl|rfl
  ·exact h.1.2
  ·exact ho (.inr rfl)
  ·exact ho2 e
 ·exact Ft h
theorem Kp{P:Int→Prop}{f:Fct}(h1:arity f.kind≠0)(h2:f.args.length=arity f.kind)(h: ∀a∈f.args,P a): ∀a∈(normG f).args,P a:=by
 obtain⟨k,l,n,m,d⟩:=f
 simp only at*;have hs: ∀{k:Int} {l:List Int} {n:Bool} {m e:List Nat},k=1∨k=6∨k=8→(∀a∈l,P a)→ ∀a∈(normG ⟨k,l,n,m,e⟩).args,P a:=fun {k l n m e} hk h=>by
  have:normG ⟨k,l,n,m,e⟩=⟨k,BE l,false,[],[]⟩:=by
   unfold normG;rcases hk with rfl|rfl|rfl<;>simp
  rw[this]
  exact fun a ha=>h a ((Ct l).mem_iff.1 ha)
 have ht: ∀{a b:Int},P a→P b→P (Ah a b).1∧P (Ah a b).2:=fun {a b} ha hb=>by
  have:=U4 a b
  constructor
  ·rcases this.1 with e|e<;>rw[e]<;>assumption
  ·rcases this.2 with e|e<;>rw[e]<;>assumption
 rcases EI h1 with rfl|rfl|rfl|rfl|rfl|rfl|rfl|rfl|rfl
 ·exact hs (.inl rfl) h
 ·rcases l with _|⟨a,_|⟨b,_|⟨c,_|⟨e,_|⟨v,l⟩⟩⟩⟩⟩<;>simp[arity]at h2
  have:normG ⟨2,[a,b,c,e],n,m,d⟩=DX (Ah a b) (Ah c e):=by unfold normG;simp
  rw[this]
  exact TH ⟨ht (h a (by simp)) (h b (by simp)),ht (h c (by simp)) (h e (by simp))⟩
 ·rcases l with _|⟨a,_|⟨b,_|⟨c,_|⟨e,_|⟨v,l⟩⟩⟩⟩⟩<;>simp[arity]at h2
  have:normG ⟨3,[a,b,c,e],n,m,d⟩=B6 3 (Ah a b) (Ah c e):=by unfold normG;simp
  rw[this]
  exact Ft ⟨ht (h a (by simp)) (h b (by simp)),ht (h c (by simp)) (h e (by simp))⟩
 ·rcases l with _|⟨a,_|⟨b,_|⟨c,_|⟨e,_|⟨v,l⟩⟩⟩⟩⟩<;>simp[arity]at h2
  have:normG ⟨4,[a,b,c,e],n,m,d⟩=B6 4 (Ah a b) (Ah c e):=by unfold normG;simp
  rw[this]
  exact Ft ⟨ht (h a (by simp)) (h b (by simp)),ht (h c (by simp)) (h e (by simp))⟩
 ·rcases l with _|⟨a,_|⟨b,_|⟨c,_|⟨v,l⟩⟩⟩⟩<;>simp[arity]at h2
  have:normG ⟨5,[a,b,c],n,m,d⟩=⟨5,[a,(Ah b c).1,(Ah b c).2],false,[],[]⟩:=by unfold normG Ah;simp
  rw[this]
  simp only[jzn,AM,or_false,forall_eq_or_imp,forall_eq];exact⟨h a (by simp),(ht (h b (by simp)) (h c (by simp))).1,(ht (h b (by simp)) (h c (by simp))).2⟩
 ·exact hs (.inr (.inl rfl)) h
 ·rcases l with _|⟨a,_|⟨b,_|⟨c,_|⟨e,_|⟨a',_|⟨b',_|⟨c',_|⟨e',_|⟨v,l⟩⟩⟩⟩⟩⟩⟩⟩⟩<;>simp[arity]at h2
  have:normG ⟨7,[a,b,c,e,a',b',c',e'],n,m,d⟩=Ci (Ah a b) (Ah c e) (Ah a' b') (Ah c' e'):=by unfold normG;simp
  rw[this]
  have p1:=ht (h a (by simp)) (h b (by simp))
  have p2:=ht (h c (by simp)) (h e (by simp))
  have p3:=ht (h a' (by simp)) (h b' (by simp))
  have p4:=ht (h c' (by simp)) (h e' (by simp))
  have hs: ∀s t:Int×Int,srt2 s t=(s,t)∨srt2 s t=(t,s):=fun s t=>by unfold srt2;split<;>simp
  generalize Ah a b=u at*;generalize Ah c e=v at*;generalize Ah a' b'=w at*;generalize Ah c' e'=z at*;unfold Ci;rcases hs v w with e1|e1<;>rcases hs u z with e2|e2<;>rw[e1,e2]<;>split<;>simp only[jzn,AM,or_false,forall_eq_or_imp,forall_eq,p1,p2,p3,p4,and_self]
 ·exact hs (.inr (.inr rfl)) h
 ·rcases l with _|⟨a,_|⟨b,_|⟨c,_|⟨e,_|⟨v,l⟩⟩⟩⟩⟩<;>simp[arity]at h2
  have:normG ⟨9,[a,b,c,e],n,m,d⟩=Cr n (val m) (val d) (Ah a b) (Ah c e):=by unfold normG;simp
  rw[this]
  have p1:=ht (h a (by simp)) (h b (by simp))
  have p2:=ht (h c (by simp)) (h e (by simp))
  unfold Cr;split
  ·exact Ft ⟨p1,p2⟩
  split
  ·simp only[jzn,AM,or_false,forall_eq_or_imp,forall_eq,p1,p2,and_self]
  split
  ·simp only[jzn,AM,or_false,forall_eq_or_imp,forall_eq,p1,p2,and_self]
  ·simp only[jzn,AM,or_false,forall_eq_or_imp,forall_eq,p1,p2,and_self]
end Go.Va
namespace Go.Va
open Int (natCast_add natCast_mul natCast_emod natCast_ediv natCast_pow)
open Go.Proofs
def BQ(l:List Fnd):D:= .slice l.length (l.flatMap Fnd.ds)
@[simp]theorem jiq(l:List Fnd):lenC (.d (BQ l))=some l.length:=rfl
@[simp]theorem jiy(l:List Fnd):D.flat (BQ l)=false:=rfl
@[simp]theorem jiN(l:List Grd):D.flat (grdsD l)=false:=rfl
@[simp]theorem jif(l:List Grd):lenC (.d (grdsD l))=some l.length:=rfl
@[simp]theorem jib(h:List (Nat×Blk))(i:Int)(l:List Fnd):idxSl h 6 i (.d (BQ l))=if 0≤i∧i<l.length then some (.d (.ref ((l.drop i.toNat).flatMap Fnd.ds))) else none:=by
 unfold BQ idxSl;simp only[LN,and_true,DZ Fnd.ds_len]
@[simp]theorem jij(h:List (Nat×Blk))(i:Int)(l:List Grd):idxSl h 2 i (.d (grdsD l))=if 0≤i∧i<l.length then some (.d (.ref ((l.drop i.toNat).flatMap Grd.ds))) else none:=by
 unfold grdsD idxSl;simp only[H5,and_true,DZ Grd.ds_len]
theorem IU{l:List Fnd}{i:Nat}(h:i<l.length):(l.drop i).flatMap Fnd.ds= .int .i64 l[i].fact.kind::intsD l[i].fact.args:: .bool l[i].fact.neg::Ab l[i].fact.abs::Ab l[i].fact.den::grdsD l[i].grds::(l.drop (i+1)).flatMap Fnd.ds:=by
 rw[AD h];rfl
theorem F8{l:List Grd}{i:Nat}(h:i<l.length):(l.drop i).flatMap Grd.ds= .int .i64 l[i].kind::intsD l[i].args::(l.drop (i+1)).flatMap Grd.ds:=by
 rw[AD h];rfl
theorem UY(g f:Fct)(hg:g.Rt)(hf:f.Rt):CallsF Tryz.prog 49 [.agg f.ds,.c (.ref g.ds)] (.u (.c (.d (.bool (decide (Aw g f=0)))))):=by
 have k1:=MD g f hg.mild hf.mild hg.num hf.num;clear hg hf;simp only[Fct.ds]at*;refine Ae (T:=tb) Ad mixed Tryz.func49 rfl (by decide) (Ac rfl) rfl ?_;unfold St.init
 simp -implicitDefEqProofs[jJ,-natCast_add,-natCast_mul];refine Aa k1 ?_;simp -implicitDefEqProofs[jJ,-natCast_add,-natCast_mul]
theorem jeR(g:Fct)(l:List Fct)(hg:g.Rt)(hl: ∀f∈l,f.Rt)(hn:l.length≤1099511627776):CallsF Tryz.prog 104 [.c (AE l),.c (.fn 49 [.ref g.ds])] (.u (.c (.d (.int .i64 (CE g l 0))))):=by
 have k:=fun f hf=>UY g f hg (hl f hf)
 clear hg hl;generalize hr:D.ref g.ds=rg at*;clear hr;refine Ae (T:=tb) Ad mixed Tryz.func104 rfl (by decide) (Ac rfl) rfl ?_;unfold St.init
 simp -implicitDefEqProofs[jJ,-natCast_add,-natCast_mul];refine Av (fun i:Nat=>⟨[(8,vI .i64 i),(7,vI .i64 l.length),(0,vC (.d (AE l))),(1,vC (.d (.fn 49 [rg])))],[]⟩) (fun i=>i≤l.length∧CE g (l.drop i) i=CE g l 0) (fun i=>l.length - i) 0 (by simp) ⟨by omega,rfl⟩ ?_
 rintro i ⟨h1,h2⟩
 by_cases h:i<l.length
 ·have e:=Uu (g:=g) h;have k:=k l[i] (Ak h);have e2:=DO h;simp only[Fct.ds]at k;by_cases h0:Aw g l[i]=0
  ·rw[if_pos h0]at e
   simp -implicitDefEqProofs[jJ,-natCast_add,-natCast_mul,h,e2];refine Aa k ?_;simp -implicitDefEqProofs[jJ,-natCast_add,-natCast_mul,h0];rw[←h2,e]
  ·rw[if_neg h0]at e
   simp -implicitDefEqProofs[jJ,-natCast_add,-natCast_mul,h,e2];refine Aa k ?_;simp -implicitDefEqProofs[jJ,-natCast_add,-natCast_mul,h0];exact⟨by omega,⟨by omega,by rw[←e,h2]⟩,by omega⟩
 ·have:i=l.length:=by omega
  subst this;rw[List.drop_length]at h2;simp -implicitDefEqProofs[jJ,-natCast_add,-natCast_mul];exact h2
theorem TR(g:Fct)(l:List Fct)(hg:g.Rt)(hl: ∀f∈l,f.Rt)(hn:l.length≤1099511627776):CallsF Tryz.prog 51 [.c (AE l),.c (.fn 49 [.ref g.ds])] (.u (.c (.d (.bool (CH g l))))):=by
 have k:=jeR g l hg hl hn;have e:=VD g l 0;clear hg hl;generalize hr:D.ref g.ds=rg at*;clear hr;refine Ae (T:=tb) Ad mixed Tryz.func51 rfl (by decide) (Ac rfl) rfl ?_;unfold St.init
 simp -implicitDefEqProofs[jJ,-natCast_add,-natCast_mul];refine Aa k ?_;simp -implicitDefEqProofs[jJ,-natCast_add,-natCast_mul,e]
theorem jcv(g:Fct)(x:Fnd)(hg:g.Rt)(hx:x.fact.Rt):CallsF Tryz.prog 53 [.agg x.ds,.c (.ref [.fn 49 [.ref g.ds]])] (.u (.c (.d (.bool (decide (Aw g x.fact=0)))))):=by
 have k1:=UY g x.fact hg hx;clear hg hx;generalize hr:D.ref g.ds=rg at*;clear hr;simp only[Fct.ds,Fnd.ds]at*;refine Ae (T:=tb) Ad mixed Tryz.func53 rfl (by decide) (Ac rfl) rfl ?_;unfold St.init
 simp -implicitDefEqProofs[jJ,-natCast_add,-natCast_mul];refine Aa k1 ?_;simp -implicitDefEqProofs[jJ,-natCast_add,-natCast_mul]
theorem Ul(g:Fct)(l:List Fnd)(hg:g.Rt)(hl: ∀x∈l,x.fact.Rt)(hn:l.length≤1099511627776):CallsF Tryz.prog 52 [.c (BQ l),.c (.fn 53 [.ref [.fn 49 [.ref g.ds]]])] (.u (.c (.d (.int .i64 (CE g (l.map Fnd.fact) 0))))):=by
 have k:=fun f hf=>jcv g f hg (hl f hf)
 clear hg hl;generalize hr:D.ref [D.fn 49 [.ref g.ds]]=rg at*;clear hr;refine Ae (T:=tb) Ad mixed Tryz.func52 rfl (by decide) (Ac rfl) rfl ?_;unfold St.init
 simp -implicitDefEqProofs[jJ,-natCast_add,-natCast_mul];refine Av (fun i:Nat=>⟨[(8,vI .i64 i),(7,vI .i64 l.length),(0,vC (.d (BQ l))),(1,vC (.d (.fn 53 [rg])))],[]⟩) (fun i=>i≤l.length∧CE g ((l.map Fnd.fact).drop i) i=CE g (l.map Fnd.fact) 0) (fun i=>l.length - i) 0 (by simp) ⟨by omega,rfl⟩ ?_
 rintro i ⟨h1,h2⟩
 by_cases h:i<l.length
 ·have e:=Uu (g:=g) (l:=l.map Fnd.fact) (i:=i) (by simpa using h)
  rw[List.getElem_map]at e
  have k:=k l[i] (Ak h);have e2:=IU h;simp only[Fnd.ds]at k;by_cases h0:Aw g l[i].fact=0
  ·rw[if_pos h0]at e
   simp -implicitDefEqProofs[jJ,-natCast_add,-natCast_mul,h,e2];refine Aa k ?_;simp -implicitDefEqProofs[jJ,-natCast_add,-natCast_mul,h0];rw[←h2,e]
  ·rw[if_neg h0]at e
   simp -implicitDefEqProofs[jJ,-natCast_add,-natCast_mul,h,e2];refine Aa k ?_;simp -implicitDefEqProofs[jJ,-natCast_add,-natCast_mul,h0];exact⟨by omega,⟨by omega,by rw[←e,h2]⟩,by omega⟩
 ·have:i=l.length:=by omega
  subst this;rw[B7 (by simp)]at h2
  simp -implicitDefEqProofs[jJ,-natCast_add,-natCast_mul];exact h2
theorem ZQ(a b:List Grd)(ha: ∀g∈a,g.Short)(hb: ∀g∈b,g.Short)(hal:a.length≤1000)(hbl:b.length≤1000):
  CallsF Tryz.prog 105 [.c (grdsD a),.c (grdsD b),.c (.fn 60 [])] (.u (.c (.d (.int .i64 (Bx a b))))):=by
 have k:=fun x hx y hy=>Om x y (ha x hx) (hb y hy)
 simp only[Grd.ds]at k;clear ha hb;refine Ae (T:=tb) Ad mixed Tryz.func105 rfl (by decide) (Ac rfl) rfl ?_;unfold St.init
 simp -implicitDefEqProofs[jJ,-natCast_add,-natCast_mul];refine Av (fun i:Nat=>⟨[(13,vI .i64 i),(12,vI .i64 a.length),(11,vC (.d (grdsD a))),(0,vC (.d (grdsD a))),(1,vC (.d (grdsD b))),(2,vC (.d (.fn 60 [])))],[]⟩) (fun i=>i≤a.length∧i≤b.length∧Bx (a.drop i) (b.drop i)=Bx a b) (fun i=>a.length - i) 0 (by simp) ⟨by omega,by omega,rfl⟩ ?_
 rintro i ⟨h1,h1b,h2⟩
 by_cases h:i<a.length
 ·have ea:=F8 h;by_cases hB:i<b.length
  ·have eb:=F8 hB;have k:=k a[i] (Ak h) b[i] (Ak hB);have e:Bx (a.drop i) (b.drop i)=if cmpG a[i] b[i]≠0 then cmpG a[i] b[i] else Bx (a.drop (i+1)) (b.drop (i+1)):=by
    rw[AD h,AD hB];rfl
   rw[e]at h2
   have nb: ¬b.length≤i:=by omega
   generalize cmpG a[i] b[i]=r at*;by_cases h0:r=0
   ·rw[if_neg (by simp[h0])]at h2
    simp -implicitDefEqProofs[jJ,-natCast_add,-natCast_mul,h,ea,hB,eb,nb];refine Aa k ?_;simp -implicitDefEqProofs[jJ,-natCast_add,-natCast_mul,h0];exact⟨by omega,⟨by omega,by omega,h2⟩,by omega⟩
   ·rw[if_pos h0]at h2
    subst h2;simp -implicitDefEqProofs[jJ,-natCast_add,-natCast_mul,h,ea,hB,eb,nb];refine Aa k ?_;simp -implicitDefEqProofs[jJ,-natCast_add,-natCast_mul,h0]
  ·have hbi:b.length=i:=by omega
   have e:Bx a b=1:=by
    rw[←h2,AD h,B7 (by omega:b.length≤i)];rfl
   have nb:b.length≤i:=by omega
   simp -implicitDefEqProofs[jJ,-natCast_add,-natCast_mul,h,ea,nb,e]
 ·have hi:i=a.length:=by omega
  by_cases hB:a.length<b.length
  ·have e:Bx a b= -1:=by
    rw[←h2,B7 (by omega:a.length≤i),AD (by omega:i<b.length)];rfl
   simp -implicitDefEqProofs[jJ,-natCast_add,-natCast_mul,h,hB,e]
  ·have e:Bx a b=0:=by
    rw[←h2,B7 (by omega:a.length≤i),B7 (by omega:b.length≤i)];rfl
   simp -implicitDefEqProofs[jJ,-natCast_add,-natCast_mul,h,hB,e]
theorem jbE(a b:List Grd)(ha: ∀g∈a,g.Short)(hb: ∀g∈b,g.Short)(hal:a.length≤1000)(hbl:b.length≤1000):
  CallsF Tryz.prog 54 [.c (grdsD a),.c (grdsD b)] (.u (.c (.d (.bool (BF a b))))):=by
 have k:=ZQ a b ha hb hal hbl;unfold BF;refine Ae (T:=tb) Ad mixed Tryz.func54 rfl (by decide) (Ac rfl) rfl ?_;unfold St.init
 by_cases h:a.length=b.length
 ·simp -implicitDefEqProofs[jJ,-natCast_add,-natCast_mul,h];refine Aa k ?_;simp -implicitDefEqProofs[jJ,-natCast_add,-natCast_mul]
 ·simp -implicitDefEqProofs[jJ,-natCast_add,-natCast_mul,h]
end Go.Va
