/- a part of the proof -/
import Derived.Test.YtljdeoefpialhaaGreatDoorHbe
import Derived.Test.YtljdeoefpialhaaGreatDoorHbc
import Derived.Test.YtljdeoefpialhaaGreatDoorHaz
import Derived.Test.YtljdeoefpialhaaGreatDoorHav
import Derived.Test.YtljdeoefpialhaaGreatDoorHbj
set_option linter.all false
set_option maxHeartbeats 4000000
set_option maxRecDepth 100000
namespace Go.Va
open Int renaming natCast_add → qA, natCast_mul → qB, natCast_emod → qC, natCast_ediv → qD, natCast_pow → qE
open List renaming reduceReplicate → qF
open Go.Proofs
theorem jjs{l:List Fct}{f:Fct}(h:f∈l): ∃p,B5 (Bn f) (Dj l) 0=some p:=Option.isSome_iff_exists.1 (jcb h)
theorem X1(fs:List Fct)(hf: ∀f∈fs,f.Rt)(hl:fs.length≤1000000)(key: ∀f:Fct,f.Rt→CallsF Tryz.prog 36 [.agg f.ds] (.u (.c (.d (.str (Bn f)))))):
  CallsF Tryz.prog 15 [.c (AQ fs)] (.u (.c (.own 5 (normL fs).length ((normL fs).flatMap Fct.ds)))):=by
 have hfin:normL (fs.take fs.length)=normL fs:=by rw[BM]
 refine cO Tryz.func15 rfl ?_;simp -implicitDefEqProofs[jJ,-qA,-qB,-qF];refine CE [(3,38)] (fun i:Nat=>⟨[(13,vI .i64 i),(12,vI .i64 fs.length),(11,vC (.d (AQ fs))),(4,vC (.mp false 10)),(3,vC (.sl 3 0 (normL (fs.take i)).length))],[(3,.row 5 ((normL (fs.take i)).flatMap Fct.ds) true),(10,.mp (.mp (Dj (normL (fs.take i)))))]⟩)
  (fun i=>i≤fs.length) (fun i=>fs.length - i) 0 (by simp[AW,lk,St.le,vI,vC,normL,Dj]) (by omega) ?_
 rintro i hi
 by_cases h:i<fs.length
 ·have g:=Gg h;have hr:=hf _ (AZ h);have kn:=ZD fs[i] hr.mild;have hn:(normF fs[i]).Rt:=by unfold normF;rw[if_pos hr.ok];exact Nw hr
  have kt:=VH (normF fs[i]) hn.mild;have kk:=key _ hn;have hs:=JJ h;unfold G8 at hs;have hlr:=Ji fs hf i hi;have hln:=Iw fs i hi;generalize normL (fs.take i)=l at*;generalize hN:normL (fs.take (i+1))=l' at*;generalize normF fs[i]=n at*;generalize fs[i]=f at*;have e1:=TL hlr hn;have e2:n∈l→_:=jjs;have e3:=jix hlr hn;obtain⟨k,al,ng,ab,dn⟩:=f;clear hf hr hn key hlr hfin;generalize hkf:Bn n=kf at*;obtain⟨nk,na,nn,nb,nd⟩:=n;simp only[Fct.ds,Fct.res]at kn kt kk g;cases t:Gi ⟨nk,na,nn,nb,nd⟩with
  |true=>
   rw[if_pos t]at hs
   rw[t]at kt
   clear e1 e2 e3;subst hs;simp -implicitDefEqProofs[jJ,-qA,-qB,-qF,h,g]
   (first|refine Ac kn ?_|refine Ae kn ?_)
   simp -implicitDefEqProofs[jJ,-qA,-qB,-qF]
   (first|refine Ac kt ?_|refine Ae kt ?_)
   simp -implicitDefEqProofs[jJ,-qA,-qB,-qF];exact⟨by omega,i+1,⟨⟨rfl,by rw[hN]⟩,by rw[hN],by rw[hN]⟩,by omega,by omega⟩
  |false=>
   rw[if_neg (by rw[t];simp)]at hs
   rw[t]at kt
   by_cases m:(⟨nk,na,nn,nb,nd⟩:Fct)∈l
   ·rw[if_pos m]at hs
    obtain⟨q,e2⟩:=e2 m
    clear e1 e3;subst hs;simp -implicitDefEqProofs[jJ,-qA,-qB,-qF,h,g]
    (first|refine Ac kn ?_|refine Ae kn ?_)
    simp -implicitDefEqProofs[jJ,-qA,-qB,-qF]
    (first|refine Ac kt ?_|refine Ae kt ?_)
    simp -implicitDefEqProofs[jJ,-qA,-qB,-qF]
    (first|refine Ac kk ?_|refine Ae kk ?_)
    simp -implicitDefEqProofs[jJ,-qA,-qB,-qF,e2];exact⟨by omega,i+1,⟨⟨rfl,by rw[hN]⟩,by rw[hN],by rw[hN]⟩,by omega,by omega⟩
   ·rw[if_neg m]at hs
    have e1:=e1 m;have e3:=e3 m;clear e2;have e4:(l++[Fct.mk nk na nn nb nd]).flatMap Fct.ds=l.flatMap Fct.ds++[.int .i64 nk,intsD na,.bool nn,Ad nb,Ad nd]:=by rw[List.flatMap_append];simp
    have e5:(l++[Fct.mk nk na nn nb nd]).length=l.length+1:=by simp
    rw[←hs]at e3 e4 e5
    simp -implicitDefEqProofs[jJ,-qA,-qB,-qF,h,g]
    (first|refine Ac kn ?_|refine Ae kn ?_)
    simp -implicitDefEqProofs[jJ,-qA,-qB,-qF]
    (first|refine Ac kt ?_|refine Ae kt ?_)
    simp -implicitDefEqProofs[jJ,-qA,-qB,-qF]
    (first|refine Ac kk ?_|refine Ae kk ?_)
    simp -implicitDefEqProofs[jJ,-qA,-qB,-qF,e1]
    (first|refine Ac kk ?_|refine Ae kk ?_)
    simp -implicitDefEqProofs[jJ,-qA,-qB,-qF,e3];exact⟨⟨by omega,by omega⟩,by omega,i+1,⟨⟨rfl,by rw[hN,e5]⟩,by rw[hN,e4],by rw[hN]⟩,by omega,by omega⟩
 ·have hi2:i=fs.length:=by omega
  subst hi2;rw[hfin];simp -implicitDefEqProofs[jJ,-qA,-qB,-qF]
def idxP{α:Type}(p:α→Bool):List α→Nat→Int
 |[],_=> -1
 |x::r,i=>if p x=true then (i:Int) else idxP p r (i+1)
theorem UD{α:Type}{p:α→Bool}{l:List α}{i:Nat}(h:i<l.length):idxP p (l.drop i) i=if p l[i]=true then (i:Int) else idxP p (l.drop (i+1)) (i+1):=by
 rw[BQ h,idxP]
theorem Li{α:Type}(p:α→Bool): ∀(l:List α) (i:Nat),(0≤idxP p l i↔l.any p=true)
 |[],_=>by simp[idxP]
 |x::r,i=>by
  rw[idxP,List.any_cons]
  cases h:p x with
  |true=>simp
  |false=>simpa using Li p r (i+1)
theorem Yn(k:FuncId)(rg:D)(p:Int→Bool)(l:List Int)(hn:l.length≤1099511627776)(hk: ∀a∈l,CallsF Tryz.prog k [.c (.int .i64 a),.c rg] (.u (.c (.d (.bool (p a)))))):
  CallsF Tryz.prog 147 [.c (intsD l),.c (.fn k [rg])] (.u (.c (.d (.int .i64 (idxP p l 0))))):=by
 refine cO Tryz.func147 rfl ?_;simp -implicitDefEqProofs[jJ,-qA,-qB];refine AV (fun i:Nat=>⟨[(8,vI .i64 i),(7,vI .i64 l.length),(0,vC (.d (intsD l))),(1,vC (.d (.fn k [rg])))],[]⟩) (fun i=>i≤l.length∧idxP p (l.drop i) i=idxP p l 0) (fun i=>l.length - i) 0 (by simp[AW,lk,St.le,vI,vC]) ⟨by omega,rfl⟩ ?_
 rintro i ⟨h1,h2⟩
 by_cases h:i<l.length
 ·have e:=UD (p:=p) h;have hk:=hk l[i] (AZ h);cases h0:p l[i]with
  |true=>
   rw[h0]at hk e
   rw[if_pos rfl]at e
   simp -implicitDefEqProofs[jJ,-qA,-qB,h,i64]
   (first|refine Ac hk ?_|refine Ae hk ?_)
   simp -implicitDefEqProofs[jJ,-qA,-qB];rw[←h2,e]
  |false=>
   rw[h0]at hk e
   rw[if_neg (by simp)]at e
   simp -implicitDefEqProofs[jJ,-qA,-qB,h,i64]
   (first|refine Ac hk ?_|refine Ae hk ?_)
   simp -implicitDefEqProofs[jJ,-qA,-qB];exact⟨by omega,⟨by omega,by rw[←e,h2]⟩,by omega⟩
 ·have:i=l.length:=by omega
  subst this;rw[List.drop_length]at h2;simp -implicitDefEqProofs[jJ,-qA,-qB];exact h2
theorem ji8(k:FuncId)(rg:D)(p:Int→Bool)(l:List Int)(hn:l.length≤1099511627776)(hk: ∀a∈l,CallsF Tryz.prog k [.c (.int .i64 a),.c rg] (.u (.c (.d (.bool (p a)))))):
  CallsF Tryz.prog 72 [.c (intsD l),.c (.fn k [rg])] (.u (.c (.d (.bool (l.any p))))):=by
 have kk:=Yn k rg p l hn hk;have e:=Li p l 0;clear hk;generalize idxP p l 0=z at*;have e':decide (0≤z)=l.any p:=by rw[Bool.eq_iff_iff,decide_eq_true_eq,e]
 rw[←e']
 clear e e';refine cO Tryz.func72 rfl ?_;simp -implicitDefEqProofs[jJ,-qA,-qB]
 (first|refine Ac kk ?_|refine Ae kk ?_)
 simp -implicitDefEqProofs[jJ,-qA,-qB]
theorem jg9(k:FuncId)(rg:D)(p:Stp→Bool)(l:List Stp)(hn:l.length≤1099511627776)(hk: ∀a∈l,CallsF Tryz.prog k [.agg a.ds,.c rg] (.u (.c (.d (.bool (p a)))))):
  CallsF Tryz.prog 154 [.c (Bx l),.c (.fn k [rg])] (.u (.c (.d (.int .i64 (idxP p l 0))))):=by
 refine cO Tryz.func154 rfl ?_;simp -implicitDefEqProofs[jJ,-qA,-qB];refine AV (fun i:Nat=>⟨[(8,vI .i64 i),(7,vI .i64 l.length),(0,vC (.d (Bx l))),(1,vC (.d (.fn k [rg])))],[]⟩) (fun i=>i≤l.length∧idxP p (l.drop i) i=idxP p l 0) (fun i=>l.length - i) 0 (by simp[AW,lk,St.le,vI,vC]) ⟨by omega,rfl⟩ ?_
 rintro i ⟨h1,h2⟩
 by_cases h:i<l.length
 ·have e:=UD (p:=p) h;have hk:=hk l[i] (AZ h);have e2:=E3 h;simp only[Stp.ds]at hk;cases h0:p l[i]with
  |true=>
   rw[h0]at hk e
   rw[if_pos rfl]at e
   simp -implicitDefEqProofs[jJ,-qA,-qB,h,e2]
   (first|refine Ac hk ?_|refine Ae hk ?_)
   simp -implicitDefEqProofs[jJ,-qA,-qB];rw[←h2,e]
  |false=>
   rw[h0]at hk e
   rw[if_neg (by simp)]at e
   simp -implicitDefEqProofs[jJ,-qA,-qB,h,e2]
   (first|refine Ac hk ?_|refine Ae hk ?_)
   simp -implicitDefEqProofs[jJ,-qA,-qB];exact⟨by omega,⟨by omega,by rw[←e,h2]⟩,by omega⟩
 ·have:i=l.length:=by omega
  subst this;rw[List.drop_length]at h2;simp -implicitDefEqProofs[jJ,-qA,-qB];exact h2
theorem Wp(k:FuncId)(rg:D)(p:Stp→Bool)(l:List Stp)(hn:l.length≤1099511627776)(hk: ∀a∈l,CallsF Tryz.prog k [.agg a.ds,.c rg] (.u (.c (.d (.bool (p a)))))):
  CallsF Tryz.prog 77 [.c (Bx l),.c (.fn k [rg])] (.u (.c (.d (.bool (l.any p))))):=by
 have kk:=jg9 k rg p l hn hk;have e:=Li p l 0;clear hk;generalize idxP p l 0=z at*;have e':decide (0≤z)=l.any p:=by rw[Bool.eq_iff_iff,decide_eq_true_eq,e]
 rw[←e']
 clear e e';refine cO Tryz.func77 rfl ?_;simp -implicitDefEqProofs[jJ,-qA,-qB]
 (first|refine Ac kk ?_|refine Ae kk ?_)
 simp -implicitDefEqProofs[jJ,-qA,-qB]
theorem jeS(a:Int)(i:Nat):CallsF Tryz.prog 73 [.c (.int .i64 a),.c (.ref [.int .i64 i])] (.u (.c (.d (.bool (Di i a))))):=by
 unfold Di;refine cO Tryz.func73 rfl ?_;by_cases h1:a<0
 ·simp -implicitDefEqProofs[jJ,-qA,-qB,h1]
 ·simp -implicitDefEqProofs[jJ,-qA,-qB,h1]
theorem jg6(t s:Stp):CallsF Tryz.prog 78 [.agg t.ds,.c (.ref s.ds)] (.u (.c (.d (.bool (decide (t.name=s.name)))))):=by
 simp only[Stp.ds];refine cO Tryz.func78 rfl ?_;simp -implicitDefEqProofs[jJ,-qA,-qB]
theorem Ll{b:List Stp}{i:Nat}{s:Stp}(h:errT b i s=0): ¬stepN s.kind<0∧(s.args.length:Int)=stepN s.kind∧s.args.any (Di i)=false∧Im s=true∧(Jn s.name=true∨nameB s.name=true∧b.any (fun t=>decide (t.name=s.name))=false):=by
 unfold errT at h;split at h
 ·omega
 rename_i h1
 split at h
 ·omega
 rename_i h2
 split at h
 ·omega
 rename_i h3
 split at h
 ·omega
 rename_i h4
 refine⟨h1,by simpa using h2,by simpa using h3,by simpa using h4,?_⟩
 split at h
 ·rename_i h5
  exact .inl h5
 split at h
 ·omega
 rename_i h6
 split at h
 ·omega
 rename_i h7
 exact .inr ⟨by simpa using h6,by simpa using h7⟩
theorem Xy(l:List Stp)(i:Nat)(h:i<l.length)(hl:l.length≤1000)(ho:l[i].Ok)(la:l[i].abs.length≤4)(ld:l[i].den.length≤4)(he:errT (l.take i) i l[i]=0):
  CallsF Tryz.prog 29 [.c (Bx l),.c (.int .i64 i)] (.u (.c (.d (.int .i64 0)))):=by
 obtain⟨h1,h2,h3,h4,h5⟩:=Ll he
 have hsn:stepN l[i].kind≤4:=by
  unfold stepN;split
  ·omega
  split
  ·omega
  split
  ·omega
  split<;>omega
 have k1:=jcv l[i].kind;have k2:=PB l[i].neg l[i].abs l[i].den ho.oa (by omega) ho.od (by omega)
 have k3:=jiM l[i].neg l[i].abs l[i].den;have k4:=ji6 l[i].name;have k5:=ji8 73 (.ref [.int .i64 i]) (Di i) l[i].args (by omega) (fun a _=>jeS a i)
 have k6:=Wp 78 (.ref l[i].ds) (fun t=>decide (t.name=l[i].name)) (l.take i) (by rw[A8];omega) (fun t _=>jg6 t l[i])
 have g:=E3 h;rw[h3]at k5;unfold Im at h4;clear ho la ld he h3;generalize (l.take i).any (fun t=>decide (t.name=l[i].name))=bt at*
 generalize l[i]=s at*;generalize stepN s.kind=sn at*;generalize ratOk s.neg s.abs s.den=rb at*;generalize noRat s.neg s.abs s.den=nb at*;unfold Jn at h5;generalize nameB s.name=nm at*;simp only[Stp.ds]at k6;refine cO Tryz.func29 rfl ?_;simp -implicitDefEqProofs[jJ,-qA,-qB,-qF,h,g]
 (first|refine Ac k1 ?_|refine Ae k1 ?_)
 simp -implicitDefEqProofs[jJ,-qA,-qB,-qF,h1,h2]
 (first|refine Ac k5 ?_|refine Ae k5 ?_)
 simp -implicitDefEqProofs[jJ,-qA,-qB,-qF];have hname:True:=trivial;by_cases hkd:s.kind=2
 case' pos=>
  rw[if_pos hkd]at h4
  subst h4;rw[hkd]at k6;simp -implicitDefEqProofs[jJ,-qA,-qB,-qF,hkd]
  (first|refine Ac k2 ?_|refine Ae k2 ?_)
  simp -implicitDefEqProofs[jJ,-qA,-qB,-qF,hkd]
 case' neg=>
  rw[if_neg hkd]at h4
  subst h4;simp -implicitDefEqProofs[jJ,-qA,-qB,-qF,hkd]
  (first|refine Ac k3 ?_|refine Ae k3 ?_)
  simp -implicitDefEqProofs[jJ,-qA,-qB,-qF]
 all_goals
  by_cases hne:s.name={ data:= #[] }
  ·simp -implicitDefEqProofs[jJ,-qA,-qB,-qF,hne]
  ·obtain⟨rfl,rfl⟩:nm=true∧bt=false:=by
    rcases h5 with h5|h5
    ·exact absurd (of_decide_eq_true h5) hne
    ·exact h5
   simp -implicitDefEqProofs[jJ,-qA,-qB,-qF,hne]
   (first|refine Ac k4 ?_|refine Ae k4 ?_)
   simp -implicitDefEqProofs[jJ,-qA,-qB,-qF,hne];refine⟨by omega,?_⟩
   (first|refine Ac k6 ?_|refine Ae k6 ?_)
   simp -implicitDefEqProofs[jJ,-qA,-qB,-qF]
theorem jc4{l:List Int}(h:Dq l=0): ∀e∈l,e=0:=by
 induction l with
 |nil=>intro e he;cases he
 |cons a l ih=>
  unfold Dq at h;by_cases ha:a=0
  ·subst ha;simp at h;intro e he;rcases jzn.1 he with rfl|he
   ·rfl
   ·exact ih h e he
  ·simp[ha]at h
theorem L7{l:List Stp}{gs:List Fct}(h:errFig l gs=0):(∀i (h:i<l.length),errT (l.take i) i l[i]=0)∧ ∀g∈gs,wrong g l.length=0:=by
 have h:=jc4 h;refine⟨fun i hi=> ?_,fun g hg=> ?_⟩
 ·exact h _ (List.mem_append_left _ (BY (Ot hi)))
 ·exact h _ (List.mem_append_right _ (jzk.2 ⟨g,hg,rfl⟩))
theorem Sq{f:Fct}{n:Int}(h:wrong f n=0):f.args.length≤8:=by
 unfold wrong at h;split at h
 ·cases h
 split at h
 ·cases h
 rename_i h2
 have:=K2 f.kind
 have h2:f.args.length=arity f.kind:=by simpa using h2
 omega
theorem jjr(l:List Stp)(gs:List Fct)(hl:l.length≤40)(hg:gs.length≤8)(ho: ∀s∈l,s.Ok∧s.abs.length≤4∧s.den.length≤4)(hgo: ∀g∈gs,g.Long∧g.abs.length≤4∧g.den.length≤4)(he:errFig l gs=0):
  CallsF Tryz.prog 13 [.agg [Bx l,AQ gs]] (.u (.c (.d (.int .i64 0)))):=by
 obtain⟨h1,h2⟩:=L7 he
 have k1:=fun i (h:i<l.length)=>Xy l i h (by omega) (ho _ (AZ h)).1 (ho _ (AZ h)).2.1 (ho _ (AZ h)).2.2 (h1 i h)
 have k2:=fun i (h:i<gs.length)=>by
  have q:=hgo _ (AZ h);have w:=h2 _ (AZ h);have k:=RO gs[i] ⟨by have:=q.2.1;omega,by have:=q.2.2;omega,q.1.oa,q.1.od,by have:=Sq w;omega⟩ (l.length:Int)
  rw[w]at k
  exact k
 clear he ho hgo h1 h2;have b1: ¬40<l.length:=by omega
 have b2: ¬8<gs.length:=by omega
 refine cO Tryz.func13 rfl ?_;simp -implicitDefEqProofs[jJ,-qA,-qB,-qF,b1,b2];refine AV (fun i:Nat=>⟨[(21,vI .i64 i),(20,vI .i64 l.length),(1,vC (.ptr 1 0))],[(1,.box [.d (Bx l),.d (AQ gs)])]⟩)
  (fun i=>i≤l.length) (fun i=>l.length - i) 0 (by simp[AW,lk,St.le,vI,vC]) (by omega) ?_
 rintro i hi
 by_cases h:i<l.length
 ·have k1:=k1 i h;simp -implicitDefEqProofs[jJ,-qA,-qB,-qF,h]
  (first|refine Ac k1 ?_|refine Ae k1 ?_)
  simp -implicitDefEqProofs[jJ,-qA,-qB,-qF];exact⟨by omega,by omega,by omega⟩
 ·have hi2:i=l.length:=by omega
  subst hi2;simp -implicitDefEqProofs[jJ,-qA,-qB,-qF];refine AV (fun i:Nat=>⟨[(35,vI .i64 i),(34,vI .i64 gs.length),(33,vC (.d (AQ gs))),(1,vC (.ptr 1 0))],[(1,.box [.d (Bx l),.d (AQ gs)])]⟩)
   (fun i=>i≤gs.length) (fun i=>gs.length - i) 0 (by simp[AW,lk,St.le,vI,vC]) (by omega) ?_
  rintro i hi
  by_cases h:i<gs.length
  ·have e2:=Gg h;have k2:=k2 i h;simp only[Fct.ds]at k2;simp -implicitDefEqProofs[jJ,-qA,-qB,-qF,h,e2]
   (first|refine Ac k2 ?_|refine Ae k2 ?_)
   simp -implicitDefEqProofs[jJ,-qA,-qB,-qF];exact⟨by omega,by omega,by omega⟩
  ·have hi2:i=gs.length:=by omega
   subst hi2;simp -implicitDefEqProofs[jJ,-qA,-qB,-qF]
structure StpR (s:Stp) (i:Nat):Prop where
 a0: ¬stepN s.kind<0
 len:(s.args.length:Int)=stepN s.kind
 lo: ∀a∈s.args,0≤a∧a<(i:Int)
 ok:Va.Ok s.abs∧Va.Ok s.den
 rat:s.kind=2→ratOk s.neg s.abs s.den=true∧s.abs.length≤2∧s.den.length≤2
theorem StpR.bq{s:Stp}{i:Nat}(h:StpR s i)(h2:s.kind=2):Bq s.q 2:=by
 obtain⟨r1,r2,r3⟩:=h.rat h2
 exact NI h.ok.1 h.ok.2 r1 r2 r3
theorem jcw{l:List Stp}{gs:List Fct}(ho: ∀s∈l,s.Ok)(h3:errFig l gs=0)(h4: ∀s∈l,s.abs.length≤2∧s.den.length≤2): ∀i (h:i<l.length),StpR l[i] i:=fun i h=>by
 obtain⟨e1,e2,e3,e4,_⟩:=Ll ((L7 h3).1 i h)
 have hm:=AZ h;refine⟨e1,e2,fun a ha=> ?_,⟨(ho _ hm).oa,(ho _ hm).od⟩,fun hk=> ?_⟩
 ·have:=List.any_eq_false.1 e3 a ha
  unfold Di at this;simp at this;omega
 ·unfold Im at e4;rw[if_pos hk]at e4;exact⟨e4,(h4 _ hm).1,(h4 _ hm).2⟩
theorem Nz{l:List Stp}(hl:l.length≤40)(hs: ∀i (h:i<l.length),StpR l[i] i): ∀i,i≤l.length→ ∀f∈allS (l.take i),f.Rt:=
 Q8 l hl fun i h=>⟨(hs i h).lo,(hs i h).bq⟩
theorem NE(l:List Fct):D.slice l.length (List.take (l.length*5) (l.flatMap Fct.ds))=AQ l:=by
 unfold AQ;rw[Ba (by rw[jfm];omega)]
theorem jjA(l:List Stp)(gs:List Fct)(hl:l.length≤40)(hs: ∀i (h:i<l.length),StpR l[i] i)(hr:CallsF Tryz.prog 13 [.agg [Bx l,AQ gs]] (.u (.c (.d (.int .i64 0)))))
  (key: ∀f:Fct,f.Rt→CallsF Tryz.prog 36 [.agg f.ds] (.u (.c (.d (.str (Bn f)))))):
  CallsF Tryz.prog 6 [.agg [Bx l,AQ gs]] (.tup [.c (.own 5 (normL (allS l)).length ((normL (allS l)).flatMap Fct.ds)),.c (.d (.int .i64 0))]):=by
 have hfin:allS (l.take l.length)=allS l:=by rw[BM]
 have hall:=Nz hl hs l.length (AO _);have hlen:=GX l l.length (AO _);rw[hfin]at hall hlen;have kn:=X1 (allS l) hall (by omega) key
 have hst:=fun i (h:i<l.length)=>jcK l[i] i (hs i h).a0 (hs i h).len (hs i h).ok (hs i h).rat
 have hsl:=fun i (h:i≤l.length)=>GX l i h
 clear hs hall key;refine cO Tryz.func6 rfl ?_;simp -implicitDefEqProofs[jJ,-qA,-qB,-qF]
 (first|refine Ac hr ?_|refine Ae hr ?_)
 simp -implicitDefEqProofs[jJ,-qA,-qB,-qF];refine CE [(5,25)] (fun i:Nat=>⟨[(16,vI .i64 i),(15,vI .i64 l.length),(14,vC (.d (Bx l))),(5,vC (.sl 5 0 (allS (l.take i)).length))],[(5,.row 5 ((allS (l.take i)).flatMap Fct.ds) true)]⟩)
  (fun i=>i≤l.length) (fun i=>l.length - i) 0 (by simp[AW,lk,St.le,vI,vC,allS]) (by omega) ?_
 rintro i hi
 by_cases h:i<l.length
 ·have g:=E3 h;have k:=hst i h;have hsucc:=Je h;have hq:=hsl i hi;have h4:=Ms l[i].kind i l[i].args l[i].q;generalize allS (l.take i)=A at*;generalize hN:allS (l.take (i+1))=A' at*;generalize stpF l[i].kind i l[i].args l[i].q=F at*;simp only[Stp.ds]at k;generalize l[i]=s at*;have e4:A'.flatMap Fct.ds=A.flatMap Fct.ds++F.flatMap Fct.ds:=by rw[hsucc,List.flatMap_append]
  have e5:A'.length=A.length+F.length:=by rw[hsucc,List.length_append]
  clear hst hsl;have hF:AQ F=D.slice F.length (F.flatMap Fct.ds):=rfl;simp -implicitDefEqProofs[jJ,-qA,-qB,-qF,h,g]
  (first|refine Ac k ?_|refine Ae k ?_)
  simp -implicitDefEqProofs[jJ,-qA,-qB,-qF,hF];exact⟨⟨by omega,by omega⟩,by omega,i+1,⟨⟨rfl,by rw[hN,e5]⟩,by rw[hN,e4]⟩,by omega,by omega⟩
 ·have hi2:i=l.length:=by omega
  subst hi2;rw[hfin];generalize allS l=A at*;have ec:=NE A;simp -implicitDefEqProofs[jJ,-qA,-qB,-qF,ec]
  (first|refine Ac kn ?_|refine Ae kn ?_)
  simp -implicitDefEqProofs[jJ,-qA,-qB,-qF]
  trace_state
theorem jfC(l:List Stp)(gs:List Fct)(hl:l.length≤40)(hs: ∀i (h:i<l.length),StpR l[i] i)(hr:CallsF Tryz.prog 16 [.agg [Bx l,AQ gs]] (.u (.c (.d (.int .i64 0))))):
  CallsF Tryz.prog 7 [.agg [Bx l,AQ gs]] (.tup [.c (.own 5 (normL (allS l)).length ((normL (allS l)).flatMap Fct.ds)),.c (.d (.int .i64 0))]):=by
 have hfin:allS (l.take l.length)=allS l:=by rw[BM]
 have hall:=Nz hl hs l.length (AO _);have hlen:=GX l l.length (AO _);rw[hfin]at hall hlen;have kn:=jjh (allS l) hall (by omega)
 have hst:=fun i (h:i<l.length)=>jdB l[i] i (hs i h).a0 (hs i h).len (hs i h).ok (hs i h).rat
 have hsl:=fun i (h:i≤l.length)=>GX l i h
 have hnl:=Iw (allS l) (allS l).length (AO _);rw[BM]at hnl;clear hs hall;refine cO Tryz.func7 rfl ?_;simp -implicitDefEqProofs[jJ,-qA,-qB,-qF]
 (first|refine Ac hr ?_|refine Ae hr ?_)
 simp -implicitDefEqProofs[jJ,-qA,-qB,-qF];refine CE [(5,30)] (fun i:Nat=>⟨[(6,vI .i64 i),(5,vC (.sl 5 0 (allS (l.take i)).length)),(1,vC (.ptr 1 0))],[(5,.row 5 ((allS (l.take i)).flatMap Fct.ds) true),(1,.box [.d (Bx l),.d (AQ gs)])]⟩)
  (fun i=>i≤l.length) (fun i=>l.length - i) 0 (by simp[AW,lk,St.le,vI,vC,allS]) (by omega) ?_
 rintro i hi
 by_cases h:i<l.length
 ·have g:=E3 h;have k:=hst i h;have hsucc:=Je h;have hq:=hsl i hi;have h4:=Ms l[i].kind i l[i].args l[i].q;generalize allS (l.take i)=A at*;generalize hN:allS (l.take (i+1))=A' at*;generalize stpF l[i].kind i l[i].args l[i].q=F at*;simp only[Stp.ds]at k;generalize l[i]=s at*;have e4:A'.flatMap Fct.ds=A.flatMap Fct.ds++F.flatMap Fct.ds:=by rw[hsucc,List.flatMap_append]
  have e5:A'.length=A.length+F.length:=by rw[hsucc,List.length_append]
  clear hst hsl;have hF:AQ F=D.slice F.length (F.flatMap Fct.ds):=rfl;simp -implicitDefEqProofs[jJ,-qA,-qB,-qF,h,g]
  (first|refine Ac k ?_|refine Ae k ?_)
  simp -implicitDefEqProofs[jJ,-qA,-qB,-qF,hF];exact⟨⟨by omega,by omega⟩,by omega,i+1,⟨⟨rfl,by rw[hN,e5]⟩,by rw[hN,e4]⟩,by omega,by omega⟩
 ·have hi2:i=l.length:=by omega
  subst hi2;rw[hfin];generalize allS l=A at*;have ec:=NE A;simp -implicitDefEqProofs[jJ,-qA,-qB,-qF,ec]
  (first|refine Ac kn ?_|refine Ae kn ?_)
  generalize normL A=L at*;have hfin2:L.take L.length=L:=by rw[BM]
  simp -implicitDefEqProofs[jJ,-qA,-qB,-qF];refine CE [(8,46)] (fun i:Nat=>⟨[(9,vI .i64 i),(8,vC (.sl 8 0 i)),(7,vC (.d (Fz L)))],[(8,.row 5 ((L.take i).flatMap Fct.ds) true)]⟩)
   (fun i=>i≤L.length) (fun i=>L.length - i) 0 (by simp[AW,lk,St.le,vI,vC]) (by omega) ?_
  rintro i hi
  by_cases h:i<L.length
  ·have g:=Pz h;have e4:(L.take (i+1)).flatMap Fct.ds=(L.take i).flatMap Fct.ds++L[i].ds:=by rw[Cr h,List.flatMap_append];simp
   have hmin:min i L.length=i:=by omega
   generalize L[i]=f at*;obtain⟨k,al,ng,ab,dn⟩:=f;simp only[Fct.ds]at e4 g;simp -implicitDefEqProofs[jJ,-qA,-qB,-qF,h,g,hmin];exact⟨⟨by omega,by omega⟩,by omega,i+1,⟨rfl,e4.symm⟩,by omega,by omega⟩
  ·have hi2:i=L.length:=by omega
   subst hi2;rw[hfin2];simp -implicitDefEqProofs[jJ,-qA,-qB,-qF]
theorem jgz(l:List Fct)(hl:l.length≤1000000)(ha: ∀x∈l,x.Rt):CallsF Tryz.prog 8 [.c (AQ l),.c (AQ l)] (.u (.c (.d (.bool true)))):=by
 have hcon: ∀i,∀(h:i<l.length),CallsF Tryz.prog 19 [.agg l[i].ds,.agg l[i].ds] (.u (.c (.d (.bool true)))):=fun i h=>by
  have hr:=ha _ (AZ h);have k:=PS l[i] l[i] hr.mild hr.mild hr.val hr.val;rw[decide_eq_true ((Tt hr hr).2 rfl)]at k;exact k
 clear ha;refine cO Tryz.func8 rfl ?_;simp -implicitDefEqProofs[jJ,-qA,-qB,-qF];refine AV (fun i:Nat=>⟨[(5,vI .i64 i),(1,vC (.d (AQ l))),(0,vC (.d (AQ l)))],[]⟩)
  (fun i=>i≤l.length) (fun i=>l.length - i) 0 (by simp[AW,lk,St.le,vI,vC]) (by omega) ?_
 rintro i hi
 by_cases h:i<l.length
 ·have g:=Gg h;have k:=hcon i h;generalize l[i]=f at*;obtain⟨k1,al,ng,ab,dn⟩:=f;simp only[Fct.ds]at k g;simp -implicitDefEqProofs[jJ,-qA,-qB,-qF,h];refine AA (Ah [0,0,3,7,0,0,48,112,255,511]) [.any [] [] (Aq [[0],[5],[17,18],[19],[1],[5],[21,22],[23]]),.one,.one] (by rfl) ?_
  simp -implicitDefEqProofs[jJ,-qA,-qB,-qF,h,g]
  (first|refine Ac k ?_|refine Ae k ?_)
  simp -implicitDefEqProofs[jJ,-qA,-qB,-qF];exact⟨by omega,by omega,by omega⟩
 ·have hi2:i=l.length:=by omega
  subst hi2;simp -implicitDefEqProofs[jJ,-qA,-qB,-qF]
end Go.Va
