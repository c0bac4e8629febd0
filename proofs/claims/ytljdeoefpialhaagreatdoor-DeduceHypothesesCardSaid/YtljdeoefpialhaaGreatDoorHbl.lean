/- a part of the proof -/
import Derived.Test.YtljdeoefpialhaaGreatDoorHbk
import Derived.Test.YtljdeoefpialhaaGreatDoorHaz
import Derived.Test.YtljdeoefpialhaaGreatDoorHai
import Derived.Test.YtljdeoefpialhaaGreatDoorHba
set_option linter.all false
set_option maxHeartbeats 4000000
set_option maxRecDepth 100000
namespace Go.Va
open Int renaming natCast_add → qA, natCast_mul → qB, natCast_emod → qC, natCast_ediv → qD, natCast_pow → qE
open List renaming reduceReplicate → qF
open Go.Proofs
def Rl:List (List Nat):=(Ah [0,0,2,6,15,31,0,0,128,384,960,1984,4095,0,0,16384,49152,122880,253952,524287,1048575])
@[simp]def UE:List Seg:=[.any [] [] (Aq [[3],[5],[45],[46],[44,47],[48],[3],[5],[51],[52],[50,53],[54],[49,55],[3],[5],[58],[59],[57,60],[61]]),.one,.one]
def DC(w:List Int)(s:Stp)(k:Nat):Int:=w.getD (s.args.getD k 0).toNat 0
def Do(w:List Int)(s:Stp):Int:=
 if s.kind=2 then DC w s 0+DC w s 1 else if s.kind=3∨s.kind=4 then DC w s 0+DC w s 1+DC w s 2 else if s.kind=5 then 2*DC w s 0+DC w s 1 else 1
def wts(l:List Stp):List Int:=l.foldl (fun w s=>w++[Do w s]) []
theorem K6{l:List Stp}{i:Nat}(h:i<l.length):wts (l.take (i+1))=wts (l.take i)++[Do (wts (l.take i)) l[i]]:=by
 unfold wts;rw[Cr h,List.foldl_append];rfl
theorem MA(l:List Stp): ∀i,i≤l.length→(wts (l.take i)).length=i
 |0,_=>rfl
 |i+1,h=>by rw[K6 h,List.length_append,MA l i (by omega)];rfl
theorem M9{w:List Int}{s:Stp}{k:Nat}{B:Int}(hB:0≤B)(hw: ∀x∈w,0≤x∧x≤B):0≤DC w s k∧DC w s k≤B:=by
 unfold DC;rw[AL];cases hx:w[(s.args.getD k 0).toNat]? with
 |none=>simp[hB]
 |some x=>simpa using hw x (BY hx)
theorem UG(l:List Stp): ∀i,i≤l.length→ ∀x∈wts (l.take i),0≤x∧x≤3^i
 |0,_,x,hx=>by simp[wts]at hx
 |i+1,h,x,hx=>by
  have ih:=UG l i (by omega)
  have hp:(0:Int)≤3^i:=Int.pow_nonneg (by omega)
  have hp1:(1:Int)≤3^i:=by
   have:(1:Nat)≤3^i:=Nat.one_le_pow _ _ (by omega)
   exact_mod_cast this
  rw[K6 h]at hx
  rw[Int.pow_succ]
  rcases List.mem_append.1 hx with hx|hx
  ·have:=ih x hx
   omega
  ·simp only[List.mem_singleton]at hx;subst hx;have a0:=M9 (s:=l[i]) (k:=0) hp ih;have a1:=M9 (s:=l[i]) (k:=1) hp ih;have a2:=M9 (s:=l[i]) (k:=2) hp ih;unfold Do;split
   ·omega
   split
   ·omega
   split
   ·omega
   ·omega
theorem Ze(l:List Stp)(gs:List Fct)(hl:l.length≤8)(he: ∀i (h:i<l.length),errT (l.take i) i l[i]=0):
  CallsF Tryz.prog 45 [.agg [Bx l,AQ gs]] (.u (.c (.own 1 l.length ((wts l).map i64)))):=by
 have hlen:=MA l;have hbd: ∀i,i≤l.length→ ∀x∈wts (l.take i),0≤x∧x≤6561:=fun i hi x hx=>by
  have h:=UG l i hi x hx;have:(3:Int)^i≤6561:=by
   have:(3:Nat)^i≤3^8:=Nat.pow_le_pow_right (by omega) (by omega)
   have e:(3:Nat)^8=6561:=rfl
   rw[e]at this
   exact_mod_cast this
  omega
 have hargs: ∀i (h:i<l.length),(l[i].args.length:Int)=stepN l[i].kind∧ ∀k (hk:k<l[i].args.length),0≤l[i].args[k]∧l[i].args[k]<i:=fun i h=>by
  obtain⟨_,h2,h3,_⟩:=Ll (he i h)
  refine⟨h2,fun k hk=> ?_⟩
  have:=List.any_eq_false.1 h3 _ (AZ hk)
  unfold Di at this;simp at this;omega
 have hfin:l.take l.length=l:=BM
 have hsucc:=fun i (h:i<l.length)=>K6 h
 clear he;refine cO Tryz.func45 rfl ?_;simp -implicitDefEqProofs[jJ,-qA,-qB,-qC,-qD,-qE,-qF];refine CE [(3,83)] (fun i:Nat=>⟨[(4,vI .i64 i),(3,vC (.sl 3 0 i)),(1,vC (.ptr 1 0))],[(3,.row 1 ((wts (l.take i)).map i64) true),(1,.box [.d (Bx l),.d (AQ gs)])]⟩)
  (fun i=>i≤l.length) (fun i=>l.length - i) 0 (by simp[AW,lk,St.le,vI,vC,wts]) (by omega) ?_
 rintro i hi
 by_cases h:i<l.length
 ·have g:=E3 h;have hlen:=hlen i hi;have hbd:=hbd i hi;obtain⟨ha1,ha2⟩:=hargs i h;have hsucc:=hsucc i h;generalize hw:wts (l.take i)=w at*;generalize l[i]=s at*;have hat: ∀k (hk:k<s.args.length),∃x:Int,w[(s.args[k]).toNat]? =some x∧DC w s k=x∧0≤x∧x≤6561:=fun k hk=>by
   have:=ha2 k hk
   have hlt:(s.args[k]).toNat<w.length:=by omega
   refine⟨w[(s.args[k]).toNat],AD hlt,?_,hbd _ (AZ hlt)⟩
   unfold DC;rw[AL (l:=s.args),AD hk,Option.getD_some,AL,AD hlt,Option.getD_some]
  obtain⟨kind,name,args,neg,abs,den⟩:=s
  simp only at g ha1 ha2 hat;by_cases k2:kind=2
  ·subst k2;have hn:args.length=2:=by
    have:stepN 2=2:=rfl
    omega
   match args,hn with
   |[a0,a1],_=>
    obtain⟨x0,e0,f0,g0a,g0b⟩:=hat 0 (by simp)
    have b0:=ha2 0 (by simp)
    obtain⟨x1,e1,f1,g1a,g1b⟩:=hat 1 (by simp)
    have b1:=ha2 1 (by simp)
    simp only[List.getElem_cons_zero,List.getElem_cons_succ]at e0 e1 b0 b1;have hv:Do w ⟨2,name,[a0,a1],neg,abs,den⟩=x0+x1:=by
     unfold Do;simp only[f0,f1];simp
    rw[hv]at hsucc
    clear hat ha1 ha2 hv hbd hargs;simp -implicitDefEqProofs[jJ,-qA,-qB,-qC,-qD,-qE,-qF,h,g];refine AA (Ah [0,0,2,6,15,31,0,0,128,384,960,1984,4095,8191]) [.any [] [] (Aq [[3],[5],[29],[30],[28,31],[32],[3],[5],[35],[36],[34,37],[38]]),.one,.one] (by rfl) ?_
    simp -implicitDefEqProofs[jJ,-qA,-qB,-qC,-qD,-qE,-qF,e0,b0.1,b0.2,e1,b1.1,b1.2,hlen,i64];obtain⟨p0,q0⟩:=jzg.1 e0;obtain⟨p1,q1⟩:=jzg.1 e1;simp only[q0,q1];exact⟨⟨by omega,by omega⟩,⟨by omega,by omega⟩,by omega,i+1,⟨rfl,by rw[hsucc,List.map_append];rfl⟩,by omega,by omega⟩
  by_cases k3:kind=3
  ·subst k3;have hn:args.length=3:=by
    have:stepN 3=3:=rfl
    omega
   match args,hn with
   |[a0,a1,a2],_=>
    obtain⟨x0,e0,f0,g0a,g0b⟩:=hat 0 (by simp)
    have b0:=ha2 0 (by simp)
    obtain⟨x1,e1,f1,g1a,g1b⟩:=hat 1 (by simp)
    have b1:=ha2 1 (by simp)
    obtain⟨x2,e2,f2,g2a,g2b⟩:=hat 2 (by simp)
    have b2:=ha2 2 (by simp)
    simp only[List.getElem_cons_zero,List.getElem_cons_succ]at e0 e1 e2 b0 b1 b2;have hv:Do w ⟨3,name,[a0,a1,a2],neg,abs,den⟩=x0+x1+x2:=by
     unfold Do;simp only[f0,f1,f2];simp
    rw[hv]at hsucc
    clear hat ha1 ha2 hv hbd hargs;simp -implicitDefEqProofs[jJ,-qA,-qB,-qC,-qD,-qE,-qF,h,g];refine AA Rl UE (by rfl) ?_
    simp -implicitDefEqProofs[jJ,-qA,-qB,-qC,-qD,-qE,-qF,e0,b0.1,b0.2,e1,b1.1,b1.2,e2,b2.1,b2.2,hlen,i64];obtain⟨p0,q0⟩:=jzg.1 e0;obtain⟨p1,q1⟩:=jzg.1 e1;obtain⟨p2,q2⟩:=jzg.1 e2;simp only[q0,q1,q2];exact⟨⟨by omega,by omega⟩,⟨by omega,by omega⟩,⟨by omega,by omega⟩,by omega,i+1,⟨rfl,by rw[hsucc,List.map_append];rfl⟩,by omega,by omega⟩
  by_cases k4:kind=4
  ·subst k4;have hn:args.length=3:=by
    have:stepN 4=3:=rfl
    omega
   match args,hn with
   |[a0,a1,a2],_=>
    obtain⟨x0,e0,f0,g0a,g0b⟩:=hat 0 (by simp)
    have b0:=ha2 0 (by simp)
    obtain⟨x1,e1,f1,g1a,g1b⟩:=hat 1 (by simp)
    have b1:=ha2 1 (by simp)
    obtain⟨x2,e2,f2,g2a,g2b⟩:=hat 2 (by simp)
    have b2:=ha2 2 (by simp)
    simp only[List.getElem_cons_zero,List.getElem_cons_succ]at e0 e1 e2 b0 b1 b2;have hv:Do w ⟨4,name,[a0,a1,a2],neg,abs,den⟩=x0+x1+x2:=by
     unfold Do;simp only[f0,f1,f2];simp
    rw[hv]at hsucc
    clear hat ha1 ha2 hv hbd hargs;simp -implicitDefEqProofs[jJ,-qA,-qB,-qC,-qD,-qE,-qF,h,g];refine AA Rl UE (by rfl) ?_
    simp -implicitDefEqProofs[jJ,-qA,-qB,-qC,-qD,-qE,-qF,e0,b0.1,b0.2,e1,b1.1,b1.2,e2,b2.1,b2.2,hlen,i64];obtain⟨p0,q0⟩:=jzg.1 e0;obtain⟨p1,q1⟩:=jzg.1 e1;obtain⟨p2,q2⟩:=jzg.1 e2;simp only[q0,q1,q2];exact⟨⟨by omega,by omega⟩,⟨by omega,by omega⟩,⟨by omega,by omega⟩,by omega,i+1,⟨rfl,by rw[hsucc,List.map_append];rfl⟩,by omega,by omega⟩
  by_cases k5:kind=5
  ·subst k5;have hn:args.length=2:=by
    have:stepN 5=2:=rfl
    omega
   match args,hn with
   |[a0,a1],_=>
    obtain⟨x0,e0,f0,g0a,g0b⟩:=hat 0 (by simp)
    have b0:=ha2 0 (by simp)
    obtain⟨x1,e1,f1,g1a,g1b⟩:=hat 1 (by simp)
    have b1:=ha2 1 (by simp)
    simp only[List.getElem_cons_zero,List.getElem_cons_succ]at e0 e1 b0 b1;have hv:Do w ⟨5,name,[a0,a1],neg,abs,den⟩=2*x0+x1:=by
     unfold Do;simp only[f0,f1];simp
    rw[hv]at hsucc
    clear hat ha1 ha2 hv hbd hargs;simp -implicitDefEqProofs[jJ,-qA,-qB,-qC,-qD,-qE,-qF,h,g];refine AA (Ah [0,0,2,6,15,31,63,0,0,256,768,1920,3968,8191,16383]) [.any [] [] (Aq [[3],[5],[67],[68],[66,69],[70],[71],[3],[5],[74],[75],[73,76],[77]]),.one,.one] (by rfl) ?_
    simp -implicitDefEqProofs[jJ,-qA,-qB,-qC,-qD,-qE,-qF,e0,b0.1,b0.2,e1,b1.1,b1.2,hlen,i64];obtain⟨p0,q0⟩:=jzg.1 e0;obtain⟨p1,q1⟩:=jzg.1 e1;simp only[q0,q1];exact⟨⟨by omega,by omega⟩,⟨by omega,by omega⟩,⟨by omega,by omega⟩,by omega,i+1,⟨rfl,by rw[hsucc,List.map_append];rfl⟩,by omega,by omega⟩
  have hv:Do w ⟨kind,name,args,neg,abs,den⟩=1:=by
   unfold Do;simp[k2,k3,k4,k5]
  rw[hv]at hsucc
  clear hat ha1 ha2 hv hbd hargs;simp -implicitDefEqProofs[jJ,-qA,-qB,-qC,-qD,-qE,-qF,h,g,k2,k3,k4,k5,hlen];exact⟨⟨by omega,by omega⟩,by omega,i+1,⟨rfl,by rw[hsucc,List.map_append];rfl⟩,by omega,by omega⟩
 ·have hi2:i=l.length:=by omega
  subst hi2;have hlen:=hlen l.length (AO _);rw[hfin]at hlen ⊢;simp -implicitDefEqProofs[jJ,-qA,-qB,-qC,-qD,-qE,-qF,hlen]
def Hf(x:Int):Bool:= !decide (8<x)
def FD(w:List Int)(k:Int)(a:Int):Bool:= !((decide (k=6)||decide (k=7))&&decide (3<w.getD a.toNat 0))
def JI(w:List Int)(g:Fct):Bool:=g.args.all (FD w g.kind)
def thinB(l:List Stp)(gs:List Fct):Bool:=(wts l).all Hf&&gs.all (JI (wts l))
theorem jgT(l:List Stp)(gs:List Fct)(hl:l.length≤8)(hg:gs.length≤8)(he:errFig l gs=0):
  CallsF Tryz.prog 20 [.agg [Bx l,AQ gs]] (.u (.c (.d (.bool (thinB l gs))))):=by
 obtain⟨z1,z2⟩:=L7 he
 have kw:=Ze l gs hl z1;have hlen:=MA l l.length (AO _);rw[BM]at hlen;have hin: ∀g∈gs,g.args.length≤8∧ ∀a∈g.args,0≤a∧a<(l.length:Int):=fun g hg=>by
  have w:=z2 g hg;refine⟨Sq w,fun a ha=> ?_⟩
  unfold wrong at w;split at w
  ·cases w
  split at w
  ·cases w
  split at w
  ·cases w
  rename_i h3
  have h3:(g.args.any fun a=>decide (a<0)||decide ((l.length:Int)≤a))=false:=by simpa using h3
  have:=List.any_eq_false.1 h3 a ha
  simp at this;omega
 unfold thinB;generalize wts l=w at*;clear he z1 z2;refine cO Tryz.func20 rfl ?_;simp -implicitDefEqProofs[jJ,-qA,-qB,-qF]
 (first|refine Ac kw ?_|refine Ae kw ?_)
 simp -implicitDefEqProofs[jJ,-qA,-qB,-qF];refine AV (fun i:Nat=>⟨[(4,vI .i64 i),(3,vC (.sl 9 0 l.length)),(1,vC (.ptr 1 0))],[(9,.row 1 (w.map i64) true),(1,.box [.d (Bx l),.d (AQ gs)])]⟩)
  (fun i=>i≤l.length∧CB Hf w i) (fun i=>l.length - i) 0 (by simp[AW,lk,St.le,vI,vC]) ⟨by omega,HJ _ _⟩ ?_
 rintro i ⟨hi,hall⟩
 by_cases h:i<l.length
 ·have hw:i<w.length:=by omega
  have e:w[i]? =some w[i]:=AD hw
  by_cases h8:8<w[i]
  ·have hno:w.all Hf=false:=Is hw (by unfold Hf;simp[h8])
   rw[hno]
   simp -implicitDefEqProofs[jJ,-qA,-qB,-qF,h,e,h8,i64,hlen]
  ·have hy:=Iu hw hall (by unfold Hf;simp[h8])
   simp -implicitDefEqProofs[jJ,-qA,-qB,-qF,h,e,h8,i64,hlen];exact⟨by omega,⟨by omega,hy⟩,by omega⟩
 ·have hi2:i=l.length:=by omega
  subst hi2;have hy:w.all Hf=true:=HZ (by rw[hlen];exact hall)
  rw[hy,Bool.true_and]
  simp -implicitDefEqProofs[jJ,-qA,-qB,-qF];refine AV (fun i:Nat=>⟨[(5,vI .i64 i),(3,vC (.sl 9 0 l.length)),(1,vC (.ptr 1 0))],[(9,.row 1 (w.map i64) true),(1,.box [.d (Bx l),.d (AQ gs)])]⟩)
   (fun i=>i≤gs.length∧CB (JI w) gs i) (fun i=>gs.length - i) 0 (by simp[AW,lk,St.le,vI,vC]) ⟨by omega,HJ _ _⟩ ?_
  rintro i ⟨hi,hall⟩
  by_cases h:i<gs.length
  ·have e2:=Gg h;obtain⟨ha8,hag⟩:=hin _ (AZ h);have hgo:gs[i].args.all (FD w gs[i].kind)=true→CB (JI w) gs (i+1):=fun hh=>Iu h hall hh
   have hgn:gs[i].args.all (FD w gs[i].kind)=false→gs.all (JI w)=false:=fun hh=>Is h hh
   generalize gs[i]=f at*;obtain⟨k,al,ng,ab,dn⟩:=f;simp only at e2 ha8 hag hgo hgn;simp -implicitDefEqProofs[jJ,-qA,-qB,-qF,h,e2];refine AV (fun q:Nat=>⟨[(7,vI .i64 q),(6,vC (.ptr 6 0)),(5,vI .i64 i),(3,vC (.sl 9 0 l.length)),(1,vC (.ptr 1 0))],[(6,.box [.d (.int .i64 k),.d (intsD al),.d (.bool ng),.d (Ad ab),.d (Ad dn)]),(9,.row 1 (w.map i64) true),(1,.box [.d (Bx l),.d (AQ gs)])]⟩)
    (fun q=>q≤al.length∧CB (FD w k) al q) (fun q=>al.length - q) 0 (by simp[AW,lk,St.le,vI,vC]) ⟨by omega,HJ _ _⟩ ?_
   rintro q ⟨hq,hqa⟩
   by_cases h2:q<al.length
   ·obtain⟨b1,b2⟩:=hag _ (AZ h2)
    have hwl:(al[q]).toNat<w.length:=by omega
    have e3:w[(al[q]).toNat]? =some w[(al[q]).toNat]:=AD hwl
    have e4:w.getD (al[q]).toNat 0=w[(al[q]).toNat]:=by rw[AL,e3];rfl
    have hsn:(!((decide (k=6)||decide (k=7))&&decide (3<w[(al[q]).toNat])))=true→CB (FD w k) al (q+1):=fun hh=>Iu h2 hqa (by unfold FD;rw[e4];exact hh)
    have hsf:(!((decide (k=6)||decide (k=7))&&decide (3<w[(al[q]).toNat])))=false→al.all (FD w k)=false:=fun hh=>Is h2 (by unfold FD;rw[e4];exact hh)
    by_cases hk:k=6∨k=7
    ·by_cases h3:3<w[(al[q]).toNat]
     ·have hno:=hgn (hsf (by rcases hk with rfl|rfl<;>simp[h3]))
      rw[hno]
      rcases hk with rfl|rfl<;>simp -implicitDefEqProofs[jJ,-qA,-qB,-qF,h2,i64,b1,b2,e3,h3,hlen]
     ·have hyy:=hsn (by simp[h3])
      rcases hk with rfl|rfl
      ·simp -implicitDefEqProofs[jJ,-qA,-qB,-qF,h2,i64,b1,b2,e3,h3,hlen];exact⟨by omega,⟨by omega,hyy⟩,by omega⟩
      ·simp -implicitDefEqProofs[jJ,-qA,-qB,-qF,h2,i64,b1,b2,e3,h3,hlen];exact⟨by omega,⟨by omega,hyy⟩,by omega⟩
    ·have k6: ¬k=6:=fun h=>hk (.inl h)
     have k7: ¬k=7:=fun h=>hk (.inr h)
     have hyy:=hsn (by simp[k6,k7])
     simp -implicitDefEqProofs[jJ,-qA,-qB,-qF,h2,k6,k7];exact⟨by omega,⟨by omega,hyy⟩,by omega⟩
   ·have hq2:q=al.length:=by omega
    subst hq2;have hyy:=hgo (HZ hqa);simp -implicitDefEqProofs[jJ,-qA,-qB,-qF];exact⟨by omega,⟨by omega,hyy⟩,by omega⟩
  ·have hi2:i=gs.length:=by omega
   subst hi2;have hy:=HZ hall;rw[hy];simp -implicitDefEqProofs[jJ,-qA,-qB,-qF]
def Ft(s:Stp):Bool:=decide (2<s.abs.length)||decide (2<s.den.length)
def Fd(g:Fct):Bool:=decide (2<g.abs.length)||decide (2<g.den.length)
def CA{α:Type}(p:α→Bool)(x:α):Bool:= !p x
def fewB(l:List Stp)(gs:List Fct):Bool:=
 decide (l.length≤8)&&(decide (gs.length≤3)&&(decide (errFig l gs=0)&&(thinB l gs&&(l.all (CA Ft)&&gs.all (CA Fd)))))
theorem Y4(l:List Stp)(gs:List Fct)(ho: ∀s∈l,s.Ok)(hgo: ∀g∈gs,g.Long):
  CallsF Tryz.prog 9 [.agg [Bx l,AQ gs]] (.u (.c (.d (.bool (fewB l gs))))):=by
 unfold fewB;by_cases h1:l.length≤8
 ·by_cases h2:gs.length≤3
  ·have k1:=Tf l gs (by omega) (by omega) ho hgo
   have k2:=jgT l gs h1 (by omega)
   rw[decide_eq_true h1,decide_eq_true h2,Bool.true_and,Bool.true_and]
   clear ho hgo;have n1: ¬8<l.length:=by omega
   have n2: ¬3<gs.length:=by omega
   generalize errFig l gs=e at*;by_cases h3:e=0
   ·have k3:=k2 h3;clear k2;subst h3;generalize thinB l gs=tb1 at*;cases tb1 with
    |false=>
     refine cO Tryz.func9 rfl ?_;simp -implicitDefEqProofs[jJ,-qA,-qB,-qF,n1,n2]
     (first|refine Ac k1 ?_|refine Ae k1 ?_)
     simp -implicitDefEqProofs[jJ,-qA,-qB,-qF]
     (first|refine Ac k3 ?_|refine Ae k3 ?_)
     simp -implicitDefEqProofs[jJ,-qA,-qB,-qF]
    |true=>
     simp only[decide_true,Bool.true_and];refine cO Tryz.func9 rfl ?_;simp -implicitDefEqProofs[jJ,-qA,-qB,-qF,n1,n2]
     (first|refine Ac k1 ?_|refine Ae k1 ?_)
     simp -implicitDefEqProofs[jJ,-qA,-qB,-qF]
     (first|refine Ac k3 ?_|refine Ae k3 ?_)
     simp -implicitDefEqProofs[jJ,-qA,-qB,-qF];refine AV (fun i:Nat=>⟨[(3,vI .i64 i),(1,vC (.ptr 1 0))],[(1,.box [.d (Bx l),.d (AQ gs)])]⟩)
      (fun i=>i≤l.length∧CB (CA Ft) l i) (fun i=>l.length - i) 0 (by simp[AW,lk,St.le,vI,vC]) ⟨by omega,HJ _ _⟩ ?_
     rintro i ⟨hi,hall⟩
     by_cases h:i<l.length
     ·have g:=E3 h;have hy:=fun hh=>Iu h hall hh
      have hn:=fun hh=>Is (p:=CA Ft) h hh
      unfold CA Ft at hy hn;generalize l[i]=s at*;obtain⟨kind,name,args,neg,abs,den⟩:=s;simp only at g hy hn;by_cases c1:2<abs.length
      ·have hn:=hn (by simp[c1])
       have hn':l.all (CA Ft)=false:=hn
       rw[hn']
       simp -implicitDefEqProofs[jJ,-qA,-qB,-qF,h,g,c1]
      ·by_cases c2:2<den.length
       ·have hn:=hn (by simp[c2])
        have hn':l.all (CA Ft)=false:=hn
        rw[hn']
        simp -implicitDefEqProofs[jJ,-qA,-qB,-qF,h,g,c1,c2]
       ·have hy:=hy (by simp[c1,c2])
        have hy':CB (CA Ft) l (i+1):=hy;simp -implicitDefEqProofs[jJ,-qA,-qB,-qF,h,g,c1,c2];exact⟨by omega,⟨by omega,hy'⟩,by omega⟩
     ·have hi2:i=l.length:=by omega
      subst hi2;rw[HZ hall,Bool.true_and];simp -implicitDefEqProofs[jJ,-qA,-qB,-qF];refine AV (fun i:Nat=>⟨[(4,vI .i64 i),(1,vC (.ptr 1 0))],[(1,.box [.d (Bx l),.d (AQ gs)])]⟩)
       (fun i=>i≤gs.length∧CB (CA Fd) gs i) (fun i=>gs.length - i) 0 (by simp[AW,lk,St.le,vI,vC]) ⟨by omega,HJ _ _⟩ ?_
      rintro i ⟨hi,hall⟩
      by_cases h:i<gs.length
      ·have g:=Gg h;have hy:=fun hh=>Iu h hall hh
       have hn:=fun hh=>Is (p:=CA Fd) h hh
       unfold CA Fd at hy hn;generalize gs[i]=s at*;obtain⟨kind,args,neg,abs,den⟩:=s;simp only at g hy hn;by_cases c1:2<abs.length
       ·have hn:=hn (by simp[c1])
        have hn':gs.all (CA Fd)=false:=hn
        rw[hn']
        simp -implicitDefEqProofs[jJ,-qA,-qB,-qF,h,g,c1]
       ·by_cases c2:2<den.length
        ·have hn:=hn (by simp[c2])
         have hn':gs.all (CA Fd)=false:=hn
         rw[hn']
         simp -implicitDefEqProofs[jJ,-qA,-qB,-qF,h,g,c1,c2]
        ·have hy:=hy (by simp[c1,c2])
         have hy':CB (CA Fd) gs (i+1):=hy;simp -implicitDefEqProofs[jJ,-qA,-qB,-qF,h,g,c1,c2];exact⟨by omega,⟨by omega,hy'⟩,by omega⟩
      ·have hi2:i=gs.length:=by omega
       subst hi2;rw[HZ hall];simp -implicitDefEqProofs[jJ,-qA,-qB,-qF]
   ·rw[decide_eq_false h3,Bool.false_and]
    refine cO Tryz.func9 rfl ?_;simp -implicitDefEqProofs[jJ,-qA,-qB,-qF,n1,n2]
    (first|refine Ac k1 ?_|refine Ae k1 ?_)
    simp -implicitDefEqProofs[jJ,-qA,-qB,-qF,h3]
  ·have n1: ¬8<l.length:=by omega
   have n2:3<gs.length:=by omega
   rw[decide_eq_true h1,decide_eq_false h2,Bool.true_and,Bool.false_and]
   refine cO Tryz.func9 rfl ?_;simp -implicitDefEqProofs[jJ,-qA,-qB,-qF,n1,n2]
 ·have n1:8<l.length:=by omega
  rw[decide_eq_false h1,Bool.false_and]
  refine cO Tryz.func9 rfl ?_;simp -implicitDefEqProofs[jJ,-qA,-qB,-qF,n1]
theorem jh8(l:List Stp)(gs:List Fct)(ho: ∀s∈l,s.Ok)(hgo: ∀g∈gs,g.Long):
  CallsF Tryz.prog 4 [.agg [Bx l,AQ gs]] (.u (.c (.d (.bool (fewB l gs))))):=by
 have k:=Y4 l gs ho hgo;generalize fewB l gs=b at*;refine cO Tryz.func4 rfl ?_;simp -implicitDefEqProofs[jJ,-qA,-qB,-qF]
 (first|refine Ac k ?_|refine Ae k ?_)
 simp -implicitDefEqProofs[jJ,-qA,-qB,-qF]
end Go.Va
namespace Go.Va
open Go.RowKit
def H6:Nat→Code→Code
 |0,_=> .skip
 |n+1,.seq x y=> .seq x (H6 n y)
 |_,_=> .goto 0
def back:Nat→Code→Code
 |0,c=>c
 |n+1,.seq _ y=>back n y
 |_,_=> .skip
def He(Mid:St→Prop)(Q:Bk):Bk:=fun e s=>match e with| .normal=>Mid s|e=>Q e s
section
variable [Gv] {P:Program} {T:AH} {X:Cx}
theorem OC(hT:A5 P T)(hY: ∀Y,X.Y=some Y→YlOk P Y)(hm:P.follows .mixedOrders=true){R:Exit→Act→World→Prop}{Mid:St→Prop}{Q:Bk}
  (hQ: ∀e a w,e≠ .normal→Jz X Q e a w→R e a w): ∀(n:Nat) (c:Code) (a:Act) (w:World),B6 X.n X.pin c=true→BX X (fun st=>Bl P T (H6 n c) st (He Mid Q)) a w→
  (∀a w,BX X Mid a w→(back n c).wp P R a w)→c.wp P R a w
 |0,c,a,w,_,h,hb=>hb a w h
 |n+1,.seq x y,a,w,hok,h,hb=>by
  simp only[B6,AR]at hok;refine wp_seq ((Dr hT hY hm x (DO (Bl P T (H6 n y)) (He Mid Q)) a w hok.1 h).mono' fun e a' w' he=> ?_)
  cases e
  case normal=>exact OC hT hY hm hQ n y a' w' hok.2 he hb
  all_goals exact hQ _ a' w' (by simp) he
 |n+1,.skip,a,w,_,⟨_,_,_,_,_,_,_,_,h⟩,_=>h.elim
 |n+1,.region _ _ _,a,w,_,⟨_,_,_,_,_,_,_,_,h⟩,_=>h.elim
 |n+1,.cond _ _ _,a,w,_,⟨_,_,_,_,_,_,_,_,h⟩,_=>h.elim
 |n+1,.block _ _,a,w,_,⟨_,_,_,_,_,_,_,_,h⟩,_=>h.elim
 |n+1,.loop _,a,w,_,⟨_,_,_,_,_,_,_,_,h⟩,_=>h.elim
 |n+1,.exit _,a,w,_,⟨_,_,_,_,_,_,_,_,h⟩,_=>h.elim
 |n+1,.ret,a,w,_,⟨_,_,_,_,_,_,_,_,h⟩,_=>h.elim
 |n+1,.rangeFunc _ _ _ _,a,w,_,⟨_,_,_,_,_,_,_,_,h⟩,_=>h.elim
 |n+1,.scope _,a,w,_,⟨_,_,_,_,_,_,_,_,h⟩,_=>h.elim
 |n+1,.label _,a,w,_,⟨_,_,_,_,_,_,_,_,h⟩,_=>h.elim
 |n+1,.goto _,a,w,_,⟨_,_,_,_,_,_,_,_,h⟩,_=>h.elim
 |n+1,.refuse _,a,w,_,⟨_,_,_,_,_,_,_,_,h⟩,_=>h.elim
end
theorem jht{P:Program}{T:AH}(hT:A5 P T)(hm:P.follows .mixedOrders=true){f:FuncId}{fn:Func}{c:Code}{bs:List A}{s:ByteArray}(n:Nat)(Mid:St→Prop)(hf:P.funcs[f]? =some fn)(hb:fn.body=some c)
  (hname : (fn.name == "runtime.NumGoroutine") = false) (hn : bs.length ≤ fn.ntmps) (hok : B6 fn.ntmps [] c = true)
  (hw: ∀[Gv],Bl P T (H6 n c) (St.init bs) (He Mid (HU T fn.results.toList (.u (.c (.d (.str s)))))))
  (hback: ∀[Gv] (Z:Addr→Prop) (w0 w:World) (ρ:AE) (st:St) (a:Act),Rel (fun _=>False) Z w0 ρ st a w→a.tmps.size=fn.ntmps→Mid st→
   (back n c).wp P (bodyPost P fn fun e w'=>e= .returned (.string s)∧Below w.heap.size w w'∧w.drawn≤w'.drawn) a w):CallsF P f bs (.u (.c (.d (.str s)))):=by
 refine⟨⟨fn,hf,by rw[hb];rfl,hname⟩,fun w Z vals hZ hvals=> ?_⟩
 have hlen:vals.length=bs.length:=hvals.1.symm
 refine calls_of_wp hf hb ?_;have hsz:(vals.toArray++Array.replicate (fn.ntmps - vals.toArray.size) undef).size=fn.ntmps:=by simp;omega
 have hrel:Rel (fun _=>False) Z w (fun _=>none) (St.init bs) { tmps:=vals.toArray++Array.replicate (fn.ntmps - vals.toArray.size) undef,defers:=[] } w:=
  {fr:=⟨rfl,AO _,rfl,rfl,AO _,fun a v _ h=>h,fun _ _ _=>rfl,fun _ _ _=>rfl⟩
   heap:=⟨⟨fun i o hi=>(by cases hi),fun i i' o o' hi=>(by cases hi),fun i o hi=>(by cases hi)⟩,fun i b hb=>(by cases hb)⟩
   mine:=fun i o ad hi=>(by cases hi)
   out:=hZ
   mz:=fun ad h=>h.elim
   tmps:=fun t v hv=>by
    obtain⟨_,x,hx,hr⟩:=GL bs vals 0 hvals t v hv
    have ht:t<vals.length:=by simpa using (jzg.1 hx).1
    simp only[Nat.sub_zero]at hx;have:(vals.toArray++Array.replicate (fn.ntmps - vals.toArray.size) undef).getD t undef=x:=by
     rw[Cn,Array.getElem?_append_left (by simpa using ht)]
     simp[hx]
    rw[this]
    exact hr
   defers:=rfl
   mps:=fun i o hi=>by cases hi }
 refine OC (X:=⟨fun _=>False,Z,w,fn.ntmps,[],fun _=>undef,none,fun _=>False,fun _=>False⟩) hT (fun Y h=>by cases h) hm (Mid:=Mid) (Q:=HU T fn.results.toList (.u (.c (.d (.str s))))) ?_ n c _ w hok
  ⟨_,_,_,_,_,⟨fun k hk=>by simp at hk,fun _=>⟨rfl,rfl,rfl⟩,hrel.fr.mono fun _ h=> .inl h,fun _ h=>h,fun _ h=> .inl h,fun x r hh=>absurd hh (GU bs 0 YS x r)⟩,hrel,hsz,hw⟩ ?_
 ·intro e a' w' hne hg;obtain⟨M1,Z1,w1,ρ,st,hL,h1,h2,hend,v,hv,hl,hfit⟩:=hg;obtain⟨rfl,rfl,rfl⟩:=hL.plain rfl;obtain⟨x,hx,hrx⟩:=GT (P:=P) hT h1 hv;have hres:=Ts h1 hl hfit hrx;have hbel:Ext w1 w':=⟨⟨h1.fr.os,h1.fr.tape,h1.fr.output,h1.fr.size,fun k hk=>h1.fr.blk k hk (fun _ _ h=>h)⟩,h1.fr.drawn⟩
  rcases hend with rfl|rfl
  ·exact⟨h1.defers,x,hx,x,rfl,hbel,hres⟩
  ·exact⟨h1.defers,x,hx,x,rfl,hbel,hres⟩
 ·rintro a' w' ⟨M1,Z1,w1,ρ,st,hL,h1,h2,h3⟩
  obtain⟨rfl,rfl,rfl⟩:=hL.plain rfl
  have hbel:Ext w1 w':=⟨⟨h1.fr.os,h1.fr.tape,h1.fr.output,h1.fr.size,fun k hk=>h1.fr.blk k hk (fun _ _ h=>h)⟩,h1.fr.drawn⟩
  refine(hback _ _ w' ρ st a' h1 h2 h3).mono' fun e a2 w2 hg=> ?_
  have fin: ∀(e:Ending) (w2:World),(e= .returned (.string s)∧Below w'.heap.size w' w2∧w'.drawn≤w2.drawn)→ ∃v,e= .returned v∧Ext w1 w2∧Hb w1 w2 Z1 (.u (.c (.d (.str s)))) v:=by
   rintro e w2 ⟨rfl,hb,hd⟩
   refine⟨_,rfl,⟨hbel.toBelow.trans (hb.mono hbel.toBelow.size),Nat.le_trans hbel.drawn hd⟩,by simp[R.rows,RU.rows,RC.rows],⟨0,0,0,0,false,false,true⟩,fun ad h=>(by cases h.1),fun k=>⟨RepD.str _,⟨⟨fun i o hi=>(by cases hi),fun i i' o o' hi=>(by cases hi),fun i o hi=>(by cases hi)⟩,fun i b hb=>(by cases hb)⟩⟩⟩
  cases e with
  |normal=>obtain⟨g1,v,g2,g3⟩:=hg;exact⟨g1,v,g2,fin _ _ g3⟩
  |ret=>obtain⟨g1,v,g2,g3⟩:=hg;exact⟨g1,v,g2,fin _ _ g3⟩
  |panic ch=>exact⟨hg.1,fin _ _ hg.2⟩
  |outgrown=>exact fin _ _ hg
  |exit _=>exact hg.elim
  |goto _=>exact hg.elim
end Go.Va
namespace Go.Va
open Go
def BI(n:Nat):List UInt8:=if n=0 then [] else Lib.decDigits n
theorem digO_nil{n:Nat}:BI n=[]↔n=0:=by
 unfold BI;split
 ·simp[*]
 ·simp[*,Nu]
theorem digO_len{n:Nat}:0<(BI n).length↔n≠0:=by
 constructor
 ·intro h h0;rw[digO_nil.2 h0]at h;cases h
 ·intro h;rcases Nat.eq_zero_or_pos (BI n).length with h0|h0
  ·exact absurd (digO_nil.1 (jzv.1 h0)) h
  ·exact h0
theorem jkd{m x:Nat}(hx:x<10)(h:m*10+x≠0):BI (m*10+x)=BI m++[UInt8.ofNat (48+x)]:=by
 unfold BI;rw[if_neg h];split
 ·rename_i h0
  subst h0;rw[Lib.decDigits,dif_pos (by omega)]
  simp
 ·rename_i h0
  rw[Lib.decDigits,dif_neg (by omega),show(m*10+x)/10=m by omega,show(m*10+x)%10=x by omega]
def d1(out:List UInt8)(g d:Nat):List UInt8:=if 0<out.length∨d≤g then out++[UInt8.ofNat (48+g/d%10)] else out
theorem HY{m g d x n:Nat}(hx:g/d%10=x)(hn:m*10+x=n)(hc:d≤g→n≠0)(hm:m=0→n≠0→d≤g):d1 (BI m) g d=BI n:=by
 subst hn;subst hx;have hlt:g/d%10<10:=Nat.mod_lt _ (by omega)
 unfold d1;by_cases h:m*10+g/d%10=0
 ·have m0:m=0:=by omega
  rw[if_neg,h,m0]
  rintro (h1|h1)
  ·exact digO_len.1 h1 m0
  ·exact hc h1 h
 ·rw[if_pos,jkd hlt h]
  rcases Nat.eq_zero_or_pos m with m0|m0
  ·exact .inr (hm m0 h)
  ·exact .inl (digO_len.2 (by omega))
def d4(out:List UInt8)(g:Nat):List UInt8:=d1 (d1 (d1 (d1 out g 1000) g 100) g 10) g 1
theorem jaa{m g:Nat}(hg:g<10000):d4 (BI m) g=BI (m*10000+g):=by
 unfold d4;rw[HY (m:=m) (g:=g) (d:=1000) (n:=m*10+g/1000) rfl (by omega) (by omega) (by omega),
  HY (g:=g) (d:=100) (n:=m*100+g/100) rfl (by omega) (by omega) (by omega),
  HY (g:=g) (d:=10) (n:=m*1000+g/10) rfl (by omega) (by omega) (by omega),
  HY (g:=g) (d:=1) (n:=m*10000+g) rfl (by omega) (by omega) (by omega)]
def C5(m k:Nat):List Nat:=(List.range k).map fun j=>m/10000^j%10000
theorem jkt(m k:Nat):(C5 m k).length=k:=by simp[C5]
theorem jir(m k:Nat):C5 m (k+1)=C5 m k++[m/10000^k%10000]:=by simp[C5,List.range_succ]
theorem jiz{m k i:Nat}(h:i<k):(C5 m k)[i]? =some (m/10000^i%10000):=by simp[C5,h]
theorem NQ(m i:Nat):m/10000^(i+1)*10000+m/10000^i%10000=m/10000^i:=by
 rw[Nat.pow_succ,←Nat.div_div_eq_div_mul]
 omega
theorem jkc(m i:Nat):d4 (BI (m/10000^(i+1))) (m/10000^i%10000)=BI (m/10000^i):=by
 rw[jaa (Nat.mod_lt _ (by omega)),NQ]
theorem KT: ∀(k n:Nat),n<10^(k+1)→(Lib.decDigits n).length≤k+1
 |0,n,h=>by rw[Lib.decDigits,dif_pos (by omega)];simp
 |k+1,n,h=>by
  rw[Lib.decDigits]
  split
  ·simp
  ·rw[List.length_append,List.length_singleton]
   have:=KT k (n/10) (by rw[Nat.pow_succ]at h;omega)
   omega
theorem jaM{k n:Nat}(h:n<10^(k+1)):(BI n).length≤k+1:=by
 unfold BI;split
 ·simp
 ·exact KT k n h
end Go.Va
