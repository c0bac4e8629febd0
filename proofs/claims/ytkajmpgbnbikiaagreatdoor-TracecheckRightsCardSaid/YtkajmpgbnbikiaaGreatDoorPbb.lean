/- a part of the proof -/
import Derived.Test.YtkajmpgbnbikiaaGreatDoorPba
import Derived.Test.YtkajmpgbnbikiaaGreatDoorPaj
import Derived.Test.YtkajmpgbnbikiaaGreatDoorPzL
set_option linter.all false
set_option maxHeartbeats 4000000
set_option maxRecDepth 10000
namespace Go.Va
open Int (natCast_add natCast_mul natCast_emod natCast_ediv natCast_pow)
open Go.Proofs
def CJ:List Int→Int
 |[]=>0
 |e::l=>if e=0 then CJ l else e
def CA(n:Int)(ds:List Der):List Int:=ds.zipIdx.map fun p=>errF n p.2 p.1
def CE(n:Int)(gs:List Grd):List Int:=gs.map (errG n)
def errR(n:Int)(ds:List Der)(gs:List Grd):Int:=CJ (CA n ds++CE n gs)
def EK(ds:List Der)(gs:List Grd):List D:=DE ds ds.length++DZ gs gs.length
theorem Hz(n:Int)(ds:List Der):(CA n ds).length=ds.length:=by simp[CA]
theorem Ro(n:Int)(gs:List Grd):(CE n gs).length=gs.length:=by simp[CE]
theorem ZD(n:Int){ds:List Der}{i:Nat}(h:i<ds.length):(CA n ds)[i]? =some (errF n i ds[i]):=by
 simp[CA,AX,List.getElem?_zipIdx,h]
theorem jjL(n:Int){gs:List Grd}{i:Nat}(h:i<gs.length):(CE n gs)[i]? =some (errG n gs[i]):=by
 simp[CE,h]
theorem RZ{α:Type}{l:List α}{i:Nat}{x:α}(h:l[i]? =some x):l.drop i=x::l.drop (i+1):=by
 obtain⟨hi,rfl⟩:=jzg.1 h
 exact Be hi
theorem H1{l:List Int}{i:Nat}{E:Int}(h:l[i]? =some 0)(hE:CJ (l.drop i)=E):CJ (l.drop (i+1))=E:=by
 rw[RZ h]at hE
 simpa [CJ]using hE
theorem EX{l:List Int}{i:Nat}{E e:Int}(h:l[i]? =some e)(he:e≠0)(hE:CJ (l.drop i)=E):e=E:=by
 rw[RZ h]at hE
 simpa [CJ,he]using hE
theorem Tl{l:List Int}{i:Nat}{E:Int}(h:l.length≤i)(hE:CJ (l.drop i)=E):E=0:=by
 rw[List.drop_eq_nil_of_le h]at hE
 exact hE.symm
theorem Yt{ds:List Der}{gs:List Grd}{i:Nat}(h:i<ds.length):(EK ds gs)[i]? =some (ds[i].part i):=by
 unfold EK;rw[List.getElem?_append_left (by rw[Gu (At _)];exact h)]
 simp[DE,AX,List.getElem?_zipIdx,h]
theorem jgk{ds:List Der}{gs:List Grd}{i:Nat}(h:i<gs.length):(EK ds gs)[ds.length+i]? =some (gs[i].part i):=by
 unfold EK;rw[List.getElem?_append_right (by rw[Gu (At _)];omega),Gu (At _),Nat.add_sub_cancel_left]
 simp[DZ,AX,List.getElem?_zipIdx,h]
theorem jf6(ds:List Der)(gs:List Grd):(EK ds gs).length=ds.length+gs.length:=by
 unfold EK;rw[List.length_append,Gu (At _),M2 (At _)]
theorem V4{n:Int}{ds:List Der}{gs:List Grd}{i:Nat}(h:i<ds.length):(CA n ds++CE n gs)[i]? =some (errF n i ds[i]):=by
 rw[List.getElem?_append_left (by rw[Hz];exact h),ZD n h]
theorem V3{n:Int}{ds:List Der}{gs:List Grd}{i:Nat}(h:i<gs.length):(CA n ds++CE n gs)[ds.length+i]? =some (errG n gs[i]):=by
 rw[List.getElem?_append_right (by rw[Hz];omega),Hz,Nat.add_sub_cancel_left,jjL n h]
theorem jju(ds:List Der)(gs:List Grd)(n:Int)(hd:ds.length≤1000)(hg:gs.length≤1000)(hm: ∀x∈ds,x.Mild)(hs: ∀g∈gs,g.args.length≤1000):
  CallsF Tryz.prog 8 [.agg [Ds ds,AR gs],.c (.int .i64 n)] (.u (.c (.d (.int .i64 (errR n ds gs))))):=by
 have k1:=ji6 ds gs hd hg;obtain⟨E,hE⟩: ∃E,CJ ((CA n ds++CE n gs).drop 0)=E:=⟨_,rfl⟩;have hE0:errR n ds gs=E:=hE;rw[hE0]
 change CallsF _ _ _ (.u (.c (.own 1 (ds.length+gs.length) (EK ds gs))))at k1
 have hall:=jf6 ds gs;have herr:(CA n ds++CE n gs).length=ds.length+gs.length:=by rw[List.length_append,Hz,Ro]
 refine Aj (T:=tb) Ai mixed Tryz.func8 rfl (by decide) (Ah rfl) rfl ?_;unfold St.init
 simp only[Ds,AR]at*;simp -implicitDefEqProofs[-HX,jJ,-natCast_add,-natCast_mul,-List.reduceReplicate]
 (first|refine Ab k1 ?_|refine Aa k1 ?_)
 simp -implicitDefEqProofs[-HX,jJ,-natCast_add,-natCast_mul,-List.reduceReplicate];refine AA (fun i:Nat=>⟨[(13,vI .i64 i),(12,vI .i64 ((ds.length+gs.length:Nat):Int)),(11,vC (.sl 11 0 (ds.length+gs.length))),(1,vI .i64 n)],[(11,.row 1 (EK ds gs) true)]⟩)
  (fun i=>i≤ds.length+gs.length∧CJ ((CA n ds++CE n gs).drop i)=E) (fun i=>ds.length+gs.length - i) 0 (by simp[-HX,As,lk,St.le,vI,vC]) ⟨by omega,hE⟩ ?_
 rintro i ⟨hi,hEi⟩
 by_cases h:i<ds.length+gs.length
 ·by_cases hdi:i<ds.length
  ·have g0:=Yt (gs:=gs) hdi;have q1:=jcu ds[i] i n (hm _ (AK hdi)) (by omega)
   have q2:=V4 (n:=n) (gs:=gs) hdi;generalize errF n i ds[i]=e at*;simp only[Der.part,Der.ds,Fct.ds,List.cons_append,List.nil_append]at g0 q1;have hh:(i:Int)<(ds.length:Int)+(gs.length:Int):=by omega
   simp -implicitDefEqProofs[-HX,jJ,-natCast_add,-natCast_mul,-List.reduceReplicate,h,g0,hh]
   (first|refine Ab q1 ?_|refine Aa q1 ?_)
   by_cases he:e=0
   ·subst he;simp -implicitDefEqProofs[-HX,jJ,-natCast_add,-natCast_mul,-List.reduceReplicate];exact⟨by omega,⟨by omega,H1 q2 hEi⟩,by omega⟩
   ·have hE2:=EX q2 he hEi;subst hE2;simp -implicitDefEqProofs[-HX,jJ,-natCast_add,-natCast_mul,-List.reduceReplicate,he]
  ·obtain⟨j,rfl⟩: ∃j,i=ds.length+j:=⟨i - ds.length,by omega⟩
   have hj:j<gs.length:=by omega
   have g0:=jgk (ds:=ds) hj;have q1:=ZB gs[j] n (hs _ (AK hj));have q2:=V3 (n:=n) (ds:=ds) hj;generalize errG n gs[j]=e at*;simp only[Grd.part,Grd.ds,List.cons_append,List.nil_append]at g0 q1;have hh:(ds.length:Int)+(j:Int)<(ds.length:Int)+(gs.length:Int):=by omega
   simp -implicitDefEqProofs[-HX,jJ,-natCast_add,-natCast_mul,-List.reduceReplicate,h,g0,hh]
   (first|refine Ab q1 ?_|refine Aa q1 ?_)
   by_cases he:e=0
   ·subst he;simp -implicitDefEqProofs[-HX,jJ,-natCast_add,-natCast_mul,-List.reduceReplicate];exact⟨by omega,⟨by omega,H1 q2 hEi⟩,by omega⟩
   ·have hE2:=EX q2 he hEi;subst hE2;simp -implicitDefEqProofs[-HX,jJ,-natCast_add,-natCast_mul,-List.reduceReplicate,he]
 ·have hi2:i=ds.length+gs.length:=by omega
  subst hi2;have hE3:=Tl (by omega) hEi
  subst hE3;simp -implicitDefEqProofs[-HX,jJ,-natCast_add,-natCast_mul,-List.reduceReplicate]
def Lo(k:Int):Int:=if k=1 then 2 else if k=2 then 3 else if k=3 then 4 else if k=4 then 0 else -1
theorem YD(k:Int):CallsF Tryz.prog 109 [.c (.int .i64 k)] (.u (.c (.d (.int .i64 (Lo k))))):=by
 unfold Lo;refine Aj (T:=tb) Ai mixed Tryz.func109 rfl (by decide) (Ah rfl) rfl ?_;unfold St.init
 by_cases h1:k=1
 ·subst h1;simp -implicitDefEqProofs[-HX,jJ,-natCast_add,-natCast_mul]
 by_cases h2:k=2
 ·subst h2;simp -implicitDefEqProofs[-HX,jJ,-natCast_add,-natCast_mul]
 by_cases h3:k=3
 ·subst h3;simp -implicitDefEqProofs[-HX,jJ,-natCast_add,-natCast_mul]
 by_cases h4:k=4
 ·subst h4;simp -implicitDefEqProofs[-HX,jJ,-natCast_add,-natCast_mul]
 simp -implicitDefEqProofs[-HX,jJ,-natCast_add,-natCast_mul,h1,h2,h3,h4]
theorem Z2(k:Int)(l:List Int)(n:Int)(hl:l.length≤1000)(hk:k=1∨k=2∨k=3):CallsF Tryz.prog 52 [.c (.int .i64 k),.c (intsD l),.c (.int .i64 n)] (.u (.c (.d (.int .i64 (errG n ⟨k,l⟩))))):=by
 have k1:=YD k;unfold errG;simp only;obtain⟨an,han⟩: ∃an,an=l.any (Dq n):=⟨_,rfl⟩;rw[←han];have e1:Lo k=grdN k∧2≤grdN k∧grdN k≤4:=by rcases hk with rfl|rfl|rfl<;>decide
 rw[e1.1]at k1
 obtain⟨_,e2,e3⟩:=e1
 generalize grdN k=m at*;refine Aj (T:=tb) Ai mixed Tryz.func52 rfl (by decide) (Ah rfl) rfl ?_;unfold St.init
 simp -implicitDefEqProofs[-HX,jJ,-natCast_add,-natCast_mul,-List.reduceReplicate]
 (first|refine Ab k1 ?_|refine Aa k1 ?_)
 have e4: ¬m<0:=by omega
 have e5: ¬m= -1:=by omega
 by_cases hm:(l.length:Int)=m
 ·simp -implicitDefEqProofs[-HX,jJ,-natCast_add,-natCast_mul,-List.reduceReplicate,e4,e5,hm];refine AA (fun k:Nat=>⟨[(8,vI .i64 k),(7,vI .i64 m),(1,vC (.d (intsD l))),(2,vI .i64 n)],[]⟩)
   (fun k=>k≤l.length∧Di n l k) (fun k=>l.length - k) 0 (by simp[-HX,As,lk,St.le,vI,vC]) ⟨by omega,Ia _ _⟩ ?_
  rintro k ⟨hk,hno⟩
  by_cases h:k<l.length
  ·have g0:l[k]? =some l[k]:=An h
   have hh:(k:Int)<m:=by omega
   by_cases h5:l[k]<0
   ·have ha:an=true:=han.trans (EG h (.inl h5))
    simp -implicitDefEqProofs[-HX,jJ,-natCast_add,-natCast_mul,-List.reduceReplicate,hh,g0,i64,h5,ha,e5,h]
   ·by_cases h6:n≤l[k]
    ·have ha:an=true:=han.trans (EG h (.inr h6))
     simp -implicitDefEqProofs[-HX,jJ,-natCast_add,-natCast_mul,-List.reduceReplicate,hh,g0,i64,h5,h6,ha,e5,h]
    ·simp -implicitDefEqProofs[-HX,jJ,-natCast_add,-natCast_mul,-List.reduceReplicate,hh,g0,i64,h5,h6,h];exact⟨by omega,⟨by omega,Jf h hno h5 h6⟩,by omega⟩
  ·have hk2:k=l.length:=by omega
   subst hk2;have ha:an=false:=han.trans (H5 hno);have hh: ¬(l.length:Int)<m:=by omega
   simp -implicitDefEqProofs[-HX,jJ,-natCast_add,-natCast_mul,-List.reduceReplicate,ha,hh,e5]
 ·simp -implicitDefEqProofs[-HX,jJ,-natCast_add,-natCast_mul,-List.reduceReplicate,e4,e5,hm]
theorem ja4(g:Grd)(n:Int)(hg:g.args.length≤1000):CallsF Tryz.prog 23 [.agg g.ds,.c (.int .i64 n)] (.u (.c (.d (.int .i64 (errG n g))))):=by
 by_cases hk:g.kind=1∨g.kind=2∨g.kind=3
 ·have k1:=Z2 g.kind g.args n hg hk;obtain⟨k,l⟩:=g;simp only at k1 hk;generalize errG n ⟨k,l⟩=e at*;simp only[Grd.ds];have e1: ¬k<1:=by omega
  have e2: ¬3<k:=by omega
  refine Aj (T:=tb) Ai mixed Tryz.func23 rfl (by decide) (Ah rfl) rfl ?_;unfold St.init
  simp -implicitDefEqProofs[-HX,jJ,-natCast_add,-natCast_mul,-List.reduceReplicate,e1,e2]
  (first|refine Ab k1 ?_|refine Aa k1 ?_)
  simp -implicitDefEqProofs[-HX,jJ,-natCast_add,-natCast_mul,-List.reduceReplicate]
 ·obtain⟨k,l⟩:=g
  simp only at hk;have e:errG n ⟨k,l⟩=8:=by
   unfold errG;rw[if_pos];simp only[grdN];rw[if_neg (fun h=>hk (.inl h)),if_neg (fun h=>hk (.inr (.inl h))),if_neg (fun h=>hk (.inr (.inr h)))]
  rw[e]
  simp only[Grd.ds];refine Aj (T:=tb) Ai mixed Tryz.func23 rfl (by decide) (Ah rfl) rfl ?_;unfold St.init
  by_cases e1:k<1
  ·simp -implicitDefEqProofs[-HX,jJ,-natCast_add,-natCast_mul,-List.reduceReplicate,e1]
  ·have e2:3<k:=by omega
   simp -implicitDefEqProofs[-HX,jJ,-natCast_add,-natCast_mul,-List.reduceReplicate,e1,e2]
theorem jjx(n:Int):premN n<0↔n<0∨28<n:=by
 unfold premN;rw[UQ];split
 ·rename_i h
  exact⟨fun _=>h,fun _=>by decide⟩
 ·rename_i h
  exact⟨fun h2=>by omega,fun h2=>absurd h2 h⟩
theorem jdP(ds:List Der)(gs:List Grd)(n:Int)(hd:ds.length≤1000)(hg:gs.length≤1000)(hm: ∀x∈ds,x.Mild)(hs: ∀g∈gs,g.args.length≤1000):
  CallsF Tryz.prog 9 [.agg [Ds ds,AR gs],.c (.int .i64 n)] (.u (.c (.d (.int .i64 (errR n ds gs))))):=by
 obtain⟨E,hE⟩: ∃E,CJ (CA n ds++CE n gs)=E:=⟨_,rfl⟩
 have hE0:errR n ds gs=E:=hE
 rw[hE0]
 refine Aj (T:=tb) Ai mixed Tryz.func9 rfl (by decide) (Ah rfl) rfl ?_;unfold St.init
 simp only[Ds,AR]at*;simp -implicitDefEqProofs[-HX,jJ,-natCast_add,-natCast_mul,-List.reduceReplicate];refine AA (fun i:Nat=>⟨[(5,vI .i64 i),(1,vI .i64 n),(2,vC (.ptr 2 0))],[(2,.box [.d (.slice ds.length (ds.flatMap Der.ds)),.d (.slice gs.length (gs.flatMap Grd.ds))])]⟩)
  (fun i=>i≤ds.length∧CJ ((CA n ds++CE n gs).drop i)=E) (fun i=>ds.length - i) 0 (by simp[-HX,As,lk,St.le,vI,vC]) ⟨by omega,hE⟩ ?_
 rintro i ⟨hi,hEi⟩
 by_cases h:i<ds.length
 ·have g:=LM ds i h;have b1:i*7+7≤ds.length*7:=by omega
  have hx:=hm _ (AK h);have k1:=jg8 ds[i].fact hx.1 n;have k2:=X1 ds[i].rule;rw[←UQ]at k2
  change CallsF _ _ _ (.u (.c (.d (.int .i64 (premN ds[i].rule)))))at k2
  have q2:=V4 (n:=n) (gs:=gs) h;have pn:=jjx ds[i].rule;have hl:ds[i].frm.length≤1000:=hx.2;clear hx;unfold errF at q2;generalize ds[i]=x at*;obtain⟨f,r,l⟩:=x;simp only[Fct.ds]at*;simp only[←pn]at q2;generalize premN r=pr at*;generalize wrong f n=wf at*;obtain⟨an,han⟩: ∃an,an=l.any (Dq i):=⟨_,rfl⟩;rw[←han]at q2;simp -implicitDefEqProofs[-HX,jJ,-natCast_add,-natCast_mul,-List.reduceReplicate,h,g];refine⟨by omega,?_⟩
  (first|refine Ab k1 ?_|refine Aa k1 ?_)
  by_cases h1:wf=0
  ·subst h1;simp -implicitDefEqProofs[-HX,jJ,-natCast_add,-natCast_mul,-List.reduceReplicate]
   (first|refine Ab k2 ?_|refine Aa k2 ?_)
   by_cases h2:pr<0
   ·simp -implicitDefEqProofs[-HX,jJ,-natCast_add,-natCast_mul,-List.reduceReplicate,h2];rw[if_neg (by simp),if_pos h2]at q2
    exact EX q2 (by decide) hEi
   ·simp -implicitDefEqProofs[-HX,jJ,-natCast_add,-natCast_mul,-List.reduceReplicate,h2];refine Ar (Ac [0,1,3,0,8,24,63]) [.any [] [] (Ak [[6],[34],[35],[6],[37],[38]]),.one] (by rfl) ?_
    simp -implicitDefEqProofs[-HX,jJ,-natCast_add,-natCast_mul,-List.reduceReplicate]
    (first|refine Ab k2 ?_|refine Aa k2 ?_)
    by_cases h4:(l.length:Int)=pr
    ·simp -implicitDefEqProofs[-HX,jJ,-natCast_add,-natCast_mul,-List.reduceReplicate,h4];rw[if_neg (by simp),if_neg h2,if_neg (by simpa using h4)]at q2
     refine AA (fun k:Nat=>⟨[(8,vI .i64 k),(6,vC (.ptr 6 0)),(5,vI .i64 i),(1,vI .i64 n),(2,vC (.ptr 2 0))],[(6,.box [.d (.int .i64 f.kind),.d (intsD f.args),.d (.bool f.neg),.d (Ag f.abs),.d (Ag f.den),.d (.int .i64 r),.d (intsD l)]),(2,.box [.d (.slice ds.length (ds.flatMap Der.ds)),.d (.slice gs.length (gs.flatMap Grd.ds))])]⟩)
      (fun k=>k≤l.length∧Di i l k) (fun k=>l.length - k) 0 (by simp[-HX,As,lk,St.le,vI,vC]) ⟨by omega,Ia _ _⟩ ?_
     rintro k ⟨hk,hno⟩
     by_cases hkl:k<l.length
     ·have g0:l[k]? =some l[k]:=An hkl
      by_cases h5:l[k]<0
      ·have ha:an=true:=han.trans (EG hkl (.inl h5))
       simp -implicitDefEqProofs[-HX,jJ,-natCast_add,-natCast_mul,-List.reduceReplicate,hkl,g0,i64,h5];rw[if_pos ha]at q2;exact EX q2 (by decide) hEi
      ·by_cases h6:(i:Int)≤l[k]
       ·have ha:an=true:=han.trans (EG hkl (.inr h6))
        simp -implicitDefEqProofs[-HX,jJ,-natCast_add,-natCast_mul,-List.reduceReplicate,hkl,g0,i64,h5,h6];rw[if_pos ha]at q2;exact EX q2 (by decide) hEi
       ·simp -implicitDefEqProofs[-HX,jJ,-natCast_add,-natCast_mul,-List.reduceReplicate,hkl,g0,i64,h5,h6];exact⟨by omega,⟨by omega,Jf hkl hno h5 h6⟩,by omega⟩
     ·have hk2:k=l.length:=by omega
      subst hk2;have ha:an=false:=han.trans (H5 hno);subst ha;simp -implicitDefEqProofs[-HX,jJ,-natCast_add,-natCast_mul,-List.reduceReplicate];exact⟨by omega,⟨by omega,H1 q2 hEi⟩,by omega⟩
    ·simp -implicitDefEqProofs[-HX,jJ,-natCast_add,-natCast_mul,-List.reduceReplicate,h4];rw[if_neg (by simp),if_neg h2,if_pos h4]at q2
     exact EX q2 (by decide) hEi
  ·simp -implicitDefEqProofs[-HX,jJ,-natCast_add,-natCast_mul,-List.reduceReplicate,h1];rw[if_pos h1]at q2;exact EX q2 h1 hEi
 ·have hi2:i=ds.length:=by omega
  subst hi2;simp -implicitDefEqProofs[-HX,jJ,-natCast_add,-natCast_mul,-List.reduceReplicate];refine AA (fun i:Nat=>⟨[(9,vI .i64 i),(1,vI .i64 n),(2,vC (.ptr 2 0))],[(2,.box [.d (.slice ds.length (ds.flatMap Der.ds)),.d (.slice gs.length (gs.flatMap Grd.ds))])]⟩)
   (fun i=>i≤gs.length∧CJ ((CA n ds++CE n gs).drop (ds.length+i))=E) (fun i=>gs.length - i) 0 (by simp[-HX,As,lk,St.le,vI,vC]) ⟨by omega,hEi⟩ ?_
  rintro i ⟨hi,hEi⟩
  by_cases h:i<gs.length
  ·have g:=Fj gs i h;have b1:i*2+2≤gs.length*2:=by omega
   have q1:=ja4 gs[i] n (hs _ (AK h));have q2:=V3 (n:=n) (ds:=ds) h;generalize errG n gs[i]=e at*;simp only[Grd.ds]at q1;simp -implicitDefEqProofs[-HX,jJ,-natCast_add,-natCast_mul,-List.reduceReplicate,h,g];refine⟨by omega,?_⟩
   (first|refine Ab q1 ?_|refine Aa q1 ?_)
   by_cases he:e=0
   ·subst he;simp -implicitDefEqProofs[-HX,jJ,-natCast_add,-natCast_mul,-List.reduceReplicate];exact⟨by omega,⟨by omega,H1 q2 hEi⟩,by omega⟩
   ·have hE2:=EX q2 he hEi;subst hE2;simp -implicitDefEqProofs[-HX,jJ,-natCast_add,-natCast_mul,-List.reduceReplicate,he]
  ·have hi2:i=gs.length:=by omega
   subst hi2;have hE3:=Tl (by rw[List.length_append,Hz,Ro];exact At _) hEi
   subst hE3;simp -implicitDefEqProofs[-HX,jJ,-natCast_add,-natCast_mul,-List.reduceReplicate]
end Go.Va
namespace Go.Va
def Ea{α:Type}(n:Nat)(k:Nat→α):α:=Nat.rec (motive:=fun _=>α) (k 0) (fun p _=>k (p+1)) n
theorem Ge{α:Type}(n:Nat)(k:Nat→α):Ea n k=k n:=by cases n<;>rfl
def Kx{α:Type}:Int→(Int→α)→α
 | .ofNat n,k=>Ea n fun n=>k (.ofNat n)
 | .negSucc n,k=>Ea n fun n=>k (.negSucc n)
theorem jby{α:Type}(n:Int)(k:Int→α):Kx n k=k n:=by cases n<;>simp[-HX,Kx,Ge]
def N2{α:Type}:Bool→(Bool→α)→α
 |true,k=>k true
 |false,k=>k false
theorem jhI{α:Type}(b:Bool)(k:Bool→α):N2 b k=k b:=by cases b<;>rfl
def M4{α:Type}(x:IntKind)(k:IntKind→α):α:=match x with| .i8=>k .i8| .i16=>k .i16| .i32=>k .i32| .i64=>k .i64| .u8=>k .u8| .u16=>k .u16| .u32=>k .u32| .u64=>k .u64
theorem jbe{α:Type}(x:IntKind)(k:IntKind→α):M4 x k=k x:=by cases x<;>rfl
mutual
def fD{α:Type}:D→(D→α)→α
 | .int q n,k=>M4 q fun q=>Kx n fun n=>k (.int q n)
 | .bool b,k=>N2 b fun b=>k (.bool b)
 | .str s,k=>k (.str s)
 | .slice n cs,k=>Ea n fun n=>CW cs fun cs=>k (.slice n cs)
 | .ref cs,k=>CW cs fun cs=>k (.ref cs)
 | .fn f cs,k=>Ea f fun f=>CW cs fun cs=>k (.fn f cs)
 | .nilFn,k=>k .nilFn
 | .nilPtr,k=>k .nilPtr
 | .iface t cs,k=>Ea t fun t=>CW cs fun cs=>k (.iface t cs)
 | .lit x,k=>k (.lit x)
 | .any,k=>k .any
def CW{α:Type}:List D→(List D→α)→α
 |[],k=>k []
 |x::r,k=>fD x fun x=>CW r fun r=>k (x::r)
end
mutual
theorem J6{α:Type}: ∀(x:D) (k:D→α),fD x k=k x
 | .int q n,k=>by simp only[fD,jbe,jby]
 | .bool b,k=>by simp only[fD,jhI]
 | .str s,k=>by simp only[fD]
 | .slice n cs,k=>by simp only[fD,Ge,EJ cs]
 | .ref cs,k=>by simp only[fD,EJ cs]
 | .fn f cs,k=>by simp only[fD,Ge,EJ cs]
 | .nilFn,k=>by simp only[fD]
 | .nilPtr,k=>by simp only[fD]
 | .iface t cs,k=>by simp only[fD,Ge,EJ cs]
 | .lit x,k=>by simp only[fD]
 | .any,k=>by simp only[fD]
theorem EJ{α:Type}: ∀(l:List D) (k:List D→α),CW l k=k l
 |[],k=>by simp only[CW]
 |x::r,k=>by simp only[CW,J6 x,EJ r]
end
def Fy{α β:Type}(f:β→(β→α)→α):List β→(List β→α)→α
 |[],k=>k []
 |x::r,k=>f x fun x=>Fy f r fun r=>k (x::r)
theorem Hf{α β:Type}{f:β→(β→α)→α}(hf: ∀x k,f x k=k x): ∀(l:List β) (k:List β→α),Fy f l k=k l
 |[],k=>rfl
 |x::r,k=>by simp only[Fy,hf,Hf hf r]
def G4{α:Type}(s:St)(k:St→α):α:=k s
theorem Ir{α:Type}(s:St)(k:St→α):G4 s k=k s:=rfl
def fA{α:Type}:A→(A→α)→α
 | .c x,k=>fD x fun x=>k (.c x)
 | .agg cs,k=>CW cs fun cs=>k (.agg cs)
theorem Ua{α:Type}(x:A)(k:A→α):fA x k=k x:=by cases x<;>simp only[fA,J6,EJ]
def GZ{α:Type}:RC→(RC→α)→α
 | .d x,k=>fD x fun x=>k (.d x)
 | .own a b cs,k=>Ea a fun a=>Ea b fun b=>CW cs fun cs=>k (.own a b cs)
theorem Tc{α:Type}(x:RC)(k:RC→α):GZ x k=k x:=by cases x<;>simp only[GZ,J6,Ge,EJ]
def GG{α:Type}:RU→(RU→α)→α
 | .c x,k=>GZ x fun x=>k (.c x)
 | .agg cs,k=>Fy GZ cs fun cs=>k (.agg cs)
theorem WB{α:Type}(x:RU)(k:RU→α):GG x k=k x:=by cases x<;>simp only[GG,Tc,Hf (f:=GZ) Tc]
def fR{α:Type}:R→(R→α)→α
 | .u x,k=>GG x fun x=>k (.u x)
 | .tup xs,k=>Fy GG xs fun xs=>k (.tup xs)
theorem jlH{α:Type}(x:R)(k:R→α):fR x k=k x:=by cases x<;>simp only[fR,WB,Hf (f:=GG) WB]
def Hl{α:Type}(L:List (Nat×α)):List Nat→List (Nat×α)
 |[]=>[]
 |k::r=>match lk k L with|some v=>(k,v)::Hl L r|none=>Hl L r
theorem Jt{α:Type}(L:List (Nat×α)): ∀l,As L (Hl L l)
 |[]=>trivial
 |k::r=>by
  unfold Hl;split
  ·rename_i v h
   exact⟨h,Jt L r⟩
  ·exact Jt L r
section
variable (T:Ao) (cal:FuncId→List A→Option R) (sA:FuncId→Option Nat) (calA:FuncId→Nat→Nat→List D→List A→Option (Nat×List D))
def LE(dst:Option Nat)(st:St)(g sz:Nat)(us:List U):Option St:=
 match us,dst with
 | .c .nl::us',some d=>let fz:=st.reachU us';(us'.mapM (U.toA fz st.h)).bind fun aa=>(calA g sz 0 [] aa).map fun r=>(((((st.freeze fz).new d (.row sz [] true)).drop d).new d (.row sz r.2 true)).put (some d) (vC (.sl d 0 r.1)))
 | .c (.sl k 0 n)::us',some d=>
  let fz:=(st.reachU us').filter fun i=>i !=k
  let s1:=st.freeze fz
  match lk k s1.h with
  |some (.row z cs true)=>if z=sz then (us'.mapM (U.toA fz st.h)).bind fun aa=>(calA g sz n cs aa).map fun r=>((s1.drop k).new d (.row sz r.2 true)).put (some d) (vC (.sl d 0 r.1)) else none
  |_=>none
 |_,_=>none
def Ik(dst:Option Nat)(st:St)(g:FuncId)(caps:List D)(us:List U):Option St:=
 match sA g,caps with
 |some sz,[]=>LE calA dst st g sz us
 |_,_=>(st.argsW (st.reachU us) us caps).bind fun aa=>(cal g aa).map fun r=>st.back dst (st.reachU us) r
def Ma(dst:Option Nat)(st:St)(us:List U)(u:U):Option St:=
 match u with
 | .c (.d (.fn g caps))=>Ik cal sA calA dst st g caps us
 | .clo g cs=>Ik cal sA calA dst st g [] (us++cs.map .c)
 |_=>none
def GU(o:Oper)(st:St):Option St:=
 match o.op with
 | .call { callee:= .value f,args,.. }=>(st.evU f).bind fun u=>(args.toList.mapM st.evU).bind fun us=>Ma cal sA calA o.dst st us u
 |_=>CV T o st
def I7(ops:List Oper)(o:Oper)(st:St):Option St:=
 match o.guard with
 |none=>GU T cal sA calA o st
 |some (j,want)=>
  match (ops[j]?).bind (·.dst)with
  |some d=>
   (match lk d st.t with
   |some (.u (.c (.d (.bool b))))=>if b=want then GU T cal sA calA o (st.put (some d) (vB want)) else some ((st.put (some d) (vB !want)).put o.dst (.tup []))
   |some (.tup [])=>some (st.put o.dst (.tup []))
   |_=>none)
  |none=>none
def Hh(ops:List Oper):List Oper→St→Option St
 |[],st=>some st
 |o::r,st=>(I7 T cal sA calA ops o st).bind (Hh ops r)
def HI(d:Option Nat)(E:St)(g:FuncId)(caps:List D)(us:List U):Option Eff:=
 (E.argsW (E.reachU us) us caps).bind fun aa=>(cal g aa).bind fun r=>if r.flat=true∨FH us=true then some (DJ d r) else none
def IW(o:Oper)(E:St):Option Eff:=
 match o.op with
 | .call { callee:= .value f,args,.. }=>(E.evU f).bind fun u=>(args.toList.mapM E.evU).bind fun us=>
  (match u with
  | .c (.d (.fn g caps))=>HI cal o.dst E g caps us
  | .clo g cs=>HI cal o.dst E g [] (us++cs.map .c)
  |_=>none)
 |_=>effOp T o E
def HW(want:Bool)(v:Option V)(k1:Option Eff):Option Eff:=
 match v with
 |some (.u (.c (.d (.bool b))))=>if b=want then k1 else some (.val (.tup []))
 |some (.tup [])=>some (.val (.tup []))
 |_=>none
def LH(ops:List Oper)(o:Oper)(E:St):Option Eff:=
 match o.guard with
 |none=>IW T cal o E
 |some (j,want)=>match (ops[j]?).bind (·.dst)with|some d=>HW want (lk d E.t) (IW T cal o E)|none=>none
def LA(ops:List Oper)(o:Oper)(E:St):Option Eff:=
 match o.guard with
 |none=>Fk T o E
 |some (j,want)=>match (ops[j]?).bind (·.dst)with|some d=>HW want (lk d E.t) (Fk T o E)|none=>none
def Kt(o:Oper)(E:St):Option Eff:=
 match o.guard,o.op with
 |none,.call { callee:= .value f,args,.. }=>(E.evU f).bind fun u=>(args.toList.mapM E.evU).bind fun us=>
  (match u with
  | .c (.d (.fn g []))=>(sA g).bind fun sz=>(match us,o.dst with
   | .c (.sl b 0 n)::us',some d=>(match lk b E.h with
    |some (.row z cs true)=>if z=sz then (us'.mapM (U.toA [] E.h)).bind fun aa=>(calA g sz n cs aa).map fun r=> .app b (.row sz r.2 true) (vC (.sl d 0 r.1)) else none
    |_=>none)
   | .c .nl::us',some d=>(us'.mapM (U.toA [] E.h)).bind fun aa=>(calA g sz 0 [] aa).map fun r=> .new (.row sz r.2 true) (vC (.sl d 0 r.1))
   |_,_=>none)
  |_=>none)
 |_,_=>none
def GA(ops:List Oper):List DI→List Oper→St→Option (List Oper×St)
 |[],rest,S=>some (rest,S)
 |i::is,o::r,S=>
  (if i.k=4 then LA T ops o (By i S) else if i.k=5 then Kt sA calA o (By i S) else LH T cal ops o (By i S)).bind fun x=>
   if CS i (o.dst.getD 0) x=true then GA ops is r (KF o.dst x S) else none
 |_::_,[],_=>none
def W0(st:St)(ts:List Nat):List Nat:=(ts.flatMap fun t=>match lk t st.t with|some (.u u)=>A8 st.h 5 u.all|_=>[]).filter fun i=>match lk i st.h with|some (.row ..)=>true|_=>false
def EP(ops:List Oper):List Seg→List Oper→St→Option St
 |[],_,st=>some st
 | .one::r,o::rest,st=>(I7 T cal sA calA ops o st).bind fun s=>EP ops r rest s
 | .one::_,[],_=>none
 | .any ts ds is::r,rest,st=>(GA T cal sA calA ops is rest (purges ds (st.freeze (W0 st ts)))).bind fun p=>EP ops r p.1 p.2
def Hs{α:Type}(L:List (Nat×α)):List (Nat×α)→List (Nat×α)
 |[]=>[]
 |(k,_)::r=>match lk k L with
  |some v=>(k,v)::Hs L r
  |none=>Hs L r
def E4(l:List Nat)(s:St):St:=⟨Hl s.t l,Hs s.h s.h⟩
def Ht(l:List Nat)(f:St→Option (Exit×St)):Nat→St→Option (Exit×St)
 |0,_=>none
 |n+1,st=>(f st).bind fun p=>match p.1 with| .normal=>G4 (E4 l p.2) fun s=>Ht l f n s|_=>some p
abbrev EL:=Nat→Option (List (List Nat)×List Seg)
def evC(pln:EL)(l:List Nat)(N:Nat):Code→St→Option (Exit×St)
 | .skip,st=>some (.normal,st)
 | .region id ops draw,st=>
  if draw then (pln id).bind fun p=>(EP T cal sA calA ops.toList p.2 ops.toList st).bind fun s=>G4 s fun s=>some (.normal,s)
  else (Hh T cal sA calA ops.toList ops.toList st).bind fun s=>G4 s fun s=>some (.normal,s)
 | .seq a b,st=>(evC pln l N a st).bind fun p=>match p.1 with| .normal=>evC pln l N b p.2|_=>some p
 | .cond c x y,st=>match st.evB c with|some true=>evC pln l N x st|some false=>evC pln l N y st|none=>none
 | .block id c,st=>(evC pln l N c st).map fun p=>match p.1 with| .exit j=>if j=id then (.normal,p.2) else p|_=>p
 | .loop c,st=>G4 (E4 l st) fun s=>Ht l (evC pln l N c) N s
 | .exit id,st=>some (.exit id,st)
 | .ret,st=>some (.ret,st)
 |_,_=>none
def Bs(pln:EL):Code→Bool
 | .region id ops draw=> !draw||(match pln id with|some p=>IC ops.toList p.1 p.2|none=>true)
 | .seq a b=>Bs pln a&&Bs pln b
 | .cond _ x y=>Bs pln x&&Bs pln y
 | .block _ c=>Bs pln c
 | .loop c=>Bs pln c
 |_=>true
def VK(st:St):C→Bool
 | .sl i 0 n=>(match lk i st.h with|some (.row sz cs true)=>decide (cs.length=n*sz)|_=>false)
 |_=>false
def H3(st:St)(c:C):Option RC:=
 match c with
 | .sl i 0 n=>(match lk i st.h with|some (.row sz cs true)=>if cs.length=n*sz then some (.own sz n cs) else none|_=>none)
 |_=>none
def IJ(st:St)(pure:Bool)(c:C):Option RC:=if pure=true∧c.id?.isSome=true then none else (st.cD c).map .d
def DS(st:St)(pure:Bool):U→Option RU
 | .c x=>(IJ st pure x).map .c
 | .agg cs=>(cs.mapM (IJ st pure)).map .agg
 | .clo _ _=>none
def J3(st:St)(v:V):Option R:=
 match v with
 | .u (.c x)=>if VK st x then (H3 st x).map fun r=> .u (.c r) else (DS st false (.c x)).map .u
 | .u u=>(DS st false u).map .u
 | .tup (.c x::us)=>if VK st x&&us.all (fun u=>u.all.all fun c=>c.id?.isNone) then (H3 st x).bind fun r=>(us.mapM (DS st true)).map fun rs=> .tup (.c r::rs)
  else ((U.c x::us).mapM (DS st false)).map .tup
 | .tup us=>(us.mapM (DS st false)).map .tup
 |_=>none
end
section
variable {P:Program} {T:Ao} {cal:FuncId→List A→Option R} {sA:FuncId→Option Nat} {calA:FuncId→Nat→Nat→List D→List A→Option (Nat×List D)}
theorem Xz(hA: ∀g sz n cs aa m cs',calA g sz n cs aa=some (m,cs')→CallsA P g sz n cs aa m cs'){dst:Option Nat}{st s:St}{g sz:Nat}{us:List U}{K:St→Prop}
  (h:LE calA dst st g sz us=some s) (hk:K s):Dp P dst st K g [] us:=by
 unfold LE at h;split at h
 ·rename_i us' d
  simp only[jzd,jze]at h;obtain⟨aa,haa,r,hr,rfl⟩:=h;exact .inr (.inr (.inr (.inr (.inl (.inr (.inr (.inr (.inr ⟨rfl,_,sz,r.1,d,r.2,us',aa,rfl,haa,rfl,hA _ _ _ _ _ _ _ hr,hk⟩))))))))
 ·rename_i k n us' d
  simp only at h;split at h
  ·rename_i z cs hl
   split at h
   ·rename_i hz
    subst hz;simp only[jzd,jze]at h;obtain⟨aa,haa,r,hr,rfl⟩:=h;refine .inr (.inr (.inr (.inr (.inl (.inr (.inr (.inr (.inl ⟨rfl,_,k,n,z,r.1,d,cs,r.2,us',aa,rfl,?_,hl,haa,rfl,hA _ _ _ _ _ _ _ hr,hk⟩))))))));simp
   ·cases h
  ·cases h
 ·cases h
theorem Vd(hc: ∀g aa r,cal g aa=some r→CallsF P g aa r)(hA: ∀g sz n cs aa m cs',calA g sz n cs aa=some (m,cs')→CallsA P g sz n cs aa m cs'){dst:Option Nat}{st s:St}{g:FuncId}{caps:List D}{us:List U}{K:St→Prop}
  (h:Ik cal sA calA dst st g caps us=some s) (hk:K s):Dp P dst st K g caps us:=by
 unfold Ik at h;split at h
 ·exact Xz hA h hk
 ·simp only[jzd,jze]at h;obtain⟨aa,haa,r,hr,rfl⟩:=h;exact .inl ⟨aa,haa,r,hc _ _ _ hr,hk⟩
theorem Kg(hc: ∀g aa r,cal g aa=some r→CallsF P g aa r)(hA: ∀g sz n cs aa m cs',calA g sz n cs aa=some (m,cs')→CallsA P g sz n cs aa m cs'){o:Oper}{st s:St}{K:St→Prop}
  (h:GU T cal sA calA o st=some s) (hk:K s):wpOp P T o st K:=by
 unfold GU at h;unfold wpOp;split at h
 ·rename_i f args ts ho
  rw[ho]
  simp only[jzd]at h;obtain⟨u,hu,us,hus,h⟩:=h;refine⟨u,hu,?_⟩;unfold Ma at h;unfold DG;split at h
  ·exact⟨us,hus,Vd hc hA h hk⟩
  ·exact⟨us,hus,Vd hc hA h hk⟩
  ·cases h
 ·rename_i hno
  split
  ·rename_i f args ts ho
   exact absurd ho (hno f args ts)
  ·exact⟨s,h,hk⟩
theorem Ty(hc: ∀g aa r,cal g aa=some r→CallsF P g aa r)(hA: ∀g sz n cs aa m cs',calA g sz n cs aa=some (m,cs')→CallsA P g sz n cs aa m cs'){ops:List Oper}{o:Oper}{st s:St}{K:St→Prop}
  (h:I7 T cal sA calA ops o st=some s) (hk:K s):Bt P T ops o st K:=by
 unfold I7 at h;unfold Bt;split at h
 ·rename_i hg
  rw[hg]
  exact Kg hc hA h hk
 ·rename_i j want hg
  rw[hg]
  dsimp only
  split at h
  ·rename_i d hd
   rw[hd]
   dsimp only
   unfold CI;split at h
   ·rename_i b hb
    rw[hb]
    dsimp only
    split at h
    ·rename_i e
     exact⟨fun _=>Kg hc hA h hk,fun e2=>by subst e;cases b<;>cases e2⟩
    ·rename_i e
     refine⟨fun e2=>absurd e2 e,fun _=> ?_⟩
     unfold FO;cases h;exact hk
   ·rename_i hb
    rw[hb]
    dsimp only
    unfold FO;cases h;exact hk
   ·cases h
  ·cases h
theorem O4(hc: ∀g aa r,cal g aa=some r→CallsF P g aa r)(hA: ∀g sz n cs aa m cs',calA g sz n cs aa=some (m,cs')→CallsA P g sz n cs aa m cs'){ops:List Oper}: ∀{l:List Oper} {st s:St} {K:St→Prop},
  Hh T cal sA calA ops l st=some s→K s→Ek P T ops l st K
 |[],st,s,K,h,hk=>by
  simp only[Hh,Option.some.injEq]at h;subst h;exact hk
 |o::r,st,s,K,h,hk=>by
  simp only[Hh,jzd]at h;obtain⟨s1,h1,h2⟩:=h;exact Ty hc hA h1 (O4 hc hA h2 hk)
theorem TY(hc: ∀g aa r,cal g aa=some r→CallsF P g aa r){d:Option Nat}{E:St}{g:FuncId}{caps:List D}{us:List U}{x:Eff}{k:Eff→Prop}(h:HI cal d E g caps us=some x)(hk:k x):FX P d E k g caps us:=by
 unfold HI at h;simp only[jzd]at h;obtain⟨aa,haa,r,hr,h⟩:=h;split at h
 ·rename_i hf
  cases h;exact⟨aa,haa,r,hc _ _ _ hr,hf,hk⟩
 ·cases h
theorem Nw(hc: ∀g aa r,cal g aa=some r→CallsF P g aa r){o:Oper}{E:St}{x:Eff}{k:Eff→Prop}(h:IW T cal o E=some x)(hk:k x):AG P T o E k:=by
 unfold IW at h;unfold AG;split at h
 ·rename_i f args ts ho
  rw[ho]
  simp only[jzd]at h;obtain⟨u,hu,us,hus,h⟩:=h;refine⟨u,hu,?_⟩;unfold FQ;split at h
  ·exact⟨us,hus,TY hc h hk⟩
  ·exact⟨us,hus,TY hc h hk⟩
  ·cases h
 ·rename_i hno
  split
  ·rename_i f args ts ho
   exact absurd ho (hno f args ts)
  ·exact⟨x,h,hk⟩
theorem Ow{want:Bool}{v:Option V}{k1:Option Eff}{x:Eff}{k:Eff→Prop}{K1:Prop}(h1:k1=some x→K1)(h:HW want v k1=some x)(hk:k x):Bk want v K1 (k (.val (.tup []))):=by
 unfold HW at h;unfold Bk;split at h
 ·rename_i b
  split at h
  ·rename_i e
   exact⟨fun _=>h1 h,fun e2=>by subst e;cases b<;>cases e2⟩
  ·rename_i e
   cases h;exact⟨fun e2=>absurd e2 e,fun _=>hk⟩
 ·cases h;exact hk
 ·cases h
theorem jl8(hc: ∀g aa r,cal g aa=some r→CallsF P g aa r){ops:List Oper}{o:Oper}{E:St}{x:Eff}{k:Eff→Prop}(h:LH T cal ops o E=some x)(hk:k x):Cl P T ops o E k:=by
 unfold LH at h;unfold Cl;split at h
 ·rename_i hg
  rw[hg]
  exact Nw hc h hk
 ·rename_i j want hg
  rw[hg]
  dsimp only
  split at h
  ·rename_i d hd
   rw[hd]
   exact Ow (fun e=>Nw hc e hk) h hk
  ·cases h
theorem jel{ops:List Oper}{o:Oper}{E:St}{x:Eff}{k:Eff→Prop}(h:LA T ops o E=some x)(hk:k x):C4 T ops o E k:=by
 unfold LA at h;unfold C4;split at h
 ·rename_i hg
  rw[hg]
  exact⟨x,h,hk⟩
 ·rename_i j want hg
  rw[hg]
  dsimp only
  split at h
  ·rename_i d hd
   rw[hd]
   exact Ow (fun e=>⟨x,e,hk⟩) h hk
  ·cases h
theorem jcj(hA: ∀g sz n cs aa m cs',calA g sz n cs aa=some (m,cs')→CallsA P g sz n cs aa m cs'){o:Oper}{E:St}{x:Eff}{k:Eff→Prop}(h:Kt sA calA o E=some x)(hk:k x):EU P o E k:=by
 unfold Kt at h;unfold EU;split at h
 ·rename_i f args ts hg ho
  rw[hg,ho]
  dsimp only
  simp only[jzd]at h;obtain⟨u,hu,us,hus,h⟩:=h;refine⟨u,hu,?_⟩;unfold Gz;split at h
  ·rename_i g
   simp only[jzd]at h;obtain⟨sz,hsz,h⟩:=h;refine⟨us,hus,?_⟩;split at h
   ·rename_i b n us' d hd
    split at h
    ·rename_i z cs hl
     split at h
     ·rename_i hz
      subst hz;simp only[jzd,jze]at h;obtain⟨aa,haa,r,hr,rfl⟩:=h;exact .inl ⟨b,n,z,r.1,d,cs,r.2,us',aa,rfl,hl,haa,hd,hA _ _ _ _ _ _ _ hr,hk⟩
     ·cases h
    ·cases h
   ·rename_i us' d hd
    simp only[jzd,jze]at h;obtain⟨aa,haa,r,hr,rfl⟩:=h;exact .inr ⟨sz,r.1,d,r.2,us',aa,rfl,haa,hd,hA _ _ _ _ _ _ _ hr,hk⟩
   ·cases h
  ·cases h
 ·cases h
theorem UM(hc: ∀g aa r,cal g aa=some r→CallsF P g aa r)(hA: ∀g sz n cs aa m cs',calA g sz n cs aa=some (m,cs')→CallsA P g sz n cs aa m cs'){ops:List Oper}: ∀{is:List DI} {rest:List Oper} {S:St} {p:List Oper×St} {fin:List Oper→St→Prop},
  GA T cal sA calA ops is rest S=some p→fin p.1 p.2→A7 P T ops is rest S fin
 |[],rest,S,p,fin,h,hk=>by
  simp only[GA,Option.some.injEq]at h;subst h;exact hk
 |i::is,o::r,S,p,fin,h,hk=>by
  simp only[GA,jzd]at h;obtain⟨x,hx,h⟩:=h;split at h
  case isFalse=>cases h
  rename_i hok
  have hrec:BQ i o.dst S (fun S'=>A7 P T ops is r S' fin) x:=⟨hok,UM hc hA h hk⟩
  simp only[A7];split at hx
  ·rename_i e
   rw[if_pos e]
   exact jel hx hrec
  ·rename_i e
   rw[if_neg e]
   split at hx
   ·rename_i e2
    rw[if_pos e2]
    exact jcj hA hx hrec
   ·rename_i e2
    rw[if_neg e2]
    exact jl8 hc hx hrec
 |_::_,[],_,_,_,h,_=>by simp[-HX,GA]at h
theorem JQ(hc: ∀g aa r,cal g aa=some r→CallsF P g aa r)(hA: ∀g sz n cs aa m cs',calA g sz n cs aa=some (m,cs')→CallsA P g sz n cs aa m cs'){ops:List Oper}: ∀{segs:List Seg} {rest:List Oper} {st s:St} {K:St→Prop},
  EP T cal sA calA ops segs rest st=some s→K s→ ∃segs',(∀pl lo,C7 ops pl lo segs'=C7 ops pl lo segs)∧Dc P T ops segs' rest K st
 |[],_,st,s,K,h,hk=>by
  simp only[EP,Option.some.injEq]at h;subst h;exact⟨[],fun _ _=>rfl,hk⟩
 | .one::r,o::rest,st,s,K,h,hk=>by
  simp only[EP,jzd]at h;obtain⟨s1,h1,h2⟩:=h;obtain⟨segs',hs,hw⟩:=JQ hc hA h2 hk;exact⟨.one::segs',fun pl lo=>by simp only[C7,hs],Ty hc hA h1 hw⟩
 | .one::_,[],_,_,_,h,_=>by simp[-HX,EP]at h
 | .any ts ds is::r,rest,st,s,K,h,hk=>by
  simp only[EP,jzd]at h;obtain⟨p,h1,h2⟩:=h;obtain⟨segs',hs,hw⟩:=JQ hc hA h2 hk;exact⟨.any (W0 st ts) ds is::segs',fun pl lo=>by simp only[C7,hs],UM hc hA (fin:=fun rest' s=>Dc P T ops segs' rest' K s) h1 hw⟩
theorem JY{α:Type}(L:List (Nat×α)): ∀l,As L (Hs L l)
 |[]=>trivial
 |(k,v)::r=>by
  unfold Hs;split
  ·rename_i w h
   exact⟨h,JY L r⟩
  ·exact JY L r
theorem Gs(l:List Nat)(s:St):(E4 l s).le s:=⟨Jt _ _,JY _ _⟩
theorem Yi{l:List Nat}{f:St→Option (Exit×St)}{body:St→AO→Prop}(hf: ∀st p Q,f st=some p→Q p.1 p.2→body st Q){n:Nat}{st:St}{p:Exit×St}{Q:AO}(h:Ht l f n (E4 l st)=some p)(hk:Q p.1 p.2):Hq body st Q:=by
 refine⟨fun s m=>Ht l f m s=some p,[],⟨E4 l st,n,Gs l st,h⟩,fun s m hI=> ?_⟩
 cases m with
 |zero=>cases hI
 |succ m=>
  simp only[Ht,jzd]at hI;obtain⟨⟨e,q⟩,hq,hI⟩:=hI;refine hf s (e,q) _ hq ?_;cases e with
  |normal=>
   simp only[Ir]at hI;exact⟨E4 l q,m,Gs l q,hI,Nat.lt_succ_self m⟩
  |_=>
   simp only[Option.some.injEq]at hI;subst hI;exact hk
theorem Ko(hc: ∀g aa r,cal g aa=some r→CallsF P g aa r)(hA: ∀g sz n cs aa m cs',calA g sz n cs aa=some (m,cs')→CallsA P g sz n cs aa m cs'){pln:EL}{l:List Nat}{N:Nat}: ∀(c:Code),Bs pln c=true→ ∀(st:St) (p:Exit×St) (Q:AO),
  evC T cal sA calA pln l N c st=some p→Q p.1 p.2→AP P T c st Q:=by
 intro c
 induction c with
 |skip=>
  intro _ st p Q h hk;simp only[evC,Option.some.injEq]at h;subst h;exact hk
 |region id ops draw=>
  intro hp st p Q h hk;simp only[evC]at h;unfold AP IR;cases draw with
  |true=>
   simp only[if_true,jzd,Ir,Option.some.injEq]at h ⊢;obtain⟨x,hx,s,hs,rfl⟩:=h;simp only[Bs,Bool.not_true,Bool.false_or,hx]at hp;obtain⟨segs',he,hw⟩:=JQ hc hA hs hk;refine Ar x.1 segs' ?_ hw;simp only[IC,he]at hp ⊢;exact hp
  |false=>
   simp only[Bool.false_eq_true,if_false,jzd,Ir,Option.some.injEq]at h ⊢;obtain⟨s,hs,rfl⟩:=h;exact O4 hc hA hs hk
 |seq a b iha ihb=>
  intro hp st p Q h hk;simp only[Bs,Av]at hp;simp only[evC,jzd]at h;obtain⟨⟨e,s⟩,h1,h2⟩:=h;refine iha hp.1 st (e,s) _ h1 ?_;cases e with
  |normal=>exact ihb hp.2 s p Q h2 hk
  |_=>
   simp only[Option.some.injEq]at h2;subst h2;exact hk
 |cond c x y ihx ihy=>
  intro hp st p Q h hk;simp only[Bs,Av]at hp;simp only[evC]at h
  show Ej (st.evB c) st (AP P T x) (AP P T y) Q
  split at h
  ·rename_i hb
   rw[hb]
   exact⟨fun _=>ihx hp.1 st p Q h hk,fun e=>by cases e⟩
  ·rename_i hb
   rw[hb]
   exact⟨fun e=>by(cases e),fun _=>ihy hp.2 st p Q h hk⟩
  ·cases h
 |block id c ih=>
  intro hp st p Q h hk;simp only[Bs]at hp;simp only[evC,jze]at h;obtain⟨⟨e,s⟩,h1,h2⟩:=h;refine ih hp st (e,s) _ h1 ?_;cases e with
  |exit j=>
   simp only at h2
   show if j=id then Q .normal s else Q (.exit j) s
   by_cases hj:j=id
   ·rw[if_pos hj]at h2 ⊢
    subst h2;exact hk
   ·rw[if_neg hj]at h2 ⊢
    subst h2;exact hk
  |_=>
   simp only at h2;subst h2;exact hk
 |loop c ih=>
  intro hp st p Q h hk;simp only[Bs]at hp;simp only[evC,Ir]at h;exact Yi (fun st p Q h hk=>ih hp st p Q h hk) h hk
 |exit id=>
  intro _ st p Q h hk;simp only[evC,Option.some.injEq]at h;subst h;exact hk
 |ret=>
  intro _ st p Q h hk;simp only[evC,Option.some.injEq]at h;subst h;exact hk
 |_=>
  intro _ st p Q h hk;simp only[evC]at h;cases h
theorem Rq{st:St}{pure:Bool}{c:C}{r:RC}(h:IJ st pure c=some r):fitC st pure c r∧r.rows=[]:=by
 unfold IJ at h;split at h
 ·cases h
 ·rename_i hp
  simp only[jze]at h;obtain⟨x,hx,rfl⟩:=h;refine⟨?_,rfl⟩;have:(pure=true→c.id? =none)∧st.cD c=some x:=⟨fun e=>by
   cases hi:c.id? with
   |none=>rfl
   |some i=>exact absurd ⟨e,by rw[hi];rfl⟩ hp,hx⟩
  cases c<;>exact this
theorem It{α β:Type}{f:α→Option β}{r:α→β→Prop}{q:β→Prop}(hf: ∀a b,f a=some b→r a b∧q b): ∀{l:List α} {m:List β},l.mapM f=some m→fitL r l m∧ ∀b∈m,q b
 |[],m,h=>by
  simp only[List.mapM_nil,Option.pure_def,Option.some.injEq]at h;subst h;exact⟨trivial,by simp⟩
 |a::l,m,h=>by
  simp only[List.mapM_cons,Option.pure_def,Option.bind_eq_bind,jzd,Option.some.injEq]at h;obtain⟨b,hb,m',hm,rfl⟩:=h;obtain⟨h1,h2⟩:=hf a b hb;obtain⟨h3,h4⟩:=It hf hm;exact⟨⟨h1,h3⟩,fun x hx=>by
   rcases jzn.1 hx with rfl|hx
   ·exact h2
   ·exact h4 x hx⟩
theorem JJ{st:St}{pure:Bool}{u:U}{r:RU}(h:DS st pure u=some r):fitU st pure u r∧r.rows=[]:=by
 unfold DS at h;cases u with
 |c x=>
  simp only[jze]at h;obtain⟨y,hy,rfl⟩:=h;exact Rq hy
 |agg cs=>
  simp only[jze]at h;obtain⟨y,hy,rfl⟩:=h;obtain⟨h1,h2⟩:=It (r:=fitC st pure) (q:=fun r=>r.rows=[]) (fun a b e=>Rq e) hy
  refine⟨h1,?_⟩
  show y.flatMap RC.rows=[]
  rw[List.flatMap_eq_nil_iff]
  exact h2
 |clo f cs=>cases h
theorem Xn{st:St}{c:C}{r:RC}(h:H3 st c=some r):fitC st true c r∧r.rows.length=1:=by
 unfold H3 at h;split at h
 ·rename_i i n
  split at h
  ·rename_i sz cs hl
   split at h
   ·rename_i hlen
    cases h;exact⟨⟨rfl,hl,hlen⟩,rfl⟩
   ·cases h
  ·cases h
 ·cases h
theorem RB{st:St}{v:V}{r:R}(h:J3 st v=some r)(hl:r.rows.length≤1):fitV st (!r.rows.isEmpty) v r:=by
 have data: ∀{u:U} {x:RU},DS st false u=some x→fitV st (!(R.u x).rows.isEmpty) (.u u) (.u x):=fun h=>by
  obtain⟨h1,h2⟩:=JJ h
  have:(R.u _).rows=[]:=h2
  rw[this]
  exact h1
 have datas: ∀{us:List U} {xs:List RU},us.mapM (DS st false)=some xs→fitV st (!(R.tup xs).rows.isEmpty) (.tup us) (.tup xs):=fun h=>by
  obtain⟨h1,h2⟩:=It (r:=fitU st false) (q:=fun r=>r.rows=[]) (fun a b e=>JJ e) h
  have:(R.tup _).rows=[]:=List.flatMap_eq_nil_iff.2 h2
  rw[this]
  exact h1
 unfold J3 at h;split at h
 ·rename_i x
  split at h
  ·simp only[jze]at h;obtain⟨y,hy,rfl⟩:=h;obtain⟨h1,h2⟩:=Xn hy;have h3:(R.u (RU.c y)).rows=y.rows:=rfl;rw[h3];have:(!y.rows.isEmpty)=true:=by
    cases hr:y.rows with
    |nil=>rw[hr]at h2;cases h2
    |cons a l=>rfl
   rw[this]
   exact h1
  ·simp only[jze]at h;obtain⟨y,hy,rfl⟩:=h;exact data hy
 ·simp only[jze]at h;obtain⟨y,hy,rfl⟩:=h;exact data hy
 ·rename_i x us
  split at h
  ·simp only[jzd,jze]at h;obtain⟨y,hy,xs,hxs,rfl⟩:=h;obtain⟨h1,h2⟩:=Xn hy;obtain⟨h3,h4⟩:=It (r:=fitU st true) (q:=fun r=>r.rows=[]) (fun a b e=>JJ e) hxs
   have:(!(R.tup (RU.c y::xs)).rows.isEmpty)=true:=by
    have e:(R.tup (RU.c y::xs)).rows=y.rows++xs.flatMap RU.rows:=rfl
    rw[e]
    cases hr:y.rows with
    |nil=>rw[hr]at h2;cases h2
    |cons a l=>rfl
   rw[this]
   exact⟨h1,h3⟩
  ·simp only[jze]at h;obtain⟨y,hy,rfl⟩:=h;exact datas hy
 ·simp only[jze]at h;obtain⟨y,hy,rfl⟩:=h;exact datas hy
 ·cases h
end
end Go.Va
