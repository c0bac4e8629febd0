/- a part of the proof -/
import Derived.Test.YtkajmpgbnbikiaaGreatDoorPav
import Derived.Test.YtkajmpgbnbikiaaGreatDoorPaz
import Derived.Test.YtkajmpgbnbikiaaGreatDoorPax
import Derived.Test.YtkajmpgbnbikiaaGreatDoorTie
import Derived.Lay
import Derived.Handy
set_option linter.all false
set_option maxHeartbeats 4000000
set_option maxRecDepth 100000
namespace Go.Va
open Int (natCast_add natCast_mul natCast_emod natCast_ediv natCast_pow)
open Go.Proofs
structure Der where
 fact:Fct
 rule:Int
 frm:List Int
def Der.ds(x:Der):List D:=x.fact.ds++[.int .i64 x.rule,intsD x.frm]
theorem Der.ds_len(x:Der):x.ds.length=7:=rfl
def Ds(l:List Der):D:= .slice l.length (l.flatMap Der.ds)
def Der.Mild(x:Der):Prop:=x.fact.Mild∧x.frm.length≤1000
def Der.part(x:Der)(i:Nat):D:= .iface 64 (x.ds++[.int .i64 i])
def Grd.part(g:Grd)(i:Nat):D:= .iface 67 (g.ds++[.int .i64 i])
def DE(l:List Der)(i:Nat):List D:=(l.take i).zipIdx.map fun p=>p.1.part p.2
def DZ(l:List Grd)(i:Nat):List D:=(l.take i).zipIdx.map fun p=>p.1.part p.2
theorem Gu{l:List Der}{i:Nat}(h:i≤l.length):(DE l i).length=i:=by simp[DE];omega
theorem M2{l:List Grd}{i:Nat}(h:i≤l.length):(DZ l i).length=i:=by simp[DZ];omega
theorem Wb{α β:Type}(f:α×Nat→β){l:List α}{i:Nat}(h:i<l.length):(l.take (i+1)).zipIdx.map f=(l.take i).zipIdx.map f++[f (l[i],i)]:=by
 rw[BX h,List.zipIdx_append,List.map_append]
 simp[Cj,BL (Nat.le_of_lt h)]
theorem jgM{l:List Der}{i:Nat}(h:i<l.length):DE l (i+1)=DE l i++[l[i].part i]:=Wb _ h
theorem jkB{l:List Grd}{i:Nat}(h:i<l.length):DZ l (i+1)=DZ l i++[l[i].part i]:=Wb _ h
theorem jeo(l:List Der)(i:Nat)(h:i<l.length):((l.flatMap Der.ds).drop (i*7)).take 7=l[i].ds:=E2 Der.ds_len l i h
theorem LM(l:List Der)(i:Nat)(h:i<l.length):((l.flatMap Der.ds).map C.d|>.drop (i*7)).take 7=[.d (.int .i64 l[i].fact.kind),.d (intsD l[i].fact.args),.d (.bool l[i].fact.neg),.d (Ag l[i].fact.abs),.d (Ag l[i].fact.den),.d (.int .i64 l[i].rule),.d (intsD l[i].frm)]:=by
 have:=jeo l i h
 rw[←List.map_drop,←List.map_take,this]
 rfl
@[simp high]theorem der_len(l:List Der):(l.flatMap Der.ds).length=l.length*7:=Dz Der.ds_len l
theorem ji6(ds:List Der)(gs:List Grd)(hd:ds.length≤1000)(hg:gs.length≤1000):
  CallsF Tryz.prog 18 [.agg [Ds ds,AR gs]] (.u (.c (.own 1 (ds.length+gs.length) (DE ds ds.length++DZ gs gs.length)))):=by
 refine Aj (T:=tb) Ai mixed Tryz.func18 rfl (by decide) (Ah rfl) rfl ?_;unfold St.init
 simp only[Ds,AR];simp -implicitDefEqProofs[-HX,jJ,-natCast_add,-natCast_mul,-List.reduceReplicate];refine CF [(3,22)] (fun i:Nat=>⟨[(11,vI .i64 i),(10,vI .i64 ds.length),(9,vC (.d (.slice ds.length (ds.flatMap Der.ds)))),(3,vC (.sl 3 0 i)),(1,vC (.ptr 1 0))],[(3,.row 1 (DE ds i) true),(1,.box [.d (.slice ds.length (ds.flatMap Der.ds)),.d (.slice gs.length (gs.flatMap Grd.ds))])]⟩)
  (fun i=>i≤ds.length) (fun i=>ds.length - i) 0 (by simp[-HX,As,lk,St.le,vI,vC,DE,AR]) (by simp) ?_
 intro i hi;by_cases h:i<ds.length
 ·have g:=LM ds i h;have b1:i*7+7≤ds.length*7:=by omega
  have hl:=Gu hi;simp -implicitDefEqProofs[-HX,jJ,-natCast_add,-natCast_mul,-List.reduceReplicate,h,g];exact⟨by omega,hl,⟨by omega,by omega⟩,by omega,i+1,⟨rfl,by rw[jgM h];rfl⟩,by omega,by omega⟩
 ·have hi2:i=ds.length:=by omega
  subst hi2;have hl:=Gu hi;simp -implicitDefEqProofs[-HX,jJ,-natCast_add,-natCast_mul,-List.reduceReplicate];refine CF [(3,38)] (fun i:Nat=>⟨[(27,vI .i64 i),(26,vI .i64 gs.length),(25,vC (.d (.slice gs.length (gs.flatMap Grd.ds)))),(3,vC (.sl 3 0 (ds.length+i)))],[(3,.row 1 (DE ds ds.length++DZ gs i) true)]⟩)
   (fun i=>i≤gs.length) (fun i=>gs.length - i) 0 (by simp[-HX,As,lk,St.le,vI,vC,DZ]) (by simp) ?_
  intro i hi;have hl2:=M2 hi;by_cases h:i<gs.length
  ·have g:=Fj gs i h;have b1:i*2+2≤gs.length*2:=by omega
   simp -implicitDefEqProofs[-HX,jJ,-natCast_add,-natCast_mul,-List.reduceReplicate,h,g];exact⟨by omega,by omega,⟨by omega,by omega⟩,by omega,i+1,⟨⟨rfl,by omega⟩,by rw[jkB h];rfl⟩,by omega,by omega⟩
  ·have hi2:i=gs.length:=by omega
   subst hi2;simp -implicitDefEqProofs[-HX,jJ,-natCast_add,-natCast_mul,-List.reduceReplicate];omega
def Dq(n:Int)(a:Int):Bool:=decide (a<0)||decide (n≤a)
def Di(n:Int)(l:List Int)(k:Nat):Prop:=(l.take k).any (Dq n)=false
theorem Ia(n:Int)(l:List Int):Di n l 0:=by simp[-HX,Di]
theorem Jf{n:Int}{l:List Int}{k:Nat}(h:k<l.length)(hk:Di n l k)(h1: ¬l[k]<0)(h2: ¬n≤l[k]):Di n l (k+1):=by
 unfold Di at*;rw[BX h,List.any_append,hk];simp[-HX,Dq,h1,h2]
theorem H5{n:Int}{l:List Int}(h:Di n l l.length):l.any (Dq n)=false:=by
 unfold Di at h
 rwa [Cq]at h
theorem EG{n:Int}{l:List Int}{k:Nat}(h:k<l.length)(h1:l[k]<0∨n≤l[k]):l.any (Dq n)=true:=List.any_eq_true.2 ⟨_,AK h,by simpa [Dq]using h1⟩
def premN(n:Int):Int:=if n=0 then 0 else if (rulT n).name=[] then -1 else (rulT n).count
def errF(n:Int)(i:Nat)(x:Der):Int:=
 if wrong x.fact n≠0 then wrong x.fact n else if x.rule<0∨28<x.rule then 8 else if (x.frm.length:Int)≠premN x.rule then 16 else if x.frm.any (Dq i) then 15 else 0
def grdN(k:Int):Int:=if k=1 then 2 else if k=2 then 3 else if k=3 then 4 else -1
def errG(n:Int)(g:Grd):Int:=
 if grdN g.kind= -1 then 8 else if (g.args.length:Int)≠grdN g.kind then 1 else if g.args.any (Dq n) then 2 else 0
theorem jfb(x:Der)(i:Nat):CallsF Tryz.prog 47 [.agg (x.ds++[.int .i64 i])] (.u (.c (.d (.int .i64 i)))):=by
 obtain⟨f,r,l⟩:=x
 simp only[Der.ds,Fct.ds,List.cons_append,List.nil_append];refine Aj (T:=tb) Ai mixed Tryz.func47 rfl (by decide) (Ah rfl) rfl ?_;unfold St.init
 simp -implicitDefEqProofs[-HX,jJ,-natCast_add,-natCast_mul,-List.reduceReplicate]
theorem jcu(x:Der)(i:Nat)(n:Int)(hx:x.Mild)(hi:i≤1000):CallsF Tryz.prog 19 [.agg (x.ds++[.int .i64 i]),.c (.int .i64 n)] (.u (.c (.d (.int .i64 (errF n i x))))):=by
 have k1:=Ot x.fact hx.1 n;have k2:=X9 x.rule;have k3:=jfB;have k4:=jfb x i;obtain⟨f,r,l⟩:=x;have hl:l.length≤1000:=hx.2;clear hx;unfold errF
 change CallsF _ _ _ (.u (.c (.d (.int .i64 (premN r)))))at k2
 generalize premN r=pr at*;simp only[Der.ds,Fct.ds,List.cons_append,List.nil_append]at*;generalize wrong f n=wf at*;obtain⟨an,han⟩: ∃an,an=l.any (Dq i):=⟨_,rfl⟩;rw[←han];refine Aj (T:=tb) Ai mixed Tryz.func19 rfl (by decide) (Ah rfl) rfl ?_;unfold St.init
 simp -implicitDefEqProofs[-HX,jJ,-natCast_add,-natCast_mul,-List.reduceReplicate]
 (first|refine Ab k1 ?_|refine Aa k1 ?_)
 by_cases h1:wf=0
 ·subst h1;simp -implicitDefEqProofs[-HX,jJ,-natCast_add,-natCast_mul,-List.reduceReplicate];refine Ar (Ac [0,1,3,7,15,31,63,127,31,511,1023]) [.one,.one,.one,.one,.one,.any [] [] (Ak [[2,20],[21,20],[22,20],[20]]),.one,.one] (by rfl) ?_
  by_cases h2:r<0
  ·simp -implicitDefEqProofs[-HX,jJ,-natCast_add,-natCast_mul,-List.reduceReplicate,h2]
  ·simp -implicitDefEqProofs[-HX,jJ,-natCast_add,-natCast_mul,-List.reduceReplicate,h2]
   (first|refine Ab k3 ?_|refine Aa k3 ?_)
   by_cases h3:28<r
   ·simp -implicitDefEqProofs[-HX,jJ,-natCast_add,-natCast_mul,-List.reduceReplicate,h3]
   ·simp -implicitDefEqProofs[-HX,jJ,-natCast_add,-natCast_mul,-List.reduceReplicate,h3];refine Ar (Ac [0,1,3,7,0,16,48,112,255]) [.any [] [] (Ak [[2],[27],[28],[29],[2],[31],[32],[33]]),.one] (by rfl) ?_
    simp -implicitDefEqProofs[-HX,jJ,-natCast_add,-natCast_mul,-List.reduceReplicate]
    (first|refine Ab k2 ?_|refine Aa k2 ?_)
    by_cases h4:(l.length:Int)=pr
    ·simp -implicitDefEqProofs[-HX,jJ,-natCast_add,-natCast_mul,-List.reduceReplicate,h4];refine AA (fun k:Nat=>⟨[(40,vI .i64 k),(39,vI .i64 l.length),(38,vC (.d (intsD l))),(2,vC (.ptr 2 0))],[(2,.box [.d (.int .i64 f.kind),.d (intsD f.args),.d (.bool f.neg),.d (Ag f.abs),.d (Ag f.den),.d (.int .i64 r),.d (intsD l),.d (.int .i64 i)])]⟩)
      (fun k=>k≤l.length∧Di i l k) (fun k=>l.length - k) 0 (by simp[-HX,As,lk,St.le,vI,vC,intsD,h4]) ⟨by omega,Ia _ _⟩ ?_
     rintro k ⟨hk,hno⟩
     by_cases h:k<l.length
     ·have g0:l[k]? =some l[k]:=An h
      by_cases h5:l[k]<0
      ·have ha:an=true:=han.trans (EG h (.inl h5))
       simp -implicitDefEqProofs[-HX,jJ,-natCast_add,-natCast_mul,-List.reduceReplicate,h,g0,i64,h5,ha]
      ·simp -implicitDefEqProofs[-HX,jJ,-natCast_add,-natCast_mul,-List.reduceReplicate,h,g0,i64,h5]
       (first|refine Ab k4 ?_|refine Aa k4 ?_)
       by_cases h6:(i:Int)≤l[k]
       ·have ha:an=true:=han.trans (EG h (.inr h6))
        simp -implicitDefEqProofs[-HX,jJ,-natCast_add,-natCast_mul,-List.reduceReplicate,h6,ha]
       ·simp -implicitDefEqProofs[-HX,jJ,-natCast_add,-natCast_mul,-List.reduceReplicate,h6];exact⟨by omega,⟨by omega,Jf h hno h5 h6⟩,by omega⟩
     ·have hk2:k=l.length:=by omega
      subst hk2;have ha:an=false:=han.trans (H5 hno);simp -implicitDefEqProofs[-HX,jJ,-natCast_add,-natCast_mul,-List.reduceReplicate,ha]
    ·simp -implicitDefEqProofs[-HX,jJ,-natCast_add,-natCast_mul,-List.reduceReplicate,h4]
 ·simp -implicitDefEqProofs[-HX,jJ,-natCast_add,-natCast_mul,-List.reduceReplicate,h1]
theorem ZB(g:Grd)(n:Int)(hg:g.args.length≤1000):CallsF Tryz.prog 20 [.agg g.ds,.c (.int .i64 n)] (.u (.c (.d (.int .i64 (errG n g))))):=by
 obtain⟨k,l⟩:=g
 have hl:l.length≤1000:=hg;clear hg;unfold errG;simp only[Grd.ds];obtain⟨an,han⟩: ∃an,an=l.any (Dq n):=⟨_,rfl⟩;rw[←han];refine Aj (T:=tb) Ai mixed Tryz.func20 rfl (by decide) (Ah rfl) rfl ?_;unfold St.init
 simp -implicitDefEqProofs[-HX,jJ,-natCast_add,-natCast_mul,-List.reduceReplicate];by_cases h1:k=1∨k=2∨k=3
 ·rcases h1 with rfl|rfl|rfl
  all_goals
   simp -implicitDefEqProofs[-HX,jJ,-natCast_add,-natCast_mul,-List.reduceReplicate,grdN];refine⟨fun a b=>absurd b a,fun hm=> ?_⟩
   refine AA (fun k:Nat=>⟨[(24,vI .i64 k),(23,vI .i64 l.length),(22,vC (.d (intsD l))),(1,vI .i64 n)],[]⟩)
    (fun k=>k≤l.length∧Di n l k) (fun k=>l.length - k) 0 (by simp[-HX,As,lk,St.le,vI,vC]) ⟨by omega,Ia _ _⟩ ?_
   rintro k ⟨hk,hno⟩
   by_cases h:k<l.length
   ·have g0:l[k]? =some l[k]:=An h
    by_cases h5:l[k]<0
    ·have ha:an=true:=han.trans (EG h (.inl h5))
     simp -implicitDefEqProofs[-HX,jJ,-natCast_add,-natCast_mul,-List.reduceReplicate,h,g0,i64,h5,ha];exact hm
    ·by_cases h6:n≤l[k]
     ·have ha:an=true:=han.trans (EG h (.inr h6))
      simp -implicitDefEqProofs[-HX,jJ,-natCast_add,-natCast_mul,-List.reduceReplicate,h,g0,i64,h5,h6,ha];exact hm
     ·simp -implicitDefEqProofs[-HX,jJ,-natCast_add,-natCast_mul,-List.reduceReplicate,h,g0,i64,h5,h6];exact⟨by omega,⟨by omega,Jf h hno h5 h6⟩,by omega⟩
   ·have hk2:k=l.length:=by omega
    subst hk2;have ha:an=false:=han.trans (H5 hno);simp -implicitDefEqProofs[-HX,jJ,-natCast_add,-natCast_mul,-List.reduceReplicate,ha];exact hm
 ·have e1: ¬k=1:=fun h=>h1 (.inl h)
  have e2: ¬k=2:=fun h=>h1 (.inr (.inl h))
  have e3: ¬k=3:=fun h=>h1 (.inr (.inr h))
  simp -implicitDefEqProofs[-HX,jJ,-natCast_add,-natCast_mul,-List.reduceReplicate,grdN,e1,e2,e3]
def G9(x:Der):Bool:=decide (x.frm.length≤20)&&(decide (x.fact.args.length≤20)&&(decide (x.fact.abs.length≤2)&&decide (x.fact.den.length≤2)))
def GT(g:Grd):Bool:=decide (g.args.length≤20)
def Gd(ds:List Der)(gs:List Grd):Bool:=decide (ds.length≤40)&&(decide (gs.length≤20)&&(ds.all G9&&gs.all GT))
def D6{α:Type}(p:α→Bool)(l:List α)(k:Nat):Prop:=(l.take k).all p=true
theorem S4{α:Type}(p:α→Bool)(l:List α):D6 p l 0:=by simp[-HX,D6]
theorem Us{α:Type}{p:α→Bool}{l:List α}{k:Nat}(h:k<l.length)(hk:D6 p l k)(h1:p l[k]=true):D6 p l (k+1):=by
 unfold D6 at*;rw[BX h,List.all_append,hk];simp[-HX,h1]
theorem Q2{α:Type}{p:α→Bool}{l:List α}(h:D6 p l l.length):l.all p=true:=by
 unfold D6 at h
 rwa [Cq]at h
theorem UE{α:Type}{p:α→Bool}{l:List α}{k:Nat}(h:k<l.length)(h1:p l[k]=false):l.all p=false:=by
 rw[Bool.eq_false_iff]
 intro hc;rw[jzy]at hc;rw[hc _ (AK h)]at h1;cases h1
theorem jeO(ds:List Der)(gs:List Grd):CallsF Tryz.prog 6 [.agg [Ds ds,AR gs]] (.u (.c (.d (.bool (Gd ds gs))))):=by
 obtain⟨r,hr⟩: ∃r,r=Gd ds gs:=⟨_,rfl⟩
 rw[←hr]
 unfold Gd at hr;refine Aj (T:=tb) Ai mixed Tryz.func6 rfl (by decide) (Ah rfl) rfl ?_;unfold St.init
 simp only[Ds,AR]at*;by_cases h40:ds.length≤40
 case neg=>
  have e1:40<ds.length:=by omega
  rw[decide_eq_false h40,Bool.false_and]at hr
  subst hr;simp -implicitDefEqProofs[-HX,jJ,-natCast_add,-natCast_mul,-List.reduceReplicate,e1]
 by_cases h20:gs.length≤20
 case neg=>
  have e1: ¬40<ds.length:=by omega
  have e2:20<gs.length:=by omega
  rw[decide_eq_false h20,Bool.false_and,Bool.and_false]at hr
  subst hr;simp -implicitDefEqProofs[-HX,jJ,-natCast_add,-natCast_mul,-List.reduceReplicate,e1,e2]
 have e1: ¬40<ds.length:=by omega
 have e2: ¬20<gs.length:=by omega
 rw[decide_eq_true h40,decide_eq_true h20,Bool.true_and,Bool.true_and]at hr
 simp -implicitDefEqProofs[-HX,jJ,-natCast_add,-natCast_mul,-List.reduceReplicate,e1,e2];refine AA (fun i:Nat=>⟨[(3,vI .i64 i),(1,vC (.ptr 1 0))],[(1,.box [.d (.slice ds.length (ds.flatMap Der.ds)),.d (.slice gs.length (gs.flatMap Grd.ds))])]⟩)
  (fun i=>i≤ds.length∧D6 G9 ds i) (fun i=>ds.length - i) 0 (by simp[-HX,As,lk,St.le,vI,vC]) ⟨by omega,S4 _ _⟩ ?_
 rintro i ⟨hi,he⟩
 by_cases h:i<ds.length
 ·have g:=LM ds i h;have b1:i*7+7≤ds.length*7:=by omega
  have hs:=fun q=>Us h he q
  have hn:=fun q=>UE h (p:=G9) q
  have hX:G9 ds[i]=(decide (ds[i].frm.length≤20)&&(decide (ds[i].fact.args.length≤20)&&(decide (ds[i].fact.abs.length≤2)&&decide (ds[i].fact.den.length≤2)))):=rfl
  clear he;generalize ds[i]=x at*;obtain⟨f,rr,l⟩:=x;simp only at*;by_cases c0:l.length≤20
  ·by_cases c1:f.args.length≤20
   ·by_cases c2:f.abs.length≤2
    ·by_cases c3:f.den.length≤2
     ·have d0: ¬20<l.length:=by omega
      have d1: ¬20<f.args.length:=by omega
      have d2: ¬2<f.abs.length:=by omega
      have d3: ¬2<f.den.length:=by omega
      simp -implicitDefEqProofs[-HX,jJ,-natCast_add,-natCast_mul,-List.reduceReplicate,h,g,d0,d1,d2,d3];exact⟨by omega,by omega,⟨by omega,hs (by rw[hX];simp[-HX,c0,c1,c2,c3])⟩,by omega⟩
     ·rw[hn (by rw[hX];simp[-HX,c3]),Bool.false_and]at hr
      subst hr;have d0: ¬20<l.length:=by omega
      have d1: ¬20<f.args.length:=by omega
      have d2: ¬2<f.abs.length:=by omega
      have d3:2<f.den.length:=by omega
      simp -implicitDefEqProofs[-HX,jJ,-natCast_add,-natCast_mul,-List.reduceReplicate,h,g,d0,d1,d2,d3];omega
    ·rw[hn (by rw[hX];simp[-HX,c2]),Bool.false_and]at hr
     subst hr;have d0: ¬20<l.length:=by omega
     have d1: ¬20<f.args.length:=by omega
     have d2:2<f.abs.length:=by omega
     simp -implicitDefEqProofs[-HX,jJ,-natCast_add,-natCast_mul,-List.reduceReplicate,h,g,d0,d1,d2];omega
   ·rw[hn (by rw[hX];simp[-HX,c1]),Bool.false_and]at hr
    subst hr;have d0: ¬20<l.length:=by omega
    have d1:20<f.args.length:=by omega
    simp -implicitDefEqProofs[-HX,jJ,-natCast_add,-natCast_mul,-List.reduceReplicate,h,g,d0,d1];omega
  ·rw[hn (by rw[hX];simp[-HX,c0]),Bool.false_and]at hr
   subst hr;have d0:20<l.length:=by omega
   simp -implicitDefEqProofs[-HX,jJ,-natCast_add,-natCast_mul,-List.reduceReplicate,h,g,d0];omega
 ·have hi2:i=ds.length:=by omega
  subst hi2;rw[Q2 he,Bool.true_and]at hr;simp -implicitDefEqProofs[-HX,jJ,-natCast_add,-natCast_mul,-List.reduceReplicate];refine AA (fun i:Nat=>⟨[(5,vI .i64 i),(1,vC (.ptr 1 0))],[(1,.box [.d (.slice ds.length (ds.flatMap Der.ds)),.d (.slice gs.length (gs.flatMap Grd.ds))])]⟩)
   (fun i=>i≤gs.length∧D6 GT gs i) (fun i=>gs.length - i) 0 (by simp[-HX,As,lk,St.le,vI,vC]) ⟨by omega,S4 _ _⟩ ?_
  rintro i ⟨hi,he⟩
  by_cases h:i<gs.length
  ·have g:=Fj gs i h;have b1:i*2+2≤gs.length*2:=by omega
   have hs:=fun q=>Us h he q
   have hn:=fun q=>UE h (p:=GT) q
   have g1:(gs.flatMap Grd.ds)[i*2+1]? =some (intsD gs[i].args):=by
    have:=congrArg (fun l:List D=>l[1]?) (TC gs i h)
    simpa [List.getElem?_take,List.getElem?_drop,Grd.ds]using this
   have hX:GT gs[i]=decide (gs[i].args.length≤20):=rfl
   clear he;generalize gs[i]=x at*;obtain⟨k,l⟩:=x;simp only at*;by_cases c0:l.length≤20
   ·have d0: ¬20<l.length:=by omega
    simp -implicitDefEqProofs[-HX,jJ,-natCast_add,-natCast_mul,-List.reduceReplicate,h,g,g1,d0];exact⟨by omega,⟨by omega,hs (by rw[hX];simp[-HX,c0])⟩,by omega⟩
   ·rw[hn (by rw[hX];simp[-HX,c0])]at hr
    subst hr;have d0:20<l.length:=by omega
    simp -implicitDefEqProofs[-HX,jJ,-natCast_add,-natCast_mul,-List.reduceReplicate,h,g,g1,d0]
  ·have hi2:i=gs.length:=by omega
   subst hi2;rw[Q2 he]at hr;subst hr;simp -implicitDefEqProofs[-HX,jJ,-natCast_add,-natCast_mul,-List.reduceReplicate]
end Go.Va
namespace Go.Va
open Go.Proofs Go.ChangeShapes Go.WideShapes Go.ChangeAt Go.RowKit
theorem jaA{E:Type}{n:Nat}(hn:0<n){ds:E→List D}(hds: ∀e,(ds e).length=n)(l:List E)(j:Nat):(l.flatMap ds)[j]? =(l[j/n]?).bind fun f=>(ds f)[j%n]? :=by
 have e:j=j/n*n+j%n:=by rw[Nat.mul_comm];exact(Nat.div_add_mod j n).symm
 have hm:=Nat.mod_lt j hn;have h1:(l.flatMap ds)[j]? =((l.flatMap ds).drop (j/n*n))[j%n]? :=by
  rw[List.getElem?_drop]
  congr 1
 rw[h1,Ez hds]
 by_cases h:j/n<l.length
 ·rw[Be h,An h,List.flatMap_cons,List.getElem?_append_left (by rw[hds];exact hm)]
  rfl
 ·rw[List.drop_eq_nil_of_le (by omega),Dn (l:=l) (by omega)]
  rfl
section
variable {H:Type} {enc:TypeId×Value→H} {w:World} {base:Nat} {sp:Nat→Bool} {hd:Bool}
theorem U4{E:Type}[Inhabited E]{n:Nat}(hn:0<n){ds:E→List D}(hds: ∀e,(ds e).length=n){Q:E→Prop}{tE tS:TypeId}(hu:Tryz.prog.underlying tS=some (.slice tE))(hcell:Tryz.prog.cellsOf tE=n)
  (he: ∀{fuel:Nat} {cs:List Value} {x:DataW H×List MemPlace},cs.length=n→DataW.trod enc Tryz.prog w base sp hd fuel tE cs=some x→ ∃f:E,Q f∧ ∀(j:Nat) (x:D) (u:Value),(ds f)[j]? =some x→cs[j]? =some u→RepD w Z0 x u)
  {fuel:Nat} {cs:List Value} {x:DataW H×List MemPlace} (h:DataW.trod enc Tryz.prog w base sp hd fuel tS cs=some x):
  ∃(l:List E) (v:Value),(∀f∈l,Q f)∧cs=[v]∧RepD w Z0 (.slice l.length (l.flatMap ds)) v:=by
 rcases Go.Deep.open_slice hu h with⟨e,_⟩|⟨a,len,cap,m,k,DD,Pl,e,_,h1,h2,h3,_,h4⟩
 ·exact⟨[],_,by simp,e,.snil⟩
 ·have hm:len≤m:=by rw[h3];split<;>omega
  rw[hcell]at h4
  have each: ∀i,i<m→ ∃q:E×List Value,Q q.1∧q.2.length=n∧(∀k,k<n→w.cell? ((a.add (i*n)).add k)=q.2[k]?)∧ ∀(j:Nat) (x:D) (u:Value),(ds q.1)[j]? =some x→q.2[j]? =some u→RepD w Z0 x u:=fun i hi=>by
   obtain⟨cs,c1,c2⟩:=h4 i hi
   obtain⟨_,c3,c4⟩:=World.cells?_some c1
   obtain⟨f,f1,f2⟩:=he c3 c2
   exact⟨(f,cs),f1,c3,c4,f2⟩
  obtain⟨q,hq⟩:=Go.Deep.choose_lt each
  have hspot:0<len→a.spot=none:=fun h=>by
   obtain⟨_,q1,q2,_⟩:=hq 0 (by omega)
   have q2:=q2 0 hn;rw[An (by omega)]at q2
   have:=q2
   unfold Addr.add at this;simp only[Nat.zero_mul,if_true]at this;unfold World.cell? at this;split at this
   ·split at this
    ·cases this
    ·rename_i hn
     simpa using hn
   ·cases this
  refine⟨(List.range len).map fun i=>(q i).1,_,fun f hf=> ?_,e,?_⟩
  ·obtain⟨i,hi,rfl⟩:=jzk.1 hf
   exact(hq i (by have:=List.mem_range.1 hi;omega)).1
  ·have hx: ∀(j:Nat) (x:Va.D),((((List.range len).map fun i=>(q i).1)).flatMap ds)[j]? =some x→j/n<len∧(ds (q (j/n)).1)[j%n]? =some x:=fun j x hj=>by
    rw[jaA hn hds,AX]at hj
    by_cases h:j/n<len
    ·rw[List.getElem?_range h]at hj
     exact⟨h,by simpa using hj⟩
    ·rw[Dn (by simpa using h)]at hj
     cases hj
   rw[show((List.range len).map fun i=>(q i).1).length=len by simp]
   have hat: ∀j,j/n<len→w.cell? ⟨a.block,a.off+j,none⟩=some ((q (j/n)).2.getD (j%n) .nilFunc):=fun j hj=>by
    obtain⟨_,q1,q2,_⟩:=hq (j/n) (by omega)
    have hmd:=Nat.mod_lt j hn;have q2:=q2 (j%n) hmd;rw[AW,An (by omega)]
    rw[An (by omega),Go.Deep.add_add]at q2
    have hs:=hspot (Nat.lt_of_le_of_lt (Nat.zero_le _) hj);have:a.add (j/n*n+j%n)=⟨a.block,a.off+j,none⟩:=by
     rw[show j/n*n+j%n=j by rw[Nat.mul_comm];exact Nat.div_add_mod j n]
     unfold Addr.add;split
     ·rename_i h0
      subst h0;obtain⟨b,o,s⟩:=a;simp only at hs;subst hs;rfl
     ·rfl
    rw[←this]
    exact q2
   refine .slice len _ a cap (fun j=>(q (j/n)).2.getD (j%n) .nilFunc) (fun hne=> ?_) h1 h2 (fun j x hj=>hat j (hx j x hj).1) (fun j x hj h=>h) (fun j x hj=> ?_)
   ·obtain⟨x,hx2⟩:=List.exists_mem_of_ne_nil _ hne
    obtain⟨j,hj⟩:=List.getElem?_of_mem hx2
    exact hspot (Nat.lt_of_le_of_lt (Nat.zero_le _) (hx j x hj).1)
   ·obtain⟨hj1,hj2⟩:=hx j x hj
    obtain⟨_,q1,_,q3⟩:=hq (j/n) (by omega)
    refine q3 _ _ _ hj2 ?_;rw[AW,An (by have:=Nat.mod_lt j hn;omega)]
    rfl
theorem some_of{α:Type}{o:Option α}{l:List α}{i:Nat}(h:o=l[i]?)(hi:i<l.length): ∃y,o=some y:=⟨l[i],by rw[h,An hi]⟩
theorem jiv{fuel:Nat}{cs:List Value}{x:DataW H×List MemPlace}(hlen:cs.length=2)(h:DataW.trod enc Tryz.prog w base sp hd fuel 55 cs=some x):
  ∃g:Grd,True∧ ∀(j:Nat) (x:D) (u:Value),g.ds[j]? =some x→cs[j]? =some u→RepD w Z0 x u:=by
 obtain⟨xs,n,_,_,_,hx,hf⟩:=DataW.trod_struct Tryz.underlying55 h
 have hx2:xs.length=2:=hx
 have hc3:Tryz.prog.cellsOf 3=1:=by kernel_rfl
 have hc22:Tryz.prog.cellsOf 43=1:=by kernel_rfl
 obtain⟨c0,c1,rfl⟩: ∃c0 c1,cs=[c0,c1]:=by
  match cs,hlen with
  |[c0,c1],_=>exact⟨c0,c1,rfl⟩
 obtain⟨y0,g0⟩:=some_of (hf 0 _ rfl) (by omega)
 obtain⟨y1,g1⟩:=some_of (hf 1 _ rfl) (by omega)
 simp only[hc3,hc22,List.getElem_toArray,List.getElem_cons_zero,List.getElem_cons_succ,List.drop_zero,List.take_succ_cons,List.take_zero,List.drop_succ_cons]at g0 g1;obtain⟨k,e0,_,_⟩:=DataW.trod_int Tryz.underlying3 g0;obtain⟨l,u1,e1,r1⟩:=KU g1;cases e0;cases e1;refine⟨⟨k,l⟩,trivial,fun j x u hx hu=> ?_⟩
 match j,hx,hu with
 |0,hx,hu=>cases hx;cases hu;exact .int _ _
 |1,hx,hu=>cases hx;cases hu;exact r1
theorem jeL{fuel:Nat}{cs:List Value}{x:DataW H×List MemPlace}(hlen:cs.length=7)(h:DataW.trod enc Tryz.prog w base sp hd fuel 53 cs=some x):
  ∃d:Der,InFact d.fact∧ ∀(j:Nat) (x:D) (u:Value),d.ds[j]? =some x→cs[j]? =some u→RepD w Z0 x u:=by
 obtain⟨xs,n,_,_,_,hx,hf⟩:=DataW.trod_struct Tryz.underlying53 h
 have hx2:xs.length=3:=hx
 have hc3:Tryz.prog.cellsOf 3=1:=by kernel_rfl
 have hc5:Tryz.prog.cellsOf 51=5:=by kernel_rfl
 have hc22:Tryz.prog.cellsOf 43=1:=by kernel_rfl
 obtain⟨c0,c1,c2,c3,c4,c5,c6,rfl⟩: ∃c0 c1 c2 c3 c4 c5 c6,cs=[c0,c1,c2,c3,c4,c5,c6]:=by
  match cs,hlen with
  |[c0,c1,c2,c3,c4,c5,c6],_=>exact⟨c0,c1,c2,c3,c4,c5,c6,rfl⟩
 obtain⟨y0,g0⟩:=some_of (hf 0 _ rfl) (by omega)
 obtain⟨y1,g1⟩:=some_of (hf 1 _ rfl) (by omega)
 obtain⟨y2,g2⟩:=some_of (hf 2 _ rfl) (by omega)
 simp only[hc3,hc5,hc22,List.getElem_toArray,List.getElem_cons_zero,List.getElem_cons_succ,List.drop_zero,List.take_succ_cons,List.take_zero,List.drop_succ_cons]at g0 g1 g2;obtain⟨f,f1,f2⟩:=jiU rfl g0;obtain⟨k,e1,_,_⟩:=DataW.trod_int Tryz.underlying3 g1;obtain⟨l,u1,e2,r2⟩:=KU g2;cases e1;cases e2;refine⟨⟨f,k,l⟩,f1,fun j x u hx hu=> ?_⟩
 match j,hx,hu with
 |0,hx,hu=>exact f2 0 x u hx hu
 |1,hx,hu=>exact f2 1 x u hx hu
 |2,hx,hu=>exact f2 2 x u hx hu
 |3,hx,hu=>exact f2 3 x u hx hu
 |4,hx,hu=>exact f2 4 x u hx hu
 |5,hx,hu=>cases hx;cases hu;exact .int _ _
 |6,hx,hu=>cases hx;cases hu;exact r2
theorem jkU{v:Value}{d:DataW H}{p:List MemPlace}(h:DataW.Trod enc Tryz.prog w base sp hd 25 v d p):
  ∃(ds:List Der) (gs:List Grd),(∀x∈ds,InFact x.fact)∧A.rep w Z0 (.agg [Ds ds,AR gs]) v:=by
 obtain⟨fuel,h⟩:=h
 obtain⟨xs,n,_,_,hlen,hx,hf⟩:=DataW.trod_struct Tryz.underlying25 h
 have hx2:xs.length=2:=hx
 have hc25:Tryz.prog.cellsOf 25=2:=by kernel_rfl
 rw[hc25]at hlen
 have hcd:Tryz.prog.cellsOf 22=1:=by kernel_rfl
 have hcg:Tryz.prog.cellsOf 23=1:=by kernel_rfl
 have hv: ∃c0 c1,v= .agg #[c0,c1]:=by
  cases v with
  |agg cs=>
   obtain⟨l⟩:=cs
   have hl:l.length=2:=hlen
   match l,hl with
   |[c0,c1],_=>exact⟨c0,c1,rfl⟩
  |_=>simp[-HX,Value.cells]at hlen
 obtain⟨c0,c1,rfl⟩:=hv
 have hcs:(Value.agg #[c0,c1]).cells.toList=[c0,c1]:=rfl
 rw[hcs]at hf
 obtain⟨y0,g0⟩:=some_of (hf 0 _ rfl) (by omega)
 obtain⟨y1,g1⟩:=some_of (hf 1 _ rfl) (by omega)
 simp only[hcd,hcg,List.getElem_toArray,List.getElem_cons_zero,List.getElem_cons_succ,List.drop_zero,List.take_succ_cons,List.take_zero,List.drop_succ_cons]at g0 g1
 haveI:Inhabited Der:=⟨⟨⟨0,[],false,[],[]⟩,0,[]⟩⟩
 haveI:Inhabited Grd:=⟨⟨0,[]⟩⟩
 obtain⟨ds,u0,q0,e0,r0⟩:=U4 (n:=7) (by decide) Der.ds_len (Q:=fun x=>InFact x.fact) Tryz.underlying22 (by kernel_rfl) (fun h1 h2=>jeL h1 h2) g0
 obtain⟨gs,u1,_,e1,r1⟩:=U4 (n:=2) (by decide) Grd.ds_len (Q:=fun _=>True) Tryz.underlying23 (by kernel_rfl) (fun h1 h2=>jiv h1 h2) g1
 cases e0;cases e1
 refine⟨ds,gs,q0,[_,_],rfl,rfl,fun j x u hx hu=> ?_⟩
 match j,hx,hu with
 |0,hx,hu=>cases hx;cases hu;exact r0
 |1,hx,hu=>cases hx;cases hu;exact r1
end
theorem jdp{f:FuncId}{fn:Func}{s:ChangeSpec}{laid:List (String×DataW Unit)}(os:Os)(started:os.Started)(H:Type)(enc:TypeId×Value→H)(noInit:Tryz.prog.inits.idxOf? f=none)(hfn:Tryz.prog.funcs[f]? =some fn)(hvars:s.vars=[])
  (hres:fn.resultTypes= #[4]) (hts: ∀t∈fn.params.toList,Tryz.prog.readableRec t=true∧t<Tryz.prog.types.size)
  (hspec: ∀(H:Type) (ds:List (DataW H)),ds.length=fn.params.size→s.fn H ds={ results:=[.lit (.bool true)],args:=ds })
  (witness: ∃(w:World) (tape:Tape) (i:Input),w.os=os∧(w.forCall tape i).Shaped Tryz.prog∧i.vars=[]∧Input.okWide Tryz.prog (w.forCall tape i) .any w.heap.size f i∧
   ((s.pre enc Tryz.prog fn [] false (w.forCall tape i).memory i.args∧laidMetH Tryz.prog laid (w.forCall tape i).memory)∧sizedMet enc Tryz.prog fn (OpenSpec.ofChange s) false (w.forCall tape i).memory i.args)∧({}:Assume).holds Tryz.prog (lone (Frame.enter Tryz.prog f i.args .normal) [] (w.forCall tape i)))
  (hc: ∀(W:World) (args:Array Value) (ds:List (DataW H)) (ps:List MemPlace) (base:Nat),(∀(j:Nat) t v,fn.params[j]? =some t→args[j]? =some v→Value.okWide Tryz.prog W .any base t v)→DataW.TrodAll enc Tryz.prog W 0 (fun _=>true) true fn.params.toList args.toList ds ps→
   Calls Tryz.prog f args W fun e W'=>e= .returned (.bool true)∧Below W.heap.size W W'):
  ReturnsInHanded {} Tryz.checked os f .any (fun w args=>(s.pre enc Tryz.prog fn [] false w args∧laidMetH Tryz.prog laid w)∧sizedMet enc Tryz.prog fn (OpenSpec.ofChange s) false w args) (s.post enc Tryz.prog fn false true false false):=by
 refine returnsInHanded_of_change_and (C:=Tryz.checked) (X:=fun w _=>laidMetH Tryz.prog laid w) (fun _ _ _ hh h=>h.of_heap hh) Yn started noInit hfn witness ?_
 intro W base args ds gs before hval hW _ _ _ _;have hW':=hW;obtain⟨p,q,hA,hV,rfl,hfz,hnd⟩:=hW;rw[hvars]at hV;obtain⟨rfl,rfl⟩:=trodVars_none hV;have hlen: ∀{ts:List TypeId} {vs:List Value} {ds:List (DataW H)} {ps:List MemPlace},DataW.TrodAll enc Tryz.prog W 0 (fun _=>true) true ts vs ds ps→ds.length=ts.length:=by
  intro ts
  induction ts with
  |nil=>intro vs ds ps h;obtain⟨_,rfl,_⟩:=trodAll_nil h;rfl
  |cons t ts ih=>intro vs ds ps h;obtain⟨v,vs',d,ds',p,q,rfl,rfl,rfl,h1,h2⟩:=trodAll_cons h;simp[-HX,ih h2]
 have hsp:s.fn H (ds++[])={ results:=[.lit (.bool true)],args:=ds }:=by
  rw[List.append_nil]
  exact hspec H ds (by simpa using hlen hA)
 refine(hc W args ds p base hval hA).mono fun e W' ⟨he,hb⟩=> ?_
 subst he;refine⟨_,rfl,ds,[],p++[],[],p,[],hW',?_,?_,?_,?_,fun h=>by cases h⟩
 ·rw[hsp,hres]
  exact trodAll_cons_mk (shut_bool Tryz.underlying4 _) trodAll_mk0
 ·rw[hsp]
  exact Sb jkO hb hts hA (fun x hx=>by
   have:=hW'.lt x (by simpa using hx)
   exact this)
 ·rw[hvars,hsp];rfl
 ·exact hb.frame _
end Go.Va
