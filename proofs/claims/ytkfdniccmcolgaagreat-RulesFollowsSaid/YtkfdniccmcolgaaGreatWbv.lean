/- a part of the proof -/
import Derived.Test.YtkfdniccmcolgaaGreatWbs
import Derived.Test.YtkfdniccmcolgaaGreatWbu
import Derived.Test.YtkfdniccmcolgaaGreatWbl
set_option linter.all false
set_option maxHeartbeats 4000000
set_option maxRecDepth 10000
namespace Go.Va
open Int (natCast_add natCast_mul natCast_emod natCast_ediv natCast_pow)
open Go.Proofs
def TY:List (List Nat):=(Aj [0,0,3,7,0,31])
@[simp]def RT:List Seg:=[.any [] [] (Ao [[1],[9],[22,23],[24],[6]]),.one]
def Jj:List (List Nat):=(Aj [0,0,2,7,15,31,31,127,255,511,31,2047,4095,8191])
@[simp]def JI:List Seg:=[.any [] [] (Ao [[10],[0],[30]]),.one,.one,.any [] [] (Ao [[0,33],[10,33],[34,35,33],[36,33],[37,33],[6,33]]),.one,.one,.one]
def KC:List (List Nat):=(Aj [0,0,2,7,15,31,31,127,255,511,31,2047,4095])
@[simp]def J2:List Seg:=[.any [] [] (Ao [[10],[0],[46]]),.one,.one,.any [] [] (Ao [[0,49],[10,49],[50,51,49],[52,49],[53,49],[6,49]]),.one,.one]
def Ui:List (List Nat):=(Aj [0,0,0,6,15,0,0,96,224,511,0,0,3072,8191,16383])
@[simp]def TW:List Seg:=[.any [] [71,75,79,80] [⟨1,[],[79],[75,79,80],[]⟩,⟨0,[0],[71,79],[71,75,79,80],[]⟩,⟨0,[10],[71,79],[71,75,79,80],[]⟩,⟨0,[72,73],[71,79],[71,75,79,80],[]⟩,⟨3,[71,74],[79],[79,80],[71]⟩,⟨0,[6],[71,75],[71,75,79,80],[]⟩,⟨0,[3],[71,75],[71,75,79,80],[]⟩,⟨0,[76,77],[71,75],[71,75,79,80],[]⟩,⟨1,[78],[71,75],[71,75,80],[]⟩,⟨3,[75,79],[],[],[75]⟩,⟨0,[0],[71,75,79,80],[71,75,79,80],[]⟩,⟨0,[10],[71,75,79,80],[71,75,79,80],[]⟩,⟨0,[81,82],[71,75,79,80],[71,75,79,80],[]⟩],.one,.one]
theorem Kf(F:Fct)(g:List Grd): ∀(p:Nat) (l:List Fnd),p≤l.length→(∀j (hj:j<l.length),j<p→Aw l[j].fact F<0)→BL F g l=l.take p++BL F g (l.drop p)
 |0,l,_,_=>rfl
 |p+1,[],h,_=>by simp at h
 |p+1,a::l,h,hc=>by
  have h0:=hc 0 (by simp) (by omega)
  have ih:=Kf F g p l (by simpa using h) (fun j hj hp=>hc (j+1) (by simpa using hj) (by omega))
  simp only[List.getElem_cons_zero]at h0;rw[BL,if_pos h0,List.take_succ_cons,List.drop_succ_cons,ih];rfl
theorem jcl{F:Fct}{g:List Grd}{l:List Fnd}(hc: ∀j (hj:j<l.length),Aw l[j].fact F<0):BL F g l=l++[⟨F,g⟩]:=by
 rw[Kf F g l.length l (AA _) (fun j hj _=>hc j hj),AZ,List.drop_length]
 rfl
theorem jaI{F:Fct}{g:List Grd}{l:List Fnd}{p:Nat}(h:p<l.length)(hc: ∀j (hj:j<l.length),j<p→Aw l[j].fact F<0)(h0:Aw l[p].fact F=0):BL F g l=if BF g l[p].grds then l.set p ⟨l[p].fact,g⟩ else l:=by
 rw[Kf F g p l (by omega) hc,AD h,BL,if_neg (by omega),if_pos h0]
 split
 ·rw[List.set_eq_take_append_cons_drop,if_pos h]
 ·rw[←AD h,List.take_append_drop]
theorem jey{F:Fct}{g:List Grd}{l:List Fnd}{p:Nat}(h:p<l.length)(hc: ∀j (hj:j<l.length),j<p→Aw l[j].fact F<0)(h0: ¬Aw l[p].fact F<0)(h1: ¬Aw l[p].fact F=0):BL F g l=l.take p++⟨F,g⟩::l.drop p:=by
 rw[Kf F g p l (by omega) hc,AD h,BL,if_neg h0,if_neg h1]
theorem ZR(l:List Fnd)(i:Nat)(h:i<l.length):((l.flatMap Fnd.ds).map C.d|>.drop (i*6)).take 5=[.d (.int .i64 l[i].fact.kind),.d (intsD l[i].fact.args),.d (.bool l[i].fact.neg),.d (Ab l[i].fact.abs),.d (Ab l[i].fact.den)]:=by
 have h1:((l.flatMap Fnd.ds).drop (i*6)).take 6=l[i].ds:=G1 Fnd.ds_len l i h
 have h2:((l.flatMap Fnd.ds).drop (i*6)).take 5=(l[i].ds).take 5:=by rw[←h1,List.take_take];rfl
 rw[←List.map_drop,←List.map_take,h2]
 rfl
theorem Yd(l:List Fnd)(i:Nat)(h:i<l.length):(l.flatMap Fnd.ds)[i*6+5]? =some (grdsD l[i].grds):=by
 rw[Mx l i 5 h (by omega)]
 rfl
theorem TN{F:Fct}(hF:F.Rt): ∀nl:List Fct,(∀x∈nl,x.Rt)→CH F nl=nl.any fun a=>decide (Aw a F=0)
 |[],_=>rfl
 |a::nl,h=>by
  have ih:=TN hF nl fun x hx=>h x (by simp[hx])
  have ha:=h a (by simp)
  unfold CH at ih ⊢;rw[List.any_cons,List.any_cons,ih]
  congr 1
  exact decide_eq_decide.2 ((Et hF ha).trans (eq_comm.trans (Et ha hF).symm))
def GK(g:List Grd):Prop:= ∀x∈g,x.Short∧ -1000≤x.kind∧x.kind≤1000
theorem J6(nl:List Fct)(l:List Fnd)(f:Fct)(g:List Grd)(hnl: ∀x∈nl,x.Rt)(hnn:nl.length≤1000)(hl: ∀x∈l,x.fact.Rt∧GK x.grds)(hll:l.length≤100000000000)(hf:f.Mild)(ho:(normF f).Rt)(hg:GK g)(hgl:g.length≤1000):
  CallsA Tryz.prog 122 6 l.length (l.flatMap Fnd.ds) [.c (fctsD nl),.agg f.ds,.c (grdsD g)] (noteR nl l f g).length ((noteR nl l f g).flatMap Fnd.ds):=by
 have k1:=LE f hf;unfold noteR;generalize hF:normF f=F at*;clear hF hf;have k2:=jhJ F ho.mild;have k3:=fun i (h:i<nl.length)=>JL nl[i] F (hnl _ (Ak h)).mild ho.mild (hnl _ (Ak h)).val ho.val
 have k4:=fun i (h:i<l.length)=>Ot l[i].fact F (hl _ (Ak h)).1.mild ho.mild (hl _ (Ak h)).1.val ho.val
 have k5:=fun i (h:i<l.length)=>JL l[i].fact F (hl _ (Ak h)).1.mild ho.mild (hl _ (Ak h)).1.val ho.val
 have k6:=fun i (h:i<l.length)=>jgG g l[i].grds (fun x hx=>(hg x hx).1) (fun x hx=>((hl _ (Ak h)).2 x hx).1) (by omega) (fun a ha b hb=> .inr ⟨(hg a ha).2.1,(hg a ha).2.2,((hl _ (Ak h)).2 b hb).2.1,((hl _ (Ak h)).2 b hb).2.2⟩)
 have eA:=TN ho nl hnl;rw[eA];clear eA;generalize hB:(nl.any fun a=>decide (Aw a F=0))=B
 simp only[W0]at k6;simp only[Fct.ds,Fct.res]at*;clear hg hl hnl ho;refine Gt (T:=tb) Ad mixed Tryz.func122 rfl (by decide) (Ac rfl) rfl ?_;unfold St.initA
 simp -implicitDefEqProofs[jJ,-natCast_add,-natCast_mul,-List.map_set,-List.reduceReplicate,BK];refine Aa k1 ?_;simp -implicitDefEqProofs[jJ,-natCast_add,-natCast_mul,-List.map_set,-List.reduceReplicate];refine Aa k2 ?_;cases ht:Dd F with
 |true=>
  simp -implicitDefEqProofs[jJ,-natCast_add,-natCast_mul,-List.map_set,-List.reduceReplicate,CV]
 |false=>
  simp only[Bool.false_eq_true,false_or];simp -implicitDefEqProofs[jJ,-natCast_add,-natCast_mul,-List.map_set,-List.reduceReplicate];refine Av (fun i:Nat=>⟨[(9,vI .i64 i),(8,vC (.sl 8 0 0)),(6,vC (.ptr 6 0)),(0,vC (.sl 2000000 0 l.length)),(1,vC (.d (fctsD nl))),(3,vC (.d (grdsD g)))],
   [(6,.box [.d (.int .i64 F.kind),.d (intsD F.args),.d (.bool F.neg),.d (Ab F.abs),.d (Ab F.den)]),(8,.row 6 [] true),(2000000,.row 6 (l.flatMap Fnd.ds) true)]⟩)
   (fun i=>i≤nl.length∧ ∀j (hj:j<nl.length),j<i→Aw nl[j] F≠0) (fun i=>nl.length - i) 0 (by simp[An,lk,St.le,vI,vC]) ⟨by omega,by omega⟩ ?_
  rintro i ⟨hi,hno⟩
  by_cases h:i<nl.length
  ·have k3:=k3 i h;have e2:=DO h;by_cases h0:Aw nl[i] F=0
   ·obtain rfl:B=true:=hB.symm.trans (List.any_eq_true.2 ⟨nl[i],Ak h,by simpa using h0⟩)
    simp -implicitDefEqProofs[jJ,-natCast_add,-natCast_mul,-List.map_set,-List.reduceReplicate,h];refine Af TY RT (by rfl) ?_
    simp -implicitDefEqProofs[jJ,-natCast_add,-natCast_mul,-List.map_set,-List.reduceReplicate,h,e2];refine Aa k3 ?_;simp -implicitDefEqProofs[jJ,-natCast_add,-natCast_mul,-List.map_set,-List.reduceReplicate,h0,CV]
   ·simp -implicitDefEqProofs[jJ,-natCast_add,-natCast_mul,-List.map_set,-List.reduceReplicate,h];refine Af TY RT (by rfl) ?_
    simp -implicitDefEqProofs[jJ,-natCast_add,-natCast_mul,-List.map_set,-List.reduceReplicate,h,e2];refine Aa k3 ?_;simp -implicitDefEqProofs[jJ,-natCast_add,-natCast_mul,-List.map_set,-List.reduceReplicate,h0];exact⟨by omega,⟨by omega,fun j hj hp=>if e:j=i then by subst e;exact h0 else hno j hj (by omega)⟩,by omega⟩
  ·have hi2:i=nl.length:=by omega
   subst hi2;obtain rfl:B=false:=by
    rw[←hB,Bool.eq_false_iff]
    intro hc;obtain⟨a,ha,h0⟩:=List.any_eq_true.1 hc;obtain⟨j,hj,rfl⟩:=List.mem_iff_getElem.1 ha;exact hno j hj hj (by simpa using h0)
   clear hB hno k3 hi h;simp -implicitDefEqProofs[jJ,-natCast_add,-natCast_mul,-List.map_set,-List.reduceReplicate];refine Av (fun i:Nat=>⟨[(10,vI .i64 i),(8,vC (.sl 8 0 0)),(6,vC (.ptr 6 0)),(0,vC (.sl 2000000 0 l.length)),(1,vC (.d (fctsD nl))),(3,vC (.d (grdsD g)))],
    [(6,.box [.d (.int .i64 F.kind),.d (intsD F.args),.d (.bool F.neg),.d (Ab F.abs),.d (Ab F.den)]),(8,.row 6 [] true),(2000000,.row 6 (l.flatMap Fnd.ds) true)]⟩)
    (fun i=>i≤l.length∧ ∀j (hj:j<l.length),j<i→Aw l[j].fact F<0) (fun i=>l.length - i) 0 (by simp[An,lk,St.le,vI,vC]) ⟨by omega,by omega⟩ ?_
   rintro i ⟨hi,hlt⟩
   by_cases h:i<l.length
   ·have k4:=k4 i h;have k5:=k5 i h;have k6:=k6 i h;have g1:=ZR l i h;have g5:=Yd l i h;have b1:i*6+5≤l.length*6:=by omega
    by_cases c1:Aw l[i].fact F<0
    ·simp -implicitDefEqProofs[jJ,-natCast_add,-natCast_mul,-List.map_set,-List.reduceReplicate,h];refine Af Jj JI (by rfl) ?_
     simp -implicitDefEqProofs[jJ,-natCast_add,-natCast_mul,-List.map_set,-List.reduceReplicate,h,g1,b1];refine Aa k4 ?_;simp -implicitDefEqProofs[jJ,-natCast_add,-natCast_mul,-List.map_set,-List.reduceReplicate,c1];exact⟨by omega,⟨by omega,fun j hj hp=>if e:j=i then by subst e;exact c1 else hlt j hj (by omega)⟩,by omega⟩
    ·by_cases c0:Aw l[i].fact F=0
     ·have eI:=jaI (g:=g) h hlt c0;by_cases ce:BF g l[i].grds=true
      ·rw[if_pos ce]at eI
       have st:=SK l i g h;simp -implicitDefEqProofs[jJ,-natCast_add,-natCast_mul,-List.map_set,-List.reduceReplicate,h];refine Af Jj JI (by rfl) ?_
       simp -implicitDefEqProofs[jJ,-natCast_add,-natCast_mul,-List.map_set,-List.reduceReplicate,h,g1,b1];refine Aa k4 ?_;simp -implicitDefEqProofs[jJ,-natCast_add,-natCast_mul,-List.map_set,-List.reduceReplicate,c1];refine Af KC J2 (by rfl) ?_
       simp -implicitDefEqProofs[jJ,-natCast_add,-natCast_mul,-List.map_set,-List.reduceReplicate,h,g1,b1];refine Aa k5 ?_;simp -implicitDefEqProofs[jJ,-natCast_add,-natCast_mul,-List.map_set,-List.reduceReplicate,c0,g5,h];refine Aa k6 ?_;simp -implicitDefEqProofs[jJ,-natCast_add,-natCast_mul,-List.map_set,-List.reduceReplicate,ce,h,st,CV,eI];omega
      ·rw[if_neg ce]at eI
       simp -implicitDefEqProofs[jJ,-natCast_add,-natCast_mul,-List.map_set,-List.reduceReplicate,h];refine Af Jj JI (by rfl) ?_
       simp -implicitDefEqProofs[jJ,-natCast_add,-natCast_mul,-List.map_set,-List.reduceReplicate,h,g1,b1];refine Aa k4 ?_;simp -implicitDefEqProofs[jJ,-natCast_add,-natCast_mul,-List.map_set,-List.reduceReplicate,c1];refine Af KC J2 (by rfl) ?_
       simp -implicitDefEqProofs[jJ,-natCast_add,-natCast_mul,-List.map_set,-List.reduceReplicate,h,g1,b1];refine Aa k5 ?_;simp -implicitDefEqProofs[jJ,-natCast_add,-natCast_mul,-List.map_set,-List.reduceReplicate,c0,g5,h];refine Aa k6 ?_;simp -implicitDefEqProofs[jJ,-natCast_add,-natCast_mul,-List.map_set,-List.reduceReplicate,ce,CV,eI]
     ·have eI:=jey (g:=g) h hlt c1 c0;simp -implicitDefEqProofs[jJ,-natCast_add,-natCast_mul,-List.map_set,-List.reduceReplicate,h];refine Af Jj JI (by rfl) ?_
      simp -implicitDefEqProofs[jJ,-natCast_add,-natCast_mul,-List.map_set,-List.reduceReplicate,h,g1,b1];refine Aa k4 ?_;simp -implicitDefEqProofs[jJ,-natCast_add,-natCast_mul,-List.map_set,-List.reduceReplicate,c1];refine Af KC J2 (by rfl) ?_
      simp -implicitDefEqProofs[jJ,-natCast_add,-natCast_mul,-List.map_set,-List.reduceReplicate,h,g1,b1];refine Aa k5 ?_;simp -implicitDefEqProofs[jJ,-natCast_add,-natCast_mul,-List.map_set,-List.reduceReplicate,c0];refine Af Ui TW (by rfl) ?_
      simp -implicitDefEqProofs[jJ,-natCast_add,-natCast_mul,-List.map_set,-List.reduceReplicate,h,CV];refine⟨by omega,by omega,⟨by omega,by omega⟩,by omega,⟨by omega,by omega⟩,by omega,by omega,by omega,⟨by omega,by omega⟩,?_⟩
      have e6:List.take ((l.length - i)*6) (List.drop (i*6) (l.flatMap Fnd.ds))=(l.drop i).flatMap Fnd.ds:=by
       rw[DZ Fnd.ds_len,AI]
       rw[LN,List.length_drop]
       omega
      refine⟨84,⟨rfl,by rw[eI];simp;omega⟩,?_⟩
      rw[e6,JC Fnd.ds_len,eI]
      simp[Fnd.ds]
   ·have hi2:i=l.length:=by omega
    subst hi2;have eI:=jcl (g:=g) (fun j hj=>hlt j hj hj)
    simp -implicitDefEqProofs[jJ,-natCast_add,-natCast_mul,-List.map_set,-List.reduceReplicate];refine Af Jj JI (by rfl) ?_
    simp -implicitDefEqProofs[jJ,-natCast_add,-natCast_mul,-List.map_set,-List.reduceReplicate];refine Af KC J2 (by rfl) ?_
    simp -implicitDefEqProofs[jJ,-natCast_add,-natCast_mul,-List.map_set,-List.reduceReplicate];refine Af Ui TW (by rfl) ?_
    simp -implicitDefEqProofs[jJ,-natCast_add,-natCast_mul,-List.map_set,-List.reduceReplicate,CV];refine⟨⟨by omega,by omega⟩,⟨by omega,by omega⟩,by omega,⟨by omega,by omega⟩,84,⟨rfl,by rw[eI];simp⟩,?_⟩
    rw[eI]
    simp[Fnd.ds]
def N8:List (List Nat):=(Aj [0,1,3,7,15,31,63,127,255,31,31,1567,3615,8191,16383])
@[simp]def Oj:List Seg:=[.one,.one,.one,.one,.one,.any [] [] (Ao [[9,25],[5,26,25],[27,25],[28,25],[1,25],[8,25],[30,31,25],[32,25]]),.one,.one]
def i16(x:Int):D:= .int .i16 x
def Nmz.ds(b:Nmz):List D:=b.v.map i16
def Nmz.cs(b:Nmz):List C:=b.v.map fun x=> .d (i16 x)
def Nmz.rs(b:Nmz):List RC:=b.v.map fun x=> .d (i16 x)
section
variable (b:Nmz)
@[simp]theorem Nmz.cs_len:b.cs.length=26:=by simp[Nmz.cs,b.h]
@[simp]theorem Nmz.ds_len:b.ds.length=26:=by simp[Nmz.ds,b.h]
@[simp]theorem Nmz.map_ds:b.ds.map C.d=b.cs:=by simp[Nmz.cs,Nmz.ds]
@[simp]theorem Nmz.on_cs(g:Nat→C→C):b.cs.map (C.on g)=b.cs:=by simp[Nmz.cs]
@[simp]theorem Nmz.take_cs:b.cs.take 26=b.cs:=AI (by simp)
@[simp]theorem Nmz.splice_rep(z:C):splice 0 b.cs (List.replicate 26 z)=b.cs:=by simp[splice]
@[simp]theorem Nmz.splice_cs(b':Nmz):splice 0 b.cs b'.cs=b.cs:=by simp[splice,B7]
@[simp]theorem Nmz.toD_cs(ok:Nat→Bool)(h:List (Nat×Blk))(k:Nat):b.cs.mapM (toD ok h k)=some b.ds:=by
 unfold Nmz.cs Nmz.ds
 induction b.v with
 |nil=>rfl
 |cons a r ih=>
  have:toD ok h k (.d (i16 a))=some (i16 a):=by cases k<;>rfl
  simp only[List.map_cons,List.mapM_cons,this,ih];rfl
theorem Nmz.id_cs: ∀c∈b.cs,c.id? =none:=fun c hc=>by
 unfold Nmz.cs at hc;obtain⟨x,_,rfl⟩:=jzk.1 hc;rfl
@[simp]theorem Nmz.reach_cs(h:List (Nat×Blk))(k:Nat):A6 h k b.cs=[]:=QT h k _ b.id_cs
@[simp]theorem Nmz.flatMap_reach(f:C→List Nat)(hf: ∀c,c.id? =none→f c=[]):b.cs.flatMap f=[]:=List.flatMap_eq_nil_iff.2 fun c hc=>hf c (b.id_cs c hc)
@[simp]theorem Nmz.noIds_cs:b.cs.all (fun c=>c.id?.isNone)=true:=jzy.2 fun c hc=>by rw[b.id_cs c hc];rfl
@[simp]theorem Nmz.men_cs(d:Nat):b.cs.any (C.men d)=false:=List.any_eq_false.2 fun c hc=>by simp[C.men,b.id_cs c hc]
@[simp]theorem Nmz.imp_rs(k:Nat):b.rs.map (RC.imp k)=b.cs:=by simp[Nmz.cs,Nmz.rs,RC.imp]
@[simp]theorem Nmz.rows_rs:b.rs.flatMap RC.rows=[]:=by
 rw[List.flatMap_eq_nil_iff]
 intro c hc;obtain⟨x,_,rfl⟩:=jzk.1 hc;rfl
@[simp]theorem Nmz.flat_rs:b.rs.all RC.flat=true:=jzy.2 fun c hc=>by
 obtain⟨x,_,rfl⟩:=jzk.1 hc
 rfl
theorem PY(st:St)(pure:Bool): ∀l:List Int,fitL (fitC st pure) (l.map fun x=>C.d (i16 x)) (l.map fun x=>RC.d (i16 x))
 |[]=>trivial
 |a::l=>⟨⟨fun _=>rfl,rfl⟩,PY st pure l⟩
@[simp]theorem Nmz.fit_rs(st:St)(pure:Bool):fitL (fitC st pure) b.cs b.rs:=PY st pure b.v
theorem Nmz.get_n{k:Nat}(hk:k<26):b.cs[k]? =some (.d (.int .i16 (b.get k))):=by
 have h1:k<b.v.length:=by rw[b.h];omega
 simp[Nmz.cs,Nmz.get,h1,i16]
theorem Nmz.set_n{k:Nat}(hk:k<26)(x:Int):splice k [.d (.int .i16 x)] b.cs=(b.put k x).cs:=by
 have h1:k<b.cs.length:=by rw[b.cs_len];omega
 apply List.ext_getElem?
 intro j;rw[CL _ _ _ (by simp;omega)]
 have h2:k<b.v.length:=by rw[b.h];omega
 simp only[Nmz.cs,Nmz.put,Bw,List.getElem?_set];by_cases e1:j=k
 ·subst e1;simp[h2,i16]
 ·rw[if_neg (by simp;omega),if_neg (by omega)]
end
theorem Nmz.zero_cs:Nmz.zero.cs=List.replicate 26 (.d (.int .i16 (-1))):=by simp[Nmz.cs,Nmz.zero,i16]
def Nmz.Ok(b:Nmz):Prop:= ∀x∈b.v,-1≤x∧x<2000
theorem Nmz.Ok.get{b:Nmz}(h:b.Ok)(k:Nat): -1≤b.get k∧b.get k<2000:=by
 unfold Nmz.get;rcases Nat.lt_or_ge k b.v.length with h1|h1
 ·rw[Ff _ h1];exact h _ (Ak h1)
 ·rw[Lm _ h1];omega
theorem Nmz.Ok.put{b:Nmz}(h:b.Ok)(k:Nat){x:Int}(hx: -1≤x∧x<2000):(b.put k x).Ok:=by
 intro y hy;rcases List.mem_or_eq_of_mem_set hy with h1|h1
 ·exact h y h1
 ·rw[h1];exact hx
theorem Nmz.zero_ok:Nmz.zero.Ok:=fun x hx=>by
 have:x= -1:=List.eq_of_mem_replicate hx
 omega
theorem U3: ∀(ls:List UInt8) (rd:List Int) (n:Nmz),n.Ok→(∀x∈rd,0≤x∧x<2000)→(Be ls rd n).1.Ok
 |[],rd,n,hn,_=>hn
 |c::l,[],n,hn,_=>hn
 |c::l,x::r,n,hn,h=>by
  rw[Be]
  split
  ·exact hn
  ·have hx:=h x (by simp)
   exact U3 l r _ (hn.put _ (by omega)) fun y hy=>h y (by simp[hy])
theorem jcQ{n:Int}(h: -32768≤n∧n≤32767):IntKind.i16.wrap n=n:=by
 have e:IntKind.i16.wrap n=if n%2^16≥2^(16 - 1) then n%2^16 - 2^16 else n%2^16:=by
  unfold IntKind.wrap;simp[IntKind.signed,IntKind.bits]
 rw[e]
 split<;>omega
theorem jer(ls:List UInt8)(rd:List Int)(n:Nmz)(hn:n.Ok)(hl:rd.length≤ls.length)(hc: ∀c∈ls,97≤c.toNat∧c.toNat<123)(hr: ∀x∈rd,0≤x∧x<2000)(hll:ls.length≤1000):
  CallsF Tryz.prog 127 [.c (.str (bs ls)),.c (intsD rd),.agg n.ds] (.tup [.agg (Be ls rd n).1.rs,.c (.d (.bool (Be ls rd n).2))]):=by
 generalize hM:Be ls rd n=M;refine Ae (T:=tb) Ad mixed Tryz.func127 rfl (by decide) (Ac rfl) rfl ?_;unfold St.init
 simp -implicitDefEqProofs[jJ,-natCast_add,-natCast_mul,-natCast_emod,-natCast_ediv,-natCast_pow,-List.map_set,-List.reduceReplicate];refine Av (fun x:Nat×Nmz=>⟨[(8,vI .i64 x.1),(7,vB false),(6,vC (.ptr 6 0)),(5,vC (.ptr 5 0)),(0,vC (.d (.str (bs ls)))),(1,vC (.d (intsD rd)))],[(6,.box (List.replicate 26 (.d (.int .i16 0)))),(5,.box x.2.cs)]⟩)
  (fun x=>x.1≤rd.length∧x.2.Ok∧Be (ls.drop x.1) (rd.drop x.1) x.2=M) (fun x=>rd.length - x.1) (0,n) (by simp[An,lk,St.le,vI,vC]) ⟨by omega,hn,hM⟩ ?_
 rintro⟨i,m⟩ ⟨h1,h2,h3⟩
 simp only at h1 h2 h3;by_cases h:i<rd.length
 ·have hil:i<ls.length:=by omega
  have hci:=hc ls[i] (Ak hil);have hri:=hr rd[i] (Ak h);have g0:(bs ls)[i]? =some ls[i]:=by rw[OK,Ai hil]
  rw[AD hil,AD h,Be]at h3
  obtain⟨k,hk⟩: ∃k,ls[i].toNat=97+k:=⟨ls[i].toNat - 97,by omega⟩
  have hk26:k<26:=by omega
  have g1:=m.get_n hk26;have s1:=m.set_n hk26 rd[i];have gk:=h2.get k;have e1:(((97+k:Nat):Int) - 97)%256=(k:Int):=by omega
  rw[hk,Nat.add_sub_cancel_left]at h3
  have w1:IntKind.i64.wrap (k:Int)=(k:Int):=Hx (by omega)
  have w2:IntKind.i64.wrap (m.get k)=m.get k:=Hx (by omega)
  have w3:IntKind.i16.wrap rd[i]=rd[i]:=jcQ (by omega)
  generalize hv:m.get k=v at*;by_cases c1:0≤v
  ·by_cases c2:v=rd[i]
   ·rw[if_neg (by simp[c2])]at h3
    subst c2;simp -implicitDefEqProofs[jJ,-natCast_add,-natCast_mul,-natCast_emod,-natCast_ediv,-natCast_pow,-List.map_set,-List.reduceReplicate,h,g0,hk,e1,w1];refine⟨hil,?_⟩;refine Af N8 Oj (by rfl) ?_
    simp -implicitDefEqProofs[jJ,-natCast_add,-natCast_mul,-natCast_emod,-natCast_ediv,-natCast_pow,-List.map_set,-List.reduceReplicate,h,g1,w2,c1,i64,w1];exact⟨hk26,by omega,by omega,i+1,m.put k rd[i],⟨rfl,by rw[w3];exact s1⟩,⟨by omega,h2.put _ (by omega),h3⟩,by omega⟩
   ·rw[if_pos ⟨c1,c2⟩]at h3
    simp -implicitDefEqProofs[jJ,-natCast_add,-natCast_mul,-natCast_emod,-natCast_ediv,-natCast_pow,-List.map_set,-List.reduceReplicate,h,g0,hk,e1,w1];refine⟨hil,?_⟩;refine Af N8 Oj (by rfl) ?_
    subst h3;simp -implicitDefEqProofs[jJ,-natCast_add,-natCast_mul,-natCast_emod,-natCast_ediv,-natCast_pow,-List.map_set,-List.reduceReplicate,h,g1,w2,c1,c2,i64,w1];exact hk26
  ·rw[if_neg (fun h=>c1 h.1)]at h3
   simp -implicitDefEqProofs[jJ,-natCast_add,-natCast_mul,-natCast_emod,-natCast_ediv,-natCast_pow,-List.map_set,-List.reduceReplicate,h,g0,hk,e1,w1];refine⟨hil,?_⟩;refine Af N8 Oj (by rfl) ?_
   simp -implicitDefEqProofs[jJ,-natCast_add,-natCast_mul,-natCast_emod,-natCast_ediv,-natCast_pow,-List.map_set,-List.reduceReplicate,h,g1,w2,c1,i64,w1];exact⟨hk26,by omega,by omega,i+1,m.put k rd[i],⟨rfl,by rw[w3];exact s1⟩,⟨by omega,h2.put _ (by omega),h3⟩,by omega⟩
 ·have hi2:i=rd.length:=by omega
  subst hi2;rw[List.drop_length]at h3;have h3:(m,true)=M:=by
   rw[←h3]
   cases List.drop rd.length ls<;>rfl
  subst h3;simp -implicitDefEqProofs[jJ,-natCast_add,-natCast_mul,-natCast_emod,-natCast_ediv,-natCast_pow,-List.map_set,-List.reduceReplicate]
def HC(seg:Bool)(v:Int):List Int:=if seg then [v.tdiv 40,v.tmod 40] else [v]
def argT(q:RPat)(n:Nmz)(i:Nat):List Int:=(q.letters.take i).flatMap fun c=>HC q.seg (n.get (c.toNat - 97))
theorem UM(q:RPat)(n:Nmz):argT q n q.letters.length=argsR q n:=by
 unfold argT argsR HC;rw[AZ]
theorem jgN(q:RPat)(n:Nmz){i:Nat}(h:i<q.letters.length):argT q n (i+1)=argT q n i++HC q.seg (n.get (q.letters[i].toNat - 97)):=by
 unfold argT;rw[AQ h,List.flatMap_append];simp
theorem VP(q:RPat)(n:Nmz)(i:Nat):(argT q n i).length≤2*i:=by
 have: ∀l:List UInt8,(l.flatMap fun c=>HC q.seg (n.get (c.toNat - 97))).length≤2*l.length:=fun l=>by
  induction l with
  |nil=>simp
  |cons c r ih=>
   have:(HC q.seg (n.get (c.toNat - 97))).length≤2:=by unfold HC;split<;>simp
   rw[List.flatMap_cons,List.length_append,List.length_cons];omega
 exact Nat.le_trans (this _) (by rw[AG];omega)
theorem Q7(q:RPat)(n:Nmz)(hn:n.Ok)(hc: ∀c∈q.letters,97≤c.toNat∧c.toNat<123)(hll:q.letters.length≤1000):
  CallsF Tryz.prog 124 [.agg q.ds,.agg n.ds] (.u (.c (.own 1 (argsR q n).length ((argsR q n).map i64)))):=by
 have hlen:=VP q n;rw[←UM];have hsucc:= @jgN q n;have h0:argT q n 0=[]:=rfl;generalize argT q n=A at*;obtain⟨k,ls,sg,num⟩:=q;simp only[RPat.ds]at*;refine Ae (T:=tb) Ad mixed Tryz.func124 rfl (by decide) (Ac rfl) rfl ?_;unfold St.init
 simp -implicitDefEqProofs[jJ,-natCast_add,-natCast_mul,-natCast_emod,-natCast_ediv,-natCast_pow,-List.reduceReplicate];refine BA [(5,32),(5,36)] (fun i:Nat=>⟨[(6,vI .i64 i),(5,vC (.sl 5 0 (A i).length)),(3,vC (.ptr 3 0)),(2,vC (.ptr 2 0))],[(5,.row 1 ((A i).map i64) true),(3,.box n.cs),(2,.box [.d (.int .i64 k),.d (.str (bs ls)),.d (.bool sg),.d (.int .i64 num)])]⟩)
  (fun i=>i≤ls.length) (fun i=>ls.length - i) 0 (by simp[h0]) (by omega) ?_
 rintro i hi
 by_cases h:i<ls.length
 ·have e:=hsucc h;have hm:=hlen i;have hci:=hc ls[i] (Ak h);have g0:(bs ls)[i]? =some ls[i]:=by rw[OK,Ai h]
  obtain⟨j,hj⟩: ∃j,ls[i].toNat=97+j:=⟨ls[i].toNat - 97,by omega⟩
  have hj26:j<26:=by omega
  have g1:=n.get_n hj26;have gj:=hn.get j;have e1:(((97+j:Nat):Int) - 97)%256=(j:Int):=by omega
  rw[hj,Nat.add_sub_cancel_left]at e
  generalize n.get j=v at*;have w1:IntKind.i64.wrap (j:Int)=(j:Int):=Hx (by omega)
  have w2:IntKind.i64.wrap v=v:=Hx (by omega)
  unfold HC at e;cases sg with
  |true=>
   simp only[if_true]at e;have td: -1≤v.tdiv 40∧v.tdiv 40≤2000:=by
    by_cases h0:0≤v
    ·rw[Int.tdiv_eq_ediv_of_nonneg h0];omega
    ·obtain rfl:v= -1:=by omega
     decide
   simp -implicitDefEqProofs[jJ,-natCast_add,-natCast_mul,-natCast_emod,-natCast_ediv,-natCast_pow,-List.reduceReplicate,h,g0,hj,e1,g1,w1,w2];exact⟨hj26,by omega,⟨by omega,by omega⟩,by omega,i+1,⟨⟨rfl,by rw[e];simp⟩,by rw[e];simp[i64]⟩,by omega,by omega⟩
  |false=>
   simp only[Bool.false_eq_true,if_false]at e;simp -implicitDefEqProofs[jJ,-natCast_add,-natCast_mul,-natCast_emod,-natCast_ediv,-natCast_pow,-List.reduceReplicate,h,g0,hj,e1,g1,w1,w2];exact⟨hj26,⟨by omega,by omega⟩,by omega,i+1,⟨⟨rfl,by rw[e];simp⟩,by rw[e];simp[i64]⟩,by omega,by omega⟩
 ·have hi2:i=ls.length:=by omega
  subst hi2;simp -implicitDefEqProofs[jJ,-natCast_add,-natCast_mul,-natCast_emod,-natCast_ediv,-natCast_pow,-List.reduceReplicate]
end Go.Va
